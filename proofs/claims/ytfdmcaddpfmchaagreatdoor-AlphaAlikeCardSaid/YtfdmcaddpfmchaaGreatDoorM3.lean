/-
  A part of a proof: the last text of the claim says what is proved, and under which conditions.
-/
import Derived.Test.YtfdmcaddpfmchaaGreatDoorM0
import Derived.Test.YtfdmcaddpfmchaaGreatDoorM2
import Derived.Test.YtfdmcaddpfmchaaGreatDoorM1
set_option linter.unusedSimpArgs false
set_option linter.unusedVariables false
set_option linter.unnecessarySimpa false
/- The functions of the translation as programs of the machine V. Written by gen.py out of the loaded functions. -/
namespace Go.Vm
set_option maxRecDepth 100000
def c277 : VF := { code := .seq (.reg [oO 4 (.mv (.c (.str [])))]) (.seq (.seq (.reg [mO 7 0,oO 8 (.bin .eql (.t 7) (.c (.str []))),mO 9 8,⟨some 10,.mv (.t 1),some (9,false)⟩,⟨some 11,.bin .eql (.t 10) (.c (.str [])),some (9,false)⟩,oO 12 (.pick (.t 9) (.c (.bool true)) (.t 11))]) (.cond (.t 12) (.seq (.reg [mO 13 0,mO 4 13]) (.ret)) (.skip))) (.seq (.seq (.reg [mO 14 1,oO 15 (.len true (.t 14)),oO 16 (.bin .eql (.t 15) (.c (.int .i64 1))),mO 17 16,⟨some 18,.mv (.t 1),some (17,true)⟩,⟨some 19,.ix (.t 18) (.c (.int .i64 0)),some (17,true)⟩,⟨some 20,.bin .lss (.t 19) (.c (.int .u8 128)),some (17,true)⟩,oO 21 (.pick (.t 17) (.t 20) (.c (.bool false)))]) (.cond (.t 21) (.seq (.reg [mO 22 0,mO 23 1,oO 24 (.ix (.t 23) (.c (.int .i64 0))),oO 25 (.call 307 [(.t 22),(.t 24)]),mO 4 25]) (.ret)) (.skip))) (.seq (.seq (.reg [mO 27 1,oO 28 (.call 308 [(.t 27)]),mO 26 28,oO 29 (.ex (.t 26) 0),oO 30 (.ex (.t 26) 1),oO 5 (.al [.bool false,.bool false,.bool false,.bool false,.bool false,.bool false,.bool false,.bool false,.bool false,.bool false,.bool false,.bool false,.bool false,.bool false,.bool false,.bool false,.bool false,.bool false,.bool false,.bool false,.bool false,.bool false,.bool false,.bool false,.bool false,.bool false,.bool false,.bool false,.bool false,.bool false,.bool false,.bool false,.bool false,.bool false,.bool false,.bool false,.bool false,.bool false,.bool false,.bool false,.bool false,.bool false,.bool false,.bool false,.bool false,.bool false,.bool false,.bool false,.bool false,.bool false,.bool false,.bool false,.bool false,.bool false,.bool false,.bool false,.bool false,.bool false,.bool false,.bool false,.bool false,.bool false,.bool false,.bool false,.bool false,.bool false,.bool false,.bool false,.bool false,.bool false,.bool false,.bool false,.bool false,.bool false,.bool false,.bool false,.bool false,.bool false,.bool false,.bool false,.bool false,.bool false,.bool false,.bool false,.bool false,.bool false,.bool false,.bool false,.bool false,.bool false,.bool false,.bool false,.bool false,.bool false,.bool false,.bool false,.bool false,.bool false,.bool false,.bool false,.bool false,.bool false,.bool false,.bool false,.bool false,.bool false,.bool false,.bool false,.bool false,.bool false,.bool false,.bool false,.bool false,.bool false,.bool false,.bool false,.bool false,.bool false,.bool false,.bool false,.bool false,.bool false,.bool false,.bool false,.bool false,.bool false,.bool false,.bool false,.bool false,.bool false,.bool false,.bool false,.bool false,.bool false,.bool false,.bool false,.bool false,.bool false,.bool false,.bool false,.bool false,.bool false,.bool false,.bool false,.bool false,.bool false,.bool false,.bool false,.bool false,.bool false,.bool false,.bool false,.bool false,.bool false,.bool false,.bool false,.bool false,.bool false,.bool false,.bool false,.bool false,.bool false,.bool false,.bool false,.bool false,.bool false,.bool false,.bool false,.bool false,.bool false,.bool false,.bool false,.bool false,.bool false,.bool false,.bool false,.bool false,.bool false,.bool false,.bool false,.bool false,.bool false,.bool false,.bool false,.bool false,.bool false,.bool false,.bool false,.bool false,.bool false,.bool false,.bool false,.bool false,.bool false,.bool false,.bool false,.bool false,.bool false,.bool false,.bool false,.bool false,.bool false,.bool false,.bool false,.bool false,.bool false,.bool false,.bool false,.bool false,.bool false,.bool false,.bool false,.bool false,.bool false,.bool false,.bool false,.bool false,.bool false,.bool false,.bool false,.bool false,.bool false,.bool false,.bool false,.bool false,.bool false,.bool false,.bool false,.bool false,.bool false,.bool false,.bool false,.bool false,.bool false,.bool false,.bool false,.bool false,.bool false,.bool false,.bool false,.bool false,.bool false,.bool false,.bool false,.bool false,.bool false,.bool false,.bool false,.bool false,.bool false,.bool false,.bool false,.bool false,.bool false,.bool false,.bool false] []),nO (.st true 256 (.t 5) (.t 29)),mO 6 30]) (.seq (.reg [mO 31 6]) (.cond (.t 31) (.seq (.reg [mO 32 0,oO 33 (.call 309 [(.t 32),(.t 5)]),mO 4 33]) (.ret)) (.skip)))) (.seq (.reg [mO 34 0,mO 35 1,oO 36 (.call 310 [(.t 34),(.t 35)]),mO 4 36]) (.ret))))),res := [(4,none)] }
def c278 : VF := { code := .seq (.reg [oO 2 (.mv (.c (.str [])))]) (.seq (.reg [oO 3 (.nw 1)]) (.seq (.seq (.reg [oO 4 (.mv (.c (.int .i64 1)))]) (.block 0 (.loop [0,3,4] (.seq (.seq (.reg [mO 5 4,mO 6 0,oO 7 (.len true (.t 6)),oO 8 (.bin .sub (.t 7) (.c (.int .i64 1))),oO 9 (.bin .lss (.t 5) (.t 8))]) (.cond (.t 9) (.skip) (.exit 0))) (.seq (.block 1 (.seq (.seq (.reg [mO 12 0,mO 13 4,oO 14 (.ix (.t 12) (.t 13)),oO 15 (.bin .eql (.t 14) (.c (.int .u8 92))),mO 16 15,⟨some 17,.mv (.t 4),some (16,true)⟩,⟨some 18,.bin .add (.t 17) (.c (.int .i64 1)),some (16,true)⟩,⟨some 19,.mv (.t 0),some (16,true)⟩,⟨some 20,.len true (.t 19),some (16,true)⟩,⟨some 21,.bin .sub (.t 20) (.c (.int .i64 1)),some (16,true)⟩,⟨some 22,.bin .lss (.t 18) (.t 21),some (16,true)⟩,oO 23 (.pick (.t 16) (.t 22) (.c (.bool false)))]) (.cond (.t 23) (.reg [mO 24 4,oO 25 (.bin .add (.t 24) (.c (.int .i64 1))),mO 4 25]) (.skip))) (.reg [mO 26 3,mO 27 0,mO 28 4,oO 29 (.ix (.t 27) (.t 28)),oO 30 (.bl 1 [(.t 29)]),oO 31 (.app 1 (.t 26) (.t 30)),mO 3 31]))) (.reg [mO 10 4,oO 11 (.bin .add (.t 10) (.c (.int .i64 1))),mO 4 11])))))) (.seq (.reg [mO 32 3,oO 33 (.b2s (.t 32)),mO 2 33]) (.ret)))),res := [(2,none)] }
def c279 : VF := { code := .seq (.reg [oO 2 (.mv (.c (.bool false)))]) (.seq (.reg [mO 3 0,oO 4 (.bin .geq (.t 3) (.c (.int .u8 48))),mO 5 4,⟨some 6,.mv (.t 0),some (5,true)⟩,⟨some 7,.bin .leq (.t 6) (.c (.int .u8 57)),some (5,true)⟩,oO 8 (.pick (.t 5) (.t 7) (.c (.bool false))),mO 2 8]) (.ret)),res := [(2,none)] }
def c280 : VF := { code := .seq (.reg [oO 2 (.mv (.c (.int .i64 0))),oO 3 (.mv (.c (.nili)))]) (.seq (.reg [mO 7 0,oO 8 (.call 311 [(.t 7)]),mO 6 8,oO 9 (.ex (.t 6) 0),oO 10 (.ex (.t 6) 1),mO 4 9,mO 5 10]) (.seq (.seq (.reg [mO 11 5,oO 12 (.eqn 1 true (.t 11))]) (.cond (.t 12) (.seq (.reg [mO 13 4,mO 14 0,mO 15 5,oO 16 (.call 312 [(.c (.str [65,116,111,105])),(.t 14),(.c (.int .i64 0)),(.c (.int .i64 0)),(.t 15)]),mO 2 13,mO 3 16]) (.ret)) (.skip))) (.seq (.reg [mO 17 4,mO 2 17,oO 3 (.mv (.c (.nili)))]) (.ret)))),res := [(2,none),(3,none)] }
def c281 : VF := { code := .seq (.reg [oO 1 (.bx (.t 0) []),oO 2 (.mv (.c (.str []))),oO 3 (.mv (.c (.int .i64 0)))]) (.seq (.reg [oO 5 (.ld true 3 (.t 1)),oO 6 (.call 170 [(.t 5)]),mO 4 6]) (.seq (.block 0 (.seq (.reg [mO 8 4,oO 9 (.bin .neq (.t 8) (.c (.int .i64 0))),mO 7 9]) (.cond (.t 7) (.seq (.reg [mO 10 4,oO 2 (.mv (.c (.str []))),mO 3 10]) (.ret)) (.seq (.reg [oO 12 (.fa 0 (.t 1)),oO 13 (.ld false 1 (.t 12)),oO 14 (.bin .eql (.t 13) (.c (.int .i64 1))),mO 11 14]) (.cond (.t 11) (.seq (.reg [oO 15 (.fa 1 (.t 1)),oO 16 (.ld false 1 (.t 15)),oO 17 (.call 313 [(.t 16)]),mO 2 17,oO 3 (.mv (.c (.int .i64 0)))]) (.ret)) (.seq (.reg [oO 19 (.fa 0 (.t 1)),oO 20 (.ld false 1 (.t 19)),oO 21 (.bin .eql (.t 20) (.c (.int .i64 2))),mO 18 21]) (.cond (.t 18) (.seq (.reg [oO 22 (.fa 2 (.t 1)),oO 23 (.ld false 1 (.t 22)),mO 2 23,oO 3 (.mv (.c (.int .i64 0)))]) (.ret)) (.skip)))))))) (.seq (.reg [oO 24 (.fa 2 (.t 1)),oO 25 (.ld false 1 (.t 24)),oO 26 (.call 314 [(.t 25)]),mO 2 26,oO 3 (.mv (.c (.int .i64 0)))]) (.ret)))),res := [(2,none),(3,none)] }
def c282 : VF := { code := .seq (.reg [oO 4 (.mv (.c (.bool false)))]) (.seq (.reg [mO 5 0,mO 6 1,oO 7 (.call 315 [(.t 5),(.t 6)]),mO 4 7]) (.ret)),res := [(4,none)] }
def c283 : VF := { code := .seq (.reg [oO 4 (.mv (.c (.bool false)))]) (.seq (.reg [mO 6 0,mO 7 1,oO 8 (.call 284 [(.t 6),(.c (.int .i64 5)),(.t 7)]),mO 5 8]) (.seq (.seq (.reg [mO 9 5]) (.cond (.t 9) (.reg [mO 10 0,oO 11 (.nc (.t 10)),oO 12 (.fa 1 (.t 11)),oO 13 (.ld false 1 (.t 12)),oO 14 (.bin .add (.t 13) (.c (.int .i64 1))),oO 15 (.nc (.t 10)),oO 16 (.fa 1 (.t 15)),nO (.st false 1 (.t 16) (.t 14))]) (.skip))) (.seq (.reg [mO 17 5,mO 4 17]) (.ret)))),res := [(4,none)] }
def c284 : VF := { code := .seq (.reg [oO 6 (.mv (.c (.bool false)))]) (.seq (.drw [⟨0,[],mO 7 0,false,[]⟩,⟨1,[0],oO 8 (.call 232 [(.t 7)]),true,[]⟩,⟨2,[0,1],mO 9 8,false,[]⟩,⟨3,[0,1,2],⟨some 10,.mv (.t 0),some (9,true)⟩,false,[]⟩,⟨4,(rO 4),⟨some 11,.nc (.t 10),some (9,true)⟩,false,[]⟩,⟨5,(rO 5),⟨some 12,.fa 1 (.t 11),some (9,true)⟩,false,[]⟩,⟨6,(rO 6),⟨some 13,.ld false 1 (.t 12),some (9,true)⟩,false,[]⟩,⟨7,[0,1,2],⟨some 14,.mv (.t 0),some (9,true)⟩,false,[]⟩,⟨8,[0,1,2,7],⟨some 15,.nc (.t 14),some (9,true)⟩,false,[]⟩,⟨9,[0,1,2,7,8],⟨some 16,.fa 0 (.t 15),some (9,true)⟩,false,[]⟩,⟨10,[0,1,2,7,8,9],⟨some 17,.ld false 1 (.t 16),some (9,true)⟩,false,[]⟩,⟨11,[0,1,2,7,8,9,10],⟨some 18,.len false (.t 17),some (9,true)⟩,false,[]⟩,⟨12,(rO 12),⟨some 19,.bin .lss (.t 13) (.t 18),some (9,true)⟩,false,[]⟩,⟨13,(rO 13),oO 20 (.pick (.t 9) (.t 19) (.c (.bool false))),false,[]⟩,⟨14,(rO 14),mO 21 20,false,[]⟩,⟨15,(rO 15),⟨some 22,.mv (.t 0),some (21,true)⟩,false,[]⟩,⟨16,(rO 16),⟨some 23,.nc (.t 22),some (21,true)⟩,false,[]⟩,⟨17,(rO 17),⟨some 24,.fa 0 (.t 23),some (21,true)⟩,false,[]⟩,⟨18,(rO 18),⟨some 25,.ld false 1 (.t 24),some (21,true)⟩,false,[]⟩,⟨19,(rO 15),⟨some 26,.mv (.t 0),some (21,true)⟩,false,[]⟩,⟨20,[0,1,2,3,4,5,6,7,8,9,10,11,12,13,14,19],⟨some 27,.nc (.t 26),some (21,true)⟩,false,[]⟩,⟨21,[0,1,2,3,4,5,6,7,8,9,10,11,12,13,14,19,20],⟨some 28,.fa 1 (.t 27),some (21,true)⟩,false,[]⟩,⟨22,[0,1,2,3,4,5,6,7,8,9,10,11,12,13,14,19,20,21],⟨some 29,.ld false 1 (.t 28),some (21,true)⟩,false,[]⟩,⟨23,(rO 23),⟨some 30,.ia none 4 (.t 25) (.t 29),some (21,true)⟩,false,[]⟩,⟨24,(rO 24),⟨some 31,.fa 0 (.t 30),some (21,true)⟩,false,[]⟩,⟨25,(rO 25),⟨some 32,.ld false 1 (.t 31),some (21,true)⟩,false,[]⟩,⟨26,(rO 15),⟨some 33,.mv (.t 1),some (21,true)⟩,false,[]⟩,⟨27,(rO 27),⟨some 34,.bin .eql (.t 32) (.t 33),some (21,true)⟩,false,[]⟩,⟨28,(rO 28),oO 35 (.pick (.t 21) (.t 34) (.c (.bool false))),false,[]⟩,⟨29,(rO 29),mO 36 35,false,[]⟩,⟨30,(rO 30),⟨some 37,.mv (.t 0),some (36,true)⟩,false,[]⟩,⟨31,(rO 31),⟨some 38,.nc (.t 37),some (36,true)⟩,false,[]⟩,⟨32,(rO 32),⟨some 39,.fa 0 (.t 38),some (36,true)⟩,false,[]⟩,⟨33,(rO 33),⟨some 40,.ld false 1 (.t 39),some (36,true)⟩,false,[]⟩,⟨34,(rO 30),⟨some 41,.mv (.t 0),some (36,true)⟩,false,[]⟩,⟨35,[0,1,2,3,4,5,6,7,8,9,10,11,12,13,14,15,16,17,18,19,20,21,22,23,24,25,26,27,28,29,34],⟨some 42,.nc (.t 41),some (36,true)⟩,false,[]⟩,⟨36,[0,1,2,3,4,5,6,7,8,9,10,11,12,13,14,15,16,17,18,19,20,21,22,23,24,25,26,27,28,29,34,35],⟨some 43,.fa 1 (.t 42),some (36,true)⟩,false,[]⟩,⟨37,[0,1,2,3,4,5,6,7,8,9,10,11,12,13,14,15,16,17,18,19,20,21,22,23,24,25,26,27,28,29,34,35,36],⟨some 44,.ld false 1 (.t 43),some (36,true)⟩,false,[]⟩,⟨38,(rO 38),⟨some 45,.ia none 4 (.t 40) (.t 44),some (36,true)⟩,false,[]⟩,⟨39,(rO 39),⟨some 46,.fa 1 (.t 45),some (36,true)⟩,false,[]⟩,⟨40,(rO 40),⟨some 47,.ld false 1 (.t 46),some (36,true)⟩,false,[]⟩,⟨41,(rO 30),⟨some 48,.mv (.t 2),some (36,true)⟩,false,[]⟩,⟨42,(rO 42),⟨some 49,.bin .eql (.t 47) (.t 48),some (36,true)⟩,false,[]⟩,⟨43,(rO 43),oO 50 (.pick (.t 36) (.t 49) (.c (.bool false))),false,[]⟩,⟨44,(rO 44),mO 6 50,false,[]⟩]) (.ret)),res := [(6,none)] }
def c285 : VF := { code := .seq (.reg [oO 1 (.bx (.t 0) []),oO 2 (.al [.int .i64 0,.str [],.sl .ex 4 [],.int .i64 0,.sl .ex 5 [],.sl .ex 5 []] [])]) (.seq (.seq (.reg [oO 4 (.fa 0 (.t 1)),oO 5 (.ld false 1 (.t 4)),oO 6 (.call 283 [(.t 5),(.c (.str [91]))])]) (.cond (.t 6) (.seq (.reg [oO 7 (.fa 0 (.t 1)),oO 8 (.ld false 1 (.t 7)),oO 9 (.call 316 [(.t 8)]),oO 10 (.bd [.int .i64 0,.str [],.sl .ex 4 [],.int .i64 0,.sl .ex 5 [],.sl .ex 5 []] [(0,1,(.c (.int .i64 3))),(4,1,(.t 9))]),oO 3 (.al [.int .i64 0,.str [],.sl .ex 4 [],.int .i64 0,.sl .ex 5 [],.sl .ex 5 []] []),nO (.st true 6 (.t 3) (.t 10))]) (.seq (.reg [oO 11 (.ld true 1 (.t 1)),oO 12 (.call 317 [(.t 11)]),oO 13 (.fa 3 (.t 3)),nO (.st false 1 (.t 13) (.t 12))]) (.seq (.reg [oO 14 (.fa 0 (.t 1)),oO 15 (.ld false 1 (.t 14)),oO 16 (.call 316 [(.t 15)]),oO 17 (.fa 5 (.t 3)),nO (.st false 1 (.t 17) (.t 16))]) (.seq (.reg [oO 18 (.fa 0 (.t 1)),oO 19 (.ld false 1 (.t 18)),oO 20 (.call 230 [(.t 19),(.c (.str [93]))])]) (.seq (.reg [oO 21 (.ld true 6 (.t 3)),nO (.st true 6 (.t 2) (.t 21))]) (.ret)))))) (.skip))) (.seq (.seq (.reg [oO 22 (.fa 0 (.t 1)),oO 23 (.ld false 1 (.t 22)),oO 24 (.call 234 [(.t 23),(.c (.str [110,111,116]))])]) (.cond (.t 24) (.seq (.reg [oO 25 (.fa 0 (.t 1)),oO 26 (.ld false 1 (.t 25)),oO 27 (.call 237 [(.t 26)]),oO 28 (.bd [.int .i64 0,.str [],.sl .ex 4 [],.int .i64 0,.sl .ex 5 [],.sl .ex 5 []] [(0,1,(.c (.int .i64 2))),(1,2,(.t 27))]),nO (.st true 6 (.t 2) (.t 28))]) (.ret)) (.skip))) (.seq (.reg [oO 29 (.fa 0 (.t 1)),oO 30 (.ld false 1 (.t 29)),oO 31 (.call 237 [(.t 30)]),oO 32 (.bd [.int .i64 0,.str [],.sl .ex 4 [],.int .i64 0,.sl .ex 5 [],.sl .ex 5 []] [(0,1,(.c (.int .i64 1))),(1,2,(.t 31))]),nO (.st true 6 (.t 2) (.t 32))]) (.ret)))),res := [(2,some (true,6))] }
def c286 : VF := { code := .seq (.reg [oO 1 (.bx (.t 0) []),oO 2 (.al [.int .i64 0,.str [],.sl .ex 1 [],.int .i64 0] [])]) (.seq (.seq (.reg [oO 6 (.fa 0 (.t 1)),oO 7 (.ld false 1 (.t 6)),oO 8 (.call 234 [(.t 7),(.c (.str [100,114,111,112]))])]) (.cond (.t 8) (.seq (.reg [oO 9 (.fa 0 (.t 1)),oO 10 (.ld false 1 (.t 9)),oO 11 (.call 231 [(.t 10)]),mO 3 11]) (.seq (.seq (.reg [oO 12 (.fa 0 (.t 1)),oO 13 (.ld false 1 (.t 12)),oO 14 (.call 232 [(.t 13)]),mO 15 14,⟨some 16,.mv (.t 3),some (15,true)⟩,⟨some 17,.bin .lss (.t 16) (.c (.int .i64 0)),some (15,true)⟩,oO 18 (.pick (.t 15) (.t 17) (.c (.bool false)))]) (.cond (.t 18) (.seq (.reg [oO 19 (.fa 0 (.t 1)),oO 20 (.ld false 1 (.t 19)),oO 21 (.nc (.t 20)),oO 22 (.fa 2 (.t 21)),nO (.st false 1 (.t 22) (.c (.bool true)))]) (.reg [oO 23 (.fa 0 (.t 1)),oO 24 (.ld false 1 (.t 23)),oO 25 (.nc (.t 24)),oO 26 (.fa 1 (.t 25)),oO 27 (.ld false 1 (.t 26)),oO 28 (.bin .sub (.t 27) (.c (.int .i64 1))),oO 29 (.nc (.t 24)),oO 30 (.fa 1 (.t 29)),nO (.st false 1 (.t 30) (.t 28))])) (.skip))) (.seq (.reg [mO 31 3,oO 32 (.bd [.int .i64 0,.str [],.sl .ex 1 [],.int .i64 0] [(0,1,(.c (.int .i64 2))),(3,1,(.t 31))]),nO (.st true 4 (.t 2) (.t 32))]) (.ret)))) (.skip))) (.seq (.reg [oO 33 (.fa 0 (.t 1)),oO 34 (.ld false 1 (.t 33)),oO 35 (.call 230 [(.t 34),(.c (.str [43]))])]) (.seq (.reg [oO 36 (.fa 0 (.t 1)),oO 37 (.ld false 1 (.t 36)),oO 38 (.call 229 [(.t 37)]),oO 39 (.bd [.int .i64 0,.str [],.sl .ex 1 [],.int .i64 0] [(0,1,(.c (.int .i64 1))),(1,1,(.t 38))]),oO 4 (.al [.int .i64 0,.str [],.sl .ex 1 [],.int .i64 0] []),nO (.st true 4 (.t 4) (.t 39))]) (.seq (.seq (.reg [oO 40 (.fa 0 (.t 1)),oO 41 (.ld false 1 (.t 40)),oO 42 (.call 283 [(.t 41),(.c (.str [40]))]),oO 43 (.not (.t 42))]) (.cond (.t 43) (.seq (.reg [oO 44 (.ld true 4 (.t 4)),nO (.st true 4 (.t 2) (.t 44))]) (.ret)) (.skip))) (.seq (.drw [⟨0,[],oO 45 (.fa 2 (.t 4)),false,[]⟩,⟨1,[0],oO 46 (.ld false 1 (.t 45)),false,[]⟩,⟨2,[],oO 47 (.fa 0 (.t 1)),false,[]⟩,⟨3,[2],oO 48 (.ld false 1 (.t 47)),false,[]⟩,⟨4,[2,3],oO 49 (.call 316 [(.t 48)]),true,[1]⟩,⟨5,[2,3,4],oO 50 (.bl 1 [(.t 49)]),false,[]⟩,⟨6,(rO 6),oO 51 (.app 1 (.t 46) (.t 50)),true,[]⟩,⟨7,(rO 7),oO 52 (.fa 2 (.t 4)),false,[]⟩,⟨8,(rO 8),nO (.st false 1 (.t 52) (.t 51)),true,[]⟩]) (.seq (.block 0 (.loop [1,2,4] (.seq (.seq (.reg [oO 53 (.fa 0 (.t 1)),oO 54 (.ld false 1 (.t 53)),oO 55 (.call 283 [(.t 54),(.c (.str [44]))])]) (.cond (.t 55) (.skip) (.exit 0))) (.block 1 (.seq (.reg [oO 56 (.fa 0 (.t 1)),oO 57 (.ld false 1 (.t 56)),oO 58 (.call 316 [(.t 57)]),mO 5 58]) (.seq (.reg [oO 59 (.fa 2 (.t 4)),oO 60 (.ld false 1 (.t 59)),oO 61 (.len false (.t 60)),oO 62 (.bin .leq (.t 61) (.c (.int .i64 5)))]) (.cond (.t 62) (.reg [oO 63 (.fa 2 (.t 4)),oO 64 (.ld false 1 (.t 63)),mO 65 5,oO 66 (.bl 1 [(.t 65)]),oO 67 (.app 1 (.t 64) (.t 66)),oO 68 (.fa 2 (.t 4)),nO (.st false 1 (.t 68) (.t 67))]) (.skip)))))))) (.seq (.reg [oO 69 (.fa 0 (.t 1)),oO 70 (.ld false 1 (.t 69)),oO 71 (.call 230 [(.t 70),(.c (.str [41]))])]) (.seq (.reg [oO 72 (.ld true 4 (.t 4)),nO (.st true 4 (.t 2) (.t 72))]) (.ret))))))))),res := [(2,some (true,4))] }
def c287 : VF := { code := .seq (.reg [oO 2 (.al [.str [],.int .i64 0,.int .i64 0,.str []] [])]) (.seq (.seq (.reg [mO 5 0,oO 6 (.call 232 [(.t 5)]),oO 7 (.not (.t 6))]) (.cond (.t 7) (.seq (.reg [oO 8 (.bd [.str [],.int .i64 0,.int .i64 0,.str []] []),nO (.st true 4 (.t 2) (.t 8))]) (.ret)) (.skip))) (.seq (.seq (.drw [⟨0,[],mO 9 0,false,[]⟩,⟨1,[0],oO 10 (.nc (.t 9)),false,[]⟩,⟨2,[0,1],oO 11 (.fa 1 (.t 10)),false,[]⟩,⟨3,[0,1,2],oO 12 (.ld false 1 (.t 11)),false,[]⟩,⟨4,[],mO 13 0,false,[]⟩,⟨5,[4],oO 14 (.nc (.t 13)),false,[]⟩,⟨6,[4,5],oO 15 (.fa 0 (.t 14)),false,[]⟩,⟨7,[4,5,6],oO 16 (.ld false 1 (.t 15)),false,[]⟩,⟨8,[4,5,6,7],oO 17 (.len false (.t 16)),false,[]⟩,⟨9,(rO 9),oO 18 (.bin .lss (.t 12) (.t 17)),false,[]⟩]) (.cond (.t 18) (.seq (.drw [⟨0,[],mO 20 0,false,[]⟩,⟨1,[0],oO 21 (.nc (.t 20)),false,[]⟩,⟨2,[0,1],oO 22 (.fa 0 (.t 21)),false,[]⟩,⟨3,[0,1,2],oO 23 (.ld false 1 (.t 22)),false,[]⟩,⟨4,[],mO 24 0,false,[]⟩,⟨5,[4],oO 25 (.nc (.t 24)),false,[]⟩,⟨6,[4,5],oO 26 (.fa 1 (.t 25)),false,[]⟩,⟨7,[4,5,6],oO 27 (.ld false 1 (.t 26)),false,[]⟩,⟨8,(rO 8),oO 28 (.ia none 4 (.t 23) (.t 27)),false,[]⟩,⟨9,(rO 9),oO 29 (.ld true 4 (.t 28)),false,[]⟩,⟨10,(rO 10),oO 30 (.call 318 [(.t 29)]),false,[]⟩,⟨11,(rO 11),mO 19 30,false,[]⟩,⟨12,(rO 12),oO 31 (.ex (.t 19) 0),false,[]⟩,⟨13,(rO 12),oO 32 (.ex (.t 19) 1),false,[]⟩,⟨14,[],oO 3 (.al [.str [],.int .i64 0,.int .i64 0,.str []] []),true,[3,7,8,9,10]⟩,⟨15,[0,1,2,3,4,5,6,7,8,9,10,11,12,14],nO (.st true 4 (.t 3) (.t 31)),true,[]⟩,⟨16,(rO 16),mO 4 32,false,[]⟩]) (.seq (.reg [mO 33 4]) (.cond (.t 33) (.seq (.reg [mO 34 0,oO 35 (.nc (.t 34)),oO 36 (.fa 1 (.t 35)),oO 37 (.ld false 1 (.t 36)),oO 38 (.bin .add (.t 37) (.c (.int .i64 1))),oO 39 (.nc (.t 34)),oO 40 (.fa 1 (.t 39)),nO (.st false 1 (.t 40) (.t 38))]) (.seq (.reg [oO 41 (.ld true 4 (.t 3)),nO (.st true 4 (.t 2) (.t 41))]) (.ret))) (.skip)))) (.skip))) (.seq (.reg [mO 42 0,oO 43 (.nc (.t 42)),oO 44 (.fa 2 (.t 43)),nO (.st false 1 (.t 44) (.c (.bool true)))]) (.seq (.reg [oO 45 (.bd [.str [],.int .i64 0,.int .i64 0,.str []] []),nO (.st true 4 (.t 2) (.t 45))]) (.ret))))),res := [(2,some (true,4))] }
def c288 : VF := { code := .block 0 (.loop [0] (.block 1 (.seq (.reg [mO 3 0,oO 4 (.call 320 []),oO 5 (.call 319 [(.t 3),(.t 4)]),mO 2 5]) (.seq (.seq (.reg [mO 6 2,oO 7 (.bin .eql (.t 6) (.c (.int .i64 0))),mO 8 7,⟨some 9,.mv (.t 0),some (8,true)⟩,⟨some 10,.nc (.t 9),some (8,true)⟩,⟨some 11,.fa 0 (.t 10),some (8,true)⟩,⟨some 12,.ld false 1 (.t 11),some (8,true)⟩,⟨some 13,.call 283 [(.t 12),(.c (.str [40]))],some (8,true)⟩,⟨some 14,.not (.t 13),some (8,true)⟩,oO 15 (.pick (.t 8) (.t 14) (.c (.bool false)))]) (.cond (.t 15) (.ret) (.skip))) (.reg [mO 16 0,mO 17 0,oO 18 (.nc (.t 17)),oO 19 (.fa 2 (.t 18)),oO 20 (.ld false 1 (.t 19)),mO 21 2,oO 22 (.bd [.int .i64 0,.int .i64 0] [(0,1,(.t 21))]),oO 23 (.bm 2 [(.t 22)]),oO 24 (.am 2 (.t 20) (.t 23)),oO 25 (.nc (.t 16)),oO 26 (.fa 2 (.t 25)),nO (.st false 1 (.t 26) (.t 24))]))))),res := [] }
def c289 : VF := { code := .seq (.reg [oO 3 (.bx (.t 1) [])]) (.drw [⟨0,[],mO 4 0,false,[]⟩,⟨1,[],mO 5 0,false,[]⟩,⟨2,[1],oO 6 (.nc (.t 5)),false,[]⟩,⟨3,[1,2],oO 7 (.fa 1 (.t 6)),false,[]⟩,⟨4,[1,2,3],oO 8 (.ld false 1 (.t 7)),false,[]⟩,⟨5,[],oO 9 (.ld true 5 (.t 3)),false,[]⟩,⟨6,[5],oO 10 (.bl 5 [(.t 9)]),false,[]⟩,⟨7,[1,2,3,4,5,6],oO 11 (.app 5 (.t 8) (.t 10)),true,[]⟩,⟨8,(rO 8),oO 12 (.nc (.t 4)),false,[]⟩,⟨9,(rO 9),oO 13 (.fa 1 (.t 12)),false,[]⟩,⟨10,(rO 10),nO (.st false 1 (.t 13) (.t 11)),true,[]⟩]),res := [] }
def c290 : VF := { code := .seq (.reg [oO 2 (.mv (.c (.bool false)))]) (.seq (.block 0 (.loop [0] (.seq (.seq (.reg [mO 7 0,oO 8 (.nc (.t 7)),oO 9 (.fa 2 (.t 8)),oO 10 (.ld false 1 (.t 9)),oO 11 (.len false (.t 10)),oO 12 (.bin .gtr (.t 11) (.c (.int .i64 0))),mO 13 12,⟨some 14,.mv (.t 0),some (13,true)⟩,⟨some 15,.nc (.t 14),some (13,true)⟩,⟨some 16,.fa 0 (.t 15),some (13,true)⟩,⟨some 17,.ld false 1 (.t 16),some (13,true)⟩,⟨some 18,.call 232 [(.t 17)],some (13,true)⟩,oO 19 (.pick (.t 13) (.t 18) (.c (.bool false)))]) (.cond (.t 19) (.skip) (.exit 0))) (.block 1 (.seq (.drw [⟨0,[],mO 20 0,false,[]⟩,⟨1,[0],oO 21 (.nc (.t 20)),false,[]⟩,⟨2,[0,1],oO 22 (.fa 2 (.t 21)),false,[]⟩,⟨3,[0,1,2],oO 23 (.ld false 1 (.t 22)),false,[]⟩,⟨4,(rO 4),oO 24 (.len false (.t 23)),false,[]⟩,⟨5,(rO 5),oO 25 (.bin .sub (.t 24) (.c (.int .i64 1))),false,[]⟩,⟨6,[],mO 26 0,false,[]⟩,⟨7,[6],oO 27 (.nc (.t 26)),false,[]⟩,⟨8,[6,7],oO 28 (.fa 1 (.t 27)),false,[]⟩,⟨9,[6,7,8],oO 29 (.ld false 1 (.t 28)),false,[]⟩,⟨10,[6,7,8,9],oO 30 (.len false (.t 29)),false,[]⟩,⟨11,[6,7,8,9,10],oO 31 (.bin .sub (.t 30) (.c (.int .i64 1))),false,[]⟩,⟨12,(rO 6),mO 3 25,false,[]⟩,⟨13,(rO 13),mO 4 31,false,[]⟩]) (.seq (.reg [mO 32 0,oO 33 (.nc (.t 32)),oO 34 (.fa 2 (.t 33)),oO 35 (.ld false 1 (.t 34)),mO 36 3,oO 37 (.ia none 2 (.t 35) (.t 36)),oO 38 (.ld true 2 (.t 37)),oO 5 (.al [.int .i64 0,.int .i64 0] []),nO (.st true 2 (.t 5) (.t 38))]) (.seq (.reg [oO 39 (.fa 0 (.t 5)),oO 40 (.ld false 1 (.t 39)),oO 41 (.call 261 [(.t 40)])]) (.block 2 (.seq (.reg [oO 63 (.bin .eql (.t 41) (.c (.int .i64 1))),mO 62 63]) (.cond (.t 62) (.seq (.reg [mO 64 0,oO 65 (.fa 0 (.t 5)),oO 66 (.ld false 1 (.t 65)),mO 67 4,oO 68 (.bd [.int .i64 0,.str [],.sl .ex 4 [],.int .i64 0,.int .i64 0] [(0,1,(.t 66)),(3,1,(.t 67))]),oO 69 (.call 289 [(.t 64),(.t 68)])]) (.reg [mO 70 0,mO 71 0,oO 72 (.nc (.t 71)),oO 73 (.fa 2 (.t 72)),oO 74 (.ld false 1 (.t 73)),mO 75 3,oO 76 (.cut false 2 (.t 74) none (some (.t 75)) none),oO 77 (.nc (.t 70)),oO 78 (.fa 2 (.t 77)),nO (.st false 1 (.t 78) (.t 76))])) (.seq (.reg [oO 80 (.bin .eql (.t 41) (.c (.int .i64 2))),mO 79 80]) (.cond (.t 79) (.seq (.reg [mO 81 0,oO 82 (.nc (.t 81)),oO 83 (.fa 0 (.t 82)),oO 84 (.ld false 1 (.t 83)),oO 85 (.call 230 [(.t 84),(.c (.str [41]))])]) (.seq (.reg [mO 86 0,oO 87 (.fa 0 (.t 5)),oO 88 (.ld false 1 (.t 87)),oO 89 (.fa 1 (.t 5)),oO 90 (.ld false 1 (.t 89)),mO 91 4,oO 92 (.bd [.int .i64 0,.str [],.sl .ex 4 [],.int .i64 0,.int .i64 0] [(0,1,(.t 88)),(3,1,(.t 90)),(4,1,(.t 91))]),oO 93 (.call 289 [(.t 86),(.t 92)])]) (.reg [mO 94 0,mO 95 0,oO 96 (.nc (.t 95)),oO 97 (.fa 2 (.t 96)),oO 98 (.ld false 1 (.t 97)),mO 99 3,oO 100 (.cut false 2 (.t 98) none (some (.t 99)) none),oO 101 (.nc (.t 94)),oO 102 (.fa 2 (.t 101)),nO (.st false 1 (.t 102) (.t 100))]))) (.seq (.reg [mO 42 0,oO 43 (.call 321 []),oO 44 (.call 319 [(.t 42),(.t 43)]),mO 6 44]) (.seq (.seq (.reg [mO 45 6,oO 46 (.bin .eql (.t 45) (.c (.int .i64 0)))]) (.cond (.t 46) (.seq (.reg [mO 47 0,oO 48 (.nc (.t 47)),oO 49 (.fa 0 (.t 48)),oO 50 (.ld false 1 (.t 49)),oO 51 (.nc (.t 50)),oO 52 (.fa 2 (.t 51)),nO (.st false 1 (.t 52) (.c (.bool true)))]) (.seq (.reg [oO 2 (.mv (.c (.bool true)))]) (.ret))) (.skip))) (.seq (.reg [mO 53 0,oO 54 (.nc (.t 53)),oO 55 (.fa 2 (.t 54)),oO 56 (.ld false 1 (.t 55)),mO 57 3,mO 58 6,mO 59 4,oO 60 (.bd [.int .i64 0,.int .i64 0] [(0,1,(.t 58)),(1,1,(.t 59))]),oO 61 (.ia none 2 (.t 56) (.t 57)),nO (.st true 2 (.t 61) (.t 60))]) (.seq (.reg [oO 2 (.mv (.c (.bool false)))]) (.ret))))))))))))))))) (.seq (.reg [oO 2 (.mv (.c (.bool true)))]) (.ret))),res := [(2,none)] }
def c291 : VF := { code := .seq (.reg [oO 2 (.mv (.c (.bool false)))]) (.seq (.reg [mO 3 0,oO 4 (.bin .geq (.t 3) (.c (.int .u8 97))),mO 5 4,⟨some 6,.mv (.t 0),some (5,true)⟩,⟨some 7,.bin .leq (.t 6) (.c (.int .u8 122)),some (5,true)⟩,oO 8 (.pick (.t 5) (.t 7) (.c (.bool false))),mO 9 8,⟨some 10,.mv (.t 0),some (9,false)⟩,⟨some 11,.bin .geq (.t 10) (.c (.int .u8 65)),some (9,false)⟩,⟨some 12,.mv (.t 11),some (9,false)⟩,⟨some 13,.mv (.t 0),some (12,true)⟩,⟨some 14,.bin .leq (.t 13) (.c (.int .u8 90)),some (12,true)⟩,⟨some 15,.pick (.t 12) (.t 14) (.c (.bool false)),some (9,false)⟩,oO 16 (.pick (.t 9) (.c (.bool true)) (.t 15)),mO 17 16,⟨some 18,.mv (.t 0),some (17,false)⟩,⟨some 19,.bin .geq (.t 18) (.c (.int .u8 48)),some (17,false)⟩,⟨some 20,.mv (.t 19),some (17,false)⟩,⟨some 21,.mv (.t 0),some (20,true)⟩,⟨some 22,.bin .leq (.t 21) (.c (.int .u8 57)),some (20,true)⟩,⟨some 23,.pick (.t 20) (.t 22) (.c (.bool false)),some (17,false)⟩,oO 24 (.pick (.t 17) (.c (.bool true)) (.t 23)),mO 25 24,⟨some 26,.mv (.t 0),some (25,false)⟩,⟨some 27,.bin .eql (.t 26) (.c (.int .u8 95)),some (25,false)⟩,oO 28 (.pick (.t 25) (.c (.bool true)) (.t 27)),mO 2 28]) (.ret)),res := [(2,none)] }
def c292 : VF := { code := .seq (.reg [oO 2 (.mv (.c (.bool false)))]) (.seq (.reg [mO 3 0,oO 4 (.bin .geq (.t 3) (.c (.int .u8 97))),mO 5 4,⟨some 6,.mv (.t 0),some (5,true)⟩,⟨some 7,.bin .leq (.t 6) (.c (.int .u8 122)),some (5,true)⟩,oO 8 (.pick (.t 5) (.t 7) (.c (.bool false))),mO 2 8]) (.ret)),res := [(2,none)] }
def c293 : VF := { code := .seq (.reg [oO 2 (.mv (.c (.bool false)))]) (.seq (.reg [mO 3 0,oO 4 (.bin .geq (.t 3) (.c (.int .u8 65))),mO 5 4,⟨some 6,.mv (.t 0),some (5,true)⟩,⟨some 7,.bin .leq (.t 6) (.c (.int .u8 90)),some (5,true)⟩,oO 8 (.pick (.t 5) (.t 7) (.c (.bool false))),mO 2 8]) (.ret)),res := [(2,none)] }
def c294 : VF := { code := .seq (.reg [oO 4 (.nm 4)]) (.seq (.seq (.reg [mO 5 1,oO 6 (.bin .lss (.t 5) (.c (.int .i64 0)))]) (.cond (.t 6) (.reg [oO 7 (.mi 9 (.c (.str [99,97,110,110,111,116,32,98,101,32,110,101,103,97,116,105,118,101]))),nO (.bad)]) (.skip))) (.seq (.seq (.reg [mO 8 1,mO 9 0,oO 10 (.cap (.t 9)),mO 11 0,oO 12 (.len false (.t 11)),oO 13 (.bin .sub (.t 10) (.t 12)),oO 14 (.bin .sub (.t 8) (.t 13)),mO 1 14]) (.seq (.reg [mO 15 1,oO 16 (.bin .gtr (.t 15) (.c (.int .i64 0)))]) (.cond (.t 16) (.reg [mO 17 0,mO 18 0,oO 19 (.cap (.t 18)),oO 20 (.cut false 4 (.t 17) none (some (.t 19)) none),mO 21 1,oO 22 (.az true [.str [],.int .i64 0,.int .i64 0,.str []] (.t 20) (.t 21)),mO 23 0,oO 24 (.len false (.t 23)),oO 25 (.cut false 4 (.t 22) none (some (.t 24)) none),mO 0 25]) (.skip)))) (.seq (.reg [mO 26 0,mO 4 26]) (.ret)))),res := [(4,none)],keepR := true }
def c295 : VF := { code := .seq (.reg [oO 6 (.mv (.c (.int .i64 20)))]) (.seq (.reg [mO 10 6,oO 7 (.mv (.c (.int .i64 0))),mO 8 10]) (.seq (.block 0 (.loop [0,1,2,6,7,8] (.seq (.seq (.reg [mO 11 8,mO 12 1,oO 13 (.bin .leq (.t 11) (.t 12))]) (.cond (.t 13) (.skip) (.exit 0))) (.block 1 (.seq (.reg [mO 14 0,mO 15 7,mO 16 8,mO 17 2,oO 18 (.call 322 [(.t 14),(.t 15),(.t 16),(.t 17)])]) (.seq (.reg [mO 19 8,mO 7 19]) (.reg [mO 20 8,mO 21 6,oO 22 (.bin .add (.t 20) (.t 21)),mO 8 22]))))))) (.seq (.reg [mO 23 0,mO 24 7,mO 25 1,mO 26 2,oO 27 (.call 322 [(.t 23),(.t 24),(.t 25),(.t 26)])]) (.block 2 (.loop [0,1,2,6] (.seq (.seq (.reg [mO 28 6,mO 29 1,oO 30 (.bin .lss (.t 28) (.t 29))]) (.cond (.t 30) (.skip) (.exit 2))) (.block 3 (.seq (.reg [mO 31 6,oO 32 (.bin .mul (.c (.int .i64 2)) (.t 31)),oO 7 (.mv (.c (.int .i64 0))),mO 8 32]) (.seq (.block 4 (.loop [0,1,2,6,7,8] (.seq (.seq (.reg [mO 33 8,mO 34 1,oO 35 (.bin .leq (.t 33) (.t 34))]) (.cond (.t 35) (.skip) (.exit 4))) (.block 5 (.seq (.reg [mO 36 0,mO 37 7,mO 38 7,mO 39 6,oO 40 (.bin .add (.t 38) (.t 39)),mO 41 8,mO 42 2,oO 43 (.call 323 [(.t 36),(.t 37),(.t 40),(.t 41),(.t 42)])]) (.seq (.reg [mO 44 8,mO 7 44]) (.reg [mO 45 8,mO 46 6,oO 47 (.bin .mul (.c (.int .i64 2)) (.t 46)),oO 48 (.bin .add (.t 45) (.t 47)),mO 8 48]))))))) (.seq (.seq (.reg [mO 49 7,mO 50 6,oO 51 (.bin .add (.t 49) (.t 50)),mO 9 51]) (.seq (.reg [mO 52 9,mO 53 1,oO 54 (.bin .lss (.t 52) (.t 53))]) (.cond (.t 54) (.reg [mO 55 0,mO 56 7,mO 57 9,mO 58 1,mO 59 2,oO 60 (.call 323 [(.t 55),(.t 56),(.t 57),(.t 58),(.t 59)])]) (.skip)))) (.reg [mO 61 6,oO 62 (.bin .mul (.t 61) (.c (.int .i64 2))),mO 6 62]))))))))))),res := [] }
def c297 : VF := { code := .seq (.reg [oO 4 (.mv (.c (.int .i64 0)))]) (.seq (.seq (.reg [mO 6 0,oO 7 (.len false (.t 6)),oO 8 (.mv (.c (.int .i64 0)))]) (.block 0 (.loop [0,1,7,8] (.seq (.reg [oO 9 (.bin .lss (.t 8) (.t 7))]) (.seq (.cond (.t 9) (.skip) (.exit 0)) (.seq (.block 1 (.seq (.reg [mO 10 8,mO 5 10]) (.seq (.reg [mO 11 1,mO 12 0,mO 13 5,oO 14 (.ia none 1 (.t 12) (.t 13)),oO 15 (.ld false 1 (.t 14)),oO 16 (.bin .eql (.t 11) (.t 15))]) (.cond (.t 16) (.seq (.reg [mO 17 5,mO 4 17]) (.ret)) (.skip))))) (.reg [oO 18 (.bin .add (.t 8) (.c (.int .i64 1))),mO 8 18]))))))) (.seq (.reg [oO 4 (.mv (.c (.int .i64 (-1))))]) (.ret))),res := [(4,none)] }
def c298 : VF := { code := .seq (.reg [oO 4 (.mv (.c (.int .i64 0)))]) (.seq (.seq (.reg [mO 6 0,oO 7 (.len false (.t 6)),oO 8 (.mv (.c (.int .i64 0)))]) (.block 0 (.loop [0,1,7,8] (.seq (.reg [oO 9 (.bin .lss (.t 8) (.t 7))]) (.seq (.cond (.t 9) (.skip) (.exit 0)) (.seq (.block 1 (.seq (.reg [mO 10 8,mO 5 10]) (.seq (.reg [mO 11 1,mO 12 0,mO 13 5,oO 14 (.ia none 6 (.t 12) (.t 13)),oO 15 (.ld true 6 (.t 14)),oO 16 (.cv (.t 11) [(.t 15)])]) (.cond (.t 16) (.seq (.reg [mO 17 5,mO 4 17]) (.ret)) (.skip))))) (.reg [oO 18 (.bin .add (.t 8) (.c (.int .i64 1))),mO 8 18]))))))) (.seq (.reg [oO 4 (.mv (.c (.int .i64 (-1))))]) (.ret))),res := [(4,none)] }
def c306 : VF := { code := .seq (.reg [oO 4 (.mv (.c (.str []))),oO 5 (.mv (.c (.bool false)))]) (.seq (.seq (.reg [mO 6 0,mO 7 1,oO 8 (.call 315 [(.t 6),(.t 7)]),oO 9 (.not (.t 8))]) (.cond (.t 9) (.seq (.reg [mO 10 0,mO 4 10,oO 5 (.mv (.c (.bool false)))]) (.ret)) (.skip))) (.seq (.reg [mO 11 0,mO 12 1,oO 13 (.len true (.t 12)),oO 14 (.cut true 1 (.t 11) (some (.t 13)) none none),mO 4 14,oO 5 (.mv (.c (.bool true)))]) (.ret))),res := [(4,none),(5,none)] }
def c307 : VF := { code := .seq (.reg [oO 4 (.mv (.c (.str [])))]) (.seq (.block 0 (.loop [0,1] (.seq (.seq (.reg [mO 5 0,oO 6 (.len true (.t 5)),oO 7 (.bin .gtr (.t 6) (.c (.int .i64 0))),mO 8 7,⟨some 9,.mv (.t 0),some (8,true)⟩,⟨some 10,.ix (.t 9) (.c (.int .i64 0)),some (8,true)⟩,⟨some 11,.mv (.t 1),some (8,true)⟩,⟨some 12,.bin .eql (.t 10) (.t 11),some (8,true)⟩,oO 13 (.pick (.t 8) (.t 12) (.c (.bool false)))]) (.cond (.t 13) (.skip) (.exit 0))) (.block 1 (.reg [mO 14 0,oO 15 (.cut true 1 (.t 14) (some (.c (.int .i64 1))) none none),mO 0 15]))))) (.seq (.reg [mO 16 0,mO 4 16]) (.ret))),res := [(4,none)] }
def c308 : VF := { code := .seq (.reg [oO 2 (.al [.bool false,.bool false,.bool false,.bool false,.bool false,.bool false,.bool false,.bool false,.bool false,.bool false,.bool false,.bool false,.bool false,.bool false,.bool false,.bool false,.bool false,.bool false,.bool false,.bool false,.bool false,.bool false,.bool false,.bool false,.bool false,.bool false,.bool false,.bool false,.bool false,.bool false,.bool false,.bool false,.bool false,.bool false,.bool false,.bool false,.bool false,.bool false,.bool false,.bool false,.bool false,.bool false,.bool false,.bool false,.bool false,.bool false,.bool false,.bool false,.bool false,.bool false,.bool false,.bool false,.bool false,.bool false,.bool false,.bool false,.bool false,.bool false,.bool false,.bool false,.bool false,.bool false,.bool false,.bool false,.bool false,.bool false,.bool false,.bool false,.bool false,.bool false,.bool false,.bool false,.bool false,.bool false,.bool false,.bool false,.bool false,.bool false,.bool false,.bool false,.bool false,.bool false,.bool false,.bool false,.bool false,.bool false,.bool false,.bool false,.bool false,.bool false,.bool false,.bool false,.bool false,.bool false,.bool false,.bool false,.bool false,.bool false,.bool false,.bool false,.bool false,.bool false,.bool false,.bool false,.bool false,.bool false,.bool false,.bool false,.bool false,.bool false,.bool false,.bool false,.bool false,.bool false,.bool false,.bool false,.bool false,.bool false,.bool false,.bool false,.bool false,.bool false,.bool false,.bool false,.bool false,.bool false,.bool false,.bool false,.bool false,.bool false,.bool false,.bool false,.bool false,.bool false,.bool false,.bool false,.bool false,.bool false,.bool false,.bool false,.bool false,.bool false,.bool false,.bool false,.bool false,.bool false,.bool false,.bool false,.bool false,.bool false,.bool false,.bool false,.bool false,.bool false,.bool false,.bool false,.bool false,.bool false,.bool false,.bool false,.bool false,.bool false,.bool false,.bool false,.bool false,.bool false,.bool false,.bool false,.bool false,.bool false,.bool false,.bool false,.bool false,.bool false,.bool false,.bool false,.bool false,.bool false,.bool false,.bool false,.bool false,.bool false,.bool false,.bool false,.bool false,.bool false,.bool false,.bool false,.bool false,.bool false,.bool false,.bool false,.bool false,.bool false,.bool false,.bool false,.bool false,.bool false,.bool false,.bool false,.bool false,.bool false,.bool false,.bool false,.bool false,.bool false,.bool false,.bool false,.bool false,.bool false,.bool false,.bool false,.bool false,.bool false,.bool false,.bool false,.bool false,.bool false,.bool false,.bool false,.bool false,.bool false,.bool false,.bool false,.bool false,.bool false,.bool false,.bool false,.bool false,.bool false,.bool false,.bool false,.bool false,.bool false,.bool false,.bool false,.bool false,.bool false,.bool false,.bool false,.bool false,.bool false,.bool false,.bool false,.bool false,.bool false,.bool false,.bool false,.bool false,.bool false,.bool false,.bool false,.bool false,.bool false,.bool false,.bool false] []),oO 3 (.mv (.c (.bool false)))]) (.seq (.seq (.reg [oO 4 (.mv (.c (.int .i64 0)))]) (.block 0 (.loop [0,2,4] (.seq (.seq (.reg [mO 6 4,mO 7 0,oO 8 (.len true (.t 7)),oO 9 (.bin .lss (.t 6) (.t 8))]) (.cond (.t 9) (.skip) (.exit 0))) (.seq (.block 1 (.seq (.reg [mO 12 0,mO 13 4,oO 14 (.ix (.t 12) (.t 13)),mO 5 14]) (.seq (.seq (.reg [mO 15 5,oO 16 (.bin .geq (.t 15) (.c (.int .u8 128)))]) (.cond (.t 16) (.seq (.reg [oO 17 (.ld true 256 (.t 2)),nO (.st true 256 (.t 2) (.t 17)),oO 3 (.mv (.c (.bool false)))]) (.ret)) (.skip))) (.reg [mO 18 5,oO 19 (.ia (some 256) 1 (.t 2) (.t 18)),nO (.st false 1 (.t 19) (.c (.bool true)))])))) (.reg [mO 10 4,oO 11 (.bin .add (.t 10) (.c (.int .i64 1))),mO 4 11])))))) (.seq (.reg [oO 20 (.ld true 256 (.t 2)),nO (.st true 256 (.t 2) (.t 20)),oO 3 (.mv (.c (.bool true)))]) (.ret))),res := [(2,some (true,256)),(3,none)] }
def c309 : VF := { code := .seq (.reg [oO 4 (.mv (.c (.str [])))]) (.seq (.block 0 (.loop [0,1] (.seq (.seq (.reg [mO 5 0,oO 6 (.len true (.t 5)),oO 7 (.bin .gtr (.t 6) (.c (.int .i64 0)))]) (.cond (.t 7) (.skip) (.exit 0))) (.block 1 (.seq (.seq (.reg [mO 8 1,mO 9 0,oO 10 (.ix (.t 9) (.c (.int .i64 0))),oO 11 (.call 325 [(.t 8),(.t 10)]),oO 12 (.not (.t 11))]) (.cond (.t 12) (.exit 0) (.skip))) (.reg [mO 13 0,oO 14 (.cut true 1 (.t 13) (some (.c (.int .i64 1))) none none),mO 0 14])))))) (.seq (.reg [mO 15 0,mO 4 15]) (.ret))),res := [(4,none)] }
def c310 : VF := { code := .seq (.reg [oO 4 (.mv (.c (.str [])))]) (.seq (.block 0 (.loop [0,1] (.seq (.seq (.reg [mO 7 0,oO 8 (.len true (.t 7)),oO 9 (.bin .gtr (.t 8) (.c (.int .i64 0)))]) (.cond (.t 9) (.skip) (.exit 0))) (.block 1 (.seq (.reg [mO 11 0,oO 12 (.call 326 [(.t 11)]),mO 10 12,oO 13 (.ex (.t 10) 0),oO 14 (.ex (.t 10) 1),mO 5 13,mO 6 14]) (.seq (.seq (.reg [mO 15 1,mO 16 5,oO 17 (.call 327 [(.t 15),(.t 16)]),oO 18 (.not (.t 17))]) (.cond (.t 18) (.exit 0) (.skip))) (.reg [mO 19 0,mO 20 6,oO 21 (.cut true 1 (.t 19) (some (.t 20)) none none),mO 0 21]))))))) (.seq (.reg [mO 22 0,mO 4 22]) (.ret))),res := [(4,none)] }
def c311 : VF := { code := .seq (.reg [oO 2 (.mv (.c (.int .i64 0))),oO 3 (.mv (.c (.nili)))]) (.seq (.reg [mO 11 0,oO 12 (.len true (.t 11)),mO 4 12]) (.seq (.seq (.reg [oO 13 (.mv (.c (.bool false))),⟨some 14,.mv (.t 4),some (13,true)⟩,⟨some 15,.bin .lss (.c (.int .i64 0)) (.t 14),some (13,true)⟩,⟨some 16,.mv (.t 15),some (13,true)⟩,⟨some 17,.mv (.t 4),some (16,true)⟩,⟨some 18,.bin .lss (.t 17) (.c (.int .i64 10)),some (16,true)⟩,⟨some 19,.pick (.t 16) (.t 18) (.c (.bool false)),some (13,true)⟩,oO 20 (.pick (.t 13) (.t 19) (.c (.bool false))),mO 21 20,⟨some 22,.mv (.c (.bool true)),some (21,false)⟩,⟨some 23,.mv (.t 4),some (22,true)⟩,⟨some 24,.bin .lss (.c (.int .i64 0)) (.t 23),some (22,true)⟩,⟨some 25,.mv (.t 24),some (22,true)⟩,⟨some 26,.mv (.t 4),some (25,true)⟩,⟨some 27,.bin .lss (.t 26) (.c (.int .i64 19)),some (25,true)⟩,⟨some 28,.pick (.t 25) (.t 27) (.c (.bool false)),some (22,true)⟩,⟨some 29,.pick (.t 22) (.t 28) (.c (.bool false)),some (21,false)⟩,oO 30 (.pick (.t 21) (.c (.bool true)) (.t 29))]) (.cond (.t 30) (.seq (.reg [mO 31 0,mO 5 31]) (.seq (.seq (.reg [mO 32 0,oO 33 (.ix (.t 32) (.c (.int .i64 0))),oO 34 (.bin .eql (.t 33) (.c (.int .u8 45))),mO 35 34,⟨some 36,.mv (.t 0),some (35,false)⟩,⟨some 37,.ix (.t 36) (.c (.int .i64 0)),some (35,false)⟩,⟨some 38,.bin .eql (.t 37) (.c (.int .u8 43)),some (35,false)⟩,oO 39 (.pick (.t 35) (.c (.bool true)) (.t 38))]) (.cond (.t 39) (.seq (.reg [mO 40 0,oO 41 (.cut true 1 (.t 40) (some (.c (.int .i64 1))) none none),mO 0 41]) (.seq (.reg [mO 42 0,oO 43 (.len true (.t 42)),oO 44 (.bin .lss (.t 43) (.c (.int .i64 1)))]) (.cond (.t 44) (.seq (.reg [oO 45 (.mi 341 (.c (.int .i64 2))),oO 2 (.mv (.c (.int .i64 0))),mO 3 45]) (.ret)) (.skip)))) (.skip))) (.seq (.reg [oO 6 (.mv (.c (.int .i64 0)))]) (.seq (.seq (.reg [mO 46 0,oO 47 (.s2b (.t 46)),oO 48 (.len false (.t 47)),oO 49 (.mv (.c (.int .i64 0)))]) (.block 0 (.loop [5,6,47,48,49] (.seq (.reg [oO 50 (.bin .lss (.t 49) (.t 48))]) (.seq (.cond (.t 50) (.skip) (.exit 0)) (.seq (.block 1 (.seq (.reg [oO 51 (.ia none 1 (.t 47) (.t 49)),oO 52 (.ld false 1 (.t 51)),mO 8 52]) (.seq (.reg [mO 53 8,oO 54 (.bin .sub (.t 53) (.c (.int .u8 48))),mO 8 54]) (.seq (.seq (.reg [mO 55 8,oO 56 (.bin .gtr (.t 55) (.c (.int .u8 9)))]) (.cond (.t 56) (.seq (.reg [oO 57 (.mi 341 (.c (.int .i64 2))),oO 2 (.mv (.c (.int .i64 0))),mO 3 57]) (.ret)) (.skip))) (.reg [mO 58 6,oO 59 (.bin .mul (.t 58) (.c (.int .i64 10))),mO 60 8,oO 61 (.wrp .i64 (.t 60)),oO 62 (.bin .add (.t 59) (.t 61)),mO 6 62]))))) (.reg [oO 63 (.bin .add (.t 49) (.c (.int .i64 1))),mO 49 63]))))))) (.seq (.seq (.reg [mO 64 5,oO 65 (.ix (.t 64) (.c (.int .i64 0))),oO 66 (.bin .eql (.t 65) (.c (.int .u8 45)))]) (.cond (.t 66) (.reg [mO 67 6,oO 68 (.neg (.t 67)),mO 6 68]) (.skip))) (.seq (.reg [mO 69 6,mO 2 69,oO 3 (.mv (.c (.nili)))]) (.ret))))))) (.skip))) (.seq (.reg [mO 71 0,oO 72 (.call 328 [(.t 71),(.c (.int .i64 10)),(.c (.int .i64 0))]),mO 70 72,oO 73 (.ex (.t 70) 0),oO 74 (.ex (.t 70) 1),mO 9 73,mO 10 74]) (.seq (.reg [mO 75 9,mO 76 10,mO 2 75,mO 3 76]) (.ret))))),res := [(2,none),(3,none)] }
def c312 : VF := { code := .seq (.reg [oO 10 (.mv (.c (.nili)))]) (.seq (.seq (.reg [mO 11 4]) (.block 0 (.seq (.reg [oO 13 (.mi 341 (.c (.int .i64 2))),oO 14 (.bad),mO 12 14]) (.cond (.t 12) (.seq (.reg [mO 15 0,mO 16 1,oO 17 (.call 329 [(.t 15),(.t 16)]),oO 18 (.mi 344 (.t 17)),mO 10 18]) (.ret)) (.seq (.reg [oO 20 (.mi 341 (.c (.int .i64 1))),oO 21 (.bad),mO 19 21]) (.cond (.t 19) (.seq (.reg [mO 22 0,mO 23 1,oO 24 (.call 330 [(.t 22),(.t 23)]),oO 25 (.mi 344 (.t 24)),mO 10 25]) (.ret)) (.seq (.reg [oO 27 (.mi 341 (.c (.int .i64 3))),oO 28 (.bad),mO 26 28]) (.cond (.t 26) (.seq (.reg [mO 29 0,mO 30 1,mO 31 2,oO 32 (.call 331 [(.t 29),(.t 30),(.t 31)]),oO 33 (.mi 344 (.t 32)),mO 10 33]) (.ret)) (.seq (.reg [oO 35 (.mi 341 (.c (.int .i64 4))),oO 36 (.bad),mO 34 36]) (.cond (.t 34) (.seq (.reg [mO 37 0,mO 38 1,mO 39 3,oO 40 (.call 332 [(.t 37),(.t 38),(.t 39)]),oO 41 (.mi 344 (.t 40)),mO 10 41]) (.ret)) (.skip))))))))))) (.seq (.reg [mO 42 4,mO 10 42]) (.ret))),res := [(10,none)] }
def c313 : VF := { code := .seq (.reg [oO 2 (.mv (.c (.str [])))]) (.seq (.reg [mO 3 0,oO 4 (.call 333 [(.t 3)]),mO 2 4]) (.ret)),res := [(2,none)] }
def c314 : VF := { code := .seq (.reg [oO 2 (.mv (.c (.str [])))]) (.seq (.reg [oO 5 (.bl 1 [(.c (.int .u8 34))]),mO 3 5]) (.seq (.seq (.reg [mO 6 0,oO 7 (.len true (.t 6)),oO 8 (.mv (.c (.int .i64 0)))]) (.block 0 (.loop [0,3,7,8] (.seq (.reg [oO 9 (.bin .lss (.t 8) (.t 7))]) (.seq (.cond (.t 9) (.skip) (.exit 0)) (.seq (.block 1 (.seq (.reg [mO 10 8,mO 4 10]) (.seq (.seq (.reg [mO 11 0,mO 12 4,oO 13 (.ix (.t 11) (.t 12)),oO 14 (.bin .eql (.t 13) (.c (.int .u8 34))),mO 15 14,⟨some 16,.mv (.t 0),some (15,false)⟩,⟨some 17,.mv (.t 4),some (15,false)⟩,⟨some 18,.ix (.t 16) (.t 17),some (15,false)⟩,⟨some 19,.bin .eql (.t 18) (.c (.int .u8 92)),some (15,false)⟩,oO 20 (.pick (.t 15) (.c (.bool true)) (.t 19))]) (.cond (.t 20) (.reg [mO 21 3,oO 22 (.bl 1 [(.c (.int .u8 92))]),oO 23 (.app 1 (.t 21) (.t 22)),mO 3 23]) (.skip))) (.reg [mO 24 3,mO 25 0,mO 26 4,oO 27 (.ix (.t 25) (.t 26)),oO 28 (.bl 1 [(.t 27)]),oO 29 (.app 1 (.t 24) (.t 28)),mO 3 29])))) (.reg [oO 30 (.bin .add (.t 8) (.c (.int .i64 1))),mO 8 30]))))))) (.seq (.reg [mO 31 3,oO 32 (.bl 1 [(.c (.int .u8 34))]),oO 33 (.app 1 (.t 31) (.t 32)),oO 34 (.b2s (.t 33)),mO 2 34]) (.ret)))),res := [(2,none)] }
def c315 : VF := { code := .seq (.reg [oO 4 (.mv (.c (.bool false)))]) (.seq (.reg [mO 5 0,oO 6 (.len true (.t 5)),mO 7 1,oO 8 (.len true (.t 7)),oO 9 (.bin .geq (.t 6) (.t 8)),mO 10 9,⟨some 11,.mv (.t 0),some (10,true)⟩,⟨some 12,.mv (.t 1),some (10,true)⟩,⟨some 13,.len true (.t 12),some (10,true)⟩,⟨some 14,.cut true 1 (.t 11) none (some (.t 13)) none,some (10,true)⟩,⟨some 15,.mv (.t 1),some (10,true)⟩,⟨some 16,.bin .eql (.t 14) (.t 15),some (10,true)⟩,oO 17 (.pick (.t 10) (.t 16) (.c (.bool false))),mO 4 17]) (.ret)),res := [(4,none)] }
def c316 : VF := { code := .seq (.reg [oO 2 (.nw 5)]) (.seq (.seq (.reg [mO 4 0,oO 5 (.call 232 [(.t 4)]),oO 6 (.not (.t 5))]) (.cond (.t 6) (.seq (.reg [oO 2 (.nw 5)]) (.ret)) (.skip))) (.seq (.reg [mO 7 0,oO 8 (.call 334 [(.t 7),(.c (.int .i64 0))]),mO 3 8]) (.seq (.seq (.reg [mO 9 3,oO 10 (.len false (.t 9)),oO 11 (.bin .gtr (.t 10) (.c (.int .i64 15)))]) (.cond (.t 11) (.reg [mO 12 0,oO 13 (.nc (.t 12)),oO 14 (.fa 4 (.t 13)),nO (.st false 1 (.t 14) (.c (.bool true)))]) (.skip))) (.seq (.reg [mO 15 3,mO 2 15]) (.ret))))),res := [(2,none)] }
def c317 : VF := { code := .seq (.reg [oO 1 (.bx (.t 0) []),oO 2 (.mv (.c (.int .i64 0)))]) (.seq (.seq (.reg [oO 5 (.call 335 []),oO 6 (.len false (.t 5)),oO 7 (.mv (.c (.int .i64 0)))]) (.block 0 (.loop [1,5,6,7] (.seq (.reg [oO 8 (.bin .lss (.t 7) (.t 6))]) (.seq (.cond (.t 8) (.skip) (.exit 0)) (.seq (.block 1 (.seq (.reg [mO 9 7,oO 10 (.ia none 1 (.t 5) (.t 7)),oO 11 (.ld false 1 (.t 10)),mO 3 9,mO 4 11]) (.seq (.reg [oO 12 (.fa 0 (.t 1)),oO 13 (.ld false 1 (.t 12)),mO 14 4,oO 15 (.call 283 [(.t 13),(.t 14)])]) (.cond (.t 15) (.seq (.reg [mO 16 3,oO 17 (.bin .add (.c (.int .i64 1)) (.t 16)),mO 2 17]) (.ret)) (.skip))))) (.reg [oO 18 (.bin .add (.t 7) (.c (.int .i64 1))),mO 7 18]))))))) (.seq (.seq (.reg [oO 19 (.fa 0 (.t 1)),oO 20 (.ld false 1 (.t 19)),oO 21 (.call 232 [(.t 20)])]) (.cond (.t 21) (.reg [oO 22 (.fa 0 (.t 1)),oO 23 (.ld false 1 (.t 22)),oO 24 (.nc (.t 23)),oO 25 (.fa 2 (.t 24)),nO (.st false 1 (.t 25) (.c (.bool true)))]) (.skip))) (.seq (.reg [oO 2 (.mv (.c (.int .i64 0)))]) (.ret)))),res := [(2,none)] }
def c318 : VF := { code := .seq (.reg [oO 1 (.bx (.t 0) []),oO 2 (.al [.str [],.int .i64 0,.int .i64 0,.str []] []),oO 3 (.mv (.c (.bool false)))]) (.seq (.seq (.reg [oO 9 (.fa 0 (.t 1)),oO 10 (.ld false 1 (.t 9))]) (.block 0 (.seq (.reg [oO 12 (.bin .eql (.t 10) (.c (.int .i64 2))),mO 11 12]) (.cond (.t 11) (.seq (.drw [⟨0,[],oO 13 (.fa 1 (.t 1)),false,[]⟩,⟨1,[0],oO 14 (.ld false 1 (.t 13)),false,[]⟩,⟨2,[0,1],oO 15 (.bd [.str [],.int .i64 0,.int .i64 0,.str []] [(0,1,(.t 14))]),false,[]⟩,⟨3,[],oO 16 (.fa 1 (.t 1)),false,[]⟩,⟨4,[3],oO 17 (.ld false 1 (.t 16)),false,[]⟩,⟨5,[3,4],oO 18 (.call 239 [(.t 17)]),false,[]⟩,⟨6,(rO 6),nO (.st true 4 (.t 2) (.t 15)),true,[]⟩,⟨7,(rO 7),mO 3 18,false,[]⟩]) (.ret)) (.seq (.reg [oO 20 (.bin .eql (.t 10) (.c (.int .i64 3))),mO 19 20]) (.cond (.t 19) (.seq (.reg [oO 22 (.fa 1 (.t 1)),oO 23 (.ld false 1 (.t 22)),oO 24 (.call 223 [(.t 23)]),mO 21 24,oO 25 (.ex (.t 21) 0),oO 26 (.ex (.t 21) 1),oO 4 (.al [.int .i64 0,.int .i64 0,.str []] []),nO (.st true 3 (.t 4) (.t 25)),mO 5 26]) (.seq (.reg [oO 27 (.ld true 3 (.t 4)),oO 28 (.bd [.str [],.int .i64 0,.int .i64 0,.str []] [(1,3,(.t 27))]),mO 29 5,nO (.st true 4 (.t 2) (.t 28)),mO 3 29]) (.ret))) (.skip))))))) (.seq (.reg [oO 31 (.fa 1 (.t 1)),oO 32 (.ld false 1 (.t 31)),oO 33 (.call 225 [(.t 32)]),mO 30 33,oO 34 (.ex (.t 30) 0),oO 35 (.ex (.t 30) 1),oO 6 (.al [.int .i64 0,.int .i64 0,.str []] []),nO (.st true 3 (.t 6) (.t 34)),mO 7 35]) (.seq (.reg [mO 36 7,oO 37 (.bin .eql (.t 36) (.c (.int .i64 0))),mO 38 37,⟨some 39,.fa 0 (.t 1),some (38,true)⟩,⟨some 40,.ld false 1 (.t 39),some (38,true)⟩,⟨some 41,.bin .eql (.t 40) (.c (.int .i64 1)),some (38,true)⟩,⟨some 42,.mv (.t 41),some (38,true)⟩,⟨some 43,.fa 0 (.t 6),some (42,true)⟩,⟨some 44,.ld false 1 (.t 43),some (42,true)⟩,⟨some 45,.bin .eql (.t 44) (.c (.int .i64 2)),some (42,true)⟩,⟨some 46,.pick (.t 42) (.t 45) (.c (.bool false)),some (38,true)⟩,⟨some 47,.mv (.t 46),some (38,true)⟩,⟨some 48,.fa 0 (.t 1),some (47,false)⟩,⟨some 49,.ld false 1 (.t 48),some (47,false)⟩,⟨some 50,.bin .eql (.t 49) (.c (.int .i64 4)),some (47,false)⟩,⟨some 51,.mv (.t 50),some (47,false)⟩,⟨some 52,.fa 0 (.t 6),some (51,true)⟩,⟨some 53,.ld false 1 (.t 52),some (51,true)⟩,⟨some 54,.bin .eql (.t 53) (.c (.int .i64 3)),some (51,true)⟩,⟨some 55,.pick (.t 51) (.t 54) (.c (.bool false)),some (47,false)⟩,⟨some 56,.pick (.t 47) (.c (.bool true)) (.t 55),some (38,true)⟩,oO 57 (.pick (.t 38) (.t 56) (.c (.bool false))),mO 8 57]) (.seq (.reg [oO 58 (.ld true 3 (.t 6)),oO 59 (.bd [.str [],.int .i64 0,.int .i64 0,.str []] [(1,3,(.t 58))]),mO 60 8,nO (.st true 4 (.t 2) (.t 59)),mO 3 60]) (.ret))))),res := [(2,some (true,4)),(3,none)] }
def c319 : VF := { code := .seq (.reg [oO 4 (.mv (.c (.int .i64 0)))]) (.seq (.seq (.reg [oO 5 (.mv (.c (.int .i64 2)))]) (.block 0 (.loop [0,1,5] (.seq (.seq (.reg [mO 8 5,oO 9 (.bin .leq (.t 8) (.c (.int .i64 8)))]) (.cond (.t 9) (.skip) (.exit 0))) (.seq (.block 1 (.seq (.reg [mO 13 1,mO 14 5,oO 15 (.mg true (some .i64) (.str []) (.t 13) (.t 14)),mO 12 15,oO 16 (.ex (.t 12) 0),oO 17 (.ex (.t 12) 1),mO 6 16,mO 7 17]) (.seq (.reg [mO 18 7,mO 19 18,⟨some 20,.mv (.t 0),some (19,true)⟩,⟨some 21,.nc (.t 20),some (19,true)⟩,⟨some 22,.fa 0 (.t 21),some (19,true)⟩,⟨some 23,.ld false 1 (.t 22),some (19,true)⟩,⟨some 24,.mv (.t 6),some (19,true)⟩,⟨some 25,.call 234 [(.t 23),(.t 24)],some (19,true)⟩,oO 26 (.pick (.t 19) (.t 25) (.c (.bool false)))]) (.cond (.t 26) (.seq (.reg [mO 27 5,mO 4 27]) (.ret)) (.skip))))) (.reg [mO 10 5,oO 11 (.bin .add (.t 10) (.c (.int .i64 1))),mO 5 11])))))) (.seq (.reg [oO 4 (.mv (.c (.int .i64 0)))]) (.ret))),res := [(4,none)] }
def c320 : VF := { code := .seq (.reg [oO 0 (.mv (.c (.nilm)))]) (.seq (.reg [oO 1 (.mm),nO (.mu (some .i64) (.t 1) (.c (.int .i64 2)) (.c (.str [110,111,116]))),nO (.mu (some .i64) (.t 1) (.c (.int .i64 5)) (.c (.str [98,101,102,111,114,101]))),nO (.mu (some .i64) (.t 1) (.c (.int .i64 6)) (.c (.str [111,110,99,101]))),nO (.mu (some .i64) (.t 1) (.c (.int .i64 7)) (.c (.str [97,108,119,97,121,115]))),mO 2 1,mO 0 2]) (.ret)),res := [(0,none)] }
def c321 : VF := { code := .seq (.reg [oO 0 (.mv (.c (.nilm)))]) (.seq (.reg [oO 1 (.mm),nO (.mu (some .i64) (.t 1) (.c (.int .i64 3)) (.c (.str [97,110,100]))),nO (.mu (some .i64) (.t 1) (.c (.int .i64 4)) (.c (.str [111,114]))),nO (.mu (some .i64) (.t 1) (.c (.int .i64 8)) (.c (.str [115,105,110,99,101]))),mO 2 1,mO 0 2]) (.ret)),res := [(0,none)] }
def c322 : VF := { code := .seq (.reg [mO 10 1,oO 11 (.bin .add (.t 10) (.c (.int .i64 1))),mO 8 11]) (.block 0 (.loop [0,1,2,3,8] (.seq (.seq (.reg [mO 12 8,mO 13 2,oO 14 (.bin .lss (.t 12) (.t 13))]) (.cond (.t 14) (.skip) (.exit 0))) (.seq (.block 1 (.seq (.reg [mO 17 8,mO 9 17]) (.block 2 (.loop [0,1,2,3,8,9] (.seq (.seq (.drw [⟨0,[],mO 18 9,false,[]⟩,⟨1,[],mO 19 1,false,[]⟩,⟨2,[0,1],oO 20 (.bin .gtr (.t 18) (.t 19)),false,[]⟩,⟨3,[0,1,2],mO 21 20,false,[]⟩,⟨4,(rO 4),⟨some 22,.mv (.t 3),some (21,true)⟩,false,[]⟩,⟨5,(rO 4),⟨some 23,.mv (.t 0),some (21,true)⟩,false,[]⟩,⟨6,(rO 4),⟨some 24,.mv (.t 9),some (21,true)⟩,false,[]⟩,⟨7,[0,1,2,3,5,6],⟨some 25,.ia none 4 (.t 23) (.t 24),some (21,true)⟩,false,[]⟩,⟨8,[0,1,2,3,5,6,7],⟨some 26,.ld true 4 (.t 25),some (21,true)⟩,false,[]⟩,⟨9,(rO 4),⟨some 27,.mv (.t 0),some (21,true)⟩,false,[]⟩,⟨10,(rO 4),⟨some 28,.mv (.t 9),some (21,true)⟩,false,[]⟩,⟨11,[0,1,2,3,10],⟨some 29,.bin .sub (.t 28) (.c (.int .i64 1)),some (21,true)⟩,false,[]⟩,⟨12,[0,1,2,3,9,10,11],⟨some 30,.ia none 4 (.t 27) (.t 29),some (21,true)⟩,false,[]⟩,⟨13,[0,1,2,3,9,10,11,12],⟨some 31,.ld true 4 (.t 30),some (21,true)⟩,false,[]⟩,⟨14,(rO 14),⟨some 32,.cv (.t 22) [(.t 26),(.t 31)],some (21,true)⟩,true,[]⟩,⟨15,(rO 15),⟨some 33,.bin .lss (.t 32) (.c (.int .i64 0)),some (21,true)⟩,false,[]⟩,⟨16,(rO 16),oO 34 (.pick (.t 21) (.t 33) (.c (.bool false))),false,[]⟩]) (.cond (.t 34) (.skip) (.exit 2))) (.seq (.block 3 (.drw [⟨0,[],mO 37 0,false,[]⟩,⟨1,[],mO 38 9,false,[]⟩,⟨2,[],mO 39 0,false,[]⟩,⟨3,[],mO 40 9,false,[]⟩,⟨4,[3],oO 41 (.bin .sub (.t 40) (.c (.int .i64 1))),false,[]⟩,⟨5,[],mO 42 0,false,[]⟩,⟨6,[],mO 43 9,false,[]⟩,⟨7,[6],oO 44 (.bin .sub (.t 43) (.c (.int .i64 1))),false,[]⟩,⟨8,[5,6,7],oO 45 (.ia none 4 (.t 42) (.t 44)),false,[]⟩,⟨9,[5,6,7,8],oO 46 (.ld true 4 (.t 45)),false,[]⟩,⟨10,[],mO 47 0,false,[]⟩,⟨11,[],mO 48 9,false,[]⟩,⟨12,[10,11],oO 49 (.ia none 4 (.t 47) (.t 48)),false,[]⟩,⟨13,[10,11,12],oO 50 (.ld true 4 (.t 49)),false,[]⟩,⟨14,[0,1,5,6,7,8,9,10,11,12,13],oO 51 (.ia none 4 (.t 37) (.t 38)),false,[]⟩,⟨15,[0,1,5,6,7,8,9,10,11,12,13,14],nO (.st true 4 (.t 51) (.t 46)),true,[]⟩,⟨16,(rO 16),oO 52 (.ia none 4 (.t 39) (.t 41)),false,[]⟩,⟨17,(rO 17),nO (.st true 4 (.t 52) (.t 50)),true,[]⟩])) (.reg [mO 35 9,oO 36 (.bin .sub (.t 35) (.c (.int .i64 1))),mO 9 36]))))))) (.reg [mO 15 8,oO 16 (.bin .add (.t 15) (.c (.int .i64 1))),mO 8 16]))))),res := [] }
def c323 : VF := { code := .seq (.seq (.reg [mO 25 2,mO 26 1,oO 27 (.bin .sub (.t 25) (.t 26)),oO 28 (.bin .eql (.t 27) (.c (.int .i64 1)))]) (.cond (.t 28) (.seq (.reg [mO 29 2,mO 10 29]) (.seq (.reg [mO 30 3,mO 11 30]) (.seq (.block 0 (.loop [0,1,4,10,11] (.seq (.seq (.reg [mO 31 10,mO 32 11,oO 33 (.bin .lss (.t 31) (.t 32))]) (.cond (.t 33) (.skip) (.exit 0))) (.block 1 (.seq (.reg [mO 34 10,mO 35 11,oO 36 (.bin .add (.t 34) (.t 35)),oO 37 (.wrp .u64 (.t 36)),oO 38 (.bin .shr (.t 37) (.c (.int .u64 1))),oO 39 (.wrp .i64 (.t 38)),mO 12 39]) (.seq (.drw [⟨0,[],mO 40 4,false,[]⟩,⟨1,[],mO 41 0,false,[]⟩,⟨2,[],mO 42 12,false,[]⟩,⟨3,[1,2],oO 43 (.ia none 4 (.t 41) (.t 42)),false,[]⟩,⟨4,[1,2,3],oO 44 (.ld true 4 (.t 43)),false,[]⟩,⟨5,[],mO 45 0,false,[]⟩,⟨6,[],mO 46 1,false,[]⟩,⟨7,[5,6],oO 47 (.ia none 4 (.t 45) (.t 46)),false,[]⟩,⟨8,[5,6,7],oO 48 (.ld true 4 (.t 47)),false,[]⟩,⟨9,(rO 9),oO 49 (.cv (.t 40) [(.t 44),(.t 48)]),true,[]⟩,⟨10,(rO 10),oO 50 (.bin .lss (.t 49) (.c (.int .i64 0))),false,[]⟩]) (.cond (.t 50) (.reg [mO 51 12,oO 52 (.bin .add (.t 51) (.c (.int .i64 1))),mO 10 52]) (.reg [mO 53 12,mO 11 53])))))))) (.seq (.seq (.reg [mO 54 1,mO 13 54]) (.block 2 (.loop [0,10,13] (.seq (.seq (.reg [mO 55 13,mO 56 10,oO 57 (.bin .sub (.t 56) (.c (.int .i64 1))),oO 58 (.bin .lss (.t 55) (.t 57))]) (.cond (.t 58) (.skip) (.exit 2))) (.seq (.block 3 (.drw [⟨0,[],mO 61 0,false,[]⟩,⟨1,[],mO 62 13,false,[]⟩,⟨2,[],mO 63 0,false,[]⟩,⟨3,[],mO 64 13,false,[]⟩,⟨4,[3],oO 65 (.bin .add (.t 64) (.c (.int .i64 1))),false,[]⟩,⟨5,[],mO 66 0,false,[]⟩,⟨6,[],mO 67 13,false,[]⟩,⟨7,[6],oO 68 (.bin .add (.t 67) (.c (.int .i64 1))),false,[]⟩,⟨8,[5,6,7],oO 69 (.ia none 4 (.t 66) (.t 68)),false,[]⟩,⟨9,[5,6,7,8],oO 70 (.ld true 4 (.t 69)),false,[]⟩,⟨10,[],mO 71 0,false,[]⟩,⟨11,[],mO 72 13,false,[]⟩,⟨12,[10,11],oO 73 (.ia none 4 (.t 71) (.t 72)),false,[]⟩,⟨13,[10,11,12],oO 74 (.ld true 4 (.t 73)),false,[]⟩,⟨14,[0,1,5,6,7,8,9,10,11,12,13],oO 75 (.ia none 4 (.t 61) (.t 62)),false,[]⟩,⟨15,[0,1,5,6,7,8,9,10,11,12,13,14],nO (.st true 4 (.t 75) (.t 70)),true,[]⟩,⟨16,(rO 16),oO 76 (.ia none 4 (.t 63) (.t 65)),false,[]⟩,⟨17,(rO 17),nO (.st true 4 (.t 76) (.t 74)),true,[]⟩])) (.reg [mO 59 13,oO 60 (.bin .add (.t 59) (.c (.int .i64 1))),mO 13 60])))))) (.ret))))) (.skip))) (.seq (.seq (.reg [mO 77 3,mO 78 2,oO 79 (.bin .sub (.t 77) (.t 78)),oO 80 (.bin .eql (.t 79) (.c (.int .i64 1)))]) (.cond (.t 80) (.seq (.reg [mO 81 1,mO 14 81]) (.seq (.reg [mO 82 2,mO 15 82]) (.seq (.block 4 (.loop [0,2,4,14,15] (.seq (.seq (.reg [mO 83 14,mO 84 15,oO 85 (.bin .lss (.t 83) (.t 84))]) (.cond (.t 85) (.skip) (.exit 4))) (.block 5 (.seq (.reg [mO 86 14,mO 87 15,oO 88 (.bin .add (.t 86) (.t 87)),oO 89 (.wrp .u64 (.t 88)),oO 90 (.bin .shr (.t 89) (.c (.int .u64 1))),oO 91 (.wrp .i64 (.t 90)),mO 16 91]) (.seq (.drw [⟨0,[],mO 92 4,false,[]⟩,⟨1,[],mO 93 0,false,[]⟩,⟨2,[],mO 94 2,false,[]⟩,⟨3,[1,2],oO 95 (.ia none 4 (.t 93) (.t 94)),false,[]⟩,⟨4,[1,2,3],oO 96 (.ld true 4 (.t 95)),false,[]⟩,⟨5,[],mO 97 0,false,[]⟩,⟨6,[],mO 98 16,false,[]⟩,⟨7,[5,6],oO 99 (.ia none 4 (.t 97) (.t 98)),false,[]⟩,⟨8,[5,6,7],oO 100 (.ld true 4 (.t 99)),false,[]⟩,⟨9,(rO 9),oO 101 (.cv (.t 92) [(.t 96),(.t 100)]),true,[]⟩,⟨10,(rO 10),oO 102 (.bin .lss (.t 101) (.c (.int .i64 0))),false,[]⟩,⟨11,(rO 11),oO 103 (.not (.t 102)),false,[]⟩]) (.cond (.t 103) (.reg [mO 104 16,oO 105 (.bin .add (.t 104) (.c (.int .i64 1))),mO 14 105]) (.reg [mO 106 16,mO 15 106])))))))) (.seq (.seq (.reg [mO 107 2,mO 17 107]) (.block 6 (.loop [0,14,17] (.seq (.seq (.reg [mO 108 17,mO 109 14,oO 110 (.bin .gtr (.t 108) (.t 109))]) (.cond (.t 110) (.skip) (.exit 6))) (.seq (.block 7 (.drw [⟨0,[],mO 113 0,false,[]⟩,⟨1,[],mO 114 17,false,[]⟩,⟨2,[],mO 115 0,false,[]⟩,⟨3,[],mO 116 17,false,[]⟩,⟨4,[3],oO 117 (.bin .sub (.t 116) (.c (.int .i64 1))),false,[]⟩,⟨5,[],mO 118 0,false,[]⟩,⟨6,[],mO 119 17,false,[]⟩,⟨7,[6],oO 120 (.bin .sub (.t 119) (.c (.int .i64 1))),false,[]⟩,⟨8,[5,6,7],oO 121 (.ia none 4 (.t 118) (.t 120)),false,[]⟩,⟨9,[5,6,7,8],oO 122 (.ld true 4 (.t 121)),false,[]⟩,⟨10,[],mO 123 0,false,[]⟩,⟨11,[],mO 124 17,false,[]⟩,⟨12,[10,11],oO 125 (.ia none 4 (.t 123) (.t 124)),false,[]⟩,⟨13,[10,11,12],oO 126 (.ld true 4 (.t 125)),false,[]⟩,⟨14,[0,1,5,6,7,8,9,10,11,12,13],oO 127 (.ia none 4 (.t 113) (.t 114)),false,[]⟩,⟨15,[0,1,5,6,7,8,9,10,11,12,13,14],nO (.st true 4 (.t 127) (.t 122)),true,[]⟩,⟨16,(rO 16),oO 128 (.ia none 4 (.t 115) (.t 117)),false,[]⟩,⟨17,(rO 17),nO (.st true 4 (.t 128) (.t 126)),true,[]⟩])) (.reg [mO 111 17,oO 112 (.bin .sub (.t 111) (.c (.int .i64 1))),mO 17 112])))))) (.ret))))) (.skip))) (.seq (.reg [mO 129 1,mO 130 3,oO 131 (.bin .add (.t 129) (.t 130)),oO 132 (.wrp .u64 (.t 131)),oO 133 (.bin .shr (.t 132) (.c (.int .u64 1))),oO 134 (.wrp .i64 (.t 133)),mO 18 134]) (.seq (.reg [mO 135 18,mO 136 2,oO 137 (.bin .add (.t 135) (.t 136)),mO 19 137]) (.seq (.reg [oO 20 (.mv (.c (.int .i64 0))),oO 21 (.mv (.c (.int .i64 0)))]) (.seq (.seq (.reg [mO 138 2,mO 139 18,oO 140 (.bin .gtr (.t 138) (.t 139))]) (.cond (.t 140) (.seq (.reg [mO 141 19,mO 142 3,oO 143 (.bin .sub (.t 141) (.t 142)),mO 20 143]) (.reg [mO 144 18,mO 21 144])) (.seq (.reg [mO 145 1,mO 20 145]) (.reg [mO 146 2,mO 21 146])))) (.seq (.reg [mO 147 19,oO 148 (.bin .sub (.t 147) (.c (.int .i64 1))),mO 22 148]) (.seq (.block 8 (.loop [0,1,2,3,4,18,19,20,21,22] (.seq (.seq (.reg [mO 149 20,mO 150 21,oO 151 (.bin .lss (.t 149) (.t 150))]) (.cond (.t 151) (.skip) (.exit 8))) (.block 9 (.seq (.reg [mO 152 20,mO 153 21,oO 154 (.bin .add (.t 152) (.t 153)),oO 155 (.wrp .u64 (.t 154)),oO 156 (.bin .shr (.t 155) (.c (.int .u64 1))),oO 157 (.wrp .i64 (.t 156)),mO 23 157]) (.seq (.drw [⟨0,[],mO 158 4,false,[]⟩,⟨1,[],mO 159 0,false,[]⟩,⟨2,[],mO 160 22,false,[]⟩,⟨3,[],mO 161 23,false,[]⟩,⟨4,[2,3],oO 162 (.bin .sub (.t 160) (.t 161)),false,[]⟩,⟨5,[1,2,3,4],oO 163 (.ia none 4 (.t 159) (.t 162)),false,[]⟩,⟨6,[1,2,3,4,5],oO 164 (.ld true 4 (.t 163)),false,[]⟩,⟨7,[],mO 165 0,false,[]⟩,⟨8,[],mO 166 23,false,[]⟩,⟨9,[7,8],oO 167 (.ia none 4 (.t 165) (.t 166)),false,[]⟩,⟨10,[7,8,9],oO 168 (.ld true 4 (.t 167)),false,[]⟩,⟨11,(rO 11),oO 169 (.cv (.t 158) [(.t 164),(.t 168)]),true,[]⟩,⟨12,(rO 12),oO 170 (.bin .lss (.t 169) (.c (.int .i64 0))),false,[]⟩,⟨13,(rO 13),oO 171 (.not (.t 170)),false,[]⟩]) (.cond (.t 171) (.reg [mO 172 23,oO 173 (.bin .add (.t 172) (.c (.int .i64 1))),mO 20 173]) (.reg [mO 174 23,mO 21 174])))))))) (.seq (.reg [mO 175 19,mO 176 20,oO 177 (.bin .sub (.t 175) (.t 176)),mO 24 177]) (.seq (.seq (.reg [mO 178 20,mO 179 2,oO 180 (.bin .lss (.t 178) (.t 179)),mO 181 180,⟨some 182,.mv (.t 2),some (181,true)⟩,⟨some 183,.mv (.t 24),some (181,true)⟩,⟨some 184,.bin .lss (.t 182) (.t 183),some (181,true)⟩,oO 185 (.pick (.t 181) (.t 184) (.c (.bool false)))]) (.cond (.t 185) (.reg [mO 186 0,mO 187 20,mO 188 2,mO 189 24,mO 190 4,oO 191 (.call 336 [(.t 186),(.t 187),(.t 188),(.t 189),(.t 190)])]) (.skip))) (.seq (.seq (.reg [mO 192 1,mO 193 20,oO 194 (.bin .lss (.t 192) (.t 193)),mO 195 194,⟨some 196,.mv (.t 20),some (195,true)⟩,⟨some 197,.mv (.t 18),some (195,true)⟩,⟨some 198,.bin .lss (.t 196) (.t 197),some (195,true)⟩,oO 199 (.pick (.t 195) (.t 198) (.c (.bool false)))]) (.cond (.t 199) (.reg [mO 200 0,mO 201 1,mO 202 20,mO 203 18,mO 204 4,oO 205 (.call 323 [(.t 200),(.t 201),(.t 202),(.t 203),(.t 204)])]) (.skip))) (.seq (.reg [mO 206 18,mO 207 24,oO 208 (.bin .lss (.t 206) (.t 207)),mO 209 208,⟨some 210,.mv (.t 24),some (209,true)⟩,⟨some 211,.mv (.t 3),some (209,true)⟩,⟨some 212,.bin .lss (.t 210) (.t 211),some (209,true)⟩,oO 213 (.pick (.t 209) (.t 212) (.c (.bool false)))]) (.cond (.t 213) (.reg [mO 214 0,mO 215 18,mO 216 24,mO 217 3,mO 218 4,oO 219 (.call 323 [(.t 214),(.t 215),(.t 216),(.t 217),(.t 218)])]) (.skip))))))))))))),res := [] }
def c325 : VF := { code := .seq (.reg [oO 4 (.mv (.c (.bool false)))]) (.seq (.reg [mO 5 0,mO 6 1,oO 7 (.nc (.t 5)),oO 8 (.ia (some 256) 1 (.t 7) (.t 6)),oO 9 (.ld false 1 (.t 8)),mO 4 9]) (.ret)),res := [(4,none)] }
def c326 : VF := { code := .seq (.reg [oO 2 (.mv (.c (.int .i32 0))),oO 3 (.mv (.c (.int .i64 0)))]) (.seq (.seq (.reg [mO 4 0,oO 5 (.bin .neq (.t 4) (.c (.str []))),mO 6 5,⟨some 7,.mv (.t 0),some (6,true)⟩,⟨some 8,.ix (.t 7) (.c (.int .i64 0)),some (6,true)⟩,⟨some 9,.bin .lss (.t 8) (.c (.int .u8 128)),some (6,true)⟩,oO 10 (.pick (.t 6) (.t 9) (.c (.bool false)))]) (.cond (.t 10) (.seq (.reg [mO 11 0,oO 12 (.ix (.t 11) (.c (.int .i64 0))),oO 13 (.wrp .i32 (.t 12)),mO 2 13,oO 3 (.mv (.c (.int .i64 1)))]) (.ret)) (.reg [mO 15 0,oO 16 (.call 337 [(.t 15)]),mO 14 16,oO 17 (.ex (.t 14) 0),oO 18 (.ex (.t 14) 1),mO 2 17,mO 3 18]))) (.ret)),res := [(2,none),(3,none)] }
def c327 : VF := { code := .seq (.reg [oO 4 (.mv (.c (.bool false)))]) (.seq (.reg [mO 5 0,mO 6 1,oO 7 (.call 338 [(.t 5),(.t 6)]),oO 8 (.bin .geq (.t 7) (.c (.int .i64 0))),mO 4 8]) (.ret)),res := [(4,none)] }
def c328 : VF := { code := .seq (.reg [oO 6 (.mv (.c (.int .i64 0))),oO 7 (.mv (.c (.nili)))]) (.seq (.seq (.reg [mO 12 0,oO 13 (.bin .eql (.t 12) (.c (.str [])))]) (.cond (.t 13) (.seq (.reg [oO 14 (.mi 341 (.c (.int .i64 2))),oO 6 (.mv (.c (.int .i64 0))),mO 7 14]) (.ret)) (.skip))) (.seq (.reg [oO 8 (.mv (.c (.bool false)))]) (.seq (.seq (.reg [mO 15 0,oO 16 (.ix (.t 15) (.c (.int .i64 0)))]) (.block 0 (.seq (.reg [oO 18 (.bin .eql (.t 16) (.c (.int .u8 43))),mO 17 18]) (.cond (.t 17) (.reg [mO 19 0,oO 20 (.cut true 1 (.t 19) (some (.c (.int .i64 1))) none none),mO 0 20]) (.seq (.reg [oO 22 (.bin .eql (.t 16) (.c (.int .u8 45))),mO 21 22]) (.cond (.t 21) (.seq (.reg [mO 23 0,oO 24 (.cut true 1 (.t 23) (some (.c (.int .i64 1))) none none),mO 0 24]) (.reg [oO 8 (.mv (.c (.bool true)))])) (.skip))))))) (.seq (.reg [oO 9 (.mv (.c (.int .u64 0)))]) (.seq (.reg [mO 26 0,mO 27 1,mO 28 2,oO 29 (.call 339 [(.t 26),(.t 27),(.t 28)]),mO 25 29,oO 30 (.ex (.t 25) 0),oO 31 (.ex (.t 25) 1),mO 9 30,mO 7 31]) (.seq (.seq (.reg [mO 32 7,oO 33 (.eqn 1 true (.t 32)),mO 34 33,⟨some 35,.mv (.t 7),some (34,true)⟩,⟨some 36,.mi 341 (.c (.int .i64 1)),some (34,true)⟩,⟨some 37,.bad,some (34,true)⟩,oO 38 (.pick (.t 34) (.t 37) (.c (.bool false)))]) (.cond (.t 38) (.seq (.reg [mO 39 7,oO 6 (.mv (.c (.int .i64 0))),mO 7 39]) (.ret)) (.skip))) (.seq (.seq (.reg [mO 40 2,oO 41 (.bin .eql (.t 40) (.c (.int .i64 0)))]) (.cond (.t 41) (.reg [oO 2 (.mv (.c (.int .i64 64)))]) (.skip))) (.seq (.reg [mO 42 2,oO 43 (.bin .sub (.t 42) (.c (.int .i64 1))),oO 44 (.wrp .u64 (.t 43)),oO 45 (.bin .shl (.c (.int .u64 1)) (.t 44)),mO 10 45]) (.seq (.seq (.reg [mO 46 8,oO 47 (.not (.t 46)),mO 48 47,⟨some 49,.mv (.t 9),some (48,true)⟩,⟨some 50,.mv (.t 10),some (48,true)⟩,⟨some 51,.bin .geq (.t 49) (.t 50),some (48,true)⟩,oO 52 (.pick (.t 48) (.t 51) (.c (.bool false)))]) (.cond (.t 52) (.seq (.reg [mO 53 10,oO 54 (.bin .sub (.t 53) (.c (.int .u64 1))),oO 55 (.wrp .i64 (.t 54)),oO 56 (.mi 341 (.c (.int .i64 1))),mO 6 55,mO 7 56]) (.ret)) (.skip))) (.seq (.seq (.reg [mO 57 8,mO 58 57,⟨some 59,.mv (.t 9),some (58,true)⟩,⟨some 60,.mv (.t 10),some (58,true)⟩,⟨some 61,.bin .gtr (.t 59) (.t 60),some (58,true)⟩,oO 62 (.pick (.t 58) (.t 61) (.c (.bool false)))]) (.cond (.t 62) (.seq (.reg [mO 63 10,oO 64 (.wrp .i64 (.t 63)),oO 65 (.neg (.t 64)),oO 66 (.mi 341 (.c (.int .i64 1))),mO 6 65,mO 7 66]) (.ret)) (.skip))) (.seq (.reg [mO 67 9,oO 68 (.wrp .i64 (.t 67)),mO 11 68]) (.seq (.seq (.reg [mO 69 8]) (.cond (.t 69) (.reg [mO 70 11,oO 71 (.neg (.t 70)),mO 11 71]) (.skip))) (.seq (.reg [mO 72 11,mO 6 72,oO 7 (.mv (.c (.nili)))]) (.ret)))))))))))))),res := [(6,none),(7,none)] }
def c329 : VF := { code := .seq (.reg [oO 4 (.mv (.c (.nilp)))]) (.seq (.drw [⟨0,[],mO 5 0,false,[]⟩,⟨1,[],mO 6 1,false,[]⟩,⟨2,[1],oO 7 (.call 340 [(.t 6)]),false,[]⟩,⟨3,[],oO 8 (.bad),true,[2]⟩,⟨4,(rO 4),oO 9 (.bd [.str [],.str [],.nili] [(0,1,(.t 5)),(1,1,(.t 7)),(2,1,(.t 8))]),false,[]⟩,⟨5,(rO 5),oO 10 (.bx (.t 9) []),true,[]⟩,⟨6,(rO 6),mO 4 10,false,[]⟩]) (.ret)),res := [(4,none)] }
def c330 : VF := { code := .seq (.reg [oO 4 (.mv (.c (.nilp)))]) (.seq (.drw [⟨0,[],mO 5 0,false,[]⟩,⟨1,[],mO 6 1,false,[]⟩,⟨2,[1],oO 7 (.call 340 [(.t 6)]),false,[]⟩,⟨3,[],oO 8 (.bad),true,[2]⟩,⟨4,(rO 4),oO 9 (.bd [.str [],.str [],.nili] [(0,1,(.t 5)),(1,1,(.t 7)),(2,1,(.t 8))]),false,[]⟩,⟨5,(rO 5),oO 10 (.bx (.t 9) []),true,[]⟩,⟨6,(rO 6),mO 4 10,false,[]⟩]) (.ret)),res := [(4,none)] }
def c331 : VF := { code := .seq (.reg [oO 6 (.mv (.c (.nilp)))]) (.seq (.reg [mO 7 0,mO 8 1,oO 9 (.call 340 [(.t 8)]),mO 10 2,oO 11 (.call 313 [(.t 10)]),oO 12 (.bin .add (.c (.str [105,110,118,97,108,105,100,32,98,97,115,101,32])) (.t 11)),oO 13 (.call 341 [(.t 12)]),oO 14 (.bd [.str [],.str [],.nili] [(0,1,(.t 7)),(1,1,(.t 9)),(2,1,(.t 13))]),oO 15 (.bx (.t 14) []),mO 6 15]) (.ret)),res := [(6,none)] }
def c332 : VF := { code := .seq (.reg [oO 6 (.mv (.c (.nilp)))]) (.seq (.reg [mO 7 0,mO 8 1,oO 9 (.call 340 [(.t 8)]),mO 10 2,oO 11 (.call 313 [(.t 10)]),oO 12 (.bin .add (.c (.str [105,110,118,97,108,105,100,32,98,105,116,32,115,105,122,101,32])) (.t 11)),oO 13 (.call 341 [(.t 12)]),oO 14 (.bd [.str [],.str [],.nili] [(0,1,(.t 7)),(1,1,(.t 9)),(2,1,(.t 13))]),oO 15 (.bx (.t 14) []),mO 6 15]) (.ret)),res := [(6,none)] }
def c333 : VF := { code := .seq (.reg [oO 2 (.mv (.c (.str [])))]) (.seq (.reg [mO 3 0,oO 4 (.call 342 [(.t 3),(.c (.int .i64 10))]),mO 2 4]) (.ret)),res := [(2,none)] }
def c334 : VF := { code := .seq (.reg [oO 4 (.nw 5)]) (.seq (.seq (.reg [mO 9 0,oO 10 (.call 283 [(.t 9),(.c (.str [40]))]),oO 11 (.not (.t 10))]) (.cond (.t 11) (.seq (.reg [mO 12 0,oO 13 (.call 287 [(.t 12)]),oO 5 (.al [.str [],.int .i64 0,.int .i64 0,.str []] []),nO (.st true 4 (.t 5) (.t 13))]) (.seq (.reg [oO 6 (.mv (.c (.int .i64 2)))]) (.seq (.seq (.reg [oO 14 (.fa 0 (.t 5)),oO 15 (.ld false 1 (.t 14)),oO 16 (.bin .neq (.t 15) (.c (.str [])))]) (.cond (.t 16) (.reg [oO 6 (.mv (.c (.int .i64 1)))]) (.skip))) (.seq (.reg [mO 17 6,oO 18 (.fa 0 (.t 5)),oO 19 (.ld false 1 (.t 18)),oO 20 (.fa 1 (.t 5)),oO 21 (.ld true 3 (.t 20)),oO 22 (.bd [.int .i64 0,.str [],.int .i64 0,.int .i64 0,.str []] [(0,1,(.t 17)),(1,1,(.t 19)),(2,3,(.t 21))]),oO 23 (.bl 5 [(.t 22)]),mO 4 23]) (.ret))))) (.skip))) (.seq (.seq (.reg [mO 24 1,oO 25 (.bin .geq (.t 24) (.c (.int .i64 15)))]) (.cond (.t 25) (.seq (.reg [mO 26 0,oO 27 (.nc (.t 26)),oO 28 (.fa 3 (.t 27)),nO (.st false 1 (.t 28) (.c (.bool true)))]) (.seq (.reg [oO 4 (.nw 5)]) (.ret))) (.skip))) (.seq (.reg [mO 29 0,mO 30 1,oO 31 (.bin .add (.t 30) (.c (.int .i64 1))),oO 32 (.call 334 [(.t 29),(.t 31)]),mO 7 32]) (.seq (.reg [mO 33 0,oO 34 (.call 343 [(.t 33)]),mO 8 34]) (.seq (.seq (.reg [mO 35 0,oO 36 (.call 232 [(.t 35)]),oO 37 (.not (.t 36))]) (.cond (.t 37) (.seq (.reg [oO 4 (.nw 5)]) (.ret)) (.skip))) (.seq (.reg [mO 38 7,mO 39 0,mO 40 1,oO 41 (.bin .add (.t 40) (.c (.int .i64 1))),oO 42 (.call 334 [(.t 39),(.t 41)]),oO 43 (.app 5 (.t 38) (.t 42)),mO 7 43]) (.seq (.reg [mO 44 0,oO 45 (.call 230 [(.t 44),(.c (.str [41]))])]) (.seq (.reg [mO 46 7,mO 47 8,oO 48 (.bd [.int .i64 0,.str [],.int .i64 0,.int .i64 0,.str []] [(0,1,(.t 47))]),oO 49 (.bl 5 [(.t 48)]),oO 50 (.app 5 (.t 46) (.t 49)),mO 4 50]) (.ret))))))))),res := [(4,none)],keepR := true }
def c335 : VF := { code := .seq (.reg [oO 0 (.nw 1)]) (.seq (.reg [oO 1 (.bl 1 [(.c (.str [61])),(.c (.str [33,61])),(.c (.str [60])),(.c (.str [60,61]))]),mO 0 1]) (.ret)),res := [(0,none)] }
def c336 : VF := { code := .seq (.reg [mO 12 2,mO 13 1,oO 14 (.bin .sub (.t 12) (.t 13)),mO 10 14]) (.seq (.reg [mO 15 3,mO 16 2,oO 17 (.bin .sub (.t 15) (.t 16)),mO 11 17]) (.seq (.block 0 (.loop [0,2,4,10,11] (.seq (.seq (.reg [mO 18 10,mO 19 11,oO 20 (.bin .neq (.t 18) (.t 19))]) (.cond (.t 20) (.skip) (.exit 0))) (.block 1 (.seq (.reg [mO 21 10,mO 22 11,oO 23 (.bin .gtr (.t 21) (.t 22))]) (.cond (.t 23) (.seq (.reg [mO 24 0,mO 25 2,mO 26 10,oO 27 (.bin .sub (.t 25) (.t 26)),mO 28 2,mO 29 11,mO 30 4,oO 31 (.call 344 [(.t 24),(.t 27),(.t 28),(.t 29),(.t 30)])]) (.reg [mO 32 10,mO 33 11,oO 34 (.bin .sub (.t 32) (.t 33)),mO 10 34])) (.seq (.reg [mO 35 0,mO 36 2,mO 37 10,oO 38 (.bin .sub (.t 36) (.t 37)),mO 39 2,mO 40 11,oO 41 (.bin .add (.t 39) (.t 40)),mO 42 10,oO 43 (.bin .sub (.t 41) (.t 42)),mO 44 10,mO 45 4,oO 46 (.call 344 [(.t 35),(.t 38),(.t 43),(.t 44),(.t 45)])]) (.reg [mO 47 11,mO 48 10,oO 49 (.bin .sub (.t 47) (.t 48)),mO 11 49])))))))) (.reg [mO 50 0,mO 51 2,mO 52 10,oO 53 (.bin .sub (.t 51) (.t 52)),mO 54 2,mO 55 10,mO 56 4,oO 57 (.call 344 [(.t 50),(.t 53),(.t 54),(.t 55),(.t 56)])]))),res := [] }
def c337 : VF := { code := .seq (.reg [oO 2 (.mv (.c (.int .i32 0))),oO 3 (.mv (.c (.int .i64 0)))]) (.seq (.reg [mO 13 0,oO 14 (.len true (.t 13)),mO 4 14]) (.seq (.seq (.reg [mO 15 4,oO 16 (.bin .lss (.t 15) (.c (.int .i64 1)))]) (.cond (.t 16) (.seq (.reg [oO 2 (.mv (.c (.int .i32 65533))),oO 3 (.mv (.c (.int .i64 0)))]) (.ret)) (.skip))) (.seq (.reg [mO 17 0,oO 18 (.ix (.t 17) (.c (.int .i64 0))),mO 5 18]) (.seq (.reg [mO 19 5,oO 20 (.bad),oO 21 (.ld false 1 (.t 20)),mO 6 21]) (.seq (.seq (.reg [mO 22 6,oO 23 (.bin .geq (.t 22) (.c (.int .u8 240)))]) (.cond (.t 23) (.seq (.reg [mO 24 6,oO 25 (.wrp .i32 (.t 24)),oO 26 (.bin .shl (.t 25) (.c (.int .u64 31))),oO 27 (.bin .shr (.t 26) (.c (.int .u64 31))),mO 7 27]) (.seq (.reg [mO 28 0,oO 29 (.ix (.t 28) (.c (.int .i64 0))),oO 30 (.wrp .i32 (.t 29)),mO 31 7,oO 32 (.bin .andNot (.t 30) (.t 31)),mO 33 7,oO 34 (.bin .and (.c (.int .i32 65533)) (.t 33)),oO 35 (.bin .or (.t 32) (.t 34)),mO 2 35,oO 3 (.mv (.c (.int .i64 1)))]) (.ret))) (.skip))) (.seq (.reg [mO 36 6,oO 37 (.bin .and (.t 36) (.c (.int .u8 7))),oO 38 (.wrp .i64 (.t 37)),mO 8 38]) (.seq (.reg [mO 39 6,oO 40 (.bin .shr (.t 39) (.c (.int .u64 4))),oO 41 (.bad),oO 42 (.ld true 2 (.t 41)),oO 9 (.al [.int .u8 0,.int .u8 0] []),nO (.st true 2 (.t 9) (.t 42))]) (.seq (.seq (.reg [mO 43 4,mO 44 8,oO 45 (.bin .lss (.t 43) (.t 44))]) (.cond (.t 45) (.seq (.reg [oO 2 (.mv (.c (.int .i32 65533))),oO 3 (.mv (.c (.int .i64 1)))]) (.ret)) (.skip))) (.seq (.reg [mO 46 0,oO 47 (.ix (.t 46) (.c (.int .i64 1))),mO 10 47]) (.seq (.seq (.reg [mO 48 10,oO 49 (.fa 0 (.t 9)),oO 50 (.ld false 1 (.t 49)),oO 51 (.bin .lss (.t 48) (.t 50)),mO 52 51,⟨some 53,.fa 1 (.t 9),some (52,false)⟩,⟨some 54,.ld false 1 (.t 53),some (52,false)⟩,⟨some 55,.mv (.t 10),some (52,false)⟩,⟨some 56,.bin .lss (.t 54) (.t 55),some (52,false)⟩,oO 57 (.pick (.t 52) (.c (.bool true)) (.t 56))]) (.cond (.t 57) (.seq (.reg [oO 2 (.mv (.c (.int .i32 65533))),oO 3 (.mv (.c (.int .i64 1)))]) (.ret)) (.skip))) (.seq (.seq (.reg [mO 58 8,oO 59 (.bin .leq (.t 58) (.c (.int .i64 2)))]) (.cond (.t 59) (.seq (.reg [mO 60 5,oO 61 (.bin .and (.t 60) (.c (.int .u8 31))),oO 62 (.wrp .i32 (.t 61)),oO 63 (.bin .shl (.t 62) (.c (.int .u64 6))),mO 64 10,oO 65 (.bin .and (.t 64) (.c (.int .u8 63))),oO 66 (.wrp .i32 (.t 65)),oO 67 (.bin .or (.t 63) (.t 66)),mO 2 67,oO 3 (.mv (.c (.int .i64 2)))]) (.ret)) (.skip))) (.seq (.reg [mO 68 0,oO 69 (.ix (.t 68) (.c (.int .i64 2))),mO 11 69]) (.seq (.seq (.reg [mO 70 11,oO 71 (.bin .lss (.t 70) (.c (.int .u8 128))),mO 72 71,⟨some 73,.mv (.t 11),some (72,false)⟩,⟨some 74,.bin .lss (.c (.int .u8 191)) (.t 73),some (72,false)⟩,oO 75 (.pick (.t 72) (.c (.bool true)) (.t 74))]) (.cond (.t 75) (.seq (.reg [oO 2 (.mv (.c (.int .i32 65533))),oO 3 (.mv (.c (.int .i64 1)))]) (.ret)) (.skip))) (.seq (.seq (.reg [mO 76 8,oO 77 (.bin .leq (.t 76) (.c (.int .i64 3)))]) (.cond (.t 77) (.seq (.reg [mO 78 5,oO 79 (.bin .and (.t 78) (.c (.int .u8 15))),oO 80 (.wrp .i32 (.t 79)),oO 81 (.bin .shl (.t 80) (.c (.int .u64 12))),mO 82 10,oO 83 (.bin .and (.t 82) (.c (.int .u8 63))),oO 84 (.wrp .i32 (.t 83)),oO 85 (.bin .shl (.t 84) (.c (.int .u64 6))),oO 86 (.bin .or (.t 81) (.t 85)),mO 87 11,oO 88 (.bin .and (.t 87) (.c (.int .u8 63))),oO 89 (.wrp .i32 (.t 88)),oO 90 (.bin .or (.t 86) (.t 89)),mO 2 90,oO 3 (.mv (.c (.int .i64 3)))]) (.ret)) (.skip))) (.seq (.reg [mO 91 0,oO 92 (.ix (.t 91) (.c (.int .i64 3))),mO 12 92]) (.seq (.seq (.reg [mO 93 12,oO 94 (.bin .lss (.t 93) (.c (.int .u8 128))),mO 95 94,⟨some 96,.mv (.t 12),some (95,false)⟩,⟨some 97,.bin .lss (.c (.int .u8 191)) (.t 96),some (95,false)⟩,oO 98 (.pick (.t 95) (.c (.bool true)) (.t 97))]) (.cond (.t 98) (.seq (.reg [oO 2 (.mv (.c (.int .i32 65533))),oO 3 (.mv (.c (.int .i64 1)))]) (.ret)) (.skip))) (.seq (.reg [mO 99 5,oO 100 (.bin .and (.t 99) (.c (.int .u8 7))),oO 101 (.wrp .i32 (.t 100)),oO 102 (.bin .shl (.t 101) (.c (.int .u64 18))),mO 103 10,oO 104 (.bin .and (.t 103) (.c (.int .u8 63))),oO 105 (.wrp .i32 (.t 104)),oO 106 (.bin .shl (.t 105) (.c (.int .u64 12))),oO 107 (.bin .or (.t 102) (.t 106)),mO 108 11,oO 109 (.bin .and (.t 108) (.c (.int .u8 63))),oO 110 (.wrp .i32 (.t 109)),oO 111 (.bin .shl (.t 110) (.c (.int .u64 6))),oO 112 (.bin .or (.t 107) (.t 111)),mO 113 12,oO 114 (.bin .and (.t 113) (.c (.int .u8 63))),oO 115 (.wrp .i32 (.t 114)),oO 116 (.bin .or (.t 112) (.t 115)),mO 2 116,oO 3 (.mv (.c (.int .i64 4)))]) (.ret)))))))))))))))))),res := [(2,none),(3,none)] }
def c338 : VF := { code := .bad,res := [(4,none)] }
def c339 : VF := { code := .seq (.reg [oO 6 (.mv (.c (.int .u64 0))),oO 7 (.mv (.c (.nili)))]) (.seq (.seq (.reg [mO 18 0,oO 19 (.bin .eql (.t 18) (.c (.str [])))]) (.cond (.t 19) (.seq (.reg [oO 20 (.mi 341 (.c (.int .i64 2))),oO 6 (.mv (.c (.int .u64 0))),mO 7 20]) (.ret)) (.skip))) (.seq (.reg [mO 21 1,oO 22 (.bin .eql (.t 21) (.c (.int .i64 0))),mO 8 22]) (.seq (.reg [mO 23 0,mO 9 23]) (.seq (.block 0 (.seq (.reg [mO 26 1,oO 27 (.bin .leq (.c (.int .i64 2)) (.t 26)),mO 28 27,⟨some 29,.mv (.t 1),some (28,true)⟩,⟨some 30,.bin .leq (.t 29) (.c (.int .i64 36)),some (28,true)⟩,oO 31 (.pick (.t 28) (.t 30) (.c (.bool false))),mO 25 31]) (.cond (.t 25) (.skip) (.seq (.reg [mO 33 1,oO 34 (.bin .eql (.t 33) (.c (.int .i64 0))),mO 32 34]) (.cond (.t 32) (.seq (.reg [oO 1 (.mv (.c (.int .i64 10)))]) (.seq (.reg [mO 35 0,oO 36 (.ix (.t 35) (.c (.int .i64 0))),oO 37 (.bin .eql (.t 36) (.c (.int .u8 48)))]) (.cond (.t 37) (.block 1 (.seq (.reg [mO 41 0,oO 42 (.len true (.t 41)),oO 43 (.bin .geq (.t 42) (.c (.int .i64 3))),mO 44 43,⟨some 45,.mv (.t 0),some (44,true)⟩,⟨some 46,.ix (.t 45) (.c (.int .i64 1)),some (44,true)⟩,⟨some 47,.call 348 [(.t 46)],some (44,true)⟩,⟨some 48,.bin .eql (.t 47) (.c (.int .u8 98)),some (44,true)⟩,oO 49 (.pick (.t 44) (.t 48) (.c (.bool false))),mO 40 49]) (.cond (.t 40) (.seq (.reg [oO 1 (.mv (.c (.int .i64 2)))]) (.reg [mO 50 0,oO 51 (.cut true 1 (.t 50) (some (.c (.int .i64 2))) none none),mO 0 51])) (.seq (.reg [mO 53 0,oO 54 (.len true (.t 53)),oO 55 (.bin .geq (.t 54) (.c (.int .i64 3))),mO 56 55,⟨some 57,.mv (.t 0),some (56,true)⟩,⟨some 58,.ix (.t 57) (.c (.int .i64 1)),some (56,true)⟩,⟨some 59,.call 348 [(.t 58)],some (56,true)⟩,⟨some 60,.bin .eql (.t 59) (.c (.int .u8 111)),some (56,true)⟩,oO 61 (.pick (.t 56) (.t 60) (.c (.bool false))),mO 52 61]) (.cond (.t 52) (.seq (.reg [oO 1 (.mv (.c (.int .i64 8)))]) (.reg [mO 62 0,oO 63 (.cut true 1 (.t 62) (some (.c (.int .i64 2))) none none),mO 0 63])) (.seq (.reg [mO 65 0,oO 66 (.len true (.t 65)),oO 67 (.bin .geq (.t 66) (.c (.int .i64 3))),mO 68 67,⟨some 69,.mv (.t 0),some (68,true)⟩,⟨some 70,.ix (.t 69) (.c (.int .i64 1)),some (68,true)⟩,⟨some 71,.call 348 [(.t 70)],some (68,true)⟩,⟨some 72,.bin .eql (.t 71) (.c (.int .u8 120)),some (68,true)⟩,oO 73 (.pick (.t 68) (.t 72) (.c (.bool false))),mO 64 73]) (.cond (.t 64) (.seq (.reg [oO 1 (.mv (.c (.int .i64 16)))]) (.reg [mO 74 0,oO 75 (.cut true 1 (.t 74) (some (.c (.int .i64 2))) none none),mO 0 75])) (.seq (.reg [oO 1 (.mv (.c (.int .i64 8)))]) (.reg [mO 38 0,oO 39 (.cut true 1 (.t 38) (some (.c (.int .i64 1))) none none),mO 0 39]))))))))) (.skip)))) (.seq (.reg [oO 24 (.mi 341 (.c (.int .i64 3))),oO 6 (.mv (.c (.int .u64 0))),mO 7 24]) (.ret))))))) (.seq (.seq (.reg [mO 76 2,oO 77 (.bin .eql (.t 76) (.c (.int .i64 0)))]) (.cond (.t 77) (.reg [oO 2 (.mv (.c (.int .i64 64)))]) (.seq (.reg [mO 78 2,oO 79 (.bin .lss (.t 78) (.c (.int .i64 0))),mO 80 79,⟨some 81,.mv (.t 2),some (80,false)⟩,⟨some 82,.bin .gtr (.t 81) (.c (.int .i64 64)),some (80,false)⟩,oO 83 (.pick (.t 80) (.c (.bool true)) (.t 82))]) (.cond (.t 83) (.seq (.reg [oO 84 (.mi 341 (.c (.int .i64 4))),oO 6 (.mv (.c (.int .u64 0))),mO 7 84]) (.ret)) (.skip))))) (.seq (.reg [oO 10 (.mv (.c (.int .u64 0)))]) (.seq (.seq (.reg [mO 85 1]) (.block 2 (.seq (.reg [oO 91 (.bin .eql (.t 85) (.c (.int .i64 10))),mO 90 91]) (.cond (.t 90) (.reg [oO 10 (.mv (.c (.int .u64 1844674407370955162)))]) (.seq (.reg [oO 93 (.bin .eql (.t 85) (.c (.int .i64 16))),mO 92 93]) (.cond (.t 92) (.reg [oO 10 (.mv (.c (.int .u64 1152921504606846976)))]) (.reg [mO 86 1,oO 87 (.wrp .u64 (.t 86)),oO 88 (.bin .quo (.c (.int .u64 18446744073709551615)) (.t 87)),oO 89 (.bin .add (.t 88) (.c (.int .u64 1))),mO 10 89]))))))) (.seq (.reg [mO 94 2,oO 95 (.wrp .u64 (.t 94)),oO 96 (.bin .shl (.c (.int .u64 1)) (.t 95)),oO 97 (.bin .sub (.t 96) (.c (.int .u64 1))),mO 11 97]) (.seq (.reg [oO 12 (.mv (.c (.bool false)))]) (.seq (.reg [oO 13 (.mv (.c (.int .u64 0)))]) (.seq (.seq (.reg [mO 98 0,oO 99 (.s2b (.t 98)),oO 100 (.len false (.t 99)),oO 101 (.mv (.c (.int .i64 0)))]) (.block 3 (.loop [1,8,9,10,11,12,13,99,100,101] (.seq (.reg [oO 102 (.bin .lss (.t 101) (.t 100))]) (.seq (.cond (.t 102) (.skip) (.exit 3)) (.seq (.block 4 (.seq (.reg [oO 103 (.ia none 1 (.t 99) (.t 101)),oO 104 (.ld false 1 (.t 103)),mO 15 104]) (.seq (.reg [oO 16 (.mv (.c (.int .u8 0)))]) (.seq (.block 5 (.seq (.reg [mO 107 15,oO 108 (.bin .eql (.t 107) (.c (.int .u8 95))),mO 109 108,⟨some 110,.mv (.t 8),some (109,true)⟩,oO 111 (.pick (.t 109) (.t 110) (.c (.bool false))),mO 106 111]) (.cond (.t 106) (.seq (.reg [oO 12 (.mv (.c (.bool true)))]) (.exit 4)) (.seq (.reg [mO 113 15,oO 114 (.bin .leq (.c (.int .u8 48)) (.t 113)),mO 115 114,⟨some 116,.mv (.t 15),some (115,true)⟩,⟨some 117,.bin .leq (.t 116) (.c (.int .u8 57)),some (115,true)⟩,oO 118 (.pick (.t 115) (.t 117) (.c (.bool false))),mO 112 118]) (.cond (.t 112) (.reg [mO 119 15,oO 120 (.bin .sub (.t 119) (.c (.int .u8 48))),mO 16 120]) (.seq (.reg [mO 122 15,oO 123 (.call 348 [(.t 122)]),oO 124 (.bin .leq (.c (.int .u8 97)) (.t 123)),mO 125 124,⟨some 126,.mv (.t 15),some (125,true)⟩,⟨some 127,.call 348 [(.t 126)],some (125,true)⟩,⟨some 128,.bin .leq (.t 127) (.c (.int .u8 122)),some (125,true)⟩,oO 129 (.pick (.t 125) (.t 128) (.c (.bool false))),mO 121 129]) (.cond (.t 121) (.reg [mO 130 15,oO 131 (.call 348 [(.t 130)]),oO 132 (.bin .sub (.t 131) (.c (.int .u8 97))),oO 133 (.bin .add (.t 132) (.c (.int .u8 10))),mO 16 133]) (.seq (.reg [oO 105 (.mi 341 (.c (.int .i64 2))),oO 6 (.mv (.c (.int .u64 0))),mO 7 105]) (.ret))))))))) (.seq (.seq (.reg [mO 134 16,mO 135 1,oO 136 (.wrp .u8 (.t 135)),oO 137 (.bin .geq (.t 134) (.t 136))]) (.cond (.t 137) (.seq (.reg [oO 138 (.mi 341 (.c (.int .i64 2))),oO 6 (.mv (.c (.int .u64 0))),mO 7 138]) (.ret)) (.skip))) (.seq (.seq (.reg [mO 139 13,mO 140 10,oO 141 (.bin .geq (.t 139) (.t 140))]) (.cond (.t 141) (.seq (.reg [mO 142 11,oO 143 (.mi 341 (.c (.int .i64 1))),mO 6 142,mO 7 143]) (.ret)) (.skip))) (.seq (.reg [mO 144 13,mO 145 1,oO 146 (.wrp .u64 (.t 145)),oO 147 (.bin .mul (.t 144) (.t 146)),mO 13 147]) (.seq (.reg [mO 148 13,mO 149 16,oO 150 (.wrp .u64 (.t 149)),oO 151 (.bin .add (.t 148) (.t 150)),mO 17 151]) (.seq (.seq (.reg [mO 152 17,mO 153 13,oO 154 (.bin .lss (.t 152) (.t 153)),mO 155 154,⟨some 156,.mv (.t 17),some (155,false)⟩,⟨some 157,.mv (.t 11),some (155,false)⟩,⟨some 158,.bin .gtr (.t 156) (.t 157),some (155,false)⟩,oO 159 (.pick (.t 155) (.c (.bool true)) (.t 158))]) (.cond (.t 159) (.seq (.reg [mO 160 11,oO 161 (.mi 341 (.c (.int .i64 1))),mO 6 160,mO 7 161]) (.ret)) (.skip))) (.reg [mO 162 17,mO 13 162])))))))))) (.reg [oO 163 (.bin .add (.t 101) (.c (.int .i64 1))),mO 101 163]))))))) (.seq (.seq (.reg [mO 164 12,mO 165 164,⟨some 166,.mv (.t 9),some (165,true)⟩,⟨some 167,.call 349 [(.t 166)],some (165,true)⟩,⟨some 168,.not (.t 167),some (165,true)⟩,oO 169 (.pick (.t 165) (.t 168) (.c (.bool false)))]) (.cond (.t 169) (.seq (.reg [oO 170 (.mi 341 (.c (.int .i64 2))),oO 6 (.mv (.c (.int .u64 0))),mO 7 170]) (.ret)) (.skip))) (.seq (.reg [mO 171 13,mO 6 171,oO 7 (.mv (.c (.nili)))]) (.ret)))))))))))))),res := [(6,none),(7,none)] }
def c340 : VF := { code := .seq (.reg [oO 2 (.mv (.c (.str [])))]) (.seq (.seq (.reg [mO 4 0,oO 5 (.len true (.t 4)),oO 6 (.bin .eql (.t 5) (.c (.int .i64 0)))]) (.cond (.t 6) (.seq (.reg [oO 2 (.mv (.c (.str [])))]) (.ret)) (.skip))) (.seq (.reg [mO 7 0,oO 8 (.len true (.t 7)),oO 9 (.mk 0 false [.int .u8 0] (.t 8) (.t 8)),mO 3 9]) (.seq (.reg [mO 10 3,mO 11 0,oO 12 (.bad)]) (.seq (.reg [mO 13 3,oO 14 (.ia none 1 (.t 13) (.c (.int .i64 0))),mO 15 3,oO 16 (.len false (.t 15)),oO 17 (.bad),mO 2 17]) (.ret))))),res := [(2,none)] }
def c341 : VF := { code := .seq (.reg [oO 2 (.mv (.c (.nili)))]) (.seq (.reg [mO 3 0,oO 4 (.bd [.str []] [(0,1,(.t 3))]),oO 5 (.bx (.t 4) []),oO 6 (.mi 362 (.t 5)),mO 2 6]) (.ret)),res := [(2,none)] }
def c342 : VF := { code := .seq (.reg [oO 4 (.mv (.c (.str [])))]) (.seq (.seq (.reg [mO 10 1,oO 11 (.bin .eql (.t 10) (.c (.int .i64 10)))]) (.cond (.t 11) (.seq (.seq (.reg [mO 12 0,oO 13 (.bin .leq (.c (.int .i64 0)) (.t 12)),mO 14 13,⟨some 15,.mv (.t 0),some (14,true)⟩,⟨some 16,.bin .lss (.t 15) (.c (.int .i64 100)),some (14,true)⟩,oO 17 (.pick (.t 14) (.t 16) (.c (.bool false)))]) (.cond (.t 17) (.seq (.reg [mO 18 0,oO 19 (.call 350 [(.t 18)]),mO 4 19]) (.ret)) (.skip))) (.seq (.reg [oO 5 (.al [.int .u8 0,.int .u8 0,.int .u8 0,.int .u8 0,.int .u8 0,.int .u8 0,.int .u8 0,.int .u8 0,.int .u8 0,.int .u8 0,.int .u8 0,.int .u8 0,.int .u8 0,.int .u8 0,.int .u8 0,.int .u8 0,.int .u8 0,.int .u8 0,.int .u8 0,.int .u8 0,.int .u8 0,.int .u8 0,.int .u8 0,.int .u8 0] [])]) (.seq (.reg [mO 20 0,oO 21 (.wrp .u64 (.t 20)),mO 6 21]) (.seq (.seq (.reg [mO 22 0,oO 23 (.bin .lss (.t 22) (.c (.int .i64 0)))]) (.cond (.t 23) (.reg [mO 24 6,oO 25 (.neg (.t 24)),mO 6 25]) (.skip))) (.seq (.reg [mO 26 6,oO 27 (.call 351 [(.t 26)]),mO 7 27]) (.seq (.reg [mO 28 7,oO 29 (.bin .add (.c (.int .i64 1)) (.t 28)),oO 30 (.bad),mO 31 6,oO 32 (.call 352 [(.t 30),(.t 31)])]) (.seq (.seq (.reg [mO 33 0,oO 34 (.bin .lss (.t 33) (.c (.int .i64 0)))]) (.cond (.t 34) (.seq (.reg [oO 35 (.ia (some 24) 1 (.t 5) (.c (.int .i64 0))),nO (.st false 1 (.t 35) (.c (.int .u8 45)))]) (.seq (.reg [mO 36 7,oO 37 (.bin .add (.c (.int .i64 1)) (.t 36)),oO 38 (.bad),oO 39 (.b2s (.t 38)),mO 4 39]) (.ret))) (.skip))) (.seq (.reg [mO 40 7,oO 41 (.bin .add (.c (.int .i64 1)) (.t 40)),oO 42 (.bad),oO 43 (.b2s (.t 42)),mO 4 43]) (.ret))))))))) (.skip))) (.seq (.reg [mO 45 0,oO 46 (.wrp .u64 (.t 45)),mO 47 1,mO 48 0,oO 49 (.bin .lss (.t 48) (.c (.int .i64 0))),oO 50 (.call 353 [(.c (.sl .ex 1 [])),(.t 46),(.t 47),(.t 49),(.c (.bool false))]),mO 44 50,oO 51 (.ex (.t 44) 0),oO 52 (.ex (.t 44) 1),mO 8 51,mO 9 52]) (.seq (.reg [mO 53 9,mO 4 53]) (.ret)))),res := [(4,none)] }
def c343 : VF := { code := .seq (.reg [oO 2 (.mv (.c (.int .i64 0)))]) (.seq (.seq (.reg [oO 5 (.bl 1 [(.c (.str [43])),(.c (.str [45])),(.c (.str [42]))]),oO 6 (.len false (.t 5)),oO 7 (.mv (.c (.int .i64 0)))]) (.block 0 (.loop [0,5,6,7] (.seq (.reg [oO 8 (.bin .lss (.t 7) (.t 6))]) (.seq (.cond (.t 8) (.skip) (.exit 0)) (.seq (.block 1 (.seq (.reg [mO 9 7,oO 10 (.ia none 1 (.t 5) (.t 7)),oO 11 (.ld false 1 (.t 10)),mO 3 9,mO 4 11]) (.seq (.reg [mO 12 0,mO 13 4,oO 14 (.call 283 [(.t 12),(.t 13)])]) (.cond (.t 14) (.seq (.reg [mO 15 3,oO 16 (.bin .add (.c (.int .i64 3)) (.t 15)),mO 2 16]) (.ret)) (.skip))))) (.reg [oO 17 (.bin .add (.t 7) (.c (.int .i64 1))),mO 7 17]))))))) (.seq (.seq (.reg [mO 18 0,oO 19 (.call 232 [(.t 18)])]) (.cond (.t 19) (.reg [mO 20 0,oO 21 (.nc (.t 20)),oO 22 (.fa 2 (.t 21)),nO (.st false 1 (.t 22) (.c (.bool true)))]) (.skip))) (.seq (.reg [oO 2 (.mv (.c (.int .i64 0)))]) (.ret)))),res := [(2,none)] }
def c344 : VF := { code := .seq (.reg [oO 10 (.mv (.c (.int .i64 0)))]) (.block 0 (.loop [0,1,2,3,10] (.seq (.seq (.reg [mO 11 10,mO 12 3,oO 13 (.bin .lss (.t 11) (.t 12))]) (.cond (.t 13) (.skip) (.exit 0))) (.seq (.block 1 (.drw [⟨0,[],mO 16 0,false,[]⟩,⟨1,[],mO 17 1,false,[]⟩,⟨2,[],mO 18 10,false,[]⟩,⟨3,[1,2],oO 19 (.bin .add (.t 17) (.t 18)),false,[]⟩,⟨4,[],mO 20 0,false,[]⟩,⟨5,[],mO 21 2,false,[]⟩,⟨6,[],mO 22 10,false,[]⟩,⟨7,[5,6],oO 23 (.bin .add (.t 21) (.t 22)),false,[]⟩,⟨8,[],mO 24 0,false,[]⟩,⟨9,[],mO 25 2,false,[]⟩,⟨10,[],mO 26 10,false,[]⟩,⟨11,[9,10],oO 27 (.bin .add (.t 25) (.t 26)),false,[]⟩,⟨12,[8,9,10,11],oO 28 (.ia none 4 (.t 24) (.t 27)),false,[]⟩,⟨13,[8,9,10,11,12],oO 29 (.ld true 4 (.t 28)),false,[]⟩,⟨14,[],mO 30 0,false,[]⟩,⟨15,[],mO 31 1,false,[]⟩,⟨16,[],mO 32 10,false,[]⟩,⟨17,[15,16],oO 33 (.bin .add (.t 31) (.t 32)),false,[]⟩,⟨18,[14,15,16,17],oO 34 (.ia none 4 (.t 30) (.t 33)),false,[]⟩,⟨19,[14,15,16,17,18],oO 35 (.ld true 4 (.t 34)),false,[]⟩,⟨20,[0,1,2,3,8,9,10,11,12,13,14,15,16,17,18,19],oO 36 (.ia none 4 (.t 16) (.t 19)),false,[]⟩,⟨21,[0,1,2,3,8,9,10,11,12,13,14,15,16,17,18,19,20],nO (.st true 4 (.t 36) (.t 29)),true,[]⟩,⟨22,(rO 22),oO 37 (.ia none 4 (.t 20) (.t 23)),false,[]⟩,⟨23,(rO 23),nO (.st true 4 (.t 37) (.t 35)),true,[]⟩])) (.reg [mO 14 10,oO 15 (.bin .add (.t 14) (.c (.int .i64 1))),mO 10 15]))))),res := [] }
def c348 : VF := { code := .seq (.reg [oO 2 (.mv (.c (.int .u8 0)))]) (.seq (.reg [mO 3 0,oO 4 (.bin .or (.t 3) (.c (.int .u8 32))),mO 2 4]) (.ret)),res := [(2,none)] }
def c349 : VF := { code := .seq (.reg [oO 2 (.mv (.c (.bool false)))]) (.seq (.reg [oO 3 (.mv (.c (.int .i32 94)))]) (.seq (.reg [oO 4 (.mv (.c (.int .i64 0)))]) (.seq (.seq (.reg [mO 6 0,oO 7 (.len true (.t 6)),oO 8 (.bin .geq (.t 7) (.c (.int .i64 1))),mO 9 8,⟨some 10,.mv (.t 0),some (9,true)⟩,⟨some 11,.ix (.t 10) (.c (.int .i64 0)),some (9,true)⟩,⟨some 12,.bin .eql (.t 11) (.c (.int .u8 45)),some (9,true)⟩,⟨some 13,.mv (.t 12),some (9,true)⟩,⟨some 14,.mv (.t 0),some (13,false)⟩,⟨some 15,.ix (.t 14) (.c (.int .i64 0)),some (13,false)⟩,⟨some 16,.bin .eql (.t 15) (.c (.int .u8 43)),some (13,false)⟩,⟨some 17,.pick (.t 13) (.c (.bool true)) (.t 16),some (9,true)⟩,oO 18 (.pick (.t 9) (.t 17) (.c (.bool false)))]) (.cond (.t 18) (.reg [mO 19 0,oO 20 (.cut true 1 (.t 19) (some (.c (.int .i64 1))) none none),mO 0 20]) (.skip))) (.seq (.reg [oO 5 (.mv (.c (.bool false)))]) (.seq (.seq (.reg [mO 21 0,oO 22 (.len true (.t 21)),oO 23 (.bin .geq (.t 22) (.c (.int .i64 2))),mO 24 23,⟨some 25,.mv (.t 0),some (24,true)⟩,⟨some 26,.ix (.t 25) (.c (.int .i64 0)),some (24,true)⟩,⟨some 27,.bin .eql (.t 26) (.c (.int .u8 48)),some (24,true)⟩,oO 28 (.pick (.t 24) (.t 27) (.c (.bool false))),mO 29 28,⟨some 30,.mv (.t 0),some (29,true)⟩,⟨some 31,.ix (.t 30) (.c (.int .i64 1)),some (29,true)⟩,⟨some 32,.call 348 [(.t 31)],some (29,true)⟩,⟨some 33,.bin .eql (.t 32) (.c (.int .u8 98)),some (29,true)⟩,⟨some 34,.mv (.t 33),some (29,true)⟩,⟨some 35,.mv (.t 0),some (34,false)⟩,⟨some 36,.ix (.t 35) (.c (.int .i64 1)),some (34,false)⟩,⟨some 37,.call 348 [(.t 36)],some (34,false)⟩,⟨some 38,.bin .eql (.t 37) (.c (.int .u8 111)),some (34,false)⟩,⟨some 39,.pick (.t 34) (.c (.bool true)) (.t 38),some (29,true)⟩,⟨some 40,.mv (.t 39),some (29,true)⟩,⟨some 41,.mv (.t 0),some (40,false)⟩,⟨some 42,.ix (.t 41) (.c (.int .i64 1)),some (40,false)⟩,⟨some 43,.call 348 [(.t 42)],some (40,false)⟩,⟨some 44,.bin .eql (.t 43) (.c (.int .u8 120)),some (40,false)⟩,⟨some 45,.pick (.t 40) (.c (.bool true)) (.t 44),some (29,true)⟩,oO 46 (.pick (.t 29) (.t 45) (.c (.bool false)))]) (.cond (.t 46) (.seq (.reg [oO 4 (.mv (.c (.int .i64 2)))]) (.seq (.reg [oO 3 (.mv (.c (.int .i32 48)))]) (.reg [mO 47 0,oO 48 (.ix (.t 47) (.c (.int .i64 1))),oO 49 (.call 348 [(.t 48)]),oO 50 (.bin .eql (.t 49) (.c (.int .u8 120))),mO 5 50]))) (.skip))) (.seq (.block 0 (.loop [0,3,4,5] (.seq (.seq (.reg [mO 51 4,mO 52 0,oO 53 (.len true (.t 52)),oO 54 (.bin .lss (.t 51) (.t 53))]) (.cond (.t 54) (.skip) (.exit 0))) (.seq (.block 1 (.seq (.seq (.reg [mO 57 0,mO 58 4,oO 59 (.ix (.t 57) (.t 58)),oO 60 (.bin .leq (.c (.int .u8 48)) (.t 59)),mO 61 60,⟨some 62,.mv (.t 0),some (61,true)⟩,⟨some 63,.mv (.t 4),some (61,true)⟩,⟨some 64,.ix (.t 62) (.t 63),some (61,true)⟩,⟨some 65,.bin .leq (.t 64) (.c (.int .u8 57)),some (61,true)⟩,oO 66 (.pick (.t 61) (.t 65) (.c (.bool false))),mO 67 66,⟨some 68,.mv (.t 5),some (67,false)⟩,⟨some 69,.mv (.t 68),some (67,false)⟩,⟨some 70,.mv (.t 0),some (69,true)⟩,⟨some 71,.mv (.t 4),some (69,true)⟩,⟨some 72,.ix (.t 70) (.t 71),some (69,true)⟩,⟨some 73,.call 348 [(.t 72)],some (69,true)⟩,⟨some 74,.bin .leq (.c (.int .u8 97)) (.t 73),some (69,true)⟩,⟨some 75,.pick (.t 69) (.t 74) (.c (.bool false)),some (67,false)⟩,⟨some 76,.mv (.t 75),some (67,false)⟩,⟨some 77,.mv (.t 0),some (76,true)⟩,⟨some 78,.mv (.t 4),some (76,true)⟩,⟨some 79,.ix (.t 77) (.t 78),some (76,true)⟩,⟨some 80,.call 348 [(.t 79)],some (76,true)⟩,⟨some 81,.bin .leq (.t 80) (.c (.int .u8 102)),some (76,true)⟩,⟨some 82,.pick (.t 76) (.t 81) (.c (.bool false)),some (67,false)⟩,oO 83 (.pick (.t 67) (.c (.bool true)) (.t 82))]) (.cond (.t 83) (.seq (.reg [oO 3 (.mv (.c (.int .i32 48)))]) (.exit 1)) (.skip))) (.seq (.seq (.reg [mO 84 0,mO 85 4,oO 86 (.ix (.t 84) (.t 85)),oO 87 (.bin .eql (.t 86) (.c (.int .u8 95)))]) (.cond (.t 87) (.seq (.seq (.reg [mO 88 3,oO 89 (.bin .neq (.t 88) (.c (.int .i32 48)))]) (.cond (.t 89) (.seq (.reg [oO 2 (.mv (.c (.bool false)))]) (.ret)) (.skip))) (.seq (.reg [oO 3 (.mv (.c (.int .i32 95)))]) (.exit 1))) (.skip))) (.seq (.seq (.reg [mO 90 3,oO 91 (.bin .eql (.t 90) (.c (.int .i32 95)))]) (.cond (.t 91) (.seq (.reg [oO 2 (.mv (.c (.bool false)))]) (.ret)) (.skip))) (.reg [oO 3 (.mv (.c (.int .i32 33)))]))))) (.reg [mO 55 4,oO 56 (.bin .add (.t 55) (.c (.int .i64 1))),mO 4 56]))))) (.seq (.reg [mO 92 3,oO 93 (.bin .neq (.t 92) (.c (.int .i32 95))),mO 2 93]) (.ret)))))))),res := [(2,none)] }
def c350 : VF := { code := .seq (.reg [oO 2 (.mv (.c (.str [])))]) (.seq (.seq (.reg [mO 3 0,oO 4 (.bin .lss (.t 3) (.c (.int .i64 10)))]) (.cond (.t 4) (.seq (.reg [mO 5 0,mO 6 0,oO 7 (.bin .add (.t 6) (.c (.int .i64 1))),oO 8 (.cut true 1 (.c (.str [48,49,50,51,52,53,54,55,56,57,97,98,99,100,101,102,103,104,105,106,107,108,109,110,111,112,113,114,115,116,117,118,119,120,121,122])) (some (.t 5)) (some (.t 7)) none),mO 2 8]) (.ret)) (.skip))) (.seq (.reg [mO 9 0,oO 10 (.bin .mul (.t 9) (.c (.int .i64 2))),mO 11 0,oO 12 (.bin .mul (.t 11) (.c (.int .i64 2))),oO 13 (.bin .add (.t 12) (.c (.int .i64 2))),oO 14 (.cut true 1 (.c (.str [48,48,48,49,48,50,48,51,48,52,48,53,48,54,48,55,48,56,48,57,49,48,49,49,49,50,49,51,49,52,49,53,49,54,49,55,49,56,49,57,50,48,50,49,50,50,50,51,50,52,50,53,50,54,50,55,50,56,50,57,51,48,51,49,51,50,51,51,51,52,51,53,51,54,51,55,51,56,51,57,52,48,52,49,52,50,52,51,52,52,52,53,52,54,52,55,52,56,52,57,53,48,53,49,53,50,53,51,53,52,53,53,53,54,53,55,53,56,53,57,54,48,54,49,54,50,54,51,54,52,54,53,54,54,54,55,54,56,54,57,55,48,55,49,55,50,55,51,55,52,55,53,55,54,55,55,55,56,55,57,56,48,56,49,56,50,56,51,56,52,56,53,56,54,56,55,56,56,56,57,57,48,57,49,57,50,57,51,57,52,57,53,57,54,57,55,57,56,57,57])) (some (.t 10)) (some (.t 13)) none),mO 2 14]) (.ret))),res := [(2,none)] }
def c351 : VF := { code := .seq (.reg [oO 2 (.mv (.c (.int .i64 0)))]) (.seq (.reg [mO 4 0,oO 5 (.call 273 [(.t 4)]),oO 6 (.call 354 [(.t 5)]),mO 3 6]) (.seq (.reg [mO 7 3,mO 8 0,mO 9 3,oO 10 (.bad),oO 11 (.ld false 1 (.t 10)),oO 12 (.bin .geq (.t 8) (.t 11)),oO 13 (.call 355 [(.t 12)]),oO 14 (.bin .add (.t 7) (.t 13)),mO 2 14]) (.ret))),res := [(2,none)] }
def c352 : VF := { code := .seq (.reg [mO 17 0,oO 18 (.len false (.t 17)),mO 4 18]) (.seq (.block 0 (.loop [0,1,4] (.seq (.seq (.reg [mO 19 4,oO 20 (.bin .geq (.t 19) (.c (.int .i64 8)))]) (.cond (.t 20) (.skip) (.exit 0))) (.block 1 (.seq (.reg [mO 21 1,oO 22 (.bin .rem (.t 21) (.c (.int .u64 100000000))),oO 23 (.wrp .u32 (.t 22)),mO 5 23]) (.seq (.reg [mO 24 1,oO 25 (.bin .quo (.t 24) (.c (.int .u64 100000000))),mO 1 25]) (.seq (.reg [mO 26 5,oO 27 (.bin .quo (.t 26) (.c (.int .u32 10000))),mO 28 5,oO 29 (.bin .rem (.t 28) (.c (.int .u32 10000))),mO 6 27,mO 7 29]) (.seq (.reg [mO 30 7,oO 31 (.bin .quo (.t 30) (.c (.int .u32 100))),oO 32 (.bin .mul (.t 31) (.c (.int .u32 2))),mO 33 7,oO 34 (.bin .rem (.t 33) (.c (.int .u32 100))),oO 35 (.bin .mul (.t 34) (.c (.int .u32 2))),mO 8 32,mO 9 35]) (.seq (.reg [mO 36 6,oO 37 (.bin .quo (.t 36) (.c (.int .u32 100))),oO 38 (.bin .mul (.t 37) (.c (.int .u32 2))),mO 39 6,oO 40 (.bin .rem (.t 39) (.c (.int .u32 100))),oO 41 (.bin .mul (.t 40) (.c (.int .u32 2))),mO 10 38,mO 11 41]) (.seq (.drw [⟨0,[],mO 42 0,false,[]⟩,⟨1,[],mO 43 4,false,[]⟩,⟨2,[1],oO 44 (.bin .sub (.t 43) (.c (.int .i64 1))),false,[]⟩,⟨3,[],mO 45 0,false,[]⟩,⟨4,[],mO 46 4,false,[]⟩,⟨5,[4],oO 47 (.bin .sub (.t 46) (.c (.int .i64 2))),false,[]⟩,⟨6,[],mO 48 9,false,[]⟩,⟨7,[6],oO 49 (.bin .add (.t 48) (.c (.int .u32 1))),false,[]⟩,⟨8,[6,7],oO 50 (.ix (.c (.str [48,48,48,49,48,50,48,51,48,52,48,53,48,54,48,55,48,56,48,57,49,48,49,49,49,50,49,51,49,52,49,53,49,54,49,55,49,56,49,57,50,48,50,49,50,50,50,51,50,52,50,53,50,54,50,55,50,56,50,57,51,48,51,49,51,50,51,51,51,52,51,53,51,54,51,55,51,56,51,57,52,48,52,49,52,50,52,51,52,52,52,53,52,54,52,55,52,56,52,57,53,48,53,49,53,50,53,51,53,52,53,53,53,54,53,55,53,56,53,57,54,48,54,49,54,50,54,51,54,52,54,53,54,54,54,55,54,56,54,57,55,48,55,49,55,50,55,51,55,52,55,53,55,54,55,55,55,56,55,57,56,48,56,49,56,50,56,51,56,52,56,53,56,54,56,55,56,56,56,57,57,48,57,49,57,50,57,51,57,52,57,53,57,54,57,55,57,56,57,57])) (.t 49)),false,[]⟩,⟨9,[],mO 51 9,false,[]⟩,⟨10,[9],oO 52 (.ix (.c (.str [48,48,48,49,48,50,48,51,48,52,48,53,48,54,48,55,48,56,48,57,49,48,49,49,49,50,49,51,49,52,49,53,49,54,49,55,49,56,49,57,50,48,50,49,50,50,50,51,50,52,50,53,50,54,50,55,50,56,50,57,51,48,51,49,51,50,51,51,51,52,51,53,51,54,51,55,51,56,51,57,52,48,52,49,52,50,52,51,52,52,52,53,52,54,52,55,52,56,52,57,53,48,53,49,53,50,53,51,53,52,53,53,53,54,53,55,53,56,53,57,54,48,54,49,54,50,54,51,54,52,54,53,54,54,54,55,54,56,54,57,55,48,55,49,55,50,55,51,55,52,55,53,55,54,55,55,55,56,55,57,56,48,56,49,56,50,56,51,56,52,56,53,56,54,56,55,56,56,56,57,57,48,57,49,57,50,57,51,57,52,57,53,57,54,57,55,57,56,57,57])) (.t 51)),false,[]⟩,⟨11,[0,1,2,6,7,8],oO 53 (.ia none 1 (.t 42) (.t 44)),false,[]⟩,⟨12,[0,1,2,6,7,8,11],nO (.st false 1 (.t 53) (.t 50)),true,[]⟩,⟨13,(rO 13),oO 54 (.ia none 1 (.t 45) (.t 47)),false,[]⟩,⟨14,(rO 14),nO (.st false 1 (.t 54) (.t 52)),true,[]⟩]) (.seq (.drw [⟨0,[],mO 55 0,false,[]⟩,⟨1,[],mO 56 4,false,[]⟩,⟨2,[1],oO 57 (.bin .sub (.t 56) (.c (.int .i64 3))),false,[]⟩,⟨3,[],mO 58 0,false,[]⟩,⟨4,[],mO 59 4,false,[]⟩,⟨5,[4],oO 60 (.bin .sub (.t 59) (.c (.int .i64 4))),false,[]⟩,⟨6,[],mO 61 8,false,[]⟩,⟨7,[6],oO 62 (.bin .add (.t 61) (.c (.int .u32 1))),false,[]⟩,⟨8,[6,7],oO 63 (.ix (.c (.str [48,48,48,49,48,50,48,51,48,52,48,53,48,54,48,55,48,56,48,57,49,48,49,49,49,50,49,51,49,52,49,53,49,54,49,55,49,56,49,57,50,48,50,49,50,50,50,51,50,52,50,53,50,54,50,55,50,56,50,57,51,48,51,49,51,50,51,51,51,52,51,53,51,54,51,55,51,56,51,57,52,48,52,49,52,50,52,51,52,52,52,53,52,54,52,55,52,56,52,57,53,48,53,49,53,50,53,51,53,52,53,53,53,54,53,55,53,56,53,57,54,48,54,49,54,50,54,51,54,52,54,53,54,54,54,55,54,56,54,57,55,48,55,49,55,50,55,51,55,52,55,53,55,54,55,55,55,56,55,57,56,48,56,49,56,50,56,51,56,52,56,53,56,54,56,55,56,56,56,57,57,48,57,49,57,50,57,51,57,52,57,53,57,54,57,55,57,56,57,57])) (.t 62)),false,[]⟩,⟨9,[],mO 64 8,false,[]⟩,⟨10,[9],oO 65 (.ix (.c (.str [48,48,48,49,48,50,48,51,48,52,48,53,48,54,48,55,48,56,48,57,49,48,49,49,49,50,49,51,49,52,49,53,49,54,49,55,49,56,49,57,50,48,50,49,50,50,50,51,50,52,50,53,50,54,50,55,50,56,50,57,51,48,51,49,51,50,51,51,51,52,51,53,51,54,51,55,51,56,51,57,52,48,52,49,52,50,52,51,52,52,52,53,52,54,52,55,52,56,52,57,53,48,53,49,53,50,53,51,53,52,53,53,53,54,53,55,53,56,53,57,54,48,54,49,54,50,54,51,54,52,54,53,54,54,54,55,54,56,54,57,55,48,55,49,55,50,55,51,55,52,55,53,55,54,55,55,55,56,55,57,56,48,56,49,56,50,56,51,56,52,56,53,56,54,56,55,56,56,56,57,57,48,57,49,57,50,57,51,57,52,57,53,57,54,57,55,57,56,57,57])) (.t 64)),false,[]⟩,⟨11,[0,1,2,6,7,8],oO 66 (.ia none 1 (.t 55) (.t 57)),false,[]⟩,⟨12,[0,1,2,6,7,8,11],nO (.st false 1 (.t 66) (.t 63)),true,[]⟩,⟨13,(rO 13),oO 67 (.ia none 1 (.t 58) (.t 60)),false,[]⟩,⟨14,(rO 14),nO (.st false 1 (.t 67) (.t 65)),true,[]⟩]) (.seq (.drw [⟨0,[],mO 68 0,false,[]⟩,⟨1,[],mO 69 4,false,[]⟩,⟨2,[1],oO 70 (.bin .sub (.t 69) (.c (.int .i64 5))),false,[]⟩,⟨3,[],mO 71 0,false,[]⟩,⟨4,[],mO 72 4,false,[]⟩,⟨5,[4],oO 73 (.bin .sub (.t 72) (.c (.int .i64 6))),false,[]⟩,⟨6,[],mO 74 11,false,[]⟩,⟨7,[6],oO 75 (.bin .add (.t 74) (.c (.int .u32 1))),false,[]⟩,⟨8,[6,7],oO 76 (.ix (.c (.str [48,48,48,49,48,50,48,51,48,52,48,53,48,54,48,55,48,56,48,57,49,48,49,49,49,50,49,51,49,52,49,53,49,54,49,55,49,56,49,57,50,48,50,49,50,50,50,51,50,52,50,53,50,54,50,55,50,56,50,57,51,48,51,49,51,50,51,51,51,52,51,53,51,54,51,55,51,56,51,57,52,48,52,49,52,50,52,51,52,52,52,53,52,54,52,55,52,56,52,57,53,48,53,49,53,50,53,51,53,52,53,53,53,54,53,55,53,56,53,57,54,48,54,49,54,50,54,51,54,52,54,53,54,54,54,55,54,56,54,57,55,48,55,49,55,50,55,51,55,52,55,53,55,54,55,55,55,56,55,57,56,48,56,49,56,50,56,51,56,52,56,53,56,54,56,55,56,56,56,57,57,48,57,49,57,50,57,51,57,52,57,53,57,54,57,55,57,56,57,57])) (.t 75)),false,[]⟩,⟨9,[],mO 77 11,false,[]⟩,⟨10,[9],oO 78 (.ix (.c (.str [48,48,48,49,48,50,48,51,48,52,48,53,48,54,48,55,48,56,48,57,49,48,49,49,49,50,49,51,49,52,49,53,49,54,49,55,49,56,49,57,50,48,50,49,50,50,50,51,50,52,50,53,50,54,50,55,50,56,50,57,51,48,51,49,51,50,51,51,51,52,51,53,51,54,51,55,51,56,51,57,52,48,52,49,52,50,52,51,52,52,52,53,52,54,52,55,52,56,52,57,53,48,53,49,53,50,53,51,53,52,53,53,53,54,53,55,53,56,53,57,54,48,54,49,54,50,54,51,54,52,54,53,54,54,54,55,54,56,54,57,55,48,55,49,55,50,55,51,55,52,55,53,55,54,55,55,55,56,55,57,56,48,56,49,56,50,56,51,56,52,56,53,56,54,56,55,56,56,56,57,57,48,57,49,57,50,57,51,57,52,57,53,57,54,57,55,57,56,57,57])) (.t 77)),false,[]⟩,⟨11,[0,1,2,6,7,8],oO 79 (.ia none 1 (.t 68) (.t 70)),false,[]⟩,⟨12,[0,1,2,6,7,8,11],nO (.st false 1 (.t 79) (.t 76)),true,[]⟩,⟨13,(rO 13),oO 80 (.ia none 1 (.t 71) (.t 73)),false,[]⟩,⟨14,(rO 14),nO (.st false 1 (.t 80) (.t 78)),true,[]⟩]) (.seq (.drw [⟨0,[],mO 81 0,false,[]⟩,⟨1,[],mO 82 4,false,[]⟩,⟨2,[1],oO 83 (.bin .sub (.t 82) (.c (.int .i64 7))),false,[]⟩,⟨3,[],mO 84 0,false,[]⟩,⟨4,[],mO 85 4,false,[]⟩,⟨5,[4],oO 86 (.bin .sub (.t 85) (.c (.int .i64 8))),false,[]⟩,⟨6,[],mO 87 10,false,[]⟩,⟨7,[6],oO 88 (.bin .add (.t 87) (.c (.int .u32 1))),false,[]⟩,⟨8,[6,7],oO 89 (.ix (.c (.str [48,48,48,49,48,50,48,51,48,52,48,53,48,54,48,55,48,56,48,57,49,48,49,49,49,50,49,51,49,52,49,53,49,54,49,55,49,56,49,57,50,48,50,49,50,50,50,51,50,52,50,53,50,54,50,55,50,56,50,57,51,48,51,49,51,50,51,51,51,52,51,53,51,54,51,55,51,56,51,57,52,48,52,49,52,50,52,51,52,52,52,53,52,54,52,55,52,56,52,57,53,48,53,49,53,50,53,51,53,52,53,53,53,54,53,55,53,56,53,57,54,48,54,49,54,50,54,51,54,52,54,53,54,54,54,55,54,56,54,57,55,48,55,49,55,50,55,51,55,52,55,53,55,54,55,55,55,56,55,57,56,48,56,49,56,50,56,51,56,52,56,53,56,54,56,55,56,56,56,57,57,48,57,49,57,50,57,51,57,52,57,53,57,54,57,55,57,56,57,57])) (.t 88)),false,[]⟩,⟨9,[],mO 90 10,false,[]⟩,⟨10,[9],oO 91 (.ix (.c (.str [48,48,48,49,48,50,48,51,48,52,48,53,48,54,48,55,48,56,48,57,49,48,49,49,49,50,49,51,49,52,49,53,49,54,49,55,49,56,49,57,50,48,50,49,50,50,50,51,50,52,50,53,50,54,50,55,50,56,50,57,51,48,51,49,51,50,51,51,51,52,51,53,51,54,51,55,51,56,51,57,52,48,52,49,52,50,52,51,52,52,52,53,52,54,52,55,52,56,52,57,53,48,53,49,53,50,53,51,53,52,53,53,53,54,53,55,53,56,53,57,54,48,54,49,54,50,54,51,54,52,54,53,54,54,54,55,54,56,54,57,55,48,55,49,55,50,55,51,55,52,55,53,55,54,55,55,55,56,55,57,56,48,56,49,56,50,56,51,56,52,56,53,56,54,56,55,56,56,56,57,57,48,57,49,57,50,57,51,57,52,57,53,57,54,57,55,57,56,57,57])) (.t 90)),false,[]⟩,⟨11,[0,1,2,6,7,8],oO 92 (.ia none 1 (.t 81) (.t 83)),false,[]⟩,⟨12,[0,1,2,6,7,8,11],nO (.st false 1 (.t 92) (.t 89)),true,[]⟩,⟨13,(rO 13),oO 93 (.ia none 1 (.t 84) (.t 86)),false,[]⟩,⟨14,(rO 14),nO (.st false 1 (.t 93) (.t 91)),true,[]⟩]) (.reg [mO 94 4,oO 95 (.bin .sub (.t 94) (.c (.int .i64 8))),mO 4 95])))))))))))))) (.seq (.reg [mO 96 1,oO 97 (.wrp .u32 (.t 96)),mO 12 97]) (.seq (.seq (.reg [mO 98 4,oO 99 (.bin .geq (.t 98) (.c (.int .i64 4)))]) (.cond (.t 99) (.seq (.reg [mO 100 12,oO 101 (.bin .rem (.t 100) (.c (.int .u32 10000))),mO 13 101]) (.seq (.reg [mO 102 12,oO 103 (.bin .quo (.t 102) (.c (.int .u32 10000))),mO 12 103]) (.seq (.reg [mO 104 13,oO 105 (.bin .quo (.t 104) (.c (.int .u32 100))),oO 106 (.bin .mul (.t 105) (.c (.int .u32 2))),mO 107 13,oO 108 (.bin .rem (.t 107) (.c (.int .u32 100))),oO 109 (.bin .mul (.t 108) (.c (.int .u32 2))),mO 14 106,mO 15 109]) (.seq (.drw [⟨0,[],mO 110 0,false,[]⟩,⟨1,[],mO 111 4,false,[]⟩,⟨2,[1],oO 112 (.bin .sub (.t 111) (.c (.int .i64 1))),false,[]⟩,⟨3,[],mO 113 0,false,[]⟩,⟨4,[],mO 114 4,false,[]⟩,⟨5,[4],oO 115 (.bin .sub (.t 114) (.c (.int .i64 2))),false,[]⟩,⟨6,[],mO 116 15,false,[]⟩,⟨7,[6],oO 117 (.bin .add (.t 116) (.c (.int .u32 1))),false,[]⟩,⟨8,[6,7],oO 118 (.ix (.c (.str [48,48,48,49,48,50,48,51,48,52,48,53,48,54,48,55,48,56,48,57,49,48,49,49,49,50,49,51,49,52,49,53,49,54,49,55,49,56,49,57,50,48,50,49,50,50,50,51,50,52,50,53,50,54,50,55,50,56,50,57,51,48,51,49,51,50,51,51,51,52,51,53,51,54,51,55,51,56,51,57,52,48,52,49,52,50,52,51,52,52,52,53,52,54,52,55,52,56,52,57,53,48,53,49,53,50,53,51,53,52,53,53,53,54,53,55,53,56,53,57,54,48,54,49,54,50,54,51,54,52,54,53,54,54,54,55,54,56,54,57,55,48,55,49,55,50,55,51,55,52,55,53,55,54,55,55,55,56,55,57,56,48,56,49,56,50,56,51,56,52,56,53,56,54,56,55,56,56,56,57,57,48,57,49,57,50,57,51,57,52,57,53,57,54,57,55,57,56,57,57])) (.t 117)),false,[]⟩,⟨9,[],mO 119 15,false,[]⟩,⟨10,[9],oO 120 (.ix (.c (.str [48,48,48,49,48,50,48,51,48,52,48,53,48,54,48,55,48,56,48,57,49,48,49,49,49,50,49,51,49,52,49,53,49,54,49,55,49,56,49,57,50,48,50,49,50,50,50,51,50,52,50,53,50,54,50,55,50,56,50,57,51,48,51,49,51,50,51,51,51,52,51,53,51,54,51,55,51,56,51,57,52,48,52,49,52,50,52,51,52,52,52,53,52,54,52,55,52,56,52,57,53,48,53,49,53,50,53,51,53,52,53,53,53,54,53,55,53,56,53,57,54,48,54,49,54,50,54,51,54,52,54,53,54,54,54,55,54,56,54,57,55,48,55,49,55,50,55,51,55,52,55,53,55,54,55,55,55,56,55,57,56,48,56,49,56,50,56,51,56,52,56,53,56,54,56,55,56,56,56,57,57,48,57,49,57,50,57,51,57,52,57,53,57,54,57,55,57,56,57,57])) (.t 119)),false,[]⟩,⟨11,[0,1,2,6,7,8],oO 121 (.ia none 1 (.t 110) (.t 112)),false,[]⟩,⟨12,[0,1,2,6,7,8,11],nO (.st false 1 (.t 121) (.t 118)),true,[]⟩,⟨13,(rO 13),oO 122 (.ia none 1 (.t 113) (.t 115)),false,[]⟩,⟨14,(rO 14),nO (.st false 1 (.t 122) (.t 120)),true,[]⟩]) (.seq (.drw [⟨0,[],mO 123 0,false,[]⟩,⟨1,[],mO 124 4,false,[]⟩,⟨2,[1],oO 125 (.bin .sub (.t 124) (.c (.int .i64 3))),false,[]⟩,⟨3,[],mO 126 0,false,[]⟩,⟨4,[],mO 127 4,false,[]⟩,⟨5,[4],oO 128 (.bin .sub (.t 127) (.c (.int .i64 4))),false,[]⟩,⟨6,[],mO 129 14,false,[]⟩,⟨7,[6],oO 130 (.bin .add (.t 129) (.c (.int .u32 1))),false,[]⟩,⟨8,[6,7],oO 131 (.ix (.c (.str [48,48,48,49,48,50,48,51,48,52,48,53,48,54,48,55,48,56,48,57,49,48,49,49,49,50,49,51,49,52,49,53,49,54,49,55,49,56,49,57,50,48,50,49,50,50,50,51,50,52,50,53,50,54,50,55,50,56,50,57,51,48,51,49,51,50,51,51,51,52,51,53,51,54,51,55,51,56,51,57,52,48,52,49,52,50,52,51,52,52,52,53,52,54,52,55,52,56,52,57,53,48,53,49,53,50,53,51,53,52,53,53,53,54,53,55,53,56,53,57,54,48,54,49,54,50,54,51,54,52,54,53,54,54,54,55,54,56,54,57,55,48,55,49,55,50,55,51,55,52,55,53,55,54,55,55,55,56,55,57,56,48,56,49,56,50,56,51,56,52,56,53,56,54,56,55,56,56,56,57,57,48,57,49,57,50,57,51,57,52,57,53,57,54,57,55,57,56,57,57])) (.t 130)),false,[]⟩,⟨9,[],mO 132 14,false,[]⟩,⟨10,[9],oO 133 (.ix (.c (.str [48,48,48,49,48,50,48,51,48,52,48,53,48,54,48,55,48,56,48,57,49,48,49,49,49,50,49,51,49,52,49,53,49,54,49,55,49,56,49,57,50,48,50,49,50,50,50,51,50,52,50,53,50,54,50,55,50,56,50,57,51,48,51,49,51,50,51,51,51,52,51,53,51,54,51,55,51,56,51,57,52,48,52,49,52,50,52,51,52,52,52,53,52,54,52,55,52,56,52,57,53,48,53,49,53,50,53,51,53,52,53,53,53,54,53,55,53,56,53,57,54,48,54,49,54,50,54,51,54,52,54,53,54,54,54,55,54,56,54,57,55,48,55,49,55,50,55,51,55,52,55,53,55,54,55,55,55,56,55,57,56,48,56,49,56,50,56,51,56,52,56,53,56,54,56,55,56,56,56,57,57,48,57,49,57,50,57,51,57,52,57,53,57,54,57,55,57,56,57,57])) (.t 132)),false,[]⟩,⟨11,[0,1,2,6,7,8],oO 134 (.ia none 1 (.t 123) (.t 125)),false,[]⟩,⟨12,[0,1,2,6,7,8,11],nO (.st false 1 (.t 134) (.t 131)),true,[]⟩,⟨13,(rO 13),oO 135 (.ia none 1 (.t 126) (.t 128)),false,[]⟩,⟨14,(rO 14),nO (.st false 1 (.t 135) (.t 133)),true,[]⟩]) (.reg [mO 136 4,oO 137 (.bin .sub (.t 136) (.c (.int .i64 4))),mO 4 137])))))) (.skip))) (.seq (.seq (.reg [mO 138 4,oO 139 (.bin .geq (.t 138) (.c (.int .i64 2)))]) (.cond (.t 139) (.seq (.reg [mO 140 12,oO 141 (.bin .rem (.t 140) (.c (.int .u32 100))),oO 142 (.bin .mul (.t 141) (.c (.int .u32 2))),mO 16 142]) (.seq (.reg [mO 143 12,oO 144 (.bin .quo (.t 143) (.c (.int .u32 100))),mO 12 144]) (.seq (.drw [⟨0,[],mO 145 0,false,[]⟩,⟨1,[],mO 146 4,false,[]⟩,⟨2,[1],oO 147 (.bin .sub (.t 146) (.c (.int .i64 1))),false,[]⟩,⟨3,[],mO 148 0,false,[]⟩,⟨4,[],mO 149 4,false,[]⟩,⟨5,[4],oO 150 (.bin .sub (.t 149) (.c (.int .i64 2))),false,[]⟩,⟨6,[],mO 151 16,false,[]⟩,⟨7,[6],oO 152 (.bin .add (.t 151) (.c (.int .u32 1))),false,[]⟩,⟨8,[6,7],oO 153 (.ix (.c (.str [48,48,48,49,48,50,48,51,48,52,48,53,48,54,48,55,48,56,48,57,49,48,49,49,49,50,49,51,49,52,49,53,49,54,49,55,49,56,49,57,50,48,50,49,50,50,50,51,50,52,50,53,50,54,50,55,50,56,50,57,51,48,51,49,51,50,51,51,51,52,51,53,51,54,51,55,51,56,51,57,52,48,52,49,52,50,52,51,52,52,52,53,52,54,52,55,52,56,52,57,53,48,53,49,53,50,53,51,53,52,53,53,53,54,53,55,53,56,53,57,54,48,54,49,54,50,54,51,54,52,54,53,54,54,54,55,54,56,54,57,55,48,55,49,55,50,55,51,55,52,55,53,55,54,55,55,55,56,55,57,56,48,56,49,56,50,56,51,56,52,56,53,56,54,56,55,56,56,56,57,57,48,57,49,57,50,57,51,57,52,57,53,57,54,57,55,57,56,57,57])) (.t 152)),false,[]⟩,⟨9,[],mO 154 16,false,[]⟩,⟨10,[9],oO 155 (.ix (.c (.str [48,48,48,49,48,50,48,51,48,52,48,53,48,54,48,55,48,56,48,57,49,48,49,49,49,50,49,51,49,52,49,53,49,54,49,55,49,56,49,57,50,48,50,49,50,50,50,51,50,52,50,53,50,54,50,55,50,56,50,57,51,48,51,49,51,50,51,51,51,52,51,53,51,54,51,55,51,56,51,57,52,48,52,49,52,50,52,51,52,52,52,53,52,54,52,55,52,56,52,57,53,48,53,49,53,50,53,51,53,52,53,53,53,54,53,55,53,56,53,57,54,48,54,49,54,50,54,51,54,52,54,53,54,54,54,55,54,56,54,57,55,48,55,49,55,50,55,51,55,52,55,53,55,54,55,55,55,56,55,57,56,48,56,49,56,50,56,51,56,52,56,53,56,54,56,55,56,56,56,57,57,48,57,49,57,50,57,51,57,52,57,53,57,54,57,55,57,56,57,57])) (.t 154)),false,[]⟩,⟨11,[0,1,2,6,7,8],oO 156 (.ia none 1 (.t 145) (.t 147)),false,[]⟩,⟨12,[0,1,2,6,7,8,11],nO (.st false 1 (.t 156) (.t 153)),true,[]⟩,⟨13,(rO 13),oO 157 (.ia none 1 (.t 148) (.t 150)),false,[]⟩,⟨14,(rO 14),nO (.st false 1 (.t 157) (.t 155)),true,[]⟩]) (.reg [mO 158 4,oO 159 (.bin .sub (.t 158) (.c (.int .i64 2))),mO 4 159])))) (.skip))) (.seq (.reg [mO 160 4,oO 161 (.bin .gtr (.t 160) (.c (.int .i64 0)))]) (.cond (.t 161) (.reg [mO 162 0,mO 163 12,oO 164 (.bin .add (.c (.int .u32 48)) (.t 163)),oO 165 (.wrp .u8 (.t 164)),oO 166 (.ia none 1 (.t 162) (.c (.int .i64 0))),nO (.st false 1 (.t 166) (.t 165))]) (.skip))))))),res := [] }
def c353 : VF := { code := .seq (.reg [oO 10 (.nw 1),oO 11 (.mv (.c (.str [])))]) (.seq (.seq (.reg [mO 19 2,oO 20 (.bin .lss (.t 19) (.c (.int .i64 2))),mO 21 20,⟨some 22,.mv (.t 2),some (21,false)⟩,⟨some 23,.bin .eql (.t 22) (.c (.int .i64 10)),some (21,false)⟩,oO 24 (.pick (.t 21) (.c (.bool true)) (.t 23)),mO 25 24,⟨some 26,.mv (.t 2),some (25,false)⟩,⟨some 27,.bin .gtr (.t 26) (.c (.int .i64 36)),some (25,false)⟩,oO 28 (.pick (.t 25) (.c (.bool true)) (.t 27))]) (.cond (.t 28) (.reg [oO 29 (.mi 9 (.c (.str [115,116,114,99,111,110,118,58,32,105,108,108,101,103,97,108,32,65,112,112,101,110,100,73,110,116,47,70,111,114,109,97,116,73,110,116,32,98,97,115,101]))),nO (.bad)]) (.skip))) (.seq (.reg [oO 12 (.al [.int .u8 0,.int .u8 0,.int .u8 0,.int .u8 0,.int .u8 0,.int .u8 0,.int .u8 0,.int .u8 0,.int .u8 0,.int .u8 0,.int .u8 0,.int .u8 0,.int .u8 0,.int .u8 0,.int .u8 0,.int .u8 0,.int .u8 0,.int .u8 0,.int .u8 0,.int .u8 0,.int .u8 0,.int .u8 0,.int .u8 0,.int .u8 0,.int .u8 0,.int .u8 0,.int .u8 0,.int .u8 0,.int .u8 0,.int .u8 0,.int .u8 0,.int .u8 0,.int .u8 0,.int .u8 0,.int .u8 0,.int .u8 0,.int .u8 0,.int .u8 0,.int .u8 0,.int .u8 0,.int .u8 0,.int .u8 0,.int .u8 0,.int .u8 0,.int .u8 0,.int .u8 0,.int .u8 0,.int .u8 0,.int .u8 0,.int .u8 0,.int .u8 0,.int .u8 0,.int .u8 0,.int .u8 0,.int .u8 0,.int .u8 0,.int .u8 0,.int .u8 0,.int .u8 0,.int .u8 0,.int .u8 0,.int .u8 0,.int .u8 0,.int .u8 0,.int .u8 0] [])]) (.seq (.reg [oO 13 (.mv (.c (.int .i64 65)))]) (.seq (.seq (.reg [mO 30 3]) (.cond (.t 30) (.reg [mO 31 1,oO 32 (.neg (.t 31)),mO 1 32]) (.skip))) (.seq (.seq (.reg [mO 33 2,oO 34 (.call 356 [(.t 33)])]) (.cond (.t 34) (.seq (.reg [mO 35 2,oO 36 (.wrp .u64 (.t 35)),oO 37 (.call 357 [(.t 36)]),oO 38 (.wrp .u64 (.t 37)),mO 14 38]) (.seq (.reg [mO 39 2,oO 40 (.wrp .u64 (.t 39)),mO 15 40]) (.seq (.reg [mO 41 2,oO 42 (.wrp .u64 (.t 41)),oO 43 (.bin .sub (.t 42) (.c (.int .u64 1))),mO 16 43]) (.seq (.block 0 (.loop [0,1,3,4,10,11,12,13,14,15,16] (.seq (.seq (.reg [mO 44 1,mO 45 15,oO 46 (.bin .geq (.t 44) (.t 45))]) (.cond (.t 46) (.skip) (.exit 0))) (.block 1 (.seq (.reg [mO 47 13,oO 48 (.bin .sub (.t 47) (.c (.int .i64 1))),mO 13 48]) (.seq (.reg [mO 49 13,mO 50 1,mO 51 16,oO 52 (.bin .and (.t 50) (.t 51)),oO 53 (.ix (.c (.str [48,49,50,51,52,53,54,55,56,57,97,98,99,100,101,102,103,104,105,106,107,108,109,110,111,112,113,114,115,116,117,118,119,120,121,122])) (.t 52)),oO 54 (.ia (some 65) 1 (.t 12) (.t 49)),nO (.st false 1 (.t 54) (.t 53))]) (.reg [mO 55 1,mO 56 14,oO 57 (.bin .shr (.t 55) (.t 56)),mO 1 57]))))))) (.seq (.reg [mO 58 13,oO 59 (.bin .sub (.t 58) (.c (.int .i64 1))),mO 13 59]) (.reg [mO 60 13,mO 61 1,oO 62 (.ix (.c (.str [48,49,50,51,52,53,54,55,56,57,97,98,99,100,101,102,103,104,105,106,107,108,109,110,111,112,113,114,115,116,117,118,119,120,121,122])) (.t 61)),oO 63 (.ia (some 65) 1 (.t 12) (.t 60)),nO (.st false 1 (.t 63) (.t 62))])))))) (.seq (.reg [mO 64 2,oO 65 (.wrp .u64 (.t 64)),mO 17 65]) (.seq (.block 2 (.loop [0,1,3,4,10,11,12,13,17] (.seq (.seq (.reg [mO 66 1,mO 67 17,oO 68 (.bin .geq (.t 66) (.t 67))]) (.cond (.t 68) (.skip) (.exit 2))) (.block 3 (.seq (.reg [mO 69 13,oO 70 (.bin .sub (.t 69) (.c (.int .i64 1))),mO 13 70]) (.seq (.reg [mO 71 1,mO 72 17,oO 73 (.bin .quo (.t 71) (.t 72)),mO 18 73]) (.seq (.reg [mO 74 13,mO 75 1,mO 76 18,mO 77 17,oO 78 (.bin .mul (.t 76) (.t 77)),oO 79 (.bin .sub (.t 75) (.t 78)),oO 80 (.ix (.c (.str [48,49,50,51,52,53,54,55,56,57,97,98,99,100,101,102,103,104,105,106,107,108,109,110,111,112,113,114,115,116,117,118,119,120,121,122])) (.t 79)),oO 81 (.ia (some 65) 1 (.t 12) (.t 74)),nO (.st false 1 (.t 81) (.t 80))]) (.reg [mO 82 18,mO 1 82])))))))) (.seq (.reg [mO 83 13,oO 84 (.bin .sub (.t 83) (.c (.int .i64 1))),mO 13 84]) (.reg [mO 85 13,mO 86 1,oO 87 (.ix (.c (.str [48,49,50,51,52,53,54,55,56,57,97,98,99,100,101,102,103,104,105,106,107,108,109,110,111,112,113,114,115,116,117,118,119,120,121,122])) (.t 86)),oO 88 (.ia (some 65) 1 (.t 12) (.t 85)),nO (.st false 1 (.t 88) (.t 87))])))))) (.seq (.seq (.reg [mO 89 3]) (.cond (.t 89) (.seq (.reg [mO 90 13,oO 91 (.bin .sub (.t 90) (.c (.int .i64 1))),mO 13 91]) (.reg [mO 92 13,oO 93 (.ia (some 65) 1 (.t 12) (.t 92)),nO (.st false 1 (.t 93) (.c (.int .u8 45)))])) (.skip))) (.seq (.seq (.reg [mO 94 4]) (.cond (.t 94) (.seq (.reg [mO 95 0,mO 96 13,oO 97 (.bad),oO 98 (.app 1 (.t 95) (.t 97)),mO 10 98]) (.ret)) (.skip))) (.seq (.reg [mO 99 13,oO 100 (.bad),oO 101 (.b2s (.t 100)),mO 11 101]) (.ret))))))))),res := [(10,none),(11,none)] }
def c354 : VF := { code := .seq (.reg [oO 2 (.mv (.c (.int .i64 0)))]) (.seq (.reg [mO 3 0,oO 4 (.bin .mul (.t 3) (.c (.int .i64 78913))),oO 5 (.bin .shr (.t 4) (.c (.int .u64 18))),mO 2 5]) (.ret)),res := [(2,none)] }
def c355 : VF := { code := .seq (.reg [oO 2 (.mv (.c (.int .i64 0)))]) (.seq (.seq (.reg [mO 3 0]) (.cond (.t 3) (.seq (.reg [oO 2 (.mv (.c (.int .i64 1)))]) (.ret)) (.skip))) (.seq (.reg [oO 2 (.mv (.c (.int .i64 0)))]) (.ret))),res := [(2,none)] }
def c356 : VF := { code := .seq (.reg [oO 2 (.mv (.c (.bool false)))]) (.seq (.reg [mO 3 0,mO 4 0,oO 5 (.bin .sub (.t 4) (.c (.int .i64 1))),oO 6 (.bin .and (.t 3) (.t 5)),oO 7 (.bin .eql (.t 6) (.c (.int .i64 0))),mO 2 7]) (.ret)),res := [(2,none)] }
def c357 : VF := { code := .seq (.reg [oO 2 (.mv (.c (.int .i64 0)))]) (.seq (.cond (.c (.bool false)) (.seq (.reg [mO 3 0,oO 4 (.wrp .u32 (.t 3)),oO 5 (.call 358 [(.t 4)]),mO 2 5]) (.ret)) (.skip)) (.seq (.reg [mO 6 0,oO 7 (.call 359 [(.t 6)]),mO 2 7]) (.ret))),res := [(2,none)] }
def c358 : VF := { code := .seq (.reg [oO 2 (.mv (.c (.int .i64 0)))]) (.seq (.seq (.reg [mO 3 0,oO 4 (.bin .eql (.t 3) (.c (.int .u32 0)))]) (.cond (.t 4) (.seq (.reg [oO 2 (.mv (.c (.int .i64 32)))]) (.ret)) (.skip))) (.seq (.reg [mO 5 0,mO 6 0,oO 7 (.neg (.t 6)),oO 8 (.bin .and (.t 5) (.t 7)),oO 9 (.bin .mul (.t 8) (.c (.int .u32 125613361))),oO 10 (.bin .shr (.t 9) (.c (.int .u64 27))),oO 11 (.bad),oO 12 (.ld false 1 (.t 11)),oO 13 (.wrp .i64 (.t 12)),mO 2 13]) (.ret))),res := [(2,none)] }
def c359 : VF := { code := .seq (.reg [oO 2 (.mv (.c (.int .i64 0)))]) (.seq (.seq (.reg [mO 3 0,oO 4 (.bin .eql (.t 3) (.c (.int .u64 0)))]) (.cond (.t 4) (.seq (.reg [oO 2 (.mv (.c (.int .i64 64)))]) (.ret)) (.skip))) (.seq (.reg [mO 5 0,mO 6 0,oO 7 (.neg (.t 6)),oO 8 (.bin .and (.t 5) (.t 7)),oO 9 (.bin .mul (.t 8) (.c (.int .u64 285870213051353865))),oO 10 (.bin .shr (.t 9) (.c (.int .u64 58))),oO 11 (.bad),oO 12 (.ld false 1 (.t 11)),oO 13 (.wrp .i64 (.t 12)),mO 2 13]) (.ret))),res := [(2,none)] }
end Go.Vm

/-
  The machine V: a function's end; slices.Clone, whose test for nil V cannot answer.
-/
namespace Go.Vm
open Go Go.RowKit

section
variable {P : Program} {G : Gh} {KW : World → Prop} {B : Bd KW} {n : Nat} {w : World}

theorem body_end {fn : Func} {F : VF} {G' : Gh} {s0 s1 : St} {a' : Act} {w' : World} {v : V} {sg' : List Fr} {wd : Nat} (htr : trRes P fn.results.toList F.res = true) (sa : SA n G' B s1 a' w') (mo : Mo G B s0 w G' s1 w')
    (hl : leave F s1 = some (v, sg', wd)) {e : Exit} (he : e = .normal ∨ e = .ret) :
    bodyPost P fn (fun | .returned cv, w' => ∃ G', RetR G B s0.sg sg' v w G' cv w' | _, _ => False) e a' w' := by
  have hl' := hl
  unfold leave at hl'
  obtain ⟨vs, hvs, _⟩ := bind_some' hl'
  obtain ⟨cv, hcv, hRR⟩ := results_ok (fn := fn) sa.sr htr hvs
  obtain ⟨G2, ret⟩ := leave_ok sa.sr hvs hRR hl
  have hfin : a'.defers = [] ∧ ∃ v', (results fn a'.tmps).run P w' = .ok v' w' ∧ ∃ G', RetR G B s0.sg sg' v w G' v' w' := by
    refine ⟨sa.df, cv, hcv, G2, ret.wr, mo.im.trans ret.im, ?_, ?_, ?_, mo.be.trans ret.be⟩
    · have h1 := mo.up
      have h2 := ret.up
      rw [mo.ln] at h2
      exact h1.trans h2
    · exact ret.ln.trans mo.ln
    · have h2 := ret.v
      rw [mo.ln] at h2
      exact h2
  rcases he with rfl | rfl
  · exact hfin
  · exact hfin

theorem run_eqsl {d : Nat} {t e : TypeId} (ht : P.underlying t = some (.slice e)) (b : Option Addr) (x c : Nat) : (Op.equalIn (d + 1) t (.slice b x c) (.slice none 0 0)).run P w = .ok b.isNone w := by
  cases b <;> simp [Op.equalIn, run_underlying ht]
theorem eqg_sl {op : BinOp} {t : TypeId} {x y : Operand} {b : Option Addr} {n c : Nat} : (eqGuard op t x y (.slice b n c) (.slice none 0 0)).run P w = .ok () w := by
  unfold eqGuard; split <;> rfl
theorem run_eqs_nil {t e : TypeId} (ht : P.underlying t = some (.slice e)) (b : Option Addr) (x c : Nat) : (binOp .eql t (.slice b x c) (.slice none 0 0)).run P w = .ok (.bool b.isNone) w :=
  run_eql_other (P := P) (w := w) (n := false) (.inl ⟨rfl, rfl⟩) ⟨fun _ _ h => (by cases h), fun _ _ h => (by cases h), fun _ _ _ h => (by cases h), fun _ h => (by cases h)⟩ (run_eqsl (P := P) (w := w) (d := 9999) ht b x c)

theorem upd_if (e : Nat → V) (t : Nat) (v : V) (u : Nat) : upd e t v u = if u = t then v else e u := by
  unfold upd
  by_cases h : u = t
  · subst h; simp
  · rw [if_neg h]
    have : Nat.beq u t = false := by
      cases hb : Nat.beq u t with
      | false => rfl
      | true => exact absurd (Nat.eq_of_beq_eq_true hb) h
    rw [this]; rfl
theorem ble0 (n : Nat) : Nat.ble 0 n = true := Nat.ble_eq_true_of_le (Nat.zero_le n)
theorem beq_self (n : Nat) : Nat.beq n n = true := Nat.beq_refl n

def cloneT (z : Nat) (m : Bool) : VC := .seq (.reg [⟨some 2, bif m then .nm z else .mv (.c (.sl .ex z [])), none⟩]) .ret
def cloneF (z : Nat) (m : Bool) : VC := .seq (.reg [⟨some 5, bif m then .bm z [] else .bl z [], none⟩, ⟨some 6, .mv (.t 0), none⟩, ⟨some 7, bif m then .am z (.t 5) (.t 6) else .app z (.t 5) (.t 6), none⟩, ⟨some 2, .mv (.t 7), none⟩]) .ret
def cloneVF (m : Bool) : VF := { code := .bad, res := [(2, none)], keepR := m }

structure CloneFn (P : Program) (z : Nat) (m : Bool) (fn : Func) : Prop where
  nm : (fn.name == "runtime.NumGoroutine") = false
  ex : ∃ (i0 i1 : Nat) (ops0 : Array Oper) (o3 o4 : Oper) (c1 c2 : Code) (t t' e : TypeId),
    fn.body = some (.seq (.region i0 ops0 false) (.seq (.seq (.region i1 #[o3, o4] false) (.cond (.tmp 4) c1 .skip)) c2)) ∧
    trReg fn.ntmps P ops0 0 [⟨some 2, .mv (.c (.sl .ex z [])), none⟩] = true ∧
    trStep fn.ntmps P #[o3, o4] o3 ⟨some 3, .mv (.t 0), none⟩ = true ∧
    o4.op = .binOp .eql t (.tmp 3) (.const (.slice none 0 0)) t' ∧ o4.dst = some 4 ∧ o4.guard = none ∧ 4 < fn.ntmps ∧ P.underlying t = some (.slice e) ∧
    trC fn.ntmps P (cloneT z m) c1 = true ∧ trC fn.ntmps P (cloneF z m) c2 = true
  rs : trRes P fn.results.toList [(2, none)] = true

def cloneR (z : Nat) (es : List V) (sg : List Fr) : Bool → Option (V × List Fr × Nat)
  | false => some (.sl .no z es, sg, 0)
  | true => match sg with
    | f :: r => some (.bs 0 f.length es.length 0 es.length, (f ++ [.arr es.length z es]) :: r, 1)
    | [] => none
def cloneX (L : FuncId → Option (Nat × Bool)) : Call := fun f as sg =>
  match L f, as with
  | some (z, m), [.sl _ z' es] => bif Nat.beq z z' && (Nat.ble es.length lim && (!m || es.all cel)) then cloneR z es sg m else none
  | _, _ => none

theorem cloneX_q (L : FuncId → Option (Nat × Bool)) : CallQ (cloneX L) := by
  intro f as sg v sg' wd h
  unfold cloneX at h
  split at h
  · have h1 := bif_same h
    rename_i m _ _ _ _
    cases m with
    | false =>
      simp only [cloneR, Option.some.injEq, Prod.mk.injEq] at h1
      obtain ⟨_, rfl, _⟩ := h1
      exact ⟨rfl, fun _ _ => rfl⟩
    | true =>
      cases sg with
      | nil => cases h1
      | cons fr r =>
        simp only [cloneR, Option.some.injEq, Prod.mk.injEq] at h1
        obtain ⟨_, rfl, rfl⟩ := h1
        refine ⟨rfl, fun d hd => ?_⟩
        obtain ⟨k, rfl⟩ : ∃ k, d = k + 1 := ⟨d - 1, by omega⟩
        rfl
  · cases h

def noCall : Call := fun _ _ _ => none
theorem noCall_ok : CallOk KW P noCall := fun _ _ _ _ _ _ h => by cases h
theorem noCall_q : CallQ noCall := fun _ _ _ _ _ _ h => by cases h

theorem cloneT_run {z : Nat} {m : Bool} {C : Cfg} {call : Call} {s : St} (hfr : s.fr = []) (hwd : s.wd = 0) {R : V × List Fr × Nat} (hR : cloneR z [] s.sg m = some R) :
    ∃ S, execF C call 1 (cloneT z m) s = some (.ret, S) ∧ leave (cloneVF m) S = some R := by
  obtain ⟨tm, fr, sg, wd⟩ := s
  simp only at hfr hwd hR
  subst hfr; subst hwd
  cases m with
  | false =>
    cases hR
    exact ⟨_, rfl, rfl⟩
  | true =>
    cases sg with
    | nil => cases hR
    | cons f r =>
      cases hR
      exact ⟨_, rfl, rfl⟩

theorem cloneF_run {tk : Tok} {z : Nat} {m : Bool} {es : List V} {C : Cfg} {call : Call} {s : St} (h0 : s.tm 0 = .sl tk z es) (hfr : s.fr = []) (hwd : s.wd = 0) (hl : es.length ≤ lim) (hc : m = true → es.all cel = true) {R : V × List Fr × Nat} (hR : cloneR z es s.sg m = some R) :
    ∃ S, execF C call 1 (cloneF z m) s = some (.ret, S) ∧ leave (cloneVF m) S = some R := by
  obtain ⟨tm, fr, sg, wd⟩ := s
  simp only at h0 hfr hwd hR
  subst hfr; subst hwd
  cases m with
  | false =>
    cases hR
    cases es with
    | nil =>
      refine ⟨{ tm := upd (upd (upd (upd tm 5 (.sl .ex z [])) 6 (.sl tk z [])) 7 (.sl .ex z [])) 2 (.sl .ex z []), fr := [], sg, wd := 0 }, ?_, rfl⟩
      simp [cloneF, execF, runL, stepV, want, opV, Vm.put, rd, upd_if, beq_self, ble0, h0, els, appV, elV, lim]
    | cons e es =>
      have hl' : Nat.ble (es.length + 1) lim = true := Nat.ble_eq_true_of_le (by simpa using hl)
      refine ⟨{ tm := upd (upd (upd (upd tm 5 (.sl .ex z [])) 6 (.sl tk z (e :: es))) 7 (.sl (.at 0 0 (es.length + 1)) z (e :: es))) 2 (.sl (.at 0 0 (es.length + 1)) z (e :: es)), fr := [.tok (es.length + 1)], sg, wd := 0 }, ?_, rfl⟩
      simp [cloneF, execF, runL, stepV, want, opV, Vm.put, rd, upd_if, beq_self, ble0, h0, els, appV, elV, hl']
  | true =>
    cases sg with
    | nil => cases hR
    | cons f r =>
      cases hR
      have hc' := hc rfl
      cases es with
      | nil =>
        refine ⟨{ tm := upd (upd (upd (upd tm 5 (.bs 0 0 0 0 0)) 6 (.sl tk z [])) 7 (.bs 0 0 0 0 0)) 2 (.bs 0 0 0 0 0), fr := [.arr 0 z []], sg := f :: r, wd := 0 }, ?_, rfl⟩
        simp [cloneF, execF, runL, stepV, want, opV, Vm.put, rd, upd_if, beq_self, ble0, h0, els, amV, elV, lim, St.get, getB]
      | cons e es =>
        have hl' : Nat.ble (es.length + 1) lim = true := Nat.ble_eq_true_of_le (by simpa using hl)
        have hc1 : cel e = true := by simp at hc'; exact hc'.1
        have hc2 : es.all cel = true := by simp at hc'; simpa using hc'.2
        refine ⟨{ tm := upd (upd (upd (upd tm 5 (.bs 0 0 0 0 0)) 6 (.sl tk z (e :: es))) 7 (.bs 0 0 (es.length + 1) 0 (es.length + 1))) 2 (.bs 0 0 (es.length + 1) 0 (es.length + 1)), fr := [.arr (es.length + 1) z (e :: es)], sg := f :: r, wd := 0 }, ?_, rfl⟩
        simp [cloneF, execF, runL, stepV, want, opV, Vm.put, rd, upd_if, beq_self, ble0, h0, els, amV, elV, hl', St.get, getB, St.set, hc1, hc2]

theorem cloneX_ok {L : FuncId → Option (Nat × Bool)} (hm : P.follows .mixedOrders = true) (hL : ∀ f z m, L f = some (z, m) → ∃ fn, P.funcs[f]? = some fn ∧ CloneFn P z m fn) : CallOk KW P (cloneX L) := by
  intro f as sg v sg' wd h G B w A hwr hA hR
  unfold cloneX at h
  split at h
  case h_2 => cases h
  rename_i z m tk z' es hf
  obtain ⟨hb, h1⟩ := bif_opt' h
  simp only [Bool.and_eq_true] at hb
  have hz := Nat.eq_of_beq_eq_true hb.1
  have hlim := Nat.le_of_ble_eq_true hb.2.1
  have hcel : m = true → es.all cel = true := fun e => by have := hb.2.2; rw [e] at this; simpa using this
  subst hz
  obtain ⟨fn, hfn, hnm, ⟨i0, i1, ops0, o3, o4, c1, c2, t, t', e, hbody, hr0, ht3, h4, h4d, h4g, h4n, ht, hc1, hc2⟩, hrs⟩ := hL f z m hf
  have hrun : (callFunc f A).run P w = .ok (.enter f A) w := by
    simp [callFunc, hfn, hbody]
    intro h
    rw [h] at hnm
    simp at hnm
  let C0 : Cfg := { keepA := fun _ => false }
  let s0 : St := { tm := env [.sl tk z es], fr := [], sg := sg, wd := 0 }
  have hsa : SA fn.ntmps G B s0 { tmps := A ++ Array.replicate (fn.ntmps - A.size) undef, defers := [] } w := by
    refine ⟨⟨hwr, fun t => ?_⟩, by simp; omega, rfl⟩
    show VR _ _ sg.length (env [.sl tk z es] t) _
    rw [env_get]
    cases ht : ([.sl tk z es] : List V)[t]? with
    | none => exact .und _
    | some x =>
      have hlt : t < A.size := by rw [hA]; exact (List.getElem?_eq_some_iff.1 ht).1
      have hy : (A ++ Array.replicate (fn.ntmps - A.size) undef).getD t undef = A[t] := by
        simp [Array.getElem?_append_left hlt, hlt]
      rw [hy]
      exact hR t x A[t] ht (by simp [hlt])
  refine .inl ⟨hrun, calls_of_wp hfn hbody ?_⟩
  refine wp_seq (wp_region ?_)
  rw [List.range_eq_range']
  refine reg_ok (C := C0) noCall_ok _ 0 G s0 _ w hr0 hsa rfl fun a1 w1 G1 sa1 mo1 => ?_
  refine wp_seq (wp_seq (wp_region ?_))
  show wpOps P #[o3, o4] _ [0, 1] a1 w1
  rw [Go.wpOps_cons]
  refine step_ok (C := C0) noCall_ok ht3 sa1 (by rfl) rfl fun a2 w2 G2 sa2 mo2 => ?_
  rw [Go.wpOps_cons]
  have mo12 := mo1.trans mo2
  have hx : VR G2.im G2.ph sg.length (.sl tk z es) (a2.tmps.getD 3 undef) := by
    have h3 := sa2.sr.tr 3
    exact h3
  obtain ⟨ad, cap, g, hcv, _, hcap, ha, _⟩ := hx.sl_inv.sl_inv
  have h4run : (execOp a2.eval o4).run P w2 = .ok (.value (.bool ad.isNone)) w2 := by
    have e1 : a2.eval (.tmp 3) = .slice ad es.length cap := hcv
    have e2 : a2.eval (.const (.slice none 0 0)) = .slice none 0 0 := rfl
    simp only [execOp, h4, e1, e2, Sem.run_bind, eqg_sl, Result.andThen_ok, run_eqs_nil ht, Sem.run_pure]
  refine wpOp_do (o := o4) (by rfl) (by simp [Region.wanted, h4g]) ?_
  unfold Oper.wp
  rw [h4run, Oper.upon_value]
  simp only [wpOps]
  let s3 : St := Vm.put s0 (some 0) (.sl tk z es)
  have sa3 : ∀ s2 : St, SA fn.ntmps G2 B s2 a2 w2 → SA fn.ntmps G2 B (Vm.put s2 (some 4) (.bool ad.isNone)) (a2.put o4.dst (.bool ad.isNone)) w2 := fun s2 sa => by
    rw [h4d]
    exact ⟨sa.sr.put (.quiet sa.sr.wr (.pr _ _ (.bool _))) (fun t e => by cases e; exact Nat.lt_of_lt_of_le h4n sa.sz), by rw [Act.put_size]; exact sa.sz, by rw [Act.put_defers]; exact sa.df⟩
  have sa4 := sa3 _ sa2
  have heval : (a2.put o4.dst (.bool ad.isNone)).eval (.tmp 4) = .bool ad.isNone := by
    have h0 := sa4.sr.tr 4
    exact h0.bool_inv
  refine wp_cond_split heval (fun hn => ?_) (fun hn => ?_)
  · have h0 : es = [] := by
      cases ad with
      | none => exact List.eq_nil_of_length_eq_zero (by have := ha rfl; omega)
      | some _ => cases hn
    subst h0
    obtain ⟨S, hS, hlv⟩ := cloneT_run (C := C0) (call := noCall) (z := z) (m := m) (s := Vm.put (Vm.put (Vm.put s0 (some 2) (.sl .ex z [])) (some 3) (.sl tk z [])) (some 4) (.bool ad.isNone)) rfl rfl h1
    refine code_ok (C := C0) noCall_ok noCall_q hm 1 (cloneT z m) c1 G2 _ _ _ _ .ret _ hc1 sa4 hS fun a5 w5 G5 sa5 mo5 => ?_
    have moA : Mo G B s0 w G5 _ w5 := mo12.trans ⟨mo5.im, mo5.up, mo5.ln, mo5.be⟩
    exact body_end (F := cloneVF m) hrs sa5 moA hlv (.inr rfl)
  · obtain ⟨S, hS, hlv⟩ := cloneF_run (C := C0) (call := noCall) (z := z) (m := m) (es := es) (tk := tk) (s := Vm.put (Vm.put (Vm.put s0 (some 2) (.sl .ex z [])) (some 3) (.sl tk z es)) (some 4) (.bool ad.isNone)) rfl rfl rfl hlim hcel h1
    refine wp_skip ?_
    show Code.wp P c2 (bodyPost P fn _) _ _
    refine code_ok (C := C0) noCall_ok noCall_q hm 1 (cloneF z m) c2 G2 _ _ _ _ .ret _ hc2 sa4 hS fun a5 w5 G5 sa5 mo5 => ?_
    have moA : Mo G B s0 w G5 _ w5 := mo12.trans ⟨mo5.im, mo5.up, mo5.ln, mo5.be⟩
    exact body_end (F := cloneVF m) hrs sa5 moA hlv (.inr rfl)

end
end Go.Vm

/-
  The machine V: more fuel changes no answer; what is there in the end.
-/
namespace Go.Vm
open Go

def CallLe (c c' : Call) : Prop := ∀ f as sg r, c f as sg = some r → c' f as sg = some r
theorem CallLe.refl (c : Call) : CallLe c c := fun _ _ _ _ h => h
theorem CallLe.trans {a b c : Call} (h : CallLe a b) (k : CallLe b c) : CallLe a c := fun f as sg r e => k f as sg r (h f as sg r e)

def Good {α : Type} (A : Nat → Call) (W : Call) (F : Call → Option α) : Prop :=
  (∀ c c', CallLe c c' → ∀ r, F c = some r → F c' = some r) ∧ (∀ r, F W = some r → ∃ m, F (A m) = some r)
def GoodB (A : Nat → Call) (W : Call) (F : Call → Bool) : Prop :=
  (∀ c c', CallLe c c' → F c = true → F c' = true) ∧ (F W = true → ∃ m, F (A m) = true)

section
variable {A : Nat → Call} {W : Call} {α β : Type}

theorem good_const (x : Option α) : Good A W (fun _ => x) := ⟨fun _ _ _ _ h => h, fun _ h => ⟨0, h⟩⟩

theorem good_bind (hA : ∀ m n, m ≤ n → CallLe (A m) (A n)) {F : Call → Option α} {K : α → Call → Option β} (hF : Good A W F) (hK : ∀ a, Good A W (K a)) :
    Good A W (fun c => (F c).bind fun a => K a c) := by
  refine ⟨fun c c' hc r h => ?_, fun r h => ?_⟩
  · obtain ⟨a, h1, h2⟩ := Option.bind_eq_some_iff.1 h
    exact Option.bind_eq_some_iff.2 ⟨a, hF.1 c c' hc a h1, (hK a).1 c c' hc r h2⟩
  · obtain ⟨a, h1, h2⟩ := Option.bind_eq_some_iff.1 h
    obtain ⟨m, h3⟩ := hF.2 a h1
    obtain ⟨n, h4⟩ := (hK a).2 r h2
    refine ⟨max m n, Option.bind_eq_some_iff.2 ⟨a, hF.1 _ _ (hA _ _ (Nat.le_max_left _ _)) a h3, (hK a).1 _ _ (hA _ _ (Nat.le_max_right _ _)) r h4⟩⟩

theorem good_map {F : Call → Option α} {g : α → β} (hF : Good A W F) : Good A W (fun c => (F c).map g) := by
  refine ⟨fun c c' hc r h => ?_, fun r h => ?_⟩
  · obtain ⟨a, h1, h2⟩ := Option.map_eq_some_iff.1 h
    exact Option.map_eq_some_iff.2 ⟨a, hF.1 c c' hc a h1, h2⟩
  · obtain ⟨a, h1, h2⟩ := Option.map_eq_some_iff.1 h
    obtain ⟨m, h3⟩ := hF.2 a h1
    exact ⟨m, Option.map_eq_some_iff.2 ⟨a, h3, h2⟩⟩

theorem good_guard (hA : ∀ m n, m ≤ n → CallLe (A m) (A n)) {F : Call → Bool} {K : Call → Option α} (hF : GoodB A W F) (hK : Good A W K) :
    Good A W (fun c => bif F c then K c else none) := by
  refine ⟨fun c c' hc r h => ?_, fun r h => ?_⟩
  · cases hb : F c with
    | false => simp [hb] at h
    | true => simp only [hb, cond_true] at h; simp only [hF.1 c c' hc hb, cond_true]; exact hK.1 c c' hc r h
  · cases hb : F W with
    | false => simp [hb] at h
    | true =>
      simp only [hb, cond_true] at h
      obtain ⟨m, h3⟩ := hF.2 hb
      obtain ⟨n, h4⟩ := hK.2 r h
      exact ⟨max m n, by simp only [hF.1 _ _ (hA _ _ (Nat.le_max_left _ _)) h3, cond_true]; exact hK.1 _ _ (hA _ _ (Nat.le_max_right _ _)) r h4⟩

theorem GoodB.congr {F G : Call → Bool} (h : GoodB A W F) (e : ∀ c, G c = F c) : GoodB A W G := by
  have : G = F := funext e
  rw [this]; exact h
theorem goodB_const (b : Bool) : GoodB A W (fun _ => b) := ⟨fun _ _ _ h => h, fun h => ⟨0, h⟩⟩
theorem goodB_and (hA : ∀ m n, m ≤ n → CallLe (A m) (A n)) {F K : Call → Bool} (hF : GoodB A W F) (hK : GoodB A W K) : GoodB A W (fun c => F c && K c) := by
  refine ⟨fun c c' hc h => ?_, fun h => ?_⟩
  · simp only [Bool.and_eq_true] at h ⊢
    exact ⟨hF.1 c c' hc h.1, hK.1 c c' hc h.2⟩
  · simp only [Bool.and_eq_true] at h
    obtain ⟨m, h3⟩ := hF.2 h.1
    obtain ⟨n, h4⟩ := hK.2 h.2
    exact ⟨max m n, by simp only [hF.1 _ _ (hA _ _ (Nat.le_max_left _ _)) h3, hK.1 _ _ (hA _ _ (Nat.le_max_right _ _)) h4, Bool.and_self]⟩
theorem goodB_all (hA : ∀ m n, m ≤ n → CallLe (A m) (A n)) {γ : Type} {F : γ → Call → Bool} (hF : ∀ x, GoodB A W (F x)) : ∀ l : List γ, GoodB A W (fun c => l.all fun x => F x c)
  | [] => goodB_const true
  | x :: l => goodB_and hA (hF x) (goodB_all hA hF l)
theorem goodB_test {F : Call → Option α} {g : α → Bool} (hF : Good A W F) : GoodB A W (fun c => match F c with | some a => g a | none => false) := by
  refine ⟨fun c c' hc h => ?_, fun h => ?_⟩
  · cases hb : F c with
    | none => simp [hb] at h
    | some a => simp only [hb] at h; simp only [hF.1 c c' hc a hb, h]
  · cases hb : F W with
    | none => simp [hb] at h
    | some a =>
      simp only [hb] at h
      obtain ⟨m, h3⟩ := hF.2 a hb
      exact ⟨m, by simp only [h3, h]⟩

def Limit (A : Nat → Call) (W : Call) : Prop := (∀ m n, m ≤ n → CallLe (A m) (A n)) ∧ ∀ f as sg r, W f as sg = some r → ∃ m, A m f as sg = some r

theorem good_call (hL : Limit A W) (f : FuncId) (as : List V) (sg : List Fr) : Good A W (fun c => c f as sg) :=
  ⟨fun _ _ hc r h => hc _ _ _ _ h, fun r h => hL.2 _ _ _ _ h⟩

variable {C : Cfg}
theorem good_doCall (hL : Limit A W) (f : FuncId) (as : List V) (s : St) : Good A W (fun c => doCall C c f as s) := by
  have h := good_bind (K := fun (r : V × List Fr × Nat) (_ : Call) => (match r with | (v, fr :: sg, wd) => some (v, { s with fr, sg, wd := max s.wd (wd - 1) }) | _ => none : Option (V × St))) hL.1 (good_call hL f (as.map (argV (C.keepA f))) (s.fr :: s.sg)) (fun a => good_const _)
  have e : (fun c : Call => doCall C c f as s) = fun c => (c f (as.map (argV (C.keepA f))) (s.fr :: s.sg)).bind fun r => (match r with | (v, fr :: sg, wd) => some (v, { s with fr, sg, wd := max s.wd (wd - 1) }) | _ => none : Option (V × St)) := by
    funext c
    unfold doCall
    cases c f (as.map (argV (C.keepA f))) (s.fr :: s.sg) with
    | none => rfl
    | some x => obtain ⟨v, _ | ⟨fr, sg⟩, wd⟩ := x <;> rfl
  rw [e]; exact h

theorem good_opV (hL : Limit A W) (o : VO) (s : St) : Good A W (fun c => opV C c o s) := by
  cases o with
  | call f as => exact good_doCall hL f _ s
  | cv f as =>
    show Good A W (fun c => doFn C c (rd s.tm f) (as.map (rd s.tm)) s)
    unfold doFn
    cases rd s.tm f <;> first | exact good_const none | exact good_doCall hL _ _ s
  | inv x m as =>
    show Good A W (fun c => match rd s.tm x with
      | .iface t v => (methF t m).bind fun f => doCall C c f (v :: as.map (rd s.tm)) s
      | _ => none)
    cases rd s.tm x <;> first | exact good_const none | skip
    exact good_bind hL.1 (good_const _) fun f => good_doCall hL f _ s
  | ia n sz x i => cases n <;> exact good_const _
  | _ => exact good_const _

theorem good_stepV (hL : Limit A W) (o : VOp) (s : St) : Good A W (fun c => stepV C c o s) := by
  unfold stepV
  cases want s o.g with
  | none => exact good_const _
  | some b => cases b with
    | false => exact good_const _
    | true => exact good_map (good_opV hL o.o s)

theorem good_runL (hL : Limit A W) : ∀ (os : List VOp) (s : St), Good A W (fun c => runL C c os s)
  | [], s => good_const _
  | o :: os, s => good_bind hL.1 (good_stepV hL o s) fun s1 => good_runL hL os s1

theorem good_callP (hL : Limit A W) (f : FuncId) (as : List V) (s : St) : Good A W (fun c => callP C c f as s) := by
  have h := good_bind (K := fun (r : V × List Fr × Nat) (_ : Call) => bif Nat.beq r.2.2 0 then some r.1 else none) hL.1 (good_call hL f (as.map (argV (C.keepA f))) (s.fr :: s.sg)) (fun a => good_const _)
  have e : (fun c : Call => callP C c f as s) = fun c => (c f (as.map (argV (C.keepA f))) (s.fr :: s.sg)).bind fun r => bif Nat.beq r.2.2 0 then some r.1 else none := by
    funext c
    unfold callP
    cases c f (as.map (argV (C.keepA f))) (s.fr :: s.sg) <;> rfl
  rw [e]; exact h
theorem good_opP (hL : Limit A W) (o : VO) (s : St) : Good A W (fun c => opP C c o s) := by
  have key : Good A W (fun c => bif pureO o then (opV C c o s).map (·.1) else none) := by
    cases pureO o with
    | false => exact good_const none
    | true => exact good_map (good_opV hL o s)
  cases o with
  | call f as => exact good_callP hL f _ s
  | cv f as =>
    show Good A W (fun c => fnP C c (rd s.tm f) (as.map (rd s.tm)) s)
    unfold fnP
    cases rd s.tm f <;> first | exact good_const none | exact good_callP hL _ _ s
  | _ => exact key
theorem good_stepP (hL : Limit A W) (o : VOp) (s : St) : Good A W (fun c => stepP C c o s) := by
  unfold stepP
  cases want s o.g with
  | none => exact good_const _
  | some b => cases b with
    | false => exact good_const _
    | true => exact good_map (good_opP hL o.o s)
theorem good_again (hL : Limit A W) (s : St) (o : VOp) : GoodB A W (fun c => again C c s o) := by
  unfold again
  cases want s o.g with
  | none => exact goodB_const _
  | some b => cases b with
    | false => exact goodB_const _
    | true =>
      cases o.d with
      | none => exact (goodB_const false).congr fun c => by cases opP C c o.o s <;> rfl
      | some t => exact (goodB_test (g := fun v => veq v (s.tm t)) (good_opP hL o.o s)).congr fun c => by cases opP C c o.o s <;> rfl
theorem good_againAt (hL : Limit A W) (all : List DOp) (s : St) (i : Nat) : GoodB A W (fun c => againAt C c all s i) := by
  unfold againAt
  cases opAt all i with
  | none => exact goodB_const _
  | some o => exact good_again hL s o
theorem good_drwV (hL : Limit A W) (all : List DOp) : ∀ (l : List DOp) (s : St), Good A W (fun c => drwV C c all l s)
  | [], s => good_const _
  | x :: l, s => by
    unfold drwV
    cases x.main with
    | true => exact good_bind hL.1 (good_stepV hL x.op s) fun s1 => good_guard hL.1 (goodB_all hL.1 (fun i => good_againAt hL all s1 i) x.re) (good_drwV hL all l s1)
    | false => exact good_bind hL.1 (good_stepP hL x.op s) fun s1 => good_drwV hL all l s1

theorem good_iter (hL : Limit A W) {body : Call → St → Option (Ex × St)} (hb : ∀ s, Good A W (fun c => body c s)) (n : Nat) (live : List Nat) : ∀ (k : Nat) (l : LS), Good A W (fun c => iter (body c) n live k l)
  | 0, l => good_const _
  | k + 1, l => by
    have h := good_bind (K := fun (r : Ex × St) (c : Call) => match r with | (.normal, s) => iter (body c) n live k (LS.next n live s) | r => some r) hL.1 (hb (l.st live)) (fun a => by
      obtain ⟨x, s⟩ := a
      cases x with
      | normal => exact good_iter hL hb n live k _
      | _ => exact good_const _)
    have e : (fun c : Call => iter (body c) n live (k + 1) l) = fun c => (body c (l.st live)).bind fun r => match r with | (.normal, s) => iter (body c) n live k (LS.next n live s) | r => some r := by
      funext c
      show (match body c (l.st live) with | some (.normal, s) => _ | r => r) = _
      cases body c (l.st live) with
      | none => rfl
      | some r => obtain ⟨x, s⟩ := r; cases x <;> rfl
    rw [e]; exact h

def outB (id : Nat) (r : Ex × St) : Ex × St := match r with
  | (.exit j, s) => bif Nat.beq j id then (.normal, s) else (.exit j, s)
  | r => r
theorem good_execF (hL : Limit A W) (fuel : Nat) : ∀ (p : VC) (s : St), Good A W (fun c => execF C c fuel p s)
  | .skip, s => good_const _
  | .reg ops, s => good_map (good_runL hL ops s)
  | .drw ops, s => good_map (good_drwV hL ops ops s)
  | .seq a b, s => by
    have h := good_bind (K := fun (r : Ex × St) (c : Call) => match r with | (.normal, s) => execF C c fuel b s | r => some r) hL.1 (good_execF hL fuel a s) (fun r => by
      obtain ⟨x, s⟩ := r
      cases x with
      | normal => exact good_execF hL fuel b _
      | _ => exact good_const _)
    have e : (fun c : Call => execF C c fuel (.seq a b) s) = fun c => (execF C c fuel a s).bind fun r => match r with | (.normal, s) => execF C c fuel b s | r => some r := by
      funext c
      show (match execF C c fuel a s with | some (.normal, s) => _ | r => r) = _
      cases execF C c fuel a s with
      | none => rfl
      | some r => obtain ⟨x, s⟩ := r; cases x <;> rfl
    rw [e]; exact h
  | .cond o t e, s => by
    show Good A W (fun c => match rd s.tm o with | .bool b => bif b then execF C c fuel t s else execF C c fuel e s | _ => none)
    cases rd s.tm o <;> first | exact good_const none | skip
    rename_i b
    cases b
    · exact good_execF hL fuel e s
    · exact good_execF hL fuel t s
  | .block id b, s => by
    have h := good_map (g := outB id) (good_execF hL fuel b s)
    have e : (fun c : Call => execF C c fuel (.block id b) s) = fun c => (execF C c fuel b s).map (outB id) := by
      funext c
      simp only [execF]
      cases execF C c fuel b s with
      | none => rfl
      | some r =>
        obtain ⟨x, s⟩ := r
        cases x with
        | exit j =>
          show _ = some (bif Nat.beq j id then _ else _)
          simp only
          cases Nat.beq j id <;> rfl
        | _ => rfl
    rw [e]; exact h
  | .loop live b, s => good_iter hL (fun s => good_execF hL fuel b s) _ _ _ _
  | .exit id, s => good_const _
  | .ret, s => good_const _
  | .bad, s => good_const _


theorem iter_le {body body' : St → Option (Ex × St)} (hb : ∀ s r, body s = some r → body' s = some r) {n : Nat} {live : List Nat} : ∀ (k k' : Nat) (l : LS) (r : Ex × St), k ≤ k' → iter body n live k l = some r → iter body' n live k' l = some r
  | 0, _, _, _, _, h => by cases h
  | k + 1, 0, _, _, hk, _ => by omega
  | k + 1, k' + 1, l, r, hk, h => by
    simp only [iter] at h ⊢
    cases hx : body (l.st live) with
    | none => rw [hx] at h; cases h
    | some x =>
      rw [hx] at h; rw [hb _ _ hx]
      obtain ⟨x, s⟩ := x
      cases x with
      | normal => exact iter_le hb k k' _ r (by omega) h
      | _ => exact h

theorem execF_fuel {call : Call} {m n : Nat} (hmn : m ≤ n) : ∀ (p : VC) (s : St) (r : Ex × St), execF C call m p s = some r → execF C call n p s = some r
  | .skip, s, r, h => h
  | .reg ops, s, r, h => h
  | .drw ops, s, r, h => h
  | .seq a b, s, r, h => by
    simp only [execF] at h ⊢
    cases hx : execF C call m a s with
    | none => rw [hx] at h; cases h
    | some x =>
      rw [hx] at h; rw [execF_fuel hmn a s x hx]
      obtain ⟨x, s⟩ := x
      cases x with
      | normal => exact execF_fuel hmn b _ r h
      | _ => exact h
  | .cond o t e, s, r, h => by
    simp only [execF] at h ⊢
    cases hx : rd s.tm o with
    | bool b =>
      rw [hx] at h
      cases b
      · exact execF_fuel hmn e s r h
      · exact execF_fuel hmn t s r h
    | _ => rw [hx] at h; cases h
  | .block id b, s, r, h => by
    simp only [execF] at h ⊢
    cases hx : execF C call m b s with
    | none => rw [hx] at h; cases h
    | some x => rw [hx] at h; rw [execF_fuel hmn b s x hx]; exact h
  | .loop live b, s, r, h => iter_le (fun s r h => execF_fuel hmn b s r h) _ _ _ _ hmn h
  | .exit id, s, r, h => h
  | .ret, s, r, h => h
  | .bad, s, r, h => by cases h

end
end Go.Vm

/-
  The machine V: what a function answers, whatever the fuel; and how a code is gone through.
-/
namespace Go.Vm
open Go

structure Tab where
  C : Cfg
  funs : FuncId → Option VF
  prim : Call

def Tab.at (T : Tab) (n : Nat) : Call := callF T.C T.funs T.prim n

open Classical in
noncomputable def Tab.call (T : Tab) : Call := fun f as sg => if h : ∃ r n, T.at n f as sg = some r then some h.choose else none

section
variable {T : Tab}

theorem callF_succ {C : Cfg} {funs : FuncId → Option VF} {prim : Call} (n : Nat) (f : FuncId) (as : List V) (sg : List Fr) : callF C funs prim (n + 1) f as sg =
    match funs f with
    | some F => match execF C (callF C funs prim n) n F.code { tm := env as, fr := [], sg, wd := 0 } with
      | some (.normal, s) | some (.ret, s) => leave F s
      | _ => none
    | none => prim f as sg := rfl

theorem at_succ : ∀ n, CallLe (T.at n) (T.at (n + 1))
  | 0 => fun f as sg r h => by cases h
  | n + 1 => fun f as sg r h => by
    have ih := at_succ n
    unfold Tab.at at h ⊢
    rw [callF_succ] at h ⊢
    cases hF : T.funs f with
    | none => rw [hF] at h; exact h
    | some F =>
      rw [hF] at h
      have key : ∀ x, execF T.C (callF T.C T.funs T.prim n) n F.code { tm := env as, fr := [], sg, wd := 0 } = some x → execF T.C (callF T.C T.funs T.prim (n + 1)) (n + 1) F.code { tm := env as, fr := [], sg, wd := 0 } = some x := by
        intro x hx
        have g := good_execF (C := T.C) (A := fun _ => T.at n) (W := T.at n) ⟨fun _ _ _ => .refl _, fun f as sg r h => ⟨0, h⟩⟩ n F.code { tm := env as, fr := [], sg, wd := 0 }
        exact execF_fuel (Nat.le_succ n) _ _ _ (g.1 _ _ ih _ hx)
      simp only at h ⊢
      cases hx : execF T.C (callF T.C T.funs T.prim n) n F.code { tm := env as, fr := [], sg, wd := 0 } with
      | none => rw [hx] at h; cases h
      | some x => rw [hx] at h; rw [key _ hx]; exact h

theorem at_mono : ∀ m n, m ≤ n → CallLe (T.at m) (T.at n) := by
  intro m n h
  induction n with
  | zero => rw [Nat.le_zero.1 h]; exact .refl _
  | succ n ih =>
    rcases Nat.lt_or_ge n m with h1 | h1
    · have : m = n + 1 := by omega
      rw [this]; exact .refl _
    · exact (ih h1).trans (at_succ n)

theorem call_iff {f : FuncId} {as : List V} {sg : List Fr} {r : V × List Fr × Nat} : T.call f as sg = some r ↔ ∃ n, T.at n f as sg = some r := by
  unfold Tab.call
  constructor
  · intro h
    split at h
    · rename_i hh
      simp only [Option.some.injEq] at h
      obtain ⟨n, hn⟩ := hh.choose_spec
      exact ⟨n, by rw [hn, h]⟩
    · cases h
  · rintro ⟨n, hn⟩
    have hh : ∃ r n, T.at n f as sg = some r := ⟨r, n, hn⟩
    rw [dif_pos hh]
    obtain ⟨m, hm⟩ := hh.choose_spec
    have h1 := at_mono n (max m n) (Nat.le_max_right _ _) _ _ _ _ hn
    have h2 := at_mono m (max m n) (Nat.le_max_left _ _) _ _ _ _ hm
    rw [h1] at h2
    exact h2.symm ▸ rfl

theorem limit : Limit T.at T.call := ⟨at_mono, fun _ _ _ _ h => call_iff.1 h⟩


def Wp (T : Tab) (c : VC) (s : St) (Q : Ex → St → Prop) : Prop := ∃ n x s', execF T.C T.call n c s = some (x, s') ∧ Q x s'

def WpI (T : Tab) (b : VC) (n : Nat) (live : List Nat) (l : LS) (Q : Ex → St → Prop) : Prop := ∃ k x s', iter (execF T.C T.call k b) n live k l = some (x, s') ∧ Q x s'

variable {Q : Ex → St → Prop} {s : St}

def Then (T : Tab) (b : VC) (Q : Ex → St → Prop) : Ex → St → Prop := fun x s => match x with
  | .normal => Wp T b s Q
  | x => Q x s
def Behind (id : Nat) (Q : Ex → St → Prop) : Ex → St → Prop := fun x s => match x with
  | .exit j => bif Nat.beq j id then Q .normal s else Q (.exit j) s
  | x => Q x s
def Round (T : Tab) (b : VC) (n : Nat) (live : List Nat) (Q : Ex → St → Prop) : Ex → St → Prop := fun x s => match x with
  | .normal => WpI T b n live (LS.next n live s) Q
  | x => Q x s

theorem Wp_skip : Wp T .skip s Q ↔ Q .normal s :=
  ⟨fun ⟨_, _, _, h, q⟩ => by cases h; exact q, fun q => ⟨0, _, _, rfl, q⟩⟩
theorem Wp_exit {id : Nat} : Wp T (.exit id) s Q ↔ Q (.exit id) s :=
  ⟨fun ⟨_, _, _, h, q⟩ => by cases h; exact q, fun q => ⟨0, _, _, rfl, q⟩⟩
theorem Wp_ret : Wp T .ret s Q ↔ Q .ret s :=
  ⟨fun ⟨_, _, _, h, q⟩ => by cases h; exact q, fun q => ⟨0, _, _, rfl, q⟩⟩

theorem Wp_seq {a b : VC} : Wp T (.seq a b) s Q ↔ Wp T a s (Then T b Q) := by
  constructor
  · rintro ⟨n, x, s', h, q⟩
    simp only [execF] at h
    cases hx : execF T.C T.call n a s with
    | none => rw [hx] at h; cases h
    | some y =>
      rw [hx] at h
      obtain ⟨y, s1⟩ := y
      cases y with
      | normal => exact ⟨n, _, _, hx, n, x, s', h, q⟩
      | exit j => cases h; exact ⟨n, _, _, hx, q⟩
      | ret => cases h; exact ⟨n, _, _, hx, q⟩
  · rintro ⟨n, x, s1, h, q⟩
    cases x with
    | normal =>
      obtain ⟨m, x, s', h2, q⟩ := q
      exact ⟨max n m, x, s', by simp only [execF, execF_fuel (Nat.le_max_left n m) _ _ _ h, execF_fuel (Nat.le_max_right n m) _ _ _ h2], q⟩
    | exit j => exact ⟨n, _, _, by simp only [execF, h], q⟩
    | ret => exact ⟨n, _, _, by simp only [execF, h], q⟩

theorem Wp_reg {ops : List VOp} : Wp T (.reg ops) s Q ↔ ∃ s', runL T.C T.call ops s = some s' ∧ Q .normal s' := by
  constructor
  · rintro ⟨n, x, s', h, q⟩
    simp only [execF, Option.map_eq_some_iff, Prod.mk.injEq] at h
    obtain ⟨s1, h1, rfl, rfl⟩ := h
    exact ⟨s1, h1, q⟩
  · rintro ⟨s', h, q⟩
    exact ⟨0, _, _, by simp only [execF, h, Option.map_some], q⟩
theorem Wp_drw {ops : List DOp} : Wp T (.drw ops) s Q ↔ ∃ s', drwV T.C T.call ops ops s = some s' ∧ Q .normal s' := by
  constructor
  · rintro ⟨n, x, s', h, q⟩
    simp only [execF, Option.map_eq_some_iff, Prod.mk.injEq] at h
    obtain ⟨s1, h1, rfl, rfl⟩ := h
    exact ⟨s1, h1, q⟩
  · rintro ⟨s', h, q⟩
    exact ⟨0, _, _, by simp only [execF, h, Option.map_some], q⟩

theorem Wp_cond {c : O} {t e : VC} {b : Bool} (h : rd s.tm c = .bool b) : Wp T (.cond c t e) s Q ↔ bif b then Wp T t s Q else Wp T e s Q := by
  unfold Wp
  simp only [execF, h]
  cases b <;> rfl

theorem Wp_block {id : Nat} {b : VC} : Wp T (.block id b) s Q ↔ Wp T b s (Behind id Q) := by
  constructor
  · rintro ⟨n, x, s', h, q⟩
    simp only [execF] at h
    cases hx : execF T.C T.call n b s with
    | none => rw [hx] at h; cases h
    | some y =>
      rw [hx] at h
      obtain ⟨y, s1⟩ := y
      refine ⟨n, y, s1, hx, ?_⟩
      cases y with
      | normal => cases h; exact q
      | exit j =>
        simp only [Behind]
        cases hb : Nat.beq j id <;> simp only [hb, cond_true, cond_false, Option.some.injEq, Prod.mk.injEq] at h <;> obtain ⟨rfl, rfl⟩ := h <;> exact q
      | ret => cases h; exact q
  · rintro ⟨n, x, s1, h, q⟩
    cases x with
    | normal => exact ⟨n, _, _, by simp only [execF, h], q⟩
    | ret => exact ⟨n, _, _, by simp only [execF, h], q⟩
    | exit j =>
      simp only [Behind] at q
      cases hb : Nat.beq j id <;> simp only [hb, cond_true, cond_false] at q
      · exact ⟨n, _, _, by simp only [execF, h, hb, cond_false], q⟩
      · exact ⟨n, _, _, by simp only [execF, h, hb, cond_true], q⟩

theorem Wp_loop {live : List Nat} {b : VC} : Wp T (.loop live b) s Q ↔ WpI T b s.fr.length live { vals := live.map s.tm, fr := s.fr, sg := s.sg, wd := s.wd } Q := Iff.rfl

theorem WpI_iff {b : VC} {n : Nat} {live : List Nat} {l : LS} : WpI T b n live l Q ↔ Wp T b (l.st live) (Round T b n live Q) := by
  constructor
  · rintro ⟨k, x, s', h, q⟩
    cases k with
    | zero => cases h
    | succ k =>
      simp only [iter] at h
      cases hx : execF T.C T.call (k + 1) b (l.st live) with
      | none => rw [hx] at h; cases h
      | some y =>
        rw [hx] at h
        obtain ⟨y, s1⟩ := y
        refine ⟨k + 1, y, s1, hx, ?_⟩
        cases y with
        | normal => exact ⟨k + 1, x, s', iter_le (fun _ _ h => h) _ _ _ _ (Nat.le_succ k) h, q⟩
        | exit j => cases h; exact q
        | ret => cases h; exact q
  · rintro ⟨n1, x, s1, h, q⟩
    cases x with
    | normal =>
      obtain ⟨k, x, s', h2, q⟩ := q
      refine ⟨max n1 k + 1, x, s', ?_, q⟩
      simp only [iter, execF_fuel (Nat.le_trans (Nat.le_max_left n1 k) (Nat.le_succ _)) _ _ _ h]
      exact iter_le (fun _ _ h => execF_fuel (Nat.le_trans (Nat.le_max_right n1 k) (Nat.le_succ _)) _ _ _ h) _ _ _ _ (Nat.le_max_right n1 k) h2
    | exit j => exact ⟨n1 + 1, _, _, by simp only [iter, execF_fuel (Nat.le_succ n1) _ _ _ h], q⟩
    | ret => exact ⟨n1 + 1, _, _, by simp only [iter, execF_fuel (Nat.le_succ n1) _ _ _ h], q⟩

theorem Wp.imp {c : VC} {Q' : Ex → St → Prop} (h : Wp T c s Q) (k : ∀ x s', Q x s' → Q' x s') : Wp T c s Q' := by
  obtain ⟨n, x, s', h1, h2⟩ := h
  exact ⟨n, x, s', h1, k _ _ h2⟩

def Out (F : VF) (R : V × List Fr × Nat) : Ex → St → Prop := fun x s => match x with
  | .exit _ => False
  | _ => leave F s = some R

theorem call_fun {f : FuncId} {F : VF} (hF : T.funs f = some F) {as : List V} {sg : List Fr} {R : V × List Fr × Nat} (h : Wp T F.code { tm := env as, fr := [], sg, wd := 0 } (Out F R)) : T.call f as sg = some R := by
  obtain ⟨n, x, s', h1, h2⟩ := h
  obtain ⟨m, h3⟩ := (good_execF (C := T.C) limit n F.code { tm := env as, fr := [], sg, wd := 0 }).2 _ h1
  refine call_iff.2 ⟨max m n + 1, ?_⟩
  have h4 : execF T.C (callF T.C T.funs T.prim (max m n)) (max m n) F.code { tm := env as, fr := [], sg, wd := 0 } = some (x, s') :=
    execF_fuel (Nat.le_max_right m n) _ _ _ ((good_execF (C := T.C) (A := T.at) (W := T.call) limit n F.code { tm := env as, fr := [], sg, wd := 0 }).1 _ _ (at_mono _ _ (Nat.le_max_left m n)) _ h3)
  unfold Tab.at
  simp only [callF, hF, h4]
  cases x with
  | exit j => exact h2.elim
  | normal => exact h2
  | ret => exact h2
theorem call_prim {f : FuncId} (hF : T.funs f = none) {as : List V} {sg : List Fr} {R : V × List Fr × Nat} (h : T.prim f as sg = some R) : T.call f as sg = some R :=
  call_iff.2 ⟨1, by unfold Tab.at; simp only [callF, hF]; exact h⟩

end
end Go.Vm

/-
  The machine V: going through a code, step by step.
-/
namespace Go.Vm
open Go

section
variable {T : Tab} {Q : Ex → St → Prop} {s : St}

theorem reg_nil : Wp T (.reg []) s Q ↔ Q .normal s := by
  rw [Wp_reg]; simp [runL]
theorem reg_cons {o : VOp} {os : List VOp} : Wp T (.reg (o :: os)) s Q ↔ ∃ s1, stepV T.C T.call o s = some s1 ∧ Wp T (.reg os) s1 Q := by
  simp only [Wp_reg, runL, Option.bind_eq_some_iff]
  constructor
  · rintro ⟨s', ⟨s1, h1, h2⟩, q⟩; exact ⟨s1, h1, s', h2, q⟩
  · rintro ⟨s1, h1, s', h2, q⟩; exact ⟨s', ⟨s1, h1, h2⟩, q⟩

def WpD (T : Tab) (all l : List DOp) (s : St) (Q : Ex → St → Prop) : Prop := ∃ s', drwV T.C T.call all l s = some s' ∧ Q .normal s'
theorem drw_all {ops : List DOp} : Wp T (.drw ops) s Q ↔ WpD T ops ops s Q := Wp_drw
theorem drw_nil {all : List DOp} : WpD T all [] s Q ↔ Q .normal s := by
  simp [WpD, drwV]
theorem drw_main {all l : List DOp} {i : Nat} {bf re : List Nat} {o : VOp} : WpD T all (⟨i, bf, o, true, re⟩ :: l) s Q ↔ ∃ s1, stepV T.C T.call o s = some s1 ∧ re.all (againAt T.C T.call all s1) = true ∧ WpD T all l s1 Q := by
  simp only [WpD, drwV, cond_true, Option.bind_eq_some_iff]
  constructor
  · rintro ⟨s', ⟨s1, h1, h2⟩, q⟩
    cases hb : re.all (againAt T.C T.call all s1) with
    | false => rw [hb] at h2; cases h2
    | true => rw [hb] at h2; exact ⟨s1, h1, hb, s', h2, q⟩
  · rintro ⟨s1, h1, hb, s', h2, q⟩; exact ⟨s', ⟨s1, h1, by rw [hb]; exact h2⟩, q⟩
theorem drw_pure {all l : List DOp} {i : Nat} {bf re : List Nat} {o : VOp} : WpD T all (⟨i, bf, o, false, re⟩ :: l) s Q ↔ ∃ s1, stepP T.C T.call o s = some s1 ∧ WpD T all l s1 Q := by
  simp only [WpD, drwV, cond_false, Option.bind_eq_some_iff]
  constructor
  · rintro ⟨s', ⟨s1, h1, h2⟩, q⟩; exact ⟨s1, h1, s', h2, q⟩
  · rintro ⟨s1, h1, s', h2, q⟩; exact ⟨s', ⟨s1, h1, h2⟩, q⟩

end
end Go.Vm

/-
  The machine V: a call from outside.
-/
namespace Go.Vm
open Go Go.RowKit

def primAll (K : FuncId → Option Nat) (L : FuncId → Option (Nat × Bool)) : Call := fun f as sg =>
  match K f with
  | some _ => primX K f as sg
  | none => cloneX L f as sg
theorem primAll_ok {KW : World → Prop} {P : Program} {K : FuncId → Option Nat} {L : FuncId → Option (Nat × Bool)} (hm : P.follows .mixedOrders = true) (hK : Prims P K) (hL : ∀ f z m, L f = some (z, m) → ∃ fn, P.funcs[f]? = some fn ∧ CloneFn P z m fn) : CallOk KW P (primAll K L) := by
  intro f as sg v sg' wd h
  unfold primAll at h
  split at h
  · exact primX_ok hK f as sg v sg' wd h
  · exact cloneX_ok hm hL f as sg v sg' wd h
theorem primAll_q (K : FuncId → Option Nat) (L : FuncId → Option (Nat × Bool)) : CallQ (primAll K L) := by
  intro f as sg v sg' wd h
  unfold primAll at h
  split at h
  · exact primX_q K f as sg v sg' wd h
  · exact cloneX_q L f as sg v sg' wd h

def im0 (w : World) : Nat → Nat → Option Value := fun c k => w.cell? ⟨c, k, none⟩
def G0 (w : World) : Gh := { im := im0 w, ow := fun _ _ => none, ph := fun _ _ => none }
def KW0 : World → Prop := fun _ => True
def bd0 {KW : World → Prop} (w : World) (hK : ∀ w1 w2 : World, Below w.heap.size w1 w2 → KW w1 → KW w2) : Bd KW := ⟨w.heap.size, hK⟩
theorem WR0 {KW : World → Prop} (w : World) (hK : ∀ w1 w2 : World, Below w.heap.size w1 w2 → KW w1 → KW w2) (hw : KW w) : WR (G0 w) (bd0 w hK) [] [] w := by
  refine ⟨fun c k x h => h, fun _ _ _ _ => rfl, (fun c k o h => by cases h), (fun d i b loc hd hg hl => by cases hl), (fun l i loc h => by cases h), Nat.le_refl _, hw⟩

theorem enter_run {P : Program} {T : Tab} (hf : Funs P T.funs) {f : FuncId} {F : VF} (hF : T.funs f = some F) (A : Array Value) (w : World) : (callFunc f A).run P w = .ok (.enter f A) w := by
  obtain ⟨fn, hfn, htr⟩ := hf f F hF
  unfold trF at htr
  simp only [Bool.and_eq_true, Bool.not_eq_true'] at htr
  obtain ⟨hname, htr⟩ := htr
  split at htr
  · rename_i c hbody
    simp [callFunc, hfn, hbody]
    intro h
    rw [h] at hname
    simp at hname
  · cases htr

theorem top_ok {KW : World → Prop} {P : Program} {T : Tab} (hm : P.follows .mixedOrders = true) (hf : Funs P T.funs) (hp : CallOk KW P T.prim) (hq : CallQ T.prim) {f : FuncId} {F : VF} (hF : T.funs f = some F) {as : List V} {b : Bool} {wd : Nat} (h : T.call f as [] = some (.bool b, [], wd))
    {A : Array Value} {w : World} (hK : ∀ w1 w2 : World, Below w.heap.size w1 w2 → KW w1 → KW w2) (hw : KW w) (hA : A.size = as.length) (hR : ∀ (j : Nat) (x : V) (y : Value), as[j]? = some x → A[j]? = some y → PR (im0 w) x y) :
    Calls P f A w fun | .returned cv, w' => cv = .bool b ∧ Below w.heap.size w w' | _, _ => False := by
  obtain ⟨n, hn⟩ := call_iff.1 h
  have hc := vm_sound (C := T.C) hm hf hp hq n f as [] (.bool b) [] wd hn (G0 w) (bd0 w hK) w A (WR0 w hK hw) hA (fun j x y hx hy => .pr _ _ (hR j x y hx hy))
  rcases hc with ⟨_, h2⟩ | ⟨cv, w', h1, _⟩
  · refine h2.mono fun e w' he => ?_
    cases e with
    | returned cv =>
      obtain ⟨G', r⟩ := he
      exact ⟨r.v.bool_inv, r.be⟩
    | panicked _ => exact he
    | outgrown => exact he
  · rw [enter_run hf hF] at h1
    cases h1

end Go.Vm

/-
  The machine V with numbers that are not known (they bear the kind i16, which no code uses): what a run tells that never looks at them
  is told for all of them. First part: putting numbers in.
-/
namespace Go.Vm
open Go

mutual
def su (σ : Int → V) : V → V
  | .und => .und
  | .bool b => .bool b
  | .int k n => bif k == .i16 then σ n else .int k n
  | .str s => .str s
  | .nilp => .nilp
  | .bp d i o => .bp d i o
  | .ep cs o => .ep (suL σ cs) o
  | .ap d i v j o => .ap d i v j o
  | .sl t z es => .sl t z (suL σ es)
  | .bs d i v o l => .bs d i v o l
  | .nilm => .nilm
  | .mp d i => .mp d i
  | .fn f a b => .fn f (suL σ a) (suL σ b)
  | .nilf => .nilf
  | .iface t v => .iface t (su σ v)
  | .nili => .nili
  | .agg cs => .agg (suL σ cs)
  | .tup vs => .tup (suL σ vs)
def suL (σ : Int → V) : List V → List V
  | [] => []
  | v :: vs => su σ v :: suL σ vs
end

def Num (σ : Int → V) : Prop := ∀ n, ∃ k m, σ n = .int k m
def ns : V → Bool
  | .int k _ => !(k == .i16)
  | _ => true

def suB (σ : Int → V) : Blk → Blk
  | .box cs => .box (suL σ cs)
  | .arr v z es => .arr v z (suL σ es)
  | .tok v => .tok v
  | .map es => .map (es.map fun (a, b) => (su σ a, su σ b))
  | .dead => .dead
def suF (σ : Int → V) (fr : Fr) : Fr := fr.map (suB σ)
def suG (σ : Int → V) (sg : List Fr) : List Fr := sg.map (suF σ)
def suS (σ : Int → V) (s : St) : St := { tm := fun t => su σ (s.tm t), fr := suF σ s.fr, sg := suG σ s.sg, wd := s.wd }

section
variable {σ : Int → V}

theorem suL_map : ∀ l : List V, suL σ l = l.map (su σ)
  | [] => by simp [suL]
  | v :: vs => by simp [suL, suL_map vs]
theorem suL_len (l : List V) : (suL σ l).length = l.length := by rw [suL_map, List.length_map]
theorem suL_get (l : List V) (i : Nat) : (suL σ l)[i]? = (l[i]?).map (su σ) := by rw [suL_map, List.getElem?_map]
theorem suL_append (a b : List V) : suL σ (a ++ b) = suL σ a ++ suL σ b := by simp [suL_map]
theorem suL_drop (a : List V) (n : Nat) : suL σ (a.drop n) = (suL σ a).drop n := by simp [suL_map, List.map_drop]
theorem suL_take (a : List V) (n : Nat) : suL σ (a.take n) = (suL σ a).take n := by simp [suL_map, List.map_take]
theorem suL_set (a : List V) (n : Nat) (v : V) : suL σ (a.set n v) = (suL σ a).set n (su σ v) := by simp [suL_map, List.map_set]

theorem su_int (hσ : Num σ) (k : IntKind) (n : Int) : ∃ j m, su σ (.int k n) = .int j m := by
  simp only [su]
  cases k == IntKind.i16
  · exact ⟨_, _, rfl⟩
  · exact hσ n
theorem su_ns {k : IntKind} {n : Int} (h : ns (.int k n) = true) : su σ (.int k n) = .int k n := by
  simp only [ns, Bool.not_eq_true'] at h
  simp only [su, h, cond_false]

theorem pu0_su (hσ : Num σ) (v : V) : pu0 (su σ v) = pu0 v := by
  cases v with
  | int k n => obtain ⟨j, m, e⟩ := su_int hσ k n; rw [e]; rfl
  | sl t z es => cases t <;> rfl
  | _ => rfl
theorem all_su {p : V → Bool} (h : ∀ v, p (su σ v) = p v) (l : List V) : (suL σ l).all p = l.all p := by
  rw [suL_map, List.all_map]; congr 1; funext v; exact h v
theorem pu1_su (hσ : Num σ) (v : V) : pu1 (su σ v) = pu1 v := by
  cases v with
  | int k n => obtain ⟨j, m, e⟩ := su_int hσ k n; rw [e]; rfl
  | fn f a b => simp only [su, pu1, all_su (pu0_su hσ)]
  | iface t v => simp only [su, pu1, pu0_su hσ]
  | sl t z es => cases t <;> rfl
  | _ => rfl
theorem pu2_su (hσ : Num σ) (v : V) : pu2 (su σ v) = pu2 v := by
  cases v with
  | int k n => obtain ⟨j, m, e⟩ := su_int hσ k n; rw [e]; rfl
  | agg cs => simp only [su, pu2, all_su (pu1_su hσ)]
  | fn f a b => exact pu1_su hσ (.fn f a b)
  | iface t v => exact pu1_su hσ (.iface t v)
  | sl t z es => cases t <;> rfl
  | _ => rfl
theorem pu3_su (hσ : Num σ) (v : V) : pu3 (su σ v) = pu3 v := by
  cases v with
  | int k n => obtain ⟨j, m, e⟩ := su_int hσ k n; rw [e]; rfl
  | tup cs => simp only [su, pu3, all_su (pu2_su hσ)]
  | agg cs => exact pu2_su hσ (.agg cs)
  | fn f a b => exact pu1_su hσ (.fn f a b)
  | iface t v => exact pu1_su hσ (.iface t v)
  | sl t z es => cases t <;> rfl
  | _ => rfl

theorem map_su {f : V → V} (h : ∀ v, f (su σ v) = su σ (f v)) (l : List V) : (suL σ l).map f = suL σ (l.map f) := by
  simp only [suL_map, List.map_map]; congr 1; funext v; exact h v

theorem map_su2 {f g : V → V} (h : ∀ v, f (su σ v) = su σ (g v)) (l : List V) : (suL σ l).map f = suL σ (l.map g) := by
  simp only [suL_map, List.map_map]; congr 1; funext v; exact h v

theorem sh0_su (hσ : Num σ) (k : Nat) (v : V) : sh0 k (su σ v) = su σ (sh0 k v) := by
  cases v with
  | int j n => obtain ⟨j', m, e⟩ := su_int hσ j n; rw [e]; simp only [sh0]; exact e.symm
  | sl t z es => cases t <;> simp [su, sh0]
  | _ => simp [su, sh0]
theorem sh1_su (hσ : Num σ) (k : Nat) (v : V) : sh1 k (su σ v) = su σ (sh1 k v) := by
  cases v with
  | int j n => obtain ⟨j', m, e⟩ := su_int hσ j n; rw [e]; simp only [sh1, sh0]; exact e.symm
  | fn f a b => simp only [su, sh1, map_su (sh0_su hσ k)]
  | iface t v => simp only [su, sh1, sh0_su hσ k]
  | sl t z es => cases t <;> simp [su, sh1, sh0]
  | _ => simp [su, sh1, sh0]
theorem sh2_su (hσ : Num σ) (k : Nat) (v : V) : sh2 k (su σ v) = su σ (sh2 k v) := by
  cases v with
  | agg cs => simp only [su, sh2, map_su (sh1_su hσ k)]
  | int j n => obtain ⟨j', m, e⟩ := su_int hσ j n; rw [e]; simp only [sh2, sh1, sh0]; exact e.symm
  | fn f a b => exact sh1_su hσ k (.fn f a b)
  | iface t v => exact sh1_su hσ k (.iface t v)
  | sl t z es => cases t <;> simp [su, sh2, sh1, sh0]
  | _ => simp [su, sh2, sh1, sh0]

theorem mapM_su {f : V → Option V} (h : ∀ v, f (su σ v) = (f v).map (su σ)) : ∀ l : List V, (suL σ l).mapM f = (l.mapM f).map (suL σ)
  | [] => by simp [suL]
  | v :: vs => by
    simp only [suL, List.mapM_cons, h, mapM_su h vs]
    cases f v with
    | none => rfl
    | some a => cases vs.mapM f <;> simp [suL]

theorem dn0_su (hσ : Num σ) (k : Nat) (v : V) : dn0 k (su σ v) = (dn0 k v).map (su σ) := by
  cases v with
  | int j n => obtain ⟨j', m, e⟩ := su_int hσ j n; rw [e]; simp only [dn0, Option.map_some]; rw [e]
  | bp d i o => simp only [su, dn0]; cases Nat.ble k d <;> simp [su]
  | ap d i v j o => simp only [su, dn0]; cases Nat.ble k d <;> simp [su]
  | bs d i v o l => simp only [su, dn0]; cases Nat.ble k d <;> simp [su]
  | mp d i => simp only [su, dn0]; cases Nat.ble k d <;> simp [su]
  | sl t z es =>
    cases t with
    | «at» d i ver => simp only [su, dn0]; cases Nat.ble k d <;> simp [su]
    | _ => simp [su, dn0]
  | _ => simp [su, dn0]
theorem dn1_su (hσ : Num σ) (k : Nat) (v : V) : dn1 k (su σ v) = (dn1 k v).map (su σ) := by
  have h0 := dn0_su hσ k v
  cases v with
  | fn f a b =>
    simp only [su, dn1, mapM_su (dn0_su hσ k)]
    cases a.mapM (dn0 k) with
    | none => rfl
    | some x => cases b.mapM (dn0 k) <;> simp [su]
  | iface t v => simp only [su, dn1, dn0_su hσ k]; cases dn0 k v <;> simp [su]
  | int j n => obtain ⟨j', m, e⟩ := su_int hσ j n; have := dn0_su hσ k (.int j n); rw [e] at this ⊢; exact this
  | _ => exact h0

theorem lt0_su (hσ : Num σ) (k : Nat) (v : V) : lt0 k (su σ v) = lt0 k v := by
  cases v with
  | int j n => obtain ⟨j', m, e⟩ := su_int hσ j n; rw [e]; rfl
  | bp d i o => cases d <;> rfl
  | ap d i v j o => cases d <;> rfl
  | bs d i v o l => cases d <;> rfl
  | mp d i => cases d <;> rfl
  | sl t z es =>
    cases t with
    | «at» d i ver => cases d <;> rfl
    | _ => rfl
  | _ => rfl
theorem lt1_su (hσ : Num σ) (k : Nat) (v : V) : lt1 k (su σ v) = lt1 k v := by
  have h0 := lt0_su hσ k v
  cases v with
  | fn f a b => simp only [su, lt1, all_su (lt0_su hσ k)]
  | iface t v => simp only [su, lt1, lt0_su hσ k]
  | int j n => obtain ⟨j', m, e⟩ := su_int hσ j n; rw [e]; rfl
  | _ => exact h0
theorem lt2_su (hσ : Num σ) (k : Nat) (v : V) : lt2 k (su σ v) = lt2 k v := by
  have h0 := lt1_su hσ k v
  cases v with
  | agg cs => simp only [su, lt2, all_su (lt1_su hσ k)]
  | int j n => obtain ⟨j', m, e⟩ := su_int hσ j n; rw [e]; rfl
  | _ => exact h0
theorem lt3_su (hσ : Num σ) (k : Nat) (v : V) : lt3 k (su σ v) = lt3 k v := by
  have h0 := lt2_su hσ k v
  cases v with
  | tup cs => simp only [su, lt3, all_su (lt2_su hσ k)]
  | int j n => obtain ⟨j', m, e⟩ := su_int hσ j n; rw [e]; rfl
  | _ => exact h0
theorem ltB_su (hσ : Num σ) (k : Nat) (b : Blk) : ltB k (suB σ b) = ltB k b := by
  cases b with
  | box cs => simp only [suB, ltB, all_su (lt1_su hσ k)]
  | map es => rfl
  | _ => rfl

theorem dt0_su (hσ : Num σ) (v : V) : dt0 (su σ v) = su σ (dt0 v) := by
  cases v with
  | int j n => obtain ⟨j', m, e⟩ := su_int hσ j n; rw [e]; simp only [dt0]; exact e.symm
  | _ => simp [su, dt0]
theorem dx0_su (hσ : Num σ) (v : V) : dx0 (su σ v) = su σ (dx0 v) := by
  cases v with
  | int j n => obtain ⟨j', m, e⟩ := su_int hσ j n; rw [e]; simp only [dx0]; exact e.symm
  | sl t z es => cases t <;> simp [su, dx0]
  | _ => simp [su, dx0]
theorem dt2_su (hσ : Num σ) (v : V) : dt2 (su σ v) = su σ (dt2 v) := by
  have h0 := dt0_su hσ v
  cases v with
  | agg cs => simp only [su, dt2, map_su (dt0_su hσ)]
  | int j n => obtain ⟨j', m, e⟩ := su_int hσ j n; rw [e]; simp only [dt2, dt0]; exact e.symm
  | _ => exact h0

theorem suF_get (fr : Fr) (i : Nat) : (suF σ fr)[i]? = (fr[i]?).map (suB σ) := by unfold suF; rw [List.getElem?_map]
theorem suF_len (fr : Fr) : (suF σ fr).length = fr.length := by unfold suF; rw [List.length_map]

theorem fz0_su (hσ : Num σ) (fr : Fr) (v : V) : fz0 (suF σ fr) (su σ v) = su σ (fz0 fr v) := by
  cases v with
  | int j n => obtain ⟨j', m, e⟩ := su_int hσ j n; rw [e]; simp only [fz0]; exact e.symm
  | bs d i ver o len =>
    cases d with
    | succ d => simp [su, fz0]
    | zero =>
      simp only [su, fz0, suF_get]
      cases fr[i]? with
      | none => simp [su]
      | some b =>
        cases b with
        | arr ver' z es =>
          simp only [Option.map_some, suB, suL_len]
          cases (Nat.beq ver ver' && Nat.ble (o + len) es.length) <;> simp [su, suL_take, suL_drop]
        | _ => simp [suB, su]
  | _ => simp [su, fz0]
theorem fz2_su (hσ : Num σ) (fr : Fr) (v : V) : fz2 (suF σ fr) (su σ v) = su σ (fz2 fr v) := by
  have h0 := fz0_su hσ fr v
  cases v with
  | agg cs => simp only [su, fz2, map_su2 (fz0_su hσ fr)]
  | int j n => obtain ⟨j', m, e⟩ := su_int hσ j n; have := fz0_su hσ fr (.int j n); rw [e] at this ⊢; exact this
  | _ => exact h0
theorem fz3_su (hσ : Num σ) (fr : Fr) (v : V) : fz3 (suF σ fr) (su σ v) = su σ (fz3 fr v) := by
  have h0 := fz2_su hσ fr v
  cases v with
  | tup cs => simp only [su, fz3, map_su2 (fz2_su hσ fr)]
  | int j n => obtain ⟨j', m, e⟩ := su_int hσ j n; have := fz2_su hσ fr (.int j n); rw [e] at this ⊢; exact this
  | _ => exact h0

theorem mg0_su (hσ : Num σ) (k : Nat) (v : V) : mg0 k (su σ v) = su σ (mg0 k v) := by
  cases v with
  | int j n => obtain ⟨j', m, e⟩ := su_int hσ j n; rw [e]; simp only [mg0]; exact e.symm
  | bp d i o => cases d <;> simp [su, mg0]
  | ap d i v j o => cases d <;> simp [su, mg0]
  | bs d i v o l => cases d <;> simp [su, mg0]
  | mp d i => cases d <;> simp [su, mg0]
  | sl t z es =>
    cases t with
    | «at» d i ver => cases d <;> simp [su, mg0]
    | _ => simp [su, mg0]
  | _ => simp [su, mg0]
theorem mg1_su (hσ : Num σ) (k : Nat) (v : V) : mg1 k (su σ v) = su σ (mg1 k v) := by
  have h0 := mg0_su hσ k v
  cases v with
  | fn f a b => simp only [su, mg1, map_su (mg0_su hσ k)]
  | iface t v => simp only [su, mg1, mg0_su hσ k]
  | int j n => obtain ⟨j', m, e⟩ := su_int hσ j n; have := mg0_su hσ k (.int j n); rw [e] at this ⊢; exact this
  | _ => exact h0
theorem mg2_su (hσ : Num σ) (k : Nat) (v : V) : mg2 k (su σ v) = su σ (mg2 k v) := by
  have h0 := mg1_su hσ k v
  cases v with
  | agg cs => simp only [su, mg2, map_su (mg1_su hσ k)]
  | int j n => obtain ⟨j', m, e⟩ := su_int hσ j n; have := mg1_su hσ k (.int j n); rw [e] at this ⊢; exact this
  | _ => exact h0
theorem mg3_su (hσ : Num σ) (k : Nat) (v : V) : mg3 k (su σ v) = su σ (mg3 k v) := by
  have h0 := mg2_su hσ k v
  cases v with
  | tup cs => simp only [su, mg3, map_su (mg2_su hσ k)]
  | int j n => obtain ⟨j', m, e⟩ := su_int hσ j n; have := mg2_su hσ k (.int j n); rw [e] at this ⊢; exact this
  | _ => exact h0
theorem mgB_su (hσ : Num σ) (k : Nat) (b : Blk) : mgB k (suB σ b) = suB σ (mgB k b) := by
  cases b with
  | box cs => simp only [suB, mgB, map_su (mg1_su hσ k)]
  | _ => rfl

theorem get_su (s : St) (d i : Nat) : (suS σ s).get d i = (s.get d i).map (suB σ) := by
  cases d with
  | zero => simp only [St.get, getB, suS, suF_get]
  | succ d =>
    simp only [St.get, getB, suS, suG, List.getElem?_map]
    cases s.sg[d]? with
    | none => rfl
    | some fr => simp [suF_get]
theorem set_su (s : St) (d i : Nat) (b : Blk) : suS σ (s.set d i b) = (suS σ s).set d i (suB σ b) := by
  cases d with
  | zero => simp only [St.set, suS, suF, List.map_set]
  | succ d =>
    simp only [St.set, suS, suG, St.mk.injEq, true_and, and_true]
    apply List.ext_getElem?
    intro j
    simp only [List.getElem?_map, List.getElem?_modify]
    cases s.sg[j]? with
    | none => simp
    | some fr => by_cases h : d = j <;> simp [h, suF, List.map_set]

theorem scal_su (hσ : Num σ) (v : V) : scal (su σ v) = scal v := by
  cases v with
  | int j n => obtain ⟨j', m, e⟩ := su_int hσ j n; rw [e]; rfl
  | _ => rfl
theorem whole_su (hσ : Num σ) (v : V) : whole (su σ v) = whole v := by
  cases v with
  | int j n => obtain ⟨j', m, e⟩ := su_int hσ j n; rw [e]; rfl
  | _ => rfl
theorem cellsOf_su (hσ : Num σ) (v : V) : cellsOf (su σ v) = suL σ (cellsOf v) := by
  cases v with
  | int j n => obtain ⟨j', m, e⟩ := su_int hσ j n; simp only [cellsOf, suL]; rw [e]
  | _ => simp [su, cellsOf, suL]
theorem ldC_su (ag : Bool) (sz : Nat) (cs : List V) (o : Nat) : ldC ag sz (suL σ cs) o = (ldC ag sz cs o).map (su σ) := by
  cases ag with
  | false => simp only [ldC, cond_false, suL_get]
  | true =>
    simp only [ldC, cond_true, suL_len]
    cases Nat.ble (o + sz) cs.length <;> simp [su, suL_take, suL_drop]
theorem stC_su (hσ : Num σ) (ag : Bool) (sz : Nat) (cs : List V) (o : Nat) (v : V) : stC ag sz (suL σ cs) o (su σ v) = (stC ag sz cs o v).map (suL σ) := by
  cases ag with
  | false =>
    simp only [stC, cond_false, suL_len, scal_su hσ]
    cases (scal v && Nat.blt o cs.length) <;> simp [suL_set]
  | true =>
    simp only [stC, cond_true]
    cases v with
    | agg vs =>
      simp only [su, suL_len, all_su (scal_su hσ)]
      cases (Nat.beq vs.length sz && (Nat.ble (o + sz) cs.length && vs.all scal)) <;> simp [suL_append, suL_take, suL_drop]
    | int j n => obtain ⟨j', m, e⟩ := su_int hσ j n; rw [e]; rfl
    | _ => simp [su]
theorem mkEl_su (hσ : Num σ) (ag : Bool) (cs : List V) : mkEl ag (suL σ cs) = su σ (mkEl ag cs) := by
  cases ag with
  | true => simp [mkEl, su]
  | false =>
    match cs with
    | [] => simp [mkEl, suL, su]
    | [v] => simp only [mkEl, cond_false, suL, scal_su hσ]; cases scal v <;> simp [su]
    | _ :: _ :: _ => simp [mkEl, suL, su]
theorem reEl_su (hσ : Num σ) (e : V) (cs : List V) : reEl (su σ e) (suL σ cs) = su σ (reEl e cs) := by
  cases e with
  | agg _ => simp [su, reEl]
  | int j n => obtain ⟨j', m, h⟩ := su_int hσ j n; rw [h]; exact mkEl_su hσ false cs
  | _ => exact mkEl_su hσ false cs
theorem dnS_su (hσ : Num σ) (d : Nat) (v : V) : dnS d (su σ v) = (dnS d v).map (su σ) := by
  cases d with
  | zero => simp [dnS]
  | succ d =>
    have h0 := dn1_su hσ (d + 1) v
    cases v with
    | agg cs =>
      simp only [su, dnS, mapM_su (dn1_su hσ (d + 1))]
      cases cs.mapM (dn1 (d + 1)) <;> simp [su]
    | int j n => obtain ⟨j', m, e⟩ := su_int hσ j n; have := dn1_su hσ (d + 1) (.int j n); rw [e] at this ⊢; exact this
    | _ => exact h0

theorem ldV_su (hσ : Num σ) (ag : Bool) (sz : Nat) (a : V) (s : St) : ldV ag sz (su σ a) (suS σ s) = (ldV ag sz a s).map (su σ) := by
  cases a with
  | int j n => obtain ⟨j', m, e⟩ := su_int hσ j n; rw [e]; rfl
  | ep cs o => simp only [su, ldV, ldC_su]
  | bp d i o =>
    simp only [su, ldV, get_su]
    cases s.get d i with
    | none => rfl
    | some b =>
      cases b with
      | box cs =>
        simp only [Option.map_some, suB, ldC_su]
        cases ldC ag sz cs o with
        | none => rfl
        | some v =>
          cases d with
          | zero => rfl
          | succ d => simp [sh2_su hσ]
      | _ => rfl
  | ap d i ver j o =>
    simp only [su, ldV, get_su]
    cases s.get d i with
    | none => rfl
    | some b =>
      cases b with
      | arr ver' z es =>
        simp only [Option.map_some, suB, suL_get]
        cases Nat.beq ver ver' with
        | false => rfl
        | true =>
          simp only [cond_true]
          cases es[j]? with
          | none => rfl
          | some e => simp [cellsOf_su hσ, ldC_su]
      | _ => rfl
  | _ => rfl

theorem stV_su (hσ : Num σ) (ag : Bool) (sz : Nat) (a v : V) (s : St) : stV ag sz (su σ a) (su σ v) (suS σ s) = (stV ag sz a v s).map (suS σ) := by
  cases a with
  | int j n => obtain ⟨j', m, e⟩ := su_int hσ j n; rw [e]; rfl
  | bp d i o =>
    simp only [su, stV, get_su]
    cases s.get d i with
    | none => rfl
    | some b =>
      cases b with
      | box cs =>
        simp only [Option.map_some, suB, dnS_su hσ]
        cases dnS d v with
        | none => rfl
        | some u =>
          simp only [Option.map_some, Option.bind_some, stC_su hσ]
          cases stC ag sz cs o u with
          | none => rfl
          | some cs' => simp [set_su, suB]
      | _ => rfl
  | ap d i ver j o =>
    simp only [su, stV, get_su]
    cases s.get d i with
    | none => rfl
    | some b =>
      cases b with
      | arr ver' z es =>
        simp only [Option.map_some, suB, suL_get]
        cases Nat.beq ver ver' with
        | false => rfl
        | true =>
          simp only [cond_true]
          cases es[j]? with
          | none => rfl
          | some e =>
            simp only [Option.map_some, Option.bind_some, cellsOf_su hσ, dt2_su hσ, stC_su hσ]
            cases stC ag sz (cellsOf e) o (dt2 v) with
            | none => rfl
            | some cs' =>
              simp only [Option.map_some, Option.bind_some, reEl_su hσ, pu2_su hσ]
              cases pu2 (reEl e cs') with
              | false => rfl
              | true => simp [set_su, suB, suL_set]
      | _ => rfl
  | _ => rfl

theorem len_su (hσ : Num σ) (v : V) : len? (su σ v) = len? v := by
  cases v with
  | int j n => obtain ⟨j', m, e⟩ := su_int hσ j n; rw [e]; rfl
  | sl t z es => simp [su, len?, suL_len]
  | _ => rfl
theorem isStr_su (hσ : Num σ) (v : V) : isStr (su σ v) = isStr v := by
  cases v with
  | int j n => obtain ⟨j', m, e⟩ := su_int hσ j n; rw [e]; rfl
  | _ => rfl
theorem els_su (hσ : Num σ) (sz : Nat) (s : St) (v : V) : els sz (suS σ s) (su σ v) = (els sz s v).map (suL σ) := by
  cases v with
  | int j n => obtain ⟨j', m, e⟩ := su_int hσ j n; rw [e]; rfl
  | sl t z es => simp only [su, els]; cases Nat.beq z sz <;> simp
  | str b =>
    simp only [su, els]
    cases Nat.beq sz 1 with
    | false => rfl
    | true =>
      simp only [cond_true, Option.map_some, suL_map, List.map_map]
      congr 1
  | bs d i ver o len =>
    simp only [su, els, get_su]
    cases s.get d i with
    | none => rfl
    | some b =>
      cases b with
      | arr ver' z es =>
        simp only [Option.map_some, suB, suL_len]
        cases (Nat.beq z sz && (Nat.beq ver ver' && Nat.ble (o + len) es.length)) <;> simp [suL_take, suL_drop]
      | _ => rfl
  | _ => rfl

theorem nilK_su (hσ : Num σ) (k : Nat) (v : V) : nilK k (su σ v) = nilK k v := by
  cases v with
  | int j n => obtain ⟨j', m, e⟩ := su_int hσ j n; rw [e]; cases k with
    | zero => rfl
    | succ k => cases k with
      | zero => rfl
      | succ k => cases k with
        | zero => rfl
        | succ k => cases k <;> rfl
  | _ => cases k with
    | zero => rfl
    | succ k => cases k with
      | zero => rfl
      | succ k => cases k with
        | zero => rfl
        | succ k => cases k <;> rfl
theorem nat_su (v : V) (h : ns v = true) : nat? (su σ v) = nat? v := by
  cases v with
  | int k n => rw [su_ns h]
  | _ => rfl

theorem elV_su (hσ : Num σ) (sz : Nat) (v : V) : elV sz (su σ v) = (elV sz v).map (su σ) := by
  simp only [elV, dt2_su hσ, pu2_su hσ, cellsOf_su hσ, suL_len]
  cases (pu2 (dt2 v) && Nat.beq (cellsOf (dt2 v)).length sz) <;> simp
theorem argV_su (hσ : Num σ) (b : Bool) (v : V) : argV b (su σ v) = su σ (argV b v) := by
  cases b <;> simp [argV, dt2_su hσ, sh2_su hσ]
theorem cel_su (hσ : Num σ) (v : V) : cel (su σ v) = cel v := by
  simp only [cel, cellsOf_su hσ, all_su (scal_su hσ)]

theorem upd_su (e : Nat → V) (t : Nat) (v : V) (u : Nat) : su σ (upd e t v u) = upd (fun t => su σ (e t)) t (su σ v) u := by
  simp only [upd]; cases Nat.beq u t <;> rfl
theorem put_su (s : St) (d : Option Nat) (v : V) : suS σ (put s d v) = put (suS σ s) d (su σ v) := by
  cases d with
  | none => rfl
  | some t => simp only [put, suS, St.mk.injEq, and_true]; funext u; exact upd_su _ _ _ _
theorem env_su : ∀ (l : List V) (u : Nat), su σ (env l u) = env (suL σ l) u
  | [], _ => by simp [env, suL, su]
  | v :: vs, 0 => by simp [env, suL]
  | v :: vs, n + 1 => by simp only [env, suL]; exact env_su vs n
theorem mkE_su : ∀ (l : List Nat) (vs : List V) (u : Nat), su σ (mkE l vs u) = mkE l (suL σ vs) u
  | [], vs, u => by cases vs <;> simp [mkE, suL, su]
  | _ :: _, [], u => by simp [mkE, suL, su]
  | t :: ts, v :: vs, u => by
    simp only [mkE, suL]
    cases Nat.beq u t
    · exact mkE_su ts vs u
    · rfl
end
end Go.Vm

/-
  The machine V with numbers that are not known. Second part: one operation.
-/
namespace Go.Vm
open Go

section
variable {σ : Int → V}

theorem fillC_su (σ : Int → V) : ∀ (ps : List (Nat × Nat × List V)) (cs : List V), fillC (suL σ cs) (ps.map fun p => (p.1, p.2.1, suL σ p.2.2)) = (fillC cs ps).map (suL σ)
  | [], cs => by simp [fillC]
  | (o, z, vs) :: r, cs => by
    simp only [List.map_cons, fillC, suL_len]
    cases (Nat.beq vs.length z && Nat.ble (o + z) cs.length) with
    | false => rfl
    | true =>
      simp only [cond_true]
      rw [← fillC_su σ r]
      simp [suL_append, suL_take, suL_drop]

theorem rd_su (e : Nat → V) (x : O) (hx : ∀ v, x = .c v → su σ v = v) : rd (fun t => su σ (e t)) x = su σ (rd e x) := by
  cases x with
  | t n => rfl
  | c v => exact (hx v rfl).symm

theorem b2sL_su : ∀ (l : List V) (b : List UInt8), b2sL l = some b → b2sL (suL σ l) = some b
  | [], b, h => by simpa [suL] using h
  | v :: vs, b, h => by
    cases v with
    | int k n =>
      cases k with
      | u8 =>
        simp only [b2sL] at h
        obtain ⟨c, h1, rfl⟩ := Option.map_eq_some_iff.1 h
        have := b2sL_su vs c h1
        simp only [suL, su]
        show b2sL (.int .u8 n :: suL σ vs) = _
        simp only [b2sL, this, Option.map_some]
      | _ => simp [b2sL] at h
    | _ => simp [b2sL] at h

theorem binV_ns {op : BinOp} {x y : V} (hx : ns x = true) (hy : ns y = true) {v : V} (h : binV op x y = some v) : binV op (su σ x) (su σ y) = some (su σ v) := by
  cases x with
  | int k a =>
    cases y with
    | int j b =>
      rw [su_ns hx, su_ns hy, h]
      congr 1
      have key : ∀ (m : Int), su σ (.int k m) = .int k m := fun m => su_ns (by simpa [ns] using hx)
      cases op <;> simp only [binV, binI] at h
      all_goals first
        | (have h := bif_same h; cases h; exact (key _).symm)
        | (have h := bif_same h; have h := bif_same h; cases h; exact (key _).symm)
        | (have h := bif_same h; cases h; rfl)
        | (have h := bif_same h; cases h)
        | (cases hb : (decide (b < 0)) <;> simp only [hb, cond_true, cond_false] at h <;> first | (cases h; exact (key _).symm) | cases h)
        | (cases hb : (k == j) <;> cases hc : (b == 0) <;> simp only [hb, hc, cond_true, cond_false] at h <;> first | (cases h; exact (key _).symm) | cases h)
    | _ => simp [binV] at h
  | str a =>
    cases y with
    | str b =>
      simp only [su]
      rw [h]
      simp only [binV] at h
      cases op <;> simp only [binS] at h <;> first | (cases h; rfl) | (have h := bif_same h; cases h; rfl) | cases h
    | _ => simp [binV] at h
  | _ => simp [binV] at h

theorem eqK_ns {k : Nat} {x y : V} (hx : ns x = true) (hy : ns y = true) {b : Bool} (h : eqK k x y = some b) : eqK k (su σ x) (su σ y) = some b := by
  cases x with
  | int i m =>
    cases y with
    | int j n => rw [su_ns hx, su_ns hy, h]
    | _ => cases k with
      | zero => simp [eqK] at h
      | succ k => cases k with
        | zero => simp [eqK] at h
        | succ k => cases k <;> simp [eqK] at h
  | bool a => cases y with
    | bool b => simpa [su] using h
    | _ => cases k with
      | zero => simp [eqK] at h
      | succ k => cases k with
        | zero => simp [eqK] at h
        | succ k => cases k <;> simp [eqK] at h
  | str a => cases y with
    | str b => simpa [su] using h
    | _ => cases k with
      | zero => simp [eqK] at h
      | succ k => cases k with
        | zero => simp [eqK] at h
        | succ k => cases k <;> simp [eqK] at h
  | _ => cases k with
      | zero => simp [eqK] at h
      | succ k => cases k with
        | zero => simp [eqK] at h
        | succ k => cases k <;> simp [eqK] at h
theorem eqL_ns : ∀ (ks : List Nat) (as bs : List V) (b : Bool), as.all ns = true → bs.all ns = true → eqL ks as bs = some b → eqL ks (suL σ as) (suL σ bs) = some b
  | [], [], [], b, _, _, h => by simpa [suL] using h
  | [], [], _ :: _, b, _, _, h => by simp [eqL] at h
  | [], _ :: _, _, b, _, _, h => by simp [eqL] at h
  | _ :: _, [], _, b, _, _, h => by simp [eqL] at h
  | _ :: _, _ :: _, [], b, _, _, h => by simp [eqL] at h
  | k :: ks, x :: as, y :: bs, b, ha, hb, h => by
    simp only [List.all_cons, Bool.and_eq_true] at ha hb
    simp only [eqL] at h
    obtain ⟨c, h1, h2⟩ := Option.bind_eq_some_iff.1 h
    obtain ⟨d, h3, rfl⟩ := Option.map_eq_some_iff.1 h2
    simp only [suL, eqL, eqK_ns ha.1 hb.1 h1, eqL_ns ks as bs d ha.2 hb.2 h3, Option.bind_some, Option.map_some]

theorem cutV_su (hσ : Num σ) {sz : Nat} {s : St} {lo hi mx : Option O} (hl : onat (suS σ s).tm = onat s.tm ∨ True)
    (h1 : ∀ d, onat (suS σ s).tm d lo = onat s.tm d lo) (h2 : ∀ d, onat (suS σ s).tm d hi = onat s.tm d hi) (h3 : ∀ o, mx = some o → nat? (rd (suS σ s).tm o) = nat? (rd s.tm o)) (v : V) :
    cutV sz (suS σ s) lo hi mx (su σ v) = (cutV sz s lo hi mx v).map (su σ) := by
  cases v with
  | int j n => obtain ⟨j', m, e⟩ := su_int hσ j n; rw [e]; rfl
  | str b =>
    simp only [su, cutV, h1, h2]
    cases mx.isNone with
    | false => rfl
    | true =>
      simp only [cond_true]
      cases onat s.tm 0 lo with
      | none => rfl
      | some l =>
        simp only [Option.bind_some]
        cases onat s.tm b.length hi with
        | none => rfl
        | some h => simp only [Option.bind_some]; cases (Nat.ble l h && Nat.ble h b.length) <;> simp [su]
  | sl t z es =>
    simp only [su, cutV, h1, h2, suL_len]
    cases onat s.tm 0 lo with
    | none => rfl
    | some l =>
      simp only [Option.bind_some]
      cases onat s.tm es.length hi with
      | none => rfl
      | some h =>
        simp only [Option.bind_some]
        cases (Nat.beq z sz && (Nat.ble l h && Nat.ble h es.length)) with
        | false => rfl
        | true =>
          simp only [cond_true]
          cases mx with
          | none => simp [su, suL_take, suL_drop]
          | some m =>
            simp only [h3 m rfl]
            cases nat? (rd s.tm m) with
            | none => rfl
            | some m => simp only [Option.bind_some]; cases (hi.isSome && (Nat.ble h m && Nat.ble m es.length)) <;> simp [su, suL_take, suL_drop]
  | bs d i ver o len =>
    simp only [su, cutV, get_su]
    cases s.get d i with
    | none => rfl
    | some b =>
      cases b with
      | arr ver' z es =>
        simp only [Option.map_some, suB, h1, h2]
        cases (mx.isNone && (Nat.beq z sz && Nat.beq ver ver')) with
        | false => rfl
        | true =>
          simp only [cond_true]
          cases onat s.tm 0 lo with
          | none => rfl
          | some l =>
            simp only [Option.bind_some]
            cases onat s.tm len hi with
            | none => rfl
            | some h => simp only [Option.bind_some]; cases (Nat.ble l h && Nat.ble h len) <;> simp [su]
      | _ => rfl
  | _ => rfl

def suR (σ : Int → V) (r : V × St) : V × St := (su σ r.1, suS σ r.2)

theorem fr_su (s : St) : (suS σ s).fr = suF σ s.fr := rfl
theorem wf_su (s : St) (fr : Fr) : suS σ { s with fr := fr } = { suS σ s with fr := suF σ fr } := rfl
theorem suF_app (a b : Fr) : suF σ (a ++ b) = suF σ a ++ suF σ b := by simp [suF]

theorem appV_su (hσ : Num σ) (sz : Nat) (s : St) (x : V) (ys : List V) : appV sz (suS σ s) (su σ x) (suL σ ys) = (appV sz s x ys).map (suR σ) := by
  cases x with
  | int j n => obtain ⟨j', m, e⟩ := su_int hσ j n; rw [e]; rfl
  | sl t z es =>
    simp only [su, appV, suL_len]
    cases (Nat.beq z sz && Nat.ble (es.length + ys.length) lim) with
    | false => rfl
    | true =>
      simp only [cond_true]
      cases ys with
      | nil => simp [suL, suR, su]
      | cons y ys =>
        simp only [suL]
        cases t with
        | no => rfl
        | ex => simp [suR, su, suL_append, suL, wf_su, suF_app, suF_len, fr_su, suF, suB]
        | «at» d i ver =>
          simp only [get_su]
          cases s.get d i with
          | none => rfl
          | some b =>
            cases b with
            | tok ver' =>
              have ha : (su σ y :: suL σ ys).all cel = (y :: ys).all cel := by
                have := all_su (σ := σ) (p := cel) (cel_su hσ) (y :: ys)
                simpa [suL] using this
              simp only [Option.map_some, suB, ha]
              cases (Nat.beq ver ver' && (y :: ys).all cel) with
              | false => rfl
              | true => simp [suR, su, suL_append, suL, set_su, suB, suL_len]
            | _ => rfl
  | _ => rfl

theorem amV_su (hσ : Num σ) (sz : Nat) (s : St) (x : V) (ys : List V) : amV sz (suS σ s) (su σ x) (suL σ ys) = (amV sz s x ys).map (suR σ) := by
  cases x with
  | int j n => obtain ⟨j', m, e⟩ := su_int hσ j n; rw [e]; rfl
  | sl t z es =>
    cases t with
    | ex =>
      simp only [su, amV, suL_len]
      cases (Nat.beq z sz && Nat.ble (es.length + ys.length) lim) with
      | false => rfl
      | true =>
        simp only [cond_true]
        cases ys with
        | nil => simp [suL, suR, su]
        | cons y ys => simp [suL, suR, su, suL_append, wf_su, suF_app, suF_len, fr_su, suF, suB]
    | _ => rfl
  | bs d i ver o len =>
    simp only [su, amV, get_su]
    cases s.get d i with
    | none => rfl
    | some b =>
      cases b with
      | arr ver' z es =>
        have ha : (suL σ ys).all cel = ys.all cel := all_su (cel_su hσ) ys
        simp only [Option.map_some, suB, suL_len, ha]
        cases (Nat.beq z sz && (Nat.beq ver ver' && (Nat.ble (o + len) es.length && (Nat.ble (len + ys.length) lim && ys.all cel)))) with
        | false => rfl
        | true =>
          simp only [cond_true]
          cases ys with
          | nil => simp [suL, suR, su]
          | cons y ys => simp [suL, suR, su, suL_append, suL_take, suL_drop, set_su, suB, suL_len]
      | _ => rfl
  | _ => rfl

theorem growS_su (hσ : Num σ) (n j k : Nat) (cs : List V) : growS n j k (suL σ cs) = suL σ (growS n j k cs) := by
  unfold growS
  rw [suL_get]
  cases hk : cs[k % 1000]? with
  | none => rfl
  | some v =>
    cases v with
    | sl t z es =>
      cases t with
      | ex =>
        cases es with
        | nil =>
          simp only [Option.map_some, su, suL]
          cases Nat.blt k 1000
          · cases Nat.beq z (k / 1000) <;> simp [su, suL_set]
          · simp [su, suL, suL_set]
        | cons a b => simp [su, suL]
      | _ => rfl
    | int k n =>
      obtain ⟨j', m, e⟩ := su_int hσ k n
      simp only [Option.map_some]
      rw [e]
    | _ => rfl
theorem growC_su (hσ : Num σ) (n : Nat) : ∀ (ks : List Nat) (cs : List V) (j : Nat), growC n (suL σ cs) j ks = suL σ (growC n cs j ks)
  | [], cs, j => rfl
  | k :: ks, cs, j => by simp only [growC, growS_su hσ, growC_su hσ n ks]
theorem blkT_su (k : Nat) : suB σ (blkT k) = blkT k := by
  unfold blkT
  cases Nat.blt k 1000 <;> simp [suB, suL]
end
end Go.Vm

/-
  The machine V with numbers that are not known. Third part: what a text may bear; operations.
-/
namespace Go.Vm
open Go

mutual
def clV : V → Bool
  | .int k _ => !(k == .i16)
  | .ep cs _ => clL cs
  | .sl _ _ es => clL es
  | .fn _ a b => clL a && clL b
  | .iface _ v => clV v
  | .agg cs => clL cs
  | .tup vs => clL vs
  | .und | .bool _ | .str _ | .nilp | .bp _ _ _ | .ap _ _ _ _ _ | .bs _ _ _ _ _ | .nilm | .mp _ _ | .nilf | .nili => true
def clL : List V → Bool
  | [] => true
  | v :: vs => clV v && clL vs
end
mutual
theorem clV_su (σ : Int → V) : ∀ v : V, clV v = true → su σ v = v
  | .int k n, h => su_ns h
  | .ep cs o, h => by simp only [clV] at h; simp only [su, clL_su σ cs h]
  | .sl t z es, h => by simp only [clV] at h; simp only [su, clL_su σ es h]
  | .fn f a b, h => by simp only [clV, Bool.and_eq_true] at h; simp only [su, clL_su σ a h.1, clL_su σ b h.2]
  | .iface t v, h => by simp only [clV] at h; simp only [su, clV_su σ v h]
  | .agg cs, h => by simp only [clV] at h; simp only [su, clL_su σ cs h]
  | .tup cs, h => by simp only [clV] at h; simp only [su, clL_su σ cs h]
  | .und, _ | .bool _, _ | .str _, _ | .nilp, _ | .bp _ _ _, _ | .ap _ _ _ _ _, _ | .bs _ _ _ _ _, _ | .nilm, _ | .mp _ _, _ | .nilf, _ | .nili, _ => by simp [su]
theorem clL_su (σ : Int → V) : ∀ l : List V, clL l = true → suL σ l = l
  | [], _ => by simp [suL]
  | v :: vs, h => by simp only [clL, Bool.and_eq_true] at h; simp only [suL, clV_su σ v h.1, clL_su σ vs h.2]
end

def clO : O → Bool
  | .t _ => true
  | .c v => clV v
def clOo : Option O → Bool
  | none => true
  | some o => clO o
def clVO : VO → Bool
  | .wrp k x => !(k == .i16) && clO x
  | .mv x | .not x | .neg x | .ss x | .s2b x | .b2s x | .ld _ _ x | .nc x | .fa _ x | .fd _ _ _ x | .ex x _ | .bx x _ | .be x | .mi _ x | .len _ x | .cap x | .fz x | .ml x | .eqn _ _ x => clO x
  | .nw _ | .nm _ | .mm | .bad => true
  | .pick c a b => clO c && (clO a && clO b)
  | .bin _ x y | .eqb _ x y | .eqs _ _ x y | .st _ _ x y | .ia _ _ x y | .ix x y | .iv _ _ _ x y | .app _ x y | .am _ x y => clO x && clO y
  | .al z _ => clL z
  | .bd z ps => clL z && ps.all fun p => clO p.2.2
  | .bl _ es | .bm _ es | .mn es | .mx es | .call _ es => es.all clO
  | .mk _ _ z n c => clL z && (clO n && clO c)
  | .cut _ _ x lo hi mx => clO x && (clOo lo && (clOo hi && clOo mx))
  | .mf _ a b => a.all clO && b.all clO
  | .cv f as => clO f && as.all clO
  | .inv x _ as => clO x && as.all clO
  | .az _ z x n => clL z && (clO x && clO n)
  | .clr z x => clL z && clO x
  | .mg _ K z m k => !(K == some .i16) && (clV z && (clO m && clO k))
  | .mu K m k v => !(K == some .i16) && (clO m && (clO k && clO v))

def nsO (r : O → V) : Option O → Bool
  | none => true
  | some o => ns (r o)
def okS (o : VO) (r : O → V) : Bool :=
  match o with
  | .bin _ x y => ns (r x) && ns (r y)
  | .eqs _ _ x y => match r x, r y with
    | .agg as, .agg bs => as.all ns && bs.all ns
    | _, _ => true
  | .neg x | .wrp _ x => ns (r x)
  | .ia _ _ _ i | .ix _ i | .iv _ _ _ _ i | .az _ _ _ i => ns (r i)
  | .mk _ _ _ n c => ns (r n) && ns (r c)
  | .cut _ _ _ lo hi mx => nsO r lo && (nsO r hi && nsO r mx)
  | .mn xs | .mx xs => xs.all fun x => ns (r x)
  | .mg _ _ _ _ k | .mu _ _ k _ => ns (r k)
  | _ => true

def CallS (σ : Int → V) (cs c : Call) : Prop := ∀ f as sg v sg' wd, cs f as sg = some (v, sg', wd) → c f (suL σ as) (suG σ sg) = some (su σ v, suG σ sg', wd)

section
variable {σ : Int → V} {C : Cfg} {cs c : Call}

theorem rd_cl (s : St) {x : O} (h : clO x = true) : rd (suS σ s).tm x = su σ (rd s.tm x) := rd_su _ _ fun v e => by subst e; exact clV_su σ v h
theorem rdL_cl (s : St) {l : List O} (h : l.all clO = true) : l.map (rd (suS σ s).tm) = suL σ (l.map (rd s.tm)) := by
  rw [suL_map, List.map_map]
  apply List.map_congr_left
  intro x hx
  exact rd_cl s (List.all_eq_true.1 h x hx)
theorem onat_cl (s : St) {x : Option O} (h : clOo x = true) (hn : nsO (rd s.tm) x = true) (d : Nat) : onat (suS σ s).tm d x = onat s.tm d x := by
  cases x with
  | none => rfl
  | some o => simp only [onat]; rw [rd_cl s h, nat_su _ hn]

theorem doCall_su (hσ : Num σ) (hc : CallS σ cs c) {f : FuncId} {as : List V} {s : St} {v : V} {s' : St} (h : doCall C cs f as s = some (v, s')) : doCall C c f (suL σ as) (suS σ s) = some (su σ v, suS σ s') := by
  unfold doCall at h ⊢
  have ea : (suL σ as).map (argV (C.keepA f)) = suL σ (as.map (argV (C.keepA f))) := map_su (argV_su hσ _) as
  rw [ea]
  split at h
  · rename_i u fr sg wd hcs
    have := hc _ _ _ _ _ _ hcs
    simp only [suG, List.map_cons] at this
    simp only [Option.some.injEq, Prod.mk.injEq] at h
    obtain ⟨rfl, rfl⟩ := h
    show (match c f (suL σ (as.map (argV (C.keepA f)))) (suF σ s.fr :: s.sg.map (suF σ)) with | some (v, fr :: sg, wd) => _ | _ => none) = _
    rw [this]
    rfl
  · cases h

theorem findM_su (hσ : Num σ) {k : V} (hk : su σ k = k) (hn : ns k = true) : ∀ (es : List (V × V)) (i : Nat) (r : Option (Nat × V)), findM k es i = some r → findM k (es.map fun (a, b) => (su σ a, su σ b)) i = some (r.map fun p => (p.1, su σ p.2))
  | [], i, r, h => by simp only [findM, Option.some.injEq] at h; subst h; rfl
  | (a, b) :: es, i, r, h => by
    simp only [findM] at h
    have key : ∀ x, sk k a = some x → sk k (su σ a) = some x := by
      intro x hx
      cases k with
      | int kk n =>
        cases a with
        | int j m =>
          simp only [sk] at hx
          have hkj : (kk == j) = true := by
            cases hb : (kk == j)
            · rw [hb] at hx; simp at hx
            · rfl
          have hj : ns (.int j m) = true := by
            have : kk = j := by simpa using hkj
            subst this
            simpa [ns] using hn
          rw [su_ns hj]; exact hx
        | _ => simp [sk] at hx
      | str s =>
        cases a with
        | str t => simpa [su] using hx
        | _ => simp [sk] at hx
      | _ => simp [sk] at hx
    split at h
    · rename_i h1
      simp only [Option.some.injEq] at h
      subst h
      simp only [List.map_cons, findM, key _ h1, Option.map_some]
    · rename_i h1
      simp only [List.map_cons, findM, key _ h1]
      exact findM_su hσ hk hn es _ _ h
    · cases h

theorem kK_ns {K : Option IntKind} {k : V} (h : kK K k = true) (hn : ns k = true) : su σ k = k := by
  cases k with
  | int j n => exact su_ns hn
  | str s => simp [su]
  | _ => cases K <;> simp [kK] at h

theorem lookM_su (hσ : Num σ) {ok : Bool} {z : V} (hz : su σ z = z) {s : St} {m k : V} (hk : su σ k = k) (hn : ns k = true) {v : V} (h : lookM ok z s m k = some v) : lookM ok z (suS σ s) (su σ m) k = some (su σ v) := by
  cases m with
  | nilm =>
    simp only [lookM, Option.some.injEq] at h
    subst h
    cases ok <;> simp [lookM, su, suL, hz]
  | mp d i =>
    simp only [su, lookM, get_su] at h ⊢
    cases hb : s.get d i with
    | none => rw [hb] at h; cases h
    | some b =>
      rw [hb] at h
      cases b with
      | map es =>
        simp only [Option.map_some, suB] at h ⊢
        obtain ⟨r, h1, rfl⟩ := Option.map_eq_some_iff.1 h
        rw [findM_su hσ hk hn _ _ _ h1]
        cases r with
        | none => cases ok <;> simp [su, suL, hz]
        | some p => cases ok <;> simp [su, suL]
      | _ => cases h
  | _ => cases h
theorem ms1_su (hσ : Num σ) (v : V) : ms1 (su σ v) = ms1 v := by
  cases v with
  | int j n => obtain ⟨j', m, e⟩ := su_int hσ j n; rw [e]; rfl
  | _ => rfl
theorem updM_su (hσ : Num σ) {s : St} {m k u : V} (hk : su σ k = k) (hn : ns k = true) {s' : St} (h : updM s m k u = some s') : updM (suS σ s) (su σ m) k (su σ u) = some (suS σ s') := by
  cases m with
  | mp d i =>
    simp only [su, updM, get_su] at h ⊢
    cases hb : s.get d i with
    | none => rw [hb] at h; cases h
    | some b =>
      rw [hb] at h
      cases b with
      | map es =>
        simp only [Option.map_some, suB, ms1_su hσ] at h ⊢
        cases hm : ms1 u with
        | false => rw [hm] at h; cases h
        | true =>
          rw [hm] at h
          simp only [cond_true] at h ⊢
          obtain ⟨r, h1, rfl⟩ := Option.map_eq_some_iff.1 h
          rw [findM_su hσ hk hn _ _ _ h1]
          cases r with
          | none => simp [set_su, suB, hk]
          | some p => simp [set_su, suB, hk, List.map_set]
      | _ => cases h
  | _ => cases h

theorem mnV_su {f : Int → Int → Int} {l : List V} (hl : l.all ns = true) {v : V} (h : mnV f l = some v) : mnV f (suL σ l) = some (su σ v) := by
  have hI : ∀ (l : List V), l.all ns = true → ∀ r, l.mapM intOf = some r → (suL σ l).mapM intOf = some r := by
    intro l
    induction l with
    | nil => intro _ r h; simpa [suL] using h
    | cons a l ih =>
      intro ha r h
      simp only [List.all_cons, Bool.and_eq_true] at ha
      simp only [List.mapM_cons] at h
      obtain ⟨x, h1, h2⟩ := Option.bind_eq_some_iff.1 h
      obtain ⟨y, h3, h4⟩ := Option.bind_eq_some_iff.1 h2
      have e : su σ a = a := by
        cases a with
        | int k n => exact su_ns ha.1
        | _ => simp [intOf] at h1
      simp only [suL, List.mapM_cons, e, h1, ih ha.2 y h3]
      exact h4
  cases l with
  | nil => simp [mnV] at h
  | cons a l =>
    simp only [List.all_cons, Bool.and_eq_true] at hl
    cases a with
    | int k n =>
      simp only [mnV] at h
      obtain ⟨r, h1, rfl⟩ := Option.map_eq_some_iff.1 h
      have e : su σ (.int k n) = .int k n := su_ns hl.1
      simp only [suL, e]
      show ((suL σ l).mapM intOf).map _ = _
      rw [hI l hl.2 r h1]
      simp only [Option.map_some]
      rw [su_ns (by simpa [ns] using hl.1)]
    | _ => simp [mnV] at h
end
end Go.Vm

/-
  The machine V with numbers that are not known. Fourth part: one operation, for all numbers.
-/
namespace Go.Vm
open Go

section
variable {σ : Int → V} {C : Cfg} {cs c : Call}

theorem nat_cl (s : St) {x : O} (h : clO x = true) (hn : ns (rd s.tm x) = true) : nat? (rd (suS σ s).tm x) = nat? (rd s.tm x) := by rw [rd_cl s h, nat_su _ hn]

theorem boxT_su (hσ : Num σ) (n : Nat) (l : List V) (tk : List Nat) : boxT n (suL σ l) tk = suF σ (boxT n l tk) := by
  simp only [boxT, growC_su hσ, suF, List.map_cons, suB, List.map_map]
  congr 1
  apply List.map_congr_left
  intro k _
  exact (blkT_su k).symm

theorem mapM_el (hσ : Num σ) (sz : Nat) (l : List V) : (suL σ l).mapM (elV sz) = (l.mapM (elV sz)).map (suL σ) := mapM_su (elV_su hσ sz) l

theorem opV_su (hσ : Num σ) (hc : CallS σ cs c) {o : VO} {s : St} {v : V} {s' : St} (hl : clVO o = true) (hk : okS o (rd s.tm) = true) (h : opV C cs o s = some (v, s')) :
    opV C c o (suS σ s) = some (su σ v, suS σ s') := by
  cases o with
  | mv x => simp only [opV, Option.some.injEq, Prod.mk.injEq] at h ⊢; obtain ⟨rfl, rfl⟩ := h; exact ⟨rd_cl s hl, rfl⟩
  | nw sz =>
    simp only [opV, Option.some.injEq, Prod.mk.injEq] at h ⊢; obtain ⟨rfl, rfl⟩ := h
    exact ⟨by simp [su, suL, fr_su, suF_len], by simp [wf_su, suF_app, fr_su, suF, suB]⟩
  | pick x y z =>
    simp only [clVO, Bool.and_eq_true] at hl
    simp only [opV, rd_cl s hl.1, rd_cl s hl.2.1, rd_cl s hl.2.2] at h ⊢
    cases hx : rd s.tm x with
    | bool b => rw [hx] at h; simp only [Option.some.injEq, Prod.mk.injEq] at h; obtain ⟨rfl, rfl⟩ := h; cases b <;> rfl
    | _ => rw [hx] at h; cases h
  | bin op x y =>
    simp only [clVO, Bool.and_eq_true] at hl
    simp only [okS, Bool.and_eq_true] at hk
    simp only [opV, rd_cl s hl.1, rd_cl s hl.2] at h ⊢
    obtain ⟨u, h1, h2⟩ := Option.map_eq_some_iff.1 h
    simp only [Prod.mk.injEq] at h2; obtain ⟨rfl, rfl⟩ := h2
    rw [binV_ns hk.1 hk.2 h1]; rfl
  | eqb n x y =>
    simp only [clVO, Bool.and_eq_true] at hl
    simp only [opV, rd_cl s hl.1, rd_cl s hl.2] at h ⊢
    cases hx : rd s.tm x with
    | bool a => cases hy : rd s.tm y with
      | bool b => rw [hx, hy] at h; simp only [Option.some.injEq, Prod.mk.injEq] at h; obtain ⟨rfl, rfl⟩ := h; rfl
      | _ => rw [hx, hy] at h; cases h
    | _ => rw [hx] at h; cases h
  | eqs n ks x y =>
    simp only [clVO, Bool.and_eq_true] at hl
    simp only [opV, okS, rd_cl s hl.1, rd_cl s hl.2] at h hk ⊢
    cases hx : rd s.tm x with
    | agg as => cases hy : rd s.tm y with
      | agg bs =>
        rw [hx, hy] at h hk
        simp only [Bool.and_eq_true] at hk
        obtain ⟨b, h1, h2⟩ := Option.map_eq_some_iff.1 h
        simp only [Prod.mk.injEq] at h2; obtain ⟨rfl, rfl⟩ := h2
        simp only [su, eqL_ns ks as bs b hk.1 hk.2 h1, Option.map_some]
      | _ => rw [hx, hy] at h; cases h
    | _ => rw [hx] at h; cases h
  | eqn k n x =>
    simp only [opV, rd_cl s hl, nilK_su hσ] at h ⊢
    obtain ⟨b, h1, h2⟩ := Option.map_eq_some_iff.1 h
    simp only [Prod.mk.injEq] at h2; obtain ⟨rfl, rfl⟩ := h2
    rw [h1]; rfl
  | not x =>
    simp only [opV, rd_cl s hl] at h ⊢
    cases hx : rd s.tm x with
    | bool b => rw [hx] at h; simp only [Option.some.injEq, Prod.mk.injEq] at h; obtain ⟨rfl, rfl⟩ := h; rfl
    | _ => rw [hx] at h; cases h
  | neg x =>
    simp only [opV, okS, rd_cl s hl] at h hk ⊢
    cases hx : rd s.tm x with
    | int k n =>
      rw [hx] at h hk; simp only [Option.some.injEq, Prod.mk.injEq] at h; obtain ⟨rfl, rfl⟩ := h
      rw [su_ns hk]
      have : ∀ m, su σ (.int k m) = .int k m := fun m => su_ns (by simpa [ns] using hk)
      simp only [this]
    | _ => rw [hx] at h; cases h
  | wrp k x =>
    simp only [clVO, Bool.and_eq_true] at hl
    simp only [opV, okS, rd_cl s hl.2] at h hk ⊢
    cases hx : rd s.tm x with
    | int j n =>
      rw [hx] at h hk; simp only [Option.some.injEq, Prod.mk.injEq] at h; obtain ⟨rfl, rfl⟩ := h
      rw [su_ns hk]
      have : ∀ m, su σ (.int k m) = .int k m := fun m => su_ns (by simpa [ns] using hl.1)
      simp only [this]
    | _ => rw [hx] at h; cases h
  | ss x =>
    simp only [opV, rd_cl s hl] at h ⊢
    cases hx : rd s.tm x with
    | str b => rw [hx] at h; simp only [Option.some.injEq, Prod.mk.injEq] at h; obtain ⟨rfl, rfl⟩ := h; rfl
    | _ => rw [hx] at h; cases h
  | s2b x =>
    simp only [opV, rd_cl s hl] at h ⊢
    cases hx : rd s.tm x with
    | str b =>
      rw [hx] at h; simp only [Option.some.injEq, Prod.mk.injEq] at h; obtain ⟨rfl, rfl⟩ := h
      simp only [su, Option.some.injEq, Prod.mk.injEq, V.sl.injEq, true_and, and_true, suL_map, List.map_map]
      apply List.map_congr_left
      intro a _
      rfl
    | _ => rw [hx] at h; cases h
  | b2s x =>
    simp only [opV, rd_cl s hl, els_su hσ, isStr_su hσ] at h ⊢
    cases hi : isStr (rd s.tm x) with
    | true => rw [hi] at h; cases h
    | false =>
    rw [hi] at h
    simp only [cond_false] at h ⊢
    obtain ⟨l, h1, h2⟩ := Option.bind_eq_some_iff.1 h
    obtain ⟨b, h3, h4⟩ := Option.map_eq_some_iff.1 h2
    simp only [Prod.mk.injEq] at h4; obtain ⟨rfl, rfl⟩ := h4
    simp only [h1, Option.map_some, Option.bind_some, b2sL_su l b h3, su]
  | ld ag sz a =>
    simp only [opV, rd_cl s hl, ldV_su hσ] at h ⊢
    obtain ⟨u, h1, h2⟩ := Option.map_eq_some_iff.1 h
    simp only [Prod.mk.injEq] at h2; obtain ⟨rfl, rfl⟩ := h2
    simp only [h1, Option.map_some]
  | st ag sz a x =>
    simp only [clVO, Bool.and_eq_true] at hl
    simp only [opV, rd_cl s hl.1, rd_cl s hl.2, stV_su hσ] at h ⊢
    obtain ⟨u, h1, h2⟩ := Option.map_eq_some_iff.1 h
    simp only [Prod.mk.injEq] at h2; obtain ⟨rfl, rfl⟩ := h2
    simp only [h1, Option.map_some, su]
  | nc x =>
    simp only [opV, rd_cl s hl] at h ⊢
    cases hx : rd s.tm x with
    | int k n => rw [hx] at h; cases h
    | _ =>
      rw [hx] at h
      first
        | (cases h; done)
        | (simp only [nil?, Option.some.injEq, Prod.mk.injEq] at h; obtain ⟨rfl, rfl⟩ := h; rfl)
  | fa off a =>
    simp only [opV, rd_cl s hl] at h ⊢
    cases hx : rd s.tm a with
    | bp d i o => rw [hx] at h; simp only [Option.some.injEq, Prod.mk.injEq] at h; obtain ⟨rfl, rfl⟩ := h; rfl
    | ep cs o => rw [hx] at h; simp only [Option.some.injEq, Prod.mk.injEq] at h; obtain ⟨rfl, rfl⟩ := h; rfl
    | ap d i v j o => rw [hx] at h; simp only [Option.some.injEq, Prod.mk.injEq] at h; obtain ⟨rfl, rfl⟩ := h; rfl
    | _ => rw [hx] at h; cases h
  | ia n sz x i =>
    simp only [clVO, Bool.and_eq_true] at hl
    simp only [okS] at hk
    cases n with
    | none =>
      simp only [opV, rd_cl s hl.1, nat_cl s hl.2 hk] at h ⊢
      obtain ⟨m, h1, h2⟩ := Option.bind_eq_some_iff.1 h
      rw [h1, Option.bind_some]
      cases hx : rd s.tm x with
      | sl t z es =>
        rw [hx] at h2
        simp only [su, suL_get] at h2 ⊢
        cases hb : Nat.beq z sz with
        | false => rw [hb] at h2; cases h2
        | true =>
          rw [hb] at h2
          simp only [cond_true] at h2 ⊢
          obtain ⟨e, h3, h4⟩ := Option.map_eq_some_iff.1 h2
          simp only [Prod.mk.injEq] at h4; obtain ⟨rfl, rfl⟩ := h4
          simp only [h3, Option.map_some, cellsOf_su hσ, su]
      | bs d b ver o len =>
        rw [hx] at h2
        simp only [su, get_su] at h2 ⊢
        cases hg : s.get d b with
        | none => rw [hg] at h2; cases h2
        | some bl =>
          rw [hg] at h2
          cases bl with
          | arr ver' z es =>
            simp only [Option.map_some, suB] at h2 ⊢
            cases hb : (Nat.beq z sz && (Nat.beq ver ver' && Nat.blt m len)) with
            | false => rw [hb] at h2; cases h2
            | true => rw [hb] at h2; simp only [cond_true, Option.some.injEq, Prod.mk.injEq] at h2; obtain ⟨rfl, rfl⟩ := h2; rfl
          | _ => cases h2
      | _ => rw [hx] at h2; cases h2
    | some n =>
      simp only [opV, rd_cl s hl.1, nat_cl s hl.2 hk] at h ⊢
      obtain ⟨m, h1, h2⟩ := Option.bind_eq_some_iff.1 h
      rw [h1, Option.bind_some]
      cases hb : Nat.blt m n with
      | false => rw [hb] at h2; cases h2
      | true =>
        rw [hb] at h2
        simp only [cond_true] at h2 ⊢
        cases hx : rd s.tm x with
        | bp d i o => rw [hx] at h2; simp only [Option.some.injEq, Prod.mk.injEq] at h2; obtain ⟨rfl, rfl⟩ := h2; rfl
        | ep cs o => rw [hx] at h2; simp only [Option.some.injEq, Prod.mk.injEq] at h2; obtain ⟨rfl, rfl⟩ := h2; rfl
        | ap d i v j o => rw [hx] at h2; simp only [Option.some.injEq, Prod.mk.injEq] at h2; obtain ⟨rfl, rfl⟩ := h2; rfl
        | _ => rw [hx] at h2; cases h2
  | ix x i =>
    simp only [clVO, Bool.and_eq_true] at hl
    simp only [okS] at hk
    simp only [opV, rd_cl s hl.1, nat_cl s hl.2 hk] at h ⊢
    obtain ⟨m, h1, h2⟩ := Option.bind_eq_some_iff.1 h
    rw [h1, Option.bind_some]
    cases hx : rd s.tm x with
    | str b =>
      rw [hx] at h2
      simp only [su] at h2 ⊢
      obtain ⟨e, h3, h4⟩ := Option.map_eq_some_iff.1 h2
      simp only [Prod.mk.injEq] at h4; obtain ⟨rfl, rfl⟩ := h4
      simp only [h3, Option.map_some, su]; rfl
    | _ => rw [hx] at h2; cases h2
  | iv ag sz n x i =>
    simp only [clVO, Bool.and_eq_true] at hl
    simp only [okS] at hk
    simp only [opV, rd_cl s hl.1, nat_cl s hl.2 hk] at h ⊢
    obtain ⟨m, h1, h2⟩ := Option.bind_eq_some_iff.1 h
    rw [h1, Option.bind_some]
    cases hx : rd s.tm x with
    | agg es =>
      rw [hx] at h2
      simp only [su, ldC_su] at h2 ⊢
      cases hb : Nat.blt m n with
      | false => rw [hb] at h2; cases h2
      | true =>
        rw [hb] at h2
        simp only [cond_true] at h2 ⊢
        obtain ⟨e, h3, h4⟩ := Option.map_eq_some_iff.1 h2
        simp only [Prod.mk.injEq] at h4; obtain ⟨rfl, rfl⟩ := h4
        simp only [h3, Option.map_some, dt2_su hσ]
    | _ => rw [hx] at h2; cases h2
  | fd ag off sz x =>
    simp only [opV, rd_cl s hl] at h ⊢
    cases hx : rd s.tm x with
    | agg es =>
      rw [hx] at h
      simp only [su, ldC_su] at h ⊢
      obtain ⟨e, h3, h4⟩ := Option.map_eq_some_iff.1 h
      simp only [Prod.mk.injEq] at h4; obtain ⟨rfl, rfl⟩ := h4
      simp only [h3, Option.map_some, dt2_su hσ]
    | _ => rw [hx] at h; cases h
  | ex x i =>
    simp only [opV, rd_cl s hl] at h ⊢
    cases hx : rd s.tm x with
    | tup es =>
      rw [hx] at h
      simp only [su, suL_get] at h ⊢
      obtain ⟨e, h3, h4⟩ := Option.map_eq_some_iff.1 h
      simp only [Prod.mk.injEq] at h4; obtain ⟨rfl, rfl⟩ := h4
      simp only [h3, Option.map_some]
    | _ => rw [hx] at h; cases h
  | nm sz =>
    simp only [opV, Option.some.injEq, Prod.mk.injEq] at h ⊢; obtain ⟨rfl, rfl⟩ := h
    exact ⟨by simp [su, fr_su, suF_len], by simp [wf_su, suF_app, fr_su, suF, suB, suL]⟩
  | al z tk =>
    simp only [clVO] at hl
    simp only [opV, Option.some.injEq, Prod.mk.injEq] at h ⊢; obtain ⟨rfl, rfl⟩ := h
    refine ⟨by simp [su, fr_su, suF_len], ?_⟩
    simp only [wf_su, suF_app, fr_su, suF_len]
    rw [← boxT_su hσ, clL_su σ z hl]
  | bx x tk =>
    simp only [opV, rd_cl s hl, whole_su hσ, cellsOf_su hσ] at h ⊢
    cases hb : whole (rd s.tm x) with
    | false => rw [hb] at h; cases h
    | true =>
      rw [hb] at h
      simp only [cond_true, Option.some.injEq, Prod.mk.injEq] at h ⊢; obtain ⟨rfl, rfl⟩ := h
      exact ⟨by simp [su, fr_su, suF_len], by simp [wf_su, suF_app, fr_su, suF_len, boxT_su hσ]⟩
  | be x =>
    simp only [clVO] at hl
    simp only [opV, rd_cl s hl, whole_su hσ, cellsOf_su hσ] at h ⊢
    rw [all_su (pu1_su hσ)]
    cases hb : (whole (rd s.tm x) && (cellsOf (rd s.tm x)).all pu1) with
    | false => rw [hb] at h; cases h
    | true =>
      rw [hb] at h
      simp only [cond_true, Option.some.injEq, Prod.mk.injEq] at h ⊢; obtain ⟨rfl, rfl⟩ := h
      exact ⟨by simp [su], rfl⟩
  | bd z ps =>
    simp only [clVO, Bool.and_eq_true] at hl
    simp only [opV] at h ⊢
    have e1 : (ps.all fun p => whole (rd (suS σ s).tm p.2.2)) = ps.all fun p => whole (rd s.tm p.2.2) := by
      rw [Bool.eq_iff_iff, List.all_eq_true, List.all_eq_true]
      constructor
      · intro h p hp
        have := h p hp
        rwa [rd_cl s (List.all_eq_true.1 hl.2 p hp), whole_su hσ] at this
      · intro h p hp
        have := h p hp
        rwa [rd_cl s (List.all_eq_true.1 hl.2 p hp), whole_su hσ]
    have e2 : (ps.map fun (o, n, x) => (o, n, (cellsOf (rd (suS σ s).tm x)).map dx0)) = (ps.map fun (o, n, x) => (o, n, (cellsOf (rd s.tm x)).map dx0)).map fun p => (p.1, p.2.1, suL σ p.2.2) := by
      rw [List.map_map]
      apply List.map_congr_left
      intro p hp
      have := List.all_eq_true.1 hl.2 p hp
      simp only [Function.comp]
      rw [rd_cl s this, cellsOf_su hσ, map_su (dx0_su hσ)]
    rw [e1]
    cases hb : (ps.all fun p => whole (rd s.tm p.2.2)) with
    | false => rw [hb] at h; cases h
    | true =>
      rw [hb] at h
      simp only [cond_true] at h ⊢
      obtain ⟨u, h1, h2⟩ := Option.map_eq_some_iff.1 h
      simp only [Prod.mk.injEq] at h2; obtain ⟨rfl, rfl⟩ := h2
      rw [e2]
      have := fillC_su σ (ps.map fun (o, n, x) => (o, n, (cellsOf (rd s.tm x)).map dx0)) z
      rw [clL_su σ z hl.1] at this
      rw [this, h1]
      simp [su]
  | bl sz es =>
    simp only [opV, rdL_cl s hl, mapM_el hσ] at h ⊢
    obtain ⟨u, h1, h2⟩ := Option.bind_eq_some_iff.1 h
    simp only [Option.some.injEq, Prod.mk.injEq] at h2; obtain ⟨rfl, rfl⟩ := h2
    simp only [h1, Option.map_some, Option.bind_some, su]
  | bm sz es =>
    simp only [opV, rdL_cl s hl, mapM_el hσ] at h ⊢
    obtain ⟨u, h1, h2⟩ := Option.bind_eq_some_iff.1 h
    simp only [Option.some.injEq, Prod.mk.injEq] at h2; obtain ⟨rfl, rfl⟩ := h2
    simp only [h1, Option.map_some, Option.bind_some, suL_len, fr_su, suF_len]
    simp [su, wf_su, suF_app, suF, suB]
  | mk d ag z n x =>
    simp only [clVO, okS, Bool.and_eq_true] at hl hk
    simp only [opV, nat_cl s hl.2.1 hk.1, nat_cl s hl.2.2 hk.2] at h ⊢
    obtain ⟨m, h1, h2⟩ := Option.bind_eq_some_iff.1 h
    obtain ⟨m2, h3, h4⟩ := Option.bind_eq_some_iff.1 h2
    simp only [h1, h3, Option.bind_some]
    have e : mkEl ag z = su σ (mkEl ag z) := by rw [← mkEl_su hσ, clL_su σ z hl.1]
    have e2 : suL σ (List.replicate m (mkEl ag z)) = List.replicate m (mkEl ag z) := by rw [suL_map, List.map_replicate, ← e]
    cases hb : (Nat.beq m m2 && Nat.ble m lim) with
    | false => rw [hb] at h4; cases h4
    | true =>
      rw [hb] at h4
      cases d with
      | zero =>
        simp only [cond_true, Option.some.injEq, Prod.mk.injEq] at h4 ⊢; obtain ⟨rfl, rfl⟩ := h4
        refine ⟨by simp [su, fr_su, suF_len], ?_⟩
        simp only [wf_su, suF_app, fr_su]
        simp [suF, suB, e2]
      | succ d =>
        simp only [cond_true] at h4 ⊢
        obtain ⟨f, h5, h6⟩ := Option.map_eq_some_iff.1 h4
        simp only [Prod.mk.injEq] at h6; obtain ⟨rfl, rfl⟩ := h6
        have e3 : (suS σ s).sg[d]? = some (suF σ f) := by
          show (s.sg.map (suF σ))[d]? = _
          rw [List.getElem?_map, h5]; rfl
        rw [e3]
        simp only [Option.map_some, Option.some.injEq, Prod.mk.injEq]
        refine ⟨by simp [su, suF_len], ?_⟩
        simp only [suS, suG, St.mk.injEq, true_and, and_true]
        apply List.ext_getElem?
        intro q
        simp only [List.getElem?_map, List.getElem?_modify]
        cases s.sg[q]? with
        | none => rfl
        | some g =>
          by_cases hq : d = q
          · simp [hq, suF, suB, e2]
          · simp [hq]
  | cut st sz x lo hi mx =>
    simp only [clVO, okS, Bool.and_eq_true] at hl hk
    simp only [opV, rd_cl s hl.1, isStr_su hσ] at h ⊢
    cases hb : (isStr (rd s.tm x) == st) with
    | false => rw [hb] at h; cases h
    | true =>
      rw [hb] at h
      simp only [cond_true] at h ⊢
      obtain ⟨u, h1, h2⟩ := Option.map_eq_some_iff.1 h
      simp only [Prod.mk.injEq] at h2; obtain ⟨rfl, rfl⟩ := h2
      rw [cutV_su hσ (.inr trivial) (onat_cl s hl.2.1 hk.1) (onat_cl s hl.2.2.1 hk.2.1) (fun o e => by
        subst e
        exact nat_cl s hl.2.2.2 hk.2.2), h1]
      rfl
  | mf f a b =>
    simp only [clVO, Bool.and_eq_true] at hl
    simp only [opV, rdL_cl s hl.1, rdL_cl s hl.2, Option.some.injEq, Prod.mk.injEq] at h ⊢; obtain ⟨rfl, rfl⟩ := h
    exact ⟨by simp [su], rfl⟩
  | mi t x =>
    simp only [opV, rd_cl s hl, Option.some.injEq, Prod.mk.injEq] at h ⊢; obtain ⟨rfl, rfl⟩ := h
    exact ⟨by simp [su], rfl⟩
  | call f as =>
    simp only [opV, rdL_cl s hl] at h ⊢
    exact doCall_su hσ hc h
  | cv f as =>
    simp only [clVO, Bool.and_eq_true] at hl
    simp only [opV, rdL_cl s hl.2, rd_cl s hl.1] at h ⊢
    unfold doFn at h ⊢
    cases hx : rd s.tm f with
    | fn g a b =>
      rw [hx] at h
      simp only [su] at h ⊢
      have := doCall_su hσ hc h
      simpa [suL_append] using this
    | _ => rw [hx] at h; cases h
  | inv x m as =>
    simp only [clVO, Bool.and_eq_true] at hl
    simp only [opV, rdL_cl s hl.2, rd_cl s hl.1] at h ⊢
    cases hx : rd s.tm x with
    | iface t u =>
      rw [hx] at h
      simp only [su] at h ⊢
      obtain ⟨f, h1, h2⟩ := Option.bind_eq_some_iff.1 h
      rw [h1, Option.bind_some]
      have := doCall_su hσ hc h2
      simpa [suL] using this
    | _ => rw [hx] at h; cases h
  | len st x =>
    simp only [opV, rd_cl s hl, isStr_su hσ, len_su hσ] at h ⊢
    cases hb : (isStr (rd s.tm x) == st) with
    | false => rw [hb] at h; cases h
    | true =>
      rw [hb] at h
      simp only [cond_true] at h ⊢
      obtain ⟨u, h1, h2⟩ := Option.map_eq_some_iff.1 h
      simp only [Prod.mk.injEq] at h2; obtain ⟨rfl, rfl⟩ := h2
      rw [h1]; rfl
  | cap x =>
    simp only [opV, rd_cl s hl] at h ⊢
    cases hx : rd s.tm x with
    | sl t z es =>
      rw [hx] at h
      cases t with
      | ex => simp only [Option.some.injEq, Prod.mk.injEq] at h; obtain ⟨rfl, rfl⟩ := h; simp only [su, suL_len]; rfl
      | _ => cases h
    | _ => rw [hx] at h; cases h
  | app sz x y =>
    simp only [clVO, Bool.and_eq_true] at hl
    simp only [opV, rd_cl s hl.1, rd_cl s hl.2, els_su hσ] at h ⊢
    obtain ⟨l, h1, h2⟩ := Option.bind_eq_some_iff.1 h
    simp only [h1, Option.map_some, Option.bind_some, appV_su hσ, h2, suR]
  | am sz x y =>
    simp only [clVO, Bool.and_eq_true] at hl
    simp only [opV, rd_cl s hl.1, rd_cl s hl.2, els_su hσ] at h ⊢
    obtain ⟨l, h1, h2⟩ := Option.bind_eq_some_iff.1 h
    simp only [h1, Option.map_some, Option.bind_some, amV_su hσ, h2, suR]
  | az ag z x n =>
    simp only [clVO, okS, Bool.and_eq_true] at hl hk
    simp only [opV, rd_cl s hl.2.1, nat_cl s hl.2.2 hk] at h ⊢
    obtain ⟨m, h1, h2⟩ := Option.bind_eq_some_iff.1 h
    rw [h1, Option.bind_some]
    have e : mkEl ag z = su σ (mkEl ag z) := by rw [← mkEl_su hσ, clL_su σ z hl.1]
    have e2 : List.replicate m (mkEl ag z) = suL σ (List.replicate m (mkEl ag z)) := by rw [suL_map, List.map_replicate, ← e]
    rw [e2, amV_su hσ, h2]; rfl
  | mn xs =>
    simp only [clVO, okS] at hl hk
    simp only [opV, rdL_cl s hl] at h ⊢
    obtain ⟨u, h1, h2⟩ := Option.map_eq_some_iff.1 h
    simp only [Prod.mk.injEq] at h2; obtain ⟨rfl, rfl⟩ := h2
    rw [mnV_su (by rw [List.all_map]; exact hk) h1]; rfl
  | mx xs =>
    simp only [clVO, okS] at hl hk
    simp only [opV, rdL_cl s hl] at h ⊢
    obtain ⟨u, h1, h2⟩ := Option.map_eq_some_iff.1 h
    simp only [Prod.mk.injEq] at h2; obtain ⟨rfl, rfl⟩ := h2
    rw [mnV_su (by rw [List.all_map]; exact hk) h1]; rfl
  | clr z x =>
    simp only [clVO, Bool.and_eq_true] at hl
    simp only [opV, rd_cl s hl.2] at h ⊢
    cases hx : rd s.tm x with
    | bs d i ver o len =>
      rw [hx] at h
      simp only [su, get_su] at h ⊢
      cases hg : s.get d i with
      | none => rw [hg] at h; cases h
      | some b =>
        rw [hg] at h
        cases b with
        | arr ver' sz es =>
          simp only [Option.map_some, suB, suL_len] at h ⊢
          cases hb : (Nat.beq sz z.length && (Nat.beq ver ver' && Nat.ble (o + len) es.length)) with
          | false => rw [hb] at h; cases h
          | true =>
            rw [hb] at h
            simp only [cond_true, Option.some.injEq, Prod.mk.injEq] at h ⊢; obtain ⟨rfl, rfl⟩ := h
            refine ⟨by simp [su], ?_⟩
            rw [set_su]
            simp only [suB, suL_append, suL_take]
            congr 2
            rw [← suL_drop]
            congr 1
            apply List.ext_getElem?
            intro j
            simp only [suL_get, List.getElem?_mapIdx]
            cases (List.drop o es)[j]? with
            | none => rfl
            | some e =>
              simp only [Option.map_some]
              cases Nat.blt j len with
              | false => rfl
              | true =>
                simp only [cond_true]
                have e1 : mkEl false z = su σ (mkEl false z) := by rw [← mkEl_su hσ, clL_su σ z hl.1]
                cases e with
                | agg _ => simp [su, clL_su σ z hl.1]
                | int k n =>
                  obtain ⟨j', m, hh⟩ := su_int hσ k n
                  rw [hh]
                  simp only [Option.some.injEq]
                  exact e1
                | _ => simpa [su] using e1
        | _ => cases h
    | sl t z2 es =>
      rw [hx] at h
      cases es with
      | nil => simp only [Option.some.injEq, Prod.mk.injEq] at h; obtain ⟨rfl, rfl⟩ := h; simp [su, suL]
      | cons a b => cases h
    | _ => rw [hx] at h; cases h
  | fz x =>
    simp only [opV, rd_cl s hl] at h ⊢
    cases hx : rd s.tm x with
    | bs d i ver o len =>
      rw [hx] at h
      cases d with
      | succ d => cases h
      | zero =>
        simp only [su, fr_su, suF_get] at h ⊢
        cases hg : s.fr[i]? with
        | none => rw [hg] at h; cases h
        | some b =>
          rw [hg] at h
          cases b with
          | arr ver' z es =>
            simp only [Option.map_some, suB, suL_len] at h ⊢
            cases hb : (Nat.beq ver ver' && Nat.ble (o + len) es.length) with
            | false => rw [hb] at h; cases h
            | true =>
              rw [hb] at h
              simp only [cond_true, Option.some.injEq, Prod.mk.injEq] at h ⊢; obtain ⟨rfl, rfl⟩ := h
              exact ⟨by simp [su, suL_take, suL_drop], by simp [wf_su, suF, List.map_set, suB]⟩
          | _ => cases h
    | sl t z es =>
      rw [hx] at h
      simp only [Option.some.injEq, Prod.mk.injEq] at h; obtain ⟨rfl, rfl⟩ := h
      simp [su]
    | _ => rw [hx] at h; cases h
  | mm =>
    simp only [opV, Option.some.injEq, Prod.mk.injEq] at h ⊢; obtain ⟨rfl, rfl⟩ := h
    exact ⟨by simp [su, fr_su, suF_len], by simp [wf_su, suF_app, fr_su, suF, suB]⟩
  | mg ok K z m k =>
    simp only [clVO, okS, Bool.and_eq_true] at hl hk
    simp only [opV, rd_cl s hl.2.2.1] at h ⊢
    cases hb : kK K (rd s.tm k) with
    | false => rw [hb] at h; cases h
    | true =>
      rw [hb] at h
      have e : rd (suS σ s).tm k = rd s.tm k := by rw [rd_cl s hl.2.2.2, kK_ns hb hk]
      rw [e, hb]
      simp only [cond_true] at h ⊢
      obtain ⟨u, h1, h2⟩ := Option.map_eq_some_iff.1 h
      simp only [Prod.mk.injEq] at h2; obtain ⟨rfl, rfl⟩ := h2
      rw [lookM_su hσ (clV_su σ z hl.2.1) (kK_ns hb hk) hk h1]; rfl
  | mu K m k x =>
    simp only [clVO, okS, Bool.and_eq_true] at hl hk
    simp only [opV, rd_cl s hl.2.1, rd_cl s hl.2.2.2] at h ⊢
    cases hb : kK K (rd s.tm k) with
    | false => rw [hb] at h; cases h
    | true =>
      rw [hb] at h
      have e : rd (suS σ s).tm k = rd s.tm k := by rw [rd_cl s hl.2.2.1, kK_ns hb hk]
      rw [e, hb]
      simp only [cond_true] at h ⊢
      obtain ⟨u, h1, h2⟩ := Option.map_eq_some_iff.1 h
      simp only [Prod.mk.injEq] at h2; obtain ⟨rfl, rfl⟩ := h2
      rw [updM_su hσ (kK_ns hb hk) hk h1]; simp [su]
  | ml m =>
    simp only [opV, rd_cl s hl] at h ⊢
    cases hx : rd s.tm m with
    | mp d i =>
      rw [hx] at h
      simp only [su, get_su] at h ⊢
      cases hg : s.get d i with
      | none => rw [hg] at h; cases h
      | some b =>
        rw [hg] at h
        cases b with
        | map es => simp only [Option.map_some, suB, Option.some.injEq, Prod.mk.injEq] at h ⊢; obtain ⟨rfl, rfl⟩ := h; simp [su]; rfl
        | _ => cases h
    | _ => rw [hx] at h; cases h
  | bad => cases h
end
end Go.Vm
