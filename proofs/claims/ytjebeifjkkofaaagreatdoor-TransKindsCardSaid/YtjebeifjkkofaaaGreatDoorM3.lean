/-
  A part of a proof: the last text of the claim says what is proved, and under which conditions.
-/
import Derived.Test.YtjebeifjkkofaaaGreatDoorM0
import Derived.Test.YtjebeifjkkofaaaGreatDoorM2
import Derived.Test.YtjebeifjkkofaaaGreatDoorM1
set_option linter.unusedSimpArgs false
set_option linter.unusedVariables false
set_option linter.unnecessarySimpa false
/- The functions of the translation as programs of the machine V. Written by gen.py out of the loaded functions. -/
namespace Go.Vm
set_option maxRecDepth 100000
def c150 : VF := { code := .seq (.reg [oO 2 (.nw 1)]) (.seq (.seq (.reg [mO 6 0,oO 7 (.len false (.t 6)),oO 8 (.bin .lss (.t 7) (.c (.int .i64 2)))]) (.cond (.t 8) (.seq (.reg [mO 9 0,mO 2 9]) (.ret)) (.skip))) (.seq (.seq (.reg [oO 3 (.mv (.c (.int .i64 1)))]) (.block 0 (.loop [0,3] (.seq (.seq (.reg [mO 10 3,mO 11 0,oO 12 (.len false (.t 11)),oO 13 (.bin .lss (.t 10) (.t 12))]) (.cond (.t 13) (.skip) (.exit 0))) (.seq (.block 1 (.seq (.drw [⟨0,[],mO 16 0,false,[]⟩,⟨1,[],mO 17 3,false,[]⟩,⟨2,[0,1],oO 18 (.ia none 1 (.t 16) (.t 17)),false,[]⟩,⟨3,[0,1,2],oO 19 (.ld false 1 (.t 18)),false,[]⟩,⟨4,[],mO 20 0,false,[]⟩,⟨5,[],mO 21 3,false,[]⟩,⟨6,[5],oO 22 (.bin .sub (.t 21) (.c (.int .i64 1))),false,[]⟩,⟨7,[4,5,6],oO 23 (.ia none 1 (.t 20) (.t 22)),false,[]⟩,⟨8,[4,5,6,7],oO 24 (.ld false 1 (.t 23)),false,[]⟩,⟨9,(rO 9),oO 25 (.bin .eql (.t 19) (.t 24)),false,[]⟩]) (.cond (.t 25) (.seq (.reg [mO 26 0,mO 27 3,oO 28 (.cut false 1 (.t 26) (some (.t 27)) none none),mO 4 28]) (.seq (.seq (.reg [oO 5 (.mv (.c (.int .i64 1)))]) (.block 2 (.loop [0,3,4,5] (.seq (.seq (.reg [mO 29 5,mO 30 4,oO 31 (.len false (.t 30)),oO 32 (.bin .lss (.t 29) (.t 31))]) (.cond (.t 32) (.skip) (.exit 2))) (.seq (.block 3 (.seq (.drw [⟨0,[],mO 35 4,false,[]⟩,⟨1,[],mO 36 5,false,[]⟩,⟨2,[0,1],oO 37 (.ia none 1 (.t 35) (.t 36)),false,[]⟩,⟨3,[0,1,2],oO 38 (.ld false 1 (.t 37)),false,[]⟩,⟨4,[],mO 39 4,false,[]⟩,⟨5,[],mO 40 5,false,[]⟩,⟨6,[5],oO 41 (.bin .sub (.t 40) (.c (.int .i64 1))),false,[]⟩,⟨7,[4,5,6],oO 42 (.ia none 1 (.t 39) (.t 41)),false,[]⟩,⟨8,[4,5,6,7],oO 43 (.ld false 1 (.t 42)),false,[]⟩,⟨9,(rO 9),oO 44 (.bin .neq (.t 38) (.t 43)),false,[]⟩]) (.cond (.t 44) (.seq (.reg [mO 45 0,mO 46 3,mO 47 4,mO 48 5,oO 49 (.ia none 1 (.t 47) (.t 48)),oO 50 (.ld false 1 (.t 49)),oO 51 (.ia none 1 (.t 45) (.t 46)),nO (.st false 1 (.t 51) (.t 50))]) (.reg [mO 52 3,oO 53 (.bin .add (.t 52) (.c (.int .i64 1))),mO 3 53])) (.skip)))) (.reg [mO 33 5,oO 34 (.bin .add (.t 33) (.c (.int .i64 1))),mO 5 34])))))) (.seq (.reg [mO 54 0,mO 55 3,oO 56 (.cut false 1 (.t 54) (some (.t 55)) none none),nO (.clr [.str []] (.t 56))]) (.seq (.reg [mO 57 0,mO 58 3,oO 59 (.cut false 1 (.t 57) none (some (.t 58)) none),mO 2 59]) (.ret))))) (.skip)))) (.reg [mO 14 3,oO 15 (.bin .add (.t 14) (.c (.int .i64 1))),mO 3 15])))))) (.seq (.reg [mO 60 0,mO 2 60]) (.ret)))),res := [(2,none)],keepR := true }
def c151 : VF := { code := .seq (.reg [oO 4 (.mv (.c (.bool false)))]) (.seq (.reg [mO 5 0,oO 6 (.call 131 [(.t 5)]),oO 7 (.bin .eql (.t 6) (.c (.int .i64 0))),mO 8 7,⟨some 9,.mv (.t 1),some (8,true)⟩,⟨some 10,.bin .geq (.t 9) (.c (.int .i64 0)),some (8,true)⟩,oO 11 (.pick (.t 8) (.t 10) (.c (.bool false))),mO 12 11,⟨some 13,.mv (.t 1),some (12,true)⟩,⟨some 14,.mv (.t 0),some (12,true)⟩,⟨some 15,.len false (.t 14),some (12,true)⟩,⟨some 16,.bin .lss (.t 13) (.t 15),some (12,true)⟩,oO 17 (.pick (.t 12) (.t 16) (.c (.bool false))),mO 4 17]) (.ret)),res := [(4,none)] }
def c152 : VF := { code := .seq (.reg [oO 4 (.nw 1)]) (.seq (.reg [mO 6 0,oO 7 (.nc (.t 6)),oO 8 (.fa 0 (.t 7)),oO 9 (.fa 3 (.t 8)),oO 10 (.ld false 1 (.t 9)),mO 11 1,oO 12 (.ia none 5 (.t 10) (.t 11)),oO 13 (.ld true 5 (.t 12)),oO 5 (.al [.int .i64 0,.str [],.sl .ex 4 [],.int .i64 0,.int .i64 0] []),nO (.st true 5 (.t 5) (.t 13))]) (.seq (.seq (.drw [⟨0,[],oO 14 (.fa 0 (.t 5)),false,[]⟩,⟨1,[0],oO 15 (.ld false 1 (.t 14)),false,[]⟩,⟨2,[0,1],oO 16 (.bin .eql (.t 15) (.c (.int .i64 7))),false,[]⟩,⟨3,[0,1,2],mO 17 16,false,[]⟩,⟨4,(rO 4),⟨some 18,.mv (.t 0),some (17,true)⟩,false,[]⟩,⟨5,(rO 5),⟨some 19,.nc (.t 18),some (17,true)⟩,false,[]⟩,⟨6,(rO 6),⟨some 20,.fa 0 (.t 19),some (17,true)⟩,false,[]⟩,⟨7,(rO 7),⟨some 21,.fa 3 (.t 20),some (17,true)⟩,false,[]⟩,⟨8,(rO 8),⟨some 22,.ld false 1 (.t 21),some (17,true)⟩,false,[]⟩,⟨9,(rO 4),⟨some 23,.fa 3 (.t 5),some (17,true)⟩,false,[]⟩,⟨10,[0,1,2,3,9],⟨some 24,.ld false 1 (.t 23),some (17,true)⟩,false,[]⟩,⟨11,(rO 11),⟨some 25,.ia none 5 (.t 22) (.t 24),some (17,true)⟩,false,[]⟩,⟨12,(rO 12),⟨some 26,.fa 0 (.t 25),some (17,true)⟩,false,[]⟩,⟨13,(rO 13),⟨some 27,.ld false 1 (.t 26),some (17,true)⟩,false,[]⟩,⟨14,(rO 14),⟨some 28,.bin .eql (.t 27) (.c (.int .i64 4)),some (17,true)⟩,false,[]⟩,⟨15,(rO 15),oO 29 (.pick (.t 17) (.t 28) (.c (.bool false))),false,[]⟩]) (.cond (.t 29) (.drw [⟨0,[],mO 30 0,false,[]⟩,⟨1,[0],oO 31 (.nc (.t 30)),false,[]⟩,⟨2,[0,1],oO 32 (.fa 0 (.t 31)),false,[]⟩,⟨3,[0,1,2],oO 33 (.fa 3 (.t 32)),false,[]⟩,⟨4,(rO 4),oO 34 (.ld false 1 (.t 33)),false,[]⟩,⟨5,[],oO 35 (.fa 3 (.t 5)),false,[]⟩,⟨6,[5],oO 36 (.ld false 1 (.t 35)),false,[]⟩,⟨7,(rO 7),oO 37 (.ia none 5 (.t 34) (.t 36)),false,[]⟩,⟨8,(rO 8),oO 38 (.fa 3 (.t 37)),false,[]⟩,⟨9,(rO 9),oO 39 (.ld false 1 (.t 38)),false,[]⟩,⟨10,(rO 10),mO 1 39,false,[]⟩]) (.skip))) (.seq (.reg [mO 40 0,oO 41 (.nc (.t 40)),oO 42 (.fa 0 (.t 41)),oO 43 (.fa 3 (.t 42)),oO 44 (.ld false 1 (.t 43)),mO 45 1,oO 46 (.call 212 [(.t 44),(.t 45)]),mO 4 46]) (.ret)))),res := [(4,none)] }
def c153 : VF := { code := .seq (.reg [oO 6 (.mv (.c (.str [])))]) (.seq (.drw [⟨0,[],mO 7 0,false,[]⟩,⟨1,[0],oO 8 (.nc (.t 7)),false,[]⟩,⟨2,[0,1],oO 9 (.fa 0 (.t 8)),false,[]⟩,⟨3,[0,1,2],oO 10 (.fa 0 (.t 9)),false,[]⟩,⟨4,(rO 4),oO 11 (.ld false 1 (.t 10)),false,[]⟩,⟨5,(rO 5),oO 12 (.bin .add (.t 11) (.c (.str [95]))),false,[]⟩,⟨6,[],mO 13 1,false,[]⟩,⟨7,[6],oO 14 (.call 182 [(.t 13)]),false,[]⟩,⟨8,(rO 8),oO 15 (.bin .add (.t 12) (.t 14)),false,[]⟩,⟨9,[],mO 16 2,false,[]⟩,⟨10,(rO 10),oO 17 (.bin .add (.t 15) (.t 16)),false,[]⟩,⟨11,(rO 11),mO 6 17,false,[]⟩]) (.ret)),res := [(6,none)] }
def c154 : VF := { code := .seq (.reg [oO 4 (.al [.str [],.sl .ex 4 []] [])]) (.seq (.seq (.reg [mO 5 0,oO 6 (.nc (.t 5)),oO 7 (.fa 0 (.t 6)),oO 8 (.fa 3 (.t 7)),oO 9 (.ld false 1 (.t 8)),mO 10 1,oO 11 (.ia none 5 (.t 9) (.t 10)),oO 12 (.fa 0 (.t 11)),oO 13 (.ld false 1 (.t 12))]) (.block 0 (.seq (.reg [oO 15 (.bin .eql (.t 13) (.c (.int .i64 5))),mO 14 15]) (.cond (.t 14) (.seq (.reg [mO 16 0,mO 17 1,oO 18 (.call 156 [(.t 16),(.t 17),(.c (.str [110]))]),nO (.st true 2 (.t 4) (.t 18))]) (.ret)) (.seq (.seq (.reg [oO 20 (.bin .eql (.t 13) (.c (.int .i64 6))),mO 19 20]) (.cond (.t 19) (.skip) (.reg [oO 21 (.bin .eql (.t 13) (.c (.int .i64 7))),mO 19 21]))) (.cond (.t 19) (.seq (.reg [mO 22 0,mO 23 1,oO 24 (.call 156 [(.t 22),(.t 23),(.c (.str [111]))]),nO (.st true 2 (.t 4) (.t 24))]) (.ret)) (.skip))))))) (.seq (.reg [mO 25 0,mO 26 1,oO 27 (.call 156 [(.t 25),(.t 26),(.c (.str []))]),nO (.st true 2 (.t 4) (.t 27))]) (.ret))),res := [(4,some (true,2))] }
def c155 : VF := { code := .seq (.reg [oO 0 (.nw 1)]) (.seq (.reg [oO 1 (.bl 1 [(.c (.sl .ex 6 []))]),mO 0 1]) (.ret)),res := [(0,none)] }
def c156 : VF := { code := .seq (.reg [oO 6 (.al [.str [],.sl .ex 4 []] [])]) (.seq (.reg [mO 7 0,mO 8 1,mO 9 2,oO 10 (.call 153 [(.t 7),(.t 8),(.t 9)]),mO 11 0,mO 12 1,oO 13 (.call 152 [(.t 11),(.t 12)]),oO 14 (.call 213 [(.t 13)]),oO 15 (.bd [.str [],.sl .ex 4 []] [(0,1,(.t 10)),(1,1,(.t 14))]),nO (.st true 2 (.t 6) (.t 15))]) (.ret)),res := [(6,some (true,2))] }
def c157 : VF := { code := .seq (.drw [⟨0,[],mO 9 0,false,[]⟩,⟨1,[0],oO 10 (.nc (.t 9)),false,[]⟩,⟨2,[0,1],oO 11 (.fa 0 (.t 10)),false,[]⟩,⟨3,[0,1,2],oO 12 (.fa 0 (.t 11)),false,[]⟩,⟨4,(rO 4),oO 13 (.ld false 1 (.t 12)),false,[]⟩,⟨5,(rO 5),oO 14 (.bin .add (.t 13) (.c (.str [95,114]))),false,[]⟩,⟨6,[],mO 15 0,false,[]⟩,⟨7,[6],oO 16 (.nc (.t 15)),false,[]⟩,⟨8,[6,7],oO 17 (.fa 5 (.t 16)),false,[]⟩,⟨9,[6,7,8],oO 18 (.ld false 1 (.t 17)),false,[]⟩,⟨10,[6,7,8,9],oO 19 (.len false (.t 18)),false,[]⟩,⟨11,[6,7,8,9,10],oO 20 (.call 182 [(.t 19)]),false,[]⟩,⟨12,(rO 12),oO 21 (.bin .add (.t 14) (.t 20)),false,[]⟩,⟨13,(rO 13),mO 8 21,false,[]⟩]) (.seq (.seq (.reg [mO 22 8,oO 23 (.len true (.t 22)),oO 24 (.bin .gtr (.t 23) (.c (.int .i64 24))),mO 25 24,⟨some 26,.mv (.t 3),some (25,false)⟩,⟨some 27,.len false (.t 26),some (25,false)⟩,⟨some 28,.bin .gtr (.t 27) (.c (.int .i64 6)),some (25,false)⟩,oO 29 (.pick (.t 25) (.c (.bool true)) (.t 28)),mO 30 29,⟨some 31,.mv (.t 0),some (30,false)⟩,⟨some 32,.nc (.t 31),some (30,false)⟩,⟨some 33,.fa 5 (.t 32),some (30,false)⟩,⟨some 34,.ld false 1 (.t 33),some (30,false)⟩,⟨some 35,.len false (.t 34),some (30,false)⟩,⟨some 36,.bin .geq (.t 35) (.c (.int .i64 60)),some (30,false)⟩,oO 37 (.pick (.t 30) (.c (.bool true)) (.t 36))]) (.cond (.t 37) (.seq (.reg [mO 38 0,oO 39 (.nc (.t 38)),oO 40 (.fa 6 (.t 39)),nO (.st false 1 (.t 40) (.c (.int .i64 2)))]) (.ret)) (.skip))) (.drw [⟨0,[],mO 41 0,false,[]⟩,⟨1,[],mO 42 0,false,[]⟩,⟨2,[1],oO 43 (.nc (.t 42)),false,[]⟩,⟨3,[1,2],oO 44 (.fa 5 (.t 43)),false,[]⟩,⟨4,[1,2,3],oO 45 (.ld false 1 (.t 44)),false,[]⟩,⟨5,[],mO 46 8,false,[]⟩,⟨6,[],mO 47 3,false,[]⟩,⟨7,[],mO 48 1,false,[]⟩,⟨8,[],mO 49 2,false,[]⟩,⟨9,[8],oO 50 (.call 214 [(.t 49)]),false,[]⟩,⟨10,[7,8,9],oO 51 (.bd [.int .i64 0,.str [],.sl .ex 1 [],.int .i64 0] [(0,1,(.c (.int .i64 1))),(1,1,(.t 48)),(2,1,(.t 50))]),false,[]⟩,⟨11,[7,8,9,10],oO 52 (.bl 4 [(.t 51)]),false,[]⟩,⟨12,[5,6,7,8,9,10,11],oO 53 (.bd [.str [],.int .i64 0,.sl .ex 6 [],.sl .ex 4 []] [(0,1,(.t 46)),(2,1,(.t 47)),(3,1,(.t 52))]),false,[]⟩,⟨13,[5,6,7,8,9,10,11,12],oO 54 (.bl 4 [(.t 53)]),false,[]⟩,⟨14,[1,2,3,4,5,6,7,8,9,10,11,12,13],oO 55 (.app 4 (.t 45) (.t 54)),true,[]⟩,⟨15,(rO 15),oO 56 (.nc (.t 41)),false,[]⟩,⟨16,(rO 16),oO 57 (.fa 5 (.t 56)),false,[]⟩,⟨17,(rO 17),nO (.st false 1 (.t 57) (.t 55)),true,[]⟩])),res := [] }
def c158 : VF := { code := .seq (.reg [oO 2 (.nm 6)]) (.seq (.reg [oO 3 (.mv (.c (.int .i64 0)))]) (.seq (.seq (.reg [mO 9 0,oO 10 (.len false (.t 9)),oO 11 (.mv (.c (.int .i64 0)))]) (.block 0 (.loop [0,3,9,10,11] (.seq (.reg [oO 12 (.bin .lss (.t 11) (.t 10))]) (.seq (.cond (.t 12) (.skip) (.exit 0)) (.seq (.block 1 (.seq (.reg [oO 13 (.ia none 1 (.t 9) (.t 11)),oO 14 (.ld false 1 (.t 13)),mO 5 14]) (.seq (.reg [mO 15 3,mO 16 5,oO 17 (.len false (.t 16)),oO 18 (.bin .add (.t 15) (.t 17)),mO 3 18]) (.seq (.reg [mO 19 3,oO 20 (.bin .lss (.t 19) (.c (.int .i64 0)))]) (.cond (.t 20) (.reg [oO 21 (.mi 9 (.c (.str [108,101,110,32,111,117,116,32,111,102,32,114,97,110,103,101]))),nO (.bad)]) (.skip)))))) (.reg [oO 22 (.bin .add (.t 11) (.c (.int .i64 1))),mO 11 22]))))))) (.seq (.reg [mO 23 3,oO 24 (.call 215 [(.c (.sl .ex 6 [])),(.t 23)]),mO 6 24]) (.seq (.seq (.reg [mO 25 0,oO 26 (.len false (.t 25)),oO 27 (.mv (.c (.int .i64 0)))]) (.block 2 (.loop [6,25,26,27] (.seq (.reg [oO 28 (.bin .lss (.t 27) (.t 26))]) (.seq (.cond (.t 28) (.skip) (.exit 2)) (.seq (.block 3 (.seq (.reg [oO 29 (.ia none 1 (.t 25) (.t 27)),oO 30 (.ld false 1 (.t 29)),mO 8 30]) (.reg [mO 31 6,mO 32 8,oO 33 (.am 6 (.t 31) (.t 32)),mO 6 33]))) (.reg [oO 34 (.bin .add (.t 27) (.c (.int .i64 1))),mO 27 34]))))))) (.seq (.reg [mO 35 6,mO 2 35]) (.ret)))))),res := [(2,none)] }
def c159 : VF := { code := .seq (.reg [oO 3 (.bx (.t 1) []),oO 4 (.al [.int .i64 0,.str [],.sl .ex 4 [],.int .i64 0,.sl .ex 5 [],.sl .ex 5 []] [])]) (.seq (.seq (.reg [mO 5 0]) (.cond (.t 5) (.seq (.reg [oO 6 (.ld true 2 (.t 3)),oO 7 (.bd [.int .i64 0,.str [],.sl .ex 4 [],.int .i64 0,.sl .ex 5 [],.sl .ex 5 []] [(0,1,(.c (.int .i64 1))),(1,2,(.t 6))]),nO (.st true 6 (.t 4) (.t 7))]) (.ret)) (.skip))) (.seq (.reg [oO 8 (.ld true 2 (.t 3)),oO 9 (.bd [.int .i64 0,.str [],.sl .ex 4 [],.int .i64 0,.sl .ex 5 [],.sl .ex 5 []] [(0,1,(.c (.int .i64 2))),(1,2,(.t 8))]),nO (.st true 6 (.t 4) (.t 9))]) (.ret))),res := [(4,some (true,6))] }
def c163 : VF := { code := .seq (.reg [oO 2 (.mv (.c (.int .i64 0)))]) (.seq (.seq (.reg [mO 5 0,oO 6 (.len false (.t 5)),oO 7 (.mv (.c (.int .i64 0)))]) (.block 0 (.loop [0,5,6,7] (.seq (.reg [oO 8 (.bin .lss (.t 7) (.t 6))]) (.seq (.cond (.t 8) (.skip) (.exit 0)) (.seq (.block 1 (.seq (.reg [mO 9 7,oO 10 (.ia none 2 (.t 5) (.t 7)),oO 11 (.ld true 2 (.t 10)),oO 4 (.al [.str [],.sl .ex 3 []] []),mO 3 9,nO (.st true 2 (.t 4) (.t 11))]) (.seq (.drw [⟨0,[],oO 12 (.ld true 2 (.t 4)),false,[]⟩,⟨1,[0],oO 13 (.call 217 [(.t 12)]),false,[]⟩,⟨2,[0,1],mO 14 13,false,[]⟩,⟨3,[0,1,2],⟨some 15,.mv (.t 3),some (14,false)⟩,false,[]⟩,⟨4,(rO 4),⟨some 16,.bin .gtr (.t 15) (.c (.int .i64 0)),some (14,false)⟩,false,[]⟩,⟨5,(rO 5),⟨some 17,.mv (.t 16),some (14,false)⟩,false,[]⟩,⟨6,(rO 6),⟨some 18,.mv (.t 0),some (17,true)⟩,false,[]⟩,⟨7,(rO 6),⟨some 19,.mv (.t 3),some (17,true)⟩,false,[]⟩,⟨8,[0,1,2,3,4,5,7],⟨some 20,.bin .sub (.t 19) (.c (.int .i64 1)),some (17,true)⟩,false,[]⟩,⟨9,(rO 9),⟨some 21,.ia none 2 (.t 18) (.t 20),some (17,true)⟩,false,[]⟩,⟨10,(rO 10),⟨some 22,.ld true 2 (.t 21),some (17,true)⟩,false,[]⟩,⟨11,(rO 6),⟨some 23,.ld true 2 (.t 4),some (17,true)⟩,false,[]⟩,⟨12,(rO 12),⟨some 24,.call 218 [(.t 22),(.t 23)],some (17,true)⟩,false,[]⟩,⟨13,(rO 13),⟨some 25,.bin .geq (.t 24) (.c (.int .i64 0)),some (17,true)⟩,false,[]⟩,⟨14,(rO 14),⟨some 26,.pick (.t 17) (.t 25) (.c (.bool false)),some (14,false)⟩,false,[]⟩,⟨15,(rO 15),oO 27 (.pick (.t 14) (.c (.bool true)) (.t 26)),false,[]⟩]) (.cond (.t 27) (.seq (.reg [oO 2 (.mv (.c (.int .i64 1)))]) (.ret)) (.skip))))) (.reg [oO 28 (.bin .add (.t 7) (.c (.int .i64 1))),mO 7 28]))))))) (.seq (.reg [oO 2 (.mv (.c (.int .i64 0)))]) (.ret))),res := [(2,none)] }
def c164 : VF := { code := .seq (.reg [oO 4 (.mv (.c (.bool false)))]) (.seq (.reg [mO 5 0,mO 6 1,oO 7 (.call 219 [(.t 5),(.t 6)]),oO 8 (.bin .geq (.t 7) (.c (.int .i64 0))),mO 4 8]) (.ret)),res := [(4,none)] }
def c165 : VF := { code := .seq (.reg [oO 3 (.bx (.t 0) []),oO 4 (.mv (.c (.bool false)))]) (.seq (.drw [⟨0,[],oO 5 (.ld true 3 (.t 1)),false,[]⟩,⟨1,[],oO 6 (.ld true 2 (.t 3)),false,[]⟩,⟨2,[0,1],oO 7 (.call 104 [(.t 5),(.t 6)]),false,[]⟩,⟨3,[],oO 8 (.ld false 1 (.t 2)),false,[]⟩,⟨4,(rO 4),oO 9 (.bin .neq (.t 7) (.t 8)),false,[]⟩,⟨5,(rO 5),mO 4 9,false,[]⟩]) (.ret)),res := [(4,none)] }
def c166 : VF := { code := .seq (.reg [oO 1 (.bx (.t 0) []),oO 2 (.mv (.c (.int .i64 0)))]) (.seq (.seq (.reg [oO 3 (.fa 0 (.t 1)),oO 4 (.ld false 1 (.t 3)),oO 5 (.call 117 [(.t 4)]),oO 6 (.not (.t 5)),mO 7 6,⟨some 8,.fa 1 (.t 1),some (7,false)⟩,⟨some 9,.ld false 1 (.t 8),some (7,false)⟩,⟨some 10,.len false (.t 9),some (7,false)⟩,⟨some 11,.bin .gtr (.t 10) (.c (.int .i64 5)),some (7,false)⟩,oO 12 (.pick (.t 7) (.c (.bool true)) (.t 11)),mO 13 12,⟨some 14,.fa 1 (.t 1),some (13,false)⟩,⟨some 15,.ld false 1 (.t 14),some (13,false)⟩,⟨some 16,.call 220 [(.t 15),(.c (.fn 221 [] []))],some (13,false)⟩,oO 17 (.pick (.t 13) (.c (.bool true)) (.t 16))]) (.cond (.t 17) (.seq (.reg [oO 2 (.mv (.c (.int .i64 1)))]) (.ret)) (.skip))) (.seq (.reg [oO 2 (.mv (.c (.int .i64 0)))]) (.ret))),res := [(2,none)] }
def c167 : VF := { code := .seq (.reg [oO 5 (.bx (.t 1) []),oO 6 (.bx (.t 2) []),oO 7 (.bx (.t 3) []),oO 8 (.mv (.c (.int .i64 0)))]) (.seq (.reg [oO 16 (.fa 0 (.t 6)),oO 17 (.ld false 1 (.t 16)),oO 18 (.fa 1 (.t 6)),oO 19 (.ld false 1 (.t 18)),oO 20 (.ld true 2 (.t 7)),oO 21 (.bl 2 [(.t 20)]),oO 22 (.bl 1 [(.t 17),(.t 19),(.t 21)]),oO 23 (.call 223 [(.t 22)]),oO 24 (.call 222 [(.t 23)]),mO 15 24,oO 25 (.ex (.t 15) 0),oO 26 (.ex (.t 15) 1),mO 9 25,mO 10 26]) (.seq (.seq (.reg [mO 27 9,oO 28 (.len false (.t 27)),oO 29 (.fa 1 (.t 5)),oO 30 (.ld false 1 (.t 29)),oO 31 (.bin .gtr (.t 28) (.t 30))]) (.cond (.t 31) (.seq (.reg [oO 8 (.mv (.c (.int .i64 15)))]) (.ret)) (.skip))) (.seq (.seq (.reg [mO 32 0,oO 33 (.inv (.t 32) [(143,368)] []),oO 34 (.len false (.t 33)),oO 35 (.mv (.c (.int .i64 0)))]) (.block 0 (.loop [0,9,33,34,35] (.seq (.reg [oO 36 (.bin .lss (.t 35) (.t 34))]) (.seq (.cond (.t 36) (.skip) (.exit 0)) (.seq (.block 1 (.seq (.reg [oO 37 (.ia none 2 (.t 33) (.t 35)),oO 38 (.ld true 2 (.t 37)),oO 12 (.al [.str [],.sl .ex 3 []] []),nO (.st true 2 (.t 12) (.t 38))]) (.seq (.reg [mO 39 9,oO 40 (.ld true 2 (.t 12)),oO 41 (.call 224 [(.t 39),(.t 40)]),oO 42 (.not (.t 41))]) (.cond (.t 42) (.reg [mO 43 0,oO 44 (.ld true 2 (.t 12)),oO 45 (.inv (.t 43) [(143,367)] [(.t 44)])]) (.skip))))) (.reg [oO 46 (.bin .add (.t 35) (.c (.int .i64 1))),mO 35 46]))))))) (.seq (.seq (.reg [mO 47 9,oO 48 (.len false (.t 47)),oO 49 (.mv (.c (.int .i64 0)))]) (.block 2 (.loop [0,47,48,49] (.seq (.reg [oO 50 (.bin .lss (.t 49) (.t 48))]) (.seq (.cond (.t 50) (.skip) (.exit 2)) (.seq (.block 3 (.seq (.reg [oO 51 (.ia none 2 (.t 47) (.t 49)),oO 52 (.ld true 2 (.t 51)),oO 14 (.al [.str [],.sl .ex 3 []] []),nO (.st true 2 (.t 14) (.t 52))]) (.reg [mO 53 0,oO 54 (.ld true 2 (.t 14)),oO 55 (.inv (.t 53) [(143,370)] [(.t 54)])]))) (.reg [oO 56 (.bin .add (.t 49) (.c (.int .i64 1))),mO 49 56]))))))) (.seq (.reg [oO 8 (.mv (.c (.int .i64 0)))]) (.ret)))))),res := [(8,none)] }
def c168 : VF := { code := .seq (.reg [oO 2 (.mv (.c (.int .i64 0)))]) (.block 0 (.loop [0] (.block 1 (.seq (.reg [mO 8 0,oO 9 (.nc (.t 8)),oO 10 (.fa 6 (.t 9)),oO 11 (.ld false 1 (.t 10)),oO 12 (.inv (.t 11) [(143,369)] []),mO 7 12,oO 13 (.ex (.t 7) 0),oO 14 (.ex (.t 7) 1),mO 3 13,mO 4 14]) (.seq (.seq (.reg [mO 15 4,oO 16 (.bin .neq (.t 15) (.c (.int .i64 0)))]) (.cond (.t 16) (.seq (.reg [mO 17 4,mO 2 17]) (.ret)) (.skip))) (.seq (.drw [⟨0,[],mO 19 0,false,[]⟩,⟨1,[0],oO 20 (.nc (.t 19)),false,[]⟩,⟨2,[0,1],oO 21 (.fa 0 (.t 20)),false,[]⟩,⟨3,[0,1,2],oO 22 (.ld true 3 (.t 21)),false,[]⟩,⟨4,[],mO 23 0,false,[]⟩,⟨5,[4],oO 24 (.nc (.t 23)),false,[]⟩,⟨6,[4,5],oO 25 (.fa 5 (.t 24)),false,[]⟩,⟨7,[4,5,6],oO 26 (.ld false 1 (.t 25)),false,[]⟩,⟨8,[],mO 27 3,false,[]⟩,⟨9,[],mO 28 0,false,[]⟩,⟨10,[9],oO 29 (.nc (.t 28)),false,[]⟩,⟨11,[9,10],oO 30 (.fa 7 (.t 29)),false,[]⟩,⟨12,[9,10,11],oO 31 (.fa 1 (.t 30)),false,[]⟩,⟨13,[9,10,11,12],oO 32 (.ld false 1 (.t 31)),false,[]⟩,⟨14,(rO 14),oO 33 (.call 225 [(.t 22),(.t 26),(.t 27),(.t 32)]),false,[]⟩,⟨15,(rO 15),mO 18 33,false,[]⟩,⟨16,(rO 16),oO 34 (.ex (.t 18) 0),false,[]⟩,⟨17,(rO 16),oO 35 (.ex (.t 18) 1),false,[]⟩,⟨18,[],oO 5 (.al [.int .i64 0,.sl .ex 2 []] []),true,[3,7,13,14]⟩,⟨19,[0,1,2,3,4,5,6,7,8,9,10,11,12,13,14,15,16,18],nO (.st true 2 (.t 5) (.t 34)),true,[]⟩,⟨20,(rO 20),mO 6 35,false,[]⟩]) (.seq (.block 2 (.seq (.reg [mO 37 6,oO 38 (.not (.t 37)),mO 36 38]) (.cond (.t 36) (.seq (.reg [oO 2 (.mv (.c (.int .i64 0)))]) (.ret)) (.seq (.drw [⟨0,[],mO 40 0,false,[]⟩,⟨1,[0],oO 41 (.nc (.t 40)),false,[]⟩,⟨2,[0,1],oO 42 (.fa 7 (.t 41)),false,[]⟩,⟨3,[0,1,2],oO 43 (.fa 1 (.t 42)),false,[]⟩,⟨4,(rO 4),oO 44 (.ld false 1 (.t 43)),false,[]⟩,⟨5,(rO 5),oO 45 (.len false (.t 44)),false,[]⟩,⟨6,[],mO 46 0,false,[]⟩,⟨7,[6],oO 47 (.nc (.t 46)),false,[]⟩,⟨8,[6,7],oO 48 (.fa 3 (.t 47)),false,[]⟩,⟨9,[6,7,8],oO 49 (.fa 0 (.t 48)),false,[]⟩,⟨10,[6,7,8,9],oO 50 (.ld false 1 (.t 49)),false,[]⟩,⟨11,(rO 11),oO 51 (.bin .geq (.t 45) (.t 50)),false,[]⟩,⟨12,(rO 12),mO 39 51,false,[]⟩]) (.cond (.t 39) (.seq (.reg [oO 2 (.mv (.c (.int .i64 14)))]) (.ret)) (.skip)))))) (.seq (.reg [mO 52 0,oO 53 (.ld true 2 (.t 5)),oO 54 (.call 226 [(.t 52),(.t 53)]),mO 4 54]) (.seq (.reg [mO 55 4,oO 56 (.bin .neq (.t 55) (.c (.int .i64 0)))]) (.cond (.t 56) (.seq (.reg [mO 57 4,mO 2 57]) (.ret)) (.skip))))))))))),res := [(2,none)] }
def c170 : VF := { code := .seq (.reg [oO 2 (.mv (.c (.bool false)))]) (.seq (.seq (.reg [mO 4 0,oO 5 (.len true (.t 4)),oO 6 (.bin .lss (.t 5) (.c (.int .i64 1))),mO 7 6,⟨some 8,.mv (.t 0),some (7,false)⟩,⟨some 9,.len true (.t 8),some (7,false)⟩,⟨some 10,.bin .gtr (.t 9) (.c (.int .i64 24)),some (7,false)⟩,oO 11 (.pick (.t 7) (.c (.bool true)) (.t 10)),mO 12 11,⟨some 13,.mv (.t 0),some (12,false)⟩,⟨some 14,.ix (.t 13) (.c (.int .i64 0)),some (12,false)⟩,⟨some 15,.bin .lss (.t 14) (.c (.int .u8 65)),some (12,false)⟩,oO 16 (.pick (.t 12) (.c (.bool true)) (.t 15)),mO 17 16,⟨some 18,.mv (.t 0),some (17,false)⟩,⟨some 19,.ix (.t 18) (.c (.int .i64 0)),some (17,false)⟩,⟨some 20,.bin .gtr (.t 19) (.c (.int .u8 90)),some (17,false)⟩,oO 21 (.pick (.t 17) (.c (.bool true)) (.t 20))]) (.cond (.t 21) (.seq (.reg [oO 2 (.mv (.c (.bool false)))]) (.ret)) (.skip))) (.seq (.seq (.reg [mO 22 0,oO 23 (.len true (.t 22)),oO 24 (.mv (.c (.int .i64 0)))]) (.block 0 (.loop [0,23,24] (.seq (.reg [oO 25 (.bin .lss (.t 24) (.t 23))]) (.seq (.cond (.t 25) (.skip) (.exit 0)) (.seq (.block 1 (.seq (.reg [mO 26 24,mO 3 26]) (.seq (.reg [mO 27 0,mO 28 3,oO 29 (.ix (.t 27) (.t 28)),oO 30 (.call 227 [(.t 29)]),oO 31 (.not (.t 30))]) (.cond (.t 31) (.seq (.reg [oO 2 (.mv (.c (.bool false)))]) (.ret)) (.skip))))) (.reg [oO 32 (.bin .add (.t 24) (.c (.int .i64 1))),mO 24 32]))))))) (.seq (.reg [oO 2 (.mv (.c (.bool true)))]) (.ret)))),res := [(2,none)] }
def c171 : VF := { code := .seq (.reg [oO 1 (.bx (.t 0) []),oO 2 (.mv (.c (.int .i64 0)))]) (.seq (.reg [oO 3 (.mv (.c (.bool false)))]) (.seq (.seq (.reg [oO 4 (.fa 0 (.t 1)),oO 5 (.ld false 1 (.t 4))]) (.block 0 (.seq (.reg [oO 7 (.bin .eql (.t 5) (.c (.int .i64 1))),mO 6 7]) (.cond (.t 6) (.reg [oO 8 (.fa 1 (.t 1)),oO 9 (.ld false 1 (.t 8)),oO 10 (.bin .geq (.t 9) (.c (.int .i64 (-4611686018427387904)))),mO 11 10,⟨some 12,.fa 1 (.t 1),some (11,true)⟩,⟨some 13,.ld false 1 (.t 12),some (11,true)⟩,⟨some 14,.bin .leq (.t 13) (.c (.int .i64 4611686018427387904)),some (11,true)⟩,oO 15 (.pick (.t 11) (.t 14) (.c (.bool false))),mO 16 15,⟨some 17,.fa 2 (.t 1),some (16,true)⟩,⟨some 18,.ld false 1 (.t 17),some (16,true)⟩,⟨some 19,.bin .eql (.t 18) (.c (.str [])),some (16,true)⟩,oO 20 (.pick (.t 16) (.t 19) (.c (.bool false))),mO 3 20]) (.seq (.reg [oO 22 (.bin .eql (.t 5) (.c (.int .i64 2))),mO 21 22]) (.cond (.t 21) (.reg [oO 23 (.fa 1 (.t 1)),oO 24 (.ld false 1 (.t 23)),oO 25 (.bin .eql (.t 24) (.c (.int .i64 0))),mO 26 25,⟨some 27,.fa 2 (.t 1),some (26,true)⟩,⟨some 28,.ld false 1 (.t 27),some (26,true)⟩,⟨some 29,.call 228 [(.t 28)],some (26,true)⟩,oO 30 (.pick (.t 26) (.t 29) (.c (.bool false))),mO 3 30]) (.seq (.reg [oO 32 (.bin .eql (.t 5) (.c (.int .i64 3))),mO 31 32]) (.cond (.t 31) (.reg [oO 33 (.fa 1 (.t 1)),oO 34 (.ld false 1 (.t 33)),oO 35 (.bin .eql (.t 34) (.c (.int .i64 0))),mO 36 35,⟨some 37,.fa 2 (.t 1),some (36,true)⟩,⟨some 38,.ld false 1 (.t 37),some (36,true)⟩,⟨some 39,.call 229 [(.t 38)],some (36,true)⟩,oO 40 (.pick (.t 36) (.t 39) (.c (.bool false))),mO 3 40]) (.skip))))))))) (.seq (.seq (.reg [mO 41 3,oO 42 (.not (.t 41))]) (.cond (.t 42) (.seq (.reg [oO 2 (.mv (.c (.int .i64 1)))]) (.ret)) (.skip))) (.seq (.reg [oO 2 (.mv (.c (.int .i64 0)))]) (.ret))))),res := [(2,none)] }
def c175 : VF := { code := .seq (.reg [oO 4 (.mv (.c (.str []))),oO 5 (.mv (.c (.bool false)))]) (.seq (.seq (.reg [mO 6 0,mO 7 1,oO 8 (.call 184 [(.t 6),(.t 7)]),oO 9 (.not (.t 8))]) (.cond (.t 9) (.seq (.reg [mO 10 0,mO 4 10,oO 5 (.mv (.c (.bool false)))]) (.ret)) (.skip))) (.seq (.reg [mO 11 0,mO 12 1,oO 13 (.len true (.t 12)),oO 14 (.cut true 1 (.t 11) (some (.t 13)) none none),mO 4 14,oO 5 (.mv (.c (.bool true)))]) (.ret))),res := [(4,none),(5,none)] }
def c176 : VF := { code := .seq (.reg [oO 4 (.mv (.c (.str [])))]) (.seq (.block 0 (.loop [0,1] (.seq (.seq (.reg [mO 5 0,oO 6 (.len true (.t 5)),oO 7 (.bin .gtr (.t 6) (.c (.int .i64 0))),mO 8 7,⟨some 9,.mv (.t 0),some (8,true)⟩,⟨some 10,.ix (.t 9) (.c (.int .i64 0)),some (8,true)⟩,⟨some 11,.mv (.t 1),some (8,true)⟩,⟨some 12,.bin .eql (.t 10) (.t 11),some (8,true)⟩,oO 13 (.pick (.t 8) (.t 12) (.c (.bool false)))]) (.cond (.t 13) (.skip) (.exit 0))) (.block 1 (.reg [mO 14 0,oO 15 (.cut true 1 (.t 14) (some (.c (.int .i64 1))) none none),mO 0 15]))))) (.seq (.reg [mO 16 0,mO 4 16]) (.ret))),res := [(4,none)] }
def c180 : VF := { code := .seq (.reg [oO 2 (.mv (.c (.int .i64 0))),oO 3 (.mv (.c (.nili)))]) (.seq (.reg [mO 11 0,oO 12 (.len true (.t 11)),mO 4 12]) (.seq (.seq (.reg [oO 13 (.mv (.c (.bool false))),⟨some 14,.mv (.t 4),some (13,true)⟩,⟨some 15,.bin .lss (.c (.int .i64 0)) (.t 14),some (13,true)⟩,⟨some 16,.mv (.t 15),some (13,true)⟩,⟨some 17,.mv (.t 4),some (16,true)⟩,⟨some 18,.bin .lss (.t 17) (.c (.int .i64 10)),some (16,true)⟩,⟨some 19,.pick (.t 16) (.t 18) (.c (.bool false)),some (13,true)⟩,oO 20 (.pick (.t 13) (.t 19) (.c (.bool false))),mO 21 20,⟨some 22,.mv (.c (.bool true)),some (21,false)⟩,⟨some 23,.mv (.t 4),some (22,true)⟩,⟨some 24,.bin .lss (.c (.int .i64 0)) (.t 23),some (22,true)⟩,⟨some 25,.mv (.t 24),some (22,true)⟩,⟨some 26,.mv (.t 4),some (25,true)⟩,⟨some 27,.bin .lss (.t 26) (.c (.int .i64 19)),some (25,true)⟩,⟨some 28,.pick (.t 25) (.t 27) (.c (.bool false)),some (22,true)⟩,⟨some 29,.pick (.t 22) (.t 28) (.c (.bool false)),some (21,false)⟩,oO 30 (.pick (.t 21) (.c (.bool true)) (.t 29))]) (.cond (.t 30) (.seq (.reg [mO 31 0,mO 5 31]) (.seq (.seq (.reg [mO 32 0,oO 33 (.ix (.t 32) (.c (.int .i64 0))),oO 34 (.bin .eql (.t 33) (.c (.int .u8 45))),mO 35 34,⟨some 36,.mv (.t 0),some (35,false)⟩,⟨some 37,.ix (.t 36) (.c (.int .i64 0)),some (35,false)⟩,⟨some 38,.bin .eql (.t 37) (.c (.int .u8 43)),some (35,false)⟩,oO 39 (.pick (.t 35) (.c (.bool true)) (.t 38))]) (.cond (.t 39) (.seq (.reg [mO 40 0,oO 41 (.cut true 1 (.t 40) (some (.c (.int .i64 1))) none none),mO 0 41]) (.seq (.reg [mO 42 0,oO 43 (.len true (.t 42)),oO 44 (.bin .lss (.t 43) (.c (.int .i64 1)))]) (.cond (.t 44) (.seq (.reg [oO 45 (.mi 332 (.c (.int .i64 2))),oO 2 (.mv (.c (.int .i64 0))),mO 3 45]) (.ret)) (.skip)))) (.skip))) (.seq (.reg [oO 6 (.mv (.c (.int .i64 0)))]) (.seq (.seq (.reg [mO 46 0,oO 47 (.s2b (.t 46)),oO 48 (.len false (.t 47)),oO 49 (.mv (.c (.int .i64 0)))]) (.block 0 (.loop [5,6,47,48,49] (.seq (.reg [oO 50 (.bin .lss (.t 49) (.t 48))]) (.seq (.cond (.t 50) (.skip) (.exit 0)) (.seq (.block 1 (.seq (.reg [oO 51 (.ia none 1 (.t 47) (.t 49)),oO 52 (.ld false 1 (.t 51)),mO 8 52]) (.seq (.reg [mO 53 8,oO 54 (.bin .sub (.t 53) (.c (.int .u8 48))),mO 8 54]) (.seq (.seq (.reg [mO 55 8,oO 56 (.bin .gtr (.t 55) (.c (.int .u8 9)))]) (.cond (.t 56) (.seq (.reg [oO 57 (.mi 332 (.c (.int .i64 2))),oO 2 (.mv (.c (.int .i64 0))),mO 3 57]) (.ret)) (.skip))) (.reg [mO 58 6,oO 59 (.bin .mul (.t 58) (.c (.int .i64 10))),mO 60 8,oO 61 (.wrp .i64 (.t 60)),oO 62 (.bin .add (.t 59) (.t 61)),mO 6 62]))))) (.reg [oO 63 (.bin .add (.t 49) (.c (.int .i64 1))),mO 49 63]))))))) (.seq (.seq (.reg [mO 64 5,oO 65 (.ix (.t 64) (.c (.int .i64 0))),oO 66 (.bin .eql (.t 65) (.c (.int .u8 45)))]) (.cond (.t 66) (.reg [mO 67 6,oO 68 (.neg (.t 67)),mO 6 68]) (.skip))) (.seq (.reg [mO 69 6,mO 2 69,oO 3 (.mv (.c (.nili)))]) (.ret))))))) (.skip))) (.seq (.reg [mO 71 0,oO 72 (.call 234 [(.t 71),(.c (.int .i64 10)),(.c (.int .i64 0))]),mO 70 72,oO 73 (.ex (.t 70) 0),oO 74 (.ex (.t 70) 1),mO 9 73,mO 10 74]) (.seq (.reg [mO 75 9,mO 76 10,mO 2 75,mO 3 76]) (.ret))))),res := [(2,none),(3,none)] }
def c182 : VF := { code := .seq (.reg [oO 2 (.mv (.c (.str [])))]) (.seq (.reg [mO 3 0,oO 4 (.call 239 [(.t 3)]),mO 2 4]) (.ret)),res := [(2,none)] }
def c184 : VF := { code := .seq (.reg [oO 4 (.mv (.c (.bool false)))]) (.seq (.reg [mO 5 0,oO 6 (.len true (.t 5)),mO 7 1,oO 8 (.len true (.t 7)),oO 9 (.bin .geq (.t 6) (.t 8)),mO 10 9,⟨some 11,.mv (.t 0),some (10,true)⟩,⟨some 12,.mv (.t 1),some (10,true)⟩,⟨some 13,.len true (.t 12),some (10,true)⟩,⟨some 14,.cut true 1 (.t 11) none (some (.t 13)) none,some (10,true)⟩,⟨some 15,.mv (.t 1),some (10,true)⟩,⟨some 16,.bin .eql (.t 14) (.t 15),some (10,true)⟩,oO 17 (.pick (.t 10) (.t 16) (.c (.bool false))),mO 4 17]) (.ret)),res := [(4,none)] }
def c185 : VF := { code := .seq (.reg [oO 2 (.mv (.c (.bool false)))]) (.seq (.reg [oO 3 (.bl 1 [(.c (.str [102,97,99,116])),(.c (.str [114,117,108,101])),(.c (.str [112,97,116,116,101,114,110])),(.c (.str [110,111,116])),(.c (.str [97,110,100])),(.c (.str [111,114])),(.c (.str [98,101,102,111,114,101])),(.c (.str [111,110,99,101])),(.c (.str [97,108,119,97,121,115])),(.c (.str [115,105,110,99,101])),(.c (.str [100,114,111,112]))]),mO 4 0,oO 5 (.call 141 [(.t 3),(.t 4)]),mO 2 5]) (.ret)),res := [(2,none)] }
def c189 : VF := { code := .seq (.reg [oO 4 (.mv (.c (.int .i64 0)))]) (.seq (.seq (.reg [mO 6 0,oO 7 (.len false (.t 6)),oO 8 (.mv (.c (.int .i64 0)))]) (.block 0 (.loop [0,1,7,8] (.seq (.reg [oO 9 (.bin .lss (.t 8) (.t 7))]) (.seq (.cond (.t 9) (.skip) (.exit 0)) (.seq (.block 1 (.seq (.reg [mO 10 8,mO 5 10]) (.seq (.reg [mO 11 1,mO 12 0,mO 13 5,oO 14 (.ia none 4 (.t 12) (.t 13)),oO 15 (.ld true 4 (.t 14)),oO 16 (.cv (.t 11) [(.t 15)])]) (.cond (.t 16) (.seq (.reg [mO 17 5,mO 4 17]) (.ret)) (.skip))))) (.reg [oO 18 (.bin .add (.t 8) (.c (.int .i64 1))),mO 8 18]))))))) (.seq (.reg [oO 4 (.mv (.c (.int .i64 (-1))))]) (.ret))),res := [(4,none)] }
def c190 : VF := { code := .seq (.reg [oO 2 (.mv (.c (.bool false)))]) (.seq (.reg [mO 3 0,oO 4 (.call 191 [(.t 3)]),oO 5 (.bin .neq (.t 4) (.c (.int .i64 0))),mO 2 5]) (.ret)),res := [(2,none)] }
def c191 : VF := { code := .seq (.reg [oO 2 (.mv (.c (.int .i64 0)))]) (.seq (.seq (.reg [mO 6 0,oO 7 (.len false (.t 6)),oO 8 (.bin .lss (.t 7) (.c (.int .i64 1))),mO 9 8,⟨some 10,.mv (.t 0),some (9,false)⟩,⟨some 11,.len false (.t 10),some (9,false)⟩,⟨some 12,.bin .gtr (.t 11) (.c (.int .i64 15)),some (9,false)⟩,oO 13 (.pick (.t 9) (.c (.bool true)) (.t 12))]) (.cond (.t 13) (.seq (.reg [oO 2 (.mv (.c (.int .i64 1)))]) (.ret)) (.skip))) (.seq (.reg [oO 3 (.mv (.c (.int .i64 0)))]) (.seq (.seq (.reg [mO 14 0,oO 15 (.len false (.t 14)),oO 16 (.mv (.c (.int .i64 0)))]) (.block 0 (.loop [3,14,15,16] (.seq (.reg [oO 17 (.bin .lss (.t 16) (.t 15))]) (.seq (.cond (.t 17) (.skip) (.exit 0)) (.seq (.block 1 (.seq (.reg [oO 18 (.ia none 5 (.t 14) (.t 16)),oO 19 (.ld true 5 (.t 18)),oO 5 (.al [.int .i64 0,.str [],.int .i64 0,.int .i64 0,.str []] []),nO (.st true 5 (.t 5) (.t 19))]) (.seq (.seq (.reg [oO 20 (.ld true 5 (.t 5)),oO 21 (.call 243 [(.t 20)]),oO 22 (.not (.t 21)),mO 23 22,⟨some 24,.fa 0 (.t 5),some (23,false)⟩,⟨some 25,.ld false 1 (.t 24),some (23,false)⟩,⟨some 26,.call 244 [(.t 25)],some (23,false)⟩,⟨some 27,.not (.t 26),some (23,false)⟩,⟨some 28,.mv (.t 27),some (23,false)⟩,⟨some 29,.mv (.t 3),some (28,true)⟩,⟨some 30,.bin .lss (.t 29) (.c (.int .i64 2)),some (28,true)⟩,⟨some 31,.pick (.t 28) (.t 30) (.c (.bool false)),some (23,false)⟩,oO 32 (.pick (.t 23) (.c (.bool true)) (.t 31))]) (.cond (.t 32) (.seq (.reg [oO 2 (.mv (.c (.int .i64 1)))]) (.ret)) (.skip))) (.seq (.reg [oO 33 (.fa 0 (.t 5)),oO 34 (.ld false 1 (.t 33)),oO 35 (.call 244 [(.t 34)])]) (.cond (.t 35) (.reg [mO 36 3,oO 37 (.bin .add (.t 36) (.c (.int .i64 1))),mO 3 37]) (.reg [mO 38 3,oO 39 (.bin .sub (.t 38) (.c (.int .i64 1))),mO 3 39])))))) (.reg [oO 40 (.bin .add (.t 16) (.c (.int .i64 1))),mO 16 40]))))))) (.seq (.seq (.reg [mO 41 3,oO 42 (.bin .neq (.t 41) (.c (.int .i64 1)))]) (.cond (.t 42) (.seq (.reg [oO 2 (.mv (.c (.int .i64 1)))]) (.ret)) (.skip))) (.seq (.reg [oO 2 (.mv (.c (.int .i64 0)))]) (.ret)))))),res := [(2,none)] }
def c192 : VF := { code := .seq (.reg [oO 1 (.bx (.t 0) []),oO 2 (.al [.str [],.int .i64 0,.int .i64 0,.str []] []),oO 3 (.mv (.c (.bool false)))]) (.seq (.seq (.reg [oO 9 (.fa 0 (.t 1)),oO 10 (.ld false 1 (.t 9))]) (.block 0 (.seq (.reg [oO 12 (.bin .eql (.t 10) (.c (.int .i64 2))),mO 11 12]) (.cond (.t 11) (.seq (.drw [⟨0,[],oO 13 (.fa 1 (.t 1)),false,[]⟩,⟨1,[0],oO 14 (.ld false 1 (.t 13)),false,[]⟩,⟨2,[0,1],oO 15 (.bd [.str [],.int .i64 0,.int .i64 0,.str []] [(0,1,(.t 14))]),false,[]⟩,⟨3,[],oO 16 (.fa 1 (.t 1)),false,[]⟩,⟨4,[3],oO 17 (.ld false 1 (.t 16)),false,[]⟩,⟨5,[3,4],oO 18 (.call 170 [(.t 17)]),false,[]⟩,⟨6,(rO 6),nO (.st true 4 (.t 2) (.t 15)),true,[]⟩,⟨7,(rO 7),mO 3 18,false,[]⟩]) (.ret)) (.seq (.reg [oO 20 (.bin .eql (.t 10) (.c (.int .i64 3))),mO 19 20]) (.cond (.t 19) (.seq (.reg [oO 22 (.fa 1 (.t 1)),oO 23 (.ld false 1 (.t 22)),oO 24 (.call 61 [(.t 23)]),mO 21 24,oO 25 (.ex (.t 21) 0),oO 26 (.ex (.t 21) 1),oO 4 (.al [.int .i64 0,.int .i64 0,.str []] []),nO (.st true 3 (.t 4) (.t 25)),mO 5 26]) (.seq (.reg [oO 27 (.ld true 3 (.t 4)),oO 28 (.bd [.str [],.int .i64 0,.int .i64 0,.str []] [(1,3,(.t 27))]),mO 29 5,nO (.st true 4 (.t 2) (.t 28)),mO 3 29]) (.ret))) (.skip))))))) (.seq (.reg [oO 31 (.fa 1 (.t 1)),oO 32 (.ld false 1 (.t 31)),oO 33 (.call 63 [(.t 32)]),mO 30 33,oO 34 (.ex (.t 30) 0),oO 35 (.ex (.t 30) 1),oO 6 (.al [.int .i64 0,.int .i64 0,.str []] []),nO (.st true 3 (.t 6) (.t 34)),mO 7 35]) (.seq (.reg [mO 36 7,oO 37 (.bin .eql (.t 36) (.c (.int .i64 0))),mO 38 37,⟨some 39,.fa 0 (.t 1),some (38,true)⟩,⟨some 40,.ld false 1 (.t 39),some (38,true)⟩,⟨some 41,.bin .eql (.t 40) (.c (.int .i64 1)),some (38,true)⟩,⟨some 42,.mv (.t 41),some (38,true)⟩,⟨some 43,.fa 0 (.t 6),some (42,true)⟩,⟨some 44,.ld false 1 (.t 43),some (42,true)⟩,⟨some 45,.bin .eql (.t 44) (.c (.int .i64 2)),some (42,true)⟩,⟨some 46,.pick (.t 42) (.t 45) (.c (.bool false)),some (38,true)⟩,⟨some 47,.mv (.t 46),some (38,true)⟩,⟨some 48,.fa 0 (.t 1),some (47,false)⟩,⟨some 49,.ld false 1 (.t 48),some (47,false)⟩,⟨some 50,.bin .eql (.t 49) (.c (.int .i64 4)),some (47,false)⟩,⟨some 51,.mv (.t 50),some (47,false)⟩,⟨some 52,.fa 0 (.t 6),some (51,true)⟩,⟨some 53,.ld false 1 (.t 52),some (51,true)⟩,⟨some 54,.bin .eql (.t 53) (.c (.int .i64 3)),some (51,true)⟩,⟨some 55,.pick (.t 51) (.t 54) (.c (.bool false)),some (47,false)⟩,⟨some 56,.pick (.t 47) (.c (.bool true)) (.t 55),some (38,true)⟩,oO 57 (.pick (.t 38) (.t 56) (.c (.bool false))),mO 8 57]) (.seq (.reg [oO 58 (.ld true 3 (.t 6)),oO 59 (.bd [.str [],.int .i64 0,.int .i64 0,.str []] [(1,3,(.t 58))]),mO 60 8,nO (.st true 4 (.t 2) (.t 59)),mO 3 60]) (.ret))))),res := [(2,some (true,4)),(3,none)] }
def c193 : VF := { code := .seq (.reg [oO 4 (.mv (.c (.int .i64 0)))]) (.seq (.seq (.reg [oO 5 (.mv (.c (.int .i64 2)))]) (.block 0 (.loop [0,1,5] (.seq (.seq (.reg [mO 8 5,oO 9 (.bin .leq (.t 8) (.c (.int .i64 8)))]) (.cond (.t 9) (.skip) (.exit 0))) (.seq (.block 1 (.seq (.reg [mO 13 1,mO 14 5,oO 15 (.mg true (some .i64) (.str []) (.t 13) (.t 14)),mO 12 15,oO 16 (.ex (.t 12) 0),oO 17 (.ex (.t 12) 1),mO 6 16,mO 7 17]) (.seq (.reg [mO 18 7,mO 19 18,⟨some 20,.mv (.t 0),some (19,true)⟩,⟨some 21,.nc (.t 20),some (19,true)⟩,⟨some 22,.fa 0 (.t 21),some (19,true)⟩,⟨some 23,.ld false 1 (.t 22),some (19,true)⟩,⟨some 24,.mv (.t 6),some (19,true)⟩,⟨some 25,.call 72 [(.t 23),(.t 24)],some (19,true)⟩,oO 26 (.pick (.t 19) (.t 25) (.c (.bool false)))]) (.cond (.t 26) (.seq (.reg [mO 27 5,mO 4 27]) (.ret)) (.skip))))) (.reg [mO 10 5,oO 11 (.bin .add (.t 10) (.c (.int .i64 1))),mO 5 11])))))) (.seq (.reg [oO 4 (.mv (.c (.int .i64 0)))]) (.ret))),res := [(4,none)] }
def c194 : VF := { code := .seq (.reg [oO 0 (.mv (.c (.nilm)))]) (.seq (.reg [oO 1 (.mm),nO (.mu (some .i64) (.t 1) (.c (.int .i64 2)) (.c (.str [110,111,116]))),nO (.mu (some .i64) (.t 1) (.c (.int .i64 5)) (.c (.str [98,101,102,111,114,101]))),nO (.mu (some .i64) (.t 1) (.c (.int .i64 6)) (.c (.str [111,110,99,101]))),nO (.mu (some .i64) (.t 1) (.c (.int .i64 7)) (.c (.str [97,108,119,97,121,115]))),mO 2 1,mO 0 2]) (.ret)),res := [(0,none)] }
def c195 : VF := { code := .seq (.reg [oO 2 (.mv (.c (.int .i64 0)))]) (.seq (.seq (.reg [mO 3 0]) (.block 0 (.seq (.reg [oO 5 (.bin .eql (.t 3) (.c (.int .i64 1))),mO 4 5]) (.cond (.t 4) (.seq (.reg [oO 2 (.mv (.c (.int .i64 0)))]) (.ret)) (.seq (.seq (.reg [oO 7 (.bin .eql (.t 3) (.c (.int .i64 2))),mO 6 7]) (.cond (.t 6) (.skip) (.seq (.reg [oO 8 (.bin .eql (.t 3) (.c (.int .i64 5))),mO 6 8]) (.cond (.t 6) (.skip) (.seq (.reg [oO 9 (.bin .eql (.t 3) (.c (.int .i64 6))),mO 6 9]) (.cond (.t 6) (.skip) (.reg [oO 10 (.bin .eql (.t 3) (.c (.int .i64 7))),mO 6 10]))))))) (.cond (.t 6) (.seq (.reg [oO 2 (.mv (.c (.int .i64 1)))]) (.ret)) (.seq (.seq (.reg [oO 12 (.bin .eql (.t 3) (.c (.int .i64 3))),mO 11 12]) (.cond (.t 11) (.skip) (.seq (.reg [oO 13 (.bin .eql (.t 3) (.c (.int .i64 4))),mO 11 13]) (.cond (.t 11) (.skip) (.reg [oO 14 (.bin .eql (.t 3) (.c (.int .i64 8))),mO 11 14]))))) (.cond (.t 11) (.seq (.reg [oO 2 (.mv (.c (.int .i64 2)))]) (.ret)) (.skip))))))))) (.seq (.reg [oO 2 (.mv (.c (.int .i64 (-1))))]) (.ret))),res := [(2,none)] }
def c196 : VF := { code := .seq (.reg [oO 0 (.mv (.c (.nilm)))]) (.seq (.reg [oO 1 (.mm),nO (.mu (some .i64) (.t 1) (.c (.int .i64 3)) (.c (.str [97,110,100]))),nO (.mu (some .i64) (.t 1) (.c (.int .i64 4)) (.c (.str [111,114]))),nO (.mu (some .i64) (.t 1) (.c (.int .i64 8)) (.c (.str [115,105,110,99,101]))),mO 2 1,mO 0 2]) (.ret)),res := [(0,none)] }
def c197 : VF := { code := .seq (.reg [oO 4 (.mv (.c (.bool false)))]) (.seq (.reg [mO 5 0,mO 6 1,oO 7 (.call 245 [(.t 5),(.t 6)]),oO 8 (.bin .geq (.t 7) (.c (.int .i64 0))),mO 4 8]) (.ret)),res := [(4,none)] }
def c198 : VF := { code := .seq (.reg [oO 1 (.bx (.t 0) []),oO 2 (.mv (.c (.bool false)))]) (.seq (.reg [oO 3 (.ld true 4 (.t 1)),oO 4 (.call 199 [(.t 3)]),oO 5 (.not (.t 4)),mO 2 5]) (.ret)),res := [(2,none)] }
def c199 : VF := { code := .seq (.reg [oO 1 (.bx (.t 0) []),oO 2 (.mv (.c (.bool false)))]) (.seq (.seq (.reg [oO 3 (.fa 0 (.t 1)),oO 4 (.ld false 1 (.t 3)),oO 5 (.bin .eql (.t 4) (.c (.str [])))]) (.cond (.t 5) (.seq (.reg [oO 6 (.fa 1 (.t 1)),oO 7 (.ld true 3 (.t 6)),oO 8 (.call 171 [(.t 7)]),oO 9 (.bin .eql (.t 8) (.c (.int .i64 0))),mO 2 9]) (.ret)) (.skip))) (.seq (.reg [oO 10 (.fa 0 (.t 1)),oO 11 (.ld false 1 (.t 10)),oO 12 (.call 170 [(.t 11)]),mO 13 12,⟨some 14,.fa 1 (.t 1),some (13,true)⟩,⟨some 15,.ld true 3 (.t 14),some (13,true)⟩,⟨some 16,.bd [.int .i64 0,.int .i64 0,.str []] [],some (13,true)⟩,⟨some 17,.eqs false [1,1,2] (.t 15) (.t 16),some (13,true)⟩,oO 18 (.pick (.t 13) (.t 17) (.c (.bool false))),mO 2 18]) (.ret))),res := [(2,none)] }
def c200 : VF := { code := .seq (.reg [oO 2 (.nw 1),oO 3 (.nw 1),oO 4 (.mv (.c (.bool false)))]) (.seq (.seq (.reg [mO 7 0,oO 8 (.len false (.t 7)),oO 9 (.mv (.c (.int .i64 0)))]) (.block 0 (.loop [2,3,7,8,9] (.seq (.reg [oO 10 (.bin .lss (.t 9) (.t 8))]) (.seq (.cond (.t 10) (.skip) (.exit 0)) (.seq (.block 1 (.seq (.reg [mO 11 9,oO 12 (.ia none 5 (.t 7) (.t 9)),oO 13 (.ld true 5 (.t 12)),oO 6 (.al [.int .i64 0,.str [],.sl .ex 4 [],.int .i64 0,.int .i64 0] []),mO 5 11,nO (.st true 5 (.t 6) (.t 13))]) (.seq (.reg [oO 14 (.fa 0 (.t 6)),oO 15 (.ld false 1 (.t 14)),oO 16 (.call 195 [(.t 15)])]) (.block 2 (.seq (.reg [oO 18 (.bin .eql (.t 16) (.c (.int .i64 0))),mO 17 18]) (.cond (.t 17) (.seq (.seq (.reg [oO 19 (.fa 3 (.t 6)),oO 20 (.ld false 1 (.t 19)),oO 21 (.bin .neq (.t 20) (.c (.int .i64 0))),mO 22 21,⟨some 23,.fa 4 (.t 6),some (22,false)⟩,⟨some 24,.ld false 1 (.t 23),some (22,false)⟩,⟨some 25,.bin .neq (.t 24) (.c (.int .i64 0)),some (22,false)⟩,oO 26 (.pick (.t 22) (.c (.bool true)) (.t 25)),mO 27 26,⟨some 28,.fa 1 (.t 6),some (27,false)⟩,⟨some 29,.ld true 2 (.t 28),some (27,false)⟩,⟨some 30,.call 130 [(.t 29)],some (27,false)⟩,⟨some 31,.bin .neq (.t 30) (.c (.int .i64 0)),some (27,false)⟩,oO 32 (.pick (.t 27) (.c (.bool true)) (.t 31))]) (.cond (.t 32) (.seq (.reg [oO 2 (.nw 1),oO 3 (.nw 1),oO 4 (.mv (.c (.bool false)))]) (.ret)) (.skip))) (.reg [mO 33 2,mO 34 5,oO 35 (.bl 1 [(.t 34)]),oO 36 (.app 1 (.t 33) (.t 35)),mO 37 3,oO 38 (.bl 1 [(.c (.int .i64 1))]),oO 39 (.app 1 (.t 37) (.t 38)),mO 2 36,mO 3 39])) (.seq (.reg [oO 41 (.bin .eql (.t 16) (.c (.int .i64 1))),mO 40 41]) (.cond (.t 40) (.seq (.seq (.reg [mO 42 5,oO 43 (.bin .lss (.t 42) (.c (.int .i64 1))),mO 44 43,⟨some 45,.fa 3 (.t 6),some (44,false)⟩,⟨some 46,.ld false 1 (.t 45),some (44,false)⟩,⟨some 47,.mv (.t 5),some (44,false)⟩,⟨some 48,.bin .sub (.t 47) (.c (.int .i64 1)),some (44,false)⟩,⟨some 49,.bin .neq (.t 46) (.t 48),some (44,false)⟩,oO 50 (.pick (.t 44) (.c (.bool true)) (.t 49)),mO 51 50,⟨some 52,.fa 4 (.t 6),some (51,false)⟩,⟨some 53,.ld false 1 (.t 52),some (51,false)⟩,⟨some 54,.bin .neq (.t 53) (.c (.int .i64 0)),some (51,false)⟩,oO 55 (.pick (.t 51) (.c (.bool true)) (.t 54)),mO 56 55,⟨some 57,.fa 1 (.t 6),some (56,false)⟩,⟨some 58,.ld true 2 (.t 57),some (56,false)⟩,⟨some 59,.call 246 [(.t 58)],some (56,false)⟩,⟨some 60,.not (.t 59),some (56,false)⟩,oO 61 (.pick (.t 56) (.c (.bool true)) (.t 60))]) (.cond (.t 61) (.seq (.reg [oO 2 (.nw 1),oO 3 (.nw 1),oO 4 (.mv (.c (.bool false)))]) (.ret)) (.skip))) (.drw [⟨0,[],mO 62 2,false,[]⟩,⟨1,[],mO 63 2,false,[]⟩,⟨2,[],mO 64 5,false,[]⟩,⟨3,[2],oO 65 (.bin .sub (.t 64) (.c (.int .i64 1))),false,[]⟩,⟨4,[1,2,3],oO 66 (.ia none 1 (.t 63) (.t 65)),false,[]⟩,⟨5,[1,2,3,4],oO 67 (.ld false 1 (.t 66)),false,[]⟩,⟨6,[1,2,3,4,5],oO 68 (.bl 1 [(.t 67)]),false,[]⟩,⟨8,[],mO 70 3,false,[]⟩,⟨9,[],mO 71 3,false,[]⟩,⟨10,[],mO 72 5,false,[]⟩,⟨11,[10],oO 73 (.bin .sub (.t 72) (.c (.int .i64 1))),false,[]⟩,⟨12,[9,10,11],oO 74 (.ia none 1 (.t 71) (.t 73)),false,[]⟩,⟨13,[9,10,11,12],oO 75 (.ld false 1 (.t 74)),false,[]⟩,⟨14,[9,10,11,12,13],oO 76 (.bin .add (.t 75) (.c (.int .i64 1))),false,[]⟩,⟨15,[9,10,11,12,13,14],oO 77 (.bl 1 [(.t 76)]),false,[]⟩,⟨7,(rO 7),oO 69 (.app 1 (.t 62) (.t 68)),true,[12,13]⟩,⟨16,(rO 16),oO 78 (.app 1 (.t 70) (.t 77)),true,[]⟩,⟨17,(rO 17),mO 2 69,false,[]⟩,⟨18,(rO 18),mO 3 78,false,[]⟩])) (.seq (.reg [oO 80 (.bin .eql (.t 16) (.c (.int .i64 2))),mO 79 80]) (.cond (.t 79) (.seq (.seq (.drw [⟨0,[],mO 81 5,false,[]⟩,⟨1,[0],oO 82 (.bin .lss (.t 81) (.c (.int .i64 1))),false,[]⟩,⟨2,[0,1],mO 83 82,false,[]⟩,⟨3,[0,1,2],⟨some 84,.fa 4 (.t 6),some (83,false)⟩,false,[]⟩,⟨4,(rO 4),⟨some 85,.ld false 1 (.t 84),some (83,false)⟩,false,[]⟩,⟨5,[0,1,2],⟨some 86,.mv (.t 5),some (83,false)⟩,false,[]⟩,⟨6,[0,1,2,5],⟨some 87,.bin .sub (.t 86) (.c (.int .i64 1)),some (83,false)⟩,false,[]⟩,⟨7,(rO 7),⟨some 88,.bin .neq (.t 85) (.t 87),some (83,false)⟩,false,[]⟩,⟨8,(rO 8),oO 89 (.pick (.t 83) (.c (.bool true)) (.t 88)),false,[]⟩,⟨9,(rO 9),mO 90 89,false,[]⟩,⟨10,(rO 10),⟨some 91,.mv (.t 2),some (90,false)⟩,false,[]⟩,⟨11,(rO 10),⟨some 92,.mv (.t 5),some (90,false)⟩,false,[]⟩,⟨12,[0,1,2,3,4,5,6,7,8,9,11],⟨some 93,.bin .sub (.t 92) (.c (.int .i64 1)),some (90,false)⟩,false,[]⟩,⟨13,(rO 13),⟨some 94,.ia none 1 (.t 91) (.t 93),some (90,false)⟩,false,[]⟩,⟨14,(rO 14),⟨some 95,.ld false 1 (.t 94),some (90,false)⟩,false,[]⟩,⟨15,(rO 15),⟨some 96,.bin .lss (.t 95) (.c (.int .i64 1)),some (90,false)⟩,false,[]⟩,⟨16,(rO 16),oO 97 (.pick (.t 90) (.c (.bool true)) (.t 96)),false,[]⟩,⟨17,(rO 17),mO 98 97,false,[]⟩,⟨18,(rO 18),⟨some 99,.fa 3 (.t 6),some (98,false)⟩,false,[]⟩,⟨19,(rO 19),⟨some 100,.ld false 1 (.t 99),some (98,false)⟩,false,[]⟩,⟨20,(rO 18),⟨some 101,.mv (.t 2),some (98,false)⟩,false,[]⟩,⟨21,(rO 18),⟨some 102,.mv (.t 5),some (98,false)⟩,false,[]⟩,⟨22,[0,1,2,3,4,5,6,7,8,9,10,11,12,13,14,15,16,17,21],⟨some 103,.bin .sub (.t 102) (.c (.int .i64 1)),some (98,false)⟩,false,[]⟩,⟨23,[0,1,2,3,4,5,6,7,8,9,10,11,12,13,14,15,16,17,20,21,22],⟨some 104,.ia none 1 (.t 101) (.t 103),some (98,false)⟩,false,[]⟩,⟨24,[0,1,2,3,4,5,6,7,8,9,10,11,12,13,14,15,16,17,20,21,22,23],⟨some 105,.ld false 1 (.t 104),some (98,false)⟩,false,[]⟩,⟨25,[0,1,2,3,4,5,6,7,8,9,10,11,12,13,14,15,16,17,20,21,22,23,24],⟨some 106,.bin .sub (.t 105) (.c (.int .i64 1)),some (98,false)⟩,false,[]⟩,⟨26,(rO 26),⟨some 107,.bin .neq (.t 100) (.t 106),some (98,false)⟩,false,[]⟩,⟨27,(rO 27),oO 108 (.pick (.t 98) (.c (.bool true)) (.t 107)),false,[]⟩,⟨28,(rO 28),mO 109 108,false,[]⟩,⟨29,(rO 29),⟨some 110,.fa 1 (.t 6),some (109,false)⟩,false,[]⟩,⟨30,(rO 30),⟨some 111,.ld true 2 (.t 110),some (109,false)⟩,false,[]⟩,⟨31,(rO 31),⟨some 112,.call 246 [(.t 111)],some (109,false)⟩,false,[]⟩,⟨32,(rO 32),⟨some 113,.not (.t 112),some (109,false)⟩,false,[]⟩,⟨33,(rO 33),oO 114 (.pick (.t 109) (.c (.bool true)) (.t 113)),false,[]⟩]) (.cond (.t 114) (.seq (.reg [oO 2 (.nw 1),oO 3 (.nw 1),oO 4 (.mv (.c (.bool false)))]) (.ret)) (.skip))) (.drw [⟨0,[],mO 115 2,false,[]⟩,⟨1,[],mO 116 2,false,[]⟩,⟨2,[],oO 117 (.fa 3 (.t 6)),false,[]⟩,⟨3,[2],oO 118 (.ld false 1 (.t 117)),false,[]⟩,⟨4,[1,2,3],oO 119 (.ia none 1 (.t 116) (.t 118)),false,[]⟩,⟨5,[1,2,3,4],oO 120 (.ld false 1 (.t 119)),false,[]⟩,⟨6,[1,2,3,4,5],oO 121 (.bl 1 [(.t 120)]),false,[]⟩,⟨8,[],mO 123 3,false,[]⟩,⟨9,[],mO 124 3,false,[]⟩,⟨10,[],oO 125 (.fa 3 (.t 6)),false,[]⟩,⟨11,[10],oO 126 (.ld false 1 (.t 125)),false,[]⟩,⟨12,[9,10,11],oO 127 (.ia none 1 (.t 124) (.t 126)),false,[]⟩,⟨13,[9,10,11,12],oO 128 (.ld false 1 (.t 127)),false,[]⟩,⟨14,[],mO 129 3,false,[]⟩,⟨15,[],oO 130 (.fa 4 (.t 6)),false,[]⟩,⟨16,[15],oO 131 (.ld false 1 (.t 130)),false,[]⟩,⟨17,[14,15,16],oO 132 (.ia none 1 (.t 129) (.t 131)),false,[]⟩,⟨18,[14,15,16,17],oO 133 (.ld false 1 (.t 132)),false,[]⟩,⟨19,[9,10,11,12,13,14,15,16,17,18],oO 134 (.mx [(.t 128),(.t 133)]),false,[]⟩,⟨20,[9,10,11,12,13,14,15,16,17,18,19],oO 135 (.bin .add (.t 134) (.c (.int .i64 1))),false,[]⟩,⟨21,[9,10,11,12,13,14,15,16,17,18,19,20],oO 136 (.bl 1 [(.t 135)]),false,[]⟩,⟨7,(rO 7),oO 122 (.app 1 (.t 115) (.t 121)),true,[11,12,13,16,17,18]⟩,⟨22,(rO 22),oO 137 (.app 1 (.t 123) (.t 136)),true,[]⟩,⟨23,(rO 23),mO 2 122,false,[]⟩,⟨24,(rO 24),mO 3 137,false,[]⟩])) (.seq (.reg [oO 2 (.nw 1),oO 3 (.nw 1),oO 4 (.mv (.c (.bool false)))]) (.ret)))))))))))) (.reg [oO 138 (.bin .add (.t 9) (.c (.int .i64 1))),mO 9 138]))))))) (.seq (.reg [mO 139 2,mO 140 3,mO 2 139,mO 3 140,oO 4 (.mv (.c (.bool true)))]) (.ret))),res := [(2,none),(3,none),(4,none)] }
def c201 : VF := { code := .seq (.reg [oO 4 (.mv (.c (.int .i64 0)))]) (.seq (.seq (.reg [mO 6 0,oO 7 (.len false (.t 6)),oO 8 (.mv (.c (.int .i64 0)))]) (.block 0 (.loop [0,1,7,8] (.seq (.reg [oO 9 (.bin .lss (.t 8) (.t 7))]) (.seq (.cond (.t 9) (.skip) (.exit 0)) (.seq (.block 1 (.seq (.reg [mO 10 8,mO 5 10]) (.seq (.reg [mO 11 1,mO 12 0,mO 13 5,oO 14 (.ia none 4 (.t 12) (.t 13)),oO 15 (.ld true 4 (.t 14)),oO 16 (.cv (.t 11) [(.t 15)])]) (.cond (.t 16) (.seq (.reg [mO 17 5,mO 4 17]) (.ret)) (.skip))))) (.reg [oO 18 (.bin .add (.t 8) (.c (.int .i64 1))),mO 8 18]))))))) (.seq (.reg [oO 4 (.mv (.c (.int .i64 (-1))))]) (.ret))),res := [(4,none)] }
def c202 : VF := { code := .seq (.reg [oO 4 (.mv (.c (.int .i64 0)))]) (.seq (.seq (.reg [mO 6 0,oO 7 (.len false (.t 6)),oO 8 (.mv (.c (.int .i64 0)))]) (.block 0 (.loop [0,1,7,8] (.seq (.reg [oO 9 (.bin .lss (.t 8) (.t 7))]) (.seq (.cond (.t 9) (.skip) (.exit 0)) (.seq (.block 1 (.seq (.reg [mO 10 8,mO 5 10]) (.seq (.reg [mO 11 1,mO 12 0,mO 13 5,oO 14 (.ia none 4 (.t 12) (.t 13)),oO 15 (.ld true 4 (.t 14)),oO 16 (.cv (.t 11) [(.t 15)])]) (.cond (.t 16) (.seq (.reg [mO 17 5,mO 4 17]) (.ret)) (.skip))))) (.reg [oO 18 (.bin .add (.t 8) (.c (.int .i64 1))),mO 8 18]))))))) (.seq (.reg [oO 4 (.mv (.c (.int .i64 (-1))))]) (.ret))),res := [(4,none)] }
def c203 : VF := { code := .seq (.reg [oO 4 (.mv (.c (.bool false)))]) (.seq (.reg [mO 5 0,mO 6 1,oO 7 (.call 247 [(.t 5),(.t 6)]),oO 8 (.bin .geq (.t 7) (.c (.int .i64 0))),mO 4 8]) (.ret)),res := [(4,none)] }
def c204 : VF := { code := .seq (.reg [oO 4 (.nw 6)]) (.seq (.reg [mO 8 0,mO 9 1,oO 10 (.call 248 [(.t 8),(.t 9)]),mO 5 10]) (.seq (.seq (.reg [mO 11 5,oO 12 (.bin .eql (.t 11) (.c (.int .i64 (-1))))]) (.cond (.t 12) (.seq (.reg [mO 13 0,mO 4 13]) (.ret)) (.skip))) (.seq (.seq (.reg [mO 14 5,oO 15 (.bin .add (.t 14) (.c (.int .i64 1))),mO 6 15]) (.block 0 (.loop [0,1,5,6] (.seq (.seq (.reg [mO 16 6,mO 17 0,oO 18 (.len false (.t 17)),oO 19 (.bin .lss (.t 16) (.t 18))]) (.cond (.t 19) (.skip) (.exit 0))) (.seq (.block 1 (.seq (.reg [mO 22 0,mO 23 6,oO 24 (.ia none 6 (.t 22) (.t 23)),oO 25 (.ld true 6 (.t 24)),oO 7 (.al [.int .i64 0,.str [],.sl .ex 4 [],.int .i64 0,.sl .ex 5 [],.sl .ex 5 []] []),nO (.st true 6 (.t 7) (.t 25))]) (.seq (.reg [mO 26 1,oO 27 (.ld true 6 (.t 7)),oO 28 (.cv (.t 26) [(.t 27)]),oO 29 (.not (.t 28))]) (.cond (.t 29) (.seq (.reg [mO 30 0,mO 31 5,oO 32 (.ld true 6 (.t 7)),oO 33 (.ia none 6 (.t 30) (.t 31)),nO (.st true 6 (.t 33) (.t 32))]) (.reg [mO 34 5,oO 35 (.bin .add (.t 34) (.c (.int .i64 1))),mO 5 35])) (.skip))))) (.reg [mO 20 6,oO 21 (.bin .add (.t 20) (.c (.int .i64 1))),mO 6 21])))))) (.seq (.reg [mO 36 0,mO 37 5,oO 38 (.cut false 6 (.t 36) (some (.t 37)) none none),nO (.clr [.int .i64 0,.str [],.sl .ex 4 [],.int .i64 0,.sl .ex 5 [],.sl .ex 5 []] (.t 38))]) (.seq (.reg [mO 39 0,mO 40 5,oO 41 (.cut false 6 (.t 39) none (some (.t 40)) none),mO 4 41]) (.ret)))))),res := [(4,none)],keepR := true }
def c207 : VF := { code := .seq (.reg [oO 4 (.mv (.c (.int .i64 0)))]) (.seq (.seq (.reg [mO 6 0,oO 7 (.len false (.t 6)),oO 8 (.mv (.c (.int .i64 0)))]) (.block 0 (.loop [0,1,7,8] (.seq (.reg [oO 9 (.bin .lss (.t 8) (.t 7))]) (.seq (.cond (.t 9) (.skip) (.exit 0)) (.seq (.block 1 (.seq (.reg [mO 10 8,mO 5 10]) (.seq (.reg [mO 11 1,mO 12 0,mO 13 5,oO 14 (.ia none 1 (.t 12) (.t 13)),oO 15 (.ld false 1 (.t 14)),oO 16 (.bin .eql (.t 11) (.t 15))]) (.cond (.t 16) (.seq (.reg [mO 17 5,mO 4 17]) (.ret)) (.skip))))) (.reg [oO 18 (.bin .add (.t 8) (.c (.int .i64 1))),mO 8 18]))))))) (.seq (.reg [oO 4 (.mv (.c (.int .i64 (-1))))]) (.ret))),res := [(4,none)] }
def c208 : VF := { code := .seq (.reg [oO 4 (.mv (.c (.int .i64 0)))]) (.seq (.seq (.reg [mO 6 0,oO 7 (.len false (.t 6)),oO 8 (.mv (.c (.int .i64 0)))]) (.block 0 (.loop [0,1,7,8] (.seq (.reg [oO 9 (.bin .lss (.t 8) (.t 7))]) (.seq (.cond (.t 9) (.skip) (.exit 0)) (.seq (.block 1 (.seq (.reg [mO 10 8,mO 5 10]) (.seq (.reg [mO 11 1,mO 12 0,mO 13 5,oO 14 (.ia none 1 (.t 12) (.t 13)),oO 15 (.ld false 1 (.t 14)),oO 16 (.cv (.t 11) [(.t 15)])]) (.cond (.t 16) (.seq (.reg [mO 17 5,mO 4 17]) (.ret)) (.skip))))) (.reg [oO 18 (.bin .add (.t 8) (.c (.int .i64 1))),mO 8 18]))))))) (.seq (.reg [oO 4 (.mv (.c (.int .i64 (-1))))]) (.ret))),res := [(4,none)] }
def c209 : VF := { code := .seq (.reg [oO 3 (.bx (.t 0) []),oO 6 (.mv (.c (.bool false)))]) (.seq (.drw [⟨0,[],oO 7 (.ld true 1 (.t 3)),false,[]⟩,⟨1,[],mO 8 1,false,[]⟩,⟨2,[0,1],oO 9 (.call 89 [(.t 7),(.t 8)]),false,[]⟩,⟨3,[],oO 10 (.ld true 1 (.t 3)),false,[]⟩,⟨4,[],mO 11 2,false,[]⟩,⟨5,(rO 5),oO 12 (.call 89 [(.t 10),(.t 11)]),false,[]⟩,⟨6,(rO 6),oO 13 (.call 85 [(.t 9),(.t 12)]),false,[]⟩,⟨7,(rO 7),mO 6 13,false,[]⟩]) (.ret)),res := [(6,none)] }
def c210 : VF := { code := .seq (.reg [oO 8 (.mv (.c (.bool true)))]) (.seq (.reg [oO 9 (.mv (.c (.bool true)))]) (.block 0 (.loop [0,1,2,3,8,9] (.block 1 (.seq (.reg [mO 19 2,mO 20 1,oO 21 (.bin .sub (.t 19) (.t 20)),mO 10 21]) (.seq (.seq (.reg [mO 22 10,oO 23 (.bin .leq (.t 22) (.c (.int .i64 12)))]) (.cond (.t 23) (.seq (.reg [mO 24 0,mO 25 1,mO 26 2,oO 27 (.call 249 [(.t 24),(.t 25),(.t 26)])]) (.ret)) (.skip))) (.seq (.seq (.reg [mO 28 3,oO 29 (.bin .eql (.t 28) (.c (.int .i64 0)))]) (.cond (.t 29) (.seq (.reg [mO 30 0,mO 31 1,mO 32 2,oO 33 (.call 250 [(.t 30),(.t 31),(.t 32)])]) (.ret)) (.skip))) (.seq (.seq (.reg [mO 34 8,oO 35 (.not (.t 34))]) (.cond (.t 35) (.seq (.reg [mO 36 0,mO 37 1,mO 38 2,oO 39 (.call 251 [(.t 36),(.t 37),(.t 38)])]) (.reg [mO 40 3,oO 41 (.bin .sub (.t 40) (.c (.int .i64 1))),mO 3 41])) (.skip))) (.seq (.reg [mO 43 0,mO 44 1,mO 45 2,oO 46 (.call 252 [(.t 43),(.t 44),(.t 45)]),mO 42 46,oO 47 (.ex (.t 42) 0),oO 48 (.ex (.t 42) 1),mO 11 47,mO 12 48]) (.seq (.seq (.reg [mO 49 12,oO 50 (.bin .eql (.t 49) (.c (.int .i64 2)))]) (.cond (.t 50) (.seq (.reg [mO 51 0,mO 52 1,mO 53 2,oO 54 (.call 253 [(.t 51),(.t 52),(.t 53)])]) (.seq (.reg [mO 55 2,oO 56 (.bin .sub (.t 55) (.c (.int .i64 1))),mO 57 11,mO 58 1,oO 59 (.bin .sub (.t 57) (.t 58)),oO 60 (.bin .sub (.t 56) (.t 59)),mO 11 60]) (.reg [oO 12 (.mv (.c (.int .i64 1)))]))) (.skip))) (.seq (.seq (.reg [mO 61 8,mO 62 61,⟨some 63,.mv (.t 9),some (62,true)⟩,oO 64 (.pick (.t 62) (.t 63) (.c (.bool false))),mO 65 64,⟨some 66,.mv (.t 12),some (65,true)⟩,⟨some 67,.bin .eql (.t 66) (.c (.int .i64 1)),some (65,true)⟩,oO 68 (.pick (.t 65) (.t 67) (.c (.bool false)))]) (.cond (.t 68) (.seq (.reg [mO 69 0,mO 70 1,mO 71 2,oO 72 (.call 254 [(.t 69),(.t 70),(.t 71)])]) (.cond (.t 72) (.ret) (.skip))) (.skip))) (.seq (.seq (.drw [⟨0,[],mO 73 1,false,[]⟩,⟨1,[0],oO 74 (.bin .gtr (.t 73) (.c (.int .i64 0))),false,[]⟩,⟨2,[0,1],mO 75 74,false,[]⟩,⟨3,[0,1,2],⟨some 76,.mv (.t 0),some (75,true)⟩,false,[]⟩,⟨4,[0,1,2],⟨some 77,.mv (.t 1),some (75,true)⟩,false,[]⟩,⟨5,[0,1,2,4],⟨some 78,.bin .sub (.t 77) (.c (.int .i64 1)),some (75,true)⟩,false,[]⟩,⟨6,(rO 6),⟨some 79,.ia none 1 (.t 76) (.t 78),some (75,true)⟩,false,[]⟩,⟨7,(rO 7),⟨some 80,.ld false 1 (.t 79),some (75,true)⟩,false,[]⟩,⟨8,[0,1,2],⟨some 81,.mv (.t 0),some (75,true)⟩,false,[]⟩,⟨9,[0,1,2],⟨some 82,.mv (.t 11),some (75,true)⟩,false,[]⟩,⟨10,[0,1,2,8,9],⟨some 83,.ia none 1 (.t 81) (.t 82),some (75,true)⟩,false,[]⟩,⟨11,[0,1,2,8,9,10],⟨some 84,.ld false 1 (.t 83),some (75,true)⟩,false,[]⟩,⟨12,(rO 12),⟨some 85,.call 255 [(.t 80),(.t 84)],some (75,true)⟩,false,[]⟩,⟨13,(rO 13),⟨some 86,.not (.t 85),some (75,true)⟩,false,[]⟩,⟨14,(rO 14),oO 87 (.pick (.t 75) (.t 86) (.c (.bool false))),false,[]⟩]) (.cond (.t 87) (.seq (.reg [mO 88 0,mO 89 1,mO 90 2,mO 91 11,oO 92 (.call 256 [(.t 88),(.t 89),(.t 90),(.t 91)]),mO 13 92]) (.seq (.reg [mO 93 13,mO 1 93]) (.exit 1))) (.skip))) (.seq (.reg [mO 95 0,mO 96 1,mO 97 2,mO 98 11,oO 99 (.call 257 [(.t 95),(.t 96),(.t 97),(.t 98)]),mO 94 99,oO 100 (.ex (.t 94) 0),oO 101 (.ex (.t 94) 1),mO 14 100,mO 15 101]) (.seq (.reg [mO 102 15,mO 9 102]) (.seq (.reg [mO 103 14,mO 104 1,oO 105 (.bin .sub (.t 103) (.t 104)),mO 106 2,mO 107 14,oO 108 (.bin .sub (.t 106) (.t 107)),mO 16 105,mO 17 108]) (.seq (.reg [mO 109 10,oO 110 (.bin .quo (.t 109) (.c (.int .i64 8))),mO 18 110]) (.seq (.reg [mO 111 16,mO 112 17,oO 113 (.bin .lss (.t 111) (.t 112))]) (.cond (.t 113) (.seq (.reg [mO 114 16,mO 115 18,oO 116 (.bin .geq (.t 114) (.t 115)),mO 8 116]) (.seq (.reg [mO 117 0,mO 118 1,mO 119 14,mO 120 3,oO 121 (.call 210 [(.t 117),(.t 118),(.t 119),(.t 120)])]) (.reg [mO 122 14,oO 123 (.bin .add (.t 122) (.c (.int .i64 1))),mO 1 123]))) (.seq (.reg [mO 124 17,mO 125 18,oO 126 (.bin .geq (.t 124) (.t 125)),mO 8 126]) (.seq (.reg [mO 127 0,mO 128 14,oO 129 (.bin .add (.t 128) (.c (.int .i64 1))),mO 130 2,mO 131 3,oO 132 (.call 210 [(.t 127),(.t 129),(.t 130),(.t 131)])]) (.reg [mO 133 14,mO 2 133]))))))))))))))))))))),res := [] }
def c211 : VF := { code := .seq (.reg [oO 2 (.mv (.c (.int .i64 0)))]) (.seq (.cond (.c (.bool false)) (.seq (.reg [mO 3 0,oO 4 (.wrp .u32 (.t 3)),oO 5 (.call 258 [(.t 4)]),mO 2 5]) (.ret)) (.skip)) (.seq (.reg [mO 6 0,oO 7 (.call 259 [(.t 6)]),mO 2 7]) (.ret))),res := [(2,none)] }
def c212 : VF := { code := .seq (.reg [oO 4 (.nw 1)]) (.seq (.seq (.reg [mO 5 0,mO 6 1,oO 7 (.call 151 [(.t 5),(.t 6)]),oO 8 (.not (.t 7))]) (.cond (.t 8) (.seq (.reg [oO 4 (.nw 1)]) (.ret)) (.skip))) (.seq (.reg [mO 9 0,oO 10 (.bd [.sl .ex 5 []] [(0,1,(.t 9))]),mO 11 1,oO 12 (.call 89 [(.t 10),(.t 11)]),mO 4 12]) (.ret))),res := [(4,none)] }
def c213 : VF := { code := .seq (.reg [oO 2 (.nw 4)]) (.seq (.reg [oO 3 (.nw 4)]) (.seq (.seq (.reg [mO 6 0,oO 7 (.len false (.t 6)),oO 8 (.mv (.c (.int .i64 0)))]) (.block 0 (.loop [3,6,7,8] (.seq (.reg [oO 9 (.bin .lss (.t 8) (.t 7))]) (.seq (.cond (.t 9) (.skip) (.exit 0)) (.seq (.block 1 (.seq (.reg [oO 10 (.ia none 1 (.t 6) (.t 8)),oO 11 (.ld false 1 (.t 10)),mO 5 11]) (.reg [mO 12 3,mO 13 5,oO 14 (.bd [.str [],.int .i64 0,.int .i64 0,.str []] [(0,1,(.t 13))]),oO 15 (.bl 4 [(.t 14)]),oO 16 (.app 4 (.t 12) (.t 15)),mO 3 16]))) (.reg [oO 17 (.bin .add (.t 8) (.c (.int .i64 1))),mO 8 17]))))))) (.seq (.reg [mO 18 3,mO 2 18]) (.ret)))),res := [(2,none)] }
def c214 : VF := { code := .seq (.reg [oO 2 (.nw 1)]) (.seq (.reg [oO 3 (.nw 1)]) (.seq (.seq (.reg [mO 6 0,oO 7 (.len false (.t 6)),oO 8 (.mv (.c (.int .i64 0)))]) (.block 0 (.loop [3,6,7,8] (.seq (.reg [oO 9 (.bin .lss (.t 8) (.t 7))]) (.seq (.cond (.t 9) (.skip) (.exit 0)) (.seq (.block 1 (.seq (.reg [oO 10 (.ia none 1 (.t 6) (.t 8)),oO 11 (.ld false 1 (.t 10)),mO 5 11]) (.reg [mO 12 3,mO 13 5,oO 14 (.bd [.int .i64 0,.str [],.int .i64 0,.int .i64 0,.str []] [(0,1,(.c (.int .i64 1))),(1,1,(.t 13))]),oO 15 (.bl 5 [(.t 14)]),oO 16 (.bl 1 [(.t 15)]),oO 17 (.app 1 (.t 12) (.t 16)),mO 3 17]))) (.reg [oO 18 (.bin .add (.t 8) (.c (.int .i64 1))),mO 8 18]))))))) (.seq (.reg [mO 19 3,mO 2 19]) (.ret)))),res := [(2,none)] }
def c215 : VF := { code := .seq (.reg [oO 4 (.nm 6)]) (.seq (.seq (.reg [mO 5 1,oO 6 (.bin .lss (.t 5) (.c (.int .i64 0)))]) (.cond (.t 6) (.reg [oO 7 (.mi 9 (.c (.str [99,97,110,110,111,116,32,98,101,32,110,101,103,97,116,105,118,101]))),nO (.bad)]) (.skip))) (.seq (.seq (.reg [mO 8 1,mO 9 0,oO 10 (.cap (.t 9)),mO 11 0,oO 12 (.len false (.t 11)),oO 13 (.bin .sub (.t 10) (.t 12)),oO 14 (.bin .sub (.t 8) (.t 13)),mO 1 14]) (.seq (.reg [mO 15 1,oO 16 (.bin .gtr (.t 15) (.c (.int .i64 0)))]) (.cond (.t 16) (.reg [mO 17 0,mO 18 0,oO 19 (.cap (.t 18)),oO 20 (.cut false 6 (.t 17) none (some (.t 19)) none),mO 21 1,oO 22 (.az true [.int .i64 0,.str [],.sl .ex 4 [],.int .i64 0,.sl .ex 5 [],.sl .ex 5 []] (.t 20) (.t 21)),mO 23 0,oO 24 (.len false (.t 23)),oO 25 (.cut false 6 (.t 22) none (some (.t 24)) none),mO 0 25]) (.skip)))) (.seq (.reg [mO 26 0,mO 4 26]) (.ret)))),res := [(4,none)],keepR := true }
def c217 : VF := { code := .seq (.reg [oO 1 (.bx (.t 0) []),oO 2 (.mv (.c (.bool false)))]) (.seq (.reg [oO 3 (.ld true 2 (.t 1)),oO 4 (.call 166 [(.t 3)]),oO 5 (.bin .neq (.t 4) (.c (.int .i64 0))),mO 2 5]) (.ret)),res := [(2,none)] }
def c218 : VF := { code := .seq (.reg [oO 2 (.bx (.t 0) []),oO 3 (.bx (.t 1) []),oO 4 (.mv (.c (.int .i64 0)))]) (.seq (.drw [⟨0,[],oO 5 (.fa 0 (.t 2)),false,[]⟩,⟨1,[0],oO 6 (.ld false 1 (.t 5)),false,[]⟩,⟨2,[],oO 7 (.fa 0 (.t 3)),false,[]⟩,⟨3,[2],oO 8 (.ld false 1 (.t 7)),false,[]⟩,⟨4,(rO 4),oO 9 (.call 261 [(.t 6),(.t 8)]),false,[]⟩,⟨5,[],oO 10 (.fa 1 (.t 2)),false,[]⟩,⟨6,[5],oO 11 (.ld false 1 (.t 10)),false,[]⟩,⟨7,[5,6],oO 12 (.len false (.t 11)),false,[]⟩,⟨8,[],oO 13 (.fa 1 (.t 3)),false,[]⟩,⟨9,[8],oO 14 (.ld false 1 (.t 13)),false,[]⟩,⟨10,[8,9],oO 15 (.len false (.t 14)),false,[]⟩,⟨11,(rO 11),oO 16 (.call 262 [(.t 12),(.t 15)]),false,[]⟩,⟨12,[],oO 17 (.fa 1 (.t 2)),false,[]⟩,⟨13,[12],oO 18 (.ld false 1 (.t 17)),false,[]⟩,⟨14,[],oO 19 (.fa 1 (.t 3)),false,[]⟩,⟨15,[14],oO 20 (.ld false 1 (.t 19)),false,[]⟩,⟨16,(rO 16),oO 21 (.call 263 [(.t 18),(.t 20),(.c (.fn 264 [] []))]),false,[]⟩,⟨17,(rO 17),oO 22 (.bl 1 [(.t 9),(.t 16),(.t 21)]),false,[]⟩,⟨18,(rO 18),oO 23 (.call 260 [(.t 22)]),false,[]⟩,⟨19,(rO 19),mO 4 23,false,[]⟩]) (.ret)),res := [(4,none)] }
def c219 : VF := { code := .seq (.reg [oO 4 (.mv (.c (.int .i64 0)))]) (.seq (.seq (.reg [mO 6 0,oO 7 (.len false (.t 6)),oO 8 (.mv (.c (.int .i64 0)))]) (.block 0 (.loop [0,1,7,8] (.seq (.reg [oO 9 (.bin .lss (.t 8) (.t 7))]) (.seq (.cond (.t 9) (.skip) (.exit 0)) (.seq (.block 1 (.seq (.reg [mO 10 8,mO 5 10]) (.seq (.reg [mO 11 1,mO 12 0,mO 13 5,oO 14 (.ia none 2 (.t 12) (.t 13)),oO 15 (.ld true 2 (.t 14)),oO 16 (.cv (.t 11) [(.t 15)])]) (.cond (.t 16) (.seq (.reg [mO 17 5,mO 4 17]) (.ret)) (.skip))))) (.reg [oO 18 (.bin .add (.t 8) (.c (.int .i64 1))),mO 8 18]))))))) (.seq (.reg [oO 4 (.mv (.c (.int .i64 (-1))))]) (.ret))),res := [(4,none)] }
def c220 : VF := { code := .seq (.reg [oO 4 (.mv (.c (.bool false)))]) (.seq (.reg [mO 5 0,mO 6 1,oO 7 (.call 265 [(.t 5),(.t 6)]),oO 8 (.bin .geq (.t 7) (.c (.int .i64 0))),mO 4 8]) (.ret)),res := [(4,none)] }
def c221 : VF := { code := .seq (.reg [oO 1 (.bx (.t 0) []),oO 2 (.mv (.c (.bool false)))]) (.seq (.reg [oO 3 (.ld true 3 (.t 1)),oO 4 (.call 171 [(.t 3)]),oO 5 (.bin .neq (.t 4) (.c (.int .i64 0))),mO 2 5]) (.ret)),res := [(2,none)] }
def c222 : VF := { code := .seq (.reg [oO 2 (.nw 2),oO 3 (.mv (.c (.int .i64 0)))]) (.seq (.seq (.reg [mO 4 0,oO 5 (.call 164 [(.t 4),(.c (.fn 217 [] []))])]) (.cond (.t 5) (.seq (.reg [oO 2 (.nw 2),oO 3 (.mv (.c (.int .i64 1)))]) (.ret)) (.skip))) (.seq (.reg [mO 6 0,oO 7 (.bl 1 [(.t 6)]),oO 8 (.call 266 [(.t 7)]),mO 2 8,oO 3 (.mv (.c (.int .i64 0)))]) (.ret))),res := [(2,none),(3,none)] }
def c223 : VF := { code := .seq (.reg [oO 2 (.nm 2)]) (.seq (.reg [oO 3 (.mv (.c (.int .i64 0)))]) (.seq (.seq (.reg [mO 9 0,oO 10 (.len false (.t 9)),oO 11 (.mv (.c (.int .i64 0)))]) (.block 0 (.loop [0,3,9,10,11] (.seq (.reg [oO 12 (.bin .lss (.t 11) (.t 10))]) (.seq (.cond (.t 12) (.skip) (.exit 0)) (.seq (.block 1 (.seq (.reg [oO 13 (.ia none 1 (.t 9) (.t 11)),oO 14 (.ld false 1 (.t 13)),mO 5 14]) (.seq (.reg [mO 15 3,mO 16 5,oO 17 (.len false (.t 16)),oO 18 (.bin .add (.t 15) (.t 17)),mO 3 18]) (.seq (.reg [mO 19 3,oO 20 (.bin .lss (.t 19) (.c (.int .i64 0)))]) (.cond (.t 20) (.reg [oO 21 (.mi 9 (.c (.str [108,101,110,32,111,117,116,32,111,102,32,114,97,110,103,101]))),nO (.bad)]) (.skip)))))) (.reg [oO 22 (.bin .add (.t 11) (.c (.int .i64 1))),mO 11 22]))))))) (.seq (.reg [mO 23 3,oO 24 (.call 267 [(.c (.sl .ex 2 [])),(.t 23)]),mO 6 24]) (.seq (.seq (.reg [mO 25 0,oO 26 (.len false (.t 25)),oO 27 (.mv (.c (.int .i64 0)))]) (.block 2 (.loop [6,25,26,27] (.seq (.reg [oO 28 (.bin .lss (.t 27) (.t 26))]) (.seq (.cond (.t 28) (.skip) (.exit 2)) (.seq (.block 3 (.seq (.reg [oO 29 (.ia none 1 (.t 25) (.t 27)),oO 30 (.ld false 1 (.t 29)),mO 8 30]) (.reg [mO 31 6,mO 32 8,oO 33 (.am 2 (.t 31) (.t 32)),mO 6 33]))) (.reg [oO 34 (.bin .add (.t 27) (.c (.int .i64 1))),mO 27 34]))))))) (.seq (.reg [mO 35 6,mO 2 35]) (.ret)))))),res := [(2,none)] }
def c224 : VF := { code := .seq (.reg [oO 3 (.bx (.t 1) []),oO 4 (.mv (.c (.bool false)))]) (.seq (.reg [mO 5 0,oO 6 (.mf 268 [] [(.t 3)]),oO 7 (.call 164 [(.t 5),(.t 6)]),mO 4 7]) (.ret)),res := [(4,none)] }
def c225 : VF := { code := .seq (.reg [oO 4 (.bx (.t 0) []),oO 8 (.al [.int .i64 0,.sl .ex 2 []] []),oO 9 (.mv (.c (.bool false)))]) (.seq (.seq (.reg [mO 12 2,oO 13 (.len false (.t 12)),oO 14 (.mv (.c (.int .i64 0)))]) (.block 0 (.loop [1,3,4,8,9,12,13,14] (.seq (.reg [oO 15 (.bin .lss (.t 14) (.t 13))]) (.seq (.cond (.t 15) (.skip) (.exit 0)) (.seq (.block 1 (.seq (.reg [oO 16 (.ia none 2 (.t 12) (.t 14)),oO 17 (.ld true 2 (.t 16)),oO 11 (.al [.int .i64 0,.sl .ex 2 []] []),nO (.st true 2 (.t 11) (.t 17))]) (.seq (.seq (.reg [mO 18 3,oO 19 (.mf 270 [] [(.t 11)]),oO 20 (.call 269 [(.t 18),(.t 19)])]) (.cond (.t 20) (.exit 1) (.skip))) (.seq (.reg [mO 21 9,oO 22 (.not (.t 21)),mO 23 22,⟨some 24,.ld true 3 (.t 4),some (23,false)⟩,⟨some 25,.mv (.t 1),some (23,false)⟩,⟨some 26,.ld true 2 (.t 11),some (23,false)⟩,⟨some 27,.ld true 2 (.t 8),some (23,false)⟩,⟨some 28,.call 272 [(.t 24),(.t 25),(.t 26),(.t 27)],some (23,false)⟩,⟨some 29,.bin .lss (.t 28) (.c (.int .i64 0)),some (23,false)⟩,oO 30 (.pick (.t 23) (.c (.bool true)) (.t 29))]) (.cond (.t 30) (.reg [oO 31 (.ld true 2 (.t 11)),nO (.st true 2 (.t 8) (.t 31)),oO 9 (.mv (.c (.bool true)))]) (.skip)))))) (.reg [oO 32 (.bin .add (.t 14) (.c (.int .i64 1))),mO 14 32]))))))) (.seq (.reg [oO 33 (.ld true 2 (.t 8)),oO 34 (.call 273 [(.t 33)]),mO 35 9,nO (.st true 2 (.t 8) (.t 34)),mO 9 35]) (.ret))),res := [(8,some (true,2)),(9,none)] }
def c226 : VF := { code := .seq (.reg [oO 3 (.bx (.t 1) []),oO 4 (.mv (.c (.int .i64 0)))]) (.seq (.drw [⟨0,[],mO 13 0,false,[]⟩,⟨1,[0],oO 14 (.nc (.t 13)),false,[]⟩,⟨2,[0,1],oO 15 (.fa 0 (.t 14)),false,[]⟩,⟨3,[0,1,2],oO 16 (.fa 1 (.t 15)),false,[]⟩,⟨4,(rO 4),oO 17 (.ld false 1 (.t 16)),false,[]⟩,⟨5,[],oO 18 (.fa 0 (.t 3)),false,[]⟩,⟨6,[5],oO 19 (.ld false 1 (.t 18)),false,[]⟩,⟨7,(rO 7),oO 20 (.ia none 4 (.t 17) (.t 19)),false,[]⟩,⟨8,(rO 8),oO 21 (.ld true 4 (.t 20)),false,[]⟩,⟨9,[],oO 5 (.al [.str [],.int .i64 0,.sl .ex 6 [],.sl .ex 4 []] []),true,[4,6,7,8]⟩,⟨10,(rO 10),nO (.st true 4 (.t 5) (.t 21)),true,[]⟩]) (.seq (.reg [oO 23 (.ld true 4 (.t 5)),oO 24 (.fa 1 (.t 3)),oO 25 (.ld false 1 (.t 24)),oO 26 (.call 274 [(.t 23),(.t 25)]),mO 22 26,oO 27 (.ex (.t 22) 0),oO 28 (.ex (.t 22) 1),oO 29 (.ex (.t 22) 2),oO 6 (.al [.sl .ex 2 []] [0]),oO 7 (.al [.sl .ex 2 []] [0]),nO (.st false 1 (.t 6) (.t 27)),nO (.st false 1 (.t 7) (.t 28)),mO 8 29]) (.seq (.seq (.reg [mO 30 8,oO 31 (.bin .neq (.t 30) (.c (.int .i64 0)))]) (.cond (.t 31) (.seq (.reg [mO 32 8,mO 4 32]) (.ret)) (.skip))) (.seq (.seq (.reg [oO 33 (.fa 3 (.t 5)),oO 34 (.ld false 1 (.t 33)),oO 35 (.len false (.t 34)),oO 36 (.mv (.c (.int .i64 0)))]) (.block 0 (.loop [0,3,6,7,34,35,36] (.seq (.reg [oO 37 (.bin .lss (.t 36) (.t 35))]) (.seq (.cond (.t 37) (.skip) (.exit 0)) (.seq (.block 1 (.seq (.reg [oO 38 (.ia none 4 (.t 34) (.t 36)),oO 39 (.ld true 4 (.t 38)),oO 10 (.al [.int .i64 0,.str [],.sl .ex 1 [],.int .i64 0] []),nO (.st true 4 (.t 10) (.t 39))]) (.seq (.reg [mO 11 6]) (.seq (.seq (.reg [oO 40 (.fa 0 (.t 10)),oO 41 (.ld false 1 (.t 40)),oO 42 (.bin .eql (.t 41) (.c (.int .i64 2)))]) (.cond (.t 42) (.reg [mO 11 7]) (.skip))) (.seq (.reg [mO 43 11,oO 44 (.nc (.t 43)),oO 45 (.ld false 1 (.t 44)),oO 46 (.ia none 2 (.t 45) (.c (.int .i64 0))),oO 47 (.ld true 2 (.t 46)),oO 12 (.al [.str [],.sl .ex 3 []] []),nO (.st true 2 (.t 12) (.t 47))]) (.seq (.reg [mO 48 11,mO 49 11,oO 50 (.nc (.t 49)),oO 51 (.ld false 1 (.t 50)),oO 52 (.cut false 2 (.t 51) (some (.c (.int .i64 1))) none none),oO 53 (.nc (.t 48)),nO (.st false 1 (.t 53) (.t 52))]) (.reg [mO 54 0,oO 55 (.ld true 4 (.t 10)),oO 56 (.ld true 2 (.t 12)),oO 57 (.call 275 [(.t 54),(.t 55),(.t 56)])]))))))) (.reg [oO 58 (.bin .add (.t 36) (.c (.int .i64 1))),mO 36 58]))))))) (.seq (.drw [⟨0,[],mO 59 0,false,[]⟩,⟨1,[],mO 60 0,false,[]⟩,⟨2,[1],oO 61 (.nc (.t 60)),false,[]⟩,⟨3,[1,2],oO 62 (.fa 7 (.t 61)),false,[]⟩,⟨4,[1,2,3],oO 63 (.fa 1 (.t 62)),false,[]⟩,⟨5,[1,2,3,4],oO 64 (.ld false 1 (.t 63)),false,[]⟩,⟨6,[],oO 65 (.ld true 2 (.t 3)),false,[]⟩,⟨7,[6],oO 66 (.bl 2 [(.t 65)]),false,[]⟩,⟨8,[1,2,3,4,5,6,7],oO 67 (.app 2 (.t 64) (.t 66)),true,[]⟩,⟨9,(rO 9),oO 68 (.nc (.t 59)),false,[]⟩,⟨10,(rO 10),oO 69 (.fa 7 (.t 68)),false,[]⟩,⟨11,(rO 11),oO 70 (.fa 1 (.t 69)),false,[]⟩,⟨12,(rO 12),nO (.st false 1 (.t 70) (.t 67)),true,[]⟩]) (.seq (.seq (.drw [⟨0,[],mO 71 0,false,[]⟩,⟨1,[0],oO 72 (.nc (.t 71)),false,[]⟩,⟨2,[0,1],oO 73 (.fa 6 (.t 72)),false,[]⟩,⟨3,[0,1,2],oO 74 (.ld false 1 (.t 73)),false,[]⟩,⟨6,[],mO 77 0,false,[]⟩,⟨7,[6],oO 78 (.nc (.t 77)),false,[]⟩,⟨8,[6,7],oO 79 (.fa 7 (.t 78)),false,[]⟩,⟨9,[6,7,8],oO 80 (.fa 3 (.t 79)),false,[]⟩,⟨10,[6,7,8,9],oO 81 (.ld false 1 (.t 80)),false,[]⟩,⟨11,[6,7,8,9,10],oO 82 (.len false (.t 81)),false,[]⟩,⟨13,[],mO 84 0,false,[]⟩,⟨14,[13],oO 85 (.nc (.t 84)),false,[]⟩,⟨15,[13,14],oO 86 (.fa 3 (.t 85)),false,[]⟩,⟨16,[13,14,15],oO 87 (.fa 1 (.t 86)),false,[]⟩,⟨17,[13,14,15,16],oO 88 (.ld false 1 (.t 87)),false,[]⟩,⟨4,(rO 4),oO 75 (.inv (.t 74) [(143,368)] []),true,[10,17]⟩,⟨5,(rO 5),oO 76 (.len false (.t 75)),false,[]⟩,⟨12,(rO 12),oO 83 (.bin .add (.t 76) (.t 82)),false,[]⟩,⟨18,(rO 18),oO 89 (.bin .gtr (.t 83) (.t 88)),false,[]⟩]) (.cond (.t 89) (.seq (.reg [oO 4 (.mv (.c (.int .i64 15)))]) (.ret)) (.skip))) (.seq (.reg [oO 4 (.mv (.c (.int .i64 0)))]) (.ret)))))))),res := [(4,none)] }
def c227 : VF := { code := .seq (.reg [oO 2 (.mv (.c (.bool false)))]) (.seq (.reg [mO 3 0,oO 4 (.bin .geq (.t 3) (.c (.int .u8 97))),mO 5 4,⟨some 6,.mv (.t 0),some (5,true)⟩,⟨some 7,.bin .leq (.t 6) (.c (.int .u8 122)),some (5,true)⟩,oO 8 (.pick (.t 5) (.t 7) (.c (.bool false))),mO 9 8,⟨some 10,.mv (.t 0),some (9,false)⟩,⟨some 11,.bin .geq (.t 10) (.c (.int .u8 65)),some (9,false)⟩,⟨some 12,.mv (.t 11),some (9,false)⟩,⟨some 13,.mv (.t 0),some (12,true)⟩,⟨some 14,.bin .leq (.t 13) (.c (.int .u8 90)),some (12,true)⟩,⟨some 15,.pick (.t 12) (.t 14) (.c (.bool false)),some (9,false)⟩,oO 16 (.pick (.t 9) (.c (.bool true)) (.t 15)),mO 17 16,⟨some 18,.mv (.t 0),some (17,false)⟩,⟨some 19,.bin .geq (.t 18) (.c (.int .u8 48)),some (17,false)⟩,⟨some 20,.mv (.t 19),some (17,false)⟩,⟨some 21,.mv (.t 0),some (20,true)⟩,⟨some 22,.bin .leq (.t 21) (.c (.int .u8 57)),some (20,true)⟩,⟨some 23,.pick (.t 20) (.t 22) (.c (.bool false)),some (17,false)⟩,oO 24 (.pick (.t 17) (.c (.bool true)) (.t 23)),mO 25 24,⟨some 26,.mv (.t 0),some (25,false)⟩,⟨some 27,.bin .eql (.t 26) (.c (.int .u8 95)),some (25,false)⟩,oO 28 (.pick (.t 25) (.c (.bool true)) (.t 27)),mO 2 28]) (.ret)),res := [(2,none)] }
def c228 : VF := { code := .seq (.reg [oO 2 (.mv (.c (.bool false)))]) (.seq (.seq (.reg [mO 4 0,oO 5 (.len true (.t 4)),oO 6 (.bin .lss (.t 5) (.c (.int .i64 1))),mO 7 6,⟨some 8,.mv (.t 0),some (7,false)⟩,⟨some 9,.len true (.t 8),some (7,false)⟩,⟨some 10,.bin .gtr (.t 9) (.c (.int .i64 24)),some (7,false)⟩,oO 11 (.pick (.t 7) (.c (.bool true)) (.t 10)),mO 12 11,⟨some 13,.mv (.t 0),some (12,false)⟩,⟨some 14,.ix (.t 13) (.c (.int .i64 0)),some (12,false)⟩,⟨some 15,.call 276 [(.t 14)],some (12,false)⟩,⟨some 16,.not (.t 15),some (12,false)⟩,oO 17 (.pick (.t 12) (.c (.bool true)) (.t 16))]) (.cond (.t 17) (.seq (.reg [oO 2 (.mv (.c (.bool false)))]) (.ret)) (.skip))) (.seq (.seq (.reg [mO 18 0,oO 19 (.len true (.t 18)),oO 20 (.mv (.c (.int .i64 0)))]) (.block 0 (.loop [0,19,20] (.seq (.reg [oO 21 (.bin .lss (.t 20) (.t 19))]) (.seq (.cond (.t 21) (.skip) (.exit 0)) (.seq (.block 1 (.seq (.reg [mO 22 20,mO 3 22]) (.seq (.reg [mO 23 0,mO 24 3,oO 25 (.ix (.t 23) (.t 24)),oO 26 (.call 276 [(.t 25)]),oO 27 (.not (.t 26)),mO 28 27,⟨some 29,.mv (.t 0),some (28,true)⟩,⟨some 30,.mv (.t 3),some (28,true)⟩,⟨some 31,.ix (.t 29) (.t 30),some (28,true)⟩,⟨some 32,.call 277 [(.t 31)],some (28,true)⟩,⟨some 33,.not (.t 32),some (28,true)⟩,oO 34 (.pick (.t 28) (.t 33) (.c (.bool false))),mO 35 34,⟨some 36,.mv (.t 0),some (35,true)⟩,⟨some 37,.mv (.t 3),some (35,true)⟩,⟨some 38,.ix (.t 36) (.t 37),some (35,true)⟩,⟨some 39,.call 113 [(.t 38)],some (35,true)⟩,⟨some 40,.not (.t 39),some (35,true)⟩,oO 41 (.pick (.t 35) (.t 40) (.c (.bool false))),mO 42 41,⟨some 43,.mv (.t 0),some (42,true)⟩,⟨some 44,.mv (.t 3),some (42,true)⟩,⟨some 45,.ix (.t 43) (.t 44),some (42,true)⟩,⟨some 46,.bin .neq (.t 45) (.c (.int .u8 95)),some (42,true)⟩,oO 47 (.pick (.t 42) (.t 46) (.c (.bool false)))]) (.cond (.t 47) (.seq (.reg [oO 2 (.mv (.c (.bool false)))]) (.ret)) (.skip))))) (.reg [oO 48 (.bin .add (.t 20) (.c (.int .i64 1))),mO 20 48]))))))) (.seq (.reg [oO 2 (.mv (.c (.bool true)))]) (.ret)))),res := [(2,none)] }
def c239 : VF := { code := .seq (.reg [oO 2 (.mv (.c (.str [])))]) (.seq (.reg [mO 3 0,oO 4 (.call 283 [(.t 3),(.c (.int .i64 10))]),mO 2 4]) (.ret)),res := [(2,none)] }
def c243 : VF := { code := .seq (.reg [oO 1 (.bx (.t 0) []),oO 2 (.mv (.c (.bool false)))]) (.seq (.seq (.reg [oO 3 (.fa 0 (.t 1)),oO 4 (.ld false 1 (.t 3))]) (.block 0 (.seq (.reg [oO 6 (.bin .eql (.t 4) (.c (.int .i64 1))),mO 5 6]) (.cond (.t 5) (.seq (.reg [oO 7 (.fa 1 (.t 1)),oO 8 (.ld false 1 (.t 7)),oO 9 (.call 170 [(.t 8)]),mO 10 9,⟨some 11,.fa 2 (.t 1),some (10,true)⟩,⟨some 12,.ld true 3 (.t 11),some (10,true)⟩,⟨some 13,.bd [.int .i64 0,.int .i64 0,.str []] [],some (10,true)⟩,⟨some 14,.eqs false [1,1,2] (.t 12) (.t 13),some (10,true)⟩,oO 15 (.pick (.t 10) (.t 14) (.c (.bool false))),mO 2 15]) (.ret)) (.seq (.reg [oO 17 (.bin .eql (.t 4) (.c (.int .i64 2))),mO 16 17]) (.cond (.t 16) (.seq (.reg [oO 18 (.fa 1 (.t 1)),oO 19 (.ld false 1 (.t 18)),oO 20 (.bin .eql (.t 19) (.c (.str []))),mO 21 20,⟨some 22,.fa 2 (.t 1),some (21,true)⟩,⟨some 23,.ld true 3 (.t 22),some (21,true)⟩,⟨some 24,.call 171 [(.t 23)],some (21,true)⟩,⟨some 25,.bin .eql (.t 24) (.c (.int .i64 0)),some (21,true)⟩,oO 26 (.pick (.t 21) (.t 25) (.c (.bool false))),mO 2 26]) (.ret)) (.seq (.seq (.reg [oO 28 (.bin .eql (.t 4) (.c (.int .i64 3))),mO 27 28]) (.cond (.t 27) (.skip) (.seq (.reg [oO 29 (.bin .eql (.t 4) (.c (.int .i64 4))),mO 27 29]) (.cond (.t 27) (.skip) (.reg [oO 30 (.bin .eql (.t 4) (.c (.int .i64 5))),mO 27 30]))))) (.cond (.t 27) (.seq (.reg [oO 31 (.fa 1 (.t 1)),oO 32 (.ld false 1 (.t 31)),oO 33 (.bin .eql (.t 32) (.c (.str []))),mO 34 33,⟨some 35,.fa 2 (.t 1),some (34,true)⟩,⟨some 36,.ld true 3 (.t 35),some (34,true)⟩,⟨some 37,.bd [.int .i64 0,.int .i64 0,.str []] [],some (34,true)⟩,⟨some 38,.eqs false [1,1,2] (.t 36) (.t 37),some (34,true)⟩,oO 39 (.pick (.t 34) (.t 38) (.c (.bool false))),mO 2 39]) (.ret)) (.skip))))))))) (.seq (.reg [oO 2 (.mv (.c (.bool false)))]) (.ret))),res := [(2,none)] }
def c244 : VF := { code := .seq (.reg [oO 2 (.mv (.c (.bool false)))]) (.seq (.reg [mO 3 0,oO 4 (.bin .eql (.t 3) (.c (.int .i64 1))),mO 5 4,⟨some 6,.mv (.t 0),some (5,false)⟩,⟨some 7,.bin .eql (.t 6) (.c (.int .i64 2)),some (5,false)⟩,oO 8 (.pick (.t 5) (.c (.bool true)) (.t 7)),mO 2 8]) (.ret)),res := [(2,none)] }
def c245 : VF := { code := .seq (.reg [oO 4 (.mv (.c (.int .i64 0)))]) (.seq (.seq (.reg [mO 6 0,oO 7 (.len false (.t 6)),oO 8 (.mv (.c (.int .i64 0)))]) (.block 0 (.loop [0,1,7,8] (.seq (.reg [oO 9 (.bin .lss (.t 8) (.t 7))]) (.seq (.cond (.t 9) (.skip) (.exit 0)) (.seq (.block 1 (.seq (.reg [mO 10 8,mO 5 10]) (.seq (.reg [mO 11 1,mO 12 0,mO 13 5,oO 14 (.ia none 4 (.t 12) (.t 13)),oO 15 (.ld true 4 (.t 14)),oO 16 (.cv (.t 11) [(.t 15)])]) (.cond (.t 16) (.seq (.reg [mO 17 5,mO 4 17]) (.ret)) (.skip))))) (.reg [oO 18 (.bin .add (.t 8) (.c (.int .i64 1))),mO 8 18]))))))) (.seq (.reg [oO 4 (.mv (.c (.int .i64 (-1))))]) (.ret))),res := [(4,none)] }
def c246 : VF := { code := .seq (.reg [oO 1 (.bx (.t 0) []),oO 2 (.mv (.c (.bool false)))]) (.seq (.reg [oO 3 (.fa 0 (.t 1)),oO 4 (.ld false 1 (.t 3)),oO 5 (.bin .eql (.t 4) (.c (.str []))),mO 6 5,⟨some 7,.fa 1 (.t 1),some (6,true)⟩,⟨some 8,.ld false 1 (.t 7),some (6,true)⟩,⟨some 9,.len false (.t 8),some (6,true)⟩,⟨some 10,.bin .eql (.t 9) (.c (.int .i64 0)),some (6,true)⟩,oO 11 (.pick (.t 6) (.t 10) (.c (.bool false))),mO 2 11]) (.ret)),res := [(2,none)] }
def c247 : VF := { code := .seq (.reg [oO 4 (.mv (.c (.int .i64 0)))]) (.seq (.seq (.reg [mO 6 0,oO 7 (.len false (.t 6)),oO 8 (.mv (.c (.int .i64 0)))]) (.block 0 (.loop [0,1,7,8] (.seq (.reg [oO 9 (.bin .lss (.t 8) (.t 7))]) (.seq (.cond (.t 9) (.skip) (.exit 0)) (.seq (.block 1 (.seq (.reg [mO 10 8,mO 5 10]) (.seq (.reg [mO 11 1,mO 12 0,mO 13 5,oO 14 (.ia none 1 (.t 12) (.t 13)),oO 15 (.ld false 1 (.t 14)),oO 16 (.bin .eql (.t 11) (.t 15))]) (.cond (.t 16) (.seq (.reg [mO 17 5,mO 4 17]) (.ret)) (.skip))))) (.reg [oO 18 (.bin .add (.t 8) (.c (.int .i64 1))),mO 8 18]))))))) (.seq (.reg [oO 4 (.mv (.c (.int .i64 (-1))))]) (.ret))),res := [(4,none)] }
def c248 : VF := { code := .seq (.reg [oO 4 (.mv (.c (.int .i64 0)))]) (.seq (.seq (.reg [mO 6 0,oO 7 (.len false (.t 6)),oO 8 (.mv (.c (.int .i64 0)))]) (.block 0 (.loop [0,1,7,8] (.seq (.reg [oO 9 (.bin .lss (.t 8) (.t 7))]) (.seq (.cond (.t 9) (.skip) (.exit 0)) (.seq (.block 1 (.seq (.reg [mO 10 8,mO 5 10]) (.seq (.reg [mO 11 1,mO 12 0,mO 13 5,oO 14 (.ia none 6 (.t 12) (.t 13)),oO 15 (.ld true 6 (.t 14)),oO 16 (.cv (.t 11) [(.t 15)])]) (.cond (.t 16) (.seq (.reg [mO 17 5,mO 4 17]) (.ret)) (.skip))))) (.reg [oO 18 (.bin .add (.t 8) (.c (.int .i64 1))),mO 8 18]))))))) (.seq (.reg [oO 4 (.mv (.c (.int .i64 (-1))))]) (.ret))),res := [(4,none)] }
def c249 : VF := { code := .seq (.reg [mO 8 1,oO 9 (.bin .add (.t 8) (.c (.int .i64 1))),mO 6 9]) (.block 0 (.loop [0,1,2,6] (.seq (.seq (.reg [mO 10 6,mO 11 2,oO 12 (.bin .lss (.t 10) (.t 11))]) (.cond (.t 12) (.skip) (.exit 0))) (.seq (.block 1 (.seq (.reg [mO 15 6,mO 7 15]) (.block 2 (.loop [0,1,2,6,7] (.seq (.seq (.drw [⟨0,[],mO 16 7,false,[]⟩,⟨1,[],mO 17 1,false,[]⟩,⟨2,[0,1],oO 18 (.bin .gtr (.t 16) (.t 17)),false,[]⟩,⟨3,[0,1,2],mO 19 18,false,[]⟩,⟨4,(rO 4),⟨some 20,.mv (.t 0),some (19,true)⟩,false,[]⟩,⟨5,(rO 4),⟨some 21,.mv (.t 7),some (19,true)⟩,false,[]⟩,⟨6,(rO 6),⟨some 22,.ia none 1 (.t 20) (.t 21),some (19,true)⟩,false,[]⟩,⟨7,(rO 7),⟨some 23,.ld false 1 (.t 22),some (19,true)⟩,false,[]⟩,⟨8,(rO 4),⟨some 24,.mv (.t 0),some (19,true)⟩,false,[]⟩,⟨9,(rO 4),⟨some 25,.mv (.t 7),some (19,true)⟩,false,[]⟩,⟨10,[0,1,2,3,9],⟨some 26,.bin .sub (.t 25) (.c (.int .i64 1)),some (19,true)⟩,false,[]⟩,⟨11,[0,1,2,3,8,9,10],⟨some 27,.ia none 1 (.t 24) (.t 26),some (19,true)⟩,false,[]⟩,⟨12,[0,1,2,3,8,9,10,11],⟨some 28,.ld false 1 (.t 27),some (19,true)⟩,false,[]⟩,⟨13,(rO 13),⟨some 29,.call 255 [(.t 23),(.t 28)],some (19,true)⟩,false,[]⟩,⟨14,(rO 14),oO 30 (.pick (.t 19) (.t 29) (.c (.bool false))),false,[]⟩]) (.cond (.t 30) (.skip) (.exit 2))) (.seq (.block 3 (.drw [⟨0,[],mO 33 0,false,[]⟩,⟨1,[],mO 34 7,false,[]⟩,⟨2,[],mO 35 0,false,[]⟩,⟨3,[],mO 36 7,false,[]⟩,⟨4,[3],oO 37 (.bin .sub (.t 36) (.c (.int .i64 1))),false,[]⟩,⟨5,[],mO 38 0,false,[]⟩,⟨6,[],mO 39 7,false,[]⟩,⟨7,[6],oO 40 (.bin .sub (.t 39) (.c (.int .i64 1))),false,[]⟩,⟨8,[5,6,7],oO 41 (.ia none 1 (.t 38) (.t 40)),false,[]⟩,⟨9,[5,6,7,8],oO 42 (.ld false 1 (.t 41)),false,[]⟩,⟨10,[],mO 43 0,false,[]⟩,⟨11,[],mO 44 7,false,[]⟩,⟨12,[10,11],oO 45 (.ia none 1 (.t 43) (.t 44)),false,[]⟩,⟨13,[10,11,12],oO 46 (.ld false 1 (.t 45)),false,[]⟩,⟨14,[0,1,5,6,7,8,9,10,11,12,13],oO 47 (.ia none 1 (.t 33) (.t 34)),false,[]⟩,⟨15,[0,1,5,6,7,8,9,10,11,12,13,14],nO (.st false 1 (.t 47) (.t 42)),true,[]⟩,⟨16,(rO 16),oO 48 (.ia none 1 (.t 35) (.t 37)),false,[]⟩,⟨17,(rO 17),nO (.st false 1 (.t 48) (.t 46)),true,[]⟩])) (.reg [mO 31 7,oO 32 (.bin .sub (.t 31) (.c (.int .i64 1))),mO 7 32]))))))) (.reg [mO 13 6,oO 14 (.bin .add (.t 13) (.c (.int .i64 1))),mO 6 14]))))),res := [] }
def c255 : VF := { code := .seq (.reg [oO 4 (.mv (.c (.bool false)))]) (.seq (.reg [mO 5 0,oO 6 (.call 290 [(.t 5)]),mO 7 6,⟨some 8,.mv (.t 1),some (7,true)⟩,⟨some 9,.call 290 [(.t 8)],some (7,true)⟩,⟨some 10,.not (.t 9),some (7,true)⟩,oO 11 (.pick (.t 7) (.t 10) (.c (.bool false))),mO 12 11,⟨some 13,.mv (.t 0),some (12,false)⟩,⟨some 14,.mv (.t 1),some (12,false)⟩,⟨some 15,.bin .lss (.t 13) (.t 14),some (12,false)⟩,oO 16 (.pick (.t 12) (.c (.bool true)) (.t 15)),mO 4 16]) (.ret)),res := [(4,none)] }
def c259 : VF := { code := .seq (.reg [oO 2 (.mv (.c (.int .i64 0)))]) (.seq (.seq (.reg [mO 3 0,oO 4 (.bin .geq (.t 3) (.c (.int .u64 4294967296)))]) (.cond (.t 4) (.seq (.reg [mO 5 0,oO 6 (.bin .shr (.t 5) (.c (.int .u64 32))),mO 0 6]) (.reg [oO 2 (.mv (.c (.int .i64 32)))])) (.skip))) (.seq (.seq (.reg [mO 7 0,oO 8 (.bin .geq (.t 7) (.c (.int .u64 65536)))]) (.cond (.t 8) (.seq (.reg [mO 9 0,oO 10 (.bin .shr (.t 9) (.c (.int .u64 16))),mO 0 10]) (.reg [mO 11 2,oO 12 (.bin .add (.t 11) (.c (.int .i64 16))),mO 2 12])) (.skip))) (.seq (.seq (.reg [mO 13 0,oO 14 (.bin .geq (.t 13) (.c (.int .u64 256)))]) (.cond (.t 14) (.seq (.reg [mO 15 0,oO 16 (.bin .shr (.t 15) (.c (.int .u64 8))),mO 0 16]) (.reg [mO 17 2,oO 18 (.bin .add (.t 17) (.c (.int .i64 8))),mO 2 18])) (.skip))) (.seq (.reg [mO 19 2,mO 20 0,oO 21 (.wrp .u8 (.t 20)),oO 22 (.ix (.c (.str [0,1,2,2,3,3,3,3,4,4,4,4,4,4,4,4,5,5,5,5,5,5,5,5,5,5,5,5,5,5,5,5,6,6,6,6,6,6,6,6,6,6,6,6,6,6,6,6,6,6,6,6,6,6,6,6,6,6,6,6,6,6,6,6,7,7,7,7,7,7,7,7,7,7,7,7,7,7,7,7,7,7,7,7,7,7,7,7,7,7,7,7,7,7,7,7,7,7,7,7,7,7,7,7,7,7,7,7,7,7,7,7,7,7,7,7,7,7,7,7,7,7,7,7,7,7,7,7,8,8,8,8,8,8,8,8,8,8,8,8,8,8,8,8,8,8,8,8,8,8,8,8,8,8,8,8,8,8,8,8,8,8,8,8,8,8,8,8,8,8,8,8,8,8,8,8,8,8,8,8,8,8,8,8,8,8,8,8,8,8,8,8,8,8,8,8,8,8,8,8,8,8,8,8,8,8,8,8,8,8,8,8,8,8,8,8,8,8,8,8,8,8,8,8,8,8,8,8,8,8,8,8,8,8,8,8,8,8,8,8,8,8,8,8,8,8,8,8,8,8,8,8,8,8,8,8])) (.t 21)),oO 23 (.wrp .i64 (.t 22)),oO 24 (.bin .add (.t 19) (.t 23)),mO 2 24]) (.ret))))),res := [(2,none)] }
def c260 : VF := { code := .seq (.reg [oO 2 (.mv (.c (.int .i64 0)))]) (.seq (.reg [oO 3 (.mv (.c (.int .i64 0)))]) (.seq (.seq (.reg [mO 6 0,oO 7 (.len false (.t 6)),oO 8 (.mv (.c (.int .i64 0)))]) (.block 0 (.loop [3,6,7,8] (.seq (.reg [oO 9 (.bin .lss (.t 8) (.t 7))]) (.seq (.cond (.t 9) (.skip) (.exit 0)) (.seq (.block 1 (.seq (.reg [oO 10 (.ia none 1 (.t 6) (.t 8)),oO 11 (.ld false 1 (.t 10)),mO 5 11]) (.seq (.reg [mO 12 5,mO 13 3,oO 14 (.bin .neq (.t 12) (.t 13))]) (.cond (.t 14) (.seq (.reg [mO 15 5,mO 2 15]) (.ret)) (.skip))))) (.reg [oO 16 (.bin .add (.t 8) (.c (.int .i64 1))),mO 8 16]))))))) (.seq (.reg [mO 17 3,mO 2 17]) (.ret)))),res := [(2,none)] }
def c261 : VF := { code := .seq (.reg [oO 4 (.mv (.c (.int .i64 0)))]) (.seq (.reg [mO 5 0,mO 6 1,oO 7 (.call 291 [(.t 5),(.t 6)]),mO 4 7]) (.ret)),res := [(4,none)] }
def c262 : VF := { code := .seq (.reg [oO 4 (.mv (.c (.int .i64 0)))]) (.seq (.reg [mO 7 0,oO 8 (.call 292 [(.t 7)]),mO 5 8]) (.seq (.reg [mO 9 1,oO 10 (.call 292 [(.t 9)]),mO 6 10]) (.seq (.seq (.reg [mO 11 5]) (.cond (.t 11) (.seq (.seq (.reg [mO 12 6]) (.cond (.t 12) (.seq (.reg [oO 4 (.mv (.c (.int .i64 0)))]) (.ret)) (.skip))) (.seq (.reg [oO 4 (.mv (.c (.int .i64 (-1))))]) (.ret))) (.skip))) (.seq (.seq (.reg [mO 13 6]) (.cond (.t 13) (.seq (.reg [oO 4 (.mv (.c (.int .i64 1)))]) (.ret)) (.skip))) (.seq (.seq (.reg [mO 14 0,mO 15 1,oO 16 (.bin .lss (.t 14) (.t 15))]) (.cond (.t 16) (.seq (.reg [oO 4 (.mv (.c (.int .i64 (-1))))]) (.ret)) (.skip))) (.seq (.seq (.reg [mO 17 0,mO 18 1,oO 19 (.bin .gtr (.t 17) (.t 18))]) (.cond (.t 19) (.seq (.reg [oO 4 (.mv (.c (.int .i64 1)))]) (.ret)) (.skip))) (.seq (.reg [oO 4 (.mv (.c (.int .i64 0)))]) (.ret)))))))),res := [(4,none)] }
def c263 : VF := { code := .seq (.reg [oO 6 (.mv (.c (.int .i64 0)))]) (.seq (.seq (.reg [mO 11 0,oO 12 (.len false (.t 11)),oO 13 (.mv (.c (.int .i64 0)))]) (.block 0 (.loop [0,1,2,11,12,13] (.seq (.reg [oO 14 (.bin .lss (.t 13) (.t 12))]) (.seq (.cond (.t 14) (.skip) (.exit 0)) (.seq (.block 1 (.seq (.reg [mO 15 13,oO 16 (.ia none 3 (.t 11) (.t 13)),oO 17 (.ld true 3 (.t 16)),oO 8 (.al [.int .i64 0,.int .i64 0,.str []] []),mO 7 15,nO (.st true 3 (.t 8) (.t 17))]) (.seq (.seq (.reg [mO 18 7,mO 19 1,oO 20 (.len false (.t 19)),oO 21 (.bin .geq (.t 18) (.t 20))]) (.cond (.t 21) (.seq (.reg [oO 6 (.mv (.c (.int .i64 1)))]) (.ret)) (.skip))) (.seq (.reg [mO 22 1,mO 23 7,oO 24 (.ia none 3 (.t 22) (.t 23)),oO 25 (.ld true 3 (.t 24)),oO 9 (.al [.int .i64 0,.int .i64 0,.str []] []),nO (.st true 3 (.t 9) (.t 25))]) (.seq (.reg [mO 26 2,oO 27 (.ld true 3 (.t 8)),oO 28 (.ld true 3 (.t 9)),oO 29 (.cv (.t 26) [(.t 27),(.t 28)]),mO 10 29]) (.seq (.reg [mO 30 10,oO 31 (.bin .neq (.t 30) (.c (.int .i64 0)))]) (.cond (.t 31) (.seq (.reg [mO 32 10,mO 6 32]) (.ret)) (.skip)))))))) (.reg [oO 33 (.bin .add (.t 13) (.c (.int .i64 1))),mO 13 33]))))))) (.seq (.seq (.reg [mO 34 0,oO 35 (.len false (.t 34)),mO 36 1,oO 37 (.len false (.t 36)),oO 38 (.bin .lss (.t 35) (.t 37))]) (.cond (.t 38) (.seq (.reg [oO 6 (.mv (.c (.int .i64 (-1))))]) (.ret)) (.skip))) (.seq (.reg [oO 6 (.mv (.c (.int .i64 0)))]) (.ret)))),res := [(6,none)] }
def c264 : VF := { code := .seq (.reg [oO 2 (.bx (.t 0) []),oO 3 (.bx (.t 1) []),oO 4 (.mv (.c (.int .i64 0)))]) (.seq (.drw [⟨0,[],oO 5 (.fa 0 (.t 2)),false,[]⟩,⟨1,[0],oO 6 (.ld false 1 (.t 5)),false,[]⟩,⟨2,[],oO 7 (.fa 0 (.t 3)),false,[]⟩,⟨3,[2],oO 8 (.ld false 1 (.t 7)),false,[]⟩,⟨4,(rO 4),oO 9 (.call 262 [(.t 6),(.t 8)]),false,[]⟩,⟨5,[],oO 10 (.fa 1 (.t 2)),false,[]⟩,⟨6,[5],oO 11 (.ld false 1 (.t 10)),false,[]⟩,⟨7,[],oO 12 (.fa 1 (.t 3)),false,[]⟩,⟨8,[7],oO 13 (.ld false 1 (.t 12)),false,[]⟩,⟨9,(rO 9),oO 14 (.call 262 [(.t 11),(.t 13)]),false,[]⟩,⟨10,[],oO 15 (.fa 2 (.t 2)),false,[]⟩,⟨11,[10],oO 16 (.ld false 1 (.t 15)),false,[]⟩,⟨12,[],oO 17 (.fa 2 (.t 3)),false,[]⟩,⟨13,[12],oO 18 (.ld false 1 (.t 17)),false,[]⟩,⟨14,(rO 14),oO 19 (.call 261 [(.t 16),(.t 18)]),false,[]⟩,⟨15,(rO 15),oO 20 (.bl 1 [(.t 9),(.t 14),(.t 19)]),false,[]⟩,⟨16,(rO 16),oO 21 (.call 260 [(.t 20)]),false,[]⟩,⟨17,(rO 17),mO 4 21,false,[]⟩]) (.ret)),res := [(4,none)] }
def c265 : VF := { code := .seq (.reg [oO 4 (.mv (.c (.int .i64 0)))]) (.seq (.seq (.reg [mO 6 0,oO 7 (.len false (.t 6)),oO 8 (.mv (.c (.int .i64 0)))]) (.block 0 (.loop [0,1,7,8] (.seq (.reg [oO 9 (.bin .lss (.t 8) (.t 7))]) (.seq (.cond (.t 9) (.skip) (.exit 0)) (.seq (.block 1 (.seq (.reg [mO 10 8,mO 5 10]) (.seq (.reg [mO 11 1,mO 12 0,mO 13 5,oO 14 (.ia none 3 (.t 12) (.t 13)),oO 15 (.ld true 3 (.t 14)),oO 16 (.cv (.t 11) [(.t 15)])]) (.cond (.t 16) (.seq (.reg [mO 17 5,mO 4 17]) (.ret)) (.skip))))) (.reg [oO 18 (.bin .add (.t 8) (.c (.int .i64 1))),mO 8 18]))))))) (.seq (.reg [oO 4 (.mv (.c (.int .i64 (-1))))]) (.ret))),res := [(4,none)] }
def c266 : VF := { code := .seq (.reg [oO 2 (.nm 2)]) (.seq (.reg [oO 3 (.nm 2)]) (.seq (.seq (.reg [mO 6 0,oO 7 (.len false (.t 6)),oO 8 (.mv (.c (.int .i64 0)))]) (.block 0 (.loop [3,6,7,8] (.seq (.reg [oO 9 (.bin .lss (.t 8) (.t 7))]) (.seq (.cond (.t 9) (.skip) (.exit 0)) (.seq (.block 1 (.seq (.reg [oO 10 (.ia none 1 (.t 6) (.t 8)),oO 11 (.ld false 1 (.t 10)),mO 5 11]) (.reg [mO 12 3,mO 13 5,oO 14 (.call 103 [(.t 13)]),oO 15 (.am 2 (.t 12) (.t 14)),mO 3 15]))) (.reg [oO 16 (.bin .add (.t 8) (.c (.int .i64 1))),mO 8 16]))))))) (.seq (.reg [mO 17 3,oO 18 (.call 293 [(.t 17),(.c (.fn 218 [] []))])]) (.seq (.reg [mO 19 3,oO 20 (.call 294 [(.t 19),(.c (.fn 295 [] []))]),mO 2 20]) (.ret))))),res := [(2,none)],keepR := true }
def c267 : VF := { code := .seq (.reg [oO 4 (.nm 2)]) (.seq (.seq (.reg [mO 5 1,oO 6 (.bin .lss (.t 5) (.c (.int .i64 0)))]) (.cond (.t 6) (.reg [oO 7 (.mi 9 (.c (.str [99,97,110,110,111,116,32,98,101,32,110,101,103,97,116,105,118,101]))),nO (.bad)]) (.skip))) (.seq (.seq (.reg [mO 8 1,mO 9 0,oO 10 (.cap (.t 9)),mO 11 0,oO 12 (.len false (.t 11)),oO 13 (.bin .sub (.t 10) (.t 12)),oO 14 (.bin .sub (.t 8) (.t 13)),mO 1 14]) (.seq (.reg [mO 15 1,oO 16 (.bin .gtr (.t 15) (.c (.int .i64 0)))]) (.cond (.t 16) (.reg [mO 17 0,mO 18 0,oO 19 (.cap (.t 18)),oO 20 (.cut false 2 (.t 17) none (some (.t 19)) none),mO 21 1,oO 22 (.az true [.str [],.sl .ex 3 []] (.t 20) (.t 21)),mO 23 0,oO 24 (.len false (.t 23)),oO 25 (.cut false 2 (.t 22) none (some (.t 24)) none),mO 0 25]) (.skip)))) (.seq (.reg [mO 26 0,mO 4 26]) (.ret)))),res := [(4,none)],keepR := true }
def c268 : VF := { code := .seq (.reg [oO 2 (.bx (.t 0) []),oO 3 (.mv (.c (.bool false)))]) (.seq (.reg [oO 4 (.ld true 2 (.t 2)),oO 5 (.ld true 2 (.t 1)),oO 6 (.call 218 [(.t 4),(.t 5)]),oO 7 (.bin .eql (.t 6) (.c (.int .i64 0))),mO 3 7]) (.ret)),res := [(3,none)] }
def c269 : VF := { code := .seq (.reg [oO 4 (.mv (.c (.bool false)))]) (.seq (.reg [mO 5 0,mO 6 1,oO 7 (.call 296 [(.t 5),(.t 6)]),oO 8 (.bin .geq (.t 7) (.c (.int .i64 0))),mO 4 8]) (.ret)),res := [(4,none)] }
def c270 : VF := { code := .seq (.reg [oO 2 (.bx (.t 0) []),oO 3 (.mv (.c (.bool false)))]) (.seq (.reg [oO 4 (.ld true 2 (.t 1)),oO 5 (.ld true 2 (.t 2)),oO 6 (.call 271 [(.t 4),(.t 5)]),mO 3 6]) (.ret)),res := [(3,none)] }
def c271 : VF := { code := .seq (.reg [oO 2 (.bx (.t 0) []),oO 3 (.bx (.t 1) []),oO 4 (.mv (.c (.bool false)))]) (.seq (.reg [oO 5 (.fa 0 (.t 2)),oO 6 (.ld false 1 (.t 5)),oO 7 (.fa 0 (.t 3)),oO 8 (.ld false 1 (.t 7)),oO 9 (.bin .eql (.t 6) (.t 8)),mO 10 9,⟨some 11,.fa 1 (.t 2),some (10,true)⟩,⟨some 12,.ld false 1 (.t 11),some (10,true)⟩,⟨some 13,.fa 1 (.t 3),some (10,true)⟩,⟨some 14,.ld false 1 (.t 13),some (10,true)⟩,⟨some 15,.call 297 [(.t 12),(.t 14)],some (10,true)⟩,⟨some 16,.bin .eql (.t 15) (.c (.int .i64 0)),some (10,true)⟩,oO 17 (.pick (.t 10) (.t 16) (.c (.bool false))),mO 4 17]) (.ret)),res := [(4,none)] }
def c272 : VF := { code := .seq (.reg [oO 4 (.be (.t 0)),oO 6 (.be (.t 2)),oO 7 (.be (.t 3)),oO 8 (.mv (.c (.int .i64 0)))]) (.seq (.drw [⟨12,[],oO 9 (.al [.str [],.int .i64 0,.sl .ex 6 [],.sl .ex 4 []] []),true,[]⟩,⟨13,[],oO 10 (.al [.str [],.int .i64 0,.sl .ex 6 [],.sl .ex 4 []] []),true,[]⟩,⟨0,[],oO 11 (.fa 1 (.t 4)),false,[]⟩,⟨1,[0],oO 12 (.ld false 1 (.t 11)),false,[]⟩,⟨2,[],oO 13 (.fa 0 (.t 6)),false,[]⟩,⟨3,[2],oO 14 (.ld false 1 (.t 13)),false,[]⟩,⟨4,(rO 4),oO 15 (.ia none 4 (.t 12) (.t 14)),false,[]⟩,⟨5,(rO 5),oO 16 (.ld true 4 (.t 15)),false,[]⟩,⟨6,[],oO 17 (.fa 1 (.t 4)),false,[]⟩,⟨7,[6],oO 18 (.ld false 1 (.t 17)),false,[]⟩,⟨8,[],oO 19 (.fa 0 (.t 7)),false,[]⟩,⟨9,[8],oO 20 (.ld false 1 (.t 19)),false,[]⟩,⟨10,[6,7,8,9],oO 21 (.ia none 4 (.t 18) (.t 20)),false,[]⟩,⟨11,[6,7,8,9,10],oO 22 (.ld true 4 (.t 21)),false,[]⟩,⟨14,[0,1,2,3,4,5,12,13],nO (.st true 4 (.t 9) (.t 16)),true,[7,9,10,11]⟩,⟨15,(rO 15),nO (.st true 4 (.t 10) (.t 22)),true,[]⟩]) (.seq (.drw [⟨0,[],mO 23 1,false,[]⟩,⟨1,[],oO 24 (.fa 0 (.t 6)),false,[]⟩,⟨2,[1],oO 25 (.ld false 1 (.t 24)),false,[]⟩,⟨3,[0,1,2],oO 26 (.ia none 1 (.t 23) (.t 25)),false,[]⟩,⟨4,(rO 4),oO 27 (.ld false 1 (.t 26)),false,[]⟩,⟨5,[],mO 28 1,false,[]⟩,⟨6,[],oO 29 (.fa 0 (.t 7)),false,[]⟩,⟨7,[6],oO 30 (.ld false 1 (.t 29)),false,[]⟩,⟨8,[5,6,7],oO 31 (.ia none 1 (.t 28) (.t 30)),false,[]⟩,⟨9,[5,6,7,8],oO 32 (.ld false 1 (.t 31)),false,[]⟩,⟨10,(rO 10),oO 33 (.call 262 [(.t 27),(.t 32)]),false,[]⟩,⟨11,[],oO 34 (.fa 1 (.t 10)),false,[]⟩,⟨12,[11],oO 35 (.ld false 1 (.t 34)),false,[]⟩,⟨13,[],oO 36 (.fa 1 (.t 9)),false,[]⟩,⟨14,[13],oO 37 (.ld false 1 (.t 36)),false,[]⟩,⟨15,(rO 15),oO 38 (.call 262 [(.t 35),(.t 37)]),false,[]⟩,⟨16,[],oO 39 (.fa 0 (.t 6)),false,[]⟩,⟨17,[16],oO 40 (.ld false 1 (.t 39)),false,[]⟩,⟨18,[],oO 41 (.fa 0 (.t 7)),false,[]⟩,⟨19,[18],oO 42 (.ld false 1 (.t 41)),false,[]⟩,⟨20,(rO 20),oO 43 (.call 262 [(.t 40),(.t 42)]),false,[]⟩,⟨21,[],oO 44 (.fa 1 (.t 6)),false,[]⟩,⟨22,[21],oO 45 (.ld false 1 (.t 44)),false,[]⟩,⟨23,[],oO 46 (.fa 1 (.t 7)),false,[]⟩,⟨24,[23],oO 47 (.ld false 1 (.t 46)),false,[]⟩,⟨25,(rO 25),oO 48 (.call 297 [(.t 45),(.t 47)]),false,[]⟩,⟨26,(rO 26),oO 49 (.bl 1 [(.t 33),(.t 38),(.t 43),(.t 48)]),false,[]⟩,⟨27,(rO 27),oO 50 (.call 260 [(.t 49)]),false,[]⟩,⟨28,(rO 28),mO 8 50,false,[]⟩]) (.ret))),res := [(8,none)] }
def c273 : VF := { code := .seq (.reg [oO 1 (.bx (.t 0) []),oO 2 (.al [.int .i64 0,.sl .ex 2 []] [])]) (.seq (.drw [⟨0,[],oO 3 (.fa 0 (.t 1)),false,[]⟩,⟨1,[0],oO 4 (.ld false 1 (.t 3)),false,[]⟩,⟨2,[],oO 5 (.fa 1 (.t 1)),false,[]⟩,⟨3,[2],oO 6 (.ld false 1 (.t 5)),false,[]⟩,⟨4,[2,3],oO 7 (.call 103 [(.t 6)]),false,[]⟩,⟨5,(rO 5),oO 8 (.bd [.int .i64 0,.sl .ex 2 []] [(0,1,(.t 4)),(1,1,(.t 7))]),false,[]⟩,⟨6,(rO 6),nO (.st true 2 (.t 2) (.t 8)),true,[]⟩]) (.ret)),res := [(2,some (true,2))] }
def c274 : VF := { code := .seq (.reg [oO 2 (.bx (.t 0) []),oO 4 (.nw 2),oO 5 (.nw 2),oO 6 (.mv (.c (.int .i64 0)))]) (.seq (.reg [oO 13 (.ld true 4 (.t 2)),mO 14 1,oO 15 (.call 298 [(.t 13),(.t 14)]),mO 12 15,oO 16 (.ex (.t 12) 0),oO 17 (.ex (.t 12) 1),mO 7 16,mO 6 17]) (.seq (.seq (.reg [mO 18 6,oO 19 (.bin .neq (.t 18) (.c (.int .i64 0)))]) (.cond (.t 19) (.seq (.reg [mO 20 6,oO 4 (.nw 2),oO 5 (.nw 2),mO 6 20]) (.ret)) (.skip))) (.seq (.seq (.reg [oO 21 (.fa 3 (.t 2)),oO 22 (.ld false 1 (.t 21)),oO 23 (.len false (.t 22)),oO 24 (.mv (.c (.int .i64 0)))]) (.block 0 (.loop [1,4,5,7,22,23,24] (.seq (.reg [oO 25 (.bin .lss (.t 24) (.t 23))]) (.seq (.cond (.t 25) (.skip) (.exit 0)) (.seq (.block 1 (.seq (.reg [oO 26 (.ia none 4 (.t 22) (.t 24)),oO 27 (.ld true 4 (.t 26)),oO 9 (.al [.int .i64 0,.str [],.sl .ex 1 [],.int .i64 0] []),nO (.st true 4 (.t 9) (.t 27))]) (.seq (.seq (.reg [oO 28 (.fa 0 (.t 9)),oO 29 (.ld false 1 (.t 28)),oO 30 (.bin .eql (.t 29) (.c (.int .i64 2)))]) (.cond (.t 30) (.seq (.reg [mO 31 5,mO 32 1,oO 33 (.fa 3 (.t 9)),oO 34 (.ld false 1 (.t 33)),oO 35 (.ia none 2 (.t 32) (.t 34)),oO 36 (.ld true 2 (.t 35)),oO 37 (.call 105 [(.t 36)]),oO 38 (.bl 2 [(.t 37)]),oO 39 (.app 2 (.t 31) (.t 38)),mO 5 39]) (.exit 1)) (.skip))) (.seq (.reg [oO 41 (.ld true 4 (.t 9)),mO 42 7,oO 43 (.call 299 [(.t 41),(.t 42)]),mO 40 43,oO 44 (.ex (.t 40) 0),oO 45 (.ex (.t 40) 1),oO 10 (.al [.str [],.sl .ex 3 []] []),nO (.st true 2 (.t 10) (.t 44)),mO 11 45]) (.seq (.seq (.reg [mO 46 11,oO 47 (.bin .neq (.t 46) (.c (.int .i64 0)))]) (.cond (.t 47) (.seq (.reg [mO 48 11,oO 4 (.nw 2),oO 5 (.nw 2),mO 6 48]) (.ret)) (.skip))) (.reg [mO 49 4,oO 50 (.ld true 2 (.t 10)),oO 51 (.bl 2 [(.t 50)]),oO 52 (.app 2 (.t 49) (.t 51)),mO 4 52])))))) (.reg [oO 53 (.bin .add (.t 24) (.c (.int .i64 1))),mO 24 53]))))))) (.seq (.reg [mO 54 4,mO 55 5,mO 4 54,mO 5 55,oO 6 (.mv (.c (.int .i64 0)))]) (.ret))))),res := [(4,none),(5,none),(6,none)] }
def c275 : VF := { code := .seq (.reg [oO 4 (.bx (.t 1) []),oO 5 (.bx (.t 2) [])]) (.seq (.drw [⟨0,[],mO 7 0,false,[]⟩,⟨1,[0],oO 8 (.nc (.t 7)),false,[]⟩,⟨2,[0,1],oO 9 (.fa 0 (.t 8)),false,[]⟩,⟨3,[0,1,2],oO 10 (.ld true 3 (.t 9)),false,[]⟩,⟨4,[],oO 11 (.ld true 2 (.t 5)),false,[]⟩,⟨5,(rO 5),oO 12 (.call 104 [(.t 10),(.t 11)]),false,[]⟩,⟨6,(rO 6),mO 6 12,false,[]⟩]) (.seq (.block 0 (.seq (.reg [oO 14 (.fa 0 (.t 4)),oO 15 (.ld false 1 (.t 14)),oO 16 (.bin .eql (.t 15) (.c (.int .i64 2))),mO 13 16]) (.cond (.t 13) (.seq (.drw [⟨0,[],mO 17 0,false,[]⟩,⟨1,[0],oO 18 (.nc (.t 17)),false,[]⟩,⟨2,[0,1],oO 19 (.fa 6 (.t 18)),false,[]⟩,⟨3,[0,1,2],oO 20 (.ld false 1 (.t 19)),false,[]⟩,⟨4,[],oO 21 (.ld true 2 (.t 5)),false,[]⟩,⟨5,(rO 5),oO 22 (.inv (.t 20) [(143,367)] [(.t 21)]),true,[]⟩]) (.ret)) (.seq (.reg [mO 24 6,oO 25 (.bin .eql (.t 24) (.c (.int .i64 4))),mO 23 25]) (.cond (.t 23) (.seq (.drw [⟨0,[],mO 27 0,false,[]⟩,⟨1,[],mO 28 0,false,[]⟩,⟨2,[1],oO 29 (.nc (.t 28)),false,[]⟩,⟨3,[1,2],oO 30 (.fa 7 (.t 29)),false,[]⟩,⟨4,[1,2,3],oO 31 (.fa 3 (.t 30)),false,[]⟩,⟨5,[1,2,3,4],oO 32 (.ld false 1 (.t 31)),false,[]⟩,⟨6,[],oO 33 (.ld true 2 (.t 5)),false,[]⟩,⟨7,[1,2,3,4,5,6],oO 34 (.call 300 [(.t 32),(.t 33)]),false,[]⟩,⟨8,[1,2,3,4,5,6,7],mO 26 34,false,[]⟩,⟨9,[1,2,3,4,5,6,7,8],oO 35 (.ex (.t 26) 0),false,[]⟩,⟨10,[1,2,3,4,5,6,7,8],oO 36 (.ex (.t 26) 1),false,[]⟩,⟨11,(rO 10),oO 37 (.nc (.t 27)),false,[]⟩,⟨12,[0,1,2,3,4,5,6,7,8,9,11],oO 38 (.fa 7 (.t 37)),false,[]⟩,⟨13,[0,1,2,3,4,5,6,7,8,9,11,12],oO 39 (.fa 3 (.t 38)),false,[]⟩,⟨14,[0,1,2,3,4,5,6,7,8,9,11,12,13],nO (.st false 1 (.t 39) (.t 35)),true,[]⟩]) (.ret)) (.seq (.drw [⟨0,[],mO 41 6,false,[]⟩,⟨1,[0],oO 42 (.bin .eql (.t 41) (.c (.int .i64 5))),false,[]⟩,⟨2,[0,1],mO 43 42,false,[]⟩,⟨3,[0,1,2],⟨some 44,.mv (.t 0),some (43,true)⟩,false,[]⟩,⟨4,(rO 4),⟨some 45,.nc (.t 44),some (43,true)⟩,false,[]⟩,⟨5,(rO 5),⟨some 46,.fa 6 (.t 45),some (43,true)⟩,false,[]⟩,⟨6,(rO 6),⟨some 47,.ld false 1 (.t 46),some (43,true)⟩,false,[]⟩,⟨8,[0,1,2],⟨some 49,.ld true 2 (.t 5),some (43,true)⟩,false,[]⟩,⟨7,(rO 7),⟨some 48,.inv (.t 47) [(143,368)] [],some (43,true)⟩,true,[8]⟩,⟨9,(rO 9),⟨some 50,.call 224 [(.t 48),(.t 49)],some (43,true)⟩,false,[]⟩,⟨10,(rO 10),⟨some 51,.not (.t 50),some (43,true)⟩,false,[]⟩,⟨11,(rO 11),oO 52 (.pick (.t 43) (.t 51) (.c (.bool false))),false,[]⟩,⟨12,(rO 12),mO 40 52,false,[]⟩]) (.cond (.t 40) (.drw [⟨0,[],mO 53 0,false,[]⟩,⟨1,[],mO 54 0,false,[]⟩,⟨2,[1],oO 55 (.nc (.t 54)),false,[]⟩,⟨3,[1,2],oO 56 (.fa 7 (.t 55)),false,[]⟩,⟨4,[1,2,3],oO 57 (.fa 2 (.t 56)),false,[]⟩,⟨5,[1,2,3,4],oO 58 (.ld false 1 (.t 57)),false,[]⟩,⟨6,[],oO 59 (.ld true 2 (.t 5)),false,[]⟩,⟨7,[6],oO 60 (.call 105 [(.t 59)]),false,[]⟩,⟨8,[6,7],oO 61 (.bl 2 [(.t 60)]),false,[]⟩,⟨9,[1,2,3,4,5,6,7,8],oO 62 (.app 2 (.t 58) (.t 61)),true,[]⟩,⟨10,(rO 10),oO 63 (.nc (.t 53)),false,[]⟩,⟨11,(rO 11),oO 64 (.fa 7 (.t 63)),false,[]⟩,⟨12,(rO 12),oO 65 (.fa 2 (.t 64)),false,[]⟩,⟨13,(rO 13),nO (.st false 1 (.t 65) (.t 62)),true,[]⟩]) (.skip)))))))) (.drw [⟨0,[],mO 66 0,false,[]⟩,⟨1,[0],oO 67 (.nc (.t 66)),false,[]⟩,⟨2,[0,1],oO 68 (.fa 6 (.t 67)),false,[]⟩,⟨3,[0,1,2],oO 69 (.ld false 1 (.t 68)),false,[]⟩,⟨4,[],oO 70 (.ld true 2 (.t 5)),false,[]⟩,⟨5,(rO 5),oO 71 (.inv (.t 69) [(143,370)] [(.t 70)]),true,[]⟩]))),res := [] }
def c276 : VF := { code := .seq (.reg [oO 2 (.mv (.c (.bool false)))]) (.seq (.reg [mO 3 0,oO 4 (.bin .geq (.t 3) (.c (.int .u8 97))),mO 5 4,⟨some 6,.mv (.t 0),some (5,true)⟩,⟨some 7,.bin .leq (.t 6) (.c (.int .u8 122)),some (5,true)⟩,oO 8 (.pick (.t 5) (.t 7) (.c (.bool false))),mO 2 8]) (.ret)),res := [(2,none)] }
def c277 : VF := { code := .seq (.reg [oO 2 (.mv (.c (.bool false)))]) (.seq (.reg [mO 3 0,oO 4 (.bin .geq (.t 3) (.c (.int .u8 65))),mO 5 4,⟨some 6,.mv (.t 0),some (5,true)⟩,⟨some 7,.bin .leq (.t 6) (.c (.int .u8 90)),some (5,true)⟩,oO 8 (.pick (.t 5) (.t 7) (.c (.bool false))),mO 2 8]) (.ret)),res := [(2,none)] }
def c283 : VF := { code := .seq (.reg [oO 4 (.mv (.c (.str [])))]) (.seq (.seq (.reg [mO 10 1,oO 11 (.bin .eql (.t 10) (.c (.int .i64 10)))]) (.cond (.t 11) (.seq (.seq (.reg [mO 12 0,oO 13 (.bin .leq (.c (.int .i64 0)) (.t 12)),mO 14 13,⟨some 15,.mv (.t 0),some (14,true)⟩,⟨some 16,.bin .lss (.t 15) (.c (.int .i64 100)),some (14,true)⟩,oO 17 (.pick (.t 14) (.t 16) (.c (.bool false)))]) (.cond (.t 17) (.seq (.reg [mO 18 0,oO 19 (.call 306 [(.t 18)]),mO 4 19]) (.ret)) (.skip))) (.seq (.reg [oO 5 (.al [.int .u8 0,.int .u8 0,.int .u8 0,.int .u8 0,.int .u8 0,.int .u8 0,.int .u8 0,.int .u8 0,.int .u8 0,.int .u8 0,.int .u8 0,.int .u8 0,.int .u8 0,.int .u8 0,.int .u8 0,.int .u8 0,.int .u8 0,.int .u8 0,.int .u8 0,.int .u8 0,.int .u8 0,.int .u8 0,.int .u8 0,.int .u8 0] [])]) (.seq (.reg [mO 20 0,oO 21 (.wrp .u64 (.t 20)),mO 6 21]) (.seq (.seq (.reg [mO 22 0,oO 23 (.bin .lss (.t 22) (.c (.int .i64 0)))]) (.cond (.t 23) (.reg [mO 24 6,oO 25 (.neg (.t 24)),mO 6 25]) (.skip))) (.seq (.reg [mO 26 6,oO 27 (.call 307 [(.t 26)]),mO 7 27]) (.seq (.reg [mO 28 7,oO 29 (.bin .add (.c (.int .i64 1)) (.t 28)),oO 30 (.bad),mO 31 6,oO 32 (.call 308 [(.t 30),(.t 31)])]) (.seq (.seq (.reg [mO 33 0,oO 34 (.bin .lss (.t 33) (.c (.int .i64 0)))]) (.cond (.t 34) (.seq (.reg [oO 35 (.ia (some 24) 1 (.t 5) (.c (.int .i64 0))),nO (.st false 1 (.t 35) (.c (.int .u8 45)))]) (.seq (.reg [mO 36 7,oO 37 (.bin .add (.c (.int .i64 1)) (.t 36)),oO 38 (.bad),oO 39 (.b2s (.t 38)),mO 4 39]) (.ret))) (.skip))) (.seq (.reg [mO 40 7,oO 41 (.bin .add (.c (.int .i64 1)) (.t 40)),oO 42 (.bad),oO 43 (.b2s (.t 42)),mO 4 43]) (.ret))))))))) (.skip))) (.seq (.reg [mO 45 0,oO 46 (.wrp .u64 (.t 45)),mO 47 1,mO 48 0,oO 49 (.bin .lss (.t 48) (.c (.int .i64 0))),oO 50 (.call 309 [(.c (.sl .ex 1 [])),(.t 46),(.t 47),(.t 49),(.c (.bool false))]),mO 44 50,oO 51 (.ex (.t 44) 0),oO 52 (.ex (.t 44) 1),mO 8 51,mO 9 52]) (.seq (.reg [mO 53 9,mO 4 53]) (.ret)))),res := [(4,none)] }
def c290 : VF := { code := .seq (.reg [oO 2 (.mv (.c (.bool false)))]) (.seq (.reg [mO 3 0,mO 4 0,oO 5 (.bin .neq (.t 3) (.t 4)),mO 2 5]) (.ret)),res := [(2,none)] }
def c291 : VF := { code := .seq (.reg [oO 4 (.mv (.c (.int .i64 0)))]) (.seq (.reg [mO 5 0,mO 6 1,oO 7 (.call 311 [(.t 5),(.t 6)]),mO 4 7]) (.ret)),res := [(4,none)] }
def c292 : VF := { code := .seq (.reg [oO 2 (.mv (.c (.bool false)))]) (.seq (.reg [mO 3 0,mO 4 0,oO 5 (.bin .neq (.t 3) (.t 4)),mO 2 5]) (.ret)),res := [(2,none)] }
def c293 : VF := { code := .reg [mO 4 0,mO 5 0,oO 6 (.len false (.t 5)),mO 7 1,oO 8 (.call 312 [(.t 4),(.t 6),(.t 7)])],res := [] }
def c294 : VF := { code := .seq (.reg [oO 4 (.nw 2)]) (.seq (.seq (.reg [mO 8 0,oO 9 (.len false (.t 8)),oO 10 (.bin .lss (.t 9) (.c (.int .i64 2)))]) (.cond (.t 10) (.seq (.reg [mO 11 0,mO 4 11]) (.ret)) (.skip))) (.seq (.seq (.reg [oO 5 (.mv (.c (.int .i64 1)))]) (.block 0 (.loop [0,1,5] (.seq (.seq (.reg [mO 12 5,mO 13 0,oO 14 (.len false (.t 13)),oO 15 (.bin .lss (.t 12) (.t 14))]) (.cond (.t 15) (.skip) (.exit 0))) (.seq (.block 1 (.seq (.drw [⟨0,[],mO 18 1,false,[]⟩,⟨1,[],mO 19 0,false,[]⟩,⟨2,[],mO 20 5,false,[]⟩,⟨3,[1,2],oO 21 (.ia none 2 (.t 19) (.t 20)),false,[]⟩,⟨4,[1,2,3],oO 22 (.ld true 2 (.t 21)),false,[]⟩,⟨5,[],mO 23 0,false,[]⟩,⟨6,[],mO 24 5,false,[]⟩,⟨7,[6],oO 25 (.bin .sub (.t 24) (.c (.int .i64 1))),false,[]⟩,⟨8,[5,6,7],oO 26 (.ia none 2 (.t 23) (.t 25)),false,[]⟩,⟨9,[5,6,7,8],oO 27 (.ld true 2 (.t 26)),false,[]⟩,⟨10,(rO 10),oO 28 (.cv (.t 18) [(.t 22),(.t 27)]),true,[]⟩]) (.cond (.t 28) (.seq (.reg [mO 29 0,mO 30 5,oO 31 (.cut false 2 (.t 29) (some (.t 30)) none none),mO 6 31]) (.seq (.seq (.reg [oO 7 (.mv (.c (.int .i64 1)))]) (.block 2 (.loop [0,1,5,6,7] (.seq (.seq (.reg [mO 32 7,mO 33 6,oO 34 (.len false (.t 33)),oO 35 (.bin .lss (.t 32) (.t 34))]) (.cond (.t 35) (.skip) (.exit 2))) (.seq (.block 3 (.seq (.drw [⟨0,[],mO 38 1,false,[]⟩,⟨1,[],mO 39 6,false,[]⟩,⟨2,[],mO 40 7,false,[]⟩,⟨3,[1,2],oO 41 (.ia none 2 (.t 39) (.t 40)),false,[]⟩,⟨4,[1,2,3],oO 42 (.ld true 2 (.t 41)),false,[]⟩,⟨5,[],mO 43 6,false,[]⟩,⟨6,[],mO 44 7,false,[]⟩,⟨7,[6],oO 45 (.bin .sub (.t 44) (.c (.int .i64 1))),false,[]⟩,⟨8,[5,6,7],oO 46 (.ia none 2 (.t 43) (.t 45)),false,[]⟩,⟨9,[5,6,7,8],oO 47 (.ld true 2 (.t 46)),false,[]⟩,⟨10,(rO 10),oO 48 (.cv (.t 38) [(.t 42),(.t 47)]),true,[]⟩,⟨11,(rO 11),oO 49 (.not (.t 48)),false,[]⟩]) (.cond (.t 49) (.seq (.reg [mO 50 0,mO 51 5,mO 52 6,mO 53 7,oO 54 (.ia none 2 (.t 52) (.t 53)),oO 55 (.ld true 2 (.t 54)),oO 56 (.ia none 2 (.t 50) (.t 51)),nO (.st true 2 (.t 56) (.t 55))]) (.reg [mO 57 5,oO 58 (.bin .add (.t 57) (.c (.int .i64 1))),mO 5 58])) (.skip)))) (.reg [mO 36 7,oO 37 (.bin .add (.t 36) (.c (.int .i64 1))),mO 7 37])))))) (.seq (.reg [mO 59 0,mO 60 5,oO 61 (.cut false 2 (.t 59) (some (.t 60)) none none),nO (.clr [.str [],.sl .ex 3 []] (.t 61))]) (.seq (.reg [mO 62 0,mO 63 5,oO 64 (.cut false 2 (.t 62) none (some (.t 63)) none),mO 4 64]) (.ret))))) (.skip)))) (.reg [mO 16 5,oO 17 (.bin .add (.t 16) (.c (.int .i64 1))),mO 5 17])))))) (.seq (.reg [mO 65 0,mO 4 65]) (.ret)))),res := [(4,none)],keepR := true }
def c295 : VF := { code := .seq (.reg [oO 2 (.bx (.t 0) []),oO 3 (.bx (.t 1) []),oO 4 (.mv (.c (.bool false)))]) (.seq (.reg [oO 5 (.ld true 2 (.t 2)),oO 6 (.ld true 2 (.t 3)),oO 7 (.call 218 [(.t 5),(.t 6)]),oO 8 (.bin .eql (.t 7) (.c (.int .i64 0))),mO 4 8]) (.ret)),res := [(4,none)],keepR := true }
def c296 : VF := { code := .seq (.reg [oO 4 (.mv (.c (.int .i64 0)))]) (.seq (.seq (.reg [mO 6 0,oO 7 (.len false (.t 6)),oO 8 (.mv (.c (.int .i64 0)))]) (.block 0 (.loop [0,1,7,8] (.seq (.reg [oO 9 (.bin .lss (.t 8) (.t 7))]) (.seq (.cond (.t 9) (.skip) (.exit 0)) (.seq (.block 1 (.seq (.reg [mO 10 8,mO 5 10]) (.seq (.reg [mO 11 1,mO 12 0,mO 13 5,oO 14 (.ia none 2 (.t 12) (.t 13)),oO 15 (.ld true 2 (.t 14)),oO 16 (.cv (.t 11) [(.t 15)])]) (.cond (.t 16) (.seq (.reg [mO 17 5,mO 4 17]) (.ret)) (.skip))))) (.reg [oO 18 (.bin .add (.t 8) (.c (.int .i64 1))),mO 8 18]))))))) (.seq (.reg [oO 4 (.mv (.c (.int .i64 (-1))))]) (.ret))),res := [(4,none)] }
def c297 : VF := { code := .seq (.reg [oO 4 (.mv (.c (.int .i64 0)))]) (.seq (.reg [mO 5 0,mO 6 1,oO 7 (.call 313 [(.t 5),(.t 6),(.c (.fn 218 [] []))]),mO 4 7]) (.ret)),res := [(4,none)] }
def c298 : VF := { code := .seq (.reg [oO 2 (.bx (.t 0) []),oO 4 (.nw 4),oO 5 (.mv (.c (.int .i64 0)))]) (.seq (.reg [oO 7 (.ld true 4 (.t 2)),oO 8 (.call 32 [(.t 7)]),mO 5 8]) (.seq (.seq (.reg [mO 9 5,oO 10 (.bin .neq (.t 9) (.c (.int .i64 0)))]) (.cond (.t 10) (.seq (.reg [mO 11 5,oO 4 (.nw 4),mO 5 11]) (.ret)) (.skip))) (.seq (.reg [oO 13 (.ld true 4 (.t 2)),oO 14 (.call 315 [(.t 13)]),mO 15 1,oO 16 (.call 314 [(.t 14),(.t 15)]),mO 12 16,oO 17 (.ex (.t 12) 0),oO 18 (.ex (.t 12) 1),mO 4 17,mO 6 18]) (.seq (.seq (.reg [mO 19 6,oO 20 (.not (.t 19))]) (.cond (.t 20) (.seq (.reg [oO 4 (.nw 4),oO 5 (.mv (.c (.int .i64 1)))]) (.ret)) (.skip))) (.seq (.reg [mO 21 4,mO 4 21,oO 5 (.mv (.c (.int .i64 0)))]) (.ret)))))),res := [(4,none),(5,none)] }
def c299 : VF := { code := .seq (.reg [oO 2 (.bx (.t 0) []),oO 4 (.al [.str [],.sl .ex 3 []] []),oO 5 (.mv (.c (.int .i64 0)))]) (.seq (.reg [oO 11 (.fa 1 (.t 2)),oO 12 (.ld false 1 (.t 11)),oO 13 (.bd [.str [],.sl .ex 3 []] [(0,1,(.t 12))]),oO 6 (.al [.str [],.sl .ex 3 []] []),nO (.st true 2 (.t 6) (.t 13))]) (.seq (.seq (.reg [oO 14 (.fa 2 (.t 2)),oO 15 (.ld false 1 (.t 14)),oO 16 (.len false (.t 15)),oO 17 (.mv (.c (.int .i64 0)))]) (.block 0 (.loop [1,4,6,15,16,17] (.seq (.reg [oO 18 (.bin .lss (.t 17) (.t 16))]) (.seq (.cond (.t 18) (.skip) (.exit 0)) (.seq (.block 1 (.seq (.reg [oO 19 (.ia none 1 (.t 15) (.t 17)),oO 20 (.ld false 1 (.t 19)),mO 8 20]) (.seq (.reg [mO 22 8,mO 23 1,oO 24 (.call 316 [(.t 22),(.t 23)]),mO 21 24,oO 25 (.ex (.t 21) 0),oO 26 (.ex (.t 21) 1),oO 9 (.al [.int .i64 0,.int .i64 0,.str []] []),nO (.st true 3 (.t 9) (.t 25)),mO 10 26]) (.seq (.seq (.reg [mO 27 10,oO 28 (.bin .neq (.t 27) (.c (.int .i64 0)))]) (.cond (.t 28) (.seq (.reg [oO 29 (.bd [.str [],.sl .ex 3 []] []),mO 30 10,nO (.st true 2 (.t 4) (.t 29)),mO 5 30]) (.ret)) (.skip))) (.reg [oO 31 (.fa 1 (.t 6)),oO 32 (.ld false 1 (.t 31)),oO 33 (.ld true 3 (.t 9)),oO 34 (.bl 3 [(.t 33)]),oO 35 (.app 3 (.t 32) (.t 34)),oO 36 (.fa 1 (.t 6)),nO (.st false 1 (.t 36) (.t 35))]))))) (.reg [oO 37 (.bin .add (.t 17) (.c (.int .i64 1))),mO 17 37]))))))) (.seq (.reg [oO 38 (.ld true 2 (.t 6)),nO (.st true 2 (.t 4) (.t 38)),oO 5 (.mv (.c (.int .i64 0)))]) (.ret)))),res := [(4,some (true,2)),(5,none)] }
def c300 : VF := { code := .seq (.reg [oO 3 (.bx (.t 1) []),oO 4 (.nw 2),oO 5 (.mv (.c (.int .i64 0)))]) (.seq (.reg [mO 7 0,oO 8 (.ld true 2 (.t 3)),oO 9 (.bl 2 [(.t 8)]),oO 10 (.bl 1 [(.t 7),(.t 9)]),oO 11 (.call 317 [(.t 10)]),mO 6 11]) (.seq (.seq (.reg [mO 12 6,oO 13 (.bin .neq (.t 12) (.c (.int .i64 0)))]) (.cond (.t 13) (.seq (.reg [mO 14 6,oO 4 (.nw 2),mO 5 14]) (.ret)) (.skip))) (.seq (.reg [mO 15 0,oO 16 (.ld true 2 (.t 3)),oO 17 (.bl 2 [(.t 16)]),oO 18 (.bl 1 [(.t 15),(.t 17)]),oO 19 (.call 266 [(.t 18)]),mO 4 19,oO 5 (.mv (.c (.int .i64 0)))]) (.ret)))),res := [(4,none),(5,none)] }
def c306 : VF := { code := .seq (.reg [oO 2 (.mv (.c (.str [])))]) (.seq (.seq (.reg [mO 3 0,oO 4 (.bin .lss (.t 3) (.c (.int .i64 10)))]) (.cond (.t 4) (.seq (.reg [mO 5 0,mO 6 0,oO 7 (.bin .add (.t 6) (.c (.int .i64 1))),oO 8 (.cut true 1 (.c (.str [48,49,50,51,52,53,54,55,56,57,97,98,99,100,101,102,103,104,105,106,107,108,109,110,111,112,113,114,115,116,117,118,119,120,121,122])) (some (.t 5)) (some (.t 7)) none),mO 2 8]) (.ret)) (.skip))) (.seq (.reg [mO 9 0,oO 10 (.bin .mul (.t 9) (.c (.int .i64 2))),mO 11 0,oO 12 (.bin .mul (.t 11) (.c (.int .i64 2))),oO 13 (.bin .add (.t 12) (.c (.int .i64 2))),oO 14 (.cut true 1 (.c (.str [48,48,48,49,48,50,48,51,48,52,48,53,48,54,48,55,48,56,48,57,49,48,49,49,49,50,49,51,49,52,49,53,49,54,49,55,49,56,49,57,50,48,50,49,50,50,50,51,50,52,50,53,50,54,50,55,50,56,50,57,51,48,51,49,51,50,51,51,51,52,51,53,51,54,51,55,51,56,51,57,52,48,52,49,52,50,52,51,52,52,52,53,52,54,52,55,52,56,52,57,53,48,53,49,53,50,53,51,53,52,53,53,53,54,53,55,53,56,53,57,54,48,54,49,54,50,54,51,54,52,54,53,54,54,54,55,54,56,54,57,55,48,55,49,55,50,55,51,55,52,55,53,55,54,55,55,55,56,55,57,56,48,56,49,56,50,56,51,56,52,56,53,56,54,56,55,56,56,56,57,57,48,57,49,57,50,57,51,57,52,57,53,57,54,57,55,57,56,57,57])) (some (.t 10)) (some (.t 13)) none),mO 2 14]) (.ret))),res := [(2,none)] }
def c312 : VF := { code := .seq (.reg [oO 6 (.mv (.c (.int .i64 20)))]) (.seq (.reg [mO 10 6,oO 7 (.mv (.c (.int .i64 0))),mO 8 10]) (.seq (.block 0 (.loop [0,1,2,6,7,8] (.seq (.seq (.reg [mO 11 8,mO 12 1,oO 13 (.bin .leq (.t 11) (.t 12))]) (.cond (.t 13) (.skip) (.exit 0))) (.block 1 (.seq (.reg [mO 14 0,mO 15 7,mO 16 8,mO 17 2,oO 18 (.call 322 [(.t 14),(.t 15),(.t 16),(.t 17)])]) (.seq (.reg [mO 19 8,mO 7 19]) (.reg [mO 20 8,mO 21 6,oO 22 (.bin .add (.t 20) (.t 21)),mO 8 22]))))))) (.seq (.reg [mO 23 0,mO 24 7,mO 25 1,mO 26 2,oO 27 (.call 322 [(.t 23),(.t 24),(.t 25),(.t 26)])]) (.block 2 (.loop [0,1,2,6] (.seq (.seq (.reg [mO 28 6,mO 29 1,oO 30 (.bin .lss (.t 28) (.t 29))]) (.cond (.t 30) (.skip) (.exit 2))) (.block 3 (.seq (.reg [mO 31 6,oO 32 (.bin .mul (.c (.int .i64 2)) (.t 31)),oO 7 (.mv (.c (.int .i64 0))),mO 8 32]) (.seq (.block 4 (.loop [0,1,2,6,7,8] (.seq (.seq (.reg [mO 33 8,mO 34 1,oO 35 (.bin .leq (.t 33) (.t 34))]) (.cond (.t 35) (.skip) (.exit 4))) (.block 5 (.seq (.reg [mO 36 0,mO 37 7,mO 38 7,mO 39 6,oO 40 (.bin .add (.t 38) (.t 39)),mO 41 8,mO 42 2,oO 43 (.call 323 [(.t 36),(.t 37),(.t 40),(.t 41),(.t 42)])]) (.seq (.reg [mO 44 8,mO 7 44]) (.reg [mO 45 8,mO 46 6,oO 47 (.bin .mul (.c (.int .i64 2)) (.t 46)),oO 48 (.bin .add (.t 45) (.t 47)),mO 8 48]))))))) (.seq (.seq (.reg [mO 49 7,mO 50 6,oO 51 (.bin .add (.t 49) (.t 50)),mO 9 51]) (.seq (.reg [mO 52 9,mO 53 1,oO 54 (.bin .lss (.t 52) (.t 53))]) (.cond (.t 54) (.reg [mO 55 0,mO 56 7,mO 57 9,mO 58 1,mO 59 2,oO 60 (.call 323 [(.t 55),(.t 56),(.t 57),(.t 58),(.t 59)])]) (.skip)))) (.reg [mO 61 6,oO 62 (.bin .mul (.t 61) (.c (.int .i64 2))),mO 6 62]))))))))))),res := [] }
def c313 : VF := { code := .seq (.reg [oO 6 (.mv (.c (.int .i64 0)))]) (.seq (.seq (.reg [mO 11 0,oO 12 (.len false (.t 11)),oO 13 (.mv (.c (.int .i64 0)))]) (.block 0 (.loop [0,1,2,11,12,13] (.seq (.reg [oO 14 (.bin .lss (.t 13) (.t 12))]) (.seq (.cond (.t 14) (.skip) (.exit 0)) (.seq (.block 1 (.seq (.reg [mO 15 13,oO 16 (.ia none 2 (.t 11) (.t 13)),oO 17 (.ld true 2 (.t 16)),oO 8 (.al [.str [],.sl .ex 3 []] []),mO 7 15,nO (.st true 2 (.t 8) (.t 17))]) (.seq (.seq (.reg [mO 18 7,mO 19 1,oO 20 (.len false (.t 19)),oO 21 (.bin .geq (.t 18) (.t 20))]) (.cond (.t 21) (.seq (.reg [oO 6 (.mv (.c (.int .i64 1)))]) (.ret)) (.skip))) (.seq (.reg [mO 22 1,mO 23 7,oO 24 (.ia none 2 (.t 22) (.t 23)),oO 25 (.ld true 2 (.t 24)),oO 9 (.al [.str [],.sl .ex 3 []] []),nO (.st true 2 (.t 9) (.t 25))]) (.seq (.reg [mO 26 2,oO 27 (.ld true 2 (.t 8)),oO 28 (.ld true 2 (.t 9)),oO 29 (.cv (.t 26) [(.t 27),(.t 28)]),mO 10 29]) (.seq (.reg [mO 30 10,oO 31 (.bin .neq (.t 30) (.c (.int .i64 0)))]) (.cond (.t 31) (.seq (.reg [mO 32 10,mO 6 32]) (.ret)) (.skip)))))))) (.reg [oO 33 (.bin .add (.t 13) (.c (.int .i64 1))),mO 13 33]))))))) (.seq (.seq (.reg [mO 34 0,oO 35 (.len false (.t 34)),mO 36 1,oO 37 (.len false (.t 36)),oO 38 (.bin .lss (.t 35) (.t 37))]) (.cond (.t 38) (.seq (.reg [oO 6 (.mv (.c (.int .i64 (-1))))]) (.ret)) (.skip))) (.seq (.reg [oO 6 (.mv (.c (.int .i64 0)))]) (.ret)))),res := [(6,none)] }
def c314 : VF := { code := .seq (.reg [oO 4 (.nw 4),oO 5 (.mv (.c (.bool false)))]) (.seq (.seq (.reg [mO 10 1,oO 11 (.len false (.t 10)),mO 12 0,oO 13 (.len false (.t 12)),oO 14 (.bin .neq (.t 11) (.t 13))]) (.cond (.t 14) (.seq (.reg [oO 4 (.nw 4),oO 5 (.mv (.c (.bool false)))]) (.ret)) (.skip))) (.seq (.reg [oO 6 (.nw 4)]) (.seq (.seq (.reg [mO 15 0,oO 16 (.len false (.t 15)),oO 17 (.mv (.c (.int .i64 0)))]) (.block 0 (.loop [1,6,15,16,17] (.seq (.reg [oO 18 (.bin .lss (.t 17) (.t 16))]) (.seq (.cond (.t 18) (.skip) (.exit 0)) (.seq (.block 1 (.seq (.reg [mO 19 17,oO 20 (.ia none 6 (.t 15) (.t 17)),oO 21 (.ld true 6 (.t 20)),oO 8 (.al [.int .i64 0,.str [],.sl .ex 4 [],.int .i64 0,.sl .ex 5 [],.sl .ex 5 []] []),mO 7 19,nO (.st true 6 (.t 8) (.t 21))]) (.seq (.reg [oO 9 (.mv (.c (.bool false)))]) (.seq (.drw [⟨0,[],oO 23 (.fa 1 (.t 8)),false,[]⟩,⟨1,[0],oO 24 (.ld true 2 (.t 23)),false,[]⟩,⟨2,[],mO 25 1,false,[]⟩,⟨3,[],mO 26 7,false,[]⟩,⟨4,[2,3],oO 27 (.ia none 2 (.t 25) (.t 26)),false,[]⟩,⟨5,[2,3,4],oO 28 (.ld true 2 (.t 27)),false,[]⟩,⟨6,[],mO 29 6,false,[]⟩,⟨7,(rO 7),oO 30 (.call 324 [(.t 24),(.t 28),(.t 29)]),false,[]⟩,⟨8,(rO 8),mO 22 30,false,[]⟩,⟨9,(rO 9),oO 31 (.ex (.t 22) 0),false,[]⟩,⟨10,(rO 9),oO 32 (.ex (.t 22) 1),false,[]⟩,⟨11,(rO 10),mO 6 31,false,[]⟩,⟨12,(rO 12),mO 9 32,false,[]⟩]) (.seq (.reg [mO 33 9,oO 34 (.not (.t 33))]) (.cond (.t 34) (.seq (.reg [oO 4 (.nw 4),oO 5 (.mv (.c (.bool false)))]) (.ret)) (.skip))))))) (.reg [oO 35 (.bin .add (.t 17) (.c (.int .i64 1))),mO 17 35]))))))) (.seq (.reg [mO 36 6,mO 4 36,oO 5 (.mv (.c (.bool true)))]) (.ret))))),res := [(4,none),(5,none)] }
def c315 : VF := { code := .seq (.reg [oO 1 (.bx (.t 0) []),oO 2 (.nw 6)]) (.seq (.reg [oO 3 (.fa 2 (.t 1)),oO 4 (.ld false 1 (.t 3)),oO 5 (.call 205 [(.t 4)]),oO 6 (.call 204 [(.t 5),(.c (.fn 325 [] []))]),mO 2 6]) (.ret)),res := [(2,none)] }
def c316 : VF := { code := .seq (.reg [oO 4 (.al [.int .i64 0,.int .i64 0,.str []] []),oO 5 (.mv (.c (.int .i64 0)))]) (.seq (.reg [mO 12 0,oO 13 (.call 191 [(.t 12)]),mO 6 13]) (.seq (.seq (.reg [mO 14 6,oO 15 (.bin .eql (.t 14) (.c (.int .i64 0)))]) (.cond (.t 15) (.reg [mO 16 1,oO 17 (.call 50 [(.t 16)]),mO 6 17]) (.skip))) (.seq (.seq (.reg [mO 18 6,oO 19 (.bin .neq (.t 18) (.c (.int .i64 0)))]) (.cond (.t 19) (.seq (.reg [oO 20 (.bd [.int .i64 0,.int .i64 0,.str []] []),mO 21 6,nO (.st true 3 (.t 4) (.t 20)),mO 5 21]) (.ret)) (.skip))) (.seq (.reg [oO 7 (.nm 3)]) (.seq (.seq (.reg [mO 22 0,oO 23 (.len false (.t 22)),oO 24 (.mv (.c (.int .i64 0)))]) (.block 0 (.loop [1,4,7,22,23,24] (.seq (.reg [oO 25 (.bin .lss (.t 24) (.t 23))]) (.seq (.cond (.t 25) (.skip) (.exit 0)) (.seq (.block 1 (.seq (.reg [oO 26 (.ia none 5 (.t 22) (.t 24)),oO 27 (.ld true 5 (.t 26)),oO 9 (.al [.int .i64 0,.str [],.int .i64 0,.int .i64 0,.str []] []),nO (.st true 5 (.t 9) (.t 27))]) (.seq (.reg [oO 10 (.al [.int .i64 0,.int .i64 0,.str []] [])]) (.seq (.seq (.reg [oO 28 (.fa 0 (.t 9)),oO 29 (.ld false 1 (.t 28)),oO 30 (.call 244 [(.t 29)])]) (.cond (.t 30) (.reg [oO 32 (.ld true 5 (.t 9)),mO 33 1,oO 34 (.call 326 [(.t 32),(.t 33)]),mO 31 34,oO 35 (.ex (.t 31) 0),oO 36 (.ex (.t 31) 1),nO (.st true 3 (.t 10) (.t 35)),mO 6 36]) (.seq (.reg [mO 37 7,oO 38 (.len false (.t 37)),oO 39 (.bin .sub (.t 38) (.c (.int .i64 2))),mO 11 39]) (.seq (.drw [⟨0,[],oO 41 (.fa 0 (.t 9)),false,[]⟩,⟨1,[0],oO 42 (.ld false 1 (.t 41)),false,[]⟩,⟨2,[],mO 43 7,false,[]⟩,⟨3,[],mO 44 11,false,[]⟩,⟨4,[2,3],oO 45 (.ia none 3 (.t 43) (.t 44)),false,[]⟩,⟨5,[2,3,4],oO 46 (.ld true 3 (.t 45)),false,[]⟩,⟨6,[],mO 47 7,false,[]⟩,⟨7,[],mO 48 11,false,[]⟩,⟨8,[7],oO 49 (.bin .add (.t 48) (.c (.int .i64 1))),false,[]⟩,⟨9,[6,7,8],oO 50 (.ia none 3 (.t 47) (.t 49)),false,[]⟩,⟨10,[6,7,8,9],oO 51 (.ld true 3 (.t 50)),false,[]⟩,⟨11,(rO 11),oO 52 (.call 327 [(.t 42),(.t 46),(.t 51)]),false,[]⟩,⟨12,(rO 12),mO 40 52,false,[]⟩,⟨13,(rO 13),oO 53 (.ex (.t 40) 0),false,[]⟩,⟨14,(rO 13),oO 54 (.ex (.t 40) 1),false,[]⟩,⟨15,(rO 14),nO (.st true 3 (.t 10) (.t 53)),true,[]⟩,⟨16,(rO 16),mO 6 54,false,[]⟩]) (.reg [mO 55 7,mO 56 11,oO 57 (.cut false 3 (.t 55) none (some (.t 56)) none),mO 7 57]))))) (.seq (.seq (.reg [mO 58 6,oO 59 (.bin .neq (.t 58) (.c (.int .i64 0)))]) (.cond (.t 59) (.seq (.reg [oO 60 (.bd [.int .i64 0,.int .i64 0,.str []] []),mO 61 6,nO (.st true 3 (.t 4) (.t 60)),mO 5 61]) (.ret)) (.skip))) (.reg [mO 62 7,oO 63 (.ld true 3 (.t 10)),oO 64 (.bm 3 [(.t 63)]),oO 65 (.am 3 (.t 62) (.t 64)),mO 7 65])))))) (.reg [oO 66 (.bin .add (.t 24) (.c (.int .i64 1))),mO 24 66]))))))) (.seq (.reg [mO 67 7,oO 68 (.ia none 3 (.t 67) (.c (.int .i64 0))),oO 69 (.ld true 3 (.t 68)),nO (.st true 3 (.t 4) (.t 69)),oO 5 (.mv (.c (.int .i64 0)))]) (.ret))))))),res := [(4,some (true,3)),(5,none)] }
def c317 : VF := { code := .seq (.reg [oO 2 (.mv (.c (.int .i64 0)))]) (.seq (.seq (.reg [mO 6 0,oO 7 (.len false (.t 6)),oO 8 (.mv (.c (.int .i64 0)))]) (.block 0 (.loop [6,7,8] (.seq (.reg [oO 9 (.bin .lss (.t 8) (.t 7))]) (.seq (.cond (.t 9) (.skip) (.exit 0)) (.seq (.block 1 (.seq (.reg [oO 10 (.ia none 1 (.t 6) (.t 8)),oO 11 (.ld false 1 (.t 10)),mO 4 11]) (.seq (.reg [mO 12 4,oO 13 (.call 163 [(.t 12)]),mO 5 13]) (.seq (.reg [mO 14 5,oO 15 (.bin .neq (.t 14) (.c (.int .i64 0)))]) (.cond (.t 15) (.seq (.reg [mO 16 5,mO 2 16]) (.ret)) (.skip)))))) (.reg [oO 17 (.bin .add (.t 8) (.c (.int .i64 1))),mO 8 17]))))))) (.seq (.reg [oO 2 (.mv (.c (.int .i64 0)))]) (.ret))),res := [(2,none)] }
def c322 : VF := { code := .seq (.reg [mO 10 1,oO 11 (.bin .add (.t 10) (.c (.int .i64 1))),mO 8 11]) (.block 0 (.loop [0,1,2,3,8] (.seq (.seq (.reg [mO 12 8,mO 13 2,oO 14 (.bin .lss (.t 12) (.t 13))]) (.cond (.t 14) (.skip) (.exit 0))) (.seq (.block 1 (.seq (.reg [mO 17 8,mO 9 17]) (.block 2 (.loop [0,1,2,3,8,9] (.seq (.seq (.drw [⟨0,[],mO 18 9,false,[]⟩,⟨1,[],mO 19 1,false,[]⟩,⟨2,[0,1],oO 20 (.bin .gtr (.t 18) (.t 19)),false,[]⟩,⟨3,[0,1,2],mO 21 20,false,[]⟩,⟨4,(rO 4),⟨some 22,.mv (.t 3),some (21,true)⟩,false,[]⟩,⟨5,(rO 4),⟨some 23,.mv (.t 0),some (21,true)⟩,false,[]⟩,⟨6,(rO 4),⟨some 24,.mv (.t 9),some (21,true)⟩,false,[]⟩,⟨7,[0,1,2,3,5,6],⟨some 25,.ia none 2 (.t 23) (.t 24),some (21,true)⟩,false,[]⟩,⟨8,[0,1,2,3,5,6,7],⟨some 26,.ld true 2 (.t 25),some (21,true)⟩,false,[]⟩,⟨9,(rO 4),⟨some 27,.mv (.t 0),some (21,true)⟩,false,[]⟩,⟨10,(rO 4),⟨some 28,.mv (.t 9),some (21,true)⟩,false,[]⟩,⟨11,[0,1,2,3,10],⟨some 29,.bin .sub (.t 28) (.c (.int .i64 1)),some (21,true)⟩,false,[]⟩,⟨12,[0,1,2,3,9,10,11],⟨some 30,.ia none 2 (.t 27) (.t 29),some (21,true)⟩,false,[]⟩,⟨13,[0,1,2,3,9,10,11,12],⟨some 31,.ld true 2 (.t 30),some (21,true)⟩,false,[]⟩,⟨14,(rO 14),⟨some 32,.cv (.t 22) [(.t 26),(.t 31)],some (21,true)⟩,true,[]⟩,⟨15,(rO 15),⟨some 33,.bin .lss (.t 32) (.c (.int .i64 0)),some (21,true)⟩,false,[]⟩,⟨16,(rO 16),oO 34 (.pick (.t 21) (.t 33) (.c (.bool false))),false,[]⟩]) (.cond (.t 34) (.skip) (.exit 2))) (.seq (.block 3 (.drw [⟨0,[],mO 37 0,false,[]⟩,⟨1,[],mO 38 9,false,[]⟩,⟨2,[],mO 39 0,false,[]⟩,⟨3,[],mO 40 9,false,[]⟩,⟨4,[3],oO 41 (.bin .sub (.t 40) (.c (.int .i64 1))),false,[]⟩,⟨5,[],mO 42 0,false,[]⟩,⟨6,[],mO 43 9,false,[]⟩,⟨7,[6],oO 44 (.bin .sub (.t 43) (.c (.int .i64 1))),false,[]⟩,⟨8,[5,6,7],oO 45 (.ia none 2 (.t 42) (.t 44)),false,[]⟩,⟨9,[5,6,7,8],oO 46 (.ld true 2 (.t 45)),false,[]⟩,⟨10,[],mO 47 0,false,[]⟩,⟨11,[],mO 48 9,false,[]⟩,⟨12,[10,11],oO 49 (.ia none 2 (.t 47) (.t 48)),false,[]⟩,⟨13,[10,11,12],oO 50 (.ld true 2 (.t 49)),false,[]⟩,⟨14,[0,1,5,6,7,8,9,10,11,12,13],oO 51 (.ia none 2 (.t 37) (.t 38)),false,[]⟩,⟨15,[0,1,5,6,7,8,9,10,11,12,13,14],nO (.st true 2 (.t 51) (.t 46)),true,[]⟩,⟨16,(rO 16),oO 52 (.ia none 2 (.t 39) (.t 41)),false,[]⟩,⟨17,(rO 17),nO (.st true 2 (.t 52) (.t 50)),true,[]⟩])) (.reg [mO 35 9,oO 36 (.bin .sub (.t 35) (.c (.int .i64 1))),mO 9 36]))))))) (.reg [mO 15 8,oO 16 (.bin .add (.t 15) (.c (.int .i64 1))),mO 8 16]))))),res := [] }
def c324 : VF := { code := .seq (.reg [oO 3 (.bx (.t 0) []),oO 4 (.bx (.t 1) []),oO 6 (.nw 4),oO 7 (.mv (.c (.bool false)))]) (.seq (.seq (.reg [oO 13 (.ld true 2 (.t 3)),oO 14 (.call 130 [(.t 13)]),oO 15 (.bin .neq (.t 14) (.c (.int .i64 0))),mO 16 15,⟨some 17,.ld true 2 (.t 4),some (16,false)⟩,⟨some 18,.call 166 [(.t 17)],some (16,false)⟩,⟨some 19,.bin .neq (.t 18) (.c (.int .i64 0)),some (16,false)⟩,oO 20 (.pick (.t 16) (.c (.bool true)) (.t 19)),mO 21 20,⟨some 22,.mv (.t 2),some (21,false)⟩,⟨some 23,.call 50 [(.t 22)],some (21,false)⟩,⟨some 24,.bin .neq (.t 23) (.c (.int .i64 0)),some (21,false)⟩,oO 25 (.pick (.t 21) (.c (.bool true)) (.t 24)),mO 26 25,⟨some 27,.fa 0 (.t 3),some (26,false)⟩,⟨some 28,.ld false 1 (.t 27),some (26,false)⟩,⟨some 29,.fa 0 (.t 4),some (26,false)⟩,⟨some 30,.ld false 1 (.t 29),some (26,false)⟩,⟨some 31,.bin .neq (.t 28) (.t 30),some (26,false)⟩,oO 32 (.pick (.t 26) (.c (.bool true)) (.t 31)),mO 33 32,⟨some 34,.fa 1 (.t 3),some (33,false)⟩,⟨some 35,.ld false 1 (.t 34),some (33,false)⟩,⟨some 36,.len false (.t 35),some (33,false)⟩,⟨some 37,.fa 1 (.t 4),some (33,false)⟩,⟨some 38,.ld false 1 (.t 37),some (33,false)⟩,⟨some 39,.len false (.t 38),some (33,false)⟩,⟨some 40,.bin .neq (.t 36) (.t 39),some (33,false)⟩,oO 41 (.pick (.t 33) (.c (.bool true)) (.t 40))]) (.cond (.t 41) (.seq (.reg [oO 6 (.nw 4),oO 7 (.mv (.c (.bool false)))]) (.ret)) (.skip))) (.seq (.reg [mO 42 2,oO 43 (.call 331 [(.t 42)]),mO 8 43]) (.seq (.seq (.reg [oO 44 (.fa 1 (.t 3)),oO 45 (.ld false 1 (.t 44)),oO 46 (.len false (.t 45)),oO 47 (.mv (.c (.int .i64 0)))]) (.block 0 (.loop [4,8,45,46,47] (.seq (.reg [oO 48 (.bin .lss (.t 47) (.t 46))]) (.seq (.cond (.t 48) (.skip) (.exit 0)) (.seq (.block 1 (.seq (.reg [mO 49 47,oO 50 (.ia none 4 (.t 45) (.t 47)),oO 51 (.ld true 4 (.t 50)),oO 10 (.al [.str [],.int .i64 0,.int .i64 0,.str []] []),mO 9 49,nO (.st true 4 (.t 10) (.t 51))]) (.seq (.seq (.reg [oO 52 (.fa 0 (.t 10)),oO 53 (.ld false 1 (.t 52)),oO 54 (.bin .eql (.t 53) (.c (.str [])))]) (.cond (.t 54) (.seq (.seq (.drw [⟨0,[],oO 55 (.fa 1 (.t 10)),false,[]⟩,⟨1,[0],oO 56 (.ld true 3 (.t 55)),false,[]⟩,⟨2,[],oO 57 (.fa 1 (.t 4)),false,[]⟩,⟨3,[2],oO 58 (.ld false 1 (.t 57)),false,[]⟩,⟨4,[],mO 59 9,false,[]⟩,⟨5,[2,3,4],oO 60 (.ia none 3 (.t 58) (.t 59)),false,[]⟩,⟨6,[2,3,4,5],oO 61 (.ld true 3 (.t 60)),false,[]⟩,⟨7,(rO 7),oO 62 (.eqs true [1,1,2] (.t 56) (.t 61)),false,[]⟩]) (.cond (.t 62) (.seq (.reg [oO 6 (.nw 4),oO 7 (.mv (.c (.bool false)))]) (.ret)) (.skip))) (.exit 1)) (.skip))) (.seq (.drw [⟨0,[],mO 64 8,false,[]⟩,⟨1,[],oO 65 (.fa 0 (.t 10)),false,[]⟩,⟨2,[1],oO 66 (.ld false 1 (.t 65)),false,[]⟩,⟨3,[],oO 67 (.fa 1 (.t 4)),false,[]⟩,⟨4,[3],oO 68 (.ld false 1 (.t 67)),false,[]⟩,⟨5,[],mO 69 9,false,[]⟩,⟨6,[3,4,5],oO 70 (.ia none 3 (.t 68) (.t 69)),false,[]⟩,⟨7,[3,4,5,6],oO 71 (.ld true 3 (.t 70)),false,[]⟩,⟨8,(rO 8),oO 72 (.call 332 [(.t 64),(.t 66),(.t 71)]),false,[]⟩,⟨9,(rO 9),mO 63 72,false,[]⟩,⟨10,(rO 10),oO 73 (.ex (.t 63) 0),false,[]⟩,⟨11,(rO 10),oO 74 (.ex (.t 63) 1),false,[]⟩,⟨12,(rO 11),mO 11 73,false,[]⟩,⟨13,(rO 13),mO 12 74,false,[]⟩]) (.seq (.seq (.reg [mO 75 12,oO 76 (.not (.t 75))]) (.cond (.t 76) (.seq (.reg [oO 6 (.nw 4),oO 7 (.mv (.c (.bool false)))]) (.ret)) (.skip))) (.reg [mO 77 11,mO 8 77])))))) (.reg [oO 78 (.bin .add (.t 47) (.c (.int .i64 1))),mO 47 78]))))))) (.seq (.reg [mO 79 8,mO 6 79,oO 7 (.mv (.c (.bool true)))]) (.ret))))),res := [(6,none),(7,none)] }
def c325 : VF := { code := .seq (.reg [oO 1 (.bx (.t 0) []),oO 2 (.mv (.c (.bool false)))]) (.seq (.reg [oO 3 (.fa 0 (.t 1)),oO 4 (.ld false 1 (.t 3)),oO 5 (.bin .neq (.t 4) (.c (.int .i64 1))),mO 2 5]) (.ret)),res := [(2,none)] }
def c326 : VF := { code := .seq (.reg [oO 2 (.bx (.t 0) []),oO 4 (.al [.int .i64 0,.int .i64 0,.str []] []),oO 5 (.mv (.c (.int .i64 0)))]) (.seq (.seq (.reg [oO 8 (.fa 0 (.t 2)),oO 9 (.ld false 1 (.t 8)),oO 10 (.bin .eql (.t 9) (.c (.int .i64 2)))]) (.cond (.t 10) (.seq (.reg [oO 11 (.fa 2 (.t 2)),oO 12 (.ld true 3 (.t 11)),nO (.st true 3 (.t 4) (.t 12)),oO 5 (.mv (.c (.int .i64 0)))]) (.ret)) (.skip))) (.seq (.reg [mO 14 1,oO 15 (.fa 1 (.t 2)),oO 16 (.ld false 1 (.t 15)),oO 17 (.call 53 [(.t 14),(.t 16)]),mO 13 17,oO 18 (.ex (.t 13) 0),oO 19 (.ex (.t 13) 1),oO 6 (.al [.int .i64 0,.int .i64 0,.str []] []),nO (.st true 3 (.t 6) (.t 18)),mO 7 19]) (.seq (.seq (.reg [mO 20 7,oO 21 (.not (.t 20))]) (.cond (.t 21) (.seq (.reg [oO 22 (.bd [.int .i64 0,.int .i64 0,.str []] []),nO (.st true 3 (.t 4) (.t 22)),oO 5 (.mv (.c (.int .i64 5)))]) (.ret)) (.skip))) (.seq (.reg [oO 23 (.ld true 3 (.t 6)),nO (.st true 3 (.t 4) (.t 23)),oO 5 (.mv (.c (.int .i64 0)))]) (.ret))))),res := [(4,some (true,3)),(5,none)] }
def c332 : VF := { code := .seq (.reg [oO 5 (.bx (.t 2) []),oO 6 (.nw 4),oO 7 (.mv (.c (.bool false)))]) (.seq (.seq (.reg [mO 8 1,oO 9 (.ld true 3 (.t 5)),oO 10 (.bd [.str [],.int .i64 0,.int .i64 0,.str []] [(0,1,(.t 8)),(1,3,(.t 9))]),oO 11 (.call 106 [(.t 10)]),oO 12 (.not (.t 11))]) (.cond (.t 12) (.seq (.reg [oO 6 (.nw 4),oO 7 (.mv (.c (.bool false)))]) (.ret)) (.skip))) (.seq (.reg [mO 13 0,mO 14 1,oO 15 (.ld true 3 (.t 5)),oO 16 (.bd [.str [],.int .i64 0,.int .i64 0,.str []] [(0,1,(.t 14)),(1,3,(.t 15))]),oO 17 (.bl 4 [(.t 16)]),oO 18 (.call 335 [(.t 13),(.t 17)]),oO 19 (.ex (.t 18) 0),oO 20 (.ex (.t 18) 1),mO 6 19,mO 7 20]) (.ret))),res := [(6,none),(7,none)] }
def c335 : VF := { code := .seq (.reg [oO 4 (.nw 4),oO 5 (.mv (.c (.bool false)))]) (.seq (.seq (.reg [mO 7 0,oO 8 (.call 50 [(.t 7)]),oO 9 (.bin .neq (.t 8) (.c (.int .i64 0))),mO 10 9,⟨some 11,.mv (.t 1),some (10,false)⟩,⟨some 12,.call 50 [(.t 11)],some (10,false)⟩,⟨some 13,.bin .neq (.t 12) (.c (.int .i64 0)),some (10,false)⟩,oO 14 (.pick (.t 10) (.c (.bool true)) (.t 13))]) (.cond (.t 14) (.seq (.reg [oO 4 (.nw 4),oO 5 (.mv (.c (.bool false)))]) (.ret)) (.skip))) (.seq (.reg [mO 15 0,mO 16 1,oO 17 (.bl 1 [(.t 15),(.t 16)]),oO 18 (.call 339 [(.t 17)]),mO 6 18]) (.seq (.reg [mO 19 6,oO 20 (.call 340 [(.t 19),(.c (.fn 341 [] []))])]) (.seq (.reg [mO 21 6,oO 22 (.call 342 [(.t 21)]),oO 6 (.fz (.t 22))]) (.seq (.seq (.reg [mO 23 6,oO 24 (.call 50 [(.t 23)]),oO 25 (.bin .neq (.t 24) (.c (.int .i64 0)))]) (.cond (.t 25) (.seq (.reg [oO 4 (.nw 4),oO 5 (.mv (.c (.bool false)))]) (.ret)) (.skip))) (.seq (.reg [mO 26 6,mO 4 26,oO 5 (.mv (.c (.bool true)))]) (.ret))))))),res := [(4,none),(5,none)] }
def c339 : VF := { code := .seq (.reg [oO 2 (.nm 4)]) (.seq (.reg [oO 3 (.mv (.c (.int .i64 0)))]) (.seq (.seq (.reg [mO 9 0,oO 10 (.len false (.t 9)),oO 11 (.mv (.c (.int .i64 0)))]) (.block 0 (.loop [0,3,9,10,11] (.seq (.reg [oO 12 (.bin .lss (.t 11) (.t 10))]) (.seq (.cond (.t 12) (.skip) (.exit 0)) (.seq (.block 1 (.seq (.reg [oO 13 (.ia none 1 (.t 9) (.t 11)),oO 14 (.ld false 1 (.t 13)),mO 5 14]) (.seq (.reg [mO 15 3,mO 16 5,oO 17 (.len false (.t 16)),oO 18 (.bin .add (.t 15) (.t 17)),mO 3 18]) (.seq (.reg [mO 19 3,oO 20 (.bin .lss (.t 19) (.c (.int .i64 0)))]) (.cond (.t 20) (.reg [oO 21 (.mi 9 (.c (.str [108,101,110,32,111,117,116,32,111,102,32,114,97,110,103,101]))),nO (.bad)]) (.skip)))))) (.reg [oO 22 (.bin .add (.t 11) (.c (.int .i64 1))),mO 11 22]))))))) (.seq (.reg [mO 23 3,oO 24 (.call 345 [(.c (.sl .ex 4 [])),(.t 23)]),mO 6 24]) (.seq (.seq (.reg [mO 25 0,oO 26 (.len false (.t 25)),oO 27 (.mv (.c (.int .i64 0)))]) (.block 2 (.loop [6,25,26,27] (.seq (.reg [oO 28 (.bin .lss (.t 27) (.t 26))]) (.seq (.cond (.t 28) (.skip) (.exit 2)) (.seq (.block 3 (.seq (.reg [oO 29 (.ia none 1 (.t 25) (.t 27)),oO 30 (.ld false 1 (.t 29)),mO 8 30]) (.reg [mO 31 6,mO 32 8,oO 33 (.am 4 (.t 31) (.t 32)),mO 6 33]))) (.reg [oO 34 (.bin .add (.t 27) (.c (.int .i64 1))),mO 27 34]))))))) (.seq (.reg [mO 35 6,mO 2 35]) (.ret)))))),res := [(2,none)],keepR := true }
def c340 : VF := { code := .reg [mO 4 0,mO 5 0,oO 6 (.len false (.t 5)),mO 7 1,oO 8 (.call 346 [(.t 4),(.t 6),(.t 7)])],res := [] }
def c341 : VF := { code := .seq (.reg [oO 2 (.bx (.t 0) []),oO 3 (.bx (.t 1) []),oO 4 (.mv (.c (.int .i64 0)))]) (.seq (.reg [oO 5 (.fa 0 (.t 2)),oO 6 (.ld false 1 (.t 5)),oO 7 (.fa 0 (.t 3)),oO 8 (.ld false 1 (.t 7)),oO 9 (.call 261 [(.t 6),(.t 8)]),mO 4 9]) (.ret)),res := [(4,none)] }
def c342 : VF := { code := .seq (.reg [oO 2 (.nw 4)]) (.seq (.seq (.reg [mO 6 0,oO 7 (.len false (.t 6)),oO 8 (.bin .lss (.t 7) (.c (.int .i64 2)))]) (.cond (.t 8) (.seq (.reg [mO 9 0,mO 2 9]) (.ret)) (.skip))) (.seq (.seq (.reg [oO 3 (.mv (.c (.int .i64 1)))]) (.block 0 (.loop [0,3] (.seq (.seq (.reg [mO 10 3,mO 11 0,oO 12 (.len false (.t 11)),oO 13 (.bin .lss (.t 10) (.t 12))]) (.cond (.t 13) (.skip) (.exit 0))) (.seq (.block 1 (.seq (.drw [⟨0,[],mO 16 0,false,[]⟩,⟨1,[],mO 17 3,false,[]⟩,⟨2,[0,1],oO 18 (.ia none 4 (.t 16) (.t 17)),false,[]⟩,⟨3,[0,1,2],oO 19 (.ld true 4 (.t 18)),false,[]⟩,⟨4,[],mO 20 0,false,[]⟩,⟨5,[],mO 21 3,false,[]⟩,⟨6,[5],oO 22 (.bin .sub (.t 21) (.c (.int .i64 1))),false,[]⟩,⟨7,[4,5,6],oO 23 (.ia none 4 (.t 20) (.t 22)),false,[]⟩,⟨8,[4,5,6,7],oO 24 (.ld true 4 (.t 23)),false,[]⟩,⟨9,(rO 9),oO 25 (.eqs false [2,1,1,2] (.t 19) (.t 24)),false,[]⟩]) (.cond (.t 25) (.seq (.reg [mO 26 0,mO 27 3,oO 28 (.cut false 4 (.t 26) (some (.t 27)) none none),mO 4 28]) (.seq (.seq (.reg [oO 5 (.mv (.c (.int .i64 1)))]) (.block 2 (.loop [0,3,4,5] (.seq (.seq (.reg [mO 29 5,mO 30 4,oO 31 (.len false (.t 30)),oO 32 (.bin .lss (.t 29) (.t 31))]) (.cond (.t 32) (.skip) (.exit 2))) (.seq (.block 3 (.seq (.drw [⟨0,[],mO 35 4,false,[]⟩,⟨1,[],mO 36 5,false,[]⟩,⟨2,[0,1],oO 37 (.ia none 4 (.t 35) (.t 36)),false,[]⟩,⟨3,[0,1,2],oO 38 (.ld true 4 (.t 37)),false,[]⟩,⟨4,[],mO 39 4,false,[]⟩,⟨5,[],mO 40 5,false,[]⟩,⟨6,[5],oO 41 (.bin .sub (.t 40) (.c (.int .i64 1))),false,[]⟩,⟨7,[4,5,6],oO 42 (.ia none 4 (.t 39) (.t 41)),false,[]⟩,⟨8,[4,5,6,7],oO 43 (.ld true 4 (.t 42)),false,[]⟩,⟨9,(rO 9),oO 44 (.eqs true [2,1,1,2] (.t 38) (.t 43)),false,[]⟩]) (.cond (.t 44) (.seq (.reg [mO 45 0,mO 46 3,mO 47 4,mO 48 5,oO 49 (.ia none 4 (.t 47) (.t 48)),oO 50 (.ld true 4 (.t 49)),oO 51 (.ia none 4 (.t 45) (.t 46)),nO (.st true 4 (.t 51) (.t 50))]) (.reg [mO 52 3,oO 53 (.bin .add (.t 52) (.c (.int .i64 1))),mO 3 53])) (.skip)))) (.reg [mO 33 5,oO 34 (.bin .add (.t 33) (.c (.int .i64 1))),mO 5 34])))))) (.seq (.reg [mO 54 0,mO 55 3,oO 56 (.cut false 4 (.t 54) (some (.t 55)) none none),nO (.clr [.str [],.int .i64 0,.int .i64 0,.str []] (.t 56))]) (.seq (.reg [mO 57 0,mO 58 3,oO 59 (.cut false 4 (.t 57) none (some (.t 58)) none),mO 2 59]) (.ret))))) (.skip)))) (.reg [mO 14 3,oO 15 (.bin .add (.t 14) (.c (.int .i64 1))),mO 3 15])))))) (.seq (.reg [mO 60 0,mO 2 60]) (.ret)))),res := [(2,none)],keepR := true }
def c345 : VF := { code := .seq (.reg [oO 4 (.nm 4)]) (.seq (.seq (.reg [mO 5 1,oO 6 (.bin .lss (.t 5) (.c (.int .i64 0)))]) (.cond (.t 6) (.reg [oO 7 (.mi 9 (.c (.str [99,97,110,110,111,116,32,98,101,32,110,101,103,97,116,105,118,101]))),nO (.bad)]) (.skip))) (.seq (.seq (.reg [mO 8 1,mO 9 0,oO 10 (.cap (.t 9)),mO 11 0,oO 12 (.len false (.t 11)),oO 13 (.bin .sub (.t 10) (.t 12)),oO 14 (.bin .sub (.t 8) (.t 13)),mO 1 14]) (.seq (.reg [mO 15 1,oO 16 (.bin .gtr (.t 15) (.c (.int .i64 0)))]) (.cond (.t 16) (.reg [mO 17 0,mO 18 0,oO 19 (.cap (.t 18)),oO 20 (.cut false 4 (.t 17) none (some (.t 19)) none),mO 21 1,oO 22 (.az true [.str [],.int .i64 0,.int .i64 0,.str []] (.t 20) (.t 21)),mO 23 0,oO 24 (.len false (.t 23)),oO 25 (.cut false 4 (.t 22) none (some (.t 24)) none),mO 0 25]) (.skip)))) (.seq (.reg [mO 26 0,mO 4 26]) (.ret)))),res := [(4,none)],keepR := true }
def c346 : VF := { code := .seq (.reg [oO 6 (.mv (.c (.int .i64 20)))]) (.seq (.reg [mO 10 6,oO 7 (.mv (.c (.int .i64 0))),mO 8 10]) (.seq (.block 0 (.loop [0,1,2,6,7,8] (.seq (.seq (.reg [mO 11 8,mO 12 1,oO 13 (.bin .leq (.t 11) (.t 12))]) (.cond (.t 13) (.skip) (.exit 0))) (.block 1 (.seq (.reg [mO 14 0,mO 15 7,mO 16 8,mO 17 2,oO 18 (.call 347 [(.t 14),(.t 15),(.t 16),(.t 17)])]) (.seq (.reg [mO 19 8,mO 7 19]) (.reg [mO 20 8,mO 21 6,oO 22 (.bin .add (.t 20) (.t 21)),mO 8 22]))))))) (.seq (.reg [mO 23 0,mO 24 7,mO 25 1,mO 26 2,oO 27 (.call 347 [(.t 23),(.t 24),(.t 25),(.t 26)])]) (.block 2 (.loop [0,1,2,6] (.seq (.seq (.reg [mO 28 6,mO 29 1,oO 30 (.bin .lss (.t 28) (.t 29))]) (.cond (.t 30) (.skip) (.exit 2))) (.block 3 (.seq (.reg [mO 31 6,oO 32 (.bin .mul (.c (.int .i64 2)) (.t 31)),oO 7 (.mv (.c (.int .i64 0))),mO 8 32]) (.seq (.block 4 (.loop [0,1,2,6,7,8] (.seq (.seq (.reg [mO 33 8,mO 34 1,oO 35 (.bin .leq (.t 33) (.t 34))]) (.cond (.t 35) (.skip) (.exit 4))) (.block 5 (.seq (.reg [mO 36 0,mO 37 7,mO 38 7,mO 39 6,oO 40 (.bin .add (.t 38) (.t 39)),mO 41 8,mO 42 2,oO 43 (.call 348 [(.t 36),(.t 37),(.t 40),(.t 41),(.t 42)])]) (.seq (.reg [mO 44 8,mO 7 44]) (.reg [mO 45 8,mO 46 6,oO 47 (.bin .mul (.c (.int .i64 2)) (.t 46)),oO 48 (.bin .add (.t 45) (.t 47)),mO 8 48]))))))) (.seq (.seq (.reg [mO 49 7,mO 50 6,oO 51 (.bin .add (.t 49) (.t 50)),mO 9 51]) (.seq (.reg [mO 52 9,mO 53 1,oO 54 (.bin .lss (.t 52) (.t 53))]) (.cond (.t 54) (.reg [mO 55 0,mO 56 7,mO 57 9,mO 58 1,mO 59 2,oO 60 (.call 348 [(.t 55),(.t 56),(.t 57),(.t 58),(.t 59)])]) (.skip)))) (.reg [mO 61 6,oO 62 (.bin .mul (.t 61) (.c (.int .i64 2))),mO 6 62]))))))))))),res := [] }
def c347 : VF := { code := .seq (.reg [mO 10 1,oO 11 (.bin .add (.t 10) (.c (.int .i64 1))),mO 8 11]) (.block 0 (.loop [0,1,2,3,8] (.seq (.seq (.reg [mO 12 8,mO 13 2,oO 14 (.bin .lss (.t 12) (.t 13))]) (.cond (.t 14) (.skip) (.exit 0))) (.seq (.block 1 (.seq (.reg [mO 17 8,mO 9 17]) (.block 2 (.loop [0,1,2,3,8,9] (.seq (.seq (.drw [⟨0,[],mO 18 9,false,[]⟩,⟨1,[],mO 19 1,false,[]⟩,⟨2,[0,1],oO 20 (.bin .gtr (.t 18) (.t 19)),false,[]⟩,⟨3,[0,1,2],mO 21 20,false,[]⟩,⟨4,(rO 4),⟨some 22,.mv (.t 3),some (21,true)⟩,false,[]⟩,⟨5,(rO 4),⟨some 23,.mv (.t 0),some (21,true)⟩,false,[]⟩,⟨6,(rO 4),⟨some 24,.mv (.t 9),some (21,true)⟩,false,[]⟩,⟨7,[0,1,2,3,5,6],⟨some 25,.ia none 4 (.t 23) (.t 24),some (21,true)⟩,false,[]⟩,⟨8,[0,1,2,3,5,6,7],⟨some 26,.ld true 4 (.t 25),some (21,true)⟩,false,[]⟩,⟨9,(rO 4),⟨some 27,.mv (.t 0),some (21,true)⟩,false,[]⟩,⟨10,(rO 4),⟨some 28,.mv (.t 9),some (21,true)⟩,false,[]⟩,⟨11,[0,1,2,3,10],⟨some 29,.bin .sub (.t 28) (.c (.int .i64 1)),some (21,true)⟩,false,[]⟩,⟨12,[0,1,2,3,9,10,11],⟨some 30,.ia none 4 (.t 27) (.t 29),some (21,true)⟩,false,[]⟩,⟨13,[0,1,2,3,9,10,11,12],⟨some 31,.ld true 4 (.t 30),some (21,true)⟩,false,[]⟩,⟨14,(rO 14),⟨some 32,.cv (.t 22) [(.t 26),(.t 31)],some (21,true)⟩,true,[]⟩,⟨15,(rO 15),⟨some 33,.bin .lss (.t 32) (.c (.int .i64 0)),some (21,true)⟩,false,[]⟩,⟨16,(rO 16),oO 34 (.pick (.t 21) (.t 33) (.c (.bool false))),false,[]⟩]) (.cond (.t 34) (.skip) (.exit 2))) (.seq (.block 3 (.drw [⟨0,[],mO 37 0,false,[]⟩,⟨1,[],mO 38 9,false,[]⟩,⟨2,[],mO 39 0,false,[]⟩,⟨3,[],mO 40 9,false,[]⟩,⟨4,[3],oO 41 (.bin .sub (.t 40) (.c (.int .i64 1))),false,[]⟩,⟨5,[],mO 42 0,false,[]⟩,⟨6,[],mO 43 9,false,[]⟩,⟨7,[6],oO 44 (.bin .sub (.t 43) (.c (.int .i64 1))),false,[]⟩,⟨8,[5,6,7],oO 45 (.ia none 4 (.t 42) (.t 44)),false,[]⟩,⟨9,[5,6,7,8],oO 46 (.ld true 4 (.t 45)),false,[]⟩,⟨10,[],mO 47 0,false,[]⟩,⟨11,[],mO 48 9,false,[]⟩,⟨12,[10,11],oO 49 (.ia none 4 (.t 47) (.t 48)),false,[]⟩,⟨13,[10,11,12],oO 50 (.ld true 4 (.t 49)),false,[]⟩,⟨14,[0,1,5,6,7,8,9,10,11,12,13],oO 51 (.ia none 4 (.t 37) (.t 38)),false,[]⟩,⟨15,[0,1,5,6,7,8,9,10,11,12,13,14],nO (.st true 4 (.t 51) (.t 46)),true,[]⟩,⟨16,(rO 16),oO 52 (.ia none 4 (.t 39) (.t 41)),false,[]⟩,⟨17,(rO 17),nO (.st true 4 (.t 52) (.t 50)),true,[]⟩])) (.reg [mO 35 9,oO 36 (.bin .sub (.t 35) (.c (.int .i64 1))),mO 9 36]))))))) (.reg [mO 15 8,oO 16 (.bin .add (.t 15) (.c (.int .i64 1))),mO 8 16]))))),res := [] }
def c368 : VF := { code := .seq (.reg [oO 2 (.nw 2)]) (.seq (.reg [mO 3 0,oO 4 (.nc (.t 3)),oO 5 (.fa 3 (.t 4)),oO 6 (.ld false 1 (.t 5)),oO 7 (.call 103 [(.t 6)]),mO 2 7]) (.ret)),res := [(2,none)] }
def c369 : VF := { code := .seq (.reg [oO 2 (.nw 2),oO 3 (.mv (.c (.int .i64 0)))]) (.seq (.drw [⟨0,[],mO 4 0,false,[]⟩,⟨1,[0],oO 5 (.nc (.t 4)),false,[]⟩,⟨2,[0,1],oO 6 (.fa 0 (.t 5)),false,[]⟩,⟨3,[0,1,2],oO 7 (.ld true 3 (.t 6)),false,[]⟩,⟨4,[],mO 8 0,false,[]⟩,⟨5,[4],oO 9 (.nc (.t 8)),false,[]⟩,⟨6,[4,5],oO 10 (.fa 3 (.t 9)),false,[]⟩,⟨7,[4,5,6],oO 11 (.ld false 1 (.t 10)),false,[]⟩,⟨8,(rO 8),oO 12 (.call 372 [(.t 7),(.t 11)]),false,[]⟩,⟨9,(rO 9),oO 13 (.ex (.t 12) 0),false,[]⟩,⟨10,(rO 9),oO 14 (.ex (.t 12) 1),false,[]⟩,⟨11,(rO 11),mO 2 13,false,[]⟩,⟨12,(rO 12),mO 3 14,false,[]⟩]) (.ret)),res := [(2,none),(3,none)] }
def c370 : VF := { code := .seq (.reg [oO 3 (.bx (.t 1) []),oO 4 (.mv (.c (.int .i64 0)))]) (.seq (.drw [⟨0,[],mO 6 0,false,[]⟩,⟨1,[],mO 7 0,false,[]⟩,⟨2,[1],oO 8 (.nc (.t 7)),false,[]⟩,⟨3,[1,2],oO 9 (.fa 3 (.t 8)),false,[]⟩,⟨4,[1,2,3],oO 10 (.ld false 1 (.t 9)),false,[]⟩,⟨5,[],oO 11 (.ld true 2 (.t 3)),false,[]⟩,⟨6,[1,2,3,4,5],oO 12 (.call 300 [(.t 10),(.t 11)]),false,[]⟩,⟨7,[1,2,3,4,5,6],mO 5 12,false,[]⟩,⟨8,[1,2,3,4,5,6,7],oO 13 (.ex (.t 5) 0),false,[]⟩,⟨9,[1,2,3,4,5,6,7],oO 14 (.ex (.t 5) 1),false,[]⟩,⟨10,(rO 9),oO 15 (.nc (.t 6)),false,[]⟩,⟨11,[0,1,2,3,4,5,6,7,8,10],oO 16 (.fa 3 (.t 15)),false,[]⟩,⟨12,[0,1,2,3,4,5,6,7,8,10,11],nO (.st false 1 (.t 16) (.t 13)),true,[]⟩,⟨13,(rO 13),mO 4 14,false,[]⟩]) (.seq (.reg [mO 17 4,mO 4 17]) (.ret))),res := [(4,none)] }
def c372 : VF := { code := .seq (.reg [oO 2 (.bx (.t 0) []),oO 3 (.bx (.t 1) []),oO 4 (.nw 2),oO 5 (.mv (.c (.int .i64 0)))]) (.seq (.reg [oO 12 (.ld true 3 (.t 2)),oO 13 (.call 13 [(.t 12)]),mO 5 13]) (.seq (.seq (.reg [mO 14 5,oO 15 (.bin .eql (.t 14) (.c (.int .i64 0)))]) (.cond (.t 15) (.reg [oO 16 (.ld false 1 (.t 3)),oO 17 (.call 163 [(.t 16)]),mO 5 17]) (.skip))) (.seq (.seq (.reg [mO 18 5,oO 19 (.bin .neq (.t 18) (.c (.int .i64 0)))]) (.cond (.t 19) (.seq (.reg [mO 20 5,oO 4 (.nw 2),mO 5 20]) (.ret)) (.skip))) (.seq (.seq (.reg [oO 21 (.fa 1 (.t 2)),oO 22 (.ld false 1 (.t 21)),oO 23 (.len false (.t 22)),oO 24 (.mv (.c (.int .i64 0)))]) (.block 0 (.loop [3,4,22,23,24] (.seq (.reg [oO 25 (.bin .lss (.t 24) (.t 23))]) (.seq (.cond (.t 25) (.skip) (.exit 0)) (.seq (.block 1 (.seq (.reg [mO 26 24,oO 27 (.ia none 4 (.t 22) (.t 24)),oO 28 (.ld true 4 (.t 27)),oO 7 (.al [.str [],.int .i64 0,.sl .ex 6 [],.sl .ex 4 []] []),mO 6 26,nO (.st true 4 (.t 7) (.t 28))]) (.seq (.reg [oO 30 (.fa 2 (.t 7)),oO 31 (.ld false 1 (.t 30)),oO 32 (.mf 376 [] [(.t 3)]),oO 33 (.call 375 [(.t 31),(.t 32)]),mO 29 33,oO 34 (.ex (.t 29) 0),oO 35 (.ex (.t 29) 1),mO 8 34,mO 9 35]) (.seq (.seq (.reg [mO 36 9,oO 37 (.bin .neq (.t 36) (.c (.int .i64 0)))]) (.cond (.t 37) (.seq (.reg [mO 38 9,oO 4 (.nw 2),mO 5 38]) (.ret)) (.skip))) (.seq (.reg [mO 39 8,oO 40 (.len false (.t 39)),oO 41 (.mv (.c (.int .i64 0)))]) (.block 2 (.loop [3,4,6,22,23,24,39,40,41] (.seq (.reg [oO 42 (.bin .lss (.t 41) (.t 40))]) (.seq (.cond (.t 42) (.skip) (.exit 2)) (.seq (.block 3 (.seq (.reg [oO 43 (.ia none 1 (.t 39) (.t 41)),oO 44 (.ld false 1 (.t 43)),mO 11 44]) (.reg [mO 45 4,mO 46 6,mO 47 11,oO 48 (.bd [.int .i64 0,.sl .ex 2 []] [(0,1,(.t 46)),(1,1,(.t 47))]),oO 49 (.bl 2 [(.t 48)]),oO 50 (.app 2 (.t 45) (.t 49)),mO 4 50]))) (.reg [oO 51 (.bin .add (.t 41) (.c (.int .i64 1))),mO 41 51]))))))))))) (.reg [oO 52 (.bin .add (.t 24) (.c (.int .i64 1))),mO 24 52]))))))) (.seq (.reg [mO 53 4,mO 4 53,oO 5 (.mv (.c (.int .i64 0)))]) (.ret)))))),res := [(4,none),(5,none)] }
def c375 : VF := { code := .seq (.reg [oO 2 (.bx (.t 0) []),oO 4 (.nw 1),oO 5 (.mv (.c (.int .i64 0)))]) (.seq (.reg [oO 6 (.al [.sl .ex 1 []] [0])]) (.seq (.reg [oO 8 (.ld false 1 (.t 2)),mO 9 1,oO 10 (.bd [.sl .ex 6 [],.nilf,.nilf,.int .i64 0] [(0,1,(.t 8)),(1,1,(.t 9))]),oO 11 (.bx (.t 10) []),mO 7 11]) (.seq (.reg [mO 12 7,oO 13 (.mf 377 [] [(.t 2),(.t 6)]),oO 14 (.nc (.t 12)),oO 15 (.fa 2 (.t 14)),nO (.st false 1 (.t 15) (.t 13))]) (.seq (.reg [mO 16 7,oO 17 (.call 378 [(.t 16),(.c (.int .i64 0)),(.c (.sl .ex 2 [])),(.c (.sl .ex 4 []))])]) (.seq (.seq (.reg [mO 18 7,oO 19 (.nc (.t 18)),oO 20 (.fa 3 (.t 19)),oO 21 (.ld false 1 (.t 20)),oO 22 (.bin .neq (.t 21) (.c (.int .i64 0)))]) (.cond (.t 22) (.seq (.drw [⟨0,[],mO 23 7,false,[]⟩,⟨1,[0],oO 24 (.nc (.t 23)),false,[]⟩,⟨2,[0,1],oO 25 (.fa 3 (.t 24)),false,[]⟩,⟨3,[0,1,2],oO 26 (.ld false 1 (.t 25)),false,[]⟩,⟨4,[],oO 4 (.nw 1),true,[3]⟩,⟨5,(rO 5),mO 5 26,false,[]⟩]) (.ret)) (.skip))) (.seq (.reg [oO 27 (.ld false 1 (.t 6)),mO 4 27,oO 5 (.mv (.c (.int .i64 0)))]) (.ret))))))),res := [(4,none),(5,none)] }
def c376 : VF := { code := .seq (.reg [oO 3 (.nw 2)]) (.seq (.reg [oO 4 (.ld false 1 (.t 1)),mO 3 4]) (.ret)),res := [(3,none)] }
def c377 : VF := { code := .seq (.reg [oO 6 (.mv (.c (.bool false)))]) (.seq (.seq (.reg [mO 7 0,oO 8 (.ld false 1 (.t 2)),oO 9 (.len false (.t 8)),oO 10 (.bin .eql (.t 7) (.t 9))]) (.cond (.t 10) (.drw [⟨0,[],oO 11 (.ld false 1 (.t 3)),false,[]⟩,⟨1,[],mO 12 1,false,[]⟩,⟨2,[1],oO 13 (.call 103 [(.t 12)]),false,[]⟩,⟨3,[1,2],oO 14 (.bl 1 [(.t 13)]),false,[]⟩,⟨4,(rO 4),oO 15 (.app 1 (.t 11) (.t 14)),true,[]⟩,⟨5,(rO 5),nO (.st false 1 (.t 3) (.t 15)),true,[]⟩]) (.skip))) (.seq (.reg [oO 6 (.mv (.c (.bool true)))]) (.ret))),res := [(6,none)] }
def c378 : VF := { code := .seq (.reg [oO 8 (.mv (.c (.bool false)))]) (.seq (.seq (.reg [mO 10 0,oO 11 (.nc (.t 10)),oO 12 (.fa 2 (.t 11)),oO 13 (.ld false 1 (.t 12)),mO 14 1,mO 15 2,oO 16 (.cv (.t 13) [(.t 14),(.t 15)]),oO 17 (.not (.t 16))]) (.cond (.t 17) (.seq (.reg [oO 8 (.mv (.c (.bool false)))]) (.ret)) (.skip))) (.seq (.seq (.reg [mO 18 1,mO 19 0,oO 20 (.nc (.t 19)),oO 21 (.fa 0 (.t 20)),oO 22 (.ld false 1 (.t 21)),oO 23 (.len false (.t 22)),oO 24 (.bin .eql (.t 18) (.t 23))]) (.cond (.t 24) (.seq (.reg [oO 8 (.mv (.c (.bool true)))]) (.ret)) (.skip))) (.seq (.reg [oO 9 (.mv (.c (.bool true)))]) (.seq (.seq (.reg [mO 25 0,oO 26 (.nc (.t 25)),oO 27 (.fa 0 (.t 26)),oO 28 (.ld false 1 (.t 27)),mO 29 1,oO 30 (.ia none 6 (.t 28) (.t 29)),oO 31 (.fa 0 (.t 30)),oO 32 (.ld false 1 (.t 31))]) (.block 0 (.seq (.reg [oO 49 (.bin .eql (.t 32) (.c (.int .i64 1))),mO 48 49]) (.cond (.t 48) (.seq (.reg [mO 50 0,mO 51 1,mO 52 2,mO 53 3,oO 54 (.call 379 [(.t 50),(.t 51),(.t 52),(.t 53)]),mO 8 54]) (.ret)) (.seq (.reg [oO 56 (.bin .eql (.t 32) (.c (.int .i64 2))),mO 55 56]) (.cond (.t 55) (.reg [mO 57 0,mO 58 1,mO 59 3,oO 60 (.call 380 [(.t 57),(.t 58),(.t 59)]),oO 61 (.not (.t 60)),mO 9 61]) (.reg [mO 34 0,mO 35 0,oO 36 (.nc (.t 35)),oO 37 (.fa 0 (.t 36)),oO 38 (.ld false 1 (.t 37)),mO 39 1,oO 40 (.ia none 6 (.t 38) (.t 39)),oO 41 (.ld true 6 (.t 40)),mO 42 3,oO 43 (.call 381 [(.t 41),(.t 42)]),mO 33 43,oO 44 (.ex (.t 33) 0),oO 45 (.ex (.t 33) 1),mO 9 44,oO 46 (.nc (.t 34)),oO 47 (.fa 3 (.t 46)),nO (.st false 1 (.t 47) (.t 45))]))))))) (.seq (.seq (.reg [mO 62 0,oO 63 (.nc (.t 62)),oO 64 (.fa 3 (.t 63)),oO 65 (.ld false 1 (.t 64)),oO 66 (.bin .neq (.t 65) (.c (.int .i64 0)))]) (.cond (.t 66) (.seq (.reg [oO 8 (.mv (.c (.bool false)))]) (.ret)) (.skip))) (.seq (.reg [mO 67 9,oO 68 (.not (.t 67)),mO 69 68,⟨some 70,.mv (.t 0),some (69,false)⟩,⟨some 71,.mv (.t 1),some (69,false)⟩,⟨some 72,.bin .add (.t 71) (.c (.int .i64 1)),some (69,false)⟩,⟨some 73,.mv (.t 2),some (69,false)⟩,⟨some 74,.mv (.t 3),some (69,false)⟩,⟨some 75,.call 378 [(.t 70),(.t 72),(.t 73),(.t 74)],some (69,false)⟩,oO 76 (.pick (.t 69) (.c (.bool true)) (.t 75)),mO 8 76]) (.ret))))))),res := [(8,none)] }
def c379 : VF := { code := .seq (.reg [oO 8 (.mv (.c (.bool false)))]) (.seq (.seq (.reg [mO 13 0,oO 14 (.nc (.t 13)),oO 15 (.fa 1 (.t 14)),oO 16 (.ld false 1 (.t 15)),mO 17 1,oO 18 (.cv (.t 16) [(.t 17)]),oO 19 (.len false (.t 18)),oO 20 (.mv (.c (.int .i64 0)))]) (.block 0 (.loop [0,1,2,3,18,19,20] (.seq (.reg [oO 21 (.bin .lss (.t 20) (.t 19))]) (.seq (.cond (.t 21) (.skip) (.exit 0)) (.seq (.block 1 (.seq (.reg [oO 22 (.ia none 2 (.t 18) (.t 20)),oO 23 (.ld true 2 (.t 22)),oO 10 (.al [.str [],.sl .ex 3 []] []),nO (.st true 2 (.t 10) (.t 23))]) (.seq (.drw [⟨0,[],mO 25 0,false,[]⟩,⟨1,[0],oO 26 (.nc (.t 25)),false,[]⟩,⟨2,[0,1],oO 27 (.fa 0 (.t 26)),false,[]⟩,⟨3,[0,1,2],oO 28 (.ld false 1 (.t 27)),false,[]⟩,⟨4,[],mO 29 1,false,[]⟩,⟨5,(rO 5),oO 30 (.ia none 6 (.t 28) (.t 29)),false,[]⟩,⟨6,(rO 6),oO 31 (.fa 1 (.t 30)),false,[]⟩,⟨7,(rO 7),oO 32 (.ld true 2 (.t 31)),false,[]⟩,⟨8,[],oO 33 (.ld true 2 (.t 10)),false,[]⟩,⟨9,[],mO 34 3,false,[]⟩,⟨10,(rO 10),oO 35 (.call 324 [(.t 32),(.t 33),(.t 34)]),false,[]⟩,⟨11,(rO 11),mO 24 35,false,[]⟩,⟨12,(rO 12),oO 36 (.ex (.t 24) 0),false,[]⟩,⟨13,(rO 12),oO 37 (.ex (.t 24) 1),false,[]⟩,⟨14,(rO 13),mO 11 36,false,[]⟩,⟨15,(rO 15),mO 12 37,false,[]⟩]) (.seq (.drw [⟨0,[],mO 38 12,false,[]⟩,⟨1,[0],mO 39 38,false,[]⟩,⟨2,[0,1],⟨some 40,.mv (.t 0),some (39,true)⟩,false,[]⟩,⟨3,[0,1],⟨some 41,.mv (.t 1),some (39,true)⟩,false,[]⟩,⟨4,[0,1,3],⟨some 42,.bin .add (.t 41) (.c (.int .i64 1)),some (39,true)⟩,false,[]⟩,⟨5,[0,1],⟨some 43,.mv (.t 2),some (39,true)⟩,false,[]⟩,⟨7,[0,1],⟨some 45,.ld true 2 (.t 10),some (39,true)⟩,false,[]⟩,⟨8,[0,1,7],⟨some 46,.bl 2 [(.t 45)],some (39,true)⟩,false,[]⟩,⟨10,[0,1],⟨some 48,.mv (.t 11),some (39,true)⟩,false,[]⟩,⟨6,[0,1,5],⟨some 44,.call 382 [(.t 43)],some (39,true)⟩,true,[7]⟩,⟨9,[0,1,5,6,7,8],⟨some 47,.app 2 (.t 44) (.t 46),some (39,true)⟩,true,[]⟩,⟨11,(rO 11),⟨some 49,.call 378 [(.t 40),(.t 42),(.t 47),(.t 48)],some (39,true)⟩,true,[]⟩,⟨12,(rO 12),⟨some 50,.not (.t 49),some (39,true)⟩,false,[]⟩,⟨13,(rO 13),oO 51 (.pick (.t 39) (.t 50) (.c (.bool false))),false,[]⟩]) (.cond (.t 51) (.seq (.reg [oO 8 (.mv (.c (.bool false)))]) (.ret)) (.skip)))))) (.reg [oO 52 (.bin .add (.t 20) (.c (.int .i64 1))),mO 20 52]))))))) (.seq (.reg [oO 8 (.mv (.c (.bool true)))]) (.ret))),res := [(8,none)] }
def c380 : VF := { code := .seq (.reg [oO 3 (.bx (.t 0) []),oO 4 (.bx (.t 1) []),oO 5 (.bx (.t 2) []),oO 6 (.mv (.c (.bool false)))]) (.seq (.drw [⟨0,[],oO 7 (.ld false 1 (.t 3)),false,[]⟩,⟨1,[0],oO 8 (.nc (.t 7)),false,[]⟩,⟨2,[0,1],oO 9 (.fa 1 (.t 8)),false,[]⟩,⟨3,[0,1,2],oO 10 (.ld false 1 (.t 9)),false,[]⟩,⟨4,[],oO 11 (.ld false 1 (.t 4)),false,[]⟩,⟨6,[],oO 13 (.mf 383 [] [(.t 3),(.t 4),(.t 5)]),false,[]⟩,⟨5,(rO 5),oO 12 (.cv (.t 10) [(.t 11)]),true,[]⟩,⟨7,(rO 7),oO 14 (.call 164 [(.t 12),(.t 13)]),false,[]⟩,⟨8,(rO 8),mO 6 14,false,[]⟩]) (.ret)),res := [(6,none)] }
def c382 : VF := { code := .seq (.reg [oO 2 (.nw 2)]) (.seq (.reg [mO 3 0,mO 4 0,oO 5 (.len false (.t 4)),mO 6 0,oO 7 (.len false (.t 6)),oO 8 (.cut false 2 (.t 3) none (some (.t 5)) (some (.t 7))),mO 2 8]) (.ret)),res := [(2,none)],keepR := true }
def c383 : VF := { code := .seq (.reg [oO 4 (.bx (.t 0) []),oO 5 (.mv (.c (.bool false)))]) (.seq (.drw [⟨0,[],oO 9 (.ld false 1 (.t 1)),false,[]⟩,⟨1,[0],oO 10 (.nc (.t 9)),false,[]⟩,⟨2,[0,1],oO 11 (.fa 0 (.t 10)),false,[]⟩,⟨3,[0,1,2],oO 12 (.ld false 1 (.t 11)),false,[]⟩,⟨4,[],oO 13 (.ld false 1 (.t 2)),false,[]⟩,⟨5,(rO 5),oO 14 (.ia none 6 (.t 12) (.t 13)),false,[]⟩,⟨6,(rO 6),oO 15 (.fa 1 (.t 14)),false,[]⟩,⟨7,(rO 7),oO 16 (.ld true 2 (.t 15)),false,[]⟩,⟨8,[],oO 17 (.ld true 2 (.t 4)),false,[]⟩,⟨9,[],oO 18 (.ld false 1 (.t 3)),false,[]⟩,⟨10,(rO 10),oO 19 (.call 324 [(.t 16),(.t 17),(.t 18)]),false,[]⟩,⟨11,(rO 11),mO 8 19,false,[]⟩,⟨12,(rO 12),oO 20 (.ex (.t 8) 0),false,[]⟩,⟨13,(rO 12),oO 21 (.ex (.t 8) 1),false,[]⟩,⟨14,(rO 13),mO 6 20,false,[]⟩,⟨15,(rO 15),mO 7 21,false,[]⟩]) (.seq (.reg [mO 22 7,mO 5 22]) (.ret))),res := [(5,none)] }
end Go.Vm

/-
  The machine V: a function's end; slices.Clone, whose test for nil V cannot answer.
-/
namespace Go.Vm
open Go Go.RowKit

section
variable {P : Program} {G : Gh} {KW : World → Prop} {B : Bd KW} {n : Nat} {w : World}

theorem body_end {fn : Func} {F : VF} {G' : Gh} {s0 s1 : St} {a' : Act} {w' : World} {v : V} {sg' : List Fr} {wd : Nat} (htr : trRes P fn.results.toList F.res = true) (sa : SA n G' B s1 a' w') (mo : Mo G B s0 w G' s1 w')
    (hl : leave F s1 = some (v, sg', wd)) {e : Exit} (he : e = .normal ∨ e = .ret) :
    bodyPost P fn (fun | .returned cv, w' => ∃ G', RetR G B s0.sg sg' v w G' cv w' | _, _ => False) e a' w' := by
  have hl' := hl
  unfold leave at hl'
  obtain ⟨vs, hvs, _⟩ := bind_some' hl'
  obtain ⟨cv, hcv, hRR⟩ := results_ok (fn := fn) sa.sr htr hvs
  obtain ⟨G2, ret⟩ := leave_ok sa.sr hvs hRR hl
  have hfin : a'.defers = [] ∧ ∃ v', (results fn a'.tmps).run P w' = .ok v' w' ∧ ∃ G', RetR G B s0.sg sg' v w G' v' w' := by
    refine ⟨sa.df, cv, hcv, G2, ret.wr, mo.im.trans ret.im, ?_, ?_, ?_, mo.be.trans ret.be⟩
    · have h1 := mo.up
      have h2 := ret.up
      rw [mo.ln] at h2
      exact h1.trans h2
    · exact ret.ln.trans mo.ln
    · have h2 := ret.v
      rw [mo.ln] at h2
      exact h2
  rcases he with rfl | rfl
  · exact hfin
  · exact hfin

theorem run_eqsl {d : Nat} {t e : TypeId} (ht : P.underlying t = some (.slice e)) (b : Option Addr) (x c : Nat) : (Op.equalIn (d + 1) t (.slice b x c) (.slice none 0 0)).run P w = .ok b.isNone w := by
  cases b <;> simp [Op.equalIn, run_underlying ht]
theorem eqg_sl {op : BinOp} {t : TypeId} {x y : Operand} {b : Option Addr} {n c : Nat} : (eqGuard op t x y (.slice b n c) (.slice none 0 0)).run P w = .ok () w := by
  unfold eqGuard; split <;> rfl
theorem run_eqs_nil {t e : TypeId} (ht : P.underlying t = some (.slice e)) (b : Option Addr) (x c : Nat) : (binOp .eql t (.slice b x c) (.slice none 0 0)).run P w = .ok (.bool b.isNone) w :=
  run_eql_other (P := P) (w := w) (n := false) (.inl ⟨rfl, rfl⟩) ⟨fun _ _ h => (by cases h), fun _ _ h => (by cases h), fun _ _ _ h => (by cases h), fun _ h => (by cases h)⟩ (run_eqsl (P := P) (w := w) (d := 9999) ht b x c)

theorem upd_if (e : Nat → V) (t : Nat) (v : V) (u : Nat) : upd e t v u = if u = t then v else e u := by
  unfold upd
  by_cases h : u = t
  · subst h; simp
  · rw [if_neg h]
    have : Nat.beq u t = false := by
      cases hb : Nat.beq u t with
      | false => rfl
      | true => exact absurd (Nat.eq_of_beq_eq_true hb) h
    rw [this]; rfl
theorem ble0 (n : Nat) : Nat.ble 0 n = true := Nat.ble_eq_true_of_le (Nat.zero_le n)
theorem beq_self (n : Nat) : Nat.beq n n = true := Nat.beq_refl n

/-- the two codes of slices.Clone: behind the test, yes and no; m: what it makes may be written -/
def cloneT (z : Nat) (m : Bool) : VC := .seq (.reg [⟨some 2, bif m then .nm z else .mv (.c (.sl .ex z [])), none⟩]) .ret
def cloneF (z : Nat) (m : Bool) : VC := .seq (.reg [⟨some 5, bif m then .bm z [] else .bl z [], none⟩, ⟨some 6, .mv (.t 0), none⟩, ⟨some 7, bif m then .am z (.t 5) (.t 6) else .app z (.t 5) (.t 6), none⟩, ⟨some 2, .mv (.t 7), none⟩]) .ret
def cloneVF (m : Bool) : VF := { code := .bad, res := [(2, none)], keepR := m }

/-- the code of slices.Clone, as it is -/
structure CloneFn (P : Program) (z : Nat) (m : Bool) (fn : Func) : Prop where
  nm : (fn.name == "runtime.NumGoroutine") = false
  ex : ∃ (i0 i1 : Nat) (ops0 : Array Oper) (o3 o4 : Oper) (c1 c2 : Code) (t t' e : TypeId),
    fn.body = some (.seq (.region i0 ops0 false) (.seq (.seq (.region i1 #[o3, o4] false) (.cond (.tmp 4) c1 .skip)) c2)) ∧
    trReg fn.ntmps P ops0 0 [⟨some 2, .mv (.c (.sl .ex z [])), none⟩] = true ∧
    trStep fn.ntmps P #[o3, o4] o3 ⟨some 3, .mv (.t 0), none⟩ = true ∧
    o4.op = .binOp .eql t (.tmp 3) (.const (.slice none 0 0)) t' ∧ o4.dst = some 4 ∧ o4.guard = none ∧ 4 < fn.ntmps ∧ P.underlying t = some (.slice e) ∧
    trC fn.ntmps P (cloneT z m) c1 = true ∧ trC fn.ntmps P (cloneF z m) c2 = true
  rs : trRes P fn.results.toList [(2, none)] = true

/-- what slices.Clone answers -/
def cloneR (z : Nat) (es : List V) (sg : List Fr) : Bool → Option (V × List Fr × Nat)
  | false => some (.sl .no z es, sg, 0)
  | true => match sg with
    | f :: r => some (.bs 0 f.length es.length 0 es.length, (f ++ [.arr es.length z es]) :: r, 1)
    | [] => none
/-- an element that may be copied -/
def cloneX (L : FuncId → Option (Nat × Bool)) : Call := fun f as sg =>
  match L f, as with
  | some (z, m), [.sl _ z' es] => bif Nat.beq z z' && (Nat.ble es.length lim && (!m || es.all cel)) then cloneR z es sg m else none
  | _, _ => none

theorem cloneX_q (L : FuncId → Option (Nat × Bool)) : CallQ (cloneX L) := by
  intro f as sg v sg' wd h
  unfold cloneX at h
  split at h
  · have h1 := bif_same h
    rename_i m _ _ _ _
    cases m with
    | false =>
      simp only [cloneR, Option.some.injEq, Prod.mk.injEq] at h1
      obtain ⟨_, rfl, _⟩ := h1
      exact ⟨rfl, fun _ _ => rfl⟩
    | true =>
      cases sg with
      | nil => cases h1
      | cons fr r =>
        simp only [cloneR, Option.some.injEq, Prod.mk.injEq] at h1
        obtain ⟨_, rfl, rfl⟩ := h1
        refine ⟨rfl, fun d hd => ?_⟩
        obtain ⟨k, rfl⟩ : ∃ k, d = k + 1 := ⟨d - 1, by omega⟩
        rfl
  · cases h

def noCall : Call := fun _ _ _ => none
theorem noCall_ok : CallOk KW P noCall := fun _ _ _ _ _ _ h => by cases h
theorem noCall_q : CallQ noCall := fun _ _ _ _ _ _ h => by cases h

theorem cloneT_run {z : Nat} {m : Bool} {C : Cfg} {call : Call} {s : St} (hfr : s.fr = []) (hwd : s.wd = 0) {R : V × List Fr × Nat} (hR : cloneR z [] s.sg m = some R) :
    ∃ S, execF C call 1 (cloneT z m) s = some (.ret, S) ∧ leave (cloneVF m) S = some R := by
  obtain ⟨tm, fr, sg, wd⟩ := s
  simp only at hfr hwd hR
  subst hfr; subst hwd
  cases m with
  | false =>
    cases hR
    exact ⟨_, rfl, rfl⟩
  | true =>
    cases sg with
    | nil => cases hR
    | cons f r =>
      cases hR
      exact ⟨_, rfl, rfl⟩

theorem cloneF_run {tk : Tok} {z : Nat} {m : Bool} {es : List V} {C : Cfg} {call : Call} {s : St} (h0 : s.tm 0 = .sl tk z es) (hfr : s.fr = []) (hwd : s.wd = 0) (hl : es.length ≤ lim) (hc : m = true → es.all cel = true) {R : V × List Fr × Nat} (hR : cloneR z es s.sg m = some R) :
    ∃ S, execF C call 1 (cloneF z m) s = some (.ret, S) ∧ leave (cloneVF m) S = some R := by
  obtain ⟨tm, fr, sg, wd⟩ := s
  simp only at h0 hfr hwd hR
  subst hfr; subst hwd
  cases m with
  | false =>
    cases hR
    cases es with
    | nil =>
      refine ⟨{ tm := upd (upd (upd (upd tm 5 (.sl .ex z [])) 6 (.sl tk z [])) 7 (.sl .ex z [])) 2 (.sl .ex z []), fr := [], sg, wd := 0 }, ?_, rfl⟩
      simp [cloneF, execF, runL, stepV, want, opV, Vm.put, rd, upd_if, beq_self, ble0, h0, els, appV, elV, lim]
    | cons e es =>
      have hl' : Nat.ble (es.length + 1) lim = true := Nat.ble_eq_true_of_le (by simpa using hl)
      refine ⟨{ tm := upd (upd (upd (upd tm 5 (.sl .ex z [])) 6 (.sl tk z (e :: es))) 7 (.sl (.at 0 0 (es.length + 1)) z (e :: es))) 2 (.sl (.at 0 0 (es.length + 1)) z (e :: es)), fr := [.tok (es.length + 1)], sg, wd := 0 }, ?_, rfl⟩
      simp [cloneF, execF, runL, stepV, want, opV, Vm.put, rd, upd_if, beq_self, ble0, h0, els, appV, elV, hl']
  | true =>
    cases sg with
    | nil => cases hR
    | cons f r =>
      cases hR
      have hc' := hc rfl
      cases es with
      | nil =>
        refine ⟨{ tm := upd (upd (upd (upd tm 5 (.bs 0 0 0 0 0)) 6 (.sl tk z [])) 7 (.bs 0 0 0 0 0)) 2 (.bs 0 0 0 0 0), fr := [.arr 0 z []], sg := f :: r, wd := 0 }, ?_, rfl⟩
        simp [cloneF, execF, runL, stepV, want, opV, Vm.put, rd, upd_if, beq_self, ble0, h0, els, amV, elV, lim, St.get, getB]
      | cons e es =>
        have hl' : Nat.ble (es.length + 1) lim = true := Nat.ble_eq_true_of_le (by simpa using hl)
        have hc1 : cel e = true := by simp at hc'; exact hc'.1
        have hc2 : es.all cel = true := by simp at hc'; simpa using hc'.2
        refine ⟨{ tm := upd (upd (upd (upd tm 5 (.bs 0 0 0 0 0)) 6 (.sl tk z (e :: es))) 7 (.bs 0 0 (es.length + 1) 0 (es.length + 1))) 2 (.bs 0 0 (es.length + 1) 0 (es.length + 1)), fr := [.arr (es.length + 1) z (e :: es)], sg := f :: r, wd := 0 }, ?_, rfl⟩
        simp [cloneF, execF, runL, stepV, want, opV, Vm.put, rd, upd_if, beq_self, ble0, h0, els, amV, elV, hl', St.get, getB, St.set, hc1, hc2]

theorem cloneX_ok {L : FuncId → Option (Nat × Bool)} (hm : P.follows .mixedOrders = true) (hL : ∀ f z m, L f = some (z, m) → ∃ fn, P.funcs[f]? = some fn ∧ CloneFn P z m fn) : CallOk KW P (cloneX L) := by
  intro f as sg v sg' wd h G B w A hwr hA hR
  unfold cloneX at h
  split at h
  case h_2 => cases h
  rename_i z m tk z' es hf
  obtain ⟨hb, h1⟩ := bif_opt' h
  simp only [Bool.and_eq_true] at hb
  have hz := Nat.eq_of_beq_eq_true hb.1
  have hlim := Nat.le_of_ble_eq_true hb.2.1
  have hcel : m = true → es.all cel = true := fun e => by have := hb.2.2; rw [e] at this; simpa using this
  subst hz
  obtain ⟨fn, hfn, hnm, ⟨i0, i1, ops0, o3, o4, c1, c2, t, t', e, hbody, hr0, ht3, h4, h4d, h4g, h4n, ht, hc1, hc2⟩, hrs⟩ := hL f z m hf
  have hrun : (callFunc f A).run P w = .ok (.enter f A) w := by
    simp [callFunc, hfn, hbody]
    intro h
    rw [h] at hnm
    simp at hnm
  let C0 : Cfg := { keepA := fun _ => false }
  let s0 : St := { tm := env [.sl tk z es], fr := [], sg := sg, wd := 0 }
  have hsa : SA fn.ntmps G B s0 { tmps := A ++ Array.replicate (fn.ntmps - A.size) undef, defers := [] } w := by
    refine ⟨⟨hwr, fun t => ?_⟩, by simp; omega, rfl⟩
    show VR _ _ sg.length (env [.sl tk z es] t) _
    rw [env_get]
    cases ht : ([.sl tk z es] : List V)[t]? with
    | none => exact .und _
    | some x =>
      have hlt : t < A.size := by rw [hA]; exact (List.getElem?_eq_some_iff.1 ht).1
      have hy : (A ++ Array.replicate (fn.ntmps - A.size) undef).getD t undef = A[t] := by
        simp [Array.getElem?_append_left hlt, hlt]
      rw [hy]
      exact hR t x A[t] ht (by simp [hlt])
  refine .inl ⟨hrun, calls_of_wp hfn hbody ?_⟩
  refine wp_seq (wp_region ?_)
  rw [List.range_eq_range']
  refine reg_ok (C := C0) noCall_ok _ 0 G s0 _ w hr0 hsa rfl fun a1 w1 G1 sa1 mo1 => ?_
  refine wp_seq (wp_seq (wp_region ?_))
  show wpOps P #[o3, o4] _ [0, 1] a1 w1
  rw [Go.wpOps_cons]
  refine step_ok (C := C0) noCall_ok ht3 sa1 (by rfl) rfl fun a2 w2 G2 sa2 mo2 => ?_
  rw [Go.wpOps_cons]
  have mo12 := mo1.trans mo2
  -- what the test says
  have hx : VR G2.im G2.ph sg.length (.sl tk z es) (a2.tmps.getD 3 undef) := by
    have h3 := sa2.sr.tr 3
    exact h3
  obtain ⟨ad, cap, g, hcv, _, hcap, ha, _⟩ := hx.sl_inv.sl_inv
  have h4run : (execOp a2.eval o4).run P w2 = .ok (.value (.bool ad.isNone)) w2 := by
    have e1 : a2.eval (.tmp 3) = .slice ad es.length cap := hcv
    have e2 : a2.eval (.const (.slice none 0 0)) = .slice none 0 0 := rfl
    simp only [execOp, h4, e1, e2, Sem.run_bind, eqg_sl, Result.andThen_ok, run_eqs_nil ht, Sem.run_pure]
  refine wpOp_do (o := o4) (by rfl) (by simp [Region.wanted, h4g]) ?_
  unfold Oper.wp
  rw [h4run, Oper.upon_value]
  simp only [wpOps]
  -- the state behind the test
  let s3 : St := Vm.put s0 (some 0) (.sl tk z es)
  have sa3 : ∀ s2 : St, SA fn.ntmps G2 B s2 a2 w2 → SA fn.ntmps G2 B (Vm.put s2 (some 4) (.bool ad.isNone)) (a2.put o4.dst (.bool ad.isNone)) w2 := fun s2 sa => by
    rw [h4d]
    exact ⟨sa.sr.put (.quiet sa.sr.wr (.pr _ _ (.bool _))) (fun t e => by cases e; exact Nat.lt_of_lt_of_le h4n sa.sz), by rw [Act.put_size]; exact sa.sz, by rw [Act.put_defers]; exact sa.df⟩
  have sa4 := sa3 _ sa2
  have heval : (a2.put o4.dst (.bool ad.isNone)).eval (.tmp 4) = .bool ad.isNone := by
    have h0 := sa4.sr.tr 4
    exact h0.bool_inv
  refine wp_cond_split heval (fun hn => ?_) (fun hn => ?_)
  · have h0 : es = [] := by
      cases ad with
      | none => exact List.eq_nil_of_length_eq_zero (by have := ha rfl; omega)
      | some _ => cases hn
    subst h0
    obtain ⟨S, hS, hlv⟩ := cloneT_run (C := C0) (call := noCall) (z := z) (m := m) (s := Vm.put (Vm.put (Vm.put s0 (some 2) (.sl .ex z [])) (some 3) (.sl tk z [])) (some 4) (.bool ad.isNone)) rfl rfl h1
    refine code_ok (C := C0) noCall_ok noCall_q hm 1 (cloneT z m) c1 G2 _ _ _ _ .ret _ hc1 sa4 hS fun a5 w5 G5 sa5 mo5 => ?_
    have moA : Mo G B s0 w G5 _ w5 := mo12.trans ⟨mo5.im, mo5.up, mo5.ln, mo5.be⟩
    exact body_end (F := cloneVF m) hrs sa5 moA hlv (.inr rfl)
  · obtain ⟨S, hS, hlv⟩ := cloneF_run (C := C0) (call := noCall) (z := z) (m := m) (es := es) (tk := tk) (s := Vm.put (Vm.put (Vm.put s0 (some 2) (.sl .ex z [])) (some 3) (.sl tk z es)) (some 4) (.bool ad.isNone)) rfl rfl rfl hlim hcel h1
    refine wp_skip ?_
    show Code.wp P c2 (bodyPost P fn _) _ _
    refine code_ok (C := C0) noCall_ok noCall_q hm 1 (cloneF z m) c2 G2 _ _ _ _ .ret _ hc2 sa4 hS fun a5 w5 G5 sa5 mo5 => ?_
    have moA : Mo G B s0 w G5 _ w5 := mo12.trans ⟨mo5.im, mo5.up, mo5.ln, mo5.be⟩
    exact body_end (F := cloneVF m) hrs sa5 moA hlv (.inr rfl)

end
end Go.Vm

/-
  The machine V: more fuel changes no answer; what is there in the end.
-/
namespace Go.Vm
open Go

/-- what the one answers the other answers too -/
def CallLe (c c' : Call) : Prop := ∀ f as sg r, c f as sg = some r → c' f as sg = some r
theorem CallLe.refl (c : Call) : CallLe c c := fun _ _ _ _ h => h
theorem CallLe.trans {a b c : Call} (h : CallLe a b) (k : CallLe b c) : CallLe a c := fun f as sg r e => k f as sg r (h f as sg r e)

/-- it asks calls, finitely often: more answers change nothing, and what a limit gives a stage gives -/
def Good {α : Type} (A : Nat → Call) (W : Call) (F : Call → Option α) : Prop :=
  (∀ c c', CallLe c c' → ∀ r, F c = some r → F c' = some r) ∧ (∀ r, F W = some r → ∃ m, F (A m) = some r)
def GoodB (A : Nat → Call) (W : Call) (F : Call → Bool) : Prop :=
  (∀ c c', CallLe c c' → F c = true → F c' = true) ∧ (F W = true → ∃ m, F (A m) = true)

section
variable {A : Nat → Call} {W : Call} {α β : Type}

theorem good_const (x : Option α) : Good A W (fun _ => x) := ⟨fun _ _ _ _ h => h, fun _ h => ⟨0, h⟩⟩

theorem good_bind (hA : ∀ m n, m ≤ n → CallLe (A m) (A n)) {F : Call → Option α} {K : α → Call → Option β} (hF : Good A W F) (hK : ∀ a, Good A W (K a)) :
    Good A W (fun c => (F c).bind fun a => K a c) := by
  refine ⟨fun c c' hc r h => ?_, fun r h => ?_⟩
  · obtain ⟨a, h1, h2⟩ := Option.bind_eq_some_iff.1 h
    exact Option.bind_eq_some_iff.2 ⟨a, hF.1 c c' hc a h1, (hK a).1 c c' hc r h2⟩
  · obtain ⟨a, h1, h2⟩ := Option.bind_eq_some_iff.1 h
    obtain ⟨m, h3⟩ := hF.2 a h1
    obtain ⟨n, h4⟩ := (hK a).2 r h2
    refine ⟨max m n, Option.bind_eq_some_iff.2 ⟨a, hF.1 _ _ (hA _ _ (Nat.le_max_left _ _)) a h3, (hK a).1 _ _ (hA _ _ (Nat.le_max_right _ _)) r h4⟩⟩

theorem good_map {F : Call → Option α} {g : α → β} (hF : Good A W F) : Good A W (fun c => (F c).map g) := by
  refine ⟨fun c c' hc r h => ?_, fun r h => ?_⟩
  · obtain ⟨a, h1, h2⟩ := Option.map_eq_some_iff.1 h
    exact Option.map_eq_some_iff.2 ⟨a, hF.1 c c' hc a h1, h2⟩
  · obtain ⟨a, h1, h2⟩ := Option.map_eq_some_iff.1 h
    obtain ⟨m, h3⟩ := hF.2 a h1
    exact ⟨m, Option.map_eq_some_iff.2 ⟨a, h3, h2⟩⟩

theorem good_guard (hA : ∀ m n, m ≤ n → CallLe (A m) (A n)) {F : Call → Bool} {K : Call → Option α} (hF : GoodB A W F) (hK : Good A W K) :
    Good A W (fun c => bif F c then K c else none) := by
  refine ⟨fun c c' hc r h => ?_, fun r h => ?_⟩
  · cases hb : F c with
    | false => simp [hb] at h
    | true => simp only [hb, cond_true] at h; simp only [hF.1 c c' hc hb, cond_true]; exact hK.1 c c' hc r h
  · cases hb : F W with
    | false => simp [hb] at h
    | true =>
      simp only [hb, cond_true] at h
      obtain ⟨m, h3⟩ := hF.2 hb
      obtain ⟨n, h4⟩ := hK.2 r h
      exact ⟨max m n, by simp only [hF.1 _ _ (hA _ _ (Nat.le_max_left _ _)) h3, cond_true]; exact hK.1 _ _ (hA _ _ (Nat.le_max_right _ _)) r h4⟩

theorem GoodB.congr {F G : Call → Bool} (h : GoodB A W F) (e : ∀ c, G c = F c) : GoodB A W G := by
  have : G = F := funext e
  rw [this]; exact h
theorem goodB_const (b : Bool) : GoodB A W (fun _ => b) := ⟨fun _ _ _ h => h, fun h => ⟨0, h⟩⟩
theorem goodB_and (hA : ∀ m n, m ≤ n → CallLe (A m) (A n)) {F K : Call → Bool} (hF : GoodB A W F) (hK : GoodB A W K) : GoodB A W (fun c => F c && K c) := by
  refine ⟨fun c c' hc h => ?_, fun h => ?_⟩
  · simp only [Bool.and_eq_true] at h ⊢
    exact ⟨hF.1 c c' hc h.1, hK.1 c c' hc h.2⟩
  · simp only [Bool.and_eq_true] at h
    obtain ⟨m, h3⟩ := hF.2 h.1
    obtain ⟨n, h4⟩ := hK.2 h.2
    exact ⟨max m n, by simp only [hF.1 _ _ (hA _ _ (Nat.le_max_left _ _)) h3, hK.1 _ _ (hA _ _ (Nat.le_max_right _ _)) h4, Bool.and_self]⟩
theorem goodB_all (hA : ∀ m n, m ≤ n → CallLe (A m) (A n)) {γ : Type} {F : γ → Call → Bool} (hF : ∀ x, GoodB A W (F x)) : ∀ l : List γ, GoodB A W (fun c => l.all fun x => F x c)
  | [] => goodB_const true
  | x :: l => goodB_and hA (hF x) (goodB_all hA hF l)
/-- an answer that is asked for a test -/
theorem goodB_test {F : Call → Option α} {g : α → Bool} (hF : Good A W F) : GoodB A W (fun c => match F c with | some a => g a | none => false) := by
  refine ⟨fun c c' hc h => ?_, fun h => ?_⟩
  · cases hb : F c with
    | none => simp [hb] at h
    | some a => simp only [hb] at h; simp only [hF.1 c c' hc a hb, h]
  · cases hb : F W with
    | none => simp [hb] at h
    | some a =>
      simp only [hb] at h
      obtain ⟨m, h3⟩ := hF.2 a hb
      exact ⟨m, by simp only [h3, h]⟩

/-- the chain's limit -/
def Limit (A : Nat → Call) (W : Call) : Prop := (∀ m n, m ≤ n → CallLe (A m) (A n)) ∧ ∀ f as sg r, W f as sg = some r → ∃ m, A m f as sg = some r

theorem good_call (hL : Limit A W) (f : FuncId) (as : List V) (sg : List Fr) : Good A W (fun c => c f as sg) :=
  ⟨fun _ _ hc r h => hc _ _ _ _ h, fun r h => hL.2 _ _ _ _ h⟩

variable {C : Cfg}
theorem good_doCall (hL : Limit A W) (f : FuncId) (as : List V) (s : St) : Good A W (fun c => doCall C c f as s) := by
  have h := good_bind (K := fun (r : V × List Fr × Nat) (_ : Call) => (match r with | (v, fr :: sg, wd) => some (v, { s with fr, sg, wd := max s.wd (wd - 1) }) | _ => none : Option (V × St))) hL.1 (good_call hL f (as.map (argV (C.keepA f))) (s.fr :: s.sg)) (fun a => good_const _)
  have e : (fun c : Call => doCall C c f as s) = fun c => (c f (as.map (argV (C.keepA f))) (s.fr :: s.sg)).bind fun r => (match r with | (v, fr :: sg, wd) => some (v, { s with fr, sg, wd := max s.wd (wd - 1) }) | _ => none : Option (V × St)) := by
    funext c
    unfold doCall
    cases c f (as.map (argV (C.keepA f))) (s.fr :: s.sg) with
    | none => rfl
    | some x => obtain ⟨v, _ | ⟨fr, sg⟩, wd⟩ := x <;> rfl
  rw [e]; exact h

theorem good_opV (hL : Limit A W) (o : VO) (s : St) : Good A W (fun c => opV C c o s) := by
  cases o with
  | call f as => exact good_doCall hL f _ s
  | cv f as =>
    show Good A W (fun c => doFn C c (rd s.tm f) (as.map (rd s.tm)) s)
    unfold doFn
    cases rd s.tm f <;> first | exact good_const none | exact good_doCall hL _ _ s
  | inv x m as =>
    show Good A W (fun c => match rd s.tm x with
      | .iface t v => (methF t m).bind fun f => doCall C c f (v :: as.map (rd s.tm)) s
      | _ => none)
    cases rd s.tm x <;> first | exact good_const none | skip
    exact good_bind hL.1 (good_const _) fun f => good_doCall hL f _ s
  | ia n sz x i => cases n <;> exact good_const _
  | _ => exact good_const _

theorem good_stepV (hL : Limit A W) (o : VOp) (s : St) : Good A W (fun c => stepV C c o s) := by
  unfold stepV
  cases want s o.g with
  | none => exact good_const _
  | some b => cases b with
    | false => exact good_const _
    | true => exact good_map (good_opV hL o.o s)

theorem good_runL (hL : Limit A W) : ∀ (os : List VOp) (s : St), Good A W (fun c => runL C c os s)
  | [], s => good_const _
  | o :: os, s => good_bind hL.1 (good_stepV hL o s) fun s1 => good_runL hL os s1

theorem good_callP (hL : Limit A W) (f : FuncId) (as : List V) (s : St) : Good A W (fun c => callP C c f as s) := by
  have h := good_bind (K := fun (r : V × List Fr × Nat) (_ : Call) => bif Nat.beq r.2.2 0 then some r.1 else none) hL.1 (good_call hL f (as.map (argV (C.keepA f))) (s.fr :: s.sg)) (fun a => good_const _)
  have e : (fun c : Call => callP C c f as s) = fun c => (c f (as.map (argV (C.keepA f))) (s.fr :: s.sg)).bind fun r => bif Nat.beq r.2.2 0 then some r.1 else none := by
    funext c
    unfold callP
    cases c f (as.map (argV (C.keepA f))) (s.fr :: s.sg) <;> rfl
  rw [e]; exact h
theorem good_opP (hL : Limit A W) (o : VO) (s : St) : Good A W (fun c => opP C c o s) := by
  have key : Good A W (fun c => bif pureO o then (opV C c o s).map (·.1) else none) := by
    cases pureO o with
    | false => exact good_const none
    | true => exact good_map (good_opV hL o s)
  cases o with
  | call f as => exact good_callP hL f _ s
  | cv f as =>
    show Good A W (fun c => fnP C c (rd s.tm f) (as.map (rd s.tm)) s)
    unfold fnP
    cases rd s.tm f <;> first | exact good_const none | exact good_callP hL _ _ s
  | _ => exact key
theorem good_stepP (hL : Limit A W) (o : VOp) (s : St) : Good A W (fun c => stepP C c o s) := by
  unfold stepP
  cases want s o.g with
  | none => exact good_const _
  | some b => cases b with
    | false => exact good_const _
    | true => exact good_map (good_opP hL o.o s)
theorem good_again (hL : Limit A W) (s : St) (o : VOp) : GoodB A W (fun c => again C c s o) := by
  unfold again
  cases want s o.g with
  | none => exact goodB_const _
  | some b => cases b with
    | false => exact goodB_const _
    | true =>
      cases o.d with
      | none => exact (goodB_const false).congr fun c => by cases opP C c o.o s <;> rfl
      | some t => exact (goodB_test (g := fun v => veq v (s.tm t)) (good_opP hL o.o s)).congr fun c => by cases opP C c o.o s <;> rfl
theorem good_againAt (hL : Limit A W) (all : List DOp) (s : St) (i : Nat) : GoodB A W (fun c => againAt C c all s i) := by
  unfold againAt
  cases opAt all i with
  | none => exact goodB_const _
  | some o => exact good_again hL s o
theorem good_drwV (hL : Limit A W) (all : List DOp) : ∀ (l : List DOp) (s : St), Good A W (fun c => drwV C c all l s)
  | [], s => good_const _
  | x :: l, s => by
    unfold drwV
    cases x.main with
    | true => exact good_bind hL.1 (good_stepV hL x.op s) fun s1 => good_guard hL.1 (goodB_all hL.1 (fun i => good_againAt hL all s1 i) x.re) (good_drwV hL all l s1)
    | false => exact good_bind hL.1 (good_stepP hL x.op s) fun s1 => good_drwV hL all l s1

theorem good_iter (hL : Limit A W) {body : Call → St → Option (Ex × St)} (hb : ∀ s, Good A W (fun c => body c s)) (n : Nat) (live : List Nat) : ∀ (k : Nat) (l : LS), Good A W (fun c => iter (body c) n live k l)
  | 0, l => good_const _
  | k + 1, l => by
    have h := good_bind (K := fun (r : Ex × St) (c : Call) => match r with | (.normal, s) => iter (body c) n live k (LS.next n live s) | r => some r) hL.1 (hb (l.st live)) (fun a => by
      obtain ⟨x, s⟩ := a
      cases x with
      | normal => exact good_iter hL hb n live k _
      | _ => exact good_const _)
    have e : (fun c : Call => iter (body c) n live (k + 1) l) = fun c => (body c (l.st live)).bind fun r => match r with | (.normal, s) => iter (body c) n live k (LS.next n live s) | r => some r := by
      funext c
      show (match body c (l.st live) with | some (.normal, s) => _ | r => r) = _
      cases body c (l.st live) with
      | none => rfl
      | some r => obtain ⟨x, s⟩ := r; cases x <;> rfl
    rw [e]; exact h

/-- behind a block -/
def outB (id : Nat) (r : Ex × St) : Ex × St := match r with
  | (.exit j, s) => bif Nat.beq j id then (.normal, s) else (.exit j, s)
  | r => r
theorem good_execF (hL : Limit A W) (fuel : Nat) : ∀ (p : VC) (s : St), Good A W (fun c => execF C c fuel p s)
  | .skip, s => good_const _
  | .reg ops, s => good_map (good_runL hL ops s)
  | .drw ops, s => good_map (good_drwV hL ops ops s)
  | .seq a b, s => by
    have h := good_bind (K := fun (r : Ex × St) (c : Call) => match r with | (.normal, s) => execF C c fuel b s | r => some r) hL.1 (good_execF hL fuel a s) (fun r => by
      obtain ⟨x, s⟩ := r
      cases x with
      | normal => exact good_execF hL fuel b _
      | _ => exact good_const _)
    have e : (fun c : Call => execF C c fuel (.seq a b) s) = fun c => (execF C c fuel a s).bind fun r => match r with | (.normal, s) => execF C c fuel b s | r => some r := by
      funext c
      show (match execF C c fuel a s with | some (.normal, s) => _ | r => r) = _
      cases execF C c fuel a s with
      | none => rfl
      | some r => obtain ⟨x, s⟩ := r; cases x <;> rfl
    rw [e]; exact h
  | .cond o t e, s => by
    show Good A W (fun c => match rd s.tm o with | .bool b => bif b then execF C c fuel t s else execF C c fuel e s | _ => none)
    cases rd s.tm o <;> first | exact good_const none | skip
    rename_i b
    cases b
    · exact good_execF hL fuel e s
    · exact good_execF hL fuel t s
  | .block id b, s => by
    have h := good_map (g := outB id) (good_execF hL fuel b s)
    have e : (fun c : Call => execF C c fuel (.block id b) s) = fun c => (execF C c fuel b s).map (outB id) := by
      funext c
      simp only [execF]
      cases execF C c fuel b s with
      | none => rfl
      | some r =>
        obtain ⟨x, s⟩ := r
        cases x with
        | exit j =>
          show _ = some (bif Nat.beq j id then _ else _)
          simp only
          cases Nat.beq j id <;> rfl
        | _ => rfl
    rw [e]; exact h
  | .loop live b, s => good_iter hL (fun s => good_execF hL fuel b s) _ _ _ _
  | .exit id, s => good_const _
  | .ret, s => good_const _
  | .bad, s => good_const _

-- ---------------------------------------------------------------- a loop's fuel

theorem iter_le {body body' : St → Option (Ex × St)} (hb : ∀ s r, body s = some r → body' s = some r) {n : Nat} {live : List Nat} : ∀ (k k' : Nat) (l : LS) (r : Ex × St), k ≤ k' → iter body n live k l = some r → iter body' n live k' l = some r
  | 0, _, _, _, _, h => by cases h
  | k + 1, 0, _, _, hk, _ => by omega
  | k + 1, k' + 1, l, r, hk, h => by
    simp only [iter] at h ⊢
    cases hx : body (l.st live) with
    | none => rw [hx] at h; cases h
    | some x =>
      rw [hx] at h; rw [hb _ _ hx]
      obtain ⟨x, s⟩ := x
      cases x with
      | normal => exact iter_le hb k k' _ r (by omega) h
      | _ => exact h

theorem execF_fuel {call : Call} {m n : Nat} (hmn : m ≤ n) : ∀ (p : VC) (s : St) (r : Ex × St), execF C call m p s = some r → execF C call n p s = some r
  | .skip, s, r, h => h
  | .reg ops, s, r, h => h
  | .drw ops, s, r, h => h
  | .seq a b, s, r, h => by
    simp only [execF] at h ⊢
    cases hx : execF C call m a s with
    | none => rw [hx] at h; cases h
    | some x =>
      rw [hx] at h; rw [execF_fuel hmn a s x hx]
      obtain ⟨x, s⟩ := x
      cases x with
      | normal => exact execF_fuel hmn b _ r h
      | _ => exact h
  | .cond o t e, s, r, h => by
    simp only [execF] at h ⊢
    cases hx : rd s.tm o with
    | bool b =>
      rw [hx] at h
      cases b
      · exact execF_fuel hmn e s r h
      · exact execF_fuel hmn t s r h
    | _ => rw [hx] at h; cases h
  | .block id b, s, r, h => by
    simp only [execF] at h ⊢
    cases hx : execF C call m b s with
    | none => rw [hx] at h; cases h
    | some x => rw [hx] at h; rw [execF_fuel hmn b s x hx]; exact h
  | .loop live b, s, r, h => iter_le (fun s r h => execF_fuel hmn b s r h) _ _ _ _ hmn h
  | .exit id, s, r, h => h
  | .ret, s, r, h => h
  | .bad, s, r, h => by cases h

end
end Go.Vm

/-
  The machine V: what a function answers, whatever the fuel; and how a code is gone through.
-/
namespace Go.Vm
open Go

/-- a table of functions, and of routines without a body -/
structure Tab where
  C : Cfg
  funs : FuncId → Option VF
  prim : Call

def Tab.at (T : Tab) (n : Nat) : Call := callF T.C T.funs T.prim n

open Classical in
/-- what a function answers -/
noncomputable def Tab.call (T : Tab) : Call := fun f as sg => if h : ∃ r n, T.at n f as sg = some r then some h.choose else none

section
variable {T : Tab}

theorem callF_succ {C : Cfg} {funs : FuncId → Option VF} {prim : Call} (n : Nat) (f : FuncId) (as : List V) (sg : List Fr) : callF C funs prim (n + 1) f as sg =
    match funs f with
    | some F => match execF C (callF C funs prim n) n F.code { tm := env as, fr := [], sg, wd := 0 } with
      | some (.normal, s) | some (.ret, s) => leave F s
      | _ => none
    | none => prim f as sg := rfl

theorem at_succ : ∀ n, CallLe (T.at n) (T.at (n + 1))
  | 0 => fun f as sg r h => by cases h
  | n + 1 => fun f as sg r h => by
    have ih := at_succ n
    unfold Tab.at at h ⊢
    rw [callF_succ] at h ⊢
    cases hF : T.funs f with
    | none => rw [hF] at h; exact h
    | some F =>
      rw [hF] at h
      have key : ∀ x, execF T.C (callF T.C T.funs T.prim n) n F.code { tm := env as, fr := [], sg, wd := 0 } = some x → execF T.C (callF T.C T.funs T.prim (n + 1)) (n + 1) F.code { tm := env as, fr := [], sg, wd := 0 } = some x := by
        intro x hx
        have g := good_execF (C := T.C) (A := fun _ => T.at n) (W := T.at n) ⟨fun _ _ _ => .refl _, fun f as sg r h => ⟨0, h⟩⟩ n F.code { tm := env as, fr := [], sg, wd := 0 }
        exact execF_fuel (Nat.le_succ n) _ _ _ (g.1 _ _ ih _ hx)
      simp only at h ⊢
      cases hx : execF T.C (callF T.C T.funs T.prim n) n F.code { tm := env as, fr := [], sg, wd := 0 } with
      | none => rw [hx] at h; cases h
      | some x => rw [hx] at h; rw [key _ hx]; exact h

theorem at_mono : ∀ m n, m ≤ n → CallLe (T.at m) (T.at n) := by
  intro m n h
  induction n with
  | zero => rw [Nat.le_zero.1 h]; exact .refl _
  | succ n ih =>
    rcases Nat.lt_or_ge n m with h1 | h1
    · have : m = n + 1 := by omega
      rw [this]; exact .refl _
    · exact (ih h1).trans (at_succ n)

theorem call_iff {f : FuncId} {as : List V} {sg : List Fr} {r : V × List Fr × Nat} : T.call f as sg = some r ↔ ∃ n, T.at n f as sg = some r := by
  unfold Tab.call
  constructor
  · intro h
    split at h
    · rename_i hh
      simp only [Option.some.injEq] at h
      obtain ⟨n, hn⟩ := hh.choose_spec
      exact ⟨n, by rw [hn, h]⟩
    · cases h
  · rintro ⟨n, hn⟩
    have hh : ∃ r n, T.at n f as sg = some r := ⟨r, n, hn⟩
    rw [dif_pos hh]
    obtain ⟨m, hm⟩ := hh.choose_spec
    have h1 := at_mono n (max m n) (Nat.le_max_right _ _) _ _ _ _ hn
    have h2 := at_mono m (max m n) (Nat.le_max_left _ _) _ _ _ _ hm
    rw [h1] at h2
    exact h2.symm ▸ rfl

theorem limit : Limit T.at T.call := ⟨at_mono, fun _ _ _ _ h => call_iff.1 h⟩

/-- a run that is found gives the answer -/
theorem call_of_at {n : Nat} {f : FuncId} {as : List V} {sg : List Fr} {r : V × List Fr × Nat} (h : callF T.C T.funs T.prim n f as sg = some r) : T.call f as sg = some r := call_iff.2 ⟨n, h⟩

-- ---------------------------------------------------------------- going through a code

/-- the code ends, so that Q -/
def Wp (T : Tab) (c : VC) (s : St) (Q : Ex → St → Prop) : Prop := ∃ n x s', execF T.C T.call n c s = some (x, s') ∧ Q x s'

def WpI (T : Tab) (b : VC) (n : Nat) (live : List Nat) (l : LS) (Q : Ex → St → Prop) : Prop := ∃ k x s', iter (execF T.C T.call k b) n live k l = some (x, s') ∧ Q x s'

variable {Q : Ex → St → Prop} {s : St}

/-- behind the first of two -/
def Then (T : Tab) (b : VC) (Q : Ex → St → Prop) : Ex → St → Prop := fun x s => match x with
  | .normal => Wp T b s Q
  | x => Q x s
def Behind (id : Nat) (Q : Ex → St → Prop) : Ex → St → Prop := fun x s => match x with
  | .exit j => bif Nat.beq j id then Q .normal s else Q (.exit j) s
  | x => Q x s
def Round (T : Tab) (b : VC) (n : Nat) (live : List Nat) (Q : Ex → St → Prop) : Ex → St → Prop := fun x s => match x with
  | .normal => WpI T b n live (LS.next n live s) Q
  | x => Q x s

theorem Wp_skip : Wp T .skip s Q ↔ Q .normal s :=
  ⟨fun ⟨_, _, _, h, q⟩ => by cases h; exact q, fun q => ⟨0, _, _, rfl, q⟩⟩
theorem Wp_exit {id : Nat} : Wp T (.exit id) s Q ↔ Q (.exit id) s :=
  ⟨fun ⟨_, _, _, h, q⟩ => by cases h; exact q, fun q => ⟨0, _, _, rfl, q⟩⟩
theorem Wp_ret : Wp T .ret s Q ↔ Q .ret s :=
  ⟨fun ⟨_, _, _, h, q⟩ => by cases h; exact q, fun q => ⟨0, _, _, rfl, q⟩⟩

theorem Wp_seq {a b : VC} : Wp T (.seq a b) s Q ↔ Wp T a s (Then T b Q) := by
  constructor
  · rintro ⟨n, x, s', h, q⟩
    simp only [execF] at h
    cases hx : execF T.C T.call n a s with
    | none => rw [hx] at h; cases h
    | some y =>
      rw [hx] at h
      obtain ⟨y, s1⟩ := y
      cases y with
      | normal => exact ⟨n, _, _, hx, n, x, s', h, q⟩
      | exit j => cases h; exact ⟨n, _, _, hx, q⟩
      | ret => cases h; exact ⟨n, _, _, hx, q⟩
  · rintro ⟨n, x, s1, h, q⟩
    cases x with
    | normal =>
      obtain ⟨m, x, s', h2, q⟩ := q
      exact ⟨max n m, x, s', by simp only [execF, execF_fuel (Nat.le_max_left n m) _ _ _ h, execF_fuel (Nat.le_max_right n m) _ _ _ h2], q⟩
    | exit j => exact ⟨n, _, _, by simp only [execF, h], q⟩
    | ret => exact ⟨n, _, _, by simp only [execF, h], q⟩

theorem Wp_reg {ops : List VOp} : Wp T (.reg ops) s Q ↔ ∃ s', runL T.C T.call ops s = some s' ∧ Q .normal s' := by
  constructor
  · rintro ⟨n, x, s', h, q⟩
    simp only [execF, Option.map_eq_some_iff, Prod.mk.injEq] at h
    obtain ⟨s1, h1, rfl, rfl⟩ := h
    exact ⟨s1, h1, q⟩
  · rintro ⟨s', h, q⟩
    exact ⟨0, _, _, by simp only [execF, h, Option.map_some], q⟩
theorem Wp_drw {ops : List DOp} : Wp T (.drw ops) s Q ↔ ∃ s', drwV T.C T.call ops ops s = some s' ∧ Q .normal s' := by
  constructor
  · rintro ⟨n, x, s', h, q⟩
    simp only [execF, Option.map_eq_some_iff, Prod.mk.injEq] at h
    obtain ⟨s1, h1, rfl, rfl⟩ := h
    exact ⟨s1, h1, q⟩
  · rintro ⟨s', h, q⟩
    exact ⟨0, _, _, by simp only [execF, h, Option.map_some], q⟩

theorem Wp_cond {c : O} {t e : VC} {b : Bool} (h : rd s.tm c = .bool b) : Wp T (.cond c t e) s Q ↔ bif b then Wp T t s Q else Wp T e s Q := by
  unfold Wp
  simp only [execF, h]
  cases b <;> rfl

theorem Wp_block {id : Nat} {b : VC} : Wp T (.block id b) s Q ↔ Wp T b s (Behind id Q) := by
  constructor
  · rintro ⟨n, x, s', h, q⟩
    simp only [execF] at h
    cases hx : execF T.C T.call n b s with
    | none => rw [hx] at h; cases h
    | some y =>
      rw [hx] at h
      obtain ⟨y, s1⟩ := y
      refine ⟨n, y, s1, hx, ?_⟩
      cases y with
      | normal => cases h; exact q
      | exit j =>
        simp only [Behind]
        cases hb : Nat.beq j id <;> simp only [hb, cond_true, cond_false, Option.some.injEq, Prod.mk.injEq] at h <;> obtain ⟨rfl, rfl⟩ := h <;> exact q
      | ret => cases h; exact q
  · rintro ⟨n, x, s1, h, q⟩
    cases x with
    | normal => exact ⟨n, _, _, by simp only [execF, h], q⟩
    | ret => exact ⟨n, _, _, by simp only [execF, h], q⟩
    | exit j =>
      simp only [Behind] at q
      cases hb : Nat.beq j id <;> simp only [hb, cond_true, cond_false] at q
      · exact ⟨n, _, _, by simp only [execF, h, hb, cond_false], q⟩
      · exact ⟨n, _, _, by simp only [execF, h, hb, cond_true], q⟩

theorem Wp_loop {live : List Nat} {b : VC} : Wp T (.loop live b) s Q ↔ WpI T b s.fr.length live { vals := live.map s.tm, fr := s.fr, sg := s.sg, wd := s.wd } Q := Iff.rfl

theorem WpI_iff {b : VC} {n : Nat} {live : List Nat} {l : LS} : WpI T b n live l Q ↔ Wp T b (l.st live) (Round T b n live Q) := by
  constructor
  · rintro ⟨k, x, s', h, q⟩
    cases k with
    | zero => cases h
    | succ k =>
      simp only [iter] at h
      cases hx : execF T.C T.call (k + 1) b (l.st live) with
      | none => rw [hx] at h; cases h
      | some y =>
        rw [hx] at h
        obtain ⟨y, s1⟩ := y
        refine ⟨k + 1, y, s1, hx, ?_⟩
        cases y with
        | normal => exact ⟨k + 1, x, s', iter_le (fun _ _ h => h) _ _ _ _ (Nat.le_succ k) h, q⟩
        | exit j => cases h; exact q
        | ret => cases h; exact q
  · rintro ⟨n1, x, s1, h, q⟩
    cases x with
    | normal =>
      obtain ⟨k, x, s', h2, q⟩ := q
      refine ⟨max n1 k + 1, x, s', ?_, q⟩
      simp only [iter, execF_fuel (Nat.le_trans (Nat.le_max_left n1 k) (Nat.le_succ _)) _ _ _ h]
      exact iter_le (fun _ _ h => execF_fuel (Nat.le_trans (Nat.le_max_right n1 k) (Nat.le_succ _)) _ _ _ h) _ _ _ _ (Nat.le_max_right n1 k) h2
    | exit j => exact ⟨n1 + 1, _, _, by simp only [iter, execF_fuel (Nat.le_succ n1) _ _ _ h], q⟩
    | ret => exact ⟨n1 + 1, _, _, by simp only [iter, execF_fuel (Nat.le_succ n1) _ _ _ h], q⟩

theorem Wp.imp {c : VC} {Q' : Ex → St → Prop} (h : Wp T c s Q) (k : ∀ x s', Q x s' → Q' x s') : Wp T c s Q' := by
  obtain ⟨n, x, s', h1, h2⟩ := h
  exact ⟨n, x, s', h1, k _ _ h2⟩

/-- a function's end -/
def Out (F : VF) (R : V × List Fr × Nat) : Ex → St → Prop := fun x s => match x with
  | .exit _ => False
  | _ => leave F s = some R

theorem call_fun {f : FuncId} {F : VF} (hF : T.funs f = some F) {as : List V} {sg : List Fr} {R : V × List Fr × Nat} (h : Wp T F.code { tm := env as, fr := [], sg, wd := 0 } (Out F R)) : T.call f as sg = some R := by
  obtain ⟨n, x, s', h1, h2⟩ := h
  obtain ⟨m, h3⟩ := (good_execF (C := T.C) limit n F.code { tm := env as, fr := [], sg, wd := 0 }).2 _ h1
  refine call_iff.2 ⟨max m n + 1, ?_⟩
  have h4 : execF T.C (callF T.C T.funs T.prim (max m n)) (max m n) F.code { tm := env as, fr := [], sg, wd := 0 } = some (x, s') :=
    execF_fuel (Nat.le_max_right m n) _ _ _ ((good_execF (C := T.C) (A := T.at) (W := T.call) limit n F.code { tm := env as, fr := [], sg, wd := 0 }).1 _ _ (at_mono _ _ (Nat.le_max_left m n)) _ h3)
  unfold Tab.at
  simp only [callF, hF, h4]
  cases x with
  | exit j => exact h2.elim
  | normal => exact h2
  | ret => exact h2
theorem call_prim {f : FuncId} (hF : T.funs f = none) {as : List V} {sg : List Fr} {R : V × List Fr × Nat} (h : T.prim f as sg = some R) : T.call f as sg = some R :=
  call_iff.2 ⟨1, by unfold Tab.at; simp only [callF, hF]; exact h⟩

end
end Go.Vm

/-
  The machine V: going through a code, step by step.
-/
namespace Go.Vm
open Go

section
variable {T : Tab} {Q : Ex → St → Prop} {s : St}

theorem reg_nil : Wp T (.reg []) s Q ↔ Q .normal s := by
  rw [Wp_reg]; simp [runL]
theorem reg_cons {o : VOp} {os : List VOp} : Wp T (.reg (o :: os)) s Q ↔ ∃ s1, stepV T.C T.call o s = some s1 ∧ Wp T (.reg os) s1 Q := by
  simp only [Wp_reg, runL, Option.bind_eq_some_iff]
  constructor
  · rintro ⟨s', ⟨s1, h1, h2⟩, q⟩; exact ⟨s1, h1, s', h2, q⟩
  · rintro ⟨s1, h1, s', h2, q⟩; exact ⟨s', ⟨s1, h1, h2⟩, q⟩

/-- an operation without a guard -/
theorem reg_step {d : Option Nat} {o : VO} {os : List VOp} {v : V} {s1 : St} (h : opV T.C T.call o s = some (v, s1)) (k : Wp T (.reg os) (put s1 d v) Q) : Wp T (.reg (⟨d, o, none⟩ :: os)) s Q :=
  reg_cons.2 ⟨_, by simp only [stepV, want, h, Option.map_some], k⟩
theorem reg_step_iff {d : Option Nat} {o : VO} {os : List VOp} : Wp T (.reg (⟨d, o, none⟩ :: os)) s Q ↔ ∃ v s1, opV T.C T.call o s = some (v, s1) ∧ Wp T (.reg os) (put s1 d v) Q := by
  rw [reg_cons]
  simp only [stepV, want, Option.map_eq_some_iff]
  constructor
  · rintro ⟨s1, ⟨⟨v, s2⟩, h, rfl⟩, q⟩; exact ⟨v, s2, h, q⟩
  · rintro ⟨v, s2, h, q⟩; exact ⟨_, ⟨(v, s2), h, rfl⟩, q⟩
/-- one with a guard -/
theorem reg_guard {d : Option Nat} {o : VO} {t : Nat} {b c : Bool} {os : List VOp} (h : s.tm t = .bool c) :
    Wp T (.reg (⟨d, o, some (t, b)⟩ :: os)) s Q ↔ bif c == b then Wp T (.reg (⟨d, o, none⟩ :: os)) s Q else Wp T (.reg os) (put s d (.tup [])) Q := by
  rw [reg_cons, reg_cons]
  simp only [stepV, want, h]
  cases hb : (c == b) <;> simp
theorem reg_guard_off {d : Option Nat} {o : VO} {t : Nat} {b : Bool} {os : List VOp} (h : s.tm t = .tup []) :
    Wp T (.reg (⟨d, o, some (t, b)⟩ :: os)) s Q ↔ Wp T (.reg os) (put s d (.tup [])) Q := by
  rw [reg_cons]
  simp only [stepV, want, h]
  simp

/-- a region whose order is open -/
def WpD (T : Tab) (all l : List DOp) (s : St) (Q : Ex → St → Prop) : Prop := ∃ s', drwV T.C T.call all l s = some s' ∧ Q .normal s'
theorem drw_all {ops : List DOp} : Wp T (.drw ops) s Q ↔ WpD T ops ops s Q := Wp_drw
theorem drw_nil {all : List DOp} : WpD T all [] s Q ↔ Q .normal s := by
  simp [WpD, drwV]
theorem drw_main {all l : List DOp} {i : Nat} {bf re : List Nat} {o : VOp} : WpD T all (⟨i, bf, o, true, re⟩ :: l) s Q ↔ ∃ s1, stepV T.C T.call o s = some s1 ∧ re.all (againAt T.C T.call all s1) = true ∧ WpD T all l s1 Q := by
  simp only [WpD, drwV, cond_true, Option.bind_eq_some_iff]
  constructor
  · rintro ⟨s', ⟨s1, h1, h2⟩, q⟩
    cases hb : re.all (againAt T.C T.call all s1) with
    | false => rw [hb] at h2; cases h2
    | true => rw [hb] at h2; exact ⟨s1, h1, hb, s', h2, q⟩
  · rintro ⟨s1, h1, hb, s', h2, q⟩; exact ⟨s', ⟨s1, h1, by rw [hb]; exact h2⟩, q⟩
theorem drw_pure {all l : List DOp} {i : Nat} {bf re : List Nat} {o : VOp} : WpD T all (⟨i, bf, o, false, re⟩ :: l) s Q ↔ ∃ s1, stepP T.C T.call o s = some s1 ∧ WpD T all l s1 Q := by
  simp only [WpD, drwV, cond_false, Option.bind_eq_some_iff]
  constructor
  · rintro ⟨s', ⟨s1, h1, h2⟩, q⟩; exact ⟨s1, h1, s', h2, q⟩
  · rintro ⟨s1, h1, s', h2, q⟩; exact ⟨s', ⟨s1, h1, h2⟩, q⟩

/-- an end that is reckoned -/
def endR (F : VF) : Option (Ex × St) → Option (V × List Fr × Nat)
  | some (.normal, s) => leave F s
  | some (.ret, s) => leave F s
  | _ => none
theorem Wp_run {call : Call} (hc : CallLe call T.call) {n : Nat} {c : VC} {F : VF} {R : V × List Fr × Nat} (h : endR F (execF T.C call n c s) = some R) : Wp T c s (Out F R) := by
  cases hx : execF T.C call n c s with
  | none => rw [hx] at h; cases h
  | some y =>
    rw [hx] at h
    obtain ⟨x, s'⟩ := y
    have g := good_execF (C := T.C) (A := fun _ => call) (W := call) ⟨fun _ _ _ => .refl _, fun f as sg r h => ⟨0, h⟩⟩ n c s
    refine ⟨n, x, s', g.1 _ _ hc _ hx, ?_⟩
    cases x with
    | exit j => cases h
    | normal => exact h
    | ret => exact h
/-- calls whose answers are known -/
def memo (known : FuncId → List V → Option V) (c : Call) : Call := fun f as sg => match known f as with
  | some v => some (v, sg, 0)
  | none => c f as sg
theorem memo_le {known : FuncId → List V → Option V} {c : Call} (hk : ∀ f as v sg, known f as = some v → T.call f as sg = some (v, sg, 0)) (hc : CallLe c T.call) : CallLe (memo known c) T.call := by
  intro f as sg r h
  unfold memo at h
  split at h
  · rename_i v hv
    cases h
    exact hk _ _ _ _ hv
  · exact hc _ _ _ _ h
theorem at_le (n : Nat) : CallLe (T.at n) T.call := fun _ _ _ _ h => call_iff.2 ⟨n, h⟩

end
end Go.Vm

/-
  The machine V: a call from outside.
-/
namespace Go.Vm
open Go Go.RowKit

/-- routines without a body, and slices.Clone -/
def primAll (K : FuncId → Option Nat) (L : FuncId → Option (Nat × Bool)) : Call := fun f as sg =>
  match K f with
  | some _ => primX K f as sg
  | none => cloneX L f as sg
theorem primAll_ok {KW : World → Prop} {P : Program} {K : FuncId → Option Nat} {L : FuncId → Option (Nat × Bool)} (hm : P.follows .mixedOrders = true) (hK : Prims P K) (hL : ∀ f z m, L f = some (z, m) → ∃ fn, P.funcs[f]? = some fn ∧ CloneFn P z m fn) : CallOk KW P (primAll K L) := by
  intro f as sg v sg' wd h
  unfold primAll at h
  split at h
  · exact primX_ok hK f as sg v sg' wd h
  · exact cloneX_ok hm hL f as sg v sg' wd h
theorem primAll_q (K : FuncId → Option Nat) (L : FuncId → Option (Nat × Bool)) : CallQ (primAll K L) := by
  intro f as sg v sg' wd h
  unfold primAll at h
  split at h
  · exact primX_q K f as sg v sg' wd h
  · exact cloneX_q L f as sg v sg' wd h

/-- what is known of memory at the beginning -/
def im0 (w : World) : Nat → Nat → Option Value := fun c k => w.cell? ⟨c, k, none⟩
def G0 (w : World) : Gh := { im := im0 w, ow := fun _ _ => none, ph := fun _ _ => none }
/-- nothing known of the world -/
def KW0 : World → Prop := fun _ => True
def bd0 {KW : World → Prop} (w : World) (hK : ∀ w1 w2 : World, Below w.heap.size w1 w2 → KW w1 → KW w2) : Bd KW := ⟨w.heap.size, hK⟩
theorem WR0 {KW : World → Prop} (w : World) (hK : ∀ w1 w2 : World, Below w.heap.size w1 w2 → KW w1 → KW w2) (hw : KW w) : WR (G0 w) (bd0 w hK) [] [] w := by
  refine ⟨fun c k x h => h, fun _ _ _ _ => rfl, (fun c k o h => by cases h), (fun d i b loc hd hg hl => by cases hl), (fun l i loc h => by cases h), Nat.le_refl _, hw⟩

theorem enter_run {P : Program} {T : Tab} (hf : Funs P T.funs) {f : FuncId} {F : VF} (hF : T.funs f = some F) (A : Array Value) (w : World) : (callFunc f A).run P w = .ok (.enter f A) w := by
  obtain ⟨fn, hfn, htr⟩ := hf f F hF
  unfold trF at htr
  simp only [Bool.and_eq_true, Bool.not_eq_true'] at htr
  obtain ⟨hname, htr⟩ := htr
  split at htr
  · rename_i c hbody
    simp [callFunc, hfn, hbody]
    intro h
    rw [h] at hname
    simp at hname
  · cases htr

/-- a function of things of no place that tells a bool -/
theorem top_ok {KW : World → Prop} {P : Program} {T : Tab} (hm : P.follows .mixedOrders = true) (hf : Funs P T.funs) (hp : CallOk KW P T.prim) (hq : CallQ T.prim) {f : FuncId} {F : VF} (hF : T.funs f = some F) {as : List V} {b : Bool} {wd : Nat} (h : T.call f as [] = some (.bool b, [], wd))
    {A : Array Value} {w : World} (hK : ∀ w1 w2 : World, Below w.heap.size w1 w2 → KW w1 → KW w2) (hw : KW w) (hA : A.size = as.length) (hR : ∀ (j : Nat) (x : V) (y : Value), as[j]? = some x → A[j]? = some y → PR (im0 w) x y) :
    Calls P f A w fun | .returned cv, w' => cv = .bool b ∧ Below w.heap.size w w' | _, _ => False := by
  obtain ⟨n, hn⟩ := call_iff.1 h
  have hc := vm_sound (C := T.C) hm hf hp hq n f as [] (.bool b) [] wd hn (G0 w) (bd0 w hK) w A (WR0 w hK hw) hA (fun j x y hx hy => .pr _ _ (hR j x y hx hy))
  rcases hc with ⟨_, h2⟩ | ⟨cv, w', h1, _⟩
  · refine h2.mono fun e w' he => ?_
    cases e with
    | returned cv =>
      obtain ⟨G', r⟩ := he
      exact ⟨r.v.bool_inv, r.be⟩
    | panicked _ => exact he
    | outgrown => exact he
  · rw [enter_run hf hF] at h1
    cases h1

end Go.Vm
