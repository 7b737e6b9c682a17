/-
  A part of a proof: the last text of the claim says what is proved, and under which conditions.
-/
import Derived.Test.YtmnmpmmpihimpaaGreatDoorM0
import Derived.Test.YtmnmpmmpihimpaaGreatDoorM1
set_option linter.unusedSimpArgs false
set_option linter.unusedVariables false
set_option linter.unnecessarySimpa false
/- The functions of the translation as programs of the machine V. Written by gen.py out of the loaded functions. -/
namespace Go.Vm
set_option maxRecDepth 100000
def c150 : VF := { code := .seq (.reg [⟨some 2,.nm 2,none⟩]) (.seq (.reg [⟨some 3,.nm 2,none⟩]) (.seq (.seq (.reg [⟨some 6,.mv (.t 0),none⟩,⟨some 7,.len false (.t 6),none⟩,⟨some 8,.mv (.c (.int .i64 0)),none⟩]) (.block 0 (.loop [3,6,7,8] (.seq (.reg [⟨some 9,.bin .lss (.t 8) (.t 7),none⟩]) (.seq (.cond (.t 9) (.skip) (.exit 0)) (.seq (.block 1 (.seq (.reg [⟨some 10,.ia none 1 (.t 6) (.t 8),none⟩,⟨some 11,.ld false 1 (.t 10),none⟩,⟨some 5,.mv (.t 11),none⟩]) (.reg [⟨some 12,.mv (.t 3),none⟩,⟨some 13,.mv (.t 5),none⟩,⟨some 14,.call 32 [(.t 13)],none⟩,⟨some 15,.am 2 (.t 12) (.t 14),none⟩,⟨some 3,.mv (.t 15),none⟩]))) (.reg [⟨some 16,.bin .add (.t 8) (.c (.int .i64 1)),none⟩,⟨some 8,.mv (.t 16),none⟩]))))))) (.seq (.reg [⟨some 17,.mv (.t 3),none⟩,⟨some 18,.call 194 [(.t 17),(.c (.fn 99 [] []))],none⟩]) (.seq (.reg [⟨some 19,.mv (.t 3),none⟩,⟨some 20,.call 195 [(.t 19),(.c (.fn 196 [] []))],none⟩,⟨some 2,.mv (.t 20),none⟩]) (.ret))))),res := [(2,none)],keepR := true }
def c151 : VF := { code := .seq (.reg [⟨some 4,.nm 2,none⟩]) (.seq (.seq (.reg [⟨some 5,.mv (.t 1),none⟩,⟨some 6,.bin .lss (.t 5) (.c (.int .i64 0)),none⟩]) (.cond (.t 6) (.reg [⟨some 7,.mi 9 (.c (.str [99,97,110,110,111,116,32,98,101,32,110,101,103,97,116,105,118,101])),none⟩,⟨none,.bad,none⟩]) (.skip))) (.seq (.seq (.reg [⟨some 8,.mv (.t 1),none⟩,⟨some 9,.mv (.t 0),none⟩,⟨some 10,.cap (.t 9),none⟩,⟨some 11,.mv (.t 0),none⟩,⟨some 12,.len false (.t 11),none⟩,⟨some 13,.bin .sub (.t 10) (.t 12),none⟩,⟨some 14,.bin .sub (.t 8) (.t 13),none⟩,⟨some 1,.mv (.t 14),none⟩]) (.seq (.reg [⟨some 15,.mv (.t 1),none⟩,⟨some 16,.bin .gtr (.t 15) (.c (.int .i64 0)),none⟩]) (.cond (.t 16) (.reg [⟨some 17,.mv (.t 0),none⟩,⟨some 18,.mv (.t 0),none⟩,⟨some 19,.cap (.t 18),none⟩,⟨some 20,.cut false 2 (.t 17) none (some (.t 19)) none,none⟩,⟨some 21,.mv (.t 1),none⟩,⟨some 22,.az true [.str [],.sl .ex 3 []] (.t 20) (.t 21),none⟩,⟨some 23,.mv (.t 0),none⟩,⟨some 24,.len false (.t 23),none⟩,⟨some 25,.cut false 2 (.t 22) none (some (.t 24)) none,none⟩,⟨some 0,.mv (.t 25),none⟩]) (.skip)))) (.seq (.reg [⟨some 26,.mv (.t 0),none⟩,⟨some 4,.mv (.t 26),none⟩]) (.ret)))),res := [(4,none)],keepR := true }
def c152 : VF := { code := .seq (.reg [⟨some 2,.bx (.t 0) [],none⟩,⟨some 3,.mv (.c (.bool false)),none⟩]) (.seq (.reg [⟨some 4,.ld true 2 (.t 2),none⟩,⟨some 5,.ld true 2 (.t 1),none⟩,⟨some 6,.call 99 [(.t 4),(.t 5)],none⟩,⟨some 7,.bin .eql (.t 6) (.c (.int .i64 0)),none⟩,⟨some 3,.mv (.t 7),none⟩]) (.ret)),res := [(3,none)] }
def c153 : VF := { code := .seq (.reg [⟨some 4,.mv (.c (.bool false)),none⟩]) (.seq (.reg [⟨some 5,.mv (.t 0),none⟩,⟨some 6,.mv (.t 1),none⟩,⟨some 7,.call 197 [(.t 5),(.t 6)],none⟩,⟨some 8,.bin .geq (.t 7) (.c (.int .i64 0)),none⟩,⟨some 4,.mv (.t 8),none⟩]) (.ret)),res := [(4,none)] }
def c154 : VF := { code := .seq (.reg [⟨some 2,.bx (.t 0) [],none⟩,⟨some 3,.mv (.c (.bool false)),none⟩]) (.seq (.reg [⟨some 4,.ld true 2 (.t 1),none⟩,⟨some 5,.ld true 2 (.t 2),none⟩,⟨some 6,.call 155 [(.t 4),(.t 5)],none⟩,⟨some 3,.mv (.t 6),none⟩]) (.ret)),res := [(3,none)] }
def c155 : VF := { code := .seq (.reg [⟨some 2,.bx (.t 0) [],none⟩,⟨some 3,.bx (.t 1) [],none⟩,⟨some 4,.mv (.c (.bool false)),none⟩]) (.seq (.reg [⟨some 5,.fa 0 (.t 2),none⟩,⟨some 6,.ld false 1 (.t 5),none⟩,⟨some 7,.fa 0 (.t 3),none⟩,⟨some 8,.ld false 1 (.t 7),none⟩,⟨some 9,.bin .eql (.t 6) (.t 8),none⟩,⟨some 10,.mv (.t 9),none⟩,⟨some 11,.fa 1 (.t 2),some (10,true)⟩,⟨some 12,.ld false 1 (.t 11),some (10,true)⟩,⟨some 13,.fa 1 (.t 3),some (10,true)⟩,⟨some 14,.ld false 1 (.t 13),some (10,true)⟩,⟨some 15,.call 198 [(.t 12),(.t 14)],some (10,true)⟩,⟨some 16,.bin .eql (.t 15) (.c (.int .i64 0)),some (10,true)⟩,⟨some 17,.pick (.t 10) (.t 16) (.c (.bool false)),none⟩,⟨some 4,.mv (.t 17),none⟩]) (.ret)),res := [(4,none)] }
def c156 : VF := { code := .seq (.reg [⟨some 4,.be (.t 0),none⟩,⟨some 6,.be (.t 2),none⟩,⟨some 7,.be (.t 3),none⟩,⟨some 8,.mv (.c (.int .i64 0)),none⟩]) (.seq (.drw [⟨12,[],⟨some 9,.al [.str [],.int .i64 0,.sl .ex 6 [],.sl .ex 4 []] [],none⟩,true,[]⟩,⟨13,[],⟨some 10,.al [.str [],.int .i64 0,.sl .ex 6 [],.sl .ex 4 []] [],none⟩,true,[]⟩,⟨0,[],⟨some 11,.fa 1 (.t 4),none⟩,false,[]⟩,⟨1,[0],⟨some 12,.ld false 1 (.t 11),none⟩,false,[]⟩,⟨2,[],⟨some 13,.fa 0 (.t 6),none⟩,false,[]⟩,⟨3,[2],⟨some 14,.ld false 1 (.t 13),none⟩,false,[]⟩,⟨4,[0,1,2,3],⟨some 15,.ia none 4 (.t 12) (.t 14),none⟩,false,[]⟩,⟨5,[0,1,2,3,4],⟨some 16,.ld true 4 (.t 15),none⟩,false,[]⟩,⟨6,[],⟨some 17,.fa 1 (.t 4),none⟩,false,[]⟩,⟨7,[6],⟨some 18,.ld false 1 (.t 17),none⟩,false,[]⟩,⟨8,[],⟨some 19,.fa 0 (.t 7),none⟩,false,[]⟩,⟨9,[8],⟨some 20,.ld false 1 (.t 19),none⟩,false,[]⟩,⟨10,[6,7,8,9],⟨some 21,.ia none 4 (.t 18) (.t 20),none⟩,false,[]⟩,⟨11,[6,7,8,9,10],⟨some 22,.ld true 4 (.t 21),none⟩,false,[]⟩,⟨14,[0,1,2,3,4,5,12,13],⟨none,.st true 4 (.t 9) (.t 16),none⟩,true,[7,9,10,11]⟩,⟨15,[0,1,2,3,4,5,6,7,8,9,10,11,12,13,14],⟨none,.st true 4 (.t 10) (.t 22),none⟩,true,[]⟩]) (.seq (.drw [⟨0,[],⟨some 23,.mv (.t 1),none⟩,false,[]⟩,⟨1,[],⟨some 24,.fa 0 (.t 6),none⟩,false,[]⟩,⟨2,[1],⟨some 25,.ld false 1 (.t 24),none⟩,false,[]⟩,⟨3,[0,1,2],⟨some 26,.ia none 1 (.t 23) (.t 25),none⟩,false,[]⟩,⟨4,[0,1,2,3],⟨some 27,.ld false 1 (.t 26),none⟩,false,[]⟩,⟨5,[],⟨some 28,.mv (.t 1),none⟩,false,[]⟩,⟨6,[],⟨some 29,.fa 0 (.t 7),none⟩,false,[]⟩,⟨7,[6],⟨some 30,.ld false 1 (.t 29),none⟩,false,[]⟩,⟨8,[5,6,7],⟨some 31,.ia none 1 (.t 28) (.t 30),none⟩,false,[]⟩,⟨9,[5,6,7,8],⟨some 32,.ld false 1 (.t 31),none⟩,false,[]⟩,⟨10,[0,1,2,3,4,5,6,7,8,9],⟨some 33,.call 144 [(.t 27),(.t 32)],none⟩,false,[]⟩,⟨11,[],⟨some 34,.fa 1 (.t 10),none⟩,false,[]⟩,⟨12,[11],⟨some 35,.ld false 1 (.t 34),none⟩,false,[]⟩,⟨13,[],⟨some 36,.fa 1 (.t 9),none⟩,false,[]⟩,⟨14,[13],⟨some 37,.ld false 1 (.t 36),none⟩,false,[]⟩,⟨15,[0,1,2,3,4,5,6,7,8,9,10,11,12,13,14],⟨some 38,.call 144 [(.t 35),(.t 37)],none⟩,false,[]⟩,⟨16,[],⟨some 39,.fa 0 (.t 6),none⟩,false,[]⟩,⟨17,[16],⟨some 40,.ld false 1 (.t 39),none⟩,false,[]⟩,⟨18,[],⟨some 41,.fa 0 (.t 7),none⟩,false,[]⟩,⟨19,[18],⟨some 42,.ld false 1 (.t 41),none⟩,false,[]⟩,⟨20,[0,1,2,3,4,5,6,7,8,9,10,11,12,13,14,15,16,17,18,19],⟨some 43,.call 144 [(.t 40),(.t 42)],none⟩,false,[]⟩,⟨21,[],⟨some 44,.fa 1 (.t 6),none⟩,false,[]⟩,⟨22,[21],⟨some 45,.ld false 1 (.t 44),none⟩,false,[]⟩,⟨23,[],⟨some 46,.fa 1 (.t 7),none⟩,false,[]⟩,⟨24,[23],⟨some 47,.ld false 1 (.t 46),none⟩,false,[]⟩,⟨25,[0,1,2,3,4,5,6,7,8,9,10,11,12,13,14,15,16,17,18,19,20,21,22,23,24],⟨some 48,.call 198 [(.t 45),(.t 47)],none⟩,false,[]⟩,⟨26,[0,1,2,3,4,5,6,7,8,9,10,11,12,13,14,15,16,17,18,19,20,21,22,23,24,25],⟨some 49,.bl 1 [(.t 33),(.t 38),(.t 43),(.t 48)],none⟩,false,[]⟩,⟨27,[0,1,2,3,4,5,6,7,8,9,10,11,12,13,14,15,16,17,18,19,20,21,22,23,24,25,26],⟨some 50,.call 142 [(.t 49)],none⟩,false,[]⟩,⟨28,[0,1,2,3,4,5,6,7,8,9,10,11,12,13,14,15,16,17,18,19,20,21,22,23,24,25,26,27],⟨some 8,.mv (.t 50),none⟩,false,[]⟩]) (.ret))),res := [(8,none)] }
def c157 : VF := { code := .seq (.reg [⟨some 1,.bx (.t 0) [],none⟩,⟨some 2,.al [.int .i64 0,.sl .ex 2 []] [],none⟩]) (.seq (.drw [⟨0,[],⟨some 3,.fa 0 (.t 1),none⟩,false,[]⟩,⟨1,[0],⟨some 4,.ld false 1 (.t 3),none⟩,false,[]⟩,⟨2,[],⟨some 5,.fa 1 (.t 1),none⟩,false,[]⟩,⟨3,[2],⟨some 6,.ld false 1 (.t 5),none⟩,false,[]⟩,⟨4,[2,3],⟨some 7,.call 32 [(.t 6)],none⟩,false,[]⟩,⟨5,[0,1,2,3,4],⟨some 8,.bd [.int .i64 0,.sl .ex 2 []] [(0,1,(.t 4)),(1,1,(.t 7))],none⟩,false,[]⟩,⟨6,[0,1,2,3,4,5],⟨none,.st true 2 (.t 2) (.t 8),none⟩,true,[]⟩]) (.ret)),res := [(2,some (true,2))] }
def c158 : VF := { code := .seq (.reg [⟨some 2,.bx (.t 0) [],none⟩,⟨some 4,.nw 2,none⟩,⟨some 5,.nw 2,none⟩,⟨some 6,.mv (.c (.int .i64 0)),none⟩]) (.seq (.reg [⟨some 13,.ld true 4 (.t 2),none⟩,⟨some 14,.mv (.t 1),none⟩,⟨some 15,.call 199 [(.t 13),(.t 14)],none⟩,⟨some 12,.mv (.t 15),none⟩,⟨some 16,.ex (.t 12) 0,none⟩,⟨some 17,.ex (.t 12) 1,none⟩,⟨some 7,.mv (.t 16),none⟩,⟨some 6,.mv (.t 17),none⟩]) (.seq (.seq (.reg [⟨some 18,.mv (.t 6),none⟩,⟨some 19,.bin .neq (.t 18) (.c (.int .i64 0)),none⟩]) (.cond (.t 19) (.seq (.reg [⟨some 20,.mv (.t 6),none⟩,⟨some 4,.nw 2,none⟩,⟨some 5,.nw 2,none⟩,⟨some 6,.mv (.t 20),none⟩]) (.ret)) (.skip))) (.seq (.seq (.reg [⟨some 21,.fa 3 (.t 2),none⟩,⟨some 22,.ld false 1 (.t 21),none⟩,⟨some 23,.len false (.t 22),none⟩,⟨some 24,.mv (.c (.int .i64 0)),none⟩]) (.block 0 (.loop [1,4,5,7,22,23,24] (.seq (.reg [⟨some 25,.bin .lss (.t 24) (.t 23),none⟩]) (.seq (.cond (.t 25) (.skip) (.exit 0)) (.seq (.block 1 (.seq (.reg [⟨some 26,.ia none 4 (.t 22) (.t 24),none⟩,⟨some 27,.ld true 4 (.t 26),none⟩,⟨some 9,.al [.int .i64 0,.str [],.sl .ex 1 [],.int .i64 0] [],none⟩,⟨none,.st true 4 (.t 9) (.t 27),none⟩]) (.seq (.seq (.reg [⟨some 28,.fa 0 (.t 9),none⟩,⟨some 29,.ld false 1 (.t 28),none⟩,⟨some 30,.bin .eql (.t 29) (.c (.int .i64 2)),none⟩]) (.cond (.t 30) (.seq (.reg [⟨some 31,.mv (.t 5),none⟩,⟨some 32,.mv (.t 1),none⟩,⟨some 33,.fa 3 (.t 9),none⟩,⟨some 34,.ld false 1 (.t 33),none⟩,⟨some 35,.ia none 2 (.t 32) (.t 34),none⟩,⟨some 36,.ld true 2 (.t 35),none⟩,⟨some 37,.call 34 [(.t 36)],none⟩,⟨some 38,.bl 2 [(.t 37)],none⟩,⟨some 39,.app 2 (.t 31) (.t 38),none⟩,⟨some 5,.mv (.t 39),none⟩]) (.exit 1)) (.skip))) (.seq (.reg [⟨some 41,.ld true 4 (.t 9),none⟩,⟨some 42,.mv (.t 7),none⟩,⟨some 43,.call 200 [(.t 41),(.t 42)],none⟩,⟨some 40,.mv (.t 43),none⟩,⟨some 44,.ex (.t 40) 0,none⟩,⟨some 45,.ex (.t 40) 1,none⟩,⟨some 10,.al [.str [],.sl .ex 3 []] [],none⟩,⟨none,.st true 2 (.t 10) (.t 44),none⟩,⟨some 11,.mv (.t 45),none⟩]) (.seq (.seq (.reg [⟨some 46,.mv (.t 11),none⟩,⟨some 47,.bin .neq (.t 46) (.c (.int .i64 0)),none⟩]) (.cond (.t 47) (.seq (.reg [⟨some 48,.mv (.t 11),none⟩,⟨some 4,.nw 2,none⟩,⟨some 5,.nw 2,none⟩,⟨some 6,.mv (.t 48),none⟩]) (.ret)) (.skip))) (.reg [⟨some 49,.mv (.t 4),none⟩,⟨some 50,.ld true 2 (.t 10),none⟩,⟨some 51,.bl 2 [(.t 50)],none⟩,⟨some 52,.app 2 (.t 49) (.t 51),none⟩,⟨some 4,.mv (.t 52),none⟩])))))) (.reg [⟨some 53,.bin .add (.t 24) (.c (.int .i64 1)),none⟩,⟨some 24,.mv (.t 53),none⟩]))))))) (.seq (.reg [⟨some 54,.mv (.t 4),none⟩,⟨some 55,.mv (.t 5),none⟩,⟨some 4,.mv (.t 54),none⟩,⟨some 5,.mv (.t 55),none⟩,⟨some 6,.mv (.c (.int .i64 0)),none⟩]) (.ret))))),res := [(4,none),(5,none),(6,none)] }
def c159 : VF := { code := .seq (.reg [⟨some 4,.bx (.t 1) [],none⟩,⟨some 5,.bx (.t 2) [],none⟩]) (.seq (.drw [⟨0,[],⟨some 7,.mv (.t 0),none⟩,false,[]⟩,⟨1,[0],⟨some 8,.nc (.t 7),none⟩,false,[]⟩,⟨2,[0,1],⟨some 9,.fa 0 (.t 8),none⟩,false,[]⟩,⟨3,[0,1,2],⟨some 10,.ld true 3 (.t 9),none⟩,false,[]⟩,⟨4,[],⟨some 11,.ld true 2 (.t 5),none⟩,false,[]⟩,⟨5,[0,1,2,3,4],⟨some 12,.call 33 [(.t 10),(.t 11)],none⟩,false,[]⟩,⟨6,[0,1,2,3,4,5],⟨some 6,.mv (.t 12),none⟩,false,[]⟩]) (.seq (.block 0 (.seq (.reg [⟨some 14,.fa 0 (.t 4),none⟩,⟨some 15,.ld false 1 (.t 14),none⟩,⟨some 16,.bin .eql (.t 15) (.c (.int .i64 2)),none⟩,⟨some 13,.mv (.t 16),none⟩]) (.cond (.t 13) (.seq (.drw [⟨0,[],⟨some 17,.mv (.t 0),none⟩,false,[]⟩,⟨1,[0],⟨some 18,.nc (.t 17),none⟩,false,[]⟩,⟨2,[0,1],⟨some 19,.fa 6 (.t 18),none⟩,false,[]⟩,⟨3,[0,1,2],⟨some 20,.ld false 1 (.t 19),none⟩,false,[]⟩,⟨4,[],⟨some 21,.ld true 2 (.t 5),none⟩,false,[]⟩,⟨5,[0,1,2,3,4],⟨some 22,.inv (.t 20) [(72,332)] [(.t 21)],none⟩,true,[]⟩]) (.ret)) (.seq (.reg [⟨some 24,.mv (.t 6),none⟩,⟨some 25,.bin .eql (.t 24) (.c (.int .i64 4)),none⟩,⟨some 23,.mv (.t 25),none⟩]) (.cond (.t 23) (.seq (.drw [⟨0,[],⟨some 27,.mv (.t 0),none⟩,false,[]⟩,⟨1,[],⟨some 28,.mv (.t 0),none⟩,false,[]⟩,⟨2,[1],⟨some 29,.nc (.t 28),none⟩,false,[]⟩,⟨3,[1,2],⟨some 30,.fa 7 (.t 29),none⟩,false,[]⟩,⟨4,[1,2,3],⟨some 31,.fa 3 (.t 30),none⟩,false,[]⟩,⟨5,[1,2,3,4],⟨some 32,.ld false 1 (.t 31),none⟩,false,[]⟩,⟨6,[],⟨some 33,.ld true 2 (.t 5),none⟩,false,[]⟩,⟨7,[1,2,3,4,5,6],⟨some 34,.call 201 [(.t 32),(.t 33)],none⟩,false,[]⟩,⟨8,[1,2,3,4,5,6,7],⟨some 26,.mv (.t 34),none⟩,false,[]⟩,⟨9,[1,2,3,4,5,6,7,8],⟨some 35,.ex (.t 26) 0,none⟩,false,[]⟩,⟨10,[1,2,3,4,5,6,7,8],⟨some 36,.ex (.t 26) 1,none⟩,false,[]⟩,⟨11,[0,1,2,3,4,5,6,7,8,9],⟨some 37,.nc (.t 27),none⟩,false,[]⟩,⟨12,[0,1,2,3,4,5,6,7,8,9,11],⟨some 38,.fa 7 (.t 37),none⟩,false,[]⟩,⟨13,[0,1,2,3,4,5,6,7,8,9,11,12],⟨some 39,.fa 3 (.t 38),none⟩,false,[]⟩,⟨14,[0,1,2,3,4,5,6,7,8,9,11,12,13],⟨none,.st false 1 (.t 39) (.t 35),none⟩,true,[]⟩]) (.ret)) (.seq (.drw [⟨0,[],⟨some 41,.mv (.t 6),none⟩,false,[]⟩,⟨1,[0],⟨some 42,.bin .eql (.t 41) (.c (.int .i64 5)),none⟩,false,[]⟩,⟨2,[0,1],⟨some 43,.mv (.t 42),none⟩,false,[]⟩,⟨3,[0,1,2],⟨some 44,.mv (.t 0),some (43,true)⟩,false,[]⟩,⟨4,[0,1,2,3],⟨some 45,.nc (.t 44),some (43,true)⟩,false,[]⟩,⟨5,[0,1,2,3,4],⟨some 46,.fa 6 (.t 45),some (43,true)⟩,false,[]⟩,⟨6,[0,1,2,3,4,5],⟨some 47,.ld false 1 (.t 46),some (43,true)⟩,false,[]⟩,⟨8,[0,1,2],⟨some 49,.ld true 2 (.t 5),some (43,true)⟩,false,[]⟩,⟨7,[0,1,2,3,4,5,6],⟨some 48,.inv (.t 47) [(72,333)] [],some (43,true)⟩,true,[8]⟩,⟨9,[0,1,2,3,4,5,6,7,8],⟨some 50,.call 106 [(.t 48),(.t 49)],some (43,true)⟩,false,[]⟩,⟨10,[0,1,2,3,4,5,6,7,8,9],⟨some 51,.not (.t 50),some (43,true)⟩,false,[]⟩,⟨11,[0,1,2,3,4,5,6,7,8,9,10],⟨some 52,.pick (.t 43) (.t 51) (.c (.bool false)),none⟩,false,[]⟩,⟨12,[0,1,2,3,4,5,6,7,8,9,10,11],⟨some 40,.mv (.t 52),none⟩,false,[]⟩]) (.cond (.t 40) (.drw [⟨0,[],⟨some 53,.mv (.t 0),none⟩,false,[]⟩,⟨1,[],⟨some 54,.mv (.t 0),none⟩,false,[]⟩,⟨2,[1],⟨some 55,.nc (.t 54),none⟩,false,[]⟩,⟨3,[1,2],⟨some 56,.fa 7 (.t 55),none⟩,false,[]⟩,⟨4,[1,2,3],⟨some 57,.fa 2 (.t 56),none⟩,false,[]⟩,⟨5,[1,2,3,4],⟨some 58,.ld false 1 (.t 57),none⟩,false,[]⟩,⟨6,[],⟨some 59,.ld true 2 (.t 5),none⟩,false,[]⟩,⟨7,[6],⟨some 60,.call 34 [(.t 59)],none⟩,false,[]⟩,⟨8,[6,7],⟨some 61,.bl 2 [(.t 60)],none⟩,false,[]⟩,⟨9,[1,2,3,4,5,6,7,8],⟨some 62,.app 2 (.t 58) (.t 61),none⟩,true,[]⟩,⟨10,[0,1,2,3,4,5,6,7,8,9],⟨some 63,.nc (.t 53),none⟩,false,[]⟩,⟨11,[0,1,2,3,4,5,6,7,8,9,10],⟨some 64,.fa 7 (.t 63),none⟩,false,[]⟩,⟨12,[0,1,2,3,4,5,6,7,8,9,10,11],⟨some 65,.fa 2 (.t 64),none⟩,false,[]⟩,⟨13,[0,1,2,3,4,5,6,7,8,9,10,11,12],⟨none,.st false 1 (.t 65) (.t 62),none⟩,true,[]⟩]) (.skip)))))))) (.drw [⟨0,[],⟨some 66,.mv (.t 0),none⟩,false,[]⟩,⟨1,[0],⟨some 67,.nc (.t 66),none⟩,false,[]⟩,⟨2,[0,1],⟨some 68,.fa 6 (.t 67),none⟩,false,[]⟩,⟨3,[0,1,2],⟨some 69,.ld false 1 (.t 68),none⟩,false,[]⟩,⟨4,[],⟨some 70,.ld true 2 (.t 5),none⟩,false,[]⟩,⟨5,[0,1,2,3,4],⟨some 71,.inv (.t 69) [(72,335)] [(.t 70)],none⟩,true,[]⟩]))),res := [] }
def c163 : VF := { code := .seq (.reg [⟨some 6,.mv (.c (.int .i64 0)),none⟩,⟨some 7,.mv (.c (.nili)),none⟩]) (.seq (.seq (.reg [⟨some 12,.mv (.t 0),none⟩,⟨some 13,.bin .eql (.t 12) (.c (.str [])),none⟩]) (.cond (.t 13) (.seq (.reg [⟨some 14,.mi 261 (.c (.int .i64 2)),none⟩,⟨some 6,.mv (.c (.int .i64 0)),none⟩,⟨some 7,.mv (.t 14),none⟩]) (.ret)) (.skip))) (.seq (.reg [⟨some 8,.mv (.c (.bool false)),none⟩]) (.seq (.seq (.reg [⟨some 15,.mv (.t 0),none⟩,⟨some 16,.ix (.t 15) (.c (.int .i64 0)),none⟩]) (.block 0 (.seq (.reg [⟨some 18,.bin .eql (.t 16) (.c (.int .u8 43)),none⟩,⟨some 17,.mv (.t 18),none⟩]) (.cond (.t 17) (.reg [⟨some 19,.mv (.t 0),none⟩,⟨some 20,.cut true 1 (.t 19) (some (.c (.int .i64 1))) none none,none⟩,⟨some 0,.mv (.t 20),none⟩]) (.seq (.reg [⟨some 22,.bin .eql (.t 16) (.c (.int .u8 45)),none⟩,⟨some 21,.mv (.t 22),none⟩]) (.cond (.t 21) (.seq (.reg [⟨some 23,.mv (.t 0),none⟩,⟨some 24,.cut true 1 (.t 23) (some (.c (.int .i64 1))) none none,none⟩,⟨some 0,.mv (.t 24),none⟩]) (.reg [⟨some 8,.mv (.c (.bool true)),none⟩])) (.skip))))))) (.seq (.reg [⟨some 9,.mv (.c (.int .u64 0)),none⟩]) (.seq (.reg [⟨some 26,.mv (.t 0),none⟩,⟨some 27,.mv (.t 1),none⟩,⟨some 28,.mv (.t 2),none⟩,⟨some 29,.call 204 [(.t 26),(.t 27),(.t 28)],none⟩,⟨some 25,.mv (.t 29),none⟩,⟨some 30,.ex (.t 25) 0,none⟩,⟨some 31,.ex (.t 25) 1,none⟩,⟨some 9,.mv (.t 30),none⟩,⟨some 7,.mv (.t 31),none⟩]) (.seq (.seq (.reg [⟨some 32,.mv (.t 7),none⟩,⟨some 33,.eqn 1 true (.t 32),none⟩,⟨some 34,.mv (.t 33),none⟩,⟨some 35,.mv (.t 7),some (34,true)⟩,⟨some 36,.mi 261 (.c (.int .i64 1)),some (34,true)⟩,⟨some 37,.bad,some (34,true)⟩,⟨some 38,.pick (.t 34) (.t 37) (.c (.bool false)),none⟩]) (.cond (.t 38) (.seq (.reg [⟨some 39,.mv (.t 7),none⟩,⟨some 6,.mv (.c (.int .i64 0)),none⟩,⟨some 7,.mv (.t 39),none⟩]) (.ret)) (.skip))) (.seq (.seq (.reg [⟨some 40,.mv (.t 2),none⟩,⟨some 41,.bin .eql (.t 40) (.c (.int .i64 0)),none⟩]) (.cond (.t 41) (.reg [⟨some 2,.mv (.c (.int .i64 64)),none⟩]) (.skip))) (.seq (.reg [⟨some 42,.mv (.t 2),none⟩,⟨some 43,.bin .sub (.t 42) (.c (.int .i64 1)),none⟩,⟨some 44,.wrp .u64 (.t 43),none⟩,⟨some 45,.bin .shl (.c (.int .u64 1)) (.t 44),none⟩,⟨some 10,.mv (.t 45),none⟩]) (.seq (.seq (.reg [⟨some 46,.mv (.t 8),none⟩,⟨some 47,.not (.t 46),none⟩,⟨some 48,.mv (.t 47),none⟩,⟨some 49,.mv (.t 9),some (48,true)⟩,⟨some 50,.mv (.t 10),some (48,true)⟩,⟨some 51,.bin .geq (.t 49) (.t 50),some (48,true)⟩,⟨some 52,.pick (.t 48) (.t 51) (.c (.bool false)),none⟩]) (.cond (.t 52) (.seq (.reg [⟨some 53,.mv (.t 10),none⟩,⟨some 54,.bin .sub (.t 53) (.c (.int .u64 1)),none⟩,⟨some 55,.wrp .i64 (.t 54),none⟩,⟨some 56,.mi 261 (.c (.int .i64 1)),none⟩,⟨some 6,.mv (.t 55),none⟩,⟨some 7,.mv (.t 56),none⟩]) (.ret)) (.skip))) (.seq (.seq (.reg [⟨some 57,.mv (.t 8),none⟩,⟨some 58,.mv (.t 57),none⟩,⟨some 59,.mv (.t 9),some (58,true)⟩,⟨some 60,.mv (.t 10),some (58,true)⟩,⟨some 61,.bin .gtr (.t 59) (.t 60),some (58,true)⟩,⟨some 62,.pick (.t 58) (.t 61) (.c (.bool false)),none⟩]) (.cond (.t 62) (.seq (.reg [⟨some 63,.mv (.t 10),none⟩,⟨some 64,.wrp .i64 (.t 63),none⟩,⟨some 65,.neg (.t 64),none⟩,⟨some 66,.mi 261 (.c (.int .i64 1)),none⟩,⟨some 6,.mv (.t 65),none⟩,⟨some 7,.mv (.t 66),none⟩]) (.ret)) (.skip))) (.seq (.reg [⟨some 67,.mv (.t 9),none⟩,⟨some 68,.wrp .i64 (.t 67),none⟩,⟨some 11,.mv (.t 68),none⟩]) (.seq (.seq (.reg [⟨some 69,.mv (.t 8),none⟩]) (.cond (.t 69) (.reg [⟨some 70,.mv (.t 11),none⟩,⟨some 71,.neg (.t 70),none⟩,⟨some 11,.mv (.t 71),none⟩]) (.skip))) (.seq (.reg [⟨some 72,.mv (.t 11),none⟩,⟨some 6,.mv (.t 72),none⟩,⟨some 7,.mv (.c (.nili)),none⟩]) (.ret)))))))))))))),res := [(6,none),(7,none)] }
def c168 : VF := { code := .seq (.reg [⟨some 2,.mv (.c (.str [])),none⟩]) (.seq (.reg [⟨some 3,.mv (.t 0),none⟩,⟨some 4,.call 207 [(.t 3),(.c (.int .i64 10))],none⟩,⟨some 2,.mv (.t 4),none⟩]) (.ret)),res := [(2,none)] }
def c169 : VF := { code := .seq (.reg [⟨some 4,.mv (.c (.bool false)),none⟩]) (.seq (.reg [⟨some 5,.mv (.t 0),none⟩,⟨some 6,.mv (.t 1),none⟩,⟨some 7,.call 208 [(.t 5),(.t 6)],none⟩,⟨some 8,.bin .geq (.t 7) (.c (.int .i64 0)),none⟩,⟨some 4,.mv (.t 8),none⟩]) (.ret)),res := [(4,none)] }
def c170 : VF := { code := .seq (.reg [⟨some 4,.nw 5,none⟩]) (.seq (.seq (.reg [⟨some 9,.mv (.t 0),none⟩,⟨some 10,.call 81 [(.t 9),(.c (.str [40]))],none⟩,⟨some 11,.not (.t 10),none⟩]) (.cond (.t 11) (.seq (.reg [⟨some 12,.mv (.t 0),none⟩,⟨some 13,.call 89 [(.t 12)],none⟩,⟨some 5,.al [.str [],.int .i64 0,.int .i64 0,.str []] [],none⟩,⟨none,.st true 4 (.t 5) (.t 13),none⟩]) (.seq (.reg [⟨some 6,.mv (.c (.int .i64 2)),none⟩]) (.seq (.seq (.reg [⟨some 14,.fa 0 (.t 5),none⟩,⟨some 15,.ld false 1 (.t 14),none⟩,⟨some 16,.bin .neq (.t 15) (.c (.str [])),none⟩]) (.cond (.t 16) (.reg [⟨some 6,.mv (.c (.int .i64 1)),none⟩]) (.skip))) (.seq (.reg [⟨some 17,.mv (.t 6),none⟩,⟨some 18,.fa 0 (.t 5),none⟩,⟨some 19,.ld false 1 (.t 18),none⟩,⟨some 20,.fa 1 (.t 5),none⟩,⟨some 21,.ld true 3 (.t 20),none⟩,⟨some 22,.bd [.int .i64 0,.str [],.int .i64 0,.int .i64 0,.str []] [(0,1,(.t 17)),(1,1,(.t 19)),(2,3,(.t 21))],none⟩,⟨some 23,.bl 5 [(.t 22)],none⟩,⟨some 4,.mv (.t 23),none⟩]) (.ret))))) (.skip))) (.seq (.seq (.reg [⟨some 24,.mv (.t 1),none⟩,⟨some 25,.bin .geq (.t 24) (.c (.int .i64 15)),none⟩]) (.cond (.t 25) (.seq (.reg [⟨some 26,.mv (.t 0),none⟩,⟨some 27,.nc (.t 26),none⟩,⟨some 28,.fa 3 (.t 27),none⟩,⟨none,.st false 1 (.t 28) (.c (.bool true)),none⟩]) (.seq (.reg [⟨some 4,.nw 5,none⟩]) (.ret))) (.skip))) (.seq (.reg [⟨some 29,.mv (.t 0),none⟩,⟨some 30,.mv (.t 1),none⟩,⟨some 31,.bin .add (.t 30) (.c (.int .i64 1)),none⟩,⟨some 32,.call 170 [(.t 29),(.t 31)],none⟩,⟨some 7,.mv (.t 32),none⟩]) (.seq (.reg [⟨some 33,.mv (.t 0),none⟩,⟨some 34,.call 209 [(.t 33)],none⟩,⟨some 8,.mv (.t 34),none⟩]) (.seq (.seq (.reg [⟨some 35,.mv (.t 0),none⟩,⟨some 36,.call 52 [(.t 35)],none⟩,⟨some 37,.not (.t 36),none⟩]) (.cond (.t 37) (.seq (.reg [⟨some 4,.nw 5,none⟩]) (.ret)) (.skip))) (.seq (.reg [⟨some 38,.mv (.t 7),none⟩,⟨some 39,.mv (.t 0),none⟩,⟨some 40,.mv (.t 1),none⟩,⟨some 41,.bin .add (.t 40) (.c (.int .i64 1)),none⟩,⟨some 42,.call 170 [(.t 39),(.t 41)],none⟩,⟨some 43,.app 5 (.t 38) (.t 42),none⟩,⟨some 7,.mv (.t 43),none⟩]) (.seq (.reg [⟨some 44,.mv (.t 0),none⟩,⟨some 45,.call 50 [(.t 44),(.c (.str [41]))],none⟩]) (.seq (.reg [⟨some 46,.mv (.t 7),none⟩,⟨some 47,.mv (.t 8),none⟩,⟨some 48,.bd [.int .i64 0,.str [],.int .i64 0,.int .i64 0,.str []] [(0,1,(.t 47))],none⟩,⟨some 49,.bl 5 [(.t 48)],none⟩,⟨some 50,.app 5 (.t 46) (.t 49),none⟩,⟨some 4,.mv (.t 50),none⟩]) (.ret))))))))),res := [(4,none)],keepR := true }
def c171 : VF := { code := .seq (.reg [⟨some 0,.nw 1,none⟩]) (.seq (.reg [⟨some 1,.bl 1 [(.c (.str [61])),(.c (.str [33,61])),(.c (.str [60])),(.c (.str [60,61]))],none⟩,⟨some 0,.mv (.t 1),none⟩]) (.ret)),res := [(0,none)] }
def c172 : VF := { code := .seq (.reg [⟨some 2,.mv (.c (.bool false)),none⟩]) (.seq (.reg [⟨some 3,.mv (.t 0),none⟩,⟨some 4,.bin .geq (.t 3) (.c (.int .i64 1)),none⟩,⟨some 5,.mv (.t 4),none⟩,⟨some 6,.mv (.t 0),some (5,true)⟩,⟨some 7,.bin .leq (.t 6) (.c (.int .i64 4)),some (5,true)⟩,⟨some 8,.pick (.t 5) (.t 7) (.c (.bool false)),none⟩,⟨some 2,.mv (.t 8),none⟩]) (.ret)),res := [(2,none)] }
def c173 : VF := { code := .seq (.reg [⟨some 4,.mv (.c (.int .i64 0)),none⟩]) (.seq (.seq (.reg [⟨some 6,.mv (.t 0),none⟩,⟨some 7,.len false (.t 6),none⟩,⟨some 8,.mv (.c (.int .i64 0)),none⟩]) (.block 0 (.loop [0,1,7,8] (.seq (.reg [⟨some 9,.bin .lss (.t 8) (.t 7),none⟩]) (.seq (.cond (.t 9) (.skip) (.exit 0)) (.seq (.block 1 (.seq (.reg [⟨some 10,.mv (.t 8),none⟩,⟨some 5,.mv (.t 10),none⟩]) (.seq (.reg [⟨some 11,.mv (.t 1),none⟩,⟨some 12,.mv (.t 0),none⟩,⟨some 13,.mv (.t 5),none⟩,⟨some 14,.ia none 1 (.t 12) (.t 13),none⟩,⟨some 15,.ld false 1 (.t 14),none⟩,⟨some 16,.cv (.t 11) [(.t 15)],none⟩]) (.cond (.t 16) (.seq (.reg [⟨some 17,.mv (.t 5),none⟩,⟨some 4,.mv (.t 17),none⟩]) (.ret)) (.skip))))) (.reg [⟨some 18,.bin .add (.t 8) (.c (.int .i64 1)),none⟩,⟨some 8,.mv (.t 18),none⟩]))))))) (.seq (.reg [⟨some 4,.mv (.c (.int .i64 (-1))),none⟩]) (.ret))),res := [(4,none)] }
def c174 : VF := { code := .seq (.reg [⟨some 1,.bx (.t 0) [],none⟩,⟨some 2,.mv (.c (.bool false)),none⟩]) (.seq (.seq (.reg [⟨some 3,.fa 0 (.t 1),none⟩,⟨some 4,.ld false 1 (.t 3),none⟩]) (.block 0 (.seq (.reg [⟨some 6,.bin .eql (.t 4) (.c (.int .i64 1)),none⟩,⟨some 5,.mv (.t 6),none⟩]) (.cond (.t 5) (.seq (.reg [⟨some 7,.fa 1 (.t 1),none⟩,⟨some 8,.ld false 1 (.t 7),none⟩,⟨some 9,.call 176 [(.t 8)],none⟩,⟨some 10,.mv (.t 9),none⟩,⟨some 11,.fa 2 (.t 1),some (10,true)⟩,⟨some 12,.ld true 3 (.t 11),some (10,true)⟩,⟨some 13,.bd [.int .i64 0,.int .i64 0,.str []] [],some (10,true)⟩,⟨some 14,.eqs false [1,1,2] (.t 12) (.t 13),some (10,true)⟩,⟨some 15,.pick (.t 10) (.t 14) (.c (.bool false)),none⟩,⟨some 2,.mv (.t 15),none⟩]) (.ret)) (.seq (.reg [⟨some 17,.bin .eql (.t 4) (.c (.int .i64 2)),none⟩,⟨some 16,.mv (.t 17),none⟩]) (.cond (.t 16) (.seq (.reg [⟨some 18,.fa 1 (.t 1),none⟩,⟨some 19,.ld false 1 (.t 18),none⟩,⟨some 20,.bin .eql (.t 19) (.c (.str [])),none⟩,⟨some 21,.mv (.t 20),none⟩,⟨some 22,.fa 2 (.t 1),some (21,true)⟩,⟨some 23,.ld true 3 (.t 22),some (21,true)⟩,⟨some 24,.call 103 [(.t 23)],some (21,true)⟩,⟨some 25,.bin .eql (.t 24) (.c (.int .i64 0)),some (21,true)⟩,⟨some 26,.pick (.t 21) (.t 25) (.c (.bool false)),none⟩,⟨some 2,.mv (.t 26),none⟩]) (.ret)) (.seq (.seq (.reg [⟨some 28,.bin .eql (.t 4) (.c (.int .i64 3)),none⟩,⟨some 27,.mv (.t 28),none⟩]) (.cond (.t 27) (.skip) (.seq (.reg [⟨some 29,.bin .eql (.t 4) (.c (.int .i64 4)),none⟩,⟨some 27,.mv (.t 29),none⟩]) (.cond (.t 27) (.skip) (.reg [⟨some 30,.bin .eql (.t 4) (.c (.int .i64 5)),none⟩,⟨some 27,.mv (.t 30),none⟩]))))) (.cond (.t 27) (.seq (.reg [⟨some 31,.fa 1 (.t 1),none⟩,⟨some 32,.ld false 1 (.t 31),none⟩,⟨some 33,.bin .eql (.t 32) (.c (.str [])),none⟩,⟨some 34,.mv (.t 33),none⟩,⟨some 35,.fa 2 (.t 1),some (34,true)⟩,⟨some 36,.ld true 3 (.t 35),some (34,true)⟩,⟨some 37,.bd [.int .i64 0,.int .i64 0,.str []] [],some (34,true)⟩,⟨some 38,.eqs false [1,1,2] (.t 36) (.t 37),some (34,true)⟩,⟨some 39,.pick (.t 34) (.t 38) (.c (.bool false)),none⟩,⟨some 2,.mv (.t 39),none⟩]) (.ret)) (.skip))))))))) (.seq (.reg [⟨some 2,.mv (.c (.bool false)),none⟩]) (.ret))),res := [(2,none)] }
def c175 : VF := { code := .seq (.reg [⟨some 2,.mv (.c (.bool false)),none⟩]) (.seq (.reg [⟨some 3,.mv (.t 0),none⟩,⟨some 4,.bin .eql (.t 3) (.c (.int .i64 1)),none⟩,⟨some 5,.mv (.t 4),none⟩,⟨some 6,.mv (.t 0),some (5,false)⟩,⟨some 7,.bin .eql (.t 6) (.c (.int .i64 2)),some (5,false)⟩,⟨some 8,.pick (.t 5) (.c (.bool true)) (.t 7),none⟩,⟨some 2,.mv (.t 8),none⟩]) (.ret)),res := [(2,none)] }
def c176 : VF := { code := .seq (.reg [⟨some 2,.mv (.c (.bool false)),none⟩]) (.seq (.seq (.reg [⟨some 4,.mv (.t 0),none⟩,⟨some 5,.len true (.t 4),none⟩,⟨some 6,.bin .lss (.t 5) (.c (.int .i64 1)),none⟩,⟨some 7,.mv (.t 6),none⟩,⟨some 8,.mv (.t 0),some (7,false)⟩,⟨some 9,.len true (.t 8),some (7,false)⟩,⟨some 10,.bin .gtr (.t 9) (.c (.int .i64 24)),some (7,false)⟩,⟨some 11,.pick (.t 7) (.c (.bool true)) (.t 10),none⟩,⟨some 12,.mv (.t 11),none⟩,⟨some 13,.mv (.t 0),some (12,false)⟩,⟨some 14,.ix (.t 13) (.c (.int .i64 0)),some (12,false)⟩,⟨some 15,.bin .lss (.t 14) (.c (.int .u8 65)),some (12,false)⟩,⟨some 16,.pick (.t 12) (.c (.bool true)) (.t 15),none⟩,⟨some 17,.mv (.t 16),none⟩,⟨some 18,.mv (.t 0),some (17,false)⟩,⟨some 19,.ix (.t 18) (.c (.int .i64 0)),some (17,false)⟩,⟨some 20,.bin .gtr (.t 19) (.c (.int .u8 90)),some (17,false)⟩,⟨some 21,.pick (.t 17) (.c (.bool true)) (.t 20),none⟩]) (.cond (.t 21) (.seq (.reg [⟨some 2,.mv (.c (.bool false)),none⟩]) (.ret)) (.skip))) (.seq (.seq (.reg [⟨some 22,.mv (.t 0),none⟩,⟨some 23,.len true (.t 22),none⟩,⟨some 24,.mv (.c (.int .i64 0)),none⟩]) (.block 0 (.loop [0,23,24] (.seq (.reg [⟨some 25,.bin .lss (.t 24) (.t 23),none⟩]) (.seq (.cond (.t 25) (.skip) (.exit 0)) (.seq (.block 1 (.seq (.reg [⟨some 26,.mv (.t 24),none⟩,⟨some 3,.mv (.t 26),none⟩]) (.seq (.reg [⟨some 27,.mv (.t 0),none⟩,⟨some 28,.mv (.t 3),none⟩,⟨some 29,.ix (.t 27) (.t 28),none⟩,⟨some 30,.call 210 [(.t 29)],none⟩,⟨some 31,.not (.t 30),none⟩]) (.cond (.t 31) (.seq (.reg [⟨some 2,.mv (.c (.bool false)),none⟩]) (.ret)) (.skip))))) (.reg [⟨some 32,.bin .add (.t 24) (.c (.int .i64 1)),none⟩,⟨some 24,.mv (.t 32),none⟩]))))))) (.seq (.reg [⟨some 2,.mv (.c (.bool true)),none⟩]) (.ret)))),res := [(2,none)] }
def c177 : VF := { code := .seq (.reg [⟨some 4,.mv (.c (.int .i64 0)),none⟩]) (.seq (.seq (.reg [⟨some 6,.mv (.t 0),none⟩,⟨some 7,.len false (.t 6),none⟩,⟨some 8,.mv (.c (.int .i64 0)),none⟩]) (.block 0 (.loop [0,1,7,8] (.seq (.reg [⟨some 9,.bin .lss (.t 8) (.t 7),none⟩]) (.seq (.cond (.t 9) (.skip) (.exit 0)) (.seq (.block 1 (.seq (.reg [⟨some 10,.mv (.t 8),none⟩,⟨some 5,.mv (.t 10),none⟩]) (.seq (.reg [⟨some 11,.mv (.t 1),none⟩,⟨some 12,.mv (.t 0),none⟩,⟨some 13,.mv (.t 5),none⟩,⟨some 14,.ia none 4 (.t 12) (.t 13),none⟩,⟨some 15,.ld true 4 (.t 14),none⟩,⟨some 16,.cv (.t 11) [(.t 15)],none⟩]) (.cond (.t 16) (.seq (.reg [⟨some 17,.mv (.t 5),none⟩,⟨some 4,.mv (.t 17),none⟩]) (.ret)) (.skip))))) (.reg [⟨some 18,.bin .add (.t 8) (.c (.int .i64 1)),none⟩,⟨some 8,.mv (.t 18),none⟩]))))))) (.seq (.reg [⟨some 4,.mv (.c (.int .i64 (-1))),none⟩]) (.ret))),res := [(4,none)] }
def c178 : VF := { code := .seq (.reg [⟨some 1,.bx (.t 0) [],none⟩,⟨some 2,.mv (.c (.bool false)),none⟩]) (.seq (.reg [⟨some 3,.fa 0 (.t 1),none⟩,⟨some 4,.ld false 1 (.t 3),none⟩,⟨some 5,.bin .eql (.t 4) (.c (.str [])),none⟩,⟨some 6,.mv (.t 5),none⟩,⟨some 7,.fa 1 (.t 1),some (6,true)⟩,⟨some 8,.ld false 1 (.t 7),some (6,true)⟩,⟨some 9,.len false (.t 8),some (6,true)⟩,⟨some 10,.bin .eql (.t 9) (.c (.int .i64 0)),some (6,true)⟩,⟨some 11,.pick (.t 6) (.t 10) (.c (.bool false)),none⟩,⟨some 2,.mv (.t 11),none⟩]) (.ret)),res := [(2,none)] }
def c179 : VF := { code := .seq (.reg [⟨some 1,.bx (.t 0) [],none⟩,⟨some 2,.mv (.c (.int .i64 0)),none⟩]) (.seq (.reg [⟨some 4,.ld true 3 (.t 1),none⟩,⟨some 5,.call 27 [(.t 4)],none⟩,⟨some 3,.mv (.t 5),none⟩]) (.seq (.reg [⟨some 6,.mv (.t 3),none⟩,⟨some 7,.mv (.t 6),none⟩,⟨some 8,.fa 0 (.t 1),some (7,false)⟩,⟨some 9,.ld false 1 (.t 8),some (7,false)⟩,⟨some 10,.call 211 [(.t 9),(.c (.fn 212 [] []))],some (7,false)⟩,⟨some 11,.pick (.t 7) (.c (.bool true)) (.t 10),none⟩,⟨some 3,.mv (.t 11),none⟩]) (.seq (.reg [⟨some 12,.mv (.t 3),none⟩,⟨some 13,.mv (.t 12),none⟩,⟨some 14,.fa 1 (.t 1),some (13,false)⟩,⟨some 15,.ld false 1 (.t 14),some (13,false)⟩,⟨some 16,.call 214 [(.t 15),(.c (.fn 215 [] []))],some (13,false)⟩,⟨some 17,.pick (.t 13) (.c (.bool true)) (.t 16),none⟩,⟨some 3,.mv (.t 17),none⟩]) (.seq (.reg [⟨some 18,.mv (.t 3),none⟩,⟨some 19,.mv (.t 18),none⟩,⟨some 20,.fa 2 (.t 1),some (19,false)⟩,⟨some 21,.ld false 1 (.t 20),some (19,false)⟩,⟨some 22,.call 216 [(.t 21),(.c (.fn 217 [] []))],some (19,false)⟩,⟨some 23,.pick (.t 19) (.c (.bool true)) (.t 22),none⟩,⟨some 3,.mv (.t 23),none⟩]) (.seq (.seq (.reg [⟨some 24,.mv (.t 3),none⟩]) (.cond (.t 24) (.seq (.reg [⟨some 2,.mv (.c (.int .i64 1)),none⟩]) (.ret)) (.skip))) (.seq (.reg [⟨some 2,.mv (.c (.int .i64 0)),none⟩]) (.ret))))))),res := [(2,none)] }
def c180 : VF := { code := .seq (.reg [⟨some 1,.bx (.t 0) [],none⟩,⟨some 2,.mv (.c (.bool false)),none⟩]) (.seq (.reg [⟨some 3,.fa 0 (.t 1),none⟩,⟨some 4,.ld false 1 (.t 3),none⟩,⟨some 5,.call 218 [(.t 4),(.c (.fn 219 [] []))],none⟩,⟨some 6,.mv (.t 5),none⟩,⟨some 7,.fa 1 (.t 1),some (6,false)⟩,⟨some 8,.ld false 1 (.t 7),some (6,false)⟩,⟨some 9,.call 220 [(.t 8),(.c (.fn 221 [] []))],some (6,false)⟩,⟨some 10,.pick (.t 6) (.c (.bool true)) (.t 9),none⟩,⟨some 11,.mv (.t 10),none⟩,⟨some 12,.fa 2 (.t 1),some (11,false)⟩,⟨some 13,.ld false 1 (.t 12),some (11,false)⟩,⟨some 14,.call 222 [(.t 13),(.c (.fn 223 [] []))],some (11,false)⟩,⟨some 15,.pick (.t 11) (.c (.bool true)) (.t 14),none⟩,⟨some 2,.mv (.t 15),none⟩]) (.ret)),res := [(2,none)] }
def c181 : VF := { code := .seq (.reg [⟨some 2,.bx (.t 0) [],none⟩,⟨some 3,.bx (.t 1) [],none⟩,⟨some 4,.mv (.c (.int .i64 0)),none⟩]) (.seq (.seq (.reg [⟨some 11,.fa 2 (.t 3),none⟩,⟨some 12,.ld false 1 (.t 11),none⟩,⟨some 13,.len false (.t 12),none⟩,⟨some 14,.mv (.c (.int .i64 0)),none⟩]) (.block 0 (.loop [2,3,12,13,14] (.seq (.reg [⟨some 15,.bin .lss (.t 14) (.t 13),none⟩]) (.seq (.cond (.t 15) (.skip) (.exit 0)) (.seq (.block 1 (.seq (.reg [⟨some 16,.ia none 6 (.t 12) (.t 14),none⟩,⟨some 17,.ld true 6 (.t 16),none⟩,⟨some 6,.al [.int .i64 0,.str [],.sl .ex 4 [],.int .i64 0,.sl .ex 5 [],.sl .ex 5 []] [],none⟩,⟨none,.st true 6 (.t 6) (.t 17),none⟩]) (.seq (.seq (.reg [⟨some 18,.fa 0 (.t 6),none⟩,⟨some 19,.ld false 1 (.t 18),none⟩,⟨some 20,.bin .eql (.t 19) (.c (.int .i64 3)),none⟩]) (.cond (.t 20) (.exit 1) (.skip))) (.seq (.reg [⟨some 21,.ld true 3 (.t 2),none⟩,⟨some 22,.fa 1 (.t 6),none⟩,⟨some 23,.fa 0 (.t 22),none⟩,⟨some 24,.ld false 1 (.t 23),none⟩,⟨some 25,.fa 1 (.t 6),none⟩,⟨some 26,.fa 1 (.t 25),none⟩,⟨some 27,.ld false 1 (.t 26),none⟩,⟨some 28,.len false (.t 27),none⟩,⟨some 29,.bl 1 [(.c (.int .i64 1)),(.c (.int .i64 2)),(.c (.int .i64 3)),(.c (.int .i64 4))],none⟩,⟨some 30,.call 224 [(.t 21),(.t 24),(.t 28),(.t 29)],none⟩,⟨some 7,.mv (.t 30),none⟩]) (.seq (.reg [⟨some 31,.mv (.t 7),none⟩,⟨some 32,.bin .neq (.t 31) (.c (.int .i64 0)),none⟩]) (.cond (.t 32) (.seq (.reg [⟨some 33,.mv (.t 7),none⟩,⟨some 4,.mv (.t 33),none⟩]) (.ret)) (.skip))))))) (.reg [⟨some 34,.bin .add (.t 14) (.c (.int .i64 1)),none⟩,⟨some 14,.mv (.t 34),none⟩]))))))) (.seq (.seq (.reg [⟨some 35,.fa 3 (.t 3),none⟩,⟨some 36,.ld false 1 (.t 35),none⟩,⟨some 37,.len false (.t 36),none⟩,⟨some 38,.mv (.c (.int .i64 0)),none⟩]) (.block 2 (.loop [2,3,36,37,38] (.seq (.reg [⟨some 39,.bin .lss (.t 38) (.t 37),none⟩]) (.seq (.cond (.t 39) (.skip) (.exit 2)) (.seq (.block 3 (.seq (.reg [⟨some 40,.ia none 4 (.t 36) (.t 38),none⟩,⟨some 41,.ld true 4 (.t 40),none⟩,⟨some 9,.al [.int .i64 0,.str [],.sl .ex 1 [],.int .i64 0] [],none⟩,⟨none,.st true 4 (.t 9) (.t 41),none⟩]) (.seq (.reg [⟨some 42,.ld true 3 (.t 2),none⟩,⟨some 43,.ld true 4 (.t 3),none⟩,⟨some 44,.ld true 4 (.t 9),none⟩,⟨some 45,.call 225 [(.t 42),(.t 43),(.t 44)],none⟩,⟨some 10,.mv (.t 45),none⟩]) (.seq (.reg [⟨some 46,.mv (.t 10),none⟩,⟨some 47,.bin .neq (.t 46) (.c (.int .i64 0)),none⟩]) (.cond (.t 47) (.seq (.reg [⟨some 48,.mv (.t 10),none⟩,⟨some 4,.mv (.t 48),none⟩]) (.ret)) (.skip)))))) (.reg [⟨some 49,.bin .add (.t 38) (.c (.int .i64 1)),none⟩,⟨some 38,.mv (.t 49),none⟩]))))))) (.seq (.reg [⟨some 4,.mv (.c (.int .i64 0)),none⟩]) (.ret)))),res := [(4,none)] }
def c182 : VF := { code := .seq (.reg [⟨some 2,.bx (.t 0) [],none⟩,⟨some 3,.bx (.t 1) [],none⟩,⟨some 4,.mv (.c (.int .i64 0)),none⟩]) (.seq (.reg [⟨some 11,.fa 1 (.t 3),none⟩,⟨some 12,.ld true 2 (.t 11),none⟩,⟨some 13,.bl 2 [(.t 12)],none⟩,⟨some 5,.mv (.t 13),none⟩]) (.seq (.seq (.reg [⟨some 14,.fa 3 (.t 3),none⟩,⟨some 15,.ld false 1 (.t 14),none⟩,⟨some 16,.len false (.t 15),none⟩,⟨some 17,.mv (.c (.int .i64 0)),none⟩]) (.block 0 (.loop [2,5,15,16,17] (.seq (.reg [⟨some 18,.bin .lss (.t 17) (.t 16),none⟩]) (.seq (.cond (.t 18) (.skip) (.exit 0)) (.seq (.block 1 (.seq (.reg [⟨some 19,.ia none 5 (.t 15) (.t 17),none⟩,⟨some 20,.ld true 5 (.t 19),none⟩,⟨some 7,.al [.int .i64 0,.str [],.sl .ex 4 [],.int .i64 0,.int .i64 0] [],none⟩,⟨none,.st true 5 (.t 7) (.t 20),none⟩]) (.seq (.reg [⟨some 21,.fa 0 (.t 7),none⟩,⟨some 22,.ld false 1 (.t 21),none⟩,⟨some 23,.bin .eql (.t 22) (.c (.int .i64 1)),none⟩]) (.cond (.t 23) (.reg [⟨some 24,.mv (.t 5),none⟩,⟨some 25,.fa 1 (.t 7),none⟩,⟨some 26,.ld true 2 (.t 25),none⟩,⟨some 27,.bl 2 [(.t 26)],none⟩,⟨some 28,.app 2 (.t 24) (.t 27),none⟩,⟨some 5,.mv (.t 28),none⟩]) (.skip))))) (.reg [⟨some 29,.bin .add (.t 17) (.c (.int .i64 1)),none⟩,⟨some 17,.mv (.t 29),none⟩]))))))) (.seq (.seq (.reg [⟨some 30,.mv (.t 5),none⟩,⟨some 31,.len false (.t 30),none⟩,⟨some 32,.mv (.c (.int .i64 0)),none⟩]) (.block 2 (.loop [2,30,31,32] (.seq (.reg [⟨some 33,.bin .lss (.t 32) (.t 31),none⟩]) (.seq (.cond (.t 33) (.skip) (.exit 2)) (.seq (.block 3 (.seq (.reg [⟨some 34,.ia none 2 (.t 30) (.t 32),none⟩,⟨some 35,.ld true 2 (.t 34),none⟩,⟨some 9,.al [.str [],.sl .ex 4 []] [],none⟩,⟨none,.st true 2 (.t 9) (.t 35),none⟩]) (.seq (.reg [⟨some 36,.ld true 3 (.t 2),none⟩,⟨some 37,.fa 0 (.t 9),none⟩,⟨some 38,.ld false 1 (.t 37),none⟩,⟨some 39,.fa 1 (.t 9),none⟩,⟨some 40,.ld false 1 (.t 39),none⟩,⟨some 41,.len false (.t 40),none⟩,⟨some 42,.bl 1 [(.c (.int .i64 1))],none⟩,⟨some 43,.call 224 [(.t 36),(.t 38),(.t 41),(.t 42)],none⟩,⟨some 10,.mv (.t 43),none⟩]) (.seq (.reg [⟨some 44,.mv (.t 10),none⟩,⟨some 45,.bin .neq (.t 44) (.c (.int .i64 0)),none⟩]) (.cond (.t 45) (.seq (.reg [⟨some 46,.mv (.t 10),none⟩,⟨some 4,.mv (.t 46),none⟩]) (.ret)) (.skip)))))) (.reg [⟨some 47,.bin .add (.t 32) (.c (.int .i64 1)),none⟩,⟨some 32,.mv (.t 47),none⟩]))))))) (.seq (.reg [⟨some 4,.mv (.c (.int .i64 0)),none⟩]) (.ret))))),res := [(4,none)] }
def c183 : VF := { code := .seq (.reg [⟨some 1,.bx (.t 0) [],none⟩,⟨some 2,.nw 1,none⟩]) (.seq (.reg [⟨some 3,.nw 1,none⟩]) (.seq (.seq (.reg [⟨some 6,.fa 1 (.t 1),none⟩,⟨some 7,.ld false 1 (.t 6),none⟩,⟨some 8,.len false (.t 7),none⟩,⟨some 9,.mv (.c (.int .i64 0)),none⟩]) (.block 0 (.loop [3,7,8,9] (.seq (.reg [⟨some 10,.bin .lss (.t 9) (.t 8),none⟩]) (.seq (.cond (.t 10) (.skip) (.exit 0)) (.seq (.block 1 (.seq (.reg [⟨some 11,.ia none 4 (.t 7) (.t 9),none⟩,⟨some 12,.ld true 4 (.t 11),none⟩,⟨some 5,.al [.str [],.int .i64 0,.int .i64 0,.str []] [],none⟩,⟨none,.st true 4 (.t 5) (.t 12),none⟩]) (.seq (.reg [⟨some 13,.fa 0 (.t 5),none⟩,⟨some 14,.ld false 1 (.t 13),none⟩,⟨some 15,.bin .neq (.t 14) (.c (.str [])),none⟩,⟨some 16,.mv (.t 15),none⟩,⟨some 17,.mv (.t 3),some (16,true)⟩,⟨some 18,.fa 0 (.t 5),some (16,true)⟩,⟨some 19,.ld false 1 (.t 18),some (16,true)⟩,⟨some 20,.call 169 [(.t 17),(.t 19)],some (16,true)⟩,⟨some 21,.not (.t 20),some (16,true)⟩,⟨some 22,.pick (.t 16) (.t 21) (.c (.bool false)),none⟩]) (.cond (.t 22) (.reg [⟨some 23,.mv (.t 3),none⟩,⟨some 24,.fa 0 (.t 5),none⟩,⟨some 25,.ld false 1 (.t 24),none⟩,⟨some 26,.bl 1 [(.t 25)],none⟩,⟨some 27,.app 1 (.t 23) (.t 26),none⟩,⟨some 3,.mv (.t 27),none⟩]) (.skip))))) (.reg [⟨some 28,.bin .add (.t 9) (.c (.int .i64 1)),none⟩,⟨some 9,.mv (.t 28),none⟩]))))))) (.seq (.reg [⟨some 29,.mv (.t 3),none⟩,⟨some 2,.mv (.t 29),none⟩]) (.ret)))),res := [(2,none)] }
def c184 : VF := { code := .seq (.reg [⟨some 2,.nm 1,none⟩]) (.seq (.reg [⟨some 3,.mv (.c (.int .i64 0)),none⟩]) (.seq (.seq (.reg [⟨some 9,.mv (.t 0),none⟩,⟨some 10,.len false (.t 9),none⟩,⟨some 11,.mv (.c (.int .i64 0)),none⟩]) (.block 0 (.loop [0,3,9,10,11] (.seq (.reg [⟨some 12,.bin .lss (.t 11) (.t 10),none⟩]) (.seq (.cond (.t 12) (.skip) (.exit 0)) (.seq (.block 1 (.seq (.reg [⟨some 13,.ia none 1 (.t 9) (.t 11),none⟩,⟨some 14,.ld false 1 (.t 13),none⟩,⟨some 5,.mv (.t 14),none⟩]) (.seq (.reg [⟨some 15,.mv (.t 3),none⟩,⟨some 16,.mv (.t 5),none⟩,⟨some 17,.len false (.t 16),none⟩,⟨some 18,.bin .add (.t 15) (.t 17),none⟩,⟨some 3,.mv (.t 18),none⟩]) (.seq (.reg [⟨some 19,.mv (.t 3),none⟩,⟨some 20,.bin .lss (.t 19) (.c (.int .i64 0)),none⟩]) (.cond (.t 20) (.reg [⟨some 21,.mi 9 (.c (.str [108,101,110,32,111,117,116,32,111,102,32,114,97,110,103,101])),none⟩,⟨none,.bad,none⟩]) (.skip)))))) (.reg [⟨some 22,.bin .add (.t 11) (.c (.int .i64 1)),none⟩,⟨some 11,.mv (.t 22),none⟩]))))))) (.seq (.reg [⟨some 23,.mv (.t 3),none⟩,⟨some 24,.call 226 [(.c (.sl .ex 1 [])),(.t 23)],none⟩,⟨some 6,.mv (.t 24),none⟩]) (.seq (.seq (.reg [⟨some 25,.mv (.t 0),none⟩,⟨some 26,.len false (.t 25),none⟩,⟨some 27,.mv (.c (.int .i64 0)),none⟩]) (.block 2 (.loop [6,25,26,27] (.seq (.reg [⟨some 28,.bin .lss (.t 27) (.t 26),none⟩]) (.seq (.cond (.t 28) (.skip) (.exit 2)) (.seq (.block 3 (.seq (.reg [⟨some 29,.ia none 1 (.t 25) (.t 27),none⟩,⟨some 30,.ld false 1 (.t 29),none⟩,⟨some 8,.mv (.t 30),none⟩]) (.reg [⟨some 31,.mv (.t 6),none⟩,⟨some 32,.mv (.t 8),none⟩,⟨some 33,.am 1 (.t 31) (.t 32),none⟩,⟨some 6,.mv (.t 33),none⟩]))) (.reg [⟨some 34,.bin .add (.t 27) (.c (.int .i64 1)),none⟩,⟨some 27,.mv (.t 34),none⟩]))))))) (.seq (.reg [⟨some 35,.mv (.t 6),none⟩,⟨some 2,.mv (.t 35),none⟩]) (.ret)))))),res := [(2,none)],keepR := true }
def c185 : VF := { code := .seq (.reg [⟨some 2,.nw 1,none⟩]) (.seq (.reg [⟨some 3,.nw 1,none⟩]) (.seq (.seq (.reg [⟨some 6,.mv (.t 0),none⟩,⟨some 7,.len false (.t 6),none⟩,⟨some 8,.mv (.c (.int .i64 0)),none⟩]) (.block 0 (.loop [3,6,7,8] (.seq (.reg [⟨some 9,.bin .lss (.t 8) (.t 7),none⟩]) (.seq (.cond (.t 9) (.skip) (.exit 0)) (.seq (.block 1 (.seq (.reg [⟨some 10,.ia none 5 (.t 6) (.t 8),none⟩,⟨some 11,.ld true 5 (.t 10),none⟩,⟨some 5,.al [.int .i64 0,.str [],.int .i64 0,.int .i64 0,.str []] [],none⟩,⟨none,.st true 5 (.t 5) (.t 11),none⟩]) (.seq (.reg [⟨some 12,.fa 1 (.t 5),none⟩,⟨some 13,.ld false 1 (.t 12),none⟩,⟨some 14,.bin .neq (.t 13) (.c (.str [])),none⟩,⟨some 15,.mv (.t 14),none⟩,⟨some 16,.mv (.t 3),some (15,true)⟩,⟨some 17,.fa 1 (.t 5),some (15,true)⟩,⟨some 18,.ld false 1 (.t 17),some (15,true)⟩,⟨some 19,.call 169 [(.t 16),(.t 18)],some (15,true)⟩,⟨some 20,.not (.t 19),some (15,true)⟩,⟨some 21,.pick (.t 15) (.t 20) (.c (.bool false)),none⟩]) (.cond (.t 21) (.reg [⟨some 22,.mv (.t 3),none⟩,⟨some 23,.fa 1 (.t 5),none⟩,⟨some 24,.ld false 1 (.t 23),none⟩,⟨some 25,.bl 1 [(.t 24)],none⟩,⟨some 26,.app 1 (.t 22) (.t 25),none⟩,⟨some 3,.mv (.t 26),none⟩]) (.skip))))) (.reg [⟨some 27,.bin .add (.t 8) (.c (.int .i64 1)),none⟩,⟨some 8,.mv (.t 27),none⟩]))))))) (.seq (.reg [⟨some 28,.mv (.t 3),none⟩,⟨some 2,.mv (.t 28),none⟩]) (.ret)))),res := [(2,none)] }
def c186 : VF := { code := .seq (.reg [⟨some 3,.bx (.t 1) [],none⟩,⟨some 4,.mv (.c (.bool false)),none⟩]) (.seq (.reg [⟨some 5,.mv (.t 0),none⟩,⟨some 6,.mf 228 [] [(.t 3)],none⟩,⟨some 7,.call 227 [(.t 5),(.t 6)],none⟩,⟨some 8,.not (.t 7),none⟩,⟨some 4,.mv (.t 8),none⟩]) (.ret)),res := [(4,none)] }
def c187 : VF := { code := .seq (.reg [⟨some 3,.mv (.c (.bool false)),none⟩]) (.seq (.drw [⟨0,[],⟨some 4,.mv (.t 0),none⟩,false,[]⟩,⟨1,[0],⟨some 5,.call 185 [(.t 4)],none⟩,false,[]⟩,⟨2,[],⟨some 6,.ld false 1 (.t 1),none⟩,false,[]⟩,⟨3,[0,1,2],⟨some 7,.call 186 [(.t 5),(.t 6)],none⟩,false,[]⟩,⟨4,[0,1,2,3],⟨some 8,.not (.t 7),none⟩,false,[]⟩,⟨5,[0,1,2,3,4],⟨some 3,.mv (.t 8),none⟩,false,[]⟩]) (.ret)),res := [(3,none)] }
def c188 : VF := { code := .seq (.reg [⟨some 2,.bx (.t 0) [],none⟩,⟨some 4,.mv (.c (.bool false)),none⟩]) (.seq (.reg [⟨some 6,.fa 0 (.t 2),none⟩,⟨some 7,.ld false 1 (.t 6),none⟩,⟨some 8,.mv (.t 1),none⟩,⟨some 9,.ia none 5 (.t 7) (.t 8),none⟩,⟨some 10,.ld true 5 (.t 9),none⟩,⟨some 5,.al [.int .i64 0,.str [],.sl .ex 4 [],.int .i64 0,.int .i64 0] [],none⟩,⟨none,.st true 5 (.t 5) (.t 10),none⟩]) (.seq (.seq (.reg [⟨some 11,.fa 0 (.t 5),none⟩,⟨some 12,.ld false 1 (.t 11),none⟩]) (.block 0 (.seq (.reg [⟨some 14,.bin .eql (.t 12) (.c (.int .i64 2)),none⟩,⟨some 13,.mv (.t 14),none⟩]) (.cond (.t 13) (.seq (.reg [⟨some 15,.ld true 1 (.t 2),none⟩,⟨some 16,.fa 3 (.t 5),none⟩,⟨some 17,.ld false 1 (.t 16),none⟩,⟨some 18,.call 188 [(.t 15),(.t 17)],none⟩,⟨some 4,.mv (.t 18),none⟩]) (.ret)) (.seq (.seq (.reg [⟨some 20,.bin .eql (.t 12) (.c (.int .i64 3)),none⟩,⟨some 19,.mv (.t 20),none⟩]) (.cond (.t 19) (.skip) (.reg [⟨some 21,.bin .eql (.t 12) (.c (.int .i64 4)),none⟩,⟨some 19,.mv (.t 21),none⟩]))) (.cond (.t 19) (.seq (.reg [⟨some 22,.ld true 1 (.t 2),none⟩,⟨some 23,.fa 3 (.t 5),none⟩,⟨some 24,.ld false 1 (.t 23),none⟩,⟨some 25,.call 188 [(.t 22),(.t 24)],none⟩,⟨some 26,.mv (.t 25),none⟩,⟨some 27,.ld true 1 (.t 2),some (26,true)⟩,⟨some 28,.fa 4 (.t 5),some (26,true)⟩,⟨some 29,.ld false 1 (.t 28),some (26,true)⟩,⟨some 30,.call 188 [(.t 27),(.t 29)],some (26,true)⟩,⟨some 31,.pick (.t 26) (.t 30) (.c (.bool false)),none⟩,⟨some 32,.mv (.t 31),none⟩,⟨some 33,.ld true 1 (.t 2),some (32,false)⟩,⟨some 34,.mv (.t 1),some (32,false)⟩,⟨some 35,.call 229 [(.t 33),(.t 34)],some (32,false)⟩,⟨some 36,.pick (.t 32) (.c (.bool true)) (.t 35),none⟩,⟨some 4,.mv (.t 36),none⟩]) (.ret)) (.seq (.reg [⟨some 38,.bin .eql (.t 12) (.c (.int .i64 7)),none⟩,⟨some 37,.mv (.t 38),none⟩]) (.cond (.t 37) (.seq (.reg [⟨some 39,.ld true 1 (.t 2),none⟩,⟨some 40,.fa 3 (.t 5),none⟩,⟨some 41,.ld false 1 (.t 40),none⟩,⟨some 42,.call 230 [(.t 39),(.t 41)],none⟩,⟨some 4,.mv (.t 42),none⟩]) (.ret)) (.skip))))))))) (.seq (.reg [⟨some 43,.ld true 1 (.t 2),none⟩,⟨some 44,.mv (.t 1),none⟩,⟨some 45,.call 229 [(.t 43),(.t 44)],none⟩,⟨some 4,.mv (.t 45),none⟩]) (.ret)))),res := [(4,none)] }
def c189 : VF := { code := .seq (.reg [⟨some 2,.bx (.t 0) [],none⟩,⟨some 4,.nm 1,none⟩]) (.seq (.reg [⟨some 5,.nm 1,none⟩]) (.seq (.seq (.drw [⟨0,[],⟨some 8,.fa 0 (.t 2),none⟩,false,[]⟩,⟨1,[0],⟨some 9,.ld false 1 (.t 8),none⟩,false,[]⟩,⟨2,[],⟨some 10,.fa 0 (.t 2),none⟩,false,[]⟩,⟨3,[2],⟨some 11,.ld false 1 (.t 10),none⟩,false,[]⟩,⟨4,[],⟨some 12,.mv (.t 1),none⟩,false,[]⟩,⟨5,[2,3,4],⟨some 13,.call 231 [(.t 11),(.t 12)],none⟩,false,[]⟩,⟨6,[],⟨some 14,.mv (.t 1),none⟩,false,[]⟩,⟨7,[6],⟨some 15,.bin .add (.t 14) (.c (.int .i64 1)),none⟩,false,[]⟩,⟨8,[0,1,2,3,4,5,6,7],⟨some 16,.cut false 5 (.t 9) (some (.t 13)) (some (.t 15)) none,none⟩,false,[]⟩,⟨9,[0,1,2,3,4,5,6,7,8],⟨some 17,.len false (.t 16),none⟩,false,[]⟩,⟨10,[],⟨some 18,.mv (.c (.int .i64 0)),none⟩,false,[]⟩]) (.block 0 (.loop [5,16,17,18] (.seq (.reg [⟨some 19,.bin .lss (.t 18) (.t 17),none⟩]) (.seq (.cond (.t 19) (.skip) (.exit 0)) (.seq (.block 1 (.seq (.reg [⟨some 20,.ia none 5 (.t 16) (.t 18),none⟩,⟨some 21,.ld true 5 (.t 20),none⟩,⟨some 7,.al [.int .i64 0,.str [],.sl .ex 4 [],.int .i64 0,.int .i64 0] [],none⟩,⟨none,.st true 5 (.t 7) (.t 21),none⟩]) (.reg [⟨some 22,.mv (.t 5),none⟩,⟨some 23,.fa 1 (.t 7),none⟩,⟨some 24,.ld true 2 (.t 23),none⟩,⟨some 25,.call 183 [(.t 24)],none⟩,⟨some 26,.am 1 (.t 22) (.t 25),none⟩,⟨some 5,.mv (.t 26),none⟩]))) (.reg [⟨some 27,.bin .add (.t 18) (.c (.int .i64 1)),none⟩,⟨some 18,.mv (.t 27),none⟩]))))))) (.seq (.reg [⟨some 28,.mv (.t 5),none⟩,⟨some 29,.call 232 [(.t 28)],none⟩]) (.seq (.reg [⟨some 30,.mv (.t 5),none⟩,⟨some 31,.call 233 [(.t 30)],none⟩,⟨some 4,.mv (.t 31),none⟩]) (.ret))))),res := [(4,none)] }
def c190 : VF := { code := .seq (.reg [⟨some 4,.mv (.c (.int .i64 0)),none⟩]) (.seq (.reg [⟨some 5,.mv (.t 0),none⟩,⟨some 6,.mv (.t 1),none⟩,⟨some 7,.call 234 [(.t 5),(.t 6)],none⟩,⟨some 4,.mv (.t 7),none⟩]) (.ret)),res := [(4,none)] }
def c191 : VF := { code := .seq (.reg [⟨some 2,.mv (.c (.bool false)),none⟩]) (.seq (.reg [⟨some 3,.mv (.t 0),none⟩,⟨some 4,.mv (.t 0),none⟩,⟨some 5,.bin .neq (.t 3) (.t 4),none⟩,⟨some 2,.mv (.t 5),none⟩]) (.ret)),res := [(2,none)] }
def c192 : VF := { code := .seq (.reg [⟨some 2,.mv (.c (.bool false)),none⟩]) (.seq (.reg [⟨some 3,.mv (.t 0),none⟩,⟨some 4,.bin .geq (.t 3) (.c (.int .u8 97)),none⟩,⟨some 5,.mv (.t 4),none⟩,⟨some 6,.mv (.t 0),some (5,true)⟩,⟨some 7,.bin .leq (.t 6) (.c (.int .u8 122)),some (5,true)⟩,⟨some 8,.pick (.t 5) (.t 7) (.c (.bool false)),none⟩,⟨some 2,.mv (.t 8),none⟩]) (.ret)),res := [(2,none)] }
def c194 : VF := { code := .reg [⟨some 4,.mv (.t 0),none⟩,⟨some 5,.mv (.t 0),none⟩,⟨some 6,.len false (.t 5),none⟩,⟨some 7,.mv (.t 1),none⟩,⟨some 8,.call 235 [(.t 4),(.t 6),(.t 7)],none⟩],res := [] }
def c195 : VF := { code := .seq (.reg [⟨some 4,.nw 2,none⟩]) (.seq (.seq (.reg [⟨some 8,.mv (.t 0),none⟩,⟨some 9,.len false (.t 8),none⟩,⟨some 10,.bin .lss (.t 9) (.c (.int .i64 2)),none⟩]) (.cond (.t 10) (.seq (.reg [⟨some 11,.mv (.t 0),none⟩,⟨some 4,.mv (.t 11),none⟩]) (.ret)) (.skip))) (.seq (.seq (.reg [⟨some 5,.mv (.c (.int .i64 1)),none⟩]) (.block 0 (.loop [0,1,5] (.seq (.seq (.reg [⟨some 12,.mv (.t 5),none⟩,⟨some 13,.mv (.t 0),none⟩,⟨some 14,.len false (.t 13),none⟩,⟨some 15,.bin .lss (.t 12) (.t 14),none⟩]) (.cond (.t 15) (.skip) (.exit 0))) (.seq (.block 1 (.seq (.drw [⟨0,[],⟨some 18,.mv (.t 1),none⟩,false,[]⟩,⟨1,[],⟨some 19,.mv (.t 0),none⟩,false,[]⟩,⟨2,[],⟨some 20,.mv (.t 5),none⟩,false,[]⟩,⟨3,[1,2],⟨some 21,.ia none 2 (.t 19) (.t 20),none⟩,false,[]⟩,⟨4,[1,2,3],⟨some 22,.ld true 2 (.t 21),none⟩,false,[]⟩,⟨5,[],⟨some 23,.mv (.t 0),none⟩,false,[]⟩,⟨6,[],⟨some 24,.mv (.t 5),none⟩,false,[]⟩,⟨7,[6],⟨some 25,.bin .sub (.t 24) (.c (.int .i64 1)),none⟩,false,[]⟩,⟨8,[5,6,7],⟨some 26,.ia none 2 (.t 23) (.t 25),none⟩,false,[]⟩,⟨9,[5,6,7,8],⟨some 27,.ld true 2 (.t 26),none⟩,false,[]⟩,⟨10,[0,1,2,3,4,5,6,7,8,9],⟨some 28,.cv (.t 18) [(.t 22),(.t 27)],none⟩,true,[]⟩]) (.cond (.t 28) (.seq (.reg [⟨some 29,.mv (.t 0),none⟩,⟨some 30,.mv (.t 5),none⟩,⟨some 31,.cut false 2 (.t 29) (some (.t 30)) none none,none⟩,⟨some 6,.mv (.t 31),none⟩]) (.seq (.seq (.reg [⟨some 7,.mv (.c (.int .i64 1)),none⟩]) (.block 2 (.loop [0,1,5,6,7] (.seq (.seq (.reg [⟨some 32,.mv (.t 7),none⟩,⟨some 33,.mv (.t 6),none⟩,⟨some 34,.len false (.t 33),none⟩,⟨some 35,.bin .lss (.t 32) (.t 34),none⟩]) (.cond (.t 35) (.skip) (.exit 2))) (.seq (.block 3 (.seq (.drw [⟨0,[],⟨some 38,.mv (.t 1),none⟩,false,[]⟩,⟨1,[],⟨some 39,.mv (.t 6),none⟩,false,[]⟩,⟨2,[],⟨some 40,.mv (.t 7),none⟩,false,[]⟩,⟨3,[1,2],⟨some 41,.ia none 2 (.t 39) (.t 40),none⟩,false,[]⟩,⟨4,[1,2,3],⟨some 42,.ld true 2 (.t 41),none⟩,false,[]⟩,⟨5,[],⟨some 43,.mv (.t 6),none⟩,false,[]⟩,⟨6,[],⟨some 44,.mv (.t 7),none⟩,false,[]⟩,⟨7,[6],⟨some 45,.bin .sub (.t 44) (.c (.int .i64 1)),none⟩,false,[]⟩,⟨8,[5,6,7],⟨some 46,.ia none 2 (.t 43) (.t 45),none⟩,false,[]⟩,⟨9,[5,6,7,8],⟨some 47,.ld true 2 (.t 46),none⟩,false,[]⟩,⟨10,[0,1,2,3,4,5,6,7,8,9],⟨some 48,.cv (.t 38) [(.t 42),(.t 47)],none⟩,true,[]⟩,⟨11,[0,1,2,3,4,5,6,7,8,9,10],⟨some 49,.not (.t 48),none⟩,false,[]⟩]) (.cond (.t 49) (.seq (.reg [⟨some 50,.mv (.t 0),none⟩,⟨some 51,.mv (.t 5),none⟩,⟨some 52,.mv (.t 6),none⟩,⟨some 53,.mv (.t 7),none⟩,⟨some 54,.ia none 2 (.t 52) (.t 53),none⟩,⟨some 55,.ld true 2 (.t 54),none⟩,⟨some 56,.ia none 2 (.t 50) (.t 51),none⟩,⟨none,.st true 2 (.t 56) (.t 55),none⟩]) (.reg [⟨some 57,.mv (.t 5),none⟩,⟨some 58,.bin .add (.t 57) (.c (.int .i64 1)),none⟩,⟨some 5,.mv (.t 58),none⟩])) (.skip)))) (.reg [⟨some 36,.mv (.t 7),none⟩,⟨some 37,.bin .add (.t 36) (.c (.int .i64 1)),none⟩,⟨some 7,.mv (.t 37),none⟩])))))) (.seq (.reg [⟨some 59,.mv (.t 0),none⟩,⟨some 60,.mv (.t 5),none⟩,⟨some 61,.cut false 2 (.t 59) (some (.t 60)) none none,none⟩,⟨none,.clr [.str [],.sl .ex 3 []] (.t 61),none⟩]) (.seq (.reg [⟨some 62,.mv (.t 0),none⟩,⟨some 63,.mv (.t 5),none⟩,⟨some 64,.cut false 2 (.t 62) none (some (.t 63)) none,none⟩,⟨some 4,.mv (.t 64),none⟩]) (.ret))))) (.skip)))) (.reg [⟨some 16,.mv (.t 5),none⟩,⟨some 17,.bin .add (.t 16) (.c (.int .i64 1)),none⟩,⟨some 5,.mv (.t 17),none⟩])))))) (.seq (.reg [⟨some 65,.mv (.t 0),none⟩,⟨some 4,.mv (.t 65),none⟩]) (.ret)))),res := [(4,none)],keepR := true }
def c196 : VF := { code := .seq (.reg [⟨some 2,.bx (.t 0) [],none⟩,⟨some 3,.bx (.t 1) [],none⟩,⟨some 4,.mv (.c (.bool false)),none⟩]) (.seq (.reg [⟨some 5,.ld true 2 (.t 2),none⟩,⟨some 6,.ld true 2 (.t 3),none⟩,⟨some 7,.call 99 [(.t 5),(.t 6)],none⟩,⟨some 8,.bin .eql (.t 7) (.c (.int .i64 0)),none⟩,⟨some 4,.mv (.t 8),none⟩]) (.ret)),res := [(4,none)],keepR := true }
def c197 : VF := { code := .seq (.reg [⟨some 4,.mv (.c (.int .i64 0)),none⟩]) (.seq (.seq (.reg [⟨some 6,.mv (.t 0),none⟩,⟨some 7,.len false (.t 6),none⟩,⟨some 8,.mv (.c (.int .i64 0)),none⟩]) (.block 0 (.loop [0,1,7,8] (.seq (.reg [⟨some 9,.bin .lss (.t 8) (.t 7),none⟩]) (.seq (.cond (.t 9) (.skip) (.exit 0)) (.seq (.block 1 (.seq (.reg [⟨some 10,.mv (.t 8),none⟩,⟨some 5,.mv (.t 10),none⟩]) (.seq (.reg [⟨some 11,.mv (.t 1),none⟩,⟨some 12,.mv (.t 0),none⟩,⟨some 13,.mv (.t 5),none⟩,⟨some 14,.ia none 2 (.t 12) (.t 13),none⟩,⟨some 15,.ld true 2 (.t 14),none⟩,⟨some 16,.cv (.t 11) [(.t 15)],none⟩]) (.cond (.t 16) (.seq (.reg [⟨some 17,.mv (.t 5),none⟩,⟨some 4,.mv (.t 17),none⟩]) (.ret)) (.skip))))) (.reg [⟨some 18,.bin .add (.t 8) (.c (.int .i64 1)),none⟩,⟨some 8,.mv (.t 18),none⟩]))))))) (.seq (.reg [⟨some 4,.mv (.c (.int .i64 (-1))),none⟩]) (.ret))),res := [(4,none)] }
def c198 : VF := { code := .seq (.reg [⟨some 4,.mv (.c (.int .i64 0)),none⟩]) (.seq (.reg [⟨some 5,.mv (.t 0),none⟩,⟨some 6,.mv (.t 1),none⟩,⟨some 7,.call 236 [(.t 5),(.t 6),(.c (.fn 99 [] []))],none⟩,⟨some 4,.mv (.t 7),none⟩]) (.ret)),res := [(4,none)] }
def c199 : VF := { code := .seq (.reg [⟨some 2,.bx (.t 0) [],none⟩,⟨some 4,.nw 4,none⟩,⟨some 5,.mv (.c (.int .i64 0)),none⟩]) (.seq (.reg [⟨some 7,.ld true 4 (.t 2),none⟩,⟨some 8,.call 140 [(.t 7)],none⟩,⟨some 5,.mv (.t 8),none⟩]) (.seq (.seq (.reg [⟨some 9,.mv (.t 5),none⟩,⟨some 10,.bin .neq (.t 9) (.c (.int .i64 0)),none⟩]) (.cond (.t 10) (.seq (.reg [⟨some 11,.mv (.t 5),none⟩,⟨some 4,.nw 4,none⟩,⟨some 5,.mv (.t 11),none⟩]) (.ret)) (.skip))) (.seq (.reg [⟨some 13,.ld true 4 (.t 2),none⟩,⟨some 14,.call 238 [(.t 13)],none⟩,⟨some 15,.mv (.t 1),none⟩,⟨some 16,.call 237 [(.t 14),(.t 15)],none⟩,⟨some 12,.mv (.t 16),none⟩,⟨some 17,.ex (.t 12) 0,none⟩,⟨some 18,.ex (.t 12) 1,none⟩,⟨some 4,.mv (.t 17),none⟩,⟨some 6,.mv (.t 18),none⟩]) (.seq (.seq (.reg [⟨some 19,.mv (.t 6),none⟩,⟨some 20,.not (.t 19),none⟩]) (.cond (.t 20) (.seq (.reg [⟨some 4,.nw 4,none⟩,⟨some 5,.mv (.c (.int .i64 1)),none⟩]) (.ret)) (.skip))) (.seq (.reg [⟨some 21,.mv (.t 4),none⟩,⟨some 4,.mv (.t 21),none⟩,⟨some 5,.mv (.c (.int .i64 0)),none⟩]) (.ret)))))),res := [(4,none),(5,none)] }
def c200 : VF := { code := .seq (.reg [⟨some 2,.bx (.t 0) [],none⟩,⟨some 4,.al [.str [],.sl .ex 3 []] [],none⟩,⟨some 5,.mv (.c (.int .i64 0)),none⟩]) (.seq (.reg [⟨some 11,.fa 1 (.t 2),none⟩,⟨some 12,.ld false 1 (.t 11),none⟩,⟨some 13,.bd [.str [],.sl .ex 3 []] [(0,1,(.t 12))],none⟩,⟨some 6,.al [.str [],.sl .ex 3 []] [],none⟩,⟨none,.st true 2 (.t 6) (.t 13),none⟩]) (.seq (.seq (.reg [⟨some 14,.fa 2 (.t 2),none⟩,⟨some 15,.ld false 1 (.t 14),none⟩,⟨some 16,.len false (.t 15),none⟩,⟨some 17,.mv (.c (.int .i64 0)),none⟩]) (.block 0 (.loop [1,4,6,15,16,17] (.seq (.reg [⟨some 18,.bin .lss (.t 17) (.t 16),none⟩]) (.seq (.cond (.t 18) (.skip) (.exit 0)) (.seq (.block 1 (.seq (.reg [⟨some 19,.ia none 1 (.t 15) (.t 17),none⟩,⟨some 20,.ld false 1 (.t 19),none⟩,⟨some 8,.mv (.t 20),none⟩]) (.seq (.reg [⟨some 22,.mv (.t 8),none⟩,⟨some 23,.mv (.t 1),none⟩,⟨some 24,.call 239 [(.t 22),(.t 23)],none⟩,⟨some 21,.mv (.t 24),none⟩,⟨some 25,.ex (.t 21) 0,none⟩,⟨some 26,.ex (.t 21) 1,none⟩,⟨some 9,.al [.int .i64 0,.int .i64 0,.str []] [],none⟩,⟨none,.st true 3 (.t 9) (.t 25),none⟩,⟨some 10,.mv (.t 26),none⟩]) (.seq (.seq (.reg [⟨some 27,.mv (.t 10),none⟩,⟨some 28,.bin .neq (.t 27) (.c (.int .i64 0)),none⟩]) (.cond (.t 28) (.seq (.reg [⟨some 29,.bd [.str [],.sl .ex 3 []] [],none⟩,⟨some 30,.mv (.t 10),none⟩,⟨none,.st true 2 (.t 4) (.t 29),none⟩,⟨some 5,.mv (.t 30),none⟩]) (.ret)) (.skip))) (.reg [⟨some 31,.fa 1 (.t 6),none⟩,⟨some 32,.ld false 1 (.t 31),none⟩,⟨some 33,.ld true 3 (.t 9),none⟩,⟨some 34,.bl 3 [(.t 33)],none⟩,⟨some 35,.app 3 (.t 32) (.t 34),none⟩,⟨some 36,.fa 1 (.t 6),none⟩,⟨none,.st false 1 (.t 36) (.t 35),none⟩]))))) (.reg [⟨some 37,.bin .add (.t 17) (.c (.int .i64 1)),none⟩,⟨some 17,.mv (.t 37),none⟩]))))))) (.seq (.reg [⟨some 38,.ld true 2 (.t 6),none⟩,⟨none,.st true 2 (.t 4) (.t 38),none⟩,⟨some 5,.mv (.c (.int .i64 0)),none⟩]) (.ret)))),res := [(4,some (true,2)),(5,none)] }
def c201 : VF := { code := .seq (.reg [⟨some 3,.bx (.t 1) [],none⟩,⟨some 4,.nw 2,none⟩,⟨some 5,.mv (.c (.int .i64 0)),none⟩]) (.seq (.reg [⟨some 7,.mv (.t 0),none⟩,⟨some 8,.ld true 2 (.t 3),none⟩,⟨some 9,.bl 2 [(.t 8)],none⟩,⟨some 10,.bl 1 [(.t 7),(.t 9)],none⟩,⟨some 11,.call 240 [(.t 10)],none⟩,⟨some 6,.mv (.t 11),none⟩]) (.seq (.seq (.reg [⟨some 12,.mv (.t 6),none⟩,⟨some 13,.bin .neq (.t 12) (.c (.int .i64 0)),none⟩]) (.cond (.t 13) (.seq (.reg [⟨some 14,.mv (.t 6),none⟩,⟨some 4,.nw 2,none⟩,⟨some 5,.mv (.t 14),none⟩]) (.ret)) (.skip))) (.seq (.reg [⟨some 15,.mv (.t 0),none⟩,⟨some 16,.ld true 2 (.t 3),none⟩,⟨some 17,.bl 2 [(.t 16)],none⟩,⟨some 18,.bl 1 [(.t 15),(.t 17)],none⟩,⟨some 19,.call 150 [(.t 18)],none⟩,⟨some 4,.mv (.t 19),none⟩,⟨some 5,.mv (.c (.int .i64 0)),none⟩]) (.ret)))),res := [(4,none),(5,none)] }
def c204 : VF := { code := .seq (.reg [⟨some 6,.mv (.c (.int .u64 0)),none⟩,⟨some 7,.mv (.c (.nili)),none⟩]) (.seq (.seq (.reg [⟨some 18,.mv (.t 0),none⟩,⟨some 19,.bin .eql (.t 18) (.c (.str [])),none⟩]) (.cond (.t 19) (.seq (.reg [⟨some 20,.mi 261 (.c (.int .i64 2)),none⟩,⟨some 6,.mv (.c (.int .u64 0)),none⟩,⟨some 7,.mv (.t 20),none⟩]) (.ret)) (.skip))) (.seq (.reg [⟨some 21,.mv (.t 1),none⟩,⟨some 22,.bin .eql (.t 21) (.c (.int .i64 0)),none⟩,⟨some 8,.mv (.t 22),none⟩]) (.seq (.reg [⟨some 23,.mv (.t 0),none⟩,⟨some 9,.mv (.t 23),none⟩]) (.seq (.block 0 (.seq (.reg [⟨some 26,.mv (.t 1),none⟩,⟨some 27,.bin .leq (.c (.int .i64 2)) (.t 26),none⟩,⟨some 28,.mv (.t 27),none⟩,⟨some 29,.mv (.t 1),some (28,true)⟩,⟨some 30,.bin .leq (.t 29) (.c (.int .i64 36)),some (28,true)⟩,⟨some 31,.pick (.t 28) (.t 30) (.c (.bool false)),none⟩,⟨some 25,.mv (.t 31),none⟩]) (.cond (.t 25) (.skip) (.seq (.reg [⟨some 33,.mv (.t 1),none⟩,⟨some 34,.bin .eql (.t 33) (.c (.int .i64 0)),none⟩,⟨some 32,.mv (.t 34),none⟩]) (.cond (.t 32) (.seq (.reg [⟨some 1,.mv (.c (.int .i64 10)),none⟩]) (.seq (.reg [⟨some 35,.mv (.t 0),none⟩,⟨some 36,.ix (.t 35) (.c (.int .i64 0)),none⟩,⟨some 37,.bin .eql (.t 36) (.c (.int .u8 48)),none⟩]) (.cond (.t 37) (.block 1 (.seq (.reg [⟨some 41,.mv (.t 0),none⟩,⟨some 42,.len true (.t 41),none⟩,⟨some 43,.bin .geq (.t 42) (.c (.int .i64 3)),none⟩,⟨some 44,.mv (.t 43),none⟩,⟨some 45,.mv (.t 0),some (44,true)⟩,⟨some 46,.ix (.t 45) (.c (.int .i64 1)),some (44,true)⟩,⟨some 47,.call 244 [(.t 46)],some (44,true)⟩,⟨some 48,.bin .eql (.t 47) (.c (.int .u8 98)),some (44,true)⟩,⟨some 49,.pick (.t 44) (.t 48) (.c (.bool false)),none⟩,⟨some 40,.mv (.t 49),none⟩]) (.cond (.t 40) (.seq (.reg [⟨some 1,.mv (.c (.int .i64 2)),none⟩]) (.reg [⟨some 50,.mv (.t 0),none⟩,⟨some 51,.cut true 1 (.t 50) (some (.c (.int .i64 2))) none none,none⟩,⟨some 0,.mv (.t 51),none⟩])) (.seq (.reg [⟨some 53,.mv (.t 0),none⟩,⟨some 54,.len true (.t 53),none⟩,⟨some 55,.bin .geq (.t 54) (.c (.int .i64 3)),none⟩,⟨some 56,.mv (.t 55),none⟩,⟨some 57,.mv (.t 0),some (56,true)⟩,⟨some 58,.ix (.t 57) (.c (.int .i64 1)),some (56,true)⟩,⟨some 59,.call 244 [(.t 58)],some (56,true)⟩,⟨some 60,.bin .eql (.t 59) (.c (.int .u8 111)),some (56,true)⟩,⟨some 61,.pick (.t 56) (.t 60) (.c (.bool false)),none⟩,⟨some 52,.mv (.t 61),none⟩]) (.cond (.t 52) (.seq (.reg [⟨some 1,.mv (.c (.int .i64 8)),none⟩]) (.reg [⟨some 62,.mv (.t 0),none⟩,⟨some 63,.cut true 1 (.t 62) (some (.c (.int .i64 2))) none none,none⟩,⟨some 0,.mv (.t 63),none⟩])) (.seq (.reg [⟨some 65,.mv (.t 0),none⟩,⟨some 66,.len true (.t 65),none⟩,⟨some 67,.bin .geq (.t 66) (.c (.int .i64 3)),none⟩,⟨some 68,.mv (.t 67),none⟩,⟨some 69,.mv (.t 0),some (68,true)⟩,⟨some 70,.ix (.t 69) (.c (.int .i64 1)),some (68,true)⟩,⟨some 71,.call 244 [(.t 70)],some (68,true)⟩,⟨some 72,.bin .eql (.t 71) (.c (.int .u8 120)),some (68,true)⟩,⟨some 73,.pick (.t 68) (.t 72) (.c (.bool false)),none⟩,⟨some 64,.mv (.t 73),none⟩]) (.cond (.t 64) (.seq (.reg [⟨some 1,.mv (.c (.int .i64 16)),none⟩]) (.reg [⟨some 74,.mv (.t 0),none⟩,⟨some 75,.cut true 1 (.t 74) (some (.c (.int .i64 2))) none none,none⟩,⟨some 0,.mv (.t 75),none⟩])) (.seq (.reg [⟨some 1,.mv (.c (.int .i64 8)),none⟩]) (.reg [⟨some 38,.mv (.t 0),none⟩,⟨some 39,.cut true 1 (.t 38) (some (.c (.int .i64 1))) none none,none⟩,⟨some 0,.mv (.t 39),none⟩]))))))))) (.skip)))) (.seq (.reg [⟨some 24,.mi 261 (.c (.int .i64 3)),none⟩,⟨some 6,.mv (.c (.int .u64 0)),none⟩,⟨some 7,.mv (.t 24),none⟩]) (.ret))))))) (.seq (.seq (.reg [⟨some 76,.mv (.t 2),none⟩,⟨some 77,.bin .eql (.t 76) (.c (.int .i64 0)),none⟩]) (.cond (.t 77) (.reg [⟨some 2,.mv (.c (.int .i64 64)),none⟩]) (.seq (.reg [⟨some 78,.mv (.t 2),none⟩,⟨some 79,.bin .lss (.t 78) (.c (.int .i64 0)),none⟩,⟨some 80,.mv (.t 79),none⟩,⟨some 81,.mv (.t 2),some (80,false)⟩,⟨some 82,.bin .gtr (.t 81) (.c (.int .i64 64)),some (80,false)⟩,⟨some 83,.pick (.t 80) (.c (.bool true)) (.t 82),none⟩]) (.cond (.t 83) (.seq (.reg [⟨some 84,.mi 261 (.c (.int .i64 4)),none⟩,⟨some 6,.mv (.c (.int .u64 0)),none⟩,⟨some 7,.mv (.t 84),none⟩]) (.ret)) (.skip))))) (.seq (.reg [⟨some 10,.mv (.c (.int .u64 0)),none⟩]) (.seq (.seq (.reg [⟨some 85,.mv (.t 1),none⟩]) (.block 2 (.seq (.reg [⟨some 91,.bin .eql (.t 85) (.c (.int .i64 10)),none⟩,⟨some 90,.mv (.t 91),none⟩]) (.cond (.t 90) (.reg [⟨some 10,.mv (.c (.int .u64 1844674407370955162)),none⟩]) (.seq (.reg [⟨some 93,.bin .eql (.t 85) (.c (.int .i64 16)),none⟩,⟨some 92,.mv (.t 93),none⟩]) (.cond (.t 92) (.reg [⟨some 10,.mv (.c (.int .u64 1152921504606846976)),none⟩]) (.reg [⟨some 86,.mv (.t 1),none⟩,⟨some 87,.wrp .u64 (.t 86),none⟩,⟨some 88,.bin .quo (.c (.int .u64 18446744073709551615)) (.t 87),none⟩,⟨some 89,.bin .add (.t 88) (.c (.int .u64 1)),none⟩,⟨some 10,.mv (.t 89),none⟩]))))))) (.seq (.reg [⟨some 94,.mv (.t 2),none⟩,⟨some 95,.wrp .u64 (.t 94),none⟩,⟨some 96,.bin .shl (.c (.int .u64 1)) (.t 95),none⟩,⟨some 97,.bin .sub (.t 96) (.c (.int .u64 1)),none⟩,⟨some 11,.mv (.t 97),none⟩]) (.seq (.reg [⟨some 12,.mv (.c (.bool false)),none⟩]) (.seq (.reg [⟨some 13,.mv (.c (.int .u64 0)),none⟩]) (.seq (.seq (.reg [⟨some 98,.mv (.t 0),none⟩,⟨some 99,.s2b (.t 98),none⟩,⟨some 100,.len false (.t 99),none⟩,⟨some 101,.mv (.c (.int .i64 0)),none⟩]) (.block 3 (.loop [1,8,9,10,11,12,13,99,100,101] (.seq (.reg [⟨some 102,.bin .lss (.t 101) (.t 100),none⟩]) (.seq (.cond (.t 102) (.skip) (.exit 3)) (.seq (.block 4 (.seq (.reg [⟨some 103,.ia none 1 (.t 99) (.t 101),none⟩,⟨some 104,.ld false 1 (.t 103),none⟩,⟨some 15,.mv (.t 104),none⟩]) (.seq (.reg [⟨some 16,.mv (.c (.int .u8 0)),none⟩]) (.seq (.block 5 (.seq (.reg [⟨some 107,.mv (.t 15),none⟩,⟨some 108,.bin .eql (.t 107) (.c (.int .u8 95)),none⟩,⟨some 109,.mv (.t 108),none⟩,⟨some 110,.mv (.t 8),some (109,true)⟩,⟨some 111,.pick (.t 109) (.t 110) (.c (.bool false)),none⟩,⟨some 106,.mv (.t 111),none⟩]) (.cond (.t 106) (.seq (.reg [⟨some 12,.mv (.c (.bool true)),none⟩]) (.exit 4)) (.seq (.reg [⟨some 113,.mv (.t 15),none⟩,⟨some 114,.bin .leq (.c (.int .u8 48)) (.t 113),none⟩,⟨some 115,.mv (.t 114),none⟩,⟨some 116,.mv (.t 15),some (115,true)⟩,⟨some 117,.bin .leq (.t 116) (.c (.int .u8 57)),some (115,true)⟩,⟨some 118,.pick (.t 115) (.t 117) (.c (.bool false)),none⟩,⟨some 112,.mv (.t 118),none⟩]) (.cond (.t 112) (.reg [⟨some 119,.mv (.t 15),none⟩,⟨some 120,.bin .sub (.t 119) (.c (.int .u8 48)),none⟩,⟨some 16,.mv (.t 120),none⟩]) (.seq (.reg [⟨some 122,.mv (.t 15),none⟩,⟨some 123,.call 244 [(.t 122)],none⟩,⟨some 124,.bin .leq (.c (.int .u8 97)) (.t 123),none⟩,⟨some 125,.mv (.t 124),none⟩,⟨some 126,.mv (.t 15),some (125,true)⟩,⟨some 127,.call 244 [(.t 126)],some (125,true)⟩,⟨some 128,.bin .leq (.t 127) (.c (.int .u8 122)),some (125,true)⟩,⟨some 129,.pick (.t 125) (.t 128) (.c (.bool false)),none⟩,⟨some 121,.mv (.t 129),none⟩]) (.cond (.t 121) (.reg [⟨some 130,.mv (.t 15),none⟩,⟨some 131,.call 244 [(.t 130)],none⟩,⟨some 132,.bin .sub (.t 131) (.c (.int .u8 97)),none⟩,⟨some 133,.bin .add (.t 132) (.c (.int .u8 10)),none⟩,⟨some 16,.mv (.t 133),none⟩]) (.seq (.reg [⟨some 105,.mi 261 (.c (.int .i64 2)),none⟩,⟨some 6,.mv (.c (.int .u64 0)),none⟩,⟨some 7,.mv (.t 105),none⟩]) (.ret))))))))) (.seq (.seq (.reg [⟨some 134,.mv (.t 16),none⟩,⟨some 135,.mv (.t 1),none⟩,⟨some 136,.wrp .u8 (.t 135),none⟩,⟨some 137,.bin .geq (.t 134) (.t 136),none⟩]) (.cond (.t 137) (.seq (.reg [⟨some 138,.mi 261 (.c (.int .i64 2)),none⟩,⟨some 6,.mv (.c (.int .u64 0)),none⟩,⟨some 7,.mv (.t 138),none⟩]) (.ret)) (.skip))) (.seq (.seq (.reg [⟨some 139,.mv (.t 13),none⟩,⟨some 140,.mv (.t 10),none⟩,⟨some 141,.bin .geq (.t 139) (.t 140),none⟩]) (.cond (.t 141) (.seq (.reg [⟨some 142,.mv (.t 11),none⟩,⟨some 143,.mi 261 (.c (.int .i64 1)),none⟩,⟨some 6,.mv (.t 142),none⟩,⟨some 7,.mv (.t 143),none⟩]) (.ret)) (.skip))) (.seq (.reg [⟨some 144,.mv (.t 13),none⟩,⟨some 145,.mv (.t 1),none⟩,⟨some 146,.wrp .u64 (.t 145),none⟩,⟨some 147,.bin .mul (.t 144) (.t 146),none⟩,⟨some 13,.mv (.t 147),none⟩]) (.seq (.reg [⟨some 148,.mv (.t 13),none⟩,⟨some 149,.mv (.t 16),none⟩,⟨some 150,.wrp .u64 (.t 149),none⟩,⟨some 151,.bin .add (.t 148) (.t 150),none⟩,⟨some 17,.mv (.t 151),none⟩]) (.seq (.seq (.reg [⟨some 152,.mv (.t 17),none⟩,⟨some 153,.mv (.t 13),none⟩,⟨some 154,.bin .lss (.t 152) (.t 153),none⟩,⟨some 155,.mv (.t 154),none⟩,⟨some 156,.mv (.t 17),some (155,false)⟩,⟨some 157,.mv (.t 11),some (155,false)⟩,⟨some 158,.bin .gtr (.t 156) (.t 157),some (155,false)⟩,⟨some 159,.pick (.t 155) (.c (.bool true)) (.t 158),none⟩]) (.cond (.t 159) (.seq (.reg [⟨some 160,.mv (.t 11),none⟩,⟨some 161,.mi 261 (.c (.int .i64 1)),none⟩,⟨some 6,.mv (.t 160),none⟩,⟨some 7,.mv (.t 161),none⟩]) (.ret)) (.skip))) (.reg [⟨some 162,.mv (.t 17),none⟩,⟨some 13,.mv (.t 162),none⟩])))))))))) (.reg [⟨some 163,.bin .add (.t 101) (.c (.int .i64 1)),none⟩,⟨some 101,.mv (.t 163),none⟩]))))))) (.seq (.seq (.reg [⟨some 164,.mv (.t 12),none⟩,⟨some 165,.mv (.t 164),none⟩,⟨some 166,.mv (.t 9),some (165,true)⟩,⟨some 167,.call 245 [(.t 166)],some (165,true)⟩,⟨some 168,.not (.t 167),some (165,true)⟩,⟨some 169,.pick (.t 165) (.t 168) (.c (.bool false)),none⟩]) (.cond (.t 169) (.seq (.reg [⟨some 170,.mi 261 (.c (.int .i64 2)),none⟩,⟨some 6,.mv (.c (.int .u64 0)),none⟩,⟨some 7,.mv (.t 170),none⟩]) (.ret)) (.skip))) (.seq (.reg [⟨some 171,.mv (.t 13),none⟩,⟨some 6,.mv (.t 171),none⟩,⟨some 7,.mv (.c (.nili)),none⟩]) (.ret)))))))))))))),res := [(6,none),(7,none)] }
def c208 : VF := { code := .seq (.reg [⟨some 4,.mv (.c (.int .i64 0)),none⟩]) (.seq (.seq (.reg [⟨some 6,.mv (.t 0),none⟩,⟨some 7,.len false (.t 6),none⟩,⟨some 8,.mv (.c (.int .i64 0)),none⟩]) (.block 0 (.loop [0,1,7,8] (.seq (.reg [⟨some 9,.bin .lss (.t 8) (.t 7),none⟩]) (.seq (.cond (.t 9) (.skip) (.exit 0)) (.seq (.block 1 (.seq (.reg [⟨some 10,.mv (.t 8),none⟩,⟨some 5,.mv (.t 10),none⟩]) (.seq (.reg [⟨some 11,.mv (.t 1),none⟩,⟨some 12,.mv (.t 0),none⟩,⟨some 13,.mv (.t 5),none⟩,⟨some 14,.ia none 1 (.t 12) (.t 13),none⟩,⟨some 15,.ld false 1 (.t 14),none⟩,⟨some 16,.bin .eql (.t 11) (.t 15),none⟩]) (.cond (.t 16) (.seq (.reg [⟨some 17,.mv (.t 5),none⟩,⟨some 4,.mv (.t 17),none⟩]) (.ret)) (.skip))))) (.reg [⟨some 18,.bin .add (.t 8) (.c (.int .i64 1)),none⟩,⟨some 8,.mv (.t 18),none⟩]))))))) (.seq (.reg [⟨some 4,.mv (.c (.int .i64 (-1))),none⟩]) (.ret))),res := [(4,none)] }
def c209 : VF := { code := .seq (.reg [⟨some 2,.mv (.c (.int .i64 0)),none⟩]) (.seq (.seq (.reg [⟨some 5,.bl 1 [(.c (.str [43])),(.c (.str [45])),(.c (.str [42]))],none⟩,⟨some 6,.len false (.t 5),none⟩,⟨some 7,.mv (.c (.int .i64 0)),none⟩]) (.block 0 (.loop [0,5,6,7] (.seq (.reg [⟨some 8,.bin .lss (.t 7) (.t 6),none⟩]) (.seq (.cond (.t 8) (.skip) (.exit 0)) (.seq (.block 1 (.seq (.reg [⟨some 9,.mv (.t 7),none⟩,⟨some 10,.ia none 1 (.t 5) (.t 7),none⟩,⟨some 11,.ld false 1 (.t 10),none⟩,⟨some 3,.mv (.t 9),none⟩,⟨some 4,.mv (.t 11),none⟩]) (.seq (.reg [⟨some 12,.mv (.t 0),none⟩,⟨some 13,.mv (.t 4),none⟩,⟨some 14,.call 81 [(.t 12),(.t 13)],none⟩]) (.cond (.t 14) (.seq (.reg [⟨some 15,.mv (.t 3),none⟩,⟨some 16,.bin .add (.c (.int .i64 3)) (.t 15),none⟩,⟨some 2,.mv (.t 16),none⟩]) (.ret)) (.skip))))) (.reg [⟨some 17,.bin .add (.t 7) (.c (.int .i64 1)),none⟩,⟨some 7,.mv (.t 17),none⟩]))))))) (.seq (.seq (.reg [⟨some 18,.mv (.t 0),none⟩,⟨some 19,.call 52 [(.t 18)],none⟩]) (.cond (.t 19) (.reg [⟨some 20,.mv (.t 0),none⟩,⟨some 21,.nc (.t 20),none⟩,⟨some 22,.fa 2 (.t 21),none⟩,⟨none,.st false 1 (.t 22) (.c (.bool true)),none⟩]) (.skip))) (.seq (.reg [⟨some 2,.mv (.c (.int .i64 0)),none⟩]) (.ret)))),res := [(2,none)] }
def c210 : VF := { code := .seq (.reg [⟨some 2,.mv (.c (.bool false)),none⟩]) (.seq (.reg [⟨some 3,.mv (.t 0),none⟩,⟨some 4,.bin .geq (.t 3) (.c (.int .u8 97)),none⟩,⟨some 5,.mv (.t 4),none⟩,⟨some 6,.mv (.t 0),some (5,true)⟩,⟨some 7,.bin .leq (.t 6) (.c (.int .u8 122)),some (5,true)⟩,⟨some 8,.pick (.t 5) (.t 7) (.c (.bool false)),none⟩,⟨some 9,.mv (.t 8),none⟩,⟨some 10,.mv (.t 0),some (9,false)⟩,⟨some 11,.bin .geq (.t 10) (.c (.int .u8 65)),some (9,false)⟩,⟨some 12,.mv (.t 11),some (9,false)⟩,⟨some 13,.mv (.t 0),some (12,true)⟩,⟨some 14,.bin .leq (.t 13) (.c (.int .u8 90)),some (12,true)⟩,⟨some 15,.pick (.t 12) (.t 14) (.c (.bool false)),some (9,false)⟩,⟨some 16,.pick (.t 9) (.c (.bool true)) (.t 15),none⟩,⟨some 17,.mv (.t 16),none⟩,⟨some 18,.mv (.t 0),some (17,false)⟩,⟨some 19,.bin .geq (.t 18) (.c (.int .u8 48)),some (17,false)⟩,⟨some 20,.mv (.t 19),some (17,false)⟩,⟨some 21,.mv (.t 0),some (20,true)⟩,⟨some 22,.bin .leq (.t 21) (.c (.int .u8 57)),some (20,true)⟩,⟨some 23,.pick (.t 20) (.t 22) (.c (.bool false)),some (17,false)⟩,⟨some 24,.pick (.t 17) (.c (.bool true)) (.t 23),none⟩,⟨some 25,.mv (.t 24),none⟩,⟨some 26,.mv (.t 0),some (25,false)⟩,⟨some 27,.bin .eql (.t 26) (.c (.int .u8 95)),some (25,false)⟩,⟨some 28,.pick (.t 25) (.c (.bool true)) (.t 27),none⟩,⟨some 2,.mv (.t 28),none⟩]) (.ret)),res := [(2,none)] }
def c211 : VF := { code := .seq (.reg [⟨some 4,.mv (.c (.bool false)),none⟩]) (.seq (.reg [⟨some 5,.mv (.t 0),none⟩,⟨some 6,.mv (.t 1),none⟩,⟨some 7,.call 109 [(.t 5),(.t 6)],none⟩,⟨some 8,.bin .geq (.t 7) (.c (.int .i64 0)),none⟩,⟨some 4,.mv (.t 8),none⟩]) (.ret)),res := [(4,none)] }
def c212 : VF := { code := .seq (.reg [⟨some 1,.bx (.t 0) [],none⟩,⟨some 2,.mv (.c (.bool false)),none⟩]) (.seq (.reg [⟨some 3,.ld true 3 (.t 1),none⟩,⟨some 4,.call 213 [(.t 3)],none⟩,⟨some 5,.not (.t 4),none⟩,⟨some 2,.mv (.t 5),none⟩]) (.ret)),res := [(2,none)] }
def c213 : VF := { code := .seq (.reg [⟨some 1,.bx (.t 0) [],none⟩,⟨some 2,.mv (.c (.bool false)),none⟩]) (.seq (.reg [⟨some 3,.fa 0 (.t 1),none⟩,⟨some 4,.ld false 1 (.t 3),none⟩,⟨some 5,.call 80 [(.t 4)],none⟩,⟨some 6,.mv (.t 5),none⟩,⟨some 7,.fa 1 (.t 1),some (6,true)⟩,⟨some 8,.ld false 1 (.t 7),some (6,true)⟩,⟨some 9,.bin .geq (.t 8) (.c (.int .i64 0)),some (6,true)⟩,⟨some 10,.pick (.t 6) (.t 9) (.c (.bool false)),none⟩,⟨some 11,.mv (.t 10),none⟩,⟨some 12,.fa 1 (.t 1),some (11,true)⟩,⟨some 13,.ld false 1 (.t 12),some (11,true)⟩,⟨some 14,.bin .leq (.t 13) (.c (.int .i64 5)),some (11,true)⟩,⟨some 15,.pick (.t 11) (.t 14) (.c (.bool false)),none⟩,⟨some 16,.mv (.t 15),none⟩,⟨some 17,.fa 2 (.t 1),some (16,true)⟩,⟨some 18,.ld false 1 (.t 17),some (16,true)⟩,⟨some 19,.bin .geq (.t 18) (.c (.int .i64 1)),some (16,true)⟩,⟨some 20,.pick (.t 16) (.t 19) (.c (.bool false)),none⟩,⟨some 21,.mv (.t 20),none⟩,⟨some 22,.fa 2 (.t 1),some (21,true)⟩,⟨some 23,.ld false 1 (.t 22),some (21,true)⟩,⟨some 24,.bin .leq (.t 23) (.c (.int .i64 5)),some (21,true)⟩,⟨some 25,.pick (.t 21) (.t 24) (.c (.bool false)),none⟩,⟨some 2,.mv (.t 25),none⟩]) (.ret)),res := [(2,none)] }
def c214 : VF := { code := .seq (.reg [⟨some 4,.mv (.c (.bool false)),none⟩]) (.seq (.reg [⟨some 5,.mv (.t 0),none⟩,⟨some 6,.mv (.t 1),none⟩,⟨some 7,.call 250 [(.t 5),(.t 6)],none⟩,⟨some 8,.bin .geq (.t 7) (.c (.int .i64 0)),none⟩,⟨some 4,.mv (.t 8),none⟩]) (.ret)),res := [(4,none)] }
def c215 : VF := { code := .seq (.reg [⟨some 1,.bx (.t 0) [],none⟩,⟨some 2,.mv (.c (.bool false)),none⟩]) (.seq (.reg [⟨some 3,.ld true 4 (.t 1),none⟩,⟨some 4,.call 57 [(.t 3)],none⟩,⟨some 5,.bin .neq (.t 4) (.c (.int .i64 0)),none⟩,⟨some 2,.mv (.t 5),none⟩]) (.ret)),res := [(2,none)] }
def c216 : VF := { code := .seq (.reg [⟨some 4,.mv (.c (.bool false)),none⟩]) (.seq (.reg [⟨some 5,.mv (.t 0),none⟩,⟨some 6,.mv (.t 1),none⟩,⟨some 7,.call 251 [(.t 5),(.t 6)],none⟩,⟨some 8,.bin .geq (.t 7) (.c (.int .i64 0)),none⟩,⟨some 4,.mv (.t 8),none⟩]) (.ret)),res := [(4,none)] }
def c217 : VF := { code := .seq (.reg [⟨some 1,.bx (.t 0) [],none⟩,⟨some 2,.mv (.c (.bool false)),none⟩]) (.seq (.reg [⟨some 3,.ld true 4 (.t 1),none⟩,⟨some 4,.call 60 [(.t 3)],none⟩,⟨some 5,.not (.t 4),none⟩,⟨some 2,.mv (.t 5),none⟩]) (.ret)),res := [(2,none)] }
def c218 : VF := { code := .seq (.reg [⟨some 4,.mv (.c (.bool false)),none⟩]) (.seq (.reg [⟨some 9,.mm,none⟩,⟨some 5,.mv (.t 9),none⟩]) (.seq (.seq (.reg [⟨some 10,.mv (.t 0),none⟩,⟨some 11,.len false (.t 10),none⟩,⟨some 12,.mv (.c (.int .i64 0)),none⟩]) (.block 0 (.loop [1,5,10,11,12] (.seq (.reg [⟨some 13,.bin .lss (.t 12) (.t 11),none⟩]) (.seq (.cond (.t 13) (.skip) (.exit 0)) (.seq (.block 1 (.seq (.reg [⟨some 14,.ia none 3 (.t 10) (.t 12),none⟩,⟨some 15,.ld true 3 (.t 14),none⟩,⟨some 7,.al [.str [],.int .i64 0,.int .i64 0] [],none⟩,⟨none,.st true 3 (.t 7) (.t 15),none⟩]) (.seq (.reg [⟨some 16,.mv (.t 1),none⟩,⟨some 17,.ld true 3 (.t 7),none⟩,⟨some 18,.cv (.t 16) [(.t 17)],none⟩,⟨some 8,.mv (.t 18),none⟩]) (.seq (.seq (.reg [⟨some 19,.mv (.t 5),none⟩,⟨some 20,.mv (.t 8),none⟩,⟨some 21,.mg false none (.bool false) (.t 19) (.t 20),none⟩]) (.cond (.t 21) (.seq (.reg [⟨some 4,.mv (.c (.bool true)),none⟩]) (.ret)) (.skip))) (.reg [⟨some 22,.mv (.t 5),none⟩,⟨some 23,.mv (.t 8),none⟩,⟨none,.mu none (.t 22) (.t 23) (.c (.bool true)),none⟩]))))) (.reg [⟨some 24,.bin .add (.t 12) (.c (.int .i64 1)),none⟩,⟨some 12,.mv (.t 24),none⟩]))))))) (.seq (.reg [⟨some 4,.mv (.c (.bool false)),none⟩]) (.ret)))),res := [(4,none)] }
def c219 : VF := { code := .seq (.reg [⟨some 1,.bx (.t 0) [],none⟩,⟨some 2,.mv (.c (.str [])),none⟩]) (.seq (.reg [⟨some 3,.fa 0 (.t 1),none⟩,⟨some 4,.ld false 1 (.t 3),none⟩,⟨some 2,.mv (.t 4),none⟩]) (.ret)),res := [(2,none)] }
def c220 : VF := { code := .seq (.reg [⟨some 4,.mv (.c (.bool false)),none⟩]) (.seq (.reg [⟨some 9,.mm,none⟩,⟨some 5,.mv (.t 9),none⟩]) (.seq (.seq (.reg [⟨some 10,.mv (.t 0),none⟩,⟨some 11,.len false (.t 10),none⟩,⟨some 12,.mv (.c (.int .i64 0)),none⟩]) (.block 0 (.loop [1,5,10,11,12] (.seq (.reg [⟨some 13,.bin .lss (.t 12) (.t 11),none⟩]) (.seq (.cond (.t 13) (.skip) (.exit 0)) (.seq (.block 1 (.seq (.reg [⟨some 14,.ia none 4 (.t 10) (.t 12),none⟩,⟨some 15,.ld true 4 (.t 14),none⟩,⟨some 7,.al [.str [],.int .i64 0,.sl .ex 6 [],.sl .ex 4 []] [],none⟩,⟨none,.st true 4 (.t 7) (.t 15),none⟩]) (.seq (.reg [⟨some 16,.mv (.t 1),none⟩,⟨some 17,.ld true 4 (.t 7),none⟩,⟨some 18,.cv (.t 16) [(.t 17)],none⟩,⟨some 8,.mv (.t 18),none⟩]) (.seq (.seq (.reg [⟨some 19,.mv (.t 5),none⟩,⟨some 20,.mv (.t 8),none⟩,⟨some 21,.mg false none (.bool false) (.t 19) (.t 20),none⟩]) (.cond (.t 21) (.seq (.reg [⟨some 4,.mv (.c (.bool true)),none⟩]) (.ret)) (.skip))) (.reg [⟨some 22,.mv (.t 5),none⟩,⟨some 23,.mv (.t 8),none⟩,⟨none,.mu none (.t 22) (.t 23) (.c (.bool true)),none⟩]))))) (.reg [⟨some 24,.bin .add (.t 12) (.c (.int .i64 1)),none⟩,⟨some 12,.mv (.t 24),none⟩]))))))) (.seq (.reg [⟨some 4,.mv (.c (.bool false)),none⟩]) (.ret)))),res := [(4,none)] }
def c221 : VF := { code := .seq (.reg [⟨some 1,.bx (.t 0) [],none⟩,⟨some 2,.mv (.c (.str [])),none⟩]) (.seq (.reg [⟨some 3,.fa 0 (.t 1),none⟩,⟨some 4,.ld false 1 (.t 3),none⟩,⟨some 2,.mv (.t 4),none⟩]) (.ret)),res := [(2,none)] }
def c222 : VF := { code := .seq (.reg [⟨some 4,.mv (.c (.bool false)),none⟩]) (.seq (.reg [⟨some 9,.mm,none⟩,⟨some 5,.mv (.t 9),none⟩]) (.seq (.seq (.reg [⟨some 10,.mv (.t 0),none⟩,⟨some 11,.len false (.t 10),none⟩,⟨some 12,.mv (.c (.int .i64 0)),none⟩]) (.block 0 (.loop [1,5,10,11,12] (.seq (.reg [⟨some 13,.bin .lss (.t 12) (.t 11),none⟩]) (.seq (.cond (.t 13) (.skip) (.exit 0)) (.seq (.block 1 (.seq (.reg [⟨some 14,.ia none 4 (.t 10) (.t 12),none⟩,⟨some 15,.ld true 4 (.t 14),none⟩,⟨some 7,.al [.str [],.str [],.sl .ex 4 [],.sl .ex 5 []] [],none⟩,⟨none,.st true 4 (.t 7) (.t 15),none⟩]) (.seq (.reg [⟨some 16,.mv (.t 1),none⟩,⟨some 17,.ld true 4 (.t 7),none⟩,⟨some 18,.cv (.t 16) [(.t 17)],none⟩,⟨some 8,.mv (.t 18),none⟩]) (.seq (.seq (.reg [⟨some 19,.mv (.t 5),none⟩,⟨some 20,.mv (.t 8),none⟩,⟨some 21,.mg false none (.bool false) (.t 19) (.t 20),none⟩]) (.cond (.t 21) (.seq (.reg [⟨some 4,.mv (.c (.bool true)),none⟩]) (.ret)) (.skip))) (.reg [⟨some 22,.mv (.t 5),none⟩,⟨some 23,.mv (.t 8),none⟩,⟨none,.mu none (.t 22) (.t 23) (.c (.bool true)),none⟩]))))) (.reg [⟨some 24,.bin .add (.t 12) (.c (.int .i64 1)),none⟩,⟨some 12,.mv (.t 24),none⟩]))))))) (.seq (.reg [⟨some 4,.mv (.c (.bool false)),none⟩]) (.ret)))),res := [(4,none)] }
def c223 : VF := { code := .seq (.reg [⟨some 1,.bx (.t 0) [],none⟩,⟨some 2,.mv (.c (.str [])),none⟩]) (.seq (.reg [⟨some 3,.fa 0 (.t 1),none⟩,⟨some 4,.ld false 1 (.t 3),none⟩,⟨some 2,.mv (.t 4),none⟩]) (.ret)),res := [(2,none)] }
def c224 : VF := { code := .seq (.reg [⟨some 4,.bx (.t 0) [],none⟩,⟨some 8,.mv (.c (.int .i64 0)),none⟩]) (.seq (.reg [⟨some 12,.fa 0 (.t 4),none⟩,⟨some 13,.ld false 1 (.t 12),none⟩,⟨some 14,.mv (.t 1),none⟩,⟨some 15,.call 70 [(.t 13),(.t 14)],none⟩,⟨some 11,.mv (.t 15),none⟩,⟨some 16,.ex (.t 11) 0,none⟩,⟨some 17,.ex (.t 11) 1,none⟩,⟨some 9,.al [.str [],.int .i64 0,.int .i64 0] [],none⟩,⟨none,.st true 3 (.t 9) (.t 16),none⟩,⟨some 10,.mv (.t 17),none⟩]) (.seq (.block 0 (.seq (.reg [⟨some 19,.mv (.t 10),none⟩,⟨some 20,.not (.t 19),none⟩,⟨some 21,.mv (.t 20),none⟩,⟨some 22,.mv (.t 3),some (21,false)⟩,⟨some 23,.fa 2 (.t 9),some (21,false)⟩,⟨some 24,.ld false 1 (.t 23),some (21,false)⟩,⟨some 25,.call 252 [(.t 22),(.t 24)],some (21,false)⟩,⟨some 26,.not (.t 25),some (21,false)⟩,⟨some 27,.pick (.t 21) (.c (.bool true)) (.t 26),none⟩,⟨some 18,.mv (.t 27),none⟩]) (.cond (.t 18) (.seq (.reg [⟨some 8,.mv (.c (.int .i64 8)),none⟩]) (.ret)) (.seq (.reg [⟨some 29,.fa 1 (.t 9),none⟩,⟨some 30,.ld false 1 (.t 29),none⟩,⟨some 31,.mv (.t 2),none⟩,⟨some 32,.bin .neq (.t 30) (.t 31),none⟩,⟨some 28,.mv (.t 32),none⟩]) (.cond (.t 28) (.seq (.reg [⟨some 8,.mv (.c (.int .i64 9)),none⟩]) (.ret)) (.skip)))))) (.seq (.reg [⟨some 8,.mv (.c (.int .i64 0)),none⟩]) (.ret)))),res := [(8,none)] }
def c225 : VF := { code := .seq (.reg [⟨some 3,.bx (.t 0) [],none⟩,⟨some 4,.bx (.t 1) [],none⟩,⟨some 5,.bx (.t 2) [],none⟩,⟨some 6,.mv (.c (.int .i64 0)),none⟩]) (.seq (.seq (.reg [⟨some 9,.fa 0 (.t 5),none⟩,⟨some 10,.ld false 1 (.t 9),none⟩,⟨some 11,.bin .eql (.t 10) (.c (.int .i64 1)),none⟩]) (.cond (.t 11) (.seq (.reg [⟨some 12,.ld true 3 (.t 3),none⟩,⟨some 13,.fa 1 (.t 5),none⟩,⟨some 14,.ld false 1 (.t 13),none⟩,⟨some 15,.fa 2 (.t 5),none⟩,⟨some 16,.ld false 1 (.t 15),none⟩,⟨some 17,.len false (.t 16),none⟩,⟨some 18,.bl 1 [(.c (.int .i64 2)),(.c (.int .i64 3)),(.c (.int .i64 4)),(.c (.int .i64 5))],none⟩,⟨some 19,.call 224 [(.t 12),(.t 14),(.t 17),(.t 18)],none⟩,⟨some 6,.mv (.t 19),none⟩]) (.ret)) (.skip))) (.seq (.reg [⟨some 20,.fa 2 (.t 4),none⟩,⟨some 21,.ld false 1 (.t 20),none⟩,⟨some 22,.call 254 [(.t 21)],none⟩,⟨some 23,.call 253 [(.t 22),(.c (.fn 255 [] []))],none⟩,⟨some 7,.mv (.t 23),none⟩]) (.seq (.reg [⟨some 24,.mv (.t 7),none⟩,⟨some 25,.fa 3 (.t 5),none⟩,⟨some 26,.ld false 1 (.t 25),none⟩,⟨some 27,.ia none 6 (.t 24) (.t 26),none⟩,⟨some 28,.fa 1 (.t 27),none⟩,⟨some 29,.ld true 2 (.t 28),none⟩,⟨some 8,.al [.str [],.sl .ex 4 []] [],none⟩,⟨none,.st true 2 (.t 8) (.t 29),none⟩]) (.seq (.reg [⟨some 30,.ld true 3 (.t 3),none⟩,⟨some 31,.fa 0 (.t 8),none⟩,⟨some 32,.ld false 1 (.t 31),none⟩,⟨some 33,.fa 1 (.t 8),none⟩,⟨some 34,.ld false 1 (.t 33),none⟩,⟨some 35,.len false (.t 34),none⟩,⟨some 36,.bl 1 [(.c (.int .i64 2)),(.c (.int .i64 3))],none⟩,⟨some 37,.call 224 [(.t 30),(.t 32),(.t 35),(.t 36)],none⟩,⟨some 6,.mv (.t 37),none⟩]) (.ret))))),res := [(6,none)] }
def c226 : VF := { code := .seq (.reg [⟨some 4,.nm 1,none⟩]) (.seq (.seq (.reg [⟨some 5,.mv (.t 1),none⟩,⟨some 6,.bin .lss (.t 5) (.c (.int .i64 0)),none⟩]) (.cond (.t 6) (.reg [⟨some 7,.mi 9 (.c (.str [99,97,110,110,111,116,32,98,101,32,110,101,103,97,116,105,118,101])),none⟩,⟨none,.bad,none⟩]) (.skip))) (.seq (.seq (.reg [⟨some 8,.mv (.t 1),none⟩,⟨some 9,.mv (.t 0),none⟩,⟨some 10,.cap (.t 9),none⟩,⟨some 11,.mv (.t 0),none⟩,⟨some 12,.len false (.t 11),none⟩,⟨some 13,.bin .sub (.t 10) (.t 12),none⟩,⟨some 14,.bin .sub (.t 8) (.t 13),none⟩,⟨some 1,.mv (.t 14),none⟩]) (.seq (.reg [⟨some 15,.mv (.t 1),none⟩,⟨some 16,.bin .gtr (.t 15) (.c (.int .i64 0)),none⟩]) (.cond (.t 16) (.reg [⟨some 17,.mv (.t 0),none⟩,⟨some 18,.mv (.t 0),none⟩,⟨some 19,.cap (.t 18),none⟩,⟨some 20,.cut false 1 (.t 17) none (some (.t 19)) none,none⟩,⟨some 21,.mv (.t 1),none⟩,⟨some 22,.az false [.str []] (.t 20) (.t 21),none⟩,⟨some 23,.mv (.t 0),none⟩,⟨some 24,.len false (.t 23),none⟩,⟨some 25,.cut false 1 (.t 22) none (some (.t 24)) none,none⟩,⟨some 0,.mv (.t 25),none⟩]) (.skip)))) (.seq (.reg [⟨some 26,.mv (.t 0),none⟩,⟨some 4,.mv (.t 26),none⟩]) (.ret)))),res := [(4,none)],keepR := true }
def c227 : VF := { code := .seq (.reg [⟨some 4,.mv (.c (.bool false)),none⟩]) (.seq (.reg [⟨some 5,.mv (.t 0),none⟩,⟨some 6,.mv (.t 1),none⟩,⟨some 7,.call 256 [(.t 5),(.t 6)],none⟩,⟨some 8,.bin .geq (.t 7) (.c (.int .i64 0)),none⟩,⟨some 4,.mv (.t 8),none⟩]) (.ret)),res := [(4,none)] }
def c228 : VF := { code := .seq (.reg [⟨some 3,.mv (.c (.bool false)),none⟩]) (.seq (.reg [⟨some 4,.ld false 1 (.t 1),none⟩,⟨some 5,.mv (.t 0),none⟩,⟨some 6,.call 169 [(.t 4),(.t 5)],none⟩,⟨some 7,.not (.t 6),none⟩,⟨some 3,.mv (.t 7),none⟩]) (.ret)),res := [(3,none)] }
def c229 : VF := { code := .seq (.reg [⟨some 2,.bx (.t 0) [],none⟩,⟨some 4,.mv (.c (.bool false)),none⟩]) (.seq (.reg [⟨some 6,.fa 0 (.t 2),none⟩,⟨some 7,.ld false 1 (.t 6),none⟩,⟨some 8,.mv (.t 1),none⟩,⟨some 9,.ia none 5 (.t 7) (.t 8),none⟩,⟨some 10,.ld true 5 (.t 9),none⟩,⟨some 5,.al [.int .i64 0,.str [],.sl .ex 4 [],.int .i64 0,.int .i64 0] [],none⟩,⟨none,.st true 5 (.t 5) (.t 10),none⟩]) (.seq (.seq (.reg [⟨some 11,.fa 0 (.t 5),none⟩,⟨some 12,.ld false 1 (.t 11),none⟩]) (.block 0 (.seq (.reg [⟨some 14,.bin .eql (.t 12) (.c (.int .i64 1)),none⟩,⟨some 13,.mv (.t 14),none⟩]) (.cond (.t 13) (.seq (.reg [⟨some 4,.mv (.c (.bool true)),none⟩]) (.ret)) (.seq (.seq (.reg [⟨some 16,.bin .eql (.t 12) (.c (.int .i64 5)),none⟩,⟨some 15,.mv (.t 16),none⟩]) (.cond (.t 15) (.skip) (.reg [⟨some 17,.bin .eql (.t 12) (.c (.int .i64 6)),none⟩,⟨some 15,.mv (.t 17),none⟩]))) (.cond (.t 15) (.seq (.reg [⟨some 18,.ld true 1 (.t 2),none⟩,⟨some 19,.fa 3 (.t 5),none⟩,⟨some 20,.ld false 1 (.t 19),none⟩,⟨some 21,.call 229 [(.t 18),(.t 20)],none⟩,⟨some 4,.mv (.t 21),none⟩]) (.ret)) (.seq (.reg [⟨some 23,.bin .eql (.t 12) (.c (.int .i64 3)),none⟩,⟨some 22,.mv (.t 23),none⟩]) (.cond (.t 22) (.seq (.reg [⟨some 24,.ld true 1 (.t 2),none⟩,⟨some 25,.fa 3 (.t 5),none⟩,⟨some 26,.ld false 1 (.t 25),none⟩,⟨some 27,.call 229 [(.t 24),(.t 26)],none⟩,⟨some 28,.mv (.t 27),none⟩,⟨some 29,.ld true 1 (.t 2),some (28,true)⟩,⟨some 30,.fa 4 (.t 5),some (28,true)⟩,⟨some 31,.ld false 1 (.t 30),some (28,true)⟩,⟨some 32,.fa 3 (.t 5),some (28,true)⟩,⟨some 33,.ld false 1 (.t 32),some (28,true)⟩,⟨some 34,.call 257 [(.t 29),(.t 31),(.t 33)],some (28,true)⟩,⟨some 35,.pick (.t 28) (.t 34) (.c (.bool false)),none⟩,⟨some 36,.mv (.t 35),none⟩,⟨some 37,.ld true 1 (.t 2),some (36,true)⟩,⟨some 38,.fa 4 (.t 5),some (36,true)⟩,⟨some 39,.ld false 1 (.t 38),some (36,true)⟩,⟨some 40,.call 188 [(.t 37),(.t 39)],some (36,true)⟩,⟨some 41,.pick (.t 36) (.t 40) (.c (.bool false)),none⟩,⟨some 4,.mv (.t 41),none⟩]) (.ret)) (.seq (.reg [⟨some 43,.bin .eql (.t 12) (.c (.int .i64 4)),none⟩,⟨some 42,.mv (.t 43),none⟩]) (.cond (.t 42) (.seq (.reg [⟨some 44,.ld true 1 (.t 2),none⟩,⟨some 45,.fa 3 (.t 5),none⟩,⟨some 46,.ld false 1 (.t 45),none⟩,⟨some 47,.call 229 [(.t 44),(.t 46)],none⟩,⟨some 48,.mv (.t 47),none⟩,⟨some 49,.ld true 1 (.t 2),some (48,true)⟩,⟨some 50,.fa 4 (.t 5),some (48,true)⟩,⟨some 51,.ld false 1 (.t 50),some (48,true)⟩,⟨some 52,.call 229 [(.t 49),(.t 51)],some (48,true)⟩,⟨some 53,.pick (.t 48) (.t 52) (.c (.bool false)),none⟩,⟨some 54,.mv (.t 53),none⟩,⟨some 55,.ld true 1 (.t 2),some (54,true)⟩,⟨some 56,.fa 3 (.t 5),some (54,true)⟩,⟨some 57,.ld false 1 (.t 56),some (54,true)⟩,⟨some 58,.fa 4 (.t 5),some (54,true)⟩,⟨some 59,.ld false 1 (.t 58),some (54,true)⟩,⟨some 60,.call 257 [(.t 55),(.t 57),(.t 59)],some (54,true)⟩,⟨some 61,.pick (.t 54) (.t 60) (.c (.bool false)),none⟩,⟨some 62,.mv (.t 61),none⟩,⟨some 63,.ld true 1 (.t 2),some (62,true)⟩,⟨some 64,.fa 4 (.t 5),some (62,true)⟩,⟨some 65,.ld false 1 (.t 64),some (62,true)⟩,⟨some 66,.fa 3 (.t 5),some (62,true)⟩,⟨some 67,.ld false 1 (.t 66),some (62,true)⟩,⟨some 68,.call 257 [(.t 63),(.t 65),(.t 67)],some (62,true)⟩,⟨some 69,.pick (.t 62) (.t 68) (.c (.bool false)),none⟩,⟨some 4,.mv (.t 69),none⟩]) (.ret)) (.seq (.reg [⟨some 71,.bin .eql (.t 12) (.c (.int .i64 8)),none⟩,⟨some 70,.mv (.t 71),none⟩]) (.cond (.t 70) (.seq (.reg [⟨some 72,.ld true 1 (.t 2),none⟩,⟨some 73,.fa 4 (.t 5),none⟩,⟨some 74,.ld false 1 (.t 73),none⟩,⟨some 75,.call 229 [(.t 72),(.t 74)],none⟩,⟨some 76,.mv (.t 75),none⟩,⟨some 77,.ld true 1 (.t 2),some (76,true)⟩,⟨some 78,.fa 3 (.t 5),some (76,true)⟩,⟨some 79,.ld false 1 (.t 78),some (76,true)⟩,⟨some 80,.fa 4 (.t 5),some (76,true)⟩,⟨some 81,.ld false 1 (.t 80),some (76,true)⟩,⟨some 82,.call 257 [(.t 77),(.t 79),(.t 81)],some (76,true)⟩,⟨some 83,.pick (.t 76) (.t 82) (.c (.bool false)),none⟩,⟨some 84,.mv (.t 83),none⟩,⟨some 85,.ld true 1 (.t 2),some (84,true)⟩,⟨some 86,.fa 3 (.t 5),some (84,true)⟩,⟨some 87,.ld false 1 (.t 86),some (84,true)⟩,⟨some 88,.call 188 [(.t 85),(.t 87)],some (84,true)⟩,⟨some 89,.pick (.t 84) (.t 88) (.c (.bool false)),none⟩,⟨some 4,.mv (.t 89),none⟩]) (.ret)) (.skip))))))))))))) (.seq (.reg [⟨some 4,.mv (.c (.bool false)),none⟩]) (.ret)))),res := [(4,none)] }
def c231 : VF := { code := .seq (.reg [⟨some 4,.mv (.c (.int .i64 0)),none⟩]) (.seq (.seq (.reg [⟨some 8,.mv (.t 0),none⟩,⟨some 9,.call 94 [(.t 8)],none⟩,⟨some 10,.bin .neq (.t 9) (.c (.int .i64 0)),none⟩,⟨some 11,.mv (.t 10),none⟩,⟨some 12,.mv (.t 1),some (11,false)⟩,⟨some 13,.bin .lss (.t 12) (.c (.int .i64 0)),some (11,false)⟩,⟨some 14,.pick (.t 11) (.c (.bool true)) (.t 13),none⟩,⟨some 15,.mv (.t 14),none⟩,⟨some 16,.mv (.t 1),some (15,false)⟩,⟨some 17,.mv (.t 0),some (15,false)⟩,⟨some 18,.len false (.t 17),some (15,false)⟩,⟨some 19,.bin .geq (.t 16) (.t 18),some (15,false)⟩,⟨some 20,.pick (.t 15) (.c (.bool true)) (.t 19),none⟩]) (.cond (.t 20) (.seq (.reg [⟨some 4,.mv (.c (.int .i64 (-1))),none⟩]) (.ret)) (.skip))) (.seq (.reg [⟨some 22,.mv (.t 0),none⟩,⟨some 23,.call 138 [(.t 22)],none⟩,⟨some 21,.mv (.t 23),none⟩,⟨some 24,.ex (.t 21) 0,none⟩,⟨some 25,.ex (.t 21) 1,none⟩,⟨some 26,.ex (.t 21) 2,none⟩,⟨some 5,.mv (.t 24),none⟩,⟨some 6,.mv (.t 25),none⟩,⟨some 7,.mv (.t 26),none⟩]) (.seq (.reg [⟨some 27,.mv (.t 5),none⟩,⟨some 28,.mv (.t 1),none⟩,⟨some 29,.ia none 1 (.t 27) (.t 28),none⟩,⟨some 30,.ld false 1 (.t 29),none⟩,⟨some 4,.mv (.t 30),none⟩]) (.ret)))),res := [(4,none)] }
def c232 : VF := { code := .seq (.reg [⟨some 3,.mv (.t 0),none⟩,⟨some 4,.len false (.t 3),none⟩,⟨some 2,.mv (.t 4),none⟩]) (.reg [⟨some 5,.mv (.t 0),none⟩,⟨some 6,.mv (.t 2),none⟩,⟨some 7,.mv (.t 2),none⟩,⟨some 8,.wrp .u64 (.t 7),none⟩,⟨some 9,.call 259 [(.t 8)],none⟩,⟨some 10,.call 258 [(.t 5),(.c (.int .i64 0)),(.t 6),(.t 9)],none⟩]),res := [] }
def c233 : VF := { code := .seq (.reg [⟨some 2,.nw 1,none⟩]) (.seq (.seq (.reg [⟨some 6,.mv (.t 0),none⟩,⟨some 7,.len false (.t 6),none⟩,⟨some 8,.bin .lss (.t 7) (.c (.int .i64 2)),none⟩]) (.cond (.t 8) (.seq (.reg [⟨some 9,.mv (.t 0),none⟩,⟨some 2,.mv (.t 9),none⟩]) (.ret)) (.skip))) (.seq (.seq (.reg [⟨some 3,.mv (.c (.int .i64 1)),none⟩]) (.block 0 (.loop [0,3] (.seq (.seq (.reg [⟨some 10,.mv (.t 3),none⟩,⟨some 11,.mv (.t 0),none⟩,⟨some 12,.len false (.t 11),none⟩,⟨some 13,.bin .lss (.t 10) (.t 12),none⟩]) (.cond (.t 13) (.skip) (.exit 0))) (.seq (.block 1 (.seq (.drw [⟨0,[],⟨some 16,.mv (.t 0),none⟩,false,[]⟩,⟨1,[],⟨some 17,.mv (.t 3),none⟩,false,[]⟩,⟨2,[0,1],⟨some 18,.ia none 1 (.t 16) (.t 17),none⟩,false,[]⟩,⟨3,[0,1,2],⟨some 19,.ld false 1 (.t 18),none⟩,false,[]⟩,⟨4,[],⟨some 20,.mv (.t 0),none⟩,false,[]⟩,⟨5,[],⟨some 21,.mv (.t 3),none⟩,false,[]⟩,⟨6,[5],⟨some 22,.bin .sub (.t 21) (.c (.int .i64 1)),none⟩,false,[]⟩,⟨7,[4,5,6],⟨some 23,.ia none 1 (.t 20) (.t 22),none⟩,false,[]⟩,⟨8,[4,5,6,7],⟨some 24,.ld false 1 (.t 23),none⟩,false,[]⟩,⟨9,[0,1,2,3,4,5,6,7,8],⟨some 25,.bin .eql (.t 19) (.t 24),none⟩,false,[]⟩]) (.cond (.t 25) (.seq (.reg [⟨some 26,.mv (.t 0),none⟩,⟨some 27,.mv (.t 3),none⟩,⟨some 28,.cut false 1 (.t 26) (some (.t 27)) none none,none⟩,⟨some 4,.mv (.t 28),none⟩]) (.seq (.seq (.reg [⟨some 5,.mv (.c (.int .i64 1)),none⟩]) (.block 2 (.loop [0,3,4,5] (.seq (.seq (.reg [⟨some 29,.mv (.t 5),none⟩,⟨some 30,.mv (.t 4),none⟩,⟨some 31,.len false (.t 30),none⟩,⟨some 32,.bin .lss (.t 29) (.t 31),none⟩]) (.cond (.t 32) (.skip) (.exit 2))) (.seq (.block 3 (.seq (.drw [⟨0,[],⟨some 35,.mv (.t 4),none⟩,false,[]⟩,⟨1,[],⟨some 36,.mv (.t 5),none⟩,false,[]⟩,⟨2,[0,1],⟨some 37,.ia none 1 (.t 35) (.t 36),none⟩,false,[]⟩,⟨3,[0,1,2],⟨some 38,.ld false 1 (.t 37),none⟩,false,[]⟩,⟨4,[],⟨some 39,.mv (.t 4),none⟩,false,[]⟩,⟨5,[],⟨some 40,.mv (.t 5),none⟩,false,[]⟩,⟨6,[5],⟨some 41,.bin .sub (.t 40) (.c (.int .i64 1)),none⟩,false,[]⟩,⟨7,[4,5,6],⟨some 42,.ia none 1 (.t 39) (.t 41),none⟩,false,[]⟩,⟨8,[4,5,6,7],⟨some 43,.ld false 1 (.t 42),none⟩,false,[]⟩,⟨9,[0,1,2,3,4,5,6,7,8],⟨some 44,.bin .neq (.t 38) (.t 43),none⟩,false,[]⟩]) (.cond (.t 44) (.seq (.reg [⟨some 45,.mv (.t 0),none⟩,⟨some 46,.mv (.t 3),none⟩,⟨some 47,.mv (.t 4),none⟩,⟨some 48,.mv (.t 5),none⟩,⟨some 49,.ia none 1 (.t 47) (.t 48),none⟩,⟨some 50,.ld false 1 (.t 49),none⟩,⟨some 51,.ia none 1 (.t 45) (.t 46),none⟩,⟨none,.st false 1 (.t 51) (.t 50),none⟩]) (.reg [⟨some 52,.mv (.t 3),none⟩,⟨some 53,.bin .add (.t 52) (.c (.int .i64 1)),none⟩,⟨some 3,.mv (.t 53),none⟩])) (.skip)))) (.reg [⟨some 33,.mv (.t 5),none⟩,⟨some 34,.bin .add (.t 33) (.c (.int .i64 1)),none⟩,⟨some 5,.mv (.t 34),none⟩])))))) (.seq (.reg [⟨some 54,.mv (.t 0),none⟩,⟨some 55,.mv (.t 3),none⟩,⟨some 56,.cut false 1 (.t 54) (some (.t 55)) none none,none⟩,⟨none,.clr [.str []] (.t 56),none⟩]) (.seq (.reg [⟨some 57,.mv (.t 0),none⟩,⟨some 58,.mv (.t 3),none⟩,⟨some 59,.cut false 1 (.t 57) none (some (.t 58)) none,none⟩,⟨some 2,.mv (.t 59),none⟩]) (.ret))))) (.skip)))) (.reg [⟨some 14,.mv (.t 3),none⟩,⟨some 15,.bin .add (.t 14) (.c (.int .i64 1)),none⟩,⟨some 3,.mv (.t 15),none⟩])))))) (.seq (.reg [⟨some 60,.mv (.t 0),none⟩,⟨some 2,.mv (.t 60),none⟩]) (.ret)))),res := [(2,none)],keepR := true }
def c235 : VF := { code := .seq (.reg [⟨some 6,.mv (.c (.int .i64 20)),none⟩]) (.seq (.reg [⟨some 10,.mv (.t 6),none⟩,⟨some 7,.mv (.c (.int .i64 0)),none⟩,⟨some 8,.mv (.t 10),none⟩]) (.seq (.block 0 (.loop [0,1,2,6,7,8] (.seq (.seq (.reg [⟨some 11,.mv (.t 8),none⟩,⟨some 12,.mv (.t 1),none⟩,⟨some 13,.bin .leq (.t 11) (.t 12),none⟩]) (.cond (.t 13) (.skip) (.exit 0))) (.block 1 (.seq (.reg [⟨some 14,.mv (.t 0),none⟩,⟨some 15,.mv (.t 7),none⟩,⟨some 16,.mv (.t 8),none⟩,⟨some 17,.mv (.t 2),none⟩,⟨some 18,.call 260 [(.t 14),(.t 15),(.t 16),(.t 17)],none⟩]) (.seq (.reg [⟨some 19,.mv (.t 8),none⟩,⟨some 7,.mv (.t 19),none⟩]) (.reg [⟨some 20,.mv (.t 8),none⟩,⟨some 21,.mv (.t 6),none⟩,⟨some 22,.bin .add (.t 20) (.t 21),none⟩,⟨some 8,.mv (.t 22),none⟩]))))))) (.seq (.reg [⟨some 23,.mv (.t 0),none⟩,⟨some 24,.mv (.t 7),none⟩,⟨some 25,.mv (.t 1),none⟩,⟨some 26,.mv (.t 2),none⟩,⟨some 27,.call 260 [(.t 23),(.t 24),(.t 25),(.t 26)],none⟩]) (.block 2 (.loop [0,1,2,6] (.seq (.seq (.reg [⟨some 28,.mv (.t 6),none⟩,⟨some 29,.mv (.t 1),none⟩,⟨some 30,.bin .lss (.t 28) (.t 29),none⟩]) (.cond (.t 30) (.skip) (.exit 2))) (.block 3 (.seq (.reg [⟨some 31,.mv (.t 6),none⟩,⟨some 32,.bin .mul (.c (.int .i64 2)) (.t 31),none⟩,⟨some 7,.mv (.c (.int .i64 0)),none⟩,⟨some 8,.mv (.t 32),none⟩]) (.seq (.block 4 (.loop [0,1,2,6,7,8] (.seq (.seq (.reg [⟨some 33,.mv (.t 8),none⟩,⟨some 34,.mv (.t 1),none⟩,⟨some 35,.bin .leq (.t 33) (.t 34),none⟩]) (.cond (.t 35) (.skip) (.exit 4))) (.block 5 (.seq (.reg [⟨some 36,.mv (.t 0),none⟩,⟨some 37,.mv (.t 7),none⟩,⟨some 38,.mv (.t 7),none⟩,⟨some 39,.mv (.t 6),none⟩,⟨some 40,.bin .add (.t 38) (.t 39),none⟩,⟨some 41,.mv (.t 8),none⟩,⟨some 42,.mv (.t 2),none⟩,⟨some 43,.call 261 [(.t 36),(.t 37),(.t 40),(.t 41),(.t 42)],none⟩]) (.seq (.reg [⟨some 44,.mv (.t 8),none⟩,⟨some 7,.mv (.t 44),none⟩]) (.reg [⟨some 45,.mv (.t 8),none⟩,⟨some 46,.mv (.t 6),none⟩,⟨some 47,.bin .mul (.c (.int .i64 2)) (.t 46),none⟩,⟨some 48,.bin .add (.t 45) (.t 47),none⟩,⟨some 8,.mv (.t 48),none⟩]))))))) (.seq (.seq (.reg [⟨some 49,.mv (.t 7),none⟩,⟨some 50,.mv (.t 6),none⟩,⟨some 51,.bin .add (.t 49) (.t 50),none⟩,⟨some 9,.mv (.t 51),none⟩]) (.seq (.reg [⟨some 52,.mv (.t 9),none⟩,⟨some 53,.mv (.t 1),none⟩,⟨some 54,.bin .lss (.t 52) (.t 53),none⟩]) (.cond (.t 54) (.reg [⟨some 55,.mv (.t 0),none⟩,⟨some 56,.mv (.t 7),none⟩,⟨some 57,.mv (.t 9),none⟩,⟨some 58,.mv (.t 1),none⟩,⟨some 59,.mv (.t 2),none⟩,⟨some 60,.call 261 [(.t 55),(.t 56),(.t 57),(.t 58),(.t 59)],none⟩]) (.skip)))) (.reg [⟨some 61,.mv (.t 6),none⟩,⟨some 62,.bin .mul (.t 61) (.c (.int .i64 2)),none⟩,⟨some 6,.mv (.t 62),none⟩]))))))))))),res := [] }
def c236 : VF := { code := .seq (.reg [⟨some 6,.mv (.c (.int .i64 0)),none⟩]) (.seq (.seq (.reg [⟨some 11,.mv (.t 0),none⟩,⟨some 12,.len false (.t 11),none⟩,⟨some 13,.mv (.c (.int .i64 0)),none⟩]) (.block 0 (.loop [0,1,2,11,12,13] (.seq (.reg [⟨some 14,.bin .lss (.t 13) (.t 12),none⟩]) (.seq (.cond (.t 14) (.skip) (.exit 0)) (.seq (.block 1 (.seq (.reg [⟨some 15,.mv (.t 13),none⟩,⟨some 16,.ia none 2 (.t 11) (.t 13),none⟩,⟨some 17,.ld true 2 (.t 16),none⟩,⟨some 8,.al [.str [],.sl .ex 3 []] [],none⟩,⟨some 7,.mv (.t 15),none⟩,⟨none,.st true 2 (.t 8) (.t 17),none⟩]) (.seq (.seq (.reg [⟨some 18,.mv (.t 7),none⟩,⟨some 19,.mv (.t 1),none⟩,⟨some 20,.len false (.t 19),none⟩,⟨some 21,.bin .geq (.t 18) (.t 20),none⟩]) (.cond (.t 21) (.seq (.reg [⟨some 6,.mv (.c (.int .i64 1)),none⟩]) (.ret)) (.skip))) (.seq (.reg [⟨some 22,.mv (.t 1),none⟩,⟨some 23,.mv (.t 7),none⟩,⟨some 24,.ia none 2 (.t 22) (.t 23),none⟩,⟨some 25,.ld true 2 (.t 24),none⟩,⟨some 9,.al [.str [],.sl .ex 3 []] [],none⟩,⟨none,.st true 2 (.t 9) (.t 25),none⟩]) (.seq (.reg [⟨some 26,.mv (.t 2),none⟩,⟨some 27,.ld true 2 (.t 8),none⟩,⟨some 28,.ld true 2 (.t 9),none⟩,⟨some 29,.cv (.t 26) [(.t 27),(.t 28)],none⟩,⟨some 10,.mv (.t 29),none⟩]) (.seq (.reg [⟨some 30,.mv (.t 10),none⟩,⟨some 31,.bin .neq (.t 30) (.c (.int .i64 0)),none⟩]) (.cond (.t 31) (.seq (.reg [⟨some 32,.mv (.t 10),none⟩,⟨some 6,.mv (.t 32),none⟩]) (.ret)) (.skip)))))))) (.reg [⟨some 33,.bin .add (.t 13) (.c (.int .i64 1)),none⟩,⟨some 13,.mv (.t 33),none⟩]))))))) (.seq (.seq (.reg [⟨some 34,.mv (.t 0),none⟩,⟨some 35,.len false (.t 34),none⟩,⟨some 36,.mv (.t 1),none⟩,⟨some 37,.len false (.t 36),none⟩,⟨some 38,.bin .lss (.t 35) (.t 37),none⟩]) (.cond (.t 38) (.seq (.reg [⟨some 6,.mv (.c (.int .i64 (-1))),none⟩]) (.ret)) (.skip))) (.seq (.reg [⟨some 6,.mv (.c (.int .i64 0)),none⟩]) (.ret)))),res := [(6,none)] }
def c237 : VF := { code := .seq (.reg [⟨some 4,.nw 4,none⟩,⟨some 5,.mv (.c (.bool false)),none⟩]) (.seq (.seq (.reg [⟨some 10,.mv (.t 1),none⟩,⟨some 11,.len false (.t 10),none⟩,⟨some 12,.mv (.t 0),none⟩,⟨some 13,.len false (.t 12),none⟩,⟨some 14,.bin .neq (.t 11) (.t 13),none⟩]) (.cond (.t 14) (.seq (.reg [⟨some 4,.nw 4,none⟩,⟨some 5,.mv (.c (.bool false)),none⟩]) (.ret)) (.skip))) (.seq (.reg [⟨some 6,.nw 4,none⟩]) (.seq (.seq (.reg [⟨some 15,.mv (.t 0),none⟩,⟨some 16,.len false (.t 15),none⟩,⟨some 17,.mv (.c (.int .i64 0)),none⟩]) (.block 0 (.loop [1,6,15,16,17] (.seq (.reg [⟨some 18,.bin .lss (.t 17) (.t 16),none⟩]) (.seq (.cond (.t 18) (.skip) (.exit 0)) (.seq (.block 1 (.seq (.reg [⟨some 19,.mv (.t 17),none⟩,⟨some 20,.ia none 6 (.t 15) (.t 17),none⟩,⟨some 21,.ld true 6 (.t 20),none⟩,⟨some 8,.al [.int .i64 0,.str [],.sl .ex 4 [],.int .i64 0,.sl .ex 5 [],.sl .ex 5 []] [],none⟩,⟨some 7,.mv (.t 19),none⟩,⟨none,.st true 6 (.t 8) (.t 21),none⟩]) (.seq (.reg [⟨some 9,.mv (.c (.bool false)),none⟩]) (.seq (.drw [⟨0,[],⟨some 23,.fa 1 (.t 8),none⟩,false,[]⟩,⟨1,[0],⟨some 24,.ld true 2 (.t 23),none⟩,false,[]⟩,⟨2,[],⟨some 25,.mv (.t 1),none⟩,false,[]⟩,⟨3,[],⟨some 26,.mv (.t 7),none⟩,false,[]⟩,⟨4,[2,3],⟨some 27,.ia none 2 (.t 25) (.t 26),none⟩,false,[]⟩,⟨5,[2,3,4],⟨some 28,.ld true 2 (.t 27),none⟩,false,[]⟩,⟨6,[],⟨some 29,.mv (.t 6),none⟩,false,[]⟩,⟨7,[0,1,2,3,4,5,6],⟨some 30,.call 262 [(.t 24),(.t 28),(.t 29)],none⟩,false,[]⟩,⟨8,[0,1,2,3,4,5,6,7],⟨some 22,.mv (.t 30),none⟩,false,[]⟩,⟨9,[0,1,2,3,4,5,6,7,8],⟨some 31,.ex (.t 22) 0,none⟩,false,[]⟩,⟨10,[0,1,2,3,4,5,6,7,8],⟨some 32,.ex (.t 22) 1,none⟩,false,[]⟩,⟨11,[0,1,2,3,4,5,6,7,8,9],⟨some 6,.mv (.t 31),none⟩,false,[]⟩,⟨12,[0,1,2,3,4,5,6,7,8,9,10,11],⟨some 9,.mv (.t 32),none⟩,false,[]⟩]) (.seq (.reg [⟨some 33,.mv (.t 9),none⟩,⟨some 34,.not (.t 33),none⟩]) (.cond (.t 34) (.seq (.reg [⟨some 4,.nw 4,none⟩,⟨some 5,.mv (.c (.bool false)),none⟩]) (.ret)) (.skip))))))) (.reg [⟨some 35,.bin .add (.t 17) (.c (.int .i64 1)),none⟩,⟨some 17,.mv (.t 35),none⟩]))))))) (.seq (.reg [⟨some 36,.mv (.t 6),none⟩,⟨some 4,.mv (.t 36),none⟩,⟨some 5,.mv (.c (.bool true)),none⟩]) (.ret))))),res := [(4,none),(5,none)] }
def c238 : VF := { code := .seq (.reg [⟨some 1,.bx (.t 0) [],none⟩,⟨some 2,.nw 6,none⟩]) (.seq (.reg [⟨some 3,.fa 2 (.t 1),none⟩,⟨some 4,.ld false 1 (.t 3),none⟩,⟨some 5,.call 254 [(.t 4)],none⟩,⟨some 6,.call 253 [(.t 5),(.c (.fn 263 [] []))],none⟩,⟨some 2,.mv (.t 6),none⟩]) (.ret)),res := [(2,none)] }
def c239 : VF := { code := .seq (.reg [⟨some 4,.al [.int .i64 0,.int .i64 0,.str []] [],none⟩,⟨some 5,.mv (.c (.int .i64 0)),none⟩]) (.seq (.reg [⟨some 12,.mv (.t 0),none⟩,⟨some 13,.call 129 [(.t 12)],none⟩,⟨some 6,.mv (.t 13),none⟩]) (.seq (.seq (.reg [⟨some 14,.mv (.t 6),none⟩,⟨some 15,.bin .eql (.t 14) (.c (.int .i64 0)),none⟩]) (.cond (.t 15) (.reg [⟨some 16,.mv (.t 1),none⟩,⟨some 17,.call 264 [(.t 16)],none⟩,⟨some 6,.mv (.t 17),none⟩]) (.skip))) (.seq (.seq (.reg [⟨some 18,.mv (.t 6),none⟩,⟨some 19,.bin .neq (.t 18) (.c (.int .i64 0)),none⟩]) (.cond (.t 19) (.seq (.reg [⟨some 20,.bd [.int .i64 0,.int .i64 0,.str []] [],none⟩,⟨some 21,.mv (.t 6),none⟩,⟨none,.st true 3 (.t 4) (.t 20),none⟩,⟨some 5,.mv (.t 21),none⟩]) (.ret)) (.skip))) (.seq (.reg [⟨some 7,.nm 3,none⟩]) (.seq (.seq (.reg [⟨some 22,.mv (.t 0),none⟩,⟨some 23,.len false (.t 22),none⟩,⟨some 24,.mv (.c (.int .i64 0)),none⟩]) (.block 0 (.loop [1,4,7,22,23,24] (.seq (.reg [⟨some 25,.bin .lss (.t 24) (.t 23),none⟩]) (.seq (.cond (.t 25) (.skip) (.exit 0)) (.seq (.block 1 (.seq (.reg [⟨some 26,.ia none 5 (.t 22) (.t 24),none⟩,⟨some 27,.ld true 5 (.t 26),none⟩,⟨some 9,.al [.int .i64 0,.str [],.int .i64 0,.int .i64 0,.str []] [],none⟩,⟨none,.st true 5 (.t 9) (.t 27),none⟩]) (.seq (.reg [⟨some 10,.al [.int .i64 0,.int .i64 0,.str []] [],none⟩]) (.seq (.seq (.reg [⟨some 28,.fa 0 (.t 9),none⟩,⟨some 29,.ld false 1 (.t 28),none⟩,⟨some 30,.call 175 [(.t 29)],none⟩]) (.cond (.t 30) (.reg [⟨some 32,.ld true 5 (.t 9),none⟩,⟨some 33,.mv (.t 1),none⟩,⟨some 34,.call 265 [(.t 32),(.t 33)],none⟩,⟨some 31,.mv (.t 34),none⟩,⟨some 35,.ex (.t 31) 0,none⟩,⟨some 36,.ex (.t 31) 1,none⟩,⟨none,.st true 3 (.t 10) (.t 35),none⟩,⟨some 6,.mv (.t 36),none⟩]) (.seq (.reg [⟨some 37,.mv (.t 7),none⟩,⟨some 38,.len false (.t 37),none⟩,⟨some 39,.bin .sub (.t 38) (.c (.int .i64 2)),none⟩,⟨some 11,.mv (.t 39),none⟩]) (.seq (.drw [⟨0,[],⟨some 41,.fa 0 (.t 9),none⟩,false,[]⟩,⟨1,[0],⟨some 42,.ld false 1 (.t 41),none⟩,false,[]⟩,⟨2,[],⟨some 43,.mv (.t 7),none⟩,false,[]⟩,⟨3,[],⟨some 44,.mv (.t 11),none⟩,false,[]⟩,⟨4,[2,3],⟨some 45,.ia none 3 (.t 43) (.t 44),none⟩,false,[]⟩,⟨5,[2,3,4],⟨some 46,.ld true 3 (.t 45),none⟩,false,[]⟩,⟨6,[],⟨some 47,.mv (.t 7),none⟩,false,[]⟩,⟨7,[],⟨some 48,.mv (.t 11),none⟩,false,[]⟩,⟨8,[7],⟨some 49,.bin .add (.t 48) (.c (.int .i64 1)),none⟩,false,[]⟩,⟨9,[6,7,8],⟨some 50,.ia none 3 (.t 47) (.t 49),none⟩,false,[]⟩,⟨10,[6,7,8,9],⟨some 51,.ld true 3 (.t 50),none⟩,false,[]⟩,⟨11,[0,1,2,3,4,5,6,7,8,9,10],⟨some 52,.call 266 [(.t 42),(.t 46),(.t 51)],none⟩,false,[]⟩,⟨12,[0,1,2,3,4,5,6,7,8,9,10,11],⟨some 40,.mv (.t 52),none⟩,false,[]⟩,⟨13,[0,1,2,3,4,5,6,7,8,9,10,11,12],⟨some 53,.ex (.t 40) 0,none⟩,false,[]⟩,⟨14,[0,1,2,3,4,5,6,7,8,9,10,11,12],⟨some 54,.ex (.t 40) 1,none⟩,false,[]⟩,⟨15,[0,1,2,3,4,5,6,7,8,9,10,11,12,13],⟨none,.st true 3 (.t 10) (.t 53),none⟩,true,[]⟩,⟨16,[0,1,2,3,4,5,6,7,8,9,10,11,12,13,14,15],⟨some 6,.mv (.t 54),none⟩,false,[]⟩]) (.reg [⟨some 55,.mv (.t 7),none⟩,⟨some 56,.mv (.t 11),none⟩,⟨some 57,.cut false 3 (.t 55) none (some (.t 56)) none,none⟩,⟨some 7,.mv (.t 57),none⟩]))))) (.seq (.seq (.reg [⟨some 58,.mv (.t 6),none⟩,⟨some 59,.bin .neq (.t 58) (.c (.int .i64 0)),none⟩]) (.cond (.t 59) (.seq (.reg [⟨some 60,.bd [.int .i64 0,.int .i64 0,.str []] [],none⟩,⟨some 61,.mv (.t 6),none⟩,⟨none,.st true 3 (.t 4) (.t 60),none⟩,⟨some 5,.mv (.t 61),none⟩]) (.ret)) (.skip))) (.reg [⟨some 62,.mv (.t 7),none⟩,⟨some 63,.ld true 3 (.t 10),none⟩,⟨some 64,.bm 3 [(.t 63)],none⟩,⟨some 65,.am 3 (.t 62) (.t 64),none⟩,⟨some 7,.mv (.t 65),none⟩])))))) (.reg [⟨some 66,.bin .add (.t 24) (.c (.int .i64 1)),none⟩,⟨some 24,.mv (.t 66),none⟩]))))))) (.seq (.reg [⟨some 67,.mv (.t 7),none⟩,⟨some 68,.ia none 3 (.t 67) (.c (.int .i64 0)),none⟩,⟨some 69,.ld true 3 (.t 68),none⟩,⟨none,.st true 3 (.t 4) (.t 69),none⟩,⟨some 5,.mv (.c (.int .i64 0)),none⟩]) (.ret))))))),res := [(4,some (true,3)),(5,none)] }
def c240 : VF := { code := .seq (.reg [⟨some 2,.mv (.c (.int .i64 0)),none⟩]) (.seq (.seq (.reg [⟨some 6,.mv (.t 0),none⟩,⟨some 7,.len false (.t 6),none⟩,⟨some 8,.mv (.c (.int .i64 0)),none⟩]) (.block 0 (.loop [6,7,8] (.seq (.reg [⟨some 9,.bin .lss (.t 8) (.t 7),none⟩]) (.seq (.cond (.t 9) (.skip) (.exit 0)) (.seq (.block 1 (.seq (.reg [⟨some 10,.ia none 1 (.t 6) (.t 8),none⟩,⟨some 11,.ld false 1 (.t 10),none⟩,⟨some 4,.mv (.t 11),none⟩]) (.seq (.reg [⟨some 12,.mv (.t 4),none⟩,⟨some 13,.call 64 [(.t 12)],none⟩,⟨some 5,.mv (.t 13),none⟩]) (.seq (.reg [⟨some 14,.mv (.t 5),none⟩,⟨some 15,.bin .neq (.t 14) (.c (.int .i64 0)),none⟩]) (.cond (.t 15) (.seq (.reg [⟨some 16,.mv (.t 5),none⟩,⟨some 2,.mv (.t 16),none⟩]) (.ret)) (.skip)))))) (.reg [⟨some 17,.bin .add (.t 8) (.c (.int .i64 1)),none⟩,⟨some 8,.mv (.t 17),none⟩]))))))) (.seq (.reg [⟨some 2,.mv (.c (.int .i64 0)),none⟩]) (.ret))),res := [(2,none)] }
def c250 : VF := { code := .seq (.reg [⟨some 4,.mv (.c (.int .i64 0)),none⟩]) (.seq (.seq (.reg [⟨some 6,.mv (.t 0),none⟩,⟨some 7,.len false (.t 6),none⟩,⟨some 8,.mv (.c (.int .i64 0)),none⟩]) (.block 0 (.loop [0,1,7,8] (.seq (.reg [⟨some 9,.bin .lss (.t 8) (.t 7),none⟩]) (.seq (.cond (.t 9) (.skip) (.exit 0)) (.seq (.block 1 (.seq (.reg [⟨some 10,.mv (.t 8),none⟩,⟨some 5,.mv (.t 10),none⟩]) (.seq (.reg [⟨some 11,.mv (.t 1),none⟩,⟨some 12,.mv (.t 0),none⟩,⟨some 13,.mv (.t 5),none⟩,⟨some 14,.ia none 4 (.t 12) (.t 13),none⟩,⟨some 15,.ld true 4 (.t 14),none⟩,⟨some 16,.cv (.t 11) [(.t 15)],none⟩]) (.cond (.t 16) (.seq (.reg [⟨some 17,.mv (.t 5),none⟩,⟨some 4,.mv (.t 17),none⟩]) (.ret)) (.skip))))) (.reg [⟨some 18,.bin .add (.t 8) (.c (.int .i64 1)),none⟩,⟨some 8,.mv (.t 18),none⟩]))))))) (.seq (.reg [⟨some 4,.mv (.c (.int .i64 (-1))),none⟩]) (.ret))),res := [(4,none)] }
def c251 : VF := { code := .seq (.reg [⟨some 4,.mv (.c (.int .i64 0)),none⟩]) (.seq (.seq (.reg [⟨some 6,.mv (.t 0),none⟩,⟨some 7,.len false (.t 6),none⟩,⟨some 8,.mv (.c (.int .i64 0)),none⟩]) (.block 0 (.loop [0,1,7,8] (.seq (.reg [⟨some 9,.bin .lss (.t 8) (.t 7),none⟩]) (.seq (.cond (.t 9) (.skip) (.exit 0)) (.seq (.block 1 (.seq (.reg [⟨some 10,.mv (.t 8),none⟩,⟨some 5,.mv (.t 10),none⟩]) (.seq (.reg [⟨some 11,.mv (.t 1),none⟩,⟨some 12,.mv (.t 0),none⟩,⟨some 13,.mv (.t 5),none⟩,⟨some 14,.ia none 4 (.t 12) (.t 13),none⟩,⟨some 15,.ld true 4 (.t 14),none⟩,⟨some 16,.cv (.t 11) [(.t 15)],none⟩]) (.cond (.t 16) (.seq (.reg [⟨some 17,.mv (.t 5),none⟩,⟨some 4,.mv (.t 17),none⟩]) (.ret)) (.skip))))) (.reg [⟨some 18,.bin .add (.t 8) (.c (.int .i64 1)),none⟩,⟨some 8,.mv (.t 18),none⟩]))))))) (.seq (.reg [⟨some 4,.mv (.c (.int .i64 (-1))),none⟩]) (.ret))),res := [(4,none)] }
def c252 : VF := { code := .seq (.reg [⟨some 4,.mv (.c (.bool false)),none⟩]) (.seq (.reg [⟨some 5,.mv (.t 0),none⟩,⟨some 6,.mv (.t 1),none⟩,⟨some 7,.call 272 [(.t 5),(.t 6)],none⟩,⟨some 8,.bin .geq (.t 7) (.c (.int .i64 0)),none⟩,⟨some 4,.mv (.t 8),none⟩]) (.ret)),res := [(4,none)] }
def c253 : VF := { code := .seq (.reg [⟨some 4,.nw 6,none⟩]) (.seq (.reg [⟨some 8,.mv (.t 0),none⟩,⟨some 9,.mv (.t 1),none⟩,⟨some 10,.call 273 [(.t 8),(.t 9)],none⟩,⟨some 5,.mv (.t 10),none⟩]) (.seq (.seq (.reg [⟨some 11,.mv (.t 5),none⟩,⟨some 12,.bin .eql (.t 11) (.c (.int .i64 (-1))),none⟩]) (.cond (.t 12) (.seq (.reg [⟨some 13,.mv (.t 0),none⟩,⟨some 4,.mv (.t 13),none⟩]) (.ret)) (.skip))) (.seq (.seq (.reg [⟨some 14,.mv (.t 5),none⟩,⟨some 15,.bin .add (.t 14) (.c (.int .i64 1)),none⟩,⟨some 6,.mv (.t 15),none⟩]) (.block 0 (.loop [0,1,5,6] (.seq (.seq (.reg [⟨some 16,.mv (.t 6),none⟩,⟨some 17,.mv (.t 0),none⟩,⟨some 18,.len false (.t 17),none⟩,⟨some 19,.bin .lss (.t 16) (.t 18),none⟩]) (.cond (.t 19) (.skip) (.exit 0))) (.seq (.block 1 (.seq (.reg [⟨some 22,.mv (.t 0),none⟩,⟨some 23,.mv (.t 6),none⟩,⟨some 24,.ia none 6 (.t 22) (.t 23),none⟩,⟨some 25,.ld true 6 (.t 24),none⟩,⟨some 7,.al [.int .i64 0,.str [],.sl .ex 4 [],.int .i64 0,.sl .ex 5 [],.sl .ex 5 []] [],none⟩,⟨none,.st true 6 (.t 7) (.t 25),none⟩]) (.seq (.reg [⟨some 26,.mv (.t 1),none⟩,⟨some 27,.ld true 6 (.t 7),none⟩,⟨some 28,.cv (.t 26) [(.t 27)],none⟩,⟨some 29,.not (.t 28),none⟩]) (.cond (.t 29) (.seq (.reg [⟨some 30,.mv (.t 0),none⟩,⟨some 31,.mv (.t 5),none⟩,⟨some 32,.ld true 6 (.t 7),none⟩,⟨some 33,.ia none 6 (.t 30) (.t 31),none⟩,⟨none,.st true 6 (.t 33) (.t 32),none⟩]) (.reg [⟨some 34,.mv (.t 5),none⟩,⟨some 35,.bin .add (.t 34) (.c (.int .i64 1)),none⟩,⟨some 5,.mv (.t 35),none⟩])) (.skip))))) (.reg [⟨some 20,.mv (.t 6),none⟩,⟨some 21,.bin .add (.t 20) (.c (.int .i64 1)),none⟩,⟨some 6,.mv (.t 21),none⟩])))))) (.seq (.reg [⟨some 36,.mv (.t 0),none⟩,⟨some 37,.mv (.t 5),none⟩,⟨some 38,.cut false 6 (.t 36) (some (.t 37)) none none,none⟩,⟨none,.clr [.int .i64 0,.str [],.sl .ex 4 [],.int .i64 0,.sl .ex 5 [],.sl .ex 5 []] (.t 38),none⟩]) (.seq (.reg [⟨some 39,.mv (.t 0),none⟩,⟨some 40,.mv (.t 5),none⟩,⟨some 41,.cut false 6 (.t 39) none (some (.t 40)) none,none⟩,⟨some 4,.mv (.t 41),none⟩]) (.ret)))))),res := [(4,none)],keepR := true }
def c255 : VF := { code := .seq (.reg [⟨some 1,.bx (.t 0) [],none⟩,⟨some 2,.mv (.c (.bool false)),none⟩]) (.seq (.reg [⟨some 3,.fa 0 (.t 1),none⟩,⟨some 4,.ld false 1 (.t 3),none⟩,⟨some 5,.bin .neq (.t 4) (.c (.int .i64 1)),none⟩,⟨some 2,.mv (.t 5),none⟩]) (.ret)),res := [(2,none)] }
def c256 : VF := { code := .seq (.reg [⟨some 4,.mv (.c (.int .i64 0)),none⟩]) (.seq (.seq (.reg [⟨some 6,.mv (.t 0),none⟩,⟨some 7,.len false (.t 6),none⟩,⟨some 8,.mv (.c (.int .i64 0)),none⟩]) (.block 0 (.loop [0,1,7,8] (.seq (.reg [⟨some 9,.bin .lss (.t 8) (.t 7),none⟩]) (.seq (.cond (.t 9) (.skip) (.exit 0)) (.seq (.block 1 (.seq (.reg [⟨some 10,.mv (.t 8),none⟩,⟨some 5,.mv (.t 10),none⟩]) (.seq (.reg [⟨some 11,.mv (.t 1),none⟩,⟨some 12,.mv (.t 0),none⟩,⟨some 13,.mv (.t 5),none⟩,⟨some 14,.ia none 1 (.t 12) (.t 13),none⟩,⟨some 15,.ld false 1 (.t 14),none⟩,⟨some 16,.cv (.t 11) [(.t 15)],none⟩]) (.cond (.t 16) (.seq (.reg [⟨some 17,.mv (.t 5),none⟩,⟨some 4,.mv (.t 17),none⟩]) (.ret)) (.skip))))) (.reg [⟨some 18,.bin .add (.t 8) (.c (.int .i64 1)),none⟩,⟨some 8,.mv (.t 18),none⟩]))))))) (.seq (.reg [⟨some 4,.mv (.c (.int .i64 (-1))),none⟩]) (.ret))),res := [(4,none)] }
def c258 : VF := { code := .seq (.reg [⟨some 8,.mv (.c (.bool true)),none⟩]) (.seq (.reg [⟨some 9,.mv (.c (.bool true)),none⟩]) (.block 0 (.loop [0,1,2,3,8,9] (.block 1 (.seq (.reg [⟨some 19,.mv (.t 2),none⟩,⟨some 20,.mv (.t 1),none⟩,⟨some 21,.bin .sub (.t 19) (.t 20),none⟩,⟨some 10,.mv (.t 21),none⟩]) (.seq (.seq (.reg [⟨some 22,.mv (.t 10),none⟩,⟨some 23,.bin .leq (.t 22) (.c (.int .i64 12)),none⟩]) (.cond (.t 23) (.seq (.reg [⟨some 24,.mv (.t 0),none⟩,⟨some 25,.mv (.t 1),none⟩,⟨some 26,.mv (.t 2),none⟩,⟨some 27,.call 274 [(.t 24),(.t 25),(.t 26)],none⟩]) (.ret)) (.skip))) (.seq (.seq (.reg [⟨some 28,.mv (.t 3),none⟩,⟨some 29,.bin .eql (.t 28) (.c (.int .i64 0)),none⟩]) (.cond (.t 29) (.seq (.reg [⟨some 30,.mv (.t 0),none⟩,⟨some 31,.mv (.t 1),none⟩,⟨some 32,.mv (.t 2),none⟩,⟨some 33,.call 275 [(.t 30),(.t 31),(.t 32)],none⟩]) (.ret)) (.skip))) (.seq (.seq (.reg [⟨some 34,.mv (.t 8),none⟩,⟨some 35,.not (.t 34),none⟩]) (.cond (.t 35) (.seq (.reg [⟨some 36,.mv (.t 0),none⟩,⟨some 37,.mv (.t 1),none⟩,⟨some 38,.mv (.t 2),none⟩,⟨some 39,.call 276 [(.t 36),(.t 37),(.t 38)],none⟩]) (.reg [⟨some 40,.mv (.t 3),none⟩,⟨some 41,.bin .sub (.t 40) (.c (.int .i64 1)),none⟩,⟨some 3,.mv (.t 41),none⟩])) (.skip))) (.seq (.reg [⟨some 43,.mv (.t 0),none⟩,⟨some 44,.mv (.t 1),none⟩,⟨some 45,.mv (.t 2),none⟩,⟨some 46,.call 277 [(.t 43),(.t 44),(.t 45)],none⟩,⟨some 42,.mv (.t 46),none⟩,⟨some 47,.ex (.t 42) 0,none⟩,⟨some 48,.ex (.t 42) 1,none⟩,⟨some 11,.mv (.t 47),none⟩,⟨some 12,.mv (.t 48),none⟩]) (.seq (.seq (.reg [⟨some 49,.mv (.t 12),none⟩,⟨some 50,.bin .eql (.t 49) (.c (.int .i64 2)),none⟩]) (.cond (.t 50) (.seq (.reg [⟨some 51,.mv (.t 0),none⟩,⟨some 52,.mv (.t 1),none⟩,⟨some 53,.mv (.t 2),none⟩,⟨some 54,.call 278 [(.t 51),(.t 52),(.t 53)],none⟩]) (.seq (.reg [⟨some 55,.mv (.t 2),none⟩,⟨some 56,.bin .sub (.t 55) (.c (.int .i64 1)),none⟩,⟨some 57,.mv (.t 11),none⟩,⟨some 58,.mv (.t 1),none⟩,⟨some 59,.bin .sub (.t 57) (.t 58),none⟩,⟨some 60,.bin .sub (.t 56) (.t 59),none⟩,⟨some 11,.mv (.t 60),none⟩]) (.reg [⟨some 12,.mv (.c (.int .i64 1)),none⟩]))) (.skip))) (.seq (.seq (.reg [⟨some 61,.mv (.t 8),none⟩,⟨some 62,.mv (.t 61),none⟩,⟨some 63,.mv (.t 9),some (62,true)⟩,⟨some 64,.pick (.t 62) (.t 63) (.c (.bool false)),none⟩,⟨some 65,.mv (.t 64),none⟩,⟨some 66,.mv (.t 12),some (65,true)⟩,⟨some 67,.bin .eql (.t 66) (.c (.int .i64 1)),some (65,true)⟩,⟨some 68,.pick (.t 65) (.t 67) (.c (.bool false)),none⟩]) (.cond (.t 68) (.seq (.reg [⟨some 69,.mv (.t 0),none⟩,⟨some 70,.mv (.t 1),none⟩,⟨some 71,.mv (.t 2),none⟩,⟨some 72,.call 279 [(.t 69),(.t 70),(.t 71)],none⟩]) (.cond (.t 72) (.ret) (.skip))) (.skip))) (.seq (.seq (.drw [⟨0,[],⟨some 73,.mv (.t 1),none⟩,false,[]⟩,⟨1,[0],⟨some 74,.bin .gtr (.t 73) (.c (.int .i64 0)),none⟩,false,[]⟩,⟨2,[0,1],⟨some 75,.mv (.t 74),none⟩,false,[]⟩,⟨3,[0,1,2],⟨some 76,.mv (.t 0),some (75,true)⟩,false,[]⟩,⟨4,[0,1,2],⟨some 77,.mv (.t 1),some (75,true)⟩,false,[]⟩,⟨5,[0,1,2,4],⟨some 78,.bin .sub (.t 77) (.c (.int .i64 1)),some (75,true)⟩,false,[]⟩,⟨6,[0,1,2,3,4,5],⟨some 79,.ia none 1 (.t 76) (.t 78),some (75,true)⟩,false,[]⟩,⟨7,[0,1,2,3,4,5,6],⟨some 80,.ld false 1 (.t 79),some (75,true)⟩,false,[]⟩,⟨8,[0,1,2],⟨some 81,.mv (.t 0),some (75,true)⟩,false,[]⟩,⟨9,[0,1,2],⟨some 82,.mv (.t 11),some (75,true)⟩,false,[]⟩,⟨10,[0,1,2,8,9],⟨some 83,.ia none 1 (.t 81) (.t 82),some (75,true)⟩,false,[]⟩,⟨11,[0,1,2,8,9,10],⟨some 84,.ld false 1 (.t 83),some (75,true)⟩,false,[]⟩,⟨12,[0,1,2,3,4,5,6,7,8,9,10,11],⟨some 85,.call 280 [(.t 80),(.t 84)],some (75,true)⟩,false,[]⟩,⟨13,[0,1,2,3,4,5,6,7,8,9,10,11,12],⟨some 86,.not (.t 85),some (75,true)⟩,false,[]⟩,⟨14,[0,1,2,3,4,5,6,7,8,9,10,11,12,13],⟨some 87,.pick (.t 75) (.t 86) (.c (.bool false)),none⟩,false,[]⟩]) (.cond (.t 87) (.seq (.reg [⟨some 88,.mv (.t 0),none⟩,⟨some 89,.mv (.t 1),none⟩,⟨some 90,.mv (.t 2),none⟩,⟨some 91,.mv (.t 11),none⟩,⟨some 92,.call 281 [(.t 88),(.t 89),(.t 90),(.t 91)],none⟩,⟨some 13,.mv (.t 92),none⟩]) (.seq (.reg [⟨some 93,.mv (.t 13),none⟩,⟨some 1,.mv (.t 93),none⟩]) (.exit 1))) (.skip))) (.seq (.reg [⟨some 95,.mv (.t 0),none⟩,⟨some 96,.mv (.t 1),none⟩,⟨some 97,.mv (.t 2),none⟩,⟨some 98,.mv (.t 11),none⟩,⟨some 99,.call 282 [(.t 95),(.t 96),(.t 97),(.t 98)],none⟩,⟨some 94,.mv (.t 99),none⟩,⟨some 100,.ex (.t 94) 0,none⟩,⟨some 101,.ex (.t 94) 1,none⟩,⟨some 14,.mv (.t 100),none⟩,⟨some 15,.mv (.t 101),none⟩]) (.seq (.reg [⟨some 102,.mv (.t 15),none⟩,⟨some 9,.mv (.t 102),none⟩]) (.seq (.reg [⟨some 103,.mv (.t 14),none⟩,⟨some 104,.mv (.t 1),none⟩,⟨some 105,.bin .sub (.t 103) (.t 104),none⟩,⟨some 106,.mv (.t 2),none⟩,⟨some 107,.mv (.t 14),none⟩,⟨some 108,.bin .sub (.t 106) (.t 107),none⟩,⟨some 16,.mv (.t 105),none⟩,⟨some 17,.mv (.t 108),none⟩]) (.seq (.reg [⟨some 109,.mv (.t 10),none⟩,⟨some 110,.bin .quo (.t 109) (.c (.int .i64 8)),none⟩,⟨some 18,.mv (.t 110),none⟩]) (.seq (.reg [⟨some 111,.mv (.t 16),none⟩,⟨some 112,.mv (.t 17),none⟩,⟨some 113,.bin .lss (.t 111) (.t 112),none⟩]) (.cond (.t 113) (.seq (.reg [⟨some 114,.mv (.t 16),none⟩,⟨some 115,.mv (.t 18),none⟩,⟨some 116,.bin .geq (.t 114) (.t 115),none⟩,⟨some 8,.mv (.t 116),none⟩]) (.seq (.reg [⟨some 117,.mv (.t 0),none⟩,⟨some 118,.mv (.t 1),none⟩,⟨some 119,.mv (.t 14),none⟩,⟨some 120,.mv (.t 3),none⟩,⟨some 121,.call 258 [(.t 117),(.t 118),(.t 119),(.t 120)],none⟩]) (.reg [⟨some 122,.mv (.t 14),none⟩,⟨some 123,.bin .add (.t 122) (.c (.int .i64 1)),none⟩,⟨some 1,.mv (.t 123),none⟩]))) (.seq (.reg [⟨some 124,.mv (.t 17),none⟩,⟨some 125,.mv (.t 18),none⟩,⟨some 126,.bin .geq (.t 124) (.t 125),none⟩,⟨some 8,.mv (.t 126),none⟩]) (.seq (.reg [⟨some 127,.mv (.t 0),none⟩,⟨some 128,.mv (.t 14),none⟩,⟨some 129,.bin .add (.t 128) (.c (.int .i64 1)),none⟩,⟨some 130,.mv (.t 2),none⟩,⟨some 131,.mv (.t 3),none⟩,⟨some 132,.call 258 [(.t 127),(.t 129),(.t 130),(.t 131)],none⟩]) (.reg [⟨some 133,.mv (.t 14),none⟩,⟨some 2,.mv (.t 133),none⟩]))))))))))))))))))))),res := [] }
def c259 : VF := { code := .seq (.reg [⟨some 2,.mv (.c (.int .i64 0)),none⟩]) (.seq (.cond (.c (.bool false)) (.seq (.reg [⟨some 3,.mv (.t 0),none⟩,⟨some 4,.wrp .u32 (.t 3),none⟩,⟨some 5,.call 283 [(.t 4)],none⟩,⟨some 2,.mv (.t 5),none⟩]) (.ret)) (.skip)) (.seq (.reg [⟨some 6,.mv (.t 0),none⟩,⟨some 7,.call 268 [(.t 6)],none⟩,⟨some 2,.mv (.t 7),none⟩]) (.ret))),res := [(2,none)] }
def c260 : VF := { code := .seq (.reg [⟨some 10,.mv (.t 1),none⟩,⟨some 11,.bin .add (.t 10) (.c (.int .i64 1)),none⟩,⟨some 8,.mv (.t 11),none⟩]) (.block 0 (.loop [0,1,2,3,8] (.seq (.seq (.reg [⟨some 12,.mv (.t 8),none⟩,⟨some 13,.mv (.t 2),none⟩,⟨some 14,.bin .lss (.t 12) (.t 13),none⟩]) (.cond (.t 14) (.skip) (.exit 0))) (.seq (.block 1 (.seq (.reg [⟨some 17,.mv (.t 8),none⟩,⟨some 9,.mv (.t 17),none⟩]) (.block 2 (.loop [0,1,2,3,8,9] (.seq (.seq (.drw [⟨0,[],⟨some 18,.mv (.t 9),none⟩,false,[]⟩,⟨1,[],⟨some 19,.mv (.t 1),none⟩,false,[]⟩,⟨2,[0,1],⟨some 20,.bin .gtr (.t 18) (.t 19),none⟩,false,[]⟩,⟨3,[0,1,2],⟨some 21,.mv (.t 20),none⟩,false,[]⟩,⟨4,[0,1,2,3],⟨some 22,.mv (.t 3),some (21,true)⟩,false,[]⟩,⟨5,[0,1,2,3],⟨some 23,.mv (.t 0),some (21,true)⟩,false,[]⟩,⟨6,[0,1,2,3],⟨some 24,.mv (.t 9),some (21,true)⟩,false,[]⟩,⟨7,[0,1,2,3,5,6],⟨some 25,.ia none 2 (.t 23) (.t 24),some (21,true)⟩,false,[]⟩,⟨8,[0,1,2,3,5,6,7],⟨some 26,.ld true 2 (.t 25),some (21,true)⟩,false,[]⟩,⟨9,[0,1,2,3],⟨some 27,.mv (.t 0),some (21,true)⟩,false,[]⟩,⟨10,[0,1,2,3],⟨some 28,.mv (.t 9),some (21,true)⟩,false,[]⟩,⟨11,[0,1,2,3,10],⟨some 29,.bin .sub (.t 28) (.c (.int .i64 1)),some (21,true)⟩,false,[]⟩,⟨12,[0,1,2,3,9,10,11],⟨some 30,.ia none 2 (.t 27) (.t 29),some (21,true)⟩,false,[]⟩,⟨13,[0,1,2,3,9,10,11,12],⟨some 31,.ld true 2 (.t 30),some (21,true)⟩,false,[]⟩,⟨14,[0,1,2,3,4,5,6,7,8,9,10,11,12,13],⟨some 32,.cv (.t 22) [(.t 26),(.t 31)],some (21,true)⟩,true,[]⟩,⟨15,[0,1,2,3,4,5,6,7,8,9,10,11,12,13,14],⟨some 33,.bin .lss (.t 32) (.c (.int .i64 0)),some (21,true)⟩,false,[]⟩,⟨16,[0,1,2,3,4,5,6,7,8,9,10,11,12,13,14,15],⟨some 34,.pick (.t 21) (.t 33) (.c (.bool false)),none⟩,false,[]⟩]) (.cond (.t 34) (.skip) (.exit 2))) (.seq (.block 3 (.drw [⟨0,[],⟨some 37,.mv (.t 0),none⟩,false,[]⟩,⟨1,[],⟨some 38,.mv (.t 9),none⟩,false,[]⟩,⟨2,[],⟨some 39,.mv (.t 0),none⟩,false,[]⟩,⟨3,[],⟨some 40,.mv (.t 9),none⟩,false,[]⟩,⟨4,[3],⟨some 41,.bin .sub (.t 40) (.c (.int .i64 1)),none⟩,false,[]⟩,⟨5,[],⟨some 42,.mv (.t 0),none⟩,false,[]⟩,⟨6,[],⟨some 43,.mv (.t 9),none⟩,false,[]⟩,⟨7,[6],⟨some 44,.bin .sub (.t 43) (.c (.int .i64 1)),none⟩,false,[]⟩,⟨8,[5,6,7],⟨some 45,.ia none 2 (.t 42) (.t 44),none⟩,false,[]⟩,⟨9,[5,6,7,8],⟨some 46,.ld true 2 (.t 45),none⟩,false,[]⟩,⟨10,[],⟨some 47,.mv (.t 0),none⟩,false,[]⟩,⟨11,[],⟨some 48,.mv (.t 9),none⟩,false,[]⟩,⟨12,[10,11],⟨some 49,.ia none 2 (.t 47) (.t 48),none⟩,false,[]⟩,⟨13,[10,11,12],⟨some 50,.ld true 2 (.t 49),none⟩,false,[]⟩,⟨14,[0,1,5,6,7,8,9,10,11,12,13],⟨some 51,.ia none 2 (.t 37) (.t 38),none⟩,false,[]⟩,⟨15,[0,1,5,6,7,8,9,10,11,12,13,14],⟨none,.st true 2 (.t 51) (.t 46),none⟩,true,[]⟩,⟨16,[0,1,2,3,4,5,6,7,8,9,10,11,12,13,14,15],⟨some 52,.ia none 2 (.t 39) (.t 41),none⟩,false,[]⟩,⟨17,[0,1,2,3,4,5,6,7,8,9,10,11,12,13,14,15,16],⟨none,.st true 2 (.t 52) (.t 50),none⟩,true,[]⟩])) (.reg [⟨some 35,.mv (.t 9),none⟩,⟨some 36,.bin .sub (.t 35) (.c (.int .i64 1)),none⟩,⟨some 9,.mv (.t 36),none⟩]))))))) (.reg [⟨some 15,.mv (.t 8),none⟩,⟨some 16,.bin .add (.t 15) (.c (.int .i64 1)),none⟩,⟨some 8,.mv (.t 16),none⟩]))))),res := [] }
def c262 : VF := { code := .seq (.reg [⟨some 3,.bx (.t 0) [],none⟩,⟨some 4,.bx (.t 1) [],none⟩,⟨some 6,.nw 4,none⟩,⟨some 7,.mv (.c (.bool false)),none⟩]) (.seq (.seq (.reg [⟨some 13,.ld true 2 (.t 3),none⟩,⟨some 14,.call 93 [(.t 13)],none⟩,⟨some 15,.bin .neq (.t 14) (.c (.int .i64 0)),none⟩,⟨some 16,.mv (.t 15),none⟩,⟨some 17,.ld true 2 (.t 4),some (16,false)⟩,⟨some 18,.call 67 [(.t 17)],some (16,false)⟩,⟨some 19,.bin .neq (.t 18) (.c (.int .i64 0)),some (16,false)⟩,⟨some 20,.pick (.t 16) (.c (.bool true)) (.t 19),none⟩,⟨some 21,.mv (.t 20),none⟩,⟨some 22,.mv (.t 2),some (21,false)⟩,⟨some 23,.call 264 [(.t 22)],some (21,false)⟩,⟨some 24,.bin .neq (.t 23) (.c (.int .i64 0)),some (21,false)⟩,⟨some 25,.pick (.t 21) (.c (.bool true)) (.t 24),none⟩,⟨some 26,.mv (.t 25),none⟩,⟨some 27,.fa 0 (.t 3),some (26,false)⟩,⟨some 28,.ld false 1 (.t 27),some (26,false)⟩,⟨some 29,.fa 0 (.t 4),some (26,false)⟩,⟨some 30,.ld false 1 (.t 29),some (26,false)⟩,⟨some 31,.bin .neq (.t 28) (.t 30),some (26,false)⟩,⟨some 32,.pick (.t 26) (.c (.bool true)) (.t 31),none⟩,⟨some 33,.mv (.t 32),none⟩,⟨some 34,.fa 1 (.t 3),some (33,false)⟩,⟨some 35,.ld false 1 (.t 34),some (33,false)⟩,⟨some 36,.len false (.t 35),some (33,false)⟩,⟨some 37,.fa 1 (.t 4),some (33,false)⟩,⟨some 38,.ld false 1 (.t 37),some (33,false)⟩,⟨some 39,.len false (.t 38),some (33,false)⟩,⟨some 40,.bin .neq (.t 36) (.t 39),some (33,false)⟩,⟨some 41,.pick (.t 33) (.c (.bool true)) (.t 40),none⟩]) (.cond (.t 41) (.seq (.reg [⟨some 6,.nw 4,none⟩,⟨some 7,.mv (.c (.bool false)),none⟩]) (.ret)) (.skip))) (.seq (.reg [⟨some 42,.mv (.t 2),none⟩,⟨some 43,.call 285 [(.t 42)],none⟩,⟨some 8,.mv (.t 43),none⟩]) (.seq (.seq (.reg [⟨some 44,.fa 1 (.t 3),none⟩,⟨some 45,.ld false 1 (.t 44),none⟩,⟨some 46,.len false (.t 45),none⟩,⟨some 47,.mv (.c (.int .i64 0)),none⟩]) (.block 0 (.loop [4,8,45,46,47] (.seq (.reg [⟨some 48,.bin .lss (.t 47) (.t 46),none⟩]) (.seq (.cond (.t 48) (.skip) (.exit 0)) (.seq (.block 1 (.seq (.reg [⟨some 49,.mv (.t 47),none⟩,⟨some 50,.ia none 4 (.t 45) (.t 47),none⟩,⟨some 51,.ld true 4 (.t 50),none⟩,⟨some 10,.al [.str [],.int .i64 0,.int .i64 0,.str []] [],none⟩,⟨some 9,.mv (.t 49),none⟩,⟨none,.st true 4 (.t 10) (.t 51),none⟩]) (.seq (.seq (.reg [⟨some 52,.fa 0 (.t 10),none⟩,⟨some 53,.ld false 1 (.t 52),none⟩,⟨some 54,.bin .eql (.t 53) (.c (.str [])),none⟩]) (.cond (.t 54) (.seq (.seq (.drw [⟨0,[],⟨some 55,.fa 1 (.t 10),none⟩,false,[]⟩,⟨1,[0],⟨some 56,.ld true 3 (.t 55),none⟩,false,[]⟩,⟨2,[],⟨some 57,.fa 1 (.t 4),none⟩,false,[]⟩,⟨3,[2],⟨some 58,.ld false 1 (.t 57),none⟩,false,[]⟩,⟨4,[],⟨some 59,.mv (.t 9),none⟩,false,[]⟩,⟨5,[2,3,4],⟨some 60,.ia none 3 (.t 58) (.t 59),none⟩,false,[]⟩,⟨6,[2,3,4,5],⟨some 61,.ld true 3 (.t 60),none⟩,false,[]⟩,⟨7,[0,1,2,3,4,5,6],⟨some 62,.eqs true [1,1,2] (.t 56) (.t 61),none⟩,false,[]⟩]) (.cond (.t 62) (.seq (.reg [⟨some 6,.nw 4,none⟩,⟨some 7,.mv (.c (.bool false)),none⟩]) (.ret)) (.skip))) (.exit 1)) (.skip))) (.seq (.drw [⟨0,[],⟨some 64,.mv (.t 8),none⟩,false,[]⟩,⟨1,[],⟨some 65,.fa 0 (.t 10),none⟩,false,[]⟩,⟨2,[1],⟨some 66,.ld false 1 (.t 65),none⟩,false,[]⟩,⟨3,[],⟨some 67,.fa 1 (.t 4),none⟩,false,[]⟩,⟨4,[3],⟨some 68,.ld false 1 (.t 67),none⟩,false,[]⟩,⟨5,[],⟨some 69,.mv (.t 9),none⟩,false,[]⟩,⟨6,[3,4,5],⟨some 70,.ia none 3 (.t 68) (.t 69),none⟩,false,[]⟩,⟨7,[3,4,5,6],⟨some 71,.ld true 3 (.t 70),none⟩,false,[]⟩,⟨8,[0,1,2,3,4,5,6,7],⟨some 72,.call 286 [(.t 64),(.t 66),(.t 71)],none⟩,false,[]⟩,⟨9,[0,1,2,3,4,5,6,7,8],⟨some 63,.mv (.t 72),none⟩,false,[]⟩,⟨10,[0,1,2,3,4,5,6,7,8,9],⟨some 73,.ex (.t 63) 0,none⟩,false,[]⟩,⟨11,[0,1,2,3,4,5,6,7,8,9],⟨some 74,.ex (.t 63) 1,none⟩,false,[]⟩,⟨12,[0,1,2,3,4,5,6,7,8,9,10],⟨some 11,.mv (.t 73),none⟩,false,[]⟩,⟨13,[0,1,2,3,4,5,6,7,8,9,10,11,12],⟨some 12,.mv (.t 74),none⟩,false,[]⟩]) (.seq (.seq (.reg [⟨some 75,.mv (.t 12),none⟩,⟨some 76,.not (.t 75),none⟩]) (.cond (.t 76) (.seq (.reg [⟨some 6,.nw 4,none⟩,⟨some 7,.mv (.c (.bool false)),none⟩]) (.ret)) (.skip))) (.reg [⟨some 77,.mv (.t 11),none⟩,⟨some 8,.mv (.t 77),none⟩])))))) (.reg [⟨some 78,.bin .add (.t 47) (.c (.int .i64 1)),none⟩,⟨some 47,.mv (.t 78),none⟩]))))))) (.seq (.reg [⟨some 79,.mv (.t 8),none⟩,⟨some 6,.mv (.t 79),none⟩,⟨some 7,.mv (.c (.bool true)),none⟩]) (.ret))))),res := [(6,none),(7,none)] }
def c263 : VF := { code := .seq (.reg [⟨some 1,.bx (.t 0) [],none⟩,⟨some 2,.mv (.c (.bool false)),none⟩]) (.seq (.reg [⟨some 3,.fa 0 (.t 1),none⟩,⟨some 4,.ld false 1 (.t 3),none⟩,⟨some 5,.bin .neq (.t 4) (.c (.int .i64 1)),none⟩,⟨some 2,.mv (.t 5),none⟩]) (.ret)),res := [(2,none)] }
def c264 : VF := { code := .seq (.reg [⟨some 2,.mv (.c (.int .i64 0)),none⟩]) (.seq (.seq (.reg [⟨some 5,.mv (.t 0),none⟩,⟨some 6,.len false (.t 5),none⟩,⟨some 7,.bin .gtr (.t 6) (.c (.int .i64 100)),none⟩]) (.cond (.t 7) (.seq (.reg [⟨some 2,.mv (.c (.int .i64 1)),none⟩]) (.ret)) (.skip))) (.seq (.seq (.reg [⟨some 8,.mv (.t 0),none⟩,⟨some 9,.len false (.t 8),none⟩,⟨some 10,.mv (.c (.int .i64 0)),none⟩]) (.block 0 (.loop [0,8,9,10] (.seq (.reg [⟨some 11,.bin .lss (.t 10) (.t 9),none⟩]) (.seq (.cond (.t 11) (.skip) (.exit 0)) (.seq (.block 1 (.seq (.reg [⟨some 12,.mv (.t 10),none⟩,⟨some 13,.ia none 4 (.t 8) (.t 10),none⟩,⟨some 14,.ld true 4 (.t 13),none⟩,⟨some 4,.al [.str [],.int .i64 0,.int .i64 0,.str []] [],none⟩,⟨some 3,.mv (.t 12),none⟩,⟨none,.st true 4 (.t 4) (.t 14),none⟩]) (.seq (.drw [⟨0,[],⟨some 15,.ld true 4 (.t 4),none⟩,false,[]⟩,⟨1,[0],⟨some 16,.call 287 [(.t 15)],none⟩,false,[]⟩,⟨2,[0,1],⟨some 17,.not (.t 16),none⟩,false,[]⟩,⟨3,[0,1,2],⟨some 18,.mv (.t 17),none⟩,false,[]⟩,⟨4,[0,1,2,3],⟨some 19,.mv (.t 3),some (18,false)⟩,false,[]⟩,⟨5,[0,1,2,3,4],⟨some 20,.bin .gtr (.t 19) (.c (.int .i64 0)),some (18,false)⟩,false,[]⟩,⟨6,[0,1,2,3,4,5],⟨some 21,.mv (.t 20),some (18,false)⟩,false,[]⟩,⟨7,[0,1,2,3,4,5,6],⟨some 22,.mv (.t 0),some (21,true)⟩,false,[]⟩,⟨8,[0,1,2,3,4,5,6],⟨some 23,.mv (.t 3),some (21,true)⟩,false,[]⟩,⟨9,[0,1,2,3,4,5,6,8],⟨some 24,.bin .sub (.t 23) (.c (.int .i64 1)),some (21,true)⟩,false,[]⟩,⟨10,[0,1,2,3,4,5,6,7,8,9],⟨some 25,.ia none 4 (.t 22) (.t 24),some (21,true)⟩,false,[]⟩,⟨11,[0,1,2,3,4,5,6,7,8,9,10],⟨some 26,.fa 0 (.t 25),some (21,true)⟩,false,[]⟩,⟨12,[0,1,2,3,4,5,6,7,8,9,10,11],⟨some 27,.ld false 1 (.t 26),some (21,true)⟩,false,[]⟩,⟨13,[0,1,2,3,4,5,6],⟨some 28,.fa 0 (.t 4),some (21,true)⟩,false,[]⟩,⟨14,[0,1,2,3,4,5,6,13],⟨some 29,.ld false 1 (.t 28),some (21,true)⟩,false,[]⟩,⟨15,[0,1,2,3,4,5,6,7,8,9,10,11,12,13,14],⟨some 30,.bin .geq (.t 27) (.t 29),some (21,true)⟩,false,[]⟩,⟨16,[0,1,2,3,4,5,6,7,8,9,10,11,12,13,14,15],⟨some 31,.pick (.t 21) (.t 30) (.c (.bool false)),some (18,false)⟩,false,[]⟩,⟨17,[0,1,2,3,4,5,6,7,8,9,10,11,12,13,14,15,16],⟨some 32,.pick (.t 18) (.c (.bool true)) (.t 31),none⟩,false,[]⟩]) (.cond (.t 32) (.seq (.reg [⟨some 2,.mv (.c (.int .i64 1)),none⟩]) (.ret)) (.skip))))) (.reg [⟨some 33,.bin .add (.t 10) (.c (.int .i64 1)),none⟩,⟨some 10,.mv (.t 33),none⟩]))))))) (.seq (.reg [⟨some 2,.mv (.c (.int .i64 0)),none⟩]) (.ret)))),res := [(2,none)] }
def c265 : VF := { code := .seq (.reg [⟨some 2,.bx (.t 0) [],none⟩,⟨some 4,.al [.int .i64 0,.int .i64 0,.str []] [],none⟩,⟨some 5,.mv (.c (.int .i64 0)),none⟩]) (.seq (.seq (.reg [⟨some 8,.fa 0 (.t 2),none⟩,⟨some 9,.ld false 1 (.t 8),none⟩,⟨some 10,.bin .eql (.t 9) (.c (.int .i64 2)),none⟩]) (.cond (.t 10) (.seq (.reg [⟨some 11,.fa 2 (.t 2),none⟩,⟨some 12,.ld true 3 (.t 11),none⟩,⟨none,.st true 3 (.t 4) (.t 12),none⟩,⟨some 5,.mv (.c (.int .i64 0)),none⟩]) (.ret)) (.skip))) (.seq (.reg [⟨some 14,.mv (.t 1),none⟩,⟨some 15,.fa 1 (.t 2),none⟩,⟨some 16,.ld false 1 (.t 15),none⟩,⟨some 17,.call 288 [(.t 14),(.t 16)],none⟩,⟨some 13,.mv (.t 17),none⟩,⟨some 18,.ex (.t 13) 0,none⟩,⟨some 19,.ex (.t 13) 1,none⟩,⟨some 6,.al [.int .i64 0,.int .i64 0,.str []] [],none⟩,⟨none,.st true 3 (.t 6) (.t 18),none⟩,⟨some 7,.mv (.t 19),none⟩]) (.seq (.seq (.reg [⟨some 20,.mv (.t 7),none⟩,⟨some 21,.not (.t 20),none⟩]) (.cond (.t 21) (.seq (.reg [⟨some 22,.bd [.int .i64 0,.int .i64 0,.str []] [],none⟩,⟨none,.st true 3 (.t 4) (.t 22),none⟩,⟨some 5,.mv (.c (.int .i64 5)),none⟩]) (.ret)) (.skip))) (.seq (.reg [⟨some 23,.ld true 3 (.t 6),none⟩,⟨none,.st true 3 (.t 4) (.t 23),none⟩,⟨some 5,.mv (.c (.int .i64 0)),none⟩]) (.ret))))),res := [(4,some (true,3)),(5,none)] }
def c266 : VF := { code := .seq (.reg [⟨some 4,.bx (.t 1) [],none⟩,⟨some 5,.bx (.t 2) [],none⟩,⟨some 6,.al [.int .i64 0,.int .i64 0,.str []] [],none⟩,⟨some 7,.mv (.c (.int .i64 0)),none⟩]) (.seq (.seq (.reg [⟨some 10,.fa 0 (.t 4),none⟩,⟨some 11,.ld false 1 (.t 10),none⟩,⟨some 12,.bin .neq (.t 11) (.c (.int .i64 1)),none⟩,⟨some 13,.mv (.t 12),none⟩,⟨some 14,.fa 0 (.t 5),some (13,false)⟩,⟨some 15,.ld false 1 (.t 14),some (13,false)⟩,⟨some 16,.bin .neq (.t 15) (.c (.int .i64 1)),some (13,false)⟩,⟨some 17,.pick (.t 13) (.c (.bool true)) (.t 16),none⟩]) (.cond (.t 17) (.seq (.reg [⟨some 18,.bd [.int .i64 0,.int .i64 0,.str []] [],none⟩,⟨none,.st true 3 (.t 6) (.t 18),none⟩,⟨some 7,.mv (.c (.int .i64 3)),none⟩]) (.ret)) (.skip))) (.seq (.reg [⟨some 20,.mv (.t 0),none⟩,⟨some 21,.fa 1 (.t 4),none⟩,⟨some 22,.ld false 1 (.t 21),none⟩,⟨some 23,.fa 1 (.t 5),none⟩,⟨some 24,.ld false 1 (.t 23),none⟩,⟨some 25,.call 289 [(.t 20),(.t 22),(.t 24)],none⟩,⟨some 19,.mv (.t 25),none⟩,⟨some 26,.ex (.t 19) 0,none⟩,⟨some 27,.ex (.t 19) 1,none⟩,⟨some 8,.mv (.t 26),none⟩,⟨some 9,.mv (.t 27),none⟩]) (.seq (.seq (.reg [⟨some 28,.mv (.t 9),none⟩,⟨some 29,.bin .neq (.t 28) (.c (.int .i64 0)),none⟩]) (.cond (.t 29) (.seq (.reg [⟨some 30,.bd [.int .i64 0,.int .i64 0,.str []] [],none⟩,⟨some 31,.mv (.t 9),none⟩,⟨none,.st true 3 (.t 6) (.t 30),none⟩,⟨some 7,.mv (.t 31),none⟩]) (.ret)) (.skip))) (.seq (.reg [⟨some 32,.mv (.t 8),none⟩,⟨some 33,.bd [.int .i64 0,.int .i64 0,.str []] [(0,1,(.c (.int .i64 1))),(1,1,(.t 32))],none⟩,⟨none,.st true 3 (.t 6) (.t 33),none⟩,⟨some 7,.mv (.c (.int .i64 0)),none⟩]) (.ret))))),res := [(6,some (true,3)),(7,none)] }
def c268 : VF := { code := .seq (.reg [⟨some 2,.mv (.c (.int .i64 0)),none⟩]) (.seq (.seq (.reg [⟨some 3,.mv (.t 0),none⟩,⟨some 4,.bin .geq (.t 3) (.c (.int .u64 4294967296)),none⟩]) (.cond (.t 4) (.seq (.reg [⟨some 5,.mv (.t 0),none⟩,⟨some 6,.bin .shr (.t 5) (.c (.int .u64 32)),none⟩,⟨some 0,.mv (.t 6),none⟩]) (.reg [⟨some 2,.mv (.c (.int .i64 32)),none⟩])) (.skip))) (.seq (.seq (.reg [⟨some 7,.mv (.t 0),none⟩,⟨some 8,.bin .geq (.t 7) (.c (.int .u64 65536)),none⟩]) (.cond (.t 8) (.seq (.reg [⟨some 9,.mv (.t 0),none⟩,⟨some 10,.bin .shr (.t 9) (.c (.int .u64 16)),none⟩,⟨some 0,.mv (.t 10),none⟩]) (.reg [⟨some 11,.mv (.t 2),none⟩,⟨some 12,.bin .add (.t 11) (.c (.int .i64 16)),none⟩,⟨some 2,.mv (.t 12),none⟩])) (.skip))) (.seq (.seq (.reg [⟨some 13,.mv (.t 0),none⟩,⟨some 14,.bin .geq (.t 13) (.c (.int .u64 256)),none⟩]) (.cond (.t 14) (.seq (.reg [⟨some 15,.mv (.t 0),none⟩,⟨some 16,.bin .shr (.t 15) (.c (.int .u64 8)),none⟩,⟨some 0,.mv (.t 16),none⟩]) (.reg [⟨some 17,.mv (.t 2),none⟩,⟨some 18,.bin .add (.t 17) (.c (.int .i64 8)),none⟩,⟨some 2,.mv (.t 18),none⟩])) (.skip))) (.seq (.reg [⟨some 19,.mv (.t 2),none⟩,⟨some 20,.mv (.t 0),none⟩,⟨some 21,.wrp .u8 (.t 20),none⟩,⟨some 22,.ix (.c (.str [0,1,2,2,3,3,3,3,4,4,4,4,4,4,4,4,5,5,5,5,5,5,5,5,5,5,5,5,5,5,5,5,6,6,6,6,6,6,6,6,6,6,6,6,6,6,6,6,6,6,6,6,6,6,6,6,6,6,6,6,6,6,6,6,7,7,7,7,7,7,7,7,7,7,7,7,7,7,7,7,7,7,7,7,7,7,7,7,7,7,7,7,7,7,7,7,7,7,7,7,7,7,7,7,7,7,7,7,7,7,7,7,7,7,7,7,7,7,7,7,7,7,7,7,7,7,7,7,8,8,8,8,8,8,8,8,8,8,8,8,8,8,8,8,8,8,8,8,8,8,8,8,8,8,8,8,8,8,8,8,8,8,8,8,8,8,8,8,8,8,8,8,8,8,8,8,8,8,8,8,8,8,8,8,8,8,8,8,8,8,8,8,8,8,8,8,8,8,8,8,8,8,8,8,8,8,8,8,8,8,8,8,8,8,8,8,8,8,8,8,8,8,8,8,8,8,8,8,8,8,8,8,8,8,8,8,8,8,8,8,8,8,8,8,8,8,8,8,8,8,8,8,8,8,8,8])) (.t 21),none⟩,⟨some 23,.wrp .i64 (.t 22),none⟩,⟨some 24,.bin .add (.t 19) (.t 23),none⟩,⟨some 2,.mv (.t 24),none⟩]) (.ret))))),res := [(2,none)] }
def c272 : VF := { code := .seq (.reg [⟨some 4,.mv (.c (.int .i64 0)),none⟩]) (.seq (.seq (.reg [⟨some 6,.mv (.t 0),none⟩,⟨some 7,.len false (.t 6),none⟩,⟨some 8,.mv (.c (.int .i64 0)),none⟩]) (.block 0 (.loop [0,1,7,8] (.seq (.reg [⟨some 9,.bin .lss (.t 8) (.t 7),none⟩]) (.seq (.cond (.t 9) (.skip) (.exit 0)) (.seq (.block 1 (.seq (.reg [⟨some 10,.mv (.t 8),none⟩,⟨some 5,.mv (.t 10),none⟩]) (.seq (.reg [⟨some 11,.mv (.t 1),none⟩,⟨some 12,.mv (.t 0),none⟩,⟨some 13,.mv (.t 5),none⟩,⟨some 14,.ia none 1 (.t 12) (.t 13),none⟩,⟨some 15,.ld false 1 (.t 14),none⟩,⟨some 16,.bin .eql (.t 11) (.t 15),none⟩]) (.cond (.t 16) (.seq (.reg [⟨some 17,.mv (.t 5),none⟩,⟨some 4,.mv (.t 17),none⟩]) (.ret)) (.skip))))) (.reg [⟨some 18,.bin .add (.t 8) (.c (.int .i64 1)),none⟩,⟨some 8,.mv (.t 18),none⟩]))))))) (.seq (.reg [⟨some 4,.mv (.c (.int .i64 (-1))),none⟩]) (.ret))),res := [(4,none)] }
def c273 : VF := { code := .seq (.reg [⟨some 4,.mv (.c (.int .i64 0)),none⟩]) (.seq (.seq (.reg [⟨some 6,.mv (.t 0),none⟩,⟨some 7,.len false (.t 6),none⟩,⟨some 8,.mv (.c (.int .i64 0)),none⟩]) (.block 0 (.loop [0,1,7,8] (.seq (.reg [⟨some 9,.bin .lss (.t 8) (.t 7),none⟩]) (.seq (.cond (.t 9) (.skip) (.exit 0)) (.seq (.block 1 (.seq (.reg [⟨some 10,.mv (.t 8),none⟩,⟨some 5,.mv (.t 10),none⟩]) (.seq (.reg [⟨some 11,.mv (.t 1),none⟩,⟨some 12,.mv (.t 0),none⟩,⟨some 13,.mv (.t 5),none⟩,⟨some 14,.ia none 6 (.t 12) (.t 13),none⟩,⟨some 15,.ld true 6 (.t 14),none⟩,⟨some 16,.cv (.t 11) [(.t 15)],none⟩]) (.cond (.t 16) (.seq (.reg [⟨some 17,.mv (.t 5),none⟩,⟨some 4,.mv (.t 17),none⟩]) (.ret)) (.skip))))) (.reg [⟨some 18,.bin .add (.t 8) (.c (.int .i64 1)),none⟩,⟨some 8,.mv (.t 18),none⟩]))))))) (.seq (.reg [⟨some 4,.mv (.c (.int .i64 (-1))),none⟩]) (.ret))),res := [(4,none)] }
def c274 : VF := { code := .seq (.reg [⟨some 8,.mv (.t 1),none⟩,⟨some 9,.bin .add (.t 8) (.c (.int .i64 1)),none⟩,⟨some 6,.mv (.t 9),none⟩]) (.block 0 (.loop [0,1,2,6] (.seq (.seq (.reg [⟨some 10,.mv (.t 6),none⟩,⟨some 11,.mv (.t 2),none⟩,⟨some 12,.bin .lss (.t 10) (.t 11),none⟩]) (.cond (.t 12) (.skip) (.exit 0))) (.seq (.block 1 (.seq (.reg [⟨some 15,.mv (.t 6),none⟩,⟨some 7,.mv (.t 15),none⟩]) (.block 2 (.loop [0,1,2,6,7] (.seq (.seq (.drw [⟨0,[],⟨some 16,.mv (.t 7),none⟩,false,[]⟩,⟨1,[],⟨some 17,.mv (.t 1),none⟩,false,[]⟩,⟨2,[0,1],⟨some 18,.bin .gtr (.t 16) (.t 17),none⟩,false,[]⟩,⟨3,[0,1,2],⟨some 19,.mv (.t 18),none⟩,false,[]⟩,⟨4,[0,1,2,3],⟨some 20,.mv (.t 0),some (19,true)⟩,false,[]⟩,⟨5,[0,1,2,3],⟨some 21,.mv (.t 7),some (19,true)⟩,false,[]⟩,⟨6,[0,1,2,3,4,5],⟨some 22,.ia none 1 (.t 20) (.t 21),some (19,true)⟩,false,[]⟩,⟨7,[0,1,2,3,4,5,6],⟨some 23,.ld false 1 (.t 22),some (19,true)⟩,false,[]⟩,⟨8,[0,1,2,3],⟨some 24,.mv (.t 0),some (19,true)⟩,false,[]⟩,⟨9,[0,1,2,3],⟨some 25,.mv (.t 7),some (19,true)⟩,false,[]⟩,⟨10,[0,1,2,3,9],⟨some 26,.bin .sub (.t 25) (.c (.int .i64 1)),some (19,true)⟩,false,[]⟩,⟨11,[0,1,2,3,8,9,10],⟨some 27,.ia none 1 (.t 24) (.t 26),some (19,true)⟩,false,[]⟩,⟨12,[0,1,2,3,8,9,10,11],⟨some 28,.ld false 1 (.t 27),some (19,true)⟩,false,[]⟩,⟨13,[0,1,2,3,4,5,6,7,8,9,10,11,12],⟨some 29,.call 280 [(.t 23),(.t 28)],some (19,true)⟩,false,[]⟩,⟨14,[0,1,2,3,4,5,6,7,8,9,10,11,12,13],⟨some 30,.pick (.t 19) (.t 29) (.c (.bool false)),none⟩,false,[]⟩]) (.cond (.t 30) (.skip) (.exit 2))) (.seq (.block 3 (.drw [⟨0,[],⟨some 33,.mv (.t 0),none⟩,false,[]⟩,⟨1,[],⟨some 34,.mv (.t 7),none⟩,false,[]⟩,⟨2,[],⟨some 35,.mv (.t 0),none⟩,false,[]⟩,⟨3,[],⟨some 36,.mv (.t 7),none⟩,false,[]⟩,⟨4,[3],⟨some 37,.bin .sub (.t 36) (.c (.int .i64 1)),none⟩,false,[]⟩,⟨5,[],⟨some 38,.mv (.t 0),none⟩,false,[]⟩,⟨6,[],⟨some 39,.mv (.t 7),none⟩,false,[]⟩,⟨7,[6],⟨some 40,.bin .sub (.t 39) (.c (.int .i64 1)),none⟩,false,[]⟩,⟨8,[5,6,7],⟨some 41,.ia none 1 (.t 38) (.t 40),none⟩,false,[]⟩,⟨9,[5,6,7,8],⟨some 42,.ld false 1 (.t 41),none⟩,false,[]⟩,⟨10,[],⟨some 43,.mv (.t 0),none⟩,false,[]⟩,⟨11,[],⟨some 44,.mv (.t 7),none⟩,false,[]⟩,⟨12,[10,11],⟨some 45,.ia none 1 (.t 43) (.t 44),none⟩,false,[]⟩,⟨13,[10,11,12],⟨some 46,.ld false 1 (.t 45),none⟩,false,[]⟩,⟨14,[0,1,5,6,7,8,9,10,11,12,13],⟨some 47,.ia none 1 (.t 33) (.t 34),none⟩,false,[]⟩,⟨15,[0,1,5,6,7,8,9,10,11,12,13,14],⟨none,.st false 1 (.t 47) (.t 42),none⟩,true,[]⟩,⟨16,[0,1,2,3,4,5,6,7,8,9,10,11,12,13,14,15],⟨some 48,.ia none 1 (.t 35) (.t 37),none⟩,false,[]⟩,⟨17,[0,1,2,3,4,5,6,7,8,9,10,11,12,13,14,15,16],⟨none,.st false 1 (.t 48) (.t 46),none⟩,true,[]⟩])) (.reg [⟨some 31,.mv (.t 7),none⟩,⟨some 32,.bin .sub (.t 31) (.c (.int .i64 1)),none⟩,⟨some 7,.mv (.t 32),none⟩]))))))) (.reg [⟨some 13,.mv (.t 6),none⟩,⟨some 14,.bin .add (.t 13) (.c (.int .i64 1)),none⟩,⟨some 6,.mv (.t 14),none⟩]))))),res := [] }
def c286 : VF := { code := .seq (.reg [⟨some 5,.bx (.t 2) [],none⟩,⟨some 6,.nw 4,none⟩,⟨some 7,.mv (.c (.bool false)),none⟩]) (.seq (.seq (.reg [⟨some 8,.mv (.t 1),none⟩,⟨some 9,.ld true 3 (.t 5),none⟩,⟨some 10,.bd [.str [],.int .i64 0,.int .i64 0,.str []] [(0,1,(.t 8)),(1,3,(.t 9))],none⟩,⟨some 11,.call 287 [(.t 10)],none⟩,⟨some 12,.not (.t 11),none⟩]) (.cond (.t 12) (.seq (.reg [⟨some 6,.nw 4,none⟩,⟨some 7,.mv (.c (.bool false)),none⟩]) (.ret)) (.skip))) (.seq (.reg [⟨some 13,.mv (.t 0),none⟩,⟨some 14,.mv (.t 1),none⟩,⟨some 15,.ld true 3 (.t 5),none⟩,⟨some 16,.bd [.str [],.int .i64 0,.int .i64 0,.str []] [(0,1,(.t 14)),(1,3,(.t 15))],none⟩,⟨some 17,.bl 4 [(.t 16)],none⟩,⟨some 18,.call 299 [(.t 13),(.t 17)],none⟩,⟨some 19,.ex (.t 18) 0,none⟩,⟨some 20,.ex (.t 18) 1,none⟩,⟨some 6,.mv (.t 19),none⟩,⟨some 7,.mv (.t 20),none⟩]) (.ret))),res := [(6,none),(7,none)] }
def c287 : VF := { code := .seq (.reg [⟨some 1,.bx (.t 0) [],none⟩,⟨some 2,.mv (.c (.bool false)),none⟩]) (.seq (.reg [⟨some 3,.fa 0 (.t 1),none⟩,⟨some 4,.ld false 1 (.t 3),none⟩,⟨some 5,.call 176 [(.t 4)],none⟩,⟨some 6,.mv (.t 5),none⟩,⟨some 7,.fa 1 (.t 1),some (6,true)⟩,⟨some 8,.ld true 3 (.t 7),some (6,true)⟩,⟨some 9,.call 103 [(.t 8)],some (6,true)⟩,⟨some 10,.bin .eql (.t 9) (.c (.int .i64 0)),some (6,true)⟩,⟨some 11,.pick (.t 6) (.t 10) (.c (.bool false)),none⟩,⟨some 2,.mv (.t 11),none⟩]) (.ret)),res := [(2,none)] }
def c288 : VF := { code := .seq (.reg [⟨some 4,.al [.int .i64 0,.int .i64 0,.str []] [],none⟩,⟨some 5,.mv (.c (.bool false)),none⟩]) (.seq (.seq (.reg [⟨some 8,.mv (.t 0),none⟩,⟨some 9,.len false (.t 8),none⟩,⟨some 10,.mv (.c (.int .i64 0)),none⟩]) (.block 0 (.loop [1,4,8,9,10] (.seq (.reg [⟨some 11,.bin .lss (.t 10) (.t 9),none⟩]) (.seq (.cond (.t 11) (.skip) (.exit 0)) (.seq (.block 1 (.seq (.reg [⟨some 12,.ia none 4 (.t 8) (.t 10),none⟩,⟨some 13,.ld true 4 (.t 12),none⟩,⟨some 7,.al [.str [],.int .i64 0,.int .i64 0,.str []] [],none⟩,⟨none,.st true 4 (.t 7) (.t 13),none⟩]) (.seq (.reg [⟨some 14,.fa 0 (.t 7),none⟩,⟨some 15,.ld false 1 (.t 14),none⟩,⟨some 16,.mv (.t 1),none⟩,⟨some 17,.bin .eql (.t 15) (.t 16),none⟩]) (.cond (.t 17) (.seq (.reg [⟨some 18,.fa 1 (.t 7),none⟩,⟨some 19,.ld true 3 (.t 18),none⟩,⟨none,.st true 3 (.t 4) (.t 19),none⟩,⟨some 5,.mv (.c (.bool true)),none⟩]) (.ret)) (.skip))))) (.reg [⟨some 20,.bin .add (.t 10) (.c (.int .i64 1)),none⟩,⟨some 10,.mv (.t 20),none⟩]))))))) (.seq (.reg [⟨some 21,.bd [.int .i64 0,.int .i64 0,.str []] [],none⟩,⟨none,.st true 3 (.t 4) (.t 21),none⟩,⟨some 5,.mv (.c (.bool false)),none⟩]) (.ret))),res := [(4,some (true,3)),(5,none)] }
def c289 : VF := { code := .seq (.reg [⟨some 6,.mv (.c (.int .i64 0)),none⟩,⟨some 7,.mv (.c (.int .i64 0)),none⟩]) (.seq (.seq (.reg [⟨some 10,.mv (.t 0),none⟩,⟨some 11,.bin .neq (.t 10) (.c (.int .i64 3)),none⟩,⟨some 12,.mv (.t 11),none⟩,⟨some 13,.mv (.t 0),some (12,true)⟩,⟨some 14,.bin .neq (.t 13) (.c (.int .i64 4)),some (12,true)⟩,⟨some 15,.pick (.t 12) (.t 14) (.c (.bool false)),none⟩,⟨some 16,.mv (.t 15),none⟩,⟨some 17,.mv (.t 0),some (16,true)⟩,⟨some 18,.bin .neq (.t 17) (.c (.int .i64 5)),some (16,true)⟩,⟨some 19,.pick (.t 16) (.t 18) (.c (.bool false)),none⟩]) (.cond (.t 19) (.seq (.reg [⟨some 6,.mv (.c (.int .i64 0)),none⟩,⟨some 7,.mv (.c (.int .i64 3)),none⟩]) (.ret)) (.skip))) (.seq (.seq (.reg [⟨some 20,.mv (.t 1),none⟩,⟨some 21,.call 300 [(.t 20)],none⟩,⟨some 22,.not (.t 21),none⟩,⟨some 23,.mv (.t 22),none⟩,⟨some 24,.mv (.t 2),some (23,false)⟩,⟨some 25,.call 300 [(.t 24)],some (23,false)⟩,⟨some 26,.not (.t 25),some (23,false)⟩,⟨some 27,.pick (.t 23) (.c (.bool true)) (.t 26),none⟩]) (.cond (.t 27) (.seq (.reg [⟨some 6,.mv (.c (.int .i64 0)),none⟩,⟨some 7,.mv (.c (.int .i64 4)),none⟩]) (.ret)) (.skip))) (.seq (.reg [⟨some 8,.mv (.c (.int .i64 0)),none⟩]) (.seq (.reg [⟨some 9,.mv (.c (.bool false)),none⟩]) (.seq (.seq (.reg [⟨some 28,.mv (.t 0),none⟩]) (.block 0 (.seq (.reg [⟨some 36,.bin .eql (.t 28) (.c (.int .i64 3)),none⟩,⟨some 35,.mv (.t 36),none⟩]) (.cond (.t 35) (.reg [⟨some 38,.mv (.t 1),none⟩,⟨some 39,.mv (.t 2),none⟩,⟨some 40,.call 301 [(.t 38),(.t 39)],none⟩,⟨some 37,.mv (.t 40),none⟩,⟨some 41,.ex (.t 37) 0,none⟩,⟨some 42,.ex (.t 37) 1,none⟩,⟨some 8,.mv (.t 41),none⟩,⟨some 9,.mv (.t 42),none⟩]) (.seq (.reg [⟨some 44,.bin .eql (.t 28) (.c (.int .i64 4)),none⟩,⟨some 43,.mv (.t 44),none⟩]) (.cond (.t 43) (.reg [⟨some 46,.mv (.t 1),none⟩,⟨some 47,.mv (.t 2),none⟩,⟨some 48,.neg (.t 47),none⟩,⟨some 49,.call 301 [(.t 46),(.t 48)],none⟩,⟨some 45,.mv (.t 49),none⟩,⟨some 50,.ex (.t 45) 0,none⟩,⟨some 51,.ex (.t 45) 1,none⟩,⟨some 8,.mv (.t 50),none⟩,⟨some 9,.mv (.t 51),none⟩]) (.reg [⟨some 30,.mv (.t 1),none⟩,⟨some 31,.mv (.t 2),none⟩,⟨some 32,.call 302 [(.t 30),(.t 31)],none⟩,⟨some 29,.mv (.t 32),none⟩,⟨some 33,.ex (.t 29) 0,none⟩,⟨some 34,.ex (.t 29) 1,none⟩,⟨some 8,.mv (.t 33),none⟩,⟨some 9,.mv (.t 34),none⟩]))))))) (.seq (.seq (.reg [⟨some 52,.mv (.t 9),none⟩,⟨some 53,.not (.t 52),none⟩]) (.cond (.t 53) (.seq (.reg [⟨some 6,.mv (.c (.int .i64 0)),none⟩,⟨some 7,.mv (.c (.int .i64 4)),none⟩]) (.ret)) (.skip))) (.seq (.reg [⟨some 54,.mv (.t 8),none⟩,⟨some 6,.mv (.t 54),none⟩,⟨some 7,.mv (.c (.int .i64 0)),none⟩]) (.ret)))))))),res := [(6,none),(7,none)] }
def c299 : VF := { code := .seq (.reg [⟨some 4,.nw 4,none⟩,⟨some 5,.mv (.c (.bool false)),none⟩]) (.seq (.seq (.reg [⟨some 7,.mv (.t 0),none⟩,⟨some 8,.call 264 [(.t 7)],none⟩,⟨some 9,.bin .neq (.t 8) (.c (.int .i64 0)),none⟩,⟨some 10,.mv (.t 9),none⟩,⟨some 11,.mv (.t 1),some (10,false)⟩,⟨some 12,.call 264 [(.t 11)],some (10,false)⟩,⟨some 13,.bin .neq (.t 12) (.c (.int .i64 0)),some (10,false)⟩,⟨some 14,.pick (.t 10) (.c (.bool true)) (.t 13),none⟩]) (.cond (.t 14) (.seq (.reg [⟨some 4,.nw 4,none⟩,⟨some 5,.mv (.c (.bool false)),none⟩]) (.ret)) (.skip))) (.seq (.reg [⟨some 15,.mv (.t 0),none⟩,⟨some 16,.mv (.t 1),none⟩,⟨some 17,.bl 1 [(.t 15),(.t 16)],none⟩,⟨some 18,.call 304 [(.t 17)],none⟩,⟨some 6,.mv (.t 18),none⟩]) (.seq (.reg [⟨some 19,.mv (.t 6),none⟩,⟨some 20,.call 305 [(.t 19),(.c (.fn 306 [] []))],none⟩]) (.seq (.reg [⟨some 21,.mv (.t 6),none⟩,⟨some 22,.call 307 [(.t 21)],none⟩,⟨some 6,.fz (.t 22),none⟩]) (.seq (.seq (.reg [⟨some 23,.mv (.t 6),none⟩,⟨some 24,.call 264 [(.t 23)],none⟩,⟨some 25,.bin .neq (.t 24) (.c (.int .i64 0)),none⟩]) (.cond (.t 25) (.seq (.reg [⟨some 4,.nw 4,none⟩,⟨some 5,.mv (.c (.bool false)),none⟩]) (.ret)) (.skip))) (.seq (.reg [⟨some 26,.mv (.t 6),none⟩,⟨some 4,.mv (.t 26),none⟩,⟨some 5,.mv (.c (.bool true)),none⟩]) (.ret))))))),res := [(4,none),(5,none)] }
def c300 : VF := { code := .seq (.reg [⟨some 2,.mv (.c (.bool false)),none⟩]) (.seq (.reg [⟨some 3,.mv (.t 0),none⟩,⟨some 4,.bin .geq (.t 3) (.c (.int .i64 (-4611686018427387904))),none⟩,⟨some 5,.mv (.t 4),none⟩,⟨some 6,.mv (.t 0),some (5,true)⟩,⟨some 7,.bin .leq (.t 6) (.c (.int .i64 4611686018427387904)),some (5,true)⟩,⟨some 8,.pick (.t 5) (.t 7) (.c (.bool false)),none⟩,⟨some 2,.mv (.t 8),none⟩]) (.ret)),res := [(2,none)] }
def c301 : VF := { code := .seq (.reg [⟨some 4,.mv (.c (.int .i64 0)),none⟩,⟨some 5,.mv (.c (.bool false)),none⟩]) (.seq (.seq (.reg [⟨some 6,.mv (.t 1),none⟩,⟨some 7,.bin .gtr (.t 6) (.c (.int .i64 0)),none⟩,⟨some 8,.mv (.t 7),none⟩,⟨some 9,.mv (.t 0),some (8,true)⟩,⟨some 10,.mv (.t 1),some (8,true)⟩,⟨some 11,.bin .sub (.c (.int .i64 4611686018427387904)) (.t 10),some (8,true)⟩,⟨some 12,.bin .gtr (.t 9) (.t 11),some (8,true)⟩,⟨some 13,.pick (.t 8) (.t 12) (.c (.bool false)),none⟩,⟨some 14,.mv (.t 13),none⟩,⟨some 15,.mv (.t 1),some (14,false)⟩,⟨some 16,.bin .lss (.t 15) (.c (.int .i64 0)),some (14,false)⟩,⟨some 17,.mv (.t 16),some (14,false)⟩,⟨some 18,.mv (.t 0),some (17,true)⟩,⟨some 19,.mv (.t 1),some (17,true)⟩,⟨some 20,.bin .sub (.c (.int .i64 (-4611686018427387904))) (.t 19),some (17,true)⟩,⟨some 21,.bin .lss (.t 18) (.t 20),some (17,true)⟩,⟨some 22,.pick (.t 17) (.t 21) (.c (.bool false)),some (14,false)⟩,⟨some 23,.pick (.t 14) (.c (.bool true)) (.t 22),none⟩]) (.cond (.t 23) (.seq (.reg [⟨some 4,.mv (.c (.int .i64 0)),none⟩,⟨some 5,.mv (.c (.bool false)),none⟩]) (.ret)) (.skip))) (.seq (.reg [⟨some 24,.mv (.t 0),none⟩,⟨some 25,.mv (.t 1),none⟩,⟨some 26,.bin .add (.t 24) (.t 25),none⟩,⟨some 4,.mv (.t 26),none⟩,⟨some 5,.mv (.c (.bool true)),none⟩]) (.ret))),res := [(4,none),(5,none)] }
def c302 : VF := { code := .seq (.reg [⟨some 4,.mv (.c (.int .i64 0)),none⟩,⟨some 5,.mv (.c (.bool false)),none⟩]) (.seq (.reg [⟨some 9,.mv (.t 0),none⟩,⟨some 10,.call 309 [(.t 9)],none⟩,⟨some 11,.mv (.t 1),none⟩,⟨some 12,.call 309 [(.t 11)],none⟩,⟨some 13,.call 308 [(.t 10),(.t 12)],none⟩,⟨some 8,.mv (.t 13),none⟩,⟨some 14,.ex (.t 8) 0,none⟩,⟨some 15,.ex (.t 8) 1,none⟩,⟨some 6,.mv (.t 14),none⟩,⟨some 7,.mv (.t 15),none⟩]) (.seq (.seq (.reg [⟨some 16,.mv (.t 6),none⟩,⟨some 17,.bin .gtr (.t 16) (.c (.int .u64 0)),none⟩,⟨some 18,.mv (.t 17),none⟩,⟨some 19,.mv (.t 7),some (18,false)⟩,⟨some 20,.bin .gtr (.t 19) (.c (.int .u64 4611686018427387904)),some (18,false)⟩,⟨some 21,.pick (.t 18) (.c (.bool true)) (.t 20),none⟩]) (.cond (.t 21) (.seq (.reg [⟨some 4,.mv (.c (.int .i64 0)),none⟩,⟨some 5,.mv (.c (.bool false)),none⟩]) (.ret)) (.skip))) (.seq (.seq (.reg [⟨some 22,.mv (.t 0),none⟩,⟨some 23,.bin .lss (.t 22) (.c (.int .i64 0)),none⟩,⟨some 24,.mv (.t 1),none⟩,⟨some 25,.bin .lss (.t 24) (.c (.int .i64 0)),none⟩,⟨some 26,.eqb true (.t 23) (.t 25),none⟩]) (.cond (.t 26) (.seq (.reg [⟨some 27,.mv (.t 7),none⟩,⟨some 28,.wrp .i64 (.t 27),none⟩,⟨some 29,.neg (.t 28),none⟩,⟨some 4,.mv (.t 29),none⟩,⟨some 5,.mv (.c (.bool true)),none⟩]) (.ret)) (.skip))) (.seq (.reg [⟨some 30,.mv (.t 7),none⟩,⟨some 31,.wrp .i64 (.t 30),none⟩,⟨some 4,.mv (.t 31),none⟩,⟨some 5,.mv (.c (.bool true)),none⟩]) (.ret))))),res := [(4,none),(5,none)] }
def c304 : VF := { code := .seq (.reg [⟨some 2,.nm 4,none⟩]) (.seq (.reg [⟨some 3,.mv (.c (.int .i64 0)),none⟩]) (.seq (.seq (.reg [⟨some 9,.mv (.t 0),none⟩,⟨some 10,.len false (.t 9),none⟩,⟨some 11,.mv (.c (.int .i64 0)),none⟩]) (.block 0 (.loop [0,3,9,10,11] (.seq (.reg [⟨some 12,.bin .lss (.t 11) (.t 10),none⟩]) (.seq (.cond (.t 12) (.skip) (.exit 0)) (.seq (.block 1 (.seq (.reg [⟨some 13,.ia none 1 (.t 9) (.t 11),none⟩,⟨some 14,.ld false 1 (.t 13),none⟩,⟨some 5,.mv (.t 14),none⟩]) (.seq (.reg [⟨some 15,.mv (.t 3),none⟩,⟨some 16,.mv (.t 5),none⟩,⟨some 17,.len false (.t 16),none⟩,⟨some 18,.bin .add (.t 15) (.t 17),none⟩,⟨some 3,.mv (.t 18),none⟩]) (.seq (.reg [⟨some 19,.mv (.t 3),none⟩,⟨some 20,.bin .lss (.t 19) (.c (.int .i64 0)),none⟩]) (.cond (.t 20) (.reg [⟨some 21,.mi 9 (.c (.str [108,101,110,32,111,117,116,32,111,102,32,114,97,110,103,101])),none⟩,⟨none,.bad,none⟩]) (.skip)))))) (.reg [⟨some 22,.bin .add (.t 11) (.c (.int .i64 1)),none⟩,⟨some 11,.mv (.t 22),none⟩]))))))) (.seq (.reg [⟨some 23,.mv (.t 3),none⟩,⟨some 24,.call 310 [(.c (.sl .ex 4 [])),(.t 23)],none⟩,⟨some 6,.mv (.t 24),none⟩]) (.seq (.seq (.reg [⟨some 25,.mv (.t 0),none⟩,⟨some 26,.len false (.t 25),none⟩,⟨some 27,.mv (.c (.int .i64 0)),none⟩]) (.block 2 (.loop [6,25,26,27] (.seq (.reg [⟨some 28,.bin .lss (.t 27) (.t 26),none⟩]) (.seq (.cond (.t 28) (.skip) (.exit 2)) (.seq (.block 3 (.seq (.reg [⟨some 29,.ia none 1 (.t 25) (.t 27),none⟩,⟨some 30,.ld false 1 (.t 29),none⟩,⟨some 8,.mv (.t 30),none⟩]) (.reg [⟨some 31,.mv (.t 6),none⟩,⟨some 32,.mv (.t 8),none⟩,⟨some 33,.am 4 (.t 31) (.t 32),none⟩,⟨some 6,.mv (.t 33),none⟩]))) (.reg [⟨some 34,.bin .add (.t 27) (.c (.int .i64 1)),none⟩,⟨some 27,.mv (.t 34),none⟩]))))))) (.seq (.reg [⟨some 35,.mv (.t 6),none⟩,⟨some 2,.mv (.t 35),none⟩]) (.ret)))))),res := [(2,none)],keepR := true }
def c305 : VF := { code := .reg [⟨some 4,.mv (.t 0),none⟩,⟨some 5,.mv (.t 0),none⟩,⟨some 6,.len false (.t 5),none⟩,⟨some 7,.mv (.t 1),none⟩,⟨some 8,.call 311 [(.t 4),(.t 6),(.t 7)],none⟩],res := [] }
def c306 : VF := { code := .seq (.reg [⟨some 2,.bx (.t 0) [],none⟩,⟨some 3,.bx (.t 1) [],none⟩,⟨some 4,.mv (.c (.int .i64 0)),none⟩]) (.seq (.reg [⟨some 5,.fa 0 (.t 2),none⟩,⟨some 6,.ld false 1 (.t 5),none⟩,⟨some 7,.fa 0 (.t 3),none⟩,⟨some 8,.ld false 1 (.t 7),none⟩,⟨some 9,.call 143 [(.t 6),(.t 8)],none⟩,⟨some 4,.mv (.t 9),none⟩]) (.ret)),res := [(4,none)] }
def c307 : VF := { code := .seq (.reg [⟨some 2,.nw 4,none⟩]) (.seq (.seq (.reg [⟨some 6,.mv (.t 0),none⟩,⟨some 7,.len false (.t 6),none⟩,⟨some 8,.bin .lss (.t 7) (.c (.int .i64 2)),none⟩]) (.cond (.t 8) (.seq (.reg [⟨some 9,.mv (.t 0),none⟩,⟨some 2,.mv (.t 9),none⟩]) (.ret)) (.skip))) (.seq (.seq (.reg [⟨some 3,.mv (.c (.int .i64 1)),none⟩]) (.block 0 (.loop [0,3] (.seq (.seq (.reg [⟨some 10,.mv (.t 3),none⟩,⟨some 11,.mv (.t 0),none⟩,⟨some 12,.len false (.t 11),none⟩,⟨some 13,.bin .lss (.t 10) (.t 12),none⟩]) (.cond (.t 13) (.skip) (.exit 0))) (.seq (.block 1 (.seq (.drw [⟨0,[],⟨some 16,.mv (.t 0),none⟩,false,[]⟩,⟨1,[],⟨some 17,.mv (.t 3),none⟩,false,[]⟩,⟨2,[0,1],⟨some 18,.ia none 4 (.t 16) (.t 17),none⟩,false,[]⟩,⟨3,[0,1,2],⟨some 19,.ld true 4 (.t 18),none⟩,false,[]⟩,⟨4,[],⟨some 20,.mv (.t 0),none⟩,false,[]⟩,⟨5,[],⟨some 21,.mv (.t 3),none⟩,false,[]⟩,⟨6,[5],⟨some 22,.bin .sub (.t 21) (.c (.int .i64 1)),none⟩,false,[]⟩,⟨7,[4,5,6],⟨some 23,.ia none 4 (.t 20) (.t 22),none⟩,false,[]⟩,⟨8,[4,5,6,7],⟨some 24,.ld true 4 (.t 23),none⟩,false,[]⟩,⟨9,[0,1,2,3,4,5,6,7,8],⟨some 25,.eqs false [2,1,1,2] (.t 19) (.t 24),none⟩,false,[]⟩]) (.cond (.t 25) (.seq (.reg [⟨some 26,.mv (.t 0),none⟩,⟨some 27,.mv (.t 3),none⟩,⟨some 28,.cut false 4 (.t 26) (some (.t 27)) none none,none⟩,⟨some 4,.mv (.t 28),none⟩]) (.seq (.seq (.reg [⟨some 5,.mv (.c (.int .i64 1)),none⟩]) (.block 2 (.loop [0,3,4,5] (.seq (.seq (.reg [⟨some 29,.mv (.t 5),none⟩,⟨some 30,.mv (.t 4),none⟩,⟨some 31,.len false (.t 30),none⟩,⟨some 32,.bin .lss (.t 29) (.t 31),none⟩]) (.cond (.t 32) (.skip) (.exit 2))) (.seq (.block 3 (.seq (.drw [⟨0,[],⟨some 35,.mv (.t 4),none⟩,false,[]⟩,⟨1,[],⟨some 36,.mv (.t 5),none⟩,false,[]⟩,⟨2,[0,1],⟨some 37,.ia none 4 (.t 35) (.t 36),none⟩,false,[]⟩,⟨3,[0,1,2],⟨some 38,.ld true 4 (.t 37),none⟩,false,[]⟩,⟨4,[],⟨some 39,.mv (.t 4),none⟩,false,[]⟩,⟨5,[],⟨some 40,.mv (.t 5),none⟩,false,[]⟩,⟨6,[5],⟨some 41,.bin .sub (.t 40) (.c (.int .i64 1)),none⟩,false,[]⟩,⟨7,[4,5,6],⟨some 42,.ia none 4 (.t 39) (.t 41),none⟩,false,[]⟩,⟨8,[4,5,6,7],⟨some 43,.ld true 4 (.t 42),none⟩,false,[]⟩,⟨9,[0,1,2,3,4,5,6,7,8],⟨some 44,.eqs true [2,1,1,2] (.t 38) (.t 43),none⟩,false,[]⟩]) (.cond (.t 44) (.seq (.reg [⟨some 45,.mv (.t 0),none⟩,⟨some 46,.mv (.t 3),none⟩,⟨some 47,.mv (.t 4),none⟩,⟨some 48,.mv (.t 5),none⟩,⟨some 49,.ia none 4 (.t 47) (.t 48),none⟩,⟨some 50,.ld true 4 (.t 49),none⟩,⟨some 51,.ia none 4 (.t 45) (.t 46),none⟩,⟨none,.st true 4 (.t 51) (.t 50),none⟩]) (.reg [⟨some 52,.mv (.t 3),none⟩,⟨some 53,.bin .add (.t 52) (.c (.int .i64 1)),none⟩,⟨some 3,.mv (.t 53),none⟩])) (.skip)))) (.reg [⟨some 33,.mv (.t 5),none⟩,⟨some 34,.bin .add (.t 33) (.c (.int .i64 1)),none⟩,⟨some 5,.mv (.t 34),none⟩])))))) (.seq (.reg [⟨some 54,.mv (.t 0),none⟩,⟨some 55,.mv (.t 3),none⟩,⟨some 56,.cut false 4 (.t 54) (some (.t 55)) none none,none⟩,⟨none,.clr [.str [],.int .i64 0,.int .i64 0,.str []] (.t 56),none⟩]) (.seq (.reg [⟨some 57,.mv (.t 0),none⟩,⟨some 58,.mv (.t 3),none⟩,⟨some 59,.cut false 4 (.t 57) none (some (.t 58)) none,none⟩,⟨some 2,.mv (.t 59),none⟩]) (.ret))))) (.skip)))) (.reg [⟨some 14,.mv (.t 3),none⟩,⟨some 15,.bin .add (.t 14) (.c (.int .i64 1)),none⟩,⟨some 3,.mv (.t 15),none⟩])))))) (.seq (.reg [⟨some 60,.mv (.t 0),none⟩,⟨some 2,.mv (.t 60),none⟩]) (.ret)))),res := [(2,none)],keepR := true }
def c308 : VF := { code := .seq (.reg [⟨some 4,.mv (.c (.int .u64 0)),none⟩,⟨some 5,.mv (.c (.int .u64 0)),none⟩]) (.seq (.reg [⟨some 14,.mv (.t 0),none⟩,⟨some 15,.bin .and (.t 14) (.c (.int .u64 4294967295)),none⟩,⟨some 6,.mv (.t 15),none⟩]) (.seq (.reg [⟨some 16,.mv (.t 0),none⟩,⟨some 17,.bin .shr (.t 16) (.c (.int .u64 32)),none⟩,⟨some 7,.mv (.t 17),none⟩]) (.seq (.reg [⟨some 18,.mv (.t 1),none⟩,⟨some 19,.bin .and (.t 18) (.c (.int .u64 4294967295)),none⟩,⟨some 8,.mv (.t 19),none⟩]) (.seq (.reg [⟨some 20,.mv (.t 1),none⟩,⟨some 21,.bin .shr (.t 20) (.c (.int .u64 32)),none⟩,⟨some 9,.mv (.t 21),none⟩]) (.seq (.reg [⟨some 22,.mv (.t 6),none⟩,⟨some 23,.mv (.t 8),none⟩,⟨some 24,.bin .mul (.t 22) (.t 23),none⟩,⟨some 10,.mv (.t 24),none⟩]) (.seq (.reg [⟨some 25,.mv (.t 7),none⟩,⟨some 26,.mv (.t 8),none⟩,⟨some 27,.bin .mul (.t 25) (.t 26),none⟩,⟨some 28,.mv (.t 10),none⟩,⟨some 29,.bin .shr (.t 28) (.c (.int .u64 32)),none⟩,⟨some 30,.bin .add (.t 27) (.t 29),none⟩,⟨some 11,.mv (.t 30),none⟩]) (.seq (.reg [⟨some 31,.mv (.t 11),none⟩,⟨some 32,.bin .and (.t 31) (.c (.int .u64 4294967295)),none⟩,⟨some 12,.mv (.t 32),none⟩]) (.seq (.reg [⟨some 33,.mv (.t 11),none⟩,⟨some 34,.bin .shr (.t 33) (.c (.int .u64 32)),none⟩,⟨some 13,.mv (.t 34),none⟩]) (.seq (.reg [⟨some 35,.mv (.t 12),none⟩,⟨some 36,.mv (.t 6),none⟩,⟨some 37,.mv (.t 9),none⟩,⟨some 38,.bin .mul (.t 36) (.t 37),none⟩,⟨some 39,.bin .add (.t 35) (.t 38),none⟩,⟨some 12,.mv (.t 39),none⟩]) (.seq (.reg [⟨some 40,.mv (.t 7),none⟩,⟨some 41,.mv (.t 9),none⟩,⟨some 42,.bin .mul (.t 40) (.t 41),none⟩,⟨some 43,.mv (.t 13),none⟩,⟨some 44,.bin .add (.t 42) (.t 43),none⟩,⟨some 45,.mv (.t 12),none⟩,⟨some 46,.bin .shr (.t 45) (.c (.int .u64 32)),none⟩,⟨some 47,.bin .add (.t 44) (.t 46),none⟩,⟨some 4,.mv (.t 47),none⟩]) (.seq (.reg [⟨some 48,.mv (.t 0),none⟩,⟨some 49,.mv (.t 1),none⟩,⟨some 50,.bin .mul (.t 48) (.t 49),none⟩,⟨some 5,.mv (.t 50),none⟩]) (.ret)))))))))))),res := [(4,none),(5,none)] }
def c309 : VF := { code := .seq (.reg [⟨some 2,.mv (.c (.int .u64 0)),none⟩]) (.seq (.seq (.reg [⟨some 3,.mv (.t 0),none⟩,⟨some 4,.bin .lss (.t 3) (.c (.int .i64 0)),none⟩]) (.cond (.t 4) (.seq (.reg [⟨some 5,.mv (.t 0),none⟩,⟨some 6,.neg (.t 5),none⟩,⟨some 7,.wrp .u64 (.t 6),none⟩,⟨some 2,.mv (.t 7),none⟩]) (.ret)) (.skip))) (.seq (.reg [⟨some 8,.mv (.t 0),none⟩,⟨some 9,.wrp .u64 (.t 8),none⟩,⟨some 2,.mv (.t 9),none⟩]) (.ret))),res := [(2,none)] }
def c310 : VF := { code := .seq (.reg [⟨some 4,.nm 4,none⟩]) (.seq (.seq (.reg [⟨some 5,.mv (.t 1),none⟩,⟨some 6,.bin .lss (.t 5) (.c (.int .i64 0)),none⟩]) (.cond (.t 6) (.reg [⟨some 7,.mi 9 (.c (.str [99,97,110,110,111,116,32,98,101,32,110,101,103,97,116,105,118,101])),none⟩,⟨none,.bad,none⟩]) (.skip))) (.seq (.seq (.reg [⟨some 8,.mv (.t 1),none⟩,⟨some 9,.mv (.t 0),none⟩,⟨some 10,.cap (.t 9),none⟩,⟨some 11,.mv (.t 0),none⟩,⟨some 12,.len false (.t 11),none⟩,⟨some 13,.bin .sub (.t 10) (.t 12),none⟩,⟨some 14,.bin .sub (.t 8) (.t 13),none⟩,⟨some 1,.mv (.t 14),none⟩]) (.seq (.reg [⟨some 15,.mv (.t 1),none⟩,⟨some 16,.bin .gtr (.t 15) (.c (.int .i64 0)),none⟩]) (.cond (.t 16) (.reg [⟨some 17,.mv (.t 0),none⟩,⟨some 18,.mv (.t 0),none⟩,⟨some 19,.cap (.t 18),none⟩,⟨some 20,.cut false 4 (.t 17) none (some (.t 19)) none,none⟩,⟨some 21,.mv (.t 1),none⟩,⟨some 22,.az true [.str [],.int .i64 0,.int .i64 0,.str []] (.t 20) (.t 21),none⟩,⟨some 23,.mv (.t 0),none⟩,⟨some 24,.len false (.t 23),none⟩,⟨some 25,.cut false 4 (.t 22) none (some (.t 24)) none,none⟩,⟨some 0,.mv (.t 25),none⟩]) (.skip)))) (.seq (.reg [⟨some 26,.mv (.t 0),none⟩,⟨some 4,.mv (.t 26),none⟩]) (.ret)))),res := [(4,none)],keepR := true }
def c311 : VF := { code := .seq (.reg [⟨some 6,.mv (.c (.int .i64 20)),none⟩]) (.seq (.reg [⟨some 10,.mv (.t 6),none⟩,⟨some 7,.mv (.c (.int .i64 0)),none⟩,⟨some 8,.mv (.t 10),none⟩]) (.seq (.block 0 (.loop [0,1,2,6,7,8] (.seq (.seq (.reg [⟨some 11,.mv (.t 8),none⟩,⟨some 12,.mv (.t 1),none⟩,⟨some 13,.bin .leq (.t 11) (.t 12),none⟩]) (.cond (.t 13) (.skip) (.exit 0))) (.block 1 (.seq (.reg [⟨some 14,.mv (.t 0),none⟩,⟨some 15,.mv (.t 7),none⟩,⟨some 16,.mv (.t 8),none⟩,⟨some 17,.mv (.t 2),none⟩,⟨some 18,.call 312 [(.t 14),(.t 15),(.t 16),(.t 17)],none⟩]) (.seq (.reg [⟨some 19,.mv (.t 8),none⟩,⟨some 7,.mv (.t 19),none⟩]) (.reg [⟨some 20,.mv (.t 8),none⟩,⟨some 21,.mv (.t 6),none⟩,⟨some 22,.bin .add (.t 20) (.t 21),none⟩,⟨some 8,.mv (.t 22),none⟩]))))))) (.seq (.reg [⟨some 23,.mv (.t 0),none⟩,⟨some 24,.mv (.t 7),none⟩,⟨some 25,.mv (.t 1),none⟩,⟨some 26,.mv (.t 2),none⟩,⟨some 27,.call 312 [(.t 23),(.t 24),(.t 25),(.t 26)],none⟩]) (.block 2 (.loop [0,1,2,6] (.seq (.seq (.reg [⟨some 28,.mv (.t 6),none⟩,⟨some 29,.mv (.t 1),none⟩,⟨some 30,.bin .lss (.t 28) (.t 29),none⟩]) (.cond (.t 30) (.skip) (.exit 2))) (.block 3 (.seq (.reg [⟨some 31,.mv (.t 6),none⟩,⟨some 32,.bin .mul (.c (.int .i64 2)) (.t 31),none⟩,⟨some 7,.mv (.c (.int .i64 0)),none⟩,⟨some 8,.mv (.t 32),none⟩]) (.seq (.block 4 (.loop [0,1,2,6,7,8] (.seq (.seq (.reg [⟨some 33,.mv (.t 8),none⟩,⟨some 34,.mv (.t 1),none⟩,⟨some 35,.bin .leq (.t 33) (.t 34),none⟩]) (.cond (.t 35) (.skip) (.exit 4))) (.block 5 (.seq (.reg [⟨some 36,.mv (.t 0),none⟩,⟨some 37,.mv (.t 7),none⟩,⟨some 38,.mv (.t 7),none⟩,⟨some 39,.mv (.t 6),none⟩,⟨some 40,.bin .add (.t 38) (.t 39),none⟩,⟨some 41,.mv (.t 8),none⟩,⟨some 42,.mv (.t 2),none⟩,⟨some 43,.call 313 [(.t 36),(.t 37),(.t 40),(.t 41),(.t 42)],none⟩]) (.seq (.reg [⟨some 44,.mv (.t 8),none⟩,⟨some 7,.mv (.t 44),none⟩]) (.reg [⟨some 45,.mv (.t 8),none⟩,⟨some 46,.mv (.t 6),none⟩,⟨some 47,.bin .mul (.c (.int .i64 2)) (.t 46),none⟩,⟨some 48,.bin .add (.t 45) (.t 47),none⟩,⟨some 8,.mv (.t 48),none⟩]))))))) (.seq (.seq (.reg [⟨some 49,.mv (.t 7),none⟩,⟨some 50,.mv (.t 6),none⟩,⟨some 51,.bin .add (.t 49) (.t 50),none⟩,⟨some 9,.mv (.t 51),none⟩]) (.seq (.reg [⟨some 52,.mv (.t 9),none⟩,⟨some 53,.mv (.t 1),none⟩,⟨some 54,.bin .lss (.t 52) (.t 53),none⟩]) (.cond (.t 54) (.reg [⟨some 55,.mv (.t 0),none⟩,⟨some 56,.mv (.t 7),none⟩,⟨some 57,.mv (.t 9),none⟩,⟨some 58,.mv (.t 1),none⟩,⟨some 59,.mv (.t 2),none⟩,⟨some 60,.call 313 [(.t 55),(.t 56),(.t 57),(.t 58),(.t 59)],none⟩]) (.skip)))) (.reg [⟨some 61,.mv (.t 6),none⟩,⟨some 62,.bin .mul (.t 61) (.c (.int .i64 2)),none⟩,⟨some 6,.mv (.t 62),none⟩]))))))))))),res := [] }
def c312 : VF := { code := .seq (.reg [⟨some 10,.mv (.t 1),none⟩,⟨some 11,.bin .add (.t 10) (.c (.int .i64 1)),none⟩,⟨some 8,.mv (.t 11),none⟩]) (.block 0 (.loop [0,1,2,3,8] (.seq (.seq (.reg [⟨some 12,.mv (.t 8),none⟩,⟨some 13,.mv (.t 2),none⟩,⟨some 14,.bin .lss (.t 12) (.t 13),none⟩]) (.cond (.t 14) (.skip) (.exit 0))) (.seq (.block 1 (.seq (.reg [⟨some 17,.mv (.t 8),none⟩,⟨some 9,.mv (.t 17),none⟩]) (.block 2 (.loop [0,1,2,3,8,9] (.seq (.seq (.drw [⟨0,[],⟨some 18,.mv (.t 9),none⟩,false,[]⟩,⟨1,[],⟨some 19,.mv (.t 1),none⟩,false,[]⟩,⟨2,[0,1],⟨some 20,.bin .gtr (.t 18) (.t 19),none⟩,false,[]⟩,⟨3,[0,1,2],⟨some 21,.mv (.t 20),none⟩,false,[]⟩,⟨4,[0,1,2,3],⟨some 22,.mv (.t 3),some (21,true)⟩,false,[]⟩,⟨5,[0,1,2,3],⟨some 23,.mv (.t 0),some (21,true)⟩,false,[]⟩,⟨6,[0,1,2,3],⟨some 24,.mv (.t 9),some (21,true)⟩,false,[]⟩,⟨7,[0,1,2,3,5,6],⟨some 25,.ia none 4 (.t 23) (.t 24),some (21,true)⟩,false,[]⟩,⟨8,[0,1,2,3,5,6,7],⟨some 26,.ld true 4 (.t 25),some (21,true)⟩,false,[]⟩,⟨9,[0,1,2,3],⟨some 27,.mv (.t 0),some (21,true)⟩,false,[]⟩,⟨10,[0,1,2,3],⟨some 28,.mv (.t 9),some (21,true)⟩,false,[]⟩,⟨11,[0,1,2,3,10],⟨some 29,.bin .sub (.t 28) (.c (.int .i64 1)),some (21,true)⟩,false,[]⟩,⟨12,[0,1,2,3,9,10,11],⟨some 30,.ia none 4 (.t 27) (.t 29),some (21,true)⟩,false,[]⟩,⟨13,[0,1,2,3,9,10,11,12],⟨some 31,.ld true 4 (.t 30),some (21,true)⟩,false,[]⟩,⟨14,[0,1,2,3,4,5,6,7,8,9,10,11,12,13],⟨some 32,.cv (.t 22) [(.t 26),(.t 31)],some (21,true)⟩,true,[]⟩,⟨15,[0,1,2,3,4,5,6,7,8,9,10,11,12,13,14],⟨some 33,.bin .lss (.t 32) (.c (.int .i64 0)),some (21,true)⟩,false,[]⟩,⟨16,[0,1,2,3,4,5,6,7,8,9,10,11,12,13,14,15],⟨some 34,.pick (.t 21) (.t 33) (.c (.bool false)),none⟩,false,[]⟩]) (.cond (.t 34) (.skip) (.exit 2))) (.seq (.block 3 (.drw [⟨0,[],⟨some 37,.mv (.t 0),none⟩,false,[]⟩,⟨1,[],⟨some 38,.mv (.t 9),none⟩,false,[]⟩,⟨2,[],⟨some 39,.mv (.t 0),none⟩,false,[]⟩,⟨3,[],⟨some 40,.mv (.t 9),none⟩,false,[]⟩,⟨4,[3],⟨some 41,.bin .sub (.t 40) (.c (.int .i64 1)),none⟩,false,[]⟩,⟨5,[],⟨some 42,.mv (.t 0),none⟩,false,[]⟩,⟨6,[],⟨some 43,.mv (.t 9),none⟩,false,[]⟩,⟨7,[6],⟨some 44,.bin .sub (.t 43) (.c (.int .i64 1)),none⟩,false,[]⟩,⟨8,[5,6,7],⟨some 45,.ia none 4 (.t 42) (.t 44),none⟩,false,[]⟩,⟨9,[5,6,7,8],⟨some 46,.ld true 4 (.t 45),none⟩,false,[]⟩,⟨10,[],⟨some 47,.mv (.t 0),none⟩,false,[]⟩,⟨11,[],⟨some 48,.mv (.t 9),none⟩,false,[]⟩,⟨12,[10,11],⟨some 49,.ia none 4 (.t 47) (.t 48),none⟩,false,[]⟩,⟨13,[10,11,12],⟨some 50,.ld true 4 (.t 49),none⟩,false,[]⟩,⟨14,[0,1,5,6,7,8,9,10,11,12,13],⟨some 51,.ia none 4 (.t 37) (.t 38),none⟩,false,[]⟩,⟨15,[0,1,5,6,7,8,9,10,11,12,13,14],⟨none,.st true 4 (.t 51) (.t 46),none⟩,true,[]⟩,⟨16,[0,1,2,3,4,5,6,7,8,9,10,11,12,13,14,15],⟨some 52,.ia none 4 (.t 39) (.t 41),none⟩,false,[]⟩,⟨17,[0,1,2,3,4,5,6,7,8,9,10,11,12,13,14,15,16],⟨none,.st true 4 (.t 52) (.t 50),none⟩,true,[]⟩])) (.reg [⟨some 35,.mv (.t 9),none⟩,⟨some 36,.bin .sub (.t 35) (.c (.int .i64 1)),none⟩,⟨some 9,.mv (.t 36),none⟩]))))))) (.reg [⟨some 15,.mv (.t 8),none⟩,⟨some 16,.bin .add (.t 15) (.c (.int .i64 1)),none⟩,⟨some 8,.mv (.t 16),none⟩]))))),res := [] }
def c333 : VF := { code := .seq (.reg [⟨some 2,.nw 2,none⟩]) (.seq (.reg [⟨some 3,.mv (.t 0),none⟩,⟨some 4,.nc (.t 3),none⟩,⟨some 5,.fa 3 (.t 4),none⟩,⟨some 6,.ld false 1 (.t 5),none⟩,⟨some 7,.call 32 [(.t 6)],none⟩,⟨some 2,.mv (.t 7),none⟩]) (.ret)),res := [(2,none)] }
def c334 : VF := { code := .seq (.reg [⟨some 2,.nw 2,none⟩,⟨some 3,.mv (.c (.int .i64 0)),none⟩]) (.seq (.drw [⟨0,[],⟨some 4,.mv (.t 0),none⟩,false,[]⟩,⟨1,[0],⟨some 5,.nc (.t 4),none⟩,false,[]⟩,⟨2,[0,1],⟨some 6,.fa 0 (.t 5),none⟩,false,[]⟩,⟨3,[0,1,2],⟨some 7,.ld true 3 (.t 6),none⟩,false,[]⟩,⟨4,[],⟨some 8,.mv (.t 0),none⟩,false,[]⟩,⟨5,[4],⟨some 9,.nc (.t 8),none⟩,false,[]⟩,⟨6,[4,5],⟨some 10,.fa 3 (.t 9),none⟩,false,[]⟩,⟨7,[4,5,6],⟨some 11,.ld false 1 (.t 10),none⟩,false,[]⟩,⟨8,[0,1,2,3,4,5,6,7],⟨some 12,.call 337 [(.t 7),(.t 11)],none⟩,false,[]⟩,⟨9,[0,1,2,3,4,5,6,7,8],⟨some 13,.ex (.t 12) 0,none⟩,false,[]⟩,⟨10,[0,1,2,3,4,5,6,7,8],⟨some 14,.ex (.t 12) 1,none⟩,false,[]⟩,⟨11,[0,1,2,3,4,5,6,7,8,9,10],⟨some 2,.mv (.t 13),none⟩,false,[]⟩,⟨12,[0,1,2,3,4,5,6,7,8,9,10,11],⟨some 3,.mv (.t 14),none⟩,false,[]⟩]) (.ret)),res := [(2,none),(3,none)] }
def c335 : VF := { code := .seq (.reg [⟨some 3,.bx (.t 1) [],none⟩,⟨some 4,.mv (.c (.int .i64 0)),none⟩]) (.seq (.drw [⟨0,[],⟨some 6,.mv (.t 0),none⟩,false,[]⟩,⟨1,[],⟨some 7,.mv (.t 0),none⟩,false,[]⟩,⟨2,[1],⟨some 8,.nc (.t 7),none⟩,false,[]⟩,⟨3,[1,2],⟨some 9,.fa 3 (.t 8),none⟩,false,[]⟩,⟨4,[1,2,3],⟨some 10,.ld false 1 (.t 9),none⟩,false,[]⟩,⟨5,[],⟨some 11,.ld true 2 (.t 3),none⟩,false,[]⟩,⟨6,[1,2,3,4,5],⟨some 12,.call 201 [(.t 10),(.t 11)],none⟩,false,[]⟩,⟨7,[1,2,3,4,5,6],⟨some 5,.mv (.t 12),none⟩,false,[]⟩,⟨8,[1,2,3,4,5,6,7],⟨some 13,.ex (.t 5) 0,none⟩,false,[]⟩,⟨9,[1,2,3,4,5,6,7],⟨some 14,.ex (.t 5) 1,none⟩,false,[]⟩,⟨10,[0,1,2,3,4,5,6,7,8],⟨some 15,.nc (.t 6),none⟩,false,[]⟩,⟨11,[0,1,2,3,4,5,6,7,8,10],⟨some 16,.fa 3 (.t 15),none⟩,false,[]⟩,⟨12,[0,1,2,3,4,5,6,7,8,10,11],⟨none,.st false 1 (.t 16) (.t 13),none⟩,true,[]⟩,⟨13,[0,1,2,3,4,5,6,7,8,9,10,11,12],⟨some 4,.mv (.t 14),none⟩,false,[]⟩]) (.seq (.reg [⟨some 17,.mv (.t 4),none⟩,⟨some 4,.mv (.t 17),none⟩]) (.ret))),res := [(4,none)] }
def c337 : VF := { code := .seq (.reg [⟨some 2,.bx (.t 0) [],none⟩,⟨some 3,.bx (.t 1) [],none⟩,⟨some 4,.nw 2,none⟩,⟨some 5,.mv (.c (.int .i64 0)),none⟩]) (.seq (.reg [⟨some 12,.ld true 3 (.t 2),none⟩,⟨some 13,.call 95 [(.t 12)],none⟩,⟨some 5,.mv (.t 13),none⟩]) (.seq (.seq (.reg [⟨some 14,.mv (.t 5),none⟩,⟨some 15,.bin .eql (.t 14) (.c (.int .i64 0)),none⟩]) (.cond (.t 15) (.reg [⟨some 16,.ld false 1 (.t 3),none⟩,⟨some 17,.call 64 [(.t 16)],none⟩,⟨some 5,.mv (.t 17),none⟩]) (.skip))) (.seq (.seq (.reg [⟨some 18,.mv (.t 5),none⟩,⟨some 19,.bin .neq (.t 18) (.c (.int .i64 0)),none⟩]) (.cond (.t 19) (.seq (.reg [⟨some 20,.mv (.t 5),none⟩,⟨some 4,.nw 2,none⟩,⟨some 5,.mv (.t 20),none⟩]) (.ret)) (.skip))) (.seq (.seq (.reg [⟨some 21,.fa 1 (.t 2),none⟩,⟨some 22,.ld false 1 (.t 21),none⟩,⟨some 23,.len false (.t 22),none⟩,⟨some 24,.mv (.c (.int .i64 0)),none⟩]) (.block 0 (.loop [3,4,22,23,24] (.seq (.reg [⟨some 25,.bin .lss (.t 24) (.t 23),none⟩]) (.seq (.cond (.t 25) (.skip) (.exit 0)) (.seq (.block 1 (.seq (.reg [⟨some 26,.mv (.t 24),none⟩,⟨some 27,.ia none 4 (.t 22) (.t 24),none⟩,⟨some 28,.ld true 4 (.t 27),none⟩,⟨some 7,.al [.str [],.int .i64 0,.sl .ex 6 [],.sl .ex 4 []] [],none⟩,⟨some 6,.mv (.t 26),none⟩,⟨none,.st true 4 (.t 7) (.t 28),none⟩]) (.seq (.reg [⟨some 30,.fa 2 (.t 7),none⟩,⟨some 31,.ld false 1 (.t 30),none⟩,⟨some 32,.mf 341 [] [(.t 3)],none⟩,⟨some 33,.call 340 [(.t 31),(.t 32)],none⟩,⟨some 29,.mv (.t 33),none⟩,⟨some 34,.ex (.t 29) 0,none⟩,⟨some 35,.ex (.t 29) 1,none⟩,⟨some 8,.mv (.t 34),none⟩,⟨some 9,.mv (.t 35),none⟩]) (.seq (.seq (.reg [⟨some 36,.mv (.t 9),none⟩,⟨some 37,.bin .neq (.t 36) (.c (.int .i64 0)),none⟩]) (.cond (.t 37) (.seq (.reg [⟨some 38,.mv (.t 9),none⟩,⟨some 4,.nw 2,none⟩,⟨some 5,.mv (.t 38),none⟩]) (.ret)) (.skip))) (.seq (.reg [⟨some 39,.mv (.t 8),none⟩,⟨some 40,.len false (.t 39),none⟩,⟨some 41,.mv (.c (.int .i64 0)),none⟩]) (.block 2 (.loop [3,4,6,22,23,24,39,40,41] (.seq (.reg [⟨some 42,.bin .lss (.t 41) (.t 40),none⟩]) (.seq (.cond (.t 42) (.skip) (.exit 2)) (.seq (.block 3 (.seq (.reg [⟨some 43,.ia none 1 (.t 39) (.t 41),none⟩,⟨some 44,.ld false 1 (.t 43),none⟩,⟨some 11,.mv (.t 44),none⟩]) (.reg [⟨some 45,.mv (.t 4),none⟩,⟨some 46,.mv (.t 6),none⟩,⟨some 47,.mv (.t 11),none⟩,⟨some 48,.bd [.int .i64 0,.sl .ex 2 []] [(0,1,(.t 46)),(1,1,(.t 47))],none⟩,⟨some 49,.bl 2 [(.t 48)],none⟩,⟨some 50,.app 2 (.t 45) (.t 49),none⟩,⟨some 4,.mv (.t 50),none⟩]))) (.reg [⟨some 51,.bin .add (.t 41) (.c (.int .i64 1)),none⟩,⟨some 41,.mv (.t 51),none⟩]))))))))))) (.reg [⟨some 52,.bin .add (.t 24) (.c (.int .i64 1)),none⟩,⟨some 24,.mv (.t 52),none⟩]))))))) (.seq (.reg [⟨some 53,.mv (.t 4),none⟩,⟨some 4,.mv (.t 53),none⟩,⟨some 5,.mv (.c (.int .i64 0)),none⟩]) (.ret)))))),res := [(4,none),(5,none)] }
def c340 : VF := { code := .seq (.reg [⟨some 2,.bx (.t 0) [],none⟩,⟨some 4,.nw 1,none⟩,⟨some 5,.mv (.c (.int .i64 0)),none⟩]) (.seq (.reg [⟨some 6,.al [.sl .ex 1 []] [0],none⟩]) (.seq (.reg [⟨some 8,.ld false 1 (.t 2),none⟩,⟨some 9,.mv (.t 1),none⟩,⟨some 10,.bd [.sl .ex 6 [],.nilf,.nilf,.int .i64 0] [(0,1,(.t 8)),(1,1,(.t 9))],none⟩,⟨some 11,.bx (.t 10) [],none⟩,⟨some 7,.mv (.t 11),none⟩]) (.seq (.reg [⟨some 12,.mv (.t 7),none⟩,⟨some 13,.mf 342 [] [(.t 2),(.t 6)],none⟩,⟨some 14,.nc (.t 12),none⟩,⟨some 15,.fa 2 (.t 14),none⟩,⟨none,.st false 1 (.t 15) (.t 13),none⟩]) (.seq (.reg [⟨some 16,.mv (.t 7),none⟩,⟨some 17,.call 343 [(.t 16),(.c (.int .i64 0)),(.c (.sl .ex 2 [])),(.c (.sl .ex 4 []))],none⟩]) (.seq (.seq (.reg [⟨some 18,.mv (.t 7),none⟩,⟨some 19,.nc (.t 18),none⟩,⟨some 20,.fa 3 (.t 19),none⟩,⟨some 21,.ld false 1 (.t 20),none⟩,⟨some 22,.bin .neq (.t 21) (.c (.int .i64 0)),none⟩]) (.cond (.t 22) (.seq (.drw [⟨0,[],⟨some 23,.mv (.t 7),none⟩,false,[]⟩,⟨1,[0],⟨some 24,.nc (.t 23),none⟩,false,[]⟩,⟨2,[0,1],⟨some 25,.fa 3 (.t 24),none⟩,false,[]⟩,⟨3,[0,1,2],⟨some 26,.ld false 1 (.t 25),none⟩,false,[]⟩,⟨4,[],⟨some 4,.nw 1,none⟩,true,[3]⟩,⟨5,[0,1,2,3,4],⟨some 5,.mv (.t 26),none⟩,false,[]⟩]) (.ret)) (.skip))) (.seq (.reg [⟨some 27,.ld false 1 (.t 6),none⟩,⟨some 4,.mv (.t 27),none⟩,⟨some 5,.mv (.c (.int .i64 0)),none⟩]) (.ret))))))),res := [(4,none),(5,none)] }
def c341 : VF := { code := .seq (.reg [⟨some 3,.nw 2,none⟩]) (.seq (.reg [⟨some 4,.ld false 1 (.t 1),none⟩,⟨some 3,.mv (.t 4),none⟩]) (.ret)),res := [(3,none)] }
def c342 : VF := { code := .seq (.reg [⟨some 6,.mv (.c (.bool false)),none⟩]) (.seq (.seq (.reg [⟨some 7,.mv (.t 0),none⟩,⟨some 8,.ld false 1 (.t 2),none⟩,⟨some 9,.len false (.t 8),none⟩,⟨some 10,.bin .eql (.t 7) (.t 9),none⟩]) (.cond (.t 10) (.drw [⟨0,[],⟨some 11,.ld false 1 (.t 3),none⟩,false,[]⟩,⟨1,[],⟨some 12,.mv (.t 1),none⟩,false,[]⟩,⟨2,[1],⟨some 13,.call 32 [(.t 12)],none⟩,false,[]⟩,⟨3,[1,2],⟨some 14,.bl 1 [(.t 13)],none⟩,false,[]⟩,⟨4,[0,1,2,3],⟨some 15,.app 1 (.t 11) (.t 14),none⟩,true,[]⟩,⟨5,[0,1,2,3,4],⟨none,.st false 1 (.t 3) (.t 15),none⟩,true,[]⟩]) (.skip))) (.seq (.reg [⟨some 6,.mv (.c (.bool true)),none⟩]) (.ret))),res := [(6,none)] }
def c343 : VF := { code := .seq (.reg [⟨some 8,.mv (.c (.bool false)),none⟩]) (.seq (.seq (.reg [⟨some 10,.mv (.t 0),none⟩,⟨some 11,.nc (.t 10),none⟩,⟨some 12,.fa 2 (.t 11),none⟩,⟨some 13,.ld false 1 (.t 12),none⟩,⟨some 14,.mv (.t 1),none⟩,⟨some 15,.mv (.t 2),none⟩,⟨some 16,.cv (.t 13) [(.t 14),(.t 15)],none⟩,⟨some 17,.not (.t 16),none⟩]) (.cond (.t 17) (.seq (.reg [⟨some 8,.mv (.c (.bool false)),none⟩]) (.ret)) (.skip))) (.seq (.seq (.reg [⟨some 18,.mv (.t 1),none⟩,⟨some 19,.mv (.t 0),none⟩,⟨some 20,.nc (.t 19),none⟩,⟨some 21,.fa 0 (.t 20),none⟩,⟨some 22,.ld false 1 (.t 21),none⟩,⟨some 23,.len false (.t 22),none⟩,⟨some 24,.bin .eql (.t 18) (.t 23),none⟩]) (.cond (.t 24) (.seq (.reg [⟨some 8,.mv (.c (.bool true)),none⟩]) (.ret)) (.skip))) (.seq (.reg [⟨some 9,.mv (.c (.bool true)),none⟩]) (.seq (.seq (.reg [⟨some 25,.mv (.t 0),none⟩,⟨some 26,.nc (.t 25),none⟩,⟨some 27,.fa 0 (.t 26),none⟩,⟨some 28,.ld false 1 (.t 27),none⟩,⟨some 29,.mv (.t 1),none⟩,⟨some 30,.ia none 6 (.t 28) (.t 29),none⟩,⟨some 31,.fa 0 (.t 30),none⟩,⟨some 32,.ld false 1 (.t 31),none⟩]) (.block 0 (.seq (.reg [⟨some 49,.bin .eql (.t 32) (.c (.int .i64 1)),none⟩,⟨some 48,.mv (.t 49),none⟩]) (.cond (.t 48) (.seq (.reg [⟨some 50,.mv (.t 0),none⟩,⟨some 51,.mv (.t 1),none⟩,⟨some 52,.mv (.t 2),none⟩,⟨some 53,.mv (.t 3),none⟩,⟨some 54,.call 344 [(.t 50),(.t 51),(.t 52),(.t 53)],none⟩,⟨some 8,.mv (.t 54),none⟩]) (.ret)) (.seq (.reg [⟨some 56,.bin .eql (.t 32) (.c (.int .i64 2)),none⟩,⟨some 55,.mv (.t 56),none⟩]) (.cond (.t 55) (.reg [⟨some 57,.mv (.t 0),none⟩,⟨some 58,.mv (.t 1),none⟩,⟨some 59,.mv (.t 3),none⟩,⟨some 60,.call 345 [(.t 57),(.t 58),(.t 59)],none⟩,⟨some 61,.not (.t 60),none⟩,⟨some 9,.mv (.t 61),none⟩]) (.reg [⟨some 34,.mv (.t 0),none⟩,⟨some 35,.mv (.t 0),none⟩,⟨some 36,.nc (.t 35),none⟩,⟨some 37,.fa 0 (.t 36),none⟩,⟨some 38,.ld false 1 (.t 37),none⟩,⟨some 39,.mv (.t 1),none⟩,⟨some 40,.ia none 6 (.t 38) (.t 39),none⟩,⟨some 41,.ld true 6 (.t 40),none⟩,⟨some 42,.mv (.t 3),none⟩,⟨some 43,.call 346 [(.t 41),(.t 42)],none⟩,⟨some 33,.mv (.t 43),none⟩,⟨some 44,.ex (.t 33) 0,none⟩,⟨some 45,.ex (.t 33) 1,none⟩,⟨some 9,.mv (.t 44),none⟩,⟨some 46,.nc (.t 34),none⟩,⟨some 47,.fa 3 (.t 46),none⟩,⟨none,.st false 1 (.t 47) (.t 45),none⟩]))))))) (.seq (.seq (.reg [⟨some 62,.mv (.t 0),none⟩,⟨some 63,.nc (.t 62),none⟩,⟨some 64,.fa 3 (.t 63),none⟩,⟨some 65,.ld false 1 (.t 64),none⟩,⟨some 66,.bin .neq (.t 65) (.c (.int .i64 0)),none⟩]) (.cond (.t 66) (.seq (.reg [⟨some 8,.mv (.c (.bool false)),none⟩]) (.ret)) (.skip))) (.seq (.reg [⟨some 67,.mv (.t 9),none⟩,⟨some 68,.not (.t 67),none⟩,⟨some 69,.mv (.t 68),none⟩,⟨some 70,.mv (.t 0),some (69,false)⟩,⟨some 71,.mv (.t 1),some (69,false)⟩,⟨some 72,.bin .add (.t 71) (.c (.int .i64 1)),some (69,false)⟩,⟨some 73,.mv (.t 2),some (69,false)⟩,⟨some 74,.mv (.t 3),some (69,false)⟩,⟨some 75,.call 343 [(.t 70),(.t 72),(.t 73),(.t 74)],some (69,false)⟩,⟨some 76,.pick (.t 69) (.c (.bool true)) (.t 75),none⟩,⟨some 8,.mv (.t 76),none⟩]) (.ret))))))),res := [(8,none)] }
def c344 : VF := { code := .seq (.reg [⟨some 8,.mv (.c (.bool false)),none⟩]) (.seq (.seq (.reg [⟨some 13,.mv (.t 0),none⟩,⟨some 14,.nc (.t 13),none⟩,⟨some 15,.fa 1 (.t 14),none⟩,⟨some 16,.ld false 1 (.t 15),none⟩,⟨some 17,.mv (.t 1),none⟩,⟨some 18,.cv (.t 16) [(.t 17)],none⟩,⟨some 19,.len false (.t 18),none⟩,⟨some 20,.mv (.c (.int .i64 0)),none⟩]) (.block 0 (.loop [0,1,2,3,18,19,20] (.seq (.reg [⟨some 21,.bin .lss (.t 20) (.t 19),none⟩]) (.seq (.cond (.t 21) (.skip) (.exit 0)) (.seq (.block 1 (.seq (.reg [⟨some 22,.ia none 2 (.t 18) (.t 20),none⟩,⟨some 23,.ld true 2 (.t 22),none⟩,⟨some 10,.al [.str [],.sl .ex 3 []] [],none⟩,⟨none,.st true 2 (.t 10) (.t 23),none⟩]) (.seq (.drw [⟨0,[],⟨some 25,.mv (.t 0),none⟩,false,[]⟩,⟨1,[0],⟨some 26,.nc (.t 25),none⟩,false,[]⟩,⟨2,[0,1],⟨some 27,.fa 0 (.t 26),none⟩,false,[]⟩,⟨3,[0,1,2],⟨some 28,.ld false 1 (.t 27),none⟩,false,[]⟩,⟨4,[],⟨some 29,.mv (.t 1),none⟩,false,[]⟩,⟨5,[0,1,2,3,4],⟨some 30,.ia none 6 (.t 28) (.t 29),none⟩,false,[]⟩,⟨6,[0,1,2,3,4,5],⟨some 31,.fa 1 (.t 30),none⟩,false,[]⟩,⟨7,[0,1,2,3,4,5,6],⟨some 32,.ld true 2 (.t 31),none⟩,false,[]⟩,⟨8,[],⟨some 33,.ld true 2 (.t 10),none⟩,false,[]⟩,⟨9,[],⟨some 34,.mv (.t 3),none⟩,false,[]⟩,⟨10,[0,1,2,3,4,5,6,7,8,9],⟨some 35,.call 262 [(.t 32),(.t 33),(.t 34)],none⟩,false,[]⟩,⟨11,[0,1,2,3,4,5,6,7,8,9,10],⟨some 24,.mv (.t 35),none⟩,false,[]⟩,⟨12,[0,1,2,3,4,5,6,7,8,9,10,11],⟨some 36,.ex (.t 24) 0,none⟩,false,[]⟩,⟨13,[0,1,2,3,4,5,6,7,8,9,10,11],⟨some 37,.ex (.t 24) 1,none⟩,false,[]⟩,⟨14,[0,1,2,3,4,5,6,7,8,9,10,11,12],⟨some 11,.mv (.t 36),none⟩,false,[]⟩,⟨15,[0,1,2,3,4,5,6,7,8,9,10,11,12,13,14],⟨some 12,.mv (.t 37),none⟩,false,[]⟩]) (.seq (.drw [⟨0,[],⟨some 38,.mv (.t 12),none⟩,false,[]⟩,⟨1,[0],⟨some 39,.mv (.t 38),none⟩,false,[]⟩,⟨2,[0,1],⟨some 40,.mv (.t 0),some (39,true)⟩,false,[]⟩,⟨3,[0,1],⟨some 41,.mv (.t 1),some (39,true)⟩,false,[]⟩,⟨4,[0,1,3],⟨some 42,.bin .add (.t 41) (.c (.int .i64 1)),some (39,true)⟩,false,[]⟩,⟨5,[0,1],⟨some 43,.mv (.t 2),some (39,true)⟩,false,[]⟩,⟨7,[0,1],⟨some 45,.ld true 2 (.t 10),some (39,true)⟩,false,[]⟩,⟨8,[0,1,7],⟨some 46,.bl 2 [(.t 45)],some (39,true)⟩,false,[]⟩,⟨10,[0,1],⟨some 48,.mv (.t 11),some (39,true)⟩,false,[]⟩,⟨6,[0,1,5],⟨some 44,.call 347 [(.t 43)],some (39,true)⟩,true,[7]⟩,⟨9,[0,1,5,6,7,8],⟨some 47,.app 2 (.t 44) (.t 46),some (39,true)⟩,true,[]⟩,⟨11,[0,1,2,3,4,5,6,7,8,9,10],⟨some 49,.call 343 [(.t 40),(.t 42),(.t 47),(.t 48)],some (39,true)⟩,true,[]⟩,⟨12,[0,1,2,3,4,5,6,7,8,9,10,11],⟨some 50,.not (.t 49),some (39,true)⟩,false,[]⟩,⟨13,[0,1,2,3,4,5,6,7,8,9,10,11,12],⟨some 51,.pick (.t 39) (.t 50) (.c (.bool false)),none⟩,false,[]⟩]) (.cond (.t 51) (.seq (.reg [⟨some 8,.mv (.c (.bool false)),none⟩]) (.ret)) (.skip)))))) (.reg [⟨some 52,.bin .add (.t 20) (.c (.int .i64 1)),none⟩,⟨some 20,.mv (.t 52),none⟩]))))))) (.seq (.reg [⟨some 8,.mv (.c (.bool true)),none⟩]) (.ret))),res := [(8,none)] }
def c346 : VF := { code := .seq (.reg [⟨some 2,.bx (.t 0) [],none⟩,⟨some 4,.mv (.c (.bool false)),none⟩,⟨some 5,.mv (.c (.int .i64 0)),none⟩]) (.seq (.reg [⟨some 9,.ld true 6 (.t 2),none⟩,⟨some 10,.call 125 [(.t 9)],none⟩,⟨some 6,.mv (.t 10),none⟩]) (.seq (.seq (.reg [⟨some 11,.mv (.t 6),none⟩,⟨some 12,.bin .neq (.t 11) (.c (.int .i64 0)),none⟩]) (.cond (.t 12) (.seq (.reg [⟨some 13,.mv (.t 6),none⟩,⟨some 4,.mv (.c (.bool false)),none⟩,⟨some 5,.mv (.t 13),none⟩]) (.ret)) (.skip))) (.seq (.reg [⟨some 15,.fa 4 (.t 2),none⟩,⟨some 16,.ld false 1 (.t 15),none⟩,⟨some 17,.mv (.t 1),none⟩,⟨some 18,.call 239 [(.t 16),(.t 17)],none⟩,⟨some 14,.mv (.t 18),none⟩,⟨some 19,.ex (.t 14) 0,none⟩,⟨some 20,.ex (.t 14) 1,none⟩,⟨some 7,.al [.int .i64 0,.int .i64 0,.str []] [],none⟩,⟨none,.st true 3 (.t 7) (.t 19),none⟩,⟨some 6,.mv (.t 20),none⟩]) (.seq (.seq (.reg [⟨some 21,.mv (.t 6),none⟩,⟨some 22,.bin .neq (.t 21) (.c (.int .i64 0)),none⟩]) (.cond (.t 22) (.seq (.reg [⟨some 23,.mv (.t 6),none⟩,⟨some 4,.mv (.c (.bool false)),none⟩,⟨some 5,.mv (.t 23),none⟩]) (.ret)) (.skip))) (.seq (.reg [⟨some 25,.fa 5 (.t 2),none⟩,⟨some 26,.ld false 1 (.t 25),none⟩,⟨some 27,.mv (.t 1),none⟩,⟨some 28,.call 239 [(.t 26),(.t 27)],none⟩,⟨some 24,.mv (.t 28),none⟩,⟨some 29,.ex (.t 24) 0,none⟩,⟨some 30,.ex (.t 24) 1,none⟩,⟨some 8,.al [.int .i64 0,.int .i64 0,.str []] [],none⟩,⟨none,.st true 3 (.t 8) (.t 29),none⟩,⟨some 6,.mv (.t 30),none⟩]) (.seq (.seq (.reg [⟨some 31,.mv (.t 6),none⟩,⟨some 32,.bin .neq (.t 31) (.c (.int .i64 0)),none⟩]) (.cond (.t 32) (.seq (.reg [⟨some 33,.mv (.t 6),none⟩,⟨some 4,.mv (.c (.bool false)),none⟩,⟨some 5,.mv (.t 33),none⟩]) (.ret)) (.skip))) (.seq (.reg [⟨some 34,.fa 3 (.t 2),none⟩,⟨some 35,.ld false 1 (.t 34),none⟩,⟨some 36,.ld true 3 (.t 7),none⟩,⟨some 37,.ld true 3 (.t 8),none⟩,⟨some 38,.call 349 [(.t 35),(.t 36),(.t 37)],none⟩,⟨some 39,.ex (.t 38) 0,none⟩,⟨some 40,.ex (.t 38) 1,none⟩,⟨some 4,.mv (.t 39),none⟩,⟨some 5,.mv (.t 40),none⟩]) (.ret)))))))),res := [(4,none),(5,none)] }
def c347 : VF := { code := .seq (.reg [⟨some 2,.nw 2,none⟩]) (.seq (.reg [⟨some 3,.mv (.t 0),none⟩,⟨some 4,.mv (.t 0),none⟩,⟨some 5,.len false (.t 4),none⟩,⟨some 6,.mv (.t 0),none⟩,⟨some 7,.len false (.t 6),none⟩,⟨some 8,.cut false 2 (.t 3) none (some (.t 5)) (some (.t 7)),none⟩,⟨some 2,.mv (.t 8),none⟩]) (.ret)),res := [(2,none)],keepR := true }
def c349 : VF := { code := .seq (.reg [⟨some 4,.bx (.t 1) [],none⟩,⟨some 5,.bx (.t 2) [],none⟩,⟨some 6,.mv (.c (.bool false)),none⟩,⟨some 7,.mv (.c (.int .i64 0)),none⟩]) (.seq (.block 0 (.seq (.reg [⟨some 10,.mv (.t 0),none⟩,⟨some 11,.call 172 [(.t 10)],none⟩,⟨some 12,.not (.t 11),none⟩,⟨some 13,.mv (.t 12),none⟩,⟨some 14,.ld true 3 (.t 4),some (13,false)⟩,⟨some 15,.call 103 [(.t 14)],some (13,false)⟩,⟨some 16,.bin .neq (.t 15) (.c (.int .i64 0)),some (13,false)⟩,⟨some 17,.pick (.t 13) (.c (.bool true)) (.t 16),none⟩,⟨some 18,.mv (.t 17),none⟩,⟨some 19,.ld true 3 (.t 5),some (18,false)⟩,⟨some 20,.call 103 [(.t 19)],some (18,false)⟩,⟨some 21,.bin .neq (.t 20) (.c (.int .i64 0)),some (18,false)⟩,⟨some 22,.pick (.t 18) (.c (.bool true)) (.t 21),none⟩,⟨some 9,.mv (.t 22),none⟩]) (.cond (.t 9) (.seq (.reg [⟨some 6,.mv (.c (.bool false)),none⟩,⟨some 7,.mv (.c (.int .i64 1)),none⟩]) (.ret)) (.seq (.reg [⟨some 24,.mv (.t 0),none⟩,⟨some 25,.bin .eql (.t 24) (.c (.int .i64 3)),none⟩,⟨some 26,.mv (.t 25),none⟩,⟨some 27,.mv (.t 0),some (26,false)⟩,⟨some 28,.bin .eql (.t 27) (.c (.int .i64 4)),some (26,false)⟩,⟨some 29,.pick (.t 26) (.c (.bool true)) (.t 28),none⟩,⟨some 30,.mv (.t 29),none⟩,⟨some 31,.fa 0 (.t 4),some (30,true)⟩,⟨some 32,.ld false 1 (.t 31),some (30,true)⟩,⟨some 33,.fa 0 (.t 5),some (30,true)⟩,⟨some 34,.ld false 1 (.t 33),some (30,true)⟩,⟨some 35,.bin .neq (.t 32) (.t 34),some (30,true)⟩,⟨some 36,.pick (.t 30) (.t 35) (.c (.bool false)),none⟩,⟨some 23,.mv (.t 36),none⟩]) (.cond (.t 23) (.seq (.reg [⟨some 6,.mv (.c (.bool false)),none⟩,⟨some 7,.mv (.c (.int .i64 3)),none⟩]) (.ret)) (.skip)))))) (.seq (.reg [⟨some 37,.ld true 3 (.t 4),none⟩,⟨some 38,.ld true 3 (.t 5),none⟩,⟨some 39,.call 146 [(.t 37),(.t 38)],none⟩,⟨some 8,.mv (.t 39),none⟩]) (.seq (.seq (.reg [⟨some 40,.mv (.t 0),none⟩]) (.block 1 (.seq (.reg [⟨some 42,.bin .eql (.t 40) (.c (.int .i64 1)),none⟩,⟨some 41,.mv (.t 42),none⟩]) (.cond (.t 41) (.seq (.reg [⟨some 43,.mv (.t 8),none⟩,⟨some 44,.bin .eql (.t 43) (.c (.int .i64 0)),none⟩,⟨some 6,.mv (.t 44),none⟩,⟨some 7,.mv (.c (.int .i64 0)),none⟩]) (.ret)) (.seq (.reg [⟨some 46,.bin .eql (.t 40) (.c (.int .i64 2)),none⟩,⟨some 45,.mv (.t 46),none⟩]) (.cond (.t 45) (.seq (.reg [⟨some 47,.mv (.t 8),none⟩,⟨some 48,.bin .neq (.t 47) (.c (.int .i64 0)),none⟩,⟨some 6,.mv (.t 48),none⟩,⟨some 7,.mv (.c (.int .i64 0)),none⟩]) (.ret)) (.seq (.reg [⟨some 50,.bin .eql (.t 40) (.c (.int .i64 3)),none⟩,⟨some 49,.mv (.t 50),none⟩]) (.cond (.t 49) (.seq (.reg [⟨some 51,.mv (.t 8),none⟩,⟨some 52,.bin .lss (.t 51) (.c (.int .i64 0)),none⟩,⟨some 6,.mv (.t 52),none⟩,⟨some 7,.mv (.c (.int .i64 0)),none⟩]) (.ret)) (.skip))))))))) (.seq (.reg [⟨some 53,.mv (.t 8),none⟩,⟨some 54,.bin .leq (.t 53) (.c (.int .i64 0)),none⟩,⟨some 6,.mv (.t 54),none⟩,⟨some 7,.mv (.c (.int .i64 0)),none⟩]) (.ret))))),res := [(6,none),(7,none)] }
end Go.Vm

/-
  The machine V: a function's end; slices.Clone, whose test for nil V cannot answer.
-/
namespace Go.Vm
open Go Go.RowKit

section
variable {P : Program} {G : Gh} {KW : World → Prop} {B : Bd KW} {n : Nat} {w : World}

theorem body_end {fn : Func} {F : VF} {G' : Gh} {s0 s1 : St} {a' : Act} {w' : World} {v : V} {sg' : List Fr} {wd : Nat} (htr : trRes P fn.results.toList F.res = true) (sa : SA n G' B s1 a' w') (mo : Mo G B s0 w G' s1 w')
    (hl : leave F s1 = some (v, sg', wd)) {e : Exit} (he : e = .normal ∨ e = .ret) :
    bodyPost P fn (fun | .returned cv, w' => ∃ G', RetR G B s0.sg sg' v w G' cv w' | _, _ => False) e a' w' := by
  have hl' := hl
  unfold leave at hl'
  obtain ⟨vs, hvs, _⟩ := bind_some' hl'
  obtain ⟨cv, hcv, hRR⟩ := results_ok (fn := fn) sa.sr htr hvs
  obtain ⟨G2, ret⟩ := leave_ok sa.sr hvs hRR hl
  have hfin : a'.defers = [] ∧ ∃ v', (results fn a'.tmps).run P w' = .ok v' w' ∧ ∃ G', RetR G B s0.sg sg' v w G' v' w' := by
    refine ⟨sa.df, cv, hcv, G2, ret.wr, mo.im.trans ret.im, ?_, ?_, ?_, mo.be.trans ret.be⟩
    · have h1 := mo.up
      have h2 := ret.up
      rw [mo.ln] at h2
      exact h1.trans h2
    · exact ret.ln.trans mo.ln
    · have h2 := ret.v
      rw [mo.ln] at h2
      exact h2
  rcases he with rfl | rfl
  · exact hfin
  · exact hfin

theorem run_eqsl {d : Nat} {t e : TypeId} (ht : P.underlying t = some (.slice e)) (b : Option Addr) (x c : Nat) : (Op.equalIn (d + 1) t (.slice b x c) (.slice none 0 0)).run P w = .ok b.isNone w := by
  cases b <;> simp [Op.equalIn, run_underlying ht]
theorem eqg_sl {op : BinOp} {t : TypeId} {x y : Operand} {b : Option Addr} {n c : Nat} : (eqGuard op t x y (.slice b n c) (.slice none 0 0)).run P w = .ok () w := by
  unfold eqGuard; split <;> rfl
theorem run_eqs_nil {t e : TypeId} (ht : P.underlying t = some (.slice e)) (b : Option Addr) (x c : Nat) : (binOp .eql t (.slice b x c) (.slice none 0 0)).run P w = .ok (.bool b.isNone) w :=
  run_eql_other (P := P) (w := w) (n := false) (.inl ⟨rfl, rfl⟩) ⟨fun _ _ h => (by cases h), fun _ _ h => (by cases h), fun _ _ _ h => (by cases h), fun _ h => (by cases h)⟩ (run_eqsl (P := P) (w := w) (d := 9999) ht b x c)

theorem upd_if (e : Nat → V) (t : Nat) (v : V) (u : Nat) : upd e t v u = if u = t then v else e u := by
  unfold upd
  by_cases h : u = t
  · subst h; simp
  · rw [if_neg h]
    have : Nat.beq u t = false := by
      cases hb : Nat.beq u t with
      | false => rfl
      | true => exact absurd (Nat.eq_of_beq_eq_true hb) h
    rw [this]; rfl
theorem ble0 (n : Nat) : Nat.ble 0 n = true := Nat.ble_eq_true_of_le (Nat.zero_le n)
theorem beq_self (n : Nat) : Nat.beq n n = true := Nat.beq_refl n

/-- the two codes of slices.Clone: behind the test, yes and no; m: what it makes may be written -/
def cloneT (z : Nat) (m : Bool) : VC := .seq (.reg [⟨some 2, bif m then .nm z else .mv (.c (.sl .ex z [])), none⟩]) .ret
def cloneF (z : Nat) (m : Bool) : VC := .seq (.reg [⟨some 5, bif m then .bm z [] else .bl z [], none⟩, ⟨some 6, .mv (.t 0), none⟩, ⟨some 7, bif m then .am z (.t 5) (.t 6) else .app z (.t 5) (.t 6), none⟩, ⟨some 2, .mv (.t 7), none⟩]) .ret
def cloneVF (m : Bool) : VF := { code := .bad, res := [(2, none)], keepR := m }

/-- the code of slices.Clone, as it is -/
structure CloneFn (P : Program) (z : Nat) (m : Bool) (fn : Func) : Prop where
  nm : (fn.name == "runtime.NumGoroutine") = false
  ex : ∃ (i0 i1 : Nat) (ops0 : Array Oper) (o3 o4 : Oper) (c1 c2 : Code) (t t' e : TypeId),
    fn.body = some (.seq (.region i0 ops0 false) (.seq (.seq (.region i1 #[o3, o4] false) (.cond (.tmp 4) c1 .skip)) c2)) ∧
    trReg fn.ntmps P ops0 0 [⟨some 2, .mv (.c (.sl .ex z [])), none⟩] = true ∧
    trStep fn.ntmps P #[o3, o4] o3 ⟨some 3, .mv (.t 0), none⟩ = true ∧
    o4.op = .binOp .eql t (.tmp 3) (.const (.slice none 0 0)) t' ∧ o4.dst = some 4 ∧ o4.guard = none ∧ 4 < fn.ntmps ∧ P.underlying t = some (.slice e) ∧
    trC fn.ntmps P (cloneT z m) c1 = true ∧ trC fn.ntmps P (cloneF z m) c2 = true
  rs : trRes P fn.results.toList [(2, none)] = true

/-- what slices.Clone answers -/
def cloneR (z : Nat) (es : List V) (sg : List Fr) : Bool → Option (V × List Fr × Nat)
  | false => some (.sl .no z es, sg, 0)
  | true => match sg with
    | f :: r => some (.bs 0 f.length es.length 0 es.length, (f ++ [.arr es.length z es]) :: r, 1)
    | [] => none
/-- an element that may be copied -/
def cloneX (L : FuncId → Option (Nat × Bool)) : Call := fun f as sg =>
  match L f, as with
  | some (z, m), [.sl _ z' es] => bif Nat.beq z z' && (Nat.ble es.length lim && (!m || es.all cel)) then cloneR z es sg m else none
  | _, _ => none

theorem cloneX_q (L : FuncId → Option (Nat × Bool)) : CallQ (cloneX L) := by
  intro f as sg v sg' wd h
  unfold cloneX at h
  split at h
  · have h1 := bif_same h
    rename_i m _ _ _ _
    cases m with
    | false =>
      simp only [cloneR, Option.some.injEq, Prod.mk.injEq] at h1
      obtain ⟨_, rfl, _⟩ := h1
      exact ⟨rfl, fun _ _ => rfl⟩
    | true =>
      cases sg with
      | nil => cases h1
      | cons fr r =>
        simp only [cloneR, Option.some.injEq, Prod.mk.injEq] at h1
        obtain ⟨_, rfl, rfl⟩ := h1
        refine ⟨rfl, fun d hd => ?_⟩
        obtain ⟨k, rfl⟩ : ∃ k, d = k + 1 := ⟨d - 1, by omega⟩
        rfl
  · cases h

def noCall : Call := fun _ _ _ => none
theorem noCall_ok : CallOk KW P noCall := fun _ _ _ _ _ _ h => by cases h
theorem noCall_q : CallQ noCall := fun _ _ _ _ _ _ h => by cases h

theorem cloneT_run {z : Nat} {m : Bool} {C : Cfg} {call : Call} {s : St} (hfr : s.fr = []) (hwd : s.wd = 0) {R : V × List Fr × Nat} (hR : cloneR z [] s.sg m = some R) :
    ∃ S, execF C call 1 (cloneT z m) s = some (.ret, S) ∧ leave (cloneVF m) S = some R := by
  obtain ⟨tm, fr, sg, wd⟩ := s
  simp only at hfr hwd hR
  subst hfr; subst hwd
  cases m with
  | false =>
    cases hR
    exact ⟨_, rfl, rfl⟩
  | true =>
    cases sg with
    | nil => cases hR
    | cons f r =>
      cases hR
      exact ⟨_, rfl, rfl⟩

theorem cloneF_run {tk : Tok} {z : Nat} {m : Bool} {es : List V} {C : Cfg} {call : Call} {s : St} (h0 : s.tm 0 = .sl tk z es) (hfr : s.fr = []) (hwd : s.wd = 0) (hl : es.length ≤ lim) (hc : m = true → es.all cel = true) {R : V × List Fr × Nat} (hR : cloneR z es s.sg m = some R) :
    ∃ S, execF C call 1 (cloneF z m) s = some (.ret, S) ∧ leave (cloneVF m) S = some R := by
  obtain ⟨tm, fr, sg, wd⟩ := s
  simp only at h0 hfr hwd hR
  subst hfr; subst hwd
  cases m with
  | false =>
    cases hR
    cases es with
    | nil =>
      refine ⟨{ tm := upd (upd (upd (upd tm 5 (.sl .ex z [])) 6 (.sl tk z [])) 7 (.sl .ex z [])) 2 (.sl .ex z []), fr := [], sg, wd := 0 }, ?_, rfl⟩
      simp [cloneF, execF, runL, stepV, want, opV, Vm.put, rd, upd_if, beq_self, ble0, h0, els, appV, elV, lim]
    | cons e es =>
      have hl' : Nat.ble (es.length + 1) lim = true := Nat.ble_eq_true_of_le (by simpa using hl)
      refine ⟨{ tm := upd (upd (upd (upd tm 5 (.sl .ex z [])) 6 (.sl tk z (e :: es))) 7 (.sl (.at 0 0 (es.length + 1)) z (e :: es))) 2 (.sl (.at 0 0 (es.length + 1)) z (e :: es)), fr := [.tok (es.length + 1)], sg, wd := 0 }, ?_, rfl⟩
      simp [cloneF, execF, runL, stepV, want, opV, Vm.put, rd, upd_if, beq_self, ble0, h0, els, appV, elV, hl']
  | true =>
    cases sg with
    | nil => cases hR
    | cons f r =>
      cases hR
      have hc' := hc rfl
      cases es with
      | nil =>
        refine ⟨{ tm := upd (upd (upd (upd tm 5 (.bs 0 0 0 0 0)) 6 (.sl tk z [])) 7 (.bs 0 0 0 0 0)) 2 (.bs 0 0 0 0 0), fr := [.arr 0 z []], sg := f :: r, wd := 0 }, ?_, rfl⟩
        simp [cloneF, execF, runL, stepV, want, opV, Vm.put, rd, upd_if, beq_self, ble0, h0, els, amV, elV, lim, St.get, getB]
      | cons e es =>
        have hl' : Nat.ble (es.length + 1) lim = true := Nat.ble_eq_true_of_le (by simpa using hl)
        have hc1 : cel e = true := by simp at hc'; exact hc'.1
        have hc2 : es.all cel = true := by simp at hc'; simpa using hc'.2
        refine ⟨{ tm := upd (upd (upd (upd tm 5 (.bs 0 0 0 0 0)) 6 (.sl tk z (e :: es))) 7 (.bs 0 0 (es.length + 1) 0 (es.length + 1))) 2 (.bs 0 0 (es.length + 1) 0 (es.length + 1)), fr := [.arr (es.length + 1) z (e :: es)], sg := f :: r, wd := 0 }, ?_, rfl⟩
        simp [cloneF, execF, runL, stepV, want, opV, Vm.put, rd, upd_if, beq_self, ble0, h0, els, amV, elV, hl', St.get, getB, St.set, hc1, hc2]

theorem cloneX_ok {L : FuncId → Option (Nat × Bool)} (hm : P.follows .mixedOrders = true) (hL : ∀ f z m, L f = some (z, m) → ∃ fn, P.funcs[f]? = some fn ∧ CloneFn P z m fn) : CallOk KW P (cloneX L) := by
  intro f as sg v sg' wd h G B w A hwr hA hR
  unfold cloneX at h
  split at h
  case h_2 => cases h
  rename_i z m tk z' es hf
  obtain ⟨hb, h1⟩ := bif_opt' h
  simp only [Bool.and_eq_true] at hb
  have hz := Nat.eq_of_beq_eq_true hb.1
  have hlim := Nat.le_of_ble_eq_true hb.2.1
  have hcel : m = true → es.all cel = true := fun e => by have := hb.2.2; rw [e] at this; simpa using this
  subst hz
  obtain ⟨fn, hfn, hnm, ⟨i0, i1, ops0, o3, o4, c1, c2, t, t', e, hbody, hr0, ht3, h4, h4d, h4g, h4n, ht, hc1, hc2⟩, hrs⟩ := hL f z m hf
  have hrun : (callFunc f A).run P w = .ok (.enter f A) w := by
    simp [callFunc, hfn, hbody]
    intro h
    rw [h] at hnm
    simp at hnm
  let C0 : Cfg := { keepA := fun _ => false }
  let s0 : St := { tm := env [.sl tk z es], fr := [], sg := sg, wd := 0 }
  have hsa : SA fn.ntmps G B s0 { tmps := A ++ Array.replicate (fn.ntmps - A.size) undef, defers := [] } w := by
    refine ⟨⟨hwr, fun t => ?_⟩, by simp; omega, rfl⟩
    show VR _ _ sg.length (env [.sl tk z es] t) _
    rw [env_get]
    cases ht : ([.sl tk z es] : List V)[t]? with
    | none => exact .und _
    | some x =>
      have hlt : t < A.size := by rw [hA]; exact (List.getElem?_eq_some_iff.1 ht).1
      have hy : (A ++ Array.replicate (fn.ntmps - A.size) undef).getD t undef = A[t] := by
        simp [Array.getElem?_append_left hlt, hlt]
      rw [hy]
      exact hR t x A[t] ht (by simp [hlt])
  refine .inl ⟨hrun, calls_of_wp hfn hbody ?_⟩
  refine wp_seq (wp_region ?_)
  rw [List.range_eq_range']
  refine reg_ok (C := C0) noCall_ok _ 0 G s0 _ w hr0 hsa rfl fun a1 w1 G1 sa1 mo1 => ?_
  refine wp_seq (wp_seq (wp_region ?_))
  show wpOps P #[o3, o4] _ [0, 1] a1 w1
  rw [Go.wpOps_cons]
  refine step_ok (C := C0) noCall_ok ht3 sa1 (by rfl) rfl fun a2 w2 G2 sa2 mo2 => ?_
  rw [Go.wpOps_cons]
  have mo12 := mo1.trans mo2
  -- what the test says
  have hx : VR G2.im G2.ph sg.length (.sl tk z es) (a2.tmps.getD 3 undef) := by
    have h3 := sa2.sr.tr 3
    exact h3
  obtain ⟨ad, cap, g, hcv, _, hcap, ha, _⟩ := hx.sl_inv.sl_inv
  have h4run : (execOp a2.eval o4).run P w2 = .ok (.value (.bool ad.isNone)) w2 := by
    have e1 : a2.eval (.tmp 3) = .slice ad es.length cap := hcv
    have e2 : a2.eval (.const (.slice none 0 0)) = .slice none 0 0 := rfl
    simp only [execOp, h4, e1, e2, Sem.run_bind, eqg_sl, Result.andThen_ok, run_eqs_nil ht, Sem.run_pure]
  refine wpOp_do (o := o4) (by rfl) (by simp [Region.wanted, h4g]) ?_
  unfold Oper.wp
  rw [h4run, Oper.upon_value]
  simp only [wpOps]
  -- the state behind the test
  let s3 : St := Vm.put s0 (some 0) (.sl tk z es)
  have sa3 : ∀ s2 : St, SA fn.ntmps G2 B s2 a2 w2 → SA fn.ntmps G2 B (Vm.put s2 (some 4) (.bool ad.isNone)) (a2.put o4.dst (.bool ad.isNone)) w2 := fun s2 sa => by
    rw [h4d]
    exact ⟨sa.sr.put (.quiet sa.sr.wr (.pr _ _ (.bool _))) (fun t e => by cases e; exact Nat.lt_of_lt_of_le h4n sa.sz), by rw [Act.put_size]; exact sa.sz, by rw [Act.put_defers]; exact sa.df⟩
  have sa4 := sa3 _ sa2
  have heval : (a2.put o4.dst (.bool ad.isNone)).eval (.tmp 4) = .bool ad.isNone := by
    have h0 := sa4.sr.tr 4
    exact h0.bool_inv
  refine wp_cond_split heval (fun hn => ?_) (fun hn => ?_)
  · have h0 : es = [] := by
      cases ad with
      | none => exact List.eq_nil_of_length_eq_zero (by have := ha rfl; omega)
      | some _ => cases hn
    subst h0
    obtain ⟨S, hS, hlv⟩ := cloneT_run (C := C0) (call := noCall) (z := z) (m := m) (s := Vm.put (Vm.put (Vm.put s0 (some 2) (.sl .ex z [])) (some 3) (.sl tk z [])) (some 4) (.bool ad.isNone)) rfl rfl h1
    refine code_ok (C := C0) noCall_ok noCall_q hm 1 (cloneT z m) c1 G2 _ _ _ _ .ret _ hc1 sa4 hS fun a5 w5 G5 sa5 mo5 => ?_
    have moA : Mo G B s0 w G5 _ w5 := mo12.trans ⟨mo5.im, mo5.up, mo5.ln, mo5.be⟩
    exact body_end (F := cloneVF m) hrs sa5 moA hlv (.inr rfl)
  · obtain ⟨S, hS, hlv⟩ := cloneF_run (C := C0) (call := noCall) (z := z) (m := m) (es := es) (tk := tk) (s := Vm.put (Vm.put (Vm.put s0 (some 2) (.sl .ex z [])) (some 3) (.sl tk z es)) (some 4) (.bool ad.isNone)) rfl rfl rfl hlim hcel h1
    refine wp_skip ?_
    show Code.wp P c2 (bodyPost P fn _) _ _
    refine code_ok (C := C0) noCall_ok noCall_q hm 1 (cloneF z m) c2 G2 _ _ _ _ .ret _ hc2 sa4 hS fun a5 w5 G5 sa5 mo5 => ?_
    have moA : Mo G B s0 w G5 _ w5 := mo12.trans ⟨mo5.im, mo5.up, mo5.ln, mo5.be⟩
    exact body_end (F := cloneVF m) hrs sa5 moA hlv (.inr rfl)

end
end Go.Vm

/-
  The machine V: more fuel changes no answer; what is there in the end.
-/
namespace Go.Vm
open Go

/-- what the one answers the other answers too -/
def CallLe (c c' : Call) : Prop := ∀ f as sg r, c f as sg = some r → c' f as sg = some r
theorem CallLe.refl (c : Call) : CallLe c c := fun _ _ _ _ h => h
theorem CallLe.trans {a b c : Call} (h : CallLe a b) (k : CallLe b c) : CallLe a c := fun f as sg r e => k f as sg r (h f as sg r e)

/-- it asks calls, finitely often: more answers change nothing, and what a limit gives a stage gives -/
def Good {α : Type} (A : Nat → Call) (W : Call) (F : Call → Option α) : Prop :=
  (∀ c c', CallLe c c' → ∀ r, F c = some r → F c' = some r) ∧ (∀ r, F W = some r → ∃ m, F (A m) = some r)
def GoodB (A : Nat → Call) (W : Call) (F : Call → Bool) : Prop :=
  (∀ c c', CallLe c c' → F c = true → F c' = true) ∧ (F W = true → ∃ m, F (A m) = true)

section
variable {A : Nat → Call} {W : Call} {α β : Type}

theorem good_const (x : Option α) : Good A W (fun _ => x) := ⟨fun _ _ _ _ h => h, fun _ h => ⟨0, h⟩⟩

theorem good_bind (hA : ∀ m n, m ≤ n → CallLe (A m) (A n)) {F : Call → Option α} {K : α → Call → Option β} (hF : Good A W F) (hK : ∀ a, Good A W (K a)) :
    Good A W (fun c => (F c).bind fun a => K a c) := by
  refine ⟨fun c c' hc r h => ?_, fun r h => ?_⟩
  · obtain ⟨a, h1, h2⟩ := Option.bind_eq_some_iff.1 h
    exact Option.bind_eq_some_iff.2 ⟨a, hF.1 c c' hc a h1, (hK a).1 c c' hc r h2⟩
  · obtain ⟨a, h1, h2⟩ := Option.bind_eq_some_iff.1 h
    obtain ⟨m, h3⟩ := hF.2 a h1
    obtain ⟨n, h4⟩ := (hK a).2 r h2
    refine ⟨max m n, Option.bind_eq_some_iff.2 ⟨a, hF.1 _ _ (hA _ _ (Nat.le_max_left _ _)) a h3, (hK a).1 _ _ (hA _ _ (Nat.le_max_right _ _)) r h4⟩⟩

theorem good_map {F : Call → Option α} {g : α → β} (hF : Good A W F) : Good A W (fun c => (F c).map g) := by
  refine ⟨fun c c' hc r h => ?_, fun r h => ?_⟩
  · obtain ⟨a, h1, h2⟩ := Option.map_eq_some_iff.1 h
    exact Option.map_eq_some_iff.2 ⟨a, hF.1 c c' hc a h1, h2⟩
  · obtain ⟨a, h1, h2⟩ := Option.map_eq_some_iff.1 h
    obtain ⟨m, h3⟩ := hF.2 a h1
    exact ⟨m, Option.map_eq_some_iff.2 ⟨a, h3, h2⟩⟩

theorem good_guard (hA : ∀ m n, m ≤ n → CallLe (A m) (A n)) {F : Call → Bool} {K : Call → Option α} (hF : GoodB A W F) (hK : Good A W K) :
    Good A W (fun c => bif F c then K c else none) := by
  refine ⟨fun c c' hc r h => ?_, fun r h => ?_⟩
  · cases hb : F c with
    | false => simp [hb] at h
    | true => simp only [hb, cond_true] at h; simp only [hF.1 c c' hc hb, cond_true]; exact hK.1 c c' hc r h
  · cases hb : F W with
    | false => simp [hb] at h
    | true =>
      simp only [hb, cond_true] at h
      obtain ⟨m, h3⟩ := hF.2 hb
      obtain ⟨n, h4⟩ := hK.2 r h
      exact ⟨max m n, by simp only [hF.1 _ _ (hA _ _ (Nat.le_max_left _ _)) h3, cond_true]; exact hK.1 _ _ (hA _ _ (Nat.le_max_right _ _)) r h4⟩

theorem GoodB.congr {F G : Call → Bool} (h : GoodB A W F) (e : ∀ c, G c = F c) : GoodB A W G := by
  have : G = F := funext e
  rw [this]; exact h
theorem goodB_const (b : Bool) : GoodB A W (fun _ => b) := ⟨fun _ _ _ h => h, fun h => ⟨0, h⟩⟩
theorem goodB_and (hA : ∀ m n, m ≤ n → CallLe (A m) (A n)) {F K : Call → Bool} (hF : GoodB A W F) (hK : GoodB A W K) : GoodB A W (fun c => F c && K c) := by
  refine ⟨fun c c' hc h => ?_, fun h => ?_⟩
  · simp only [Bool.and_eq_true] at h ⊢
    exact ⟨hF.1 c c' hc h.1, hK.1 c c' hc h.2⟩
  · simp only [Bool.and_eq_true] at h
    obtain ⟨m, h3⟩ := hF.2 h.1
    obtain ⟨n, h4⟩ := hK.2 h.2
    exact ⟨max m n, by simp only [hF.1 _ _ (hA _ _ (Nat.le_max_left _ _)) h3, hK.1 _ _ (hA _ _ (Nat.le_max_right _ _)) h4, Bool.and_self]⟩
theorem goodB_all (hA : ∀ m n, m ≤ n → CallLe (A m) (A n)) {γ : Type} {F : γ → Call → Bool} (hF : ∀ x, GoodB A W (F x)) : ∀ l : List γ, GoodB A W (fun c => l.all fun x => F x c)
  | [] => goodB_const true
  | x :: l => goodB_and hA (hF x) (goodB_all hA hF l)
/-- an answer that is asked for a test -/
theorem goodB_test {F : Call → Option α} {g : α → Bool} (hF : Good A W F) : GoodB A W (fun c => match F c with | some a => g a | none => false) := by
  refine ⟨fun c c' hc h => ?_, fun h => ?_⟩
  · cases hb : F c with
    | none => simp [hb] at h
    | some a => simp only [hb] at h; simp only [hF.1 c c' hc a hb, h]
  · cases hb : F W with
    | none => simp [hb] at h
    | some a =>
      simp only [hb] at h
      obtain ⟨m, h3⟩ := hF.2 a hb
      exact ⟨m, by simp only [h3, h]⟩

/-- the chain's limit -/
def Limit (A : Nat → Call) (W : Call) : Prop := (∀ m n, m ≤ n → CallLe (A m) (A n)) ∧ ∀ f as sg r, W f as sg = some r → ∃ m, A m f as sg = some r

theorem good_call (hL : Limit A W) (f : FuncId) (as : List V) (sg : List Fr) : Good A W (fun c => c f as sg) :=
  ⟨fun _ _ hc r h => hc _ _ _ _ h, fun r h => hL.2 _ _ _ _ h⟩

variable {C : Cfg}
theorem good_doCall (hL : Limit A W) (f : FuncId) (as : List V) (s : St) : Good A W (fun c => doCall C c f as s) := by
  have h := good_bind (K := fun (r : V × List Fr × Nat) (_ : Call) => (match r with | (v, fr :: sg, wd) => some (v, { s with fr, sg, wd := max s.wd (wd - 1) }) | _ => none : Option (V × St))) hL.1 (good_call hL f (as.map (argV (C.keepA f))) (s.fr :: s.sg)) (fun a => good_const _)
  have e : (fun c : Call => doCall C c f as s) = fun c => (c f (as.map (argV (C.keepA f))) (s.fr :: s.sg)).bind fun r => (match r with | (v, fr :: sg, wd) => some (v, { s with fr, sg, wd := max s.wd (wd - 1) }) | _ => none : Option (V × St)) := by
    funext c
    unfold doCall
    cases c f (as.map (argV (C.keepA f))) (s.fr :: s.sg) with
    | none => rfl
    | some x => obtain ⟨v, _ | ⟨fr, sg⟩, wd⟩ := x <;> rfl
  rw [e]; exact h

theorem good_opV (hL : Limit A W) (o : VO) (s : St) : Good A W (fun c => opV C c o s) := by
  cases o with
  | call f as => exact good_doCall hL f _ s
  | cv f as =>
    show Good A W (fun c => doFn C c (rd s.tm f) (as.map (rd s.tm)) s)
    unfold doFn
    cases rd s.tm f <;> first | exact good_const none | exact good_doCall hL _ _ s
  | inv x m as =>
    show Good A W (fun c => match rd s.tm x with
      | .iface t v => (methF t m).bind fun f => doCall C c f (v :: as.map (rd s.tm)) s
      | _ => none)
    cases rd s.tm x <;> first | exact good_const none | skip
    exact good_bind hL.1 (good_const _) fun f => good_doCall hL f _ s
  | ia n sz x i => cases n <;> exact good_const _
  | _ => exact good_const _

theorem good_stepV (hL : Limit A W) (o : VOp) (s : St) : Good A W (fun c => stepV C c o s) := by
  unfold stepV
  cases want s o.g with
  | none => exact good_const _
  | some b => cases b with
    | false => exact good_const _
    | true => exact good_map (good_opV hL o.o s)

theorem good_runL (hL : Limit A W) : ∀ (os : List VOp) (s : St), Good A W (fun c => runL C c os s)
  | [], s => good_const _
  | o :: os, s => good_bind hL.1 (good_stepV hL o s) fun s1 => good_runL hL os s1

theorem good_callP (hL : Limit A W) (f : FuncId) (as : List V) (s : St) : Good A W (fun c => callP C c f as s) := by
  have h := good_bind (K := fun (r : V × List Fr × Nat) (_ : Call) => bif Nat.beq r.2.2 0 then some r.1 else none) hL.1 (good_call hL f (as.map (argV (C.keepA f))) (s.fr :: s.sg)) (fun a => good_const _)
  have e : (fun c : Call => callP C c f as s) = fun c => (c f (as.map (argV (C.keepA f))) (s.fr :: s.sg)).bind fun r => bif Nat.beq r.2.2 0 then some r.1 else none := by
    funext c
    unfold callP
    cases c f (as.map (argV (C.keepA f))) (s.fr :: s.sg) <;> rfl
  rw [e]; exact h
theorem good_opP (hL : Limit A W) (o : VO) (s : St) : Good A W (fun c => opP C c o s) := by
  have key : Good A W (fun c => bif pureO o then (opV C c o s).map (·.1) else none) := by
    cases pureO o with
    | false => exact good_const none
    | true => exact good_map (good_opV hL o s)
  cases o with
  | call f as => exact good_callP hL f _ s
  | cv f as =>
    show Good A W (fun c => fnP C c (rd s.tm f) (as.map (rd s.tm)) s)
    unfold fnP
    cases rd s.tm f <;> first | exact good_const none | exact good_callP hL _ _ s
  | _ => exact key
theorem good_stepP (hL : Limit A W) (o : VOp) (s : St) : Good A W (fun c => stepP C c o s) := by
  unfold stepP
  cases want s o.g with
  | none => exact good_const _
  | some b => cases b with
    | false => exact good_const _
    | true => exact good_map (good_opP hL o.o s)
theorem good_again (hL : Limit A W) (s : St) (o : VOp) : GoodB A W (fun c => again C c s o) := by
  unfold again
  cases want s o.g with
  | none => exact goodB_const _
  | some b => cases b with
    | false => exact goodB_const _
    | true =>
      cases o.d with
      | none => exact (goodB_const false).congr fun c => by cases opP C c o.o s <;> rfl
      | some t => exact (goodB_test (g := fun v => veq v (s.tm t)) (good_opP hL o.o s)).congr fun c => by cases opP C c o.o s <;> rfl
theorem good_againAt (hL : Limit A W) (all : List DOp) (s : St) (i : Nat) : GoodB A W (fun c => againAt C c all s i) := by
  unfold againAt
  cases opAt all i with
  | none => exact goodB_const _
  | some o => exact good_again hL s o
theorem good_drwV (hL : Limit A W) (all : List DOp) : ∀ (l : List DOp) (s : St), Good A W (fun c => drwV C c all l s)
  | [], s => good_const _
  | x :: l, s => by
    unfold drwV
    cases x.main with
    | true => exact good_bind hL.1 (good_stepV hL x.op s) fun s1 => good_guard hL.1 (goodB_all hL.1 (fun i => good_againAt hL all s1 i) x.re) (good_drwV hL all l s1)
    | false => exact good_bind hL.1 (good_stepP hL x.op s) fun s1 => good_drwV hL all l s1

theorem good_iter (hL : Limit A W) {body : Call → St → Option (Ex × St)} (hb : ∀ s, Good A W (fun c => body c s)) (n : Nat) (live : List Nat) : ∀ (k : Nat) (l : LS), Good A W (fun c => iter (body c) n live k l)
  | 0, l => good_const _
  | k + 1, l => by
    have h := good_bind (K := fun (r : Ex × St) (c : Call) => match r with | (.normal, s) => iter (body c) n live k (LS.next n live s) | r => some r) hL.1 (hb (l.st live)) (fun a => by
      obtain ⟨x, s⟩ := a
      cases x with
      | normal => exact good_iter hL hb n live k _
      | _ => exact good_const _)
    have e : (fun c : Call => iter (body c) n live (k + 1) l) = fun c => (body c (l.st live)).bind fun r => match r with | (.normal, s) => iter (body c) n live k (LS.next n live s) | r => some r := by
      funext c
      show (match body c (l.st live) with | some (.normal, s) => _ | r => r) = _
      cases body c (l.st live) with
      | none => rfl
      | some r => obtain ⟨x, s⟩ := r; cases x <;> rfl
    rw [e]; exact h

/-- behind a block -/
def outB (id : Nat) (r : Ex × St) : Ex × St := match r with
  | (.exit j, s) => bif Nat.beq j id then (.normal, s) else (.exit j, s)
  | r => r
theorem good_execF (hL : Limit A W) (fuel : Nat) : ∀ (p : VC) (s : St), Good A W (fun c => execF C c fuel p s)
  | .skip, s => good_const _
  | .reg ops, s => good_map (good_runL hL ops s)
  | .drw ops, s => good_map (good_drwV hL ops ops s)
  | .seq a b, s => by
    have h := good_bind (K := fun (r : Ex × St) (c : Call) => match r with | (.normal, s) => execF C c fuel b s | r => some r) hL.1 (good_execF hL fuel a s) (fun r => by
      obtain ⟨x, s⟩ := r
      cases x with
      | normal => exact good_execF hL fuel b _
      | _ => exact good_const _)
    have e : (fun c : Call => execF C c fuel (.seq a b) s) = fun c => (execF C c fuel a s).bind fun r => match r with | (.normal, s) => execF C c fuel b s | r => some r := by
      funext c
      show (match execF C c fuel a s with | some (.normal, s) => _ | r => r) = _
      cases execF C c fuel a s with
      | none => rfl
      | some r => obtain ⟨x, s⟩ := r; cases x <;> rfl
    rw [e]; exact h
  | .cond o t e, s => by
    show Good A W (fun c => match rd s.tm o with | .bool b => bif b then execF C c fuel t s else execF C c fuel e s | _ => none)
    cases rd s.tm o <;> first | exact good_const none | skip
    rename_i b
    cases b
    · exact good_execF hL fuel e s
    · exact good_execF hL fuel t s
  | .block id b, s => by
    have h := good_map (g := outB id) (good_execF hL fuel b s)
    have e : (fun c : Call => execF C c fuel (.block id b) s) = fun c => (execF C c fuel b s).map (outB id) := by
      funext c
      simp only [execF]
      cases execF C c fuel b s with
      | none => rfl
      | some r =>
        obtain ⟨x, s⟩ := r
        cases x with
        | exit j =>
          show _ = some (bif Nat.beq j id then _ else _)
          simp only
          cases Nat.beq j id <;> rfl
        | _ => rfl
    rw [e]; exact h
  | .loop live b, s => good_iter hL (fun s => good_execF hL fuel b s) _ _ _ _
  | .exit id, s => good_const _
  | .ret, s => good_const _
  | .bad, s => good_const _

-- ---------------------------------------------------------------- a loop's fuel

theorem iter_le {body body' : St → Option (Ex × St)} (hb : ∀ s r, body s = some r → body' s = some r) {n : Nat} {live : List Nat} : ∀ (k k' : Nat) (l : LS) (r : Ex × St), k ≤ k' → iter body n live k l = some r → iter body' n live k' l = some r
  | 0, _, _, _, _, h => by cases h
  | k + 1, 0, _, _, hk, _ => by omega
  | k + 1, k' + 1, l, r, hk, h => by
    simp only [iter] at h ⊢
    cases hx : body (l.st live) with
    | none => rw [hx] at h; cases h
    | some x =>
      rw [hx] at h; rw [hb _ _ hx]
      obtain ⟨x, s⟩ := x
      cases x with
      | normal => exact iter_le hb k k' _ r (by omega) h
      | _ => exact h

theorem execF_fuel {call : Call} {m n : Nat} (hmn : m ≤ n) : ∀ (p : VC) (s : St) (r : Ex × St), execF C call m p s = some r → execF C call n p s = some r
  | .skip, s, r, h => h
  | .reg ops, s, r, h => h
  | .drw ops, s, r, h => h
  | .seq a b, s, r, h => by
    simp only [execF] at h ⊢
    cases hx : execF C call m a s with
    | none => rw [hx] at h; cases h
    | some x =>
      rw [hx] at h; rw [execF_fuel hmn a s x hx]
      obtain ⟨x, s⟩ := x
      cases x with
      | normal => exact execF_fuel hmn b _ r h
      | _ => exact h
  | .cond o t e, s, r, h => by
    simp only [execF] at h ⊢
    cases hx : rd s.tm o with
    | bool b =>
      rw [hx] at h
      cases b
      · exact execF_fuel hmn e s r h
      · exact execF_fuel hmn t s r h
    | _ => rw [hx] at h; cases h
  | .block id b, s, r, h => by
    simp only [execF] at h ⊢
    cases hx : execF C call m b s with
    | none => rw [hx] at h; cases h
    | some x => rw [hx] at h; rw [execF_fuel hmn b s x hx]; exact h
  | .loop live b, s, r, h => iter_le (fun s r h => execF_fuel hmn b s r h) _ _ _ _ hmn h
  | .exit id, s, r, h => h
  | .ret, s, r, h => h
  | .bad, s, r, h => by cases h

end
end Go.Vm

/-
  The machine V: what a function answers, whatever the fuel; and how a code is gone through.
-/
namespace Go.Vm
open Go

/-- a table of functions, and of routines without a body -/
structure Tab where
  C : Cfg
  funs : FuncId → Option VF
  prim : Call

def Tab.at (T : Tab) (n : Nat) : Call := callF T.C T.funs T.prim n

open Classical in
/-- what a function answers -/
noncomputable def Tab.call (T : Tab) : Call := fun f as sg => if h : ∃ r n, T.at n f as sg = some r then some h.choose else none

section
variable {T : Tab}

theorem callF_succ {C : Cfg} {funs : FuncId → Option VF} {prim : Call} (n : Nat) (f : FuncId) (as : List V) (sg : List Fr) : callF C funs prim (n + 1) f as sg =
    match funs f with
    | some F => match execF C (callF C funs prim n) n F.code { tm := env as, fr := [], sg, wd := 0 } with
      | some (.normal, s) | some (.ret, s) => leave F s
      | _ => none
    | none => prim f as sg := rfl

theorem at_succ : ∀ n, CallLe (T.at n) (T.at (n + 1))
  | 0 => fun f as sg r h => by cases h
  | n + 1 => fun f as sg r h => by
    have ih := at_succ n
    unfold Tab.at at h ⊢
    rw [callF_succ] at h ⊢
    cases hF : T.funs f with
    | none => rw [hF] at h; exact h
    | some F =>
      rw [hF] at h
      have key : ∀ x, execF T.C (callF T.C T.funs T.prim n) n F.code { tm := env as, fr := [], sg, wd := 0 } = some x → execF T.C (callF T.C T.funs T.prim (n + 1)) (n + 1) F.code { tm := env as, fr := [], sg, wd := 0 } = some x := by
        intro x hx
        have g := good_execF (C := T.C) (A := fun _ => T.at n) (W := T.at n) ⟨fun _ _ _ => .refl _, fun f as sg r h => ⟨0, h⟩⟩ n F.code { tm := env as, fr := [], sg, wd := 0 }
        exact execF_fuel (Nat.le_succ n) _ _ _ (g.1 _ _ ih _ hx)
      simp only at h ⊢
      cases hx : execF T.C (callF T.C T.funs T.prim n) n F.code { tm := env as, fr := [], sg, wd := 0 } with
      | none => rw [hx] at h; cases h
      | some x => rw [hx] at h; rw [key _ hx]; exact h

theorem at_mono : ∀ m n, m ≤ n → CallLe (T.at m) (T.at n) := by
  intro m n h
  induction n with
  | zero => rw [Nat.le_zero.1 h]; exact .refl _
  | succ n ih =>
    rcases Nat.lt_or_ge n m with h1 | h1
    · have : m = n + 1 := by omega
      rw [this]; exact .refl _
    · exact (ih h1).trans (at_succ n)

theorem call_iff {f : FuncId} {as : List V} {sg : List Fr} {r : V × List Fr × Nat} : T.call f as sg = some r ↔ ∃ n, T.at n f as sg = some r := by
  unfold Tab.call
  constructor
  · intro h
    split at h
    · rename_i hh
      simp only [Option.some.injEq] at h
      obtain ⟨n, hn⟩ := hh.choose_spec
      exact ⟨n, by rw [hn, h]⟩
    · cases h
  · rintro ⟨n, hn⟩
    have hh : ∃ r n, T.at n f as sg = some r := ⟨r, n, hn⟩
    rw [dif_pos hh]
    obtain ⟨m, hm⟩ := hh.choose_spec
    have h1 := at_mono n (max m n) (Nat.le_max_right _ _) _ _ _ _ hn
    have h2 := at_mono m (max m n) (Nat.le_max_left _ _) _ _ _ _ hm
    rw [h1] at h2
    exact h2.symm ▸ rfl

theorem limit : Limit T.at T.call := ⟨at_mono, fun _ _ _ _ h => call_iff.1 h⟩

/-- a run that is found gives the answer -/
theorem call_of_at {n : Nat} {f : FuncId} {as : List V} {sg : List Fr} {r : V × List Fr × Nat} (h : callF T.C T.funs T.prim n f as sg = some r) : T.call f as sg = some r := call_iff.2 ⟨n, h⟩

-- ---------------------------------------------------------------- going through a code

/-- the code ends, so that Q -/
def Wp (T : Tab) (c : VC) (s : St) (Q : Ex → St → Prop) : Prop := ∃ n x s', execF T.C T.call n c s = some (x, s') ∧ Q x s'

def WpI (T : Tab) (b : VC) (n : Nat) (live : List Nat) (l : LS) (Q : Ex → St → Prop) : Prop := ∃ k x s', iter (execF T.C T.call k b) n live k l = some (x, s') ∧ Q x s'

variable {Q : Ex → St → Prop} {s : St}

/-- behind the first of two -/
def Then (T : Tab) (b : VC) (Q : Ex → St → Prop) : Ex → St → Prop := fun x s => match x with
  | .normal => Wp T b s Q
  | x => Q x s
def Behind (id : Nat) (Q : Ex → St → Prop) : Ex → St → Prop := fun x s => match x with
  | .exit j => bif Nat.beq j id then Q .normal s else Q (.exit j) s
  | x => Q x s
def Round (T : Tab) (b : VC) (n : Nat) (live : List Nat) (Q : Ex → St → Prop) : Ex → St → Prop := fun x s => match x with
  | .normal => WpI T b n live (LS.next n live s) Q
  | x => Q x s

theorem Wp_skip : Wp T .skip s Q ↔ Q .normal s :=
  ⟨fun ⟨_, _, _, h, q⟩ => by cases h; exact q, fun q => ⟨0, _, _, rfl, q⟩⟩
theorem Wp_exit {id : Nat} : Wp T (.exit id) s Q ↔ Q (.exit id) s :=
  ⟨fun ⟨_, _, _, h, q⟩ => by cases h; exact q, fun q => ⟨0, _, _, rfl, q⟩⟩
theorem Wp_ret : Wp T .ret s Q ↔ Q .ret s :=
  ⟨fun ⟨_, _, _, h, q⟩ => by cases h; exact q, fun q => ⟨0, _, _, rfl, q⟩⟩

theorem Wp_seq {a b : VC} : Wp T (.seq a b) s Q ↔ Wp T a s (Then T b Q) := by
  constructor
  · rintro ⟨n, x, s', h, q⟩
    simp only [execF] at h
    cases hx : execF T.C T.call n a s with
    | none => rw [hx] at h; cases h
    | some y =>
      rw [hx] at h
      obtain ⟨y, s1⟩ := y
      cases y with
      | normal => exact ⟨n, _, _, hx, n, x, s', h, q⟩
      | exit j => cases h; exact ⟨n, _, _, hx, q⟩
      | ret => cases h; exact ⟨n, _, _, hx, q⟩
  · rintro ⟨n, x, s1, h, q⟩
    cases x with
    | normal =>
      obtain ⟨m, x, s', h2, q⟩ := q
      exact ⟨max n m, x, s', by simp only [execF, execF_fuel (Nat.le_max_left n m) _ _ _ h, execF_fuel (Nat.le_max_right n m) _ _ _ h2], q⟩
    | exit j => exact ⟨n, _, _, by simp only [execF, h], q⟩
    | ret => exact ⟨n, _, _, by simp only [execF, h], q⟩

theorem Wp_reg {ops : List VOp} : Wp T (.reg ops) s Q ↔ ∃ s', runL T.C T.call ops s = some s' ∧ Q .normal s' := by
  constructor
  · rintro ⟨n, x, s', h, q⟩
    simp only [execF, Option.map_eq_some_iff, Prod.mk.injEq] at h
    obtain ⟨s1, h1, rfl, rfl⟩ := h
    exact ⟨s1, h1, q⟩
  · rintro ⟨s', h, q⟩
    exact ⟨0, _, _, by simp only [execF, h, Option.map_some], q⟩
theorem Wp_drw {ops : List DOp} : Wp T (.drw ops) s Q ↔ ∃ s', drwV T.C T.call ops ops s = some s' ∧ Q .normal s' := by
  constructor
  · rintro ⟨n, x, s', h, q⟩
    simp only [execF, Option.map_eq_some_iff, Prod.mk.injEq] at h
    obtain ⟨s1, h1, rfl, rfl⟩ := h
    exact ⟨s1, h1, q⟩
  · rintro ⟨s', h, q⟩
    exact ⟨0, _, _, by simp only [execF, h, Option.map_some], q⟩

theorem Wp_cond {c : O} {t e : VC} {b : Bool} (h : rd s.tm c = .bool b) : Wp T (.cond c t e) s Q ↔ bif b then Wp T t s Q else Wp T e s Q := by
  unfold Wp
  simp only [execF, h]
  cases b <;> rfl

theorem Wp_block {id : Nat} {b : VC} : Wp T (.block id b) s Q ↔ Wp T b s (Behind id Q) := by
  constructor
  · rintro ⟨n, x, s', h, q⟩
    simp only [execF] at h
    cases hx : execF T.C T.call n b s with
    | none => rw [hx] at h; cases h
    | some y =>
      rw [hx] at h
      obtain ⟨y, s1⟩ := y
      refine ⟨n, y, s1, hx, ?_⟩
      cases y with
      | normal => cases h; exact q
      | exit j =>
        simp only [Behind]
        cases hb : Nat.beq j id <;> simp only [hb, cond_true, cond_false, Option.some.injEq, Prod.mk.injEq] at h <;> obtain ⟨rfl, rfl⟩ := h <;> exact q
      | ret => cases h; exact q
  · rintro ⟨n, x, s1, h, q⟩
    cases x with
    | normal => exact ⟨n, _, _, by simp only [execF, h], q⟩
    | ret => exact ⟨n, _, _, by simp only [execF, h], q⟩
    | exit j =>
      simp only [Behind] at q
      cases hb : Nat.beq j id <;> simp only [hb, cond_true, cond_false] at q
      · exact ⟨n, _, _, by simp only [execF, h, hb, cond_false], q⟩
      · exact ⟨n, _, _, by simp only [execF, h, hb, cond_true], q⟩

theorem Wp_loop {live : List Nat} {b : VC} : Wp T (.loop live b) s Q ↔ WpI T b s.fr.length live { vals := live.map s.tm, fr := s.fr, sg := s.sg, wd := s.wd } Q := Iff.rfl

theorem WpI_iff {b : VC} {n : Nat} {live : List Nat} {l : LS} : WpI T b n live l Q ↔ Wp T b (l.st live) (Round T b n live Q) := by
  constructor
  · rintro ⟨k, x, s', h, q⟩
    cases k with
    | zero => cases h
    | succ k =>
      simp only [iter] at h
      cases hx : execF T.C T.call (k + 1) b (l.st live) with
      | none => rw [hx] at h; cases h
      | some y =>
        rw [hx] at h
        obtain ⟨y, s1⟩ := y
        refine ⟨k + 1, y, s1, hx, ?_⟩
        cases y with
        | normal => exact ⟨k + 1, x, s', iter_le (fun _ _ h => h) _ _ _ _ (Nat.le_succ k) h, q⟩
        | exit j => cases h; exact q
        | ret => cases h; exact q
  · rintro ⟨n1, x, s1, h, q⟩
    cases x with
    | normal =>
      obtain ⟨k, x, s', h2, q⟩ := q
      refine ⟨max n1 k + 1, x, s', ?_, q⟩
      simp only [iter, execF_fuel (Nat.le_trans (Nat.le_max_left n1 k) (Nat.le_succ _)) _ _ _ h]
      exact iter_le (fun _ _ h => execF_fuel (Nat.le_trans (Nat.le_max_right n1 k) (Nat.le_succ _)) _ _ _ h) _ _ _ _ (Nat.le_max_right n1 k) h2
    | exit j => exact ⟨n1 + 1, _, _, by simp only [iter, execF_fuel (Nat.le_succ n1) _ _ _ h], q⟩
    | ret => exact ⟨n1 + 1, _, _, by simp only [iter, execF_fuel (Nat.le_succ n1) _ _ _ h], q⟩

theorem Wp.imp {c : VC} {Q' : Ex → St → Prop} (h : Wp T c s Q) (k : ∀ x s', Q x s' → Q' x s') : Wp T c s Q' := by
  obtain ⟨n, x, s', h1, h2⟩ := h
  exact ⟨n, x, s', h1, k _ _ h2⟩

/-- a function's end -/
def Out (F : VF) (R : V × List Fr × Nat) : Ex → St → Prop := fun x s => match x with
  | .exit _ => False
  | _ => leave F s = some R

theorem call_fun {f : FuncId} {F : VF} (hF : T.funs f = some F) {as : List V} {sg : List Fr} {R : V × List Fr × Nat} (h : Wp T F.code { tm := env as, fr := [], sg, wd := 0 } (Out F R)) : T.call f as sg = some R := by
  obtain ⟨n, x, s', h1, h2⟩ := h
  obtain ⟨m, h3⟩ := (good_execF (C := T.C) limit n F.code { tm := env as, fr := [], sg, wd := 0 }).2 _ h1
  refine call_iff.2 ⟨max m n + 1, ?_⟩
  have h4 : execF T.C (callF T.C T.funs T.prim (max m n)) (max m n) F.code { tm := env as, fr := [], sg, wd := 0 } = some (x, s') :=
    execF_fuel (Nat.le_max_right m n) _ _ _ ((good_execF (C := T.C) (A := T.at) (W := T.call) limit n F.code { tm := env as, fr := [], sg, wd := 0 }).1 _ _ (at_mono _ _ (Nat.le_max_left m n)) _ h3)
  unfold Tab.at
  simp only [callF, hF, h4]
  cases x with
  | exit j => exact h2.elim
  | normal => exact h2
  | ret => exact h2
theorem call_prim {f : FuncId} (hF : T.funs f = none) {as : List V} {sg : List Fr} {R : V × List Fr × Nat} (h : T.prim f as sg = some R) : T.call f as sg = some R :=
  call_iff.2 ⟨1, by unfold Tab.at; simp only [callF, hF]; exact h⟩

end
end Go.Vm

/-
  The machine V: going through a code, step by step.
-/
namespace Go.Vm
open Go

section
variable {T : Tab} {Q : Ex → St → Prop} {s : St}

theorem reg_nil : Wp T (.reg []) s Q ↔ Q .normal s := by
  rw [Wp_reg]; simp [runL]
theorem reg_cons {o : VOp} {os : List VOp} : Wp T (.reg (o :: os)) s Q ↔ ∃ s1, stepV T.C T.call o s = some s1 ∧ Wp T (.reg os) s1 Q := by
  simp only [Wp_reg, runL, Option.bind_eq_some_iff]
  constructor
  · rintro ⟨s', ⟨s1, h1, h2⟩, q⟩; exact ⟨s1, h1, s', h2, q⟩
  · rintro ⟨s1, h1, s', h2, q⟩; exact ⟨s', ⟨s1, h1, h2⟩, q⟩

/-- an operation without a guard -/
theorem reg_step {d : Option Nat} {o : VO} {os : List VOp} {v : V} {s1 : St} (h : opV T.C T.call o s = some (v, s1)) (k : Wp T (.reg os) (put s1 d v) Q) : Wp T (.reg (⟨d, o, none⟩ :: os)) s Q :=
  reg_cons.2 ⟨_, by simp only [stepV, want, h, Option.map_some], k⟩
theorem reg_step_iff {d : Option Nat} {o : VO} {os : List VOp} : Wp T (.reg (⟨d, o, none⟩ :: os)) s Q ↔ ∃ v s1, opV T.C T.call o s = some (v, s1) ∧ Wp T (.reg os) (put s1 d v) Q := by
  rw [reg_cons]
  simp only [stepV, want, Option.map_eq_some_iff]
  constructor
  · rintro ⟨s1, ⟨⟨v, s2⟩, h, rfl⟩, q⟩; exact ⟨v, s2, h, q⟩
  · rintro ⟨v, s2, h, q⟩; exact ⟨_, ⟨(v, s2), h, rfl⟩, q⟩
/-- one with a guard -/
theorem reg_guard {d : Option Nat} {o : VO} {t : Nat} {b c : Bool} {os : List VOp} (h : s.tm t = .bool c) :
    Wp T (.reg (⟨d, o, some (t, b)⟩ :: os)) s Q ↔ bif c == b then Wp T (.reg (⟨d, o, none⟩ :: os)) s Q else Wp T (.reg os) (put s d (.tup [])) Q := by
  rw [reg_cons, reg_cons]
  simp only [stepV, want, h]
  cases hb : (c == b) <;> simp
theorem reg_guard_off {d : Option Nat} {o : VO} {t : Nat} {b : Bool} {os : List VOp} (h : s.tm t = .tup []) :
    Wp T (.reg (⟨d, o, some (t, b)⟩ :: os)) s Q ↔ Wp T (.reg os) (put s d (.tup [])) Q := by
  rw [reg_cons]
  simp only [stepV, want, h]
  simp

/-- a region whose order is open -/
def WpD (T : Tab) (all l : List DOp) (s : St) (Q : Ex → St → Prop) : Prop := ∃ s', drwV T.C T.call all l s = some s' ∧ Q .normal s'
theorem drw_all {ops : List DOp} : Wp T (.drw ops) s Q ↔ WpD T ops ops s Q := Wp_drw
theorem drw_nil {all : List DOp} : WpD T all [] s Q ↔ Q .normal s := by
  simp [WpD, drwV]
theorem drw_main {all l : List DOp} {i : Nat} {bf re : List Nat} {o : VOp} : WpD T all (⟨i, bf, o, true, re⟩ :: l) s Q ↔ ∃ s1, stepV T.C T.call o s = some s1 ∧ re.all (againAt T.C T.call all s1) = true ∧ WpD T all l s1 Q := by
  simp only [WpD, drwV, cond_true, Option.bind_eq_some_iff]
  constructor
  · rintro ⟨s', ⟨s1, h1, h2⟩, q⟩
    cases hb : re.all (againAt T.C T.call all s1) with
    | false => rw [hb] at h2; cases h2
    | true => rw [hb] at h2; exact ⟨s1, h1, hb, s', h2, q⟩
  · rintro ⟨s1, h1, hb, s', h2, q⟩; exact ⟨s', ⟨s1, h1, by rw [hb]; exact h2⟩, q⟩
theorem drw_pure {all l : List DOp} {i : Nat} {bf re : List Nat} {o : VOp} : WpD T all (⟨i, bf, o, false, re⟩ :: l) s Q ↔ ∃ s1, stepP T.C T.call o s = some s1 ∧ WpD T all l s1 Q := by
  simp only [WpD, drwV, cond_false, Option.bind_eq_some_iff]
  constructor
  · rintro ⟨s', ⟨s1, h1, h2⟩, q⟩; exact ⟨s1, h1, s', h2, q⟩
  · rintro ⟨s1, h1, s', h2, q⟩; exact ⟨s', ⟨s1, h1, h2⟩, q⟩

/-- an end that is reckoned -/
def endR (F : VF) : Option (Ex × St) → Option (V × List Fr × Nat)
  | some (.normal, s) => leave F s
  | some (.ret, s) => leave F s
  | _ => none
theorem Wp_run {call : Call} (hc : CallLe call T.call) {n : Nat} {c : VC} {F : VF} {R : V × List Fr × Nat} (h : endR F (execF T.C call n c s) = some R) : Wp T c s (Out F R) := by
  cases hx : execF T.C call n c s with
  | none => rw [hx] at h; cases h
  | some y =>
    rw [hx] at h
    obtain ⟨x, s'⟩ := y
    have g := good_execF (C := T.C) (A := fun _ => call) (W := call) ⟨fun _ _ _ => .refl _, fun f as sg r h => ⟨0, h⟩⟩ n c s
    refine ⟨n, x, s', g.1 _ _ hc _ hx, ?_⟩
    cases x with
    | exit j => cases h
    | normal => exact h
    | ret => exact h
/-- calls whose answers are known -/
def memo (known : FuncId → List V → Option V) (c : Call) : Call := fun f as sg => match known f as with
  | some v => some (v, sg, 0)
  | none => c f as sg
theorem memo_le {known : FuncId → List V → Option V} {c : Call} (hk : ∀ f as v sg, known f as = some v → T.call f as sg = some (v, sg, 0)) (hc : CallLe c T.call) : CallLe (memo known c) T.call := by
  intro f as sg r h
  unfold memo at h
  split at h
  · rename_i v hv
    cases h
    exact hk _ _ _ _ hv
  · exact hc _ _ _ _ h
theorem at_le (n : Nat) : CallLe (T.at n) T.call := fun _ _ _ _ h => call_iff.2 ⟨n, h⟩

end
end Go.Vm

/-
  The machine V: a call from outside.
-/
namespace Go.Vm
open Go Go.RowKit

/-- routines without a body, and slices.Clone -/
def primAll (K : FuncId → Option Nat) (L : FuncId → Option (Nat × Bool)) : Call := fun f as sg =>
  match K f with
  | some _ => primX K f as sg
  | none => cloneX L f as sg
theorem primAll_ok {KW : World → Prop} {P : Program} {K : FuncId → Option Nat} {L : FuncId → Option (Nat × Bool)} (hm : P.follows .mixedOrders = true) (hK : Prims P K) (hL : ∀ f z m, L f = some (z, m) → ∃ fn, P.funcs[f]? = some fn ∧ CloneFn P z m fn) : CallOk KW P (primAll K L) := by
  intro f as sg v sg' wd h
  unfold primAll at h
  split at h
  · exact primX_ok hK f as sg v sg' wd h
  · exact cloneX_ok hm hL f as sg v sg' wd h
theorem primAll_q (K : FuncId → Option Nat) (L : FuncId → Option (Nat × Bool)) : CallQ (primAll K L) := by
  intro f as sg v sg' wd h
  unfold primAll at h
  split at h
  · exact primX_q K f as sg v sg' wd h
  · exact cloneX_q L f as sg v sg' wd h

/-- what is known of memory at the beginning -/
def im0 (w : World) : Nat → Nat → Option Value := fun c k => w.cell? ⟨c, k, none⟩
def G0 (w : World) : Gh := { im := im0 w, ow := fun _ _ => none, ph := fun _ _ => none }
/-- nothing known of the world -/
def KW0 : World → Prop := fun _ => True
def bd0 {KW : World → Prop} (w : World) (hK : ∀ w1 w2 : World, Below w.heap.size w1 w2 → KW w1 → KW w2) : Bd KW := ⟨w.heap.size, hK⟩
theorem WR0 {KW : World → Prop} (w : World) (hK : ∀ w1 w2 : World, Below w.heap.size w1 w2 → KW w1 → KW w2) (hw : KW w) : WR (G0 w) (bd0 w hK) [] [] w := by
  refine ⟨fun c k x h => h, fun _ _ _ _ => rfl, (fun c k o h => by cases h), (fun d i b loc hd hg hl => by cases hl), (fun l i loc h => by cases h), Nat.le_refl _, hw⟩

theorem enter_run {P : Program} {T : Tab} (hf : Funs P T.funs) {f : FuncId} {F : VF} (hF : T.funs f = some F) (A : Array Value) (w : World) : (callFunc f A).run P w = .ok (.enter f A) w := by
  obtain ⟨fn, hfn, htr⟩ := hf f F hF
  unfold trF at htr
  simp only [Bool.and_eq_true, Bool.not_eq_true'] at htr
  obtain ⟨hname, htr⟩ := htr
  split at htr
  · rename_i c hbody
    simp [callFunc, hfn, hbody]
    intro h
    rw [h] at hname
    simp at hname
  · cases htr

/-- a function of things of no place that tells a bool -/
theorem top_ok {KW : World → Prop} {P : Program} {T : Tab} (hm : P.follows .mixedOrders = true) (hf : Funs P T.funs) (hp : CallOk KW P T.prim) (hq : CallQ T.prim) {f : FuncId} {F : VF} (hF : T.funs f = some F) {as : List V} {b : Bool} {wd : Nat} (h : T.call f as [] = some (.bool b, [], wd))
    {A : Array Value} {w : World} (hK : ∀ w1 w2 : World, Below w.heap.size w1 w2 → KW w1 → KW w2) (hw : KW w) (hA : A.size = as.length) (hR : ∀ (j : Nat) (x : V) (y : Value), as[j]? = some x → A[j]? = some y → PR (im0 w) x y) :
    Calls P f A w fun | .returned cv, w' => cv = .bool b ∧ Below w.heap.size w w' | _, _ => False := by
  obtain ⟨n, hn⟩ := call_iff.1 h
  have hc := vm_sound (C := T.C) hm hf hp hq n f as [] (.bool b) [] wd hn (G0 w) (bd0 w hK) w A (WR0 w hK hw) hA (fun j x y hx hy => .pr _ _ (hR j x y hx hy))
  rcases hc with ⟨_, h2⟩ | ⟨cv, w', h1, _⟩
  · refine h2.mono fun e w' he => ?_
    cases e with
    | returned cv =>
      obtain ⟨G', r⟩ := he
      exact ⟨r.v.bool_inv, r.be⟩
    | panicked _ => exact he
    | outgrown => exact he
  · rw [enter_run hf hF] at h1
    cases h1

end Go.Vm

/-
  The machine V with numbers that are not known (they bear the kind i16, which no code uses): what a run tells that never looks at them
  is told for all of them. First part: putting numbers in.
-/
namespace Go.Vm
open Go

mutual
def su (σ : Int → V) : V → V
  | .und => .und
  | .bool b => .bool b
  | .int k n => bif k == .i16 then σ n else .int k n
  | .str s => .str s
  | .nilp => .nilp
  | .bp d i o => .bp d i o
  | .ep cs o => .ep (suL σ cs) o
  | .ap d i v j o => .ap d i v j o
  | .sl t z es => .sl t z (suL σ es)
  | .bs d i v o l => .bs d i v o l
  | .nilm => .nilm
  | .mp d i => .mp d i
  | .fn f a b => .fn f (suL σ a) (suL σ b)
  | .nilf => .nilf
  | .iface t v => .iface t (su σ v)
  | .nili => .nili
  | .agg cs => .agg (suL σ cs)
  | .tup vs => .tup (suL σ vs)
def suL (σ : Int → V) : List V → List V
  | [] => []
  | v :: vs => su σ v :: suL σ vs
end

/-- what is put in are numbers -/
def Num (σ : Int → V) : Prop := ∀ n, ∃ k m, σ n = .int k m
/-- no unknown number itself -/
def ns : V → Bool
  | .int k _ => !(k == .i16)
  | _ => true

def suB (σ : Int → V) : Blk → Blk
  | .box cs => .box (suL σ cs)
  | .arr v z es => .arr v z (suL σ es)
  | .tok v => .tok v
  | .map es => .map (es.map fun (a, b) => (su σ a, su σ b))
  | .dead => .dead
def suF (σ : Int → V) (fr : Fr) : Fr := fr.map (suB σ)
def suG (σ : Int → V) (sg : List Fr) : List Fr := sg.map (suF σ)
def suS (σ : Int → V) (s : St) : St := { tm := fun t => su σ (s.tm t), fr := suF σ s.fr, sg := suG σ s.sg, wd := s.wd }

section
variable {σ : Int → V}

theorem suL_map : ∀ l : List V, suL σ l = l.map (su σ)
  | [] => by simp [suL]
  | v :: vs => by simp [suL, suL_map vs]
theorem suL_len (l : List V) : (suL σ l).length = l.length := by rw [suL_map, List.length_map]
theorem suL_get (l : List V) (i : Nat) : (suL σ l)[i]? = (l[i]?).map (su σ) := by rw [suL_map, List.getElem?_map]
theorem suL_append (a b : List V) : suL σ (a ++ b) = suL σ a ++ suL σ b := by simp [suL_map]
theorem suL_drop (a : List V) (n : Nat) : suL σ (a.drop n) = (suL σ a).drop n := by simp [suL_map, List.map_drop]
theorem suL_take (a : List V) (n : Nat) : suL σ (a.take n) = (suL σ a).take n := by simp [suL_map, List.map_take]
theorem suL_set (a : List V) (n : Nat) (v : V) : suL σ (a.set n v) = (suL σ a).set n (su σ v) := by simp [suL_map, List.map_set]

/-- either an unknown number, or the same shape -/
theorem su_int (hσ : Num σ) (k : IntKind) (n : Int) : ∃ j m, su σ (.int k n) = .int j m := by
  simp only [su]
  cases k == IntKind.i16
  · exact ⟨_, _, rfl⟩
  · exact hσ n
theorem su_ns {k : IntKind} {n : Int} (h : ns (.int k n) = true) : su σ (.int k n) = .int k n := by
  simp only [ns, Bool.not_eq_true'] at h
  simp only [su, h, cond_false]

theorem pu0_su (hσ : Num σ) (v : V) : pu0 (su σ v) = pu0 v := by
  cases v with
  | int k n => obtain ⟨j, m, e⟩ := su_int hσ k n; rw [e]; rfl
  | sl t z es => cases t <;> rfl
  | _ => rfl
theorem all_su {p : V → Bool} (h : ∀ v, p (su σ v) = p v) (l : List V) : (suL σ l).all p = l.all p := by
  rw [suL_map, List.all_map]; congr 1; funext v; exact h v
theorem pu1_su (hσ : Num σ) (v : V) : pu1 (su σ v) = pu1 v := by
  cases v with
  | int k n => obtain ⟨j, m, e⟩ := su_int hσ k n; rw [e]; rfl
  | fn f a b => simp only [su, pu1, all_su (pu0_su hσ)]
  | iface t v => simp only [su, pu1, pu0_su hσ]
  | sl t z es => cases t <;> rfl
  | _ => rfl
theorem pu2_su (hσ : Num σ) (v : V) : pu2 (su σ v) = pu2 v := by
  cases v with
  | int k n => obtain ⟨j, m, e⟩ := su_int hσ k n; rw [e]; rfl
  | agg cs => simp only [su, pu2, all_su (pu1_su hσ)]
  | fn f a b => exact pu1_su hσ (.fn f a b)
  | iface t v => exact pu1_su hσ (.iface t v)
  | sl t z es => cases t <;> rfl
  | _ => rfl
theorem pu3_su (hσ : Num σ) (v : V) : pu3 (su σ v) = pu3 v := by
  cases v with
  | int k n => obtain ⟨j, m, e⟩ := su_int hσ k n; rw [e]; rfl
  | tup cs => simp only [su, pu3, all_su (pu2_su hσ)]
  | agg cs => exact pu2_su hσ (.agg cs)
  | fn f a b => exact pu1_su hσ (.fn f a b)
  | iface t v => exact pu1_su hσ (.iface t v)
  | sl t z es => cases t <;> rfl
  | _ => rfl

theorem map_su {f : V → V} (h : ∀ v, f (su σ v) = su σ (f v)) (l : List V) : (suL σ l).map f = suL σ (l.map f) := by
  simp only [suL_map, List.map_map]; congr 1; funext v; exact h v

theorem map_su2 {f g : V → V} (h : ∀ v, f (su σ v) = su σ (g v)) (l : List V) : (suL σ l).map f = suL σ (l.map g) := by
  simp only [suL_map, List.map_map]; congr 1; funext v; exact h v

theorem sh0_su (hσ : Num σ) (k : Nat) (v : V) : sh0 k (su σ v) = su σ (sh0 k v) := by
  cases v with
  | int j n => obtain ⟨j', m, e⟩ := su_int hσ j n; rw [e]; simp only [sh0]; exact e.symm
  | sl t z es => cases t <;> simp [su, sh0]
  | _ => simp [su, sh0]
theorem sh1_su (hσ : Num σ) (k : Nat) (v : V) : sh1 k (su σ v) = su σ (sh1 k v) := by
  cases v with
  | int j n => obtain ⟨j', m, e⟩ := su_int hσ j n; rw [e]; simp only [sh1, sh0]; exact e.symm
  | fn f a b => simp only [su, sh1, map_su (sh0_su hσ k)]
  | iface t v => simp only [su, sh1, sh0_su hσ k]
  | sl t z es => cases t <;> simp [su, sh1, sh0]
  | _ => simp [su, sh1, sh0]
theorem sh2_su (hσ : Num σ) (k : Nat) (v : V) : sh2 k (su σ v) = su σ (sh2 k v) := by
  cases v with
  | agg cs => simp only [su, sh2, map_su (sh1_su hσ k)]
  | int j n => obtain ⟨j', m, e⟩ := su_int hσ j n; rw [e]; simp only [sh2, sh1, sh0]; exact e.symm
  | fn f a b => exact sh1_su hσ k (.fn f a b)
  | iface t v => exact sh1_su hσ k (.iface t v)
  | sl t z es => cases t <;> simp [su, sh2, sh1, sh0]
  | _ => simp [su, sh2, sh1, sh0]

theorem mapM_su {f : V → Option V} (h : ∀ v, f (su σ v) = (f v).map (su σ)) : ∀ l : List V, (suL σ l).mapM f = (l.mapM f).map (suL σ)
  | [] => by simp [suL]
  | v :: vs => by
    simp only [suL, List.mapM_cons, h, mapM_su h vs]
    cases f v with
    | none => rfl
    | some a => cases vs.mapM f <;> simp [suL]

theorem dn0_su (hσ : Num σ) (k : Nat) (v : V) : dn0 k (su σ v) = (dn0 k v).map (su σ) := by
  cases v with
  | int j n => obtain ⟨j', m, e⟩ := su_int hσ j n; rw [e]; simp only [dn0, Option.map_some]; rw [e]
  | bp d i o => simp only [su, dn0]; cases Nat.ble k d <;> simp [su]
  | ap d i v j o => simp only [su, dn0]; cases Nat.ble k d <;> simp [su]
  | bs d i v o l => simp only [su, dn0]; cases Nat.ble k d <;> simp [su]
  | mp d i => simp only [su, dn0]; cases Nat.ble k d <;> simp [su]
  | sl t z es =>
    cases t with
    | «at» d i ver => simp only [su, dn0]; cases Nat.ble k d <;> simp [su]
    | _ => simp [su, dn0]
  | _ => simp [su, dn0]
theorem dn1_su (hσ : Num σ) (k : Nat) (v : V) : dn1 k (su σ v) = (dn1 k v).map (su σ) := by
  have h0 := dn0_su hσ k v
  cases v with
  | fn f a b =>
    simp only [su, dn1, mapM_su (dn0_su hσ k)]
    cases a.mapM (dn0 k) with
    | none => rfl
    | some x => cases b.mapM (dn0 k) <;> simp [su]
  | iface t v => simp only [su, dn1, dn0_su hσ k]; cases dn0 k v <;> simp [su]
  | int j n => obtain ⟨j', m, e⟩ := su_int hσ j n; have := dn0_su hσ k (.int j n); rw [e] at this ⊢; exact this
  | _ => exact h0

theorem lt0_su (hσ : Num σ) (k : Nat) (v : V) : lt0 k (su σ v) = lt0 k v := by
  cases v with
  | int j n => obtain ⟨j', m, e⟩ := su_int hσ j n; rw [e]; rfl
  | bp d i o => cases d <;> rfl
  | ap d i v j o => cases d <;> rfl
  | bs d i v o l => cases d <;> rfl
  | mp d i => cases d <;> rfl
  | sl t z es =>
    cases t with
    | «at» d i ver => cases d <;> rfl
    | _ => rfl
  | _ => rfl
theorem lt1_su (hσ : Num σ) (k : Nat) (v : V) : lt1 k (su σ v) = lt1 k v := by
  have h0 := lt0_su hσ k v
  cases v with
  | fn f a b => simp only [su, lt1, all_su (lt0_su hσ k)]
  | iface t v => simp only [su, lt1, lt0_su hσ k]
  | int j n => obtain ⟨j', m, e⟩ := su_int hσ j n; rw [e]; rfl
  | _ => exact h0
theorem lt2_su (hσ : Num σ) (k : Nat) (v : V) : lt2 k (su σ v) = lt2 k v := by
  have h0 := lt1_su hσ k v
  cases v with
  | agg cs => simp only [su, lt2, all_su (lt1_su hσ k)]
  | int j n => obtain ⟨j', m, e⟩ := su_int hσ j n; rw [e]; rfl
  | _ => exact h0
theorem lt3_su (hσ : Num σ) (k : Nat) (v : V) : lt3 k (su σ v) = lt3 k v := by
  have h0 := lt2_su hσ k v
  cases v with
  | tup cs => simp only [su, lt3, all_su (lt2_su hσ k)]
  | int j n => obtain ⟨j', m, e⟩ := su_int hσ j n; rw [e]; rfl
  | _ => exact h0
theorem ltB_su (hσ : Num σ) (k : Nat) (b : Blk) : ltB k (suB σ b) = ltB k b := by
  cases b with
  | box cs => simp only [suB, ltB, all_su (lt1_su hσ k)]
  | map es => simp only [suB, ltB, List.all_map]; congr 1; funext x; simp [pu2_su hσ]
  | _ => rfl

theorem dt0_su (hσ : Num σ) (v : V) : dt0 (su σ v) = su σ (dt0 v) := by
  cases v with
  | int j n => obtain ⟨j', m, e⟩ := su_int hσ j n; rw [e]; simp only [dt0]; exact e.symm
  | _ => simp [su, dt0]
theorem dt2_su (hσ : Num σ) (v : V) : dt2 (su σ v) = su σ (dt2 v) := by
  have h0 := dt0_su hσ v
  cases v with
  | agg cs => simp only [su, dt2, map_su (dt0_su hσ)]
  | int j n => obtain ⟨j', m, e⟩ := su_int hσ j n; rw [e]; simp only [dt2, dt0]; exact e.symm
  | _ => exact h0

theorem suF_get (fr : Fr) (i : Nat) : (suF σ fr)[i]? = (fr[i]?).map (suB σ) := by unfold suF; rw [List.getElem?_map]
theorem suF_len (fr : Fr) : (suF σ fr).length = fr.length := by unfold suF; rw [List.length_map]

theorem fz0_su (hσ : Num σ) (fr : Fr) (v : V) : fz0 (suF σ fr) (su σ v) = su σ (fz0 fr v) := by
  cases v with
  | int j n => obtain ⟨j', m, e⟩ := su_int hσ j n; rw [e]; simp only [fz0]; exact e.symm
  | bs d i ver o len =>
    cases d with
    | succ d => simp [su, fz0]
    | zero =>
      simp only [su, fz0, suF_get]
      cases fr[i]? with
      | none => simp [su]
      | some b =>
        cases b with
        | arr ver' z es =>
          simp only [Option.map_some, suB, suL_len]
          cases (Nat.beq ver ver' && Nat.ble (o + len) es.length) <;> simp [su, suL_take, suL_drop]
        | _ => simp [suB, su]
  | _ => simp [su, fz0]
theorem fz2_su (hσ : Num σ) (fr : Fr) (v : V) : fz2 (suF σ fr) (su σ v) = su σ (fz2 fr v) := by
  have h0 := fz0_su hσ fr v
  cases v with
  | agg cs => simp only [su, fz2, map_su2 (fz0_su hσ fr)]
  | int j n => obtain ⟨j', m, e⟩ := su_int hσ j n; have := fz0_su hσ fr (.int j n); rw [e] at this ⊢; exact this
  | _ => exact h0
theorem fz3_su (hσ : Num σ) (fr : Fr) (v : V) : fz3 (suF σ fr) (su σ v) = su σ (fz3 fr v) := by
  have h0 := fz2_su hσ fr v
  cases v with
  | tup cs => simp only [su, fz3, map_su2 (fz2_su hσ fr)]
  | int j n => obtain ⟨j', m, e⟩ := su_int hσ j n; have := fz2_su hσ fr (.int j n); rw [e] at this ⊢; exact this
  | _ => exact h0

theorem mg0_su (hσ : Num σ) (k : Nat) (v : V) : mg0 k (su σ v) = su σ (mg0 k v) := by
  cases v with
  | int j n => obtain ⟨j', m, e⟩ := su_int hσ j n; rw [e]; simp only [mg0]; exact e.symm
  | bp d i o => cases d <;> simp [su, mg0]
  | ap d i v j o => cases d <;> simp [su, mg0]
  | bs d i v o l => cases d <;> simp [su, mg0]
  | mp d i => cases d <;> simp [su, mg0]
  | sl t z es =>
    cases t with
    | «at» d i ver => cases d <;> simp [su, mg0]
    | _ => simp [su, mg0]
  | _ => simp [su, mg0]
theorem mg1_su (hσ : Num σ) (k : Nat) (v : V) : mg1 k (su σ v) = su σ (mg1 k v) := by
  have h0 := mg0_su hσ k v
  cases v with
  | fn f a b => simp only [su, mg1, map_su (mg0_su hσ k)]
  | iface t v => simp only [su, mg1, mg0_su hσ k]
  | int j n => obtain ⟨j', m, e⟩ := su_int hσ j n; have := mg0_su hσ k (.int j n); rw [e] at this ⊢; exact this
  | _ => exact h0
theorem mg2_su (hσ : Num σ) (k : Nat) (v : V) : mg2 k (su σ v) = su σ (mg2 k v) := by
  have h0 := mg1_su hσ k v
  cases v with
  | agg cs => simp only [su, mg2, map_su (mg1_su hσ k)]
  | int j n => obtain ⟨j', m, e⟩ := su_int hσ j n; have := mg1_su hσ k (.int j n); rw [e] at this ⊢; exact this
  | _ => exact h0
theorem mg3_su (hσ : Num σ) (k : Nat) (v : V) : mg3 k (su σ v) = su σ (mg3 k v) := by
  have h0 := mg2_su hσ k v
  cases v with
  | tup cs => simp only [su, mg3, map_su (mg2_su hσ k)]
  | int j n => obtain ⟨j', m, e⟩ := su_int hσ j n; have := mg2_su hσ k (.int j n); rw [e] at this ⊢; exact this
  | _ => exact h0
theorem mgB_su (hσ : Num σ) (k : Nat) (b : Blk) : mgB k (suB σ b) = suB σ (mgB k b) := by
  cases b with
  | box cs => simp only [suB, mgB, map_su (mg1_su hσ k)]
  | _ => rfl

theorem get_su (s : St) (d i : Nat) : (suS σ s).get d i = (s.get d i).map (suB σ) := by
  cases d with
  | zero => simp only [St.get, getB, suS, suF_get]
  | succ d =>
    simp only [St.get, getB, suS, suG, List.getElem?_map]
    cases s.sg[d]? with
    | none => rfl
    | some fr => simp [suF_get]
theorem set_su (s : St) (d i : Nat) (b : Blk) : suS σ (s.set d i b) = (suS σ s).set d i (suB σ b) := by
  cases d with
  | zero => simp only [St.set, suS, suF, List.map_set]
  | succ d =>
    simp only [St.set, suS, suG, St.mk.injEq, true_and, and_true]
    apply List.ext_getElem?
    intro j
    simp only [List.getElem?_map, List.getElem?_modify]
    cases s.sg[j]? with
    | none => simp
    | some fr => by_cases h : d = j <;> simp [h, suF, List.map_set]

theorem scal_su (hσ : Num σ) (v : V) : scal (su σ v) = scal v := by
  cases v with
  | int j n => obtain ⟨j', m, e⟩ := su_int hσ j n; rw [e]; rfl
  | _ => rfl
theorem whole_su (hσ : Num σ) (v : V) : whole (su σ v) = whole v := by
  cases v with
  | int j n => obtain ⟨j', m, e⟩ := su_int hσ j n; rw [e]; rfl
  | _ => rfl
theorem cellsOf_su (hσ : Num σ) (v : V) : cellsOf (su σ v) = suL σ (cellsOf v) := by
  cases v with
  | int j n => obtain ⟨j', m, e⟩ := su_int hσ j n; simp only [cellsOf, suL]; rw [e]
  | _ => simp [su, cellsOf, suL]
theorem ldC_su (ag : Bool) (sz : Nat) (cs : List V) (o : Nat) : ldC ag sz (suL σ cs) o = (ldC ag sz cs o).map (su σ) := by
  cases ag with
  | false => simp only [ldC, cond_false, suL_get]
  | true =>
    simp only [ldC, cond_true, suL_len]
    cases Nat.ble (o + sz) cs.length <;> simp [su, suL_take, suL_drop]
theorem stC_su (hσ : Num σ) (ag : Bool) (sz : Nat) (cs : List V) (o : Nat) (v : V) : stC ag sz (suL σ cs) o (su σ v) = (stC ag sz cs o v).map (suL σ) := by
  cases ag with
  | false =>
    simp only [stC, cond_false, suL_len, scal_su hσ]
    cases (scal v && Nat.blt o cs.length) <;> simp [suL_set]
  | true =>
    simp only [stC, cond_true]
    cases v with
    | agg vs =>
      simp only [su, suL_len, all_su (scal_su hσ)]
      cases (Nat.beq vs.length sz && (Nat.ble (o + sz) cs.length && vs.all scal)) <;> simp [suL_append, suL_take, suL_drop]
    | int j n => obtain ⟨j', m, e⟩ := su_int hσ j n; rw [e]; rfl
    | _ => simp [su]
theorem mkEl_su (hσ : Num σ) (ag : Bool) (cs : List V) : mkEl ag (suL σ cs) = su σ (mkEl ag cs) := by
  cases ag with
  | true => simp [mkEl, su]
  | false =>
    match cs with
    | [] => simp [mkEl, suL, su]
    | [v] => simp only [mkEl, cond_false, suL, scal_su hσ]; cases scal v <;> simp [su]
    | _ :: _ :: _ => simp [mkEl, suL, su]
theorem reEl_su (hσ : Num σ) (e : V) (cs : List V) : reEl (su σ e) (suL σ cs) = su σ (reEl e cs) := by
  cases e with
  | agg _ => simp [su, reEl]
  | int j n => obtain ⟨j', m, h⟩ := su_int hσ j n; rw [h]; exact mkEl_su hσ false cs
  | _ => exact mkEl_su hσ false cs
theorem dnS_su (hσ : Num σ) (d : Nat) (v : V) : dnS d (su σ v) = (dnS d v).map (su σ) := by
  cases d with
  | zero => simp [dnS]
  | succ d =>
    have h0 := dn1_su hσ (d + 1) v
    cases v with
    | agg cs =>
      simp only [su, dnS, mapM_su (dn1_su hσ (d + 1))]
      cases cs.mapM (dn1 (d + 1)) <;> simp [su]
    | int j n => obtain ⟨j', m, e⟩ := su_int hσ j n; have := dn1_su hσ (d + 1) (.int j n); rw [e] at this ⊢; exact this
    | _ => exact h0

theorem ldV_su (hσ : Num σ) (ag : Bool) (sz : Nat) (a : V) (s : St) : ldV ag sz (su σ a) (suS σ s) = (ldV ag sz a s).map (su σ) := by
  cases a with
  | int j n => obtain ⟨j', m, e⟩ := su_int hσ j n; rw [e]; rfl
  | ep cs o => simp only [su, ldV, ldC_su]
  | bp d i o =>
    simp only [su, ldV, get_su]
    cases s.get d i with
    | none => rfl
    | some b =>
      cases b with
      | box cs =>
        simp only [Option.map_some, suB, ldC_su]
        cases ldC ag sz cs o with
        | none => rfl
        | some v =>
          cases d with
          | zero => rfl
          | succ d => simp [sh2_su hσ]
      | _ => rfl
  | ap d i ver j o =>
    simp only [su, ldV, get_su]
    cases s.get d i with
    | none => rfl
    | some b =>
      cases b with
      | arr ver' z es =>
        simp only [Option.map_some, suB, suL_get]
        cases Nat.beq ver ver' with
        | false => rfl
        | true =>
          simp only [cond_true]
          cases es[j]? with
          | none => rfl
          | some e => simp [cellsOf_su hσ, ldC_su]
      | _ => rfl
  | _ => rfl

theorem stV_su (hσ : Num σ) (ag : Bool) (sz : Nat) (a v : V) (s : St) : stV ag sz (su σ a) (su σ v) (suS σ s) = (stV ag sz a v s).map (suS σ) := by
  cases a with
  | int j n => obtain ⟨j', m, e⟩ := su_int hσ j n; rw [e]; rfl
  | bp d i o =>
    simp only [su, stV, get_su]
    cases s.get d i with
    | none => rfl
    | some b =>
      cases b with
      | box cs =>
        simp only [Option.map_some, suB, dnS_su hσ]
        cases dnS d v with
        | none => rfl
        | some u =>
          simp only [Option.map_some, Option.bind_some, stC_su hσ]
          cases stC ag sz cs o u with
          | none => rfl
          | some cs' => simp [set_su, suB]
      | _ => rfl
  | ap d i ver j o =>
    simp only [su, stV, get_su]
    cases s.get d i with
    | none => rfl
    | some b =>
      cases b with
      | arr ver' z es =>
        simp only [Option.map_some, suB, suL_get]
        cases Nat.beq ver ver' with
        | false => rfl
        | true =>
          simp only [cond_true]
          cases es[j]? with
          | none => rfl
          | some e =>
            simp only [Option.map_some, Option.bind_some, cellsOf_su hσ, dt2_su hσ, stC_su hσ]
            cases stC ag sz (cellsOf e) o (dt2 v) with
            | none => rfl
            | some cs' =>
              simp only [Option.map_some, Option.bind_some, reEl_su hσ, pu2_su hσ]
              cases pu2 (reEl e cs') with
              | false => rfl
              | true => simp [set_su, suB, suL_set]
      | _ => rfl
  | _ => rfl

theorem len_su (hσ : Num σ) (v : V) : len? (su σ v) = len? v := by
  cases v with
  | int j n => obtain ⟨j', m, e⟩ := su_int hσ j n; rw [e]; rfl
  | sl t z es => simp [su, len?, suL_len]
  | _ => rfl
theorem isStr_su (hσ : Num σ) (v : V) : isStr (su σ v) = isStr v := by
  cases v with
  | int j n => obtain ⟨j', m, e⟩ := su_int hσ j n; rw [e]; rfl
  | _ => rfl
theorem els_su (hσ : Num σ) (sz : Nat) (s : St) (v : V) : els sz (suS σ s) (su σ v) = (els sz s v).map (suL σ) := by
  cases v with
  | int j n => obtain ⟨j', m, e⟩ := su_int hσ j n; rw [e]; rfl
  | sl t z es => simp only [su, els]; cases Nat.beq z sz <;> simp
  | str b =>
    simp only [su, els]
    cases Nat.beq sz 1 with
    | false => rfl
    | true =>
      simp only [cond_true, Option.map_some, suL_map, List.map_map]
      congr 1
  | bs d i ver o len =>
    simp only [su, els, get_su]
    cases s.get d i with
    | none => rfl
    | some b =>
      cases b with
      | arr ver' z es =>
        simp only [Option.map_some, suB, suL_len]
        cases (Nat.beq z sz && (Nat.beq ver ver' && Nat.ble (o + len) es.length)) <;> simp [suL_take, suL_drop]
      | _ => rfl
  | _ => rfl

theorem nilK_su (hσ : Num σ) (k : Nat) (v : V) : nilK k (su σ v) = nilK k v := by
  cases v with
  | int j n => obtain ⟨j', m, e⟩ := su_int hσ j n; rw [e]; cases k with
    | zero => rfl
    | succ k => cases k with
      | zero => rfl
      | succ k => cases k with
        | zero => rfl
        | succ k => cases k <;> rfl
  | _ => cases k with
    | zero => rfl
    | succ k => cases k with
      | zero => rfl
      | succ k => cases k with
        | zero => rfl
        | succ k => cases k <;> rfl
theorem nil_su (hσ : Num σ) (v : V) : nil? (su σ v) = nil? v := by
  cases v with
  | int j n => obtain ⟨j', m, e⟩ := su_int hσ j n; rw [e]; rfl
  | _ => rfl

theorem ns_su {v : V} (h : ns v = true) : (∃ k n, v = .int k n) → su σ v = v := by
  rintro ⟨k, n, rfl⟩; exact su_ns h
theorem nat_su (v : V) (h : ns v = true) : nat? (su σ v) = nat? v := by
  cases v with
  | int k n => rw [su_ns h]
  | _ => rfl

theorem elV_su (hσ : Num σ) (sz : Nat) (v : V) : elV sz (su σ v) = (elV sz v).map (su σ) := by
  simp only [elV, dt2_su hσ, pu2_su hσ, cellsOf_su hσ, suL_len]
  cases (pu2 (dt2 v) && Nat.beq (cellsOf (dt2 v)).length sz) <;> simp
theorem argV_su (hσ : Num σ) (b : Bool) (v : V) : argV b (su σ v) = su σ (argV b v) := by
  cases b <;> simp [argV, dt2_su hσ, sh2_su hσ]
theorem cel_su (hσ : Num σ) (v : V) : cel (su σ v) = cel v := by
  simp only [cel, cellsOf_su hσ, all_su (scal_su hσ)]

theorem upd_su (e : Nat → V) (t : Nat) (v : V) (u : Nat) : su σ (upd e t v u) = upd (fun t => su σ (e t)) t (su σ v) u := by
  simp only [upd]; cases Nat.beq u t <;> rfl
theorem put_su (s : St) (d : Option Nat) (v : V) : suS σ (put s d v) = put (suS σ s) d (su σ v) := by
  cases d with
  | none => rfl
  | some t => simp only [put, suS, St.mk.injEq, and_true]; funext u; exact upd_su _ _ _ _
theorem env_su : ∀ (l : List V) (u : Nat), su σ (env l u) = env (suL σ l) u
  | [], _ => by simp [env, suL, su]
  | v :: vs, 0 => by simp [env, suL]
  | v :: vs, n + 1 => by simp only [env, suL]; exact env_su vs n
theorem mkE_su : ∀ (l : List Nat) (vs : List V) (u : Nat), su σ (mkE l vs u) = mkE l (suL σ vs) u
  | [], vs, u => by cases vs <;> simp [mkE, suL, su]
  | _ :: _, [], u => by simp [mkE, suL, su]
  | t :: ts, v :: vs, u => by
    simp only [mkE, suL]
    cases Nat.beq u t
    · exact mkE_su ts vs u
    · rfl
end
end Go.Vm

/-
  The machine V with numbers that are not known. Second part: one operation.
-/
namespace Go.Vm
open Go

section
variable {σ : Int → V}

theorem fillC_su (σ : Int → V) : ∀ (ps : List (Nat × Nat × List V)) (cs : List V), fillC (suL σ cs) (ps.map fun p => (p.1, p.2.1, suL σ p.2.2)) = (fillC cs ps).map (suL σ)
  | [], cs => by simp [fillC]
  | (o, z, vs) :: r, cs => by
    simp only [List.map_cons, fillC, suL_len]
    cases (Nat.beq vs.length z && Nat.ble (o + z) cs.length) with
    | false => rfl
    | true =>
      simp only [cond_true]
      rw [← fillC_su σ r]
      simp [suL_append, suL_take, suL_drop]

/-- what an operand is -/
theorem rd_su (e : Nat → V) (x : O) (hx : ∀ v, x = .c v → su σ v = v) : rd (fun t => su σ (e t)) x = su σ (rd e x) := by
  cases x with
  | t n => rfl
  | c v => exact (hx v rfl).symm

theorem b2sL_su : ∀ (l : List V) (b : List UInt8), b2sL l = some b → b2sL (suL σ l) = some b
  | [], b, h => by simpa [suL] using h
  | v :: vs, b, h => by
    cases v with
    | int k n =>
      cases k with
      | u8 =>
        simp only [b2sL] at h
        obtain ⟨c, h1, rfl⟩ := Option.map_eq_some_iff.1 h
        have := b2sL_su vs c h1
        simp only [suL, su]
        show b2sL (.int .u8 n :: suL σ vs) = _
        simp only [b2sL, this, Option.map_some]
      | _ => simp [b2sL] at h
    | _ => simp [b2sL] at h

theorem binV_ns {op : BinOp} {x y : V} (hx : ns x = true) (hy : ns y = true) {v : V} (h : binV op x y = some v) : binV op (su σ x) (su σ y) = some (su σ v) := by
  cases x with
  | int k a =>
    cases y with
    | int j b =>
      rw [su_ns hx, su_ns hy, h]
      congr 1
      have key : ∀ (m : Int), su σ (.int k m) = .int k m := fun m => su_ns (by simpa [ns] using hx)
      cases op <;> simp only [binV, binI] at h
      all_goals first
        | (have h := bif_same h; cases h; exact (key _).symm)
        | (have h := bif_same h; have h := bif_same h; cases h; exact (key _).symm)
        | (have h := bif_same h; cases h; rfl)
        | (have h := bif_same h; cases h)
        | (cases hb : (decide (b < 0)) <;> simp only [hb, cond_true, cond_false] at h <;> first | (cases h; exact (key _).symm) | cases h)
        | (cases hb : (k == j) <;> cases hc : (b == 0) <;> simp only [hb, hc, cond_true, cond_false] at h <;> first | (cases h; exact (key _).symm) | cases h)
    | _ => simp [binV] at h
  | str a =>
    cases y with
    | str b =>
      simp only [su]
      rw [h]
      simp only [binV] at h
      cases op <;> simp only [binS] at h <;> first | (cases h; rfl) | (have h := bif_same h; cases h; rfl) | cases h
    | _ => simp [binV] at h
  | _ => simp [binV] at h

theorem eqK_ns {k : Nat} {x y : V} (hx : ns x = true) (hy : ns y = true) {b : Bool} (h : eqK k x y = some b) : eqK k (su σ x) (su σ y) = some b := by
  cases x with
  | int i m =>
    cases y with
    | int j n => rw [su_ns hx, su_ns hy, h]
    | _ => cases k with
      | zero => simp [eqK] at h
      | succ k => cases k with
        | zero => simp [eqK] at h
        | succ k => cases k <;> simp [eqK] at h
  | bool a => cases y with
    | bool b => simpa [su] using h
    | _ => cases k with
      | zero => simp [eqK] at h
      | succ k => cases k with
        | zero => simp [eqK] at h
        | succ k => cases k <;> simp [eqK] at h
  | str a => cases y with
    | str b => simpa [su] using h
    | _ => cases k with
      | zero => simp [eqK] at h
      | succ k => cases k with
        | zero => simp [eqK] at h
        | succ k => cases k <;> simp [eqK] at h
  | _ => cases k with
      | zero => simp [eqK] at h
      | succ k => cases k with
        | zero => simp [eqK] at h
        | succ k => cases k <;> simp [eqK] at h
theorem eqL_ns : ∀ (ks : List Nat) (as bs : List V) (b : Bool), as.all ns = true → bs.all ns = true → eqL ks as bs = some b → eqL ks (suL σ as) (suL σ bs) = some b
  | [], [], [], b, _, _, h => by simpa [suL] using h
  | [], [], _ :: _, b, _, _, h => by simp [eqL] at h
  | [], _ :: _, _, b, _, _, h => by simp [eqL] at h
  | _ :: _, [], _, b, _, _, h => by simp [eqL] at h
  | _ :: _, _ :: _, [], b, _, _, h => by simp [eqL] at h
  | k :: ks, x :: as, y :: bs, b, ha, hb, h => by
    simp only [List.all_cons, Bool.and_eq_true] at ha hb
    simp only [eqL] at h
    obtain ⟨c, h1, h2⟩ := Option.bind_eq_some_iff.1 h
    obtain ⟨d, h3, rfl⟩ := Option.map_eq_some_iff.1 h2
    simp only [suL, eqL, eqK_ns ha.1 hb.1 h1, eqL_ns ks as bs d ha.2 hb.2 h3, Option.bind_some, Option.map_some]

theorem cutV_su (hσ : Num σ) {sz : Nat} {s : St} {lo hi mx : Option O} (hl : onat (suS σ s).tm = onat s.tm ∨ True)
    (h1 : ∀ d, onat (suS σ s).tm d lo = onat s.tm d lo) (h2 : ∀ d, onat (suS σ s).tm d hi = onat s.tm d hi) (h3 : ∀ o, mx = some o → nat? (rd (suS σ s).tm o) = nat? (rd s.tm o)) (v : V) :
    cutV sz (suS σ s) lo hi mx (su σ v) = (cutV sz s lo hi mx v).map (su σ) := by
  cases v with
  | int j n => obtain ⟨j', m, e⟩ := su_int hσ j n; rw [e]; rfl
  | str b =>
    simp only [su, cutV, h1, h2]
    cases mx.isNone with
    | false => rfl
    | true =>
      simp only [cond_true]
      cases onat s.tm 0 lo with
      | none => rfl
      | some l =>
        simp only [Option.bind_some]
        cases onat s.tm b.length hi with
        | none => rfl
        | some h => simp only [Option.bind_some]; cases (Nat.ble l h && Nat.ble h b.length) <;> simp [su]
  | sl t z es =>
    simp only [su, cutV, h1, h2, suL_len]
    cases onat s.tm 0 lo with
    | none => rfl
    | some l =>
      simp only [Option.bind_some]
      cases onat s.tm es.length hi with
      | none => rfl
      | some h =>
        simp only [Option.bind_some]
        cases (Nat.beq z sz && (Nat.ble l h && Nat.ble h es.length)) with
        | false => rfl
        | true =>
          simp only [cond_true]
          cases mx with
          | none => simp [su, suL_take, suL_drop]
          | some m =>
            simp only [h3 m rfl]
            cases nat? (rd s.tm m) with
            | none => rfl
            | some m => simp only [Option.bind_some]; cases (hi.isSome && (Nat.ble h m && Nat.ble m es.length)) <;> simp [su, suL_take, suL_drop]
  | bs d i ver o len =>
    simp only [su, cutV, get_su]
    cases s.get d i with
    | none => rfl
    | some b =>
      cases b with
      | arr ver' z es =>
        simp only [Option.map_some, suB, h1, h2]
        cases (mx.isNone && (Nat.beq z sz && Nat.beq ver ver')) with
        | false => rfl
        | true =>
          simp only [cond_true]
          cases onat s.tm 0 lo with
          | none => rfl
          | some l =>
            simp only [Option.bind_some]
            cases onat s.tm len hi with
            | none => rfl
            | some h => simp only [Option.bind_some]; cases (Nat.ble l h && Nat.ble h len) <;> simp [su]
      | _ => rfl
  | _ => rfl

/-- what an operation tells, and the state -/
def suR (σ : Int → V) (r : V × St) : V × St := (su σ r.1, suS σ r.2)

theorem fr_su (s : St) : (suS σ s).fr = suF σ s.fr := rfl
theorem wf_su (s : St) (fr : Fr) : suS σ { s with fr := fr } = { suS σ s with fr := suF σ fr } := rfl
theorem suF_app (a b : Fr) : suF σ (a ++ b) = suF σ a ++ suF σ b := by simp [suF]

theorem appV_su (hσ : Num σ) (sz : Nat) (s : St) (x : V) (ys : List V) : appV sz (suS σ s) (su σ x) (suL σ ys) = (appV sz s x ys).map (suR σ) := by
  cases x with
  | int j n => obtain ⟨j', m, e⟩ := su_int hσ j n; rw [e]; rfl
  | sl t z es =>
    simp only [su, appV, suL_len]
    cases (Nat.beq z sz && Nat.ble (es.length + ys.length) lim) with
    | false => rfl
    | true =>
      simp only [cond_true]
      cases ys with
      | nil => simp [suL, suR, su]
      | cons y ys =>
        simp only [suL]
        cases t with
        | no => rfl
        | ex => simp [suR, su, suL_append, suL, wf_su, suF_app, suF_len, fr_su, suF, suB]
        | «at» d i ver =>
          simp only [get_su]
          cases s.get d i with
          | none => rfl
          | some b =>
            cases b with
            | tok ver' =>
              have ha : (su σ y :: suL σ ys).all cel = (y :: ys).all cel := by
                have := all_su (σ := σ) (p := cel) (cel_su hσ) (y :: ys)
                simpa [suL] using this
              simp only [Option.map_some, suB, ha]
              cases (Nat.beq ver ver' && (y :: ys).all cel) with
              | false => rfl
              | true => simp [suR, su, suL_append, suL, set_su, suB, suL_len]
            | _ => rfl
  | _ => rfl

theorem amV_su (hσ : Num σ) (sz : Nat) (s : St) (x : V) (ys : List V) : amV sz (suS σ s) (su σ x) (suL σ ys) = (amV sz s x ys).map (suR σ) := by
  cases x with
  | int j n => obtain ⟨j', m, e⟩ := su_int hσ j n; rw [e]; rfl
  | sl t z es =>
    cases t with
    | ex =>
      simp only [su, amV, suL_len]
      cases (Nat.beq z sz && Nat.ble (es.length + ys.length) lim) with
      | false => rfl
      | true =>
        simp only [cond_true]
        cases ys with
        | nil => simp [suL, suR, su]
        | cons y ys => simp [suL, suR, su, suL_append, wf_su, suF_app, suF_len, fr_su, suF, suB]
    | _ => rfl
  | bs d i ver o len =>
    simp only [su, amV, get_su]
    cases s.get d i with
    | none => rfl
    | some b =>
      cases b with
      | arr ver' z es =>
        have ha : (suL σ ys).all cel = ys.all cel := all_su (cel_su hσ) ys
        simp only [Option.map_some, suB, suL_len, ha]
        cases (Nat.beq z sz && (Nat.beq ver ver' && (Nat.ble (o + len) es.length && (Nat.ble (len + ys.length) lim && ys.all cel)))) with
        | false => rfl
        | true =>
          simp only [cond_true]
          cases ys with
          | nil => simp [suL, suR, su]
          | cons y ys => simp [suL, suR, su, suL_append, suL_take, suL_drop, set_su, suB, suL_len]
      | _ => rfl
  | _ => rfl

theorem growS_su (hσ : Num σ) (n j k : Nat) (cs : List V) : growS n j k (suL σ cs) = suL σ (growS n j k cs) := by
  unfold growS
  rw [suL_get]
  cases hk : cs[k % 1000]? with
  | none => rfl
  | some v =>
    cases v with
    | sl t z es =>
      cases t with
      | ex =>
        cases es with
        | nil =>
          simp only [Option.map_some, su, suL]
          cases Nat.blt k 1000
          · cases Nat.beq z (k / 1000) <;> simp [su, suL_set]
          · simp [su, suL, suL_set]
        | cons a b => simp [su, suL]
      | _ => rfl
    | int k n =>
      obtain ⟨j', m, e⟩ := su_int hσ k n
      simp only [Option.map_some]
      rw [e]
    | _ => rfl
theorem growC_su (hσ : Num σ) (n : Nat) : ∀ (ks : List Nat) (cs : List V) (j : Nat), growC n (suL σ cs) j ks = suL σ (growC n cs j ks)
  | [], cs, j => rfl
  | k :: ks, cs, j => by simp only [growC, growS_su hσ, growC_su hσ n ks]
theorem blkT_su (k : Nat) : suB σ (blkT k) = blkT k := by
  unfold blkT
  cases Nat.blt k 1000 <;> simp [suB, suL]
end
end Go.Vm
