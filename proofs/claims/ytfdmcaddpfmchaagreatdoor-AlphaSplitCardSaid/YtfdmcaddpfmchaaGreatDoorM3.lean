/-
  A part of a proof: the last text of the claim says what is proved, and under which conditions.
-/
import Derived.Test.YtfdmcaddpfmchaaGreatDoorM0
import Derived.Test.YtfdmcaddpfmchaaGreatDoorM2
import Derived.Test.YtfdmcaddpfmchaaGreatDoorM1
set_option linter.unusedSimpArgs false
set_option linter.unusedVariables false
set_option linter.unnecessarySimpa false
/- The functions of the translation as programs of the machine V. Written by gen.py out of the loaded functions. -/
namespace Go.Vm
set_option maxRecDepth 100000
def c237:VF:={ code:=sR [oO 2 (.al [.str [],.sl .ex 4 []] [])] (sR [mO 6 0,qY 7 229 6,oO 8 (.bd [.str [],.sl .ex 4 []] [(0,1,(.t 7))]),oO 3 (.al [.str [],.sl .ex 4 []] []),nO (.st true 2 (.t 3) (.t 8))] (.seq (sR [mO 9 0,oO 10 (.call 283 [(.t 9),(.c (.str [40]))]),oO 11 (.not (.t 10))] (cD 11 (sR [kY 12 2 3,nO (.st true 2 (.t 2) (.t 12))] .ret) .skip)) (.seq (.drw [dX 0 [] (fY 13 1 3),dX 1 [0] (lY 14 1 13),dX 2 [] (mO 15 0),⟨3,[2],qY 16 287 15,true,[1]⟩,dX 4 [2,3] (oO 17 (.bl 4 [(.t 16)])),⟨5,(rO 5),oO 18 (.app 4 (.t 14) (.t 17)),true,[]⟩,dX 6 (rO 6) (fY 19 1 3),⟨7,(rO 7),nO (.st false 1 (.t 19) (.t 18)),true,[]⟩]) (sR [vY 4 1] (.seq (.block 0 (.loop [0,2,3,4] (.seq (sR [mO 20 0,oO 21 (.call 283 [(.t 20),(.c (.str [44]))])] (cD 21 .skip (.exit 0))) (.block 1 (sR [mO 22 0,qY 23 287 22,oO 5 (.al [.str [],.int .i64 0,.int .i64 0,.str []] []),nO (.st true 4 (.t 5) (.t 23))] (sR [mO 24 4,bY 25 .add 24 1,mO 4 25] (sR [mO 26 4,bY 27 .leq 26 5] (cD 27 (.reg [fY 28 1 3,lY 29 1 28,kY 30 4 5,oO 31 (.bl 4 [(.t 30)]),oO 32 (.app 4 (.t 29) (.t 31)),fY 33 1 3,nO (.st false 1 (.t 33) (.t 32))]) .skip)))))))) (sR [mO 34 0,oO 35 (.call 230 [(.t 34),(.c (.str [41]))])] (.seq (sR [mO 36 4,bY 37 .gtr 36 5] (cD 37 (.reg [mO 38 0,oO 39 (.nc (.t 38)),fY 40 4 39,nO (.st false 1 (.t 40) cT)]) .skip)) (sR [kY 41 2 3,nO (.st true 2 (.t 2) (.t 41))] .ret)))))))),res:=[(2,some (true,2))] }
def c238:VF:={ code:=sR [oO 2 (.nw 5)] (.seq (sR [oO 3 (.mv cF)] (.block 0 (.loop [0,3] (.seq (sR [mO 4 3,oO 5 (.not (.t 4)),mO 6 5,gA 7 6 (mX 0),gA 8 6 (.nc (.t 7)),gA 9 6 (fX 0 8),gA 10 6 (lX 1 9),gA 11 6 (qX 232 10),uY 12 6 11] (cD 12 .skip (.exit 0))) (.block 1 (sR [mO 13 0,qY 14 288 13] (sR [mO 15 0,mO 16 0,oO 17 (.nc (.t 16)),fY 18 0 17,lY 19 1 18,qY 20 237 19,oO 21 (.bd [.int .i64 0,.str [],.sl .ex 4 [],.int .i64 0,.int .i64 0] [(0,1,(cI 1)),(1,2,(.t 20))]),rY 22 289 15 21] (.reg [mO 23 0,qY 24 290 23,mO 3 24])))))))) (sR [mO 25 0,oO 26 (.nc (.t 25)),fY 27 1 26,lY 28 1 27,mO 2 28] .ret)),res:=[(2,none)] }
def c239:VF:={ code:=sR [oO 2 (.mv cF)] (.seq (sR [mO 4 0,oO 5 (.len true (.t 4)),bY 6 .lss 5 1,mO 7 6,gB 8 7 (mX 0),gB 9 7 (.len true (.t 8)),gB 10 7 (bX .gtr 9 24),pY 11 7 10,mO 12 11,gB 13 12 (mX 0),gB 14 12 (.ix (.t 13) (cI 0)),gB 15 12 (.bin .lss (.t 14) (.c (.int .u8 65))),pY 16 12 15,mO 17 16,gB 18 17 (mX 0),gB 19 17 (.ix (.t 18) (cI 0)),gB 20 17 (.bin .gtr (.t 19) (.c (.int .u8 90))),pY 21 17 20] (cD 21 (sR [oO 2 (.mv cF)] .ret) .skip)) (.seq (sR [mO 22 0,oO 23 (.len true (.t 22)),vY 24 0] (.block 0 (.loop [0,23,24] (sR [zY 25 .lss 24 23] (.seq (cD 25 .skip (.exit 0)) (.seq (.block 1 (sR [mO 26 24,mO 3 26] (sR [mO 27 0,mO 28 3,oO 29 (.ix (.t 27) (.t 28)),qY 30 291 29,oO 31 (.not (.t 30))] (cD 31 (sR [oO 2 (.mv cF)] .ret) .skip)))) (.reg [bY 32 .add 24 1,mO 24 32]))))))) (sR [oO 2 (.mv cT)] .ret))),res:=[(2,none)] }
def c240:VF:={ code:=sR [vY 4 0] (.seq (sR [mO 6 0,nY 7 6,vY 8 0] (.block 0 (.loop [0,1,7,8] (sR [zY 9 .lss 8 7] (.seq (cD 9 .skip (.exit 0)) (.seq (.block 1 (sR [mO 10 8,mO 5 10] (sR [mO 11 1,mO 12 0,mO 13 5,iY 14 3 12 13,kY 15 3 14,oO 16 (.cv (.t 11) [(.t 15)])] (cD 16 (sR [mO 17 5,mO 4 17] .ret) .skip)))) (.reg [bY 18 .add 8 1,mO 8 18]))))))) (sR [oO 4 (.mv (.c (.int .i64 (-1))))] .ret)),res:=[(4,none)] }
def c241:VF:={ code:=sR [oO 2 (.mv cF)] (.seq (sR [mO 4 0,oO 5 (.len true (.t 4)),bY 6 .lss 5 1,mO 7 6,gB 8 7 (mX 0),gB 9 7 (.len true (.t 8)),gB 10 7 (bX .gtr 9 24),pY 11 7 10,mO 12 11,gB 13 12 (mX 0),gB 14 12 (.ix (.t 13) (cI 0)),gB 15 12 (qX 292 14),gB 16 12 (.not (.t 15)),pY 17 12 16] (cD 17 (sR [oO 2 (.mv cF)] .ret) .skip)) (.seq (sR [mO 18 0,oO 19 (.len true (.t 18)),vY 20 0] (.block 0 (.loop [0,19,20] (sR [zY 21 .lss 20 19] (.seq (cD 21 .skip (.exit 0)) (.seq (.block 1 (sR [mO 22 20,mO 3 22] (sR [mO 23 0,mO 24 3,oO 25 (.ix (.t 23) (.t 24)),qY 26 292 25,oO 27 (.not (.t 26)),mO 28 27,gA 29 28 (mX 0),gA 30 28 (mX 3),gA 31 28 (.ix (.t 29) (.t 30)),gA 32 28 (qX 293 31),gA 33 28 (.not (.t 32)),uY 34 28 33,mO 35 34,gA 36 35 (mX 0),gA 37 35 (mX 3),gA 38 35 (.ix (.t 36) (.t 37)),gA 39 35 (qX 279 38),gA 40 35 (.not (.t 39)),uY 41 35 40,mO 42 41,gA 43 42 (mX 0),gA 44 42 (mX 3),gA 45 42 (.ix (.t 43) (.t 44)),gA 46 42 (.bin .neq (.t 45) (.c (.int .u8 95))),uY 47 42 46] (cD 47 (sR [oO 2 (.mv cF)] .ret) .skip)))) (.reg [bY 48 .add 20 1,mO 20 48]))))))) (sR [oO 2 (.mv cT)] .ret))),res:=[(2,none)] }
def c242:VF:={ code:=sR [oO 2 (.mv cF)] (.seq (sR [mO 4 0,oO 5 (.len true (.t 4)),vY 6 0] (.block 0 (.loop [0,5,6] (sR [zY 7 .lss 6 5] (.seq (cD 7 .skip (.exit 0)) (.seq (.block 1 (sR [mO 8 6,mO 3 8] (sR [mO 9 0,mO 10 3,oO 11 (.ix (.t 9) (.t 10)),oO 12 (.bin .lss (.t 11) (.c (.int .u8 32))),mO 13 12,gB 14 13 (mX 0),gB 15 13 (mX 3),gB 16 13 (.ix (.t 14) (.t 15)),gB 17 13 (.bin .gtr (.t 16) (.c (.int .u8 126))),pY 18 13 17] (cD 18 (sR [oO 2 (.mv cF)] .ret) .skip)))) (.reg [bY 19 .add 6 1,mO 6 19]))))))) (sR [mO 20 0,oO 21 (.len true (.t 20)),bY 22 .leq 21 60,mO 2 22] .ret)),res:=[(2,none)] }
def c243:VF:={ code:=sR [oO 2 (.nm 4)] (sR [vY 3 0] (.seq (sR [mO 9 0,nY 10 9,vY 11 0] (.block 0 (.loop [0,3,9,10,11] (sR [zY 12 .lss 11 10] (.seq (cD 12 .skip (.exit 0)) (.seq (.block 1 (sR [iY 13 1 9 11,lY 14 1 13,mO 5 14] (sR [mO 15 3,mO 16 5,nY 17 16,zY 18 .add 15 17,mO 3 18] (sR [mO 19 3,bY 20 .lss 19 0] (cD 20 (.reg [oO 21 (.mi 9 (.c (.str [108,101,110,32,111,117,116,32,111,102,32,114,97,110,103,101]))),nO (.bad)]) .skip))))) (.reg [bY 22 .add 11 1,mO 11 22]))))))) (sR [mO 23 3,oO 24 (.call 294 [(.c (.sl .ex 4 [])),(.t 23)]),mO 6 24] (.seq (sR [mO 25 0,nY 26 25,vY 27 0] (.block 2 (.loop [6,25,26,27] (sR [zY 28 .lss 27 26] (.seq (cD 28 .skip (.exit 2)) (.seq (.block 3 (sR [iY 29 1 25 27,lY 30 1 29,mO 8 30] (.reg [mO 31 6,mO 32 8,oO 33 (.am 4 (.t 31) (.t 32)),mO 6 33]))) (.reg [bY 34 .add 27 1,mO 27 34]))))))) (sR [mO 35 6,mO 2 35] .ret))))),res:=[(2,none)],keepR:=true }
def c244:VF:={ code:=.reg [mO 4 0,mO 5 0,nY 6 5,mO 7 1,oO 8 (.call 295 [(.t 4),(.t 6),(.t 7)])],res:=[] }
def c245:VF:={ code:=sR [oO 2 (.bx (.t 0) []),oO 3 (.bx (.t 1) []),vY 4 0] (sR [fY 5 0 2,lY 6 1 5,fY 7 0 3,lY 8 1 7,rY 9 180 6 8,mO 4 9] .ret),res:=[(4,none)] }
def c246:VF:={ code:=sR [oO 2 (.nw 4)] (.seq (sR [mO 6 0,nY 7 6,bY 8 .lss 7 2] (cD 8 (sR [mO 9 0,mO 2 9] .ret) .skip)) (.seq (sR [vY 3 1] (.block 0 (.loop [0,3] (.seq (sR [mO 10 3,mO 11 0,nY 12 11,zY 13 .lss 10 12] (cD 13 .skip (.exit 0))) (.seq (.block 1 (.seq (.drw [dX 0 [] (mO 16 0),dX 1 [] (mO 17 3),dX 2 [0,1] (iY 18 4 16 17),dX 3 [0,1,2] (kY 19 4 18),dX 4 [] (mO 20 0),dX 5 [] (mO 21 3),dX 6 [5] (bY 22 .sub 21 1),dX 7 [4,5,6] (iY 23 4 20 22),dX 8 [4,5,6,7] (kY 24 4 23),dX 9 (rO 9) (oO 25 (.eqs false [2,1,1,2] (.t 19) (.t 24)))]) (cD 25 (sR [mO 26 0,mO 27 3,oO 28 (.cut false 4 (.t 26) (some (.t 27)) none none),mO 4 28] (.seq (sR [vY 5 1] (.block 2 (.loop [0,3,4,5] (.seq (sR [mO 29 5,mO 30 4,nY 31 30,zY 32 .lss 29 31] (cD 32 .skip (.exit 2))) (.seq (.block 3 (.seq (.drw [dX 0 [] (mO 35 4),dX 1 [] (mO 36 5),dX 2 [0,1] (iY 37 4 35 36),dX 3 [0,1,2] (kY 38 4 37),dX 4 [] (mO 39 4),dX 5 [] (mO 40 5),dX 6 [5] (bY 41 .sub 40 1),dX 7 [4,5,6] (iY 42 4 39 41),dX 8 [4,5,6,7] (kY 43 4 42),dX 9 (rO 9) (oO 44 (.eqs true [2,1,1,2] (.t 38) (.t 43)))]) (cD 44 (sR [mO 45 0,mO 46 3,mO 47 4,mO 48 5,iY 49 4 47 48,kY 50 4 49,iY 51 4 45 46,nO (.st true 4 (.t 51) (.t 50))] (.reg [mO 52 3,bY 53 .add 52 1,mO 3 53])) .skip))) (.reg [mO 33 5,bY 34 .add 33 1,mO 5 34])))))) (sR [mO 54 0,mO 55 3,oO 56 (.cut false 4 (.t 54) (some (.t 55)) none none),nO (.clr [.str [],.int .i64 0,.int .i64 0,.str []] (.t 56))] (sR [mO 57 0,mO 58 3,oO 59 (.cut false 4 (.t 57) none (some (.t 58)) none),mO 2 59] .ret)))) .skip))) (.reg [mO 14 3,bY 15 .add 14 1,mO 3 15])))))) (sR [mO 60 0,mO 2 60] .ret))),res:=[(2,none)],keepR:=true }
def c248:VF:={ code:=sR [vY 4 0] (sR [mO 5 0,mO 6 1,rY 7 296 5 6,mO 4 7] .ret),res:=[(4,none)] }
def c249:VF:={ code:=sR [oO 2 (.mv cF)] (sR [mO 3 0,mO 4 0,zY 5 .neq 3 4,mO 2 5] .ret),res:=[(2,none)] }
def c250:VF:={ code:=sR [oO 2 (.mv cF)] (sR [mO 3 0,bY 4 .geq 3 1,mO 5 4,gA 6 5 (mX 0),gA 7 5 (bX .leq 6 4),uY 8 5 7,mO 2 8] .ret),res:=[(2,none)] }
def c251:VF:={ code:=sR [oO 1 (.bx (.t 0) []),oO 2 (.mv cF)] (.seq (sR [fY 3 0 1,lY 4 1 3] (.block 0 (sR [bY 6 .eql 4 1,mO 5 6] (cD 5 (sR [fY 7 1 1,lY 8 1 7,qY 9 239 8,mO 10 9,gA 11 10 (fX 2 1),gA 12 10 (kX 3 11),gA 13 10 (.bd [.int .i64 0,.int .i64 0,.str []] []),gA 14 10 (.eqs false [1,1,2] (.t 12) (.t 13)),uY 15 10 14,mO 2 15] .ret) (sR [bY 17 .eql 4 2,mO 16 17] (cD 16 (sR [fY 18 1 1,lY 19 1 18,oO 20 (.bin .eql (.t 19) (.c (.str []))),mO 21 20,gA 22 21 (fX 2 1),gA 23 21 (kX 3 22),gA 24 21 (qX 170 23),gA 25 21 (bX .eql 24 0),uY 26 21 25,mO 2 26] .ret) (.seq (sR [bY 28 .eql 4 3,mO 27 28] (cD 27 .skip (sR [bY 29 .eql 4 4,mO 27 29] (cD 27 .skip (.reg [bY 30 .eql 4 5,mO 27 30]))))) (cD 27 (sR [fY 31 1 1,lY 32 1 31,oO 33 (.bin .eql (.t 32) (.c (.str []))),mO 34 33,gA 35 34 (fX 2 1),gA 36 34 (kX 3 35),gA 37 34 (.bd [.int .i64 0,.int .i64 0,.str []] []),gA 38 34 (.eqs false [1,1,2] (.t 36) (.t 37)),uY 39 34 38,mO 2 39] .ret) .skip)))))))) (sR [oO 2 (.mv cF)] .ret)),res:=[(2,none)] }
def c252:VF:={ code:=sR [oO 2 (.mv cF)] (sR [mO 3 0,bY 4 .eql 3 1,mO 5 4,gB 6 5 (mX 0),gB 7 5 (bX .eql 6 2),pY 8 5 7,mO 2 8] .ret),res:=[(2,none)] }
def c253:VF:={ code:=sR [vY 4 0] (.seq (sR [mO 6 0,nY 7 6,vY 8 0] (.block 0 (.loop [0,1,7,8] (sR [zY 9 .lss 8 7] (.seq (cD 9 .skip (.exit 0)) (.seq (.block 1 (sR [mO 10 8,mO 5 10] (sR [mO 11 1,mO 12 0,mO 13 5,iY 14 4 12 13,kY 15 4 14,oO 16 (.cv (.t 11) [(.t 15)])] (cD 16 (sR [mO 17 5,mO 4 17] .ret) .skip)))) (.reg [bY 18 .add 8 1,mO 8 18]))))))) (sR [oO 4 (.mv (.c (.int .i64 (-1))))] .ret)),res:=[(4,none)] }
def c254:VF:={ code:=sR [vY 4 0] (.seq (sR [mO 6 0,nY 7 6,vY 8 0] (.block 0 (.loop [0,1,7,8] (sR [zY 9 .lss 8 7] (.seq (cD 9 .skip (.exit 0)) (.seq (.block 1 (sR [mO 10 8,mO 5 10] (sR [mO 11 1,mO 12 0,mO 13 5,iY 14 4 12 13,kY 15 4 14,oO 16 (.cv (.t 11) [(.t 15)])] (cD 16 (sR [mO 17 5,mO 4 17] .ret) .skip)))) (.reg [bY 18 .add 8 1,mO 8 18]))))))) (sR [oO 4 (.mv (.c (.int .i64 (-1))))] .ret)),res:=[(4,none)] }
def c255:VF:={ code:=sR [oO 4 (.mv cF)] (sR [mO 5 0,mO 6 1,rY 7 297 5 6,bY 8 .geq 7 0,mO 4 8] .ret),res:=[(4,none)] }
def c256:VF:={ code:=sR [oO 4 (.nw 6)] (sR [mO 8 0,mO 9 1,rY 10 298 8 9,mO 5 10] (.seq (sR [mO 11 5,oO 12 (.bin .eql (.t 11) (.c (.int .i64 (-1))))] (cD 12 (sR [mO 13 0,mO 4 13] .ret) .skip)) (.seq (sR [mO 14 5,bY 15 .add 14 1,mO 6 15] (.block 0 (.loop [0,1,5,6] (.seq (sR [mO 16 6,mO 17 0,nY 18 17,zY 19 .lss 16 18] (cD 19 .skip (.exit 0))) (.seq (.block 1 (sR [mO 22 0,mO 23 6,iY 24 6 22 23,kY 25 6 24,oO 7 (.al [.int .i64 0,.str [],.sl .ex 4 [],.int .i64 0,.sl .ex 5 [],.sl .ex 5 []] []),nO (.st true 6 (.t 7) (.t 25))] (sR [mO 26 1,kY 27 6 7,oO 28 (.cv (.t 26) [(.t 27)]),oO 29 (.not (.t 28))] (cD 29 (sR [mO 30 0,mO 31 5,kY 32 6 7,iY 33 6 30 31,nO (.st true 6 (.t 33) (.t 32))] (.reg [mO 34 5,bY 35 .add 34 1,mO 5 35])) .skip)))) (.reg [mO 20 6,bY 21 .add 20 1,mO 6 21])))))) (sR [mO 36 0,mO 37 5,oO 38 (.cut false 6 (.t 36) (some (.t 37)) none none),nO (.clr [.int .i64 0,.str [],.sl .no 4 [],.int .i64 0,.sl .no 5 [],.sl .no 5 []] (.t 38))] (sR [mO 39 0,mO 40 5,oO 41 (.cut false 6 (.t 39) none (some (.t 40)) none),mO 4 41] .ret))))),res:=[(4,none)],keepR:=true }
def c258:VF:={ code:=sR [oO 1 (.bx (.t 0) []),oO 2 (.mv cF)] (sR [fY 3 0 1,lY 4 1 3,bY 5 .neq 4 1,mO 2 5] .ret),res:=[(2,none)] }
def c261:VF:={ code:=sR [vY 2 0] (.seq (sR [mO 3 0] (.block 0 (sR [bY 5 .eql 3 1,mO 4 5] (cD 4 (sR [vY 2 0] .ret) (.seq (sR [bY 7 .eql 3 2,mO 6 7] (cD 6 .skip (sR [bY 8 .eql 3 5,mO 6 8] (cD 6 .skip (sR [bY 9 .eql 3 6,mO 6 9] (cD 6 .skip (.reg [bY 10 .eql 3 7,mO 6 10]))))))) (cD 6 (sR [vY 2 1] .ret) (.seq (sR [bY 12 .eql 3 3,mO 11 12] (cD 11 .skip (sR [bY 13 .eql 3 4,mO 11 13] (cD 11 .skip (.reg [bY 14 .eql 3 8,mO 11 14]))))) (cD 11 (sR [vY 2 2] .ret) .skip)))))))) (sR [oO 2 (.mv (.c (.int .i64 (-1))))] .ret)),res:=[(2,none)] }
def c262:VF:={ code:=sR [oO 1 (.bx (.t 0) []),oO 2 (.mv cF)] (sR [fY 3 0 1,lY 4 1 3,oO 5 (.bin .eql (.t 4) (.c (.str []))),mO 6 5,gA 7 6 (fX 1 1),gA 8 6 (lX 1 7),gA 9 6 (nX 8),gA 10 6 (bX .eql 9 0),uY 11 6 10,mO 2 11] .ret),res:=[(2,none)] }
def c273:VF:={ code:=sR [vY 2 0] (.seq (sR [mO 3 0,oO 4 (.bin .geq (.t 3) (.c (.int .u64 4294967296)))] (cD 4 (sR [mO 5 0,oO 6 (.bin .shr (.t 5) (.c (.int .u64 32))),mO 0 6] (.reg [vY 2 32])) .skip)) (.seq (sR [mO 7 0,oO 8 (.bin .geq (.t 7) (.c (.int .u64 65536)))] (cD 8 (sR [mO 9 0,oO 10 (.bin .shr (.t 9) (.c (.int .u64 16))),mO 0 10] (.reg [mO 11 2,bY 12 .add 11 16,mO 2 12])) .skip)) (.seq (sR [mO 13 0,oO 14 (.bin .geq (.t 13) (.c (.int .u64 256)))] (cD 14 (sR [mO 15 0,oO 16 (.bin .shr (.t 15) (.c (.int .u64 8))),mO 0 16] (.reg [mO 17 2,bY 18 .add 17 8,mO 2 18])) .skip)) (sR [mO 19 2,mO 20 0,oO 21 (.wrp .u8 (.t 20)),oO 22 (.ix (.c (.str [0,1,2,2,3,3,3,3,4,4,4,4,4,4,4,4,5,5,5,5,5,5,5,5,5,5,5,5,5,5,5,5,6,6,6,6,6,6,6,6,6,6,6,6,6,6,6,6,6,6,6,6,6,6,6,6,6,6,6,6,6,6,6,6,7,7,7,7,7,7,7,7,7,7,7,7,7,7,7,7,7,7,7,7,7,7,7,7,7,7,7,7,7,7,7,7,7,7,7,7,7,7,7,7,7,7,7,7,7,7,7,7,7,7,7,7,7,7,7,7,7,7,7,7,7,7,7,7,8,8,8,8,8,8,8,8,8,8,8,8,8,8,8,8,8,8,8,8,8,8,8,8,8,8,8,8,8,8,8,8,8,8,8,8,8,8,8,8,8,8,8,8,8,8,8,8,8,8,8,8,8,8,8,8,8,8,8,8,8,8,8,8,8,8,8,8,8,8,8,8,8,8,8,8,8,8,8,8,8,8,8,8,8,8,8,8,8,8,8,8,8,8,8,8,8,8,8,8,8,8,8,8,8,8,8,8,8,8,8,8,8,8,8,8,8,8,8,8,8,8,8,8,8,8,8,8])) (.t 21)),oO 23 (.wrp .i64 (.t 22)),zY 24 .add 19 23,mO 2 24] .ret)))),res:=[(2,none)] }
def c275:VF:={ code:=sR [vY 4 0] (sR [mO 5 0,mO 6 1,rY 7 305 5 6,mO 4 7] .ret),res:=[(4,none)] }
def c276:VF:={ code:=sR [oO 4 (.mv (.c (.str []))),oO 5 (.mv cF)] (sR [mO 6 0,mO 7 1,rY 8 306 6 7,eY 9 8 0,eY 10 8 1,mO 4 9,mO 5 10] .ret),res:=[(4,none),(5,none)] }
def c277:VF:={ code:=sR [oO 4 (.mv (.c (.str [])))] (.seq (sR [mO 7 0,oO 8 (.bin .eql (.t 7) (.c (.str []))),mO 9 8,gB 10 9 (mX 1),gB 11 9 (.bin .eql (.t 10) (.c (.str []))),pY 12 9 11] (cD 12 (sR [mO 13 0,mO 4 13] .ret) .skip)) (.seq (sR [mO 14 1,oO 15 (.len true (.t 14)),bY 16 .eql 15 1,mO 17 16,gA 18 17 (mX 1),gA 19 17 (.ix (.t 18) (cI 0)),gA 20 17 (.bin .lss (.t 19) (.c (.int .u8 128))),uY 21 17 20] (cD 21 (sR [mO 22 0,mO 23 1,oO 24 (.ix (.t 23) (cI 0)),rY 25 307 22 24,mO 4 25] .ret) .skip)) (.seq (sR [mO 27 1,qY 28 308 27,mO 26 28,eY 29 26 0,eY 30 26 1,oO 5 (.al [.bool false,.bool false,.bool false,.bool false,.bool false,.bool false,.bool false,.bool false,.bool false,.bool false,.bool false,.bool false,.bool false,.bool false,.bool false,.bool false,.bool false,.bool false,.bool false,.bool false,.bool false,.bool false,.bool false,.bool false,.bool false,.bool false,.bool false,.bool false,.bool false,.bool false,.bool false,.bool false,.bool false,.bool false,.bool false,.bool false,.bool false,.bool false,.bool false,.bool false,.bool false,.bool false,.bool false,.bool false,.bool false,.bool false,.bool false,.bool false,.bool false,.bool false,.bool false,.bool false,.bool false,.bool false,.bool false,.bool false,.bool false,.bool false,.bool false,.bool false,.bool false,.bool false,.bool false,.bool false,.bool false,.bool false,.bool false,.bool false,.bool false,.bool false,.bool false,.bool false,.bool false,.bool false,.bool false,.bool false,.bool false,.bool false,.bool false,.bool false,.bool false,.bool false,.bool false,.bool false,.bool false,.bool false,.bool false,.bool false,.bool false,.bool false,.bool false,.bool false,.bool false,.bool false,.bool false,.bool false,.bool false,.bool false,.bool false,.bool false,.bool false,.bool false,.bool false,.bool false,.bool false,.bool false,.bool false,.bool false,.bool false,.bool false,.bool false,.bool false,.bool false,.bool false,.bool false,.bool false,.bool false,.bool false,.bool false,.bool false,.bool false,.bool false,.bool false,.bool false,.bool false,.bool false,.bool false,.bool false,.bool false,.bool false,.bool false,.bool false,.bool false,.bool false,.bool false,.bool false,.bool false,.bool false,.bool false,.bool false,.bool false,.bool false,.bool false,.bool false,.bool false,.bool false,.bool false,.bool false,.bool false,.bool false,.bool false,.bool false,.bool false,.bool false,.bool false,.bool false,.bool false,.bool false,.bool false,.bool false,.bool false,.bool false,.bool false,.bool false,.bool false,.bool false,.bool false,.bool false,.bool false,.bool false,.bool false,.bool false,.bool false,.bool false,.bool false,.bool false,.bool false,.bool false,.bool false,.bool false,.bool false,.bool false,.bool false,.bool false,.bool false,.bool false,.bool false,.bool false,.bool false,.bool false,.bool false,.bool false,.bool false,.bool false,.bool false,.bool false,.bool false,.bool false,.bool false,.bool false,.bool false,.bool false,.bool false,.bool false,.bool false,.bool false,.bool false,.bool false,.bool false,.bool false,.bool false,.bool false,.bool false,.bool false,.bool false,.bool false,.bool false,.bool false,.bool false,.bool false,.bool false,.bool false,.bool false,.bool false,.bool false,.bool false,.bool false,.bool false,.bool false,.bool false,.bool false,.bool false,.bool false,.bool false,.bool false,.bool false,.bool false,.bool false,.bool false,.bool false,.bool false,.bool false,.bool false,.bool false,.bool false,.bool false,.bool false,.bool false,.bool false,.bool false,.bool false,.bool false,.bool false,.bool false,.bool false,.bool false] []),nO (.st true 256 (.t 5) (.t 29)),mO 6 30] (sR [mO 31 6] (cD 31 (sR [mO 32 0,rY 33 309 32 5,mO 4 33] .ret) .skip))) (sR [mO 34 0,mO 35 1,rY 36 310 34 35,mO 4 36] .ret)))),res:=[(4,none)] }
def c278:VF:={ code:=sR [oO 2 (.mv (.c (.str [])))] (sR [oO 3 (.nw 1)] (.seq (sR [vY 4 1] (.block 0 (.loop [0,3,4] (.seq (sR [mO 5 4,mO 6 0,oO 7 (.len true (.t 6)),bY 8 .sub 7 1,zY 9 .lss 5 8] (cD 9 .skip (.exit 0))) (.seq (.block 1 (.seq (sR [mO 12 0,mO 13 4,oO 14 (.ix (.t 12) (.t 13)),oO 15 (.bin .eql (.t 14) (.c (.int .u8 92))),mO 16 15,gA 17 16 (mX 4),gA 18 16 (bX .add 17 1),gA 19 16 (mX 0),gA 20 16 (.len true (.t 19)),gA 21 16 (bX .sub 20 1),gA 22 16 (zX .lss 18 21),uY 23 16 22] (cD 23 (.reg [mO 24 4,bY 25 .add 24 1,mO 4 25]) .skip)) (.reg [mO 26 3,mO 27 0,mO 28 4,oO 29 (.ix (.t 27) (.t 28)),oO 30 (.bl 1 [(.t 29)]),oO 31 (.app 1 (.t 26) (.t 30)),mO 3 31]))) (.reg [mO 10 4,bY 11 .add 10 1,mO 4 11])))))) (sR [mO 32 3,oO 33 (.b2s (.t 32)),mO 2 33] .ret))),res:=[(2,none)] }
def c279:VF:={ code:=sR [oO 2 (.mv cF)] (sR [mO 3 0,oO 4 (.bin .geq (.t 3) (.c (.int .u8 48))),mO 5 4,gA 6 5 (mX 0),gA 7 5 (.bin .leq (.t 6) (.c (.int .u8 57))),uY 8 5 7,mO 2 8] .ret),res:=[(2,none)] }
def c280:VF:={ code:=sR [vY 2 0,oO 3 (.mv (.c (.nili)))] (sR [mO 7 0,qY 8 311 7,mO 6 8,eY 9 6 0,eY 10 6 1,mO 4 9,mO 5 10] (.seq (sR [mO 11 5,oO 12 (.eqn 1 true (.t 11))] (cD 12 (sR [mO 13 4,mO 14 0,mO 15 5,oO 16 (.call 312 [(.c (.str [65,116,111,105])),(.t 14),(cI 0),(cI 0),(.t 15)]),mO 2 13,mO 3 16] .ret) .skip)) (sR [mO 17 4,mO 2 17,oO 3 (.mv (.c (.nili)))] .ret))),res:=[(2,none),(3,none)] }
def c281:VF:={ code:=sR [oO 1 (.bx (.t 0) []),oO 2 (.mv (.c (.str []))),vY 3 0] (sR [kY 5 3 1,qY 6 170 5,mO 4 6] (.seq (.block 0 (sR [mO 8 4,bY 9 .neq 8 0,mO 7 9] (cD 7 (sR [mO 10 4,oO 2 (.mv (.c (.str []))),mO 3 10] .ret) (sR [fY 12 0 1,lY 13 1 12,bY 14 .eql 13 1,mO 11 14] (cD 11 (sR [fY 15 1 1,lY 16 1 15,qY 17 313 16,mO 2 17,vY 3 0] .ret) (sR [fY 19 0 1,lY 20 1 19,bY 21 .eql 20 2,mO 18 21] (cD 18 (sR [fY 22 2 1,lY 23 1 22,mO 2 23,vY 3 0] .ret) .skip))))))) (sR [fY 24 2 1,lY 25 1 24,qY 26 314 25,mO 2 26,vY 3 0] .ret))),res:=[(2,none),(3,none)] }
def c282:VF:={ code:=sR [oO 4 (.mv cF)] (sR [mO 5 0,mO 6 1,rY 7 315 5 6,mO 4 7] .ret),res:=[(4,none)] }
def c283:VF:={ code:=sR [oO 4 (.mv cF)] (sR [mO 6 0,mO 7 1,oO 8 (.call 284 [(.t 6),(cI 5),(.t 7)]),mO 5 8] (.seq (sR [mO 9 5] (cD 9 (.reg [mO 10 0,oO 11 (.nc (.t 10)),fY 12 1 11,lY 13 1 12,bY 14 .add 13 1,oO 15 (.nc (.t 10)),fY 16 1 15,nO (.st false 1 (.t 16) (.t 14))]) .skip)) (sR [mO 17 5,mO 4 17] .ret))),res:=[(4,none)] }
def c284:VF:={ code:=sR [oO 6 (.mv cF)] (.seq (.drw [dX 0 [] (mO 7 0),⟨1,[0],qY 8 232 7,true,[]⟩,dX 2 [0,1] (mO 9 8),dX 3 [0,1,2] (gA 10 9 (mX 0)),dX 4 (rO 4) (gA 11 9 (.nc (.t 10))),dX 5 (rO 5) (gA 12 9 (fX 1 11)),dX 6 (rO 6) (gA 13 9 (lX 1 12)),dX 7 [0,1,2] (gA 14 9 (mX 0)),dX 8 [0,1,2,7] (gA 15 9 (.nc (.t 14))),dX 9 [0,1,2,7,8] (gA 16 9 (fX 0 15)),dX 10 [0,1,2,7,8,9] (gA 17 9 (lX 1 16)),dX 11 [0,1,2,7,8,9,10] (gA 18 9 (nX 17)),dX 12 (rO 12) (gA 19 9 (zX .lss 13 18)),dX 13 (rO 13) (uY 20 9 19),dX 14 (rO 14) (mO 21 20),dX 15 (rO 15) (gA 22 21 (mX 0)),dX 16 (rO 16) (gA 23 21 (.nc (.t 22))),dX 17 (rO 17) (gA 24 21 (fX 0 23)),dX 18 (rO 18) (gA 25 21 (lX 1 24)),dX 19 (rO 15) (gA 26 21 (mX 0)),dX 20 [0,1,2,3,4,5,6,7,8,9,10,11,12,13,14,19] (gA 27 21 (.nc (.t 26))),dX 21 [0,1,2,3,4,5,6,7,8,9,10,11,12,13,14,19,20] (gA 28 21 (fX 1 27)),dX 22 [0,1,2,3,4,5,6,7,8,9,10,11,12,13,14,19,20,21] (gA 29 21 (lX 1 28)),dX 23 (rO 23) (gA 30 21 (iX 4 25 29)),dX 24 (rO 24) (gA 31 21 (fX 0 30)),dX 25 (rO 25) (gA 32 21 (lX 1 31)),dX 26 (rO 15) (gA 33 21 (mX 1)),dX 27 (rO 27) (gA 34 21 (zX .eql 32 33)),dX 28 (rO 28) (uY 35 21 34),dX 29 (rO 29) (mO 36 35),dX 30 (rO 30) (gA 37 36 (mX 0)),dX 31 (rO 31) (gA 38 36 (.nc (.t 37))),dX 32 (rO 32) (gA 39 36 (fX 0 38)),dX 33 (rO 33) (gA 40 36 (lX 1 39)),dX 34 (rO 30) (gA 41 36 (mX 0)),dX 35 [0,1,2,3,4,5,6,7,8,9,10,11,12,13,14,15,16,17,18,19,20,21,22,23,24,25,26,27,28,29,34] (gA 42 36 (.nc (.t 41))),dX 36 [0,1,2,3,4,5,6,7,8,9,10,11,12,13,14,15,16,17,18,19,20,21,22,23,24,25,26,27,28,29,34,35] (gA 43 36 (fX 1 42)),dX 37 [0,1,2,3,4,5,6,7,8,9,10,11,12,13,14,15,16,17,18,19,20,21,22,23,24,25,26,27,28,29,34,35,36] (gA 44 36 (lX 1 43)),dX 38 (rO 38) (gA 45 36 (iX 4 40 44)),dX 39 (rO 39) (gA 46 36 (fX 1 45)),dX 40 (rO 40) (gA 47 36 (lX 1 46)),dX 41 (rO 30) (gA 48 36 (mX 2)),dX 42 (rO 42) (gA 49 36 (zX .eql 47 48)),dX 43 (rO 43) (uY 50 36 49),dX 44 (rO 44) (mO 6 50)]) .ret),res:=[(6,none)] }
def c285:VF:={ code:=sR [oO 1 (.bx (.t 0) []),oO 2 (.al [.int .i64 0,.str [],.sl .ex 4 [],.int .i64 0,.sl .ex 5 [],.sl .ex 5 []] [])] (.seq (sR [fY 4 0 1,lY 5 1 4,oO 6 (.call 283 [(.t 5),(.c (.str [91]))])] (cD 6 (sR [fY 7 0 1,lY 8 1 7,qY 9 316 8,oO 10 (.bd [.int .i64 0,.str [],.sl .ex 4 [],.int .i64 0,.sl .ex 5 [],.sl .ex 5 []] [(0,1,(cI 3)),(4,1,(.t 9))]),oO 3 (.al [.int .i64 0,.str [],.sl .ex 4 [],.int .i64 0,.sl .ex 5 [],.sl .ex 5 []] []),nO (.st true 6 (.t 3) (.t 10))] (sR [kY 11 1 1,qY 12 317 11,fY 13 3 3,nO (.st false 1 (.t 13) (.t 12))] (sR [fY 14 0 1,lY 15 1 14,qY 16 316 15,fY 17 5 3,nO (.st false 1 (.t 17) (.t 16))] (sR [fY 18 0 1,lY 19 1 18,oO 20 (.call 230 [(.t 19),(.c (.str [93]))])] (sR [kY 21 6 3,nO (.st true 6 (.t 2) (.t 21))] .ret))))) .skip)) (.seq (sR [fY 22 0 1,lY 23 1 22,oO 24 (.call 234 [(.t 23),(.c (.str [110,111,116]))])] (cD 24 (sR [fY 25 0 1,lY 26 1 25,qY 27 237 26,oO 28 (.bd [.int .i64 0,.str [],.sl .ex 4 [],.int .i64 0,.sl .ex 5 [],.sl .ex 5 []] [(0,1,(cI 2)),(1,2,(.t 27))]),nO (.st true 6 (.t 2) (.t 28))] .ret) .skip)) (sR [fY 29 0 1,lY 30 1 29,qY 31 237 30,oO 32 (.bd [.int .i64 0,.str [],.sl .ex 4 [],.int .i64 0,.sl .ex 5 [],.sl .ex 5 []] [(0,1,(cI 1)),(1,2,(.t 31))]),nO (.st true 6 (.t 2) (.t 32))] .ret))),res:=[(2,some (true,6))] }
def c286:VF:={ code:=sR [oO 1 (.bx (.t 0) []),oO 2 (.al [.int .i64 0,.str [],.sl .ex 1 [],.int .i64 0] [])] (.seq (sR [fY 6 0 1,lY 7 1 6,oO 8 (.call 234 [(.t 7),(.c (.str [100,114,111,112]))])] (cD 8 (sR [fY 9 0 1,lY 10 1 9,qY 11 231 10,mO 3 11] (.seq (sR [fY 12 0 1,lY 13 1 12,qY 14 232 13,mO 15 14,gA 16 15 (mX 3),gA 17 15 (bX .lss 16 0),uY 18 15 17] (cD 18 (sR [fY 19 0 1,lY 20 1 19,oO 21 (.nc (.t 20)),fY 22 2 21,nO (.st false 1 (.t 22) cT)] (.reg [fY 23 0 1,lY 24 1 23,oO 25 (.nc (.t 24)),fY 26 1 25,lY 27 1 26,bY 28 .sub 27 1,oO 29 (.nc (.t 24)),fY 30 1 29,nO (.st false 1 (.t 30) (.t 28))])) .skip)) (sR [mO 31 3,oO 32 (.bd [.int .i64 0,.str [],.sl .ex 1 [],.int .i64 0] [(0,1,(cI 2)),(3,1,(.t 31))]),nO (.st true 4 (.t 2) (.t 32))] .ret))) .skip)) (sR [fY 33 0 1,lY 34 1 33,oO 35 (.call 230 [(.t 34),(.c (.str [43]))])] (sR [fY 36 0 1,lY 37 1 36,qY 38 229 37,oO 39 (.bd [.int .i64 0,.str [],.sl .ex 1 [],.int .i64 0] [(0,1,(cI 1)),(1,1,(.t 38))]),oO 4 (.al [.int .i64 0,.str [],.sl .ex 1 [],.int .i64 0] []),nO (.st true 4 (.t 4) (.t 39))] (.seq (sR [fY 40 0 1,lY 41 1 40,oO 42 (.call 283 [(.t 41),(.c (.str [40]))]),oO 43 (.not (.t 42))] (cD 43 (sR [kY 44 4 4,nO (.st true 4 (.t 2) (.t 44))] .ret) .skip)) (.seq (.drw [dX 0 [] (fY 45 2 4),dX 1 [0] (lY 46 1 45),dX 2 [] (fY 47 0 1),dX 3 [2] (lY 48 1 47),⟨4,[2,3],qY 49 316 48,true,[1]⟩,dX 5 [2,3,4] (oO 50 (.bl 1 [(.t 49)])),⟨6,(rO 6),oO 51 (.app 1 (.t 46) (.t 50)),true,[]⟩,dX 7 (rO 7) (fY 52 2 4),⟨8,(rO 8),nO (.st false 1 (.t 52) (.t 51)),true,[]⟩]) (.seq (.block 0 (.loop [1,2,4] (.seq (sR [fY 53 0 1,lY 54 1 53,oO 55 (.call 283 [(.t 54),(.c (.str [44]))])] (cD 55 .skip (.exit 0))) (.block 1 (sR [fY 56 0 1,lY 57 1 56,qY 58 316 57,mO 5 58] (sR [fY 59 2 4,lY 60 1 59,nY 61 60,bY 62 .leq 61 5] (cD 62 (.reg [fY 63 2 4,lY 64 1 63,mO 65 5,oO 66 (.bl 1 [(.t 65)]),oO 67 (.app 1 (.t 64) (.t 66)),fY 68 2 4,nO (.st false 1 (.t 68) (.t 67))]) .skip))))))) (sR [fY 69 0 1,lY 70 1 69,oO 71 (.call 230 [(.t 70),(.c (.str [41]))])] (sR [kY 72 4 4,nO (.st true 4 (.t 2) (.t 72))] .ret)))))))),res:=[(2,some (true,4))] }
def c287:VF:={ code:=sR [oO 2 (.al [.str [],.int .i64 0,.int .i64 0,.str []] [])] (.seq (sR [mO 5 0,qY 6 232 5,oO 7 (.not (.t 6))] (cD 7 (sR [oO 8 (.bd [.str [],.int .i64 0,.int .i64 0,.str []] []),nO (.st true 4 (.t 2) (.t 8))] .ret) .skip)) (.seq (.seq (.drw [dX 0 [] (mO 9 0),dX 1 [0] (oO 10 (.nc (.t 9))),dX 2 [0,1] (fY 11 1 10),dX 3 [0,1,2] (lY 12 1 11),dX 4 [] (mO 13 0),dX 5 [4] (oO 14 (.nc (.t 13))),dX 6 [4,5] (fY 15 0 14),dX 7 [4,5,6] (lY 16 1 15),dX 8 [4,5,6,7] (nY 17 16),dX 9 (rO 9) (zY 18 .lss 12 17)]) (cD 18 (.seq (.drw [dX 0 [] (mO 20 0),dX 1 [0] (oO 21 (.nc (.t 20))),dX 2 [0,1] (fY 22 0 21),dX 3 [0,1,2] (lY 23 1 22),dX 4 [] (mO 24 0),dX 5 [4] (oO 25 (.nc (.t 24))),dX 6 [4,5] (fY 26 1 25),dX 7 [4,5,6] (lY 27 1 26),dX 8 (rO 8) (iY 28 4 23 27),dX 9 (rO 9) (kY 29 4 28),dX 10 (rO 10) (qY 30 318 29),dX 11 (rO 11) (mO 19 30),dX 12 (rO 12) (eY 31 19 0),dX 13 (rO 12) (eY 32 19 1),⟨14,[],oO 3 (.al [.str [],.int .i64 0,.int .i64 0,.str []] []),true,[3,7,8,9,10]⟩,⟨15,[0,1,2,3,4,5,6,7,8,9,10,11,12,14],nO (.st true 4 (.t 3) (.t 31)),true,[]⟩,dX 16 (rO 16) (mO 4 32)]) (sR [mO 33 4] (cD 33 (sR [mO 34 0,oO 35 (.nc (.t 34)),fY 36 1 35,lY 37 1 36,bY 38 .add 37 1,oO 39 (.nc (.t 34)),fY 40 1 39,nO (.st false 1 (.t 40) (.t 38))] (sR [kY 41 4 3,nO (.st true 4 (.t 2) (.t 41))] .ret)) .skip))) .skip)) (sR [mO 42 0,oO 43 (.nc (.t 42)),fY 44 2 43,nO (.st false 1 (.t 44) cT)] (sR [oO 45 (.bd [.str [],.int .i64 0,.int .i64 0,.str []] []),nO (.st true 4 (.t 2) (.t 45))] .ret)))),res:=[(2,some (true,4))] }
def c288:VF:={ code:=.block 0 (.loop [0] (.block 1 (sR [mO 3 0,oO 4 (.call 320 []),rY 5 319 3 4,mO 2 5] (.seq (sR [mO 6 2,bY 7 .eql 6 0,mO 8 7,gA 9 8 (mX 0),gA 10 8 (.nc (.t 9)),gA 11 8 (fX 0 10),gA 12 8 (lX 1 11),gA 13 8 (.call 283 [(.t 12),(.c (.str [40]))]),gA 14 8 (.not (.t 13)),uY 15 8 14] (cD 15 .ret .skip)) (.reg [mO 16 0,mO 17 0,oO 18 (.nc (.t 17)),fY 19 2 18,lY 20 1 19,mO 21 2,oO 22 (.bd [.int .i64 0,.int .i64 0] [(0,1,(.t 21))]),oO 23 (.bm 2 [(.t 22)]),oO 24 (.am 2 (.t 20) (.t 23)),oO 25 (.nc (.t 16)),fY 26 2 25,nO (.st false 1 (.t 26) (.t 24))]))))),res:=[] }
def c289:VF:={ code:=sR [oO 3 (.bx (.t 1) [])] (.drw [dX 0 [] (mO 4 0),dX 1 [] (mO 5 0),dX 2 [1] (oO 6 (.nc (.t 5))),dX 3 [1,2] (fY 7 1 6),dX 4 [1,2,3] (lY 8 1 7),dX 5 [] (kY 9 5 3),dX 6 [5] (oO 10 (.bl 5 [(.t 9)])),⟨7,[1,2,3,4,5,6],oO 11 (.app 5 (.t 8) (.t 10)),true,[]⟩,dX 8 (rO 8) (oO 12 (.nc (.t 4))),dX 9 (rO 9) (fY 13 1 12),⟨10,(rO 10),nO (.st false 1 (.t 13) (.t 11)),true,[]⟩]),res:=[] }
def c290:VF:={ code:=sR [oO 2 (.mv cF)] (.seq (.block 0 (.loop [0] (.seq (sR [mO 7 0,oO 8 (.nc (.t 7)),fY 9 2 8,lY 10 1 9,nY 11 10,bY 12 .gtr 11 0,mO 13 12,gA 14 13 (mX 0),gA 15 13 (.nc (.t 14)),gA 16 13 (fX 0 15),gA 17 13 (lX 1 16),gA 18 13 (qX 232 17),uY 19 13 18] (cD 19 .skip (.exit 0))) (.block 1 (.seq (.drw [dX 0 [] (mO 20 0),dX 1 [0] (oO 21 (.nc (.t 20))),dX 2 [0,1] (fY 22 2 21),dX 3 [0,1,2] (lY 23 1 22),dX 4 (rO 4) (nY 24 23),dX 5 (rO 5) (bY 25 .sub 24 1),dX 6 [] (mO 26 0),dX 7 [6] (oO 27 (.nc (.t 26))),dX 8 [6,7] (fY 28 1 27),dX 9 [6,7,8] (lY 29 1 28),dX 10 [6,7,8,9] (nY 30 29),dX 11 [6,7,8,9,10] (bY 31 .sub 30 1),dX 12 (rO 6) (mO 3 25),dX 13 (rO 13) (mO 4 31)]) (sR [mO 32 0,oO 33 (.nc (.t 32)),fY 34 2 33,lY 35 1 34,mO 36 3,iY 37 2 35 36,kY 38 2 37,oO 5 (.al [.int .i64 0,.int .i64 0] []),nO (.st true 2 (.t 5) (.t 38))] (sR [fY 39 0 5,lY 40 1 39,qY 41 261 40] (.block 2 (sR [bY 63 .eql 41 1,mO 62 63] (cD 62 (sR [mO 64 0,fY 65 0 5,lY 66 1 65,mO 67 4,oO 68 (.bd [.int .i64 0,.str [],.sl .ex 4 [],.int .i64 0,.int .i64 0] [(0,1,(.t 66)),(3,1,(.t 67))]),rY 69 289 64 68] (.reg [mO 70 0,mO 71 0,oO 72 (.nc (.t 71)),fY 73 2 72,lY 74 1 73,mO 75 3,oO 76 (.cut false 2 (.t 74) none (some (.t 75)) none),oO 77 (.nc (.t 70)),fY 78 2 77,nO (.st false 1 (.t 78) (.t 76))])) (sR [bY 80 .eql 41 2,mO 79 80] (cD 79 (sR [mO 81 0,oO 82 (.nc (.t 81)),fY 83 0 82,lY 84 1 83,oO 85 (.call 230 [(.t 84),(.c (.str [41]))])] (sR [mO 86 0,fY 87 0 5,lY 88 1 87,fY 89 1 5,lY 90 1 89,mO 91 4,oO 92 (.bd [.int .i64 0,.str [],.sl .ex 4 [],.int .i64 0,.int .i64 0] [(0,1,(.t 88)),(3,1,(.t 90)),(4,1,(.t 91))]),rY 93 289 86 92] (.reg [mO 94 0,mO 95 0,oO 96 (.nc (.t 95)),fY 97 2 96,lY 98 1 97,mO 99 3,oO 100 (.cut false 2 (.t 98) none (some (.t 99)) none),oO 101 (.nc (.t 94)),fY 102 2 101,nO (.st false 1 (.t 102) (.t 100))]))) (sR [mO 42 0,oO 43 (.call 321 []),rY 44 319 42 43,mO 6 44] (.seq (sR [mO 45 6,bY 46 .eql 45 0] (cD 46 (sR [mO 47 0,oO 48 (.nc (.t 47)),fY 49 0 48,lY 50 1 49,oO 51 (.nc (.t 50)),fY 52 2 51,nO (.st false 1 (.t 52) cT)] (sR [oO 2 (.mv cT)] .ret)) .skip)) (sR [mO 53 0,oO 54 (.nc (.t 53)),fY 55 2 54,lY 56 1 55,mO 57 3,mO 58 6,mO 59 4,oO 60 (.bd [.int .i64 0,.int .i64 0] [(0,1,(.t 58)),(1,1,(.t 59))]),iY 61 2 56 57,nO (.st true 2 (.t 61) (.t 60))] (sR [oO 2 (.mv cF)] .ret)))))))))))))))) (sR [oO 2 (.mv cT)] .ret)),res:=[(2,none)] }
def c291:VF:={ code:=sR [oO 2 (.mv cF)] (sR [mO 3 0,oO 4 (.bin .geq (.t 3) (.c (.int .u8 97))),mO 5 4,gA 6 5 (mX 0),gA 7 5 (.bin .leq (.t 6) (.c (.int .u8 122))),uY 8 5 7,mO 9 8,gB 10 9 (mX 0),gB 11 9 (.bin .geq (.t 10) (.c (.int .u8 65))),gB 12 9 (mX 11),gA 13 12 (mX 0),gA 14 12 (.bin .leq (.t 13) (.c (.int .u8 90))),gB 15 9 (uX 12 14),pY 16 9 15,mO 17 16,gB 18 17 (mX 0),gB 19 17 (.bin .geq (.t 18) (.c (.int .u8 48))),gB 20 17 (mX 19),gA 21 20 (mX 0),gA 22 20 (.bin .leq (.t 21) (.c (.int .u8 57))),gB 23 17 (uX 20 22),pY 24 17 23,mO 25 24,gB 26 25 (mX 0),gB 27 25 (.bin .eql (.t 26) (.c (.int .u8 95))),pY 28 25 27,mO 2 28] .ret),res:=[(2,none)] }
def c292:VF:={ code:=sR [oO 2 (.mv cF)] (sR [mO 3 0,oO 4 (.bin .geq (.t 3) (.c (.int .u8 97))),mO 5 4,gA 6 5 (mX 0),gA 7 5 (.bin .leq (.t 6) (.c (.int .u8 122))),uY 8 5 7,mO 2 8] .ret),res:=[(2,none)] }
def c293:VF:={ code:=sR [oO 2 (.mv cF)] (sR [mO 3 0,oO 4 (.bin .geq (.t 3) (.c (.int .u8 65))),mO 5 4,gA 6 5 (mX 0),gA 7 5 (.bin .leq (.t 6) (.c (.int .u8 90))),uY 8 5 7,mO 2 8] .ret),res:=[(2,none)] }
def c294:VF:={ code:=sR [oO 4 (.nm 4)] (.seq (sR [mO 5 1,bY 6 .lss 5 0] (cD 6 (.reg [oO 7 (.mi 9 (.c (.str [99,97,110,110,111,116,32,98,101,32,110,101,103,97,116,105,118,101]))),nO (.bad)]) .skip)) (.seq (sR [mO 8 1,mO 9 0,oO 10 (.cap (.t 9)),mO 11 0,nY 12 11,zY 13 .sub 10 12,zY 14 .sub 8 13,mO 1 14] (sR [mO 15 1,bY 16 .gtr 15 0] (cD 16 (.reg [mO 17 0,mO 18 0,oO 19 (.cap (.t 18)),oO 20 (.cut false 4 (.t 17) none (some (.t 19)) none),mO 21 1,oO 22 (.az true [.str [],.int .i64 0,.int .i64 0,.str []] (.t 20) (.t 21)),mO 23 0,nY 24 23,oO 25 (.cut false 4 (.t 22) none (some (.t 24)) none),mO 0 25]) .skip))) (sR [mO 26 0,mO 4 26] .ret))),res:=[(4,none)],keepR:=true }
def c295:VF:={ code:=sR [vY 6 20] (sR [mO 10 6,vY 7 0,mO 8 10] (.seq (.block 0 (.loop [0,1,2,6,7,8] (.seq (sR [mO 11 8,mO 12 1,zY 13 .leq 11 12] (cD 13 .skip (.exit 0))) (.block 1 (sR [mO 14 0,mO 15 7,mO 16 8,mO 17 2,oO 18 (.call 322 [(.t 14),(.t 15),(.t 16),(.t 17)])] (sR [mO 19 8,mO 7 19] (.reg [mO 20 8,mO 21 6,zY 22 .add 20 21,mO 8 22]))))))) (sR [mO 23 0,mO 24 7,mO 25 1,mO 26 2,oO 27 (.call 322 [(.t 23),(.t 24),(.t 25),(.t 26)])] (.block 2 (.loop [0,1,2,6] (.seq (sR [mO 28 6,mO 29 1,zY 30 .lss 28 29] (cD 30 .skip (.exit 2))) (.block 3 (sR [mO 31 6,oO 32 (.bin .mul (cI 2) (.t 31)),vY 7 0,mO 8 32] (.seq (.block 4 (.loop [0,1,2,6,7,8] (.seq (sR [mO 33 8,mO 34 1,zY 35 .leq 33 34] (cD 35 .skip (.exit 4))) (.block 5 (sR [mO 36 0,mO 37 7,mO 38 7,mO 39 6,zY 40 .add 38 39,mO 41 8,mO 42 2,oO 43 (.call 323 [(.t 36),(.t 37),(.t 40),(.t 41),(.t 42)])] (sR [mO 44 8,mO 7 44] (.reg [mO 45 8,mO 46 6,oO 47 (.bin .mul (cI 2) (.t 46)),zY 48 .add 45 47,mO 8 48]))))))) (.seq (sR [mO 49 7,mO 50 6,zY 51 .add 49 50,mO 9 51] (sR [mO 52 9,mO 53 1,zY 54 .lss 52 53] (cD 54 (.reg [mO 55 0,mO 56 7,mO 57 9,mO 58 1,mO 59 2,oO 60 (.call 323 [(.t 55),(.t 56),(.t 57),(.t 58),(.t 59)])]) .skip))) (.reg [mO 61 6,bY 62 .mul 61 2,mO 6 62]))))))))))),res:=[] }
def c297:VF:={ code:=sR [vY 4 0] (.seq (sR [mO 6 0,nY 7 6,vY 8 0] (.block 0 (.loop [0,1,7,8] (sR [zY 9 .lss 8 7] (.seq (cD 9 .skip (.exit 0)) (.seq (.block 1 (sR [mO 10 8,mO 5 10] (sR [mO 11 1,mO 12 0,mO 13 5,iY 14 1 12 13,lY 15 1 14,zY 16 .eql 11 15] (cD 16 (sR [mO 17 5,mO 4 17] .ret) .skip)))) (.reg [bY 18 .add 8 1,mO 8 18]))))))) (sR [oO 4 (.mv (.c (.int .i64 (-1))))] .ret)),res:=[(4,none)] }
def c298:VF:={ code:=sR [vY 4 0] (.seq (sR [mO 6 0,nY 7 6,vY 8 0] (.block 0 (.loop [0,1,7,8] (sR [zY 9 .lss 8 7] (.seq (cD 9 .skip (.exit 0)) (.seq (.block 1 (sR [mO 10 8,mO 5 10] (sR [mO 11 1,mO 12 0,mO 13 5,iY 14 6 12 13,kY 15 6 14,oO 16 (.cv (.t 11) [(.t 15)])] (cD 16 (sR [mO 17 5,mO 4 17] .ret) .skip)))) (.reg [bY 18 .add 8 1,mO 8 18]))))))) (sR [oO 4 (.mv (.c (.int .i64 (-1))))] .ret)),res:=[(4,none)] }
def c306:VF:={ code:=sR [oO 4 (.mv (.c (.str []))),oO 5 (.mv cF)] (.seq (sR [mO 6 0,mO 7 1,rY 8 315 6 7,oO 9 (.not (.t 8))] (cD 9 (sR [mO 10 0,mO 4 10,oO 5 (.mv cF)] .ret) .skip)) (sR [mO 11 0,mO 12 1,oO 13 (.len true (.t 12)),oO 14 (.cut true 1 (.t 11) (some (.t 13)) none none),mO 4 14,oO 5 (.mv cT)] .ret)),res:=[(4,none),(5,none)] }
def c307:VF:={ code:=sR [oO 4 (.mv (.c (.str [])))] (.seq (.block 0 (.loop [0,1] (.seq (sR [mO 5 0,oO 6 (.len true (.t 5)),bY 7 .gtr 6 0,mO 8 7,gA 9 8 (mX 0),gA 10 8 (.ix (.t 9) (cI 0)),gA 11 8 (mX 1),gA 12 8 (zX .eql 10 11),uY 13 8 12] (cD 13 .skip (.exit 0))) (.block 1 (.reg [mO 14 0,oO 15 (.cut true 1 (.t 14) (some (cI 1)) none none),mO 0 15]))))) (sR [mO 16 0,mO 4 16] .ret)),res:=[(4,none)] }
def c308:VF:={ code:=sR [oO 2 (.al [.bool false,.bool false,.bool false,.bool false,.bool false,.bool false,.bool false,.bool false,.bool false,.bool false,.bool false,.bool false,.bool false,.bool false,.bool false,.bool false,.bool false,.bool false,.bool false,.bool false,.bool false,.bool false,.bool false,.bool false,.bool false,.bool false,.bool false,.bool false,.bool false,.bool false,.bool false,.bool false,.bool false,.bool false,.bool false,.bool false,.bool false,.bool false,.bool false,.bool false,.bool false,.bool false,.bool false,.bool false,.bool false,.bool false,.bool false,.bool false,.bool false,.bool false,.bool false,.bool false,.bool false,.bool false,.bool false,.bool false,.bool false,.bool false,.bool false,.bool false,.bool false,.bool false,.bool false,.bool false,.bool false,.bool false,.bool false,.bool false,.bool false,.bool false,.bool false,.bool false,.bool false,.bool false,.bool false,.bool false,.bool false,.bool false,.bool false,.bool false,.bool false,.bool false,.bool false,.bool false,.bool false,.bool false,.bool false,.bool false,.bool false,.bool false,.bool false,.bool false,.bool false,.bool false,.bool false,.bool false,.bool false,.bool false,.bool false,.bool false,.bool false,.bool false,.bool false,.bool false,.bool false,.bool false,.bool false,.bool false,.bool false,.bool false,.bool false,.bool false,.bool false,.bool false,.bool false,.bool false,.bool false,.bool false,.bool false,.bool false,.bool false,.bool false,.bool false,.bool false,.bool false,.bool false,.bool false,.bool false,.bool false,.bool false,.bool false,.bool false,.bool false,.bool false,.bool false,.bool false,.bool false,.bool false,.bool false,.bool false,.bool false,.bool false,.bool false,.bool false,.bool false,.bool false,.bool false,.bool false,.bool false,.bool false,.bool false,.bool false,.bool false,.bool false,.bool false,.bool false,.bool false,.bool false,.bool false,.bool false,.bool false,.bool false,.bool false,.bool false,.bool false,.bool false,.bool false,.bool false,.bool false,.bool false,.bool false,.bool false,.bool false,.bool false,.bool false,.bool false,.bool false,.bool false,.bool false,.bool false,.bool false,.bool false,.bool false,.bool false,.bool false,.bool false,.bool false,.bool false,.bool false,.bool false,.bool false,.bool false,.bool false,.bool false,.bool false,.bool false,.bool false,.bool false,.bool false,.bool false,.bool false,.bool false,.bool false,.bool false,.bool false,.bool false,.bool false,.bool false,.bool false,.bool false,.bool false,.bool false,.bool false,.bool false,.bool false,.bool false,.bool false,.bool false,.bool false,.bool false,.bool false,.bool false,.bool false,.bool false,.bool false,.bool false,.bool false,.bool false,.bool false,.bool false,.bool false,.bool false,.bool false,.bool false,.bool false,.bool false,.bool false,.bool false,.bool false,.bool false,.bool false,.bool false,.bool false,.bool false,.bool false,.bool false,.bool false,.bool false,.bool false,.bool false,.bool false,.bool false,.bool false,.bool false,.bool false,.bool false] []),oO 3 (.mv cF)] (.seq (sR [vY 4 0] (.block 0 (.loop [0,2,4] (.seq (sR [mO 6 4,mO 7 0,oO 8 (.len true (.t 7)),zY 9 .lss 6 8] (cD 9 .skip (.exit 0))) (.seq (.block 1 (sR [mO 12 0,mO 13 4,oO 14 (.ix (.t 12) (.t 13)),mO 5 14] (.seq (sR [mO 15 5,oO 16 (.bin .geq (.t 15) (.c (.int .u8 128)))] (cD 16 (sR [kY 17 256 2,nO (.st true 256 (.t 2) (.t 17)),oO 3 (.mv cF)] .ret) .skip)) (.reg [mO 18 5,oO 19 (.ia (some 256) 1 (.t 2) (.t 18)),nO (.st false 1 (.t 19) cT)])))) (.reg [mO 10 4,bY 11 .add 10 1,mO 4 11])))))) (sR [kY 20 256 2,nO (.st true 256 (.t 2) (.t 20)),oO 3 (.mv cT)] .ret)),res:=[(2,some (true,256)),(3,none)] }
def c309:VF:={ code:=sR [oO 4 (.mv (.c (.str [])))] (.seq (.block 0 (.loop [0,1] (.seq (sR [mO 5 0,oO 6 (.len true (.t 5)),bY 7 .gtr 6 0] (cD 7 .skip (.exit 0))) (.block 1 (.seq (sR [mO 8 1,mO 9 0,oO 10 (.ix (.t 9) (cI 0)),rY 11 325 8 10,oO 12 (.not (.t 11))] (cD 12 (.exit 0) .skip)) (.reg [mO 13 0,oO 14 (.cut true 1 (.t 13) (some (cI 1)) none none),mO 0 14])))))) (sR [mO 15 0,mO 4 15] .ret)),res:=[(4,none)] }
def c310:VF:={ code:=sR [oO 4 (.mv (.c (.str [])))] (.seq (.block 0 (.loop [0,1] (.seq (sR [mO 7 0,oO 8 (.len true (.t 7)),bY 9 .gtr 8 0] (cD 9 .skip (.exit 0))) (.block 1 (sR [mO 11 0,qY 12 326 11,mO 10 12,eY 13 10 0,eY 14 10 1,mO 5 13,mO 6 14] (.seq (sR [mO 15 1,mO 16 5,rY 17 327 15 16,oO 18 (.not (.t 17))] (cD 18 (.exit 0) .skip)) (.reg [mO 19 0,mO 20 6,oO 21 (.cut true 1 (.t 19) (some (.t 20)) none none),mO 0 21]))))))) (sR [mO 22 0,mO 4 22] .ret)),res:=[(4,none)] }
def c311:VF:={ code:=sR [vY 2 0,oO 3 (.mv (.c (.nili)))] (sR [mO 11 0,oO 12 (.len true (.t 11)),mO 4 12] (.seq (sR [oO 13 (.mv cF),gA 14 13 (mX 4),gA 15 13 (.bin .lss (cI 0) (.t 14)),gA 16 13 (mX 15),gA 17 16 (mX 4),gA 18 16 (bX .lss 17 10),gA 19 13 (uX 16 18),uY 20 13 19,mO 21 20,gB 22 21 (.mv cT),gA 23 22 (mX 4),gA 24 22 (.bin .lss (cI 0) (.t 23)),gA 25 22 (mX 24),gA 26 25 (mX 4),gA 27 25 (bX .lss 26 19),gA 28 22 (uX 25 27),gB 29 21 (uX 22 28),pY 30 21 29] (cD 30 (sR [mO 31 0,mO 5 31] (.seq (sR [mO 32 0,oO 33 (.ix (.t 32) (cI 0)),oO 34 (.bin .eql (.t 33) (.c (.int .u8 45))),mO 35 34,gB 36 35 (mX 0),gB 37 35 (.ix (.t 36) (cI 0)),gB 38 35 (.bin .eql (.t 37) (.c (.int .u8 43))),pY 39 35 38] (cD 39 (sR [mO 40 0,oO 41 (.cut true 1 (.t 40) (some (cI 1)) none none),mO 0 41] (sR [mO 42 0,oO 43 (.len true (.t 42)),bY 44 .lss 43 1] (cD 44 (sR [oO 45 (.mi 341 (cI 2)),vY 2 0,mO 3 45] .ret) .skip))) .skip)) (sR [vY 6 0] (.seq (sR [mO 46 0,oO 47 (.s2b (.t 46)),nY 48 47,vY 49 0] (.block 0 (.loop [5,6,47,48,49] (sR [zY 50 .lss 49 48] (.seq (cD 50 .skip (.exit 0)) (.seq (.block 1 (sR [iY 51 1 47 49,lY 52 1 51,mO 8 52] (sR [mO 53 8,oO 54 (.bin .sub (.t 53) (.c (.int .u8 48))),mO 8 54] (.seq (sR [mO 55 8,oO 56 (.bin .gtr (.t 55) (.c (.int .u8 9)))] (cD 56 (sR [oO 57 (.mi 341 (cI 2)),vY 2 0,mO 3 57] .ret) .skip)) (.reg [mO 58 6,bY 59 .mul 58 10,mO 60 8,oO 61 (.wrp .i64 (.t 60)),zY 62 .add 59 61,mO 6 62]))))) (.reg [bY 63 .add 49 1,mO 49 63]))))))) (.seq (sR [mO 64 5,oO 65 (.ix (.t 64) (cI 0)),oO 66 (.bin .eql (.t 65) (.c (.int .u8 45)))] (cD 66 (.reg [mO 67 6,oO 68 (.neg (.t 67)),mO 6 68]) .skip)) (sR [mO 69 6,mO 2 69,oO 3 (.mv (.c (.nili)))] .ret)))))) .skip)) (sR [mO 71 0,oO 72 (.call 328 [(.t 71),(cI 10),(cI 0)]),mO 70 72,eY 73 70 0,eY 74 70 1,mO 9 73,mO 10 74] (sR [mO 75 9,mO 76 10,mO 2 75,mO 3 76] .ret)))),res:=[(2,none),(3,none)] }
def c312:VF:={ code:=sR [oO 10 (.mv (.c (.nili)))] (.seq (sR [mO 11 4] (.block 0 (sR [oO 13 (.mi 341 (cI 2)),oO 14 (.bad),mO 12 14] (cD 12 (sR [mO 15 0,mO 16 1,rY 17 329 15 16,oO 18 (.mi 344 (.t 17)),mO 10 18] .ret) (sR [oO 20 (.mi 341 (cI 1)),oO 21 (.bad),mO 19 21] (cD 19 (sR [mO 22 0,mO 23 1,rY 24 330 22 23,oO 25 (.mi 344 (.t 24)),mO 10 25] .ret) (sR [oO 27 (.mi 341 (cI 3)),oO 28 (.bad),mO 26 28] (cD 26 (sR [mO 29 0,mO 30 1,mO 31 2,oO 32 (.call 331 [(.t 29),(.t 30),(.t 31)]),oO 33 (.mi 344 (.t 32)),mO 10 33] .ret) (sR [oO 35 (.mi 341 (cI 4)),oO 36 (.bad),mO 34 36] (cD 34 (sR [mO 37 0,mO 38 1,mO 39 3,oO 40 (.call 332 [(.t 37),(.t 38),(.t 39)]),oO 41 (.mi 344 (.t 40)),mO 10 41] .ret) .skip)))))))))) (sR [mO 42 4,mO 10 42] .ret)),res:=[(10,none)] }
def c313:VF:={ code:=sR [oO 2 (.mv (.c (.str [])))] (sR [mO 3 0,qY 4 333 3,mO 2 4] .ret),res:=[(2,none)] }
def c314:VF:={ code:=sR [oO 2 (.mv (.c (.str [])))] (sR [oO 5 (.bl 1 [(.c (.int .u8 34))]),mO 3 5] (.seq (sR [mO 6 0,oO 7 (.len true (.t 6)),vY 8 0] (.block 0 (.loop [0,3,7,8] (sR [zY 9 .lss 8 7] (.seq (cD 9 .skip (.exit 0)) (.seq (.block 1 (sR [mO 10 8,mO 4 10] (.seq (sR [mO 11 0,mO 12 4,oO 13 (.ix (.t 11) (.t 12)),oO 14 (.bin .eql (.t 13) (.c (.int .u8 34))),mO 15 14,gB 16 15 (mX 0),gB 17 15 (mX 4),gB 18 15 (.ix (.t 16) (.t 17)),gB 19 15 (.bin .eql (.t 18) (.c (.int .u8 92))),pY 20 15 19] (cD 20 (.reg [mO 21 3,oO 22 (.bl 1 [(.c (.int .u8 92))]),oO 23 (.app 1 (.t 21) (.t 22)),mO 3 23]) .skip)) (.reg [mO 24 3,mO 25 0,mO 26 4,oO 27 (.ix (.t 25) (.t 26)),oO 28 (.bl 1 [(.t 27)]),oO 29 (.app 1 (.t 24) (.t 28)),mO 3 29])))) (.reg [bY 30 .add 8 1,mO 8 30]))))))) (sR [mO 31 3,oO 32 (.bl 1 [(.c (.int .u8 34))]),oO 33 (.app 1 (.t 31) (.t 32)),oO 34 (.b2s (.t 33)),mO 2 34] .ret))),res:=[(2,none)] }
def c315:VF:={ code:=sR [oO 4 (.mv cF)] (sR [mO 5 0,oO 6 (.len true (.t 5)),mO 7 1,oO 8 (.len true (.t 7)),zY 9 .geq 6 8,mO 10 9,gA 11 10 (mX 0),gA 12 10 (mX 1),gA 13 10 (.len true (.t 12)),gA 14 10 (.cut true 1 (.t 11) none (some (.t 13)) none),gA 15 10 (mX 1),gA 16 10 (zX .eql 14 15),uY 17 10 16,mO 4 17] .ret),res:=[(4,none)] }
def c316:VF:={ code:=sR [oO 2 (.nw 5)] (.seq (sR [mO 4 0,qY 5 232 4,oO 6 (.not (.t 5))] (cD 6 (sR [oO 2 (.nw 5)] .ret) .skip)) (sR [mO 7 0,oO 8 (.call 334 [(.t 7),(cI 0)]),mO 3 8] (.seq (sR [mO 9 3,nY 10 9,bY 11 .gtr 10 15] (cD 11 (.reg [mO 12 0,oO 13 (.nc (.t 12)),fY 14 4 13,nO (.st false 1 (.t 14) cT)]) .skip)) (sR [mO 15 3,mO 2 15] .ret)))),res:=[(2,none)] }
def c317:VF:={ code:=sR [oO 1 (.bx (.t 0) []),vY 2 0] (.seq (sR [oO 5 (.call 335 []),nY 6 5,vY 7 0] (.block 0 (.loop [1,5,6,7] (sR [zY 8 .lss 7 6] (.seq (cD 8 .skip (.exit 0)) (.seq (.block 1 (sR [mO 9 7,iY 10 1 5 7,lY 11 1 10,mO 3 9,mO 4 11] (sR [fY 12 0 1,lY 13 1 12,mO 14 4,rY 15 283 13 14] (cD 15 (sR [mO 16 3,oO 17 (.bin .add (cI 1) (.t 16)),mO 2 17] .ret) .skip)))) (.reg [bY 18 .add 7 1,mO 7 18]))))))) (.seq (sR [fY 19 0 1,lY 20 1 19,qY 21 232 20] (cD 21 (.reg [fY 22 0 1,lY 23 1 22,oO 24 (.nc (.t 23)),fY 25 2 24,nO (.st false 1 (.t 25) cT)]) .skip)) (sR [vY 2 0] .ret))),res:=[(2,none)] }
def c318:VF:={ code:=sR [oO 1 (.bx (.t 0) []),oO 2 (.al [.str [],.int .i64 0,.int .i64 0,.str []] []),oO 3 (.mv cF)] (.seq (sR [fY 9 0 1,lY 10 1 9] (.block 0 (sR [bY 12 .eql 10 2,mO 11 12] (cD 11 (.seq (.drw [dX 0 [] (fY 13 1 1),dX 1 [0] (lY 14 1 13),dX 2 [0,1] (oO 15 (.bd [.str [],.int .i64 0,.int .i64 0,.str []] [(0,1,(.t 14))])),dX 3 [] (fY 16 1 1),dX 4 [3] (lY 17 1 16),dX 5 [3,4] (qY 18 239 17),⟨6,(rO 6),nO (.st true 4 (.t 2) (.t 15)),true,[]⟩,dX 7 (rO 7) (mO 3 18)]) .ret) (sR [bY 20 .eql 10 3,mO 19 20] (cD 19 (sR [fY 22 1 1,lY 23 1 22,qY 24 223 23,mO 21 24,eY 25 21 0,eY 26 21 1,oO 4 (.al [.int .i64 0,.int .i64 0,.str []] []),nO (.st true 3 (.t 4) (.t 25)),mO 5 26] (sR [kY 27 3 4,oO 28 (.bd [.str [],.int .i64 0,.int .i64 0,.str []] [(1,3,(.t 27))]),mO 29 5,nO (.st true 4 (.t 2) (.t 28)),mO 3 29] .ret)) .skip)))))) (sR [fY 31 1 1,lY 32 1 31,qY 33 225 32,mO 30 33,eY 34 30 0,eY 35 30 1,oO 6 (.al [.int .i64 0,.int .i64 0,.str []] []),nO (.st true 3 (.t 6) (.t 34)),mO 7 35] (sR [mO 36 7,bY 37 .eql 36 0,mO 38 37,gA 39 38 (fX 0 1),gA 40 38 (lX 1 39),gA 41 38 (bX .eql 40 1),gA 42 38 (mX 41),gA 43 42 (fX 0 6),gA 44 42 (lX 1 43),gA 45 42 (bX .eql 44 2),gA 46 38 (uX 42 45),gA 47 38 (mX 46),gB 48 47 (fX 0 1),gB 49 47 (lX 1 48),gB 50 47 (bX .eql 49 4),gB 51 47 (mX 50),gA 52 51 (fX 0 6),gA 53 51 (lX 1 52),gA 54 51 (bX .eql 53 3),gB 55 47 (uX 51 54),gA 56 38 (pX 47 55),uY 57 38 56,mO 8 57] (sR [kY 58 3 6,oO 59 (.bd [.str [],.int .i64 0,.int .i64 0,.str []] [(1,3,(.t 58))]),mO 60 8,nO (.st true 4 (.t 2) (.t 59)),mO 3 60] .ret)))),res:=[(2,some (true,4)),(3,none)] }
def c319:VF:={ code:=sR [vY 4 0] (.seq (sR [vY 5 2] (.block 0 (.loop [0,1,5] (.seq (sR [mO 8 5,bY 9 .leq 8 8] (cD 9 .skip (.exit 0))) (.seq (.block 1 (sR [mO 13 1,mO 14 5,oO 15 (.mg true (some .i64) (.str []) (.t 13) (.t 14)),mO 12 15,eY 16 12 0,eY 17 12 1,mO 6 16,mO 7 17] (sR [mO 18 7,mO 19 18,gA 20 19 (mX 0),gA 21 19 (.nc (.t 20)),gA 22 19 (fX 0 21),gA 23 19 (lX 1 22),gA 24 19 (mX 6),gA 25 19 (rX 234 23 24),uY 26 19 25] (cD 26 (sR [mO 27 5,mO 4 27] .ret) .skip)))) (.reg [mO 10 5,bY 11 .add 10 1,mO 5 11])))))) (sR [vY 4 0] .ret)),res:=[(4,none)] }
def c320:VF:={ code:=sR [oO 0 (.mv (.c (.nilm)))] (sR [oO 1 (.mm),nO (.mu (some .i64) (.t 1) (cI 2) (.c (.str [110,111,116]))),nO (.mu (some .i64) (.t 1) (cI 5) (.c (.str [98,101,102,111,114,101]))),nO (.mu (some .i64) (.t 1) (cI 6) (.c (.str [111,110,99,101]))),nO (.mu (some .i64) (.t 1) (cI 7) (.c (.str [97,108,119,97,121,115]))),mO 2 1,mO 0 2] .ret),res:=[(0,none)] }
def c321:VF:={ code:=sR [oO 0 (.mv (.c (.nilm)))] (sR [oO 1 (.mm),nO (.mu (some .i64) (.t 1) (cI 3) (.c (.str [97,110,100]))),nO (.mu (some .i64) (.t 1) (cI 4) (.c (.str [111,114]))),nO (.mu (some .i64) (.t 1) (cI 8) (.c (.str [115,105,110,99,101]))),mO 2 1,mO 0 2] .ret),res:=[(0,none)] }
def c322:VF:={ code:=sR [mO 10 1,bY 11 .add 10 1,mO 8 11] (.block 0 (.loop [0,1,2,3,8] (.seq (sR [mO 12 8,mO 13 2,zY 14 .lss 12 13] (cD 14 .skip (.exit 0))) (.seq (.block 1 (sR [mO 17 8,mO 9 17] (.block 2 (.loop [0,1,2,3,8,9] (.seq (.seq (.drw [dX 0 [] (mO 18 9),dX 1 [] (mO 19 1),dX 2 [0,1] (zY 20 .gtr 18 19),dX 3 [0,1,2] (mO 21 20),dX 4 (rO 4) (gA 22 21 (mX 3)),dX 5 (rO 4) (gA 23 21 (mX 0)),dX 6 (rO 4) (gA 24 21 (mX 9)),dX 7 [0,1,2,3,5,6] (gA 25 21 (iX 4 23 24)),dX 8 [0,1,2,3,5,6,7] (gA 26 21 (kX 4 25)),dX 9 (rO 4) (gA 27 21 (mX 0)),dX 10 (rO 4) (gA 28 21 (mX 9)),dX 11 [0,1,2,3,10] (gA 29 21 (bX .sub 28 1)),dX 12 [0,1,2,3,9,10,11] (gA 30 21 (iX 4 27 29)),dX 13 [0,1,2,3,9,10,11,12] (gA 31 21 (kX 4 30)),⟨14,(rO 14),gA 32 21 (.cv (.t 22) [(.t 26),(.t 31)]),true,[]⟩,dX 15 (rO 15) (gA 33 21 (bX .lss 32 0)),dX 16 (rO 16) (uY 34 21 33)]) (cD 34 .skip (.exit 2))) (.seq (.block 3 (.drw [dX 0 [] (mO 37 0),dX 1 [] (mO 38 9),dX 2 [] (mO 39 0),dX 3 [] (mO 40 9),dX 4 [3] (bY 41 .sub 40 1),dX 5 [] (mO 42 0),dX 6 [] (mO 43 9),dX 7 [6] (bY 44 .sub 43 1),dX 8 [5,6,7] (iY 45 4 42 44),dX 9 [5,6,7,8] (kY 46 4 45),dX 10 [] (mO 47 0),dX 11 [] (mO 48 9),dX 12 [10,11] (iY 49 4 47 48),dX 13 [10,11,12] (kY 50 4 49),dX 14 [0,1,5,6,7,8,9,10,11,12,13] (iY 51 4 37 38),⟨15,[0,1,5,6,7,8,9,10,11,12,13,14],nO (.st true 4 (.t 51) (.t 46)),true,[]⟩,dX 16 (rO 16) (iY 52 4 39 41),⟨17,(rO 17),nO (.st true 4 (.t 52) (.t 50)),true,[]⟩])) (.reg [mO 35 9,bY 36 .sub 35 1,mO 9 36]))))))) (.reg [mO 15 8,bY 16 .add 15 1,mO 8 16]))))),res:=[] }
def c323:VF:={ code:=.seq (sR [mO 25 2,mO 26 1,zY 27 .sub 25 26,bY 28 .eql 27 1] (cD 28 (sR [mO 29 2,mO 10 29] (sR [mO 30 3,mO 11 30] (.seq (.block 0 (.loop [0,1,4,10,11] (.seq (sR [mO 31 10,mO 32 11,zY 33 .lss 31 32] (cD 33 .skip (.exit 0))) (.block 1 (sR [mO 34 10,mO 35 11,zY 36 .add 34 35,oO 37 (.wrp .u64 (.t 36)),oO 38 (.bin .shr (.t 37) (.c (.int .u64 1))),oO 39 (.wrp .i64 (.t 38)),mO 12 39] (.seq (.drw [dX 0 [] (mO 40 4),dX 1 [] (mO 41 0),dX 2 [] (mO 42 12),dX 3 [1,2] (iY 43 4 41 42),dX 4 [1,2,3] (kY 44 4 43),dX 5 [] (mO 45 0),dX 6 [] (mO 46 1),dX 7 [5,6] (iY 47 4 45 46),dX 8 [5,6,7] (kY 48 4 47),⟨9,(rO 9),oO 49 (.cv (.t 40) [(.t 44),(.t 48)]),true,[]⟩,dX 10 (rO 10) (bY 50 .lss 49 0)]) (cD 50 (.reg [mO 51 12,bY 52 .add 51 1,mO 10 52]) (.reg [mO 53 12,mO 11 53])))))))) (.seq (sR [mO 54 1,mO 13 54] (.block 2 (.loop [0,10,13] (.seq (sR [mO 55 13,mO 56 10,bY 57 .sub 56 1,zY 58 .lss 55 57] (cD 58 .skip (.exit 2))) (.seq (.block 3 (.drw [dX 0 [] (mO 61 0),dX 1 [] (mO 62 13),dX 2 [] (mO 63 0),dX 3 [] (mO 64 13),dX 4 [3] (bY 65 .add 64 1),dX 5 [] (mO 66 0),dX 6 [] (mO 67 13),dX 7 [6] (bY 68 .add 67 1),dX 8 [5,6,7] (iY 69 4 66 68),dX 9 [5,6,7,8] (kY 70 4 69),dX 10 [] (mO 71 0),dX 11 [] (mO 72 13),dX 12 [10,11] (iY 73 4 71 72),dX 13 [10,11,12] (kY 74 4 73),dX 14 [0,1,5,6,7,8,9,10,11,12,13] (iY 75 4 61 62),⟨15,[0,1,5,6,7,8,9,10,11,12,13,14],nO (.st true 4 (.t 75) (.t 70)),true,[]⟩,dX 16 (rO 16) (iY 76 4 63 65),⟨17,(rO 17),nO (.st true 4 (.t 76) (.t 74)),true,[]⟩])) (.reg [mO 59 13,bY 60 .add 59 1,mO 13 60])))))) .ret)))) .skip)) (.seq (sR [mO 77 3,mO 78 2,zY 79 .sub 77 78,bY 80 .eql 79 1] (cD 80 (sR [mO 81 1,mO 14 81] (sR [mO 82 2,mO 15 82] (.seq (.block 4 (.loop [0,2,4,14,15] (.seq (sR [mO 83 14,mO 84 15,zY 85 .lss 83 84] (cD 85 .skip (.exit 4))) (.block 5 (sR [mO 86 14,mO 87 15,zY 88 .add 86 87,oO 89 (.wrp .u64 (.t 88)),oO 90 (.bin .shr (.t 89) (.c (.int .u64 1))),oO 91 (.wrp .i64 (.t 90)),mO 16 91] (.seq (.drw [dX 0 [] (mO 92 4),dX 1 [] (mO 93 0),dX 2 [] (mO 94 2),dX 3 [1,2] (iY 95 4 93 94),dX 4 [1,2,3] (kY 96 4 95),dX 5 [] (mO 97 0),dX 6 [] (mO 98 16),dX 7 [5,6] (iY 99 4 97 98),dX 8 [5,6,7] (kY 100 4 99),⟨9,(rO 9),oO 101 (.cv (.t 92) [(.t 96),(.t 100)]),true,[]⟩,dX 10 (rO 10) (bY 102 .lss 101 0),dX 11 (rO 11) (oO 103 (.not (.t 102)))]) (cD 103 (.reg [mO 104 16,bY 105 .add 104 1,mO 14 105]) (.reg [mO 106 16,mO 15 106])))))))) (.seq (sR [mO 107 2,mO 17 107] (.block 6 (.loop [0,14,17] (.seq (sR [mO 108 17,mO 109 14,zY 110 .gtr 108 109] (cD 110 .skip (.exit 6))) (.seq (.block 7 (.drw [dX 0 [] (mO 113 0),dX 1 [] (mO 114 17),dX 2 [] (mO 115 0),dX 3 [] (mO 116 17),dX 4 [3] (bY 117 .sub 116 1),dX 5 [] (mO 118 0),dX 6 [] (mO 119 17),dX 7 [6] (bY 120 .sub 119 1),dX 8 [5,6,7] (iY 121 4 118 120),dX 9 [5,6,7,8] (kY 122 4 121),dX 10 [] (mO 123 0),dX 11 [] (mO 124 17),dX 12 [10,11] (iY 125 4 123 124),dX 13 [10,11,12] (kY 126 4 125),dX 14 [0,1,5,6,7,8,9,10,11,12,13] (iY 127 4 113 114),⟨15,[0,1,5,6,7,8,9,10,11,12,13,14],nO (.st true 4 (.t 127) (.t 122)),true,[]⟩,dX 16 (rO 16) (iY 128 4 115 117),⟨17,(rO 17),nO (.st true 4 (.t 128) (.t 126)),true,[]⟩])) (.reg [mO 111 17,bY 112 .sub 111 1,mO 17 112])))))) .ret)))) .skip)) (sR [mO 129 1,mO 130 3,zY 131 .add 129 130,oO 132 (.wrp .u64 (.t 131)),oO 133 (.bin .shr (.t 132) (.c (.int .u64 1))),oO 134 (.wrp .i64 (.t 133)),mO 18 134] (sR [mO 135 18,mO 136 2,zY 137 .add 135 136,mO 19 137] (sR [vY 20 0,vY 21 0] (.seq (sR [mO 138 2,mO 139 18,zY 140 .gtr 138 139] (cD 140 (sR [mO 141 19,mO 142 3,zY 143 .sub 141 142,mO 20 143] (.reg [mO 144 18,mO 21 144])) (sR [mO 145 1,mO 20 145] (.reg [mO 146 2,mO 21 146])))) (sR [mO 147 19,bY 148 .sub 147 1,mO 22 148] (.seq (.block 8 (.loop [0,1,2,3,4,18,19,20,21,22] (.seq (sR [mO 149 20,mO 150 21,zY 151 .lss 149 150] (cD 151 .skip (.exit 8))) (.block 9 (sR [mO 152 20,mO 153 21,zY 154 .add 152 153,oO 155 (.wrp .u64 (.t 154)),oO 156 (.bin .shr (.t 155) (.c (.int .u64 1))),oO 157 (.wrp .i64 (.t 156)),mO 23 157] (.seq (.drw [dX 0 [] (mO 158 4),dX 1 [] (mO 159 0),dX 2 [] (mO 160 22),dX 3 [] (mO 161 23),dX 4 [2,3] (zY 162 .sub 160 161),dX 5 [1,2,3,4] (iY 163 4 159 162),dX 6 [1,2,3,4,5] (kY 164 4 163),dX 7 [] (mO 165 0),dX 8 [] (mO 166 23),dX 9 [7,8] (iY 167 4 165 166),dX 10 [7,8,9] (kY 168 4 167),⟨11,(rO 11),oO 169 (.cv (.t 158) [(.t 164),(.t 168)]),true,[]⟩,dX 12 (rO 12) (bY 170 .lss 169 0),dX 13 (rO 13) (oO 171 (.not (.t 170)))]) (cD 171 (.reg [mO 172 23,bY 173 .add 172 1,mO 20 173]) (.reg [mO 174 23,mO 21 174])))))))) (sR [mO 175 19,mO 176 20,zY 177 .sub 175 176,mO 24 177] (.seq (sR [mO 178 20,mO 179 2,zY 180 .lss 178 179,mO 181 180,gA 182 181 (mX 2),gA 183 181 (mX 24),gA 184 181 (zX .lss 182 183),uY 185 181 184] (cD 185 (.reg [mO 186 0,mO 187 20,mO 188 2,mO 189 24,mO 190 4,oO 191 (.call 336 [(.t 186),(.t 187),(.t 188),(.t 189),(.t 190)])]) .skip)) (.seq (sR [mO 192 1,mO 193 20,zY 194 .lss 192 193,mO 195 194,gA 196 195 (mX 20),gA 197 195 (mX 18),gA 198 195 (zX .lss 196 197),uY 199 195 198] (cD 199 (.reg [mO 200 0,mO 201 1,mO 202 20,mO 203 18,mO 204 4,oO 205 (.call 323 [(.t 200),(.t 201),(.t 202),(.t 203),(.t 204)])]) .skip)) (sR [mO 206 18,mO 207 24,zY 208 .lss 206 207,mO 209 208,gA 210 209 (mX 24),gA 211 209 (mX 3),gA 212 209 (zX .lss 210 211),uY 213 209 212] (cD 213 (.reg [mO 214 0,mO 215 18,mO 216 24,mO 217 3,mO 218 4,oO 219 (.call 323 [(.t 214),(.t 215),(.t 216),(.t 217),(.t 218)])]) .skip)))))))))))),res:=[] }
def c325:VF:={ code:=sR [oO 4 (.mv cF)] (sR [mO 5 0,mO 6 1,oO 7 (.nc (.t 5)),oO 8 (.ia (some 256) 1 (.t 7) (.t 6)),lY 9 1 8,mO 4 9] .ret),res:=[(4,none)] }
def c326:VF:={ code:=sR [oO 2 (.mv (.c (.int .i32 0))),vY 3 0] (.seq (sR [mO 4 0,oO 5 (.bin .neq (.t 4) (.c (.str []))),mO 6 5,gA 7 6 (mX 0),gA 8 6 (.ix (.t 7) (cI 0)),gA 9 6 (.bin .lss (.t 8) (.c (.int .u8 128))),uY 10 6 9] (cD 10 (sR [mO 11 0,oO 12 (.ix (.t 11) (cI 0)),oO 13 (.wrp .i32 (.t 12)),mO 2 13,vY 3 1] .ret) (.reg [mO 15 0,qY 16 337 15,mO 14 16,eY 17 14 0,eY 18 14 1,mO 2 17,mO 3 18]))) .ret),res:=[(2,none),(3,none)] }
def c327:VF:={ code:=sR [oO 4 (.mv cF)] (sR [mO 5 0,mO 6 1,rY 7 338 5 6,bY 8 .geq 7 0,mO 4 8] .ret),res:=[(4,none)] }
def c328:VF:={ code:=sR [vY 6 0,oO 7 (.mv (.c (.nili)))] (.seq (sR [mO 12 0,oO 13 (.bin .eql (.t 12) (.c (.str [])))] (cD 13 (sR [oO 14 (.mi 341 (cI 2)),vY 6 0,mO 7 14] .ret) .skip)) (sR [oO 8 (.mv cF)] (.seq (sR [mO 15 0,oO 16 (.ix (.t 15) (cI 0))] (.block 0 (sR [oO 18 (.bin .eql (.t 16) (.c (.int .u8 43))),mO 17 18] (cD 17 (.reg [mO 19 0,oO 20 (.cut true 1 (.t 19) (some (cI 1)) none none),mO 0 20]) (sR [oO 22 (.bin .eql (.t 16) (.c (.int .u8 45))),mO 21 22] (cD 21 (sR [mO 23 0,oO 24 (.cut true 1 (.t 23) (some (cI 1)) none none),mO 0 24] (.reg [oO 8 (.mv cT)])) .skip)))))) (sR [oO 9 (.mv (.c (.int .u64 0)))] (sR [mO 26 0,mO 27 1,mO 28 2,oO 29 (.call 339 [(.t 26),(.t 27),(.t 28)]),mO 25 29,eY 30 25 0,eY 31 25 1,mO 9 30,mO 7 31] (.seq (sR [mO 32 7,oO 33 (.eqn 1 true (.t 32)),mO 34 33,gA 35 34 (mX 7),gA 36 34 (.mi 341 (cI 1)),gA 37 34 (.bad),uY 38 34 37] (cD 38 (sR [mO 39 7,vY 6 0,mO 7 39] .ret) .skip)) (.seq (sR [mO 40 2,bY 41 .eql 40 0] (cD 41 (.reg [vY 2 64]) .skip)) (sR [mO 42 2,bY 43 .sub 42 1,oO 44 (.wrp .u64 (.t 43)),oO 45 (.bin .shl (.c (.int .u64 1)) (.t 44)),mO 10 45] (.seq (sR [mO 46 8,oO 47 (.not (.t 46)),mO 48 47,gA 49 48 (mX 9),gA 50 48 (mX 10),gA 51 48 (zX .geq 49 50),uY 52 48 51] (cD 52 (sR [mO 53 10,oO 54 (.bin .sub (.t 53) (.c (.int .u64 1))),oO 55 (.wrp .i64 (.t 54)),oO 56 (.mi 341 (cI 1)),mO 6 55,mO 7 56] .ret) .skip)) (.seq (sR [mO 57 8,mO 58 57,gA 59 58 (mX 9),gA 60 58 (mX 10),gA 61 58 (zX .gtr 59 60),uY 62 58 61] (cD 62 (sR [mO 63 10,oO 64 (.wrp .i64 (.t 63)),oO 65 (.neg (.t 64)),oO 66 (.mi 341 (cI 1)),mO 6 65,mO 7 66] .ret) .skip)) (sR [mO 67 9,oO 68 (.wrp .i64 (.t 67)),mO 11 68] (.seq (sR [mO 69 8] (cD 69 (.reg [mO 70 11,oO 71 (.neg (.t 70)),mO 11 71]) .skip)) (sR [mO 72 11,mO 6 72,oO 7 (.mv (.c (.nili)))] .ret))))))))))))),res:=[(6,none),(7,none)] }
def c329:VF:={ code:=sR [oO 4 (.mv (.c (.nilp)))] (.seq (.drw [dX 0 [] (mO 5 0),dX 1 [] (mO 6 1),dX 2 [1] (qY 7 340 6),⟨3,[],oO 8 (.bad),true,[2]⟩,dX 4 (rO 4) (oO 9 (.bd [.str [],.str [],.nili] [(0,1,(.t 5)),(1,1,(.t 7)),(2,1,(.t 8))])),⟨5,(rO 5),oO 10 (.bx (.t 9) []),true,[]⟩,dX 6 (rO 6) (mO 4 10)]) .ret),res:=[(4,none)] }
def c330:VF:={ code:=sR [oO 4 (.mv (.c (.nilp)))] (.seq (.drw [dX 0 [] (mO 5 0),dX 1 [] (mO 6 1),dX 2 [1] (qY 7 340 6),⟨3,[],oO 8 (.bad),true,[2]⟩,dX 4 (rO 4) (oO 9 (.bd [.str [],.str [],.nili] [(0,1,(.t 5)),(1,1,(.t 7)),(2,1,(.t 8))])),⟨5,(rO 5),oO 10 (.bx (.t 9) []),true,[]⟩,dX 6 (rO 6) (mO 4 10)]) .ret),res:=[(4,none)] }
def c331:VF:={ code:=sR [oO 6 (.mv (.c (.nilp)))] (sR [mO 7 0,mO 8 1,qY 9 340 8,mO 10 2,qY 11 313 10,oO 12 (.bin .add (.c (.str [105,110,118,97,108,105,100,32,98,97,115,101,32])) (.t 11)),qY 13 341 12,oO 14 (.bd [.str [],.str [],.nili] [(0,1,(.t 7)),(1,1,(.t 9)),(2,1,(.t 13))]),oO 15 (.bx (.t 14) []),mO 6 15] .ret),res:=[(6,none)] }
def c332:VF:={ code:=sR [oO 6 (.mv (.c (.nilp)))] (sR [mO 7 0,mO 8 1,qY 9 340 8,mO 10 2,qY 11 313 10,oO 12 (.bin .add (.c (.str [105,110,118,97,108,105,100,32,98,105,116,32,115,105,122,101,32])) (.t 11)),qY 13 341 12,oO 14 (.bd [.str [],.str [],.nili] [(0,1,(.t 7)),(1,1,(.t 9)),(2,1,(.t 13))]),oO 15 (.bx (.t 14) []),mO 6 15] .ret),res:=[(6,none)] }
def c333:VF:={ code:=sR [oO 2 (.mv (.c (.str [])))] (sR [mO 3 0,oO 4 (.call 342 [(.t 3),(cI 10)]),mO 2 4] .ret),res:=[(2,none)] }
def c334:VF:={ code:=sR [oO 4 (.nw 5)] (.seq (sR [mO 9 0,oO 10 (.call 283 [(.t 9),(.c (.str [40]))]),oO 11 (.not (.t 10))] (cD 11 (sR [mO 12 0,qY 13 287 12,oO 5 (.al [.str [],.int .i64 0,.int .i64 0,.str []] []),nO (.st true 4 (.t 5) (.t 13))] (sR [vY 6 2] (.seq (sR [fY 14 0 5,lY 15 1 14,oO 16 (.bin .neq (.t 15) (.c (.str [])))] (cD 16 (.reg [vY 6 1]) .skip)) (sR [mO 17 6,fY 18 0 5,lY 19 1 18,fY 20 1 5,kY 21 3 20,oO 22 (.bd [.int .i64 0,.str [],.int .i64 0,.int .i64 0,.str []] [(0,1,(.t 17)),(1,1,(.t 19)),(2,3,(.t 21))]),oO 23 (.bl 5 [(.t 22)]),mO 4 23] .ret)))) .skip)) (.seq (sR [mO 24 1,bY 25 .geq 24 15] (cD 25 (sR [mO 26 0,oO 27 (.nc (.t 26)),fY 28 3 27,nO (.st false 1 (.t 28) cT)] (sR [oO 4 (.nw 5)] .ret)) .skip)) (sR [mO 29 0,mO 30 1,bY 31 .add 30 1,rY 32 334 29 31,mO 7 32] (sR [mO 33 0,qY 34 343 33,mO 8 34] (.seq (sR [mO 35 0,qY 36 232 35,oO 37 (.not (.t 36))] (cD 37 (sR [oO 4 (.nw 5)] .ret) .skip)) (sR [mO 38 7,mO 39 0,mO 40 1,bY 41 .add 40 1,rY 42 334 39 41,oO 43 (.app 5 (.t 38) (.t 42)),mO 7 43] (sR [mO 44 0,oO 45 (.call 230 [(.t 44),(.c (.str [41]))])] (sR [mO 46 7,mO 47 8,oO 48 (.bd [.int .i64 0,.str [],.int .i64 0,.int .i64 0,.str []] [(0,1,(.t 47))]),oO 49 (.bl 5 [(.t 48)]),oO 50 (.app 5 (.t 46) (.t 49)),mO 4 50] .ret)))))))),res:=[(4,none)],keepR:=true }
def c335:VF:={ code:=sR [oO 0 (.nw 1)] (sR [oO 1 (.bl 1 [(.c (.str [61])),(.c (.str [33,61])),(.c (.str [60])),(.c (.str [60,61]))]),mO 0 1] .ret),res:=[(0,none)] }
def c336:VF:={ code:=sR [mO 12 2,mO 13 1,zY 14 .sub 12 13,mO 10 14] (sR [mO 15 3,mO 16 2,zY 17 .sub 15 16,mO 11 17] (.seq (.block 0 (.loop [0,2,4,10,11] (.seq (sR [mO 18 10,mO 19 11,zY 20 .neq 18 19] (cD 20 .skip (.exit 0))) (.block 1 (sR [mO 21 10,mO 22 11,zY 23 .gtr 21 22] (cD 23 (sR [mO 24 0,mO 25 2,mO 26 10,zY 27 .sub 25 26,mO 28 2,mO 29 11,mO 30 4,oO 31 (.call 344 [(.t 24),(.t 27),(.t 28),(.t 29),(.t 30)])] (.reg [mO 32 10,mO 33 11,zY 34 .sub 32 33,mO 10 34])) (sR [mO 35 0,mO 36 2,mO 37 10,zY 38 .sub 36 37,mO 39 2,mO 40 11,zY 41 .add 39 40,mO 42 10,zY 43 .sub 41 42,mO 44 10,mO 45 4,oO 46 (.call 344 [(.t 35),(.t 38),(.t 43),(.t 44),(.t 45)])] (.reg [mO 47 11,mO 48 10,zY 49 .sub 47 48,mO 11 49])))))))) (.reg [mO 50 0,mO 51 2,mO 52 10,zY 53 .sub 51 52,mO 54 2,mO 55 10,mO 56 4,oO 57 (.call 344 [(.t 50),(.t 53),(.t 54),(.t 55),(.t 56)])]))),res:=[] }
def c337:VF:={ code:=sR [oO 2 (.mv (.c (.int .i32 0))),vY 3 0] (sR [mO 13 0,oO 14 (.len true (.t 13)),mO 4 14] (.seq (sR [mO 15 4,bY 16 .lss 15 1] (cD 16 (sR [oO 2 (.mv (.c (.int .i32 65533))),vY 3 0] .ret) .skip)) (sR [mO 17 0,oO 18 (.ix (.t 17) (cI 0)),mO 5 18] (sR [mO 19 5,oO 20 (.bad),lY 21 1 20,mO 6 21] (.seq (sR [mO 22 6,oO 23 (.bin .geq (.t 22) (.c (.int .u8 240)))] (cD 23 (sR [mO 24 6,oO 25 (.wrp .i32 (.t 24)),oO 26 (.bin .shl (.t 25) (.c (.int .u64 31))),oO 27 (.bin .shr (.t 26) (.c (.int .u64 31))),mO 7 27] (sR [mO 28 0,oO 29 (.ix (.t 28) (cI 0)),oO 30 (.wrp .i32 (.t 29)),mO 31 7,zY 32 .andNot 30 31,mO 33 7,oO 34 (.bin .and (.c (.int .i32 65533)) (.t 33)),zY 35 .or 32 34,mO 2 35,vY 3 1] .ret)) .skip)) (sR [mO 36 6,oO 37 (.bin .and (.t 36) (.c (.int .u8 7))),oO 38 (.wrp .i64 (.t 37)),mO 8 38] (sR [mO 39 6,oO 40 (.bin .shr (.t 39) (.c (.int .u64 4))),oO 41 (.bad),kY 42 2 41,oO 9 (.al [.int .u8 0,.int .u8 0] []),nO (.st true 2 (.t 9) (.t 42))] (.seq (sR [mO 43 4,mO 44 8,zY 45 .lss 43 44] (cD 45 (sR [oO 2 (.mv (.c (.int .i32 65533))),vY 3 1] .ret) .skip)) (sR [mO 46 0,oO 47 (.ix (.t 46) (cI 1)),mO 10 47] (.seq (sR [mO 48 10,fY 49 0 9,lY 50 1 49,zY 51 .lss 48 50,mO 52 51,gB 53 52 (fX 1 9),gB 54 52 (lX 1 53),gB 55 52 (mX 10),gB 56 52 (zX .lss 54 55),pY 57 52 56] (cD 57 (sR [oO 2 (.mv (.c (.int .i32 65533))),vY 3 1] .ret) .skip)) (.seq (sR [mO 58 8,bY 59 .leq 58 2] (cD 59 (sR [mO 60 5,oO 61 (.bin .and (.t 60) (.c (.int .u8 31))),oO 62 (.wrp .i32 (.t 61)),oO 63 (.bin .shl (.t 62) (.c (.int .u64 6))),mO 64 10,oO 65 (.bin .and (.t 64) (.c (.int .u8 63))),oO 66 (.wrp .i32 (.t 65)),zY 67 .or 63 66,mO 2 67,vY 3 2] .ret) .skip)) (sR [mO 68 0,oO 69 (.ix (.t 68) (cI 2)),mO 11 69] (.seq (sR [mO 70 11,oO 71 (.bin .lss (.t 70) (.c (.int .u8 128))),mO 72 71,gB 73 72 (mX 11),gB 74 72 (.bin .lss (.c (.int .u8 191)) (.t 73)),pY 75 72 74] (cD 75 (sR [oO 2 (.mv (.c (.int .i32 65533))),vY 3 1] .ret) .skip)) (.seq (sR [mO 76 8,bY 77 .leq 76 3] (cD 77 (sR [mO 78 5,oO 79 (.bin .and (.t 78) (.c (.int .u8 15))),oO 80 (.wrp .i32 (.t 79)),oO 81 (.bin .shl (.t 80) (.c (.int .u64 12))),mO 82 10,oO 83 (.bin .and (.t 82) (.c (.int .u8 63))),oO 84 (.wrp .i32 (.t 83)),oO 85 (.bin .shl (.t 84) (.c (.int .u64 6))),zY 86 .or 81 85,mO 87 11,oO 88 (.bin .and (.t 87) (.c (.int .u8 63))),oO 89 (.wrp .i32 (.t 88)),zY 90 .or 86 89,mO 2 90,vY 3 3] .ret) .skip)) (sR [mO 91 0,oO 92 (.ix (.t 91) (cI 3)),mO 12 92] (.seq (sR [mO 93 12,oO 94 (.bin .lss (.t 93) (.c (.int .u8 128))),mO 95 94,gB 96 95 (mX 12),gB 97 95 (.bin .lss (.c (.int .u8 191)) (.t 96)),pY 98 95 97] (cD 98 (sR [oO 2 (.mv (.c (.int .i32 65533))),vY 3 1] .ret) .skip)) (sR [mO 99 5,oO 100 (.bin .and (.t 99) (.c (.int .u8 7))),oO 101 (.wrp .i32 (.t 100)),oO 102 (.bin .shl (.t 101) (.c (.int .u64 18))),mO 103 10,oO 104 (.bin .and (.t 103) (.c (.int .u8 63))),oO 105 (.wrp .i32 (.t 104)),oO 106 (.bin .shl (.t 105) (.c (.int .u64 12))),zY 107 .or 102 106,mO 108 11,oO 109 (.bin .and (.t 108) (.c (.int .u8 63))),oO 110 (.wrp .i32 (.t 109)),oO 111 (.bin .shl (.t 110) (.c (.int .u64 6))),zY 112 .or 107 111,mO 113 12,oO 114 (.bin .and (.t 113) (.c (.int .u8 63))),oO 115 (.wrp .i32 (.t 114)),zY 116 .or 112 115,mO 2 116,vY 3 4] .ret))))))))))))))))),res:=[(2,none),(3,none)] }
def c338:VF:={ code:=.bad,res:=[(4,none)] }
def c339:VF:={ code:=sR [oO 6 (.mv (.c (.int .u64 0))),oO 7 (.mv (.c (.nili)))] (.seq (sR [mO 18 0,oO 19 (.bin .eql (.t 18) (.c (.str [])))] (cD 19 (sR [oO 20 (.mi 341 (cI 2)),oO 6 (.mv (.c (.int .u64 0))),mO 7 20] .ret) .skip)) (sR [mO 21 1,bY 22 .eql 21 0,mO 8 22] (sR [mO 23 0,mO 9 23] (.seq (.block 0 (sR [mO 26 1,oO 27 (.bin .leq (cI 2) (.t 26)),mO 28 27,gA 29 28 (mX 1),gA 30 28 (bX .leq 29 36),uY 31 28 30,mO 25 31] (cD 25 .skip (sR [mO 33 1,bY 34 .eql 33 0,mO 32 34] (cD 32 (sR [vY 1 10] (sR [mO 35 0,oO 36 (.ix (.t 35) (cI 0)),oO 37 (.bin .eql (.t 36) (.c (.int .u8 48)))] (cD 37 (.block 1 (sR [mO 41 0,oO 42 (.len true (.t 41)),bY 43 .geq 42 3,mO 44 43,gA 45 44 (mX 0),gA 46 44 (.ix (.t 45) (cI 1)),gA 47 44 (qX 348 46),gA 48 44 (.bin .eql (.t 47) (.c (.int .u8 98))),uY 49 44 48,mO 40 49] (cD 40 (sR [vY 1 2] (.reg [mO 50 0,oO 51 (.cut true 1 (.t 50) (some (cI 2)) none none),mO 0 51])) (sR [mO 53 0,oO 54 (.len true (.t 53)),bY 55 .geq 54 3,mO 56 55,gA 57 56 (mX 0),gA 58 56 (.ix (.t 57) (cI 1)),gA 59 56 (qX 348 58),gA 60 56 (.bin .eql (.t 59) (.c (.int .u8 111))),uY 61 56 60,mO 52 61] (cD 52 (sR [vY 1 8] (.reg [mO 62 0,oO 63 (.cut true 1 (.t 62) (some (cI 2)) none none),mO 0 63])) (sR [mO 65 0,oO 66 (.len true (.t 65)),bY 67 .geq 66 3,mO 68 67,gA 69 68 (mX 0),gA 70 68 (.ix (.t 69) (cI 1)),gA 71 68 (qX 348 70),gA 72 68 (.bin .eql (.t 71) (.c (.int .u8 120))),uY 73 68 72,mO 64 73] (cD 64 (sR [vY 1 16] (.reg [mO 74 0,oO 75 (.cut true 1 (.t 74) (some (cI 2)) none none),mO 0 75])) (sR [vY 1 8] (.reg [mO 38 0,oO 39 (.cut true 1 (.t 38) (some (cI 1)) none none),mO 0 39]))))))))) .skip))) (sR [oO 24 (.mi 341 (cI 3)),oO 6 (.mv (.c (.int .u64 0))),mO 7 24] .ret)))))) (.seq (sR [mO 76 2,bY 77 .eql 76 0] (cD 77 (.reg [vY 2 64]) (sR [mO 78 2,bY 79 .lss 78 0,mO 80 79,gB 81 80 (mX 2),gB 82 80 (bX .gtr 81 64),pY 83 80 82] (cD 83 (sR [oO 84 (.mi 341 (cI 4)),oO 6 (.mv (.c (.int .u64 0))),mO 7 84] .ret) .skip)))) (sR [oO 10 (.mv (.c (.int .u64 0)))] (.seq (sR [mO 85 1] (.block 2 (sR [bY 91 .eql 85 10,mO 90 91] (cD 90 (.reg [oO 10 (.mv (.c (.int .u64 1844674407370955162)))]) (sR [bY 93 .eql 85 16,mO 92 93] (cD 92 (.reg [oO 10 (.mv (.c (.int .u64 1152921504606846976)))]) (.reg [mO 86 1,oO 87 (.wrp .u64 (.t 86)),oO 88 (.bin .quo (.c (.int .u64 18446744073709551615)) (.t 87)),oO 89 (.bin .add (.t 88) (.c (.int .u64 1))),mO 10 89]))))))) (sR [mO 94 2,oO 95 (.wrp .u64 (.t 94)),oO 96 (.bin .shl (.c (.int .u64 1)) (.t 95)),oO 97 (.bin .sub (.t 96) (.c (.int .u64 1))),mO 11 97] (sR [oO 12 (.mv cF)] (sR [oO 13 (.mv (.c (.int .u64 0)))] (.seq (sR [mO 98 0,oO 99 (.s2b (.t 98)),nY 100 99,vY 101 0] (.block 3 (.loop [1,8,9,10,11,12,13,99,100,101] (sR [zY 102 .lss 101 100] (.seq (cD 102 .skip (.exit 3)) (.seq (.block 4 (sR [iY 103 1 99 101,lY 104 1 103,mO 15 104] (sR [oO 16 (.mv (.c (.int .u8 0)))] (.seq (.block 5 (sR [mO 107 15,oO 108 (.bin .eql (.t 107) (.c (.int .u8 95))),mO 109 108,gA 110 109 (mX 8),uY 111 109 110,mO 106 111] (cD 106 (sR [oO 12 (.mv cT)] (.exit 4)) (sR [mO 113 15,oO 114 (.bin .leq (.c (.int .u8 48)) (.t 113)),mO 115 114,gA 116 115 (mX 15),gA 117 115 (.bin .leq (.t 116) (.c (.int .u8 57))),uY 118 115 117,mO 112 118] (cD 112 (.reg [mO 119 15,oO 120 (.bin .sub (.t 119) (.c (.int .u8 48))),mO 16 120]) (sR [mO 122 15,qY 123 348 122,oO 124 (.bin .leq (.c (.int .u8 97)) (.t 123)),mO 125 124,gA 126 125 (mX 15),gA 127 125 (qX 348 126),gA 128 125 (.bin .leq (.t 127) (.c (.int .u8 122))),uY 129 125 128,mO 121 129] (cD 121 (.reg [mO 130 15,qY 131 348 130,oO 132 (.bin .sub (.t 131) (.c (.int .u8 97))),oO 133 (.bin .add (.t 132) (.c (.int .u8 10))),mO 16 133]) (sR [oO 105 (.mi 341 (cI 2)),oO 6 (.mv (.c (.int .u64 0))),mO 7 105] .ret)))))))) (.seq (sR [mO 134 16,mO 135 1,oO 136 (.wrp .u8 (.t 135)),zY 137 .geq 134 136] (cD 137 (sR [oO 138 (.mi 341 (cI 2)),oO 6 (.mv (.c (.int .u64 0))),mO 7 138] .ret) .skip)) (.seq (sR [mO 139 13,mO 140 10,zY 141 .geq 139 140] (cD 141 (sR [mO 142 11,oO 143 (.mi 341 (cI 1)),mO 6 142,mO 7 143] .ret) .skip)) (sR [mO 144 13,mO 145 1,oO 146 (.wrp .u64 (.t 145)),zY 147 .mul 144 146,mO 13 147] (sR [mO 148 13,mO 149 16,oO 150 (.wrp .u64 (.t 149)),zY 151 .add 148 150,mO 17 151] (.seq (sR [mO 152 17,mO 153 13,zY 154 .lss 152 153,mO 155 154,gB 156 155 (mX 17),gB 157 155 (mX 11),gB 158 155 (zX .gtr 156 157),pY 159 155 158] (cD 159 (sR [mO 160 11,oO 161 (.mi 341 (cI 1)),mO 6 160,mO 7 161] .ret) .skip)) (.reg [mO 162 17,mO 13 162])))))))))) (.reg [bY 163 .add 101 1,mO 101 163]))))))) (.seq (sR [mO 164 12,mO 165 164,gA 166 165 (mX 9),gA 167 165 (qX 349 166),gA 168 165 (.not (.t 167)),uY 169 165 168] (cD 169 (sR [oO 170 (.mi 341 (cI 2)),oO 6 (.mv (.c (.int .u64 0))),mO 7 170] .ret) .skip)) (sR [mO 171 13,mO 6 171,oO 7 (.mv (.c (.nili)))] .ret))))))))))))),res:=[(6,none),(7,none)] }
def c340:VF:={ code:=sR [oO 2 (.mv (.c (.str [])))] (.seq (sR [mO 4 0,oO 5 (.len true (.t 4)),bY 6 .eql 5 0] (cD 6 (sR [oO 2 (.mv (.c (.str [])))] .ret) .skip)) (sR [mO 7 0,oO 8 (.len true (.t 7)),oO 9 (.mk 0 false [.int .u8 0] (.t 8) (.t 8)),mO 3 9] (sR [mO 10 3,mO 11 0,oO 12 (.bad)] (sR [mO 13 3,oO 14 (.ia none 1 (.t 13) (cI 0)),mO 15 3,nY 16 15,oO 17 (.bad),mO 2 17] .ret)))),res:=[(2,none)] }
def c341:VF:={ code:=sR [oO 2 (.mv (.c (.nili)))] (sR [mO 3 0,oO 4 (.bd [.str []] [(0,1,(.t 3))]),oO 5 (.bx (.t 4) []),oO 6 (.mi 362 (.t 5)),mO 2 6] .ret),res:=[(2,none)] }
def c342:VF:={ code:=sR [oO 4 (.mv (.c (.str [])))] (.seq (sR [mO 10 1,bY 11 .eql 10 10] (cD 11 (.seq (sR [mO 12 0,oO 13 (.bin .leq (cI 0) (.t 12)),mO 14 13,gA 15 14 (mX 0),gA 16 14 (bX .lss 15 100),uY 17 14 16] (cD 17 (sR [mO 18 0,qY 19 350 18,mO 4 19] .ret) .skip)) (sR [oO 5 (.al [.int .u8 0,.int .u8 0,.int .u8 0,.int .u8 0,.int .u8 0,.int .u8 0,.int .u8 0,.int .u8 0,.int .u8 0,.int .u8 0,.int .u8 0,.int .u8 0,.int .u8 0,.int .u8 0,.int .u8 0,.int .u8 0,.int .u8 0,.int .u8 0,.int .u8 0,.int .u8 0,.int .u8 0,.int .u8 0,.int .u8 0,.int .u8 0] [])] (sR [mO 20 0,oO 21 (.wrp .u64 (.t 20)),mO 6 21] (.seq (sR [mO 22 0,bY 23 .lss 22 0] (cD 23 (.reg [mO 24 6,oO 25 (.neg (.t 24)),mO 6 25]) .skip)) (sR [mO 26 6,qY 27 351 26,mO 7 27] (sR [mO 28 7,oO 29 (.bin .add (cI 1) (.t 28)),oO 30 (.bad),mO 31 6,rY 32 352 30 31] (.seq (sR [mO 33 0,bY 34 .lss 33 0] (cD 34 (sR [oO 35 (.ia (some 24) 1 (.t 5) (cI 0)),nO (.st false 1 (.t 35) (.c (.int .u8 45)))] (sR [mO 36 7,oO 37 (.bin .add (cI 1) (.t 36)),oO 38 (.bad),oO 39 (.b2s (.t 38)),mO 4 39] .ret)) .skip)) (sR [mO 40 7,oO 41 (.bin .add (cI 1) (.t 40)),oO 42 (.bad),oO 43 (.b2s (.t 42)),mO 4 43] .ret)))))))) .skip)) (sR [mO 45 0,oO 46 (.wrp .u64 (.t 45)),mO 47 1,mO 48 0,bY 49 .lss 48 0,oO 50 (.call 353 [(.c (.sl .ex 1 [])),(.t 46),(.t 47),(.t 49),cF]),mO 44 50,eY 51 44 0,eY 52 44 1,mO 8 51,mO 9 52] (sR [mO 53 9,mO 4 53] .ret))),res:=[(4,none)] }
def c343:VF:={ code:=sR [vY 2 0] (.seq (sR [oO 5 (.bl 1 [(.c (.str [43])),(.c (.str [45])),(.c (.str [42]))]),nY 6 5,vY 7 0] (.block 0 (.loop [0,5,6,7] (sR [zY 8 .lss 7 6] (.seq (cD 8 .skip (.exit 0)) (.seq (.block 1 (sR [mO 9 7,iY 10 1 5 7,lY 11 1 10,mO 3 9,mO 4 11] (sR [mO 12 0,mO 13 4,rY 14 283 12 13] (cD 14 (sR [mO 15 3,oO 16 (.bin .add (cI 3) (.t 15)),mO 2 16] .ret) .skip)))) (.reg [bY 17 .add 7 1,mO 7 17]))))))) (.seq (sR [mO 18 0,qY 19 232 18] (cD 19 (.reg [mO 20 0,oO 21 (.nc (.t 20)),fY 22 2 21,nO (.st false 1 (.t 22) cT)]) .skip)) (sR [vY 2 0] .ret))),res:=[(2,none)] }
def c344:VF:={ code:=sR [vY 10 0] (.block 0 (.loop [0,1,2,3,10] (.seq (sR [mO 11 10,mO 12 3,zY 13 .lss 11 12] (cD 13 .skip (.exit 0))) (.seq (.block 1 (.drw [dX 0 [] (mO 16 0),dX 1 [] (mO 17 1),dX 2 [] (mO 18 10),dX 3 [1,2] (zY 19 .add 17 18),dX 4 [] (mO 20 0),dX 5 [] (mO 21 2),dX 6 [] (mO 22 10),dX 7 [5,6] (zY 23 .add 21 22),dX 8 [] (mO 24 0),dX 9 [] (mO 25 2),dX 10 [] (mO 26 10),dX 11 [9,10] (zY 27 .add 25 26),dX 12 [8,9,10,11] (iY 28 4 24 27),dX 13 [8,9,10,11,12] (kY 29 4 28),dX 14 [] (mO 30 0),dX 15 [] (mO 31 1),dX 16 [] (mO 32 10),dX 17 [15,16] (zY 33 .add 31 32),dX 18 [14,15,16,17] (iY 34 4 30 33),dX 19 [14,15,16,17,18] (kY 35 4 34),dX 20 [0,1,2,3,8,9,10,11,12,13,14,15,16,17,18,19] (iY 36 4 16 19),⟨21,[0,1,2,3,8,9,10,11,12,13,14,15,16,17,18,19,20],nO (.st true 4 (.t 36) (.t 29)),true,[]⟩,dX 22 (rO 22) (iY 37 4 20 23),⟨23,(rO 23),nO (.st true 4 (.t 37) (.t 35)),true,[]⟩])) (.reg [mO 14 10,bY 15 .add 14 1,mO 10 15]))))),res:=[] }
def c348:VF:={ code:=sR [oO 2 (.mv (.c (.int .u8 0)))] (sR [mO 3 0,oO 4 (.bin .or (.t 3) (.c (.int .u8 32))),mO 2 4] .ret),res:=[(2,none)] }
def c349:VF:={ code:=sR [oO 2 (.mv cF)] (sR [oO 3 (.mv (.c (.int .i32 94)))] (sR [vY 4 0] (.seq (sR [mO 6 0,oO 7 (.len true (.t 6)),bY 8 .geq 7 1,mO 9 8,gA 10 9 (mX 0),gA 11 9 (.ix (.t 10) (cI 0)),gA 12 9 (.bin .eql (.t 11) (.c (.int .u8 45))),gA 13 9 (mX 12),gB 14 13 (mX 0),gB 15 13 (.ix (.t 14) (cI 0)),gB 16 13 (.bin .eql (.t 15) (.c (.int .u8 43))),gA 17 9 (pX 13 16),uY 18 9 17] (cD 18 (.reg [mO 19 0,oO 20 (.cut true 1 (.t 19) (some (cI 1)) none none),mO 0 20]) .skip)) (sR [oO 5 (.mv cF)] (.seq (sR [mO 21 0,oO 22 (.len true (.t 21)),bY 23 .geq 22 2,mO 24 23,gA 25 24 (mX 0),gA 26 24 (.ix (.t 25) (cI 0)),gA 27 24 (.bin .eql (.t 26) (.c (.int .u8 48))),uY 28 24 27,mO 29 28,gA 30 29 (mX 0),gA 31 29 (.ix (.t 30) (cI 1)),gA 32 29 (qX 348 31),gA 33 29 (.bin .eql (.t 32) (.c (.int .u8 98))),gA 34 29 (mX 33),gB 35 34 (mX 0),gB 36 34 (.ix (.t 35) (cI 1)),gB 37 34 (qX 348 36),gB 38 34 (.bin .eql (.t 37) (.c (.int .u8 111))),gA 39 29 (pX 34 38),gA 40 29 (mX 39),gB 41 40 (mX 0),gB 42 40 (.ix (.t 41) (cI 1)),gB 43 40 (qX 348 42),gB 44 40 (.bin .eql (.t 43) (.c (.int .u8 120))),gA 45 29 (pX 40 44),uY 46 29 45] (cD 46 (sR [vY 4 2] (sR [oO 3 (.mv (.c (.int .i32 48)))] (.reg [mO 47 0,oO 48 (.ix (.t 47) (cI 1)),qY 49 348 48,oO 50 (.bin .eql (.t 49) (.c (.int .u8 120))),mO 5 50]))) .skip)) (.seq (.block 0 (.loop [0,3,4,5] (.seq (sR [mO 51 4,mO 52 0,oO 53 (.len true (.t 52)),zY 54 .lss 51 53] (cD 54 .skip (.exit 0))) (.seq (.block 1 (.seq (sR [mO 57 0,mO 58 4,oO 59 (.ix (.t 57) (.t 58)),oO 60 (.bin .leq (.c (.int .u8 48)) (.t 59)),mO 61 60,gA 62 61 (mX 0),gA 63 61 (mX 4),gA 64 61 (.ix (.t 62) (.t 63)),gA 65 61 (.bin .leq (.t 64) (.c (.int .u8 57))),uY 66 61 65,mO 67 66,gB 68 67 (mX 5),gB 69 67 (mX 68),gA 70 69 (mX 0),gA 71 69 (mX 4),gA 72 69 (.ix (.t 70) (.t 71)),gA 73 69 (qX 348 72),gA 74 69 (.bin .leq (.c (.int .u8 97)) (.t 73)),gB 75 67 (uX 69 74),gB 76 67 (mX 75),gA 77 76 (mX 0),gA 78 76 (mX 4),gA 79 76 (.ix (.t 77) (.t 78)),gA 80 76 (qX 348 79),gA 81 76 (.bin .leq (.t 80) (.c (.int .u8 102))),gB 82 67 (uX 76 81),pY 83 67 82] (cD 83 (sR [oO 3 (.mv (.c (.int .i32 48)))] (.exit 1)) .skip)) (.seq (sR [mO 84 0,mO 85 4,oO 86 (.ix (.t 84) (.t 85)),oO 87 (.bin .eql (.t 86) (.c (.int .u8 95)))] (cD 87 (.seq (sR [mO 88 3,oO 89 (.bin .neq (.t 88) (.c (.int .i32 48)))] (cD 89 (sR [oO 2 (.mv cF)] .ret) .skip)) (sR [oO 3 (.mv (.c (.int .i32 95)))] (.exit 1))) .skip)) (.seq (sR [mO 90 3,oO 91 (.bin .eql (.t 90) (.c (.int .i32 95)))] (cD 91 (sR [oO 2 (.mv cF)] .ret) .skip)) (.reg [oO 3 (.mv (.c (.int .i32 33)))]))))) (.reg [mO 55 4,bY 56 .add 55 1,mO 4 56]))))) (sR [mO 92 3,oO 93 (.bin .neq (.t 92) (.c (.int .i32 95))),mO 2 93] .ret))))))),res:=[(2,none)] }
def c350:VF:={ code:=sR [oO 2 (.mv (.c (.str [])))] (.seq (sR [mO 3 0,bY 4 .lss 3 10] (cD 4 (sR [mO 5 0,mO 6 0,bY 7 .add 6 1,oO 8 (.cut true 1 (.c (.str [48,49,50,51,52,53,54,55,56,57,97,98,99,100,101,102,103,104,105,106,107,108,109,110,111,112,113,114,115,116,117,118,119,120,121,122])) (some (.t 5)) (some (.t 7)) none),mO 2 8] .ret) .skip)) (sR [mO 9 0,bY 10 .mul 9 2,mO 11 0,bY 12 .mul 11 2,bY 13 .add 12 2,oO 14 (.cut true 1 (.c (.str [48,48,48,49,48,50,48,51,48,52,48,53,48,54,48,55,48,56,48,57,49,48,49,49,49,50,49,51,49,52,49,53,49,54,49,55,49,56,49,57,50,48,50,49,50,50,50,51,50,52,50,53,50,54,50,55,50,56,50,57,51,48,51,49,51,50,51,51,51,52,51,53,51,54,51,55,51,56,51,57,52,48,52,49,52,50,52,51,52,52,52,53,52,54,52,55,52,56,52,57,53,48,53,49,53,50,53,51,53,52,53,53,53,54,53,55,53,56,53,57,54,48,54,49,54,50,54,51,54,52,54,53,54,54,54,55,54,56,54,57,55,48,55,49,55,50,55,51,55,52,55,53,55,54,55,55,55,56,55,57,56,48,56,49,56,50,56,51,56,52,56,53,56,54,56,55,56,56,56,57,57,48,57,49,57,50,57,51,57,52,57,53,57,54,57,55,57,56,57,57])) (some (.t 10)) (some (.t 13)) none),mO 2 14] .ret)),res:=[(2,none)] }
def c351:VF:={ code:=sR [vY 2 0] (sR [mO 4 0,qY 5 273 4,qY 6 354 5,mO 3 6] (sR [mO 7 3,mO 8 0,mO 9 3,oO 10 (.bad),lY 11 1 10,zY 12 .geq 8 11,qY 13 355 12,zY 14 .add 7 13,mO 2 14] .ret)),res:=[(2,none)] }
def c352:VF:={ code:=sR [mO 17 0,nY 18 17,mO 4 18] (.seq (.block 0 (.loop [0,1,4] (.seq (sR [mO 19 4,bY 20 .geq 19 8] (cD 20 .skip (.exit 0))) (.block 1 (sR [mO 21 1,oO 22 (.bin .rem (.t 21) (.c (.int .u64 100000000))),oO 23 (.wrp .u32 (.t 22)),mO 5 23] (sR [mO 24 1,oO 25 (.bin .quo (.t 24) (.c (.int .u64 100000000))),mO 1 25] (sR [mO 26 5,oO 27 (.bin .quo (.t 26) (.c (.int .u32 10000))),mO 28 5,oO 29 (.bin .rem (.t 28) (.c (.int .u32 10000))),mO 6 27,mO 7 29] (sR [mO 30 7,oO 31 (.bin .quo (.t 30) (.c (.int .u32 100))),oO 32 (.bin .mul (.t 31) (.c (.int .u32 2))),mO 33 7,oO 34 (.bin .rem (.t 33) (.c (.int .u32 100))),oO 35 (.bin .mul (.t 34) (.c (.int .u32 2))),mO 8 32,mO 9 35] (sR [mO 36 6,oO 37 (.bin .quo (.t 36) (.c (.int .u32 100))),oO 38 (.bin .mul (.t 37) (.c (.int .u32 2))),mO 39 6,oO 40 (.bin .rem (.t 39) (.c (.int .u32 100))),oO 41 (.bin .mul (.t 40) (.c (.int .u32 2))),mO 10 38,mO 11 41] (.seq (.drw [dX 0 [] (mO 42 0),dX 1 [] (mO 43 4),dX 2 [1] (bY 44 .sub 43 1),dX 3 [] (mO 45 0),dX 4 [] (mO 46 4),dX 5 [4] (bY 47 .sub 46 2),dX 6 [] (mO 48 9),dX 7 [6] (oO 49 (.bin .add (.t 48) (.c (.int .u32 1)))),dX 8 [6,7] (oO 50 (.ix (.c (.str [48,48,48,49,48,50,48,51,48,52,48,53,48,54,48,55,48,56,48,57,49,48,49,49,49,50,49,51,49,52,49,53,49,54,49,55,49,56,49,57,50,48,50,49,50,50,50,51,50,52,50,53,50,54,50,55,50,56,50,57,51,48,51,49,51,50,51,51,51,52,51,53,51,54,51,55,51,56,51,57,52,48,52,49,52,50,52,51,52,52,52,53,52,54,52,55,52,56,52,57,53,48,53,49,53,50,53,51,53,52,53,53,53,54,53,55,53,56,53,57,54,48,54,49,54,50,54,51,54,52,54,53,54,54,54,55,54,56,54,57,55,48,55,49,55,50,55,51,55,52,55,53,55,54,55,55,55,56,55,57,56,48,56,49,56,50,56,51,56,52,56,53,56,54,56,55,56,56,56,57,57,48,57,49,57,50,57,51,57,52,57,53,57,54,57,55,57,56,57,57])) (.t 49))),dX 9 [] (mO 51 9),dX 10 [9] (oO 52 (.ix (.c (.str [48,48,48,49,48,50,48,51,48,52,48,53,48,54,48,55,48,56,48,57,49,48,49,49,49,50,49,51,49,52,49,53,49,54,49,55,49,56,49,57,50,48,50,49,50,50,50,51,50,52,50,53,50,54,50,55,50,56,50,57,51,48,51,49,51,50,51,51,51,52,51,53,51,54,51,55,51,56,51,57,52,48,52,49,52,50,52,51,52,52,52,53,52,54,52,55,52,56,52,57,53,48,53,49,53,50,53,51,53,52,53,53,53,54,53,55,53,56,53,57,54,48,54,49,54,50,54,51,54,52,54,53,54,54,54,55,54,56,54,57,55,48,55,49,55,50,55,51,55,52,55,53,55,54,55,55,55,56,55,57,56,48,56,49,56,50,56,51,56,52,56,53,56,54,56,55,56,56,56,57,57,48,57,49,57,50,57,51,57,52,57,53,57,54,57,55,57,56,57,57])) (.t 51))),dX 11 [0,1,2,6,7,8] (iY 53 1 42 44),⟨12,[0,1,2,6,7,8,11],nO (.st false 1 (.t 53) (.t 50)),true,[]⟩,dX 13 (rO 13) (iY 54 1 45 47),⟨14,(rO 14),nO (.st false 1 (.t 54) (.t 52)),true,[]⟩]) (.seq (.drw [dX 0 [] (mO 55 0),dX 1 [] (mO 56 4),dX 2 [1] (bY 57 .sub 56 3),dX 3 [] (mO 58 0),dX 4 [] (mO 59 4),dX 5 [4] (bY 60 .sub 59 4),dX 6 [] (mO 61 8),dX 7 [6] (oO 62 (.bin .add (.t 61) (.c (.int .u32 1)))),dX 8 [6,7] (oO 63 (.ix (.c (.str [48,48,48,49,48,50,48,51,48,52,48,53,48,54,48,55,48,56,48,57,49,48,49,49,49,50,49,51,49,52,49,53,49,54,49,55,49,56,49,57,50,48,50,49,50,50,50,51,50,52,50,53,50,54,50,55,50,56,50,57,51,48,51,49,51,50,51,51,51,52,51,53,51,54,51,55,51,56,51,57,52,48,52,49,52,50,52,51,52,52,52,53,52,54,52,55,52,56,52,57,53,48,53,49,53,50,53,51,53,52,53,53,53,54,53,55,53,56,53,57,54,48,54,49,54,50,54,51,54,52,54,53,54,54,54,55,54,56,54,57,55,48,55,49,55,50,55,51,55,52,55,53,55,54,55,55,55,56,55,57,56,48,56,49,56,50,56,51,56,52,56,53,56,54,56,55,56,56,56,57,57,48,57,49,57,50,57,51,57,52,57,53,57,54,57,55,57,56,57,57])) (.t 62))),dX 9 [] (mO 64 8),dX 10 [9] (oO 65 (.ix (.c (.str [48,48,48,49,48,50,48,51,48,52,48,53,48,54,48,55,48,56,48,57,49,48,49,49,49,50,49,51,49,52,49,53,49,54,49,55,49,56,49,57,50,48,50,49,50,50,50,51,50,52,50,53,50,54,50,55,50,56,50,57,51,48,51,49,51,50,51,51,51,52,51,53,51,54,51,55,51,56,51,57,52,48,52,49,52,50,52,51,52,52,52,53,52,54,52,55,52,56,52,57,53,48,53,49,53,50,53,51,53,52,53,53,53,54,53,55,53,56,53,57,54,48,54,49,54,50,54,51,54,52,54,53,54,54,54,55,54,56,54,57,55,48,55,49,55,50,55,51,55,52,55,53,55,54,55,55,55,56,55,57,56,48,56,49,56,50,56,51,56,52,56,53,56,54,56,55,56,56,56,57,57,48,57,49,57,50,57,51,57,52,57,53,57,54,57,55,57,56,57,57])) (.t 64))),dX 11 [0,1,2,6,7,8] (iY 66 1 55 57),⟨12,[0,1,2,6,7,8,11],nO (.st false 1 (.t 66) (.t 63)),true,[]⟩,dX 13 (rO 13) (iY 67 1 58 60),⟨14,(rO 14),nO (.st false 1 (.t 67) (.t 65)),true,[]⟩]) (.seq (.drw [dX 0 [] (mO 68 0),dX 1 [] (mO 69 4),dX 2 [1] (bY 70 .sub 69 5),dX 3 [] (mO 71 0),dX 4 [] (mO 72 4),dX 5 [4] (bY 73 .sub 72 6),dX 6 [] (mO 74 11),dX 7 [6] (oO 75 (.bin .add (.t 74) (.c (.int .u32 1)))),dX 8 [6,7] (oO 76 (.ix (.c (.str [48,48,48,49,48,50,48,51,48,52,48,53,48,54,48,55,48,56,48,57,49,48,49,49,49,50,49,51,49,52,49,53,49,54,49,55,49,56,49,57,50,48,50,49,50,50,50,51,50,52,50,53,50,54,50,55,50,56,50,57,51,48,51,49,51,50,51,51,51,52,51,53,51,54,51,55,51,56,51,57,52,48,52,49,52,50,52,51,52,52,52,53,52,54,52,55,52,56,52,57,53,48,53,49,53,50,53,51,53,52,53,53,53,54,53,55,53,56,53,57,54,48,54,49,54,50,54,51,54,52,54,53,54,54,54,55,54,56,54,57,55,48,55,49,55,50,55,51,55,52,55,53,55,54,55,55,55,56,55,57,56,48,56,49,56,50,56,51,56,52,56,53,56,54,56,55,56,56,56,57,57,48,57,49,57,50,57,51,57,52,57,53,57,54,57,55,57,56,57,57])) (.t 75))),dX 9 [] (mO 77 11),dX 10 [9] (oO 78 (.ix (.c (.str [48,48,48,49,48,50,48,51,48,52,48,53,48,54,48,55,48,56,48,57,49,48,49,49,49,50,49,51,49,52,49,53,49,54,49,55,49,56,49,57,50,48,50,49,50,50,50,51,50,52,50,53,50,54,50,55,50,56,50,57,51,48,51,49,51,50,51,51,51,52,51,53,51,54,51,55,51,56,51,57,52,48,52,49,52,50,52,51,52,52,52,53,52,54,52,55,52,56,52,57,53,48,53,49,53,50,53,51,53,52,53,53,53,54,53,55,53,56,53,57,54,48,54,49,54,50,54,51,54,52,54,53,54,54,54,55,54,56,54,57,55,48,55,49,55,50,55,51,55,52,55,53,55,54,55,55,55,56,55,57,56,48,56,49,56,50,56,51,56,52,56,53,56,54,56,55,56,56,56,57,57,48,57,49,57,50,57,51,57,52,57,53,57,54,57,55,57,56,57,57])) (.t 77))),dX 11 [0,1,2,6,7,8] (iY 79 1 68 70),⟨12,[0,1,2,6,7,8,11],nO (.st false 1 (.t 79) (.t 76)),true,[]⟩,dX 13 (rO 13) (iY 80 1 71 73),⟨14,(rO 14),nO (.st false 1 (.t 80) (.t 78)),true,[]⟩]) (.seq (.drw [dX 0 [] (mO 81 0),dX 1 [] (mO 82 4),dX 2 [1] (bY 83 .sub 82 7),dX 3 [] (mO 84 0),dX 4 [] (mO 85 4),dX 5 [4] (bY 86 .sub 85 8),dX 6 [] (mO 87 10),dX 7 [6] (oO 88 (.bin .add (.t 87) (.c (.int .u32 1)))),dX 8 [6,7] (oO 89 (.ix (.c (.str [48,48,48,49,48,50,48,51,48,52,48,53,48,54,48,55,48,56,48,57,49,48,49,49,49,50,49,51,49,52,49,53,49,54,49,55,49,56,49,57,50,48,50,49,50,50,50,51,50,52,50,53,50,54,50,55,50,56,50,57,51,48,51,49,51,50,51,51,51,52,51,53,51,54,51,55,51,56,51,57,52,48,52,49,52,50,52,51,52,52,52,53,52,54,52,55,52,56,52,57,53,48,53,49,53,50,53,51,53,52,53,53,53,54,53,55,53,56,53,57,54,48,54,49,54,50,54,51,54,52,54,53,54,54,54,55,54,56,54,57,55,48,55,49,55,50,55,51,55,52,55,53,55,54,55,55,55,56,55,57,56,48,56,49,56,50,56,51,56,52,56,53,56,54,56,55,56,56,56,57,57,48,57,49,57,50,57,51,57,52,57,53,57,54,57,55,57,56,57,57])) (.t 88))),dX 9 [] (mO 90 10),dX 10 [9] (oO 91 (.ix (.c (.str [48,48,48,49,48,50,48,51,48,52,48,53,48,54,48,55,48,56,48,57,49,48,49,49,49,50,49,51,49,52,49,53,49,54,49,55,49,56,49,57,50,48,50,49,50,50,50,51,50,52,50,53,50,54,50,55,50,56,50,57,51,48,51,49,51,50,51,51,51,52,51,53,51,54,51,55,51,56,51,57,52,48,52,49,52,50,52,51,52,52,52,53,52,54,52,55,52,56,52,57,53,48,53,49,53,50,53,51,53,52,53,53,53,54,53,55,53,56,53,57,54,48,54,49,54,50,54,51,54,52,54,53,54,54,54,55,54,56,54,57,55,48,55,49,55,50,55,51,55,52,55,53,55,54,55,55,55,56,55,57,56,48,56,49,56,50,56,51,56,52,56,53,56,54,56,55,56,56,56,57,57,48,57,49,57,50,57,51,57,52,57,53,57,54,57,55,57,56,57,57])) (.t 90))),dX 11 [0,1,2,6,7,8] (iY 92 1 81 83),⟨12,[0,1,2,6,7,8,11],nO (.st false 1 (.t 92) (.t 89)),true,[]⟩,dX 13 (rO 13) (iY 93 1 84 86),⟨14,(rO 14),nO (.st false 1 (.t 93) (.t 91)),true,[]⟩]) (.reg [mO 94 4,bY 95 .sub 94 8,mO 4 95])))))))))))))) (sR [mO 96 1,oO 97 (.wrp .u32 (.t 96)),mO 12 97] (.seq (sR [mO 98 4,bY 99 .geq 98 4] (cD 99 (sR [mO 100 12,oO 101 (.bin .rem (.t 100) (.c (.int .u32 10000))),mO 13 101] (sR [mO 102 12,oO 103 (.bin .quo (.t 102) (.c (.int .u32 10000))),mO 12 103] (sR [mO 104 13,oO 105 (.bin .quo (.t 104) (.c (.int .u32 100))),oO 106 (.bin .mul (.t 105) (.c (.int .u32 2))),mO 107 13,oO 108 (.bin .rem (.t 107) (.c (.int .u32 100))),oO 109 (.bin .mul (.t 108) (.c (.int .u32 2))),mO 14 106,mO 15 109] (.seq (.drw [dX 0 [] (mO 110 0),dX 1 [] (mO 111 4),dX 2 [1] (bY 112 .sub 111 1),dX 3 [] (mO 113 0),dX 4 [] (mO 114 4),dX 5 [4] (bY 115 .sub 114 2),dX 6 [] (mO 116 15),dX 7 [6] (oO 117 (.bin .add (.t 116) (.c (.int .u32 1)))),dX 8 [6,7] (oO 118 (.ix (.c (.str [48,48,48,49,48,50,48,51,48,52,48,53,48,54,48,55,48,56,48,57,49,48,49,49,49,50,49,51,49,52,49,53,49,54,49,55,49,56,49,57,50,48,50,49,50,50,50,51,50,52,50,53,50,54,50,55,50,56,50,57,51,48,51,49,51,50,51,51,51,52,51,53,51,54,51,55,51,56,51,57,52,48,52,49,52,50,52,51,52,52,52,53,52,54,52,55,52,56,52,57,53,48,53,49,53,50,53,51,53,52,53,53,53,54,53,55,53,56,53,57,54,48,54,49,54,50,54,51,54,52,54,53,54,54,54,55,54,56,54,57,55,48,55,49,55,50,55,51,55,52,55,53,55,54,55,55,55,56,55,57,56,48,56,49,56,50,56,51,56,52,56,53,56,54,56,55,56,56,56,57,57,48,57,49,57,50,57,51,57,52,57,53,57,54,57,55,57,56,57,57])) (.t 117))),dX 9 [] (mO 119 15),dX 10 [9] (oO 120 (.ix (.c (.str [48,48,48,49,48,50,48,51,48,52,48,53,48,54,48,55,48,56,48,57,49,48,49,49,49,50,49,51,49,52,49,53,49,54,49,55,49,56,49,57,50,48,50,49,50,50,50,51,50,52,50,53,50,54,50,55,50,56,50,57,51,48,51,49,51,50,51,51,51,52,51,53,51,54,51,55,51,56,51,57,52,48,52,49,52,50,52,51,52,52,52,53,52,54,52,55,52,56,52,57,53,48,53,49,53,50,53,51,53,52,53,53,53,54,53,55,53,56,53,57,54,48,54,49,54,50,54,51,54,52,54,53,54,54,54,55,54,56,54,57,55,48,55,49,55,50,55,51,55,52,55,53,55,54,55,55,55,56,55,57,56,48,56,49,56,50,56,51,56,52,56,53,56,54,56,55,56,56,56,57,57,48,57,49,57,50,57,51,57,52,57,53,57,54,57,55,57,56,57,57])) (.t 119))),dX 11 [0,1,2,6,7,8] (iY 121 1 110 112),⟨12,[0,1,2,6,7,8,11],nO (.st false 1 (.t 121) (.t 118)),true,[]⟩,dX 13 (rO 13) (iY 122 1 113 115),⟨14,(rO 14),nO (.st false 1 (.t 122) (.t 120)),true,[]⟩]) (.seq (.drw [dX 0 [] (mO 123 0),dX 1 [] (mO 124 4),dX 2 [1] (bY 125 .sub 124 3),dX 3 [] (mO 126 0),dX 4 [] (mO 127 4),dX 5 [4] (bY 128 .sub 127 4),dX 6 [] (mO 129 14),dX 7 [6] (oO 130 (.bin .add (.t 129) (.c (.int .u32 1)))),dX 8 [6,7] (oO 131 (.ix (.c (.str [48,48,48,49,48,50,48,51,48,52,48,53,48,54,48,55,48,56,48,57,49,48,49,49,49,50,49,51,49,52,49,53,49,54,49,55,49,56,49,57,50,48,50,49,50,50,50,51,50,52,50,53,50,54,50,55,50,56,50,57,51,48,51,49,51,50,51,51,51,52,51,53,51,54,51,55,51,56,51,57,52,48,52,49,52,50,52,51,52,52,52,53,52,54,52,55,52,56,52,57,53,48,53,49,53,50,53,51,53,52,53,53,53,54,53,55,53,56,53,57,54,48,54,49,54,50,54,51,54,52,54,53,54,54,54,55,54,56,54,57,55,48,55,49,55,50,55,51,55,52,55,53,55,54,55,55,55,56,55,57,56,48,56,49,56,50,56,51,56,52,56,53,56,54,56,55,56,56,56,57,57,48,57,49,57,50,57,51,57,52,57,53,57,54,57,55,57,56,57,57])) (.t 130))),dX 9 [] (mO 132 14),dX 10 [9] (oO 133 (.ix (.c (.str [48,48,48,49,48,50,48,51,48,52,48,53,48,54,48,55,48,56,48,57,49,48,49,49,49,50,49,51,49,52,49,53,49,54,49,55,49,56,49,57,50,48,50,49,50,50,50,51,50,52,50,53,50,54,50,55,50,56,50,57,51,48,51,49,51,50,51,51,51,52,51,53,51,54,51,55,51,56,51,57,52,48,52,49,52,50,52,51,52,52,52,53,52,54,52,55,52,56,52,57,53,48,53,49,53,50,53,51,53,52,53,53,53,54,53,55,53,56,53,57,54,48,54,49,54,50,54,51,54,52,54,53,54,54,54,55,54,56,54,57,55,48,55,49,55,50,55,51,55,52,55,53,55,54,55,55,55,56,55,57,56,48,56,49,56,50,56,51,56,52,56,53,56,54,56,55,56,56,56,57,57,48,57,49,57,50,57,51,57,52,57,53,57,54,57,55,57,56,57,57])) (.t 132))),dX 11 [0,1,2,6,7,8] (iY 134 1 123 125),⟨12,[0,1,2,6,7,8,11],nO (.st false 1 (.t 134) (.t 131)),true,[]⟩,dX 13 (rO 13) (iY 135 1 126 128),⟨14,(rO 14),nO (.st false 1 (.t 135) (.t 133)),true,[]⟩]) (.reg [mO 136 4,bY 137 .sub 136 4,mO 4 137])))))) .skip)) (.seq (sR [mO 138 4,bY 139 .geq 138 2] (cD 139 (sR [mO 140 12,oO 141 (.bin .rem (.t 140) (.c (.int .u32 100))),oO 142 (.bin .mul (.t 141) (.c (.int .u32 2))),mO 16 142] (sR [mO 143 12,oO 144 (.bin .quo (.t 143) (.c (.int .u32 100))),mO 12 144] (.seq (.drw [dX 0 [] (mO 145 0),dX 1 [] (mO 146 4),dX 2 [1] (bY 147 .sub 146 1),dX 3 [] (mO 148 0),dX 4 [] (mO 149 4),dX 5 [4] (bY 150 .sub 149 2),dX 6 [] (mO 151 16),dX 7 [6] (oO 152 (.bin .add (.t 151) (.c (.int .u32 1)))),dX 8 [6,7] (oO 153 (.ix (.c (.str [48,48,48,49,48,50,48,51,48,52,48,53,48,54,48,55,48,56,48,57,49,48,49,49,49,50,49,51,49,52,49,53,49,54,49,55,49,56,49,57,50,48,50,49,50,50,50,51,50,52,50,53,50,54,50,55,50,56,50,57,51,48,51,49,51,50,51,51,51,52,51,53,51,54,51,55,51,56,51,57,52,48,52,49,52,50,52,51,52,52,52,53,52,54,52,55,52,56,52,57,53,48,53,49,53,50,53,51,53,52,53,53,53,54,53,55,53,56,53,57,54,48,54,49,54,50,54,51,54,52,54,53,54,54,54,55,54,56,54,57,55,48,55,49,55,50,55,51,55,52,55,53,55,54,55,55,55,56,55,57,56,48,56,49,56,50,56,51,56,52,56,53,56,54,56,55,56,56,56,57,57,48,57,49,57,50,57,51,57,52,57,53,57,54,57,55,57,56,57,57])) (.t 152))),dX 9 [] (mO 154 16),dX 10 [9] (oO 155 (.ix (.c (.str [48,48,48,49,48,50,48,51,48,52,48,53,48,54,48,55,48,56,48,57,49,48,49,49,49,50,49,51,49,52,49,53,49,54,49,55,49,56,49,57,50,48,50,49,50,50,50,51,50,52,50,53,50,54,50,55,50,56,50,57,51,48,51,49,51,50,51,51,51,52,51,53,51,54,51,55,51,56,51,57,52,48,52,49,52,50,52,51,52,52,52,53,52,54,52,55,52,56,52,57,53,48,53,49,53,50,53,51,53,52,53,53,53,54,53,55,53,56,53,57,54,48,54,49,54,50,54,51,54,52,54,53,54,54,54,55,54,56,54,57,55,48,55,49,55,50,55,51,55,52,55,53,55,54,55,55,55,56,55,57,56,48,56,49,56,50,56,51,56,52,56,53,56,54,56,55,56,56,56,57,57,48,57,49,57,50,57,51,57,52,57,53,57,54,57,55,57,56,57,57])) (.t 154))),dX 11 [0,1,2,6,7,8] (iY 156 1 145 147),⟨12,[0,1,2,6,7,8,11],nO (.st false 1 (.t 156) (.t 153)),true,[]⟩,dX 13 (rO 13) (iY 157 1 148 150),⟨14,(rO 14),nO (.st false 1 (.t 157) (.t 155)),true,[]⟩]) (.reg [mO 158 4,bY 159 .sub 158 2,mO 4 159])))) .skip)) (sR [mO 160 4,bY 161 .gtr 160 0] (cD 161 (.reg [mO 162 0,mO 163 12,oO 164 (.bin .add (.c (.int .u32 48)) (.t 163)),oO 165 (.wrp .u8 (.t 164)),oO 166 (.ia none 1 (.t 162) (cI 0)),nO (.st false 1 (.t 166) (.t 165))]) .skip)))))),res:=[] }
def c353:VF:={ code:=sR [oO 10 (.nw 1),oO 11 (.mv (.c (.str [])))] (.seq (sR [mO 19 2,bY 20 .lss 19 2,mO 21 20,gB 22 21 (mX 2),gB 23 21 (bX .eql 22 10),pY 24 21 23,mO 25 24,gB 26 25 (mX 2),gB 27 25 (bX .gtr 26 36),pY 28 25 27] (cD 28 (.reg [oO 29 (.mi 9 (.c (.str [115,116,114,99,111,110,118,58,32,105,108,108,101,103,97,108,32,65,112,112,101,110,100,73,110,116,47,70,111,114,109,97,116,73,110,116,32,98,97,115,101]))),nO (.bad)]) .skip)) (sR [oO 12 (.al [.int .u8 0,.int .u8 0,.int .u8 0,.int .u8 0,.int .u8 0,.int .u8 0,.int .u8 0,.int .u8 0,.int .u8 0,.int .u8 0,.int .u8 0,.int .u8 0,.int .u8 0,.int .u8 0,.int .u8 0,.int .u8 0,.int .u8 0,.int .u8 0,.int .u8 0,.int .u8 0,.int .u8 0,.int .u8 0,.int .u8 0,.int .u8 0,.int .u8 0,.int .u8 0,.int .u8 0,.int .u8 0,.int .u8 0,.int .u8 0,.int .u8 0,.int .u8 0,.int .u8 0,.int .u8 0,.int .u8 0,.int .u8 0,.int .u8 0,.int .u8 0,.int .u8 0,.int .u8 0,.int .u8 0,.int .u8 0,.int .u8 0,.int .u8 0,.int .u8 0,.int .u8 0,.int .u8 0,.int .u8 0,.int .u8 0,.int .u8 0,.int .u8 0,.int .u8 0,.int .u8 0,.int .u8 0,.int .u8 0,.int .u8 0,.int .u8 0,.int .u8 0,.int .u8 0,.int .u8 0,.int .u8 0,.int .u8 0,.int .u8 0,.int .u8 0,.int .u8 0] [])] (sR [vY 13 65] (.seq (sR [mO 30 3] (cD 30 (.reg [mO 31 1,oO 32 (.neg (.t 31)),mO 1 32]) .skip)) (.seq (sR [mO 33 2,qY 34 356 33] (cD 34 (sR [mO 35 2,oO 36 (.wrp .u64 (.t 35)),qY 37 357 36,oO 38 (.wrp .u64 (.t 37)),mO 14 38] (sR [mO 39 2,oO 40 (.wrp .u64 (.t 39)),mO 15 40] (sR [mO 41 2,oO 42 (.wrp .u64 (.t 41)),oO 43 (.bin .sub (.t 42) (.c (.int .u64 1))),mO 16 43] (.seq (.block 0 (.loop [0,1,3,4,10,11,12,13,14,15,16] (.seq (sR [mO 44 1,mO 45 15,zY 46 .geq 44 45] (cD 46 .skip (.exit 0))) (.block 1 (sR [mO 47 13,bY 48 .sub 47 1,mO 13 48] (sR [mO 49 13,mO 50 1,mO 51 16,zY 52 .and 50 51,oO 53 (.ix (.c (.str [48,49,50,51,52,53,54,55,56,57,97,98,99,100,101,102,103,104,105,106,107,108,109,110,111,112,113,114,115,116,117,118,119,120,121,122])) (.t 52)),oO 54 (.ia (some 65) 1 (.t 12) (.t 49)),nO (.st false 1 (.t 54) (.t 53))] (.reg [mO 55 1,mO 56 14,zY 57 .shr 55 56,mO 1 57]))))))) (sR [mO 58 13,bY 59 .sub 58 1,mO 13 59] (.reg [mO 60 13,mO 61 1,oO 62 (.ix (.c (.str [48,49,50,51,52,53,54,55,56,57,97,98,99,100,101,102,103,104,105,106,107,108,109,110,111,112,113,114,115,116,117,118,119,120,121,122])) (.t 61)),oO 63 (.ia (some 65) 1 (.t 12) (.t 60)),nO (.st false 1 (.t 63) (.t 62))])))))) (sR [mO 64 2,oO 65 (.wrp .u64 (.t 64)),mO 17 65] (.seq (.block 2 (.loop [0,1,3,4,10,11,12,13,17] (.seq (sR [mO 66 1,mO 67 17,zY 68 .geq 66 67] (cD 68 .skip (.exit 2))) (.block 3 (sR [mO 69 13,bY 70 .sub 69 1,mO 13 70] (sR [mO 71 1,mO 72 17,zY 73 .quo 71 72,mO 18 73] (sR [mO 74 13,mO 75 1,mO 76 18,mO 77 17,zY 78 .mul 76 77,zY 79 .sub 75 78,oO 80 (.ix (.c (.str [48,49,50,51,52,53,54,55,56,57,97,98,99,100,101,102,103,104,105,106,107,108,109,110,111,112,113,114,115,116,117,118,119,120,121,122])) (.t 79)),oO 81 (.ia (some 65) 1 (.t 12) (.t 74)),nO (.st false 1 (.t 81) (.t 80))] (.reg [mO 82 18,mO 1 82])))))))) (sR [mO 83 13,bY 84 .sub 83 1,mO 13 84] (.reg [mO 85 13,mO 86 1,oO 87 (.ix (.c (.str [48,49,50,51,52,53,54,55,56,57,97,98,99,100,101,102,103,104,105,106,107,108,109,110,111,112,113,114,115,116,117,118,119,120,121,122])) (.t 86)),oO 88 (.ia (some 65) 1 (.t 12) (.t 85)),nO (.st false 1 (.t 88) (.t 87))])))))) (.seq (sR [mO 89 3] (cD 89 (sR [mO 90 13,bY 91 .sub 90 1,mO 13 91] (.reg [mO 92 13,oO 93 (.ia (some 65) 1 (.t 12) (.t 92)),nO (.st false 1 (.t 93) (.c (.int .u8 45)))])) .skip)) (.seq (sR [mO 94 4] (cD 94 (sR [mO 95 0,mO 96 13,oO 97 (.bad),oO 98 (.app 1 (.t 95) (.t 97)),mO 10 98] .ret) .skip)) (sR [mO 99 13,oO 100 (.bad),oO 101 (.b2s (.t 100)),mO 11 101] .ret)))))))),res:=[(10,none),(11,none)] }
def c354:VF:={ code:=sR [vY 2 0] (sR [mO 3 0,bY 4 .mul 3 78913,oO 5 (.bin .shr (.t 4) (.c (.int .u64 18))),mO 2 5] .ret),res:=[(2,none)] }
def c355:VF:={ code:=sR [vY 2 0] (.seq (sR [mO 3 0] (cD 3 (sR [vY 2 1] .ret) .skip)) (sR [vY 2 0] .ret)),res:=[(2,none)] }
def c356:VF:={ code:=sR [oO 2 (.mv cF)] (sR [mO 3 0,mO 4 0,bY 5 .sub 4 1,zY 6 .and 3 5,bY 7 .eql 6 0,mO 2 7] .ret),res:=[(2,none)] }
def c357:VF:={ code:=sR [vY 2 0] (.seq (.cond cF (sR [mO 3 0,oO 4 (.wrp .u32 (.t 3)),qY 5 358 4,mO 2 5] .ret) .skip) (sR [mO 6 0,qY 7 359 6,mO 2 7] .ret)),res:=[(2,none)] }
def c358:VF:={ code:=sR [vY 2 0] (.seq (sR [mO 3 0,oO 4 (.bin .eql (.t 3) (.c (.int .u32 0)))] (cD 4 (sR [vY 2 32] .ret) .skip)) (sR [mO 5 0,mO 6 0,oO 7 (.neg (.t 6)),zY 8 .and 5 7,oO 9 (.bin .mul (.t 8) (.c (.int .u32 125613361))),oO 10 (.bin .shr (.t 9) (.c (.int .u64 27))),oO 11 (.bad),lY 12 1 11,oO 13 (.wrp .i64 (.t 12)),mO 2 13] .ret)),res:=[(2,none)] }
def c359:VF:={ code:=sR [vY 2 0] (.seq (sR [mO 3 0,oO 4 (.bin .eql (.t 3) (.c (.int .u64 0)))] (cD 4 (sR [vY 2 64] .ret) .skip)) (sR [mO 5 0,mO 6 0,oO 7 (.neg (.t 6)),zY 8 .and 5 7,oO 9 (.bin .mul (.t 8) (.c (.int .u64 285870213051353865))),oO 10 (.bin .shr (.t 9) (.c (.int .u64 58))),oO 11 (.bad),lY 12 1 11,oO 13 (.wrp .i64 (.t 12)),mO 2 13] .ret)),res:=[(2,none)] }
end Go.Vm
/-
  The machine V: a function's end; slices.Clone, whose test for nil V cannot answer.
-/
namespace Go.Vm
open Go Go.RowKit
section
variable {P:Program} {G:Gh} {KW:World→Prop} {B:Bd KW} {n:Nat} {w:World}
theorem body_end {fn:Func} {F:VF} {G':Gh} {s0 s1:St} {a':Act} {w':World} {v:V} {sg':List Fr} {wd:Nat} (htr:trRes P fn.results.toList F.res=true) (sa:SA n G' B s1 a' w') (mo:Mo G B s0 w G' s1 w')
  (hl:leave F s1=some (v,sg',wd)) {e:Exit} (he:e = .normal∨e = .ret) :
  bodyPost P fn (fun | .returned cv,w'=>∃ G',RetR G B s0.sg sg' v w G' cv w'|_,_=>False) e a' w':=by
 have hl':=hl
 unfold leave at hl'
 obtain⟨vs,hvs,_⟩:=bind_some' hl'
 obtain⟨cv,hcv,hRR⟩:=results_ok (fn:=fn) sa.sr htr hvs
 obtain⟨G2,ret⟩:=leave_ok sa.sr hvs hRR hl
 have hfin:a'.defers = []∧∃ v',(results fn a'.tmps).run P w' = .ok v' w'∧∃ G',RetR G B s0.sg sg' v w G' v' w':=by
  refine⟨sa.df,cv,hcv,G2,ret.wr,mo.im.trans ret.im,?_,?_,?_,mo.be.trans ret.be⟩
  ·have h1:=mo.up
   have h2:=ret.up
   rw[mo.ln] at h2
   exact h1.trans h2
  ·exact ret.ln.trans mo.ln
  ·have h2:=ret.v
   rw[mo.ln] at h2
   exact h2
 rcases he with rfl|rfl
 ·exact hfin
 ·exact hfin
theorem run_eqsl {d:Nat} {t e:TypeId} (ht:P.underlying t=some (.slice e)) (b:Option Addr) (x c:Nat):(Op.equalIn (d+1) t (.slice b x c) (.slice none 0 0)).run P w = .ok b.isNone w:=by
 cases b<;>simp[Op.equalIn,run_underlying ht]
theorem eqg_sl {op:BinOp} {t:TypeId} {x y:Operand} {b:Option Addr} {n c:Nat}:(eqGuard op t x y (.slice b n c) (.slice none 0 0)).run P w = .ok () w:=by
 unfold eqGuard;split<;>rfl
theorem run_eqs_nil {t e:TypeId} (ht:P.underlying t=some (.slice e)) (b:Option Addr) (x c:Nat):(binOp .eql t (.slice b x c) (.slice none 0 0)).run P w = .ok (.bool b.isNone) w:=
 run_eql_other (P:=P) (w:=w) (n:=false) (.inl ⟨rfl,rfl⟩) ⟨fun _ _ h=>(by cases h),fun _ _ h=>(by cases h),fun _ _ _ h=>(by cases h),fun _ h=>(by cases h)⟩ (run_eqsl (P:=P) (w:=w) (d:=9999) ht b x c)
theorem upd_if (e:Nat→V) (t:Nat) (v:V) (u:Nat):upd e t v u=if u=t then v else e u:=by
 unfold upd
 by_cases h:u=t
 ·subst h;simp
 ·rw[if_neg h]
  have:Nat.beq u t=false:=by
   cases hb:Nat.beq u t with
   |false=>rfl
   |true=>exact absurd (Nat.eq_of_beq_eq_true hb) h
  rw[this];rfl
theorem ble0 (n:Nat):Nat.ble 0 n=true:=Nat.ble_eq_true_of_le (Nat.zero_le n)
theorem beq_self (n:Nat):Nat.beq n n=true:=Nat.beq_refl n
def cloneT (z:Nat) (m:Bool):VC:=.seq (.reg [⟨some 2,bif m then .nm z else .mv (.c (.sl .ex z [])),none⟩]) .ret
def cloneF (z:Nat) (m:Bool):VC:=.seq (.reg [⟨some 5,bif m then .bm z [] else .bl z [],none⟩,⟨some 6,.mv (.t 0),none⟩,⟨some 7,bif m then .am z (.t 5) (.t 6) else .app z (.t 5) (.t 6),none⟩,⟨some 2,.mv (.t 7),none⟩]) .ret
def cloneVF (m:Bool):VF:={ code:=.bad,res:=[(2,none)],keepR:=m }
structure CloneFn (P:Program) (z:Nat) (m:Bool) (fn:Func):Prop where
 nm:(fn.name == "runtime.NumGoroutine")=false
 ex:∃ (i0 i1:Nat) (ops0:Array Oper) (o3 o4:Oper) (c1 c2:Code) (t t' e:TypeId),
  fn.body=some (.seq (.region i0 ops0 false) (.seq (.seq (.region i1 #[o3,o4] false) (.cond (.tmp 4) c1 .skip)) c2)) ∧
  trReg fn.ntmps P ops0 0 [⟨some 2,.mv (.c (.sl .ex z [])),none⟩]=true ∧
  trStep fn.ntmps P #[o3,o4] o3 ⟨some 3,.mv (.t 0),none⟩=true ∧
  o4.op = .binOp .eql t (.tmp 3) (.const (.slice none 0 0)) t'∧o4.dst=some 4∧o4.guard=none∧4<fn.ntmps∧P.underlying t=some (.slice e) ∧
  trC fn.ntmps P (cloneT z m) c1=true∧trC fn.ntmps P (cloneF z m) c2=true
 rs:trRes P fn.results.toList [(2,none)]=true
def cloneR (z:Nat) (es:List V) (sg:List Fr):Bool→Option (V × List Fr × Nat)
 |false=>some (.sl .no z es,sg,0)
 |true=>match sg with
  |f::r=>some (.bs 0 f.length es.length 0 es.length,(f ++ [.arr es.length z es])::r,1)
  | []=>none
def cloneX (L:FuncId→Option (Nat × Bool)):Call:=fun f as sg=>
 match L f,as with
 |some (z,m),[.sl _ z' es]=>bif Nat.beq z z'&&(Nat.ble es.length lim&&(!m||es.all cel)) then cloneR z es sg m else none
 |_,_=>none
theorem cloneX_q (L:FuncId→Option (Nat × Bool)):CallQ (cloneX L):=by
 intro f as sg v sg' wd h
 unfold cloneX at h
 split at h
 ·have h1:=bif_same h
  rename_i m _ _ _ _
  cases m with
  |false=>
   simp only[cloneR,Option.some.injEq,Prod.mk.injEq] at h1
   obtain⟨_,rfl,_⟩:=h1
   exact⟨rfl,fun _ _=>rfl⟩
  |true=>
   cases sg with
   |nil=>cases h1
   |cons fr r=>
    simp only[cloneR,Option.some.injEq,Prod.mk.injEq] at h1
    obtain⟨_,rfl,rfl⟩:=h1
    refine⟨rfl,fun d hd=>?_⟩
    obtain⟨k,rfl⟩:∃ k,d=k+1:=⟨d-1,by omega⟩
    rfl
 ·cases h
def noCall:Call:=fun _ _ _=>none
theorem noCall_ok:CallOk KW P noCall:=fun _ _ _ _ _ _ h=>by cases h
theorem noCall_q:CallQ noCall:=fun _ _ _ _ _ _ h=>by cases h
theorem cloneT_run {z:Nat} {m:Bool} {C:Cfg} {call:Call} {s:St} (hfr:s.fr = []) (hwd:s.wd=0) {R:V × List Fr × Nat} (hR:cloneR z [] s.sg m=some R) :
  ∃ S,execF C call 1 (cloneT z m) s=some (.ret,S)∧leave (cloneVF m) S=some R:=by
 obtain⟨tm,fr,sg,wd⟩:=s
 simp only at hfr hwd hR
 subst hfr;subst hwd
 cases m with
 |false=>
  cases hR
  exact⟨_,rfl,rfl⟩
 |true=>
  cases sg with
  |nil=>cases hR
  |cons f r=>
   cases hR
   exact⟨_,rfl,rfl⟩
theorem cloneF_run {tk:Tok} {z:Nat} {m:Bool} {es:List V} {C:Cfg} {call:Call} {s:St} (h0:s.tm 0 = .sl tk z es) (hfr:s.fr = []) (hwd:s.wd=0) (hl:es.length≤lim) (hc:m=true→es.all cel=true) {R:V × List Fr × Nat} (hR:cloneR z es s.sg m=some R) :
  ∃ S,execF C call 1 (cloneF z m) s=some (.ret,S)∧leave (cloneVF m) S=some R:=by
 obtain⟨tm,fr,sg,wd⟩:=s
 simp only at h0 hfr hwd hR
 subst hfr;subst hwd
 cases m with
 |false=>
  cases hR
  cases es with
  |nil=>
   refine⟨{ tm:=upd (upd (upd (upd tm 5 (.sl .ex z [])) 6 (.sl tk z [])) 7 (.sl .ex z [])) 2 (.sl .ex z []),fr:=[],sg,wd:=0 },?_,rfl⟩
   simp[cloneF,execF,runL,stepV,want,opV,Vm.put,rd,upd_if,beq_self,ble0,h0,els,appV,elV,lim]
  |cons e es=>
   have hl':Nat.ble (es.length+1) lim=true:=Nat.ble_eq_true_of_le (by simpa using hl)
   refine⟨{ tm:=upd (upd (upd (upd tm 5 (.sl .ex z [])) 6 (.sl tk z (e::es))) 7 (.sl (.at 0 0 (es.length+1)) z (e::es))) 2 (.sl (.at 0 0 (es.length+1)) z (e::es)),fr:=[.tok (es.length+1)],sg,wd:=0 },?_,rfl⟩
   simp[cloneF,execF,runL,stepV,want,opV,Vm.put,rd,upd_if,beq_self,ble0,h0,els,appV,elV,hl']
 |true=>
  cases sg with
  |nil=>cases hR
  |cons f r=>
   cases hR
   have hc':=hc rfl
   cases es with
   |nil=>
    refine⟨{ tm:=upd (upd (upd (upd tm 5 (.bs 0 0 0 0 0)) 6 (.sl tk z [])) 7 (.bs 0 0 0 0 0)) 2 (.bs 0 0 0 0 0),fr:=[.arr 0 z []],sg:=f::r,wd:=0 },?_,rfl⟩
    simp[cloneF,execF,runL,stepV,want,opV,Vm.put,rd,upd_if,beq_self,ble0,h0,els,amV,elV,lim,St.get,getB]
   |cons e es=>
    have hl':Nat.ble (es.length+1) lim=true:=Nat.ble_eq_true_of_le (by simpa using hl)
    have hc1:cel e=true:=by simp at hc';exact hc'.1
    have hc2:es.all cel=true:=by simp at hc';simpa using hc'.2
    refine⟨{ tm:=upd (upd (upd (upd tm 5 (.bs 0 0 0 0 0)) 6 (.sl tk z (e::es))) 7 (.bs 0 0 (es.length+1) 0 (es.length+1))) 2 (.bs 0 0 (es.length+1) 0 (es.length+1)),fr:=[.arr (es.length+1) z (e::es)],sg:=f::r,wd:=0 },?_,rfl⟩
    simp[cloneF,execF,runL,stepV,want,opV,Vm.put,rd,upd_if,beq_self,ble0,h0,els,amV,elV,hl',St.get,getB,St.set,hc1,hc2]
theorem cloneX_ok {L:FuncId→Option (Nat × Bool)} (hm:P.follows .mixedOrders=true) (hL:∀ f z m,L f=some (z,m)→∃ fn,P.funcs[f]? = some fn∧CloneFn P z m fn):CallOk KW P (cloneX L):=by
 intro f as sg v sg' wd h G B w A hwr hA hR
 unfold cloneX at h
 split at h
 case h_2=>cases h
 rename_i z m tk z' es hf
 obtain⟨hb,h1⟩:=bif_opt' h
 simp only[Bool.and_eq_true] at hb
 have hz:=Nat.eq_of_beq_eq_true hb.1
 have hlim:=Nat.le_of_ble_eq_true hb.2.1
 have hcel:m=true→es.all cel=true:=fun e=>by have:=hb.2.2;rw[e] at this;simpa using this
 subst hz
 obtain⟨fn,hfn,hnm,⟨i0,i1,ops0,o3,o4,c1,c2,t,t',e,hbody,hr0,ht3,h4,h4d,h4g,h4n,ht,hc1,hc2⟩,hrs⟩:=hL f z m hf
 have hrun:(callFunc f A).run P w = .ok (.enter f A) w:=by
  simp[callFunc,hfn,hbody]
  intro h
  rw[h] at hnm
  simp at hnm
 let C0:Cfg:={ keepA:=fun _=>false }
 let s0:St:={ tm:=env [.sl tk z es],fr:=[],sg:=sg,wd:=0 }
 have hsa:SA fn.ntmps G B s0 { tmps:=A++Array.replicate (fn.ntmps-A.size) undef,defers:=[] } w:=by
  refine⟨⟨hwr,fun t=>?_⟩,by simp;omega,rfl⟩
  show VR _ _ sg.length (env [.sl tk z es] t) _
  rw[env_get]
  cases ht:([.sl tk z es]:List V)[t]? with
  |none=>exact .und _
  |some x=>
   have hlt:t<A.size:=by rw[hA];exact(List.getElem?_eq_some_iff.1 ht).1
   have hy:(A++Array.replicate (fn.ntmps-A.size) undef).getD t undef=A[t]:=by
    simp[Array.getElem?_append_left hlt,hlt]
   rw[hy]
   exact hR t x A[t] ht (by simp[hlt])
 refine .inl ⟨hrun,calls_of_wp hfn hbody ?_⟩
 refine wp_seq (wp_region ?_)
 rw[List.range_eq_range']
 refine reg_ok (C:=C0) noCall_ok _ 0 G s0 _ w hr0 hsa rfl fun a1 w1 G1 sa1 mo1=>?_
 refine wp_seq (wp_seq (wp_region ?_))
 show wpOps P #[o3,o4] _ [0,1] a1 w1
 rw[Go.wpOps_cons]
 refine step_ok (C:=C0) noCall_ok ht3 sa1 (by rfl) rfl fun a2 w2 G2 sa2 mo2=>?_
 rw[Go.wpOps_cons]
 have mo12:=mo1.trans mo2
 have hx:VR G2.im G2.ph sg.length (.sl tk z es) (a2.tmps.getD 3 undef):=by
  have h3:=sa2.sr.tr 3
  exact h3
 obtain⟨ad,cap,g,hcv,_,hcap,ha,_⟩:=hx.sl_inv.sl_inv
 have h4run:(execOp a2.eval o4).run P w2 = .ok (.value (.bool ad.isNone)) w2:=by
  have e1:a2.eval (.tmp 3) = .slice ad es.length cap:=hcv
  have e2:a2.eval (.const (.slice none 0 0)) = .slice none 0 0:=rfl
  simp only[execOp,h4,e1,e2,Sem.run_bind,eqg_sl,Result.andThen_ok,run_eqs_nil ht,Sem.run_pure]
 refine wpOp_do (o:=o4) (by rfl) (by simp[Region.wanted,h4g]) ?_
 unfold Oper.wp
 rw[h4run,Oper.upon_value]
 simp only[wpOps]
 let s3:St:=Vm.put s0 (some 0) (.sl tk z es)
 have sa3:∀ s2:St,SA fn.ntmps G2 B s2 a2 w2→SA fn.ntmps G2 B (Vm.put s2 (some 4) (.bool ad.isNone)) (a2.put o4.dst (.bool ad.isNone)) w2:=fun s2 sa=>by
  rw[h4d]
  exact⟨sa.sr.put (.quiet sa.sr.wr (.pr _ _ (.bool _))) (fun t e=>by cases e;exact Nat.lt_of_lt_of_le h4n sa.sz),by rw[Act.put_size];exact sa.sz,by rw[Act.put_defers];exact sa.df⟩
 have sa4:=sa3 _ sa2
 have heval:(a2.put o4.dst (.bool ad.isNone)).eval (.tmp 4) = .bool ad.isNone:=by
  have h0:=sa4.sr.tr 4
  exact h0.bool_inv
 refine wp_cond_split heval (fun hn=>?_) (fun hn=>?_)
 ·have h0:es = []:=by
   cases ad with
   |none=>exact List.eq_nil_of_length_eq_zero (by have:=ha rfl;omega)
   |some _=>cases hn
  subst h0
  obtain⟨S,hS,hlv⟩:=cloneT_run (C:=C0) (call:=noCall) (z:=z) (m:=m) (s:=Vm.put (Vm.put (Vm.put s0 (some 2) (.sl .ex z [])) (some 3) (.sl tk z [])) (some 4) (.bool ad.isNone)) rfl rfl h1
  refine code_ok (C:=C0) noCall_ok noCall_q hm 1 (cloneT z m) c1 G2 _ _ _ _ .ret _ hc1 sa4 hS fun a5 w5 G5 sa5 mo5=>?_
  have moA:Mo G B s0 w G5 _ w5:=mo12.trans ⟨mo5.im,mo5.up,mo5.ln,mo5.be⟩
  exact body_end (F:=cloneVF m) hrs sa5 moA hlv (.inr rfl)
 ·obtain⟨S,hS,hlv⟩:=cloneF_run (C:=C0) (call:=noCall) (z:=z) (m:=m) (es:=es) (tk:=tk) (s:=Vm.put (Vm.put (Vm.put s0 (some 2) (.sl .ex z [])) (some 3) (.sl tk z es)) (some 4) (.bool ad.isNone)) rfl rfl rfl hlim hcel h1
  refine wp_skip ?_
  show Code.wp P c2 (bodyPost P fn _) _ _
  refine code_ok (C:=C0) noCall_ok noCall_q hm 1 (cloneF z m) c2 G2 _ _ _ _ .ret _ hc2 sa4 hS fun a5 w5 G5 sa5 mo5=>?_
  have moA:Mo G B s0 w G5 _ w5:=mo12.trans ⟨mo5.im,mo5.up,mo5.ln,mo5.be⟩
  exact body_end (F:=cloneVF m) hrs sa5 moA hlv (.inr rfl)
end
end Go.Vm
/-
  The machine V: more fuel changes no answer; what is there in the end.
-/
namespace Go.Vm
open Go
def CallLe (c c':Call):Prop:=∀ f as sg r,c f as sg=some r→c' f as sg=some r
theorem CallLe.refl (c:Call):CallLe c c:=fun _ _ _ _ h=>h
theorem CallLe.trans {a b c:Call} (h:CallLe a b) (k:CallLe b c):CallLe a c:=fun f as sg r e=>k f as sg r (h f as sg r e)
def Good {α:Type} (A:Nat→Call) (W:Call) (F:Call→Option α):Prop:=
 (∀ c c',CallLe c c'→∀ r,F c=some r→F c'=some r)∧(∀ r,F W=some r→∃ m,F (A m)=some r)
def GoodB (A:Nat→Call) (W:Call) (F:Call→Bool):Prop:=
 (∀ c c',CallLe c c'→F c=true→F c'=true)∧(F W=true→∃ m,F (A m)=true)
section
variable {A:Nat→Call} {W:Call} {α β:Type}
theorem good_const (x:Option α):Good A W (fun _=>x):=⟨fun _ _ _ _ h=>h,fun _ h=>⟨0,h⟩⟩
theorem good_bind (hA:∀ m n,m≤n→CallLe (A m) (A n)) {F:Call→Option α} {K:α→Call→Option β} (hF:Good A W F) (hK:∀ a,Good A W (K a)) :
  Good A W (fun c=>(F c).bind fun a=>K a c):=by
 refine⟨fun c c' hc r h=>?_,fun r h=>?_⟩
 ·obtain⟨a,h1,h2⟩:=Option.bind_eq_some_iff.1 h
  exact Option.bind_eq_some_iff.2 ⟨a,hF.1 c c' hc a h1,(hK a).1 c c' hc r h2⟩
 ·obtain⟨a,h1,h2⟩:=Option.bind_eq_some_iff.1 h
  obtain⟨m,h3⟩:=hF.2 a h1
  obtain⟨n,h4⟩:=(hK a).2 r h2
  refine⟨max m n,Option.bind_eq_some_iff.2 ⟨a,hF.1 _ _ (hA _ _ (Nat.le_max_left _ _)) a h3,(hK a).1 _ _ (hA _ _ (Nat.le_max_right _ _)) r h4⟩⟩
theorem good_map {F:Call→Option α} {g:α→β} (hF:Good A W F):Good A W (fun c=>(F c).map g):=by
 refine⟨fun c c' hc r h=>?_,fun r h=>?_⟩
 ·obtain⟨a,h1,h2⟩:=Option.map_eq_some_iff.1 h
  exact Option.map_eq_some_iff.2 ⟨a,hF.1 c c' hc a h1,h2⟩
 ·obtain⟨a,h1,h2⟩:=Option.map_eq_some_iff.1 h
  obtain⟨m,h3⟩:=hF.2 a h1
  exact⟨m,Option.map_eq_some_iff.2 ⟨a,h3,h2⟩⟩
theorem good_guard (hA:∀ m n,m≤n→CallLe (A m) (A n)) {F:Call→Bool} {K:Call→Option α} (hF:GoodB A W F) (hK:Good A W K) :
  Good A W (fun c=>bif F c then K c else none):=by
 refine⟨fun c c' hc r h=>?_,fun r h=>?_⟩
 ·cases hb:F c with
  |false=>simp[hb] at h
  |true=>simp only[hb,cond_true] at h;simp only[hF.1 c c' hc hb,cond_true];exact hK.1 c c' hc r h
 ·cases hb:F W with
  |false=>simp[hb] at h
  |true=>
   simp only[hb,cond_true] at h
   obtain⟨m,h3⟩:=hF.2 hb
   obtain⟨n,h4⟩:=hK.2 r h
   exact⟨max m n,by simp only[hF.1 _ _ (hA _ _ (Nat.le_max_left _ _)) h3,cond_true];exact hK.1 _ _ (hA _ _ (Nat.le_max_right _ _)) r h4⟩
theorem GoodB.congr {F G:Call→Bool} (h:GoodB A W F) (e:∀ c,G c=F c):GoodB A W G:=by
 have:G=F:=funext e
 rw[this];exact h
theorem goodB_const (b:Bool):GoodB A W (fun _=>b):=⟨fun _ _ _ h=>h,fun h=>⟨0,h⟩⟩
theorem goodB_and (hA:∀ m n,m≤n→CallLe (A m) (A n)) {F K:Call→Bool} (hF:GoodB A W F) (hK:GoodB A W K):GoodB A W (fun c=>F c&&K c):=by
 refine⟨fun c c' hc h=>?_,fun h=>?_⟩
 ·simp only[Bool.and_eq_true] at h ⊢
  exact⟨hF.1 c c' hc h.1,hK.1 c c' hc h.2⟩
 ·simp only[Bool.and_eq_true] at h
  obtain⟨m,h3⟩:=hF.2 h.1
  obtain⟨n,h4⟩:=hK.2 h.2
  exact⟨max m n,by simp only[hF.1 _ _ (hA _ _ (Nat.le_max_left _ _)) h3,hK.1 _ _ (hA _ _ (Nat.le_max_right _ _)) h4,Bool.and_self]⟩
theorem goodB_all (hA:∀ m n,m≤n→CallLe (A m) (A n)) {γ:Type} {F:γ→Call→Bool} (hF:∀ x,GoodB A W (F x)):∀ l:List γ,GoodB A W (fun c=>l.all fun x=>F x c)
 | []=>goodB_const true
 |x::l=>goodB_and hA (hF x) (goodB_all hA hF l)
theorem goodB_test {F:Call→Option α} {g:α→Bool} (hF:Good A W F):GoodB A W (fun c=>match F c with|some a=>g a|none=>false):=by
 refine⟨fun c c' hc h=>?_,fun h=>?_⟩
 ·cases hb:F c with
  |none=>simp[hb] at h
  |some a=>simp only[hb] at h;simp only[hF.1 c c' hc a hb,h]
 ·cases hb:F W with
  |none=>simp[hb] at h
  |some a=>
   simp only[hb] at h
   obtain⟨m,h3⟩:=hF.2 a hb
   exact⟨m,by simp only[h3,h]⟩
def Limit (A:Nat→Call) (W:Call):Prop:=(∀ m n,m≤n→CallLe (A m) (A n))∧∀ f as sg r,W f as sg=some r→∃ m,A m f as sg=some r
theorem good_call (hL:Limit A W) (f:FuncId) (as:List V) (sg:List Fr):Good A W (fun c=>c f as sg):=
 ⟨fun _ _ hc r h=>hc _ _ _ _ h,fun r h=>hL.2 _ _ _ _ h⟩
variable {C:Cfg}
theorem good_doCall (hL:Limit A W) (f:FuncId) (as:List V) (s:St):Good A W (fun c=>doCall C c f as s):=by
 have h:=good_bind (K:=fun(r:V × List Fr × Nat) (_:Call)=>(match r with|(v,fr::sg,wd)=>some (v,{ s with fr,sg,wd:=max s.wd (wd-1) })|_=>none:Option (V × St))) hL.1 (good_call hL f (as.map (argV (C.keepA f))) (s.fr::s.sg)) (fun a=>good_const _)
 have e:(fun c:Call=>doCall C c f as s)=fun c=>(c f (as.map (argV (C.keepA f))) (s.fr::s.sg)).bind fun r=>(match r with|(v,fr::sg,wd)=>some (v,{ s with fr,sg,wd:=max s.wd (wd-1) })|_=>none:Option (V × St)):=by
  funext c
  unfold doCall
  cases c f (as.map (argV (C.keepA f))) (s.fr::s.sg) with
  |none=>rfl
  |some x=>obtain⟨v,_|⟨fr,sg⟩,wd⟩:=x<;>rfl
 rw[e];exact h
theorem good_opV (hL:Limit A W) (o:VO) (s:St):Good A W (fun c=>opV C c o s):=by
 cases o with
 |call f as=>exact good_doCall hL f _ s
 |cv f as=>
  show Good A W (fun c=>doFn C c (rd s.tm f) (as.map (rd s.tm)) s)
  unfold doFn
  cases rd s.tm f<;>first|exact good_const none|exact good_doCall hL _ _ s
 |inv x m as=>
  show Good A W (fun c=>match rd s.tm x with
   | .iface t v=>(methF t m).bind fun f=>doCall C c f (v::as.map (rd s.tm)) s
   |_=>none)
  cases rd s.tm x<;>first|exact good_const none|skip
  exact good_bind hL.1 (good_const _) fun f=>good_doCall hL f _ s
 |ia n sz x i=>cases n<;>exact good_const _
 |_=>exact good_const _
theorem good_stepV (hL:Limit A W) (o:VOp) (s:St):Good A W (fun c=>stepV C c o s):=by
 unfold stepV
 cases want s o.g with
 |none=>exact good_const _
 |some b=>cases b with
  |false=>exact good_const _
  |true=>exact good_map (good_opV hL o.o s)
theorem good_runL (hL:Limit A W):∀ (os:List VOp) (s:St),Good A W (fun c=>runL C c os s)
 | [],s=>good_const _
 |o::os,s=>good_bind hL.1 (good_stepV hL o s) fun s1=>good_runL hL os s1
theorem good_callP (hL:Limit A W) (f:FuncId) (as:List V) (s:St):Good A W (fun c=>callP C c f as s):=by
 have h:=good_bind (K:=fun(r:V × List Fr × Nat) (_:Call)=>bif Nat.beq r.2.2 0 then some r.1 else none) hL.1 (good_call hL f (as.map (argV (C.keepA f))) (s.fr::s.sg)) (fun a=>good_const _)
 have e:(fun c:Call=>callP C c f as s)=fun c=>(c f (as.map (argV (C.keepA f))) (s.fr::s.sg)).bind fun r=>bif Nat.beq r.2.2 0 then some r.1 else none:=by
  funext c
  unfold callP
  cases c f (as.map (argV (C.keepA f))) (s.fr::s.sg)<;>rfl
 rw[e];exact h
theorem good_opP (hL:Limit A W) (o:VO) (s:St):Good A W (fun c=>opP C c o s):=by
 have key:Good A W (fun c=>bif pureO o then(opV C c o s).map (·.1) else none):=by
  cases pureO o with
  |false=>exact good_const none
  |true=>exact good_map (good_opV hL o s)
 cases o with
 |call f as=>exact good_callP hL f _ s
 |cv f as=>
  show Good A W (fun c=>fnP C c (rd s.tm f) (as.map (rd s.tm)) s)
  unfold fnP
  cases rd s.tm f<;>first|exact good_const none|exact good_callP hL _ _ s
 |_=>exact key
theorem good_stepP (hL:Limit A W) (o:VOp) (s:St):Good A W (fun c=>stepP C c o s):=by
 unfold stepP
 cases want s o.g with
 |none=>exact good_const _
 |some b=>cases b with
  |false=>exact good_const _
  |true=>exact good_map (good_opP hL o.o s)
theorem good_again (hL:Limit A W) (s:St) (o:VOp):GoodB A W (fun c=>again C c s o):=by
 unfold again
 cases want s o.g with
 |none=>exact goodB_const _
 |some b=>cases b with
  |false=>exact goodB_const _
  |true=>
   cases o.d with
   |none=>exact(goodB_const false).congr fun c=>by cases opP C c o.o s<;>rfl
   |some t=>exact(goodB_test (g:=fun v=>veq v (s.tm t)) (good_opP hL o.o s)).congr fun c=>by cases opP C c o.o s<;>rfl
theorem good_againAt (hL:Limit A W) (all:List DOp) (s:St) (i:Nat):GoodB A W (fun c=>againAt C c all s i):=by
 unfold againAt
 cases opAt all i with
 |none=>exact goodB_const _
 |some o=>exact good_again hL s o
theorem good_drwV (hL:Limit A W) (all:List DOp):∀ (l:List DOp) (s:St),Good A W (fun c=>drwV C c all l s)
 | [],s=>good_const _
 |x::l,s=>by
  unfold drwV
  cases x.main with
  |true=>exact good_bind hL.1 (good_stepV hL x.op s) fun s1=>good_guard hL.1 (goodB_all hL.1 (fun i=>good_againAt hL all s1 i) x.re) (good_drwV hL all l s1)
  |false=>exact good_bind hL.1 (good_stepP hL x.op s) fun s1=>good_drwV hL all l s1
theorem good_iter (hL:Limit A W) {body:Call→St→Option (Ex × St)} (hb:∀ s,Good A W (fun c=>body c s)) (n:Nat) (live:List Nat):∀ (k:Nat) (l:LS),Good A W (fun c=>iter (body c) n live k l)
 |0,l=>good_const _
 |k+1,l=>by
  have h:=good_bind (K:=fun(r:Ex × St) (c:Call)=>match r with|(.normal,s)=>iter (body c) n live k (LS.next n live s)|r=>some r) hL.1 (hb (l.st live)) (fun a=>by
   obtain⟨x,s⟩:=a
   cases x with
   |normal=>exact good_iter hL hb n live k _
   |_=>exact good_const _)
  have e:(fun c:Call=>iter (body c) n live (k+1) l)=fun c=>(body c (l.st live)).bind fun r=>match r with|(.normal,s)=>iter (body c) n live k (LS.next n live s)|r=>some r:=by
   funext c
   show(match body c (l.st live) with|some (.normal,s)=>_|r=>r)=_
   cases body c (l.st live) with
   |none=>rfl
   |some r=>obtain⟨x,s⟩:=r;cases x<;>rfl
  rw[e];exact h
def outB (id:Nat) (r:Ex × St):Ex × St:=match r with
 |(.exit j,s)=>bif Nat.beq j id then(.normal,s) else(.exit j,s)
 |r=>r
theorem good_execF (hL:Limit A W) (fuel:Nat):∀ (p:VC) (s:St),Good A W (fun c=>execF C c fuel p s)
 | .skip,s=>good_const _
 | .reg ops,s=>good_map (good_runL hL ops s)
 | .drw ops,s=>good_map (good_drwV hL ops ops s)
 | .seq a b,s=>by
  have h:=good_bind (K:=fun(r:Ex × St) (c:Call)=>match r with|(.normal,s)=>execF C c fuel b s|r=>some r) hL.1 (good_execF hL fuel a s) (fun r=>by
   obtain⟨x,s⟩:=r
   cases x with
   |normal=>exact good_execF hL fuel b _
   |_=>exact good_const _)
  have e:(fun c:Call=>execF C c fuel (.seq a b) s)=fun c=>(execF C c fuel a s).bind fun r=>match r with|(.normal,s)=>execF C c fuel b s|r=>some r:=by
   funext c
   show(match execF C c fuel a s with|some (.normal,s)=>_|r=>r)=_
   cases execF C c fuel a s with
   |none=>rfl
   |some r=>obtain⟨x,s⟩:=r;cases x<;>rfl
  rw[e];exact h
 | .cond o t e,s=>by
  show Good A W (fun c=>match rd s.tm o with | .bool b=>bif b then execF C c fuel t s else execF C c fuel e s|_=>none)
  cases rd s.tm o<;>first|exact good_const none|skip
  rename_i b
  cases b
  ·exact good_execF hL fuel e s
  ·exact good_execF hL fuel t s
 | .block id b,s=>by
  have h:=good_map (g:=outB id) (good_execF hL fuel b s)
  have e:(fun c:Call=>execF C c fuel (.block id b) s)=fun c=>(execF C c fuel b s).map (outB id):=by
   funext c
   simp only[execF]
   cases execF C c fuel b s with
   |none=>rfl
   |some r=>
    obtain⟨x,s⟩:=r
    cases x with
    |exit j=>
     show _=some (bif Nat.beq j id then _ else _)
     simp only
     cases Nat.beq j id<;>rfl
    |_=>rfl
  rw[e];exact h
 | .loop live b,s=>good_iter hL (fun s=>good_execF hL fuel b s) _ _ _ _
 | .exit id,s=>good_const _
 | .ret,s=>good_const _
 | .bad,s=>good_const _
theorem iter_le {body body':St→Option (Ex × St)} (hb:∀ s r,body s=some r→body' s=some r) {n:Nat} {live:List Nat}:∀ (k k':Nat) (l:LS) (r:Ex × St),k≤k'→iter body n live k l=some r→iter body' n live k' l=some r
 |0,_,_,_,_,h=>by cases h
 |k+1,0,_,_,hk,_=>by omega
 |k+1,k'+1,l,r,hk,h=>by
  simp only[iter] at h ⊢
  cases hx:body (l.st live) with
  |none=>rw[hx] at h;cases h
  |some x=>
   rw[hx] at h;rw[hb _ _ hx]
   obtain⟨x,s⟩:=x
   cases x with
   |normal=>exact iter_le hb k k' _ r (by omega) h
   |_=>exact h
theorem execF_fuel {call:Call} {m n:Nat} (hmn:m≤n):∀ (p:VC) (s:St) (r:Ex × St),execF C call m p s=some r→execF C call n p s=some r
 | .skip,s,r,h=>h
 | .reg ops,s,r,h=>h
 | .drw ops,s,r,h=>h
 | .seq a b,s,r,h=>by
  simp only[execF] at h ⊢
  cases hx:execF C call m a s with
  |none=>rw[hx] at h;cases h
  |some x=>
   rw[hx] at h;rw[execF_fuel hmn a s x hx]
   obtain⟨x,s⟩:=x
   cases x with
   |normal=>exact execF_fuel hmn b _ r h
   |_=>exact h
 | .cond o t e,s,r,h=>by
  simp only[execF] at h ⊢
  cases hx:rd s.tm o with
  |bool b=>
   rw[hx] at h
   cases b
   ·exact execF_fuel hmn e s r h
   ·exact execF_fuel hmn t s r h
  |_=>rw[hx] at h;cases h
 | .block id b,s,r,h=>by
  simp only[execF] at h ⊢
  cases hx:execF C call m b s with
  |none=>rw[hx] at h;cases h
  |some x=>rw[hx] at h;rw[execF_fuel hmn b s x hx];exact h
 | .loop live b,s,r,h=>iter_le (fun s r h=>execF_fuel hmn b s r h) _ _ _ _ hmn h
 | .exit id,s,r,h=>h
 | .ret,s,r,h=>h
 | .bad,s,r,h=>by cases h
end
end Go.Vm
/-
  The machine V: what a function answers, whatever the fuel; and how a code is gone through.
-/
namespace Go.Vm
open Go
structure Tab where
 C:Cfg
 funs:FuncId→Option VF
 prim:Call
def Tab.at (T:Tab) (n:Nat):Call:=callF T.C T.funs T.prim n
open Classical in
noncomputable def Tab.call (T:Tab):Call:=fun f as sg=>if h:∃ r n,T.at n f as sg=some r then some h.choose else none
section
variable {T:Tab}
theorem callF_succ {C:Cfg} {funs:FuncId→Option VF} {prim:Call} (n:Nat) (f:FuncId) (as:List V) (sg:List Fr):callF C funs prim (n+1) f as sg =
 match funs f with
 |some F=>match execF C (callF C funs prim n) n F.code { tm:=env as,fr:=[],sg,wd:=0 } with
  |some (.normal,s)|some (.ret,s)=>leave F s
  |_=>none
 |none=>prim f as sg:=rfl
theorem at_succ:∀ n,CallLe (T.at n) (T.at (n+1))
 |0=>fun f as sg r h=>by cases h
 |n+1=>fun f as sg r h=>by
  have ih:=at_succ n
  unfold Tab.at at h ⊢
  rw[callF_succ] at h ⊢
  cases hF:T.funs f with
  |none=>rw[hF] at h;exact h
  |some F=>
   rw[hF] at h
   have key:∀ x,execF T.C (callF T.C T.funs T.prim n) n F.code { tm:=env as,fr:=[],sg,wd:=0 }=some x→execF T.C (callF T.C T.funs T.prim (n+1)) (n+1) F.code { tm:=env as,fr:=[],sg,wd:=0 }=some x:=by
    intro x hx
    have g:=good_execF (C:=T.C) (A:=fun _=>T.at n) (W:=T.at n) ⟨fun _ _ _=>.refl _,fun f as sg r h=>⟨0,h⟩⟩ n F.code { tm:=env as,fr:=[],sg,wd:=0 }
    exact execF_fuel (Nat.le_succ n) _ _ _ (g.1 _ _ ih _ hx)
   simp only at h ⊢
   cases hx:execF T.C (callF T.C T.funs T.prim n) n F.code { tm:=env as,fr:=[],sg,wd:=0 } with
   |none=>rw[hx] at h;cases h
   |some x=>rw[hx] at h;rw[key _ hx];exact h
theorem at_mono:∀ m n,m≤n→CallLe (T.at m) (T.at n):=by
 intro m n h
 induction n with
 |zero=>rw[Nat.le_zero.1 h];exact .refl _
 |succ n ih=>
  rcases Nat.lt_or_ge n m with h1|h1
  ·have:m=n+1:=by omega
   rw[this];exact .refl _
  ·exact(ih h1).trans (at_succ n)
theorem call_iff {f:FuncId} {as:List V} {sg:List Fr} {r:V × List Fr × Nat}:T.call f as sg=some r↔∃ n,T.at n f as sg=some r:=by
 unfold Tab.call
 constructor
 ·intro h
  split at h
  ·rename_i hh
   simp only[Option.some.injEq] at h
   obtain⟨n,hn⟩:=hh.choose_spec
   exact⟨n,by rw[hn,h]⟩
  ·cases h
 ·rintro ⟨n,hn⟩
  have hh:∃ r n,T.at n f as sg=some r:=⟨r,n,hn⟩
  rw[dif_pos hh]
  obtain⟨m,hm⟩:=hh.choose_spec
  have h1:=at_mono n (max m n) (Nat.le_max_right _ _) _ _ _ _ hn
  have h2:=at_mono m (max m n) (Nat.le_max_left _ _) _ _ _ _ hm
  rw[h1] at h2
  exact h2.symm▸rfl
theorem limit:Limit T.at T.call:=⟨at_mono,fun _ _ _ _ h=>call_iff.1 h⟩
def Wp (T:Tab) (c:VC) (s:St) (Q:Ex→St→Prop):Prop:=∃ n x s',execF T.C T.call n c s=some (x,s')∧Q x s'
def WpI (T:Tab) (b:VC) (n:Nat) (live:List Nat) (l:LS) (Q:Ex→St→Prop):Prop:=∃ k x s',iter (execF T.C T.call k b) n live k l=some (x,s')∧Q x s'
variable {Q:Ex→St→Prop} {s:St}
def Then (T:Tab) (b:VC) (Q:Ex→St→Prop):Ex→St→Prop:=fun x s=>match x with
 | .normal=>Wp T b s Q
 |x=>Q x s
def Behind (id:Nat) (Q:Ex→St→Prop):Ex→St→Prop:=fun x s=>match x with
 | .exit j=>bif Nat.beq j id then Q .normal s else Q (.exit j) s
 |x=>Q x s
def Round (T:Tab) (b:VC) (n:Nat) (live:List Nat) (Q:Ex→St→Prop):Ex→St→Prop:=fun x s=>match x with
 | .normal=>WpI T b n live (LS.next n live s) Q
 |x=>Q x s
theorem Wp_skip:Wp T .skip s Q↔Q .normal s:=
 ⟨fun⟨_,_,_,h,q⟩=>by cases h;exact q,fun q=>⟨0,_,_,rfl,q⟩⟩
theorem Wp_exit {id:Nat}:Wp T (.exit id) s Q↔Q (.exit id) s:=
 ⟨fun⟨_,_,_,h,q⟩=>by cases h;exact q,fun q=>⟨0,_,_,rfl,q⟩⟩
theorem Wp_ret:Wp T .ret s Q↔Q .ret s:=
 ⟨fun⟨_,_,_,h,q⟩=>by cases h;exact q,fun q=>⟨0,_,_,rfl,q⟩⟩
theorem Wp_seq {a b:VC}:Wp T (.seq a b) s Q↔Wp T a s (Then T b Q):=by
 constructor
 ·rintro ⟨n,x,s',h,q⟩
  simp only[execF] at h
  cases hx:execF T.C T.call n a s with
  |none=>rw[hx] at h;cases h
  |some y=>
   rw[hx] at h
   obtain⟨y,s1⟩:=y
   cases y with
   |normal=>exact⟨n,_,_,hx,n,x,s',h,q⟩
   |exit j=>cases h;exact⟨n,_,_,hx,q⟩
   |ret=>cases h;exact⟨n,_,_,hx,q⟩
 ·rintro ⟨n,x,s1,h,q⟩
  cases x with
  |normal=>
   obtain⟨m,x,s',h2,q⟩:=q
   exact⟨max n m,x,s',by simp only[execF,execF_fuel (Nat.le_max_left n m) _ _ _ h,execF_fuel (Nat.le_max_right n m) _ _ _ h2],q⟩
  |exit j=>exact⟨n,_,_,by simp only[execF,h],q⟩
  |ret=>exact⟨n,_,_,by simp only[execF,h],q⟩
theorem Wp_reg {ops:List VOp}:Wp T (.reg ops) s Q↔∃ s',runL T.C T.call ops s=some s'∧Q .normal s':=by
 constructor
 ·rintro ⟨n,x,s',h,q⟩
  simp only[execF,Option.map_eq_some_iff,Prod.mk.injEq] at h
  obtain⟨s1,h1,rfl,rfl⟩:=h
  exact⟨s1,h1,q⟩
 ·rintro ⟨s',h,q⟩
  exact⟨0,_,_,by simp only[execF,h,Option.map_some],q⟩
theorem Wp_drw {ops:List DOp}:Wp T (.drw ops) s Q↔∃ s',drwV T.C T.call ops ops s=some s'∧Q .normal s':=by
 constructor
 ·rintro ⟨n,x,s',h,q⟩
  simp only[execF,Option.map_eq_some_iff,Prod.mk.injEq] at h
  obtain⟨s1,h1,rfl,rfl⟩:=h
  exact⟨s1,h1,q⟩
 ·rintro ⟨s',h,q⟩
  exact⟨0,_,_,by simp only[execF,h,Option.map_some],q⟩
theorem Wp_cond {c:O} {t e:VC} {b:Bool} (h:rd s.tm c = .bool b):Wp T (.cond c t e) s Q↔bif b then Wp T t s Q else Wp T e s Q:=by
 unfold Wp
 simp only[execF,h]
 cases b<;>rfl
theorem Wp_block {id:Nat} {b:VC}:Wp T (.block id b) s Q↔Wp T b s (Behind id Q):=by
 constructor
 ·rintro ⟨n,x,s',h,q⟩
  simp only[execF] at h
  cases hx:execF T.C T.call n b s with
  |none=>rw[hx] at h;cases h
  |some y=>
   rw[hx] at h
   obtain⟨y,s1⟩:=y
   refine⟨n,y,s1,hx,?_⟩
   cases y with
   |normal=>cases h;exact q
   |exit j=>
    simp only[Behind]
    cases hb:Nat.beq j id<;>simp only[hb,cond_true,cond_false,Option.some.injEq,Prod.mk.injEq] at h<;>obtain⟨rfl,rfl⟩:=h<;>exact q
   |ret=>cases h;exact q
 ·rintro ⟨n,x,s1,h,q⟩
  cases x with
  |normal=>exact⟨n,_,_,by simp only[execF,h],q⟩
  |ret=>exact⟨n,_,_,by simp only[execF,h],q⟩
  |exit j=>
   simp only[Behind] at q
   cases hb:Nat.beq j id<;>simp only[hb,cond_true,cond_false] at q
   ·exact⟨n,_,_,by simp only[execF,h,hb,cond_false],q⟩
   ·exact⟨n,_,_,by simp only[execF,h,hb,cond_true],q⟩
theorem Wp_loop {live:List Nat} {b:VC}:Wp T (.loop live b) s Q↔WpI T b s.fr.length live { vals:=live.map s.tm,fr:=s.fr,sg:=s.sg,wd:=s.wd } Q:=Iff.rfl
theorem WpI_iff {b:VC} {n:Nat} {live:List Nat} {l:LS}:WpI T b n live l Q↔Wp T b (l.st live) (Round T b n live Q):=by
 constructor
 ·rintro ⟨k,x,s',h,q⟩
  cases k with
  |zero=>cases h
  |succ k=>
   simp only[iter] at h
   cases hx:execF T.C T.call (k+1) b (l.st live) with
   |none=>rw[hx] at h;cases h
   |some y=>
    rw[hx] at h
    obtain⟨y,s1⟩:=y
    refine⟨k+1,y,s1,hx,?_⟩
    cases y with
    |normal=>exact⟨k+1,x,s',iter_le (fun _ _ h=>h) _ _ _ _ (Nat.le_succ k) h,q⟩
    |exit j=>cases h;exact q
    |ret=>cases h;exact q
 ·rintro ⟨n1,x,s1,h,q⟩
  cases x with
  |normal=>
   obtain⟨k,x,s',h2,q⟩:=q
   refine⟨max n1 k+1,x,s',?_,q⟩
   simp only[iter,execF_fuel (Nat.le_trans (Nat.le_max_left n1 k) (Nat.le_succ _)) _ _ _ h]
   exact iter_le (fun _ _ h=>execF_fuel (Nat.le_trans (Nat.le_max_right n1 k) (Nat.le_succ _)) _ _ _ h) _ _ _ _ (Nat.le_max_right n1 k) h2
  |exit j=>exact⟨n1+1,_,_,by simp only[iter,execF_fuel (Nat.le_succ n1) _ _ _ h],q⟩
  |ret=>exact⟨n1+1,_,_,by simp only[iter,execF_fuel (Nat.le_succ n1) _ _ _ h],q⟩
theorem Wp.imp {c:VC} {Q':Ex→St→Prop} (h:Wp T c s Q) (k:∀ x s',Q x s'→Q' x s'):Wp T c s Q':=by
 obtain⟨n,x,s',h1,h2⟩:=h
 exact⟨n,x,s',h1,k _ _ h2⟩
def Out (F:VF) (R:V × List Fr × Nat):Ex→St→Prop:=fun x s=>match x with
 | .exit _=>False
 |_=>leave F s=some R
theorem call_fun {f:FuncId} {F:VF} (hF:T.funs f=some F) {as:List V} {sg:List Fr} {R:V × List Fr × Nat} (h:Wp T F.code { tm:=env as,fr:=[],sg,wd:=0 } (Out F R)):T.call f as sg=some R:=by
 obtain⟨n,x,s',h1,h2⟩:=h
 obtain⟨m,h3⟩:=(good_execF (C:=T.C) limit n F.code { tm:=env as,fr:=[],sg,wd:=0 }).2 _ h1
 refine call_iff.2 ⟨max m n+1,?_⟩
 have h4:execF T.C (callF T.C T.funs T.prim (max m n)) (max m n) F.code { tm:=env as,fr:=[],sg,wd:=0 }=some (x,s'):=
  execF_fuel (Nat.le_max_right m n) _ _ _ ((good_execF (C:=T.C) (A:=T.at) (W:=T.call) limit n F.code { tm:=env as,fr:=[],sg,wd:=0 }).1 _ _ (at_mono _ _ (Nat.le_max_left m n)) _ h3)
 unfold Tab.at
 simp only[callF,hF,h4]
 cases x with
 |exit j=>exact h2.elim
 |normal=>exact h2
 |ret=>exact h2
theorem call_prim {f:FuncId} (hF:T.funs f=none) {as:List V} {sg:List Fr} {R:V × List Fr × Nat} (h:T.prim f as sg=some R):T.call f as sg=some R:=
 call_iff.2 ⟨1,by unfold Tab.at;simp only[callF,hF];exact h⟩
end
end Go.Vm
/-
  The machine V: going through a code, step by step.
-/
namespace Go.Vm
open Go
section
variable {T:Tab} {Q:Ex→St→Prop} {s:St}
theorem reg_nil:Wp T (.reg []) s Q↔Q .normal s:=by
 rw[Wp_reg];simp[runL]
theorem reg_cons {o:VOp} {os:List VOp}:Wp T (.reg (o::os)) s Q↔∃ s1,stepV T.C T.call o s=some s1∧Wp T (.reg os) s1 Q:=by
 simp only[Wp_reg,runL,Option.bind_eq_some_iff]
 constructor
 ·rintro ⟨s',⟨s1,h1,h2⟩,q⟩;exact⟨s1,h1,s',h2,q⟩
 ·rintro ⟨s1,h1,s',h2,q⟩;exact⟨s',⟨s1,h1,h2⟩,q⟩
def WpD (T:Tab) (all l:List DOp) (s:St) (Q:Ex→St→Prop):Prop:=∃ s',drwV T.C T.call all l s=some s'∧Q .normal s'
theorem drw_all {ops:List DOp}:Wp T (.drw ops) s Q↔WpD T ops ops s Q:=Wp_drw
theorem drw_nil {all:List DOp}:WpD T all [] s Q↔Q .normal s:=by
 simp[WpD,drwV]
theorem drw_main {all l:List DOp} {i:Nat} {bf re:List Nat} {o:VOp}:WpD T all (⟨i,bf,o,true,re⟩::l) s Q↔∃ s1,stepV T.C T.call o s=some s1∧re.all (againAt T.C T.call all s1)=true∧WpD T all l s1 Q:=by
 simp only[WpD,drwV,cond_true,Option.bind_eq_some_iff]
 constructor
 ·rintro ⟨s',⟨s1,h1,h2⟩,q⟩
  cases hb:re.all (againAt T.C T.call all s1) with
  |false=>rw[hb] at h2;cases h2
  |true=>rw[hb] at h2;exact⟨s1,h1,hb,s',h2,q⟩
 ·rintro ⟨s1,h1,hb,s',h2,q⟩;exact⟨s',⟨s1,h1,by rw[hb];exact h2⟩,q⟩
theorem drw_pure {all l:List DOp} {i:Nat} {bf re:List Nat} {o:VOp}:WpD T all (⟨i,bf,o,false,re⟩::l) s Q↔∃ s1,stepP T.C T.call o s=some s1∧WpD T all l s1 Q:=by
 simp only[WpD,drwV,cond_false,Option.bind_eq_some_iff]
 constructor
 ·rintro ⟨s',⟨s1,h1,h2⟩,q⟩;exact⟨s1,h1,s',h2,q⟩
 ·rintro ⟨s1,h1,s',h2,q⟩;exact⟨s',⟨s1,h1,h2⟩,q⟩
end
end Go.Vm
/-
  The machine V: a call from outside.
-/
namespace Go.Vm
open Go Go.RowKit
def primAll (K:FuncId→Option Nat) (L:FuncId→Option (Nat × Bool)):Call:=fun f as sg=>
 match K f with
 |some _=>primX K f as sg
 |none=>cloneX L f as sg
theorem primAll_ok {KW:World→Prop} {P:Program} {K:FuncId→Option Nat} {L:FuncId→Option (Nat × Bool)} (hm:P.follows .mixedOrders=true) (hK:Prims P K) (hL:∀ f z m,L f=some (z,m)→∃ fn,P.funcs[f]? = some fn∧CloneFn P z m fn):CallOk KW P (primAll K L):=by
 intro f as sg v sg' wd h
 unfold primAll at h
 split at h
 ·exact primX_ok hK f as sg v sg' wd h
 ·exact cloneX_ok hm hL f as sg v sg' wd h
theorem primAll_q (K:FuncId→Option Nat) (L:FuncId→Option (Nat × Bool)):CallQ (primAll K L):=by
 intro f as sg v sg' wd h
 unfold primAll at h
 split at h
 ·exact primX_q K f as sg v sg' wd h
 ·exact cloneX_q L f as sg v sg' wd h
def im0 (w:World):Nat→Nat→Option Value:=fun c k=>w.cell? ⟨c,k,none⟩
def G0 (w:World):Gh:={ im:=im0 w,ow:=fun _ _=>none,ph:=fun _ _=>none }
def KW0:World→Prop:=fun _=>True
def bd0 {KW:World→Prop} (w:World) (hK:∀ w1 w2:World,Below w.heap.size w1 w2→KW w1→KW w2):Bd KW:=⟨w.heap.size,hK⟩
theorem WR0 {KW:World→Prop} (w:World) (hK:∀ w1 w2:World,Below w.heap.size w1 w2→KW w1→KW w2) (hw:KW w):WR (G0 w) (bd0 w hK) [] [] w:=by
 refine⟨fun c k x h=>h,fun _ _ _ _=>rfl,(fun c k o h=>by cases h),(fun d i b loc hd hg hl=>by cases hl),(fun l i loc h=>by cases h),Nat.le_refl _,hw⟩
theorem enter_run {P:Program} {T:Tab} (hf:Funs P T.funs) {f:FuncId} {F:VF} (hF:T.funs f=some F) (A:Array Value) (w:World):(callFunc f A).run P w = .ok (.enter f A) w:=by
 obtain⟨fn,hfn,htr⟩:=hf f F hF
 unfold trF at htr
 simp only[Bool.and_eq_true,Bool.not_eq_true'] at htr
 obtain⟨hname,htr⟩:=htr
 split at htr
 ·rename_i c hbody
  simp[callFunc,hfn,hbody]
  intro h
  rw[h] at hname
  simp at hname
 ·cases htr
theorem top_ok {KW:World→Prop} {P:Program} {T:Tab} (hm:P.follows .mixedOrders=true) (hf:Funs P T.funs) (hp:CallOk KW P T.prim) (hq:CallQ T.prim) {f:FuncId} {F:VF} (hF:T.funs f=some F) {as:List V} {b:Bool} {wd:Nat} (h:T.call f as []=some (.bool b,[],wd))
  {A:Array Value} {w:World} (hK:∀ w1 w2:World,Below w.heap.size w1 w2→KW w1→KW w2) (hw:KW w) (hA:A.size=as.length) (hR:∀ (j:Nat) (x:V) (y:Value),as[j]? = some x→A[j]? = some y→PR (im0 w) x y) :
  Calls P f A w fun | .returned cv,w'=>cv = .bool b∧Below w.heap.size w w'|_,_=>False:=by
 obtain⟨n,hn⟩:=call_iff.1 h
 have hc:=vm_sound (C:=T.C) hm hf hp hq n f as [] (.bool b) [] wd hn (G0 w) (bd0 w hK) w A (WR0 w hK hw) hA (fun j x y hx hy=>.pr _ _ (hR j x y hx hy))
 rcases hc with⟨_,h2⟩|⟨cv,w',h1,_⟩
 ·refine h2.mono fun e w' he=>?_
  cases e with
  |returned cv=>
   obtain⟨G',r⟩:=he
   exact⟨r.v.bool_inv,r.be⟩
  |panicked _=>exact he
  |outgrown=>exact he
 ·rw[enter_run hf hF] at h1
  cases h1
end Go.Vm
/-
  The machine V with numbers that are not known (they bear the kind i16, which no code uses): what a run tells that never looks at them
  is told for all of them. First part: putting numbers in.
-/
namespace Go.Vm
open Go
mutual
def su (σ:Int→V):V→V
 | .und=>.und
 | .bool b=>.bool b
 | .int k n=>bif k == .i16 then σ n else .int k n
 | .str s=>.str s
 | .nilp=>.nilp
 | .bp d i o=>.bp d i o
 | .ep cs o=>.ep (suL σ cs) o
 | .ap d i v j o=>.ap d i v j o
 | .sl t z es=>.sl t z (suL σ es)
 | .bs d i v o l=>.bs d i v o l
 | .nilm=>.nilm
 | .mp d i=>.mp d i
 | .fn f a b=>.fn f (suL σ a) (suL σ b)
 | .nilf=>.nilf
 | .iface t v=>.iface t (su σ v)
 | .nili=>.nili
 | .agg cs=>.agg (suL σ cs)
 | .tup vs=>.tup (suL σ vs)
def suL (σ:Int→V):List V→List V
 | []=>[]
 |v::vs=>su σ v::suL σ vs
end
def Num (σ:Int→V):Prop:=∀ n,∃ k m,σ n = .int k m
def ns:V→Bool
 | .int k _=>!(k == .i16)
 |_=>true
def suB (σ:Int→V):Blk→Blk
 | .box cs=>.box (suL σ cs)
 | .arr v z es=>.arr v z (suL σ es)
 | .tok v=>.tok v
 | .map es=>.map (es.map fun(a,b)=>(su σ a,su σ b))
 | .dead=>.dead
def suF (σ:Int→V) (fr:Fr):Fr:=fr.map (suB σ)
def suG (σ:Int→V) (sg:List Fr):List Fr:=sg.map (suF σ)
def suS (σ:Int→V) (s:St):St:={ tm:=fun t=>su σ (s.tm t),fr:=suF σ s.fr,sg:=suG σ s.sg,wd:=s.wd }
section
variable {σ:Int→V}
theorem suL_map:∀ l:List V,suL σ l=l.map (su σ)
 | []=>by simp[suL]
 |v::vs=>by simp[suL,suL_map vs]
theorem suL_len (l:List V):(suL σ l).length=l.length:=by rw[suL_map,List.length_map]
theorem suL_get (l:List V) (i:Nat):(suL σ l)[i]? = (l[i]?).map (su σ):=by rw[suL_map,List.getElem?_map]
theorem suL_append (a b:List V):suL σ (a++b)=suL σ a++suL σ b:=by simp[suL_map]
theorem suL_drop (a:List V) (n:Nat):suL σ (a.drop n)=(suL σ a).drop n:=by simp[suL_map,List.map_drop]
theorem suL_take (a:List V) (n:Nat):suL σ (a.take n)=(suL σ a).take n:=by simp[suL_map,List.map_take]
theorem suL_set (a:List V) (n:Nat) (v:V):suL σ (a.set n v)=(suL σ a).set n (su σ v):=by simp[suL_map,List.map_set]
theorem su_int (hσ:Num σ) (k:IntKind) (n:Int):∃ j m,su σ (.int k n) = .int j m:=by
 simp only[su]
 cases k == IntKind.i16
 ·exact⟨_,_,rfl⟩
 ·exact hσ n
theorem su_ns {k:IntKind} {n:Int} (h:ns (.int k n)=true):su σ (.int k n) = .int k n:=by
 simp only[ns,Bool.not_eq_true'] at h
 simp only[su,h,cond_false]
theorem pu0_su (hσ:Num σ) (v:V):pu0 (su σ v)=pu0 v:=by
 cases v with
 |int k n=>obtain⟨j,m,e⟩:=su_int hσ k n;rw[e];rfl
 |sl t z es=>cases t<;>rfl
 |_=>rfl
theorem all_su {p:V→Bool} (h:∀ v,p (su σ v)=p v) (l:List V):(suL σ l).all p=l.all p:=by
 rw[suL_map,List.all_map];congr 1;funext v;exact h v
theorem pu1_su (hσ:Num σ) (v:V):pu1 (su σ v)=pu1 v:=by
 cases v with
 |int k n=>obtain⟨j,m,e⟩:=su_int hσ k n;rw[e];rfl
 |fn f a b=>simp only[su,pu1,all_su (pu0_su hσ)]
 |iface t v=>simp only[su,pu1,pu0_su hσ]
 |sl t z es=>cases t<;>rfl
 |_=>rfl
theorem pu2_su (hσ:Num σ) (v:V):pu2 (su σ v)=pu2 v:=by
 cases v with
 |int k n=>obtain⟨j,m,e⟩:=su_int hσ k n;rw[e];rfl
 |agg cs=>simp only[su,pu2,all_su (pu1_su hσ)]
 |fn f a b=>exact pu1_su hσ (.fn f a b)
 |iface t v=>exact pu1_su hσ (.iface t v)
 |sl t z es=>cases t<;>rfl
 |_=>rfl
theorem pu3_su (hσ:Num σ) (v:V):pu3 (su σ v)=pu3 v:=by
 cases v with
 |int k n=>obtain⟨j,m,e⟩:=su_int hσ k n;rw[e];rfl
 |tup cs=>simp only[su,pu3,all_su (pu2_su hσ)]
 |agg cs=>exact pu2_su hσ (.agg cs)
 |fn f a b=>exact pu1_su hσ (.fn f a b)
 |iface t v=>exact pu1_su hσ (.iface t v)
 |sl t z es=>cases t<;>rfl
 |_=>rfl
theorem map_su {f:V→V} (h:∀ v,f (su σ v)=su σ (f v)) (l:List V):(suL σ l).map f=suL σ (l.map f):=by
 simp only[suL_map,List.map_map];congr 1;funext v;exact h v
theorem map_su2 {f g:V→V} (h:∀ v,f (su σ v)=su σ (g v)) (l:List V):(suL σ l).map f=suL σ (l.map g):=by
 simp only[suL_map,List.map_map];congr 1;funext v;exact h v
theorem sh0_su (hσ:Num σ) (k:Nat) (v:V):sh0 k (su σ v)=su σ (sh0 k v):=by
 cases v with
 |int j n=>obtain⟨j',m,e⟩:=su_int hσ j n;rw[e];simp only[sh0];exact e.symm
 |sl t z es=>cases t<;>simp[su,sh0]
 |_=>simp[su,sh0]
theorem sh1_su (hσ:Num σ) (k:Nat) (v:V):sh1 k (su σ v)=su σ (sh1 k v):=by
 cases v with
 |int j n=>obtain⟨j',m,e⟩:=su_int hσ j n;rw[e];simp only[sh1,sh0];exact e.symm
 |fn f a b=>simp only[su,sh1,map_su (sh0_su hσ k)]
 |iface t v=>simp only[su,sh1,sh0_su hσ k]
 |sl t z es=>cases t<;>simp[su,sh1,sh0]
 |_=>simp[su,sh1,sh0]
theorem sh2_su (hσ:Num σ) (k:Nat) (v:V):sh2 k (su σ v)=su σ (sh2 k v):=by
 cases v with
 |agg cs=>simp only[su,sh2,map_su (sh1_su hσ k)]
 |int j n=>obtain⟨j',m,e⟩:=su_int hσ j n;rw[e];simp only[sh2,sh1,sh0];exact e.symm
 |fn f a b=>exact sh1_su hσ k (.fn f a b)
 |iface t v=>exact sh1_su hσ k (.iface t v)
 |sl t z es=>cases t<;>simp[su,sh2,sh1,sh0]
 |_=>simp[su,sh2,sh1,sh0]
theorem mapM_su {f:V→Option V} (h:∀ v,f (su σ v)=(f v).map (su σ)):∀ l:List V,(suL σ l).mapM f=(l.mapM f).map (suL σ)
 | []=>by simp[suL]
 |v::vs=>by
  simp only[suL,List.mapM_cons,h,mapM_su h vs]
  cases f v with
  |none=>rfl
  |some a=>cases vs.mapM f<;>simp[suL]
theorem dn0_su (hσ:Num σ) (k:Nat) (v:V):dn0 k (su σ v)=(dn0 k v).map (su σ):=by
 cases v with
 |int j n=>obtain⟨j',m,e⟩:=su_int hσ j n;rw[e];simp only[dn0,Option.map_some];rw[e]
 |bp d i o=>simp only[su,dn0];cases Nat.ble k d<;>simp[su]
 |ap d i v j o=>simp only[su,dn0];cases Nat.ble k d<;>simp[su]
 |bs d i v o l=>simp only[su,dn0];cases Nat.ble k d<;>simp[su]
 |mp d i=>simp only[su,dn0];cases Nat.ble k d<;>simp[su]
 |sl t z es=>
  cases t with
  | «at» d i ver=>simp only[su,dn0];cases Nat.ble k d<;>simp[su]
  |_=>simp[su,dn0]
 |_=>simp[su,dn0]
theorem dn1_su (hσ:Num σ) (k:Nat) (v:V):dn1 k (su σ v)=(dn1 k v).map (su σ):=by
 have h0:=dn0_su hσ k v
 cases v with
 |fn f a b=>
  simp only[su,dn1,mapM_su (dn0_su hσ k)]
  cases a.mapM (dn0 k) with
  |none=>rfl
  |some x=>cases b.mapM (dn0 k)<;>simp[su]
 |iface t v=>simp only[su,dn1,dn0_su hσ k];cases dn0 k v<;>simp[su]
 |int j n=>obtain⟨j',m,e⟩:=su_int hσ j n;have:=dn0_su hσ k (.int j n);rw[e] at this ⊢;exact this
 |_=>exact h0
theorem lt0_su (hσ:Num σ) (k:Nat) (v:V):lt0 k (su σ v)=lt0 k v:=by
 cases v with
 |int j n=>obtain⟨j',m,e⟩:=su_int hσ j n;rw[e];rfl
 |bp d i o=>cases d<;>rfl
 |ap d i v j o=>cases d<;>rfl
 |bs d i v o l=>cases d<;>rfl
 |mp d i=>cases d<;>rfl
 |sl t z es=>
  cases t with
  | «at» d i ver=>cases d<;>rfl
  |_=>rfl
 |_=>rfl
theorem lt1_su (hσ:Num σ) (k:Nat) (v:V):lt1 k (su σ v)=lt1 k v:=by
 have h0:=lt0_su hσ k v
 cases v with
 |fn f a b=>simp only[su,lt1,all_su (lt0_su hσ k)]
 |iface t v=>simp only[su,lt1,lt0_su hσ k]
 |int j n=>obtain⟨j',m,e⟩:=su_int hσ j n;rw[e];rfl
 |_=>exact h0
theorem lt2_su (hσ:Num σ) (k:Nat) (v:V):lt2 k (su σ v)=lt2 k v:=by
 have h0:=lt1_su hσ k v
 cases v with
 |agg cs=>simp only[su,lt2,all_su (lt1_su hσ k)]
 |int j n=>obtain⟨j',m,e⟩:=su_int hσ j n;rw[e];rfl
 |_=>exact h0
theorem lt3_su (hσ:Num σ) (k:Nat) (v:V):lt3 k (su σ v)=lt3 k v:=by
 have h0:=lt2_su hσ k v
 cases v with
 |tup cs=>simp only[su,lt3,all_su (lt2_su hσ k)]
 |int j n=>obtain⟨j',m,e⟩:=su_int hσ j n;rw[e];rfl
 |_=>exact h0
theorem ltB_su (hσ:Num σ) (k:Nat) (b:Blk):ltB k (suB σ b)=ltB k b:=by
 cases b with
 |box cs=>simp only[suB,ltB,all_su (lt1_su hσ k)]
 |map es=>rfl
 |_=>rfl
theorem dt0_su (hσ:Num σ) (v:V):dt0 (su σ v)=su σ (dt0 v):=by
 cases v with
 |int j n=>obtain⟨j',m,e⟩:=su_int hσ j n;rw[e];simp only[dt0];exact e.symm
 |_=>simp[su,dt0]
theorem dx0_su (hσ:Num σ) (v:V):dx0 (su σ v)=su σ (dx0 v):=by
 cases v with
 |int j n=>obtain⟨j',m,e⟩:=su_int hσ j n;rw[e];simp only[dx0];exact e.symm
 |sl t z es=>cases t<;>simp[su,dx0]
 |_=>simp[su,dx0]
theorem dt2_su (hσ:Num σ) (v:V):dt2 (su σ v)=su σ (dt2 v):=by
 have h0:=dt0_su hσ v
 cases v with
 |agg cs=>simp only[su,dt2,map_su (dt0_su hσ)]
 |int j n=>obtain⟨j',m,e⟩:=su_int hσ j n;rw[e];simp only[dt2,dt0];exact e.symm
 |_=>exact h0
theorem suF_get (fr:Fr) (i:Nat):(suF σ fr)[i]? = (fr[i]?).map (suB σ):=by unfold suF;rw[List.getElem?_map]
theorem suF_len (fr:Fr):(suF σ fr).length=fr.length:=by unfold suF;rw[List.length_map]
theorem fz0_su (hσ:Num σ) (fr:Fr) (v:V):fz0 (suF σ fr) (su σ v)=su σ (fz0 fr v):=by
 cases v with
 |int j n=>obtain⟨j',m,e⟩:=su_int hσ j n;rw[e];simp only[fz0];exact e.symm
 |bs d i ver o len=>
  cases d with
  |succ d=>simp[su,fz0]
  |zero=>
   simp only[su,fz0,suF_get]
   cases fr[i]? with
   |none=>simp[su]
   |some b=>
    cases b with
    |arr ver' z es=>
     simp only[Option.map_some,suB,suL_len]
     cases (Nat.beq ver ver'&&Nat.ble (o+len) es.length)<;>simp[su,suL_take,suL_drop]
    |_=>simp[suB,su]
 |_=>simp[su,fz0]
theorem fz2_su (hσ:Num σ) (fr:Fr) (v:V):fz2 (suF σ fr) (su σ v)=su σ (fz2 fr v):=by
 have h0:=fz0_su hσ fr v
 cases v with
 |agg cs=>simp only[su,fz2,map_su2 (fz0_su hσ fr)]
 |int j n=>obtain⟨j',m,e⟩:=su_int hσ j n;have:=fz0_su hσ fr (.int j n);rw[e] at this ⊢;exact this
 |_=>exact h0
theorem fz3_su (hσ:Num σ) (fr:Fr) (v:V):fz3 (suF σ fr) (su σ v)=su σ (fz3 fr v):=by
 have h0:=fz2_su hσ fr v
 cases v with
 |tup cs=>simp only[su,fz3,map_su2 (fz2_su hσ fr)]
 |int j n=>obtain⟨j',m,e⟩:=su_int hσ j n;have:=fz2_su hσ fr (.int j n);rw[e] at this ⊢;exact this
 |_=>exact h0
theorem mg0_su (hσ:Num σ) (k:Nat) (v:V):mg0 k (su σ v)=su σ (mg0 k v):=by
 cases v with
 |int j n=>obtain⟨j',m,e⟩:=su_int hσ j n;rw[e];simp only[mg0];exact e.symm
 |bp d i o=>cases d<;>simp[su,mg0]
 |ap d i v j o=>cases d<;>simp[su,mg0]
 |bs d i v o l=>cases d<;>simp[su,mg0]
 |mp d i=>cases d<;>simp[su,mg0]
 |sl t z es=>
  cases t with
  | «at» d i ver=>cases d<;>simp[su,mg0]
  |_=>simp[su,mg0]
 |_=>simp[su,mg0]
theorem mg1_su (hσ:Num σ) (k:Nat) (v:V):mg1 k (su σ v)=su σ (mg1 k v):=by
 have h0:=mg0_su hσ k v
 cases v with
 |fn f a b=>simp only[su,mg1,map_su (mg0_su hσ k)]
 |iface t v=>simp only[su,mg1,mg0_su hσ k]
 |int j n=>obtain⟨j',m,e⟩:=su_int hσ j n;have:=mg0_su hσ k (.int j n);rw[e] at this ⊢;exact this
 |_=>exact h0
theorem mg2_su (hσ:Num σ) (k:Nat) (v:V):mg2 k (su σ v)=su σ (mg2 k v):=by
 have h0:=mg1_su hσ k v
 cases v with
 |agg cs=>simp only[su,mg2,map_su (mg1_su hσ k)]
 |int j n=>obtain⟨j',m,e⟩:=su_int hσ j n;have:=mg1_su hσ k (.int j n);rw[e] at this ⊢;exact this
 |_=>exact h0
theorem mg3_su (hσ:Num σ) (k:Nat) (v:V):mg3 k (su σ v)=su σ (mg3 k v):=by
 have h0:=mg2_su hσ k v
 cases v with
 |tup cs=>simp only[su,mg3,map_su (mg2_su hσ k)]
 |int j n=>obtain⟨j',m,e⟩:=su_int hσ j n;have:=mg2_su hσ k (.int j n);rw[e] at this ⊢;exact this
 |_=>exact h0
theorem mgB_su (hσ:Num σ) (k:Nat) (b:Blk):mgB k (suB σ b)=suB σ (mgB k b):=by
 cases b with
 |box cs=>simp only[suB,mgB,map_su (mg1_su hσ k)]
 |_=>rfl
theorem get_su (s:St) (d i:Nat):(suS σ s).get d i=(s.get d i).map (suB σ):=by
 cases d with
 |zero=>simp only[St.get,getB,suS,suF_get]
 |succ d=>
  simp only[St.get,getB,suS,suG,List.getElem?_map]
  cases s.sg[d]? with
  |none=>rfl
  |some fr=>simp[suF_get]
theorem set_su (s:St) (d i:Nat) (b:Blk):suS σ (s.set d i b)=(suS σ s).set d i (suB σ b):=by
 cases d with
 |zero=>simp only[St.set,suS,suF,List.map_set]
 |succ d=>
  simp only[St.set,suS,suG,St.mk.injEq,true_and,and_true]
  apply List.ext_getElem?
  intro j
  simp only[List.getElem?_map,List.getElem?_modify]
  cases s.sg[j]? with
  |none=>simp
  |some fr=>by_cases h:d=j<;>simp[h,suF,List.map_set]
theorem scal_su (hσ:Num σ) (v:V):scal (su σ v)=scal v:=by
 cases v with
 |int j n=>obtain⟨j',m,e⟩:=su_int hσ j n;rw[e];rfl
 |_=>rfl
theorem whole_su (hσ:Num σ) (v:V):whole (su σ v)=whole v:=by
 cases v with
 |int j n=>obtain⟨j',m,e⟩:=su_int hσ j n;rw[e];rfl
 |_=>rfl
theorem cellsOf_su (hσ:Num σ) (v:V):cellsOf (su σ v)=suL σ (cellsOf v):=by
 cases v with
 |int j n=>obtain⟨j',m,e⟩:=su_int hσ j n;simp only[cellsOf,suL];rw[e]
 |_=>simp[su,cellsOf,suL]
theorem ldC_su (ag:Bool) (sz:Nat) (cs:List V) (o:Nat):ldC ag sz (suL σ cs) o=(ldC ag sz cs o).map (su σ):=by
 cases ag with
 |false=>simp only[ldC,cond_false,suL_get]
 |true=>
  simp only[ldC,cond_true,suL_len]
  cases Nat.ble (o+sz) cs.length<;>simp[su,suL_take,suL_drop]
theorem stC_su (hσ:Num σ) (ag:Bool) (sz:Nat) (cs:List V) (o:Nat) (v:V):stC ag sz (suL σ cs) o (su σ v)=(stC ag sz cs o v).map (suL σ):=by
 cases ag with
 |false=>
  simp only[stC,cond_false,suL_len,scal_su hσ]
  cases (scal v&&Nat.blt o cs.length)<;>simp[suL_set]
 |true=>
  simp only[stC,cond_true]
  cases v with
  |agg vs=>
   simp only[su,suL_len,all_su (scal_su hσ)]
   cases (Nat.beq vs.length sz&&(Nat.ble (o+sz) cs.length&&vs.all scal))<;>simp[suL_append,suL_take,suL_drop]
  |int j n=>obtain⟨j',m,e⟩:=su_int hσ j n;rw[e];rfl
  |_=>simp[su]
theorem mkEl_su (hσ:Num σ) (ag:Bool) (cs:List V):mkEl ag (suL σ cs)=su σ (mkEl ag cs):=by
 cases ag with
 |true=>simp[mkEl,su]
 |false=>
  match cs with
  | []=>simp[mkEl,suL,su]
  | [v]=>simp only[mkEl,cond_false,suL,scal_su hσ];cases scal v<;>simp[su]
  |_::_::_=>simp[mkEl,suL,su]
theorem reEl_su (hσ:Num σ) (e:V) (cs:List V):reEl (su σ e) (suL σ cs)=su σ (reEl e cs):=by
 cases e with
 |agg _=>simp[su,reEl]
 |int j n=>obtain⟨j',m,h⟩:=su_int hσ j n;rw[h];exact mkEl_su hσ false cs
 |_=>exact mkEl_su hσ false cs
theorem dnS_su (hσ:Num σ) (d:Nat) (v:V):dnS d (su σ v)=(dnS d v).map (su σ):=by
 cases d with
 |zero=>simp[dnS]
 |succ d=>
  have h0:=dn1_su hσ (d+1) v
  cases v with
  |agg cs=>
   simp only[su,dnS,mapM_su (dn1_su hσ (d+1))]
   cases cs.mapM (dn1 (d+1))<;>simp[su]
  |int j n=>obtain⟨j',m,e⟩:=su_int hσ j n;have:=dn1_su hσ (d+1) (.int j n);rw[e] at this ⊢;exact this
  |_=>exact h0
theorem ldV_su (hσ:Num σ) (ag:Bool) (sz:Nat) (a:V) (s:St):ldV ag sz (su σ a) (suS σ s)=(ldV ag sz a s).map (su σ):=by
 cases a with
 |int j n=>obtain⟨j',m,e⟩:=su_int hσ j n;rw[e];rfl
 |ep cs o=>simp only[su,ldV,ldC_su]
 |bp d i o=>
  simp only[su,ldV,get_su]
  cases s.get d i with
  |none=>rfl
  |some b=>
   cases b with
   |box cs=>
    simp only[Option.map_some,suB,ldC_su]
    cases ldC ag sz cs o with
    |none=>rfl
    |some v=>
     cases d with
     |zero=>rfl
     |succ d=>simp[sh2_su hσ]
   |_=>rfl
 |ap d i ver j o=>
  simp only[su,ldV,get_su]
  cases s.get d i with
  |none=>rfl
  |some b=>
   cases b with
   |arr ver' z es=>
    simp only[Option.map_some,suB,suL_get]
    cases Nat.beq ver ver' with
    |false=>rfl
    |true=>
     simp only[cond_true]
     cases es[j]? with
     |none=>rfl
     |some e=>simp[cellsOf_su hσ,ldC_su]
   |_=>rfl
 |_=>rfl
theorem stV_su (hσ:Num σ) (ag:Bool) (sz:Nat) (a v:V) (s:St):stV ag sz (su σ a) (su σ v) (suS σ s)=(stV ag sz a v s).map (suS σ):=by
 cases a with
 |int j n=>obtain⟨j',m,e⟩:=su_int hσ j n;rw[e];rfl
 |bp d i o=>
  simp only[su,stV,get_su]
  cases s.get d i with
  |none=>rfl
  |some b=>
   cases b with
   |box cs=>
    simp only[Option.map_some,suB,dnS_su hσ]
    cases dnS d v with
    |none=>rfl
    |some u=>
     simp only[Option.map_some,Option.bind_some,stC_su hσ]
     cases stC ag sz cs o u with
     |none=>rfl
     |some cs'=>simp[set_su,suB]
   |_=>rfl
 |ap d i ver j o=>
  simp only[su,stV,get_su]
  cases s.get d i with
  |none=>rfl
  |some b=>
   cases b with
   |arr ver' z es=>
    simp only[Option.map_some,suB,suL_get]
    cases Nat.beq ver ver' with
    |false=>rfl
    |true=>
     simp only[cond_true]
     cases es[j]? with
     |none=>rfl
     |some e=>
      simp only[Option.map_some,Option.bind_some,cellsOf_su hσ,dt2_su hσ,stC_su hσ]
      cases stC ag sz (cellsOf e) o (dt2 v) with
      |none=>rfl
      |some cs'=>
       simp only[Option.map_some,Option.bind_some,reEl_su hσ,pu2_su hσ]
       cases pu2 (reEl e cs') with
       |false=>rfl
       |true=>simp[set_su,suB,suL_set]
   |_=>rfl
 |_=>rfl
theorem len_su (hσ:Num σ) (v:V):len? (su σ v)=len? v:=by
 cases v with
 |int j n=>obtain⟨j',m,e⟩:=su_int hσ j n;rw[e];rfl
 |sl t z es=>simp[su,len?,suL_len]
 |_=>rfl
theorem isStr_su (hσ:Num σ) (v:V):isStr (su σ v)=isStr v:=by
 cases v with
 |int j n=>obtain⟨j',m,e⟩:=su_int hσ j n;rw[e];rfl
 |_=>rfl
theorem els_su (hσ:Num σ) (sz:Nat) (s:St) (v:V):els sz (suS σ s) (su σ v)=(els sz s v).map (suL σ):=by
 cases v with
 |int j n=>obtain⟨j',m,e⟩:=su_int hσ j n;rw[e];rfl
 |sl t z es=>simp only[su,els];cases Nat.beq z sz<;>simp
 |str b=>
  simp only[su,els]
  cases Nat.beq sz 1 with
  |false=>rfl
  |true=>
   simp only[cond_true,Option.map_some,suL_map,List.map_map]
   congr 1
 |bs d i ver o len=>
  simp only[su,els,get_su]
  cases s.get d i with
  |none=>rfl
  |some b=>
   cases b with
   |arr ver' z es=>
    simp only[Option.map_some,suB,suL_len]
    cases (Nat.beq z sz&&(Nat.beq ver ver'&&Nat.ble (o+len) es.length))<;>simp[suL_take,suL_drop]
   |_=>rfl
 |_=>rfl
theorem nilK_su (hσ:Num σ) (k:Nat) (v:V):nilK k (su σ v)=nilK k v:=by
 cases v with
 |int j n=>obtain⟨j',m,e⟩:=su_int hσ j n;rw[e];cases k with
  |zero=>rfl
  |succ k=>cases k with
   |zero=>rfl
   |succ k=>cases k with
    |zero=>rfl
    |succ k=>cases k<;>rfl
 |_=>cases k with
  |zero=>rfl
  |succ k=>cases k with
   |zero=>rfl
   |succ k=>cases k with
    |zero=>rfl
    |succ k=>cases k<;>rfl
theorem nat_su (v:V) (h:ns v=true):nat? (su σ v)=nat? v:=by
 cases v with
 |int k n=>rw[su_ns h]
 |_=>rfl
theorem elV_su (hσ:Num σ) (sz:Nat) (v:V):elV sz (su σ v)=(elV sz v).map (su σ):=by
 simp only[elV,dt2_su hσ,pu2_su hσ,cellsOf_su hσ,suL_len]
 cases (pu2 (dt2 v)&&Nat.beq (cellsOf (dt2 v)).length sz)<;>simp
theorem argV_su (hσ:Num σ) (b:Bool) (v:V):argV b (su σ v)=su σ (argV b v):=by
 cases b<;>simp[argV,dt2_su hσ,sh2_su hσ]
theorem cel_su (hσ:Num σ) (v:V):cel (su σ v)=cel v:=by
 simp only[cel,cellsOf_su hσ,all_su (scal_su hσ)]
theorem upd_su (e:Nat→V) (t:Nat) (v:V) (u:Nat):su σ (upd e t v u)=upd (fun t=>su σ (e t)) t (su σ v) u:=by
 simp only[upd];cases Nat.beq u t<;>rfl
theorem put_su (s:St) (d:Option Nat) (v:V):suS σ (put s d v)=put (suS σ s) d (su σ v):=by
 cases d with
 |none=>rfl
 |some t=>simp only[put,suS,St.mk.injEq,and_true];funext u;exact upd_su _ _ _ _
theorem env_su:∀ (l:List V) (u:Nat),su σ (env l u)=env (suL σ l) u
 | [],_=>by simp[env,suL,su]
 |v::vs,0=>by simp[env,suL]
 |v::vs,n+1=>by simp only[env,suL];exact env_su vs n
theorem mkE_su:∀ (l:List Nat) (vs:List V) (u:Nat),su σ (mkE l vs u)=mkE l (suL σ vs) u
 | [],vs,u=>by cases vs<;>simp[mkE,suL,su]
 |_::_,[],u=>by simp[mkE,suL,su]
 |t::ts,v::vs,u=>by
  simp only[mkE,suL]
  cases Nat.beq u t
  ·exact mkE_su ts vs u
  ·rfl
end
end Go.Vm
/-
  The machine V with numbers that are not known. Second part: one operation.
-/
namespace Go.Vm
open Go
section
variable {σ:Int→V}
theorem fillC_su (σ:Int→V):∀ (ps:List (Nat × Nat × List V)) (cs:List V),fillC (suL σ cs) (ps.map fun p=>(p.1,p.2.1,suL σ p.2.2))=(fillC cs ps).map (suL σ)
 | [],cs=>by simp[fillC]
 |(o,z,vs)::r,cs=>by
  simp only[List.map_cons,fillC,suL_len]
  cases (Nat.beq vs.length z&&Nat.ble (o+z) cs.length) with
  |false=>rfl
  |true=>
   simp only[cond_true]
   rw[← fillC_su σ r]
   simp[suL_append,suL_take,suL_drop]
theorem rd_su (e:Nat→V) (x:O) (hx:∀ v,x = .c v→su σ v=v):rd (fun t=>su σ (e t)) x=su σ (rd e x):=by
 cases x with
 |t n=>rfl
 |c v=>exact(hx v rfl).symm
theorem b2sL_su:∀ (l:List V) (b:List UInt8),b2sL l=some b→b2sL (suL σ l)=some b
 | [],b,h=>by simpa[suL] using h
 |v::vs,b,h=>by
  cases v with
  |int k n=>
   cases k with
   |u8=>
    simp only[b2sL] at h
    obtain⟨c,h1,rfl⟩:=Option.map_eq_some_iff.1 h
    have:=b2sL_su vs c h1
    simp only[suL,su]
    show b2sL (.int .u8 n::suL σ vs)=_
    simp only[b2sL,this,Option.map_some]
   |_=>simp[b2sL] at h
  |_=>simp[b2sL] at h
theorem binV_ns {op:BinOp} {x y:V} (hx:ns x=true) (hy:ns y=true) {v:V} (h:binV op x y=some v):binV op (su σ x) (su σ y)=some (su σ v):=by
 cases x with
 |int k a=>
  cases y with
  |int j b=>
   rw[su_ns hx,su_ns hy,h]
   congr 1
   have key:∀ (m:Int),su σ (.int k m) = .int k m:=fun m=>su_ns (by simpa[ns] using hx)
   cases op<;>simp only[binV,binI] at h
   all_goals first
    |(have h:=bif_same h;cases h;exact(key _).symm)
    |(have h:=bif_same h;have h:=bif_same h;cases h;exact(key _).symm)
    |(have h:=bif_same h;cases h;rfl)
    |(have h:=bif_same h;cases h)
    |(cases hb:(decide (b<0))<;>simp only[hb,cond_true,cond_false] at h<;>first|(cases h;exact(key _).symm)|cases h)
    |(cases hb:(k == j)<;>cases hc:(b == 0)<;>simp only[hb,hc,cond_true,cond_false] at h<;>first|(cases h;exact(key _).symm)|cases h)
  |_=>simp[binV] at h
 |str a=>
  cases y with
  |str b=>
   simp only[su]
   rw[h]
   simp only[binV] at h
   cases op<;>simp only[binS] at h<;>first|(cases h;rfl)|(have h:=bif_same h;cases h;rfl)|cases h
  |_=>simp[binV] at h
 |_=>simp[binV] at h
theorem eqK_ns {k:Nat} {x y:V} (hx:ns x=true) (hy:ns y=true) {b:Bool} (h:eqK k x y=some b):eqK k (su σ x) (su σ y)=some b:=by
 cases x with
 |int i m=>
  cases y with
  |int j n=>rw[su_ns hx,su_ns hy,h]
  |_=>cases k with
   |zero=>simp[eqK] at h
   |succ k=>cases k with
    |zero=>simp[eqK] at h
    |succ k=>cases k<;>simp[eqK] at h
 |bool a=>cases y with
  |bool b=>simpa[su] using h
  |_=>cases k with
   |zero=>simp[eqK] at h
   |succ k=>cases k with
    |zero=>simp[eqK] at h
    |succ k=>cases k<;>simp[eqK] at h
 |str a=>cases y with
  |str b=>simpa[su] using h
  |_=>cases k with
   |zero=>simp[eqK] at h
   |succ k=>cases k with
    |zero=>simp[eqK] at h
    |succ k=>cases k<;>simp[eqK] at h
 |_=>cases k with
   |zero=>simp[eqK] at h
   |succ k=>cases k with
    |zero=>simp[eqK] at h
    |succ k=>cases k<;>simp[eqK] at h
theorem eqL_ns:∀ (ks:List Nat) (as bs:List V) (b:Bool),as.all ns=true→bs.all ns=true→eqL ks as bs=some b→eqL ks (suL σ as) (suL σ bs)=some b
 | [],[],[],b,_,_,h=>by simpa[suL] using h
 | [],[],_::_,b,_,_,h=>by simp[eqL] at h
 | [],_::_,_,b,_,_,h=>by simp[eqL] at h
 |_::_,[],_,b,_,_,h=>by simp[eqL] at h
 |_::_,_::_,[],b,_,_,h=>by simp[eqL] at h
 |k::ks,x::as,y::bs,b,ha,hb,h=>by
  simp only[List.all_cons,Bool.and_eq_true] at ha hb
  simp only[eqL] at h
  obtain⟨c,h1,h2⟩:=Option.bind_eq_some_iff.1 h
  obtain⟨d,h3,rfl⟩:=Option.map_eq_some_iff.1 h2
  simp only[suL,eqL,eqK_ns ha.1 hb.1 h1,eqL_ns ks as bs d ha.2 hb.2 h3,Option.bind_some,Option.map_some]
theorem cutV_su (hσ:Num σ) {sz:Nat} {s:St} {lo hi mx:Option O} (hl:onat (suS σ s).tm=onat s.tm∨True)
  (h1:∀ d,onat (suS σ s).tm d lo=onat s.tm d lo) (h2:∀ d,onat (suS σ s).tm d hi=onat s.tm d hi) (h3:∀ o,mx=some o→nat? (rd (suS σ s).tm o)=nat? (rd s.tm o)) (v:V) :
  cutV sz (suS σ s) lo hi mx (su σ v)=(cutV sz s lo hi mx v).map (su σ):=by
 cases v with
 |int j n=>obtain⟨j',m,e⟩:=su_int hσ j n;rw[e];rfl
 |str b=>
  simp only[su,cutV,h1,h2]
  cases mx.isNone with
  |false=>rfl
  |true=>
   simp only[cond_true]
   cases onat s.tm 0 lo with
   |none=>rfl
   |some l=>
    simp only[Option.bind_some]
    cases onat s.tm b.length hi with
    |none=>rfl
    |some h=>simp only[Option.bind_some];cases (Nat.ble l h&&Nat.ble h b.length)<;>simp[su]
 |sl t z es=>
  simp only[su,cutV,h1,h2,suL_len]
  cases onat s.tm 0 lo with
  |none=>rfl
  |some l=>
   simp only[Option.bind_some]
   cases onat s.tm es.length hi with
   |none=>rfl
   |some h=>
    simp only[Option.bind_some]
    cases (Nat.beq z sz&&(Nat.ble l h&&Nat.ble h es.length)) with
    |false=>rfl
    |true=>
     simp only[cond_true]
     cases mx with
     |none=>simp[su,suL_take,suL_drop]
     |some m=>
      simp only[h3 m rfl]
      cases nat? (rd s.tm m) with
      |none=>rfl
      |some m=>simp only[Option.bind_some];cases (hi.isSome&&(Nat.ble h m&&Nat.ble m es.length))<;>simp[su,suL_take,suL_drop]
 |bs d i ver o len=>
  simp only[su,cutV,get_su]
  cases s.get d i with
  |none=>rfl
  |some b=>
   cases b with
   |arr ver' z es=>
    simp only[Option.map_some,suB,h1,h2]
    cases (mx.isNone&&(Nat.beq z sz&&Nat.beq ver ver')) with
    |false=>rfl
    |true=>
     simp only[cond_true]
     cases onat s.tm 0 lo with
     |none=>rfl
     |some l=>
      simp only[Option.bind_some]
      cases onat s.tm len hi with
      |none=>rfl
      |some h=>simp only[Option.bind_some];cases (Nat.ble l h&&Nat.ble h len)<;>simp[su]
   |_=>rfl
 |_=>rfl
def suR (σ:Int→V) (r:V × St):V × St:=(su σ r.1,suS σ r.2)
theorem fr_su (s:St):(suS σ s).fr=suF σ s.fr:=rfl
theorem wf_su (s:St) (fr:Fr):suS σ { s with fr:=fr } = { suS σ s with fr:=suF σ fr }:=rfl
theorem suF_app (a b:Fr):suF σ (a++b)=suF σ a++suF σ b:=by simp[suF]
theorem appV_su (hσ:Num σ) (sz:Nat) (s:St) (x:V) (ys:List V):appV sz (suS σ s) (su σ x) (suL σ ys)=(appV sz s x ys).map (suR σ):=by
 cases x with
 |int j n=>obtain⟨j',m,e⟩:=su_int hσ j n;rw[e];rfl
 |sl t z es=>
  simp only[su,appV,suL_len]
  cases (Nat.beq z sz&&Nat.ble (es.length+ys.length) lim) with
  |false=>rfl
  |true=>
   simp only[cond_true]
   cases ys with
   |nil=>simp[suL,suR,su]
   |cons y ys=>
    simp only[suL]
    cases t with
    |no=>rfl
    |ex=>simp[suR,su,suL_append,suL,wf_su,suF_app,suF_len,fr_su,suF,suB]
    | «at» d i ver=>
     simp only[get_su]
     cases s.get d i with
     |none=>rfl
     |some b=>
      cases b with
      |tok ver'=>
       have ha:(su σ y::suL σ ys).all cel=(y::ys).all cel:=by
        have:=all_su (σ:=σ) (p:=cel) (cel_su hσ) (y::ys)
        simpa[suL] using this
       simp only[Option.map_some,suB,ha]
       cases (Nat.beq ver ver'&&(y::ys).all cel) with
       |false=>rfl
       |true=>simp[suR,su,suL_append,suL,set_su,suB,suL_len]
      |_=>rfl
 |_=>rfl
theorem amV_su (hσ:Num σ) (sz:Nat) (s:St) (x:V) (ys:List V):amV sz (suS σ s) (su σ x) (suL σ ys)=(amV sz s x ys).map (suR σ):=by
 cases x with
 |int j n=>obtain⟨j',m,e⟩:=su_int hσ j n;rw[e];rfl
 |sl t z es=>
  cases t with
  |ex=>
   simp only[su,amV,suL_len]
   cases (Nat.beq z sz&&Nat.ble (es.length+ys.length) lim) with
   |false=>rfl
   |true=>
    simp only[cond_true]
    cases ys with
    |nil=>simp[suL,suR,su]
    |cons y ys=>simp[suL,suR,su,suL_append,wf_su,suF_app,suF_len,fr_su,suF,suB]
  |_=>rfl
 |bs d i ver o len=>
  simp only[su,amV,get_su]
  cases s.get d i with
  |none=>rfl
  |some b=>
   cases b with
   |arr ver' z es=>
    have ha:(suL σ ys).all cel=ys.all cel:=all_su (cel_su hσ) ys
    simp only[Option.map_some,suB,suL_len,ha]
    cases (Nat.beq z sz&&(Nat.beq ver ver'&&(Nat.ble (o+len) es.length&&(Nat.ble (len+ys.length) lim&&ys.all cel)))) with
    |false=>rfl
    |true=>
     simp only[cond_true]
     cases ys with
     |nil=>simp[suL,suR,su]
     |cons y ys=>simp[suL,suR,su,suL_append,suL_take,suL_drop,set_su,suB,suL_len]
   |_=>rfl
 |_=>rfl
theorem growS_su (hσ:Num σ) (n j k:Nat) (cs:List V):growS n j k (suL σ cs)=suL σ (growS n j k cs):=by
 unfold growS
 rw[suL_get]
 cases hk:cs[k % 1000]? with
 |none=>rfl
 |some v=>
  cases v with
  |sl t z es=>
   cases t with
   |ex=>
    cases es with
    |nil=>
     simp only[Option.map_some,su,suL]
     cases Nat.blt k 1000
     ·cases Nat.beq z (k / 1000)<;>simp[su,suL_set]
     ·simp[su,suL,suL_set]
    |cons a b=>simp[su,suL]
   |_=>rfl
  |int k n=>
   obtain⟨j',m,e⟩:=su_int hσ k n
   simp only[Option.map_some]
   rw[e]
  |_=>rfl
theorem growC_su (hσ:Num σ) (n:Nat):∀ (ks:List Nat) (cs:List V) (j:Nat),growC n (suL σ cs) j ks=suL σ (growC n cs j ks)
 | [],cs,j=>rfl
 |k::ks,cs,j=>by simp only[growC,growS_su hσ,growC_su hσ n ks]
theorem blkT_su (k:Nat):suB σ (blkT k)=blkT k:=by
 unfold blkT
 cases Nat.blt k 1000<;>simp[suB,suL]
end
end Go.Vm
