/-
  A part of a proof: the last text of the claim says what is proved, and under which conditions.
-/
import Derived.Test.YtmnmpmmpihimpaaGreatDoorM4
import Derived.Test.YtmnmpmmpihimpaaGreatDoorM9
set_option linter.unusedSimpArgs false
set_option linter.unusedVariables false
set_option linter.unnecessarySimpa false
/- Printed by closed2.py. -/
namespace Go.Vm
open Go
set_option maxRecDepth 1000000
noncomputable def SA0 : Orc := orcN
theorem SA0_ok {σ : Int → V} : OrcOk TX σ SA0 := orcN_ok
def Sd0 : V := .str [102, 97, 99, 116, 32, 111, 112, 101, 110, 47, 49, 32, 101, 118, 101, 110, 116, 46, 32, 102, 97, 99, 116, 32, 99, 108, 111, 115, 101, 47, 49, 32, 101, 118, 101, 110, 116, 46, 32, 102, 97, 99, 116, 32, 104, 101, 108, 100, 47, 49, 32, 112, 101, 114, 115, 105, 115, 116, 46, 32, 102, 97, 99, 116, 32, 115, 111, 111, 110, 47, 49, 32, 110, 101, 120, 116, 46, 32, 102, 97, 99, 116, 32, 98, 97, 100, 47, 49, 32, 102, 111, 114, 98, 105, 100, 46, 10, 114, 117, 108, 101, 32, 111, 32, 48, 58, 32, 111, 112, 101, 110, 40, 88, 41, 32, 45, 62, 32, 43, 115, 111, 111, 110, 40, 88, 41, 46, 10, 114, 117, 108, 101, 32, 104, 32, 48, 58, 32, 115, 111, 111, 110, 40, 88, 41, 32, 45, 62, 32, 43, 104, 101, 108, 100, 40, 88, 41, 46, 10, 114, 117, 108, 101, 32, 98, 32, 49, 58, 32, 111, 112, 101, 110, 40, 88, 41, 44, 32, 104, 101, 108, 100, 40, 88, 41, 32, 45, 62, 32, 43, 98, 97, 100, 40, 88, 41, 46, 32, 37, 32, 116, 119, 105, 99, 101, 10, 114, 117, 108, 101, 32, 99, 32, 48, 58, 32, 99, 108, 111, 115, 101, 40, 88, 41, 44, 32, 104, 101, 108, 100, 40, 88, 41, 32, 45, 62, 32, 100, 114, 111, 112, 32, 49, 46, 10, 112, 97, 116, 116, 101, 114, 110, 32, 113, 58, 32, 99, 108, 111, 115, 101, 40, 88, 41, 32, 61, 62, 32, 111, 110, 99, 101, 32, 111, 112, 101, 110, 40, 88, 41, 46, 10]
def Sd1 : List V := [Sd0]
def Sd2 : V := .sl .no 3 [.agg [.str [111, 112, 101, 110], .int .i64 1, .int .i64 1], .agg [.str [99, 108, 111, 115, 101], .int .i64 1, .int .i64 1], .agg [.str [104, 101, 108, 100], .int .i64 1, .int .i64 2], .agg [.str [115, 111, 111, 110], .int .i64 1, .int .i64 4], .agg [.str [98, 97, 100], .int .i64 1, .int .i64 5]]
def Sd3 : V := .agg [.int .i64 1, .str [111, 112, 101, 110], .sl .no 4 [.agg [.str [88], .int .i64 0, .int .i64 0, .str []]], .int .i64 0, .sl .no 5 [], .sl .no 5 []]
def Sd4 : V := .sl .no 1 [.sl .no 5 [.agg [.int .i64 1, .str [88], .int .i64 0, .int .i64 0, .str []]]]
def Sd5 : V := .agg [.int .i64 1, .str [104, 101, 108, 100], .sl .no 4 [.agg [.str [88], .int .i64 0, .int .i64 0, .str []]], .int .i64 0, .sl .no 5 [], .sl .no 5 []]
def Sd6 : V := .sl .no 4 [.agg [.str [111], .int .i64 0, .sl .no 6 [Sd3], .sl .no 4 [.agg [.int .i64 1, .str [115, 111, 111, 110], Sd4, .int .i64 0]]], .agg [.str [104], .int .i64 0, .sl .no 6 [.agg [.int .i64 1, .str [115, 111, 111, 110], .sl .no 4 [.agg [.str [88], .int .i64 0, .int .i64 0, .str []]], .int .i64 0, .sl .no 5 [], .sl .no 5 []]], .sl .no 4 [.agg [.int .i64 1, .str [104, 101, 108, 100], Sd4, .int .i64 0]]], .agg [.str [98], .int .i64 1, .sl .no 6 [Sd3, Sd5], .sl .no 4 [.agg [.int .i64 1, .str [98, 97, 100], Sd4, .int .i64 0]]], .agg [.str [99], .int .i64 0, .sl .no 6 [.agg [.int .i64 1, .str [99, 108, 111, 115, 101], .sl .no 4 [.agg [.str [88], .int .i64 0, .int .i64 0, .str []]], .int .i64 0, .sl .no 5 [], .sl .no 5 []], Sd5], .sl .no 4 [.agg [.int .i64 2, .str [], .sl .no 1 [], .int .i64 1]]]]
def Sd7 : V := .agg [Sd2, Sd6, .sl .no 4 [.agg [.str [113], .str [99, 108, 111, 115, 101], .sl .no 4 [.agg [.str [88], .int .i64 0, .int .i64 0, .str []]], .sl .no 5 [.agg [.int .i64 1, .str [111, 112, 101, 110], .sl .no 4 [.agg [.str [88], .int .i64 0, .int .i64 0, .str []]], .int .i64 0, .int .i64 0], .agg [.int .i64 6, .str [], .sl .no 4 [], .int .i64 0, .int .i64 0]]]]]
def Sd8 : List V := [Sd7]
def Sd9 : V := .tup [.sl .no 1 [.int .i64 0, .int .i64 0, .int .i64 0, .int .i64 0], .int .i64 0]
def Sd10 : V := .agg [.str [111, 112, 101, 110], .sl .no 3 [.agg [.int .i64 1, .int .i64 1, .str []]]]
def Sd11 : V := .sl .no 2 [Sd10]
def Sd12 : V := .agg [.int .i64 0, Sd11]
def Sd13 : V := .agg [.str [115, 111, 111, 110], .sl .no 3 [.agg [.int .i64 1, .int .i64 1, .str []]]]
def Sd14 : V := .sl .no 2 [Sd13]
def Sd15 : V := .agg [.sl .no 2 [], Sd14, .int .i64 0]
def Sd16 : V := .agg [.str [104, 101, 108, 100], .sl .no 3 [.agg [.int .i64 1, .int .i64 1, .str []]]]
def Sd17 : V := .sl .no 2 [Sd12, .agg [.int .i64 1, Sd14], .agg [.int .i64 2, .sl .no 2 [Sd10, Sd16]]]
def Sd18 : V := .tup [Sd17, .int .i64 0]
def Sd19 : V := .agg [.str [98, 97, 100], .sl .no 3 [.agg [.int .i64 1, .int .i64 1, .str []]]]
def Sd20 : V := .sl .no 2 [Sd19, Sd16, Sd10, Sd13]
def Sd21 : V := .agg [Sd2, Sd6, .sl .no 4 []]
def Sd22 : List V := [Sd21]
def Sd23 : V := .agg [.str [111, 112, 101, 110], .sl .no 3 [.agg [.int .i64 1, .int .i16 0, .str []]]]
def Sd24 : V := .sl .no 2 [Sd23]
def Sd25 : V := .agg [.int .i64 0, Sd24]
def Sd26 : V := .agg [.str [115, 111, 111, 110], .sl .no 3 [.agg [.int .i64 1, .int .i16 0, .str []]]]
def Sd27 : V := .sl .no 2 [Sd26]
def Sd28 : V := .agg [.sl .no 2 [], Sd27, .int .i64 0]
def Sd29 : V := .agg [.str [99, 108, 111, 115, 101], .sl .no 3 [.agg [.int .i64 1, .int .i16 0, .str []]]]
def Sd30 : V := .agg [.str [104, 101, 108, 100], .sl .no 3 [.agg [.int .i64 1, .int .i16 0, .str []]]]
def Sd31 : V := .agg [.int .i64 1, Sd27]
def Sd32 : V := .agg [.int .i64 2, .sl .no 2 [Sd23, Sd30]]
def Sd33 : V := .sl .no 2 [Sd25, Sd31, Sd32]
def Sd34 : V := .tup [Sd33, .int .i64 0]
def Sd35 : V := .agg [.str [98, 97, 100], .sl .no 3 [.agg [.int .i64 1, .int .i16 0, .str []]]]
def Sd36 : V := .sl .no 2 [Sd35, Sd30, Sd23, Sd26]
def Sd37 : V := .sl .no 2 [Sd35]
def Sd38 : V := .agg [.sl .no 2 [Sd30], Sd27, .int .i64 0]
def Sd39 : V := .tup [.agg [.sl .no 2 [Sd29, Sd26], .sl .no 2 [Sd31, .agg [.int .i64 3, .sl .no 2 [Sd29, Sd30]]], .sl .no 2 [], .sl .no 2 []], .agg [.sl .no 2 [], .sl .no 2 [], .int .i64 0], .int .i64 0]
def Sa0 : List V := []
def Sv0 : V := Sd0
def Sa1 : List V := [.str [49]]
def Sv1 : V := .tup [.agg [.int .i64 1, .int .i64 1, .str []], .int .i64 0]
def Sa2 : List V := Sd1
def Sv2 : V := .tup [.sl .no 4 [.agg [.int .i64 1, .str [102, 97, 99, 116], .int .i64 1, .int .i64 1], .agg [.int .i64 1, .str [111, 112, 101, 110], .int .i64 1, .int .i64 6], .agg [.int .i64 5, .str [47], .int .i64 1, .int .i64 10], .agg [.int .i64 3, .str [49], .int .i64 1, .int .i64 11], .agg [.int .i64 1, .str [101, 118, 101, 110, 116], .int .i64 1, .int .i64 13], .agg [.int .i64 5, .str [46], .int .i64 1, .int .i64 18], .agg [.int .i64 1, .str [102, 97, 99, 116], .int .i64 1, .int .i64 20], .agg [.int .i64 1, .str [99, 108, 111, 115, 101], .int .i64 1, .int .i64 25], .agg [.int .i64 5, .str [47], .int .i64 1, .int .i64 30], .agg [.int .i64 3, .str [49], .int .i64 1, .int .i64 31], .agg [.int .i64 1, .str [101, 118, 101, 110, 116], .int .i64 1, .int .i64 33], .agg [.int .i64 5, .str [46], .int .i64 1, .int .i64 38], .agg [.int .i64 1, .str [102, 97, 99, 116], .int .i64 1, .int .i64 40], .agg [.int .i64 1, .str [104, 101, 108, 100], .int .i64 1, .int .i64 45], .agg [.int .i64 5, .str [47], .int .i64 1, .int .i64 49], .agg [.int .i64 3, .str [49], .int .i64 1, .int .i64 50], .agg [.int .i64 1, .str [112, 101, 114, 115, 105, 115, 116], .int .i64 1, .int .i64 52], .agg [.int .i64 5, .str [46], .int .i64 1, .int .i64 59], .agg [.int .i64 1, .str [102, 97, 99, 116], .int .i64 1, .int .i64 61], .agg [.int .i64 1, .str [115, 111, 111, 110], .int .i64 1, .int .i64 66], .agg [.int .i64 5, .str [47], .int .i64 1, .int .i64 70], .agg [.int .i64 3, .str [49], .int .i64 1, .int .i64 71], .agg [.int .i64 1, .str [110, 101, 120, 116], .int .i64 1, .int .i64 73], .agg [.int .i64 5, .str [46], .int .i64 1, .int .i64 77], .agg [.int .i64 1, .str [102, 97, 99, 116], .int .i64 1, .int .i64 79], .agg [.int .i64 1, .str [98, 97, 100], .int .i64 1, .int .i64 84], .agg [.int .i64 5, .str [47], .int .i64 1, .int .i64 87], .agg [.int .i64 3, .str [49], .int .i64 1, .int .i64 88], .agg [.int .i64 1, .str [102, 111, 114, 98, 105, 100], .int .i64 1, .int .i64 90], .agg [.int .i64 5, .str [46], .int .i64 1, .int .i64 96], .agg [.int .i64 1, .str [114, 117, 108, 101], .int .i64 2, .int .i64 1], .agg [.int .i64 1, .str [111], .int .i64 2, .int .i64 6], .agg [.int .i64 3, .str [48], .int .i64 2, .int .i64 8], .agg [.int .i64 5, .str [58], .int .i64 2, .int .i64 9], .agg [.int .i64 1, .str [111, 112, 101, 110], .int .i64 2, .int .i64 11], .agg [.int .i64 5, .str [40], .int .i64 2, .int .i64 15], .agg [.int .i64 2, .str [88], .int .i64 2, .int .i64 16], .agg [.int .i64 5, .str [41], .int .i64 2, .int .i64 17], .agg [.int .i64 5, .str [45, 62], .int .i64 2, .int .i64 19], .agg [.int .i64 5, .str [43], .int .i64 2, .int .i64 22], .agg [.int .i64 1, .str [115, 111, 111, 110], .int .i64 2, .int .i64 23], .agg [.int .i64 5, .str [40], .int .i64 2, .int .i64 27], .agg [.int .i64 2, .str [88], .int .i64 2, .int .i64 28], .agg [.int .i64 5, .str [41], .int .i64 2, .int .i64 29], .agg [.int .i64 5, .str [46], .int .i64 2, .int .i64 30], .agg [.int .i64 1, .str [114, 117, 108, 101], .int .i64 3, .int .i64 1], .agg [.int .i64 1, .str [104], .int .i64 3, .int .i64 6], .agg [.int .i64 3, .str [48], .int .i64 3, .int .i64 8], .agg [.int .i64 5, .str [58], .int .i64 3, .int .i64 9], .agg [.int .i64 1, .str [115, 111, 111, 110], .int .i64 3, .int .i64 11], .agg [.int .i64 5, .str [40], .int .i64 3, .int .i64 15], .agg [.int .i64 2, .str [88], .int .i64 3, .int .i64 16], .agg [.int .i64 5, .str [41], .int .i64 3, .int .i64 17], .agg [.int .i64 5, .str [45, 62], .int .i64 3, .int .i64 19], .agg [.int .i64 5, .str [43], .int .i64 3, .int .i64 22], .agg [.int .i64 1, .str [104, 101, 108, 100], .int .i64 3, .int .i64 23], .agg [.int .i64 5, .str [40], .int .i64 3, .int .i64 27], .agg [.int .i64 2, .str [88], .int .i64 3, .int .i64 28], .agg [.int .i64 5, .str [41], .int .i64 3, .int .i64 29], .agg [.int .i64 5, .str [46], .int .i64 3, .int .i64 30], .agg [.int .i64 1, .str [114, 117, 108, 101], .int .i64 4, .int .i64 1], .agg [.int .i64 1, .str [98], .int .i64 4, .int .i64 6], .agg [.int .i64 3, .str [49], .int .i64 4, .int .i64 8], .agg [.int .i64 5, .str [58], .int .i64 4, .int .i64 9], .agg [.int .i64 1, .str [111, 112, 101, 110], .int .i64 4, .int .i64 11], .agg [.int .i64 5, .str [40], .int .i64 4, .int .i64 15], .agg [.int .i64 2, .str [88], .int .i64 4, .int .i64 16], .agg [.int .i64 5, .str [41], .int .i64 4, .int .i64 17], .agg [.int .i64 5, .str [44], .int .i64 4, .int .i64 18], .agg [.int .i64 1, .str [104, 101, 108, 100], .int .i64 4, .int .i64 20], .agg [.int .i64 5, .str [40], .int .i64 4, .int .i64 24], .agg [.int .i64 2, .str [88], .int .i64 4, .int .i64 25], .agg [.int .i64 5, .str [41], .int .i64 4, .int .i64 26], .agg [.int .i64 5, .str [45, 62], .int .i64 4, .int .i64 28], .agg [.int .i64 5, .str [43], .int .i64 4, .int .i64 31], .agg [.int .i64 1, .str [98, 97, 100], .int .i64 4, .int .i64 32], .agg [.int .i64 5, .str [40], .int .i64 4, .int .i64 35], .agg [.int .i64 2, .str [88], .int .i64 4, .int .i64 36], .agg [.int .i64 5, .str [41], .int .i64 4, .int .i64 37], .agg [.int .i64 5, .str [46], .int .i64 4, .int .i64 38], .agg [.int .i64 1, .str [114, 117, 108, 101], .int .i64 5, .int .i64 1], .agg [.int .i64 1, .str [99], .int .i64 5, .int .i64 6], .agg [.int .i64 3, .str [48], .int .i64 5, .int .i64 8], .agg [.int .i64 5, .str [58], .int .i64 5, .int .i64 9], .agg [.int .i64 1, .str [99, 108, 111, 115, 101], .int .i64 5, .int .i64 11], .agg [.int .i64 5, .str [40], .int .i64 5, .int .i64 16], .agg [.int .i64 2, .str [88], .int .i64 5, .int .i64 17], .agg [.int .i64 5, .str [41], .int .i64 5, .int .i64 18], .agg [.int .i64 5, .str [44], .int .i64 5, .int .i64 19], .agg [.int .i64 1, .str [104, 101, 108, 100], .int .i64 5, .int .i64 21], .agg [.int .i64 5, .str [40], .int .i64 5, .int .i64 25], .agg [.int .i64 2, .str [88], .int .i64 5, .int .i64 26], .agg [.int .i64 5, .str [41], .int .i64 5, .int .i64 27], .agg [.int .i64 5, .str [45, 62], .int .i64 5, .int .i64 29], .agg [.int .i64 1, .str [100, 114, 111, 112], .int .i64 5, .int .i64 32], .agg [.int .i64 3, .str [49], .int .i64 5, .int .i64 37], .agg [.int .i64 5, .str [46], .int .i64 5, .int .i64 38], .agg [.int .i64 1, .str [112, 97, 116, 116, 101, 114, 110], .int .i64 6, .int .i64 1], .agg [.int .i64 1, .str [113], .int .i64 6, .int .i64 9], .agg [.int .i64 5, .str [58], .int .i64 6, .int .i64 10], .agg [.int .i64 1, .str [99, 108, 111, 115, 101], .int .i64 6, .int .i64 12], .agg [.int .i64 5, .str [40], .int .i64 6, .int .i64 17], .agg [.int .i64 2, .str [88], .int .i64 6, .int .i64 18], .agg [.int .i64 5, .str [41], .int .i64 6, .int .i64 19], .agg [.int .i64 5, .str [61, 62], .int .i64 6, .int .i64 21], .agg [.int .i64 1, .str [111, 110, 99, 101], .int .i64 6, .int .i64 24], .agg [.int .i64 1, .str [111, 112, 101, 110], .int .i64 6, .int .i64 29], .agg [.int .i64 5, .str [40], .int .i64 6, .int .i64 33], .agg [.int .i64 2, .str [88], .int .i64 6, .int .i64 34], .agg [.int .i64 5, .str [41], .int .i64 6, .int .i64 35], .agg [.int .i64 5, .str [46], .int .i64 6, .int .i64 36]], .agg [.int .i64 0, .int .i64 0], .int .i64 0]
def Sa3 : List V := [.str [111, 112, 101, 110]]
def Sv3 : V := .bool true
def Sa4 : List V := [.str [99, 108, 111, 115, 101]]
def Sv4 : V := .bool true
def Sa5 : List V := [.str [104, 101, 108, 100]]
def Sv5 : V := .bool true
def Sa6 : List V := [.str [115, 111, 111, 110]]
def Sv6 : V := .bool true
def Sa7 : List V := Sd1
def Sv7 : V := .tup [Sd7, .agg [.int .i64 0, .int .i64 0], .int .i64 0]
def Sa8 : List V := Sd8
def Sv8 : V := .int .i64 0
def Sa9 : List V := Sd8
def Sv9 : V := Sd9
def Sa10 : List V := [.sl .no 3 [.agg [.int .i64 1, .int .i64 1, .str []]], .sl .no 3 [.agg [.int .i64 1, .int .i64 1, .str []]], .fn 146 [] []]
def Sv10 : V := .int .i64 0
def Sa11 : List V := [Sd7, .agg [.int .i64 10, .int .i64 10], .agg [.sl .no 2 [], .sl .no 2 [], .int .i64 0], Sd10]
def Sv11 : V := .tup [.agg [Sd11, .sl .no 2 [Sd12], .sl .no 2 [], Sd14], Sd15, .int .i64 0]
def Sa12 : List V := [Sd7, .sl .no 2 [Sd16, Sd10, Sd13]]
def Sv12 : V := Sd18
def Sa13 : List V := [Sd7, Sd20]
def Sv13 : V := Sd18
def Sa14 : List V := [Sd7, .agg [.int .i64 10, .int .i64 10], Sd15, Sd10]
def Sv14 : V := .tup [.agg [Sd20, Sd17, .sl .no 2 [Sd19], Sd14], .agg [.sl .no 2 [Sd16], Sd14, .int .i64 0], .int .i64 0]
def Sa15 : List V := [Sd7, .agg [.int .i64 0, .int .i64 10], Sd15, Sd10]
def Sv15 : V := .tup [.agg [.sl .no 2 [], .sl .no 2 [], .sl .no 2 [], .sl .no 2 []], .agg [.sl .no 2 [], Sd14, .int .i64 14], .int .i64 14]
def Sa16 : List V := []
def Sv16 : V := .bool true
def Sa17 : List V := Sd22
def Sv17 : V := .int .i64 0
def Sa18 : List V := Sd22
def Sv18 : V := Sd9
def Sa19 : List V := [.sl .no 3 [.agg [.int .i64 1, .int .i16 0, .str []]], .sl .no 3 [.agg [.int .i64 1, .int .i16 0, .str []]], .fn 146 [] []]
def Sv19 : V := .int .i64 0
def Sa20 : List V := [Sd21, .agg [.int .i64 20, .int .i64 20], .agg [.sl .no 2 [], .sl .no 2 [], .int .i64 0], Sd23]
def Sv20 : V := .tup [.agg [Sd24, .sl .no 2 [Sd25], .sl .no 2 [], Sd27], Sd28, .int .i64 0]
def Sa21 : List V := [Sd21, .agg [.int .i64 20, .int .i64 20], .agg [.sl .no 2 [], .sl .no 2 [], .int .i64 0], Sd29]
def Sv21 : V := .tup [.agg [.sl .no 2 [Sd29], .sl .no 2 [], .sl .no 2 [], .sl .no 2 []], .agg [.sl .no 2 [], .sl .no 2 [], .int .i64 0], .int .i64 0]
def Sa22 : List V := [Sd21, .sl .no 2 [Sd30, Sd23, Sd26]]
def Sv22 : V := Sd34
def Sa23 : List V := [Sd21, Sd36]
def Sv23 : V := Sd34
def Sa24 : List V := [Sd21, .agg [.int .i64 20, .int .i64 20], Sd28, Sd23]
def Sv24 : V := .tup [.agg [Sd36, Sd33, Sd37, Sd27], Sd38, .int .i64 0]
def Sa25 : List V := [Sd21, .agg [.int .i64 20, .int .i64 20], Sd28, Sd29]
def Sv25 : V := Sd39
def Sa26 : List V := [Sd21, .agg [.int .i64 20, .int .i64 20], Sd38, Sd23]
def Sv26 : V := .tup [.agg [Sd36, .sl .no 2 [Sd32, Sd25, Sd31], Sd37, Sd27], Sd38, .int .i64 0]
def Sa27 : List V := [Sd21, .agg [.int .i64 20, .int .i64 20], Sd38, Sd29]
def Sv27 : V := Sd39
end Go.Vm
