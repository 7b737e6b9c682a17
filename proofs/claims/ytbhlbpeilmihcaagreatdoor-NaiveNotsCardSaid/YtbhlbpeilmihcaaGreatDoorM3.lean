/-
  A part of a proof: the last text of the claim says what is proved, and under which conditions.
-/
import Derived.Test.YtbhlbpeilmihcaaGreatDoorM0
import Derived.Test.YtbhlbpeilmihcaaGreatDoorM1
set_option linter.unusedSimpArgs false
set_option linter.unusedVariables false
set_option linter.unnecessarySimpa false
/- The functions of the translation as programs of the machine V. Written by gen.py out of the loaded functions. -/
namespace Go.Vm
set_option maxRecDepth 100000
def c170 : VF := { code := .seq (.reg [⟨some 2, .nw 4, none⟩]) (.seq (.seq (.reg [⟨some 6, .mv (.t 0), none⟩, ⟨some 7, .len false (.t 6), none⟩, ⟨some 8, .bin .lss (.t 7) (.c (.int .i64 2)), none⟩]) (.cond (.t 8) (.seq (.reg [⟨some 9, .mv (.t 0), none⟩, ⟨some 2, .mv (.t 9), none⟩]) (.ret)) (.skip))) (.seq (.seq (.reg [⟨some 3, .mv (.c (.int .i64 1)), none⟩]) (.block 0 (.loop [0, 3] (.seq (.seq (.reg [⟨some 10, .mv (.t 3), none⟩, ⟨some 11, .mv (.t 0), none⟩, ⟨some 12, .len false (.t 11), none⟩, ⟨some 13, .bin .lss (.t 10) (.t 12), none⟩]) (.cond (.t 13) (.skip) (.exit 0))) (.seq (.block 1 (.seq (.drw [⟨0, [], ⟨some 16, .mv (.t 0), none⟩, false, []⟩, ⟨1, [], ⟨some 17, .mv (.t 3), none⟩, false, []⟩, ⟨2, [0, 1], ⟨some 18, .ia none 4 (.t 16) (.t 17), none⟩, false, []⟩, ⟨3, [0, 1, 2], ⟨some 19, .ld true 4 (.t 18), none⟩, false, []⟩, ⟨4, [], ⟨some 20, .mv (.t 0), none⟩, false, []⟩, ⟨5, [], ⟨some 21, .mv (.t 3), none⟩, false, []⟩, ⟨6, [5], ⟨some 22, .bin .sub (.t 21) (.c (.int .i64 1)), none⟩, false, []⟩, ⟨7, [4, 5, 6], ⟨some 23, .ia none 4 (.t 20) (.t 22), none⟩, false, []⟩, ⟨8, [4, 5, 6, 7], ⟨some 24, .ld true 4 (.t 23), none⟩, false, []⟩, ⟨9, [0, 1, 2, 3, 4, 5, 6, 7, 8], ⟨some 25, .eqs false [2, 1, 1, 2] (.t 19) (.t 24), none⟩, false, []⟩]) (.cond (.t 25) (.seq (.reg [⟨some 26, .mv (.t 0), none⟩, ⟨some 27, .mv (.t 3), none⟩, ⟨some 28, .cut false 4 (.t 26) (some (.t 27)) none none, none⟩, ⟨some 4, .mv (.t 28), none⟩]) (.seq (.seq (.reg [⟨some 5, .mv (.c (.int .i64 1)), none⟩]) (.block 2 (.loop [0, 3, 4, 5] (.seq (.seq (.reg [⟨some 29, .mv (.t 5), none⟩, ⟨some 30, .mv (.t 4), none⟩, ⟨some 31, .len false (.t 30), none⟩, ⟨some 32, .bin .lss (.t 29) (.t 31), none⟩]) (.cond (.t 32) (.skip) (.exit 2))) (.seq (.block 3 (.seq (.drw [⟨0, [], ⟨some 35, .mv (.t 4), none⟩, false, []⟩, ⟨1, [], ⟨some 36, .mv (.t 5), none⟩, false, []⟩, ⟨2, [0, 1], ⟨some 37, .ia none 4 (.t 35) (.t 36), none⟩, false, []⟩, ⟨3, [0, 1, 2], ⟨some 38, .ld true 4 (.t 37), none⟩, false, []⟩, ⟨4, [], ⟨some 39, .mv (.t 4), none⟩, false, []⟩, ⟨5, [], ⟨some 40, .mv (.t 5), none⟩, false, []⟩, ⟨6, [5], ⟨some 41, .bin .sub (.t 40) (.c (.int .i64 1)), none⟩, false, []⟩, ⟨7, [4, 5, 6], ⟨some 42, .ia none 4 (.t 39) (.t 41), none⟩, false, []⟩, ⟨8, [4, 5, 6, 7], ⟨some 43, .ld true 4 (.t 42), none⟩, false, []⟩, ⟨9, [0, 1, 2, 3, 4, 5, 6, 7, 8], ⟨some 44, .eqs true [2, 1, 1, 2] (.t 38) (.t 43), none⟩, false, []⟩]) (.cond (.t 44) (.seq (.reg [⟨some 45, .mv (.t 0), none⟩, ⟨some 46, .mv (.t 3), none⟩, ⟨some 47, .mv (.t 4), none⟩, ⟨some 48, .mv (.t 5), none⟩, ⟨some 49, .ia none 4 (.t 47) (.t 48), none⟩, ⟨some 50, .ld true 4 (.t 49), none⟩, ⟨some 51, .ia none 4 (.t 45) (.t 46), none⟩, ⟨none, .st true 4 (.t 51) (.t 50), none⟩]) (.reg [⟨some 52, .mv (.t 3), none⟩, ⟨some 53, .bin .add (.t 52) (.c (.int .i64 1)), none⟩, ⟨some 3, .mv (.t 53), none⟩])) (.skip)))) (.reg [⟨some 33, .mv (.t 5), none⟩, ⟨some 34, .bin .add (.t 33) (.c (.int .i64 1)), none⟩, ⟨some 5, .mv (.t 34), none⟩])))))) (.seq (.reg [⟨some 54, .mv (.t 0), none⟩, ⟨some 55, .mv (.t 3), none⟩, ⟨some 56, .cut false 4 (.t 54) (some (.t 55)) none none, none⟩, ⟨none, .clr [.str [], .int .i64 0, .int .i64 0, .str []] (.t 56), none⟩]) (.seq (.reg [⟨some 57, .mv (.t 0), none⟩, ⟨some 58, .mv (.t 3), none⟩, ⟨some 59, .cut false 4 (.t 57) none (some (.t 58)) none, none⟩, ⟨some 2, .mv (.t 59), none⟩]) (.ret))))) (.skip)))) (.reg [⟨some 14, .mv (.t 3), none⟩, ⟨some 15, .bin .add (.t 14) (.c (.int .i64 1)), none⟩, ⟨some 3, .mv (.t 15), none⟩])))))) (.seq (.reg [⟨some 60, .mv (.t 0), none⟩, ⟨some 2, .mv (.t 60), none⟩]) (.ret)))), res := [(2, none)], keepR := true }
def c171 : VF := { code := .seq (.reg [⟨some 2, .mv (.c (.int .i32 0)), none⟩, ⟨some 3, .mv (.c (.int .i64 0)), none⟩]) (.seq (.reg [⟨some 13, .mv (.t 0), none⟩, ⟨some 14, .len true (.t 13), none⟩, ⟨some 4, .mv (.t 14), none⟩]) (.seq (.seq (.reg [⟨some 15, .mv (.t 4), none⟩, ⟨some 16, .bin .lss (.t 15) (.c (.int .i64 1)), none⟩]) (.cond (.t 16) (.seq (.reg [⟨some 2, .mv (.c (.int .i32 65533)), none⟩, ⟨some 3, .mv (.c (.int .i64 0)), none⟩]) (.ret)) (.skip))) (.seq (.reg [⟨some 17, .mv (.t 0), none⟩, ⟨some 18, .ix (.t 17) (.c (.int .i64 0)), none⟩, ⟨some 5, .mv (.t 18), none⟩]) (.seq (.reg [⟨some 19, .mv (.t 5), none⟩, ⟨some 20, .bad, none⟩, ⟨some 21, .ld false 1 (.t 20), none⟩, ⟨some 6, .mv (.t 21), none⟩]) (.seq (.seq (.reg [⟨some 22, .mv (.t 6), none⟩, ⟨some 23, .bin .geq (.t 22) (.c (.int .u8 240)), none⟩]) (.cond (.t 23) (.seq (.reg [⟨some 24, .mv (.t 6), none⟩, ⟨some 25, .wrp .i32 (.t 24), none⟩, ⟨some 26, .bin .shl (.t 25) (.c (.int .u64 31)), none⟩, ⟨some 27, .bin .shr (.t 26) (.c (.int .u64 31)), none⟩, ⟨some 7, .mv (.t 27), none⟩]) (.seq (.reg [⟨some 28, .mv (.t 0), none⟩, ⟨some 29, .ix (.t 28) (.c (.int .i64 0)), none⟩, ⟨some 30, .wrp .i32 (.t 29), none⟩, ⟨some 31, .mv (.t 7), none⟩, ⟨some 32, .bin .andNot (.t 30) (.t 31), none⟩, ⟨some 33, .mv (.t 7), none⟩, ⟨some 34, .bin .and (.c (.int .i32 65533)) (.t 33), none⟩, ⟨some 35, .bin .or (.t 32) (.t 34), none⟩, ⟨some 2, .mv (.t 35), none⟩, ⟨some 3, .mv (.c (.int .i64 1)), none⟩]) (.ret))) (.skip))) (.seq (.reg [⟨some 36, .mv (.t 6), none⟩, ⟨some 37, .bin .and (.t 36) (.c (.int .u8 7)), none⟩, ⟨some 38, .wrp .i64 (.t 37), none⟩, ⟨some 8, .mv (.t 38), none⟩]) (.seq (.reg [⟨some 39, .mv (.t 6), none⟩, ⟨some 40, .bin .shr (.t 39) (.c (.int .u64 4)), none⟩, ⟨some 41, .bad, none⟩, ⟨some 42, .ld true 2 (.t 41), none⟩, ⟨some 9, .al [.int .u8 0, .int .u8 0] [], none⟩, ⟨none, .st true 2 (.t 9) (.t 42), none⟩]) (.seq (.seq (.reg [⟨some 43, .mv (.t 4), none⟩, ⟨some 44, .mv (.t 8), none⟩, ⟨some 45, .bin .lss (.t 43) (.t 44), none⟩]) (.cond (.t 45) (.seq (.reg [⟨some 2, .mv (.c (.int .i32 65533)), none⟩, ⟨some 3, .mv (.c (.int .i64 1)), none⟩]) (.ret)) (.skip))) (.seq (.reg [⟨some 46, .mv (.t 0), none⟩, ⟨some 47, .ix (.t 46) (.c (.int .i64 1)), none⟩, ⟨some 10, .mv (.t 47), none⟩]) (.seq (.seq (.reg [⟨some 48, .mv (.t 10), none⟩, ⟨some 49, .fa 0 (.t 9), none⟩, ⟨some 50, .ld false 1 (.t 49), none⟩, ⟨some 51, .bin .lss (.t 48) (.t 50), none⟩, ⟨some 52, .mv (.t 51), none⟩, ⟨some 53, .fa 1 (.t 9), some (52, false)⟩, ⟨some 54, .ld false 1 (.t 53), some (52, false)⟩, ⟨some 55, .mv (.t 10), some (52, false)⟩, ⟨some 56, .bin .lss (.t 54) (.t 55), some (52, false)⟩, ⟨some 57, .pick (.t 52) (.c (.bool true)) (.t 56), none⟩]) (.cond (.t 57) (.seq (.reg [⟨some 2, .mv (.c (.int .i32 65533)), none⟩, ⟨some 3, .mv (.c (.int .i64 1)), none⟩]) (.ret)) (.skip))) (.seq (.seq (.reg [⟨some 58, .mv (.t 8), none⟩, ⟨some 59, .bin .leq (.t 58) (.c (.int .i64 2)), none⟩]) (.cond (.t 59) (.seq (.reg [⟨some 60, .mv (.t 5), none⟩, ⟨some 61, .bin .and (.t 60) (.c (.int .u8 31)), none⟩, ⟨some 62, .wrp .i32 (.t 61), none⟩, ⟨some 63, .bin .shl (.t 62) (.c (.int .u64 6)), none⟩, ⟨some 64, .mv (.t 10), none⟩, ⟨some 65, .bin .and (.t 64) (.c (.int .u8 63)), none⟩, ⟨some 66, .wrp .i32 (.t 65), none⟩, ⟨some 67, .bin .or (.t 63) (.t 66), none⟩, ⟨some 2, .mv (.t 67), none⟩, ⟨some 3, .mv (.c (.int .i64 2)), none⟩]) (.ret)) (.skip))) (.seq (.reg [⟨some 68, .mv (.t 0), none⟩, ⟨some 69, .ix (.t 68) (.c (.int .i64 2)), none⟩, ⟨some 11, .mv (.t 69), none⟩]) (.seq (.seq (.reg [⟨some 70, .mv (.t 11), none⟩, ⟨some 71, .bin .lss (.t 70) (.c (.int .u8 128)), none⟩, ⟨some 72, .mv (.t 71), none⟩, ⟨some 73, .mv (.t 11), some (72, false)⟩, ⟨some 74, .bin .lss (.c (.int .u8 191)) (.t 73), some (72, false)⟩, ⟨some 75, .pick (.t 72) (.c (.bool true)) (.t 74), none⟩]) (.cond (.t 75) (.seq (.reg [⟨some 2, .mv (.c (.int .i32 65533)), none⟩, ⟨some 3, .mv (.c (.int .i64 1)), none⟩]) (.ret)) (.skip))) (.seq (.seq (.reg [⟨some 76, .mv (.t 8), none⟩, ⟨some 77, .bin .leq (.t 76) (.c (.int .i64 3)), none⟩]) (.cond (.t 77) (.seq (.reg [⟨some 78, .mv (.t 5), none⟩, ⟨some 79, .bin .and (.t 78) (.c (.int .u8 15)), none⟩, ⟨some 80, .wrp .i32 (.t 79), none⟩, ⟨some 81, .bin .shl (.t 80) (.c (.int .u64 12)), none⟩, ⟨some 82, .mv (.t 10), none⟩, ⟨some 83, .bin .and (.t 82) (.c (.int .u8 63)), none⟩, ⟨some 84, .wrp .i32 (.t 83), none⟩, ⟨some 85, .bin .shl (.t 84) (.c (.int .u64 6)), none⟩, ⟨some 86, .bin .or (.t 81) (.t 85), none⟩, ⟨some 87, .mv (.t 11), none⟩, ⟨some 88, .bin .and (.t 87) (.c (.int .u8 63)), none⟩, ⟨some 89, .wrp .i32 (.t 88), none⟩, ⟨some 90, .bin .or (.t 86) (.t 89), none⟩, ⟨some 2, .mv (.t 90), none⟩, ⟨some 3, .mv (.c (.int .i64 3)), none⟩]) (.ret)) (.skip))) (.seq (.reg [⟨some 91, .mv (.t 0), none⟩, ⟨some 92, .ix (.t 91) (.c (.int .i64 3)), none⟩, ⟨some 12, .mv (.t 92), none⟩]) (.seq (.seq (.reg [⟨some 93, .mv (.t 12), none⟩, ⟨some 94, .bin .lss (.t 93) (.c (.int .u8 128)), none⟩, ⟨some 95, .mv (.t 94), none⟩, ⟨some 96, .mv (.t 12), some (95, false)⟩, ⟨some 97, .bin .lss (.c (.int .u8 191)) (.t 96), some (95, false)⟩, ⟨some 98, .pick (.t 95) (.c (.bool true)) (.t 97), none⟩]) (.cond (.t 98) (.seq (.reg [⟨some 2, .mv (.c (.int .i32 65533)), none⟩, ⟨some 3, .mv (.c (.int .i64 1)), none⟩]) (.ret)) (.skip))) (.seq (.reg [⟨some 99, .mv (.t 5), none⟩, ⟨some 100, .bin .and (.t 99) (.c (.int .u8 7)), none⟩, ⟨some 101, .wrp .i32 (.t 100), none⟩, ⟨some 102, .bin .shl (.t 101) (.c (.int .u64 18)), none⟩, ⟨some 103, .mv (.t 10), none⟩, ⟨some 104, .bin .and (.t 103) (.c (.int .u8 63)), none⟩, ⟨some 105, .wrp .i32 (.t 104), none⟩, ⟨some 106, .bin .shl (.t 105) (.c (.int .u64 12)), none⟩, ⟨some 107, .bin .or (.t 102) (.t 106), none⟩, ⟨some 108, .mv (.t 11), none⟩, ⟨some 109, .bin .and (.t 108) (.c (.int .u8 63)), none⟩, ⟨some 110, .wrp .i32 (.t 109), none⟩, ⟨some 111, .bin .shl (.t 110) (.c (.int .u64 6)), none⟩, ⟨some 112, .bin .or (.t 107) (.t 111), none⟩, ⟨some 113, .mv (.t 12), none⟩, ⟨some 114, .bin .and (.t 113) (.c (.int .u8 63)), none⟩, ⟨some 115, .wrp .i32 (.t 114), none⟩, ⟨some 116, .bin .or (.t 112) (.t 115), none⟩, ⟨some 2, .mv (.t 116), none⟩, ⟨some 3, .mv (.c (.int .i64 4)), none⟩]) (.ret)))))))))))))))))), res := [(2, none), (3, none)] }
def c172 : VF := { code := .bad, res := [(4, none)] }
def c173 : VF := { code := .seq (.reg [⟨some 6, .mv (.c (.int .u64 0)), none⟩, ⟨some 7, .mv (.c (.nili)), none⟩]) (.seq (.seq (.reg [⟨some 18, .mv (.t 0), none⟩, ⟨some 19, .bin .eql (.t 18) (.c (.str [])), none⟩]) (.cond (.t 19) (.seq (.reg [⟨some 20, .mi 208 (.c (.int .i64 2)), none⟩, ⟨some 6, .mv (.c (.int .u64 0)), none⟩, ⟨some 7, .mv (.t 20), none⟩]) (.ret)) (.skip))) (.seq (.reg [⟨some 21, .mv (.t 1), none⟩, ⟨some 22, .bin .eql (.t 21) (.c (.int .i64 0)), none⟩, ⟨some 8, .mv (.t 22), none⟩]) (.seq (.reg [⟨some 23, .mv (.t 0), none⟩, ⟨some 9, .mv (.t 23), none⟩]) (.seq (.block 0 (.seq (.reg [⟨some 26, .mv (.t 1), none⟩, ⟨some 27, .bin .leq (.c (.int .i64 2)) (.t 26), none⟩, ⟨some 28, .mv (.t 27), none⟩, ⟨some 29, .mv (.t 1), some (28, true)⟩, ⟨some 30, .bin .leq (.t 29) (.c (.int .i64 36)), some (28, true)⟩, ⟨some 31, .pick (.t 28) (.t 30) (.c (.bool false)), none⟩, ⟨some 25, .mv (.t 31), none⟩]) (.cond (.t 25) (.skip) (.seq (.reg [⟨some 33, .mv (.t 1), none⟩, ⟨some 34, .bin .eql (.t 33) (.c (.int .i64 0)), none⟩, ⟨some 32, .mv (.t 34), none⟩]) (.cond (.t 32) (.seq (.reg [⟨some 1, .mv (.c (.int .i64 10)), none⟩]) (.seq (.reg [⟨some 35, .mv (.t 0), none⟩, ⟨some 36, .ix (.t 35) (.c (.int .i64 0)), none⟩, ⟨some 37, .bin .eql (.t 36) (.c (.int .u8 48)), none⟩]) (.cond (.t 37) (.block 1 (.seq (.reg [⟨some 41, .mv (.t 0), none⟩, ⟨some 42, .len true (.t 41), none⟩, ⟨some 43, .bin .geq (.t 42) (.c (.int .i64 3)), none⟩, ⟨some 44, .mv (.t 43), none⟩, ⟨some 45, .mv (.t 0), some (44, true)⟩, ⟨some 46, .ix (.t 45) (.c (.int .i64 1)), some (44, true)⟩, ⟨some 47, .call 185 [(.t 46)], some (44, true)⟩, ⟨some 48, .bin .eql (.t 47) (.c (.int .u8 98)), some (44, true)⟩, ⟨some 49, .pick (.t 44) (.t 48) (.c (.bool false)), none⟩, ⟨some 40, .mv (.t 49), none⟩]) (.cond (.t 40) (.seq (.reg [⟨some 1, .mv (.c (.int .i64 2)), none⟩]) (.reg [⟨some 50, .mv (.t 0), none⟩, ⟨some 51, .cut true 1 (.t 50) (some (.c (.int .i64 2))) none none, none⟩, ⟨some 0, .mv (.t 51), none⟩])) (.seq (.reg [⟨some 53, .mv (.t 0), none⟩, ⟨some 54, .len true (.t 53), none⟩, ⟨some 55, .bin .geq (.t 54) (.c (.int .i64 3)), none⟩, ⟨some 56, .mv (.t 55), none⟩, ⟨some 57, .mv (.t 0), some (56, true)⟩, ⟨some 58, .ix (.t 57) (.c (.int .i64 1)), some (56, true)⟩, ⟨some 59, .call 185 [(.t 58)], some (56, true)⟩, ⟨some 60, .bin .eql (.t 59) (.c (.int .u8 111)), some (56, true)⟩, ⟨some 61, .pick (.t 56) (.t 60) (.c (.bool false)), none⟩, ⟨some 52, .mv (.t 61), none⟩]) (.cond (.t 52) (.seq (.reg [⟨some 1, .mv (.c (.int .i64 8)), none⟩]) (.reg [⟨some 62, .mv (.t 0), none⟩, ⟨some 63, .cut true 1 (.t 62) (some (.c (.int .i64 2))) none none, none⟩, ⟨some 0, .mv (.t 63), none⟩])) (.seq (.reg [⟨some 65, .mv (.t 0), none⟩, ⟨some 66, .len true (.t 65), none⟩, ⟨some 67, .bin .geq (.t 66) (.c (.int .i64 3)), none⟩, ⟨some 68, .mv (.t 67), none⟩, ⟨some 69, .mv (.t 0), some (68, true)⟩, ⟨some 70, .ix (.t 69) (.c (.int .i64 1)), some (68, true)⟩, ⟨some 71, .call 185 [(.t 70)], some (68, true)⟩, ⟨some 72, .bin .eql (.t 71) (.c (.int .u8 120)), some (68, true)⟩, ⟨some 73, .pick (.t 68) (.t 72) (.c (.bool false)), none⟩, ⟨some 64, .mv (.t 73), none⟩]) (.cond (.t 64) (.seq (.reg [⟨some 1, .mv (.c (.int .i64 16)), none⟩]) (.reg [⟨some 74, .mv (.t 0), none⟩, ⟨some 75, .cut true 1 (.t 74) (some (.c (.int .i64 2))) none none, none⟩, ⟨some 0, .mv (.t 75), none⟩])) (.seq (.reg [⟨some 1, .mv (.c (.int .i64 8)), none⟩]) (.reg [⟨some 38, .mv (.t 0), none⟩, ⟨some 39, .cut true 1 (.t 38) (some (.c (.int .i64 1))) none none, none⟩, ⟨some 0, .mv (.t 39), none⟩]))))))))) (.skip)))) (.seq (.reg [⟨some 24, .mi 208 (.c (.int .i64 3)), none⟩, ⟨some 6, .mv (.c (.int .u64 0)), none⟩, ⟨some 7, .mv (.t 24), none⟩]) (.ret))))))) (.seq (.seq (.reg [⟨some 76, .mv (.t 2), none⟩, ⟨some 77, .bin .eql (.t 76) (.c (.int .i64 0)), none⟩]) (.cond (.t 77) (.reg [⟨some 2, .mv (.c (.int .i64 64)), none⟩]) (.seq (.reg [⟨some 78, .mv (.t 2), none⟩, ⟨some 79, .bin .lss (.t 78) (.c (.int .i64 0)), none⟩, ⟨some 80, .mv (.t 79), none⟩, ⟨some 81, .mv (.t 2), some (80, false)⟩, ⟨some 82, .bin .gtr (.t 81) (.c (.int .i64 64)), some (80, false)⟩, ⟨some 83, .pick (.t 80) (.c (.bool true)) (.t 82), none⟩]) (.cond (.t 83) (.seq (.reg [⟨some 84, .mi 208 (.c (.int .i64 4)), none⟩, ⟨some 6, .mv (.c (.int .u64 0)), none⟩, ⟨some 7, .mv (.t 84), none⟩]) (.ret)) (.skip))))) (.seq (.reg [⟨some 10, .mv (.c (.int .u64 0)), none⟩]) (.seq (.seq (.reg [⟨some 85, .mv (.t 1), none⟩]) (.block 2 (.seq (.reg [⟨some 91, .bin .eql (.t 85) (.c (.int .i64 10)), none⟩, ⟨some 90, .mv (.t 91), none⟩]) (.cond (.t 90) (.reg [⟨some 10, .mv (.c (.int .u64 1844674407370955162)), none⟩]) (.seq (.reg [⟨some 93, .bin .eql (.t 85) (.c (.int .i64 16)), none⟩, ⟨some 92, .mv (.t 93), none⟩]) (.cond (.t 92) (.reg [⟨some 10, .mv (.c (.int .u64 1152921504606846976)), none⟩]) (.reg [⟨some 86, .mv (.t 1), none⟩, ⟨some 87, .wrp .u64 (.t 86), none⟩, ⟨some 88, .bin .quo (.c (.int .u64 18446744073709551615)) (.t 87), none⟩, ⟨some 89, .bin .add (.t 88) (.c (.int .u64 1)), none⟩, ⟨some 10, .mv (.t 89), none⟩]))))))) (.seq (.reg [⟨some 94, .mv (.t 2), none⟩, ⟨some 95, .wrp .u64 (.t 94), none⟩, ⟨some 96, .bin .shl (.c (.int .u64 1)) (.t 95), none⟩, ⟨some 97, .bin .sub (.t 96) (.c (.int .u64 1)), none⟩, ⟨some 11, .mv (.t 97), none⟩]) (.seq (.reg [⟨some 12, .mv (.c (.bool false)), none⟩]) (.seq (.reg [⟨some 13, .mv (.c (.int .u64 0)), none⟩]) (.seq (.seq (.reg [⟨some 98, .mv (.t 0), none⟩, ⟨some 99, .s2b (.t 98), none⟩, ⟨some 100, .len false (.t 99), none⟩, ⟨some 101, .mv (.c (.int .i64 0)), none⟩]) (.block 3 (.loop [1, 8, 9, 10, 11, 12, 13, 99, 100, 101] (.seq (.reg [⟨some 102, .bin .lss (.t 101) (.t 100), none⟩]) (.seq (.cond (.t 102) (.skip) (.exit 3)) (.seq (.block 4 (.seq (.reg [⟨some 103, .ia none 1 (.t 99) (.t 101), none⟩, ⟨some 104, .ld false 1 (.t 103), none⟩, ⟨some 15, .mv (.t 104), none⟩]) (.seq (.reg [⟨some 16, .mv (.c (.int .u8 0)), none⟩]) (.seq (.block 5 (.seq (.reg [⟨some 107, .mv (.t 15), none⟩, ⟨some 108, .bin .eql (.t 107) (.c (.int .u8 95)), none⟩, ⟨some 109, .mv (.t 108), none⟩, ⟨some 110, .mv (.t 8), some (109, true)⟩, ⟨some 111, .pick (.t 109) (.t 110) (.c (.bool false)), none⟩, ⟨some 106, .mv (.t 111), none⟩]) (.cond (.t 106) (.seq (.reg [⟨some 12, .mv (.c (.bool true)), none⟩]) (.exit 4)) (.seq (.reg [⟨some 113, .mv (.t 15), none⟩, ⟨some 114, .bin .leq (.c (.int .u8 48)) (.t 113), none⟩, ⟨some 115, .mv (.t 114), none⟩, ⟨some 116, .mv (.t 15), some (115, true)⟩, ⟨some 117, .bin .leq (.t 116) (.c (.int .u8 57)), some (115, true)⟩, ⟨some 118, .pick (.t 115) (.t 117) (.c (.bool false)), none⟩, ⟨some 112, .mv (.t 118), none⟩]) (.cond (.t 112) (.reg [⟨some 119, .mv (.t 15), none⟩, ⟨some 120, .bin .sub (.t 119) (.c (.int .u8 48)), none⟩, ⟨some 16, .mv (.t 120), none⟩]) (.seq (.reg [⟨some 122, .mv (.t 15), none⟩, ⟨some 123, .call 185 [(.t 122)], none⟩, ⟨some 124, .bin .leq (.c (.int .u8 97)) (.t 123), none⟩, ⟨some 125, .mv (.t 124), none⟩, ⟨some 126, .mv (.t 15), some (125, true)⟩, ⟨some 127, .call 185 [(.t 126)], some (125, true)⟩, ⟨some 128, .bin .leq (.t 127) (.c (.int .u8 122)), some (125, true)⟩, ⟨some 129, .pick (.t 125) (.t 128) (.c (.bool false)), none⟩, ⟨some 121, .mv (.t 129), none⟩]) (.cond (.t 121) (.reg [⟨some 130, .mv (.t 15), none⟩, ⟨some 131, .call 185 [(.t 130)], none⟩, ⟨some 132, .bin .sub (.t 131) (.c (.int .u8 97)), none⟩, ⟨some 133, .bin .add (.t 132) (.c (.int .u8 10)), none⟩, ⟨some 16, .mv (.t 133), none⟩]) (.seq (.reg [⟨some 105, .mi 208 (.c (.int .i64 2)), none⟩, ⟨some 6, .mv (.c (.int .u64 0)), none⟩, ⟨some 7, .mv (.t 105), none⟩]) (.ret))))))))) (.seq (.seq (.reg [⟨some 134, .mv (.t 16), none⟩, ⟨some 135, .mv (.t 1), none⟩, ⟨some 136, .wrp .u8 (.t 135), none⟩, ⟨some 137, .bin .geq (.t 134) (.t 136), none⟩]) (.cond (.t 137) (.seq (.reg [⟨some 138, .mi 208 (.c (.int .i64 2)), none⟩, ⟨some 6, .mv (.c (.int .u64 0)), none⟩, ⟨some 7, .mv (.t 138), none⟩]) (.ret)) (.skip))) (.seq (.seq (.reg [⟨some 139, .mv (.t 13), none⟩, ⟨some 140, .mv (.t 10), none⟩, ⟨some 141, .bin .geq (.t 139) (.t 140), none⟩]) (.cond (.t 141) (.seq (.reg [⟨some 142, .mv (.t 11), none⟩, ⟨some 143, .mi 208 (.c (.int .i64 1)), none⟩, ⟨some 6, .mv (.t 142), none⟩, ⟨some 7, .mv (.t 143), none⟩]) (.ret)) (.skip))) (.seq (.reg [⟨some 144, .mv (.t 13), none⟩, ⟨some 145, .mv (.t 1), none⟩, ⟨some 146, .wrp .u64 (.t 145), none⟩, ⟨some 147, .bin .mul (.t 144) (.t 146), none⟩, ⟨some 13, .mv (.t 147), none⟩]) (.seq (.reg [⟨some 148, .mv (.t 13), none⟩, ⟨some 149, .mv (.t 16), none⟩, ⟨some 150, .wrp .u64 (.t 149), none⟩, ⟨some 151, .bin .add (.t 148) (.t 150), none⟩, ⟨some 17, .mv (.t 151), none⟩]) (.seq (.seq (.reg [⟨some 152, .mv (.t 17), none⟩, ⟨some 153, .mv (.t 13), none⟩, ⟨some 154, .bin .lss (.t 152) (.t 153), none⟩, ⟨some 155, .mv (.t 154), none⟩, ⟨some 156, .mv (.t 17), some (155, false)⟩, ⟨some 157, .mv (.t 11), some (155, false)⟩, ⟨some 158, .bin .gtr (.t 156) (.t 157), some (155, false)⟩, ⟨some 159, .pick (.t 155) (.c (.bool true)) (.t 158), none⟩]) (.cond (.t 159) (.seq (.reg [⟨some 160, .mv (.t 11), none⟩, ⟨some 161, .mi 208 (.c (.int .i64 1)), none⟩, ⟨some 6, .mv (.t 160), none⟩, ⟨some 7, .mv (.t 161), none⟩]) (.ret)) (.skip))) (.reg [⟨some 162, .mv (.t 17), none⟩, ⟨some 13, .mv (.t 162), none⟩])))))))))) (.reg [⟨some 163, .bin .add (.t 101) (.c (.int .i64 1)), none⟩, ⟨some 101, .mv (.t 163), none⟩]))))))) (.seq (.seq (.reg [⟨some 164, .mv (.t 12), none⟩, ⟨some 165, .mv (.t 164), none⟩, ⟨some 166, .mv (.t 9), some (165, true)⟩, ⟨some 167, .call 186 [(.t 166)], some (165, true)⟩, ⟨some 168, .not (.t 167), some (165, true)⟩, ⟨some 169, .pick (.t 165) (.t 168) (.c (.bool false)), none⟩]) (.cond (.t 169) (.seq (.reg [⟨some 170, .mi 208 (.c (.int .i64 2)), none⟩, ⟨some 6, .mv (.c (.int .u64 0)), none⟩, ⟨some 7, .mv (.t 170), none⟩]) (.ret)) (.skip))) (.seq (.reg [⟨some 171, .mv (.t 13), none⟩, ⟨some 6, .mv (.t 171), none⟩, ⟨some 7, .mv (.c (.nili)), none⟩]) (.ret)))))))))))))), res := [(6, none), (7, none)] }
def c174 : VF := { code := .seq (.reg [⟨some 2, .mv (.c (.str [])), none⟩]) (.seq (.seq (.reg [⟨some 4, .mv (.t 0), none⟩, ⟨some 5, .len true (.t 4), none⟩, ⟨some 6, .bin .eql (.t 5) (.c (.int .i64 0)), none⟩]) (.cond (.t 6) (.seq (.reg [⟨some 2, .mv (.c (.str [])), none⟩]) (.ret)) (.skip))) (.seq (.reg [⟨some 7, .mv (.t 0), none⟩, ⟨some 8, .len true (.t 7), none⟩, ⟨some 9, .bad, none⟩, ⟨some 3, .mv (.t 9), none⟩]) (.seq (.reg [⟨some 10, .mv (.t 3), none⟩, ⟨some 11, .mv (.t 0), none⟩, ⟨some 12, .bad, none⟩]) (.seq (.reg [⟨some 13, .mv (.t 3), none⟩, ⟨some 14, .ia none 1 (.t 13) (.c (.int .i64 0)), none⟩, ⟨some 15, .mv (.t 3), none⟩, ⟨some 16, .len false (.t 15), none⟩, ⟨some 17, .bad, none⟩, ⟨some 2, .mv (.t 17), none⟩]) (.ret))))), res := [(2, none)] }
def c175 : VF := { code := .seq (.reg [⟨some 2, .mv (.c (.nili)), none⟩]) (.seq (.reg [⟨some 3, .mv (.t 0), none⟩, ⟨some 4, .bd [.str []] [(0, 1, (.t 3))], none⟩, ⟨some 5, .bx (.t 4) [], none⟩, ⟨some 6, .mi 244 (.t 5), none⟩, ⟨some 2, .mv (.t 6), none⟩]) (.ret)), res := [(2, none)] }
def c176 : VF := { code := .seq (.reg [⟨some 4, .mv (.c (.str [])), none⟩]) (.seq (.seq (.reg [⟨some 10, .mv (.t 1), none⟩, ⟨some 11, .bin .eql (.t 10) (.c (.int .i64 10)), none⟩]) (.cond (.t 11) (.seq (.seq (.reg [⟨some 12, .mv (.t 0), none⟩, ⟨some 13, .bin .leq (.c (.int .i64 0)) (.t 12), none⟩, ⟨some 14, .mv (.t 13), none⟩, ⟨some 15, .mv (.t 0), some (14, true)⟩, ⟨some 16, .bin .lss (.t 15) (.c (.int .i64 100)), some (14, true)⟩, ⟨some 17, .pick (.t 14) (.t 16) (.c (.bool false)), none⟩]) (.cond (.t 17) (.seq (.reg [⟨some 18, .mv (.t 0), none⟩, ⟨some 19, .call 187 [(.t 18)], none⟩, ⟨some 4, .mv (.t 19), none⟩]) (.ret)) (.skip))) (.seq (.reg [⟨some 5, .al [.int .u8 0, .int .u8 0, .int .u8 0, .int .u8 0, .int .u8 0, .int .u8 0, .int .u8 0, .int .u8 0, .int .u8 0, .int .u8 0, .int .u8 0, .int .u8 0, .int .u8 0, .int .u8 0, .int .u8 0, .int .u8 0, .int .u8 0, .int .u8 0, .int .u8 0, .int .u8 0, .int .u8 0, .int .u8 0, .int .u8 0, .int .u8 0] [], none⟩]) (.seq (.reg [⟨some 20, .mv (.t 0), none⟩, ⟨some 21, .wrp .u64 (.t 20), none⟩, ⟨some 6, .mv (.t 21), none⟩]) (.seq (.seq (.reg [⟨some 22, .mv (.t 0), none⟩, ⟨some 23, .bin .lss (.t 22) (.c (.int .i64 0)), none⟩]) (.cond (.t 23) (.reg [⟨some 24, .mv (.t 6), none⟩, ⟨some 25, .neg (.t 24), none⟩, ⟨some 6, .mv (.t 25), none⟩]) (.skip))) (.seq (.reg [⟨some 26, .mv (.t 6), none⟩, ⟨some 27, .call 188 [(.t 26)], none⟩, ⟨some 7, .mv (.t 27), none⟩]) (.seq (.reg [⟨some 28, .mv (.t 7), none⟩, ⟨some 29, .bin .add (.c (.int .i64 1)) (.t 28), none⟩, ⟨some 30, .bad, none⟩, ⟨some 31, .mv (.t 6), none⟩, ⟨some 32, .call 189 [(.t 30), (.t 31)], none⟩]) (.seq (.seq (.reg [⟨some 33, .mv (.t 0), none⟩, ⟨some 34, .bin .lss (.t 33) (.c (.int .i64 0)), none⟩]) (.cond (.t 34) (.seq (.reg [⟨some 35, .ia (some 24) 1 (.t 5) (.c (.int .i64 0)), none⟩, ⟨none, .st false 1 (.t 35) (.c (.int .u8 45)), none⟩]) (.seq (.reg [⟨some 36, .mv (.t 7), none⟩, ⟨some 37, .bin .add (.c (.int .i64 1)) (.t 36), none⟩, ⟨some 38, .bad, none⟩, ⟨some 39, .bad, none⟩, ⟨some 4, .mv (.t 39), none⟩]) (.ret))) (.skip))) (.seq (.reg [⟨some 40, .mv (.t 7), none⟩, ⟨some 41, .bin .add (.c (.int .i64 1)) (.t 40), none⟩, ⟨some 42, .bad, none⟩, ⟨some 43, .bad, none⟩, ⟨some 4, .mv (.t 43), none⟩]) (.ret))))))))) (.skip))) (.seq (.reg [⟨some 45, .mv (.t 0), none⟩, ⟨some 46, .wrp .u64 (.t 45), none⟩, ⟨some 47, .mv (.t 1), none⟩, ⟨some 48, .mv (.t 0), none⟩, ⟨some 49, .bin .lss (.t 48) (.c (.int .i64 0)), none⟩, ⟨some 50, .call 190 [(.c (.sl .ex 1 [])), (.t 46), (.t 47), (.t 49), (.c (.bool false))], none⟩, ⟨some 44, .mv (.t 50), none⟩, ⟨some 51, .ex (.t 44) 0, none⟩, ⟨some 52, .ex (.t 44) 1, none⟩, ⟨some 8, .mv (.t 51), none⟩, ⟨some 9, .mv (.t 52), none⟩]) (.seq (.reg [⟨some 53, .mv (.t 9), none⟩, ⟨some 4, .mv (.t 53), none⟩]) (.ret)))), res := [(4, none)] }
def c177 : VF := { code := .seq (.reg [⟨some 2, .mv (.c (.bool false)), none⟩]) (.seq (.reg [⟨some 3, .mv (.t 0), none⟩, ⟨some 4, .bin .geq (.t 3) (.c (.int .u8 97)), none⟩, ⟨some 5, .mv (.t 4), none⟩, ⟨some 6, .mv (.t 0), some (5, true)⟩, ⟨some 7, .bin .leq (.t 6) (.c (.int .u8 122)), some (5, true)⟩, ⟨some 8, .pick (.t 5) (.t 7) (.c (.bool false)), none⟩, ⟨some 9, .mv (.t 8), none⟩, ⟨some 10, .mv (.t 0), some (9, false)⟩, ⟨some 11, .bin .geq (.t 10) (.c (.int .u8 65)), some (9, false)⟩, ⟨some 12, .mv (.t 11), some (9, false)⟩, ⟨some 13, .mv (.t 0), some (12, true)⟩, ⟨some 14, .bin .leq (.t 13) (.c (.int .u8 90)), some (12, true)⟩, ⟨some 15, .pick (.t 12) (.t 14) (.c (.bool false)), some (9, false)⟩, ⟨some 16, .pick (.t 9) (.c (.bool true)) (.t 15), none⟩, ⟨some 17, .mv (.t 16), none⟩, ⟨some 18, .mv (.t 0), some (17, false)⟩, ⟨some 19, .bin .geq (.t 18) (.c (.int .u8 48)), some (17, false)⟩, ⟨some 20, .mv (.t 19), some (17, false)⟩, ⟨some 21, .mv (.t 0), some (20, true)⟩, ⟨some 22, .bin .leq (.t 21) (.c (.int .u8 57)), some (20, true)⟩, ⟨some 23, .pick (.t 20) (.t 22) (.c (.bool false)), some (17, false)⟩, ⟨some 24, .pick (.t 17) (.c (.bool true)) (.t 23), none⟩, ⟨some 25, .mv (.t 24), none⟩, ⟨some 26, .mv (.t 0), some (25, false)⟩, ⟨some 27, .bin .eql (.t 26) (.c (.int .u8 95)), some (25, false)⟩, ⟨some 28, .pick (.t 25) (.c (.bool true)) (.t 27), none⟩, ⟨some 2, .mv (.t 28), none⟩]) (.ret)), res := [(2, none)] }
def c178 : VF := { code := .seq (.reg [⟨some 4, .mv (.c (.int .u64 0)), none⟩, ⟨some 5, .mv (.c (.int .u64 0)), none⟩]) (.seq (.reg [⟨some 14, .mv (.t 0), none⟩, ⟨some 15, .bin .and (.t 14) (.c (.int .u64 4294967295)), none⟩, ⟨some 6, .mv (.t 15), none⟩]) (.seq (.reg [⟨some 16, .mv (.t 0), none⟩, ⟨some 17, .bin .shr (.t 16) (.c (.int .u64 32)), none⟩, ⟨some 7, .mv (.t 17), none⟩]) (.seq (.reg [⟨some 18, .mv (.t 1), none⟩, ⟨some 19, .bin .and (.t 18) (.c (.int .u64 4294967295)), none⟩, ⟨some 8, .mv (.t 19), none⟩]) (.seq (.reg [⟨some 20, .mv (.t 1), none⟩, ⟨some 21, .bin .shr (.t 20) (.c (.int .u64 32)), none⟩, ⟨some 9, .mv (.t 21), none⟩]) (.seq (.reg [⟨some 22, .mv (.t 6), none⟩, ⟨some 23, .mv (.t 8), none⟩, ⟨some 24, .bin .mul (.t 22) (.t 23), none⟩, ⟨some 10, .mv (.t 24), none⟩]) (.seq (.reg [⟨some 25, .mv (.t 7), none⟩, ⟨some 26, .mv (.t 8), none⟩, ⟨some 27, .bin .mul (.t 25) (.t 26), none⟩, ⟨some 28, .mv (.t 10), none⟩, ⟨some 29, .bin .shr (.t 28) (.c (.int .u64 32)), none⟩, ⟨some 30, .bin .add (.t 27) (.t 29), none⟩, ⟨some 11, .mv (.t 30), none⟩]) (.seq (.reg [⟨some 31, .mv (.t 11), none⟩, ⟨some 32, .bin .and (.t 31) (.c (.int .u64 4294967295)), none⟩, ⟨some 12, .mv (.t 32), none⟩]) (.seq (.reg [⟨some 33, .mv (.t 11), none⟩, ⟨some 34, .bin .shr (.t 33) (.c (.int .u64 32)), none⟩, ⟨some 13, .mv (.t 34), none⟩]) (.seq (.reg [⟨some 35, .mv (.t 12), none⟩, ⟨some 36, .mv (.t 6), none⟩, ⟨some 37, .mv (.t 9), none⟩, ⟨some 38, .bin .mul (.t 36) (.t 37), none⟩, ⟨some 39, .bin .add (.t 35) (.t 38), none⟩, ⟨some 12, .mv (.t 39), none⟩]) (.seq (.reg [⟨some 40, .mv (.t 7), none⟩, ⟨some 41, .mv (.t 9), none⟩, ⟨some 42, .bin .mul (.t 40) (.t 41), none⟩, ⟨some 43, .mv (.t 13), none⟩, ⟨some 44, .bin .add (.t 42) (.t 43), none⟩, ⟨some 45, .mv (.t 12), none⟩, ⟨some 46, .bin .shr (.t 45) (.c (.int .u64 32)), none⟩, ⟨some 47, .bin .add (.t 44) (.t 46), none⟩, ⟨some 4, .mv (.t 47), none⟩]) (.seq (.reg [⟨some 48, .mv (.t 0), none⟩, ⟨some 49, .mv (.t 1), none⟩, ⟨some 50, .bin .mul (.t 48) (.t 49), none⟩, ⟨some 5, .mv (.t 50), none⟩]) (.ret)))))))))))), res := [(4, none), (5, none)] }
def c179 : VF := { code := .seq (.reg [⟨some 2, .mv (.c (.int .u64 0)), none⟩]) (.seq (.seq (.reg [⟨some 3, .mv (.t 0), none⟩, ⟨some 4, .bin .lss (.t 3) (.c (.int .i64 0)), none⟩]) (.cond (.t 4) (.seq (.reg [⟨some 5, .mv (.t 0), none⟩, ⟨some 6, .neg (.t 5), none⟩, ⟨some 7, .wrp .u64 (.t 6), none⟩, ⟨some 2, .mv (.t 7), none⟩]) (.ret)) (.skip))) (.seq (.reg [⟨some 8, .mv (.t 0), none⟩, ⟨some 9, .wrp .u64 (.t 8), none⟩, ⟨some 2, .mv (.t 9), none⟩]) (.ret))), res := [(2, none)] }
def c180 : VF := { code := .seq (.reg [⟨some 4, .nm 4, none⟩]) (.seq (.seq (.reg [⟨some 5, .mv (.t 1), none⟩, ⟨some 6, .bin .lss (.t 5) (.c (.int .i64 0)), none⟩]) (.cond (.t 6) (.reg [⟨some 7, .mi 9 (.c (.str [99, 97, 110, 110, 111, 116, 32, 98, 101, 32, 110, 101, 103, 97, 116, 105, 118, 101])), none⟩, ⟨none, .bad, none⟩]) (.skip))) (.seq (.seq (.reg [⟨some 8, .mv (.t 1), none⟩, ⟨some 9, .mv (.t 0), none⟩, ⟨some 10, .cap (.t 9), none⟩, ⟨some 11, .mv (.t 0), none⟩, ⟨some 12, .len false (.t 11), none⟩, ⟨some 13, .bin .sub (.t 10) (.t 12), none⟩, ⟨some 14, .bin .sub (.t 8) (.t 13), none⟩, ⟨some 1, .mv (.t 14), none⟩]) (.seq (.reg [⟨some 15, .mv (.t 1), none⟩, ⟨some 16, .bin .gtr (.t 15) (.c (.int .i64 0)), none⟩]) (.cond (.t 16) (.reg [⟨some 17, .mv (.t 0), none⟩, ⟨some 18, .mv (.t 0), none⟩, ⟨some 19, .cap (.t 18), none⟩, ⟨some 20, .cut false 4 (.t 17) none (some (.t 19)) none, none⟩, ⟨some 21, .mv (.t 1), none⟩, ⟨some 22, .az true [.str [], .int .i64 0, .int .i64 0, .str []] (.t 20) (.t 21), none⟩, ⟨some 23, .mv (.t 0), none⟩, ⟨some 24, .len false (.t 23), none⟩, ⟨some 25, .cut false 4 (.t 22) none (some (.t 24)) none, none⟩, ⟨some 0, .mv (.t 25), none⟩]) (.skip)))) (.seq (.reg [⟨some 26, .mv (.t 0), none⟩, ⟨some 4, .mv (.t 26), none⟩]) (.ret)))), res := [(4, none)], keepR := true }
def c181 : VF := { code := .seq (.reg [⟨some 6, .mv (.c (.int .i64 20)), none⟩]) (.seq (.reg [⟨some 10, .mv (.t 6), none⟩, ⟨some 7, .mv (.c (.int .i64 0)), none⟩, ⟨some 8, .mv (.t 10), none⟩]) (.seq (.block 0 (.loop [0, 1, 2, 6, 7, 8] (.seq (.seq (.reg [⟨some 11, .mv (.t 8), none⟩, ⟨some 12, .mv (.t 1), none⟩, ⟨some 13, .bin .leq (.t 11) (.t 12), none⟩]) (.cond (.t 13) (.skip) (.exit 0))) (.block 1 (.seq (.reg [⟨some 14, .mv (.t 0), none⟩, ⟨some 15, .mv (.t 7), none⟩, ⟨some 16, .mv (.t 8), none⟩, ⟨some 17, .mv (.t 2), none⟩, ⟨some 18, .call 191 [(.t 14), (.t 15), (.t 16), (.t 17)], none⟩]) (.seq (.reg [⟨some 19, .mv (.t 8), none⟩, ⟨some 7, .mv (.t 19), none⟩]) (.reg [⟨some 20, .mv (.t 8), none⟩, ⟨some 21, .mv (.t 6), none⟩, ⟨some 22, .bin .add (.t 20) (.t 21), none⟩, ⟨some 8, .mv (.t 22), none⟩]))))))) (.seq (.reg [⟨some 23, .mv (.t 0), none⟩, ⟨some 24, .mv (.t 7), none⟩, ⟨some 25, .mv (.t 1), none⟩, ⟨some 26, .mv (.t 2), none⟩, ⟨some 27, .call 191 [(.t 23), (.t 24), (.t 25), (.t 26)], none⟩]) (.block 2 (.loop [0, 1, 2, 6] (.seq (.seq (.reg [⟨some 28, .mv (.t 6), none⟩, ⟨some 29, .mv (.t 1), none⟩, ⟨some 30, .bin .lss (.t 28) (.t 29), none⟩]) (.cond (.t 30) (.skip) (.exit 2))) (.block 3 (.seq (.reg [⟨some 31, .mv (.t 6), none⟩, ⟨some 32, .bin .mul (.c (.int .i64 2)) (.t 31), none⟩, ⟨some 7, .mv (.c (.int .i64 0)), none⟩, ⟨some 8, .mv (.t 32), none⟩]) (.seq (.block 4 (.loop [0, 1, 2, 6, 7, 8] (.seq (.seq (.reg [⟨some 33, .mv (.t 8), none⟩, ⟨some 34, .mv (.t 1), none⟩, ⟨some 35, .bin .leq (.t 33) (.t 34), none⟩]) (.cond (.t 35) (.skip) (.exit 4))) (.block 5 (.seq (.reg [⟨some 36, .mv (.t 0), none⟩, ⟨some 37, .mv (.t 7), none⟩, ⟨some 38, .mv (.t 7), none⟩, ⟨some 39, .mv (.t 6), none⟩, ⟨some 40, .bin .add (.t 38) (.t 39), none⟩, ⟨some 41, .mv (.t 8), none⟩, ⟨some 42, .mv (.t 2), none⟩, ⟨some 43, .call 192 [(.t 36), (.t 37), (.t 40), (.t 41), (.t 42)], none⟩]) (.seq (.reg [⟨some 44, .mv (.t 8), none⟩, ⟨some 7, .mv (.t 44), none⟩]) (.reg [⟨some 45, .mv (.t 8), none⟩, ⟨some 46, .mv (.t 6), none⟩, ⟨some 47, .bin .mul (.c (.int .i64 2)) (.t 46), none⟩, ⟨some 48, .bin .add (.t 45) (.t 47), none⟩, ⟨some 8, .mv (.t 48), none⟩]))))))) (.seq (.seq (.reg [⟨some 49, .mv (.t 7), none⟩, ⟨some 50, .mv (.t 6), none⟩, ⟨some 51, .bin .add (.t 49) (.t 50), none⟩, ⟨some 9, .mv (.t 51), none⟩]) (.seq (.reg [⟨some 52, .mv (.t 9), none⟩, ⟨some 53, .mv (.t 1), none⟩, ⟨some 54, .bin .lss (.t 52) (.t 53), none⟩]) (.cond (.t 54) (.reg [⟨some 55, .mv (.t 0), none⟩, ⟨some 56, .mv (.t 7), none⟩, ⟨some 57, .mv (.t 9), none⟩, ⟨some 58, .mv (.t 1), none⟩, ⟨some 59, .mv (.t 2), none⟩, ⟨some 60, .call 192 [(.t 55), (.t 56), (.t 57), (.t 58), (.t 59)], none⟩]) (.skip)))) (.reg [⟨some 61, .mv (.t 6), none⟩, ⟨some 62, .bin .mul (.t 61) (.c (.int .i64 2)), none⟩, ⟨some 6, .mv (.t 62), none⟩]))))))))))), res := [] }
def c182 : VF := { code := .seq (.reg [⟨some 2, .mv (.c (.bool false)), none⟩]) (.seq (.block 0 (.seq (.reg [⟨some 4, .mv (.t 0), none⟩, ⟨some 5, .bin .leq (.c (.int .i32 0)) (.t 4), none⟩, ⟨some 6, .mv (.t 5), none⟩, ⟨some 7, .mv (.t 0), some (6, true)⟩, ⟨some 8, .bin .lss (.t 7) (.c (.int .i32 55296)), some (6, true)⟩, ⟨some 9, .pick (.t 6) (.t 8) (.c (.bool false)), none⟩, ⟨some 3, .mv (.t 9), none⟩]) (.cond (.t 3) (.seq (.reg [⟨some 2, .mv (.c (.bool true)), none⟩]) (.ret)) (.seq (.reg [⟨some 11, .mv (.t 0), none⟩, ⟨some 12, .bin .lss (.c (.int .i32 57343)) (.t 11), none⟩, ⟨some 13, .mv (.t 12), none⟩, ⟨some 14, .mv (.t 0), some (13, true)⟩, ⟨some 15, .bin .leq (.t 14) (.c (.int .i32 1114111)), some (13, true)⟩, ⟨some 16, .pick (.t 13) (.t 15) (.c (.bool false)), none⟩, ⟨some 10, .mv (.t 16), none⟩]) (.cond (.t 10) (.seq (.reg [⟨some 2, .mv (.c (.bool true)), none⟩]) (.ret)) (.skip)))))) (.seq (.reg [⟨some 2, .mv (.c (.bool false)), none⟩]) (.ret))), res := [(2, none)] }
def c183 : VF := { code := .seq (.reg [⟨some 2, .mv (.c (.int .i64 0)), none⟩]) (.seq (.reg [⟨some 3, .mv (.t 0), none⟩, ⟨some 4, .bin .add (.t 3) (.c (.int .i64 16)), none⟩, ⟨some 5, .bin .quo (.t 4) (.c (.int .i64 8)), none⟩, ⟨some 2, .mv (.t 5), none⟩]) (.ret)), res := [(2, none)] }
def c185 : VF := { code := .seq (.reg [⟨some 2, .mv (.c (.int .u8 0)), none⟩]) (.seq (.reg [⟨some 3, .mv (.t 0), none⟩, ⟨some 4, .bin .or (.t 3) (.c (.int .u8 32)), none⟩, ⟨some 2, .mv (.t 4), none⟩]) (.ret)), res := [(2, none)] }
def c186 : VF := { code := .seq (.reg [⟨some 2, .mv (.c (.bool false)), none⟩]) (.seq (.reg [⟨some 3, .mv (.c (.int .i32 94)), none⟩]) (.seq (.reg [⟨some 4, .mv (.c (.int .i64 0)), none⟩]) (.seq (.seq (.reg [⟨some 6, .mv (.t 0), none⟩, ⟨some 7, .len true (.t 6), none⟩, ⟨some 8, .bin .geq (.t 7) (.c (.int .i64 1)), none⟩, ⟨some 9, .mv (.t 8), none⟩, ⟨some 10, .mv (.t 0), some (9, true)⟩, ⟨some 11, .ix (.t 10) (.c (.int .i64 0)), some (9, true)⟩, ⟨some 12, .bin .eql (.t 11) (.c (.int .u8 45)), some (9, true)⟩, ⟨some 13, .mv (.t 12), some (9, true)⟩, ⟨some 14, .mv (.t 0), some (13, false)⟩, ⟨some 15, .ix (.t 14) (.c (.int .i64 0)), some (13, false)⟩, ⟨some 16, .bin .eql (.t 15) (.c (.int .u8 43)), some (13, false)⟩, ⟨some 17, .pick (.t 13) (.c (.bool true)) (.t 16), some (9, true)⟩, ⟨some 18, .pick (.t 9) (.t 17) (.c (.bool false)), none⟩]) (.cond (.t 18) (.reg [⟨some 19, .mv (.t 0), none⟩, ⟨some 20, .cut true 1 (.t 19) (some (.c (.int .i64 1))) none none, none⟩, ⟨some 0, .mv (.t 20), none⟩]) (.skip))) (.seq (.reg [⟨some 5, .mv (.c (.bool false)), none⟩]) (.seq (.seq (.reg [⟨some 21, .mv (.t 0), none⟩, ⟨some 22, .len true (.t 21), none⟩, ⟨some 23, .bin .geq (.t 22) (.c (.int .i64 2)), none⟩, ⟨some 24, .mv (.t 23), none⟩, ⟨some 25, .mv (.t 0), some (24, true)⟩, ⟨some 26, .ix (.t 25) (.c (.int .i64 0)), some (24, true)⟩, ⟨some 27, .bin .eql (.t 26) (.c (.int .u8 48)), some (24, true)⟩, ⟨some 28, .pick (.t 24) (.t 27) (.c (.bool false)), none⟩, ⟨some 29, .mv (.t 28), none⟩, ⟨some 30, .mv (.t 0), some (29, true)⟩, ⟨some 31, .ix (.t 30) (.c (.int .i64 1)), some (29, true)⟩, ⟨some 32, .call 185 [(.t 31)], some (29, true)⟩, ⟨some 33, .bin .eql (.t 32) (.c (.int .u8 98)), some (29, true)⟩, ⟨some 34, .mv (.t 33), some (29, true)⟩, ⟨some 35, .mv (.t 0), some (34, false)⟩, ⟨some 36, .ix (.t 35) (.c (.int .i64 1)), some (34, false)⟩, ⟨some 37, .call 185 [(.t 36)], some (34, false)⟩, ⟨some 38, .bin .eql (.t 37) (.c (.int .u8 111)), some (34, false)⟩, ⟨some 39, .pick (.t 34) (.c (.bool true)) (.t 38), some (29, true)⟩, ⟨some 40, .mv (.t 39), some (29, true)⟩, ⟨some 41, .mv (.t 0), some (40, false)⟩, ⟨some 42, .ix (.t 41) (.c (.int .i64 1)), some (40, false)⟩, ⟨some 43, .call 185 [(.t 42)], some (40, false)⟩, ⟨some 44, .bin .eql (.t 43) (.c (.int .u8 120)), some (40, false)⟩, ⟨some 45, .pick (.t 40) (.c (.bool true)) (.t 44), some (29, true)⟩, ⟨some 46, .pick (.t 29) (.t 45) (.c (.bool false)), none⟩]) (.cond (.t 46) (.seq (.reg [⟨some 4, .mv (.c (.int .i64 2)), none⟩]) (.seq (.reg [⟨some 3, .mv (.c (.int .i32 48)), none⟩]) (.reg [⟨some 47, .mv (.t 0), none⟩, ⟨some 48, .ix (.t 47) (.c (.int .i64 1)), none⟩, ⟨some 49, .call 185 [(.t 48)], none⟩, ⟨some 50, .bin .eql (.t 49) (.c (.int .u8 120)), none⟩, ⟨some 5, .mv (.t 50), none⟩]))) (.skip))) (.seq (.block 0 (.loop [0, 3, 4, 5] (.seq (.seq (.reg [⟨some 51, .mv (.t 4), none⟩, ⟨some 52, .mv (.t 0), none⟩, ⟨some 53, .len true (.t 52), none⟩, ⟨some 54, .bin .lss (.t 51) (.t 53), none⟩]) (.cond (.t 54) (.skip) (.exit 0))) (.seq (.block 1 (.seq (.seq (.reg [⟨some 57, .mv (.t 0), none⟩, ⟨some 58, .mv (.t 4), none⟩, ⟨some 59, .ix (.t 57) (.t 58), none⟩, ⟨some 60, .bin .leq (.c (.int .u8 48)) (.t 59), none⟩, ⟨some 61, .mv (.t 60), none⟩, ⟨some 62, .mv (.t 0), some (61, true)⟩, ⟨some 63, .mv (.t 4), some (61, true)⟩, ⟨some 64, .ix (.t 62) (.t 63), some (61, true)⟩, ⟨some 65, .bin .leq (.t 64) (.c (.int .u8 57)), some (61, true)⟩, ⟨some 66, .pick (.t 61) (.t 65) (.c (.bool false)), none⟩, ⟨some 67, .mv (.t 66), none⟩, ⟨some 68, .mv (.t 5), some (67, false)⟩, ⟨some 69, .mv (.t 68), some (67, false)⟩, ⟨some 70, .mv (.t 0), some (69, true)⟩, ⟨some 71, .mv (.t 4), some (69, true)⟩, ⟨some 72, .ix (.t 70) (.t 71), some (69, true)⟩, ⟨some 73, .call 185 [(.t 72)], some (69, true)⟩, ⟨some 74, .bin .leq (.c (.int .u8 97)) (.t 73), some (69, true)⟩, ⟨some 75, .pick (.t 69) (.t 74) (.c (.bool false)), some (67, false)⟩, ⟨some 76, .mv (.t 75), some (67, false)⟩, ⟨some 77, .mv (.t 0), some (76, true)⟩, ⟨some 78, .mv (.t 4), some (76, true)⟩, ⟨some 79, .ix (.t 77) (.t 78), some (76, true)⟩, ⟨some 80, .call 185 [(.t 79)], some (76, true)⟩, ⟨some 81, .bin .leq (.t 80) (.c (.int .u8 102)), some (76, true)⟩, ⟨some 82, .pick (.t 76) (.t 81) (.c (.bool false)), some (67, false)⟩, ⟨some 83, .pick (.t 67) (.c (.bool true)) (.t 82), none⟩]) (.cond (.t 83) (.seq (.reg [⟨some 3, .mv (.c (.int .i32 48)), none⟩]) (.exit 1)) (.skip))) (.seq (.seq (.reg [⟨some 84, .mv (.t 0), none⟩, ⟨some 85, .mv (.t 4), none⟩, ⟨some 86, .ix (.t 84) (.t 85), none⟩, ⟨some 87, .bin .eql (.t 86) (.c (.int .u8 95)), none⟩]) (.cond (.t 87) (.seq (.seq (.reg [⟨some 88, .mv (.t 3), none⟩, ⟨some 89, .bin .neq (.t 88) (.c (.int .i32 48)), none⟩]) (.cond (.t 89) (.seq (.reg [⟨some 2, .mv (.c (.bool false)), none⟩]) (.ret)) (.skip))) (.seq (.reg [⟨some 3, .mv (.c (.int .i32 95)), none⟩]) (.exit 1))) (.skip))) (.seq (.seq (.reg [⟨some 90, .mv (.t 3), none⟩, ⟨some 91, .bin .eql (.t 90) (.c (.int .i32 95)), none⟩]) (.cond (.t 91) (.seq (.reg [⟨some 2, .mv (.c (.bool false)), none⟩]) (.ret)) (.skip))) (.reg [⟨some 3, .mv (.c (.int .i32 33)), none⟩]))))) (.reg [⟨some 55, .mv (.t 4), none⟩, ⟨some 56, .bin .add (.t 55) (.c (.int .i64 1)), none⟩, ⟨some 4, .mv (.t 56), none⟩]))))) (.seq (.reg [⟨some 92, .mv (.t 3), none⟩, ⟨some 93, .bin .neq (.t 92) (.c (.int .i32 95)), none⟩, ⟨some 2, .mv (.t 93), none⟩]) (.ret)))))))), res := [(2, none)] }
def c187 : VF := { code := .seq (.reg [⟨some 2, .mv (.c (.str [])), none⟩]) (.seq (.seq (.reg [⟨some 3, .mv (.t 0), none⟩, ⟨some 4, .bin .lss (.t 3) (.c (.int .i64 10)), none⟩]) (.cond (.t 4) (.seq (.reg [⟨some 5, .mv (.t 0), none⟩, ⟨some 6, .mv (.t 0), none⟩, ⟨some 7, .bin .add (.t 6) (.c (.int .i64 1)), none⟩, ⟨some 8, .cut true 1 (.c (.str [48, 49, 50, 51, 52, 53, 54, 55, 56, 57, 97, 98, 99, 100, 101, 102, 103, 104, 105, 106, 107, 108, 109, 110, 111, 112, 113, 114, 115, 116, 117, 118, 119, 120, 121, 122])) (some (.t 5)) (some (.t 7)) none, none⟩, ⟨some 2, .mv (.t 8), none⟩]) (.ret)) (.skip))) (.seq (.reg [⟨some 9, .mv (.t 0), none⟩, ⟨some 10, .bin .mul (.t 9) (.c (.int .i64 2)), none⟩, ⟨some 11, .mv (.t 0), none⟩, ⟨some 12, .bin .mul (.t 11) (.c (.int .i64 2)), none⟩, ⟨some 13, .bin .add (.t 12) (.c (.int .i64 2)), none⟩, ⟨some 14, .cut true 1 (.c (.str [48, 48, 48, 49, 48, 50, 48, 51, 48, 52, 48, 53, 48, 54, 48, 55, 48, 56, 48, 57, 49, 48, 49, 49, 49, 50, 49, 51, 49, 52, 49, 53, 49, 54, 49, 55, 49, 56, 49, 57, 50, 48, 50, 49, 50, 50, 50, 51, 50, 52, 50, 53, 50, 54, 50, 55, 50, 56, 50, 57, 51, 48, 51, 49, 51, 50, 51, 51, 51, 52, 51, 53, 51, 54, 51, 55, 51, 56, 51, 57, 52, 48, 52, 49, 52, 50, 52, 51, 52, 52, 52, 53, 52, 54, 52, 55, 52, 56, 52, 57, 53, 48, 53, 49, 53, 50, 53, 51, 53, 52, 53, 53, 53, 54, 53, 55, 53, 56, 53, 57, 54, 48, 54, 49, 54, 50, 54, 51, 54, 52, 54, 53, 54, 54, 54, 55, 54, 56, 54, 57, 55, 48, 55, 49, 55, 50, 55, 51, 55, 52, 55, 53, 55, 54, 55, 55, 55, 56, 55, 57, 56, 48, 56, 49, 56, 50, 56, 51, 56, 52, 56, 53, 56, 54, 56, 55, 56, 56, 56, 57, 57, 48, 57, 49, 57, 50, 57, 51, 57, 52, 57, 53, 57, 54, 57, 55, 57, 56, 57, 57])) (some (.t 10)) (some (.t 13)) none, none⟩, ⟨some 2, .mv (.t 14), none⟩]) (.ret))), res := [(2, none)] }
def c188 : VF := { code := .seq (.reg [⟨some 2, .mv (.c (.int .i64 0)), none⟩]) (.seq (.reg [⟨some 4, .mv (.t 0), none⟩, ⟨some 5, .call 194 [(.t 4)], none⟩, ⟨some 6, .call 193 [(.t 5)], none⟩, ⟨some 3, .mv (.t 6), none⟩]) (.seq (.reg [⟨some 7, .mv (.t 3), none⟩, ⟨some 8, .mv (.t 0), none⟩, ⟨some 9, .mv (.t 3), none⟩, ⟨some 10, .bad, none⟩, ⟨some 11, .ld false 1 (.t 10), none⟩, ⟨some 12, .bin .geq (.t 8) (.t 11), none⟩, ⟨some 13, .call 195 [(.t 12)], none⟩, ⟨some 14, .bin .add (.t 7) (.t 13), none⟩, ⟨some 2, .mv (.t 14), none⟩]) (.ret))), res := [(2, none)] }
def c189 : VF := { code := .seq (.reg [⟨some 17, .mv (.t 0), none⟩, ⟨some 18, .len false (.t 17), none⟩, ⟨some 4, .mv (.t 18), none⟩]) (.seq (.block 0 (.loop [0, 1, 4] (.seq (.seq (.reg [⟨some 19, .mv (.t 4), none⟩, ⟨some 20, .bin .geq (.t 19) (.c (.int .i64 8)), none⟩]) (.cond (.t 20) (.skip) (.exit 0))) (.block 1 (.seq (.reg [⟨some 21, .mv (.t 1), none⟩, ⟨some 22, .bin .rem (.t 21) (.c (.int .u64 100000000)), none⟩, ⟨some 23, .wrp .u32 (.t 22), none⟩, ⟨some 5, .mv (.t 23), none⟩]) (.seq (.reg [⟨some 24, .mv (.t 1), none⟩, ⟨some 25, .bin .quo (.t 24) (.c (.int .u64 100000000)), none⟩, ⟨some 1, .mv (.t 25), none⟩]) (.seq (.reg [⟨some 26, .mv (.t 5), none⟩, ⟨some 27, .bin .quo (.t 26) (.c (.int .u32 10000)), none⟩, ⟨some 28, .mv (.t 5), none⟩, ⟨some 29, .bin .rem (.t 28) (.c (.int .u32 10000)), none⟩, ⟨some 6, .mv (.t 27), none⟩, ⟨some 7, .mv (.t 29), none⟩]) (.seq (.reg [⟨some 30, .mv (.t 7), none⟩, ⟨some 31, .bin .quo (.t 30) (.c (.int .u32 100)), none⟩, ⟨some 32, .bin .mul (.t 31) (.c (.int .u32 2)), none⟩, ⟨some 33, .mv (.t 7), none⟩, ⟨some 34, .bin .rem (.t 33) (.c (.int .u32 100)), none⟩, ⟨some 35, .bin .mul (.t 34) (.c (.int .u32 2)), none⟩, ⟨some 8, .mv (.t 32), none⟩, ⟨some 9, .mv (.t 35), none⟩]) (.seq (.reg [⟨some 36, .mv (.t 6), none⟩, ⟨some 37, .bin .quo (.t 36) (.c (.int .u32 100)), none⟩, ⟨some 38, .bin .mul (.t 37) (.c (.int .u32 2)), none⟩, ⟨some 39, .mv (.t 6), none⟩, ⟨some 40, .bin .rem (.t 39) (.c (.int .u32 100)), none⟩, ⟨some 41, .bin .mul (.t 40) (.c (.int .u32 2)), none⟩, ⟨some 10, .mv (.t 38), none⟩, ⟨some 11, .mv (.t 41), none⟩]) (.seq (.drw [⟨0, [], ⟨some 42, .mv (.t 0), none⟩, false, []⟩, ⟨1, [], ⟨some 43, .mv (.t 4), none⟩, false, []⟩, ⟨2, [1], ⟨some 44, .bin .sub (.t 43) (.c (.int .i64 1)), none⟩, false, []⟩, ⟨3, [], ⟨some 45, .mv (.t 0), none⟩, false, []⟩, ⟨4, [], ⟨some 46, .mv (.t 4), none⟩, false, []⟩, ⟨5, [4], ⟨some 47, .bin .sub (.t 46) (.c (.int .i64 2)), none⟩, false, []⟩, ⟨6, [], ⟨some 48, .mv (.t 9), none⟩, false, []⟩, ⟨7, [6], ⟨some 49, .bin .add (.t 48) (.c (.int .u32 1)), none⟩, false, []⟩, ⟨8, [6, 7], ⟨some 50, .ix (.c (.str [48, 48, 48, 49, 48, 50, 48, 51, 48, 52, 48, 53, 48, 54, 48, 55, 48, 56, 48, 57, 49, 48, 49, 49, 49, 50, 49, 51, 49, 52, 49, 53, 49, 54, 49, 55, 49, 56, 49, 57, 50, 48, 50, 49, 50, 50, 50, 51, 50, 52, 50, 53, 50, 54, 50, 55, 50, 56, 50, 57, 51, 48, 51, 49, 51, 50, 51, 51, 51, 52, 51, 53, 51, 54, 51, 55, 51, 56, 51, 57, 52, 48, 52, 49, 52, 50, 52, 51, 52, 52, 52, 53, 52, 54, 52, 55, 52, 56, 52, 57, 53, 48, 53, 49, 53, 50, 53, 51, 53, 52, 53, 53, 53, 54, 53, 55, 53, 56, 53, 57, 54, 48, 54, 49, 54, 50, 54, 51, 54, 52, 54, 53, 54, 54, 54, 55, 54, 56, 54, 57, 55, 48, 55, 49, 55, 50, 55, 51, 55, 52, 55, 53, 55, 54, 55, 55, 55, 56, 55, 57, 56, 48, 56, 49, 56, 50, 56, 51, 56, 52, 56, 53, 56, 54, 56, 55, 56, 56, 56, 57, 57, 48, 57, 49, 57, 50, 57, 51, 57, 52, 57, 53, 57, 54, 57, 55, 57, 56, 57, 57])) (.t 49), none⟩, false, []⟩, ⟨9, [], ⟨some 51, .mv (.t 9), none⟩, false, []⟩, ⟨10, [9], ⟨some 52, .ix (.c (.str [48, 48, 48, 49, 48, 50, 48, 51, 48, 52, 48, 53, 48, 54, 48, 55, 48, 56, 48, 57, 49, 48, 49, 49, 49, 50, 49, 51, 49, 52, 49, 53, 49, 54, 49, 55, 49, 56, 49, 57, 50, 48, 50, 49, 50, 50, 50, 51, 50, 52, 50, 53, 50, 54, 50, 55, 50, 56, 50, 57, 51, 48, 51, 49, 51, 50, 51, 51, 51, 52, 51, 53, 51, 54, 51, 55, 51, 56, 51, 57, 52, 48, 52, 49, 52, 50, 52, 51, 52, 52, 52, 53, 52, 54, 52, 55, 52, 56, 52, 57, 53, 48, 53, 49, 53, 50, 53, 51, 53, 52, 53, 53, 53, 54, 53, 55, 53, 56, 53, 57, 54, 48, 54, 49, 54, 50, 54, 51, 54, 52, 54, 53, 54, 54, 54, 55, 54, 56, 54, 57, 55, 48, 55, 49, 55, 50, 55, 51, 55, 52, 55, 53, 55, 54, 55, 55, 55, 56, 55, 57, 56, 48, 56, 49, 56, 50, 56, 51, 56, 52, 56, 53, 56, 54, 56, 55, 56, 56, 56, 57, 57, 48, 57, 49, 57, 50, 57, 51, 57, 52, 57, 53, 57, 54, 57, 55, 57, 56, 57, 57])) (.t 51), none⟩, false, []⟩, ⟨11, [0, 1, 2, 6, 7, 8], ⟨some 53, .ia none 1 (.t 42) (.t 44), none⟩, false, []⟩, ⟨12, [0, 1, 2, 6, 7, 8, 11], ⟨none, .st false 1 (.t 53) (.t 50), none⟩, true, []⟩, ⟨13, [0, 1, 2, 3, 4, 5, 6, 7, 8, 9, 10, 11, 12], ⟨some 54, .ia none 1 (.t 45) (.t 47), none⟩, false, []⟩, ⟨14, [0, 1, 2, 3, 4, 5, 6, 7, 8, 9, 10, 11, 12, 13], ⟨none, .st false 1 (.t 54) (.t 52), none⟩, true, []⟩]) (.seq (.drw [⟨0, [], ⟨some 55, .mv (.t 0), none⟩, false, []⟩, ⟨1, [], ⟨some 56, .mv (.t 4), none⟩, false, []⟩, ⟨2, [1], ⟨some 57, .bin .sub (.t 56) (.c (.int .i64 3)), none⟩, false, []⟩, ⟨3, [], ⟨some 58, .mv (.t 0), none⟩, false, []⟩, ⟨4, [], ⟨some 59, .mv (.t 4), none⟩, false, []⟩, ⟨5, [4], ⟨some 60, .bin .sub (.t 59) (.c (.int .i64 4)), none⟩, false, []⟩, ⟨6, [], ⟨some 61, .mv (.t 8), none⟩, false, []⟩, ⟨7, [6], ⟨some 62, .bin .add (.t 61) (.c (.int .u32 1)), none⟩, false, []⟩, ⟨8, [6, 7], ⟨some 63, .ix (.c (.str [48, 48, 48, 49, 48, 50, 48, 51, 48, 52, 48, 53, 48, 54, 48, 55, 48, 56, 48, 57, 49, 48, 49, 49, 49, 50, 49, 51, 49, 52, 49, 53, 49, 54, 49, 55, 49, 56, 49, 57, 50, 48, 50, 49, 50, 50, 50, 51, 50, 52, 50, 53, 50, 54, 50, 55, 50, 56, 50, 57, 51, 48, 51, 49, 51, 50, 51, 51, 51, 52, 51, 53, 51, 54, 51, 55, 51, 56, 51, 57, 52, 48, 52, 49, 52, 50, 52, 51, 52, 52, 52, 53, 52, 54, 52, 55, 52, 56, 52, 57, 53, 48, 53, 49, 53, 50, 53, 51, 53, 52, 53, 53, 53, 54, 53, 55, 53, 56, 53, 57, 54, 48, 54, 49, 54, 50, 54, 51, 54, 52, 54, 53, 54, 54, 54, 55, 54, 56, 54, 57, 55, 48, 55, 49, 55, 50, 55, 51, 55, 52, 55, 53, 55, 54, 55, 55, 55, 56, 55, 57, 56, 48, 56, 49, 56, 50, 56, 51, 56, 52, 56, 53, 56, 54, 56, 55, 56, 56, 56, 57, 57, 48, 57, 49, 57, 50, 57, 51, 57, 52, 57, 53, 57, 54, 57, 55, 57, 56, 57, 57])) (.t 62), none⟩, false, []⟩, ⟨9, [], ⟨some 64, .mv (.t 8), none⟩, false, []⟩, ⟨10, [9], ⟨some 65, .ix (.c (.str [48, 48, 48, 49, 48, 50, 48, 51, 48, 52, 48, 53, 48, 54, 48, 55, 48, 56, 48, 57, 49, 48, 49, 49, 49, 50, 49, 51, 49, 52, 49, 53, 49, 54, 49, 55, 49, 56, 49, 57, 50, 48, 50, 49, 50, 50, 50, 51, 50, 52, 50, 53, 50, 54, 50, 55, 50, 56, 50, 57, 51, 48, 51, 49, 51, 50, 51, 51, 51, 52, 51, 53, 51, 54, 51, 55, 51, 56, 51, 57, 52, 48, 52, 49, 52, 50, 52, 51, 52, 52, 52, 53, 52, 54, 52, 55, 52, 56, 52, 57, 53, 48, 53, 49, 53, 50, 53, 51, 53, 52, 53, 53, 53, 54, 53, 55, 53, 56, 53, 57, 54, 48, 54, 49, 54, 50, 54, 51, 54, 52, 54, 53, 54, 54, 54, 55, 54, 56, 54, 57, 55, 48, 55, 49, 55, 50, 55, 51, 55, 52, 55, 53, 55, 54, 55, 55, 55, 56, 55, 57, 56, 48, 56, 49, 56, 50, 56, 51, 56, 52, 56, 53, 56, 54, 56, 55, 56, 56, 56, 57, 57, 48, 57, 49, 57, 50, 57, 51, 57, 52, 57, 53, 57, 54, 57, 55, 57, 56, 57, 57])) (.t 64), none⟩, false, []⟩, ⟨11, [0, 1, 2, 6, 7, 8], ⟨some 66, .ia none 1 (.t 55) (.t 57), none⟩, false, []⟩, ⟨12, [0, 1, 2, 6, 7, 8, 11], ⟨none, .st false 1 (.t 66) (.t 63), none⟩, true, []⟩, ⟨13, [0, 1, 2, 3, 4, 5, 6, 7, 8, 9, 10, 11, 12], ⟨some 67, .ia none 1 (.t 58) (.t 60), none⟩, false, []⟩, ⟨14, [0, 1, 2, 3, 4, 5, 6, 7, 8, 9, 10, 11, 12, 13], ⟨none, .st false 1 (.t 67) (.t 65), none⟩, true, []⟩]) (.seq (.drw [⟨0, [], ⟨some 68, .mv (.t 0), none⟩, false, []⟩, ⟨1, [], ⟨some 69, .mv (.t 4), none⟩, false, []⟩, ⟨2, [1], ⟨some 70, .bin .sub (.t 69) (.c (.int .i64 5)), none⟩, false, []⟩, ⟨3, [], ⟨some 71, .mv (.t 0), none⟩, false, []⟩, ⟨4, [], ⟨some 72, .mv (.t 4), none⟩, false, []⟩, ⟨5, [4], ⟨some 73, .bin .sub (.t 72) (.c (.int .i64 6)), none⟩, false, []⟩, ⟨6, [], ⟨some 74, .mv (.t 11), none⟩, false, []⟩, ⟨7, [6], ⟨some 75, .bin .add (.t 74) (.c (.int .u32 1)), none⟩, false, []⟩, ⟨8, [6, 7], ⟨some 76, .ix (.c (.str [48, 48, 48, 49, 48, 50, 48, 51, 48, 52, 48, 53, 48, 54, 48, 55, 48, 56, 48, 57, 49, 48, 49, 49, 49, 50, 49, 51, 49, 52, 49, 53, 49, 54, 49, 55, 49, 56, 49, 57, 50, 48, 50, 49, 50, 50, 50, 51, 50, 52, 50, 53, 50, 54, 50, 55, 50, 56, 50, 57, 51, 48, 51, 49, 51, 50, 51, 51, 51, 52, 51, 53, 51, 54, 51, 55, 51, 56, 51, 57, 52, 48, 52, 49, 52, 50, 52, 51, 52, 52, 52, 53, 52, 54, 52, 55, 52, 56, 52, 57, 53, 48, 53, 49, 53, 50, 53, 51, 53, 52, 53, 53, 53, 54, 53, 55, 53, 56, 53, 57, 54, 48, 54, 49, 54, 50, 54, 51, 54, 52, 54, 53, 54, 54, 54, 55, 54, 56, 54, 57, 55, 48, 55, 49, 55, 50, 55, 51, 55, 52, 55, 53, 55, 54, 55, 55, 55, 56, 55, 57, 56, 48, 56, 49, 56, 50, 56, 51, 56, 52, 56, 53, 56, 54, 56, 55, 56, 56, 56, 57, 57, 48, 57, 49, 57, 50, 57, 51, 57, 52, 57, 53, 57, 54, 57, 55, 57, 56, 57, 57])) (.t 75), none⟩, false, []⟩, ⟨9, [], ⟨some 77, .mv (.t 11), none⟩, false, []⟩, ⟨10, [9], ⟨some 78, .ix (.c (.str [48, 48, 48, 49, 48, 50, 48, 51, 48, 52, 48, 53, 48, 54, 48, 55, 48, 56, 48, 57, 49, 48, 49, 49, 49, 50, 49, 51, 49, 52, 49, 53, 49, 54, 49, 55, 49, 56, 49, 57, 50, 48, 50, 49, 50, 50, 50, 51, 50, 52, 50, 53, 50, 54, 50, 55, 50, 56, 50, 57, 51, 48, 51, 49, 51, 50, 51, 51, 51, 52, 51, 53, 51, 54, 51, 55, 51, 56, 51, 57, 52, 48, 52, 49, 52, 50, 52, 51, 52, 52, 52, 53, 52, 54, 52, 55, 52, 56, 52, 57, 53, 48, 53, 49, 53, 50, 53, 51, 53, 52, 53, 53, 53, 54, 53, 55, 53, 56, 53, 57, 54, 48, 54, 49, 54, 50, 54, 51, 54, 52, 54, 53, 54, 54, 54, 55, 54, 56, 54, 57, 55, 48, 55, 49, 55, 50, 55, 51, 55, 52, 55, 53, 55, 54, 55, 55, 55, 56, 55, 57, 56, 48, 56, 49, 56, 50, 56, 51, 56, 52, 56, 53, 56, 54, 56, 55, 56, 56, 56, 57, 57, 48, 57, 49, 57, 50, 57, 51, 57, 52, 57, 53, 57, 54, 57, 55, 57, 56, 57, 57])) (.t 77), none⟩, false, []⟩, ⟨11, [0, 1, 2, 6, 7, 8], ⟨some 79, .ia none 1 (.t 68) (.t 70), none⟩, false, []⟩, ⟨12, [0, 1, 2, 6, 7, 8, 11], ⟨none, .st false 1 (.t 79) (.t 76), none⟩, true, []⟩, ⟨13, [0, 1, 2, 3, 4, 5, 6, 7, 8, 9, 10, 11, 12], ⟨some 80, .ia none 1 (.t 71) (.t 73), none⟩, false, []⟩, ⟨14, [0, 1, 2, 3, 4, 5, 6, 7, 8, 9, 10, 11, 12, 13], ⟨none, .st false 1 (.t 80) (.t 78), none⟩, true, []⟩]) (.seq (.drw [⟨0, [], ⟨some 81, .mv (.t 0), none⟩, false, []⟩, ⟨1, [], ⟨some 82, .mv (.t 4), none⟩, false, []⟩, ⟨2, [1], ⟨some 83, .bin .sub (.t 82) (.c (.int .i64 7)), none⟩, false, []⟩, ⟨3, [], ⟨some 84, .mv (.t 0), none⟩, false, []⟩, ⟨4, [], ⟨some 85, .mv (.t 4), none⟩, false, []⟩, ⟨5, [4], ⟨some 86, .bin .sub (.t 85) (.c (.int .i64 8)), none⟩, false, []⟩, ⟨6, [], ⟨some 87, .mv (.t 10), none⟩, false, []⟩, ⟨7, [6], ⟨some 88, .bin .add (.t 87) (.c (.int .u32 1)), none⟩, false, []⟩, ⟨8, [6, 7], ⟨some 89, .ix (.c (.str [48, 48, 48, 49, 48, 50, 48, 51, 48, 52, 48, 53, 48, 54, 48, 55, 48, 56, 48, 57, 49, 48, 49, 49, 49, 50, 49, 51, 49, 52, 49, 53, 49, 54, 49, 55, 49, 56, 49, 57, 50, 48, 50, 49, 50, 50, 50, 51, 50, 52, 50, 53, 50, 54, 50, 55, 50, 56, 50, 57, 51, 48, 51, 49, 51, 50, 51, 51, 51, 52, 51, 53, 51, 54, 51, 55, 51, 56, 51, 57, 52, 48, 52, 49, 52, 50, 52, 51, 52, 52, 52, 53, 52, 54, 52, 55, 52, 56, 52, 57, 53, 48, 53, 49, 53, 50, 53, 51, 53, 52, 53, 53, 53, 54, 53, 55, 53, 56, 53, 57, 54, 48, 54, 49, 54, 50, 54, 51, 54, 52, 54, 53, 54, 54, 54, 55, 54, 56, 54, 57, 55, 48, 55, 49, 55, 50, 55, 51, 55, 52, 55, 53, 55, 54, 55, 55, 55, 56, 55, 57, 56, 48, 56, 49, 56, 50, 56, 51, 56, 52, 56, 53, 56, 54, 56, 55, 56, 56, 56, 57, 57, 48, 57, 49, 57, 50, 57, 51, 57, 52, 57, 53, 57, 54, 57, 55, 57, 56, 57, 57])) (.t 88), none⟩, false, []⟩, ⟨9, [], ⟨some 90, .mv (.t 10), none⟩, false, []⟩, ⟨10, [9], ⟨some 91, .ix (.c (.str [48, 48, 48, 49, 48, 50, 48, 51, 48, 52, 48, 53, 48, 54, 48, 55, 48, 56, 48, 57, 49, 48, 49, 49, 49, 50, 49, 51, 49, 52, 49, 53, 49, 54, 49, 55, 49, 56, 49, 57, 50, 48, 50, 49, 50, 50, 50, 51, 50, 52, 50, 53, 50, 54, 50, 55, 50, 56, 50, 57, 51, 48, 51, 49, 51, 50, 51, 51, 51, 52, 51, 53, 51, 54, 51, 55, 51, 56, 51, 57, 52, 48, 52, 49, 52, 50, 52, 51, 52, 52, 52, 53, 52, 54, 52, 55, 52, 56, 52, 57, 53, 48, 53, 49, 53, 50, 53, 51, 53, 52, 53, 53, 53, 54, 53, 55, 53, 56, 53, 57, 54, 48, 54, 49, 54, 50, 54, 51, 54, 52, 54, 53, 54, 54, 54, 55, 54, 56, 54, 57, 55, 48, 55, 49, 55, 50, 55, 51, 55, 52, 55, 53, 55, 54, 55, 55, 55, 56, 55, 57, 56, 48, 56, 49, 56, 50, 56, 51, 56, 52, 56, 53, 56, 54, 56, 55, 56, 56, 56, 57, 57, 48, 57, 49, 57, 50, 57, 51, 57, 52, 57, 53, 57, 54, 57, 55, 57, 56, 57, 57])) (.t 90), none⟩, false, []⟩, ⟨11, [0, 1, 2, 6, 7, 8], ⟨some 92, .ia none 1 (.t 81) (.t 83), none⟩, false, []⟩, ⟨12, [0, 1, 2, 6, 7, 8, 11], ⟨none, .st false 1 (.t 92) (.t 89), none⟩, true, []⟩, ⟨13, [0, 1, 2, 3, 4, 5, 6, 7, 8, 9, 10, 11, 12], ⟨some 93, .ia none 1 (.t 84) (.t 86), none⟩, false, []⟩, ⟨14, [0, 1, 2, 3, 4, 5, 6, 7, 8, 9, 10, 11, 12, 13], ⟨none, .st false 1 (.t 93) (.t 91), none⟩, true, []⟩]) (.reg [⟨some 94, .mv (.t 4), none⟩, ⟨some 95, .bin .sub (.t 94) (.c (.int .i64 8)), none⟩, ⟨some 4, .mv (.t 95), none⟩])))))))))))))) (.seq (.reg [⟨some 96, .mv (.t 1), none⟩, ⟨some 97, .wrp .u32 (.t 96), none⟩, ⟨some 12, .mv (.t 97), none⟩]) (.seq (.seq (.reg [⟨some 98, .mv (.t 4), none⟩, ⟨some 99, .bin .geq (.t 98) (.c (.int .i64 4)), none⟩]) (.cond (.t 99) (.seq (.reg [⟨some 100, .mv (.t 12), none⟩, ⟨some 101, .bin .rem (.t 100) (.c (.int .u32 10000)), none⟩, ⟨some 13, .mv (.t 101), none⟩]) (.seq (.reg [⟨some 102, .mv (.t 12), none⟩, ⟨some 103, .bin .quo (.t 102) (.c (.int .u32 10000)), none⟩, ⟨some 12, .mv (.t 103), none⟩]) (.seq (.reg [⟨some 104, .mv (.t 13), none⟩, ⟨some 105, .bin .quo (.t 104) (.c (.int .u32 100)), none⟩, ⟨some 106, .bin .mul (.t 105) (.c (.int .u32 2)), none⟩, ⟨some 107, .mv (.t 13), none⟩, ⟨some 108, .bin .rem (.t 107) (.c (.int .u32 100)), none⟩, ⟨some 109, .bin .mul (.t 108) (.c (.int .u32 2)), none⟩, ⟨some 14, .mv (.t 106), none⟩, ⟨some 15, .mv (.t 109), none⟩]) (.seq (.drw [⟨0, [], ⟨some 110, .mv (.t 0), none⟩, false, []⟩, ⟨1, [], ⟨some 111, .mv (.t 4), none⟩, false, []⟩, ⟨2, [1], ⟨some 112, .bin .sub (.t 111) (.c (.int .i64 1)), none⟩, false, []⟩, ⟨3, [], ⟨some 113, .mv (.t 0), none⟩, false, []⟩, ⟨4, [], ⟨some 114, .mv (.t 4), none⟩, false, []⟩, ⟨5, [4], ⟨some 115, .bin .sub (.t 114) (.c (.int .i64 2)), none⟩, false, []⟩, ⟨6, [], ⟨some 116, .mv (.t 15), none⟩, false, []⟩, ⟨7, [6], ⟨some 117, .bin .add (.t 116) (.c (.int .u32 1)), none⟩, false, []⟩, ⟨8, [6, 7], ⟨some 118, .ix (.c (.str [48, 48, 48, 49, 48, 50, 48, 51, 48, 52, 48, 53, 48, 54, 48, 55, 48, 56, 48, 57, 49, 48, 49, 49, 49, 50, 49, 51, 49, 52, 49, 53, 49, 54, 49, 55, 49, 56, 49, 57, 50, 48, 50, 49, 50, 50, 50, 51, 50, 52, 50, 53, 50, 54, 50, 55, 50, 56, 50, 57, 51, 48, 51, 49, 51, 50, 51, 51, 51, 52, 51, 53, 51, 54, 51, 55, 51, 56, 51, 57, 52, 48, 52, 49, 52, 50, 52, 51, 52, 52, 52, 53, 52, 54, 52, 55, 52, 56, 52, 57, 53, 48, 53, 49, 53, 50, 53, 51, 53, 52, 53, 53, 53, 54, 53, 55, 53, 56, 53, 57, 54, 48, 54, 49, 54, 50, 54, 51, 54, 52, 54, 53, 54, 54, 54, 55, 54, 56, 54, 57, 55, 48, 55, 49, 55, 50, 55, 51, 55, 52, 55, 53, 55, 54, 55, 55, 55, 56, 55, 57, 56, 48, 56, 49, 56, 50, 56, 51, 56, 52, 56, 53, 56, 54, 56, 55, 56, 56, 56, 57, 57, 48, 57, 49, 57, 50, 57, 51, 57, 52, 57, 53, 57, 54, 57, 55, 57, 56, 57, 57])) (.t 117), none⟩, false, []⟩, ⟨9, [], ⟨some 119, .mv (.t 15), none⟩, false, []⟩, ⟨10, [9], ⟨some 120, .ix (.c (.str [48, 48, 48, 49, 48, 50, 48, 51, 48, 52, 48, 53, 48, 54, 48, 55, 48, 56, 48, 57, 49, 48, 49, 49, 49, 50, 49, 51, 49, 52, 49, 53, 49, 54, 49, 55, 49, 56, 49, 57, 50, 48, 50, 49, 50, 50, 50, 51, 50, 52, 50, 53, 50, 54, 50, 55, 50, 56, 50, 57, 51, 48, 51, 49, 51, 50, 51, 51, 51, 52, 51, 53, 51, 54, 51, 55, 51, 56, 51, 57, 52, 48, 52, 49, 52, 50, 52, 51, 52, 52, 52, 53, 52, 54, 52, 55, 52, 56, 52, 57, 53, 48, 53, 49, 53, 50, 53, 51, 53, 52, 53, 53, 53, 54, 53, 55, 53, 56, 53, 57, 54, 48, 54, 49, 54, 50, 54, 51, 54, 52, 54, 53, 54, 54, 54, 55, 54, 56, 54, 57, 55, 48, 55, 49, 55, 50, 55, 51, 55, 52, 55, 53, 55, 54, 55, 55, 55, 56, 55, 57, 56, 48, 56, 49, 56, 50, 56, 51, 56, 52, 56, 53, 56, 54, 56, 55, 56, 56, 56, 57, 57, 48, 57, 49, 57, 50, 57, 51, 57, 52, 57, 53, 57, 54, 57, 55, 57, 56, 57, 57])) (.t 119), none⟩, false, []⟩, ⟨11, [0, 1, 2, 6, 7, 8], ⟨some 121, .ia none 1 (.t 110) (.t 112), none⟩, false, []⟩, ⟨12, [0, 1, 2, 6, 7, 8, 11], ⟨none, .st false 1 (.t 121) (.t 118), none⟩, true, []⟩, ⟨13, [0, 1, 2, 3, 4, 5, 6, 7, 8, 9, 10, 11, 12], ⟨some 122, .ia none 1 (.t 113) (.t 115), none⟩, false, []⟩, ⟨14, [0, 1, 2, 3, 4, 5, 6, 7, 8, 9, 10, 11, 12, 13], ⟨none, .st false 1 (.t 122) (.t 120), none⟩, true, []⟩]) (.seq (.drw [⟨0, [], ⟨some 123, .mv (.t 0), none⟩, false, []⟩, ⟨1, [], ⟨some 124, .mv (.t 4), none⟩, false, []⟩, ⟨2, [1], ⟨some 125, .bin .sub (.t 124) (.c (.int .i64 3)), none⟩, false, []⟩, ⟨3, [], ⟨some 126, .mv (.t 0), none⟩, false, []⟩, ⟨4, [], ⟨some 127, .mv (.t 4), none⟩, false, []⟩, ⟨5, [4], ⟨some 128, .bin .sub (.t 127) (.c (.int .i64 4)), none⟩, false, []⟩, ⟨6, [], ⟨some 129, .mv (.t 14), none⟩, false, []⟩, ⟨7, [6], ⟨some 130, .bin .add (.t 129) (.c (.int .u32 1)), none⟩, false, []⟩, ⟨8, [6, 7], ⟨some 131, .ix (.c (.str [48, 48, 48, 49, 48, 50, 48, 51, 48, 52, 48, 53, 48, 54, 48, 55, 48, 56, 48, 57, 49, 48, 49, 49, 49, 50, 49, 51, 49, 52, 49, 53, 49, 54, 49, 55, 49, 56, 49, 57, 50, 48, 50, 49, 50, 50, 50, 51, 50, 52, 50, 53, 50, 54, 50, 55, 50, 56, 50, 57, 51, 48, 51, 49, 51, 50, 51, 51, 51, 52, 51, 53, 51, 54, 51, 55, 51, 56, 51, 57, 52, 48, 52, 49, 52, 50, 52, 51, 52, 52, 52, 53, 52, 54, 52, 55, 52, 56, 52, 57, 53, 48, 53, 49, 53, 50, 53, 51, 53, 52, 53, 53, 53, 54, 53, 55, 53, 56, 53, 57, 54, 48, 54, 49, 54, 50, 54, 51, 54, 52, 54, 53, 54, 54, 54, 55, 54, 56, 54, 57, 55, 48, 55, 49, 55, 50, 55, 51, 55, 52, 55, 53, 55, 54, 55, 55, 55, 56, 55, 57, 56, 48, 56, 49, 56, 50, 56, 51, 56, 52, 56, 53, 56, 54, 56, 55, 56, 56, 56, 57, 57, 48, 57, 49, 57, 50, 57, 51, 57, 52, 57, 53, 57, 54, 57, 55, 57, 56, 57, 57])) (.t 130), none⟩, false, []⟩, ⟨9, [], ⟨some 132, .mv (.t 14), none⟩, false, []⟩, ⟨10, [9], ⟨some 133, .ix (.c (.str [48, 48, 48, 49, 48, 50, 48, 51, 48, 52, 48, 53, 48, 54, 48, 55, 48, 56, 48, 57, 49, 48, 49, 49, 49, 50, 49, 51, 49, 52, 49, 53, 49, 54, 49, 55, 49, 56, 49, 57, 50, 48, 50, 49, 50, 50, 50, 51, 50, 52, 50, 53, 50, 54, 50, 55, 50, 56, 50, 57, 51, 48, 51, 49, 51, 50, 51, 51, 51, 52, 51, 53, 51, 54, 51, 55, 51, 56, 51, 57, 52, 48, 52, 49, 52, 50, 52, 51, 52, 52, 52, 53, 52, 54, 52, 55, 52, 56, 52, 57, 53, 48, 53, 49, 53, 50, 53, 51, 53, 52, 53, 53, 53, 54, 53, 55, 53, 56, 53, 57, 54, 48, 54, 49, 54, 50, 54, 51, 54, 52, 54, 53, 54, 54, 54, 55, 54, 56, 54, 57, 55, 48, 55, 49, 55, 50, 55, 51, 55, 52, 55, 53, 55, 54, 55, 55, 55, 56, 55, 57, 56, 48, 56, 49, 56, 50, 56, 51, 56, 52, 56, 53, 56, 54, 56, 55, 56, 56, 56, 57, 57, 48, 57, 49, 57, 50, 57, 51, 57, 52, 57, 53, 57, 54, 57, 55, 57, 56, 57, 57])) (.t 132), none⟩, false, []⟩, ⟨11, [0, 1, 2, 6, 7, 8], ⟨some 134, .ia none 1 (.t 123) (.t 125), none⟩, false, []⟩, ⟨12, [0, 1, 2, 6, 7, 8, 11], ⟨none, .st false 1 (.t 134) (.t 131), none⟩, true, []⟩, ⟨13, [0, 1, 2, 3, 4, 5, 6, 7, 8, 9, 10, 11, 12], ⟨some 135, .ia none 1 (.t 126) (.t 128), none⟩, false, []⟩, ⟨14, [0, 1, 2, 3, 4, 5, 6, 7, 8, 9, 10, 11, 12, 13], ⟨none, .st false 1 (.t 135) (.t 133), none⟩, true, []⟩]) (.reg [⟨some 136, .mv (.t 4), none⟩, ⟨some 137, .bin .sub (.t 136) (.c (.int .i64 4)), none⟩, ⟨some 4, .mv (.t 137), none⟩])))))) (.skip))) (.seq (.seq (.reg [⟨some 138, .mv (.t 4), none⟩, ⟨some 139, .bin .geq (.t 138) (.c (.int .i64 2)), none⟩]) (.cond (.t 139) (.seq (.reg [⟨some 140, .mv (.t 12), none⟩, ⟨some 141, .bin .rem (.t 140) (.c (.int .u32 100)), none⟩, ⟨some 142, .bin .mul (.t 141) (.c (.int .u32 2)), none⟩, ⟨some 16, .mv (.t 142), none⟩]) (.seq (.reg [⟨some 143, .mv (.t 12), none⟩, ⟨some 144, .bin .quo (.t 143) (.c (.int .u32 100)), none⟩, ⟨some 12, .mv (.t 144), none⟩]) (.seq (.drw [⟨0, [], ⟨some 145, .mv (.t 0), none⟩, false, []⟩, ⟨1, [], ⟨some 146, .mv (.t 4), none⟩, false, []⟩, ⟨2, [1], ⟨some 147, .bin .sub (.t 146) (.c (.int .i64 1)), none⟩, false, []⟩, ⟨3, [], ⟨some 148, .mv (.t 0), none⟩, false, []⟩, ⟨4, [], ⟨some 149, .mv (.t 4), none⟩, false, []⟩, ⟨5, [4], ⟨some 150, .bin .sub (.t 149) (.c (.int .i64 2)), none⟩, false, []⟩, ⟨6, [], ⟨some 151, .mv (.t 16), none⟩, false, []⟩, ⟨7, [6], ⟨some 152, .bin .add (.t 151) (.c (.int .u32 1)), none⟩, false, []⟩, ⟨8, [6, 7], ⟨some 153, .ix (.c (.str [48, 48, 48, 49, 48, 50, 48, 51, 48, 52, 48, 53, 48, 54, 48, 55, 48, 56, 48, 57, 49, 48, 49, 49, 49, 50, 49, 51, 49, 52, 49, 53, 49, 54, 49, 55, 49, 56, 49, 57, 50, 48, 50, 49, 50, 50, 50, 51, 50, 52, 50, 53, 50, 54, 50, 55, 50, 56, 50, 57, 51, 48, 51, 49, 51, 50, 51, 51, 51, 52, 51, 53, 51, 54, 51, 55, 51, 56, 51, 57, 52, 48, 52, 49, 52, 50, 52, 51, 52, 52, 52, 53, 52, 54, 52, 55, 52, 56, 52, 57, 53, 48, 53, 49, 53, 50, 53, 51, 53, 52, 53, 53, 53, 54, 53, 55, 53, 56, 53, 57, 54, 48, 54, 49, 54, 50, 54, 51, 54, 52, 54, 53, 54, 54, 54, 55, 54, 56, 54, 57, 55, 48, 55, 49, 55, 50, 55, 51, 55, 52, 55, 53, 55, 54, 55, 55, 55, 56, 55, 57, 56, 48, 56, 49, 56, 50, 56, 51, 56, 52, 56, 53, 56, 54, 56, 55, 56, 56, 56, 57, 57, 48, 57, 49, 57, 50, 57, 51, 57, 52, 57, 53, 57, 54, 57, 55, 57, 56, 57, 57])) (.t 152), none⟩, false, []⟩, ⟨9, [], ⟨some 154, .mv (.t 16), none⟩, false, []⟩, ⟨10, [9], ⟨some 155, .ix (.c (.str [48, 48, 48, 49, 48, 50, 48, 51, 48, 52, 48, 53, 48, 54, 48, 55, 48, 56, 48, 57, 49, 48, 49, 49, 49, 50, 49, 51, 49, 52, 49, 53, 49, 54, 49, 55, 49, 56, 49, 57, 50, 48, 50, 49, 50, 50, 50, 51, 50, 52, 50, 53, 50, 54, 50, 55, 50, 56, 50, 57, 51, 48, 51, 49, 51, 50, 51, 51, 51, 52, 51, 53, 51, 54, 51, 55, 51, 56, 51, 57, 52, 48, 52, 49, 52, 50, 52, 51, 52, 52, 52, 53, 52, 54, 52, 55, 52, 56, 52, 57, 53, 48, 53, 49, 53, 50, 53, 51, 53, 52, 53, 53, 53, 54, 53, 55, 53, 56, 53, 57, 54, 48, 54, 49, 54, 50, 54, 51, 54, 52, 54, 53, 54, 54, 54, 55, 54, 56, 54, 57, 55, 48, 55, 49, 55, 50, 55, 51, 55, 52, 55, 53, 55, 54, 55, 55, 55, 56, 55, 57, 56, 48, 56, 49, 56, 50, 56, 51, 56, 52, 56, 53, 56, 54, 56, 55, 56, 56, 56, 57, 57, 48, 57, 49, 57, 50, 57, 51, 57, 52, 57, 53, 57, 54, 57, 55, 57, 56, 57, 57])) (.t 154), none⟩, false, []⟩, ⟨11, [0, 1, 2, 6, 7, 8], ⟨some 156, .ia none 1 (.t 145) (.t 147), none⟩, false, []⟩, ⟨12, [0, 1, 2, 6, 7, 8, 11], ⟨none, .st false 1 (.t 156) (.t 153), none⟩, true, []⟩, ⟨13, [0, 1, 2, 3, 4, 5, 6, 7, 8, 9, 10, 11, 12], ⟨some 157, .ia none 1 (.t 148) (.t 150), none⟩, false, []⟩, ⟨14, [0, 1, 2, 3, 4, 5, 6, 7, 8, 9, 10, 11, 12, 13], ⟨none, .st false 1 (.t 157) (.t 155), none⟩, true, []⟩]) (.reg [⟨some 158, .mv (.t 4), none⟩, ⟨some 159, .bin .sub (.t 158) (.c (.int .i64 2)), none⟩, ⟨some 4, .mv (.t 159), none⟩])))) (.skip))) (.seq (.reg [⟨some 160, .mv (.t 4), none⟩, ⟨some 161, .bin .gtr (.t 160) (.c (.int .i64 0)), none⟩]) (.cond (.t 161) (.reg [⟨some 162, .mv (.t 0), none⟩, ⟨some 163, .mv (.t 12), none⟩, ⟨some 164, .bin .add (.c (.int .u32 48)) (.t 163), none⟩, ⟨some 165, .wrp .u8 (.t 164), none⟩, ⟨some 166, .ia none 1 (.t 162) (.c (.int .i64 0)), none⟩, ⟨none, .st false 1 (.t 166) (.t 165), none⟩]) (.skip))))))), res := [] }
def c190 : VF := { code := .seq (.reg [⟨some 10, .nw 1, none⟩, ⟨some 11, .mv (.c (.str [])), none⟩]) (.seq (.seq (.reg [⟨some 19, .mv (.t 2), none⟩, ⟨some 20, .bin .lss (.t 19) (.c (.int .i64 2)), none⟩, ⟨some 21, .mv (.t 20), none⟩, ⟨some 22, .mv (.t 2), some (21, false)⟩, ⟨some 23, .bin .eql (.t 22) (.c (.int .i64 10)), some (21, false)⟩, ⟨some 24, .pick (.t 21) (.c (.bool true)) (.t 23), none⟩, ⟨some 25, .mv (.t 24), none⟩, ⟨some 26, .mv (.t 2), some (25, false)⟩, ⟨some 27, .bin .gtr (.t 26) (.c (.int .i64 36)), some (25, false)⟩, ⟨some 28, .pick (.t 25) (.c (.bool true)) (.t 27), none⟩]) (.cond (.t 28) (.reg [⟨some 29, .mi 9 (.c (.str [115, 116, 114, 99, 111, 110, 118, 58, 32, 105, 108, 108, 101, 103, 97, 108, 32, 65, 112, 112, 101, 110, 100, 73, 110, 116, 47, 70, 111, 114, 109, 97, 116, 73, 110, 116, 32, 98, 97, 115, 101])), none⟩, ⟨none, .bad, none⟩]) (.skip))) (.seq (.reg [⟨some 12, .al [.int .u8 0, .int .u8 0, .int .u8 0, .int .u8 0, .int .u8 0, .int .u8 0, .int .u8 0, .int .u8 0, .int .u8 0, .int .u8 0, .int .u8 0, .int .u8 0, .int .u8 0, .int .u8 0, .int .u8 0, .int .u8 0, .int .u8 0, .int .u8 0, .int .u8 0, .int .u8 0, .int .u8 0, .int .u8 0, .int .u8 0, .int .u8 0, .int .u8 0, .int .u8 0, .int .u8 0, .int .u8 0, .int .u8 0, .int .u8 0, .int .u8 0, .int .u8 0, .int .u8 0, .int .u8 0, .int .u8 0, .int .u8 0, .int .u8 0, .int .u8 0, .int .u8 0, .int .u8 0, .int .u8 0, .int .u8 0, .int .u8 0, .int .u8 0, .int .u8 0, .int .u8 0, .int .u8 0, .int .u8 0, .int .u8 0, .int .u8 0, .int .u8 0, .int .u8 0, .int .u8 0, .int .u8 0, .int .u8 0, .int .u8 0, .int .u8 0, .int .u8 0, .int .u8 0, .int .u8 0, .int .u8 0, .int .u8 0, .int .u8 0, .int .u8 0, .int .u8 0] [], none⟩]) (.seq (.reg [⟨some 13, .mv (.c (.int .i64 65)), none⟩]) (.seq (.seq (.reg [⟨some 30, .mv (.t 3), none⟩]) (.cond (.t 30) (.reg [⟨some 31, .mv (.t 1), none⟩, ⟨some 32, .neg (.t 31), none⟩, ⟨some 1, .mv (.t 32), none⟩]) (.skip))) (.seq (.seq (.reg [⟨some 33, .mv (.t 2), none⟩, ⟨some 34, .call 196 [(.t 33)], none⟩]) (.cond (.t 34) (.seq (.reg [⟨some 35, .mv (.t 2), none⟩, ⟨some 36, .wrp .u64 (.t 35), none⟩, ⟨some 37, .call 197 [(.t 36)], none⟩, ⟨some 38, .wrp .u64 (.t 37), none⟩, ⟨some 14, .mv (.t 38), none⟩]) (.seq (.reg [⟨some 39, .mv (.t 2), none⟩, ⟨some 40, .wrp .u64 (.t 39), none⟩, ⟨some 15, .mv (.t 40), none⟩]) (.seq (.reg [⟨some 41, .mv (.t 2), none⟩, ⟨some 42, .wrp .u64 (.t 41), none⟩, ⟨some 43, .bin .sub (.t 42) (.c (.int .u64 1)), none⟩, ⟨some 16, .mv (.t 43), none⟩]) (.seq (.block 0 (.loop [0, 1, 3, 4, 10, 11, 12, 13, 14, 15, 16] (.seq (.seq (.reg [⟨some 44, .mv (.t 1), none⟩, ⟨some 45, .mv (.t 15), none⟩, ⟨some 46, .bin .geq (.t 44) (.t 45), none⟩]) (.cond (.t 46) (.skip) (.exit 0))) (.block 1 (.seq (.reg [⟨some 47, .mv (.t 13), none⟩, ⟨some 48, .bin .sub (.t 47) (.c (.int .i64 1)), none⟩, ⟨some 13, .mv (.t 48), none⟩]) (.seq (.reg [⟨some 49, .mv (.t 13), none⟩, ⟨some 50, .mv (.t 1), none⟩, ⟨some 51, .mv (.t 16), none⟩, ⟨some 52, .bin .and (.t 50) (.t 51), none⟩, ⟨some 53, .ix (.c (.str [48, 49, 50, 51, 52, 53, 54, 55, 56, 57, 97, 98, 99, 100, 101, 102, 103, 104, 105, 106, 107, 108, 109, 110, 111, 112, 113, 114, 115, 116, 117, 118, 119, 120, 121, 122])) (.t 52), none⟩, ⟨some 54, .ia (some 65) 1 (.t 12) (.t 49), none⟩, ⟨none, .st false 1 (.t 54) (.t 53), none⟩]) (.reg [⟨some 55, .mv (.t 1), none⟩, ⟨some 56, .mv (.t 14), none⟩, ⟨some 57, .bin .shr (.t 55) (.t 56), none⟩, ⟨some 1, .mv (.t 57), none⟩]))))))) (.seq (.reg [⟨some 58, .mv (.t 13), none⟩, ⟨some 59, .bin .sub (.t 58) (.c (.int .i64 1)), none⟩, ⟨some 13, .mv (.t 59), none⟩]) (.reg [⟨some 60, .mv (.t 13), none⟩, ⟨some 61, .mv (.t 1), none⟩, ⟨some 62, .ix (.c (.str [48, 49, 50, 51, 52, 53, 54, 55, 56, 57, 97, 98, 99, 100, 101, 102, 103, 104, 105, 106, 107, 108, 109, 110, 111, 112, 113, 114, 115, 116, 117, 118, 119, 120, 121, 122])) (.t 61), none⟩, ⟨some 63, .ia (some 65) 1 (.t 12) (.t 60), none⟩, ⟨none, .st false 1 (.t 63) (.t 62), none⟩])))))) (.seq (.reg [⟨some 64, .mv (.t 2), none⟩, ⟨some 65, .wrp .u64 (.t 64), none⟩, ⟨some 17, .mv (.t 65), none⟩]) (.seq (.block 2 (.loop [0, 1, 3, 4, 10, 11, 12, 13, 17] (.seq (.seq (.reg [⟨some 66, .mv (.t 1), none⟩, ⟨some 67, .mv (.t 17), none⟩, ⟨some 68, .bin .geq (.t 66) (.t 67), none⟩]) (.cond (.t 68) (.skip) (.exit 2))) (.block 3 (.seq (.reg [⟨some 69, .mv (.t 13), none⟩, ⟨some 70, .bin .sub (.t 69) (.c (.int .i64 1)), none⟩, ⟨some 13, .mv (.t 70), none⟩]) (.seq (.reg [⟨some 71, .mv (.t 1), none⟩, ⟨some 72, .mv (.t 17), none⟩, ⟨some 73, .bin .quo (.t 71) (.t 72), none⟩, ⟨some 18, .mv (.t 73), none⟩]) (.seq (.reg [⟨some 74, .mv (.t 13), none⟩, ⟨some 75, .mv (.t 1), none⟩, ⟨some 76, .mv (.t 18), none⟩, ⟨some 77, .mv (.t 17), none⟩, ⟨some 78, .bin .mul (.t 76) (.t 77), none⟩, ⟨some 79, .bin .sub (.t 75) (.t 78), none⟩, ⟨some 80, .ix (.c (.str [48, 49, 50, 51, 52, 53, 54, 55, 56, 57, 97, 98, 99, 100, 101, 102, 103, 104, 105, 106, 107, 108, 109, 110, 111, 112, 113, 114, 115, 116, 117, 118, 119, 120, 121, 122])) (.t 79), none⟩, ⟨some 81, .ia (some 65) 1 (.t 12) (.t 74), none⟩, ⟨none, .st false 1 (.t 81) (.t 80), none⟩]) (.reg [⟨some 82, .mv (.t 18), none⟩, ⟨some 1, .mv (.t 82), none⟩])))))))) (.seq (.reg [⟨some 83, .mv (.t 13), none⟩, ⟨some 84, .bin .sub (.t 83) (.c (.int .i64 1)), none⟩, ⟨some 13, .mv (.t 84), none⟩]) (.reg [⟨some 85, .mv (.t 13), none⟩, ⟨some 86, .mv (.t 1), none⟩, ⟨some 87, .ix (.c (.str [48, 49, 50, 51, 52, 53, 54, 55, 56, 57, 97, 98, 99, 100, 101, 102, 103, 104, 105, 106, 107, 108, 109, 110, 111, 112, 113, 114, 115, 116, 117, 118, 119, 120, 121, 122])) (.t 86), none⟩, ⟨some 88, .ia (some 65) 1 (.t 12) (.t 85), none⟩, ⟨none, .st false 1 (.t 88) (.t 87), none⟩])))))) (.seq (.seq (.reg [⟨some 89, .mv (.t 3), none⟩]) (.cond (.t 89) (.seq (.reg [⟨some 90, .mv (.t 13), none⟩, ⟨some 91, .bin .sub (.t 90) (.c (.int .i64 1)), none⟩, ⟨some 13, .mv (.t 91), none⟩]) (.reg [⟨some 92, .mv (.t 13), none⟩, ⟨some 93, .ia (some 65) 1 (.t 12) (.t 92), none⟩, ⟨none, .st false 1 (.t 93) (.c (.int .u8 45)), none⟩])) (.skip))) (.seq (.seq (.reg [⟨some 94, .mv (.t 4), none⟩]) (.cond (.t 94) (.seq (.reg [⟨some 95, .mv (.t 0), none⟩, ⟨some 96, .mv (.t 13), none⟩, ⟨some 97, .bad, none⟩, ⟨some 98, .app 1 (.t 95) (.t 97), none⟩, ⟨some 10, .mv (.t 98), none⟩]) (.ret)) (.skip))) (.seq (.reg [⟨some 99, .mv (.t 13), none⟩, ⟨some 100, .bad, none⟩, ⟨some 101, .bad, none⟩, ⟨some 11, .mv (.t 101), none⟩]) (.ret))))))))), res := [(10, none), (11, none)] }
def c191 : VF := { code := .seq (.reg [⟨some 10, .mv (.t 1), none⟩, ⟨some 11, .bin .add (.t 10) (.c (.int .i64 1)), none⟩, ⟨some 8, .mv (.t 11), none⟩]) (.block 0 (.loop [0, 1, 2, 3, 8] (.seq (.seq (.reg [⟨some 12, .mv (.t 8), none⟩, ⟨some 13, .mv (.t 2), none⟩, ⟨some 14, .bin .lss (.t 12) (.t 13), none⟩]) (.cond (.t 14) (.skip) (.exit 0))) (.seq (.block 1 (.seq (.reg [⟨some 17, .mv (.t 8), none⟩, ⟨some 9, .mv (.t 17), none⟩]) (.block 2 (.loop [0, 1, 2, 3, 8, 9] (.seq (.seq (.drw [⟨0, [], ⟨some 18, .mv (.t 9), none⟩, false, []⟩, ⟨1, [], ⟨some 19, .mv (.t 1), none⟩, false, []⟩, ⟨2, [0, 1], ⟨some 20, .bin .gtr (.t 18) (.t 19), none⟩, false, []⟩, ⟨3, [0, 1, 2], ⟨some 21, .mv (.t 20), none⟩, false, []⟩, ⟨4, [0, 1, 2, 3], ⟨some 22, .mv (.t 3), some (21, true)⟩, false, []⟩, ⟨5, [0, 1, 2, 3], ⟨some 23, .mv (.t 0), some (21, true)⟩, false, []⟩, ⟨6, [0, 1, 2, 3], ⟨some 24, .mv (.t 9), some (21, true)⟩, false, []⟩, ⟨7, [0, 1, 2, 3, 5, 6], ⟨some 25, .ia none 4 (.t 23) (.t 24), some (21, true)⟩, false, []⟩, ⟨8, [0, 1, 2, 3, 5, 6, 7], ⟨some 26, .ld true 4 (.t 25), some (21, true)⟩, false, []⟩, ⟨9, [0, 1, 2, 3], ⟨some 27, .mv (.t 0), some (21, true)⟩, false, []⟩, ⟨10, [0, 1, 2, 3], ⟨some 28, .mv (.t 9), some (21, true)⟩, false, []⟩, ⟨11, [0, 1, 2, 3, 10], ⟨some 29, .bin .sub (.t 28) (.c (.int .i64 1)), some (21, true)⟩, false, []⟩, ⟨12, [0, 1, 2, 3, 9, 10, 11], ⟨some 30, .ia none 4 (.t 27) (.t 29), some (21, true)⟩, false, []⟩, ⟨13, [0, 1, 2, 3, 9, 10, 11, 12], ⟨some 31, .ld true 4 (.t 30), some (21, true)⟩, false, []⟩, ⟨14, [0, 1, 2, 3, 4, 5, 6, 7, 8, 9, 10, 11, 12, 13], ⟨some 32, .cv (.t 22) [(.t 26), (.t 31)], some (21, true)⟩, true, []⟩, ⟨15, [0, 1, 2, 3, 4, 5, 6, 7, 8, 9, 10, 11, 12, 13, 14], ⟨some 33, .bin .lss (.t 32) (.c (.int .i64 0)), some (21, true)⟩, false, []⟩, ⟨16, [0, 1, 2, 3, 4, 5, 6, 7, 8, 9, 10, 11, 12, 13, 14, 15], ⟨some 34, .pick (.t 21) (.t 33) (.c (.bool false)), none⟩, false, []⟩]) (.cond (.t 34) (.skip) (.exit 2))) (.seq (.block 3 (.drw [⟨0, [], ⟨some 37, .mv (.t 0), none⟩, false, []⟩, ⟨1, [], ⟨some 38, .mv (.t 9), none⟩, false, []⟩, ⟨2, [], ⟨some 39, .mv (.t 0), none⟩, false, []⟩, ⟨3, [], ⟨some 40, .mv (.t 9), none⟩, false, []⟩, ⟨4, [3], ⟨some 41, .bin .sub (.t 40) (.c (.int .i64 1)), none⟩, false, []⟩, ⟨5, [], ⟨some 42, .mv (.t 0), none⟩, false, []⟩, ⟨6, [], ⟨some 43, .mv (.t 9), none⟩, false, []⟩, ⟨7, [6], ⟨some 44, .bin .sub (.t 43) (.c (.int .i64 1)), none⟩, false, []⟩, ⟨8, [5, 6, 7], ⟨some 45, .ia none 4 (.t 42) (.t 44), none⟩, false, []⟩, ⟨9, [5, 6, 7, 8], ⟨some 46, .ld true 4 (.t 45), none⟩, false, []⟩, ⟨10, [], ⟨some 47, .mv (.t 0), none⟩, false, []⟩, ⟨11, [], ⟨some 48, .mv (.t 9), none⟩, false, []⟩, ⟨12, [10, 11], ⟨some 49, .ia none 4 (.t 47) (.t 48), none⟩, false, []⟩, ⟨13, [10, 11, 12], ⟨some 50, .ld true 4 (.t 49), none⟩, false, []⟩, ⟨14, [0, 1, 5, 6, 7, 8, 9, 10, 11, 12, 13], ⟨some 51, .ia none 4 (.t 37) (.t 38), none⟩, false, []⟩, ⟨15, [0, 1, 5, 6, 7, 8, 9, 10, 11, 12, 13, 14], ⟨none, .st true 4 (.t 51) (.t 46), none⟩, true, []⟩, ⟨16, [0, 1, 2, 3, 4, 5, 6, 7, 8, 9, 10, 11, 12, 13, 14, 15], ⟨some 52, .ia none 4 (.t 39) (.t 41), none⟩, false, []⟩, ⟨17, [0, 1, 2, 3, 4, 5, 6, 7, 8, 9, 10, 11, 12, 13, 14, 15, 16], ⟨none, .st true 4 (.t 52) (.t 50), none⟩, true, []⟩])) (.reg [⟨some 35, .mv (.t 9), none⟩, ⟨some 36, .bin .sub (.t 35) (.c (.int .i64 1)), none⟩, ⟨some 9, .mv (.t 36), none⟩]))))))) (.reg [⟨some 15, .mv (.t 8), none⟩, ⟨some 16, .bin .add (.t 15) (.c (.int .i64 1)), none⟩, ⟨some 8, .mv (.t 16), none⟩]))))), res := [] }
def c192 : VF := { code := .seq (.seq (.reg [⟨some 25, .mv (.t 2), none⟩, ⟨some 26, .mv (.t 1), none⟩, ⟨some 27, .bin .sub (.t 25) (.t 26), none⟩, ⟨some 28, .bin .eql (.t 27) (.c (.int .i64 1)), none⟩]) (.cond (.t 28) (.seq (.reg [⟨some 29, .mv (.t 2), none⟩, ⟨some 10, .mv (.t 29), none⟩]) (.seq (.reg [⟨some 30, .mv (.t 3), none⟩, ⟨some 11, .mv (.t 30), none⟩]) (.seq (.block 0 (.loop [0, 1, 4, 10, 11] (.seq (.seq (.reg [⟨some 31, .mv (.t 10), none⟩, ⟨some 32, .mv (.t 11), none⟩, ⟨some 33, .bin .lss (.t 31) (.t 32), none⟩]) (.cond (.t 33) (.skip) (.exit 0))) (.block 1 (.seq (.reg [⟨some 34, .mv (.t 10), none⟩, ⟨some 35, .mv (.t 11), none⟩, ⟨some 36, .bin .add (.t 34) (.t 35), none⟩, ⟨some 37, .wrp .u64 (.t 36), none⟩, ⟨some 38, .bin .shr (.t 37) (.c (.int .u64 1)), none⟩, ⟨some 39, .wrp .i64 (.t 38), none⟩, ⟨some 12, .mv (.t 39), none⟩]) (.seq (.drw [⟨0, [], ⟨some 40, .mv (.t 4), none⟩, false, []⟩, ⟨1, [], ⟨some 41, .mv (.t 0), none⟩, false, []⟩, ⟨2, [], ⟨some 42, .mv (.t 12), none⟩, false, []⟩, ⟨3, [1, 2], ⟨some 43, .ia none 4 (.t 41) (.t 42), none⟩, false, []⟩, ⟨4, [1, 2, 3], ⟨some 44, .ld true 4 (.t 43), none⟩, false, []⟩, ⟨5, [], ⟨some 45, .mv (.t 0), none⟩, false, []⟩, ⟨6, [], ⟨some 46, .mv (.t 1), none⟩, false, []⟩, ⟨7, [5, 6], ⟨some 47, .ia none 4 (.t 45) (.t 46), none⟩, false, []⟩, ⟨8, [5, 6, 7], ⟨some 48, .ld true 4 (.t 47), none⟩, false, []⟩, ⟨9, [0, 1, 2, 3, 4, 5, 6, 7, 8], ⟨some 49, .cv (.t 40) [(.t 44), (.t 48)], none⟩, true, []⟩, ⟨10, [0, 1, 2, 3, 4, 5, 6, 7, 8, 9], ⟨some 50, .bin .lss (.t 49) (.c (.int .i64 0)), none⟩, false, []⟩]) (.cond (.t 50) (.reg [⟨some 51, .mv (.t 12), none⟩, ⟨some 52, .bin .add (.t 51) (.c (.int .i64 1)), none⟩, ⟨some 10, .mv (.t 52), none⟩]) (.reg [⟨some 53, .mv (.t 12), none⟩, ⟨some 11, .mv (.t 53), none⟩])))))))) (.seq (.seq (.reg [⟨some 54, .mv (.t 1), none⟩, ⟨some 13, .mv (.t 54), none⟩]) (.block 2 (.loop [0, 10, 13] (.seq (.seq (.reg [⟨some 55, .mv (.t 13), none⟩, ⟨some 56, .mv (.t 10), none⟩, ⟨some 57, .bin .sub (.t 56) (.c (.int .i64 1)), none⟩, ⟨some 58, .bin .lss (.t 55) (.t 57), none⟩]) (.cond (.t 58) (.skip) (.exit 2))) (.seq (.block 3 (.drw [⟨0, [], ⟨some 61, .mv (.t 0), none⟩, false, []⟩, ⟨1, [], ⟨some 62, .mv (.t 13), none⟩, false, []⟩, ⟨2, [], ⟨some 63, .mv (.t 0), none⟩, false, []⟩, ⟨3, [], ⟨some 64, .mv (.t 13), none⟩, false, []⟩, ⟨4, [3], ⟨some 65, .bin .add (.t 64) (.c (.int .i64 1)), none⟩, false, []⟩, ⟨5, [], ⟨some 66, .mv (.t 0), none⟩, false, []⟩, ⟨6, [], ⟨some 67, .mv (.t 13), none⟩, false, []⟩, ⟨7, [6], ⟨some 68, .bin .add (.t 67) (.c (.int .i64 1)), none⟩, false, []⟩, ⟨8, [5, 6, 7], ⟨some 69, .ia none 4 (.t 66) (.t 68), none⟩, false, []⟩, ⟨9, [5, 6, 7, 8], ⟨some 70, .ld true 4 (.t 69), none⟩, false, []⟩, ⟨10, [], ⟨some 71, .mv (.t 0), none⟩, false, []⟩, ⟨11, [], ⟨some 72, .mv (.t 13), none⟩, false, []⟩, ⟨12, [10, 11], ⟨some 73, .ia none 4 (.t 71) (.t 72), none⟩, false, []⟩, ⟨13, [10, 11, 12], ⟨some 74, .ld true 4 (.t 73), none⟩, false, []⟩, ⟨14, [0, 1, 5, 6, 7, 8, 9, 10, 11, 12, 13], ⟨some 75, .ia none 4 (.t 61) (.t 62), none⟩, false, []⟩, ⟨15, [0, 1, 5, 6, 7, 8, 9, 10, 11, 12, 13, 14], ⟨none, .st true 4 (.t 75) (.t 70), none⟩, true, []⟩, ⟨16, [0, 1, 2, 3, 4, 5, 6, 7, 8, 9, 10, 11, 12, 13, 14, 15], ⟨some 76, .ia none 4 (.t 63) (.t 65), none⟩, false, []⟩, ⟨17, [0, 1, 2, 3, 4, 5, 6, 7, 8, 9, 10, 11, 12, 13, 14, 15, 16], ⟨none, .st true 4 (.t 76) (.t 74), none⟩, true, []⟩])) (.reg [⟨some 59, .mv (.t 13), none⟩, ⟨some 60, .bin .add (.t 59) (.c (.int .i64 1)), none⟩, ⟨some 13, .mv (.t 60), none⟩])))))) (.ret))))) (.skip))) (.seq (.seq (.reg [⟨some 77, .mv (.t 3), none⟩, ⟨some 78, .mv (.t 2), none⟩, ⟨some 79, .bin .sub (.t 77) (.t 78), none⟩, ⟨some 80, .bin .eql (.t 79) (.c (.int .i64 1)), none⟩]) (.cond (.t 80) (.seq (.reg [⟨some 81, .mv (.t 1), none⟩, ⟨some 14, .mv (.t 81), none⟩]) (.seq (.reg [⟨some 82, .mv (.t 2), none⟩, ⟨some 15, .mv (.t 82), none⟩]) (.seq (.block 4 (.loop [0, 2, 4, 14, 15] (.seq (.seq (.reg [⟨some 83, .mv (.t 14), none⟩, ⟨some 84, .mv (.t 15), none⟩, ⟨some 85, .bin .lss (.t 83) (.t 84), none⟩]) (.cond (.t 85) (.skip) (.exit 4))) (.block 5 (.seq (.reg [⟨some 86, .mv (.t 14), none⟩, ⟨some 87, .mv (.t 15), none⟩, ⟨some 88, .bin .add (.t 86) (.t 87), none⟩, ⟨some 89, .wrp .u64 (.t 88), none⟩, ⟨some 90, .bin .shr (.t 89) (.c (.int .u64 1)), none⟩, ⟨some 91, .wrp .i64 (.t 90), none⟩, ⟨some 16, .mv (.t 91), none⟩]) (.seq (.drw [⟨0, [], ⟨some 92, .mv (.t 4), none⟩, false, []⟩, ⟨1, [], ⟨some 93, .mv (.t 0), none⟩, false, []⟩, ⟨2, [], ⟨some 94, .mv (.t 2), none⟩, false, []⟩, ⟨3, [1, 2], ⟨some 95, .ia none 4 (.t 93) (.t 94), none⟩, false, []⟩, ⟨4, [1, 2, 3], ⟨some 96, .ld true 4 (.t 95), none⟩, false, []⟩, ⟨5, [], ⟨some 97, .mv (.t 0), none⟩, false, []⟩, ⟨6, [], ⟨some 98, .mv (.t 16), none⟩, false, []⟩, ⟨7, [5, 6], ⟨some 99, .ia none 4 (.t 97) (.t 98), none⟩, false, []⟩, ⟨8, [5, 6, 7], ⟨some 100, .ld true 4 (.t 99), none⟩, false, []⟩, ⟨9, [0, 1, 2, 3, 4, 5, 6, 7, 8], ⟨some 101, .cv (.t 92) [(.t 96), (.t 100)], none⟩, true, []⟩, ⟨10, [0, 1, 2, 3, 4, 5, 6, 7, 8, 9], ⟨some 102, .bin .lss (.t 101) (.c (.int .i64 0)), none⟩, false, []⟩, ⟨11, [0, 1, 2, 3, 4, 5, 6, 7, 8, 9, 10], ⟨some 103, .not (.t 102), none⟩, false, []⟩]) (.cond (.t 103) (.reg [⟨some 104, .mv (.t 16), none⟩, ⟨some 105, .bin .add (.t 104) (.c (.int .i64 1)), none⟩, ⟨some 14, .mv (.t 105), none⟩]) (.reg [⟨some 106, .mv (.t 16), none⟩, ⟨some 15, .mv (.t 106), none⟩])))))))) (.seq (.seq (.reg [⟨some 107, .mv (.t 2), none⟩, ⟨some 17, .mv (.t 107), none⟩]) (.block 6 (.loop [0, 14, 17] (.seq (.seq (.reg [⟨some 108, .mv (.t 17), none⟩, ⟨some 109, .mv (.t 14), none⟩, ⟨some 110, .bin .gtr (.t 108) (.t 109), none⟩]) (.cond (.t 110) (.skip) (.exit 6))) (.seq (.block 7 (.drw [⟨0, [], ⟨some 113, .mv (.t 0), none⟩, false, []⟩, ⟨1, [], ⟨some 114, .mv (.t 17), none⟩, false, []⟩, ⟨2, [], ⟨some 115, .mv (.t 0), none⟩, false, []⟩, ⟨3, [], ⟨some 116, .mv (.t 17), none⟩, false, []⟩, ⟨4, [3], ⟨some 117, .bin .sub (.t 116) (.c (.int .i64 1)), none⟩, false, []⟩, ⟨5, [], ⟨some 118, .mv (.t 0), none⟩, false, []⟩, ⟨6, [], ⟨some 119, .mv (.t 17), none⟩, false, []⟩, ⟨7, [6], ⟨some 120, .bin .sub (.t 119) (.c (.int .i64 1)), none⟩, false, []⟩, ⟨8, [5, 6, 7], ⟨some 121, .ia none 4 (.t 118) (.t 120), none⟩, false, []⟩, ⟨9, [5, 6, 7, 8], ⟨some 122, .ld true 4 (.t 121), none⟩, false, []⟩, ⟨10, [], ⟨some 123, .mv (.t 0), none⟩, false, []⟩, ⟨11, [], ⟨some 124, .mv (.t 17), none⟩, false, []⟩, ⟨12, [10, 11], ⟨some 125, .ia none 4 (.t 123) (.t 124), none⟩, false, []⟩, ⟨13, [10, 11, 12], ⟨some 126, .ld true 4 (.t 125), none⟩, false, []⟩, ⟨14, [0, 1, 5, 6, 7, 8, 9, 10, 11, 12, 13], ⟨some 127, .ia none 4 (.t 113) (.t 114), none⟩, false, []⟩, ⟨15, [0, 1, 5, 6, 7, 8, 9, 10, 11, 12, 13, 14], ⟨none, .st true 4 (.t 127) (.t 122), none⟩, true, []⟩, ⟨16, [0, 1, 2, 3, 4, 5, 6, 7, 8, 9, 10, 11, 12, 13, 14, 15], ⟨some 128, .ia none 4 (.t 115) (.t 117), none⟩, false, []⟩, ⟨17, [0, 1, 2, 3, 4, 5, 6, 7, 8, 9, 10, 11, 12, 13, 14, 15, 16], ⟨none, .st true 4 (.t 128) (.t 126), none⟩, true, []⟩])) (.reg [⟨some 111, .mv (.t 17), none⟩, ⟨some 112, .bin .sub (.t 111) (.c (.int .i64 1)), none⟩, ⟨some 17, .mv (.t 112), none⟩])))))) (.ret))))) (.skip))) (.seq (.reg [⟨some 129, .mv (.t 1), none⟩, ⟨some 130, .mv (.t 3), none⟩, ⟨some 131, .bin .add (.t 129) (.t 130), none⟩, ⟨some 132, .wrp .u64 (.t 131), none⟩, ⟨some 133, .bin .shr (.t 132) (.c (.int .u64 1)), none⟩, ⟨some 134, .wrp .i64 (.t 133), none⟩, ⟨some 18, .mv (.t 134), none⟩]) (.seq (.reg [⟨some 135, .mv (.t 18), none⟩, ⟨some 136, .mv (.t 2), none⟩, ⟨some 137, .bin .add (.t 135) (.t 136), none⟩, ⟨some 19, .mv (.t 137), none⟩]) (.seq (.reg [⟨some 20, .mv (.c (.int .i64 0)), none⟩, ⟨some 21, .mv (.c (.int .i64 0)), none⟩]) (.seq (.seq (.reg [⟨some 138, .mv (.t 2), none⟩, ⟨some 139, .mv (.t 18), none⟩, ⟨some 140, .bin .gtr (.t 138) (.t 139), none⟩]) (.cond (.t 140) (.seq (.reg [⟨some 141, .mv (.t 19), none⟩, ⟨some 142, .mv (.t 3), none⟩, ⟨some 143, .bin .sub (.t 141) (.t 142), none⟩, ⟨some 20, .mv (.t 143), none⟩]) (.reg [⟨some 144, .mv (.t 18), none⟩, ⟨some 21, .mv (.t 144), none⟩])) (.seq (.reg [⟨some 145, .mv (.t 1), none⟩, ⟨some 20, .mv (.t 145), none⟩]) (.reg [⟨some 146, .mv (.t 2), none⟩, ⟨some 21, .mv (.t 146), none⟩])))) (.seq (.reg [⟨some 147, .mv (.t 19), none⟩, ⟨some 148, .bin .sub (.t 147) (.c (.int .i64 1)), none⟩, ⟨some 22, .mv (.t 148), none⟩]) (.seq (.block 8 (.loop [0, 1, 2, 3, 4, 18, 19, 20, 21, 22] (.seq (.seq (.reg [⟨some 149, .mv (.t 20), none⟩, ⟨some 150, .mv (.t 21), none⟩, ⟨some 151, .bin .lss (.t 149) (.t 150), none⟩]) (.cond (.t 151) (.skip) (.exit 8))) (.block 9 (.seq (.reg [⟨some 152, .mv (.t 20), none⟩, ⟨some 153, .mv (.t 21), none⟩, ⟨some 154, .bin .add (.t 152) (.t 153), none⟩, ⟨some 155, .wrp .u64 (.t 154), none⟩, ⟨some 156, .bin .shr (.t 155) (.c (.int .u64 1)), none⟩, ⟨some 157, .wrp .i64 (.t 156), none⟩, ⟨some 23, .mv (.t 157), none⟩]) (.seq (.drw [⟨0, [], ⟨some 158, .mv (.t 4), none⟩, false, []⟩, ⟨1, [], ⟨some 159, .mv (.t 0), none⟩, false, []⟩, ⟨2, [], ⟨some 160, .mv (.t 22), none⟩, false, []⟩, ⟨3, [], ⟨some 161, .mv (.t 23), none⟩, false, []⟩, ⟨4, [2, 3], ⟨some 162, .bin .sub (.t 160) (.t 161), none⟩, false, []⟩, ⟨5, [1, 2, 3, 4], ⟨some 163, .ia none 4 (.t 159) (.t 162), none⟩, false, []⟩, ⟨6, [1, 2, 3, 4, 5], ⟨some 164, .ld true 4 (.t 163), none⟩, false, []⟩, ⟨7, [], ⟨some 165, .mv (.t 0), none⟩, false, []⟩, ⟨8, [], ⟨some 166, .mv (.t 23), none⟩, false, []⟩, ⟨9, [7, 8], ⟨some 167, .ia none 4 (.t 165) (.t 166), none⟩, false, []⟩, ⟨10, [7, 8, 9], ⟨some 168, .ld true 4 (.t 167), none⟩, false, []⟩, ⟨11, [0, 1, 2, 3, 4, 5, 6, 7, 8, 9, 10], ⟨some 169, .cv (.t 158) [(.t 164), (.t 168)], none⟩, true, []⟩, ⟨12, [0, 1, 2, 3, 4, 5, 6, 7, 8, 9, 10, 11], ⟨some 170, .bin .lss (.t 169) (.c (.int .i64 0)), none⟩, false, []⟩, ⟨13, [0, 1, 2, 3, 4, 5, 6, 7, 8, 9, 10, 11, 12], ⟨some 171, .not (.t 170), none⟩, false, []⟩]) (.cond (.t 171) (.reg [⟨some 172, .mv (.t 23), none⟩, ⟨some 173, .bin .add (.t 172) (.c (.int .i64 1)), none⟩, ⟨some 20, .mv (.t 173), none⟩]) (.reg [⟨some 174, .mv (.t 23), none⟩, ⟨some 21, .mv (.t 174), none⟩])))))))) (.seq (.reg [⟨some 175, .mv (.t 19), none⟩, ⟨some 176, .mv (.t 20), none⟩, ⟨some 177, .bin .sub (.t 175) (.t 176), none⟩, ⟨some 24, .mv (.t 177), none⟩]) (.seq (.seq (.reg [⟨some 178, .mv (.t 20), none⟩, ⟨some 179, .mv (.t 2), none⟩, ⟨some 180, .bin .lss (.t 178) (.t 179), none⟩, ⟨some 181, .mv (.t 180), none⟩, ⟨some 182, .mv (.t 2), some (181, true)⟩, ⟨some 183, .mv (.t 24), some (181, true)⟩, ⟨some 184, .bin .lss (.t 182) (.t 183), some (181, true)⟩, ⟨some 185, .pick (.t 181) (.t 184) (.c (.bool false)), none⟩]) (.cond (.t 185) (.reg [⟨some 186, .mv (.t 0), none⟩, ⟨some 187, .mv (.t 20), none⟩, ⟨some 188, .mv (.t 2), none⟩, ⟨some 189, .mv (.t 24), none⟩, ⟨some 190, .mv (.t 4), none⟩, ⟨some 191, .call 198 [(.t 186), (.t 187), (.t 188), (.t 189), (.t 190)], none⟩]) (.skip))) (.seq (.seq (.reg [⟨some 192, .mv (.t 1), none⟩, ⟨some 193, .mv (.t 20), none⟩, ⟨some 194, .bin .lss (.t 192) (.t 193), none⟩, ⟨some 195, .mv (.t 194), none⟩, ⟨some 196, .mv (.t 20), some (195, true)⟩, ⟨some 197, .mv (.t 18), some (195, true)⟩, ⟨some 198, .bin .lss (.t 196) (.t 197), some (195, true)⟩, ⟨some 199, .pick (.t 195) (.t 198) (.c (.bool false)), none⟩]) (.cond (.t 199) (.reg [⟨some 200, .mv (.t 0), none⟩, ⟨some 201, .mv (.t 1), none⟩, ⟨some 202, .mv (.t 20), none⟩, ⟨some 203, .mv (.t 18), none⟩, ⟨some 204, .mv (.t 4), none⟩, ⟨some 205, .call 192 [(.t 200), (.t 201), (.t 202), (.t 203), (.t 204)], none⟩]) (.skip))) (.seq (.reg [⟨some 206, .mv (.t 18), none⟩, ⟨some 207, .mv (.t 24), none⟩, ⟨some 208, .bin .lss (.t 206) (.t 207), none⟩, ⟨some 209, .mv (.t 208), none⟩, ⟨some 210, .mv (.t 24), some (209, true)⟩, ⟨some 211, .mv (.t 3), some (209, true)⟩, ⟨some 212, .bin .lss (.t 210) (.t 211), some (209, true)⟩, ⟨some 213, .pick (.t 209) (.t 212) (.c (.bool false)), none⟩]) (.cond (.t 213) (.reg [⟨some 214, .mv (.t 0), none⟩, ⟨some 215, .mv (.t 18), none⟩, ⟨some 216, .mv (.t 24), none⟩, ⟨some 217, .mv (.t 3), none⟩, ⟨some 218, .mv (.t 4), none⟩, ⟨some 219, .call 192 [(.t 214), (.t 215), (.t 216), (.t 217), (.t 218)], none⟩]) (.skip))))))))))))), res := [] }
def c193 : VF := { code := .seq (.reg [⟨some 2, .mv (.c (.int .i64 0)), none⟩]) (.seq (.reg [⟨some 3, .mv (.t 0), none⟩, ⟨some 4, .bin .mul (.t 3) (.c (.int .i64 78913)), none⟩, ⟨some 5, .bin .shr (.t 4) (.c (.int .u64 18)), none⟩, ⟨some 2, .mv (.t 5), none⟩]) (.ret)), res := [(2, none)] }
def c194 : VF := { code := .seq (.reg [⟨some 2, .mv (.c (.int .i64 0)), none⟩]) (.seq (.seq (.reg [⟨some 3, .mv (.t 0), none⟩, ⟨some 4, .bin .geq (.t 3) (.c (.int .u64 4294967296)), none⟩]) (.cond (.t 4) (.seq (.reg [⟨some 5, .mv (.t 0), none⟩, ⟨some 6, .bin .shr (.t 5) (.c (.int .u64 32)), none⟩, ⟨some 0, .mv (.t 6), none⟩]) (.reg [⟨some 2, .mv (.c (.int .i64 32)), none⟩])) (.skip))) (.seq (.seq (.reg [⟨some 7, .mv (.t 0), none⟩, ⟨some 8, .bin .geq (.t 7) (.c (.int .u64 65536)), none⟩]) (.cond (.t 8) (.seq (.reg [⟨some 9, .mv (.t 0), none⟩, ⟨some 10, .bin .shr (.t 9) (.c (.int .u64 16)), none⟩, ⟨some 0, .mv (.t 10), none⟩]) (.reg [⟨some 11, .mv (.t 2), none⟩, ⟨some 12, .bin .add (.t 11) (.c (.int .i64 16)), none⟩, ⟨some 2, .mv (.t 12), none⟩])) (.skip))) (.seq (.seq (.reg [⟨some 13, .mv (.t 0), none⟩, ⟨some 14, .bin .geq (.t 13) (.c (.int .u64 256)), none⟩]) (.cond (.t 14) (.seq (.reg [⟨some 15, .mv (.t 0), none⟩, ⟨some 16, .bin .shr (.t 15) (.c (.int .u64 8)), none⟩, ⟨some 0, .mv (.t 16), none⟩]) (.reg [⟨some 17, .mv (.t 2), none⟩, ⟨some 18, .bin .add (.t 17) (.c (.int .i64 8)), none⟩, ⟨some 2, .mv (.t 18), none⟩])) (.skip))) (.seq (.reg [⟨some 19, .mv (.t 2), none⟩, ⟨some 20, .mv (.t 0), none⟩, ⟨some 21, .wrp .u8 (.t 20), none⟩, ⟨some 22, .ix (.c (.str [0, 1, 2, 2, 3, 3, 3, 3, 4, 4, 4, 4, 4, 4, 4, 4, 5, 5, 5, 5, 5, 5, 5, 5, 5, 5, 5, 5, 5, 5, 5, 5, 6, 6, 6, 6, 6, 6, 6, 6, 6, 6, 6, 6, 6, 6, 6, 6, 6, 6, 6, 6, 6, 6, 6, 6, 6, 6, 6, 6, 6, 6, 6, 6, 7, 7, 7, 7, 7, 7, 7, 7, 7, 7, 7, 7, 7, 7, 7, 7, 7, 7, 7, 7, 7, 7, 7, 7, 7, 7, 7, 7, 7, 7, 7, 7, 7, 7, 7, 7, 7, 7, 7, 7, 7, 7, 7, 7, 7, 7, 7, 7, 7, 7, 7, 7, 7, 7, 7, 7, 7, 7, 7, 7, 7, 7, 7, 7, 8, 8, 8, 8, 8, 8, 8, 8, 8, 8, 8, 8, 8, 8, 8, 8, 8, 8, 8, 8, 8, 8, 8, 8, 8, 8, 8, 8, 8, 8, 8, 8, 8, 8, 8, 8, 8, 8, 8, 8, 8, 8, 8, 8, 8, 8, 8, 8, 8, 8, 8, 8, 8, 8, 8, 8, 8, 8, 8, 8, 8, 8, 8, 8, 8, 8, 8, 8, 8, 8, 8, 8, 8, 8, 8, 8, 8, 8, 8, 8, 8, 8, 8, 8, 8, 8, 8, 8, 8, 8, 8, 8, 8, 8, 8, 8, 8, 8, 8, 8, 8, 8, 8, 8, 8, 8, 8, 8, 8, 8, 8, 8, 8, 8, 8, 8, 8, 8, 8, 8, 8, 8, 8, 8, 8, 8, 8, 8])) (.t 21), none⟩, ⟨some 23, .wrp .i64 (.t 22), none⟩, ⟨some 24, .bin .add (.t 19) (.t 23), none⟩, ⟨some 2, .mv (.t 24), none⟩]) (.ret))))), res := [(2, none)] }
def c195 : VF := { code := .seq (.reg [⟨some 2, .mv (.c (.int .i64 0)), none⟩]) (.seq (.seq (.reg [⟨some 3, .mv (.t 0), none⟩]) (.cond (.t 3) (.seq (.reg [⟨some 2, .mv (.c (.int .i64 1)), none⟩]) (.ret)) (.skip))) (.seq (.reg [⟨some 2, .mv (.c (.int .i64 0)), none⟩]) (.ret))), res := [(2, none)] }
def c196 : VF := { code := .seq (.reg [⟨some 2, .mv (.c (.bool false)), none⟩]) (.seq (.reg [⟨some 3, .mv (.t 0), none⟩, ⟨some 4, .mv (.t 0), none⟩, ⟨some 5, .bin .sub (.t 4) (.c (.int .i64 1)), none⟩, ⟨some 6, .bin .and (.t 3) (.t 5), none⟩, ⟨some 7, .bin .eql (.t 6) (.c (.int .i64 0)), none⟩, ⟨some 2, .mv (.t 7), none⟩]) (.ret)), res := [(2, none)] }
def c197 : VF := { code := .seq (.reg [⟨some 2, .mv (.c (.int .i64 0)), none⟩]) (.seq (.cond (.c (.bool false)) (.seq (.reg [⟨some 3, .mv (.t 0), none⟩, ⟨some 4, .wrp .u32 (.t 3), none⟩, ⟨some 5, .call 199 [(.t 4)], none⟩, ⟨some 2, .mv (.t 5), none⟩]) (.ret)) (.skip)) (.seq (.reg [⟨some 6, .mv (.t 0), none⟩, ⟨some 7, .call 200 [(.t 6)], none⟩, ⟨some 2, .mv (.t 7), none⟩]) (.ret))), res := [(2, none)] }
def c198 : VF := { code := .seq (.reg [⟨some 12, .mv (.t 2), none⟩, ⟨some 13, .mv (.t 1), none⟩, ⟨some 14, .bin .sub (.t 12) (.t 13), none⟩, ⟨some 10, .mv (.t 14), none⟩]) (.seq (.reg [⟨some 15, .mv (.t 3), none⟩, ⟨some 16, .mv (.t 2), none⟩, ⟨some 17, .bin .sub (.t 15) (.t 16), none⟩, ⟨some 11, .mv (.t 17), none⟩]) (.seq (.block 0 (.loop [0, 2, 4, 10, 11] (.seq (.seq (.reg [⟨some 18, .mv (.t 10), none⟩, ⟨some 19, .mv (.t 11), none⟩, ⟨some 20, .bin .neq (.t 18) (.t 19), none⟩]) (.cond (.t 20) (.skip) (.exit 0))) (.block 1 (.seq (.reg [⟨some 21, .mv (.t 10), none⟩, ⟨some 22, .mv (.t 11), none⟩, ⟨some 23, .bin .gtr (.t 21) (.t 22), none⟩]) (.cond (.t 23) (.seq (.reg [⟨some 24, .mv (.t 0), none⟩, ⟨some 25, .mv (.t 2), none⟩, ⟨some 26, .mv (.t 10), none⟩, ⟨some 27, .bin .sub (.t 25) (.t 26), none⟩, ⟨some 28, .mv (.t 2), none⟩, ⟨some 29, .mv (.t 11), none⟩, ⟨some 30, .mv (.t 4), none⟩, ⟨some 31, .call 201 [(.t 24), (.t 27), (.t 28), (.t 29), (.t 30)], none⟩]) (.reg [⟨some 32, .mv (.t 10), none⟩, ⟨some 33, .mv (.t 11), none⟩, ⟨some 34, .bin .sub (.t 32) (.t 33), none⟩, ⟨some 10, .mv (.t 34), none⟩])) (.seq (.reg [⟨some 35, .mv (.t 0), none⟩, ⟨some 36, .mv (.t 2), none⟩, ⟨some 37, .mv (.t 10), none⟩, ⟨some 38, .bin .sub (.t 36) (.t 37), none⟩, ⟨some 39, .mv (.t 2), none⟩, ⟨some 40, .mv (.t 11), none⟩, ⟨some 41, .bin .add (.t 39) (.t 40), none⟩, ⟨some 42, .mv (.t 10), none⟩, ⟨some 43, .bin .sub (.t 41) (.t 42), none⟩, ⟨some 44, .mv (.t 10), none⟩, ⟨some 45, .mv (.t 4), none⟩, ⟨some 46, .call 201 [(.t 35), (.t 38), (.t 43), (.t 44), (.t 45)], none⟩]) (.reg [⟨some 47, .mv (.t 11), none⟩, ⟨some 48, .mv (.t 10), none⟩, ⟨some 49, .bin .sub (.t 47) (.t 48), none⟩, ⟨some 11, .mv (.t 49), none⟩])))))))) (.reg [⟨some 50, .mv (.t 0), none⟩, ⟨some 51, .mv (.t 2), none⟩, ⟨some 52, .mv (.t 10), none⟩, ⟨some 53, .bin .sub (.t 51) (.t 52), none⟩, ⟨some 54, .mv (.t 2), none⟩, ⟨some 55, .mv (.t 10), none⟩, ⟨some 56, .mv (.t 4), none⟩, ⟨some 57, .call 201 [(.t 50), (.t 53), (.t 54), (.t 55), (.t 56)], none⟩]))), res := [] }
def c199 : VF := { code := .seq (.reg [⟨some 2, .mv (.c (.int .i64 0)), none⟩]) (.seq (.seq (.reg [⟨some 3, .mv (.t 0), none⟩, ⟨some 4, .bin .eql (.t 3) (.c (.int .u32 0)), none⟩]) (.cond (.t 4) (.seq (.reg [⟨some 2, .mv (.c (.int .i64 32)), none⟩]) (.ret)) (.skip))) (.seq (.reg [⟨some 5, .mv (.t 0), none⟩, ⟨some 6, .mv (.t 0), none⟩, ⟨some 7, .neg (.t 6), none⟩, ⟨some 8, .bin .and (.t 5) (.t 7), none⟩, ⟨some 9, .bin .mul (.t 8) (.c (.int .u32 125613361)), none⟩, ⟨some 10, .bin .shr (.t 9) (.c (.int .u64 27)), none⟩, ⟨some 11, .bad, none⟩, ⟨some 12, .ld false 1 (.t 11), none⟩, ⟨some 13, .wrp .i64 (.t 12), none⟩, ⟨some 2, .mv (.t 13), none⟩]) (.ret))), res := [(2, none)] }
def c200 : VF := { code := .seq (.reg [⟨some 2, .mv (.c (.int .i64 0)), none⟩]) (.seq (.seq (.reg [⟨some 3, .mv (.t 0), none⟩, ⟨some 4, .bin .eql (.t 3) (.c (.int .u64 0)), none⟩]) (.cond (.t 4) (.seq (.reg [⟨some 2, .mv (.c (.int .i64 64)), none⟩]) (.ret)) (.skip))) (.seq (.reg [⟨some 5, .mv (.t 0), none⟩, ⟨some 6, .mv (.t 0), none⟩, ⟨some 7, .neg (.t 6), none⟩, ⟨some 8, .bin .and (.t 5) (.t 7), none⟩, ⟨some 9, .bin .mul (.t 8) (.c (.int .u64 285870213051353865)), none⟩, ⟨some 10, .bin .shr (.t 9) (.c (.int .u64 58)), none⟩, ⟨some 11, .bad, none⟩, ⟨some 12, .ld false 1 (.t 11), none⟩, ⟨some 13, .wrp .i64 (.t 12), none⟩, ⟨some 2, .mv (.t 13), none⟩]) (.ret))), res := [(2, none)] }
def c201 : VF := { code := .seq (.reg [⟨some 10, .mv (.c (.int .i64 0)), none⟩]) (.block 0 (.loop [0, 1, 2, 3, 10] (.seq (.seq (.reg [⟨some 11, .mv (.t 10), none⟩, ⟨some 12, .mv (.t 3), none⟩, ⟨some 13, .bin .lss (.t 11) (.t 12), none⟩]) (.cond (.t 13) (.skip) (.exit 0))) (.seq (.block 1 (.drw [⟨0, [], ⟨some 16, .mv (.t 0), none⟩, false, []⟩, ⟨1, [], ⟨some 17, .mv (.t 1), none⟩, false, []⟩, ⟨2, [], ⟨some 18, .mv (.t 10), none⟩, false, []⟩, ⟨3, [1, 2], ⟨some 19, .bin .add (.t 17) (.t 18), none⟩, false, []⟩, ⟨4, [], ⟨some 20, .mv (.t 0), none⟩, false, []⟩, ⟨5, [], ⟨some 21, .mv (.t 2), none⟩, false, []⟩, ⟨6, [], ⟨some 22, .mv (.t 10), none⟩, false, []⟩, ⟨7, [5, 6], ⟨some 23, .bin .add (.t 21) (.t 22), none⟩, false, []⟩, ⟨8, [], ⟨some 24, .mv (.t 0), none⟩, false, []⟩, ⟨9, [], ⟨some 25, .mv (.t 2), none⟩, false, []⟩, ⟨10, [], ⟨some 26, .mv (.t 10), none⟩, false, []⟩, ⟨11, [9, 10], ⟨some 27, .bin .add (.t 25) (.t 26), none⟩, false, []⟩, ⟨12, [8, 9, 10, 11], ⟨some 28, .ia none 4 (.t 24) (.t 27), none⟩, false, []⟩, ⟨13, [8, 9, 10, 11, 12], ⟨some 29, .ld true 4 (.t 28), none⟩, false, []⟩, ⟨14, [], ⟨some 30, .mv (.t 0), none⟩, false, []⟩, ⟨15, [], ⟨some 31, .mv (.t 1), none⟩, false, []⟩, ⟨16, [], ⟨some 32, .mv (.t 10), none⟩, false, []⟩, ⟨17, [15, 16], ⟨some 33, .bin .add (.t 31) (.t 32), none⟩, false, []⟩, ⟨18, [14, 15, 16, 17], ⟨some 34, .ia none 4 (.t 30) (.t 33), none⟩, false, []⟩, ⟨19, [14, 15, 16, 17, 18], ⟨some 35, .ld true 4 (.t 34), none⟩, false, []⟩, ⟨20, [0, 1, 2, 3, 8, 9, 10, 11, 12, 13, 14, 15, 16, 17, 18, 19], ⟨some 36, .ia none 4 (.t 16) (.t 19), none⟩, false, []⟩, ⟨21, [0, 1, 2, 3, 8, 9, 10, 11, 12, 13, 14, 15, 16, 17, 18, 19, 20], ⟨none, .st true 4 (.t 36) (.t 29), none⟩, true, []⟩, ⟨22, [0, 1, 2, 3, 4, 5, 6, 7, 8, 9, 10, 11, 12, 13, 14, 15, 16, 17, 18, 19, 20, 21], ⟨some 37, .ia none 4 (.t 20) (.t 23), none⟩, false, []⟩, ⟨23, [0, 1, 2, 3, 4, 5, 6, 7, 8, 9, 10, 11, 12, 13, 14, 15, 16, 17, 18, 19, 20, 21, 22], ⟨none, .st true 4 (.t 37) (.t 35), none⟩, true, []⟩])) (.reg [⟨some 14, .mv (.t 10), none⟩, ⟨some 15, .bin .add (.t 14) (.c (.int .i64 1)), none⟩, ⟨some 10, .mv (.t 15), none⟩]))))), res := [] }
def c231 : VF := { code := .seq (.reg [⟨some 0, .bd [.int .u8 0, .int .u8 0, .int .u8 0, .int .u8 0, .int .u8 0, .int .u8 0, .int .u8 0, .int .u8 0, .int .u8 0, .int .u8 0, .int .u8 0, .int .u8 0, .int .u8 0, .int .u8 0, .int .u8 0, .int .u8 0, .int .u8 0, .int .u8 0, .int .u8 0, .int .u8 0, .int .u8 0, .int .u8 0, .int .u8 0, .int .u8 0, .int .u8 0, .int .u8 0, .int .u8 0, .int .u8 0, .int .u8 0, .int .u8 0, .int .u8 0, .int .u8 0] [(0, 1, (.c (.int .u8 0))), (1, 1, (.c (.int .u8 1))), (2, 1, (.c (.int .u8 28))), (3, 1, (.c (.int .u8 2))), (4, 1, (.c (.int .u8 29))), (5, 1, (.c (.int .u8 14))), (6, 1, (.c (.int .u8 24))), (7, 1, (.c (.int .u8 3))), (8, 1, (.c (.int .u8 30))), (9, 1, (.c (.int .u8 22))), (10, 1, (.c (.int .u8 20))), (11, 1, (.c (.int .u8 15))), (12, 1, (.c (.int .u8 25))), (13, 1, (.c (.int .u8 17))), (14, 1, (.c (.int .u8 4))), (15, 1, (.c (.int .u8 8))), (16, 1, (.c (.int .u8 31))), (17, 1, (.c (.int .u8 27))), (18, 1, (.c (.int .u8 13))), (19, 1, (.c (.int .u8 23))), (20, 1, (.c (.int .u8 21))), (21, 1, (.c (.int .u8 19))), (22, 1, (.c (.int .u8 16))), (23, 1, (.c (.int .u8 7))), (24, 1, (.c (.int .u8 26))), (25, 1, (.c (.int .u8 12))), (26, 1, (.c (.int .u8 18))), (27, 1, (.c (.int .u8 6))), (28, 1, (.c (.int .u8 11))), (29, 1, (.c (.int .u8 5))), (30, 1, (.c (.int .u8 10))), (31, 1, (.c (.int .u8 9)))], none⟩, ⟨none, .bad, none⟩]) (.seq (.reg [⟨some 1, .bd [.int .u8 0, .int .u8 0, .int .u8 0, .int .u8 0, .int .u8 0, .int .u8 0, .int .u8 0, .int .u8 0, .int .u8 0, .int .u8 0, .int .u8 0, .int .u8 0, .int .u8 0, .int .u8 0, .int .u8 0, .int .u8 0, .int .u8 0, .int .u8 0, .int .u8 0, .int .u8 0, .int .u8 0, .int .u8 0, .int .u8 0, .int .u8 0, .int .u8 0, .int .u8 0, .int .u8 0, .int .u8 0, .int .u8 0, .int .u8 0, .int .u8 0, .int .u8 0, .int .u8 0, .int .u8 0, .int .u8 0, .int .u8 0, .int .u8 0, .int .u8 0, .int .u8 0, .int .u8 0, .int .u8 0, .int .u8 0, .int .u8 0, .int .u8 0, .int .u8 0, .int .u8 0, .int .u8 0, .int .u8 0, .int .u8 0, .int .u8 0, .int .u8 0, .int .u8 0, .int .u8 0, .int .u8 0, .int .u8 0, .int .u8 0, .int .u8 0, .int .u8 0, .int .u8 0, .int .u8 0, .int .u8 0, .int .u8 0, .int .u8 0, .int .u8 0] [(0, 1, (.c (.int .u8 0))), (1, 1, (.c (.int .u8 1))), (2, 1, (.c (.int .u8 56))), (3, 1, (.c (.int .u8 2))), (4, 1, (.c (.int .u8 57))), (5, 1, (.c (.int .u8 49))), (6, 1, (.c (.int .u8 28))), (7, 1, (.c (.int .u8 3))), (8, 1, (.c (.int .u8 61))), (9, 1, (.c (.int .u8 58))), (10, 1, (.c (.int .u8 42))), (11, 1, (.c (.int .u8 50))), (12, 1, (.c (.int .u8 38))), (13, 1, (.c (.int .u8 29))), (14, 1, (.c (.int .u8 17))), (15, 1, (.c (.int .u8 4))), (16, 1, (.c (.int .u8 62))), (17, 1, (.c (.int .u8 47))), (18, 1, (.c (.int .u8 59))), (19, 1, (.c (.int .u8 36))), (20, 1, (.c (.int .u8 45))), (21, 1, (.c (.int .u8 43))), (22, 1, (.c (.int .u8 51))), (23, 1, (.c (.int .u8 22))), (24, 1, (.c (.int .u8 53))), (25, 1, (.c (.int .u8 39))), (26, 1, (.c (.int .u8 33))), (27, 1, (.c (.int .u8 30))), (28, 1, (.c (.int .u8 24))), (29, 1, (.c (.int .u8 18))), (30, 1, (.c (.int .u8 12))), (31, 1, (.c (.int .u8 5))), (32, 1, (.c (.int .u8 63))), (33, 1, (.c (.int .u8 55))), (34, 1, (.c (.int .u8 48))), (35, 1, (.c (.int .u8 27))), (36, 1, (.c (.int .u8 60))), (37, 1, (.c (.int .u8 41))), (38, 1, (.c (.int .u8 37))), (39, 1, (.c (.int .u8 16))), (40, 1, (.c (.int .u8 46))), (41, 1, (.c (.int .u8 35))), (42, 1, (.c (.int .u8 44))), (43, 1, (.c (.int .u8 21))), (44, 1, (.c (.int .u8 52))), (45, 1, (.c (.int .u8 32))), (46, 1, (.c (.int .u8 23))), (47, 1, (.c (.int .u8 11))), (48, 1, (.c (.int .u8 54))), (49, 1, (.c (.int .u8 26))), (50, 1, (.c (.int .u8 40))), (51, 1, (.c (.int .u8 15))), (52, 1, (.c (.int .u8 34))), (53, 1, (.c (.int .u8 20))), (54, 1, (.c (.int .u8 31))), (55, 1, (.c (.int .u8 10))), (56, 1, (.c (.int .u8 25))), (57, 1, (.c (.int .u8 14))), (58, 1, (.c (.int .u8 19))), (59, 1, (.c (.int .u8 9))), (60, 1, (.c (.int .u8 13))), (61, 1, (.c (.int .u8 8))), (62, 1, (.c (.int .u8 7))), (63, 1, (.c (.int .u8 6)))], none⟩, ⟨none, .bad, none⟩]) (.seq (.reg [⟨some 2, .bd [.int .u64 0, .int .u64 0, .int .u64 0, .int .u64 0, .int .u64 0, .int .u64 0, .int .u64 0, .int .u64 0, .int .u64 0, .int .u64 0, .int .u64 0, .int .u64 0, .int .u64 0, .int .u64 0, .int .u64 0, .int .u64 0, .int .u64 0, .int .u64 0, .int .u64 0, .int .u64 0] [(0, 1, (.c (.int .u64 1))), (1, 1, (.c (.int .u64 10))), (2, 1, (.c (.int .u64 100))), (3, 1, (.c (.int .u64 1000))), (4, 1, (.c (.int .u64 10000))), (5, 1, (.c (.int .u64 100000))), (6, 1, (.c (.int .u64 1000000))), (7, 1, (.c (.int .u64 10000000))), (8, 1, (.c (.int .u64 100000000))), (9, 1, (.c (.int .u64 1000000000))), (10, 1, (.c (.int .u64 10000000000))), (11, 1, (.c (.int .u64 100000000000))), (12, 1, (.c (.int .u64 1000000000000))), (13, 1, (.c (.int .u64 10000000000000))), (14, 1, (.c (.int .u64 100000000000000))), (15, 1, (.c (.int .u64 1000000000000000))), (16, 1, (.c (.int .u64 10000000000000000))), (17, 1, (.c (.int .u64 100000000000000000))), (18, 1, (.c (.int .u64 1000000000000000000))), (19, 1, (.c (.int .u64 10000000000000000000)))], none⟩, ⟨none, .bad, none⟩]) (.seq (.reg [⟨some 3, .bd [.int .u8 0, .int .u8 0] [(0, 1, (.c (.int .u8 128))), (1, 1, (.c (.int .u8 191)))], none⟩, ⟨some 4, .bd [.int .u8 0, .int .u8 0] [(0, 1, (.c (.int .u8 160))), (1, 1, (.c (.int .u8 191)))], none⟩, ⟨some 5, .bd [.int .u8 0, .int .u8 0] [(0, 1, (.c (.int .u8 128))), (1, 1, (.c (.int .u8 159)))], none⟩, ⟨some 6, .bd [.int .u8 0, .int .u8 0] [(0, 1, (.c (.int .u8 144))), (1, 1, (.c (.int .u8 191)))], none⟩, ⟨some 7, .bd [.int .u8 0, .int .u8 0] [(0, 1, (.c (.int .u8 128))), (1, 1, (.c (.int .u8 143)))], none⟩, ⟨some 8, .bd [.int .u8 0, .int .u8 0, .int .u8 0, .int .u8 0, .int .u8 0, .int .u8 0, .int .u8 0, .int .u8 0, .int .u8 0, .int .u8 0, .int .u8 0, .int .u8 0, .int .u8 0, .int .u8 0, .int .u8 0, .int .u8 0, .int .u8 0, .int .u8 0, .int .u8 0, .int .u8 0, .int .u8 0, .int .u8 0, .int .u8 0, .int .u8 0, .int .u8 0, .int .u8 0, .int .u8 0, .int .u8 0, .int .u8 0, .int .u8 0, .int .u8 0, .int .u8 0] [(0, 2, (.t 3)), (2, 2, (.t 4)), (4, 2, (.t 5)), (6, 2, (.t 6)), (8, 2, (.t 7))], none⟩, ⟨none, .bad, none⟩]) (.seq (.reg [⟨some 9, .call 175 [(.c (.str [118, 97, 108, 117, 101, 32, 111, 117, 116, 32, 111, 102, 32, 114, 97, 110, 103, 101]))], none⟩, ⟨none, .bad, none⟩]) (.reg [⟨some 10, .call 175 [(.c (.str [105, 110, 118, 97, 108, 105, 100, 32, 115, 121, 110, 116, 97, 120]))], none⟩, ⟨none, .bad, none⟩]))))), res := [] }
end Go.Vm

/-
  The machine V: a function's end; slices.Clone, whose test for nil V cannot answer.
-/
namespace Go.Vm
open Go Go.RowKit

section
variable {P : Program} {G : Gh} {B n : Nat} {w : World}

theorem body_end {fn : Func} {F : VF} {G' : Gh} {s0 s1 : St} {a' : Act} {w' : World} {v : V} {sg' : List Fr} {wd : Nat} (htr : trRes P fn.results.toList F.res = true) (sa : SA n G' B s1 a' w') (mo : Mo G B s0 w G' s1 w')
    (hl : leave F s1 = some (v, sg', wd)) {e : Exit} (he : e = .normal ∨ e = .ret) :
    bodyPost P fn (fun | .returned cv, w' => ∃ G', RetR G B s0.sg sg' v w G' cv w' | _, _ => False) e a' w' := by
  have hl' := hl
  unfold leave at hl'
  obtain ⟨vs, hvs, _⟩ := bind_some' hl'
  obtain ⟨cv, hcv, hRR⟩ := results_ok (fn := fn) sa.sr htr hvs
  obtain ⟨G2, ret⟩ := leave_ok sa.sr hvs hRR hl
  have hfin : a'.defers = [] ∧ ∃ v', (results fn a'.tmps).run P w' = .ok v' w' ∧ ∃ G', RetR G B s0.sg sg' v w G' v' w' := by
    refine ⟨sa.df, cv, hcv, G2, ret.wr, mo.im.trans ret.im, ?_, ?_, ?_, mo.be.trans ret.be⟩
    · have h1 := mo.up
      have h2 := ret.up
      rw [mo.ln] at h2
      exact h1.trans h2
    · exact ret.ln.trans mo.ln
    · have h2 := ret.v
      rw [mo.ln] at h2
      exact h2
  rcases he with rfl | rfl
  · exact hfin
  · exact hfin

theorem run_eqsl {d : Nat} {t e : TypeId} (ht : P.underlying t = some (.slice e)) (b : Option Addr) (x c : Nat) : (Op.equalIn (d + 1) t (.slice b x c) (.slice none 0 0)).run P w = .ok b.isNone w := by
  cases b <;> simp [Op.equalIn, run_underlying ht]
theorem eqg_sl {op : BinOp} {t : TypeId} {x y : Operand} {b : Option Addr} {n c : Nat} : (eqGuard op t x y (.slice b n c) (.slice none 0 0)).run P w = .ok () w := by
  unfold eqGuard; split <;> rfl
theorem run_eqs_nil {t e : TypeId} (ht : P.underlying t = some (.slice e)) (b : Option Addr) (x c : Nat) : (binOp .eql t (.slice b x c) (.slice none 0 0)).run P w = .ok (.bool b.isNone) w :=
  run_eql_other (P := P) (w := w) (n := false) (.inl ⟨rfl, rfl⟩) ⟨fun _ _ h => (by cases h), fun _ _ h => (by cases h), fun _ _ _ h => (by cases h), fun _ h => (by cases h)⟩ (run_eqsl (P := P) (w := w) (d := 9999) ht b x c)

theorem upd_if (e : Nat → V) (t : Nat) (v : V) (u : Nat) : upd e t v u = if u = t then v else e u := by
  unfold upd
  by_cases h : u = t
  · subst h; simp
  · rw [if_neg h]
    have : Nat.beq u t = false := by
      cases hb : Nat.beq u t with
      | false => rfl
      | true => exact absurd (Nat.eq_of_beq_eq_true hb) h
    rw [this]; rfl
theorem ble0 (n : Nat) : Nat.ble 0 n = true := Nat.ble_eq_true_of_le (Nat.zero_le n)
theorem beq_self (n : Nat) : Nat.beq n n = true := Nat.beq_refl n

/-- the two codes of slices.Clone: behind the test, yes and no; m: what it makes may be written -/
def cloneT (z : Nat) (m : Bool) : VC := .seq (.reg [⟨some 2, bif m then .nm z else .mv (.c (.sl .ex z [])), none⟩]) .ret
def cloneF (z : Nat) (m : Bool) : VC := .seq (.reg [⟨some 5, bif m then .bm z [] else .bl z [], none⟩, ⟨some 6, .mv (.t 0), none⟩, ⟨some 7, bif m then .am z (.t 5) (.t 6) else .app z (.t 5) (.t 6), none⟩, ⟨some 2, .mv (.t 7), none⟩]) .ret
def cloneVF (m : Bool) : VF := { code := .bad, res := [(2, none)], keepR := m }

/-- the code of slices.Clone, as it is -/
structure CloneFn (P : Program) (z : Nat) (m : Bool) (fn : Func) : Prop where
  nm : (fn.name == "runtime.NumGoroutine") = false
  ex : ∃ (i0 i1 : Nat) (ops0 : Array Oper) (o3 o4 : Oper) (c1 c2 : Code) (t t' e : TypeId),
    fn.body = some (.seq (.region i0 ops0 false) (.seq (.seq (.region i1 #[o3, o4] false) (.cond (.tmp 4) c1 .skip)) c2)) ∧
    trReg fn.ntmps P ops0 0 [⟨some 2, .mv (.c (.sl .ex z [])), none⟩] = true ∧
    trStep fn.ntmps P #[o3, o4] o3 ⟨some 3, .mv (.t 0), none⟩ = true ∧
    o4.op = .binOp .eql t (.tmp 3) (.const (.slice none 0 0)) t' ∧ o4.dst = some 4 ∧ o4.guard = none ∧ 4 < fn.ntmps ∧ P.underlying t = some (.slice e) ∧
    trC fn.ntmps P (cloneT z m) c1 = true ∧ trC fn.ntmps P (cloneF z m) c2 = true
  rs : trRes P fn.results.toList [(2, none)] = true

/-- what slices.Clone answers -/
def cloneR (z : Nat) (es : List V) (sg : List Fr) : Bool → Option (V × List Fr × Nat)
  | false => some (.sl .no z es, sg, 0)
  | true => match sg with
    | f :: r => some (.bs 0 f.length es.length 0 es.length, (f ++ [.arr es.length z es]) :: r, 1)
    | [] => none
/-- an element that may be copied -/
def cloneX (L : FuncId → Option (Nat × Bool)) : Call := fun f as sg =>
  match L f, as with
  | some (z, m), [.sl _ z' es] => bif Nat.beq z z' && (Nat.ble es.length lim && (!m || es.all cel)) then cloneR z es sg m else none
  | _, _ => none

theorem cloneX_q (L : FuncId → Option (Nat × Bool)) : CallQ (cloneX L) := by
  intro f as sg v sg' wd h
  unfold cloneX at h
  split at h
  · have h1 := bif_same h
    rename_i m _ _ _ _
    cases m with
    | false =>
      simp only [cloneR, Option.some.injEq, Prod.mk.injEq] at h1
      obtain ⟨_, rfl, _⟩ := h1
      exact ⟨rfl, fun _ _ => rfl⟩
    | true =>
      cases sg with
      | nil => cases h1
      | cons fr r =>
        simp only [cloneR, Option.some.injEq, Prod.mk.injEq] at h1
        obtain ⟨_, rfl, rfl⟩ := h1
        refine ⟨rfl, fun d hd => ?_⟩
        obtain ⟨k, rfl⟩ : ∃ k, d = k + 1 := ⟨d - 1, by omega⟩
        rfl
  · cases h

def noCall : Call := fun _ _ _ => none
theorem noCall_ok : CallOk P noCall := fun _ _ _ _ _ _ h => by cases h
theorem noCall_q : CallQ noCall := fun _ _ _ _ _ _ h => by cases h

theorem cloneT_run {z : Nat} {m : Bool} {C : Cfg} {call : Call} {s : St} (hfr : s.fr = []) (hwd : s.wd = 0) {R : V × List Fr × Nat} (hR : cloneR z [] s.sg m = some R) :
    ∃ S, execF C call 1 (cloneT z m) s = some (.ret, S) ∧ leave (cloneVF m) S = some R := by
  obtain ⟨tm, fr, sg, wd⟩ := s
  simp only at hfr hwd hR
  subst hfr; subst hwd
  cases m with
  | false =>
    cases hR
    exact ⟨_, rfl, rfl⟩
  | true =>
    cases sg with
    | nil => cases hR
    | cons f r =>
      cases hR
      exact ⟨_, rfl, rfl⟩

theorem cloneF_run {tk : Tok} {z : Nat} {m : Bool} {es : List V} {C : Cfg} {call : Call} {s : St} (h0 : s.tm 0 = .sl tk z es) (hfr : s.fr = []) (hwd : s.wd = 0) (hl : es.length ≤ lim) (hc : m = true → es.all cel = true) {R : V × List Fr × Nat} (hR : cloneR z es s.sg m = some R) :
    ∃ S, execF C call 1 (cloneF z m) s = some (.ret, S) ∧ leave (cloneVF m) S = some R := by
  obtain ⟨tm, fr, sg, wd⟩ := s
  simp only at h0 hfr hwd hR
  subst hfr; subst hwd
  cases m with
  | false =>
    cases hR
    cases es with
    | nil =>
      refine ⟨{ tm := upd (upd (upd (upd tm 5 (.sl .ex z [])) 6 (.sl tk z [])) 7 (.sl .ex z [])) 2 (.sl .ex z []), fr := [], sg, wd := 0 }, ?_, rfl⟩
      simp [cloneF, execF, runL, stepV, want, opV, Vm.put, rd, upd_if, beq_self, ble0, h0, els, appV, elV, lim]
    | cons e es =>
      have hl' : Nat.ble (es.length + 1) lim = true := Nat.ble_eq_true_of_le (by simpa using hl)
      refine ⟨{ tm := upd (upd (upd (upd tm 5 (.sl .ex z [])) 6 (.sl tk z (e :: es))) 7 (.sl (.at 0 0 (es.length + 1)) z (e :: es))) 2 (.sl (.at 0 0 (es.length + 1)) z (e :: es)), fr := [.tok (es.length + 1)], sg, wd := 0 }, ?_, rfl⟩
      simp [cloneF, execF, runL, stepV, want, opV, Vm.put, rd, upd_if, beq_self, ble0, h0, els, appV, elV, hl']
  | true =>
    cases sg with
    | nil => cases hR
    | cons f r =>
      cases hR
      have hc' := hc rfl
      cases es with
      | nil =>
        refine ⟨{ tm := upd (upd (upd (upd tm 5 (.bs 0 0 0 0 0)) 6 (.sl tk z [])) 7 (.bs 0 0 0 0 0)) 2 (.bs 0 0 0 0 0), fr := [.arr 0 z []], sg := f :: r, wd := 0 }, ?_, rfl⟩
        simp [cloneF, execF, runL, stepV, want, opV, Vm.put, rd, upd_if, beq_self, ble0, h0, els, amV, elV, lim, St.get, getB]
      | cons e es =>
        have hl' : Nat.ble (es.length + 1) lim = true := Nat.ble_eq_true_of_le (by simpa using hl)
        have hc1 : cel e = true := by simp at hc'; exact hc'.1
        have hc2 : es.all cel = true := by simp at hc'; simpa using hc'.2
        refine ⟨{ tm := upd (upd (upd (upd tm 5 (.bs 0 0 0 0 0)) 6 (.sl tk z (e :: es))) 7 (.bs 0 0 (es.length + 1) 0 (es.length + 1))) 2 (.bs 0 0 (es.length + 1) 0 (es.length + 1)), fr := [.arr (es.length + 1) z (e :: es)], sg := f :: r, wd := 0 }, ?_, rfl⟩
        simp [cloneF, execF, runL, stepV, want, opV, Vm.put, rd, upd_if, beq_self, ble0, h0, els, amV, elV, hl', St.get, getB, St.set, hc1, hc2]

theorem cloneX_ok {L : FuncId → Option (Nat × Bool)} (hm : P.follows .mixedOrders = true) (hL : ∀ f z m, L f = some (z, m) → ∃ fn, P.funcs[f]? = some fn ∧ CloneFn P z m fn) : CallOk P (cloneX L) := by
  intro f as sg v sg' wd h G B w A hwr hA hR
  unfold cloneX at h
  split at h
  case h_2 => cases h
  rename_i z m tk z' es hf
  obtain ⟨hb, h1⟩ := bif_opt' h
  simp only [Bool.and_eq_true] at hb
  have hz := Nat.eq_of_beq_eq_true hb.1
  have hlim := Nat.le_of_ble_eq_true hb.2.1
  have hcel : m = true → es.all cel = true := fun e => by have := hb.2.2; rw [e] at this; simpa using this
  subst hz
  obtain ⟨fn, hfn, hnm, ⟨i0, i1, ops0, o3, o4, c1, c2, t, t', e, hbody, hr0, ht3, h4, h4d, h4g, h4n, ht, hc1, hc2⟩, hrs⟩ := hL f z m hf
  have hrun : (callFunc f A).run P w = .ok (.enter f A) w := by
    simp [callFunc, hfn, hbody]
    intro h
    rw [h] at hnm
    simp at hnm
  let C0 : Cfg := { keepA := fun _ => false, meth := fun _ _ => none }
  let s0 : St := { tm := env [.sl tk z es], fr := [], sg := sg, wd := 0 }
  have hsa : SA fn.ntmps G B s0 { tmps := A ++ Array.replicate (fn.ntmps - A.size) undef, defers := [] } w := by
    refine ⟨⟨hwr, fun t => ?_⟩, by simp; omega, rfl⟩
    show VR _ _ sg.length (env [.sl tk z es] t) _
    rw [env_get]
    cases ht : ([.sl tk z es] : List V)[t]? with
    | none => exact .und _
    | some x =>
      have hlt : t < A.size := by rw [hA]; exact (List.getElem?_eq_some_iff.1 ht).1
      have hy : (A ++ Array.replicate (fn.ntmps - A.size) undef).getD t undef = A[t] := by
        simp [Array.getElem?_append_left hlt, hlt]
      rw [hy]
      exact hR t x A[t] ht (by simp [hlt])
  refine .inl ⟨hrun, calls_of_wp hfn hbody ?_⟩
  refine wp_seq (wp_region ?_)
  rw [List.range_eq_range']
  refine reg_ok (C := C0) noCall_ok _ 0 G s0 _ w hr0 hsa rfl fun a1 w1 G1 sa1 mo1 => ?_
  refine wp_seq (wp_seq (wp_region ?_))
  show wpOps P #[o3, o4] _ [0, 1] a1 w1
  rw [Go.wpOps_cons]
  refine step_ok (C := C0) noCall_ok ht3 sa1 (by rfl) rfl fun a2 w2 G2 sa2 mo2 => ?_
  rw [Go.wpOps_cons]
  have mo12 := mo1.trans mo2
  -- what the test says
  have hx : VR G2.im G2.ph sg.length (.sl tk z es) (a2.tmps.getD 3 undef) := by
    have h3 := sa2.sr.tr 3
    exact h3
  obtain ⟨ad, cap, g, hcv, _, hcap, ha, _⟩ := hx.sl_inv.sl_inv
  have h4run : (execOp a2.eval o4).run P w2 = .ok (.value (.bool ad.isNone)) w2 := by
    have e1 : a2.eval (.tmp 3) = .slice ad es.length cap := hcv
    have e2 : a2.eval (.const (.slice none 0 0)) = .slice none 0 0 := rfl
    simp only [execOp, h4, e1, e2, Sem.run_bind, eqg_sl, Result.andThen_ok, run_eqs_nil ht, Sem.run_pure]
  refine wpOp_do (o := o4) (by rfl) (by simp [Region.wanted, h4g]) ?_
  unfold Oper.wp
  rw [h4run, Oper.upon_value]
  simp only [wpOps]
  -- the state behind the test
  let s3 : St := Vm.put s0 (some 0) (.sl tk z es)
  have sa3 : ∀ s2 : St, SA fn.ntmps G2 B s2 a2 w2 → SA fn.ntmps G2 B (Vm.put s2 (some 4) (.bool ad.isNone)) (a2.put o4.dst (.bool ad.isNone)) w2 := fun s2 sa => by
    rw [h4d]
    exact ⟨sa.sr.put (.quiet sa.sr.wr (.pr _ _ (.bool _))) (fun t e => by cases e; exact Nat.lt_of_lt_of_le h4n sa.sz), by rw [Act.put_size]; exact sa.sz, by rw [Act.put_defers]; exact sa.df⟩
  have sa4 := sa3 _ sa2
  have heval : (a2.put o4.dst (.bool ad.isNone)).eval (.tmp 4) = .bool ad.isNone := by
    have h0 := sa4.sr.tr 4
    exact h0.bool_inv
  refine wp_cond_split heval (fun hn => ?_) (fun hn => ?_)
  · have h0 : es = [] := by
      cases ad with
      | none => exact List.eq_nil_of_length_eq_zero (by have := ha rfl; omega)
      | some _ => cases hn
    subst h0
    obtain ⟨S, hS, hlv⟩ := cloneT_run (C := C0) (call := noCall) (z := z) (m := m) (s := Vm.put (Vm.put (Vm.put s0 (some 2) (.sl .ex z [])) (some 3) (.sl tk z [])) (some 4) (.bool ad.isNone)) rfl rfl h1
    refine code_ok (C := C0) noCall_ok noCall_q hm 1 (cloneT z m) c1 G2 _ _ _ _ .ret _ hc1 sa4 hS fun a5 w5 G5 sa5 mo5 => ?_
    have moA : Mo G B s0 w G5 _ w5 := mo12.trans ⟨mo5.im, mo5.up, mo5.ln, mo5.be⟩
    exact body_end (F := cloneVF m) hrs sa5 moA hlv (.inr rfl)
  · obtain ⟨S, hS, hlv⟩ := cloneF_run (C := C0) (call := noCall) (z := z) (m := m) (es := es) (tk := tk) (s := Vm.put (Vm.put (Vm.put s0 (some 2) (.sl .ex z [])) (some 3) (.sl tk z es)) (some 4) (.bool ad.isNone)) rfl rfl rfl hlim hcel h1
    refine wp_skip ?_
    show Code.wp P c2 (bodyPost P fn _) _ _
    refine code_ok (C := C0) noCall_ok noCall_q hm 1 (cloneF z m) c2 G2 _ _ _ _ .ret _ hc2 sa4 hS fun a5 w5 G5 sa5 mo5 => ?_
    have moA : Mo G B s0 w G5 _ w5 := mo12.trans ⟨mo5.im, mo5.up, mo5.ln, mo5.be⟩
    exact body_end (F := cloneVF m) hrs sa5 moA hlv (.inr rfl)

end
end Go.Vm

/-
  The machine V: more fuel changes no answer; what is there in the end.
-/
namespace Go.Vm
open Go

/-- what the one answers the other answers too -/
def CallLe (c c' : Call) : Prop := ∀ f as sg r, c f as sg = some r → c' f as sg = some r
theorem CallLe.refl (c : Call) : CallLe c c := fun _ _ _ _ h => h
theorem CallLe.trans {a b c : Call} (h : CallLe a b) (k : CallLe b c) : CallLe a c := fun f as sg r e => k f as sg r (h f as sg r e)

/-- it asks calls, finitely often: more answers change nothing, and what a limit gives a stage gives -/
def Good {α : Type} (A : Nat → Call) (W : Call) (F : Call → Option α) : Prop :=
  (∀ c c', CallLe c c' → ∀ r, F c = some r → F c' = some r) ∧ (∀ r, F W = some r → ∃ m, F (A m) = some r)
def GoodB (A : Nat → Call) (W : Call) (F : Call → Bool) : Prop :=
  (∀ c c', CallLe c c' → F c = true → F c' = true) ∧ (F W = true → ∃ m, F (A m) = true)

section
variable {A : Nat → Call} {W : Call} {α β : Type}

theorem good_const (x : Option α) : Good A W (fun _ => x) := ⟨fun _ _ _ _ h => h, fun _ h => ⟨0, h⟩⟩

theorem good_bind (hA : ∀ m n, m ≤ n → CallLe (A m) (A n)) {F : Call → Option α} {K : α → Call → Option β} (hF : Good A W F) (hK : ∀ a, Good A W (K a)) :
    Good A W (fun c => (F c).bind fun a => K a c) := by
  refine ⟨fun c c' hc r h => ?_, fun r h => ?_⟩
  · obtain ⟨a, h1, h2⟩ := Option.bind_eq_some_iff.1 h
    exact Option.bind_eq_some_iff.2 ⟨a, hF.1 c c' hc a h1, (hK a).1 c c' hc r h2⟩
  · obtain ⟨a, h1, h2⟩ := Option.bind_eq_some_iff.1 h
    obtain ⟨m, h3⟩ := hF.2 a h1
    obtain ⟨n, h4⟩ := (hK a).2 r h2
    refine ⟨max m n, Option.bind_eq_some_iff.2 ⟨a, hF.1 _ _ (hA _ _ (Nat.le_max_left _ _)) a h3, (hK a).1 _ _ (hA _ _ (Nat.le_max_right _ _)) r h4⟩⟩

theorem good_map {F : Call → Option α} {g : α → β} (hF : Good A W F) : Good A W (fun c => (F c).map g) := by
  refine ⟨fun c c' hc r h => ?_, fun r h => ?_⟩
  · obtain ⟨a, h1, h2⟩ := Option.map_eq_some_iff.1 h
    exact Option.map_eq_some_iff.2 ⟨a, hF.1 c c' hc a h1, h2⟩
  · obtain ⟨a, h1, h2⟩ := Option.map_eq_some_iff.1 h
    obtain ⟨m, h3⟩ := hF.2 a h1
    exact ⟨m, Option.map_eq_some_iff.2 ⟨a, h3, h2⟩⟩

theorem good_guard (hA : ∀ m n, m ≤ n → CallLe (A m) (A n)) {F : Call → Bool} {K : Call → Option α} (hF : GoodB A W F) (hK : Good A W K) :
    Good A W (fun c => bif F c then K c else none) := by
  refine ⟨fun c c' hc r h => ?_, fun r h => ?_⟩
  · cases hb : F c with
    | false => simp [hb] at h
    | true => simp only [hb, cond_true] at h; simp only [hF.1 c c' hc hb, cond_true]; exact hK.1 c c' hc r h
  · cases hb : F W with
    | false => simp [hb] at h
    | true =>
      simp only [hb, cond_true] at h
      obtain ⟨m, h3⟩ := hF.2 hb
      obtain ⟨n, h4⟩ := hK.2 r h
      exact ⟨max m n, by simp only [hF.1 _ _ (hA _ _ (Nat.le_max_left _ _)) h3, cond_true]; exact hK.1 _ _ (hA _ _ (Nat.le_max_right _ _)) r h4⟩

theorem GoodB.congr {F G : Call → Bool} (h : GoodB A W F) (e : ∀ c, G c = F c) : GoodB A W G := by
  have : G = F := funext e
  rw [this]; exact h
theorem goodB_const (b : Bool) : GoodB A W (fun _ => b) := ⟨fun _ _ _ h => h, fun h => ⟨0, h⟩⟩
theorem goodB_and (hA : ∀ m n, m ≤ n → CallLe (A m) (A n)) {F K : Call → Bool} (hF : GoodB A W F) (hK : GoodB A W K) : GoodB A W (fun c => F c && K c) := by
  refine ⟨fun c c' hc h => ?_, fun h => ?_⟩
  · simp only [Bool.and_eq_true] at h ⊢
    exact ⟨hF.1 c c' hc h.1, hK.1 c c' hc h.2⟩
  · simp only [Bool.and_eq_true] at h
    obtain ⟨m, h3⟩ := hF.2 h.1
    obtain ⟨n, h4⟩ := hK.2 h.2
    exact ⟨max m n, by simp only [hF.1 _ _ (hA _ _ (Nat.le_max_left _ _)) h3, hK.1 _ _ (hA _ _ (Nat.le_max_right _ _)) h4, Bool.and_self]⟩
theorem goodB_all (hA : ∀ m n, m ≤ n → CallLe (A m) (A n)) {γ : Type} {F : γ → Call → Bool} (hF : ∀ x, GoodB A W (F x)) : ∀ l : List γ, GoodB A W (fun c => l.all fun x => F x c)
  | [] => goodB_const true
  | x :: l => goodB_and hA (hF x) (goodB_all hA hF l)
/-- an answer that is asked for a test -/
theorem goodB_test {F : Call → Option α} {g : α → Bool} (hF : Good A W F) : GoodB A W (fun c => match F c with | some a => g a | none => false) := by
  refine ⟨fun c c' hc h => ?_, fun h => ?_⟩
  · cases hb : F c with
    | none => simp [hb] at h
    | some a => simp only [hb] at h; simp only [hF.1 c c' hc a hb, h]
  · cases hb : F W with
    | none => simp [hb] at h
    | some a =>
      simp only [hb] at h
      obtain ⟨m, h3⟩ := hF.2 a hb
      exact ⟨m, by simp only [h3, h]⟩

/-- the chain's limit -/
def Limit (A : Nat → Call) (W : Call) : Prop := (∀ m n, m ≤ n → CallLe (A m) (A n)) ∧ ∀ f as sg r, W f as sg = some r → ∃ m, A m f as sg = some r

theorem good_call (hL : Limit A W) (f : FuncId) (as : List V) (sg : List Fr) : Good A W (fun c => c f as sg) :=
  ⟨fun _ _ hc r h => hc _ _ _ _ h, fun r h => hL.2 _ _ _ _ h⟩

variable {C : Cfg}
theorem good_doCall (hL : Limit A W) (f : FuncId) (as : List V) (s : St) : Good A W (fun c => doCall C c f as s) := by
  have h := good_bind (K := fun (r : V × List Fr × Nat) (_ : Call) => (match r with | (v, fr :: sg, wd) => some (v, { s with fr, sg, wd := max s.wd (wd - 1) }) | _ => none : Option (V × St))) hL.1 (good_call hL f (as.map (argV (C.keepA f))) (s.fr :: s.sg)) (fun a => good_const _)
  have e : (fun c : Call => doCall C c f as s) = fun c => (c f (as.map (argV (C.keepA f))) (s.fr :: s.sg)).bind fun r => (match r with | (v, fr :: sg, wd) => some (v, { s with fr, sg, wd := max s.wd (wd - 1) }) | _ => none : Option (V × St)) := by
    funext c
    unfold doCall
    cases c f (as.map (argV (C.keepA f))) (s.fr :: s.sg) with
    | none => rfl
    | some x => obtain ⟨v, _ | ⟨fr, sg⟩, wd⟩ := x <;> rfl
  rw [e]; exact h

theorem good_opV (hL : Limit A W) (o : VO) (s : St) : Good A W (fun c => opV C c o s) := by
  cases o with
  | call f as => exact good_doCall hL f _ s
  | cv f as =>
    show Good A W (fun c => doFn C c (rd s.tm f) (as.map (rd s.tm)) s)
    unfold doFn
    cases rd s.tm f <;> first | exact good_const none | exact good_doCall hL _ _ s
  | inv x m as =>
    show Good A W (fun c => match rd s.tm x with
      | .iface t v => (C.meth t m).bind fun f => doCall C c f (v :: as.map (rd s.tm)) s
      | _ => none)
    cases rd s.tm x <;> first | exact good_const none | skip
    exact good_bind hL.1 (good_const _) fun f => good_doCall hL f _ s
  | ia n sz x i => cases n <;> exact good_const _
  | _ => exact good_const _

theorem good_stepV (hL : Limit A W) (o : VOp) (s : St) : Good A W (fun c => stepV C c o s) := by
  unfold stepV
  cases want s o.g with
  | none => exact good_const _
  | some b => cases b with
    | false => exact good_const _
    | true => exact good_map (good_opV hL o.o s)

theorem good_runL (hL : Limit A W) : ∀ (os : List VOp) (s : St), Good A W (fun c => runL C c os s)
  | [], s => good_const _
  | o :: os, s => good_bind hL.1 (good_stepV hL o s) fun s1 => good_runL hL os s1

theorem good_callP (hL : Limit A W) (f : FuncId) (as : List V) (s : St) : Good A W (fun c => callP C c f as s) := by
  have h := good_bind (K := fun (r : V × List Fr × Nat) (_ : Call) => bif Nat.beq r.2.2 0 then some r.1 else none) hL.1 (good_call hL f (as.map (argV (C.keepA f))) (s.fr :: s.sg)) (fun a => good_const _)
  have e : (fun c : Call => callP C c f as s) = fun c => (c f (as.map (argV (C.keepA f))) (s.fr :: s.sg)).bind fun r => bif Nat.beq r.2.2 0 then some r.1 else none := by
    funext c
    unfold callP
    cases c f (as.map (argV (C.keepA f))) (s.fr :: s.sg) <;> rfl
  rw [e]; exact h
theorem good_opP (hL : Limit A W) (o : VO) (s : St) : Good A W (fun c => opP C c o s) := by
  have key : Good A W (fun c => bif pureO o then (opV C c o s).map (·.1) else none) := by
    cases pureO o with
    | false => exact good_const none
    | true => exact good_map (good_opV hL o s)
  cases o with
  | call f as => exact good_callP hL f _ s
  | cv f as =>
    show Good A W (fun c => fnP C c (rd s.tm f) (as.map (rd s.tm)) s)
    unfold fnP
    cases rd s.tm f <;> first | exact good_const none | exact good_callP hL _ _ s
  | _ => exact key
theorem good_stepP (hL : Limit A W) (o : VOp) (s : St) : Good A W (fun c => stepP C c o s) := by
  unfold stepP
  cases want s o.g with
  | none => exact good_const _
  | some b => cases b with
    | false => exact good_const _
    | true => exact good_map (good_opP hL o.o s)
theorem good_again (hL : Limit A W) (s : St) (o : VOp) : GoodB A W (fun c => again C c s o) := by
  unfold again
  cases want s o.g with
  | none => exact goodB_const _
  | some b => cases b with
    | false => exact goodB_const _
    | true =>
      cases o.d with
      | none => exact (goodB_const false).congr fun c => by cases opP C c o.o s <;> rfl
      | some t => exact (goodB_test (g := fun v => veq v (s.tm t)) (good_opP hL o.o s)).congr fun c => by cases opP C c o.o s <;> rfl
theorem good_againAt (hL : Limit A W) (all : List DOp) (s : St) (i : Nat) : GoodB A W (fun c => againAt C c all s i) := by
  unfold againAt
  cases opAt all i with
  | none => exact goodB_const _
  | some o => exact good_again hL s o
theorem good_drwV (hL : Limit A W) (all : List DOp) : ∀ (l : List DOp) (s : St), Good A W (fun c => drwV C c all l s)
  | [], s => good_const _
  | x :: l, s => by
    unfold drwV
    cases x.main with
    | true => exact good_bind hL.1 (good_stepV hL x.op s) fun s1 => good_guard hL.1 (goodB_all hL.1 (fun i => good_againAt hL all s1 i) x.re) (good_drwV hL all l s1)
    | false => exact good_bind hL.1 (good_stepP hL x.op s) fun s1 => good_drwV hL all l s1

theorem good_iter (hL : Limit A W) {body : Call → St → Option (Ex × St)} (hb : ∀ s, Good A W (fun c => body c s)) (n : Nat) (live : List Nat) : ∀ (k : Nat) (l : LS), Good A W (fun c => iter (body c) n live k l)
  | 0, l => good_const _
  | k + 1, l => by
    have h := good_bind (K := fun (r : Ex × St) (c : Call) => match r with | (.normal, s) => iter (body c) n live k (LS.next n live s) | r => some r) hL.1 (hb (l.st live)) (fun a => by
      obtain ⟨x, s⟩ := a
      cases x with
      | normal => exact good_iter hL hb n live k _
      | _ => exact good_const _)
    have e : (fun c : Call => iter (body c) n live (k + 1) l) = fun c => (body c (l.st live)).bind fun r => match r with | (.normal, s) => iter (body c) n live k (LS.next n live s) | r => some r := by
      funext c
      show (match body c (l.st live) with | some (.normal, s) => _ | r => r) = _
      cases body c (l.st live) with
      | none => rfl
      | some r => obtain ⟨x, s⟩ := r; cases x <;> rfl
    rw [e]; exact h

/-- behind a block -/
def outB (id : Nat) (r : Ex × St) : Ex × St := match r with
  | (.exit j, s) => bif Nat.beq j id then (.normal, s) else (.exit j, s)
  | r => r
theorem good_execF (hL : Limit A W) (fuel : Nat) : ∀ (p : VC) (s : St), Good A W (fun c => execF C c fuel p s)
  | .skip, s => good_const _
  | .reg ops, s => good_map (good_runL hL ops s)
  | .drw ops, s => good_map (good_drwV hL ops ops s)
  | .seq a b, s => by
    have h := good_bind (K := fun (r : Ex × St) (c : Call) => match r with | (.normal, s) => execF C c fuel b s | r => some r) hL.1 (good_execF hL fuel a s) (fun r => by
      obtain ⟨x, s⟩ := r
      cases x with
      | normal => exact good_execF hL fuel b _
      | _ => exact good_const _)
    have e : (fun c : Call => execF C c fuel (.seq a b) s) = fun c => (execF C c fuel a s).bind fun r => match r with | (.normal, s) => execF C c fuel b s | r => some r := by
      funext c
      show (match execF C c fuel a s with | some (.normal, s) => _ | r => r) = _
      cases execF C c fuel a s with
      | none => rfl
      | some r => obtain ⟨x, s⟩ := r; cases x <;> rfl
    rw [e]; exact h
  | .cond o t e, s => by
    show Good A W (fun c => match rd s.tm o with | .bool b => bif b then execF C c fuel t s else execF C c fuel e s | _ => none)
    cases rd s.tm o <;> first | exact good_const none | skip
    rename_i b
    cases b
    · exact good_execF hL fuel e s
    · exact good_execF hL fuel t s
  | .block id b, s => by
    have h := good_map (g := outB id) (good_execF hL fuel b s)
    have e : (fun c : Call => execF C c fuel (.block id b) s) = fun c => (execF C c fuel b s).map (outB id) := by
      funext c
      simp only [execF]
      cases execF C c fuel b s with
      | none => rfl
      | some r =>
        obtain ⟨x, s⟩ := r
        cases x with
        | exit j =>
          show _ = some (bif Nat.beq j id then _ else _)
          simp only
          cases Nat.beq j id <;> rfl
        | _ => rfl
    rw [e]; exact h
  | .loop live b, s => good_iter hL (fun s => good_execF hL fuel b s) _ _ _ _
  | .exit id, s => good_const _
  | .ret, s => good_const _
  | .bad, s => good_const _

-- ---------------------------------------------------------------- a loop's fuel

theorem iter_le {body body' : St → Option (Ex × St)} (hb : ∀ s r, body s = some r → body' s = some r) {n : Nat} {live : List Nat} : ∀ (k k' : Nat) (l : LS) (r : Ex × St), k ≤ k' → iter body n live k l = some r → iter body' n live k' l = some r
  | 0, _, _, _, _, h => by cases h
  | k + 1, 0, _, _, hk, _ => by omega
  | k + 1, k' + 1, l, r, hk, h => by
    simp only [iter] at h ⊢
    cases hx : body (l.st live) with
    | none => rw [hx] at h; cases h
    | some x =>
      rw [hx] at h; rw [hb _ _ hx]
      obtain ⟨x, s⟩ := x
      cases x with
      | normal => exact iter_le hb k k' _ r (by omega) h
      | _ => exact h

theorem execF_fuel {call : Call} {m n : Nat} (hmn : m ≤ n) : ∀ (p : VC) (s : St) (r : Ex × St), execF C call m p s = some r → execF C call n p s = some r
  | .skip, s, r, h => h
  | .reg ops, s, r, h => h
  | .drw ops, s, r, h => h
  | .seq a b, s, r, h => by
    simp only [execF] at h ⊢
    cases hx : execF C call m a s with
    | none => rw [hx] at h; cases h
    | some x =>
      rw [hx] at h; rw [execF_fuel hmn a s x hx]
      obtain ⟨x, s⟩ := x
      cases x with
      | normal => exact execF_fuel hmn b _ r h
      | _ => exact h
  | .cond o t e, s, r, h => by
    simp only [execF] at h ⊢
    cases hx : rd s.tm o with
    | bool b =>
      rw [hx] at h
      cases b
      · exact execF_fuel hmn e s r h
      · exact execF_fuel hmn t s r h
    | _ => rw [hx] at h; cases h
  | .block id b, s, r, h => by
    simp only [execF] at h ⊢
    cases hx : execF C call m b s with
    | none => rw [hx] at h; cases h
    | some x => rw [hx] at h; rw [execF_fuel hmn b s x hx]; exact h
  | .loop live b, s, r, h => iter_le (fun s r h => execF_fuel hmn b s r h) _ _ _ _ hmn h
  | .exit id, s, r, h => h
  | .ret, s, r, h => h
  | .bad, s, r, h => by cases h

end
end Go.Vm

/-
  The machine V: what a function answers, whatever the fuel; and how a code is gone through.
-/
namespace Go.Vm
open Go

/-- a table of functions, and of routines without a body -/
structure Tab where
  C : Cfg
  funs : FuncId → Option VF
  prim : Call

def Tab.at (T : Tab) (n : Nat) : Call := callF T.C T.funs T.prim n

open Classical in
/-- what a function answers -/
noncomputable def Tab.call (T : Tab) : Call := fun f as sg => if h : ∃ r n, T.at n f as sg = some r then some h.choose else none

section
variable {T : Tab}

theorem callF_succ {C : Cfg} {funs : FuncId → Option VF} {prim : Call} (n : Nat) (f : FuncId) (as : List V) (sg : List Fr) : callF C funs prim (n + 1) f as sg =
    match funs f with
    | some F => match execF C (callF C funs prim n) n F.code { tm := env as, fr := [], sg, wd := 0 } with
      | some (.normal, s) | some (.ret, s) => leave F s
      | _ => none
    | none => prim f as sg := rfl

theorem at_succ : ∀ n, CallLe (T.at n) (T.at (n + 1))
  | 0 => fun f as sg r h => by cases h
  | n + 1 => fun f as sg r h => by
    have ih := at_succ n
    unfold Tab.at at h ⊢
    rw [callF_succ] at h ⊢
    cases hF : T.funs f with
    | none => rw [hF] at h; exact h
    | some F =>
      rw [hF] at h
      have key : ∀ x, execF T.C (callF T.C T.funs T.prim n) n F.code { tm := env as, fr := [], sg, wd := 0 } = some x → execF T.C (callF T.C T.funs T.prim (n + 1)) (n + 1) F.code { tm := env as, fr := [], sg, wd := 0 } = some x := by
        intro x hx
        have g := good_execF (C := T.C) (A := fun _ => T.at n) (W := T.at n) ⟨fun _ _ _ => .refl _, fun f as sg r h => ⟨0, h⟩⟩ n F.code { tm := env as, fr := [], sg, wd := 0 }
        exact execF_fuel (Nat.le_succ n) _ _ _ (g.1 _ _ ih _ hx)
      simp only at h ⊢
      cases hx : execF T.C (callF T.C T.funs T.prim n) n F.code { tm := env as, fr := [], sg, wd := 0 } with
      | none => rw [hx] at h; cases h
      | some x => rw [hx] at h; rw [key _ hx]; exact h

theorem at_mono : ∀ m n, m ≤ n → CallLe (T.at m) (T.at n) := by
  intro m n h
  induction n with
  | zero => rw [Nat.le_zero.1 h]; exact .refl _
  | succ n ih =>
    rcases Nat.lt_or_ge n m with h1 | h1
    · have : m = n + 1 := by omega
      rw [this]; exact .refl _
    · exact (ih h1).trans (at_succ n)

theorem call_iff {f : FuncId} {as : List V} {sg : List Fr} {r : V × List Fr × Nat} : T.call f as sg = some r ↔ ∃ n, T.at n f as sg = some r := by
  unfold Tab.call
  constructor
  · intro h
    split at h
    · rename_i hh
      simp only [Option.some.injEq] at h
      obtain ⟨n, hn⟩ := hh.choose_spec
      exact ⟨n, by rw [hn, h]⟩
    · cases h
  · rintro ⟨n, hn⟩
    have hh : ∃ r n, T.at n f as sg = some r := ⟨r, n, hn⟩
    rw [dif_pos hh]
    obtain ⟨m, hm⟩ := hh.choose_spec
    have h1 := at_mono n (max m n) (Nat.le_max_right _ _) _ _ _ _ hn
    have h2 := at_mono m (max m n) (Nat.le_max_left _ _) _ _ _ _ hm
    rw [h1] at h2
    exact h2.symm ▸ rfl

theorem limit : Limit T.at T.call := ⟨at_mono, fun _ _ _ _ h => call_iff.1 h⟩

/-- a run that is found gives the answer -/
theorem call_of_at {n : Nat} {f : FuncId} {as : List V} {sg : List Fr} {r : V × List Fr × Nat} (h : callF T.C T.funs T.prim n f as sg = some r) : T.call f as sg = some r := call_iff.2 ⟨n, h⟩

-- ---------------------------------------------------------------- going through a code

/-- the code ends, so that Q -/
def Wp (T : Tab) (c : VC) (s : St) (Q : Ex → St → Prop) : Prop := ∃ n x s', execF T.C T.call n c s = some (x, s') ∧ Q x s'

def WpI (T : Tab) (b : VC) (n : Nat) (live : List Nat) (l : LS) (Q : Ex → St → Prop) : Prop := ∃ k x s', iter (execF T.C T.call k b) n live k l = some (x, s') ∧ Q x s'

variable {Q : Ex → St → Prop} {s : St}

/-- behind the first of two -/
def Then (T : Tab) (b : VC) (Q : Ex → St → Prop) : Ex → St → Prop := fun x s => match x with
  | .normal => Wp T b s Q
  | x => Q x s
def Behind (id : Nat) (Q : Ex → St → Prop) : Ex → St → Prop := fun x s => match x with
  | .exit j => bif Nat.beq j id then Q .normal s else Q (.exit j) s
  | x => Q x s
def Round (T : Tab) (b : VC) (n : Nat) (live : List Nat) (Q : Ex → St → Prop) : Ex → St → Prop := fun x s => match x with
  | .normal => WpI T b n live (LS.next n live s) Q
  | x => Q x s

theorem Wp_skip : Wp T .skip s Q ↔ Q .normal s :=
  ⟨fun ⟨_, _, _, h, q⟩ => by cases h; exact q, fun q => ⟨0, _, _, rfl, q⟩⟩
theorem Wp_exit {id : Nat} : Wp T (.exit id) s Q ↔ Q (.exit id) s :=
  ⟨fun ⟨_, _, _, h, q⟩ => by cases h; exact q, fun q => ⟨0, _, _, rfl, q⟩⟩
theorem Wp_ret : Wp T .ret s Q ↔ Q .ret s :=
  ⟨fun ⟨_, _, _, h, q⟩ => by cases h; exact q, fun q => ⟨0, _, _, rfl, q⟩⟩

theorem Wp_seq {a b : VC} : Wp T (.seq a b) s Q ↔ Wp T a s (Then T b Q) := by
  constructor
  · rintro ⟨n, x, s', h, q⟩
    simp only [execF] at h
    cases hx : execF T.C T.call n a s with
    | none => rw [hx] at h; cases h
    | some y =>
      rw [hx] at h
      obtain ⟨y, s1⟩ := y
      cases y with
      | normal => exact ⟨n, _, _, hx, n, x, s', h, q⟩
      | exit j => cases h; exact ⟨n, _, _, hx, q⟩
      | ret => cases h; exact ⟨n, _, _, hx, q⟩
  · rintro ⟨n, x, s1, h, q⟩
    cases x with
    | normal =>
      obtain ⟨m, x, s', h2, q⟩ := q
      exact ⟨max n m, x, s', by simp only [execF, execF_fuel (Nat.le_max_left n m) _ _ _ h, execF_fuel (Nat.le_max_right n m) _ _ _ h2], q⟩
    | exit j => exact ⟨n, _, _, by simp only [execF, h], q⟩
    | ret => exact ⟨n, _, _, by simp only [execF, h], q⟩

theorem Wp_reg {ops : List VOp} : Wp T (.reg ops) s Q ↔ ∃ s', runL T.C T.call ops s = some s' ∧ Q .normal s' := by
  constructor
  · rintro ⟨n, x, s', h, q⟩
    simp only [execF, Option.map_eq_some_iff, Prod.mk.injEq] at h
    obtain ⟨s1, h1, rfl, rfl⟩ := h
    exact ⟨s1, h1, q⟩
  · rintro ⟨s', h, q⟩
    exact ⟨0, _, _, by simp only [execF, h, Option.map_some], q⟩
theorem Wp_drw {ops : List DOp} : Wp T (.drw ops) s Q ↔ ∃ s', drwV T.C T.call ops ops s = some s' ∧ Q .normal s' := by
  constructor
  · rintro ⟨n, x, s', h, q⟩
    simp only [execF, Option.map_eq_some_iff, Prod.mk.injEq] at h
    obtain ⟨s1, h1, rfl, rfl⟩ := h
    exact ⟨s1, h1, q⟩
  · rintro ⟨s', h, q⟩
    exact ⟨0, _, _, by simp only [execF, h, Option.map_some], q⟩

theorem Wp_cond {c : O} {t e : VC} {b : Bool} (h : rd s.tm c = .bool b) : Wp T (.cond c t e) s Q ↔ bif b then Wp T t s Q else Wp T e s Q := by
  unfold Wp
  simp only [execF, h]
  cases b <;> rfl

theorem Wp_block {id : Nat} {b : VC} : Wp T (.block id b) s Q ↔ Wp T b s (Behind id Q) := by
  constructor
  · rintro ⟨n, x, s', h, q⟩
    simp only [execF] at h
    cases hx : execF T.C T.call n b s with
    | none => rw [hx] at h; cases h
    | some y =>
      rw [hx] at h
      obtain ⟨y, s1⟩ := y
      refine ⟨n, y, s1, hx, ?_⟩
      cases y with
      | normal => cases h; exact q
      | exit j =>
        simp only [Behind]
        cases hb : Nat.beq j id <;> simp only [hb, cond_true, cond_false, Option.some.injEq, Prod.mk.injEq] at h <;> obtain ⟨rfl, rfl⟩ := h <;> exact q
      | ret => cases h; exact q
  · rintro ⟨n, x, s1, h, q⟩
    cases x with
    | normal => exact ⟨n, _, _, by simp only [execF, h], q⟩
    | ret => exact ⟨n, _, _, by simp only [execF, h], q⟩
    | exit j =>
      simp only [Behind] at q
      cases hb : Nat.beq j id <;> simp only [hb, cond_true, cond_false] at q
      · exact ⟨n, _, _, by simp only [execF, h, hb, cond_false], q⟩
      · exact ⟨n, _, _, by simp only [execF, h, hb, cond_true], q⟩

theorem Wp_loop {live : List Nat} {b : VC} : Wp T (.loop live b) s Q ↔ WpI T b s.fr.length live { vals := live.map s.tm, fr := s.fr, sg := s.sg, wd := s.wd } Q := Iff.rfl

theorem WpI_iff {b : VC} {n : Nat} {live : List Nat} {l : LS} : WpI T b n live l Q ↔ Wp T b (l.st live) (Round T b n live Q) := by
  constructor
  · rintro ⟨k, x, s', h, q⟩
    cases k with
    | zero => cases h
    | succ k =>
      simp only [iter] at h
      cases hx : execF T.C T.call (k + 1) b (l.st live) with
      | none => rw [hx] at h; cases h
      | some y =>
        rw [hx] at h
        obtain ⟨y, s1⟩ := y
        refine ⟨k + 1, y, s1, hx, ?_⟩
        cases y with
        | normal => exact ⟨k + 1, x, s', iter_le (fun _ _ h => h) _ _ _ _ (Nat.le_succ k) h, q⟩
        | exit j => cases h; exact q
        | ret => cases h; exact q
  · rintro ⟨n1, x, s1, h, q⟩
    cases x with
    | normal =>
      obtain ⟨k, x, s', h2, q⟩ := q
      refine ⟨max n1 k + 1, x, s', ?_, q⟩
      simp only [iter, execF_fuel (Nat.le_trans (Nat.le_max_left n1 k) (Nat.le_succ _)) _ _ _ h]
      exact iter_le (fun _ _ h => execF_fuel (Nat.le_trans (Nat.le_max_right n1 k) (Nat.le_succ _)) _ _ _ h) _ _ _ _ (Nat.le_max_right n1 k) h2
    | exit j => exact ⟨n1 + 1, _, _, by simp only [iter, execF_fuel (Nat.le_succ n1) _ _ _ h], q⟩
    | ret => exact ⟨n1 + 1, _, _, by simp only [iter, execF_fuel (Nat.le_succ n1) _ _ _ h], q⟩

theorem Wp.imp {c : VC} {Q' : Ex → St → Prop} (h : Wp T c s Q) (k : ∀ x s', Q x s' → Q' x s') : Wp T c s Q' := by
  obtain ⟨n, x, s', h1, h2⟩ := h
  exact ⟨n, x, s', h1, k _ _ h2⟩

/-- a function's end -/
def Out (F : VF) (R : V × List Fr × Nat) : Ex → St → Prop := fun x s => match x with
  | .exit _ => False
  | _ => leave F s = some R

theorem call_fun {f : FuncId} {F : VF} (hF : T.funs f = some F) {as : List V} {sg : List Fr} {R : V × List Fr × Nat} (h : Wp T F.code { tm := env as, fr := [], sg, wd := 0 } (Out F R)) : T.call f as sg = some R := by
  obtain ⟨n, x, s', h1, h2⟩ := h
  obtain ⟨m, h3⟩ := (good_execF (C := T.C) limit n F.code { tm := env as, fr := [], sg, wd := 0 }).2 _ h1
  refine call_iff.2 ⟨max m n + 1, ?_⟩
  have h4 : execF T.C (callF T.C T.funs T.prim (max m n)) (max m n) F.code { tm := env as, fr := [], sg, wd := 0 } = some (x, s') :=
    execF_fuel (Nat.le_max_right m n) _ _ _ ((good_execF (C := T.C) (A := T.at) (W := T.call) limit n F.code { tm := env as, fr := [], sg, wd := 0 }).1 _ _ (at_mono _ _ (Nat.le_max_left m n)) _ h3)
  unfold Tab.at
  simp only [callF, hF, h4]
  cases x with
  | exit j => exact h2.elim
  | normal => exact h2
  | ret => exact h2
theorem call_prim {f : FuncId} (hF : T.funs f = none) {as : List V} {sg : List Fr} {R : V × List Fr × Nat} (h : T.prim f as sg = some R) : T.call f as sg = some R :=
  call_iff.2 ⟨1, by unfold Tab.at; simp only [callF, hF]; exact h⟩

end
end Go.Vm

/-
  The machine V: going through a code, step by step.
-/
namespace Go.Vm
open Go

section
variable {T : Tab} {Q : Ex → St → Prop} {s : St}

theorem reg_nil : Wp T (.reg []) s Q ↔ Q .normal s := by
  rw [Wp_reg]; simp [runL]
theorem reg_cons {o : VOp} {os : List VOp} : Wp T (.reg (o :: os)) s Q ↔ ∃ s1, stepV T.C T.call o s = some s1 ∧ Wp T (.reg os) s1 Q := by
  simp only [Wp_reg, runL, Option.bind_eq_some_iff]
  constructor
  · rintro ⟨s', ⟨s1, h1, h2⟩, q⟩; exact ⟨s1, h1, s', h2, q⟩
  · rintro ⟨s1, h1, s', h2, q⟩; exact ⟨s', ⟨s1, h1, h2⟩, q⟩

/-- an operation without a guard -/
theorem reg_step {d : Option Nat} {o : VO} {os : List VOp} {v : V} {s1 : St} (h : opV T.C T.call o s = some (v, s1)) (k : Wp T (.reg os) (put s1 d v) Q) : Wp T (.reg (⟨d, o, none⟩ :: os)) s Q :=
  reg_cons.2 ⟨_, by simp only [stepV, want, h, Option.map_some], k⟩
theorem reg_step_iff {d : Option Nat} {o : VO} {os : List VOp} : Wp T (.reg (⟨d, o, none⟩ :: os)) s Q ↔ ∃ v s1, opV T.C T.call o s = some (v, s1) ∧ Wp T (.reg os) (put s1 d v) Q := by
  rw [reg_cons]
  simp only [stepV, want, Option.map_eq_some_iff]
  constructor
  · rintro ⟨s1, ⟨⟨v, s2⟩, h, rfl⟩, q⟩; exact ⟨v, s2, h, q⟩
  · rintro ⟨v, s2, h, q⟩; exact ⟨_, ⟨(v, s2), h, rfl⟩, q⟩
/-- one with a guard -/
theorem reg_guard {d : Option Nat} {o : VO} {t : Nat} {b c : Bool} {os : List VOp} (h : s.tm t = .bool c) :
    Wp T (.reg (⟨d, o, some (t, b)⟩ :: os)) s Q ↔ bif c == b then Wp T (.reg (⟨d, o, none⟩ :: os)) s Q else Wp T (.reg os) (put s d (.tup [])) Q := by
  rw [reg_cons, reg_cons]
  simp only [stepV, want, h]
  cases hb : (c == b) <;> simp
theorem reg_guard_off {d : Option Nat} {o : VO} {t : Nat} {b : Bool} {os : List VOp} (h : s.tm t = .tup []) :
    Wp T (.reg (⟨d, o, some (t, b)⟩ :: os)) s Q ↔ Wp T (.reg os) (put s d (.tup [])) Q := by
  rw [reg_cons]
  simp only [stepV, want, h]
  simp

/-- a region whose order is open -/
def WpD (T : Tab) (all l : List DOp) (s : St) (Q : Ex → St → Prop) : Prop := ∃ s', drwV T.C T.call all l s = some s' ∧ Q .normal s'
theorem drw_all {ops : List DOp} : Wp T (.drw ops) s Q ↔ WpD T ops ops s Q := Wp_drw
theorem drw_nil {all : List DOp} : WpD T all [] s Q ↔ Q .normal s := by
  simp [WpD, drwV]
theorem drw_main {all l : List DOp} {i : Nat} {bf re : List Nat} {o : VOp} : WpD T all (⟨i, bf, o, true, re⟩ :: l) s Q ↔ ∃ s1, stepV T.C T.call o s = some s1 ∧ re.all (againAt T.C T.call all s1) = true ∧ WpD T all l s1 Q := by
  simp only [WpD, drwV, cond_true, Option.bind_eq_some_iff]
  constructor
  · rintro ⟨s', ⟨s1, h1, h2⟩, q⟩
    cases hb : re.all (againAt T.C T.call all s1) with
    | false => rw [hb] at h2; cases h2
    | true => rw [hb] at h2; exact ⟨s1, h1, hb, s', h2, q⟩
  · rintro ⟨s1, h1, hb, s', h2, q⟩; exact ⟨s', ⟨s1, h1, by rw [hb]; exact h2⟩, q⟩
theorem drw_pure {all l : List DOp} {i : Nat} {bf re : List Nat} {o : VOp} : WpD T all (⟨i, bf, o, false, re⟩ :: l) s Q ↔ ∃ s1, stepP T.C T.call o s = some s1 ∧ WpD T all l s1 Q := by
  simp only [WpD, drwV, cond_false, Option.bind_eq_some_iff]
  constructor
  · rintro ⟨s', ⟨s1, h1, h2⟩, q⟩; exact ⟨s1, h1, s', h2, q⟩
  · rintro ⟨s1, h1, s', h2, q⟩; exact ⟨s', ⟨s1, h1, h2⟩, q⟩

/-- an end that is reckoned -/
def endR (F : VF) : Option (Ex × St) → Option (V × List Fr × Nat)
  | some (.normal, s) => leave F s
  | some (.ret, s) => leave F s
  | _ => none
theorem Wp_run {call : Call} (hc : CallLe call T.call) {n : Nat} {c : VC} {F : VF} {R : V × List Fr × Nat} (h : endR F (execF T.C call n c s) = some R) : Wp T c s (Out F R) := by
  cases hx : execF T.C call n c s with
  | none => rw [hx] at h; cases h
  | some y =>
    rw [hx] at h
    obtain ⟨x, s'⟩ := y
    have g := good_execF (C := T.C) (A := fun _ => call) (W := call) ⟨fun _ _ _ => .refl _, fun f as sg r h => ⟨0, h⟩⟩ n c s
    refine ⟨n, x, s', g.1 _ _ hc _ hx, ?_⟩
    cases x with
    | exit j => cases h
    | normal => exact h
    | ret => exact h
/-- calls whose answers are known -/
def memo (known : FuncId → List V → Option V) (c : Call) : Call := fun f as sg => match known f as with
  | some v => some (v, sg, 0)
  | none => c f as sg
theorem memo_le {known : FuncId → List V → Option V} {c : Call} (hk : ∀ f as v sg, known f as = some v → T.call f as sg = some (v, sg, 0)) (hc : CallLe c T.call) : CallLe (memo known c) T.call := by
  intro f as sg r h
  unfold memo at h
  split at h
  · rename_i v hv
    cases h
    exact hk _ _ _ _ hv
  · exact hc _ _ _ _ h
theorem at_le (n : Nat) : CallLe (T.at n) T.call := fun _ _ _ _ h => call_iff.2 ⟨n, h⟩

end
end Go.Vm

/-
  The machine V: a call from outside.
-/
namespace Go.Vm
open Go Go.RowKit

/-- routines without a body, and slices.Clone -/
def primAll (K : FuncId → Option Nat) (L : FuncId → Option (Nat × Bool)) : Call := fun f as sg =>
  match K f with
  | some _ => primX K f as sg
  | none => cloneX L f as sg
theorem primAll_ok {P : Program} {K : FuncId → Option Nat} {L : FuncId → Option (Nat × Bool)} (hm : P.follows .mixedOrders = true) (hK : Prims P K) (hL : ∀ f z m, L f = some (z, m) → ∃ fn, P.funcs[f]? = some fn ∧ CloneFn P z m fn) : CallOk P (primAll K L) := by
  intro f as sg v sg' wd h
  unfold primAll at h
  split at h
  · exact primX_ok hK f as sg v sg' wd h
  · exact cloneX_ok hm hL f as sg v sg' wd h
theorem primAll_q (K : FuncId → Option Nat) (L : FuncId → Option (Nat × Bool)) : CallQ (primAll K L) := by
  intro f as sg v sg' wd h
  unfold primAll at h
  split at h
  · exact primX_q K f as sg v sg' wd h
  · exact cloneX_q L f as sg v sg' wd h

/-- what is known of memory at the beginning -/
def im0 (w : World) : Nat → Nat → Option Value := fun c k => w.cell? ⟨c, k, none⟩
def G0 (w : World) : Gh := { im := im0 w, ow := fun _ _ => none, ph := fun _ _ => none }
theorem WR0 (w : World) : WR (G0 w) w.heap.size [] [] w := by
  refine ⟨fun c k x h => h, fun _ _ _ _ => rfl, (fun c k o h => by cases h), (fun d i b loc hd hg hl => by cases hl), (fun l i loc h => by cases h), Nat.le_refl _⟩

theorem enter_run {P : Program} {T : Tab} (hf : Funs P T.funs) {f : FuncId} {F : VF} (hF : T.funs f = some F) (A : Array Value) (w : World) : (callFunc f A).run P w = .ok (.enter f A) w := by
  obtain ⟨fn, hfn, htr⟩ := hf f F hF
  unfold trF at htr
  simp only [Bool.and_eq_true, Bool.not_eq_true'] at htr
  obtain ⟨hname, htr⟩ := htr
  split at htr
  · rename_i c hbody
    simp [callFunc, hfn, hbody]
    intro h
    rw [h] at hname
    simp at hname
  · cases htr

/-- a function of things of no place that tells a bool -/
theorem top_ok {P : Program} {T : Tab} (hm : P.follows .mixedOrders = true) (hf : Funs P T.funs) (hp : CallOk P T.prim) (hq : CallQ T.prim) {f : FuncId} {F : VF} (hF : T.funs f = some F) {as : List V} {b : Bool} {wd : Nat} (h : T.call f as [] = some (.bool b, [], wd))
    {A : Array Value} {w : World} (hA : A.size = as.length) (hR : ∀ (j : Nat) (x : V) (y : Value), as[j]? = some x → A[j]? = some y → PR (im0 w) x y) :
    Calls P f A w fun | .returned cv, w' => cv = .bool b ∧ Below w.heap.size w w' | _, _ => False := by
  obtain ⟨n, hn⟩ := call_iff.1 h
  have hc := vm_sound (C := T.C) hm hf hp hq n f as [] (.bool b) [] wd hn (G0 w) w.heap.size w A (WR0 w) hA (fun j x y hx hy => .pr _ _ (hR j x y hx hy))
  rcases hc with ⟨_, h2⟩ | ⟨cv, w', h1, _⟩
  · refine h2.mono fun e w' he => ?_
    cases e with
    | returned cv =>
      obtain ⟨G', r⟩ := he
      exact ⟨r.v.bool_inv, r.be⟩
    | panicked _ => exact he
    | outgrown => exact he
  · rw [enter_run hf hF] at h1
    cases h1

end Go.Vm

/-
  The machine V with numbers that are not known (they bear the kind i16, which no code uses): what a run tells that never looks at them
  is told for all of them. First part: putting numbers in.
-/
namespace Go.Vm
open Go

mutual
def su (σ : Int → V) : V → V
  | .und => .und
  | .bool b => .bool b
  | .int k n => bif k == .i16 then σ n else .int k n
  | .str s => .str s
  | .nilp => .nilp
  | .bp d i o => .bp d i o
  | .ep cs o => .ep (suL σ cs) o
  | .ap d i v j o => .ap d i v j o
  | .sl t z es => .sl t z (suL σ es)
  | .bs d i v o l => .bs d i v o l
  | .nilm => .nilm
  | .mp d i => .mp d i
  | .fn f a b => .fn f (suL σ a) (suL σ b)
  | .nilf => .nilf
  | .iface t v => .iface t (su σ v)
  | .nili => .nili
  | .agg cs => .agg (suL σ cs)
  | .tup vs => .tup (suL σ vs)
def suL (σ : Int → V) : List V → List V
  | [] => []
  | v :: vs => su σ v :: suL σ vs
end

/-- what is put in are numbers -/
def Num (σ : Int → V) : Prop := ∀ n, ∃ k m, σ n = .int k m
/-- no unknown number itself -/
def ns : V → Bool
  | .int k _ => !(k == .i16)
  | _ => true

def suB (σ : Int → V) : Blk → Blk
  | .box cs => .box (suL σ cs)
  | .arr v z es => .arr v z (suL σ es)
  | .tok v => .tok v
  | .map es => .map (es.map fun (a, b) => (su σ a, su σ b))
  | .dead => .dead
def suF (σ : Int → V) (fr : Fr) : Fr := fr.map (suB σ)
def suG (σ : Int → V) (sg : List Fr) : List Fr := sg.map (suF σ)
def suS (σ : Int → V) (s : St) : St := { tm := fun t => su σ (s.tm t), fr := suF σ s.fr, sg := suG σ s.sg, wd := s.wd }

section
variable {σ : Int → V}

theorem suL_map : ∀ l : List V, suL σ l = l.map (su σ)
  | [] => by simp [suL]
  | v :: vs => by simp [suL, suL_map vs]
theorem suL_len (l : List V) : (suL σ l).length = l.length := by rw [suL_map, List.length_map]
theorem suL_get (l : List V) (i : Nat) : (suL σ l)[i]? = (l[i]?).map (su σ) := by rw [suL_map, List.getElem?_map]
theorem suL_append (a b : List V) : suL σ (a ++ b) = suL σ a ++ suL σ b := by simp [suL_map]
theorem suL_drop (a : List V) (n : Nat) : suL σ (a.drop n) = (suL σ a).drop n := by simp [suL_map, List.map_drop]
theorem suL_take (a : List V) (n : Nat) : suL σ (a.take n) = (suL σ a).take n := by simp [suL_map, List.map_take]
theorem suL_set (a : List V) (n : Nat) (v : V) : suL σ (a.set n v) = (suL σ a).set n (su σ v) := by simp [suL_map, List.map_set]

/-- either an unknown number, or the same shape -/
theorem su_int (hσ : Num σ) (k : IntKind) (n : Int) : ∃ j m, su σ (.int k n) = .int j m := by
  simp only [su]
  cases k == IntKind.i16
  · exact ⟨_, _, rfl⟩
  · exact hσ n
theorem su_ns {k : IntKind} {n : Int} (h : ns (.int k n) = true) : su σ (.int k n) = .int k n := by
  simp only [ns, Bool.not_eq_true'] at h
  simp only [su, h, cond_false]

theorem pu0_su (hσ : Num σ) (v : V) : pu0 (su σ v) = pu0 v := by
  cases v with
  | int k n => obtain ⟨j, m, e⟩ := su_int hσ k n; rw [e]; rfl
  | sl t z es => cases t <;> rfl
  | _ => rfl
theorem all_su {p : V → Bool} (h : ∀ v, p (su σ v) = p v) (l : List V) : (suL σ l).all p = l.all p := by
  rw [suL_map, List.all_map]; congr 1; funext v; exact h v
theorem pu1_su (hσ : Num σ) (v : V) : pu1 (su σ v) = pu1 v := by
  cases v with
  | int k n => obtain ⟨j, m, e⟩ := su_int hσ k n; rw [e]; rfl
  | fn f a b => simp only [su, pu1, all_su (pu0_su hσ)]
  | iface t v => simp only [su, pu1, pu0_su hσ]
  | sl t z es => cases t <;> rfl
  | _ => rfl
theorem pu2_su (hσ : Num σ) (v : V) : pu2 (su σ v) = pu2 v := by
  cases v with
  | int k n => obtain ⟨j, m, e⟩ := su_int hσ k n; rw [e]; rfl
  | agg cs => simp only [su, pu2, all_su (pu1_su hσ)]
  | fn f a b => exact pu1_su hσ (.fn f a b)
  | iface t v => exact pu1_su hσ (.iface t v)
  | sl t z es => cases t <;> rfl
  | _ => rfl
theorem pu3_su (hσ : Num σ) (v : V) : pu3 (su σ v) = pu3 v := by
  cases v with
  | int k n => obtain ⟨j, m, e⟩ := su_int hσ k n; rw [e]; rfl
  | tup cs => simp only [su, pu3, all_su (pu2_su hσ)]
  | agg cs => exact pu2_su hσ (.agg cs)
  | fn f a b => exact pu1_su hσ (.fn f a b)
  | iface t v => exact pu1_su hσ (.iface t v)
  | sl t z es => cases t <;> rfl
  | _ => rfl

theorem map_su {f : V → V} (h : ∀ v, f (su σ v) = su σ (f v)) (l : List V) : (suL σ l).map f = suL σ (l.map f) := by
  simp only [suL_map, List.map_map]; congr 1; funext v; exact h v

theorem map_su2 {f g : V → V} (h : ∀ v, f (su σ v) = su σ (g v)) (l : List V) : (suL σ l).map f = suL σ (l.map g) := by
  simp only [suL_map, List.map_map]; congr 1; funext v; exact h v

theorem sh0_su (hσ : Num σ) (k : Nat) (v : V) : sh0 k (su σ v) = su σ (sh0 k v) := by
  cases v with
  | int j n => obtain ⟨j', m, e⟩ := su_int hσ j n; rw [e]; simp only [sh0]; exact e.symm
  | sl t z es => cases t <;> simp [su, sh0]
  | _ => simp [su, sh0]
theorem sh1_su (hσ : Num σ) (k : Nat) (v : V) : sh1 k (su σ v) = su σ (sh1 k v) := by
  cases v with
  | int j n => obtain ⟨j', m, e⟩ := su_int hσ j n; rw [e]; simp only [sh1, sh0]; exact e.symm
  | fn f a b => simp only [su, sh1, map_su (sh0_su hσ k)]
  | iface t v => simp only [su, sh1, sh0_su hσ k]
  | sl t z es => cases t <;> simp [su, sh1, sh0]
  | _ => simp [su, sh1, sh0]
theorem sh2_su (hσ : Num σ) (k : Nat) (v : V) : sh2 k (su σ v) = su σ (sh2 k v) := by
  cases v with
  | agg cs => simp only [su, sh2, map_su (sh1_su hσ k)]
  | int j n => obtain ⟨j', m, e⟩ := su_int hσ j n; rw [e]; simp only [sh2, sh1, sh0]; exact e.symm
  | fn f a b => exact sh1_su hσ k (.fn f a b)
  | iface t v => exact sh1_su hσ k (.iface t v)
  | sl t z es => cases t <;> simp [su, sh2, sh1, sh0]
  | _ => simp [su, sh2, sh1, sh0]

theorem mapM_su {f : V → Option V} (h : ∀ v, f (su σ v) = (f v).map (su σ)) : ∀ l : List V, (suL σ l).mapM f = (l.mapM f).map (suL σ)
  | [] => by simp [suL]
  | v :: vs => by
    simp only [suL, List.mapM_cons, h, mapM_su h vs]
    cases f v with
    | none => rfl
    | some a => cases vs.mapM f <;> simp [suL]

theorem dn0_su (hσ : Num σ) (k : Nat) (v : V) : dn0 k (su σ v) = (dn0 k v).map (su σ) := by
  cases v with
  | int j n => obtain ⟨j', m, e⟩ := su_int hσ j n; rw [e]; simp only [dn0, Option.map_some]; rw [e]
  | bp d i o => simp only [su, dn0]; cases Nat.ble k d <;> simp [su]
  | ap d i v j o => simp only [su, dn0]; cases Nat.ble k d <;> simp [su]
  | bs d i v o l => simp only [su, dn0]; cases Nat.ble k d <;> simp [su]
  | mp d i => simp only [su, dn0]; cases Nat.ble k d <;> simp [su]
  | sl t z es =>
    cases t with
    | «at» d i ver => simp only [su, dn0]; cases Nat.ble k d <;> simp [su]
    | _ => simp [su, dn0]
  | _ => simp [su, dn0]
theorem dn1_su (hσ : Num σ) (k : Nat) (v : V) : dn1 k (su σ v) = (dn1 k v).map (su σ) := by
  have h0 := dn0_su hσ k v
  cases v with
  | fn f a b =>
    simp only [su, dn1, mapM_su (dn0_su hσ k)]
    cases a.mapM (dn0 k) with
    | none => rfl
    | some x => cases b.mapM (dn0 k) <;> simp [su]
  | iface t v => simp only [su, dn1, dn0_su hσ k]; cases dn0 k v <;> simp [su]
  | int j n => obtain ⟨j', m, e⟩ := su_int hσ j n; have := dn0_su hσ k (.int j n); rw [e] at this ⊢; exact this
  | _ => exact h0

theorem lt0_su (hσ : Num σ) (k : Nat) (v : V) : lt0 k (su σ v) = lt0 k v := by
  cases v with
  | int j n => obtain ⟨j', m, e⟩ := su_int hσ j n; rw [e]; rfl
  | bp d i o => cases d <;> rfl
  | ap d i v j o => cases d <;> rfl
  | bs d i v o l => cases d <;> rfl
  | mp d i => cases d <;> rfl
  | sl t z es =>
    cases t with
    | «at» d i ver => cases d <;> rfl
    | _ => rfl
  | _ => rfl
theorem lt1_su (hσ : Num σ) (k : Nat) (v : V) : lt1 k (su σ v) = lt1 k v := by
  have h0 := lt0_su hσ k v
  cases v with
  | fn f a b => simp only [su, lt1, all_su (lt0_su hσ k)]
  | iface t v => simp only [su, lt1, lt0_su hσ k]
  | int j n => obtain ⟨j', m, e⟩ := su_int hσ j n; rw [e]; rfl
  | _ => exact h0
theorem lt2_su (hσ : Num σ) (k : Nat) (v : V) : lt2 k (su σ v) = lt2 k v := by
  have h0 := lt1_su hσ k v
  cases v with
  | agg cs => simp only [su, lt2, all_su (lt1_su hσ k)]
  | int j n => obtain ⟨j', m, e⟩ := su_int hσ j n; rw [e]; rfl
  | _ => exact h0
theorem lt3_su (hσ : Num σ) (k : Nat) (v : V) : lt3 k (su σ v) = lt3 k v := by
  have h0 := lt2_su hσ k v
  cases v with
  | tup cs => simp only [su, lt3, all_su (lt2_su hσ k)]
  | int j n => obtain ⟨j', m, e⟩ := su_int hσ j n; rw [e]; rfl
  | _ => exact h0
theorem ltB_su (hσ : Num σ) (k : Nat) (b : Blk) : ltB k (suB σ b) = ltB k b := by
  cases b with
  | box cs => simp only [suB, ltB, all_su (lt1_su hσ k)]
  | map es => simp only [suB, ltB, List.all_map]; congr 1; funext x; simp [pu2_su hσ]
  | _ => rfl

theorem dt0_su (hσ : Num σ) (v : V) : dt0 (su σ v) = su σ (dt0 v) := by
  cases v with
  | int j n => obtain ⟨j', m, e⟩ := su_int hσ j n; rw [e]; simp only [dt0]; exact e.symm
  | _ => simp [su, dt0]
theorem dt2_su (hσ : Num σ) (v : V) : dt2 (su σ v) = su σ (dt2 v) := by
  have h0 := dt0_su hσ v
  cases v with
  | agg cs => simp only [su, dt2, map_su (dt0_su hσ)]
  | int j n => obtain ⟨j', m, e⟩ := su_int hσ j n; rw [e]; simp only [dt2, dt0]; exact e.symm
  | _ => exact h0

theorem suF_get (fr : Fr) (i : Nat) : (suF σ fr)[i]? = (fr[i]?).map (suB σ) := by unfold suF; rw [List.getElem?_map]
theorem suF_len (fr : Fr) : (suF σ fr).length = fr.length := by unfold suF; rw [List.length_map]

theorem fz0_su (hσ : Num σ) (fr : Fr) (v : V) : fz0 (suF σ fr) (su σ v) = su σ (fz0 fr v) := by
  cases v with
  | int j n => obtain ⟨j', m, e⟩ := su_int hσ j n; rw [e]; simp only [fz0]; exact e.symm
  | bs d i ver o len =>
    cases d with
    | succ d => simp [su, fz0]
    | zero =>
      simp only [su, fz0, suF_get]
      cases fr[i]? with
      | none => simp [su]
      | some b =>
        cases b with
        | arr ver' z es =>
          simp only [Option.map_some, suB, suL_len]
          cases (Nat.beq ver ver' && Nat.ble (o + len) es.length) <;> simp [su, suL_take, suL_drop]
        | _ => simp [suB, su]
  | _ => simp [su, fz0]
theorem fz2_su (hσ : Num σ) (fr : Fr) (v : V) : fz2 (suF σ fr) (su σ v) = su σ (fz2 fr v) := by
  have h0 := fz0_su hσ fr v
  cases v with
  | agg cs => simp only [su, fz2, map_su2 (fz0_su hσ fr)]
  | int j n => obtain ⟨j', m, e⟩ := su_int hσ j n; have := fz0_su hσ fr (.int j n); rw [e] at this ⊢; exact this
  | _ => exact h0
theorem fz3_su (hσ : Num σ) (fr : Fr) (v : V) : fz3 (suF σ fr) (su σ v) = su σ (fz3 fr v) := by
  have h0 := fz2_su hσ fr v
  cases v with
  | tup cs => simp only [su, fz3, map_su2 (fz2_su hσ fr)]
  | int j n => obtain ⟨j', m, e⟩ := su_int hσ j n; have := fz2_su hσ fr (.int j n); rw [e] at this ⊢; exact this
  | _ => exact h0

theorem mg0_su (hσ : Num σ) (k : Nat) (v : V) : mg0 k (su σ v) = su σ (mg0 k v) := by
  cases v with
  | int j n => obtain ⟨j', m, e⟩ := su_int hσ j n; rw [e]; simp only [mg0]; exact e.symm
  | bp d i o => cases d <;> simp [su, mg0]
  | ap d i v j o => cases d <;> simp [su, mg0]
  | bs d i v o l => cases d <;> simp [su, mg0]
  | mp d i => cases d <;> simp [su, mg0]
  | sl t z es =>
    cases t with
    | «at» d i ver => cases d <;> simp [su, mg0]
    | _ => simp [su, mg0]
  | _ => simp [su, mg0]
theorem mg1_su (hσ : Num σ) (k : Nat) (v : V) : mg1 k (su σ v) = su σ (mg1 k v) := by
  have h0 := mg0_su hσ k v
  cases v with
  | fn f a b => simp only [su, mg1, map_su (mg0_su hσ k)]
  | iface t v => simp only [su, mg1, mg0_su hσ k]
  | int j n => obtain ⟨j', m, e⟩ := su_int hσ j n; have := mg0_su hσ k (.int j n); rw [e] at this ⊢; exact this
  | _ => exact h0
theorem mg2_su (hσ : Num σ) (k : Nat) (v : V) : mg2 k (su σ v) = su σ (mg2 k v) := by
  have h0 := mg1_su hσ k v
  cases v with
  | agg cs => simp only [su, mg2, map_su (mg1_su hσ k)]
  | int j n => obtain ⟨j', m, e⟩ := su_int hσ j n; have := mg1_su hσ k (.int j n); rw [e] at this ⊢; exact this
  | _ => exact h0
theorem mg3_su (hσ : Num σ) (k : Nat) (v : V) : mg3 k (su σ v) = su σ (mg3 k v) := by
  have h0 := mg2_su hσ k v
  cases v with
  | tup cs => simp only [su, mg3, map_su (mg2_su hσ k)]
  | int j n => obtain ⟨j', m, e⟩ := su_int hσ j n; have := mg2_su hσ k (.int j n); rw [e] at this ⊢; exact this
  | _ => exact h0
theorem mgB_su (hσ : Num σ) (k : Nat) (b : Blk) : mgB k (suB σ b) = suB σ (mgB k b) := by
  cases b with
  | box cs => simp only [suB, mgB, map_su (mg1_su hσ k)]
  | _ => rfl

theorem get_su (s : St) (d i : Nat) : (suS σ s).get d i = (s.get d i).map (suB σ) := by
  cases d with
  | zero => simp only [St.get, getB, suS, suF_get]
  | succ d =>
    simp only [St.get, getB, suS, suG, List.getElem?_map]
    cases s.sg[d]? with
    | none => rfl
    | some fr => simp [suF_get]
theorem set_su (s : St) (d i : Nat) (b : Blk) : suS σ (s.set d i b) = (suS σ s).set d i (suB σ b) := by
  cases d with
  | zero => simp only [St.set, suS, suF, List.map_set]
  | succ d =>
    simp only [St.set, suS, suG, St.mk.injEq, true_and, and_true]
    apply List.ext_getElem?
    intro j
    simp only [List.getElem?_map, List.getElem?_modify]
    cases s.sg[j]? with
    | none => simp
    | some fr => by_cases h : d = j <;> simp [h, suF, List.map_set]

theorem scal_su (hσ : Num σ) (v : V) : scal (su σ v) = scal v := by
  cases v with
  | int j n => obtain ⟨j', m, e⟩ := su_int hσ j n; rw [e]; rfl
  | _ => rfl
theorem whole_su (hσ : Num σ) (v : V) : whole (su σ v) = whole v := by
  cases v with
  | int j n => obtain ⟨j', m, e⟩ := su_int hσ j n; rw [e]; rfl
  | _ => rfl
theorem cellsOf_su (hσ : Num σ) (v : V) : cellsOf (su σ v) = suL σ (cellsOf v) := by
  cases v with
  | int j n => obtain ⟨j', m, e⟩ := su_int hσ j n; simp only [cellsOf, suL]; rw [e]
  | _ => simp [su, cellsOf, suL]
theorem ldC_su (ag : Bool) (sz : Nat) (cs : List V) (o : Nat) : ldC ag sz (suL σ cs) o = (ldC ag sz cs o).map (su σ) := by
  cases ag with
  | false => simp only [ldC, cond_false, suL_get]
  | true =>
    simp only [ldC, cond_true, suL_len]
    cases Nat.ble (o + sz) cs.length <;> simp [su, suL_take, suL_drop]
theorem stC_su (hσ : Num σ) (ag : Bool) (sz : Nat) (cs : List V) (o : Nat) (v : V) : stC ag sz (suL σ cs) o (su σ v) = (stC ag sz cs o v).map (suL σ) := by
  cases ag with
  | false =>
    simp only [stC, cond_false, suL_len, scal_su hσ]
    cases (scal v && Nat.blt o cs.length) <;> simp [suL_set]
  | true =>
    simp only [stC, cond_true]
    cases v with
    | agg vs =>
      simp only [su, suL_len, all_su (scal_su hσ)]
      cases (Nat.beq vs.length sz && (Nat.ble (o + sz) cs.length && vs.all scal)) <;> simp [suL_append, suL_take, suL_drop]
    | int j n => obtain ⟨j', m, e⟩ := su_int hσ j n; rw [e]; rfl
    | _ => simp [su]
theorem mkEl_su (hσ : Num σ) (ag : Bool) (cs : List V) : mkEl ag (suL σ cs) = su σ (mkEl ag cs) := by
  cases ag with
  | true => simp [mkEl, su]
  | false =>
    match cs with
    | [] => simp [mkEl, suL, su]
    | [v] => simp only [mkEl, cond_false, suL, scal_su hσ]; cases scal v <;> simp [su]
    | _ :: _ :: _ => simp [mkEl, suL, su]
theorem reEl_su (hσ : Num σ) (e : V) (cs : List V) : reEl (su σ e) (suL σ cs) = su σ (reEl e cs) := by
  cases e with
  | agg _ => simp [su, reEl]
  | int j n => obtain ⟨j', m, h⟩ := su_int hσ j n; rw [h]; exact mkEl_su hσ false cs
  | _ => exact mkEl_su hσ false cs
theorem dnS_su (hσ : Num σ) (d : Nat) (v : V) : dnS d (su σ v) = (dnS d v).map (su σ) := by
  cases d with
  | zero => simp [dnS]
  | succ d =>
    have h0 := dn1_su hσ (d + 1) v
    cases v with
    | agg cs =>
      simp only [su, dnS, mapM_su (dn1_su hσ (d + 1))]
      cases cs.mapM (dn1 (d + 1)) <;> simp [su]
    | int j n => obtain ⟨j', m, e⟩ := su_int hσ j n; have := dn1_su hσ (d + 1) (.int j n); rw [e] at this ⊢; exact this
    | _ => exact h0

theorem ldV_su (hσ : Num σ) (ag : Bool) (sz : Nat) (a : V) (s : St) : ldV ag sz (su σ a) (suS σ s) = (ldV ag sz a s).map (su σ) := by
  cases a with
  | int j n => obtain ⟨j', m, e⟩ := su_int hσ j n; rw [e]; rfl
  | ep cs o => simp only [su, ldV, ldC_su]
  | bp d i o =>
    simp only [su, ldV, get_su]
    cases s.get d i with
    | none => rfl
    | some b =>
      cases b with
      | box cs =>
        simp only [Option.map_some, suB, ldC_su]
        cases ldC ag sz cs o with
        | none => rfl
        | some v =>
          cases d with
          | zero => rfl
          | succ d => simp [sh2_su hσ]
      | _ => rfl
  | ap d i ver j o =>
    simp only [su, ldV, get_su]
    cases s.get d i with
    | none => rfl
    | some b =>
      cases b with
      | arr ver' z es =>
        simp only [Option.map_some, suB, suL_get]
        cases Nat.beq ver ver' with
        | false => rfl
        | true =>
          simp only [cond_true]
          cases es[j]? with
          | none => rfl
          | some e => simp [cellsOf_su hσ, ldC_su]
      | _ => rfl
  | _ => rfl

theorem stV_su (hσ : Num σ) (ag : Bool) (sz : Nat) (a v : V) (s : St) : stV ag sz (su σ a) (su σ v) (suS σ s) = (stV ag sz a v s).map (suS σ) := by
  cases a with
  | int j n => obtain ⟨j', m, e⟩ := su_int hσ j n; rw [e]; rfl
  | bp d i o =>
    simp only [su, stV, get_su]
    cases s.get d i with
    | none => rfl
    | some b =>
      cases b with
      | box cs =>
        simp only [Option.map_some, suB, dnS_su hσ]
        cases dnS d v with
        | none => rfl
        | some u =>
          simp only [Option.map_some, Option.bind_some, stC_su hσ]
          cases stC ag sz cs o u with
          | none => rfl
          | some cs' => simp [set_su, suB]
      | _ => rfl
  | ap d i ver j o =>
    simp only [su, stV, get_su]
    cases s.get d i with
    | none => rfl
    | some b =>
      cases b with
      | arr ver' z es =>
        simp only [Option.map_some, suB, suL_get]
        cases Nat.beq ver ver' with
        | false => rfl
        | true =>
          simp only [cond_true]
          cases es[j]? with
          | none => rfl
          | some e =>
            simp only [Option.map_some, Option.bind_some, cellsOf_su hσ, dt2_su hσ, stC_su hσ]
            cases stC ag sz (cellsOf e) o (dt2 v) with
            | none => rfl
            | some cs' =>
              simp only [Option.map_some, Option.bind_some, reEl_su hσ, pu2_su hσ]
              cases pu2 (reEl e cs') with
              | false => rfl
              | true => simp [set_su, suB, suL_set]
      | _ => rfl
  | _ => rfl

theorem len_su (hσ : Num σ) (v : V) : len? (su σ v) = len? v := by
  cases v with
  | int j n => obtain ⟨j', m, e⟩ := su_int hσ j n; rw [e]; rfl
  | sl t z es => simp [su, len?, suL_len]
  | _ => rfl
theorem isStr_su (hσ : Num σ) (v : V) : isStr (su σ v) = isStr v := by
  cases v with
  | int j n => obtain ⟨j', m, e⟩ := su_int hσ j n; rw [e]; rfl
  | _ => rfl
theorem els_su (hσ : Num σ) (sz : Nat) (s : St) (v : V) : els sz (suS σ s) (su σ v) = (els sz s v).map (suL σ) := by
  cases v with
  | int j n => obtain ⟨j', m, e⟩ := su_int hσ j n; rw [e]; rfl
  | sl t z es => simp only [su, els]; cases Nat.beq z sz <;> simp
  | str b =>
    simp only [su, els]
    cases Nat.beq sz 1 with
    | false => rfl
    | true =>
      simp only [cond_true, Option.map_some, suL_map, List.map_map]
      congr 1
  | bs d i ver o len =>
    simp only [su, els, get_su]
    cases s.get d i with
    | none => rfl
    | some b =>
      cases b with
      | arr ver' z es =>
        simp only [Option.map_some, suB, suL_len]
        cases (Nat.beq z sz && (Nat.beq ver ver' && Nat.ble (o + len) es.length)) <;> simp [suL_take, suL_drop]
      | _ => rfl
  | _ => rfl

theorem nilK_su (hσ : Num σ) (k : Nat) (v : V) : nilK k (su σ v) = nilK k v := by
  cases v with
  | int j n => obtain ⟨j', m, e⟩ := su_int hσ j n; rw [e]; cases k with
    | zero => rfl
    | succ k => cases k with
      | zero => rfl
      | succ k => cases k with
        | zero => rfl
        | succ k => cases k <;> rfl
  | _ => cases k with
    | zero => rfl
    | succ k => cases k with
      | zero => rfl
      | succ k => cases k with
        | zero => rfl
        | succ k => cases k <;> rfl
theorem nil_su (hσ : Num σ) (v : V) : nil? (su σ v) = nil? v := by
  cases v with
  | int j n => obtain ⟨j', m, e⟩ := su_int hσ j n; rw [e]; rfl
  | _ => rfl

theorem ns_su {v : V} (h : ns v = true) : (∃ k n, v = .int k n) → su σ v = v := by
  rintro ⟨k, n, rfl⟩; exact su_ns h
theorem nat_su (v : V) (h : ns v = true) : nat? (su σ v) = nat? v := by
  cases v with
  | int k n => rw [su_ns h]
  | _ => rfl

theorem elV_su (hσ : Num σ) (sz : Nat) (v : V) : elV sz (su σ v) = (elV sz v).map (su σ) := by
  simp only [elV, dt2_su hσ, pu2_su hσ, cellsOf_su hσ, suL_len]
  cases (pu2 (dt2 v) && Nat.beq (cellsOf (dt2 v)).length sz) <;> simp
theorem argV_su (hσ : Num σ) (b : Bool) (v : V) : argV b (su σ v) = su σ (argV b v) := by
  cases b <;> simp [argV, dt2_su hσ, sh2_su hσ]
theorem cel_su (hσ : Num σ) (v : V) : cel (su σ v) = cel v := by
  simp only [cel, cellsOf_su hσ, all_su (scal_su hσ)]

theorem upd_su (e : Nat → V) (t : Nat) (v : V) (u : Nat) : su σ (upd e t v u) = upd (fun t => su σ (e t)) t (su σ v) u := by
  simp only [upd]; cases Nat.beq u t <;> rfl
theorem put_su (s : St) (d : Option Nat) (v : V) : suS σ (put s d v) = put (suS σ s) d (su σ v) := by
  cases d with
  | none => rfl
  | some t => simp only [put, suS, St.mk.injEq, and_true]; funext u; exact upd_su _ _ _ _
theorem env_su : ∀ (l : List V) (u : Nat), su σ (env l u) = env (suL σ l) u
  | [], _ => by simp [env, suL, su]
  | v :: vs, 0 => by simp [env, suL]
  | v :: vs, n + 1 => by simp only [env, suL]; exact env_su vs n
theorem mkE_su : ∀ (l : List Nat) (vs : List V) (u : Nat), su σ (mkE l vs u) = mkE l (suL σ vs) u
  | [], vs, u => by cases vs <;> simp [mkE, suL, su]
  | _ :: _, [], u => by simp [mkE, suL, su]
  | t :: ts, v :: vs, u => by
    simp only [mkE, suL]
    cases Nat.beq u t
    · exact mkE_su ts vs u
    · rfl
end
end Go.Vm

/-
  The machine V with numbers that are not known. Second part: one operation.
-/
namespace Go.Vm
open Go

section
variable {σ : Int → V}

theorem fillC_su (σ : Int → V) : ∀ (ps : List (Nat × Nat × List V)) (cs : List V), fillC (suL σ cs) (ps.map fun p => (p.1, p.2.1, suL σ p.2.2)) = (fillC cs ps).map (suL σ)
  | [], cs => by simp [fillC]
  | (o, z, vs) :: r, cs => by
    simp only [List.map_cons, fillC, suL_len]
    cases (Nat.beq vs.length z && Nat.ble (o + z) cs.length) with
    | false => rfl
    | true =>
      simp only [cond_true]
      rw [← fillC_su σ r]
      simp [suL_append, suL_take, suL_drop]

/-- what an operand is -/
theorem rd_su (e : Nat → V) (x : O) (hx : ∀ v, x = .c v → su σ v = v) : rd (fun t => su σ (e t)) x = su σ (rd e x) := by
  cases x with
  | t n => rfl
  | c v => exact (hx v rfl).symm

theorem b2sL_su : ∀ (l : List V) (b : List UInt8), b2sL l = some b → b2sL (suL σ l) = some b
  | [], b, h => by simpa [suL] using h
  | v :: vs, b, h => by
    cases v with
    | int k n =>
      cases k with
      | u8 =>
        simp only [b2sL] at h
        obtain ⟨c, h1, rfl⟩ := Option.map_eq_some_iff.1 h
        have := b2sL_su vs c h1
        simp only [suL, su]
        show b2sL (.int .u8 n :: suL σ vs) = _
        simp only [b2sL, this, Option.map_some]
      | _ => simp [b2sL] at h
    | _ => simp [b2sL] at h

theorem binV_ns {op : BinOp} {x y : V} (hx : ns x = true) (hy : ns y = true) {v : V} (h : binV op x y = some v) : binV op (su σ x) (su σ y) = some (su σ v) := by
  cases x with
  | int k a =>
    cases y with
    | int j b =>
      rw [su_ns hx, su_ns hy, h]
      congr 1
      have key : ∀ (m : Int), su σ (.int k m) = .int k m := fun m => su_ns (by simpa [ns] using hx)
      cases op <;> simp only [binV, binI] at h
      all_goals first
        | (have h := bif_same h; cases h; exact (key _).symm)
        | (have h := bif_same h; have h := bif_same h; cases h; exact (key _).symm)
        | (have h := bif_same h; cases h; rfl)
        | (have h := bif_same h; cases h)
        | (cases hb : (decide (b < 0)) <;> simp only [hb, cond_true, cond_false] at h <;> first | (cases h; exact (key _).symm) | cases h)
        | (cases hb : (k == j) <;> cases hc : (b == 0) <;> simp only [hb, hc, cond_true, cond_false] at h <;> first | (cases h; exact (key _).symm) | cases h)
    | _ => simp [binV] at h
  | str a =>
    cases y with
    | str b =>
      simp only [su]
      rw [h]
      simp only [binV] at h
      cases op <;> simp only [binS] at h <;> first | (cases h; rfl) | (have h := bif_same h; cases h; rfl) | cases h
    | _ => simp [binV] at h
  | _ => simp [binV] at h

theorem eqK_ns {k : Nat} {x y : V} (hx : ns x = true) (hy : ns y = true) {b : Bool} (h : eqK k x y = some b) : eqK k (su σ x) (su σ y) = some b := by
  cases x with
  | int i m =>
    cases y with
    | int j n => rw [su_ns hx, su_ns hy, h]
    | _ => cases k with
      | zero => simp [eqK] at h
      | succ k => cases k with
        | zero => simp [eqK] at h
        | succ k => cases k <;> simp [eqK] at h
  | bool a => cases y with
    | bool b => simpa [su] using h
    | _ => cases k with
      | zero => simp [eqK] at h
      | succ k => cases k with
        | zero => simp [eqK] at h
        | succ k => cases k <;> simp [eqK] at h
  | str a => cases y with
    | str b => simpa [su] using h
    | _ => cases k with
      | zero => simp [eqK] at h
      | succ k => cases k with
        | zero => simp [eqK] at h
        | succ k => cases k <;> simp [eqK] at h
  | _ => cases k with
      | zero => simp [eqK] at h
      | succ k => cases k with
        | zero => simp [eqK] at h
        | succ k => cases k <;> simp [eqK] at h
theorem eqL_ns : ∀ (ks : List Nat) (as bs : List V) (b : Bool), as.all ns = true → bs.all ns = true → eqL ks as bs = some b → eqL ks (suL σ as) (suL σ bs) = some b
  | [], [], [], b, _, _, h => by simpa [suL] using h
  | [], [], _ :: _, b, _, _, h => by simp [eqL] at h
  | [], _ :: _, _, b, _, _, h => by simp [eqL] at h
  | _ :: _, [], _, b, _, _, h => by simp [eqL] at h
  | _ :: _, _ :: _, [], b, _, _, h => by simp [eqL] at h
  | k :: ks, x :: as, y :: bs, b, ha, hb, h => by
    simp only [List.all_cons, Bool.and_eq_true] at ha hb
    simp only [eqL] at h
    obtain ⟨c, h1, h2⟩ := Option.bind_eq_some_iff.1 h
    obtain ⟨d, h3, rfl⟩ := Option.map_eq_some_iff.1 h2
    simp only [suL, eqL, eqK_ns ha.1 hb.1 h1, eqL_ns ks as bs d ha.2 hb.2 h3, Option.bind_some, Option.map_some]

theorem cutV_su (hσ : Num σ) {sz : Nat} {s : St} {lo hi mx : Option O} (hl : onat (suS σ s).tm = onat s.tm ∨ True)
    (h1 : ∀ d, onat (suS σ s).tm d lo = onat s.tm d lo) (h2 : ∀ d, onat (suS σ s).tm d hi = onat s.tm d hi) (h3 : ∀ o, mx = some o → nat? (rd (suS σ s).tm o) = nat? (rd s.tm o)) (v : V) :
    cutV sz (suS σ s) lo hi mx (su σ v) = (cutV sz s lo hi mx v).map (su σ) := by
  cases v with
  | int j n => obtain ⟨j', m, e⟩ := su_int hσ j n; rw [e]; rfl
  | str b =>
    simp only [su, cutV, h1, h2]
    cases mx.isNone with
    | false => rfl
    | true =>
      simp only [cond_true]
      cases onat s.tm 0 lo with
      | none => rfl
      | some l =>
        simp only [Option.bind_some]
        cases onat s.tm b.length hi with
        | none => rfl
        | some h => simp only [Option.bind_some]; cases (Nat.ble l h && Nat.ble h b.length) <;> simp [su]
  | sl t z es =>
    simp only [su, cutV, h1, h2, suL_len]
    cases onat s.tm 0 lo with
    | none => rfl
    | some l =>
      simp only [Option.bind_some]
      cases onat s.tm es.length hi with
      | none => rfl
      | some h =>
        simp only [Option.bind_some]
        cases (Nat.beq z sz && (Nat.ble l h && Nat.ble h es.length)) with
        | false => rfl
        | true =>
          simp only [cond_true]
          cases mx with
          | none => simp [su, suL_take, suL_drop]
          | some m =>
            simp only [h3 m rfl]
            cases nat? (rd s.tm m) with
            | none => rfl
            | some m => simp only [Option.bind_some]; cases (hi.isSome && (Nat.ble h m && Nat.ble m es.length)) <;> simp [su, suL_take, suL_drop]
  | bs d i ver o len =>
    simp only [su, cutV, get_su]
    cases s.get d i with
    | none => rfl
    | some b =>
      cases b with
      | arr ver' z es =>
        simp only [Option.map_some, suB, h1, h2]
        cases (mx.isNone && (Nat.beq z sz && Nat.beq ver ver')) with
        | false => rfl
        | true =>
          simp only [cond_true]
          cases onat s.tm 0 lo with
          | none => rfl
          | some l =>
            simp only [Option.bind_some]
            cases onat s.tm len hi with
            | none => rfl
            | some h => simp only [Option.bind_some]; cases (Nat.ble l h && Nat.ble h len) <;> simp [su]
      | _ => rfl
  | _ => rfl

/-- what an operation tells, and the state -/
def suR (σ : Int → V) (r : V × St) : V × St := (su σ r.1, suS σ r.2)

theorem fr_su (s : St) : (suS σ s).fr = suF σ s.fr := rfl
theorem wf_su (s : St) (fr : Fr) : suS σ { s with fr := fr } = { suS σ s with fr := suF σ fr } := rfl
theorem suF_app (a b : Fr) : suF σ (a ++ b) = suF σ a ++ suF σ b := by simp [suF]

theorem appV_su (hσ : Num σ) (sz : Nat) (s : St) (x : V) (ys : List V) : appV sz (suS σ s) (su σ x) (suL σ ys) = (appV sz s x ys).map (suR σ) := by
  cases x with
  | int j n => obtain ⟨j', m, e⟩ := su_int hσ j n; rw [e]; rfl
  | sl t z es =>
    simp only [su, appV, suL_len]
    cases (Nat.beq z sz && Nat.ble (es.length + ys.length) lim) with
    | false => rfl
    | true =>
      simp only [cond_true]
      cases ys with
      | nil => simp [suL, suR, su]
      | cons y ys =>
        simp only [suL]
        cases t with
        | no => rfl
        | ex => simp [suR, su, suL_append, suL, wf_su, suF_app, suF_len, fr_su, suF, suB]
        | «at» d i ver =>
          simp only [get_su]
          cases s.get d i with
          | none => rfl
          | some b =>
            cases b with
            | tok ver' =>
              have ha : (su σ y :: suL σ ys).all cel = (y :: ys).all cel := by
                have := all_su (σ := σ) (p := cel) (cel_su hσ) (y :: ys)
                simpa [suL] using this
              simp only [Option.map_some, suB, ha]
              cases (Nat.beq ver ver' && (y :: ys).all cel) with
              | false => rfl
              | true => simp [suR, su, suL_append, suL, set_su, suB, suL_len]
            | _ => rfl
  | _ => rfl

theorem amV_su (hσ : Num σ) (sz : Nat) (s : St) (x : V) (ys : List V) : amV sz (suS σ s) (su σ x) (suL σ ys) = (amV sz s x ys).map (suR σ) := by
  cases x with
  | int j n => obtain ⟨j', m, e⟩ := su_int hσ j n; rw [e]; rfl
  | sl t z es =>
    cases t with
    | ex =>
      simp only [su, amV, suL_len]
      cases (Nat.beq z sz && Nat.ble (es.length + ys.length) lim) with
      | false => rfl
      | true =>
        simp only [cond_true]
        cases ys with
        | nil => simp [suL, suR, su]
        | cons y ys => simp [suL, suR, su, suL_append, wf_su, suF_app, suF_len, fr_su, suF, suB]
    | _ => rfl
  | bs d i ver o len =>
    simp only [su, amV, get_su]
    cases s.get d i with
    | none => rfl
    | some b =>
      cases b with
      | arr ver' z es =>
        have ha : (suL σ ys).all cel = ys.all cel := all_su (cel_su hσ) ys
        simp only [Option.map_some, suB, suL_len, ha]
        cases (Nat.beq z sz && (Nat.beq ver ver' && (Nat.ble (o + len) es.length && (Nat.ble (len + ys.length) lim && ys.all cel)))) with
        | false => rfl
        | true =>
          simp only [cond_true]
          cases ys with
          | nil => simp [suL, suR, su]
          | cons y ys => simp [suL, suR, su, suL_append, suL_take, suL_drop, set_su, suB, suL_len]
      | _ => rfl
  | _ => rfl

theorem growC_su (hσ : Num σ) (n : Nat) : ∀ (ks : List Nat) (cs : List V) (j : Nat), growC n (suL σ cs) j ks = suL σ (growC n cs j ks)
  | [], cs, j => rfl
  | k :: ks, cs, j => by
    simp only [growC]
    rw [← growC_su hσ n ks]
    congr 1
    rw [suL_get]
    cases hk : cs[k]? with
    | none => rfl
    | some v =>
      cases v with
      | sl t z es =>
        cases t with
        | ex =>
          cases es with
          | nil => simp [su, suL, suL_set]
          | cons a b => simp [su, suL]
        | _ => rfl
      | int k n =>
        obtain ⟨j', m, e⟩ := su_int hσ k n
        simp only [Option.map_some]
        rw [e]
      | _ => rfl
end
end Go.Vm

/-
  The machine V with numbers that are not known. Third part: what a text may bear; operations.
-/
namespace Go.Vm
open Go

mutual
/-- no unknown number inside -/
def clV : V → Bool
  | .int k _ => !(k == .i16)
  | .ep cs _ => clL cs
  | .sl _ _ es => clL es
  | .fn _ a b => clL a && clL b
  | .iface _ v => clV v
  | .agg cs => clL cs
  | .tup vs => clL vs
  | .und | .bool _ | .str _ | .nilp | .bp _ _ _ | .ap _ _ _ _ _ | .bs _ _ _ _ _ | .nilm | .mp _ _ | .nilf | .nili => true
def clL : List V → Bool
  | [] => true
  | v :: vs => clV v && clL vs
end
mutual
theorem clV_su (σ : Int → V) : ∀ v : V, clV v = true → su σ v = v
  | .int k n, h => su_ns h
  | .ep cs o, h => by simp only [clV] at h; simp only [su, clL_su σ cs h]
  | .sl t z es, h => by simp only [clV] at h; simp only [su, clL_su σ es h]
  | .fn f a b, h => by simp only [clV, Bool.and_eq_true] at h; simp only [su, clL_su σ a h.1, clL_su σ b h.2]
  | .iface t v, h => by simp only [clV] at h; simp only [su, clV_su σ v h]
  | .agg cs, h => by simp only [clV] at h; simp only [su, clL_su σ cs h]
  | .tup cs, h => by simp only [clV] at h; simp only [su, clL_su σ cs h]
  | .und, _ | .bool _, _ | .str _, _ | .nilp, _ | .bp _ _ _, _ | .ap _ _ _ _ _, _ | .bs _ _ _ _ _, _ | .nilm, _ | .mp _ _, _ | .nilf, _ | .nili, _ => by simp [su]
theorem clL_su (σ : Int → V) : ∀ l : List V, clL l = true → suL σ l = l
  | [], _ => by simp [suL]
  | v :: vs, h => by simp only [clL, Bool.and_eq_true] at h; simp only [suL, clV_su σ v h.1, clL_su σ vs h.2]
end

def clO : O → Bool
  | .t _ => true
  | .c v => clV v
def clOo : Option O → Bool
  | none => true
  | some o => clO o
def clVO : VO → Bool
  | .wrp k x => !(k == .i16) && clO x
  | .mv x | .not x | .neg x | .ss x | .s2b x | .b2s x | .ld _ _ x | .nc x | .fa _ x | .fd _ _ _ x | .ex x _ | .bx x _ | .mi _ x | .len _ x | .cap x | .fz x | .ml x | .eqn _ _ x => clO x
  | .nw _ | .nm _ | .mm | .bad => true
  | .pick c a b => clO c && (clO a && clO b)
  | .bin _ x y | .eqb _ x y | .eqs _ _ x y | .st _ _ x y | .ia _ _ x y | .ix x y | .iv _ _ _ x y | .app _ x y | .am _ x y => clO x && clO y
  | .al z _ => clL z
  | .bd z ps => clL z && ps.all fun p => clO p.2.2
  | .bl _ es | .bm _ es | .mn es | .mx es | .call _ es => es.all clO
  | .mk _ z n c => clL z && (clO n && clO c)
  | .cut _ _ x lo hi mx => clO x && (clOo lo && (clOo hi && clOo mx))
  | .mf _ a b => a.all clO && b.all clO
  | .cv f as => clO f && as.all clO
  | .inv x _ as => clO x && as.all clO
  | .az _ z x n => clL z && (clO x && clO n)
  | .clr z x => clL z && clO x
  | .mg _ K z m k => !(K == some .i16) && (clV z && (clO m && clO k))
  | .mu K m k v => !(K == some .i16) && (clO m && (clO k && clO v))

/-- what is looked at is known -/
def nsO (r : O → V) : Option O → Bool
  | none => true
  | some o => ns (r o)
def okS (o : VO) (r : O → V) : Bool :=
  match o with
  | .bin _ x y => ns (r x) && ns (r y)
  | .eqs _ _ x y => match r x, r y with
    | .agg as, .agg bs => as.all ns && bs.all ns
    | _, _ => true
  | .neg x | .wrp _ x => ns (r x)
  | .ia _ _ _ i | .ix _ i | .iv _ _ _ _ i | .az _ _ _ i => ns (r i)
  | .mk _ _ n c => ns (r n) && ns (r c)
  | .cut _ _ _ lo hi mx => nsO r lo && (nsO r hi && nsO r mx)
  | .mn xs | .mx xs => xs.all fun x => ns (r x)
  | .mg _ _ _ _ k | .mu _ _ k _ => ns (r k)
  | _ => true

/-- calls that tell the same of all numbers -/
def CallS (σ : Int → V) (cs c : Call) : Prop := ∀ f as sg v sg' wd, cs f as sg = some (v, sg', wd) → c f (suL σ as) (suG σ sg) = some (su σ v, suG σ sg', wd)

section
variable {σ : Int → V} {C : Cfg} {cs c : Call}

theorem rd_cl (s : St) {x : O} (h : clO x = true) : rd (suS σ s).tm x = su σ (rd s.tm x) := rd_su _ _ fun v e => by subst e; exact clV_su σ v h
theorem rdL_cl (s : St) {l : List O} (h : l.all clO = true) : l.map (rd (suS σ s).tm) = suL σ (l.map (rd s.tm)) := by
  rw [suL_map, List.map_map]
  apply List.map_congr_left
  intro x hx
  exact rd_cl s (List.all_eq_true.1 h x hx)
theorem onat_cl (s : St) {x : Option O} (h : clOo x = true) (hn : nsO (rd s.tm) x = true) (d : Nat) : onat (suS σ s).tm d x = onat s.tm d x := by
  cases x with
  | none => rfl
  | some o => simp only [onat]; rw [rd_cl s h, nat_su _ hn]

theorem doCall_su (hσ : Num σ) (hc : CallS σ cs c) {f : FuncId} {as : List V} {s : St} {v : V} {s' : St} (h : doCall C cs f as s = some (v, s')) : doCall C c f (suL σ as) (suS σ s) = some (su σ v, suS σ s') := by
  unfold doCall at h ⊢
  have ea : (suL σ as).map (argV (C.keepA f)) = suL σ (as.map (argV (C.keepA f))) := map_su (argV_su hσ _) as
  rw [ea]
  split at h
  · rename_i u fr sg wd hcs
    have := hc _ _ _ _ _ _ hcs
    simp only [suG, List.map_cons] at this
    simp only [Option.some.injEq, Prod.mk.injEq] at h
    obtain ⟨rfl, rfl⟩ := h
    show (match c f (suL σ (as.map (argV (C.keepA f)))) (suF σ s.fr :: s.sg.map (suF σ)) with | some (v, fr :: sg, wd) => _ | _ => none) = _
    rw [this]
    rfl
  · cases h

theorem findM_su (hσ : Num σ) {k : V} (hk : su σ k = k) (hn : ns k = true) : ∀ (es : List (V × V)) (i : Nat) (r : Option (Nat × V)), findM k es i = some r → findM k (es.map fun (a, b) => (su σ a, su σ b)) i = some (r.map fun p => (p.1, su σ p.2))
  | [], i, r, h => by simp only [findM, Option.some.injEq] at h; subst h; rfl
  | (a, b) :: es, i, r, h => by
    simp only [findM] at h
    have key : ∀ x, sk k a = some x → sk k (su σ a) = some x := by
      intro x hx
      cases k with
      | int kk n =>
        cases a with
        | int j m =>
          simp only [sk] at hx
          have hkj : (kk == j) = true := by
            cases hb : (kk == j)
            · rw [hb] at hx; simp at hx
            · rfl
          have hj : ns (.int j m) = true := by
            have : kk = j := by simpa using hkj
            subst this
            simpa [ns] using hn
          rw [su_ns hj]; exact hx
        | _ => simp [sk] at hx
      | str s =>
        cases a with
        | str t => simpa [su] using hx
        | _ => simp [sk] at hx
      | _ => simp [sk] at hx
    split at h
    · rename_i h1
      simp only [Option.some.injEq] at h
      subst h
      simp only [List.map_cons, findM, key _ h1, Option.map_some]
    · rename_i h1
      simp only [List.map_cons, findM, key _ h1]
      exact findM_su hσ hk hn es _ _ h
    · cases h

theorem kK_ns {K : Option IntKind} {k : V} (h : kK K k = true) (hn : ns k = true) : su σ k = k := by
  cases k with
  | int j n => exact su_ns hn
  | str s => simp [su]
  | _ => cases K <;> simp [kK] at h

theorem lookM_su (hσ : Num σ) {ok : Bool} {z : V} (hz : su σ z = z) {s : St} {m k : V} (hk : su σ k = k) (hn : ns k = true) {v : V} (h : lookM ok z s m k = some v) : lookM ok z (suS σ s) (su σ m) k = some (su σ v) := by
  cases m with
  | nilm =>
    simp only [lookM, Option.some.injEq] at h
    subst h
    cases ok <;> simp [lookM, su, suL, hz]
  | mp d i =>
    simp only [su, lookM, get_su] at h ⊢
    cases hb : s.get d i with
    | none => rw [hb] at h; cases h
    | some b =>
      rw [hb] at h
      cases b with
      | map es =>
        simp only [Option.map_some, suB] at h ⊢
        obtain ⟨r, h1, rfl⟩ := Option.map_eq_some_iff.1 h
        rw [findM_su hσ hk hn _ _ _ h1]
        cases r with
        | none => cases ok <;> simp [su, suL, hz]
        | some p => cases ok <;> simp [su, suL]
      | _ => cases h
  | _ => cases h
theorem ms1_su (hσ : Num σ) (v : V) : ms1 (su σ v) = ms1 v := by
  cases v with
  | int j n => obtain ⟨j', m, e⟩ := su_int hσ j n; rw [e]; rfl
  | _ => rfl
theorem updM_su (hσ : Num σ) {s : St} {m k u : V} (hk : su σ k = k) (hn : ns k = true) {s' : St} (h : updM s m k u = some s') : updM (suS σ s) (su σ m) k (su σ u) = some (suS σ s') := by
  cases m with
  | mp d i =>
    simp only [su, updM, get_su] at h ⊢
    cases hb : s.get d i with
    | none => rw [hb] at h; cases h
    | some b =>
      rw [hb] at h
      cases b with
      | map es =>
        simp only [Option.map_some, suB, ms1_su hσ] at h ⊢
        cases hm : ms1 u with
        | false => rw [hm] at h; cases h
        | true =>
          rw [hm] at h
          simp only [cond_true] at h ⊢
          obtain ⟨r, h1, rfl⟩ := Option.map_eq_some_iff.1 h
          rw [findM_su hσ hk hn _ _ _ h1]
          cases r with
          | none => simp [set_su, suB, hk]
          | some p => simp [set_su, suB, hk, List.map_set]
      | _ => cases h
  | _ => cases h

theorem mnV_su {f : Int → Int → Int} {l : List V} (hl : l.all ns = true) {v : V} (h : mnV f l = some v) : mnV f (suL σ l) = some (su σ v) := by
  have hI : ∀ (l : List V), l.all ns = true → ∀ r, l.mapM intOf = some r → (suL σ l).mapM intOf = some r := by
    intro l
    induction l with
    | nil => intro _ r h; simpa [suL] using h
    | cons a l ih =>
      intro ha r h
      simp only [List.all_cons, Bool.and_eq_true] at ha
      simp only [List.mapM_cons] at h
      obtain ⟨x, h1, h2⟩ := Option.bind_eq_some_iff.1 h
      obtain ⟨y, h3, h4⟩ := Option.bind_eq_some_iff.1 h2
      have e : su σ a = a := by
        cases a with
        | int k n => exact su_ns ha.1
        | _ => simp [intOf] at h1
      simp only [suL, List.mapM_cons, e, h1, ih ha.2 y h3]
      exact h4
  cases l with
  | nil => simp [mnV] at h
  | cons a l =>
    simp only [List.all_cons, Bool.and_eq_true] at hl
    cases a with
    | int k n =>
      simp only [mnV] at h
      obtain ⟨r, h1, rfl⟩ := Option.map_eq_some_iff.1 h
      have e : su σ (.int k n) = .int k n := su_ns hl.1
      simp only [suL, e]
      show ((suL σ l).mapM intOf).map _ = _
      rw [hI l hl.2 r h1]
      simp only [Option.map_some]
      rw [su_ns (by simpa [ns] using hl.1)]
    | _ => simp [mnV] at h
end
end Go.Vm

/-
  The machine V with numbers that are not known. Fourth part: one operation, for all numbers.
-/
namespace Go.Vm
open Go

section
variable {σ : Int → V} {C : Cfg} {cs c : Call}

theorem nat_cl (s : St) {x : O} (h : clO x = true) (hn : ns (rd s.tm x) = true) : nat? (rd (suS σ s).tm x) = nat? (rd s.tm x) := by rw [rd_cl s h, nat_su _ hn]

theorem boxT_su (hσ : Num σ) (n : Nat) (l : List V) (tk : List Nat) : boxT n (suL σ l) tk = suF σ (boxT n l tk) := by
  simp only [boxT, growC_su hσ, suF, List.map_cons, suB, List.map_map]
  congr 1

theorem mapM_el (hσ : Num σ) (sz : Nat) (l : List V) : (suL σ l).mapM (elV sz) = (l.mapM (elV sz)).map (suL σ) := mapM_su (elV_su hσ sz) l

theorem opV_su (hσ : Num σ) (hc : CallS σ cs c) {o : VO} {s : St} {v : V} {s' : St} (hl : clVO o = true) (hk : okS o (rd s.tm) = true) (h : opV C cs o s = some (v, s')) :
    opV C c o (suS σ s) = some (su σ v, suS σ s') := by
  cases o with
  | mv x => simp only [opV, Option.some.injEq, Prod.mk.injEq] at h ⊢; obtain ⟨rfl, rfl⟩ := h; exact ⟨rd_cl s hl, rfl⟩
  | nw sz =>
    simp only [opV, Option.some.injEq, Prod.mk.injEq] at h ⊢; obtain ⟨rfl, rfl⟩ := h
    exact ⟨by simp [su, suL, fr_su, suF_len], by simp [wf_su, suF_app, fr_su, suF, suB]⟩
  | pick x y z =>
    simp only [clVO, Bool.and_eq_true] at hl
    simp only [opV, rd_cl s hl.1, rd_cl s hl.2.1, rd_cl s hl.2.2] at h ⊢
    cases hx : rd s.tm x with
    | bool b => rw [hx] at h; simp only [Option.some.injEq, Prod.mk.injEq] at h; obtain ⟨rfl, rfl⟩ := h; cases b <;> rfl
    | _ => rw [hx] at h; cases h
  | bin op x y =>
    simp only [clVO, Bool.and_eq_true] at hl
    simp only [okS, Bool.and_eq_true] at hk
    simp only [opV, rd_cl s hl.1, rd_cl s hl.2] at h ⊢
    obtain ⟨u, h1, h2⟩ := Option.map_eq_some_iff.1 h
    simp only [Prod.mk.injEq] at h2; obtain ⟨rfl, rfl⟩ := h2
    rw [binV_ns hk.1 hk.2 h1]; rfl
  | eqb n x y =>
    simp only [clVO, Bool.and_eq_true] at hl
    simp only [opV, rd_cl s hl.1, rd_cl s hl.2] at h ⊢
    cases hx : rd s.tm x with
    | bool a => cases hy : rd s.tm y with
      | bool b => rw [hx, hy] at h; simp only [Option.some.injEq, Prod.mk.injEq] at h; obtain ⟨rfl, rfl⟩ := h; rfl
      | _ => rw [hx, hy] at h; cases h
    | _ => rw [hx] at h; cases h
  | eqs n ks x y =>
    simp only [clVO, Bool.and_eq_true] at hl
    simp only [opV, okS, rd_cl s hl.1, rd_cl s hl.2] at h hk ⊢
    cases hx : rd s.tm x with
    | agg as => cases hy : rd s.tm y with
      | agg bs =>
        rw [hx, hy] at h hk
        simp only [Bool.and_eq_true] at hk
        obtain ⟨b, h1, h2⟩ := Option.map_eq_some_iff.1 h
        simp only [Prod.mk.injEq] at h2; obtain ⟨rfl, rfl⟩ := h2
        simp only [su, eqL_ns ks as bs b hk.1 hk.2 h1, Option.map_some]
      | _ => rw [hx, hy] at h; cases h
    | _ => rw [hx] at h; cases h
  | eqn k n x =>
    simp only [opV, rd_cl s hl, nilK_su hσ] at h ⊢
    obtain ⟨b, h1, h2⟩ := Option.map_eq_some_iff.1 h
    simp only [Prod.mk.injEq] at h2; obtain ⟨rfl, rfl⟩ := h2
    rw [h1]; rfl
  | not x =>
    simp only [opV, rd_cl s hl] at h ⊢
    cases hx : rd s.tm x with
    | bool b => rw [hx] at h; simp only [Option.some.injEq, Prod.mk.injEq] at h; obtain ⟨rfl, rfl⟩ := h; rfl
    | _ => rw [hx] at h; cases h
  | neg x =>
    simp only [opV, okS, rd_cl s hl] at h hk ⊢
    cases hx : rd s.tm x with
    | int k n =>
      rw [hx] at h hk; simp only [Option.some.injEq, Prod.mk.injEq] at h; obtain ⟨rfl, rfl⟩ := h
      rw [su_ns hk]
      have : ∀ m, su σ (.int k m) = .int k m := fun m => su_ns (by simpa [ns] using hk)
      simp only [this]
    | _ => rw [hx] at h; cases h
  | wrp k x =>
    simp only [clVO, Bool.and_eq_true] at hl
    simp only [opV, okS, rd_cl s hl.2] at h hk ⊢
    cases hx : rd s.tm x with
    | int j n =>
      rw [hx] at h hk; simp only [Option.some.injEq, Prod.mk.injEq] at h; obtain ⟨rfl, rfl⟩ := h
      rw [su_ns hk]
      have : ∀ m, su σ (.int k m) = .int k m := fun m => su_ns (by simpa [ns] using hl.1)
      simp only [this]
    | _ => rw [hx] at h; cases h
  | ss x =>
    simp only [opV, rd_cl s hl] at h ⊢
    cases hx : rd s.tm x with
    | str b => rw [hx] at h; simp only [Option.some.injEq, Prod.mk.injEq] at h; obtain ⟨rfl, rfl⟩ := h; rfl
    | _ => rw [hx] at h; cases h
  | s2b x =>
    simp only [opV, rd_cl s hl] at h ⊢
    cases hx : rd s.tm x with
    | str b =>
      rw [hx] at h; simp only [Option.some.injEq, Prod.mk.injEq] at h; obtain ⟨rfl, rfl⟩ := h
      simp only [su, Option.some.injEq, Prod.mk.injEq, V.sl.injEq, true_and, and_true, suL_map, List.map_map]
      apply List.map_congr_left
      intro a _
      rfl
    | _ => rw [hx] at h; cases h
  | b2s x =>
    simp only [opV, rd_cl s hl, els_su hσ] at h ⊢
    obtain ⟨l, h1, h2⟩ := Option.bind_eq_some_iff.1 h
    obtain ⟨b, h3, h4⟩ := Option.map_eq_some_iff.1 h2
    simp only [Prod.mk.injEq] at h4; obtain ⟨rfl, rfl⟩ := h4
    simp only [h1, Option.map_some, Option.bind_some, b2sL_su l b h3, su]
  | ld ag sz a =>
    simp only [opV, rd_cl s hl, ldV_su hσ] at h ⊢
    obtain ⟨u, h1, h2⟩ := Option.map_eq_some_iff.1 h
    simp only [Prod.mk.injEq] at h2; obtain ⟨rfl, rfl⟩ := h2
    simp only [h1, Option.map_some]
  | st ag sz a x =>
    simp only [clVO, Bool.and_eq_true] at hl
    simp only [opV, rd_cl s hl.1, rd_cl s hl.2, stV_su hσ] at h ⊢
    obtain ⟨u, h1, h2⟩ := Option.map_eq_some_iff.1 h
    simp only [Prod.mk.injEq] at h2; obtain ⟨rfl, rfl⟩ := h2
    simp only [h1, Option.map_some, su]
  | nc x =>
    simp only [opV, rd_cl s hl] at h ⊢
    cases hx : rd s.tm x with
    | int k n => rw [hx] at h; cases h
    | _ =>
      rw [hx] at h
      first
        | (cases h; done)
        | (simp only [nil?, Option.some.injEq, Prod.mk.injEq] at h; obtain ⟨rfl, rfl⟩ := h; rfl)
  | fa off a =>
    simp only [opV, rd_cl s hl] at h ⊢
    cases hx : rd s.tm a with
    | bp d i o => rw [hx] at h; simp only [Option.some.injEq, Prod.mk.injEq] at h; obtain ⟨rfl, rfl⟩ := h; rfl
    | ep cs o => rw [hx] at h; simp only [Option.some.injEq, Prod.mk.injEq] at h; obtain ⟨rfl, rfl⟩ := h; rfl
    | ap d i v j o => rw [hx] at h; simp only [Option.some.injEq, Prod.mk.injEq] at h; obtain ⟨rfl, rfl⟩ := h; rfl
    | _ => rw [hx] at h; cases h
  | ia n sz x i =>
    simp only [clVO, Bool.and_eq_true] at hl
    simp only [okS] at hk
    cases n with
    | none =>
      simp only [opV, rd_cl s hl.1, nat_cl s hl.2 hk] at h ⊢
      obtain ⟨m, h1, h2⟩ := Option.bind_eq_some_iff.1 h
      rw [h1, Option.bind_some]
      cases hx : rd s.tm x with
      | sl t z es =>
        rw [hx] at h2
        simp only [su, suL_get] at h2 ⊢
        cases hb : Nat.beq z sz with
        | false => rw [hb] at h2; cases h2
        | true =>
          rw [hb] at h2
          simp only [cond_true] at h2 ⊢
          obtain ⟨e, h3, h4⟩ := Option.map_eq_some_iff.1 h2
          simp only [Prod.mk.injEq] at h4; obtain ⟨rfl, rfl⟩ := h4
          simp only [h3, Option.map_some, cellsOf_su hσ, su]
      | bs d b ver o len =>
        rw [hx] at h2
        simp only [su, get_su] at h2 ⊢
        cases hg : s.get d b with
        | none => rw [hg] at h2; cases h2
        | some bl =>
          rw [hg] at h2
          cases bl with
          | arr ver' z es =>
            simp only [Option.map_some, suB] at h2 ⊢
            cases hb : (Nat.beq z sz && (Nat.beq ver ver' && Nat.blt m len)) with
            | false => rw [hb] at h2; cases h2
            | true => rw [hb] at h2; simp only [cond_true, Option.some.injEq, Prod.mk.injEq] at h2; obtain ⟨rfl, rfl⟩ := h2; rfl
          | _ => cases h2
      | _ => rw [hx] at h2; cases h2
    | some n =>
      simp only [opV, rd_cl s hl.1, nat_cl s hl.2 hk] at h ⊢
      obtain ⟨m, h1, h2⟩ := Option.bind_eq_some_iff.1 h
      rw [h1, Option.bind_some]
      cases hb : Nat.blt m n with
      | false => rw [hb] at h2; cases h2
      | true =>
        rw [hb] at h2
        simp only [cond_true] at h2 ⊢
        cases hx : rd s.tm x with
        | bp d i o => rw [hx] at h2; simp only [Option.some.injEq, Prod.mk.injEq] at h2; obtain ⟨rfl, rfl⟩ := h2; rfl
        | ep cs o => rw [hx] at h2; simp only [Option.some.injEq, Prod.mk.injEq] at h2; obtain ⟨rfl, rfl⟩ := h2; rfl
        | ap d i v j o => rw [hx] at h2; simp only [Option.some.injEq, Prod.mk.injEq] at h2; obtain ⟨rfl, rfl⟩ := h2; rfl
        | _ => rw [hx] at h2; cases h2
  | ix x i =>
    simp only [clVO, Bool.and_eq_true] at hl
    simp only [okS] at hk
    simp only [opV, rd_cl s hl.1, nat_cl s hl.2 hk] at h ⊢
    obtain ⟨m, h1, h2⟩ := Option.bind_eq_some_iff.1 h
    rw [h1, Option.bind_some]
    cases hx : rd s.tm x with
    | str b =>
      rw [hx] at h2
      simp only [su] at h2 ⊢
      obtain ⟨e, h3, h4⟩ := Option.map_eq_some_iff.1 h2
      simp only [Prod.mk.injEq] at h4; obtain ⟨rfl, rfl⟩ := h4
      simp only [h3, Option.map_some, su]; rfl
    | _ => rw [hx] at h2; cases h2
  | iv ag sz n x i =>
    simp only [clVO, Bool.and_eq_true] at hl
    simp only [okS] at hk
    simp only [opV, rd_cl s hl.1, nat_cl s hl.2 hk] at h ⊢
    obtain ⟨m, h1, h2⟩ := Option.bind_eq_some_iff.1 h
    rw [h1, Option.bind_some]
    cases hx : rd s.tm x with
    | agg es =>
      rw [hx] at h2
      simp only [su, ldC_su] at h2 ⊢
      cases hb : Nat.blt m n with
      | false => rw [hb] at h2; cases h2
      | true =>
        rw [hb] at h2
        simp only [cond_true] at h2 ⊢
        obtain ⟨e, h3, h4⟩ := Option.map_eq_some_iff.1 h2
        simp only [Prod.mk.injEq] at h4; obtain ⟨rfl, rfl⟩ := h4
        simp only [h3, Option.map_some, dt2_su hσ]
    | _ => rw [hx] at h2; cases h2
  | fd ag off sz x =>
    simp only [opV, rd_cl s hl] at h ⊢
    cases hx : rd s.tm x with
    | agg es =>
      rw [hx] at h
      simp only [su, ldC_su] at h ⊢
      obtain ⟨e, h3, h4⟩ := Option.map_eq_some_iff.1 h
      simp only [Prod.mk.injEq] at h4; obtain ⟨rfl, rfl⟩ := h4
      simp only [h3, Option.map_some, dt2_su hσ]
    | _ => rw [hx] at h; cases h
  | ex x i =>
    simp only [opV, rd_cl s hl] at h ⊢
    cases hx : rd s.tm x with
    | tup es =>
      rw [hx] at h
      simp only [su, suL_get] at h ⊢
      obtain ⟨e, h3, h4⟩ := Option.map_eq_some_iff.1 h
      simp only [Prod.mk.injEq] at h4; obtain ⟨rfl, rfl⟩ := h4
      simp only [h3, Option.map_some]
    | _ => rw [hx] at h; cases h
  | nm sz =>
    simp only [opV, Option.some.injEq, Prod.mk.injEq] at h ⊢; obtain ⟨rfl, rfl⟩ := h
    exact ⟨by simp [su, fr_su, suF_len], by simp [wf_su, suF_app, fr_su, suF, suB, suL]⟩
  | al z tk =>
    simp only [clVO] at hl
    simp only [opV, Option.some.injEq, Prod.mk.injEq] at h ⊢; obtain ⟨rfl, rfl⟩ := h
    refine ⟨by simp [su, fr_su, suF_len], ?_⟩
    simp only [wf_su, suF_app, fr_su, suF_len]
    rw [← boxT_su hσ, clL_su σ z hl]
  | bx x tk =>
    simp only [opV, rd_cl s hl, whole_su hσ, cellsOf_su hσ] at h ⊢
    cases hb : whole (rd s.tm x) with
    | false => rw [hb] at h; cases h
    | true =>
      rw [hb] at h
      simp only [cond_true, Option.some.injEq, Prod.mk.injEq] at h ⊢; obtain ⟨rfl, rfl⟩ := h
      exact ⟨by simp [su, fr_su, suF_len], by simp [wf_su, suF_app, fr_su, suF_len, boxT_su hσ]⟩
  | bd z ps =>
    simp only [clVO, Bool.and_eq_true] at hl
    simp only [opV] at h ⊢
    have e1 : (ps.all fun p => whole (rd (suS σ s).tm p.2.2)) = ps.all fun p => whole (rd s.tm p.2.2) := by
      rw [Bool.eq_iff_iff, List.all_eq_true, List.all_eq_true]
      constructor
      · intro h p hp
        have := h p hp
        rwa [rd_cl s (List.all_eq_true.1 hl.2 p hp), whole_su hσ] at this
      · intro h p hp
        have := h p hp
        rwa [rd_cl s (List.all_eq_true.1 hl.2 p hp), whole_su hσ]
    have e2 : (ps.map fun (o, n, x) => (o, n, (cellsOf (rd (suS σ s).tm x)).map dt0)) = (ps.map fun (o, n, x) => (o, n, (cellsOf (rd s.tm x)).map dt0)).map fun p => (p.1, p.2.1, suL σ p.2.2) := by
      rw [List.map_map]
      apply List.map_congr_left
      intro p hp
      have := List.all_eq_true.1 hl.2 p hp
      simp only [Function.comp]
      rw [rd_cl s this, cellsOf_su hσ, map_su (dt0_su hσ)]
    rw [e1]
    cases hb : (ps.all fun p => whole (rd s.tm p.2.2)) with
    | false => rw [hb] at h; cases h
    | true =>
      rw [hb] at h
      simp only [cond_true] at h ⊢
      obtain ⟨u, h1, h2⟩ := Option.map_eq_some_iff.1 h
      simp only [Prod.mk.injEq] at h2; obtain ⟨rfl, rfl⟩ := h2
      rw [e2]
      have := fillC_su σ (ps.map fun (o, n, x) => (o, n, (cellsOf (rd s.tm x)).map dt0)) z
      rw [clL_su σ z hl.1] at this
      rw [this, h1]
      simp [su]
  | bl sz es =>
    simp only [opV, rdL_cl s hl, mapM_el hσ] at h ⊢
    obtain ⟨u, h1, h2⟩ := Option.bind_eq_some_iff.1 h
    simp only [Option.some.injEq, Prod.mk.injEq] at h2; obtain ⟨rfl, rfl⟩ := h2
    simp only [h1, Option.map_some, Option.bind_some, su]
  | bm sz es =>
    simp only [opV, rdL_cl s hl, mapM_el hσ] at h ⊢
    obtain ⟨u, h1, h2⟩ := Option.bind_eq_some_iff.1 h
    simp only [Option.some.injEq, Prod.mk.injEq] at h2; obtain ⟨rfl, rfl⟩ := h2
    simp only [h1, Option.map_some, Option.bind_some, suL_len, fr_su, suF_len]
    simp [su, wf_su, suF_app, suF, suB]
  | mk ag z n x =>
    simp only [clVO, okS, Bool.and_eq_true] at hl hk
    simp only [opV, nat_cl s hl.2.1 hk.1, nat_cl s hl.2.2 hk.2] at h ⊢
    obtain ⟨m, h1, h2⟩ := Option.bind_eq_some_iff.1 h
    obtain ⟨m2, h3, h4⟩ := Option.bind_eq_some_iff.1 h2
    simp only [h1, h3, Option.bind_some]
    cases hb : Nat.beq m m2 with
    | false => rw [hb] at h4; cases h4
    | true =>
      rw [hb] at h4
      simp only [cond_true, Option.some.injEq, Prod.mk.injEq] at h4 ⊢; obtain ⟨rfl, rfl⟩ := h4
      refine ⟨by simp [su, fr_su, suF_len], ?_⟩
      have e : mkEl ag z = su σ (mkEl ag z) := by rw [← mkEl_su hσ, clL_su σ z hl.1]
      have e2 : suL σ (List.replicate m (mkEl ag z)) = List.replicate m (mkEl ag z) := by rw [suL_map, List.map_replicate, ← e]
      simp only [wf_su, suF_app, fr_su]
      simp [suF, suB, e2]
  | cut st sz x lo hi mx =>
    simp only [clVO, okS, Bool.and_eq_true] at hl hk
    simp only [opV, rd_cl s hl.1, isStr_su hσ] at h ⊢
    cases hb : (isStr (rd s.tm x) == st) with
    | false => rw [hb] at h; cases h
    | true =>
      rw [hb] at h
      simp only [cond_true] at h ⊢
      obtain ⟨u, h1, h2⟩ := Option.map_eq_some_iff.1 h
      simp only [Prod.mk.injEq] at h2; obtain ⟨rfl, rfl⟩ := h2
      rw [cutV_su hσ (.inr trivial) (onat_cl s hl.2.1 hk.1) (onat_cl s hl.2.2.1 hk.2.1) (fun o e => by
        subst e
        exact nat_cl s hl.2.2.2 hk.2.2), h1]
      rfl
  | mf f a b =>
    simp only [clVO, Bool.and_eq_true] at hl
    simp only [opV, rdL_cl s hl.1, rdL_cl s hl.2, Option.some.injEq, Prod.mk.injEq] at h ⊢; obtain ⟨rfl, rfl⟩ := h
    exact ⟨by simp [su], rfl⟩
  | mi t x =>
    simp only [opV, rd_cl s hl, Option.some.injEq, Prod.mk.injEq] at h ⊢; obtain ⟨rfl, rfl⟩ := h
    exact ⟨by simp [su], rfl⟩
  | call f as =>
    simp only [opV, rdL_cl s hl] at h ⊢
    exact doCall_su hσ hc h
  | cv f as =>
    simp only [clVO, Bool.and_eq_true] at hl
    simp only [opV, rdL_cl s hl.2, rd_cl s hl.1] at h ⊢
    unfold doFn at h ⊢
    cases hx : rd s.tm f with
    | fn g a b =>
      rw [hx] at h
      simp only [su] at h ⊢
      have := doCall_su hσ hc h
      simpa [suL_append] using this
    | _ => rw [hx] at h; cases h
  | inv x m as =>
    simp only [clVO, Bool.and_eq_true] at hl
    simp only [opV, rdL_cl s hl.2, rd_cl s hl.1] at h ⊢
    cases hx : rd s.tm x with
    | iface t u =>
      rw [hx] at h
      simp only [su] at h ⊢
      obtain ⟨f, h1, h2⟩ := Option.bind_eq_some_iff.1 h
      rw [h1, Option.bind_some]
      have := doCall_su hσ hc h2
      simpa [suL] using this
    | _ => rw [hx] at h; cases h
  | len st x =>
    simp only [opV, rd_cl s hl, isStr_su hσ, len_su hσ] at h ⊢
    cases hb : (isStr (rd s.tm x) == st) with
    | false => rw [hb] at h; cases h
    | true =>
      rw [hb] at h
      simp only [cond_true] at h ⊢
      obtain ⟨u, h1, h2⟩ := Option.map_eq_some_iff.1 h
      simp only [Prod.mk.injEq] at h2; obtain ⟨rfl, rfl⟩ := h2
      rw [h1]; rfl
  | cap x =>
    simp only [opV, rd_cl s hl] at h ⊢
    cases hx : rd s.tm x with
    | sl t z es =>
      rw [hx] at h
      cases t with
      | ex => simp only [Option.some.injEq, Prod.mk.injEq] at h; obtain ⟨rfl, rfl⟩ := h; simp only [su, suL_len]; rfl
      | _ => cases h
    | _ => rw [hx] at h; cases h
  | app sz x y =>
    simp only [clVO, Bool.and_eq_true] at hl
    simp only [opV, rd_cl s hl.1, rd_cl s hl.2, els_su hσ] at h ⊢
    obtain ⟨l, h1, h2⟩ := Option.bind_eq_some_iff.1 h
    simp only [h1, Option.map_some, Option.bind_some, appV_su hσ, h2, suR]
  | am sz x y =>
    simp only [clVO, Bool.and_eq_true] at hl
    simp only [opV, rd_cl s hl.1, rd_cl s hl.2, els_su hσ] at h ⊢
    obtain ⟨l, h1, h2⟩ := Option.bind_eq_some_iff.1 h
    simp only [h1, Option.map_some, Option.bind_some, amV_su hσ, h2, suR]
  | az ag z x n =>
    simp only [clVO, okS, Bool.and_eq_true] at hl hk
    simp only [opV, rd_cl s hl.2.1, nat_cl s hl.2.2 hk] at h ⊢
    obtain ⟨m, h1, h2⟩ := Option.bind_eq_some_iff.1 h
    rw [h1, Option.bind_some]
    have e : mkEl ag z = su σ (mkEl ag z) := by rw [← mkEl_su hσ, clL_su σ z hl.1]
    have e2 : List.replicate m (mkEl ag z) = suL σ (List.replicate m (mkEl ag z)) := by rw [suL_map, List.map_replicate, ← e]
    rw [e2, amV_su hσ, h2]; rfl
  | mn xs =>
    simp only [clVO, okS] at hl hk
    simp only [opV, rdL_cl s hl] at h ⊢
    obtain ⟨u, h1, h2⟩ := Option.map_eq_some_iff.1 h
    simp only [Prod.mk.injEq] at h2; obtain ⟨rfl, rfl⟩ := h2
    rw [mnV_su (by rw [List.all_map]; exact hk) h1]; rfl
  | mx xs =>
    simp only [clVO, okS] at hl hk
    simp only [opV, rdL_cl s hl] at h ⊢
    obtain ⟨u, h1, h2⟩ := Option.map_eq_some_iff.1 h
    simp only [Prod.mk.injEq] at h2; obtain ⟨rfl, rfl⟩ := h2
    rw [mnV_su (by rw [List.all_map]; exact hk) h1]; rfl
  | clr z x =>
    simp only [clVO, Bool.and_eq_true] at hl
    simp only [opV, rd_cl s hl.2] at h ⊢
    cases hx : rd s.tm x with
    | bs d i ver o len =>
      rw [hx] at h
      simp only [su, get_su] at h ⊢
      cases hg : s.get d i with
      | none => rw [hg] at h; cases h
      | some b =>
        rw [hg] at h
        cases b with
        | arr ver' sz es =>
          simp only [Option.map_some, suB, suL_len] at h ⊢
          cases hb : (Nat.beq sz z.length && (Nat.beq ver ver' && Nat.ble (o + len) es.length)) with
          | false => rw [hb] at h; cases h
          | true =>
            rw [hb] at h
            simp only [cond_true, Option.some.injEq, Prod.mk.injEq] at h ⊢; obtain ⟨rfl, rfl⟩ := h
            refine ⟨by simp [su], ?_⟩
            rw [set_su]
            simp only [suB, suL_append, suL_take]
            congr 2
            rw [← suL_drop]
            congr 1
            apply List.ext_getElem?
            intro j
            simp only [suL_get, List.getElem?_mapIdx]
            cases (List.drop o es)[j]? with
            | none => rfl
            | some e =>
              simp only [Option.map_some]
              cases Nat.blt j len with
              | false => rfl
              | true =>
                simp only [cond_true]
                have e1 : mkEl false z = su σ (mkEl false z) := by rw [← mkEl_su hσ, clL_su σ z hl.1]
                cases e with
                | agg _ => simp [su, clL_su σ z hl.1]
                | int k n =>
                  obtain ⟨j', m, hh⟩ := su_int hσ k n
                  rw [hh]
                  simp only [Option.some.injEq]
                  exact e1
                | _ => simpa [su] using e1
        | _ => cases h
    | sl t z2 es =>
      rw [hx] at h
      cases es with
      | nil => simp only [Option.some.injEq, Prod.mk.injEq] at h; obtain ⟨rfl, rfl⟩ := h; simp [su, suL]
      | cons a b => cases h
    | _ => rw [hx] at h; cases h
  | fz x =>
    simp only [opV, rd_cl s hl] at h ⊢
    cases hx : rd s.tm x with
    | bs d i ver o len =>
      rw [hx] at h
      cases d with
      | succ d => cases h
      | zero =>
        simp only [su, fr_su, suF_get] at h ⊢
        cases hg : s.fr[i]? with
        | none => rw [hg] at h; cases h
        | some b =>
          rw [hg] at h
          cases b with
          | arr ver' z es =>
            simp only [Option.map_some, suB, suL_len] at h ⊢
            cases hb : (Nat.beq ver ver' && Nat.ble (o + len) es.length) with
            | false => rw [hb] at h; cases h
            | true =>
              rw [hb] at h
              simp only [cond_true, Option.some.injEq, Prod.mk.injEq] at h ⊢; obtain ⟨rfl, rfl⟩ := h
              exact ⟨by simp [su, suL_take, suL_drop], by simp [wf_su, suF, List.map_set, suB]⟩
          | _ => cases h
    | sl t z es =>
      rw [hx] at h
      simp only [Option.some.injEq, Prod.mk.injEq] at h; obtain ⟨rfl, rfl⟩ := h
      simp [su]
    | _ => rw [hx] at h; cases h
  | mm =>
    simp only [opV, Option.some.injEq, Prod.mk.injEq] at h ⊢; obtain ⟨rfl, rfl⟩ := h
    exact ⟨by simp [su, fr_su, suF_len], by simp [wf_su, suF_app, fr_su, suF, suB]⟩
  | mg ok K z m k =>
    simp only [clVO, okS, Bool.and_eq_true] at hl hk
    simp only [opV, rd_cl s hl.2.2.1] at h ⊢
    cases hb : kK K (rd s.tm k) with
    | false => rw [hb] at h; cases h
    | true =>
      rw [hb] at h
      have e : rd (suS σ s).tm k = rd s.tm k := by rw [rd_cl s hl.2.2.2, kK_ns hb hk]
      rw [e, hb]
      simp only [cond_true] at h ⊢
      obtain ⟨u, h1, h2⟩ := Option.map_eq_some_iff.1 h
      simp only [Prod.mk.injEq] at h2; obtain ⟨rfl, rfl⟩ := h2
      rw [lookM_su hσ (clV_su σ z hl.2.1) (kK_ns hb hk) hk h1]; rfl
  | mu K m k x =>
    simp only [clVO, okS, Bool.and_eq_true] at hl hk
    simp only [opV, rd_cl s hl.2.1, rd_cl s hl.2.2.2] at h ⊢
    cases hb : kK K (rd s.tm k) with
    | false => rw [hb] at h; cases h
    | true =>
      rw [hb] at h
      have e : rd (suS σ s).tm k = rd s.tm k := by rw [rd_cl s hl.2.2.1, kK_ns hb hk]
      rw [e, hb]
      simp only [cond_true] at h ⊢
      obtain ⟨u, h1, h2⟩ := Option.map_eq_some_iff.1 h
      simp only [Prod.mk.injEq] at h2; obtain ⟨rfl, rfl⟩ := h2
      rw [updM_su hσ (kK_ns hb hk) hk h1]; simp [su]
  | ml m =>
    simp only [opV, rd_cl s hl] at h ⊢
    cases hx : rd s.tm m with
    | mp d i =>
      rw [hx] at h
      simp only [su, get_su] at h ⊢
      cases hg : s.get d i with
      | none => rw [hg] at h; cases h
      | some b =>
        rw [hg] at h
        cases b with
        | map es => simp only [Option.map_some, suB, Option.some.injEq, Prod.mk.injEq] at h ⊢; obtain ⟨rfl, rfl⟩ := h; simp [su]; rfl
        | _ => cases h
    | _ => rw [hx] at h; cases h
  | bad => cases h
end
end Go.Vm

/-
  The machine V with numbers that are not known. Fifth part: its runs.
-/
namespace Go.Vm
open Go

/-- what is known of numbers that are not known: of two of them, of one as another kind; what calls answer -/
structure Orc where
  B : BinOp → V → V → Option V
  W : IntKind → V → Option V
  E : List Nat → V → V → Option Bool
  K : FuncId → List V → Option V

def orcO (A : Orc) (o : VO) (r : O → V) : Option V :=
  match o with
  | .bin op x y => A.B op (r x) (r y)
  | .wrp k x => A.W k (r x)
  | .eqs n ks x y => (A.E ks (r x) (r y)).map fun b => .bool (bif n then !b else b)
  | _ => none

def opS (C : Cfg) (A : Orc) (call : Call) (o : VO) (s : St) : Option (V × St) :=
  match orcO A o (rd s.tm) with
  | some v => some (v, s)
  | none => bif okS o (rd s.tm) then opV C call o s else none
def stepS (C : Cfg) (A : Orc) (call : Call) (o : VOp) (s : St) : Option St :=
  match want s o.g with
  | some true => (opS C A call o.o s).map fun (v, s) => put s o.d v
  | some false => some (put s o.d (.tup []))
  | none => none
def runS (C : Cfg) (A : Orc) (call : Call) : List VOp → St → Option St
  | [], s => some s
  | o :: os, s => (stepS C A call o s).bind fun s => runS C A call os s

def opPS (C : Cfg) (A : Orc) (call : Call) (o : VO) (s : St) : Option V :=
  match o with
  | .call f as => callP C call f (as.map (rd s.tm)) s
  | .cv f as => fnP C call (rd s.tm f) (as.map (rd s.tm)) s
  | o => bif pureO o then (opS C A call o s).map (·.1) else none
def stepPS (C : Cfg) (A : Orc) (call : Call) (o : VOp) (s : St) : Option St :=
  match want s o.g with
  | some true => (opPS C A call o.o s).map fun v => put s o.d v
  | some false => some (put s o.d (.tup []))
  | none => none
def againS (C : Cfg) (A : Orc) (call : Call) (s : St) (o : VOp) : Bool :=
  match want s o.g with
  | some true => match opPS C A call o.o s, o.d with
    | some v, some t => veq v (s.tm t)
    | _, _ => false
  | some false => true
  | none => false
def againAtS (C : Cfg) (A : Orc) (call : Call) (all : List DOp) (s : St) (i : Nat) : Bool :=
  match opAt all i with
  | some o => againS C A call s o
  | none => false
def drwS (C : Cfg) (A : Orc) (call : Call) (all : List DOp) : List DOp → St → Option St
  | [], s => some s
  | x :: l, s => bif x.main then
      (stepS C A call x.op s).bind fun s => bif x.re.all (againAtS C A call all s) then drwS C A call all l s else none
    else (stepPS C A call x.op s).bind fun s => drwS C A call all l s

def execS (C : Cfg) (A : Orc) (call : Call) (fuel : Nat) : VC → St → Option (Ex × St)
  | .skip, s => some (.normal, s)
  | .reg ops, s => (runS C A call ops s).map (.normal, ·)
  | .drw ops, s => (drwS C A call ops ops s).map (.normal, ·)
  | .seq a b, s => match execS C A call fuel a s with
    | some (.normal, s) => execS C A call fuel b s
    | r => r
  | .cond c t e, s => match rd s.tm c with
    | .bool b => bif b then execS C A call fuel t s else execS C A call fuel e s
    | _ => none
  | .block id b, s => match execS C A call fuel b s with
    | some (.exit j, s) => bif Nat.beq j id then some (.normal, s) else some (.exit j, s)
    | r => r
  | .loop live b, s => iter (execS C A call fuel b) s.fr.length live fuel { vals := live.map s.tm, fr := s.fr, sg := s.sg, wd := s.wd }
  | .exit id, s => some (.exit id, s)
  | .ret, s => some (.ret, s)
  | .bad, _ => none

def endV (F : VF) : Option (Ex × St) → Option (V × List Fr × Nat)
  | some (.normal, s) => leave F s
  | some (.ret, s) => leave F s
  | _ => none
def callS (C : Cfg) (A : Orc) (funs : FuncId → Option VF) (prim : Call) : Nat → Call
  | 0, _, _, _ => none
  | n + 1, f, as, sg =>
    match A.K f as with
    | some v => some (v, sg, 0)
    | none => match funs f with
      | some F => endV F (execS C A (callS C A funs prim n) n F.code { tm := env as, fr := [], sg, wd := 0 })
      | none => prim f as sg

-- ---------------------------------------------------------------- what a text may bear

def clG : Option (Nat × Bool) → Bool := fun _ => true
def clVOp (o : VOp) : Bool := clVO o.o
def clC : VC → Bool
  | .reg ops => ops.all clVOp
  | .drw ops => ops.all fun x => clVOp x.op
  | .seq a b => clC a && clC b
  | .cond c t e => clO c && (clC t && clC e)
  | .block _ b => clC b
  | .loop _ b => clC b
  | .skip | .exit _ | .ret | .bad => true

structure OrcOk (T : Tab) (σ : Int → V) (A : Orc) : Prop where
  B : ∀ op x y v, A.B op x y = some v → binV op (su σ x) (su σ y) = some (su σ v)
  W : ∀ k x v, A.W k x = some v → ∃ j n, su σ x = .int j n ∧ su σ v = .int k (k.wrap n)
  E : ∀ ks x y b, A.E ks x y = some b → ∃ as bs, su σ x = .agg as ∧ su σ y = .agg bs ∧ eqL ks as bs = some b
  K : ∀ f as v sg, A.K f as = some v → T.call f (suL σ as) sg = some (su σ v, sg, 0)

section
variable {σ : Int → V} {T : Tab} {A : Orc} {cs : Call}

theorem orcO_pure {o : VO} {r : O → V} {v : V} (h : orcO A o r = some v) : pureO o = true := by
  cases o <;> first | rfl | (simp only [orcO] at h; cases h)

theorem opS_su (hσ : Num σ) (hA : OrcOk T σ A) (hc : CallS σ cs T.call) {o : VO} {s : St} {v : V} {s' : St} (hl : clVO o = true) (h : opS T.C A cs o s = some (v, s')) :
    opV T.C T.call o (suS σ s) = some (su σ v, suS σ s') := by
  unfold opS at h
  split at h
  · rename_i u hu
    simp only [Option.some.injEq, Prod.mk.injEq] at h; obtain ⟨rfl, rfl⟩ := h
    cases o <;> simp only [orcO] at hu <;> first | (cases hu; done) | skip
    · rename_i op x y
      simp only [clVO, Bool.and_eq_true] at hl
      simp only [opV, rd_cl s hl.1, rd_cl s hl.2, hA.B _ _ _ _ hu, Option.map_some]
    · rename_i n ks x y
      simp only [clVO, Bool.and_eq_true] at hl
      obtain ⟨b, h1, rfl⟩ := Option.map_eq_some_iff.1 hu
      obtain ⟨as, bs, h2, h3, h4⟩ := hA.E _ _ _ _ h1
      simp only [opV, rd_cl s hl.1, rd_cl s hl.2, h2, h3, h4, Option.map_some, su]
    · rename_i k x
      simp only [clVO, Bool.and_eq_true] at hl
      obtain ⟨j, n, h1, h2⟩ := hA.W _ _ _ hu
      simp only [opV, rd_cl s hl.2, h1, h2]
  · obtain ⟨h1, h2⟩ := bif_opt h
    exact opV_su hσ hc hl h1 h2

theorem want_su (s : St) (g : Option (Nat × Bool)) {b : Bool} (h : want s g = some b) (hσ : Num σ) : want (suS σ s) g = some b := by
  cases g with
  | none => exact h
  | some p =>
    obtain ⟨t, w⟩ := p
    simp only [want, suS] at h ⊢
    cases hx : s.tm t with
    | bool c => rw [hx] at h; simpa [su] using h
    | tup l =>
      rw [hx] at h
      cases l with
      | nil => simpa [su, suL] using h
      | cons a b => cases h
    | _ => rw [hx] at h; cases h

theorem stepS_su (hσ : Num σ) (hA : OrcOk T σ A) (hc : CallS σ cs T.call) {o : VOp} {s s' : St} (hl : clVOp o = true) (h : stepS T.C A cs o s = some s') : stepV T.C T.call o (suS σ s) = some (suS σ s') := by
  unfold stepS at h
  unfold stepV
  split at h
  · rename_i hw
    rw [want_su s _ hw hσ]
    obtain ⟨⟨v, s1⟩, h1, rfl⟩ := Option.map_eq_some_iff.1 h
    simp only [opS_su hσ hA hc hl h1, Option.map_some, put_su]
  · rename_i hw
    rw [want_su s _ hw hσ]
    simp only [Option.some.injEq] at h; subst h
    simp [put_su, su, suL]
  · cases h
theorem runS_su (hσ : Num σ) (hA : OrcOk T σ A) (hc : CallS σ cs T.call) : ∀ {l : List VOp} {s s' : St}, l.all clVOp = true → runS T.C A cs l s = some s' → runL T.C T.call l (suS σ s) = some (suS σ s')
  | [], s, s', _, h => by simp only [runS, Option.some.injEq] at h; subst h; rfl
  | o :: l, s, s', hl, h => by
    simp only [List.all_cons, Bool.and_eq_true] at hl
    simp only [runS] at h
    obtain ⟨s1, h1, h2⟩ := Option.bind_eq_some_iff.1 h
    simp only [runL, stepS_su hσ hA hc hl.1 h1, Option.bind_some]
    exact runS_su hσ hA hc hl.2 h2

theorem callP_su (hσ : Num σ) (hc : CallS σ cs T.call) {f : FuncId} {as : List V} {s : St} {v : V} (h : callP T.C cs f as s = some v) : callP T.C T.call f (suL σ as) (suS σ s) = some (su σ v) := by
  unfold callP at h ⊢
  have ea : (suL σ as).map (argV (T.C.keepA f)) = suL σ (as.map (argV (T.C.keepA f))) := map_su (argV_su hσ _) as
  rw [ea]
  split at h
  · rename_i u sg wd hcs
    have := hc _ _ _ _ _ _ hcs
    simp only [suG, List.map_cons] at this
    show (match T.call f (suL σ (as.map (argV (T.C.keepA f)))) (suF σ s.fr :: s.sg.map (suF σ)) with | some (v, _, wd) => bif Nat.beq wd 0 then some v else none | _ => none) = _
    rw [this]
    cases hb : Nat.beq wd 0 with
    | false => rw [hb] at h; cases h
    | true => rw [hb] at h; simp only [cond_true, Option.some.injEq] at h; subst h; simp only [hb, cond_true]
  · cases h
theorem opPS_su (hσ : Num σ) (hA : OrcOk T σ A) (hc : CallS σ cs T.call) {o : VO} {s : St} {v : V} (hl : clVO o = true) (h : opPS T.C A cs o s = some v) : opP T.C T.call o (suS σ s) = some (su σ v) := by
  have key : ∀ o : VO, clVO o = true → (bif pureO o then (opS T.C A cs o s).map (·.1) else none) = some v → (bif pureO o then (opV T.C T.call o (suS σ s)).map (·.1) else none) = some (su σ v) := by
    intro o hl h
    cases hp : pureO o with
    | false => rw [hp] at h; cases h
    | true =>
      rw [hp] at h
      simp only [cond_true] at h ⊢
      obtain ⟨⟨u, s1⟩, h1, rfl⟩ := Option.map_eq_some_iff.1 h
      rw [opS_su hσ hA hc hl h1]; rfl
  cases o with
  | call f as =>
    simp only [clVO] at hl
    simp only [opPS, opP, rdL_cl s hl] at h ⊢
    exact callP_su hσ hc h
  | cv f as =>
    simp only [clVO, Bool.and_eq_true] at hl
    simp only [opPS, opP, rdL_cl s hl.2, rd_cl s hl.1] at h ⊢
    unfold fnP at h ⊢
    cases hx : rd s.tm f with
    | fn g a b =>
      rw [hx] at h
      simp only [su] at h ⊢
      have := callP_su hσ hc h
      simpa [suL_append] using this
    | _ => rw [hx] at h; cases h
  | _ => exact key _ hl h
theorem stepPS_su (hσ : Num σ) (hA : OrcOk T σ A) (hc : CallS σ cs T.call) {o : VOp} {s s' : St} (hl : clVOp o = true) (h : stepPS T.C A cs o s = some s') : stepP T.C T.call o (suS σ s) = some (suS σ s') := by
  unfold stepPS at h
  unfold stepP
  split at h
  · rename_i hw
    rw [want_su s _ hw hσ]
    obtain ⟨v, h1, rfl⟩ := Option.map_eq_some_iff.1 h
    simp only [opPS_su hσ hA hc hl h1, Option.map_some, put_su]
  · rename_i hw
    rw [want_su s _ hw hσ]
    simp only [Option.some.injEq] at h; subst h
    simp [put_su, su, suL]
  · cases h
theorem againS_su (hσ : Num σ) (hA : OrcOk T σ A) (hc : CallS σ cs T.call) {o : VOp} {s : St} (hl : clVOp o = true) (h : againS T.C A cs s o = true) : again T.C T.call (suS σ s) o = true := by
  unfold againS at h
  unfold again
  split at h
  · rename_i hw
    rw [want_su s _ hw hσ]
    split at h
    · rename_i v t h1 h2
      simp only [opPS_su hσ hA hc hl h1, h2]
      have := veq_sound _ _ h
      show veq (su σ v) (su σ (s.tm t)) = true
      rw [this]; exact veq_refl _
    · cases h
  · rename_i hw
    rw [want_su s _ hw hσ]
  · cases h
theorem opAt_cl {all : List DOp} (hl : (all.all fun x => clVOp x.op) = true) {i : Nat} {o : VOp} (h : opAt all i = some o) : clVOp o = true := by
  induction all with
  | nil => cases h
  | cons x l ih =>
    simp only [List.all_cons, Bool.and_eq_true] at hl
    simp only [opAt] at h
    cases hb : Nat.beq x.ix i with
    | true => rw [hb] at h; simp only [cond_true, Option.some.injEq] at h; subst h; exact hl.1
    | false => rw [hb] at h; exact ih hl.2 h
theorem againAtS_su (hσ : Num σ) (hA : OrcOk T σ A) (hc : CallS σ cs T.call) {all : List DOp} (hl : (all.all fun x => clVOp x.op) = true) {s : St} {i : Nat} (h : againAtS T.C A cs all s i = true) : againAt T.C T.call all (suS σ s) i = true := by
  unfold againAtS at h
  unfold againAt
  split at h
  · rename_i o ho
    rw [ho]; exact againS_su hσ hA hc (opAt_cl hl ho) h
  · cases h
theorem drwS_su (hσ : Num σ) (hA : OrcOk T σ A) (hc : CallS σ cs T.call) {all : List DOp} (ha : (all.all fun x => clVOp x.op) = true) : ∀ {l : List DOp} {s s' : St}, (l.all fun x => clVOp x.op) = true → drwS T.C A cs all l s = some s' → drwV T.C T.call all l (suS σ s) = some (suS σ s')
  | [], s, s', _, h => by simp only [drwS, Option.some.injEq] at h; subst h; rfl
  | x :: l, s, s', hl, h => by
    simp only [List.all_cons, Bool.and_eq_true] at hl
    simp only [drwS] at h
    simp only [drwV]
    cases hm : x.main with
    | true =>
      rw [hm] at h
      simp only [cond_true] at h ⊢
      obtain ⟨s1, h1, h2⟩ := Option.bind_eq_some_iff.1 h
      rw [stepS_su hσ hA hc hl.1 h1, Option.bind_some]
      cases hb : x.re.all (againAtS T.C A cs all s1) with
      | false => rw [hb] at h2; cases h2
      | true =>
        rw [hb] at h2
        have : x.re.all (againAt T.C T.call all (suS σ s1)) = true := List.all_eq_true.2 fun i hi => againAtS_su hσ hA hc ha (List.all_eq_true.1 hb i hi)
        rw [this]
        exact drwS_su hσ hA hc ha hl.2 h2
    | false =>
      rw [hm] at h
      simp only [cond_false] at h ⊢
      obtain ⟨s1, h1, h2⟩ := Option.bind_eq_some_iff.1 h
      rw [stepPS_su hσ hA hc hl.1 h1, Option.bind_some]
      exact drwS_su hσ hA hc ha hl.2 h2

theorem trunc_su (hσ : Num σ) (n : Nat) (vals : List V) (fr : Fr) : trunc n (suL σ vals) (suF σ fr) = suF σ (trunc n vals fr) := by
  unfold trunc
  rw [suF_len]
  cases Nat.beq fr.length n with
  | true => rfl
  | false =>
    simp only [cond_false]
    have e1 : (suL σ vals).all (lt3 n) = vals.all (lt3 n) := all_su (lt3_su hσ n) vals
    have e2 : ((suF σ fr).take n).all (ltB n) = (fr.take n).all (ltB n) := by
      rw [show (suF σ fr).take n = (fr.take n).map (suB σ) by simp [suF, List.map_take], List.all_map]
      congr 1; funext b; exact ltB_su hσ n b
    rw [e1, e2]
    cases (vals.all (lt3 n) && (fr.take n).all (ltB n)) with
    | true => simp [suF, List.map_take]
    | false => rfl

def suLS (σ : Int → V) (l : LS) : LS := { vals := suL σ l.vals, fr := suF σ l.fr, sg := suG σ l.sg, wd := l.wd }
theorem LSst_su (live : List Nat) (l : LS) : suS σ (l.st live) = (suLS σ l).st live := by
  simp only [suS, LS.st, suLS, St.mk.injEq, and_true]
  funext u
  exact mkE_su live l.vals u
theorem LSnext_su (hσ : Num σ) (n : Nat) (live : List Nat) (s : St) : suLS σ (LS.next n live s) = LS.next n live (suS σ s) := by
  have e : suL σ (live.map s.tm) = live.map (suS σ s).tm := by rw [suL_map, List.map_map]; rfl
  simp only [suLS, LS.next, LS.mk.injEq, ← trunc_su hσ, e]
  exact ⟨trivial, rfl, rfl, rfl⟩
theorem iterS_su (hσ : Num σ) {b b' : St → Option (Ex × St)} (hb : ∀ s x s', b s = some (x, s') → b' (suS σ s) = some (x, suS σ s')) {n : Nat} {live : List Nat} : ∀ {k : Nat} {l : LS} {x : Ex} {s' : St}, iter b n live k l = some (x, s') → iter b' n live k (suLS σ l) = some (x, suS σ s')
  | 0, l, x, s', h => by cases h
  | k + 1, l, x, s', h => by
    simp only [iter] at h ⊢
    rw [← LSst_su]
    cases hx : b (l.st live) with
    | none => rw [hx] at h; cases h
    | some y =>
      obtain ⟨y, s1⟩ := y
      rw [hx] at h
      rw [hb _ _ _ hx]
      cases y with
      | normal =>
        simp only at h ⊢
        rw [← LSnext_su hσ]
        exact iterS_su hσ hb h
      | exit j => simp only [Option.some.injEq, Prod.mk.injEq] at h ⊢; obtain ⟨rfl, rfl⟩ := h; exact ⟨rfl, rfl⟩
      | ret => simp only [Option.some.injEq, Prod.mk.injEq] at h ⊢; obtain ⟨rfl, rfl⟩ := h; exact ⟨rfl, rfl⟩

theorem execS_su (hσ : Num σ) (hA : OrcOk T σ A) (hc : CallS σ cs T.call) (fuel : Nat) : ∀ (p : VC) (s : St) (x : Ex) (s' : St), clC p = true → execS T.C A cs fuel p s = some (x, s') → execF T.C T.call fuel p (suS σ s) = some (x, suS σ s') := by
  intro p
  induction p with
  | skip => intro s x s' _ h; simp only [execS, Option.some.injEq, Prod.mk.injEq] at h; obtain ⟨rfl, rfl⟩ := h; rfl
  | reg l =>
    intro s x s' hl h
    simp only [execS] at h
    obtain ⟨s1, h1, h2⟩ := Option.map_eq_some_iff.1 h
    simp only [Prod.mk.injEq] at h2; obtain ⟨rfl, rfl⟩ := h2
    simp only [execF, runS_su hσ hA hc hl h1, Option.map_some]
  | drw l =>
    intro s x s' hl h
    simp only [execS] at h
    obtain ⟨s1, h1, h2⟩ := Option.map_eq_some_iff.1 h
    simp only [Prod.mk.injEq] at h2; obtain ⟨rfl, rfl⟩ := h2
    simp only [execF, drwS_su hσ hA hc hl hl h1, Option.map_some]
  | seq a b iha ihb =>
    intro s x s' hl h
    simp only [clC, Bool.and_eq_true] at hl
    simp only [execS] at h
    simp only [execF]
    cases hx : execS T.C A cs fuel a s with
    | none => rw [hx] at h; cases h
    | some y =>
      obtain ⟨y, s1⟩ := y
      rw [hx] at h
      rw [iha _ _ _ hl.1 hx]
      cases y with
      | normal => exact ihb _ _ _ hl.2 h
      | exit j => simp only [Option.some.injEq, Prod.mk.injEq] at h ⊢; obtain ⟨rfl, rfl⟩ := h; exact ⟨rfl, rfl⟩
      | ret => simp only [Option.some.injEq, Prod.mk.injEq] at h ⊢; obtain ⟨rfl, rfl⟩ := h; exact ⟨rfl, rfl⟩
  | cond o a b iha ihb =>
    intro s x s' hl h
    simp only [clC, Bool.and_eq_true] at hl
    simp only [execS] at h
    simp only [execF, rd_cl s hl.1]
    cases hx : rd s.tm o with
    | bool c =>
      rw [hx] at h
      simp only [su] at h ⊢
      cases c with
      | true => exact iha _ _ _ hl.2.1 h
      | false => exact ihb _ _ _ hl.2.2 h
    | _ => rw [hx] at h; cases h
  | block i a iha =>
    intro s x s' hl h
    simp only [execS] at h
    simp only [execF]
    cases hx : execS T.C A cs fuel a s with
    | none => rw [hx] at h; cases h
    | some y =>
      obtain ⟨y, s1⟩ := y
      rw [hx] at h
      rw [iha _ _ _ hl hx]
      cases y with
      | normal => simp only [Option.some.injEq, Prod.mk.injEq] at h ⊢; obtain ⟨rfl, rfl⟩ := h; exact ⟨rfl, rfl⟩
      | ret => simp only [Option.some.injEq, Prod.mk.injEq] at h ⊢; obtain ⟨rfl, rfl⟩ := h; exact ⟨rfl, rfl⟩
      | exit j =>
        simp only at h ⊢
        cases hb : Nat.beq j i <;> simp only [hb, cond_true, cond_false, Option.some.injEq, Prod.mk.injEq] at h ⊢ <;> (obtain ⟨rfl, rfl⟩ := h; exact ⟨rfl, rfl⟩)
  | loop live a iha =>
    intro s x s' hl h
    simp only [execS] at h
    simp only [execF]
    have := iterS_su hσ (b' := execF T.C T.call fuel a) (fun s x s' h => iha s x s' hl h) h
    have e : suL σ (live.map s.tm) = live.map (suS σ s).tm := by rw [suL_map, List.map_map]; rfl
    have el : (suS σ s).fr.length = s.fr.length := suF_len _
    rw [el]
    simp only [suLS, e] at this
    exact this
  | exit i => intro s x s' _ h; simp only [execS, Option.some.injEq, Prod.mk.injEq] at h; obtain ⟨rfl, rfl⟩ := h; rfl
  | ret => intro s x s' _ h; simp only [execS, Option.some.injEq, Prod.mk.injEq] at h; obtain ⟨rfl, rfl⟩ := h; rfl
  | bad => intro s x s' _ h; cases h

theorem one_su : ∀ l : List V, one (suL σ l) = su σ (one l)
  | [] => by simp [one, suL, su]
  | [v] => by simp [one, suL]
  | _ :: _ :: _ => by simp [one, suL, su]
theorem dnK_su (hσ : Num σ) (b : Bool) (v : V) : dnK b (su σ v) = (dnK b v).map (su σ) := by
  have h0 := dn1_su hσ 1 v
  cases v with
  | sl t z es =>
    cases t with
    | «at» d i ver =>
      cases d with
      | zero =>
        cases b with
        | true => rfl
        | false => exact h0
      | succ d => exact h0
    | _ => exact h0
  | int j n => obtain ⟨j', m, e⟩ := su_int hσ j n; rw [e] at h0 ⊢; exact h0
  | _ => exact h0
def dnA (keep : Bool) (v : V) : Option V := match v with | V.agg cs => (cs.mapM (dnK keep)).map V.agg | v => dnK keep v
theorem dnA_su (hσ : Num σ) (b : Bool) (v : V) : dnA b (su σ v) = (dnA b v).map (su σ) := by
  have h0 := dnK_su hσ b v
  cases v with
  | agg cs => simp only [su, dnA, mapM_su (dnK_su hσ b)]; cases cs.mapM (dnK b) <;> simp [su]
  | int j n => obtain ⟨j', m, e⟩ := su_int hσ j n; have := dnK_su hσ b (.int j n); rw [e] at this ⊢; exact this
  | _ => exact h0
theorem dnR_su (hσ : Num σ) (b : Bool) (v : V) : dnR b (su σ v) = (dnR b v).map (su σ) := by
  have h0 := dnK_su hσ b v
  cases v with
  | tup vs =>
    show ((suL σ vs).mapM (dnA b)).map V.tup = ((vs.mapM (dnA b)).map V.tup).map (su σ)
    rw [mapM_su (dnA_su hσ b)]; cases vs.mapM (dnA b) <;> simp [su]
  | agg cs => exact dnA_su hσ b (.agg cs)
  | int j n => obtain ⟨j', m, e⟩ := su_int hσ j n; have := dnK_su hσ b (.int j n); rw [e] at this ⊢; exact this
  | _ => exact h0
theorem resV_su (hσ : Num σ) (s : St) (r : Nat × Option (Bool × Nat)) : resV (suS σ s) r = (resV s r).map (su σ) := by
  obtain ⟨t, o⟩ := r
  cases o with
  | none => rfl
  | some p => obtain ⟨ag, sz⟩ := p; exact ldV_su hσ ag sz (s.tm t) s
theorem resVL_su (hσ : Num σ) (s : St) (l : List (Nat × Option (Bool × Nat))) : l.mapM (resV (suS σ s)) = (l.mapM (resV s)).map (suL σ) := by
  induction l with
  | nil => simp [suL]
  | cons r l ih =>
    simp only [List.mapM_cons, resV_su hσ, ih]
    cases resV s r with
    | none => rfl
    | some a => cases l.mapM (resV s) <;> simp [suL]

theorem leave_su (hσ : Num σ) {F : VF} {s : St} {v : V} {sg : List Fr} {wd : Nat} (h : leave F s = some (v, sg, wd)) : leave F (suS σ s) = some (su σ v, suG σ sg, wd) := by
  unfold leave at h ⊢
  rw [resVL_su hσ]
  obtain ⟨vs, h1, h2⟩ := Option.bind_eq_some_iff.1 h
  rw [h1]
  simp only [Option.map_some, Option.bind_some, one_su] at h2 ⊢
  have e : (bif F.keepR then su σ (one vs) else fz3 (suS σ s).fr (su σ (one vs))) = su σ (bif F.keepR then one vs else fz3 s.fr (one vs)) := by
    cases F.keepR with
    | true => rfl
    | false => exact fz3_su hσ s.fr _
  rw [e, pu3_su hσ]
  generalize (bif F.keepR then one vs else fz3 s.fr (one vs)) = u at h2 ⊢
  cases hp : pu3 u with
  | true =>
    rw [hp] at h2
    simp only [cond_true, Option.some.injEq, Prod.mk.injEq] at h2 ⊢
    obtain ⟨rfl, rfl, rfl⟩ := h2
    exact ⟨rfl, rfl, rfl⟩
  | false =>
    rw [hp] at h2
    simp only [cond_false] at h2 ⊢
    have eg : (suS σ s).sg = s.sg.map (suF σ) := rfl
    have ef : (suS σ s).fr = suF σ s.fr := rfl
    have ew : (suS σ s).wd = s.wd := rfl
    rw [eg, ef, ew]
    cases hsg : s.sg with
    | nil => rw [hsg] at h2; cases h2
    | cons f r =>
      rw [hsg] at h2
      simp only [List.map_cons, dnR_su hσ] at h2 ⊢
      cases hd : dnR F.keepR u with
      | some v2 =>
        rw [hd] at h2
        simp only [Option.map_some, Option.some.injEq, Prod.mk.injEq] at h2 ⊢
        obtain ⟨rfl, rfl, rfl⟩ := h2
        exact ⟨rfl, rfl, rfl⟩
      | none =>
        rw [hd] at h2
        simp only [Option.map_none, Option.some.injEq, Prod.mk.injEq] at h2 ⊢
        obtain ⟨rfl, rfl, rfl⟩ := h2
        refine ⟨by rw [suF_len]; exact mg3_su hσ _ _, ?_, rfl⟩
        simp only [suG, List.map_cons, List.cons.injEq, and_true]
        rw [suF_app, suF_len]
        congr 1
        simp only [suF, List.map_map]
        apply List.map_congr_left
        intro b _
        exact mgB_su hσ _ b

/-- what such a run tells -/
theorem callS_su (hσ : Num σ) (hA : OrcOk T σ A) (hp : CallS σ T.prim T.prim) (hl : ∀ f F, T.funs f = some F → clC F.code = true) : ∀ n, CallS σ (callS T.C A T.funs T.prim n) T.call
  | 0 => fun f as sg v sg' wd h => by cases h
  | n + 1 => fun f as sg v sg' wd h => by
    simp only [callS] at h
    cases hK : A.K f as with
    | some u =>
      rw [hK] at h
      simp only [Option.some.injEq, Prod.mk.injEq] at h
      obtain ⟨rfl, rfl, rfl⟩ := h
      exact hA.K _ _ _ _ hK
    | none =>
      rw [hK] at h
      cases hF : T.funs f with
      | none => rw [hF] at h; exact call_prim hF (hp _ _ _ _ _ _ h)
      | some F =>
        rw [hF] at h
        simp only at h
        have e : suS σ { tm := env as, fr := [], sg, wd := 0 } = { tm := env (suL σ as), fr := [], sg := suG σ sg, wd := 0 } := by
          simp only [suS, suF, List.map_nil, St.mk.injEq, and_true]
          funext u; exact env_su as u
        cases hx : execS T.C A (callS T.C A T.funs T.prim n) n F.code { tm := env as, fr := [], sg, wd := 0 } with
        | none => rw [hx] at h; cases h
        | some y =>
          obtain ⟨y, s1⟩ := y
          rw [hx] at h
          have h1 := execS_su hσ hA (callS_su hσ hA hp hl n) n F.code _ _ _ (hl f F hF) hx
          rw [e] at h1
          refine call_fun hF ⟨n, y, _, h1, ?_⟩
          cases y with
          | exit j => cases h
          | normal => exact leave_su hσ h
          | ret => exact leave_su hσ h

end
end Go.Vm

/-
  The machine V, for the kernel: each operation a constant of its own. Printed by kgen.py out of Vm0.
-/
namespace Go.Vm
open Go

noncomputable def kMv (x : O) (C : Cfg) (A : Orc) (call : Call) (s : St) : Option (V × St) :=
  let r := rd s.tm
  some (r x, s)
noncomputable def kNw (sz : Nat) (C : Cfg) (A : Orc) (call : Call) (s : St) : Option (V × St) :=
  let r := rd s.tm
  some (.sl (.at 0 s.fr.length 0) sz [], { s with fr := s.fr ++ [.tok 0] })
noncomputable def kPick (c : O) (a : O) (b : O) (C : Cfg) (A : Orc) (call : Call) (s : St) : Option (V × St) :=
  let r := rd s.tm
  match r c with
    | .bool c => some (bif c then r a else r b, s)
    | _ => none
noncomputable def kBin (op : BinOp) (x : O) (y : O) (C : Cfg) (A : Orc) (call : Call) (s : St) : Option (V × St) :=
  let r := rd s.tm
  match A.B op (r x) (r y) with | some v => some (v, s) | none => bif ns (r x) && ns (r y) then (binV op (r x) (r y)).map (·, s) else none
noncomputable def kEqb (n : Bool) (x : O) (y : O) (C : Cfg) (A : Orc) (call : Call) (s : St) : Option (V × St) :=
  let r := rd s.tm
  match r x, r y with
    | .bool a, .bool b => some (.bool (bif n then !(a == b) else (a == b)), s)
    | _, _ => none
noncomputable def kEqs (n : Bool) (ks : List Nat) (x : O) (y : O) (C : Cfg) (A : Orc) (call : Call) (s : St) : Option (V × St) :=
  let r := rd s.tm
  match (A.E ks (r x) (r y)).map fun b => V.bool (bif n then !b else b) with | some v => some (v, s) | none => bif (match r x, r y with | .agg as, .agg bs => as.all ns && bs.all ns | _, _ => true) then (match r x, r y with
    | .agg as, .agg bs => (eqL ks as bs).map fun b => (.bool (bif n then !b else b), s)
    | _, _ => none) else none
noncomputable def kEqn (k : Nat) (n : Bool) (x : O) (C : Cfg) (A : Orc) (call : Call) (s : St) : Option (V × St) :=
  let r := rd s.tm
  (nilK k (r x)).map fun b => (.bool (bif n then !b else b), s)
noncomputable def kNot (x : O) (C : Cfg) (A : Orc) (call : Call) (s : St) : Option (V × St) :=
  let r := rd s.tm
  match r x with
    | .bool b => some (.bool !b, s)
    | _ => none
noncomputable def kNeg (x : O) (C : Cfg) (A : Orc) (call : Call) (s : St) : Option (V × St) :=
  let r := rd s.tm
  bif ns (r x) then (match r x with
    | .int k n => some (.int k (k.wrap (0 - n)), s)
    | _ => none) else none
noncomputable def kWrp (k : IntKind) (x : O) (C : Cfg) (A : Orc) (call : Call) (s : St) : Option (V × St) :=
  let r := rd s.tm
  match A.W k (r x) with | some v => some (v, s) | none => bif ns (r x) then (match r x with
    | .int _ n => some (.int k (k.wrap n), s)
    | _ => none) else none
noncomputable def kSs (x : O) (C : Cfg) (A : Orc) (call : Call) (s : St) : Option (V × St) :=
  let r := rd s.tm
  match r x with
    | .str b => some (.str b, s)
    | _ => none
noncomputable def kS2b (x : O) (C : Cfg) (A : Orc) (call : Call) (s : St) : Option (V × St) :=
  let r := rd s.tm
  match r x with
    | .str b => some (.sl .no 1 (b.map fun c => .int .u8 c.toNat), s)
    | _ => none
noncomputable def kB2s (x : O) (C : Cfg) (A : Orc) (call : Call) (s : St) : Option (V × St) :=
  let r := rd s.tm
  (els 1 s (r x)).bind fun l => (b2sL l).map fun b => (.str b, s)
noncomputable def kLd (ag : Bool) (sz : Nat) (a : O) (C : Cfg) (A : Orc) (call : Call) (s : St) : Option (V × St) :=
  let r := rd s.tm
  (ldV ag sz (r a) s).map (·, s)
noncomputable def kSt (ag : Bool) (sz : Nat) (a : O) (v : O) (C : Cfg) (A : Orc) (call : Call) (s : St) : Option (V × St) :=
  let r := rd s.tm
  (stV ag sz (r a) (r v) s).map (.und, ·)
noncomputable def kNc (x : O) (C : Cfg) (A : Orc) (call : Call) (s : St) : Option (V × St) :=
  let r := rd s.tm
  match r x with
    | .fn _ _ _ => none
    | v => match nil? v with
      | some false => some (v, s)
      | _ => none
noncomputable def kFa (off : Nat) (a : O) (C : Cfg) (A : Orc) (call : Call) (s : St) : Option (V × St) :=
  let r := rd s.tm
  match r a with
    | .bp d i o => some (.bp d i (o + off), s)
    | .ep cs o => some (.ep cs (o + off), s)
    | .ap d i v j o => some (.ap d i v j (o + off), s)
    | _ => none
noncomputable def kIa0 (sz : Nat) (x i : O) (C : Cfg) (A : Orc) (call : Call) (s : St) : Option (V × St) :=
  let r := rd s.tm
  bif ns (r i) then (nat? (r i)).bind fun i => match r x with
    | .sl _ z es => bif Nat.beq z sz then (es[i]?).map fun e => (.ep (cellsOf e) 0, s) else none
    | .bs d b ver o len => match s.get d b with
      | some (.arr ver' z _) => bif Nat.beq z sz && (Nat.beq ver ver' && Nat.blt i len) then some (.ap d b ver (o + i) 0, s) else none
      | _ => none
    | _ => none else none
noncomputable def kIa1 (n sz : Nat) (x i : O) (C : Cfg) (A : Orc) (call : Call) (s : St) : Option (V × St) :=
  let r := rd s.tm
  bif ns (r i) then (nat? (r i)).bind fun i => bif Nat.blt i n then match r x with
    | .bp d b o => some (.bp d b (o + i * sz), s)
    | .ep cs o => some (.ep cs (o + i * sz), s)
    | .ap d b v j o => some (.ap d b v j (o + i * sz), s)
    | _ => none else none else none
noncomputable def kIa (n : Option Nat) (sz : Nat) (x i : O) (C : Cfg) (A : Orc) (call : Call) (s : St) : Option (V × St) := match n with | none => kIa0 sz x i C A call s | some n => kIa1 n sz x i C A call s
noncomputable def kIx (x : O) (i : O) (C : Cfg) (A : Orc) (call : Call) (s : St) : Option (V × St) :=
  let r := rd s.tm
  bif ns (r i) then ((nat? (r i)).bind fun i => match r x with
    | .str b => (b[i]?).map fun c => (.int .u8 c.toNat, s)
    | _ => none) else none
noncomputable def kIv (ag : Bool) (sz : Nat) (n : Nat) (x : O) (i : O) (C : Cfg) (A : Orc) (call : Call) (s : St) : Option (V × St) :=
  let r := rd s.tm
  bif ns (r i) then ((nat? (r i)).bind fun i => match r x with
    | .agg cs => bif Nat.blt i n then (ldC ag sz cs (i * sz)).map fun v => (dt2 v, s) else none
    | _ => none) else none
noncomputable def kFd (ag : Bool) (off : Nat) (sz : Nat) (x : O) (C : Cfg) (A : Orc) (call : Call) (s : St) : Option (V × St) :=
  let r := rd s.tm
  match r x with
    | .agg cs => (ldC ag sz cs off).map fun v => (dt2 v, s)
    | _ => none
noncomputable def kEx (x : O) (i : Nat) (C : Cfg) (A : Orc) (call : Call) (s : St) : Option (V × St) :=
  let r := rd s.tm
  match r x with
    | .tup vs => (vs[i]?).map (·, s)
    | _ => none
noncomputable def kNm (sz : Nat) (C : Cfg) (A : Orc) (call : Call) (s : St) : Option (V × St) :=
  let r := rd s.tm
  some (.bs 0 s.fr.length 0 0 0, { s with fr := s.fr ++ [.arr 0 sz []] })
noncomputable def kAl (z : List V) (tk : List Nat) (C : Cfg) (A : Orc) (call : Call) (s : St) : Option (V × St) :=
  let r := rd s.tm
  some (.bp 0 s.fr.length 0, { s with fr := s.fr ++ boxT s.fr.length z tk })
noncomputable def kBx (x : O) (tk : List Nat) (C : Cfg) (A : Orc) (call : Call) (s : St) : Option (V × St) :=
  let r := rd s.tm
  bif whole (r x) then some (.bp 0 s.fr.length 0, { s with fr := s.fr ++ boxT s.fr.length (cellsOf (r x)) tk }) else none
noncomputable def kBd (z : List V) (ps : List (Nat × Nat × O)) (C : Cfg) (A : Orc) (call : Call) (s : St) : Option (V × St) :=
  let r := rd s.tm
  bif ps.all (fun p => whole (r p.2.2)) then (fillC z (ps.map fun (o, n, x) => (o, n, (cellsOf (r x)).map dt0))).map fun cs => (.agg cs, s) else none
noncomputable def kBl (sz : Nat) (es : List O) (C : Cfg) (A : Orc) (call : Call) (s : St) : Option (V × St) :=
  let r := rd s.tm
  ((es.map r).mapM (elV sz)).bind fun l => some (.sl .ex sz l, s)
noncomputable def kBm (sz : Nat) (es : List O) (C : Cfg) (A : Orc) (call : Call) (s : St) : Option (V × St) :=
  let r := rd s.tm
  ((es.map r).mapM (elV sz)).bind fun l => some (.bs 0 s.fr.length 0 0 l.length, { s with fr := s.fr ++ [.arr 0 sz l] })
noncomputable def kMk (ag : Bool) (z : List V) (n : O) (c : O) (C : Cfg) (A : Orc) (call : Call) (s : St) : Option (V × St) :=
  let r := rd s.tm
  bif ns (r n) && ns (r c) then ((nat? (r n)).bind fun n => (nat? (r c)).bind fun c =>
      bif Nat.beq n c then some (.bs 0 s.fr.length 0 0 n, { s with fr := s.fr ++ [.arr 0 z.length (List.replicate n (mkEl ag z))] }) else none) else none
noncomputable def kCut (st : Bool) (sz : Nat) (x : O) (lo : Option O) (hi : Option O) (mx : Option O) (C : Cfg) (A : Orc) (call : Call) (s : St) : Option (V × St) :=
  let r := rd s.tm
  bif nsO r lo && (nsO r hi && nsO r mx) then (bif isStr (r x) == st then (cutV sz s lo hi mx (r x)).map (·, s) else none) else none
noncomputable def kMf (f : FuncId) (a : List O) (b : List O) (C : Cfg) (A : Orc) (call : Call) (s : St) : Option (V × St) :=
  let r := rd s.tm
  some (.fn f (a.map r) (b.map r), s)
noncomputable def kMi (t : TypeId) (x : O) (C : Cfg) (A : Orc) (call : Call) (s : St) : Option (V × St) :=
  let r := rd s.tm
  some (.iface t (r x), s)
noncomputable def kCall (f : FuncId) (as : List O) (C : Cfg) (A : Orc) (call : Call) (s : St) : Option (V × St) :=
  let r := rd s.tm
  doCall C call f (as.map r) s
noncomputable def kCv (f : O) (as : List O) (C : Cfg) (A : Orc) (call : Call) (s : St) : Option (V × St) :=
  let r := rd s.tm
  doFn C call (r f) (as.map r) s
noncomputable def kInv (x : O) (m : String) (as : List O) (C : Cfg) (A : Orc) (call : Call) (s : St) : Option (V × St) :=
  let r := rd s.tm
  match r x with
    | .iface t v => (C.meth t m).bind fun f => doCall C call f (v :: as.map r) s
    | _ => none
noncomputable def kLen (st : Bool) (x : O) (C : Cfg) (A : Orc) (call : Call) (s : St) : Option (V × St) :=
  let r := rd s.tm
  bif isStr (r x) == st then (len? (r x)).map fun (n : Nat) => (V.int .i64 (n : Int), s) else none
noncomputable def kCap (x : O) (C : Cfg) (A : Orc) (call : Call) (s : St) : Option (V × St) :=
  let r := rd s.tm
  match r x with
    | .sl .ex _ es => some (.int .i64 es.length, s)
    | _ => none
noncomputable def kApp (sz : Nat) (x : O) (y : O) (C : Cfg) (A : Orc) (call : Call) (s : St) : Option (V × St) :=
  let r := rd s.tm
  (els sz s (r y)).bind fun l => appV sz s (r x) l
noncomputable def kAm (sz : Nat) (x : O) (y : O) (C : Cfg) (A : Orc) (call : Call) (s : St) : Option (V × St) :=
  let r := rd s.tm
  (els sz s (r y)).bind fun l => amV sz s (r x) l
noncomputable def kAz (ag : Bool) (z : List V) (x : O) (n : O) (C : Cfg) (A : Orc) (call : Call) (s : St) : Option (V × St) :=
  let r := rd s.tm
  bif ns (r n) then ((nat? (r n)).bind fun n => amV z.length s (r x) (List.replicate n (mkEl ag z))) else none
noncomputable def kMn (xs : List O) (C : Cfg) (A : Orc) (call : Call) (s : St) : Option (V × St) :=
  let r := rd s.tm
  bif xs.all fun x => ns (r x) then ((mnV (fun a b => bif decide (b < a) then b else a) (xs.map r)).map (·, s)) else none
noncomputable def kMx (xs : List O) (C : Cfg) (A : Orc) (call : Call) (s : St) : Option (V × St) :=
  let r := rd s.tm
  bif xs.all fun x => ns (r x) then ((mnV (fun a b => bif decide (b > a) then b else a) (xs.map r)).map (·, s)) else none
noncomputable def kClr (z : List V) (x : O) (C : Cfg) (A : Orc) (call : Call) (s : St) : Option (V × St) :=
  let r := rd s.tm
  match r x with
    | .bs d i ver o len => match s.get d i with
      | some (.arr ver' sz es) => bif Nat.beq sz z.length && (Nat.beq ver ver' && Nat.ble (o + len) es.length) then
          some (.und, s.set d i (.arr ver sz (es.take o ++ (es.drop o).mapIdx (fun j e => bif Nat.blt j len then (match e with | .agg _ => .agg z | _ => mkEl false z) else e)))) else none
      | _ => none
    | .sl _ _ [] => some (.und, s)
    | _ => none
noncomputable def kFz (x : O) (C : Cfg) (A : Orc) (call : Call) (s : St) : Option (V × St) :=
  let r := rd s.tm
  match r x with
    | .bs 0 i ver o len => match s.fr[i]? with
      | some (.arr ver' z es) => bif Nat.beq ver ver' && Nat.ble (o + len) es.length then some (.sl .no z ((es.drop o).take len), { s with fr := s.fr.set i .dead }) else none
      | _ => none
    | .sl _ z es => some (.sl .no z es, s)
    | _ => none
noncomputable def kMm  (C : Cfg) (A : Orc) (call : Call) (s : St) : Option (V × St) :=
  let r := rd s.tm
  some (.mp 0 s.fr.length, { s with fr := s.fr ++ [.map []] })
noncomputable def kMg (ok : Bool) (K : Option IntKind) (z : V) (m : O) (k : O) (C : Cfg) (A : Orc) (call : Call) (s : St) : Option (V × St) :=
  let r := rd s.tm
  bif ns (r k) then (bif kK K (r k) then (lookM ok z s (r m) (r k)).map (·, s) else none) else none
noncomputable def kMu (K : Option IntKind) (m : O) (k : O) (v : O) (C : Cfg) (A : Orc) (call : Call) (s : St) : Option (V × St) :=
  let r := rd s.tm
  bif ns (r k) then (bif kK K (r k) then (updM s (r m) (r k) (r v)).map (.und, ·) else none) else none
noncomputable def kMl (m : O) (C : Cfg) (A : Orc) (call : Call) (s : St) : Option (V × St) :=
  let r := rd s.tm
  match r m with
    | .mp d i => match s.get d i with
      | some (.map es) => some (.int .i64 (es.length : Int), s)
      | _ => none
    | _ => none
noncomputable def kBad  (C : Cfg) (A : Orc) (call : Call) (s : St) : Option (V × St) :=
  let r := rd s.tm
  none
noncomputable def opK (o : VO) : Cfg → Orc → Call → St → Option (V × St) := @VO.rec (fun _ => Cfg → Orc → Call → St → Option (V × St)) kMv kNw kPick kBin kEqb kEqs kEqn kNot kNeg kWrp kSs kS2b kB2s kLd kSt kNc kFa kIa kIx kIv kFd kEx kNm kAl kBx kBd kBl kBm kMk kCut kMf kMi kCall kCv kInv kLen kCap kApp kAm kAz kMn kMx kClr kFz kMm kMg kMu kMl kBad o
theorem opK_eq (o : VO) (C : Cfg) (A : Orc) (call : Call) (s : St) : opK o C A call s = opS C A call o s := by
  cases o with
  | ia n sz x i => cases n <;> rfl
  | _ => rfl
end Go.Vm

/-
  The machine V, for the kernel: its runs.
-/
namespace Go.Vm
open Go

noncomputable def stepK (o : VOp) (C : Cfg) (A : Orc) (call : Call) (s : St) : Option St :=
  match want s o.g with
  | some true => (opK o.o C A call s).map fun (v, s) => put s o.d v
  | some false => some (put s o.d (.tup []))
  | none => none
theorem stepK_eq (o : VOp) (C : Cfg) (A : Orc) (call : Call) (s : St) : stepK o C A call s = stepS C A call o s := by
  unfold stepK stepS; rw [opK_eq] <;> rfl

noncomputable def kCons (C : Cfg) (A : Orc) (call : Call) (o : VOp) (os : List VOp) (ih : St → Option St) (s : St) : Option St :=
  match stepK o C A call s with
  | some s => ih s
  | none => none
noncomputable def runK (C : Cfg) (A : Orc) (call : Call) (l : List VOp) : St → Option St := @List.rec VOp (fun _ => St → Option St) some (kCons C A call) l
theorem runK_eq (C : Cfg) (A : Orc) (call : Call) : ∀ (l : List VOp) (s : St), runK C A call l s = runS C A call l s
  | [], s => rfl
  | o :: l, s => by
    show kCons C A call o l (runK C A call l) s = _
    unfold kCons
    rw [stepK_eq]
    simp only [runS]
    cases stepS C A call o s with
    | none => rfl
    | some s => exact runK_eq C A call l s

noncomputable def opPK (C : Cfg) (A : Orc) (call : Call) (o : VO) (s : St) : Option V :=
  match o with
  | .call f as => callP C call f (as.map (rd s.tm)) s
  | .cv f as => fnP C call (rd s.tm f) (as.map (rd s.tm)) s
  | o => bif pureO o then (opK o C A call s).map (·.1) else none
theorem opPK_eq (C : Cfg) (A : Orc) (call : Call) (o : VO) (s : St) : opPK C A call o s = opPS C A call o s := by
  cases o <;> first | rfl | (simp only [opPK, opPS, opK_eq])
noncomputable def stepPK (C : Cfg) (A : Orc) (call : Call) (o : VOp) (s : St) : Option St :=
  match want s o.g with
  | some true => (opPK C A call o.o s).map fun v => put s o.d v
  | some false => some (put s o.d (.tup []))
  | none => none
noncomputable def againK (C : Cfg) (A : Orc) (call : Call) (s : St) (o : VOp) : Bool :=
  match want s o.g with
  | some true => match opPK C A call o.o s, o.d with
    | some v, some t => veq v (s.tm t)
    | _, _ => false
  | some false => true
  | none => false
noncomputable def againAtK (C : Cfg) (A : Orc) (call : Call) (all : List DOp) (s : St) (i : Nat) : Bool :=
  match opAt all i with
  | some o => againK C A call s o
  | none => false
noncomputable def kDCons (C : Cfg) (A : Orc) (call : Call) (all : List DOp) (x : DOp) (l : List DOp) (ih : St → Option St) (s : St) : Option St :=
  bif x.main then
    match stepK x.op C A call s with
    | some s => bif x.re.all (againAtK C A call all s) then ih s else none
    | none => none
  else match stepPK C A call x.op s with
    | some s => ih s
    | none => none
noncomputable def drwK (C : Cfg) (A : Orc) (call : Call) (all : List DOp) (l : List DOp) : St → Option St := @List.rec DOp (fun _ => St → Option St) some (kDCons C A call all) l
theorem drwK_eq (C : Cfg) (A : Orc) (call : Call) (all : List DOp) : ∀ (l : List DOp) (s : St), drwK C A call all l s = drwS C A call all l s
  | [], s => rfl
  | x :: l, s => by
    have e1 : ∀ s, stepPK C A call x.op s = stepPS C A call x.op s := fun s => by unfold stepPK stepPS; simp only [opPK_eq] <;> rfl
    have e2 : ∀ s i, againAtK C A call all s i = againAtS C A call all s i := fun s i => by
      unfold againAtK againAtS againK againS; simp only [opPK_eq] <;> rfl
    show kDCons C A call all x l (drwK C A call all l) s = _
    unfold kDCons
    rw [stepK_eq, e1]
    simp only [drwS]
    cases x.main with
    | true =>
      simp only [cond_true]
      cases stepS C A call x.op s with
      | none => rfl
      | some s =>
        simp only [Option.bind_some]
        have : (againAtK C A call all s) = (againAtS C A call all s) := funext fun i => e2 s i
        rw [this]
        cases x.re.all (againAtS C A call all s) with
        | true => exact drwK_eq C A call all l s
        | false => rfl
    | false =>
      simp only [cond_false]
      cases stepPS C A call x.op s with
      | none => rfl
      | some s => exact drwK_eq C A call all l s

abbrev Run := Cfg → Orc → Call → Nat → St → Option (Ex × St)
noncomputable def xSkip : Run := fun _ _ _ _ s => some (.normal, s)
noncomputable def xReg (l : List VOp) : Run := fun C A call _ s => match runK C A call l s with | some s => some (.normal, s) | none => none
noncomputable def xDrw (l : List DOp) : Run := fun C A call _ s => match drwK C A call l l s with | some s => some (.normal, s) | none => none
noncomputable def xSeq (_ _ : VC) (a b : Run) : Run := fun C A call n s => match a C A call n s with
  | some (.normal, s) => b C A call n s
  | r => r
noncomputable def xCond (c : O) (_ _ : VC) (t e : Run) : Run := fun C A call n s => match rd s.tm c with
  | .bool b => bif b then t C A call n s else e C A call n s
  | _ => none
noncomputable def xBlock (id : Nat) (_ : VC) (b : Run) : Run := fun C A call n s => match b C A call n s with
  | some (.exit j, s) => bif Nat.beq j id then some (.normal, s) else some (.exit j, s)
  | r => r
noncomputable def xLoop (live : List Nat) (_ : VC) (b : Run) : Run := fun C A call n s => iter (b C A call n) s.fr.length live n { vals := live.map s.tm, fr := s.fr, sg := s.sg, wd := s.wd }
noncomputable def xExit (id : Nat) : Run := fun _ _ _ _ s => some (.exit id, s)
noncomputable def xRet : Run := fun _ _ _ _ s => some (.ret, s)
noncomputable def xBad : Run := fun _ _ _ _ _ => none
noncomputable def execK (c : VC) : Run := @VC.rec (fun _ => Run) xSkip xReg xDrw xSeq xCond xBlock xLoop xExit xRet xBad c
theorem execK_eq (C : Cfg) (A : Orc) (call : Call) (n : Nat) (c : VC) : ∀ s, execK c C A call n s = execS C A call n c s := by
  induction c with
  | skip => intro s; rfl
  | reg l => intro s; show xReg l C A call n s = _; unfold xReg; rw [runK_eq]; simp only [execS]; cases runS C A call l s <;> rfl
  | drw l => intro s; show xDrw l C A call n s = _; unfold xDrw; rw [drwK_eq]; simp only [execS]; cases drwS C A call l l s <;> rfl
  | seq a b iha ihb =>
    intro s
    show xSeq a b (execK a) (execK b) C A call n s = _
    unfold xSeq
    rw [iha]; simp only [execS]
    cases execS C A call n a s with
    | none => rfl
    | some y =>
      obtain ⟨y, s1⟩ := y
      cases y with
      | normal => exact ihb s1
      | exit j => rfl
      | ret => rfl
  | cond o a b iha ihb =>
    intro s
    show xCond o a b (execK a) (execK b) C A call n s = _
    unfold xCond
    simp only [execS]
    cases rd s.tm o with
    | bool c => cases c with
      | true => exact iha s
      | false => exact ihb s
    | _ => rfl
  | block i a iha =>
    intro s
    show xBlock i a (execK a) C A call n s = _
    unfold xBlock
    rw [iha]; simp only [execS] <;> rfl
  | loop live a iha =>
    intro s
    show xLoop live a (execK a) C A call n s = _
    unfold xLoop
    simp only [execS]
    have : execK a C A call n = execS C A call n a := funext iha
    rw [this]
  | exit i => intro s; rfl
  | ret => intro s; rfl
  | bad => intro s; rfl

noncomputable def callK (C : Cfg) (A : Orc) (funs : FuncId → Option VF) (prim : Call) : Nat → Call
  | 0, _, _, _ => none
  | n + 1, f, as, sg =>
    match A.K f as with
    | some v => some (v, sg, 0)
    | none => match funs f with
      | some F => endV F (execK F.code C A (callK C A funs prim n) n { tm := env as, fr := [], sg, wd := 0 })
      | none => prim f as sg
theorem callK_eq (C : Cfg) (A : Orc) (funs : FuncId → Option VF) (prim : Call) : ∀ n, callK C A funs prim n = callS C A funs prim n
  | 0 => rfl
  | n + 1 => by
    funext f as sg
    simp only [callK, callS, callK_eq C A funs prim n, execK_eq] <;> rfl

/-- true, and no frame -/
def isT : Option (V × List Fr × Nat) → Bool
  | some (.bool b, [], _) => b
  | _ => false
theorem isT_some {r : Option (V × List Fr × Nat)} (h : isT r = true) : ∃ wd, r = some (.bool true, [], wd) := by
  unfold isT at h
  split at h
  · subst h; exact ⟨_, rfl⟩
  · cases h

section
variable {σ : Int → V} {T : Tab} {A : Orc}
/-- what the kernel finds true is true -/
theorem true_of_K (hσ : Num σ) (hA : OrcOk T σ A) (hp : CallS σ T.prim T.prim) (hl : ∀ f F, T.funs f = some F → clC F.code = true) {n : Nat} {f : FuncId} {as : List V} (h : isT (callK T.C A T.funs T.prim n f as []) = true) :
    ∃ wd, T.call f (suL σ as) [] = some (.bool true, [], wd) := by
  obtain ⟨wd, h⟩ := isT_some h
  rw [callK_eq] at h
  have := callS_su hσ hA hp hl n _ _ _ _ _ _ h
  simp only [su, suG, List.map_nil] at this
  exact ⟨wd, this⟩
end
end Go.Vm

/-
  The machine V with numbers that are not known: routines without a body, and a call from outside.
-/
namespace Go.Vm
open Go Go.RowKit

section
variable {σ : Int → V}
theorem primX_su (K : FuncId → Option Nat) : CallS σ (primX K) (primX K) := by
  intro f as sg v sg' wd h
  unfold primX at h
  split at h
  · rename_i a b hK
    simp only [Option.some.injEq, Prod.mk.injEq] at h
    obtain ⟨rfl, rfl, rfl⟩ := h
    simp only [suL, su]
    unfold primX
    rw [hK]; rfl
  · rename_i a c hK
    simp only [Option.some.injEq, Prod.mk.injEq] at h
    obtain ⟨rfl, rfl, rfl⟩ := h
    have e : su σ (.int .u8 c) = .int .u8 c := su_ns rfl
    simp only [suL, su]
    unfold primX
    rw [hK]; rfl
  · cases h
theorem cloneR_su {z : Nat} {es : List V} {sg : List Fr} {m : Bool} {v : V} {sg' : List Fr} {wd : Nat} (h : cloneR z es sg m = some (v, sg', wd)) : cloneR z (suL σ es) (suG σ sg) m = some (su σ v, suG σ sg', wd) := by
  cases m with
  | false =>
    simp only [cloneR, Option.some.injEq, Prod.mk.injEq] at h ⊢; obtain ⟨rfl, rfl, rfl⟩ := h; exact ⟨by simp [su], rfl, rfl⟩
  | true =>
    cases sg with
    | nil => cases h
    | cons f r =>
      simp only [cloneR, suG, List.map_cons, Option.some.injEq, Prod.mk.injEq] at h ⊢
      obtain ⟨rfl, rfl, rfl⟩ := h
      exact ⟨by simp [su, suF_len, suL_len], by simp [suF, suB, suL_len], rfl⟩
theorem cloneX_su (hσ : Num σ) (L : FuncId → Option (Nat × Bool)) : CallS σ (cloneX L) (cloneX L) := by
  intro f as sg v sg' wd h
  unfold cloneX at h
  split at h
  · rename_i z m t z' es hL
    cases hb : (Nat.beq z z' && (Nat.ble es.length lim && (!m || es.all cel))) with
    | false => rw [hb] at h; cases h
    | true =>
      rw [hb] at h
      simp only [cond_true] at h
      have e : (suL σ es).all cel = es.all cel := all_su (cel_su hσ) es
      simp only [suL, su]
      unfold cloneX
      rw [hL]
      simp only [suL_len, e, hb, cond_true]
      exact cloneR_su h
  · cases h
theorem primAll_su (hσ : Num σ) (K : FuncId → Option Nat) (L : FuncId → Option (Nat × Bool)) : CallS σ (primAll K L) (primAll K L) := by
  intro f as sg v sg' wd h
  unfold primAll at h ⊢
  split at h
  · exact primX_su K f as sg v sg' wd h
  · exact cloneX_su hσ L f as sg v sg' wd h
end

/-- no number is put in -/
def sg0 : Int → V := fun n => .int .i16 n
theorem num0 : Num sg0 := fun n => ⟨_, _, rfl⟩
mutual
theorem su0 : ∀ v : V, su sg0 v = v
  | .int k n => by
    simp only [su]
    cases h : k == IntKind.i16 with
    | false => rfl
    | true => simp only [cond_true, sg0]; rw [show k = .i16 by simpa using h]
  | .ep cs o => by simp only [su, suL0 cs]
  | .sl t z es => by simp only [su, suL0 es]
  | .fn f a b => by simp only [su, suL0 a, suL0 b]
  | .iface t v => by simp only [su, su0 v]
  | .agg cs => by simp only [su, suL0 cs]
  | .tup cs => by simp only [su, suL0 cs]
  | .und | .bool _ | .str _ | .nilp | .bp _ _ _ | .ap _ _ _ _ _ | .bs _ _ _ _ _ | .nilm | .mp _ _ | .nilf | .nili => by simp [su]
theorem suL0 : ∀ l : List V, suL sg0 l = l
  | [] => by simp [suL]
  | v :: vs => by simp only [suL, su0 v, suL0 vs]
end
def orc0 : Orc := { B := fun _ _ _ => none, W := fun _ _ => none, E := fun _ _ _ => none, K := fun _ _ => none }
theorem orc0_ok {T : Tab} {σ : Int → V} : OrcOk T σ orc0 := ⟨(fun _ _ _ _ h => by cases h), (fun _ _ _ h => by cases h), (fun _ _ _ _ h => by cases h), (fun _ _ _ _ h => by cases h)⟩
end Go.Vm

/-
  The machine V, for the kernel, quicker: what is done next is handed on; few steps for what is frequent.
-/
namespace Go.Vm
open Go

abbrev Kt := (Nat → V) → Fr → List Fr → Nat → Bool
abbrev Kv := V → Kt
abbrev Kc := V → List Fr → Nat → Bool
abbrev CallC := FuncId → List V → List Fr → Kc → Bool

structure Env where
  C : Cfg
  A : Orc
  call : CallC
  n : Nat

noncomputable def ifK (b : Bool) (x y : Bool) : Bool := @Bool.rec (fun _ => Bool) y x b
noncomputable def updK (t : Nat) (v : V) (e : Nat → V) (u : Nat) : V := @Bool.rec (fun _ => V) (e u) v (Nat.beq u t)
noncomputable def rdK (tm : Nat → V) (x : O) : V := @O.rec (fun _ => V) (fun n => tm n) (fun v => v) x
noncomputable def envK (l : List V) : Nat → V := @List.rec V (fun _ => Nat → V) (fun _ => .und) (fun v _ ih u => @Nat.rec (fun _ => V) v (fun m _ => ih m) u) l
noncomputable def mkK (l : List Nat) (vs : List V) (u : Nat) : V :=
  @List.rec Nat (fun _ => List V → V) (fun _ => .und) (fun t _ ih vs => @List.rec V (fun _ => V) .und (fun v vs _ => @Bool.rec (fun _ => V) (ih vs) v (Nat.beq u t)) vs) l vs

theorem ifK_eq (b x y : Bool) : ifK b x y = bif b then x else y := by cases b <;> rfl
theorem updK_eq (t : Nat) (v : V) (e : Nat → V) : updK t v e = upd e t v := by
  funext u; unfold updK upd; cases Nat.beq u t <;> rfl
theorem rdK_eq (tm : Nat → V) (x : O) : rdK tm x = rd tm x := by cases x <;> rfl
theorem envK_eq : ∀ l : List V, envK l = env l
  | [] => by funext u; cases u <;> rfl
  | v :: l => by
    funext u
    cases u with
    | zero => rfl
    | succ u => show envK l u = env l u; rw [envK_eq l]
theorem mkK_eq (u : Nat) : ∀ (l : List Nat) (vs : List V), mkK l vs u = mkE l vs u
  | [], vs => by cases vs <;> rfl
  | t :: l, [] => rfl
  | t :: l, v :: vs => by
    show @Bool.rec (fun _ => V) (mkK l vs u) v (Nat.beq u t) = _
    simp only [mkE]
    cases Nat.beq u t
    · exact mkK_eq u l vs
    · rfl

/-- a number, or else -/
noncomputable def vInt (v : V) (k : IntKind → Int → Bool) (z : Bool) : Bool :=
  @V.rec (fun _ => Bool) (fun _ => Unit) z (fun _ => z) k (fun _ => z) z (fun _ _ _ => z) (fun _ _ _ => z) (fun _ _ _ _ _ => z) (fun _ _ _ _ => z) (fun _ _ _ _ _ => z) z (fun _ _ => z) (fun _ _ _ _ _ => z) z (fun _ _ _ => z) z (fun _ _ => z) (fun _ _ => z) () (fun _ _ _ _ => ()) v
noncomputable def vBool (v : V) (k : Bool → Bool) : Bool :=
  @V.rec (fun _ => Bool) (fun _ => Unit) false k (fun _ _ => false) (fun _ => false) false (fun _ _ _ => false) (fun _ _ _ => false) (fun _ _ _ _ _ => false) (fun _ _ _ _ => false) (fun _ _ _ _ _ => false) false (fun _ _ => false) (fun _ _ _ _ _ => false) false (fun _ _ _ => false) false (fun _ _ => false) (fun _ _ => false) () (fun _ _ _ _ => ()) v
theorem vInt_eq (v : V) (k : IntKind → Int → Bool) (z : Bool) : vInt v k z = match v with | .int j n => k j n | _ => z := by cases v <;> rfl
theorem vBool_eq (v : V) (k : Bool → Bool) : vBool v k = match v with | .bool b => k b | _ => false := by cases v <;> rfl
noncomputable def nonNeg (n : Int) (k : Nat → Bool) (z : Bool) : Bool := @Int.rec (fun _ => Bool) k (fun _ => z) n

noncomputable def ikA (k : IntKind) : Nat := @IntKind.rec (fun _ => Nat) 0 100 2 3 4 5 6 7 k
noncomputable def ikB (k : IntKind) : Nat := @IntKind.rec (fun _ => Nat) 0 200 2 3 4 5 6 7 k
theorem ik_s {k j : IntKind} (h : Nat.beq (ikA k) (ikB j) = true) : k = j ∧ (k == IntKind.i16) = false := by
  cases k <;> cases j <;> first | exact ⟨rfl, rfl⟩ | (exfalso; revert h; decide)

noncomputable def bAdd (k : IntKind) (m n : Nat) (kk : V → Bool) (z : Bool) : Bool := ifK (Nat.blt (m + n) 9223372036854775808) (ifK (Nat.beq (ikA k) 3) (kk (.int .i64 (.ofNat (m + n)))) z) z
noncomputable def bSub (k : IntKind) (m n : Nat) (kk : V → Bool) (z : Bool) : Bool := ifK (Nat.ble n m) (ifK (Nat.blt m 9223372036854775808) (ifK (Nat.beq (ikA k) 3) (kk (.int .i64 (.ofNat (m - n)))) z) z) z
noncomputable def bEql (_ : IntKind) (m n : Nat) (kk : V → Bool) (_ : Bool) : Bool := kk (.bool (Nat.beq m n))
noncomputable def bNeq (_ : IntKind) (m n : Nat) (kk : V → Bool) (_ : Bool) : Bool := kk (.bool (@Bool.rec (fun _ => Bool) true false (Nat.beq m n)))
noncomputable def bLss (_ : IntKind) (m n : Nat) (kk : V → Bool) (_ : Bool) : Bool := kk (.bool (Nat.blt m n))
noncomputable def bLeq (_ : IntKind) (m n : Nat) (kk : V → Bool) (_ : Bool) : Bool := kk (.bool (Nat.ble m n))
noncomputable def bGtr (_ : IntKind) (m n : Nat) (kk : V → Bool) (_ : Bool) : Bool := kk (.bool (Nat.blt n m))
noncomputable def bGeq (_ : IntKind) (m n : Nat) (kk : V → Bool) (_ : Bool) : Bool := kk (.bool (Nat.ble n m))
noncomputable def bElse (_ : IntKind) (_ _ : Nat) (_ : V → Bool) (z : Bool) : Bool := z
noncomputable def bOp (op : BinOp) : IntKind → Nat → Nat → (V → Bool) → Bool → Bool :=
  @BinOp.rec (fun _ => IntKind → Nat → Nat → (V → Bool) → Bool → Bool) bAdd bSub bElse bElse bElse bElse bElse bElse bElse bElse bElse bEql bNeq bLss bLeq bGtr bGeq op
noncomputable def binC (op : BinOp) (a b : V) (kk : V → Bool) (z : Bool) : Bool :=
  vInt a (fun ka ia => vInt b (fun kb ib => ifK (Nat.beq (ikA ka) (ikB kb)) (nonNeg ia (fun m => nonNeg ib (fun n => bOp op ka m n kk z) z) z) z) z) z

theorem wrap_i64 {n : Nat} (h : n < 9223372036854775808) : IntKind.i64.wrap (n : Int) = n := by
  unfold IntKind.wrap
  have e1 : (2 ^ IntKind.i64.bits : Int) = 18446744073709551616 := by decide
  have e2 : (2 ^ (IntKind.i64.bits - 1) : Int) = 9223372036854775808 := by decide
  simp only [e1, e2]
  have h1 : ((n : Int) % 18446744073709551616) = n := Int.emod_eq_of_lt (by omega) (by omega)
  split
  · rename_i hh
    simp only [Bool.and_eq_true, decide_eq_true_eq] at hh
    omega
  · exact h1

theorem beq_of (m n : Nat) : ((m : Int) == (n : Int)) = Nat.beq m n := by
  rw [Bool.eq_iff_iff]; simp; omega
theorem binC_s {σ : Int → V} {op : BinOp} {a b : V} {kk : V → Bool} {z : Bool} (h : binC op a b kk z = true) : z = true ∨ ∃ v, binV op (su σ a) (su σ b) = some (su σ v) ∧ kk v = true := by
  unfold binC at h
  rw [vInt_eq] at h
  split at h
  · rename_i ka ia
    rw [vInt_eq] at h
    split at h
    · rename_i kb ib
      rw [ifK_eq] at h
      cases hk : Nat.beq (ikA ka) (ikB kb) with
      | false => rw [hk] at h; exact .inl h
      | true =>
        rw [hk] at h
        obtain ⟨rfl, hns⟩ := ik_s hk
        simp only [cond_true] at h
        cases ia with
        | negSucc _ => exact .inl h
        | ofNat m =>
          cases ib with
          | negSucc _ => exact .inl h
          | ofNat n =>
            have h : bOp op ka m n kk z = true := h
            have na : ns (.int ka (Int.ofNat m)) = true := by simp [ns, hns]
            have nb : ns (.int ka (Int.ofNat n)) = true := by simp [ns, hns]
            have key : ∀ v, binV op (.int ka (Int.ofNat m)) (.int ka (Int.ofNat n)) = some v → kk v = true → z = true ∨ ∃ v, binV op (su σ (.int ka (Int.ofNat m))) (su σ (.int ka (Int.ofNat n))) = some (su σ v) ∧ kk v = true :=
              fun v h1 h2 => .inr ⟨v, binV_ns na nb h1, h2⟩
            cases op <;> try exact .inl h
            · -- add
              have g : bAdd ka m n kk z = true := h
              clear h
              unfold bAdd at g
              simp only [ifK_eq] at g
              cases h1 : Nat.blt (m + n) 9223372036854775808 with
              | false => rw [h1] at g; exact .inl g
              | true =>
                rw [h1] at g
                cases h2 : Nat.beq (ikA ka) 3 with
                | false => rw [h2] at g; exact .inl g
                | true =>
                  rw [h2] at g
                  have e : ka = .i64 := by cases ka <;> first | rfl | (exfalso; revert h2; decide)
                  subst e
                  refine key _ ?_ g
                  simp only [binV, binI, beq_self_eq_true, cond_true, Option.some.injEq, V.int.injEq, true_and]
                  have := wrap_i64 (n := m + n) (by simpa [Nat.blt_eq] using h1)
                  simpa using this
            · -- sub
              have g : bSub ka m n kk z = true := h
              clear h
              unfold bSub at g
              simp only [ifK_eq] at g
              cases h0 : Nat.ble n m with
              | false => rw [h0] at g; exact .inl g
              | true =>
                rw [h0] at g
                cases h1 : Nat.blt m 9223372036854775808 with
                | false => rw [h1] at g; exact .inl g
                | true =>
                  rw [h1] at g
                  cases h2 : Nat.beq (ikA ka) 3 with
                  | false => rw [h2] at g; exact .inl g
                  | true =>
                    rw [h2] at g
                    have e : ka = .i64 := by cases ka <;> first | rfl | (exfalso; revert h2; decide)
                    subst e
                    refine key _ ?_ g
                    simp only [binV, binI, beq_self_eq_true, cond_true, Option.some.injEq, V.int.injEq, true_and]
                    have hle := Nat.le_of_ble_eq_true h0
                    have hlt : m < 9223372036854775808 := by simpa [Nat.blt_eq] using h1
                    have := wrap_i64 (n := m - n) (by omega)
                    have e2 : (Int.ofNat m - Int.ofNat n) = ((m - n : Nat) : Int) := by simp only [Int.ofNat_eq_natCast]; omega
                    rw [e2]; simpa using this
            · refine key _ ?_ h
              simp only [binV, binI, beq_self_eq_true, cond_true, Option.some.injEq, V.bool.injEq]
              exact beq_of m n
            · refine key _ ?_ h
              simp only [binV, binI, beq_self_eq_true, cond_true, Option.some.injEq, V.bool.injEq]
              show (!((m : Int) == (n : Int))) = _
              rw [beq_of]; cases Nat.beq m n <;> rfl
            · refine key _ ?_ h
              simp only [binV, binI, beq_self_eq_true, cond_true, Option.some.injEq, V.bool.injEq]
              rw [Bool.eq_iff_iff]; simp [Nat.blt_eq]
            · refine key _ ?_ h
              simp only [binV, binI, beq_self_eq_true, cond_true, Option.some.injEq, V.bool.injEq]
              rw [Bool.eq_iff_iff]; simp
            · refine key _ ?_ h
              simp only [binV, binI, beq_self_eq_true, cond_true, Option.some.injEq, V.bool.injEq]
              rw [Bool.eq_iff_iff]; simp [Nat.blt_eq]
            · refine key _ ?_ h
              simp only [binV, binI, beq_self_eq_true, cond_true, Option.some.injEq, V.bool.injEq]
              rw [Bool.eq_iff_iff]; simp
    · exact .inl h
  · exact .inl h
end Go.Vm
