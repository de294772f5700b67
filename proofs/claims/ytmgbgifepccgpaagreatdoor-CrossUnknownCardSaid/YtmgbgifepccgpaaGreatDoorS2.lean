/- The code of the functions that are entered. Printed by a program off the dump. -/
import Derived.Test.YtmgbgifepccgpaaGreatDoorOgX
import Derived.KernelRfl
set_option linter.all false
set_option maxRecDepth 100000
set_option maxHeartbeats 0
namespace Go.Proofs.YtmgbgifepccgpaaGreatDoor
open Go Go.Og
noncomputable section
def G88_0 : List AOper := [⟨(some 130), .mov (.tmp 0), none⟩, ⟨(some 131), .faddr 1 (.tmp 13), none⟩, ⟨(some 132), .load none (.tmp 131), none⟩, ⟨(some 133), .mov (.tmp 12), none⟩, ⟨(some 134), .mov (.tmp 0), none⟩, ⟨(some 135), .faddr 1 (.tmp 13), none⟩, ⟨(some 136), .load none (.tmp 135), none⟩, ⟨(some 137), .call 47 [(.tmp 134), (.tmp 136)], none⟩, ⟨(some 138), .call 48 [(.tmp 130), (.tmp 132), (.tmp 133), (.tmp 137)], none⟩]
def H88_0 : List DP := [⟨0, [0]⟩, ⟨0, [13]⟩, ⟨2, [131]⟩, ⟨0, [12]⟩, ⟨0, [0]⟩, ⟨0, [13]⟩, ⟨32, [135]⟩, ⟨112, [134, 136]⟩, ⟨255, [130, 132, 133, 137]⟩]
def C88_0 (cc1 : XC) (cc2 : XC) : XC := (.seq (.ops (.op (some 6) .any [2] (.box 105 (.tmp 2)) <|
 .nil))
 (.seq (.ops (.op (some 15) .any [0] (.mov (.tmp 0)) <|
 .op (some 16) .any [15] (.nilck (.tmp 15)) <|
 .op (some 17) .any [16] (.faddr 0 (.tmp 16)) <|
 .op (some 18) .any [17] (.faddr 1 (.tmp 17)) <|
 .op (some 19) (.int .i64) [18] (.load none (.tmp 18)) <|
 .op (some 20) .any [19] (.bin .neq .none (.tmp 19) (.con (V.int .i64 (Int.ofNat 2)))) <|
 .op (some 8) .any [20] (.mov (.tmp 20)) <|
 .nil))
 (.seq (.seq (.ops (.op (some 9) .any [] (.mov (.con (V.int .i64 (Int.ofNat 0)))) <|
 .nil))
 (.block 0 (.loop [(0, .ptr), (1, (.int .i64)), (3, (.int .i64)), (6, .ptr), (8, .bool), (9, (.int .i64))] [] [] cc2)))
 (.keep [(0, .ptr), (1, (.int .i64)), (3, (.int .i64)), (6, .ptr), (8, .bool)] [] [] cc1))))
def C88_1 (cc3 : XC) : XC := (.seq (.seq (.ops (.op (some 47) .any [6] (.faddr 0 (.tmp 6)) <|
 .op (some 48) (.int .i64) [47] (.load none (.tmp 47)) <|
 .op (some 49) .any [48] (.bin .eql .none (.tmp 48) (.con (V.int .i64 (Int.ofNat 9)))) <|
 .op (some 50) .any [49] (.mov (.tmp 49)) <|
 .grp 50 true (.op (some 51) .any [6, 50] (.faddr 12 (.tmp 6)) <|
 .op (some 52) .any [51, 50] (.load none (.tmp 51)) <|
 .op (some 53) .any [52, 50] (.len false (.tmp 52)) <|
 .op (some 54) .any [53, 50] (.bin .eql .none (.tmp 53) (.con (V.int .i64 (Int.ofNat 0)))) <|
 .nil) 55 [50, 54] (.tmp 50) (.tmp 54) (.con (V.bool false)) <|
 .op (some 56) .any [55] (.mov (.tmp 55)) <|
 .grp 56 true (.op (some 57) .any [6, 56] (.faddr 14 (.tmp 6)) <|
 .op (some 58) .bool [57, 56] (.load none (.tmp 57)) <|
 .op (some 59) .any [58, 56] (.un .not (.tmp 58)) <|
 .nil) 60 [56, 59] (.tmp 56) (.tmp 59) (.con (V.bool false)) <|
 .nil))
 (.cond (.tmp 60) (.ops (.op (some 61) .any [0] (.mov (.tmp 0)) <|
 .op (some 62) (.tup []) [61] (.call 84 [(.tmp 61), (.con (V.int .i64 (Int.ofNat 11)))]) <|
 .nil))
 .skip))
 (.keep [(0, .ptr), (1, (.int .i64)), (3, (.int .i64)), (6, .ptr), (8, .bool)] [] [] cc3))
def C88_2 : XC := (.seq (.seq (.ops (.op (some 21) .any [9] (.mov (.tmp 9)) <|
 .op (some 22) .any [6] (.faddr 12 (.tmp 6)) <|
 .op (some 23) .any [22] (.load none (.tmp 22)) <|
 .op (some 24) .any [23] (.len false (.tmp 23)) <|
 .op (some 25) .any [21, 24] (.bin .lss .none (.tmp 21) (.tmp 24)) <|
 .nil))
 (.cond (.tmp 25) .skip
 (.exit 0)))
 (.seq (.block 1 (.seq (.ops (.op (some 28) .any [6] (.faddr 12 (.tmp 6)) <|
 .op (some 29) .any [28] (.load none (.tmp 28)) <|
 .op (some 30) .any [9] (.mov (.tmp 9)) <|
 .op (some 31) .any [29, 30] (.iaddrS 11 (.tmp 29) (.tmp 30)) <|
 .op (some 32) (.agg [.str, (.int .i64), .bool, .bool, (.int .i64), (.int .i64), .any, .any, (.int .i64), .any, (.int .i64)]) [31] (.load (some 11) (.tmp 31)) <|
 .pal 10 [] 170 [(V.str ⟨0, 0⟩), (V.int .i64 (Int.ofNat 0)), (V.bool false), (V.bool false), (V.int .i64 (Int.ofNat 0)), (V.int .i64 (Int.ofNat 0)), V.nils, V.nils, (V.int .i64 (Int.ofNat 0)), V.nils, (V.int .i64 (Int.ofNat 0))] <|
 .op none (.agg [.str, (.int .i64), .bool, .bool, (.int .i64), (.int .i64), .any, .any, (.int .i64), .any, (.int .i64)]) [10, 32] (.store 11 (.tmp 10) (.tmp 32)) <|
 .nil))
 (.draw (.op (some 33) .any [8] (.mov (.tmp 8)) <|
 .op (some 34) .any [33] (.mov (.tmp 33)) <|
 .grp 34 false (.op (some 35) .any [0, 34] (.mov (.tmp 0)) <|
 .op (some 36) .any [35, 34] (.nilck (.tmp 35)) <|
 .op (some 37) .any [36, 34] (.faddr 0 (.tmp 36)) <|
 .op (some 38) .any [37, 34] (.faddr 4 (.tmp 37)) <|
 .op (some 39) .any [38, 34] (.load none (.tmp 38)) <|
 .op (some 40) .any [10, 34] (.faddr 1 (.tmp 10)) <|
 .op (some 41) (.int .i64) [40, 34] (.load none (.tmp 40)) <|
 .op (some 42) .any [39, 41, 34] (.iaddrS 16 (.tmp 39) (.tmp 41)) <|
 .op (some 43) .any [42, 34] (.faddr 2 (.tmp 42)) <|
 .op (some 44) .any [43, 34] (.faddr 0 (.tmp 43)) <|
 .op (some 45) .bool [44, 34] (.load none (.tmp 44)) <|
 .nil) 46 [34, 45] (.tmp 34) (.con (V.bool true)) (.tmp 45) <|
 .op (some 8) .any [46] (.mov (.tmp 46)) <|
 .nil) [0, 1, 3, 7, 15, 31, 63, 3, 131, 511, 1023, 2047, 4095, 8191, 16383])))
 (.ops (.op (some 26) .any [9] (.mov (.tmp 9)) <|
 .op (some 27) .any [26] (.bin .add .none (.tmp 26) (.con (V.int .i64 (Int.ofNat 1)))) <|
 .op (some 9) .any [27] (.mov (.tmp 27)) <|
 .nil))))
def C88_3 (cc4 : XC) (cc5 : XC) : XC := (.seq (.ops (.op (some 11) .any [] (.mov (.con V.nils)) <|
 .nil))
 (.seq (.seq (.ops (.op (some 12) .any [] (.mov (.con (V.int .i64 (Int.ofNat 0)))) <|
 .nil))
 (.block 2 (.loop [(0, .ptr), (1, (.int .i64)), (3, (.int .i64)), (6, .ptr), (8, .bool), (11, .any), (12, (.int .i64))] [] [] cc5)))
 (.keep [(0, .ptr), (1, (.int .i64)), (11, .any)] [] [] cc4)))
def C88_4 : XC := (.seq (.ops (.op (some 143) .any [0] (.mov (.tmp 0)) <|
 .op (some 144) .any [143] (.nilck (.tmp 143)) <|
 .op (some 145) .any [144] (.faddr 6 (.tmp 144)) <|
 .op (some 146) (.int .i64) [145] (.load none (.tmp 145)) <|
 .op (some 147) .any [146] (.bin .eql .none (.tmp 146) (.con (V.int .i64 (Int.ofNat 0)))) <|
 .nil))
 (.cond (.tmp 147) (.seq (.ops (.op (some 148) .any [0] (.mov (.tmp 0)) <|
 .op (some 149) .any [148] (.nilck (.tmp 148)) <|
 .op (some 150) .any [149] (.faddr 5 (.tmp 149)) <|
 .op (some 151) .any [150] (.load none (.tmp 150)) <|
 .op (some 152) .any [1] (.mov (.tmp 1)) <|
 .op (some 153) .any [11] (.mov (.tmp 11)) <|
 .op (some 154) .any [151, 152] (.iaddrS 13 (.tmp 151) (.tmp 152)) <|
 .op (some 155) .any [154] (.faddr 9 (.tmp 154)) <|
 .op none .any [155, 153] (.store 1 (.tmp 155) (.tmp 153)) <|
 .nil))
 (.seq (.ops (.op (some 156) .any [0] (.mov (.tmp 0)) <|
 .op (some 157) .any [0] (.mov (.tmp 0)) <|
 .op (some 158) .any [157] (.nilck (.tmp 157)) <|
 .op (some 159) .any [158] (.faddr 5 (.tmp 158)) <|
 .op (some 160) .any [159] (.load none (.tmp 159)) <|
 .op (some 161) .any [1] (.mov (.tmp 1)) <|
 .op (some 162) .any [160, 161] (.iaddrS 13 (.tmp 160) (.tmp 161)) <|
 .op (some 163) (.agg [(.int .i64), .any, .bool, .bool, .bool, .bool, (.int .i64), (.int .i64), .any, .any, (.int .i64), .bool, (.int .i64)]) [162] (.load (some 13) (.tmp 162)) <|
 .op (some 164) .bool [156, 163] (.call 151 [(.tmp 156), (.tmp 163)]) <|
 .op (some 165) .any [164] (.un .not (.tmp 164)) <|
 .nil))
 (.cond (.tmp 165) (.ops (.op (some 166) .any [0] (.mov (.tmp 0)) <|
 .op (some 167) (.tup []) [166] (.call 84 [(.tmp 166), (.con (V.int .i64 (Int.ofNat 12)))]) <|
 .nil))
 .skip)))
 .skip))
def C88_5 (cc6 : XC) (cc7 : XC) (cc8 : XC) : XC := (.seq (.seq (.ops (.op (some 63) .any [12] (.mov (.tmp 12)) <|
 .op (some 64) .any [6] (.faddr 12 (.tmp 6)) <|
 .op (some 65) .any [64] (.load none (.tmp 64)) <|
 .op (some 66) .any [65] (.len false (.tmp 65)) <|
 .op (some 67) .any [63, 66] (.bin .lss .none (.tmp 63) (.tmp 66)) <|
 .op (some 68) .any [67] (.mov (.tmp 67)) <|
 .grp 68 true (.op (some 69) .any [0, 68] (.mov (.tmp 0)) <|
 .op (some 70) .any [69, 68] (.nilck (.tmp 69)) <|
 .op (some 71) .any [70, 68] (.faddr 6 (.tmp 70)) <|
 .op (some 72) (.int .i64) [71, 68] (.load none (.tmp 71)) <|
 .op (some 73) .any [72, 68] (.bin .eql .none (.tmp 72) (.con (V.int .i64 (Int.ofNat 0)))) <|
 .nil) 74 [68, 73] (.tmp 68) (.tmp 73) (.con (V.bool false)) <|
 .nil))
 (.cond (.tmp 74) .skip
 (.exit 2)))
 (.seq (.block 3 (.seq (.ops (.op (some 77) .any [6] (.faddr 12 (.tmp 6)) <|
 .op (some 78) .any [77] (.load none (.tmp 77)) <|
 .op (some 79) .any [12] (.mov (.tmp 12)) <|
 .op (some 80) .any [78, 79] (.iaddrS 11 (.tmp 78) (.tmp 79)) <|
 .op (some 81) (.agg [.str, (.int .i64), .bool, .bool, (.int .i64), (.int .i64), .any, .any, (.int .i64), .any, (.int .i64)]) [80] (.load (some 11) (.tmp 80)) <|
 .op (some 13) .any [] (.alloc 170 [(V.str ⟨0, 0⟩), (V.int .i64 (Int.ofNat 0)), (V.bool false), (V.bool false), (V.int .i64 (Int.ofNat 0)), (V.int .i64 (Int.ofNat 0)), V.nils, V.nils, (V.int .i64 (Int.ofNat 0)), V.nils, (V.int .i64 (Int.ofNat 0))]) <|
 .op none (.agg [.str, (.int .i64), .bool, .bool, (.int .i64), (.int .i64), .any, .any, (.int .i64), .any, (.int .i64)]) [13, 81] (.store 11 (.tmp 13) (.tmp 81)) <|
 .nil))
 (.seq (.seq (.ops (.op (some 14) .any [] (.mov (.con (V.int .i64 (Int.ofNat 0)))) <|
 .nil))
 (.block 4 (.loop [(0, .ptr), (1, (.int .i64)), (3, (.int .i64)), (6, .ptr), (8, .bool), (11, .any), (12, (.int .i64)), (13, .ptr), (14, (.int .i64))] [] [] cc8)))
 (.keep [(0, .ptr), (1, (.int .i64)), (3, (.int .i64)), (6, .ptr), (8, .bool), (11, .any), (12, (.int .i64)), (13, .ptr)] [] [] cc7))))
 (.keep [(0, .ptr), (1, (.int .i64)), (3, (.int .i64)), (6, .ptr), (8, .bool), (11, .any), (12, (.int .i64))] [] [] cc6)))
def C88_6 : XC := (.ops (.op (some 75) .any [12] (.mov (.tmp 12)) <|
 .op (some 76) .any [75] (.bin .add .none (.tmp 75) (.con (V.int .i64 (Int.ofNat 1)))) <|
 .op (some 12) .any [76] (.mov (.tmp 76)) <|
 .nil))
def C88_7 (cc10 : XC) : XC := (.seq (.ops (.op (some 98) .any [0] (.mov (.tmp 0)) <|
 .op (some 99) .any [13] (.faddr 1 (.tmp 13)) <|
 .op (some 100) (.int .i64) [99] (.load none (.tmp 99)) <|
 .op (some 101) .any [3] (.mov (.tmp 3)) <|
 .op (some 102) .any [101] (.bin .add .none (.tmp 101) (.con (V.int .i64 (Int.ofNat 1)))) <|
 .op (some 103) (.int .i64) [98, 100, 102] (.call 24 [(.tmp 98), (.tmp 100), (.tmp 102)]) <|
 .op (some 104) .any [13] (.faddr 1 (.tmp 13)) <|
 .op none .any [104, 103] (.store 1 (.tmp 104) (.tmp 103)) <|
 .nil))
 (.seq (.seq (.ops (.op (some 105) .any [0] (.mov (.tmp 0)) <|
 .op (some 106) .any [105] (.nilck (.tmp 105)) <|
 .op (some 107) .any [106] (.faddr 6 (.tmp 106)) <|
 .op (some 108) (.int .i64) [107] (.load none (.tmp 107)) <|
 .op (some 109) .any [108] (.bin .eql .none (.tmp 108) (.con (V.int .i64 (Int.ofNat 0)))) <|
 .op (some 110) .any [109] (.mov (.tmp 109)) <|
 .grp 110 true (.op (some 111) .any [13, 110] (.faddr 3 (.tmp 13)) <|
 .op (some 112) .bool [111, 110] (.load none (.tmp 111)) <|
 .nil) 113 [110, 112] (.tmp 110) (.tmp 112) (.con (V.bool false)) <|
 .nil))
 (.cond (.tmp 113) (.ops (.op (some 114) .any [0] (.mov (.tmp 0)) <|
 .op (some 115) .any [13] (.faddr 1 (.tmp 13)) <|
 .op (some 116) (.int .i64) [115] (.load none (.tmp 115)) <|
 .op (some 117) .any [13] (.faddr 4 (.tmp 13)) <|
 .op (some 118) (.agg [(.int .i64), (.int .i64), .any, .any, (.int .i64), .any]) [117] (.load (some 6) (.tmp 117)) <|
 .op (some 119) (.agg [(.int .i64), (.int .i64), .any, .any, (.int .i64), .any]) [114, 116, 118] (.call 150 [(.tmp 114), (.tmp 116), (.tmp 118)]) <|
 .op (some 120) .any [13] (.faddr 4 (.tmp 13)) <|
 .op none (.agg [(.int .i64), (.int .i64), .any, .any, (.int .i64), .any]) [120, 119] (.store 6 (.tmp 120) (.tmp 119)) <|
 .nil))
 .skip))
 (.keep [(0, .ptr), (1, (.int .i64)), (3, (.int .i64)), (6, .ptr), (8, .bool), (11, .any), (12, (.int .i64)), (13, .ptr)] [] [] cc10)))
def C88_8 (cc9 : XC) : XC := (.seq (.seq (.ops (.op (some 82) .any [14] (.mov (.tmp 14)) <|
 .op (some 83) .any [12] (.mov (.tmp 12)) <|
 .op (some 84) .any [82, 83] (.bin .lss .none (.tmp 82) (.tmp 83)) <|
 .nil))
 (.cond (.tmp 84) .skip
 (.exit 4)))
 (.seq (.block 5 (.seq (.draw (.op (some 87) .any [6] (.faddr 12 (.tmp 6)) <|
 .op (some 88) .any [87] (.load none (.tmp 87)) <|
 .op (some 89) .any [14] (.mov (.tmp 14)) <|
 .op (some 90) .any [88, 89] (.iaddrS 11 (.tmp 88) (.tmp 89)) <|
 .op (some 91) .any [90] (.faddr 0 (.tmp 90)) <|
 .op (some 92) .str [91] (.load none (.tmp 91)) <|
 .op (some 93) .any [13] (.faddr 0 (.tmp 13)) <|
 .op (some 94) .str [93] (.load none (.tmp 93)) <|
 .op (some 95) .any [92, 94] (.bin .eql .none (.tmp 92) (.tmp 94)) <|
 .nil) [0, 1, 0, 7, 15, 31, 0, 64, 255])
 (.cond (.tmp 95) (.ops (.op (some 96) .any [0] (.mov (.tmp 0)) <|
 .op (some 97) (.tup []) [96] (.call 84 [(.tmp 96), (.con (V.int .i64 (Int.ofNat 8)))]) <|
 .nil))
 .skip)))
 (.keep [(0, .ptr), (1, (.int .i64)), (3, (.int .i64)), (6, .ptr), (8, .bool), (11, .any), (12, (.int .i64)), (13, .ptr), (14, (.int .i64))] [] [] cc9)))
def C88_9 : XC := (.ops (.op (some 85) .any [14] (.mov (.tmp 14)) <|
 .op (some 86) .any [85] (.bin .add .none (.tmp 85) (.con (V.int .i64 (Int.ofNat 1)))) <|
 .op (some 14) .any [86] (.mov (.tmp 86)) <|
 .nil))
def C88_10 (cc11 : XC) : XC := (.seq (.seq (.ops (.op (some 121) .any [0] (.mov (.tmp 0)) <|
 .op (some 122) .any [121] (.nilck (.tmp 121)) <|
 .op (some 123) .any [122] (.faddr 6 (.tmp 122)) <|
 .op (some 124) (.int .i64) [123] (.load none (.tmp 123)) <|
 .op (some 125) .any [124] (.bin .eql .none (.tmp 124) (.con (V.int .i64 (Int.ofNat 0)))) <|
 .op (some 126) .any [125] (.mov (.tmp 125)) <|
 .grp 126 true (.op (some 127) .any [8, 126] (.mov (.tmp 8)) <|
 .op (some 128) .any [127, 126] (.un .not (.tmp 127)) <|
 .nil) 129 [126, 128] (.tmp 126) (.tmp 128) (.con (V.bool false)) <|
 .nil))
 (.cond (.tmp 129) (.keep [(0, .ptr), (1, (.int .i64)), (3, (.int .i64)), (6, .ptr), (8, .bool), (11, .any), (12, (.int .i64)), (13, .ptr)] [] [] (.gdraw G88_0 H88_0 [(0, .ptr), (1, (.int .i64)), (3, (.int .i64)), (6, .ptr), (8, .bool), (11, .any), (12, (.int .i64)), (13, .ptr)]))
 .skip))
 (.keep [(0, .ptr), (1, (.int .i64)), (3, (.int .i64)), (6, .ptr), (8, .bool), (11, .any), (12, (.int .i64)), (13, .ptr)] [] [] cc11))
def C88_11 : XC := (.ops (.op (some 139) .any [11] (.mov (.tmp 11)) <|
 .op (some 140) (.agg [.str, (.int .i64), .bool, .bool, (.int .i64), (.int .i64), .any, .any, (.int .i64), .any, (.int .i64)]) [13] (.load (some 11) (.tmp 13)) <|
 .op (some 141) .any [140] (.buildSlice 170 1 [(V.str ⟨0, 0⟩), (V.int .i64 (Int.ofNat 0)), (V.bool false), (V.bool false), (V.int .i64 (Int.ofNat 0)), (V.int .i64 (Int.ofNat 0)), V.nils, V.nils, (V.int .i64 (Int.ofNat 0)), V.nils, (V.int .i64 (Int.ofNat 0))] [(0, 11, (.tmp 140))]) <|
 .op (some 142) .one [139, 141] (.append 170 11 136 (.tmp 139) (.tmp 141)) <|
 .op (some 11) .any [142] (.mov (.tmp 142)) <|
 .nil))
def A88 : XFn := ⟨168, [.ptr, (.int .i64), (.agg [(.int .i64), .str, .bool, (.int .i64), (.int .i64), .bool, .bool, .bool, .bool, (.int .i64), (.int .i64), .any, .any, (.int .i64), .bool, (.int .i64)]), (.int .i64)], [], (C88_0 (C88_1 (C88_3 C88_4 (C88_5 C88_6 (C88_7 (C88_10 C88_11)) (C88_8 C88_9)))) C88_2)⟩
def C89_0 : XC := (.seq (.ops (.op (some 6) .any [] (.mov (.con V.nils)) <|
 .op (some 7) .any [] (.mov (.con (V.int .i64 (Int.ofNat 0)))) <|
 .nil))
 (.seq (.seq (.ops (.op (some 9) .any [1] (.mov (.tmp 1)) <|
 .op (some 10) .any [9] (.bin .lss .none (.tmp 9) (.con (V.int .i64 (Int.ofNat 0)))) <|
 .op (some 11) .any [10] (.mov (.tmp 10)) <|
 .grp 11 false (.op (some 12) .any [1, 11] (.mov (.tmp 1)) <|
 .op (some 13) .any [12, 11] (.bin .gtr .none (.tmp 12) (.con (V.int .i64 (Int.ofNat 268435456)))) <|
 .nil) 14 [11, 13] (.tmp 11) (.con (V.bool true)) (.tmp 13) <|
 .op (some 15) .any [14] (.mov (.tmp 14)) <|
 .grp 15 false (.op (some 16) .any [2, 15] (.mov (.tmp 2)) <|
 .op (some 17) .any [16, 15] (.bin .eql .none (.tmp 16) (.con (V.int .i64 (Int.ofNat 1)))) <|
 .op (some 18) .any [17, 15] (.mov (.tmp 17)) <|
 .grp 18 true (.op (some 19) .any [0, 18] (.mov (.tmp 0)) <|
 .op (some 20) .any [19, 18] (.len false (.tmp 19)) <|
 .op (some 21) .any [20, 18] (.bin .eql .none (.tmp 20) (.con (V.int .i64 (Int.ofNat 0)))) <|
 .nil) 22 [18, 21, 15] (.tmp 18) (.tmp 21) (.con (V.bool false)) <|
 .nil) 23 [15, 22] (.tmp 15) (.con (V.bool true)) (.tmp 22) <|
 .nil))
 (.cond (.tmp 23) (.seq (.ops (.op (some 6) .any [] (.mov (.con V.nils)) <|
 .op (some 7) .any [] (.mov (.con (V.int .i64 (Int.ofNat 12)))) <|
 .nil))
 .ret)
 .skip))
 (.seq (.ops (.op (some 24) .any [1] (.mov (.tmp 1)) <|
 .op (some 25) (.agg [(.int .i64), (.int .i64)]) [24] (.build [(V.int .i64 (Int.ofNat 0)), (V.int .i64 (Int.ofNat 0))] [(0, 1, (.con (V.int .i64 (Int.ofNat 2)))), (1, 1, (.tmp 24))]) <|
 .op (some 26) .any [25] (.buildSlice 182 1 [(V.int .i64 (Int.ofNat 0)), (V.int .i64 (Int.ofNat 0))] [(0, 2, (.tmp 25))]) <|
 .op (some 8) .any [26] (.mov (.tmp 26)) <|
 .nil))
 (.seq (.seq (.ops (.op (some 27) .any [2] (.mov (.tmp 2)) <|
 .op (some 28) .any [27] (.bin .eql .none (.tmp 27) (.con (V.int .i64 (Int.ofNat 1)))) <|
 .nil))
 (.cond (.tmp 28) (.seq (.ops (.op (some 29) .any [8] (.mov (.tmp 8)) <|
 .op (some 30) .any [0] (.mov (.tmp 0)) <|
 .op (some 31) .any [30] (.sliceSl 2 (.tmp 30) (some (.con (V.int .i64 (Int.ofNat 1)))) none none) <|
 .op (some 32) .one [29, 31] (.append 182 2 16 (.tmp 29) (.tmp 31)) <|
 .op (some 6) .any [32] (.mov (.tmp 32)) <|
 .op (some 7) .any [] (.mov (.con (V.int .i64 (Int.ofNat 0)))) <|
 .nil))
 .ret)
 .skip))
 (.seq (.ops (.op (some 33) .any [8] (.mov (.tmp 8)) <|
 .op (some 34) .any [0] (.mov (.tmp 0)) <|
 .op (some 35) .one [33, 34] (.append 182 2 16 (.tmp 33) (.tmp 34)) <|
 .op (some 6) .any [35] (.mov (.tmp 35)) <|
 .op (some 7) .any [] (.mov (.con (V.int .i64 (Int.ofNat 0)))) <|
 .nil))
 .ret)))))
def A89 : XFn := ⟨36, [.any, (.int .i64), (.int .i64)], [(.tmp 6), (.tmp 7)], C89_0⟩
/-! ### F91: ogham_der.within -/
def Fin91 (E : List (Nat × Blk)) : St → Ans := fun s => resK E s [(.tmp 6)] fun l => some (oneV l, s.σ)
def C91_0 (cc1 : XC) (cc2 : XC) : XC := (.seq (.ops (.op (some 6) .any [] (.mov (.con V.nils)) <|
 .nil))
 (.seq (.ops (.op (some 9) .any [2] (.mov (.tmp 2)) <|
 .op (some 10) .one [9] (.call 152 [(.tmp 9)]) <|
 .op (some 7) .any [10] (.mov (.tmp 10)) <|
 .nil))
 (.seq (.seq (.ops (.op (some 11) .any [0] (.mov (.tmp 0)) <|
 .op (some 12) .any [11] (.len false (.tmp 11)) <|
 .op (some 13) .any [12] (.bin .sub .none (.tmp 12) (.con (V.int .i64 (Int.ofNat 1)))) <|
 .op (some 8) .any [13] (.mov (.tmp 13)) <|
 .nil))
 (.block 0 (.loop [(0, .any), (1, .bool), (7, .any), (8, (.int .i64))] [] [] cc2)))
 (.keep [(7, .any)] [] [] cc1))))
def T91_0 (E : List (Nat × Blk)) (D : Den) (W : DrawFn) (K2 : V → Bool → V → Int → H → Ans) (v0 : V) (v1 : Bool) (v2 : V) (σ : H) : Ans :=
 callK (D 152 [v2] σ) fun u1 s2 =>
 rtOne u1 (
 slenK v0 fun n3 =>
 K2 v0 v1 u1 (subF .i64 (Int.ofNat n3) (Int.ofNat 1)) s2)
def C91_1 : XC := (.seq (.ops (.op (some 33) .any [7] (.mov (.tmp 7)) <|
 .op (some 6) .any [33] (.mov (.tmp 33)) <|
 .nil))
 .ret)
def T91_1 (E : List (Nat × Blk)) (D : Den) (W : DrawFn) (v7 : V) (σ : H) : Ans :=
 some (v7, σ)
def C91_2 : XC := (.seq (.seq (.ops (.op (some 14) .any [8] (.mov (.tmp 8)) <|
 .op (some 15) .any [14] (.bin .geq .none (.tmp 14) (.con (V.int .i64 (Int.ofNat 0)))) <|
 .nil))
 (.cond (.tmp 15) .skip
 (.exit 0)))
 (.seq (.block 1 (.ops (.op (some 18) .any [0] (.mov (.tmp 0)) <|
 .op (some 19) .any [8] (.mov (.tmp 8)) <|
 .op (some 20) .any [18, 19] (.iaddrS 2 (.tmp 18) (.tmp 19)) <|
 .op (some 21) (.agg [(.int .i64), (.int .i64)]) [20] (.load (some 2) (.tmp 20)) <|
 .op (some 22) .any [1] (.mov (.tmp 1)) <|
 .op (some 23) .any [22] (.mov (.tmp 22)) <|
 .grp 23 false (.op (some 24) .any [8, 23] (.mov (.tmp 8)) <|
 .op (some 25) .any [0, 23] (.mov (.tmp 0)) <|
 .op (some 26) .any [25, 23] (.len false (.tmp 25)) <|
 .op (some 27) .any [26, 23] (.bin .sub .none (.tmp 26) (.con (V.int .i64 (Int.ofNat 1)))) <|
 .op (some 28) .any [24, 27, 23] (.bin .lss .none (.tmp 24) (.tmp 27)) <|
 .nil) 29 [23, 28] (.tmp 23) (.con (V.bool true)) (.tmp 28) <|
 .op (some 30) .any [7] (.mov (.tmp 7)) <|
 .op (some 31) .any [30] (.buildSlice 31 1 [V.nils] [(0, 1, (.tmp 30))]) <|
 .op (some 32) .one [21, 29, 31] (.call 153 [(.tmp 21), (.tmp 29), (.tmp 31)]) <|
 .op (some 7) .any [32] (.mov (.tmp 32)) <|
 .nil)))
 (.ops (.op (some 16) .any [8] (.mov (.tmp 8)) <|
 .op (some 17) .any [16] (.bin .sub .none (.tmp 16) (.con (V.int .i64 (Int.ofNat 1)))) <|
 .op (some 8) .any [17] (.mov (.tmp 17)) <|
 .nil))))
def T91_2 (E : List (Nat × Blk)) (D : Den) (W : DrawFn) (K1 : V → H → Ans) (R2 : V → Bool → V → Int → H → Ans) (v0 : V) (v1 : Bool) (v7 : V) (v8 : Int) (σ : H) : Ans :=
 condK (leF (Int.ofNat 0) v8) (
 iaddrSK 2 v0 v8 fun b1 o2 =>
 ldnK E σ b1 o2 2 fun l3 =>
 rtCons l3 fun x4 l5 =>
 rtInt .i64 x4 fun x6 =>
 rtCons l5 fun x7 l8 =>
 rtInt .i64 x7 fun x9 =>
 rtNil l8 (
 joinB (fun c10 s11 =>
 fillK [(0, 1, v7)] [V.nils] fun l13 =>
 chk (allOne l13) (
 let s14 := newB s11 (.cells l13);
 callK (D 153 [(V.agg [(V.int .i64 x6), (V.int .i64 x9)]), (V.bool c10), (V.sl (H.next s11) 0 1 (.ex 1))] s14) fun u15 s16 =>
 rtOne u15 (
 R2 v0 v1 u15 (subF .i64 v8 (Int.ofNat 1)) s16))) fun k12 =>
 condK v1 (
 k12 true σ) (
 slenK v0 fun n17 =>
 k12 (ltF v8 (subF .i64 (Int.ofNat n17) (Int.ofNat 1))) σ))) (
 K1 v7 σ)
theorem P91_0 (E : List (Nat × Blk)) (D : Den) (W : DrawFn) (N : Nat) (cc1 : XC) (cc2 : XC) (v0 : V) (v1 : Bool) (v2 : V) (σ : H) :
  denC E D W N (C91_0 cc1 cc2) ⟨[(0, v0), (1, (V.bool v1)), (2, v2)], [], [], σ⟩ (Fin91 E) (fun _ _ => none) (Fin91 E) =
  T91_0 E D W (fun v0 v1 v7 v8 σ => iterK (fun rec s' => denC E D W N cc2 s' (fun s'' => keepS [(0, .any), (1, .bool), (7, .any), (8, (.int .i64))] [] [] s'' rec) (blkK 0 (fun s' => denC E D W N (.keep [(7, .any)] [] [] cc1) s' (Fin91 E) (fun _ _ => none) (Fin91 E)) (fun _ _ => none)) (Fin91 E)) N ⟨[(0, v0), (1, (V.bool v1)), (7, v7), (8, (V.int .i64 v8))], [], [], σ⟩) v0 v1 v2 σ := by kernel_rfl
theorem P91_1 (E : List (Nat × Blk)) (D : Den) (W : DrawFn) (N : Nat) (v7 : V) (σ : H) :
  denC E D W N (C91_1 ) ⟨[(7, v7)], [], [], σ⟩ (Fin91 E) (fun _ _ => none) (Fin91 E) =
  T91_1 E D W  v7 σ := by kernel_rfl
theorem P91_2 (E : List (Nat × Blk)) (D : Den) (W : DrawFn) (N : Nat) (cc1 : XC) (li2 : St → Ans) (v0 : V) (v1 : Bool) (v7 : V) (v8 : Int) (σ : H) :
  denC E D W N (C91_2 ) ⟨[(0, v0), (1, (V.bool v1)), (7, v7), (8, (V.int .i64 v8))], [], [], σ⟩ (fun s'' => keepS [(0, .any), (1, .bool), (7, .any), (8, (.int .i64))] [] [] s'' li2) (blkK 0 (fun s' => denC E D W N (.keep [(7, .any)] [] [] cc1) s' (Fin91 E) (fun _ _ => none) (Fin91 E)) (fun _ _ => none)) (Fin91 E) =
  T91_2 E D W (fun v7 σ => denC E D W N cc1 ⟨[(7, v7)], [], [], σ⟩ (Fin91 E) (fun _ _ => none) (Fin91 E)) (fun v0 v1 v7 v8 σ => li2 ⟨[(0, v0), (1, (V.bool v1)), (7, v7), (8, (V.int .i64 v8))], [], [], σ⟩) v0 v1 v7 v8 σ := by kernel_rfl
def J91_1 (E : List (Nat × Blk)) (D : Den) (W : DrawFn) (N : Nat) : V → H → Ans := T91_1 E D W 
theorem JE91_1 (E : List (Nat × Blk)) (D : Den) (W : DrawFn) (N : Nat) (v7 : V) (σ : H) :
  denC E D W N C91_1 ⟨[(7, v7)], [], [], σ⟩ (Fin91 E) (fun _ _ => none) (Fin91 E) = J91_1 E D W N v7 σ := by
  refine (P91_1 E D W N   v7 σ).trans ?_
  kernel_rfl
def L91_2 (E : List (Nat × Blk)) (D : Den) (W : DrawFn) (N : Nat) (n : Nat) : V → Bool → V → Int → H → Ans :=
  Nat.rec (fun _ _ _ _ _ => none) (fun _ ih => T91_2 E D W (J91_1 E D W N ) ih) n
theorem LE91_2 (E : List (Nat × Blk)) (D : Den) (W : DrawFn) (N : Nat) (n : Nat) : ∀ (v0 : V) (v1 : Bool) (v7 : V) (v8 : Int) (σ : H),
  iterK (fun rec s' => denC E D W N C91_2 s' (fun s'' => keepS [(0, .any), (1, .bool), (7, .any), (8, (.int .i64))] [] [] s'' rec) (blkK 0 (fun s' => denC E D W N (.keep [(7, .any)] [] [] C91_1) s' (Fin91 E) (fun _ _ => none) (Fin91 E)) (fun _ _ => none)) (Fin91 E)) n ⟨[(0, v0), (1, (V.bool v1)), (7, v7), (8, (V.int .i64 v8))], [], [], σ⟩ = L91_2 E D W N n v0 v1 v7 v8 σ := by
  induction n with
  | zero => intro v0 v1 v7 v8 σ; rfl
  | succ n ihn =>
    intro v0 v1 v7 v8 σ
    rw [iterK_succ]
    refine (P91_2 E D W N C91_1 (iterK (fun rec s' => denC E D W N C91_2 s' (fun s'' => keepS [(0, .any), (1, .bool), (7, .any), (8, (.int .i64))] [] [] s'' rec) (blkK 0 (fun s' => denC E D W N (.keep [(7, .any)] [] [] C91_1) s' (Fin91 E) (fun _ _ => none) (Fin91 E)) (fun _ _ => none)) (Fin91 E)) n) v0 v1 v7 v8 σ).trans ?_
    simp only [ihn, JE91_1]
    kernel_rfl
def J91_0 (E : List (Nat × Blk)) (D : Den) (W : DrawFn) (N : Nat) : V → Bool → V → H → Ans := T91_0 E D W (L91_2 E D W N N)
theorem JE91_0 (E : List (Nat × Blk)) (D : Den) (W : DrawFn) (N : Nat) (v0 : V) (v1 : Bool) (v2 : V) (σ : H) :
  denC E D W N (C91_0 C91_1 C91_2) ⟨[(0, v0), (1, (V.bool v1)), (2, v2)], [], [], σ⟩ (Fin91 E) (fun _ _ => none) (Fin91 E) = J91_0 E D W N v0 v1 v2 σ := by
  refine (P91_0 E D W N C91_1 C91_2  v0 v1 v2 σ).trans ?_
  simp only [LE91_2]
  kernel_rfl
def F91 (E : List (Nat × Blk)) (D : Den) (W : DrawFn) (N : Nat) (args : List V) (σ : H) : Ans :=
 rtCons args fun x1 l2 =>
 rtCons l2 fun x3 l4 =>
 rtBool x3 fun x5 =>
 rtCons l4 fun x6 l7 =>
 rtNil l7 (
 J91_0 E D W N x1 x5 x6 σ)
def A91 : XFn := ⟨34, [.any, .bool, .any], [(.tmp 6)], (C91_0 C91_1 C91_2)⟩
theorem FE91 (E : List (Nat × Blk)) (D : Den) (W : DrawFn) (N : Nat) (args : List V) (σ : H) : runX E D W N A91 args σ = F91 E D W N args σ := by
  unfold F91
  simp only [← JE91_0]
  kernel_rfl
theorem AO91 : A91.body.ok = true := by kernel_rfl

/-! ### F92: ogham_octets.Signed -/
def Fin92 (E : List (Nat × Blk)) : St → Ans := fun s => resK E s [(.tmp 2)] fun l => some (oneV l, s.σ)
def C92_0 (cc1 : XC) (cc2 : XC) : XC := (.seq (.ops (.op (some 2) .any [] (.mov (.con V.nils)) <|
 .nil))
 (.seq (.ops (.op (some 3) .any [] (.mov (.con (V.int .i64 (Int.ofNat 1)))) <|
 .nil))
 (.seq (.block 0 (.loop [(0, (.int .i64)), (3, (.int .i64))] [] [] cc2))
 (.keep [(0, (.int .i64)), (3, (.int .i64))] [] [] cc1))))
def T92_0 (E : List (Nat × Blk)) (D : Den) (W : DrawFn) (K2 : Int → Int → H → Ans) (v0 : Int) (σ : H) : Ans :=
 K2 v0 (Int.ofNat 1) σ
def C92_1 : XC := (.seq (.ops (.op (some 24) .any [0] (.mov (.tmp 0)) <|
 .op (some 25) .any [24] (.conv (.toInt .u64) (.tmp 24)) <|
 .op (some 26) .any [3] (.mov (.tmp 3)) <|
 .op (some 27) .one [25, 26] (.call 154 [(.tmp 25), (.tmp 26)]) <|
 .op (some 2) .any [27] (.mov (.tmp 27)) <|
 .nil))
 .ret)
def T92_1 (E : List (Nat × Blk)) (D : Den) (W : DrawFn) (v0 : Int) (v3 : Int) (σ : H) : Ans :=
 callK (D 154 [(V.int .u64 (wrapF .u64 v0)), (V.int .i64 v3)] σ) fun u1 s2 =>
 rtOne u1 (
 some (u1, s2))
def C92_2 : XC := (.seq (.seq (.ops (.op (some 4) .any [3] (.mov (.tmp 3)) <|
 .op (some 5) .any [4] (.bin .lss .none (.tmp 4) (.con (V.int .i64 (Int.ofNat 8)))) <|
 .op (some 6) .any [5] (.mov (.tmp 5)) <|
 .grp 6 true (.op (some 7) .any [0, 6] (.mov (.tmp 0)) <|
 .op (some 8) .any [3, 6] (.mov (.tmp 3)) <|
 .op (some 9) .any [8, 6] (.bin .mul .none (.con (V.int .i64 (Int.ofNat 8))) (.tmp 8)) <|
 .op (some 10) .any [9, 6] (.bin .sub .none (.tmp 9) (.con (V.int .i64 (Int.ofNat 1)))) <|
 .op (some 11) .any [7, 10, 6] (.bin .shr .none (.tmp 7) (.tmp 10)) <|
 .op (some 12) .any [11, 6] (.bin .neq .none (.tmp 11) (.con (V.int .i64 (Int.ofNat 0)))) <|
 .nil) 13 [6, 12] (.tmp 6) (.tmp 12) (.con (V.bool false)) <|
 .op (some 14) .any [13] (.mov (.tmp 13)) <|
 .grp 14 true (.op (some 15) .any [0, 14] (.mov (.tmp 0)) <|
 .op (some 16) .any [3, 14] (.mov (.tmp 3)) <|
 .op (some 17) .any [16, 14] (.bin .mul .none (.con (V.int .i64 (Int.ofNat 8))) (.tmp 16)) <|
 .op (some 18) .any [17, 14] (.bin .sub .none (.tmp 17) (.con (V.int .i64 (Int.ofNat 1)))) <|
 .op (some 19) .any [15, 18, 14] (.bin .shr .none (.tmp 15) (.tmp 18)) <|
 .op (some 20) .any [19, 14] (.bin .neq .none (.tmp 19) (.con (V.int .i64 (Int.negSucc 0)))) <|
 .nil) 21 [14, 20] (.tmp 14) (.tmp 20) (.con (V.bool false)) <|
 .nil))
 (.cond (.tmp 21) .skip
 (.exit 0)))
 (.block 1 (.ops (.op (some 22) .any [3] (.mov (.tmp 3)) <|
 .op (some 23) .any [22] (.bin .add .none (.tmp 22) (.con (V.int .i64 (Int.ofNat 1)))) <|
 .op (some 3) .any [23] (.mov (.tmp 23)) <|
 .nil))))
def T92_2 (E : List (Nat × Blk)) (D : Den) (W : DrawFn) (K1 : Int → Int → H → Ans) (R2 : Int → Int → H → Ans) (v0 : Int) (v3 : Int) (σ : H) : Ans :=
 joinB (fun c1 s2 =>
 joinB (fun c4 s5 =>
 condK c4 (
 R2 v0 (addF .i64 v3 (Int.ofNat 1)) s5) (
 K1 v0 v3 s5)) fun k6 =>
 condK c1 (
 nnK (subF .i64 (mulF .i64 (Int.ofNat 8) v3) (Int.ofNat 1)) fun n7 =>
 k6 (not (eqF (shrF .i64 v0 n7) (Int.negSucc 0))) s2) (
 k6 false s2)) fun k3 =>
 condK (ltF v3 (Int.ofNat 8)) (
 nnK (subF .i64 (mulF .i64 (Int.ofNat 8) v3) (Int.ofNat 1)) fun n8 =>
 k3 (not (eqF (shrF .i64 v0 n8) (Int.ofNat 0))) σ) (
 k3 false σ)
theorem P92_0 (E : List (Nat × Blk)) (D : Den) (W : DrawFn) (N : Nat) (cc1 : XC) (cc2 : XC) (v0 : Int) (σ : H) :
  denC E D W N (C92_0 cc1 cc2) ⟨[(0, (V.int .i64 v0))], [], [], σ⟩ (Fin92 E) (fun _ _ => none) (Fin92 E) =
  T92_0 E D W (fun v0 v3 σ => iterK (fun rec s' => denC E D W N cc2 s' (fun s'' => keepS [(0, (.int .i64)), (3, (.int .i64))] [] [] s'' rec) (blkK 0 (fun s' => denC E D W N (.keep [(0, (.int .i64)), (3, (.int .i64))] [] [] cc1) s' (Fin92 E) (fun _ _ => none) (Fin92 E)) (fun _ _ => none)) (Fin92 E)) N ⟨[(0, (V.int .i64 v0)), (3, (V.int .i64 v3))], [], [], σ⟩) v0 σ := by kernel_rfl
theorem P92_1 (E : List (Nat × Blk)) (D : Den) (W : DrawFn) (N : Nat) (v0 : Int) (v3 : Int) (σ : H) :
  denC E D W N (C92_1 ) ⟨[(0, (V.int .i64 v0)), (3, (V.int .i64 v3))], [], [], σ⟩ (Fin92 E) (fun _ _ => none) (Fin92 E) =
  T92_1 E D W  v0 v3 σ := by kernel_rfl
theorem P92_2 (E : List (Nat × Blk)) (D : Den) (W : DrawFn) (N : Nat) (cc1 : XC) (li2 : St → Ans) (v0 : Int) (v3 : Int) (σ : H) :
  denC E D W N (C92_2 ) ⟨[(0, (V.int .i64 v0)), (3, (V.int .i64 v3))], [], [], σ⟩ (fun s'' => keepS [(0, (.int .i64)), (3, (.int .i64))] [] [] s'' li2) (blkK 0 (fun s' => denC E D W N (.keep [(0, (.int .i64)), (3, (.int .i64))] [] [] cc1) s' (Fin92 E) (fun _ _ => none) (Fin92 E)) (fun _ _ => none)) (Fin92 E) =
  T92_2 E D W (fun v0 v3 σ => denC E D W N cc1 ⟨[(0, (V.int .i64 v0)), (3, (V.int .i64 v3))], [], [], σ⟩ (Fin92 E) (fun _ _ => none) (Fin92 E)) (fun v0 v3 σ => li2 ⟨[(0, (V.int .i64 v0)), (3, (V.int .i64 v3))], [], [], σ⟩) v0 v3 σ := by kernel_rfl
def J92_1 (E : List (Nat × Blk)) (D : Den) (W : DrawFn) (N : Nat) : Int → Int → H → Ans := T92_1 E D W 
theorem JE92_1 (E : List (Nat × Blk)) (D : Den) (W : DrawFn) (N : Nat) (v0 : Int) (v3 : Int) (σ : H) :
  denC E D W N C92_1 ⟨[(0, (V.int .i64 v0)), (3, (V.int .i64 v3))], [], [], σ⟩ (Fin92 E) (fun _ _ => none) (Fin92 E) = J92_1 E D W N v0 v3 σ := by
  refine (P92_1 E D W N   v0 v3 σ).trans ?_
  kernel_rfl
def L92_2 (E : List (Nat × Blk)) (D : Den) (W : DrawFn) (N : Nat) (n : Nat) : Int → Int → H → Ans :=
  Nat.rec (fun _ _ _ => none) (fun _ ih => T92_2 E D W (J92_1 E D W N ) ih) n
theorem LE92_2 (E : List (Nat × Blk)) (D : Den) (W : DrawFn) (N : Nat) (n : Nat) : ∀ (v0 : Int) (v3 : Int) (σ : H),
  iterK (fun rec s' => denC E D W N C92_2 s' (fun s'' => keepS [(0, (.int .i64)), (3, (.int .i64))] [] [] s'' rec) (blkK 0 (fun s' => denC E D W N (.keep [(0, (.int .i64)), (3, (.int .i64))] [] [] C92_1) s' (Fin92 E) (fun _ _ => none) (Fin92 E)) (fun _ _ => none)) (Fin92 E)) n ⟨[(0, (V.int .i64 v0)), (3, (V.int .i64 v3))], [], [], σ⟩ = L92_2 E D W N n v0 v3 σ := by
  induction n with
  | zero => intro v0 v3 σ; rfl
  | succ n ihn =>
    intro v0 v3 σ
    rw [iterK_succ]
    refine (P92_2 E D W N C92_1 (iterK (fun rec s' => denC E D W N C92_2 s' (fun s'' => keepS [(0, (.int .i64)), (3, (.int .i64))] [] [] s'' rec) (blkK 0 (fun s' => denC E D W N (.keep [(0, (.int .i64)), (3, (.int .i64))] [] [] C92_1) s' (Fin92 E) (fun _ _ => none) (Fin92 E)) (fun _ _ => none)) (Fin92 E)) n) v0 v3 σ).trans ?_
    simp only [ihn, JE92_1]
    kernel_rfl
def J92_0 (E : List (Nat × Blk)) (D : Den) (W : DrawFn) (N : Nat) : Int → H → Ans := T92_0 E D W (L92_2 E D W N N)
theorem JE92_0 (E : List (Nat × Blk)) (D : Den) (W : DrawFn) (N : Nat) (v0 : Int) (σ : H) :
  denC E D W N (C92_0 C92_1 C92_2) ⟨[(0, (V.int .i64 v0))], [], [], σ⟩ (Fin92 E) (fun _ _ => none) (Fin92 E) = J92_0 E D W N v0 σ := by
  refine (P92_0 E D W N C92_1 C92_2  v0 σ).trans ?_
  simp only [LE92_2]
  kernel_rfl
def F92 (E : List (Nat × Blk)) (D : Den) (W : DrawFn) (N : Nat) (args : List V) (σ : H) : Ans :=
 rtCons args fun x1 l2 =>
 rtInt .i64 x1 fun x3 =>
 rtNil l2 (
 J92_0 E D W N x3 σ)
def A92 : XFn := ⟨28, [(.int .i64)], [(.tmp 2)], (C92_0 C92_1 C92_2)⟩
theorem FE92 (E : List (Nat × Blk)) (D : Den) (W : DrawFn) (N : Nat) (args : List V) (σ : H) : runX E D W N A92 args σ = F92 E D W N args σ := by
  unfold F92
  simp only [← JE92_0]
  kernel_rfl
theorem AO92 : A92.body.ok = true := by kernel_rfl

/-! ### F94: __ogham_derin.elements_.inside -/
def Fin94 (E : List (Nat × Blk)) : St → Ans := fun s => resK E s [(.tmp 6)] fun l => some (oneV l, s.σ)
def C94_0 (cc1 : XC) (cc2 : XC) : XC := (.seq (.ops (.op (some 6) .any [] (.mov (.con V.nils)) <|
 .nil))
 (.seq (.seq (.ops (.op (some 14) .any [1] (.mov (.tmp 1)) <|
 .op (some 15) .any [14] (.len false (.tmp 14)) <|
 .op (some 16) .any [] (.mov (.con (V.int .i64 (Int.ofNat 0)))) <|
 .nil))
 (.block 0 (.loop [(0, .ptr), (2, .any), (14, .any), (15, (.int .i64)), (16, (.int .i64))] [] [] cc2)))
 (.keep [(2, .any)] [] [] cc1)))
def T94_0 (E : List (Nat × Blk)) (D : Den) (W : DrawFn) (K2 : Nat → Nat → V → V → Int → Int → H → Ans) (v0b : Nat) (v0o : Nat) (v1 : V) (v2 : V) (σ : H) : Ans :=
 slenK v1 fun n1 =>
 K2 v0b v0o v2 v1 (Int.ofNat n1) (Int.ofNat 0) σ
def C94_1 : XC := (.seq (.ops (.op (some 46) .any [2] (.mov (.tmp 2)) <|
 .op (some 6) .any [46] (.mov (.tmp 46)) <|
 .nil))
 .ret)
def T94_1 (E : List (Nat × Blk)) (D : Den) (W : DrawFn) (v2 : V) (σ : H) : Ans :=
 some (v2, σ)
def C94_2 : XC := (.seq (.ops (.op (some 17) .any [16, 15] (.bin .lss .none (.tmp 16) (.tmp 15)) <|
 .nil))
 (.seq (.cond (.tmp 17) .skip
 (.exit 0))
 (.seq (.block 1 (.seq (.ops (.op (some 18) .any [14, 16] (.iaddrS 2 (.tmp 14) (.tmp 16)) <|
 .op (some 19) (.agg [(.int .i64), (.int .i64)]) [18] (.load (some 2) (.tmp 18)) <|
 .pal 8 [] 182 [(V.int .i64 (Int.ofNat 0)), (V.int .i64 (Int.ofNat 0))] <|
 .op none (.agg [(.int .i64), (.int .i64)]) [8, 19] (.store 2 (.tmp 8) (.tmp 19)) <|
 .nil))
 (.seq (.ops (.op (some 21) .any [2] (.mov (.tmp 2)) <|
 .op (some 22) (.tup [(.agg [(.int .i64), (.int .i64)]), .bool, .any, (.int .i64), (.int .i64)]) [21] (.call 157 [(.tmp 21)]) <|
 .op (some 20) .any [22] (.mov (.tmp 22)) <|
 .op (some 23) .any [20] (.extract 0 (.tmp 20)) <|
 .op (some 24) .any [20] (.extract 1 (.tmp 20)) <|
 .op (some 25) .any [20] (.extract 2 (.tmp 20)) <|
 .op (some 26) .any [20] (.extract 3 (.tmp 20)) <|
 .op (some 27) .any [20] (.extract 4 (.tmp 20)) <|
 .pal 9 [] 182 [(V.int .i64 (Int.ofNat 0)), (V.int .i64 (Int.ofNat 0))] <|
 .op none (.agg [(.int .i64), (.int .i64)]) [9, 23] (.store 2 (.tmp 9) (.tmp 23)) <|
 .op (some 10) .any [24] (.mov (.tmp 24)) <|
 .op (some 11) .any [25] (.mov (.tmp 25)) <|
 .op (some 12) .any [26] (.mov (.tmp 26)) <|
 .op (some 13) .any [27] (.mov (.tmp 27)) <|
 .nil))
 (.seq (.seq (.ops (.op (some 28) .any [13] (.mov (.tmp 13)) <|
 .op (some 29) .any [28] (.bin .neq .none (.tmp 28) (.con (V.int .i64 (Int.ofNat 0)))) <|
 .op (some 30) .any [29] (.mov (.tmp 29)) <|
 .grp 30 false (.op (some 31) .any [12, 30] (.mov (.tmp 12)) <|
 .op (some 32) .any [2, 30] (.mov (.tmp 2)) <|
 .op (some 33) .any [32, 30] (.len false (.tmp 32)) <|
 .op (some 34) .any [31, 33, 30] (.bin .neq .none (.tmp 31) (.tmp 33)) <|
 .nil) 35 [30, 34] (.tmp 30) (.con (V.bool true)) (.tmp 34) <|
 .op (some 36) .any [35] (.mov (.tmp 35)) <|
 .grp 36 false (.op (some 37) (.agg [(.int .i64), (.int .i64)]) [9, 36] (.load (some 2) (.tmp 9)) <|
 .op (some 38) (.agg [(.int .i64), (.int .i64)]) [8, 36] (.load (some 2) (.tmp 8)) <|
 .op (some 39) .any [37, 38, 36] (.bin .neq (.flat [(0, .int), (1, .int)]) (.tmp 37) (.tmp 38)) <|
 .nil) 40 [36, 39] (.tmp 36) (.con (V.bool true)) (.tmp 39) <|
 .nil))
 (.cond (.tmp 40) (.seq (.ops (.op (some 41) .any [0] (.mov (.tmp 0)) <|
 .op (some 42) .any [41] (.nilck (.tmp 41)) <|
 .op (some 43) .any [42] (.faddr 0 (.tmp 42)) <|
 .op none .any [43] (.store 1 (.tmp 43) (.con (V.bool true))) <|
 .nil))
 (.seq (.ops (.op (some 6) .any [] (.mov (.con V.nils)) <|
 .nil))
 .ret))
 .skip))
 (.ops (.op (some 44) .any [11] (.mov (.tmp 11)) <|
 .op (some 2) .any [44] (.mov (.tmp 44)) <|
 .nil))))))
 (.ops (.op (some 45) .any [16] (.bin .add .none (.tmp 16) (.con (V.int .i64 (Int.ofNat 1)))) <|
 .op (some 16) .any [45] (.mov (.tmp 45)) <|
 .nil)))))
def T94_2 (E : List (Nat × Blk)) (D : Den) (W : DrawFn) (K1 : V → H → Ans) (R2 : Nat → Nat → V → V → Int → Int → H → Ans) (v0b : Nat) (v0o : Nat) (v2 : V) (v14 : V) (v15 : Int) (v16 : Int) (σ : H) : Ans :=
 condK (ltF v16 v15) (
 iaddrSK 2 v14 v16 fun b1 o2 =>
 ldnK E σ b1 o2 2 fun l3 =>
 rtCons l3 fun x4 l5 =>
 rtInt .i64 x4 fun x6 =>
 rtCons l5 fun x7 l8 =>
 rtInt .i64 x7 fun x9 =>
 rtNil l8 (
 callK (D 157 [v2] σ) fun u10 s11 =>
 rtTup u10 fun l12 =>
 rtCons l12 fun x13 l14 =>
 rtAgg x13 fun l15 =>
 rtCons l15 fun x16 l17 =>
 rtInt .i64 x16 fun x18 =>
 rtCons l17 fun x19 l20 =>
 rtInt .i64 x19 fun x21 =>
 rtNil l20 (
 rtCons l14 fun x22 l23 =>
 rtBool x22 fun x24 =>
 rtCons l23 fun x25 l26 =>
 rtCons l26 fun x27 l28 =>
 rtInt .i64 x27 fun x29 =>
 rtCons l28 fun x30 l31 =>
 rtInt .i64 x30 fun x32 =>
 rtNil l31 (
 joinB (fun c33 s34 =>
 joinB (fun c36 s37 =>
 condK c36 (
 stK 1 v0b v0o (V.bool true) s37 fun s39 =>
 some (V.nils, s39)) (
 R2 v0b v0o x25 v14 v15 (addF .i64 v16 (Int.ofNat 1)) s37)) fun k38 =>
 condK c33 (
 k38 true s34) (
 eqK (.flat [(0, .int), (1, .int)]) (V.agg [(V.int .i64 x18), (V.int .i64 x21)]) (V.agg [(V.int .i64 x6), (V.int .i64 x9)]) fun c40 =>
 k38 (not c40) s34)) fun k35 =>
 condK (not (eqF x32 (Int.ofNat 0))) (
 k35 true s11) (
 slenK v2 fun n41 =>
 k35 (not (eqF x29 (Int.ofNat n41))) s11))))) (
 K1 v2 σ)
theorem P94_0 (E : List (Nat × Blk)) (D : Den) (W : DrawFn) (N : Nat) (cc1 : XC) (cc2 : XC) (v0b : Nat) (v0o : Nat) (v1 : V) (v2 : V) (σ : H) :
  denC E D W N (C94_0 cc1 cc2) ⟨[(0, (V.ptr v0b v0o)), (1, v1), (2, v2)], [], [], σ⟩ (Fin94 E) (fun _ _ => none) (Fin94 E) =
  T94_0 E D W (fun v0b v0o v2 v14 v15 v16 σ => iterK (fun rec s' => denC E D W N cc2 s' (fun s'' => keepS [(0, .ptr), (2, .any), (14, .any), (15, (.int .i64)), (16, (.int .i64))] [] [] s'' rec) (blkK 0 (fun s' => denC E D W N (.keep [(2, .any)] [] [] cc1) s' (Fin94 E) (fun _ _ => none) (Fin94 E)) (fun _ _ => none)) (Fin94 E)) N ⟨[(0, (V.ptr v0b v0o)), (2, v2), (14, v14), (15, (V.int .i64 v15)), (16, (V.int .i64 v16))], [], [], σ⟩) v0b v0o v1 v2 σ := by kernel_rfl
theorem P94_1 (E : List (Nat × Blk)) (D : Den) (W : DrawFn) (N : Nat) (v2 : V) (σ : H) :
  denC E D W N (C94_1 ) ⟨[(2, v2)], [], [], σ⟩ (Fin94 E) (fun _ _ => none) (Fin94 E) =
  T94_1 E D W  v2 σ := by kernel_rfl
theorem P94_2 (E : List (Nat × Blk)) (D : Den) (W : DrawFn) (N : Nat) (cc1 : XC) (li2 : St → Ans) (v0b : Nat) (v0o : Nat) (v2 : V) (v14 : V) (v15 : Int) (v16 : Int) (σ : H) :
  denC E D W N (C94_2 ) ⟨[(0, (V.ptr v0b v0o)), (2, v2), (14, v14), (15, (V.int .i64 v15)), (16, (V.int .i64 v16))], [], [], σ⟩ (fun s'' => keepS [(0, .ptr), (2, .any), (14, .any), (15, (.int .i64)), (16, (.int .i64))] [] [] s'' li2) (blkK 0 (fun s' => denC E D W N (.keep [(2, .any)] [] [] cc1) s' (Fin94 E) (fun _ _ => none) (Fin94 E)) (fun _ _ => none)) (Fin94 E) =
  T94_2 E D W (fun v2 σ => denC E D W N cc1 ⟨[(2, v2)], [], [], σ⟩ (Fin94 E) (fun _ _ => none) (Fin94 E)) (fun v0b v0o v2 v14 v15 v16 σ => li2 ⟨[(0, (V.ptr v0b v0o)), (2, v2), (14, v14), (15, (V.int .i64 v15)), (16, (V.int .i64 v16))], [], [], σ⟩) v0b v0o v2 v14 v15 v16 σ := by kernel_rfl
def J94_1 (E : List (Nat × Blk)) (D : Den) (W : DrawFn) (N : Nat) : V → H → Ans := T94_1 E D W 
theorem JE94_1 (E : List (Nat × Blk)) (D : Den) (W : DrawFn) (N : Nat) (v2 : V) (σ : H) :
  denC E D W N C94_1 ⟨[(2, v2)], [], [], σ⟩ (Fin94 E) (fun _ _ => none) (Fin94 E) = J94_1 E D W N v2 σ := by
  refine (P94_1 E D W N   v2 σ).trans ?_
  kernel_rfl
def L94_2 (E : List (Nat × Blk)) (D : Den) (W : DrawFn) (N : Nat) (n : Nat) : Nat → Nat → V → V → Int → Int → H → Ans :=
  Nat.rec (fun _ _ _ _ _ _ _ => none) (fun _ ih => T94_2 E D W (J94_1 E D W N ) ih) n
theorem LE94_2 (E : List (Nat × Blk)) (D : Den) (W : DrawFn) (N : Nat) (n : Nat) : ∀ (v0b : Nat) (v0o : Nat) (v2 : V) (v14 : V) (v15 : Int) (v16 : Int) (σ : H),
  iterK (fun rec s' => denC E D W N C94_2 s' (fun s'' => keepS [(0, .ptr), (2, .any), (14, .any), (15, (.int .i64)), (16, (.int .i64))] [] [] s'' rec) (blkK 0 (fun s' => denC E D W N (.keep [(2, .any)] [] [] C94_1) s' (Fin94 E) (fun _ _ => none) (Fin94 E)) (fun _ _ => none)) (Fin94 E)) n ⟨[(0, (V.ptr v0b v0o)), (2, v2), (14, v14), (15, (V.int .i64 v15)), (16, (V.int .i64 v16))], [], [], σ⟩ = L94_2 E D W N n v0b v0o v2 v14 v15 v16 σ := by
  induction n with
  | zero => intro v0b v0o v2 v14 v15 v16 σ; rfl
  | succ n ihn =>
    intro v0b v0o v2 v14 v15 v16 σ
    rw [iterK_succ]
    refine (P94_2 E D W N C94_1 (iterK (fun rec s' => denC E D W N C94_2 s' (fun s'' => keepS [(0, .ptr), (2, .any), (14, .any), (15, (.int .i64)), (16, (.int .i64))] [] [] s'' rec) (blkK 0 (fun s' => denC E D W N (.keep [(2, .any)] [] [] C94_1) s' (Fin94 E) (fun _ _ => none) (Fin94 E)) (fun _ _ => none)) (Fin94 E)) n) v0b v0o v2 v14 v15 v16 σ).trans ?_
    simp only [ihn, JE94_1]
    kernel_rfl
def J94_0 (E : List (Nat × Blk)) (D : Den) (W : DrawFn) (N : Nat) : Nat → Nat → V → V → H → Ans := T94_0 E D W (L94_2 E D W N N)
theorem JE94_0 (E : List (Nat × Blk)) (D : Den) (W : DrawFn) (N : Nat) (v0b : Nat) (v0o : Nat) (v1 : V) (v2 : V) (σ : H) :
  denC E D W N (C94_0 C94_1 C94_2) ⟨[(0, (V.ptr v0b v0o)), (1, v1), (2, v2)], [], [], σ⟩ (Fin94 E) (fun _ _ => none) (Fin94 E) = J94_0 E D W N v0b v0o v1 v2 σ := by
  refine (P94_0 E D W N C94_1 C94_2  v0b v0o v1 v2 σ).trans ?_
  simp only [LE94_2]
  kernel_rfl
def F94 (E : List (Nat × Blk)) (D : Den) (W : DrawFn) (N : Nat) (args : List V) (σ : H) : Ans :=
 rtCons args fun x1 l2 =>
 rtPtr x1 fun b3 o4 =>
 rtCons l2 fun x5 l6 =>
 rtCons l6 fun x7 l8 =>
 rtNil l8 (
 J94_0 E D W N b3 o4 x5 x7 σ)
def A94 : XFn := ⟨47, [.ptr, .any, .any], [(.tmp 6)], (C94_0 C94_1 C94_2)⟩
theorem FE94 (E : List (Nat × Blk)) (D : Den) (W : DrawFn) (N : Nat) (args : List V) (σ : H) : runX E D W N A94 args σ = F94 E D W N args σ := by
  unfold F94
  simp only [← JE94_0]
  kernel_rfl
theorem AO94 : A94.body.ok = true := by kernel_rfl

/-! ### F95: ogham_octets.TakeSigned -/
def Fin95 (E : List (Nat × Blk)) : St → Ans := fun s => resK E s [(.tmp 2), (.tmp 3)] fun l => some (oneV l, s.σ)
def C95_0 (cc1 : XC) : XC := (.seq (.ops (.op (some 2) .any [] (.mov (.con (V.int .i64 (Int.ofNat 0)))) <|
 .op (some 3) .any [] (.mov (.con (V.int .i64 (Int.ofNat 0)))) <|
 .nil))
 (.seq (.seq (.ops (.op (some 6) .any [0] (.mov (.tmp 0)) <|
 .op (some 7) .any [6] (.len false (.tmp 6)) <|
 .op (some 8) .any [7] (.bin .eql .none (.tmp 7) (.con (V.int .i64 (Int.ofNat 0)))) <|
 .nil))
 (.cond (.tmp 8) (.seq (.ops (.op (some 2) .any [] (.mov (.con (V.int .i64 (Int.ofNat 0)))) <|
 .op (some 3) .any [] (.mov (.con (V.int .i64 (Int.ofNat 3)))) <|
 .nil))
 .ret)
 .skip))
 (.seq (.seq (.ops (.op (some 9) .any [0] (.mov (.tmp 0)) <|
 .op (some 10) .any [9] (.len false (.tmp 9)) <|
 .op (some 11) .any [10] (.bin .gtr .none (.tmp 10) (.con (V.int .i64 (Int.ofNat 8)))) <|
 .nil))
 (.cond (.tmp 11) (.seq (.ops (.op (some 2) .any [] (.mov (.con (V.int .i64 (Int.ofNat 0)))) <|
 .op (some 3) .any [] (.mov (.con (V.int .i64 (Int.ofNat 4)))) <|
 .nil))
 .ret)
 .skip))
 (.seq (.ops (.op (some 12) .any [0] (.mov (.tmp 0)) <|
 .op (some 13) (.int .u64) [12] (.call 158 [(.tmp 12)]) <|
 .op (some 14) .any [13] (.conv (.toInt .i64) (.tmp 13)) <|
 .op (some 4) .any [14] (.mov (.tmp 14)) <|
 .nil))
 (.seq (.seq (.ops (.op (some 15) .any [0] (.mov (.tmp 0)) <|
 .op (some 16) .any [15] (.len false (.tmp 15)) <|
 .op (some 17) .any [16] (.bin .mul .none (.con (V.int .i64 (Int.ofNat 8))) (.tmp 16)) <|
 .op (some 18) .any [17] (.bin .sub .none (.con (V.int .i64 (Int.ofNat 64))) (.tmp 17)) <|
 .op (some 5) .any [18] (.mov (.tmp 18)) <|
 .nil))
 (.seq (.ops (.op (some 19) .any [5] (.mov (.tmp 5)) <|
 .op (some 20) .any [19] (.bin .gtr .none (.tmp 19) (.con (V.int .i64 (Int.ofNat 0)))) <|
 .nil))
 (.cond (.tmp 20) (.ops (.op (some 21) .any [4] (.mov (.tmp 4)) <|
 .op (some 22) .any [5] (.mov (.tmp 5)) <|
 .op (some 23) .any [21, 22] (.bin .shl .none (.tmp 21) (.tmp 22)) <|
 .op (some 24) .any [5] (.mov (.tmp 5)) <|
 .op (some 25) .any [23, 24] (.bin .shr .none (.tmp 23) (.tmp 24)) <|
 .op (some 4) .any [25] (.mov (.tmp 25)) <|
 .nil))
 .skip)))
 (.keep [(0, .any), (4, (.int .i64))] [] [] cc1))))))
def T95_0 (E : List (Nat × Blk)) (D : Den) (W : DrawFn) (K1 : V → Int → H → Ans) (v0 : V) (σ : H) : Ans :=
 slenK v0 fun n1 =>
 condK (eqF (Int.ofNat n1) (Int.ofNat 0)) (
 some ((V.tup [(V.int .i64 (Int.ofNat 0)), (V.int .i64 (Int.ofNat 3))]), σ)) (
 slenK v0 fun n2 =>
 condK (ltF (Int.ofNat 8) (Int.ofNat n2)) (
 some ((V.tup [(V.int .i64 (Int.ofNat 0)), (V.int .i64 (Int.ofNat 4))]), σ)) (
 callK (D 158 [v0] σ) fun u3 s4 =>
 rtInt .u64 u3 fun x5 =>
 slenK v0 fun n6 =>
 condK (ltF (Int.ofNat 0) (subF .i64 (Int.ofNat 64) (mulF .i64 (Int.ofNat 8) (Int.ofNat n6)))) (
 nnK (subF .i64 (Int.ofNat 64) (mulF .i64 (Int.ofNat 8) (Int.ofNat n6))) fun n7 =>
 nnK (subF .i64 (Int.ofNat 64) (mulF .i64 (Int.ofNat 8) (Int.ofNat n6))) fun n8 =>
 K1 v0 (shrF .i64 (shlF .i64 (wrapF .i64 x5) n7) n8) s4) (
 K1 v0 (wrapF .i64 x5) s4)))
def C95_1 : XC := (.seq (.seq (.ops (.op (some 26) .any [4] (.mov (.tmp 4)) <|
 .op (some 27) .one [26] (.call 92 [(.tmp 26)]) <|
 .op (some 28) .any [0] (.mov (.tmp 0)) <|
 .op (some 29) .bool [27, 28] (.call 53 [(.tmp 27), (.tmp 28)]) <|
 .op (some 30) .any [29] (.un .not (.tmp 29)) <|
 .nil))
 (.cond (.tmp 30) (.seq (.ops (.op (some 2) .any [] (.mov (.con (V.int .i64 (Int.ofNat 0)))) <|
 .op (some 3) .any [] (.mov (.con (V.int .i64 (Int.ofNat 4)))) <|
 .nil))
 .ret)
 .skip))
 (.seq (.ops (.op (some 31) .any [4] (.mov (.tmp 4)) <|
 .op (some 2) .any [31] (.mov (.tmp 31)) <|
 .op (some 3) .any [] (.mov (.con (V.int .i64 (Int.ofNat 0)))) <|
 .nil))
 .ret))
def T95_1 (E : List (Nat × Blk)) (D : Den) (W : DrawFn) (v0 : V) (v4 : Int) (σ : H) : Ans :=
 callK (D 92 [(V.int .i64 v4)] σ) fun u1 s2 =>
 rtOne u1 (
 callK (D 53 [u1, v0] s2) fun u3 s4 =>
 rtBool u3 fun x5 =>
 condK (not x5) (
 some ((V.tup [(V.int .i64 (Int.ofNat 0)), (V.int .i64 (Int.ofNat 4))]), s4)) (
 some ((V.tup [(V.int .i64 v4), (V.int .i64 (Int.ofNat 0))]), s4)))
theorem P95_0 (E : List (Nat × Blk)) (D : Den) (W : DrawFn) (N : Nat) (cc1 : XC) (v0 : V) (σ : H) :
  denC E D W N (C95_0 cc1) ⟨[(0, v0)], [], [], σ⟩ (Fin95 E) (fun _ _ => none) (Fin95 E) =
  T95_0 E D W (fun v0 v4 σ => denC E D W N cc1 ⟨[(0, v0), (4, (V.int .i64 v4))], [], [], σ⟩ (Fin95 E) (fun _ _ => none) (Fin95 E)) v0 σ := by kernel_rfl
theorem P95_1 (E : List (Nat × Blk)) (D : Den) (W : DrawFn) (N : Nat) (v0 : V) (v4 : Int) (σ : H) :
  denC E D W N (C95_1 ) ⟨[(0, v0), (4, (V.int .i64 v4))], [], [], σ⟩ (Fin95 E) (fun _ _ => none) (Fin95 E) =
  T95_1 E D W  v0 v4 σ := by kernel_rfl
def J95_1 (E : List (Nat × Blk)) (D : Den) (W : DrawFn) (N : Nat) : V → Int → H → Ans := T95_1 E D W 
theorem JE95_1 (E : List (Nat × Blk)) (D : Den) (W : DrawFn) (N : Nat) (v0 : V) (v4 : Int) (σ : H) :
  denC E D W N C95_1 ⟨[(0, v0), (4, (V.int .i64 v4))], [], [], σ⟩ (Fin95 E) (fun _ _ => none) (Fin95 E) = J95_1 E D W N v0 v4 σ := by
  refine (P95_1 E D W N   v0 v4 σ).trans ?_
  kernel_rfl
def J95_0 (E : List (Nat × Blk)) (D : Den) (W : DrawFn) (N : Nat) : V → H → Ans := T95_0 E D W (J95_1 E D W N )
theorem JE95_0 (E : List (Nat × Blk)) (D : Den) (W : DrawFn) (N : Nat) (v0 : V) (σ : H) :
  denC E D W N (C95_0 C95_1) ⟨[(0, v0)], [], [], σ⟩ (Fin95 E) (fun _ _ => none) (Fin95 E) = J95_0 E D W N v0 σ := by
  refine (P95_0 E D W N C95_1  v0 σ).trans ?_
  simp only [JE95_1]
  kernel_rfl
def F95 (E : List (Nat × Blk)) (D : Den) (W : DrawFn) (N : Nat) (args : List V) (σ : H) : Ans :=
 rtCons args fun x1 l2 =>
 rtNil l2 (
 J95_0 E D W N x1 σ)
def A95 : XFn := ⟨32, [.any], [(.tmp 2), (.tmp 3)], (C95_0 C95_1)⟩
theorem FE95 (E : List (Nat × Blk)) (D : Den) (W : DrawFn) (N : Nat) (args : List V) (σ : H) : runX E D W N A95 args σ = F95 E D W N args σ := by
  unfold F95
  simp only [← JE95_0]
  kernel_rfl
theorem AO95 : A95.body.ok = true := by kernel_rfl

def C100_0 : XC := (.seq (.ops (.op (some 4) .any [] (.mov (.con (V.bool false))) <|
 .nil))
 (.seq (.ops (.op (some 5) .any [0] (.mov (.tmp 0)) <|
 .op (some 6) .any [1] (.mov (.tmp 1)) <|
 .op (some 7) (.int .i64) [5, 6] (.call 164 [(.tmp 5), (.tmp 6)]) <|
 .op (some 8) .any [7] (.bin .geq .none (.tmp 7) (.con (V.int .i64 (Int.ofNat 0)))) <|
 .op (some 4) .any [8] (.mov (.tmp 8)) <|
 .nil))
 .ret))
def A100 : XFn := ⟨9, [.any, .any], [(.tmp 4)], C100_0⟩
/-! ### F101: ogham_uper.rooted_1 -/
def Fin101 (E : List (Nat × Blk)) : St → Ans := fun s => resK E s [(.tmp 2)] fun l => some (oneV l, s.σ)
def C101_0 : XC := (.seq (.ops (.op (some 1) .any [0] (.box 165 (.tmp 0)) <|
 .op (some 2) .any [] (.mov (.con (V.bool false))) <|
 .nil))
 (.seq (.ops (.op (some 3) .any [1] (.faddr 10 (.tmp 1)) <|
 .op (some 4) (.int .i64) [3] (.load none (.tmp 3)) <|
 .op (some 5) .any [4] (.bin .lss .none (.tmp 4) (.con (V.int .i64 (Int.ofNat 0)))) <|
 .op (some 6) .any [5] (.mov (.tmp 5)) <|
 .grp 6 false (.op (some 7) .any [1, 6] (.faddr 10 (.tmp 1)) <|
 .op (some 8) (.int .i64) [7, 6] (.load none (.tmp 7)) <|
 .op (some 9) .any [1, 6] (.faddr 9 (.tmp 1)) <|
 .op (some 10) .any [9, 6] (.load none (.tmp 9)) <|
 .op (some 11) .any [10, 6] (.len false (.tmp 10)) <|
 .op (some 12) .any [1, 6] (.faddr 8 (.tmp 1)) <|
 .op (some 13) .any [12, 6] (.load none (.tmp 12)) <|
 .op (some 14) .any [13, 6] (.len false (.tmp 13)) <|
 .op (some 15) .any [11, 14, 6] (.bin .add .none (.tmp 11) (.tmp 14)) <|
 .op (some 16) .any [8, 15, 6] (.bin .gtr .none (.tmp 8) (.tmp 15)) <|
 .nil) 17 [6, 16] (.tmp 6) (.con (V.bool true)) (.tmp 16) <|
 .op (some 2) .any [17] (.mov (.tmp 17)) <|
 .nil))
 .ret))
def T101_0 (E : List (Nat × Blk)) (D : Den) (W : DrawFn) (v0_0 : Int) (v0_1 : V) (v0_2 : Bool) (v0_3 : Bool) (v0_4 : Bool) (v0_5 : Bool) (v0_6 : Int) (v0_7 : Int) (v0_8 : V) (v0_9 : V) (v0_10 : Int) (v0_11 : Bool) (v0_12 : Int) (σ : H) : Ans :=
 chk (allOne (V.cells (V.agg [(V.int .i64 v0_0), v0_1, (V.bool v0_2), (V.bool v0_3), (V.bool v0_4), (V.bool v0_5), (V.int .i64 v0_6), (V.int .i64 v0_7), v0_8, v0_9, (V.int .i64 v0_10), (V.bool v0_11), (V.int .i64 v0_12)]))) (
 let s1 := newB σ (.cells (V.cells (V.agg [(V.int .i64 v0_0), v0_1, (V.bool v0_2), (V.bool v0_3), (V.bool v0_4), (V.bool v0_5), (V.int .i64 v0_6), (V.int .i64 v0_7), v0_8, v0_9, (V.int .i64 v0_10), (V.bool v0_11), (V.int .i64 v0_12)])));
 ldK E s1 (H.next σ) 10 fun u2 =>
 rtInt .i64 u2 fun x3 =>
 joinB (fun c4 s5 =>
 some ((V.bool c4), s5)) fun k6 =>
 condK (ltF x3 (Int.ofNat 0)) (
 k6 true s1) (
 ldK E s1 (H.next σ) 10 fun u7 =>
 rtInt .i64 u7 fun x8 =>
 ldK E s1 (H.next σ) 9 fun u9 =>
 slenK u9 fun n10 =>
 ldK E s1 (H.next σ) 8 fun u11 =>
 slenK u11 fun n12 =>
 k6 (ltF (addF .i64 (Int.ofNat n10) (Int.ofNat n12)) x8) s1))
theorem P101_0 (E : List (Nat × Blk)) (D : Den) (W : DrawFn) (N : Nat) (v0_0 : Int) (v0_1 : V) (v0_2 : Bool) (v0_3 : Bool) (v0_4 : Bool) (v0_5 : Bool) (v0_6 : Int) (v0_7 : Int) (v0_8 : V) (v0_9 : V) (v0_10 : Int) (v0_11 : Bool) (v0_12 : Int) (σ : H) :
  denC E D W N (C101_0 ) ⟨[(0, (V.agg [(V.int .i64 v0_0), v0_1, (V.bool v0_2), (V.bool v0_3), (V.bool v0_4), (V.bool v0_5), (V.int .i64 v0_6), (V.int .i64 v0_7), v0_8, v0_9, (V.int .i64 v0_10), (V.bool v0_11), (V.int .i64 v0_12)]))], [], [], σ⟩ (Fin101 E) (fun _ _ => none) (Fin101 E) =
  T101_0 E D W  v0_0 v0_1 v0_2 v0_3 v0_4 v0_5 v0_6 v0_7 v0_8 v0_9 v0_10 v0_11 v0_12 σ := by kernel_rfl
def J101_0 (E : List (Nat × Blk)) (D : Den) (W : DrawFn) (N : Nat) : Int → V → Bool → Bool → Bool → Bool → Int → Int → V → V → Int → Bool → Int → H → Ans := T101_0 E D W 
theorem JE101_0 (E : List (Nat × Blk)) (D : Den) (W : DrawFn) (N : Nat) (v0_0 : Int) (v0_1 : V) (v0_2 : Bool) (v0_3 : Bool) (v0_4 : Bool) (v0_5 : Bool) (v0_6 : Int) (v0_7 : Int) (v0_8 : V) (v0_9 : V) (v0_10 : Int) (v0_11 : Bool) (v0_12 : Int) (σ : H) :
  denC E D W N C101_0 ⟨[(0, (V.agg [(V.int .i64 v0_0), v0_1, (V.bool v0_2), (V.bool v0_3), (V.bool v0_4), (V.bool v0_5), (V.int .i64 v0_6), (V.int .i64 v0_7), v0_8, v0_9, (V.int .i64 v0_10), (V.bool v0_11), (V.int .i64 v0_12)]))], [], [], σ⟩ (Fin101 E) (fun _ _ => none) (Fin101 E) = J101_0 E D W N v0_0 v0_1 v0_2 v0_3 v0_4 v0_5 v0_6 v0_7 v0_8 v0_9 v0_10 v0_11 v0_12 σ := by
  refine (P101_0 E D W N   v0_0 v0_1 v0_2 v0_3 v0_4 v0_5 v0_6 v0_7 v0_8 v0_9 v0_10 v0_11 v0_12 σ).trans ?_
  kernel_rfl
def F101 (E : List (Nat × Blk)) (D : Den) (W : DrawFn) (N : Nat) (args : List V) (σ : H) : Ans :=
 rtCons args fun x1 l2 =>
 rtAgg x1 fun l3 =>
 rtCons l3 fun x4 l5 =>
 rtInt .i64 x4 fun x6 =>
 rtCons l5 fun x7 l8 =>
 rtCons l8 fun x9 l10 =>
 rtBool x9 fun x11 =>
 rtCons l10 fun x12 l13 =>
 rtBool x12 fun x14 =>
 rtCons l13 fun x15 l16 =>
 rtBool x15 fun x17 =>
 rtCons l16 fun x18 l19 =>
 rtBool x18 fun x20 =>
 rtCons l19 fun x21 l22 =>
 rtInt .i64 x21 fun x23 =>
 rtCons l22 fun x24 l25 =>
 rtInt .i64 x24 fun x26 =>
 rtCons l25 fun x27 l28 =>
 rtCons l28 fun x29 l30 =>
 rtCons l30 fun x31 l32 =>
 rtInt .i64 x31 fun x33 =>
 rtCons l32 fun x34 l35 =>
 rtBool x34 fun x36 =>
 rtCons l35 fun x37 l38 =>
 rtInt .i64 x37 fun x39 =>
 rtNil l38 (
 rtNil l2 (
 J101_0 E D W N x6 x7 x11 x14 x17 x20 x23 x26 x27 x29 x33 x36 x39 σ))
def A101 : XFn := ⟨18, [(.agg [(.int .i64), .any, .bool, .bool, .bool, .bool, (.int .i64), (.int .i64), .any, .any, (.int .i64), .bool, (.int .i64)])], [(.tmp 2)], C101_0⟩
theorem FE101 (E : List (Nat × Blk)) (D : Den) (W : DrawFn) (N : Nat) (args : List V) (σ : H) : runX E D W N A101 args σ = F101 E D W N args σ := by
  unfold F101
  simp only [← JE101_0]
  kernel_rfl
theorem AO101 : A101.body.ok = true := by kernel_rfl

def C102_0 : XC := (.seq (.ops (.op (some 4) .any [1] (.mov (.tmp 1)) <|
 .nil))
 (.cond (.tmp 4) (.ops (.op (some 5) .any [0] (.mov (.tmp 0)) <|
 .op (some 6) .any [5] (.nilck (.tmp 5)) <|
 .op (some 7) .any [6] (.faddr 0 (.tmp 6)) <|
 .op (some 8) .any [7] (.load none (.tmp 7)) <|
 .op (some 9) (.tup []) [8] (.call 165 [(.tmp 8), (.con (V.int .u64 (Int.ofNat 1))), (.con (V.int .i64 (Int.ofNat 1)))]) <|
 .nil))
 (.ops (.op (some 10) .any [0] (.mov (.tmp 0)) <|
 .op (some 11) .any [10] (.nilck (.tmp 10)) <|
 .op (some 12) .any [11] (.faddr 0 (.tmp 11)) <|
 .op (some 13) .any [12] (.load none (.tmp 12)) <|
 .op (some 14) (.tup []) [13] (.call 165 [(.tmp 13), (.con (V.int .u64 (Int.ofNat 0))), (.con (V.int .i64 (Int.ofNat 1)))]) <|
 .nil))))
def A102 : XFn := ⟨15, [.ptr, .bool], [], C102_0⟩
def G103_0 : List AOper := [⟨(some 58), .mov (.tmp 0), none⟩, ⟨(some 59), .nilck (.tmp 58), none⟩, ⟨(some 60), .faddr 0 (.tmp 59), none⟩, ⟨(some 61), .load none (.tmp 60), none⟩, ⟨(some 62), .mov (.tmp 2), none⟩, ⟨(some 63), .conv (.toInt .u64) (.tmp 62), none⟩, ⟨(some 64), .faddr 4 (.tmp 4), none⟩, ⟨(some 65), .load none (.tmp 64), none⟩, ⟨(some 66), .conv (.toInt .u64) (.tmp 65), none⟩, ⟨(some 67), .bin .sub .none (.tmp 63) (.tmp 66), none⟩, ⟨(some 68), .call 168 [(.tmp 67)], none⟩, ⟨(some 69), .buildSlice 31 1 [V.nils] [(0, 1, (.tmp 68))], none⟩, ⟨(some 70), .call 105 [(.tmp 61), (.tmp 69)], none⟩]
def H103_0 : List DP := [⟨0, [0]⟩, ⟨1, [58]⟩, ⟨3, [59]⟩, ⟨7, [60]⟩, ⟨0, [2]⟩, ⟨16, [62]⟩, ⟨0, [4]⟩, ⟨64, [64]⟩, ⟨192, [65]⟩, ⟨496, [63, 66]⟩, ⟨1008, [67]⟩, ⟨2032, [68]⟩, ⟨4095, [61, 69]⟩]
def G103_1 : List AOper := [⟨(some 23), .mov (.tmp 0), none⟩, ⟨(some 24), .nilck (.tmp 23), none⟩, ⟨(some 25), .faddr 0 (.tmp 24), none⟩, ⟨(some 26), .load none (.tmp 25), none⟩, ⟨(some 27), .mov (.tmp 2), none⟩, ⟨(some 28), .call 92 [(.tmp 27)], none⟩, ⟨(some 29), .buildSlice 31 1 [V.nils] [(0, 1, (.tmp 28))], none⟩, ⟨(some 30), .call 105 [(.tmp 26), (.tmp 29)], none⟩]
def H103_1 : List DP := [⟨0, [0]⟩, ⟨1, [23]⟩, ⟨3, [24]⟩, ⟨7, [25]⟩, ⟨0, [2]⟩, ⟨16, [27]⟩, ⟨48, [28]⟩, ⟨127, [26, 29]⟩]
def C103_0 (cc1 : XC) : XC := (.seq (.ops (.op (some 4) .any [1] (.box 101 (.tmp 1)) <|
 .nil))
 (.seq (.ops (.op (some 9) (.agg [.bool, .bool, .bool, .bool, (.int .i64), (.int .i64)]) [4] (.load (some 6) (.tmp 4)) <|
 .op (some 10) .any [2] (.mov (.tmp 2)) <|
 .op (some 11) .bool [9, 10] (.call 139 [(.tmp 9), (.tmp 10)]) <|
 .op (some 6) .any [11] (.mov (.tmp 11)) <|
 .nil))
 (.seq (.seq (.ops (.op (some 12) .any [4] (.faddr 3 (.tmp 4)) <|
 .op (some 13) .bool [12] (.load none (.tmp 12)) <|
 .nil))
 (.cond (.tmp 13) (.ops (.op (some 14) .any [0] (.mov (.tmp 0)) <|
 .op (some 15) .any [6] (.mov (.tmp 6)) <|
 .op (some 16) .any [15] (.un .not (.tmp 15)) <|
 .op (some 17) (.tup []) [14, 16] (.call 102 [(.tmp 14), (.tmp 16)]) <|
 .nil))
 .skip))
 (.keep [(0, .ptr), (2, (.int .i64)), (4, .ptr), (6, .bool)] [] [] cc1))))
def C103_1 : XC := (.seq (.ops (.op (some 19) (.agg [.bool, .bool, .bool, .bool, (.int .i64), (.int .i64)]) [4] (.load (some 6) (.tmp 4)) <|
 .op (some 20) (.tup [(.int .u64), .bool]) [19] (.call 166 [(.tmp 19)]) <|
 .op (some 18) .any [20] (.mov (.tmp 20)) <|
 .op (some 21) .any [18] (.extract 0 (.tmp 18)) <|
 .op (some 22) .any [18] (.extract 1 (.tmp 18)) <|
 .op (some 7) .any [21] (.mov (.tmp 21)) <|
 .op (some 8) .any [22] (.mov (.tmp 22)) <|
 .nil))
 (.block 0 (.seq (.ops (.op (some 32) .any [6] (.mov (.tmp 6)) <|
 .op (some 33) .any [32] (.mov (.tmp 32)) <|
 .grp 33 true (.op (some 34) .any [8, 33] (.mov (.tmp 8)) <|
 .nil) 35 [33, 34] (.tmp 33) (.tmp 34) (.con (V.bool false)) <|
 .op (some 31) .any [35] (.mov (.tmp 35)) <|
 .nil))
 (.cond (.tmp 31) (.draw (.op (some 36) .any [0] (.mov (.tmp 0)) <|
 .op (some 37) .any [36] (.nilck (.tmp 36)) <|
 .op (some 38) .any [37] (.faddr 0 (.tmp 37)) <|
 .op (some 39) .any [38] (.load none (.tmp 38)) <|
 .op (some 40) .any [2] (.mov (.tmp 2)) <|
 .op (some 41) .any [40] (.conv (.toInt .u64) (.tmp 40)) <|
 .op (some 42) .any [4] (.faddr 4 (.tmp 4)) <|
 .op (some 43) (.int .i64) [42] (.load none (.tmp 42)) <|
 .op (some 44) .any [43] (.conv (.toInt .u64) (.tmp 43)) <|
 .op (some 45) .any [41, 44] (.bin .sub .none (.tmp 41) (.tmp 44)) <|
 .op (some 46) .any [7] (.mov (.tmp 7)) <|
 .op (some 47) (.tup []) [39, 45, 46] (.call 167 [(.tmp 39), (.tmp 45), (.tmp 46)]) <|
 .nil) [0, 1, 3, 7, 0, 16, 0, 64, 192, 496, 0, 2047])
 (.seq (.ops (.op (some 49) .any [6] (.mov (.tmp 6)) <|
 .op (some 50) .any [49] (.mov (.tmp 49)) <|
 .grp 50 true (.op (some 51) .any [4, 50] (.faddr 0 (.tmp 4)) <|
 .op (some 52) .bool [51, 50] (.load none (.tmp 51)) <|
 .nil) 53 [50, 52] (.tmp 50) (.tmp 52) (.con (V.bool false)) <|
 .op (some 54) .any [53] (.mov (.tmp 53)) <|
 .grp 54 true (.op (some 55) .any [4, 54] (.faddr 1 (.tmp 4)) <|
 .op (some 56) .bool [55, 54] (.load none (.tmp 55)) <|
 .nil) 57 [54, 56] (.tmp 54) (.tmp 56) (.con (V.bool false)) <|
 .op (some 48) .any [57] (.mov (.tmp 57)) <|
 .nil))
 (.cond (.tmp 48) (.keep [(0, .ptr), (2, (.int .i64)), (4, .ptr)] [] [] (.gdraw G103_0 H103_0 []))
 (.keep [(0, .ptr), (2, (.int .i64))] [] [] (.gdraw G103_1 H103_1 []))))))))
def A103 : XFn := ⟨71, [.ptr, (.agg [.bool, .bool, .bool, .bool, (.int .i64), (.int .i64)]), (.int .i64)], [], (C103_0 C103_1)⟩
/-! ### F104: __ogham_uper.encoder_.enumerated -/
def G104_0 : List AOper := [⟨(some 35), .mov (.tmp 0), none⟩, ⟨(some 36), .nilck (.tmp 35), none⟩, ⟨(some 37), .faddr 0 (.tmp 36), none⟩, ⟨(some 38), .load none (.tmp 37), none⟩, ⟨(some 39), .mov (.tmp 0), none⟩, ⟨(some 40), .nilck (.tmp 39), none⟩, ⟨(some 41), .faddr 1 (.tmp 40), none⟩, ⟨(some 42), .load (some 4) (.tmp 41), none⟩, ⟨(some 43), .mov (.tmp 1), none⟩, ⟨(some 44), .call 171 [(.tmp 42), (.tmp 43)], none⟩, ⟨(some 45), .mov (.tmp 7), none⟩, ⟨(some 46), .call 170 [(.tmp 44), (.tmp 45)], none⟩, ⟨(some 47), .conv (.toInt .u64) (.tmp 46), none⟩, ⟨(some 48), .faddr 10 (.tmp 6), none⟩, ⟨(some 49), .load none (.tmp 48), none⟩, ⟨(some 50), .bin .sub .none (.tmp 49) (.con (V.int .i64 (Int.ofNat 1))), none⟩, ⟨(some 51), .conv (.toInt .u64) (.tmp 50), none⟩, ⟨(some 52), .call 167 [(.tmp 38), (.tmp 47), (.tmp 51)], none⟩]
def H104_0 : List DP := [⟨0, [0]⟩, ⟨1, [35]⟩, ⟨3, [36]⟩, ⟨7, [37]⟩, ⟨0, [0]⟩, ⟨16, [39]⟩, ⟨48, [40]⟩, ⟨112, [41]⟩, ⟨0, [1]⟩, ⟨496, [42, 43]⟩, ⟨0, [7]⟩, ⟨2032, [44, 45]⟩, ⟨4080, [46]⟩, ⟨0, [6]⟩, ⟨8192, [48]⟩, ⟨24576, [49]⟩, ⟨57344, [50]⟩, ⟨131071, [38, 47, 51]⟩]
def Fin104 (E : List (Nat × Blk)) : St → Ans := fun s => resK E s [] fun l => some (oneV l, s.σ)
def C104_0 (cc1 : XC) : XC := (.seq (.ops (.op (some 5) .any [2] (.box 35 (.tmp 2)) <|
 .nil))
 (.seq (.ops (.op (some 9) .any [0] (.mov (.tmp 0)) <|
 .op (some 10) .any [9] (.nilck (.tmp 9)) <|
 .op (some 11) .any [10] (.faddr 1 (.tmp 10)) <|
 .op (some 12) .any [11] (.faddr 3 (.tmp 11)) <|
 .op (some 13) .any [12] (.load none (.tmp 12)) <|
 .op (some 14) .any [1] (.mov (.tmp 1)) <|
 .op (some 15) .any [13, 14] (.iaddrS 13 (.tmp 13) (.tmp 14)) <|
 .op (some 16) (.agg [(.int .i64), .any, .bool, .bool, .bool, .bool, (.int .i64), (.int .i64), .any, .any, (.int .i64), .bool, (.int .i64)]) [15] (.load (some 13) (.tmp 15)) <|
 .op (some 6) .any [] (.alloc 165 [(V.int .i64 (Int.ofNat 0)), V.nils, (V.bool false), (V.bool false), (V.bool false), (V.bool false), (V.int .i64 (Int.ofNat 0)), (V.int .i64 (Int.ofNat 0)), V.nils, V.nils, (V.int .i64 (Int.ofNat 0)), (V.bool false), (V.int .i64 (Int.ofNat 0))]) <|
 .op none (.agg [(.int .i64), .any, .bool, .bool, .bool, .bool, (.int .i64), (.int .i64), .any, .any, (.int .i64), .bool, (.int .i64)]) [6, 16] (.store 13 (.tmp 6) (.tmp 16)) <|
 .nil))
 (.seq (.ops (.op (some 17) (.agg [(.int .i64), .any, .bool, .bool, .bool, .bool, (.int .i64), (.int .i64), .any, .any, (.int .i64), .bool, (.int .i64)]) [6] (.load (some 13) (.tmp 6)) <|
 .op (some 18) .any [5] (.faddr 1 (.tmp 5)) <|
 .op (some 19) (.int .i64) [18] (.load none (.tmp 18)) <|
 .op (some 20) (.int .i64) [17, 19] (.call 67 [(.tmp 17), (.tmp 19)]) <|
 .op (some 7) .any [20] (.mov (.tmp 20)) <|
 .nil))
 (.seq (.ops (.op (some 21) .any [5] (.faddr 0 (.tmp 5)) <|
 .op (some 22) (.int .i64) [21] (.load none (.tmp 21)) <|
 .op (some 23) .any [22] (.bin .eql .none (.tmp 22) (.con (V.int .i64 (Int.ofNat 12)))) <|
 .op (some 24) .any [23] (.mov (.tmp 23)) <|
 .grp 24 false (.op (some 25) .any [7, 24] (.mov (.tmp 7)) <|
 .op (some 26) .any [6, 24] (.faddr 10 (.tmp 6)) <|
 .op (some 27) (.int .i64) [26, 24] (.load none (.tmp 26)) <|
 .op (some 28) .any [25, 27, 24] (.bin .geq .none (.tmp 25) (.tmp 27)) <|
 .nil) 29 [24, 28] (.tmp 24) (.con (V.bool true)) (.tmp 28) <|
 .op (some 8) .any [29] (.mov (.tmp 29)) <|
 .nil))
 (.seq (.seq (.ops (.op (some 30) .any [6] (.faddr 11 (.tmp 6)) <|
 .op (some 31) .bool [30] (.load none (.tmp 30)) <|
 .nil))
 (.cond (.tmp 31) (.ops (.op (some 32) .any [0] (.mov (.tmp 0)) <|
 .op (some 33) .any [8] (.mov (.tmp 8)) <|
 .op (some 34) (.tup []) [32, 33] (.call 102 [(.tmp 32), (.tmp 33)]) <|
 .nil))
 .skip))
 (.keep [(0, .ptr), (1, (.int .i64)), (5, .ptr), (6, .ptr), (7, (.int .i64)), (8, .bool)] [] [] cc1))))))
def T104_0 (E : List (Nat × Blk)) (D : Den) (W : DrawFn) (K1 : Nat → Nat → Int → Nat → Nat → Nat → Nat → Int → Bool → H → Ans) (v0b : Nat) (v0o : Nat) (v1 : Int) (v2_0 : Int) (v2_1 : Int) (v2_2 : V) (v2_3 : V) (v2_4 : Int) (v2_5 : V) (σ : H) : Ans :=
 chk (allOne (V.cells (V.agg [(V.int .i64 v2_0), (V.int .i64 v2_1), v2_2, v2_3, (V.int .i64 v2_4), v2_5]))) (
 let s1 := newB σ (.cells (V.cells (V.agg [(V.int .i64 v2_0), (V.int .i64 v2_1), v2_2, v2_3, (V.int .i64 v2_4), v2_5])));
 ldK E s1 v0b (Nat.add (Nat.add v0o 1) 3) fun u2 =>
 iaddrSK 13 u2 v1 fun b3 o4 =>
 ldnK E s1 b3 o4 13 fun l5 =>
 rtCons l5 fun x6 l7 =>
 rtInt .i64 x6 fun x8 =>
 rtCons l7 fun x9 l10 =>
 rtCons l10 fun x11 l12 =>
 rtBool x11 fun x13 =>
 rtCons l12 fun x14 l15 =>
 rtBool x14 fun x16 =>
 rtCons l15 fun x17 l18 =>
 rtBool x17 fun x19 =>
 rtCons l18 fun x20 l21 =>
 rtBool x20 fun x22 =>
 rtCons l21 fun x23 l24 =>
 rtInt .i64 x23 fun x25 =>
 rtCons l24 fun x26 l27 =>
 rtInt .i64 x26 fun x28 =>
 rtCons l27 fun x29 l30 =>
 rtCons l30 fun x31 l32 =>
 rtCons l32 fun x33 l34 =>
 rtInt .i64 x33 fun x35 =>
 rtCons l34 fun x36 l37 =>
 rtBool x36 fun x38 =>
 rtCons l37 fun x39 l40 =>
 rtInt .i64 x39 fun x41 =>
 rtNil l40 (
 let s42 := newB s1 (.cells [(V.int .i64 (Int.ofNat 0)), V.nils, (V.bool false), (V.bool false), (V.bool false), (V.bool false), (V.int .i64 (Int.ofNat 0)), (V.int .i64 (Int.ofNat 0)), V.nils, V.nils, (V.int .i64 (Int.ofNat 0)), (V.bool false), (V.int .i64 (Int.ofNat 0))]);
 stK 13 (H.next s1) 0 (V.agg [(V.int .i64 x8), x9, (V.bool x13), (V.bool x16), (V.bool x19), (V.bool x22), (V.int .i64 x25), (V.int .i64 x28), x29, x31, (V.int .i64 x35), (V.bool x38), (V.int .i64 x41)]) s42 fun s43 =>
 ldnK E s43 (H.next s1) 0 13 fun l44 =>
 rtCons l44 fun x45 l46 =>
 rtInt .i64 x45 fun x47 =>
 rtCons l46 fun x48 l49 =>
 rtCons l49 fun x50 l51 =>
 rtBool x50 fun x52 =>
 rtCons l51 fun x53 l54 =>
 rtBool x53 fun x55 =>
 rtCons l54 fun x56 l57 =>
 rtBool x56 fun x58 =>
 rtCons l57 fun x59 l60 =>
 rtBool x59 fun x61 =>
 rtCons l60 fun x62 l63 =>
 rtInt .i64 x62 fun x64 =>
 rtCons l63 fun x65 l66 =>
 rtInt .i64 x65 fun x67 =>
 rtCons l66 fun x68 l69 =>
 rtCons l69 fun x70 l71 =>
 rtCons l71 fun x72 l73 =>
 rtInt .i64 x72 fun x74 =>
 rtCons l73 fun x75 l76 =>
 rtBool x75 fun x77 =>
 rtCons l76 fun x78 l79 =>
 rtInt .i64 x78 fun x80 =>
 rtNil l79 (
 ldK E s43 (H.next σ) 1 fun u81 =>
 rtInt .i64 u81 fun x82 =>
 callK (D 67 [(V.agg [(V.int .i64 x47), x48, (V.bool x52), (V.bool x55), (V.bool x58), (V.bool x61), (V.int .i64 x64), (V.int .i64 x67), x68, x70, (V.int .i64 x74), (V.bool x77), (V.int .i64 x80)]), (V.int .i64 x82)] s43) fun u83 s84 =>
 rtInt .i64 u83 fun x85 =>
 ldK E s84 (H.next σ) 0 fun u86 =>
 rtInt .i64 u86 fun x87 =>
 joinB (fun c88 s89 =>
 ldK E s89 (H.next s1) 11 fun u91 =>
 rtBool u91 fun x92 =>
 condK x92 (
 callK (D 102 [(V.ptr v0b v0o), (V.bool c88)] s89) fun u93 s94 =>
 rtTup u93 fun l95 =>
 rtNil l95 (
 K1 v0b v0o v1 (H.next σ) 0 (H.next s1) 0 x85 c88 s94)) (
 K1 v0b v0o v1 (H.next σ) 0 (H.next s1) 0 x85 c88 s89)) fun k90 =>
 condK (eqF x87 (Int.ofNat 12)) (
 k90 true s84) (
 ldK E s84 (H.next s1) 10 fun u96 =>
 rtInt .i64 u96 fun x97 =>
 k90 (leF x97 x85) s84))))
def C104_1 : XC := (.block 0 (.seq (.ops (.op (some 54) .any [5] (.faddr 0 (.tmp 5)) <|
 .op (some 55) (.int .i64) [54] (.load none (.tmp 54)) <|
 .op (some 56) .any [55] (.bin .eql .none (.tmp 55) (.con (V.int .i64 (Int.ofNat 12)))) <|
 .op (some 53) .any [56] (.mov (.tmp 56)) <|
 .nil))
 (.cond (.tmp 53) (.draw (.op (some 57) .any [0] (.mov (.tmp 0)) <|
 .op (some 58) .any [57] (.nilck (.tmp 57)) <|
 .op (some 59) .any [58] (.faddr 0 (.tmp 58)) <|
 .op (some 60) .any [59] (.load none (.tmp 59)) <|
 .op (some 61) .any [5] (.faddr 1 (.tmp 5)) <|
 .op (some 62) (.int .i64) [61] (.load none (.tmp 61)) <|
 .op (some 63) (.tup []) [60, 62] (.call 169 [(.tmp 60), (.tmp 62)]) <|
 .nil) [0, 1, 3, 7, 0, 16, 63])
 (.seq (.ops (.op (some 65) .any [8] (.mov (.tmp 8)) <|
 .op (some 64) .any [65] (.mov (.tmp 65)) <|
 .nil))
 (.cond (.tmp 64) (.draw (.op (some 66) .any [0] (.mov (.tmp 0)) <|
 .op (some 67) .any [66] (.nilck (.tmp 66)) <|
 .op (some 68) .any [67] (.faddr 0 (.tmp 67)) <|
 .op (some 69) .any [68] (.load none (.tmp 68)) <|
 .op (some 70) .any [7] (.mov (.tmp 7)) <|
 .op (some 71) .any [6] (.faddr 10 (.tmp 6)) <|
 .op (some 72) (.int .i64) [71] (.load none (.tmp 71)) <|
 .op (some 73) .any [70, 72] (.bin .sub .none (.tmp 70) (.tmp 72)) <|
 .op (some 74) (.tup []) [69, 73] (.call 169 [(.tmp 69), (.tmp 73)]) <|
 .nil) [0, 1, 3, 7, 0, 0, 32, 112, 255])
 (.keep [(0, .ptr), (1, (.int .i64)), (6, .ptr), (7, (.int .i64))] [] [] (.gdraw G104_0 H104_0 [])))))))
def T104_1 (E : List (Nat × Blk)) (D : Den) (W : DrawFn) (v0b : Nat) (v0o : Nat) (v1 : Int) (v5b : Nat) (v5o : Nat) (v6b : Nat) (v6o : Nat) (v7 : Int) (v8 : Bool) (σ : H) : Ans :=
 ldK E σ v5b v5o fun u1 =>
 rtInt .i64 u1 fun x2 =>
 condK (eqF x2 (Int.ofNat 12)) (
 ldK E σ v0b v0o fun u3 =>
 ldK E σ v5b (Nat.add v5o 1) fun u4 =>
 rtInt .i64 u4 fun x5 =>
 callK (D 169 [u3, (V.int .i64 x5)] σ) fun u6 s7 =>
 rtTup u6 fun l8 =>
 rtNil l8 (
 some ((V.tup []), s7))) (
 condK v8 (
 ldK E σ v0b v0o fun u9 =>
 ldK E σ v6b (Nat.add v6o 10) fun u10 =>
 rtInt .i64 u10 fun x11 =>
 callK (D 169 [u9, (V.int .i64 (subF .i64 v7 x11))] σ) fun u12 s13 =>
 rtTup u12 fun l14 =>
 rtNil l14 (
 some ((V.tup []), s13))) (
 gdrawK (W G104_0 H104_0 [(0, (V.ptr v0b v0o)), (1, (V.int .i64 v1)), (6, (V.ptr v6b v6o)), (7, (V.int .i64 v7))] σ) fun e15 s16 =>
 some ((V.tup []), s16)))
theorem P104_0 (E : List (Nat × Blk)) (D : Den) (W : DrawFn) (N : Nat) (cc1 : XC) (v0b : Nat) (v0o : Nat) (v1 : Int) (v2_0 : Int) (v2_1 : Int) (v2_2 : V) (v2_3 : V) (v2_4 : Int) (v2_5 : V) (σ : H) :
  denC E D W N (C104_0 cc1) ⟨[(0, (V.ptr v0b v0o)), (1, (V.int .i64 v1)), (2, (V.agg [(V.int .i64 v2_0), (V.int .i64 v2_1), v2_2, v2_3, (V.int .i64 v2_4), v2_5]))], [], [], σ⟩ (Fin104 E) (fun _ _ => none) (Fin104 E) =
  T104_0 E D W (fun v0b v0o v1 v5b v5o v6b v6o v7 v8 σ => denC E D W N cc1 ⟨[(0, (V.ptr v0b v0o)), (1, (V.int .i64 v1)), (5, (V.ptr v5b v5o)), (6, (V.ptr v6b v6o)), (7, (V.int .i64 v7)), (8, (V.bool v8))], [], [], σ⟩ (Fin104 E) (fun _ _ => none) (Fin104 E)) v0b v0o v1 v2_0 v2_1 v2_2 v2_3 v2_4 v2_5 σ := by kernel_rfl
theorem P104_1 (E : List (Nat × Blk)) (D : Den) (W : DrawFn) (N : Nat) (v0b : Nat) (v0o : Nat) (v1 : Int) (v5b : Nat) (v5o : Nat) (v6b : Nat) (v6o : Nat) (v7 : Int) (v8 : Bool) (σ : H) :
  denC E D W N (C104_1 ) ⟨[(0, (V.ptr v0b v0o)), (1, (V.int .i64 v1)), (5, (V.ptr v5b v5o)), (6, (V.ptr v6b v6o)), (7, (V.int .i64 v7)), (8, (V.bool v8))], [], [], σ⟩ (Fin104 E) (fun _ _ => none) (Fin104 E) =
  T104_1 E D W  v0b v0o v1 v5b v5o v6b v6o v7 v8 σ := by kernel_rfl
def J104_1 (E : List (Nat × Blk)) (D : Den) (W : DrawFn) (N : Nat) : Nat → Nat → Int → Nat → Nat → Nat → Nat → Int → Bool → H → Ans := T104_1 E D W 
theorem JE104_1 (E : List (Nat × Blk)) (D : Den) (W : DrawFn) (N : Nat) (v0b : Nat) (v0o : Nat) (v1 : Int) (v5b : Nat) (v5o : Nat) (v6b : Nat) (v6o : Nat) (v7 : Int) (v8 : Bool) (σ : H) :
  denC E D W N C104_1 ⟨[(0, (V.ptr v0b v0o)), (1, (V.int .i64 v1)), (5, (V.ptr v5b v5o)), (6, (V.ptr v6b v6o)), (7, (V.int .i64 v7)), (8, (V.bool v8))], [], [], σ⟩ (Fin104 E) (fun _ _ => none) (Fin104 E) = J104_1 E D W N v0b v0o v1 v5b v5o v6b v6o v7 v8 σ := by
  refine (P104_1 E D W N   v0b v0o v1 v5b v5o v6b v6o v7 v8 σ).trans ?_
  kernel_rfl
def J104_0 (E : List (Nat × Blk)) (D : Den) (W : DrawFn) (N : Nat) : Nat → Nat → Int → Int → Int → V → V → Int → V → H → Ans := T104_0 E D W (J104_1 E D W N )
theorem JE104_0 (E : List (Nat × Blk)) (D : Den) (W : DrawFn) (N : Nat) (v0b : Nat) (v0o : Nat) (v1 : Int) (v2_0 : Int) (v2_1 : Int) (v2_2 : V) (v2_3 : V) (v2_4 : Int) (v2_5 : V) (σ : H) :
  denC E D W N (C104_0 C104_1) ⟨[(0, (V.ptr v0b v0o)), (1, (V.int .i64 v1)), (2, (V.agg [(V.int .i64 v2_0), (V.int .i64 v2_1), v2_2, v2_3, (V.int .i64 v2_4), v2_5]))], [], [], σ⟩ (Fin104 E) (fun _ _ => none) (Fin104 E) = J104_0 E D W N v0b v0o v1 v2_0 v2_1 v2_2 v2_3 v2_4 v2_5 σ := by
  refine (P104_0 E D W N C104_1  v0b v0o v1 v2_0 v2_1 v2_2 v2_3 v2_4 v2_5 σ).trans ?_
  simp only [JE104_1]
  kernel_rfl
def F104 (E : List (Nat × Blk)) (D : Den) (W : DrawFn) (N : Nat) (args : List V) (σ : H) : Ans :=
 rtCons args fun x1 l2 =>
 rtPtr x1 fun b3 o4 =>
 rtCons l2 fun x5 l6 =>
 rtInt .i64 x5 fun x7 =>
 rtCons l6 fun x8 l9 =>
 rtAgg x8 fun l10 =>
 rtCons l10 fun x11 l12 =>
 rtInt .i64 x11 fun x13 =>
 rtCons l12 fun x14 l15 =>
 rtInt .i64 x14 fun x16 =>
 rtCons l15 fun x17 l18 =>
 rtCons l18 fun x19 l20 =>
 rtCons l20 fun x21 l22 =>
 rtInt .i64 x21 fun x23 =>
 rtCons l22 fun x24 l25 =>
 rtNil l25 (
 rtNil l9 (
 J104_0 E D W N b3 o4 x7 x13 x16 x17 x19 x23 x24 σ))
def A104 : XFn := ⟨75, [.ptr, (.int .i64), (.agg [(.int .i64), (.int .i64), .any, .any, (.int .i64), .any])], [], (C104_0 C104_1)⟩
theorem FE104 (E : List (Nat × Blk)) (D : Den) (W : DrawFn) (N : Nat) (args : List V) (σ : H) : runX E D W N A104 args σ = F104 E D W N args σ := by
  unfold F104
  simp only [← JE104_0]
  kernel_rfl
theorem AO104 : A104.body.ok = true := by kernel_rfl

def C116_0 : XC := (.seq (.ops (.op (some 2) .any [] (.mov (.con (V.int .i64 (Int.ofNat 0)))) <|
 .nil))
 (.seq (.seq (.ops (.op (some 3) .any [0] (.mov (.tmp 0)) <|
 .op (some 4) .any [3] (.bin .eql .ptr (.tmp 3) (.con V.nilp)) <|
 .nil))
 (.cond (.tmp 4) (.seq (.ops (.op (some 2) .any [] (.mov (.con (V.int .i64 (Int.ofNat 0)))) <|
 .nil))
 .ret)
 .skip))
 (.seq (.ops (.op (some 5) .any [0] (.mov (.tmp 0)) <|
 .op (some 6) .any [5] (.nilck (.tmp 5)) <|
 .op (some 7) .any [6] (.faddr 0 (.tmp 6)) <|
 .op (some 8) (.int .i64) [7] (.call 185 [(.tmp 7)]) <|
 .op (some 2) .any [8] (.mov (.tmp 8)) <|
 .nil))
 .ret)))
def A116 : XFn := ⟨9, [.any], [(.tmp 2)], C116_0⟩
def C117_0 : XC := (.seq (.ops (.op (some 2) .any [] (.mov (.con V.nils)) <|
 .nil))
 (.seq (.seq (.ops (.op (some 3) .any [0] (.mov (.tmp 0)) <|
 .op (some 4) .any [3] (.bin .eql .ptr (.tmp 3) (.con V.nilp)) <|
 .nil))
 (.cond (.tmp 4) (.seq (.ops (.op (some 2) .any [] (.mov (.con V.nils)) <|
 .nil))
 .ret)
 .skip))
 (.seq (.ops (.op (some 5) .any [0] (.mov (.tmp 0)) <|
 .op (some 6) .any [5] (.nilck (.tmp 5)) <|
 .op (some 7) .any [6] (.faddr 0 (.tmp 6)) <|
 .op (some 8) .any [7] (.load none (.tmp 7)) <|
 .op (some 9) .one [8] (.append 5 1 1 (.con V.nils) (.tmp 8)) <|
 .op (some 2) .any [9] (.mov (.tmp 9)) <|
 .nil))
 .ret)))
def A117 : XFn := ⟨10, [.any], [(.tmp 2)], C117_0⟩
/-! ### F118: ogham_uper.Made_1 -/
def Fin118 (E : List (Nat × Blk)) : St → Ans := fun s => resK E s [(.tmp 2)] fun l => some (oneV l, s.σ)
def C118_0 : XC := (.seq (.ops (.op (some 1) .any [0] (.box 165 (.tmp 0)) <|
 .op (some 2) .any [] (.mov (.con (V.bool false))) <|
 .nil))
 (.seq (.ops (.op (some 3) .any [1] (.faddr 0 (.tmp 1)) <|
 .op (some 4) (.int .i64) [3] (.load none (.tmp 3)) <|
 .op (some 5) .any [4] (.bin .eql .none (.tmp 4) (.con (V.int .i64 (Int.ofNat 3)))) <|
 .op (some 6) .any [5] (.mov (.tmp 5)) <|
 .grp 6 true (.op (some 7) .any [1, 6] (.faddr 10 (.tmp 1)) <|
 .op (some 8) (.int .i64) [7, 6] (.load none (.tmp 7)) <|
 .op (some 9) .any [8, 6] (.bin .eql .none (.tmp 8) (.con (V.int .i64 (Int.ofNat 0)))) <|
 .nil) 10 [6, 9] (.tmp 6) (.tmp 9) (.con (V.bool false)) <|
 .op (some 2) .any [10] (.mov (.tmp 10)) <|
 .nil))
 .ret))
def T118_0 (E : List (Nat × Blk)) (D : Den) (W : DrawFn) (v0_0 : Int) (v0_1 : V) (v0_2 : Bool) (v0_3 : Bool) (v0_4 : Bool) (v0_5 : Bool) (v0_6 : Int) (v0_7 : Int) (v0_8 : V) (v0_9 : V) (v0_10 : Int) (v0_11 : Bool) (v0_12 : Int) (σ : H) : Ans :=
 chk (allOne (V.cells (V.agg [(V.int .i64 v0_0), v0_1, (V.bool v0_2), (V.bool v0_3), (V.bool v0_4), (V.bool v0_5), (V.int .i64 v0_6), (V.int .i64 v0_7), v0_8, v0_9, (V.int .i64 v0_10), (V.bool v0_11), (V.int .i64 v0_12)]))) (
 let s1 := newB σ (.cells (V.cells (V.agg [(V.int .i64 v0_0), v0_1, (V.bool v0_2), (V.bool v0_3), (V.bool v0_4), (V.bool v0_5), (V.int .i64 v0_6), (V.int .i64 v0_7), v0_8, v0_9, (V.int .i64 v0_10), (V.bool v0_11), (V.int .i64 v0_12)])));
 ldK E s1 (H.next σ) 0 fun u2 =>
 rtInt .i64 u2 fun x3 =>
 joinB (fun c4 s5 =>
 some ((V.bool c4), s5)) fun k6 =>
 condK (eqF x3 (Int.ofNat 3)) (
 ldK E s1 (H.next σ) 10 fun u7 =>
 rtInt .i64 u7 fun x8 =>
 k6 (eqF x8 (Int.ofNat 0)) s1) (
 k6 false s1))
theorem P118_0 (E : List (Nat × Blk)) (D : Den) (W : DrawFn) (N : Nat) (v0_0 : Int) (v0_1 : V) (v0_2 : Bool) (v0_3 : Bool) (v0_4 : Bool) (v0_5 : Bool) (v0_6 : Int) (v0_7 : Int) (v0_8 : V) (v0_9 : V) (v0_10 : Int) (v0_11 : Bool) (v0_12 : Int) (σ : H) :
  denC E D W N (C118_0 ) ⟨[(0, (V.agg [(V.int .i64 v0_0), v0_1, (V.bool v0_2), (V.bool v0_3), (V.bool v0_4), (V.bool v0_5), (V.int .i64 v0_6), (V.int .i64 v0_7), v0_8, v0_9, (V.int .i64 v0_10), (V.bool v0_11), (V.int .i64 v0_12)]))], [], [], σ⟩ (Fin118 E) (fun _ _ => none) (Fin118 E) =
  T118_0 E D W  v0_0 v0_1 v0_2 v0_3 v0_4 v0_5 v0_6 v0_7 v0_8 v0_9 v0_10 v0_11 v0_12 σ := by kernel_rfl
def J118_0 (E : List (Nat × Blk)) (D : Den) (W : DrawFn) (N : Nat) : Int → V → Bool → Bool → Bool → Bool → Int → Int → V → V → Int → Bool → Int → H → Ans := T118_0 E D W 
theorem JE118_0 (E : List (Nat × Blk)) (D : Den) (W : DrawFn) (N : Nat) (v0_0 : Int) (v0_1 : V) (v0_2 : Bool) (v0_3 : Bool) (v0_4 : Bool) (v0_5 : Bool) (v0_6 : Int) (v0_7 : Int) (v0_8 : V) (v0_9 : V) (v0_10 : Int) (v0_11 : Bool) (v0_12 : Int) (σ : H) :
  denC E D W N C118_0 ⟨[(0, (V.agg [(V.int .i64 v0_0), v0_1, (V.bool v0_2), (V.bool v0_3), (V.bool v0_4), (V.bool v0_5), (V.int .i64 v0_6), (V.int .i64 v0_7), v0_8, v0_9, (V.int .i64 v0_10), (V.bool v0_11), (V.int .i64 v0_12)]))], [], [], σ⟩ (Fin118 E) (fun _ _ => none) (Fin118 E) = J118_0 E D W N v0_0 v0_1 v0_2 v0_3 v0_4 v0_5 v0_6 v0_7 v0_8 v0_9 v0_10 v0_11 v0_12 σ := by
  refine (P118_0 E D W N   v0_0 v0_1 v0_2 v0_3 v0_4 v0_5 v0_6 v0_7 v0_8 v0_9 v0_10 v0_11 v0_12 σ).trans ?_
  kernel_rfl
def F118 (E : List (Nat × Blk)) (D : Den) (W : DrawFn) (N : Nat) (args : List V) (σ : H) : Ans :=
 rtCons args fun x1 l2 =>
 rtAgg x1 fun l3 =>
 rtCons l3 fun x4 l5 =>
 rtInt .i64 x4 fun x6 =>
 rtCons l5 fun x7 l8 =>
 rtCons l8 fun x9 l10 =>
 rtBool x9 fun x11 =>
 rtCons l10 fun x12 l13 =>
 rtBool x12 fun x14 =>
 rtCons l13 fun x15 l16 =>
 rtBool x15 fun x17 =>
 rtCons l16 fun x18 l19 =>
 rtBool x18 fun x20 =>
 rtCons l19 fun x21 l22 =>
 rtInt .i64 x21 fun x23 =>
 rtCons l22 fun x24 l25 =>
 rtInt .i64 x24 fun x26 =>
 rtCons l25 fun x27 l28 =>
 rtCons l28 fun x29 l30 =>
 rtCons l30 fun x31 l32 =>
 rtInt .i64 x31 fun x33 =>
 rtCons l32 fun x34 l35 =>
 rtBool x34 fun x36 =>
 rtCons l35 fun x37 l38 =>
 rtInt .i64 x37 fun x39 =>
 rtNil l38 (
 rtNil l2 (
 J118_0 E D W N x6 x7 x11 x14 x17 x20 x23 x26 x27 x29 x33 x36 x39 σ))
def A118 : XFn := ⟨11, [(.agg [(.int .i64), .any, .bool, .bool, .bool, .bool, (.int .i64), (.int .i64), .any, .any, (.int .i64), .bool, (.int .i64)])], [(.tmp 2)], C118_0⟩
theorem FE118 (E : List (Nat × Blk)) (D : Den) (W : DrawFn) (N : Nat) (args : List V) (σ : H) : runX E D W N A118 args σ = F118 E D W N args σ := by
  unfold F118
  simp only [← JE118_0]
  kernel_rfl
theorem AO118 : A118.body.ok = true := by kernel_rfl

def C119_0 : XC := (.seq (.ops (.op (some 2) .any [] (.mov (.con V.nilp)) <|
 .nil))
 (.seq (.ops (.op (some 3) .any [0] (.mov (.tmp 0)) <|
 .op (some 4) .one [3] (.append 5 1 1 (.con V.nils) (.tmp 3)) <|
 .op (some 5) (.agg [.any, (.int .i64)]) [4] (.build [V.nils, (V.int .i64 (Int.ofNat 0))] [(0, 1, (.tmp 4))]) <|
 .op (some 6) (.agg [.any, (.int .i64), (.int .i64)]) [5] (.build [V.nils, (V.int .i64 (Int.ofNat 0)), (V.int .i64 (Int.ofNat 0))] [(0, 2, (.tmp 5))]) <|
 .op (some 7) .any [6] (.box 272 (.tmp 6)) <|
 .op (some 2) .any [7] (.mov (.tmp 7)) <|
 .nil))
 .ret))
def A119 : XFn := ⟨8, [.any], [(.tmp 2)], C119_0⟩
def C120_0 : XC := (.seq (.ops (.op (some 4) .any [1] (.mov (.tmp 1)) <|
 .nil))
 (.cond (.tmp 4) (.ops (.op (some 5) .any [0] (.mov (.tmp 0)) <|
 .op (some 6) .any [5] (.nilck (.tmp 5)) <|
 .op (some 7) .any [6] (.faddr 0 (.tmp 6)) <|
 .op (some 8) .any [7] (.load none (.tmp 7)) <|
 .op (some 9) (.tup []) [8] (.call 186 [(.tmp 8), (.con (V.int .i64 (Int.ofNat 4)))]) <|
 .nil))
 .skip))
def A120 : XFn := ⟨10, [.ptr, .bool], [], C120_0⟩
def C121_0 : XC := (.seq (.ops (.op (some 4) .any [] (.mov (.con (V.bool false))) <|
 .nil))
 (.seq (.ops (.op (some 5) .any [0] (.mov (.tmp 0)) <|
 .op (some 6) .any [5] (.nilck (.tmp 5)) <|
 .op (some 7) .any [6] (.faddr 0 (.tmp 6)) <|
 .op (some 8) (.int .i64) [7] (.load none (.tmp 7)) <|
 .op (some 9) .any [1] (.mov (.tmp 1)) <|
 .op (some 10) .any [8, 9] (.bin .add .none (.tmp 8) (.tmp 9)) <|
 .op (some 11) .any [5] (.nilck (.tmp 5)) <|
 .op (some 12) .any [11] (.faddr 0 (.tmp 11)) <|
 .op none .any [12, 10] (.store 1 (.tmp 12) (.tmp 10)) <|
 .nil))
 (.seq (.ops (.op (some 13) .any [0] (.mov (.tmp 0)) <|
 .op (some 14) .any [13] (.nilck (.tmp 13)) <|
 .op (some 15) .any [14] (.faddr 0 (.tmp 14)) <|
 .op (some 16) (.int .i64) [15] (.load none (.tmp 15)) <|
 .op (some 17) .any [16] (.bin .leq .none (.tmp 16) (.con (V.int .i64 (Int.ofNat 5000)))) <|
 .op (some 4) .any [17] (.mov (.tmp 17)) <|
 .nil))
 .ret)))
def A121 : XFn := ⟨18, [.ptr, (.int .i64)], [(.tmp 4)], C121_0⟩
def C122_0 : XC := (.seq (.ops (.op (some 2) .any [] (.mov (.con (V.bool false))) <|
 .nil))
 (.seq (.ops (.op (some 3) .any [0] (.mov (.tmp 0)) <|
 .op (some 4) .any [3] (.nilck (.tmp 3)) <|
 .op (some 5) .any [4] (.faddr 0 (.tmp 4)) <|
 .op (some 6) .any [5] (.load none (.tmp 5)) <|
 .op (some 7) (.int .i64) [6] (.call 134 [(.tmp 6)]) <|
 .op (some 8) .any [7] (.bin .eql .none (.tmp 7) (.con (V.int .i64 (Int.ofNat 0)))) <|
 .op (some 2) .any [8] (.mov (.tmp 8)) <|
 .nil))
 .ret))
def A122 : XFn := ⟨9, [.ptr], [(.tmp 2)], C122_0⟩
/-! ### F123: __ogham_whole.Reader_.Bits -/
def Fin123 (E : List (Nat × Blk)) : St → Ans := fun s => resK E s [(.tmp 4)] fun l => some (oneV l, s.σ)
def C123_0 : XC := (.seq (.ops (.op (some 4) .any [] (.mov (.con (V.int .u64 (Int.ofNat 0)))) <|
 .nil))
 (.seq (.ops (.op (some 6) .any [1] (.mov (.tmp 1)) <|
 .op (some 7) (.int .i64) [6] (.call 187 [(.tmp 6)]) <|
 .op (some 1) .any [7] (.mov (.tmp 7)) <|
 .nil))
 (.seq (.seq (.ops (.op (some 8) .any [0] (.mov (.tmp 0)) <|
 .op (some 9) (.int .i64) [8] (.call 134 [(.tmp 8)]) <|
 .op (some 10) .any [9] (.bin .neq .none (.tmp 9) (.con (V.int .i64 (Int.ofNat 0)))) <|
 .nil))
 (.cond (.tmp 10) (.seq (.ops (.op (some 4) .any [] (.mov (.con (V.int .u64 (Int.ofNat 0)))) <|
 .nil))
 .ret)
 .skip))
 (.seq (.seq (.ops (.op (some 11) .any [1] (.mov (.tmp 1)) <|
 .op (some 12) .any [0] (.mov (.tmp 0)) <|
 .op (some 13) (.int .i64) [12] (.call 135 [(.tmp 12)]) <|
 .op (some 14) .any [11, 13] (.bin .gtr .none (.tmp 11) (.tmp 13)) <|
 .nil))
 (.cond (.tmp 14) (.seq (.ops (.op (some 15) .any [0] (.mov (.tmp 0)) <|
 .op (some 16) (.tup []) [15] (.call 186 [(.tmp 15), (.con (V.int .i64 (Int.ofNat 3)))]) <|
 .nil))
 (.seq (.ops (.op (some 4) .any [] (.mov (.con (V.int .u64 (Int.ofNat 0)))) <|
 .nil))
 .ret))
 .skip))
 (.seq (.ops (.op (some 17) .any [0] (.mov (.tmp 0)) <|
 .op (some 18) .any [17] (.nilck (.tmp 17)) <|
 .op (some 19) .any [18] (.faddr 0 (.tmp 18)) <|
 .op (some 20) .any [19] (.load none (.tmp 19)) <|
 .op (some 21) .any [1] (.mov (.tmp 1)) <|
 .op (some 22) .any [21] (.bin .sub .none (.tmp 21) (.con (V.int .i64 (Int.ofNat 32)))) <|
 .op (some 23) (.int .u32) [20, 22] (.call 188 [(.tmp 20), (.tmp 22)]) <|
 .op (some 24) .any [23] (.conv (.toInt .u64) (.tmp 23)) <|
 .op (some 5) .any [24] (.mov (.tmp 24)) <|
 .nil))
 (.seq (.draw (.op (some 25) .any [5] (.mov (.tmp 5)) <|
 .op (some 26) .any [1] (.mov (.tmp 1)) <|
 .op (some 27) .any [26] (.min (.tmp 26) [(.con (V.int .i64 (Int.ofNat 32)))]) <|
 .op (some 28) .any [25, 27] (.bin .shl .none (.tmp 25) (.tmp 27)) <|
 .op (some 29) .any [0] (.mov (.tmp 0)) <|
 .op (some 30) .any [29] (.nilck (.tmp 29)) <|
 .op (some 31) .any [30] (.faddr 0 (.tmp 30)) <|
 .op (some 32) .any [31] (.load none (.tmp 31)) <|
 .op (some 33) .any [1] (.mov (.tmp 1)) <|
 .op (some 34) .any [33] (.min (.tmp 33) [(.con (V.int .i64 (Int.ofNat 32)))]) <|
 .op (some 35) (.int .u32) [32, 34] (.call 188 [(.tmp 32), (.tmp 34)]) <|
 .op (some 36) .any [35] (.conv (.toInt .u64) (.tmp 35)) <|
 .op (some 37) .any [28, 36] (.bin .or .none (.tmp 28) (.tmp 36)) <|
 .op (some 4) .any [37] (.mov (.tmp 37)) <|
 .nil) [0, 0, 2, 7, 0, 16, 48, 112, 0, 256, 1008, 2032, 4095, 8191])
 .ret))))))
def T123_0 (E : List (Nat × Blk)) (D : Den) (W : DrawFn) (v0b : Nat) (v0o : Nat) (v1 : Int) (σ : H) : Ans :=
 callK (D 187 [(V.int .i64 v1)] σ) fun u1 s2 =>
 rtInt .i64 u1 fun x3 =>
 callK (D 134 [(V.ptr v0b v0o)] s2) fun u4 s5 =>
 rtInt .i64 u4 fun x6 =>
 condK (not (eqF x6 (Int.ofNat 0))) (
 some ((V.int .u64 (Int.ofNat 0)), s5)) (
 callK (D 135 [(V.ptr v0b v0o)] s5) fun u7 s8 =>
 rtInt .i64 u7 fun x9 =>
 condK (ltF x9 x3) (
 callK (D 186 [(V.ptr v0b v0o), (V.int .i64 (Int.ofNat 3))] s8) fun u10 s11 =>
 rtTup u10 fun l12 =>
 rtNil l12 (
 some ((V.int .u64 (Int.ofNat 0)), s11))) (
 ldK E s8 v0b v0o fun u13 =>
 callK (D 188 [u13, (V.int .i64 (subF .i64 x3 (Int.ofNat 32)))] s8) fun u14 s15 =>
 rtInt .u32 u14 fun x16 =>
 nnK (minF x3 (Int.ofNat 32)) fun n17 =>
 ldK E s15 v0b v0o fun u18 =>
 callK (D 188 [u18, (V.int .i64 (minF x3 (Int.ofNat 32)))] s15) fun u19 s20 =>
 rtInt .u32 u19 fun x21 =>
 some ((V.int .u64 (orF .u64 (shlF .u64 (wrapF .u64 x16) n17) (wrapF .u64 x21))), s20)))
theorem P123_0 (E : List (Nat × Blk)) (D : Den) (W : DrawFn) (N : Nat) (v0b : Nat) (v0o : Nat) (v1 : Int) (σ : H) :
  denC E D W N (C123_0 ) ⟨[(0, (V.ptr v0b v0o)), (1, (V.int .i64 v1))], [], [], σ⟩ (Fin123 E) (fun _ _ => none) (Fin123 E) =
  T123_0 E D W  v0b v0o v1 σ := by kernel_rfl
def J123_0 (E : List (Nat × Blk)) (D : Den) (W : DrawFn) (N : Nat) : Nat → Nat → Int → H → Ans := T123_0 E D W 
theorem JE123_0 (E : List (Nat × Blk)) (D : Den) (W : DrawFn) (N : Nat) (v0b : Nat) (v0o : Nat) (v1 : Int) (σ : H) :
  denC E D W N C123_0 ⟨[(0, (V.ptr v0b v0o)), (1, (V.int .i64 v1))], [], [], σ⟩ (Fin123 E) (fun _ _ => none) (Fin123 E) = J123_0 E D W N v0b v0o v1 σ := by
  refine (P123_0 E D W N   v0b v0o v1 σ).trans ?_
  kernel_rfl
def F123 (E : List (Nat × Blk)) (D : Den) (W : DrawFn) (N : Nat) (args : List V) (σ : H) : Ans :=
 rtCons args fun x1 l2 =>
 rtPtr x1 fun b3 o4 =>
 rtCons l2 fun x5 l6 =>
 rtInt .i64 x5 fun x7 =>
 rtNil l6 (
 J123_0 E D W N b3 o4 x7 σ)
def A123 : XFn := ⟨38, [.ptr, (.int .i64)], [(.tmp 4)], C123_0⟩
theorem FE123 (E : List (Nat × Blk)) (D : Den) (W : DrawFn) (N : Nat) (args : List V) (σ : H) : runX E D W N A123 args σ = F123 E D W N args σ := by
  unfold F123
  simp only [← JE123_0]
  kernel_rfl
theorem AO123 : A123.body.ok = true := by kernel_rfl

def G125_0 : List AOper := [⟨(some 47), .mov (.tmp 0), none⟩, ⟨(some 48), .nilck (.tmp 47), none⟩, ⟨(some 49), .faddr 1 (.tmp 48), none⟩, ⟨(some 50), .load (some 4) (.tmp 49), none⟩, ⟨(some 51), .mov (.tmp 1), none⟩, ⟨(some 52), .call 171 [(.tmp 50), (.tmp 51)], none⟩, ⟨(some 53), .mov (.tmp 0), none⟩, ⟨(some 54), .nilck (.tmp 53), none⟩, ⟨(some 55), .faddr 0 (.tmp 54), none⟩, ⟨(some 56), .load none (.tmp 55), none⟩, ⟨(some 57), .faddr 10 (.tmp 5), none⟩, ⟨(some 58), .load none (.tmp 57), none⟩, ⟨(some 59), .bin .sub .none (.tmp 58) (.con (V.int .i64 (Int.ofNat 1))), none⟩, ⟨(some 60), .conv (.toInt .u64) (.tmp 59), none⟩, ⟨(some 61), .call 190 [(.tmp 56), (.tmp 60)], none⟩, ⟨(some 62), .iaddrS 1 (.tmp 52) (.tmp 61), none⟩, ⟨(some 63), .load none (.tmp 62), none⟩, ⟨(some 7), .mov (.tmp 63), none⟩]
def H125_0 : List DP := [⟨0, [0]⟩, ⟨1, [47]⟩, ⟨3, [48]⟩, ⟨7, [49]⟩, ⟨0, [1]⟩, ⟨31, [50, 51]⟩, ⟨0, [0]⟩, ⟨64, [53]⟩, ⟨192, [54]⟩, ⟨448, [55]⟩, ⟨0, [5]⟩, ⟨1024, [57]⟩, ⟨3072, [58]⟩, ⟨7168, [59]⟩, ⟨16383, [56, 60]⟩, ⟨32767, [52, 61]⟩, ⟨65535, [62]⟩, ⟨131071, [63]⟩]
def C125_0 : XC := (.seq (.ops (.op (some 4) .any [] (.alloc 35 [(V.int .i64 (Int.ofNat 0)), (V.int .i64 (Int.ofNat 0)), V.nils, V.nils, (V.int .i64 (Int.ofNat 0)), V.nils]) <|
 .nil))
 (.seq (.ops (.op (some 8) .any [0] (.mov (.tmp 0)) <|
 .op (some 9) .any [8] (.nilck (.tmp 8)) <|
 .op (some 10) .any [9] (.faddr 1 (.tmp 9)) <|
 .op (some 11) .any [10] (.faddr 3 (.tmp 10)) <|
 .op (some 12) .any [11] (.load none (.tmp 11)) <|
 .op (some 13) .any [1] (.mov (.tmp 1)) <|
 .op (some 14) .any [12, 13] (.iaddrS 13 (.tmp 12) (.tmp 13)) <|
 .op (some 15) (.agg [(.int .i64), .any, .bool, .bool, .bool, .bool, (.int .i64), (.int .i64), .any, .any, (.int .i64), .bool, (.int .i64)]) [14] (.load (some 13) (.tmp 14)) <|
 .op (some 5) .any [] (.alloc 165 [(V.int .i64 (Int.ofNat 0)), V.nils, (V.bool false), (V.bool false), (V.bool false), (V.bool false), (V.int .i64 (Int.ofNat 0)), (V.int .i64 (Int.ofNat 0)), V.nils, V.nils, (V.int .i64 (Int.ofNat 0)), (V.bool false), (V.int .i64 (Int.ofNat 0))]) <|
 .op none (.agg [(.int .i64), .any, .bool, .bool, .bool, .bool, (.int .i64), (.int .i64), .any, .any, (.int .i64), .bool, (.int .i64)]) [5, 15] (.store 13 (.tmp 5) (.tmp 15)) <|
 .nil))
 (.seq (.seq (.ops (.op (some 16) .any [5] (.faddr 11 (.tmp 5)) <|
 .op (some 17) .bool [16] (.load none (.tmp 16)) <|
 .op (some 18) .any [17] (.mov (.tmp 17)) <|
 .grp 18 true (.op (some 19) .any [0, 18] (.mov (.tmp 0)) <|
 .op (some 20) .bool [19, 18] (.call 189 [(.tmp 19)]) <|
 .nil) 21 [18, 20] (.tmp 18) (.tmp 20) (.con (V.bool false)) <|
 .nil))
 (.cond (.tmp 21) (.seq (.ops (.op (some 22) .any [0] (.mov (.tmp 0)) <|
 .op (some 23) .any [22] (.nilck (.tmp 22)) <|
 .op (some 24) .any [23] (.faddr 0 (.tmp 23)) <|
 .op (some 25) .any [24] (.load none (.tmp 24)) <|
 .op (some 26) (.int .i64) [25] (.call 192 [(.tmp 25)]) <|
 .op (some 6) .any [26] (.mov (.tmp 26)) <|
 .nil))
 (.seq (.seq (.ops (.op (some 27) .any [5] (.faddr 10 (.tmp 5)) <|
 .op (some 28) (.int .i64) [27] (.load none (.tmp 27)) <|
 .op (some 29) .any [6] (.mov (.tmp 6)) <|
 .op (some 30) .any [28, 29] (.bin .add .none (.tmp 28) (.tmp 29)) <|
 .op (some 31) .any [5] (.faddr 8 (.tmp 5)) <|
 .op (some 32) .any [31] (.load none (.tmp 31)) <|
 .op (some 33) .any [32] (.len false (.tmp 32)) <|
 .op (some 34) .any [30, 33] (.bin .lss .none (.tmp 30) (.tmp 33)) <|
 .nil))
 (.cond (.tmp 34) (.seq (.ops (.op (some 35) .any [5] (.faddr 8 (.tmp 5)) <|
 .op (some 36) .any [35] (.load none (.tmp 35)) <|
 .op (some 37) .any [5] (.faddr 10 (.tmp 5)) <|
 .op (some 38) (.int .i64) [37] (.load none (.tmp 37)) <|
 .op (some 39) .any [6] (.mov (.tmp 6)) <|
 .op (some 40) .any [38, 39] (.bin .add .none (.tmp 38) (.tmp 39)) <|
 .op (some 41) .any [36, 40] (.iaddrS 3 (.tmp 36) (.tmp 40)) <|
 .op (some 42) .any [41] (.faddr 1 (.tmp 41)) <|
 .op (some 43) (.int .i64) [42] (.load none (.tmp 42)) <|
 .op (some 44) (.agg [(.int .i64), (.int .i64), .any, .any, (.int .i64), .any]) [43] (.build [(V.int .i64 (Int.ofNat 0)), (V.int .i64 (Int.ofNat 0)), V.nils, V.nils, (V.int .i64 (Int.ofNat 0)), V.nils] [(0, 1, (.con (V.int .i64 (Int.ofNat 3)))), (1, 1, (.tmp 43))]) <|
 .op none (.agg [(.int .i64), (.int .i64), .any, .any, (.int .i64), .any]) [4, 44] (.store 6 (.tmp 4) (.tmp 44)) <|
 .nil))
 .ret)
 .skip))
 (.seq (.ops (.op (some 45) .any [6] (.mov (.tmp 6)) <|
 .op (some 46) (.agg [(.int .i64), (.int .i64), .any, .any, (.int .i64), .any]) [45] (.build [(V.int .i64 (Int.ofNat 0)), (V.int .i64 (Int.ofNat 0)), V.nils, V.nils, (V.int .i64 (Int.ofNat 0)), V.nils] [(0, 1, (.con (V.int .i64 (Int.ofNat 12)))), (4, 1, (.con (V.int .i64 (Int.ofNat 2)))), (1, 1, (.tmp 45))]) <|
 .op none (.agg [(.int .i64), (.int .i64), .any, .any, (.int .i64), .any]) [4, 46] (.store 6 (.tmp 4) (.tmp 46)) <|
 .nil))
 .ret)))
 .skip))
 (.seq (.keep [(0, .ptr), (1, (.int .i64)), (4, .ptr), (5, .ptr)] [] [] (.gdraw G125_0 H125_0 [(4, .ptr), (5, .ptr), (7, (.int .i64))]))
 (.seq (.ops (.op (some 64) .any [5] (.faddr 8 (.tmp 5)) <|
 .op (some 65) .any [64] (.load none (.tmp 64)) <|
 .op (some 66) .any [7] (.mov (.tmp 7)) <|
 .op (some 67) .any [65, 66] (.iaddrS 3 (.tmp 65) (.tmp 66)) <|
 .op (some 68) .any [67] (.faddr 1 (.tmp 67)) <|
 .op (some 69) (.int .i64) [68] (.load none (.tmp 68)) <|
 .op (some 70) (.agg [(.int .i64), (.int .i64), .any, .any, (.int .i64), .any]) [69] (.build [(V.int .i64 (Int.ofNat 0)), (V.int .i64 (Int.ofNat 0)), V.nils, V.nils, (V.int .i64 (Int.ofNat 0)), V.nils] [(0, 1, (.con (V.int .i64 (Int.ofNat 3)))), (1, 1, (.tmp 69))]) <|
 .op none (.agg [(.int .i64), (.int .i64), .any, .any, (.int .i64), .any]) [4, 70] (.store 6 (.tmp 4) (.tmp 70)) <|
 .nil))
 .ret)))))
def A125 : XFn := ⟨71, [.ptr, (.int .i64)], [(.cell 4 (some 6))], C125_0⟩
/-! ### F134: __ogham_whole.Reader_.Err -/
def Fin134 (E : List (Nat × Blk)) : St → Ans := fun s => resK E s [(.tmp 2)] fun l => some (oneV l, s.σ)
def C134_0 : XC := (.seq (.ops (.op (some 2) .any [] (.mov (.con (V.int .i64 (Int.ofNat 0)))) <|
 .nil))
 (.seq (.block 0 (.seq (.ops (.op (some 4) .any [0] (.mov (.tmp 0)) <|
 .op (some 5) .any [4] (.bin .eql .ptr (.tmp 4) (.con V.nilp)) <|
 .op (some 3) .any [5] (.mov (.tmp 5)) <|
 .nil))
 (.cond (.tmp 3) (.seq (.ops (.op (some 2) .any [] (.mov (.con (V.int .i64 (Int.ofNat 2)))) <|
 .nil))
 .ret)
 (.seq (.ops (.op (some 7) .any [0] (.mov (.tmp 0)) <|
 .op (some 8) .any [7] (.nilck (.tmp 7)) <|
 .op (some 9) .any [8] (.faddr 1 (.tmp 8)) <|
 .op (some 10) (.int .i64) [9] (.load none (.tmp 9)) <|
 .op (some 11) .any [10] (.bin .neq .none (.tmp 10) (.con (V.int .i64 (Int.ofNat 0)))) <|
 .op (some 6) .any [11] (.mov (.tmp 11)) <|
 .nil))
 (.cond (.tmp 6) (.seq (.ops (.op (some 12) .any [0] (.mov (.tmp 0)) <|
 .op (some 13) .any [12] (.nilck (.tmp 12)) <|
 .op (some 14) .any [13] (.faddr 1 (.tmp 13)) <|
 .op (some 15) (.int .i64) [14] (.load none (.tmp 14)) <|
 .op (some 2) .any [15] (.mov (.tmp 15)) <|
 .nil))
 .ret)
 .skip)))))
 (.seq (.ops (.op (some 16) .any [0] (.mov (.tmp 0)) <|
 .op (some 17) .any [16] (.nilck (.tmp 16)) <|
 .op (some 18) .any [17] (.faddr 0 (.tmp 17)) <|
 .op (some 19) .any [18] (.load none (.tmp 18)) <|
 .op (some 20) (.int .i64) [19] (.call 205 [(.tmp 19)]) <|
 .op (some 2) .any [20] (.mov (.tmp 20)) <|
 .nil))
 .ret)))
def T134_0 (E : List (Nat × Blk)) (D : Den) (W : DrawFn) (v0 : V) (σ : H) : Ans :=
 eqK .ptr v0 V.nilp fun c1 =>
 condK c1 (
 some ((V.int .i64 (Int.ofNat 2)), σ)) (
 rtPtr v0 fun b2 o3 =>
 ldK E σ b2 (Nat.add o3 1) fun u4 =>
 rtInt .i64 u4 fun x5 =>
 condK (not (eqF x5 (Int.ofNat 0))) (
 rtPtr v0 fun b6 o7 =>
 ldK E σ b6 (Nat.add o7 1) fun u8 =>
 rtInt .i64 u8 fun x9 =>
 some ((V.int .i64 x9), σ)) (
 rtPtr v0 fun b10 o11 =>
 ldK E σ b10 o11 fun u12 =>
 callK (D 205 [u12] σ) fun u13 s14 =>
 rtInt .i64 u13 fun x15 =>
 some ((V.int .i64 x15), s14)))
theorem P134_0 (E : List (Nat × Blk)) (D : Den) (W : DrawFn) (N : Nat) (v0 : V) (σ : H) :
  denC E D W N (C134_0 ) ⟨[(0, v0)], [], [], σ⟩ (Fin134 E) (fun _ _ => none) (Fin134 E) =
  T134_0 E D W  v0 σ := by kernel_rfl
def J134_0 (E : List (Nat × Blk)) (D : Den) (W : DrawFn) (N : Nat) : V → H → Ans := T134_0 E D W 
theorem JE134_0 (E : List (Nat × Blk)) (D : Den) (W : DrawFn) (N : Nat) (v0 : V) (σ : H) :
  denC E D W N C134_0 ⟨[(0, v0)], [], [], σ⟩ (Fin134 E) (fun _ _ => none) (Fin134 E) = J134_0 E D W N v0 σ := by
  refine (P134_0 E D W N   v0 σ).trans ?_
  kernel_rfl
def F134 (E : List (Nat × Blk)) (D : Den) (W : DrawFn) (N : Nat) (args : List V) (σ : H) : Ans :=
 rtCons args fun x1 l2 =>
 rtNil l2 (
 J134_0 E D W N x1 σ)
def A134 : XFn := ⟨21, [.any], [(.tmp 2)], C134_0⟩
theorem FE134 (E : List (Nat × Blk)) (D : Den) (W : DrawFn) (N : Nat) (args : List V) (σ : H) : runX E D W N A134 args σ = F134 E D W N args σ := by
  unfold F134
  simp only [← JE134_0]
  kernel_rfl
theorem AO134 : A134.body.ok = true := by kernel_rfl

def C135_0 : XC := (.seq (.ops (.op (some 2) .any [] (.mov (.con (V.int .i64 (Int.ofNat 0)))) <|
 .nil))
 (.seq (.seq (.ops (.op (some 3) .any [0] (.mov (.tmp 0)) <|
 .op (some 4) .any [3] (.bin .eql .ptr (.tmp 3) (.con V.nilp)) <|
 .nil))
 (.cond (.tmp 4) (.seq (.ops (.op (some 2) .any [] (.mov (.con (V.int .i64 (Int.ofNat 0)))) <|
 .nil))
 .ret)
 .skip))
 (.seq (.ops (.op (some 5) .any [0] (.mov (.tmp 0)) <|
 .op (some 6) .any [5] (.nilck (.tmp 5)) <|
 .op (some 7) .any [6] (.faddr 0 (.tmp 6)) <|
 .op (some 8) .any [7] (.load none (.tmp 7)) <|
 .op (some 9) (.int .i64) [8] (.call 206 [(.tmp 8)]) <|
 .op (some 2) .any [9] (.mov (.tmp 9)) <|
 .nil))
 .ret)))
def A135 : XFn := ⟨10, [.any], [(.tmp 2)], C135_0⟩
def C136_0 : XC := (.seq (.ops (.op (some 2) .any [] (.mov (.con (V.int .i64 (Int.ofNat 0)))) <|
 .nil))
 (.seq (.seq (.ops (.op (some 6) .any [0] (.mov (.tmp 0)) <|
 .op (some 7) (.int .i64) [6] (.call 205 [(.tmp 6)]) <|
 .op (some 3) .any [7] (.mov (.tmp 7)) <|
 .nil))
 (.seq (.ops (.op (some 8) .any [3] (.mov (.tmp 3)) <|
 .op (some 9) .any [8] (.bin .neq .none (.tmp 8) (.con (V.int .i64 (Int.ofNat 0)))) <|
 .nil))
 (.cond (.tmp 9) (.seq (.ops (.op (some 10) .any [3] (.mov (.tmp 3)) <|
 .op (some 2) .any [10] (.mov (.tmp 10)) <|
 .nil))
 .ret)
 .skip)))
 (.seq (.ops (.op (some 11) .any [0] (.mov (.tmp 0)) <|
 .op (some 12) .any [11] (.nilck (.tmp 11)) <|
 .op (some 13) .any [12] (.faddr 0 (.tmp 12)) <|
 .op (some 14) (.agg [.any, (.int .i64)]) [13] (.load (some 2) (.tmp 13)) <|
 .op (some 4) .any [] (.alloc 270 [V.nils, (V.int .i64 (Int.ofNat 0))]) <|
 .op none (.agg [.any, (.int .i64)]) [4, 14] (.store 2 (.tmp 4) (.tmp 14)) <|
 .nil))
 (.seq (.seq (.ops (.op (some 15) (.int .i64) [4] (.call 207 [(.tmp 4)]) <|
 .op (some 5) .any [15] (.mov (.tmp 15)) <|
 .nil))
 (.seq (.ops (.op (some 16) .any [5] (.mov (.tmp 5)) <|
 .op (some 17) .any [16] (.bin .geq .none (.tmp 16) (.con (V.int .i64 (Int.ofNat 8)))) <|
 .op (some 18) .any [17] (.mov (.tmp 17)) <|
 .grp 18 false (.op (some 19) .any [5, 18] (.mov (.tmp 5)) <|
 .op (some 20) (.int .u32) [4, 19, 18] (.call 208 [(.tmp 4), (.tmp 19)]) <|
 .op (some 21) .any [20, 18] (.bin .neq .none (.tmp 20) (.con (V.int .u32 (Int.ofNat 0)))) <|
 .nil) 22 [18, 21] (.tmp 18) (.con (V.bool true)) (.tmp 21) <|
 .nil))
 (.cond (.tmp 22) (.seq (.ops (.op (some 2) .any [] (.mov (.con (V.int .i64 (Int.ofNat 4)))) <|
 .nil))
 .ret)
 .skip)))
 (.seq (.ops (.op (some 2) .any [] (.mov (.con (V.int .i64 (Int.ofNat 0)))) <|
 .nil))
 .ret)))))
def A136 : XFn := ⟨23, [.ptr], [(.tmp 2)], C136_0⟩
/-! ### F137: __ogham_value.checker_.unknown -/
def Fin137 (E : List (Nat × Blk)) : St → Ans := fun s => resK E s [(.tmp 6)] fun l => some (oneV l, s.σ)
def C137_0 : XC := (.seq (.ops (.op (some 5) .any [2] (.box 35 (.tmp 2)) <|
 .op (some 6) .any [] (.mov (.con (V.bool false))) <|
 .nil))
 (.seq (.ops (.op (some 12) .any [0] (.mov (.tmp 0)) <|
 .op (some 13) .any [12] (.nilck (.tmp 12)) <|
 .op (some 14) .any [13] (.faddr 0 (.tmp 13)) <|
 .op (some 15) .any [14] (.faddr 0 (.tmp 14)) <|
 .op (some 16) .any [15] (.faddr 3 (.tmp 15)) <|
 .op (some 17) .any [16] (.load none (.tmp 16)) <|
 .op (some 18) .any [1] (.mov (.tmp 1)) <|
 .op (some 19) .any [17, 18] (.iaddrS 13 (.tmp 17) (.tmp 18)) <|
 .op (some 20) (.agg [(.int .i64), .any, .bool, .bool, .bool, .bool, (.int .i64), (.int .i64), .any, .any, (.int .i64), .bool, (.int .i64)]) [19] (.load (some 13) (.tmp 19)) <|
 .pal 7 [] 165 [(V.int .i64 (Int.ofNat 0)), V.nils, (V.bool false), (V.bool false), (V.bool false), (V.bool false), (V.int .i64 (Int.ofNat 0)), (V.int .i64 (Int.ofNat 0)), V.nils, V.nils, (V.int .i64 (Int.ofNat 0)), (V.bool false), (V.int .i64 (Int.ofNat 0))] <|
 .op none (.agg [(.int .i64), .any, .bool, .bool, .bool, .bool, (.int .i64), (.int .i64), .any, .any, (.int .i64), .bool, (.int .i64)]) [7, 20] (.store 13 (.tmp 7) (.tmp 20)) <|
 .nil))
 (.seq (.ops (.op (some 21) .any [7] (.faddr 0 (.tmp 7)) <|
 .op (some 22) (.int .i64) [21] (.load none (.tmp 21)) <|
 .op (some 23) .any [22] (.bin .eql .none (.tmp 22) (.con (V.int .i64 (Int.ofNat 9)))) <|
 .op (some 8) .any [23] (.mov (.tmp 23)) <|
 .nil))
 (.seq (.seq (.ops (.op (some 24) .any [7] (.faddr 11 (.tmp 7)) <|
 .op (some 25) .bool [24] (.load none (.tmp 24)) <|
 .op (some 26) .any [25] (.un .not (.tmp 25)) <|
 .op (some 27) .any [26] (.mov (.tmp 26)) <|
 .grp 27 false (.op (some 28) .any [8, 27] (.mov (.tmp 8)) <|
 .op (some 29) .any [28, 27] (.un .not (.tmp 28)) <|
 .op (some 30) .any [29, 27] (.mov (.tmp 29)) <|
 .grp 30 true (.op (some 31) .any [7, 30] (.faddr 0 (.tmp 7)) <|
 .op (some 32) (.int .i64) [31, 30] (.load none (.tmp 31)) <|
 .op (some 33) .any [32, 30] (.bin .neq .none (.tmp 32) (.con (V.int .i64 (Int.ofNat 3)))) <|
 .nil) 34 [30, 33, 27] (.tmp 30) (.tmp 33) (.con (V.bool false)) <|
 .nil) 35 [27, 34] (.tmp 27) (.con (V.bool true)) (.tmp 34) <|
 .op (some 36) .any [35] (.mov (.tmp 35)) <|
 .grp 36 false (.op (some 37) .any [5, 36] (.faddr 3 (.tmp 5)) <|
 .op (some 38) .any [37, 36] (.load none (.tmp 37)) <|
 .op (some 39) .any [38, 36] (.len false (.tmp 38)) <|
 .op (some 40) .any [5, 36] (.faddr 5 (.tmp 5)) <|
 .op (some 41) .any [40, 36] (.load none (.tmp 40)) <|
 .op (some 42) .any [41, 36] (.len false (.tmp 41)) <|
 .op (some 43) .any [39, 42, 36] (.bin .add .none (.tmp 39) (.tmp 42)) <|
 .op (some 44) .any [43, 36] (.bin .gtr .none (.tmp 43) (.con (V.int .i64 (Int.ofNat 0)))) <|
 .nil) 45 [36, 44] (.tmp 36) (.con (V.bool true)) (.tmp 44) <|
 .nil))
 (.cond (.tmp 45) (.seq (.ops (.op (some 6) .any [] (.mov (.con (V.bool false))) <|
 .nil))
 .ret)
 .skip))
 (.seq (.seq (.ops (.op (some 46) .any [0] (.mov (.tmp 0)) <|
 .op (some 47) .any [46] (.nilck (.tmp 46)) <|
 .op (some 48) .any [47] (.faddr 4 (.tmp 47)) <|
 .op (some 49) .bool [48] (.load none (.tmp 48)) <|
 .nil))
 (.cond (.tmp 49) (.seq (.ops (.op (some 50) .any [5] (.faddr 1 (.tmp 5)) <|
 .op (some 51) (.int .i64) [50] (.load none (.tmp 50)) <|
 .op (some 52) .any [51] (.bin .eql .none (.tmp 51) (.con (V.int .i64 (Int.ofNat 0)))) <|
 .op (some 53) .any [52] (.mov (.tmp 52)) <|
 .grp 53 true (.op (some 54) .any [5, 53] (.faddr 2 (.tmp 5)) <|
 .op (some 55) .any [54, 53] (.load none (.tmp 54)) <|
 .op (some 56) .any [55, 53] (.len false (.tmp 55)) <|
 .op (some 57) .any [56, 53] (.bin .eql .none (.tmp 56) (.con (V.int .i64 (Int.ofNat 0)))) <|
 .nil) 58 [53, 57] (.tmp 53) (.tmp 57) (.con (V.bool false)) <|
 .op (some 59) .any [58] (.mov (.tmp 58)) <|
 .grp 59 true (.op (some 60) .any [5, 59] (.faddr 4 (.tmp 5)) <|
 .op (some 61) (.int .i64) [60, 59] (.load none (.tmp 60)) <|
 .op (some 62) .any [61, 59] (.bin .eql .none (.tmp 61) (.con (V.int .i64 (Int.ofNat 0)))) <|
 .nil) 63 [59, 62] (.tmp 59) (.tmp 62) (.con (V.bool false)) <|
 .op (some 6) .any [63] (.mov (.tmp 63)) <|
 .nil))
 .ret)
 .skip))
 (.seq (.ops (.op (some 64) .any [7] (.faddr 8 (.tmp 7)) <|
 .op (some 65) .any [64] (.load none (.tmp 64)) <|
 .op (some 66) .any [65] (.len false (.tmp 65)) <|
 .op (some 67) .any [7] (.faddr 9 (.tmp 7)) <|
 .op (some 68) .any [67] (.load none (.tmp 67)) <|
 .op (some 69) .any [68] (.len false (.tmp 68)) <|
 .op (some 70) .any [66, 69] (.bin .add .none (.tmp 66) (.tmp 69)) <|
 .op (some 71) .any [7] (.faddr 10 (.tmp 7)) <|
 .op (some 72) (.int .i64) [71] (.load none (.tmp 71)) <|
 .op (some 73) .any [70, 72] (.bin .sub .none (.tmp 70) (.tmp 72)) <|
 .op (some 9) .any [73] (.mov (.tmp 73)) <|
 .nil))
 (.seq (.block 0 (.seq (.ops (.op (some 75) .any [5] (.faddr 4 (.tmp 5)) <|
 .op (some 76) (.int .i64) [75] (.load none (.tmp 75)) <|
 .op (some 77) .any [76] (.bin .eql .none (.tmp 76) (.con (V.int .i64 (Int.ofNat 1)))) <|
 .op (some 78) .any [77] (.mov (.tmp 77)) <|
 .grp 78 true (.op (some 79) .any [8, 78] (.mov (.tmp 8)) <|
 .nil) 80 [78, 79] (.tmp 78) (.tmp 79) (.con (V.bool false)) <|
 .op (some 74) .any [80] (.mov (.tmp 80)) <|
 .nil))
 (.cond (.tmp 74) (.seq (.ops (.op (some 82) .any [0] (.mov (.tmp 0)) <|
 .op (some 83) .any [1] (.mov (.tmp 1)) <|
 .op (some 84) .any [5] (.faddr 2 (.tmp 5)) <|
 .op (some 85) .any [84] (.load none (.tmp 84)) <|
 .op (some 86) (.tup [(.agg [(.int .i64), (.int .i64)]), .bool]) [82, 83, 85] (.call 209 [(.tmp 82), (.tmp 83), (.tmp 85)]) <|
 .op (some 81) .any [86] (.mov (.tmp 86)) <|
 .op (some 87) .any [81] (.extract 0 (.tmp 81)) <|
 .op (some 88) .any [81] (.extract 1 (.tmp 81)) <|
 .pal 10 [] 182 [(V.int .i64 (Int.ofNat 0)), (V.int .i64 (Int.ofNat 0))] <|
 .op none (.agg [(.int .i64), (.int .i64)]) [10, 87] (.store 2 (.tmp 10) (.tmp 87)) <|
 .op (some 11) .any [88] (.mov (.tmp 88)) <|
 .nil))
 (.seq (.ops (.op (some 89) .any [11] (.mov (.tmp 11)) <|
 .op (some 90) .any [89] (.mov (.tmp 89)) <|
 .grp 90 true (.op (some 91) .any [5, 90] (.faddr 1 (.tmp 5)) <|
 .op (some 92) (.int .i64) [91, 90] (.load none (.tmp 91)) <|
 .op (some 93) .any [92, 90] (.bin .eql .none (.tmp 92) (.con (V.int .i64 (Int.ofNat 0)))) <|
 .nil) 94 [90, 93] (.tmp 90) (.tmp 93) (.con (V.bool false)) <|
 .op (some 6) .any [94] (.mov (.tmp 94)) <|
 .nil))
 .ret))
 (.seq (.ops (.op (some 96) .any [5] (.faddr 4 (.tmp 5)) <|
 .op (some 97) (.int .i64) [96] (.load none (.tmp 96)) <|
 .op (some 98) .any [97] (.bin .eql .none (.tmp 97) (.con (V.int .i64 (Int.ofNat 1)))) <|
 .op (some 95) .any [98] (.mov (.tmp 98)) <|
 .nil))
 (.cond (.tmp 95) (.seq (.ops (.op (some 99) .any [5] (.faddr 2 (.tmp 5)) <|
 .op (some 100) .any [99] (.load none (.tmp 99)) <|
 .op (some 101) .any [100] (.len false (.tmp 100)) <|
 .op (some 102) .any [101] (.bin .eql .none (.tmp 101) (.con (V.int .i64 (Int.ofNat 0)))) <|
 .op (some 103) .any [102] (.mov (.tmp 102)) <|
 .grp 103 true (.op (some 104) (.agg [(.int .i64), .any, .bool, .bool, .bool, .bool, (.int .i64), (.int .i64), .any, .any, (.int .i64), .bool, (.int .i64)]) [7, 103] (.load (some 13) (.tmp 7)) <|
 .op (some 105) .any [5, 103] (.faddr 1 (.tmp 5)) <|
 .op (some 106) (.int .i64) [105, 103] (.load none (.tmp 105)) <|
 .op (some 107) (.int .i64) [104, 106, 103] (.call 67 [(.tmp 104), (.tmp 106)]) <|
 .op (some 108) .any [107, 103] (.bin .lss .none (.tmp 107) (.con (V.int .i64 (Int.ofNat 0)))) <|
 .nil) 109 [103, 108] (.tmp 103) (.tmp 108) (.con (V.bool false)) <|
 .op (some 6) .any [109] (.mov (.tmp 109)) <|
 .nil))
 .ret)
 (.seq (.ops (.op (some 111) .any [5] (.faddr 4 (.tmp 5)) <|
 .op (some 112) (.int .i64) [111] (.load none (.tmp 111)) <|
 .op (some 113) .any [112] (.bin .neq .none (.tmp 112) (.con (V.int .i64 (Int.ofNat 2)))) <|
 .op (some 114) .any [113] (.mov (.tmp 113)) <|
 .grp 114 false (.op (some 115) .any [5, 114] (.faddr 1 (.tmp 5)) <|
 .op (some 116) (.int .i64) [115, 114] (.load none (.tmp 115)) <|
 .op (some 117) .any [9, 114] (.mov (.tmp 9)) <|
 .op (some 118) .any [116, 117, 114] (.bin .lss .none (.tmp 116) (.tmp 117)) <|
 .nil) 119 [114, 118] (.tmp 114) (.con (V.bool true)) (.tmp 118) <|
 .op (some 120) .any [119] (.mov (.tmp 119)) <|
 .grp 120 false (.op (some 121) .any [5, 120] (.faddr 1 (.tmp 5)) <|
 .op (some 122) (.int .i64) [121, 120] (.load none (.tmp 121)) <|
 .op (some 123) .any [122, 120] (.bin .geq .none (.tmp 122) (.con (V.int .i64 (Int.ofNat 1000)))) <|
 .nil) 124 [120, 123] (.tmp 120) (.con (V.bool true)) (.tmp 123) <|
 .op (some 110) .any [124] (.mov (.tmp 124)) <|
 .nil))
 (.cond (.tmp 110) (.seq (.ops (.op (some 6) .any [] (.mov (.con (V.bool false))) <|
 .nil))
 .ret)
 (.seq (.ops (.op (some 126) .any [8] (.mov (.tmp 8)) <|
 .op (some 125) .any [126] (.mov (.tmp 126)) <|
 .nil))
 (.cond (.tmp 125) (.seq (.ops (.op (some 127) .any [5] (.faddr 2 (.tmp 5)) <|
 .op (some 128) .any [127] (.load none (.tmp 127)) <|
 .op (some 129) .bool [128] (.call 210 [(.tmp 128)]) <|
 .op (some 6) .any [129] (.mov (.tmp 129)) <|
 .nil))
 .ret)
 .skip)))))))))
 (.seq (.ops (.op (some 130) .any [5] (.faddr 2 (.tmp 5)) <|
 .op (some 131) .any [130] (.load none (.tmp 130)) <|
 .op (some 132) .any [131] (.len false (.tmp 131)) <|
 .op (some 133) .any [132] (.bin .eql .none (.tmp 132) (.con (V.int .i64 (Int.ofNat 0)))) <|
 .op (some 6) .any [133] (.mov (.tmp 133)) <|
 .nil))
 .ret))))))))
def T137_0 (E : List (Nat × Blk)) (D : Den) (W : DrawFn) (v0b : Nat) (v0o : Nat) (v1 : Int) (v2_0 : Int) (v2_1 : Int) (v2_2 : V) (v2_3 : V) (v2_4 : Int) (v2_5 : V) (σ : H) : Ans :=
 chk (allOne (V.cells (V.agg [(V.int .i64 v2_0), (V.int .i64 v2_1), v2_2, v2_3, (V.int .i64 v2_4), v2_5]))) (
 let s1 := newB σ (.cells (V.cells (V.agg [(V.int .i64 v2_0), (V.int .i64 v2_1), v2_2, v2_3, (V.int .i64 v2_4), v2_5])));
 ldK E s1 v0b (Nat.add v0o 3) fun u2 =>
 iaddrSK 13 u2 v1 fun b3 o4 =>
 ldnK E s1 b3 o4 13 fun l5 =>
 rtCons l5 fun x6 l7 =>
 rtInt .i64 x6 fun x8 =>
 rtCons l7 fun x9 l10 =>
 rtCons l10 fun x11 l12 =>
 rtBool x11 fun x13 =>
 rtCons l12 fun x14 l15 =>
 rtBool x14 fun x16 =>
 rtCons l15 fun x17 l18 =>
 rtBool x17 fun x19 =>
 rtCons l18 fun x20 l21 =>
 rtBool x20 fun x22 =>
 rtCons l21 fun x23 l24 =>
 rtInt .i64 x23 fun x25 =>
 rtCons l24 fun x26 l27 =>
 rtInt .i64 x26 fun x28 =>
 rtCons l27 fun x29 l30 =>
 rtCons l30 fun x31 l32 =>
 rtCons l32 fun x33 l34 =>
 rtInt .i64 x33 fun x35 =>
 rtCons l34 fun x36 l37 =>
 rtBool x36 fun x38 =>
 rtCons l37 fun x39 l40 =>
 rtInt .i64 x39 fun x41 =>
 rtNil l40 (
 chk (allOne [(V.int .i64 x8), x9, (V.bool x13), (V.bool x16), (V.bool x19), (V.bool x22), (V.int .i64 x25), (V.int .i64 x28), x29, x31, (V.int .i64 x35), (V.bool x38), (V.int .i64 x41)]) (
 joinB (fun c42 s43 =>
 joinB (fun c45 s46 =>
 condK c45 (
 some ((V.bool false), s46)) (
 ldK E s46 v0b (Nat.add v0o 4) fun u48 =>
 rtBool u48 fun x49 =>
 condK x49 (
 ldK E s46 (H.next σ) 1 fun u50 =>
 rtInt .i64 u50 fun x51 =>
 joinB (fun c52 s53 =>
 joinB (fun c55 s56 =>
 some ((V.bool c55), s56)) fun k57 =>
 condK c52 (
 ldK E s53 (H.next σ) 4 fun u58 =>
 rtInt .i64 u58 fun x59 =>
 k57 (eqF x59 (Int.ofNat 0)) s53) (
 k57 false s53)) fun k54 =>
 condK (eqF x51 (Int.ofNat 0)) (
 ldK E s46 (H.next σ) 2 fun u60 =>
 slenK u60 fun n61 =>
 k54 (eqF (Int.ofNat n61) (Int.ofNat 0)) s46) (
 k54 false s46)) (
 slenK x29 fun n62 =>
 slenK x31 fun n63 =>
 ldK E s46 (H.next σ) 4 fun u64 =>
 rtInt .i64 u64 fun x65 =>
 joinB (fun c66 s67 =>
 condK c66 (
 ldK E s67 (H.next σ) 2 fun u69 =>
 callK (D 209 [(V.ptr v0b v0o), (V.int .i64 v1), u69] s67) fun u70 s71 =>
 rtTup u70 fun l72 =>
 rtCons l72 fun x73 l74 =>
 rtAgg x73 fun l75 =>
 rtCons l75 fun x76 l77 =>
 rtInt .i64 x76 fun x78 =>
 rtCons l77 fun x79 l80 =>
 rtInt .i64 x79 fun x81 =>
 rtNil l80 (
 rtCons l74 fun x82 l83 =>
 rtBool x82 fun x84 =>
 rtNil l83 (
 joinB (fun c85 s86 =>
 some ((V.bool c85), s86)) fun k87 =>
 condK x84 (
 ldK E s71 (H.next σ) 1 fun u88 =>
 rtInt .i64 u88 fun x89 =>
 k87 (eqF x89 (Int.ofNat 0)) s71) (
 k87 false s71)))) (
 ldK E s67 (H.next σ) 4 fun u90 =>
 rtInt .i64 u90 fun x91 =>
 condK (eqF x91 (Int.ofNat 1)) (
 ldK E s67 (H.next σ) 2 fun u92 =>
 slenK u92 fun n93 =>
 joinB (fun c94 s95 =>
 some ((V.bool c94), s95)) fun k96 =>
 condK (eqF (Int.ofNat n93) (Int.ofNat 0)) (
 ldK E s67 (H.next σ) 1 fun u97 =>
 rtInt .i64 u97 fun x98 =>
 callK (D 67 [(V.agg [(V.int .i64 x8), x9, (V.bool x13), (V.bool x16), (V.bool x19), (V.bool x22), (V.int .i64 x25), (V.int .i64 x28), x29, x31, (V.int .i64 x35), (V.bool x38), (V.int .i64 x41)]), (V.int .i64 x98)] s67) fun u99 s100 =>
 rtInt .i64 u99 fun x101 =>
 k96 (ltF x101 (Int.ofNat 0)) s100) (
 k96 false s67)) (
 ldK E s67 (H.next σ) 4 fun u102 =>
 rtInt .i64 u102 fun x103 =>
 joinB (fun c104 s105 =>
 joinB (fun c107 s108 =>
 condK c107 (
 some ((V.bool false), s108)) (
 condK (eqF x8 (Int.ofNat 9)) (
 ldK E s108 (H.next σ) 2 fun u110 =>
 callK (D 210 [u110] s108) fun u111 s112 =>
 rtBool u111 fun x113 =>
 some ((V.bool x113), s112)) (
 ldK E s108 (H.next σ) 2 fun u114 =>
 slenK u114 fun n115 =>
 some ((V.bool (eqF (Int.ofNat n115) (Int.ofNat 0))), s108)))) fun k109 =>
 condK c104 (
 k109 true s105) (
 ldK E s105 (H.next σ) 1 fun u116 =>
 rtInt .i64 u116 fun x117 =>
 k109 (leF (Int.ofNat 1000) x117) s105)) fun k106 =>
 condK (not (eqF x103 (Int.ofNat 2))) (
 k106 true s67) (
 ldK E s67 (H.next σ) 1 fun u118 =>
 rtInt .i64 u118 fun x119 =>
 k106 (ltF x119 (subF .i64 (addF .i64 (Int.ofNat n62) (Int.ofNat n63)) x35)) s67)))) fun k68 =>
 condK (eqF x65 (Int.ofNat 1)) (
 k68 (eqF x8 (Int.ofNat 9)) s46) (
 k68 false s46)))) fun k47 =>
 condK c42 (
 k47 true s43) (
 ldK E s43 (H.next σ) 3 fun u120 =>
 slenK u120 fun n121 =>
 ldK E s43 (H.next σ) 5 fun u122 =>
 slenK u122 fun n123 =>
 k47 (ltF (Int.ofNat 0) (addF .i64 (Int.ofNat n121) (Int.ofNat n123))) s43)) fun k44 =>
 condK (not x38) (
 k44 true s1) (
 joinB (fun c124 s125 =>
 k44 c124 s125) fun k126 =>
 condK (not (eqF x8 (Int.ofNat 9))) (
 k126 (not (eqF x8 (Int.ofNat 3))) s1) (
 k126 false s1)))))
theorem P137_0 (E : List (Nat × Blk)) (D : Den) (W : DrawFn) (N : Nat) (v0b : Nat) (v0o : Nat) (v1 : Int) (v2_0 : Int) (v2_1 : Int) (v2_2 : V) (v2_3 : V) (v2_4 : Int) (v2_5 : V) (σ : H) :
  denC E D W N (C137_0 ) ⟨[(0, (V.ptr v0b v0o)), (1, (V.int .i64 v1)), (2, (V.agg [(V.int .i64 v2_0), (V.int .i64 v2_1), v2_2, v2_3, (V.int .i64 v2_4), v2_5]))], [], [], σ⟩ (Fin137 E) (fun _ _ => none) (Fin137 E) =
  T137_0 E D W  v0b v0o v1 v2_0 v2_1 v2_2 v2_3 v2_4 v2_5 σ := by kernel_rfl
def J137_0 (E : List (Nat × Blk)) (D : Den) (W : DrawFn) (N : Nat) : Nat → Nat → Int → Int → Int → V → V → Int → V → H → Ans := T137_0 E D W 
theorem JE137_0 (E : List (Nat × Blk)) (D : Den) (W : DrawFn) (N : Nat) (v0b : Nat) (v0o : Nat) (v1 : Int) (v2_0 : Int) (v2_1 : Int) (v2_2 : V) (v2_3 : V) (v2_4 : Int) (v2_5 : V) (σ : H) :
  denC E D W N C137_0 ⟨[(0, (V.ptr v0b v0o)), (1, (V.int .i64 v1)), (2, (V.agg [(V.int .i64 v2_0), (V.int .i64 v2_1), v2_2, v2_3, (V.int .i64 v2_4), v2_5]))], [], [], σ⟩ (Fin137 E) (fun _ _ => none) (Fin137 E) = J137_0 E D W N v0b v0o v1 v2_0 v2_1 v2_2 v2_3 v2_4 v2_5 σ := by
  refine (P137_0 E D W N   v0b v0o v1 v2_0 v2_1 v2_2 v2_3 v2_4 v2_5 σ).trans ?_
  kernel_rfl
def F137 (E : List (Nat × Blk)) (D : Den) (W : DrawFn) (N : Nat) (args : List V) (σ : H) : Ans :=
 rtCons args fun x1 l2 =>
 rtPtr x1 fun b3 o4 =>
 rtCons l2 fun x5 l6 =>
 rtInt .i64 x5 fun x7 =>
 rtCons l6 fun x8 l9 =>
 rtAgg x8 fun l10 =>
 rtCons l10 fun x11 l12 =>
 rtInt .i64 x11 fun x13 =>
 rtCons l12 fun x14 l15 =>
 rtInt .i64 x14 fun x16 =>
 rtCons l15 fun x17 l18 =>
 rtCons l18 fun x19 l20 =>
 rtCons l20 fun x21 l22 =>
 rtInt .i64 x21 fun x23 =>
 rtCons l22 fun x24 l25 =>
 rtNil l25 (
 rtNil l9 (
 J137_0 E D W N b3 o4 x7 x13 x16 x17 x19 x23 x24 σ))
def A137 : XFn := ⟨134, [.ptr, (.int .i64), (.agg [(.int .i64), (.int .i64), .any, .any, (.int .i64), .any])], [(.tmp 6)], C137_0⟩
theorem FE137 (E : List (Nat × Blk)) (D : Den) (W : DrawFn) (N : Nat) (args : List V) (σ : H) : runX E D W N A137 args σ = F137 E D W N args σ := by
  unfold F137
  simp only [← JE137_0]
  kernel_rfl
theorem AO137 : A137.body.ok = true := by kernel_rfl

def C138_0 : XC := (.seq (.ops (.op (some 2) .any [0] (.box 35 (.tmp 0)) <|
 .op (some 4) .any [] (.mov (.con (V.bool false))) <|
 .nil))
 (.seq (.ops (.op (some 5) .any [1] (.mov (.tmp 1)) <|
 .op (some 6) .any [5] (.bin .and .none (.tmp 5) (.con (V.int .i64 (Int.ofNat 1)))) <|
 .op (some 7) .any [6] (.bin .neq .none (.tmp 6) (.con (V.int .i64 (Int.ofNat 0)))) <|
 .op (some 8) .any [7] (.mov (.tmp 7)) <|
 .grp 8 false (.op (some 9) .any [2, 8] (.faddr 1 (.tmp 2)) <|
 .op (some 10) (.int .i64) [9, 8] (.load none (.tmp 9)) <|
 .op (some 11) .any [10, 8] (.bin .eql .none (.tmp 10) (.con (V.int .i64 (Int.ofNat 0)))) <|
 .nil) 12 [8, 11] (.tmp 8) (.con (V.bool true)) (.tmp 11) <|
 .op (some 13) .any [12] (.mov (.tmp 12)) <|
 .grp 13 true (.op (some 14) .any [1, 13] (.mov (.tmp 1)) <|
 .op (some 15) .any [14, 13] (.bin .and .none (.tmp 14) (.con (V.int .i64 (Int.ofNat 2)))) <|
 .op (some 16) .any [15, 13] (.bin .neq .none (.tmp 15) (.con (V.int .i64 (Int.ofNat 0)))) <|
 .op (some 17) .any [16, 13] (.mov (.tmp 16)) <|
 .grp 17 false (.op (some 18) .any [2, 17] (.faddr 2 (.tmp 2)) <|
 .op (some 19) .any [18, 17] (.load none (.tmp 18)) <|
 .op (some 20) .any [19, 17] (.len false (.tmp 19)) <|
 .op (some 21) .any [20, 17] (.bin .eql .none (.tmp 20) (.con (V.int .i64 (Int.ofNat 0)))) <|
 .nil) 22 [17, 21, 13] (.tmp 17) (.con (V.bool true)) (.tmp 21) <|
 .nil) 23 [13, 22] (.tmp 13) (.tmp 22) (.con (V.bool false)) <|
 .op (some 24) .any [23] (.mov (.tmp 23)) <|
 .grp 24 true (.op (some 25) .any [1, 24] (.mov (.tmp 1)) <|
 .op (some 26) .any [25, 24] (.bin .and .none (.tmp 25) (.con (V.int .i64 (Int.ofNat 4)))) <|
 .op (some 27) .any [26, 24] (.bin .neq .none (.tmp 26) (.con (V.int .i64 (Int.ofNat 0)))) <|
 .op (some 28) .any [27, 24] (.mov (.tmp 27)) <|
 .grp 28 false (.op (some 29) .any [2, 28] (.faddr 3 (.tmp 2)) <|
 .op (some 30) .any [29, 28] (.load none (.tmp 29)) <|
 .op (some 31) .any [30, 28] (.len false (.tmp 30)) <|
 .op (some 32) .any [31, 28] (.bin .eql .none (.tmp 31) (.con (V.int .i64 (Int.ofNat 0)))) <|
 .nil) 33 [28, 32, 24] (.tmp 28) (.con (V.bool true)) (.tmp 32) <|
 .nil) 34 [24, 33] (.tmp 24) (.tmp 33) (.con (V.bool false)) <|
 .op (some 35) .any [34] (.mov (.tmp 34)) <|
 .grp 35 true (.op (some 36) .any [1, 35] (.mov (.tmp 1)) <|
 .op (some 37) .any [36, 35] (.bin .and .none (.tmp 36) (.con (V.int .i64 (Int.ofNat 8)))) <|
 .op (some 38) .any [37, 35] (.bin .neq .none (.tmp 37) (.con (V.int .i64 (Int.ofNat 0)))) <|
 .op (some 39) .any [38, 35] (.mov (.tmp 38)) <|
 .grp 39 false (.op (some 40) .any [2, 39] (.faddr 4 (.tmp 2)) <|
 .op (some 41) (.int .i64) [40, 39] (.load none (.tmp 40)) <|
 .op (some 42) .any [41, 39] (.bin .eql .none (.tmp 41) (.con (V.int .i64 (Int.ofNat 0)))) <|
 .op (some 43) .any [42, 39] (.mov (.tmp 42)) <|
 .grp 43 true (.op (some 44) .any [2, 43] (.faddr 5 (.tmp 2)) <|
 .op (some 45) .any [44, 43] (.load none (.tmp 44)) <|
 .op (some 46) .any [45, 43] (.len false (.tmp 45)) <|
 .op (some 47) .any [46, 43] (.bin .eql .none (.tmp 46) (.con (V.int .i64 (Int.ofNat 0)))) <|
 .nil) 48 [43, 47, 39] (.tmp 43) (.tmp 47) (.con (V.bool false)) <|
 .nil) 49 [39, 48, 35] (.tmp 39) (.con (V.bool true)) (.tmp 48) <|
 .nil) 50 [35, 49] (.tmp 35) (.tmp 49) (.con (V.bool false)) <|
 .op (some 4) .any [50] (.mov (.tmp 50)) <|
 .nil))
 .ret))
def A138 : XFn := ⟨51, [(.agg [(.int .i64), (.int .i64), .any, .any, (.int .i64), .any]), (.int .i64)], [(.tmp 4)], C138_0⟩
def C139_0 : XC := (.seq (.ops (.op (some 2) .any [0] (.box 101 (.tmp 0)) <|
 .op (some 4) .any [] (.mov (.con (V.bool false))) <|
 .nil))
 (.seq (.ops (.op (some 5) .any [2] (.faddr 0 (.tmp 2)) <|
 .op (some 6) .bool [5] (.load none (.tmp 5)) <|
 .op (some 7) .any [6] (.un .not (.tmp 6)) <|
 .op (some 8) .any [7] (.mov (.tmp 7)) <|
 .grp 8 false (.op (some 9) .any [2, 8] (.faddr 1 (.tmp 2)) <|
 .op (some 10) .bool [9, 8] (.load none (.tmp 9)) <|
 .op (some 11) .any [10, 8] (.un .not (.tmp 10)) <|
 .op (some 12) .any [11, 8] (.mov (.tmp 11)) <|
 .grp 12 false (.op (some 13) .any [1, 12] (.mov (.tmp 1)) <|
 .op (some 14) .any [2, 12] (.faddr 4 (.tmp 2)) <|
 .op (some 15) (.int .i64) [14, 12] (.load none (.tmp 14)) <|
 .op (some 16) .any [13, 15, 12] (.bin .geq .none (.tmp 13) (.tmp 15)) <|
 .nil) 17 [12, 16, 8] (.tmp 12) (.con (V.bool true)) (.tmp 16) <|
 .op (some 18) .any [17, 8] (.mov (.tmp 17)) <|
 .grp 18 true (.op (some 19) .any [2, 18] (.faddr 2 (.tmp 2)) <|
 .op (some 20) .bool [19, 18] (.load none (.tmp 19)) <|
 .op (some 21) .any [20, 18] (.un .not (.tmp 20)) <|
 .op (some 22) .any [21, 18] (.mov (.tmp 21)) <|
 .grp 22 false (.op (some 23) .any [1, 22] (.mov (.tmp 1)) <|
 .op (some 24) .any [2, 22] (.faddr 5 (.tmp 2)) <|
 .op (some 25) (.int .i64) [24, 22] (.load none (.tmp 24)) <|
 .op (some 26) .any [23, 25, 22] (.bin .leq .none (.tmp 23) (.tmp 25)) <|
 .nil) 27 [22, 26, 18] (.tmp 22) (.con (V.bool true)) (.tmp 26) <|
 .nil) 28 [18, 27, 8] (.tmp 18) (.tmp 27) (.con (V.bool false)) <|
 .nil) 29 [8, 28] (.tmp 8) (.con (V.bool true)) (.tmp 28) <|
 .op (some 4) .any [29] (.mov (.tmp 29)) <|
 .nil))
 .ret))
def A139 : XFn := ⟨30, [(.agg [.bool, .bool, .bool, .bool, (.int .i64), (.int .i64)]), (.int .i64)], [(.tmp 4)], C139_0⟩
/-! ### F143: slices.IndexFunc___ogham_api.Item_ogham_api.Item_ -/
def Fin143 (E : List (Nat × Blk)) : St → Ans := fun s => resK E s [(.tmp 4)] fun l => some (oneV l, s.σ)
def C143_0 (cc1 : XC) (cc2 : XC) : XC := (.seq (.ops (.op (some 4) .any [] (.mov (.con (V.int .i64 (Int.ofNat 0)))) <|
 .nil))
 (.seq (.seq (.ops (.op (some 6) .any [0] (.mov (.tmp 0)) <|
 .op (some 7) .any [6] (.len false (.tmp 6)) <|
 .op (some 8) .any [] (.mov (.con (V.int .i64 (Int.ofNat 0)))) <|
 .nil))
 (.block 0 (.loop [(0, .any), (1, .any), (7, (.int .i64)), (8, (.int .i64))] [] [] cc2)))
 (.keep [] [] [] cc1)))
def T143_0 (E : List (Nat × Blk)) (D : Den) (W : DrawFn) (K2 : V → V → Int → Int → H → Ans) (v0 : V) (v1 : V) (σ : H) : Ans :=
 slenK v0 fun n1 =>
 K2 v0 v1 (Int.ofNat n1) (Int.ofNat 0) σ
def C143_1 : XC := (.seq (.ops (.op (some 4) .any [] (.mov (.con (V.int .i64 (Int.negSucc 0)))) <|
 .nil))
 .ret)
def T143_1 (E : List (Nat × Blk)) (D : Den) (W : DrawFn) (σ : H) : Ans :=
 some ((V.int .i64 (Int.negSucc 0)), σ)
def C143_2 : XC := (.seq (.ops (.op (some 9) .any [8, 7] (.bin .lss .none (.tmp 8) (.tmp 7)) <|
 .nil))
 (.seq (.cond (.tmp 9) .skip
 (.exit 0))
 (.seq (.block 1 (.seq (.ops (.op (some 10) .any [8] (.mov (.tmp 8)) <|
 .op (some 5) .any [10] (.mov (.tmp 10)) <|
 .nil))
 (.seq (.ops (.op (some 11) .any [1] (.mov (.tmp 1)) <|
 .op (some 12) .any [0] (.mov (.tmp 0)) <|
 .op (some 13) .any [5] (.mov (.tmp 5)) <|
 .op (some 14) .any [12, 13] (.iaddrS 3 (.tmp 12) (.tmp 13)) <|
 .op (some 15) (.agg [.str, (.int .i64), .bool]) [14] (.load (some 3) (.tmp 14)) <|
 .op (some 16) .bool [11, 15] (.callv (.tmp 11) [(.tmp 15)]) <|
 .nil))
 (.cond (.tmp 16) (.seq (.ops (.op (some 17) .any [5] (.mov (.tmp 5)) <|
 .op (some 4) .any [17] (.mov (.tmp 17)) <|
 .nil))
 .ret)
 .skip))))
 (.ops (.op (some 18) .any [8] (.bin .add .none (.tmp 8) (.con (V.int .i64 (Int.ofNat 1)))) <|
 .op (some 8) .any [18] (.mov (.tmp 18)) <|
 .nil)))))
def T143_2 (E : List (Nat × Blk)) (D : Den) (W : DrawFn) (K1 : H → Ans) (R2 : V → V → Int → Int → H → Ans) (v0 : V) (v1 : V) (v7 : Int) (v8 : Int) (σ : H) : Ans :=
 condK (ltF v8 v7) (
 iaddrSK 3 v0 v8 fun b1 o2 =>
 ldnK E σ b1 o2 3 fun l3 =>
 rtCons l3 fun x4 l5 =>
 rtStr x4 fun x6 =>
 rtCons l5 fun x7 l8 =>
 rtInt .i64 x7 fun x9 =>
 rtCons l8 fun x10 l11 =>
 rtBool x10 fun x12 =>
 rtNil l11 (
 callvK D v1 [(V.agg [(V.str x6), (V.int .i64 x9), (V.bool x12)])] σ fun u13 s14 =>
 rtBool u13 fun x15 =>
 condK x15 (
 some ((V.int .i64 v8), s14)) (
 R2 v0 v1 v7 (addF .i64 v8 (Int.ofNat 1)) s14))) (
 K1 σ)
theorem P143_0 (E : List (Nat × Blk)) (D : Den) (W : DrawFn) (N : Nat) (cc1 : XC) (cc2 : XC) (v0 : V) (v1 : V) (σ : H) :
  denC E D W N (C143_0 cc1 cc2) ⟨[(0, v0), (1, v1)], [], [], σ⟩ (Fin143 E) (fun _ _ => none) (Fin143 E) =
  T143_0 E D W (fun v0 v1 v7 v8 σ => iterK (fun rec s' => denC E D W N cc2 s' (fun s'' => keepS [(0, .any), (1, .any), (7, (.int .i64)), (8, (.int .i64))] [] [] s'' rec) (blkK 0 (fun s' => denC E D W N (.keep [] [] [] cc1) s' (Fin143 E) (fun _ _ => none) (Fin143 E)) (fun _ _ => none)) (Fin143 E)) N ⟨[(0, v0), (1, v1), (7, (V.int .i64 v7)), (8, (V.int .i64 v8))], [], [], σ⟩) v0 v1 σ := by kernel_rfl
theorem P143_1 (E : List (Nat × Blk)) (D : Den) (W : DrawFn) (N : Nat) (σ : H) :
  denC E D W N (C143_1 ) ⟨[], [], [], σ⟩ (Fin143 E) (fun _ _ => none) (Fin143 E) =
  T143_1 E D W   σ := by kernel_rfl
theorem P143_2 (E : List (Nat × Blk)) (D : Den) (W : DrawFn) (N : Nat) (cc1 : XC) (li2 : St → Ans) (v0 : V) (v1 : V) (v7 : Int) (v8 : Int) (σ : H) :
  denC E D W N (C143_2 ) ⟨[(0, v0), (1, v1), (7, (V.int .i64 v7)), (8, (V.int .i64 v8))], [], [], σ⟩ (fun s'' => keepS [(0, .any), (1, .any), (7, (.int .i64)), (8, (.int .i64))] [] [] s'' li2) (blkK 0 (fun s' => denC E D W N (.keep [] [] [] cc1) s' (Fin143 E) (fun _ _ => none) (Fin143 E)) (fun _ _ => none)) (Fin143 E) =
  T143_2 E D W (fun  σ => denC E D W N cc1 ⟨[], [], [], σ⟩ (Fin143 E) (fun _ _ => none) (Fin143 E)) (fun v0 v1 v7 v8 σ => li2 ⟨[(0, v0), (1, v1), (7, (V.int .i64 v7)), (8, (V.int .i64 v8))], [], [], σ⟩) v0 v1 v7 v8 σ := by kernel_rfl
def J143_1 (E : List (Nat × Blk)) (D : Den) (W : DrawFn) (N : Nat) : H → Ans := T143_1 E D W 
theorem JE143_1 (E : List (Nat × Blk)) (D : Den) (W : DrawFn) (N : Nat) (σ : H) :
  denC E D W N C143_1 ⟨[], [], [], σ⟩ (Fin143 E) (fun _ _ => none) (Fin143 E) = J143_1 E D W N  σ := by
  refine (P143_1 E D W N    σ).trans ?_
  kernel_rfl
def L143_2 (E : List (Nat × Blk)) (D : Den) (W : DrawFn) (N : Nat) (n : Nat) : V → V → Int → Int → H → Ans :=
  Nat.rec (fun _ _ _ _ _ => none) (fun _ ih => T143_2 E D W (J143_1 E D W N ) ih) n
theorem LE143_2 (E : List (Nat × Blk)) (D : Den) (W : DrawFn) (N : Nat) (n : Nat) : ∀ (v0 : V) (v1 : V) (v7 : Int) (v8 : Int) (σ : H),
  iterK (fun rec s' => denC E D W N C143_2 s' (fun s'' => keepS [(0, .any), (1, .any), (7, (.int .i64)), (8, (.int .i64))] [] [] s'' rec) (blkK 0 (fun s' => denC E D W N (.keep [] [] [] C143_1) s' (Fin143 E) (fun _ _ => none) (Fin143 E)) (fun _ _ => none)) (Fin143 E)) n ⟨[(0, v0), (1, v1), (7, (V.int .i64 v7)), (8, (V.int .i64 v8))], [], [], σ⟩ = L143_2 E D W N n v0 v1 v7 v8 σ := by
  induction n with
  | zero => intro v0 v1 v7 v8 σ; rfl
  | succ n ihn =>
    intro v0 v1 v7 v8 σ
    rw [iterK_succ]
    refine (P143_2 E D W N C143_1 (iterK (fun rec s' => denC E D W N C143_2 s' (fun s'' => keepS [(0, .any), (1, .any), (7, (.int .i64)), (8, (.int .i64))] [] [] s'' rec) (blkK 0 (fun s' => denC E D W N (.keep [] [] [] C143_1) s' (Fin143 E) (fun _ _ => none) (Fin143 E)) (fun _ _ => none)) (Fin143 E)) n) v0 v1 v7 v8 σ).trans ?_
    simp only [ihn, JE143_1]
    kernel_rfl
def J143_0 (E : List (Nat × Blk)) (D : Den) (W : DrawFn) (N : Nat) : V → V → H → Ans := T143_0 E D W (L143_2 E D W N N)
theorem JE143_0 (E : List (Nat × Blk)) (D : Den) (W : DrawFn) (N : Nat) (v0 : V) (v1 : V) (σ : H) :
  denC E D W N (C143_0 C143_1 C143_2) ⟨[(0, v0), (1, v1)], [], [], σ⟩ (Fin143 E) (fun _ _ => none) (Fin143 E) = J143_0 E D W N v0 v1 σ := by
  refine (P143_0 E D W N C143_1 C143_2  v0 v1 σ).trans ?_
  simp only [LE143_2]
  kernel_rfl
def F143 (E : List (Nat × Blk)) (D : Den) (W : DrawFn) (N : Nat) (args : List V) (σ : H) : Ans :=
 rtCons args fun x1 l2 =>
 rtCons l2 fun x3 l4 =>
 rtNil l4 (
 J143_0 E D W N x1 x3 σ)
def A143 : XFn := ⟨19, [.any, .any], [(.tmp 4)], (C143_0 C143_1 C143_2)⟩
theorem FE143 (E : List (Nat × Blk)) (D : Den) (W : DrawFn) (N : Nat) (args : List V) (σ : H) : runX E D W N A143 args σ = F143 E D W N args σ := by
  unfold F143
  simp only [← JE143_0]
  kernel_rfl
theorem AO143 : A143.body.ok = true := by kernel_rfl

/-! ### F144: ogham_value.Item_1 -/
def Fin144 (E : List (Nat × Blk)) : St → Ans := fun s => resK E s [(.tmp 3)] fun l => some (oneV l, s.σ)
def C144_0 : XC := (.seq (.ops (.op (some 2) .any [0] (.box 229 (.tmp 0)) <|
 .op (some 3) .any [] (.mov (.con (V.bool false))) <|
 .nil))
 (.seq (.ops (.op (some 4) .any [2] (.faddr 1 (.tmp 2)) <|
 .op (some 5) (.int .i64) [4] (.load none (.tmp 4)) <|
 .op (some 6) (.int .i64) [1] (.load none (.tmp 1)) <|
 .op (some 7) .any [5, 6] (.bin .eql .none (.tmp 5) (.tmp 6)) <|
 .op (some 3) .any [7] (.mov (.tmp 7)) <|
 .nil))
 .ret))
def T144_0 (E : List (Nat × Blk)) (D : Den) (W : DrawFn) (v0_0 : BS) (v0_1 : Int) (v0_2 : Bool) (v1 : V) (σ : H) : Ans :=
 chk (allOne (V.cells (V.agg [(V.str v0_0), (V.int .i64 v0_1), (V.bool v0_2)]))) (
 let s1 := newB σ (.cells (V.cells (V.agg [(V.str v0_0), (V.int .i64 v0_1), (V.bool v0_2)])));
 ldK E s1 (H.next σ) 1 fun u2 =>
 rtInt .i64 u2 fun x3 =>
 rtPtr v1 fun b4 o5 =>
 ldK E s1 b4 o5 fun u6 =>
 rtInt .i64 u6 fun x7 =>
 some ((V.bool (eqF x3 x7)), s1))
theorem P144_0 (E : List (Nat × Blk)) (D : Den) (W : DrawFn) (N : Nat) (v0_0 : BS) (v0_1 : Int) (v0_2 : Bool) (v1 : V) (σ : H) :
  denC E D W N (C144_0 ) ⟨[(0, (V.agg [(V.str v0_0), (V.int .i64 v0_1), (V.bool v0_2)])), (1, v1)], [], [], σ⟩ (Fin144 E) (fun _ _ => none) (Fin144 E) =
  T144_0 E D W  v0_0 v0_1 v0_2 v1 σ := by kernel_rfl
def J144_0 (E : List (Nat × Blk)) (D : Den) (W : DrawFn) (N : Nat) : BS → Int → Bool → V → H → Ans := T144_0 E D W 
theorem JE144_0 (E : List (Nat × Blk)) (D : Den) (W : DrawFn) (N : Nat) (v0_0 : BS) (v0_1 : Int) (v0_2 : Bool) (v1 : V) (σ : H) :
  denC E D W N C144_0 ⟨[(0, (V.agg [(V.str v0_0), (V.int .i64 v0_1), (V.bool v0_2)])), (1, v1)], [], [], σ⟩ (Fin144 E) (fun _ _ => none) (Fin144 E) = J144_0 E D W N v0_0 v0_1 v0_2 v1 σ := by
  refine (P144_0 E D W N   v0_0 v0_1 v0_2 v1 σ).trans ?_
  kernel_rfl
def F144 (E : List (Nat × Blk)) (D : Den) (W : DrawFn) (N : Nat) (args : List V) (σ : H) : Ans :=
 rtCons args fun x1 l2 =>
 rtAgg x1 fun l3 =>
 rtCons l3 fun x4 l5 =>
 rtStr x4 fun x6 =>
 rtCons l5 fun x7 l8 =>
 rtInt .i64 x7 fun x9 =>
 rtCons l8 fun x10 l11 =>
 rtBool x10 fun x12 =>
 rtNil l11 (
 rtCons l2 fun x13 l14 =>
 rtNil l14 (
 J144_0 E D W N x6 x9 x12 x13 σ))
def A144 : XFn := ⟨8, [(.agg [.str, (.int .i64), .bool]), .any], [(.tmp 3)], C144_0⟩
theorem FE144 (E : List (Nat × Blk)) (D : Den) (W : DrawFn) (N : Nat) (args : List V) (σ : H) : runX E D W N A144 args σ = F144 E D W N args σ := by
  unfold F144
  simp only [← JE144_0]
  kernel_rfl
theorem AO144 : A144.body.ok = true := by kernel_rfl

def C146_0 : XC := (.seq (.ops (.op (some 0) .any [] (.mov (.con V.nils)) <|
 .nil))
 (.seq (.ops (.op (some 1) .any [] (.buildSlice 9 25 [(V.str ⟨0, 0⟩), (V.str ⟨0, 0⟩), (V.str ⟨0, 0⟩), (V.str ⟨0, 0⟩), (V.str ⟨0, 0⟩), (V.str ⟨0, 0⟩), (V.str ⟨0, 0⟩), (V.str ⟨0, 0⟩), (V.str ⟨0, 0⟩), (V.str ⟨0, 0⟩), (V.str ⟨0, 0⟩), (V.str ⟨0, 0⟩), (V.str ⟨0, 0⟩), (V.str ⟨0, 0⟩), (V.str ⟨0, 0⟩), (V.str ⟨0, 0⟩), (V.str ⟨0, 0⟩), (V.str ⟨0, 0⟩), (V.str ⟨0, 0⟩), (V.str ⟨0, 0⟩), (V.str ⟨0, 0⟩), (V.str ⟨0, 0⟩), (V.str ⟨0, 0⟩), (V.str ⟨0, 0⟩), (V.str ⟨0, 0⟩)] [(0, 1, (.con (V.str ⟨11, 100710650190388740279911748⟩))), (1, 1, (.con (V.str ⟨8, 6073459554577832005⟩))), (2, 1, (.con (V.str ⟨8, 6073459554577829193⟩))), (3, 1, (.con (V.str ⟨9, 1241215773001651606849⟩))), (4, 1, (.con (V.str ⟨4, 1397178708⟩))), (5, 1, (.con (V.str ⟨5, 336236856642⟩))), (6, 1, (.con (V.str ⟨3, 4476485⟩))), (7, 1, (.con (V.str ⟨7, 22026814072246082⟩))), (8, 1, (.con (V.str ⟨7, 23157120498421321⟩))), (9, 1, (.con (V.str ⟨10, 322399817400452109389381⟩))), (10, 1, (.con (V.str ⟨4, 1280070990⟩))), (11, 1, (.con (V.str ⟨5, 361940403023⟩))), (12, 1, (.con (V.str ⟨6, 78401563153491⟩))), (13, 1, (.con (V.str ⟨10, 488440487847103610377301⟩))), (14, 1, (.con (V.str ⟨8, 4990918871747741011⟩))), (15, 1, (.con (V.str ⟨3, 5522771⟩))), (16, 1, (.con (V.str ⟨6, 76155295057987⟩))), (17, 1, (.con (V.str ⟨2, 17999⟩))), (18, 1, (.con (V.str ⟨8, 5494759122808361039⟩))), (19, 1, (.con (V.str ⟨7, 23727827094750532⟩))), (20, 1, (.con (V.str ⟨4, 1163544915⟩))), (21, 1, (.con (V.str ⟨3, 5130573⟩))), (22, 1, (.con (V.str ⟨3, 5783885⟩))), (23, 1, (.con (V.str ⟨4, 1163219540⟩))), (24, 1, (.con (V.str ⟨5, 297750249798⟩)))]) <|
 .op (some 0) .any [1] (.mov (.tmp 1)) <|
 .nil))
 .ret))
def A146 : XFn := ⟨2, [], [(.tmp 0)], C146_0⟩
def G148_0 : List AOper := [⟨(some 35), .mov (.tmp 1), none⟩, ⟨(some 36), .mov (.tmp 1), none⟩, ⟨(some 37), .nilck (.tmp 36), none⟩, ⟨(some 38), .faddr 12 (.tmp 37), none⟩, ⟨(some 39), .load none (.tmp 38), none⟩, ⟨(some 40), .load (some 11) (.tmp 8), none⟩, ⟨(some 41), .buildSlice 170 1 [(V.str ⟨0, 0⟩), (V.int .i64 (Int.ofNat 0)), (V.bool false), (V.bool false), (V.int .i64 (Int.ofNat 0)), (V.int .i64 (Int.ofNat 0)), V.nils, V.nils, (V.int .i64 (Int.ofNat 0)), V.nils, (V.int .i64 (Int.ofNat 0))] [(0, 11, (.tmp 40))], none⟩, ⟨(some 42), .append 170 11 136 (.tmp 39) (.tmp 41), none⟩, ⟨(some 43), .nilck (.tmp 35), none⟩, ⟨(some 44), .faddr 12 (.tmp 43), none⟩, ⟨none, .store 1 (.tmp 44) (.tmp 42), none⟩]
def H148_0 : List DP := [⟨0, [1]⟩, ⟨0, [1]⟩, ⟨2, [36]⟩, ⟨6, [37]⟩, ⟨14, [38]⟩, ⟨0, [8]⟩, ⟨32, [40]⟩, ⟨126, [39, 41]⟩, ⟨255, [35]⟩, ⟨511, [43]⟩, ⟨1023, [44, 42]⟩]
def C148_0 (cc1 : XC) : XC := (.seq (.ops (.op (some 9) .any [0] (.mov (.tmp 0)) <|
 .op (some 10) .str [9] (.call 17 [(.tmp 9), (.con (V.int .i64 (Int.ofNat 2)))]) <|
 .op (some 11) .any [3] (.mov (.tmp 3)) <|
 .op (some 12) (.agg [.str, (.int .i64), .bool, .bool, (.int .i64), (.int .i64), .any, .any, (.int .i64), .any, (.int .i64)]) [10, 11] (.build [(V.str ⟨0, 0⟩), (V.int .i64 (Int.ofNat 0)), (V.bool false), (V.bool false), (V.int .i64 (Int.ofNat 0)), (V.int .i64 (Int.ofNat 0)), V.nils, V.nils, (V.int .i64 (Int.ofNat 0)), V.nils, (V.int .i64 (Int.ofNat 0))] [(0, 1, (.tmp 10)), (10, 1, (.tmp 11))]) <|
 .op (some 8) .any [] (.alloc 170 [(V.str ⟨0, 0⟩), (V.int .i64 (Int.ofNat 0)), (V.bool false), (V.bool false), (V.int .i64 (Int.ofNat 0)), (V.int .i64 (Int.ofNat 0)), V.nils, V.nils, (V.int .i64 (Int.ofNat 0)), V.nils, (V.int .i64 (Int.ofNat 0))]) <|
 .op none (.agg [.str, (.int .i64), .bool, .bool, (.int .i64), (.int .i64), .any, .any, (.int .i64), .any, (.int .i64)]) [8, 12] (.store 11 (.tmp 8) (.tmp 12)) <|
 .nil))
 (.seq (.ops (.op (some 13) .any [0] (.mov (.tmp 0)) <|
 .op (some 14) .any [2] (.mov (.tmp 2)) <|
 .op (some 15) .any [14] (.bin .add .none (.tmp 14) (.con (V.int .i64 (Int.ofNat 1)))) <|
 .op (some 16) (.int .i64) [13, 15] (.call 22 [(.tmp 13), (.tmp 15)]) <|
 .op (some 17) .any [8] (.faddr 1 (.tmp 8)) <|
 .op none .any [17, 16] (.store 1 (.tmp 17) (.tmp 16)) <|
 .nil))
 (.seq (.block 0 (.seq (.ops (.op (some 19) .any [1] (.mov (.tmp 1)) <|
 .op (some 20) .any [19] (.nilck (.tmp 19)) <|
 .op (some 21) .any [20] (.faddr 0 (.tmp 20)) <|
 .op (some 22) (.int .i64) [21] (.load none (.tmp 21)) <|
 .op (some 23) .any [22] (.bin .eql .none (.tmp 22) (.con (V.int .i64 (Int.ofNat 9)))) <|
 .op (some 18) .any [23] (.mov (.tmp 23)) <|
 .nil))
 (.cond (.tmp 18) .skip
 (.seq (.ops (.op (some 25) .any [0] (.mov (.tmp 0)) <|
 .op (some 26) .bool [25] (.call 19 [(.tmp 25), (.con (V.str ⟨8, 5494759122808361039⟩))]) <|
 .op (some 24) .any [26] (.mov (.tmp 26)) <|
 .nil))
 (.cond (.tmp 24) (.ops (.op (some 27) .any [8] (.faddr 2 (.tmp 8)) <|
 .op none .any [27] (.store 1 (.tmp 27) (.con (V.bool true))) <|
 .nil))
 (.seq (.ops (.op (some 29) .any [0] (.mov (.tmp 0)) <|
 .op (some 30) .bool [29] (.call 19 [(.tmp 29), (.con (V.str ⟨7, 23727827094750532⟩))]) <|
 .op (some 28) .any [30] (.mov (.tmp 30)) <|
 .nil))
 (.cond (.tmp 28) (.ops (.op (some 31) .any [0] (.mov (.tmp 0)) <|
 .op (some 32) (.agg [(.int .i64), (.int .i64), .any, .any, (.int .i64), .any]) [31] (.call 217 [(.tmp 31)]) <|
 .op (some 33) .any [8] (.faddr 3 (.tmp 8)) <|
 .op none .any [33] (.store 1 (.tmp 33) (.con (V.bool true))) <|
 .op (some 34) .any [8] (.faddr 4 (.tmp 8)) <|
 .op none (.agg [(.int .i64), (.int .i64), .any, .any, (.int .i64), .any]) [34, 32] (.store 6 (.tmp 34) (.tmp 32)) <|
 .nil))
 .skip)))))))
 (.keep [(1, .ptr), (8, .ptr)] [] [] cc1))))
def C148_1 : XC := (.keep [(1, .ptr), (8, .ptr)] [] [] (.gdraw G148_0 H148_0 []))
def A148 : XFn := ⟨45, [.any, .ptr, (.int .i64), (.int .i64)], [], (C148_0 C148_1)⟩
def C149_0 (cc1 : XC) (cc2 : XC) : XC := (.seq (.ops (.op (some 4) .any [] (.mov (.con (V.bool false))) <|
 .nil))
 (.seq (.seq (.ops (.op (some 5) .any [] (.mov (.con (V.int .i64 (Int.ofNat 0)))) <|
 .nil))
 (.block 0 (.loop [(0, .any), (1, (.int .i64)), (5, (.int .i64))] [] [] cc2)))
 (.keep [] [] [] cc1)))
def C149_1 : XC := (.seq (.ops (.op (some 4) .any [] (.mov (.con (V.bool false))) <|
 .nil))
 .ret)
def C149_2 : XC := (.seq (.seq (.ops (.op (some 6) .any [5] (.mov (.tmp 5)) <|
 .op (some 7) .any [0] (.mov (.tmp 0)) <|
 .op (some 8) .any [7] (.len false (.tmp 7)) <|
 .op (some 9) .any [6, 8] (.bin .lss .none (.tmp 6) (.tmp 8)) <|
 .nil))
 (.cond (.tmp 9) .skip
 (.exit 0)))
 (.seq (.block 1 (.seq (.ops (.op (some 12) .any [0] (.mov (.tmp 0)) <|
 .op (some 13) .any [5] (.mov (.tmp 5)) <|
 .op (some 14) .any [12, 13] (.iaddrS 3 (.tmp 12) (.tmp 13)) <|
 .op (some 15) .any [14] (.faddr 2 (.tmp 14)) <|
 .op (some 16) .bool [15] (.load none (.tmp 15)) <|
 .op (some 17) .any [16] (.mov (.tmp 16)) <|
 .grp 17 true (.op (some 18) .any [0, 17] (.mov (.tmp 0)) <|
 .op (some 19) .any [5, 17] (.mov (.tmp 5)) <|
 .op (some 20) .any [18, 19, 17] (.iaddrS 3 (.tmp 18) (.tmp 19)) <|
 .op (some 21) .any [20, 17] (.faddr 1 (.tmp 20)) <|
 .op (some 22) (.int .i64) [21, 17] (.load none (.tmp 21)) <|
 .op (some 23) .any [1, 17] (.mov (.tmp 1)) <|
 .op (some 24) .any [22, 23, 17] (.bin .eql .none (.tmp 22) (.tmp 23)) <|
 .nil) 25 [17, 24] (.tmp 17) (.tmp 24) (.con (V.bool false)) <|
 .nil))
 (.cond (.tmp 25) (.seq (.ops (.op (some 4) .any [] (.mov (.con (V.bool true))) <|
 .nil))
 .ret)
 .skip)))
 (.ops (.op (some 10) .any [5] (.mov (.tmp 5)) <|
 .op (some 11) .any [10] (.bin .add .none (.tmp 10) (.con (V.int .i64 (Int.ofNat 1)))) <|
 .op (some 5) .any [11] (.mov (.tmp 11)) <|
 .nil))))
def A149 : XFn := ⟨26, [.any, (.int .i64)], [(.tmp 4)], (C149_0 C149_1 C149_2)⟩
def G151_0 : List AOper := [⟨(some 59), .faddr 11 (.tmp 3), none⟩, ⟨(some 60), .load none (.tmp 59), none⟩, ⟨(some 61), .un .not (.tmp 60), none⟩, ⟨(some 62), .mov (.tmp 61), none⟩, ⟨(some 63), .mov (.tmp 0), (some (62, false))⟩, ⟨(some 64), .faddr 9 (.tmp 3), (some (62, false))⟩, ⟨(some 65), .load none (.tmp 64), (some (62, false))⟩, ⟨(some 66), .load (some 13) (.tmp 3), (some (62, false))⟩, ⟨(some 67), .call 221 [(.tmp 66)], (some (62, false))⟩, ⟨(some 68), .sliceSl 11 (.tmp 65) (some (.tmp 67)) none none, (some (62, false))⟩, ⟨(some 69), .call 219 [(.tmp 63), (.tmp 68), (.con (V.bool true))], (some (62, false))⟩, ⟨(some 70), .pick (.tmp 62) (.con (V.bool true)) (.tmp 69), none⟩, ⟨(some 4), .mov (.tmp 70), none⟩]
def H151_0 : List DP := [⟨0, [3]⟩, ⟨1, [59]⟩, ⟨3, [60]⟩, ⟨7, [61]⟩, ⟨15, [0, 62]⟩, ⟨15, [3, 62]⟩, ⟨47, [64, 62]⟩, ⟨15, [3, 62]⟩, ⟨143, [66, 62]⟩, ⟨495, [65, 67, 62]⟩, ⟨1023, [63, 68, 62]⟩, ⟨2047, [62, 69]⟩, ⟨4095, [70]⟩]
def C151_0 (cc1 : XC) (cc2 : XC) : XC := (.seq (.ops (.op (some 3) .any [1] (.box 165 (.tmp 1)) <|
 .op (some 4) .any [] (.mov (.con (V.bool false))) <|
 .nil))
 (.seq (.seq (.ops (.op (some 8) .any [3] (.faddr 0 (.tmp 3)) <|
 .op (some 9) (.int .i64) [8] (.load none (.tmp 8)) <|
 .op (some 10) .any [9] (.bin .neq .none (.tmp 9) (.con (V.int .i64 (Int.ofNat 7)))) <|
 .nil))
 (.cond (.tmp 10) (.seq (.ops (.op (some 11) .any [0] (.mov (.tmp 0)) <|
 .op (some 12) .any [3] (.faddr 9 (.tmp 3)) <|
 .op (some 13) .any [12] (.load none (.tmp 12)) <|
 .op (some 14) .any [3] (.faddr 11 (.tmp 3)) <|
 .op (some 15) .bool [14] (.load none (.tmp 14)) <|
 .op (some 16) .bool [11, 13, 15] (.call 219 [(.tmp 11), (.tmp 13), (.tmp 15)]) <|
 .op (some 4) .any [16] (.mov (.tmp 16)) <|
 .nil))
 .ret)
 .skip))
 (.seq (.ops (.op (some 17) (.agg [(.int .i64), .any, .bool, .bool, .bool, .bool, (.int .i64), (.int .i64), .any, .any, (.int .i64), .bool, (.int .i64)]) [3] (.load (some 13) (.tmp 3)) <|
 .op (some 18) .one [17] (.call 220 [(.tmp 17)]) <|
 .op (some 5) .any [18] (.mov (.tmp 18)) <|
 .nil))
 (.seq (.seq (.ops (.op (some 6) .any [] (.mov (.con (V.int .i64 (Int.ofNat 0)))) <|
 .nil))
 (.block 0 (.loop [(0, .any), (3, .ptr), (5, .any), (6, (.int .i64))] [] [] cc2)))
 (.keep [(0, .any), (3, .ptr)] [] [] cc1)))))
def C151_1 : XC := (.seq (.keep [(0, .any), (3, .ptr)] [] [] (.gdraw G151_0 H151_0 [(4, .bool)]))
 .ret)
def C151_2 (cc3 : XC) (cc4 : XC) (cc5 : XC) : XC := (.seq (.seq (.ops (.op (some 19) .any [6] (.mov (.tmp 6)) <|
 .op (some 20) .any [3] (.faddr 9 (.tmp 3)) <|
 .op (some 21) .any [20] (.load none (.tmp 20)) <|
 .op (some 22) .any [21] (.len false (.tmp 21)) <|
 .op (some 23) .any [19, 22] (.bin .lss .none (.tmp 19) (.tmp 22)) <|
 .nil))
 (.cond (.tmp 23) .skip
 (.exit 0)))
 (.seq (.block 1 (.seq (.seq (.ops (.op (some 26) .any [5] (.mov (.tmp 5)) <|
 .op (some 27) .any [6] (.mov (.tmp 6)) <|
 .op (some 28) .any [26, 27] (.iaddrS 1 (.tmp 26) (.tmp 27)) <|
 .op (some 29) .bool [28] (.load none (.tmp 28)) <|
 .op (some 30) .any [29] (.un .not (.tmp 29)) <|
 .nil))
 (.cond (.tmp 30) (.exit 1)
 .skip))
 (.seq (.ops (.op (some 31) .any [6] (.mov (.tmp 6)) <|
 .op (some 32) .any [31] (.bin .add .none (.tmp 31) (.con (V.int .i64 (Int.ofNat 1)))) <|
 .op (some 7) .any [32] (.mov (.tmp 32)) <|
 .nil))
 (.seq (.block 2 (.loop [(0, .any), (3, .ptr), (5, .any), (6, (.int .i64)), (7, (.int .i64))] [] [] cc5))
 (.keep [(0, .any), (3, .ptr), (5, .any), (6, (.int .i64)), (7, (.int .i64))] [] [] cc4)))))
 (.keep [(0, .any), (3, .ptr), (5, .any), (6, (.int .i64))] [] [] cc3)))
def C151_3 : XC := (.ops (.op (some 24) .any [6] (.mov (.tmp 6)) <|
 .op (some 25) .any [24] (.bin .add .none (.tmp 24) (.con (V.int .i64 (Int.ofNat 1)))) <|
 .op (some 6) .any [25] (.mov (.tmp 25)) <|
 .nil))
def C151_4 : XC := (.seq (.ops (.op (some 46) .any [0] (.mov (.tmp 0)) <|
 .op (some 47) .any [3] (.faddr 9 (.tmp 3)) <|
 .op (some 48) .any [47] (.load none (.tmp 47)) <|
 .op (some 49) .any [6] (.mov (.tmp 6)) <|
 .op (some 50) .any [7] (.mov (.tmp 7)) <|
 .op (some 51) .any [50] (.bin .add .none (.tmp 50) (.con (V.int .i64 (Int.ofNat 1)))) <|
 .op (some 52) .any [3] (.faddr 9 (.tmp 3)) <|
 .op (some 53) .any [52] (.load none (.tmp 52)) <|
 .op (some 54) .any [53] (.len false (.tmp 53)) <|
 .op (some 55) .any [51, 54] (.min (.tmp 51) [(.tmp 54)]) <|
 .op (some 56) .any [48, 49, 55] (.sliceSl 11 (.tmp 48) (some (.tmp 49)) (some (.tmp 55)) none) <|
 .op (some 57) .bool [46, 56] (.call 219 [(.tmp 46), (.tmp 56), (.con (V.bool false))]) <|
 .op (some 58) .any [57] (.un .not (.tmp 57)) <|
 .nil))
 (.cond (.tmp 58) (.seq (.ops (.op (some 4) .any [] (.mov (.con (V.bool false))) <|
 .nil))
 .ret)
 .skip))
def C151_5 : XC := (.seq (.seq (.ops (.op (some 33) .any [7] (.mov (.tmp 7)) <|
 .op (some 34) .any [3] (.faddr 9 (.tmp 3)) <|
 .op (some 35) .any [34] (.load none (.tmp 34)) <|
 .op (some 36) .any [35] (.len false (.tmp 35)) <|
 .op (some 37) .any [33, 36] (.bin .lss .none (.tmp 33) (.tmp 36)) <|
 .op (some 38) .any [37] (.mov (.tmp 37)) <|
 .grp 38 true (.op (some 39) .any [5, 38] (.mov (.tmp 5)) <|
 .op (some 40) .any [7, 38] (.mov (.tmp 7)) <|
 .op (some 41) .any [39, 40, 38] (.iaddrS 1 (.tmp 39) (.tmp 40)) <|
 .op (some 42) .bool [41, 38] (.load none (.tmp 41)) <|
 .nil) 43 [38, 42] (.tmp 38) (.tmp 42) (.con (V.bool false)) <|
 .nil))
 (.cond (.tmp 43) .skip
 (.exit 2)))
 (.block 3 (.ops (.op (some 44) .any [7] (.mov (.tmp 7)) <|
 .op (some 45) .any [44] (.bin .add .none (.tmp 44) (.con (V.int .i64 (Int.ofNat 1)))) <|
 .op (some 7) .any [45] (.mov (.tmp 45)) <|
 .nil))))
def A151 : XFn := ⟨71, [.any, (.agg [(.int .i64), .any, .bool, .bool, .bool, .bool, (.int .i64), (.int .i64), .any, .any, (.int .i64), .bool, (.int .i64)])], [(.tmp 4)], (C151_0 C151_1 (C151_2 C151_3 C151_4 C151_5))⟩
/-! ### F152: ogham_octets.Join -/
def Fin152 (E : List (Nat × Blk)) : St → Ans := fun s => resK E s [(.tmp 2)] fun l => some (oneV l, s.σ)
def C152_0 (cc1 : XC) (cc2 : XC) : XC := (.seq (.ops (.op (some 2) .any [] (.mov (.con V.nils)) <|
 .nil))
 (.seq (.ops (.op (some 3) .any [] (.mov (.con V.nils)) <|
 .nil))
 (.seq (.seq (.ops (.op (some 6) .any [0] (.mov (.tmp 0)) <|
 .op (some 7) .any [6] (.len false (.tmp 6)) <|
 .op (some 8) .any [] (.mov (.con (V.int .i64 (Int.ofNat 0)))) <|
 .nil))
 (.block 0 (.loop [(3, .any), (6, .any), (7, (.int .i64)), (8, (.int .i64))] [] [] cc2)))
 (.keep [(3, .any)] [] [] cc1))))
def T152_0 (E : List (Nat × Blk)) (D : Den) (W : DrawFn) (K2 : V → V → Int → Int → H → Ans) (v0 : V) (σ : H) : Ans :=
 slenK v0 fun n1 =>
 K2 V.nils v0 (Int.ofNat n1) (Int.ofNat 0) σ
def C152_1 : XC := (.seq (.ops (.op (some 16) .any [3] (.mov (.tmp 3)) <|
 .op (some 2) .any [16] (.mov (.tmp 16)) <|
 .nil))
 .ret)
def T152_1 (E : List (Nat × Blk)) (D : Den) (W : DrawFn) (v3 : V) (σ : H) : Ans :=
 some (v3, σ)
def C152_2 : XC := (.seq (.ops (.op (some 9) .any [8, 7] (.bin .lss .none (.tmp 8) (.tmp 7)) <|
 .nil))
 (.seq (.cond (.tmp 9) .skip
 (.exit 0))
 (.seq (.block 1 (.seq (.ops (.op (some 10) .any [6, 8] (.iaddrS 1 (.tmp 6) (.tmp 8)) <|
 .op (some 11) .any [10] (.load none (.tmp 10)) <|
 .op (some 5) .any [11] (.mov (.tmp 11)) <|
 .nil))
 (.ops (.op (some 12) .any [3] (.mov (.tmp 3)) <|
 .op (some 13) .any [5] (.mov (.tmp 5)) <|
 .op (some 14) .one [12, 13] (.append 5 1 1 (.tmp 12) (.tmp 13)) <|
 .op (some 3) .any [14] (.mov (.tmp 14)) <|
 .nil))))
 (.ops (.op (some 15) .any [8] (.bin .add .none (.tmp 8) (.con (V.int .i64 (Int.ofNat 1)))) <|
 .op (some 8) .any [15] (.mov (.tmp 15)) <|
 .nil)))))
def T152_2 (E : List (Nat × Blk)) (D : Den) (W : DrawFn) (K1 : V → H → Ans) (R2 : V → V → Int → Int → H → Ans) (v3 : V) (v6 : V) (v7 : Int) (v8 : Int) (σ : H) : Ans :=
 condK (ltF v8 v7) (
 iaddrSK 1 v6 v8 fun b1 o2 =>
 ldK E σ b1 o2 fun u3 =>
 appK E 1 1 v3 u3 σ fun u4 s5 =>
 rtOne u4 (
 R2 u4 v6 v7 (addF .i64 v8 (Int.ofNat 1)) s5)) (
 K1 v3 σ)
theorem P152_0 (E : List (Nat × Blk)) (D : Den) (W : DrawFn) (N : Nat) (cc1 : XC) (cc2 : XC) (v0 : V) (σ : H) :
  denC E D W N (C152_0 cc1 cc2) ⟨[(0, v0)], [], [], σ⟩ (Fin152 E) (fun _ _ => none) (Fin152 E) =
  T152_0 E D W (fun v3 v6 v7 v8 σ => iterK (fun rec s' => denC E D W N cc2 s' (fun s'' => keepS [(3, .any), (6, .any), (7, (.int .i64)), (8, (.int .i64))] [] [] s'' rec) (blkK 0 (fun s' => denC E D W N (.keep [(3, .any)] [] [] cc1) s' (Fin152 E) (fun _ _ => none) (Fin152 E)) (fun _ _ => none)) (Fin152 E)) N ⟨[(3, v3), (6, v6), (7, (V.int .i64 v7)), (8, (V.int .i64 v8))], [], [], σ⟩) v0 σ := by kernel_rfl
theorem P152_1 (E : List (Nat × Blk)) (D : Den) (W : DrawFn) (N : Nat) (v3 : V) (σ : H) :
  denC E D W N (C152_1 ) ⟨[(3, v3)], [], [], σ⟩ (Fin152 E) (fun _ _ => none) (Fin152 E) =
  T152_1 E D W  v3 σ := by kernel_rfl
theorem P152_2 (E : List (Nat × Blk)) (D : Den) (W : DrawFn) (N : Nat) (cc1 : XC) (li2 : St → Ans) (v3 : V) (v6 : V) (v7 : Int) (v8 : Int) (σ : H) :
  denC E D W N (C152_2 ) ⟨[(3, v3), (6, v6), (7, (V.int .i64 v7)), (8, (V.int .i64 v8))], [], [], σ⟩ (fun s'' => keepS [(3, .any), (6, .any), (7, (.int .i64)), (8, (.int .i64))] [] [] s'' li2) (blkK 0 (fun s' => denC E D W N (.keep [(3, .any)] [] [] cc1) s' (Fin152 E) (fun _ _ => none) (Fin152 E)) (fun _ _ => none)) (Fin152 E) =
  T152_2 E D W (fun v3 σ => denC E D W N cc1 ⟨[(3, v3)], [], [], σ⟩ (Fin152 E) (fun _ _ => none) (Fin152 E)) (fun v3 v6 v7 v8 σ => li2 ⟨[(3, v3), (6, v6), (7, (V.int .i64 v7)), (8, (V.int .i64 v8))], [], [], σ⟩) v3 v6 v7 v8 σ := by kernel_rfl
def J152_1 (E : List (Nat × Blk)) (D : Den) (W : DrawFn) (N : Nat) : V → H → Ans := T152_1 E D W 
theorem JE152_1 (E : List (Nat × Blk)) (D : Den) (W : DrawFn) (N : Nat) (v3 : V) (σ : H) :
  denC E D W N C152_1 ⟨[(3, v3)], [], [], σ⟩ (Fin152 E) (fun _ _ => none) (Fin152 E) = J152_1 E D W N v3 σ := by
  refine (P152_1 E D W N   v3 σ).trans ?_
  kernel_rfl
def L152_2 (E : List (Nat × Blk)) (D : Den) (W : DrawFn) (N : Nat) (n : Nat) : V → V → Int → Int → H → Ans :=
  Nat.rec (fun _ _ _ _ _ => none) (fun _ ih => T152_2 E D W (J152_1 E D W N ) ih) n
theorem LE152_2 (E : List (Nat × Blk)) (D : Den) (W : DrawFn) (N : Nat) (n : Nat) : ∀ (v3 : V) (v6 : V) (v7 : Int) (v8 : Int) (σ : H),
  iterK (fun rec s' => denC E D W N C152_2 s' (fun s'' => keepS [(3, .any), (6, .any), (7, (.int .i64)), (8, (.int .i64))] [] [] s'' rec) (blkK 0 (fun s' => denC E D W N (.keep [(3, .any)] [] [] C152_1) s' (Fin152 E) (fun _ _ => none) (Fin152 E)) (fun _ _ => none)) (Fin152 E)) n ⟨[(3, v3), (6, v6), (7, (V.int .i64 v7)), (8, (V.int .i64 v8))], [], [], σ⟩ = L152_2 E D W N n v3 v6 v7 v8 σ := by
  induction n with
  | zero => intro v3 v6 v7 v8 σ; rfl
  | succ n ihn =>
    intro v3 v6 v7 v8 σ
    rw [iterK_succ]
    refine (P152_2 E D W N C152_1 (iterK (fun rec s' => denC E D W N C152_2 s' (fun s'' => keepS [(3, .any), (6, .any), (7, (.int .i64)), (8, (.int .i64))] [] [] s'' rec) (blkK 0 (fun s' => denC E D W N (.keep [(3, .any)] [] [] C152_1) s' (Fin152 E) (fun _ _ => none) (Fin152 E)) (fun _ _ => none)) (Fin152 E)) n) v3 v6 v7 v8 σ).trans ?_
    simp only [ihn, JE152_1]
    kernel_rfl
def J152_0 (E : List (Nat × Blk)) (D : Den) (W : DrawFn) (N : Nat) : V → H → Ans := T152_0 E D W (L152_2 E D W N N)
theorem JE152_0 (E : List (Nat × Blk)) (D : Den) (W : DrawFn) (N : Nat) (v0 : V) (σ : H) :
  denC E D W N (C152_0 C152_1 C152_2) ⟨[(0, v0)], [], [], σ⟩ (Fin152 E) (fun _ _ => none) (Fin152 E) = J152_0 E D W N v0 σ := by
  refine (P152_0 E D W N C152_1 C152_2  v0 σ).trans ?_
  simp only [LE152_2]
  kernel_rfl
def F152 (E : List (Nat × Blk)) (D : Den) (W : DrawFn) (N : Nat) (args : List V) (σ : H) : Ans :=
 rtCons args fun x1 l2 =>
 rtNil l2 (
 J152_0 E D W N x1 σ)
def A152 : XFn := ⟨17, [.any], [(.tmp 2)], (C152_0 C152_1 C152_2)⟩
theorem FE152 (E : List (Nat × Blk)) (D : Den) (W : DrawFn) (N : Nat) (args : List V) (σ : H) : runX E D W N A152 args σ = F152 E D W N args σ := by
  unfold F152
  simp only [← JE152_0]
  kernel_rfl
theorem AO152 : A152.body.ok = true := by kernel_rfl

def C153_0 : XC := (.seq (.ops (.op (some 3) .any [0] (.box 182 (.tmp 0)) <|
 .op (some 6) .any [] (.mov (.con V.nils)) <|
 .nil))
 (.seq (.ops (.op (some 8) .any [2] (.mov (.tmp 2)) <|
 .op (some 9) .one [8] (.call 152 [(.tmp 8)]) <|
 .op (some 7) .any [9] (.mov (.tmp 9)) <|
 .nil))
 (.seq (.ops (.op (some 10) (.agg [(.int .i64), (.int .i64)]) [3] (.load (some 2) (.tmp 3)) <|
 .op (some 11) .any [1] (.mov (.tmp 1)) <|
 .op (some 12) .any [7] (.mov (.tmp 7)) <|
 .op (some 13) .any [12] (.len false (.tmp 12)) <|
 .op (some 14) .one [10, 11, 13] (.call 222 [(.tmp 10), (.tmp 11), (.tmp 13)]) <|
 .op (some 15) .any [7] (.mov (.tmp 7)) <|
 .op (some 16) .any [14, 15] (.buildSlice 31 2 [V.nils, V.nils] [(0, 1, (.tmp 14)), (1, 1, (.tmp 15))]) <|
 .op (some 17) .one [16] (.call 152 [(.tmp 16)]) <|
 .op (some 6) .any [17] (.mov (.tmp 17)) <|
 .nil))
 .ret)))
def A153 : XFn := ⟨18, [(.agg [(.int .i64), (.int .i64)]), .bool, .any], [(.tmp 6)], C153_0⟩
/-! ### F154: ogham_octets.octets -/
def Fin154 (E : List (Nat × Blk)) : St → Ans := fun s => resK E s [(.tmp 4)] fun l => some (oneV l, s.σ)
def C154_0 (cc1 : XC) (cc2 : XC) : XC := (.seq (.ops (.op (some 4) .any [] (.mov (.con V.nils)) <|
 .nil))
 (.seq (.ops (.op (some 7) .any [1] (.mov (.tmp 1)) <|
 .op (some 8) .any [7, 7] (.mkslice 5 1 1 [(V.int .u8 (Int.ofNat 0))] (.tmp 7) (.tmp 7)) <|
 .op (some 5) .any [8] (.mov (.tmp 8)) <|
 .nil))
 (.seq (.seq (.ops (.op (some 9) .any [1] (.mov (.tmp 1)) <|
 .op (some 10) .any [] (.mov (.con (V.int .i64 (Int.ofNat 0)))) <|
 .nil))
 (.block 0 (.loop [(0, (.int .u64)), (1, (.int .i64)), (5, .any), (9, (.int .i64)), (10, (.int .i64))] [] [] cc2)))
 (.keep [(5, .any)] [] [] cc1))))
def T154_0 (E : List (Nat × Blk)) (D : Den) (W : DrawFn) (K2 : Int → Int → V → Int → Int → H → Ans) (v0 : Int) (v1 : Int) (σ : H) : Ans :=
 nnK v1 fun n1 =>
 nnK v1 fun n2 =>
 chk (Nat.ble n1 n2 && Nat.ble (n2 * 1) 281474976710656 && Nat.ble n2 1000000000000) (
 let s3 := newB σ (.cells (List.replicate n2 [(V.int .u8 (Int.ofNat 0))]).flatten);
 K2 v0 v1 (V.sl (H.next σ) 0 n1 (.ex n2)) v1 (Int.ofNat 0) s3)
def C154_1 : XC := (.seq (.ops (.op (some 25) .any [5] (.mov (.tmp 5)) <|
 .op (some 4) .any [25] (.mov (.tmp 25)) <|
 .nil))
 .ret)
def T154_1 (E : List (Nat × Blk)) (D : Den) (W : DrawFn) (v5 : V) (σ : H) : Ans :=
 some (v5, σ)
def C154_2 : XC := (.seq (.ops (.op (some 11) .any [10, 9] (.bin .lss .none (.tmp 10) (.tmp 9)) <|
 .nil))
 (.seq (.cond (.tmp 11) .skip
 (.exit 0))
 (.seq (.block 1 (.seq (.ops (.op (some 12) .any [10] (.mov (.tmp 10)) <|
 .op (some 6) .any [12] (.mov (.tmp 12)) <|
 .nil))
 (.ops (.op (some 13) .any [5] (.mov (.tmp 5)) <|
 .op (some 14) .any [6] (.mov (.tmp 6)) <|
 .op (some 15) .any [0] (.mov (.tmp 0)) <|
 .op (some 16) .any [1] (.mov (.tmp 1)) <|
 .op (some 17) .any [16] (.bin .sub .none (.tmp 16) (.con (V.int .i64 (Int.ofNat 1)))) <|
 .op (some 18) .any [6] (.mov (.tmp 6)) <|
 .op (some 19) .any [17, 18] (.bin .sub .none (.tmp 17) (.tmp 18)) <|
 .op (some 20) .any [19] (.bin .mul .none (.con (V.int .i64 (Int.ofNat 8))) (.tmp 19)) <|
 .op (some 21) .any [15, 20] (.bin .shr .none (.tmp 15) (.tmp 20)) <|
 .op (some 22) .any [21] (.conv (.toInt .u8) (.tmp 21)) <|
 .op (some 23) .any [13, 14] (.iaddrS 1 (.tmp 13) (.tmp 14)) <|
 .op none .any [23, 22] (.store 1 (.tmp 23) (.tmp 22)) <|
 .nil))))
 (.ops (.op (some 24) .any [10] (.bin .add .none (.tmp 10) (.con (V.int .i64 (Int.ofNat 1)))) <|
 .op (some 10) .any [24] (.mov (.tmp 24)) <|
 .nil)))))
def T154_2 (E : List (Nat × Blk)) (D : Den) (W : DrawFn) (K1 : V → H → Ans) (R2 : Int → Int → V → Int → Int → H → Ans) (v0 : Int) (v1 : Int) (v5 : V) (v9 : Int) (v10 : Int) (σ : H) : Ans :=
 condK (ltF v10 v9) (
 nnK (mulF .i64 (Int.ofNat 8) (subF .i64 (subF .i64 v1 (Int.ofNat 1)) v10)) fun n1 =>
 iaddrSK 1 v5 v10 fun b2 o3 =>
 stK 1 b2 o3 (V.int .u8 (wrapF .u8 (shrF .u64 v0 n1))) σ fun s4 =>
 R2 v0 v1 v5 v9 (addF .i64 v10 (Int.ofNat 1)) s4) (
 K1 v5 σ)
theorem P154_0 (E : List (Nat × Blk)) (D : Den) (W : DrawFn) (N : Nat) (cc1 : XC) (cc2 : XC) (v0 : Int) (v1 : Int) (σ : H) :
  denC E D W N (C154_0 cc1 cc2) ⟨[(0, (V.int .u64 v0)), (1, (V.int .i64 v1))], [], [], σ⟩ (Fin154 E) (fun _ _ => none) (Fin154 E) =
  T154_0 E D W (fun v0 v1 v5 v9 v10 σ => iterK (fun rec s' => denC E D W N cc2 s' (fun s'' => keepS [(0, (.int .u64)), (1, (.int .i64)), (5, .any), (9, (.int .i64)), (10, (.int .i64))] [] [] s'' rec) (blkK 0 (fun s' => denC E D W N (.keep [(5, .any)] [] [] cc1) s' (Fin154 E) (fun _ _ => none) (Fin154 E)) (fun _ _ => none)) (Fin154 E)) N ⟨[(0, (V.int .u64 v0)), (1, (V.int .i64 v1)), (5, v5), (9, (V.int .i64 v9)), (10, (V.int .i64 v10))], [], [], σ⟩) v0 v1 σ := by kernel_rfl
theorem P154_1 (E : List (Nat × Blk)) (D : Den) (W : DrawFn) (N : Nat) (v5 : V) (σ : H) :
  denC E D W N (C154_1 ) ⟨[(5, v5)], [], [], σ⟩ (Fin154 E) (fun _ _ => none) (Fin154 E) =
  T154_1 E D W  v5 σ := by kernel_rfl
theorem P154_2 (E : List (Nat × Blk)) (D : Den) (W : DrawFn) (N : Nat) (cc1 : XC) (li2 : St → Ans) (v0 : Int) (v1 : Int) (v5 : V) (v9 : Int) (v10 : Int) (σ : H) :
  denC E D W N (C154_2 ) ⟨[(0, (V.int .u64 v0)), (1, (V.int .i64 v1)), (5, v5), (9, (V.int .i64 v9)), (10, (V.int .i64 v10))], [], [], σ⟩ (fun s'' => keepS [(0, (.int .u64)), (1, (.int .i64)), (5, .any), (9, (.int .i64)), (10, (.int .i64))] [] [] s'' li2) (blkK 0 (fun s' => denC E D W N (.keep [(5, .any)] [] [] cc1) s' (Fin154 E) (fun _ _ => none) (Fin154 E)) (fun _ _ => none)) (Fin154 E) =
  T154_2 E D W (fun v5 σ => denC E D W N cc1 ⟨[(5, v5)], [], [], σ⟩ (Fin154 E) (fun _ _ => none) (Fin154 E)) (fun v0 v1 v5 v9 v10 σ => li2 ⟨[(0, (V.int .u64 v0)), (1, (V.int .i64 v1)), (5, v5), (9, (V.int .i64 v9)), (10, (V.int .i64 v10))], [], [], σ⟩) v0 v1 v5 v9 v10 σ := by kernel_rfl
def J154_1 (E : List (Nat × Blk)) (D : Den) (W : DrawFn) (N : Nat) : V → H → Ans := T154_1 E D W 
theorem JE154_1 (E : List (Nat × Blk)) (D : Den) (W : DrawFn) (N : Nat) (v5 : V) (σ : H) :
  denC E D W N C154_1 ⟨[(5, v5)], [], [], σ⟩ (Fin154 E) (fun _ _ => none) (Fin154 E) = J154_1 E D W N v5 σ := by
  refine (P154_1 E D W N   v5 σ).trans ?_
  kernel_rfl
def L154_2 (E : List (Nat × Blk)) (D : Den) (W : DrawFn) (N : Nat) (n : Nat) : Int → Int → V → Int → Int → H → Ans :=
  Nat.rec (fun _ _ _ _ _ _ => none) (fun _ ih => T154_2 E D W (J154_1 E D W N ) ih) n
theorem LE154_2 (E : List (Nat × Blk)) (D : Den) (W : DrawFn) (N : Nat) (n : Nat) : ∀ (v0 : Int) (v1 : Int) (v5 : V) (v9 : Int) (v10 : Int) (σ : H),
  iterK (fun rec s' => denC E D W N C154_2 s' (fun s'' => keepS [(0, (.int .u64)), (1, (.int .i64)), (5, .any), (9, (.int .i64)), (10, (.int .i64))] [] [] s'' rec) (blkK 0 (fun s' => denC E D W N (.keep [(5, .any)] [] [] C154_1) s' (Fin154 E) (fun _ _ => none) (Fin154 E)) (fun _ _ => none)) (Fin154 E)) n ⟨[(0, (V.int .u64 v0)), (1, (V.int .i64 v1)), (5, v5), (9, (V.int .i64 v9)), (10, (V.int .i64 v10))], [], [], σ⟩ = L154_2 E D W N n v0 v1 v5 v9 v10 σ := by
  induction n with
  | zero => intro v0 v1 v5 v9 v10 σ; rfl
  | succ n ihn =>
    intro v0 v1 v5 v9 v10 σ
    rw [iterK_succ]
    refine (P154_2 E D W N C154_1 (iterK (fun rec s' => denC E D W N C154_2 s' (fun s'' => keepS [(0, (.int .u64)), (1, (.int .i64)), (5, .any), (9, (.int .i64)), (10, (.int .i64))] [] [] s'' rec) (blkK 0 (fun s' => denC E D W N (.keep [(5, .any)] [] [] C154_1) s' (Fin154 E) (fun _ _ => none) (Fin154 E)) (fun _ _ => none)) (Fin154 E)) n) v0 v1 v5 v9 v10 σ).trans ?_
    simp only [ihn, JE154_1]
    kernel_rfl
def J154_0 (E : List (Nat × Blk)) (D : Den) (W : DrawFn) (N : Nat) : Int → Int → H → Ans := T154_0 E D W (L154_2 E D W N N)
theorem JE154_0 (E : List (Nat × Blk)) (D : Den) (W : DrawFn) (N : Nat) (v0 : Int) (v1 : Int) (σ : H) :
  denC E D W N (C154_0 C154_1 C154_2) ⟨[(0, (V.int .u64 v0)), (1, (V.int .i64 v1))], [], [], σ⟩ (Fin154 E) (fun _ _ => none) (Fin154 E) = J154_0 E D W N v0 v1 σ := by
  refine (P154_0 E D W N C154_1 C154_2  v0 v1 σ).trans ?_
  simp only [LE154_2]
  kernel_rfl
def F154 (E : List (Nat × Blk)) (D : Den) (W : DrawFn) (N : Nat) (args : List V) (σ : H) : Ans :=
 rtCons args fun x1 l2 =>
 rtInt .u64 x1 fun x3 =>
 rtCons l2 fun x4 l5 =>
 rtInt .i64 x4 fun x6 =>
 rtNil l5 (
 J154_0 E D W N x3 x6 σ)
def A154 : XFn := ⟨26, [(.int .u64), (.int .i64)], [(.tmp 4)], (C154_0 C154_1 C154_2)⟩
theorem FE154 (E : List (Nat × Blk)) (D : Den) (W : DrawFn) (N : Nat) (args : List V) (σ : H) : runX E D W N A154 args σ = F154 E D W N args σ := by
  unfold F154
  simp only [← JE154_0]
  kernel_rfl
theorem AO154 : A154.body.ok = true := by kernel_rfl

/-! ### F157: ogham_tlv.Take -/
def G157_0 : List AOper := [⟨(some 34), .load (some 2) (.tmp 7), none⟩, ⟨(some 35), .mov (.tmp 8), none⟩, ⟨(some 36), .mov (.tmp 0), none⟩, ⟨(some 37), .mov (.tmp 10), none⟩, ⟨(some 38), .mov (.tmp 10), none⟩, ⟨(some 39), .mov (.tmp 9), none⟩, ⟨(some 40), .bin .add .none (.tmp 38) (.tmp 39), none⟩, ⟨(some 41), .sliceSl 1 (.tmp 36) (some (.tmp 37)) (some (.tmp 40)) none, none⟩, ⟨(some 42), .append 5 1 1 (.con V.nils) (.tmp 41), none⟩, ⟨(some 43), .mov (.tmp 10), none⟩, ⟨(some 44), .mov (.tmp 9), none⟩, ⟨(some 45), .bin .add .none (.tmp 43) (.tmp 44), none⟩, ⟨none, .store 2 (.tmp 2) (.tmp 34), none⟩, ⟨(some 3), .mov (.tmp 35), none⟩, ⟨(some 4), .mov (.tmp 42), none⟩, ⟨(some 5), .mov (.tmp 45), none⟩, ⟨(some 6), .mov (.con (V.int .i64 (Int.ofNat 0))), none⟩]
def H157_0 : List DP := [⟨0, [7]⟩, ⟨0, [8]⟩, ⟨0, [0]⟩, ⟨0, [10]⟩, ⟨0, [10]⟩, ⟨0, [9]⟩, ⟨48, [38, 39]⟩, ⟨124, [36, 37, 40]⟩, ⟨252, [41]⟩, ⟨0, [10]⟩, ⟨0, [9]⟩, ⟨1536, [43, 44]⟩, ⟨509, [2, 34]⟩, ⟨4607, [35]⟩, ⟨12799, [42]⟩, ⟨32767, [45]⟩, ⟨65535, []⟩]
def Fin157 (E : List (Nat × Blk)) : St → Ans := fun s => resK E s [(.cell 2 (some 2)), (.tmp 3), (.tmp 4), (.tmp 5), (.tmp 6)] fun l => some (oneV l, s.σ)
def C157_0 (cc1 : XC) : XC := (.seq (.ops (.op (some 2) .any [] (.alloc 182 [(V.int .i64 (Int.ofNat 0)), (V.int .i64 (Int.ofNat 0))]) <|
 .op (some 3) .any [] (.mov (.con (V.bool false))) <|
 .op (some 4) .any [] (.mov (.con V.nils)) <|
 .op (some 5) .any [] (.mov (.con (V.int .i64 (Int.ofNat 0)))) <|
 .op (some 6) .any [] (.mov (.con (V.int .i64 (Int.ofNat 0)))) <|
 .nil))
 (.seq (.ops (.op (some 13) .any [0] (.mov (.tmp 0)) <|
 .op (some 14) (.tup [(.agg [(.int .i64), (.int .i64)]), .bool, (.int .i64), (.int .i64), (.int .i64)]) [13] (.call 226 [(.tmp 13)]) <|
 .op (some 12) .any [14] (.mov (.tmp 14)) <|
 .op (some 15) .any [12] (.extract 0 (.tmp 12)) <|
 .op (some 16) .any [12] (.extract 1 (.tmp 12)) <|
 .op (some 17) .any [12] (.extract 2 (.tmp 12)) <|
 .op (some 18) .any [12] (.extract 3 (.tmp 12)) <|
 .op (some 19) .any [12] (.extract 4 (.tmp 12)) <|
 .op (some 7) .any [] (.alloc 182 [(V.int .i64 (Int.ofNat 0)), (V.int .i64 (Int.ofNat 0))]) <|
 .op none (.agg [(.int .i64), (.int .i64)]) [7, 15] (.store 2 (.tmp 7) (.tmp 15)) <|
 .op (some 8) .any [16] (.mov (.tmp 16)) <|
 .op (some 9) .any [17] (.mov (.tmp 17)) <|
 .op (some 10) .any [18] (.mov (.tmp 18)) <|
 .op (some 11) .any [19] (.mov (.tmp 19)) <|
 .nil))
 (.seq (.seq (.ops (.op (some 20) .any [11] (.mov (.tmp 11)) <|
 .op (some 21) .any [20] (.bin .eql .none (.tmp 20) (.con (V.int .i64 (Int.ofNat 0)))) <|
 .op (some 22) .any [21] (.mov (.tmp 21)) <|
 .grp 22 true (.op (some 23) .any [9, 22] (.mov (.tmp 9)) <|
 .op (some 24) .any [0, 22] (.mov (.tmp 0)) <|
 .op (some 25) .any [24, 22] (.len false (.tmp 24)) <|
 .op (some 26) .any [10, 22] (.mov (.tmp 10)) <|
 .op (some 27) .any [25, 26, 22] (.bin .sub .none (.tmp 25) (.tmp 26)) <|
 .op (some 28) .any [23, 27, 22] (.bin .gtr .none (.tmp 23) (.tmp 27)) <|
 .nil) 29 [22, 28] (.tmp 22) (.tmp 28) (.con (V.bool false)) <|
 .nil))
 (.cond (.tmp 29) (.ops (.op (some 11) .any [] (.mov (.con (V.int .i64 (Int.ofNat 3)))) <|
 .nil))
 .skip))
 (.keep [(0, .any), (2, .ptr), (7, .ptr), (8, .bool), (9, (.int .i64)), (10, (.int .i64)), (11, (.int .i64))] [] [] cc1))))
def T157_0 (E : List (Nat × Blk)) (D : Den) (W : DrawFn) (K1 : V → Nat → Nat → Nat → Nat → Bool → Int → Int → Int → H → Ans) (v0 : V) (σ : H) : Ans :=
 let s1 := newB σ (.cells [(V.int .i64 (Int.ofNat 0)), (V.int .i64 (Int.ofNat 0))]);
 callK (D 226 [v0] s1) fun u2 s3 =>
 rtTup u2 fun l4 =>
 rtCons l4 fun x5 l6 =>
 rtAgg x5 fun l7 =>
 rtCons l7 fun x8 l9 =>
 rtInt .i64 x8 fun x10 =>
 rtCons l9 fun x11 l12 =>
 rtInt .i64 x11 fun x13 =>
 rtNil l12 (
 rtCons l6 fun x14 l15 =>
 rtBool x14 fun x16 =>
 rtCons l15 fun x17 l18 =>
 rtInt .i64 x17 fun x19 =>
 rtCons l18 fun x20 l21 =>
 rtInt .i64 x20 fun x22 =>
 rtCons l21 fun x23 l24 =>
 rtInt .i64 x23 fun x25 =>
 rtNil l24 (
 let s26 := newB s3 (.cells [(V.int .i64 (Int.ofNat 0)), (V.int .i64 (Int.ofNat 0))]);
 stK 2 (H.next s3) 0 (V.agg [(V.int .i64 x10), (V.int .i64 x13)]) s26 fun s27 =>
 joinB (fun c28 s29 =>
 condK c28 (
 K1 v0 (H.next σ) 0 (H.next s3) 0 x16 x19 x22 (Int.ofNat 3) s29) (
 K1 v0 (H.next σ) 0 (H.next s3) 0 x16 x19 x22 x25 s29)) fun k30 =>
 condK (eqF x25 (Int.ofNat 0)) (
 slenK v0 fun n31 =>
 k30 (ltF (subF .i64 (Int.ofNat n31) x22) x19) s27) (
 k30 false s27)))
def C157_1 : XC := (.seq (.seq (.ops (.op (some 30) .any [11] (.mov (.tmp 11)) <|
 .op (some 31) .any [30] (.bin .neq .none (.tmp 30) (.con (V.int .i64 (Int.ofNat 0)))) <|
 .nil))
 (.cond (.tmp 31) (.seq (.ops (.op (some 32) (.agg [(.int .i64), (.int .i64)]) [] (.build [(V.int .i64 (Int.ofNat 0)), (V.int .i64 (Int.ofNat 0))] []) <|
 .op (some 33) .any [11] (.mov (.tmp 11)) <|
 .op none (.agg [(.int .i64), (.int .i64)]) [2, 32] (.store 2 (.tmp 2) (.tmp 32)) <|
 .op (some 3) .any [] (.mov (.con (V.bool false))) <|
 .op (some 4) .any [] (.mov (.con V.nils)) <|
 .op (some 5) .any [] (.mov (.con (V.int .i64 (Int.ofNat 0)))) <|
 .op (some 6) .any [33] (.mov (.tmp 33)) <|
 .nil))
 .ret)
 .skip))
 (.seq (.keep [(0, .any), (2, .ptr), (7, .ptr), (8, .bool), (9, (.int .i64)), (10, (.int .i64))] [] [] (.gdraw G157_0 H157_0 [(2, .ptr), (3, .bool), (4, .any), (5, (.int .i64)), (6, (.int .i64))]))
 .ret))
def T157_1 (E : List (Nat × Blk)) (D : Den) (W : DrawFn) (v0 : V) (v2b : Nat) (v2o : Nat) (v7b : Nat) (v7o : Nat) (v8 : Bool) (v9 : Int) (v10 : Int) (v11 : Int) (σ : H) : Ans :=
 condK (not (eqF v11 (Int.ofNat 0))) (
 stK 2 v2b v2o (V.agg [(V.int .i64 (Int.ofNat 0)), (V.int .i64 (Int.ofNat 0))]) σ fun s1 =>
 ldnK E s1 v2b v2o 2 fun u2 =>
 some ((V.tup [(V.agg u2), (V.bool false), V.nils, (V.int .i64 (Int.ofNat 0)), (V.int .i64 v11)]), s1)) (
 gdrawK (W G157_0 H157_0 [(0, v0), (2, (V.ptr v2b v2o)), (7, (V.ptr v7b v7o)), (8, (V.bool v8)), (9, (V.int .i64 v9)), (10, (V.int .i64 v10))] σ) fun e3 s4 =>
 getL e3 2 fun u5 =>
 rtPtr u5 fun b6 o7 =>
 getL e3 3 fun u8 =>
 rtBool u8 fun x9 =>
 getL e3 4 fun u10 =>
 getL e3 5 fun u11 =>
 rtInt .i64 u11 fun x12 =>
 getL e3 6 fun u13 =>
 rtInt .i64 u13 fun x14 =>
 ldnK E s4 b6 o7 2 fun u15 =>
 some ((V.tup [(V.agg u15), (V.bool x9), u10, (V.int .i64 x12), (V.int .i64 x14)]), s4))
theorem P157_0 (E : List (Nat × Blk)) (D : Den) (W : DrawFn) (N : Nat) (cc1 : XC) (v0 : V) (σ : H) :
  denC E D W N (C157_0 cc1) ⟨[(0, v0)], [], [], σ⟩ (Fin157 E) (fun _ _ => none) (Fin157 E) =
  T157_0 E D W (fun v0 v2b v2o v7b v7o v8 v9 v10 v11 σ => denC E D W N cc1 ⟨[(0, v0), (2, (V.ptr v2b v2o)), (7, (V.ptr v7b v7o)), (8, (V.bool v8)), (9, (V.int .i64 v9)), (10, (V.int .i64 v10)), (11, (V.int .i64 v11))], [], [], σ⟩ (Fin157 E) (fun _ _ => none) (Fin157 E)) v0 σ := by kernel_rfl
theorem P157_1 (E : List (Nat × Blk)) (D : Den) (W : DrawFn) (N : Nat) (v0 : V) (v2b : Nat) (v2o : Nat) (v7b : Nat) (v7o : Nat) (v8 : Bool) (v9 : Int) (v10 : Int) (v11 : Int) (σ : H) :
  denC E D W N (C157_1 ) ⟨[(0, v0), (2, (V.ptr v2b v2o)), (7, (V.ptr v7b v7o)), (8, (V.bool v8)), (9, (V.int .i64 v9)), (10, (V.int .i64 v10)), (11, (V.int .i64 v11))], [], [], σ⟩ (Fin157 E) (fun _ _ => none) (Fin157 E) =
  T157_1 E D W  v0 v2b v2o v7b v7o v8 v9 v10 v11 σ := by kernel_rfl
def J157_1 (E : List (Nat × Blk)) (D : Den) (W : DrawFn) (N : Nat) : V → Nat → Nat → Nat → Nat → Bool → Int → Int → Int → H → Ans := T157_1 E D W 
theorem JE157_1 (E : List (Nat × Blk)) (D : Den) (W : DrawFn) (N : Nat) (v0 : V) (v2b : Nat) (v2o : Nat) (v7b : Nat) (v7o : Nat) (v8 : Bool) (v9 : Int) (v10 : Int) (v11 : Int) (σ : H) :
  denC E D W N C157_1 ⟨[(0, v0), (2, (V.ptr v2b v2o)), (7, (V.ptr v7b v7o)), (8, (V.bool v8)), (9, (V.int .i64 v9)), (10, (V.int .i64 v10)), (11, (V.int .i64 v11))], [], [], σ⟩ (Fin157 E) (fun _ _ => none) (Fin157 E) = J157_1 E D W N v0 v2b v2o v7b v7o v8 v9 v10 v11 σ := by
  refine (P157_1 E D W N   v0 v2b v2o v7b v7o v8 v9 v10 v11 σ).trans ?_
  kernel_rfl
def J157_0 (E : List (Nat × Blk)) (D : Den) (W : DrawFn) (N : Nat) : V → H → Ans := T157_0 E D W (J157_1 E D W N )
theorem JE157_0 (E : List (Nat × Blk)) (D : Den) (W : DrawFn) (N : Nat) (v0 : V) (σ : H) :
  denC E D W N (C157_0 C157_1) ⟨[(0, v0)], [], [], σ⟩ (Fin157 E) (fun _ _ => none) (Fin157 E) = J157_0 E D W N v0 σ := by
  refine (P157_0 E D W N C157_1  v0 σ).trans ?_
  simp only [JE157_1]
  kernel_rfl
def F157 (E : List (Nat × Blk)) (D : Den) (W : DrawFn) (N : Nat) (args : List V) (σ : H) : Ans :=
 rtCons args fun x1 l2 =>
 rtNil l2 (
 J157_0 E D W N x1 σ)
def A157 : XFn := ⟨46, [.any], [(.cell 2 (some 2)), (.tmp 3), (.tmp 4), (.tmp 5), (.tmp 6)], (C157_0 C157_1)⟩
theorem FE157 (E : List (Nat × Blk)) (D : Den) (W : DrawFn) (N : Nat) (args : List V) (σ : H) : runX E D W N A157 args σ = F157 E D W N args σ := by
  unfold F157
  simp only [← JE157_0]
  kernel_rfl
theorem AO157 : A157.body.ok = true := by kernel_rfl

def C158_0 (cc1 : XC) (cc2 : XC) : XC := (.seq (.ops (.op (some 2) .any [] (.mov (.con (V.int .u64 (Int.ofNat 0)))) <|
 .nil))
 (.seq (.ops (.op (some 3) .any [] (.mov (.con (V.int .u64 (Int.ofNat 0)))) <|
 .nil))
 (.seq (.seq (.ops (.op (some 6) .any [0] (.mov (.tmp 0)) <|
 .op (some 7) .any [6] (.len false (.tmp 6)) <|
 .op (some 8) .any [] (.mov (.con (V.int .i64 (Int.ofNat 0)))) <|
 .nil))
 (.block 0 (.loop [(3, (.int .u64)), (6, .any), (7, (.int .i64)), (8, (.int .i64))] [] [] cc2)))
 (.keep [(3, (.int .u64))] [] [] cc1))))
def C158_1 : XC := (.seq (.ops (.op (some 18) .any [3] (.mov (.tmp 3)) <|
 .op (some 2) .any [18] (.mov (.tmp 18)) <|
 .nil))
 .ret)
def C158_2 : XC := (.seq (.ops (.op (some 9) .any [8, 7] (.bin .lss .none (.tmp 8) (.tmp 7)) <|
 .nil))
 (.seq (.cond (.tmp 9) .skip
 (.exit 0))
 (.seq (.block 1 (.seq (.ops (.op (some 10) .any [6, 8] (.iaddrS 1 (.tmp 6) (.tmp 8)) <|
 .op (some 11) (.int .u8) [10] (.load none (.tmp 10)) <|
 .op (some 5) .any [11] (.mov (.tmp 11)) <|
 .nil))
 (.ops (.op (some 12) .any [3] (.mov (.tmp 3)) <|
 .op (some 13) .any [12] (.bin .shl .none (.tmp 12) (.con (V.int .u64 (Int.ofNat 8)))) <|
 .op (some 14) .any [5] (.mov (.tmp 5)) <|
 .op (some 15) .any [14] (.conv (.toInt .u64) (.tmp 14)) <|
 .op (some 16) .any [13, 15] (.bin .or .none (.tmp 13) (.tmp 15)) <|
 .op (some 3) .any [16] (.mov (.tmp 16)) <|
 .nil))))
 (.ops (.op (some 17) .any [8] (.bin .add .none (.tmp 8) (.con (V.int .i64 (Int.ofNat 1)))) <|
 .op (some 8) .any [17] (.mov (.tmp 17)) <|
 .nil)))))
def A158 : XFn := ⟨19, [.any], [(.tmp 2)], (C158_0 C158_1 C158_2)⟩
/-! ### F164: slices.IndexFunc___ogham_api.Type_ogham_api.Type_ -/
def Fin164 (E : List (Nat × Blk)) : St → Ans := fun s => resK E s [(.tmp 4)] fun l => some (oneV l, s.σ)
def C164_0 (cc1 : XC) (cc2 : XC) : XC := (.seq (.ops (.op (some 4) .any [] (.mov (.con (V.int .i64 (Int.ofNat 0)))) <|
 .nil))
 (.seq (.seq (.ops (.op (some 6) .any [0] (.mov (.tmp 0)) <|
 .op (some 7) .any [6] (.len false (.tmp 6)) <|
 .op (some 8) .any [] (.mov (.con (V.int .i64 (Int.ofNat 0)))) <|
 .nil))
 (.block 0 (.loop [(0, .any), (1, .any), (7, (.int .i64)), (8, (.int .i64))] [] [] cc2)))
 (.keep [] [] [] cc1)))
def T164_0 (E : List (Nat × Blk)) (D : Den) (W : DrawFn) (K2 : V → V → Int → Int → H → Ans) (v0 : V) (v1 : V) (σ : H) : Ans :=
 slenK v0 fun n1 =>
 K2 v0 v1 (Int.ofNat n1) (Int.ofNat 0) σ
def C164_1 : XC := (.seq (.ops (.op (some 4) .any [] (.mov (.con (V.int .i64 (Int.negSucc 0)))) <|
 .nil))
 .ret)
def T164_1 (E : List (Nat × Blk)) (D : Den) (W : DrawFn) (σ : H) : Ans :=
 some ((V.int .i64 (Int.negSucc 0)), σ)
def C164_2 : XC := (.seq (.ops (.op (some 9) .any [8, 7] (.bin .lss .none (.tmp 8) (.tmp 7)) <|
 .nil))
 (.seq (.cond (.tmp 9) .skip
 (.exit 0))
 (.seq (.block 1 (.seq (.ops (.op (some 10) .any [8] (.mov (.tmp 8)) <|
 .op (some 5) .any [10] (.mov (.tmp 10)) <|
 .nil))
 (.seq (.ops (.op (some 11) .any [1] (.mov (.tmp 1)) <|
 .op (some 12) .any [0] (.mov (.tmp 0)) <|
 .op (some 13) .any [5] (.mov (.tmp 5)) <|
 .op (some 14) .any [12, 13] (.iaddrS 13 (.tmp 12) (.tmp 13)) <|
 .op (some 15) (.agg [(.int .i64), .any, .bool, .bool, .bool, .bool, (.int .i64), (.int .i64), .any, .any, (.int .i64), .bool, (.int .i64)]) [14] (.load (some 13) (.tmp 14)) <|
 .op (some 16) .bool [11, 15] (.callv (.tmp 11) [(.tmp 15)]) <|
 .nil))
 (.cond (.tmp 16) (.seq (.ops (.op (some 17) .any [5] (.mov (.tmp 5)) <|
 .op (some 4) .any [17] (.mov (.tmp 17)) <|
 .nil))
 .ret)
 .skip))))
 (.ops (.op (some 18) .any [8] (.bin .add .none (.tmp 8) (.con (V.int .i64 (Int.ofNat 1)))) <|
 .op (some 8) .any [18] (.mov (.tmp 18)) <|
 .nil)))))
def T164_2 (E : List (Nat × Blk)) (D : Den) (W : DrawFn) (K1 : H → Ans) (R2 : V → V → Int → Int → H → Ans) (v0 : V) (v1 : V) (v7 : Int) (v8 : Int) (σ : H) : Ans :=
 condK (ltF v8 v7) (
 iaddrSK 13 v0 v8 fun b1 o2 =>
 ldnK E σ b1 o2 13 fun l3 =>
 rtCons l3 fun x4 l5 =>
 rtInt .i64 x4 fun x6 =>
 rtCons l5 fun x7 l8 =>
 rtCons l8 fun x9 l10 =>
 rtBool x9 fun x11 =>
 rtCons l10 fun x12 l13 =>
 rtBool x12 fun x14 =>
 rtCons l13 fun x15 l16 =>
 rtBool x15 fun x17 =>
 rtCons l16 fun x18 l19 =>
 rtBool x18 fun x20 =>
 rtCons l19 fun x21 l22 =>
 rtInt .i64 x21 fun x23 =>
 rtCons l22 fun x24 l25 =>
 rtInt .i64 x24 fun x26 =>
 rtCons l25 fun x27 l28 =>
 rtCons l28 fun x29 l30 =>
 rtCons l30 fun x31 l32 =>
 rtInt .i64 x31 fun x33 =>
 rtCons l32 fun x34 l35 =>
 rtBool x34 fun x36 =>
 rtCons l35 fun x37 l38 =>
 rtInt .i64 x37 fun x39 =>
 rtNil l38 (
 callvK D v1 [(V.agg [(V.int .i64 x6), x7, (V.bool x11), (V.bool x14), (V.bool x17), (V.bool x20), (V.int .i64 x23), (V.int .i64 x26), x27, x29, (V.int .i64 x33), (V.bool x36), (V.int .i64 x39)])] σ fun u40 s41 =>
 rtBool u40 fun x42 =>
 condK x42 (
 some ((V.int .i64 v8), s41)) (
 R2 v0 v1 v7 (addF .i64 v8 (Int.ofNat 1)) s41))) (
 K1 σ)
theorem P164_0 (E : List (Nat × Blk)) (D : Den) (W : DrawFn) (N : Nat) (cc1 : XC) (cc2 : XC) (v0 : V) (v1 : V) (σ : H) :
  denC E D W N (C164_0 cc1 cc2) ⟨[(0, v0), (1, v1)], [], [], σ⟩ (Fin164 E) (fun _ _ => none) (Fin164 E) =
  T164_0 E D W (fun v0 v1 v7 v8 σ => iterK (fun rec s' => denC E D W N cc2 s' (fun s'' => keepS [(0, .any), (1, .any), (7, (.int .i64)), (8, (.int .i64))] [] [] s'' rec) (blkK 0 (fun s' => denC E D W N (.keep [] [] [] cc1) s' (Fin164 E) (fun _ _ => none) (Fin164 E)) (fun _ _ => none)) (Fin164 E)) N ⟨[(0, v0), (1, v1), (7, (V.int .i64 v7)), (8, (V.int .i64 v8))], [], [], σ⟩) v0 v1 σ := by kernel_rfl
theorem P164_1 (E : List (Nat × Blk)) (D : Den) (W : DrawFn) (N : Nat) (σ : H) :
  denC E D W N (C164_1 ) ⟨[], [], [], σ⟩ (Fin164 E) (fun _ _ => none) (Fin164 E) =
  T164_1 E D W   σ := by kernel_rfl
theorem P164_2 (E : List (Nat × Blk)) (D : Den) (W : DrawFn) (N : Nat) (cc1 : XC) (li2 : St → Ans) (v0 : V) (v1 : V) (v7 : Int) (v8 : Int) (σ : H) :
  denC E D W N (C164_2 ) ⟨[(0, v0), (1, v1), (7, (V.int .i64 v7)), (8, (V.int .i64 v8))], [], [], σ⟩ (fun s'' => keepS [(0, .any), (1, .any), (7, (.int .i64)), (8, (.int .i64))] [] [] s'' li2) (blkK 0 (fun s' => denC E D W N (.keep [] [] [] cc1) s' (Fin164 E) (fun _ _ => none) (Fin164 E)) (fun _ _ => none)) (Fin164 E) =
  T164_2 E D W (fun  σ => denC E D W N cc1 ⟨[], [], [], σ⟩ (Fin164 E) (fun _ _ => none) (Fin164 E)) (fun v0 v1 v7 v8 σ => li2 ⟨[(0, v0), (1, v1), (7, (V.int .i64 v7)), (8, (V.int .i64 v8))], [], [], σ⟩) v0 v1 v7 v8 σ := by kernel_rfl
def J164_1 (E : List (Nat × Blk)) (D : Den) (W : DrawFn) (N : Nat) : H → Ans := T164_1 E D W 
theorem JE164_1 (E : List (Nat × Blk)) (D : Den) (W : DrawFn) (N : Nat) (σ : H) :
  denC E D W N C164_1 ⟨[], [], [], σ⟩ (Fin164 E) (fun _ _ => none) (Fin164 E) = J164_1 E D W N  σ := by
  refine (P164_1 E D W N    σ).trans ?_
  kernel_rfl
def L164_2 (E : List (Nat × Blk)) (D : Den) (W : DrawFn) (N : Nat) (n : Nat) : V → V → Int → Int → H → Ans :=
  Nat.rec (fun _ _ _ _ _ => none) (fun _ ih => T164_2 E D W (J164_1 E D W N ) ih) n
theorem LE164_2 (E : List (Nat × Blk)) (D : Den) (W : DrawFn) (N : Nat) (n : Nat) : ∀ (v0 : V) (v1 : V) (v7 : Int) (v8 : Int) (σ : H),
  iterK (fun rec s' => denC E D W N C164_2 s' (fun s'' => keepS [(0, .any), (1, .any), (7, (.int .i64)), (8, (.int .i64))] [] [] s'' rec) (blkK 0 (fun s' => denC E D W N (.keep [] [] [] C164_1) s' (Fin164 E) (fun _ _ => none) (Fin164 E)) (fun _ _ => none)) (Fin164 E)) n ⟨[(0, v0), (1, v1), (7, (V.int .i64 v7)), (8, (V.int .i64 v8))], [], [], σ⟩ = L164_2 E D W N n v0 v1 v7 v8 σ := by
  induction n with
  | zero => intro v0 v1 v7 v8 σ; rfl
  | succ n ihn =>
    intro v0 v1 v7 v8 σ
    rw [iterK_succ]
    refine (P164_2 E D W N C164_1 (iterK (fun rec s' => denC E D W N C164_2 s' (fun s'' => keepS [(0, .any), (1, .any), (7, (.int .i64)), (8, (.int .i64))] [] [] s'' rec) (blkK 0 (fun s' => denC E D W N (.keep [] [] [] C164_1) s' (Fin164 E) (fun _ _ => none) (Fin164 E)) (fun _ _ => none)) (Fin164 E)) n) v0 v1 v7 v8 σ).trans ?_
    simp only [ihn, JE164_1]
    kernel_rfl
def J164_0 (E : List (Nat × Blk)) (D : Den) (W : DrawFn) (N : Nat) : V → V → H → Ans := T164_0 E D W (L164_2 E D W N N)
theorem JE164_0 (E : List (Nat × Blk)) (D : Den) (W : DrawFn) (N : Nat) (v0 : V) (v1 : V) (σ : H) :
  denC E D W N (C164_0 C164_1 C164_2) ⟨[(0, v0), (1, v1)], [], [], σ⟩ (Fin164 E) (fun _ _ => none) (Fin164 E) = J164_0 E D W N v0 v1 σ := by
  refine (P164_0 E D W N C164_1 C164_2  v0 v1 σ).trans ?_
  simp only [LE164_2]
  kernel_rfl
def F164 (E : List (Nat × Blk)) (D : Den) (W : DrawFn) (N : Nat) (args : List V) (σ : H) : Ans :=
 rtCons args fun x1 l2 =>
 rtCons l2 fun x3 l4 =>
 rtNil l4 (
 J164_0 E D W N x1 x3 σ)
def A164 : XFn := ⟨19, [.any, .any], [(.tmp 4)], (C164_0 C164_1 C164_2)⟩
theorem FE164 (E : List (Nat × Blk)) (D : Den) (W : DrawFn) (N : Nat) (args : List V) (σ : H) : runX E D W N A164 args σ = F164 E D W N args σ := by
  unfold F164
  simp only [← JE164_0]
  kernel_rfl
theorem AO164 : A164.body.ok = true := by kernel_rfl

/-! ### F165: __ogham_whole.Writer_.Bits -/
def Fin165 (E : List (Nat × Blk)) : St → Ans := fun s => resK E s [] fun l => some (oneV l, s.σ)
def C165_0 : XC := (.seq (.seq (.ops (.op (some 6) .any [0] (.mov (.tmp 0)) <|
 .op (some 7) .any [6] (.bin .eql .ptr (.tmp 6) (.con V.nilp)) <|
 .nil))
 (.cond (.tmp 7) .ret
 .skip))
 (.seq (.ops (.op (some 8) .any [2] (.mov (.tmp 2)) <|
 .op (some 9) (.int .i64) [8] (.call 187 [(.tmp 8)]) <|
 .op (some 2) .any [9] (.mov (.tmp 9)) <|
 .nil))
 (.seq (.ops (.op (some 10) .any [0] (.mov (.tmp 0)) <|
 .op (some 11) .any [10] (.nilck (.tmp 10)) <|
 .op (some 12) .any [11] (.faddr 0 (.tmp 11)) <|
 .op (some 13) .any [1] (.mov (.tmp 1)) <|
 .op (some 14) .any [13] (.bin .shr .none (.tmp 13) (.con (V.int .u64 (Int.ofNat 32)))) <|
 .op (some 15) .any [14] (.conv (.toInt .u32) (.tmp 14)) <|
 .op (some 16) .any [2] (.mov (.tmp 2)) <|
 .op (some 17) .any [16] (.bin .sub .none (.tmp 16) (.con (V.int .i64 (Int.ofNat 32)))) <|
 .op (some 18) (.tup []) [12, 15, 17] (.call 230 [(.tmp 12), (.tmp 15), (.tmp 17)]) <|
 .nil))
 (.ops (.op (some 19) .any [0] (.mov (.tmp 0)) <|
 .op (some 20) .any [19] (.nilck (.tmp 19)) <|
 .op (some 21) .any [20] (.faddr 0 (.tmp 20)) <|
 .op (some 22) .any [1] (.mov (.tmp 1)) <|
 .op (some 23) .any [22] (.conv (.toInt .u32) (.tmp 22)) <|
 .op (some 24) .any [2] (.mov (.tmp 2)) <|
 .op (some 25) .any [24] (.min (.tmp 24) [(.con (V.int .i64 (Int.ofNat 32)))]) <|
 .op (some 26) (.tup []) [21, 23, 25] (.call 230 [(.tmp 21), (.tmp 23), (.tmp 25)]) <|
 .nil)))))
def T165_0 (E : List (Nat × Blk)) (D : Den) (W : DrawFn) (v0 : V) (v1 : Int) (v2 : Int) (σ : H) : Ans :=
 eqK .ptr v0 V.nilp fun c1 =>
 condK c1 (
 some ((V.tup []), σ)) (
 callK (D 187 [(V.int .i64 v2)] σ) fun u2 s3 =>
 rtInt .i64 u2 fun x4 =>
 rtPtr v0 fun b5 o6 =>
 callK (D 230 [(V.ptr b5 o6), (V.int .u32 (wrapF .u32 (shrF .u64 v1 32))), (V.int .i64 (subF .i64 x4 (Int.ofNat 32)))] s3) fun u7 s8 =>
 rtTup u7 fun l9 =>
 rtNil l9 (
 rtPtr v0 fun b10 o11 =>
 callK (D 230 [(V.ptr b10 o11), (V.int .u32 (wrapF .u32 v1)), (V.int .i64 (minF x4 (Int.ofNat 32)))] s8) fun u12 s13 =>
 rtTup u12 fun l14 =>
 rtNil l14 (
 some ((V.tup []), s13))))
theorem P165_0 (E : List (Nat × Blk)) (D : Den) (W : DrawFn) (N : Nat) (v0 : V) (v1 : Int) (v2 : Int) (σ : H) :
  denC E D W N (C165_0 ) ⟨[(0, v0), (1, (V.int .u64 v1)), (2, (V.int .i64 v2))], [], [], σ⟩ (Fin165 E) (fun _ _ => none) (Fin165 E) =
  T165_0 E D W  v0 v1 v2 σ := by kernel_rfl
def J165_0 (E : List (Nat × Blk)) (D : Den) (W : DrawFn) (N : Nat) : V → Int → Int → H → Ans := T165_0 E D W 
theorem JE165_0 (E : List (Nat × Blk)) (D : Den) (W : DrawFn) (N : Nat) (v0 : V) (v1 : Int) (v2 : Int) (σ : H) :
  denC E D W N C165_0 ⟨[(0, v0), (1, (V.int .u64 v1)), (2, (V.int .i64 v2))], [], [], σ⟩ (Fin165 E) (fun _ _ => none) (Fin165 E) = J165_0 E D W N v0 v1 v2 σ := by
  refine (P165_0 E D W N   v0 v1 v2 σ).trans ?_
  kernel_rfl
def F165 (E : List (Nat × Blk)) (D : Den) (W : DrawFn) (N : Nat) (args : List V) (σ : H) : Ans :=
 rtCons args fun x1 l2 =>
 rtCons l2 fun x3 l4 =>
 rtInt .u64 x3 fun x5 =>
 rtCons l4 fun x6 l7 =>
 rtInt .i64 x6 fun x8 =>
 rtNil l7 (
 J165_0 E D W N x1 x5 x8 σ)
def A165 : XFn := ⟨27, [.any, (.int .u64), (.int .i64)], [], C165_0⟩
theorem FE165 (E : List (Nat × Blk)) (D : Den) (W : DrawFn) (N : Nat) (args : List V) (σ : H) : runX E D W N A165 args σ = F165 E D W N args σ := by
  unfold F165
  simp only [← JE165_0]
  kernel_rfl
theorem AO165 : A165.body.ok = true := by kernel_rfl

def C166_0 : XC := (.seq (.ops (.op (some 1) .any [0] (.box 101 (.tmp 0)) <|
 .op (some 2) .any [] (.mov (.con (V.int .u64 (Int.ofNat 0)))) <|
 .op (some 3) .any [] (.mov (.con (V.bool false))) <|
 .nil))
 (.seq (.ops (.op (some 5) (.agg [.bool, .bool, .bool, .bool, (.int .i64), (.int .i64)]) [1] (.load (some 6) (.tmp 1)) <|
 .op (some 6) (.agg [.bool, .bool, .bool, .bool, (.int .i64), (.int .i64)]) [5] (.build [(V.bool false), (V.bool false), (V.bool false), (V.bool false), (V.int .i64 (Int.ofNat 0)), (V.int .i64 (Int.ofNat 0))] [(0, 6, (.tmp 5))]) <|
 .pal 4 [] 308 [(V.bool false), (V.bool false), (V.bool false), (V.bool false), (V.int .i64 (Int.ofNat 0)), (V.int .i64 (Int.ofNat 0))] <|
 .op none (.agg [.bool, .bool, .bool, .bool, (.int .i64), (.int .i64)]) [4, 6] (.store 6 (.tmp 4) (.tmp 6)) <|
 .nil))
 (.seq (.seq (.ops (.op (some 7) (.agg [.bool, .bool, .bool, .bool, (.int .i64), (.int .i64)]) [4] (.load (some 6) (.tmp 4)) <|
 .op (some 8) .bool [7] (.call 231 [(.tmp 7)]) <|
 .op (some 9) .any [8] (.un .not (.tmp 8)) <|
 .op (some 10) .any [9] (.mov (.tmp 9)) <|
 .grp 10 false (.op (some 11) (.agg [.bool, .bool, .bool, .bool, (.int .i64), (.int .i64)]) [4, 10] (.load (some 6) (.tmp 4)) <|
 .op (some 12) .bool [11, 10] (.call 232 [(.tmp 11)]) <|
 .nil) 13 [10, 12] (.tmp 10) (.con (V.bool true)) (.tmp 12) <|
 .nil))
 (.cond (.tmp 13) (.seq (.ops (.op (some 2) .any [] (.mov (.con (V.int .u64 (Int.ofNat 0)))) <|
 .op (some 3) .any [] (.mov (.con (V.bool false))) <|
 .nil))
 .ret)
 .skip))
 (.seq (.ops (.op (some 14) .any [4] (.faddr 0 (.tmp 4)) <|
 .op (some 15) .any [14] (.faddr 5 (.tmp 14)) <|
 .op (some 16) (.int .i64) [15] (.load none (.tmp 15)) <|
 .op (some 17) .any [16] (.conv (.toInt .u64) (.tmp 16)) <|
 .op (some 18) .any [4] (.faddr 0 (.tmp 4)) <|
 .op (some 19) .any [18] (.faddr 4 (.tmp 18)) <|
 .op (some 20) (.int .i64) [19] (.load none (.tmp 19)) <|
 .op (some 21) .any [20] (.conv (.toInt .u64) (.tmp 20)) <|
 .op (some 22) .any [17, 21] (.bin .sub .none (.tmp 17) (.tmp 21)) <|
 .op (some 2) .any [22] (.mov (.tmp 22)) <|
 .op (some 3) .any [] (.mov (.con (V.bool true))) <|
 .nil))
 .ret))))
def A166 : XFn := ⟨23, [(.agg [.bool, .bool, .bool, .bool, (.int .i64), (.int .i64)])], [(.tmp 2), (.tmp 3)], C166_0⟩
def C167_0 : XC := (.ops (.op (some 6) .any [0] (.mov (.tmp 0)) <|
 .op (some 7) .any [1] (.mov (.tmp 1)) <|
 .op (some 8) .any [2] (.mov (.tmp 2)) <|
 .op (some 9) .any [7, 8] (.min (.tmp 7) [(.tmp 8)]) <|
 .op (some 10) .any [2] (.mov (.tmp 2)) <|
 .op (some 11) (.int .i64) [10] (.call 233 [(.tmp 10)]) <|
 .op (some 12) (.tup []) [6, 9, 11] (.call 165 [(.tmp 6), (.tmp 9), (.tmp 11)]) <|
 .nil))
def A167 : XFn := ⟨13, [.any, (.int .u64), (.int .u64)], [], C167_0⟩
def C169_0 : XC := (.seq (.ops (.op (some 5) .any [1] (.mov (.tmp 1)) <|
 .op (some 6) .any [5] (.max (.tmp 5) [(.con (V.int .i64 (Int.ofNat 0)))]) <|
 .op (some 1) .any [6] (.mov (.tmp 6)) <|
 .nil))
 (.seq (.seq (.ops (.op (some 7) .any [1] (.mov (.tmp 1)) <|
 .op (some 8) .any [7] (.bin .lss .none (.tmp 7) (.con (V.int .i64 (Int.ofNat 64)))) <|
 .nil))
 (.cond (.tmp 8) (.seq (.ops (.op (some 9) .any [0] (.mov (.tmp 0)) <|
 .op (some 10) .any [1] (.mov (.tmp 1)) <|
 .op (some 11) .any [10] (.conv (.toInt .u64) (.tmp 10)) <|
 .op (some 12) (.tup []) [9, 11] (.call 165 [(.tmp 9), (.tmp 11), (.con (V.int .i64 (Int.ofNat 7)))]) <|
 .nil))
 .ret)
 .skip))
 (.seq (.ops (.op (some 13) .any [1] (.mov (.tmp 1)) <|
 .op (some 14) .any [13] (.conv (.toInt .u64) (.tmp 13)) <|
 .op (some 15) .one [14] (.call 168 [(.tmp 14)]) <|
 .op (some 4) .any [15] (.mov (.tmp 15)) <|
 .nil))
 (.seq (.ops (.op (some 16) .any [0] (.mov (.tmp 0)) <|
 .op (some 17) (.tup []) [16] (.call 165 [(.tmp 16), (.con (V.int .u64 (Int.ofNat 1))), (.con (V.int .i64 (Int.ofNat 1)))]) <|
 .nil))
 (.seq (.ops (.op (some 18) .any [0] (.mov (.tmp 0)) <|
 .op (some 19) .any [4] (.mov (.tmp 4)) <|
 .op (some 20) .any [19] (.len false (.tmp 19)) <|
 .op (some 21) .any [20] (.conv (.toInt .u64) (.tmp 20)) <|
 .op (some 22) (.tup []) [18, 21] (.call 165 [(.tmp 18), (.tmp 21), (.con (V.int .i64 (Int.ofNat 8)))]) <|
 .nil))
 (.ops (.op (some 23) .any [0] (.mov (.tmp 0)) <|
 .op (some 24) .any [4] (.mov (.tmp 4)) <|
 .op (some 25) (.tup []) [23, 24] (.call 108 [(.tmp 23), (.tmp 24)]) <|
 .nil)))))))
def A169 : XFn := ⟨26, [.any, (.int .i64)], [], C169_0⟩
def C185_0 : XC := (.seq (.ops (.op (some 2) .any [] (.mov (.con (V.int .i64 (Int.ofNat 0)))) <|
 .nil))
 (.seq (.seq (.ops (.op (some 3) .any [0] (.mov (.tmp 0)) <|
 .op (some 4) .any [3] (.bin .eql .ptr (.tmp 3) (.con V.nilp)) <|
 .nil))
 (.cond (.tmp 4) (.seq (.ops (.op (some 2) .any [] (.mov (.con (V.int .i64 (Int.ofNat 0)))) <|
 .nil))
 .ret)
 .skip))
 (.seq (.ops (.op (some 5) .any [0] (.mov (.tmp 0)) <|
 .op (some 6) .any [5] (.nilck (.tmp 5)) <|
 .op (some 7) .any [6] (.faddr 1 (.tmp 6)) <|
 .op (some 8) (.int .i64) [7] (.load none (.tmp 7)) <|
 .op (some 2) .any [8] (.mov (.tmp 8)) <|
 .nil))
 .ret)))
def A185 : XFn := ⟨9, [.any], [(.tmp 2)], C185_0⟩
def C187_0 : XC := (.seq (.ops (.op (some 2) .any [] (.mov (.con (V.int .i64 (Int.ofNat 0)))) <|
 .nil))
 (.seq (.ops (.op (some 3) .any [0] (.mov (.tmp 0)) <|
 .op (some 4) .any [3] (.min (.tmp 3) [(.con (V.int .i64 (Int.ofNat 64)))]) <|
 .op (some 5) .any [4] (.max (.con (V.int .i64 (Int.ofNat 0))) [(.tmp 4)]) <|
 .op (some 2) .any [5] (.mov (.tmp 5)) <|
 .nil))
 .ret))
def A187 : XFn := ⟨6, [(.int .i64)], [(.tmp 2)], C187_0⟩
/-! ### F188: __ogham_bits.Reader_.Bits -/
def Fin188 (E : List (Nat × Blk)) : St → Ans := fun s => resK E s [(.tmp 4)] fun l => some (oneV l, s.σ)
def C188_0 : XC := (.seq (.ops (.op (some 4) .any [] (.mov (.con (V.int .u32 (Int.ofNat 0)))) <|
 .nil))
 (.seq (.ops (.op (some 5) .any [1] (.mov (.tmp 1)) <|
 .op (some 6) (.int .i64) [5] (.call 247 [(.tmp 5)]) <|
 .op (some 1) .any [6] (.mov (.tmp 6)) <|
 .nil))
 (.seq (.seq (.ops (.op (some 7) .any [0] (.mov (.tmp 0)) <|
 .op (some 8) .any [1] (.mov (.tmp 1)) <|
 .op (some 9) .bool [7, 8] (.call 248 [(.tmp 7), (.tmp 8)]) <|
 .op (some 10) .any [9] (.un .not (.tmp 9)) <|
 .nil))
 (.cond (.tmp 10) (.seq (.ops (.op (some 4) .any [] (.mov (.con (V.int .u32 (Int.ofNat 0)))) <|
 .nil))
 .ret)
 .skip))
 (.seq (.ops (.op (some 11) .any [0] (.mov (.tmp 0)) <|
 .op (some 12) .any [11] (.nilck (.tmp 11)) <|
 .op (some 13) .any [12] (.faddr 0 (.tmp 12)) <|
 .op (some 14) .any [1] (.mov (.tmp 1)) <|
 .op (some 15) (.int .u32) [13, 14] (.call 208 [(.tmp 13), (.tmp 14)]) <|
 .op (some 4) .any [15] (.mov (.tmp 15)) <|
 .nil))
 .ret))))
def T188_0 (E : List (Nat × Blk)) (D : Den) (W : DrawFn) (v0b : Nat) (v0o : Nat) (v1 : Int) (σ : H) : Ans :=
 callK (D 247 [(V.int .i64 v1)] σ) fun u1 s2 =>
 rtInt .i64 u1 fun x3 =>
 callK (D 248 [(V.ptr v0b v0o), (V.int .i64 x3)] s2) fun u4 s5 =>
 rtBool u4 fun x6 =>
 condK (not x6) (
 some ((V.int .u32 (Int.ofNat 0)), s5)) (
 callK (D 208 [(V.ptr v0b v0o), (V.int .i64 x3)] s5) fun u7 s8 =>
 rtInt .u32 u7 fun x9 =>
 some ((V.int .u32 x9), s8))
theorem P188_0 (E : List (Nat × Blk)) (D : Den) (W : DrawFn) (N : Nat) (v0b : Nat) (v0o : Nat) (v1 : Int) (σ : H) :
  denC E D W N (C188_0 ) ⟨[(0, (V.ptr v0b v0o)), (1, (V.int .i64 v1))], [], [], σ⟩ (Fin188 E) (fun _ _ => none) (Fin188 E) =
  T188_0 E D W  v0b v0o v1 σ := by kernel_rfl
def J188_0 (E : List (Nat × Blk)) (D : Den) (W : DrawFn) (N : Nat) : Nat → Nat → Int → H → Ans := T188_0 E D W 
theorem JE188_0 (E : List (Nat × Blk)) (D : Den) (W : DrawFn) (N : Nat) (v0b : Nat) (v0o : Nat) (v1 : Int) (σ : H) :
  denC E D W N C188_0 ⟨[(0, (V.ptr v0b v0o)), (1, (V.int .i64 v1))], [], [], σ⟩ (Fin188 E) (fun _ _ => none) (Fin188 E) = J188_0 E D W N v0b v0o v1 σ := by
  refine (P188_0 E D W N   v0b v0o v1 σ).trans ?_
  kernel_rfl
def F188 (E : List (Nat × Blk)) (D : Den) (W : DrawFn) (N : Nat) (args : List V) (σ : H) : Ans :=
 rtCons args fun x1 l2 =>
 rtPtr x1 fun b3 o4 =>
 rtCons l2 fun x5 l6 =>
 rtInt .i64 x5 fun x7 =>
 rtNil l6 (
 J188_0 E D W N b3 o4 x7 σ)
def A188 : XFn := ⟨16, [.ptr, (.int .i64)], [(.tmp 4)], C188_0⟩
theorem FE188 (E : List (Nat × Blk)) (D : Den) (W : DrawFn) (N : Nat) (args : List V) (σ : H) : runX E D W N A188 args σ = F188 E D W N args σ := by
  unfold F188
  simp only [← JE188_0]
  kernel_rfl
theorem AO188 : A188.body.ok = true := by kernel_rfl

def C189_0 : XC := (.seq (.ops (.op (some 2) .any [] (.mov (.con (V.bool false))) <|
 .nil))
 (.seq (.ops (.op (some 3) .any [0] (.mov (.tmp 0)) <|
 .op (some 4) .any [3] (.nilck (.tmp 3)) <|
 .op (some 5) .any [4] (.faddr 0 (.tmp 4)) <|
 .op (some 6) .any [5] (.load none (.tmp 5)) <|
 .op (some 7) (.int .u64) [6] (.call 123 [(.tmp 6), (.con (V.int .i64 (Int.ofNat 1)))]) <|
 .op (some 8) .any [7] (.bin .eql .none (.tmp 7) (.con (V.int .u64 (Int.ofNat 1)))) <|
 .op (some 2) .any [8] (.mov (.tmp 8)) <|
 .nil))
 .ret))
def A189 : XFn := ⟨9, [.ptr], [(.tmp 2)], C189_0⟩
def C192_0 : XC := (.seq (.ops (.op (some 1) .any [0] (.box 142 (.tmp 0)) <|
 .op (some 2) .any [] (.mov (.con (V.int .i64 (Int.ofNat 0)))) <|
 .nil))
 (.seq (.ops (.op (some 3) .any [] (.alloc 50 [(V.int .u64 (Int.ofNat 0))]) <|
 .nil))
 (.seq (.ops (.op (some 5) .any [1] (.load none (.tmp 1)) <|
 .op (some 6) .any [1, 3] (.mkfn 251 [] [(.tmp 1), (.tmp 3)]) <|
 .op (some 7) .bool [5, 6] (.call 249 [(.tmp 5), (.tmp 6)]) <|
 .op (some 4) .any [7] (.mov (.tmp 7)) <|
 .nil))
 (.seq (.seq (.ops (.op (some 8) .any [4] (.mov (.tmp 4)) <|
 .op (some 9) .any [8] (.un .not (.tmp 8)) <|
 .nil))
 (.cond (.tmp 9) (.seq (.ops (.op (some 2) .any [] (.mov (.con (V.int .i64 (Int.ofNat 0)))) <|
 .nil))
 .ret)
 .skip))
 (.seq (.ops (.op (some 10) (.int .u64) [3] (.load none (.tmp 3)) <|
 .op (some 11) .any [10] (.conv (.toInt .i64) (.tmp 10)) <|
 .op (some 2) .any [11] (.mov (.tmp 11)) <|
 .nil))
 .ret)))))
def A192 : XFn := ⟨12, [.any], [(.tmp 2)], C192_0⟩
/-! ### F205: __ogham_bits.Reader_.Err -/
def Fin205 (E : List (Nat × Blk)) : St → Ans := fun s => resK E s [(.tmp 2)] fun l => some (oneV l, s.σ)
def C205_0 : XC := (.seq (.ops (.op (some 2) .any [] (.mov (.con (V.int .i64 (Int.ofNat 0)))) <|
 .nil))
 (.seq (.seq (.ops (.op (some 3) .any [0] (.mov (.tmp 0)) <|
 .op (some 4) .any [3] (.bin .eql .ptr (.tmp 3) (.con V.nilp)) <|
 .nil))
 (.cond (.tmp 4) (.seq (.ops (.op (some 2) .any [] (.mov (.con (V.int .i64 (Int.ofNat 2)))) <|
 .nil))
 .ret)
 .skip))
 (.seq (.ops (.op (some 5) .any [0] (.mov (.tmp 0)) <|
 .op (some 6) .any [5] (.nilck (.tmp 5)) <|
 .op (some 7) .any [6] (.faddr 2 (.tmp 6)) <|
 .op (some 8) (.int .i64) [7] (.load none (.tmp 7)) <|
 .op (some 2) .any [8] (.mov (.tmp 8)) <|
 .nil))
 .ret)))
def T205_0 (E : List (Nat × Blk)) (D : Den) (W : DrawFn) (v0 : V) (σ : H) : Ans :=
 eqK .ptr v0 V.nilp fun c1 =>
 condK c1 (
 some ((V.int .i64 (Int.ofNat 2)), σ)) (
 rtPtr v0 fun b2 o3 =>
 ldK E σ b2 (Nat.add o3 2) fun u4 =>
 rtInt .i64 u4 fun x5 =>
 some ((V.int .i64 x5), σ))
theorem P205_0 (E : List (Nat × Blk)) (D : Den) (W : DrawFn) (N : Nat) (v0 : V) (σ : H) :
  denC E D W N (C205_0 ) ⟨[(0, v0)], [], [], σ⟩ (Fin205 E) (fun _ _ => none) (Fin205 E) =
  T205_0 E D W  v0 σ := by kernel_rfl
def J205_0 (E : List (Nat × Blk)) (D : Den) (W : DrawFn) (N : Nat) : V → H → Ans := T205_0 E D W 
theorem JE205_0 (E : List (Nat × Blk)) (D : Den) (W : DrawFn) (N : Nat) (v0 : V) (σ : H) :
  denC E D W N C205_0 ⟨[(0, v0)], [], [], σ⟩ (Fin205 E) (fun _ _ => none) (Fin205 E) = J205_0 E D W N v0 σ := by
  refine (P205_0 E D W N   v0 σ).trans ?_
  kernel_rfl
def F205 (E : List (Nat × Blk)) (D : Den) (W : DrawFn) (N : Nat) (args : List V) (σ : H) : Ans :=
 rtCons args fun x1 l2 =>
 rtNil l2 (
 J205_0 E D W N x1 σ)
def A205 : XFn := ⟨9, [.any], [(.tmp 2)], C205_0⟩
theorem FE205 (E : List (Nat × Blk)) (D : Den) (W : DrawFn) (N : Nat) (args : List V) (σ : H) : runX E D W N A205 args σ = F205 E D W N args σ := by
  unfold F205
  simp only [← JE205_0]
  kernel_rfl
theorem AO205 : A205.body.ok = true := by kernel_rfl

def C206_0 : XC := (.seq (.ops (.op (some 2) .any [] (.mov (.con (V.int .i64 (Int.ofNat 0)))) <|
 .nil))
 (.seq (.seq (.ops (.op (some 3) .any [0] (.mov (.tmp 0)) <|
 .op (some 4) .any [3] (.bin .eql .ptr (.tmp 3) (.con V.nilp)) <|
 .nil))
 (.cond (.tmp 4) (.seq (.ops (.op (some 2) .any [] (.mov (.con (V.int .i64 (Int.ofNat 0)))) <|
 .nil))
 .ret)
 .skip))
 (.seq (.ops (.op (some 5) .any [0] (.mov (.tmp 0)) <|
 .op (some 6) .any [5] (.nilck (.tmp 5)) <|
 .op (some 7) .any [6] (.faddr 0 (.tmp 6)) <|
 .op (some 8) (.int .i64) [7] (.call 207 [(.tmp 7)]) <|
 .op (some 2) .any [8] (.mov (.tmp 8)) <|
 .nil))
 .ret)))
def A206 : XFn := ⟨9, [.any], [(.tmp 2)], C206_0⟩
/-! ### F207: __ogham_bits.place_.left -/
def Fin207 (E : List (Nat × Blk)) : St → Ans := fun s => resK E s [(.tmp 2)] fun l => some (oneV l, s.σ)
def C207_0 : XC := (.seq (.ops (.op (some 2) .any [] (.mov (.con (V.int .i64 (Int.ofNat 0)))) <|
 .nil))
 (.seq (.draw (.op (some 3) .any [0] (.mov (.tmp 0)) <|
 .op (some 4) .any [3] (.nilck (.tmp 3)) <|
 .op (some 5) .any [4] (.faddr 0 (.tmp 4)) <|
 .op (some 6) .any [5] (.load none (.tmp 5)) <|
 .op (some 7) .any [6] (.len false (.tmp 6)) <|
 .op (some 8) .any [7] (.bin .mul .none (.con (V.int .i64 (Int.ofNat 8))) (.tmp 7)) <|
 .op (some 9) .any [0] (.mov (.tmp 0)) <|
 .op (some 10) .any [9] (.nilck (.tmp 9)) <|
 .op (some 11) .any [10] (.faddr 1 (.tmp 10)) <|
 .op (some 12) (.int .i64) [11] (.load none (.tmp 11)) <|
 .op (some 13) .any [8, 12] (.bin .sub .none (.tmp 8) (.tmp 12)) <|
 .op (some 2) .any [13] (.mov (.tmp 13)) <|
 .nil) [0, 1, 3, 7, 15, 31, 0, 64, 192, 448, 1023, 2047])
 .ret))
def T207_0 (E : List (Nat × Blk)) (D : Den) (W : DrawFn) (v0b : Nat) (v0o : Nat) (σ : H) : Ans :=
 ldK E σ v0b v0o fun u1 =>
 slenK u1 fun n2 =>
 ldK E σ v0b (Nat.add v0o 1) fun u3 =>
 rtInt .i64 u3 fun x4 =>
 some ((V.int .i64 (subF .i64 (mulF .i64 (Int.ofNat 8) (Int.ofNat n2)) x4)), σ)
theorem P207_0 (E : List (Nat × Blk)) (D : Den) (W : DrawFn) (N : Nat) (v0b : Nat) (v0o : Nat) (σ : H) :
  denC E D W N (C207_0 ) ⟨[(0, (V.ptr v0b v0o))], [], [], σ⟩ (Fin207 E) (fun _ _ => none) (Fin207 E) =
  T207_0 E D W  v0b v0o σ := by kernel_rfl
def J207_0 (E : List (Nat × Blk)) (D : Den) (W : DrawFn) (N : Nat) : Nat → Nat → H → Ans := T207_0 E D W 
theorem JE207_0 (E : List (Nat × Blk)) (D : Den) (W : DrawFn) (N : Nat) (v0b : Nat) (v0o : Nat) (σ : H) :
  denC E D W N C207_0 ⟨[(0, (V.ptr v0b v0o))], [], [], σ⟩ (Fin207 E) (fun _ _ => none) (Fin207 E) = J207_0 E D W N v0b v0o σ := by
  refine (P207_0 E D W N   v0b v0o σ).trans ?_
  kernel_rfl
def F207 (E : List (Nat × Blk)) (D : Den) (W : DrawFn) (N : Nat) (args : List V) (σ : H) : Ans :=
 rtCons args fun x1 l2 =>
 rtPtr x1 fun b3 o4 =>
 rtNil l2 (
 J207_0 E D W N b3 o4 σ)
def A207 : XFn := ⟨14, [.ptr], [(.tmp 2)], C207_0⟩
theorem FE207 (E : List (Nat × Blk)) (D : Den) (W : DrawFn) (N : Nat) (args : List V) (σ : H) : runX E D W N A207 args σ = F207 E D W N args σ := by
  unfold F207
  simp only [← JE207_0]
  kernel_rfl
theorem AO207 : A207.body.ok = true := by kernel_rfl

/-! ### F208: __ogham_bits.place_.bits -/
def Fin208 (E : List (Nat × Blk)) : St → Ans := fun s => resK E s [(.tmp 4)] fun l => some (oneV l, s.σ)
def C208_0 (cc1 : XC) (cc2 : XC) : XC := (.seq (.ops (.op (some 4) .any [] (.mov (.con (V.int .u32 (Int.ofNat 0)))) <|
 .nil))
 (.seq (.ops (.op (some 5) .any [] (.mov (.con (V.int .u32 (Int.ofNat 0)))) <|
 .nil))
 (.seq (.seq (.ops (.op (some 6) .any [1] (.mov (.tmp 1)) <|
 .op (some 7) .any [] (.mov (.con (V.int .i64 (Int.ofNat 0)))) <|
 .nil))
 (.block 0 (.loop [(0, .any), (5, (.int .u32)), (6, (.int .i64)), (7, (.int .i64))] [] [] cc2)))
 (.keep [(5, (.int .u32))] [] [] cc1))))
def T208_0 (E : List (Nat × Blk)) (D : Den) (W : DrawFn) (K2 : V → Int → Int → Int → H → Ans) (v0 : V) (v1 : Int) (σ : H) : Ans :=
 K2 v0 (Int.ofNat 0) v1 (Int.ofNat 0) σ
def C208_1 : XC := (.seq (.ops (.op (some 16) .any [5] (.mov (.tmp 5)) <|
 .op (some 4) .any [16] (.mov (.tmp 16)) <|
 .nil))
 .ret)
def T208_1 (E : List (Nat × Blk)) (D : Den) (W : DrawFn) (v5 : Int) (σ : H) : Ans :=
 some ((V.int .u32 v5), σ)
def C208_2 : XC := (.seq (.ops (.op (some 8) .any [7, 6] (.bin .lss .none (.tmp 7) (.tmp 6)) <|
 .nil))
 (.seq (.cond (.tmp 8) .skip
 (.exit 0))
 (.seq (.block 1 (.ops (.op (some 9) .any [5] (.mov (.tmp 5)) <|
 .op (some 10) .any [9] (.bin .shl .none (.tmp 9) (.con (V.int .u64 (Int.ofNat 1)))) <|
 .op (some 11) .any [0] (.mov (.tmp 0)) <|
 .op (some 12) (.int .i64) [11] (.call 258 [(.tmp 11)]) <|
 .op (some 13) .any [12] (.conv (.toInt .u32) (.tmp 12)) <|
 .op (some 14) .any [10, 13] (.bin .or .none (.tmp 10) (.tmp 13)) <|
 .op (some 5) .any [14] (.mov (.tmp 14)) <|
 .nil)))
 (.ops (.op (some 15) .any [7] (.bin .add .none (.tmp 7) (.con (V.int .i64 (Int.ofNat 1)))) <|
 .op (some 7) .any [15] (.mov (.tmp 15)) <|
 .nil)))))
def T208_2 (E : List (Nat × Blk)) (D : Den) (W : DrawFn) (K1 : Int → H → Ans) (R2 : V → Int → Int → Int → H → Ans) (v0 : V) (v5 : Int) (v6 : Int) (v7 : Int) (σ : H) : Ans :=
 condK (ltF v7 v6) (
 callK (D 258 [v0] σ) fun u1 s2 =>
 rtInt .i64 u1 fun x3 =>
 R2 v0 (orF .u32 (shlF .u32 v5 1) (wrapF .u32 x3)) v6 (addF .i64 v7 (Int.ofNat 1)) s2) (
 K1 v5 σ)
theorem P208_0 (E : List (Nat × Blk)) (D : Den) (W : DrawFn) (N : Nat) (cc1 : XC) (cc2 : XC) (v0 : V) (v1 : Int) (σ : H) :
  denC E D W N (C208_0 cc1 cc2) ⟨[(0, v0), (1, (V.int .i64 v1))], [], [], σ⟩ (Fin208 E) (fun _ _ => none) (Fin208 E) =
  T208_0 E D W (fun v0 v5 v6 v7 σ => iterK (fun rec s' => denC E D W N cc2 s' (fun s'' => keepS [(0, .any), (5, (.int .u32)), (6, (.int .i64)), (7, (.int .i64))] [] [] s'' rec) (blkK 0 (fun s' => denC E D W N (.keep [(5, (.int .u32))] [] [] cc1) s' (Fin208 E) (fun _ _ => none) (Fin208 E)) (fun _ _ => none)) (Fin208 E)) N ⟨[(0, v0), (5, (V.int .u32 v5)), (6, (V.int .i64 v6)), (7, (V.int .i64 v7))], [], [], σ⟩) v0 v1 σ := by kernel_rfl
theorem P208_1 (E : List (Nat × Blk)) (D : Den) (W : DrawFn) (N : Nat) (v5 : Int) (σ : H) :
  denC E D W N (C208_1 ) ⟨[(5, (V.int .u32 v5))], [], [], σ⟩ (Fin208 E) (fun _ _ => none) (Fin208 E) =
  T208_1 E D W  v5 σ := by kernel_rfl
theorem P208_2 (E : List (Nat × Blk)) (D : Den) (W : DrawFn) (N : Nat) (cc1 : XC) (li2 : St → Ans) (v0 : V) (v5 : Int) (v6 : Int) (v7 : Int) (σ : H) :
  denC E D W N (C208_2 ) ⟨[(0, v0), (5, (V.int .u32 v5)), (6, (V.int .i64 v6)), (7, (V.int .i64 v7))], [], [], σ⟩ (fun s'' => keepS [(0, .any), (5, (.int .u32)), (6, (.int .i64)), (7, (.int .i64))] [] [] s'' li2) (blkK 0 (fun s' => denC E D W N (.keep [(5, (.int .u32))] [] [] cc1) s' (Fin208 E) (fun _ _ => none) (Fin208 E)) (fun _ _ => none)) (Fin208 E) =
  T208_2 E D W (fun v5 σ => denC E D W N cc1 ⟨[(5, (V.int .u32 v5))], [], [], σ⟩ (Fin208 E) (fun _ _ => none) (Fin208 E)) (fun v0 v5 v6 v7 σ => li2 ⟨[(0, v0), (5, (V.int .u32 v5)), (6, (V.int .i64 v6)), (7, (V.int .i64 v7))], [], [], σ⟩) v0 v5 v6 v7 σ := by kernel_rfl
def J208_1 (E : List (Nat × Blk)) (D : Den) (W : DrawFn) (N : Nat) : Int → H → Ans := T208_1 E D W 
theorem JE208_1 (E : List (Nat × Blk)) (D : Den) (W : DrawFn) (N : Nat) (v5 : Int) (σ : H) :
  denC E D W N C208_1 ⟨[(5, (V.int .u32 v5))], [], [], σ⟩ (Fin208 E) (fun _ _ => none) (Fin208 E) = J208_1 E D W N v5 σ := by
  refine (P208_1 E D W N   v5 σ).trans ?_
  kernel_rfl
def L208_2 (E : List (Nat × Blk)) (D : Den) (W : DrawFn) (N : Nat) (n : Nat) : V → Int → Int → Int → H → Ans :=
  Nat.rec (fun _ _ _ _ _ => none) (fun _ ih => T208_2 E D W (J208_1 E D W N ) ih) n
theorem LE208_2 (E : List (Nat × Blk)) (D : Den) (W : DrawFn) (N : Nat) (n : Nat) : ∀ (v0 : V) (v5 : Int) (v6 : Int) (v7 : Int) (σ : H),
  iterK (fun rec s' => denC E D W N C208_2 s' (fun s'' => keepS [(0, .any), (5, (.int .u32)), (6, (.int .i64)), (7, (.int .i64))] [] [] s'' rec) (blkK 0 (fun s' => denC E D W N (.keep [(5, (.int .u32))] [] [] C208_1) s' (Fin208 E) (fun _ _ => none) (Fin208 E)) (fun _ _ => none)) (Fin208 E)) n ⟨[(0, v0), (5, (V.int .u32 v5)), (6, (V.int .i64 v6)), (7, (V.int .i64 v7))], [], [], σ⟩ = L208_2 E D W N n v0 v5 v6 v7 σ := by
  induction n with
  | zero => intro v0 v5 v6 v7 σ; rfl
  | succ n ihn =>
    intro v0 v5 v6 v7 σ
    rw [iterK_succ]
    refine (P208_2 E D W N C208_1 (iterK (fun rec s' => denC E D W N C208_2 s' (fun s'' => keepS [(0, .any), (5, (.int .u32)), (6, (.int .i64)), (7, (.int .i64))] [] [] s'' rec) (blkK 0 (fun s' => denC E D W N (.keep [(5, (.int .u32))] [] [] C208_1) s' (Fin208 E) (fun _ _ => none) (Fin208 E)) (fun _ _ => none)) (Fin208 E)) n) v0 v5 v6 v7 σ).trans ?_
    simp only [ihn, JE208_1]
    kernel_rfl
def J208_0 (E : List (Nat × Blk)) (D : Den) (W : DrawFn) (N : Nat) : V → Int → H → Ans := T208_0 E D W (L208_2 E D W N N)
theorem JE208_0 (E : List (Nat × Blk)) (D : Den) (W : DrawFn) (N : Nat) (v0 : V) (v1 : Int) (σ : H) :
  denC E D W N (C208_0 C208_1 C208_2) ⟨[(0, v0), (1, (V.int .i64 v1))], [], [], σ⟩ (Fin208 E) (fun _ _ => none) (Fin208 E) = J208_0 E D W N v0 v1 σ := by
  refine (P208_0 E D W N C208_1 C208_2  v0 v1 σ).trans ?_
  simp only [LE208_2]
  kernel_rfl
def F208 (E : List (Nat × Blk)) (D : Den) (W : DrawFn) (N : Nat) (args : List V) (σ : H) : Ans :=
 rtCons args fun x1 l2 =>
 rtCons l2 fun x3 l4 =>
 rtInt .i64 x3 fun x5 =>
 rtNil l4 (
 J208_0 E D W N x1 x5 σ)
def A208 : XFn := ⟨17, [.any, (.int .i64)], [(.tmp 4)], (C208_0 C208_1 C208_2)⟩
theorem FE208 (E : List (Nat × Blk)) (D : Den) (W : DrawFn) (N : Nat) (args : List V) (σ : H) : runX E D W N A208 args σ = F208 E D W N args σ := by
  unfold F208
  simp only [← JE208_0]
  kernel_rfl
theorem AO208 : A208.body.ok = true := by kernel_rfl

def G219_0 : List AOper := [⟨(some 33), .mov (.tmp 7), none⟩, ⟨(some 34), .mov (.tmp 0), none⟩, ⟨(some 35), .nilck (.tmp 34), none⟩, ⟨(some 36), .faddr 5 (.tmp 35), none⟩, ⟨(some 37), .load none (.tmp 36), none⟩, ⟨(some 38), .mov (.tmp 1), none⟩, ⟨(some 39), .mov (.tmp 8), none⟩, ⟨(some 40), .iaddrS 11 (.tmp 38) (.tmp 39), none⟩, ⟨(some 41), .faddr 1 (.tmp 40), none⟩, ⟨(some 42), .load none (.tmp 41), none⟩, ⟨(some 43), .call 265 [(.tmp 37), (.tmp 42)], none⟩, ⟨(some 44), .buildSlice 163 1 [V.nils] [(0, 1, (.tmp 43))], none⟩, ⟨(some 45), .append 163 1 24 (.tmp 33) (.tmp 44), none⟩, ⟨(some 7), .mov (.tmp 45), none⟩]
def H219_0 : List DP := [⟨0, [7]⟩, ⟨0, [0]⟩, ⟨2, [34]⟩, ⟨6, [35]⟩, ⟨14, [36]⟩, ⟨0, [1]⟩, ⟨0, [8]⟩, ⟨96, [38, 39]⟩, ⟨224, [40]⟩, ⟨480, [41]⟩, ⟨1022, [37, 42]⟩, ⟨2046, [43]⟩, ⟨4095, [33, 44]⟩, ⟨8191, [45]⟩]
def C219_0 (cc1 : XC) (cc2 : XC) : XC := (.seq (.ops (.op (some 6) .any [] (.mov (.con (V.bool false))) <|
 .nil))
 (.seq (.ops (.op (some 7) .any [] (.mov (.con V.nils)) <|
 .nil))
 (.seq (.seq (.ops (.op (some 8) .any [] (.mov (.con (V.int .i64 (Int.ofNat 0)))) <|
 .nil))
 (.block 0 (.loop [(0, .ptr), (1, .any), (2, .bool), (7, .any), (8, (.int .i64))] [] [] cc2)))
 (.keep [(7, .any)] [] [] cc1))))
def C219_1 : XC := (.seq (.ops (.op (some 46) .any [7] (.mov (.tmp 7)) <|
 .op (some 47) .bool [46] (.call 266 [(.tmp 46)]) <|
 .op (some 6) .any [47] (.mov (.tmp 47)) <|
 .nil))
 .ret)
def C219_2 : XC := (.seq (.seq (.ops (.op (some 9) .any [8] (.mov (.tmp 8)) <|
 .op (some 10) .any [1] (.mov (.tmp 1)) <|
 .op (some 11) .any [10] (.len false (.tmp 10)) <|
 .op (some 12) .any [9, 11] (.bin .lss .none (.tmp 9) (.tmp 11)) <|
 .nil))
 (.cond (.tmp 12) .skip
 (.exit 0)))
 (.seq (.block 1 (.seq (.seq (.draw (.op (some 15) .any [0] (.mov (.tmp 0)) <|
 .op (some 16) .any [15] (.nilck (.tmp 15)) <|
 .op (some 17) .any [16] (.faddr 5 (.tmp 16)) <|
 .op (some 18) .any [17] (.load none (.tmp 17)) <|
 .op (some 19) .any [1] (.mov (.tmp 1)) <|
 .op (some 20) .any [8] (.mov (.tmp 8)) <|
 .op (some 21) .any [19, 20] (.iaddrS 11 (.tmp 19) (.tmp 20)) <|
 .op (some 22) .any [21] (.faddr 1 (.tmp 21)) <|
 .op (some 23) (.int .i64) [22] (.load none (.tmp 22)) <|
 .op (some 24) .bool [18, 23] (.call 264 [(.tmp 18), (.tmp 23)]) <|
 .op (some 25) .any [24] (.mov (.tmp 24)) <|
 .grp 25 true (.op (some 26) .any [2, 25] (.mov (.tmp 2)) <|
 .op (some 27) .any [26, 25] (.mov (.tmp 26)) <|
 .grp 27 false (.op (some 28) .any [1, 27] (.mov (.tmp 1)) <|
 .op (some 29) .any [28, 27] (.len false (.tmp 28)) <|
 .op (some 30) .any [29, 27] (.bin .gtr .none (.tmp 29) (.con (V.int .i64 (Int.ofNat 1)))) <|
 .nil) 31 [27, 30, 25] (.tmp 27) (.con (V.bool true)) (.tmp 30) <|
 .nil) 32 [25, 31] (.tmp 25) (.tmp 31) (.con (V.bool false)) <|
 .nil) [0, 1, 3, 7, 0, 0, 48, 112, 240, 511, 1023, 2047, 4095, 8191, 16383, 32767, 65535, 131071])
 (.cond (.tmp 32) (.seq (.ops (.op (some 6) .any [] (.mov (.con (V.bool false))) <|
 .nil))
 .ret)
 .skip))
 (.keep [(0, .ptr), (1, .any), (2, .bool), (7, .any), (8, (.int .i64))] [] [] (.gdraw G219_0 H219_0 [(0, .ptr), (1, .any), (2, .bool), (7, .any), (8, (.int .i64))]))))
 (.ops (.op (some 13) .any [8] (.mov (.tmp 8)) <|
 .op (some 14) .any [13] (.bin .add .none (.tmp 13) (.con (V.int .i64 (Int.ofNat 1)))) <|
 .op (some 8) .any [14] (.mov (.tmp 14)) <|
 .nil))))
def A219 : XFn := ⟨48, [.ptr, .any, .bool], [(.tmp 6)], (C219_0 C219_1 C219_2)⟩
def C220_0 (cc1 : XC) (cc2 : XC) : XC := (.seq (.ops (.op (some 1) .any [0] (.box 165 (.tmp 0)) <|
 .op (some 2) .any [] (.mov (.con V.nils)) <|
 .nil))
 (.seq (.ops (.op (some 3) .any [] (.mov (.con V.nils)) <|
 .nil))
 (.seq (.seq (.ops (.op (some 4) .any [] (.mov (.con (V.int .i64 (Int.ofNat 0)))) <|
 .nil))
 (.block 0 (.loop [(1, .ptr), (3, .any), (4, (.int .i64))] [] [] cc2)))
 (.keep [(3, .any)] [] [] cc1))))
def C220_1 : XC := (.seq (.ops (.op (some 35) .any [3] (.mov (.tmp 3)) <|
 .op (some 2) .any [35] (.mov (.tmp 35)) <|
 .nil))
 .ret)
def C220_2 : XC := (.seq (.seq (.ops (.op (some 5) .any [4] (.mov (.tmp 4)) <|
 .op (some 6) .any [1] (.faddr 9 (.tmp 1)) <|
 .op (some 7) .any [6] (.load none (.tmp 6)) <|
 .op (some 8) .any [7] (.len false (.tmp 7)) <|
 .op (some 9) .any [5, 8] (.bin .lss .none (.tmp 5) (.tmp 8)) <|
 .nil))
 (.cond (.tmp 9) .skip
 (.exit 0)))
 (.seq (.block 1 (.ops (.op (some 12) .any [3] (.mov (.tmp 3)) <|
 .op (some 13) .any [1] (.faddr 9 (.tmp 1)) <|
 .op (some 14) .any [13] (.load none (.tmp 13)) <|
 .op (some 15) .any [4] (.mov (.tmp 4)) <|
 .op (some 16) .any [14, 15] (.iaddrS 11 (.tmp 14) (.tmp 15)) <|
 .op (some 17) .any [16] (.faddr 2 (.tmp 16)) <|
 .op (some 18) .bool [17] (.load none (.tmp 17)) <|
 .op (some 19) .any [18] (.mov (.tmp 18)) <|
 .grp 19 false (.op (some 20) .any [1, 19] (.faddr 9 (.tmp 1)) <|
 .op (some 21) .any [20, 19] (.load none (.tmp 20)) <|
 .op (some 22) .any [4, 19] (.mov (.tmp 4)) <|
 .op (some 23) .any [21, 22, 19] (.iaddrS 11 (.tmp 21) (.tmp 22)) <|
 .op (some 24) .any [23, 19] (.faddr 3 (.tmp 23)) <|
 .op (some 25) .bool [24, 19] (.load none (.tmp 24)) <|
 .nil) 26 [19, 25] (.tmp 19) (.con (V.bool true)) (.tmp 25) <|
 .op (some 27) .any [26] (.mov (.tmp 26)) <|
 .grp 27 false (.op (some 28) .any [4, 27] (.mov (.tmp 4)) <|
 .op (some 29) .any [1, 27] (.faddr 10 (.tmp 1)) <|
 .op (some 30) (.int .i64) [29, 27] (.load none (.tmp 29)) <|
 .op (some 31) .any [28, 30, 27] (.bin .geq .none (.tmp 28) (.tmp 30)) <|
 .nil) 32 [27, 31] (.tmp 27) (.con (V.bool true)) (.tmp 31) <|
 .op (some 33) .any [32] (.buildSlice 4 1 [(V.bool false)] [(0, 1, (.tmp 32))]) <|
 .op (some 34) .one [12, 33] (.append 4 1 1 (.tmp 12) (.tmp 33)) <|
 .op (some 3) .any [34] (.mov (.tmp 34)) <|
 .nil)))
 (.ops (.op (some 10) .any [4] (.mov (.tmp 4)) <|
 .op (some 11) .any [10] (.bin .add .none (.tmp 10) (.con (V.int .i64 (Int.ofNat 1)))) <|
 .op (some 4) .any [11] (.mov (.tmp 11)) <|
 .nil))))
def A220 : XFn := ⟨36, [(.agg [(.int .i64), .any, .bool, .bool, .bool, .bool, (.int .i64), (.int .i64), .any, .any, (.int .i64), .bool, (.int .i64)])], [(.tmp 2)], (C220_0 C220_1 C220_2)⟩
def C221_0 (cc1 : XC) (cc2 : XC) : XC := (.seq (.ops (.op (some 1) .any [0] (.box 165 (.tmp 0)) <|
 .op (some 2) .any [] (.mov (.con (V.int .i64 (Int.ofNat 0)))) <|
 .nil))
 (.seq (.ops (.op (some 5) (.agg [(.int .i64), .any, .bool, .bool, .bool, .bool, (.int .i64), (.int .i64), .any, .any, (.int .i64), .bool, (.int .i64)]) [1] (.load (some 13) (.tmp 1)) <|
 .op (some 6) .one [5] (.call 220 [(.tmp 5)]) <|
 .op (some 3) .any [6] (.mov (.tmp 6)) <|
 .nil))
 (.seq (.ops (.op (some 7) .any [1] (.faddr 10 (.tmp 1)) <|
 .op (some 8) (.int .i64) [7] (.load none (.tmp 7)) <|
 .op (some 4) .any [8] (.mov (.tmp 8)) <|
 .nil))
 (.seq (.block 0 (.loop [(3, .any), (4, (.int .i64))] [] [] cc2))
 (.keep [(4, (.int .i64))] [] [] cc1)))))
def C221_1 : XC := (.seq (.ops (.op (some 20) .any [4] (.mov (.tmp 4)) <|
 .op (some 2) .any [20] (.mov (.tmp 20)) <|
 .nil))
 .ret)
def C221_2 : XC := (.seq (.seq (.ops (.op (some 9) .any [4] (.mov (.tmp 4)) <|
 .op (some 10) .any [9] (.bin .gtr .none (.tmp 9) (.con (V.int .i64 (Int.ofNat 0)))) <|
 .op (some 11) .any [10] (.mov (.tmp 10)) <|
 .grp 11 true (.op (some 12) .any [3, 11] (.mov (.tmp 3)) <|
 .op (some 13) .any [4, 11] (.mov (.tmp 4)) <|
 .op (some 14) .any [13, 11] (.bin .sub .none (.tmp 13) (.con (V.int .i64 (Int.ofNat 1)))) <|
 .op (some 15) .any [12, 14, 11] (.iaddrS 1 (.tmp 12) (.tmp 14)) <|
 .op (some 16) .bool [15, 11] (.load none (.tmp 15)) <|
 .nil) 17 [11, 16] (.tmp 11) (.tmp 16) (.con (V.bool false)) <|
 .nil))
 (.cond (.tmp 17) .skip
 (.exit 0)))
 (.block 1 (.ops (.op (some 18) .any [4] (.mov (.tmp 4)) <|
 .op (some 19) .any [18] (.bin .sub .none (.tmp 18) (.con (V.int .i64 (Int.ofNat 1)))) <|
 .op (some 4) .any [19] (.mov (.tmp 19)) <|
 .nil))))
def A221 : XFn := ⟨21, [(.agg [(.int .i64), .any, .bool, .bool, .bool, .bool, (.int .i64), (.int .i64), .any, .any, (.int .i64), .bool, (.int .i64)])], [(.tmp 2)], (C221_0 C221_1 C221_2)⟩
/-! ### F222: ogham_tlv.Head -/
def Fin222 (E : List (Nat × Blk)) : St → Ans := fun s => resK E s [(.tmp 6)] fun l => some (oneV l, s.σ)
def C222_0 (cc1 : XC) : XC := (.seq (.ops (.op (some 3) .any [0] (.box 182 (.tmp 0)) <|
 .op (some 6) .any [] (.mov (.con V.nils)) <|
 .nil))
 (.seq (.ops (.op (some 11) .any [3] (.faddr 0 (.tmp 3)) <|
 .op (some 12) (.int .i64) [11] (.load none (.tmp 11)) <|
 .op (some 13) .any [12] (.bin .rem .none (.tmp 12) (.con (V.int .i64 (Int.ofNat 4)))) <|
 .op (some 14) .any [13] (.bin .add .none (.tmp 13) (.con (V.int .i64 (Int.ofNat 4)))) <|
 .op (some 15) .any [14] (.conv (.toInt .u8) (.tmp 14)) <|
 .op (some 16) .any [15] (.bin .rem .none (.tmp 15) (.con (V.int .u8 (Int.ofNat 4)))) <|
 .op (some 17) .any [16] (.bin .shl .none (.tmp 16) (.con (V.int .u64 (Int.ofNat 6)))) <|
 .op (some 7) .any [17] (.mov (.tmp 17)) <|
 .nil))
 (.seq (.seq (.ops (.op (some 18) .any [1] (.mov (.tmp 1)) <|
 .nil))
 (.cond (.tmp 18) (.ops (.op (some 19) .any [7] (.mov (.tmp 7)) <|
 .op (some 20) .any [19] (.bin .or .none (.tmp 19) (.con (V.int .u8 (Int.ofNat 32)))) <|
 .op (some 7) .any [20] (.mov (.tmp 20)) <|
 .nil))
 .skip))
 (.keep [(2, (.int .i64)), (3, .ptr), (7, (.int .u8))] [] [] cc1))))
def T222_0 (E : List (Nat × Blk)) (D : Den) (W : DrawFn) (K1 : Int → Nat → Nat → Int → H → Ans) (v0_0 : Int) (v0_1 : Int) (v1 : Bool) (v2 : Int) (σ : H) : Ans :=
 chk (allOne (V.cells (V.agg [(V.int .i64 v0_0), (V.int .i64 v0_1)]))) (
 let s1 := newB σ (.cells (V.cells (V.agg [(V.int .i64 v0_0), (V.int .i64 v0_1)])));
 ldK E s1 (H.next σ) 0 fun u2 =>
 rtInt .i64 u2 fun x3 =>
 condK v1 (
 K1 v2 (H.next σ) 0 (orF .u8 (shlF .u8 (Int.tmod (wrapF .u8 (addF .i64 (Int.tmod x3 (Int.ofNat 4)) (Int.ofNat 4))) (Int.ofNat 4)) 6) (Int.ofNat 32)) s1) (
 K1 v2 (H.next σ) 0 (shlF .u8 (Int.tmod (wrapF .u8 (addF .i64 (Int.tmod x3 (Int.ofNat 4)) (Int.ofNat 4))) (Int.ofNat 4)) 6) s1))
def C222_1 (cc2 : XC) : XC := (.seq (.ops (.op (some 21) .any [3] (.faddr 1 (.tmp 3)) <|
 .op (some 22) (.int .i64) [21] (.load none (.tmp 21)) <|
 .op (some 23) .any [22] (.max (.tmp 22) [(.con (V.int .i64 (Int.ofNat 0)))]) <|
 .op (some 8) .any [23] (.mov (.tmp 23)) <|
 .nil))
 (.seq (.ops (.op (some 9) .any [] (.mov (.con V.nils)) <|
 .nil))
 (.seq (.seq (.ops (.op (some 24) .any [8] (.mov (.tmp 8)) <|
 .op (some 25) .any [24] (.bin .lss .none (.tmp 24) (.con (V.int .i64 (Int.ofNat 31)))) <|
 .nil))
 (.cond (.tmp 25) (.ops (.op (some 26) .any [7] (.mov (.tmp 7)) <|
 .op (some 27) .any [8] (.mov (.tmp 8)) <|
 .op (some 28) .any [27] (.conv (.toInt .u8) (.tmp 27)) <|
 .op (some 29) .any [26, 28] (.bin .or .none (.tmp 26) (.tmp 28)) <|
 .op (some 30) .any [29] (.buildSlice 5 1 [(V.int .u8 (Int.ofNat 0))] [(0, 1, (.tmp 29))]) <|
 .op (some 9) .any [30] (.mov (.tmp 30)) <|
 .nil))
 (.ops (.op (some 31) .any [7] (.mov (.tmp 7)) <|
 .op (some 32) .any [31] (.bin .or .none (.tmp 31) (.con (V.int .u8 (Int.ofNat 31)))) <|
 .op (some 33) .any [32] (.buildSlice 5 1 [(V.int .u8 (Int.ofNat 0))] [(0, 1, (.tmp 32))]) <|
 .op (some 34) .any [8] (.mov (.tmp 8)) <|
 .op (some 35) .any [34] (.conv (.toInt .u64) (.tmp 34)) <|
 .op (some 36) .one [35] (.call 267 [(.tmp 35)]) <|
 .op (some 37) .any [33, 36] (.buildSlice 31 2 [V.nils, V.nils] [(0, 1, (.tmp 33)), (1, 1, (.tmp 36))]) <|
 .op (some 38) .one [37] (.call 152 [(.tmp 37)]) <|
 .op (some 9) .any [38] (.mov (.tmp 38)) <|
 .nil))))
 (.keep [(2, (.int .i64)), (9, .any)] [] [] cc2))))
def T222_1 (E : List (Nat × Blk)) (D : Den) (W : DrawFn) (K2 : Int → V → H → Ans) (v2 : Int) (v3b : Nat) (v3o : Nat) (v7 : Int) (σ : H) : Ans :=
 ldK E σ v3b (Nat.add v3o 1) fun u1 =>
 rtInt .i64 u1 fun x2 =>
 condK (ltF (maxF x2 (Int.ofNat 0)) (Int.ofNat 31)) (
 let s3 := newB σ (.cells [(V.int .u8 (orF .u8 v7 (wrapF .u8 (maxF x2 (Int.ofNat 0)))))]);
 K2 v2 (V.sl (H.next σ) 0 1 (.ex 1)) s3) (
 let s4 := newB σ (.cells [(V.int .u8 (orF .u8 v7 (Int.ofNat 31)))]);
 callK (D 267 [(V.int .u64 (wrapF .u64 (maxF x2 (Int.ofNat 0))))] s4) fun u5 s6 =>
 rtOne u5 (
 fillK [(0, 1, (V.sl (H.next σ) 0 1 (.ex 1))), (1, 1, u5)] [V.nils, V.nils] fun l7 =>
 chk (allOne l7) (
 let s8 := newB s6 (.cells l7);
 callK (D 152 [(V.sl (H.next s6) 0 2 (.ex 2))] s8) fun u9 s10 =>
 rtOne u9 (
 K2 v2 u9 s10))))
def C222_2 : XC := (.seq (.ops (.op (some 39) .any [2] (.mov (.tmp 2)) <|
 .op (some 40) .any [39] (.max (.tmp 39) [(.con (V.int .i64 (Int.ofNat 0)))]) <|
 .op (some 2) .any [40] (.mov (.tmp 40)) <|
 .nil))
 (.seq (.seq (.ops (.op (some 41) .any [2] (.mov (.tmp 2)) <|
 .op (some 42) .any [41] (.bin .lss .none (.tmp 41) (.con (V.int .i64 (Int.ofNat 128)))) <|
 .nil))
 (.cond (.tmp 42) (.seq (.ops (.op (some 43) .any [9] (.mov (.tmp 9)) <|
 .op (some 44) .any [2] (.mov (.tmp 2)) <|
 .op (some 45) .any [44] (.conv (.toInt .u8) (.tmp 44)) <|
 .op (some 46) .any [45] (.buildSlice 5 1 [(V.int .u8 (Int.ofNat 0))] [(0, 1, (.tmp 45))]) <|
 .op (some 47) .one [43, 46] (.append 5 1 1 (.tmp 43) (.tmp 46)) <|
 .op (some 6) .any [47] (.mov (.tmp 47)) <|
 .nil))
 .ret)
 .skip))
 (.seq (.ops (.op (some 48) .any [2] (.mov (.tmp 2)) <|
 .op (some 49) .any [48] (.conv (.toInt .u64) (.tmp 48)) <|
 .op (some 50) .one [49] (.call 168 [(.tmp 49)]) <|
 .op (some 10) .any [50] (.mov (.tmp 50)) <|
 .nil))
 (.seq (.ops (.op (some 51) .any [9] (.mov (.tmp 9)) <|
 .op (some 52) .any [10] (.mov (.tmp 10)) <|
 .op (some 53) .any [52] (.len false (.tmp 52)) <|
 .op (some 54) .any [53] (.conv (.toInt .u8) (.tmp 53)) <|
 .op (some 55) .any [54] (.bin .or .none (.con (V.int .u8 (Int.ofNat 128))) (.tmp 54)) <|
 .op (some 56) .any [55] (.buildSlice 5 1 [(V.int .u8 (Int.ofNat 0))] [(0, 1, (.tmp 55))]) <|
 .op (some 57) .any [10] (.mov (.tmp 10)) <|
 .op (some 58) .any [51, 56, 57] (.buildSlice 31 3 [V.nils, V.nils, V.nils] [(0, 1, (.tmp 51)), (1, 1, (.tmp 56)), (2, 1, (.tmp 57))]) <|
 .op (some 59) .one [58] (.call 152 [(.tmp 58)]) <|
 .op (some 6) .any [59] (.mov (.tmp 59)) <|
 .nil))
 .ret))))
def T222_2 (E : List (Nat × Blk)) (D : Den) (W : DrawFn) (v2 : Int) (v9 : V) (σ : H) : Ans :=
 condK (ltF (maxF v2 (Int.ofNat 0)) (Int.ofNat 128)) (
 let s1 := newB σ (.cells [(V.int .u8 (wrapF .u8 (maxF v2 (Int.ofNat 0))))]);
 appK E 1 1 v9 (V.sl (H.next σ) 0 1 (.ex 1)) s1 fun u2 s3 =>
 rtOne u2 (
 some (u2, s3))) (
 callK (D 168 [(V.int .u64 (wrapF .u64 (maxF v2 (Int.ofNat 0))))] σ) fun u4 s5 =>
 rtOne u4 (
 slenK u4 fun n6 =>
 let s7 := newB s5 (.cells [(V.int .u8 (orF .u8 (Int.ofNat 128) (wrapF .u8 (Int.ofNat n6))))]);
 fillK [(0, 1, v9), (1, 1, (V.sl (H.next s5) 0 1 (.ex 1))), (2, 1, u4)] [V.nils, V.nils, V.nils] fun l8 =>
 chk (allOne l8) (
 let s9 := newB s7 (.cells l8);
 callK (D 152 [(V.sl (H.next s7) 0 3 (.ex 3))] s9) fun u10 s11 =>
 rtOne u10 (
 some (u10, s11)))))
theorem P222_0 (E : List (Nat × Blk)) (D : Den) (W : DrawFn) (N : Nat) (cc1 : XC) (v0_0 : Int) (v0_1 : Int) (v1 : Bool) (v2 : Int) (σ : H) :
  denC E D W N (C222_0 cc1) ⟨[(0, (V.agg [(V.int .i64 v0_0), (V.int .i64 v0_1)])), (1, (V.bool v1)), (2, (V.int .i64 v2))], [], [], σ⟩ (Fin222 E) (fun _ _ => none) (Fin222 E) =
  T222_0 E D W (fun v2 v3b v3o v7 σ => denC E D W N cc1 ⟨[(2, (V.int .i64 v2)), (3, (V.ptr v3b v3o)), (7, (V.int .u8 v7))], [], [], σ⟩ (Fin222 E) (fun _ _ => none) (Fin222 E)) v0_0 v0_1 v1 v2 σ := by kernel_rfl
theorem P222_1 (E : List (Nat × Blk)) (D : Den) (W : DrawFn) (N : Nat) (cc2 : XC) (v2 : Int) (v3b : Nat) (v3o : Nat) (v7 : Int) (σ : H) :
  denC E D W N (C222_1 cc2) ⟨[(2, (V.int .i64 v2)), (3, (V.ptr v3b v3o)), (7, (V.int .u8 v7))], [], [], σ⟩ (Fin222 E) (fun _ _ => none) (Fin222 E) =
  T222_1 E D W (fun v2 v9 σ => denC E D W N cc2 ⟨[(2, (V.int .i64 v2)), (9, v9)], [], [], σ⟩ (Fin222 E) (fun _ _ => none) (Fin222 E)) v2 v3b v3o v7 σ := by kernel_rfl
theorem P222_2 (E : List (Nat × Blk)) (D : Den) (W : DrawFn) (N : Nat) (v2 : Int) (v9 : V) (σ : H) :
  denC E D W N (C222_2 ) ⟨[(2, (V.int .i64 v2)), (9, v9)], [], [], σ⟩ (Fin222 E) (fun _ _ => none) (Fin222 E) =
  T222_2 E D W  v2 v9 σ := by kernel_rfl
def J222_2 (E : List (Nat × Blk)) (D : Den) (W : DrawFn) (N : Nat) : Int → V → H → Ans := T222_2 E D W 
theorem JE222_2 (E : List (Nat × Blk)) (D : Den) (W : DrawFn) (N : Nat) (v2 : Int) (v9 : V) (σ : H) :
  denC E D W N C222_2 ⟨[(2, (V.int .i64 v2)), (9, v9)], [], [], σ⟩ (Fin222 E) (fun _ _ => none) (Fin222 E) = J222_2 E D W N v2 v9 σ := by
  refine (P222_2 E D W N   v2 v9 σ).trans ?_
  kernel_rfl
def J222_1 (E : List (Nat × Blk)) (D : Den) (W : DrawFn) (N : Nat) : Int → Nat → Nat → Int → H → Ans := T222_1 E D W (J222_2 E D W N )
theorem JE222_1 (E : List (Nat × Blk)) (D : Den) (W : DrawFn) (N : Nat) (v2 : Int) (v3b : Nat) (v3o : Nat) (v7 : Int) (σ : H) :
  denC E D W N (C222_1 C222_2) ⟨[(2, (V.int .i64 v2)), (3, (V.ptr v3b v3o)), (7, (V.int .u8 v7))], [], [], σ⟩ (Fin222 E) (fun _ _ => none) (Fin222 E) = J222_1 E D W N v2 v3b v3o v7 σ := by
  refine (P222_1 E D W N C222_2  v2 v3b v3o v7 σ).trans ?_
  simp only [JE222_2]
  kernel_rfl
def J222_0 (E : List (Nat × Blk)) (D : Den) (W : DrawFn) (N : Nat) : Int → Int → Bool → Int → H → Ans := T222_0 E D W (J222_1 E D W N )
theorem JE222_0 (E : List (Nat × Blk)) (D : Den) (W : DrawFn) (N : Nat) (v0_0 : Int) (v0_1 : Int) (v1 : Bool) (v2 : Int) (σ : H) :
  denC E D W N (C222_0 (C222_1 C222_2)) ⟨[(0, (V.agg [(V.int .i64 v0_0), (V.int .i64 v0_1)])), (1, (V.bool v1)), (2, (V.int .i64 v2))], [], [], σ⟩ (Fin222 E) (fun _ _ => none) (Fin222 E) = J222_0 E D W N v0_0 v0_1 v1 v2 σ := by
  refine (P222_0 E D W N (C222_1 C222_2)  v0_0 v0_1 v1 v2 σ).trans ?_
  simp only [JE222_1]
  kernel_rfl
def F222 (E : List (Nat × Blk)) (D : Den) (W : DrawFn) (N : Nat) (args : List V) (σ : H) : Ans :=
 rtCons args fun x1 l2 =>
 rtAgg x1 fun l3 =>
 rtCons l3 fun x4 l5 =>
 rtInt .i64 x4 fun x6 =>
 rtCons l5 fun x7 l8 =>
 rtInt .i64 x7 fun x9 =>
 rtNil l8 (
 rtCons l2 fun x10 l11 =>
 rtBool x10 fun x12 =>
 rtCons l11 fun x13 l14 =>
 rtInt .i64 x13 fun x15 =>
 rtNil l14 (
 J222_0 E D W N x6 x9 x12 x15 σ))
def A222 : XFn := ⟨60, [(.agg [(.int .i64), (.int .i64)]), .bool, (.int .i64)], [(.tmp 6)], (C222_0 (C222_1 C222_2))⟩
theorem FE222 (E : List (Nat × Blk)) (D : Den) (W : DrawFn) (N : Nat) (args : List V) (σ : H) : runX E D W N A222 args σ = F222 E D W N args σ := by
  unfold F222
  simp only [← JE222_0]
  kernel_rfl
theorem AO222 : A222.body.ok = true := by kernel_rfl

/-! ### F226: ogham_tlv.TakeHead -/
def G226_0 : List AOper := [⟨(some 39), .mov (.tmp 0), none⟩, ⟨(some 40), .iaddrS 1 (.tmp 39) (.con (V.int .i64 (Int.ofNat 0))), none⟩, ⟨(some 41), .load none (.tmp 40), none⟩, ⟨(some 42), .bin .shr .none (.tmp 41) (.con (V.int .u64 (Int.ofNat 6))), none⟩, ⟨(some 43), .conv (.toInt .i64) (.tmp 42), none⟩, ⟨(some 44), .mov (.tmp 7), none⟩, ⟨(some 45), .build [(V.int .i64 (Int.ofNat 0)), (V.int .i64 (Int.ofNat 0))] [(0, 1, (.tmp 43)), (1, 1, (.tmp 44))], none⟩, ⟨(some 46), .mov (.tmp 0), none⟩, ⟨(some 47), .iaddrS 1 (.tmp 46) (.con (V.int .i64 (Int.ofNat 0))), none⟩, ⟨(some 48), .load none (.tmp 47), none⟩, ⟨(some 49), .bin .and .none (.tmp 48) (.con (V.int .u8 (Int.ofNat 32))), none⟩, ⟨(some 50), .bin .neq .none (.tmp 49) (.con (V.int .u8 (Int.ofNat 0))), none⟩, ⟨(some 51), .mov (.tmp 10), none⟩, ⟨(some 52), .mov (.tmp 8), none⟩, ⟨(some 53), .bin .add .none (.con (V.int .i64 (Int.ofNat 1))) (.tmp 52), none⟩, ⟨(some 54), .mov (.tmp 11), none⟩, ⟨(some 55), .bin .add .none (.tmp 53) (.tmp 54), none⟩, ⟨none, .store 2 (.tmp 2) (.tmp 45), none⟩, ⟨(some 3), .mov (.tmp 50), none⟩, ⟨(some 4), .mov (.tmp 51), none⟩, ⟨(some 5), .mov (.tmp 55), none⟩, ⟨(some 6), .mov (.con (V.int .i64 (Int.ofNat 0))), none⟩]
def H226_0 : List DP := [⟨0, [0]⟩, ⟨1, [39]⟩, ⟨3, [40]⟩, ⟨7, [41]⟩, ⟨15, [42]⟩, ⟨0, [7]⟩, ⟨63, [43, 44]⟩, ⟨0, [0]⟩, ⟨128, [46]⟩, ⟨384, [47]⟩, ⟨896, [48]⟩, ⟨1920, [49]⟩, ⟨0, [10]⟩, ⟨0, [8]⟩, ⟨8192, [52]⟩, ⟨0, [11]⟩, ⟨57344, [53, 54]⟩, ⟨127, [2, 45]⟩, ⟨135167, [50]⟩, ⟨401407, [51]⟩, ⟨1048575, [55]⟩, ⟨2097151, []⟩]
def Fin226 (E : List (Nat × Blk)) : St → Ans := fun s => resK E s [(.cell 2 (some 2)), (.tmp 3), (.tmp 4), (.tmp 5), (.tmp 6)] fun l => some (oneV l, s.σ)
def C226_0 : XC := (.seq (.ops (.op (some 2) .any [] (.alloc 182 [(V.int .i64 (Int.ofNat 0)), (V.int .i64 (Int.ofNat 0))]) <|
 .op (some 3) .any [] (.mov (.con (V.bool false))) <|
 .op (some 4) .any [] (.mov (.con (V.int .i64 (Int.ofNat 0)))) <|
 .op (some 5) .any [] (.mov (.con (V.int .i64 (Int.ofNat 0)))) <|
 .op (some 6) .any [] (.mov (.con (V.int .i64 (Int.ofNat 0)))) <|
 .nil))
 (.seq (.seq (.ops (.op (some 12) .any [0] (.mov (.tmp 0)) <|
 .op (some 13) .any [12] (.len false (.tmp 12)) <|
 .op (some 14) .any [13] (.bin .eql .none (.tmp 13) (.con (V.int .i64 (Int.ofNat 0)))) <|
 .nil))
 (.cond (.tmp 14) (.seq (.ops (.op (some 15) (.agg [(.int .i64), (.int .i64)]) [] (.build [(V.int .i64 (Int.ofNat 0)), (V.int .i64 (Int.ofNat 0))] []) <|
 .op none (.agg [(.int .i64), (.int .i64)]) [2, 15] (.store 2 (.tmp 2) (.tmp 15)) <|
 .op (some 3) .any [] (.mov (.con (V.bool false))) <|
 .op (some 4) .any [] (.mov (.con (V.int .i64 (Int.ofNat 0)))) <|
 .op (some 5) .any [] (.mov (.con (V.int .i64 (Int.ofNat 0)))) <|
 .op (some 6) .any [] (.mov (.con (V.int .i64 (Int.ofNat 3)))) <|
 .nil))
 .ret)
 .skip))
 (.seq (.ops (.op (some 17) .any [0] (.mov (.tmp 0)) <|
 .op (some 18) (.tup [(.int .i64), (.int .i64), (.int .i64)]) [17] (.call 270 [(.tmp 17)]) <|
 .op (some 16) .any [18] (.mov (.tmp 18)) <|
 .op (some 19) .any [16] (.extract 0 (.tmp 16)) <|
 .op (some 20) .any [16] (.extract 1 (.tmp 16)) <|
 .op (some 21) .any [16] (.extract 2 (.tmp 16)) <|
 .op (some 7) .any [19] (.mov (.tmp 19)) <|
 .op (some 8) .any [20] (.mov (.tmp 20)) <|
 .op (some 9) .any [21] (.mov (.tmp 21)) <|
 .nil))
 (.seq (.seq (.ops (.op (some 22) .any [9] (.mov (.tmp 9)) <|
 .op (some 23) .any [22] (.bin .neq .none (.tmp 22) (.con (V.int .i64 (Int.ofNat 0)))) <|
 .nil))
 (.cond (.tmp 23) (.seq (.ops (.op (some 24) (.agg [(.int .i64), (.int .i64)]) [] (.build [(V.int .i64 (Int.ofNat 0)), (V.int .i64 (Int.ofNat 0))] []) <|
 .op (some 25) .any [9] (.mov (.tmp 9)) <|
 .op none (.agg [(.int .i64), (.int .i64)]) [2, 24] (.store 2 (.tmp 2) (.tmp 24)) <|
 .op (some 3) .any [] (.mov (.con (V.bool false))) <|
 .op (some 4) .any [] (.mov (.con (V.int .i64 (Int.ofNat 0)))) <|
 .op (some 5) .any [] (.mov (.con (V.int .i64 (Int.ofNat 0)))) <|
 .op (some 6) .any [25] (.mov (.tmp 25)) <|
 .nil))
 .ret)
 .skip))
 (.seq (.ops (.op (some 27) .any [0] (.mov (.tmp 0)) <|
 .op (some 28) .any [8] (.mov (.tmp 8)) <|
 .op (some 29) .any [28] (.bin .add .none (.con (V.int .i64 (Int.ofNat 1))) (.tmp 28)) <|
 .op (some 30) .any [27, 29] (.sliceSl 1 (.tmp 27) (some (.tmp 29)) none none) <|
 .op (some 31) (.tup [(.int .i64), (.int .i64), (.int .i64)]) [30] (.call 271 [(.tmp 30)]) <|
 .op (some 26) .any [31] (.mov (.tmp 31)) <|
 .op (some 32) .any [26] (.extract 0 (.tmp 26)) <|
 .op (some 33) .any [26] (.extract 1 (.tmp 26)) <|
 .op (some 34) .any [26] (.extract 2 (.tmp 26)) <|
 .op (some 10) .any [32] (.mov (.tmp 32)) <|
 .op (some 11) .any [33] (.mov (.tmp 33)) <|
 .op (some 9) .any [34] (.mov (.tmp 34)) <|
 .nil))
 (.seq (.seq (.ops (.op (some 35) .any [9] (.mov (.tmp 9)) <|
 .op (some 36) .any [35] (.bin .neq .none (.tmp 35) (.con (V.int .i64 (Int.ofNat 0)))) <|
 .nil))
 (.cond (.tmp 36) (.seq (.ops (.op (some 37) (.agg [(.int .i64), (.int .i64)]) [] (.build [(V.int .i64 (Int.ofNat 0)), (V.int .i64 (Int.ofNat 0))] []) <|
 .op (some 38) .any [9] (.mov (.tmp 9)) <|
 .op none (.agg [(.int .i64), (.int .i64)]) [2, 37] (.store 2 (.tmp 2) (.tmp 37)) <|
 .op (some 3) .any [] (.mov (.con (V.bool false))) <|
 .op (some 4) .any [] (.mov (.con (V.int .i64 (Int.ofNat 0)))) <|
 .op (some 5) .any [] (.mov (.con (V.int .i64 (Int.ofNat 0)))) <|
 .op (some 6) .any [38] (.mov (.tmp 38)) <|
 .nil))
 .ret)
 .skip))
 (.seq (.keep [(0, .any), (2, .ptr), (7, (.int .i64)), (8, (.int .i64)), (10, (.int .i64)), (11, (.int .i64))] [] [] (.gdraw G226_0 H226_0 [(2, .ptr), (3, .bool), (4, (.int .i64)), (5, (.int .i64)), (6, (.int .i64))]))
 .ret)))))))
def T226_0 (E : List (Nat × Blk)) (D : Den) (W : DrawFn) (v0 : V) (σ : H) : Ans :=
 let s1 := newB σ (.cells [(V.int .i64 (Int.ofNat 0)), (V.int .i64 (Int.ofNat 0))]);
 slenK v0 fun n2 =>
 condK (eqF (Int.ofNat n2) (Int.ofNat 0)) (
 stK 2 (H.next σ) 0 (V.agg [(V.int .i64 (Int.ofNat 0)), (V.int .i64 (Int.ofNat 0))]) s1 fun s3 =>
 ldnK E s3 (H.next σ) 0 2 fun u4 =>
 some ((V.tup [(V.agg u4), (V.bool false), (V.int .i64 (Int.ofNat 0)), (V.int .i64 (Int.ofNat 0)), (V.int .i64 (Int.ofNat 3))]), s3)) (
 callK (D 270 [v0] s1) fun u5 s6 =>
 rtTup u5 fun l7 =>
 rtCons l7 fun x8 l9 =>
 rtInt .i64 x8 fun x10 =>
 rtCons l9 fun x11 l12 =>
 rtInt .i64 x11 fun x13 =>
 rtCons l12 fun x14 l15 =>
 rtInt .i64 x14 fun x16 =>
 rtNil l15 (
 condK (not (eqF x16 (Int.ofNat 0))) (
 stK 2 (H.next σ) 0 (V.agg [(V.int .i64 (Int.ofNat 0)), (V.int .i64 (Int.ofNat 0))]) s6 fun s17 =>
 ldnK E s17 (H.next σ) 0 2 fun u18 =>
 some ((V.tup [(V.agg u18), (V.bool false), (V.int .i64 (Int.ofNat 0)), (V.int .i64 (Int.ofNat 0)), (V.int .i64 x16)]), s17)) (
 gK (sliceV 1 v0 (some (V.int .i64 (addF .i64 (Int.ofNat 1) x13))) none none) fun u19 =>
 callK (D 271 [u19] s6) fun u20 s21 =>
 rtTup u20 fun l22 =>
 rtCons l22 fun x23 l24 =>
 rtInt .i64 x23 fun x25 =>
 rtCons l24 fun x26 l27 =>
 rtInt .i64 x26 fun x28 =>
 rtCons l27 fun x29 l30 =>
 rtInt .i64 x29 fun x31 =>
 rtNil l30 (
 condK (not (eqF x31 (Int.ofNat 0))) (
 stK 2 (H.next σ) 0 (V.agg [(V.int .i64 (Int.ofNat 0)), (V.int .i64 (Int.ofNat 0))]) s21 fun s32 =>
 ldnK E s32 (H.next σ) 0 2 fun u33 =>
 some ((V.tup [(V.agg u33), (V.bool false), (V.int .i64 (Int.ofNat 0)), (V.int .i64 (Int.ofNat 0)), (V.int .i64 x31)]), s32)) (
 gdrawK (W G226_0 H226_0 [(0, v0), (2, (V.ptr (H.next σ) 0)), (7, (V.int .i64 x10)), (8, (V.int .i64 x13)), (10, (V.int .i64 x25)), (11, (V.int .i64 x28))] s21) fun e34 s35 =>
 getL e34 2 fun u36 =>
 rtPtr u36 fun b37 o38 =>
 getL e34 3 fun u39 =>
 rtBool u39 fun x40 =>
 getL e34 4 fun u41 =>
 rtInt .i64 u41 fun x42 =>
 getL e34 5 fun u43 =>
 rtInt .i64 u43 fun x44 =>
 getL e34 6 fun u45 =>
 rtInt .i64 u45 fun x46 =>
 ldnK E s35 b37 o38 2 fun u47 =>
 some ((V.tup [(V.agg u47), (V.bool x40), (V.int .i64 x42), (V.int .i64 x44), (V.int .i64 x46)]), s35))))))
theorem P226_0 (E : List (Nat × Blk)) (D : Den) (W : DrawFn) (N : Nat) (v0 : V) (σ : H) :
  denC E D W N (C226_0 ) ⟨[(0, v0)], [], [], σ⟩ (Fin226 E) (fun _ _ => none) (Fin226 E) =
  T226_0 E D W  v0 σ := by kernel_rfl
def J226_0 (E : List (Nat × Blk)) (D : Den) (W : DrawFn) (N : Nat) : V → H → Ans := T226_0 E D W 
theorem JE226_0 (E : List (Nat × Blk)) (D : Den) (W : DrawFn) (N : Nat) (v0 : V) (σ : H) :
  denC E D W N C226_0 ⟨[(0, v0)], [], [], σ⟩ (Fin226 E) (fun _ _ => none) (Fin226 E) = J226_0 E D W N v0 σ := by
  refine (P226_0 E D W N   v0 σ).trans ?_
  kernel_rfl
def F226 (E : List (Nat × Blk)) (D : Den) (W : DrawFn) (N : Nat) (args : List V) (σ : H) : Ans :=
 rtCons args fun x1 l2 =>
 rtNil l2 (
 J226_0 E D W N x1 σ)
def A226 : XFn := ⟨56, [.any], [(.cell 2 (some 2)), (.tmp 3), (.tmp 4), (.tmp 5), (.tmp 6)], C226_0⟩
theorem FE226 (E : List (Nat × Blk)) (D : Den) (W : DrawFn) (N : Nat) (args : List V) (σ : H) : runX E D W N A226 args σ = F226 E D W N args σ := by
  unfold F226
  simp only [← JE226_0]
  kernel_rfl
theorem AO226 : A226.body.ok = true := by kernel_rfl

/-! ### F230: __ogham_bits.Writer_.Bits -/
def Fin230 (E : List (Nat × Blk)) : St → Ans := fun s => resK E s [] fun l => some (oneV l, s.σ)
def C230_0 (cc1 : XC) : XC := (.seq (.ops (.op (some 7) .any [2] (.mov (.tmp 2)) <|
 .op (some 8) (.int .i64) [7] (.call 247 [(.tmp 7)]) <|
 .op (some 9) .any [8] (.bin .sub .none (.tmp 8) (.con (V.int .i64 (Int.ofNat 1)))) <|
 .op (some 6) .any [9] (.mov (.tmp 9)) <|
 .nil))
 (.block 0 (.loop [(0, .any), (1, (.int .u32)), (6, (.int .i64))] [] [] cc1)))
def T230_0 (E : List (Nat × Blk)) (D : Den) (W : DrawFn) (K1 : V → Int → Int → H → Ans) (v0 : V) (v1 : Int) (v2 : Int) (σ : H) : Ans :=
 callK (D 247 [(V.int .i64 v2)] σ) fun u1 s2 =>
 rtInt .i64 u1 fun x3 =>
 K1 v0 v1 (subF .i64 x3 (Int.ofNat 1)) s2
def C230_1 : XC := (.seq (.seq (.ops (.op (some 10) .any [6] (.mov (.tmp 6)) <|
 .op (some 11) .any [10] (.bin .geq .none (.tmp 10) (.con (V.int .i64 (Int.ofNat 0)))) <|
 .nil))
 (.cond (.tmp 11) .skip
 (.exit 0)))
 (.seq (.block 1 (.ops (.op (some 14) .any [0] (.mov (.tmp 0)) <|
 .op (some 15) .any [1] (.mov (.tmp 1)) <|
 .op (some 16) .any [6] (.mov (.tmp 6)) <|
 .op (some 17) .any [15, 16] (.bin .shr .none (.tmp 15) (.tmp 16)) <|
 .op (some 18) .any [17] (.bin .and .none (.tmp 17) (.con (V.int .u32 (Int.ofNat 1)))) <|
 .op (some 19) .any [18] (.conv (.toInt .i64) (.tmp 18)) <|
 .op (some 20) (.tup []) [14, 19] (.call 275 [(.tmp 14), (.tmp 19)]) <|
 .nil)))
 (.ops (.op (some 12) .any [6] (.mov (.tmp 6)) <|
 .op (some 13) .any [12] (.bin .sub .none (.tmp 12) (.con (V.int .i64 (Int.ofNat 1)))) <|
 .op (some 6) .any [13] (.mov (.tmp 13)) <|
 .nil))))
def T230_1 (E : List (Nat × Blk)) (D : Den) (W : DrawFn) (R1 : V → Int → Int → H → Ans) (v0 : V) (v1 : Int) (v6 : Int) (σ : H) : Ans :=
 condK (leF (Int.ofNat 0) v6) (
 nnK v6 fun n1 =>
 callK (D 275 [v0, (V.int .i64 (wrapF .i64 (andF .u32 (shrF .u32 v1 n1) (Int.ofNat 1))))] σ) fun u2 s3 =>
 rtTup u2 fun l4 =>
 rtNil l4 (
 R1 v0 v1 (subF .i64 v6 (Int.ofNat 1)) s3)) (
 some ((V.tup []), σ))
theorem P230_0 (E : List (Nat × Blk)) (D : Den) (W : DrawFn) (N : Nat) (cc1 : XC) (v0 : V) (v1 : Int) (v2 : Int) (σ : H) :
  denC E D W N (C230_0 cc1) ⟨[(0, v0), (1, (V.int .u32 v1)), (2, (V.int .i64 v2))], [], [], σ⟩ (Fin230 E) (fun _ _ => none) (Fin230 E) =
  T230_0 E D W (fun v0 v1 v6 σ => iterK (fun rec s' => denC E D W N cc1 s' (fun s'' => keepS [(0, .any), (1, (.int .u32)), (6, (.int .i64))] [] [] s'' rec) (blkK 0 (Fin230 E) (fun _ _ => none)) (Fin230 E)) N ⟨[(0, v0), (1, (V.int .u32 v1)), (6, (V.int .i64 v6))], [], [], σ⟩) v0 v1 v2 σ := by kernel_rfl
theorem P230_1 (E : List (Nat × Blk)) (D : Den) (W : DrawFn) (N : Nat) (li1 : St → Ans) (v0 : V) (v1 : Int) (v6 : Int) (σ : H) :
  denC E D W N (C230_1 ) ⟨[(0, v0), (1, (V.int .u32 v1)), (6, (V.int .i64 v6))], [], [], σ⟩ (fun s'' => keepS [(0, .any), (1, (.int .u32)), (6, (.int .i64))] [] [] s'' li1) (blkK 0 (Fin230 E) (fun _ _ => none)) (Fin230 E) =
  T230_1 E D W (fun v0 v1 v6 σ => li1 ⟨[(0, v0), (1, (V.int .u32 v1)), (6, (V.int .i64 v6))], [], [], σ⟩) v0 v1 v6 σ := by kernel_rfl
def L230_1 (E : List (Nat × Blk)) (D : Den) (W : DrawFn) (N : Nat) (n : Nat) : V → Int → Int → H → Ans :=
  Nat.rec (fun _ _ _ _ => none) (fun _ ih => T230_1 E D W ih) n
theorem LE230_1 (E : List (Nat × Blk)) (D : Den) (W : DrawFn) (N : Nat) (n : Nat) : ∀ (v0 : V) (v1 : Int) (v6 : Int) (σ : H),
  iterK (fun rec s' => denC E D W N C230_1 s' (fun s'' => keepS [(0, .any), (1, (.int .u32)), (6, (.int .i64))] [] [] s'' rec) (blkK 0 (Fin230 E) (fun _ _ => none)) (Fin230 E)) n ⟨[(0, v0), (1, (V.int .u32 v1)), (6, (V.int .i64 v6))], [], [], σ⟩ = L230_1 E D W N n v0 v1 v6 σ := by
  induction n with
  | zero => intro v0 v1 v6 σ; rfl
  | succ n ihn =>
    intro v0 v1 v6 σ
    rw [iterK_succ]
    refine (P230_1 E D W N  (iterK (fun rec s' => denC E D W N C230_1 s' (fun s'' => keepS [(0, .any), (1, (.int .u32)), (6, (.int .i64))] [] [] s'' rec) (blkK 0 (Fin230 E) (fun _ _ => none)) (Fin230 E)) n) v0 v1 v6 σ).trans ?_
    simp only [ihn]
    kernel_rfl
def J230_0 (E : List (Nat × Blk)) (D : Den) (W : DrawFn) (N : Nat) : V → Int → Int → H → Ans := T230_0 E D W (L230_1 E D W N N)
theorem JE230_0 (E : List (Nat × Blk)) (D : Den) (W : DrawFn) (N : Nat) (v0 : V) (v1 : Int) (v2 : Int) (σ : H) :
  denC E D W N (C230_0 C230_1) ⟨[(0, v0), (1, (V.int .u32 v1)), (2, (V.int .i64 v2))], [], [], σ⟩ (Fin230 E) (fun _ _ => none) (Fin230 E) = J230_0 E D W N v0 v1 v2 σ := by
  refine (P230_0 E D W N C230_1  v0 v1 v2 σ).trans ?_
  simp only [LE230_1]
  kernel_rfl
def F230 (E : List (Nat × Blk)) (D : Den) (W : DrawFn) (N : Nat) (args : List V) (σ : H) : Ans :=
 rtCons args fun x1 l2 =>
 rtCons l2 fun x3 l4 =>
 rtInt .u32 x3 fun x5 =>
 rtCons l4 fun x6 l7 =>
 rtInt .i64 x6 fun x8 =>
 rtNil l7 (
 J230_0 E D W N x1 x5 x8 σ)
def A230 : XFn := ⟨21, [.any, (.int .u32), (.int .i64)], [], (C230_0 C230_1)⟩
theorem FE230 (E : List (Nat × Blk)) (D : Den) (W : DrawFn) (N : Nat) (args : List V) (σ : H) : runX E D W N A230 args σ = F230 E D W N args σ := by
  unfold F230
  simp only [← JE230_0]
  kernel_rfl
theorem AO230 : A230.body.ok = true := by kernel_rfl

def C231_0 : XC := (.seq (.ops (.op (some 1) .any [0] (.box 308 (.tmp 0)) <|
 .op (some 2) .any [] (.mov (.con (V.bool false))) <|
 .nil))
 (.seq (.ops (.op (some 3) .any [1] (.faddr 0 (.tmp 1)) <|
 .op (some 4) .any [3] (.faddr 0 (.tmp 3)) <|
 .op (some 5) .bool [4] (.load none (.tmp 4)) <|
 .op (some 6) .any [5] (.mov (.tmp 5)) <|
 .grp 6 true (.op (some 7) .any [1, 6] (.faddr 0 (.tmp 1)) <|
 .op (some 8) .any [7, 6] (.faddr 1 (.tmp 7)) <|
 .op (some 9) .bool [8, 6] (.load none (.tmp 8)) <|
 .nil) 10 [6, 9] (.tmp 6) (.tmp 9) (.con (V.bool false)) <|
 .op (some 11) .any [10] (.mov (.tmp 10)) <|
 .grp 11 true (.op (some 12) .any [1, 11] (.faddr 0 (.tmp 1)) <|
 .op (some 13) .any [12, 11] (.faddr 2 (.tmp 12)) <|
 .op (some 14) .bool [13, 11] (.load none (.tmp 13)) <|
 .nil) 15 [11, 14] (.tmp 11) (.tmp 14) (.con (V.bool false)) <|
 .op (some 2) .any [15] (.mov (.tmp 15)) <|
 .nil))
 .ret))
def A231 : XFn := ⟨16, [(.agg [.bool, .bool, .bool, .bool, (.int .i64), (.int .i64)])], [(.tmp 2)], C231_0⟩
def C232_0 : XC := (.seq (.ops (.op (some 1) .any [0] (.box 308 (.tmp 0)) <|
 .op (some 2) .any [] (.mov (.con (V.bool false))) <|
 .nil))
 (.seq (.ops (.op (some 3) (.agg [.bool, .bool, .bool, .bool, (.int .i64), (.int .i64)]) [1] (.load (some 6) (.tmp 1)) <|
 .op (some 4) .bool [3] (.call 231 [(.tmp 3)]) <|
 .op (some 5) .any [4] (.mov (.tmp 4)) <|
 .grp 5 true (.op (some 6) .any [1, 5] (.faddr 0 (.tmp 1)) <|
 .op (some 7) .any [6, 5] (.faddr 4 (.tmp 6)) <|
 .op (some 8) (.int .i64) [7, 5] (.load none (.tmp 7)) <|
 .op (some 9) .any [1, 5] (.faddr 0 (.tmp 1)) <|
 .op (some 10) .any [9, 5] (.faddr 5 (.tmp 9)) <|
 .op (some 11) (.int .i64) [10, 5] (.load none (.tmp 10)) <|
 .op (some 12) .any [8, 11, 5] (.bin .gtr .none (.tmp 8) (.tmp 11)) <|
 .nil) 13 [5, 12] (.tmp 5) (.tmp 12) (.con (V.bool false)) <|
 .op (some 2) .any [13] (.mov (.tmp 13)) <|
 .nil))
 .ret))
def A232 : XFn := ⟨14, [(.agg [.bool, .bool, .bool, .bool, (.int .i64), (.int .i64)])], [(.tmp 2)], C232_0⟩
def C233_0 : XC := (.seq (.ops (.op (some 2) .any [] (.mov (.con (V.int .i64 (Int.ofNat 0)))) <|
 .nil))
 (.seq (.ops (.op (some 3) .any [0] (.mov (.tmp 0)) <|
 .op (some 4) (.int .i64) [3] (.call 276 [(.tmp 3)]) <|
 .op (some 2) .any [4] (.mov (.tmp 4)) <|
 .nil))
 .ret))
def A233 : XFn := ⟨5, [(.int .u64)], [(.tmp 2)], C233_0⟩
/-! ### F247: ogham_bits.bounded -/
def Fin247 (E : List (Nat × Blk)) : St → Ans := fun s => resK E s [(.tmp 2)] fun l => some (oneV l, s.σ)
def C247_0 : XC := (.seq (.ops (.op (some 2) .any [] (.mov (.con (V.int .i64 (Int.ofNat 0)))) <|
 .nil))
 (.seq (.ops (.op (some 3) .any [0] (.mov (.tmp 0)) <|
 .op (some 4) .any [3] (.min (.tmp 3) [(.con (V.int .i64 (Int.ofNat 32)))]) <|
 .op (some 5) .any [4] (.max (.con (V.int .i64 (Int.ofNat 0))) [(.tmp 4)]) <|
 .op (some 2) .any [5] (.mov (.tmp 5)) <|
 .nil))
 .ret))
def T247_0 (E : List (Nat × Blk)) (D : Den) (W : DrawFn) (v0 : Int) (σ : H) : Ans :=
 some ((V.int .i64 (maxF (Int.ofNat 0) (minF v0 (Int.ofNat 32)))), σ)
theorem P247_0 (E : List (Nat × Blk)) (D : Den) (W : DrawFn) (N : Nat) (v0 : Int) (σ : H) :
  denC E D W N (C247_0 ) ⟨[(0, (V.int .i64 v0))], [], [], σ⟩ (Fin247 E) (fun _ _ => none) (Fin247 E) =
  T247_0 E D W  v0 σ := by kernel_rfl
def J247_0 (E : List (Nat × Blk)) (D : Den) (W : DrawFn) (N : Nat) : Int → H → Ans := T247_0 E D W 
theorem JE247_0 (E : List (Nat × Blk)) (D : Den) (W : DrawFn) (N : Nat) (v0 : Int) (σ : H) :
  denC E D W N C247_0 ⟨[(0, (V.int .i64 v0))], [], [], σ⟩ (Fin247 E) (fun _ _ => none) (Fin247 E) = J247_0 E D W N v0 σ := by
  refine (P247_0 E D W N   v0 σ).trans ?_
  kernel_rfl
def F247 (E : List (Nat × Blk)) (D : Den) (W : DrawFn) (N : Nat) (args : List V) (σ : H) : Ans :=
 rtCons args fun x1 l2 =>
 rtInt .i64 x1 fun x3 =>
 rtNil l2 (
 J247_0 E D W N x3 σ)
def A247 : XFn := ⟨6, [(.int .i64)], [(.tmp 2)], C247_0⟩
theorem FE247 (E : List (Nat × Blk)) (D : Den) (W : DrawFn) (N : Nat) (args : List V) (σ : H) : runX E D W N A247 args σ = F247 E D W N args σ := by
  unfold F247
  simp only [← JE247_0]
  kernel_rfl
theorem AO247 : A247.body.ok = true := by kernel_rfl

end
end Go.Proofs.YtmgbgifepccgpaaGreatDoor
