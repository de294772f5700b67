/- The code of the functions that are entered. Printed by a program off the dump. -/
import Derived.Test.YtpafblhkafcfmaaGreatDoorOgX
import Derived.KernelRfl
set_option linter.all false
set_option maxRecDepth 100000
set_option maxHeartbeats 0
namespace Go.Proofs.YtpafblhkafcfmaaGreatDoor
open Go Go.Og
noncomputable section
def G3_0 : List AOper := [⟨(some 69), .load (some 4) (.tmp 7), none⟩, ⟨(some 70), .mov (.tmp 14), none⟩, ⟨(some 71), .call 7 [(.tmp 70)], none⟩, ⟨(some 72), .call 8 [(.tmp 69), (.con (V.int .i64 (Int.ofNat 0))), (.tmp 71)], none⟩, ⟨(some 68), .mov (.tmp 72), none⟩, ⟨(some 73), .extract 0 (.tmp 68), none⟩, ⟨(some 74), .extract 1 (.tmp 68), none⟩, ⟨(some 15), .alloc 39 [(V.int .i64 (Int.ofNat 0)), (V.int .i64 (Int.ofNat 0)), V.nils, V.nils, (V.int .i64 (Int.ofNat 0)), V.nils], none⟩, ⟨none, .store 6 (.tmp 15) (.tmp 73), none⟩, ⟨(some 16), .mov (.tmp 74), none⟩]
def H3_0 : List DP := [⟨0, [7]⟩, ⟨0, [14]⟩, ⟨2, [70]⟩, ⟨7, [69, 71]⟩, ⟨15, [72]⟩, ⟨31, [68]⟩, ⟨31, [68]⟩, ⟨0, []⟩, ⟨191, [15, 73]⟩, ⟨511, [74]⟩]
def C3_0 (cc1 : XC) (cc2 : XC) : XC := (.seq (.ops (.op (some 6) .any [] (.mov (.con (V.bool false))) <|
 .nil))
 (.seq (.ops (.op (some 18) (.tup [(.agg [.str, .any, .any, .any]), .bool]) [] (.call 4 [(.con (V.str ⟨147, 273837014200153412316888888990212940376476647910573911974112786035802515131704015902441500868249881108283782769379322771231092033668485615381880400288841620196774146685063784021989661102577492282339206376554884061774909775888082176904039097998575680537866471605819860578177792408420956348317170048929234002521046205966720593915705936520224865711902957645⟩))]) <|
 .op (some 17) .any [18] (.mov (.tmp 18)) <|
 .op (some 19) .any [17] (.extract 0 (.tmp 17)) <|
 .op (some 20) .any [17] (.extract 1 (.tmp 17)) <|
 .op (some 7) .any [] (.alloc 26 [(V.str ⟨0, 0⟩), V.nils, V.nils, V.nils]) <|
 .op none (.agg [.str, .any, .any, .any]) [7, 19] (.store 4 (.tmp 7) (.tmp 19)) <|
 .op (some 8) .any [20] (.mov (.tmp 20)) <|
 .nil))
 (.seq (.ops (.op (some 21) (.agg [.any]) [] (.build [V.nils] []) <|
 .op (some 22) .any [21] (.box 34 (.tmp 21)) <|
 .op (some 9) .any [22] (.mov (.tmp 22)) <|
 .nil))
 (.seq (.ops (.op (some 23) .any [0] (.mov (.tmp 0)) <|
 .op (some 24) .any [1] (.mov (.tmp 1)) <|
 .op (some 25) .any [2] (.mov (.tmp 2)) <|
 .op (some 26) .any [23, 24, 25] (.buildSlice 4 3 [(V.bool false), (V.bool false), (V.bool false)] [(0, 1, (.tmp 23)), (1, 1, (.tmp 24)), (2, 1, (.tmp 25))]) <|
 .op (some 10) .any [26] (.mov (.tmp 26)) <|
 .nil))
 (.seq (.ops (.op (some 27) .any [] (.mkslice 39 6 96 [(V.int .i64 (Int.ofNat 0)), (V.int .i64 (Int.ofNat 0)), V.nils, V.nils, (V.int .i64 (Int.ofNat 0)), V.nils] (.con (V.int .i64 (Int.ofNat 3))) (.con (V.int .i64 (Int.ofNat 3)))) <|
 .op (some 28) (.agg [(.int .i64), (.int .i64), .any, .any, (.int .i64), .any]) [27] (.build [(V.int .i64 (Int.ofNat 0)), (V.int .i64 (Int.ofNat 0)), V.nils, V.nils, (V.int .i64 (Int.ofNat 0)), V.nils] [(0, 1, (.con (V.int .i64 (Int.ofNat 7)))), (3, 1, (.tmp 27))]) <|
 .op (some 11) .any [] (.alloc 39 [(V.int .i64 (Int.ofNat 0)), (V.int .i64 (Int.ofNat 0)), V.nils, V.nils, (V.int .i64 (Int.ofNat 0)), V.nils]) <|
 .op none (.agg [(.int .i64), (.int .i64), .any, .any, (.int .i64), .any]) [11, 28] (.store 6 (.tmp 11) (.tmp 28)) <|
 .nil))
 (.seq (.seq (.ops (.op (some 12) .any [] (.mov (.con (V.int .i64 (Int.ofNat 0)))) <|
 .nil))
 (.block 0 (.loop [(0, .bool), (1, .bool), (2, .bool), (7, .ptr), (8, .bool), (9, .ptr), (10, .any), (11, .ptr), (12, (.int .i64))] [] [] cc2)))
 (.keep [(0, .bool), (1, .bool), (2, .bool), (7, .ptr), (8, .bool), (9, .ptr), (10, .any), (11, .ptr)] [] [] cc1)))))))
def C3_1 (cc4 : XC) (cc5 : XC) : XC := (.seq (.seq (.ops (.op (some 13) .any [] (.mov (.con (V.int .i64 (Int.ofNat 0)))) <|
 .nil))
 (.block 2 (.loop [(0, .bool), (1, .bool), (2, .bool), (7, .ptr), (8, .bool), (9, .ptr), (10, .any), (11, .ptr), (13, (.int .i64))] [] [] cc5)))
 (.keep [(0, .bool), (1, .bool), (2, .bool), (7, .ptr), (8, .bool), (9, .ptr), (11, .ptr)] [] [] cc4))
def C3_2 (cc3 : XC) : XC := (.seq (.seq (.ops (.op (some 29) .any [12] (.mov (.tmp 12)) <|
 .op (some 30) .any [29] (.bin .lss .none (.tmp 29) (.con (V.int .i64 (Int.ofNat 3)))) <|
 .nil))
 (.cond (.tmp 30) .skip
 (.exit 0)))
 (.seq (.block 1 (.seq (.ops (.op (some 33) .any [10] (.mov (.tmp 10)) <|
 .op (some 34) .any [12] (.mov (.tmp 12)) <|
 .op (some 35) .any [33, 34] (.iaddrS 1 (.tmp 33) (.tmp 34)) <|
 .op (some 36) .bool [35] (.load none (.tmp 35)) <|
 .nil))
 (.cond (.tmp 36) (.seq (.ops (.op (some 37) .any [9] (.mov (.tmp 9)) <|
 .op (some 38) (.tup []) [37] (.call 5 [(.tmp 37), (.con (V.int .u64 (Int.ofNat 1))), (.con (V.int .i64 (Int.ofNat 1)))]) <|
 .nil))
 (.ops (.op (some 39) .any [11] (.faddr 3 (.tmp 11)) <|
 .op (some 40) .any [39] (.load none (.tmp 39)) <|
 .op (some 41) .any [12] (.mov (.tmp 12)) <|
 .op (some 42) (.agg [(.int .i64), (.int .i64), .any, .any, (.int .i64), .any]) [] (.build [(V.int .i64 (Int.ofNat 0)), (V.int .i64 (Int.ofNat 0)), V.nils, V.nils, (V.int .i64 (Int.ofNat 0)), V.nils] [(0, 1, (.con (V.int .i64 (Int.ofNat 1)))), (1, 1, (.con (V.int .i64 (Int.ofNat 1))))]) <|
 .op (some 43) .any [40, 41] (.iaddrS 6 (.tmp 40) (.tmp 41)) <|
 .op none (.agg [(.int .i64), (.int .i64), .any, .any, (.int .i64), .any]) [43, 42] (.store 6 (.tmp 43) (.tmp 42)) <|
 .nil)))
 (.ops (.op (some 44) .any [9] (.mov (.tmp 9)) <|
 .op (some 45) (.tup []) [44] (.call 5 [(.tmp 44), (.con (V.int .u64 (Int.ofNat 0))), (.con (V.int .i64 (Int.ofNat 1)))]) <|
 .nil)))))
 (.keep [(0, .bool), (1, .bool), (2, .bool), (7, .ptr), (8, .bool), (9, .ptr), (10, .any), (11, .ptr), (12, (.int .i64))] [] [] cc3)))
def C3_3 : XC := (.ops (.op (some 31) .any [12] (.mov (.tmp 12)) <|
 .op (some 32) .any [31] (.bin .add .none (.tmp 31) (.con (V.int .i64 (Int.ofNat 1)))) <|
 .op (some 12) .any [32] (.mov (.tmp 32)) <|
 .nil))
def C3_4 : XC := (.seq (.ops (.op (some 56) (.agg [.any]) [] (.build [V.nils] []) <|
 .op (some 57) .any [56] (.box 34 (.tmp 56)) <|
 .op (some 14) .any [57] (.mov (.tmp 57)) <|
 .nil))
 (.seq (.ops (.op (some 58) .any [14] (.mov (.tmp 14)) <|
 .op (some 59) (.tup []) [58] (.call 5 [(.tmp 58), (.con (V.int .u64 (Int.ofNat 1))), (.con (V.int .i64 (Int.ofNat 1)))]) <|
 .nil))
 (.seq (.ops (.op (some 60) .any [14] (.mov (.tmp 14)) <|
 .op (some 61) (.tup []) [60] (.call 5 [(.tmp 60), (.con (V.int .u64 (Int.ofNat 0))), (.con (V.int .i64 (Int.ofNat 7)))]) <|
 .nil))
 (.seq (.ops (.op (some 62) .any [14] (.mov (.tmp 14)) <|
 .op (some 63) (.tup []) [62] (.call 5 [(.tmp 62), (.con (V.int .u64 (Int.ofNat 1))), (.con (V.int .i64 (Int.ofNat 1)))]) <|
 .nil))
 (.seq (.ops (.op (some 64) .any [14] (.mov (.tmp 14)) <|
 .op (some 65) .any [9] (.mov (.tmp 9)) <|
 .op (some 66) .one [65] (.call 7 [(.tmp 65)]) <|
 .op (some 67) (.tup []) [64, 66] (.call 6 [(.tmp 64), (.tmp 66)]) <|
 .nil))
 (.seq (.keep [(0, .bool), (1, .bool), (2, .bool), (7, .ptr), (8, .bool), (11, .ptr), (14, .ptr)] [] [] (.gdraw G3_0 H3_0 [(0, .bool), (1, .bool), (2, .bool), (8, .bool), (11, .ptr), (15, .ptr), (16, (.int .i64))]))
 (.seq (.seq (.ops (.op (some 75) .any [0] (.mov (.tmp 0)) <|
 .op (some 76) .any [75] (.un .not (.tmp 75)) <|
 .op (some 77) .any [76] (.mov (.tmp 76)) <|
 .grp 77 true (.op (some 78) .any [1, 77] (.mov (.tmp 1)) <|
 .op (some 79) .any [78, 77] (.un .not (.tmp 78)) <|
 .nil) 80 [77, 79] (.tmp 77) (.tmp 79) (.con (V.bool false)) <|
 .op (some 81) .any [80] (.mov (.tmp 80)) <|
 .grp 81 true (.op (some 82) .any [2, 81] (.mov (.tmp 2)) <|
 .op (some 83) .any [82, 81] (.un .not (.tmp 82)) <|
 .nil) 84 [81, 83] (.tmp 81) (.tmp 83) (.con (V.bool false)) <|
 .nil))
 (.cond (.tmp 84) (.seq (.ops (.op (some 85) .bool [] (.call 9 []) <|
 .op (some 86) .any [85] (.mov (.tmp 85)) <|
 .grp 86 true (.op (some 87) .any [8, 86] (.mov (.tmp 8)) <|
 .nil) 88 [86, 87] (.tmp 86) (.tmp 87) (.con (V.bool false)) <|
 .op (some 89) .any [88] (.mov (.tmp 88)) <|
 .grp 89 true (.op (some 90) .any [16, 89] (.mov (.tmp 16)) <|
 .op (some 91) .any [90, 89] (.bin .eql .none (.tmp 90) (.con (V.int .i64 (Int.ofNat 4)))) <|
 .nil) 92 [89, 91] (.tmp 89) (.tmp 91) (.con (V.bool false)) <|
 .op (some 93) .any [92] (.mov (.tmp 92)) <|
 .grp 93 true (.op (some 94) (.agg [(.int .i64), (.int .i64), .any, .any, (.int .i64), .any]) [15, 93] (.load (some 6) (.tmp 15)) <|
 .op (some 95) (.agg [(.int .i64), (.int .i64), .any, .any, (.int .i64), .any]) [93] (.build [(V.int .i64 (Int.ofNat 0)), (V.int .i64 (Int.ofNat 0)), V.nils, V.nils, (V.int .i64 (Int.ofNat 0)), V.nils] []) <|
 .op (some 96) .bool [94, 95, 93] (.call 10 [(.tmp 94), (.tmp 95)]) <|
 .nil) 97 [93, 96] (.tmp 93) (.tmp 96) (.con (V.bool false)) <|
 .op (some 6) .any [97] (.mov (.tmp 97)) <|
 .nil))
 .ret)
 .skip))
 (.seq (.ops (.op (some 98) .bool [] (.call 9 []) <|
 .op (some 99) .any [98] (.mov (.tmp 98)) <|
 .grp 99 true (.op (some 100) .any [8, 99] (.mov (.tmp 8)) <|
 .nil) 101 [99, 100] (.tmp 99) (.tmp 100) (.con (V.bool false)) <|
 .op (some 102) .any [101] (.mov (.tmp 101)) <|
 .grp 102 true (.op (some 103) .any [16, 102] (.mov (.tmp 16)) <|
 .op (some 104) .any [103, 102] (.bin .eql .none (.tmp 103) (.con (V.int .i64 (Int.ofNat 0)))) <|
 .nil) 105 [102, 104] (.tmp 102) (.tmp 104) (.con (V.bool false)) <|
 .op (some 106) .any [105] (.mov (.tmp 105)) <|
 .grp 106 true (.op (some 107) (.agg [(.int .i64), (.int .i64), .any, .any, (.int .i64), .any]) [15, 106] (.load (some 6) (.tmp 15)) <|
 .op (some 108) (.agg [(.int .i64), (.int .i64), .any, .any, (.int .i64), .any]) [11, 106] (.load (some 6) (.tmp 11)) <|
 .op (some 109) .bool [107, 108, 106] (.call 10 [(.tmp 107), (.tmp 108)]) <|
 .nil) 110 [106, 109] (.tmp 106) (.tmp 109) (.con (V.bool false)) <|
 .op (some 6) .any [110] (.mov (.tmp 110)) <|
 .nil))
 .ret))))))))
def C3_5 (cc6 : XC) : XC := (.seq (.seq (.ops (.op (some 46) .any [13] (.mov (.tmp 13)) <|
 .op (some 47) .any [46] (.bin .lss .none (.tmp 46) (.con (V.int .i64 (Int.ofNat 3)))) <|
 .nil))
 (.cond (.tmp 47) .skip
 (.exit 2)))
 (.seq (.block 3 (.seq (.ops (.op (some 50) .any [10] (.mov (.tmp 10)) <|
 .op (some 51) .any [13] (.mov (.tmp 13)) <|
 .op (some 52) .any [50, 51] (.iaddrS 1 (.tmp 50) (.tmp 51)) <|
 .op (some 53) .bool [52] (.load none (.tmp 52)) <|
 .nil))
 (.cond (.tmp 53) (.ops (.op (some 54) .any [9] (.mov (.tmp 9)) <|
 .op (some 55) (.tup []) [54] (.call 5 [(.tmp 54), (.con (V.int .u64 (Int.ofNat 1))), (.con (V.int .i64 (Int.ofNat 1)))]) <|
 .nil))
 .skip)))
 (.keep [(0, .bool), (1, .bool), (2, .bool), (7, .ptr), (8, .bool), (9, .ptr), (10, .any), (11, .ptr), (13, (.int .i64))] [] [] cc6)))
def C3_6 : XC := (.ops (.op (some 48) .any [13] (.mov (.tmp 13)) <|
 .op (some 49) .any [48] (.bin .add .none (.tmp 48) (.con (V.int .i64 (Int.ofNat 1)))) <|
 .op (some 13) .any [49] (.mov (.tmp 49)) <|
 .nil))
def A3 : XFn := ⟨111, [.bool, .bool, .bool], [(.tmp 6)], (C3_0 (C3_1 C3_4 (C3_5 C3_6)) (C3_2 C3_3))⟩
def G4_0 : List AOper := [⟨(some 29), .load (some 4) (.tmp 7), none⟩, ⟨(some 30), .mov (.tmp 9), none⟩, ⟨(some 31), .bin .eql .none (.tmp 30) (.con (V.int .i64 (Int.ofNat 0))), none⟩, ⟨(some 32), .mov (.tmp 31), none⟩, ⟨(some 33), .faddr 3 (.tmp 7), (some (32, true))⟩, ⟨(some 34), .load none (.tmp 33), (some (32, true))⟩, ⟨(some 35), .len false (.tmp 34), (some (32, true))⟩, ⟨(some 36), .bin .leq .none (.tmp 35) (.con (V.int .i64 (Int.ofNat 120))), (some (32, true))⟩, ⟨(some 37), .pick (.tmp 32) (.tmp 36) (.con (V.bool false)), none⟩, ⟨none, .store 4 (.tmp 2) (.tmp 29), none⟩, ⟨(some 3), .mov (.tmp 37), none⟩]
def H4_0 : List DP := [⟨0, [7]⟩, ⟨0, [9]⟩, ⟨2, [30]⟩, ⟨6, [31]⟩, ⟨14, [7, 32]⟩, ⟨30, [33, 32]⟩, ⟨62, [34, 32]⟩, ⟨126, [35, 32]⟩, ⟨254, [32, 36]⟩, ⟨15, [2, 29]⟩, ⟨1023, [37]⟩]
def C4_0 : XC := (.seq (.ops (.op (some 2) .any [] (.alloc 26 [(V.str ⟨0, 0⟩), V.nils, V.nils, V.nils]) <|
 .op (some 3) .any [] (.mov (.con (V.bool false))) <|
 .nil))
 (.seq (.seq (.ops (.op (some 10) .any [0] (.mov (.tmp 0)) <|
 .op (some 11) .any [10] (.len true (.tmp 10)) <|
 .op (some 12) .any [11] (.bin .gtr .none (.tmp 11) (.con (V.int .i64 (Int.ofNat 3000)))) <|
 .nil))
 (.cond (.tmp 12) (.seq (.ops (.op (some 13) (.agg [.str, .any, .any, .any]) [] (.build [(V.str ⟨0, 0⟩), V.nils, V.nils, V.nils] []) <|
 .op none (.agg [.str, .any, .any, .any]) [2, 13] (.store 4 (.tmp 2) (.tmp 13)) <|
 .op (some 3) .any [] (.mov (.con (V.bool false))) <|
 .nil))
 .ret)
 .skip))
 (.seq (.ops (.op (some 15) .any [0] (.mov (.tmp 0)) <|
 .op (some 16) (.tup [(.agg [.str, (.int .i64), .any, .any, .any]), (.int .i64), (.int .i64)]) [15] (.call 11 [(.tmp 15)]) <|
 .op (some 14) .any [16] (.mov (.tmp 16)) <|
 .op (some 17) .any [14] (.extract 0 (.tmp 14)) <|
 .op (some 18) .any [14] (.extract 1 (.tmp 14)) <|
 .op (some 19) .any [14] (.extract 2 (.tmp 14)) <|
 .pal 4 [] 52 [(V.str ⟨0, 0⟩), (V.int .i64 (Int.ofNat 0)), V.nils, V.nils, V.nils] <|
 .op none (.agg [.str, (.int .i64), .any, .any, .any]) [4, 17] (.store 5 (.tmp 4) (.tmp 17)) <|
 .op (some 5) .any [18] (.mov (.tmp 18)) <|
 .op (some 6) .any [19] (.mov (.tmp 19)) <|
 .nil))
 (.seq (.seq (.ops (.op (some 20) .any [6] (.mov (.tmp 6)) <|
 .op (some 21) .any [20] (.bin .neq .none (.tmp 20) (.con (V.int .i64 (Int.ofNat 0)))) <|
 .nil))
 (.cond (.tmp 21) (.seq (.ops (.op (some 22) (.agg [.str, .any, .any, .any]) [] (.build [(V.str ⟨0, 0⟩), V.nils, V.nils, V.nils] []) <|
 .op none (.agg [.str, .any, .any, .any]) [2, 22] (.store 4 (.tmp 2) (.tmp 22)) <|
 .op (some 3) .any [] (.mov (.con (V.bool false))) <|
 .nil))
 .ret)
 .skip))
 (.seq (.ops (.op (some 24) (.agg [.str, (.int .i64), .any, .any, .any]) [4] (.load (some 5) (.tmp 4)) <|
 .op (some 25) (.tup [(.agg [.str, .any, .any, .any]), (.int .i64), (.int .i64)]) [24] (.call 12 [(.tmp 24)]) <|
 .op (some 23) .any [25] (.mov (.tmp 25)) <|
 .op (some 26) .any [23] (.extract 0 (.tmp 23)) <|
 .op (some 27) .any [23] (.extract 1 (.tmp 23)) <|
 .op (some 28) .any [23] (.extract 2 (.tmp 23)) <|
 .op (some 7) .any [] (.alloc 26 [(V.str ⟨0, 0⟩), V.nils, V.nils, V.nils]) <|
 .op none (.agg [.str, .any, .any, .any]) [7, 26] (.store 4 (.tmp 7) (.tmp 26)) <|
 .op (some 8) .any [27] (.mov (.tmp 27)) <|
 .op (some 9) .any [28] (.mov (.tmp 28)) <|
 .nil))
 (.seq (.keep [(2, .ptr), (7, .ptr), (9, (.int .i64))] [] [] (.gdraw G4_0 H4_0 [(2, .ptr), (3, .bool)]))
 .ret))))))
def A4 : XFn := ⟨38, [.str], [(.cell 2 (some 4)), (.tmp 3)], C4_0⟩
def C5_0 (cc1 : XC) : XC := (.seq (.ops (.op (some 7) .any [2] (.mov (.tmp 2)) <|
 .op (some 8) .any [7] (.min (.tmp 7) [(.con (V.int .i64 (Int.ofNat 64)))]) <|
 .op (some 9) .any [8] (.max (.con (V.int .i64 (Int.ofNat 0))) [(.tmp 8)]) <|
 .op (some 2) .any [9] (.mov (.tmp 9)) <|
 .nil))
 (.seq (.ops (.op (some 10) .any [2] (.mov (.tmp 2)) <|
 .op (some 11) .any [10] (.bin .sub .none (.tmp 10) (.con (V.int .i64 (Int.ofNat 1)))) <|
 .op (some 6) .any [11] (.mov (.tmp 11)) <|
 .nil))
 (.block 0 (.loop [(0, .ptr), (1, (.int .u64)), (6, (.int .i64))] [] [] cc1))))
def C5_1 : XC := (.seq (.seq (.ops (.op (some 12) .any [6] (.mov (.tmp 6)) <|
 .op (some 13) .any [12] (.bin .geq .none (.tmp 12) (.con (V.int .i64 (Int.ofNat 0)))) <|
 .nil))
 (.cond (.tmp 13) .skip
 (.exit 0)))
 (.seq (.block 1 (.ops (.op (some 16) .any [0] (.mov (.tmp 0)) <|
 .op (some 17) .any [16] (.nilck (.tmp 16)) <|
 .op (some 18) .any [17] (.faddr 0 (.tmp 17)) <|
 .op (some 19) .any [1] (.mov (.tmp 1)) <|
 .op (some 20) .any [6] (.mov (.tmp 6)) <|
 .op (some 21) .any [20] (.conv (.toInt .u64) (.tmp 20)) <|
 .op (some 22) .any [19, 21] (.bin .shr .none (.tmp 19) (.tmp 21)) <|
 .op (some 23) .any [22] (.bin .and .none (.tmp 22) (.con (V.int .u64 (Int.ofNat 1)))) <|
 .op (some 24) .any [23] (.conv (.toInt .i64) (.tmp 23)) <|
 .op (some 25) (.tup []) [18, 24] (.call 13 [(.tmp 18), (.tmp 24)]) <|
 .nil)))
 (.ops (.op (some 14) .any [6] (.mov (.tmp 6)) <|
 .op (some 15) .any [14] (.bin .sub .none (.tmp 14) (.con (V.int .i64 (Int.ofNat 1)))) <|
 .op (some 6) .any [15] (.mov (.tmp 15)) <|
 .nil))))
def A5 : XFn := ⟨26, [.ptr, (.int .u64), (.int .i64)], [], (C5_0 C5_1)⟩
def C6_0 (cc1 : XC) : XC := (.seq (.ops (.op (some 6) .any [1] (.mov (.tmp 1)) <|
 .op (some 7) .any [6] (.len false (.tmp 6)) <|
 .op (some 8) .one [7] (.call 14 [(.tmp 7)]) <|
 .op (some 4) .any [8] (.mov (.tmp 8)) <|
 .nil))
 (.seq (.ops (.op (some 5) .any [] (.mov (.con (V.int .i64 (Int.ofNat 0)))) <|
 .nil))
 (.block 0 (.loop [(0, .any), (1, .any), (4, .any), (5, (.int .i64))] [] [] cc1))))
def C6_1 : XC := (.seq (.seq (.ops (.op (some 9) .any [5] (.mov (.tmp 5)) <|
 .op (some 10) .any [4] (.mov (.tmp 4)) <|
 .op (some 11) .any [10] (.len false (.tmp 10)) <|
 .op (some 12) .any [9, 11] (.bin .lss .none (.tmp 9) (.tmp 11)) <|
 .nil))
 (.cond (.tmp 12) .skip
 (.exit 0)))
 (.seq (.block 1 (.seq (.ops (.op (some 15) .any [0] (.mov (.tmp 0)) <|
 .op (some 16) .any [4] (.mov (.tmp 4)) <|
 .op (some 17) .any [5] (.mov (.tmp 5)) <|
 .op (some 18) .any [16, 17] (.iaddrS 1 (.tmp 16) (.tmp 17)) <|
 .op (some 19) (.int .i64) [18] (.load none (.tmp 18)) <|
 .op (some 20) (.tup []) [15, 19] (.call 15 [(.tmp 15), (.tmp 19)]) <|
 .nil))
 (.seq (.ops (.op (some 21) .any [0] (.mov (.tmp 0)) <|
 .op (some 22) .any [1] (.mov (.tmp 1)) <|
 .op (some 23) .any [4] (.mov (.tmp 4)) <|
 .op (some 24) .any [5] (.mov (.tmp 5)) <|
 .op (some 25) .any [23, 24] (.iaddrS 1 (.tmp 23) (.tmp 24)) <|
 .op (some 26) (.int .i64) [25] (.load none (.tmp 25)) <|
 .op (some 27) .any [22, 26] (.sliceSl 1 (.tmp 22) none (some (.tmp 26)) none) <|
 .op (some 28) (.tup []) [21, 27] (.call 16 [(.tmp 21), (.tmp 27)]) <|
 .nil))
 (.ops (.op (some 29) .any [1] (.mov (.tmp 1)) <|
 .op (some 30) .any [4] (.mov (.tmp 4)) <|
 .op (some 31) .any [5] (.mov (.tmp 5)) <|
 .op (some 32) .any [30, 31] (.iaddrS 1 (.tmp 30) (.tmp 31)) <|
 .op (some 33) (.int .i64) [32] (.load none (.tmp 32)) <|
 .op (some 34) .any [29, 33] (.sliceSl 1 (.tmp 29) (some (.tmp 33)) none none) <|
 .op (some 1) .any [34] (.mov (.tmp 34)) <|
 .nil)))))
 (.ops (.op (some 13) .any [5] (.mov (.tmp 5)) <|
 .op (some 14) .any [13] (.bin .add .none (.tmp 13) (.con (V.int .i64 (Int.ofNat 1)))) <|
 .op (some 5) .any [14] (.mov (.tmp 14)) <|
 .nil))))
def A6 : XFn := ⟨35, [.any, .any], [], (C6_0 C6_1)⟩
def C7_0 : XC := (.seq (.ops (.op (some 2) .any [] (.mov (.con V.nils)) <|
 .nil))
 (.seq (.ops (.op (some 4) .any [0] (.mov (.tmp 0)) <|
 .op (some 5) .any [4] (.nilck (.tmp 4)) <|
 .op (some 6) .any [5] (.faddr 0 (.tmp 5)) <|
 .op (some 7) .one [6] (.call 17 [(.tmp 6)]) <|
 .op (some 3) .any [7] (.mov (.tmp 7)) <|
 .nil))
 (.seq (.seq (.ops (.op (some 8) .any [3] (.mov (.tmp 3)) <|
 .op (some 9) .any [8] (.len false (.tmp 8)) <|
 .op (some 10) .any [9] (.bin .eql .none (.tmp 9) (.con (V.int .i64 (Int.ofNat 0)))) <|
 .nil))
 (.cond (.tmp 10) (.seq (.ops (.op (some 11) .any [] (.buildSlice 5 1 [(V.int .u8 (Int.ofNat 0))] [(0, 1, (.con (V.int .u8 (Int.ofNat 0))))]) <|
 .op (some 2) .any [11] (.mov (.tmp 11)) <|
 .nil))
 .ret)
 .skip))
 (.seq (.ops (.op (some 12) .any [3] (.mov (.tmp 3)) <|
 .op (some 2) .any [12] (.mov (.tmp 12)) <|
 .nil))
 .ret))))
def A7 : XFn := ⟨13, [.ptr], [(.tmp 2)], C7_0⟩
def G8_0 : List AOper := [⟨(some 38), .mov (.tmp 2), none⟩, ⟨(some 39), .call 19 [(.tmp 38)], none⟩, ⟨(some 40), .load (some 4) (.tmp 3), none⟩, ⟨(some 41), .build [(V.int .i64 (Int.ofNat 0))] [], none⟩, ⟨(some 42), .box 68 (.tmp 41), none⟩, ⟨(some 43), .build [V.nilp, (V.str ⟨0, 0⟩), V.nils, V.nils, V.nils, V.nilp] [(0, 1, (.tmp 39)), (1, 4, (.tmp 40)), (5, 1, (.tmp 42))], none⟩, ⟨(some 44), .box 70 (.tmp 43), none⟩, ⟨(some 8), .mov (.tmp 44), none⟩]
def H8_0 : List DP := [⟨0, [2]⟩, ⟨1, [38]⟩, ⟨0, [3]⟩, ⟨0, []⟩, ⟨8, [41]⟩, ⟨31, [39, 40, 42]⟩, ⟨63, [43]⟩, ⟨127, [44]⟩]
def C8_0 : XC := (.seq (.ops (.op (some 3) .any [0] (.box 26 (.tmp 0)) <|
 .op (some 6) .any [] (.alloc 39 [(V.int .i64 (Int.ofNat 0)), (V.int .i64 (Int.ofNat 0)), V.nils, V.nils, (V.int .i64 (Int.ofNat 0)), V.nils]) <|
 .op (some 7) .any [] (.mov (.con (V.int .i64 (Int.ofNat 0)))) <|
 .nil))
 (.seq (.block 0 (.seq (.ops (.op (some 13) .any [1] (.mov (.tmp 1)) <|
 .op (some 14) .any [13] (.bin .lss .none (.tmp 13) (.con (V.int .i64 (Int.ofNat 0)))) <|
 .op (some 15) .any [14] (.mov (.tmp 14)) <|
 .grp 15 false (.op (some 16) .any [1, 15] (.mov (.tmp 1)) <|
 .op (some 17) .any [3, 15] (.faddr 3 (.tmp 3)) <|
 .op (some 18) .any [17, 15] (.load none (.tmp 17)) <|
 .op (some 19) .any [18, 15] (.len false (.tmp 18)) <|
 .op (some 20) .any [16, 19, 15] (.bin .geq .none (.tmp 16) (.tmp 19)) <|
 .nil) 21 [15, 20] (.tmp 15) (.con (V.bool true)) (.tmp 20) <|
 .op (some 12) .any [21] (.mov (.tmp 21)) <|
 .nil))
 (.cond (.tmp 12) (.seq (.ops (.op (some 22) (.agg [(.int .i64), (.int .i64), .any, .any, (.int .i64), .any]) [] (.build [(V.int .i64 (Int.ofNat 0)), (V.int .i64 (Int.ofNat 0)), V.nils, V.nils, (V.int .i64 (Int.ofNat 0)), V.nils] []) <|
 .op none (.agg [(.int .i64), (.int .i64), .any, .any, (.int .i64), .any]) [6, 22] (.store 6 (.tmp 6) (.tmp 22)) <|
 .op (some 7) .any [] (.mov (.con (V.int .i64 (Int.ofNat 9)))) <|
 .nil))
 .ret)
 (.seq (.ops (.op (some 24) .any [2] (.mov (.tmp 2)) <|
 .op (some 25) .any [24] (.len false (.tmp 24)) <|
 .op (some 26) .any [25] (.bin .gtr .none (.tmp 25) (.con (V.int .i64 (Int.ofNat 70000)))) <|
 .op (some 23) .any [26] (.mov (.tmp 26)) <|
 .nil))
 (.cond (.tmp 23) (.seq (.ops (.op (some 27) (.agg [(.int .i64), (.int .i64), .any, .any, (.int .i64), .any]) [] (.build [(V.int .i64 (Int.ofNat 0)), (V.int .i64 (Int.ofNat 0)), V.nils, V.nils, (V.int .i64 (Int.ofNat 0)), V.nils] []) <|
 .op none (.agg [(.int .i64), (.int .i64), .any, .any, (.int .i64), .any]) [6, 27] (.store 6 (.tmp 6) (.tmp 27)) <|
 .op (some 7) .any [] (.mov (.con (V.int .i64 (Int.ofNat 5)))) <|
 .nil))
 .ret)
 (.seq (.ops (.op (some 29) .any [2] (.mov (.tmp 2)) <|
 .op (some 30) .any [29] (.len false (.tmp 29)) <|
 .op (some 31) .any [30] (.bin .eql .none (.tmp 30) (.con (V.int .i64 (Int.ofNat 0)))) <|
 .op (some 32) .any [31] (.mov (.tmp 31)) <|
 .grp 32 false (.op (some 33) (.agg [.str, .any, .any, .any]) [3, 32] (.load (some 4) (.tmp 3)) <|
 .op (some 34) .bool [33, 32] (.call 18 [(.tmp 33)]) <|
 .op (some 35) .any [34, 32] (.un .not (.tmp 34)) <|
 .nil) 36 [32, 35] (.tmp 32) (.con (V.bool true)) (.tmp 35) <|
 .op (some 28) .any [36] (.mov (.tmp 36)) <|
 .nil))
 (.cond (.tmp 28) (.seq (.ops (.op (some 37) (.agg [(.int .i64), (.int .i64), .any, .any, (.int .i64), .any]) [] (.build [(V.int .i64 (Int.ofNat 0)), (V.int .i64 (Int.ofNat 0)), V.nils, V.nils, (V.int .i64 (Int.ofNat 0)), V.nils] []) <|
 .op none (.agg [(.int .i64), (.int .i64), .any, .any, (.int .i64), .any]) [6, 37] (.store 6 (.tmp 6) (.tmp 37)) <|
 .op (some 7) .any [] (.mov (.con (V.int .i64 (Int.ofNat 4)))) <|
 .nil))
 .ret)
 .skip)))))))
 (.seq (.keep [(1, (.int .i64)), (2, .any), (3, .ptr), (6, .ptr)] [] [] (.gdraw G8_0 H8_0 [(1, (.int .i64)), (3, .ptr), (6, .ptr), (8, .ptr)]))
 (.seq (.ops (.op (some 45) .any [8] (.mov (.tmp 8)) <|
 .op (some 46) .any [1] (.mov (.tmp 1)) <|
 .op (some 47) (.agg [(.int .i64), (.int .i64), .any, .any, (.int .i64), .any]) [45, 46] (.call 20 [(.tmp 45), (.tmp 46), (.con (V.int .i64 (Int.ofNat 1)))]) <|
 .pal 9 [] 39 [(V.int .i64 (Int.ofNat 0)), (V.int .i64 (Int.ofNat 0)), V.nils, V.nils, (V.int .i64 (Int.ofNat 0)), V.nils] <|
 .op none (.agg [(.int .i64), (.int .i64), .any, .any, (.int .i64), .any]) [9, 47] (.store 6 (.tmp 9) (.tmp 47)) <|
 .nil))
 (.seq (.seq (.ops (.op (some 48) .any [8] (.mov (.tmp 8)) <|
 .op (some 49) .any [48] (.nilck (.tmp 48)) <|
 .op (some 50) .any [49] (.faddr 0 (.tmp 49)) <|
 .op (some 51) .any [50] (.load none (.tmp 50)) <|
 .op (some 52) (.int .i64) [51] (.call 21 [(.tmp 51)]) <|
 .op (some 53) .any [52] (.bin .neq .none (.tmp 52) (.con (V.int .i64 (Int.ofNat 0)))) <|
 .op (some 54) .any [53] (.mov (.tmp 53)) <|
 .grp 54 false (.op (some 55) (.agg [.str, .any, .any, .any]) [3, 54] (.load (some 4) (.tmp 3)) <|
 .op (some 56) .any [1, 54] (.mov (.tmp 1)) <|
 .op (some 57) (.agg [(.int .i64), (.int .i64), .any, .any, (.int .i64), .any]) [9, 54] (.load (some 6) (.tmp 9)) <|
 .op (some 58) .bool [55, 56, 57, 54] (.call 22 [(.tmp 55), (.tmp 56), (.tmp 57)]) <|
 .op (some 59) .any [58, 54] (.un .not (.tmp 58)) <|
 .nil) 60 [54, 59] (.tmp 54) (.con (V.bool true)) (.tmp 59) <|
 .nil))
 (.cond (.tmp 60) (.seq (.ops (.op (some 61) (.agg [(.int .i64), (.int .i64), .any, .any, (.int .i64), .any]) [] (.build [(V.int .i64 (Int.ofNat 0)), (V.int .i64 (Int.ofNat 0)), V.nils, V.nils, (V.int .i64 (Int.ofNat 0)), V.nils] []) <|
 .op none (.agg [(.int .i64), (.int .i64), .any, .any, (.int .i64), .any]) [6, 61] (.store 6 (.tmp 6) (.tmp 61)) <|
 .op (some 7) .any [] (.mov (.con (V.int .i64 (Int.ofNat 4)))) <|
 .nil))
 .ret)
 .skip))
 (.seq (.seq (.ops (.op (some 63) (.agg [.str, .any, .any, .any]) [3] (.load (some 4) (.tmp 3)) <|
 .op (some 64) .any [1] (.mov (.tmp 1)) <|
 .op (some 65) (.agg [(.int .i64), (.int .i64), .any, .any, (.int .i64), .any]) [9] (.load (some 6) (.tmp 9)) <|
 .op (some 66) (.tup [.any, (.int .i64)]) [63, 64, 65] (.call 23 [(.tmp 63), (.tmp 64), (.tmp 65)]) <|
 .op (some 62) .any [66] (.mov (.tmp 66)) <|
 .op (some 67) .any [62] (.extract 0 (.tmp 62)) <|
 .op (some 68) .any [62] (.extract 1 (.tmp 62)) <|
 .op (some 10) .any [67] (.mov (.tmp 67)) <|
 .op (some 11) .any [68] (.mov (.tmp 68)) <|
 .nil))
 (.seq (.ops (.op (some 69) .any [11] (.mov (.tmp 11)) <|
 .op (some 70) .any [69] (.bin .neq .none (.tmp 69) (.con (V.int .i64 (Int.ofNat 0)))) <|
 .nil))
 (.cond (.tmp 70) (.seq (.ops (.op (some 71) (.agg [(.int .i64), (.int .i64), .any, .any, (.int .i64), .any]) [] (.build [(V.int .i64 (Int.ofNat 0)), (V.int .i64 (Int.ofNat 0)), V.nils, V.nils, (V.int .i64 (Int.ofNat 0)), V.nils] []) <|
 .op none (.agg [(.int .i64), (.int .i64), .any, .any, (.int .i64), .any]) [6, 71] (.store 6 (.tmp 6) (.tmp 71)) <|
 .op (some 7) .any [] (.mov (.con (V.int .i64 (Int.ofNat 4)))) <|
 .nil))
 .ret)
 .skip)))
 (.seq (.ops (.op (some 72) (.agg [(.int .i64), (.int .i64), .any, .any, (.int .i64), .any]) [9] (.load (some 6) (.tmp 9)) <|
 .op none (.agg [(.int .i64), (.int .i64), .any, .any, (.int .i64), .any]) [6, 72] (.store 6 (.tmp 6) (.tmp 72)) <|
 .op (some 7) .any [] (.mov (.con (V.int .i64 (Int.ofNat 0)))) <|
 .nil))
 .ret)))))))
def A8 : XFn := ⟨73, [(.agg [.str, .any, .any, .any]), (.int .i64), .any], [(.cell 6 (some 6)), (.tmp 7)], C8_0⟩
def C9_0 : XC := (.seq (.ops (.op (some 0) .any [] (.mov (.con (V.bool false))) <|
 .nil))
 (.seq (.ops (.op (some 8) (.tup [(.agg [.str, .any, .any, .any]), .bool]) [] (.call 4 [(.con (V.str ⟨83, 20423697567192517809240295259938904437794754005995551713174354563332778189752168395854124233507746754796681342499881594283041075820211926963132556663497257407511126993131317963984917325184787110174797⟩))]) <|
 .op (some 7) .any [8] (.mov (.tmp 8)) <|
 .op (some 9) .any [7] (.extract 0 (.tmp 7)) <|
 .op (some 10) .any [7] (.extract 1 (.tmp 7)) <|
 .pal 1 [] 26 [(V.str ⟨0, 0⟩), V.nils, V.nils, V.nils] <|
 .op none (.agg [.str, .any, .any, .any]) [1, 9] (.store 4 (.tmp 1) (.tmp 9)) <|
 .op (some 2) .any [10] (.mov (.tmp 10)) <|
 .nil))
 (.seq (.ops (.op (some 12) (.agg [.str, .any, .any, .any]) [1] (.load (some 4) (.tmp 1)) <|
 .op (some 13) .any [] (.buildSlice 5 1 [(V.int .u8 (Int.ofNat 0))] [(0, 1, (.con (V.int .u8 (Int.ofNat 80))))]) <|
 .op (some 14) (.tup [(.agg [(.int .i64), (.int .i64), .any, .any, (.int .i64), .any]), (.int .i64)]) [12, 13] (.call 8 [(.tmp 12), (.con (V.int .i64 (Int.ofNat 0))), (.tmp 13)]) <|
 .op (some 11) .any [14] (.mov (.tmp 14)) <|
 .op (some 15) .any [11] (.extract 0 (.tmp 11)) <|
 .op (some 16) .any [11] (.extract 1 (.tmp 11)) <|
 .pal 3 [] 39 [(V.int .i64 (Int.ofNat 0)), (V.int .i64 (Int.ofNat 0)), V.nils, V.nils, (V.int .i64 (Int.ofNat 0)), V.nils] <|
 .op none (.agg [(.int .i64), (.int .i64), .any, .any, (.int .i64), .any]) [3, 15] (.store 6 (.tmp 3) (.tmp 15)) <|
 .op (some 4) .any [16] (.mov (.tmp 16)) <|
 .nil))
 (.seq (.ops (.op (some 18) (.agg [.str, .any, .any, .any]) [1] (.load (some 4) (.tmp 1)) <|
 .op (some 19) .any [] (.buildSlice 5 1 [(V.int .u8 (Int.ofNat 0))] [(0, 1, (.con (V.int .u8 (Int.ofNat 88))))]) <|
 .op (some 20) (.tup [(.agg [(.int .i64), (.int .i64), .any, .any, (.int .i64), .any]), (.int .i64)]) [18, 19] (.call 8 [(.tmp 18), (.con (V.int .i64 (Int.ofNat 0))), (.tmp 19)]) <|
 .op (some 17) .any [20] (.mov (.tmp 20)) <|
 .op (some 21) .any [17] (.extract 0 (.tmp 17)) <|
 .op (some 22) .any [17] (.extract 1 (.tmp 17)) <|
 .pal 5 [] 39 [(V.int .i64 (Int.ofNat 0)), (V.int .i64 (Int.ofNat 0)), V.nils, V.nils, (V.int .i64 (Int.ofNat 0)), V.nils] <|
 .op none (.agg [(.int .i64), (.int .i64), .any, .any, (.int .i64), .any]) [5, 21] (.store 6 (.tmp 5) (.tmp 21)) <|
 .op (some 6) .any [22] (.mov (.tmp 22)) <|
 .nil))
 (.seq (.ops (.op (some 23) .any [2] (.mov (.tmp 2)) <|
 .op (some 24) .any [23] (.mov (.tmp 23)) <|
 .grp 24 true (.op (some 25) .any [4, 24] (.mov (.tmp 4)) <|
 .op (some 26) .any [25, 24] (.bin .eql .none (.tmp 25) (.con (V.int .i64 (Int.ofNat 0)))) <|
 .nil) 27 [24, 26] (.tmp 24) (.tmp 26) (.con (V.bool false)) <|
 .op (some 28) .any [27] (.mov (.tmp 27)) <|
 .grp 28 true (.op (some 29) .any [3, 28] (.faddr 3 (.tmp 3)) <|
 .op (some 30) .any [29, 28] (.load none (.tmp 29)) <|
 .op (some 31) .any [30, 28] (.len false (.tmp 30)) <|
 .op (some 32) .any [31, 28] (.bin .eql .none (.tmp 31) (.con (V.int .i64 (Int.ofNat 2)))) <|
 .nil) 33 [28, 32] (.tmp 28) (.tmp 32) (.con (V.bool false)) <|
 .op (some 34) .any [33] (.mov (.tmp 33)) <|
 .grp 34 true (.op (some 35) .any [3, 34] (.faddr 3 (.tmp 3)) <|
 .op (some 36) .any [35, 34] (.load none (.tmp 35)) <|
 .op (some 37) .any [36, 34] (.iaddrS 6 (.tmp 36) (.con (V.int .i64 (Int.ofNat 0)))) <|
 .op (some 38) .any [37, 34] (.faddr 1 (.tmp 37)) <|
 .op (some 39) (.int .i64) [38, 34] (.load none (.tmp 38)) <|
 .op (some 40) .any [39, 34] (.bin .eql .none (.tmp 39) (.con (V.int .i64 (Int.ofNat 5)))) <|
 .nil) 41 [34, 40] (.tmp 34) (.tmp 40) (.con (V.bool false)) <|
 .op (some 42) .any [41] (.mov (.tmp 41)) <|
 .grp 42 true (.op (some 43) .any [6, 42] (.mov (.tmp 6)) <|
 .op (some 44) .any [43, 42] (.bin .eql .none (.tmp 43) (.con (V.int .i64 (Int.ofNat 4)))) <|
 .nil) 45 [42, 44] (.tmp 42) (.tmp 44) (.con (V.bool false)) <|
 .op (some 0) .any [45] (.mov (.tmp 45)) <|
 .nil))
 .ret)))))
def A9 : XFn := ⟨46, [], [(.tmp 0)], C9_0⟩
def C10_0 : XC := (.seq (.ops (.op (some 2) .any [0] (.box 39 (.tmp 0)) <|
 .op (some 3) .any [1] (.box 39 (.tmp 1)) <|
 .op (some 4) .any [] (.mov (.con (V.bool false))) <|
 .nil))
 (.seq (.ops (.op (some 5) .any [2] (.faddr 0 (.tmp 2)) <|
 .op (some 6) (.int .i64) [5] (.load none (.tmp 5)) <|
 .op (some 7) .any [3] (.faddr 0 (.tmp 3)) <|
 .op (some 8) (.int .i64) [7] (.load none (.tmp 7)) <|
 .op (some 9) .any [6, 8] (.bin .eql .none (.tmp 6) (.tmp 8)) <|
 .op (some 10) .any [9] (.mov (.tmp 9)) <|
 .grp 10 true (.op (some 11) .any [2, 10] (.faddr 1 (.tmp 2)) <|
 .op (some 12) (.int .i64) [11, 10] (.load none (.tmp 11)) <|
 .op (some 13) .any [3, 10] (.faddr 1 (.tmp 3)) <|
 .op (some 14) (.int .i64) [13, 10] (.load none (.tmp 13)) <|
 .op (some 15) .any [12, 14, 10] (.bin .eql .none (.tmp 12) (.tmp 14)) <|
 .nil) 16 [10, 15] (.tmp 10) (.tmp 15) (.con (V.bool false)) <|
 .op (some 17) .any [16] (.mov (.tmp 16)) <|
 .grp 17 true (.op (some 18) .any [2, 17] (.faddr 2 (.tmp 2)) <|
 .op (some 19) .any [18, 17] (.load none (.tmp 18)) <|
 .op (some 20) .any [3, 17] (.faddr 2 (.tmp 3)) <|
 .op (some 21) .any [20, 17] (.load none (.tmp 20)) <|
 .op (some 22) .bool [19, 21, 17] (.call 24 [(.tmp 19), (.tmp 21)]) <|
 .nil) 23 [17, 22] (.tmp 17) (.tmp 22) (.con (V.bool false)) <|
 .op (some 24) .any [23] (.mov (.tmp 23)) <|
 .grp 24 true (.op (some 25) .any [2, 24] (.faddr 3 (.tmp 2)) <|
 .op (some 26) .any [25, 24] (.load none (.tmp 25)) <|
 .op (some 27) .any [3, 24] (.faddr 3 (.tmp 3)) <|
 .op (some 28) .any [27, 24] (.load none (.tmp 27)) <|
 .op (some 29) .bool [26, 28, 24] (.call 25 [(.tmp 26), (.tmp 28), (.con (V.fn 10 [] []))]) <|
 .nil) 30 [24, 29] (.tmp 24) (.tmp 29) (.con (V.bool false)) <|
 .op (some 31) .any [30] (.mov (.tmp 30)) <|
 .grp 31 true (.op (some 32) .any [2, 31] (.faddr 4 (.tmp 2)) <|
 .op (some 33) (.int .i64) [32, 31] (.load none (.tmp 32)) <|
 .op (some 34) .any [3, 31] (.faddr 4 (.tmp 3)) <|
 .op (some 35) (.int .i64) [34, 31] (.load none (.tmp 34)) <|
 .op (some 36) .any [33, 35, 31] (.bin .eql .none (.tmp 33) (.tmp 35)) <|
 .nil) 37 [31, 36] (.tmp 31) (.tmp 36) (.con (V.bool false)) <|
 .op (some 38) .any [37] (.mov (.tmp 37)) <|
 .grp 38 true (.op (some 39) .any [2, 38] (.faddr 5 (.tmp 2)) <|
 .op (some 40) .any [39, 38] (.load none (.tmp 39)) <|
 .op (some 41) .any [3, 38] (.faddr 5 (.tmp 3)) <|
 .op (some 42) .any [41, 38] (.load none (.tmp 41)) <|
 .op (some 43) .bool [40, 42, 38] (.call 26 [(.tmp 40), (.tmp 42), (.con (V.fn 27 [] []))]) <|
 .nil) 44 [38, 43] (.tmp 38) (.tmp 43) (.con (V.bool false)) <|
 .op (some 4) .any [44] (.mov (.tmp 44)) <|
 .nil))
 .ret))
def A10 : XFn := ⟨45, [(.agg [(.int .i64), (.int .i64), .any, .any, (.int .i64), .any]), (.agg [(.int .i64), (.int .i64), .any, .any, (.int .i64), .any])], [(.tmp 4)], C10_0⟩
def G11_0 : List AOper := [⟨(some 140), .build [(V.str ⟨0, 0⟩), (V.int .i64 (Int.ofNat 0)), V.nils, V.nils, V.nils] [], none⟩, ⟨(some 141), .mov (.tmp 8), none⟩, ⟨(some 142), .nilck (.tmp 141), none⟩, ⟨(some 143), .faddr 8 (.tmp 142), none⟩, ⟨(some 144), .load none (.tmp 143), none⟩, ⟨(some 145), .mov (.tmp 8), none⟩, ⟨(some 146), .nilck (.tmp 145), none⟩, ⟨(some 147), .faddr 7 (.tmp 146), none⟩, ⟨(some 148), .load none (.tmp 147), none⟩, ⟨none, .store 5 (.tmp 2) (.tmp 140), none⟩, ⟨(some 3), .mov (.tmp 144), none⟩, ⟨(some 4), .mov (.tmp 148), none⟩]
def H11_0 : List DP := [⟨0, []⟩, ⟨0, [8]⟩, ⟨2, [141]⟩, ⟨6, [142]⟩, ⟨14, [143]⟩, ⟨0, [8]⟩, ⟨32, [145]⟩, ⟨96, [146]⟩, ⟨224, [147]⟩, ⟨1, [2, 140]⟩, ⟨543, [144]⟩, ⟨2047, [148]⟩]
def C11_0 (cc1 : XC) : XC := (.seq (.ops (.op (some 2) .any [] (.alloc 52 [(V.str ⟨0, 0⟩), (V.int .i64 (Int.ofNat 0)), V.nils, V.nils, V.nils]) <|
 .op (some 3) .any [] (.mov (.con (V.int .i64 (Int.ofNat 0)))) <|
 .op (some 4) .any [] (.mov (.con (V.int .i64 (Int.ofNat 0)))) <|
 .nil))
 (.seq (.ops (.op (some 13) .any [0] (.mov (.tmp 0)) <|
 .op (some 14) (.tup [.any, (.int .i64), (.int .i64)]) [13] (.call 28 [(.tmp 13)]) <|
 .op (some 12) .any [14] (.mov (.tmp 14)) <|
 .op (some 15) .any [12] (.extract 0 (.tmp 12)) <|
 .op (some 16) .any [12] (.extract 1 (.tmp 12)) <|
 .op (some 17) .any [12] (.extract 2 (.tmp 12)) <|
 .op (some 5) .any [15] (.mov (.tmp 15)) <|
 .op (some 6) .any [16] (.mov (.tmp 16)) <|
 .op (some 7) .any [17] (.mov (.tmp 17)) <|
 .nil))
 (.seq (.seq (.ops (.op (some 18) .any [7] (.mov (.tmp 7)) <|
 .op (some 19) .any [18] (.bin .neq .none (.tmp 18) (.con (V.int .i64 (Int.ofNat 0)))) <|
 .nil))
 (.cond (.tmp 19) (.seq (.ops (.op (some 20) (.agg [.str, (.int .i64), .any, .any, .any]) [] (.build [(V.str ⟨0, 0⟩), (V.int .i64 (Int.ofNat 0)), V.nils, V.nils, V.nils] []) <|
 .op (some 21) .any [6] (.mov (.tmp 6)) <|
 .op (some 22) .any [7] (.mov (.tmp 7)) <|
 .op none (.agg [.str, (.int .i64), .any, .any, .any]) [2, 20] (.store 5 (.tmp 2) (.tmp 20)) <|
 .op (some 3) .any [21] (.mov (.tmp 21)) <|
 .op (some 4) .any [22] (.mov (.tmp 22)) <|
 .nil))
 .ret)
 .skip))
 (.seq (.ops (.op (some 23) .any [5] (.mov (.tmp 5)) <|
 .op (some 24) (.agg [.any, (.int .i64), .str, (.int .i64), .any, .any, .any, (.int .i64), (.int .i64)]) [23] (.build [V.nils, (V.int .i64 (Int.ofNat 0)), (V.str ⟨0, 0⟩), (V.int .i64 (Int.ofNat 0)), V.nils, V.nils, V.nils, (V.int .i64 (Int.ofNat 0)), (V.int .i64 (Int.ofNat 0))] [(0, 1, (.tmp 23))]) <|
 .op (some 25) .any [24] (.box 87 (.tmp 24)) <|
 .op (some 8) .any [25] (.mov (.tmp 25)) <|
 .nil))
 (.seq (.ops (.op (some 26) .any [8] (.mov (.tmp 8)) <|
 .op (some 27) .any [8] (.mov (.tmp 8)) <|
 .op (some 28) .str [27] (.call 29 [(.tmp 27), (.con (V.int .i64 (Int.ofNat 1)))]) <|
 .op (some 29) .any [26] (.nilck (.tmp 26)) <|
 .op (some 30) .any [29] (.faddr 2 (.tmp 29)) <|
 .op (some 31) .any [30] (.faddr 0 (.tmp 30)) <|
 .op none .any [31, 28] (.store 1 (.tmp 31) (.tmp 28)) <|
 .nil))
 (.seq (.ops (.op (some 32) .any [8] (.mov (.tmp 8)) <|
 .op (some 33) (.tup []) [32] (.call 30 [(.tmp 32), (.con (V.str ⟨11, 100710650190388740279911748⟩))]) <|
 .nil))
 (.seq (.block 0 (.seq (.ops (.op (some 35) .any [8] (.mov (.tmp 8)) <|
 .op (some 36) .bool [35] (.call 31 [(.tmp 35), (.con (V.str ⟨8, 6073459554577832005⟩))]) <|
 .op (some 34) .any [36] (.mov (.tmp 36)) <|
 .nil))
 (.cond (.tmp 34) (.ops (.op (some 37) .any [8] (.mov (.tmp 8)) <|
 .op (some 38) (.tup []) [37] (.call 30 [(.tmp 37), (.con (V.str ⟨4, 1397178708⟩))]) <|
 .nil))
 (.seq (.ops (.op (some 40) .any [8] (.mov (.tmp 8)) <|
 .op (some 41) .bool [40] (.call 31 [(.tmp 40), (.con (V.str ⟨8, 6073459554577829193⟩))]) <|
 .op (some 39) .any [41] (.mov (.tmp 41)) <|
 .nil))
 (.cond (.tmp 39) (.seq (.ops (.op (some 42) .any [8] (.mov (.tmp 8)) <|
 .op (some 43) .any [42] (.nilck (.tmp 42)) <|
 .op (some 44) .any [43] (.faddr 2 (.tmp 43)) <|
 .op (some 45) .any [44] (.faddr 1 (.tmp 44)) <|
 .op none .any [45] (.store 1 (.tmp 45) (.con (V.int .i64 (Int.ofNat 1)))) <|
 .nil))
 (.ops (.op (some 46) .any [8] (.mov (.tmp 8)) <|
 .op (some 47) (.tup []) [46] (.call 30 [(.tmp 46), (.con (V.str ⟨4, 1397178708⟩))]) <|
 .nil)))
 (.seq (.ops (.op (some 49) .any [8] (.mov (.tmp 8)) <|
 .op (some 50) .bool [49] (.call 31 [(.tmp 49), (.con (V.str ⟨9, 1241215773001651606849⟩))]) <|
 .op (some 48) .any [50] (.mov (.tmp 50)) <|
 .nil))
 (.cond (.tmp 48) (.seq (.ops (.op (some 51) .any [8] (.mov (.tmp 8)) <|
 .op (some 52) .any [51] (.nilck (.tmp 51)) <|
 .op (some 53) .any [52] (.faddr 2 (.tmp 52)) <|
 .op (some 54) .any [53] (.faddr 1 (.tmp 53)) <|
 .op none .any [54] (.store 1 (.tmp 54) (.con (V.int .i64 (Int.ofNat 2)))) <|
 .nil))
 (.ops (.op (some 55) .any [8] (.mov (.tmp 8)) <|
 .op (some 56) (.tup []) [55] (.call 30 [(.tmp 55), (.con (V.str ⟨4, 1397178708⟩))]) <|
 .nil)))
 .skip)))))))
 (.keep [(2, .ptr), (8, .ptr)] [] [] cc1))))))))
def C11_1 (cc2 : XC) (cc3 : XC) : XC := (.seq (.ops (.op (some 57) .any [8] (.mov (.tmp 8)) <|
 .op (some 58) (.tup []) [57] (.call 30 [(.tmp 57), (.con (V.str ⟨3, 4012602⟩))]) <|
 .nil))
 (.seq (.ops (.op (some 59) .any [8] (.mov (.tmp 8)) <|
 .op (some 60) (.tup []) [59] (.call 30 [(.tmp 59), (.con (V.str ⟨5, 336236856642⟩))]) <|
 .nil))
 (.seq (.block 1 (.loop [(2, .ptr), (8, .ptr)] [] [] cc3))
 (.keep [(2, .ptr), (8, .ptr)] [] [] cc2))))
def C11_2 (cc5 : XC) : XC := (.seq (.seq (.ops (.op (some 120) .any [8] (.mov (.tmp 8)) <|
 .op (some 121) .any [120] (.nilck (.tmp 120)) <|
 .op (some 122) .any [121] (.faddr 7 (.tmp 121)) <|
 .op (some 123) (.int .i64) [122] (.load none (.tmp 122)) <|
 .op (some 124) .any [123] (.bin .eql .none (.tmp 123) (.con (V.int .i64 (Int.ofNat 0)))) <|
 .op (some 125) .any [124] (.mov (.tmp 124)) <|
 .grp 125 true (.op (some 126) .any [8, 125] (.mov (.tmp 8)) <|
 .op (some 127) (.agg [(.int .i64), .str, (.int .i64)]) [126, 125] (.call 32 [(.tmp 126)]) <|
 .op (some 128) (.int .i64) [127, 125] (.field 0 none (.tmp 127)) <|
 .op (some 129) .any [128, 125] (.bin .neq .none (.tmp 128) (.con (V.int .i64 (Int.ofNat 0)))) <|
 .nil) 130 [125, 129] (.tmp 125) (.tmp 129) (.con (V.bool false)) <|
 .nil))
 (.cond (.tmp 130) (.ops (.op (some 131) .any [8] (.mov (.tmp 8)) <|
 .op (some 132) .any [8] (.mov (.tmp 8)) <|
 .op (some 133) (.agg [(.int .i64), .str, (.int .i64)]) [132] (.call 32 [(.tmp 132)]) <|
 .op (some 134) (.tup []) [131, 133] (.call 33 [(.tmp 131), (.con (V.int .i64 (Int.ofNat 7))), (.tmp 133)]) <|
 .nil))
 .skip))
 (.keep [(2, .ptr), (8, .ptr)] [] [] cc5))
def C11_3 (cc4 : XC) : XC := (.seq (.seq (.ops (.op (some 61) .any [8] (.mov (.tmp 8)) <|
 .op (some 62) .any [61] (.nilck (.tmp 61)) <|
 .op (some 63) .any [62] (.faddr 7 (.tmp 62)) <|
 .op (some 64) (.int .i64) [63] (.load none (.tmp 63)) <|
 .op (some 65) .any [64] (.bin .eql .none (.tmp 64) (.con (V.int .i64 (Int.ofNat 0)))) <|
 .op (some 66) .any [65] (.mov (.tmp 65)) <|
 .grp 66 true (.op (some 67) .any [8, 66] (.mov (.tmp 8)) <|
 .op (some 68) .bool [67, 66] (.call 31 [(.tmp 67), (.con (V.str ⟨3, 4476485⟩))]) <|
 .op (some 69) .any [68, 66] (.un .not (.tmp 68)) <|
 .nil) 70 [66, 69] (.tmp 66) (.tmp 69) (.con (V.bool false)) <|
 .nil))
 (.cond (.tmp 70) .skip
 (.exit 1)))
 (.block 2 (.seq (.ops (.op (some 71) .any [8] (.mov (.tmp 8)) <|
 .op (some 72) (.agg [(.int .i64), .str, (.int .i64)]) [71] (.call 32 [(.tmp 71)]) <|
 .pal 9 [] 92 [(V.int .i64 (Int.ofNat 0)), (V.str ⟨0, 0⟩), (V.int .i64 (Int.ofNat 0))] <|
 .op none (.agg [(.int .i64), .str, (.int .i64)]) [9, 72] (.store 3 (.tmp 9) (.tmp 72)) <|
 .nil))
 (.seq (.ops (.op (some 73) .any [8] (.mov (.tmp 8)) <|
 .op (some 74) .str [73] (.call 29 [(.tmp 73), (.con (V.int .i64 (Int.ofNat 1)))]) <|
 .op (some 10) .any [74] (.mov (.tmp 74)) <|
 .nil))
 (.seq (.seq (.ops (.op (some 75) .any [8] (.mov (.tmp 8)) <|
 .op (some 76) .any [75] (.nilck (.tmp 75)) <|
 .op (some 77) .any [76] (.faddr 7 (.tmp 76)) <|
 .op (some 78) (.int .i64) [77] (.load none (.tmp 77)) <|
 .op (some 79) .any [78] (.bin .eql .none (.tmp 78) (.con (V.int .i64 (Int.ofNat 0)))) <|
 .op (some 80) .any [79] (.mov (.tmp 79)) <|
 .grp 80 true (.op (some 81) .any [8, 80] (.mov (.tmp 8)) <|
 .op (some 82) .any [81, 80] (.nilck (.tmp 81)) <|
 .op (some 83) .any [82, 80] (.faddr 2 (.tmp 82)) <|
 .op (some 84) .any [83, 80] (.faddr 2 (.tmp 83)) <|
 .op (some 85) .any [84, 80] (.load none (.tmp 84)) <|
 .op (some 86) .any [85, 80] (.len false (.tmp 85)) <|
 .op (some 87) .any [86, 80] (.bin .geq .none (.tmp 86) (.con (V.int .i64 (Int.ofNat 40)))) <|
 .nil) 88 [80, 87] (.tmp 80) (.tmp 87) (.con (V.bool false)) <|
 .nil))
 (.cond (.tmp 88) (.ops (.op (some 89) .any [8] (.mov (.tmp 8)) <|
 .op (some 90) (.agg [(.int .i64), .str, (.int .i64)]) [9] (.load (some 3) (.tmp 9)) <|
 .op (some 91) (.tup []) [89, 90] (.call 33 [(.tmp 89), (.con (V.int .i64 (Int.ofNat 5))), (.tmp 90)]) <|
 .nil))
 .skip))
 (.keep [(2, .ptr), (8, .ptr), (10, .str)] [] [] cc4))))))
def C11_4 : XC := (.seq (.ops (.op (some 92) .any [8] (.mov (.tmp 8)) <|
 .op (some 93) (.tup []) [92] (.call 30 [(.tmp 92), (.con (V.str ⟨3, 4012602⟩))]) <|
 .nil))
 (.seq (.ops (.op (some 94) .any [8] (.mov (.tmp 8)) <|
 .op (some 95) (.int .i64) [94] (.call 34 [(.tmp 94), (.con (V.int .i64 (Int.ofNat 0)))]) <|
 .op (some 11) .any [95] (.mov (.tmp 95)) <|
 .nil))
 (.seq (.ops (.op (some 96) .any [8] (.mov (.tmp 8)) <|
 .op (some 97) .any [8] (.mov (.tmp 8)) <|
 .op (some 98) .any [97] (.nilck (.tmp 97)) <|
 .op (some 99) .any [98] (.faddr 2 (.tmp 98)) <|
 .op (some 100) .any [99] (.faddr 2 (.tmp 99)) <|
 .op (some 101) .any [100] (.load none (.tmp 100)) <|
 .op (some 102) .any [10] (.mov (.tmp 10)) <|
 .op (some 103) .any [102] (.buildSlice 9 1 [(V.str ⟨0, 0⟩)] [(0, 1, (.tmp 102))]) <|
 .op (some 104) .one [101, 103] (.append 9 1 16 (.tmp 101) (.tmp 103)) <|
 .op (some 105) .any [96] (.nilck (.tmp 96)) <|
 .op (some 106) .any [105] (.faddr 2 (.tmp 105)) <|
 .op (some 107) .any [106] (.faddr 2 (.tmp 106)) <|
 .op none .any [107, 104] (.store 1 (.tmp 107) (.tmp 104)) <|
 .nil))
 (.ops (.op (some 108) .any [8] (.mov (.tmp 8)) <|
 .op (some 109) .any [8] (.mov (.tmp 8)) <|
 .op (some 110) .any [109] (.nilck (.tmp 109)) <|
 .op (some 111) .any [110] (.faddr 2 (.tmp 110)) <|
 .op (some 112) .any [111] (.faddr 3 (.tmp 111)) <|
 .op (some 113) .any [112] (.load none (.tmp 112)) <|
 .op (some 114) .any [11] (.mov (.tmp 11)) <|
 .op (some 115) .any [114] (.buildSlice 3 1 [(V.int .i64 (Int.ofNat 0))] [(0, 1, (.tmp 114))]) <|
 .op (some 116) .one [113, 115] (.append 3 1 8 (.tmp 113) (.tmp 115)) <|
 .op (some 117) .any [108] (.nilck (.tmp 108)) <|
 .op (some 118) .any [117] (.faddr 2 (.tmp 117)) <|
 .op (some 119) .any [118] (.faddr 3 (.tmp 118)) <|
 .op none .any [119, 116] (.store 1 (.tmp 119) (.tmp 116)) <|
 .nil)))))
def C11_5 : XC := (.seq (.seq (.ops (.op (some 135) .any [8] (.mov (.tmp 8)) <|
 .op (some 136) .any [135] (.nilck (.tmp 135)) <|
 .op (some 137) .any [136] (.faddr 7 (.tmp 136)) <|
 .op (some 138) (.int .i64) [137] (.load none (.tmp 137)) <|
 .op (some 139) .any [138] (.bin .neq .none (.tmp 138) (.con (V.int .i64 (Int.ofNat 0)))) <|
 .nil))
 (.cond (.tmp 139) (.seq (.keep [(2, .ptr), (8, .ptr)] [] [] (.gdraw G11_0 H11_0 [(2, .ptr), (3, (.int .i64)), (4, (.int .i64))]))
 .ret)
 .skip))
 (.seq (.ops (.op (some 149) .any [8] (.mov (.tmp 8)) <|
 .op (some 150) .any [149] (.nilck (.tmp 149)) <|
 .op (some 151) .any [150] (.faddr 2 (.tmp 150)) <|
 .op (some 152) (.agg [.str, (.int .i64), .any, .any, .any]) [151] (.load (some 5) (.tmp 151)) <|
 .op none (.agg [.str, (.int .i64), .any, .any, .any]) [2, 152] (.store 5 (.tmp 2) (.tmp 152)) <|
 .op (some 3) .any [] (.mov (.con (V.int .i64 (Int.ofNat 0)))) <|
 .op (some 4) .any [] (.mov (.con (V.int .i64 (Int.ofNat 0)))) <|
 .nil))
 .ret))
def A11 : XFn := ⟨153, [.str], [(.cell 2 (some 5)), (.tmp 3), (.tmp 4)], (C11_0 (C11_1 (C11_2 C11_5) (C11_3 C11_4)))⟩
def G12_0 : List AOper := [⟨(some 25), .faddr 0 (.tmp 1), none⟩, ⟨(some 26), .load none (.tmp 25), none⟩, ⟨(some 27), .faddr 2 (.tmp 1), none⟩, ⟨(some 28), .load none (.tmp 27), none⟩, ⟨(some 29), .append 9 1 16 (.con V.nils) (.tmp 28), none⟩, ⟨(some 30), .build [(V.str ⟨0, 0⟩), V.nils, V.nils, V.nils] [(0, 1, (.tmp 26)), (1, 1, (.tmp 29))], none⟩, ⟨(some 9), .alloc 26 [(V.str ⟨0, 0⟩), V.nils, V.nils, V.nils], none⟩, ⟨none, .store 4 (.tmp 9) (.tmp 30), none⟩]
def H12_0 : List DP := [⟨0, [1]⟩, ⟨1, [25]⟩, ⟨0, [1]⟩, ⟨4, [27]⟩, ⟨12, [28]⟩, ⟨31, [26, 29]⟩, ⟨0, []⟩, ⟨127, [9, 30]⟩]
def G12_1 : List AOper := [⟨(some 38), .faddr 2 (.tmp 9), none⟩, ⟨(some 39), .load none (.tmp 38), none⟩, ⟨(some 40), .mov (.tmp 8), none⟩, ⟨(some 41), .faddr 3 (.tmp 1), none⟩, ⟨(some 42), .load none (.tmp 41), none⟩, ⟨(some 43), .mov (.tmp 10), none⟩, ⟨(some 44), .iaddrS 1 (.tmp 42) (.tmp 43), none⟩, ⟨(some 45), .load none (.tmp 44), none⟩, ⟨(some 46), .call 36 [(.tmp 40), (.tmp 45), (.con (V.int .i64 (Int.ofNat 0)))], none⟩, ⟨(some 47), .buildSlice 3 1 [(V.int .i64 (Int.ofNat 0))] [(0, 1, (.tmp 46))], none⟩, ⟨(some 48), .append 3 1 8 (.tmp 39) (.tmp 47), none⟩, ⟨(some 49), .faddr 2 (.tmp 9), none⟩, ⟨none, .store 1 (.tmp 49) (.tmp 48), none⟩]
def H12_1 : List DP := [⟨0, [9]⟩, ⟨1, [38]⟩, ⟨0, [8]⟩, ⟨0, [1]⟩, ⟨8, [41]⟩, ⟨0, [10]⟩, ⟨56, [42, 43]⟩, ⟨120, [44]⟩, ⟨252, [40, 45]⟩, ⟨508, [46]⟩, ⟨1023, [39, 47]⟩, ⟨2047, [9]⟩, ⟨4095, [49, 48]⟩]
def G12_2 : List AOper := [⟨(some 55), .build [(V.str ⟨0, 0⟩), V.nils, V.nils, V.nils] [], none⟩, ⟨(some 56), .mov (.tmp 10), none⟩, ⟨(some 57), .mov (.tmp 8), none⟩, ⟨(some 58), .nilck (.tmp 57), none⟩, ⟨(some 59), .faddr 6 (.tmp 58), none⟩, ⟨(some 60), .load none (.tmp 59), none⟩, ⟨none, .store 4 (.tmp 2) (.tmp 55), none⟩, ⟨(some 3), .mov (.tmp 56), none⟩, ⟨(some 4), .mov (.tmp 60), none⟩]
def H12_2 : List DP := [⟨0, []⟩, ⟨0, [10]⟩, ⟨0, [8]⟩, ⟨4, [57]⟩, ⟨12, [58]⟩, ⟨28, [59]⟩, ⟨1, [2, 55]⟩, ⟨67, [56]⟩, ⟨255, [60]⟩]
def C12_0 (cc1 : XC) (cc2 : XC) : XC := (.seq (.ops (.op (some 1) .any [0] (.box 52 (.tmp 0)) <|
 .op (some 2) .any [] (.alloc 26 [(V.str ⟨0, 0⟩), V.nils, V.nils, V.nils]) <|
 .op (some 3) .any [] (.mov (.con (V.int .i64 (Int.ofNat 0)))) <|
 .op (some 4) .any [] (.mov (.con (V.int .i64 (Int.ofNat 0)))) <|
 .nil))
 (.seq (.ops (.op (some 12) (.agg [.str, (.int .i64), .any, .any, .any]) [1] (.load (some 5) (.tmp 1)) <|
 .op (some 13) (.tup [.any, (.int .i64), (.int .i64)]) [12] (.call 35 [(.tmp 12)]) <|
 .op (some 11) .any [13] (.mov (.tmp 13)) <|
 .op (some 14) .any [11] (.extract 0 (.tmp 11)) <|
 .op (some 15) .any [11] (.extract 1 (.tmp 11)) <|
 .op (some 16) .any [11] (.extract 2 (.tmp 11)) <|
 .op (some 5) .any [14] (.mov (.tmp 14)) <|
 .op (some 6) .any [15] (.mov (.tmp 15)) <|
 .op (some 7) .any [16] (.mov (.tmp 16)) <|
 .nil))
 (.seq (.seq (.ops (.op (some 17) .any [7] (.mov (.tmp 7)) <|
 .op (some 18) .any [17] (.bin .neq .none (.tmp 17) (.con (V.int .i64 (Int.ofNat 0)))) <|
 .nil))
 (.cond (.tmp 18) (.seq (.ops (.op (some 19) (.agg [.str, .any, .any, .any]) [] (.build [(V.str ⟨0, 0⟩), V.nils, V.nils, V.nils] []) <|
 .op (some 20) .any [6] (.mov (.tmp 6)) <|
 .op (some 21) .any [7] (.mov (.tmp 7)) <|
 .op none (.agg [.str, .any, .any, .any]) [2, 19] (.store 4 (.tmp 2) (.tmp 19)) <|
 .op (some 3) .any [20] (.mov (.tmp 20)) <|
 .op (some 4) .any [21] (.mov (.tmp 21)) <|
 .nil))
 .ret)
 .skip))
 (.seq (.ops (.op (some 22) (.agg [.str, (.int .i64), .any, .any, .any]) [1] (.load (some 5) (.tmp 1)) <|
 .op (some 23) (.agg [.str, (.int .i64), .any, .any, .any, .any, (.int .i64)]) [22] (.build [(V.str ⟨0, 0⟩), (V.int .i64 (Int.ofNat 0)), V.nils, V.nils, V.nils, V.nils, (V.int .i64 (Int.ofNat 0))] [(0, 5, (.tmp 22))]) <|
 .op (some 24) .any [23] (.box 100 (.tmp 23)) <|
 .op (some 8) .any [24] (.mov (.tmp 24)) <|
 .nil))
 (.seq (.keep [(1, .ptr), (2, .ptr), (8, .ptr)] [] [] (.gdraw G12_0 H12_0 [(1, .ptr), (2, .ptr), (8, .ptr), (9, .ptr)]))
 (.seq (.seq (.ops (.op (some 10) .any [] (.mov (.con (V.int .i64 (Int.ofNat 0)))) <|
 .nil))
 (.block 0 (.loop [(1, .ptr), (2, .ptr), (8, .ptr), (9, .ptr), (10, (.int .i64))] [] [] cc2)))
 (.keep [(2, .ptr), (8, .ptr), (9, .ptr)] [] [] cc1)))))))
def C12_1 : XC := (.seq (.ops (.op (some 61) .any [8] (.mov (.tmp 8)) <|
 .op (some 62) .any [61] (.nilck (.tmp 61)) <|
 .op (some 63) .any [62] (.faddr 5 (.tmp 62)) <|
 .op (some 64) .any [63] (.load none (.tmp 63)) <|
 .op (some 65) .any [9] (.faddr 3 (.tmp 9)) <|
 .op none .any [65, 64] (.store 1 (.tmp 65) (.tmp 64)) <|
 .nil))
 (.seq (.ops (.op (some 66) (.agg [.str, .any, .any, .any]) [9] (.load (some 4) (.tmp 9)) <|
 .op none (.agg [.str, .any, .any, .any]) [2, 66] (.store 4 (.tmp 2) (.tmp 66)) <|
 .op (some 3) .any [] (.mov (.con (V.int .i64 (Int.ofNat 0)))) <|
 .op (some 4) .any [] (.mov (.con (V.int .i64 (Int.ofNat 0)))) <|
 .nil))
 .ret))
def C12_2 : XC := (.seq (.seq (.ops (.op (some 31) .any [10] (.mov (.tmp 10)) <|
 .op (some 32) .any [1] (.faddr 2 (.tmp 1)) <|
 .op (some 33) .any [32] (.load none (.tmp 32)) <|
 .op (some 34) .any [33] (.len false (.tmp 33)) <|
 .op (some 35) .any [31, 34] (.bin .lss .none (.tmp 31) (.tmp 34)) <|
 .nil))
 (.cond (.tmp 35) .skip
 (.exit 0)))
 (.seq (.block 1 (.seq (.keep [(1, .ptr), (2, .ptr), (8, .ptr), (9, .ptr), (10, (.int .i64))] [] [] (.gdraw G12_1 H12_1 [(1, .ptr), (2, .ptr), (8, .ptr), (9, .ptr), (10, (.int .i64))]))
 (.seq (.ops (.op (some 50) .any [8] (.mov (.tmp 8)) <|
 .op (some 51) .any [50] (.nilck (.tmp 50)) <|
 .op (some 52) .any [51] (.faddr 6 (.tmp 51)) <|
 .op (some 53) (.int .i64) [52] (.load none (.tmp 52)) <|
 .op (some 54) .any [53] (.bin .neq .none (.tmp 53) (.con (V.int .i64 (Int.ofNat 0)))) <|
 .nil))
 (.cond (.tmp 54) (.seq (.keep [(2, .ptr), (8, .ptr), (10, (.int .i64))] [] [] (.gdraw G12_2 H12_2 [(2, .ptr), (3, (.int .i64)), (4, (.int .i64))]))
 .ret)
 .skip))))
 (.ops (.op (some 36) .any [10] (.mov (.tmp 10)) <|
 .op (some 37) .any [36] (.bin .add .none (.tmp 36) (.con (V.int .i64 (Int.ofNat 1)))) <|
 .op (some 10) .any [37] (.mov (.tmp 37)) <|
 .nil))))
def A12 : XFn := ⟨67, [(.agg [.str, (.int .i64), .any, .any, .any])], [(.cell 2 (some 4)), (.tmp 3), (.tmp 4)], (C12_0 C12_1 C12_2)⟩
def C13_0 : XC := (.seq (.ops (.op (some 4) .any [1] (.mov (.tmp 1)) <|
 .op (some 5) .any [4] (.bin .neq .none (.tmp 4) (.con (V.int .i64 (Int.ofNat 0)))) <|
 .nil))
 (.cond (.tmp 5) (.ops (.op (some 6) .any [0] (.mov (.tmp 0)) <|
 .op (some 7) .any [0] (.mov (.tmp 0)) <|
 .op (some 8) .any [7] (.nilck (.tmp 7)) <|
 .op (some 9) .any [8] (.faddr 0 (.tmp 8)) <|
 .op (some 10) .any [9] (.load none (.tmp 9)) <|
 .op (some 11) .any [] (.buildSlice 5 1 [(V.int .u8 (Int.ofNat 0))] [(0, 1, (.con (V.int .u8 (Int.ofNat 1))))]) <|
 .op (some 12) .one [10, 11] (.append 5 1 1 (.tmp 10) (.tmp 11)) <|
 .op (some 13) .any [6] (.nilck (.tmp 6)) <|
 .op (some 14) .any [13] (.faddr 0 (.tmp 13)) <|
 .op none .any [14, 12] (.store 1 (.tmp 14) (.tmp 12)) <|
 .nil))
 (.ops (.op (some 15) .any [0] (.mov (.tmp 0)) <|
 .op (some 16) .any [0] (.mov (.tmp 0)) <|
 .op (some 17) .any [16] (.nilck (.tmp 16)) <|
 .op (some 18) .any [17] (.faddr 0 (.tmp 17)) <|
 .op (some 19) .any [18] (.load none (.tmp 18)) <|
 .op (some 20) .any [] (.buildSlice 5 1 [(V.int .u8 (Int.ofNat 0))] [(0, 1, (.con (V.int .u8 (Int.ofNat 0))))]) <|
 .op (some 21) .one [19, 20] (.append 5 1 1 (.tmp 19) (.tmp 20)) <|
 .op (some 22) .any [15] (.nilck (.tmp 15)) <|
 .op (some 23) .any [22] (.faddr 0 (.tmp 22)) <|
 .op none .any [23, 21] (.store 1 (.tmp 23) (.tmp 21)) <|
 .nil))))
def A13 : XFn := ⟨24, [.ptr, (.int .i64)], [], C13_0⟩
def C14_0 (cc1 : XC) (cc2 : XC) : XC := (.seq (.ops (.op (some 2) .any [] (.mov (.con V.nils)) <|
 .nil))
 (.seq (.ops (.op (some 5) .any [0] (.mov (.tmp 0)) <|
 .op (some 6) .any [5] (.max (.con (V.int .i64 (Int.ofNat 0))) [(.tmp 5)]) <|
 .op (some 0) .any [6] (.mov (.tmp 6)) <|
 .nil))
 (.seq (.ops (.op (some 3) .any [] (.mov (.con V.nils)) <|
 .nil))
 (.seq (.block 0 (.loop [(0, (.int .i64)), (3, .any)] [] [] cc2))
 (.keep [(0, (.int .i64)), (3, .any)] [] [] cc1)))))
def C14_1 : XC := (.seq (.ops (.op (some 21) .any [3] (.mov (.tmp 3)) <|
 .op (some 22) .any [0] (.mov (.tmp 0)) <|
 .op (some 23) .any [22] (.buildSlice 3 1 [(V.int .i64 (Int.ofNat 0))] [(0, 1, (.tmp 22))]) <|
 .op (some 24) .one [21, 23] (.append 3 1 8 (.tmp 21) (.tmp 23)) <|
 .op (some 2) .any [24] (.mov (.tmp 24)) <|
 .nil))
 .ret)
def C14_2 : XC := (.seq (.seq (.ops (.op (some 7) .any [0] (.mov (.tmp 0)) <|
 .op (some 8) .any [7] (.bin .geq .none (.tmp 7) (.con (V.int .i64 (Int.ofNat 16384)))) <|
 .nil))
 (.cond (.tmp 8) .skip
 (.exit 0)))
 (.block 1 (.seq (.ops (.op (some 9) .any [0] (.mov (.tmp 0)) <|
 .op (some 10) .any [9] (.bin .quo .none (.tmp 9) (.con (V.int .i64 (Int.ofNat 16384)))) <|
 .op (some 11) .any [10] (.min (.tmp 10) [(.con (V.int .i64 (Int.ofNat 4)))]) <|
 .op (some 4) .any [11] (.mov (.tmp 11)) <|
 .nil))
 (.seq (.ops (.op (some 12) .any [3] (.mov (.tmp 3)) <|
 .op (some 13) .any [4] (.mov (.tmp 4)) <|
 .op (some 14) .any [13] (.bin .mul .none (.tmp 13) (.con (V.int .i64 (Int.ofNat 16384)))) <|
 .op (some 15) .any [14] (.buildSlice 3 1 [(V.int .i64 (Int.ofNat 0))] [(0, 1, (.tmp 14))]) <|
 .op (some 16) .one [12, 15] (.append 3 1 8 (.tmp 12) (.tmp 15)) <|
 .op (some 3) .any [16] (.mov (.tmp 16)) <|
 .nil))
 (.ops (.op (some 17) .any [0] (.mov (.tmp 0)) <|
 .op (some 18) .any [4] (.mov (.tmp 4)) <|
 .op (some 19) .any [18] (.bin .mul .none (.tmp 18) (.con (V.int .i64 (Int.ofNat 16384)))) <|
 .op (some 20) .any [17, 19] (.bin .sub .none (.tmp 17) (.tmp 19)) <|
 .op (some 0) .any [20] (.mov (.tmp 20)) <|
 .nil))))))
def A14 : XFn := ⟨25, [(.int .i64)], [(.tmp 2)], (C14_0 C14_1 C14_2)⟩
def C15_0 : XC := (.block 0 (.seq (.ops (.op (some 11) .any [1] (.mov (.tmp 1)) <|
 .op (some 12) .any [11] (.bin .lss .none (.tmp 11) (.con (V.int .i64 (Int.ofNat 128)))) <|
 .op (some 10) .any [12] (.mov (.tmp 12)) <|
 .nil))
 (.cond (.tmp 10) (.ops (.op (some 13) .any [0] (.mov (.tmp 0)) <|
 .op (some 14) .any [1] (.mov (.tmp 1)) <|
 .op (some 15) .any [14] (.conv (.toInt .u64) (.tmp 14)) <|
 .op (some 16) (.tup []) [13, 15] (.call 5 [(.tmp 13), (.tmp 15), (.con (V.int .i64 (Int.ofNat 8)))]) <|
 .nil))
 (.seq (.ops (.op (some 18) .any [1] (.mov (.tmp 1)) <|
 .op (some 19) .any [18] (.bin .lss .none (.tmp 18) (.con (V.int .i64 (Int.ofNat 16384)))) <|
 .op (some 17) .any [19] (.mov (.tmp 19)) <|
 .nil))
 (.cond (.tmp 17) (.ops (.op (some 20) .any [0] (.mov (.tmp 0)) <|
 .op (some 21) .any [1] (.mov (.tmp 1)) <|
 .op (some 22) .any [21] (.bin .add .none (.con (V.int .i64 (Int.ofNat 32768))) (.tmp 21)) <|
 .op (some 23) .any [22] (.conv (.toInt .u64) (.tmp 22)) <|
 .op (some 24) (.tup []) [20, 23] (.call 5 [(.tmp 20), (.tmp 23), (.con (V.int .i64 (Int.ofNat 16)))]) <|
 .nil))
 (.ops (.op (some 4) .any [0] (.mov (.tmp 0)) <|
 .op (some 5) .any [1] (.mov (.tmp 1)) <|
 .op (some 6) .any [5] (.bin .quo .none (.tmp 5) (.con (V.int .i64 (Int.ofNat 16384)))) <|
 .op (some 7) .any [6] (.bin .add .none (.con (V.int .i64 (Int.ofNat 192))) (.tmp 6)) <|
 .op (some 8) .any [7] (.conv (.toInt .u64) (.tmp 7)) <|
 .op (some 9) (.tup []) [4, 8] (.call 5 [(.tmp 4), (.tmp 8), (.con (V.int .i64 (Int.ofNat 8)))]) <|
 .nil)))))))
def A15 : XFn := ⟨25, [.any, (.int .i64)], [], C15_0⟩
def C16_0 : XC := (.ops (.op (some 4) .any [0] (.mov (.tmp 0)) <|
 .op (some 5) .any [4] (.nilck (.tmp 4)) <|
 .op (some 6) .any [5] (.faddr 0 (.tmp 5)) <|
 .op (some 7) .any [1] (.mov (.tmp 1)) <|
 .op (some 8) .any [7] (.buildSlice 30 1 [V.nils] [(0, 1, (.tmp 7))]) <|
 .op (some 9) (.tup []) [6, 8] (.call 37 [(.tmp 6), (.tmp 8)]) <|
 .nil))
def A16 : XFn := ⟨10, [.ptr, .any], [], C16_0⟩
def C17_0 (cc1 : XC) (cc2 : XC) : XC := (.seq (.ops (.op (some 2) .any [] (.mov (.con V.nils)) <|
 .nil))
 (.seq (.ops (.op (some 3) .any [] (.mov (.con V.nils)) <|
 .nil))
 (.seq (.seq (.ops (.op (some 4) .any [] (.mov (.con (V.int .i64 (Int.ofNat 0)))) <|
 .nil))
 (.block 0 (.loop [(0, .ptr), (3, .any), (4, (.int .i64))] [] [] cc2)))
 (.keep [(3, .any)] [] [] cc1))))
def C17_1 : XC := (.seq (.ops (.op (some 42) .any [3] (.mov (.tmp 3)) <|
 .op (some 2) .any [42] (.mov (.tmp 42)) <|
 .nil))
 .ret)
def C17_2 (cc3 : XC) (cc4 : XC) : XC := (.seq (.seq (.ops (.op (some 5) .any [4] (.mov (.tmp 4)) <|
 .op (some 6) .any [0] (.mov (.tmp 0)) <|
 .op (some 7) .any [6] (.nilck (.tmp 6)) <|
 .op (some 8) .any [7] (.faddr 0 (.tmp 7)) <|
 .op (some 9) .any [8] (.load none (.tmp 8)) <|
 .op (some 10) .any [9] (.len false (.tmp 9)) <|
 .op (some 11) .any [5, 10] (.bin .lss .none (.tmp 5) (.tmp 10)) <|
 .nil))
 (.cond (.tmp 11) .skip
 (.exit 0)))
 (.seq (.block 1 (.seq (.seq (.ops (.op (some 14) .any [4] (.mov (.tmp 4)) <|
 .op (some 15) .any [14] (.bin .rem .none (.tmp 14) (.con (V.int .i64 (Int.ofNat 8)))) <|
 .op (some 16) .any [15] (.bin .eql .none (.tmp 15) (.con (V.int .i64 (Int.ofNat 0)))) <|
 .nil))
 (.cond (.tmp 16) (.ops (.op (some 17) .any [3] (.mov (.tmp 3)) <|
 .op (some 18) .any [] (.buildSlice 5 1 [(V.int .u8 (Int.ofNat 0))] [(0, 1, (.con (V.int .u8 (Int.ofNat 0))))]) <|
 .op (some 19) .one [17, 18] (.append 5 1 1 (.tmp 17) (.tmp 18)) <|
 .op (some 3) .any [19] (.mov (.tmp 19)) <|
 .nil))
 .skip))
 (.keep [(0, .ptr), (3, .any), (4, (.int .i64))] [] [] cc4)))
 (.keep [(0, .ptr), (3, .any), (4, (.int .i64))] [] [] cc3)))
def C17_3 : XC := (.ops (.op (some 12) .any [4] (.mov (.tmp 4)) <|
 .op (some 13) .any [12] (.bin .add .none (.tmp 12) (.con (V.int .i64 (Int.ofNat 1)))) <|
 .op (some 4) .any [13] (.mov (.tmp 13)) <|
 .nil))
def C17_4 : XC := (.draw (.op (some 20) .any [3] (.mov (.tmp 3)) <|
 .op (some 21) .any [4] (.mov (.tmp 4)) <|
 .op (some 22) .any [21] (.bin .quo .none (.tmp 21) (.con (V.int .i64 (Int.ofNat 8)))) <|
 .op (some 23) .any [3] (.mov (.tmp 3)) <|
 .op (some 24) .any [4] (.mov (.tmp 4)) <|
 .op (some 25) .any [24] (.bin .quo .none (.tmp 24) (.con (V.int .i64 (Int.ofNat 8)))) <|
 .op (some 26) .any [23, 25] (.iaddrS 1 (.tmp 23) (.tmp 25)) <|
 .op (some 27) (.int .u8) [26] (.load none (.tmp 26)) <|
 .op (some 28) .any [0] (.mov (.tmp 0)) <|
 .op (some 29) .any [28] (.nilck (.tmp 28)) <|
 .op (some 30) .any [29] (.faddr 0 (.tmp 29)) <|
 .op (some 31) .any [30] (.load none (.tmp 30)) <|
 .op (some 32) .any [4] (.mov (.tmp 4)) <|
 .op (some 33) .any [31, 32] (.iaddrS 1 (.tmp 31) (.tmp 32)) <|
 .op (some 34) (.int .u8) [33] (.load none (.tmp 33)) <|
 .op (some 35) .any [4] (.mov (.tmp 4)) <|
 .op (some 36) .any [35] (.bin .rem .none (.tmp 35) (.con (V.int .i64 (Int.ofNat 8)))) <|
 .op (some 37) .any [36] (.bin .sub .none (.con (V.int .i64 (Int.ofNat 7))) (.tmp 36)) <|
 .op (some 38) .any [37] (.conv (.toInt .u64) (.tmp 37)) <|
 .op (some 39) .any [34, 38] (.bin .shl .none (.tmp 34) (.tmp 38)) <|
 .op (some 40) .any [27, 39] (.bin .or .none (.tmp 27) (.tmp 39)) <|
 .op (some 41) .any [20, 22] (.iaddrS 1 (.tmp 20) (.tmp 22)) <|
 .op none .any [41, 40] (.store 1 (.tmp 41) (.tmp 40)) <|
 .nil) [0, 0, 2, 0, 0, 16, 56, 120, 0, 256, 768, 1792, 0, 7936, 16128, 0, 32768, 98304, 229376, 524032, 1048568, 2097151, 4194303])
def A17 : XFn := ⟨43, [.ptr], [(.tmp 2)], (C17_0 C17_1 (C17_2 C17_3 C17_4))⟩
def C18_0 : XC := (.seq (.ops (.op (some 1) .any [0] (.box 26 (.tmp 0)) <|
 .op (some 2) .any [] (.mov (.con (V.bool false))) <|
 .nil))
 (.seq (.ops (.op (some 3) (.agg [.str, .any, .any, .any]) [1] (.load (some 4) (.tmp 1)) <|
 .op (some 4) .bool [3] (.call 38 [(.tmp 3)]) <|
 .op (some 5) .any [4] (.mov (.tmp 4)) <|
 .grp 5 true (.op (some 6) .any [1, 5] (.faddr 3 (.tmp 1)) <|
 .op (some 7) .any [6, 5] (.load none (.tmp 6)) <|
 .op (some 8) .bool [7, 5] (.call 39 [(.tmp 7), (.con (V.fn 40 [] []))]) <|
 .op (some 9) .any [8, 5] (.un .not (.tmp 8)) <|
 .nil) 10 [5, 9] (.tmp 5) (.tmp 9) (.con (V.bool false)) <|
 .op (some 2) .any [10] (.mov (.tmp 10)) <|
 .nil))
 .ret))
def A18 : XFn := ⟨11, [(.agg [.str, .any, .any, .any])], [(.tmp 2)], C18_0⟩
def C19_0 : XC := (.seq (.ops (.op (some 2) .any [] (.mov (.con V.nilp)) <|
 .nil))
 (.seq (.ops (.op (some 3) .any [0] (.mov (.tmp 0)) <|
 .op (some 4) .one [3] (.call 41 [(.tmp 3)]) <|
 .op (some 5) .any [0] (.mov (.tmp 0)) <|
 .op (some 6) .any [5] (.len false (.tmp 5)) <|
 .op (some 7) .any [6] (.bin .eql .none (.tmp 6) (.con (V.int .i64 (Int.ofNat 1)))) <|
 .op (some 8) .any [7] (.mov (.tmp 7)) <|
 .grp 8 true (.op (some 9) .any [0, 8] (.mov (.tmp 0)) <|
 .op (some 10) .any [9, 8] (.iaddrS 1 (.tmp 9) (.con (V.int .i64 (Int.ofNat 0)))) <|
 .op (some 11) (.int .u8) [10, 8] (.load none (.tmp 10)) <|
 .op (some 12) .any [11, 8] (.bin .eql .none (.tmp 11) (.con (V.int .u8 (Int.ofNat 0)))) <|
 .nil) 13 [8, 12] (.tmp 8) (.tmp 12) (.con (V.bool false)) <|
 .op (some 14) (.agg [.any, (.int .i64), .bool]) [4, 13] (.build [V.nilp, (V.int .i64 (Int.ofNat 0)), (V.bool false)] [(0, 1, (.tmp 4)), (2, 1, (.tmp 13))]) <|
 .op (some 15) .any [14] (.box 116 (.tmp 14)) <|
 .op (some 2) .any [15] (.mov (.tmp 15)) <|
 .nil))
 .ret))
def A19 : XFn := ⟨16, [.any], [(.tmp 2)], C19_0⟩
def G20_0 : List AOper := [⟨(some 9), .load none (.tmp 3), none⟩, ⟨(some 10), .load none (.tmp 3), none⟩, ⟨(some 11), .nilck (.tmp 10), none⟩, ⟨(some 12), .faddr 5 (.tmp 11), none⟩, ⟨(some 13), .load none (.tmp 12), none⟩, ⟨(some 14), .call 43 [(.tmp 13), (.con (V.int .i64 (Int.ofNat 1)))], none⟩, ⟨(some 15), .un .not (.tmp 14), none⟩, ⟨(some 16), .mov (.tmp 15), none⟩, ⟨(some 17), .mov (.tmp 1), (some (16, false))⟩, ⟨(some 18), .bin .lss .none (.tmp 17) (.con (V.int .i64 (Int.ofNat 0))), (some (16, false))⟩, ⟨(some 19), .pick (.tmp 16) (.con (V.bool true)) (.tmp 18), none⟩, ⟨(some 20), .mov (.tmp 19), none⟩, ⟨(some 21), .mov (.tmp 1), (some (20, false))⟩, ⟨(some 22), .load none (.tmp 3), (some (20, false))⟩, ⟨(some 23), .nilck (.tmp 22), (some (20, false))⟩, ⟨(some 24), .faddr 1 (.tmp 23), (some (20, false))⟩, ⟨(some 25), .faddr 3 (.tmp 24), (some (20, false))⟩, ⟨(some 26), .load none (.tmp 25), (some (20, false))⟩, ⟨(some 27), .len false (.tmp 26), (some (20, false))⟩, ⟨(some 28), .bin .geq .none (.tmp 21) (.tmp 27), (some (20, false))⟩, ⟨(some 29), .pick (.tmp 20) (.con (V.bool true)) (.tmp 28), none⟩, ⟨(some 30), .mov (.tmp 29), none⟩, ⟨(some 31), .mov (.tmp 2), (some (30, false))⟩, ⟨(some 32), .bin .gtr .none (.tmp 31) (.con (V.int .i64 (Int.ofNat 17))), (some (30, false))⟩, ⟨(some 33), .pick (.tmp 30) (.con (V.bool true)) (.tmp 32), none⟩, ⟨(some 34), .call 42 [(.tmp 9), (.tmp 33)], none⟩]
def H20_0 : List DP := [⟨0, [3]⟩, ⟨0, [3]⟩, ⟨2, [10]⟩, ⟨6, [11]⟩, ⟨14, [12]⟩, ⟨30, [13]⟩, ⟨62, [14]⟩, ⟨126, [15]⟩, ⟨254, [1, 16]⟩, ⟨510, [17, 16]⟩, ⟨1022, [16, 18]⟩, ⟨2046, [19]⟩, ⟨4094, [1, 20]⟩, ⟨4094, [3, 20]⟩, ⟨12286, [22, 20]⟩, ⟨28670, [23, 20]⟩, ⟨61438, [24, 20]⟩, ⟨126974, [25, 20]⟩, ⟨258046, [26, 20]⟩, ⟨524286, [21, 27, 20]⟩, ⟨1048574, [20, 28]⟩, ⟨2097150, [29]⟩, ⟨4194302, [2, 30]⟩, ⟨8388606, [31, 30]⟩, ⟨16777214, [30, 32]⟩, ⟨33554431, [9, 33]⟩]
def C20_0 (cc1 : XC) (cc2 : XC) : XC := (.seq (.ops (.op (some 3) .any [0] (.box 63 (.tmp 0)) <|
 .op (some 6) .any [] (.alloc 39 [(V.int .i64 (Int.ofNat 0)), (V.int .i64 (Int.ofNat 0)), V.nils, V.nils, (V.int .i64 (Int.ofNat 0)), V.nils]) <|
 .nil))
 (.seq (.seq (.keep [(1, (.int .i64)), (2, (.int .i64)), (3, .ptr), (6, .ptr)] [] [] (.gdraw G20_0 H20_0 [(1, (.int .i64)), (2, (.int .i64)), (3, .ptr), (6, .ptr)]))
 (.seq (.ops (.op (some 35) .any [3] (.load none (.tmp 3)) <|
 .op (some 36) .bool [35] (.call 44 [(.tmp 35)]) <|
 .op (some 37) .any [36] (.un .not (.tmp 36)) <|
 .nil))
 (.cond (.tmp 37) (.seq (.ops (.op (some 38) (.agg [(.int .i64), (.int .i64), .any, .any, (.int .i64), .any]) [] (.build [(V.int .i64 (Int.ofNat 0)), (V.int .i64 (Int.ofNat 0)), V.nils, V.nils, (V.int .i64 (Int.ofNat 0)), V.nils] []) <|
 .op none (.agg [(.int .i64), (.int .i64), .any, .any, (.int .i64), .any]) [6, 38] (.store 6 (.tmp 6) (.tmp 38)) <|
 .nil))
 .ret)
 .skip)))
 (.seq (.ops (.op (some 39) .any [3] (.load none (.tmp 3)) <|
 .op (some 40) .any [39] (.nilck (.tmp 39)) <|
 .op (some 41) .any [40] (.faddr 1 (.tmp 40)) <|
 .op (some 42) .any [41] (.faddr 3 (.tmp 41)) <|
 .op (some 43) .any [42] (.load none (.tmp 42)) <|
 .op (some 44) .any [1] (.mov (.tmp 1)) <|
 .op (some 45) .any [43, 44] (.iaddrS 13 (.tmp 43) (.tmp 44)) <|
 .op (some 46) (.agg [(.int .i64), .any, .bool, .bool, .bool, .bool, (.int .i64), (.int .i64), .any, .any, (.int .i64), .bool, (.int .i64)]) [45] (.load (some 13) (.tmp 45)) <|
 .pal 7 [] 111 [(V.int .i64 (Int.ofNat 0)), V.nils, (V.bool false), (V.bool false), (V.bool false), (V.bool false), (V.int .i64 (Int.ofNat 0)), (V.int .i64 (Int.ofNat 0)), V.nils, V.nils, (V.int .i64 (Int.ofNat 0)), (V.bool false), (V.int .i64 (Int.ofNat 0))] <|
 .op none (.agg [(.int .i64), .any, .bool, .bool, .bool, .bool, (.int .i64), (.int .i64), .any, .any, (.int .i64), .bool, (.int .i64)]) [7, 46] (.store 13 (.tmp 7) (.tmp 46)) <|
 .nil))
 (.seq (.ops (.op (some 47) .any [7] (.faddr 0 (.tmp 7)) <|
 .op (some 48) (.int .i64) [47] (.load none (.tmp 47)) <|
 .op (some 49) (.agg [(.int .i64), (.int .i64), .any, .any, (.int .i64), .any]) [48] (.build [(V.int .i64 (Int.ofNat 0)), (V.int .i64 (Int.ofNat 0)), V.nils, V.nils, (V.int .i64 (Int.ofNat 0)), V.nils] [(0, 1, (.tmp 48))]) <|
 .op (some 8) .any [] (.alloc 39 [(V.int .i64 (Int.ofNat 0)), (V.int .i64 (Int.ofNat 0)), V.nils, V.nils, (V.int .i64 (Int.ofNat 0)), V.nils]) <|
 .op none (.agg [(.int .i64), (.int .i64), .any, .any, (.int .i64), .any]) [8, 49] (.store 6 (.tmp 8) (.tmp 49)) <|
 .nil))
 (.seq (.seq (.ops (.op (some 50) .any [7] (.faddr 0 (.tmp 7)) <|
 .op (some 51) (.int .i64) [50] (.load none (.tmp 50)) <|
 .nil))
 (.block 0 (.seq (.ops (.op (some 53) .any [51] (.bin .eql .none (.tmp 51) (.con (V.int .i64 (Int.ofNat 1)))) <|
 .op (some 52) .any [53] (.mov (.tmp 53)) <|
 .nil))
 (.cond (.tmp 52) (.ops (.op (some 54) .any [3] (.load none (.tmp 3)) <|
 .op (some 55) .any [54] (.nilck (.tmp 54)) <|
 .op (some 56) .any [55] (.faddr 0 (.tmp 55)) <|
 .op (some 57) .any [56] (.load none (.tmp 56)) <|
 .op (some 58) (.int .u64) [57] (.call 45 [(.tmp 57), (.con (V.int .i64 (Int.ofNat 1)))]) <|
 .op (some 59) .any [58] (.conv (.toInt .i64) (.tmp 58)) <|
 .op (some 60) .any [8] (.faddr 1 (.tmp 8)) <|
 .op none .any [60, 59] (.store 1 (.tmp 60) (.tmp 59)) <|
 .nil))
 (.seq (.ops (.op (some 62) .any [51] (.bin .eql .none (.tmp 51) (.con (V.int .i64 (Int.ofNat 2)))) <|
 .op (some 61) .any [62] (.mov (.tmp 62)) <|
 .nil))
 (.cond (.tmp 61) (.ops (.op (some 63) .any [3] (.load none (.tmp 3)) <|
 .op (some 64) .any [7] (.faddr 2 (.tmp 7)) <|
 .op (some 65) (.agg [.bool, .bool, .bool, .bool, (.int .i64), (.int .i64)]) [64] (.load (some 6) (.tmp 64)) <|
 .op (some 66) (.int .i64) [63, 65] (.call 46 [(.tmp 63), (.tmp 65)]) <|
 .op (some 67) .any [8] (.faddr 1 (.tmp 8)) <|
 .op none .any [67, 66] (.store 1 (.tmp 67) (.tmp 66)) <|
 .nil))
 (.seq (.ops (.op (some 69) .any [51] (.bin .eql .none (.tmp 51) (.con (V.int .i64 (Int.ofNat 3)))) <|
 .op (some 68) .any [69] (.mov (.tmp 69)) <|
 .nil))
 (.cond (.tmp 68) (.seq (.ops (.op (some 70) .any [3] (.load none (.tmp 3)) <|
 .op (some 71) .any [1] (.mov (.tmp 1)) <|
 .op (some 72) (.agg [(.int .i64), (.int .i64), .any, .any, (.int .i64), .any]) [70, 71] (.call 47 [(.tmp 70), (.tmp 71)]) <|
 .op none (.agg [(.int .i64), (.int .i64), .any, .any, (.int .i64), .any]) [6, 72] (.store 6 (.tmp 6) (.tmp 72)) <|
 .nil))
 .ret)
 (.seq (.ops (.op (some 74) .any [51] (.bin .eql .none (.tmp 51) (.con (V.int .i64 (Int.ofNat 6)))) <|
 .op (some 73) .any [74] (.mov (.tmp 74)) <|
 .nil))
 (.cond (.tmp 73) (.ops (.op (some 75) .any [3] (.load none (.tmp 3)) <|
 .op (some 76) .any [75] (.nilck (.tmp 75)) <|
 .op (some 77) .any [76] (.faddr 0 (.tmp 76)) <|
 .op (some 78) .any [77] (.load none (.tmp 77)) <|
 .op (some 79) .one [78] (.call 48 [(.tmp 78), (.con (V.int .i64 (Int.ofNat 70000)))]) <|
 .op (some 80) .any [8] (.faddr 2 (.tmp 8)) <|
 .op none .any [80, 79] (.store 1 (.tmp 80) (.tmp 79)) <|
 .nil))
 (.seq (.ops (.op (some 82) .any [51] (.bin .eql .none (.tmp 51) (.con (V.int .i64 (Int.ofNat 5)))) <|
 .op (some 81) .any [82] (.mov (.tmp 82)) <|
 .nil))
 (.cond (.tmp 81) (.ops (.op (some 83) .any [3] (.load none (.tmp 3)) <|
 .op (some 84) .any [7] (.faddr 2 (.tmp 7)) <|
 .op (some 85) (.agg [.bool, .bool, .bool, .bool, (.int .i64), (.int .i64)]) [84] (.load (some 6) (.tmp 84)) <|
 .op (some 86) .any [3, 8] (.mkfn 50 [] [(.tmp 3), (.tmp 8)]) <|
 .op (some 87) .any [3, 8] (.mkfn 52 [] [(.tmp 3), (.tmp 8)]) <|
 .op (some 88) (.tup []) [83, 85, 86, 87] (.call 49 [(.tmp 83), (.tmp 85), (.tmp 86), (.tmp 87)]) <|
 .nil))
 (.seq (.ops (.op (some 90) .any [51] (.bin .eql .none (.tmp 51) (.con (V.int .i64 (Int.ofNat 10)))) <|
 .op (some 89) .any [90] (.mov (.tmp 90)) <|
 .nil))
 (.cond (.tmp 89) (.ops (.op (some 91) .any [3] (.load none (.tmp 3)) <|
 .op (some 92) (.agg [(.int .i64), .any, .bool, .bool, .bool, .bool, (.int .i64), (.int .i64), .any, .any, (.int .i64), .bool, (.int .i64)]) [7] (.load (some 13) (.tmp 7)) <|
 .op (some 93) .any [2] (.mov (.tmp 2)) <|
 .op (some 94) (.tup []) [91, 92, 8, 93] (.call 53 [(.tmp 91), (.tmp 92), (.tmp 8), (.tmp 93)]) <|
 .nil))
 (.seq (.ops (.op (some 96) .any [51] (.bin .eql .none (.tmp 51) (.con (V.int .i64 (Int.ofNat 9)))) <|
 .op (some 95) .any [96] (.mov (.tmp 96)) <|
 .nil))
 (.cond (.tmp 95) (.seq (.ops (.op (some 97) .any [3] (.load none (.tmp 3)) <|
 .op (some 98) .any [1] (.mov (.tmp 1)) <|
 .op (some 99) .any [2] (.mov (.tmp 2)) <|
 .op (some 100) (.agg [(.int .i64), (.int .i64), .any, .any, (.int .i64), .any]) [97, 98, 99] (.call 54 [(.tmp 97), (.tmp 98), (.tmp 99)]) <|
 .op none (.agg [(.int .i64), (.int .i64), .any, .any, (.int .i64), .any]) [6, 100] (.store 6 (.tmp 6) (.tmp 100)) <|
 .nil))
 .ret)
 (.seq (.seq (.ops (.op (some 102) .any [51] (.bin .eql .none (.tmp 51) (.con (V.int .i64 (Int.ofNat 7)))) <|
 .op (some 101) .any [102] (.mov (.tmp 102)) <|
 .nil))
 (.cond (.tmp 101) .skip
 (.ops (.op (some 103) .any [51] (.bin .eql .none (.tmp 51) (.con (V.int .i64 (Int.ofNat 8)))) <|
 .op (some 101) .any [103] (.mov (.tmp 103)) <|
 .nil))))
 (.keep [(1, (.int .i64)), (2, (.int .i64)), (3, .ptr), (6, .ptr), (8, .ptr), (101, .bool)] [] [] cc2))))))))))))))))))
 (.keep [(6, .ptr), (8, .ptr)] [] [] cc1))))))
def C20_1 : XC := (.seq (.ops (.op (some 108) (.agg [(.int .i64), (.int .i64), .any, .any, (.int .i64), .any]) [8] (.load (some 6) (.tmp 8)) <|
 .op none (.agg [(.int .i64), (.int .i64), .any, .any, (.int .i64), .any]) [6, 108] (.store 6 (.tmp 6) (.tmp 108)) <|
 .nil))
 .ret)
def C20_2 : XC := (.cond (.tmp 101) (.seq (.ops (.op (some 104) .any [3] (.load none (.tmp 3)) <|
 .op (some 105) .any [1] (.mov (.tmp 1)) <|
 .op (some 106) .any [2] (.mov (.tmp 2)) <|
 .op (some 107) (.agg [(.int .i64), (.int .i64), .any, .any, (.int .i64), .any]) [104, 105, 106] (.call 55 [(.tmp 104), (.tmp 105), (.tmp 106)]) <|
 .op none (.agg [(.int .i64), (.int .i64), .any, .any, (.int .i64), .any]) [6, 107] (.store 6 (.tmp 6) (.tmp 107)) <|
 .nil))
 .ret)
 .skip)
def A20 : XFn := ⟨109, [.any, (.int .i64), (.int .i64)], [(.cell 6 (some 6))], (C20_0 C20_1 C20_2)⟩
def C21_0 : XC := (.seq (.ops (.op (some 2) .any [] (.mov (.con (V.int .i64 (Int.ofNat 0)))) <|
 .nil))
 (.seq (.seq (.ops (.op (some 4) .any [0] (.mov (.tmp 0)) <|
 .op (some 5) (.int .i64) [4] (.call 56 [(.tmp 4)]) <|
 .op (some 3) .any [5] (.mov (.tmp 5)) <|
 .nil))
 (.block 0 (.seq (.ops (.op (some 7) .any [3] (.mov (.tmp 3)) <|
 .op (some 8) .any [7] (.bin .neq .none (.tmp 7) (.con (V.int .i64 (Int.ofNat 0)))) <|
 .op (some 6) .any [8] (.mov (.tmp 8)) <|
 .nil))
 (.cond (.tmp 6) (.seq (.ops (.op (some 9) .any [3] (.mov (.tmp 3)) <|
 .op (some 2) .any [9] (.mov (.tmp 9)) <|
 .nil))
 .ret)
 (.seq (.ops (.op (some 11) .any [0] (.mov (.tmp 0)) <|
 .op (some 12) .any [11] (.nilck (.tmp 11)) <|
 .op (some 13) .any [12] (.faddr 2 (.tmp 12)) <|
 .op (some 14) .bool [13] (.load none (.tmp 13)) <|
 .op (some 15) .any [14] (.mov (.tmp 14)) <|
 .grp 15 true (.op (some 16) .any [0, 15] (.mov (.tmp 0)) <|
 .op (some 17) (.int .i64) [16, 15] (.call 57 [(.tmp 16)]) <|
 .op (some 18) .any [17, 15] (.bin .eql .none (.tmp 17) (.con (V.int .i64 (Int.ofNat 8)))) <|
 .nil) 19 [15, 18] (.tmp 15) (.tmp 18) (.con (V.bool false)) <|
 .op (some 10) .any [19] (.mov (.tmp 19)) <|
 .nil))
 (.cond (.tmp 10) (.seq (.ops (.op (some 2) .any [] (.mov (.con (V.int .i64 (Int.ofNat 0)))) <|
 .nil))
 .ret)
 .skip))))))
 (.seq (.ops (.op (some 20) .any [0] (.mov (.tmp 0)) <|
 .op (some 21) .any [20] (.nilck (.tmp 20)) <|
 .op (some 22) .any [21] (.faddr 0 (.tmp 21)) <|
 .op (some 23) .any [22] (.load none (.tmp 22)) <|
 .op (some 24) (.int .i64) [23] (.call 58 [(.tmp 23)]) <|
 .op (some 2) .any [24] (.mov (.tmp 24)) <|
 .nil))
 .ret)))
def A21 : XFn := ⟨25, [.ptr], [(.tmp 2)], C21_0⟩
def C22_0 : XC := (.seq (.ops (.op (some 3) .any [0] (.box 26 (.tmp 0)) <|
 .op (some 5) .any [2] (.box 39 (.tmp 2)) <|
 .op (some 6) .any [] (.mov (.con (V.bool false))) <|
 .nil))
 (.seq (.ops (.op (some 8) (.agg [.str, .any, .any, .any]) [3] (.load (some 4) (.tmp 3)) <|
 .op (some 9) (.agg [.str, .any, .any, .any]) [8] (.build [(V.str ⟨0, 0⟩), V.nils, V.nils, V.nils] [(0, 4, (.tmp 8))]) <|
 .op (some 10) (.agg [.str, .any, .any, .any, .bool]) [9] (.build [(V.str ⟨0, 0⟩), V.nils, V.nils, V.nils, (V.bool false)] [(0, 4, (.tmp 9))]) <|
 .op (some 11) .any [10] (.box 132 (.tmp 10)) <|
 .op (some 7) .any [11] (.mov (.tmp 11)) <|
 .nil))
 (.seq (.ops (.op (some 12) .any [7] (.mov (.tmp 7)) <|
 .op (some 13) .any [1] (.mov (.tmp 1)) <|
 .op (some 14) (.agg [(.int .i64), (.int .i64), .any, .any, (.int .i64), .any]) [5] (.load (some 6) (.tmp 5)) <|
 .op (some 15) .bool [12, 13, 14] (.call 59 [(.tmp 12), (.tmp 13), (.tmp 14), (.con (V.int .i64 (Int.ofNat 1)))]) <|
 .op (some 16) .any [15] (.mov (.tmp 15)) <|
 .grp 16 true (.op (some 17) (.agg [(.int .i64), (.int .i64), .any, .any, (.int .i64), .any]) [5, 16] (.load (some 6) (.tmp 5)) <|
 .op (some 18) (.int .i64) [17, 16] (.call 60 [(.tmp 17)]) <|
 .op (some 19) .any [18, 16] (.bin .leq .none (.tmp 18) (.con (V.int .i64 (Int.ofNat 5000)))) <|
 .nil) 20 [16, 19] (.tmp 16) (.tmp 19) (.con (V.bool false)) <|
 .op (some 6) .any [20] (.mov (.tmp 20)) <|
 .nil))
 .ret)))
def A22 : XFn := ⟨21, [(.agg [.str, .any, .any, .any]), (.int .i64), (.agg [(.int .i64), (.int .i64), .any, .any, (.int .i64), .any])], [(.tmp 6)], C22_0⟩
def C23_0 : XC := (.seq (.ops (.op (some 3) .any [0] (.box 26 (.tmp 0)) <|
 .op (some 5) .any [2] (.box 39 (.tmp 2)) <|
 .op (some 6) .any [] (.mov (.con V.nils)) <|
 .op (some 7) .any [] (.mov (.con (V.int .i64 (Int.ofNat 0)))) <|
 .nil))
 (.seq (.block 0 (.seq (.ops (.op (some 11) (.agg [.str, .any, .any, .any]) [3] (.load (some 4) (.tmp 3)) <|
 .op (some 12) .any [1] (.mov (.tmp 1)) <|
 .op (some 13) (.agg [(.int .i64), (.int .i64), .any, .any, (.int .i64), .any]) [5] (.load (some 6) (.tmp 5)) <|
 .op (some 14) .bool [11, 12, 13] (.call 22 [(.tmp 11), (.tmp 12), (.tmp 13)]) <|
 .op (some 15) .any [14] (.un .not (.tmp 14)) <|
 .op (some 16) .any [15] (.mov (.tmp 15)) <|
 .grp 16 false (.op (some 17) (.agg [.str, .any, .any, .any]) [3, 16] (.load (some 4) (.tmp 3)) <|
 .op (some 18) .bool [17, 16] (.call 38 [(.tmp 17)]) <|
 .op (some 19) .any [18, 16] (.un .not (.tmp 18)) <|
 .nil) 20 [16, 19] (.tmp 16) (.con (V.bool true)) (.tmp 19) <|
 .op (some 10) .any [20] (.mov (.tmp 20)) <|
 .nil))
 (.cond (.tmp 10) (.seq (.ops (.op (some 6) .any [] (.mov (.con V.nils)) <|
 .op (some 7) .any [] (.mov (.con (V.int .i64 (Int.ofNat 13)))) <|
 .nil))
 .ret)
 (.seq (.ops (.op (some 22) (.agg [(.int .i64), (.int .i64), .any, .any, (.int .i64), .any]) [5] (.load (some 6) (.tmp 5)) <|
 .op (some 23) .bool [22] (.call 61 [(.tmp 22), (.con (V.int .i64 (Int.ofNat 2)))]) <|
 .op (some 24) .any [23] (.un .not (.tmp 23)) <|
 .op (some 21) .any [24] (.mov (.tmp 24)) <|
 .nil))
 (.cond (.tmp 21) (.seq (.ops (.op (some 6) .any [] (.mov (.con V.nils)) <|
 .op (some 7) .any [] (.mov (.con (V.int .i64 (Int.ofNat 16)))) <|
 .nil))
 .ret)
 .skip)))))
 (.seq (.ops (.op (some 25) (.agg [.any, (.int .i64)]) [] (.build [V.nils, (V.int .i64 (Int.ofNat 0))] []) <|
 .op (some 26) .any [25] (.box 141 (.tmp 25)) <|
 .op (some 27) (.agg [.str, .any, .any, .any]) [3] (.load (some 4) (.tmp 3)) <|
 .op (some 28) (.agg [.any, .str, .any, .any, .any]) [26, 27] (.build [V.nilp, (V.str ⟨0, 0⟩), V.nils, V.nils, V.nils] [(0, 1, (.tmp 26)), (1, 4, (.tmp 27))]) <|
 .op (some 29) .any [28] (.box 143 (.tmp 28)) <|
 .op (some 8) .any [29] (.mov (.tmp 29)) <|
 .nil))
 (.seq (.ops (.op (some 30) .any [8] (.mov (.tmp 8)) <|
 .op (some 31) .any [1] (.mov (.tmp 1)) <|
 .op (some 32) (.agg [(.int .i64), (.int .i64), .any, .any, (.int .i64), .any]) [5] (.load (some 6) (.tmp 5)) <|
 .op (some 33) (.tup []) [30, 31, 32] (.call 62 [(.tmp 30), (.tmp 31), (.tmp 32)]) <|
 .nil))
 (.seq (.ops (.op (some 34) .any [8] (.mov (.tmp 8)) <|
 .op (some 35) .any [34] (.nilck (.tmp 34)) <|
 .op (some 36) .any [35] (.faddr 0 (.tmp 35)) <|
 .op (some 37) .any [36] (.load none (.tmp 36)) <|
 .op (some 38) .one [37] (.call 63 [(.tmp 37)]) <|
 .op (some 9) .any [38] (.mov (.tmp 38)) <|
 .nil))
 (.seq (.seq (.ops (.op (some 39) .any [9] (.mov (.tmp 9)) <|
 .op (some 40) .any [39] (.len false (.tmp 39)) <|
 .op (some 41) .any [40] (.bin .gtr .none (.tmp 40) (.con (V.int .i64 (Int.ofNat 70000)))) <|
 .nil))
 (.cond (.tmp 41) (.seq (.ops (.op (some 6) .any [] (.mov (.con V.nils)) <|
 .op (some 7) .any [] (.mov (.con (V.int .i64 (Int.ofNat 5)))) <|
 .nil))
 .ret)
 .skip))
 (.seq (.ops (.op (some 42) .any [9] (.mov (.tmp 9)) <|
 .op (some 6) .any [42] (.mov (.tmp 42)) <|
 .op (some 7) .any [] (.mov (.con (V.int .i64 (Int.ofNat 0)))) <|
 .nil))
 .ret)))))))
def A23 : XFn := ⟨43, [(.agg [.str, .any, .any, .any]), (.int .i64), (.agg [(.int .i64), (.int .i64), .any, .any, (.int .i64), .any])], [(.tmp 6), (.tmp 7)], C23_0⟩
def C24_0 : XC := (.seq (.ops (.op (some 4) .any [] (.mov (.con (V.bool false))) <|
 .nil))
 (.seq (.ops (.op (some 5) .any [0] (.mov (.tmp 0)) <|
 .op (some 6) .any [5] (.conv .toStr (.tmp 5)) <|
 .op (some 7) .any [1] (.mov (.tmp 1)) <|
 .op (some 8) .any [7] (.conv .toStr (.tmp 7)) <|
 .op (some 9) .any [6, 8] (.bin .eql .none (.tmp 6) (.tmp 8)) <|
 .op (some 4) .any [9] (.mov (.tmp 9)) <|
 .nil))
 .ret))
def A24 : XFn := ⟨10, [.any, .any], [(.tmp 4)], C24_0⟩
def C25_0 (cc1 : XC) (cc2 : XC) : XC := (.seq (.ops (.op (some 6) .any [] (.mov (.con (V.bool false))) <|
 .nil))
 (.seq (.seq (.ops (.op (some 8) .any [0] (.mov (.tmp 0)) <|
 .op (some 9) .any [8] (.len false (.tmp 8)) <|
 .op (some 10) .any [1] (.mov (.tmp 1)) <|
 .op (some 11) .any [10] (.len false (.tmp 10)) <|
 .op (some 12) .any [9, 11] (.bin .neq .none (.tmp 9) (.tmp 11)) <|
 .nil))
 (.cond (.tmp 12) (.seq (.ops (.op (some 6) .any [] (.mov (.con (V.bool false))) <|
 .nil))
 .ret)
 .skip))
 (.seq (.seq (.ops (.op (some 7) .any [] (.mov (.con (V.int .i64 (Int.ofNat 0)))) <|
 .nil))
 (.block 0 (.loop [(0, .any), (1, .any), (2, .any), (7, (.int .i64))] [] [] cc2)))
 (.keep [] [] [] cc1))))
def C25_1 : XC := (.seq (.ops (.op (some 6) .any [] (.mov (.con (V.bool true))) <|
 .nil))
 .ret)
def C25_2 : XC := (.seq (.seq (.ops (.op (some 13) .any [7] (.mov (.tmp 7)) <|
 .op (some 14) .any [0] (.mov (.tmp 0)) <|
 .op (some 15) .any [14] (.len false (.tmp 14)) <|
 .op (some 16) .any [13, 15] (.bin .lss .none (.tmp 13) (.tmp 15)) <|
 .nil))
 (.cond (.tmp 16) .skip
 (.exit 0)))
 (.seq (.block 1 (.seq (.draw (.op (some 19) .any [2] (.mov (.tmp 2)) <|
 .op (some 20) .any [0] (.mov (.tmp 0)) <|
 .op (some 21) .any [7] (.mov (.tmp 7)) <|
 .op (some 22) .any [20, 21] (.iaddrS 6 (.tmp 20) (.tmp 21)) <|
 .op (some 23) (.agg [(.int .i64), (.int .i64), .any, .any, (.int .i64), .any]) [22] (.load (some 6) (.tmp 22)) <|
 .op (some 24) .any [1] (.mov (.tmp 1)) <|
 .op (some 25) .any [7] (.mov (.tmp 7)) <|
 .op (some 26) .any [24, 25] (.iaddrS 6 (.tmp 24) (.tmp 25)) <|
 .op (some 27) (.agg [(.int .i64), (.int .i64), .any, .any, (.int .i64), .any]) [26] (.load (some 6) (.tmp 26)) <|
 .op (some 28) .bool [19, 23, 27] (.callv (.tmp 19) [(.tmp 23), (.tmp 27)]) <|
 .op (some 29) .any [28] (.un .not (.tmp 28)) <|
 .nil) [0, 0, 0, 6, 14, 0, 0, 96, 224, 511, 1023])
 (.cond (.tmp 29) (.seq (.ops (.op (some 6) .any [] (.mov (.con (V.bool false))) <|
 .nil))
 .ret)
 .skip)))
 (.ops (.op (some 17) .any [7] (.mov (.tmp 7)) <|
 .op (some 18) .any [17] (.bin .add .none (.tmp 17) (.con (V.int .i64 (Int.ofNat 1)))) <|
 .op (some 7) .any [18] (.mov (.tmp 18)) <|
 .nil))))
def A25 : XFn := ⟨30, [.any, .any, .any], [(.tmp 6)], (C25_0 C25_1 C25_2)⟩
def C26_0 (cc1 : XC) (cc2 : XC) : XC := (.seq (.ops (.op (some 6) .any [] (.mov (.con (V.bool false))) <|
 .nil))
 (.seq (.seq (.ops (.op (some 8) .any [0] (.mov (.tmp 0)) <|
 .op (some 9) .any [8] (.len false (.tmp 8)) <|
 .op (some 10) .any [1] (.mov (.tmp 1)) <|
 .op (some 11) .any [10] (.len false (.tmp 10)) <|
 .op (some 12) .any [9, 11] (.bin .neq .none (.tmp 9) (.tmp 11)) <|
 .nil))
 (.cond (.tmp 12) (.seq (.ops (.op (some 6) .any [] (.mov (.con (V.bool false))) <|
 .nil))
 .ret)
 .skip))
 (.seq (.seq (.ops (.op (some 7) .any [] (.mov (.con (V.int .i64 (Int.ofNat 0)))) <|
 .nil))
 (.block 0 (.loop [(0, .any), (1, .any), (2, .any), (7, (.int .i64))] [] [] cc2)))
 (.keep [] [] [] cc1))))
def C26_1 : XC := (.seq (.ops (.op (some 6) .any [] (.mov (.con (V.bool true))) <|
 .nil))
 .ret)
def C26_2 : XC := (.seq (.seq (.ops (.op (some 13) .any [7] (.mov (.tmp 7)) <|
 .op (some 14) .any [0] (.mov (.tmp 0)) <|
 .op (some 15) .any [14] (.len false (.tmp 14)) <|
 .op (some 16) .any [13, 15] (.bin .lss .none (.tmp 13) (.tmp 15)) <|
 .nil))
 (.cond (.tmp 16) .skip
 (.exit 0)))
 (.seq (.block 1 (.seq (.draw (.op (some 19) .any [2] (.mov (.tmp 2)) <|
 .op (some 20) .any [0] (.mov (.tmp 0)) <|
 .op (some 21) .any [7] (.mov (.tmp 7)) <|
 .op (some 22) .any [20, 21] (.iaddrS 2 (.tmp 20) (.tmp 21)) <|
 .op (some 23) (.agg [(.int .i64), .any]) [22] (.load (some 2) (.tmp 22)) <|
 .op (some 24) .any [1] (.mov (.tmp 1)) <|
 .op (some 25) .any [7] (.mov (.tmp 7)) <|
 .op (some 26) .any [24, 25] (.iaddrS 2 (.tmp 24) (.tmp 25)) <|
 .op (some 27) (.agg [(.int .i64), .any]) [26] (.load (some 2) (.tmp 26)) <|
 .op (some 28) .bool [19, 23, 27] (.callv (.tmp 19) [(.tmp 23), (.tmp 27)]) <|
 .op (some 29) .any [28] (.un .not (.tmp 28)) <|
 .nil) [0, 0, 0, 6, 14, 0, 0, 96, 224, 511, 1023])
 (.cond (.tmp 29) (.seq (.ops (.op (some 6) .any [] (.mov (.con (V.bool false))) <|
 .nil))
 .ret)
 .skip)))
 (.ops (.op (some 17) .any [7] (.mov (.tmp 7)) <|
 .op (some 18) .any [17] (.bin .add .none (.tmp 17) (.con (V.int .i64 (Int.ofNat 1)))) <|
 .op (some 7) .any [18] (.mov (.tmp 18)) <|
 .nil))))
def A26 : XFn := ⟨30, [.any, .any, .any], [(.tmp 6)], (C26_0 C26_1 C26_2)⟩
def C28_0 (cc1 : XC) : XC := (.seq (.ops (.op (some 2) .any [] (.mov (.con V.nils)) <|
 .op (some 3) .any [] (.mov (.con (V.int .i64 (Int.ofNat 0)))) <|
 .op (some 4) .any [] (.mov (.con (V.int .i64 (Int.ofNat 0)))) <|
 .nil))
 (.seq (.seq (.ops (.op (some 9) .any [0] (.mov (.tmp 0)) <|
 .op (some 10) .any [9] (.len true (.tmp 9)) <|
 .op (some 11) .any [10] (.bin .gtr .none (.tmp 10) (.con (V.int .i64 (Int.ofNat 8000)))) <|
 .nil))
 (.cond (.tmp 11) (.seq (.ops (.op (some 2) .any [] (.mov (.con V.nils)) <|
 .op (some 3) .any [] (.mov (.con (V.int .i64 (Int.ofNat 0)))) <|
 .op (some 4) .any [] (.mov (.con (V.int .i64 (Int.ofNat 5)))) <|
 .nil))
 .ret)
 .skip))
 (.seq (.ops (.op (some 5) .any [] (.mov (.con V.nils)) <|
 .nil))
 (.seq (.ops (.op (some 6) .any [] (.mov (.con (V.int .i64 (Int.ofNat 0)))) <|
 .nil))
 (.block 0 (.loop [(0, .str), (5, .any), (6, (.int .i64))] [] [] cc1))))))
def C28_1 : XC := (.block 1 (.seq (.ops (.op (some 12) .any [0] (.mov (.tmp 0)) <|
 .op (some 13) .any [6] (.mov (.tmp 6)) <|
 .op (some 14) (.int .i64) [12, 13] (.call 64 [(.tmp 12), (.tmp 13)]) <|
 .op (some 6) .any [14] (.mov (.tmp 14)) <|
 .nil))
 (.seq (.seq (.ops (.op (some 15) .any [6] (.mov (.tmp 6)) <|
 .op (some 16) .any [0] (.mov (.tmp 0)) <|
 .op (some 17) .any [16] (.len true (.tmp 16)) <|
 .op (some 18) .any [15, 17] (.bin .geq .none (.tmp 15) (.tmp 17)) <|
 .nil))
 (.cond (.tmp 18) (.seq (.ops (.op (some 19) .any [5] (.mov (.tmp 5)) <|
 .op (some 20) .any [0] (.mov (.tmp 0)) <|
 .op (some 21) .any [20] (.len true (.tmp 20)) <|
 .op (some 22) (.agg [(.int .i64), .str, (.int .i64)]) [21] (.build [(V.int .i64 (Int.ofNat 0)), (V.str ⟨0, 0⟩), (V.int .i64 (Int.ofNat 0))] [(2, 1, (.tmp 21))]) <|
 .op (some 23) .any [22] (.buildSlice 92 1 [(V.int .i64 (Int.ofNat 0)), (V.str ⟨0, 0⟩), (V.int .i64 (Int.ofNat 0))] [(0, 3, (.tmp 22))]) <|
 .op (some 24) .one [19, 23] (.append 92 3 32 (.tmp 19) (.tmp 23)) <|
 .op (some 2) .any [24] (.mov (.tmp 24)) <|
 .op (some 3) .any [] (.mov (.con (V.int .i64 (Int.ofNat 0)))) <|
 .op (some 4) .any [] (.mov (.con (V.int .i64 (Int.ofNat 0)))) <|
 .nil))
 .ret)
 .skip))
 (.seq (.ops (.op (some 26) .any [0] (.mov (.tmp 0)) <|
 .op (some 27) .any [6] (.mov (.tmp 6)) <|
 .op (some 28) (.tup [(.agg [(.int .i64), .str, (.int .i64)]), (.int .i64)]) [26, 27] (.call 65 [(.tmp 26), (.tmp 27)]) <|
 .op (some 25) .any [28] (.mov (.tmp 28)) <|
 .op (some 29) .any [25] (.extract 0 (.tmp 25)) <|
 .op (some 30) .any [25] (.extract 1 (.tmp 25)) <|
 .pal 7 [] 92 [(V.int .i64 (Int.ofNat 0)), (V.str ⟨0, 0⟩), (V.int .i64 (Int.ofNat 0))] <|
 .op none (.agg [(.int .i64), .str, (.int .i64)]) [7, 29] (.store 3 (.tmp 7) (.tmp 29)) <|
 .op (some 8) .any [30] (.mov (.tmp 30)) <|
 .nil))
 (.seq (.seq (.ops (.op (some 31) .any [8] (.mov (.tmp 8)) <|
 .op (some 32) .any [31] (.bin .lss .none (.tmp 31) (.con (V.int .i64 (Int.ofNat 0)))) <|
 .nil))
 (.cond (.tmp 32) (.seq (.ops (.op (some 33) .any [6] (.mov (.tmp 6)) <|
 .op (some 2) .any [] (.mov (.con V.nils)) <|
 .op (some 3) .any [33] (.mov (.tmp 33)) <|
 .op (some 4) .any [] (.mov (.con (V.int .i64 (Int.ofNat 6)))) <|
 .nil))
 .ret)
 .skip))
 (.seq (.ops (.op (some 34) .any [5] (.mov (.tmp 5)) <|
 .op (some 35) (.agg [(.int .i64), .str, (.int .i64)]) [7] (.load (some 3) (.tmp 7)) <|
 .op (some 36) .any [35] (.buildSlice 92 1 [(V.int .i64 (Int.ofNat 0)), (V.str ⟨0, 0⟩), (V.int .i64 (Int.ofNat 0))] [(0, 3, (.tmp 35))]) <|
 .op (some 37) .one [34, 36] (.append 92 3 32 (.tmp 34) (.tmp 36)) <|
 .op (some 5) .any [37] (.mov (.tmp 37)) <|
 .nil))
 (.ops (.op (some 38) .any [8] (.mov (.tmp 8)) <|
 .op (some 6) .any [38] (.mov (.tmp 38)) <|
 .nil))))))))
def A28 : XFn := ⟨39, [.str], [(.tmp 2), (.tmp 3), (.tmp 4)], (C28_0 C28_1)⟩
def C29_0 : XC := (.seq (.ops (.op (some 4) .any [] (.mov (.con (V.str ⟨0, 0⟩))) <|
 .nil))
 (.seq (.ops (.op (some 6) .any [0] (.mov (.tmp 0)) <|
 .op (some 7) (.agg [(.int .i64), .str, (.int .i64)]) [6] (.call 32 [(.tmp 6)]) <|
 .pal 5 [] 92 [(V.int .i64 (Int.ofNat 0)), (V.str ⟨0, 0⟩), (V.int .i64 (Int.ofNat 0))] <|
 .op none (.agg [(.int .i64), .str, (.int .i64)]) [5, 7] (.store 3 (.tmp 5) (.tmp 7)) <|
 .nil))
 (.seq (.seq (.ops (.op (some 8) .any [0] (.mov (.tmp 0)) <|
 .op (some 9) .any [8] (.nilck (.tmp 8)) <|
 .op (some 10) .any [9] (.faddr 7 (.tmp 9)) <|
 .op (some 11) (.int .i64) [10] (.load none (.tmp 10)) <|
 .op (some 12) .any [11] (.bin .neq .none (.tmp 11) (.con (V.int .i64 (Int.ofNat 0)))) <|
 .op (some 13) .any [12] (.mov (.tmp 12)) <|
 .grp 13 false (.op (some 14) .any [5, 13] (.faddr 0 (.tmp 5)) <|
 .op (some 15) (.int .i64) [14, 13] (.load none (.tmp 14)) <|
 .op (some 16) .any [1, 13] (.mov (.tmp 1)) <|
 .op (some 17) .any [15, 16, 13] (.bin .neq .none (.tmp 15) (.tmp 16)) <|
 .nil) 18 [13, 17] (.tmp 13) (.con (V.bool true)) (.tmp 17) <|
 .nil))
 (.cond (.tmp 18) (.seq (.ops (.op (some 19) .any [0] (.mov (.tmp 0)) <|
 .op (some 20) (.agg [(.int .i64), .str, (.int .i64)]) [5] (.load (some 3) (.tmp 5)) <|
 .op (some 21) (.tup []) [19, 20] (.call 33 [(.tmp 19), (.con (V.int .i64 (Int.ofNat 7))), (.tmp 20)]) <|
 .nil))
 (.seq (.ops (.op (some 4) .any [] (.mov (.con (V.str ⟨0, 0⟩))) <|
 .nil))
 .ret))
 .skip))
 (.seq (.ops (.op (some 22) .any [0] (.mov (.tmp 0)) <|
 .op (some 23) (.agg [(.int .i64), .str, (.int .i64)]) [22] (.call 66 [(.tmp 22)]) <|
 .op (some 24) .str [23] (.field 1 none (.tmp 23)) <|
 .op (some 4) .any [24] (.mov (.tmp 24)) <|
 .nil))
 .ret))))
def A29 : XFn := ⟨25, [.ptr, (.int .i64)], [(.tmp 4)], C29_0⟩
def C30_0 : XC := (.seq (.ops (.op (some 4) .any [0] (.mov (.tmp 0)) <|
 .op (some 5) .any [4] (.nilck (.tmp 4)) <|
 .op (some 6) .any [5] (.faddr 7 (.tmp 5)) <|
 .op (some 7) (.int .i64) [6] (.load none (.tmp 6)) <|
 .op (some 8) .any [7] (.bin .eql .none (.tmp 7) (.con (V.int .i64 (Int.ofNat 0)))) <|
 .op (some 9) .any [8] (.mov (.tmp 8)) <|
 .grp 9 true (.op (some 10) .any [0, 9] (.mov (.tmp 0)) <|
 .op (some 11) .any [1, 9] (.mov (.tmp 1)) <|
 .op (some 12) .bool [10, 11, 9] (.call 31 [(.tmp 10), (.tmp 11)]) <|
 .op (some 13) .any [12, 9] (.un .not (.tmp 12)) <|
 .nil) 14 [9, 13] (.tmp 9) (.tmp 13) (.con (V.bool false)) <|
 .nil))
 (.cond (.tmp 14) (.ops (.op (some 15) .any [0] (.mov (.tmp 0)) <|
 .op (some 16) .any [0] (.mov (.tmp 0)) <|
 .op (some 17) (.agg [(.int .i64), .str, (.int .i64)]) [16] (.call 32 [(.tmp 16)]) <|
 .op (some 18) (.tup []) [15, 17] (.call 33 [(.tmp 15), (.con (V.int .i64 (Int.ofNat 7))), (.tmp 17)]) <|
 .nil))
 .skip))
def A30 : XFn := ⟨19, [.ptr, .str], [], C30_0⟩
def C31_0 : XC := (.seq (.ops (.op (some 4) .any [] (.mov (.con (V.bool false))) <|
 .nil))
 (.seq (.ops (.op (some 6) .any [0] (.mov (.tmp 0)) <|
 .op (some 7) (.agg [(.int .i64), .str, (.int .i64)]) [6] (.call 32 [(.tmp 6)]) <|
 .pal 5 [] 92 [(V.int .i64 (Int.ofNat 0)), (V.str ⟨0, 0⟩), (V.int .i64 (Int.ofNat 0))] <|
 .op none (.agg [(.int .i64), .str, (.int .i64)]) [5, 7] (.store 3 (.tmp 5) (.tmp 7)) <|
 .nil))
 (.seq (.seq (.ops (.op (some 8) .any [0] (.mov (.tmp 0)) <|
 .op (some 9) .any [8] (.nilck (.tmp 8)) <|
 .op (some 10) .any [9] (.faddr 7 (.tmp 9)) <|
 .op (some 11) (.int .i64) [10] (.load none (.tmp 10)) <|
 .op (some 12) .any [11] (.bin .eql .none (.tmp 11) (.con (V.int .i64 (Int.ofNat 0)))) <|
 .op (some 13) .any [12] (.mov (.tmp 12)) <|
 .grp 13 true (.op (some 14) .any [5, 13] (.faddr 0 (.tmp 5)) <|
 .op (some 15) (.int .i64) [14, 13] (.load none (.tmp 14)) <|
 .op (some 16) .any [15, 13] (.bin .eql .none (.tmp 15) (.con (V.int .i64 (Int.ofNat 5)))) <|
 .op (some 17) .any [16, 13] (.mov (.tmp 16)) <|
 .grp 17 false (.op (some 18) .any [5, 17] (.faddr 0 (.tmp 5)) <|
 .op (some 19) (.int .i64) [18, 17] (.load none (.tmp 18)) <|
 .op (some 20) .any [19, 17] (.bin .eql .none (.tmp 19) (.con (V.int .i64 (Int.ofNat 6)))) <|
 .nil) 21 [17, 20, 13] (.tmp 17) (.con (V.bool true)) (.tmp 20) <|
 .nil) 22 [13, 21] (.tmp 13) (.tmp 21) (.con (V.bool false)) <|
 .op (some 23) .any [22] (.mov (.tmp 22)) <|
 .grp 23 true (.op (some 24) .any [5, 23] (.faddr 1 (.tmp 5)) <|
 .op (some 25) .str [24, 23] (.load none (.tmp 24)) <|
 .op (some 26) .any [1, 23] (.mov (.tmp 1)) <|
 .op (some 27) .any [25, 26, 23] (.bin .eql .none (.tmp 25) (.tmp 26)) <|
 .nil) 28 [23, 27] (.tmp 23) (.tmp 27) (.con (V.bool false)) <|
 .nil))
 (.cond (.tmp 28) (.seq (.ops (.op (some 29) .any [0] (.mov (.tmp 0)) <|
 .op (some 30) (.agg [(.int .i64), .str, (.int .i64)]) [29] (.call 66 [(.tmp 29)]) <|
 .nil))
 (.seq (.ops (.op (some 4) .any [] (.mov (.con (V.bool true))) <|
 .nil))
 .ret))
 .skip))
 (.seq (.ops (.op (some 4) .any [] (.mov (.con (V.bool false))) <|
 .nil))
 .ret))))
def A31 : XFn := ⟨31, [.ptr, .str], [(.tmp 4)], C31_0⟩
def C32_0 : XC := (.seq (.ops (.pal 2 [] 92 [(V.int .i64 (Int.ofNat 0)), (V.str ⟨0, 0⟩), (V.int .i64 (Int.ofNat 0))] <|
 .nil))
 (.seq (.draw (.op (some 3) .any [0] (.mov (.tmp 0)) <|
 .op (some 4) .any [3] (.nilck (.tmp 3)) <|
 .op (some 5) .any [4] (.faddr 0 (.tmp 4)) <|
 .op (some 6) .any [5] (.load none (.tmp 5)) <|
 .op (some 7) .any [0] (.mov (.tmp 0)) <|
 .op (some 8) .any [7] (.nilck (.tmp 7)) <|
 .op (some 9) .any [8] (.faddr 1 (.tmp 8)) <|
 .op (some 10) (.int .i64) [9] (.load none (.tmp 9)) <|
 .op (some 11) .any [6, 10] (.iaddrS 3 (.tmp 6) (.tmp 10)) <|
 .op (some 12) (.agg [(.int .i64), .str, (.int .i64)]) [11] (.load (some 3) (.tmp 11)) <|
 .op none (.agg [(.int .i64), .str, (.int .i64)]) [2, 12] (.store 3 (.tmp 2) (.tmp 12)) <|
 .nil) [0, 1, 3, 7, 0, 16, 48, 112, 255, 511, 1023])
 .ret))
def A32 : XFn := ⟨13, [.ptr], [(.cell 2 (some 3))], C32_0⟩
def C34_0 (cc1 : XC) (cc2 : XC) : XC := (.seq (.ops (.op (some 4) .any [] (.mov (.con (V.int .i64 (Int.ofNat 0)))) <|
 .nil))
 (.seq (.seq (.ops (.op (some 9) .any [0] (.mov (.tmp 0)) <|
 .op (some 10) .any [9] (.nilck (.tmp 9)) <|
 .op (some 11) .any [10] (.faddr 7 (.tmp 10)) <|
 .op (some 12) (.int .i64) [11] (.load none (.tmp 11)) <|
 .op (some 13) .any [12] (.bin .neq .none (.tmp 12) (.con (V.int .i64 (Int.ofNat 0)))) <|
 .nil))
 (.cond (.tmp 13) (.seq (.ops (.op (some 4) .any [] (.mov (.con (V.int .i64 (Int.ofNat 0)))) <|
 .nil))
 .ret)
 .skip))
 (.seq (.seq (.ops (.op (some 14) .any [0] (.mov (.tmp 0)) <|
 .op (some 15) (.agg [(.int .i64), .str, (.int .i64)]) [14] (.call 32 [(.tmp 14)]) <|
 .op (some 16) .bool [15] (.call 67 [(.tmp 15)]) <|
 .op (some 17) .any [16] (.un .not (.tmp 16)) <|
 .nil))
 (.cond (.tmp 17) (.seq (.ops (.op (some 18) .any [0] (.mov (.tmp 0)) <|
 .op (some 19) .any [0] (.mov (.tmp 0)) <|
 .op (some 20) (.agg [(.int .i64), .str, (.int .i64)]) [19] (.call 32 [(.tmp 19)]) <|
 .op (some 21) (.tup []) [18, 20] (.call 33 [(.tmp 18), (.con (V.int .i64 (Int.ofNat 7))), (.tmp 20)]) <|
 .nil))
 (.seq (.ops (.op (some 4) .any [] (.mov (.con (V.int .i64 (Int.ofNat 0)))) <|
 .nil))
 .ret))
 .skip))
 (.seq (.seq (.ops (.op (some 22) .any [1] (.mov (.tmp 1)) <|
 .op (some 23) .any [22] (.bin .gtr .none (.tmp 22) (.con (V.int .i64 (Int.ofNat 16)))) <|
 .op (some 24) .any [23] (.mov (.tmp 23)) <|
 .grp 24 false (.op (some 25) .any [0, 24] (.mov (.tmp 0)) <|
 .op (some 26) .any [25, 24] (.nilck (.tmp 25)) <|
 .op (some 27) .any [26, 24] (.faddr 2 (.tmp 26)) <|
 .op (some 28) .any [27, 24] (.faddr 4 (.tmp 27)) <|
 .op (some 29) .any [28, 24] (.load none (.tmp 28)) <|
 .op (some 30) .any [29, 24] (.len false (.tmp 29)) <|
 .op (some 31) .any [30, 24] (.bin .geq .none (.tmp 30) (.con (V.int .i64 (Int.ofNat 300)))) <|
 .nil) 32 [24, 31] (.tmp 24) (.con (V.bool true)) (.tmp 31) <|
 .nil))
 (.cond (.tmp 32) (.seq (.ops (.op (some 33) .any [0] (.mov (.tmp 0)) <|
 .op (some 34) .any [0] (.mov (.tmp 0)) <|
 .op (some 35) (.agg [(.int .i64), .str, (.int .i64)]) [34] (.call 32 [(.tmp 34)]) <|
 .op (some 36) (.tup []) [33, 35] (.call 33 [(.tmp 33), (.con (V.int .i64 (Int.ofNat 5))), (.tmp 35)]) <|
 .nil))
 (.seq (.ops (.op (some 4) .any [] (.mov (.con (V.int .i64 (Int.ofNat 0)))) <|
 .nil))
 .ret))
 .skip))
 (.seq (.ops (.op (some 37) .any [0] (.mov (.tmp 0)) <|
 .op (some 38) .any [37] (.nilck (.tmp 37)) <|
 .op (some 39) .any [38] (.faddr 2 (.tmp 38)) <|
 .op (some 40) .any [39] (.faddr 4 (.tmp 39)) <|
 .op (some 41) .any [40] (.load none (.tmp 40)) <|
 .op (some 42) .any [41] (.len false (.tmp 41)) <|
 .op (some 5) .any [42] (.mov (.tmp 42)) <|
 .nil))
 (.seq (.ops (.op (some 43) .any [0] (.mov (.tmp 0)) <|
 .op (some 44) .any [0] (.mov (.tmp 0)) <|
 .op (some 45) .any [44] (.nilck (.tmp 44)) <|
 .op (some 46) .any [45] (.faddr 2 (.tmp 45)) <|
 .op (some 47) .any [46] (.faddr 4 (.tmp 46)) <|
 .op (some 48) .any [47] (.load none (.tmp 47)) <|
 .op (some 49) (.agg [(.int .i64), .str, .bool, (.int .i64), (.int .i64), .bool, .bool, .bool, .bool, (.int .i64), (.int .i64), .any, .any, (.int .i64), .bool, (.int .i64)]) [] (.build [(V.int .i64 (Int.ofNat 0)), (V.str ⟨0, 0⟩), (V.bool false), (V.int .i64 (Int.ofNat 0)), (V.int .i64 (Int.ofNat 0)), (V.bool false), (V.bool false), (V.bool false), (V.bool false), (V.int .i64 (Int.ofNat 0)), (V.int .i64 (Int.ofNat 0)), V.nils, V.nils, (V.int .i64 (Int.ofNat 0)), (V.bool false), (V.int .i64 (Int.ofNat 0))] []) <|
 .op (some 50) .any [49] (.buildSlice 152 1 [(V.int .i64 (Int.ofNat 0)), (V.str ⟨0, 0⟩), (V.bool false), (V.int .i64 (Int.ofNat 0)), (V.int .i64 (Int.ofNat 0)), (V.bool false), (V.bool false), (V.bool false), (V.bool false), (V.int .i64 (Int.ofNat 0)), (V.int .i64 (Int.ofNat 0)), V.nils, V.nils, (V.int .i64 (Int.ofNat 0)), (V.bool false), (V.int .i64 (Int.ofNat 0))] [(0, 16, (.tmp 49))]) <|
 .op (some 51) .one [48, 50] (.append 152 16 144 (.tmp 48) (.tmp 50)) <|
 .op (some 52) .any [43] (.nilck (.tmp 43)) <|
 .op (some 53) .any [52] (.faddr 2 (.tmp 52)) <|
 .op (some 54) .any [53] (.faddr 4 (.tmp 53)) <|
 .op none .any [54, 51] (.store 1 (.tmp 54) (.tmp 51)) <|
 .nil))
 (.seq (.ops (.op (some 55) (.agg [(.int .i64), .str, .bool, (.int .i64), (.int .i64), .bool, .bool, .bool, .bool, (.int .i64), (.int .i64), .any, .any, (.int .i64), .bool, (.int .i64)]) [] (.build [(V.int .i64 (Int.ofNat 0)), (V.str ⟨0, 0⟩), (V.bool false), (V.int .i64 (Int.ofNat 0)), (V.int .i64 (Int.ofNat 0)), (V.bool false), (V.bool false), (V.bool false), (V.bool false), (V.int .i64 (Int.ofNat 0)), (V.int .i64 (Int.ofNat 0)), V.nils, V.nils, (V.int .i64 (Int.ofNat 0)), (V.bool false), (V.int .i64 (Int.ofNat 0))] []) <|
 .op (some 6) .any [] (.alloc 152 [(V.int .i64 (Int.ofNat 0)), (V.str ⟨0, 0⟩), (V.bool false), (V.int .i64 (Int.ofNat 0)), (V.int .i64 (Int.ofNat 0)), (V.bool false), (V.bool false), (V.bool false), (V.bool false), (V.int .i64 (Int.ofNat 0)), (V.int .i64 (Int.ofNat 0)), V.nils, V.nils, (V.int .i64 (Int.ofNat 0)), (V.bool false), (V.int .i64 (Int.ofNat 0))]) <|
 .op none (.agg [(.int .i64), .str, .bool, (.int .i64), (.int .i64), .bool, .bool, .bool, .bool, (.int .i64), (.int .i64), .any, .any, (.int .i64), .bool, (.int .i64)]) [6, 55] (.store 16 (.tmp 6) (.tmp 55)) <|
 .nil))
 (.seq (.seq (.ops (.op (some 56) .any [0] (.mov (.tmp 0)) <|
 .op (some 57) .bool [56] (.call 31 [(.tmp 56), (.con (V.str ⟨1, 91⟩))]) <|
 .nil))
 (.cond (.tmp 57) (.seq (.ops (.op (some 58) .any [0] (.mov (.tmp 0)) <|
 .op (some 59) (.agg [(.int .i64), .str, (.int .i64)]) [58] (.call 32 [(.tmp 58)]) <|
 .pal 7 [] 92 [(V.int .i64 (Int.ofNat 0)), (V.str ⟨0, 0⟩), (V.int .i64 (Int.ofNat 0))] <|
 .op none (.agg [(.int .i64), .str, (.int .i64)]) [7, 59] (.store 3 (.tmp 7) (.tmp 59)) <|
 .nil))
 (.seq (.ops (.op (some 60) .any [0] (.mov (.tmp 0)) <|
 .op (some 61) (.int .i64) [60] (.call 68 [(.tmp 60)]) <|
 .op (some 8) .any [61] (.mov (.tmp 61)) <|
 .nil))
 (.seq (.seq (.ops (.op (some 62) .any [0] (.mov (.tmp 0)) <|
 .op (some 63) .any [62] (.nilck (.tmp 62)) <|
 .op (some 64) .any [63] (.faddr 7 (.tmp 63)) <|
 .op (some 65) (.int .i64) [64] (.load none (.tmp 64)) <|
 .op (some 66) .any [65] (.bin .eql .none (.tmp 65) (.con (V.int .i64 (Int.ofNat 0)))) <|
 .op (some 67) .any [66] (.mov (.tmp 66)) <|
 .grp 67 true (.op (some 68) .any [8, 67] (.mov (.tmp 8)) <|
 .op (some 69) .any [68, 67] (.bin .lss .none (.tmp 68) (.con (V.int .i64 (Int.ofNat 0)))) <|
 .op (some 70) .any [69, 67] (.mov (.tmp 69)) <|
 .grp 70 false (.op (some 71) .any [8, 70] (.mov (.tmp 8)) <|
 .op (some 72) .any [71, 70] (.bin .gtr .none (.tmp 71) (.con (V.int .i64 (Int.ofNat 268435456)))) <|
 .nil) 73 [70, 72, 67] (.tmp 70) (.con (V.bool true)) (.tmp 72) <|
 .nil) 74 [67, 73] (.tmp 67) (.tmp 73) (.con (V.bool false)) <|
 .nil))
 (.cond (.tmp 74) (.ops (.op (some 75) .any [0] (.mov (.tmp 0)) <|
 .op (some 76) (.agg [(.int .i64), .str, (.int .i64)]) [7] (.load (some 3) (.tmp 7)) <|
 .op (some 77) (.tup []) [75, 76] (.call 33 [(.tmp 75), (.con (V.int .i64 (Int.ofNat 12))), (.tmp 76)]) <|
 .nil))
 .skip))
 (.keep [(0, .ptr), (1, (.int .i64)), (5, (.int .i64)), (6, .ptr), (8, (.int .i64))] [] [] cc2))))
 .skip))
 (.keep [(0, .ptr), (1, (.int .i64)), (5, (.int .i64)), (6, .ptr)] [] [] cc1)))))))))
def C34_1 : XC := (.seq (.ops (.op (some 91) .any [0] (.mov (.tmp 0)) <|
 .op (some 92) .any [1] (.mov (.tmp 1)) <|
 .op (some 93) (.tup []) [91, 6, 92] (.call 69 [(.tmp 91), (.tmp 6), (.tmp 92)]) <|
 .nil))
 (.seq (.seq (.ops (.op (some 94) .any [0] (.mov (.tmp 0)) <|
 .op (some 95) .any [94] (.nilck (.tmp 94)) <|
 .op (some 96) .any [95] (.faddr 7 (.tmp 95)) <|
 .op (some 97) (.int .i64) [96] (.load none (.tmp 96)) <|
 .op (some 98) .any [97] (.bin .neq .none (.tmp 97) (.con (V.int .i64 (Int.ofNat 0)))) <|
 .nil))
 (.cond (.tmp 98) (.seq (.ops (.op (some 4) .any [] (.mov (.con (V.int .i64 (Int.ofNat 0)))) <|
 .nil))
 .ret)
 .skip))
 (.seq (.draw (.op (some 99) .any [0] (.mov (.tmp 0)) <|
 .op (some 100) .any [99] (.nilck (.tmp 99)) <|
 .op (some 101) .any [100] (.faddr 2 (.tmp 100)) <|
 .op (some 102) .any [101] (.faddr 4 (.tmp 101)) <|
 .op (some 103) .any [102] (.load none (.tmp 102)) <|
 .op (some 104) .any [5] (.mov (.tmp 5)) <|
 .op (some 105) (.agg [(.int .i64), .str, .bool, (.int .i64), (.int .i64), .bool, .bool, .bool, .bool, (.int .i64), (.int .i64), .any, .any, (.int .i64), .bool, (.int .i64)]) [6] (.load (some 16) (.tmp 6)) <|
 .op (some 106) .any [103, 104] (.iaddrS 16 (.tmp 103) (.tmp 104)) <|
 .op none (.agg [(.int .i64), .str, .bool, (.int .i64), (.int .i64), .bool, .bool, .bool, .bool, (.int .i64), (.int .i64), .any, .any, (.int .i64), .bool, (.int .i64)]) [106, 105] (.store 16 (.tmp 106) (.tmp 105)) <|
 .nil) [0, 1, 3, 7, 15, 0, 0, 127, 255])
 (.seq (.ops (.op (some 107) .any [5] (.mov (.tmp 5)) <|
 .op (some 4) .any [107] (.mov (.tmp 107)) <|
 .nil))
 .ret))))
def C34_2 : XC := (.seq (.ops (.op (some 78) .any [0] (.mov (.tmp 0)) <|
 .op (some 79) (.tup []) [78] (.call 30 [(.tmp 78), (.con (V.str ⟨1, 93⟩))]) <|
 .nil))
 (.seq (.ops (.op (some 80) .any [8] (.mov (.tmp 8)) <|
 .op (some 81) (.agg [.bool, (.int .i64), (.int .i64)]) [80] (.build [(V.bool false), (V.int .i64 (Int.ofNat 0)), (V.int .i64 (Int.ofNat 0))] [(0, 1, (.con (V.bool true))), (1, 1, (.tmp 80))]) <|
 .op (some 82) .any [6] (.faddr 2 (.tmp 6)) <|
 .op none (.agg [.bool, (.int .i64), (.int .i64)]) [82, 81] (.store 3 (.tmp 82) (.tmp 81)) <|
 .nil))
 (.seq (.ops (.op (some 83) .any [0] (.mov (.tmp 0)) <|
 .op (some 84) .bool [83] (.call 31 [(.tmp 83), (.con (V.str ⟨8, 6073459554577832005⟩))]) <|
 .nil))
 (.cond (.tmp 84) (.ops (.op (some 85) .any [6] (.faddr 2 (.tmp 6)) <|
 .op (some 86) .any [85] (.faddr 2 (.tmp 85)) <|
 .op none .any [86] (.store 1 (.tmp 86) (.con (V.int .i64 (Int.ofNat 1)))) <|
 .nil))
 (.seq (.ops (.op (some 87) .any [0] (.mov (.tmp 0)) <|
 .op (some 88) .bool [87] (.call 31 [(.tmp 87), (.con (V.str ⟨8, 6073459554577829193⟩))]) <|
 .nil))
 (.cond (.tmp 88) (.ops (.op (some 89) .any [6] (.faddr 2 (.tmp 6)) <|
 .op (some 90) .any [89] (.faddr 2 (.tmp 89)) <|
 .op none .any [90] (.store 1 (.tmp 90) (.con (V.int .i64 (Int.ofNat 2)))) <|
 .nil))
 .skip))))))
def A34 : XFn := ⟨108, [.ptr, (.int .i64)], [(.tmp 4)], (C34_0 C34_1 C34_2)⟩
def C35_0 (cc1 : XC) (cc2 : XC) : XC := (.seq (.ops (.op (some 1) .any [0] (.box 52 (.tmp 0)) <|
 .op (some 2) .any [] (.mov (.con V.nils)) <|
 .op (some 3) .any [] (.mov (.con (V.int .i64 (Int.ofNat 0)))) <|
 .op (some 4) .any [] (.mov (.con (V.int .i64 (Int.ofNat 0)))) <|
 .nil))
 (.seq (.ops (.op (some 5) .any [] (.mov (.con V.nils)) <|
 .nil))
 (.seq (.ops (.op (some 6) .any [] (.mov (.con (V.int .i64 (Int.negSucc 0)))) <|
 .nil))
 (.seq (.seq (.ops (.op (some 7) .any [] (.mov (.con (V.int .i64 (Int.ofNat 0)))) <|
 .nil))
 (.block 0 (.loop [(1, .ptr), (5, .any), (6, (.int .i64)), (7, (.int .i64))] [] [] cc2)))
 (.keep [(1, .ptr), (5, .any), (6, (.int .i64))] [] [] cc1)))))
def C35_1 (cc3 : XC) (cc4 : XC) : XC := (.seq (.seq (.ops (.op (some 8) .any [] (.mov (.con (V.int .i64 (Int.ofNat 0)))) <|
 .nil))
 (.block 2 (.loop [(1, .ptr), (5, .any), (6, (.int .i64)), (8, (.int .i64))] [] [] cc4)))
 (.keep [(1, .ptr), (5, .any), (6, (.int .i64))] [] [] cc3))
def C35_2 : XC := (.seq (.seq (.ops (.op (some 16) .any [7] (.mov (.tmp 7)) <|
 .op (some 17) .any [1] (.faddr 2 (.tmp 1)) <|
 .op (some 18) .any [17] (.load none (.tmp 17)) <|
 .op (some 19) .any [18] (.len false (.tmp 18)) <|
 .op (some 20) .any [16, 19] (.bin .lss .none (.tmp 16) (.tmp 19)) <|
 .nil))
 (.cond (.tmp 20) .skip
 (.exit 0)))
 (.seq (.block 1 (.seq (.draw (.op (some 23) .any [1] (.faddr 2 (.tmp 1)) <|
 .op (some 24) .any [23] (.load none (.tmp 23)) <|
 .op (some 25) .any [7] (.mov (.tmp 7)) <|
 .op (some 26) .any [24, 25] (.sliceSl 1 (.tmp 24) none (some (.tmp 25)) none) <|
 .op (some 27) .any [1] (.faddr 2 (.tmp 1)) <|
 .op (some 28) .any [27] (.load none (.tmp 27)) <|
 .op (some 29) .any [7] (.mov (.tmp 7)) <|
 .op (some 30) .any [28, 29] (.iaddrS 1 (.tmp 28) (.tmp 29)) <|
 .op (some 31) .str [30] (.load none (.tmp 30)) <|
 .op (some 32) .bool [26, 31] (.call 70 [(.tmp 26), (.tmp 31)]) <|
 .nil) [0, 1, 0, 7, 0, 16, 0, 112, 240, 511])
 (.cond (.tmp 32) (.seq (.ops (.op (some 33) .any [7] (.mov (.tmp 7)) <|
 .op (some 2) .any [] (.mov (.con V.nils)) <|
 .op (some 3) .any [33] (.mov (.tmp 33)) <|
 .op (some 4) .any [] (.mov (.con (V.int .i64 (Int.ofNat 8)))) <|
 .nil))
 .ret)
 .skip)))
 (.ops (.op (some 21) .any [7] (.mov (.tmp 7)) <|
 .op (some 22) .any [21] (.bin .add .none (.tmp 21) (.con (V.int .i64 (Int.ofNat 1)))) <|
 .op (some 7) .any [22] (.mov (.tmp 22)) <|
 .nil))))
def C35_3 (cc6 : XC) (cc7 : XC) : XC := (.seq (.seq (.ops (.op (some 61) .any [6] (.mov (.tmp 6)) <|
 .op (some 62) .any [61] (.bin .geq .none (.tmp 61) (.con (V.int .i64 (Int.ofNat 0)))) <|
 .nil))
 (.cond (.tmp 62) (.seq (.ops (.op (some 63) .any [6] (.mov (.tmp 6)) <|
 .op (some 2) .any [] (.mov (.con V.nils)) <|
 .op (some 3) .any [63] (.mov (.tmp 63)) <|
 .op (some 4) .any [] (.mov (.con (V.int .i64 (Int.ofNat 9)))) <|
 .nil))
 .ret)
 .skip))
 (.seq (.seq (.ops (.op (some 11) .any [] (.mov (.con (V.int .i64 (Int.ofNat 0)))) <|
 .nil))
 (.block 4 (.loop [(1, .ptr), (5, .any), (11, (.int .i64))] [] [] cc7)))
 (.keep [(1, .ptr), (5, .any)] [] [] cc6)))
def C35_4 (cc5 : XC) : XC := (.seq (.seq (.ops (.op (some 34) .any [8] (.mov (.tmp 8)) <|
 .op (some 35) .any [1] (.faddr 2 (.tmp 1)) <|
 .op (some 36) .any [35] (.load none (.tmp 35)) <|
 .op (some 37) .any [36] (.len false (.tmp 36)) <|
 .op (some 38) .any [34, 37] (.bin .lss .none (.tmp 34) (.tmp 37)) <|
 .nil))
 (.cond (.tmp 38) .skip
 (.exit 2)))
 (.seq (.block 3 (.seq (.draw (.op (some 42) (.agg [.str, (.int .i64), .any, .any, .any]) [1] (.load (some 5) (.tmp 1)) <|
 .op (some 43) .any [1] (.faddr 3 (.tmp 1)) <|
 .op (some 44) .any [43] (.load none (.tmp 43)) <|
 .op (some 45) .any [8] (.mov (.tmp 8)) <|
 .op (some 46) .any [44, 45] (.iaddrS 1 (.tmp 44) (.tmp 45)) <|
 .op (some 47) (.int .i64) [46] (.load none (.tmp 46)) <|
 .op (some 48) (.tup [.any, .bool]) [42, 47] (.call 71 [(.tmp 42), (.tmp 47), (.con (V.int .i64 (Int.ofNat 0))), (.con V.nils)]) <|
 .op (some 41) .any [48] (.mov (.tmp 48)) <|
 .op (some 49) .any [41] (.extract 0 (.tmp 41)) <|
 .op (some 50) .any [41] (.extract 1 (.tmp 41)) <|
 .op (some 9) .any [49] (.mov (.tmp 49)) <|
 .op (some 10) .any [50] (.mov (.tmp 50)) <|
 .nil) [0, 0, 2, 0, 14, 30, 63, 127, 255, 255, 511, 2047])
 (.seq (.ops (.op (some 51) .any [5] (.mov (.tmp 5)) <|
 .op (some 52) .any [9] (.mov (.tmp 9)) <|
 .op (some 53) .any [52] (.buildSlice 23 1 [V.nils] [(0, 1, (.tmp 52))]) <|
 .op (some 54) .one [51, 53] (.append 23 1 24 (.tmp 51) (.tmp 53)) <|
 .op (some 5) .any [54] (.mov (.tmp 54)) <|
 .nil))
 (.seq (.ops (.op (some 55) .any [10] (.mov (.tmp 10)) <|
 .op (some 56) .any [55] (.mov (.tmp 55)) <|
 .grp 56 true (.op (some 57) .any [6, 56] (.mov (.tmp 6)) <|
 .op (some 58) .any [57, 56] (.bin .lss .none (.tmp 57) (.con (V.int .i64 (Int.ofNat 0)))) <|
 .nil) 59 [56, 58] (.tmp 56) (.tmp 58) (.con (V.bool false)) <|
 .nil))
 (.cond (.tmp 59) (.ops (.op (some 60) .any [8] (.mov (.tmp 8)) <|
 .op (some 6) .any [60] (.mov (.tmp 60)) <|
 .nil))
 .skip)))))
 (.keep [(1, .ptr), (5, .any), (6, (.int .i64)), (8, (.int .i64))] [] [] cc5)))
def C35_5 : XC := (.ops (.op (some 39) .any [8] (.mov (.tmp 8)) <|
 .op (some 40) .any [39] (.bin .add .none (.tmp 39) (.con (V.int .i64 (Int.ofNat 1)))) <|
 .op (some 8) .any [40] (.mov (.tmp 40)) <|
 .nil))
def C35_6 (cc8 : XC) (cc9 : XC) : XC := (.seq (.ops (.op (some 12) .any [] (.mov (.con V.nils)) <|
 .nil))
 (.seq (.block 6 (.loop [(1, .ptr), (5, .any), (12, .any)] [] [] cc9))
 (.keep [(12, .any)] [] [] cc8)))
def C35_7 : XC := (.seq (.seq (.ops (.op (some 64) .any [11] (.mov (.tmp 11)) <|
 .op (some 65) .any [1] (.faddr 2 (.tmp 1)) <|
 .op (some 66) .any [65] (.load none (.tmp 65)) <|
 .op (some 67) .any [66] (.len false (.tmp 66)) <|
 .op (some 68) .any [64, 67] (.bin .lss .none (.tmp 64) (.tmp 67)) <|
 .nil))
 (.cond (.tmp 68) .skip
 (.exit 4)))
 (.seq (.block 5 (.seq (.ops (.op (some 71) .any [5] (.mov (.tmp 5)) <|
 .op (some 72) .any [11] (.mov (.tmp 11)) <|
 .op (some 73) .any [11] (.mov (.tmp 11)) <|
 .op (some 74) .bool [71, 72, 73] (.call 72 [(.tmp 71), (.tmp 72), (.tmp 73)]) <|
 .nil))
 (.cond (.tmp 74) (.seq (.ops (.op (some 75) .any [11] (.mov (.tmp 11)) <|
 .op (some 2) .any [] (.mov (.con V.nils)) <|
 .op (some 3) .any [75] (.mov (.tmp 75)) <|
 .op (some 4) .any [] (.mov (.con (V.int .i64 (Int.ofNat 10)))) <|
 .nil))
 .ret)
 .skip)))
 (.ops (.op (some 69) .any [11] (.mov (.tmp 11)) <|
 .op (some 70) .any [69] (.bin .add .none (.tmp 69) (.con (V.int .i64 (Int.ofNat 1)))) <|
 .op (some 11) .any [70] (.mov (.tmp 70)) <|
 .nil))))
def C35_8 : XC := (.seq (.ops (.op (some 119) .any [12] (.mov (.tmp 12)) <|
 .op (some 2) .any [119] (.mov (.tmp 119)) <|
 .op (some 3) .any [] (.mov (.con (V.int .i64 (Int.ofNat 0)))) <|
 .op (some 4) .any [] (.mov (.con (V.int .i64 (Int.ofNat 0)))) <|
 .nil))
 .ret)
def C35_9 (cc10 : XC) : XC := (.seq (.seq (.ops (.op (some 76) .any [12] (.mov (.tmp 12)) <|
 .op (some 77) .any [76] (.len false (.tmp 76)) <|
 .op (some 78) .any [1] (.faddr 2 (.tmp 1)) <|
 .op (some 79) .any [78] (.load none (.tmp 78)) <|
 .op (some 80) .any [79] (.len false (.tmp 79)) <|
 .op (some 81) .any [77, 80] (.bin .lss .none (.tmp 77) (.tmp 80)) <|
 .nil))
 (.cond (.tmp 81) .skip
 (.exit 6)))
 (.block 7 (.seq (.ops (.op (some 13) .any [] (.mov (.con (V.int .i64 (Int.ofNat 0)))) <|
 .nil))
 (.block 8 (.loop [(1, .ptr), (5, .any), (12, .any), (13, (.int .i64))] [] [] cc10)))))
def C35_10 (cc11 : XC) (cc12 : XC) (cc13 : XC) : XC := (.seq (.seq (.ops (.op (some 82) .any [13] (.mov (.tmp 13)) <|
 .op (some 83) .any [1] (.faddr 2 (.tmp 1)) <|
 .op (some 84) .any [83] (.load none (.tmp 83)) <|
 .op (some 85) .any [84] (.len false (.tmp 84)) <|
 .op (some 86) .any [82, 85] (.bin .lss .none (.tmp 82) (.tmp 85)) <|
 .nil))
 (.cond (.tmp 86) .skip
 (.exit 8)))
 (.seq (.block 9 (.seq (.ops (.op (some 89) .any [12] (.mov (.tmp 12)) <|
 .op (some 90) .any [13] (.mov (.tmp 13)) <|
 .op (some 91) .bool [89, 90] (.call 73 [(.tmp 89), (.tmp 90)]) <|
 .op (some 92) .any [91] (.un .not (.tmp 91)) <|
 .op (some 14) .any [92] (.mov (.tmp 92)) <|
 .nil))
 (.seq (.seq (.ops (.op (some 15) .any [] (.mov (.con (V.int .i64 (Int.ofNat 0)))) <|
 .nil))
 (.block 10 (.loop [(1, .ptr), (5, .any), (12, .any), (13, (.int .i64)), (14, .bool), (15, (.int .i64))] [] [] cc13)))
 (.keep [(1, .ptr), (5, .any), (12, .any), (13, (.int .i64)), (14, .bool)] [] [] cc12))))
 (.keep [(1, .ptr), (5, .any), (12, .any), (13, (.int .i64))] [] [] cc11)))
def C35_11 : XC := (.ops (.op (some 87) .any [13] (.mov (.tmp 13)) <|
 .op (some 88) .any [87] (.bin .add .none (.tmp 87) (.con (V.int .i64 (Int.ofNat 1)))) <|
 .op (some 13) .any [88] (.mov (.tmp 88)) <|
 .nil))
def C35_12 : XC := (.seq (.ops (.op (some 114) .any [14] (.mov (.tmp 14)) <|
 .nil))
 (.cond (.tmp 114) (.seq (.ops (.op (some 115) .any [12] (.mov (.tmp 12)) <|
 .op (some 116) .any [13] (.mov (.tmp 13)) <|
 .op (some 117) .any [116] (.buildSlice 3 1 [(V.int .i64 (Int.ofNat 0))] [(0, 1, (.tmp 116))]) <|
 .op (some 118) .one [115, 117] (.append 3 1 8 (.tmp 115) (.tmp 117)) <|
 .op (some 12) .any [118] (.mov (.tmp 118)) <|
 .nil))
 (.exit 8))
 .skip))
def C35_13 : XC := (.seq (.seq (.ops (.op (some 93) .any [15] (.mov (.tmp 15)) <|
 .op (some 94) .any [5] (.mov (.tmp 5)) <|
 .op (some 95) .any [13] (.mov (.tmp 13)) <|
 .op (some 96) .any [94, 95] (.iaddrS 1 (.tmp 94) (.tmp 95)) <|
 .op (some 97) .any [96] (.load none (.tmp 96)) <|
 .op (some 98) .any [97] (.len false (.tmp 97)) <|
 .op (some 99) .any [93, 98] (.bin .lss .none (.tmp 93) (.tmp 98)) <|
 .nil))
 (.cond (.tmp 99) .skip
 (.exit 10)))
 (.seq (.block 11 (.ops (.op (some 102) .any [14] (.mov (.tmp 14)) <|
 .op (some 103) .any [102] (.mov (.tmp 102)) <|
 .grp 103 true (.op (some 104) .any [12, 103] (.mov (.tmp 12)) <|
 .op (some 105) .any [5, 103] (.mov (.tmp 5)) <|
 .op (some 106) .any [13, 103] (.mov (.tmp 13)) <|
 .op (some 107) .any [105, 106, 103] (.iaddrS 1 (.tmp 105) (.tmp 106)) <|
 .op (some 108) .any [107, 103] (.load none (.tmp 107)) <|
 .op (some 109) .any [15, 103] (.mov (.tmp 15)) <|
 .op (some 110) .any [108, 109, 103] (.iaddrS 1 (.tmp 108) (.tmp 109)) <|
 .op (some 111) (.int .i64) [110, 103] (.load none (.tmp 110)) <|
 .op (some 112) .bool [104, 111, 103] (.call 73 [(.tmp 104), (.tmp 111)]) <|
 .nil) 113 [103, 112] (.tmp 103) (.tmp 112) (.con (V.bool false)) <|
 .op (some 14) .any [113] (.mov (.tmp 113)) <|
 .nil)))
 (.ops (.op (some 100) .any [15] (.mov (.tmp 15)) <|
 .op (some 101) .any [100] (.bin .add .none (.tmp 100) (.con (V.int .i64 (Int.ofNat 1)))) <|
 .op (some 15) .any [101] (.mov (.tmp 101)) <|
 .nil))))
def A35 : XFn := ⟨120, [(.agg [.str, (.int .i64), .any, .any, .any])], [(.tmp 2), (.tmp 3), (.tmp 4)], (C35_0 (C35_1 (C35_3 (C35_6 C35_8 (C35_9 (C35_10 C35_11 C35_12 C35_13))) C35_7) (C35_4 C35_5)) C35_2)⟩
def G36_0 : List AOper := [⟨(some 26), .mov (.tmp 0), none⟩, ⟨(some 27), .mov (.tmp 0), none⟩, ⟨(some 28), .nilck (.tmp 27), none⟩, ⟨(some 29), .faddr 0 (.tmp 28), none⟩, ⟨(some 30), .faddr 3 (.tmp 29), none⟩, ⟨(some 31), .load none (.tmp 30), none⟩, ⟨(some 32), .mov (.tmp 0), none⟩, ⟨(some 33), .nilck (.tmp 32), none⟩, ⟨(some 34), .faddr 0 (.tmp 33), none⟩, ⟨(some 35), .load (some 5) (.tmp 34), none⟩, ⟨(some 36), .faddr 1 (.tmp 7), none⟩, ⟨(some 37), .load none (.tmp 36), none⟩, ⟨(some 38), .call 74 [(.tmp 35), (.tmp 37)], none⟩, ⟨(some 39), .iaddrS 1 (.tmp 31) (.tmp 38), none⟩, ⟨(some 40), .load none (.tmp 39), none⟩, ⟨(some 41), .mov (.tmp 2), none⟩, ⟨(some 42), .call 36 [(.tmp 26), (.tmp 40), (.tmp 41)], none⟩, ⟨(some 8), .mov (.tmp 42), none⟩]
def H36_0 : List DP := [⟨0, [0]⟩, ⟨0, [0]⟩, ⟨2, [27]⟩, ⟨6, [28]⟩, ⟨14, [29]⟩, ⟨30, [30]⟩, ⟨0, [0]⟩, ⟨64, [32]⟩, ⟨192, [33]⟩, ⟨448, [34]⟩, ⟨0, [7]⟩, ⟨1024, [36]⟩, ⟨4032, [35, 37]⟩, ⟨8190, [31, 38]⟩, ⟨16382, [39]⟩, ⟨0, [2]⟩, ⟨65535, [26, 40, 41]⟩, ⟨131071, [42]⟩]
def C36_0 (cc1 : XC) : XC := (.seq (.ops (.op (some 6) .any [] (.mov (.con (V.int .i64 (Int.ofNat 0)))) <|
 .nil))
 (.seq (.seq (.ops (.op (some 10) .any [0] (.mov (.tmp 0)) <|
 .op (some 11) .any [10] (.nilck (.tmp 10)) <|
 .op (some 12) .any [11] (.faddr 6 (.tmp 11)) <|
 .op (some 13) (.int .i64) [12] (.load none (.tmp 12)) <|
 .op (some 14) .any [13] (.bin .neq .none (.tmp 13) (.con (V.int .i64 (Int.ofNat 0)))) <|
 .nil))
 (.cond (.tmp 14) (.seq (.ops (.op (some 6) .any [] (.mov (.con (V.int .i64 (Int.ofNat 0)))) <|
 .nil))
 .ret)
 .skip))
 (.seq (.ops (.op (some 15) .any [0] (.mov (.tmp 0)) <|
 .op (some 16) .any [15] (.nilck (.tmp 15)) <|
 .op (some 17) .any [16] (.faddr 0 (.tmp 16)) <|
 .op (some 18) .any [17] (.faddr 4 (.tmp 17)) <|
 .op (some 19) .any [18] (.load none (.tmp 18)) <|
 .op (some 20) .any [1] (.mov (.tmp 1)) <|
 .op (some 21) .any [19, 20] (.iaddrS 16 (.tmp 19) (.tmp 20)) <|
 .op (some 22) (.agg [(.int .i64), .str, .bool, (.int .i64), (.int .i64), .bool, .bool, .bool, .bool, (.int .i64), (.int .i64), .any, .any, (.int .i64), .bool, (.int .i64)]) [21] (.load (some 16) (.tmp 21)) <|
 .op (some 7) .any [] (.alloc 152 [(V.int .i64 (Int.ofNat 0)), (V.str ⟨0, 0⟩), (V.bool false), (V.int .i64 (Int.ofNat 0)), (V.int .i64 (Int.ofNat 0)), (V.bool false), (V.bool false), (V.bool false), (V.bool false), (V.int .i64 (Int.ofNat 0)), (V.int .i64 (Int.ofNat 0)), V.nils, V.nils, (V.int .i64 (Int.ofNat 0)), (V.bool false), (V.int .i64 (Int.ofNat 0))]) <|
 .op none (.agg [(.int .i64), .str, .bool, (.int .i64), (.int .i64), .bool, .bool, .bool, .bool, (.int .i64), (.int .i64), .any, .any, (.int .i64), .bool, (.int .i64)]) [7, 22] (.store 16 (.tmp 7) (.tmp 22)) <|
 .nil))
 (.seq (.ops (.op (some 8) .any [] (.mov (.con (V.int .i64 (Int.ofNat 0)))) <|
 .nil))
 (.seq (.seq (.ops (.op (some 23) .any [7] (.faddr 0 (.tmp 7)) <|
 .op (some 24) (.int .i64) [23] (.load none (.tmp 23)) <|
 .op (some 25) .any [24] (.bin .eql .none (.tmp 24) (.con (V.int .i64 (Int.ofNat 11)))) <|
 .nil))
 (.cond (.tmp 25) (.keep [(0, .ptr), (2, (.int .i64)), (7, .ptr)] [] [] (.gdraw G36_0 H36_0 [(0, .ptr), (7, .ptr), (8, (.int .i64))]))
 (.ops (.op (some 43) .any [0] (.mov (.tmp 0)) <|
 .op (some 44) (.agg [(.int .i64), .str, .bool, (.int .i64), (.int .i64), .bool, .bool, .bool, .bool, (.int .i64), (.int .i64), .any, .any, (.int .i64), .bool, (.int .i64)]) [7] (.load (some 16) (.tmp 7)) <|
 .op (some 45) .any [2] (.mov (.tmp 2)) <|
 .op (some 46) (.int .i64) [43, 44, 45] (.call 75 [(.tmp 43), (.tmp 44), (.tmp 45)]) <|
 .op (some 8) .any [46] (.mov (.tmp 46)) <|
 .nil))))
 (.keep [(0, .ptr), (7, .ptr), (8, (.int .i64))] [] [] cc1))))))
def C36_1 (cc2 : XC) (cc3 : XC) : XC := (.seq (.seq (.ops (.op (some 47) .any [0] (.mov (.tmp 0)) <|
 .op (some 48) .any [47] (.nilck (.tmp 47)) <|
 .op (some 49) .any [48] (.faddr 6 (.tmp 48)) <|
 .op (some 50) (.int .i64) [49] (.load none (.tmp 49)) <|
 .op (some 51) .any [50] (.bin .eql .none (.tmp 50) (.con (V.int .i64 (Int.ofNat 0)))) <|
 .op (some 52) .any [51] (.mov (.tmp 51)) <|
 .grp 52 true (.op (some 53) .any [7, 52] (.faddr 2 (.tmp 7)) <|
 .op (some 54) .any [53, 52] (.faddr 0 (.tmp 53)) <|
 .op (some 55) .bool [54, 52] (.load none (.tmp 54)) <|
 .nil) 56 [52, 55] (.tmp 52) (.tmp 55) (.con (V.bool false)) <|
 .nil))
 (.cond (.tmp 56) (.seq (.ops (.op (some 9) .any [] (.mov (.con (V.int .i64 (Int.ofNat 0)))) <|
 .nil))
 (.seq (.block 0 (.seq (.ops (.op (some 58) .any [7] (.faddr 2 (.tmp 7)) <|
 .op (some 59) .any [58] (.faddr 2 (.tmp 58)) <|
 .op (some 60) (.int .i64) [59] (.load none (.tmp 59)) <|
 .op (some 61) .any [60] (.bin .eql .none (.tmp 60) (.con (V.int .i64 (Int.ofNat 2)))) <|
 .op (some 57) .any [61] (.mov (.tmp 61)) <|
 .nil))
 (.cond (.tmp 57) (.ops (.op (some 9) .any [] (.mov (.con (V.int .i64 (Int.ofNat 1)))) <|
 .nil))
 (.seq (.ops (.op (some 63) .any [7] (.faddr 2 (.tmp 7)) <|
 .op (some 64) .any [63] (.faddr 2 (.tmp 63)) <|
 .op (some 65) (.int .i64) [64] (.load none (.tmp 64)) <|
 .op (some 66) .any [65] (.bin .eql .none (.tmp 65) (.con (V.int .i64 (Int.ofNat 0)))) <|
 .op (some 67) .any [66] (.mov (.tmp 66)) <|
 .grp 67 true (.op (some 68) .any [0, 67] (.mov (.tmp 0)) <|
 .op (some 69) .any [68, 67] (.nilck (.tmp 68)) <|
 .op (some 70) .any [69, 67] (.faddr 0 (.tmp 69)) <|
 .op (some 71) .any [70, 67] (.faddr 1 (.tmp 70)) <|
 .op (some 72) (.int .i64) [71, 67] (.load none (.tmp 71)) <|
 .op (some 73) .any [72, 67] (.bin .neq .none (.tmp 72) (.con (V.int .i64 (Int.ofNat 0)))) <|
 .nil) 74 [67, 73] (.tmp 67) (.tmp 73) (.con (V.bool false)) <|
 .op (some 62) .any [74] (.mov (.tmp 74)) <|
 .nil))
 (.cond (.tmp 62) (.ops (.op (some 75) .any [0] (.mov (.tmp 0)) <|
 .op (some 76) .any [8] (.mov (.tmp 8)) <|
 .op (some 77) (.int .i64) [75, 76] (.call 76 [(.tmp 75), (.tmp 76)]) <|
 .op (some 9) .any [77] (.mov (.tmp 77)) <|
 .nil))
 .skip)))))
 (.keep [(0, .ptr), (7, .ptr), (8, (.int .i64)), (9, (.int .i64))] [] [] cc3)))
 .skip))
 (.keep [(8, (.int .i64))] [] [] cc2))
def C36_2 : XC := (.seq (.ops (.op (some 85) .any [8] (.mov (.tmp 8)) <|
 .op (some 6) .any [85] (.mov (.tmp 85)) <|
 .nil))
 .ret)
def C36_3 : XC := (.ops (.op (some 78) .any [0] (.mov (.tmp 0)) <|
 .op (some 79) .any [8] (.mov (.tmp 8)) <|
 .op (some 80) .any [7] (.faddr 2 (.tmp 7)) <|
 .op (some 81) .any [80] (.faddr 1 (.tmp 80)) <|
 .op (some 82) (.int .i64) [81] (.load none (.tmp 81)) <|
 .op (some 83) .any [9] (.mov (.tmp 9)) <|
 .op (some 84) (.tup []) [78, 79, 82, 83] (.call 77 [(.tmp 78), (.tmp 79), (.tmp 82), (.tmp 83)]) <|
 .nil))
def A36 : XFn := ⟨86, [.ptr, (.int .i64), (.int .i64)], [(.tmp 6)], (C36_0 (C36_1 C36_2 C36_3))⟩
def C37_0 (cc1 : XC) : XC := (.seq (.ops (.op (some 4) .any [] (.mov (.con (V.int .i64 (Int.ofNat 0)))) <|
 .nil))
 (.block 0 (.loop [(0, .any), (1, .any), (4, (.int .i64))] [] [] cc1)))
def C37_1 (cc2 : XC) (cc3 : XC) : XC := (.seq (.seq (.ops (.op (some 6) .any [4] (.mov (.tmp 4)) <|
 .op (some 7) .any [1] (.mov (.tmp 1)) <|
 .op (some 8) .any [7] (.len false (.tmp 7)) <|
 .op (some 9) .any [6, 8] (.bin .lss .none (.tmp 6) (.tmp 8)) <|
 .nil))
 (.cond (.tmp 9) .skip
 (.exit 0)))
 (.seq (.block 1 (.seq (.ops (.op (some 5) .any [] (.mov (.con (V.int .i64 (Int.ofNat 0)))) <|
 .nil))
 (.block 2 (.loop [(0, .any), (1, .any), (4, (.int .i64)), (5, (.int .i64))] [] [] cc3))))
 (.keep [(0, .any), (1, .any), (4, (.int .i64))] [] [] cc2)))
def C37_2 : XC := (.ops (.op (some 10) .any [4] (.mov (.tmp 4)) <|
 .op (some 11) .any [10] (.bin .add .none (.tmp 10) (.con (V.int .i64 (Int.ofNat 1)))) <|
 .op (some 4) .any [11] (.mov (.tmp 11)) <|
 .nil))
def C37_3 : XC := (.seq (.seq (.ops (.op (some 12) .any [5] (.mov (.tmp 5)) <|
 .op (some 13) .any [1] (.mov (.tmp 1)) <|
 .op (some 14) .any [4] (.mov (.tmp 4)) <|
 .op (some 15) .any [13, 14] (.iaddrS 1 (.tmp 13) (.tmp 14)) <|
 .op (some 16) .any [15] (.load none (.tmp 15)) <|
 .op (some 17) .any [16] (.len false (.tmp 16)) <|
 .op (some 18) .any [12, 17] (.bin .lss .none (.tmp 12) (.tmp 17)) <|
 .nil))
 (.cond (.tmp 18) .skip
 (.exit 2)))
 (.seq (.block 3 (.ops (.op (some 21) .any [0] (.mov (.tmp 0)) <|
 .op (some 22) .any [1] (.mov (.tmp 1)) <|
 .op (some 23) .any [4] (.mov (.tmp 4)) <|
 .op (some 24) .any [22, 23] (.iaddrS 1 (.tmp 22) (.tmp 23)) <|
 .op (some 25) .any [24] (.load none (.tmp 24)) <|
 .op (some 26) .any [5] (.mov (.tmp 5)) <|
 .op (some 27) .any [25, 26] (.iaddrS 1 (.tmp 25) (.tmp 26)) <|
 .op (some 28) (.int .u8) [27] (.load none (.tmp 27)) <|
 .op (some 29) .any [28] (.conv (.toInt .u32) (.tmp 28)) <|
 .op (some 30) (.tup []) [21, 29] (.call 78 [(.tmp 21), (.tmp 29), (.con (V.int .i64 (Int.ofNat 8)))]) <|
 .nil)))
 (.ops (.op (some 19) .any [5] (.mov (.tmp 5)) <|
 .op (some 20) .any [19] (.bin .add .none (.tmp 19) (.con (V.int .i64 (Int.ofNat 1)))) <|
 .op (some 5) .any [20] (.mov (.tmp 20)) <|
 .nil))))
def A37 : XFn := ⟨31, [.any, .any], [], (C37_0 (C37_1 C37_2 C37_3))⟩
def C38_0 : XC := (.seq (.ops (.op (some 1) .any [0] (.box 26 (.tmp 0)) <|
 .op (some 2) .any [] (.mov (.con (V.bool false))) <|
 .nil))
 (.seq (.ops (.op (some 3) .any [1] (.faddr 3 (.tmp 1)) <|
 .op (some 4) .any [3] (.load none (.tmp 3)) <|
 .op (some 5) .bool [4] (.call 39 [(.tmp 4), (.con (V.fn 79 [] []))]) <|
 .op (some 6) .any [5] (.un .not (.tmp 5)) <|
 .op (some 2) .any [6] (.mov (.tmp 6)) <|
 .nil))
 .ret))
def A38 : XFn := ⟨7, [(.agg [.str, .any, .any, .any])], [(.tmp 2)], C38_0⟩
def C39_0 : XC := (.seq (.ops (.op (some 4) .any [] (.mov (.con (V.bool false))) <|
 .nil))
 (.seq (.ops (.op (some 5) .any [0] (.mov (.tmp 0)) <|
 .op (some 6) .any [1] (.mov (.tmp 1)) <|
 .op (some 7) (.int .i64) [5, 6] (.call 80 [(.tmp 5), (.tmp 6)]) <|
 .op (some 8) .any [7] (.bin .geq .none (.tmp 7) (.con (V.int .i64 (Int.ofNat 0)))) <|
 .op (some 4) .any [8] (.mov (.tmp 8)) <|
 .nil))
 .ret))
def A39 : XFn := ⟨9, [.any, .any], [(.tmp 4)], C39_0⟩
def C40_0 : XC := (.seq (.ops (.op (some 1) .any [0] (.box 111 (.tmp 0)) <|
 .op (some 2) .any [] (.mov (.con (V.bool false))) <|
 .nil))
 (.seq (.ops (.op (some 3) .any [1] (.faddr 0 (.tmp 1)) <|
 .op (some 4) (.int .i64) [3] (.load none (.tmp 3)) <|
 .op (some 5) .any [4] (.bin .eql .none (.tmp 4) (.con (V.int .i64 (Int.ofNat 3)))) <|
 .op (some 6) .any [5] (.mov (.tmp 5)) <|
 .grp 6 true (.op (some 7) .any [1, 6] (.faddr 10 (.tmp 1)) <|
 .op (some 8) (.int .i64) [7, 6] (.load none (.tmp 7)) <|
 .op (some 9) .any [8, 6] (.bin .eql .none (.tmp 8) (.con (V.int .i64 (Int.ofNat 0)))) <|
 .nil) 10 [6, 9] (.tmp 6) (.tmp 9) (.con (V.bool false)) <|
 .op (some 2) .any [10] (.mov (.tmp 10)) <|
 .nil))
 .ret))
def A40 : XFn := ⟨11, [(.agg [(.int .i64), .any, .bool, .bool, .bool, .bool, (.int .i64), (.int .i64), .any, .any, (.int .i64), .bool, (.int .i64)])], [(.tmp 2)], C40_0⟩
def C41_0 : XC := (.seq (.ops (.op (some 2) .any [] (.mov (.con V.nilp)) <|
 .nil))
 (.seq (.ops (.op (some 3) .any [0] (.mov (.tmp 0)) <|
 .op (some 4) .one [3] (.append 5 1 1 (.con V.nils) (.tmp 3)) <|
 .op (some 5) (.agg [.any, (.int .i64)]) [4] (.build [V.nils, (V.int .i64 (Int.ofNat 0))] [(0, 1, (.tmp 4))]) <|
 .op (some 6) (.agg [.any, (.int .i64), (.int .i64)]) [5] (.build [V.nils, (V.int .i64 (Int.ofNat 0)), (V.int .i64 (Int.ofNat 0))] [(0, 2, (.tmp 5))]) <|
 .op (some 7) .any [6] (.box 172 (.tmp 6)) <|
 .op (some 2) .any [7] (.mov (.tmp 7)) <|
 .nil))
 .ret))
def A41 : XFn := ⟨8, [.any], [(.tmp 2)], C41_0⟩
def C42_0 : XC := (.seq (.ops (.op (some 4) .any [1] (.mov (.tmp 1)) <|
 .nil))
 (.cond (.tmp 4) (.ops (.op (some 5) .any [0] (.mov (.tmp 0)) <|
 .op (some 6) .any [5] (.nilck (.tmp 5)) <|
 .op (some 7) .any [6] (.faddr 0 (.tmp 6)) <|
 .op (some 8) .any [7] (.load none (.tmp 7)) <|
 .op (some 9) (.tup []) [8] (.call 81 [(.tmp 8), (.con (V.int .i64 (Int.ofNat 4)))]) <|
 .nil))
 .skip))
def A42 : XFn := ⟨10, [.ptr, .bool], [], C42_0⟩
def C43_0 : XC := (.seq (.ops (.op (some 4) .any [] (.mov (.con (V.bool false))) <|
 .nil))
 (.seq (.ops (.op (some 5) .any [0] (.mov (.tmp 0)) <|
 .op (some 6) .any [5] (.nilck (.tmp 5)) <|
 .op (some 7) .any [6] (.faddr 0 (.tmp 6)) <|
 .op (some 8) (.int .i64) [7] (.load none (.tmp 7)) <|
 .op (some 9) .any [1] (.mov (.tmp 1)) <|
 .op (some 10) .any [8, 9] (.bin .add .none (.tmp 8) (.tmp 9)) <|
 .op (some 11) .any [5] (.nilck (.tmp 5)) <|
 .op (some 12) .any [11] (.faddr 0 (.tmp 11)) <|
 .op none .any [12, 10] (.store 1 (.tmp 12) (.tmp 10)) <|
 .nil))
 (.seq (.ops (.op (some 13) .any [0] (.mov (.tmp 0)) <|
 .op (some 14) .any [13] (.nilck (.tmp 13)) <|
 .op (some 15) .any [14] (.faddr 0 (.tmp 14)) <|
 .op (some 16) (.int .i64) [15] (.load none (.tmp 15)) <|
 .op (some 17) .any [16] (.bin .leq .none (.tmp 16) (.con (V.int .i64 (Int.ofNat 5000)))) <|
 .op (some 4) .any [17] (.mov (.tmp 17)) <|
 .nil))
 .ret)))
def A43 : XFn := ⟨18, [.ptr, (.int .i64)], [(.tmp 4)], C43_0⟩
def C44_0 : XC := (.seq (.ops (.op (some 2) .any [] (.mov (.con (V.bool false))) <|
 .nil))
 (.seq (.ops (.op (some 3) .any [0] (.mov (.tmp 0)) <|
 .op (some 4) .any [3] (.nilck (.tmp 3)) <|
 .op (some 5) .any [4] (.faddr 0 (.tmp 4)) <|
 .op (some 6) .any [5] (.load none (.tmp 5)) <|
 .op (some 7) (.int .i64) [6] (.call 56 [(.tmp 6)]) <|
 .op (some 8) .any [7] (.bin .eql .none (.tmp 7) (.con (V.int .i64 (Int.ofNat 0)))) <|
 .op (some 2) .any [8] (.mov (.tmp 8)) <|
 .nil))
 .ret))
def A44 : XFn := ⟨9, [.ptr], [(.tmp 2)], C44_0⟩
def C45_0 : XC := (.seq (.ops (.op (some 4) .any [] (.mov (.con (V.int .u64 (Int.ofNat 0)))) <|
 .nil))
 (.seq (.ops (.op (some 6) .any [1] (.mov (.tmp 1)) <|
 .op (some 7) (.int .i64) [6] (.call 82 [(.tmp 6)]) <|
 .op (some 1) .any [7] (.mov (.tmp 7)) <|
 .nil))
 (.seq (.seq (.ops (.op (some 8) .any [0] (.mov (.tmp 0)) <|
 .op (some 9) (.int .i64) [8] (.call 56 [(.tmp 8)]) <|
 .op (some 10) .any [9] (.bin .neq .none (.tmp 9) (.con (V.int .i64 (Int.ofNat 0)))) <|
 .nil))
 (.cond (.tmp 10) (.seq (.ops (.op (some 4) .any [] (.mov (.con (V.int .u64 (Int.ofNat 0)))) <|
 .nil))
 .ret)
 .skip))
 (.seq (.seq (.ops (.op (some 11) .any [1] (.mov (.tmp 1)) <|
 .op (some 12) .any [0] (.mov (.tmp 0)) <|
 .op (some 13) (.int .i64) [12] (.call 57 [(.tmp 12)]) <|
 .op (some 14) .any [11, 13] (.bin .gtr .none (.tmp 11) (.tmp 13)) <|
 .nil))
 (.cond (.tmp 14) (.seq (.ops (.op (some 15) .any [0] (.mov (.tmp 0)) <|
 .op (some 16) (.tup []) [15] (.call 81 [(.tmp 15), (.con (V.int .i64 (Int.ofNat 3)))]) <|
 .nil))
 (.seq (.ops (.op (some 4) .any [] (.mov (.con (V.int .u64 (Int.ofNat 0)))) <|
 .nil))
 .ret))
 .skip))
 (.seq (.ops (.op (some 17) .any [0] (.mov (.tmp 0)) <|
 .op (some 18) .any [17] (.nilck (.tmp 17)) <|
 .op (some 19) .any [18] (.faddr 0 (.tmp 18)) <|
 .op (some 20) .any [19] (.load none (.tmp 19)) <|
 .op (some 21) .any [1] (.mov (.tmp 1)) <|
 .op (some 22) .any [21] (.bin .sub .none (.tmp 21) (.con (V.int .i64 (Int.ofNat 32)))) <|
 .op (some 23) (.int .u32) [20, 22] (.call 83 [(.tmp 20), (.tmp 22)]) <|
 .op (some 24) .any [23] (.conv (.toInt .u64) (.tmp 23)) <|
 .op (some 5) .any [24] (.mov (.tmp 24)) <|
 .nil))
 (.seq (.draw (.op (some 25) .any [5] (.mov (.tmp 5)) <|
 .op (some 26) .any [1] (.mov (.tmp 1)) <|
 .op (some 27) .any [26] (.min (.tmp 26) [(.con (V.int .i64 (Int.ofNat 32)))]) <|
 .op (some 28) .any [25, 27] (.bin .shl .none (.tmp 25) (.tmp 27)) <|
 .op (some 29) .any [0] (.mov (.tmp 0)) <|
 .op (some 30) .any [29] (.nilck (.tmp 29)) <|
 .op (some 31) .any [30] (.faddr 0 (.tmp 30)) <|
 .op (some 32) .any [31] (.load none (.tmp 31)) <|
 .op (some 33) .any [1] (.mov (.tmp 1)) <|
 .op (some 34) .any [33] (.min (.tmp 33) [(.con (V.int .i64 (Int.ofNat 32)))]) <|
 .op (some 35) (.int .u32) [32, 34] (.call 83 [(.tmp 32), (.tmp 34)]) <|
 .op (some 36) .any [35] (.conv (.toInt .u64) (.tmp 35)) <|
 .op (some 37) .any [28, 36] (.bin .or .none (.tmp 28) (.tmp 36)) <|
 .op (some 4) .any [37] (.mov (.tmp 37)) <|
 .nil) [0, 0, 2, 7, 0, 16, 48, 112, 0, 256, 1008, 2032, 4095, 8191])
 .ret))))))
def A45 : XFn := ⟨38, [.ptr, (.int .i64)], [(.tmp 4)], C45_0⟩
def G46_0 : List AOper := [⟨(some 29), .faddr 4 (.tmp 3), none⟩, ⟨(some 30), .load none (.tmp 29), none⟩, ⟨(some 31), .conv (.toInt .u64) (.tmp 30), none⟩, ⟨(some 32), .mov (.tmp 0), none⟩, ⟨(some 33), .nilck (.tmp 32), none⟩, ⟨(some 34), .faddr 0 (.tmp 33), none⟩, ⟨(some 35), .load none (.tmp 34), none⟩, ⟨(some 36), .mov (.tmp 6), none⟩, ⟨(some 37), .call 86 [(.tmp 35), (.tmp 36)], none⟩, ⟨(some 38), .bin .add .none (.tmp 31) (.tmp 37), none⟩, ⟨(some 39), .conv (.toInt .i64) (.tmp 38), none⟩, ⟨(some 4), .mov (.tmp 39), none⟩]
def H46_0 : List DP := [⟨0, [3]⟩, ⟨1, [29]⟩, ⟨3, [30]⟩, ⟨0, [0]⟩, ⟨8, [32]⟩, ⟨24, [33]⟩, ⟨56, [34]⟩, ⟨0, [6]⟩, ⟨248, [35, 36]⟩, ⟨511, [31, 37]⟩, ⟨1023, [38]⟩, ⟨2047, [39]⟩]
def C46_0 : XC := (.seq (.ops (.op (some 3) .any [1] (.box 107 (.tmp 1)) <|
 .op (some 4) .any [] (.mov (.con (V.int .i64 (Int.ofNat 0)))) <|
 .nil))
 (.seq (.ops (.op (some 12) .any [3] (.faddr 3 (.tmp 3)) <|
 .op (some 13) .bool [12] (.load none (.tmp 12)) <|
 .op (some 14) .any [13] (.mov (.tmp 13)) <|
 .grp 14 true (.op (some 15) .any [0, 14] (.mov (.tmp 0)) <|
 .op (some 16) .bool [15, 14] (.call 84 [(.tmp 15)]) <|
 .nil) 17 [14, 16] (.tmp 14) (.tmp 16) (.con (V.bool false)) <|
 .op (some 5) .any [17] (.mov (.tmp 17)) <|
 .nil))
 (.seq (.ops (.op (some 19) (.agg [.bool, .bool, .bool, .bool, (.int .i64), (.int .i64)]) [3] (.load (some 6) (.tmp 3)) <|
 .op (some 20) (.tup [(.int .u64), .bool]) [19] (.call 85 [(.tmp 19)]) <|
 .op (some 18) .any [20] (.mov (.tmp 20)) <|
 .op (some 21) .any [18] (.extract 0 (.tmp 18)) <|
 .op (some 22) .any [18] (.extract 1 (.tmp 18)) <|
 .op (some 6) .any [21] (.mov (.tmp 21)) <|
 .op (some 7) .any [22] (.mov (.tmp 22)) <|
 .nil))
 (.seq (.block 0 (.seq (.ops (.op (some 24) .any [5] (.mov (.tmp 5)) <|
 .op (some 25) .any [24] (.un .not (.tmp 24)) <|
 .op (some 26) .any [25] (.mov (.tmp 25)) <|
 .grp 26 true (.op (some 27) .any [7, 26] (.mov (.tmp 7)) <|
 .nil) 28 [26, 27] (.tmp 26) (.tmp 27) (.con (V.bool false)) <|
 .op (some 23) .any [28] (.mov (.tmp 28)) <|
 .nil))
 (.cond (.tmp 23) (.seq (.keep [(0, .ptr), (3, .ptr), (6, (.int .u64))] [] [] (.gdraw G46_0 H46_0 [(4, (.int .i64))]))
 .ret)
 (.seq (.ops (.op (some 41) .any [5] (.mov (.tmp 5)) <|
 .op (some 42) .any [41] (.un .not (.tmp 41)) <|
 .op (some 43) .any [42] (.mov (.tmp 42)) <|
 .grp 43 true (.op (some 44) .any [3, 43] (.faddr 0 (.tmp 3)) <|
 .op (some 45) .bool [44, 43] (.load none (.tmp 44)) <|
 .nil) 46 [43, 45] (.tmp 43) (.tmp 45) (.con (V.bool false)) <|
 .op (some 47) .any [46] (.mov (.tmp 46)) <|
 .grp 47 true (.op (some 48) .any [3, 47] (.faddr 1 (.tmp 3)) <|
 .op (some 49) .bool [48, 47] (.load none (.tmp 48)) <|
 .nil) 50 [47, 49] (.tmp 47) (.tmp 49) (.con (V.bool false)) <|
 .op (some 40) .any [50] (.mov (.tmp 50)) <|
 .nil))
 (.cond (.tmp 40) (.seq (.ops (.op (some 52) .any [0] (.mov (.tmp 0)) <|
 .op (some 53) .any [52] (.nilck (.tmp 52)) <|
 .op (some 54) .any [53] (.faddr 0 (.tmp 53)) <|
 .op (some 55) .any [54] (.load none (.tmp 54)) <|
 .op (some 56) .one [55] (.call 48 [(.tmp 55), (.con (V.int .i64 (Int.ofNat 8)))]) <|
 .op (some 57) (.tup [(.int .u64), (.int .i64)]) [56] (.call 87 [(.tmp 56)]) <|
 .op (some 51) .any [57] (.mov (.tmp 57)) <|
 .op (some 58) .any [51] (.extract 0 (.tmp 51)) <|
 .op (some 59) .any [51] (.extract 1 (.tmp 51)) <|
 .op (some 8) .any [58] (.mov (.tmp 58)) <|
 .op (some 9) .any [59] (.mov (.tmp 59)) <|
 .nil))
 (.seq (.ops (.op (some 60) .any [0] (.mov (.tmp 0)) <|
 .op (some 61) .any [9] (.mov (.tmp 9)) <|
 .op (some 62) .any [61] (.bin .neq .none (.tmp 61) (.con (V.int .i64 (Int.ofNat 0)))) <|
 .op (some 63) .any [62] (.mov (.tmp 62)) <|
 .grp 63 false (.op (some 64) .any [8, 63] (.mov (.tmp 8)) <|
 .op (some 65) .any [3, 63] (.faddr 4 (.tmp 3)) <|
 .op (some 66) (.int .i64) [65, 63] (.load none (.tmp 65)) <|
 .op (some 67) .any [66, 63] (.conv (.toInt .u64) (.tmp 66)) <|
 .op (some 68) .any [67, 63] (.bin .sub .none (.con (V.int .u64 (Int.ofNat 9223372036854775807))) (.tmp 67)) <|
 .op (some 69) .any [64, 68, 63] (.bin .gtr .none (.tmp 64) (.tmp 68)) <|
 .nil) 70 [63, 69] (.tmp 63) (.con (V.bool true)) (.tmp 69) <|
 .op (some 71) (.tup []) [60, 70] (.call 42 [(.tmp 60), (.tmp 70)]) <|
 .nil))
 (.seq (.ops (.op (some 72) .any [3] (.faddr 4 (.tmp 3)) <|
 .op (some 73) (.int .i64) [72] (.load none (.tmp 72)) <|
 .op (some 74) .any [73] (.conv (.toInt .u64) (.tmp 73)) <|
 .op (some 75) .any [8] (.mov (.tmp 8)) <|
 .op (some 76) .any [74, 75] (.bin .add .none (.tmp 74) (.tmp 75)) <|
 .op (some 77) .any [76] (.conv (.toInt .i64) (.tmp 76)) <|
 .op (some 4) .any [77] (.mov (.tmp 77)) <|
 .nil))
 .ret)))
 .skip)))))
 (.seq (.ops (.op (some 79) .any [0] (.mov (.tmp 0)) <|
 .op (some 80) .any [79] (.nilck (.tmp 79)) <|
 .op (some 81) .any [80] (.faddr 0 (.tmp 80)) <|
 .op (some 82) .any [81] (.load none (.tmp 81)) <|
 .op (some 83) .one [82] (.call 48 [(.tmp 82), (.con (V.int .i64 (Int.ofNat 8)))]) <|
 .op (some 84) (.tup [(.int .i64), (.int .i64)]) [83] (.call 88 [(.tmp 83)]) <|
 .op (some 78) .any [84] (.mov (.tmp 84)) <|
 .op (some 85) .any [78] (.extract 0 (.tmp 78)) <|
 .op (some 86) .any [78] (.extract 1 (.tmp 78)) <|
 .op (some 10) .any [85] (.mov (.tmp 85)) <|
 .op (some 11) .any [86] (.mov (.tmp 86)) <|
 .nil))
 (.seq (.ops (.op (some 87) .any [0] (.mov (.tmp 0)) <|
 .op (some 88) .any [11] (.mov (.tmp 11)) <|
 .op (some 89) .any [88] (.bin .neq .none (.tmp 88) (.con (V.int .i64 (Int.ofNat 0)))) <|
 .op (some 90) .any [89] (.mov (.tmp 89)) <|
 .grp 90 false (.op (some 91) (.agg [.bool, .bool, .bool, .bool, (.int .i64), (.int .i64)]) [3, 90] (.load (some 6) (.tmp 3)) <|
 .op (some 92) .any [10, 90] (.mov (.tmp 10)) <|
 .op (some 93) .bool [91, 92, 90] (.call 89 [(.tmp 91), (.tmp 92)]) <|
 .op (some 94) .any [5, 90] (.mov (.tmp 5)) <|
 .op (some 95) .any [93, 94, 90] (.bin .eql .bool (.tmp 93) (.tmp 94)) <|
 .nil) 96 [90, 95] (.tmp 90) (.con (V.bool true)) (.tmp 95) <|
 .op (some 97) (.tup []) [87, 96] (.call 42 [(.tmp 87), (.tmp 96)]) <|
 .nil))
 (.seq (.ops (.op (some 98) .any [10] (.mov (.tmp 10)) <|
 .op (some 4) .any [98] (.mov (.tmp 98)) <|
 .nil))
 .ret)))))))
def A46 : XFn := ⟨99, [.ptr, (.agg [.bool, .bool, .bool, .bool, (.int .i64), (.int .i64)])], [(.tmp 4)], C46_0⟩
def C48_0 : XC := (.seq (.ops (.op (some 2) .any [0] (.box 64 (.tmp 0)) <|
 .op (some 4) .any [] (.mov (.con V.nils)) <|
 .nil))
 (.seq (.ops (.op (some 5) .any [] (.alloc 30 [V.nils]) <|
 .nil))
 (.seq (.ops (.op (some 6) .any [2] (.load none (.tmp 2)) <|
 .op (some 7) .any [1] (.mov (.tmp 1)) <|
 .op (some 8) .any [5, 2] (.mkfn 93 [] [(.tmp 5), (.tmp 2)]) <|
 .op (some 9) (.int .i64) [6, 7, 8] (.call 92 [(.tmp 6), (.tmp 7), (.tmp 8)]) <|
 .nil))
 (.seq (.seq (.ops (.op (some 10) .any [2] (.load none (.tmp 2)) <|
 .op (some 11) (.int .i64) [10] (.call 56 [(.tmp 10)]) <|
 .op (some 12) .any [11] (.bin .neq .none (.tmp 11) (.con (V.int .i64 (Int.ofNat 0)))) <|
 .nil))
 (.cond (.tmp 12) (.seq (.ops (.op (some 4) .any [] (.mov (.con V.nils)) <|
 .nil))
 .ret)
 .skip))
 (.seq (.ops (.op (some 13) .any [5] (.load none (.tmp 5)) <|
 .op (some 4) .any [13] (.mov (.tmp 13)) <|
 .nil))
 .ret)))))
def A48 : XFn := ⟨14, [.any, (.int .i64)], [(.tmp 4)], C48_0⟩
def C51_0 : XC := (.seq (.ops (.op (some 4) .any [] (.mov (.con V.nils)) <|
 .nil))
 (.seq (.seq (.ops (.op (some 5) .any [0] (.mov (.tmp 0)) <|
 .op (some 6) (.int .i64) [5] (.call 56 [(.tmp 5)]) <|
 .op (some 7) .any [6] (.bin .neq .none (.tmp 6) (.con (V.int .i64 (Int.ofNat 0)))) <|
 .nil))
 (.cond (.tmp 7) (.seq (.ops (.op (some 4) .any [] (.mov (.con V.nils)) <|
 .nil))
 .ret)
 .skip))
 (.seq (.ops (.op (some 8) .any [0] (.mov (.tmp 0)) <|
 .op (some 9) .any [8] (.nilck (.tmp 8)) <|
 .op (some 10) .any [9] (.faddr 0 (.tmp 9)) <|
 .op (some 11) .any [10] (.load none (.tmp 10)) <|
 .op (some 12) .any [1] (.mov (.tmp 1)) <|
 .op (some 13) .one [11, 12] (.call 95 [(.tmp 11), (.tmp 12)]) <|
 .op (some 4) .any [13] (.mov (.tmp 13)) <|
 .nil))
 .ret)))
def A51 : XFn := ⟨14, [.ptr, (.int .i64)], [(.tmp 4)], C51_0⟩
def G55_0 : List AOper := [⟨(some 18), .faddr 0 (.tmp 7), none⟩, ⟨(some 19), .load none (.tmp 18), none⟩, ⟨(some 20), .faddr 9 (.tmp 7), none⟩, ⟨(some 21), .load none (.tmp 20), none⟩, ⟨(some 22), .len false (.tmp 21), none⟩, ⟨(some 23), .mkslice 39 6 96 [(V.int .i64 (Int.ofNat 0)), (V.int .i64 (Int.ofNat 0)), V.nils, V.nils, (V.int .i64 (Int.ofNat 0)), V.nils] (.tmp 22) (.tmp 22), none⟩, ⟨(some 24), .build [(V.int .i64 (Int.ofNat 0)), (V.int .i64 (Int.ofNat 0)), V.nils, V.nils, (V.int .i64 (Int.ofNat 0)), V.nils] [(0, 1, (.tmp 19)), (3, 1, (.tmp 23))], none⟩, ⟨(some 8), .alloc 39 [(V.int .i64 (Int.ofNat 0)), (V.int .i64 (Int.ofNat 0)), V.nils, V.nils, (V.int .i64 (Int.ofNat 0)), V.nils], none⟩, ⟨none, .store 6 (.tmp 8) (.tmp 24), none⟩]
def H55_0 : List DP := [⟨0, [7]⟩, ⟨1, [18]⟩, ⟨0, [7]⟩, ⟨4, [20]⟩, ⟨12, [21]⟩, ⟨28, [22, 22]⟩, ⟨63, [19, 23]⟩, ⟨0, []⟩, ⟨255, [8, 24]⟩]
def G55_1 : List AOper := [⟨(some 42), .mov (.tmp 0), none⟩, ⟨(some 43), .load (some 13) (.tmp 7), none⟩, ⟨(some 44), .mov (.tmp 0), none⟩, ⟨(some 45), .nilck (.tmp 44), none⟩, ⟨(some 46), .faddr 1 (.tmp 45), none⟩, ⟨(some 47), .load (some 4) (.tmp 46), none⟩, ⟨(some 48), .mov (.tmp 1), none⟩, ⟨(some 49), .call 103 [(.tmp 47), (.tmp 48)], none⟩, ⟨(some 50), .faddr 10 (.tmp 7), none⟩, ⟨(some 51), .load none (.tmp 50), none⟩, ⟨(some 52), .sliceSl 1 (.tmp 49) none (some (.tmp 51)) none, none⟩, ⟨(some 53), .mov (.tmp 2), none⟩, ⟨(some 54), .call 104 [(.tmp 42), (.tmp 43), (.tmp 8), (.tmp 52), (.tmp 53)], none⟩]
def H55_1 : List DP := [⟨0, [0]⟩, ⟨0, [7]⟩, ⟨0, [0]⟩, ⟨4, [44]⟩, ⟨12, [45]⟩, ⟨28, [46]⟩, ⟨0, [1]⟩, ⟨124, [47, 48]⟩, ⟨0, [7]⟩, ⟨256, [50]⟩, ⟨1020, [49, 51]⟩, ⟨0, [2]⟩, ⟨4095, [42, 43, 8, 52, 53]⟩]
def C55_0 (cc1 : XC) : XC := (.seq (.ops (.op (some 6) .any [] (.alloc 39 [(V.int .i64 (Int.ofNat 0)), (V.int .i64 (Int.ofNat 0)), V.nils, V.nils, (V.int .i64 (Int.ofNat 0)), V.nils]) <|
 .nil))
 (.seq (.ops (.op (some 10) .any [0] (.mov (.tmp 0)) <|
 .op (some 11) .any [10] (.nilck (.tmp 10)) <|
 .op (some 12) .any [11] (.faddr 1 (.tmp 11)) <|
 .op (some 13) .any [12] (.faddr 3 (.tmp 12)) <|
 .op (some 14) .any [13] (.load none (.tmp 13)) <|
 .op (some 15) .any [1] (.mov (.tmp 1)) <|
 .op (some 16) .any [14, 15] (.iaddrS 13 (.tmp 14) (.tmp 15)) <|
 .op (some 17) (.agg [(.int .i64), .any, .bool, .bool, .bool, .bool, (.int .i64), (.int .i64), .any, .any, (.int .i64), .bool, (.int .i64)]) [16] (.load (some 13) (.tmp 16)) <|
 .op (some 7) .any [] (.alloc 111 [(V.int .i64 (Int.ofNat 0)), V.nils, (V.bool false), (V.bool false), (V.bool false), (V.bool false), (V.int .i64 (Int.ofNat 0)), (V.int .i64 (Int.ofNat 0)), V.nils, V.nils, (V.int .i64 (Int.ofNat 0)), (V.bool false), (V.int .i64 (Int.ofNat 0))]) <|
 .op none (.agg [(.int .i64), .any, .bool, .bool, .bool, .bool, (.int .i64), (.int .i64), .any, .any, (.int .i64), .bool, (.int .i64)]) [7, 17] (.store 13 (.tmp 7) (.tmp 17)) <|
 .nil))
 (.seq (.keep [(0, .ptr), (1, (.int .i64)), (2, (.int .i64)), (6, .ptr), (7, .ptr)] [] [] (.gdraw G55_0 H55_0 [(0, .ptr), (1, (.int .i64)), (2, (.int .i64)), (6, .ptr), (7, .ptr), (8, .ptr)]))
 (.seq (.draw (.op (some 25) .any [0] (.mov (.tmp 0)) <|
 .op (some 26) .any [0] (.mov (.tmp 0)) <|
 .op (some 27) .any [26] (.nilck (.tmp 26)) <|
 .op (some 28) .any [27] (.faddr 5 (.tmp 27)) <|
 .op (some 29) .any [28] (.load none (.tmp 28)) <|
 .op (some 30) .any [7] (.faddr 9 (.tmp 7)) <|
 .op (some 31) .any [30] (.load none (.tmp 30)) <|
 .op (some 32) .any [31] (.len false (.tmp 31)) <|
 .op (some 33) .bool [29, 32] (.call 43 [(.tmp 29), (.tmp 32)]) <|
 .op (some 34) .any [33] (.un .not (.tmp 33)) <|
 .op (some 35) (.tup []) [25, 34] (.call 42 [(.tmp 25), (.tmp 34)]) <|
 .nil) [0, 0, 2, 6, 14, 0, 32, 96, 254, 510, 1023])
 (.seq (.ops (.op (some 36) .any [7] (.faddr 11 (.tmp 7)) <|
 .op (some 37) .bool [36] (.load none (.tmp 36)) <|
 .op (some 38) .any [37] (.mov (.tmp 37)) <|
 .grp 38 true (.op (some 39) .any [0, 38] (.mov (.tmp 0)) <|
 .op (some 40) .bool [39, 38] (.call 84 [(.tmp 39)]) <|
 .nil) 41 [38, 40] (.tmp 38) (.tmp 40) (.con (V.bool false)) <|
 .op (some 9) .any [41] (.mov (.tmp 41)) <|
 .nil))
 (.seq (.keep [(0, .ptr), (1, (.int .i64)), (2, (.int .i64)), (6, .ptr), (7, .ptr), (8, .ptr), (9, .bool)] [] [] (.gdraw G55_1 H55_1 [(0, .ptr), (1, (.int .i64)), (2, (.int .i64)), (6, .ptr), (8, .ptr), (9, .bool)]))
 (.seq (.seq (.ops (.op (some 55) .any [9] (.mov (.tmp 9)) <|
 .op (some 56) .any [55] (.mov (.tmp 55)) <|
 .grp 56 true (.op (some 57) .any [0, 56] (.mov (.tmp 0)) <|
 .op (some 58) .bool [57, 56] (.call 44 [(.tmp 57)]) <|
 .nil) 59 [56, 58] (.tmp 56) (.tmp 58) (.con (V.bool false)) <|
 .nil))
 (.cond (.tmp 59) (.ops (.op (some 60) .any [0] (.mov (.tmp 0)) <|
 .op (some 61) .any [1] (.mov (.tmp 1)) <|
 .op (some 62) .any [2] (.mov (.tmp 2)) <|
 .op (some 63) (.tup []) [60, 61, 8, 62] (.call 105 [(.tmp 60), (.tmp 61), (.tmp 8), (.tmp 62)]) <|
 .nil))
 .skip))
 (.keep [(6, .ptr), (8, .ptr)] [] [] cc1))))))))
def C55_1 : XC := (.seq (.ops (.op (some 64) (.agg [(.int .i64), (.int .i64), .any, .any, (.int .i64), .any]) [8] (.load (some 6) (.tmp 8)) <|
 .op none (.agg [(.int .i64), (.int .i64), .any, .any, (.int .i64), .any]) [6, 64] (.store 6 (.tmp 6) (.tmp 64)) <|
 .nil))
 .ret)
def A55 : XFn := ⟨65, [.ptr, (.int .i64), (.int .i64)], [(.cell 6 (some 6))], (C55_0 C55_1)⟩
def C56_0 : XC := (.seq (.ops (.op (some 2) .any [] (.mov (.con (V.int .i64 (Int.ofNat 0)))) <|
 .nil))
 (.seq (.block 0 (.seq (.ops (.op (some 4) .any [0] (.mov (.tmp 0)) <|
 .op (some 5) .any [4] (.bin .eql .ptr (.tmp 4) (.con V.nilp)) <|
 .op (some 3) .any [5] (.mov (.tmp 5)) <|
 .nil))
 (.cond (.tmp 3) (.seq (.ops (.op (some 2) .any [] (.mov (.con (V.int .i64 (Int.ofNat 2)))) <|
 .nil))
 .ret)
 (.seq (.ops (.op (some 7) .any [0] (.mov (.tmp 0)) <|
 .op (some 8) .any [7] (.nilck (.tmp 7)) <|
 .op (some 9) .any [8] (.faddr 1 (.tmp 8)) <|
 .op (some 10) (.int .i64) [9] (.load none (.tmp 9)) <|
 .op (some 11) .any [10] (.bin .neq .none (.tmp 10) (.con (V.int .i64 (Int.ofNat 0)))) <|
 .op (some 6) .any [11] (.mov (.tmp 11)) <|
 .nil))
 (.cond (.tmp 6) (.seq (.ops (.op (some 12) .any [0] (.mov (.tmp 0)) <|
 .op (some 13) .any [12] (.nilck (.tmp 12)) <|
 .op (some 14) .any [13] (.faddr 1 (.tmp 13)) <|
 .op (some 15) (.int .i64) [14] (.load none (.tmp 14)) <|
 .op (some 2) .any [15] (.mov (.tmp 15)) <|
 .nil))
 .ret)
 .skip)))))
 (.seq (.ops (.op (some 16) .any [0] (.mov (.tmp 0)) <|
 .op (some 17) .any [16] (.nilck (.tmp 16)) <|
 .op (some 18) .any [17] (.faddr 0 (.tmp 17)) <|
 .op (some 19) .any [18] (.load none (.tmp 18)) <|
 .op (some 20) (.int .i64) [19] (.call 106 [(.tmp 19)]) <|
 .op (some 2) .any [20] (.mov (.tmp 20)) <|
 .nil))
 .ret)))
def A56 : XFn := ⟨21, [.any], [(.tmp 2)], C56_0⟩
def C57_0 : XC := (.seq (.ops (.op (some 2) .any [] (.mov (.con (V.int .i64 (Int.ofNat 0)))) <|
 .nil))
 (.seq (.seq (.ops (.op (some 3) .any [0] (.mov (.tmp 0)) <|
 .op (some 4) .any [3] (.bin .eql .ptr (.tmp 3) (.con V.nilp)) <|
 .nil))
 (.cond (.tmp 4) (.seq (.ops (.op (some 2) .any [] (.mov (.con (V.int .i64 (Int.ofNat 0)))) <|
 .nil))
 .ret)
 .skip))
 (.seq (.ops (.op (some 5) .any [0] (.mov (.tmp 0)) <|
 .op (some 6) .any [5] (.nilck (.tmp 5)) <|
 .op (some 7) .any [6] (.faddr 0 (.tmp 6)) <|
 .op (some 8) .any [7] (.load none (.tmp 7)) <|
 .op (some 9) (.int .i64) [8] (.call 107 [(.tmp 8)]) <|
 .op (some 2) .any [9] (.mov (.tmp 9)) <|
 .nil))
 .ret)))
def A57 : XFn := ⟨10, [.any], [(.tmp 2)], C57_0⟩
def C58_0 : XC := (.seq (.ops (.op (some 2) .any [] (.mov (.con (V.int .i64 (Int.ofNat 0)))) <|
 .nil))
 (.seq (.seq (.ops (.op (some 6) .any [0] (.mov (.tmp 0)) <|
 .op (some 7) (.int .i64) [6] (.call 106 [(.tmp 6)]) <|
 .op (some 3) .any [7] (.mov (.tmp 7)) <|
 .nil))
 (.seq (.ops (.op (some 8) .any [3] (.mov (.tmp 3)) <|
 .op (some 9) .any [8] (.bin .neq .none (.tmp 8) (.con (V.int .i64 (Int.ofNat 0)))) <|
 .nil))
 (.cond (.tmp 9) (.seq (.ops (.op (some 10) .any [3] (.mov (.tmp 3)) <|
 .op (some 2) .any [10] (.mov (.tmp 10)) <|
 .nil))
 .ret)
 .skip)))
 (.seq (.ops (.op (some 11) .any [0] (.mov (.tmp 0)) <|
 .op (some 12) .any [11] (.nilck (.tmp 11)) <|
 .op (some 13) .any [12] (.faddr 0 (.tmp 12)) <|
 .op (some 14) (.agg [.any, (.int .i64)]) [13] (.load (some 2) (.tmp 13)) <|
 .op (some 4) .any [] (.alloc 170 [V.nils, (V.int .i64 (Int.ofNat 0))]) <|
 .op none (.agg [.any, (.int .i64)]) [4, 14] (.store 2 (.tmp 4) (.tmp 14)) <|
 .nil))
 (.seq (.seq (.ops (.op (some 15) (.int .i64) [4] (.call 108 [(.tmp 4)]) <|
 .op (some 5) .any [15] (.mov (.tmp 15)) <|
 .nil))
 (.seq (.ops (.op (some 16) .any [5] (.mov (.tmp 5)) <|
 .op (some 17) .any [16] (.bin .geq .none (.tmp 16) (.con (V.int .i64 (Int.ofNat 8)))) <|
 .op (some 18) .any [17] (.mov (.tmp 17)) <|
 .grp 18 false (.op (some 19) .any [5, 18] (.mov (.tmp 5)) <|
 .op (some 20) (.int .u32) [4, 19, 18] (.call 109 [(.tmp 4), (.tmp 19)]) <|
 .op (some 21) .any [20, 18] (.bin .neq .none (.tmp 20) (.con (V.int .u32 (Int.ofNat 0)))) <|
 .nil) 22 [18, 21] (.tmp 18) (.con (V.bool true)) (.tmp 21) <|
 .nil))
 (.cond (.tmp 22) (.seq (.ops (.op (some 2) .any [] (.mov (.con (V.int .i64 (Int.ofNat 4)))) <|
 .nil))
 .ret)
 .skip)))
 (.seq (.ops (.op (some 2) .any [] (.mov (.con (V.int .i64 (Int.ofNat 0)))) <|
 .nil))
 .ret)))))
def A58 : XFn := ⟨23, [.ptr], [(.tmp 2)], C58_0⟩
def C59_0 (cc1 : XC) (cc2 : XC) : XC := (.seq (.ops (.op (some 6) .any [2] (.box 39 (.tmp 2)) <|
 .op (some 8) .any [] (.mov (.con (V.bool false))) <|
 .nil))
 (.seq (.seq (.ops (.op (some 10) .any [1] (.mov (.tmp 1)) <|
 .op (some 11) .any [10] (.bin .lss .none (.tmp 10) (.con (V.int .i64 (Int.ofNat 0)))) <|
 .op (some 12) .any [11] (.mov (.tmp 11)) <|
 .grp 12 false (.op (some 13) .any [1, 12] (.mov (.tmp 1)) <|
 .op (some 14) .any [0, 12] (.mov (.tmp 0)) <|
 .op (some 15) .any [14, 12] (.nilck (.tmp 14)) <|
 .op (some 16) .any [15, 12] (.faddr 0 (.tmp 15)) <|
 .op (some 17) .any [16, 12] (.faddr 0 (.tmp 16)) <|
 .op (some 18) .any [17, 12] (.faddr 3 (.tmp 17)) <|
 .op (some 19) .any [18, 12] (.load none (.tmp 18)) <|
 .op (some 20) .any [19, 12] (.len false (.tmp 19)) <|
 .op (some 21) .any [13, 20, 12] (.bin .geq .none (.tmp 13) (.tmp 20)) <|
 .nil) 22 [12, 21] (.tmp 12) (.con (V.bool true)) (.tmp 21) <|
 .op (some 23) .any [22] (.mov (.tmp 22)) <|
 .grp 23 false (.op (some 24) .any [3, 23] (.mov (.tmp 3)) <|
 .op (some 25) .any [24, 23] (.bin .gtr .none (.tmp 24) (.con (V.int .i64 (Int.ofNat 17)))) <|
 .nil) 26 [23, 25] (.tmp 23) (.con (V.bool true)) (.tmp 25) <|
 .nil))
 (.cond (.tmp 26) (.seq (.ops (.op (some 8) .any [] (.mov (.con (V.bool false))) <|
 .nil))
 .ret)
 .skip))
 (.seq (.ops (.op (some 27) .any [0] (.mov (.tmp 0)) <|
 .op (some 28) .any [27] (.nilck (.tmp 27)) <|
 .op (some 29) .any [28] (.faddr 0 (.tmp 28)) <|
 .op (some 30) .any [29] (.faddr 0 (.tmp 29)) <|
 .op (some 31) .any [30] (.faddr 3 (.tmp 30)) <|
 .op (some 32) .any [31] (.load none (.tmp 31)) <|
 .op (some 33) .any [1] (.mov (.tmp 1)) <|
 .op (some 34) .any [32, 33] (.iaddrS 13 (.tmp 32) (.tmp 33)) <|
 .op (some 35) (.agg [(.int .i64), .any, .bool, .bool, .bool, .bool, (.int .i64), (.int .i64), .any, .any, (.int .i64), .bool, (.int .i64)]) [34] (.load (some 13) (.tmp 34)) <|
 .pal 9 [] 111 [(V.int .i64 (Int.ofNat 0)), V.nils, (V.bool false), (V.bool false), (V.bool false), (V.bool false), (V.int .i64 (Int.ofNat 0)), (V.int .i64 (Int.ofNat 0)), V.nils, V.nils, (V.int .i64 (Int.ofNat 0)), (V.bool false), (V.int .i64 (Int.ofNat 0))] <|
 .op none (.agg [(.int .i64), .any, .bool, .bool, .bool, .bool, (.int .i64), (.int .i64), .any, .any, (.int .i64), .bool, (.int .i64)]) [9, 35] (.store 13 (.tmp 9) (.tmp 35)) <|
 .nil))
 (.seq (.seq (.ops (.op (some 36) .any [6] (.faddr 0 (.tmp 6)) <|
 .op (some 37) (.int .i64) [36] (.load none (.tmp 36)) <|
 .op (some 38) .any [37] (.bin .eql .none (.tmp 37) (.con (V.int .i64 (Int.ofNat 12)))) <|
 .nil))
 (.cond (.tmp 38) (.seq (.ops (.op (some 39) .any [0] (.mov (.tmp 0)) <|
 .op (some 40) .any [1] (.mov (.tmp 1)) <|
 .op (some 41) (.agg [(.int .i64), (.int .i64), .any, .any, (.int .i64), .any]) [6] (.load (some 6) (.tmp 6)) <|
 .op (some 42) .bool [39, 40, 41] (.call 110 [(.tmp 39), (.tmp 40), (.tmp 41)]) <|
 .op (some 8) .any [42] (.mov (.tmp 42)) <|
 .nil))
 .ret)
 .skip))
 (.seq (.seq (.ops (.op (some 43) .any [6] (.faddr 0 (.tmp 6)) <|
 .op (some 44) (.int .i64) [43] (.load none (.tmp 43)) <|
 .op (some 45) .any [9] (.faddr 0 (.tmp 9)) <|
 .op (some 46) (.int .i64) [45] (.load none (.tmp 45)) <|
 .op (some 47) .any [44, 46] (.bin .neq .none (.tmp 44) (.tmp 46)) <|
 .nil))
 (.cond (.tmp 47) (.seq (.ops (.op (some 8) .any [] (.mov (.con (V.bool false))) <|
 .nil))
 .ret)
 .skip))
 (.seq (.seq (.ops (.op (some 48) .any [9] (.faddr 0 (.tmp 9)) <|
 .op (some 49) (.int .i64) [48] (.load none (.tmp 48)) <|
 .nil))
 (.block 0 (.seq (.ops (.op (some 51) .any [49] (.bin .eql .none (.tmp 49) (.con (V.int .i64 (Int.ofNat 1)))) <|
 .op (some 50) .any [51] (.mov (.tmp 51)) <|
 .nil))
 (.cond (.tmp 50) (.seq (.ops (.op (some 52) (.agg [(.int .i64), (.int .i64), .any, .any, (.int .i64), .any]) [6] (.load (some 6) (.tmp 6)) <|
 .op (some 53) .bool [52] (.call 111 [(.tmp 52), (.con (V.int .i64 (Int.ofNat 1)))]) <|
 .op (some 54) .any [53] (.mov (.tmp 53)) <|
 .grp 54 true (.op (some 55) .any [6, 54] (.faddr 1 (.tmp 6)) <|
 .op (some 56) (.int .i64) [55, 54] (.load none (.tmp 55)) <|
 .op (some 57) .any [56, 54] (.bin .eql .none (.tmp 56) (.con (V.int .i64 (Int.ofNat 0)))) <|
 .op (some 58) .any [57, 54] (.mov (.tmp 57)) <|
 .grp 58 false (.op (some 59) .any [6, 58] (.faddr 1 (.tmp 6)) <|
 .op (some 60) (.int .i64) [59, 58] (.load none (.tmp 59)) <|
 .op (some 61) .any [60, 58] (.bin .eql .none (.tmp 60) (.con (V.int .i64 (Int.ofNat 1)))) <|
 .nil) 62 [58, 61, 54] (.tmp 58) (.con (V.bool true)) (.tmp 61) <|
 .nil) 63 [54, 62] (.tmp 54) (.tmp 62) (.con (V.bool false)) <|
 .op (some 8) .any [63] (.mov (.tmp 63)) <|
 .nil))
 .ret)
 (.seq (.ops (.op (some 65) .any [49] (.bin .eql .none (.tmp 49) (.con (V.int .i64 (Int.ofNat 2)))) <|
 .op (some 64) .any [65] (.mov (.tmp 65)) <|
 .nil))
 (.cond (.tmp 64) (.seq (.ops (.op (some 66) (.agg [(.int .i64), (.int .i64), .any, .any, (.int .i64), .any]) [6] (.load (some 6) (.tmp 6)) <|
 .op (some 67) .bool [66] (.call 111 [(.tmp 66), (.con (V.int .i64 (Int.ofNat 1)))]) <|
 .op (some 68) .any [67] (.mov (.tmp 67)) <|
 .grp 68 true (.op (some 69) .any [9, 68] (.faddr 2 (.tmp 9)) <|
 .op (some 70) .any [69, 68] (.faddr 3 (.tmp 69)) <|
 .op (some 71) .bool [70, 68] (.load none (.tmp 70)) <|
 .op (some 72) .any [71, 68] (.mov (.tmp 71)) <|
 .grp 72 false (.op (some 73) .any [9, 72] (.faddr 2 (.tmp 9)) <|
 .op (some 74) (.agg [.bool, .bool, .bool, .bool, (.int .i64), (.int .i64)]) [73, 72] (.load (some 6) (.tmp 73)) <|
 .op (some 75) .any [6, 72] (.faddr 1 (.tmp 6)) <|
 .op (some 76) (.int .i64) [75, 72] (.load none (.tmp 75)) <|
 .op (some 77) .bool [74, 76, 72] (.call 89 [(.tmp 74), (.tmp 76)]) <|
 .nil) 78 [72, 77, 68] (.tmp 72) (.con (V.bool true)) (.tmp 77) <|
 .nil) 79 [68, 78] (.tmp 68) (.tmp 78) (.con (V.bool false)) <|
 .op (some 8) .any [79] (.mov (.tmp 79)) <|
 .nil))
 .ret)
 (.seq (.ops (.op (some 81) .any [49] (.bin .eql .none (.tmp 49) (.con (V.int .i64 (Int.ofNat 3)))) <|
 .op (some 80) .any [81] (.mov (.tmp 81)) <|
 .nil))
 (.cond (.tmp 80) (.seq (.ops (.op (some 82) (.agg [(.int .i64), (.int .i64), .any, .any, (.int .i64), .any]) [6] (.load (some 6) (.tmp 6)) <|
 .op (some 83) .bool [82] (.call 111 [(.tmp 82), (.con (V.int .i64 (Int.ofNat 1)))]) <|
 .op (some 84) .any [83] (.mov (.tmp 83)) <|
 .grp 84 true (.op (some 85) (.agg [(.int .i64), .any, .bool, .bool, .bool, .bool, (.int .i64), (.int .i64), .any, .any, (.int .i64), .bool, (.int .i64)]) [9, 84] (.load (some 13) (.tmp 9)) <|
 .op (some 86) .any [6, 84] (.faddr 1 (.tmp 6)) <|
 .op (some 87) (.int .i64) [86, 84] (.load none (.tmp 86)) <|
 .op (some 88) (.int .i64) [85, 87, 84] (.call 112 [(.tmp 85), (.tmp 87)]) <|
 .op (some 89) .any [88, 84] (.bin .geq .none (.tmp 88) (.con (V.int .i64 (Int.ofNat 0)))) <|
 .nil) 90 [84, 89] (.tmp 84) (.tmp 89) (.con (V.bool false)) <|
 .op (some 8) .any [90] (.mov (.tmp 90)) <|
 .nil))
 .ret)
 (.seq (.ops (.op (some 92) .any [49] (.bin .eql .none (.tmp 49) (.con (V.int .i64 (Int.ofNat 4)))) <|
 .op (some 91) .any [92] (.mov (.tmp 92)) <|
 .nil))
 (.cond (.tmp 91) (.seq (.ops (.op (some 93) (.agg [(.int .i64), (.int .i64), .any, .any, (.int .i64), .any]) [6] (.load (some 6) (.tmp 6)) <|
 .op (some 94) .bool [93] (.call 111 [(.tmp 93), (.con (V.int .i64 (Int.ofNat 0)))]) <|
 .op (some 8) .any [94] (.mov (.tmp 94)) <|
 .nil))
 .ret)
 (.seq (.seq (.ops (.op (some 96) .any [49] (.bin .eql .none (.tmp 49) (.con (V.int .i64 (Int.ofNat 5)))) <|
 .op (some 95) .any [96] (.mov (.tmp 96)) <|
 .nil))
 (.cond (.tmp 95) .skip
 (.ops (.op (some 97) .any [49] (.bin .eql .none (.tmp 49) (.con (V.int .i64 (Int.ofNat 6)))) <|
 .op (some 95) .any [97] (.mov (.tmp 97)) <|
 .nil))))
 (.keep [(0, .ptr), (1, (.int .i64)), (3, (.int .i64)), (6, .ptr), (49, (.int .i64)), (95, .bool)] [9] [(9, [(.int .i64), .any, .bool, .bool, .bool, .bool, (.int .i64), (.int .i64), .any, .any, (.int .i64), .bool, (.int .i64)])] cc2))))))))))))
 (.keep [] [] [] cc1)))))))
def C59_1 : XC := (.seq (.ops (.op (some 8) .any [] (.mov (.con (V.bool false))) <|
 .nil))
 .ret)
def C59_2 (cc3 : XC) : XC := (.cond (.tmp 95) (.seq (.ops (.op (some 98) .any [0] (.mov (.tmp 0)) <|
 .op (some 99) (.agg [(.int .i64), .any, .bool, .bool, .bool, .bool, (.int .i64), (.int .i64), .any, .any, (.int .i64), .bool, (.int .i64)]) [9] (.load (some 13) (.tmp 9)) <|
 .op (some 100) (.agg [(.int .i64), (.int .i64), .any, .any, (.int .i64), .any]) [6] (.load (some 6) (.tmp 6)) <|
 .op (some 101) .bool [98, 99, 100] (.call 113 [(.tmp 98), (.tmp 99), (.tmp 100)]) <|
 .op (some 8) .any [101] (.mov (.tmp 101)) <|
 .nil))
 .ret)
 (.seq (.ops (.op (some 103) .any [49] (.bin .eql .none (.tmp 49) (.con (V.int .i64 (Int.ofNat 10)))) <|
 .op (some 102) .any [103] (.mov (.tmp 103)) <|
 .nil))
 (.cond (.tmp 102) (.seq (.ops (.op (some 104) .any [0] (.mov (.tmp 0)) <|
 .op (some 105) (.agg [(.int .i64), .any, .bool, .bool, .bool, .bool, (.int .i64), (.int .i64), .any, .any, (.int .i64), .bool, (.int .i64)]) [9] (.load (some 13) (.tmp 9)) <|
 .op (some 106) (.agg [(.int .i64), (.int .i64), .any, .any, (.int .i64), .any]) [6] (.load (some 6) (.tmp 6)) <|
 .op (some 107) .any [3] (.mov (.tmp 3)) <|
 .op (some 108) .bool [104, 105, 106, 107] (.call 114 [(.tmp 104), (.tmp 105), (.tmp 106), (.tmp 107)]) <|
 .op (some 8) .any [108] (.mov (.tmp 108)) <|
 .nil))
 .ret)
 (.seq (.ops (.op (some 110) .any [49] (.bin .eql .none (.tmp 49) (.con (V.int .i64 (Int.ofNat 9)))) <|
 .op (some 109) .any [110] (.mov (.tmp 110)) <|
 .nil))
 (.cond (.tmp 109) (.seq (.draw (.op (some 111) (.agg [(.int .i64), (.int .i64), .any, .any, (.int .i64), .any]) [6] (.load (some 6) (.tmp 6)) <|
 .op (some 112) .bool [111] (.call 111 [(.tmp 111), (.con (V.int .i64 (Int.ofNat 5)))]) <|
 .op (some 113) .any [112] (.mov (.tmp 112)) <|
 .grp 113 true (.op (some 114) .any [6, 113] (.faddr 1 (.tmp 6)) <|
 .op (some 115) (.int .i64) [114, 113] (.load none (.tmp 114)) <|
 .op (some 116) .any [115, 113] (.bin .geq .none (.tmp 115) (.con (V.int .i64 (Int.ofNat 0)))) <|
 .nil) 117 [113, 116] (.tmp 113) (.tmp 116) (.con (V.bool false)) <|
 .op (some 118) .any [117] (.mov (.tmp 117)) <|
 .grp 118 true (.op (some 119) .any [6, 118] (.faddr 1 (.tmp 6)) <|
 .op (some 120) (.int .i64) [119, 118] (.load none (.tmp 119)) <|
 .op (some 121) .any [9, 118] (.faddr 9 (.tmp 9)) <|
 .op (some 122) .any [121, 118] (.load none (.tmp 121)) <|
 .op (some 123) .any [122, 118] (.len false (.tmp 122)) <|
 .op (some 124) .any [120, 123, 118] (.bin .lss .none (.tmp 120) (.tmp 123)) <|
 .nil) 125 [118, 124] (.tmp 118) (.tmp 124) (.con (V.bool false)) <|
 .op (some 126) .any [125] (.mov (.tmp 125)) <|
 .grp 126 true (.op (some 127) .any [6, 126] (.faddr 3 (.tmp 6)) <|
 .op (some 128) .any [127, 126] (.load none (.tmp 127)) <|
 .op (some 129) .any [128, 126] (.len false (.tmp 128)) <|
 .op (some 130) .any [129, 126] (.bin .eql .none (.tmp 129) (.con (V.int .i64 (Int.ofNat 1)))) <|
 .nil) 131 [126, 130] (.tmp 126) (.tmp 130) (.con (V.bool false)) <|
 .op (some 132) .any [131] (.mov (.tmp 131)) <|
 .grp 132 true (.op (some 133) .any [0, 132] (.mov (.tmp 0)) <|
 .op (some 134) .any [9, 132] (.faddr 9 (.tmp 9)) <|
 .op (some 135) .any [134, 132] (.load none (.tmp 134)) <|
 .op (some 136) .any [6, 132] (.faddr 1 (.tmp 6)) <|
 .op (some 137) (.int .i64) [136, 132] (.load none (.tmp 136)) <|
 .op (some 138) .any [135, 137, 132] (.iaddrS 11 (.tmp 135) (.tmp 137)) <|
 .op (some 139) .any [138, 132] (.faddr 1 (.tmp 138)) <|
 .op (some 140) (.int .i64) [139, 132] (.load none (.tmp 139)) <|
 .op (some 141) .any [6, 132] (.faddr 3 (.tmp 6)) <|
 .op (some 142) .any [141, 132] (.load none (.tmp 141)) <|
 .op (some 143) .any [142, 132] (.iaddrS 6 (.tmp 142) (.con (V.int .i64 (Int.ofNat 0)))) <|
 .op (some 144) (.agg [(.int .i64), (.int .i64), .any, .any, (.int .i64), .any]) [143, 132] (.load (some 6) (.tmp 143)) <|
 .op (some 145) .any [3, 132] (.mov (.tmp 3)) <|
 .op (some 146) .any [145, 132] (.bin .add .none (.tmp 145) (.con (V.int .i64 (Int.ofNat 1)))) <|
 .op (some 147) .bool [133, 140, 144, 146, 132] (.call 59 [(.tmp 133), (.tmp 140), (.tmp 144), (.tmp 146)]) <|
 .nil) 148 [132, 147] (.tmp 132) (.tmp 147) (.con (V.bool false)) <|
 .op (some 8) .any [148] (.mov (.tmp 148)) <|
 .nil) [0, 1, 3, 7, 15, 31, 63, 127, 255, 511, 255, 1279, 3327, 8191, 16383, 32767, 65535, 131071, 262143, 524287, 1048575, 2097151, 4194303, 4194303, 12582911, 4194303, 37748735, 130023423, 264241151, 532676607, 4194303, 1077936127, 3225419775, 7520387071, 4194303, 17184063487, 68719476735, 137438953471, 274877906943])
 .ret)
 (.seq (.seq (.ops (.op (some 150) .any [49] (.bin .eql .none (.tmp 49) (.con (V.int .i64 (Int.ofNat 7)))) <|
 .op (some 149) .any [150] (.mov (.tmp 150)) <|
 .nil))
 (.cond (.tmp 149) .skip
 (.ops (.op (some 151) .any [49] (.bin .eql .none (.tmp 49) (.con (V.int .i64 (Int.ofNat 8)))) <|
 .op (some 149) .any [151] (.mov (.tmp 151)) <|
 .nil))))
 (.keep [(0, .ptr), (1, (.int .i64)), (3, (.int .i64)), (6, .ptr), (149, .bool)] [] [] cc3)))))))
def C59_3 : XC := (.cond (.tmp 149) (.seq (.ops (.op (some 152) .any [0] (.mov (.tmp 0)) <|
 .op (some 153) .any [1] (.mov (.tmp 1)) <|
 .op (some 154) (.agg [(.int .i64), (.int .i64), .any, .any, (.int .i64), .any]) [6] (.load (some 6) (.tmp 6)) <|
 .op (some 155) .any [3] (.mov (.tmp 3)) <|
 .op (some 156) .bool [152, 153, 154, 155] (.call 115 [(.tmp 152), (.tmp 153), (.tmp 154), (.tmp 155)]) <|
 .op (some 8) .any [156] (.mov (.tmp 156)) <|
 .nil))
 .ret)
 .skip)
def A59 : XFn := ⟨157, [.ptr, (.int .i64), (.agg [(.int .i64), (.int .i64), .any, .any, (.int .i64), .any]), (.int .i64)], [(.tmp 8)], (C59_0 C59_1 (C59_2 C59_3))⟩
def C60_0 (cc1 : XC) (cc2 : XC) : XC := (.seq (.ops (.op (some 1) .any [0] (.box 39 (.tmp 0)) <|
 .op (some 2) .any [] (.mov (.con (V.int .i64 (Int.ofNat 0)))) <|
 .nil))
 (.seq (.ops (.op (some 3) .any [] (.mov (.con (V.int .i64 (Int.ofNat 1)))) <|
 .nil))
 (.seq (.seq (.ops (.op (some 6) .any [1] (.faddr 3 (.tmp 1)) <|
 .op (some 7) .any [6] (.load none (.tmp 6)) <|
 .op (some 8) .any [7] (.len false (.tmp 7)) <|
 .op (some 9) .any [] (.mov (.con (V.int .i64 (Int.ofNat 0)))) <|
 .nil))
 (.block 0 (.loop [(3, (.int .i64)), (7, .any), (8, (.int .i64)), (9, (.int .i64))] [] [] cc2)))
 (.keep [(3, (.int .i64))] [] [] cc1))))
def C60_1 : XC := (.seq (.ops (.op (some 18) .any [3] (.mov (.tmp 3)) <|
 .op (some 2) .any [18] (.mov (.tmp 18)) <|
 .nil))
 .ret)
def C60_2 : XC := (.seq (.ops (.op (some 10) .any [9, 8] (.bin .lss .none (.tmp 9) (.tmp 8)) <|
 .nil))
 (.seq (.cond (.tmp 10) .skip
 (.exit 0))
 (.seq (.block 1 (.seq (.ops (.op (some 11) .any [7, 9] (.iaddrS 6 (.tmp 7) (.tmp 9)) <|
 .op (some 12) (.agg [(.int .i64), (.int .i64), .any, .any, (.int .i64), .any]) [11] (.load (some 6) (.tmp 11)) <|
 .pal 5 [] 39 [(V.int .i64 (Int.ofNat 0)), (V.int .i64 (Int.ofNat 0)), V.nils, V.nils, (V.int .i64 (Int.ofNat 0)), V.nils] <|
 .op none (.agg [(.int .i64), (.int .i64), .any, .any, (.int .i64), .any]) [5, 12] (.store 6 (.tmp 5) (.tmp 12)) <|
 .nil))
 (.ops (.op (some 13) .any [3] (.mov (.tmp 3)) <|
 .op (some 14) (.agg [(.int .i64), (.int .i64), .any, .any, (.int .i64), .any]) [5] (.load (some 6) (.tmp 5)) <|
 .op (some 15) (.int .i64) [14] (.call 60 [(.tmp 14)]) <|
 .op (some 16) .any [13, 15] (.bin .add .none (.tmp 13) (.tmp 15)) <|
 .op (some 3) .any [16] (.mov (.tmp 16)) <|
 .nil))))
 (.ops (.op (some 17) .any [9] (.bin .add .none (.tmp 9) (.con (V.int .i64 (Int.ofNat 1)))) <|
 .op (some 9) .any [17] (.mov (.tmp 17)) <|
 .nil)))))
def A60 : XFn := ⟨19, [(.agg [(.int .i64), (.int .i64), .any, .any, (.int .i64), .any])], [(.tmp 2)], (C60_0 C60_1 C60_2)⟩
def C61_0 : XC := (.seq (.ops (.op (some 2) .any [0] (.box 39 (.tmp 0)) <|
 .op (some 3) .any [1] (.box 3 (.tmp 1)) <|
 .op (some 4) .any [] (.mov (.con (V.bool false))) <|
 .nil))
 (.seq (.ops (.op (some 5) .any [2] (.faddr 4 (.tmp 2)) <|
 .op (some 6) (.int .i64) [5] (.load none (.tmp 5)) <|
 .op (some 7) .any [6] (.bin .eql .none (.tmp 6) (.con (V.int .i64 (Int.ofNat 0)))) <|
 .op (some 8) .any [7] (.mov (.tmp 7)) <|
 .grp 8 false (.op (some 9) .any [2, 8] (.faddr 4 (.tmp 2)) <|
 .op (some 10) (.int .i64) [9, 8] (.load none (.tmp 9)) <|
 .op (some 11) (.int .i64) [3, 8] (.load none (.tmp 3)) <|
 .op (some 12) .any [10, 11, 8] (.bin .eql .none (.tmp 10) (.tmp 11)) <|
 .nil) 13 [8, 12] (.tmp 8) (.con (V.bool true)) (.tmp 12) <|
 .op (some 14) .any [13] (.mov (.tmp 13)) <|
 .grp 14 true (.op (some 15) .any [2, 14] (.faddr 3 (.tmp 2)) <|
 .op (some 16) .any [15, 14] (.load none (.tmp 15)) <|
 .op (some 17) .any [3, 14] (.mkfn 117 [] [(.tmp 3)]) <|
 .op (some 18) .bool [16, 17, 14] (.call 116 [(.tmp 16), (.tmp 17)]) <|
 .op (some 19) .any [18, 14] (.un .not (.tmp 18)) <|
 .nil) 20 [14, 19] (.tmp 14) (.tmp 19) (.con (V.bool false)) <|
 .op (some 4) .any [20] (.mov (.tmp 20)) <|
 .nil))
 .ret))
def A61 : XFn := ⟨21, [(.agg [(.int .i64), (.int .i64), .any, .any, (.int .i64), .any]), (.int .i64)], [(.tmp 4)], C61_0⟩
def G62_0 : List AOper := [⟨(some 40), .load none (.tmp 3), none⟩, ⟨(some 41), .nilck (.tmp 40), none⟩, ⟨(some 42), .faddr 0 (.tmp 41), none⟩, ⟨(some 43), .load none (.tmp 42), none⟩, ⟨(some 44), .faddr 2 (.tmp 5), none⟩, ⟨(some 45), .load none (.tmp 44), none⟩, ⟨(some 46), .buildSlice 30 1 [V.nils] [(0, 1, (.tmp 45))], none⟩, ⟨(some 47), .call 121 [(.tmp 43), (.tmp 46)], none⟩]
def H62_0 : List DP := [⟨0, [3]⟩, ⟨1, [40]⟩, ⟨3, [41]⟩, ⟨7, [42]⟩, ⟨0, [5]⟩, ⟨16, [44]⟩, ⟨48, [45]⟩, ⟨127, [43, 46]⟩]
def C62_0 (cc1 : XC) : XC := (.seq (.ops (.op (some 3) .any [0] (.box 136 (.tmp 0)) <|
 .op (some 5) .any [2] (.box 39 (.tmp 2)) <|
 .nil))
 (.seq (.ops (.op (some 7) .any [3] (.load none (.tmp 3)) <|
 .op (some 8) .any [7] (.nilck (.tmp 7)) <|
 .op (some 9) .any [8] (.faddr 1 (.tmp 8)) <|
 .op (some 10) .any [9] (.faddr 3 (.tmp 9)) <|
 .op (some 11) .any [10] (.load none (.tmp 10)) <|
 .op (some 12) .any [1] (.mov (.tmp 1)) <|
 .op (some 13) .any [11, 12] (.iaddrS 13 (.tmp 11) (.tmp 12)) <|
 .op (some 14) (.agg [(.int .i64), .any, .bool, .bool, .bool, .bool, (.int .i64), (.int .i64), .any, .any, (.int .i64), .bool, (.int .i64)]) [13] (.load (some 13) (.tmp 13)) <|
 .op (some 6) .any [] (.alloc 111 [(V.int .i64 (Int.ofNat 0)), V.nils, (V.bool false), (V.bool false), (V.bool false), (V.bool false), (V.int .i64 (Int.ofNat 0)), (V.int .i64 (Int.ofNat 0)), V.nils, V.nils, (V.int .i64 (Int.ofNat 0)), (V.bool false), (V.int .i64 (Int.ofNat 0))]) <|
 .op none (.agg [(.int .i64), .any, .bool, .bool, .bool, .bool, (.int .i64), (.int .i64), .any, .any, (.int .i64), .bool, (.int .i64)]) [6, 14] (.store 13 (.tmp 6) (.tmp 14)) <|
 .nil))
 (.seq (.ops (.op (some 15) .any [6] (.faddr 0 (.tmp 6)) <|
 .op (some 16) (.int .i64) [15] (.load none (.tmp 15)) <|
 .nil))
 (.block 0 (.seq (.ops (.op (some 18) .any [16] (.bin .eql .none (.tmp 16) (.con (V.int .i64 (Int.ofNat 1)))) <|
 .op (some 17) .any [18] (.mov (.tmp 18)) <|
 .nil))
 (.cond (.tmp 17) (.ops (.op (some 19) .any [3] (.load none (.tmp 3)) <|
 .op (some 20) .any [5] (.faddr 1 (.tmp 5)) <|
 .op (some 21) (.int .i64) [20] (.load none (.tmp 20)) <|
 .op (some 22) .any [21] (.bin .eql .none (.tmp 21) (.con (V.int .i64 (Int.ofNat 1)))) <|
 .op (some 23) (.tup []) [19, 22] (.call 118 [(.tmp 19), (.tmp 22)]) <|
 .nil))
 (.seq (.ops (.op (some 25) .any [16] (.bin .eql .none (.tmp 16) (.con (V.int .i64 (Int.ofNat 2)))) <|
 .op (some 24) .any [25] (.mov (.tmp 25)) <|
 .nil))
 (.cond (.tmp 24) (.ops (.op (some 26) .any [3] (.load none (.tmp 3)) <|
 .op (some 27) .any [6] (.faddr 2 (.tmp 6)) <|
 .op (some 28) (.agg [.bool, .bool, .bool, .bool, (.int .i64), (.int .i64)]) [27] (.load (some 6) (.tmp 27)) <|
 .op (some 29) .any [5] (.faddr 1 (.tmp 5)) <|
 .op (some 30) (.int .i64) [29] (.load none (.tmp 29)) <|
 .op (some 31) (.tup []) [26, 28, 30] (.call 119 [(.tmp 26), (.tmp 28), (.tmp 30)]) <|
 .nil))
 (.seq (.ops (.op (some 33) .any [16] (.bin .eql .none (.tmp 16) (.con (V.int .i64 (Int.ofNat 3)))) <|
 .op (some 32) .any [33] (.mov (.tmp 33)) <|
 .nil))
 (.cond (.tmp 32) (.ops (.op (some 34) .any [3] (.load none (.tmp 3)) <|
 .op (some 35) .any [1] (.mov (.tmp 1)) <|
 .op (some 36) (.agg [(.int .i64), (.int .i64), .any, .any, (.int .i64), .any]) [5] (.load (some 6) (.tmp 5)) <|
 .op (some 37) (.tup []) [34, 35, 36] (.call 120 [(.tmp 34), (.tmp 35), (.tmp 36)]) <|
 .nil))
 (.seq (.ops (.op (some 39) .any [16] (.bin .eql .none (.tmp 16) (.con (V.int .i64 (Int.ofNat 6)))) <|
 .op (some 38) .any [39] (.mov (.tmp 39)) <|
 .nil))
 (.cond (.tmp 38) (.keep [(3, .ptr), (5, .ptr)] [] [] (.gdraw G62_0 H62_0 []))
 (.seq (.ops (.op (some 49) .any [16] (.bin .eql .none (.tmp 16) (.con (V.int .i64 (Int.ofNat 5)))) <|
 .op (some 48) .any [49] (.mov (.tmp 49)) <|
 .nil))
 (.cond (.tmp 48) (.ops (.op (some 50) .any [3] (.load none (.tmp 3)) <|
 .op (some 51) .any [6] (.faddr 2 (.tmp 6)) <|
 .op (some 52) (.agg [.bool, .bool, .bool, .bool, (.int .i64), (.int .i64)]) [51] (.load (some 6) (.tmp 51)) <|
 .op (some 53) .any [5] (.faddr 2 (.tmp 5)) <|
 .op (some 54) .any [53] (.load none (.tmp 53)) <|
 .op (some 55) .any [54] (.len false (.tmp 54)) <|
 .op (some 56) .any [3, 5] (.mkfn 123 [] [(.tmp 3), (.tmp 5)]) <|
 .op (some 57) .any [3, 5] (.mkfn 125 [] [(.tmp 3), (.tmp 5)]) <|
 .op (some 58) (.tup []) [50, 52, 55, 56, 57] (.call 122 [(.tmp 50), (.tmp 52), (.tmp 55), (.tmp 56), (.tmp 57)]) <|
 .nil))
 (.seq (.ops (.op (some 60) .any [16] (.bin .eql .none (.tmp 16) (.con (V.int .i64 (Int.ofNat 10)))) <|
 .op (some 59) .any [60] (.mov (.tmp 60)) <|
 .nil))
 (.cond (.tmp 59) (.ops (.op (some 61) .any [3] (.load none (.tmp 3)) <|
 .op (some 62) .any [6] (.faddr 2 (.tmp 6)) <|
 .op (some 63) (.agg [.bool, .bool, .bool, .bool, (.int .i64), (.int .i64)]) [62] (.load (some 6) (.tmp 62)) <|
 .op (some 64) .any [5] (.faddr 3 (.tmp 5)) <|
 .op (some 65) .any [64] (.load none (.tmp 64)) <|
 .op (some 66) .any [65] (.len false (.tmp 65)) <|
 .op (some 67) .any [5, 3, 6] (.mkfn 126 [] [(.tmp 5), (.tmp 3), (.tmp 6)]) <|
 .op (some 68) .any [3, 5, 6] (.mkfn 127 [] [(.tmp 3), (.tmp 5), (.tmp 6)]) <|
 .op (some 69) (.tup []) [61, 63, 66, 67, 68] (.call 122 [(.tmp 61), (.tmp 63), (.tmp 66), (.tmp 67), (.tmp 68)]) <|
 .nil))
 (.seq (.ops (.op (some 71) .any [16] (.bin .eql .none (.tmp 16) (.con (V.int .i64 (Int.ofNat 9)))) <|
 .op (some 70) .any [71] (.mov (.tmp 71)) <|
 .nil))
 (.cond (.tmp 70) (.ops (.op (some 72) .any [3] (.load none (.tmp 3)) <|
 .op (some 73) .any [1] (.mov (.tmp 1)) <|
 .op (some 74) (.agg [(.int .i64), (.int .i64), .any, .any, (.int .i64), .any]) [5] (.load (some 6) (.tmp 5)) <|
 .op (some 75) (.tup []) [72, 73, 74] (.call 130 [(.tmp 72), (.tmp 73), (.tmp 74)]) <|
 .nil))
 (.seq (.seq (.ops (.op (some 77) .any [16] (.bin .eql .none (.tmp 16) (.con (V.int .i64 (Int.ofNat 7)))) <|
 .op (some 76) .any [77] (.mov (.tmp 77)) <|
 .nil))
 (.cond (.tmp 76) .skip
 (.ops (.op (some 78) .any [16] (.bin .eql .none (.tmp 16) (.con (V.int .i64 (Int.ofNat 8)))) <|
 .op (some 76) .any [78] (.mov (.tmp 78)) <|
 .nil))))
 (.keep [(1, (.int .i64)), (3, .ptr), (5, .ptr), (76, .bool)] [] [] cc1))))))))))))))))))))
def C62_1 : XC := (.cond (.tmp 76) (.ops (.op (some 79) .any [3] (.load none (.tmp 3)) <|
 .op (some 80) .any [1] (.mov (.tmp 1)) <|
 .op (some 81) (.agg [(.int .i64), (.int .i64), .any, .any, (.int .i64), .any]) [5] (.load (some 6) (.tmp 5)) <|
 .op (some 82) (.tup []) [79, 80, 81] (.call 131 [(.tmp 79), (.tmp 80), (.tmp 81)]) <|
 .nil))
 .skip)
def A62 : XFn := ⟨83, [.any, (.int .i64), (.agg [(.int .i64), (.int .i64), .any, .any, (.int .i64), .any])], [], (C62_0 C62_1)⟩
def C63_0 : XC := (.seq (.ops (.op (some 2) .any [] (.mov (.con V.nils)) <|
 .nil))
 (.seq (.seq (.ops (.op (some 3) .any [0] (.mov (.tmp 0)) <|
 .op (some 4) .any [3] (.bin .eql .ptr (.tmp 3) (.con V.nilp)) <|
 .nil))
 (.cond (.tmp 4) (.seq (.ops (.op (some 2) .any [] (.mov (.con V.nils)) <|
 .nil))
 .ret)
 .skip))
 (.seq (.seq (.ops (.op (some 5) .any [0] (.mov (.tmp 0)) <|
 .op (some 6) (.int .i64) [5] (.call 132 [(.tmp 5)]) <|
 .op (some 7) .any [6] (.bin .eql .none (.tmp 6) (.con (V.int .i64 (Int.ofNat 0)))) <|
 .nil))
 (.cond (.tmp 7) (.seq (.ops (.op (some 8) .any [] (.buildSlice 5 1 [(V.int .u8 (Int.ofNat 0))] [(0, 1, (.con (V.int .u8 (Int.ofNat 0))))]) <|
 .op (some 2) .any [8] (.mov (.tmp 8)) <|
 .nil))
 .ret)
 .skip))
 (.seq (.ops (.op (some 9) .any [0] (.mov (.tmp 0)) <|
 .op (some 10) .any [9] (.nilck (.tmp 9)) <|
 .op (some 11) .any [10] (.faddr 0 (.tmp 10)) <|
 .op (some 12) .one [11] (.call 133 [(.tmp 11)]) <|
 .op (some 2) .any [12] (.mov (.tmp 12)) <|
 .nil))
 .ret))))
def A63 : XFn := ⟨13, [.any], [(.tmp 2)], C63_0⟩
def C64_0 (cc1 : XC) (cc2 : XC) : XC := (.seq (.ops (.op (some 4) .any [] (.mov (.con (V.int .i64 (Int.ofNat 0)))) <|
 .nil))
 (.seq (.block 0 (.loop [(0, .str), (1, (.int .i64))] [] [] cc2))
 (.keep [(1, (.int .i64))] [] [] cc1)))
def C64_1 : XC := (.seq (.ops (.op (some 74) .any [1] (.mov (.tmp 1)) <|
 .op (some 4) .any [74] (.mov (.tmp 74)) <|
 .nil))
 .ret)
def C64_2 (cc3 : XC) : XC := (.seq (.seq (.ops (.op (some 5) .any [1] (.mov (.tmp 1)) <|
 .op (some 6) .any [0] (.mov (.tmp 0)) <|
 .op (some 7) .any [6] (.len true (.tmp 6)) <|
 .op (some 8) .any [5, 7] (.bin .lss .none (.tmp 5) (.tmp 7)) <|
 .nil))
 (.cond (.tmp 8) .skip
 (.exit 0)))
 (.block 1 (.block 2 (.seq (.ops (.op (some 11) .any [0] (.mov (.tmp 0)) <|
 .op (some 12) .any [1] (.mov (.tmp 1)) <|
 .op (some 13) .any [11, 12] (.idxStr (.tmp 11) (.tmp 12)) <|
 .op (some 14) .any [13] (.bin .eql .none (.tmp 13) (.con (V.int .u8 (Int.ofNat 32)))) <|
 .op (some 15) .any [14] (.mov (.tmp 14)) <|
 .grp 15 false (.op (some 16) .any [0, 15] (.mov (.tmp 0)) <|
 .op (some 17) .any [1, 15] (.mov (.tmp 1)) <|
 .op (some 18) .any [16, 17, 15] (.idxStr (.tmp 16) (.tmp 17)) <|
 .op (some 19) .any [18, 15] (.bin .eql .none (.tmp 18) (.con (V.int .u8 (Int.ofNat 9)))) <|
 .nil) 20 [15, 19] (.tmp 15) (.con (V.bool true)) (.tmp 19) <|
 .op (some 21) .any [20] (.mov (.tmp 20)) <|
 .grp 21 false (.op (some 22) .any [0, 21] (.mov (.tmp 0)) <|
 .op (some 23) .any [1, 21] (.mov (.tmp 1)) <|
 .op (some 24) .any [22, 23, 21] (.idxStr (.tmp 22) (.tmp 23)) <|
 .op (some 25) .any [24, 21] (.bin .eql .none (.tmp 24) (.con (V.int .u8 (Int.ofNat 10)))) <|
 .nil) 26 [21, 25] (.tmp 21) (.con (V.bool true)) (.tmp 25) <|
 .op (some 27) .any [26] (.mov (.tmp 26)) <|
 .grp 27 false (.op (some 28) .any [0, 27] (.mov (.tmp 0)) <|
 .op (some 29) .any [1, 27] (.mov (.tmp 1)) <|
 .op (some 30) .any [28, 29, 27] (.idxStr (.tmp 28) (.tmp 29)) <|
 .op (some 31) .any [30, 27] (.bin .eql .none (.tmp 30) (.con (V.int .u8 (Int.ofNat 13)))) <|
 .nil) 32 [27, 31] (.tmp 27) (.con (V.bool true)) (.tmp 31) <|
 .op (some 10) .any [32] (.mov (.tmp 32)) <|
 .nil))
 (.cond (.tmp 10) (.ops (.op (some 33) .any [1] (.mov (.tmp 1)) <|
 .op (some 34) .any [33] (.bin .add .none (.tmp 33) (.con (V.int .i64 (Int.ofNat 1)))) <|
 .op (some 1) .any [34] (.mov (.tmp 34)) <|
 .nil))
 (.seq (.ops (.op (some 36) .any [0] (.mov (.tmp 0)) <|
 .op (some 37) .any [1] (.mov (.tmp 1)) <|
 .op (some 38) .any [36, 37] (.idxStr (.tmp 36) (.tmp 37)) <|
 .op (some 39) .any [38] (.bin .eql .none (.tmp 38) (.con (V.int .u8 (Int.ofNat 45)))) <|
 .op (some 40) .any [39] (.mov (.tmp 39)) <|
 .grp 40 true (.op (some 41) .any [0, 40] (.mov (.tmp 0)) <|
 .op (some 42) .any [1, 40] (.mov (.tmp 1)) <|
 .op (some 43) .any [42, 40] (.bin .add .none (.tmp 42) (.con (V.int .i64 (Int.ofNat 1)))) <|
 .op (some 44) (.int .u8) [41, 43, 40] (.call 134 [(.tmp 41), (.tmp 43)]) <|
 .op (some 45) .any [44, 40] (.bin .eql .none (.tmp 44) (.con (V.int .u8 (Int.ofNat 45)))) <|
 .nil) 46 [40, 45] (.tmp 40) (.tmp 45) (.con (V.bool false)) <|
 .op (some 35) .any [46] (.mov (.tmp 46)) <|
 .nil))
 (.cond (.tmp 35) (.seq (.ops (.op (some 47) .any [1] (.mov (.tmp 1)) <|
 .op (some 48) .any [47] (.bin .add .none (.tmp 47) (.con (V.int .i64 (Int.ofNat 2)))) <|
 .op (some 1) .any [48] (.mov (.tmp 48)) <|
 .nil))
 (.block 3 (.loop [(0, .str), (1, (.int .i64))] [] [] cc3)))
 (.seq (.ops (.op (some 9) .any [1] (.mov (.tmp 1)) <|
 .op (some 4) .any [9] (.mov (.tmp 9)) <|
 .nil))
 .ret))))))))
def C64_3 : XC := (.seq (.seq (.ops (.op (some 49) .any [1] (.mov (.tmp 1)) <|
 .op (some 50) .any [0] (.mov (.tmp 0)) <|
 .op (some 51) .any [50] (.len true (.tmp 50)) <|
 .op (some 52) .any [49, 51] (.bin .lss .none (.tmp 49) (.tmp 51)) <|
 .op (some 53) .any [52] (.mov (.tmp 52)) <|
 .grp 53 true (.op (some 54) .any [0, 53] (.mov (.tmp 0)) <|
 .op (some 55) .any [1, 53] (.mov (.tmp 1)) <|
 .op (some 56) .any [54, 55, 53] (.idxStr (.tmp 54) (.tmp 55)) <|
 .op (some 57) .any [56, 53] (.bin .neq .none (.tmp 56) (.con (V.int .u8 (Int.ofNat 10)))) <|
 .nil) 58 [53, 57] (.tmp 53) (.tmp 57) (.con (V.bool false)) <|
 .nil))
 (.cond (.tmp 58) .skip
 (.exit 3)))
 (.block 4 (.seq (.seq (.ops (.op (some 59) .any [0] (.mov (.tmp 0)) <|
 .op (some 60) .any [1] (.mov (.tmp 1)) <|
 .op (some 61) .any [59, 60] (.idxStr (.tmp 59) (.tmp 60)) <|
 .op (some 62) .any [61] (.bin .eql .none (.tmp 61) (.con (V.int .u8 (Int.ofNat 45)))) <|
 .op (some 63) .any [62] (.mov (.tmp 62)) <|
 .grp 63 true (.op (some 64) .any [0, 63] (.mov (.tmp 0)) <|
 .op (some 65) .any [1, 63] (.mov (.tmp 1)) <|
 .op (some 66) .any [65, 63] (.bin .add .none (.tmp 65) (.con (V.int .i64 (Int.ofNat 1)))) <|
 .op (some 67) (.int .u8) [64, 66, 63] (.call 134 [(.tmp 64), (.tmp 66)]) <|
 .op (some 68) .any [67, 63] (.bin .eql .none (.tmp 67) (.con (V.int .u8 (Int.ofNat 45)))) <|
 .nil) 69 [63, 68] (.tmp 63) (.tmp 68) (.con (V.bool false)) <|
 .nil))
 (.cond (.tmp 69) (.seq (.ops (.op (some 70) .any [1] (.mov (.tmp 1)) <|
 .op (some 71) .any [70] (.bin .add .none (.tmp 70) (.con (V.int .i64 (Int.ofNat 2)))) <|
 .op (some 1) .any [71] (.mov (.tmp 71)) <|
 .nil))
 (.exit 3))
 .skip))
 (.ops (.op (some 72) .any [1] (.mov (.tmp 1)) <|
 .op (some 73) .any [72] (.bin .add .none (.tmp 72) (.con (V.int .i64 (Int.ofNat 1)))) <|
 .op (some 1) .any [73] (.mov (.tmp 73)) <|
 .nil)))))
def A64 : XFn := ⟨75, [.str, (.int .i64)], [(.tmp 4)], (C64_0 C64_1 (C64_2 C64_3))⟩
def C65_0 (cc1 : XC) (cc2 : XC) : XC := (.seq (.ops (.pal 4 [] 92 [(V.int .i64 (Int.ofNat 0)), (V.str ⟨0, 0⟩), (V.int .i64 (Int.ofNat 0))] <|
 .op (some 5) .any [] (.mov (.con (V.int .i64 (Int.ofNat 0)))) <|
 .nil))
 (.seq (.ops (.op (some 10) .any [1] (.mov (.tmp 1)) <|
 .op (some 11) (.agg [(.int .i64), .str, (.int .i64)]) [10] (.build [(V.int .i64 (Int.ofNat 0)), (V.str ⟨0, 0⟩), (V.int .i64 (Int.ofNat 0))] [(2, 1, (.tmp 10))]) <|
 .pal 6 [] 92 [(V.int .i64 (Int.ofNat 0)), (V.str ⟨0, 0⟩), (V.int .i64 (Int.ofNat 0))] <|
 .op none (.agg [(.int .i64), .str, (.int .i64)]) [6, 11] (.store 3 (.tmp 6) (.tmp 11)) <|
 .nil))
 (.seq (.ops (.op (some 12) .any [0] (.mov (.tmp 0)) <|
 .op (some 13) .any [1] (.mov (.tmp 1)) <|
 .op (some 14) .any [12, 13] (.idxStr (.tmp 12) (.tmp 13)) <|
 .op (some 7) .any [14] (.mov (.tmp 14)) <|
 .nil))
 (.seq (.ops (.op (some 8) .any [] (.mov (.con (V.int .i64 (Int.negSucc 0)))) <|
 .nil))
 (.seq (.block 0 (.seq (.ops (.op (some 32) .any [7] (.mov (.tmp 7)) <|
 .op (some 33) .bool [32] (.call 135 [(.tmp 32)]) <|
 .op (some 31) .any [33] (.mov (.tmp 33)) <|
 .nil))
 (.cond (.tmp 31) (.seq (.ops (.op (some 34) .any [0] (.mov (.tmp 0)) <|
 .op (some 35) .any [1] (.mov (.tmp 1)) <|
 .op (some 36) (.int .i64) [34, 35] (.call 136 [(.tmp 34), (.tmp 35)]) <|
 .op (some 8) .any [36] (.mov (.tmp 36)) <|
 .nil))
 (.seq (.seq (.ops (.op (some 37) .any [8] (.mov (.tmp 8)) <|
 .op (some 38) .any [37] (.bin .lss .none (.tmp 37) (.con (V.int .i64 (Int.ofNat 0)))) <|
 .nil))
 (.cond (.tmp 38) (.seq (.ops (.op (some 39) (.agg [(.int .i64), .str, (.int .i64)]) [6] (.load (some 3) (.tmp 6)) <|
 .op none (.agg [(.int .i64), .str, (.int .i64)]) [4, 39] (.store 3 (.tmp 4) (.tmp 39)) <|
 .op (some 5) .any [] (.mov (.con (V.int .i64 (Int.negSucc 0)))) <|
 .nil))
 .ret)
 .skip))
 (.seq (.draw (.op (some 40) .any [0] (.mov (.tmp 0)) <|
 .op (some 41) .any [1] (.mov (.tmp 1)) <|
 .op (some 42) .any [8] (.mov (.tmp 8)) <|
 .op (some 43) .any [40, 41, 42] (.sliceStr (.tmp 40) (some (.tmp 41)) (some (.tmp 42))) <|
 .op (some 44) .any [6] (.faddr 0 (.tmp 6)) <|
 .op none .any [44] (.store 1 (.tmp 44) (.con (V.int .i64 (Int.ofNat 2)))) <|
 .op (some 45) .any [6] (.faddr 1 (.tmp 6)) <|
 .op none .any [45, 43] (.store 1 (.tmp 45) (.tmp 43)) <|
 .nil) [0, 0, 0, 7, 0, 16, 63, 127])
 (.seq (.seq (.ops (.op (some 46) .any [7] (.mov (.tmp 7)) <|
 .op (some 47) .any [46] (.bin .leq .none (.tmp 46) (.con (V.int .u8 (Int.ofNat 90)))) <|
 .nil))
 (.cond (.tmp 47) (.ops (.op (some 48) .any [6] (.faddr 0 (.tmp 6)) <|
 .op none .any [48] (.store 1 (.tmp 48) (.con (V.int .i64 (Int.ofNat 1)))) <|
 .nil))
 .skip))
 (.keep [(8, (.int .i64))] [4, 6] [(4, [(.int .i64), .str, (.int .i64)]), (6, [(.int .i64), .str, (.int .i64)])] cc2)))))
 (.seq (.ops (.op (some 54) .any [7] (.mov (.tmp 7)) <|
 .op (some 55) .bool [54] (.call 138 [(.tmp 54)]) <|
 .op (some 56) .any [55] (.mov (.tmp 55)) <|
 .grp 56 false (.op (some 57) .any [7, 56] (.mov (.tmp 7)) <|
 .op (some 58) .any [57, 56] (.bin .eql .none (.tmp 57) (.con (V.int .u8 (Int.ofNat 45)))) <|
 .op (some 59) .any [58, 56] (.mov (.tmp 58)) <|
 .grp 59 true (.op (some 60) .any [0, 59] (.mov (.tmp 0)) <|
 .op (some 61) .any [1, 59] (.mov (.tmp 1)) <|
 .op (some 62) .any [61, 59] (.bin .add .none (.tmp 61) (.con (V.int .i64 (Int.ofNat 1)))) <|
 .op (some 63) (.int .u8) [60, 62, 59] (.call 134 [(.tmp 60), (.tmp 62)]) <|
 .op (some 64) .bool [63, 59] (.call 138 [(.tmp 63)]) <|
 .nil) 65 [59, 64, 56] (.tmp 59) (.tmp 64) (.con (V.bool false)) <|
 .nil) 66 [56, 65] (.tmp 56) (.con (V.bool true)) (.tmp 65) <|
 .op (some 53) .any [66] (.mov (.tmp 66)) <|
 .nil))
 (.cond (.tmp 53) (.seq (.ops (.op (some 67) .any [0] (.mov (.tmp 0)) <|
 .op (some 68) .any [1] (.mov (.tmp 1)) <|
 .op (some 69) (.int .i64) [67, 68] (.call 139 [(.tmp 67), (.tmp 68)]) <|
 .op (some 8) .any [69] (.mov (.tmp 69)) <|
 .nil))
 (.seq (.seq (.ops (.op (some 70) .any [8] (.mov (.tmp 8)) <|
 .op (some 71) .any [70] (.bin .lss .none (.tmp 70) (.con (V.int .i64 (Int.ofNat 0)))) <|
 .nil))
 (.cond (.tmp 71) (.seq (.ops (.op (some 72) (.agg [(.int .i64), .str, (.int .i64)]) [6] (.load (some 3) (.tmp 6)) <|
 .op none (.agg [(.int .i64), .str, (.int .i64)]) [4, 72] (.store 3 (.tmp 4) (.tmp 72)) <|
 .op (some 5) .any [] (.mov (.con (V.int .i64 (Int.negSucc 0)))) <|
 .nil))
 .ret)
 .skip))
 (.draw (.op (some 73) .any [0] (.mov (.tmp 0)) <|
 .op (some 74) .any [1] (.mov (.tmp 1)) <|
 .op (some 75) .any [8] (.mov (.tmp 8)) <|
 .op (some 76) .any [73, 74, 75] (.sliceStr (.tmp 73) (some (.tmp 74)) (some (.tmp 75))) <|
 .op (some 77) .any [6] (.faddr 0 (.tmp 6)) <|
 .op none .any [77] (.store 1 (.tmp 77) (.con (V.int .i64 (Int.ofNat 3)))) <|
 .op (some 78) .any [6] (.faddr 1 (.tmp 6)) <|
 .op none .any [78, 76] (.store 1 (.tmp 78) (.tmp 76)) <|
 .nil) [0, 0, 0, 7, 0, 16, 63, 127])))
 (.seq (.ops (.op (some 80) .any [7] (.mov (.tmp 7)) <|
 .op (some 81) .any [80] (.bin .eql .none (.tmp 80) (.con (V.int .u8 (Int.ofNat 39)))) <|
 .op (some 79) .any [81] (.mov (.tmp 81)) <|
 .nil))
 (.cond (.tmp 79) (.seq (.ops (.op (some 82) .any [6] (.faddr 0 (.tmp 6)) <|
 .op none .any [82] (.store 1 (.tmp 82) (.con (V.int .i64 (Int.ofNat 4)))) <|
 .nil))
 (.ops (.op (some 84) .any [0] (.mov (.tmp 0)) <|
 .op (some 85) .any [1] (.mov (.tmp 1)) <|
 .op (some 86) (.tup [(.int .i64), .str]) [84, 85] (.call 140 [(.tmp 84), (.tmp 85)]) <|
 .op (some 83) .any [86] (.mov (.tmp 86)) <|
 .op (some 87) .any [83] (.extract 0 (.tmp 83)) <|
 .op (some 88) .any [83] (.extract 1 (.tmp 83)) <|
 .op (some 8) .any [87] (.mov (.tmp 87)) <|
 .op (some 89) .any [6] (.faddr 1 (.tmp 6)) <|
 .op none .any [89, 88] (.store 1 (.tmp 89) (.tmp 88)) <|
 .nil)))
 (.seq (.ops (.op (some 91) .any [7] (.mov (.tmp 7)) <|
 .op (some 92) .any [91] (.bin .eql .none (.tmp 91) (.con (V.int .u8 (Int.ofNat 34)))) <|
 .op (some 90) .any [92] (.mov (.tmp 92)) <|
 .nil))
 (.cond (.tmp 90) (.seq (.ops (.op (some 93) .any [6] (.faddr 0 (.tmp 6)) <|
 .op none .any [93] (.store 1 (.tmp 93) (.con (V.int .i64 (Int.ofNat 7)))) <|
 .nil))
 (.ops (.op (some 95) .any [0] (.mov (.tmp 0)) <|
 .op (some 96) .any [1] (.mov (.tmp 1)) <|
 .op (some 97) (.tup [(.int .i64), .str]) [95, 96] (.call 141 [(.tmp 95), (.tmp 96)]) <|
 .op (some 94) .any [97] (.mov (.tmp 97)) <|
 .op (some 98) .any [94] (.extract 0 (.tmp 94)) <|
 .op (some 99) .any [94] (.extract 1 (.tmp 94)) <|
 .op (some 8) .any [98] (.mov (.tmp 98)) <|
 .op (some 100) .any [6] (.faddr 1 (.tmp 6)) <|
 .op none .any [100, 99] (.store 1 (.tmp 100) (.tmp 99)) <|
 .nil)))
 (.seq (.ops (.op (some 15) .any [0] (.mov (.tmp 0)) <|
 .op (some 16) .any [1] (.mov (.tmp 1)) <|
 .op (some 17) (.int .i64) [15, 16] (.call 142 [(.tmp 15), (.tmp 16)]) <|
 .op (some 9) .any [17] (.mov (.tmp 17)) <|
 .nil))
 (.seq (.ops (.op (some 18) .any [9] (.mov (.tmp 9)) <|
 .op (some 19) .any [18] (.bin .gtr .none (.tmp 18) (.con (V.int .i64 (Int.ofNat 0)))) <|
 .nil))
 (.cond (.tmp 19) (.draw (.op (some 20) .any [0] (.mov (.tmp 0)) <|
 .op (some 21) .any [1] (.mov (.tmp 1)) <|
 .op (some 22) .any [1] (.mov (.tmp 1)) <|
 .op (some 23) .any [9] (.mov (.tmp 9)) <|
 .op (some 24) .any [22, 23] (.bin .add .none (.tmp 22) (.tmp 23)) <|
 .op (some 25) .any [20, 21, 24] (.sliceStr (.tmp 20) (some (.tmp 21)) (some (.tmp 24))) <|
 .op (some 26) .any [1] (.mov (.tmp 1)) <|
 .op (some 27) .any [9] (.mov (.tmp 9)) <|
 .op (some 28) .any [26, 27] (.bin .add .none (.tmp 26) (.tmp 27)) <|
 .op (some 29) .any [6] (.faddr 0 (.tmp 6)) <|
 .op none .any [29] (.store 1 (.tmp 29) (.con (V.int .i64 (Int.ofNat 6)))) <|
 .op (some 30) .any [6] (.faddr 1 (.tmp 6)) <|
 .op none .any [30, 25] (.store 1 (.tmp 30) (.tmp 25)) <|
 .op (some 8) .any [28] (.mov (.tmp 28)) <|
 .nil) [0, 0, 0, 0, 12, 31, 0, 0, 192, 0, 512, 1599, 3647, 8191])
 .skip))))))))))))
 (.keep [(8, (.int .i64))] [4, 6] [(4, [(.int .i64), .str, (.int .i64)]), (6, [(.int .i64), .str, (.int .i64)])] cc1))))))
def C65_1 : XC := (.seq (.ops (.op (some 101) (.agg [(.int .i64), .str, (.int .i64)]) [6] (.load (some 3) (.tmp 6)) <|
 .op (some 102) .any [8] (.mov (.tmp 8)) <|
 .op none (.agg [(.int .i64), .str, (.int .i64)]) [4, 101] (.store 3 (.tmp 4) (.tmp 101)) <|
 .op (some 5) .any [102] (.mov (.tmp 102)) <|
 .nil))
 .ret)
def C65_2 : XC := (.seq (.ops (.op (some 49) .any [6] (.faddr 1 (.tmp 6)) <|
 .op (some 50) .str [49] (.load none (.tmp 49)) <|
 .op (some 51) .bool [50] (.call 137 [(.tmp 50)]) <|
 .nil))
 (.cond (.tmp 51) (.ops (.op (some 52) .any [6] (.faddr 0 (.tmp 6)) <|
 .op none .any [52] (.store 1 (.tmp 52) (.con (V.int .i64 (Int.ofNat 5)))) <|
 .nil))
 .skip))
def A65 : XFn := ⟨103, [.str, (.int .i64)], [(.cell 4 (some 3)), (.tmp 5)], (C65_0 C65_1 C65_2)⟩
def C66_0 (cc1 : XC) : XC := (.seq (.ops (.pal 2 [] 92 [(V.int .i64 (Int.ofNat 0)), (V.str ⟨0, 0⟩), (V.int .i64 (Int.ofNat 0))] <|
 .nil))
 (.seq (.draw (.op (some 4) .any [0] (.mov (.tmp 0)) <|
 .op (some 5) .any [4] (.nilck (.tmp 4)) <|
 .op (some 6) .any [5] (.faddr 0 (.tmp 5)) <|
 .op (some 7) .any [6] (.load none (.tmp 6)) <|
 .op (some 8) .any [0] (.mov (.tmp 0)) <|
 .op (some 9) .any [8] (.nilck (.tmp 8)) <|
 .op (some 10) .any [9] (.faddr 1 (.tmp 9)) <|
 .op (some 11) (.int .i64) [10] (.load none (.tmp 10)) <|
 .op (some 12) .any [7, 11] (.iaddrS 3 (.tmp 7) (.tmp 11)) <|
 .op (some 13) (.agg [(.int .i64), .str, (.int .i64)]) [12] (.load (some 3) (.tmp 12)) <|
 .pal 3 [] 92 [(V.int .i64 (Int.ofNat 0)), (V.str ⟨0, 0⟩), (V.int .i64 (Int.ofNat 0))] <|
 .op none (.agg [(.int .i64), .str, (.int .i64)]) [3, 13] (.store 3 (.tmp 3) (.tmp 13)) <|
 .nil) [0, 1, 3, 7, 0, 16, 48, 112, 255, 511, 0, 2047])
 (.seq (.seq (.draw (.op (some 14) .any [0] (.mov (.tmp 0)) <|
 .op (some 15) .any [14] (.nilck (.tmp 14)) <|
 .op (some 16) .any [15] (.faddr 1 (.tmp 15)) <|
 .op (some 17) (.int .i64) [16] (.load none (.tmp 16)) <|
 .op (some 18) .any [17] (.bin .add .none (.tmp 17) (.con (V.int .i64 (Int.ofNat 1)))) <|
 .op (some 19) .any [0] (.mov (.tmp 0)) <|
 .op (some 20) .any [19] (.nilck (.tmp 19)) <|
 .op (some 21) .any [20] (.faddr 0 (.tmp 20)) <|
 .op (some 22) .any [21] (.load none (.tmp 21)) <|
 .op (some 23) .any [22] (.len false (.tmp 22)) <|
 .op (some 24) .any [18, 23] (.bin .lss .none (.tmp 18) (.tmp 23)) <|
 .nil) [0, 1, 3, 7, 15, 0, 32, 96, 224, 480, 1023])
 (.cond (.tmp 24) (.ops (.op (some 25) .any [0] (.mov (.tmp 0)) <|
 .op (some 26) .any [25] (.nilck (.tmp 25)) <|
 .op (some 27) .any [26] (.faddr 1 (.tmp 26)) <|
 .op (some 28) (.int .i64) [27] (.load none (.tmp 27)) <|
 .op (some 29) .any [28] (.bin .add .none (.tmp 28) (.con (V.int .i64 (Int.ofNat 1)))) <|
 .op (some 30) .any [25] (.nilck (.tmp 25)) <|
 .op (some 31) .any [30] (.faddr 1 (.tmp 30)) <|
 .op none .any [31, 29] (.store 1 (.tmp 31) (.tmp 29)) <|
 .nil))
 .skip))
 (.keep [] [2, 3] [(2, [(.int .i64), .str, (.int .i64)]), (3, [(.int .i64), .str, (.int .i64)])] cc1))))
def C66_1 : XC := (.seq (.ops (.op (some 32) (.agg [(.int .i64), .str, (.int .i64)]) [3] (.load (some 3) (.tmp 3)) <|
 .op none (.agg [(.int .i64), .str, (.int .i64)]) [2, 32] (.store 3 (.tmp 2) (.tmp 32)) <|
 .nil))
 .ret)
def A66 : XFn := ⟨33, [.ptr], [(.cell 2 (some 3))], (C66_0 C66_1)⟩
def C67_0 (cc1 : XC) (cc2 : XC) : XC := (.seq (.ops (.op (some 1) .any [0] (.box 92 (.tmp 0)) <|
 .op (some 2) .any [] (.mov (.con (V.bool false))) <|
 .nil))
 (.seq (.ops (.op (some 5) .any [] (.buildSlice 9 10 [(V.str ⟨0, 0⟩), (V.str ⟨0, 0⟩), (V.str ⟨0, 0⟩), (V.str ⟨0, 0⟩), (V.str ⟨0, 0⟩), (V.str ⟨0, 0⟩), (V.str ⟨0, 0⟩), (V.str ⟨0, 0⟩), (V.str ⟨0, 0⟩), (V.str ⟨0, 0⟩)] [(0, 1, (.con (V.str ⟨1, 91⟩))), (1, 1, (.con (V.str ⟨7, 22026814072246082⟩))), (2, 1, (.con (V.str ⟨4, 1280070990⟩))), (3, 1, (.con (V.str ⟨10, 488440487847103610377301⟩))), (4, 1, (.con (V.str ⟨7, 23157120498421321⟩))), (5, 1, (.con (V.str ⟨5, 361940403023⟩))), (6, 1, (.con (V.str ⟨10, 322399817400452109389381⟩))), (7, 1, (.con (V.str ⟨3, 5522771⟩))), (8, 1, (.con (V.str ⟨6, 76155295057987⟩))), (9, 1, (.con (V.str ⟨8, 4990918871747741011⟩)))]) <|
 .op (some 3) .any [5] (.mov (.tmp 5)) <|
 .nil))
 (.seq (.seq (.ops (.op (some 4) .any [] (.mov (.con (V.int .i64 (Int.ofNat 0)))) <|
 .nil))
 (.block 0 (.loop [(1, .ptr), (3, .any), (4, (.int .i64))] [] [] cc2)))
 (.keep [(1, .ptr)] [] [] cc1))))
def C67_1 : XC := (.seq (.ops (.op (some 29) .any [1] (.faddr 0 (.tmp 1)) <|
 .op (some 30) (.int .i64) [29] (.load none (.tmp 29)) <|
 .op (some 31) .any [30] (.bin .eql .none (.tmp 30) (.con (V.int .i64 (Int.ofNat 1)))) <|
 .op (some 2) .any [31] (.mov (.tmp 31)) <|
 .nil))
 .ret)
def C67_2 : XC := (.seq (.seq (.ops (.op (some 6) .any [4] (.mov (.tmp 4)) <|
 .op (some 7) .any [3] (.mov (.tmp 3)) <|
 .op (some 8) .any [7] (.len false (.tmp 7)) <|
 .op (some 9) .any [6, 8] (.bin .lss .none (.tmp 6) (.tmp 8)) <|
 .nil))
 (.cond (.tmp 9) .skip
 (.exit 0)))
 (.seq (.block 1 (.seq (.draw (.op (some 12) .any [3] (.mov (.tmp 3)) <|
 .op (some 13) .any [4] (.mov (.tmp 4)) <|
 .op (some 14) .any [12, 13] (.iaddrS 1 (.tmp 12) (.tmp 13)) <|
 .op (some 15) .str [14] (.load none (.tmp 14)) <|
 .op (some 16) .any [1] (.faddr 1 (.tmp 1)) <|
 .op (some 17) .str [16] (.load none (.tmp 16)) <|
 .op (some 18) .any [15, 17] (.bin .eql .none (.tmp 15) (.tmp 17)) <|
 .op (some 19) .any [18] (.mov (.tmp 18)) <|
 .grp 19 true (.op (some 20) .any [1, 19] (.faddr 0 (.tmp 1)) <|
 .op (some 21) (.int .i64) [20, 19] (.load none (.tmp 20)) <|
 .op (some 22) .any [21, 19] (.bin .eql .none (.tmp 21) (.con (V.int .i64 (Int.ofNat 5)))) <|
 .op (some 23) .any [22, 19] (.mov (.tmp 22)) <|
 .grp 23 false (.op (some 24) .any [1, 23] (.faddr 0 (.tmp 1)) <|
 .op (some 25) (.int .i64) [24, 23] (.load none (.tmp 24)) <|
 .op (some 26) .any [25, 23] (.bin .eql .none (.tmp 25) (.con (V.int .i64 (Int.ofNat 6)))) <|
 .nil) 27 [23, 26, 19] (.tmp 23) (.con (V.bool true)) (.tmp 26) <|
 .nil) 28 [19, 27] (.tmp 19) (.tmp 27) (.con (V.bool false)) <|
 .nil) [0, 0, 3, 7, 0, 16, 63, 127, 255, 511, 1023, 2047, 4095, 8191, 16383, 32767, 65535])
 (.cond (.tmp 28) (.seq (.ops (.op (some 2) .any [] (.mov (.con (V.bool true))) <|
 .nil))
 .ret)
 .skip)))
 (.ops (.op (some 10) .any [4] (.mov (.tmp 4)) <|
 .op (some 11) .any [10] (.bin .add .none (.tmp 10) (.con (V.int .i64 (Int.ofNat 1)))) <|
 .op (some 4) .any [11] (.mov (.tmp 11)) <|
 .nil))))
def A67 : XFn := ⟨32, [(.agg [(.int .i64), .str, (.int .i64)])], [(.tmp 2)], (C67_0 C67_1 C67_2)⟩
def C68_0 : XC := (.seq (.ops (.op (some 2) .any [] (.mov (.con (V.int .i64 (Int.ofNat 0)))) <|
 .nil))
 (.seq (.ops (.op (some 4) .any [0] (.mov (.tmp 0)) <|
 .op (some 5) .str [4] (.call 29 [(.tmp 4), (.con (V.int .i64 (Int.ofNat 3)))]) <|
 .op (some 3) .any [5] (.mov (.tmp 5)) <|
 .nil))
 (.seq (.seq (.ops (.op (some 6) .any [3] (.mov (.tmp 3)) <|
 .op (some 7) .any [6] (.bin .eql .none (.tmp 6) (.con (V.str ⟨0, 0⟩))) <|
 .nil))
 (.cond (.tmp 7) (.seq (.ops (.op (some 2) .any [] (.mov (.con (V.int .i64 (Int.ofNat 0)))) <|
 .nil))
 .ret)
 .skip))
 (.seq (.ops (.op (some 8) .any [3] (.mov (.tmp 3)) <|
 .op (some 9) (.int .i64) [8] (.call 143 [(.tmp 8)]) <|
 .op (some 2) .any [9] (.mov (.tmp 9)) <|
 .nil))
 .ret))))
def A68 : XFn := ⟨10, [.any], [(.tmp 2)], C68_0⟩
def G69_0 : List AOper := [⟨(some 139), .mov (.tmp 1), none⟩, ⟨(some 140), .mov (.tmp 1), none⟩, ⟨(some 141), .faddr 1 (.tmp 6), none⟩, ⟨(some 142), .load none (.tmp 141), none⟩, ⟨(some 143), .nilck (.tmp 139), none⟩, ⟨(some 144), .faddr 0 (.tmp 143), none⟩, ⟨none, .store 1 (.tmp 144) (.con (V.int .i64 (Int.ofNat 11))), none⟩, ⟨(some 145), .nilck (.tmp 140), none⟩, ⟨(some 146), .faddr 1 (.tmp 145), none⟩, ⟨none, .store 1 (.tmp 146) (.tmp 142), none⟩]
def H69_0 : List DP := [⟨0, [1]⟩, ⟨0, [1]⟩, ⟨0, [6]⟩, ⟨4, [141]⟩, ⟨1, [139]⟩, ⟨17, [143]⟩, ⟨49, [144]⟩, ⟨127, [140]⟩, ⟨255, [145]⟩, ⟨511, [146, 142]⟩]
def C69_0 : XC := (.seq (.ops (.op (some 7) .any [0] (.mov (.tmp 0)) <|
 .op (some 8) (.agg [(.int .i64), .str, (.int .i64)]) [7] (.call 32 [(.tmp 7)]) <|
 .op (some 6) .any [] (.alloc 92 [(V.int .i64 (Int.ofNat 0)), (V.str ⟨0, 0⟩), (V.int .i64 (Int.ofNat 0))]) <|
 .op none (.agg [(.int .i64), .str, (.int .i64)]) [6, 8] (.store 3 (.tmp 6) (.tmp 8)) <|
 .nil))
 (.block 0 (.seq (.ops (.op (some 13) .any [0] (.mov (.tmp 0)) <|
 .op (some 14) .any [13] (.nilck (.tmp 13)) <|
 .op (some 15) .any [14] (.faddr 7 (.tmp 14)) <|
 .op (some 16) (.int .i64) [15] (.load none (.tmp 15)) <|
 .op (some 17) .any [16] (.bin .neq .none (.tmp 16) (.con (V.int .i64 (Int.ofNat 0)))) <|
 .op (some 12) .any [17] (.mov (.tmp 17)) <|
 .nil))
 (.cond (.tmp 12) .skip
 (.seq (.ops (.op (some 19) .any [0] (.mov (.tmp 0)) <|
 .op (some 20) .bool [19] (.call 31 [(.tmp 19), (.con (V.str ⟨7, 22026814072246082⟩))]) <|
 .op (some 18) .any [20] (.mov (.tmp 20)) <|
 .nil))
 (.cond (.tmp 18) (.ops (.op (some 21) .any [1] (.mov (.tmp 1)) <|
 .op (some 22) .any [21] (.nilck (.tmp 21)) <|
 .op (some 23) .any [22] (.faddr 0 (.tmp 22)) <|
 .op none .any [23] (.store 1 (.tmp 23) (.con (V.int .i64 (Int.ofNat 1)))) <|
 .nil))
 (.seq (.ops (.op (some 25) .any [0] (.mov (.tmp 0)) <|
 .op (some 26) .bool [25] (.call 31 [(.tmp 25), (.con (V.str ⟨4, 1280070990⟩))]) <|
 .op (some 24) .any [26] (.mov (.tmp 26)) <|
 .nil))
 (.cond (.tmp 24) (.ops (.op (some 27) .any [1] (.mov (.tmp 1)) <|
 .op (some 28) .any [27] (.nilck (.tmp 27)) <|
 .op (some 29) .any [28] (.faddr 0 (.tmp 28)) <|
 .op none .any [29] (.store 1 (.tmp 29) (.con (V.int .i64 (Int.ofNat 4)))) <|
 .nil))
 (.seq (.ops (.op (some 31) .any [0] (.mov (.tmp 0)) <|
 .op (some 32) .bool [31] (.call 31 [(.tmp 31), (.con (V.str ⟨10, 488440487847103610377301⟩))]) <|
 .op (some 30) .any [32] (.mov (.tmp 32)) <|
 .nil))
 (.cond (.tmp 30) (.seq (.ops (.op (some 33) .any [1] (.mov (.tmp 1)) <|
 .op (some 34) .any [33] (.nilck (.tmp 33)) <|
 .op (some 35) .any [34] (.faddr 0 (.tmp 34)) <|
 .op none .any [35] (.store 1 (.tmp 35) (.con (V.int .i64 (Int.ofNat 6)))) <|
 .nil))
 (.ops (.op (some 36) .any [1] (.mov (.tmp 1)) <|
 .op (some 37) .any [0] (.mov (.tmp 0)) <|
 .op (some 38) (.agg [.bool, .bool, .bool, .bool, (.int .i64), (.int .i64)]) [37] (.call 144 [(.tmp 37)]) <|
 .op (some 39) .any [36] (.nilck (.tmp 36)) <|
 .op (some 40) .any [39] (.faddr 5 (.tmp 39)) <|
 .op none (.agg [.bool, .bool, .bool, .bool, (.int .i64), (.int .i64)]) [40, 38] (.store 6 (.tmp 40) (.tmp 38)) <|
 .nil)))
 (.seq (.ops (.op (some 42) .any [0] (.mov (.tmp 0)) <|
 .op (some 43) .bool [42] (.call 31 [(.tmp 42), (.con (V.str ⟨7, 23157120498421321⟩))]) <|
 .op (some 41) .any [43] (.mov (.tmp 43)) <|
 .nil))
 (.cond (.tmp 41) (.seq (.ops (.op (some 44) .any [1] (.mov (.tmp 1)) <|
 .op (some 45) .any [44] (.nilck (.tmp 44)) <|
 .op (some 46) .any [45] (.faddr 0 (.tmp 45)) <|
 .op none .any [46] (.store 1 (.tmp 46) (.con (V.int .i64 (Int.ofNat 2)))) <|
 .nil))
 (.seq (.ops (.op (some 47) .any [0] (.mov (.tmp 0)) <|
 .op (some 48) .bool [47] (.call 31 [(.tmp 47), (.con (V.str ⟨1, 40⟩))]) <|
 .nil))
 (.cond (.tmp 48) (.seq (.ops (.op (some 49) .any [1] (.mov (.tmp 1)) <|
 .op (some 50) .any [0] (.mov (.tmp 0)) <|
 .op (some 51) (.agg [.bool, .bool, .bool, .bool, (.int .i64), (.int .i64)]) [50] (.call 145 [(.tmp 50)]) <|
 .op (some 52) .any [49] (.nilck (.tmp 49)) <|
 .op (some 53) .any [52] (.faddr 5 (.tmp 52)) <|
 .op none (.agg [.bool, .bool, .bool, .bool, (.int .i64), (.int .i64)]) [53, 51] (.store 6 (.tmp 53) (.tmp 51)) <|
 .nil))
 (.ops (.op (some 54) .any [0] (.mov (.tmp 0)) <|
 .op (some 55) (.tup []) [54] (.call 30 [(.tmp 54), (.con (V.str ⟨1, 41⟩))]) <|
 .nil)))
 .skip)))
 (.seq (.ops (.op (some 57) .any [0] (.mov (.tmp 0)) <|
 .op (some 58) .bool [57] (.call 31 [(.tmp 57), (.con (V.str ⟨5, 361940403023⟩))]) <|
 .op (some 56) .any [58] (.mov (.tmp 58)) <|
 .nil))
 (.cond (.tmp 56) (.seq (.ops (.op (some 59) .any [0] (.mov (.tmp 0)) <|
 .op (some 60) (.tup []) [59] (.call 30 [(.tmp 59), (.con (V.str ⟨6, 78401563153491⟩))]) <|
 .nil))
 (.seq (.ops (.op (some 61) .any [1] (.mov (.tmp 1)) <|
 .op (some 62) .any [61] (.nilck (.tmp 61)) <|
 .op (some 63) .any [62] (.faddr 0 (.tmp 62)) <|
 .op none .any [63] (.store 1 (.tmp 63) (.con (V.int .i64 (Int.ofNat 5)))) <|
 .nil))
 (.ops (.op (some 64) .any [1] (.mov (.tmp 1)) <|
 .op (some 65) .any [0] (.mov (.tmp 0)) <|
 .op (some 66) (.agg [.bool, .bool, .bool, .bool, (.int .i64), (.int .i64)]) [65] (.call 144 [(.tmp 65)]) <|
 .op (some 67) .any [64] (.nilck (.tmp 64)) <|
 .op (some 68) .any [67] (.faddr 5 (.tmp 67)) <|
 .op none (.agg [.bool, .bool, .bool, .bool, (.int .i64), (.int .i64)]) [68, 66] (.store 6 (.tmp 68) (.tmp 66)) <|
 .nil))))
 (.seq (.ops (.op (some 70) .any [0] (.mov (.tmp 0)) <|
 .op (some 71) .bool [70] (.call 31 [(.tmp 70), (.con (V.str ⟨10, 322399817400452109389381⟩))]) <|
 .op (some 69) .any [71] (.mov (.tmp 71)) <|
 .nil))
 (.cond (.tmp 69) (.seq (.ops (.op (some 72) .any [1] (.mov (.tmp 1)) <|
 .op (some 73) .any [72] (.nilck (.tmp 72)) <|
 .op (some 74) .any [73] (.faddr 0 (.tmp 73)) <|
 .op none .any [74] (.store 1 (.tmp 74) (.con (V.int .i64 (Int.ofNat 3)))) <|
 .nil))
 (.seq (.ops (.op (some 75) .any [0] (.mov (.tmp 0)) <|
 .op (some 76) (.tup []) [75] (.call 30 [(.tmp 75), (.con (V.str ⟨1, 123⟩))]) <|
 .nil))
 (.seq (.ops (.op (some 77) .any [0] (.mov (.tmp 0)) <|
 .op (some 78) .any [1] (.mov (.tmp 1)) <|
 .op (some 79) (.tup []) [77, 78] (.call 146 [(.tmp 77), (.tmp 78)]) <|
 .nil))
 (.ops (.op (some 80) .any [0] (.mov (.tmp 0)) <|
 .op (some 81) (.tup []) [80] (.call 30 [(.tmp 80), (.con (V.str ⟨1, 125⟩))]) <|
 .nil)))))
 (.seq (.ops (.op (some 83) .any [0] (.mov (.tmp 0)) <|
 .op (some 84) .bool [83] (.call 31 [(.tmp 83), (.con (V.str ⟨3, 5522771⟩))]) <|
 .op (some 82) .any [84] (.mov (.tmp 84)) <|
 .nil))
 (.cond (.tmp 82) (.seq (.ops (.op (some 85) .any [1] (.mov (.tmp 1)) <|
 .op (some 86) .any [85] (.nilck (.tmp 85)) <|
 .op (some 87) .any [86] (.faddr 0 (.tmp 86)) <|
 .op none .any [87] (.store 1 (.tmp 87) (.con (V.int .i64 (Int.ofNat 8)))) <|
 .nil))
 (.seq (.ops (.op (some 88) .any [0] (.mov (.tmp 0)) <|
 .op (some 89) (.tup []) [88] (.call 30 [(.tmp 88), (.con (V.str ⟨1, 123⟩))]) <|
 .nil))
 (.ops (.op (some 90) .any [0] (.mov (.tmp 0)) <|
 .op (some 91) .any [1] (.mov (.tmp 1)) <|
 .op (some 92) .any [2] (.mov (.tmp 2)) <|
 .op (some 93) (.tup []) [90, 91, 92] (.call 147 [(.tmp 90), (.tmp 91), (.tmp 92)]) <|
 .nil))))
 (.seq (.ops (.op (some 95) .any [0] (.mov (.tmp 0)) <|
 .op (some 96) .bool [95] (.call 31 [(.tmp 95), (.con (V.str ⟨6, 76155295057987⟩))]) <|
 .op (some 94) .any [96] (.mov (.tmp 96)) <|
 .nil))
 (.cond (.tmp 94) (.seq (.ops (.op (some 97) .any [1] (.mov (.tmp 1)) <|
 .op (some 98) .any [97] (.nilck (.tmp 97)) <|
 .op (some 99) .any [98] (.faddr 0 (.tmp 98)) <|
 .op none .any [99] (.store 1 (.tmp 99) (.con (V.int .i64 (Int.ofNat 9)))) <|
 .nil))
 (.seq (.ops (.op (some 100) .any [0] (.mov (.tmp 0)) <|
 .op (some 101) (.tup []) [100] (.call 30 [(.tmp 100), (.con (V.str ⟨1, 123⟩))]) <|
 .nil))
 (.ops (.op (some 102) .any [0] (.mov (.tmp 0)) <|
 .op (some 103) .any [1] (.mov (.tmp 1)) <|
 .op (some 104) .any [2] (.mov (.tmp 2)) <|
 .op (some 105) (.tup []) [102, 103, 104] (.call 147 [(.tmp 102), (.tmp 103), (.tmp 104)]) <|
 .nil))))
 (.seq (.ops (.op (some 107) .any [0] (.mov (.tmp 0)) <|
 .op (some 108) .bool [107] (.call 31 [(.tmp 107), (.con (V.str ⟨8, 4990918871747741011⟩))]) <|
 .op (some 106) .any [108] (.mov (.tmp 108)) <|
 .nil))
 (.cond (.tmp 106) (.seq (.seq (.ops (.op (some 109) .any [0] (.mov (.tmp 0)) <|
 .op (some 110) .bool [109] (.call 31 [(.tmp 109), (.con (V.str ⟨1, 123⟩))]) <|
 .nil))
 (.cond (.tmp 110) (.seq (.ops (.op (some 111) .any [1] (.mov (.tmp 1)) <|
 .op (some 112) .any [111] (.nilck (.tmp 111)) <|
 .op (some 113) .any [112] (.faddr 0 (.tmp 112)) <|
 .op none .any [113] (.store 1 (.tmp 113) (.con (V.int .i64 (Int.ofNat 7)))) <|
 .nil))
 (.seq (.ops (.op (some 114) .any [0] (.mov (.tmp 0)) <|
 .op (some 115) .any [1] (.mov (.tmp 1)) <|
 .op (some 116) .any [2] (.mov (.tmp 2)) <|
 .op (some 117) (.tup []) [114, 115, 116] (.call 147 [(.tmp 114), (.tmp 115), (.tmp 116)]) <|
 .nil))
 .ret))
 .skip))
 (.seq (.ops (.op (some 118) .any [1] (.mov (.tmp 1)) <|
 .op (some 119) .any [118] (.nilck (.tmp 118)) <|
 .op (some 120) .any [119] (.faddr 0 (.tmp 119)) <|
 .op none .any [120] (.store 1 (.tmp 120) (.con (V.int .i64 (Int.ofNat 10)))) <|
 .nil))
 (.seq (.ops (.op (some 121) .any [1] (.mov (.tmp 1)) <|
 .op (some 122) .any [0] (.mov (.tmp 0)) <|
 .op (some 123) (.agg [.bool, .bool, .bool, .bool, (.int .i64), (.int .i64)]) [122] (.call 144 [(.tmp 122)]) <|
 .op (some 124) .any [121] (.nilck (.tmp 121)) <|
 .op (some 125) .any [124] (.faddr 5 (.tmp 124)) <|
 .op none (.agg [.bool, .bool, .bool, .bool, (.int .i64), (.int .i64)]) [125, 123] (.store 6 (.tmp 125) (.tmp 123)) <|
 .nil))
 (.seq (.ops (.op (some 126) .any [0] (.mov (.tmp 0)) <|
 .op (some 127) (.tup []) [126] (.call 30 [(.tmp 126), (.con (V.str ⟨2, 17999⟩))]) <|
 .nil))
 (.ops (.op (some 128) .any [1] (.mov (.tmp 1)) <|
 .op (some 129) .any [0] (.mov (.tmp 0)) <|
 .op (some 130) .any [2] (.mov (.tmp 2)) <|
 .op (some 131) .any [130] (.bin .add .none (.tmp 130) (.con (V.int .i64 (Int.ofNat 1)))) <|
 .op (some 132) (.int .i64) [129, 131] (.call 34 [(.tmp 129), (.tmp 131)]) <|
 .op (some 133) .any [128] (.nilck (.tmp 128)) <|
 .op (some 134) .any [133] (.faddr 15 (.tmp 133)) <|
 .op none .any [134, 132] (.store 1 (.tmp 134) (.tmp 132)) <|
 .nil))))))
 (.seq (.ops (.op (some 136) .any [6] (.faddr 0 (.tmp 6)) <|
 .op (some 137) (.int .i64) [136] (.load none (.tmp 136)) <|
 .op (some 138) .any [137] (.bin .eql .none (.tmp 137) (.con (V.int .i64 (Int.ofNat 1)))) <|
 .op (some 135) .any [138] (.mov (.tmp 138)) <|
 .nil))
 (.cond (.tmp 135) (.seq (.keep [(0, .ptr), (1, .ptr), (6, .ptr)] [] [] (.gdraw G69_0 H69_0 [(0, .ptr)]))
 (.ops (.op (some 147) .any [0] (.mov (.tmp 0)) <|
 .op (some 148) (.agg [(.int .i64), .str, (.int .i64)]) [147] (.call 66 [(.tmp 147)]) <|
 .nil)))
 (.ops (.op (some 9) .any [0] (.mov (.tmp 0)) <|
 .op (some 10) (.agg [(.int .i64), .str, (.int .i64)]) [6] (.load (some 3) (.tmp 6)) <|
 .op (some 11) (.tup []) [9, 10] (.call 33 [(.tmp 9), (.con (V.int .i64 (Int.ofNat 7))), (.tmp 10)]) <|
 .nil))))))))))))))))))))))))))
def A69 : XFn := ⟨149, [.ptr, .ptr, (.int .i64)], [], C69_0⟩
def C70_0 (cc1 : XC) (cc2 : XC) : XC := (.seq (.ops (.op (some 4) .any [] (.mov (.con (V.bool false))) <|
 .nil))
 (.seq (.seq (.ops (.op (some 5) .any [] (.mov (.con (V.int .i64 (Int.ofNat 0)))) <|
 .nil))
 (.block 0 (.loop [(0, .any), (1, .str), (5, (.int .i64))] [] [] cc2)))
 (.keep [] [] [] cc1)))
def C70_1 : XC := (.seq (.ops (.op (some 4) .any [] (.mov (.con (V.bool false))) <|
 .nil))
 .ret)
def C70_2 : XC := (.seq (.seq (.ops (.op (some 6) .any [5] (.mov (.tmp 5)) <|
 .op (some 7) .any [0] (.mov (.tmp 0)) <|
 .op (some 8) .any [7] (.len false (.tmp 7)) <|
 .op (some 9) .any [6, 8] (.bin .lss .none (.tmp 6) (.tmp 8)) <|
 .nil))
 (.cond (.tmp 9) .skip
 (.exit 0)))
 (.seq (.block 1 (.seq (.ops (.op (some 12) .any [0] (.mov (.tmp 0)) <|
 .op (some 13) .any [5] (.mov (.tmp 5)) <|
 .op (some 14) .any [12, 13] (.iaddrS 1 (.tmp 12) (.tmp 13)) <|
 .op (some 15) .str [14] (.load none (.tmp 14)) <|
 .op (some 16) .any [1] (.mov (.tmp 1)) <|
 .op (some 17) .any [15, 16] (.bin .eql .none (.tmp 15) (.tmp 16)) <|
 .nil))
 (.cond (.tmp 17) (.seq (.ops (.op (some 4) .any [] (.mov (.con (V.bool true))) <|
 .nil))
 .ret)
 .skip)))
 (.ops (.op (some 10) .any [5] (.mov (.tmp 5)) <|
 .op (some 11) .any [10] (.bin .add .none (.tmp 10) (.con (V.int .i64 (Int.ofNat 1)))) <|
 .op (some 5) .any [11] (.mov (.tmp 11)) <|
 .nil))))
def A70 : XFn := ⟨18, [.any, .str], [(.tmp 4)], (C70_0 C70_1 C70_2)⟩
def C71_0 (cc1 : XC) (cc2 : XC) : XC := (.seq (.ops (.op (some 4) .any [0] (.box 52 (.tmp 0)) <|
 .op (some 8) .any [] (.mov (.con V.nils)) <|
 .op (some 9) .any [] (.mov (.con (V.bool false))) <|
 .nil))
 (.seq (.seq (.ops (.op (some 16) .any [1] (.mov (.tmp 1)) <|
 .op (some 17) .any [16] (.bin .lss .none (.tmp 16) (.con (V.int .i64 (Int.ofNat 0)))) <|
 .op (some 18) .any [17] (.mov (.tmp 17)) <|
 .grp 18 false (.op (some 19) .any [1, 18] (.mov (.tmp 1)) <|
 .op (some 20) .any [4, 18] (.faddr 4 (.tmp 4)) <|
 .op (some 21) .any [20, 18] (.load none (.tmp 20)) <|
 .op (some 22) .any [21, 18] (.len false (.tmp 21)) <|
 .op (some 23) .any [19, 22, 18] (.bin .geq .none (.tmp 19) (.tmp 22)) <|
 .nil) 24 [18, 23] (.tmp 18) (.con (V.bool true)) (.tmp 23) <|
 .op (some 25) .any [24] (.mov (.tmp 24)) <|
 .grp 25 false (.op (some 26) .any [2, 25] (.mov (.tmp 2)) <|
 .op (some 27) .any [26, 25] (.bin .gtr .none (.tmp 26) (.con (V.int .i64 (Int.ofNat 16)))) <|
 .nil) 28 [25, 27] (.tmp 25) (.con (V.bool true)) (.tmp 27) <|
 .nil))
 (.cond (.tmp 28) (.seq (.ops (.op (some 29) .any [3] (.mov (.tmp 3)) <|
 .op (some 8) .any [29] (.mov (.tmp 29)) <|
 .op (some 9) .any [] (.mov (.con (V.bool false))) <|
 .nil))
 .ret)
 .skip))
 (.seq (.ops (.op (some 30) .any [4] (.faddr 4 (.tmp 4)) <|
 .op (some 31) .any [30] (.load none (.tmp 30)) <|
 .op (some 32) .any [1] (.mov (.tmp 1)) <|
 .op (some 33) .any [31, 32] (.iaddrS 16 (.tmp 31) (.tmp 32)) <|
 .op (some 34) (.agg [(.int .i64), .str, .bool, (.int .i64), (.int .i64), .bool, .bool, .bool, .bool, (.int .i64), (.int .i64), .any, .any, (.int .i64), .bool, (.int .i64)]) [33] (.load (some 16) (.tmp 33)) <|
 .pal 10 [] 152 [(V.int .i64 (Int.ofNat 0)), (V.str ⟨0, 0⟩), (V.bool false), (V.int .i64 (Int.ofNat 0)), (V.int .i64 (Int.ofNat 0)), (V.bool false), (V.bool false), (V.bool false), (V.bool false), (V.int .i64 (Int.ofNat 0)), (V.int .i64 (Int.ofNat 0)), V.nils, V.nils, (V.int .i64 (Int.ofNat 0)), (V.bool false), (V.int .i64 (Int.ofNat 0))] <|
 .op none (.agg [(.int .i64), .str, .bool, (.int .i64), (.int .i64), .bool, .bool, .bool, .bool, (.int .i64), (.int .i64), .any, .any, (.int .i64), .bool, (.int .i64)]) [10, 34] (.store 16 (.tmp 10) (.tmp 34)) <|
 .nil))
 (.seq (.seq (.ops (.op (some 35) .any [10] (.faddr 0 (.tmp 10)) <|
 .op (some 36) (.int .i64) [35] (.load none (.tmp 35)) <|
 .op (some 37) .any [36] (.bin .eql .none (.tmp 36) (.con (V.int .i64 (Int.ofNat 11)))) <|
 .nil))
 (.cond (.tmp 37) (.seq (.ops (.op (some 38) (.agg [.str, (.int .i64), .any, .any, .any]) [4] (.load (some 5) (.tmp 4)) <|
 .op (some 39) .any [10] (.faddr 1 (.tmp 10)) <|
 .op (some 40) .str [39] (.load none (.tmp 39)) <|
 .op (some 41) (.int .i64) [38, 40] (.call 74 [(.tmp 38), (.tmp 40)]) <|
 .op (some 11) .any [41] (.mov (.tmp 41)) <|
 .nil))
 (.seq (.seq (.ops (.op (some 42) .any [11] (.mov (.tmp 11)) <|
 .op (some 43) .any [42] (.bin .lss .none (.tmp 42) (.con (V.int .i64 (Int.ofNat 0)))) <|
 .nil))
 (.cond (.tmp 43) (.seq (.ops (.op (some 44) .any [3] (.mov (.tmp 3)) <|
 .op (some 8) .any [44] (.mov (.tmp 44)) <|
 .op (some 9) .any [] (.mov (.con (V.bool true))) <|
 .nil))
 .ret)
 .skip))
 (.seq (.seq (.ops (.op (some 45) .any [3] (.mov (.tmp 3)) <|
 .op (some 46) .any [11] (.mov (.tmp 11)) <|
 .op (some 47) .bool [45, 46] (.call 73 [(.tmp 45), (.tmp 46)]) <|
 .op (some 48) .any [47] (.un .not (.tmp 47)) <|
 .nil))
 (.cond (.tmp 48) (.ops (.op (some 49) .any [3] (.mov (.tmp 3)) <|
 .op (some 50) .any [11] (.mov (.tmp 11)) <|
 .op (some 51) .any [50] (.buildSlice 3 1 [(V.int .i64 (Int.ofNat 0))] [(0, 1, (.tmp 50))]) <|
 .op (some 52) .one [49, 51] (.append 3 1 8 (.tmp 49) (.tmp 51)) <|
 .op (some 3) .any [52] (.mov (.tmp 52)) <|
 .nil))
 .skip))
 (.keep [(3, .any)] [] [] cc2))))
 .skip))
 (.keep [(2, (.int .i64)), (3, .any), (4, .ptr)] [10] [(10, [(.int .i64), .str, .bool, (.int .i64), (.int .i64), .bool, .bool, .bool, .bool, (.int .i64), (.int .i64), .any, .any, (.int .i64), .bool, (.int .i64)])] cc1)))))
def C71_1 (cc3 : XC) (cc4 : XC) : XC := (.seq (.ops (.op (some 12) .any [] (.mov (.con (V.bool false))) <|
 .nil))
 (.seq (.seq (.ops (.op (some 13) .any [] (.mov (.con (V.int .i64 (Int.ofNat 0)))) <|
 .nil))
 (.block 0 (.loop [(2, (.int .i64)), (3, .any), (4, .ptr), (12, .bool), (13, (.int .i64))] [10] [(10, [(.int .i64), .str, .bool, (.int .i64), (.int .i64), .bool, .bool, .bool, .bool, (.int .i64), (.int .i64), .any, .any, (.int .i64), .bool, (.int .i64)])] cc4)))
 (.keep [(2, (.int .i64)), (3, .any), (4, .ptr), (12, .bool)] [10] [(10, [(.int .i64), .str, .bool, (.int .i64), (.int .i64), .bool, .bool, .bool, .bool, (.int .i64), (.int .i64), .any, .any, (.int .i64), .bool, (.int .i64)])] cc3)))
def C71_2 : XC := (.seq (.ops (.op (some 53) .any [3] (.mov (.tmp 3)) <|
 .op (some 8) .any [53] (.mov (.tmp 53)) <|
 .op (some 9) .any [] (.mov (.con (V.bool false))) <|
 .nil))
 .ret)
def C71_3 (cc5 : XC) : XC := (.seq (.seq (.ops (.op (some 79) .any [10] (.faddr 0 (.tmp 10)) <|
 .op (some 80) (.int .i64) [79] (.load none (.tmp 79)) <|
 .op (some 81) .any [80] (.bin .eql .none (.tmp 80) (.con (V.int .i64 (Int.ofNat 10)))) <|
 .nil))
 (.cond (.tmp 81) (.seq (.ops (.op (some 15) .any [] (.mov (.con (V.bool false))) <|
 .nil))
 (.seq (.ops (.op (some 83) (.agg [.str, (.int .i64), .any, .any, .any]) [4] (.load (some 5) (.tmp 4)) <|
 .op (some 84) .any [10] (.faddr 15 (.tmp 10)) <|
 .op (some 85) (.int .i64) [84] (.load none (.tmp 84)) <|
 .op (some 86) .any [2] (.mov (.tmp 2)) <|
 .op (some 87) .any [86] (.bin .add .none (.tmp 86) (.con (V.int .i64 (Int.ofNat 1)))) <|
 .op (some 88) .any [3] (.mov (.tmp 3)) <|
 .op (some 89) (.tup [.any, .bool]) [83, 85, 87, 88] (.call 71 [(.tmp 83), (.tmp 85), (.tmp 87), (.tmp 88)]) <|
 .op (some 82) .any [89] (.mov (.tmp 89)) <|
 .op (some 90) .any [82] (.extract 0 (.tmp 82)) <|
 .op (some 91) .any [82] (.extract 1 (.tmp 82)) <|
 .op (some 3) .any [90] (.mov (.tmp 90)) <|
 .op (some 15) .any [91] (.mov (.tmp 91)) <|
 .nil))
 (.ops (.op (some 92) .any [12] (.mov (.tmp 12)) <|
 .op (some 93) .any [92] (.mov (.tmp 92)) <|
 .grp 93 false (.op (some 94) .any [15, 93] (.mov (.tmp 15)) <|
 .nil) 95 [93, 94] (.tmp 93) (.con (V.bool true)) (.tmp 94) <|
 .op (some 12) .any [95] (.mov (.tmp 95)) <|
 .nil))))
 .skip))
 (.keep [(3, .any), (12, .bool)] [] [] cc5))
def C71_4 : XC := (.seq (.seq (.ops (.op (some 54) .any [13] (.mov (.tmp 13)) <|
 .op (some 55) .any [10] (.faddr 12 (.tmp 10)) <|
 .op (some 56) .any [55] (.load none (.tmp 55)) <|
 .op (some 57) .any [56] (.len false (.tmp 56)) <|
 .op (some 58) .any [54, 57] (.bin .lss .none (.tmp 54) (.tmp 57)) <|
 .nil))
 (.cond (.tmp 58) .skip
 (.exit 0)))
 (.seq (.block 1 (.seq (.ops (.op (some 14) .any [] (.mov (.con (V.bool false))) <|
 .nil))
 (.seq (.draw (.op (some 62) (.agg [.str, (.int .i64), .any, .any, .any]) [4] (.load (some 5) (.tmp 4)) <|
 .op (some 63) .any [10] (.faddr 12 (.tmp 10)) <|
 .op (some 64) .any [63] (.load none (.tmp 63)) <|
 .op (some 65) .any [13] (.mov (.tmp 13)) <|
 .op (some 66) .any [64, 65] (.iaddrS 11 (.tmp 64) (.tmp 65)) <|
 .op (some 67) .any [66] (.faddr 1 (.tmp 66)) <|
 .op (some 68) (.int .i64) [67] (.load none (.tmp 67)) <|
 .op (some 69) .any [2] (.mov (.tmp 2)) <|
 .op (some 70) .any [69] (.bin .add .none (.tmp 69) (.con (V.int .i64 (Int.ofNat 1)))) <|
 .op (some 71) .any [3] (.mov (.tmp 3)) <|
 .op (some 72) (.tup [.any, .bool]) [62, 68, 70, 71] (.call 71 [(.tmp 62), (.tmp 68), (.tmp 70), (.tmp 71)]) <|
 .op (some 61) .any [72] (.mov (.tmp 72)) <|
 .op (some 73) .any [61] (.extract 0 (.tmp 61)) <|
 .op (some 74) .any [61] (.extract 1 (.tmp 61)) <|
 .op (some 3) .any [73] (.mov (.tmp 73)) <|
 .op (some 14) .any [74] (.mov (.tmp 74)) <|
 .nil) [0, 0, 2, 0, 14, 30, 62, 0, 128, 0, 1023, 2047, 4095, 4095, 8191, 32767])
 (.ops (.op (some 75) .any [12] (.mov (.tmp 12)) <|
 .op (some 76) .any [75] (.mov (.tmp 75)) <|
 .grp 76 false (.op (some 77) .any [14, 76] (.mov (.tmp 14)) <|
 .nil) 78 [76, 77] (.tmp 76) (.con (V.bool true)) (.tmp 77) <|
 .op (some 12) .any [78] (.mov (.tmp 78)) <|
 .nil)))))
 (.ops (.op (some 59) .any [13] (.mov (.tmp 13)) <|
 .op (some 60) .any [59] (.bin .add .none (.tmp 59) (.con (V.int .i64 (Int.ofNat 1)))) <|
 .op (some 13) .any [60] (.mov (.tmp 60)) <|
 .nil))))
def C71_5 : XC := (.seq (.ops (.op (some 96) .any [3] (.mov (.tmp 3)) <|
 .op (some 97) .any [12] (.mov (.tmp 12)) <|
 .op (some 8) .any [96] (.mov (.tmp 96)) <|
 .op (some 9) .any [97] (.mov (.tmp 97)) <|
 .nil))
 .ret)
def A71 : XFn := ⟨98, [(.agg [.str, (.int .i64), .any, .any, .any]), (.int .i64), (.int .i64), .any], [(.tmp 8), (.tmp 9)], (C71_0 (C71_1 (C71_3 C71_5) C71_4) C71_2)⟩
def C72_0 (cc1 : XC) (cc2 : XC) : XC := (.seq (.ops (.op (some 6) .any [] (.mov (.con (V.bool false))) <|
 .nil))
 (.seq (.ops (.op (some 10) .any [] (.buildSlice 3 0 [] []) <|
 .op (some 7) .any [10] (.mov (.tmp 10)) <|
 .nil))
 (.seq (.ops (.op (some 11) .any [0] (.mov (.tmp 0)) <|
 .op (some 12) .any [1] (.mov (.tmp 1)) <|
 .op (some 13) .any [11, 12] (.iaddrS 1 (.tmp 11) (.tmp 12)) <|
 .op (some 14) .any [13] (.load none (.tmp 13)) <|
 .op (some 15) .one [14] (.append 3 1 8 (.con V.nils) (.tmp 14)) <|
 .op (some 8) .any [15] (.mov (.tmp 15)) <|
 .nil))
 (.seq (.block 0 (.loop [(0, .any), (2, (.int .i64)), (7, .any), (8, .any)] [] [] cc2))
 (.keep [] [] [] cc1)))))
def C72_1 : XC := (.seq (.ops (.op (some 6) .any [] (.mov (.con (V.bool false))) <|
 .nil))
 .ret)
def C72_2 : XC := (.seq (.seq (.ops (.op (some 16) .any [8] (.mov (.tmp 8)) <|
 .op (some 17) .any [16] (.len false (.tmp 16)) <|
 .op (some 18) .any [17] (.bin .gtr .none (.tmp 17) (.con (V.int .i64 (Int.ofNat 0)))) <|
 .nil))
 (.cond (.tmp 18) .skip
 (.exit 0)))
 (.block 1 (.seq (.ops (.op (some 19) .any [8] (.mov (.tmp 8)) <|
 .op (some 20) .any [19] (.iaddrS 1 (.tmp 19) (.con (V.int .i64 (Int.ofNat 0)))) <|
 .op (some 21) (.int .i64) [20] (.load none (.tmp 20)) <|
 .op (some 9) .any [21] (.mov (.tmp 21)) <|
 .nil))
 (.seq (.ops (.op (some 22) .any [8] (.mov (.tmp 8)) <|
 .op (some 23) .any [22] (.sliceSl 1 (.tmp 22) (some (.con (V.int .i64 (Int.ofNat 1)))) none none) <|
 .op (some 8) .any [23] (.mov (.tmp 23)) <|
 .nil))
 (.seq (.seq (.ops (.op (some 24) .any [9] (.mov (.tmp 9)) <|
 .op (some 25) .any [2] (.mov (.tmp 2)) <|
 .op (some 26) .any [24, 25] (.bin .eql .none (.tmp 24) (.tmp 25)) <|
 .nil))
 (.cond (.tmp 26) (.seq (.ops (.op (some 6) .any [] (.mov (.con (V.bool true))) <|
 .nil))
 .ret)
 .skip))
 (.seq (.ops (.op (some 27) .any [7] (.mov (.tmp 7)) <|
 .op (some 28) .any [9] (.mov (.tmp 9)) <|
 .op (some 29) .bool [27, 28] (.call 73 [(.tmp 27), (.tmp 28)]) <|
 .op (some 30) .any [29] (.un .not (.tmp 29)) <|
 .nil))
 (.cond (.tmp 30) (.seq (.ops (.op (some 31) .any [7] (.mov (.tmp 7)) <|
 .op (some 32) .any [9] (.mov (.tmp 9)) <|
 .op (some 33) .any [32] (.buildSlice 3 1 [(V.int .i64 (Int.ofNat 0))] [(0, 1, (.tmp 32))]) <|
 .op (some 34) .one [31, 33] (.append 3 1 8 (.tmp 31) (.tmp 33)) <|
 .op (some 7) .any [34] (.mov (.tmp 34)) <|
 .nil))
 (.ops (.op (some 35) .any [8] (.mov (.tmp 8)) <|
 .op (some 36) .any [0] (.mov (.tmp 0)) <|
 .op (some 37) .any [9] (.mov (.tmp 9)) <|
 .op (some 38) .any [36, 37] (.iaddrS 1 (.tmp 36) (.tmp 37)) <|
 .op (some 39) .any [38] (.load none (.tmp 38)) <|
 .op (some 40) .one [35, 39] (.append 3 1 8 (.tmp 35) (.tmp 39)) <|
 .op (some 8) .any [40] (.mov (.tmp 40)) <|
 .nil)))
 .skip)))))))
def A72 : XFn := ⟨41, [.any, (.int .i64), (.int .i64)], [(.tmp 6)], (C72_0 C72_1 C72_2)⟩
def C73_0 (cc1 : XC) (cc2 : XC) : XC := (.seq (.ops (.op (some 4) .any [] (.mov (.con (V.bool false))) <|
 .nil))
 (.seq (.seq (.ops (.op (some 5) .any [] (.mov (.con (V.int .i64 (Int.ofNat 0)))) <|
 .nil))
 (.block 0 (.loop [(0, .any), (1, (.int .i64)), (5, (.int .i64))] [] [] cc2)))
 (.keep [] [] [] cc1)))
def C73_1 : XC := (.seq (.ops (.op (some 4) .any [] (.mov (.con (V.bool false))) <|
 .nil))
 .ret)
def C73_2 : XC := (.seq (.seq (.ops (.op (some 6) .any [5] (.mov (.tmp 5)) <|
 .op (some 7) .any [0] (.mov (.tmp 0)) <|
 .op (some 8) .any [7] (.len false (.tmp 7)) <|
 .op (some 9) .any [6, 8] (.bin .lss .none (.tmp 6) (.tmp 8)) <|
 .nil))
 (.cond (.tmp 9) .skip
 (.exit 0)))
 (.seq (.block 1 (.seq (.ops (.op (some 12) .any [0] (.mov (.tmp 0)) <|
 .op (some 13) .any [5] (.mov (.tmp 5)) <|
 .op (some 14) .any [12, 13] (.iaddrS 1 (.tmp 12) (.tmp 13)) <|
 .op (some 15) (.int .i64) [14] (.load none (.tmp 14)) <|
 .op (some 16) .any [1] (.mov (.tmp 1)) <|
 .op (some 17) .any [15, 16] (.bin .eql .none (.tmp 15) (.tmp 16)) <|
 .nil))
 (.cond (.tmp 17) (.seq (.ops (.op (some 4) .any [] (.mov (.con (V.bool true))) <|
 .nil))
 .ret)
 .skip)))
 (.ops (.op (some 10) .any [5] (.mov (.tmp 5)) <|
 .op (some 11) .any [10] (.bin .add .none (.tmp 10) (.con (V.int .i64 (Int.ofNat 1)))) <|
 .op (some 5) .any [11] (.mov (.tmp 11)) <|
 .nil))))
def A73 : XFn := ⟨18, [.any, (.int .i64)], [(.tmp 4)], (C73_0 C73_1 C73_2)⟩
def G75_0 : List AOper := [⟨(some 45), .mov (.tmp 0), none⟩, ⟨(some 46), .mov (.tmp 0), none⟩, ⟨(some 47), .nilck (.tmp 46), none⟩, ⟨(some 48), .faddr 5 (.tmp 47), none⟩, ⟨(some 49), .load none (.tmp 48), none⟩, ⟨(some 50), .load (some 13) (.tmp 8), none⟩, ⟨(some 51), .buildSlice 111 1 [(V.int .i64 (Int.ofNat 0)), V.nils, (V.bool false), (V.bool false), (V.bool false), (V.bool false), (V.int .i64 (Int.ofNat 0)), (V.int .i64 (Int.ofNat 0)), V.nils, V.nils, (V.int .i64 (Int.ofNat 0)), (V.bool false), (V.int .i64 (Int.ofNat 0))] [(0, 13, (.tmp 50))], none⟩, ⟨(some 52), .append 111 13 128 (.tmp 49) (.tmp 51), none⟩, ⟨(some 53), .nilck (.tmp 45), none⟩, ⟨(some 54), .faddr 5 (.tmp 53), none⟩, ⟨none, .store 1 (.tmp 54) (.tmp 52), none⟩]
def H75_0 : List DP := [⟨0, [0]⟩, ⟨0, [0]⟩, ⟨2, [46]⟩, ⟨6, [47]⟩, ⟨14, [48]⟩, ⟨0, [8]⟩, ⟨32, [50]⟩, ⟨126, [49, 51]⟩, ⟨255, [45]⟩, ⟨511, [53]⟩, ⟨1023, [54, 52]⟩]
def G75_1 : List AOper := [⟨(some 97), .mov (.tmp 0), none⟩, ⟨(some 98), .nilck (.tmp 97), none⟩, ⟨(some 99), .faddr 5 (.tmp 98), none⟩, ⟨(some 100), .load none (.tmp 99), none⟩, ⟨(some 101), .mov (.tmp 7), none⟩, ⟨(some 102), .mov (.tmp 0), none⟩, ⟨(some 103), .load (some 16) (.tmp 4), none⟩, ⟨(some 104), .call 151 [(.tmp 102), (.tmp 103)], none⟩, ⟨(some 105), .iaddrS 13 (.tmp 100) (.tmp 101), none⟩, ⟨(some 106), .faddr 8 (.tmp 105), none⟩, ⟨none, .store 1 (.tmp 106) (.tmp 104), none⟩]
def H75_1 : List DP := [⟨0, [0]⟩, ⟨1, [97]⟩, ⟨3, [98]⟩, ⟨7, [99]⟩, ⟨0, [7]⟩, ⟨0, [0]⟩, ⟨0, [4]⟩, ⟨96, [102, 103]⟩, ⟨255, [100, 101]⟩, ⟨511, [105]⟩, ⟨1023, [106, 104]⟩]
def C75_0 (cc1 : XC) : XC := (.seq (.ops (.op (some 4) .any [1] (.box 152 (.tmp 1)) <|
 .op (some 6) .any [] (.mov (.con (V.int .i64 (Int.ofNat 0)))) <|
 .nil))
 (.seq (.seq (.ops (.op (some 11) .any [2] (.mov (.tmp 2)) <|
 .op (some 12) .any [11] (.bin .gtr .none (.tmp 11) (.con (V.int .i64 (Int.ofNat 16)))) <|
 .op (some 13) .any [12] (.mov (.tmp 12)) <|
 .grp 13 false (.op (some 14) .any [0, 13] (.mov (.tmp 0)) <|
 .op (some 15) .any [14, 13] (.nilck (.tmp 14)) <|
 .op (some 16) .any [15, 13] (.faddr 5 (.tmp 15)) <|
 .op (some 17) .any [16, 13] (.load none (.tmp 16)) <|
 .op (some 18) .any [17, 13] (.len false (.tmp 17)) <|
 .op (some 19) .any [18, 13] (.bin .geq .none (.tmp 18) (.con (V.int .i64 (Int.ofNat 300)))) <|
 .nil) 20 [13, 19] (.tmp 13) (.con (V.bool true)) (.tmp 19) <|
 .nil))
 (.cond (.tmp 20) (.seq (.ops (.op (some 21) .any [0] (.mov (.tmp 0)) <|
 .op (some 22) (.tup []) [21] (.call 148 [(.tmp 21), (.con (V.int .i64 (Int.ofNat 5)))]) <|
 .nil))
 (.seq (.ops (.op (some 6) .any [] (.mov (.con (V.int .i64 (Int.ofNat 0)))) <|
 .nil))
 .ret))
 .skip))
 (.seq (.ops (.op (some 23) .any [0] (.mov (.tmp 0)) <|
 .op (some 24) .any [23] (.nilck (.tmp 23)) <|
 .op (some 25) .any [24] (.faddr 5 (.tmp 24)) <|
 .op (some 26) .any [25] (.load none (.tmp 25)) <|
 .op (some 27) .any [26] (.len false (.tmp 26)) <|
 .op (some 7) .any [27] (.mov (.tmp 27)) <|
 .nil))
 (.seq (.ops (.op (some 28) .any [4] (.faddr 0 (.tmp 4)) <|
 .op (some 29) (.int .i64) [28] (.load none (.tmp 28)) <|
 .op (some 30) .any [4] (.faddr 5 (.tmp 4)) <|
 .op (some 31) (.agg [.bool, .bool, .bool, .bool, (.int .i64), (.int .i64)]) [30] (.load (some 6) (.tmp 30)) <|
 .op (some 32) .any [4] (.faddr 13 (.tmp 4)) <|
 .op (some 33) (.int .i64) [32] (.load none (.tmp 32)) <|
 .op (some 34) .any [4] (.faddr 14 (.tmp 4)) <|
 .op (some 35) .bool [34] (.load none (.tmp 34)) <|
 .op (some 36) (.agg [(.int .i64), .any, .bool, .bool, .bool, .bool, (.int .i64), (.int .i64), .any, .any, (.int .i64), .bool, (.int .i64)]) [29, 31, 33, 35] (.build [(V.int .i64 (Int.ofNat 0)), V.nils, (V.bool false), (V.bool false), (V.bool false), (V.bool false), (V.int .i64 (Int.ofNat 0)), (V.int .i64 (Int.ofNat 0)), V.nils, V.nils, (V.int .i64 (Int.ofNat 0)), (V.bool false), (V.int .i64 (Int.ofNat 0))] [(0, 1, (.tmp 29)), (2, 6, (.tmp 31)), (10, 1, (.tmp 33)), (11, 1, (.tmp 35))]) <|
 .op (some 8) .any [] (.alloc 111 [(V.int .i64 (Int.ofNat 0)), V.nils, (V.bool false), (V.bool false), (V.bool false), (V.bool false), (V.int .i64 (Int.ofNat 0)), (V.int .i64 (Int.ofNat 0)), V.nils, V.nils, (V.int .i64 (Int.ofNat 0)), (V.bool false), (V.int .i64 (Int.ofNat 0))]) <|
 .op none (.agg [(.int .i64), .any, .bool, .bool, .bool, .bool, (.int .i64), (.int .i64), .any, .any, (.int .i64), .bool, (.int .i64)]) [8, 36] (.store 13 (.tmp 8) (.tmp 36)) <|
 .nil))
 (.seq (.seq (.ops (.op (some 37) .any [4] (.faddr 0 (.tmp 4)) <|
 .op (some 38) (.int .i64) [37] (.load none (.tmp 37)) <|
 .op (some 39) .any [38] (.bin .neq .none (.tmp 38) (.con (V.int .i64 (Int.ofNat 9)))) <|
 .nil))
 (.cond (.tmp 39) (.ops (.op (some 40) .any [4] (.faddr 0 (.tmp 4)) <|
 .op (some 41) (.int .i64) [40] (.load none (.tmp 40)) <|
 .op (some 42) (.agg [(.int .i64), (.int .i64)]) [41] (.call 149 [(.tmp 41)]) <|
 .op (some 43) .any [42] (.buildSlice 214 1 [(V.int .i64 (Int.ofNat 0)), (V.int .i64 (Int.ofNat 0))] [(0, 2, (.tmp 42))]) <|
 .op (some 44) .any [8] (.faddr 1 (.tmp 8)) <|
 .op none .any [44, 43] (.store 1 (.tmp 44) (.tmp 43)) <|
 .nil))
 .skip))
 (.keep [(0, .ptr), (2, (.int .i64)), (4, .ptr), (7, (.int .i64)), (8, .ptr)] [] [] cc1))))))
def C75_1 (cc2 : XC) (cc3 : XC) : XC := (.seq (.keep [(0, .ptr), (2, (.int .i64)), (4, .ptr), (7, (.int .i64)), (8, .ptr)] [] [] (.gdraw G75_0 H75_0 [(0, .ptr), (2, (.int .i64)), (4, .ptr), (7, (.int .i64))]))
 (.seq (.seq (.ops (.op (some 55) .any [4] (.faddr 0 (.tmp 4)) <|
 .op (some 56) (.int .i64) [55] (.load none (.tmp 55)) <|
 .nil))
 (.block 0 (.seq (.seq (.ops (.op (some 58) .any [56] (.bin .eql .none (.tmp 56) (.con (V.int .i64 (Int.ofNat 2)))) <|
 .op (some 57) .any [58] (.mov (.tmp 58)) <|
 .nil))
 (.cond (.tmp 57) .skip
 (.seq (.ops (.op (some 59) .any [56] (.bin .eql .none (.tmp 56) (.con (V.int .i64 (Int.ofNat 5)))) <|
 .op (some 57) .any [59] (.mov (.tmp 59)) <|
 .nil))
 (.cond (.tmp 57) .skip
 (.seq (.ops (.op (some 60) .any [56] (.bin .eql .none (.tmp 56) (.con (V.int .i64 (Int.ofNat 6)))) <|
 .op (some 57) .any [60] (.mov (.tmp 60)) <|
 .nil))
 (.cond (.tmp 57) .skip
 (.ops (.op (some 61) .any [56] (.bin .eql .none (.tmp 56) (.con (V.int .i64 (Int.ofNat 10)))) <|
 .op (some 57) .any [61] (.mov (.tmp 61)) <|
 .nil))))))))
 (.keep [(0, .ptr), (2, (.int .i64)), (4, .ptr), (7, (.int .i64)), (56, (.int .i64)), (57, .bool)] [] [] cc3))))
 (.keep [(7, (.int .i64))] [] [] cc2)))
def C75_2 : XC := (.seq (.ops (.op (some 116) .any [7] (.mov (.tmp 7)) <|
 .op (some 6) .any [116] (.mov (.tmp 116)) <|
 .nil))
 .ret)
def C75_3 (cc4 : XC) (cc5 : XC) : XC := (.cond (.tmp 57) (.seq (.ops (.op (some 62) .any [4] (.faddr 5 (.tmp 4)) <|
 .op (some 63) (.agg [.bool, .bool, .bool, .bool, (.int .i64), (.int .i64)]) [62] (.load (some 6) (.tmp 62)) <|
 .op (some 64) .any [4] (.faddr 0 (.tmp 4)) <|
 .op (some 65) (.int .i64) [64] (.load none (.tmp 64)) <|
 .op (some 66) .any [65] (.bin .neq .none (.tmp 65) (.con (V.int .i64 (Int.ofNat 2)))) <|
 .op (some 67) (.int .i64) [63, 66] (.call 150 [(.tmp 63), (.tmp 66)]) <|
 .op (some 9) .any [67] (.mov (.tmp 67)) <|
 .nil))
 (.seq (.seq (.ops (.op (some 68) .any [9] (.mov (.tmp 9)) <|
 .op (some 69) .any [68] (.bin .neq .none (.tmp 68) (.con (V.int .i64 (Int.ofNat 0)))) <|
 .nil))
 (.cond (.tmp 69) (.ops (.op (some 70) .any [0] (.mov (.tmp 0)) <|
 .op (some 71) .any [9] (.mov (.tmp 9)) <|
 .op (some 72) (.tup []) [70, 71] (.call 148 [(.tmp 70), (.tmp 71)]) <|
 .nil))
 .skip))
 (.keep [(0, .ptr), (2, (.int .i64)), (4, .ptr), (7, (.int .i64))] [] [] cc4)))
 (.seq (.ops (.op (some 96) .any [56] (.bin .eql .none (.tmp 56) (.con (V.int .i64 (Int.ofNat 3)))) <|
 .op (some 95) .any [96] (.mov (.tmp 96)) <|
 .nil))
 (.cond (.tmp 95) (.keep [(0, .ptr), (4, .ptr), (7, (.int .i64))] [] [] (.gdraw G75_1 H75_1 [(7, (.int .i64))]))
 (.seq (.seq (.ops (.op (some 108) .any [56] (.bin .eql .none (.tmp 56) (.con (V.int .i64 (Int.ofNat 7)))) <|
 .op (some 107) .any [108] (.mov (.tmp 108)) <|
 .nil))
 (.cond (.tmp 107) .skip
 (.seq (.ops (.op (some 109) .any [56] (.bin .eql .none (.tmp 56) (.con (V.int .i64 (Int.ofNat 8)))) <|
 .op (some 107) .any [109] (.mov (.tmp 109)) <|
 .nil))
 (.cond (.tmp 107) .skip
 (.ops (.op (some 110) .any [56] (.bin .eql .none (.tmp 56) (.con (V.int .i64 (Int.ofNat 9)))) <|
 .op (some 107) .any [110] (.mov (.tmp 110)) <|
 .nil))))))
 (.keep [(0, .ptr), (2, (.int .i64)), (4, .ptr), (7, (.int .i64)), (107, .bool)] [] [] cc5)))))
def C75_4 : XC := (.seq (.ops (.op (some 73) .any [4] (.faddr 0 (.tmp 4)) <|
 .op (some 74) (.int .i64) [73] (.load none (.tmp 73)) <|
 .op (some 75) .any [74] (.bin .eql .none (.tmp 74) (.con (V.int .i64 (Int.ofNat 10)))) <|
 .nil))
 (.cond (.tmp 75) (.seq (.ops (.op (some 76) .any [0] (.mov (.tmp 0)) <|
 .op (some 77) .any [4] (.faddr 15 (.tmp 4)) <|
 .op (some 78) (.int .i64) [77] (.load none (.tmp 77)) <|
 .op (some 79) .any [2] (.mov (.tmp 2)) <|
 .op (some 80) .any [79] (.bin .add .none (.tmp 79) (.con (V.int .i64 (Int.ofNat 1)))) <|
 .op (some 81) (.int .i64) [76, 78, 80] (.call 36 [(.tmp 76), (.tmp 78), (.tmp 80)]) <|
 .op (some 10) .any [81] (.mov (.tmp 81)) <|
 .nil))
 (.seq (.ops (.op (some 82) .any [0] (.mov (.tmp 0)) <|
 .op (some 83) .any [82] (.nilck (.tmp 82)) <|
 .op (some 84) .any [83] (.faddr 6 (.tmp 83)) <|
 .op (some 85) (.int .i64) [84] (.load none (.tmp 84)) <|
 .op (some 86) .any [85] (.bin .eql .none (.tmp 85) (.con (V.int .i64 (Int.ofNat 0)))) <|
 .nil))
 (.cond (.tmp 86) (.ops (.op (some 87) .any [0] (.mov (.tmp 0)) <|
 .op (some 88) .any [87] (.nilck (.tmp 87)) <|
 .op (some 89) .any [88] (.faddr 5 (.tmp 88)) <|
 .op (some 90) .any [89] (.load none (.tmp 89)) <|
 .op (some 91) .any [7] (.mov (.tmp 7)) <|
 .op (some 92) .any [10] (.mov (.tmp 10)) <|
 .op (some 93) .any [90, 91] (.iaddrS 13 (.tmp 90) (.tmp 91)) <|
 .op (some 94) .any [93] (.faddr 12 (.tmp 93)) <|
 .op none .any [94, 92] (.store 1 (.tmp 94) (.tmp 92)) <|
 .nil))
 .skip)))
 .skip))
def C75_5 : XC := (.cond (.tmp 107) (.ops (.op (some 111) .any [0] (.mov (.tmp 0)) <|
 .op (some 112) .any [7] (.mov (.tmp 7)) <|
 .op (some 113) (.agg [(.int .i64), .str, .bool, (.int .i64), (.int .i64), .bool, .bool, .bool, .bool, (.int .i64), (.int .i64), .any, .any, (.int .i64), .bool, (.int .i64)]) [4] (.load (some 16) (.tmp 4)) <|
 .op (some 114) .any [2] (.mov (.tmp 2)) <|
 .op (some 115) (.tup []) [111, 112, 113, 114] (.call 152 [(.tmp 111), (.tmp 112), (.tmp 113), (.tmp 114)]) <|
 .nil))
 .skip)
def A75 : XFn := ⟨117, [.ptr, (.agg [(.int .i64), .str, .bool, (.int .i64), (.int .i64), .bool, .bool, .bool, .bool, (.int .i64), (.int .i64), .any, .any, (.int .i64), .bool, (.int .i64)]), (.int .i64)], [(.tmp 6)], (C75_0 (C75_1 C75_2 (C75_3 C75_4 C75_5)))⟩
def C76_0 : XC := (.seq (.ops (.op (some 4) .any [] (.mov (.con (V.int .i64 (Int.ofNat 0)))) <|
 .nil))
 (.seq (.seq (.ops (.op (some 5) .any [0] (.mov (.tmp 0)) <|
 .op (some 6) .any [5] (.nilck (.tmp 5)) <|
 .op (some 7) .any [6] (.faddr 5 (.tmp 6)) <|
 .op (some 8) .any [7] (.load none (.tmp 7)) <|
 .op (some 9) .any [1] (.mov (.tmp 1)) <|
 .op (some 10) .any [8, 9] (.iaddrS 13 (.tmp 8) (.tmp 9)) <|
 .op (some 11) .any [10] (.faddr 1 (.tmp 10)) <|
 .op (some 12) .any [11] (.load none (.tmp 11)) <|
 .op (some 13) .any [12] (.len false (.tmp 12)) <|
 .op (some 14) .any [13] (.bin .gtr .none (.tmp 13) (.con (V.int .i64 (Int.ofNat 0)))) <|
 .nil))
 (.cond (.tmp 14) (.seq (.ops (.op (some 4) .any [] (.mov (.con (V.int .i64 (Int.ofNat 1)))) <|
 .nil))
 .ret)
 .skip))
 (.seq (.ops (.op (some 4) .any [] (.mov (.con (V.int .i64 (Int.ofNat 0)))) <|
 .nil))
 .ret)))
def A76 : XFn := ⟨15, [.ptr, (.int .i64)], [(.tmp 4)], C76_0⟩
def C77_0 : XC := (.seq (.seq (.ops (.op (some 10) .any [0] (.mov (.tmp 0)) <|
 .op (some 11) .any [10] (.nilck (.tmp 10)) <|
 .op (some 12) .any [11] (.faddr 6 (.tmp 11)) <|
 .op (some 13) (.int .i64) [12] (.load none (.tmp 12)) <|
 .op (some 14) .any [13] (.bin .neq .none (.tmp 13) (.con (V.int .i64 (Int.ofNat 0)))) <|
 .nil))
 (.cond (.tmp 14) .ret
 .skip))
 (.seq (.ops (.op (some 16) .any [0] (.mov (.tmp 0)) <|
 .op (some 17) .any [16] (.nilck (.tmp 16)) <|
 .op (some 18) .any [17] (.faddr 5 (.tmp 17)) <|
 .op (some 19) .any [18] (.load none (.tmp 18)) <|
 .op (some 20) .any [1] (.mov (.tmp 1)) <|
 .op (some 21) .any [19, 20] (.iaddrS 13 (.tmp 19) (.tmp 20)) <|
 .op (some 22) .any [21] (.faddr 1 (.tmp 21)) <|
 .op (some 23) .any [22] (.load none (.tmp 22)) <|
 .op (some 24) .any [2] (.mov (.tmp 2)) <|
 .op (some 25) .any [3] (.mov (.tmp 3)) <|
 .op (some 26) (.tup [.any, (.int .i64)]) [23, 24, 25] (.call 153 [(.tmp 23), (.tmp 24), (.tmp 25)]) <|
 .op (some 15) .any [26] (.mov (.tmp 26)) <|
 .op (some 27) .any [15] (.extract 0 (.tmp 15)) <|
 .op (some 28) .any [15] (.extract 1 (.tmp 15)) <|
 .op (some 8) .any [27] (.mov (.tmp 27)) <|
 .op (some 9) .any [28] (.mov (.tmp 28)) <|
 .nil))
 (.seq (.seq (.ops (.op (some 29) .any [9] (.mov (.tmp 9)) <|
 .op (some 30) .any [29] (.bin .neq .none (.tmp 29) (.con (V.int .i64 (Int.ofNat 0)))) <|
 .nil))
 (.cond (.tmp 30) (.seq (.ops (.op (some 31) .any [0] (.mov (.tmp 0)) <|
 .op (some 32) .any [9] (.mov (.tmp 9)) <|
 .op (some 33) (.tup []) [31, 32] (.call 148 [(.tmp 31), (.tmp 32)]) <|
 .nil))
 .ret)
 .skip))
 (.ops (.op (some 34) .any [0] (.mov (.tmp 0)) <|
 .op (some 35) .any [34] (.nilck (.tmp 34)) <|
 .op (some 36) .any [35] (.faddr 5 (.tmp 35)) <|
 .op (some 37) .any [36] (.load none (.tmp 36)) <|
 .op (some 38) .any [1] (.mov (.tmp 1)) <|
 .op (some 39) .any [8] (.mov (.tmp 8)) <|
 .op (some 40) .any [37, 38] (.iaddrS 13 (.tmp 37) (.tmp 38)) <|
 .op (some 41) .any [40] (.faddr 1 (.tmp 40)) <|
 .op none .any [41, 39] (.store 1 (.tmp 41) (.tmp 39)) <|
 .nil)))))
def A77 : XFn := ⟨42, [.ptr, (.int .i64), (.int .i64), (.int .i64)], [], C77_0⟩
def C78_0 (cc1 : XC) : XC := (.seq (.ops (.op (some 7) .any [2] (.mov (.tmp 2)) <|
 .op (some 8) .any [7] (.min (.tmp 7) [(.con (V.int .i64 (Int.ofNat 32)))]) <|
 .op (some 9) .any [8] (.max (.con (V.int .i64 (Int.ofNat 0))) [(.tmp 8)]) <|
 .op (some 2) .any [9] (.mov (.tmp 9)) <|
 .nil))
 (.seq (.ops (.op (some 10) .any [2] (.mov (.tmp 2)) <|
 .op (some 11) .any [10] (.bin .sub .none (.tmp 10) (.con (V.int .i64 (Int.ofNat 1)))) <|
 .op (some 6) .any [11] (.mov (.tmp 11)) <|
 .nil))
 (.block 0 (.loop [(0, .ptr), (1, (.int .u32)), (6, (.int .i64))] [] [] cc1))))
def C78_1 : XC := (.seq (.seq (.ops (.op (some 12) .any [6] (.mov (.tmp 6)) <|
 .op (some 13) .any [12] (.bin .geq .none (.tmp 12) (.con (V.int .i64 (Int.ofNat 0)))) <|
 .nil))
 (.cond (.tmp 13) .skip
 (.exit 0)))
 (.seq (.block 1 (.ops (.op (some 16) .any [0] (.mov (.tmp 0)) <|
 .op (some 17) .any [0] (.mov (.tmp 0)) <|
 .op (some 18) .any [17] (.nilck (.tmp 17)) <|
 .op (some 19) .any [18] (.faddr 0 (.tmp 18)) <|
 .op (some 20) .any [19] (.load none (.tmp 19)) <|
 .op (some 21) .any [1] (.mov (.tmp 1)) <|
 .op (some 22) .any [6] (.mov (.tmp 6)) <|
 .op (some 23) .any [22] (.conv (.toInt .u64) (.tmp 22)) <|
 .op (some 24) .any [21, 23] (.bin .shr .none (.tmp 21) (.tmp 23)) <|
 .op (some 25) .any [24] (.bin .and .none (.tmp 24) (.con (V.int .u32 (Int.ofNat 1)))) <|
 .op (some 26) .any [25] (.conv (.toInt .u8) (.tmp 25)) <|
 .op (some 27) .any [26] (.buildSlice 5 1 [(V.int .u8 (Int.ofNat 0))] [(0, 1, (.tmp 26))]) <|
 .op (some 28) .one [20, 27] (.append 5 1 1 (.tmp 20) (.tmp 27)) <|
 .op (some 29) .any [16] (.nilck (.tmp 16)) <|
 .op (some 30) .any [29] (.faddr 0 (.tmp 29)) <|
 .op none .any [30, 28] (.store 1 (.tmp 30) (.tmp 28)) <|
 .nil)))
 (.ops (.op (some 14) .any [6] (.mov (.tmp 6)) <|
 .op (some 15) .any [14] (.bin .sub .none (.tmp 14) (.con (V.int .i64 (Int.ofNat 1)))) <|
 .op (some 6) .any [15] (.mov (.tmp 15)) <|
 .nil))))
def A78 : XFn := ⟨31, [.ptr, (.int .u32), (.int .i64)], [], (C78_0 C78_1)⟩
def C79_0 : XC := (.seq (.ops (.op (some 1) .any [0] (.box 111 (.tmp 0)) <|
 .op (some 2) .any [] (.mov (.con (V.bool false))) <|
 .nil))
 (.seq (.ops (.op (some 3) .any [1] (.faddr 10 (.tmp 1)) <|
 .op (some 4) (.int .i64) [3] (.load none (.tmp 3)) <|
 .op (some 5) .any [4] (.bin .lss .none (.tmp 4) (.con (V.int .i64 (Int.ofNat 0)))) <|
 .op (some 6) .any [5] (.mov (.tmp 5)) <|
 .grp 6 false (.op (some 7) .any [1, 6] (.faddr 10 (.tmp 1)) <|
 .op (some 8) (.int .i64) [7, 6] (.load none (.tmp 7)) <|
 .op (some 9) .any [1, 6] (.faddr 9 (.tmp 1)) <|
 .op (some 10) .any [9, 6] (.load none (.tmp 9)) <|
 .op (some 11) .any [10, 6] (.len false (.tmp 10)) <|
 .op (some 12) .any [1, 6] (.faddr 8 (.tmp 1)) <|
 .op (some 13) .any [12, 6] (.load none (.tmp 12)) <|
 .op (some 14) .any [13, 6] (.len false (.tmp 13)) <|
 .op (some 15) .any [11, 14, 6] (.bin .add .none (.tmp 11) (.tmp 14)) <|
 .op (some 16) .any [8, 15, 6] (.bin .gtr .none (.tmp 8) (.tmp 15)) <|
 .nil) 17 [6, 16] (.tmp 6) (.con (V.bool true)) (.tmp 16) <|
 .op (some 2) .any [17] (.mov (.tmp 17)) <|
 .nil))
 .ret))
def A79 : XFn := ⟨18, [(.agg [(.int .i64), .any, .bool, .bool, .bool, .bool, (.int .i64), (.int .i64), .any, .any, (.int .i64), .bool, (.int .i64)])], [(.tmp 2)], C79_0⟩
def C80_0 (cc1 : XC) (cc2 : XC) : XC := (.seq (.ops (.op (some 4) .any [] (.mov (.con (V.int .i64 (Int.ofNat 0)))) <|
 .nil))
 (.seq (.seq (.ops (.op (some 6) .any [0] (.mov (.tmp 0)) <|
 .op (some 7) .any [6] (.len false (.tmp 6)) <|
 .op (some 8) .any [] (.mov (.con (V.int .i64 (Int.ofNat 0)))) <|
 .nil))
 (.block 0 (.loop [(0, .any), (1, .any), (7, (.int .i64)), (8, (.int .i64))] [] [] cc2)))
 (.keep [] [] [] cc1)))
def C80_1 : XC := (.seq (.ops (.op (some 4) .any [] (.mov (.con (V.int .i64 (Int.negSucc 0)))) <|
 .nil))
 .ret)
def C80_2 : XC := (.seq (.ops (.op (some 9) .any [8, 7] (.bin .lss .none (.tmp 8) (.tmp 7)) <|
 .nil))
 (.seq (.cond (.tmp 9) .skip
 (.exit 0))
 (.seq (.block 1 (.seq (.ops (.op (some 10) .any [8] (.mov (.tmp 8)) <|
 .op (some 5) .any [10] (.mov (.tmp 10)) <|
 .nil))
 (.seq (.ops (.op (some 11) .any [1] (.mov (.tmp 1)) <|
 .op (some 12) .any [0] (.mov (.tmp 0)) <|
 .op (some 13) .any [5] (.mov (.tmp 5)) <|
 .op (some 14) .any [12, 13] (.iaddrS 13 (.tmp 12) (.tmp 13)) <|
 .op (some 15) (.agg [(.int .i64), .any, .bool, .bool, .bool, .bool, (.int .i64), (.int .i64), .any, .any, (.int .i64), .bool, (.int .i64)]) [14] (.load (some 13) (.tmp 14)) <|
 .op (some 16) .bool [11, 15] (.callv (.tmp 11) [(.tmp 15)]) <|
 .nil))
 (.cond (.tmp 16) (.seq (.ops (.op (some 17) .any [5] (.mov (.tmp 5)) <|
 .op (some 4) .any [17] (.mov (.tmp 17)) <|
 .nil))
 .ret)
 .skip))))
 (.ops (.op (some 18) .any [8] (.bin .add .none (.tmp 8) (.con (V.int .i64 (Int.ofNat 1)))) <|
 .op (some 8) .any [18] (.mov (.tmp 18)) <|
 .nil)))))
def A80 : XFn := ⟨19, [.any, .any], [(.tmp 4)], (C80_0 C80_1 C80_2)⟩
def C81_0 : XC := (.seq (.ops (.op (some 4) .any [0] (.mov (.tmp 0)) <|
 .op (some 5) (.int .i64) [4] (.call 56 [(.tmp 4)]) <|
 .op (some 6) .any [5] (.bin .eql .none (.tmp 5) (.con (V.int .i64 (Int.ofNat 0)))) <|
 .nil))
 (.cond (.tmp 6) (.ops (.op (some 7) .any [0] (.mov (.tmp 0)) <|
 .op (some 8) .any [1] (.mov (.tmp 1)) <|
 .op (some 9) .any [7] (.nilck (.tmp 7)) <|
 .op (some 10) .any [9] (.faddr 1 (.tmp 9)) <|
 .op none .any [10, 8] (.store 1 (.tmp 10) (.tmp 8)) <|
 .nil))
 .skip))
def A81 : XFn := ⟨11, [.ptr, (.int .i64)], [], C81_0⟩
def C82_0 : XC := (.seq (.ops (.op (some 2) .any [] (.mov (.con (V.int .i64 (Int.ofNat 0)))) <|
 .nil))
 (.seq (.ops (.op (some 3) .any [0] (.mov (.tmp 0)) <|
 .op (some 4) .any [3] (.min (.tmp 3) [(.con (V.int .i64 (Int.ofNat 64)))]) <|
 .op (some 5) .any [4] (.max (.con (V.int .i64 (Int.ofNat 0))) [(.tmp 4)]) <|
 .op (some 2) .any [5] (.mov (.tmp 5)) <|
 .nil))
 .ret))
def A82 : XFn := ⟨6, [(.int .i64)], [(.tmp 2)], C82_0⟩
end
end Go.Proofs.YtpafblhkafcfmaaGreatDoor
