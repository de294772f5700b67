/- The code of the functions that are entered. Printed by a program off the dump. -/
import Derived.Test.YtpafblhkafcfmaaGreatDoorOgX
import Derived.KernelRfl
set_option linter.all false
set_option maxRecDepth 100000
set_option maxHeartbeats 0
namespace Go.Proofs.YtpafblhkafcfmaaGreatDoor
open Go Go.Og
noncomputable section
def C83_0 : XC := (.seq (.ops (.op (some 4) .any [] (.mov (.con (V.int .u32 (Int.ofNat 0)))) <|
 .nil))
 (.seq (.ops (.op (some 5) .any [1] (.mov (.tmp 1)) <|
 .op (some 6) (.int .i64) [5] (.call 154 [(.tmp 5)]) <|
 .op (some 1) .any [6] (.mov (.tmp 6)) <|
 .nil))
 (.seq (.seq (.ops (.op (some 7) .any [0] (.mov (.tmp 0)) <|
 .op (some 8) .any [1] (.mov (.tmp 1)) <|
 .op (some 9) .bool [7, 8] (.call 155 [(.tmp 7), (.tmp 8)]) <|
 .op (some 10) .any [9] (.un .not (.tmp 9)) <|
 .nil))
 (.cond (.tmp 10) (.seq (.ops (.op (some 4) .any [] (.mov (.con (V.int .u32 (Int.ofNat 0)))) <|
 .nil))
 .ret)
 .skip))
 (.seq (.ops (.op (some 11) .any [0] (.mov (.tmp 0)) <|
 .op (some 12) .any [11] (.nilck (.tmp 11)) <|
 .op (some 13) .any [12] (.faddr 0 (.tmp 12)) <|
 .op (some 14) .any [1] (.mov (.tmp 1)) <|
 .op (some 15) (.int .u32) [13, 14] (.call 109 [(.tmp 13), (.tmp 14)]) <|
 .op (some 4) .any [15] (.mov (.tmp 15)) <|
 .nil))
 .ret))))
def A83 : XFn := ⟨16, [.ptr, (.int .i64)], [(.tmp 4)], C83_0⟩
def C84_0 : XC := (.seq (.ops (.op (some 2) .any [] (.mov (.con (V.bool false))) <|
 .nil))
 (.seq (.ops (.op (some 3) .any [0] (.mov (.tmp 0)) <|
 .op (some 4) .any [3] (.nilck (.tmp 3)) <|
 .op (some 5) .any [4] (.faddr 0 (.tmp 4)) <|
 .op (some 6) .any [5] (.load none (.tmp 5)) <|
 .op (some 7) (.int .u64) [6] (.call 45 [(.tmp 6), (.con (V.int .i64 (Int.ofNat 1)))]) <|
 .op (some 8) .any [7] (.bin .eql .none (.tmp 7) (.con (V.int .u64 (Int.ofNat 1)))) <|
 .op (some 2) .any [8] (.mov (.tmp 8)) <|
 .nil))
 .ret))
def A84 : XFn := ⟨9, [.ptr], [(.tmp 2)], C84_0⟩
def C85_0 : XC := (.seq (.ops (.op (some 1) .any [0] (.box 107 (.tmp 0)) <|
 .op (some 2) .any [] (.mov (.con (V.int .u64 (Int.ofNat 0)))) <|
 .op (some 3) .any [] (.mov (.con (V.bool false))) <|
 .nil))
 (.seq (.ops (.op (some 5) (.agg [.bool, .bool, .bool, .bool, (.int .i64), (.int .i64)]) [1] (.load (some 6) (.tmp 1)) <|
 .op (some 6) (.agg [.bool, .bool, .bool, .bool, (.int .i64), (.int .i64)]) [5] (.build [(V.bool false), (V.bool false), (V.bool false), (V.bool false), (V.int .i64 (Int.ofNat 0)), (V.int .i64 (Int.ofNat 0))] [(0, 6, (.tmp 5))]) <|
 .pal 4 [] 222 [(V.bool false), (V.bool false), (V.bool false), (V.bool false), (V.int .i64 (Int.ofNat 0)), (V.int .i64 (Int.ofNat 0))] <|
 .op none (.agg [.bool, .bool, .bool, .bool, (.int .i64), (.int .i64)]) [4, 6] (.store 6 (.tmp 4) (.tmp 6)) <|
 .nil))
 (.seq (.seq (.ops (.op (some 7) (.agg [.bool, .bool, .bool, .bool, (.int .i64), (.int .i64)]) [4] (.load (some 6) (.tmp 4)) <|
 .op (some 8) .bool [7] (.call 156 [(.tmp 7)]) <|
 .op (some 9) .any [8] (.un .not (.tmp 8)) <|
 .op (some 10) .any [9] (.mov (.tmp 9)) <|
 .grp 10 false (.op (some 11) (.agg [.bool, .bool, .bool, .bool, (.int .i64), (.int .i64)]) [4, 10] (.load (some 6) (.tmp 4)) <|
 .op (some 12) .bool [11, 10] (.call 157 [(.tmp 11)]) <|
 .nil) 13 [10, 12] (.tmp 10) (.con (V.bool true)) (.tmp 12) <|
 .nil))
 (.cond (.tmp 13) (.seq (.ops (.op (some 2) .any [] (.mov (.con (V.int .u64 (Int.ofNat 0)))) <|
 .op (some 3) .any [] (.mov (.con (V.bool false))) <|
 .nil))
 .ret)
 .skip))
 (.seq (.ops (.op (some 14) .any [4] (.faddr 0 (.tmp 4)) <|
 .op (some 15) .any [14] (.faddr 5 (.tmp 14)) <|
 .op (some 16) (.int .i64) [15] (.load none (.tmp 15)) <|
 .op (some 17) .any [16] (.conv (.toInt .u64) (.tmp 16)) <|
 .op (some 18) .any [4] (.faddr 0 (.tmp 4)) <|
 .op (some 19) .any [18] (.faddr 4 (.tmp 18)) <|
 .op (some 20) (.int .i64) [19] (.load none (.tmp 19)) <|
 .op (some 21) .any [20] (.conv (.toInt .u64) (.tmp 20)) <|
 .op (some 22) .any [17, 21] (.bin .sub .none (.tmp 17) (.tmp 21)) <|
 .op (some 2) .any [22] (.mov (.tmp 22)) <|
 .op (some 3) .any [] (.mov (.con (V.bool true))) <|
 .nil))
 .ret))))
def A85 : XFn := ⟨23, [(.agg [.bool, .bool, .bool, .bool, (.int .i64), (.int .i64)])], [(.tmp 2), (.tmp 3)], C85_0⟩
def C86_0 : XC := (.seq (.ops (.op (some 2) .any [0] (.box 64 (.tmp 0)) <|
 .op (some 3) .any [1] (.box 41 (.tmp 1)) <|
 .op (some 4) .any [] (.mov (.con (V.int .u64 (Int.ofNat 0)))) <|
 .nil))
 (.seq (.ops (.op (some 5) .any [] (.alloc 41 [(V.int .u64 (Int.ofNat 0))]) <|
 .nil))
 (.seq (.ops (.op (some 7) .any [2] (.load none (.tmp 2)) <|
 .op (some 8) .any [2, 3, 5] (.mkfn 159 [] [(.tmp 2), (.tmp 3), (.tmp 5)]) <|
 .op (some 9) .bool [7, 8] (.call 158 [(.tmp 7), (.tmp 8)]) <|
 .op (some 6) .any [9] (.mov (.tmp 9)) <|
 .nil))
 (.seq (.seq (.ops (.op (some 10) .any [6] (.mov (.tmp 6)) <|
 .op (some 11) .any [10] (.un .not (.tmp 10)) <|
 .nil))
 (.cond (.tmp 11) (.seq (.ops (.op (some 4) .any [] (.mov (.con (V.int .u64 (Int.ofNat 0)))) <|
 .nil))
 .ret)
 .skip))
 (.seq (.ops (.op (some 12) (.int .u64) [5] (.load none (.tmp 5)) <|
 .op (some 4) .any [12] (.mov (.tmp 12)) <|
 .nil))
 .ret)))))
def A86 : XFn := ⟨13, [.any, (.int .u64)], [(.tmp 4)], C86_0⟩
def C89_0 : XC := (.seq (.ops (.op (some 2) .any [0] (.box 107 (.tmp 0)) <|
 .op (some 4) .any [] (.mov (.con (V.bool false))) <|
 .nil))
 (.seq (.ops (.op (some 5) .any [2] (.faddr 0 (.tmp 2)) <|
 .op (some 6) .bool [5] (.load none (.tmp 5)) <|
 .op (some 7) .any [6] (.un .not (.tmp 6)) <|
 .op (some 8) .any [7] (.mov (.tmp 7)) <|
 .grp 8 false (.op (some 9) .any [2, 8] (.faddr 1 (.tmp 2)) <|
 .op (some 10) .bool [9, 8] (.load none (.tmp 9)) <|
 .op (some 11) .any [10, 8] (.un .not (.tmp 10)) <|
 .op (some 12) .any [11, 8] (.mov (.tmp 11)) <|
 .grp 12 false (.op (some 13) .any [1, 12] (.mov (.tmp 1)) <|
 .op (some 14) .any [2, 12] (.faddr 4 (.tmp 2)) <|
 .op (some 15) (.int .i64) [14, 12] (.load none (.tmp 14)) <|
 .op (some 16) .any [13, 15, 12] (.bin .geq .none (.tmp 13) (.tmp 15)) <|
 .nil) 17 [12, 16, 8] (.tmp 12) (.con (V.bool true)) (.tmp 16) <|
 .op (some 18) .any [17, 8] (.mov (.tmp 17)) <|
 .grp 18 true (.op (some 19) .any [2, 18] (.faddr 2 (.tmp 2)) <|
 .op (some 20) .bool [19, 18] (.load none (.tmp 19)) <|
 .op (some 21) .any [20, 18] (.un .not (.tmp 20)) <|
 .op (some 22) .any [21, 18] (.mov (.tmp 21)) <|
 .grp 22 false (.op (some 23) .any [1, 22] (.mov (.tmp 1)) <|
 .op (some 24) .any [2, 22] (.faddr 5 (.tmp 2)) <|
 .op (some 25) (.int .i64) [24, 22] (.load none (.tmp 24)) <|
 .op (some 26) .any [23, 25, 22] (.bin .leq .none (.tmp 23) (.tmp 25)) <|
 .nil) 27 [22, 26, 18] (.tmp 22) (.con (V.bool true)) (.tmp 26) <|
 .nil) 28 [18, 27, 8] (.tmp 18) (.tmp 27) (.con (V.bool false)) <|
 .nil) 29 [8, 28] (.tmp 8) (.con (V.bool true)) (.tmp 28) <|
 .op (some 4) .any [29] (.mov (.tmp 29)) <|
 .nil))
 .ret))
def A89 : XFn := ⟨30, [(.agg [.bool, .bool, .bool, .bool, (.int .i64), (.int .i64)]), (.int .i64)], [(.tmp 4)], C89_0⟩
def C92_0 (cc1 : XC) : XC := (.seq (.ops (.op (some 6) .any [] (.mov (.con (V.int .i64 (Int.ofNat 0)))) <|
 .nil))
 (.seq (.ops (.op (some 7) .any [] (.mov (.con (V.int .i64 (Int.ofNat 0)))) <|
 .nil))
 (.seq (.ops (.op (some 8) .any [] (.mov (.con (V.bool false))) <|
 .nil))
 (.block 0 (.loop [(0, .any), (1, (.int .i64)), (2, .any), (7, (.int .i64)), (8, .bool)] [] [] cc1)))))
def C92_1 (cc2 : XC) : XC := (.block 1 (.seq (.ops (.op (some 12) .any [0] (.mov (.tmp 0)) <|
 .op (some 13) .any [8] (.mov (.tmp 8)) <|
 .op (some 14) (.tup [(.int .i64), .bool]) [12, 13] (.call 171 [(.tmp 12), (.tmp 13)]) <|
 .op (some 11) .any [14] (.mov (.tmp 14)) <|
 .op (some 15) .any [11] (.extract 0 (.tmp 11)) <|
 .op (some 16) .any [11] (.extract 1 (.tmp 11)) <|
 .op (some 9) .any [15] (.mov (.tmp 15)) <|
 .op (some 10) .any [16] (.mov (.tmp 16)) <|
 .nil))
 (.seq (.seq (.ops (.op (some 17) .any [9] (.mov (.tmp 9)) <|
 .op (some 18) .any [1] (.mov (.tmp 1)) <|
 .op (some 19) .any [18] (.max (.tmp 18) [(.con (V.int .i64 (Int.ofNat 0)))]) <|
 .op (some 20) .any [7] (.mov (.tmp 7)) <|
 .op (some 21) .any [19, 20] (.bin .sub .none (.tmp 19) (.tmp 20)) <|
 .op (some 22) .any [17, 21] (.bin .gtr .none (.tmp 17) (.tmp 21)) <|
 .nil))
 (.cond (.tmp 22) (.ops (.op (some 23) .any [0] (.mov (.tmp 0)) <|
 .op (some 24) (.tup []) [23] (.call 81 [(.tmp 23), (.con (V.int .i64 (Int.ofNat 5)))]) <|
 .nil))
 .skip))
 (.keep [(0, .any), (1, (.int .i64)), (2, .any), (7, (.int .i64)), (9, (.int .i64)), (10, .bool)] [] [] cc2))))
def C92_2 : XC := (.seq (.seq (.ops (.op (some 25) .any [0] (.mov (.tmp 0)) <|
 .op (some 26) (.int .i64) [25] (.call 56 [(.tmp 25)]) <|
 .op (some 27) .any [26] (.bin .neq .none (.tmp 26) (.con (V.int .i64 (Int.ofNat 0)))) <|
 .op (some 28) .any [27] (.mov (.tmp 27)) <|
 .grp 28 false (.op (some 29) .any [2, 28] (.mov (.tmp 2)) <|
 .op (some 30) .any [9, 28] (.mov (.tmp 9)) <|
 .op (some 31) .bool [29, 30, 28] (.callv (.tmp 29) [(.tmp 30)]) <|
 .op (some 32) .any [31, 28] (.un .not (.tmp 31)) <|
 .nil) 33 [28, 32] (.tmp 28) (.con (V.bool true)) (.tmp 32) <|
 .op (some 34) .any [33] (.mov (.tmp 33)) <|
 .grp 34 false (.op (some 35) .any [0, 34] (.mov (.tmp 0)) <|
 .op (some 36) (.int .i64) [35, 34] (.call 56 [(.tmp 35)]) <|
 .op (some 37) .any [36, 34] (.bin .neq .none (.tmp 36) (.con (V.int .i64 (Int.ofNat 0)))) <|
 .nil) 38 [34, 37] (.tmp 34) (.con (V.bool true)) (.tmp 37) <|
 .nil))
 (.cond (.tmp 38) (.seq (.ops (.op (some 6) .any [] (.mov (.con (V.int .i64 (Int.ofNat 0)))) <|
 .nil))
 .ret)
 .skip))
 (.seq (.ops (.op (some 39) .any [7] (.mov (.tmp 7)) <|
 .op (some 40) .any [9] (.mov (.tmp 9)) <|
 .op (some 41) .any [39, 40] (.bin .add .none (.tmp 39) (.tmp 40)) <|
 .op (some 7) .any [41] (.mov (.tmp 41)) <|
 .nil))
 (.seq (.seq (.ops (.op (some 42) .any [10] (.mov (.tmp 10)) <|
 .op (some 43) .any [42] (.un .not (.tmp 42)) <|
 .nil))
 (.cond (.tmp 43) (.seq (.ops (.op (some 44) .any [7] (.mov (.tmp 7)) <|
 .op (some 6) .any [44] (.mov (.tmp 44)) <|
 .nil))
 .ret)
 .skip))
 (.ops (.op (some 45) .any [9] (.mov (.tmp 9)) <|
 .op (some 46) .any [45] (.bin .lss .none (.tmp 45) (.con (V.int .i64 (Int.ofNat 65536)))) <|
 .op (some 8) .any [46] (.mov (.tmp 46)) <|
 .nil)))))
def A92 : XFn := ⟨47, [.any, (.int .i64), .any], [(.tmp 6)], (C92_0 (C92_1 C92_2))⟩
def G93_0 : List AOper := [⟨(some 5), .load none (.tmp 1), none⟩, ⟨(some 6), .load none (.tmp 2), none⟩, ⟨(some 7), .mov (.tmp 0), none⟩, ⟨(some 8), .call 51 [(.tmp 6), (.tmp 7)], none⟩, ⟨(some 9), .append 5 1 1 (.tmp 5) (.tmp 8), none⟩, ⟨none, .store 1 (.tmp 1) (.tmp 9), none⟩]
def H93_0 : List DP := [⟨0, [1]⟩, ⟨0, [2]⟩, ⟨0, [0]⟩, ⟨6, [6, 7]⟩, ⟨15, [5, 8]⟩, ⟨31, [1, 9]⟩]
def C93_0 : XC := (.seq (.ops (.op (some 4) .any [] (.mov (.con (V.bool false))) <|
 .nil))
 (.seq (.keep [(0, (.int .i64)), (1, .any), (2, .any)] [] [] (.gdraw G93_0 H93_0 []))
 (.seq (.ops (.op (some 4) .any [] (.mov (.con (V.bool true))) <|
 .nil))
 .ret)))
def A93 : XFn := ⟨10, [(.int .i64), .any, .any], [(.tmp 4)], C93_0⟩
def C95_0 (cc1 : XC) : XC := (.seq (.ops (.op (some 4) .any [] (.mov (.con V.nils)) <|
 .nil))
 (.seq (.ops (.op (some 6) .any [1] (.mov (.tmp 1)) <|
 .op (some 7) .any [6] (.max (.tmp 6) [(.con (V.int .i64 (Int.ofNat 0)))]) <|
 .op (some 1) .any [7] (.mov (.tmp 7)) <|
 .nil))
 (.seq (.seq (.ops (.op (some 8) .any [0] (.mov (.tmp 0)) <|
 .op (some 9) .any [8] (.bin .neq .ptr (.tmp 8) (.con V.nilp)) <|
 .op (some 10) .any [9] (.mov (.tmp 9)) <|
 .grp 10 true (.op (some 11) .any [1, 10] (.mov (.tmp 1)) <|
 .op (some 12) .any [0, 10] (.mov (.tmp 0)) <|
 .op (some 13) .any [12, 10] (.nilck (.tmp 12)) <|
 .op (some 14) .any [13, 10] (.faddr 0 (.tmp 13)) <|
 .op (some 15) .any [14, 10] (.faddr 0 (.tmp 14)) <|
 .op (some 16) .any [15, 10] (.load none (.tmp 15)) <|
 .op (some 17) .any [16, 10] (.len false (.tmp 16)) <|
 .op (some 18) .any [11, 17, 10] (.bin .gtr .none (.tmp 11) (.tmp 17)) <|
 .nil) 19 [10, 18] (.tmp 10) (.tmp 18) (.con (V.bool false)) <|
 .nil))
 (.cond (.tmp 19) (.ops (.op (some 20) .any [0] (.mov (.tmp 0)) <|
 .op (some 21) .any [20] (.nilck (.tmp 20)) <|
 .op (some 22) .any [21] (.faddr 0 (.tmp 21)) <|
 .op (some 23) .any [22] (.faddr 0 (.tmp 22)) <|
 .op (some 24) .any [23] (.load none (.tmp 23)) <|
 .op (some 25) .any [24] (.len false (.tmp 24)) <|
 .op (some 26) .any [25] (.bin .add .none (.tmp 25) (.con (V.int .i64 (Int.ofNat 1)))) <|
 .op (some 1) .any [26] (.mov (.tmp 26)) <|
 .nil))
 .skip))
 (.keep [(0, .any), (1, (.int .i64))] [] [] cc1))))
def C95_1 (cc2 : XC) (cc3 : XC) : XC := (.seq (.seq (.ops (.op (some 27) .any [0] (.mov (.tmp 0)) <|
 .op (some 28) .any [1] (.mov (.tmp 1)) <|
 .op (some 29) .any [28] (.bin .mul .none (.con (V.int .i64 (Int.ofNat 8))) (.tmp 28)) <|
 .op (some 30) .bool [27, 29] (.call 155 [(.tmp 27), (.tmp 29)]) <|
 .op (some 31) .any [30] (.un .not (.tmp 30)) <|
 .nil))
 (.cond (.tmp 31) (.seq (.ops (.op (some 4) .any [] (.mov (.con V.nils)) <|
 .nil))
 .ret)
 .skip))
 (.seq (.ops (.op (some 5) .any [] (.mov (.con V.nils)) <|
 .nil))
 (.seq (.seq (.ops (.op (some 32) .any [1] (.mov (.tmp 1)) <|
 .op (some 33) .any [] (.mov (.con (V.int .i64 (Int.ofNat 0)))) <|
 .nil))
 (.block 0 (.loop [(0, .any), (5, .any), (32, (.int .i64)), (33, (.int .i64))] [] [] cc3)))
 (.keep [(5, .any)] [] [] cc2))))
def C95_2 : XC := (.seq (.ops (.op (some 44) .any [5] (.mov (.tmp 5)) <|
 .op (some 4) .any [44] (.mov (.tmp 44)) <|
 .nil))
 .ret)
def C95_3 : XC := (.seq (.ops (.op (some 34) .any [33, 32] (.bin .lss .none (.tmp 33) (.tmp 32)) <|
 .nil))
 (.seq (.cond (.tmp 34) .skip
 (.exit 0))
 (.seq (.block 1 (.ops (.op (some 35) .any [5] (.mov (.tmp 5)) <|
 .op (some 36) .any [0] (.mov (.tmp 0)) <|
 .op (some 37) .any [36] (.nilck (.tmp 36)) <|
 .op (some 38) .any [37] (.faddr 0 (.tmp 37)) <|
 .op (some 39) (.int .u32) [38] (.call 109 [(.tmp 38), (.con (V.int .i64 (Int.ofNat 8)))]) <|
 .op (some 40) .any [39] (.conv (.toInt .u8) (.tmp 39)) <|
 .op (some 41) .any [40] (.buildSlice 5 1 [(V.int .u8 (Int.ofNat 0))] [(0, 1, (.tmp 40))]) <|
 .op (some 42) .one [35, 41] (.append 5 1 1 (.tmp 35) (.tmp 41)) <|
 .op (some 5) .any [42] (.mov (.tmp 42)) <|
 .nil)))
 (.ops (.op (some 43) .any [33] (.bin .add .none (.tmp 33) (.con (V.int .i64 (Int.ofNat 1)))) <|
 .op (some 33) .any [43] (.mov (.tmp 43)) <|
 .nil)))))
def A95 : XFn := ⟨45, [.any, (.int .i64)], [(.tmp 4)], (C95_0 (C95_1 C95_2 C95_3))⟩
def G101_0 : List AOper := [⟨(some 19), .mov (.tmp 4), none⟩, ⟨(some 20), .call 19 [(.tmp 19)], none⟩, ⟨(some 21), .mov (.tmp 0), none⟩, ⟨(some 22), .nilck (.tmp 21), none⟩, ⟨(some 23), .faddr 1 (.tmp 22), none⟩, ⟨(some 24), .load (some 4) (.tmp 23), none⟩, ⟨(some 25), .mov (.tmp 0), none⟩, ⟨(some 26), .nilck (.tmp 25), none⟩, ⟨(some 27), .faddr 5 (.tmp 26), none⟩, ⟨(some 28), .load none (.tmp 27), none⟩, ⟨(some 29), .build [V.nilp, (V.str ⟨0, 0⟩), V.nils, V.nils, V.nils, V.nilp] [(0, 1, (.tmp 20)), (1, 4, (.tmp 24)), (5, 1, (.tmp 28))], none⟩, ⟨(some 30), .box 70 (.tmp 29), none⟩, ⟨(some 5), .mov (.tmp 30), none⟩]
def H101_0 : List DP := [⟨0, [4]⟩, ⟨1, [19]⟩, ⟨0, [0]⟩, ⟨4, [21]⟩, ⟨12, [22]⟩, ⟨28, [23]⟩, ⟨0, [0]⟩, ⟨64, [25]⟩, ⟨192, [26]⟩, ⟨448, [27]⟩, ⟨1023, [20, 24, 28]⟩, ⟨2047, [29]⟩, ⟨4095, [30]⟩]
def C101_0 : XC := (.seq (.ops (.op (some 6) .any [0] (.mov (.tmp 0)) <|
 .op (some 7) .any [6] (.nilck (.tmp 6)) <|
 .op (some 8) .any [7] (.faddr 0 (.tmp 7)) <|
 .op (some 9) .any [8] (.load none (.tmp 8)) <|
 .op (some 10) .one [9] (.call 48 [(.tmp 9), (.con (V.int .i64 (Int.ofNat 70000)))]) <|
 .op (some 4) .any [10] (.mov (.tmp 10)) <|
 .nil))
 (.seq (.seq (.ops (.op (some 11) .any [0] (.mov (.tmp 0)) <|
 .op (some 12) .any [4] (.mov (.tmp 4)) <|
 .op (some 13) .any [12] (.len false (.tmp 12)) <|
 .op (some 14) .any [13] (.bin .eql .none (.tmp 13) (.con (V.int .i64 (Int.ofNat 0)))) <|
 .op (some 15) (.tup []) [11, 14] (.call 42 [(.tmp 11), (.tmp 14)]) <|
 .nil))
 (.seq (.ops (.op (some 16) .any [0] (.mov (.tmp 0)) <|
 .op (some 17) .bool [16] (.call 44 [(.tmp 16)]) <|
 .op (some 18) .any [17] (.un .not (.tmp 17)) <|
 .nil))
 (.cond (.tmp 18) .ret
 .skip)))
 (.seq (.keep [(0, .ptr), (1, .any), (4, .any)] [] [] (.gdraw G101_0 H101_0 [(0, .ptr), (1, .any), (5, .ptr)]))
 (.seq (.ops (.op (some 31) .any [1] (.mov (.tmp 1)) <|
 .op (some 32) .any [5] (.mov (.tmp 5)) <|
 .op (some 33) (.tup []) [31, 32] (.callv (.tmp 31) [(.tmp 32)]) <|
 .nil))
 (.ops (.op (some 34) .any [0] (.mov (.tmp 0)) <|
 .op (some 35) .any [5] (.mov (.tmp 5)) <|
 .op (some 36) .any [35] (.nilck (.tmp 35)) <|
 .op (some 37) .any [36] (.faddr 0 (.tmp 36)) <|
 .op (some 38) .any [37] (.load none (.tmp 37)) <|
 .op (some 39) (.int .i64) [38] (.call 21 [(.tmp 38)]) <|
 .op (some 40) .any [39] (.bin .neq .none (.tmp 39) (.con (V.int .i64 (Int.ofNat 0)))) <|
 .op (some 41) (.tup []) [34, 40] (.call 42 [(.tmp 34), (.tmp 40)]) <|
 .nil))))))
def A101 : XFn := ⟨42, [.ptr, .any], [], C101_0⟩
def C103_0 (cc1 : XC) (cc2 : XC) : XC := (.seq (.ops (.op (some 2) .any [0] (.box 26 (.tmp 0)) <|
 .op (some 4) .any [] (.mov (.con V.nils)) <|
 .nil))
 (.seq (.ops (.op (some 8) (.agg [.str, .any, .any, .any]) [2] (.load (some 4) (.tmp 2)) <|
 .op (some 9) .any [1] (.mov (.tmp 1)) <|
 .op (some 10) (.agg [(.int .i64), .any, .bool, .bool, .bool, .bool, (.int .i64), (.int .i64), .any, .any, (.int .i64), .bool, (.int .i64)]) [8, 9] (.call 166 [(.tmp 8), (.tmp 9)]) <|
 .op (some 5) .any [] (.alloc 111 [(V.int .i64 (Int.ofNat 0)), V.nils, (V.bool false), (V.bool false), (V.bool false), (V.bool false), (V.int .i64 (Int.ofNat 0)), (V.int .i64 (Int.ofNat 0)), V.nils, V.nils, (V.int .i64 (Int.ofNat 0)), (V.bool false), (V.int .i64 (Int.ofNat 0))]) <|
 .op none (.agg [(.int .i64), .any, .bool, .bool, .bool, .bool, (.int .i64), (.int .i64), .any, .any, (.int .i64), .bool, (.int .i64)]) [5, 10] (.store 13 (.tmp 5) (.tmp 10)) <|
 .nil))
 (.seq (.ops (.op (some 11) .any [5] (.faddr 9 (.tmp 5)) <|
 .op (some 12) .any [11] (.load none (.tmp 11)) <|
 .op (some 13) .any [12] (.len false (.tmp 12)) <|
 .op (some 6) .any [13] (.mov (.tmp 13)) <|
 .nil))
 (.seq (.seq (.ops (.op (some 14) .any [5] (.faddr 0 (.tmp 5)) <|
 .op (some 15) (.int .i64) [14] (.load none (.tmp 14)) <|
 .nil))
 (.block 0 (.seq (.ops (.op (some 17) .any [15] (.bin .eql .none (.tmp 15) (.con (V.int .i64 (Int.ofNat 7)))) <|
 .op (some 16) .any [17] (.mov (.tmp 17)) <|
 .nil))
 (.cond (.tmp 16) (.seq (.ops (.op (some 18) .any [6] (.mov (.tmp 6)) <|
 .op (some 19) .one [18] (.call 170 [(.con (V.int .i64 (Int.ofNat 0))), (.tmp 18)]) <|
 .op (some 4) .any [19] (.mov (.tmp 19)) <|
 .nil))
 .ret)
 (.seq (.seq (.ops (.op (some 21) .any [15] (.bin .eql .none (.tmp 15) (.con (V.int .i64 (Int.ofNat 8)))) <|
 .op (some 20) .any [21] (.mov (.tmp 21)) <|
 .nil))
 (.cond (.tmp 20) .skip
 (.ops (.op (some 22) .any [15] (.bin .eql .none (.tmp 15) (.con (V.int .i64 (Int.ofNat 9)))) <|
 .op (some 20) .any [22] (.mov (.tmp 22)) <|
 .nil))))
 (.keep [(2, .ptr), (5, .ptr), (6, (.int .i64)), (20, .bool)] [] [] cc2))))))
 (.keep [] [] [] cc1)))))
def C103_1 : XC := (.seq (.ops (.op (some 4) .any [] (.mov (.con V.nils)) <|
 .nil))
 .ret)
def C103_2 : XC := (.cond (.tmp 20) (.seq (.ops (.op (some 23) .any [5] (.faddr 10 (.tmp 5)) <|
 .op (some 24) (.int .i64) [23] (.load none (.tmp 23)) <|
 .op (some 25) .any [24] (.max (.tmp 24) [(.con (V.int .i64 (Int.ofNat 0)))]) <|
 .op (some 26) .any [6] (.mov (.tmp 6)) <|
 .op (some 27) .any [25, 26] (.min (.tmp 25) [(.tmp 26)]) <|
 .op (some 7) .any [27] (.mov (.tmp 27)) <|
 .nil))
 (.seq (.ops (.op (some 28) .any [2, 5] (.mkfn 173 [] [(.tmp 2), (.tmp 5)]) <|
 .op (some 29) .any [7] (.mov (.tmp 7)) <|
 .op (some 30) .one [29] (.call 170 [(.con (V.int .i64 (Int.ofNat 0))), (.tmp 29)]) <|
 .op (some 31) .any [7] (.mov (.tmp 7)) <|
 .op (some 32) .any [6] (.mov (.tmp 6)) <|
 .op (some 33) .one [31, 32] (.call 170 [(.tmp 31), (.tmp 32)]) <|
 .op (some 34) .one [28, 30, 33] (.call 167 [(.tmp 28), (.tmp 30), (.tmp 33)]) <|
 .op (some 4) .any [34] (.mov (.tmp 34)) <|
 .nil))
 .ret))
 .skip)
def A103 : XFn := ⟨35, [(.agg [.str, .any, .any, .any]), (.int .i64)], [(.tmp 4)], (C103_0 C103_1 C103_2)⟩
def G104_0 : List AOper := [⟨(some 58), .mov (.tmp 2), none⟩, ⟨(some 59), .nilck (.tmp 58), none⟩, ⟨(some 60), .faddr 3 (.tmp 59), none⟩, ⟨(some 61), .load none (.tmp 60), none⟩, ⟨(some 62), .mov (.tmp 16), none⟩, ⟨(some 63), .mov (.tmp 0), none⟩, ⟨(some 64), .faddr 9 (.tmp 6), none⟩, ⟨(some 65), .load none (.tmp 64), none⟩, ⟨(some 66), .mov (.tmp 16), none⟩, ⟨(some 67), .iaddrS 11 (.tmp 65) (.tmp 66), none⟩, ⟨(some 68), .faddr 1 (.tmp 67), none⟩, ⟨(some 69), .load none (.tmp 68), none⟩, ⟨(some 70), .mov (.tmp 4), none⟩, ⟨(some 71), .bin .add .none (.tmp 70) (.con (V.int .i64 (Int.ofNat 1))), none⟩, ⟨(some 72), .call 20 [(.tmp 63), (.tmp 69), (.tmp 71)], none⟩, ⟨(some 73), .iaddrS 6 (.tmp 61) (.tmp 62), none⟩, ⟨none, .store 6 (.tmp 73) (.tmp 72), none⟩]
def H104_0 : List DP := [⟨0, [2]⟩, ⟨1, [58]⟩, ⟨3, [59]⟩, ⟨7, [60]⟩, ⟨0, [16]⟩, ⟨0, [0]⟩, ⟨0, [6]⟩, ⟨64, [64]⟩, ⟨0, [16]⟩, ⟨448, [65, 66]⟩, ⟨960, [67]⟩, ⟨1984, [68]⟩, ⟨0, [4]⟩, ⟨4096, [70]⟩, ⟨16352, [63, 69, 71]⟩, ⟨32767, [61, 62]⟩, ⟨65535, [73, 72]⟩]
def C104_0 (cc1 : XC) (cc2 : XC) : XC := (.seq (.ops (.op (some 6) .any [1] (.box 111 (.tmp 1)) <|
 .op (some 10) .any [] (.mov (.con (V.bool false))) <|
 .nil))
 (.seq (.ops (.op (some 11) .any [] (.mov (.con V.nils)) <|
 .nil))
 (.seq (.seq (.ops (.op (some 17) .any [3] (.mov (.tmp 3)) <|
 .op (some 18) .any [17] (.len false (.tmp 17)) <|
 .op (some 19) .any [] (.mov (.con (V.int .i64 (Int.ofNat 0)))) <|
 .nil))
 (.block 0 (.loop [(0, .ptr), (2, .ptr), (4, (.int .i64)), (6, .ptr), (11, .any), (17, .any), (18, (.int .i64)), (19, (.int .i64))] [] [] cc2)))
 (.keep [(0, .ptr), (2, .ptr), (4, (.int .i64)), (6, .ptr), (11, .any)] [] [] cc1))))
def C104_1 (cc4 : XC) (cc5 : XC) : XC := (.seq (.seq (.ops (.op (some 45) .any [11] (.mov (.tmp 11)) <|
 .op (some 46) .any [45] (.len false (.tmp 45)) <|
 .op (some 47) .any [] (.mov (.con (V.int .i64 (Int.ofNat 0)))) <|
 .nil))
 (.block 2 (.loop [(0, .ptr), (2, .ptr), (4, (.int .i64)), (6, .ptr), (11, .any), (45, .any), (46, (.int .i64)), (47, (.int .i64))] [] [] cc5)))
 (.keep [(11, .any)] [] [] cc4))
def C104_2 (cc3 : XC) : XC := (.seq (.ops (.op (some 20) .any [19, 18] (.bin .lss .none (.tmp 19) (.tmp 18)) <|
 .nil))
 (.seq (.cond (.tmp 20) .skip
 (.exit 0))
 (.seq (.block 1 (.seq (.ops (.op (some 21) .any [17, 19] (.iaddrS 1 (.tmp 17) (.tmp 19)) <|
 .op (some 22) (.int .i64) [21] (.load none (.tmp 21)) <|
 .op (some 13) .any [22] (.mov (.tmp 22)) <|
 .nil))
 (.seq (.ops (.op (some 23) .any [6] (.faddr 9 (.tmp 6)) <|
 .op (some 24) .any [23] (.load none (.tmp 23)) <|
 .op (some 25) .any [13] (.mov (.tmp 13)) <|
 .op (some 26) .any [24, 25] (.iaddrS 11 (.tmp 24) (.tmp 25)) <|
 .op (some 27) (.agg [.str, (.int .i64), .bool, .bool, (.int .i64), (.int .i64), .any, .any, (.int .i64), .any, (.int .i64)]) [26] (.load (some 11) (.tmp 26)) <|
 .pal 14 [] 191 [(V.str ⟨0, 0⟩), (V.int .i64 (Int.ofNat 0)), (V.bool false), (V.bool false), (V.int .i64 (Int.ofNat 0)), (V.int .i64 (Int.ofNat 0)), V.nils, V.nils, (V.int .i64 (Int.ofNat 0)), V.nils, (V.int .i64 (Int.ofNat 0))] <|
 .op none (.agg [.str, (.int .i64), .bool, .bool, (.int .i64), (.int .i64), .any, .any, (.int .i64), .any, (.int .i64)]) [14, 27] (.store 11 (.tmp 14) (.tmp 27)) <|
 .nil))
 (.seq (.ops (.op (some 28) .any [14] (.faddr 2 (.tmp 14)) <|
 .op (some 29) .bool [28] (.load none (.tmp 28)) <|
 .op (some 30) .any [29] (.un .not (.tmp 29)) <|
 .op (some 31) .any [30] (.mov (.tmp 30)) <|
 .grp 31 true (.op (some 32) .any [14, 31] (.faddr 3 (.tmp 14)) <|
 .op (some 33) .bool [32, 31] (.load none (.tmp 32)) <|
 .op (some 34) .any [33, 31] (.un .not (.tmp 33)) <|
 .nil) 35 [31, 34] (.tmp 31) (.tmp 34) (.con (V.bool false)) <|
 .op (some 36) .any [35] (.mov (.tmp 35)) <|
 .grp 36 false (.op (some 37) .any [0, 36] (.mov (.tmp 0)) <|
 .op (some 38) .bool [37, 36] (.call 84 [(.tmp 37)]) <|
 .nil) 39 [36, 38] (.tmp 36) (.con (V.bool true)) (.tmp 38) <|
 .nil))
 (.cond (.tmp 39) (.ops (.op (some 40) .any [11] (.mov (.tmp 11)) <|
 .op (some 41) .any [13] (.mov (.tmp 13)) <|
 .op (some 42) .any [41] (.buildSlice 3 1 [(V.int .i64 (Int.ofNat 0))] [(0, 1, (.tmp 41))]) <|
 .op (some 43) .one [40, 42] (.append 3 1 8 (.tmp 40) (.tmp 42)) <|
 .op (some 11) .any [43] (.mov (.tmp 43)) <|
 .nil))
 .skip)))))
 (.keep [(0, .ptr), (2, .ptr), (4, (.int .i64)), (6, .ptr), (11, .any), (17, .any), (18, (.int .i64)), (19, (.int .i64))] [] [] cc3))))
def C104_3 : XC := (.ops (.op (some 44) .any [19] (.bin .add .none (.tmp 19) (.con (V.int .i64 (Int.ofNat 1)))) <|
 .op (some 19) .any [44] (.mov (.tmp 44)) <|
 .nil))
def C104_4 : XC := (.seq (.ops (.op (some 75) .any [11] (.mov (.tmp 11)) <|
 .op (some 76) .any [75] (.len false (.tmp 75)) <|
 .op (some 77) .any [76] (.bin .gtr .none (.tmp 76) (.con (V.int .i64 (Int.ofNat 0)))) <|
 .op (some 10) .any [77] (.mov (.tmp 77)) <|
 .nil))
 .ret)
def C104_5 (cc6 : XC) : XC := (.seq (.ops (.op (some 48) .any [47, 46] (.bin .lss .none (.tmp 47) (.tmp 46)) <|
 .nil))
 (.seq (.cond (.tmp 48) .skip
 (.exit 2))
 (.seq (.block 3 (.seq (.ops (.op (some 49) .any [45, 47] (.iaddrS 1 (.tmp 45) (.tmp 47)) <|
 .op (some 50) (.int .i64) [49] (.load none (.tmp 49)) <|
 .op (some 16) .any [50] (.mov (.tmp 50)) <|
 .nil))
 (.seq (.ops (.op (some 51) .any [0] (.mov (.tmp 0)) <|
 .op (some 52) .bool [51] (.call 44 [(.tmp 51)]) <|
 .nil))
 (.cond (.tmp 52) (.seq (.ops (.op (some 53) .any [0] (.mov (.tmp 0)) <|
 .op (some 54) .any [53] (.nilck (.tmp 53)) <|
 .op (some 55) .any [54] (.faddr 5 (.tmp 54)) <|
 .op (some 56) .any [55] (.load none (.tmp 55)) <|
 .op (some 57) .bool [56] (.call 43 [(.tmp 56), (.con (V.int .i64 (Int.negSucc 0)))]) <|
 .nil))
 (.keep [(0, .ptr), (2, .ptr), (4, (.int .i64)), (6, .ptr), (11, .any), (16, (.int .i64)), (45, .any), (46, (.int .i64)), (47, (.int .i64))] [] [] (.gdraw G104_0 H104_0 [(0, .ptr), (2, .ptr), (4, (.int .i64)), (6, .ptr), (11, .any), (45, .any), (46, (.int .i64)), (47, (.int .i64))])))
 .skip))))
 (.keep [(0, .ptr), (2, .ptr), (4, (.int .i64)), (6, .ptr), (11, .any), (45, .any), (46, (.int .i64)), (47, (.int .i64))] [] [] cc6))))
def C104_6 : XC := (.ops (.op (some 74) .any [47] (.bin .add .none (.tmp 47) (.con (V.int .i64 (Int.ofNat 1)))) <|
 .op (some 47) .any [74] (.mov (.tmp 74)) <|
 .nil))
def A104 : XFn := ⟨78, [.ptr, (.agg [(.int .i64), .any, .bool, .bool, .bool, .bool, (.int .i64), (.int .i64), .any, .any, (.int .i64), .bool, (.int .i64)]), .ptr, .any, (.int .i64)], [(.tmp 10)], (C104_0 (C104_1 C104_4 (C104_5 C104_6)) (C104_2 C104_3))⟩
def G105_0 : List AOper := [⟨(some 60), .load none (.tmp 6), none⟩, ⟨(some 61), .load none (.tmp 6), none⟩, ⟨(some 62), .nilck (.tmp 61), none⟩, ⟨(some 63), .faddr 5 (.tmp 62), none⟩, ⟨(some 64), .load none (.tmp 63), none⟩, ⟨(some 65), .load none (.tmp 11), none⟩, ⟨(some 66), .mov (.tmp 0), none⟩, ⟨(some 67), .nilck (.tmp 66), none⟩, ⟨(some 68), .faddr 0 (.tmp 67), none⟩, ⟨(some 69), .load none (.tmp 68), none⟩, ⟨(some 70), .call 48 [(.tmp 69), (.con (V.int .i64 (Int.ofNat 70000)))], none⟩, ⟨(some 71), .build [(V.int .i64 (Int.ofNat 0)), V.nils] [(0, 1, (.tmp 65)), (1, 1, (.tmp 70))], none⟩, ⟨(some 72), .buildSlice 80 1 [(V.int .i64 (Int.ofNat 0)), V.nils] [(0, 2, (.tmp 71))], none⟩, ⟨(some 73), .append 80 2 32 (.tmp 64) (.tmp 72), none⟩, ⟨(some 74), .nilck (.tmp 60), none⟩, ⟨(some 75), .faddr 5 (.tmp 74), none⟩, ⟨none, .store 1 (.tmp 75) (.tmp 73), none⟩]
def H105_0 : List DP := [⟨0, [6]⟩, ⟨0, [6]⟩, ⟨2, [61]⟩, ⟨6, [62]⟩, ⟨14, [63]⟩, ⟨0, [11]⟩, ⟨0, [0]⟩, ⟨64, [66]⟩, ⟨192, [67]⟩, ⟨448, [68]⟩, ⟨960, [69]⟩, ⟨2016, [65, 70]⟩, ⟨4064, [71]⟩, ⟨8190, [64, 72]⟩, ⟨16383, [60]⟩, ⟨32767, [74]⟩, ⟨65535, [75, 73]⟩]
def C105_0 (cc1 : XC) : XC := (.seq (.ops (.op (some 6) .any [2] (.box 127 (.tmp 2)) <|
 .op (some 7) .any [3] (.box 3 (.tmp 3)) <|
 .nil))
 (.seq (.ops (.op (some 13) .any [0] (.mov (.tmp 0)) <|
 .op (some 14) .any [13] (.nilck (.tmp 13)) <|
 .op (some 15) .any [14] (.faddr 1 (.tmp 14)) <|
 .op (some 16) .any [15] (.faddr 3 (.tmp 15)) <|
 .op (some 17) .any [16] (.load none (.tmp 16)) <|
 .op (some 18) .any [1] (.mov (.tmp 1)) <|
 .op (some 19) .any [17, 18] (.iaddrS 13 (.tmp 17) (.tmp 18)) <|
 .op (some 20) (.agg [(.int .i64), .any, .bool, .bool, .bool, .bool, (.int .i64), (.int .i64), .any, .any, (.int .i64), .bool, (.int .i64)]) [19] (.load (some 13) (.tmp 19)) <|
 .op (some 8) .any [] (.alloc 111 [(V.int .i64 (Int.ofNat 0)), V.nils, (V.bool false), (V.bool false), (V.bool false), (V.bool false), (V.int .i64 (Int.ofNat 0)), (V.int .i64 (Int.ofNat 0)), V.nils, V.nils, (V.int .i64 (Int.ofNat 0)), (V.bool false), (V.int .i64 (Int.ofNat 0))]) <|
 .op none (.agg [(.int .i64), .any, .bool, .bool, .bool, .bool, (.int .i64), (.int .i64), .any, .any, (.int .i64), .bool, (.int .i64)]) [8, 20] (.store 13 (.tmp 8) (.tmp 20)) <|
 .nil))
 (.seq (.ops (.op (some 21) .any [0] (.mov (.tmp 0)) <|
 .op (some 22) .any [21] (.nilck (.tmp 21)) <|
 .op (some 23) .any [22] (.faddr 1 (.tmp 22)) <|
 .op (some 24) (.agg [.str, .any, .any, .any]) [23] (.load (some 4) (.tmp 23)) <|
 .op (some 25) .any [1] (.mov (.tmp 1)) <|
 .op (some 26) .one [24, 25] (.call 176 [(.tmp 24), (.tmp 25)]) <|
 .op (some 9) .any [] (.alloc 156 [V.nils]) <|
 .op none .any [9, 26] (.store 1 (.tmp 9) (.tmp 26)) <|
 .nil))
 (.seq (.ops (.op (some 27) .any [0] (.mov (.tmp 0)) <|
 .op (some 28) .one [27] (.call 177 [(.tmp 27)]) <|
 .op (some 29) .any [28] (.len false (.tmp 28)) <|
 .op (some 30) .any [] (.mov (.con (V.int .i64 (Int.ofNat 0)))) <|
 .nil))
 (.block 0 (.loop [(0, .ptr), (6, .ptr), (7, .ptr), (8, .ptr), (9, .ptr), (28, .any), (29, (.int .i64)), (30, (.int .i64))] [] [] cc1))))))
def C105_1 (cc2 : XC) : XC := (.seq (.ops (.op (some 31) .any [30, 29] (.bin .lss .none (.tmp 30) (.tmp 29)) <|
 .nil))
 (.seq (.cond (.tmp 31) .skip
 (.exit 0))
 (.seq (.block 1 (.seq (.ops (.op (some 32) .any [28, 30] (.iaddrS 1 (.tmp 28) (.tmp 30)) <|
 .op (some 33) (.int .i64) [32] (.load none (.tmp 32)) <|
 .op (some 11) .any [] (.alloc 3 [(V.int .i64 (Int.ofNat 0))]) <|
 .op none .any [11, 33] (.store 1 (.tmp 11) (.tmp 33)) <|
 .nil))
 (.block 2 (.seq (.ops (.op (some 49) .any [0] (.mov (.tmp 0)) <|
 .op (some 50) .bool [49] (.call 44 [(.tmp 49)]) <|
 .op (some 51) .any [50] (.un .not (.tmp 50)) <|
 .op (some 48) .any [51] (.mov (.tmp 51)) <|
 .nil))
 (.cond (.tmp 48) .ret
 (.seq (.ops (.op (some 53) (.int .i64) [11] (.load none (.tmp 11)) <|
 .op (some 54) .any [9] (.load none (.tmp 9)) <|
 .op (some 55) .any [54] (.len false (.tmp 54)) <|
 .op (some 56) .any [53, 55] (.bin .geq .none (.tmp 53) (.tmp 55)) <|
 .op (some 52) .any [56] (.mov (.tmp 56)) <|
 .nil))
 (.cond (.tmp 52) (.seq (.ops (.op (some 57) .any [6] (.load none (.tmp 6)) <|
 .op (some 58) .any [57] (.nilck (.tmp 57)) <|
 .op (some 59) .any [58] (.faddr 4 (.tmp 58)) <|
 .op none .any [59] (.store 1 (.tmp 59) (.con (V.int .i64 (Int.ofNat 2)))) <|
 .nil))
 (.keep [(0, .ptr), (6, .ptr), (7, .ptr), (8, .ptr), (9, .ptr), (11, .ptr), (28, .any), (29, (.int .i64)), (30, (.int .i64))] [] [] (.gdraw G105_0 H105_0 [(0, .ptr), (6, .ptr), (7, .ptr), (8, .ptr), (9, .ptr), (28, .any), (29, (.int .i64)), (30, (.int .i64))])))
 (.seq (.draw (.op (some 77) .any [8] (.faddr 9 (.tmp 8)) <|
 .op (some 78) .any [77] (.load none (.tmp 77)) <|
 .op (some 79) .any [9] (.load none (.tmp 9)) <|
 .op (some 80) (.int .i64) [11] (.load none (.tmp 11)) <|
 .op (some 81) .any [79, 80] (.iaddrS 1 (.tmp 79) (.tmp 80)) <|
 .op (some 82) .any [81] (.load none (.tmp 81)) <|
 .op (some 83) .any [82] (.iaddrS 1 (.tmp 82) (.con (V.int .i64 (Int.ofNat 0)))) <|
 .op (some 84) (.int .i64) [83] (.load none (.tmp 83)) <|
 .op (some 85) .any [78, 84] (.iaddrS 11 (.tmp 78) (.tmp 84)) <|
 .op (some 86) .any [85] (.faddr 10 (.tmp 85)) <|
 .op (some 87) (.int .i64) [86] (.load none (.tmp 86)) <|
 .op (some 88) .any [87] (.bin .gtr .none (.tmp 87) (.con (V.int .i64 (Int.ofNat 0)))) <|
 .op (some 76) .any [88] (.mov (.tmp 88)) <|
 .nil) [0, 1, 0, 0, 12, 28, 60, 124, 255, 511, 1023, 2047, 4095])
 (.cond (.tmp 76) (.ops (.op (some 89) .any [0] (.mov (.tmp 0)) <|
 .op (some 90) .any [8, 6, 9, 11, 7] (.mkfn 178 [] [(.tmp 8), (.tmp 6), (.tmp 9), (.tmp 11), (.tmp 7)]) <|
 .op (some 91) (.tup []) [89, 90] (.call 101 [(.tmp 89), (.tmp 90)]) <|
 .nil))
 (.seq (.ops (.op (some 34) .any [9] (.load none (.tmp 9)) <|
 .op (some 35) (.int .i64) [11] (.load none (.tmp 11)) <|
 .op (some 36) .any [34, 35] (.iaddrS 1 (.tmp 34) (.tmp 35)) <|
 .op (some 37) .any [36] (.load none (.tmp 36)) <|
 .op (some 38) .any [37] (.iaddrS 1 (.tmp 37) (.con (V.int .i64 (Int.ofNat 0)))) <|
 .op (some 39) (.int .i64) [38] (.load none (.tmp 38)) <|
 .op (some 12) .any [] (.alloc 3 [(V.int .i64 (Int.ofNat 0))]) <|
 .op none .any [12, 39] (.store 1 (.tmp 12) (.tmp 39)) <|
 .nil))
 (.seq (.ops (.op (some 40) .any [0] (.mov (.tmp 0)) <|
 .op (some 41) .any [40] (.nilck (.tmp 40)) <|
 .op (some 42) .any [41] (.faddr 5 (.tmp 41)) <|
 .op (some 43) .any [42] (.load none (.tmp 42)) <|
 .op (some 44) .bool [43] (.call 43 [(.tmp 43), (.con (V.int .i64 (Int.negSucc 0)))]) <|
 .nil))
 (.ops (.op (some 45) .any [0] (.mov (.tmp 0)) <|
 .op (some 46) .any [8, 12, 7, 6] (.mkfn 179 [] [(.tmp 8), (.tmp 12), (.tmp 7), (.tmp 6)]) <|
 .op (some 47) (.tup []) [45, 46] (.call 101 [(.tmp 45), (.tmp 46)]) <|
 .nil)))))))))))))
 (.keep [(0, .ptr), (6, .ptr), (7, .ptr), (8, .ptr), (9, .ptr), (28, .any), (29, (.int .i64)), (30, (.int .i64))] [] [] cc2))))
def C105_2 : XC := (.ops (.op (some 92) .any [30] (.bin .add .none (.tmp 30) (.con (V.int .i64 (Int.ofNat 1)))) <|
 .op (some 30) .any [92] (.mov (.tmp 92)) <|
 .nil))
def A105 : XFn := ⟨93, [.ptr, (.int .i64), .any, (.int .i64)], [], (C105_0 (C105_1 C105_2))⟩
def C106_0 : XC := (.seq (.ops (.op (some 2) .any [] (.mov (.con (V.int .i64 (Int.ofNat 0)))) <|
 .nil))
 (.seq (.seq (.ops (.op (some 3) .any [0] (.mov (.tmp 0)) <|
 .op (some 4) .any [3] (.bin .eql .ptr (.tmp 3) (.con V.nilp)) <|
 .nil))
 (.cond (.tmp 4) (.seq (.ops (.op (some 2) .any [] (.mov (.con (V.int .i64 (Int.ofNat 2)))) <|
 .nil))
 .ret)
 .skip))
 (.seq (.ops (.op (some 5) .any [0] (.mov (.tmp 0)) <|
 .op (some 6) .any [5] (.nilck (.tmp 5)) <|
 .op (some 7) .any [6] (.faddr 2 (.tmp 6)) <|
 .op (some 8) (.int .i64) [7] (.load none (.tmp 7)) <|
 .op (some 2) .any [8] (.mov (.tmp 8)) <|
 .nil))
 .ret)))
def A106 : XFn := ⟨9, [.any], [(.tmp 2)], C106_0⟩
def C107_0 : XC := (.seq (.ops (.op (some 2) .any [] (.mov (.con (V.int .i64 (Int.ofNat 0)))) <|
 .nil))
 (.seq (.seq (.ops (.op (some 3) .any [0] (.mov (.tmp 0)) <|
 .op (some 4) .any [3] (.bin .eql .ptr (.tmp 3) (.con V.nilp)) <|
 .nil))
 (.cond (.tmp 4) (.seq (.ops (.op (some 2) .any [] (.mov (.con (V.int .i64 (Int.ofNat 0)))) <|
 .nil))
 .ret)
 .skip))
 (.seq (.ops (.op (some 5) .any [0] (.mov (.tmp 0)) <|
 .op (some 6) .any [5] (.nilck (.tmp 5)) <|
 .op (some 7) .any [6] (.faddr 0 (.tmp 6)) <|
 .op (some 8) (.int .i64) [7] (.call 108 [(.tmp 7)]) <|
 .op (some 2) .any [8] (.mov (.tmp 8)) <|
 .nil))
 .ret)))
def A107 : XFn := ⟨9, [.any], [(.tmp 2)], C107_0⟩
def C108_0 : XC := (.seq (.ops (.op (some 2) .any [] (.mov (.con (V.int .i64 (Int.ofNat 0)))) <|
 .nil))
 (.seq (.draw (.op (some 3) .any [0] (.mov (.tmp 0)) <|
 .op (some 4) .any [3] (.nilck (.tmp 3)) <|
 .op (some 5) .any [4] (.faddr 0 (.tmp 4)) <|
 .op (some 6) .any [5] (.load none (.tmp 5)) <|
 .op (some 7) .any [6] (.len false (.tmp 6)) <|
 .op (some 8) .any [7] (.bin .mul .none (.con (V.int .i64 (Int.ofNat 8))) (.tmp 7)) <|
 .op (some 9) .any [0] (.mov (.tmp 0)) <|
 .op (some 10) .any [9] (.nilck (.tmp 9)) <|
 .op (some 11) .any [10] (.faddr 1 (.tmp 10)) <|
 .op (some 12) (.int .i64) [11] (.load none (.tmp 11)) <|
 .op (some 13) .any [8, 12] (.bin .sub .none (.tmp 8) (.tmp 12)) <|
 .op (some 2) .any [13] (.mov (.tmp 13)) <|
 .nil) [0, 1, 3, 7, 15, 31, 0, 64, 192, 448, 1023, 2047])
 .ret))
def A108 : XFn := ⟨14, [.ptr], [(.tmp 2)], C108_0⟩
def C109_0 (cc1 : XC) (cc2 : XC) : XC := (.seq (.ops (.op (some 4) .any [] (.mov (.con (V.int .u32 (Int.ofNat 0)))) <|
 .nil))
 (.seq (.ops (.op (some 5) .any [] (.mov (.con (V.int .u32 (Int.ofNat 0)))) <|
 .nil))
 (.seq (.seq (.ops (.op (some 6) .any [1] (.mov (.tmp 1)) <|
 .op (some 7) .any [] (.mov (.con (V.int .i64 (Int.ofNat 0)))) <|
 .nil))
 (.block 0 (.loop [(0, .any), (5, (.int .u32)), (6, (.int .i64)), (7, (.int .i64))] [] [] cc2)))
 (.keep [(5, (.int .u32))] [] [] cc1))))
def C109_1 : XC := (.seq (.ops (.op (some 16) .any [5] (.mov (.tmp 5)) <|
 .op (some 4) .any [16] (.mov (.tmp 16)) <|
 .nil))
 .ret)
def C109_2 : XC := (.seq (.ops (.op (some 8) .any [7, 6] (.bin .lss .none (.tmp 7) (.tmp 6)) <|
 .nil))
 (.seq (.cond (.tmp 8) .skip
 (.exit 0))
 (.seq (.block 1 (.ops (.op (some 9) .any [5] (.mov (.tmp 5)) <|
 .op (some 10) .any [9] (.bin .shl .none (.tmp 9) (.con (V.int .u64 (Int.ofNat 1)))) <|
 .op (some 11) .any [0] (.mov (.tmp 0)) <|
 .op (some 12) (.int .i64) [11] (.call 180 [(.tmp 11)]) <|
 .op (some 13) .any [12] (.conv (.toInt .u32) (.tmp 12)) <|
 .op (some 14) .any [10, 13] (.bin .or .none (.tmp 10) (.tmp 13)) <|
 .op (some 5) .any [14] (.mov (.tmp 14)) <|
 .nil)))
 (.ops (.op (some 15) .any [7] (.bin .add .none (.tmp 7) (.con (V.int .i64 (Int.ofNat 1)))) <|
 .op (some 7) .any [15] (.mov (.tmp 15)) <|
 .nil)))))
def A109 : XFn := ⟨17, [.any, (.int .i64)], [(.tmp 4)], (C109_0 C109_1 C109_2)⟩
def C111_0 : XC := (.seq (.ops (.op (some 2) .any [0] (.box 39 (.tmp 0)) <|
 .op (some 4) .any [] (.mov (.con (V.bool false))) <|
 .nil))
 (.seq (.ops (.op (some 5) .any [1] (.mov (.tmp 1)) <|
 .op (some 6) .any [5] (.bin .and .none (.tmp 5) (.con (V.int .i64 (Int.ofNat 1)))) <|
 .op (some 7) .any [6] (.bin .neq .none (.tmp 6) (.con (V.int .i64 (Int.ofNat 0)))) <|
 .op (some 8) .any [7] (.mov (.tmp 7)) <|
 .grp 8 false (.op (some 9) .any [2, 8] (.faddr 1 (.tmp 2)) <|
 .op (some 10) (.int .i64) [9, 8] (.load none (.tmp 9)) <|
 .op (some 11) .any [10, 8] (.bin .eql .none (.tmp 10) (.con (V.int .i64 (Int.ofNat 0)))) <|
 .nil) 12 [8, 11] (.tmp 8) (.con (V.bool true)) (.tmp 11) <|
 .op (some 13) .any [12] (.mov (.tmp 12)) <|
 .grp 13 true (.op (some 14) .any [1, 13] (.mov (.tmp 1)) <|
 .op (some 15) .any [14, 13] (.bin .and .none (.tmp 14) (.con (V.int .i64 (Int.ofNat 2)))) <|
 .op (some 16) .any [15, 13] (.bin .neq .none (.tmp 15) (.con (V.int .i64 (Int.ofNat 0)))) <|
 .op (some 17) .any [16, 13] (.mov (.tmp 16)) <|
 .grp 17 false (.op (some 18) .any [2, 17] (.faddr 2 (.tmp 2)) <|
 .op (some 19) .any [18, 17] (.load none (.tmp 18)) <|
 .op (some 20) .any [19, 17] (.len false (.tmp 19)) <|
 .op (some 21) .any [20, 17] (.bin .eql .none (.tmp 20) (.con (V.int .i64 (Int.ofNat 0)))) <|
 .nil) 22 [17, 21, 13] (.tmp 17) (.con (V.bool true)) (.tmp 21) <|
 .nil) 23 [13, 22] (.tmp 13) (.tmp 22) (.con (V.bool false)) <|
 .op (some 24) .any [23] (.mov (.tmp 23)) <|
 .grp 24 true (.op (some 25) .any [1, 24] (.mov (.tmp 1)) <|
 .op (some 26) .any [25, 24] (.bin .and .none (.tmp 25) (.con (V.int .i64 (Int.ofNat 4)))) <|
 .op (some 27) .any [26, 24] (.bin .neq .none (.tmp 26) (.con (V.int .i64 (Int.ofNat 0)))) <|
 .op (some 28) .any [27, 24] (.mov (.tmp 27)) <|
 .grp 28 false (.op (some 29) .any [2, 28] (.faddr 3 (.tmp 2)) <|
 .op (some 30) .any [29, 28] (.load none (.tmp 29)) <|
 .op (some 31) .any [30, 28] (.len false (.tmp 30)) <|
 .op (some 32) .any [31, 28] (.bin .eql .none (.tmp 31) (.con (V.int .i64 (Int.ofNat 0)))) <|
 .nil) 33 [28, 32, 24] (.tmp 28) (.con (V.bool true)) (.tmp 32) <|
 .nil) 34 [24, 33] (.tmp 24) (.tmp 33) (.con (V.bool false)) <|
 .op (some 35) .any [34] (.mov (.tmp 34)) <|
 .grp 35 true (.op (some 36) .any [1, 35] (.mov (.tmp 1)) <|
 .op (some 37) .any [36, 35] (.bin .and .none (.tmp 36) (.con (V.int .i64 (Int.ofNat 8)))) <|
 .op (some 38) .any [37, 35] (.bin .neq .none (.tmp 37) (.con (V.int .i64 (Int.ofNat 0)))) <|
 .op (some 39) .any [38, 35] (.mov (.tmp 38)) <|
 .grp 39 false (.op (some 40) .any [2, 39] (.faddr 4 (.tmp 2)) <|
 .op (some 41) (.int .i64) [40, 39] (.load none (.tmp 40)) <|
 .op (some 42) .any [41, 39] (.bin .eql .none (.tmp 41) (.con (V.int .i64 (Int.ofNat 0)))) <|
 .op (some 43) .any [42, 39] (.mov (.tmp 42)) <|
 .grp 43 true (.op (some 44) .any [2, 43] (.faddr 5 (.tmp 2)) <|
 .op (some 45) .any [44, 43] (.load none (.tmp 44)) <|
 .op (some 46) .any [45, 43] (.len false (.tmp 45)) <|
 .op (some 47) .any [46, 43] (.bin .eql .none (.tmp 46) (.con (V.int .i64 (Int.ofNat 0)))) <|
 .nil) 48 [43, 47, 39] (.tmp 43) (.tmp 47) (.con (V.bool false)) <|
 .nil) 49 [39, 48, 35] (.tmp 39) (.con (V.bool true)) (.tmp 48) <|
 .nil) 50 [35, 49] (.tmp 35) (.tmp 49) (.con (V.bool false)) <|
 .op (some 4) .any [50] (.mov (.tmp 50)) <|
 .nil))
 .ret))
def A111 : XFn := ⟨51, [(.agg [(.int .i64), (.int .i64), .any, .any, (.int .i64), .any]), (.int .i64)], [(.tmp 4)], C111_0⟩
def C115_0 (cc1 : XC) (cc2 : XC) : XC := (.seq (.ops (.op (some 6) .any [2] (.box 39 (.tmp 2)) <|
 .op (some 8) .any [] (.mov (.con (V.bool false))) <|
 .nil))
 (.seq (.ops (.op (some 13) .any [0] (.mov (.tmp 0)) <|
 .op (some 14) .any [13] (.nilck (.tmp 13)) <|
 .op (some 15) .any [14] (.faddr 0 (.tmp 14)) <|
 .op (some 16) .any [15] (.faddr 0 (.tmp 15)) <|
 .op (some 17) .any [16] (.faddr 3 (.tmp 16)) <|
 .op (some 18) .any [17] (.load none (.tmp 17)) <|
 .op (some 19) .any [1] (.mov (.tmp 1)) <|
 .op (some 20) .any [18, 19] (.iaddrS 13 (.tmp 18) (.tmp 19)) <|
 .op (some 21) (.agg [(.int .i64), .any, .bool, .bool, .bool, .bool, (.int .i64), (.int .i64), .any, .any, (.int .i64), .bool, (.int .i64)]) [20] (.load (some 13) (.tmp 20)) <|
 .pal 9 [] 111 [(V.int .i64 (Int.ofNat 0)), V.nils, (V.bool false), (V.bool false), (V.bool false), (V.bool false), (V.int .i64 (Int.ofNat 0)), (V.int .i64 (Int.ofNat 0)), V.nils, V.nils, (V.int .i64 (Int.ofNat 0)), (V.bool false), (V.int .i64 (Int.ofNat 0))] <|
 .op none (.agg [(.int .i64), .any, .bool, .bool, .bool, .bool, (.int .i64), (.int .i64), .any, .any, (.int .i64), .bool, (.int .i64)]) [9, 21] (.store 13 (.tmp 9) (.tmp 21)) <|
 .nil))
 (.seq (.seq (.ops (.op (some 22) (.agg [(.int .i64), (.int .i64), .any, .any, (.int .i64), .any]) [6] (.load (some 6) (.tmp 6)) <|
 .op (some 23) .bool [22] (.call 111 [(.tmp 22), (.con (V.int .i64 (Int.ofNat 12)))]) <|
 .op (some 24) .any [23] (.un .not (.tmp 23)) <|
 .op (some 25) .any [24] (.mov (.tmp 24)) <|
 .grp 25 false (.op (some 26) .any [6, 25] (.faddr 3 (.tmp 6)) <|
 .op (some 27) .any [26, 25] (.load none (.tmp 26)) <|
 .op (some 28) .any [27, 25] (.len false (.tmp 27)) <|
 .op (some 29) .any [9, 25] (.faddr 9 (.tmp 9)) <|
 .op (some 30) .any [29, 25] (.load none (.tmp 29)) <|
 .op (some 31) .any [30, 25] (.len false (.tmp 30)) <|
 .op (some 32) .any [28, 31, 25] (.bin .neq .none (.tmp 28) (.tmp 31)) <|
 .nil) 33 [25, 32] (.tmp 25) (.con (V.bool true)) (.tmp 32) <|
 .op (some 34) .any [33] (.mov (.tmp 33)) <|
 .grp 34 false (.op (some 35) .any [0, 34] (.mov (.tmp 0)) <|
 .op (some 36) .any [1, 34] (.mov (.tmp 1)) <|
 .op (some 37) (.agg [(.int .i64), (.int .i64), .any, .any, (.int .i64), .any]) [6, 34] (.load (some 6) (.tmp 6)) <|
 .op (some 38) .bool [35, 36, 37, 34] (.call 187 [(.tmp 35), (.tmp 36), (.tmp 37)]) <|
 .op (some 39) .any [38, 34] (.un .not (.tmp 38)) <|
 .nil) 40 [34, 39] (.tmp 34) (.con (V.bool true)) (.tmp 39) <|
 .nil))
 (.cond (.tmp 40) (.seq (.ops (.op (some 8) .any [] (.mov (.con (V.bool false))) <|
 .nil))
 .ret)
 .skip))
 (.seq (.seq (.ops (.op (some 41) .any [9] (.faddr 9 (.tmp 9)) <|
 .op (some 42) .any [41] (.load none (.tmp 41)) <|
 .op (some 43) .any [42] (.len false (.tmp 42)) <|
 .op (some 44) .any [] (.mov (.con (V.int .i64 (Int.ofNat 0)))) <|
 .nil))
 (.block 0 (.loop [(0, .ptr), (1, (.int .i64)), (3, (.int .i64)), (6, .ptr), (42, .any), (43, (.int .i64)), (44, (.int .i64))] [9] [(9, [(.int .i64), .any, .bool, .bool, .bool, .bool, (.int .i64), (.int .i64), .any, .any, (.int .i64), .bool, (.int .i64)])] cc2)))
 (.keep [(0, .ptr), (1, (.int .i64)), (6, .ptr)] [] [] cc1)))))
def C115_1 : XC := (.seq (.ops (.op (some 87) .any [0] (.mov (.tmp 0)) <|
 .op (some 88) .any [1] (.mov (.tmp 1)) <|
 .op (some 89) (.agg [(.int .i64), (.int .i64), .any, .any, (.int .i64), .any]) [6] (.load (some 6) (.tmp 6)) <|
 .op (some 90) .bool [87, 88, 89] (.call 191 [(.tmp 87), (.tmp 88), (.tmp 89)]) <|
 .op (some 8) .any [90] (.mov (.tmp 90)) <|
 .nil))
 .ret)
def C115_2 (cc3 : XC) : XC := (.seq (.ops (.op (some 45) .any [44, 43] (.bin .lss .none (.tmp 44) (.tmp 43)) <|
 .nil))
 (.seq (.cond (.tmp 45) .skip
 (.exit 0))
 (.seq (.block 1 (.seq (.ops (.op (some 46) .any [44] (.mov (.tmp 44)) <|
 .op (some 47) .any [42, 44] (.iaddrS 11 (.tmp 42) (.tmp 44)) <|
 .op (some 48) (.agg [.str, (.int .i64), .bool, .bool, (.int .i64), (.int .i64), .any, .any, (.int .i64), .any, (.int .i64)]) [47] (.load (some 11) (.tmp 47)) <|
 .pal 11 [] 191 [(V.str ⟨0, 0⟩), (V.int .i64 (Int.ofNat 0)), (V.bool false), (V.bool false), (V.int .i64 (Int.ofNat 0)), (V.int .i64 (Int.ofNat 0)), V.nils, V.nils, (V.int .i64 (Int.ofNat 0)), V.nils, (V.int .i64 (Int.ofNat 0))] <|
 .op (some 10) .any [46] (.mov (.tmp 46)) <|
 .op none (.agg [.str, (.int .i64), .bool, .bool, (.int .i64), (.int .i64), .any, .any, (.int .i64), .any, (.int .i64)]) [11, 48] (.store 11 (.tmp 11) (.tmp 48)) <|
 .nil))
 (.seq (.ops (.op (some 49) .any [6] (.faddr 3 (.tmp 6)) <|
 .op (some 50) .any [49] (.load none (.tmp 49)) <|
 .op (some 51) .any [10] (.mov (.tmp 10)) <|
 .op (some 52) .any [50, 51] (.iaddrS 6 (.tmp 50) (.tmp 51)) <|
 .op (some 53) (.agg [(.int .i64), (.int .i64), .any, .any, (.int .i64), .any]) [52] (.load (some 6) (.tmp 52)) <|
 .pal 12 [] 39 [(V.int .i64 (Int.ofNat 0)), (V.int .i64 (Int.ofNat 0)), V.nils, V.nils, (V.int .i64 (Int.ofNat 0)), V.nils] <|
 .op none (.agg [(.int .i64), (.int .i64), .any, .any, (.int .i64), .any]) [12, 53] (.store 6 (.tmp 12) (.tmp 53)) <|
 .nil))
 (.block 2 (.seq (.ops (.op (some 55) .any [12] (.faddr 0 (.tmp 12)) <|
 .op (some 56) (.int .i64) [55] (.load none (.tmp 55)) <|
 .op (some 57) .any [56] (.bin .eql .none (.tmp 56) (.con (V.int .i64 (Int.ofNat 0)))) <|
 .op (some 54) .any [57] (.mov (.tmp 57)) <|
 .nil))
 (.cond (.tmp 54) (.seq (.ops (.op (some 58) (.agg [(.int .i64), (.int .i64), .any, .any, (.int .i64), .any]) [12] (.load (some 6) (.tmp 12)) <|
 .op (some 59) .bool [58] (.call 188 [(.tmp 58)]) <|
 .op (some 60) .any [59] (.un .not (.tmp 59)) <|
 .op (some 61) .any [60] (.mov (.tmp 60)) <|
 .grp 61 false (.op (some 62) (.agg [(.int .i64), .any, .bool, .bool, .bool, .bool, (.int .i64), (.int .i64), .any, .any, (.int .i64), .bool, (.int .i64)]) [9, 61] (.load (some 13) (.tmp 9)) <|
 .op (some 63) .any [10, 61] (.mov (.tmp 10)) <|
 .op (some 64) .bool [62, 63, 61] (.call 189 [(.tmp 62), (.tmp 63)]) <|
 .op (some 65) .any [64, 61] (.un .not (.tmp 64)) <|
 .nil) 66 [61, 65] (.tmp 61) (.con (V.bool true)) (.tmp 65) <|
 .nil))
 (.cond (.tmp 66) (.seq (.ops (.op (some 8) .any [] (.mov (.con (V.bool false))) <|
 .nil))
 .ret)
 .skip))
 (.seq (.ops (.op (some 68) .any [0] (.mov (.tmp 0)) <|
 .op (some 69) .any [11] (.faddr 1 (.tmp 11)) <|
 .op (some 70) (.int .i64) [69] (.load none (.tmp 69)) <|
 .op (some 71) (.agg [(.int .i64), (.int .i64), .any, .any, (.int .i64), .any]) [12] (.load (some 6) (.tmp 12)) <|
 .op (some 72) .any [3] (.mov (.tmp 3)) <|
 .op (some 73) .any [72] (.bin .add .none (.tmp 72) (.con (V.int .i64 (Int.ofNat 1)))) <|
 .op (some 74) .bool [68, 70, 71, 73] (.call 59 [(.tmp 68), (.tmp 70), (.tmp 71), (.tmp 73)]) <|
 .op (some 75) .any [74] (.un .not (.tmp 74)) <|
 .op (some 76) .any [75] (.mov (.tmp 75)) <|
 .grp 76 false (.op (some 77) .any [11, 76] (.faddr 3 (.tmp 11)) <|
 .op (some 78) .bool [77, 76] (.load none (.tmp 77)) <|
 .op (some 79) .any [78, 76] (.mov (.tmp 78)) <|
 .grp 79 true (.op (some 80) (.agg [(.int .i64), (.int .i64), .any, .any, (.int .i64), .any]) [12, 79] (.load (some 6) (.tmp 12)) <|
 .op (some 81) .any [11, 79] (.faddr 4 (.tmp 11)) <|
 .op (some 82) (.agg [(.int .i64), (.int .i64), .any, .any, (.int .i64), .any]) [81, 79] (.load (some 6) (.tmp 81)) <|
 .op (some 83) .bool [80, 82, 79] (.call 190 [(.tmp 80), (.tmp 82)]) <|
 .nil) 84 [79, 83, 76] (.tmp 79) (.tmp 83) (.con (V.bool false)) <|
 .nil) 85 [76, 84] (.tmp 76) (.con (V.bool true)) (.tmp 84) <|
 .op (some 67) .any [85] (.mov (.tmp 85)) <|
 .nil))
 (.cond (.tmp 67) (.seq (.ops (.op (some 8) .any [] (.mov (.con (V.bool false))) <|
 .nil))
 .ret)
 .skip))))))))
 (.keep [(0, .ptr), (1, (.int .i64)), (3, (.int .i64)), (6, .ptr), (42, .any), (43, (.int .i64)), (44, (.int .i64))] [9] [(9, [(.int .i64), .any, .bool, .bool, .bool, .bool, (.int .i64), (.int .i64), .any, .any, (.int .i64), .bool, (.int .i64)])] cc3))))
def C115_3 : XC := (.ops (.op (some 86) .any [44] (.bin .add .none (.tmp 44) (.con (V.int .i64 (Int.ofNat 1)))) <|
 .op (some 44) .any [86] (.mov (.tmp 86)) <|
 .nil))
def A115 : XFn := ⟨91, [.ptr, (.int .i64), (.agg [(.int .i64), (.int .i64), .any, .any, (.int .i64), .any]), (.int .i64)], [(.tmp 8)], (C115_0 C115_1 (C115_2 C115_3))⟩
def C116_0 : XC := (.seq (.ops (.op (some 4) .any [] (.mov (.con (V.bool false))) <|
 .nil))
 (.seq (.ops (.op (some 5) .any [0] (.mov (.tmp 0)) <|
 .op (some 6) .any [1] (.mov (.tmp 1)) <|
 .op (some 7) (.int .i64) [5, 6] (.call 192 [(.tmp 5), (.tmp 6)]) <|
 .op (some 8) .any [7] (.bin .geq .none (.tmp 7) (.con (V.int .i64 (Int.ofNat 0)))) <|
 .op (some 4) .any [8] (.mov (.tmp 8)) <|
 .nil))
 .ret))
def A116 : XFn := ⟨9, [.any, .any], [(.tmp 4)], C116_0⟩
def C117_0 : XC := (.seq (.ops (.op (some 2) .any [0] (.box 39 (.tmp 0)) <|
 .op (some 3) .any [] (.mov (.con (V.bool false))) <|
 .nil))
 (.seq (.ops (.op (some 4) (.agg [(.int .i64), (.int .i64), .any, .any, (.int .i64), .any]) [2] (.load (some 6) (.tmp 2)) <|
 .op (some 5) (.int .i64) [1] (.load none (.tmp 1)) <|
 .op (some 6) .bool [4, 5] (.call 61 [(.tmp 4), (.tmp 5)]) <|
 .op (some 7) .any [6] (.un .not (.tmp 6)) <|
 .op (some 3) .any [7] (.mov (.tmp 7)) <|
 .nil))
 .ret))
def A117 : XFn := ⟨8, [(.agg [(.int .i64), (.int .i64), .any, .any, (.int .i64), .any]), .any], [(.tmp 3)], C117_0⟩
def C118_0 : XC := (.seq (.ops (.op (some 4) .any [1] (.mov (.tmp 1)) <|
 .nil))
 (.cond (.tmp 4) (.ops (.op (some 5) .any [0] (.mov (.tmp 0)) <|
 .op (some 6) .any [5] (.nilck (.tmp 5)) <|
 .op (some 7) .any [6] (.faddr 0 (.tmp 6)) <|
 .op (some 8) .any [7] (.load none (.tmp 7)) <|
 .op (some 9) (.tup []) [8] (.call 193 [(.tmp 8), (.con (V.int .u64 (Int.ofNat 1))), (.con (V.int .i64 (Int.ofNat 1)))]) <|
 .nil))
 (.ops (.op (some 10) .any [0] (.mov (.tmp 0)) <|
 .op (some 11) .any [10] (.nilck (.tmp 10)) <|
 .op (some 12) .any [11] (.faddr 0 (.tmp 11)) <|
 .op (some 13) .any [12] (.load none (.tmp 12)) <|
 .op (some 14) (.tup []) [13] (.call 193 [(.tmp 13), (.con (V.int .u64 (Int.ofNat 0))), (.con (V.int .i64 (Int.ofNat 1)))]) <|
 .nil))))
def A118 : XFn := ⟨15, [.ptr, .bool], [], C118_0⟩
def G119_0 : List AOper := [⟨(some 58), .mov (.tmp 0), none⟩, ⟨(some 59), .nilck (.tmp 58), none⟩, ⟨(some 60), .faddr 0 (.tmp 59), none⟩, ⟨(some 61), .load none (.tmp 60), none⟩, ⟨(some 62), .mov (.tmp 2), none⟩, ⟨(some 63), .conv (.toInt .u64) (.tmp 62), none⟩, ⟨(some 64), .faddr 4 (.tmp 4), none⟩, ⟨(some 65), .load none (.tmp 64), none⟩, ⟨(some 66), .conv (.toInt .u64) (.tmp 65), none⟩, ⟨(some 67), .bin .sub .none (.tmp 63) (.tmp 66), none⟩, ⟨(some 68), .call 195 [(.tmp 67)], none⟩, ⟨(some 69), .buildSlice 30 1 [V.nils] [(0, 1, (.tmp 68))], none⟩, ⟨(some 70), .call 121 [(.tmp 61), (.tmp 69)], none⟩]
def H119_0 : List DP := [⟨0, [0]⟩, ⟨1, [58]⟩, ⟨3, [59]⟩, ⟨7, [60]⟩, ⟨0, [2]⟩, ⟨16, [62]⟩, ⟨0, [4]⟩, ⟨64, [64]⟩, ⟨192, [65]⟩, ⟨496, [63, 66]⟩, ⟨1008, [67]⟩, ⟨2032, [68]⟩, ⟨4095, [61, 69]⟩]
def G119_1 : List AOper := [⟨(some 23), .mov (.tmp 0), none⟩, ⟨(some 24), .nilck (.tmp 23), none⟩, ⟨(some 25), .faddr 0 (.tmp 24), none⟩, ⟨(some 26), .load none (.tmp 25), none⟩, ⟨(some 27), .mov (.tmp 2), none⟩, ⟨(some 28), .call 163 [(.tmp 27)], none⟩, ⟨(some 29), .buildSlice 30 1 [V.nils] [(0, 1, (.tmp 28))], none⟩, ⟨(some 30), .call 121 [(.tmp 26), (.tmp 29)], none⟩]
def H119_1 : List DP := [⟨0, [0]⟩, ⟨1, [23]⟩, ⟨3, [24]⟩, ⟨7, [25]⟩, ⟨0, [2]⟩, ⟨16, [27]⟩, ⟨48, [28]⟩, ⟨127, [26, 29]⟩]
def C119_0 (cc1 : XC) : XC := (.seq (.ops (.op (some 4) .any [1] (.box 107 (.tmp 1)) <|
 .nil))
 (.seq (.ops (.op (some 9) (.agg [.bool, .bool, .bool, .bool, (.int .i64), (.int .i64)]) [4] (.load (some 6) (.tmp 4)) <|
 .op (some 10) .any [2] (.mov (.tmp 2)) <|
 .op (some 11) .bool [9, 10] (.call 89 [(.tmp 9), (.tmp 10)]) <|
 .op (some 6) .any [11] (.mov (.tmp 11)) <|
 .nil))
 (.seq (.seq (.ops (.op (some 12) .any [4] (.faddr 3 (.tmp 4)) <|
 .op (some 13) .bool [12] (.load none (.tmp 12)) <|
 .nil))
 (.cond (.tmp 13) (.ops (.op (some 14) .any [0] (.mov (.tmp 0)) <|
 .op (some 15) .any [6] (.mov (.tmp 6)) <|
 .op (some 16) .any [15] (.un .not (.tmp 15)) <|
 .op (some 17) (.tup []) [14, 16] (.call 118 [(.tmp 14), (.tmp 16)]) <|
 .nil))
 .skip))
 (.keep [(0, .ptr), (2, (.int .i64)), (4, .ptr), (6, .bool)] [] [] cc1))))
def C119_1 : XC := (.seq (.ops (.op (some 19) (.agg [.bool, .bool, .bool, .bool, (.int .i64), (.int .i64)]) [4] (.load (some 6) (.tmp 4)) <|
 .op (some 20) (.tup [(.int .u64), .bool]) [19] (.call 85 [(.tmp 19)]) <|
 .op (some 18) .any [20] (.mov (.tmp 20)) <|
 .op (some 21) .any [18] (.extract 0 (.tmp 18)) <|
 .op (some 22) .any [18] (.extract 1 (.tmp 18)) <|
 .op (some 7) .any [21] (.mov (.tmp 21)) <|
 .op (some 8) .any [22] (.mov (.tmp 22)) <|
 .nil))
 (.block 0 (.seq (.ops (.op (some 32) .any [6] (.mov (.tmp 6)) <|
 .op (some 33) .any [32] (.mov (.tmp 32)) <|
 .grp 33 true (.op (some 34) .any [8, 33] (.mov (.tmp 8)) <|
 .nil) 35 [33, 34] (.tmp 33) (.tmp 34) (.con (V.bool false)) <|
 .op (some 31) .any [35] (.mov (.tmp 35)) <|
 .nil))
 (.cond (.tmp 31) (.draw (.op (some 36) .any [0] (.mov (.tmp 0)) <|
 .op (some 37) .any [36] (.nilck (.tmp 36)) <|
 .op (some 38) .any [37] (.faddr 0 (.tmp 37)) <|
 .op (some 39) .any [38] (.load none (.tmp 38)) <|
 .op (some 40) .any [2] (.mov (.tmp 2)) <|
 .op (some 41) .any [40] (.conv (.toInt .u64) (.tmp 40)) <|
 .op (some 42) .any [4] (.faddr 4 (.tmp 4)) <|
 .op (some 43) (.int .i64) [42] (.load none (.tmp 42)) <|
 .op (some 44) .any [43] (.conv (.toInt .u64) (.tmp 43)) <|
 .op (some 45) .any [41, 44] (.bin .sub .none (.tmp 41) (.tmp 44)) <|
 .op (some 46) .any [7] (.mov (.tmp 7)) <|
 .op (some 47) (.tup []) [39, 45, 46] (.call 194 [(.tmp 39), (.tmp 45), (.tmp 46)]) <|
 .nil) [0, 1, 3, 7, 0, 16, 0, 64, 192, 496, 0, 2047])
 (.seq (.ops (.op (some 49) .any [6] (.mov (.tmp 6)) <|
 .op (some 50) .any [49] (.mov (.tmp 49)) <|
 .grp 50 true (.op (some 51) .any [4, 50] (.faddr 0 (.tmp 4)) <|
 .op (some 52) .bool [51, 50] (.load none (.tmp 51)) <|
 .nil) 53 [50, 52] (.tmp 50) (.tmp 52) (.con (V.bool false)) <|
 .op (some 54) .any [53] (.mov (.tmp 53)) <|
 .grp 54 true (.op (some 55) .any [4, 54] (.faddr 1 (.tmp 4)) <|
 .op (some 56) .bool [55, 54] (.load none (.tmp 55)) <|
 .nil) 57 [54, 56] (.tmp 54) (.tmp 56) (.con (V.bool false)) <|
 .op (some 48) .any [57] (.mov (.tmp 57)) <|
 .nil))
 (.cond (.tmp 48) (.keep [(0, .ptr), (2, (.int .i64)), (4, .ptr)] [] [] (.gdraw G119_0 H119_0 []))
 (.keep [(0, .ptr), (2, (.int .i64))] [] [] (.gdraw G119_1 H119_1 []))))))))
def A119 : XFn := ⟨71, [.ptr, (.agg [.bool, .bool, .bool, .bool, (.int .i64), (.int .i64)]), (.int .i64)], [], (C119_0 C119_1)⟩
def C121_0 (cc1 : XC) : XC := (.seq (.ops (.op (some 7) .any [1] (.mov (.tmp 1)) <|
 .op (some 8) .one [7] (.call 198 [(.tmp 7)]) <|
 .op (some 4) .any [8] (.mov (.tmp 8)) <|
 .nil))
 (.seq (.ops (.op (some 9) .any [4] (.mov (.tmp 4)) <|
 .op (some 10) .any [9] (.len false (.tmp 9)) <|
 .op (some 11) .one [10] (.call 199 [(.tmp 10)]) <|
 .op (some 12) .any [11] (.len false (.tmp 11)) <|
 .op (some 13) .any [] (.mov (.con (V.int .i64 (Int.ofNat 0)))) <|
 .nil))
 (.block 0 (.loop [(0, .any), (4, .any), (11, .any), (12, (.int .i64)), (13, (.int .i64))] [] [] cc1))))
def C121_1 : XC := (.seq (.ops (.op (some 14) .any [13, 12] (.bin .lss .none (.tmp 13) (.tmp 12)) <|
 .nil))
 (.seq (.cond (.tmp 14) .skip
 (.exit 0))
 (.seq (.block 1 (.seq (.ops (.op (some 15) .any [11, 13] (.iaddrS 1 (.tmp 11) (.tmp 13)) <|
 .op (some 16) (.int .i64) [15] (.load none (.tmp 15)) <|
 .op (some 6) .any [16] (.mov (.tmp 16)) <|
 .nil))
 (.seq (.ops (.op (some 17) .any [0] (.mov (.tmp 0)) <|
 .op (some 18) .any [6] (.mov (.tmp 6)) <|
 .op (some 19) .any [6] (.mov (.tmp 6)) <|
 .op (some 20) .any [19] (.bin .geq .none (.tmp 19) (.con (V.int .i64 (Int.ofNat 16384)))) <|
 .op (some 21) (.tup []) [17, 18, 20] (.call 200 [(.tmp 17), (.tmp 18), (.tmp 20)]) <|
 .nil))
 (.seq (.ops (.op (some 22) .any [0] (.mov (.tmp 0)) <|
 .op (some 23) .any [4] (.mov (.tmp 4)) <|
 .op (some 24) .any [6] (.mov (.tmp 6)) <|
 .op (some 25) .any [23, 24] (.sliceSl 1 (.tmp 23) none (some (.tmp 24)) none) <|
 .op (some 26) (.tup []) [22, 25] (.call 124 [(.tmp 22), (.tmp 25)]) <|
 .nil))
 (.ops (.op (some 27) .any [4] (.mov (.tmp 4)) <|
 .op (some 28) .any [6] (.mov (.tmp 6)) <|
 .op (some 29) .any [27, 28] (.sliceSl 1 (.tmp 27) (some (.tmp 28)) none none) <|
 .op (some 4) .any [29] (.mov (.tmp 29)) <|
 .nil))))))
 (.ops (.op (some 30) .any [13] (.bin .add .none (.tmp 13) (.con (V.int .i64 (Int.ofNat 1)))) <|
 .op (some 13) .any [30] (.mov (.tmp 30)) <|
 .nil)))))
def A121 : XFn := ⟨31, [.any, .any], [], (C121_0 C121_1)⟩
def C124_0 : XC := (.seq (.ops (.op (some 4) .any [0] (.mov (.tmp 0)) <|
 .op (some 5) .any [4] (.bin .neq .ptr (.tmp 4) (.con V.nilp)) <|
 .nil))
 (.cond (.tmp 5) (.ops (.op (some 6) .any [0] (.mov (.tmp 0)) <|
 .op (some 7) .any [6] (.nilck (.tmp 6)) <|
 .op (some 8) .any [7] (.faddr 0 (.tmp 7)) <|
 .op (some 9) .any [1] (.mov (.tmp 1)) <|
 .op (some 10) .any [9] (.buildSlice 30 1 [V.nils] [(0, 1, (.tmp 9))]) <|
 .op (some 11) (.tup []) [8, 10] (.call 201 [(.tmp 8), (.tmp 10)]) <|
 .nil))
 .skip))
def A124 : XFn := ⟨12, [.any, .any], [], C124_0⟩
def G131_0 : List AOper := [⟨(some 52), .mov (.tmp 0), none⟩, ⟨(some 53), .load (some 13) (.tmp 6), none⟩, ⟨(some 54), .load (some 6) (.tmp 5), none⟩, ⟨(some 55), .mov (.tmp 0), none⟩, ⟨(some 56), .nilck (.tmp 55), none⟩, ⟨(some 57), .faddr 1 (.tmp 56), none⟩, ⟨(some 58), .load (some 4) (.tmp 57), none⟩, ⟨(some 59), .mov (.tmp 1), none⟩, ⟨(some 60), .call 103 [(.tmp 58), (.tmp 59)], none⟩, ⟨(some 61), .faddr 10 (.tmp 6), none⟩, ⟨(some 62), .load none (.tmp 61), none⟩, ⟨(some 63), .sliceSl 1 (.tmp 60) none (some (.tmp 62)) none, none⟩, ⟨(some 64), .call 207 [(.tmp 52), (.tmp 53), (.tmp 54), (.tmp 63)], none⟩]
def H131_0 : List DP := [⟨0, [0]⟩, ⟨0, [6]⟩, ⟨0, [5]⟩, ⟨0, [0]⟩, ⟨8, [55]⟩, ⟨24, [56]⟩, ⟨56, [57]⟩, ⟨0, [1]⟩, ⟨248, [58, 59]⟩, ⟨0, [6]⟩, ⟨512, [61]⟩, ⟨2040, [60, 62]⟩, ⟨4095, [52, 53, 54, 63]⟩]
def C131_0 (cc1 : XC) (cc2 : XC) : XC := (.seq (.ops (.op (some 5) .any [2] (.box 39 (.tmp 2)) <|
 .nil))
 (.seq (.ops (.op (some 12) .any [0] (.mov (.tmp 0)) <|
 .op (some 13) .any [12] (.nilck (.tmp 12)) <|
 .op (some 14) .any [13] (.faddr 1 (.tmp 13)) <|
 .op (some 15) .any [14] (.faddr 3 (.tmp 14)) <|
 .op (some 16) .any [15] (.load none (.tmp 15)) <|
 .op (some 17) .any [1] (.mov (.tmp 1)) <|
 .op (some 18) .any [16, 17] (.iaddrS 13 (.tmp 16) (.tmp 17)) <|
 .op (some 19) (.agg [(.int .i64), .any, .bool, .bool, .bool, .bool, (.int .i64), (.int .i64), .any, .any, (.int .i64), .bool, (.int .i64)]) [18] (.load (some 13) (.tmp 18)) <|
 .op (some 6) .any [] (.alloc 111 [(V.int .i64 (Int.ofNat 0)), V.nils, (V.bool false), (V.bool false), (V.bool false), (V.bool false), (V.int .i64 (Int.ofNat 0)), (V.int .i64 (Int.ofNat 0)), V.nils, V.nils, (V.int .i64 (Int.ofNat 0)), (V.bool false), (V.int .i64 (Int.ofNat 0))]) <|
 .op none (.agg [(.int .i64), .any, .bool, .bool, .bool, .bool, (.int .i64), (.int .i64), .any, .any, (.int .i64), .bool, (.int .i64)]) [6, 19] (.store 13 (.tmp 6) (.tmp 19)) <|
 .nil))
 (.seq (.ops (.op (some 20) .any [0] (.mov (.tmp 0)) <|
 .op (some 21) .any [20] (.nilck (.tmp 20)) <|
 .op (some 22) .any [21] (.faddr 1 (.tmp 21)) <|
 .op (some 23) (.agg [.str, .any, .any, .any]) [22] (.load (some 4) (.tmp 22)) <|
 .op (some 24) .any [1] (.mov (.tmp 1)) <|
 .op (some 25) .one [23, 24] (.call 176 [(.tmp 23), (.tmp 24)]) <|
 .op (some 7) .any [25] (.mov (.tmp 25)) <|
 .nil))
 (.seq (.ops (.op (some 8) .any [] (.mov (.con V.nils)) <|
 .nil))
 (.seq (.seq (.ops (.op (some 26) .any [7] (.mov (.tmp 7)) <|
 .op (some 27) .any [26] (.len false (.tmp 26)) <|
 .op (some 28) .any [] (.mov (.con (V.int .i64 (Int.ofNat 0)))) <|
 .nil))
 (.block 0 (.loop [(0, .ptr), (1, (.int .i64)), (5, .ptr), (6, .ptr), (7, .any), (8, .any), (26, .any), (27, (.int .i64)), (28, (.int .i64))] [] [] cc2)))
 (.keep [(0, .ptr), (1, (.int .i64)), (5, .ptr), (6, .ptr), (7, .any), (8, .any)] [] [] cc1))))))
def C131_1 (cc3 : XC) : XC := (.seq (.ops (.op (some 39) .any [5] (.faddr 5 (.tmp 5)) <|
 .op (some 40) .any [39] (.load none (.tmp 39)) <|
 .op (some 41) .any [40] (.len false (.tmp 40)) <|
 .op (some 42) .any [41] (.bin .gtr .none (.tmp 41) (.con (V.int .i64 (Int.ofNat 0)))) <|
 .op (some 43) .any [42] (.mov (.tmp 42)) <|
 .grp 43 false (.op (some 44) .any [8, 43] (.mov (.tmp 8)) <|
 .op (some 45) .bool [44, 43] (.call 206 [(.tmp 44), (.con (V.bool true))]) <|
 .nil) 46 [43, 45] (.tmp 43) (.con (V.bool true)) (.tmp 45) <|
 .op (some 11) .any [46] (.mov (.tmp 46)) <|
 .nil))
 (.seq (.seq (.ops (.op (some 47) .any [6] (.faddr 11 (.tmp 6)) <|
 .op (some 48) .bool [47] (.load none (.tmp 47)) <|
 .nil))
 (.cond (.tmp 48) (.ops (.op (some 49) .any [0] (.mov (.tmp 0)) <|
 .op (some 50) .any [11] (.mov (.tmp 11)) <|
 .op (some 51) (.tup []) [49, 50] (.call 118 [(.tmp 49), (.tmp 50)]) <|
 .nil))
 .skip))
 (.keep [(0, .ptr), (1, (.int .i64)), (5, .ptr), (6, .ptr), (7, .any), (8, .any), (11, .bool)] [] [] cc3)))
def C131_2 : XC := (.seq (.ops (.op (some 29) .any [28, 27] (.bin .lss .none (.tmp 28) (.tmp 27)) <|
 .nil))
 (.seq (.cond (.tmp 29) .skip
 (.exit 0))
 (.seq (.block 1 (.seq (.ops (.op (some 30) .any [26, 28] (.iaddrS 1 (.tmp 26) (.tmp 28)) <|
 .op (some 31) .any [30] (.load none (.tmp 30)) <|
 .op (some 10) .any [31] (.mov (.tmp 31)) <|
 .nil))
 (.ops (.op (some 32) .any [8] (.mov (.tmp 8)) <|
 .op (some 33) .any [10] (.mov (.tmp 10)) <|
 .op (some 34) .any [5] (.mkfn 205 [] [(.tmp 5)]) <|
 .op (some 35) .bool [33, 34] (.call 204 [(.tmp 33), (.tmp 34)]) <|
 .op (some 36) .any [35] (.buildSlice 4 1 [(V.bool false)] [(0, 1, (.tmp 35))]) <|
 .op (some 37) .one [32, 36] (.append 4 1 1 (.tmp 32) (.tmp 36)) <|
 .op (some 8) .any [37] (.mov (.tmp 37)) <|
 .nil))))
 (.ops (.op (some 38) .any [28] (.bin .add .none (.tmp 28) (.con (V.int .i64 (Int.ofNat 1)))) <|
 .op (some 28) .any [38] (.mov (.tmp 38)) <|
 .nil)))))
def C131_3 : XC := (.seq (.keep [(0, .ptr), (1, (.int .i64)), (5, .ptr), (6, .ptr), (7, .any), (8, .any), (11, .bool)] [] [] (.gdraw G131_0 H131_0 [(0, .ptr), (5, .ptr), (6, .ptr), (7, .any), (8, .any), (11, .bool)]))
 (.seq (.ops (.op (some 65) .any [11] (.mov (.tmp 11)) <|
 .nil))
 (.cond (.tmp 65) (.ops (.op (some 66) .any [0] (.mov (.tmp 0)) <|
 .op (some 67) (.agg [(.int .i64), .any, .bool, .bool, .bool, .bool, (.int .i64), (.int .i64), .any, .any, (.int .i64), .bool, (.int .i64)]) [6] (.load (some 13) (.tmp 6)) <|
 .op (some 68) (.agg [(.int .i64), (.int .i64), .any, .any, (.int .i64), .any]) [5] (.load (some 6) (.tmp 5)) <|
 .op (some 69) .any [7] (.mov (.tmp 7)) <|
 .op (some 70) .any [8] (.mov (.tmp 8)) <|
 .op (some 71) (.tup []) [66, 67, 68, 69, 70] (.call 208 [(.tmp 66), (.tmp 67), (.tmp 68), (.tmp 69), (.tmp 70)]) <|
 .nil))
 .skip)))
def A131 : XFn := ⟨72, [.ptr, (.int .i64), (.agg [(.int .i64), (.int .i64), .any, .any, (.int .i64), .any])], [], (C131_0 (C131_1 C131_3) C131_2)⟩
def C132_0 : XC := (.seq (.ops (.op (some 2) .any [] (.mov (.con (V.int .i64 (Int.ofNat 0)))) <|
 .nil))
 (.seq (.seq (.ops (.op (some 3) .any [0] (.mov (.tmp 0)) <|
 .op (some 4) .any [3] (.bin .eql .ptr (.tmp 3) (.con V.nilp)) <|
 .nil))
 (.cond (.tmp 4) (.seq (.ops (.op (some 2) .any [] (.mov (.con (V.int .i64 (Int.ofNat 0)))) <|
 .nil))
 .ret)
 .skip))
 (.seq (.ops (.op (some 5) .any [0] (.mov (.tmp 0)) <|
 .op (some 6) .any [5] (.nilck (.tmp 5)) <|
 .op (some 7) .any [6] (.faddr 0 (.tmp 6)) <|
 .op (some 8) (.int .i64) [7] (.call 209 [(.tmp 7)]) <|
 .op (some 2) .any [8] (.mov (.tmp 8)) <|
 .nil))
 .ret)))
def A132 : XFn := ⟨9, [.any], [(.tmp 2)], C132_0⟩
def C133_0 : XC := (.seq (.ops (.op (some 2) .any [] (.mov (.con V.nils)) <|
 .nil))
 (.seq (.seq (.ops (.op (some 3) .any [0] (.mov (.tmp 0)) <|
 .op (some 4) .any [3] (.bin .eql .ptr (.tmp 3) (.con V.nilp)) <|
 .nil))
 (.cond (.tmp 4) (.seq (.ops (.op (some 2) .any [] (.mov (.con V.nils)) <|
 .nil))
 .ret)
 .skip))
 (.seq (.ops (.op (some 5) .any [0] (.mov (.tmp 0)) <|
 .op (some 6) .any [5] (.nilck (.tmp 5)) <|
 .op (some 7) .any [6] (.faddr 0 (.tmp 6)) <|
 .op (some 8) .any [7] (.load none (.tmp 7)) <|
 .op (some 9) .one [8] (.append 5 1 1 (.con V.nils) (.tmp 8)) <|
 .op (some 2) .any [9] (.mov (.tmp 9)) <|
 .nil))
 .ret)))
def A133 : XFn := ⟨10, [.any], [(.tmp 2)], C133_0⟩
def C134_0 : XC := (.seq (.ops (.op (some 4) .any [] (.mov (.con (V.int .u8 (Int.ofNat 0)))) <|
 .nil))
 (.seq (.seq (.ops (.op (some 5) .any [1] (.mov (.tmp 1)) <|
 .op (some 6) .any [5] (.bin .lss .none (.tmp 5) (.con (V.int .i64 (Int.ofNat 0)))) <|
 .op (some 7) .any [6] (.mov (.tmp 6)) <|
 .grp 7 false (.op (some 8) .any [1, 7] (.mov (.tmp 1)) <|
 .op (some 9) .any [0, 7] (.mov (.tmp 0)) <|
 .op (some 10) .any [9, 7] (.len true (.tmp 9)) <|
 .op (some 11) .any [8, 10, 7] (.bin .geq .none (.tmp 8) (.tmp 10)) <|
 .nil) 12 [7, 11] (.tmp 7) (.con (V.bool true)) (.tmp 11) <|
 .nil))
 (.cond (.tmp 12) (.seq (.ops (.op (some 4) .any [] (.mov (.con (V.int .u8 (Int.ofNat 0)))) <|
 .nil))
 .ret)
 .skip))
 (.seq (.ops (.op (some 13) .any [0] (.mov (.tmp 0)) <|
 .op (some 14) .any [1] (.mov (.tmp 1)) <|
 .op (some 15) .any [13, 14] (.idxStr (.tmp 13) (.tmp 14)) <|
 .op (some 4) .any [15] (.mov (.tmp 15)) <|
 .nil))
 .ret)))
def A134 : XFn := ⟨16, [.str, (.int .i64)], [(.tmp 4)], C134_0⟩
def C135_0 : XC := (.seq (.ops (.op (some 2) .any [] (.mov (.con (V.bool false))) <|
 .nil))
 (.seq (.ops (.op (some 3) .any [0] (.mov (.tmp 0)) <|
 .op (some 4) .any [3] (.bin .geq .none (.tmp 3) (.con (V.int .u8 (Int.ofNat 97)))) <|
 .op (some 5) .any [4] (.mov (.tmp 4)) <|
 .grp 5 true (.op (some 6) .any [0, 5] (.mov (.tmp 0)) <|
 .op (some 7) .any [6, 5] (.bin .leq .none (.tmp 6) (.con (V.int .u8 (Int.ofNat 122)))) <|
 .nil) 8 [5, 7] (.tmp 5) (.tmp 7) (.con (V.bool false)) <|
 .op (some 9) .any [8] (.mov (.tmp 8)) <|
 .grp 9 false (.op (some 10) .any [0, 9] (.mov (.tmp 0)) <|
 .op (some 11) .any [10, 9] (.bin .geq .none (.tmp 10) (.con (V.int .u8 (Int.ofNat 65)))) <|
 .op (some 12) .any [11, 9] (.mov (.tmp 11)) <|
 .grp 12 true (.op (some 13) .any [0, 12] (.mov (.tmp 0)) <|
 .op (some 14) .any [13, 12] (.bin .leq .none (.tmp 13) (.con (V.int .u8 (Int.ofNat 90)))) <|
 .nil) 15 [12, 14, 9] (.tmp 12) (.tmp 14) (.con (V.bool false)) <|
 .nil) 16 [9, 15] (.tmp 9) (.con (V.bool true)) (.tmp 15) <|
 .op (some 2) .any [16] (.mov (.tmp 16)) <|
 .nil))
 .ret))
def A135 : XFn := ⟨17, [(.int .u8)], [(.tmp 2)], C135_0⟩
def C136_0 (cc1 : XC) (cc2 : XC) : XC := (.seq (.ops (.op (some 4) .any [] (.mov (.con (V.int .i64 (Int.ofNat 0)))) <|
 .nil))
 (.seq (.ops (.op (some 6) .any [1] (.mov (.tmp 1)) <|
 .op (some 5) .any [6] (.mov (.tmp 6)) <|
 .nil))
 (.seq (.block 0 (.loop [(0, .str), (1, (.int .i64)), (5, (.int .i64))] [] [] cc2))
 (.keep [(0, .str), (1, (.int .i64)), (5, (.int .i64))] [] [] cc1))))
def C136_1 : XC := (.seq (.seq (.ops (.op (some 38) .any [0] (.mov (.tmp 0)) <|
 .op (some 39) .any [1] (.mov (.tmp 1)) <|
 .op (some 40) .any [39] (.bin .sub .none (.tmp 39) (.con (V.int .i64 (Int.ofNat 1)))) <|
 .op (some 41) .any [38, 40] (.idxStr (.tmp 38) (.tmp 40)) <|
 .op (some 42) .any [41] (.bin .eql .none (.tmp 41) (.con (V.int .u8 (Int.ofNat 45)))) <|
 .op (some 43) .any [42] (.mov (.tmp 42)) <|
 .grp 43 false (.op (some 44) .any [1, 43] (.mov (.tmp 1)) <|
 .op (some 45) .any [5, 43] (.mov (.tmp 5)) <|
 .op (some 46) .any [44, 45, 43] (.bin .sub .none (.tmp 44) (.tmp 45)) <|
 .op (some 47) .any [46, 43] (.bin .gtr .none (.tmp 46) (.con (V.int .i64 (Int.ofNat 60)))) <|
 .nil) 48 [43, 47] (.tmp 43) (.con (V.bool true)) (.tmp 47) <|
 .nil))
 (.cond (.tmp 48) (.seq (.ops (.op (some 4) .any [] (.mov (.con (V.int .i64 (Int.negSucc 0)))) <|
 .nil))
 .ret)
 .skip))
 (.seq (.ops (.op (some 49) .any [1] (.mov (.tmp 1)) <|
 .op (some 4) .any [49] (.mov (.tmp 49)) <|
 .nil))
 .ret))
def C136_2 : XC := (.seq (.seq (.ops (.op (some 7) .any [1] (.mov (.tmp 1)) <|
 .op (some 8) .any [0] (.mov (.tmp 0)) <|
 .op (some 9) .any [8] (.len true (.tmp 8)) <|
 .op (some 10) .any [7, 9] (.bin .lss .none (.tmp 7) (.tmp 9)) <|
 .op (some 11) .any [10] (.mov (.tmp 10)) <|
 .grp 11 true (.op (some 12) .any [0, 11] (.mov (.tmp 0)) <|
 .op (some 13) .any [1, 11] (.mov (.tmp 1)) <|
 .op (some 14) .any [12, 13, 11] (.idxStr (.tmp 12) (.tmp 13)) <|
 .op (some 15) .bool [14, 11] (.call 135 [(.tmp 14)]) <|
 .op (some 16) .any [15, 11] (.mov (.tmp 15)) <|
 .grp 16 false (.op (some 17) .any [0, 16] (.mov (.tmp 0)) <|
 .op (some 18) .any [1, 16] (.mov (.tmp 1)) <|
 .op (some 19) .any [17, 18, 16] (.idxStr (.tmp 17) (.tmp 18)) <|
 .op (some 20) .bool [19, 16] (.call 138 [(.tmp 19)]) <|
 .nil) 21 [16, 20, 11] (.tmp 16) (.con (V.bool true)) (.tmp 20) <|
 .op (some 22) .any [21, 11] (.mov (.tmp 21)) <|
 .grp 22 false (.op (some 23) .any [0, 22] (.mov (.tmp 0)) <|
 .op (some 24) .any [1, 22] (.mov (.tmp 1)) <|
 .op (some 25) .any [23, 24, 22] (.idxStr (.tmp 23) (.tmp 24)) <|
 .op (some 26) .any [25, 22] (.bin .eql .none (.tmp 25) (.con (V.int .u8 (Int.ofNat 45)))) <|
 .op (some 27) .any [26, 22] (.mov (.tmp 26)) <|
 .grp 27 true (.op (some 28) .any [0, 27] (.mov (.tmp 0)) <|
 .op (some 29) .any [1, 27] (.mov (.tmp 1)) <|
 .op (some 30) .any [29, 27] (.bin .add .none (.tmp 29) (.con (V.int .i64 (Int.ofNat 1)))) <|
 .op (some 31) (.int .u8) [28, 30, 27] (.call 134 [(.tmp 28), (.tmp 30)]) <|
 .op (some 32) .any [31, 27] (.bin .neq .none (.tmp 31) (.con (V.int .u8 (Int.ofNat 45)))) <|
 .nil) 33 [27, 32, 22] (.tmp 27) (.tmp 32) (.con (V.bool false)) <|
 .nil) 34 [22, 33, 11] (.tmp 22) (.con (V.bool true)) (.tmp 33) <|
 .nil) 35 [11, 34] (.tmp 11) (.tmp 34) (.con (V.bool false)) <|
 .nil))
 (.cond (.tmp 35) .skip
 (.exit 0)))
 (.block 1 (.ops (.op (some 36) .any [1] (.mov (.tmp 1)) <|
 .op (some 37) .any [36] (.bin .add .none (.tmp 36) (.con (V.int .i64 (Int.ofNat 1)))) <|
 .op (some 1) .any [37] (.mov (.tmp 37)) <|
 .nil))))
def A136 : XFn := ⟨50, [.str, (.int .i64)], [(.tmp 4)], (C136_0 C136_1 C136_2)⟩
def C137_0 : XC := (.seq (.ops (.op (some 2) .any [] (.mov (.con (V.bool false))) <|
 .nil))
 (.seq (.ops (.op (some 3) .one [] (.call 210 []) <|
 .op (some 4) .any [0] (.mov (.tmp 0)) <|
 .op (some 5) .bool [3, 4] (.call 70 [(.tmp 3), (.tmp 4)]) <|
 .op (some 2) .any [5] (.mov (.tmp 5)) <|
 .nil))
 .ret))
def A137 : XFn := ⟨6, [.str], [(.tmp 2)], C137_0⟩
def C138_0 : XC := (.seq (.ops (.op (some 2) .any [] (.mov (.con (V.bool false))) <|
 .nil))
 (.seq (.ops (.op (some 3) .any [0] (.mov (.tmp 0)) <|
 .op (some 4) .any [3] (.bin .geq .none (.tmp 3) (.con (V.int .u8 (Int.ofNat 48)))) <|
 .op (some 5) .any [4] (.mov (.tmp 4)) <|
 .grp 5 true (.op (some 6) .any [0, 5] (.mov (.tmp 0)) <|
 .op (some 7) .any [6, 5] (.bin .leq .none (.tmp 6) (.con (V.int .u8 (Int.ofNat 57)))) <|
 .nil) 8 [5, 7] (.tmp 5) (.tmp 7) (.con (V.bool false)) <|
 .op (some 2) .any [8] (.mov (.tmp 8)) <|
 .nil))
 .ret))
def A138 : XFn := ⟨9, [(.int .u8)], [(.tmp 2)], C138_0⟩
def C139_0 (cc1 : XC) : XC := (.seq (.ops (.op (some 4) .any [] (.mov (.con (V.int .i64 (Int.ofNat 0)))) <|
 .nil))
 (.seq (.ops (.op (some 9) .any [0] (.mov (.tmp 0)) <|
 .op (some 10) .any [1] (.mov (.tmp 1)) <|
 .op (some 11) .any [9, 10] (.idxStr (.tmp 9) (.tmp 10)) <|
 .op (some 12) .any [11] (.bin .eql .none (.tmp 11) (.con (V.int .u8 (Int.ofNat 45)))) <|
 .op (some 5) .any [12] (.mov (.tmp 12)) <|
 .nil))
 (.seq (.seq (.ops (.op (some 13) .any [5] (.mov (.tmp 5)) <|
 .nil))
 (.cond (.tmp 13) (.ops (.op (some 14) .any [1] (.mov (.tmp 1)) <|
 .op (some 15) .any [14] (.bin .add .none (.tmp 14) (.con (V.int .i64 (Int.ofNat 1)))) <|
 .op (some 1) .any [15] (.mov (.tmp 15)) <|
 .nil))
 .skip))
 (.keep [(0, .str), (1, (.int .i64)), (5, .bool)] [] [] cc1))))
def C139_1 (cc2 : XC) (cc3 : XC) : XC := (.seq (.ops (.op (some 16) .any [1] (.mov (.tmp 1)) <|
 .op (some 6) .any [16] (.mov (.tmp 16)) <|
 .nil))
 (.seq (.ops (.op (some 7) .any [] (.mov (.con (V.int .u64 (Int.ofNat 0)))) <|
 .nil))
 (.seq (.block 0 (.loop [(0, .str), (1, (.int .i64)), (5, .bool), (6, (.int .i64)), (7, (.int .u64))] [] [] cc3))
 (.keep [(0, .str), (1, (.int .i64)), (5, .bool), (6, (.int .i64)), (7, (.int .u64))] [] [] cc2))))
def C139_2 : XC := (.seq (.ops (.op (some 41) .any [1] (.mov (.tmp 1)) <|
 .op (some 42) .any [6] (.mov (.tmp 6)) <|
 .op (some 43) .any [41, 42] (.bin .sub .none (.tmp 41) (.tmp 42)) <|
 .op (some 8) .any [43] (.mov (.tmp 43)) <|
 .nil))
 (.seq (.seq (.ops (.op (some 44) .any [8] (.mov (.tmp 8)) <|
 .op (some 45) .any [44] (.bin .lss .none (.tmp 44) (.con (V.int .i64 (Int.ofNat 1)))) <|
 .op (some 46) .any [45] (.mov (.tmp 45)) <|
 .grp 46 false (.op (some 47) .any [8, 46] (.mov (.tmp 8)) <|
 .op (some 48) .any [47, 46] (.bin .gtr .none (.tmp 47) (.con (V.int .i64 (Int.ofNat 19)))) <|
 .nil) 49 [46, 48] (.tmp 46) (.con (V.bool true)) (.tmp 48) <|
 .op (some 50) .any [49] (.mov (.tmp 49)) <|
 .grp 50 false (.op (some 51) .any [8, 50] (.mov (.tmp 8)) <|
 .op (some 52) .any [51, 50] (.bin .gtr .none (.tmp 51) (.con (V.int .i64 (Int.ofNat 1)))) <|
 .op (some 53) .any [52, 50] (.mov (.tmp 52)) <|
 .grp 53 true (.op (some 54) .any [0, 53] (.mov (.tmp 0)) <|
 .op (some 55) .any [6, 53] (.mov (.tmp 6)) <|
 .op (some 56) .any [54, 55, 53] (.idxStr (.tmp 54) (.tmp 55)) <|
 .op (some 57) .any [56, 53] (.bin .eql .none (.tmp 56) (.con (V.int .u8 (Int.ofNat 48)))) <|
 .nil) 58 [53, 57, 50] (.tmp 53) (.tmp 57) (.con (V.bool false)) <|
 .nil) 59 [50, 58] (.tmp 50) (.con (V.bool true)) (.tmp 58) <|
 .op (some 60) .any [59] (.mov (.tmp 59)) <|
 .grp 60 false (.op (some 61) .any [5, 60] (.mov (.tmp 5)) <|
 .op (some 62) .any [61, 60] (.mov (.tmp 61)) <|
 .grp 62 true (.op (some 63) .any [0, 62] (.mov (.tmp 0)) <|
 .op (some 64) .any [6, 62] (.mov (.tmp 6)) <|
 .op (some 65) .any [63, 64, 62] (.idxStr (.tmp 63) (.tmp 64)) <|
 .op (some 66) .any [65, 62] (.bin .eql .none (.tmp 65) (.con (V.int .u8 (Int.ofNat 48)))) <|
 .nil) 67 [62, 66, 60] (.tmp 62) (.tmp 66) (.con (V.bool false)) <|
 .nil) 68 [60, 67] (.tmp 60) (.con (V.bool true)) (.tmp 67) <|
 .op (some 69) .any [68] (.mov (.tmp 68)) <|
 .grp 69 false (.op (some 70) .any [0, 69] (.mov (.tmp 0)) <|
 .op (some 71) .any [1, 69] (.mov (.tmp 1)) <|
 .op (some 72) (.int .u8) [70, 71, 69] (.call 134 [(.tmp 70), (.tmp 71)]) <|
 .op (some 73) .bool [72, 69] (.call 135 [(.tmp 72)]) <|
 .nil) 74 [69, 73] (.tmp 69) (.con (V.bool true)) (.tmp 73) <|
 .op (some 75) .any [74] (.mov (.tmp 74)) <|
 .grp 75 false (.op (some 76) .any [7, 75] (.mov (.tmp 7)) <|
 .op (some 77) .any [76, 75] (.bin .gtr .none (.tmp 76) (.con (V.int .u64 (Int.ofNat 9223372036854775808)))) <|
 .nil) 78 [75, 77] (.tmp 75) (.con (V.bool true)) (.tmp 77) <|
 .op (some 79) .any [78] (.mov (.tmp 78)) <|
 .grp 79 false (.op (some 80) .any [5, 79] (.mov (.tmp 5)) <|
 .op (some 81) .any [80, 79] (.un .not (.tmp 80)) <|
 .op (some 82) .any [81, 79] (.mov (.tmp 81)) <|
 .grp 82 true (.op (some 83) .any [7, 82] (.mov (.tmp 7)) <|
 .op (some 84) .any [83, 82] (.bin .eql .none (.tmp 83) (.con (V.int .u64 (Int.ofNat 9223372036854775808)))) <|
 .nil) 85 [82, 84, 79] (.tmp 82) (.tmp 84) (.con (V.bool false)) <|
 .nil) 86 [79, 85] (.tmp 79) (.con (V.bool true)) (.tmp 85) <|
 .nil))
 (.cond (.tmp 86) (.seq (.ops (.op (some 4) .any [] (.mov (.con (V.int .i64 (Int.negSucc 0)))) <|
 .nil))
 .ret)
 .skip))
 (.seq (.ops (.op (some 87) .any [1] (.mov (.tmp 1)) <|
 .op (some 4) .any [87] (.mov (.tmp 87)) <|
 .nil))
 .ret)))
def C139_3 (cc4 : XC) : XC := (.seq (.seq (.ops (.op (some 17) .any [1] (.mov (.tmp 1)) <|
 .op (some 18) .any [0] (.mov (.tmp 0)) <|
 .op (some 19) .any [18] (.len true (.tmp 18)) <|
 .op (some 20) .any [17, 19] (.bin .lss .none (.tmp 17) (.tmp 19)) <|
 .op (some 21) .any [20] (.mov (.tmp 20)) <|
 .grp 21 true (.op (some 22) .any [0, 21] (.mov (.tmp 0)) <|
 .op (some 23) .any [1, 21] (.mov (.tmp 1)) <|
 .op (some 24) .any [22, 23, 21] (.idxStr (.tmp 22) (.tmp 23)) <|
 .op (some 25) .bool [24, 21] (.call 138 [(.tmp 24)]) <|
 .nil) 26 [21, 25] (.tmp 21) (.tmp 25) (.con (V.bool false)) <|
 .nil))
 (.cond (.tmp 26) .skip
 (.exit 0)))
 (.block 1 (.seq (.seq (.ops (.op (some 27) .any [1] (.mov (.tmp 1)) <|
 .op (some 28) .any [6] (.mov (.tmp 6)) <|
 .op (some 29) .any [27, 28] (.bin .sub .none (.tmp 27) (.tmp 28)) <|
 .op (some 30) .any [29] (.bin .lss .none (.tmp 29) (.con (V.int .i64 (Int.ofNat 19)))) <|
 .nil))
 (.cond (.tmp 30) (.ops (.op (some 31) .any [7] (.mov (.tmp 7)) <|
 .op (some 32) .any [31] (.bin .mul .none (.con (V.int .u64 (Int.ofNat 10))) (.tmp 31)) <|
 .op (some 33) .any [0] (.mov (.tmp 0)) <|
 .op (some 34) .any [1] (.mov (.tmp 1)) <|
 .op (some 35) .any [33, 34] (.idxStr (.tmp 33) (.tmp 34)) <|
 .op (some 36) .any [35] (.bin .sub .none (.tmp 35) (.con (V.int .u8 (Int.ofNat 48)))) <|
 .op (some 37) .any [36] (.conv (.toInt .u64) (.tmp 36)) <|
 .op (some 38) .any [32, 37] (.bin .add .none (.tmp 32) (.tmp 37)) <|
 .op (some 7) .any [38] (.mov (.tmp 38)) <|
 .nil))
 .skip))
 (.keep [(0, .str), (1, (.int .i64)), (5, .bool), (6, (.int .i64)), (7, (.int .u64))] [] [] cc4))))
def C139_4 : XC := (.ops (.op (some 39) .any [1] (.mov (.tmp 1)) <|
 .op (some 40) .any [39] (.bin .add .none (.tmp 39) (.con (V.int .i64 (Int.ofNat 1)))) <|
 .op (some 1) .any [40] (.mov (.tmp 40)) <|
 .nil))
def A139 : XFn := ⟨88, [.str, (.int .i64)], [(.tmp 4)], (C139_0 (C139_1 C139_2 (C139_3 C139_4)))⟩
def C142_0 (cc1 : XC) (cc2 : XC) : XC := (.seq (.ops (.op (some 4) .any [] (.mov (.con (V.int .i64 (Int.ofNat 0)))) <|
 .nil))
 (.seq (.ops (.op (some 9) .any [0] (.mov (.tmp 0)) <|
 .op (some 10) .any [1] (.mov (.tmp 1)) <|
 .op (some 11) .any [9, 10] (.sliceStr (.tmp 9) (some (.tmp 10)) none) <|
 .op (some 5) .any [11] (.mov (.tmp 11)) <|
 .nil))
 (.seq (.ops (.op (some 12) .any [] (.buildSlice 9 13 [(V.str ⟨0, 0⟩), (V.str ⟨0, 0⟩), (V.str ⟨0, 0⟩), (V.str ⟨0, 0⟩), (V.str ⟨0, 0⟩), (V.str ⟨0, 0⟩), (V.str ⟨0, 0⟩), (V.str ⟨0, 0⟩), (V.str ⟨0, 0⟩), (V.str ⟨0, 0⟩), (V.str ⟨0, 0⟩), (V.str ⟨0, 0⟩), (V.str ⟨0, 0⟩)] [(0, 1, (.con (V.str ⟨3, 4012602⟩))), (1, 1, (.con (V.str ⟨3, 3026478⟩))), (2, 1, (.con (V.str ⟨2, 11822⟩))), (3, 1, (.con (V.str ⟨2, 23387⟩))), (4, 1, (.con (V.str ⟨2, 23901⟩))), (5, 1, (.con (V.str ⟨1, 123⟩))), (6, 1, (.con (V.str ⟨1, 125⟩))), (7, 1, (.con (V.str ⟨1, 91⟩))), (8, 1, (.con (V.str ⟨1, 93⟩))), (9, 1, (.con (V.str ⟨1, 40⟩))), (10, 1, (.con (V.str ⟨1, 41⟩))), (11, 1, (.con (V.str ⟨1, 44⟩))), (12, 1, (.con (V.str ⟨1, 58⟩)))]) <|
 .op (some 6) .any [12] (.mov (.tmp 12)) <|
 .nil))
 (.seq (.seq (.ops (.op (some 7) .any [] (.mov (.con (V.int .i64 (Int.ofNat 0)))) <|
 .nil))
 (.block 0 (.loop [(5, .str), (6, .any), (7, (.int .i64))] [] [] cc2)))
 (.keep [] [] [] cc1)))))
def C142_1 : XC := (.seq (.ops (.op (some 4) .any [] (.mov (.con (V.int .i64 (Int.ofNat 0)))) <|
 .nil))
 .ret)
def C142_2 : XC := (.seq (.seq (.ops (.op (some 13) .any [7] (.mov (.tmp 7)) <|
 .op (some 14) .any [6] (.mov (.tmp 6)) <|
 .op (some 15) .any [14] (.len false (.tmp 14)) <|
 .op (some 16) .any [13, 15] (.bin .lss .none (.tmp 13) (.tmp 15)) <|
 .nil))
 (.cond (.tmp 16) .skip
 (.exit 0)))
 (.seq (.block 1 (.seq (.ops (.op (some 19) .any [6] (.mov (.tmp 6)) <|
 .op (some 20) .any [7] (.mov (.tmp 7)) <|
 .op (some 21) .any [19, 20] (.iaddrS 1 (.tmp 19) (.tmp 20)) <|
 .op (some 22) .str [21] (.load none (.tmp 21)) <|
 .op (some 23) .any [22] (.len true (.tmp 22)) <|
 .op (some 8) .any [23] (.mov (.tmp 23)) <|
 .nil))
 (.seq (.draw (.op (some 24) .any [5] (.mov (.tmp 5)) <|
 .op (some 25) .any [24] (.len true (.tmp 24)) <|
 .op (some 26) .any [8] (.mov (.tmp 8)) <|
 .op (some 27) .any [25, 26] (.bin .geq .none (.tmp 25) (.tmp 26)) <|
 .op (some 28) .any [27] (.mov (.tmp 27)) <|
 .grp 28 true (.op (some 29) .any [5, 28] (.mov (.tmp 5)) <|
 .op (some 30) .any [8, 28] (.mov (.tmp 8)) <|
 .op (some 31) .any [29, 30, 28] (.sliceStr (.tmp 29) none (some (.tmp 30))) <|
 .op (some 32) .any [6, 28] (.mov (.tmp 6)) <|
 .op (some 33) .any [7, 28] (.mov (.tmp 7)) <|
 .op (some 34) .any [32, 33, 28] (.iaddrS 1 (.tmp 32) (.tmp 33)) <|
 .op (some 35) .str [34, 28] (.load none (.tmp 34)) <|
 .op (some 36) .any [31, 35, 28] (.bin .eql .none (.tmp 31) (.tmp 35)) <|
 .nil) 37 [28, 36] (.tmp 28) (.tmp 36) (.con (V.bool false)) <|
 .nil) [0, 1, 0, 7, 15, 31, 31, 127, 31, 31, 799, 1823, 4095, 8191])
 (.cond (.tmp 37) (.seq (.ops (.op (some 38) .any [8] (.mov (.tmp 8)) <|
 .op (some 4) .any [38] (.mov (.tmp 38)) <|
 .nil))
 .ret)
 .skip))))
 (.ops (.op (some 17) .any [7] (.mov (.tmp 7)) <|
 .op (some 18) .any [17] (.bin .add .none (.tmp 17) (.con (V.int .i64 (Int.ofNat 1)))) <|
 .op (some 7) .any [18] (.mov (.tmp 18)) <|
 .nil))))
def A142 : XFn := ⟨39, [.str, (.int .i64)], [(.tmp 4)], (C142_0 C142_1 C142_2)⟩
def C143_0 (cc1 : XC) : XC := (.seq (.ops (.op (some 2) .any [] (.mov (.con (V.int .i64 (Int.ofNat 0)))) <|
 .nil))
 (.seq (.ops (.op (some 6) .any [0] (.mov (.tmp 0)) <|
 .op (some 7) .any [6] (.idxStr (.tmp 6) (.con (V.int .i64 (Int.ofNat 0)))) <|
 .op (some 8) .any [7] (.bin .eql .none (.tmp 7) (.con (V.int .u8 (Int.ofNat 45)))) <|
 .op (some 3) .any [8] (.mov (.tmp 8)) <|
 .nil))
 (.seq (.seq (.ops (.op (some 9) .any [3] (.mov (.tmp 3)) <|
 .nil))
 (.cond (.tmp 9) (.ops (.op (some 10) .any [0] (.mov (.tmp 0)) <|
 .op (some 11) .any [10] (.sliceStr (.tmp 10) (some (.con (V.int .i64 (Int.ofNat 1)))) none) <|
 .op (some 0) .any [11] (.mov (.tmp 11)) <|
 .nil))
 .skip))
 (.keep [(0, .str), (3, .bool)] [] [] cc1))))
def C143_1 (cc2 : XC) (cc3 : XC) : XC := (.seq (.ops (.op (some 4) .any [] (.mov (.con (V.int .u64 (Int.ofNat 0)))) <|
 .nil))
 (.seq (.seq (.ops (.op (some 5) .any [] (.mov (.con (V.int .i64 (Int.ofNat 0)))) <|
 .nil))
 (.block 0 (.loop [(0, .str), (3, .bool), (4, (.int .u64)), (5, (.int .i64))] [] [] cc3)))
 (.keep [(3, .bool), (4, (.int .u64))] [] [] cc2)))
def C143_2 : XC := (.seq (.seq (.ops (.op (some 26) .any [3] (.mov (.tmp 3)) <|
 .nil))
 (.cond (.tmp 26) (.seq (.ops (.op (some 27) .any [4] (.mov (.tmp 4)) <|
 .op (some 28) .any [27] (.bin .sub .none (.tmp 27) (.con (V.int .u64 (Int.ofNat 1)))) <|
 .op (some 29) .any [28] (.conv (.toInt .i64) (.tmp 28)) <|
 .op (some 30) .any [29] (.un .neg (.tmp 29)) <|
 .op (some 31) .any [30] (.bin .sub .none (.tmp 30) (.con (V.int .i64 (Int.ofNat 1)))) <|
 .op (some 2) .any [31] (.mov (.tmp 31)) <|
 .nil))
 .ret)
 .skip))
 (.seq (.ops (.op (some 32) .any [4] (.mov (.tmp 4)) <|
 .op (some 33) .any [32] (.conv (.toInt .i64) (.tmp 32)) <|
 .op (some 2) .any [33] (.mov (.tmp 33)) <|
 .nil))
 .ret))
def C143_3 : XC := (.seq (.seq (.ops (.op (some 12) .any [5] (.mov (.tmp 5)) <|
 .op (some 13) .any [0] (.mov (.tmp 0)) <|
 .op (some 14) .any [13] (.len true (.tmp 13)) <|
 .op (some 15) .any [12, 14] (.bin .lss .none (.tmp 12) (.tmp 14)) <|
 .nil))
 (.cond (.tmp 15) .skip
 (.exit 0)))
 (.seq (.block 1 (.ops (.op (some 18) .any [4] (.mov (.tmp 4)) <|
 .op (some 19) .any [18] (.bin .mul .none (.con (V.int .u64 (Int.ofNat 10))) (.tmp 18)) <|
 .op (some 20) .any [0] (.mov (.tmp 0)) <|
 .op (some 21) .any [5] (.mov (.tmp 5)) <|
 .op (some 22) .any [20, 21] (.idxStr (.tmp 20) (.tmp 21)) <|
 .op (some 23) .any [22] (.bin .sub .none (.tmp 22) (.con (V.int .u8 (Int.ofNat 48)))) <|
 .op (some 24) .any [23] (.conv (.toInt .u64) (.tmp 23)) <|
 .op (some 25) .any [19, 24] (.bin .add .none (.tmp 19) (.tmp 24)) <|
 .op (some 4) .any [25] (.mov (.tmp 25)) <|
 .nil)))
 (.ops (.op (some 16) .any [5] (.mov (.tmp 5)) <|
 .op (some 17) .any [16] (.bin .add .none (.tmp 16) (.con (V.int .i64 (Int.ofNat 1)))) <|
 .op (some 5) .any [17] (.mov (.tmp 17)) <|
 .nil))))
def A143 : XFn := ⟨34, [.str], [(.tmp 2)], (C143_0 (C143_1 C143_2 C143_3))⟩
def C145_0 (cc1 : XC) : XC := (.seq (.ops (.pal 2 [] 107 [(V.bool false), (V.bool false), (V.bool false), (V.bool false), (V.int .i64 (Int.ofNat 0)), (V.int .i64 (Int.ofNat 0))] <|
 .nil))
 (.seq (.ops (.op (some 4) (.agg [.bool, .bool, .bool, .bool, (.int .i64), (.int .i64)]) [] (.build [(V.bool false), (V.bool false), (V.bool false), (V.bool false), (V.int .i64 (Int.ofNat 0)), (V.int .i64 (Int.ofNat 0))] [(0, 1, (.con (V.bool true)))]) <|
 .pal 3 [] 107 [(V.bool false), (V.bool false), (V.bool false), (V.bool false), (V.int .i64 (Int.ofNat 0)), (V.int .i64 (Int.ofNat 0))] <|
 .op none (.agg [.bool, .bool, .bool, .bool, (.int .i64), (.int .i64)]) [3, 4] (.store 6 (.tmp 3) (.tmp 4)) <|
 .nil))
 (.seq (.seq (.ops (.op (some 5) .any [0] (.mov (.tmp 0)) <|
 .op (some 6) .bool [5] (.call 31 [(.tmp 5), (.con (V.str ⟨3, 5130573⟩))]) <|
 .op (some 7) .any [6] (.un .not (.tmp 6)) <|
 .nil))
 (.cond (.tmp 7) (.ops (.op (some 8) .any [0] (.mov (.tmp 0)) <|
 .op (some 9) (.int .i64) [8] (.call 68 [(.tmp 8)]) <|
 .op (some 10) .any [3] (.faddr 1 (.tmp 3)) <|
 .op none .any [10] (.store 1 (.tmp 10) (.con (V.bool true))) <|
 .op (some 11) .any [3] (.faddr 4 (.tmp 3)) <|
 .op none .any [11, 9] (.store 1 (.tmp 11) (.tmp 9)) <|
 .nil))
 .skip))
 (.keep [(0, .any)] [2, 3] [(2, [.bool, .bool, .bool, .bool, (.int .i64), (.int .i64)]), (3, [.bool, .bool, .bool, .bool, (.int .i64), (.int .i64)])] cc1))))
def C145_1 (cc2 : XC) : XC := (.seq (.block 0 (.seq (.ops (.op (some 13) .any [0] (.mov (.tmp 0)) <|
 .op (some 14) .bool [13] (.call 31 [(.tmp 13), (.con (V.str ⟨2, 11822⟩))]) <|
 .op (some 12) .any [14] (.mov (.tmp 14)) <|
 .nil))
 (.cond (.tmp 12) (.seq (.ops (.op (some 15) .any [0] (.mov (.tmp 0)) <|
 .op (some 16) .bool [15] (.call 31 [(.tmp 15), (.con (V.str ⟨3, 5783885⟩))]) <|
 .op (some 17) .any [16] (.un .not (.tmp 16)) <|
 .nil))
 (.cond (.tmp 17) (.ops (.op (some 18) .any [0] (.mov (.tmp 0)) <|
 .op (some 19) (.int .i64) [18] (.call 68 [(.tmp 18)]) <|
 .op (some 20) .any [3] (.faddr 2 (.tmp 3)) <|
 .op none .any [20] (.store 1 (.tmp 20) (.con (V.bool true))) <|
 .op (some 21) .any [3] (.faddr 5 (.tmp 3)) <|
 .op none .any [21, 19] (.store 1 (.tmp 21) (.tmp 19)) <|
 .nil))
 .skip))
 (.seq (.ops (.op (some 23) .any [3] (.faddr 1 (.tmp 3)) <|
 .op (some 24) .bool [23] (.load none (.tmp 23)) <|
 .op (some 22) .any [24] (.mov (.tmp 24)) <|
 .nil))
 (.cond (.tmp 22) (.ops (.op (some 25) .any [3] (.faddr 4 (.tmp 3)) <|
 .op (some 26) (.int .i64) [25] (.load none (.tmp 25)) <|
 .op (some 27) .any [3] (.faddr 2 (.tmp 3)) <|
 .op none .any [27] (.store 1 (.tmp 27) (.con (V.bool true))) <|
 .op (some 28) .any [3] (.faddr 5 (.tmp 3)) <|
 .op none .any [28, 26] (.store 1 (.tmp 28) (.tmp 26)) <|
 .nil))
 .skip)))))
 (.keep [(0, .any)] [2, 3] [(2, [.bool, .bool, .bool, .bool, (.int .i64), (.int .i64)]), (3, [.bool, .bool, .bool, .bool, (.int .i64), (.int .i64)])] cc2))
def C145_2 (cc3 : XC) : XC := (.seq (.seq (.ops (.op (some 29) .any [0] (.mov (.tmp 0)) <|
 .op (some 30) .bool [29] (.call 31 [(.tmp 29), (.con (V.str ⟨1, 44⟩))]) <|
 .nil))
 (.cond (.tmp 30) (.seq (.ops (.op (some 31) .any [0] (.mov (.tmp 0)) <|
 .op (some 32) (.tup []) [31] (.call 30 [(.tmp 31), (.con (V.str ⟨3, 3026478⟩))]) <|
 .nil))
 (.ops (.op (some 33) .any [3] (.faddr 3 (.tmp 3)) <|
 .op none .any [33] (.store 1 (.tmp 33) (.con (V.bool true))) <|
 .nil)))
 .skip))
 (.keep [] [2, 3] [(2, [.bool, .bool, .bool, .bool, (.int .i64), (.int .i64)]), (3, [.bool, .bool, .bool, .bool, (.int .i64), (.int .i64)])] cc3))
def C145_3 : XC := (.seq (.ops (.op (some 34) (.agg [.bool, .bool, .bool, .bool, (.int .i64), (.int .i64)]) [3] (.load (some 6) (.tmp 3)) <|
 .op none (.agg [.bool, .bool, .bool, .bool, (.int .i64), (.int .i64)]) [2, 34] (.store 6 (.tmp 2) (.tmp 34)) <|
 .nil))
 .ret)
def A145 : XFn := ⟨35, [.any], [(.cell 2 (some 6))], (C145_0 (C145_1 (C145_2 C145_3)))⟩
def C147_0 (cc1 : XC) (cc2 : XC) : XC := (.seq (.seq (.ops (.op (some 7) .any [0] (.mov (.tmp 0)) <|
 .op (some 8) .bool [7] (.call 31 [(.tmp 7), (.con (V.str ⟨1, 125⟩))]) <|
 .nil))
 (.cond (.tmp 8) .ret
 .skip))
 (.seq (.ops (.op (some 6) .any [] (.mov (.con (V.int .i64 (Int.ofNat 0)))) <|
 .nil))
 (.seq (.block 0 (.loop [(0, .ptr), (1, .ptr), (2, (.int .i64)), (6, (.int .i64))] [] [] cc2))
 (.keep [(0, .ptr), (1, .ptr)] [] [] cc1))))
def C147_1 : XC := (.seq (.ops (.op (some 68) .any [0] (.mov (.tmp 0)) <|
 .op (some 69) (.tup []) [68] (.call 30 [(.tmp 68), (.con (V.str ⟨1, 125⟩))]) <|
 .nil))
 (.seq (.ops (.op (some 70) .any [1] (.mov (.tmp 1)) <|
 .op (some 71) .any [70] (.nilck (.tmp 70)) <|
 .op (some 72) .any [71] (.faddr 14 (.tmp 71)) <|
 .op (some 73) .bool [72] (.load none (.tmp 72)) <|
 .op (some 74) .any [73] (.un .not (.tmp 73)) <|
 .nil))
 (.cond (.tmp 74) (.ops (.op (some 75) .any [1] (.mov (.tmp 1)) <|
 .op (some 76) .any [1] (.mov (.tmp 1)) <|
 .op (some 77) .any [76] (.nilck (.tmp 76)) <|
 .op (some 78) .any [77] (.faddr 12 (.tmp 77)) <|
 .op (some 79) .any [78] (.load none (.tmp 78)) <|
 .op (some 80) .any [79] (.len false (.tmp 79)) <|
 .op (some 81) .any [75] (.nilck (.tmp 75)) <|
 .op (some 82) .any [81] (.faddr 13 (.tmp 81)) <|
 .op none .any [82, 80] (.store 1 (.tmp 82) (.tmp 80)) <|
 .nil))
 .skip)))
def C147_2 (cc3 : XC) (cc4 : XC) (cc5 : XC) : XC := (.seq (.seq (.ops (.op (some 9) .any [0] (.mov (.tmp 0)) <|
 .op (some 10) .any [9] (.nilck (.tmp 9)) <|
 .op (some 11) .any [10] (.faddr 7 (.tmp 10)) <|
 .op (some 12) (.int .i64) [11] (.load none (.tmp 11)) <|
 .op (some 13) .any [12] (.bin .eql .none (.tmp 12) (.con (V.int .i64 (Int.ofNat 0)))) <|
 .nil))
 (.cond (.tmp 13) .skip
 (.exit 0)))
 (.block 1 (.seq (.block 2 (.seq (.ops (.op (some 19) .any [1] (.mov (.tmp 1)) <|
 .op (some 20) .any [19] (.nilck (.tmp 19)) <|
 .op (some 21) .any [20] (.faddr 14 (.tmp 20)) <|
 .op (some 22) .bool [21] (.load none (.tmp 21)) <|
 .op (some 23) .any [22] (.un .not (.tmp 22)) <|
 .op (some 24) .any [23] (.mov (.tmp 23)) <|
 .grp 24 true (.op (some 25) .any [0, 24] (.mov (.tmp 0)) <|
 .op (some 26) .bool [25, 24] (.call 31 [(.tmp 25), (.con (V.str ⟨3, 3026478⟩))]) <|
 .nil) 27 [24, 26] (.tmp 24) (.tmp 26) (.con (V.bool false)) <|
 .op (some 18) .any [27] (.mov (.tmp 27)) <|
 .nil))
 (.cond (.tmp 18) (.ops (.op (some 28) .any [1] (.mov (.tmp 1)) <|
 .op (some 29) .any [1] (.mov (.tmp 1)) <|
 .op (some 30) .any [1] (.mov (.tmp 1)) <|
 .op (some 31) .any [30] (.nilck (.tmp 30)) <|
 .op (some 32) .any [31] (.faddr 12 (.tmp 31)) <|
 .op (some 33) .any [32] (.load none (.tmp 32)) <|
 .op (some 34) .any [33] (.len false (.tmp 33)) <|
 .op (some 35) .any [28] (.nilck (.tmp 28)) <|
 .op (some 36) .any [35] (.faddr 14 (.tmp 35)) <|
 .op none .any [36] (.store 1 (.tmp 36) (.con (V.bool true))) <|
 .op (some 37) .any [29] (.nilck (.tmp 29)) <|
 .op (some 38) .any [37] (.faddr 13 (.tmp 37)) <|
 .op none .any [38, 34] (.store 1 (.tmp 38) (.tmp 34)) <|
 .nil))
 (.seq (.ops (.op (some 40) .any [1] (.mov (.tmp 1)) <|
 .op (some 41) .any [40] (.nilck (.tmp 40)) <|
 .op (some 42) .any [41] (.faddr 14 (.tmp 41)) <|
 .op (some 43) .bool [42] (.load none (.tmp 42)) <|
 .op (some 44) .any [43] (.mov (.tmp 43)) <|
 .grp 44 true (.op (some 45) .any [0, 44] (.mov (.tmp 0)) <|
 .op (some 46) .bool [45, 44] (.call 31 [(.tmp 45), (.con (V.str ⟨2, 23387⟩))]) <|
 .nil) 47 [44, 46] (.tmp 44) (.tmp 46) (.con (V.bool false)) <|
 .op (some 39) .any [47] (.mov (.tmp 47)) <|
 .nil))
 (.cond (.tmp 39) (.seq (.ops (.op (some 48) .any [6] (.mov (.tmp 6)) <|
 .op (some 49) .any [48] (.bin .add .none (.tmp 48) (.con (V.int .i64 (Int.ofNat 1)))) <|
 .op (some 6) .any [49] (.mov (.tmp 49)) <|
 .nil))
 (.seq (.block 3 (.loop [(0, .ptr), (1, .ptr), (2, (.int .i64)), (6, (.int .i64))] [] [] cc5))
 (.keep [(0, .ptr), (1, .ptr), (2, (.int .i64)), (6, (.int .i64))] [] [] cc4)))
 (.ops (.op (some 14) .any [0] (.mov (.tmp 0)) <|
 .op (some 15) .any [1] (.mov (.tmp 1)) <|
 .op (some 16) .any [2] (.mov (.tmp 2)) <|
 .op (some 17) (.tup []) [14, 15, 16] (.call 212 [(.tmp 14), (.tmp 15), (.tmp 16), (.con (V.int .i64 (Int.ofNat 0)))]) <|
 .nil)))))))
 (.keep [(0, .ptr), (1, .ptr), (2, (.int .i64)), (6, (.int .i64))] [] [] cc3))))
def C147_3 : XC := (.seq (.ops (.op (some 65) .any [0] (.mov (.tmp 0)) <|
 .op (some 66) .bool [65] (.call 31 [(.tmp 65), (.con (V.str ⟨1, 44⟩))]) <|
 .op (some 67) .any [66] (.un .not (.tmp 66)) <|
 .nil))
 (.cond (.tmp 67) (.exit 0)
 .skip))
def C147_4 : XC := (.ops (.op (some 63) .any [0] (.mov (.tmp 0)) <|
 .op (some 64) (.tup []) [63] (.call 30 [(.tmp 63), (.con (V.str ⟨2, 23901⟩))]) <|
 .nil))
def C147_5 : XC := (.seq (.seq (.ops (.op (some 50) .any [0] (.mov (.tmp 0)) <|
 .op (some 51) .any [50] (.nilck (.tmp 50)) <|
 .op (some 52) .any [51] (.faddr 7 (.tmp 51)) <|
 .op (some 53) (.int .i64) [52] (.load none (.tmp 52)) <|
 .op (some 54) .any [53] (.bin .eql .none (.tmp 53) (.con (V.int .i64 (Int.ofNat 0)))) <|
 .nil))
 (.cond (.tmp 54) .skip
 (.exit 3)))
 (.block 4 (.seq (.ops (.op (some 55) .any [0] (.mov (.tmp 0)) <|
 .op (some 56) .any [1] (.mov (.tmp 1)) <|
 .op (some 57) .any [2] (.mov (.tmp 2)) <|
 .op (some 58) .any [6] (.mov (.tmp 6)) <|
 .op (some 59) (.tup []) [55, 56, 57, 58] (.call 212 [(.tmp 55), (.tmp 56), (.tmp 57), (.tmp 58)]) <|
 .nil))
 (.seq (.ops (.op (some 60) .any [0] (.mov (.tmp 0)) <|
 .op (some 61) .bool [60] (.call 31 [(.tmp 60), (.con (V.str ⟨1, 44⟩))]) <|
 .op (some 62) .any [61] (.un .not (.tmp 61)) <|
 .nil))
 (.cond (.tmp 62) (.exit 3)
 .skip)))))
def A147 : XFn := ⟨83, [.ptr, .ptr, (.int .i64)], [], (C147_0 C147_1 (C147_2 C147_3 C147_4 C147_5))⟩
def C149_0 (cc1 : XC) (cc2 : XC) : XC := (.seq (.ops (.pal 2 [] 214 [(V.int .i64 (Int.ofNat 0)), (V.int .i64 (Int.ofNat 0))] <|
 .nil))
 (.seq (.seq (.ops (.op (some 3) .any [0] (.mov (.tmp 0)) <|
 .nil))
 (.block 0 (.seq (.ops (.op (some 5) .any [3] (.bin .eql .none (.tmp 3) (.con (V.int .i64 (Int.ofNat 1)))) <|
 .op (some 4) .any [5] (.mov (.tmp 5)) <|
 .nil))
 (.cond (.tmp 4) (.seq (.ops (.op (some 6) (.agg [(.int .i64), (.int .i64)]) [] (.build [(V.int .i64 (Int.ofNat 0)), (V.int .i64 (Int.ofNat 0))] [(1, 1, (.con (V.int .i64 (Int.ofNat 1))))]) <|
 .op none (.agg [(.int .i64), (.int .i64)]) [2, 6] (.store 2 (.tmp 2) (.tmp 6)) <|
 .nil))
 .ret)
 (.seq (.ops (.op (some 8) .any [3] (.bin .eql .none (.tmp 3) (.con (V.int .i64 (Int.ofNat 2)))) <|
 .op (some 7) .any [8] (.mov (.tmp 8)) <|
 .nil))
 (.cond (.tmp 7) (.seq (.ops (.op (some 9) (.agg [(.int .i64), (.int .i64)]) [] (.build [(V.int .i64 (Int.ofNat 0)), (V.int .i64 (Int.ofNat 0))] [(1, 1, (.con (V.int .i64 (Int.ofNat 2))))]) <|
 .op none (.agg [(.int .i64), (.int .i64)]) [2, 9] (.store 2 (.tmp 2) (.tmp 9)) <|
 .nil))
 .ret)
 (.seq (.ops (.op (some 11) .any [3] (.bin .eql .none (.tmp 3) (.con (V.int .i64 (Int.ofNat 5)))) <|
 .op (some 10) .any [11] (.mov (.tmp 11)) <|
 .nil))
 (.cond (.tmp 10) (.seq (.ops (.op (some 12) (.agg [(.int .i64), (.int .i64)]) [] (.build [(V.int .i64 (Int.ofNat 0)), (V.int .i64 (Int.ofNat 0))] [(1, 1, (.con (V.int .i64 (Int.ofNat 4))))]) <|
 .op none (.agg [(.int .i64), (.int .i64)]) [2, 12] (.store 2 (.tmp 2) (.tmp 12)) <|
 .nil))
 .ret)
 (.seq (.ops (.op (some 14) .any [3] (.bin .eql .none (.tmp 3) (.con (V.int .i64 (Int.ofNat 4)))) <|
 .op (some 13) .any [14] (.mov (.tmp 14)) <|
 .nil))
 (.cond (.tmp 13) (.seq (.ops (.op (some 15) (.agg [(.int .i64), (.int .i64)]) [] (.build [(V.int .i64 (Int.ofNat 0)), (V.int .i64 (Int.ofNat 0))] [(1, 1, (.con (V.int .i64 (Int.ofNat 5))))]) <|
 .op none (.agg [(.int .i64), (.int .i64)]) [2, 15] (.store 2 (.tmp 2) (.tmp 15)) <|
 .nil))
 .ret)
 (.seq (.ops (.op (some 17) .any [3] (.bin .eql .none (.tmp 3) (.con (V.int .i64 (Int.ofNat 3)))) <|
 .op (some 16) .any [17] (.mov (.tmp 17)) <|
 .nil))
 (.cond (.tmp 16) (.seq (.ops (.op (some 18) (.agg [(.int .i64), (.int .i64)]) [] (.build [(V.int .i64 (Int.ofNat 0)), (V.int .i64 (Int.ofNat 0))] [(1, 1, (.con (V.int .i64 (Int.ofNat 10))))]) <|
 .op none (.agg [(.int .i64), (.int .i64)]) [2, 18] (.store 2 (.tmp 2) (.tmp 18)) <|
 .nil))
 .ret)
 (.seq (.ops (.op (some 20) .any [3] (.bin .eql .none (.tmp 3) (.con (V.int .i64 (Int.ofNat 6)))) <|
 .op (some 19) .any [20] (.mov (.tmp 20)) <|
 .nil))
 (.cond (.tmp 19) (.seq (.ops (.op (some 21) (.agg [(.int .i64), (.int .i64)]) [] (.build [(V.int .i64 (Int.ofNat 0)), (V.int .i64 (Int.ofNat 0))] [(1, 1, (.con (V.int .i64 (Int.ofNat 12))))]) <|
 .op none (.agg [(.int .i64), (.int .i64)]) [2, 21] (.store 2 (.tmp 2) (.tmp 21)) <|
 .nil))
 .ret)
 (.seq (.seq (.ops (.op (some 23) .any [3] (.bin .eql .none (.tmp 3) (.con (V.int .i64 (Int.ofNat 7)))) <|
 .op (some 22) .any [23] (.mov (.tmp 23)) <|
 .nil))
 (.cond (.tmp 22) .skip
 (.ops (.op (some 24) .any [3] (.bin .eql .none (.tmp 3) (.con (V.int .i64 (Int.ofNat 10)))) <|
 .op (some 22) .any [24] (.mov (.tmp 24)) <|
 .nil))))
 (.keep [(3, (.int .i64)), (22, .bool)] [2] [(2, [(.int .i64), (.int .i64)])] cc2))))))))))))))))
 (.keep [] [2] [(2, [(.int .i64), (.int .i64)])] cc1)))
def C149_1 : XC := (.seq (.ops (.op (some 29) (.agg [(.int .i64), (.int .i64)]) [] (.build [(V.int .i64 (Int.ofNat 0)), (V.int .i64 (Int.ofNat 0))] []) <|
 .op none (.agg [(.int .i64), (.int .i64)]) [2, 29] (.store 2 (.tmp 2) (.tmp 29)) <|
 .nil))
 .ret)
def C149_2 : XC := (.cond (.tmp 22) (.seq (.ops (.op (some 25) (.agg [(.int .i64), (.int .i64)]) [] (.build [(V.int .i64 (Int.ofNat 0)), (V.int .i64 (Int.ofNat 0))] [(1, 1, (.con (V.int .i64 (Int.ofNat 16))))]) <|
 .op none (.agg [(.int .i64), (.int .i64)]) [2, 25] (.store 2 (.tmp 2) (.tmp 25)) <|
 .nil))
 .ret)
 (.seq (.ops (.op (some 27) .any [3] (.bin .eql .none (.tmp 3) (.con (V.int .i64 (Int.ofNat 8)))) <|
 .op (some 26) .any [27] (.mov (.tmp 27)) <|
 .nil))
 (.cond (.tmp 26) (.seq (.ops (.op (some 28) (.agg [(.int .i64), (.int .i64)]) [] (.build [(V.int .i64 (Int.ofNat 0)), (V.int .i64 (Int.ofNat 0))] [(1, 1, (.con (V.int .i64 (Int.ofNat 17))))]) <|
 .op none (.agg [(.int .i64), (.int .i64)]) [2, 28] (.store 2 (.tmp 2) (.tmp 28)) <|
 .nil))
 .ret)
 .skip)))
def A149 : XFn := ⟨30, [(.int .i64)], [(.cell 2 (some 2))], (C149_0 C149_1 C149_2)⟩
def C150_0 : XC := (.seq (.ops (.op (some 2) .any [0] (.box 107 (.tmp 0)) <|
 .op (some 4) .any [] (.mov (.con (V.int .i64 (Int.ofNat 0)))) <|
 .nil))
 (.seq (.seq (.ops (.op (some 5) .any [2] (.faddr 0 (.tmp 2)) <|
 .op (some 6) .bool [5] (.load none (.tmp 5)) <|
 .op (some 7) .any [6] (.un .not (.tmp 6)) <|
 .nil))
 (.cond (.tmp 7) (.seq (.ops (.op (some 4) .any [] (.mov (.con (V.int .i64 (Int.ofNat 0)))) <|
 .nil))
 .ret)
 .skip))
 (.seq (.seq (.ops (.op (some 8) .any [2] (.faddr 1 (.tmp 2)) <|
 .op (some 9) .bool [8] (.load none (.tmp 8)) <|
 .op (some 10) .any [9] (.mov (.tmp 9)) <|
 .grp 10 true (.op (some 11) .any [2, 10] (.faddr 2 (.tmp 2)) <|
 .op (some 12) .bool [11, 10] (.load none (.tmp 11)) <|
 .nil) 13 [10, 12] (.tmp 10) (.tmp 12) (.con (V.bool false)) <|
 .op (some 14) .any [13] (.mov (.tmp 13)) <|
 .grp 14 true (.op (some 15) .any [2, 14] (.faddr 4 (.tmp 2)) <|
 .op (some 16) (.int .i64) [15, 14] (.load none (.tmp 15)) <|
 .op (some 17) .any [2, 14] (.faddr 5 (.tmp 2)) <|
 .op (some 18) (.int .i64) [17, 14] (.load none (.tmp 17)) <|
 .op (some 19) .any [16, 18, 14] (.bin .gtr .none (.tmp 16) (.tmp 18)) <|
 .nil) 20 [14, 19] (.tmp 14) (.tmp 19) (.con (V.bool false)) <|
 .nil))
 (.cond (.tmp 20) (.seq (.ops (.op (some 4) .any [] (.mov (.con (V.int .i64 (Int.ofNat 11)))) <|
 .nil))
 .ret)
 .skip))
 (.seq (.seq (.ops (.op (some 21) .any [1] (.mov (.tmp 1)) <|
 .op (some 22) .any [21] (.mov (.tmp 21)) <|
 .grp 22 true (.op (some 23) .any [2, 22] (.faddr 1 (.tmp 2)) <|
 .op (some 24) .bool [23, 22] (.load none (.tmp 23)) <|
 .op (some 25) .any [24, 22] (.un .not (.tmp 24)) <|
 .op (some 26) .any [25, 22] (.mov (.tmp 25)) <|
 .grp 26 false (.op (some 27) .any [2, 26] (.faddr 4 (.tmp 2)) <|
 .op (some 28) (.int .i64) [27, 26] (.load none (.tmp 27)) <|
 .op (some 29) .any [28, 26] (.bin .lss .none (.tmp 28) (.con (V.int .i64 (Int.ofNat 0)))) <|
 .nil) 30 [26, 29, 22] (.tmp 26) (.con (V.bool true)) (.tmp 29) <|
 .op (some 31) .any [30, 22] (.mov (.tmp 30)) <|
 .grp 31 false (.op (some 32) .any [2, 31] (.faddr 4 (.tmp 2)) <|
 .op (some 33) (.int .i64) [32, 31] (.load none (.tmp 32)) <|
 .op (some 34) .any [33, 31] (.bin .gtr .none (.tmp 33) (.con (V.int .i64 (Int.ofNat 70000)))) <|
 .nil) 35 [31, 34, 22] (.tmp 31) (.con (V.bool true)) (.tmp 34) <|
 .op (some 36) .any [35, 22] (.mov (.tmp 35)) <|
 .grp 36 false (.op (some 37) .any [2, 36] (.faddr 2 (.tmp 2)) <|
 .op (some 38) .bool [37, 36] (.load none (.tmp 37)) <|
 .op (some 39) .any [38, 36] (.mov (.tmp 38)) <|
 .grp 39 true (.op (some 40) .any [2, 39] (.faddr 5 (.tmp 2)) <|
 .op (some 41) (.int .i64) [40, 39] (.load none (.tmp 40)) <|
 .op (some 42) .any [41, 39] (.bin .lss .none (.tmp 41) (.con (V.int .i64 (Int.ofNat 0)))) <|
 .op (some 43) .any [42, 39] (.mov (.tmp 42)) <|
 .grp 43 false (.op (some 44) .any [2, 43] (.faddr 5 (.tmp 2)) <|
 .op (some 45) (.int .i64) [44, 43] (.load none (.tmp 44)) <|
 .op (some 46) .any [45, 43] (.bin .gtr .none (.tmp 45) (.con (V.int .i64 (Int.ofNat 70000)))) <|
 .nil) 47 [43, 46, 39] (.tmp 43) (.con (V.bool true)) (.tmp 46) <|
 .nil) 48 [39, 47, 36] (.tmp 39) (.tmp 47) (.con (V.bool false)) <|
 .nil) 49 [36, 48, 22] (.tmp 36) (.con (V.bool true)) (.tmp 48) <|
 .nil) 50 [22, 49] (.tmp 22) (.tmp 49) (.con (V.bool false)) <|
 .nil))
 (.cond (.tmp 50) (.seq (.ops (.op (some 4) .any [] (.mov (.con (V.int .i64 (Int.ofNat 11)))) <|
 .nil))
 .ret)
 .skip))
 (.seq (.ops (.op (some 4) .any [] (.mov (.con (V.int .i64 (Int.ofNat 0)))) <|
 .nil))
 .ret)))))
def A150 : XFn := ⟨51, [(.agg [.bool, .bool, .bool, .bool, (.int .i64), (.int .i64)]), .bool], [(.tmp 4)], C150_0⟩
def G152_0 : List AOper := [⟨(some 130), .mov (.tmp 0), none⟩, ⟨(some 131), .faddr 1 (.tmp 13), none⟩, ⟨(some 132), .load none (.tmp 131), none⟩, ⟨(some 133), .mov (.tmp 12), none⟩, ⟨(some 134), .mov (.tmp 0), none⟩, ⟨(some 135), .faddr 1 (.tmp 13), none⟩, ⟨(some 136), .load none (.tmp 135), none⟩, ⟨(some 137), .call 76 [(.tmp 134), (.tmp 136)], none⟩, ⟨(some 138), .call 77 [(.tmp 130), (.tmp 132), (.tmp 133), (.tmp 137)], none⟩]
def H152_0 : List DP := [⟨0, [0]⟩, ⟨0, [13]⟩, ⟨2, [131]⟩, ⟨0, [12]⟩, ⟨0, [0]⟩, ⟨0, [13]⟩, ⟨32, [135]⟩, ⟨112, [134, 136]⟩, ⟨255, [130, 132, 133, 137]⟩]
def C152_0 (cc1 : XC) (cc2 : XC) : XC := (.seq (.ops (.op (some 6) .any [2] (.box 152 (.tmp 2)) <|
 .nil))
 (.seq (.ops (.op (some 15) .any [0] (.mov (.tmp 0)) <|
 .op (some 16) .any [15] (.nilck (.tmp 15)) <|
 .op (some 17) .any [16] (.faddr 0 (.tmp 16)) <|
 .op (some 18) .any [17] (.faddr 1 (.tmp 17)) <|
 .op (some 19) (.int .i64) [18] (.load none (.tmp 18)) <|
 .op (some 20) .any [19] (.bin .neq .none (.tmp 19) (.con (V.int .i64 (Int.ofNat 2)))) <|
 .op (some 8) .any [20] (.mov (.tmp 20)) <|
 .nil))
 (.seq (.seq (.ops (.op (some 9) .any [] (.mov (.con (V.int .i64 (Int.ofNat 0)))) <|
 .nil))
 (.block 0 (.loop [(0, .ptr), (1, (.int .i64)), (3, (.int .i64)), (6, .ptr), (8, .bool), (9, (.int .i64))] [] [] cc2)))
 (.keep [(0, .ptr), (1, (.int .i64)), (3, (.int .i64)), (6, .ptr), (8, .bool)] [] [] cc1))))
def C152_1 (cc3 : XC) : XC := (.seq (.seq (.ops (.op (some 47) .any [6] (.faddr 0 (.tmp 6)) <|
 .op (some 48) (.int .i64) [47] (.load none (.tmp 47)) <|
 .op (some 49) .any [48] (.bin .eql .none (.tmp 48) (.con (V.int .i64 (Int.ofNat 9)))) <|
 .op (some 50) .any [49] (.mov (.tmp 49)) <|
 .grp 50 true (.op (some 51) .any [6, 50] (.faddr 12 (.tmp 6)) <|
 .op (some 52) .any [51, 50] (.load none (.tmp 51)) <|
 .op (some 53) .any [52, 50] (.len false (.tmp 52)) <|
 .op (some 54) .any [53, 50] (.bin .eql .none (.tmp 53) (.con (V.int .i64 (Int.ofNat 0)))) <|
 .nil) 55 [50, 54] (.tmp 50) (.tmp 54) (.con (V.bool false)) <|
 .op (some 56) .any [55] (.mov (.tmp 55)) <|
 .grp 56 true (.op (some 57) .any [6, 56] (.faddr 14 (.tmp 6)) <|
 .op (some 58) .bool [57, 56] (.load none (.tmp 57)) <|
 .op (some 59) .any [58, 56] (.un .not (.tmp 58)) <|
 .nil) 60 [56, 59] (.tmp 56) (.tmp 59) (.con (V.bool false)) <|
 .nil))
 (.cond (.tmp 60) (.ops (.op (some 61) .any [0] (.mov (.tmp 0)) <|
 .op (some 62) (.tup []) [61] (.call 148 [(.tmp 61), (.con (V.int .i64 (Int.ofNat 11)))]) <|
 .nil))
 .skip))
 (.keep [(0, .ptr), (1, (.int .i64)), (3, (.int .i64)), (6, .ptr), (8, .bool)] [] [] cc3))
def C152_2 : XC := (.seq (.seq (.ops (.op (some 21) .any [9] (.mov (.tmp 9)) <|
 .op (some 22) .any [6] (.faddr 12 (.tmp 6)) <|
 .op (some 23) .any [22] (.load none (.tmp 22)) <|
 .op (some 24) .any [23] (.len false (.tmp 23)) <|
 .op (some 25) .any [21, 24] (.bin .lss .none (.tmp 21) (.tmp 24)) <|
 .nil))
 (.cond (.tmp 25) .skip
 (.exit 0)))
 (.seq (.block 1 (.seq (.ops (.op (some 28) .any [6] (.faddr 12 (.tmp 6)) <|
 .op (some 29) .any [28] (.load none (.tmp 28)) <|
 .op (some 30) .any [9] (.mov (.tmp 9)) <|
 .op (some 31) .any [29, 30] (.iaddrS 11 (.tmp 29) (.tmp 30)) <|
 .op (some 32) (.agg [.str, (.int .i64), .bool, .bool, (.int .i64), (.int .i64), .any, .any, (.int .i64), .any, (.int .i64)]) [31] (.load (some 11) (.tmp 31)) <|
 .pal 10 [] 191 [(V.str ⟨0, 0⟩), (V.int .i64 (Int.ofNat 0)), (V.bool false), (V.bool false), (V.int .i64 (Int.ofNat 0)), (V.int .i64 (Int.ofNat 0)), V.nils, V.nils, (V.int .i64 (Int.ofNat 0)), V.nils, (V.int .i64 (Int.ofNat 0))] <|
 .op none (.agg [.str, (.int .i64), .bool, .bool, (.int .i64), (.int .i64), .any, .any, (.int .i64), .any, (.int .i64)]) [10, 32] (.store 11 (.tmp 10) (.tmp 32)) <|
 .nil))
 (.draw (.op (some 33) .any [8] (.mov (.tmp 8)) <|
 .op (some 34) .any [33] (.mov (.tmp 33)) <|
 .grp 34 false (.op (some 35) .any [0, 34] (.mov (.tmp 0)) <|
 .op (some 36) .any [35, 34] (.nilck (.tmp 35)) <|
 .op (some 37) .any [36, 34] (.faddr 0 (.tmp 36)) <|
 .op (some 38) .any [37, 34] (.faddr 4 (.tmp 37)) <|
 .op (some 39) .any [38, 34] (.load none (.tmp 38)) <|
 .op (some 40) .any [10, 34] (.faddr 1 (.tmp 10)) <|
 .op (some 41) (.int .i64) [40, 34] (.load none (.tmp 40)) <|
 .op (some 42) .any [39, 41, 34] (.iaddrS 16 (.tmp 39) (.tmp 41)) <|
 .op (some 43) .any [42, 34] (.faddr 2 (.tmp 42)) <|
 .op (some 44) .any [43, 34] (.faddr 0 (.tmp 43)) <|
 .op (some 45) .bool [44, 34] (.load none (.tmp 44)) <|
 .nil) 46 [34, 45] (.tmp 34) (.con (V.bool true)) (.tmp 45) <|
 .op (some 8) .any [46] (.mov (.tmp 46)) <|
 .nil) [0, 1, 3, 7, 15, 31, 63, 3, 131, 511, 1023, 2047, 4095, 8191, 16383])))
 (.ops (.op (some 26) .any [9] (.mov (.tmp 9)) <|
 .op (some 27) .any [26] (.bin .add .none (.tmp 26) (.con (V.int .i64 (Int.ofNat 1)))) <|
 .op (some 9) .any [27] (.mov (.tmp 27)) <|
 .nil))))
def C152_3 (cc4 : XC) (cc5 : XC) : XC := (.seq (.ops (.op (some 11) .any [] (.mov (.con V.nils)) <|
 .nil))
 (.seq (.seq (.ops (.op (some 12) .any [] (.mov (.con (V.int .i64 (Int.ofNat 0)))) <|
 .nil))
 (.block 2 (.loop [(0, .ptr), (1, (.int .i64)), (3, (.int .i64)), (6, .ptr), (8, .bool), (11, .any), (12, (.int .i64))] [] [] cc5)))
 (.keep [(0, .ptr), (1, (.int .i64)), (11, .any)] [] [] cc4)))
def C152_4 : XC := (.seq (.ops (.op (some 143) .any [0] (.mov (.tmp 0)) <|
 .op (some 144) .any [143] (.nilck (.tmp 143)) <|
 .op (some 145) .any [144] (.faddr 6 (.tmp 144)) <|
 .op (some 146) (.int .i64) [145] (.load none (.tmp 145)) <|
 .op (some 147) .any [146] (.bin .eql .none (.tmp 146) (.con (V.int .i64 (Int.ofNat 0)))) <|
 .nil))
 (.cond (.tmp 147) (.seq (.ops (.op (some 148) .any [0] (.mov (.tmp 0)) <|
 .op (some 149) .any [148] (.nilck (.tmp 148)) <|
 .op (some 150) .any [149] (.faddr 5 (.tmp 149)) <|
 .op (some 151) .any [150] (.load none (.tmp 150)) <|
 .op (some 152) .any [1] (.mov (.tmp 1)) <|
 .op (some 153) .any [11] (.mov (.tmp 11)) <|
 .op (some 154) .any [151, 152] (.iaddrS 13 (.tmp 151) (.tmp 152)) <|
 .op (some 155) .any [154] (.faddr 9 (.tmp 154)) <|
 .op none .any [155, 153] (.store 1 (.tmp 155) (.tmp 153)) <|
 .nil))
 (.seq (.ops (.op (some 156) .any [0] (.mov (.tmp 0)) <|
 .op (some 157) .any [0] (.mov (.tmp 0)) <|
 .op (some 158) .any [157] (.nilck (.tmp 157)) <|
 .op (some 159) .any [158] (.faddr 5 (.tmp 158)) <|
 .op (some 160) .any [159] (.load none (.tmp 159)) <|
 .op (some 161) .any [1] (.mov (.tmp 1)) <|
 .op (some 162) .any [160, 161] (.iaddrS 13 (.tmp 160) (.tmp 161)) <|
 .op (some 163) (.agg [(.int .i64), .any, .bool, .bool, .bool, .bool, (.int .i64), (.int .i64), .any, .any, (.int .i64), .bool, (.int .i64)]) [162] (.load (some 13) (.tmp 162)) <|
 .op (some 164) .bool [156, 163] (.call 215 [(.tmp 156), (.tmp 163)]) <|
 .op (some 165) .any [164] (.un .not (.tmp 164)) <|
 .nil))
 (.cond (.tmp 165) (.ops (.op (some 166) .any [0] (.mov (.tmp 0)) <|
 .op (some 167) (.tup []) [166] (.call 148 [(.tmp 166), (.con (V.int .i64 (Int.ofNat 12)))]) <|
 .nil))
 .skip)))
 .skip))
def C152_5 (cc6 : XC) (cc7 : XC) (cc8 : XC) : XC := (.seq (.seq (.ops (.op (some 63) .any [12] (.mov (.tmp 12)) <|
 .op (some 64) .any [6] (.faddr 12 (.tmp 6)) <|
 .op (some 65) .any [64] (.load none (.tmp 64)) <|
 .op (some 66) .any [65] (.len false (.tmp 65)) <|
 .op (some 67) .any [63, 66] (.bin .lss .none (.tmp 63) (.tmp 66)) <|
 .op (some 68) .any [67] (.mov (.tmp 67)) <|
 .grp 68 true (.op (some 69) .any [0, 68] (.mov (.tmp 0)) <|
 .op (some 70) .any [69, 68] (.nilck (.tmp 69)) <|
 .op (some 71) .any [70, 68] (.faddr 6 (.tmp 70)) <|
 .op (some 72) (.int .i64) [71, 68] (.load none (.tmp 71)) <|
 .op (some 73) .any [72, 68] (.bin .eql .none (.tmp 72) (.con (V.int .i64 (Int.ofNat 0)))) <|
 .nil) 74 [68, 73] (.tmp 68) (.tmp 73) (.con (V.bool false)) <|
 .nil))
 (.cond (.tmp 74) .skip
 (.exit 2)))
 (.seq (.block 3 (.seq (.ops (.op (some 77) .any [6] (.faddr 12 (.tmp 6)) <|
 .op (some 78) .any [77] (.load none (.tmp 77)) <|
 .op (some 79) .any [12] (.mov (.tmp 12)) <|
 .op (some 80) .any [78, 79] (.iaddrS 11 (.tmp 78) (.tmp 79)) <|
 .op (some 81) (.agg [.str, (.int .i64), .bool, .bool, (.int .i64), (.int .i64), .any, .any, (.int .i64), .any, (.int .i64)]) [80] (.load (some 11) (.tmp 80)) <|
 .op (some 13) .any [] (.alloc 191 [(V.str ⟨0, 0⟩), (V.int .i64 (Int.ofNat 0)), (V.bool false), (V.bool false), (V.int .i64 (Int.ofNat 0)), (V.int .i64 (Int.ofNat 0)), V.nils, V.nils, (V.int .i64 (Int.ofNat 0)), V.nils, (V.int .i64 (Int.ofNat 0))]) <|
 .op none (.agg [.str, (.int .i64), .bool, .bool, (.int .i64), (.int .i64), .any, .any, (.int .i64), .any, (.int .i64)]) [13, 81] (.store 11 (.tmp 13) (.tmp 81)) <|
 .nil))
 (.seq (.seq (.ops (.op (some 14) .any [] (.mov (.con (V.int .i64 (Int.ofNat 0)))) <|
 .nil))
 (.block 4 (.loop [(0, .ptr), (1, (.int .i64)), (3, (.int .i64)), (6, .ptr), (8, .bool), (11, .any), (12, (.int .i64)), (13, .ptr), (14, (.int .i64))] [] [] cc8)))
 (.keep [(0, .ptr), (1, (.int .i64)), (3, (.int .i64)), (6, .ptr), (8, .bool), (11, .any), (12, (.int .i64)), (13, .ptr)] [] [] cc7))))
 (.keep [(0, .ptr), (1, (.int .i64)), (3, (.int .i64)), (6, .ptr), (8, .bool), (11, .any), (12, (.int .i64))] [] [] cc6)))
def C152_6 : XC := (.ops (.op (some 75) .any [12] (.mov (.tmp 12)) <|
 .op (some 76) .any [75] (.bin .add .none (.tmp 75) (.con (V.int .i64 (Int.ofNat 1)))) <|
 .op (some 12) .any [76] (.mov (.tmp 76)) <|
 .nil))
def C152_7 (cc10 : XC) : XC := (.seq (.ops (.op (some 98) .any [0] (.mov (.tmp 0)) <|
 .op (some 99) .any [13] (.faddr 1 (.tmp 13)) <|
 .op (some 100) (.int .i64) [99] (.load none (.tmp 99)) <|
 .op (some 101) .any [3] (.mov (.tmp 3)) <|
 .op (some 102) .any [101] (.bin .add .none (.tmp 101) (.con (V.int .i64 (Int.ofNat 1)))) <|
 .op (some 103) (.int .i64) [98, 100, 102] (.call 36 [(.tmp 98), (.tmp 100), (.tmp 102)]) <|
 .op (some 104) .any [13] (.faddr 1 (.tmp 13)) <|
 .op none .any [104, 103] (.store 1 (.tmp 104) (.tmp 103)) <|
 .nil))
 (.seq (.seq (.ops (.op (some 105) .any [0] (.mov (.tmp 0)) <|
 .op (some 106) .any [105] (.nilck (.tmp 105)) <|
 .op (some 107) .any [106] (.faddr 6 (.tmp 106)) <|
 .op (some 108) (.int .i64) [107] (.load none (.tmp 107)) <|
 .op (some 109) .any [108] (.bin .eql .none (.tmp 108) (.con (V.int .i64 (Int.ofNat 0)))) <|
 .op (some 110) .any [109] (.mov (.tmp 109)) <|
 .grp 110 true (.op (some 111) .any [13, 110] (.faddr 3 (.tmp 13)) <|
 .op (some 112) .bool [111, 110] (.load none (.tmp 111)) <|
 .nil) 113 [110, 112] (.tmp 110) (.tmp 112) (.con (V.bool false)) <|
 .nil))
 (.cond (.tmp 113) (.ops (.op (some 114) .any [0] (.mov (.tmp 0)) <|
 .op (some 115) .any [13] (.faddr 1 (.tmp 13)) <|
 .op (some 116) (.int .i64) [115] (.load none (.tmp 115)) <|
 .op (some 117) .any [13] (.faddr 4 (.tmp 13)) <|
 .op (some 118) (.agg [(.int .i64), (.int .i64), .any, .any, (.int .i64), .any]) [117] (.load (some 6) (.tmp 117)) <|
 .op (some 119) (.agg [(.int .i64), (.int .i64), .any, .any, (.int .i64), .any]) [114, 116, 118] (.call 214 [(.tmp 114), (.tmp 116), (.tmp 118)]) <|
 .op (some 120) .any [13] (.faddr 4 (.tmp 13)) <|
 .op none (.agg [(.int .i64), (.int .i64), .any, .any, (.int .i64), .any]) [120, 119] (.store 6 (.tmp 120) (.tmp 119)) <|
 .nil))
 .skip))
 (.keep [(0, .ptr), (1, (.int .i64)), (3, (.int .i64)), (6, .ptr), (8, .bool), (11, .any), (12, (.int .i64)), (13, .ptr)] [] [] cc10)))
def C152_8 (cc9 : XC) : XC := (.seq (.seq (.ops (.op (some 82) .any [14] (.mov (.tmp 14)) <|
 .op (some 83) .any [12] (.mov (.tmp 12)) <|
 .op (some 84) .any [82, 83] (.bin .lss .none (.tmp 82) (.tmp 83)) <|
 .nil))
 (.cond (.tmp 84) .skip
 (.exit 4)))
 (.seq (.block 5 (.seq (.draw (.op (some 87) .any [6] (.faddr 12 (.tmp 6)) <|
 .op (some 88) .any [87] (.load none (.tmp 87)) <|
 .op (some 89) .any [14] (.mov (.tmp 14)) <|
 .op (some 90) .any [88, 89] (.iaddrS 11 (.tmp 88) (.tmp 89)) <|
 .op (some 91) .any [90] (.faddr 0 (.tmp 90)) <|
 .op (some 92) .str [91] (.load none (.tmp 91)) <|
 .op (some 93) .any [13] (.faddr 0 (.tmp 13)) <|
 .op (some 94) .str [93] (.load none (.tmp 93)) <|
 .op (some 95) .any [92, 94] (.bin .eql .none (.tmp 92) (.tmp 94)) <|
 .nil) [0, 1, 0, 7, 15, 31, 0, 64, 255])
 (.cond (.tmp 95) (.ops (.op (some 96) .any [0] (.mov (.tmp 0)) <|
 .op (some 97) (.tup []) [96] (.call 148 [(.tmp 96), (.con (V.int .i64 (Int.ofNat 8)))]) <|
 .nil))
 .skip)))
 (.keep [(0, .ptr), (1, (.int .i64)), (3, (.int .i64)), (6, .ptr), (8, .bool), (11, .any), (12, (.int .i64)), (13, .ptr), (14, (.int .i64))] [] [] cc9)))
def C152_9 : XC := (.ops (.op (some 85) .any [14] (.mov (.tmp 14)) <|
 .op (some 86) .any [85] (.bin .add .none (.tmp 85) (.con (V.int .i64 (Int.ofNat 1)))) <|
 .op (some 14) .any [86] (.mov (.tmp 86)) <|
 .nil))
def C152_10 (cc11 : XC) : XC := (.seq (.seq (.ops (.op (some 121) .any [0] (.mov (.tmp 0)) <|
 .op (some 122) .any [121] (.nilck (.tmp 121)) <|
 .op (some 123) .any [122] (.faddr 6 (.tmp 122)) <|
 .op (some 124) (.int .i64) [123] (.load none (.tmp 123)) <|
 .op (some 125) .any [124] (.bin .eql .none (.tmp 124) (.con (V.int .i64 (Int.ofNat 0)))) <|
 .op (some 126) .any [125] (.mov (.tmp 125)) <|
 .grp 126 true (.op (some 127) .any [8, 126] (.mov (.tmp 8)) <|
 .op (some 128) .any [127, 126] (.un .not (.tmp 127)) <|
 .nil) 129 [126, 128] (.tmp 126) (.tmp 128) (.con (V.bool false)) <|
 .nil))
 (.cond (.tmp 129) (.keep [(0, .ptr), (1, (.int .i64)), (3, (.int .i64)), (6, .ptr), (8, .bool), (11, .any), (12, (.int .i64)), (13, .ptr)] [] [] (.gdraw G152_0 H152_0 [(0, .ptr), (1, (.int .i64)), (3, (.int .i64)), (6, .ptr), (8, .bool), (11, .any), (12, (.int .i64)), (13, .ptr)]))
 .skip))
 (.keep [(0, .ptr), (1, (.int .i64)), (3, (.int .i64)), (6, .ptr), (8, .bool), (11, .any), (12, (.int .i64)), (13, .ptr)] [] [] cc11))
def C152_11 : XC := (.ops (.op (some 139) .any [11] (.mov (.tmp 11)) <|
 .op (some 140) (.agg [.str, (.int .i64), .bool, .bool, (.int .i64), (.int .i64), .any, .any, (.int .i64), .any, (.int .i64)]) [13] (.load (some 11) (.tmp 13)) <|
 .op (some 141) .any [140] (.buildSlice 191 1 [(V.str ⟨0, 0⟩), (V.int .i64 (Int.ofNat 0)), (V.bool false), (V.bool false), (V.int .i64 (Int.ofNat 0)), (V.int .i64 (Int.ofNat 0)), V.nils, V.nils, (V.int .i64 (Int.ofNat 0)), V.nils, (V.int .i64 (Int.ofNat 0))] [(0, 11, (.tmp 140))]) <|
 .op (some 142) .one [139, 141] (.append 191 11 136 (.tmp 139) (.tmp 141)) <|
 .op (some 11) .any [142] (.mov (.tmp 142)) <|
 .nil))
def A152 : XFn := ⟨168, [.ptr, (.int .i64), (.agg [(.int .i64), .str, .bool, (.int .i64), (.int .i64), .bool, .bool, .bool, .bool, (.int .i64), (.int .i64), .any, .any, (.int .i64), .bool, (.int .i64)]), (.int .i64)], [], (C152_0 (C152_1 (C152_3 C152_4 (C152_5 C152_6 (C152_7 (C152_10 C152_11)) (C152_8 C152_9)))) C152_2)⟩
def C153_0 : XC := (.seq (.ops (.op (some 6) .any [] (.mov (.con V.nils)) <|
 .op (some 7) .any [] (.mov (.con (V.int .i64 (Int.ofNat 0)))) <|
 .nil))
 (.seq (.seq (.ops (.op (some 9) .any [1] (.mov (.tmp 1)) <|
 .op (some 10) .any [9] (.bin .lss .none (.tmp 9) (.con (V.int .i64 (Int.ofNat 0)))) <|
 .op (some 11) .any [10] (.mov (.tmp 10)) <|
 .grp 11 false (.op (some 12) .any [1, 11] (.mov (.tmp 1)) <|
 .op (some 13) .any [12, 11] (.bin .gtr .none (.tmp 12) (.con (V.int .i64 (Int.ofNat 268435456)))) <|
 .nil) 14 [11, 13] (.tmp 11) (.con (V.bool true)) (.tmp 13) <|
 .op (some 15) .any [14] (.mov (.tmp 14)) <|
 .grp 15 false (.op (some 16) .any [2, 15] (.mov (.tmp 2)) <|
 .op (some 17) .any [16, 15] (.bin .eql .none (.tmp 16) (.con (V.int .i64 (Int.ofNat 1)))) <|
 .op (some 18) .any [17, 15] (.mov (.tmp 17)) <|
 .grp 18 true (.op (some 19) .any [0, 18] (.mov (.tmp 0)) <|
 .op (some 20) .any [19, 18] (.len false (.tmp 19)) <|
 .op (some 21) .any [20, 18] (.bin .eql .none (.tmp 20) (.con (V.int .i64 (Int.ofNat 0)))) <|
 .nil) 22 [18, 21, 15] (.tmp 18) (.tmp 21) (.con (V.bool false)) <|
 .nil) 23 [15, 22] (.tmp 15) (.con (V.bool true)) (.tmp 22) <|
 .nil))
 (.cond (.tmp 23) (.seq (.ops (.op (some 6) .any [] (.mov (.con V.nils)) <|
 .op (some 7) .any [] (.mov (.con (V.int .i64 (Int.ofNat 12)))) <|
 .nil))
 .ret)
 .skip))
 (.seq (.ops (.op (some 24) .any [1] (.mov (.tmp 1)) <|
 .op (some 25) (.agg [(.int .i64), (.int .i64)]) [24] (.build [(V.int .i64 (Int.ofNat 0)), (V.int .i64 (Int.ofNat 0))] [(0, 1, (.con (V.int .i64 (Int.ofNat 2)))), (1, 1, (.tmp 24))]) <|
 .op (some 26) .any [25] (.buildSlice 214 1 [(V.int .i64 (Int.ofNat 0)), (V.int .i64 (Int.ofNat 0))] [(0, 2, (.tmp 25))]) <|
 .op (some 8) .any [26] (.mov (.tmp 26)) <|
 .nil))
 (.seq (.seq (.ops (.op (some 27) .any [2] (.mov (.tmp 2)) <|
 .op (some 28) .any [27] (.bin .eql .none (.tmp 27) (.con (V.int .i64 (Int.ofNat 1)))) <|
 .nil))
 (.cond (.tmp 28) (.seq (.ops (.op (some 29) .any [8] (.mov (.tmp 8)) <|
 .op (some 30) .any [0] (.mov (.tmp 0)) <|
 .op (some 31) .any [30] (.sliceSl 2 (.tmp 30) (some (.con (V.int .i64 (Int.ofNat 1)))) none none) <|
 .op (some 32) .one [29, 31] (.append 214 2 16 (.tmp 29) (.tmp 31)) <|
 .op (some 6) .any [32] (.mov (.tmp 32)) <|
 .op (some 7) .any [] (.mov (.con (V.int .i64 (Int.ofNat 0)))) <|
 .nil))
 .ret)
 .skip))
 (.seq (.ops (.op (some 33) .any [8] (.mov (.tmp 8)) <|
 .op (some 34) .any [0] (.mov (.tmp 0)) <|
 .op (some 35) .one [33, 34] (.append 214 2 16 (.tmp 33) (.tmp 34)) <|
 .op (some 6) .any [35] (.mov (.tmp 35)) <|
 .op (some 7) .any [] (.mov (.con (V.int .i64 (Int.ofNat 0)))) <|
 .nil))
 .ret)))))
def A153 : XFn := ⟨36, [.any, (.int .i64), (.int .i64)], [(.tmp 6), (.tmp 7)], C153_0⟩
def C154_0 : XC := (.seq (.ops (.op (some 2) .any [] (.mov (.con (V.int .i64 (Int.ofNat 0)))) <|
 .nil))
 (.seq (.ops (.op (some 3) .any [0] (.mov (.tmp 0)) <|
 .op (some 4) .any [3] (.min (.tmp 3) [(.con (V.int .i64 (Int.ofNat 32)))]) <|
 .op (some 5) .any [4] (.max (.con (V.int .i64 (Int.ofNat 0))) [(.tmp 4)]) <|
 .op (some 2) .any [5] (.mov (.tmp 5)) <|
 .nil))
 .ret))
def A154 : XFn := ⟨6, [(.int .i64)], [(.tmp 2)], C154_0⟩
def C155_0 : XC := (.seq (.ops (.op (some 4) .any [] (.mov (.con (V.bool false))) <|
 .nil))
 (.seq (.seq (.ops (.op (some 5) .any [0] (.mov (.tmp 0)) <|
 .op (some 6) .any [5] (.bin .eql .ptr (.tmp 5) (.con V.nilp)) <|
 .op (some 7) .any [6] (.mov (.tmp 6)) <|
 .grp 7 false (.op (some 8) .any [0, 7] (.mov (.tmp 0)) <|
 .op (some 9) .any [8, 7] (.nilck (.tmp 8)) <|
 .op (some 10) .any [9, 7] (.faddr 2 (.tmp 9)) <|
 .op (some 11) (.int .i64) [10, 7] (.load none (.tmp 10)) <|
 .op (some 12) .any [11, 7] (.bin .neq .none (.tmp 11) (.con (V.int .i64 (Int.ofNat 0)))) <|
 .nil) 13 [7, 12] (.tmp 7) (.con (V.bool true)) (.tmp 12) <|
 .nil))
 (.cond (.tmp 13) (.seq (.ops (.op (some 4) .any [] (.mov (.con (V.bool false))) <|
 .nil))
 .ret)
 .skip))
 (.seq (.seq (.ops (.op (some 14) .any [1] (.mov (.tmp 1)) <|
 .op (some 15) .any [0] (.mov (.tmp 0)) <|
 .op (some 16) .any [15] (.nilck (.tmp 15)) <|
 .op (some 17) .any [16] (.faddr 0 (.tmp 16)) <|
 .op (some 18) (.int .i64) [17] (.call 108 [(.tmp 17)]) <|
 .op (some 19) .any [14, 18] (.bin .gtr .none (.tmp 14) (.tmp 18)) <|
 .nil))
 (.cond (.tmp 19) (.seq (.ops (.op (some 20) .any [0] (.mov (.tmp 0)) <|
 .op (some 21) .any [20] (.nilck (.tmp 20)) <|
 .op (some 22) .any [21] (.faddr 2 (.tmp 21)) <|
 .op none .any [22] (.store 1 (.tmp 22) (.con (V.int .i64 (Int.ofNat 3)))) <|
 .nil))
 (.seq (.ops (.op (some 4) .any [] (.mov (.con (V.bool false))) <|
 .nil))
 .ret))
 .skip))
 (.seq (.ops (.op (some 4) .any [] (.mov (.con (V.bool true))) <|
 .nil))
 .ret))))
def A155 : XFn := ⟨23, [.any, (.int .i64)], [(.tmp 4)], C155_0⟩
def C156_0 : XC := (.seq (.ops (.op (some 1) .any [0] (.box 222 (.tmp 0)) <|
 .op (some 2) .any [] (.mov (.con (V.bool false))) <|
 .nil))
 (.seq (.ops (.op (some 3) .any [1] (.faddr 0 (.tmp 1)) <|
 .op (some 4) .any [3] (.faddr 0 (.tmp 3)) <|
 .op (some 5) .bool [4] (.load none (.tmp 4)) <|
 .op (some 6) .any [5] (.mov (.tmp 5)) <|
 .grp 6 true (.op (some 7) .any [1, 6] (.faddr 0 (.tmp 1)) <|
 .op (some 8) .any [7, 6] (.faddr 1 (.tmp 7)) <|
 .op (some 9) .bool [8, 6] (.load none (.tmp 8)) <|
 .nil) 10 [6, 9] (.tmp 6) (.tmp 9) (.con (V.bool false)) <|
 .op (some 11) .any [10] (.mov (.tmp 10)) <|
 .grp 11 true (.op (some 12) .any [1, 11] (.faddr 0 (.tmp 1)) <|
 .op (some 13) .any [12, 11] (.faddr 2 (.tmp 12)) <|
 .op (some 14) .bool [13, 11] (.load none (.tmp 13)) <|
 .nil) 15 [11, 14] (.tmp 11) (.tmp 14) (.con (V.bool false)) <|
 .op (some 2) .any [15] (.mov (.tmp 15)) <|
 .nil))
 .ret))
def A156 : XFn := ⟨16, [(.agg [.bool, .bool, .bool, .bool, (.int .i64), (.int .i64)])], [(.tmp 2)], C156_0⟩
def C157_0 : XC := (.seq (.ops (.op (some 1) .any [0] (.box 222 (.tmp 0)) <|
 .op (some 2) .any [] (.mov (.con (V.bool false))) <|
 .nil))
 (.seq (.ops (.op (some 3) (.agg [.bool, .bool, .bool, .bool, (.int .i64), (.int .i64)]) [1] (.load (some 6) (.tmp 1)) <|
 .op (some 4) .bool [3] (.call 156 [(.tmp 3)]) <|
 .op (some 5) .any [4] (.mov (.tmp 4)) <|
 .grp 5 true (.op (some 6) .any [1, 5] (.faddr 0 (.tmp 1)) <|
 .op (some 7) .any [6, 5] (.faddr 4 (.tmp 6)) <|
 .op (some 8) (.int .i64) [7, 5] (.load none (.tmp 7)) <|
 .op (some 9) .any [1, 5] (.faddr 0 (.tmp 1)) <|
 .op (some 10) .any [9, 5] (.faddr 5 (.tmp 9)) <|
 .op (some 11) (.int .i64) [10, 5] (.load none (.tmp 10)) <|
 .op (some 12) .any [8, 11, 5] (.bin .gtr .none (.tmp 8) (.tmp 11)) <|
 .nil) 13 [5, 12] (.tmp 5) (.tmp 12) (.con (V.bool false)) <|
 .op (some 2) .any [13] (.mov (.tmp 13)) <|
 .nil))
 .ret))
def A157 : XFn := ⟨14, [(.agg [.bool, .bool, .bool, .bool, (.int .i64), (.int .i64)])], [(.tmp 2)], C157_0⟩
def C158_0 : XC := (.seq (.ops (.op (some 4) .any [] (.mov (.con (V.bool false))) <|
 .nil))
 (.seq (.seq (.ops (.op (some 7) .any [0] (.mov (.tmp 0)) <|
 .op (some 8) (.int .i64) [7] (.call 56 [(.tmp 7)]) <|
 .op (some 9) .any [8] (.bin .neq .none (.tmp 8) (.con (V.int .i64 (Int.ofNat 0)))) <|
 .nil))
 (.cond (.tmp 9) (.seq (.ops (.op (some 4) .any [] (.mov (.con (V.bool false))) <|
 .nil))
 .ret)
 .skip))
 (.seq (.ops (.op (some 10) .any [0] (.mov (.tmp 0)) <|
 .op (some 11) .any [10] (.nilck (.tmp 10)) <|
 .op (some 12) .any [11] (.faddr 0 (.tmp 11)) <|
 .op (some 13) .any [12] (.load none (.tmp 12)) <|
 .op (some 14) .any [13] (.nilck (.tmp 13)) <|
 .op (some 15) (.agg [.any, (.int .i64), (.int .i64)]) [14] (.load (some 3) (.tmp 14)) <|
 .pal 5 [] 172 [V.nils, (V.int .i64 (Int.ofNat 0)), (V.int .i64 (Int.ofNat 0))] <|
 .op none (.agg [.any, (.int .i64), (.int .i64)]) [5, 15] (.store 3 (.tmp 5) (.tmp 15)) <|
 .nil))
 (.seq (.ops (.op (some 16) .any [1] (.mov (.tmp 1)) <|
 .op (some 17) (.tup []) [16] (.callv (.tmp 16) []) <|
 .nil))
 (.seq (.seq (.ops (.op (some 18) .any [0] (.mov (.tmp 0)) <|
 .op (some 19) (.int .i64) [18] (.call 56 [(.tmp 18)]) <|
 .op (some 6) .any [19] (.mov (.tmp 19)) <|
 .nil))
 (.seq (.ops (.op (some 20) .any [6] (.mov (.tmp 6)) <|
 .op (some 21) .any [20] (.bin .neq .none (.tmp 20) (.con (V.int .i64 (Int.ofNat 0)))) <|
 .nil))
 (.cond (.tmp 21) (.seq (.draw (.op (some 22) .any [0] (.mov (.tmp 0)) <|
 .op (some 23) .any [22] (.nilck (.tmp 22)) <|
 .op (some 24) .any [23] (.faddr 0 (.tmp 23)) <|
 .op (some 25) .any [24] (.load none (.tmp 24)) <|
 .op (some 26) .any [0] (.mov (.tmp 0)) <|
 .op (some 27) (.agg [.any, (.int .i64), (.int .i64)]) [5] (.load (some 3) (.tmp 5)) <|
 .op (some 28) .any [6] (.mov (.tmp 6)) <|
 .op (some 29) .any [25] (.nilck (.tmp 25)) <|
 .op none (.agg [.any, (.int .i64), (.int .i64)]) [29, 27] (.store 3 (.tmp 29) (.tmp 27)) <|
 .op (some 30) .any [26] (.nilck (.tmp 26)) <|
 .op (some 31) .any [30] (.faddr 1 (.tmp 30)) <|
 .op none .any [31, 28] (.store 1 (.tmp 31) (.tmp 28)) <|
 .nil) [0, 1, 3, 7, 0, 0, 0, 47, 175, 511, 1023, 2047])
 (.seq (.ops (.op (some 4) .any [] (.mov (.con (V.bool false))) <|
 .nil))
 .ret))
 .skip)))
 (.seq (.ops (.op (some 4) .any [] (.mov (.con (V.bool true))) <|
 .nil))
 .ret))))))
def A158 : XFn := ⟨32, [.ptr, .any], [(.tmp 4)], C158_0⟩
def G159_0 : List AOper := [⟨(some 3), .load none (.tmp 0), none⟩, ⟨(some 4), .load none (.tmp 1), none⟩, ⟨(some 5), .call 160 [(.tmp 4)], none⟩, ⟨(some 6), .call 45 [(.tmp 3), (.tmp 5)], none⟩, ⟨none, .store 1 (.tmp 2) (.tmp 6), none⟩]
def H159_0 : List DP := [⟨0, [0]⟩, ⟨0, [1]⟩, ⟨2, [4]⟩, ⟨7, [3, 5]⟩, ⟨15, [2, 6]⟩]
def C159_0 : XC := (.seq (.keep [(0, .any), (1, .any), (2, .any)] [] [] (.gdraw G159_0 H159_0 [(0, .any), (1, .any), (2, .any)]))
 (.seq (.ops (.op (some 7) (.int .u64) [2] (.load none (.tmp 2)) <|
 .op (some 8) (.int .u64) [1] (.load none (.tmp 1)) <|
 .op (some 9) .any [7, 8] (.bin .gtr .none (.tmp 7) (.tmp 8)) <|
 .nil))
 (.cond (.tmp 9) (.ops (.op (some 10) .any [0] (.load none (.tmp 0)) <|
 .op (some 11) (.tup []) [10] (.call 81 [(.tmp 10), (.con (V.int .i64 (Int.ofNat 4)))]) <|
 .nil))
 .skip)))
def A159 : XFn := ⟨12, [.any, .any, .any], [], C159_0⟩
def C160_0 : XC := (.seq (.ops (.op (some 2) .any [] (.mov (.con (V.int .i64 (Int.ofNat 0)))) <|
 .nil))
 (.seq (.ops (.op (some 3) .any [0] (.mov (.tmp 0)) <|
 .op (some 4) (.int .i64) [3] (.call 216 [(.tmp 3)]) <|
 .op (some 2) .any [4] (.mov (.tmp 4)) <|
 .nil))
 .ret))
def A160 : XFn := ⟨5, [(.int .u64)], [(.tmp 2)], C160_0⟩
def C166_0 : XC := (.seq (.ops (.op (some 2) .any [0] (.box 26 (.tmp 0)) <|
 .pal 4 [] 111 [(V.int .i64 (Int.ofNat 0)), V.nils, (V.bool false), (V.bool false), (V.bool false), (V.bool false), (V.int .i64 (Int.ofNat 0)), (V.int .i64 (Int.ofNat 0)), V.nils, V.nils, (V.int .i64 (Int.ofNat 0)), (V.bool false), (V.int .i64 (Int.ofNat 0))] <|
 .nil))
 (.seq (.seq (.ops (.op (some 5) .any [1] (.mov (.tmp 1)) <|
 .op (some 6) .any [5] (.bin .lss .none (.tmp 5) (.con (V.int .i64 (Int.ofNat 0)))) <|
 .op (some 7) .any [6] (.mov (.tmp 6)) <|
 .grp 7 false (.op (some 8) .any [1, 7] (.mov (.tmp 1)) <|
 .op (some 9) .any [2, 7] (.faddr 3 (.tmp 2)) <|
 .op (some 10) .any [9, 7] (.load none (.tmp 9)) <|
 .op (some 11) .any [10, 7] (.len false (.tmp 10)) <|
 .op (some 12) .any [8, 11, 7] (.bin .geq .none (.tmp 8) (.tmp 11)) <|
 .nil) 13 [7, 12] (.tmp 7) (.con (V.bool true)) (.tmp 12) <|
 .nil))
 (.cond (.tmp 13) (.seq (.ops (.op (some 14) (.agg [(.int .i64), .any, .bool, .bool, .bool, .bool, (.int .i64), (.int .i64), .any, .any, (.int .i64), .bool, (.int .i64)]) [] (.build [(V.int .i64 (Int.ofNat 0)), V.nils, (V.bool false), (V.bool false), (V.bool false), (V.bool false), (V.int .i64 (Int.ofNat 0)), (V.int .i64 (Int.ofNat 0)), V.nils, V.nils, (V.int .i64 (Int.ofNat 0)), (V.bool false), (V.int .i64 (Int.ofNat 0))] []) <|
 .op none (.agg [(.int .i64), .any, .bool, .bool, .bool, .bool, (.int .i64), (.int .i64), .any, .any, (.int .i64), .bool, (.int .i64)]) [4, 14] (.store 13 (.tmp 4) (.tmp 14)) <|
 .nil))
 .ret)
 .skip))
 (.seq (.ops (.op (some 15) .any [2] (.faddr 3 (.tmp 2)) <|
 .op (some 16) .any [15] (.load none (.tmp 15)) <|
 .op (some 17) .any [1] (.mov (.tmp 1)) <|
 .op (some 18) .any [16, 17] (.iaddrS 13 (.tmp 16) (.tmp 17)) <|
 .op (some 19) (.agg [(.int .i64), .any, .bool, .bool, .bool, .bool, (.int .i64), (.int .i64), .any, .any, (.int .i64), .bool, (.int .i64)]) [18] (.load (some 13) (.tmp 18)) <|
 .op none (.agg [(.int .i64), .any, .bool, .bool, .bool, .bool, (.int .i64), (.int .i64), .any, .any, (.int .i64), .bool, (.int .i64)]) [4, 19] (.store 13 (.tmp 4) (.tmp 19)) <|
 .nil))
 .ret)))
def A166 : XFn := ⟨20, [(.agg [.str, .any, .any, .any]), (.int .i64)], [(.cell 4 (some 13))], C166_0⟩
def C170_0 (cc1 : XC) (cc2 : XC) : XC := (.seq (.ops (.op (some 4) .any [] (.mov (.con V.nils)) <|
 .nil))
 (.seq (.ops (.op (some 5) .any [] (.mov (.con V.nils)) <|
 .nil))
 (.seq (.seq (.ops (.op (some 7) .any [0] (.mov (.tmp 0)) <|
 .op (some 6) .any [7] (.mov (.tmp 7)) <|
 .nil))
 (.block 0 (.loop [(1, (.int .i64)), (5, .any), (6, (.int .i64))] [] [] cc2)))
 (.keep [(5, .any)] [] [] cc1))))
def C170_1 : XC := (.seq (.ops (.op (some 17) .any [5] (.mov (.tmp 5)) <|
 .op (some 4) .any [17] (.mov (.tmp 17)) <|
 .nil))
 .ret)
def C170_2 : XC := (.seq (.seq (.ops (.op (some 8) .any [6] (.mov (.tmp 6)) <|
 .op (some 9) .any [1] (.mov (.tmp 1)) <|
 .op (some 10) .any [8, 9] (.bin .lss .none (.tmp 8) (.tmp 9)) <|
 .nil))
 (.cond (.tmp 10) .skip
 (.exit 0)))
 (.seq (.block 1 (.ops (.op (some 13) .any [5] (.mov (.tmp 5)) <|
 .op (some 14) .any [6] (.mov (.tmp 6)) <|
 .op (some 15) .any [14] (.buildSlice 3 1 [(V.int .i64 (Int.ofNat 0))] [(0, 1, (.tmp 14))]) <|
 .op (some 16) .one [13, 15] (.append 3 1 8 (.tmp 13) (.tmp 15)) <|
 .op (some 5) .any [16] (.mov (.tmp 16)) <|
 .nil)))
 (.ops (.op (some 11) .any [6] (.mov (.tmp 6)) <|
 .op (some 12) .any [11] (.bin .add .none (.tmp 11) (.con (V.int .i64 (Int.ofNat 1)))) <|
 .op (some 6) .any [12] (.mov (.tmp 12)) <|
 .nil))))
def A170 : XFn := ⟨18, [(.int .i64), (.int .i64)], [(.tmp 4)], (C170_0 C170_1 C170_2)⟩
def C171_0 : XC := (.seq (.ops (.op (some 2) .any [0] (.box 64 (.tmp 0)) <|
 .op (some 3) .any [1] (.box 4 (.tmp 1)) <|
 .op (some 4) .any [] (.mov (.con (V.int .i64 (Int.ofNat 0)))) <|
 .op (some 5) .any [] (.mov (.con (V.bool false))) <|
 .nil))
 (.seq (.ops (.op (some 6) .any [] (.alloc 3 [(V.int .i64 (Int.ofNat 0))]) <|
 .op (some 7) .any [] (.alloc 4 [(V.bool false)]) <|
 .op none .any [6] (.store 1 (.tmp 6) (.con (V.int .i64 (Int.ofNat 0)))) <|
 .op none .any [7] (.store 1 (.tmp 7) (.con (V.bool false))) <|
 .nil))
 (.seq (.ops (.op (some 8) .any [2] (.load none (.tmp 2)) <|
 .op (some 9) .any [2, 6, 7, 3] (.mkfn 220 [] [(.tmp 2), (.tmp 6), (.tmp 7), (.tmp 3)]) <|
 .op (some 10) .bool [8, 9] (.call 158 [(.tmp 8), (.tmp 9)]) <|
 .nil))
 (.seq (.draw (.op (some 11) (.int .i64) [6] (.load none (.tmp 6)) <|
 .op (some 12) .bool [7] (.load none (.tmp 7)) <|
 .op (some 4) .any [11] (.mov (.tmp 11)) <|
 .op (some 5) .any [12] (.mov (.tmp 12)) <|
 .nil) [0, 0, 1, 7])
 .ret))))
def A171 : XFn := ⟨13, [.any, .bool], [(.tmp 4), (.tmp 5)], C171_0⟩
def C176_0 (cc1 : XC) (cc2 : XC) : XC := (.seq (.ops (.op (some 2) .any [0] (.box 26 (.tmp 0)) <|
 .op (some 4) .any [] (.mov (.con V.nils)) <|
 .nil))
 (.seq (.ops (.op (some 11) (.agg [.str, .any, .any, .any]) [2] (.load (some 4) (.tmp 2)) <|
 .op (some 12) .any [1] (.mov (.tmp 1)) <|
 .op (some 13) (.agg [(.int .i64), .any, .bool, .bool, .bool, .bool, (.int .i64), (.int .i64), .any, .any, (.int .i64), .bool, (.int .i64)]) [11, 12] (.call 166 [(.tmp 11), (.tmp 12)]) <|
 .pal 5 [] 111 [(V.int .i64 (Int.ofNat 0)), V.nils, (V.bool false), (V.bool false), (V.bool false), (V.bool false), (V.int .i64 (Int.ofNat 0)), (V.int .i64 (Int.ofNat 0)), V.nils, V.nils, (V.int .i64 (Int.ofNat 0)), (V.bool false), (V.int .i64 (Int.ofNat 0))] <|
 .op none (.agg [(.int .i64), .any, .bool, .bool, .bool, .bool, (.int .i64), (.int .i64), .any, .any, (.int .i64), .bool, (.int .i64)]) [5, 13] (.store 13 (.tmp 5) (.tmp 13)) <|
 .nil))
 (.seq (.seq (.ops (.op (some 14) .any [5] (.faddr 0 (.tmp 5)) <|
 .op (some 15) (.int .i64) [14] (.load none (.tmp 14)) <|
 .op (some 16) .any [15] (.bin .neq .none (.tmp 15) (.con (V.int .i64 (Int.ofNat 7)))) <|
 .op (some 17) .any [16] (.mov (.tmp 16)) <|
 .grp 17 true (.op (some 18) .any [5, 17] (.faddr 0 (.tmp 5)) <|
 .op (some 19) (.int .i64) [18, 17] (.load none (.tmp 18)) <|
 .op (some 20) .any [19, 17] (.bin .neq .none (.tmp 19) (.con (V.int .i64 (Int.ofNat 8)))) <|
 .nil) 21 [17, 20] (.tmp 17) (.tmp 20) (.con (V.bool false)) <|
 .op (some 22) .any [21] (.mov (.tmp 21)) <|
 .grp 22 true (.op (some 23) .any [5, 22] (.faddr 0 (.tmp 5)) <|
 .op (some 24) (.int .i64) [23, 22] (.load none (.tmp 23)) <|
 .op (some 25) .any [24, 22] (.bin .neq .none (.tmp 24) (.con (V.int .i64 (Int.ofNat 9)))) <|
 .nil) 26 [22, 25] (.tmp 22) (.tmp 25) (.con (V.bool false)) <|
 .nil))
 (.cond (.tmp 26) (.seq (.ops (.op (some 4) .any [] (.mov (.con V.nils)) <|
 .nil))
 .ret)
 .skip))
 (.seq (.ops (.op (some 6) .any [] (.mov (.con V.nils)) <|
 .nil))
 (.seq (.seq (.ops (.op (some 27) .any [5] (.faddr 10 (.tmp 5)) <|
 .op (some 28) (.int .i64) [27] (.load none (.tmp 27)) <|
 .op (some 29) .any [28] (.max (.tmp 28) [(.con (V.int .i64 (Int.ofNat 0)))]) <|
 .op (some 30) .any [5] (.faddr 9 (.tmp 5)) <|
 .op (some 31) .any [30] (.load none (.tmp 30)) <|
 .op (some 32) .any [31] (.len false (.tmp 31)) <|
 .op (some 33) .one [29, 32] (.call 170 [(.tmp 29), (.tmp 32)]) <|
 .op (some 34) .any [33] (.len false (.tmp 33)) <|
 .op (some 35) .any [] (.mov (.con (V.int .i64 (Int.ofNat 0)))) <|
 .nil))
 (.block 0 (.loop [(6, .any), (33, .any), (34, (.int .i64)), (35, (.int .i64))] [5] [(5, [(.int .i64), .any, .bool, .bool, .bool, .bool, (.int .i64), (.int .i64), .any, .any, (.int .i64), .bool, (.int .i64)])] cc2)))
 (.keep [(6, .any)] [] [] cc1))))))
def C176_1 : XC := (.seq (.ops (.op (some 86) .any [6] (.mov (.tmp 6)) <|
 .op (some 4) .any [86] (.mov (.tmp 86)) <|
 .nil))
 .ret)
def C176_2 (cc3 : XC) : XC := (.seq (.ops (.op (some 36) .any [35, 34] (.bin .lss .none (.tmp 35) (.tmp 34)) <|
 .nil))
 (.seq (.cond (.tmp 36) .skip
 (.exit 0))
 (.seq (.block 1 (.seq (.ops (.op (some 37) .any [33, 35] (.iaddrS 1 (.tmp 33) (.tmp 35)) <|
 .op (some 38) (.int .i64) [37] (.load none (.tmp 37)) <|
 .op (some 8) .any [38] (.mov (.tmp 38)) <|
 .nil))
 (.seq (.ops (.op (some 39) .any [6] (.mov (.tmp 6)) <|
 .op (some 40) .any [39] (.len false (.tmp 39)) <|
 .op (some 41) .any [40] (.bin .sub .none (.tmp 40) (.con (V.int .i64 (Int.ofNat 1)))) <|
 .op (some 9) .any [41] (.mov (.tmp 41)) <|
 .nil))
 (.seq (.seq (.ops (.op (some 42) .any [5] (.faddr 9 (.tmp 5)) <|
 .op (some 43) .any [42] (.load none (.tmp 42)) <|
 .op (some 44) .any [8] (.mov (.tmp 8)) <|
 .op (some 45) .any [43, 44] (.iaddrS 11 (.tmp 43) (.tmp 44)) <|
 .op (some 46) .any [45] (.faddr 10 (.tmp 45)) <|
 .op (some 47) (.int .i64) [46] (.load none (.tmp 46)) <|
 .op (some 10) .any [47] (.mov (.tmp 47)) <|
 .nil))
 (.seq (.ops (.op (some 48) .any [5] (.faddr 0 (.tmp 5)) <|
 .op (some 49) (.int .i64) [48] (.load none (.tmp 48)) <|
 .op (some 50) .any [49] (.bin .neq .none (.tmp 49) (.con (V.int .i64 (Int.ofNat 9)))) <|
 .op (some 51) .any [50] (.mov (.tmp 50)) <|
 .grp 51 true (.op (some 52) .any [10, 51] (.mov (.tmp 10)) <|
 .op (some 53) .any [52, 51] (.bin .gtr .none (.tmp 52) (.con (V.int .i64 (Int.ofNat 0)))) <|
 .nil) 54 [51, 53] (.tmp 51) (.tmp 53) (.con (V.bool false)) <|
 .op (some 55) .any [54] (.mov (.tmp 54)) <|
 .grp 55 true (.op (some 56) .any [9, 55] (.mov (.tmp 9)) <|
 .op (some 57) .any [56, 55] (.bin .geq .none (.tmp 56) (.con (V.int .i64 (Int.ofNat 0)))) <|
 .nil) 58 [55, 57] (.tmp 55) (.tmp 57) (.con (V.bool false)) <|
 .op (some 59) .any [58] (.mov (.tmp 58)) <|
 .grp 59 true (.op (some 60) .any [5, 59] (.faddr 9 (.tmp 5)) <|
 .op (some 61) .any [60, 59] (.load none (.tmp 60)) <|
 .op (some 62) .any [8, 59] (.mov (.tmp 8)) <|
 .op (some 63) .any [62, 59] (.bin .sub .none (.tmp 62) (.con (V.int .i64 (Int.ofNat 1)))) <|
 .op (some 64) .any [61, 63, 59] (.iaddrS 11 (.tmp 61) (.tmp 63)) <|
 .op (some 65) .any [64, 59] (.faddr 10 (.tmp 64)) <|
 .op (some 66) (.int .i64) [65, 59] (.load none (.tmp 65)) <|
 .op (some 67) .any [10, 59] (.mov (.tmp 10)) <|
 .op (some 68) .any [66, 67, 59] (.bin .eql .none (.tmp 66) (.tmp 67)) <|
 .nil) 69 [59, 68] (.tmp 59) (.tmp 68) (.con (V.bool false)) <|
 .nil))
 (.cond (.tmp 69) (.seq (.ops (.op (some 70) .any [6] (.mov (.tmp 6)) <|
 .op (some 71) .any [9] (.mov (.tmp 9)) <|
 .op (some 72) .any [6] (.mov (.tmp 6)) <|
 .op (some 73) .any [9] (.mov (.tmp 9)) <|
 .op (some 74) .any [72, 73] (.iaddrS 1 (.tmp 72) (.tmp 73)) <|
 .op (some 75) .any [74] (.load none (.tmp 74)) <|
 .op (some 76) .any [8] (.mov (.tmp 8)) <|
 .op (some 77) .any [76] (.buildSlice 3 1 [(V.int .i64 (Int.ofNat 0))] [(0, 1, (.tmp 76))]) <|
 .op (some 78) .one [75, 77] (.append 3 1 8 (.tmp 75) (.tmp 77)) <|
 .op (some 79) .any [70, 71] (.iaddrS 1 (.tmp 70) (.tmp 71)) <|
 .op none .any [79, 78] (.store 1 (.tmp 79) (.tmp 78)) <|
 .nil))
 (.exit 1))
 .skip)))
 (.ops (.op (some 80) .any [6] (.mov (.tmp 6)) <|
 .op (some 81) .any [8] (.mov (.tmp 8)) <|
 .op (some 82) .any [81] (.buildSlice 3 1 [(V.int .i64 (Int.ofNat 0))] [(0, 1, (.tmp 81))]) <|
 .op (some 83) .any [82] (.buildSlice 23 1 [V.nils] [(0, 1, (.tmp 82))]) <|
 .op (some 84) .one [80, 83] (.append 23 1 24 (.tmp 80) (.tmp 83)) <|
 .op (some 6) .any [84] (.mov (.tmp 84)) <|
 .nil))))))
 (.keep [(6, .any), (33, .any), (34, (.int .i64)), (35, (.int .i64))] [5] [(5, [(.int .i64), .any, .bool, .bool, .bool, .bool, (.int .i64), (.int .i64), .any, .any, (.int .i64), .bool, (.int .i64)])] cc3))))
def C176_3 : XC := (.ops (.op (some 85) .any [35] (.bin .add .none (.tmp 35) (.con (V.int .i64 (Int.ofNat 1)))) <|
 .op (some 35) .any [85] (.mov (.tmp 85)) <|
 .nil))
def A176 : XFn := ⟨87, [(.agg [.str, .any, .any, .any]), (.int .i64)], [(.tmp 4)], (C176_0 C176_1 (C176_2 C176_3))⟩
def C177_0 (cc1 : XC) : XC := (.seq (.ops (.op (some 2) .any [] (.mov (.con V.nils)) <|
 .nil))
 (.seq (.ops (.op (some 3) .any [] (.mov (.con (V.int .i64 (Int.ofNat 0)))) <|
 .nil))
 (.seq (.seq (.ops (.op (some 6) .any [0] (.mov (.tmp 0)) <|
 .op (some 7) .bool [6] (.call 84 [(.tmp 6)]) <|
 .nil))
 (.cond (.tmp 7) (.seq (.ops (.op (some 8) .any [0] (.mov (.tmp 0)) <|
 .op (some 9) .any [8] (.nilck (.tmp 8)) <|
 .op (some 10) .any [9] (.faddr 0 (.tmp 9)) <|
 .op (some 11) .any [10] (.load none (.tmp 10)) <|
 .op (some 12) (.int .i64) [11] (.call 222 [(.tmp 11)]) <|
 .op (some 3) .any [12] (.mov (.tmp 12)) <|
 .nil))
 (.ops (.op (some 13) .any [0] (.mov (.tmp 0)) <|
 .op (some 14) .any [3] (.mov (.tmp 3)) <|
 .op (some 15) .any [14] (.bin .leq .none (.tmp 14) (.con (V.int .i64 (Int.ofNat 64)))) <|
 .op (some 16) .any [15] (.mov (.tmp 15)) <|
 .grp 16 false (.op (some 17) .any [3, 16] (.mov (.tmp 3)) <|
 .op (some 18) .any [17, 16] (.bin .gtr .none (.tmp 17) (.con (V.int .i64 (Int.ofNat 1000)))) <|
 .nil) 19 [16, 18] (.tmp 16) (.con (V.bool true)) (.tmp 18) <|
 .op (some 20) (.tup []) [13, 19] (.call 42 [(.tmp 13), (.tmp 19)]) <|
 .nil)))
 (.ops (.op (some 21) .any [0] (.mov (.tmp 0)) <|
 .op (some 22) .any [21] (.nilck (.tmp 21)) <|
 .op (some 23) .any [22] (.faddr 0 (.tmp 22)) <|
 .op (some 24) .any [23] (.load none (.tmp 23)) <|
 .op (some 25) (.int .u64) [24] (.call 45 [(.tmp 24), (.con (V.int .i64 (Int.ofNat 6)))]) <|
 .op (some 26) .any [25] (.conv (.toInt .i64) (.tmp 25)) <|
 .op (some 27) .any [26] (.bin .add .none (.tmp 26) (.con (V.int .i64 (Int.ofNat 1)))) <|
 .op (some 3) .any [27] (.mov (.tmp 27)) <|
 .nil))))
 (.keep [(0, .ptr), (3, (.int .i64))] [] [] cc1))))
def C177_1 (cc2 : XC) (cc3 : XC) : XC := (.seq (.ops (.op (some 4) .any [] (.mov (.con V.nils)) <|
 .nil))
 (.seq (.seq (.ops (.op (some 5) .any [] (.mov (.con (V.int .i64 (Int.ofNat 0)))) <|
 .nil))
 (.block 0 (.loop [(0, .ptr), (3, (.int .i64)), (4, .any), (5, (.int .i64))] [] [] cc3)))
 (.keep [(0, .ptr), (4, .any)] [] [] cc2)))
def C177_2 : XC := (.seq (.ops (.op (some 43) .any [0] (.mov (.tmp 0)) <|
 .op (some 44) .any [4] (.mov (.tmp 4)) <|
 .op (some 45) .any [44] (.len false (.tmp 44)) <|
 .op (some 46) .any [45] (.bin .eql .none (.tmp 45) (.con (V.int .i64 (Int.ofNat 0)))) <|
 .op (some 47) (.tup []) [43, 46] (.call 42 [(.tmp 43), (.tmp 46)]) <|
 .nil))
 (.seq (.ops (.op (some 48) .any [4] (.mov (.tmp 4)) <|
 .op (some 2) .any [48] (.mov (.tmp 48)) <|
 .nil))
 .ret))
def C177_3 (cc4 : XC) : XC := (.seq (.seq (.ops (.op (some 28) .any [5] (.mov (.tmp 5)) <|
 .op (some 29) .any [3] (.mov (.tmp 3)) <|
 .op (some 30) .any [28, 29] (.bin .lss .none (.tmp 28) (.tmp 29)) <|
 .op (some 31) .any [30] (.mov (.tmp 30)) <|
 .grp 31 true (.op (some 32) .any [0, 31] (.mov (.tmp 0)) <|
 .op (some 33) .bool [32, 31] (.call 44 [(.tmp 32)]) <|
 .nil) 34 [31, 33] (.tmp 31) (.tmp 33) (.con (V.bool false)) <|
 .nil))
 (.cond (.tmp 34) .skip
 (.exit 0)))
 (.seq (.block 1 (.seq (.ops (.op (some 37) .any [0] (.mov (.tmp 0)) <|
 .op (some 38) .bool [37] (.call 84 [(.tmp 37)]) <|
 .nil))
 (.cond (.tmp 38) (.ops (.op (some 39) .any [4] (.mov (.tmp 4)) <|
 .op (some 40) .any [5] (.mov (.tmp 5)) <|
 .op (some 41) .any [40] (.buildSlice 3 1 [(V.int .i64 (Int.ofNat 0))] [(0, 1, (.tmp 40))]) <|
 .op (some 42) .one [39, 41] (.append 3 1 8 (.tmp 39) (.tmp 41)) <|
 .op (some 4) .any [42] (.mov (.tmp 42)) <|
 .nil))
 .skip)))
 (.keep [(0, .ptr), (3, (.int .i64)), (4, .any), (5, (.int .i64))] [] [] cc4)))
def C177_4 : XC := (.ops (.op (some 35) .any [5] (.mov (.tmp 5)) <|
 .op (some 36) .any [35] (.bin .add .none (.tmp 35) (.con (V.int .i64 (Int.ofNat 1)))) <|
 .op (some 5) .any [36] (.mov (.tmp 36)) <|
 .nil))
def A177 : XFn := ⟨49, [.ptr], [(.tmp 2)], (C177_0 (C177_1 C177_2 (C177_3 C177_4)))⟩
def C178_0 : XC := (.draw (.op (some 7) .any [0] (.mov (.tmp 0)) <|
 .op (some 8) .any [0] (.mov (.tmp 0)) <|
 .op (some 9) (.agg [(.int .i64), .any, .bool, .bool, .bool, .bool, (.int .i64), (.int .i64), .any, .any, (.int .i64), .bool, (.int .i64)]) [1] (.load (some 13) (.tmp 1)) <|
 .op (some 10) .any [2] (.load none (.tmp 2)) <|
 .op (some 11) .any [3] (.load none (.tmp 3)) <|
 .op (some 12) (.int .i64) [4] (.load none (.tmp 4)) <|
 .op (some 13) .any [11, 12] (.iaddrS 1 (.tmp 11) (.tmp 12)) <|
 .op (some 14) .any [13] (.load none (.tmp 13)) <|
 .op (some 15) (.int .i64) [5] (.load none (.tmp 5)) <|
 .op (some 16) .bool [8, 9, 10, 14, 15] (.call 104 [(.tmp 8), (.tmp 9), (.tmp 10), (.tmp 14), (.tmp 15)]) <|
 .op (some 17) .any [16] (.un .not (.tmp 16)) <|
 .op (some 18) (.tup []) [7, 17] (.call 42 [(.tmp 7), (.tmp 17)]) <|
 .nil) [0, 0, 0, 0, 0, 0, 48, 112, 0, 510, 1022, 2047])
def A178 : XFn := ⟨19, [.any, .any, .any, .any, .any, .any], [], C178_0⟩
def C180_0 : XC := (.seq (.ops (.op (some 2) .any [] (.mov (.con (V.int .i64 (Int.ofNat 0)))) <|
 .nil))
 (.seq (.draw (.op (some 4) .any [0] (.mov (.tmp 0)) <|
 .op (some 5) .any [4] (.nilck (.tmp 4)) <|
 .op (some 6) .any [5] (.faddr 0 (.tmp 5)) <|
 .op (some 7) .any [6] (.load none (.tmp 6)) <|
 .op (some 8) .any [0] (.mov (.tmp 0)) <|
 .op (some 9) .any [8] (.nilck (.tmp 8)) <|
 .op (some 10) .any [9] (.faddr 1 (.tmp 9)) <|
 .op (some 11) (.int .i64) [10] (.load none (.tmp 10)) <|
 .op (some 12) .any [11] (.bin .quo .none (.tmp 11) (.con (V.int .i64 (Int.ofNat 8)))) <|
 .op (some 13) .any [7, 12] (.iaddrS 1 (.tmp 7) (.tmp 12)) <|
 .op (some 14) (.int .u8) [13] (.load none (.tmp 13)) <|
 .op (some 15) .any [0] (.mov (.tmp 0)) <|
 .op (some 16) .any [15] (.nilck (.tmp 15)) <|
 .op (some 17) .any [16] (.faddr 1 (.tmp 16)) <|
 .op (some 18) (.int .i64) [17] (.load none (.tmp 17)) <|
 .op (some 19) .any [18] (.bin .rem .none (.tmp 18) (.con (V.int .i64 (Int.ofNat 8)))) <|
 .op (some 20) .any [19] (.bin .sub .none (.con (V.int .i64 (Int.ofNat 7))) (.tmp 19)) <|
 .op (some 21) .any [14, 20] (.bin .shr .none (.tmp 14) (.tmp 20)) <|
 .op (some 22) .any [21] (.bin .and .none (.tmp 21) (.con (V.int .u8 (Int.ofNat 1)))) <|
 .op (some 23) .any [22] (.conv (.toInt .i64) (.tmp 22)) <|
 .op (some 3) .any [23] (.mov (.tmp 23)) <|
 .nil) [0, 1, 3, 7, 0, 16, 48, 112, 240, 511, 1023, 0, 2048, 6144, 14336, 30720, 63488, 131071, 262143, 524287, 1048575])
 (.seq (.ops (.op (some 24) .any [0] (.mov (.tmp 0)) <|
 .op (some 25) .any [24] (.nilck (.tmp 24)) <|
 .op (some 26) .any [25] (.faddr 1 (.tmp 25)) <|
 .op (some 27) (.int .i64) [26] (.load none (.tmp 26)) <|
 .op (some 28) .any [27] (.bin .add .none (.tmp 27) (.con (V.int .i64 (Int.ofNat 1)))) <|
 .op (some 29) .any [24] (.nilck (.tmp 24)) <|
 .op (some 30) .any [29] (.faddr 1 (.tmp 29)) <|
 .op none .any [30, 28] (.store 1 (.tmp 30) (.tmp 28)) <|
 .nil))
 (.seq (.ops (.op (some 31) .any [3] (.mov (.tmp 3)) <|
 .op (some 2) .any [31] (.mov (.tmp 31)) <|
 .nil))
 .ret))))
def A180 : XFn := ⟨32, [.ptr], [(.tmp 2)], C180_0⟩
def C187_0 (cc1 : XC) (cc2 : XC) : XC := (.seq (.ops (.op (some 5) .any [2] (.box 39 (.tmp 2)) <|
 .op (some 6) .any [] (.mov (.con (V.bool false))) <|
 .nil))
 (.seq (.ops (.op (some 14) .any [0] (.mov (.tmp 0)) <|
 .op (some 15) .any [14] (.nilck (.tmp 14)) <|
 .op (some 16) .any [15] (.faddr 0 (.tmp 15)) <|
 .op (some 17) .any [16] (.faddr 0 (.tmp 16)) <|
 .op (some 18) .any [17] (.faddr 3 (.tmp 17)) <|
 .op (some 19) .any [18] (.load none (.tmp 18)) <|
 .op (some 20) .any [1] (.mov (.tmp 1)) <|
 .op (some 21) .any [19, 20] (.iaddrS 13 (.tmp 19) (.tmp 20)) <|
 .op (some 22) (.agg [(.int .i64), .any, .bool, .bool, .bool, .bool, (.int .i64), (.int .i64), .any, .any, (.int .i64), .bool, (.int .i64)]) [21] (.load (some 13) (.tmp 21)) <|
 .pal 7 [] 111 [(V.int .i64 (Int.ofNat 0)), V.nils, (V.bool false), (V.bool false), (V.bool false), (V.bool false), (V.int .i64 (Int.ofNat 0)), (V.int .i64 (Int.ofNat 0)), V.nils, V.nils, (V.int .i64 (Int.ofNat 0)), (V.bool false), (V.int .i64 (Int.ofNat 0))] <|
 .op none (.agg [(.int .i64), .any, .bool, .bool, .bool, .bool, (.int .i64), (.int .i64), .any, .any, (.int .i64), .bool, (.int .i64)]) [7, 22] (.store 13 (.tmp 7) (.tmp 22)) <|
 .nil))
 (.seq (.seq (.ops (.op (some 23) .any [5] (.faddr 5 (.tmp 5)) <|
 .op (some 24) .any [23] (.load none (.tmp 23)) <|
 .op (some 25) .any [24] (.len false (.tmp 24)) <|
 .op (some 26) .any [25] (.bin .eql .none (.tmp 25) (.con (V.int .i64 (Int.ofNat 0)))) <|
 .nil))
 (.cond (.tmp 26) (.seq (.ops (.op (some 27) .any [5] (.faddr 4 (.tmp 5)) <|
 .op (some 28) (.int .i64) [27] (.load none (.tmp 27)) <|
 .op (some 29) .any [28] (.bin .eql .none (.tmp 28) (.con (V.int .i64 (Int.ofNat 0)))) <|
 .op (some 6) .any [29] (.mov (.tmp 29)) <|
 .nil))
 .ret)
 .skip))
 (.seq (.seq (.ops (.op (some 30) .any [7] (.faddr 11 (.tmp 7)) <|
 .op (some 31) .bool [30] (.load none (.tmp 30)) <|
 .op (some 32) .any [31] (.un .not (.tmp 31)) <|
 .op (some 33) .any [32] (.mov (.tmp 32)) <|
 .grp 33 false (.op (some 34) .any [5, 33] (.faddr 4 (.tmp 5)) <|
 .op (some 35) (.int .i64) [34, 33] (.load none (.tmp 34)) <|
 .op (some 36) .any [35, 33] (.bin .neq .none (.tmp 35) (.con (V.int .i64 (Int.ofNat 1)))) <|
 .op (some 37) .any [36, 33] (.mov (.tmp 36)) <|
 .grp 37 true (.op (some 38) .any [5, 37] (.faddr 4 (.tmp 5)) <|
 .op (some 39) (.int .i64) [38, 37] (.load none (.tmp 38)) <|
 .op (some 40) .any [39, 37] (.bin .neq .none (.tmp 39) (.con (V.int .i64 (Int.ofNat 2)))) <|
 .nil) 41 [37, 40, 33] (.tmp 37) (.tmp 40) (.con (V.bool false)) <|
 .nil) 42 [33, 41] (.tmp 33) (.con (V.bool true)) (.tmp 41) <|
 .nil))
 (.cond (.tmp 42) (.seq (.ops (.op (some 6) .any [] (.mov (.con (V.bool false))) <|
 .nil))
 .ret)
 .skip))
 (.seq (.ops (.op (some 43) .any [0] (.mov (.tmp 0)) <|
 .op (some 44) .any [43] (.nilck (.tmp 43)) <|
 .op (some 45) .any [44] (.faddr 0 (.tmp 44)) <|
 .op (some 46) .any [45] (.faddr 0 (.tmp 45)) <|
 .op (some 47) (.agg [.str, .any, .any, .any]) [46] (.load (some 4) (.tmp 46)) <|
 .op (some 48) .any [1] (.mov (.tmp 1)) <|
 .op (some 49) .one [47, 48] (.call 176 [(.tmp 47), (.tmp 48)]) <|
 .op (some 50) .any [49] (.len false (.tmp 49)) <|
 .op (some 8) .any [50] (.mov (.tmp 50)) <|
 .nil))
 (.seq (.ops (.pal 9 [] 214 [(V.int .i64 (Int.ofNat 0)), (V.int .i64 (Int.ofNat 0))] <|
 .nil))
 (.seq (.seq (.ops (.op (some 51) .any [5] (.faddr 5 (.tmp 5)) <|
 .op (some 52) .any [51] (.load none (.tmp 51)) <|
 .op (some 53) .any [52] (.len false (.tmp 52)) <|
 .op (some 54) .any [] (.mov (.con (V.int .i64 (Int.ofNat 0)))) <|
 .nil))
 (.block 0 (.loop [(0, .ptr), (1, (.int .i64)), (5, .ptr), (8, (.int .i64)), (52, .any), (53, (.int .i64)), (54, (.int .i64))] [7, 9] [(7, [(.int .i64), .any, .bool, .bool, .bool, .bool, (.int .i64), (.int .i64), .any, .any, (.int .i64), .bool, (.int .i64)]), (9, [(.int .i64), (.int .i64)])] cc2)))
 (.keep [] [] [] cc1))))))))
def C187_1 : XC := (.seq (.ops (.op (some 6) .any [] (.mov (.con (V.bool true))) <|
 .nil))
 .ret)
def C187_2 (cc3 : XC) : XC := (.seq (.ops (.op (some 55) .any [54, 53] (.bin .lss .none (.tmp 54) (.tmp 53)) <|
 .nil))
 (.seq (.cond (.tmp 55) .skip
 (.exit 0))
 (.seq (.block 1 (.seq (.ops (.op (some 56) .any [54] (.mov (.tmp 54)) <|
 .op (some 57) .any [52, 54] (.iaddrS 2 (.tmp 52) (.tmp 54)) <|
 .op (some 58) (.agg [(.int .i64), .any]) [57] (.load (some 2) (.tmp 57)) <|
 .pal 11 [] 80 [(V.int .i64 (Int.ofNat 0)), V.nils] <|
 .op (some 10) .any [56] (.mov (.tmp 56)) <|
 .op none (.agg [(.int .i64), .any]) [11, 58] (.store 2 (.tmp 11) (.tmp 58)) <|
 .nil))
 (.seq (.seq (.ops (.op (some 59) .any [5] (.faddr 4 (.tmp 5)) <|
 .op (some 60) (.int .i64) [59] (.load none (.tmp 59)) <|
 .op (some 61) .any [60] (.bin .eql .none (.tmp 60) (.con (V.int .i64 (Int.ofNat 2)))) <|
 .nil))
 (.cond (.tmp 61) (.seq (.seq (.ops (.op (some 62) .any [11] (.faddr 0 (.tmp 11)) <|
 .op (some 63) (.int .i64) [62] (.load none (.tmp 62)) <|
 .op (some 64) .any [8] (.mov (.tmp 8)) <|
 .op (some 65) .any [63, 64] (.bin .lss .none (.tmp 63) (.tmp 64)) <|
 .op (some 66) .any [65] (.mov (.tmp 65)) <|
 .grp 66 false (.op (some 67) .any [11, 66] (.faddr 0 (.tmp 11)) <|
 .op (some 68) (.int .i64) [67, 66] (.load none (.tmp 67)) <|
 .op (some 69) .any [68, 66] (.bin .geq .none (.tmp 68) (.con (V.int .i64 (Int.ofNat 1000)))) <|
 .nil) 70 [66, 69] (.tmp 66) (.con (V.bool true)) (.tmp 69) <|
 .op (some 71) .any [70] (.mov (.tmp 70)) <|
 .grp 71 false (.op (some 72) .any [11, 71] (.faddr 1 (.tmp 11)) <|
 .op (some 73) .any [72, 71] (.load none (.tmp 72)) <|
 .op (some 74) .bool [73, 71] (.call 182 [(.tmp 73)]) <|
 .op (some 75) .any [74, 71] (.un .not (.tmp 74)) <|
 .nil) 76 [71, 75] (.tmp 71) (.con (V.bool true)) (.tmp 75) <|
 .nil))
 (.cond (.tmp 76) (.seq (.ops (.op (some 6) .any [] (.mov (.con (V.bool false))) <|
 .nil))
 .ret)
 .skip))
 (.seq (.ops (.op (some 77) .any [11] (.faddr 0 (.tmp 11)) <|
 .op (some 78) (.int .i64) [77] (.load none (.tmp 77)) <|
 .op (some 79) .any [78] (.bin .add .none (.tmp 78) (.con (V.int .i64 (Int.ofNat 1)))) <|
 .op (some 8) .any [79] (.mov (.tmp 79)) <|
 .nil))
 (.exit 1)))
 .skip))
 (.seq (.ops (.op (some 81) .any [0] (.mov (.tmp 0)) <|
 .op (some 82) .any [1] (.mov (.tmp 1)) <|
 .op (some 83) .any [11] (.faddr 1 (.tmp 11)) <|
 .op (some 84) .any [83] (.load none (.tmp 83)) <|
 .op (some 85) (.tup [(.agg [(.int .i64), (.int .i64)]), .bool]) [81, 82, 84] (.call 181 [(.tmp 81), (.tmp 82), (.tmp 84)]) <|
 .op (some 80) .any [85] (.mov (.tmp 85)) <|
 .op (some 86) .any [80] (.extract 0 (.tmp 80)) <|
 .op (some 87) .any [80] (.extract 1 (.tmp 80)) <|
 .pal 12 [] 214 [(V.int .i64 (Int.ofNat 0)), (V.int .i64 (Int.ofNat 0))] <|
 .op none (.agg [(.int .i64), (.int .i64)]) [12, 86] (.store 2 (.tmp 12) (.tmp 86)) <|
 .op (some 13) .any [87] (.mov (.tmp 87)) <|
 .nil))
 (.seq (.seq (.ops (.op (some 88) .any [13] (.mov (.tmp 13)) <|
 .op (some 89) .any [88] (.un .not (.tmp 88)) <|
 .op (some 90) .any [89] (.mov (.tmp 89)) <|
 .grp 90 false (.op (some 91) .any [11, 90] (.faddr 0 (.tmp 11)) <|
 .op (some 92) (.int .i64) [91, 90] (.load none (.tmp 91)) <|
 .op (some 93) .any [92, 90] (.bin .neq .none (.tmp 92) (.con (V.int .i64 (Int.ofNat 0)))) <|
 .nil) 94 [90, 93] (.tmp 90) (.con (V.bool true)) (.tmp 93) <|
 .op (some 95) .any [94] (.mov (.tmp 94)) <|
 .grp 95 false (.op (some 96) .any [7, 95] (.faddr 0 (.tmp 7)) <|
 .op (some 97) (.int .i64) [96, 95] (.load none (.tmp 96)) <|
 .op (some 98) .any [97, 95] (.bin .eql .none (.tmp 97) (.con (V.int .i64 (Int.ofNat 8)))) <|
 .op (some 99) .any [98, 95] (.mov (.tmp 98)) <|
 .grp 99 true (.op (some 100) .any [10, 99] (.mov (.tmp 10)) <|
 .op (some 101) .any [100, 99] (.bin .gtr .none (.tmp 100) (.con (V.int .i64 (Int.ofNat 0)))) <|
 .nil) 102 [99, 101, 95] (.tmp 99) (.tmp 101) (.con (V.bool false)) <|
 .op (some 103) .any [102, 95] (.mov (.tmp 102)) <|
 .grp 103 true (.op (some 104) (.agg [(.int .i64), (.int .i64)]) [9, 103] (.load (some 2) (.tmp 9)) <|
 .op (some 105) (.agg [(.int .i64), (.int .i64)]) [12, 103] (.load (some 2) (.tmp 12)) <|
 .op (some 106) .bool [104, 105, 103] (.call 175 [(.tmp 104), (.tmp 105)]) <|
 .op (some 107) .any [106, 103] (.un .not (.tmp 106)) <|
 .nil) 108 [103, 107, 95] (.tmp 103) (.tmp 107) (.con (V.bool false)) <|
 .nil) 109 [95, 108] (.tmp 95) (.con (V.bool true)) (.tmp 108) <|
 .nil))
 (.cond (.tmp 109) (.seq (.ops (.op (some 6) .any [] (.mov (.con (V.bool false))) <|
 .nil))
 .ret)
 .skip))
 (.ops (.op (some 110) (.agg [(.int .i64), (.int .i64)]) [12] (.load (some 2) (.tmp 12)) <|
 .op none (.agg [(.int .i64), (.int .i64)]) [9, 110] (.store 2 (.tmp 9) (.tmp 110)) <|
 .nil)))))))
 (.keep [(0, .ptr), (1, (.int .i64)), (5, .ptr), (8, (.int .i64)), (52, .any), (53, (.int .i64)), (54, (.int .i64))] [7, 9] [(7, [(.int .i64), .any, .bool, .bool, .bool, .bool, (.int .i64), (.int .i64), .any, .any, (.int .i64), .bool, (.int .i64)]), (9, [(.int .i64), (.int .i64)])] cc3))))
def C187_3 : XC := (.ops (.op (some 111) .any [54] (.bin .add .none (.tmp 54) (.con (V.int .i64 (Int.ofNat 1)))) <|
 .op (some 54) .any [111] (.mov (.tmp 111)) <|
 .nil))
def A187 : XFn := ⟨112, [.ptr, (.int .i64), (.agg [(.int .i64), (.int .i64), .any, .any, (.int .i64), .any])], [(.tmp 6)], (C187_0 C187_1 (C187_2 C187_3))⟩
def C188_0 : XC := (.seq (.ops (.op (some 1) .any [0] (.box 39 (.tmp 0)) <|
 .op (some 2) .any [] (.mov (.con (V.bool false))) <|
 .nil))
 (.seq (.ops (.op (some 3) .any [1] (.faddr 0 (.tmp 1)) <|
 .op (some 4) (.int .i64) [3] (.load none (.tmp 3)) <|
 .op (some 5) .any [4] (.bin .eql .none (.tmp 4) (.con (V.int .i64 (Int.ofNat 0)))) <|
 .op (some 6) .any [5] (.mov (.tmp 5)) <|
 .grp 6 true (.op (some 7) (.agg [(.int .i64), (.int .i64), .any, .any, (.int .i64), .any]) [1, 6] (.load (some 6) (.tmp 1)) <|
 .op (some 8) .bool [7, 6] (.call 111 [(.tmp 7), (.con (V.int .i64 (Int.ofNat 0)))]) <|
 .nil) 9 [6, 8] (.tmp 6) (.tmp 8) (.con (V.bool false)) <|
 .op (some 2) .any [9] (.mov (.tmp 9)) <|
 .nil))
 .ret))
def A188 : XFn := ⟨10, [(.agg [(.int .i64), (.int .i64), .any, .any, (.int .i64), .any])], [(.tmp 2)], C188_0⟩
def C189_0 : XC := (.seq (.ops (.op (some 2) .any [0] (.box 111 (.tmp 0)) <|
 .op (some 4) .any [] (.mov (.con (V.bool false))) <|
 .nil))
 (.seq (.ops (.op (some 5) .any [2] (.faddr 9 (.tmp 2)) <|
 .op (some 6) .any [5] (.load none (.tmp 5)) <|
 .op (some 7) .any [1] (.mov (.tmp 1)) <|
 .op (some 8) .any [6, 7] (.iaddrS 11 (.tmp 6) (.tmp 7)) <|
 .op (some 9) .any [8] (.faddr 2 (.tmp 8)) <|
 .op (some 10) .bool [9] (.load none (.tmp 9)) <|
 .op (some 11) .any [10] (.mov (.tmp 10)) <|
 .grp 11 false (.op (some 12) .any [2, 11] (.faddr 9 (.tmp 2)) <|
 .op (some 13) .any [12, 11] (.load none (.tmp 12)) <|
 .op (some 14) .any [1, 11] (.mov (.tmp 1)) <|
 .op (some 15) .any [13, 14, 11] (.iaddrS 11 (.tmp 13) (.tmp 14)) <|
 .op (some 16) .any [15, 11] (.faddr 3 (.tmp 15)) <|
 .op (some 17) .bool [16, 11] (.load none (.tmp 16)) <|
 .nil) 18 [11, 17] (.tmp 11) (.con (V.bool true)) (.tmp 17) <|
 .op (some 19) .any [18] (.mov (.tmp 18)) <|
 .grp 19 false (.op (some 20) .any [1, 19] (.mov (.tmp 1)) <|
 .op (some 21) .any [2, 19] (.faddr 10 (.tmp 2)) <|
 .op (some 22) (.int .i64) [21, 19] (.load none (.tmp 21)) <|
 .op (some 23) .any [20, 22, 19] (.bin .geq .none (.tmp 20) (.tmp 22)) <|
 .nil) 24 [19, 23] (.tmp 19) (.con (V.bool true)) (.tmp 23) <|
 .op (some 4) .any [24] (.mov (.tmp 24)) <|
 .nil))
 .ret))
def A189 : XFn := ⟨25, [(.agg [(.int .i64), .any, .bool, .bool, .bool, .bool, (.int .i64), (.int .i64), .any, .any, (.int .i64), .bool, (.int .i64)]), (.int .i64)], [(.tmp 4)], C189_0⟩
def C190_0 : XC := (.seq (.ops (.op (some 2) .any [0] (.box 39 (.tmp 0)) <|
 .op (some 3) .any [1] (.box 39 (.tmp 1)) <|
 .op (some 4) .any [] (.mov (.con (V.bool false))) <|
 .nil))
 (.seq (.ops (.op (some 5) .any [2] (.faddr 0 (.tmp 2)) <|
 .op (some 6) (.int .i64) [5] (.load none (.tmp 5)) <|
 .op (some 7) .any [3] (.faddr 0 (.tmp 3)) <|
 .op (some 8) (.int .i64) [7] (.load none (.tmp 7)) <|
 .op (some 9) .any [6, 8] (.bin .eql .none (.tmp 6) (.tmp 8)) <|
 .op (some 10) .any [9] (.mov (.tmp 9)) <|
 .grp 10 true (.op (some 11) .any [2, 10] (.faddr 1 (.tmp 2)) <|
 .op (some 12) (.int .i64) [11, 10] (.load none (.tmp 11)) <|
 .op (some 13) .any [3, 10] (.faddr 1 (.tmp 3)) <|
 .op (some 14) (.int .i64) [13, 10] (.load none (.tmp 13)) <|
 .op (some 15) .any [12, 14, 10] (.bin .eql .none (.tmp 12) (.tmp 14)) <|
 .nil) 16 [10, 15] (.tmp 10) (.tmp 15) (.con (V.bool false)) <|
 .op (some 17) .any [16] (.mov (.tmp 16)) <|
 .grp 17 true (.op (some 18) .any [2, 17] (.faddr 2 (.tmp 2)) <|
 .op (some 19) .any [18, 17] (.load none (.tmp 18)) <|
 .op (some 20) .any [3, 17] (.faddr 2 (.tmp 3)) <|
 .op (some 21) .any [20, 17] (.load none (.tmp 20)) <|
 .op (some 22) .bool [19, 21, 17] (.call 162 [(.tmp 19), (.tmp 21)]) <|
 .nil) 23 [17, 22] (.tmp 17) (.tmp 22) (.con (V.bool false)) <|
 .op (some 24) .any [23] (.mov (.tmp 23)) <|
 .grp 24 true (.op (some 25) .any [2, 24] (.faddr 3 (.tmp 2)) <|
 .op (some 26) .any [25, 24] (.load none (.tmp 25)) <|
 .op (some 27) .any [3, 24] (.faddr 3 (.tmp 3)) <|
 .op (some 28) .any [27, 24] (.load none (.tmp 27)) <|
 .op (some 29) .bool [26, 28, 24] (.call 229 [(.tmp 26), (.tmp 28), (.con (V.fn 190 [] []))]) <|
 .nil) 30 [24, 29] (.tmp 24) (.tmp 29) (.con (V.bool false)) <|
 .op (some 31) .any [30] (.mov (.tmp 30)) <|
 .grp 31 true (.op (some 32) .any [2, 31] (.faddr 4 (.tmp 2)) <|
 .op (some 33) (.int .i64) [32, 31] (.load none (.tmp 32)) <|
 .op (some 34) .any [3, 31] (.faddr 4 (.tmp 3)) <|
 .op (some 35) (.int .i64) [34, 31] (.load none (.tmp 34)) <|
 .op (some 36) .any [33, 35, 31] (.bin .eql .none (.tmp 33) (.tmp 35)) <|
 .nil) 37 [31, 36] (.tmp 31) (.tmp 36) (.con (V.bool false)) <|
 .op (some 38) .any [37] (.mov (.tmp 37)) <|
 .grp 38 true (.op (some 39) .any [2, 38] (.faddr 5 (.tmp 2)) <|
 .op (some 40) .any [39, 38] (.load none (.tmp 39)) <|
 .op (some 41) .any [3, 38] (.faddr 5 (.tmp 3)) <|
 .op (some 42) .any [41, 38] (.load none (.tmp 41)) <|
 .op (some 43) .bool [40, 42, 38] (.call 230 [(.tmp 40), (.tmp 42), (.con (V.fn 231 [] []))]) <|
 .nil) 44 [38, 43] (.tmp 38) (.tmp 43) (.con (V.bool false)) <|
 .op (some 4) .any [44] (.mov (.tmp 44)) <|
 .nil))
 .ret))
def A190 : XFn := ⟨45, [(.agg [(.int .i64), (.int .i64), .any, .any, (.int .i64), .any]), (.agg [(.int .i64), (.int .i64), .any, .any, (.int .i64), .any])], [(.tmp 4)], C190_0⟩
def C191_0 (cc1 : XC) (cc2 : XC) : XC := (.seq (.ops (.op (some 5) .any [2] (.box 39 (.tmp 2)) <|
 .op (some 6) .any [] (.mov (.con (V.bool false))) <|
 .nil))
 (.seq (.ops (.op (some 15) .any [0] (.mov (.tmp 0)) <|
 .op (some 16) .any [15] (.nilck (.tmp 15)) <|
 .op (some 17) .any [16] (.faddr 0 (.tmp 16)) <|
 .op (some 18) .any [17] (.faddr 0 (.tmp 17)) <|
 .op (some 19) .any [18] (.faddr 3 (.tmp 18)) <|
 .op (some 20) .any [19] (.load none (.tmp 19)) <|
 .op (some 21) .any [1] (.mov (.tmp 1)) <|
 .op (some 22) .any [20, 21] (.iaddrS 13 (.tmp 20) (.tmp 21)) <|
 .op (some 23) (.agg [(.int .i64), .any, .bool, .bool, .bool, .bool, (.int .i64), (.int .i64), .any, .any, (.int .i64), .bool, (.int .i64)]) [22] (.load (some 13) (.tmp 22)) <|
 .pal 7 [] 111 [(V.int .i64 (Int.ofNat 0)), V.nils, (V.bool false), (V.bool false), (V.bool false), (V.bool false), (V.int .i64 (Int.ofNat 0)), (V.int .i64 (Int.ofNat 0)), V.nils, V.nils, (V.int .i64 (Int.ofNat 0)), (V.bool false), (V.int .i64 (Int.ofNat 0))] <|
 .op none (.agg [(.int .i64), .any, .bool, .bool, .bool, .bool, (.int .i64), (.int .i64), .any, .any, (.int .i64), .bool, (.int .i64)]) [7, 23] (.store 13 (.tmp 7) (.tmp 23)) <|
 .nil))
 (.seq (.seq (.ops (.op (some 24) .any [0] (.mov (.tmp 0)) <|
 .op (some 25) .any [24] (.nilck (.tmp 24)) <|
 .op (some 26) .any [25] (.faddr 0 (.tmp 25)) <|
 .op (some 27) .any [26] (.faddr 0 (.tmp 26)) <|
 .op (some 28) (.agg [.str, .any, .any, .any]) [27] (.load (some 4) (.tmp 27)) <|
 .op (some 29) .any [1] (.mov (.tmp 1)) <|
 .op (some 30) .one [28, 29] (.call 176 [(.tmp 28), (.tmp 29)]) <|
 .op (some 31) .any [30] (.len false (.tmp 30)) <|
 .op (some 32) .any [] (.mov (.con (V.int .i64 (Int.ofNat 0)))) <|
 .nil))
 (.block 0 (.loop [(5, .ptr), (30, .any), (31, (.int .i64)), (32, (.int .i64))] [7] [(7, [(.int .i64), .any, .bool, .bool, .bool, .bool, (.int .i64), (.int .i64), .any, .any, (.int .i64), .bool, (.int .i64)])] cc2)))
 (.keep [] [] [] cc1))))
def C191_1 : XC := (.seq (.ops (.op (some 6) .any [] (.mov (.con (V.bool true))) <|
 .nil))
 .ret)
def C191_2 (cc3 : XC) (cc4 : XC) (cc5 : XC) : XC := (.seq (.ops (.op (some 33) .any [32, 31] (.bin .lss .none (.tmp 32) (.tmp 31)) <|
 .nil))
 (.seq (.cond (.tmp 33) .skip
 (.exit 0))
 (.seq (.block 1 (.seq (.ops (.op (some 34) .any [30, 32] (.iaddrS 1 (.tmp 30) (.tmp 32)) <|
 .op (some 35) .any [34] (.load none (.tmp 34)) <|
 .op (some 9) .any [35] (.mov (.tmp 35)) <|
 .nil))
 (.seq (.seq (.draw (.op (some 36) .any [7] (.faddr 9 (.tmp 7)) <|
 .op (some 37) .any [36] (.load none (.tmp 36)) <|
 .op (some 38) .any [9] (.mov (.tmp 9)) <|
 .op (some 39) .any [38] (.iaddrS 1 (.tmp 38) (.con (V.int .i64 (Int.ofNat 0)))) <|
 .op (some 40) (.int .i64) [39] (.load none (.tmp 39)) <|
 .op (some 41) .any [37, 40] (.iaddrS 11 (.tmp 37) (.tmp 40)) <|
 .op (some 42) .any [41] (.faddr 10 (.tmp 41)) <|
 .op (some 43) (.int .i64) [42] (.load none (.tmp 42)) <|
 .op (some 44) .any [43] (.bin .eql .none (.tmp 43) (.con (V.int .i64 (Int.ofNat 0)))) <|
 .nil) [0, 1, 0, 4, 12, 31, 63, 127, 255])
 (.cond (.tmp 44) (.exit 1)
 .skip))
 (.seq (.ops (.op (some 10) .any [] (.mov (.con (V.bool false))) <|
 .op (some 11) .any [] (.mov (.con (V.bool false))) <|
 .nil))
 (.seq (.seq (.ops (.op (some 45) .any [9] (.mov (.tmp 9)) <|
 .op (some 46) .any [45] (.len false (.tmp 45)) <|
 .op (some 47) .any [] (.mov (.con (V.int .i64 (Int.ofNat 0)))) <|
 .nil))
 (.block 2 (.loop [(5, .ptr), (10, .bool), (11, .bool), (30, .any), (31, (.int .i64)), (32, (.int .i64)), (45, .any), (46, (.int .i64)), (47, (.int .i64))] [7] [(7, [(.int .i64), .any, .bool, .bool, .bool, .bool, (.int .i64), (.int .i64), .any, .any, (.int .i64), .bool, (.int .i64)])] cc5)))
 (.keep [(5, .ptr), (10, .bool), (11, .bool), (30, .any), (31, (.int .i64)), (32, (.int .i64))] [7] [(7, [(.int .i64), .any, .bool, .bool, .bool, .bool, (.int .i64), (.int .i64), .any, .any, (.int .i64), .bool, (.int .i64)])] cc4))))))
 (.keep [(5, .ptr), (30, .any), (31, (.int .i64)), (32, (.int .i64))] [7] [(7, [(.int .i64), .any, .bool, .bool, .bool, .bool, (.int .i64), (.int .i64), .any, .any, (.int .i64), .bool, (.int .i64)])] cc3))))
def C191_3 : XC := (.ops (.op (some 90) .any [32] (.bin .add .none (.tmp 32) (.con (V.int .i64 (Int.ofNat 1)))) <|
 .op (some 32) .any [90] (.mov (.tmp 90)) <|
 .nil))
def C191_4 : XC := (.seq (.ops (.op (some 86) .any [10] (.mov (.tmp 10)) <|
 .op (some 87) .any [86] (.mov (.tmp 86)) <|
 .grp 87 true (.op (some 88) .any [11, 87] (.mov (.tmp 11)) <|
 .nil) 89 [87, 88] (.tmp 87) (.tmp 88) (.con (V.bool false)) <|
 .nil))
 (.cond (.tmp 89) (.seq (.ops (.op (some 6) .any [] (.mov (.con (V.bool false))) <|
 .nil))
 .ret)
 .skip))
def C191_5 : XC := (.seq (.ops (.op (some 48) .any [47, 46] (.bin .lss .none (.tmp 47) (.tmp 46)) <|
 .nil))
 (.seq (.cond (.tmp 48) .skip
 (.exit 2))
 (.seq (.block 3 (.seq (.ops (.op (some 49) .any [45, 47] (.iaddrS 1 (.tmp 45) (.tmp 47)) <|
 .op (some 50) (.int .i64) [49] (.load none (.tmp 49)) <|
 .op (some 13) .any [50] (.mov (.tmp 50)) <|
 .nil))
 (.seq (.ops (.op (some 51) .any [5] (.faddr 3 (.tmp 5)) <|
 .op (some 52) .any [51] (.load none (.tmp 51)) <|
 .op (some 53) .any [13] (.mov (.tmp 13)) <|
 .op (some 54) .any [52, 53] (.iaddrS 6 (.tmp 52) (.tmp 53)) <|
 .op (some 55) (.agg [(.int .i64), (.int .i64), .any, .any, (.int .i64), .any]) [54] (.load (some 6) (.tmp 54)) <|
 .op (some 56) .bool [55] (.call 188 [(.tmp 55)]) <|
 .op (some 57) .any [56] (.un .not (.tmp 56)) <|
 .op (some 14) .any [57] (.mov (.tmp 57)) <|
 .nil))
 (.seq (.ops (.op (some 58) .any [10] (.mov (.tmp 10)) <|
 .op (some 59) .any [58] (.mov (.tmp 58)) <|
 .grp 59 false (.op (some 60) .any [14, 59] (.mov (.tmp 14)) <|
 .nil) 61 [59, 60] (.tmp 59) (.con (V.bool true)) (.tmp 60) <|
 .op (some 10) .any [61] (.mov (.tmp 61)) <|
 .nil))
 (.ops (.op (some 62) .any [11] (.mov (.tmp 11)) <|
 .op (some 63) .any [62] (.mov (.tmp 62)) <|
 .grp 63 false (.op (some 64) .any [14, 63] (.mov (.tmp 14)) <|
 .op (some 65) .any [64, 63] (.un .not (.tmp 64)) <|
 .op (some 66) .any [65, 63] (.mov (.tmp 65)) <|
 .grp 66 true (.op (some 67) .any [7, 66] (.faddr 9 (.tmp 7)) <|
 .op (some 68) .any [67, 66] (.load none (.tmp 67)) <|
 .op (some 69) .any [13, 66] (.mov (.tmp 13)) <|
 .op (some 70) .any [68, 69, 66] (.iaddrS 11 (.tmp 68) (.tmp 69)) <|
 .op (some 71) .any [70, 66] (.faddr 2 (.tmp 70)) <|
 .op (some 72) .bool [71, 66] (.load none (.tmp 71)) <|
 .op (some 73) .any [72, 66] (.un .not (.tmp 72)) <|
 .nil) 74 [66, 73, 63] (.tmp 66) (.tmp 73) (.con (V.bool false)) <|
 .op (some 75) .any [74, 63] (.mov (.tmp 74)) <|
 .grp 75 true (.op (some 76) .any [7, 75] (.faddr 9 (.tmp 7)) <|
 .op (some 77) .any [76, 75] (.load none (.tmp 76)) <|
 .op (some 78) .any [13, 75] (.mov (.tmp 13)) <|
 .op (some 79) .any [77, 78, 75] (.iaddrS 11 (.tmp 77) (.tmp 78)) <|
 .op (some 80) .any [79, 75] (.faddr 3 (.tmp 79)) <|
 .op (some 81) .bool [80, 75] (.load none (.tmp 80)) <|
 .op (some 82) .any [81, 75] (.un .not (.tmp 81)) <|
 .nil) 83 [75, 82, 63] (.tmp 75) (.tmp 82) (.con (V.bool false)) <|
 .nil) 84 [63, 83] (.tmp 63) (.con (V.bool true)) (.tmp 83) <|
 .op (some 11) .any [84] (.mov (.tmp 84)) <|
 .nil))))))
 (.ops (.op (some 85) .any [47] (.bin .add .none (.tmp 47) (.con (V.int .i64 (Int.ofNat 1)))) <|
 .op (some 47) .any [85] (.mov (.tmp 85)) <|
 .nil)))))
def A191 : XFn := ⟨91, [.ptr, (.int .i64), (.agg [(.int .i64), (.int .i64), .any, .any, (.int .i64), .any])], [(.tmp 6)], (C191_0 C191_1 (C191_2 C191_3 C191_4 C191_5))⟩
def C192_0 (cc1 : XC) (cc2 : XC) : XC := (.seq (.ops (.op (some 4) .any [] (.mov (.con (V.int .i64 (Int.ofNat 0)))) <|
 .nil))
 (.seq (.seq (.ops (.op (some 6) .any [0] (.mov (.tmp 0)) <|
 .op (some 7) .any [6] (.len false (.tmp 6)) <|
 .op (some 8) .any [] (.mov (.con (V.int .i64 (Int.ofNat 0)))) <|
 .nil))
 (.block 0 (.loop [(0, .any), (1, .any), (7, (.int .i64)), (8, (.int .i64))] [] [] cc2)))
 (.keep [] [] [] cc1)))
def C192_1 : XC := (.seq (.ops (.op (some 4) .any [] (.mov (.con (V.int .i64 (Int.negSucc 0)))) <|
 .nil))
 .ret)
def C192_2 : XC := (.seq (.ops (.op (some 9) .any [8, 7] (.bin .lss .none (.tmp 8) (.tmp 7)) <|
 .nil))
 (.seq (.cond (.tmp 9) .skip
 (.exit 0))
 (.seq (.block 1 (.seq (.ops (.op (some 10) .any [8] (.mov (.tmp 8)) <|
 .op (some 5) .any [10] (.mov (.tmp 10)) <|
 .nil))
 (.seq (.ops (.op (some 11) .any [1] (.mov (.tmp 1)) <|
 .op (some 12) .any [0] (.mov (.tmp 0)) <|
 .op (some 13) .any [5] (.mov (.tmp 5)) <|
 .op (some 14) .any [12, 13] (.iaddrS 6 (.tmp 12) (.tmp 13)) <|
 .op (some 15) (.agg [(.int .i64), (.int .i64), .any, .any, (.int .i64), .any]) [14] (.load (some 6) (.tmp 14)) <|
 .op (some 16) .bool [11, 15] (.callv (.tmp 11) [(.tmp 15)]) <|
 .nil))
 (.cond (.tmp 16) (.seq (.ops (.op (some 17) .any [5] (.mov (.tmp 5)) <|
 .op (some 4) .any [17] (.mov (.tmp 17)) <|
 .nil))
 .ret)
 .skip))))
 (.ops (.op (some 18) .any [8] (.bin .add .none (.tmp 8) (.con (V.int .i64 (Int.ofNat 1)))) <|
 .op (some 8) .any [18] (.mov (.tmp 18)) <|
 .nil)))))
def A192 : XFn := ⟨19, [.any, .any], [(.tmp 4)], (C192_0 C192_1 C192_2)⟩
def C193_0 : XC := (.seq (.seq (.ops (.op (some 6) .any [0] (.mov (.tmp 0)) <|
 .op (some 7) .any [6] (.bin .eql .ptr (.tmp 6) (.con V.nilp)) <|
 .nil))
 (.cond (.tmp 7) .ret
 .skip))
 (.seq (.ops (.op (some 8) .any [2] (.mov (.tmp 2)) <|
 .op (some 9) (.int .i64) [8] (.call 82 [(.tmp 8)]) <|
 .op (some 2) .any [9] (.mov (.tmp 9)) <|
 .nil))
 (.seq (.ops (.op (some 10) .any [0] (.mov (.tmp 0)) <|
 .op (some 11) .any [10] (.nilck (.tmp 10)) <|
 .op (some 12) .any [11] (.faddr 0 (.tmp 11)) <|
 .op (some 13) .any [1] (.mov (.tmp 1)) <|
 .op (some 14) .any [13] (.bin .shr .none (.tmp 13) (.con (V.int .u64 (Int.ofNat 32)))) <|
 .op (some 15) .any [14] (.conv (.toInt .u32) (.tmp 14)) <|
 .op (some 16) .any [2] (.mov (.tmp 2)) <|
 .op (some 17) .any [16] (.bin .sub .none (.tmp 16) (.con (V.int .i64 (Int.ofNat 32)))) <|
 .op (some 18) (.tup []) [12, 15, 17] (.call 232 [(.tmp 12), (.tmp 15), (.tmp 17)]) <|
 .nil))
 (.ops (.op (some 19) .any [0] (.mov (.tmp 0)) <|
 .op (some 20) .any [19] (.nilck (.tmp 19)) <|
 .op (some 21) .any [20] (.faddr 0 (.tmp 20)) <|
 .op (some 22) .any [1] (.mov (.tmp 1)) <|
 .op (some 23) .any [22] (.conv (.toInt .u32) (.tmp 22)) <|
 .op (some 24) .any [2] (.mov (.tmp 2)) <|
 .op (some 25) .any [24] (.min (.tmp 24) [(.con (V.int .i64 (Int.ofNat 32)))]) <|
 .op (some 26) (.tup []) [21, 23, 25] (.call 232 [(.tmp 21), (.tmp 23), (.tmp 25)]) <|
 .nil)))))
def A193 : XFn := ⟨27, [.any, (.int .u64), (.int .i64)], [], C193_0⟩
def C194_0 : XC := (.ops (.op (some 6) .any [0] (.mov (.tmp 0)) <|
 .op (some 7) .any [1] (.mov (.tmp 1)) <|
 .op (some 8) .any [2] (.mov (.tmp 2)) <|
 .op (some 9) .any [7, 8] (.min (.tmp 7) [(.tmp 8)]) <|
 .op (some 10) .any [2] (.mov (.tmp 2)) <|
 .op (some 11) (.int .i64) [10] (.call 160 [(.tmp 10)]) <|
 .op (some 12) (.tup []) [6, 9, 11] (.call 193 [(.tmp 6), (.tmp 9), (.tmp 11)]) <|
 .nil))
def A194 : XFn := ⟨13, [.any, (.int .u64), (.int .u64)], [], C194_0⟩
def C198_0 (cc1 : XC) (cc2 : XC) : XC := (.seq (.ops (.op (some 2) .any [] (.mov (.con V.nils)) <|
 .nil))
 (.seq (.ops (.op (some 3) .any [] (.mov (.con V.nils)) <|
 .nil))
 (.seq (.seq (.ops (.op (some 6) .any [0] (.mov (.tmp 0)) <|
 .op (some 7) .any [6] (.len false (.tmp 6)) <|
 .op (some 8) .any [] (.mov (.con (V.int .i64 (Int.ofNat 0)))) <|
 .nil))
 (.block 0 (.loop [(3, .any), (6, .any), (7, (.int .i64)), (8, (.int .i64))] [] [] cc2)))
 (.keep [(3, .any)] [] [] cc1))))
def C198_1 : XC := (.seq (.ops (.op (some 16) .any [3] (.mov (.tmp 3)) <|
 .op (some 2) .any [16] (.mov (.tmp 16)) <|
 .nil))
 .ret)
def C198_2 : XC := (.seq (.ops (.op (some 9) .any [8, 7] (.bin .lss .none (.tmp 8) (.tmp 7)) <|
 .nil))
 (.seq (.cond (.tmp 9) .skip
 (.exit 0))
 (.seq (.block 1 (.seq (.ops (.op (some 10) .any [6, 8] (.iaddrS 1 (.tmp 6) (.tmp 8)) <|
 .op (some 11) .any [10] (.load none (.tmp 10)) <|
 .op (some 5) .any [11] (.mov (.tmp 11)) <|
 .nil))
 (.ops (.op (some 12) .any [3] (.mov (.tmp 3)) <|
 .op (some 13) .any [5] (.mov (.tmp 5)) <|
 .op (some 14) .one [12, 13] (.append 5 1 1 (.tmp 12) (.tmp 13)) <|
 .op (some 3) .any [14] (.mov (.tmp 14)) <|
 .nil))))
 (.ops (.op (some 15) .any [8] (.bin .add .none (.tmp 8) (.con (V.int .i64 (Int.ofNat 1)))) <|
 .op (some 8) .any [15] (.mov (.tmp 15)) <|
 .nil)))))
def A198 : XFn := ⟨17, [.any], [(.tmp 2)], (C198_0 C198_1 C198_2)⟩
def C199_0 (cc1 : XC) (cc2 : XC) : XC := (.seq (.ops (.op (some 2) .any [] (.mov (.con V.nils)) <|
 .nil))
 (.seq (.ops (.op (some 6) .any [0] (.mov (.tmp 0)) <|
 .op (some 7) .any [6] (.max (.tmp 6) [(.con (V.int .i64 (Int.ofNat 0)))]) <|
 .op (some 0) .any [7] (.mov (.tmp 7)) <|
 .nil))
 (.seq (.ops (.op (some 3) .any [] (.mov (.con V.nils)) <|
 .nil))
 (.seq (.seq (.ops (.op (some 4) .any [] (.mov (.con (V.bool true))) <|
 .nil))
 (.block 0 (.loop [(0, (.int .i64)), (3, .any), (4, .bool)] [] [] cc2)))
 (.keep [(3, .any)] [] [] cc1)))))
def C199_1 : XC := (.seq (.ops (.op (some 21) .any [3] (.mov (.tmp 3)) <|
 .op (some 2) .any [21] (.mov (.tmp 21)) <|
 .nil))
 .ret)
def C199_2 : XC := (.seq (.seq (.ops (.op (some 8) .any [4] (.mov (.tmp 4)) <|
 .nil))
 (.cond (.tmp 8) .skip
 (.exit 0)))
 (.block 1 (.seq (.ops (.op (some 5) .any [] (.mov (.con (V.int .i64 (Int.ofNat 0)))) <|
 .nil))
 (.seq (.ops (.op (some 10) .any [0] (.mov (.tmp 0)) <|
 .op (some 11) (.tup [(.int .i64), .bool]) [10] (.call 233 [(.tmp 10)]) <|
 .op (some 9) .any [11] (.mov (.tmp 11)) <|
 .op (some 12) .any [9] (.extract 0 (.tmp 9)) <|
 .op (some 13) .any [9] (.extract 1 (.tmp 9)) <|
 .op (some 5) .any [12] (.mov (.tmp 12)) <|
 .op (some 4) .any [13] (.mov (.tmp 13)) <|
 .nil))
 (.ops (.op (some 14) .any [3] (.mov (.tmp 3)) <|
 .op (some 15) .any [5] (.mov (.tmp 5)) <|
 .op (some 16) .any [15] (.buildSlice 3 1 [(V.int .i64 (Int.ofNat 0))] [(0, 1, (.tmp 15))]) <|
 .op (some 17) .one [14, 16] (.append 3 1 8 (.tmp 14) (.tmp 16)) <|
 .op (some 18) .any [0] (.mov (.tmp 0)) <|
 .op (some 19) .any [5] (.mov (.tmp 5)) <|
 .op (some 20) .any [18, 19] (.bin .sub .none (.tmp 18) (.tmp 19)) <|
 .op (some 3) .any [17] (.mov (.tmp 17)) <|
 .op (some 0) .any [20] (.mov (.tmp 20)) <|
 .nil))))))
def A199 : XFn := ⟨22, [(.int .i64)], [(.tmp 2)], (C199_0 C199_1 C199_2)⟩
def C200_0 : XC := (.block 0 (.seq (.ops (.op (some 13) .any [2] (.mov (.tmp 2)) <|
 .op (some 12) .any [13] (.mov (.tmp 13)) <|
 .nil))
 (.cond (.tmp 12) (.seq (.ops (.op (some 14) .any [0] (.mov (.tmp 0)) <|
 .op (some 15) (.tup []) [14] (.call 193 [(.tmp 14), (.con (V.int .u64 (Int.ofNat 3))), (.con (V.int .i64 (Int.ofNat 2)))]) <|
 .nil))
 (.ops (.op (some 16) .any [0] (.mov (.tmp 0)) <|
 .op (some 17) .any [1] (.mov (.tmp 1)) <|
 .op (some 18) .any [17] (.bin .quo .none (.tmp 17) (.con (V.int .i64 (Int.ofNat 16384)))) <|
 .op (some 19) .any [18] (.conv (.toInt .u64) (.tmp 18)) <|
 .op (some 20) (.tup []) [16, 19] (.call 193 [(.tmp 16), (.tmp 19), (.con (V.int .i64 (Int.ofNat 6)))]) <|
 .nil)))
 (.seq (.ops (.op (some 22) .any [1] (.mov (.tmp 1)) <|
 .op (some 23) .any [22] (.bin .lss .none (.tmp 22) (.con (V.int .i64 (Int.ofNat 128)))) <|
 .op (some 21) .any [23] (.mov (.tmp 23)) <|
 .nil))
 (.cond (.tmp 21) (.ops (.op (some 24) .any [0] (.mov (.tmp 0)) <|
 .op (some 25) .any [1] (.mov (.tmp 1)) <|
 .op (some 26) .any [25] (.conv (.toInt .u64) (.tmp 25)) <|
 .op (some 27) (.tup []) [24, 26] (.call 193 [(.tmp 24), (.tmp 26), (.con (V.int .i64 (Int.ofNat 8)))]) <|
 .nil))
 (.seq (.ops (.op (some 6) .any [0] (.mov (.tmp 0)) <|
 .op (some 7) (.tup []) [6] (.call 193 [(.tmp 6), (.con (V.int .u64 (Int.ofNat 2))), (.con (V.int .i64 (Int.ofNat 2)))]) <|
 .nil))
 (.ops (.op (some 8) .any [0] (.mov (.tmp 0)) <|
 .op (some 9) .any [1] (.mov (.tmp 1)) <|
 .op (some 10) .any [9] (.conv (.toInt .u64) (.tmp 9)) <|
 .op (some 11) (.tup []) [8, 10] (.call 193 [(.tmp 8), (.tmp 10), (.con (V.int .i64 (Int.ofNat 14)))]) <|
 .nil))))))))
def A200 : XFn := ⟨28, [.any, (.int .i64), .bool], [], C200_0⟩
def C201_0 (cc1 : XC) : XC := (.seq (.ops (.op (some 8) .any [1] (.mov (.tmp 1)) <|
 .op (some 9) .any [8] (.len false (.tmp 8)) <|
 .op (some 10) .any [] (.mov (.con (V.int .i64 (Int.ofNat 0)))) <|
 .nil))
 (.block 0 (.loop [(0, .any), (8, .any), (9, (.int .i64)), (10, (.int .i64))] [] [] cc1)))
def C201_1 (cc2 : XC) (cc3 : XC) : XC := (.seq (.ops (.op (some 11) .any [10, 9] (.bin .lss .none (.tmp 10) (.tmp 9)) <|
 .nil))
 (.seq (.cond (.tmp 11) .skip
 (.exit 0))
 (.seq (.block 1 (.seq (.ops (.op (some 12) .any [8, 10] (.iaddrS 1 (.tmp 8) (.tmp 10)) <|
 .op (some 13) .any [12] (.load none (.tmp 12)) <|
 .op (some 5) .any [13] (.mov (.tmp 13)) <|
 .nil))
 (.seq (.ops (.op (some 14) .any [5] (.mov (.tmp 5)) <|
 .op (some 15) .any [14] (.len false (.tmp 14)) <|
 .op (some 16) .any [] (.mov (.con (V.int .i64 (Int.ofNat 0)))) <|
 .nil))
 (.block 2 (.loop [(0, .any), (8, .any), (9, (.int .i64)), (10, (.int .i64)), (14, .any), (15, (.int .i64)), (16, (.int .i64))] [] [] cc3)))))
 (.keep [(0, .any), (8, .any), (9, (.int .i64)), (10, (.int .i64))] [] [] cc2))))
def C201_2 : XC := (.ops (.op (some 25) .any [10] (.bin .add .none (.tmp 10) (.con (V.int .i64 (Int.ofNat 1)))) <|
 .op (some 10) .any [25] (.mov (.tmp 25)) <|
 .nil))
def C201_3 : XC := (.seq (.ops (.op (some 17) .any [16, 15] (.bin .lss .none (.tmp 16) (.tmp 15)) <|
 .nil))
 (.seq (.cond (.tmp 17) .skip
 (.exit 2))
 (.seq (.block 3 (.seq (.ops (.op (some 18) .any [14, 16] (.iaddrS 1 (.tmp 14) (.tmp 16)) <|
 .op (some 19) (.int .u8) [18] (.load none (.tmp 18)) <|
 .op (some 7) .any [19] (.mov (.tmp 19)) <|
 .nil))
 (.ops (.op (some 20) .any [0] (.mov (.tmp 0)) <|
 .op (some 21) .any [7] (.mov (.tmp 7)) <|
 .op (some 22) .any [21] (.conv (.toInt .u32) (.tmp 21)) <|
 .op (some 23) (.tup []) [20, 22] (.call 232 [(.tmp 20), (.tmp 22), (.con (V.int .i64 (Int.ofNat 8)))]) <|
 .nil))))
 (.ops (.op (some 24) .any [16] (.bin .add .none (.tmp 16) (.con (V.int .i64 (Int.ofNat 1)))) <|
 .op (some 16) .any [24] (.mov (.tmp 24)) <|
 .nil)))))
def A201 : XFn := ⟨26, [.any, .any], [], (C201_0 (C201_1 C201_2 C201_3))⟩
def G202_0 : List AOper := [⟨(some 16), .mov (.tmp 0), none⟩, ⟨(some 17), .nilck (.tmp 16), none⟩, ⟨(some 18), .faddr 0 (.tmp 17), none⟩, ⟨(some 19), .load none (.tmp 18), none⟩, ⟨(some 20), .mov (.tmp 4), none⟩, ⟨(some 21), .nilck (.tmp 20), none⟩, ⟨(some 22), .faddr 0 (.tmp 21), none⟩, ⟨(some 23), .load none (.tmp 22), none⟩, ⟨(some 24), .call 63 [(.tmp 23)], none⟩, ⟨(some 25), .buildSlice 30 1 [V.nils] [(0, 1, (.tmp 24))], none⟩, ⟨(some 26), .call 121 [(.tmp 19), (.tmp 25)], none⟩]
def H202_0 : List DP := [⟨0, [0]⟩, ⟨1, [16]⟩, ⟨3, [17]⟩, ⟨7, [18]⟩, ⟨0, [4]⟩, ⟨16, [20]⟩, ⟨48, [21]⟩, ⟨112, [22]⟩, ⟨240, [23]⟩, ⟨496, [24]⟩, ⟨1023, [19, 25]⟩]
def C202_0 : XC := (.seq (.ops (.op (some 5) (.agg [.any, (.int .i64)]) [] (.build [V.nils, (V.int .i64 (Int.ofNat 0))] []) <|
 .op (some 6) .any [5] (.box 141 (.tmp 5)) <|
 .op (some 7) .any [0] (.mov (.tmp 0)) <|
 .op (some 8) .any [7] (.nilck (.tmp 7)) <|
 .op (some 9) .any [8] (.faddr 1 (.tmp 8)) <|
 .op (some 10) (.agg [.str, .any, .any, .any]) [9] (.load (some 4) (.tmp 9)) <|
 .op (some 11) (.agg [.any, .str, .any, .any, .any]) [6, 10] (.build [V.nilp, (V.str ⟨0, 0⟩), V.nils, V.nils, V.nils] [(0, 1, (.tmp 6)), (1, 4, (.tmp 10))]) <|
 .op (some 12) .any [11] (.box 143 (.tmp 11)) <|
 .op (some 4) .any [12] (.mov (.tmp 12)) <|
 .nil))
 (.seq (.ops (.op (some 13) .any [1] (.mov (.tmp 1)) <|
 .op (some 14) .any [4] (.mov (.tmp 4)) <|
 .op (some 15) (.tup []) [13, 14] (.callv (.tmp 13) [(.tmp 14)]) <|
 .nil))
 (.keep [(0, .ptr), (4, .ptr)] [] [] (.gdraw G202_0 H202_0 []))))
def A202 : XFn := ⟨27, [.ptr, .any], [], C202_0⟩
def C204_0 : XC := (.seq (.ops (.op (some 4) .any [] (.mov (.con (V.bool false))) <|
 .nil))
 (.seq (.ops (.op (some 5) .any [0] (.mov (.tmp 0)) <|
 .op (some 6) .any [1] (.mov (.tmp 1)) <|
 .op (some 7) (.int .i64) [5, 6] (.call 234 [(.tmp 5), (.tmp 6)]) <|
 .op (some 8) .any [7] (.bin .geq .none (.tmp 7) (.con (V.int .i64 (Int.ofNat 0)))) <|
 .op (some 4) .any [8] (.mov (.tmp 8)) <|
 .nil))
 .ret))
def A204 : XFn := ⟨9, [.any, .any], [(.tmp 4)], C204_0⟩
def C205_0 : XC := (.seq (.ops (.op (some 3) .any [] (.mov (.con (V.bool false))) <|
 .nil))
 (.seq (.ops (.op (some 4) .any [1] (.faddr 3 (.tmp 1)) <|
 .op (some 5) .any [4] (.load none (.tmp 4)) <|
 .op (some 6) .any [0] (.mov (.tmp 0)) <|
 .op (some 7) .any [5, 6] (.iaddrS 6 (.tmp 5) (.tmp 6)) <|
 .op (some 8) (.agg [(.int .i64), (.int .i64), .any, .any, (.int .i64), .any]) [7] (.load (some 6) (.tmp 7)) <|
 .op (some 9) .bool [8] (.call 188 [(.tmp 8)]) <|
 .op (some 10) .any [9] (.un .not (.tmp 9)) <|
 .op (some 3) .any [10] (.mov (.tmp 10)) <|
 .nil))
 .ret))
def A205 : XFn := ⟨11, [(.int .i64), .any], [(.tmp 3)], C205_0⟩
def C206_0 : XC := (.seq (.ops (.op (some 4) .any [] (.mov (.con (V.bool false))) <|
 .nil))
 (.seq (.ops (.op (some 5) .any [0] (.mov (.tmp 0)) <|
 .op (some 6) .any [1] (.mov (.tmp 1)) <|
 .op (some 7) (.int .i64) [5, 6] (.call 235 [(.tmp 5), (.tmp 6)]) <|
 .op (some 8) .any [7] (.bin .geq .none (.tmp 7) (.con (V.int .i64 (Int.ofNat 0)))) <|
 .op (some 4) .any [8] (.mov (.tmp 8)) <|
 .nil))
 .ret))
def A206 : XFn := ⟨9, [.any, .bool], [(.tmp 4)], C206_0⟩
def C207_0 (cc1 : XC) (cc2 : XC) : XC := (.seq (.ops (.op (some 5) .any [1] (.box 111 (.tmp 1)) <|
 .op (some 6) .any [2] (.box 39 (.tmp 2)) <|
 .nil))
 (.seq (.seq (.ops (.op (some 12) .any [3] (.mov (.tmp 3)) <|
 .op (some 13) .any [12] (.len false (.tmp 12)) <|
 .op (some 14) .any [] (.mov (.con (V.int .i64 (Int.ofNat 0)))) <|
 .nil))
 (.block 0 (.loop [(0, .any), (3, .any), (5, .ptr), (6, .ptr), (12, .any), (13, (.int .i64)), (14, (.int .i64))] [] [] cc2)))
 (.keep [(0, .any), (3, .any), (5, .ptr), (6, .ptr)] [] [] cc1)))
def C207_1 (cc4 : XC) : XC := (.seq (.ops (.op (some 42) .any [3] (.mov (.tmp 3)) <|
 .op (some 43) .any [42] (.len false (.tmp 42)) <|
 .op (some 44) .any [] (.mov (.con (V.int .i64 (Int.ofNat 0)))) <|
 .nil))
 (.block 2 (.loop [(0, .any), (5, .ptr), (6, .ptr), (42, .any), (43, (.int .i64)), (44, (.int .i64))] [] [] cc4)))
def C207_2 (cc3 : XC) : XC := (.seq (.ops (.op (some 15) .any [14, 13] (.bin .lss .none (.tmp 14) (.tmp 13)) <|
 .nil))
 (.seq (.cond (.tmp 15) .skip
 (.exit 0))
 (.seq (.block 1 (.seq (.ops (.op (some 16) .any [12, 14] (.iaddrS 1 (.tmp 12) (.tmp 14)) <|
 .op (some 17) (.int .i64) [16] (.load none (.tmp 16)) <|
 .op (some 9) .any [17] (.mov (.tmp 17)) <|
 .nil))
 (.seq (.ops (.op (some 18) .any [5] (.faddr 9 (.tmp 5)) <|
 .op (some 19) .any [18] (.load none (.tmp 18)) <|
 .op (some 20) .any [9] (.mov (.tmp 9)) <|
 .op (some 21) .any [19, 20] (.iaddrS 11 (.tmp 19) (.tmp 20)) <|
 .op (some 22) .any [21] (.faddr 2 (.tmp 21)) <|
 .op (some 23) .bool [22] (.load none (.tmp 22)) <|
 .op (some 24) .any [23] (.mov (.tmp 23)) <|
 .grp 24 false (.op (some 25) .any [5, 24] (.faddr 9 (.tmp 5)) <|
 .op (some 26) .any [25, 24] (.load none (.tmp 25)) <|
 .op (some 27) .any [9, 24] (.mov (.tmp 9)) <|
 .op (some 28) .any [26, 27, 24] (.iaddrS 11 (.tmp 26) (.tmp 27)) <|
 .op (some 29) .any [28, 24] (.faddr 3 (.tmp 28)) <|
 .op (some 30) .bool [29, 24] (.load none (.tmp 29)) <|
 .nil) 31 [24, 30] (.tmp 24) (.con (V.bool true)) (.tmp 30) <|
 .nil))
 (.cond (.tmp 31) (.ops (.op (some 32) .any [0] (.mov (.tmp 0)) <|
 .op (some 33) .any [6] (.faddr 3 (.tmp 6)) <|
 .op (some 34) .any [33] (.load none (.tmp 33)) <|
 .op (some 35) .any [9] (.mov (.tmp 9)) <|
 .op (some 36) .any [34, 35] (.iaddrS 6 (.tmp 34) (.tmp 35)) <|
 .op (some 37) (.agg [(.int .i64), (.int .i64), .any, .any, (.int .i64), .any]) [36] (.load (some 6) (.tmp 36)) <|
 .op (some 38) .bool [37] (.call 188 [(.tmp 37)]) <|
 .op (some 39) .any [38] (.un .not (.tmp 38)) <|
 .op (some 40) (.tup []) [32, 39] (.call 118 [(.tmp 32), (.tmp 39)]) <|
 .nil))
 .skip))))
 (.keep [(0, .any), (3, .any), (5, .ptr), (6, .ptr), (12, .any), (13, (.int .i64)), (14, (.int .i64))] [] [] cc3))))
def C207_3 : XC := (.ops (.op (some 41) .any [14] (.bin .add .none (.tmp 14) (.con (V.int .i64 (Int.ofNat 1)))) <|
 .op (some 14) .any [41] (.mov (.tmp 41)) <|
 .nil))
def C207_4 (cc5 : XC) : XC := (.seq (.ops (.op (some 45) .any [44, 43] (.bin .lss .none (.tmp 44) (.tmp 43)) <|
 .nil))
 (.seq (.cond (.tmp 45) .skip
 (.exit 2))
 (.seq (.block 3 (.seq (.ops (.op (some 46) .any [42, 44] (.iaddrS 1 (.tmp 42) (.tmp 44)) <|
 .op (some 47) (.int .i64) [46] (.load none (.tmp 46)) <|
 .op (some 11) .any [47] (.mov (.tmp 47)) <|
 .nil))
 (.seq (.ops (.op (some 48) .any [6] (.faddr 3 (.tmp 6)) <|
 .op (some 49) .any [48] (.load none (.tmp 48)) <|
 .op (some 50) .any [11] (.mov (.tmp 11)) <|
 .op (some 51) .any [49, 50] (.iaddrS 6 (.tmp 49) (.tmp 50)) <|
 .op (some 52) (.agg [(.int .i64), (.int .i64), .any, .any, (.int .i64), .any]) [51] (.load (some 6) (.tmp 51)) <|
 .op (some 53) .bool [52] (.call 188 [(.tmp 52)]) <|
 .op (some 54) .any [53] (.un .not (.tmp 53)) <|
 .nil))
 (.cond (.tmp 54) (.draw (.op (some 55) .any [0] (.mov (.tmp 0)) <|
 .op (some 56) .any [5] (.faddr 9 (.tmp 5)) <|
 .op (some 57) .any [56] (.load none (.tmp 56)) <|
 .op (some 58) .any [11] (.mov (.tmp 11)) <|
 .op (some 59) .any [57, 58] (.iaddrS 11 (.tmp 57) (.tmp 58)) <|
 .op (some 60) .any [59] (.faddr 1 (.tmp 59)) <|
 .op (some 61) (.int .i64) [60] (.load none (.tmp 60)) <|
 .op (some 62) .any [6] (.faddr 3 (.tmp 6)) <|
 .op (some 63) .any [62] (.load none (.tmp 62)) <|
 .op (some 64) .any [11] (.mov (.tmp 11)) <|
 .op (some 65) .any [63, 64] (.iaddrS 6 (.tmp 63) (.tmp 64)) <|
 .op (some 66) (.agg [(.int .i64), (.int .i64), .any, .any, (.int .i64), .any]) [65] (.load (some 6) (.tmp 65)) <|
 .op (some 67) (.tup []) [55, 61, 66] (.call 62 [(.tmp 55), (.tmp 61), (.tmp 66)]) <|
 .nil) [0, 0, 2, 0, 14, 30, 62, 0, 128, 0, 896, 1920, 4095])
 .skip))))
 (.keep [(0, .any), (5, .ptr), (6, .ptr), (42, .any), (43, (.int .i64)), (44, (.int .i64))] [] [] cc5))))
def C207_5 : XC := (.ops (.op (some 68) .any [44] (.bin .add .none (.tmp 44) (.con (V.int .i64 (Int.ofNat 1)))) <|
 .op (some 44) .any [68] (.mov (.tmp 68)) <|
 .nil))
def A207 : XFn := ⟨69, [.any, (.agg [(.int .i64), .any, .bool, .bool, .bool, .bool, (.int .i64), (.int .i64), .any, .any, (.int .i64), .bool, (.int .i64)]), (.agg [(.int .i64), (.int .i64), .any, .any, (.int .i64), .any]), .any], [], (C207_0 (C207_1 (C207_4 C207_5)) (C207_2 C207_3))⟩
def G208_0 : List AOper := [⟨(some 76), .faddr 9 (.tmp 6), none⟩, ⟨(some 77), .load none (.tmp 76), none⟩, ⟨(some 78), .load none (.tmp 16), none⟩, ⟨(some 79), .iaddrS 1 (.tmp 78) (.con (V.int .i64 (Int.ofNat 0))), none⟩, ⟨(some 80), .load none (.tmp 79), none⟩, ⟨(some 81), .iaddrS 11 (.tmp 77) (.tmp 80), none⟩, ⟨(some 82), .load (some 11) (.tmp 81), none⟩, ⟨(some 17), .alloc 191 [(V.str ⟨0, 0⟩), (V.int .i64 (Int.ofNat 0)), (V.bool false), (V.bool false), (V.int .i64 (Int.ofNat 0)), (V.int .i64 (Int.ofNat 0)), V.nils, V.nils, (V.int .i64 (Int.ofNat 0)), V.nils, (V.int .i64 (Int.ofNat 0))], none⟩, ⟨none, .store 11 (.tmp 17) (.tmp 82), none⟩]
def H208_0 : List DP := [⟨0, [6]⟩, ⟨1, [76]⟩, ⟨0, [16]⟩, ⟨4, [78]⟩, ⟨12, [79]⟩, ⟨31, [77, 80]⟩, ⟨63, [81]⟩, ⟨0, []⟩, ⟨255, [17, 82]⟩]
def G208_1 : List AOper := [⟨(some 107), .mov (.tmp 0), none⟩, ⟨(some 108), .nilck (.tmp 107), none⟩, ⟨(some 109), .faddr 0 (.tmp 108), none⟩, ⟨(some 110), .load none (.tmp 109), none⟩, ⟨(some 111), .faddr 1 (.tmp 19), none⟩, ⟨(some 112), .load none (.tmp 111), none⟩, ⟨(some 113), .buildSlice 30 1 [V.nils] [(0, 1, (.tmp 112))], none⟩, ⟨(some 114), .call 121 [(.tmp 110), (.tmp 113)], none⟩]
def H208_1 : List DP := [⟨0, [0]⟩, ⟨1, [107]⟩, ⟨3, [108]⟩, ⟨7, [109]⟩, ⟨0, [19]⟩, ⟨16, [111]⟩, ⟨48, [112]⟩, ⟨127, [110, 113]⟩]
def C208_0 (cc1 : XC) (cc2 : XC) : XC := (.seq (.ops (.op (some 6) .any [1] (.box 111 (.tmp 1)) <|
 .op (some 7) .any [2] (.box 39 (.tmp 2)) <|
 .nil))
 (.seq (.seq (.ops (.op (some 20) .any [7] (.faddr 5 (.tmp 7)) <|
 .op (some 21) .any [20] (.load none (.tmp 20)) <|
 .op (some 22) .any [21] (.len false (.tmp 21)) <|
 .op (some 23) .any [] (.mov (.con (V.int .i64 (Int.ofNat 0)))) <|
 .nil))
 (.block 0 (.loop [(0, .ptr), (3, .any), (4, .any), (6, .ptr), (7, .ptr), (21, .any), (22, (.int .i64)), (23, (.int .i64))] [] [] cc2)))
 (.keep [(0, .ptr), (3, .any), (4, .any), (6, .ptr), (7, .ptr)] [] [] cc1)))
def C208_1 (cc6 : XC) : XC := (.seq (.seq (.ops (.op (some 39) .any [4] (.mov (.tmp 4)) <|
 .op (some 40) .any [39] (.len false (.tmp 39)) <|
 .op (some 12) .any [40] (.mov (.tmp 40)) <|
 .nil))
 (.seq (.ops (.op (some 41) .any [12] (.mov (.tmp 12)) <|
 .op (some 42) .any [41] (.bin .leq .none (.tmp 41) (.con (V.int .i64 (Int.ofNat 64)))) <|
 .nil))
 (.cond (.tmp 42) (.ops (.op (some 43) .any [0] (.mov (.tmp 0)) <|
 .op (some 44) .any [43] (.nilck (.tmp 43)) <|
 .op (some 45) .any [44] (.faddr 0 (.tmp 44)) <|
 .op (some 46) .any [45] (.load none (.tmp 45)) <|
 .op (some 47) .any [12] (.mov (.tmp 12)) <|
 .op (some 48) .any [47] (.bin .sub .none (.tmp 47) (.con (V.int .i64 (Int.ofNat 1)))) <|
 .op (some 49) .any [48] (.conv (.toInt .u64) (.tmp 48)) <|
 .op (some 50) (.tup []) [46, 49] (.call 193 [(.tmp 46), (.tmp 49), (.con (V.int .i64 (Int.ofNat 7)))]) <|
 .nil))
 (.seq (.ops (.op (some 51) .any [0] (.mov (.tmp 0)) <|
 .op (some 52) (.tup []) [51] (.call 118 [(.tmp 51), (.con (V.bool true))]) <|
 .nil))
 (.ops (.op (some 53) .any [0] (.mov (.tmp 0)) <|
 .op (some 54) .any [53] (.nilck (.tmp 53)) <|
 .op (some 55) .any [54] (.faddr 0 (.tmp 54)) <|
 .op (some 56) .any [55] (.load none (.tmp 55)) <|
 .op (some 57) .any [12] (.mov (.tmp 12)) <|
 .op (some 58) (.tup []) [56, 57] (.call 236 [(.tmp 56), (.tmp 57)]) <|
 .nil))))))
 (.keep [(0, .ptr), (3, .any), (4, .any), (6, .ptr), (7, .ptr)] [] [] cc6))
def C208_2 (cc3 : XC) (cc4 : XC) (cc5 : XC) : XC := (.seq (.ops (.op (some 24) .any [23, 22] (.bin .lss .none (.tmp 23) (.tmp 22)) <|
 .nil))
 (.seq (.cond (.tmp 24) .skip
 (.exit 0))
 (.seq (.block 1 (.seq (.ops (.op (some 25) .any [21, 23] (.iaddrS 2 (.tmp 21) (.tmp 23)) <|
 .op (some 26) (.agg [(.int .i64), .any]) [25] (.load (some 2) (.tmp 25)) <|
 .pal 11 [] 80 [(V.int .i64 (Int.ofNat 0)), V.nils] <|
 .op none (.agg [(.int .i64), .any]) [11, 26] (.store 2 (.tmp 11) (.tmp 26)) <|
 .nil))
 (.seq (.block 2 (.loop [(0, .ptr), (3, .any), (4, .any), (6, .ptr), (7, .ptr), (21, .any), (22, (.int .i64)), (23, (.int .i64))] [11] [(11, [(.int .i64), .any])] cc5))
 (.keep [(0, .ptr), (3, .any), (4, .any), (6, .ptr), (7, .ptr), (21, .any), (22, (.int .i64)), (23, (.int .i64))] [] [] cc4))))
 (.keep [(0, .ptr), (3, .any), (4, .any), (6, .ptr), (7, .ptr), (21, .any), (22, (.int .i64)), (23, (.int .i64))] [] [] cc3))))
def C208_3 : XC := (.ops (.op (some 38) .any [23] (.bin .add .none (.tmp 23) (.con (V.int .i64 (Int.ofNat 1)))) <|
 .op (some 23) .any [38] (.mov (.tmp 38)) <|
 .nil))
def C208_4 : XC := (.ops (.op (some 35) .any [4] (.mov (.tmp 4)) <|
 .op (some 36) .any [] (.buildSlice 4 1 [(V.bool false)] [(0, 1, (.con (V.bool true)))]) <|
 .op (some 37) .one [35, 36] (.append 4 1 1 (.tmp 35) (.tmp 36)) <|
 .op (some 4) .any [37] (.mov (.tmp 37)) <|
 .nil))
def C208_5 : XC := (.seq (.seq (.ops (.op (some 27) .any [4] (.mov (.tmp 4)) <|
 .op (some 28) .any [27] (.len false (.tmp 27)) <|
 .op (some 29) .any [11] (.faddr 0 (.tmp 11)) <|
 .op (some 30) (.int .i64) [29] (.load none (.tmp 29)) <|
 .op (some 31) .any [28, 30] (.bin .lss .none (.tmp 28) (.tmp 30)) <|
 .nil))
 (.cond (.tmp 31) .skip
 (.exit 2)))
 (.block 3 (.ops (.op (some 32) .any [4] (.mov (.tmp 4)) <|
 .op (some 33) .any [] (.buildSlice 4 1 [(V.bool false)] [(0, 1, (.con (V.bool false)))]) <|
 .op (some 34) .one [32, 33] (.append 4 1 1 (.tmp 32) (.tmp 33)) <|
 .op (some 4) .any [34] (.mov (.tmp 34)) <|
 .nil))))
def C208_6 (cc7 : XC) (cc8 : XC) : XC := (.seq (.seq (.ops (.op (some 59) .any [4] (.mov (.tmp 4)) <|
 .op (some 60) .any [59] (.len false (.tmp 59)) <|
 .op (some 61) .any [] (.mov (.con (V.int .i64 (Int.ofNat 0)))) <|
 .nil))
 (.block 4 (.loop [(0, .ptr), (3, .any), (4, .any), (6, .ptr), (7, .ptr), (59, .any), (60, (.int .i64)), (61, (.int .i64))] [] [] cc8)))
 (.keep [(0, .ptr), (3, .any), (4, .any), (6, .ptr), (7, .ptr)] [] [] cc7))
def C208_7 (cc9 : XC) (cc10 : XC) : XC := (.seq (.seq (.ops (.op (some 69) .any [3] (.mov (.tmp 3)) <|
 .op (some 70) .any [69] (.len false (.tmp 69)) <|
 .op (some 71) .any [] (.mov (.con (V.int .i64 (Int.ofNat 0)))) <|
 .nil))
 (.block 6 (.loop [(0, .ptr), (4, .any), (6, .ptr), (7, .ptr), (69, .any), (70, (.int .i64)), (71, (.int .i64))] [] [] cc10)))
 (.keep [(0, .ptr), (7, .ptr)] [] [] cc9))
def C208_8 : XC := (.seq (.ops (.op (some 62) .any [61, 60] (.bin .lss .none (.tmp 61) (.tmp 60)) <|
 .nil))
 (.seq (.cond (.tmp 62) .skip
 (.exit 4))
 (.seq (.block 5 (.seq (.ops (.op (some 63) .any [59, 61] (.iaddrS 1 (.tmp 59) (.tmp 61)) <|
 .op (some 64) .bool [63] (.load none (.tmp 63)) <|
 .op (some 14) .any [64] (.mov (.tmp 64)) <|
 .nil))
 (.ops (.op (some 65) .any [0] (.mov (.tmp 0)) <|
 .op (some 66) .any [14] (.mov (.tmp 14)) <|
 .op (some 67) (.tup []) [65, 66] (.call 118 [(.tmp 65), (.tmp 66)]) <|
 .nil))))
 (.ops (.op (some 68) .any [61] (.bin .add .none (.tmp 61) (.con (V.int .i64 (Int.ofNat 1)))) <|
 .op (some 61) .any [68] (.mov (.tmp 68)) <|
 .nil)))))
def C208_9 (cc12 : XC) : XC := (.seq (.ops (.op (some 100) .any [7] (.faddr 5 (.tmp 7)) <|
 .op (some 101) .any [100] (.load none (.tmp 100)) <|
 .op (some 102) .any [101] (.len false (.tmp 101)) <|
 .op (some 103) .any [] (.mov (.con (V.int .i64 (Int.ofNat 0)))) <|
 .nil))
 (.block 9 (.loop [(0, .ptr), (101, .any), (102, (.int .i64)), (103, (.int .i64))] [] [] cc12)))
def C208_10 (cc11 : XC) : XC := (.seq (.ops (.op (some 72) .any [71, 70] (.bin .lss .none (.tmp 71) (.tmp 70)) <|
 .nil))
 (.seq (.cond (.tmp 72) .skip
 (.exit 6))
 (.seq (.block 7 (.seq (.ops (.op (some 73) .any [71] (.mov (.tmp 71)) <|
 .op (some 74) .any [69, 71] (.iaddrS 1 (.tmp 69) (.tmp 71)) <|
 .op (some 75) .any [74] (.load none (.tmp 74)) <|
 .op (some 16) .any [] (.alloc 23 [V.nils]) <|
 .op (some 15) .any [73] (.mov (.tmp 73)) <|
 .op none .any [16, 75] (.store 1 (.tmp 16) (.tmp 75)) <|
 .nil))
 (.seq (.keep [(0, .ptr), (4, .any), (6, .ptr), (7, .ptr), (15, (.int .i64)), (16, .ptr), (69, .any), (70, (.int .i64)), (71, (.int .i64))] [] [] (.gdraw G208_0 H208_0 [(0, .ptr), (4, .any), (6, .ptr), (7, .ptr), (15, (.int .i64)), (16, .ptr), (17, .ptr), (69, .any), (70, (.int .i64)), (71, (.int .i64))]))
 (.block 8 (.seq (.ops (.op (some 87) .any [4] (.mov (.tmp 4)) <|
 .op (some 88) .any [15] (.mov (.tmp 15)) <|
 .op (some 89) .any [87, 88] (.iaddrS 1 (.tmp 87) (.tmp 88)) <|
 .op (some 90) .bool [89] (.load none (.tmp 89)) <|
 .op (some 91) .any [90] (.un .not (.tmp 90)) <|
 .op (some 86) .any [91] (.mov (.tmp 91)) <|
 .nil))
 (.cond (.tmp 86) .skip
 (.seq (.ops (.op (some 93) .any [17] (.faddr 10 (.tmp 17)) <|
 .op (some 94) (.int .i64) [93] (.load none (.tmp 93)) <|
 .op (some 95) .any [94] (.bin .gtr .none (.tmp 94) (.con (V.int .i64 (Int.ofNat 0)))) <|
 .op (some 92) .any [95] (.mov (.tmp 95)) <|
 .nil))
 (.cond (.tmp 92) (.ops (.op (some 96) .any [0] (.mov (.tmp 0)) <|
 .op (some 97) .any [6, 7, 16] (.mkfn 237 [] [(.tmp 6), (.tmp 7), (.tmp 16)]) <|
 .op (some 98) (.tup []) [96, 97] (.call 202 [(.tmp 96), (.tmp 97)]) <|
 .nil))
 (.ops (.op (some 83) .any [0] (.mov (.tmp 0)) <|
 .op (some 84) .any [17, 7, 16] (.mkfn 238 [] [(.tmp 17), (.tmp 7), (.tmp 16)]) <|
 .op (some 85) (.tup []) [83, 84] (.call 202 [(.tmp 83), (.tmp 84)]) <|
 .nil))))))))))
 (.keep [(0, .ptr), (4, .any), (6, .ptr), (7, .ptr), (69, .any), (70, (.int .i64)), (71, (.int .i64))] [] [] cc11))))
def C208_11 : XC := (.ops (.op (some 99) .any [71] (.bin .add .none (.tmp 71) (.con (V.int .i64 (Int.ofNat 1)))) <|
 .op (some 71) .any [99] (.mov (.tmp 99)) <|
 .nil))
def C208_12 : XC := (.seq (.ops (.op (some 104) .any [103, 102] (.bin .lss .none (.tmp 103) (.tmp 102)) <|
 .nil))
 (.seq (.cond (.tmp 104) .skip
 (.exit 9))
 (.seq (.block 10 (.seq (.ops (.op (some 105) .any [101, 103] (.iaddrS 2 (.tmp 101) (.tmp 103)) <|
 .op (some 106) (.agg [(.int .i64), .any]) [105] (.load (some 2) (.tmp 105)) <|
 .op (some 19) .any [] (.alloc 80 [(V.int .i64 (Int.ofNat 0)), V.nils]) <|
 .op none (.agg [(.int .i64), .any]) [19, 106] (.store 2 (.tmp 19) (.tmp 106)) <|
 .nil))
 (.keep [(0, .ptr), (19, .ptr), (101, .any), (102, (.int .i64)), (103, (.int .i64))] [] [] (.gdraw G208_1 H208_1 [(0, .ptr), (101, .any), (102, (.int .i64)), (103, (.int .i64))]))))
 (.ops (.op (some 115) .any [103] (.bin .add .none (.tmp 103) (.con (V.int .i64 (Int.ofNat 1)))) <|
 .op (some 103) .any [115] (.mov (.tmp 115)) <|
 .nil)))))
def A208 : XFn := ⟨116, [.ptr, (.agg [(.int .i64), .any, .bool, .bool, .bool, .bool, (.int .i64), (.int .i64), .any, .any, (.int .i64), .bool, (.int .i64)]), (.agg [(.int .i64), (.int .i64), .any, .any, (.int .i64), .any]), .any, .any], [], (C208_0 (C208_1 (C208_6 (C208_7 (C208_9 C208_12) (C208_10 C208_11)) C208_8)) (C208_2 C208_3 C208_4 C208_5))⟩
def C209_0 : XC := (.seq (.ops (.op (some 2) .any [] (.mov (.con (V.int .i64 (Int.ofNat 0)))) <|
 .nil))
 (.seq (.seq (.ops (.op (some 3) .any [0] (.mov (.tmp 0)) <|
 .op (some 4) .any [3] (.bin .eql .ptr (.tmp 3) (.con V.nilp)) <|
 .nil))
 (.cond (.tmp 4) (.seq (.ops (.op (some 2) .any [] (.mov (.con (V.int .i64 (Int.ofNat 0)))) <|
 .nil))
 .ret)
 .skip))
 (.seq (.ops (.op (some 5) .any [0] (.mov (.tmp 0)) <|
 .op (some 6) .any [5] (.nilck (.tmp 5)) <|
 .op (some 7) .any [6] (.faddr 1 (.tmp 6)) <|
 .op (some 8) (.int .i64) [7] (.load none (.tmp 7)) <|
 .op (some 2) .any [8] (.mov (.tmp 8)) <|
 .nil))
 .ret)))
def A209 : XFn := ⟨9, [.any], [(.tmp 2)], C209_0⟩
def C210_0 : XC := (.seq (.ops (.op (some 0) .any [] (.mov (.con V.nils)) <|
 .nil))
 (.seq (.ops (.op (some 1) .any [] (.buildSlice 9 25 [(V.str ⟨0, 0⟩), (V.str ⟨0, 0⟩), (V.str ⟨0, 0⟩), (V.str ⟨0, 0⟩), (V.str ⟨0, 0⟩), (V.str ⟨0, 0⟩), (V.str ⟨0, 0⟩), (V.str ⟨0, 0⟩), (V.str ⟨0, 0⟩), (V.str ⟨0, 0⟩), (V.str ⟨0, 0⟩), (V.str ⟨0, 0⟩), (V.str ⟨0, 0⟩), (V.str ⟨0, 0⟩), (V.str ⟨0, 0⟩), (V.str ⟨0, 0⟩), (V.str ⟨0, 0⟩), (V.str ⟨0, 0⟩), (V.str ⟨0, 0⟩), (V.str ⟨0, 0⟩), (V.str ⟨0, 0⟩), (V.str ⟨0, 0⟩), (V.str ⟨0, 0⟩), (V.str ⟨0, 0⟩), (V.str ⟨0, 0⟩)] [(0, 1, (.con (V.str ⟨11, 100710650190388740279911748⟩))), (1, 1, (.con (V.str ⟨8, 6073459554577832005⟩))), (2, 1, (.con (V.str ⟨8, 6073459554577829193⟩))), (3, 1, (.con (V.str ⟨9, 1241215773001651606849⟩))), (4, 1, (.con (V.str ⟨4, 1397178708⟩))), (5, 1, (.con (V.str ⟨5, 336236856642⟩))), (6, 1, (.con (V.str ⟨3, 4476485⟩))), (7, 1, (.con (V.str ⟨7, 22026814072246082⟩))), (8, 1, (.con (V.str ⟨7, 23157120498421321⟩))), (9, 1, (.con (V.str ⟨10, 322399817400452109389381⟩))), (10, 1, (.con (V.str ⟨4, 1280070990⟩))), (11, 1, (.con (V.str ⟨5, 361940403023⟩))), (12, 1, (.con (V.str ⟨6, 78401563153491⟩))), (13, 1, (.con (V.str ⟨10, 488440487847103610377301⟩))), (14, 1, (.con (V.str ⟨8, 4990918871747741011⟩))), (15, 1, (.con (V.str ⟨3, 5522771⟩))), (16, 1, (.con (V.str ⟨6, 76155295057987⟩))), (17, 1, (.con (V.str ⟨2, 17999⟩))), (18, 1, (.con (V.str ⟨8, 5494759122808361039⟩))), (19, 1, (.con (V.str ⟨7, 23727827094750532⟩))), (20, 1, (.con (V.str ⟨4, 1163544915⟩))), (21, 1, (.con (V.str ⟨3, 5130573⟩))), (22, 1, (.con (V.str ⟨3, 5783885⟩))), (23, 1, (.con (V.str ⟨4, 1163219540⟩))), (24, 1, (.con (V.str ⟨5, 297750249798⟩)))]) <|
 .op (some 0) .any [1] (.mov (.tmp 1)) <|
 .nil))
 .ret))
def A210 : XFn := ⟨2, [], [(.tmp 0)], C210_0⟩
def G212_0 : List AOper := [⟨(some 35), .mov (.tmp 1), none⟩, ⟨(some 36), .mov (.tmp 1), none⟩, ⟨(some 37), .nilck (.tmp 36), none⟩, ⟨(some 38), .faddr 12 (.tmp 37), none⟩, ⟨(some 39), .load none (.tmp 38), none⟩, ⟨(some 40), .load (some 11) (.tmp 8), none⟩, ⟨(some 41), .buildSlice 191 1 [(V.str ⟨0, 0⟩), (V.int .i64 (Int.ofNat 0)), (V.bool false), (V.bool false), (V.int .i64 (Int.ofNat 0)), (V.int .i64 (Int.ofNat 0)), V.nils, V.nils, (V.int .i64 (Int.ofNat 0)), V.nils, (V.int .i64 (Int.ofNat 0))] [(0, 11, (.tmp 40))], none⟩, ⟨(some 42), .append 191 11 136 (.tmp 39) (.tmp 41), none⟩, ⟨(some 43), .nilck (.tmp 35), none⟩, ⟨(some 44), .faddr 12 (.tmp 43), none⟩, ⟨none, .store 1 (.tmp 44) (.tmp 42), none⟩]
def H212_0 : List DP := [⟨0, [1]⟩, ⟨0, [1]⟩, ⟨2, [36]⟩, ⟨6, [37]⟩, ⟨14, [38]⟩, ⟨0, [8]⟩, ⟨32, [40]⟩, ⟨126, [39, 41]⟩, ⟨255, [35]⟩, ⟨511, [43]⟩, ⟨1023, [44, 42]⟩]
def C212_0 (cc1 : XC) : XC := (.seq (.ops (.op (some 9) .any [0] (.mov (.tmp 0)) <|
 .op (some 10) .str [9] (.call 29 [(.tmp 9), (.con (V.int .i64 (Int.ofNat 2)))]) <|
 .op (some 11) .any [3] (.mov (.tmp 3)) <|
 .op (some 12) (.agg [.str, (.int .i64), .bool, .bool, (.int .i64), (.int .i64), .any, .any, (.int .i64), .any, (.int .i64)]) [10, 11] (.build [(V.str ⟨0, 0⟩), (V.int .i64 (Int.ofNat 0)), (V.bool false), (V.bool false), (V.int .i64 (Int.ofNat 0)), (V.int .i64 (Int.ofNat 0)), V.nils, V.nils, (V.int .i64 (Int.ofNat 0)), V.nils, (V.int .i64 (Int.ofNat 0))] [(0, 1, (.tmp 10)), (10, 1, (.tmp 11))]) <|
 .op (some 8) .any [] (.alloc 191 [(V.str ⟨0, 0⟩), (V.int .i64 (Int.ofNat 0)), (V.bool false), (V.bool false), (V.int .i64 (Int.ofNat 0)), (V.int .i64 (Int.ofNat 0)), V.nils, V.nils, (V.int .i64 (Int.ofNat 0)), V.nils, (V.int .i64 (Int.ofNat 0))]) <|
 .op none (.agg [.str, (.int .i64), .bool, .bool, (.int .i64), (.int .i64), .any, .any, (.int .i64), .any, (.int .i64)]) [8, 12] (.store 11 (.tmp 8) (.tmp 12)) <|
 .nil))
 (.seq (.ops (.op (some 13) .any [0] (.mov (.tmp 0)) <|
 .op (some 14) .any [2] (.mov (.tmp 2)) <|
 .op (some 15) .any [14] (.bin .add .none (.tmp 14) (.con (V.int .i64 (Int.ofNat 1)))) <|
 .op (some 16) (.int .i64) [13, 15] (.call 34 [(.tmp 13), (.tmp 15)]) <|
 .op (some 17) .any [8] (.faddr 1 (.tmp 8)) <|
 .op none .any [17, 16] (.store 1 (.tmp 17) (.tmp 16)) <|
 .nil))
 (.seq (.block 0 (.seq (.ops (.op (some 19) .any [1] (.mov (.tmp 1)) <|
 .op (some 20) .any [19] (.nilck (.tmp 19)) <|
 .op (some 21) .any [20] (.faddr 0 (.tmp 20)) <|
 .op (some 22) (.int .i64) [21] (.load none (.tmp 21)) <|
 .op (some 23) .any [22] (.bin .eql .none (.tmp 22) (.con (V.int .i64 (Int.ofNat 9)))) <|
 .op (some 18) .any [23] (.mov (.tmp 23)) <|
 .nil))
 (.cond (.tmp 18) .skip
 (.seq (.ops (.op (some 25) .any [0] (.mov (.tmp 0)) <|
 .op (some 26) .bool [25] (.call 31 [(.tmp 25), (.con (V.str ⟨8, 5494759122808361039⟩))]) <|
 .op (some 24) .any [26] (.mov (.tmp 26)) <|
 .nil))
 (.cond (.tmp 24) (.ops (.op (some 27) .any [8] (.faddr 2 (.tmp 8)) <|
 .op none .any [27] (.store 1 (.tmp 27) (.con (V.bool true))) <|
 .nil))
 (.seq (.ops (.op (some 29) .any [0] (.mov (.tmp 0)) <|
 .op (some 30) .bool [29] (.call 31 [(.tmp 29), (.con (V.str ⟨7, 23727827094750532⟩))]) <|
 .op (some 28) .any [30] (.mov (.tmp 30)) <|
 .nil))
 (.cond (.tmp 28) (.ops (.op (some 31) .any [0] (.mov (.tmp 0)) <|
 .op (some 32) (.agg [(.int .i64), (.int .i64), .any, .any, (.int .i64), .any]) [31] (.call 240 [(.tmp 31)]) <|
 .op (some 33) .any [8] (.faddr 3 (.tmp 8)) <|
 .op none .any [33] (.store 1 (.tmp 33) (.con (V.bool true))) <|
 .op (some 34) .any [8] (.faddr 4 (.tmp 8)) <|
 .op none (.agg [(.int .i64), (.int .i64), .any, .any, (.int .i64), .any]) [34, 32] (.store 6 (.tmp 34) (.tmp 32)) <|
 .nil))
 .skip)))))))
 (.keep [(1, .ptr), (8, .ptr)] [] [] cc1))))
def C212_1 : XC := (.keep [(1, .ptr), (8, .ptr)] [] [] (.gdraw G212_0 H212_0 []))
def A212 : XFn := ⟨45, [.any, .ptr, (.int .i64), (.int .i64)], [], (C212_0 C212_1)⟩
def C214_0 (cc1 : XC) (cc2 : XC) : XC := (.seq (.ops (.op (some 5) .any [2] (.box 39 (.tmp 2)) <|
 .pal 6 [] 39 [(V.int .i64 (Int.ofNat 0)), (V.int .i64 (Int.ofNat 0)), V.nils, V.nils, (V.int .i64 (Int.ofNat 0)), V.nils] <|
 .nil))
 (.seq (.ops (.op (some 10) .any [0] (.mov (.tmp 0)) <|
 .op (some 11) .any [10] (.nilck (.tmp 10)) <|
 .op (some 12) .any [11] (.faddr 5 (.tmp 11)) <|
 .op (some 13) .any [12] (.load none (.tmp 12)) <|
 .op (some 14) .any [1] (.mov (.tmp 1)) <|
 .op (some 15) .any [13, 14] (.iaddrS 13 (.tmp 13) (.tmp 14)) <|
 .op (some 16) (.agg [(.int .i64), .any, .bool, .bool, .bool, .bool, (.int .i64), (.int .i64), .any, .any, (.int .i64), .bool, (.int .i64)]) [15] (.load (some 13) (.tmp 15)) <|
 .pal 7 [] 111 [(V.int .i64 (Int.ofNat 0)), V.nils, (V.bool false), (V.bool false), (V.bool false), (V.bool false), (V.int .i64 (Int.ofNat 0)), (V.int .i64 (Int.ofNat 0)), V.nils, V.nils, (V.int .i64 (Int.ofNat 0)), (V.bool false), (V.int .i64 (Int.ofNat 0))] <|
 .op none (.agg [(.int .i64), .any, .bool, .bool, .bool, .bool, (.int .i64), (.int .i64), .any, .any, (.int .i64), .bool, (.int .i64)]) [7, 16] (.store 13 (.tmp 7) (.tmp 16)) <|
 .nil))
 (.seq (.ops (.op (some 17) .any [5] (.faddr 0 (.tmp 5)) <|
 .op (some 18) (.int .i64) [17] (.load none (.tmp 17)) <|
 .op (some 19) .any [7] (.faddr 0 (.tmp 7)) <|
 .op (some 20) (.int .i64) [19] (.load none (.tmp 19)) <|
 .op (some 21) .any [18, 20] (.bin .eql .none (.tmp 18) (.tmp 20)) <|
 .op (some 8) .any [21] (.mov (.tmp 21)) <|
 .nil))
 (.seq (.seq (.ops (.op (some 22) .any [7] (.faddr 0 (.tmp 7)) <|
 .op (some 23) (.int .i64) [22] (.load none (.tmp 22)) <|
 .nil))
 (.block 0 (.seq (.seq (.ops (.op (some 25) .any [23] (.bin .eql .none (.tmp 23) (.con (V.int .i64 (Int.ofNat 1)))) <|
 .op (some 24) .any [25] (.mov (.tmp 25)) <|
 .nil))
 (.cond (.tmp 24) .skip
 (.ops (.op (some 26) .any [23] (.bin .eql .none (.tmp 23) (.con (V.int .i64 (Int.ofNat 4)))) <|
 .op (some 24) .any [26] (.mov (.tmp 26)) <|
 .nil))))
 (.keep [(0, .ptr), (5, .ptr), (8, .bool), (23, (.int .i64)), (24, .bool)] [6, 7] [(6, [(.int .i64), (.int .i64), .any, .any, (.int .i64), .any]), (7, [(.int .i64), .any, .bool, .bool, .bool, .bool, (.int .i64), (.int .i64), .any, .any, (.int .i64), .bool, (.int .i64)])] cc2))))
 (.keep [(0, .ptr), (5, .ptr), (8, .bool)] [6] [(6, [(.int .i64), (.int .i64), .any, .any, (.int .i64), .any])] cc1)))))
def C214_1 (cc6 : XC) : XC := (.seq (.seq (.ops (.op (some 89) .any [8] (.mov (.tmp 8)) <|
 .op (some 90) .any [89] (.un .not (.tmp 89)) <|
 .nil))
 (.cond (.tmp 90) (.ops (.op (some 91) .any [0] (.mov (.tmp 0)) <|
 .op (some 92) (.tup []) [91] (.call 148 [(.tmp 91), (.con (V.int .i64 (Int.ofNat 13)))]) <|
 .nil))
 .skip))
 (.keep [(5, .ptr)] [6] [(6, [(.int .i64), (.int .i64), .any, .any, (.int .i64), .any])] cc6))
def C214_2 (cc3 : XC) : XC := (.cond (.tmp 24) .skip
 (.seq (.ops (.op (some 28) .any [23] (.bin .eql .none (.tmp 23) (.con (V.int .i64 (Int.ofNat 2)))) <|
 .op (some 27) .any [28] (.mov (.tmp 28)) <|
 .nil))
 (.cond (.tmp 27) (.ops (.op (some 29) .any [8] (.mov (.tmp 8)) <|
 .op (some 30) .any [29] (.mov (.tmp 29)) <|
 .grp 30 true (.op (some 31) .any [7, 30] (.faddr 2 (.tmp 7)) <|
 .op (some 32) (.agg [.bool, .bool, .bool, .bool, (.int .i64), (.int .i64)]) [31, 30] (.load (some 6) (.tmp 31)) <|
 .op (some 33) .any [5, 30] (.faddr 1 (.tmp 5)) <|
 .op (some 34) (.int .i64) [33, 30] (.load none (.tmp 33)) <|
 .op (some 35) .bool [32, 34, 30] (.call 241 [(.tmp 32), (.tmp 34)]) <|
 .nil) 36 [30, 35] (.tmp 30) (.tmp 35) (.con (V.bool false)) <|
 .op (some 8) .any [36] (.mov (.tmp 36)) <|
 .nil))
 (.seq (.seq (.ops (.op (some 38) .any [23] (.bin .eql .none (.tmp 23) (.con (V.int .i64 (Int.ofNat 5)))) <|
 .op (some 37) .any [38] (.mov (.tmp 38)) <|
 .nil))
 (.cond (.tmp 37) .skip
 (.ops (.op (some 39) .any [23] (.bin .eql .none (.tmp 23) (.con (V.int .i64 (Int.ofNat 6)))) <|
 .op (some 37) .any [39] (.mov (.tmp 39)) <|
 .nil))))
 (.keep [(0, .ptr), (5, .ptr), (8, .bool), (23, (.int .i64)), (37, .bool)] [6, 7] [(6, [(.int .i64), (.int .i64), .any, .any, (.int .i64), .any]), (7, [(.int .i64), .any, .bool, .bool, .bool, .bool, (.int .i64), (.int .i64), .any, .any, (.int .i64), .bool, (.int .i64)])] cc3)))))
def C214_3 (cc4 : XC) : XC := (.cond (.tmp 37) (.ops (.op (some 40) .any [8] (.mov (.tmp 8)) <|
 .op (some 41) .any [40] (.mov (.tmp 40)) <|
 .grp 41 true (.op (some 42) .any [7, 41] (.faddr 2 (.tmp 7)) <|
 .op (some 43) (.agg [.bool, .bool, .bool, .bool, (.int .i64), (.int .i64)]) [42, 41] (.load (some 6) (.tmp 42)) <|
 .op (some 44) .any [5, 41] (.faddr 2 (.tmp 5)) <|
 .op (some 45) .any [44, 41] (.load none (.tmp 44)) <|
 .op (some 46) .any [45, 41] (.len false (.tmp 45)) <|
 .op (some 47) .bool [43, 46, 41] (.call 241 [(.tmp 43), (.tmp 46)]) <|
 .nil) 48 [41, 47] (.tmp 41) (.tmp 47) (.con (V.bool false)) <|
 .op (some 49) .any [48] (.mov (.tmp 48)) <|
 .grp 49 true (.op (some 50) .any [7, 49] (.faddr 0 (.tmp 7)) <|
 .op (some 51) (.int .i64) [50, 49] (.load none (.tmp 50)) <|
 .op (some 52) .any [51, 49] (.bin .eql .none (.tmp 51) (.con (V.int .i64 (Int.ofNat 5)))) <|
 .op (some 53) .any [52, 49] (.mov (.tmp 52)) <|
 .grp 53 false (.op (some 54) .any [5, 53] (.faddr 2 (.tmp 5)) <|
 .op (some 55) .any [54, 53] (.load none (.tmp 54)) <|
 .op (some 56) .bool [55, 53] (.call 185 [(.tmp 55)]) <|
 .nil) 57 [53, 56, 49] (.tmp 53) (.con (V.bool true)) (.tmp 56) <|
 .nil) 58 [49, 57] (.tmp 49) (.tmp 57) (.con (V.bool false)) <|
 .op (some 8) .any [58] (.mov (.tmp 58)) <|
 .nil))
 (.seq (.ops (.op (some 60) .any [23] (.bin .eql .none (.tmp 23) (.con (V.int .i64 (Int.ofNat 3)))) <|
 .op (some 59) .any [60] (.mov (.tmp 60)) <|
 .nil))
 (.cond (.tmp 59) (.seq (.ops (.op (some 61) .any [8] (.mov (.tmp 8)) <|
 .nil))
 (.cond (.tmp 61) (.seq (.ops (.op (some 8) .any [] (.mov (.con (V.bool false))) <|
 .nil))
 (.seq (.ops (.op (some 9) .any [] (.mov (.con (V.int .i64 (Int.ofNat 0)))) <|
 .nil))
 (.block 1 (.loop [(0, .ptr), (5, .ptr), (8, .bool), (9, (.int .i64))] [6, 7] [(6, [(.int .i64), (.int .i64), .any, .any, (.int .i64), .any]), (7, [(.int .i64), .any, .bool, .bool, .bool, .bool, (.int .i64), (.int .i64), .any, .any, (.int .i64), .bool, (.int .i64)])] cc4))))
 .skip))
 (.ops (.op (some 8) .any [] (.mov (.con (V.bool false))) <|
 .nil)))))
def C214_4 (cc5 : XC) : XC := (.seq (.seq (.ops (.op (some 62) .any [9] (.mov (.tmp 9)) <|
 .op (some 63) .any [7] (.faddr 10 (.tmp 7)) <|
 .op (some 64) (.int .i64) [63] (.load none (.tmp 63)) <|
 .op (some 65) .any [62, 64] (.bin .lss .none (.tmp 62) (.tmp 64)) <|
 .op (some 66) .any [65] (.mov (.tmp 65)) <|
 .grp 66 true (.op (some 67) .any [8, 66] (.mov (.tmp 8)) <|
 .op (some 68) .any [67, 66] (.un .not (.tmp 67)) <|
 .nil) 69 [66, 68] (.tmp 66) (.tmp 68) (.con (V.bool false)) <|
 .nil))
 (.cond (.tmp 69) .skip
 (.exit 1)))
 (.seq (.block 2 (.seq (.draw (.op (some 72) .any [7] (.faddr 8 (.tmp 7)) <|
 .op (some 73) .any [72] (.load none (.tmp 72)) <|
 .op (some 74) .any [9] (.mov (.tmp 9)) <|
 .op (some 75) .any [73, 74] (.iaddrS 3 (.tmp 73) (.tmp 74)) <|
 .op (some 76) .any [75] (.faddr 0 (.tmp 75)) <|
 .op (some 77) .str [76] (.load none (.tmp 76)) <|
 .op (some 78) .any [5] (.faddr 2 (.tmp 5)) <|
 .op (some 79) .any [78] (.load none (.tmp 78)) <|
 .op (some 80) .any [79] (.conv .toStr (.tmp 79)) <|
 .op (some 81) .any [77, 80] (.bin .eql .none (.tmp 77) (.tmp 80)) <|
 .nil) [0, 1, 0, 7, 15, 31, 0, 64, 192, 511])
 (.cond (.tmp 81) (.ops (.op (some 82) .any [7] (.faddr 8 (.tmp 7)) <|
 .op (some 83) .any [82] (.load none (.tmp 82)) <|
 .op (some 84) .any [9] (.mov (.tmp 9)) <|
 .op (some 85) .any [83, 84] (.iaddrS 3 (.tmp 83) (.tmp 84)) <|
 .op (some 86) .any [85] (.faddr 1 (.tmp 85)) <|
 .op (some 87) (.int .i64) [86] (.load none (.tmp 86)) <|
 .op (some 88) (.agg [(.int .i64), (.int .i64), .any, .any, (.int .i64), .any]) [87] (.build [(V.int .i64 (Int.ofNat 0)), (V.int .i64 (Int.ofNat 0)), V.nils, V.nils, (V.int .i64 (Int.ofNat 0)), V.nils] [(0, 1, (.con (V.int .i64 (Int.ofNat 3)))), (1, 1, (.tmp 87))]) <|
 .op none (.agg [(.int .i64), (.int .i64), .any, .any, (.int .i64), .any]) [5, 88] (.store 6 (.tmp 5) (.tmp 88)) <|
 .op (some 8) .any [] (.mov (.con (V.bool true))) <|
 .nil))
 .skip)))
 (.keep [(0, .ptr), (5, .ptr), (8, .bool), (9, (.int .i64))] [6, 7] [(6, [(.int .i64), (.int .i64), .any, .any, (.int .i64), .any]), (7, [(.int .i64), .any, .bool, .bool, .bool, .bool, (.int .i64), (.int .i64), .any, .any, (.int .i64), .bool, (.int .i64)])] cc5)))
def C214_5 : XC := (.ops (.op (some 70) .any [9] (.mov (.tmp 9)) <|
 .op (some 71) .any [70] (.bin .add .none (.tmp 70) (.con (V.int .i64 (Int.ofNat 1)))) <|
 .op (some 9) .any [71] (.mov (.tmp 71)) <|
 .nil))
def C214_6 : XC := (.seq (.ops (.op (some 93) (.agg [(.int .i64), (.int .i64), .any, .any, (.int .i64), .any]) [5] (.load (some 6) (.tmp 5)) <|
 .op none (.agg [(.int .i64), (.int .i64), .any, .any, (.int .i64), .any]) [6, 93] (.store 6 (.tmp 6) (.tmp 93)) <|
 .nil))
 .ret)
def A214 : XFn := ⟨94, [.ptr, (.int .i64), (.agg [(.int .i64), (.int .i64), .any, .any, (.int .i64), .any])], [(.cell 6 (some 6))], (C214_0 (C214_1 C214_6) (C214_2 (C214_3 (C214_4 C214_5))))⟩
def G215_0 : List AOper := [⟨(some 59), .faddr 11 (.tmp 3), none⟩, ⟨(some 60), .load none (.tmp 59), none⟩, ⟨(some 61), .un .not (.tmp 60), none⟩, ⟨(some 62), .mov (.tmp 61), none⟩, ⟨(some 63), .mov (.tmp 0), (some (62, false))⟩, ⟨(some 64), .faddr 9 (.tmp 3), (some (62, false))⟩, ⟨(some 65), .load none (.tmp 64), (some (62, false))⟩, ⟨(some 66), .load (some 13) (.tmp 3), (some (62, false))⟩, ⟨(some 67), .call 244 [(.tmp 66)], (some (62, false))⟩, ⟨(some 68), .sliceSl 11 (.tmp 65) (some (.tmp 67)) none none, (some (62, false))⟩, ⟨(some 69), .call 242 [(.tmp 63), (.tmp 68), (.con (V.bool true))], (some (62, false))⟩, ⟨(some 70), .pick (.tmp 62) (.con (V.bool true)) (.tmp 69), none⟩, ⟨(some 4), .mov (.tmp 70), none⟩]
def H215_0 : List DP := [⟨0, [3]⟩, ⟨1, [59]⟩, ⟨3, [60]⟩, ⟨7, [61]⟩, ⟨15, [0, 62]⟩, ⟨15, [3, 62]⟩, ⟨47, [64, 62]⟩, ⟨15, [3, 62]⟩, ⟨143, [66, 62]⟩, ⟨495, [65, 67, 62]⟩, ⟨1023, [63, 68, 62]⟩, ⟨2047, [62, 69]⟩, ⟨4095, [70]⟩]
def C215_0 (cc1 : XC) (cc2 : XC) : XC := (.seq (.ops (.op (some 3) .any [1] (.box 111 (.tmp 1)) <|
 .op (some 4) .any [] (.mov (.con (V.bool false))) <|
 .nil))
 (.seq (.seq (.ops (.op (some 8) .any [3] (.faddr 0 (.tmp 3)) <|
 .op (some 9) (.int .i64) [8] (.load none (.tmp 8)) <|
 .op (some 10) .any [9] (.bin .neq .none (.tmp 9) (.con (V.int .i64 (Int.ofNat 7)))) <|
 .nil))
 (.cond (.tmp 10) (.seq (.ops (.op (some 11) .any [0] (.mov (.tmp 0)) <|
 .op (some 12) .any [3] (.faddr 9 (.tmp 3)) <|
 .op (some 13) .any [12] (.load none (.tmp 12)) <|
 .op (some 14) .any [3] (.faddr 11 (.tmp 3)) <|
 .op (some 15) .bool [14] (.load none (.tmp 14)) <|
 .op (some 16) .bool [11, 13, 15] (.call 242 [(.tmp 11), (.tmp 13), (.tmp 15)]) <|
 .op (some 4) .any [16] (.mov (.tmp 16)) <|
 .nil))
 .ret)
 .skip))
 (.seq (.ops (.op (some 17) (.agg [(.int .i64), .any, .bool, .bool, .bool, .bool, (.int .i64), (.int .i64), .any, .any, (.int .i64), .bool, (.int .i64)]) [3] (.load (some 13) (.tmp 3)) <|
 .op (some 18) .one [17] (.call 243 [(.tmp 17)]) <|
 .op (some 5) .any [18] (.mov (.tmp 18)) <|
 .nil))
 (.seq (.seq (.ops (.op (some 6) .any [] (.mov (.con (V.int .i64 (Int.ofNat 0)))) <|
 .nil))
 (.block 0 (.loop [(0, .any), (3, .ptr), (5, .any), (6, (.int .i64))] [] [] cc2)))
 (.keep [(0, .any), (3, .ptr)] [] [] cc1)))))
def C215_1 : XC := (.seq (.keep [(0, .any), (3, .ptr)] [] [] (.gdraw G215_0 H215_0 [(4, .bool)]))
 .ret)
def C215_2 (cc3 : XC) (cc4 : XC) (cc5 : XC) : XC := (.seq (.seq (.ops (.op (some 19) .any [6] (.mov (.tmp 6)) <|
 .op (some 20) .any [3] (.faddr 9 (.tmp 3)) <|
 .op (some 21) .any [20] (.load none (.tmp 20)) <|
 .op (some 22) .any [21] (.len false (.tmp 21)) <|
 .op (some 23) .any [19, 22] (.bin .lss .none (.tmp 19) (.tmp 22)) <|
 .nil))
 (.cond (.tmp 23) .skip
 (.exit 0)))
 (.seq (.block 1 (.seq (.seq (.ops (.op (some 26) .any [5] (.mov (.tmp 5)) <|
 .op (some 27) .any [6] (.mov (.tmp 6)) <|
 .op (some 28) .any [26, 27] (.iaddrS 1 (.tmp 26) (.tmp 27)) <|
 .op (some 29) .bool [28] (.load none (.tmp 28)) <|
 .op (some 30) .any [29] (.un .not (.tmp 29)) <|
 .nil))
 (.cond (.tmp 30) (.exit 1)
 .skip))
 (.seq (.ops (.op (some 31) .any [6] (.mov (.tmp 6)) <|
 .op (some 32) .any [31] (.bin .add .none (.tmp 31) (.con (V.int .i64 (Int.ofNat 1)))) <|
 .op (some 7) .any [32] (.mov (.tmp 32)) <|
 .nil))
 (.seq (.block 2 (.loop [(0, .any), (3, .ptr), (5, .any), (6, (.int .i64)), (7, (.int .i64))] [] [] cc5))
 (.keep [(0, .any), (3, .ptr), (5, .any), (6, (.int .i64)), (7, (.int .i64))] [] [] cc4)))))
 (.keep [(0, .any), (3, .ptr), (5, .any), (6, (.int .i64))] [] [] cc3)))
def C215_3 : XC := (.ops (.op (some 24) .any [6] (.mov (.tmp 6)) <|
 .op (some 25) .any [24] (.bin .add .none (.tmp 24) (.con (V.int .i64 (Int.ofNat 1)))) <|
 .op (some 6) .any [25] (.mov (.tmp 25)) <|
 .nil))
def C215_4 : XC := (.seq (.ops (.op (some 46) .any [0] (.mov (.tmp 0)) <|
 .op (some 47) .any [3] (.faddr 9 (.tmp 3)) <|
 .op (some 48) .any [47] (.load none (.tmp 47)) <|
 .op (some 49) .any [6] (.mov (.tmp 6)) <|
 .op (some 50) .any [7] (.mov (.tmp 7)) <|
 .op (some 51) .any [50] (.bin .add .none (.tmp 50) (.con (V.int .i64 (Int.ofNat 1)))) <|
 .op (some 52) .any [3] (.faddr 9 (.tmp 3)) <|
 .op (some 53) .any [52] (.load none (.tmp 52)) <|
 .op (some 54) .any [53] (.len false (.tmp 53)) <|
 .op (some 55) .any [51, 54] (.min (.tmp 51) [(.tmp 54)]) <|
 .op (some 56) .any [48, 49, 55] (.sliceSl 11 (.tmp 48) (some (.tmp 49)) (some (.tmp 55)) none) <|
 .op (some 57) .bool [46, 56] (.call 242 [(.tmp 46), (.tmp 56), (.con (V.bool false))]) <|
 .op (some 58) .any [57] (.un .not (.tmp 57)) <|
 .nil))
 (.cond (.tmp 58) (.seq (.ops (.op (some 4) .any [] (.mov (.con (V.bool false))) <|
 .nil))
 .ret)
 .skip))
def C215_5 : XC := (.seq (.seq (.ops (.op (some 33) .any [7] (.mov (.tmp 7)) <|
 .op (some 34) .any [3] (.faddr 9 (.tmp 3)) <|
 .op (some 35) .any [34] (.load none (.tmp 34)) <|
 .op (some 36) .any [35] (.len false (.tmp 35)) <|
 .op (some 37) .any [33, 36] (.bin .lss .none (.tmp 33) (.tmp 36)) <|
 .op (some 38) .any [37] (.mov (.tmp 37)) <|
 .grp 38 true (.op (some 39) .any [5, 38] (.mov (.tmp 5)) <|
 .op (some 40) .any [7, 38] (.mov (.tmp 7)) <|
 .op (some 41) .any [39, 40, 38] (.iaddrS 1 (.tmp 39) (.tmp 40)) <|
 .op (some 42) .bool [41, 38] (.load none (.tmp 41)) <|
 .nil) 43 [38, 42] (.tmp 38) (.tmp 42) (.con (V.bool false)) <|
 .nil))
 (.cond (.tmp 43) .skip
 (.exit 2)))
 (.block 3 (.ops (.op (some 44) .any [7] (.mov (.tmp 7)) <|
 .op (some 45) .any [44] (.bin .add .none (.tmp 44) (.con (V.int .i64 (Int.ofNat 1)))) <|
 .op (some 7) .any [45] (.mov (.tmp 45)) <|
 .nil))))
def A215 : XFn := ⟨71, [.any, (.agg [(.int .i64), .any, .bool, .bool, .bool, .bool, (.int .i64), (.int .i64), .any, .any, (.int .i64), .bool, (.int .i64)])], [(.tmp 4)], (C215_0 C215_1 (C215_2 C215_3 C215_4 C215_5))⟩
def C216_0 (cc1 : XC) : XC := (.seq (.ops (.op (some 2) .any [] (.mov (.con (V.int .i64 (Int.ofNat 0)))) <|
 .nil))
 (.seq (.seq (.ops (.op (some 3) .any [0] (.mov (.tmp 0)) <|
 .op (some 4) .any [3] (.bin .geq .none (.tmp 3) (.con (V.int .u64 (Int.ofNat 4294967296)))) <|
 .nil))
 (.cond (.tmp 4) (.seq (.ops (.op (some 5) .any [0] (.mov (.tmp 0)) <|
 .op (some 6) .any [5] (.bin .shr .none (.tmp 5) (.con (V.int .u64 (Int.ofNat 32)))) <|
 .op (some 0) .any [6] (.mov (.tmp 6)) <|
 .nil))
 (.ops (.op (some 2) .any [] (.mov (.con (V.int .i64 (Int.ofNat 32)))) <|
 .nil)))
 .skip))
 (.keep [(0, (.int .u64)), (2, (.int .i64))] [] [] cc1)))
def C216_1 (cc2 : XC) : XC := (.seq (.seq (.ops (.op (some 7) .any [0] (.mov (.tmp 0)) <|
 .op (some 8) .any [7] (.bin .geq .none (.tmp 7) (.con (V.int .u64 (Int.ofNat 65536)))) <|
 .nil))
 (.cond (.tmp 8) (.seq (.ops (.op (some 9) .any [0] (.mov (.tmp 0)) <|
 .op (some 10) .any [9] (.bin .shr .none (.tmp 9) (.con (V.int .u64 (Int.ofNat 16)))) <|
 .op (some 0) .any [10] (.mov (.tmp 10)) <|
 .nil))
 (.ops (.op (some 11) .any [2] (.mov (.tmp 2)) <|
 .op (some 12) .any [11] (.bin .add .none (.tmp 11) (.con (V.int .i64 (Int.ofNat 16)))) <|
 .op (some 2) .any [12] (.mov (.tmp 12)) <|
 .nil)))
 .skip))
 (.keep [(0, (.int .u64)), (2, (.int .i64))] [] [] cc2))
def C216_2 (cc3 : XC) : XC := (.seq (.seq (.ops (.op (some 13) .any [0] (.mov (.tmp 0)) <|
 .op (some 14) .any [13] (.bin .geq .none (.tmp 13) (.con (V.int .u64 (Int.ofNat 256)))) <|
 .nil))
 (.cond (.tmp 14) (.seq (.ops (.op (some 15) .any [0] (.mov (.tmp 0)) <|
 .op (some 16) .any [15] (.bin .shr .none (.tmp 15) (.con (V.int .u64 (Int.ofNat 8)))) <|
 .op (some 0) .any [16] (.mov (.tmp 16)) <|
 .nil))
 (.ops (.op (some 17) .any [2] (.mov (.tmp 2)) <|
 .op (some 18) .any [17] (.bin .add .none (.tmp 17) (.con (V.int .i64 (Int.ofNat 8)))) <|
 .op (some 2) .any [18] (.mov (.tmp 18)) <|
 .nil)))
 .skip))
 (.keep [(0, (.int .u64)), (2, (.int .i64))] [] [] cc3))
def C216_3 : XC := (.seq (.ops (.op (some 19) .any [2] (.mov (.tmp 2)) <|
 .op (some 20) .any [0] (.mov (.tmp 0)) <|
 .op (some 21) .any [20] (.conv (.toInt .u8) (.tmp 20)) <|
 .op (some 22) .any [21] (.idxStr (.con (V.str ⟨256, 1013866857139168856493015739252390649739422828853819106890363778118420553376247557433637691341895324351018602695588957474325319502760499485336098898398377509666851054660423406800006203933793007272033180812049178612605246075062580585469430410618860250057463399279570354286669047577758927328864388992123306212451509403152394148136105363817402562688186708175358218852349079190158732807302672745370040257219644697201681238697346923541678507645485296520536209706771857694240900605172937619415410180424934769249448772944216470541052485265558808433676546390051204254346932932316488017972311616136051587427851453983453479168⟩)) (.tmp 21)) <|
 .op (some 23) .any [22] (.conv (.toInt .i64) (.tmp 22)) <|
 .op (some 24) .any [19, 23] (.bin .add .none (.tmp 19) (.tmp 23)) <|
 .op (some 2) .any [24] (.mov (.tmp 24)) <|
 .nil))
 .ret)
def A216 : XFn := ⟨25, [(.int .u64)], [(.tmp 2)], (C216_0 (C216_1 (C216_2 C216_3)))⟩
def C220_0 : XC := (.seq (.ops (.op (some 5) .any [0] (.load none (.tmp 0)) <|
 .op (some 6) (.int .u64) [5] (.call 45 [(.tmp 5), (.con (V.int .i64 (Int.ofNat 8)))]) <|
 .op (some 7) .any [6] (.conv (.toInt .i64) (.tmp 6)) <|
 .op (some 4) .any [7] (.mov (.tmp 7)) <|
 .nil))
 (.block 0 (.seq (.ops (.op (some 23) .any [4] (.mov (.tmp 4)) <|
 .op (some 24) .any [23] (.bin .lss .none (.tmp 23) (.con (V.int .i64 (Int.ofNat 128)))) <|
 .op (some 22) .any [24] (.mov (.tmp 24)) <|
 .nil))
 (.cond (.tmp 22) (.ops (.op (some 25) .any [4] (.mov (.tmp 4)) <|
 .op none .any [1, 25] (.store 1 (.tmp 1) (.tmp 25)) <|
 .nil))
 (.seq (.ops (.op (some 27) .any [4] (.mov (.tmp 4)) <|
 .op (some 28) .any [27] (.bin .lss .none (.tmp 27) (.con (V.int .i64 (Int.ofNat 192)))) <|
 .op (some 26) .any [28] (.mov (.tmp 28)) <|
 .nil))
 (.cond (.tmp 26) (.seq (.ops (.op (some 29) .any [4] (.mov (.tmp 4)) <|
 .op (some 30) .any [29] (.bin .andNot .none (.tmp 29) (.con (V.int .i64 (Int.ofNat 128)))) <|
 .op (some 31) .any [30] (.bin .shl .none (.tmp 30) (.con (V.int .u64 (Int.ofNat 8)))) <|
 .op (some 32) .any [0] (.load none (.tmp 0)) <|
 .op (some 33) (.int .u64) [32] (.call 45 [(.tmp 32), (.con (V.int .i64 (Int.ofNat 8)))]) <|
 .op (some 34) .any [33] (.conv (.toInt .i64) (.tmp 33)) <|
 .op (some 35) .any [31, 34] (.bin .or .none (.tmp 31) (.tmp 34)) <|
 .op none .any [1, 35] (.store 1 (.tmp 1) (.tmp 35)) <|
 .nil))
 (.seq (.ops (.op (some 36) (.int .i64) [1] (.load none (.tmp 1)) <|
 .op (some 37) .any [36] (.bin .lss .none (.tmp 36) (.con (V.int .i64 (Int.ofNat 128)))) <|
 .nil))
 (.cond (.tmp 37) (.ops (.op (some 38) .any [0] (.load none (.tmp 0)) <|
 .op (some 39) (.tup []) [38] (.call 81 [(.tmp 38), (.con (V.int .i64 (Int.ofNat 4)))]) <|
 .nil))
 .skip)))
 (.seq (.ops (.op (some 8) .any [4] (.mov (.tmp 4)) <|
 .op (some 9) .any [8] (.bin .sub .none (.tmp 8) (.con (V.int .i64 (Int.ofNat 192)))) <|
 .op (some 10) .any [9] (.bin .mul .none (.tmp 9) (.con (V.int .i64 (Int.ofNat 16384)))) <|
 .op none .any [1, 10] (.store 1 (.tmp 1) (.tmp 10)) <|
 .op none .any [2] (.store 1 (.tmp 2) (.con (V.bool true))) <|
 .nil))
 (.seq (.ops (.op (some 11) .bool [3] (.load none (.tmp 3)) <|
 .op (some 12) .any [11] (.mov (.tmp 11)) <|
 .grp 12 false (.op (some 13) (.int .i64) [1, 12] (.load none (.tmp 1)) <|
 .op (some 14) .any [13, 12] (.bin .lss .none (.tmp 13) (.con (V.int .i64 (Int.ofNat 16384)))) <|
 .nil) 15 [12, 14] (.tmp 12) (.con (V.bool true)) (.tmp 14) <|
 .op (some 16) .any [15] (.mov (.tmp 15)) <|
 .grp 16 false (.op (some 17) (.int .i64) [1, 16] (.load none (.tmp 1)) <|
 .op (some 18) .any [17, 16] (.bin .gtr .none (.tmp 17) (.con (V.int .i64 (Int.ofNat 65536)))) <|
 .nil) 19 [16, 18] (.tmp 16) (.con (V.bool true)) (.tmp 18) <|
 .nil))
 (.cond (.tmp 19) (.ops (.op (some 20) .any [0] (.load none (.tmp 0)) <|
 .op (some 21) (.tup []) [20] (.call 81 [(.tmp 20), (.con (V.int .i64 (Int.ofNat 4)))]) <|
 .nil))
 .skip)))))))))
def A220 : XFn := ⟨40, [.any, .any, .any, .any], [], C220_0⟩
def C232_0 (cc1 : XC) : XC := (.seq (.ops (.op (some 7) .any [2] (.mov (.tmp 2)) <|
 .op (some 8) (.int .i64) [7] (.call 154 [(.tmp 7)]) <|
 .op (some 9) .any [8] (.bin .sub .none (.tmp 8) (.con (V.int .i64 (Int.ofNat 1)))) <|
 .op (some 6) .any [9] (.mov (.tmp 9)) <|
 .nil))
 (.block 0 (.loop [(0, .any), (1, (.int .u32)), (6, (.int .i64))] [] [] cc1)))
def C232_1 : XC := (.seq (.seq (.ops (.op (some 10) .any [6] (.mov (.tmp 6)) <|
 .op (some 11) .any [10] (.bin .geq .none (.tmp 10) (.con (V.int .i64 (Int.ofNat 0)))) <|
 .nil))
 (.cond (.tmp 11) .skip
 (.exit 0)))
 (.seq (.block 1 (.ops (.op (some 14) .any [0] (.mov (.tmp 0)) <|
 .op (some 15) .any [1] (.mov (.tmp 1)) <|
 .op (some 16) .any [6] (.mov (.tmp 6)) <|
 .op (some 17) .any [15, 16] (.bin .shr .none (.tmp 15) (.tmp 16)) <|
 .op (some 18) .any [17] (.bin .and .none (.tmp 17) (.con (V.int .u32 (Int.ofNat 1)))) <|
 .op (some 19) .any [18] (.conv (.toInt .i64) (.tmp 18)) <|
 .op (some 20) (.tup []) [14, 19] (.call 250 [(.tmp 14), (.tmp 19)]) <|
 .nil)))
 (.ops (.op (some 12) .any [6] (.mov (.tmp 6)) <|
 .op (some 13) .any [12] (.bin .sub .none (.tmp 12) (.con (V.int .i64 (Int.ofNat 1)))) <|
 .op (some 6) .any [13] (.mov (.tmp 13)) <|
 .nil))))
def A232 : XFn := ⟨21, [.any, (.int .u32), (.int .i64)], [], (C232_0 C232_1)⟩
def C233_0 : XC := (.seq (.ops (.op (some 2) .any [] (.mov (.con (V.int .i64 (Int.ofNat 0)))) <|
 .op (some 3) .any [] (.mov (.con (V.bool false))) <|
 .nil))
 (.seq (.seq (.ops (.op (some 4) .any [0] (.mov (.tmp 0)) <|
 .op (some 5) .any [4] (.bin .lss .none (.tmp 4) (.con (V.int .i64 (Int.ofNat 16384)))) <|
 .nil))
 (.cond (.tmp 5) (.seq (.ops (.op (some 6) .any [0] (.mov (.tmp 0)) <|
 .op (some 2) .any [6] (.mov (.tmp 6)) <|
 .op (some 3) .any [] (.mov (.con (V.bool false))) <|
 .nil))
 .ret)
 .skip))
 (.seq (.ops (.op (some 7) .any [0] (.mov (.tmp 0)) <|
 .op (some 8) .any [7] (.bin .quo .none (.tmp 7) (.con (V.int .i64 (Int.ofNat 16384)))) <|
 .op (some 9) .any [8] (.min (.tmp 8) [(.con (V.int .i64 (Int.ofNat 4)))]) <|
 .op (some 10) .any [9] (.bin .mul .none (.tmp 9) (.con (V.int .i64 (Int.ofNat 16384)))) <|
 .op (some 2) .any [10] (.mov (.tmp 10)) <|
 .op (some 3) .any [] (.mov (.con (V.bool true))) <|
 .nil))
 .ret)))
def A233 : XFn := ⟨11, [(.int .i64)], [(.tmp 2), (.tmp 3)], C233_0⟩
def C234_0 (cc1 : XC) (cc2 : XC) : XC := (.seq (.ops (.op (some 4) .any [] (.mov (.con (V.int .i64 (Int.ofNat 0)))) <|
 .nil))
 (.seq (.seq (.ops (.op (some 6) .any [0] (.mov (.tmp 0)) <|
 .op (some 7) .any [6] (.len false (.tmp 6)) <|
 .op (some 8) .any [] (.mov (.con (V.int .i64 (Int.ofNat 0)))) <|
 .nil))
 (.block 0 (.loop [(0, .any), (1, .any), (7, (.int .i64)), (8, (.int .i64))] [] [] cc2)))
 (.keep [] [] [] cc1)))
def C234_1 : XC := (.seq (.ops (.op (some 4) .any [] (.mov (.con (V.int .i64 (Int.negSucc 0)))) <|
 .nil))
 .ret)
def C234_2 : XC := (.seq (.ops (.op (some 9) .any [8, 7] (.bin .lss .none (.tmp 8) (.tmp 7)) <|
 .nil))
 (.seq (.cond (.tmp 9) .skip
 (.exit 0))
 (.seq (.block 1 (.seq (.ops (.op (some 10) .any [8] (.mov (.tmp 8)) <|
 .op (some 5) .any [10] (.mov (.tmp 10)) <|
 .nil))
 (.seq (.ops (.op (some 11) .any [1] (.mov (.tmp 1)) <|
 .op (some 12) .any [0] (.mov (.tmp 0)) <|
 .op (some 13) .any [5] (.mov (.tmp 5)) <|
 .op (some 14) .any [12, 13] (.iaddrS 1 (.tmp 12) (.tmp 13)) <|
 .op (some 15) (.int .i64) [14] (.load none (.tmp 14)) <|
 .op (some 16) .bool [11, 15] (.callv (.tmp 11) [(.tmp 15)]) <|
 .nil))
 (.cond (.tmp 16) (.seq (.ops (.op (some 17) .any [5] (.mov (.tmp 5)) <|
 .op (some 4) .any [17] (.mov (.tmp 17)) <|
 .nil))
 .ret)
 .skip))))
 (.ops (.op (some 18) .any [8] (.bin .add .none (.tmp 8) (.con (V.int .i64 (Int.ofNat 1)))) <|
 .op (some 8) .any [18] (.mov (.tmp 18)) <|
 .nil)))))
def A234 : XFn := ⟨19, [.any, .any], [(.tmp 4)], (C234_0 C234_1 C234_2)⟩
def C235_0 (cc1 : XC) (cc2 : XC) : XC := (.seq (.ops (.op (some 4) .any [] (.mov (.con (V.int .i64 (Int.ofNat 0)))) <|
 .nil))
 (.seq (.seq (.ops (.op (some 6) .any [0] (.mov (.tmp 0)) <|
 .op (some 7) .any [6] (.len false (.tmp 6)) <|
 .op (some 8) .any [] (.mov (.con (V.int .i64 (Int.ofNat 0)))) <|
 .nil))
 (.block 0 (.loop [(0, .any), (1, .bool), (7, (.int .i64)), (8, (.int .i64))] [] [] cc2)))
 (.keep [] [] [] cc1)))
def C235_1 : XC := (.seq (.ops (.op (some 4) .any [] (.mov (.con (V.int .i64 (Int.negSucc 0)))) <|
 .nil))
 .ret)
def C235_2 : XC := (.seq (.ops (.op (some 9) .any [8, 7] (.bin .lss .none (.tmp 8) (.tmp 7)) <|
 .nil))
 (.seq (.cond (.tmp 9) .skip
 (.exit 0))
 (.seq (.block 1 (.seq (.ops (.op (some 10) .any [8] (.mov (.tmp 8)) <|
 .op (some 5) .any [10] (.mov (.tmp 10)) <|
 .nil))
 (.seq (.ops (.op (some 11) .any [1] (.mov (.tmp 1)) <|
 .op (some 12) .any [0] (.mov (.tmp 0)) <|
 .op (some 13) .any [5] (.mov (.tmp 5)) <|
 .op (some 14) .any [12, 13] (.iaddrS 1 (.tmp 12) (.tmp 13)) <|
 .op (some 15) .bool [14] (.load none (.tmp 14)) <|
 .op (some 16) .any [11, 15] (.bin .eql .bool (.tmp 11) (.tmp 15)) <|
 .nil))
 (.cond (.tmp 16) (.seq (.ops (.op (some 17) .any [5] (.mov (.tmp 5)) <|
 .op (some 4) .any [17] (.mov (.tmp 17)) <|
 .nil))
 .ret)
 .skip))))
 (.ops (.op (some 18) .any [8] (.bin .add .none (.tmp 8) (.con (V.int .i64 (Int.ofNat 1)))) <|
 .op (some 8) .any [18] (.mov (.tmp 18)) <|
 .nil)))))
def A235 : XFn := ⟨19, [.any, .bool], [(.tmp 4)], (C235_0 C235_1 C235_2)⟩
def C237_0 : XC := (.ops (.op (some 5) .any [0] (.mov (.tmp 0)) <|
 .op (some 6) (.agg [(.int .i64), .any, .bool, .bool, .bool, .bool, (.int .i64), (.int .i64), .any, .any, (.int .i64), .bool, (.int .i64)]) [1] (.load (some 13) (.tmp 1)) <|
 .op (some 7) (.agg [(.int .i64), (.int .i64), .any, .any, (.int .i64), .any]) [2] (.load (some 6) (.tmp 2)) <|
 .op (some 8) .any [3] (.load none (.tmp 3)) <|
 .op (some 9) (.tup []) [5, 6, 7, 8] (.call 207 [(.tmp 5), (.tmp 6), (.tmp 7), (.tmp 8)]) <|
 .nil))
def A237 : XFn := ⟨10, [.any, .any, .any, .any], [], C237_0⟩
def C240_0 (cc1 : XC) : XC := (.seq (.ops (.pal 2 [] 39 [(V.int .i64 (Int.ofNat 0)), (V.int .i64 (Int.ofNat 0)), V.nils, V.nils, (V.int .i64 (Int.ofNat 0)), V.nils] <|
 .nil))
 (.seq (.ops (.op (some 4) .any [0] (.mov (.tmp 0)) <|
 .op (some 5) (.agg [(.int .i64), .str, (.int .i64)]) [4] (.call 32 [(.tmp 4)]) <|
 .pal 3 [] 92 [(V.int .i64 (Int.ofNat 0)), (V.str ⟨0, 0⟩), (V.int .i64 (Int.ofNat 0))] <|
 .op none (.agg [(.int .i64), .str, (.int .i64)]) [3, 5] (.store 3 (.tmp 3) (.tmp 5)) <|
 .nil))
 (.seq (.block 0 (.seq (.ops (.op (some 10) .any [0] (.mov (.tmp 0)) <|
 .op (some 11) .any [10] (.nilck (.tmp 10)) <|
 .op (some 12) .any [11] (.faddr 7 (.tmp 11)) <|
 .op (some 13) (.int .i64) [12] (.load none (.tmp 12)) <|
 .op (some 14) .any [13] (.bin .neq .none (.tmp 13) (.con (V.int .i64 (Int.ofNat 0)))) <|
 .op (some 9) .any [14] (.mov (.tmp 14)) <|
 .nil))
 (.cond (.tmp 9) .skip
 (.seq (.ops (.op (some 16) .any [0] (.mov (.tmp 0)) <|
 .op (some 17) .bool [16] (.call 31 [(.tmp 16), (.con (V.str ⟨4, 1163219540⟩))]) <|
 .op (some 15) .any [17] (.mov (.tmp 17)) <|
 .nil))
 (.cond (.tmp 15) (.seq (.ops (.op (some 18) (.agg [(.int .i64), (.int .i64), .any, .any, (.int .i64), .any]) [] (.build [(V.int .i64 (Int.ofNat 0)), (V.int .i64 (Int.ofNat 0)), V.nils, V.nils, (V.int .i64 (Int.ofNat 0)), V.nils] [(0, 1, (.con (V.int .i64 (Int.ofNat 1)))), (1, 1, (.con (V.int .i64 (Int.ofNat 1))))]) <|
 .op none (.agg [(.int .i64), (.int .i64), .any, .any, (.int .i64), .any]) [2, 18] (.store 6 (.tmp 2) (.tmp 18)) <|
 .nil))
 .ret)
 (.seq (.ops (.op (some 20) .any [0] (.mov (.tmp 0)) <|
 .op (some 21) .bool [20] (.call 31 [(.tmp 20), (.con (V.str ⟨5, 297750249798⟩))]) <|
 .op (some 19) .any [21] (.mov (.tmp 21)) <|
 .nil))
 (.cond (.tmp 19) (.seq (.ops (.op (some 22) (.agg [(.int .i64), (.int .i64), .any, .any, (.int .i64), .any]) [] (.build [(V.int .i64 (Int.ofNat 0)), (V.int .i64 (Int.ofNat 0)), V.nils, V.nils, (V.int .i64 (Int.ofNat 0)), V.nils] [(0, 1, (.con (V.int .i64 (Int.ofNat 1))))]) <|
 .op none (.agg [(.int .i64), (.int .i64), .any, .any, (.int .i64), .any]) [2, 22] (.store 6 (.tmp 2) (.tmp 22)) <|
 .nil))
 .ret)
 (.seq (.ops (.op (some 24) .any [0] (.mov (.tmp 0)) <|
 .op (some 25) .bool [24] (.call 31 [(.tmp 24), (.con (V.str ⟨4, 1280070990⟩))]) <|
 .op (some 23) .any [25] (.mov (.tmp 25)) <|
 .nil))
 (.cond (.tmp 23) (.seq (.ops (.op (some 26) (.agg [(.int .i64), (.int .i64), .any, .any, (.int .i64), .any]) [] (.build [(V.int .i64 (Int.ofNat 0)), (V.int .i64 (Int.ofNat 0)), V.nils, V.nils, (V.int .i64 (Int.ofNat 0)), V.nils] [(0, 1, (.con (V.int .i64 (Int.ofNat 4))))]) <|
 .op none (.agg [(.int .i64), (.int .i64), .any, .any, (.int .i64), .any]) [2, 26] (.store 6 (.tmp 2) (.tmp 26)) <|
 .nil))
 .ret)
 (.seq (.ops (.op (some 28) .any [3] (.faddr 0 (.tmp 3)) <|
 .op (some 29) (.int .i64) [28] (.load none (.tmp 28)) <|
 .op (some 30) .any [29] (.bin .eql .none (.tmp 29) (.con (V.int .i64 (Int.ofNat 3)))) <|
 .op (some 27) .any [30] (.mov (.tmp 30)) <|
 .nil))
 (.cond (.tmp 27) (.seq (.ops (.op (some 31) .any [0] (.mov (.tmp 0)) <|
 .op (some 32) (.agg [(.int .i64), .str, (.int .i64)]) [31] (.call 66 [(.tmp 31)]) <|
 .op (some 33) .str [32] (.field 1 none (.tmp 32)) <|
 .op (some 34) (.int .i64) [33] (.call 143 [(.tmp 33)]) <|
 .op (some 35) (.agg [(.int .i64), (.int .i64), .any, .any, (.int .i64), .any]) [34] (.build [(V.int .i64 (Int.ofNat 0)), (V.int .i64 (Int.ofNat 0)), V.nils, V.nils, (V.int .i64 (Int.ofNat 0)), V.nils] [(0, 1, (.con (V.int .i64 (Int.ofNat 2)))), (1, 1, (.tmp 34))]) <|
 .op none (.agg [(.int .i64), (.int .i64), .any, .any, (.int .i64), .any]) [2, 35] (.store 6 (.tmp 2) (.tmp 35)) <|
 .nil))
 .ret)
 (.seq (.ops (.op (some 37) .any [3] (.faddr 0 (.tmp 3)) <|
 .op (some 38) (.int .i64) [37] (.load none (.tmp 37)) <|
 .op (some 39) .any [38] (.bin .eql .none (.tmp 38) (.con (V.int .i64 (Int.ofNat 2)))) <|
 .op (some 36) .any [39] (.mov (.tmp 39)) <|
 .nil))
 (.cond (.tmp 36) (.seq (.ops (.op (some 40) .any [0] (.mov (.tmp 0)) <|
 .op (some 41) (.agg [(.int .i64), .str, (.int .i64)]) [40] (.call 66 [(.tmp 40)]) <|
 .op (some 42) .str [41] (.field 1 none (.tmp 41)) <|
 .op (some 43) .any [42] (.conv (.toBytes 5) (.tmp 42)) <|
 .op (some 44) (.agg [(.int .i64), (.int .i64), .any, .any, (.int .i64), .any]) [43] (.build [(V.int .i64 (Int.ofNat 0)), (V.int .i64 (Int.ofNat 0)), V.nils, V.nils, (V.int .i64 (Int.ofNat 0)), V.nils] [(0, 1, (.con (V.int .i64 (Int.ofNat 3)))), (2, 1, (.tmp 43))]) <|
 .op none (.agg [(.int .i64), (.int .i64), .any, .any, (.int .i64), .any]) [2, 44] (.store 6 (.tmp 2) (.tmp 44)) <|
 .nil))
 .ret)
 (.seq (.ops (.op (some 46) .any [3] (.faddr 0 (.tmp 3)) <|
 .op (some 47) (.int .i64) [46] (.load none (.tmp 46)) <|
 .op (some 48) .any [47] (.bin .eql .none (.tmp 47) (.con (V.int .i64 (Int.ofNat 4)))) <|
 .op (some 45) .any [48] (.mov (.tmp 48)) <|
 .nil))
 (.cond (.tmp 45) (.seq (.ops (.op (some 49) .any [0] (.mov (.tmp 0)) <|
 .op (some 50) (.agg [(.int .i64), .str, (.int .i64)]) [49] (.call 66 [(.tmp 49)]) <|
 .op (some 51) .str [50] (.field 1 none (.tmp 50)) <|
 .op (some 52) .one [51] (.call 251 [(.tmp 51)]) <|
 .op (some 53) (.agg [(.int .i64), (.int .i64), .any, .any, (.int .i64), .any]) [52] (.build [(V.int .i64 (Int.ofNat 0)), (V.int .i64 (Int.ofNat 0)), V.nils, V.nils, (V.int .i64 (Int.ofNat 0)), V.nils] [(0, 1, (.con (V.int .i64 (Int.ofNat 5)))), (2, 1, (.tmp 52))]) <|
 .op none (.agg [(.int .i64), (.int .i64), .any, .any, (.int .i64), .any]) [2, 53] (.store 6 (.tmp 2) (.tmp 53)) <|
 .nil))
 .ret)
 (.seq (.ops (.op (some 55) .any [3] (.faddr 0 (.tmp 3)) <|
 .op (some 56) (.int .i64) [55] (.load none (.tmp 55)) <|
 .op (some 57) .any [56] (.bin .eql .none (.tmp 56) (.con (V.int .i64 (Int.ofNat 7)))) <|
 .op (some 54) .any [57] (.mov (.tmp 57)) <|
 .nil))
 (.cond (.tmp 54) (.seq (.ops (.op (some 58) .any [0] (.mov (.tmp 0)) <|
 .op (some 59) (.agg [(.int .i64), .str, (.int .i64)]) [58] (.call 66 [(.tmp 58)]) <|
 .op (some 60) .str [59] (.field 1 none (.tmp 59)) <|
 .op (some 61) .any [60] (.conv (.toBytes 5) (.tmp 60)) <|
 .op (some 62) (.agg [(.int .i64), (.int .i64), .any, .any, (.int .i64), .any]) [61] (.build [(V.int .i64 (Int.ofNat 0)), (V.int .i64 (Int.ofNat 0)), V.nils, V.nils, (V.int .i64 (Int.ofNat 0)), V.nils] [(0, 1, (.con (V.int .i64 (Int.ofNat 6)))), (2, 1, (.tmp 61))]) <|
 .op none (.agg [(.int .i64), (.int .i64), .any, .any, (.int .i64), .any]) [2, 62] (.store 6 (.tmp 2) (.tmp 62)) <|
 .nil))
 .ret)
 (.ops (.op (some 6) .any [0] (.mov (.tmp 0)) <|
 .op (some 7) (.agg [(.int .i64), .str, (.int .i64)]) [3] (.load (some 3) (.tmp 3)) <|
 .op (some 8) (.tup []) [6, 7] (.call 33 [(.tmp 6), (.con (V.int .i64 (Int.ofNat 7))), (.tmp 7)]) <|
 .nil)))))))))))))))))))
 (.keep [] [2] [(2, [(.int .i64), (.int .i64), .any, .any, (.int .i64), .any])] cc1))))
def C240_1 : XC := (.seq (.ops (.op (some 63) (.agg [(.int .i64), (.int .i64), .any, .any, (.int .i64), .any]) [] (.build [(V.int .i64 (Int.ofNat 0)), (V.int .i64 (Int.ofNat 0)), V.nils, V.nils, (V.int .i64 (Int.ofNat 0)), V.nils] []) <|
 .op none (.agg [(.int .i64), (.int .i64), .any, .any, (.int .i64), .any]) [2, 63] (.store 6 (.tmp 2) (.tmp 63)) <|
 .nil))
 .ret)
def A240 : XFn := ⟨64, [.ptr], [(.cell 2 (some 6))], (C240_0 C240_1)⟩
end
end Go.Proofs.YtpafblhkafcfmaaGreatDoor
