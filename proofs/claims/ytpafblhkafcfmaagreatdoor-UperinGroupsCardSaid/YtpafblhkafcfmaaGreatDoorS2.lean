/- The code of the functions that are entered. Printed by a program off the dump. -/
import Derived.Test.YtpafblhkafcfmaaGreatDoorOgX
import Derived.KernelRfl
set_option linter.all false
set_option maxRecDepth 100000
set_option maxHeartbeats 0
namespace Go.Proofs.YtpafblhkafcfmaaGreatDoor
open Go Go.Og
noncomputable section
def G242_0 : List AOper := [⟨(some 33), .mov (.tmp 7), none⟩, ⟨(some 34), .mov (.tmp 0), none⟩, ⟨(some 35), .nilck (.tmp 34), none⟩, ⟨(some 36), .faddr 5 (.tmp 35), none⟩, ⟨(some 37), .load none (.tmp 36), none⟩, ⟨(some 38), .mov (.tmp 1), none⟩, ⟨(some 39), .mov (.tmp 8), none⟩, ⟨(some 40), .iaddrS 11 (.tmp 38) (.tmp 39), none⟩, ⟨(some 41), .faddr 1 (.tmp 40), none⟩, ⟨(some 42), .load none (.tmp 41), none⟩, ⟨(some 43), .call 253 [(.tmp 37), (.tmp 42)], none⟩, ⟨(some 44), .buildSlice 105 1 [V.nils] [(0, 1, (.tmp 43))], none⟩, ⟨(some 45), .append 105 1 24 (.tmp 33) (.tmp 44), none⟩, ⟨(some 7), .mov (.tmp 45), none⟩]
def H242_0 : List DP := [⟨0, [7]⟩, ⟨0, [0]⟩, ⟨2, [34]⟩, ⟨6, [35]⟩, ⟨14, [36]⟩, ⟨0, [1]⟩, ⟨0, [8]⟩, ⟨96, [38, 39]⟩, ⟨224, [40]⟩, ⟨480, [41]⟩, ⟨1022, [37, 42]⟩, ⟨2046, [43]⟩, ⟨4095, [33, 44]⟩, ⟨8191, [45]⟩]
def C242_0 (cc1 : XC) (cc2 : XC) : XC := (.seq (.ops (.op (some 6) .any [] (.mov (.con (V.bool false))) <|
 .nil))
 (.seq (.ops (.op (some 7) .any [] (.mov (.con V.nils)) <|
 .nil))
 (.seq (.seq (.ops (.op (some 8) .any [] (.mov (.con (V.int .i64 (Int.ofNat 0)))) <|
 .nil))
 (.block 0 (.loop [(0, .ptr), (1, .any), (2, .bool), (7, .any), (8, (.int .i64))] [] [] cc2)))
 (.keep [(7, .any)] [] [] cc1))))
def C242_1 : XC := (.seq (.ops (.op (some 46) .any [7] (.mov (.tmp 7)) <|
 .op (some 47) .bool [46] (.call 254 [(.tmp 46)]) <|
 .op (some 6) .any [47] (.mov (.tmp 47)) <|
 .nil))
 .ret)
def C242_2 : XC := (.seq (.seq (.ops (.op (some 9) .any [8] (.mov (.tmp 8)) <|
 .op (some 10) .any [1] (.mov (.tmp 1)) <|
 .op (some 11) .any [10] (.len false (.tmp 10)) <|
 .op (some 12) .any [9, 11] (.bin .lss .none (.tmp 9) (.tmp 11)) <|
 .nil))
 (.cond (.tmp 12) .skip
 (.exit 0)))
 (.seq (.block 1 (.seq (.seq (.draw (.op (some 15) .any [0] (.mov (.tmp 0)) <|
 .op (some 16) .any [15] (.nilck (.tmp 15)) <|
 .op (some 17) .any [16] (.faddr 5 (.tmp 16)) <|
 .op (some 18) .any [17] (.load none (.tmp 17)) <|
 .op (some 19) .any [1] (.mov (.tmp 1)) <|
 .op (some 20) .any [8] (.mov (.tmp 8)) <|
 .op (some 21) .any [19, 20] (.iaddrS 11 (.tmp 19) (.tmp 20)) <|
 .op (some 22) .any [21] (.faddr 1 (.tmp 21)) <|
 .op (some 23) (.int .i64) [22] (.load none (.tmp 22)) <|
 .op (some 24) .bool [18, 23] (.call 252 [(.tmp 18), (.tmp 23)]) <|
 .op (some 25) .any [24] (.mov (.tmp 24)) <|
 .grp 25 true (.op (some 26) .any [2, 25] (.mov (.tmp 2)) <|
 .op (some 27) .any [26, 25] (.mov (.tmp 26)) <|
 .grp 27 false (.op (some 28) .any [1, 27] (.mov (.tmp 1)) <|
 .op (some 29) .any [28, 27] (.len false (.tmp 28)) <|
 .op (some 30) .any [29, 27] (.bin .gtr .none (.tmp 29) (.con (V.int .i64 (Int.ofNat 1)))) <|
 .nil) 31 [27, 30, 25] (.tmp 27) (.con (V.bool true)) (.tmp 30) <|
 .nil) 32 [25, 31] (.tmp 25) (.tmp 31) (.con (V.bool false)) <|
 .nil) [0, 1, 3, 7, 0, 0, 48, 112, 240, 511, 1023, 2047, 4095, 8191, 16383, 32767, 65535, 131071])
 (.cond (.tmp 32) (.seq (.ops (.op (some 6) .any [] (.mov (.con (V.bool false))) <|
 .nil))
 .ret)
 .skip))
 (.keep [(0, .ptr), (1, .any), (2, .bool), (7, .any), (8, (.int .i64))] [] [] (.gdraw G242_0 H242_0 [(0, .ptr), (1, .any), (2, .bool), (7, .any), (8, (.int .i64))]))))
 (.ops (.op (some 13) .any [8] (.mov (.tmp 8)) <|
 .op (some 14) .any [13] (.bin .add .none (.tmp 13) (.con (V.int .i64 (Int.ofNat 1)))) <|
 .op (some 8) .any [14] (.mov (.tmp 14)) <|
 .nil))))
def A242 : XFn := ⟨48, [.ptr, .any, .bool], [(.tmp 6)], (C242_0 C242_1 C242_2)⟩
def C243_0 (cc1 : XC) (cc2 : XC) : XC := (.seq (.ops (.op (some 1) .any [0] (.box 111 (.tmp 0)) <|
 .op (some 2) .any [] (.mov (.con V.nils)) <|
 .nil))
 (.seq (.ops (.op (some 3) .any [] (.mov (.con V.nils)) <|
 .nil))
 (.seq (.seq (.ops (.op (some 4) .any [] (.mov (.con (V.int .i64 (Int.ofNat 0)))) <|
 .nil))
 (.block 0 (.loop [(1, .ptr), (3, .any), (4, (.int .i64))] [] [] cc2)))
 (.keep [(3, .any)] [] [] cc1))))
def C243_1 : XC := (.seq (.ops (.op (some 35) .any [3] (.mov (.tmp 3)) <|
 .op (some 2) .any [35] (.mov (.tmp 35)) <|
 .nil))
 .ret)
def C243_2 : XC := (.seq (.seq (.ops (.op (some 5) .any [4] (.mov (.tmp 4)) <|
 .op (some 6) .any [1] (.faddr 9 (.tmp 1)) <|
 .op (some 7) .any [6] (.load none (.tmp 6)) <|
 .op (some 8) .any [7] (.len false (.tmp 7)) <|
 .op (some 9) .any [5, 8] (.bin .lss .none (.tmp 5) (.tmp 8)) <|
 .nil))
 (.cond (.tmp 9) .skip
 (.exit 0)))
 (.seq (.block 1 (.ops (.op (some 12) .any [3] (.mov (.tmp 3)) <|
 .op (some 13) .any [1] (.faddr 9 (.tmp 1)) <|
 .op (some 14) .any [13] (.load none (.tmp 13)) <|
 .op (some 15) .any [4] (.mov (.tmp 4)) <|
 .op (some 16) .any [14, 15] (.iaddrS 11 (.tmp 14) (.tmp 15)) <|
 .op (some 17) .any [16] (.faddr 2 (.tmp 16)) <|
 .op (some 18) .bool [17] (.load none (.tmp 17)) <|
 .op (some 19) .any [18] (.mov (.tmp 18)) <|
 .grp 19 false (.op (some 20) .any [1, 19] (.faddr 9 (.tmp 1)) <|
 .op (some 21) .any [20, 19] (.load none (.tmp 20)) <|
 .op (some 22) .any [4, 19] (.mov (.tmp 4)) <|
 .op (some 23) .any [21, 22, 19] (.iaddrS 11 (.tmp 21) (.tmp 22)) <|
 .op (some 24) .any [23, 19] (.faddr 3 (.tmp 23)) <|
 .op (some 25) .bool [24, 19] (.load none (.tmp 24)) <|
 .nil) 26 [19, 25] (.tmp 19) (.con (V.bool true)) (.tmp 25) <|
 .op (some 27) .any [26] (.mov (.tmp 26)) <|
 .grp 27 false (.op (some 28) .any [4, 27] (.mov (.tmp 4)) <|
 .op (some 29) .any [1, 27] (.faddr 10 (.tmp 1)) <|
 .op (some 30) (.int .i64) [29, 27] (.load none (.tmp 29)) <|
 .op (some 31) .any [28, 30, 27] (.bin .geq .none (.tmp 28) (.tmp 30)) <|
 .nil) 32 [27, 31] (.tmp 27) (.con (V.bool true)) (.tmp 31) <|
 .op (some 33) .any [32] (.buildSlice 4 1 [(V.bool false)] [(0, 1, (.tmp 32))]) <|
 .op (some 34) .one [12, 33] (.append 4 1 1 (.tmp 12) (.tmp 33)) <|
 .op (some 3) .any [34] (.mov (.tmp 34)) <|
 .nil)))
 (.ops (.op (some 10) .any [4] (.mov (.tmp 4)) <|
 .op (some 11) .any [10] (.bin .add .none (.tmp 10) (.con (V.int .i64 (Int.ofNat 1)))) <|
 .op (some 4) .any [11] (.mov (.tmp 11)) <|
 .nil))))
def A243 : XFn := ⟨36, [(.agg [(.int .i64), .any, .bool, .bool, .bool, .bool, (.int .i64), (.int .i64), .any, .any, (.int .i64), .bool, (.int .i64)])], [(.tmp 2)], (C243_0 C243_1 C243_2)⟩
def C244_0 (cc1 : XC) (cc2 : XC) : XC := (.seq (.ops (.op (some 1) .any [0] (.box 111 (.tmp 0)) <|
 .op (some 2) .any [] (.mov (.con (V.int .i64 (Int.ofNat 0)))) <|
 .nil))
 (.seq (.ops (.op (some 5) (.agg [(.int .i64), .any, .bool, .bool, .bool, .bool, (.int .i64), (.int .i64), .any, .any, (.int .i64), .bool, (.int .i64)]) [1] (.load (some 13) (.tmp 1)) <|
 .op (some 6) .one [5] (.call 243 [(.tmp 5)]) <|
 .op (some 3) .any [6] (.mov (.tmp 6)) <|
 .nil))
 (.seq (.ops (.op (some 7) .any [1] (.faddr 10 (.tmp 1)) <|
 .op (some 8) (.int .i64) [7] (.load none (.tmp 7)) <|
 .op (some 4) .any [8] (.mov (.tmp 8)) <|
 .nil))
 (.seq (.block 0 (.loop [(3, .any), (4, (.int .i64))] [] [] cc2))
 (.keep [(4, (.int .i64))] [] [] cc1)))))
def C244_1 : XC := (.seq (.ops (.op (some 20) .any [4] (.mov (.tmp 4)) <|
 .op (some 2) .any [20] (.mov (.tmp 20)) <|
 .nil))
 .ret)
def C244_2 : XC := (.seq (.seq (.ops (.op (some 9) .any [4] (.mov (.tmp 4)) <|
 .op (some 10) .any [9] (.bin .gtr .none (.tmp 9) (.con (V.int .i64 (Int.ofNat 0)))) <|
 .op (some 11) .any [10] (.mov (.tmp 10)) <|
 .grp 11 true (.op (some 12) .any [3, 11] (.mov (.tmp 3)) <|
 .op (some 13) .any [4, 11] (.mov (.tmp 4)) <|
 .op (some 14) .any [13, 11] (.bin .sub .none (.tmp 13) (.con (V.int .i64 (Int.ofNat 1)))) <|
 .op (some 15) .any [12, 14, 11] (.iaddrS 1 (.tmp 12) (.tmp 14)) <|
 .op (some 16) .bool [15, 11] (.load none (.tmp 15)) <|
 .nil) 17 [11, 16] (.tmp 11) (.tmp 16) (.con (V.bool false)) <|
 .nil))
 (.cond (.tmp 17) .skip
 (.exit 0)))
 (.block 1 (.ops (.op (some 18) .any [4] (.mov (.tmp 4)) <|
 .op (some 19) .any [18] (.bin .sub .none (.tmp 18) (.con (V.int .i64 (Int.ofNat 1)))) <|
 .op (some 4) .any [19] (.mov (.tmp 19)) <|
 .nil))))
def A244 : XFn := ⟨21, [(.agg [(.int .i64), .any, .bool, .bool, .bool, .bool, (.int .i64), (.int .i64), .any, .any, (.int .i64), .bool, (.int .i64)])], [(.tmp 2)], (C244_0 C244_1 C244_2)⟩
def C250_0 (cc1 : XC) : XC := (.seq (.seq (.ops (.op (some 4) .any [0] (.mov (.tmp 0)) <|
 .op (some 5) .any [4] (.bin .eql .ptr (.tmp 4) (.con V.nilp)) <|
 .nil))
 (.cond (.tmp 5) .ret
 .skip))
 (.seq (.seq (.ops (.op (some 6) .any [0] (.mov (.tmp 0)) <|
 .op (some 7) .any [6] (.nilck (.tmp 6)) <|
 .op (some 8) .any [7] (.faddr 1 (.tmp 7)) <|
 .op (some 9) (.int .i64) [8] (.load none (.tmp 8)) <|
 .op (some 10) .any [9] (.bin .rem .none (.tmp 9) (.con (V.int .i64 (Int.ofNat 8)))) <|
 .op (some 11) .any [10] (.bin .eql .none (.tmp 10) (.con (V.int .i64 (Int.ofNat 0)))) <|
 .nil))
 (.cond (.tmp 11) (.ops (.op (some 12) .any [0] (.mov (.tmp 0)) <|
 .op (some 13) .any [0] (.mov (.tmp 0)) <|
 .op (some 14) .any [13] (.nilck (.tmp 13)) <|
 .op (some 15) .any [14] (.faddr 0 (.tmp 14)) <|
 .op (some 16) .any [15] (.load none (.tmp 15)) <|
 .op (some 17) .any [] (.buildSlice 5 1 [(V.int .u8 (Int.ofNat 0))] [(0, 1, (.con (V.int .u8 (Int.ofNat 0))))]) <|
 .op (some 18) .one [16, 17] (.append 5 1 1 (.tmp 16) (.tmp 17)) <|
 .op (some 19) .any [12] (.nilck (.tmp 12)) <|
 .op (some 20) .any [19] (.faddr 0 (.tmp 19)) <|
 .op none .any [20, 18] (.store 1 (.tmp 20) (.tmp 18)) <|
 .nil))
 .skip))
 (.keep [(0, .any), (1, (.int .i64))] [] [] cc1)))
def C250_1 (cc2 : XC) : XC := (.seq (.seq (.ops (.op (some 21) .any [1] (.mov (.tmp 1)) <|
 .op (some 22) .any [21] (.bin .neq .none (.tmp 21) (.con (V.int .i64 (Int.ofNat 0)))) <|
 .nil))
 (.cond (.tmp 22) (.draw (.op (some 23) .any [0] (.mov (.tmp 0)) <|
 .op (some 24) .any [23] (.nilck (.tmp 23)) <|
 .op (some 25) .any [24] (.faddr 0 (.tmp 24)) <|
 .op (some 26) .any [25] (.load none (.tmp 25)) <|
 .op (some 27) .any [0] (.mov (.tmp 0)) <|
 .op (some 28) .any [27] (.nilck (.tmp 27)) <|
 .op (some 29) .any [28] (.faddr 1 (.tmp 28)) <|
 .op (some 30) (.int .i64) [29] (.load none (.tmp 29)) <|
 .op (some 31) .any [30] (.bin .quo .none (.tmp 30) (.con (V.int .i64 (Int.ofNat 8)))) <|
 .op (some 32) .any [26, 31] (.iaddrS 1 (.tmp 26) (.tmp 31)) <|
 .op (some 33) (.int .u8) [32] (.load none (.tmp 32)) <|
 .op (some 34) .any [0] (.mov (.tmp 0)) <|
 .op (some 35) .any [34] (.nilck (.tmp 34)) <|
 .op (some 36) .any [35] (.faddr 1 (.tmp 35)) <|
 .op (some 37) (.int .i64) [36] (.load none (.tmp 36)) <|
 .op (some 38) .any [37] (.bin .rem .none (.tmp 37) (.con (V.int .i64 (Int.ofNat 8)))) <|
 .op (some 39) .any [38] (.bin .shr .none (.con (V.int .u8 (Int.ofNat 128))) (.tmp 38)) <|
 .op (some 40) .any [33, 39] (.bin .or .none (.tmp 33) (.tmp 39)) <|
 .op (some 41) .any [26, 31] (.iaddrS 1 (.tmp 26) (.tmp 31)) <|
 .op none .any [41, 40] (.store 1 (.tmp 41) (.tmp 40)) <|
 .nil) [0, 1, 3, 7, 0, 16, 48, 112, 240, 511, 1023, 0, 2048, 6144, 14336, 30720, 63488, 131071, 262143, 524287])
 .skip))
 (.keep [(0, .any)] [] [] cc2))
def C250_2 : XC := (.ops (.op (some 42) .any [0] (.mov (.tmp 0)) <|
 .op (some 43) .any [42] (.nilck (.tmp 42)) <|
 .op (some 44) .any [43] (.faddr 1 (.tmp 43)) <|
 .op (some 45) (.int .i64) [44] (.load none (.tmp 44)) <|
 .op (some 46) .any [45] (.bin .add .none (.tmp 45) (.con (V.int .i64 (Int.ofNat 1)))) <|
 .op (some 47) .any [42] (.nilck (.tmp 42)) <|
 .op (some 48) .any [47] (.faddr 1 (.tmp 47)) <|
 .op none .any [48, 46] (.store 1 (.tmp 48) (.tmp 46)) <|
 .nil))
def A250 : XFn := ⟨49, [.any, (.int .i64)], [], (C250_0 (C250_1 C250_2))⟩
def C252_0 (cc1 : XC) (cc2 : XC) : XC := (.seq (.ops (.op (some 4) .any [] (.mov (.con (V.bool false))) <|
 .nil))
 (.seq (.seq (.ops (.op (some 7) .any [0] (.mov (.tmp 0)) <|
 .op (some 8) .any [1] (.mov (.tmp 1)) <|
 .op (some 9) .any [7, 8] (.iaddrS 13 (.tmp 7) (.tmp 8)) <|
 .op (some 10) .any [9] (.faddr 0 (.tmp 9)) <|
 .op (some 11) (.int .i64) [10] (.load none (.tmp 10)) <|
 .op (some 12) .any [11] (.bin .neq .none (.tmp 11) (.con (V.int .i64 (Int.ofNat 9)))) <|
 .op (some 13) .any [12] (.mov (.tmp 12)) <|
 .grp 13 false (.op (some 14) .any [0, 13] (.mov (.tmp 0)) <|
 .op (some 15) .any [1, 13] (.mov (.tmp 1)) <|
 .op (some 16) .any [14, 15, 13] (.iaddrS 13 (.tmp 14) (.tmp 15)) <|
 .op (some 17) .any [16, 13] (.faddr 1 (.tmp 16)) <|
 .op (some 18) .any [17, 13] (.load none (.tmp 17)) <|
 .op (some 19) .any [18, 13] (.len false (.tmp 18)) <|
 .op (some 20) .any [19, 13] (.bin .gtr .none (.tmp 19) (.con (V.int .i64 (Int.ofNat 0)))) <|
 .nil) 21 [13, 20] (.tmp 13) (.con (V.bool true)) (.tmp 20) <|
 .nil))
 (.cond (.tmp 21) (.seq (.ops (.op (some 4) .any [] (.mov (.con (V.bool false))) <|
 .nil))
 .ret)
 .skip))
 (.seq (.ops (.op (some 22) .any [0] (.mov (.tmp 0)) <|
 .op (some 23) .any [1] (.mov (.tmp 1)) <|
 .op (some 24) .any [22, 23] (.iaddrS 13 (.tmp 22) (.tmp 23)) <|
 .op (some 25) .any [24] (.faddr 11 (.tmp 24)) <|
 .op (some 26) .bool [25] (.load none (.tmp 25)) <|
 .op (some 5) .any [26] (.mov (.tmp 26)) <|
 .nil))
 (.seq (.seq (.ops (.op (some 6) .any [] (.mov (.con (V.int .i64 (Int.ofNat 0)))) <|
 .nil))
 (.block 0 (.loop [(0, .any), (1, (.int .i64)), (5, .bool), (6, (.int .i64))] [] [] cc2)))
 (.keep [(5, .bool)] [] [] cc1)))))
def C252_1 : XC := (.seq (.ops (.op (some 51) .any [5] (.mov (.tmp 5)) <|
 .op (some 4) .any [51] (.mov (.tmp 51)) <|
 .nil))
 .ret)
def C252_2 : XC := (.seq (.seq (.ops (.op (some 27) .any [6] (.mov (.tmp 6)) <|
 .op (some 28) .any [0] (.mov (.tmp 0)) <|
 .op (some 29) .any [1] (.mov (.tmp 1)) <|
 .op (some 30) .any [28, 29] (.iaddrS 13 (.tmp 28) (.tmp 29)) <|
 .op (some 31) .any [30] (.faddr 9 (.tmp 30)) <|
 .op (some 32) .any [31] (.load none (.tmp 31)) <|
 .op (some 33) .any [32] (.len false (.tmp 32)) <|
 .op (some 34) .any [27, 33] (.bin .lss .none (.tmp 27) (.tmp 33)) <|
 .nil))
 (.cond (.tmp 34) .skip
 (.exit 0)))
 (.seq (.block 1 (.ops (.op (some 37) .any [5] (.mov (.tmp 5)) <|
 .op (some 38) .any [37] (.mov (.tmp 37)) <|
 .grp 38 false (.op (some 39) .any [0, 38] (.mov (.tmp 0)) <|
 .op (some 40) .any [0, 38] (.mov (.tmp 0)) <|
 .op (some 41) .any [1, 38] (.mov (.tmp 1)) <|
 .op (some 42) .any [40, 41, 38] (.iaddrS 13 (.tmp 40) (.tmp 41)) <|
 .op (some 43) .any [42, 38] (.faddr 9 (.tmp 42)) <|
 .op (some 44) .any [43, 38] (.load none (.tmp 43)) <|
 .op (some 45) .any [6, 38] (.mov (.tmp 6)) <|
 .op (some 46) .any [44, 45, 38] (.iaddrS 11 (.tmp 44) (.tmp 45)) <|
 .op (some 47) .any [46, 38] (.faddr 1 (.tmp 46)) <|
 .op (some 48) (.int .i64) [47, 38] (.load none (.tmp 47)) <|
 .op (some 49) .bool [39, 48, 38] (.call 252 [(.tmp 39), (.tmp 48)]) <|
 .nil) 50 [38, 49] (.tmp 38) (.con (V.bool true)) (.tmp 49) <|
 .op (some 5) .any [50] (.mov (.tmp 50)) <|
 .nil)))
 (.ops (.op (some 35) .any [6] (.mov (.tmp 6)) <|
 .op (some 36) .any [35] (.bin .add .none (.tmp 35) (.con (V.int .i64 (Int.ofNat 1)))) <|
 .op (some 6) .any [36] (.mov (.tmp 36)) <|
 .nil))))
def A252 : XFn := ⟨52, [.any, (.int .i64)], [(.tmp 4)], (C252_0 C252_1 C252_2)⟩
def C253_0 (cc1 : XC) (cc2 : XC) : XC := (.seq (.ops (.op (some 4) .any [] (.mov (.con V.nils)) <|
 .nil))
 (.seq (.seq (.ops (.op (some 7) .any [0] (.mov (.tmp 0)) <|
 .op (some 8) .any [1] (.mov (.tmp 1)) <|
 .op (some 9) .any [7, 8] (.iaddrS 13 (.tmp 7) (.tmp 8)) <|
 .op (some 10) .any [9] (.faddr 1 (.tmp 9)) <|
 .op (some 11) .any [10] (.load none (.tmp 10)) <|
 .op (some 12) .any [11] (.len false (.tmp 11)) <|
 .op (some 13) .any [12] (.bin .gtr .none (.tmp 12) (.con (V.int .i64 (Int.ofNat 0)))) <|
 .nil))
 (.cond (.tmp 13) (.seq (.ops (.op (some 14) .any [0] (.mov (.tmp 0)) <|
 .op (some 15) .any [1] (.mov (.tmp 1)) <|
 .op (some 16) .any [14, 15] (.iaddrS 13 (.tmp 14) (.tmp 15)) <|
 .op (some 17) .any [16] (.faddr 1 (.tmp 16)) <|
 .op (some 18) .any [17] (.load none (.tmp 17)) <|
 .op (some 19) .any [18] (.sliceSl 2 (.tmp 18) none (some (.con (V.int .i64 (Int.ofNat 1)))) none) <|
 .op (some 4) .any [19] (.mov (.tmp 19)) <|
 .nil))
 .ret)
 .skip))
 (.seq (.ops (.op (some 5) .any [] (.mov (.con V.nils)) <|
 .nil))
 (.seq (.seq (.ops (.op (some 6) .any [] (.mov (.con (V.int .i64 (Int.ofNat 0)))) <|
 .nil))
 (.block 0 (.loop [(0, .any), (1, (.int .i64)), (5, .any), (6, (.int .i64))] [] [] cc2)))
 (.keep [(5, .any)] [] [] cc1)))))
def C253_1 : XC := (.seq (.ops (.op (some 43) .any [5] (.mov (.tmp 5)) <|
 .op (some 4) .any [43] (.mov (.tmp 43)) <|
 .nil))
 .ret)
def C253_2 : XC := (.seq (.seq (.ops (.op (some 20) .any [6] (.mov (.tmp 6)) <|
 .op (some 21) .any [0] (.mov (.tmp 0)) <|
 .op (some 22) .any [1] (.mov (.tmp 1)) <|
 .op (some 23) .any [21, 22] (.iaddrS 13 (.tmp 21) (.tmp 22)) <|
 .op (some 24) .any [23] (.faddr 9 (.tmp 23)) <|
 .op (some 25) .any [24] (.load none (.tmp 24)) <|
 .op (some 26) .any [25] (.len false (.tmp 25)) <|
 .op (some 27) .any [20, 26] (.bin .lss .none (.tmp 20) (.tmp 26)) <|
 .nil))
 (.cond (.tmp 27) .skip
 (.exit 0)))
 (.seq (.block 1 (.ops (.op (some 30) .any [5] (.mov (.tmp 5)) <|
 .op (some 31) .any [0] (.mov (.tmp 0)) <|
 .op (some 32) .any [0] (.mov (.tmp 0)) <|
 .op (some 33) .any [1] (.mov (.tmp 1)) <|
 .op (some 34) .any [32, 33] (.iaddrS 13 (.tmp 32) (.tmp 33)) <|
 .op (some 35) .any [34] (.faddr 9 (.tmp 34)) <|
 .op (some 36) .any [35] (.load none (.tmp 35)) <|
 .op (some 37) .any [6] (.mov (.tmp 6)) <|
 .op (some 38) .any [36, 37] (.iaddrS 11 (.tmp 36) (.tmp 37)) <|
 .op (some 39) .any [38] (.faddr 1 (.tmp 38)) <|
 .op (some 40) (.int .i64) [39] (.load none (.tmp 39)) <|
 .op (some 41) .one [31, 40] (.call 253 [(.tmp 31), (.tmp 40)]) <|
 .op (some 42) .one [30, 41] (.append 214 2 16 (.tmp 30) (.tmp 41)) <|
 .op (some 5) .any [42] (.mov (.tmp 42)) <|
 .nil)))
 (.ops (.op (some 28) .any [6] (.mov (.tmp 6)) <|
 .op (some 29) .any [28] (.bin .add .none (.tmp 28) (.con (V.int .i64 (Int.ofNat 1)))) <|
 .op (some 6) .any [29] (.mov (.tmp 29)) <|
 .nil))))
def A253 : XFn := ⟨44, [.any, (.int .i64)], [(.tmp 4)], (C253_0 C253_1 C253_2)⟩
def C254_0 (cc1 : XC) (cc2 : XC) : XC := (.seq (.ops (.op (some 2) .any [] (.mov (.con (V.bool false))) <|
 .nil))
 (.seq (.ops (.op (some 3) .any [] (.mov (.con V.nils)) <|
 .nil))
 (.seq (.seq (.ops (.op (some 4) .any [] (.mov (.con (V.int .i64 (Int.ofNat 0)))) <|
 .nil))
 (.block 0 (.loop [(0, .any), (3, .any), (4, (.int .i64))] [] [] cc2)))
 (.keep [] [] [] cc1))))
def C254_1 : XC := (.seq (.ops (.op (some 2) .any [] (.mov (.con (V.bool true))) <|
 .nil))
 .ret)
def C254_2 (cc3 : XC) (cc4 : XC) : XC := (.seq (.seq (.ops (.op (some 6) .any [4] (.mov (.tmp 4)) <|
 .op (some 7) .any [0] (.mov (.tmp 0)) <|
 .op (some 8) .any [7] (.len false (.tmp 7)) <|
 .op (some 9) .any [6, 8] (.bin .lss .none (.tmp 6) (.tmp 8)) <|
 .nil))
 (.cond (.tmp 9) .skip
 (.exit 0)))
 (.seq (.block 1 (.seq (.ops (.op (some 5) .any [] (.mov (.con (V.int .i64 (Int.ofNat 0)))) <|
 .nil))
 (.block 2 (.loop [(0, .any), (3, .any), (4, (.int .i64)), (5, (.int .i64))] [] [] cc4))))
 (.keep [(0, .any), (3, .any), (4, (.int .i64))] [] [] cc3)))
def C254_3 : XC := (.ops (.op (some 10) .any [4] (.mov (.tmp 4)) <|
 .op (some 11) .any [10] (.bin .add .none (.tmp 10) (.con (V.int .i64 (Int.ofNat 1)))) <|
 .op (some 4) .any [11] (.mov (.tmp 11)) <|
 .nil))
def C254_4 : XC := (.seq (.seq (.ops (.op (some 12) .any [5] (.mov (.tmp 5)) <|
 .op (some 13) .any [0] (.mov (.tmp 0)) <|
 .op (some 14) .any [4] (.mov (.tmp 4)) <|
 .op (some 15) .any [13, 14] (.iaddrS 1 (.tmp 13) (.tmp 14)) <|
 .op (some 16) .any [15] (.load none (.tmp 15)) <|
 .op (some 17) .any [16] (.len false (.tmp 16)) <|
 .op (some 18) .any [12, 17] (.bin .lss .none (.tmp 12) (.tmp 17)) <|
 .nil))
 (.cond (.tmp 18) .skip
 (.exit 2)))
 (.seq (.block 3 (.seq (.seq (.ops (.op (some 21) .any [3] (.mov (.tmp 3)) <|
 .op (some 22) .any [0] (.mov (.tmp 0)) <|
 .op (some 23) .any [4] (.mov (.tmp 4)) <|
 .op (some 24) .any [22, 23] (.iaddrS 1 (.tmp 22) (.tmp 23)) <|
 .op (some 25) .any [24] (.load none (.tmp 24)) <|
 .op (some 26) .any [5] (.mov (.tmp 5)) <|
 .op (some 27) .any [25, 26] (.iaddrS 2 (.tmp 25) (.tmp 26)) <|
 .op (some 28) (.agg [(.int .i64), (.int .i64)]) [27] (.load (some 2) (.tmp 27)) <|
 .op (some 29) .bool [21, 28] (.call 261 [(.tmp 21), (.tmp 28)]) <|
 .nil))
 (.cond (.tmp 29) (.seq (.ops (.op (some 2) .any [] (.mov (.con (V.bool false))) <|
 .nil))
 .ret)
 .skip))
 (.ops (.op (some 30) .any [3] (.mov (.tmp 3)) <|
 .op (some 31) .any [0] (.mov (.tmp 0)) <|
 .op (some 32) .any [4] (.mov (.tmp 4)) <|
 .op (some 33) .any [31, 32] (.iaddrS 1 (.tmp 31) (.tmp 32)) <|
 .op (some 34) .any [33] (.load none (.tmp 33)) <|
 .op (some 35) .any [5] (.mov (.tmp 5)) <|
 .op (some 36) .any [34, 35] (.iaddrS 2 (.tmp 34) (.tmp 35)) <|
 .op (some 37) (.agg [(.int .i64), (.int .i64)]) [36] (.load (some 2) (.tmp 36)) <|
 .op (some 38) .any [37] (.buildSlice 214 1 [(V.int .i64 (Int.ofNat 0)), (V.int .i64 (Int.ofNat 0))] [(0, 2, (.tmp 37))]) <|
 .op (some 39) .one [30, 38] (.append 214 2 16 (.tmp 30) (.tmp 38)) <|
 .op (some 3) .any [39] (.mov (.tmp 39)) <|
 .nil))))
 (.ops (.op (some 19) .any [5] (.mov (.tmp 5)) <|
 .op (some 20) .any [19] (.bin .add .none (.tmp 19) (.con (V.int .i64 (Int.ofNat 1)))) <|
 .op (some 5) .any [20] (.mov (.tmp 20)) <|
 .nil))))
def A254 : XFn := ⟨40, [.any], [(.tmp 2)], (C254_0 C254_1 (C254_2 C254_3 C254_4))⟩
def C261_0 (cc1 : XC) (cc2 : XC) : XC := (.seq (.ops (.op (some 3) .any [1] (.box 214 (.tmp 1)) <|
 .op (some 4) .any [] (.mov (.con (V.bool false))) <|
 .nil))
 (.seq (.seq (.ops (.op (some 5) .any [] (.mov (.con (V.int .i64 (Int.ofNat 0)))) <|
 .nil))
 (.block 0 (.loop [(0, .any), (3, .ptr), (5, (.int .i64))] [] [] cc2)))
 (.keep [] [] [] cc1)))
def C261_1 : XC := (.seq (.ops (.op (some 4) .any [] (.mov (.con (V.bool false))) <|
 .nil))
 .ret)
def C261_2 : XC := (.seq (.seq (.ops (.op (some 6) .any [5] (.mov (.tmp 5)) <|
 .op (some 7) .any [0] (.mov (.tmp 0)) <|
 .op (some 8) .any [7] (.len false (.tmp 7)) <|
 .op (some 9) .any [6, 8] (.bin .lss .none (.tmp 6) (.tmp 8)) <|
 .nil))
 (.cond (.tmp 9) .skip
 (.exit 0)))
 (.seq (.block 1 (.seq (.draw (.op (some 12) .any [0] (.mov (.tmp 0)) <|
 .op (some 13) .any [5] (.mov (.tmp 5)) <|
 .op (some 14) .any [12, 13] (.iaddrS 2 (.tmp 12) (.tmp 13)) <|
 .op (some 15) (.agg [(.int .i64), (.int .i64)]) [14] (.load (some 2) (.tmp 14)) <|
 .op (some 16) (.agg [(.int .i64), (.int .i64)]) [3] (.load (some 2) (.tmp 3)) <|
 .op (some 17) .any [15, 16] (.bin .eql (.flat [(0, .int), (1, .int)]) (.tmp 15) (.tmp 16)) <|
 .nil) [0, 0, 3, 7, 0, 31])
 (.cond (.tmp 17) (.seq (.ops (.op (some 4) .any [] (.mov (.con (V.bool true))) <|
 .nil))
 .ret)
 .skip)))
 (.ops (.op (some 10) .any [5] (.mov (.tmp 5)) <|
 .op (some 11) .any [10] (.bin .add .none (.tmp 10) (.con (V.int .i64 (Int.ofNat 1)))) <|
 .op (some 5) .any [11] (.mov (.tmp 11)) <|
 .nil))))
def A261 : XFn := ⟨18, [.any, (.agg [(.int .i64), (.int .i64)])], [(.tmp 4)], (C261_0 C261_1 C261_2)⟩
end
end Go.Proofs.YtpafblhkafcfmaaGreatDoor
