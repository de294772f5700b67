/- The code of the functions that are entered. Printed by a program off the dump. -/
import Derived.Test.YthkkkmkcjgaghaaGreatDoorOgX
import Derived.KernelRfl
set_option linter.all false
set_option maxRecDepth 100000
set_option maxHeartbeats 0
namespace Go.Proofs.YthkkkmkcjgaghaaGreatDoor
open Go Go.Og
noncomputable section
def C136_0 (cc1 : XC) (cc2 : XC) : XC := (.seq (.ops (.op (some 1) .any [0] (.box 203 (.tmp 0)) <|
 .op (some 2) .any [] (.mov (.con V.nils)) <|
 .op (some 3) .any [] (.mov (.con (V.int .i64 (Int.ofNat 0)))) <|
 .nil))
 (.seq (.ops (.op (some 11) (.agg [(.int .i64), .str, .bool, (.int .i64), (.int .i64), .bool, .bool, .bool, .bool, (.int .i64), (.int .i64), .any, .any, (.int .i64), .bool, (.int .i64)]) [1] (.load (some 16) (.tmp 1)) <|
 .op (some 12) (.tup [.any, .bool]) [11] (.call 163 [(.tmp 11)]) <|
 .op (some 10) .any [12] (.mov (.tmp 12)) <|
 .op (some 13) .any [10] (.extract 0 (.tmp 10)) <|
 .op (some 14) .any [10] (.extract 1 (.tmp 10)) <|
 .op (some 4) .any [13] (.mov (.tmp 13)) <|
 .op (some 5) .any [14] (.mov (.tmp 14)) <|
 .nil))
 (.seq (.seq (.ops (.op (some 15) .any [5] (.mov (.tmp 5)) <|
 .op (some 16) .any [15] (.un .not (.tmp 15)) <|
 .nil))
 (.cond (.tmp 16) (.seq (.ops (.op (some 2) .any [] (.mov (.con V.nils)) <|
 .op (some 3) .any [] (.mov (.con (V.int .i64 (Int.ofNat 11)))) <|
 .nil))
 .ret)
 .skip))
 (.seq (.ops (.op (some 17) .any [1] (.faddr 13 (.tmp 1)) <|
 .op (some 18) (.int .i64) [17] (.load none (.tmp 17)) <|
 .op (some 19) .any [1] (.faddr 11 (.tmp 1)) <|
 .op (some 20) .any [19] (.load none (.tmp 19)) <|
 .op (some 21) (.int .i64) [18, 20] (.call 164 [(.tmp 18), (.tmp 20)]) <|
 .op (some 6) .any [21] (.mov (.tmp 21)) <|
 .nil))
 (.seq (.seq (.ops (.op (some 22) .any [4] (.mov (.tmp 4)) <|
 .op (some 23) .any [22] (.len false (.tmp 22)) <|
 .op (some 24) .any [] (.mov (.con (V.int .i64 (Int.ofNat 0)))) <|
 .nil))
 (.block 0 (.loop [(4, .any), (6, (.int .i64)), (22, .any), (23, (.int .i64)), (24, (.int .i64))] [] [] cc2)))
 (.keep [(4, .any)] [] [] cc1))))))
def C136_1 : XC := (.seq (.ops (.op (some 52) .any [4] (.mov (.tmp 4)) <|
 .op (some 2) .any [52] (.mov (.tmp 52)) <|
 .op (some 3) .any [] (.mov (.con (V.int .i64 (Int.ofNat 0)))) <|
 .nil))
 .ret)
def C136_2 : XC := (.seq (.ops (.op (some 25) .any [24, 23] (.bin .lss .none (.tmp 24) (.tmp 23)) <|
 .nil))
 (.seq (.cond (.tmp 25) .skip
 (.exit 0))
 (.seq (.block 1 (.seq (.ops (.op (some 26) .any [24] (.mov (.tmp 24)) <|
 .op (some 27) .any [22, 24] (.iaddrS 3 (.tmp 22) (.tmp 24)) <|
 .op (some 28) (.agg [.str, (.int .i64), .bool]) [27] (.load (some 3) (.tmp 27)) <|
 .op (some 8) .any [] (.alloc 121 [(V.str ⟨0, 0⟩), (V.int .i64 (Int.ofNat 0)), (V.bool false)]) <|
 .op (some 7) .any [26] (.mov (.tmp 26)) <|
 .op none (.agg [.str, (.int .i64), .bool]) [8, 28] (.store 3 (.tmp 8) (.tmp 28)) <|
 .nil))
 (.seq (.ops (.op (some 29) .any [4] (.mov (.tmp 4)) <|
 .op (some 30) .any [7] (.mov (.tmp 7)) <|
 .op (some 31) .any [29, 30] (.sliceSl 3 (.tmp 29) none (some (.tmp 30)) none) <|
 .op (some 32) .any [8] (.mkfn 166 [] [(.tmp 8)]) <|
 .op (some 33) .bool [31, 32] (.call 165 [(.tmp 31), (.tmp 32)]) <|
 .op (some 9) .any [33] (.mov (.tmp 33)) <|
 .nil))
 (.seq (.draw (.op (some 34) .any [9] (.mov (.tmp 9)) <|
 .op (some 35) .any [34] (.mov (.tmp 34)) <|
 .grp 35 false (.op (some 36) .any [7, 35] (.mov (.tmp 7)) <|
 .op (some 37) .any [6, 35] (.mov (.tmp 6)) <|
 .op (some 38) .any [36, 37, 35] (.bin .gtr .none (.tmp 36) (.tmp 37)) <|
 .op (some 39) .any [38, 35] (.mov (.tmp 38)) <|
 .grp 39 true (.op (some 40) .any [8, 39] (.faddr 1 (.tmp 8)) <|
 .op (some 41) (.int .i64) [40, 39] (.load none (.tmp 40)) <|
 .op (some 42) .any [4, 39] (.mov (.tmp 4)) <|
 .op (some 43) .any [7, 39] (.mov (.tmp 7)) <|
 .op (some 44) .any [43, 39] (.bin .sub .none (.tmp 43) (.con (V.int .i64 (Int.ofNat 1)))) <|
 .op (some 45) .any [42, 44, 39] (.iaddrS 3 (.tmp 42) (.tmp 44)) <|
 .op (some 46) .any [45, 39] (.faddr 1 (.tmp 45)) <|
 .op (some 47) (.int .i64) [46, 39] (.load none (.tmp 46)) <|
 .op (some 48) .any [41, 47, 39] (.bin .leq .none (.tmp 41) (.tmp 47)) <|
 .nil) 49 [39, 48, 35] (.tmp 39) (.tmp 48) (.con (V.bool false)) <|
 .nil) 50 [35, 49] (.tmp 35) (.con (V.bool true)) (.tmp 49) <|
 .nil) [0, 1, 3, 3, 15, 31, 63, 127, 63, 63, 575, 1855, 3903, 7999, 16383, 32767, 65535])
 (.cond (.tmp 50) (.seq (.ops (.op (some 2) .any [] (.mov (.con V.nils)) <|
 .op (some 3) .any [] (.mov (.con (V.int .i64 (Int.ofNat 8)))) <|
 .nil))
 .ret)
 .skip)))))
 (.ops (.op (some 51) .any [24] (.bin .add .none (.tmp 24) (.con (V.int .i64 (Int.ofNat 1)))) <|
 .op (some 24) .any [51] (.mov (.tmp 51)) <|
 .nil)))))
def A136 : XFn := ⟨53, [(.agg [(.int .i64), .str, .bool, (.int .i64), (.int .i64), .bool, .bool, .bool, .bool, (.int .i64), (.int .i64), .any, .any, (.int .i64), .bool, (.int .i64)])], [(.tmp 2), (.tmp 3)], (C136_0 C136_1 C136_2)⟩
def C142_0 (cc1 : XC) : XC := (.seq (.ops (.op (some 5) .any [0] (.box 157 (.tmp 0)) <|
 .nil))
 (.seq (.ops (.op (some 10) .any [] (.alloc 4 [(V.bool false)]) <|
 .op none .any [10] (.store 1 (.tmp 10) (.con (V.bool true))) <|
 .nil))
 (.seq (.ops (.op (some 13) .any [10, 5] (.mkfn 172 [] [(.tmp 10), (.tmp 5)]) <|
 .op (some 11) .any [13] (.mov (.tmp 13)) <|
 .nil))
 (.seq (.ops (.op (some 12) .any [] (.mov (.con (V.int .i64 (Int.ofNat 0)))) <|
 .nil))
 (.block 0 (.loop [(1, (.int .i64)), (2, (.int .i64)), (3, .bool), (4, .any), (5, .ptr), (11, .any), (12, (.int .i64))] [] [] cc1))))))
def C142_1 (cc2 : XC) (cc3 : XC) : XC := (.seq (.seq (.ops (.op (some 14) .any [12] (.mov (.tmp 12)) <|
 .op (some 15) .any [1] (.mov (.tmp 1)) <|
 .op (some 16) .any [14, 15] (.bin .leq .none (.tmp 14) (.tmp 15)) <|
 .op (some 17) .any [16] (.mov (.tmp 16)) <|
 .grp 17 true (.op (some 18) .any [5, 17] (.load none (.tmp 5)) <|
 .op (some 19) .any [18, 17] (.nilck (.tmp 18)) <|
 .op (some 20) .any [19, 17] (.faddr 0 (.tmp 19)) <|
 .op (some 21) .any [20, 17] (.faddr 1 (.tmp 20)) <|
 .op (some 22) .bool [21, 17] (.load none (.tmp 21)) <|
 .op (some 23) .any [22, 17] (.un .not (.tmp 22)) <|
 .nil) 24 [17, 23] (.tmp 17) (.tmp 23) (.con (V.bool false)) <|
 .nil))
 (.cond (.tmp 24) .skip
 (.exit 0)))
 (.seq (.block 1 (.seq (.seq (.ops (.op (some 27) .any [3] (.mov (.tmp 3)) <|
 .op (some 28) .any [27] (.mov (.tmp 27)) <|
 .grp 28 true (.op (some 29) .any [12, 28] (.mov (.tmp 12)) <|
 .op (some 30) .any [2, 28] (.mov (.tmp 2)) <|
 .op (some 31) .any [29, 30, 28] (.bin .eql .none (.tmp 29) (.tmp 30)) <|
 .nil) 32 [28, 31] (.tmp 28) (.tmp 31) (.con (V.bool false)) <|
 .nil))
 (.cond (.tmp 32) (.seq (.ops (.op (some 33) .any [11] (.mov (.tmp 11)) <|
 .op (some 34) (.tup []) [33] (.callv (.tmp 33) []) <|
 .nil))
 (.ops (.op (some 35) .any [5] (.load none (.tmp 5)) <|
 .op (some 36) .any [35] (.nilck (.tmp 35)) <|
 .op (some 37) .any [36] (.faddr 0 (.tmp 36)) <|
 .op (some 38) .any [] (.buildSlice 9 1 [(V.str ⟨0, 0⟩)] [(0, 1, (.con (V.str ⟨3, 3026478⟩)))]) <|
 .op (some 39) (.tup []) [37, 38] (.call 71 [(.tmp 37), (.tmp 38)]) <|
 .nil)))
 .skip))
 (.keep [(1, (.int .i64)), (2, (.int .i64)), (3, .bool), (4, .any), (5, .ptr), (11, .any), (12, (.int .i64))] [] [] cc3)))
 (.keep [(1, (.int .i64)), (2, (.int .i64)), (3, .bool), (4, .any), (5, .ptr), (11, .any), (12, (.int .i64))] [] [] cc2)))
def C142_2 : XC := (.ops (.op (some 25) .any [12] (.mov (.tmp 12)) <|
 .op (some 26) .any [25] (.bin .add .none (.tmp 25) (.con (V.int .i64 (Int.ofNat 1)))) <|
 .op (some 12) .any [26] (.mov (.tmp 26)) <|
 .nil))
def C142_3 : XC := (.seq (.ops (.op (some 40) .any [12] (.mov (.tmp 12)) <|
 .op (some 41) .any [1] (.mov (.tmp 1)) <|
 .op (some 42) .any [40, 41] (.bin .lss .none (.tmp 40) (.tmp 41)) <|
 .nil))
 (.cond (.tmp 42) (.seq (.ops (.op (some 43) .any [11] (.mov (.tmp 11)) <|
 .op (some 44) (.tup []) [43] (.callv (.tmp 43) []) <|
 .nil))
 (.ops (.op (some 45) .any [4] (.mov (.tmp 4)) <|
 .op (some 46) .any [12] (.mov (.tmp 12)) <|
 .op (some 47) (.tup []) [45, 46] (.callv (.tmp 45) [(.tmp 46)]) <|
 .nil)))
 .skip))
def A142 : XFn := ⟨48, [.any, (.int .i64), (.int .i64), .bool, .any], [], (C142_0 (C142_1 C142_2 C142_3))⟩
def G143_0 : List AOper := [⟨(some 4), .load none (.tmp 1), none⟩, ⟨(some 5), .nilck (.tmp 4), none⟩, ⟨(some 6), .faddr 0 (.tmp 5), none⟩, ⟨(some 7), .faddr 11 (.tmp 2), none⟩, ⟨(some 8), .load none (.tmp 7), none⟩, ⟨(some 9), .mov (.tmp 0), none⟩, ⟨(some 10), .iaddrS 3 (.tmp 8) (.tmp 9), none⟩, ⟨(some 11), .faddr 0 (.tmp 10), none⟩, ⟨(some 12), .load none (.tmp 11), none⟩, ⟨(some 13), .buildSlice 9 1 [(V.str ⟨0, 0⟩)] [(0, 1, (.tmp 12))], none⟩, ⟨(some 14), .call 71 [(.tmp 6), (.tmp 13)], none⟩]
def H143_0 : List DP := [⟨0, [1]⟩, ⟨1, [4]⟩, ⟨3, [5]⟩, ⟨0, [2]⟩, ⟨8, [7]⟩, ⟨0, [0]⟩, ⟨56, [8, 9]⟩, ⟨120, [10]⟩, ⟨248, [11]⟩, ⟨504, [12]⟩, ⟨1023, [6, 13]⟩]
def C143_0 : XC := (.seq (.keep [(0, (.int .i64)), (1, .any), (2, .any)] [] [] (.gdraw G143_0 H143_0 [(0, (.int .i64)), (1, .any), (2, .any)]))
 (.seq (.ops (.op (some 15) .any [2] (.faddr 11 (.tmp 2)) <|
 .op (some 16) .any [15] (.load none (.tmp 15)) <|
 .op (some 17) .any [0] (.mov (.tmp 0)) <|
 .op (some 18) .any [16, 17] (.iaddrS 3 (.tmp 16) (.tmp 17)) <|
 .op (some 19) .any [18] (.faddr 2 (.tmp 18)) <|
 .op (some 20) .bool [19] (.load none (.tmp 19)) <|
 .nil))
 (.cond (.tmp 20) (.seq (.ops (.op (some 21) .any [1] (.load none (.tmp 1)) <|
 .op (some 22) .any [21] (.nilck (.tmp 21)) <|
 .op (some 23) .any [22] (.faddr 0 (.tmp 22)) <|
 .op (some 24) .any [] (.buildSlice 9 1 [(V.str ⟨0, 0⟩)] [(0, 1, (.con (V.str ⟨2, 10272⟩)))]) <|
 .op (some 25) (.tup []) [23, 24] (.call 71 [(.tmp 23), (.tmp 24)]) <|
 .nil))
 (.seq (.draw (.op (some 26) .any [1] (.load none (.tmp 1)) <|
 .op (some 27) .any [26] (.nilck (.tmp 26)) <|
 .op (some 28) .any [27] (.faddr 0 (.tmp 27)) <|
 .op (some 29) .any [2] (.faddr 11 (.tmp 2)) <|
 .op (some 30) .any [29] (.load none (.tmp 29)) <|
 .op (some 31) .any [0] (.mov (.tmp 0)) <|
 .op (some 32) .any [30, 31] (.iaddrS 3 (.tmp 30) (.tmp 31)) <|
 .op (some 33) .any [32] (.faddr 1 (.tmp 32)) <|
 .op (some 34) (.int .i64) [33] (.load none (.tmp 33)) <|
 .op (some 35) (.tup []) [28, 34] (.call 140 [(.tmp 28), (.tmp 34)]) <|
 .nil) [0, 1, 3, 0, 8, 0, 56, 120, 248, 511])
 (.ops (.op (some 36) .any [1] (.load none (.tmp 1)) <|
 .op (some 37) .any [36] (.nilck (.tmp 36)) <|
 .op (some 38) .any [37] (.faddr 0 (.tmp 37)) <|
 .op (some 39) .any [] (.buildSlice 9 1 [(V.str ⟨0, 0⟩)] [(0, 1, (.con (V.str ⟨1, 41⟩)))]) <|
 .op (some 40) (.tup []) [38, 39] (.call 71 [(.tmp 38), (.tmp 39)]) <|
 .nil))))
 .skip)))
def A143 : XFn := ⟨41, [(.int .i64), .any, .any], [], C143_0⟩
def G145_0 : List AOper := [⟨(some 33), .faddr 0 (.tmp 3), none⟩, ⟨(some 34), .faddr 3 (.tmp 33), none⟩, ⟨(some 35), .load none (.tmp 34), none⟩, ⟨(some 36), .mov (.tmp 1), none⟩, ⟨(some 37), .iaddrS 13 (.tmp 35) (.tmp 36), none⟩, ⟨(some 38), .load (some 13) (.tmp 37), none⟩, ⟨(some 39), .faddr 4 (.tmp 3), none⟩, ⟨(some 40), .faddr 3 (.tmp 39), none⟩, ⟨(some 41), .load none (.tmp 40), none⟩, ⟨(some 42), .mov (.tmp 2), none⟩, ⟨(some 43), .iaddrS 13 (.tmp 41) (.tmp 42), none⟩, ⟨(some 44), .load (some 13) (.tmp 43), none⟩, ⟨none, .store 13 (.tmp 6) (.tmp 38), none⟩, ⟨none, .store 13 (.tmp 7) (.tmp 44), none⟩, ⟨(some 8), .mov (.con (V.bool true)), none⟩]
def H145_0 : List DP := [⟨0, [3]⟩, ⟨1, [33]⟩, ⟨3, [34]⟩, ⟨0, [1]⟩, ⟨15, [35, 36]⟩, ⟨31, [37]⟩, ⟨0, [3]⟩, ⟨64, [39]⟩, ⟨192, [40]⟩, ⟨0, [2]⟩, ⟨960, [41, 42]⟩, ⟨1984, [43]⟩, ⟨63, [6, 38]⟩, ⟨8191, [7, 44]⟩, ⟨16383, []⟩]
def C145_0 : XC := (.seq (.ops (.op (some 3) .any [0] (.box 214 (.tmp 0)) <|
 .op (some 6) .any [] (.alloc 93 [(V.int .i64 (Int.ofNat 0)), V.nils, (V.bool false), (V.bool false), (V.bool false), (V.bool false), (V.int .i64 (Int.ofNat 0)), (V.int .i64 (Int.ofNat 0)), V.nils, V.nils, (V.int .i64 (Int.ofNat 0)), (V.bool false), (V.int .i64 (Int.ofNat 0))]) <|
 .op (some 7) .any [] (.alloc 93 [(V.int .i64 (Int.ofNat 0)), V.nils, (V.bool false), (V.bool false), (V.bool false), (V.bool false), (V.int .i64 (Int.ofNat 0)), (V.int .i64 (Int.ofNat 0)), V.nils, V.nils, (V.int .i64 (Int.ofNat 0)), (V.bool false), (V.int .i64 (Int.ofNat 0))]) <|
 .op (some 8) .any [] (.mov (.con (V.bool false))) <|
 .nil))
 (.seq (.seq (.ops (.op (some 9) .any [1] (.mov (.tmp 1)) <|
 .op (some 10) .any [9] (.bin .lss .none (.tmp 9) (.con (V.int .i64 (Int.ofNat 0)))) <|
 .op (some 11) .any [10] (.mov (.tmp 10)) <|
 .grp 11 false (.op (some 12) .any [1, 11] (.mov (.tmp 1)) <|
 .op (some 13) .any [3, 11] (.faddr 0 (.tmp 3)) <|
 .op (some 14) .any [13, 11] (.faddr 3 (.tmp 13)) <|
 .op (some 15) .any [14, 11] (.load none (.tmp 14)) <|
 .op (some 16) .any [15, 11] (.len false (.tmp 15)) <|
 .op (some 17) .any [12, 16, 11] (.bin .geq .none (.tmp 12) (.tmp 16)) <|
 .nil) 18 [11, 17] (.tmp 11) (.con (V.bool true)) (.tmp 17) <|
 .op (some 19) .any [18] (.mov (.tmp 18)) <|
 .grp 19 false (.op (some 20) .any [2, 19] (.mov (.tmp 2)) <|
 .op (some 21) .any [20, 19] (.bin .lss .none (.tmp 20) (.con (V.int .i64 (Int.ofNat 0)))) <|
 .nil) 22 [19, 21] (.tmp 19) (.con (V.bool true)) (.tmp 21) <|
 .op (some 23) .any [22] (.mov (.tmp 22)) <|
 .grp 23 false (.op (some 24) .any [2, 23] (.mov (.tmp 2)) <|
 .op (some 25) .any [3, 23] (.faddr 4 (.tmp 3)) <|
 .op (some 26) .any [25, 23] (.faddr 3 (.tmp 25)) <|
 .op (some 27) .any [26, 23] (.load none (.tmp 26)) <|
 .op (some 28) .any [27, 23] (.len false (.tmp 27)) <|
 .op (some 29) .any [24, 28, 23] (.bin .geq .none (.tmp 24) (.tmp 28)) <|
 .nil) 30 [23, 29] (.tmp 23) (.con (V.bool true)) (.tmp 29) <|
 .nil))
 (.cond (.tmp 30) (.seq (.ops (.op (some 31) (.agg [(.int .i64), .any, .bool, .bool, .bool, .bool, (.int .i64), (.int .i64), .any, .any, (.int .i64), .bool, (.int .i64)]) [] (.build [(V.int .i64 (Int.ofNat 0)), V.nils, (V.bool false), (V.bool false), (V.bool false), (V.bool false), (V.int .i64 (Int.ofNat 0)), (V.int .i64 (Int.ofNat 0)), V.nils, V.nils, (V.int .i64 (Int.ofNat 0)), (V.bool false), (V.int .i64 (Int.ofNat 0))] []) <|
 .op (some 32) (.agg [(.int .i64), .any, .bool, .bool, .bool, .bool, (.int .i64), (.int .i64), .any, .any, (.int .i64), .bool, (.int .i64)]) [] (.build [(V.int .i64 (Int.ofNat 0)), V.nils, (V.bool false), (V.bool false), (V.bool false), (V.bool false), (V.int .i64 (Int.ofNat 0)), (V.int .i64 (Int.ofNat 0)), V.nils, V.nils, (V.int .i64 (Int.ofNat 0)), (V.bool false), (V.int .i64 (Int.ofNat 0))] []) <|
 .op none (.agg [(.int .i64), .any, .bool, .bool, .bool, .bool, (.int .i64), (.int .i64), .any, .any, (.int .i64), .bool, (.int .i64)]) [6, 31] (.store 13 (.tmp 6) (.tmp 31)) <|
 .op none (.agg [(.int .i64), .any, .bool, .bool, .bool, .bool, (.int .i64), (.int .i64), .any, .any, (.int .i64), .bool, (.int .i64)]) [7, 32] (.store 13 (.tmp 7) (.tmp 32)) <|
 .op (some 8) .any [] (.mov (.con (V.bool false))) <|
 .nil))
 .ret)
 .skip))
 (.seq (.keep [(1, (.int .i64)), (2, (.int .i64)), (3, .ptr), (6, .ptr), (7, .ptr)] [] [] (.gdraw G145_0 H145_0 [(6, .ptr), (7, .ptr), (8, .bool)]))
 .ret)))
def A145 : XFn := ⟨45, [(.agg [.str, .any, .any, .any, .str, .any, .any, .any]), (.int .i64), (.int .i64)], [(.cell 6 (some 13)), (.cell 7 (some 13)), (.tmp 8)], C145_0⟩
def C146_0 (cc1 : XC) (cc2 : XC) : XC := (.seq (.ops (.op (some 4) .any [] (.mov (.con (V.bool false))) <|
 .nil))
 (.seq (.seq (.ops (.op (some 6) .any [0] (.mov (.tmp 0)) <|
 .op (some 7) .any [6] (.len false (.tmp 6)) <|
 .op (some 8) .any [1] (.mov (.tmp 1)) <|
 .op (some 9) .any [8] (.len false (.tmp 8)) <|
 .op (some 10) .any [7, 9] (.bin .neq .none (.tmp 7) (.tmp 9)) <|
 .nil))
 (.cond (.tmp 10) (.seq (.ops (.op (some 4) .any [] (.mov (.con (V.bool false))) <|
 .nil))
 .ret)
 .skip))
 (.seq (.seq (.ops (.op (some 11) .any [0] (.mov (.tmp 0)) <|
 .op (some 12) .any [11] (.len false (.tmp 11)) <|
 .op (some 13) .any [] (.mov (.con (V.int .i64 (Int.ofNat 0)))) <|
 .nil))
 (.block 0 (.loop [(0, .any), (1, .any), (12, (.int .i64)), (13, (.int .i64))] [] [] cc2)))
 (.keep [] [] [] cc1))))
def C146_1 : XC := (.seq (.ops (.op (some 4) .any [] (.mov (.con (V.bool true))) <|
 .nil))
 .ret)
def C146_2 : XC := (.seq (.ops (.op (some 14) .any [13, 12] (.bin .lss .none (.tmp 13) (.tmp 12)) <|
 .nil))
 (.seq (.cond (.tmp 14) .skip
 (.exit 0))
 (.seq (.block 1 (.seq (.ops (.op (some 15) .any [13] (.mov (.tmp 13)) <|
 .op (some 5) .any [15] (.mov (.tmp 15)) <|
 .nil))
 (.seq (.draw (.op (some 16) .any [0] (.mov (.tmp 0)) <|
 .op (some 17) .any [5] (.mov (.tmp 5)) <|
 .op (some 18) .any [16, 17] (.iaddrS 2 (.tmp 16) (.tmp 17)) <|
 .op (some 19) (.agg [(.int .i64), (.int .i64)]) [18] (.load (some 2) (.tmp 18)) <|
 .op (some 20) .any [1] (.mov (.tmp 1)) <|
 .op (some 21) .any [5] (.mov (.tmp 5)) <|
 .op (some 22) .any [20, 21] (.iaddrS 2 (.tmp 20) (.tmp 21)) <|
 .op (some 23) (.agg [(.int .i64), (.int .i64)]) [22] (.load (some 2) (.tmp 22)) <|
 .op (some 24) .any [19, 23] (.bin .neq (.flat [(0, .int), (1, .int)]) (.tmp 19) (.tmp 23)) <|
 .nil) [0, 0, 3, 7, 0, 0, 48, 112, 255])
 (.cond (.tmp 24) (.seq (.ops (.op (some 4) .any [] (.mov (.con (V.bool false))) <|
 .nil))
 .ret)
 .skip))))
 (.ops (.op (some 25) .any [13] (.bin .add .none (.tmp 13) (.con (V.int .i64 (Int.ofNat 1)))) <|
 .op (some 13) .any [25] (.mov (.tmp 25)) <|
 .nil)))))
def A146 : XFn := ⟨26, [.any, .any], [(.tmp 4)], (C146_0 C146_1 C146_2)⟩
def C147_0 : XC := (.seq (.ops (.op (some 2) .any [0] (.box 93 (.tmp 0)) <|
 .op (some 3) .any [1] (.box 93 (.tmp 1)) <|
 .op (some 4) .any [] (.mov (.con (V.bool false))) <|
 .nil))
 (.seq (.ops (.op (some 6) .any [2] (.faddr 8 (.tmp 2)) <|
 .op (some 7) .any [6] (.load none (.tmp 6)) <|
 .op (some 8) .any [7] (.len false (.tmp 7)) <|
 .op (some 5) .any [8] (.mov (.tmp 8)) <|
 .nil))
 (.seq (.draw (.op (some 9) .any [2] (.faddr 10 (.tmp 2)) <|
 .op (some 10) (.int .i64) [9] (.load none (.tmp 9)) <|
 .op (some 11) .any [3] (.faddr 10 (.tmp 3)) <|
 .op (some 12) (.int .i64) [11] (.load none (.tmp 11)) <|
 .op (some 13) .any [10, 12] (.bin .eql .none (.tmp 10) (.tmp 12)) <|
 .op (some 14) .any [13] (.mov (.tmp 13)) <|
 .grp 14 true (.op (some 15) .any [3, 14] (.faddr 8 (.tmp 3)) <|
 .op (some 16) .any [15, 14] (.load none (.tmp 15)) <|
 .op (some 17) .any [16, 14] (.len false (.tmp 16)) <|
 .op (some 18) .any [5, 14] (.mov (.tmp 5)) <|
 .op (some 19) .any [17, 18, 14] (.bin .geq .none (.tmp 17) (.tmp 18)) <|
 .nil) 20 [14, 19] (.tmp 14) (.tmp 19) (.con (V.bool false)) <|
 .op (some 21) .any [20] (.mov (.tmp 20)) <|
 .grp 21 true (.op (some 22) .any [3, 21] (.faddr 8 (.tmp 3)) <|
 .op (some 23) .any [22, 21] (.load none (.tmp 22)) <|
 .op (some 24) .any [5, 21] (.mov (.tmp 5)) <|
 .op (some 25) .any [23, 24, 21] (.sliceSl 3 (.tmp 23) none (some (.tmp 24)) none) <|
 .op (some 26) .any [2, 21] (.faddr 8 (.tmp 2)) <|
 .op (some 27) .any [26, 21] (.load none (.tmp 26)) <|
 .op (some 28) .bool [25, 27, 21] (.call 175 [(.tmp 25), (.tmp 27)]) <|
 .nil) 29 [21, 28] (.tmp 21) (.tmp 28) (.con (V.bool false)) <|
 .op (some 30) .any [29] (.mov (.tmp 29)) <|
 .grp 30 true (.op (some 31) .any [2, 30] (.faddr 11 (.tmp 2)) <|
 .op (some 32) .bool [31, 30] (.load none (.tmp 31)) <|
 .op (some 33) .any [32, 30] (.mov (.tmp 32)) <|
 .grp 33 false (.op (some 34) .any [3, 33] (.faddr 8 (.tmp 3)) <|
 .op (some 35) .any [34, 33] (.load none (.tmp 34)) <|
 .op (some 36) .any [35, 33] (.len false (.tmp 35)) <|
 .op (some 37) .any [5, 33] (.mov (.tmp 5)) <|
 .op (some 38) .any [36, 37, 33] (.bin .eql .none (.tmp 36) (.tmp 37)) <|
 .nil) 39 [33, 38, 30] (.tmp 33) (.con (V.bool true)) (.tmp 38) <|
 .nil) 40 [30, 39] (.tmp 30) (.tmp 39) (.con (V.bool false)) <|
 .op (some 4) .any [40] (.mov (.tmp 40)) <|
 .nil) [0, 1, 0, 4, 15, 31, 63, 127, 255, 63, 1023, 2047, 4095, 8191, 16383, 8191, 65535, 8191, 139263, 524287, 1048575, 2097151, 4194303, 8388607, 16777215, 33554431, 67108863, 134217727, 33554431, 536870911, 1073741823, 2147483647, 4294967295])
 .ret)))
def A147 : XFn := ⟨41, [(.agg [(.int .i64), .any, .bool, .bool, .bool, .bool, (.int .i64), (.int .i64), .any, .any, (.int .i64), .bool, (.int .i64)]), (.agg [(.int .i64), .any, .bool, .bool, .bool, .bool, (.int .i64), (.int .i64), .any, .any, (.int .i64), .bool, (.int .i64)])], [(.tmp 4)], C147_0⟩
def C150_0 : XC := (.seq (.ops (.op (some 4) .any [] (.mov (.con (V.bool false))) <|
 .nil))
 (.seq (.ops (.op (some 5) .any [0] (.mov (.tmp 0)) <|
 .op (some 6) .any [1] (.mov (.tmp 1)) <|
 .op (some 7) .bool [5, 6] (.call 177 [(.tmp 5), (.tmp 6)]) <|
 .op (some 4) .any [7] (.mov (.tmp 7)) <|
 .nil))
 .ret))
def A150 : XFn := ⟨8, [.str, .str], [(.tmp 4)], C150_0⟩
def C151_0 (cc1 : XC) (cc2 : XC) : XC := (.seq (.ops (.op (some 2) .any [] (.mov (.con (V.bool false))) <|
 .nil))
 (.seq (.seq (.ops (.op (some 3) .any [0] (.mov (.tmp 0)) <|
 .nil))
 (.block 0 (.seq (.seq (.ops (.op (some 5) .any [3] (.bin .eql .none (.tmp 3) (.con (V.str ⟨11, 100710650190388740279911748⟩))) <|
 .op (some 4) .any [5] (.mov (.tmp 5)) <|
 .nil))
 (.cond (.tmp 4) .skip
 (.seq (.ops (.op (some 6) .any [3] (.bin .eql .none (.tmp 3) (.con (V.str ⟨8, 6073459554577832005⟩))) <|
 .op (some 4) .any [6] (.mov (.tmp 6)) <|
 .nil))
 (.cond (.tmp 4) .skip
 (.seq (.ops (.op (some 7) .any [3] (.bin .eql .none (.tmp 3) (.con (V.str ⟨8, 6073459554577829193⟩))) <|
 .op (some 4) .any [7] (.mov (.tmp 7)) <|
 .nil))
 (.cond (.tmp 4) .skip
 (.seq (.ops (.op (some 8) .any [3] (.bin .eql .none (.tmp 3) (.con (V.str ⟨9, 1241215773001651606849⟩))) <|
 .op (some 4) .any [8] (.mov (.tmp 8)) <|
 .nil))
 (.cond (.tmp 4) .skip
 (.seq (.ops (.op (some 9) .any [3] (.bin .eql .none (.tmp 3) (.con (V.str ⟨4, 1397178708⟩))) <|
 .op (some 4) .any [9] (.mov (.tmp 9)) <|
 .nil))
 (.cond (.tmp 4) .skip
 (.seq (.ops (.op (some 10) .any [3] (.bin .eql .none (.tmp 3) (.con (V.str ⟨5, 336236856642⟩))) <|
 .op (some 4) .any [10] (.mov (.tmp 10)) <|
 .nil))
 (.cond (.tmp 4) .skip
 (.seq (.ops (.op (some 11) .any [3] (.bin .eql .none (.tmp 3) (.con (V.str ⟨3, 4476485⟩))) <|
 .op (some 4) .any [11] (.mov (.tmp 11)) <|
 .nil))
 (.cond (.tmp 4) .skip
 (.seq (.ops (.op (some 12) .any [3] (.bin .eql .none (.tmp 3) (.con (V.str ⟨7, 22026814072246082⟩))) <|
 .op (some 4) .any [12] (.mov (.tmp 12)) <|
 .nil))
 (.cond (.tmp 4) .skip
 (.seq (.ops (.op (some 13) .any [3] (.bin .eql .none (.tmp 3) (.con (V.str ⟨7, 23157120498421321⟩))) <|
 .op (some 4) .any [13] (.mov (.tmp 13)) <|
 .nil))
 (.cond (.tmp 4) .skip
 (.seq (.ops (.op (some 14) .any [3] (.bin .eql .none (.tmp 3) (.con (V.str ⟨10, 322399817400452109389381⟩))) <|
 .op (some 4) .any [14] (.mov (.tmp 14)) <|
 .nil))
 (.cond (.tmp 4) .skip
 (.seq (.ops (.op (some 15) .any [3] (.bin .eql .none (.tmp 3) (.con (V.str ⟨4, 1280070990⟩))) <|
 .op (some 4) .any [15] (.mov (.tmp 15)) <|
 .nil))
 (.cond (.tmp 4) .skip
 (.seq (.ops (.op (some 16) .any [3] (.bin .eql .none (.tmp 3) (.con (V.str ⟨5, 361940403023⟩))) <|
 .op (some 4) .any [16] (.mov (.tmp 16)) <|
 .nil))
 (.cond (.tmp 4) .skip
 (.seq (.ops (.op (some 17) .any [3] (.bin .eql .none (.tmp 3) (.con (V.str ⟨6, 78401563153491⟩))) <|
 .op (some 4) .any [17] (.mov (.tmp 17)) <|
 .nil))
 (.cond (.tmp 4) .skip
 (.seq (.ops (.op (some 18) .any [3] (.bin .eql .none (.tmp 3) (.con (V.str ⟨10, 488440487847103610377301⟩))) <|
 .op (some 4) .any [18] (.mov (.tmp 18)) <|
 .nil))
 (.cond (.tmp 4) .skip
 (.seq (.ops (.op (some 19) .any [3] (.bin .eql .none (.tmp 3) (.con (V.str ⟨8, 4990918871747741011⟩))) <|
 .op (some 4) .any [19] (.mov (.tmp 19)) <|
 .nil))
 (.cond (.tmp 4) .skip
 (.seq (.ops (.op (some 20) .any [3] (.bin .eql .none (.tmp 3) (.con (V.str ⟨3, 5522771⟩))) <|
 .op (some 4) .any [20] (.mov (.tmp 20)) <|
 .nil))
 (.cond (.tmp 4) .skip
 (.seq (.ops (.op (some 21) .any [3] (.bin .eql .none (.tmp 3) (.con (V.str ⟨6, 76155295057987⟩))) <|
 .op (some 4) .any [21] (.mov (.tmp 21)) <|
 .nil))
 (.cond (.tmp 4) .skip
 (.seq (.ops (.op (some 22) .any [3] (.bin .eql .none (.tmp 3) (.con (V.str ⟨2, 17999⟩))) <|
 .op (some 4) .any [22] (.mov (.tmp 22)) <|
 .nil))
 (.cond (.tmp 4) .skip
 (.seq (.ops (.op (some 23) .any [3] (.bin .eql .none (.tmp 3) (.con (V.str ⟨8, 5494759122808361039⟩))) <|
 .op (some 4) .any [23] (.mov (.tmp 23)) <|
 .nil))
 (.cond (.tmp 4) .skip
 (.seq (.ops (.op (some 24) .any [3] (.bin .eql .none (.tmp 3) (.con (V.str ⟨7, 23727827094750532⟩))) <|
 .op (some 4) .any [24] (.mov (.tmp 24)) <|
 .nil))
 (.cond (.tmp 4) .skip
 (.seq (.ops (.op (some 25) .any [3] (.bin .eql .none (.tmp 3) (.con (V.str ⟨4, 1163544915⟩))) <|
 .op (some 4) .any [25] (.mov (.tmp 25)) <|
 .nil))
 (.cond (.tmp 4) .skip
 (.seq (.ops (.op (some 26) .any [3] (.bin .eql .none (.tmp 3) (.con (V.str ⟨3, 5130573⟩))) <|
 .op (some 4) .any [26] (.mov (.tmp 26)) <|
 .nil))
 (.cond (.tmp 4) .skip
 (.seq (.ops (.op (some 27) .any [3] (.bin .eql .none (.tmp 3) (.con (V.str ⟨3, 5783885⟩))) <|
 .op (some 4) .any [27] (.mov (.tmp 27)) <|
 .nil))
 (.cond (.tmp 4) .skip
 (.seq (.ops (.op (some 28) .any [3] (.bin .eql .none (.tmp 3) (.con (V.str ⟨4, 1163219540⟩))) <|
 .op (some 4) .any [28] (.mov (.tmp 28)) <|
 .nil))
 (.cond (.tmp 4) .skip
 (.ops (.op (some 29) .any [3] (.bin .eql .none (.tmp 3) (.con (V.str ⟨5, 297750249798⟩))) <|
 .op (some 4) .any [29] (.mov (.tmp 29)) <|
 .nil))))))))))))))))))))))))))))))))))))))))))))))))))
 (.keep [(4, .bool)] [] [] cc2))))
 (.keep [] [] [] cc1)))
def C151_1 : XC := (.seq (.ops (.op (some 2) .any [] (.mov (.con (V.bool false))) <|
 .nil))
 .ret)
def C151_2 : XC := (.cond (.tmp 4) (.seq (.ops (.op (some 2) .any [] (.mov (.con (V.bool true))) <|
 .nil))
 .ret)
 .skip)
def A151 : XFn := ⟨30, [.str], [(.tmp 2)], (C151_0 C151_1 C151_2)⟩
def C154_0 (cc1 : XC) (cc2 : XC) : XC := (.seq (.ops (.op (some 1) .any [0] (.box 187 (.tmp 0)) <|
 .op (some 2) .any [] (.mov (.con (V.bool false))) <|
 .nil))
 (.seq (.seq (.ops (.op (some 3) .any [1] (.faddr 0 (.tmp 1)) <|
 .op (some 4) (.int .i64) [3] (.load none (.tmp 3)) <|
 .nil))
 (.block 0 (.seq (.ops (.op (some 6) .any [4] (.bin .eql .none (.tmp 4) (.con (V.int .i64 (Int.ofNat 1)))) <|
 .op (some 5) .any [6] (.mov (.tmp 6)) <|
 .nil))
 (.cond (.tmp 5) (.seq (.ops (.op (some 2) .any [] (.mov (.con (V.bool true))) <|
 .nil))
 .ret)
 (.seq (.ops (.op (some 8) .any [4] (.bin .eql .none (.tmp 4) (.con (V.int .i64 (Int.ofNat 6)))) <|
 .op (some 7) .any [8] (.mov (.tmp 8)) <|
 .nil))
 (.cond (.tmp 7) (.seq (.ops (.op (some 9) .any [1] (.faddr 1 (.tmp 1)) <|
 .op (some 10) .str [9] (.load none (.tmp 9)) <|
 .op (some 11) .any [10] (.bin .eql .none (.tmp 10) (.con (V.str ⟨1, 91⟩))) <|
 .op (some 2) .any [11] (.mov (.tmp 11)) <|
 .nil))
 .ret)
 (.seq (.ops (.op (some 13) .any [4] (.bin .eql .none (.tmp 4) (.con (V.int .i64 (Int.ofNat 5)))) <|
 .op (some 12) .any [13] (.mov (.tmp 13)) <|
 .nil))
 (.cond (.tmp 12) (.seq (.ops (.op (some 14) .any [1] (.faddr 1 (.tmp 1)) <|
 .op (some 15) .str [14] (.load none (.tmp 14)) <|
 .nil))
 (.block 1 (.seq (.seq (.ops (.op (some 17) .any [15] (.bin .eql .none (.tmp 15) (.con (V.str ⟨7, 22026814072246082⟩))) <|
 .op (some 16) .any [17] (.mov (.tmp 17)) <|
 .nil))
 (.cond (.tmp 16) .skip
 (.seq (.ops (.op (some 18) .any [15] (.bin .eql .none (.tmp 15) (.con (V.str ⟨4, 1280070990⟩))) <|
 .op (some 16) .any [18] (.mov (.tmp 18)) <|
 .nil))
 (.cond (.tmp 16) .skip
 (.seq (.ops (.op (some 19) .any [15] (.bin .eql .none (.tmp 15) (.con (V.str ⟨10, 488440487847103610377301⟩))) <|
 .op (some 16) .any [19] (.mov (.tmp 19)) <|
 .nil))
 (.cond (.tmp 16) .skip
 (.seq (.ops (.op (some 20) .any [15] (.bin .eql .none (.tmp 15) (.con (V.str ⟨7, 23157120498421321⟩))) <|
 .op (some 16) .any [20] (.mov (.tmp 20)) <|
 .nil))
 (.cond (.tmp 16) .skip
 (.seq (.ops (.op (some 21) .any [15] (.bin .eql .none (.tmp 15) (.con (V.str ⟨5, 361940403023⟩))) <|
 .op (some 16) .any [21] (.mov (.tmp 21)) <|
 .nil))
 (.cond (.tmp 16) .skip
 (.seq (.ops (.op (some 22) .any [15] (.bin .eql .none (.tmp 15) (.con (V.str ⟨10, 322399817400452109389381⟩))) <|
 .op (some 16) .any [22] (.mov (.tmp 22)) <|
 .nil))
 (.cond (.tmp 16) .skip
 (.seq (.ops (.op (some 23) .any [15] (.bin .eql .none (.tmp 15) (.con (V.str ⟨8, 4990918871747741011⟩))) <|
 .op (some 16) .any [23] (.mov (.tmp 23)) <|
 .nil))
 (.cond (.tmp 16) .skip
 (.seq (.ops (.op (some 24) .any [15] (.bin .eql .none (.tmp 15) (.con (V.str ⟨3, 5522771⟩))) <|
 .op (some 16) .any [24] (.mov (.tmp 24)) <|
 .nil))
 (.cond (.tmp 16) .skip
 (.ops (.op (some 25) .any [15] (.bin .eql .none (.tmp 15) (.con (V.str ⟨6, 76155295057987⟩))) <|
 .op (some 16) .any [25] (.mov (.tmp 25)) <|
 .nil))))))))))))))))))
 (.keep [(16, .bool)] [] [] cc2))))
 .skip))))))))
 (.keep [] [] [] cc1)))
def C154_1 : XC := (.seq (.ops (.op (some 2) .any [] (.mov (.con (V.bool false))) <|
 .nil))
 .ret)
def C154_2 : XC := (.cond (.tmp 16) (.seq (.ops (.op (some 2) .any [] (.mov (.con (V.bool true))) <|
 .nil))
 .ret)
 .skip)
def A154 : XFn := ⟨26, [(.agg [(.int .i64), .str, (.int .i64)])], [(.tmp 2)], (C154_0 C154_1 C154_2)⟩
def G155_0 : List AOper := [⟨(some 31), .faddr 1 (.tmp 9), none⟩, ⟨(some 32), .load none (.tmp 31), none⟩, ⟨(some 33), .faddr 0 (.tmp 8), none⟩, ⟨none, .store 1 (.tmp 33) (.con (V.int .i64 (Int.ofNat 11))), none⟩, ⟨(some 34), .faddr 1 (.tmp 8), none⟩, ⟨none, .store 1 (.tmp 34) (.tmp 32), none⟩]
def H155_0 : List DP := [⟨0, [9]⟩, ⟨1, [31]⟩, ⟨0, [8]⟩, ⟨4, [33]⟩, ⟨15, [8]⟩, ⟨31, [34, 32]⟩]
def C155_0 (cc1 : XC) : XC := (.seq (.ops (.op (some 4) .any [] (.alloc 203 [(V.int .i64 (Int.ofNat 0)), (V.str ⟨0, 0⟩), (V.bool false), (V.int .i64 (Int.ofNat 0)), (V.int .i64 (Int.ofNat 0)), (V.bool false), (V.bool false), (V.bool false), (V.bool false), (V.int .i64 (Int.ofNat 0)), (V.int .i64 (Int.ofNat 0)), V.nils, V.nils, (V.int .i64 (Int.ofNat 0)), (V.bool false), (V.int .i64 (Int.ofNat 0))]) <|
 .op (some 5) .any [] (.mov (.con (V.bool false))) <|
 .nil))
 (.seq (.ops (.op (some 11) .any [0] (.mov (.tmp 0)) <|
 .op (some 12) (.tup [(.agg [.bool, (.int .i64), (.int .i64)]), .bool]) [11] (.call 181 [(.tmp 11)]) <|
 .op (some 10) .any [12] (.mov (.tmp 12)) <|
 .op (some 13) .any [10] (.extract 0 (.tmp 10)) <|
 .op (some 14) .any [10] (.extract 1 (.tmp 10)) <|
 .pal 6 [] 201 [(V.bool false), (V.int .i64 (Int.ofNat 0)), (V.int .i64 (Int.ofNat 0))] <|
 .op none (.agg [.bool, (.int .i64), (.int .i64)]) [6, 13] (.store 3 (.tmp 6) (.tmp 13)) <|
 .op (some 7) .any [14] (.mov (.tmp 14)) <|
 .nil))
 (.seq (.seq (.ops (.op (some 15) .any [7] (.mov (.tmp 7)) <|
 .op (some 16) .any [15] (.un .not (.tmp 15)) <|
 .nil))
 (.cond (.tmp 16) (.seq (.ops (.op (some 17) (.agg [(.int .i64), .str, .bool, (.int .i64), (.int .i64), .bool, .bool, .bool, .bool, (.int .i64), (.int .i64), .any, .any, (.int .i64), .bool, (.int .i64)]) [] (.build [(V.int .i64 (Int.ofNat 0)), (V.str ⟨0, 0⟩), (V.bool false), (V.int .i64 (Int.ofNat 0)), (V.int .i64 (Int.ofNat 0)), (V.bool false), (V.bool false), (V.bool false), (V.bool false), (V.int .i64 (Int.ofNat 0)), (V.int .i64 (Int.ofNat 0)), V.nils, V.nils, (V.int .i64 (Int.ofNat 0)), (V.bool false), (V.int .i64 (Int.ofNat 0))] []) <|
 .op none (.agg [(.int .i64), .str, .bool, (.int .i64), (.int .i64), .bool, .bool, .bool, .bool, (.int .i64), (.int .i64), .any, .any, (.int .i64), .bool, (.int .i64)]) [4, 17] (.store 16 (.tmp 4) (.tmp 17)) <|
 .op (some 5) .any [] (.mov (.con (V.bool false))) <|
 .nil))
 .ret)
 .skip))
 (.seq (.ops (.op (some 18) (.agg [.bool, (.int .i64), (.int .i64)]) [6] (.load (some 3) (.tmp 6)) <|
 .op (some 19) (.agg [(.int .i64), .str, .bool, (.int .i64), (.int .i64), .bool, .bool, .bool, .bool, (.int .i64), (.int .i64), .any, .any, (.int .i64), .bool, (.int .i64)]) [18] (.build [(V.int .i64 (Int.ofNat 0)), (V.str ⟨0, 0⟩), (V.bool false), (V.int .i64 (Int.ofNat 0)), (V.int .i64 (Int.ofNat 0)), (V.bool false), (V.bool false), (V.bool false), (V.bool false), (V.int .i64 (Int.ofNat 0)), (V.int .i64 (Int.ofNat 0)), V.nils, V.nils, (V.int .i64 (Int.ofNat 0)), (V.bool false), (V.int .i64 (Int.ofNat 0))] [(2, 3, (.tmp 18))]) <|
 .op (some 8) .any [] (.alloc 203 [(V.int .i64 (Int.ofNat 0)), (V.str ⟨0, 0⟩), (V.bool false), (V.int .i64 (Int.ofNat 0)), (V.int .i64 (Int.ofNat 0)), (V.bool false), (V.bool false), (V.bool false), (V.bool false), (V.int .i64 (Int.ofNat 0)), (V.int .i64 (Int.ofNat 0)), V.nils, V.nils, (V.int .i64 (Int.ofNat 0)), (V.bool false), (V.int .i64 (Int.ofNat 0))]) <|
 .op none (.agg [(.int .i64), .str, .bool, (.int .i64), (.int .i64), .bool, .bool, .bool, .bool, (.int .i64), (.int .i64), .any, .any, (.int .i64), .bool, (.int .i64)]) [8, 19] (.store 16 (.tmp 8) (.tmp 19)) <|
 .nil))
 (.seq (.seq (.ops (.op (some 20) .any [0] (.mov (.tmp 0)) <|
 .op (some 21) .any [20] (.nilck (.tmp 20)) <|
 .op (some 22) .any [21] (.faddr 0 (.tmp 21)) <|
 .op (some 23) (.agg [(.int .i64), .str, (.int .i64)]) [22] (.call 92 [(.tmp 22)]) <|
 .op (some 9) .any [] (.alloc 187 [(V.int .i64 (Int.ofNat 0)), (V.str ⟨0, 0⟩), (V.int .i64 (Int.ofNat 0))]) <|
 .op none (.agg [(.int .i64), .str, (.int .i64)]) [9, 23] (.store 3 (.tmp 9) (.tmp 23)) <|
 .nil))
 (.seq (.ops (.op (some 24) .any [9] (.faddr 0 (.tmp 9)) <|
 .op (some 25) (.int .i64) [24] (.load none (.tmp 24)) <|
 .op (some 26) .any [25] (.bin .eql .none (.tmp 25) (.con (V.int .i64 (Int.ofNat 1)))) <|
 .nil))
 (.cond (.tmp 26) (.seq (.ops (.op (some 27) .any [0] (.mov (.tmp 0)) <|
 .op (some 28) .any [27] (.nilck (.tmp 27)) <|
 .op (some 29) .any [28] (.faddr 0 (.tmp 28)) <|
 .op (some 30) (.agg [(.int .i64), .str, (.int .i64)]) [29] (.call 125 [(.tmp 29)]) <|
 .nil))
 (.seq (.keep [(4, .ptr), (8, .ptr), (9, .ptr)] [] [] (.gdraw G155_0 H155_0 [(4, .ptr), (8, .ptr)]))
 (.seq (.ops (.op (some 35) (.agg [(.int .i64), .str, .bool, (.int .i64), (.int .i64), .bool, .bool, .bool, .bool, (.int .i64), (.int .i64), .any, .any, (.int .i64), .bool, (.int .i64)]) [8] (.load (some 16) (.tmp 8)) <|
 .op none (.agg [(.int .i64), .str, .bool, (.int .i64), (.int .i64), .bool, .bool, .bool, .bool, (.int .i64), (.int .i64), .any, .any, (.int .i64), .bool, (.int .i64)]) [4, 35] (.store 16 (.tmp 4) (.tmp 35)) <|
 .op (some 5) .any [] (.mov (.con (V.bool true))) <|
 .nil))
 .ret)))
 .skip)))
 (.seq (.block 0 (.seq (.ops (.op (some 44) .any [0] (.mov (.tmp 0)) <|
 .op (some 45) .any [44] (.nilck (.tmp 44)) <|
 .op (some 46) .any [45] (.faddr 0 (.tmp 45)) <|
 .op (some 47) .bool [46] (.call 126 [(.tmp 46), (.con (V.str ⟨7, 22026814072246082⟩))]) <|
 .op (some 43) .any [47] (.mov (.tmp 47)) <|
 .nil))
 (.cond (.tmp 43) (.ops (.op (some 48) .any [8] (.faddr 0 (.tmp 8)) <|
 .op none .any [48] (.store 1 (.tmp 48) (.con (V.int .i64 (Int.ofNat 1)))) <|
 .nil))
 (.seq (.ops (.op (some 50) .any [0] (.mov (.tmp 0)) <|
 .op (some 51) .any [50] (.nilck (.tmp 50)) <|
 .op (some 52) .any [51] (.faddr 0 (.tmp 51)) <|
 .op (some 53) .bool [52] (.call 126 [(.tmp 52), (.con (V.str ⟨4, 1280070990⟩))]) <|
 .op (some 49) .any [53] (.mov (.tmp 53)) <|
 .nil))
 (.cond (.tmp 49) (.ops (.op (some 54) .any [8] (.faddr 0 (.tmp 8)) <|
 .op none .any [54] (.store 1 (.tmp 54) (.con (V.int .i64 (Int.ofNat 4)))) <|
 .nil))
 (.seq (.ops (.op (some 56) .any [0] (.mov (.tmp 0)) <|
 .op (some 57) .any [56] (.nilck (.tmp 56)) <|
 .op (some 58) .any [57] (.faddr 0 (.tmp 57)) <|
 .op (some 59) .bool [58] (.call 126 [(.tmp 58), (.con (V.str ⟨10, 488440487847103610377301⟩))]) <|
 .op (some 55) .any [59] (.mov (.tmp 59)) <|
 .nil))
 (.cond (.tmp 55) (.seq (.ops (.op (some 60) .any [8] (.faddr 0 (.tmp 8)) <|
 .op none .any [60] (.store 1 (.tmp 60) (.con (V.int .i64 (Int.ofNat 6)))) <|
 .nil))
 (.ops (.op (some 61) .any [0] (.mov (.tmp 0)) <|
 .op (some 62) .any [8] (.faddr 5 (.tmp 8)) <|
 .op (some 63) .bool [61, 62] (.call 182 [(.tmp 61), (.tmp 62)]) <|
 .op (some 7) .any [63] (.mov (.tmp 63)) <|
 .nil)))
 (.seq (.ops (.op (some 65) .any [0] (.mov (.tmp 0)) <|
 .op (some 66) .any [65] (.nilck (.tmp 65)) <|
 .op (some 67) .any [66] (.faddr 0 (.tmp 66)) <|
 .op (some 68) .bool [67] (.call 126 [(.tmp 67), (.con (V.str ⟨7, 23157120498421321⟩))]) <|
 .op (some 64) .any [68] (.mov (.tmp 68)) <|
 .nil))
 (.cond (.tmp 64) (.seq (.ops (.op (some 69) .any [8] (.faddr 0 (.tmp 8)) <|
 .op none .any [69] (.store 1 (.tmp 69) (.con (V.int .i64 (Int.ofNat 2)))) <|
 .nil))
 (.ops (.op (some 70) .any [0] (.mov (.tmp 0)) <|
 .op (some 71) .any [70] (.nilck (.tmp 70)) <|
 .op (some 72) .any [71] (.faddr 0 (.tmp 71)) <|
 .op (some 73) .bool [72] (.call 126 [(.tmp 72), (.con (V.str ⟨1, 40⟩))]) <|
 .op (some 74) .any [73] (.un .not (.tmp 73)) <|
 .op (some 75) .any [74] (.mov (.tmp 74)) <|
 .grp 75 false (.op (some 76) .any [0, 75] (.mov (.tmp 0)) <|
 .op (some 77) .any [8, 75] (.faddr 5 (.tmp 8)) <|
 .op (some 78) .bool [76, 77, 75] (.call 183 [(.tmp 76), (.tmp 77)]) <|
 .op (some 79) .any [78, 75] (.mov (.tmp 78)) <|
 .grp 79 true (.op (some 80) .any [0, 79] (.mov (.tmp 0)) <|
 .op (some 81) .any [79] (.buildSlice 9 1 [(V.str ⟨0, 0⟩)] [(0, 1, (.con (V.str ⟨1, 41⟩)))]) <|
 .op (some 82) .bool [80, 81, 79] (.call 90 [(.tmp 80), (.tmp 81)]) <|
 .nil) 83 [79, 82, 75] (.tmp 79) (.tmp 82) (.con (V.bool false)) <|
 .nil) 84 [75, 83] (.tmp 75) (.con (V.bool true)) (.tmp 83) <|
 .op (some 7) .any [84] (.mov (.tmp 84)) <|
 .nil)))
 (.seq (.ops (.op (some 86) .any [0] (.mov (.tmp 0)) <|
 .op (some 87) .any [86] (.nilck (.tmp 86)) <|
 .op (some 88) .any [87] (.faddr 0 (.tmp 87)) <|
 .op (some 89) .bool [88] (.call 126 [(.tmp 88), (.con (V.str ⟨5, 361940403023⟩))]) <|
 .op (some 85) .any [89] (.mov (.tmp 89)) <|
 .nil))
 (.cond (.tmp 85) (.seq (.ops (.op (some 90) .any [8] (.faddr 0 (.tmp 8)) <|
 .op none .any [90] (.store 1 (.tmp 90) (.con (V.int .i64 (Int.ofNat 5)))) <|
 .nil))
 (.ops (.op (some 91) .any [0] (.mov (.tmp 0)) <|
 .op (some 92) .any [] (.buildSlice 9 1 [(V.str ⟨0, 0⟩)] [(0, 1, (.con (V.str ⟨6, 78401563153491⟩)))]) <|
 .op (some 93) .bool [91, 92] (.call 90 [(.tmp 91), (.tmp 92)]) <|
 .op (some 94) .any [93] (.mov (.tmp 93)) <|
 .grp 94 true (.op (some 95) .any [0, 94] (.mov (.tmp 0)) <|
 .op (some 96) .any [8, 94] (.faddr 5 (.tmp 8)) <|
 .op (some 97) .bool [95, 96, 94] (.call 182 [(.tmp 95), (.tmp 96)]) <|
 .nil) 98 [94, 97] (.tmp 94) (.tmp 97) (.con (V.bool false)) <|
 .op (some 7) .any [98] (.mov (.tmp 98)) <|
 .nil)))
 (.seq (.ops (.op (some 100) .any [0] (.mov (.tmp 0)) <|
 .op (some 101) .any [100] (.nilck (.tmp 100)) <|
 .op (some 102) .any [101] (.faddr 0 (.tmp 101)) <|
 .op (some 103) .bool [102] (.call 126 [(.tmp 102), (.con (V.str ⟨10, 322399817400452109389381⟩))]) <|
 .op (some 99) .any [103] (.mov (.tmp 103)) <|
 .nil))
 (.cond (.tmp 99) (.seq (.ops (.op (some 104) .any [8] (.faddr 0 (.tmp 8)) <|
 .op none .any [104] (.store 1 (.tmp 104) (.con (V.int .i64 (Int.ofNat 3)))) <|
 .nil))
 (.ops (.op (some 105) .any [0] (.mov (.tmp 0)) <|
 .op (some 106) .bool [105, 8] (.call 184 [(.tmp 105), (.tmp 8)]) <|
 .op (some 7) .any [106] (.mov (.tmp 106)) <|
 .nil)))
 (.seq (.ops (.op (some 108) .any [0] (.mov (.tmp 0)) <|
 .op (some 109) .any [108] (.nilck (.tmp 108)) <|
 .op (some 110) .any [109] (.faddr 0 (.tmp 109)) <|
 .op (some 111) .bool [110] (.call 126 [(.tmp 110), (.con (V.str ⟨3, 5522771⟩))]) <|
 .op (some 107) .any [111] (.mov (.tmp 111)) <|
 .nil))
 (.cond (.tmp 107) (.seq (.ops (.op (some 112) .any [8] (.faddr 0 (.tmp 8)) <|
 .op none .any [112] (.store 1 (.tmp 112) (.con (V.int .i64 (Int.ofNat 8)))) <|
 .nil))
 (.ops (.op (some 113) .any [0] (.mov (.tmp 0)) <|
 .op (some 114) .any [1] (.mov (.tmp 1)) <|
 .op (some 115) .bool [113, 8, 114] (.call 185 [(.tmp 113), (.tmp 8), (.tmp 114)]) <|
 .op (some 7) .any [115] (.mov (.tmp 115)) <|
 .nil)))
 (.seq (.ops (.op (some 117) .any [0] (.mov (.tmp 0)) <|
 .op (some 118) .any [117] (.nilck (.tmp 117)) <|
 .op (some 119) .any [118] (.faddr 0 (.tmp 118)) <|
 .op (some 120) .bool [119] (.call 126 [(.tmp 119), (.con (V.str ⟨6, 76155295057987⟩))]) <|
 .op (some 116) .any [120] (.mov (.tmp 120)) <|
 .nil))
 (.cond (.tmp 116) (.seq (.ops (.op (some 121) .any [8] (.faddr 0 (.tmp 8)) <|
 .op none .any [121] (.store 1 (.tmp 121) (.con (V.int .i64 (Int.ofNat 9)))) <|
 .nil))
 (.ops (.op (some 122) .any [0] (.mov (.tmp 0)) <|
 .op (some 123) .any [1] (.mov (.tmp 1)) <|
 .op (some 124) .bool [122, 8, 123] (.call 185 [(.tmp 122), (.tmp 8), (.tmp 123)]) <|
 .op (some 7) .any [124] (.mov (.tmp 124)) <|
 .nil)))
 (.seq (.ops (.op (some 126) .any [0] (.mov (.tmp 0)) <|
 .op (some 127) .any [126] (.nilck (.tmp 126)) <|
 .op (some 128) .any [127] (.faddr 0 (.tmp 127)) <|
 .op (some 129) .bool [128] (.call 126 [(.tmp 128), (.con (V.str ⟨8, 4990918871747741011⟩))]) <|
 .op (some 125) .any [129] (.mov (.tmp 129)) <|
 .nil))
 (.cond (.tmp 125) (.ops (.op (some 130) .any [0] (.mov (.tmp 0)) <|
 .op (some 131) .any [1] (.mov (.tmp 1)) <|
 .op (some 132) .bool [130, 8, 131] (.call 186 [(.tmp 130), (.tmp 8), (.tmp 131)]) <|
 .op (some 7) .any [132] (.mov (.tmp 132)) <|
 .nil))
 (.ops (.op (some 36) .any [0] (.mov (.tmp 0)) <|
 .op (some 37) .any [0] (.mov (.tmp 0)) <|
 .op (some 38) .any [37] (.nilck (.tmp 37)) <|
 .op (some 39) .any [38] (.faddr 0 (.tmp 38)) <|
 .op (some 40) (.agg [(.int .i64), .str, (.int .i64)]) [39] (.call 92 [(.tmp 39)]) <|
 .op (some 41) (.int .i64) [40] (.field 2 none (.tmp 40)) <|
 .op (some 42) .bool [36, 41] (.call 124 [(.tmp 36), (.tmp 41), (.con (V.int .i64 (Int.ofNat 7)))]) <|
 .op (some 7) .any [42] (.mov (.tmp 42)) <|
 .nil)))))))))))))))))))))
 (.keep [(4, .ptr), (7, .bool), (8, .ptr)] [] [] cc1)))))))
def C155_1 : XC := (.seq (.ops (.op (some 133) (.agg [(.int .i64), .str, .bool, (.int .i64), (.int .i64), .bool, .bool, .bool, .bool, (.int .i64), (.int .i64), .any, .any, (.int .i64), .bool, (.int .i64)]) [8] (.load (some 16) (.tmp 8)) <|
 .op (some 134) .any [7] (.mov (.tmp 7)) <|
 .op none (.agg [(.int .i64), .str, .bool, (.int .i64), (.int .i64), .bool, .bool, .bool, .bool, (.int .i64), (.int .i64), .any, .any, (.int .i64), .bool, (.int .i64)]) [4, 133] (.store 16 (.tmp 4) (.tmp 133)) <|
 .op (some 5) .any [134] (.mov (.tmp 134)) <|
 .nil))
 .ret)
def A155 : XFn := ⟨135, [.ptr, (.int .i64)], [(.cell 4 (some 16)), (.tmp 5)], (C155_0 C155_1)⟩
def C156_0 (cc1 : XC) (cc2 : XC) : XC := (.seq (.ops (.op (some 4) .any [0] (.box 99 (.tmp 0)) <|
 .nil))
 (.seq (.seq (.ops (.op (some 11) .any [1] (.mov (.tmp 1)) <|
 .op (some 12) .any [11] (.bin .lss .none (.tmp 11) (.con (V.int .i64 (Int.ofNat 0)))) <|
 .op (some 13) .any [12] (.mov (.tmp 12)) <|
 .grp 13 false (.op (some 14) .any [1, 13] (.mov (.tmp 1)) <|
 .op (some 15) .any [4, 13] (.faddr 4 (.tmp 4)) <|
 .op (some 16) .any [15, 13] (.load none (.tmp 15)) <|
 .op (some 17) .any [16, 13] (.len false (.tmp 16)) <|
 .op (some 18) .any [14, 17, 13] (.bin .geq .none (.tmp 14) (.tmp 17)) <|
 .nil) 19 [13, 18] (.tmp 13) (.con (V.bool true)) (.tmp 18) <|
 .op (some 20) .any [19] (.mov (.tmp 19)) <|
 .grp 20 false (.op (some 21) .any [2, 20] (.mov (.tmp 2)) <|
 .op (some 22) .any [1, 20] (.mov (.tmp 1)) <|
 .op (some 23) .any [21, 22, 20] (.iaddrS 1 (.tmp 21) (.tmp 22)) <|
 .op (some 24) .bool [23, 20] (.load none (.tmp 23)) <|
 .nil) 25 [20, 24] (.tmp 20) (.con (V.bool true)) (.tmp 24) <|
 .nil))
 (.cond (.tmp 25) .ret
 .skip))
 (.seq (.ops (.op (some 26) .any [2] (.mov (.tmp 2)) <|
 .op (some 27) .any [1] (.mov (.tmp 1)) <|
 .op (some 28) .any [26, 27] (.iaddrS 1 (.tmp 26) (.tmp 27)) <|
 .op none .any [28] (.store 1 (.tmp 28) (.con (V.bool true))) <|
 .nil))
 (.seq (.ops (.op (some 29) .any [4] (.faddr 4 (.tmp 4)) <|
 .op (some 30) .any [29] (.load none (.tmp 29)) <|
 .op (some 31) .any [1] (.mov (.tmp 1)) <|
 .op (some 32) .any [30, 31] (.iaddrS 16 (.tmp 30) (.tmp 31)) <|
 .op (some 33) (.agg [(.int .i64), .str, .bool, (.int .i64), (.int .i64), .bool, .bool, .bool, .bool, (.int .i64), (.int .i64), .any, .any, (.int .i64), .bool, (.int .i64)]) [32] (.load (some 16) (.tmp 32)) <|
 .pal 8 [] 203 [(V.int .i64 (Int.ofNat 0)), (V.str ⟨0, 0⟩), (V.bool false), (V.int .i64 (Int.ofNat 0)), (V.int .i64 (Int.ofNat 0)), (V.bool false), (V.bool false), (V.bool false), (V.bool false), (V.int .i64 (Int.ofNat 0)), (V.int .i64 (Int.ofNat 0)), V.nils, V.nils, (V.int .i64 (Int.ofNat 0)), (V.bool false), (V.int .i64 (Int.ofNat 0))] <|
 .op none (.agg [(.int .i64), .str, .bool, (.int .i64), (.int .i64), .bool, .bool, .bool, .bool, (.int .i64), (.int .i64), .any, .any, (.int .i64), .bool, (.int .i64)]) [8, 33] (.store 16 (.tmp 8) (.tmp 33)) <|
 .nil))
 (.seq (.ops (.op (some 34) .any [3] (.mov (.tmp 3)) <|
 .op (some 35) (.agg [(.int .i64), .str, .bool, (.int .i64), (.int .i64), .bool, .bool, .bool, .bool, (.int .i64), (.int .i64), .any, .any, (.int .i64), .bool, (.int .i64)]) [8] (.load (some 16) (.tmp 8)) <|
 .op (some 36) (.tup []) [34, 35] (.callv (.tmp 34) [(.tmp 35)]) <|
 .nil))
 (.seq (.seq (.ops (.op (some 37) .any [8] (.faddr 0 (.tmp 8)) <|
 .op (some 38) (.int .i64) [37] (.load none (.tmp 37)) <|
 .op (some 39) .any [38] (.bin .eql .none (.tmp 38) (.con (V.int .i64 (Int.ofNat 11)))) <|
 .nil))
 (.cond (.tmp 39) .ret
 .skip))
 (.seq (.seq (.ops (.op (some 40) .any [8] (.faddr 12 (.tmp 8)) <|
 .op (some 41) .any [40] (.load none (.tmp 40)) <|
 .op (some 42) .any [41] (.len false (.tmp 41)) <|
 .op (some 43) .any [] (.mov (.con (V.int .i64 (Int.ofNat 0)))) <|
 .nil))
 (.block 0 (.loop [(2, .any), (3, .any), (4, .ptr), (41, .any), (42, (.int .i64)), (43, (.int .i64))] [8] [(8, [(.int .i64), .str, .bool, (.int .i64), (.int .i64), .bool, .bool, .bool, .bool, (.int .i64), (.int .i64), .any, .any, (.int .i64), .bool, (.int .i64)])] cc2)))
 (.keep [(2, .any), (3, .any), (4, .ptr)] [8] [(8, [(.int .i64), .str, .bool, (.int .i64), (.int .i64), .bool, .bool, .bool, .bool, (.int .i64), (.int .i64), .any, .any, (.int .i64), .bool, (.int .i64)])] cc1))))))))
def C156_1 : XC := (.seq (.ops (.op (some 54) .any [8] (.faddr 0 (.tmp 8)) <|
 .op (some 55) (.int .i64) [54] (.load none (.tmp 54)) <|
 .op (some 56) .any [55] (.bin .eql .none (.tmp 55) (.con (V.int .i64 (Int.ofNat 10)))) <|
 .nil))
 (.cond (.tmp 56) (.ops (.op (some 57) (.agg [.str, (.int .i64), .any, .any, .any]) [4] (.load (some 5) (.tmp 4)) <|
 .op (some 58) .any [8] (.faddr 15 (.tmp 8)) <|
 .op (some 59) (.int .i64) [58] (.load none (.tmp 58)) <|
 .op (some 60) .any [2] (.mov (.tmp 2)) <|
 .op (some 61) .any [3] (.mov (.tmp 3)) <|
 .op (some 62) (.tup []) [57, 59, 60, 61] (.call 156 [(.tmp 57), (.tmp 59), (.tmp 60), (.tmp 61)]) <|
 .nil))
 .skip))
def C156_2 : XC := (.seq (.ops (.op (some 44) .any [43, 42] (.bin .lss .none (.tmp 43) (.tmp 42)) <|
 .nil))
 (.seq (.cond (.tmp 44) .skip
 (.exit 0))
 (.seq (.block 1 (.seq (.ops (.op (some 45) .any [41, 43] (.iaddrS 11 (.tmp 41) (.tmp 43)) <|
 .op (some 46) (.agg [.str, (.int .i64), .bool, .bool, (.int .i64), (.int .i64), .any, .any, (.int .i64), .any, (.int .i64)]) [45] (.load (some 11) (.tmp 45)) <|
 .pal 10 [] 128 [(V.str ⟨0, 0⟩), (V.int .i64 (Int.ofNat 0)), (V.bool false), (V.bool false), (V.int .i64 (Int.ofNat 0)), (V.int .i64 (Int.ofNat 0)), V.nils, V.nils, (V.int .i64 (Int.ofNat 0)), V.nils, (V.int .i64 (Int.ofNat 0))] <|
 .op none (.agg [.str, (.int .i64), .bool, .bool, (.int .i64), (.int .i64), .any, .any, (.int .i64), .any, (.int .i64)]) [10, 46] (.store 11 (.tmp 10) (.tmp 46)) <|
 .nil))
 (.ops (.op (some 47) (.agg [.str, (.int .i64), .any, .any, .any]) [4] (.load (some 5) (.tmp 4)) <|
 .op (some 48) .any [10] (.faddr 1 (.tmp 10)) <|
 .op (some 49) (.int .i64) [48] (.load none (.tmp 48)) <|
 .op (some 50) .any [2] (.mov (.tmp 2)) <|
 .op (some 51) .any [3] (.mov (.tmp 3)) <|
 .op (some 52) (.tup []) [47, 49, 50, 51] (.call 156 [(.tmp 47), (.tmp 49), (.tmp 50), (.tmp 51)]) <|
 .nil))))
 (.ops (.op (some 53) .any [43] (.bin .add .none (.tmp 43) (.con (V.int .i64 (Int.ofNat 1)))) <|
 .op (some 43) .any [53] (.mov (.tmp 53)) <|
 .nil)))))
def A156 : XFn := ⟨63, [(.agg [.str, (.int .i64), .any, .any, .any]), (.int .i64), .any, .any], [], (C156_0 C156_1 C156_2)⟩
def C157_0 : XC := (.seq (.ops (.op (some 2) .any [0] (.box 203 (.tmp 0)) <|
 .nil))
 (.seq (.ops (.op (some 3) .any [2] (.faddr 0 (.tmp 2)) <|
 .op (some 4) (.int .i64) [3] (.load none (.tmp 3)) <|
 .op (some 5) .any [4] (.bin .eql .none (.tmp 4) (.con (V.int .i64 (Int.ofNat 11)))) <|
 .nil))
 (.cond (.tmp 5) (.ops (.op (some 6) .any [1] (.load none (.tmp 1)) <|
 .op (some 7) .any [2] (.faddr 1 (.tmp 2)) <|
 .op (some 8) .str [7] (.load none (.tmp 7)) <|
 .op (some 9) .any [8] (.buildSlice 9 1 [(V.str ⟨0, 0⟩)] [(0, 1, (.tmp 8))]) <|
 .op (some 10) .one [6, 9] (.call 158 [(.tmp 6), (.tmp 9)]) <|
 .op none .any [1, 10] (.store 1 (.tmp 1) (.tmp 10)) <|
 .nil))
 .skip)))
def A157 : XFn := ⟨11, [(.agg [(.int .i64), .str, .bool, (.int .i64), (.int .i64), .bool, .bool, .bool, .bool, (.int .i64), (.int .i64), .any, .any, (.int .i64), .bool, (.int .i64)]), .any], [], C157_0⟩
def C159_0 : XC := (.seq (.ops (.op (some 4) .any [] (.mov (.con (V.bool false))) <|
 .nil))
 (.seq (.ops (.op (some 5) .any [0] (.mov (.tmp 0)) <|
 .op (some 6) .any [1] (.mov (.tmp 1)) <|
 .op (some 7) (.int .i64) [5, 6] (.call 188 [(.tmp 5), (.tmp 6)]) <|
 .op (some 8) .any [7] (.bin .geq .none (.tmp 7) (.con (V.int .i64 (Int.ofNat 0)))) <|
 .op (some 4) .any [8] (.mov (.tmp 8)) <|
 .nil))
 .ret))
def A159 : XFn := ⟨9, [.any, .any], [(.tmp 4)], C159_0⟩
def C163_0 (cc1 : XC) (cc2 : XC) : XC := (.seq (.ops (.op (some 1) .any [0] (.box 203 (.tmp 0)) <|
 .op (some 2) .any [] (.mov (.con V.nils)) <|
 .op (some 3) .any [] (.mov (.con (V.bool false))) <|
 .nil))
 (.seq (.ops (.op (some 4) .any [] (.mov (.con V.nils)) <|
 .nil))
 (.seq (.ops (.op (some 10) .any [1] (.faddr 13 (.tmp 1)) <|
 .op (some 11) (.int .i64) [10] (.load none (.tmp 10)) <|
 .op (some 12) .any [1] (.faddr 11 (.tmp 1)) <|
 .op (some 13) .any [12] (.load none (.tmp 12)) <|
 .op (some 14) (.int .i64) [11, 13] (.call 164 [(.tmp 11), (.tmp 13)]) <|
 .op (some 5) .any [] (.mov (.con (V.int .i64 (Int.ofNat 0)))) <|
 .op (some 6) .any [14] (.mov (.tmp 14)) <|
 .nil))
 (.seq (.seq (.ops (.op (some 15) .any [1] (.faddr 11 (.tmp 1)) <|
 .op (some 16) .any [15] (.load none (.tmp 15)) <|
 .op (some 17) .any [16] (.len false (.tmp 16)) <|
 .op (some 18) .any [] (.mov (.con (V.int .i64 (Int.ofNat 0)))) <|
 .nil))
 (.block 0 (.loop [(1, .ptr), (4, .any), (5, (.int .i64)), (6, (.int .i64)), (16, .any), (17, (.int .i64)), (18, (.int .i64))] [] [] cc2)))
 (.keep [(4, .any)] [] [] cc1)))))
def C163_1 : XC := (.seq (.ops (.op (some 59) .any [4] (.mov (.tmp 4)) <|
 .op (some 2) .any [59] (.mov (.tmp 59)) <|
 .op (some 3) .any [] (.mov (.con (V.bool true))) <|
 .nil))
 .ret)
def C163_2 (cc3 : XC) (cc4 : XC) (cc5 : XC) (cc6 : XC) : XC := (.seq (.ops (.op (some 19) .any [18, 17] (.bin .lss .none (.tmp 18) (.tmp 17)) <|
 .nil))
 (.seq (.cond (.tmp 19) .skip
 (.exit 0))
 (.seq (.block 1 (.seq (.ops (.op (some 20) .any [18] (.mov (.tmp 18)) <|
 .op (some 21) .any [16, 18] (.iaddrS 3 (.tmp 16) (.tmp 18)) <|
 .op (some 22) (.agg [.str, (.int .i64), .bool]) [21] (.load (some 3) (.tmp 21)) <|
 .pal 8 [] 121 [(V.str ⟨0, 0⟩), (V.int .i64 (Int.ofNat 0)), (V.bool false)] <|
 .op (some 7) .any [20] (.mov (.tmp 20)) <|
 .op none (.agg [.str, (.int .i64), .bool]) [8, 22] (.store 3 (.tmp 8) (.tmp 22)) <|
 .nil))
 (.seq (.ops (.op (some 9) .any [] (.mov (.con (V.bool true))) <|
 .nil))
 (.seq (.block 2 (.seq (.ops (.op (some 30) .any [8] (.faddr 2 (.tmp 8)) <|
 .op (some 31) .bool [30] (.load none (.tmp 30)) <|
 .op (some 29) .any [31] (.mov (.tmp 31)) <|
 .nil))
 (.cond (.tmp 29) .skip
 (.seq (.ops (.op (some 33) .any [7] (.mov (.tmp 7)) <|
 .op (some 34) .any [6] (.mov (.tmp 6)) <|
 .op (some 35) .any [33, 34] (.bin .lss .none (.tmp 33) (.tmp 34)) <|
 .op (some 32) .any [35] (.mov (.tmp 35)) <|
 .nil))
 (.cond (.tmp 32) (.seq (.block 3 (.loop [(1, .ptr), (4, .any), (5, (.int .i64)), (6, (.int .i64)), (9, .bool), (16, .any), (17, (.int .i64)), (18, (.int .i64))] [8] [(8, [.str, (.int .i64), .bool])] cc6))
 (.keep [(1, .ptr), (4, .any), (5, (.int .i64)), (6, (.int .i64)), (9, .bool), (16, .any), (17, (.int .i64)), (18, (.int .i64))] [8] [(8, [.str, (.int .i64), .bool])] cc5))
 (.ops (.op (some 24) .any [4] (.mov (.tmp 4)) <|
 .op (some 25) (.tup [(.int .i64), .bool]) [24] (.call 191 [(.tmp 24)]) <|
 .op (some 23) .any [25] (.mov (.tmp 25)) <|
 .op (some 26) .any [23] (.extract 0 (.tmp 23)) <|
 .op (some 27) .any [23] (.extract 1 (.tmp 23)) <|
 .op (some 28) .any [8] (.faddr 1 (.tmp 8)) <|
 .op none .any [28, 26] (.store 1 (.tmp 28) (.tmp 26)) <|
 .op (some 9) .any [27] (.mov (.tmp 27)) <|
 .nil)))))))
 (.keep [(1, .ptr), (4, .any), (5, (.int .i64)), (6, (.int .i64)), (9, .bool), (16, .any), (17, (.int .i64)), (18, (.int .i64))] [8] [(8, [.str, (.int .i64), .bool])] cc4)))))
 (.keep [(1, .ptr), (4, .any), (5, (.int .i64)), (6, (.int .i64)), (16, .any), (17, (.int .i64)), (18, (.int .i64))] [] [] cc3))))
def C163_3 : XC := (.ops (.op (some 58) .any [18] (.bin .add .none (.tmp 18) (.con (V.int .i64 (Int.ofNat 1)))) <|
 .op (some 18) .any [58] (.mov (.tmp 58)) <|
 .nil))
def C163_4 : XC := (.seq (.seq (.ops (.op (some 48) .any [9] (.mov (.tmp 9)) <|
 .op (some 49) .any [48] (.un .not (.tmp 48)) <|
 .nil))
 (.cond (.tmp 49) (.seq (.ops (.op (some 2) .any [] (.mov (.con V.nils)) <|
 .op (some 3) .any [] (.mov (.con (V.bool false))) <|
 .nil))
 .ret)
 .skip))
 (.ops (.op (some 50) .any [4] (.mov (.tmp 4)) <|
 .op (some 51) .any [8] (.faddr 0 (.tmp 8)) <|
 .op (some 52) .str [51] (.load none (.tmp 51)) <|
 .op (some 53) .any [8] (.faddr 1 (.tmp 8)) <|
 .op (some 54) (.int .i64) [53] (.load none (.tmp 53)) <|
 .op (some 55) (.agg [.str, (.int .i64), .bool]) [52, 54] (.build [(V.str ⟨0, 0⟩), (V.int .i64 (Int.ofNat 0)), (V.bool false)] [(0, 1, (.tmp 52)), (1, 1, (.tmp 54))]) <|
 .op (some 56) .any [55] (.buildSlice 121 1 [(V.str ⟨0, 0⟩), (V.int .i64 (Int.ofNat 0)), (V.bool false)] [(0, 3, (.tmp 55))]) <|
 .op (some 57) .one [50, 56] (.append 121 3 32 (.tmp 50) (.tmp 56)) <|
 .op (some 4) .any [57] (.mov (.tmp 57)) <|
 .nil)))
def C163_5 : XC := (.seq (.ops (.op (some 44) .any [5] (.mov (.tmp 5)) <|
 .op (some 45) .any [8] (.faddr 1 (.tmp 8)) <|
 .op none .any [45, 44] (.store 1 (.tmp 45) (.tmp 44)) <|
 .nil))
 (.ops (.op (some 46) .any [5] (.mov (.tmp 5)) <|
 .op (some 47) .any [46] (.bin .add .none (.tmp 46) (.con (V.int .i64 (Int.ofNat 1)))) <|
 .op (some 5) .any [47] (.mov (.tmp 47)) <|
 .nil)))
def C163_6 : XC := (.seq (.seq (.ops (.op (some 36) .any [1] (.faddr 11 (.tmp 1)) <|
 .op (some 37) .any [36] (.load none (.tmp 36)) <|
 .op (some 38) .any [6] (.mov (.tmp 6)) <|
 .op (some 39) .any [37, 38] (.sliceSl 3 (.tmp 37) none (some (.tmp 38)) none) <|
 .op (some 40) .any [5] (.mov (.tmp 5)) <|
 .op (some 41) .bool [39, 40] (.call 190 [(.tmp 39), (.tmp 40)]) <|
 .nil))
 (.cond (.tmp 41) .skip
 (.exit 3)))
 (.block 4 (.ops (.op (some 42) .any [5] (.mov (.tmp 5)) <|
 .op (some 43) .any [42] (.bin .add .none (.tmp 42) (.con (V.int .i64 (Int.ofNat 1)))) <|
 .op (some 5) .any [43] (.mov (.tmp 43)) <|
 .nil))))
def A163 : XFn := ⟨60, [(.agg [(.int .i64), .str, .bool, (.int .i64), (.int .i64), .bool, .bool, .bool, .bool, (.int .i64), (.int .i64), .any, .any, (.int .i64), .bool, (.int .i64)])], [(.tmp 2), (.tmp 3)], (C163_0 C163_1 (C163_2 C163_3 C163_4 C163_5 C163_6))⟩
def C164_0 : XC := (.seq (.ops (.op (some 4) .any [] (.mov (.con (V.int .i64 (Int.ofNat 0)))) <|
 .nil))
 (.seq (.ops (.op (some 5) .any [0] (.mov (.tmp 0)) <|
 .op (some 6) .any [1] (.mov (.tmp 1)) <|
 .op (some 7) .any [6] (.len false (.tmp 6)) <|
 .op (some 8) .any [5, 7] (.min (.tmp 5) [(.tmp 7)]) <|
 .op (some 9) .any [8] (.max (.con (V.int .i64 (Int.ofNat 0))) [(.tmp 8)]) <|
 .op (some 4) .any [9] (.mov (.tmp 9)) <|
 .nil))
 .ret))
def A164 : XFn := ⟨10, [(.int .i64), .any], [(.tmp 4)], C164_0⟩
def C165_0 : XC := (.seq (.ops (.op (some 4) .any [] (.mov (.con (V.bool false))) <|
 .nil))
 (.seq (.ops (.op (some 5) .any [0] (.mov (.tmp 0)) <|
 .op (some 6) .any [1] (.mov (.tmp 1)) <|
 .op (some 7) (.int .i64) [5, 6] (.call 192 [(.tmp 5), (.tmp 6)]) <|
 .op (some 8) .any [7] (.bin .geq .none (.tmp 7) (.con (V.int .i64 (Int.ofNat 0)))) <|
 .op (some 4) .any [8] (.mov (.tmp 8)) <|
 .nil))
 .ret))
def A165 : XFn := ⟨9, [.any, .any], [(.tmp 4)], C165_0⟩
def C166_0 : XC := (.seq (.ops (.op (some 2) .any [0] (.box 121 (.tmp 0)) <|
 .op (some 3) .any [] (.mov (.con (V.bool false))) <|
 .nil))
 (.seq (.ops (.op (some 4) .any [2] (.faddr 0 (.tmp 2)) <|
 .op (some 5) .str [4] (.load none (.tmp 4)) <|
 .op (some 6) .any [1] (.faddr 0 (.tmp 1)) <|
 .op (some 7) .str [6] (.load none (.tmp 6)) <|
 .op (some 8) .any [5, 7] (.bin .eql .none (.tmp 5) (.tmp 7)) <|
 .op (some 9) .any [8] (.mov (.tmp 8)) <|
 .grp 9 false (.op (some 10) .any [2, 9] (.faddr 1 (.tmp 2)) <|
 .op (some 11) (.int .i64) [10, 9] (.load none (.tmp 10)) <|
 .op (some 12) .any [1, 9] (.faddr 1 (.tmp 1)) <|
 .op (some 13) (.int .i64) [12, 9] (.load none (.tmp 12)) <|
 .op (some 14) .any [11, 13, 9] (.bin .eql .none (.tmp 11) (.tmp 13)) <|
 .nil) 15 [9, 14] (.tmp 9) (.con (V.bool true)) (.tmp 14) <|
 .op (some 3) .any [15] (.mov (.tmp 15)) <|
 .nil))
 .ret))
def A166 : XFn := ⟨16, [(.agg [.str, (.int .i64), .bool]), .any], [(.tmp 3)], C166_0⟩
def C172_0 (cc1 : XC) : XC := (.seq (.seq (.ops (.op (some 2) .bool [0] (.load none (.tmp 0)) <|
 .op (some 3) .any [2] (.un .not (.tmp 2)) <|
 .nil))
 (.cond (.tmp 3) (.ops (.op (some 4) .any [1] (.load none (.tmp 1)) <|
 .op (some 5) .any [4] (.nilck (.tmp 4)) <|
 .op (some 6) .any [5] (.faddr 0 (.tmp 5)) <|
 .op (some 7) .any [] (.buildSlice 9 1 [(V.str ⟨0, 0⟩)] [(0, 1, (.con (V.str ⟨2, 8236⟩)))]) <|
 .op (some 8) (.tup []) [6, 7] (.call 71 [(.tmp 6), (.tmp 7)]) <|
 .nil))
 .skip))
 (.keep [(0, .any)] [] [] cc1))
def C172_1 : XC := (.ops (.op none .any [0] (.store 1 (.tmp 0) (.con (V.bool false))) <|
 .nil))
def A172 : XFn := ⟨9, [.any, .any], [], (C172_0 C172_1)⟩
def C175_0 (cc1 : XC) (cc2 : XC) : XC := (.seq (.ops (.op (some 4) .any [] (.mov (.con (V.bool false))) <|
 .nil))
 (.seq (.seq (.ops (.op (some 6) .any [0] (.mov (.tmp 0)) <|
 .op (some 7) .any [6] (.len false (.tmp 6)) <|
 .op (some 8) .any [1] (.mov (.tmp 1)) <|
 .op (some 9) .any [8] (.len false (.tmp 8)) <|
 .op (some 10) .any [7, 9] (.bin .neq .none (.tmp 7) (.tmp 9)) <|
 .nil))
 (.cond (.tmp 10) (.seq (.ops (.op (some 4) .any [] (.mov (.con (V.bool false))) <|
 .nil))
 .ret)
 .skip))
 (.seq (.seq (.ops (.op (some 11) .any [0] (.mov (.tmp 0)) <|
 .op (some 12) .any [11] (.len false (.tmp 11)) <|
 .op (some 13) .any [] (.mov (.con (V.int .i64 (Int.ofNat 0)))) <|
 .nil))
 (.block 0 (.loop [(0, .any), (1, .any), (12, (.int .i64)), (13, (.int .i64))] [] [] cc2)))
 (.keep [] [] [] cc1))))
def C175_1 : XC := (.seq (.ops (.op (some 4) .any [] (.mov (.con (V.bool true))) <|
 .nil))
 .ret)
def C175_2 : XC := (.seq (.ops (.op (some 14) .any [13, 12] (.bin .lss .none (.tmp 13) (.tmp 12)) <|
 .nil))
 (.seq (.cond (.tmp 14) .skip
 (.exit 0))
 (.seq (.block 1 (.seq (.ops (.op (some 15) .any [13] (.mov (.tmp 13)) <|
 .op (some 5) .any [15] (.mov (.tmp 15)) <|
 .nil))
 (.seq (.draw (.op (some 16) .any [0] (.mov (.tmp 0)) <|
 .op (some 17) .any [5] (.mov (.tmp 5)) <|
 .op (some 18) .any [16, 17] (.iaddrS 3 (.tmp 16) (.tmp 17)) <|
 .op (some 19) (.agg [.str, (.int .i64), .bool]) [18] (.load (some 3) (.tmp 18)) <|
 .op (some 20) .any [1] (.mov (.tmp 1)) <|
 .op (some 21) .any [5] (.mov (.tmp 5)) <|
 .op (some 22) .any [20, 21] (.iaddrS 3 (.tmp 20) (.tmp 21)) <|
 .op (some 23) (.agg [.str, (.int .i64), .bool]) [22] (.load (some 3) (.tmp 22)) <|
 .op (some 24) .any [19, 23] (.bin .neq (.flat [(0, .str), (1, .int), (2, .bool)]) (.tmp 19) (.tmp 23)) <|
 .nil) [0, 0, 3, 7, 0, 0, 48, 112, 255])
 (.cond (.tmp 24) (.seq (.ops (.op (some 4) .any [] (.mov (.con (V.bool false))) <|
 .nil))
 .ret)
 .skip))))
 (.ops (.op (some 25) .any [13] (.bin .add .none (.tmp 13) (.con (V.int .i64 (Int.ofNat 1)))) <|
 .op (some 13) .any [25] (.mov (.tmp 25)) <|
 .nil)))))
def A175 : XFn := ⟨26, [.any, .any], [(.tmp 4)], (C175_0 C175_1 C175_2)⟩
def C177_0 : XC := (.seq (.ops (.op (some 4) .any [] (.mov (.con (V.bool false))) <|
 .nil))
 (.seq (.ops (.op (some 5) .any [0] (.mov (.tmp 0)) <|
 .op (some 6) .any [5] (.len true (.tmp 5)) <|
 .op (some 7) .any [1] (.mov (.tmp 1)) <|
 .op (some 8) .any [7] (.len true (.tmp 7)) <|
 .op (some 9) .any [6, 8] (.bin .geq .none (.tmp 6) (.tmp 8)) <|
 .op (some 10) .any [9] (.mov (.tmp 9)) <|
 .grp 10 true (.op (some 11) .any [0, 10] (.mov (.tmp 0)) <|
 .op (some 12) .any [1, 10] (.mov (.tmp 1)) <|
 .op (some 13) .any [12, 10] (.len true (.tmp 12)) <|
 .op (some 14) .any [11, 13, 10] (.sliceStr (.tmp 11) none (some (.tmp 13))) <|
 .op (some 15) .any [1, 10] (.mov (.tmp 1)) <|
 .op (some 16) .any [14, 15, 10] (.bin .eql .none (.tmp 14) (.tmp 15)) <|
 .nil) 17 [10, 16] (.tmp 10) (.tmp 16) (.con (V.bool false)) <|
 .op (some 4) .any [17] (.mov (.tmp 17)) <|
 .nil))
 .ret))
def A177 : XFn := ⟨18, [.str, .str], [(.tmp 4)], C177_0⟩
def C181_0 (cc1 : XC) : XC := (.seq (.ops (.pal 2 [] 201 [(V.bool false), (V.int .i64 (Int.ofNat 0)), (V.int .i64 (Int.ofNat 0))] <|
 .op (some 3) .any [] (.mov (.con (V.bool false))) <|
 .nil))
 (.seq (.seq (.ops (.op (some 8) .any [0] (.mov (.tmp 0)) <|
 .op (some 9) .any [8] (.nilck (.tmp 8)) <|
 .op (some 10) .any [9] (.faddr 0 (.tmp 9)) <|
 .op (some 11) .bool [10] (.call 126 [(.tmp 10), (.con (V.str ⟨1, 91⟩))]) <|
 .op (some 12) .any [11] (.un .not (.tmp 11)) <|
 .nil))
 (.cond (.tmp 12) (.seq (.ops (.op (some 13) (.agg [.bool, (.int .i64), (.int .i64)]) [] (.build [(V.bool false), (V.int .i64 (Int.ofNat 0)), (V.int .i64 (Int.ofNat 0))] []) <|
 .op none (.agg [.bool, (.int .i64), (.int .i64)]) [2, 13] (.store 3 (.tmp 2) (.tmp 13)) <|
 .op (some 3) .any [] (.mov (.con (V.bool true))) <|
 .nil))
 .ret)
 .skip))
 (.seq (.ops (.op (some 15) .any [0] (.mov (.tmp 0)) <|
 .op (some 16) (.tup [(.int .i64), (.agg [(.int .i64), .str, (.int .i64)]), .bool]) [15] (.call 209 [(.tmp 15)]) <|
 .op (some 14) .any [16] (.mov (.tmp 16)) <|
 .op (some 17) .any [14] (.extract 0 (.tmp 14)) <|
 .op (some 18) .any [14] (.extract 1 (.tmp 14)) <|
 .op (some 19) .any [14] (.extract 2 (.tmp 14)) <|
 .pal 5 [] 187 [(V.int .i64 (Int.ofNat 0)), (V.str ⟨0, 0⟩), (V.int .i64 (Int.ofNat 0))] <|
 .op (some 4) .any [17] (.mov (.tmp 17)) <|
 .op none (.agg [(.int .i64), .str, (.int .i64)]) [5, 18] (.store 3 (.tmp 5) (.tmp 18)) <|
 .op (some 6) .any [19] (.mov (.tmp 19)) <|
 .nil))
 (.seq (.block 0 (.seq (.ops (.op (some 21) .any [6] (.mov (.tmp 6)) <|
 .op (some 22) .any [21] (.un .not (.tmp 21)) <|
 .op (some 20) .any [22] (.mov (.tmp 22)) <|
 .nil))
 (.cond (.tmp 20) (.seq (.ops (.op (some 23) (.agg [.bool, (.int .i64), (.int .i64)]) [] (.build [(V.bool false), (V.int .i64 (Int.ofNat 0)), (V.int .i64 (Int.ofNat 0))] []) <|
 .op none (.agg [.bool, (.int .i64), (.int .i64)]) [2, 23] (.store 3 (.tmp 2) (.tmp 23)) <|
 .op (some 3) .any [] (.mov (.con (V.bool false))) <|
 .nil))
 .ret)
 (.seq (.ops (.op (some 25) .any [4] (.mov (.tmp 4)) <|
 .op (some 26) .any [25] (.bin .lss .none (.tmp 25) (.con (V.int .i64 (Int.ofNat 0)))) <|
 .op (some 27) .any [26] (.mov (.tmp 26)) <|
 .grp 27 false (.op (some 28) .any [4, 27] (.mov (.tmp 4)) <|
 .op (some 29) .any [28, 27] (.bin .gtr .none (.tmp 28) (.con (V.int .i64 (Int.ofNat 268435456)))) <|
 .nil) 30 [27, 29] (.tmp 27) (.con (V.bool true)) (.tmp 29) <|
 .op (some 24) .any [30] (.mov (.tmp 30)) <|
 .nil))
 (.cond (.tmp 24) (.seq (.ops (.op (some 31) (.agg [.bool, (.int .i64), (.int .i64)]) [] (.build [(V.bool false), (V.int .i64 (Int.ofNat 0)), (V.int .i64 (Int.ofNat 0))] []) <|
 .op (some 32) .any [0] (.mov (.tmp 0)) <|
 .op (some 33) .any [5] (.faddr 2 (.tmp 5)) <|
 .op (some 34) (.int .i64) [33] (.load none (.tmp 33)) <|
 .op (some 35) .bool [32, 34] (.call 124 [(.tmp 32), (.tmp 34), (.con (V.int .i64 (Int.ofNat 12)))]) <|
 .op none (.agg [.bool, (.int .i64), (.int .i64)]) [2, 31] (.store 3 (.tmp 2) (.tmp 31)) <|
 .op (some 3) .any [35] (.mov (.tmp 35)) <|
 .nil))
 .ret)
 (.seq (.ops (.op (some 37) .any [0] (.mov (.tmp 0)) <|
 .op (some 38) .any [] (.buildSlice 9 1 [(V.str ⟨0, 0⟩)] [(0, 1, (.con (V.str ⟨1, 93⟩)))]) <|
 .op (some 39) .bool [37, 38] (.call 90 [(.tmp 37), (.tmp 38)]) <|
 .op (some 40) .any [39] (.un .not (.tmp 39)) <|
 .op (some 36) .any [40] (.mov (.tmp 40)) <|
 .nil))
 (.cond (.tmp 36) (.seq (.ops (.op (some 41) (.agg [.bool, (.int .i64), (.int .i64)]) [] (.build [(V.bool false), (V.int .i64 (Int.ofNat 0)), (V.int .i64 (Int.ofNat 0))] []) <|
 .op none (.agg [.bool, (.int .i64), (.int .i64)]) [2, 41] (.store 3 (.tmp 2) (.tmp 41)) <|
 .op (some 3) .any [] (.mov (.con (V.bool false))) <|
 .nil))
 .ret)
 .skip)))))))
 (.seq (.ops (.op (some 42) .any [4] (.mov (.tmp 4)) <|
 .op (some 43) (.agg [.bool, (.int .i64), (.int .i64)]) [42] (.build [(V.bool false), (V.int .i64 (Int.ofNat 0)), (V.int .i64 (Int.ofNat 0))] [(0, 1, (.con (V.bool true))), (1, 1, (.tmp 42))]) <|
 .pal 7 [] 201 [(V.bool false), (V.int .i64 (Int.ofNat 0)), (V.int .i64 (Int.ofNat 0))] <|
 .op none (.agg [.bool, (.int .i64), (.int .i64)]) [7, 43] (.store 3 (.tmp 7) (.tmp 43)) <|
 .nil))
 (.seq (.block 1 (.seq (.ops (.op (some 45) .any [0] (.mov (.tmp 0)) <|
 .op (some 46) .any [45] (.nilck (.tmp 45)) <|
 .op (some 47) .any [46] (.faddr 0 (.tmp 46)) <|
 .op (some 48) .bool [47] (.call 126 [(.tmp 47), (.con (V.str ⟨8, 6073459554577832005⟩))]) <|
 .op (some 44) .any [48] (.mov (.tmp 48)) <|
 .nil))
 (.cond (.tmp 44) (.ops (.op (some 49) .any [7] (.faddr 2 (.tmp 7)) <|
 .op none .any [49] (.store 1 (.tmp 49) (.con (V.int .i64 (Int.ofNat 1)))) <|
 .nil))
 (.seq (.ops (.op (some 51) .any [0] (.mov (.tmp 0)) <|
 .op (some 52) .any [51] (.nilck (.tmp 51)) <|
 .op (some 53) .any [52] (.faddr 0 (.tmp 52)) <|
 .op (some 54) .bool [53] (.call 126 [(.tmp 53), (.con (V.str ⟨8, 6073459554577829193⟩))]) <|
 .op (some 50) .any [54] (.mov (.tmp 54)) <|
 .nil))
 (.cond (.tmp 50) (.ops (.op (some 55) .any [7] (.faddr 2 (.tmp 7)) <|
 .op none .any [55] (.store 1 (.tmp 55) (.con (V.int .i64 (Int.ofNat 2)))) <|
 .nil))
 .skip)))))
 (.keep [] [2, 7] [(2, [.bool, (.int .i64), (.int .i64)]), (7, [.bool, (.int .i64), (.int .i64)])] cc1)))))))
def C181_1 : XC := (.seq (.ops (.op (some 56) (.agg [.bool, (.int .i64), (.int .i64)]) [7] (.load (some 3) (.tmp 7)) <|
 .op none (.agg [.bool, (.int .i64), (.int .i64)]) [2, 56] (.store 3 (.tmp 2) (.tmp 56)) <|
 .op (some 3) .any [] (.mov (.con (V.bool true))) <|
 .nil))
 .ret)
def A181 : XFn := ⟨57, [.ptr], [(.cell 2 (some 3)), (.tmp 3)], (C181_0 C181_1)⟩
def G184_0 : List AOper := [⟨(some 48), .mov (.tmp 1), none⟩, ⟨(some 49), .mov (.tmp 1), none⟩, ⟨(some 50), .nilck (.tmp 49), none⟩, ⟨(some 51), .faddr 11 (.tmp 50), none⟩, ⟨(some 52), .load none (.tmp 51), none⟩, ⟨(some 53), .load (some 3) (.tmp 5), none⟩, ⟨(some 54), .buildSlice 121 1 [(V.str ⟨0, 0⟩), (V.int .i64 (Int.ofNat 0)), (V.bool false)] [(0, 3, (.tmp 53))], none⟩, ⟨(some 55), .append 121 3 32 (.tmp 52) (.tmp 54), none⟩, ⟨(some 56), .nilck (.tmp 48), none⟩, ⟨(some 57), .faddr 11 (.tmp 56), none⟩, ⟨none, .store 1 (.tmp 57) (.tmp 55), none⟩]
def H184_0 : List DP := [⟨0, [1]⟩, ⟨0, [1]⟩, ⟨2, [49]⟩, ⟨6, [50]⟩, ⟨14, [51]⟩, ⟨0, [5]⟩, ⟨32, [53]⟩, ⟨126, [52, 54]⟩, ⟨255, [48]⟩, ⟨511, [56]⟩, ⟨1023, [57, 55]⟩]
def C184_0 (cc1 : XC) (cc2 : XC) : XC := (.seq (.ops (.op (some 4) .any [] (.mov (.con (V.bool false))) <|
 .nil))
 (.seq (.seq (.ops (.op (some 7) .any [0] (.mov (.tmp 0)) <|
 .op (some 8) .any [] (.buildSlice 9 1 [(V.str ⟨0, 0⟩)] [(0, 1, (.con (V.str ⟨1, 123⟩)))]) <|
 .op (some 9) .bool [7, 8] (.call 90 [(.tmp 7), (.tmp 8)]) <|
 .op (some 10) .any [9] (.un .not (.tmp 9)) <|
 .nil))
 (.cond (.tmp 10) (.seq (.ops (.op (some 4) .any [] (.mov (.con (V.bool false))) <|
 .nil))
 .ret)
 .skip))
 (.seq (.block 0 (.loop [(0, .ptr), (1, .ptr)] [] [] cc2))
 (.keep [(0, .ptr), (1, .ptr)] [] [] cc1))))
def C184_1 (cc4 : XC) : XC := (.seq (.seq (.ops (.op (some 63) .any [1] (.mov (.tmp 1)) <|
 .op (some 64) .any [63] (.nilck (.tmp 63)) <|
 .op (some 65) .any [64] (.faddr 14 (.tmp 64)) <|
 .op (some 66) .bool [65] (.load none (.tmp 65)) <|
 .op (some 67) .any [66] (.un .not (.tmp 66)) <|
 .nil))
 (.cond (.tmp 67) (.ops (.op (some 68) .any [1] (.mov (.tmp 1)) <|
 .op (some 69) .any [1] (.mov (.tmp 1)) <|
 .op (some 70) .any [69] (.nilck (.tmp 69)) <|
 .op (some 71) .any [70] (.faddr 11 (.tmp 70)) <|
 .op (some 72) .any [71] (.load none (.tmp 71)) <|
 .op (some 73) .any [72] (.len false (.tmp 72)) <|
 .op (some 74) .any [68] (.nilck (.tmp 68)) <|
 .op (some 75) .any [74] (.faddr 13 (.tmp 74)) <|
 .op none .any [75, 73] (.store 1 (.tmp 75) (.tmp 73)) <|
 .nil))
 .skip))
 (.keep [(0, .ptr)] [] [] cc4))
def C184_2 (cc3 : XC) : XC := (.block 1 (.seq (.seq (.ops (.op (some 11) .any [1] (.mov (.tmp 1)) <|
 .op (some 12) .any [11] (.nilck (.tmp 11)) <|
 .op (some 13) .any [12] (.faddr 11 (.tmp 12)) <|
 .op (some 14) .any [13] (.load none (.tmp 13)) <|
 .op (some 15) .any [14] (.len false (.tmp 14)) <|
 .op (some 16) .any [15] (.bin .gtr .none (.tmp 15) (.con (V.int .i64 (Int.ofNat 0)))) <|
 .op (some 17) .any [16] (.mov (.tmp 16)) <|
 .grp 17 true (.op (some 18) .any [1, 17] (.mov (.tmp 1)) <|
 .op (some 19) .any [18, 17] (.nilck (.tmp 18)) <|
 .op (some 20) .any [19, 17] (.faddr 14 (.tmp 19)) <|
 .op (some 21) .bool [20, 17] (.load none (.tmp 20)) <|
 .op (some 22) .any [21, 17] (.un .not (.tmp 21)) <|
 .nil) 23 [17, 22] (.tmp 17) (.tmp 22) (.con (V.bool false)) <|
 .op (some 24) .any [23] (.mov (.tmp 23)) <|
 .grp 24 true (.op (some 25) .any [0, 24] (.mov (.tmp 0)) <|
 .op (some 26) .any [25, 24] (.nilck (.tmp 25)) <|
 .op (some 27) .any [26, 24] (.faddr 0 (.tmp 26)) <|
 .op (some 28) .bool [27, 24] (.call 126 [(.tmp 27), (.con (V.str ⟨3, 3026478⟩))]) <|
 .nil) 29 [24, 28] (.tmp 24) (.tmp 28) (.con (V.bool false)) <|
 .nil))
 (.cond (.tmp 29) (.ops (.op (some 30) .any [1] (.mov (.tmp 1)) <|
 .op (some 31) .any [1] (.mov (.tmp 1)) <|
 .op (some 32) .any [1] (.mov (.tmp 1)) <|
 .op (some 33) .any [32] (.nilck (.tmp 32)) <|
 .op (some 34) .any [33] (.faddr 11 (.tmp 33)) <|
 .op (some 35) .any [34] (.load none (.tmp 34)) <|
 .op (some 36) .any [35] (.len false (.tmp 35)) <|
 .op (some 37) .any [30] (.nilck (.tmp 30)) <|
 .op (some 38) .any [37] (.faddr 14 (.tmp 37)) <|
 .op none .any [38] (.store 1 (.tmp 38) (.con (V.bool true))) <|
 .op (some 39) .any [31] (.nilck (.tmp 31)) <|
 .op (some 40) .any [39] (.faddr 13 (.tmp 39)) <|
 .op none .any [40, 36] (.store 1 (.tmp 40) (.tmp 36)) <|
 .nil))
 (.seq (.ops (.op (some 42) .any [0] (.mov (.tmp 0)) <|
 .op (some 43) (.tup [(.agg [.str, (.int .i64), .bool]), .bool]) [42] (.call 210 [(.tmp 42)]) <|
 .op (some 41) .any [43] (.mov (.tmp 43)) <|
 .op (some 44) .any [41] (.extract 0 (.tmp 41)) <|
 .op (some 45) .any [41] (.extract 1 (.tmp 41)) <|
 .op (some 5) .any [] (.alloc 121 [(V.str ⟨0, 0⟩), (V.int .i64 (Int.ofNat 0)), (V.bool false)]) <|
 .op none (.agg [.str, (.int .i64), .bool]) [5, 44] (.store 3 (.tmp 5) (.tmp 44)) <|
 .op (some 6) .any [45] (.mov (.tmp 45)) <|
 .nil))
 (.seq (.seq (.ops (.op (some 46) .any [6] (.mov (.tmp 6)) <|
 .op (some 47) .any [46] (.un .not (.tmp 46)) <|
 .nil))
 (.cond (.tmp 47) (.seq (.ops (.op (some 4) .any [] (.mov (.con (V.bool false))) <|
 .nil))
 .ret)
 .skip))
 (.keep [(0, .ptr), (1, .ptr), (5, .ptr)] [] [] (.gdraw G184_0 H184_0 [(0, .ptr), (1, .ptr)]))))))
 (.keep [(0, .ptr), (1, .ptr)] [] [] cc3)))
def C184_3 : XC := (.seq (.ops (.op (some 58) .any [0] (.mov (.tmp 0)) <|
 .op (some 59) .any [58] (.nilck (.tmp 58)) <|
 .op (some 60) .any [59] (.faddr 0 (.tmp 59)) <|
 .op (some 61) .bool [60] (.call 126 [(.tmp 60), (.con (V.str ⟨1, 44⟩))]) <|
 .op (some 62) .any [61] (.un .not (.tmp 61)) <|
 .nil))
 (.cond (.tmp 62) (.exit 0)
 .skip))
def C184_4 : XC := (.seq (.ops (.op (some 76) .any [0] (.mov (.tmp 0)) <|
 .op (some 77) .any [] (.buildSlice 9 1 [(V.str ⟨0, 0⟩)] [(0, 1, (.con (V.str ⟨1, 125⟩)))]) <|
 .op (some 78) .bool [76, 77] (.call 90 [(.tmp 76), (.tmp 77)]) <|
 .op (some 4) .any [78] (.mov (.tmp 78)) <|
 .nil))
 .ret)
def A184 : XFn := ⟨79, [.ptr, .ptr], [(.tmp 4)], (C184_0 (C184_1 C184_4) (C184_2 C184_3))⟩
def C188_0 (cc1 : XC) (cc2 : XC) : XC := (.seq (.ops (.op (some 4) .any [] (.mov (.con (V.int .i64 (Int.ofNat 0)))) <|
 .nil))
 (.seq (.seq (.ops (.op (some 6) .any [0] (.mov (.tmp 0)) <|
 .op (some 7) .any [6] (.len false (.tmp 6)) <|
 .op (some 8) .any [] (.mov (.con (V.int .i64 (Int.ofNat 0)))) <|
 .nil))
 (.block 0 (.loop [(0, .any), (1, .any), (7, (.int .i64)), (8, (.int .i64))] [] [] cc2)))
 (.keep [] [] [] cc1)))
def C188_1 : XC := (.seq (.ops (.op (some 4) .any [] (.mov (.con (V.int .i64 (Int.negSucc 0)))) <|
 .nil))
 .ret)
def C188_2 : XC := (.seq (.ops (.op (some 9) .any [8, 7] (.bin .lss .none (.tmp 8) (.tmp 7)) <|
 .nil))
 (.seq (.cond (.tmp 9) .skip
 (.exit 0))
 (.seq (.block 1 (.seq (.ops (.op (some 10) .any [8] (.mov (.tmp 8)) <|
 .op (some 5) .any [10] (.mov (.tmp 10)) <|
 .nil))
 (.seq (.ops (.op (some 11) .any [1] (.mov (.tmp 1)) <|
 .op (some 12) .any [0] (.mov (.tmp 0)) <|
 .op (some 13) .any [5] (.mov (.tmp 5)) <|
 .op (some 14) .any [12, 13] (.iaddrS 1 (.tmp 12) (.tmp 13)) <|
 .op (some 15) .str [14] (.load none (.tmp 14)) <|
 .op (some 16) .bool [11, 15] (.callv (.tmp 11) [(.tmp 15)]) <|
 .nil))
 (.cond (.tmp 16) (.seq (.ops (.op (some 17) .any [5] (.mov (.tmp 5)) <|
 .op (some 4) .any [17] (.mov (.tmp 17)) <|
 .nil))
 .ret)
 .skip))))
 (.ops (.op (some 18) .any [8] (.bin .add .none (.tmp 8) (.con (V.int .i64 (Int.ofNat 1)))) <|
 .op (some 8) .any [18] (.mov (.tmp 18)) <|
 .nil)))))
def A188 : XFn := ⟨19, [.any, .any], [(.tmp 4)], (C188_0 C188_1 C188_2)⟩
def C190_0 : XC := (.seq (.ops (.op (some 3) .any [1] (.box 2 (.tmp 1)) <|
 .op (some 4) .any [] (.mov (.con (V.bool false))) <|
 .nil))
 (.seq (.ops (.op (some 5) .any [0] (.mov (.tmp 0)) <|
 .op (some 6) .any [3] (.mkfn 213 [] [(.tmp 3)]) <|
 .op (some 7) .bool [5, 6] (.call 165 [(.tmp 5), (.tmp 6)]) <|
 .op (some 4) .any [7] (.mov (.tmp 7)) <|
 .nil))
 .ret))
def A190 : XFn := ⟨8, [.any, (.int .i64)], [(.tmp 4)], C190_0⟩
def C191_0 (cc1 : XC) (cc2 : XC) : XC := (.seq (.ops (.op (some 2) .any [] (.mov (.con (V.int .i64 (Int.ofNat 0)))) <|
 .op (some 3) .any [] (.mov (.con (V.bool false))) <|
 .nil))
 (.seq (.seq (.ops (.op (some 7) .any [0] (.mov (.tmp 0)) <|
 .op (some 8) .any [7] (.len false (.tmp 7)) <|
 .op (some 9) .any [8] (.bin .eql .none (.tmp 8) (.con (V.int .i64 (Int.ofNat 0)))) <|
 .nil))
 (.cond (.tmp 9) (.seq (.ops (.op (some 2) .any [] (.mov (.con (V.int .i64 (Int.ofNat 0)))) <|
 .op (some 3) .any [] (.mov (.con (V.bool true))) <|
 .nil))
 .ret)
 .skip))
 (.seq (.ops (.op (some 10) .any [0] (.mov (.tmp 0)) <|
 .op (some 11) .any [10] (.iaddrS 3 (.tmp 10) (.con (V.int .i64 (Int.ofNat 0)))) <|
 .op (some 12) .any [11] (.faddr 1 (.tmp 11)) <|
 .op (some 13) (.int .i64) [12] (.load none (.tmp 12)) <|
 .op (some 4) .any [13] (.mov (.tmp 13)) <|
 .nil))
 (.seq (.seq (.ops (.op (some 14) .any [0] (.mov (.tmp 0)) <|
 .op (some 15) .any [14] (.len false (.tmp 14)) <|
 .op (some 16) .any [] (.mov (.con (V.int .i64 (Int.ofNat 0)))) <|
 .nil))
 (.block 0 (.loop [(4, (.int .i64)), (14, .any), (15, (.int .i64)), (16, (.int .i64))] [] [] cc2)))
 (.keep [(4, (.int .i64))] [] [] cc1)))))
def C191_1 : XC := (.seq (.ops (.op (some 25) .any [4] (.mov (.tmp 4)) <|
 .op (some 26) .any [25] (.bin .add .none (.tmp 25) (.con (V.int .i64 (Int.ofNat 1)))) <|
 .op (some 27) .any [4] (.mov (.tmp 4)) <|
 .op (some 28) .any [27] (.bin .lss .none (.tmp 27) (.con (V.int .i64 (Int.ofNat 9223372036854775807)))) <|
 .op (some 2) .any [26] (.mov (.tmp 26)) <|
 .op (some 3) .any [28] (.mov (.tmp 28)) <|
 .nil))
 .ret)
def C191_2 : XC := (.seq (.ops (.op (some 17) .any [16, 15] (.bin .lss .none (.tmp 16) (.tmp 15)) <|
 .nil))
 (.seq (.cond (.tmp 17) .skip
 (.exit 0))
 (.seq (.block 1 (.seq (.ops (.op (some 18) .any [14, 16] (.iaddrS 3 (.tmp 14) (.tmp 16)) <|
 .op (some 19) (.agg [.str, (.int .i64), .bool]) [18] (.load (some 3) (.tmp 18)) <|
 .pal 6 [] 121 [(V.str ⟨0, 0⟩), (V.int .i64 (Int.ofNat 0)), (V.bool false)] <|
 .op none (.agg [.str, (.int .i64), .bool]) [6, 19] (.store 3 (.tmp 6) (.tmp 19)) <|
 .nil))
 (.ops (.op (some 20) .any [4] (.mov (.tmp 4)) <|
 .op (some 21) .any [6] (.faddr 1 (.tmp 6)) <|
 .op (some 22) (.int .i64) [21] (.load none (.tmp 21)) <|
 .op (some 23) .any [20, 22] (.max (.tmp 20) [(.tmp 22)]) <|
 .op (some 4) .any [23] (.mov (.tmp 23)) <|
 .nil))))
 (.ops (.op (some 24) .any [16] (.bin .add .none (.tmp 16) (.con (V.int .i64 (Int.ofNat 1)))) <|
 .op (some 16) .any [24] (.mov (.tmp 24)) <|
 .nil)))))
def A191 : XFn := ⟨29, [.any], [(.tmp 2), (.tmp 3)], (C191_0 C191_1 C191_2)⟩
def C192_0 (cc1 : XC) (cc2 : XC) : XC := (.seq (.ops (.op (some 4) .any [] (.mov (.con (V.int .i64 (Int.ofNat 0)))) <|
 .nil))
 (.seq (.seq (.ops (.op (some 6) .any [0] (.mov (.tmp 0)) <|
 .op (some 7) .any [6] (.len false (.tmp 6)) <|
 .op (some 8) .any [] (.mov (.con (V.int .i64 (Int.ofNat 0)))) <|
 .nil))
 (.block 0 (.loop [(0, .any), (1, .any), (7, (.int .i64)), (8, (.int .i64))] [] [] cc2)))
 (.keep [] [] [] cc1)))
def C192_1 : XC := (.seq (.ops (.op (some 4) .any [] (.mov (.con (V.int .i64 (Int.negSucc 0)))) <|
 .nil))
 .ret)
def C192_2 : XC := (.seq (.ops (.op (some 9) .any [8, 7] (.bin .lss .none (.tmp 8) (.tmp 7)) <|
 .nil))
 (.seq (.cond (.tmp 9) .skip
 (.exit 0))
 (.seq (.block 1 (.seq (.ops (.op (some 10) .any [8] (.mov (.tmp 8)) <|
 .op (some 5) .any [10] (.mov (.tmp 10)) <|
 .nil))
 (.seq (.ops (.op (some 11) .any [1] (.mov (.tmp 1)) <|
 .op (some 12) .any [0] (.mov (.tmp 0)) <|
 .op (some 13) .any [5] (.mov (.tmp 5)) <|
 .op (some 14) .any [12, 13] (.iaddrS 3 (.tmp 12) (.tmp 13)) <|
 .op (some 15) (.agg [.str, (.int .i64), .bool]) [14] (.load (some 3) (.tmp 14)) <|
 .op (some 16) .bool [11, 15] (.callv (.tmp 11) [(.tmp 15)]) <|
 .nil))
 (.cond (.tmp 16) (.seq (.ops (.op (some 17) .any [5] (.mov (.tmp 5)) <|
 .op (some 4) .any [17] (.mov (.tmp 17)) <|
 .nil))
 .ret)
 .skip))))
 (.ops (.op (some 18) .any [8] (.bin .add .none (.tmp 8) (.con (V.int .i64 (Int.ofNat 1)))) <|
 .op (some 8) .any [18] (.mov (.tmp 18)) <|
 .nil)))))
def A192 : XFn := ⟨19, [.any, .any], [(.tmp 4)], (C192_0 C192_1 C192_2)⟩
def G210_0 : List AOper := [⟨(some 34), .load (some 3) (.tmp 6), none⟩, ⟨(some 35), .mov (.tmp 5), none⟩, ⟨(some 36), .mov (.tmp 35), none⟩, ⟨(some 37), .mov (.tmp 0), (some (36, true))⟩, ⟨(some 38), .buildSlice 9 1 [(V.str ⟨0, 0⟩)] [(0, 1, (.con (V.str ⟨1, 41⟩)))], (some (36, true))⟩, ⟨(some 39), .call 90 [(.tmp 37), (.tmp 38)], (some (36, true))⟩, ⟨(some 40), .pick (.tmp 36) (.tmp 39) (.con (V.bool false)), none⟩, ⟨none, .store 3 (.tmp 2) (.tmp 34), none⟩, ⟨(some 3), .mov (.tmp 40), none⟩]
def H210_0 : List DP := [⟨0, [6]⟩, ⟨0, [5]⟩, ⟨2, [35]⟩, ⟨6, [0, 36]⟩, ⟨6, [36]⟩, ⟨30, [37, 38, 36]⟩, ⟨62, [36, 39]⟩, ⟨63, [2, 34]⟩, ⟨255, [40]⟩]
def C210_0 : XC := (.seq (.ops (.op (some 2) .any [] (.alloc 121 [(V.str ⟨0, 0⟩), (V.int .i64 (Int.ofNat 0)), (V.bool false)]) <|
 .op (some 3) .any [] (.mov (.con (V.bool false))) <|
 .nil))
 (.seq (.ops (.op (some 8) .any [0] (.mov (.tmp 0)) <|
 .op (some 9) (.tup [(.agg [(.int .i64), .str, (.int .i64)]), .bool]) [8] (.call 89 [(.tmp 8), (.con (V.int .i64 (Int.ofNat 2)))]) <|
 .op (some 7) .any [9] (.mov (.tmp 9)) <|
 .op (some 10) .any [7] (.extract 0 (.tmp 7)) <|
 .op (some 11) .any [7] (.extract 1 (.tmp 7)) <|
 .pal 4 [] 187 [(V.int .i64 (Int.ofNat 0)), (V.str ⟨0, 0⟩), (V.int .i64 (Int.ofNat 0))] <|
 .op none (.agg [(.int .i64), .str, (.int .i64)]) [4, 10] (.store 3 (.tmp 4) (.tmp 10)) <|
 .op (some 5) .any [11] (.mov (.tmp 11)) <|
 .nil))
 (.seq (.ops (.op (some 12) .any [4] (.faddr 1 (.tmp 4)) <|
 .op (some 13) .str [12] (.load none (.tmp 12)) <|
 .op (some 14) (.agg [.str, (.int .i64), .bool]) [13] (.build [(V.str ⟨0, 0⟩), (V.int .i64 (Int.ofNat 0)), (V.bool false)] [(0, 1, (.tmp 13))]) <|
 .op (some 6) .any [] (.alloc 121 [(V.str ⟨0, 0⟩), (V.int .i64 (Int.ofNat 0)), (V.bool false)]) <|
 .op none (.agg [.str, (.int .i64), .bool]) [6, 14] (.store 3 (.tmp 6) (.tmp 14)) <|
 .nil))
 (.seq (.seq (.ops (.op (some 15) .any [5] (.mov (.tmp 5)) <|
 .op (some 16) .any [15] (.un .not (.tmp 15)) <|
 .op (some 17) .any [16] (.mov (.tmp 16)) <|
 .grp 17 false (.op (some 18) .any [0, 17] (.mov (.tmp 0)) <|
 .op (some 19) .any [18, 17] (.nilck (.tmp 18)) <|
 .op (some 20) .any [19, 17] (.faddr 0 (.tmp 19)) <|
 .op (some 21) .bool [20, 17] (.call 126 [(.tmp 20), (.con (V.str ⟨1, 40⟩))]) <|
 .op (some 22) .any [21, 17] (.un .not (.tmp 21)) <|
 .nil) 23 [17, 22] (.tmp 17) (.con (V.bool true)) (.tmp 22) <|
 .nil))
 (.cond (.tmp 23) (.seq (.ops (.op (some 24) (.agg [.str, (.int .i64), .bool]) [6] (.load (some 3) (.tmp 6)) <|
 .op (some 25) .any [5] (.mov (.tmp 5)) <|
 .op none (.agg [.str, (.int .i64), .bool]) [2, 24] (.store 3 (.tmp 2) (.tmp 24)) <|
 .op (some 3) .any [25] (.mov (.tmp 25)) <|
 .nil))
 .ret)
 .skip))
 (.seq (.ops (.op (some 26) .any [6] (.faddr 2 (.tmp 6)) <|
 .op none .any [26] (.store 1 (.tmp 26) (.con (V.bool true))) <|
 .nil))
 (.seq (.ops (.op (some 28) .any [0] (.mov (.tmp 0)) <|
 .op (some 29) (.tup [(.int .i64), (.agg [(.int .i64), .str, (.int .i64)]), .bool]) [28] (.call 209 [(.tmp 28)]) <|
 .op (some 27) .any [29] (.mov (.tmp 29)) <|
 .op (some 30) .any [27] (.extract 0 (.tmp 27)) <|
 .op (some 31) .any [27] (.extract 1 (.tmp 27)) <|
 .op (some 32) .any [27] (.extract 2 (.tmp 27)) <|
 .op (some 33) .any [6] (.faddr 1 (.tmp 6)) <|
 .op none .any [33, 30] (.store 1 (.tmp 33) (.tmp 30)) <|
 .op (some 5) .any [32] (.mov (.tmp 32)) <|
 .nil))
 (.seq (.keep [(0, .ptr), (2, .ptr), (5, .bool), (6, .ptr)] [] [] (.gdraw G210_0 H210_0 [(2, .ptr), (3, .bool)]))
 .ret)))))))
def A210 : XFn := ⟨41, [.ptr], [(.cell 2 (some 3)), (.tmp 3)], C210_0⟩
def C213_0 : XC := (.seq (.ops (.op (some 2) .any [0] (.box 121 (.tmp 0)) <|
 .op (some 3) .any [] (.mov (.con (V.bool false))) <|
 .nil))
 (.seq (.ops (.op (some 4) .any [2] (.faddr 2 (.tmp 2)) <|
 .op (some 5) .bool [4] (.load none (.tmp 4)) <|
 .op (some 6) .any [5] (.mov (.tmp 5)) <|
 .grp 6 true (.op (some 7) .any [2, 6] (.faddr 1 (.tmp 2)) <|
 .op (some 8) (.int .i64) [7, 6] (.load none (.tmp 7)) <|
 .op (some 9) (.int .i64) [1, 6] (.load none (.tmp 1)) <|
 .op (some 10) .any [8, 9, 6] (.bin .eql .none (.tmp 8) (.tmp 9)) <|
 .nil) 11 [6, 10] (.tmp 6) (.tmp 10) (.con (V.bool false)) <|
 .op (some 3) .any [11] (.mov (.tmp 11)) <|
 .nil))
 .ret))
def A213 : XFn := ⟨12, [(.agg [.str, (.int .i64), .bool]), .any], [(.tmp 3)], C213_0⟩
end
end Go.Proofs.YthkkkmkcjgaghaaGreatDoor
