/- The code of the functions that are entered. Printed by a program off the dump. -/
import Derived.Test.YtmgbgifepccgpaaGreatDoorOgX
import Derived.KernelRfl
set_option linter.all false
set_option maxRecDepth 100000
set_option maxHeartbeats 0
namespace Go.Proofs.YtmgbgifepccgpaaGreatDoor
open Go Go.Og
noncomputable section
def C39_0 : XC := (.seq (.ops (.op (some 2) .any [] (.mov (.con (V.int .i64 (Int.ofNat 0)))) <|
 .nil))
 (.seq (.ops (.op (some 4) .any [0] (.mov (.tmp 0)) <|
 .op (some 5) .str [4] (.call 17 [(.tmp 4), (.con (V.int .i64 (Int.ofNat 3)))]) <|
 .op (some 3) .any [5] (.mov (.tmp 5)) <|
 .nil))
 (.seq (.seq (.ops (.op (some 6) .any [3] (.mov (.tmp 3)) <|
 .op (some 7) .any [6] (.bin .eql .none (.tmp 6) (.con (V.str ⟨0, 0⟩))) <|
 .nil))
 (.cond (.tmp 7) (.seq (.ops (.op (some 2) .any [] (.mov (.con (V.int .i64 (Int.ofNat 0)))) <|
 .nil))
 .ret)
 .skip))
 (.seq (.ops (.op (some 8) .any [3] (.mov (.tmp 3)) <|
 .op (some 9) (.int .i64) [8] (.call 79 [(.tmp 8)]) <|
 .op (some 2) .any [9] (.mov (.tmp 9)) <|
 .nil))
 .ret))))
def A39 : XFn := ⟨10, [.any], [(.tmp 2)], C39_0⟩
def G40_0 : List AOper := [⟨(some 139), .mov (.tmp 1), none⟩, ⟨(some 140), .mov (.tmp 1), none⟩, ⟨(some 141), .faddr 1 (.tmp 6), none⟩, ⟨(some 142), .load none (.tmp 141), none⟩, ⟨(some 143), .nilck (.tmp 139), none⟩, ⟨(some 144), .faddr 0 (.tmp 143), none⟩, ⟨none, .store 1 (.tmp 144) (.con (V.int .i64 (Int.ofNat 11))), none⟩, ⟨(some 145), .nilck (.tmp 140), none⟩, ⟨(some 146), .faddr 1 (.tmp 145), none⟩, ⟨none, .store 1 (.tmp 146) (.tmp 142), none⟩]
def H40_0 : List DP := [⟨0, [1]⟩, ⟨0, [1]⟩, ⟨0, [6]⟩, ⟨4, [141]⟩, ⟨1, [139]⟩, ⟨17, [143]⟩, ⟨49, [144]⟩, ⟨127, [140]⟩, ⟨255, [145]⟩, ⟨511, [146, 142]⟩]
def C40_0 : XC := (.seq (.ops (.op (some 7) .any [0] (.mov (.tmp 0)) <|
 .op (some 8) (.agg [(.int .i64), .str, (.int .i64)]) [7] (.call 20 [(.tmp 7)]) <|
 .op (some 6) .any [] (.alloc 74 [(V.int .i64 (Int.ofNat 0)), (V.str ⟨0, 0⟩), (V.int .i64 (Int.ofNat 0))]) <|
 .op none (.agg [(.int .i64), .str, (.int .i64)]) [6, 8] (.store 3 (.tmp 6) (.tmp 8)) <|
 .nil))
 (.block 0 (.seq (.ops (.op (some 13) .any [0] (.mov (.tmp 0)) <|
 .op (some 14) .any [13] (.nilck (.tmp 13)) <|
 .op (some 15) .any [14] (.faddr 7 (.tmp 14)) <|
 .op (some 16) (.int .i64) [15] (.load none (.tmp 15)) <|
 .op (some 17) .any [16] (.bin .neq .none (.tmp 16) (.con (V.int .i64 (Int.ofNat 0)))) <|
 .op (some 12) .any [17] (.mov (.tmp 17)) <|
 .nil))
 (.cond (.tmp 12) .skip
 (.seq (.ops (.op (some 19) .any [0] (.mov (.tmp 0)) <|
 .op (some 20) .bool [19] (.call 19 [(.tmp 19), (.con (V.str ⟨7, 22026814072246082⟩))]) <|
 .op (some 18) .any [20] (.mov (.tmp 20)) <|
 .nil))
 (.cond (.tmp 18) (.ops (.op (some 21) .any [1] (.mov (.tmp 1)) <|
 .op (some 22) .any [21] (.nilck (.tmp 21)) <|
 .op (some 23) .any [22] (.faddr 0 (.tmp 22)) <|
 .op none .any [23] (.store 1 (.tmp 23) (.con (V.int .i64 (Int.ofNat 1)))) <|
 .nil))
 (.seq (.ops (.op (some 25) .any [0] (.mov (.tmp 0)) <|
 .op (some 26) .bool [25] (.call 19 [(.tmp 25), (.con (V.str ⟨4, 1280070990⟩))]) <|
 .op (some 24) .any [26] (.mov (.tmp 26)) <|
 .nil))
 (.cond (.tmp 24) (.ops (.op (some 27) .any [1] (.mov (.tmp 1)) <|
 .op (some 28) .any [27] (.nilck (.tmp 27)) <|
 .op (some 29) .any [28] (.faddr 0 (.tmp 28)) <|
 .op none .any [29] (.store 1 (.tmp 29) (.con (V.int .i64 (Int.ofNat 4)))) <|
 .nil))
 (.seq (.ops (.op (some 31) .any [0] (.mov (.tmp 0)) <|
 .op (some 32) .bool [31] (.call 19 [(.tmp 31), (.con (V.str ⟨10, 488440487847103610377301⟩))]) <|
 .op (some 30) .any [32] (.mov (.tmp 32)) <|
 .nil))
 (.cond (.tmp 30) (.seq (.ops (.op (some 33) .any [1] (.mov (.tmp 1)) <|
 .op (some 34) .any [33] (.nilck (.tmp 33)) <|
 .op (some 35) .any [34] (.faddr 0 (.tmp 34)) <|
 .op none .any [35] (.store 1 (.tmp 35) (.con (V.int .i64 (Int.ofNat 6)))) <|
 .nil))
 (.ops (.op (some 36) .any [1] (.mov (.tmp 1)) <|
 .op (some 37) .any [0] (.mov (.tmp 0)) <|
 .op (some 38) (.agg [.bool, .bool, .bool, .bool, (.int .i64), (.int .i64)]) [37] (.call 80 [(.tmp 37)]) <|
 .op (some 39) .any [36] (.nilck (.tmp 36)) <|
 .op (some 40) .any [39] (.faddr 5 (.tmp 39)) <|
 .op none (.agg [.bool, .bool, .bool, .bool, (.int .i64), (.int .i64)]) [40, 38] (.store 6 (.tmp 40) (.tmp 38)) <|
 .nil)))
 (.seq (.ops (.op (some 42) .any [0] (.mov (.tmp 0)) <|
 .op (some 43) .bool [42] (.call 19 [(.tmp 42), (.con (V.str ⟨7, 23157120498421321⟩))]) <|
 .op (some 41) .any [43] (.mov (.tmp 43)) <|
 .nil))
 (.cond (.tmp 41) (.seq (.ops (.op (some 44) .any [1] (.mov (.tmp 1)) <|
 .op (some 45) .any [44] (.nilck (.tmp 44)) <|
 .op (some 46) .any [45] (.faddr 0 (.tmp 45)) <|
 .op none .any [46] (.store 1 (.tmp 46) (.con (V.int .i64 (Int.ofNat 2)))) <|
 .nil))
 (.seq (.ops (.op (some 47) .any [0] (.mov (.tmp 0)) <|
 .op (some 48) .bool [47] (.call 19 [(.tmp 47), (.con (V.str ⟨1, 40⟩))]) <|
 .nil))
 (.cond (.tmp 48) (.seq (.ops (.op (some 49) .any [1] (.mov (.tmp 1)) <|
 .op (some 50) .any [0] (.mov (.tmp 0)) <|
 .op (some 51) (.agg [.bool, .bool, .bool, .bool, (.int .i64), (.int .i64)]) [50] (.call 81 [(.tmp 50)]) <|
 .op (some 52) .any [49] (.nilck (.tmp 49)) <|
 .op (some 53) .any [52] (.faddr 5 (.tmp 52)) <|
 .op none (.agg [.bool, .bool, .bool, .bool, (.int .i64), (.int .i64)]) [53, 51] (.store 6 (.tmp 53) (.tmp 51)) <|
 .nil))
 (.ops (.op (some 54) .any [0] (.mov (.tmp 0)) <|
 .op (some 55) (.tup []) [54] (.call 18 [(.tmp 54), (.con (V.str ⟨1, 41⟩))]) <|
 .nil)))
 .skip)))
 (.seq (.ops (.op (some 57) .any [0] (.mov (.tmp 0)) <|
 .op (some 58) .bool [57] (.call 19 [(.tmp 57), (.con (V.str ⟨5, 361940403023⟩))]) <|
 .op (some 56) .any [58] (.mov (.tmp 58)) <|
 .nil))
 (.cond (.tmp 56) (.seq (.ops (.op (some 59) .any [0] (.mov (.tmp 0)) <|
 .op (some 60) (.tup []) [59] (.call 18 [(.tmp 59), (.con (V.str ⟨6, 78401563153491⟩))]) <|
 .nil))
 (.seq (.ops (.op (some 61) .any [1] (.mov (.tmp 1)) <|
 .op (some 62) .any [61] (.nilck (.tmp 61)) <|
 .op (some 63) .any [62] (.faddr 0 (.tmp 62)) <|
 .op none .any [63] (.store 1 (.tmp 63) (.con (V.int .i64 (Int.ofNat 5)))) <|
 .nil))
 (.ops (.op (some 64) .any [1] (.mov (.tmp 1)) <|
 .op (some 65) .any [0] (.mov (.tmp 0)) <|
 .op (some 66) (.agg [.bool, .bool, .bool, .bool, (.int .i64), (.int .i64)]) [65] (.call 80 [(.tmp 65)]) <|
 .op (some 67) .any [64] (.nilck (.tmp 64)) <|
 .op (some 68) .any [67] (.faddr 5 (.tmp 67)) <|
 .op none (.agg [.bool, .bool, .bool, .bool, (.int .i64), (.int .i64)]) [68, 66] (.store 6 (.tmp 68) (.tmp 66)) <|
 .nil))))
 (.seq (.ops (.op (some 70) .any [0] (.mov (.tmp 0)) <|
 .op (some 71) .bool [70] (.call 19 [(.tmp 70), (.con (V.str ⟨10, 322399817400452109389381⟩))]) <|
 .op (some 69) .any [71] (.mov (.tmp 71)) <|
 .nil))
 (.cond (.tmp 69) (.seq (.ops (.op (some 72) .any [1] (.mov (.tmp 1)) <|
 .op (some 73) .any [72] (.nilck (.tmp 72)) <|
 .op (some 74) .any [73] (.faddr 0 (.tmp 73)) <|
 .op none .any [74] (.store 1 (.tmp 74) (.con (V.int .i64 (Int.ofNat 3)))) <|
 .nil))
 (.seq (.ops (.op (some 75) .any [0] (.mov (.tmp 0)) <|
 .op (some 76) (.tup []) [75] (.call 18 [(.tmp 75), (.con (V.str ⟨1, 123⟩))]) <|
 .nil))
 (.seq (.ops (.op (some 77) .any [0] (.mov (.tmp 0)) <|
 .op (some 78) .any [1] (.mov (.tmp 1)) <|
 .op (some 79) (.tup []) [77, 78] (.call 82 [(.tmp 77), (.tmp 78)]) <|
 .nil))
 (.ops (.op (some 80) .any [0] (.mov (.tmp 0)) <|
 .op (some 81) (.tup []) [80] (.call 18 [(.tmp 80), (.con (V.str ⟨1, 125⟩))]) <|
 .nil)))))
 (.seq (.ops (.op (some 83) .any [0] (.mov (.tmp 0)) <|
 .op (some 84) .bool [83] (.call 19 [(.tmp 83), (.con (V.str ⟨3, 5522771⟩))]) <|
 .op (some 82) .any [84] (.mov (.tmp 84)) <|
 .nil))
 (.cond (.tmp 82) (.seq (.ops (.op (some 85) .any [1] (.mov (.tmp 1)) <|
 .op (some 86) .any [85] (.nilck (.tmp 85)) <|
 .op (some 87) .any [86] (.faddr 0 (.tmp 86)) <|
 .op none .any [87] (.store 1 (.tmp 87) (.con (V.int .i64 (Int.ofNat 8)))) <|
 .nil))
 (.seq (.ops (.op (some 88) .any [0] (.mov (.tmp 0)) <|
 .op (some 89) (.tup []) [88] (.call 18 [(.tmp 88), (.con (V.str ⟨1, 123⟩))]) <|
 .nil))
 (.ops (.op (some 90) .any [0] (.mov (.tmp 0)) <|
 .op (some 91) .any [1] (.mov (.tmp 1)) <|
 .op (some 92) .any [2] (.mov (.tmp 2)) <|
 .op (some 93) (.tup []) [90, 91, 92] (.call 83 [(.tmp 90), (.tmp 91), (.tmp 92)]) <|
 .nil))))
 (.seq (.ops (.op (some 95) .any [0] (.mov (.tmp 0)) <|
 .op (some 96) .bool [95] (.call 19 [(.tmp 95), (.con (V.str ⟨6, 76155295057987⟩))]) <|
 .op (some 94) .any [96] (.mov (.tmp 96)) <|
 .nil))
 (.cond (.tmp 94) (.seq (.ops (.op (some 97) .any [1] (.mov (.tmp 1)) <|
 .op (some 98) .any [97] (.nilck (.tmp 97)) <|
 .op (some 99) .any [98] (.faddr 0 (.tmp 98)) <|
 .op none .any [99] (.store 1 (.tmp 99) (.con (V.int .i64 (Int.ofNat 9)))) <|
 .nil))
 (.seq (.ops (.op (some 100) .any [0] (.mov (.tmp 0)) <|
 .op (some 101) (.tup []) [100] (.call 18 [(.tmp 100), (.con (V.str ⟨1, 123⟩))]) <|
 .nil))
 (.ops (.op (some 102) .any [0] (.mov (.tmp 0)) <|
 .op (some 103) .any [1] (.mov (.tmp 1)) <|
 .op (some 104) .any [2] (.mov (.tmp 2)) <|
 .op (some 105) (.tup []) [102, 103, 104] (.call 83 [(.tmp 102), (.tmp 103), (.tmp 104)]) <|
 .nil))))
 (.seq (.ops (.op (some 107) .any [0] (.mov (.tmp 0)) <|
 .op (some 108) .bool [107] (.call 19 [(.tmp 107), (.con (V.str ⟨8, 4990918871747741011⟩))]) <|
 .op (some 106) .any [108] (.mov (.tmp 108)) <|
 .nil))
 (.cond (.tmp 106) (.seq (.seq (.ops (.op (some 109) .any [0] (.mov (.tmp 0)) <|
 .op (some 110) .bool [109] (.call 19 [(.tmp 109), (.con (V.str ⟨1, 123⟩))]) <|
 .nil))
 (.cond (.tmp 110) (.seq (.ops (.op (some 111) .any [1] (.mov (.tmp 1)) <|
 .op (some 112) .any [111] (.nilck (.tmp 111)) <|
 .op (some 113) .any [112] (.faddr 0 (.tmp 112)) <|
 .op none .any [113] (.store 1 (.tmp 113) (.con (V.int .i64 (Int.ofNat 7)))) <|
 .nil))
 (.seq (.ops (.op (some 114) .any [0] (.mov (.tmp 0)) <|
 .op (some 115) .any [1] (.mov (.tmp 1)) <|
 .op (some 116) .any [2] (.mov (.tmp 2)) <|
 .op (some 117) (.tup []) [114, 115, 116] (.call 83 [(.tmp 114), (.tmp 115), (.tmp 116)]) <|
 .nil))
 .ret))
 .skip))
 (.seq (.ops (.op (some 118) .any [1] (.mov (.tmp 1)) <|
 .op (some 119) .any [118] (.nilck (.tmp 118)) <|
 .op (some 120) .any [119] (.faddr 0 (.tmp 119)) <|
 .op none .any [120] (.store 1 (.tmp 120) (.con (V.int .i64 (Int.ofNat 10)))) <|
 .nil))
 (.seq (.ops (.op (some 121) .any [1] (.mov (.tmp 1)) <|
 .op (some 122) .any [0] (.mov (.tmp 0)) <|
 .op (some 123) (.agg [.bool, .bool, .bool, .bool, (.int .i64), (.int .i64)]) [122] (.call 80 [(.tmp 122)]) <|
 .op (some 124) .any [121] (.nilck (.tmp 121)) <|
 .op (some 125) .any [124] (.faddr 5 (.tmp 124)) <|
 .op none (.agg [.bool, .bool, .bool, .bool, (.int .i64), (.int .i64)]) [125, 123] (.store 6 (.tmp 125) (.tmp 123)) <|
 .nil))
 (.seq (.ops (.op (some 126) .any [0] (.mov (.tmp 0)) <|
 .op (some 127) (.tup []) [126] (.call 18 [(.tmp 126), (.con (V.str ⟨2, 17999⟩))]) <|
 .nil))
 (.ops (.op (some 128) .any [1] (.mov (.tmp 1)) <|
 .op (some 129) .any [0] (.mov (.tmp 0)) <|
 .op (some 130) .any [2] (.mov (.tmp 2)) <|
 .op (some 131) .any [130] (.bin .add .none (.tmp 130) (.con (V.int .i64 (Int.ofNat 1)))) <|
 .op (some 132) (.int .i64) [129, 131] (.call 22 [(.tmp 129), (.tmp 131)]) <|
 .op (some 133) .any [128] (.nilck (.tmp 128)) <|
 .op (some 134) .any [133] (.faddr 15 (.tmp 133)) <|
 .op none .any [134, 132] (.store 1 (.tmp 134) (.tmp 132)) <|
 .nil))))))
 (.seq (.ops (.op (some 136) .any [6] (.faddr 0 (.tmp 6)) <|
 .op (some 137) (.int .i64) [136] (.load none (.tmp 136)) <|
 .op (some 138) .any [137] (.bin .eql .none (.tmp 137) (.con (V.int .i64 (Int.ofNat 1)))) <|
 .op (some 135) .any [138] (.mov (.tmp 138)) <|
 .nil))
 (.cond (.tmp 135) (.seq (.keep [(0, .ptr), (1, .ptr), (6, .ptr)] [] [] (.gdraw G40_0 H40_0 [(0, .ptr)]))
 (.ops (.op (some 147) .any [0] (.mov (.tmp 0)) <|
 .op (some 148) (.agg [(.int .i64), .str, (.int .i64)]) [147] (.call 37 [(.tmp 147)]) <|
 .nil)))
 (.ops (.op (some 9) .any [0] (.mov (.tmp 0)) <|
 .op (some 10) (.agg [(.int .i64), .str, (.int .i64)]) [6] (.load (some 3) (.tmp 6)) <|
 .op (some 11) (.tup []) [9, 10] (.call 21 [(.tmp 9), (.con (V.int .i64 (Int.ofNat 7))), (.tmp 10)]) <|
 .nil))))))))))))))))))))))))))
def A40 : XFn := ⟨149, [.ptr, .ptr, (.int .i64)], [], C40_0⟩
/-! ### F41: ogham_oghamhelp.In_string_ -/
def Fin41 (E : List (Nat × Blk)) : St → Ans := fun s => resK E s [(.tmp 4)] fun l => some (oneV l, s.σ)
def C41_0 (cc1 : XC) (cc2 : XC) : XC := (.seq (.ops (.op (some 4) .any [] (.mov (.con (V.bool false))) <|
 .nil))
 (.seq (.seq (.ops (.op (some 5) .any [] (.mov (.con (V.int .i64 (Int.ofNat 0)))) <|
 .nil))
 (.block 0 (.loop [(0, .any), (1, .str), (5, (.int .i64))] [] [] cc2)))
 (.keep [] [] [] cc1)))
def T41_0 (E : List (Nat × Blk)) (D : Den) (W : DrawFn) (K2 : V → BS → Int → H → Ans) (v0 : V) (v1 : BS) (σ : H) : Ans :=
 K2 v0 v1 (Int.ofNat 0) σ
def C41_1 : XC := (.seq (.ops (.op (some 4) .any [] (.mov (.con (V.bool false))) <|
 .nil))
 .ret)
def T41_1 (E : List (Nat × Blk)) (D : Den) (W : DrawFn) (σ : H) : Ans :=
 some ((V.bool false), σ)
def C41_2 : XC := (.seq (.seq (.ops (.op (some 6) .any [5] (.mov (.tmp 5)) <|
 .op (some 7) .any [0] (.mov (.tmp 0)) <|
 .op (some 8) .any [7] (.len false (.tmp 7)) <|
 .op (some 9) .any [6, 8] (.bin .lss .none (.tmp 6) (.tmp 8)) <|
 .nil))
 (.cond (.tmp 9) .skip
 (.exit 0)))
 (.seq (.block 1 (.seq (.ops (.op (some 12) .any [0] (.mov (.tmp 0)) <|
 .op (some 13) .any [5] (.mov (.tmp 5)) <|
 .op (some 14) .any [12, 13] (.iaddrS 1 (.tmp 12) (.tmp 13)) <|
 .op (some 15) .str [14] (.load none (.tmp 14)) <|
 .op (some 16) .any [1] (.mov (.tmp 1)) <|
 .op (some 17) .any [15, 16] (.bin .eql .none (.tmp 15) (.tmp 16)) <|
 .nil))
 (.cond (.tmp 17) (.seq (.ops (.op (some 4) .any [] (.mov (.con (V.bool true))) <|
 .nil))
 .ret)
 .skip)))
 (.ops (.op (some 10) .any [5] (.mov (.tmp 5)) <|
 .op (some 11) .any [10] (.bin .add .none (.tmp 10) (.con (V.int .i64 (Int.ofNat 1)))) <|
 .op (some 5) .any [11] (.mov (.tmp 11)) <|
 .nil))))
def T41_2 (E : List (Nat × Blk)) (D : Den) (W : DrawFn) (K1 : H → Ans) (R2 : V → BS → Int → H → Ans) (v0 : V) (v1 : BS) (v5 : Int) (σ : H) : Ans :=
 slenK v0 fun n1 =>
 condK (ltF v5 (Int.ofNat n1)) (
 iaddrSK 1 v0 v5 fun b2 o3 =>
 ldK E σ b2 o3 fun u4 =>
 rtStr u4 fun x5 =>
 condK (BS.beq x5 v1) (
 some ((V.bool true), σ)) (
 R2 v0 v1 (addF .i64 v5 (Int.ofNat 1)) σ)) (
 K1 σ)
theorem P41_0 (E : List (Nat × Blk)) (D : Den) (W : DrawFn) (N : Nat) (cc1 : XC) (cc2 : XC) (v0 : V) (v1 : BS) (σ : H) :
  denC E D W N (C41_0 cc1 cc2) ⟨[(0, v0), (1, (V.str v1))], [], [], σ⟩ (Fin41 E) (fun _ _ => none) (Fin41 E) =
  T41_0 E D W (fun v0 v1 v5 σ => iterK (fun rec s' => denC E D W N cc2 s' (fun s'' => keepS [(0, .any), (1, .str), (5, (.int .i64))] [] [] s'' rec) (blkK 0 (fun s' => denC E D W N (.keep [] [] [] cc1) s' (Fin41 E) (fun _ _ => none) (Fin41 E)) (fun _ _ => none)) (Fin41 E)) N ⟨[(0, v0), (1, (V.str v1)), (5, (V.int .i64 v5))], [], [], σ⟩) v0 v1 σ := by kernel_rfl
theorem P41_1 (E : List (Nat × Blk)) (D : Den) (W : DrawFn) (N : Nat) (σ : H) :
  denC E D W N (C41_1 ) ⟨[], [], [], σ⟩ (Fin41 E) (fun _ _ => none) (Fin41 E) =
  T41_1 E D W   σ := by kernel_rfl
theorem P41_2 (E : List (Nat × Blk)) (D : Den) (W : DrawFn) (N : Nat) (cc1 : XC) (li2 : St → Ans) (v0 : V) (v1 : BS) (v5 : Int) (σ : H) :
  denC E D W N (C41_2 ) ⟨[(0, v0), (1, (V.str v1)), (5, (V.int .i64 v5))], [], [], σ⟩ (fun s'' => keepS [(0, .any), (1, .str), (5, (.int .i64))] [] [] s'' li2) (blkK 0 (fun s' => denC E D W N (.keep [] [] [] cc1) s' (Fin41 E) (fun _ _ => none) (Fin41 E)) (fun _ _ => none)) (Fin41 E) =
  T41_2 E D W (fun  σ => denC E D W N cc1 ⟨[], [], [], σ⟩ (Fin41 E) (fun _ _ => none) (Fin41 E)) (fun v0 v1 v5 σ => li2 ⟨[(0, v0), (1, (V.str v1)), (5, (V.int .i64 v5))], [], [], σ⟩) v0 v1 v5 σ := by kernel_rfl
def J41_1 (E : List (Nat × Blk)) (D : Den) (W : DrawFn) (N : Nat) : H → Ans := T41_1 E D W 
theorem JE41_1 (E : List (Nat × Blk)) (D : Den) (W : DrawFn) (N : Nat) (σ : H) :
  denC E D W N C41_1 ⟨[], [], [], σ⟩ (Fin41 E) (fun _ _ => none) (Fin41 E) = J41_1 E D W N  σ := by
  refine (P41_1 E D W N    σ).trans ?_
  kernel_rfl
def L41_2 (E : List (Nat × Blk)) (D : Den) (W : DrawFn) (N : Nat) (n : Nat) : V → BS → Int → H → Ans :=
  Nat.rec (fun _ _ _ _ => none) (fun _ ih => T41_2 E D W (J41_1 E D W N ) ih) n
theorem LE41_2 (E : List (Nat × Blk)) (D : Den) (W : DrawFn) (N : Nat) (n : Nat) : ∀ (v0 : V) (v1 : BS) (v5 : Int) (σ : H),
  iterK (fun rec s' => denC E D W N C41_2 s' (fun s'' => keepS [(0, .any), (1, .str), (5, (.int .i64))] [] [] s'' rec) (blkK 0 (fun s' => denC E D W N (.keep [] [] [] C41_1) s' (Fin41 E) (fun _ _ => none) (Fin41 E)) (fun _ _ => none)) (Fin41 E)) n ⟨[(0, v0), (1, (V.str v1)), (5, (V.int .i64 v5))], [], [], σ⟩ = L41_2 E D W N n v0 v1 v5 σ := by
  induction n with
  | zero => intro v0 v1 v5 σ; rfl
  | succ n ihn =>
    intro v0 v1 v5 σ
    rw [iterK_succ]
    refine (P41_2 E D W N C41_1 (iterK (fun rec s' => denC E D W N C41_2 s' (fun s'' => keepS [(0, .any), (1, .str), (5, (.int .i64))] [] [] s'' rec) (blkK 0 (fun s' => denC E D W N (.keep [] [] [] C41_1) s' (Fin41 E) (fun _ _ => none) (Fin41 E)) (fun _ _ => none)) (Fin41 E)) n) v0 v1 v5 σ).trans ?_
    simp only [ihn, JE41_1]
    kernel_rfl
def J41_0 (E : List (Nat × Blk)) (D : Den) (W : DrawFn) (N : Nat) : V → BS → H → Ans := T41_0 E D W (L41_2 E D W N N)
theorem JE41_0 (E : List (Nat × Blk)) (D : Den) (W : DrawFn) (N : Nat) (v0 : V) (v1 : BS) (σ : H) :
  denC E D W N (C41_0 C41_1 C41_2) ⟨[(0, v0), (1, (V.str v1))], [], [], σ⟩ (Fin41 E) (fun _ _ => none) (Fin41 E) = J41_0 E D W N v0 v1 σ := by
  refine (P41_0 E D W N C41_1 C41_2  v0 v1 σ).trans ?_
  simp only [LE41_2]
  kernel_rfl
def F41 (E : List (Nat × Blk)) (D : Den) (W : DrawFn) (N : Nat) (args : List V) (σ : H) : Ans :=
 rtCons args fun x1 l2 =>
 rtCons l2 fun x3 l4 =>
 rtStr x3 fun x5 =>
 rtNil l4 (
 J41_0 E D W N x1 x5 σ)
def A41 : XFn := ⟨18, [.any, .str], [(.tmp 4)], (C41_0 C41_1 C41_2)⟩
theorem FE41 (E : List (Nat × Blk)) (D : Den) (W : DrawFn) (N : Nat) (args : List V) (σ : H) : runX E D W N A41 args σ = F41 E D W N args σ := by
  unfold F41
  simp only [← JE41_0]
  kernel_rfl
theorem AO41 : A41.body.ok = true := by kernel_rfl

def C42_0 (cc1 : XC) (cc2 : XC) : XC := (.seq (.ops (.op (some 4) .any [0] (.box 44 (.tmp 0)) <|
 .op (some 8) .any [] (.mov (.con V.nils)) <|
 .op (some 9) .any [] (.mov (.con (V.bool false))) <|
 .nil))
 (.seq (.seq (.ops (.op (some 16) .any [1] (.mov (.tmp 1)) <|
 .op (some 17) .any [16] (.bin .lss .none (.tmp 16) (.con (V.int .i64 (Int.ofNat 0)))) <|
 .op (some 18) .any [17] (.mov (.tmp 17)) <|
 .grp 18 false (.op (some 19) .any [1, 18] (.mov (.tmp 1)) <|
 .op (some 20) .any [4, 18] (.faddr 4 (.tmp 4)) <|
 .op (some 21) .any [20, 18] (.load none (.tmp 20)) <|
 .op (some 22) .any [21, 18] (.len false (.tmp 21)) <|
 .op (some 23) .any [19, 22, 18] (.bin .geq .none (.tmp 19) (.tmp 22)) <|
 .nil) 24 [18, 23] (.tmp 18) (.con (V.bool true)) (.tmp 23) <|
 .op (some 25) .any [24] (.mov (.tmp 24)) <|
 .grp 25 false (.op (some 26) .any [2, 25] (.mov (.tmp 2)) <|
 .op (some 27) .any [26, 25] (.bin .gtr .none (.tmp 26) (.con (V.int .i64 (Int.ofNat 16)))) <|
 .nil) 28 [25, 27] (.tmp 25) (.con (V.bool true)) (.tmp 27) <|
 .nil))
 (.cond (.tmp 28) (.seq (.ops (.op (some 29) .any [3] (.mov (.tmp 3)) <|
 .op (some 8) .any [29] (.mov (.tmp 29)) <|
 .op (some 9) .any [] (.mov (.con (V.bool false))) <|
 .nil))
 .ret)
 .skip))
 (.seq (.ops (.op (some 30) .any [4] (.faddr 4 (.tmp 4)) <|
 .op (some 31) .any [30] (.load none (.tmp 30)) <|
 .op (some 32) .any [1] (.mov (.tmp 1)) <|
 .op (some 33) .any [31, 32] (.iaddrS 16 (.tmp 31) (.tmp 32)) <|
 .op (some 34) (.agg [(.int .i64), .str, .bool, (.int .i64), (.int .i64), .bool, .bool, .bool, .bool, (.int .i64), (.int .i64), .any, .any, (.int .i64), .bool, (.int .i64)]) [33] (.load (some 16) (.tmp 33)) <|
 .pal 10 [] 105 [(V.int .i64 (Int.ofNat 0)), (V.str ⟨0, 0⟩), (V.bool false), (V.int .i64 (Int.ofNat 0)), (V.int .i64 (Int.ofNat 0)), (V.bool false), (V.bool false), (V.bool false), (V.bool false), (V.int .i64 (Int.ofNat 0)), (V.int .i64 (Int.ofNat 0)), V.nils, V.nils, (V.int .i64 (Int.ofNat 0)), (V.bool false), (V.int .i64 (Int.ofNat 0))] <|
 .op none (.agg [(.int .i64), .str, .bool, (.int .i64), (.int .i64), .bool, .bool, .bool, .bool, (.int .i64), (.int .i64), .any, .any, (.int .i64), .bool, (.int .i64)]) [10, 34] (.store 16 (.tmp 10) (.tmp 34)) <|
 .nil))
 (.seq (.seq (.ops (.op (some 35) .any [10] (.faddr 0 (.tmp 10)) <|
 .op (some 36) (.int .i64) [35] (.load none (.tmp 35)) <|
 .op (some 37) .any [36] (.bin .eql .none (.tmp 36) (.con (V.int .i64 (Int.ofNat 11)))) <|
 .nil))
 (.cond (.tmp 37) (.seq (.ops (.op (some 38) (.agg [.str, (.int .i64), .any, .any, .any]) [4] (.load (some 5) (.tmp 4)) <|
 .op (some 39) .any [10] (.faddr 1 (.tmp 10)) <|
 .op (some 40) .str [39] (.load none (.tmp 39)) <|
 .op (some 41) (.int .i64) [38, 40] (.call 45 [(.tmp 38), (.tmp 40)]) <|
 .op (some 11) .any [41] (.mov (.tmp 41)) <|
 .nil))
 (.seq (.seq (.ops (.op (some 42) .any [11] (.mov (.tmp 11)) <|
 .op (some 43) .any [42] (.bin .lss .none (.tmp 42) (.con (V.int .i64 (Int.ofNat 0)))) <|
 .nil))
 (.cond (.tmp 43) (.seq (.ops (.op (some 44) .any [3] (.mov (.tmp 3)) <|
 .op (some 8) .any [44] (.mov (.tmp 44)) <|
 .op (some 9) .any [] (.mov (.con (V.bool true))) <|
 .nil))
 .ret)
 .skip))
 (.seq (.seq (.ops (.op (some 45) .any [3] (.mov (.tmp 3)) <|
 .op (some 46) .any [11] (.mov (.tmp 11)) <|
 .op (some 47) .bool [45, 46] (.call 44 [(.tmp 45), (.tmp 46)]) <|
 .op (some 48) .any [47] (.un .not (.tmp 47)) <|
 .nil))
 (.cond (.tmp 48) (.ops (.op (some 49) .any [3] (.mov (.tmp 3)) <|
 .op (some 50) .any [11] (.mov (.tmp 11)) <|
 .op (some 51) .any [50] (.buildSlice 3 1 [(V.int .i64 (Int.ofNat 0))] [(0, 1, (.tmp 50))]) <|
 .op (some 52) .one [49, 51] (.append 3 1 8 (.tmp 49) (.tmp 51)) <|
 .op (some 3) .any [52] (.mov (.tmp 52)) <|
 .nil))
 .skip))
 (.keep [(3, .any)] [] [] cc2))))
 .skip))
 (.keep [(2, (.int .i64)), (3, .any), (4, .ptr)] [10] [(10, [(.int .i64), .str, .bool, (.int .i64), (.int .i64), .bool, .bool, .bool, .bool, (.int .i64), (.int .i64), .any, .any, (.int .i64), .bool, (.int .i64)])] cc1)))))
def C42_1 (cc3 : XC) (cc4 : XC) : XC := (.seq (.ops (.op (some 12) .any [] (.mov (.con (V.bool false))) <|
 .nil))
 (.seq (.seq (.ops (.op (some 13) .any [] (.mov (.con (V.int .i64 (Int.ofNat 0)))) <|
 .nil))
 (.block 0 (.loop [(2, (.int .i64)), (3, .any), (4, .ptr), (12, .bool), (13, (.int .i64))] [10] [(10, [(.int .i64), .str, .bool, (.int .i64), (.int .i64), .bool, .bool, .bool, .bool, (.int .i64), (.int .i64), .any, .any, (.int .i64), .bool, (.int .i64)])] cc4)))
 (.keep [(2, (.int .i64)), (3, .any), (4, .ptr), (12, .bool)] [10] [(10, [(.int .i64), .str, .bool, (.int .i64), (.int .i64), .bool, .bool, .bool, .bool, (.int .i64), (.int .i64), .any, .any, (.int .i64), .bool, (.int .i64)])] cc3)))
def C42_2 : XC := (.seq (.ops (.op (some 53) .any [3] (.mov (.tmp 3)) <|
 .op (some 8) .any [53] (.mov (.tmp 53)) <|
 .op (some 9) .any [] (.mov (.con (V.bool false))) <|
 .nil))
 .ret)
def C42_3 (cc5 : XC) : XC := (.seq (.seq (.ops (.op (some 79) .any [10] (.faddr 0 (.tmp 10)) <|
 .op (some 80) (.int .i64) [79] (.load none (.tmp 79)) <|
 .op (some 81) .any [80] (.bin .eql .none (.tmp 80) (.con (V.int .i64 (Int.ofNat 10)))) <|
 .nil))
 (.cond (.tmp 81) (.seq (.ops (.op (some 15) .any [] (.mov (.con (V.bool false))) <|
 .nil))
 (.seq (.ops (.op (some 83) (.agg [.str, (.int .i64), .any, .any, .any]) [4] (.load (some 5) (.tmp 4)) <|
 .op (some 84) .any [10] (.faddr 15 (.tmp 10)) <|
 .op (some 85) (.int .i64) [84] (.load none (.tmp 84)) <|
 .op (some 86) .any [2] (.mov (.tmp 2)) <|
 .op (some 87) .any [86] (.bin .add .none (.tmp 86) (.con (V.int .i64 (Int.ofNat 1)))) <|
 .op (some 88) .any [3] (.mov (.tmp 3)) <|
 .op (some 89) (.tup [.any, .bool]) [83, 85, 87, 88] (.call 42 [(.tmp 83), (.tmp 85), (.tmp 87), (.tmp 88)]) <|
 .op (some 82) .any [89] (.mov (.tmp 89)) <|
 .op (some 90) .any [82] (.extract 0 (.tmp 82)) <|
 .op (some 91) .any [82] (.extract 1 (.tmp 82)) <|
 .op (some 3) .any [90] (.mov (.tmp 90)) <|
 .op (some 15) .any [91] (.mov (.tmp 91)) <|
 .nil))
 (.ops (.op (some 92) .any [12] (.mov (.tmp 12)) <|
 .op (some 93) .any [92] (.mov (.tmp 92)) <|
 .grp 93 false (.op (some 94) .any [15, 93] (.mov (.tmp 15)) <|
 .nil) 95 [93, 94] (.tmp 93) (.con (V.bool true)) (.tmp 94) <|
 .op (some 12) .any [95] (.mov (.tmp 95)) <|
 .nil))))
 .skip))
 (.keep [(3, .any), (12, .bool)] [] [] cc5))
def C42_4 : XC := (.seq (.seq (.ops (.op (some 54) .any [13] (.mov (.tmp 13)) <|
 .op (some 55) .any [10] (.faddr 12 (.tmp 10)) <|
 .op (some 56) .any [55] (.load none (.tmp 55)) <|
 .op (some 57) .any [56] (.len false (.tmp 56)) <|
 .op (some 58) .any [54, 57] (.bin .lss .none (.tmp 54) (.tmp 57)) <|
 .nil))
 (.cond (.tmp 58) .skip
 (.exit 0)))
 (.seq (.block 1 (.seq (.ops (.op (some 14) .any [] (.mov (.con (V.bool false))) <|
 .nil))
 (.seq (.draw (.op (some 62) (.agg [.str, (.int .i64), .any, .any, .any]) [4] (.load (some 5) (.tmp 4)) <|
 .op (some 63) .any [10] (.faddr 12 (.tmp 10)) <|
 .op (some 64) .any [63] (.load none (.tmp 63)) <|
 .op (some 65) .any [13] (.mov (.tmp 13)) <|
 .op (some 66) .any [64, 65] (.iaddrS 11 (.tmp 64) (.tmp 65)) <|
 .op (some 67) .any [66] (.faddr 1 (.tmp 66)) <|
 .op (some 68) (.int .i64) [67] (.load none (.tmp 67)) <|
 .op (some 69) .any [2] (.mov (.tmp 2)) <|
 .op (some 70) .any [69] (.bin .add .none (.tmp 69) (.con (V.int .i64 (Int.ofNat 1)))) <|
 .op (some 71) .any [3] (.mov (.tmp 3)) <|
 .op (some 72) (.tup [.any, .bool]) [62, 68, 70, 71] (.call 42 [(.tmp 62), (.tmp 68), (.tmp 70), (.tmp 71)]) <|
 .op (some 61) .any [72] (.mov (.tmp 72)) <|
 .op (some 73) .any [61] (.extract 0 (.tmp 61)) <|
 .op (some 74) .any [61] (.extract 1 (.tmp 61)) <|
 .op (some 3) .any [73] (.mov (.tmp 73)) <|
 .op (some 14) .any [74] (.mov (.tmp 74)) <|
 .nil) [0, 0, 2, 0, 14, 30, 62, 0, 128, 0, 1023, 2047, 4095, 4095, 8191, 32767])
 (.ops (.op (some 75) .any [12] (.mov (.tmp 12)) <|
 .op (some 76) .any [75] (.mov (.tmp 75)) <|
 .grp 76 false (.op (some 77) .any [14, 76] (.mov (.tmp 14)) <|
 .nil) 78 [76, 77] (.tmp 76) (.con (V.bool true)) (.tmp 77) <|
 .op (some 12) .any [78] (.mov (.tmp 78)) <|
 .nil)))))
 (.ops (.op (some 59) .any [13] (.mov (.tmp 13)) <|
 .op (some 60) .any [59] (.bin .add .none (.tmp 59) (.con (V.int .i64 (Int.ofNat 1)))) <|
 .op (some 13) .any [60] (.mov (.tmp 60)) <|
 .nil))))
def C42_5 : XC := (.seq (.ops (.op (some 96) .any [3] (.mov (.tmp 3)) <|
 .op (some 97) .any [12] (.mov (.tmp 12)) <|
 .op (some 8) .any [96] (.mov (.tmp 96)) <|
 .op (some 9) .any [97] (.mov (.tmp 97)) <|
 .nil))
 .ret)
def A42 : XFn := ⟨98, [(.agg [.str, (.int .i64), .any, .any, .any]), (.int .i64), (.int .i64), .any], [(.tmp 8), (.tmp 9)], (C42_0 (C42_1 (C42_3 C42_5) C42_4) C42_2)⟩
def C43_0 (cc1 : XC) (cc2 : XC) : XC := (.seq (.ops (.op (some 6) .any [] (.mov (.con (V.bool false))) <|
 .nil))
 (.seq (.ops (.op (some 10) .any [] (.buildSlice 3 0 [] []) <|
 .op (some 7) .any [10] (.mov (.tmp 10)) <|
 .nil))
 (.seq (.ops (.op (some 11) .any [0] (.mov (.tmp 0)) <|
 .op (some 12) .any [1] (.mov (.tmp 1)) <|
 .op (some 13) .any [11, 12] (.iaddrS 1 (.tmp 11) (.tmp 12)) <|
 .op (some 14) .any [13] (.load none (.tmp 13)) <|
 .op (some 15) .one [14] (.append 3 1 8 (.con V.nils) (.tmp 14)) <|
 .op (some 8) .any [15] (.mov (.tmp 15)) <|
 .nil))
 (.seq (.block 0 (.loop [(0, .any), (2, (.int .i64)), (7, .any), (8, .any)] [] [] cc2))
 (.keep [] [] [] cc1)))))
def C43_1 : XC := (.seq (.ops (.op (some 6) .any [] (.mov (.con (V.bool false))) <|
 .nil))
 .ret)
def C43_2 : XC := (.seq (.seq (.ops (.op (some 16) .any [8] (.mov (.tmp 8)) <|
 .op (some 17) .any [16] (.len false (.tmp 16)) <|
 .op (some 18) .any [17] (.bin .gtr .none (.tmp 17) (.con (V.int .i64 (Int.ofNat 0)))) <|
 .nil))
 (.cond (.tmp 18) .skip
 (.exit 0)))
 (.block 1 (.seq (.ops (.op (some 19) .any [8] (.mov (.tmp 8)) <|
 .op (some 20) .any [19] (.iaddrS 1 (.tmp 19) (.con (V.int .i64 (Int.ofNat 0)))) <|
 .op (some 21) (.int .i64) [20] (.load none (.tmp 20)) <|
 .op (some 9) .any [21] (.mov (.tmp 21)) <|
 .nil))
 (.seq (.ops (.op (some 22) .any [8] (.mov (.tmp 8)) <|
 .op (some 23) .any [22] (.sliceSl 1 (.tmp 22) (some (.con (V.int .i64 (Int.ofNat 1)))) none none) <|
 .op (some 8) .any [23] (.mov (.tmp 23)) <|
 .nil))
 (.seq (.seq (.ops (.op (some 24) .any [9] (.mov (.tmp 9)) <|
 .op (some 25) .any [2] (.mov (.tmp 2)) <|
 .op (some 26) .any [24, 25] (.bin .eql .none (.tmp 24) (.tmp 25)) <|
 .nil))
 (.cond (.tmp 26) (.seq (.ops (.op (some 6) .any [] (.mov (.con (V.bool true))) <|
 .nil))
 .ret)
 .skip))
 (.seq (.ops (.op (some 27) .any [7] (.mov (.tmp 7)) <|
 .op (some 28) .any [9] (.mov (.tmp 9)) <|
 .op (some 29) .bool [27, 28] (.call 44 [(.tmp 27), (.tmp 28)]) <|
 .op (some 30) .any [29] (.un .not (.tmp 29)) <|
 .nil))
 (.cond (.tmp 30) (.seq (.ops (.op (some 31) .any [7] (.mov (.tmp 7)) <|
 .op (some 32) .any [9] (.mov (.tmp 9)) <|
 .op (some 33) .any [32] (.buildSlice 3 1 [(V.int .i64 (Int.ofNat 0))] [(0, 1, (.tmp 32))]) <|
 .op (some 34) .one [31, 33] (.append 3 1 8 (.tmp 31) (.tmp 33)) <|
 .op (some 7) .any [34] (.mov (.tmp 34)) <|
 .nil))
 (.ops (.op (some 35) .any [8] (.mov (.tmp 8)) <|
 .op (some 36) .any [0] (.mov (.tmp 0)) <|
 .op (some 37) .any [9] (.mov (.tmp 9)) <|
 .op (some 38) .any [36, 37] (.iaddrS 1 (.tmp 36) (.tmp 37)) <|
 .op (some 39) .any [38] (.load none (.tmp 38)) <|
 .op (some 40) .one [35, 39] (.append 3 1 8 (.tmp 35) (.tmp 39)) <|
 .op (some 8) .any [40] (.mov (.tmp 40)) <|
 .nil)))
 .skip)))))))
def A43 : XFn := ⟨41, [.any, (.int .i64), (.int .i64)], [(.tmp 6)], (C43_0 C43_1 C43_2)⟩
def C44_0 (cc1 : XC) (cc2 : XC) : XC := (.seq (.ops (.op (some 4) .any [] (.mov (.con (V.bool false))) <|
 .nil))
 (.seq (.seq (.ops (.op (some 5) .any [] (.mov (.con (V.int .i64 (Int.ofNat 0)))) <|
 .nil))
 (.block 0 (.loop [(0, .any), (1, (.int .i64)), (5, (.int .i64))] [] [] cc2)))
 (.keep [] [] [] cc1)))
def C44_1 : XC := (.seq (.ops (.op (some 4) .any [] (.mov (.con (V.bool false))) <|
 .nil))
 .ret)
def C44_2 : XC := (.seq (.seq (.ops (.op (some 6) .any [5] (.mov (.tmp 5)) <|
 .op (some 7) .any [0] (.mov (.tmp 0)) <|
 .op (some 8) .any [7] (.len false (.tmp 7)) <|
 .op (some 9) .any [6, 8] (.bin .lss .none (.tmp 6) (.tmp 8)) <|
 .nil))
 (.cond (.tmp 9) .skip
 (.exit 0)))
 (.seq (.block 1 (.seq (.ops (.op (some 12) .any [0] (.mov (.tmp 0)) <|
 .op (some 13) .any [5] (.mov (.tmp 5)) <|
 .op (some 14) .any [12, 13] (.iaddrS 1 (.tmp 12) (.tmp 13)) <|
 .op (some 15) (.int .i64) [14] (.load none (.tmp 14)) <|
 .op (some 16) .any [1] (.mov (.tmp 1)) <|
 .op (some 17) .any [15, 16] (.bin .eql .none (.tmp 15) (.tmp 16)) <|
 .nil))
 (.cond (.tmp 17) (.seq (.ops (.op (some 4) .any [] (.mov (.con (V.bool true))) <|
 .nil))
 .ret)
 .skip)))
 (.ops (.op (some 10) .any [5] (.mov (.tmp 5)) <|
 .op (some 11) .any [10] (.bin .add .none (.tmp 10) (.con (V.int .i64 (Int.ofNat 1)))) <|
 .op (some 5) .any [11] (.mov (.tmp 11)) <|
 .nil))))
def A44 : XFn := ⟨18, [.any, (.int .i64)], [(.tmp 4)], (C44_0 C44_1 C44_2)⟩
def G46_0 : List AOper := [⟨(some 45), .mov (.tmp 0), none⟩, ⟨(some 46), .mov (.tmp 0), none⟩, ⟨(some 47), .nilck (.tmp 46), none⟩, ⟨(some 48), .faddr 5 (.tmp 47), none⟩, ⟨(some 49), .load none (.tmp 48), none⟩, ⟨(some 50), .load (some 13) (.tmp 8), none⟩, ⟨(some 51), .buildSlice 165 1 [(V.int .i64 (Int.ofNat 0)), V.nils, (V.bool false), (V.bool false), (V.bool false), (V.bool false), (V.int .i64 (Int.ofNat 0)), (V.int .i64 (Int.ofNat 0)), V.nils, V.nils, (V.int .i64 (Int.ofNat 0)), (V.bool false), (V.int .i64 (Int.ofNat 0))] [(0, 13, (.tmp 50))], none⟩, ⟨(some 52), .append 165 13 128 (.tmp 49) (.tmp 51), none⟩, ⟨(some 53), .nilck (.tmp 45), none⟩, ⟨(some 54), .faddr 5 (.tmp 53), none⟩, ⟨none, .store 1 (.tmp 54) (.tmp 52), none⟩]
def H46_0 : List DP := [⟨0, [0]⟩, ⟨0, [0]⟩, ⟨2, [46]⟩, ⟨6, [47]⟩, ⟨14, [48]⟩, ⟨0, [8]⟩, ⟨32, [50]⟩, ⟨126, [49, 51]⟩, ⟨255, [45]⟩, ⟨511, [53]⟩, ⟨1023, [54, 52]⟩]
def G46_1 : List AOper := [⟨(some 97), .mov (.tmp 0), none⟩, ⟨(some 98), .nilck (.tmp 97), none⟩, ⟨(some 99), .faddr 5 (.tmp 98), none⟩, ⟨(some 100), .load none (.tmp 99), none⟩, ⟨(some 101), .mov (.tmp 7), none⟩, ⟨(some 102), .mov (.tmp 0), none⟩, ⟨(some 103), .load (some 16) (.tmp 4), none⟩, ⟨(some 104), .call 87 [(.tmp 102), (.tmp 103)], none⟩, ⟨(some 105), .iaddrS 13 (.tmp 100) (.tmp 101), none⟩, ⟨(some 106), .faddr 8 (.tmp 105), none⟩, ⟨none, .store 1 (.tmp 106) (.tmp 104), none⟩]
def H46_1 : List DP := [⟨0, [0]⟩, ⟨1, [97]⟩, ⟨3, [98]⟩, ⟨7, [99]⟩, ⟨0, [7]⟩, ⟨0, [0]⟩, ⟨0, [4]⟩, ⟨96, [102, 103]⟩, ⟨255, [100, 101]⟩, ⟨511, [105]⟩, ⟨1023, [106, 104]⟩]
def C46_0 (cc1 : XC) : XC := (.seq (.ops (.op (some 4) .any [1] (.box 105 (.tmp 1)) <|
 .op (some 6) .any [] (.mov (.con (V.int .i64 (Int.ofNat 0)))) <|
 .nil))
 (.seq (.seq (.ops (.op (some 11) .any [2] (.mov (.tmp 2)) <|
 .op (some 12) .any [11] (.bin .gtr .none (.tmp 11) (.con (V.int .i64 (Int.ofNat 16)))) <|
 .op (some 13) .any [12] (.mov (.tmp 12)) <|
 .grp 13 false (.op (some 14) .any [0, 13] (.mov (.tmp 0)) <|
 .op (some 15) .any [14, 13] (.nilck (.tmp 14)) <|
 .op (some 16) .any [15, 13] (.faddr 5 (.tmp 15)) <|
 .op (some 17) .any [16, 13] (.load none (.tmp 16)) <|
 .op (some 18) .any [17, 13] (.len false (.tmp 17)) <|
 .op (some 19) .any [18, 13] (.bin .geq .none (.tmp 18) (.con (V.int .i64 (Int.ofNat 300)))) <|
 .nil) 20 [13, 19] (.tmp 13) (.con (V.bool true)) (.tmp 19) <|
 .nil))
 (.cond (.tmp 20) (.seq (.ops (.op (some 21) .any [0] (.mov (.tmp 0)) <|
 .op (some 22) (.tup []) [21] (.call 84 [(.tmp 21), (.con (V.int .i64 (Int.ofNat 5)))]) <|
 .nil))
 (.seq (.ops (.op (some 6) .any [] (.mov (.con (V.int .i64 (Int.ofNat 0)))) <|
 .nil))
 .ret))
 .skip))
 (.seq (.ops (.op (some 23) .any [0] (.mov (.tmp 0)) <|
 .op (some 24) .any [23] (.nilck (.tmp 23)) <|
 .op (some 25) .any [24] (.faddr 5 (.tmp 24)) <|
 .op (some 26) .any [25] (.load none (.tmp 25)) <|
 .op (some 27) .any [26] (.len false (.tmp 26)) <|
 .op (some 7) .any [27] (.mov (.tmp 27)) <|
 .nil))
 (.seq (.ops (.op (some 28) .any [4] (.faddr 0 (.tmp 4)) <|
 .op (some 29) (.int .i64) [28] (.load none (.tmp 28)) <|
 .op (some 30) .any [4] (.faddr 5 (.tmp 4)) <|
 .op (some 31) (.agg [.bool, .bool, .bool, .bool, (.int .i64), (.int .i64)]) [30] (.load (some 6) (.tmp 30)) <|
 .op (some 32) .any [4] (.faddr 13 (.tmp 4)) <|
 .op (some 33) (.int .i64) [32] (.load none (.tmp 32)) <|
 .op (some 34) .any [4] (.faddr 14 (.tmp 4)) <|
 .op (some 35) .bool [34] (.load none (.tmp 34)) <|
 .op (some 36) (.agg [(.int .i64), .any, .bool, .bool, .bool, .bool, (.int .i64), (.int .i64), .any, .any, (.int .i64), .bool, (.int .i64)]) [29, 31, 33, 35] (.build [(V.int .i64 (Int.ofNat 0)), V.nils, (V.bool false), (V.bool false), (V.bool false), (V.bool false), (V.int .i64 (Int.ofNat 0)), (V.int .i64 (Int.ofNat 0)), V.nils, V.nils, (V.int .i64 (Int.ofNat 0)), (V.bool false), (V.int .i64 (Int.ofNat 0))] [(0, 1, (.tmp 29)), (2, 6, (.tmp 31)), (10, 1, (.tmp 33)), (11, 1, (.tmp 35))]) <|
 .op (some 8) .any [] (.alloc 165 [(V.int .i64 (Int.ofNat 0)), V.nils, (V.bool false), (V.bool false), (V.bool false), (V.bool false), (V.int .i64 (Int.ofNat 0)), (V.int .i64 (Int.ofNat 0)), V.nils, V.nils, (V.int .i64 (Int.ofNat 0)), (V.bool false), (V.int .i64 (Int.ofNat 0))]) <|
 .op none (.agg [(.int .i64), .any, .bool, .bool, .bool, .bool, (.int .i64), (.int .i64), .any, .any, (.int .i64), .bool, (.int .i64)]) [8, 36] (.store 13 (.tmp 8) (.tmp 36)) <|
 .nil))
 (.seq (.seq (.ops (.op (some 37) .any [4] (.faddr 0 (.tmp 4)) <|
 .op (some 38) (.int .i64) [37] (.load none (.tmp 37)) <|
 .op (some 39) .any [38] (.bin .neq .none (.tmp 38) (.con (V.int .i64 (Int.ofNat 9)))) <|
 .nil))
 (.cond (.tmp 39) (.ops (.op (some 40) .any [4] (.faddr 0 (.tmp 4)) <|
 .op (some 41) (.int .i64) [40] (.load none (.tmp 40)) <|
 .op (some 42) (.agg [(.int .i64), (.int .i64)]) [41] (.call 85 [(.tmp 41)]) <|
 .op (some 43) .any [42] (.buildSlice 182 1 [(V.int .i64 (Int.ofNat 0)), (V.int .i64 (Int.ofNat 0))] [(0, 2, (.tmp 42))]) <|
 .op (some 44) .any [8] (.faddr 1 (.tmp 8)) <|
 .op none .any [44, 43] (.store 1 (.tmp 44) (.tmp 43)) <|
 .nil))
 .skip))
 (.keep [(0, .ptr), (2, (.int .i64)), (4, .ptr), (7, (.int .i64)), (8, .ptr)] [] [] cc1))))))
def C46_1 (cc2 : XC) (cc3 : XC) : XC := (.seq (.keep [(0, .ptr), (2, (.int .i64)), (4, .ptr), (7, (.int .i64)), (8, .ptr)] [] [] (.gdraw G46_0 H46_0 [(0, .ptr), (2, (.int .i64)), (4, .ptr), (7, (.int .i64))]))
 (.seq (.seq (.ops (.op (some 55) .any [4] (.faddr 0 (.tmp 4)) <|
 .op (some 56) (.int .i64) [55] (.load none (.tmp 55)) <|
 .nil))
 (.block 0 (.seq (.seq (.ops (.op (some 58) .any [56] (.bin .eql .none (.tmp 56) (.con (V.int .i64 (Int.ofNat 2)))) <|
 .op (some 57) .any [58] (.mov (.tmp 58)) <|
 .nil))
 (.cond (.tmp 57) .skip
 (.seq (.ops (.op (some 59) .any [56] (.bin .eql .none (.tmp 56) (.con (V.int .i64 (Int.ofNat 5)))) <|
 .op (some 57) .any [59] (.mov (.tmp 59)) <|
 .nil))
 (.cond (.tmp 57) .skip
 (.seq (.ops (.op (some 60) .any [56] (.bin .eql .none (.tmp 56) (.con (V.int .i64 (Int.ofNat 6)))) <|
 .op (some 57) .any [60] (.mov (.tmp 60)) <|
 .nil))
 (.cond (.tmp 57) .skip
 (.ops (.op (some 61) .any [56] (.bin .eql .none (.tmp 56) (.con (V.int .i64 (Int.ofNat 10)))) <|
 .op (some 57) .any [61] (.mov (.tmp 61)) <|
 .nil))))))))
 (.keep [(0, .ptr), (2, (.int .i64)), (4, .ptr), (7, (.int .i64)), (56, (.int .i64)), (57, .bool)] [] [] cc3))))
 (.keep [(7, (.int .i64))] [] [] cc2)))
def C46_2 : XC := (.seq (.ops (.op (some 116) .any [7] (.mov (.tmp 7)) <|
 .op (some 6) .any [116] (.mov (.tmp 116)) <|
 .nil))
 .ret)
def C46_3 (cc4 : XC) (cc5 : XC) : XC := (.cond (.tmp 57) (.seq (.ops (.op (some 62) .any [4] (.faddr 5 (.tmp 4)) <|
 .op (some 63) (.agg [.bool, .bool, .bool, .bool, (.int .i64), (.int .i64)]) [62] (.load (some 6) (.tmp 62)) <|
 .op (some 64) .any [4] (.faddr 0 (.tmp 4)) <|
 .op (some 65) (.int .i64) [64] (.load none (.tmp 64)) <|
 .op (some 66) .any [65] (.bin .neq .none (.tmp 65) (.con (V.int .i64 (Int.ofNat 2)))) <|
 .op (some 67) (.int .i64) [63, 66] (.call 86 [(.tmp 63), (.tmp 66)]) <|
 .op (some 9) .any [67] (.mov (.tmp 67)) <|
 .nil))
 (.seq (.seq (.ops (.op (some 68) .any [9] (.mov (.tmp 9)) <|
 .op (some 69) .any [68] (.bin .neq .none (.tmp 68) (.con (V.int .i64 (Int.ofNat 0)))) <|
 .nil))
 (.cond (.tmp 69) (.ops (.op (some 70) .any [0] (.mov (.tmp 0)) <|
 .op (some 71) .any [9] (.mov (.tmp 9)) <|
 .op (some 72) (.tup []) [70, 71] (.call 84 [(.tmp 70), (.tmp 71)]) <|
 .nil))
 .skip))
 (.keep [(0, .ptr), (2, (.int .i64)), (4, .ptr), (7, (.int .i64))] [] [] cc4)))
 (.seq (.ops (.op (some 96) .any [56] (.bin .eql .none (.tmp 56) (.con (V.int .i64 (Int.ofNat 3)))) <|
 .op (some 95) .any [96] (.mov (.tmp 96)) <|
 .nil))
 (.cond (.tmp 95) (.keep [(0, .ptr), (4, .ptr), (7, (.int .i64))] [] [] (.gdraw G46_1 H46_1 [(7, (.int .i64))]))
 (.seq (.seq (.ops (.op (some 108) .any [56] (.bin .eql .none (.tmp 56) (.con (V.int .i64 (Int.ofNat 7)))) <|
 .op (some 107) .any [108] (.mov (.tmp 108)) <|
 .nil))
 (.cond (.tmp 107) .skip
 (.seq (.ops (.op (some 109) .any [56] (.bin .eql .none (.tmp 56) (.con (V.int .i64 (Int.ofNat 8)))) <|
 .op (some 107) .any [109] (.mov (.tmp 109)) <|
 .nil))
 (.cond (.tmp 107) .skip
 (.ops (.op (some 110) .any [56] (.bin .eql .none (.tmp 56) (.con (V.int .i64 (Int.ofNat 9)))) <|
 .op (some 107) .any [110] (.mov (.tmp 110)) <|
 .nil))))))
 (.keep [(0, .ptr), (2, (.int .i64)), (4, .ptr), (7, (.int .i64)), (107, .bool)] [] [] cc5)))))
def C46_4 : XC := (.seq (.ops (.op (some 73) .any [4] (.faddr 0 (.tmp 4)) <|
 .op (some 74) (.int .i64) [73] (.load none (.tmp 73)) <|
 .op (some 75) .any [74] (.bin .eql .none (.tmp 74) (.con (V.int .i64 (Int.ofNat 10)))) <|
 .nil))
 (.cond (.tmp 75) (.seq (.ops (.op (some 76) .any [0] (.mov (.tmp 0)) <|
 .op (some 77) .any [4] (.faddr 15 (.tmp 4)) <|
 .op (some 78) (.int .i64) [77] (.load none (.tmp 77)) <|
 .op (some 79) .any [2] (.mov (.tmp 2)) <|
 .op (some 80) .any [79] (.bin .add .none (.tmp 79) (.con (V.int .i64 (Int.ofNat 1)))) <|
 .op (some 81) (.int .i64) [76, 78, 80] (.call 24 [(.tmp 76), (.tmp 78), (.tmp 80)]) <|
 .op (some 10) .any [81] (.mov (.tmp 81)) <|
 .nil))
 (.seq (.ops (.op (some 82) .any [0] (.mov (.tmp 0)) <|
 .op (some 83) .any [82] (.nilck (.tmp 82)) <|
 .op (some 84) .any [83] (.faddr 6 (.tmp 83)) <|
 .op (some 85) (.int .i64) [84] (.load none (.tmp 84)) <|
 .op (some 86) .any [85] (.bin .eql .none (.tmp 85) (.con (V.int .i64 (Int.ofNat 0)))) <|
 .nil))
 (.cond (.tmp 86) (.ops (.op (some 87) .any [0] (.mov (.tmp 0)) <|
 .op (some 88) .any [87] (.nilck (.tmp 87)) <|
 .op (some 89) .any [88] (.faddr 5 (.tmp 88)) <|
 .op (some 90) .any [89] (.load none (.tmp 89)) <|
 .op (some 91) .any [7] (.mov (.tmp 7)) <|
 .op (some 92) .any [10] (.mov (.tmp 10)) <|
 .op (some 93) .any [90, 91] (.iaddrS 13 (.tmp 90) (.tmp 91)) <|
 .op (some 94) .any [93] (.faddr 12 (.tmp 93)) <|
 .op none .any [94, 92] (.store 1 (.tmp 94) (.tmp 92)) <|
 .nil))
 .skip)))
 .skip))
def C46_5 : XC := (.cond (.tmp 107) (.ops (.op (some 111) .any [0] (.mov (.tmp 0)) <|
 .op (some 112) .any [7] (.mov (.tmp 7)) <|
 .op (some 113) (.agg [(.int .i64), .str, .bool, (.int .i64), (.int .i64), .bool, .bool, .bool, .bool, (.int .i64), (.int .i64), .any, .any, (.int .i64), .bool, (.int .i64)]) [4] (.load (some 16) (.tmp 4)) <|
 .op (some 114) .any [2] (.mov (.tmp 2)) <|
 .op (some 115) (.tup []) [111, 112, 113, 114] (.call 88 [(.tmp 111), (.tmp 112), (.tmp 113), (.tmp 114)]) <|
 .nil))
 .skip)
def A46 : XFn := ⟨117, [.ptr, (.agg [(.int .i64), .str, .bool, (.int .i64), (.int .i64), .bool, .bool, .bool, .bool, (.int .i64), (.int .i64), .any, .any, (.int .i64), .bool, (.int .i64)]), (.int .i64)], [(.tmp 6)], (C46_0 (C46_1 C46_2 (C46_3 C46_4 C46_5)))⟩
def C47_0 : XC := (.seq (.ops (.op (some 4) .any [] (.mov (.con (V.int .i64 (Int.ofNat 0)))) <|
 .nil))
 (.seq (.seq (.ops (.op (some 5) .any [0] (.mov (.tmp 0)) <|
 .op (some 6) .any [5] (.nilck (.tmp 5)) <|
 .op (some 7) .any [6] (.faddr 5 (.tmp 6)) <|
 .op (some 8) .any [7] (.load none (.tmp 7)) <|
 .op (some 9) .any [1] (.mov (.tmp 1)) <|
 .op (some 10) .any [8, 9] (.iaddrS 13 (.tmp 8) (.tmp 9)) <|
 .op (some 11) .any [10] (.faddr 1 (.tmp 10)) <|
 .op (some 12) .any [11] (.load none (.tmp 11)) <|
 .op (some 13) .any [12] (.len false (.tmp 12)) <|
 .op (some 14) .any [13] (.bin .gtr .none (.tmp 13) (.con (V.int .i64 (Int.ofNat 0)))) <|
 .nil))
 (.cond (.tmp 14) (.seq (.ops (.op (some 4) .any [] (.mov (.con (V.int .i64 (Int.ofNat 1)))) <|
 .nil))
 .ret)
 .skip))
 (.seq (.ops (.op (some 4) .any [] (.mov (.con (V.int .i64 (Int.ofNat 0)))) <|
 .nil))
 .ret)))
def A47 : XFn := ⟨15, [.ptr, (.int .i64)], [(.tmp 4)], C47_0⟩
def C48_0 : XC := (.seq (.seq (.ops (.op (some 10) .any [0] (.mov (.tmp 0)) <|
 .op (some 11) .any [10] (.nilck (.tmp 10)) <|
 .op (some 12) .any [11] (.faddr 6 (.tmp 11)) <|
 .op (some 13) (.int .i64) [12] (.load none (.tmp 12)) <|
 .op (some 14) .any [13] (.bin .neq .none (.tmp 13) (.con (V.int .i64 (Int.ofNat 0)))) <|
 .nil))
 (.cond (.tmp 14) .ret
 .skip))
 (.seq (.ops (.op (some 16) .any [0] (.mov (.tmp 0)) <|
 .op (some 17) .any [16] (.nilck (.tmp 16)) <|
 .op (some 18) .any [17] (.faddr 5 (.tmp 17)) <|
 .op (some 19) .any [18] (.load none (.tmp 18)) <|
 .op (some 20) .any [1] (.mov (.tmp 1)) <|
 .op (some 21) .any [19, 20] (.iaddrS 13 (.tmp 19) (.tmp 20)) <|
 .op (some 22) .any [21] (.faddr 1 (.tmp 21)) <|
 .op (some 23) .any [22] (.load none (.tmp 22)) <|
 .op (some 24) .any [2] (.mov (.tmp 2)) <|
 .op (some 25) .any [3] (.mov (.tmp 3)) <|
 .op (some 26) (.tup [.any, (.int .i64)]) [23, 24, 25] (.call 89 [(.tmp 23), (.tmp 24), (.tmp 25)]) <|
 .op (some 15) .any [26] (.mov (.tmp 26)) <|
 .op (some 27) .any [15] (.extract 0 (.tmp 15)) <|
 .op (some 28) .any [15] (.extract 1 (.tmp 15)) <|
 .op (some 8) .any [27] (.mov (.tmp 27)) <|
 .op (some 9) .any [28] (.mov (.tmp 28)) <|
 .nil))
 (.seq (.seq (.ops (.op (some 29) .any [9] (.mov (.tmp 9)) <|
 .op (some 30) .any [29] (.bin .neq .none (.tmp 29) (.con (V.int .i64 (Int.ofNat 0)))) <|
 .nil))
 (.cond (.tmp 30) (.seq (.ops (.op (some 31) .any [0] (.mov (.tmp 0)) <|
 .op (some 32) .any [9] (.mov (.tmp 9)) <|
 .op (some 33) (.tup []) [31, 32] (.call 84 [(.tmp 31), (.tmp 32)]) <|
 .nil))
 .ret)
 .skip))
 (.ops (.op (some 34) .any [0] (.mov (.tmp 0)) <|
 .op (some 35) .any [34] (.nilck (.tmp 34)) <|
 .op (some 36) .any [35] (.faddr 5 (.tmp 35)) <|
 .op (some 37) .any [36] (.load none (.tmp 36)) <|
 .op (some 38) .any [1] (.mov (.tmp 1)) <|
 .op (some 39) .any [8] (.mov (.tmp 8)) <|
 .op (some 40) .any [37, 38] (.iaddrS 13 (.tmp 37) (.tmp 38)) <|
 .op (some 41) .any [40] (.faddr 1 (.tmp 40)) <|
 .op none .any [41, 39] (.store 1 (.tmp 41) (.tmp 39)) <|
 .nil)))))
def A48 : XFn := ⟨42, [.ptr, (.int .i64), (.int .i64), (.int .i64)], [], C48_0⟩
/-! ### F49: ogham_value.Fits -/
def Fin49 (E : List (Nat × Blk)) : St → Ans := fun s => resK E s [(.tmp 6)] fun l => some (oneV l, s.σ)
def C49_0 : XC := (.seq (.ops (.op (some 3) .any [0] (.box 27 (.tmp 0)) <|
 .op (some 5) .any [2] (.box 35 (.tmp 2)) <|
 .op (some 6) .any [] (.mov (.con (V.bool false))) <|
 .nil))
 (.seq (.ops (.op (some 8) (.agg [.str, .any, .any, .any]) [3] (.load (some 4) (.tmp 3)) <|
 .op (some 9) (.agg [.str, .any, .any, .any]) [8] (.build [(V.str ⟨0, 0⟩), V.nils, V.nils, V.nils] [(0, 4, (.tmp 8))]) <|
 .op (some 10) (.agg [.str, .any, .any, .any, .bool]) [9] (.build [(V.str ⟨0, 0⟩), V.nils, V.nils, V.nils, (V.bool false)] [(0, 4, (.tmp 9))]) <|
 .op (some 11) .any [10] (.box 155 (.tmp 10)) <|
 .op (some 7) .any [11] (.mov (.tmp 11)) <|
 .nil))
 (.seq (.ops (.op (some 12) .any [7] (.mov (.tmp 7)) <|
 .op (some 13) .any [1] (.mov (.tmp 1)) <|
 .op (some 14) (.agg [(.int .i64), (.int .i64), .any, .any, (.int .i64), .any]) [5] (.load (some 6) (.tmp 5)) <|
 .op (some 15) .bool [12, 13, 14] (.call 61 [(.tmp 12), (.tmp 13), (.tmp 14), (.con (V.int .i64 (Int.ofNat 1)))]) <|
 .op (some 16) .any [15] (.mov (.tmp 15)) <|
 .grp 16 true (.op (some 17) (.agg [(.int .i64), (.int .i64), .any, .any, (.int .i64), .any]) [5, 16] (.load (some 6) (.tmp 5)) <|
 .op (some 18) (.int .i64) [17, 16] (.call 62 [(.tmp 17)]) <|
 .op (some 19) .any [18, 16] (.bin .leq .none (.tmp 18) (.con (V.int .i64 (Int.ofNat 5000)))) <|
 .nil) 20 [16, 19] (.tmp 16) (.tmp 19) (.con (V.bool false)) <|
 .op (some 6) .any [20] (.mov (.tmp 20)) <|
 .nil))
 .ret)))
def T49_0 (E : List (Nat × Blk)) (D : Den) (W : DrawFn) (v0_0 : BS) (v0_1 : V) (v0_2 : V) (v0_3 : V) (v1 : Int) (v2_0 : Int) (v2_1 : Int) (v2_2 : V) (v2_3 : V) (v2_4 : Int) (v2_5 : V) (σ : H) : Ans :=
 chk (allOne (V.cells (V.agg [(V.str v0_0), v0_1, v0_2, v0_3]))) (
 let s1 := newB σ (.cells (V.cells (V.agg [(V.str v0_0), v0_1, v0_2, v0_3])));
 chk (allOne (V.cells (V.agg [(V.int .i64 v2_0), (V.int .i64 v2_1), v2_2, v2_3, (V.int .i64 v2_4), v2_5]))) (
 let s2 := newB s1 (.cells (V.cells (V.agg [(V.int .i64 v2_0), (V.int .i64 v2_1), v2_2, v2_3, (V.int .i64 v2_4), v2_5])));
 ldnK E s2 (H.next σ) 0 4 fun l3 =>
 rtCons l3 fun x4 l5 =>
 rtStr x4 fun x6 =>
 rtCons l5 fun x7 l8 =>
 rtCons l8 fun x9 l10 =>
 rtCons l10 fun x11 l12 =>
 rtNil l12 (
 chk (allOne (V.cells (V.agg [(V.str x6), x7, x9, x11, (V.bool false)]))) (
 let s13 := newB s2 (.cells (V.cells (V.agg [(V.str x6), x7, x9, x11, (V.bool false)])));
 ldnK E s13 (H.next s1) 0 6 fun l14 =>
 rtCons l14 fun x15 l16 =>
 rtInt .i64 x15 fun x17 =>
 rtCons l16 fun x18 l19 =>
 rtInt .i64 x18 fun x20 =>
 rtCons l19 fun x21 l22 =>
 rtCons l22 fun x23 l24 =>
 rtCons l24 fun x25 l26 =>
 rtInt .i64 x25 fun x27 =>
 rtCons l26 fun x28 l29 =>
 rtNil l29 (
 callK (D 61 [(V.ptr (H.next s2) 0), (V.int .i64 v1), (V.agg [(V.int .i64 x17), (V.int .i64 x20), x21, x23, (V.int .i64 x27), x28]), (V.int .i64 (Int.ofNat 1))] s13) fun u30 s31 =>
 rtBool u30 fun x32 =>
 joinB (fun c33 s34 =>
 some ((V.bool c33), s34)) fun k35 =>
 condK x32 (
 ldnK E s31 (H.next s1) 0 6 fun l36 =>
 rtCons l36 fun x37 l38 =>
 rtInt .i64 x37 fun x39 =>
 rtCons l38 fun x40 l41 =>
 rtInt .i64 x40 fun x42 =>
 rtCons l41 fun x43 l44 =>
 rtCons l44 fun x45 l46 =>
 rtCons l46 fun x47 l48 =>
 rtInt .i64 x47 fun x49 =>
 rtCons l48 fun x50 l51 =>
 rtNil l51 (
 callK (D 62 [(V.agg [(V.int .i64 x39), (V.int .i64 x42), x43, x45, (V.int .i64 x49), x50])] s31) fun u52 s53 =>
 rtInt .i64 u52 fun x54 =>
 k35 (leF x54 (Int.ofNat 5000)) s53)) (
 k35 false s31))))))
theorem P49_0 (E : List (Nat × Blk)) (D : Den) (W : DrawFn) (N : Nat) (v0_0 : BS) (v0_1 : V) (v0_2 : V) (v0_3 : V) (v1 : Int) (v2_0 : Int) (v2_1 : Int) (v2_2 : V) (v2_3 : V) (v2_4 : Int) (v2_5 : V) (σ : H) :
  denC E D W N (C49_0 ) ⟨[(0, (V.agg [(V.str v0_0), v0_1, v0_2, v0_3])), (1, (V.int .i64 v1)), (2, (V.agg [(V.int .i64 v2_0), (V.int .i64 v2_1), v2_2, v2_3, (V.int .i64 v2_4), v2_5]))], [], [], σ⟩ (Fin49 E) (fun _ _ => none) (Fin49 E) =
  T49_0 E D W  v0_0 v0_1 v0_2 v0_3 v1 v2_0 v2_1 v2_2 v2_3 v2_4 v2_5 σ := by kernel_rfl
def J49_0 (E : List (Nat × Blk)) (D : Den) (W : DrawFn) (N : Nat) : BS → V → V → V → Int → Int → Int → V → V → Int → V → H → Ans := T49_0 E D W 
theorem JE49_0 (E : List (Nat × Blk)) (D : Den) (W : DrawFn) (N : Nat) (v0_0 : BS) (v0_1 : V) (v0_2 : V) (v0_3 : V) (v1 : Int) (v2_0 : Int) (v2_1 : Int) (v2_2 : V) (v2_3 : V) (v2_4 : Int) (v2_5 : V) (σ : H) :
  denC E D W N C49_0 ⟨[(0, (V.agg [(V.str v0_0), v0_1, v0_2, v0_3])), (1, (V.int .i64 v1)), (2, (V.agg [(V.int .i64 v2_0), (V.int .i64 v2_1), v2_2, v2_3, (V.int .i64 v2_4), v2_5]))], [], [], σ⟩ (Fin49 E) (fun _ _ => none) (Fin49 E) = J49_0 E D W N v0_0 v0_1 v0_2 v0_3 v1 v2_0 v2_1 v2_2 v2_3 v2_4 v2_5 σ := by
  refine (P49_0 E D W N   v0_0 v0_1 v0_2 v0_3 v1 v2_0 v2_1 v2_2 v2_3 v2_4 v2_5 σ).trans ?_
  kernel_rfl
def F49 (E : List (Nat × Blk)) (D : Den) (W : DrawFn) (N : Nat) (args : List V) (σ : H) : Ans :=
 rtCons args fun x1 l2 =>
 rtAgg x1 fun l3 =>
 rtCons l3 fun x4 l5 =>
 rtStr x4 fun x6 =>
 rtCons l5 fun x7 l8 =>
 rtCons l8 fun x9 l10 =>
 rtCons l10 fun x11 l12 =>
 rtNil l12 (
 rtCons l2 fun x13 l14 =>
 rtInt .i64 x13 fun x15 =>
 rtCons l14 fun x16 l17 =>
 rtAgg x16 fun l18 =>
 rtCons l18 fun x19 l20 =>
 rtInt .i64 x19 fun x21 =>
 rtCons l20 fun x22 l23 =>
 rtInt .i64 x22 fun x24 =>
 rtCons l23 fun x25 l26 =>
 rtCons l26 fun x27 l28 =>
 rtCons l28 fun x29 l30 =>
 rtInt .i64 x29 fun x31 =>
 rtCons l30 fun x32 l33 =>
 rtNil l33 (
 rtNil l17 (
 J49_0 E D W N x6 x7 x9 x11 x15 x21 x24 x25 x27 x31 x32 σ)))
def A49 : XFn := ⟨21, [(.agg [.str, .any, .any, .any]), (.int .i64), (.agg [(.int .i64), (.int .i64), .any, .any, (.int .i64), .any])], [(.tmp 6)], C49_0⟩
theorem FE49 (E : List (Nat × Blk)) (D : Den) (W : DrawFn) (N : Nat) (args : List V) (σ : H) : runX E D W N A49 args σ = F49 E D W N args σ := by
  unfold F49
  simp only [← JE49_0]
  kernel_rfl
theorem AO49 : A49.body.ok = true := by kernel_rfl

/-! ### F50: ogham_value.Rules -/
def Fin50 (E : List (Nat × Blk)) : St → Ans := fun s => resK E s [(.tmp 4)] fun l => some (oneV l, s.σ)
def C50_0 : XC := (.seq (.ops (.op (some 2) .any [0] (.box 35 (.tmp 0)) <|
 .op (some 3) .any [1] (.box 3 (.tmp 1)) <|
 .op (some 4) .any [] (.mov (.con (V.bool false))) <|
 .nil))
 (.seq (.ops (.op (some 5) .any [2] (.faddr 4 (.tmp 2)) <|
 .op (some 6) (.int .i64) [5] (.load none (.tmp 5)) <|
 .op (some 7) .any [6] (.bin .eql .none (.tmp 6) (.con (V.int .i64 (Int.ofNat 0)))) <|
 .op (some 8) .any [7] (.mov (.tmp 7)) <|
 .grp 8 false (.op (some 9) .any [2, 8] (.faddr 4 (.tmp 2)) <|
 .op (some 10) (.int .i64) [9, 8] (.load none (.tmp 9)) <|
 .op (some 11) (.int .i64) [3, 8] (.load none (.tmp 3)) <|
 .op (some 12) .any [10, 11, 8] (.bin .eql .none (.tmp 10) (.tmp 11)) <|
 .nil) 13 [8, 12] (.tmp 8) (.con (V.bool true)) (.tmp 12) <|
 .op (some 14) .any [13] (.mov (.tmp 13)) <|
 .grp 14 true (.op (some 15) .any [2, 14] (.faddr 3 (.tmp 2)) <|
 .op (some 16) .any [15, 14] (.load none (.tmp 15)) <|
 .op (some 17) .any [3, 14] (.mkfn 90 [] [(.tmp 3)]) <|
 .op (some 18) .bool [16, 17, 14] (.call 33 [(.tmp 16), (.tmp 17)]) <|
 .op (some 19) .any [18, 14] (.un .not (.tmp 18)) <|
 .nil) 20 [14, 19] (.tmp 14) (.tmp 19) (.con (V.bool false)) <|
 .op (some 4) .any [20] (.mov (.tmp 20)) <|
 .nil))
 .ret))
def T50_0 (E : List (Nat × Blk)) (D : Den) (W : DrawFn) (v0_0 : Int) (v0_1 : Int) (v0_2 : V) (v0_3 : V) (v0_4 : Int) (v0_5 : V) (v1 : Int) (σ : H) : Ans :=
 chk (allOne (V.cells (V.agg [(V.int .i64 v0_0), (V.int .i64 v0_1), v0_2, v0_3, (V.int .i64 v0_4), v0_5]))) (
 let s1 := newB σ (.cells (V.cells (V.agg [(V.int .i64 v0_0), (V.int .i64 v0_1), v0_2, v0_3, (V.int .i64 v0_4), v0_5])));
 chk (allOne (V.cells (V.int .i64 v1))) (
 let s2 := newB s1 (.cells (V.cells (V.int .i64 v1)));
 ldK E s2 (H.next σ) 4 fun u3 =>
 rtInt .i64 u3 fun x4 =>
 joinB (fun c5 s6 =>
 joinB (fun c8 s9 =>
 some ((V.bool c8), s9)) fun k10 =>
 condK c5 (
 ldK E s6 (H.next σ) 3 fun u11 =>
 callK (D 33 [u11, (V.fn 90 [] [(V.ptr (H.next s1) 0)])] s6) fun u12 s13 =>
 rtBool u12 fun x14 =>
 k10 (not x14) s13) (
 k10 false s6)) fun k7 =>
 condK (eqF x4 (Int.ofNat 0)) (
 k7 true s2) (
 ldK E s2 (H.next σ) 4 fun u15 =>
 rtInt .i64 u15 fun x16 =>
 ldK E s2 (H.next s1) 0 fun u17 =>
 rtInt .i64 u17 fun x18 =>
 k7 (eqF x16 x18) s2)))
theorem P50_0 (E : List (Nat × Blk)) (D : Den) (W : DrawFn) (N : Nat) (v0_0 : Int) (v0_1 : Int) (v0_2 : V) (v0_3 : V) (v0_4 : Int) (v0_5 : V) (v1 : Int) (σ : H) :
  denC E D W N (C50_0 ) ⟨[(0, (V.agg [(V.int .i64 v0_0), (V.int .i64 v0_1), v0_2, v0_3, (V.int .i64 v0_4), v0_5])), (1, (V.int .i64 v1))], [], [], σ⟩ (Fin50 E) (fun _ _ => none) (Fin50 E) =
  T50_0 E D W  v0_0 v0_1 v0_2 v0_3 v0_4 v0_5 v1 σ := by kernel_rfl
def J50_0 (E : List (Nat × Blk)) (D : Den) (W : DrawFn) (N : Nat) : Int → Int → V → V → Int → V → Int → H → Ans := T50_0 E D W 
theorem JE50_0 (E : List (Nat × Blk)) (D : Den) (W : DrawFn) (N : Nat) (v0_0 : Int) (v0_1 : Int) (v0_2 : V) (v0_3 : V) (v0_4 : Int) (v0_5 : V) (v1 : Int) (σ : H) :
  denC E D W N C50_0 ⟨[(0, (V.agg [(V.int .i64 v0_0), (V.int .i64 v0_1), v0_2, v0_3, (V.int .i64 v0_4), v0_5])), (1, (V.int .i64 v1))], [], [], σ⟩ (Fin50 E) (fun _ _ => none) (Fin50 E) = J50_0 E D W N v0_0 v0_1 v0_2 v0_3 v0_4 v0_5 v1 σ := by
  refine (P50_0 E D W N   v0_0 v0_1 v0_2 v0_3 v0_4 v0_5 v1 σ).trans ?_
  kernel_rfl
def F50 (E : List (Nat × Blk)) (D : Den) (W : DrawFn) (N : Nat) (args : List V) (σ : H) : Ans :=
 rtCons args fun x1 l2 =>
 rtAgg x1 fun l3 =>
 rtCons l3 fun x4 l5 =>
 rtInt .i64 x4 fun x6 =>
 rtCons l5 fun x7 l8 =>
 rtInt .i64 x7 fun x9 =>
 rtCons l8 fun x10 l11 =>
 rtCons l11 fun x12 l13 =>
 rtCons l13 fun x14 l15 =>
 rtInt .i64 x14 fun x16 =>
 rtCons l15 fun x17 l18 =>
 rtNil l18 (
 rtCons l2 fun x19 l20 =>
 rtInt .i64 x19 fun x21 =>
 rtNil l20 (
 J50_0 E D W N x6 x9 x10 x12 x16 x17 x21 σ))
def A50 : XFn := ⟨21, [(.agg [(.int .i64), (.int .i64), .any, .any, (.int .i64), .any]), (.int .i64)], [(.tmp 4)], C50_0⟩
theorem FE50 (E : List (Nat × Blk)) (D : Den) (W : DrawFn) (N : Nat) (args : List V) (σ : H) : runX E D W N A50 args σ = F50 E D W N args σ := by
  unfold F50
  simp only [← JE50_0]
  kernel_rfl
theorem AO50 : A50.body.ok = true := by kernel_rfl

def G51_0 : List AOper := [⟨(some 39), .faddr 1 (.tmp 7), none⟩, ⟨(some 40), .load none (.tmp 39), none⟩, ⟨(some 41), .faddr 1 (.tmp 5), none⟩, ⟨(some 42), .load none (.tmp 41), none⟩, ⟨(some 43), .call 92 [(.tmp 42)], none⟩, ⟨(some 44), .buildSlice 31 1 [V.nils] [(0, 1, (.tmp 43))], none⟩, ⟨(some 45), .call 91 [(.tmp 40), (.con (V.bool false)), (.tmp 44)], none⟩, ⟨(some 6), .mov (.tmp 45), none⟩]
def H51_0 : List DP := [⟨0, [7]⟩, ⟨1, [39]⟩, ⟨0, [5]⟩, ⟨4, [41]⟩, ⟨12, [42]⟩, ⟨28, [43]⟩, ⟨63, [40, 44]⟩, ⟨127, [45]⟩]
def G51_1 : List AOper := [⟨(some 79), .faddr 1 (.tmp 7), none⟩, ⟨(some 80), .load none (.tmp 79), none⟩, ⟨(some 81), .mov (.tmp 0), none⟩, ⟨(some 82), .faddr 9 (.tmp 7), none⟩, ⟨(some 83), .load none (.tmp 82), none⟩, ⟨(some 84), .faddr 1 (.tmp 5), none⟩, ⟨(some 85), .load none (.tmp 84), none⟩, ⟨(some 86), .iaddrS 11 (.tmp 83) (.tmp 85), none⟩, ⟨(some 87), .faddr 1 (.tmp 86), none⟩, ⟨(some 88), .load none (.tmp 87), none⟩, ⟨(some 89), .faddr 3 (.tmp 5), none⟩, ⟨(some 90), .load none (.tmp 89), none⟩, ⟨(some 91), .iaddrS 6 (.tmp 90) (.con (V.int .i64 (Int.ofNat 0))), none⟩, ⟨(some 92), .load (some 6) (.tmp 91), none⟩, ⟨(some 93), .call 51 [(.tmp 81), (.tmp 88), (.tmp 92)], none⟩, ⟨(some 94), .buildSlice 31 1 [V.nils] [(0, 1, (.tmp 93))], none⟩, ⟨(some 95), .call 91 [(.tmp 80), (.con (V.bool true)), (.tmp 94)], none⟩, ⟨(some 6), .mov (.tmp 95), none⟩]
def H51_1 : List DP := [⟨0, [7]⟩, ⟨1, [79]⟩, ⟨0, [0]⟩, ⟨0, [7]⟩, ⟨8, [82]⟩, ⟨0, [5]⟩, ⟨32, [84]⟩, ⟨120, [83, 85]⟩, ⟨248, [86]⟩, ⟨504, [87]⟩, ⟨0, [5]⟩, ⟨1024, [89]⟩, ⟨3072, [90]⟩, ⟨7168, [91]⟩, ⟨16380, [81, 88, 92]⟩, ⟨32764, [93]⟩, ⟨65535, [80, 94]⟩, ⟨131071, [95]⟩]
def G51_2 : List AOper := [⟨(some 99), .faddr 1 (.tmp 7), none⟩, ⟨(some 100), .load none (.tmp 99), none⟩, ⟨(some 101), .mov (.tmp 0), none⟩, ⟨(some 102), .load (some 13) (.tmp 7), none⟩, ⟨(some 103), .load (some 6) (.tmp 5), none⟩, ⟨(some 104), .call 93 [(.tmp 101), (.tmp 102), (.tmp 103)], none⟩, ⟨(some 105), .call 91 [(.tmp 100), (.con (V.bool true)), (.tmp 104)], none⟩, ⟨(some 6), .mov (.tmp 105), none⟩]
def H51_2 : List DP := [⟨0, [7]⟩, ⟨1, [99]⟩, ⟨0, [0]⟩, ⟨0, [7]⟩, ⟨0, [5]⟩, ⟨28, [101, 102, 103]⟩, ⟨63, [100, 104]⟩, ⟨127, [105]⟩]
def C51_0 (cc1 : XC) (cc2 : XC) : XC := (.seq (.ops (.op (some 5) .any [2] (.box 35 (.tmp 2)) <|
 .op (some 6) .any [] (.mov (.con V.nils)) <|
 .nil))
 (.seq (.ops (.op (some 11) .any [0] (.mov (.tmp 0)) <|
 .op (some 12) .any [11] (.nilck (.tmp 11)) <|
 .op (some 13) .any [12] (.faddr 0 (.tmp 12)) <|
 .op (some 14) .any [13] (.faddr 3 (.tmp 13)) <|
 .op (some 15) .any [14] (.load none (.tmp 14)) <|
 .op (some 16) .any [1] (.mov (.tmp 1)) <|
 .op (some 17) .any [15, 16] (.iaddrS 13 (.tmp 15) (.tmp 16)) <|
 .op (some 18) (.agg [(.int .i64), .any, .bool, .bool, .bool, .bool, (.int .i64), (.int .i64), .any, .any, (.int .i64), .bool, (.int .i64)]) [17] (.load (some 13) (.tmp 17)) <|
 .op (some 7) .any [] (.alloc 165 [(V.int .i64 (Int.ofNat 0)), V.nils, (V.bool false), (V.bool false), (V.bool false), (V.bool false), (V.int .i64 (Int.ofNat 0)), (V.int .i64 (Int.ofNat 0)), V.nils, V.nils, (V.int .i64 (Int.ofNat 0)), (V.bool false), (V.int .i64 (Int.ofNat 0))]) <|
 .op none (.agg [(.int .i64), .any, .bool, .bool, .bool, .bool, (.int .i64), (.int .i64), .any, .any, (.int .i64), .bool, (.int .i64)]) [7, 18] (.store 13 (.tmp 7) (.tmp 18)) <|
 .nil))
 (.seq (.seq (.ops (.op (some 19) .any [7] (.faddr 0 (.tmp 7)) <|
 .op (some 20) (.int .i64) [19] (.load none (.tmp 19)) <|
 .nil))
 (.block 0 (.seq (.ops (.op (some 22) .any [20] (.bin .eql .none (.tmp 20) (.con (V.int .i64 (Int.ofNat 1)))) <|
 .op (some 21) .any [22] (.mov (.tmp 22)) <|
 .nil))
 (.cond (.tmp 21) (.seq (.seq (.ops (.op (some 23) .any [5] (.faddr 1 (.tmp 5)) <|
 .op (some 24) (.int .i64) [23] (.load none (.tmp 23)) <|
 .op (some 25) .any [24] (.bin .eql .none (.tmp 24) (.con (V.int .i64 (Int.ofNat 1)))) <|
 .nil))
 (.cond (.tmp 25) (.seq (.ops (.op (some 26) .any [7] (.faddr 1 (.tmp 7)) <|
 .op (some 27) .any [26] (.load none (.tmp 26)) <|
 .op (some 28) .any [] (.buildSlice 5 1 [(V.int .u8 (Int.ofNat 0))] [(0, 1, (.con (V.int .u8 (Int.ofNat 255))))]) <|
 .op (some 29) .any [28] (.buildSlice 31 1 [V.nils] [(0, 1, (.tmp 28))]) <|
 .op (some 30) .one [27, 29] (.call 91 [(.tmp 27), (.con (V.bool false)), (.tmp 29)]) <|
 .op (some 6) .any [30] (.mov (.tmp 30)) <|
 .nil))
 .ret)
 .skip))
 (.seq (.ops (.op (some 31) .any [7] (.faddr 1 (.tmp 7)) <|
 .op (some 32) .any [31] (.load none (.tmp 31)) <|
 .op (some 33) .any [] (.buildSlice 5 1 [(V.int .u8 (Int.ofNat 0))] [(0, 1, (.con (V.int .u8 (Int.ofNat 0))))]) <|
 .op (some 34) .any [33] (.buildSlice 31 1 [V.nils] [(0, 1, (.tmp 33))]) <|
 .op (some 35) .one [32, 34] (.call 91 [(.tmp 32), (.con (V.bool false)), (.tmp 34)]) <|
 .op (some 6) .any [35] (.mov (.tmp 35)) <|
 .nil))
 .ret))
 (.seq (.seq (.ops (.op (some 37) .any [20] (.bin .eql .none (.tmp 20) (.con (V.int .i64 (Int.ofNat 2)))) <|
 .op (some 36) .any [37] (.mov (.tmp 37)) <|
 .nil))
 (.cond (.tmp 36) .skip
 (.ops (.op (some 38) .any [20] (.bin .eql .none (.tmp 20) (.con (V.int .i64 (Int.ofNat 3)))) <|
 .op (some 36) .any [38] (.mov (.tmp 38)) <|
 .nil))))
 (.keep [(0, .ptr), (5, .ptr), (7, .ptr), (20, (.int .i64)), (36, .bool)] [] [] cc2))))))
 (.keep [(5, .ptr), (7, .ptr)] [] [] cc1))))
def C51_1 : XC := (.seq (.ops (.op (some 106) .any [7] (.faddr 1 (.tmp 7)) <|
 .op (some 107) .any [106] (.load none (.tmp 106)) <|
 .op (some 108) .any [5] (.faddr 2 (.tmp 5)) <|
 .op (some 109) .any [108] (.load none (.tmp 108)) <|
 .op (some 110) .any [109] (.buildSlice 31 1 [V.nils] [(0, 1, (.tmp 109))]) <|
 .op (some 111) .one [107, 110] (.call 91 [(.tmp 107), (.con (V.bool false)), (.tmp 110)]) <|
 .op (some 6) .any [111] (.mov (.tmp 111)) <|
 .nil))
 .ret)
def C51_2 (cc3 : XC) (cc4 : XC) (cc5 : XC) : XC := (.cond (.tmp 36) (.seq (.keep [(5, .ptr), (7, .ptr)] [] [] (.gdraw G51_0 H51_0 [(6, .any)]))
 .ret)
 (.seq (.ops (.op (some 47) .any [20] (.bin .eql .none (.tmp 20) (.con (V.int .i64 (Int.ofNat 10)))) <|
 .op (some 46) .any [47] (.mov (.tmp 47)) <|
 .nil))
 (.cond (.tmp 46) (.seq (.ops (.op (some 8) .any [] (.mov (.con V.nils)) <|
 .nil))
 (.seq (.seq (.ops (.op (some 48) .any [5] (.faddr 3 (.tmp 5)) <|
 .op (some 49) .any [48] (.load none (.tmp 48)) <|
 .op (some 50) .any [49] (.len false (.tmp 49)) <|
 .op (some 51) .any [] (.mov (.con (V.int .i64 (Int.ofNat 0)))) <|
 .nil))
 (.block 1 (.loop [(0, .ptr), (7, .ptr), (8, .any), (49, .any), (50, (.int .i64)), (51, (.int .i64))] [] [] cc4)))
 (.keep [(7, .ptr), (8, .any)] [] [] cc3)))
 (.seq (.ops (.op (some 69) .any [20] (.bin .eql .none (.tmp 20) (.con (V.int .i64 (Int.ofNat 9)))) <|
 .op (some 68) .any [69] (.mov (.tmp 69)) <|
 .nil))
 (.cond (.tmp 68) (.seq (.seq (.ops (.op (some 70) .any [5] (.faddr 0 (.tmp 5)) <|
 .op (some 71) (.int .i64) [70] (.load none (.tmp 70)) <|
 .op (some 72) .any [71] (.bin .eql .none (.tmp 71) (.con (V.int .i64 (Int.ofNat 12)))) <|
 .nil))
 (.cond (.tmp 72) (.seq (.ops (.op (some 73) .any [7] (.faddr 1 (.tmp 7)) <|
 .op (some 74) .any [73] (.load none (.tmp 73)) <|
 .op (some 75) .any [5] (.faddr 2 (.tmp 5)) <|
 .op (some 76) .any [75] (.load none (.tmp 75)) <|
 .op (some 77) .any [76] (.buildSlice 31 1 [V.nils] [(0, 1, (.tmp 76))]) <|
 .op (some 78) .one [74, 77] (.call 91 [(.tmp 74), (.con (V.bool true)), (.tmp 77)]) <|
 .op (some 6) .any [78] (.mov (.tmp 78)) <|
 .nil))
 .ret)
 .skip))
 (.seq (.keep [(0, .ptr), (5, .ptr), (7, .ptr)] [] [] (.gdraw G51_1 H51_1 [(6, .any)]))
 .ret))
 (.seq (.seq (.ops (.op (some 97) .any [20] (.bin .eql .none (.tmp 20) (.con (V.int .i64 (Int.ofNat 7)))) <|
 .op (some 96) .any [97] (.mov (.tmp 97)) <|
 .nil))
 (.cond (.tmp 96) .skip
 (.ops (.op (some 98) .any [20] (.bin .eql .none (.tmp 20) (.con (V.int .i64 (Int.ofNat 8)))) <|
 .op (some 96) .any [98] (.mov (.tmp 98)) <|
 .nil))))
 (.keep [(0, .ptr), (5, .ptr), (7, .ptr), (96, .bool)] [] [] cc5)))))))
def C51_3 : XC := (.seq (.ops (.op (some 64) .any [7] (.faddr 1 (.tmp 7)) <|
 .op (some 65) .any [64] (.load none (.tmp 64)) <|
 .op (some 66) .any [8] (.mov (.tmp 8)) <|
 .op (some 67) .one [65, 66] (.call 91 [(.tmp 65), (.con (V.bool true)), (.tmp 66)]) <|
 .op (some 6) .any [67] (.mov (.tmp 67)) <|
 .nil))
 .ret)
def C51_4 : XC := (.seq (.ops (.op (some 52) .any [51, 50] (.bin .lss .none (.tmp 51) (.tmp 50)) <|
 .nil))
 (.seq (.cond (.tmp 52) .skip
 (.exit 1))
 (.seq (.block 2 (.seq (.ops (.op (some 53) .any [49, 51] (.iaddrS 6 (.tmp 49) (.tmp 51)) <|
 .op (some 54) (.agg [(.int .i64), (.int .i64), .any, .any, (.int .i64), .any]) [53] (.load (some 6) (.tmp 53)) <|
 .pal 10 [] 35 [(V.int .i64 (Int.ofNat 0)), (V.int .i64 (Int.ofNat 0)), V.nils, V.nils, (V.int .i64 (Int.ofNat 0)), V.nils] <|
 .op none (.agg [(.int .i64), (.int .i64), .any, .any, (.int .i64), .any]) [10, 54] (.store 6 (.tmp 10) (.tmp 54)) <|
 .nil))
 (.ops (.op (some 55) .any [8] (.mov (.tmp 8)) <|
 .op (some 56) .any [0] (.mov (.tmp 0)) <|
 .op (some 57) .any [7] (.faddr 12 (.tmp 7)) <|
 .op (some 58) (.int .i64) [57] (.load none (.tmp 57)) <|
 .op (some 59) (.agg [(.int .i64), (.int .i64), .any, .any, (.int .i64), .any]) [10] (.load (some 6) (.tmp 10)) <|
 .op (some 60) .one [56, 58, 59] (.call 51 [(.tmp 56), (.tmp 58), (.tmp 59)]) <|
 .op (some 61) .any [60] (.buildSlice 31 1 [V.nils] [(0, 1, (.tmp 60))]) <|
 .op (some 62) .one [55, 61] (.append 31 1 24 (.tmp 55) (.tmp 61)) <|
 .op (some 8) .any [62] (.mov (.tmp 62)) <|
 .nil))))
 (.ops (.op (some 63) .any [51] (.bin .add .none (.tmp 51) (.con (V.int .i64 (Int.ofNat 1)))) <|
 .op (some 51) .any [63] (.mov (.tmp 63)) <|
 .nil)))))
def C51_5 : XC := (.cond (.tmp 96) (.seq (.keep [(0, .ptr), (5, .ptr), (7, .ptr)] [] [] (.gdraw G51_2 H51_2 [(6, .any)]))
 .ret)
 .skip)
def A51 : XFn := ⟨112, [.ptr, (.int .i64), (.agg [(.int .i64), (.int .i64), .any, .any, (.int .i64), .any])], [(.tmp 6)], (C51_0 C51_1 (C51_2 C51_3 C51_4 C51_5))⟩
def G52_0 : List AOper := [⟨(some 141), .faddr 3 (.tmp 11), none⟩, ⟨(some 142), .load none (.tmp 141), none⟩, ⟨(some 143), .mov (.tmp 0), none⟩, ⟨(some 144), .faddr 12 (.tmp 9), none⟩, ⟨(some 145), .load none (.tmp 144), none⟩, ⟨(some 146), .mov (.tmp 14), none⟩, ⟨(some 147), .mov (.tmp 3), none⟩, ⟨(some 148), .bin .add .none (.tmp 147) (.con (V.int .i64 (Int.ofNat 1))), none⟩, ⟨(some 149), .call 52 [(.tmp 143), (.tmp 145), (.tmp 146), (.tmp 148)], none⟩, ⟨(some 150), .buildSlice 35 1 [(V.int .i64 (Int.ofNat 0)), (V.int .i64 (Int.ofNat 0)), V.nils, V.nils, (V.int .i64 (Int.ofNat 0)), V.nils] [(0, 6, (.tmp 149))], none⟩, ⟨(some 151), .append 35 6 96 (.tmp 142) (.tmp 150), none⟩, ⟨(some 152), .faddr 3 (.tmp 11), none⟩, ⟨none, .store 1 (.tmp 152) (.tmp 151), none⟩]
def H52_0 : List DP := [⟨0, [11]⟩, ⟨1, [141]⟩, ⟨0, [0]⟩, ⟨0, [9]⟩, ⟨8, [144]⟩, ⟨0, [14]⟩, ⟨0, [3]⟩, ⟨64, [147]⟩, ⟨252, [143, 145, 146, 148]⟩, ⟨508, [149]⟩, ⟨1023, [142, 150]⟩, ⟨2047, [11]⟩, ⟨4095, [152, 151]⟩]
def G52_1 : List AOper := [⟨(some 157), .mov (.tmp 0), none⟩, ⟨(some 158), .load (some 13) (.tmp 9), none⟩, ⟨(some 159), .mov (.tmp 0), none⟩, ⟨(some 160), .nilck (.tmp 159), none⟩, ⟨(some 161), .faddr 0 (.tmp 160), none⟩, ⟨(some 162), .mov (.tmp 10), none⟩, ⟨(some 163), .call 98 [(.tmp 161), (.tmp 162)], none⟩, ⟨(some 164), .mov (.tmp 3), none⟩, ⟨(some 165), .call 99 [(.tmp 157), (.tmp 158), (.tmp 163), (.tmp 164)], none⟩, ⟨none, .store 6 (.tmp 8) (.tmp 165), none⟩]
def H52_1 : List DP := [⟨0, [0]⟩, ⟨0, [9]⟩, ⟨0, [0]⟩, ⟨4, [159]⟩, ⟨12, [160]⟩, ⟨0, [10]⟩, ⟨60, [161, 162]⟩, ⟨0, [3]⟩, ⟨255, [157, 158, 163, 164]⟩, ⟨511, [8, 165]⟩]
def C52_0 (cc1 : XC) : XC := (.seq (.ops (.op (some 8) .any [] (.alloc 35 [(V.int .i64 (Int.ofNat 0)), (V.int .i64 (Int.ofNat 0)), V.nils, V.nils, (V.int .i64 (Int.ofNat 0)), V.nils]) <|
 .nil))
 (.seq (.seq (.ops (.op (some 15) .any [1] (.mov (.tmp 1)) <|
 .op (some 16) .any [15] (.bin .lss .none (.tmp 15) (.con (V.int .i64 (Int.ofNat 0)))) <|
 .op (some 17) .any [16] (.mov (.tmp 16)) <|
 .grp 17 false (.op (some 18) .any [1, 17] (.mov (.tmp 1)) <|
 .op (some 19) .any [0, 17] (.mov (.tmp 0)) <|
 .op (some 20) .any [19, 17] (.nilck (.tmp 19)) <|
 .op (some 21) .any [20, 17] (.faddr 1 (.tmp 20)) <|
 .op (some 22) .any [21, 17] (.faddr 3 (.tmp 21)) <|
 .op (some 23) .any [22, 17] (.load none (.tmp 22)) <|
 .op (some 24) .any [23, 17] (.len false (.tmp 23)) <|
 .op (some 25) .any [18, 24, 17] (.bin .geq .none (.tmp 18) (.tmp 24)) <|
 .nil) 26 [17, 25] (.tmp 17) (.con (V.bool true)) (.tmp 25) <|
 .op (some 27) .any [26] (.mov (.tmp 26)) <|
 .grp 27 false (.op (some 28) .any [3, 27] (.mov (.tmp 3)) <|
 .op (some 29) .any [28, 27] (.bin .gtr .none (.tmp 28) (.con (V.int .i64 (Int.ofNat 17)))) <|
 .nil) 30 [27, 29] (.tmp 27) (.con (V.bool true)) (.tmp 29) <|
 .nil))
 (.cond (.tmp 30) (.ops (.op (some 31) .any [0] (.mov (.tmp 0)) <|
 .op (some 32) .any [31] (.nilck (.tmp 31)) <|
 .op (some 33) .any [32] (.faddr 0 (.tmp 32)) <|
 .op (some 34) .any [33] (.faddr 0 (.tmp 33)) <|
 .op none .any [34] (.store 1 (.tmp 34) (.con (V.bool true))) <|
 .nil))
 .skip))
 (.keep [(0, .ptr), (1, (.int .i64)), (2, .any), (3, (.int .i64)), (8, .ptr)] [] [] cc1)))
def C52_1 (cc2 : XC) (cc3 : XC) : XC := (.seq (.seq (.ops (.op (some 35) .any [0] (.mov (.tmp 0)) <|
 .op (some 36) .any [35] (.nilck (.tmp 35)) <|
 .op (some 37) .any [36] (.faddr 0 (.tmp 36)) <|
 .op (some 38) .any [37] (.faddr 0 (.tmp 37)) <|
 .op (some 39) .bool [38] (.load none (.tmp 38)) <|
 .nil))
 (.cond (.tmp 39) (.seq (.ops (.op (some 40) (.agg [(.int .i64), (.int .i64), .any, .any, (.int .i64), .any]) [] (.build [(V.int .i64 (Int.ofNat 0)), (V.int .i64 (Int.ofNat 0)), V.nils, V.nils, (V.int .i64 (Int.ofNat 0)), V.nils] []) <|
 .op none (.agg [(.int .i64), (.int .i64), .any, .any, (.int .i64), .any]) [8, 40] (.store 6 (.tmp 8) (.tmp 40)) <|
 .nil))
 .ret)
 .skip))
 (.seq (.ops (.op (some 41) .any [0] (.mov (.tmp 0)) <|
 .op (some 42) .any [41] (.nilck (.tmp 41)) <|
 .op (some 43) .any [42] (.faddr 1 (.tmp 42)) <|
 .op (some 44) .any [43] (.faddr 3 (.tmp 43)) <|
 .op (some 45) .any [44] (.load none (.tmp 44)) <|
 .op (some 46) .any [1] (.mov (.tmp 1)) <|
 .op (some 47) .any [45, 46] (.iaddrS 13 (.tmp 45) (.tmp 46)) <|
 .op (some 48) (.agg [(.int .i64), .any, .bool, .bool, .bool, .bool, (.int .i64), (.int .i64), .any, .any, (.int .i64), .bool, (.int .i64)]) [47] (.load (some 13) (.tmp 47)) <|
 .op (some 9) .any [] (.alloc 165 [(V.int .i64 (Int.ofNat 0)), V.nils, (V.bool false), (V.bool false), (V.bool false), (V.bool false), (V.int .i64 (Int.ofNat 0)), (V.int .i64 (Int.ofNat 0)), V.nils, V.nils, (V.int .i64 (Int.ofNat 0)), (V.bool false), (V.int .i64 (Int.ofNat 0))]) <|
 .op none (.agg [(.int .i64), .any, .bool, .bool, .bool, .bool, (.int .i64), (.int .i64), .any, .any, (.int .i64), .bool, (.int .i64)]) [9, 48] (.store 13 (.tmp 9) (.tmp 48)) <|
 .nil))
 (.seq (.draw (.op (some 49) .any [0] (.mov (.tmp 0)) <|
 .op (some 50) .any [49] (.nilck (.tmp 49)) <|
 .op (some 51) .any [50] (.faddr 0 (.tmp 50)) <|
 .op (some 52) .any [9] (.faddr 1 (.tmp 9)) <|
 .op (some 53) .any [52] (.load none (.tmp 52)) <|
 .op (some 54) .any [2] (.mov (.tmp 2)) <|
 .op (some 55) .one [51, 53, 54] (.call 94 [(.tmp 51), (.tmp 53), (.tmp 54)]) <|
 .op (some 10) .any [55] (.mov (.tmp 55)) <|
 .nil) [0, 1, 3, 0, 8, 0, 63, 127])
 (.seq (.ops (.op (some 56) .any [9] (.faddr 0 (.tmp 9)) <|
 .op (some 57) (.int .i64) [56] (.load none (.tmp 56)) <|
 .op (some 58) (.agg [(.int .i64), (.int .i64), .any, .any, (.int .i64), .any]) [57] (.build [(V.int .i64 (Int.ofNat 0)), (V.int .i64 (Int.ofNat 0)), V.nils, V.nils, (V.int .i64 (Int.ofNat 0)), V.nils] [(0, 1, (.tmp 57))]) <|
 .op (some 11) .any [] (.alloc 35 [(V.int .i64 (Int.ofNat 0)), (V.int .i64 (Int.ofNat 0)), V.nils, V.nils, (V.int .i64 (Int.ofNat 0)), V.nils]) <|
 .op none (.agg [(.int .i64), (.int .i64), .any, .any, (.int .i64), .any]) [11, 58] (.store 6 (.tmp 11) (.tmp 58)) <|
 .nil))
 (.seq (.seq (.ops (.op (some 59) .any [9] (.faddr 0 (.tmp 9)) <|
 .op (some 60) (.int .i64) [59] (.load none (.tmp 59)) <|
 .nil))
 (.block 0 (.seq (.ops (.op (some 62) .any [60] (.bin .eql .none (.tmp 60) (.con (V.int .i64 (Int.ofNat 1)))) <|
 .op (some 61) .any [62] (.mov (.tmp 62)) <|
 .nil))
 (.cond (.tmp 61) (.seq (.ops (.op (some 63) .any [10] (.mov (.tmp 10)) <|
 .op (some 64) .any [63] (.len false (.tmp 63)) <|
 .op (some 65) .any [64] (.bin .gtr .none (.tmp 64) (.con (V.int .i64 (Int.ofNat 0)))) <|
 .op (some 66) .any [65] (.mov (.tmp 65)) <|
 .grp 66 true (.op (some 67) .any [10, 66] (.mov (.tmp 10)) <|
 .op (some 68) .any [67, 66] (.iaddrS 1 (.tmp 67) (.con (V.int .i64 (Int.ofNat 0)))) <|
 .op (some 69) (.int .u8) [68, 66] (.load none (.tmp 68)) <|
 .op (some 70) .any [69, 66] (.bin .neq .none (.tmp 69) (.con (V.int .u8 (Int.ofNat 0)))) <|
 .nil) 71 [66, 70] (.tmp 66) (.tmp 70) (.con (V.bool false)) <|
 .nil))
 (.cond (.tmp 71) (.ops (.op (some 72) .any [11] (.faddr 1 (.tmp 11)) <|
 .op none .any [72] (.store 1 (.tmp 72) (.con (V.int .i64 (Int.ofNat 1)))) <|
 .nil))
 .skip))
 (.seq (.ops (.op (some 74) .any [60] (.bin .eql .none (.tmp 60) (.con (V.int .i64 (Int.ofNat 2)))) <|
 .op (some 73) .any [74] (.mov (.tmp 74)) <|
 .nil))
 (.cond (.tmp 73) (.ops (.op (some 76) .any [10] (.mov (.tmp 10)) <|
 .op (some 77) (.tup [(.int .i64), (.int .i64)]) [76] (.call 95 [(.tmp 76)]) <|
 .op (some 75) .any [77] (.mov (.tmp 77)) <|
 .op (some 78) .any [75] (.extract 0 (.tmp 75)) <|
 .op (some 79) .any [75] (.extract 1 (.tmp 75)) <|
 .op (some 80) .any [11] (.faddr 1 (.tmp 11)) <|
 .op none .any [80, 78] (.store 1 (.tmp 80) (.tmp 78)) <|
 .nil))
 (.seq (.ops (.op (some 82) .any [60] (.bin .eql .none (.tmp 60) (.con (V.int .i64 (Int.ofNat 3)))) <|
 .op (some 81) .any [82] (.mov (.tmp 82)) <|
 .nil))
 (.cond (.tmp 81) (.seq (.ops (.op (some 84) .any [10] (.mov (.tmp 10)) <|
 .op (some 85) (.tup [(.int .i64), (.int .i64)]) [84] (.call 95 [(.tmp 84)]) <|
 .op (some 83) .any [85] (.mov (.tmp 85)) <|
 .op (some 86) .any [83] (.extract 0 (.tmp 83)) <|
 .op (some 87) .any [83] (.extract 1 (.tmp 83)) <|
 .op (some 88) .any [11] (.faddr 1 (.tmp 11)) <|
 .op none .any [88, 86] (.store 1 (.tmp 88) (.tmp 86)) <|
 .nil))
 (.seq (.ops (.op (some 89) (.agg [(.int .i64), .any, .bool, .bool, .bool, .bool, (.int .i64), (.int .i64), .any, .any, (.int .i64), .bool, (.int .i64)]) [9] (.load (some 13) (.tmp 9)) <|
 .op (some 90) .any [11] (.faddr 1 (.tmp 11)) <|
 .op (some 91) (.int .i64) [90] (.load none (.tmp 90)) <|
 .op (some 92) (.int .i64) [89, 91] (.call 67 [(.tmp 89), (.tmp 91)]) <|
 .op (some 93) .any [92] (.bin .lss .none (.tmp 92) (.con (V.int .i64 (Int.ofNat 0)))) <|
 .nil))
 (.cond (.tmp 93) (.ops (.op (some 94) .any [11] (.faddr 0 (.tmp 11)) <|
 .op none .any [94] (.store 1 (.tmp 94) (.con (V.int .i64 (Int.ofNat 12)))) <|
 .op (some 95) .any [11] (.faddr 4 (.tmp 11)) <|
 .op none .any [95] (.store 1 (.tmp 95) (.con (V.int .i64 (Int.ofNat 1)))) <|
 .nil))
 .skip)))
 (.seq (.seq (.ops (.op (some 97) .any [60] (.bin .eql .none (.tmp 60) (.con (V.int .i64 (Int.ofNat 5)))) <|
 .op (some 96) .any [97] (.mov (.tmp 97)) <|
 .nil))
 (.cond (.tmp 96) .skip
 (.ops (.op (some 98) .any [60] (.bin .eql .none (.tmp 60) (.con (V.int .i64 (Int.ofNat 6)))) <|
 .op (some 96) .any [98] (.mov (.tmp 98)) <|
 .nil))))
 (.keep [(0, .ptr), (3, (.int .i64)), (8, .ptr), (9, .ptr), (10, .any), (11, .ptr), (60, (.int .i64)), (96, .bool)] [] [] cc3))))))))))
 (.keep [(8, .ptr), (11, .ptr)] [] [] cc2))))))
def C52_2 : XC := (.seq (.ops (.op (some 166) (.agg [(.int .i64), (.int .i64), .any, .any, (.int .i64), .any]) [11] (.load (some 6) (.tmp 11)) <|
 .op none (.agg [(.int .i64), (.int .i64), .any, .any, (.int .i64), .any]) [8, 166] (.store 6 (.tmp 8) (.tmp 166)) <|
 .nil))
 .ret)
def C52_3 (cc4 : XC) (cc5 : XC) : XC := (.cond (.tmp 96) (.ops (.op (some 99) .any [10] (.mov (.tmp 10)) <|
 .op (some 100) .one [99] (.call 96 [(.tmp 99)]) <|
 .op (some 101) .any [11] (.faddr 2 (.tmp 11)) <|
 .op none .any [101, 100] (.store 1 (.tmp 101) (.tmp 100)) <|
 .nil))
 (.seq (.ops (.op (some 103) .any [60] (.bin .eql .none (.tmp 60) (.con (V.int .i64 (Int.ofNat 9)))) <|
 .op (some 102) .any [103] (.mov (.tmp 103)) <|
 .nil))
 (.cond (.tmp 102) (.seq (.ops (.op (some 104) .any [0] (.mov (.tmp 0)) <|
 .op (some 105) (.agg [(.int .i64), .any, .bool, .bool, .bool, .bool, (.int .i64), (.int .i64), .any, .any, (.int .i64), .bool, (.int .i64)]) [9] (.load (some 13) (.tmp 9)) <|
 .op (some 106) .any [10] (.mov (.tmp 10)) <|
 .op (some 107) .any [3] (.mov (.tmp 3)) <|
 .op (some 108) (.agg [(.int .i64), (.int .i64), .any, .any, (.int .i64), .any]) [104, 105, 106, 107] (.call 97 [(.tmp 104), (.tmp 105), (.tmp 106), (.tmp 107)]) <|
 .op none (.agg [(.int .i64), (.int .i64), .any, .any, (.int .i64), .any]) [8, 108] (.store 6 (.tmp 8) (.tmp 108)) <|
 .nil))
 .ret)
 (.seq (.ops (.op (some 110) .any [60] (.bin .eql .none (.tmp 60) (.con (V.int .i64 (Int.ofNat 10)))) <|
 .op (some 109) .any [110] (.mov (.tmp 110)) <|
 .nil))
 (.cond (.tmp 109) (.seq (.ops (.op (some 111) .any [0] (.mov (.tmp 0)) <|
 .op (some 112) .any [111] (.nilck (.tmp 111)) <|
 .op (some 113) .any [112] (.faddr 0 (.tmp 112)) <|
 .op (some 114) .any [10] (.mov (.tmp 10)) <|
 .op (some 115) .one [113, 114] (.call 98 [(.tmp 113), (.tmp 114)]) <|
 .op (some 12) .any [115] (.mov (.tmp 115)) <|
 .nil))
 (.seq (.ops (.op (some 116) .any [0] (.mov (.tmp 0)) <|
 .op (some 117) .any [0] (.mov (.tmp 0)) <|
 .op (some 118) .any [117] (.nilck (.tmp 117)) <|
 .op (some 119) .any [118] (.faddr 0 (.tmp 118)) <|
 .op (some 120) .any [119] (.faddr 0 (.tmp 119)) <|
 .op (some 121) .bool [120] (.load none (.tmp 120)) <|
 .op (some 122) .any [121] (.mov (.tmp 121)) <|
 .grp 122 false (.op (some 123) .any [12, 122] (.mov (.tmp 12)) <|
 .op (some 124) .any [123, 122] (.len false (.tmp 123)) <|
 .op (some 125) .any [124, 122] (.bin .gtr .none (.tmp 124) (.con (V.int .i64 (Int.ofNat 5000)))) <|
 .nil) 126 [122, 125] (.tmp 122) (.con (V.bool true)) (.tmp 125) <|
 .op (some 127) .any [116] (.nilck (.tmp 116)) <|
 .op (some 128) .any [127] (.faddr 0 (.tmp 127)) <|
 .op (some 129) .any [128] (.faddr 0 (.tmp 128)) <|
 .op none .any [129, 126] (.store 1 (.tmp 129) (.tmp 126)) <|
 .nil))
 (.seq (.ops (.op (some 130) .any [12] (.mov (.tmp 12)) <|
 .op (some 131) .any [130] (.len false (.tmp 130)) <|
 .op (some 132) .any [] (.mov (.con (V.int .i64 (Int.ofNat 0)))) <|
 .nil))
 (.block 1 (.loop [(0, .ptr), (3, (.int .i64)), (8, .ptr), (9, .ptr), (11, .ptr), (130, .any), (131, (.int .i64)), (132, (.int .i64))] [] [] cc4)))))
 (.seq (.seq (.ops (.op (some 155) .any [60] (.bin .eql .none (.tmp 60) (.con (V.int .i64 (Int.ofNat 7)))) <|
 .op (some 154) .any [155] (.mov (.tmp 155)) <|
 .nil))
 (.cond (.tmp 154) .skip
 (.ops (.op (some 156) .any [60] (.bin .eql .none (.tmp 60) (.con (V.int .i64 (Int.ofNat 8)))) <|
 .op (some 154) .any [156] (.mov (.tmp 156)) <|
 .nil))))
 (.keep [(0, .ptr), (3, (.int .i64)), (8, .ptr), (9, .ptr), (10, .any), (11, .ptr), (154, .bool)] [] [] cc5)))))))
def C52_4 : XC := (.seq (.ops (.op (some 133) .any [132, 131] (.bin .lss .none (.tmp 132) (.tmp 131)) <|
 .nil))
 (.seq (.cond (.tmp 133) .skip
 (.exit 1))
 (.seq (.block 2 (.seq (.ops (.op (some 134) .any [130, 132] (.iaddrS 1 (.tmp 130) (.tmp 132)) <|
 .op (some 135) .any [134] (.load none (.tmp 134)) <|
 .op (some 14) .any [135] (.mov (.tmp 135)) <|
 .nil))
 (.seq (.seq (.ops (.op (some 136) .any [0] (.mov (.tmp 0)) <|
 .op (some 137) .any [136] (.nilck (.tmp 136)) <|
 .op (some 138) .any [137] (.faddr 0 (.tmp 137)) <|
 .op (some 139) .any [138] (.faddr 0 (.tmp 138)) <|
 .op (some 140) .bool [139] (.load none (.tmp 139)) <|
 .nil))
 (.cond (.tmp 140) (.exit 1)
 .skip))
 (.keep [(0, .ptr), (3, (.int .i64)), (8, .ptr), (9, .ptr), (11, .ptr), (14, .any), (130, .any), (131, (.int .i64)), (132, (.int .i64))] [] [] (.gdraw G52_0 H52_0 [(0, .ptr), (3, (.int .i64)), (8, .ptr), (9, .ptr), (11, .ptr), (130, .any), (131, (.int .i64)), (132, (.int .i64))])))))
 (.ops (.op (some 153) .any [132] (.bin .add .none (.tmp 132) (.con (V.int .i64 (Int.ofNat 1)))) <|
 .op (some 132) .any [153] (.mov (.tmp 153)) <|
 .nil)))))
def C52_5 : XC := (.cond (.tmp 154) (.seq (.keep [(0, .ptr), (3, (.int .i64)), (8, .ptr), (9, .ptr), (10, .any)] [] [] (.gdraw G52_1 H52_1 [(8, .ptr)]))
 .ret)
 .skip)
def A52 : XFn := ⟨167, [.ptr, (.int .i64), .any, (.int .i64)], [(.cell 8 (some 6))], (C52_0 (C52_1 C52_2 (C52_3 C52_4 C52_5)))⟩
def C53_0 : XC := (.seq (.ops (.op (some 4) .any [] (.mov (.con (V.bool false))) <|
 .nil))
 (.seq (.ops (.op (some 5) .any [0] (.mov (.tmp 0)) <|
 .op (some 6) .any [5] (.conv .toStr (.tmp 5)) <|
 .op (some 7) .any [1] (.mov (.tmp 1)) <|
 .op (some 8) .any [7] (.conv .toStr (.tmp 7)) <|
 .op (some 9) .any [6, 8] (.bin .eql .none (.tmp 6) (.tmp 8)) <|
 .op (some 4) .any [9] (.mov (.tmp 9)) <|
 .nil))
 .ret))
def A53 : XFn := ⟨10, [.any, .any], [(.tmp 4)], C53_0⟩
def C54_0 : XC := (.seq (.ops (.op (some 1) .any [0] (.box 27 (.tmp 0)) <|
 .op (some 2) .any [] (.mov (.con (V.bool false))) <|
 .nil))
 (.seq (.ops (.op (some 3) .any [1] (.faddr 3 (.tmp 1)) <|
 .op (some 4) .any [3] (.load none (.tmp 3)) <|
 .op (some 5) .bool [4] (.call 100 [(.tmp 4), (.con (V.fn 101 [] []))]) <|
 .op (some 6) .any [5] (.un .not (.tmp 5)) <|
 .op (some 2) .any [6] (.mov (.tmp 6)) <|
 .nil))
 .ret))
def A54 : XFn := ⟨7, [(.agg [.str, .any, .any, .any])], [(.tmp 2)], C54_0⟩
def G55_0 : List AOper := [⟨(some 40), .load none (.tmp 3), none⟩, ⟨(some 41), .nilck (.tmp 40), none⟩, ⟨(some 42), .faddr 0 (.tmp 41), none⟩, ⟨(some 43), .load none (.tmp 42), none⟩, ⟨(some 44), .faddr 2 (.tmp 5), none⟩, ⟨(some 45), .load none (.tmp 44), none⟩, ⟨(some 46), .buildSlice 31 1 [V.nils] [(0, 1, (.tmp 45))], none⟩, ⟨(some 47), .call 105 [(.tmp 43), (.tmp 46)], none⟩]
def H55_0 : List DP := [⟨0, [3]⟩, ⟨1, [40]⟩, ⟨3, [41]⟩, ⟨7, [42]⟩, ⟨0, [5]⟩, ⟨16, [44]⟩, ⟨48, [45]⟩, ⟨127, [43, 46]⟩]
def C55_0 (cc1 : XC) : XC := (.seq (.ops (.op (some 3) .any [0] (.box 131 (.tmp 0)) <|
 .op (some 5) .any [2] (.box 35 (.tmp 2)) <|
 .nil))
 (.seq (.ops (.op (some 7) .any [3] (.load none (.tmp 3)) <|
 .op (some 8) .any [7] (.nilck (.tmp 7)) <|
 .op (some 9) .any [8] (.faddr 1 (.tmp 8)) <|
 .op (some 10) .any [9] (.faddr 3 (.tmp 9)) <|
 .op (some 11) .any [10] (.load none (.tmp 10)) <|
 .op (some 12) .any [1] (.mov (.tmp 1)) <|
 .op (some 13) .any [11, 12] (.iaddrS 13 (.tmp 11) (.tmp 12)) <|
 .op (some 14) (.agg [(.int .i64), .any, .bool, .bool, .bool, .bool, (.int .i64), (.int .i64), .any, .any, (.int .i64), .bool, (.int .i64)]) [13] (.load (some 13) (.tmp 13)) <|
 .op (some 6) .any [] (.alloc 165 [(V.int .i64 (Int.ofNat 0)), V.nils, (V.bool false), (V.bool false), (V.bool false), (V.bool false), (V.int .i64 (Int.ofNat 0)), (V.int .i64 (Int.ofNat 0)), V.nils, V.nils, (V.int .i64 (Int.ofNat 0)), (V.bool false), (V.int .i64 (Int.ofNat 0))]) <|
 .op none (.agg [(.int .i64), .any, .bool, .bool, .bool, .bool, (.int .i64), (.int .i64), .any, .any, (.int .i64), .bool, (.int .i64)]) [6, 14] (.store 13 (.tmp 6) (.tmp 14)) <|
 .nil))
 (.seq (.ops (.op (some 15) .any [6] (.faddr 0 (.tmp 6)) <|
 .op (some 16) (.int .i64) [15] (.load none (.tmp 15)) <|
 .nil))
 (.block 0 (.seq (.ops (.op (some 18) .any [16] (.bin .eql .none (.tmp 16) (.con (V.int .i64 (Int.ofNat 1)))) <|
 .op (some 17) .any [18] (.mov (.tmp 18)) <|
 .nil))
 (.cond (.tmp 17) (.ops (.op (some 19) .any [3] (.load none (.tmp 3)) <|
 .op (some 20) .any [5] (.faddr 1 (.tmp 5)) <|
 .op (some 21) (.int .i64) [20] (.load none (.tmp 20)) <|
 .op (some 22) .any [21] (.bin .eql .none (.tmp 21) (.con (V.int .i64 (Int.ofNat 1)))) <|
 .op (some 23) (.tup []) [19, 22] (.call 102 [(.tmp 19), (.tmp 22)]) <|
 .nil))
 (.seq (.ops (.op (some 25) .any [16] (.bin .eql .none (.tmp 16) (.con (V.int .i64 (Int.ofNat 2)))) <|
 .op (some 24) .any [25] (.mov (.tmp 25)) <|
 .nil))
 (.cond (.tmp 24) (.ops (.op (some 26) .any [3] (.load none (.tmp 3)) <|
 .op (some 27) .any [6] (.faddr 2 (.tmp 6)) <|
 .op (some 28) (.agg [.bool, .bool, .bool, .bool, (.int .i64), (.int .i64)]) [27] (.load (some 6) (.tmp 27)) <|
 .op (some 29) .any [5] (.faddr 1 (.tmp 5)) <|
 .op (some 30) (.int .i64) [29] (.load none (.tmp 29)) <|
 .op (some 31) (.tup []) [26, 28, 30] (.call 103 [(.tmp 26), (.tmp 28), (.tmp 30)]) <|
 .nil))
 (.seq (.ops (.op (some 33) .any [16] (.bin .eql .none (.tmp 16) (.con (V.int .i64 (Int.ofNat 3)))) <|
 .op (some 32) .any [33] (.mov (.tmp 33)) <|
 .nil))
 (.cond (.tmp 32) (.ops (.op (some 34) .any [3] (.load none (.tmp 3)) <|
 .op (some 35) .any [1] (.mov (.tmp 1)) <|
 .op (some 36) (.agg [(.int .i64), (.int .i64), .any, .any, (.int .i64), .any]) [5] (.load (some 6) (.tmp 5)) <|
 .op (some 37) (.tup []) [34, 35, 36] (.call 104 [(.tmp 34), (.tmp 35), (.tmp 36)]) <|
 .nil))
 (.seq (.ops (.op (some 39) .any [16] (.bin .eql .none (.tmp 16) (.con (V.int .i64 (Int.ofNat 6)))) <|
 .op (some 38) .any [39] (.mov (.tmp 39)) <|
 .nil))
 (.cond (.tmp 38) (.keep [(3, .ptr), (5, .ptr)] [] [] (.gdraw G55_0 H55_0 []))
 (.seq (.ops (.op (some 49) .any [16] (.bin .eql .none (.tmp 16) (.con (V.int .i64 (Int.ofNat 5)))) <|
 .op (some 48) .any [49] (.mov (.tmp 49)) <|
 .nil))
 (.cond (.tmp 48) (.ops (.op (some 50) .any [3] (.load none (.tmp 3)) <|
 .op (some 51) .any [6] (.faddr 2 (.tmp 6)) <|
 .op (some 52) (.agg [.bool, .bool, .bool, .bool, (.int .i64), (.int .i64)]) [51] (.load (some 6) (.tmp 51)) <|
 .op (some 53) .any [5] (.faddr 2 (.tmp 5)) <|
 .op (some 54) .any [53] (.load none (.tmp 53)) <|
 .op (some 55) .any [54] (.len false (.tmp 54)) <|
 .op (some 56) .any [3, 5] (.mkfn 107 [] [(.tmp 3), (.tmp 5)]) <|
 .op (some 57) .any [3, 5] (.mkfn 109 [] [(.tmp 3), (.tmp 5)]) <|
 .op (some 58) (.tup []) [50, 52, 55, 56, 57] (.call 106 [(.tmp 50), (.tmp 52), (.tmp 55), (.tmp 56), (.tmp 57)]) <|
 .nil))
 (.seq (.ops (.op (some 60) .any [16] (.bin .eql .none (.tmp 16) (.con (V.int .i64 (Int.ofNat 10)))) <|
 .op (some 59) .any [60] (.mov (.tmp 60)) <|
 .nil))
 (.cond (.tmp 59) (.ops (.op (some 61) .any [3] (.load none (.tmp 3)) <|
 .op (some 62) .any [6] (.faddr 2 (.tmp 6)) <|
 .op (some 63) (.agg [.bool, .bool, .bool, .bool, (.int .i64), (.int .i64)]) [62] (.load (some 6) (.tmp 62)) <|
 .op (some 64) .any [5] (.faddr 3 (.tmp 5)) <|
 .op (some 65) .any [64] (.load none (.tmp 64)) <|
 .op (some 66) .any [65] (.len false (.tmp 65)) <|
 .op (some 67) .any [5, 3, 6] (.mkfn 110 [] [(.tmp 5), (.tmp 3), (.tmp 6)]) <|
 .op (some 68) .any [3, 5, 6] (.mkfn 111 [] [(.tmp 3), (.tmp 5), (.tmp 6)]) <|
 .op (some 69) (.tup []) [61, 63, 66, 67, 68] (.call 106 [(.tmp 61), (.tmp 63), (.tmp 66), (.tmp 67), (.tmp 68)]) <|
 .nil))
 (.seq (.ops (.op (some 71) .any [16] (.bin .eql .none (.tmp 16) (.con (V.int .i64 (Int.ofNat 9)))) <|
 .op (some 70) .any [71] (.mov (.tmp 71)) <|
 .nil))
 (.cond (.tmp 70) (.ops (.op (some 72) .any [3] (.load none (.tmp 3)) <|
 .op (some 73) .any [1] (.mov (.tmp 1)) <|
 .op (some 74) (.agg [(.int .i64), (.int .i64), .any, .any, (.int .i64), .any]) [5] (.load (some 6) (.tmp 5)) <|
 .op (some 75) (.tup []) [72, 73, 74] (.call 114 [(.tmp 72), (.tmp 73), (.tmp 74)]) <|
 .nil))
 (.seq (.seq (.ops (.op (some 77) .any [16] (.bin .eql .none (.tmp 16) (.con (V.int .i64 (Int.ofNat 7)))) <|
 .op (some 76) .any [77] (.mov (.tmp 77)) <|
 .nil))
 (.cond (.tmp 76) .skip
 (.ops (.op (some 78) .any [16] (.bin .eql .none (.tmp 16) (.con (V.int .i64 (Int.ofNat 8)))) <|
 .op (some 76) .any [78] (.mov (.tmp 78)) <|
 .nil))))
 (.keep [(1, (.int .i64)), (3, .ptr), (5, .ptr), (76, .bool)] [] [] cc1))))))))))))))))))))
def C55_1 : XC := (.cond (.tmp 76) (.ops (.op (some 79) .any [3] (.load none (.tmp 3)) <|
 .op (some 80) .any [1] (.mov (.tmp 1)) <|
 .op (some 81) (.agg [(.int .i64), (.int .i64), .any, .any, (.int .i64), .any]) [5] (.load (some 6) (.tmp 5)) <|
 .op (some 82) (.tup []) [79, 80, 81] (.call 115 [(.tmp 79), (.tmp 80), (.tmp 81)]) <|
 .nil))
 .skip)
def A55 : XFn := ⟨83, [.any, (.int .i64), (.agg [(.int .i64), (.int .i64), .any, .any, (.int .i64), .any])], [], (C55_0 C55_1)⟩
def C56_0 : XC := (.seq (.ops (.op (some 2) .any [] (.mov (.con V.nils)) <|
 .nil))
 (.seq (.seq (.ops (.op (some 3) .any [0] (.mov (.tmp 0)) <|
 .op (some 4) .any [3] (.bin .eql .ptr (.tmp 3) (.con V.nilp)) <|
 .nil))
 (.cond (.tmp 4) (.seq (.ops (.op (some 2) .any [] (.mov (.con V.nils)) <|
 .nil))
 .ret)
 .skip))
 (.seq (.seq (.ops (.op (some 5) .any [0] (.mov (.tmp 0)) <|
 .op (some 6) (.int .i64) [5] (.call 116 [(.tmp 5)]) <|
 .op (some 7) .any [6] (.bin .eql .none (.tmp 6) (.con (V.int .i64 (Int.ofNat 0)))) <|
 .nil))
 (.cond (.tmp 7) (.seq (.ops (.op (some 8) .any [] (.buildSlice 5 1 [(V.int .u8 (Int.ofNat 0))] [(0, 1, (.con (V.int .u8 (Int.ofNat 0))))]) <|
 .op (some 2) .any [8] (.mov (.tmp 8)) <|
 .nil))
 .ret)
 .skip))
 (.seq (.ops (.op (some 9) .any [0] (.mov (.tmp 0)) <|
 .op (some 10) .any [9] (.nilck (.tmp 9)) <|
 .op (some 11) .any [10] (.faddr 0 (.tmp 10)) <|
 .op (some 12) .one [11] (.call 117 [(.tmp 11)]) <|
 .op (some 2) .any [12] (.mov (.tmp 12)) <|
 .nil))
 .ret))))
def A56 : XFn := ⟨13, [.any], [(.tmp 2)], C56_0⟩
def C57_0 : XC := (.seq (.ops (.op (some 1) .any [0] (.box 27 (.tmp 0)) <|
 .op (some 2) .any [] (.mov (.con (V.bool false))) <|
 .nil))
 (.seq (.ops (.op (some 3) (.agg [.str, .any, .any, .any]) [1] (.load (some 4) (.tmp 1)) <|
 .op (some 4) .bool [3] (.call 54 [(.tmp 3)]) <|
 .op (some 5) .any [4] (.mov (.tmp 4)) <|
 .grp 5 true (.op (some 6) .any [1, 5] (.faddr 3 (.tmp 1)) <|
 .op (some 7) .any [6, 5] (.load none (.tmp 6)) <|
 .op (some 8) .bool [7, 5] (.call 100 [(.tmp 7), (.con (V.fn 118 [] []))]) <|
 .op (some 9) .any [8, 5] (.un .not (.tmp 8)) <|
 .nil) 10 [5, 9] (.tmp 5) (.tmp 9) (.con (V.bool false)) <|
 .op (some 2) .any [10] (.mov (.tmp 10)) <|
 .nil))
 .ret))
def A57 : XFn := ⟨11, [(.agg [.str, .any, .any, .any])], [(.tmp 2)], C57_0⟩
def C58_0 : XC := (.seq (.ops (.op (some 2) .any [] (.mov (.con V.nilp)) <|
 .nil))
 (.seq (.ops (.op (some 3) .any [0] (.mov (.tmp 0)) <|
 .op (some 4) .one [3] (.call 119 [(.tmp 3)]) <|
 .op (some 5) .any [0] (.mov (.tmp 0)) <|
 .op (some 6) .any [5] (.len false (.tmp 5)) <|
 .op (some 7) .any [6] (.bin .eql .none (.tmp 6) (.con (V.int .i64 (Int.ofNat 1)))) <|
 .op (some 8) .any [7] (.mov (.tmp 7)) <|
 .grp 8 true (.op (some 9) .any [0, 8] (.mov (.tmp 0)) <|
 .op (some 10) .any [9, 8] (.iaddrS 1 (.tmp 9) (.con (V.int .i64 (Int.ofNat 0)))) <|
 .op (some 11) (.int .u8) [10, 8] (.load none (.tmp 10)) <|
 .op (some 12) .any [11, 8] (.bin .eql .none (.tmp 11) (.con (V.int .u8 (Int.ofNat 0)))) <|
 .nil) 13 [8, 12] (.tmp 8) (.tmp 12) (.con (V.bool false)) <|
 .op (some 14) (.agg [.any, (.int .i64), .bool]) [4, 13] (.build [V.nilp, (V.int .i64 (Int.ofNat 0)), (V.bool false)] [(0, 1, (.tmp 4)), (2, 1, (.tmp 13))]) <|
 .op (some 15) .any [14] (.box 212 (.tmp 14)) <|
 .op (some 2) .any [15] (.mov (.tmp 15)) <|
 .nil))
 .ret))
def A58 : XFn := ⟨16, [.any], [(.tmp 2)], C58_0⟩
def G59_0 : List AOper := [⟨(some 9), .load none (.tmp 3), none⟩, ⟨(some 10), .load none (.tmp 3), none⟩, ⟨(some 11), .nilck (.tmp 10), none⟩, ⟨(some 12), .faddr 5 (.tmp 11), none⟩, ⟨(some 13), .load none (.tmp 12), none⟩, ⟨(some 14), .call 121 [(.tmp 13), (.con (V.int .i64 (Int.ofNat 1)))], none⟩, ⟨(some 15), .un .not (.tmp 14), none⟩, ⟨(some 16), .mov (.tmp 15), none⟩, ⟨(some 17), .mov (.tmp 1), (some (16, false))⟩, ⟨(some 18), .bin .lss .none (.tmp 17) (.con (V.int .i64 (Int.ofNat 0))), (some (16, false))⟩, ⟨(some 19), .pick (.tmp 16) (.con (V.bool true)) (.tmp 18), none⟩, ⟨(some 20), .mov (.tmp 19), none⟩, ⟨(some 21), .mov (.tmp 1), (some (20, false))⟩, ⟨(some 22), .load none (.tmp 3), (some (20, false))⟩, ⟨(some 23), .nilck (.tmp 22), (some (20, false))⟩, ⟨(some 24), .faddr 1 (.tmp 23), (some (20, false))⟩, ⟨(some 25), .faddr 3 (.tmp 24), (some (20, false))⟩, ⟨(some 26), .load none (.tmp 25), (some (20, false))⟩, ⟨(some 27), .len false (.tmp 26), (some (20, false))⟩, ⟨(some 28), .bin .geq .none (.tmp 21) (.tmp 27), (some (20, false))⟩, ⟨(some 29), .pick (.tmp 20) (.con (V.bool true)) (.tmp 28), none⟩, ⟨(some 30), .mov (.tmp 29), none⟩, ⟨(some 31), .mov (.tmp 2), (some (30, false))⟩, ⟨(some 32), .bin .gtr .none (.tmp 31) (.con (V.int .i64 (Int.ofNat 17))), (some (30, false))⟩, ⟨(some 33), .pick (.tmp 30) (.con (V.bool true)) (.tmp 32), none⟩, ⟨(some 34), .call 120 [(.tmp 9), (.tmp 33)], none⟩]
def H59_0 : List DP := [⟨0, [3]⟩, ⟨0, [3]⟩, ⟨2, [10]⟩, ⟨6, [11]⟩, ⟨14, [12]⟩, ⟨30, [13]⟩, ⟨62, [14]⟩, ⟨126, [15]⟩, ⟨254, [1, 16]⟩, ⟨510, [17, 16]⟩, ⟨1022, [16, 18]⟩, ⟨2046, [19]⟩, ⟨4094, [1, 20]⟩, ⟨4094, [3, 20]⟩, ⟨12286, [22, 20]⟩, ⟨28670, [23, 20]⟩, ⟨61438, [24, 20]⟩, ⟨126974, [25, 20]⟩, ⟨258046, [26, 20]⟩, ⟨524286, [21, 27, 20]⟩, ⟨1048574, [20, 28]⟩, ⟨2097150, [29]⟩, ⟨4194302, [2, 30]⟩, ⟨8388606, [31, 30]⟩, ⟨16777214, [30, 32]⟩, ⟨33554431, [9, 33]⟩]
def C59_0 (cc1 : XC) (cc2 : XC) : XC := (.seq (.ops (.op (some 3) .any [0] (.box 141 (.tmp 0)) <|
 .op (some 6) .any [] (.alloc 35 [(V.int .i64 (Int.ofNat 0)), (V.int .i64 (Int.ofNat 0)), V.nils, V.nils, (V.int .i64 (Int.ofNat 0)), V.nils]) <|
 .nil))
 (.seq (.seq (.keep [(1, (.int .i64)), (2, (.int .i64)), (3, .ptr), (6, .ptr)] [] [] (.gdraw G59_0 H59_0 [(1, (.int .i64)), (2, (.int .i64)), (3, .ptr), (6, .ptr)]))
 (.seq (.ops (.op (some 35) .any [3] (.load none (.tmp 3)) <|
 .op (some 36) .bool [35] (.call 122 [(.tmp 35)]) <|
 .op (some 37) .any [36] (.un .not (.tmp 36)) <|
 .nil))
 (.cond (.tmp 37) (.seq (.ops (.op (some 38) (.agg [(.int .i64), (.int .i64), .any, .any, (.int .i64), .any]) [] (.build [(V.int .i64 (Int.ofNat 0)), (V.int .i64 (Int.ofNat 0)), V.nils, V.nils, (V.int .i64 (Int.ofNat 0)), V.nils] []) <|
 .op none (.agg [(.int .i64), (.int .i64), .any, .any, (.int .i64), .any]) [6, 38] (.store 6 (.tmp 6) (.tmp 38)) <|
 .nil))
 .ret)
 .skip)))
 (.seq (.ops (.op (some 39) .any [3] (.load none (.tmp 3)) <|
 .op (some 40) .any [39] (.nilck (.tmp 39)) <|
 .op (some 41) .any [40] (.faddr 1 (.tmp 40)) <|
 .op (some 42) .any [41] (.faddr 3 (.tmp 41)) <|
 .op (some 43) .any [42] (.load none (.tmp 42)) <|
 .op (some 44) .any [1] (.mov (.tmp 1)) <|
 .op (some 45) .any [43, 44] (.iaddrS 13 (.tmp 43) (.tmp 44)) <|
 .op (some 46) (.agg [(.int .i64), .any, .bool, .bool, .bool, .bool, (.int .i64), (.int .i64), .any, .any, (.int .i64), .bool, (.int .i64)]) [45] (.load (some 13) (.tmp 45)) <|
 .pal 7 [] 165 [(V.int .i64 (Int.ofNat 0)), V.nils, (V.bool false), (V.bool false), (V.bool false), (V.bool false), (V.int .i64 (Int.ofNat 0)), (V.int .i64 (Int.ofNat 0)), V.nils, V.nils, (V.int .i64 (Int.ofNat 0)), (V.bool false), (V.int .i64 (Int.ofNat 0))] <|
 .op none (.agg [(.int .i64), .any, .bool, .bool, .bool, .bool, (.int .i64), (.int .i64), .any, .any, (.int .i64), .bool, (.int .i64)]) [7, 46] (.store 13 (.tmp 7) (.tmp 46)) <|
 .nil))
 (.seq (.ops (.op (some 47) .any [7] (.faddr 0 (.tmp 7)) <|
 .op (some 48) (.int .i64) [47] (.load none (.tmp 47)) <|
 .op (some 49) (.agg [(.int .i64), (.int .i64), .any, .any, (.int .i64), .any]) [48] (.build [(V.int .i64 (Int.ofNat 0)), (V.int .i64 (Int.ofNat 0)), V.nils, V.nils, (V.int .i64 (Int.ofNat 0)), V.nils] [(0, 1, (.tmp 48))]) <|
 .op (some 8) .any [] (.alloc 35 [(V.int .i64 (Int.ofNat 0)), (V.int .i64 (Int.ofNat 0)), V.nils, V.nils, (V.int .i64 (Int.ofNat 0)), V.nils]) <|
 .op none (.agg [(.int .i64), (.int .i64), .any, .any, (.int .i64), .any]) [8, 49] (.store 6 (.tmp 8) (.tmp 49)) <|
 .nil))
 (.seq (.seq (.ops (.op (some 50) .any [7] (.faddr 0 (.tmp 7)) <|
 .op (some 51) (.int .i64) [50] (.load none (.tmp 50)) <|
 .nil))
 (.block 0 (.seq (.ops (.op (some 53) .any [51] (.bin .eql .none (.tmp 51) (.con (V.int .i64 (Int.ofNat 1)))) <|
 .op (some 52) .any [53] (.mov (.tmp 53)) <|
 .nil))
 (.cond (.tmp 52) (.ops (.op (some 54) .any [3] (.load none (.tmp 3)) <|
 .op (some 55) .any [54] (.nilck (.tmp 54)) <|
 .op (some 56) .any [55] (.faddr 0 (.tmp 55)) <|
 .op (some 57) .any [56] (.load none (.tmp 56)) <|
 .op (some 58) (.int .u64) [57] (.call 123 [(.tmp 57), (.con (V.int .i64 (Int.ofNat 1)))]) <|
 .op (some 59) .any [58] (.conv (.toInt .i64) (.tmp 58)) <|
 .op (some 60) .any [8] (.faddr 1 (.tmp 8)) <|
 .op none .any [60, 59] (.store 1 (.tmp 60) (.tmp 59)) <|
 .nil))
 (.seq (.ops (.op (some 62) .any [51] (.bin .eql .none (.tmp 51) (.con (V.int .i64 (Int.ofNat 2)))) <|
 .op (some 61) .any [62] (.mov (.tmp 62)) <|
 .nil))
 (.cond (.tmp 61) (.ops (.op (some 63) .any [3] (.load none (.tmp 3)) <|
 .op (some 64) .any [7] (.faddr 2 (.tmp 7)) <|
 .op (some 65) (.agg [.bool, .bool, .bool, .bool, (.int .i64), (.int .i64)]) [64] (.load (some 6) (.tmp 64)) <|
 .op (some 66) (.int .i64) [63, 65] (.call 124 [(.tmp 63), (.tmp 65)]) <|
 .op (some 67) .any [8] (.faddr 1 (.tmp 8)) <|
 .op none .any [67, 66] (.store 1 (.tmp 67) (.tmp 66)) <|
 .nil))
 (.seq (.ops (.op (some 69) .any [51] (.bin .eql .none (.tmp 51) (.con (V.int .i64 (Int.ofNat 3)))) <|
 .op (some 68) .any [69] (.mov (.tmp 69)) <|
 .nil))
 (.cond (.tmp 68) (.seq (.ops (.op (some 70) .any [3] (.load none (.tmp 3)) <|
 .op (some 71) .any [1] (.mov (.tmp 1)) <|
 .op (some 72) (.agg [(.int .i64), (.int .i64), .any, .any, (.int .i64), .any]) [70, 71] (.call 125 [(.tmp 70), (.tmp 71)]) <|
 .op none (.agg [(.int .i64), (.int .i64), .any, .any, (.int .i64), .any]) [6, 72] (.store 6 (.tmp 6) (.tmp 72)) <|
 .nil))
 .ret)
 (.seq (.ops (.op (some 74) .any [51] (.bin .eql .none (.tmp 51) (.con (V.int .i64 (Int.ofNat 6)))) <|
 .op (some 73) .any [74] (.mov (.tmp 74)) <|
 .nil))
 (.cond (.tmp 73) (.ops (.op (some 75) .any [3] (.load none (.tmp 3)) <|
 .op (some 76) .any [75] (.nilck (.tmp 75)) <|
 .op (some 77) .any [76] (.faddr 0 (.tmp 76)) <|
 .op (some 78) .any [77] (.load none (.tmp 77)) <|
 .op (some 79) .one [78] (.call 126 [(.tmp 78), (.con (V.int .i64 (Int.ofNat 70000)))]) <|
 .op (some 80) .any [8] (.faddr 2 (.tmp 8)) <|
 .op none .any [80, 79] (.store 1 (.tmp 80) (.tmp 79)) <|
 .nil))
 (.seq (.ops (.op (some 82) .any [51] (.bin .eql .none (.tmp 51) (.con (V.int .i64 (Int.ofNat 5)))) <|
 .op (some 81) .any [82] (.mov (.tmp 82)) <|
 .nil))
 (.cond (.tmp 81) (.ops (.op (some 83) .any [3] (.load none (.tmp 3)) <|
 .op (some 84) .any [7] (.faddr 2 (.tmp 7)) <|
 .op (some 85) (.agg [.bool, .bool, .bool, .bool, (.int .i64), (.int .i64)]) [84] (.load (some 6) (.tmp 84)) <|
 .op (some 86) .any [3, 8] (.mkfn 128 [] [(.tmp 3), (.tmp 8)]) <|
 .op (some 87) .any [3, 8] (.mkfn 130 [] [(.tmp 3), (.tmp 8)]) <|
 .op (some 88) (.tup []) [83, 85, 86, 87] (.call 127 [(.tmp 83), (.tmp 85), (.tmp 86), (.tmp 87)]) <|
 .nil))
 (.seq (.ops (.op (some 90) .any [51] (.bin .eql .none (.tmp 51) (.con (V.int .i64 (Int.ofNat 10)))) <|
 .op (some 89) .any [90] (.mov (.tmp 90)) <|
 .nil))
 (.cond (.tmp 89) (.ops (.op (some 91) .any [3] (.load none (.tmp 3)) <|
 .op (some 92) (.agg [(.int .i64), .any, .bool, .bool, .bool, .bool, (.int .i64), (.int .i64), .any, .any, (.int .i64), .bool, (.int .i64)]) [7] (.load (some 13) (.tmp 7)) <|
 .op (some 93) .any [2] (.mov (.tmp 2)) <|
 .op (some 94) (.tup []) [91, 92, 8, 93] (.call 131 [(.tmp 91), (.tmp 92), (.tmp 8), (.tmp 93)]) <|
 .nil))
 (.seq (.ops (.op (some 96) .any [51] (.bin .eql .none (.tmp 51) (.con (V.int .i64 (Int.ofNat 9)))) <|
 .op (some 95) .any [96] (.mov (.tmp 96)) <|
 .nil))
 (.cond (.tmp 95) (.seq (.ops (.op (some 97) .any [3] (.load none (.tmp 3)) <|
 .op (some 98) .any [1] (.mov (.tmp 1)) <|
 .op (some 99) .any [2] (.mov (.tmp 2)) <|
 .op (some 100) (.agg [(.int .i64), (.int .i64), .any, .any, (.int .i64), .any]) [97, 98, 99] (.call 132 [(.tmp 97), (.tmp 98), (.tmp 99)]) <|
 .op none (.agg [(.int .i64), (.int .i64), .any, .any, (.int .i64), .any]) [6, 100] (.store 6 (.tmp 6) (.tmp 100)) <|
 .nil))
 .ret)
 (.seq (.seq (.ops (.op (some 102) .any [51] (.bin .eql .none (.tmp 51) (.con (V.int .i64 (Int.ofNat 7)))) <|
 .op (some 101) .any [102] (.mov (.tmp 102)) <|
 .nil))
 (.cond (.tmp 101) .skip
 (.ops (.op (some 103) .any [51] (.bin .eql .none (.tmp 51) (.con (V.int .i64 (Int.ofNat 8)))) <|
 .op (some 101) .any [103] (.mov (.tmp 103)) <|
 .nil))))
 (.keep [(1, (.int .i64)), (2, (.int .i64)), (3, .ptr), (6, .ptr), (8, .ptr), (101, .bool)] [] [] cc2))))))))))))))))))
 (.keep [(6, .ptr), (8, .ptr)] [] [] cc1))))))
def C59_1 : XC := (.seq (.ops (.op (some 108) (.agg [(.int .i64), (.int .i64), .any, .any, (.int .i64), .any]) [8] (.load (some 6) (.tmp 8)) <|
 .op none (.agg [(.int .i64), (.int .i64), .any, .any, (.int .i64), .any]) [6, 108] (.store 6 (.tmp 6) (.tmp 108)) <|
 .nil))
 .ret)
def C59_2 : XC := (.cond (.tmp 101) (.seq (.ops (.op (some 104) .any [3] (.load none (.tmp 3)) <|
 .op (some 105) .any [1] (.mov (.tmp 1)) <|
 .op (some 106) .any [2] (.mov (.tmp 2)) <|
 .op (some 107) (.agg [(.int .i64), (.int .i64), .any, .any, (.int .i64), .any]) [104, 105, 106] (.call 133 [(.tmp 104), (.tmp 105), (.tmp 106)]) <|
 .op none (.agg [(.int .i64), (.int .i64), .any, .any, (.int .i64), .any]) [6, 107] (.store 6 (.tmp 6) (.tmp 107)) <|
 .nil))
 .ret)
 .skip)
def A59 : XFn := ⟨109, [.any, (.int .i64), (.int .i64)], [(.cell 6 (some 6))], (C59_0 C59_1 C59_2)⟩
def C60_0 : XC := (.seq (.ops (.op (some 2) .any [] (.mov (.con (V.int .i64 (Int.ofNat 0)))) <|
 .nil))
 (.seq (.seq (.ops (.op (some 4) .any [0] (.mov (.tmp 0)) <|
 .op (some 5) (.int .i64) [4] (.call 134 [(.tmp 4)]) <|
 .op (some 3) .any [5] (.mov (.tmp 5)) <|
 .nil))
 (.block 0 (.seq (.ops (.op (some 7) .any [3] (.mov (.tmp 3)) <|
 .op (some 8) .any [7] (.bin .neq .none (.tmp 7) (.con (V.int .i64 (Int.ofNat 0)))) <|
 .op (some 6) .any [8] (.mov (.tmp 8)) <|
 .nil))
 (.cond (.tmp 6) (.seq (.ops (.op (some 9) .any [3] (.mov (.tmp 3)) <|
 .op (some 2) .any [9] (.mov (.tmp 9)) <|
 .nil))
 .ret)
 (.seq (.ops (.op (some 11) .any [0] (.mov (.tmp 0)) <|
 .op (some 12) .any [11] (.nilck (.tmp 11)) <|
 .op (some 13) .any [12] (.faddr 2 (.tmp 12)) <|
 .op (some 14) .bool [13] (.load none (.tmp 13)) <|
 .op (some 15) .any [14] (.mov (.tmp 14)) <|
 .grp 15 true (.op (some 16) .any [0, 15] (.mov (.tmp 0)) <|
 .op (some 17) (.int .i64) [16, 15] (.call 135 [(.tmp 16)]) <|
 .op (some 18) .any [17, 15] (.bin .eql .none (.tmp 17) (.con (V.int .i64 (Int.ofNat 8)))) <|
 .nil) 19 [15, 18] (.tmp 15) (.tmp 18) (.con (V.bool false)) <|
 .op (some 10) .any [19] (.mov (.tmp 19)) <|
 .nil))
 (.cond (.tmp 10) (.seq (.ops (.op (some 2) .any [] (.mov (.con (V.int .i64 (Int.ofNat 0)))) <|
 .nil))
 .ret)
 .skip))))))
 (.seq (.ops (.op (some 20) .any [0] (.mov (.tmp 0)) <|
 .op (some 21) .any [20] (.nilck (.tmp 20)) <|
 .op (some 22) .any [21] (.faddr 0 (.tmp 21)) <|
 .op (some 23) .any [22] (.load none (.tmp 22)) <|
 .op (some 24) (.int .i64) [23] (.call 136 [(.tmp 23)]) <|
 .op (some 2) .any [24] (.mov (.tmp 24)) <|
 .nil))
 .ret)))
def A60 : XFn := ⟨25, [.ptr], [(.tmp 2)], C60_0⟩
/-! ### F61: __ogham_value.checker_.fits -/
def Fin61 (E : List (Nat × Blk)) : St → Ans := fun s => resK E s [(.tmp 8)] fun l => some (oneV l, s.σ)
def C61_0 (cc1 : XC) (cc2 : XC) : XC := (.seq (.ops (.op (some 6) .any [2] (.box 35 (.tmp 2)) <|
 .op (some 8) .any [] (.mov (.con (V.bool false))) <|
 .nil))
 (.seq (.seq (.ops (.op (some 10) .any [1] (.mov (.tmp 1)) <|
 .op (some 11) .any [10] (.bin .lss .none (.tmp 10) (.con (V.int .i64 (Int.ofNat 0)))) <|
 .op (some 12) .any [11] (.mov (.tmp 11)) <|
 .grp 12 false (.op (some 13) .any [1, 12] (.mov (.tmp 1)) <|
 .op (some 14) .any [0, 12] (.mov (.tmp 0)) <|
 .op (some 15) .any [14, 12] (.nilck (.tmp 14)) <|
 .op (some 16) .any [15, 12] (.faddr 0 (.tmp 15)) <|
 .op (some 17) .any [16, 12] (.faddr 0 (.tmp 16)) <|
 .op (some 18) .any [17, 12] (.faddr 3 (.tmp 17)) <|
 .op (some 19) .any [18, 12] (.load none (.tmp 18)) <|
 .op (some 20) .any [19, 12] (.len false (.tmp 19)) <|
 .op (some 21) .any [13, 20, 12] (.bin .geq .none (.tmp 13) (.tmp 20)) <|
 .nil) 22 [12, 21] (.tmp 12) (.con (V.bool true)) (.tmp 21) <|
 .op (some 23) .any [22] (.mov (.tmp 22)) <|
 .grp 23 false (.op (some 24) .any [3, 23] (.mov (.tmp 3)) <|
 .op (some 25) .any [24, 23] (.bin .gtr .none (.tmp 24) (.con (V.int .i64 (Int.ofNat 17)))) <|
 .nil) 26 [23, 25] (.tmp 23) (.con (V.bool true)) (.tmp 25) <|
 .nil))
 (.cond (.tmp 26) (.seq (.ops (.op (some 8) .any [] (.mov (.con (V.bool false))) <|
 .nil))
 .ret)
 .skip))
 (.seq (.ops (.op (some 27) .any [0] (.mov (.tmp 0)) <|
 .op (some 28) .any [27] (.nilck (.tmp 27)) <|
 .op (some 29) .any [28] (.faddr 0 (.tmp 28)) <|
 .op (some 30) .any [29] (.faddr 0 (.tmp 29)) <|
 .op (some 31) .any [30] (.faddr 3 (.tmp 30)) <|
 .op (some 32) .any [31] (.load none (.tmp 31)) <|
 .op (some 33) .any [1] (.mov (.tmp 1)) <|
 .op (some 34) .any [32, 33] (.iaddrS 13 (.tmp 32) (.tmp 33)) <|
 .op (some 35) (.agg [(.int .i64), .any, .bool, .bool, .bool, .bool, (.int .i64), (.int .i64), .any, .any, (.int .i64), .bool, (.int .i64)]) [34] (.load (some 13) (.tmp 34)) <|
 .pal 9 [] 165 [(V.int .i64 (Int.ofNat 0)), V.nils, (V.bool false), (V.bool false), (V.bool false), (V.bool false), (V.int .i64 (Int.ofNat 0)), (V.int .i64 (Int.ofNat 0)), V.nils, V.nils, (V.int .i64 (Int.ofNat 0)), (V.bool false), (V.int .i64 (Int.ofNat 0))] <|
 .op none (.agg [(.int .i64), .any, .bool, .bool, .bool, .bool, (.int .i64), (.int .i64), .any, .any, (.int .i64), .bool, (.int .i64)]) [9, 35] (.store 13 (.tmp 9) (.tmp 35)) <|
 .nil))
 (.seq (.seq (.ops (.op (some 36) .any [6] (.faddr 0 (.tmp 6)) <|
 .op (some 37) (.int .i64) [36] (.load none (.tmp 36)) <|
 .op (some 38) .any [37] (.bin .eql .none (.tmp 37) (.con (V.int .i64 (Int.ofNat 12)))) <|
 .nil))
 (.cond (.tmp 38) (.seq (.ops (.op (some 39) .any [0] (.mov (.tmp 0)) <|
 .op (some 40) .any [1] (.mov (.tmp 1)) <|
 .op (some 41) (.agg [(.int .i64), (.int .i64), .any, .any, (.int .i64), .any]) [6] (.load (some 6) (.tmp 6)) <|
 .op (some 42) .bool [39, 40, 41] (.call 137 [(.tmp 39), (.tmp 40), (.tmp 41)]) <|
 .op (some 8) .any [42] (.mov (.tmp 42)) <|
 .nil))
 .ret)
 .skip))
 (.seq (.seq (.ops (.op (some 43) .any [6] (.faddr 0 (.tmp 6)) <|
 .op (some 44) (.int .i64) [43] (.load none (.tmp 43)) <|
 .op (some 45) .any [9] (.faddr 0 (.tmp 9)) <|
 .op (some 46) (.int .i64) [45] (.load none (.tmp 45)) <|
 .op (some 47) .any [44, 46] (.bin .neq .none (.tmp 44) (.tmp 46)) <|
 .nil))
 (.cond (.tmp 47) (.seq (.ops (.op (some 8) .any [] (.mov (.con (V.bool false))) <|
 .nil))
 .ret)
 .skip))
 (.seq (.seq (.ops (.op (some 48) .any [9] (.faddr 0 (.tmp 9)) <|
 .op (some 49) (.int .i64) [48] (.load none (.tmp 48)) <|
 .nil))
 (.block 0 (.seq (.ops (.op (some 51) .any [49] (.bin .eql .none (.tmp 49) (.con (V.int .i64 (Int.ofNat 1)))) <|
 .op (some 50) .any [51] (.mov (.tmp 51)) <|
 .nil))
 (.cond (.tmp 50) (.seq (.ops (.op (some 52) (.agg [(.int .i64), (.int .i64), .any, .any, (.int .i64), .any]) [6] (.load (some 6) (.tmp 6)) <|
 .op (some 53) .bool [52] (.call 138 [(.tmp 52), (.con (V.int .i64 (Int.ofNat 1)))]) <|
 .op (some 54) .any [53] (.mov (.tmp 53)) <|
 .grp 54 true (.op (some 55) .any [6, 54] (.faddr 1 (.tmp 6)) <|
 .op (some 56) (.int .i64) [55, 54] (.load none (.tmp 55)) <|
 .op (some 57) .any [56, 54] (.bin .eql .none (.tmp 56) (.con (V.int .i64 (Int.ofNat 0)))) <|
 .op (some 58) .any [57, 54] (.mov (.tmp 57)) <|
 .grp 58 false (.op (some 59) .any [6, 58] (.faddr 1 (.tmp 6)) <|
 .op (some 60) (.int .i64) [59, 58] (.load none (.tmp 59)) <|
 .op (some 61) .any [60, 58] (.bin .eql .none (.tmp 60) (.con (V.int .i64 (Int.ofNat 1)))) <|
 .nil) 62 [58, 61, 54] (.tmp 58) (.con (V.bool true)) (.tmp 61) <|
 .nil) 63 [54, 62] (.tmp 54) (.tmp 62) (.con (V.bool false)) <|
 .op (some 8) .any [63] (.mov (.tmp 63)) <|
 .nil))
 .ret)
 (.seq (.ops (.op (some 65) .any [49] (.bin .eql .none (.tmp 49) (.con (V.int .i64 (Int.ofNat 2)))) <|
 .op (some 64) .any [65] (.mov (.tmp 65)) <|
 .nil))
 (.cond (.tmp 64) (.seq (.ops (.op (some 66) (.agg [(.int .i64), (.int .i64), .any, .any, (.int .i64), .any]) [6] (.load (some 6) (.tmp 6)) <|
 .op (some 67) .bool [66] (.call 138 [(.tmp 66), (.con (V.int .i64 (Int.ofNat 1)))]) <|
 .op (some 68) .any [67] (.mov (.tmp 67)) <|
 .grp 68 true (.op (some 69) .any [9, 68] (.faddr 2 (.tmp 9)) <|
 .op (some 70) .any [69, 68] (.faddr 3 (.tmp 69)) <|
 .op (some 71) .bool [70, 68] (.load none (.tmp 70)) <|
 .op (some 72) .any [71, 68] (.mov (.tmp 71)) <|
 .grp 72 false (.op (some 73) .any [9, 72] (.faddr 2 (.tmp 9)) <|
 .op (some 74) (.agg [.bool, .bool, .bool, .bool, (.int .i64), (.int .i64)]) [73, 72] (.load (some 6) (.tmp 73)) <|
 .op (some 75) .any [6, 72] (.faddr 1 (.tmp 6)) <|
 .op (some 76) (.int .i64) [75, 72] (.load none (.tmp 75)) <|
 .op (some 77) .bool [74, 76, 72] (.call 139 [(.tmp 74), (.tmp 76)]) <|
 .nil) 78 [72, 77, 68] (.tmp 72) (.con (V.bool true)) (.tmp 77) <|
 .nil) 79 [68, 78] (.tmp 68) (.tmp 78) (.con (V.bool false)) <|
 .op (some 8) .any [79] (.mov (.tmp 79)) <|
 .nil))
 .ret)
 (.seq (.ops (.op (some 81) .any [49] (.bin .eql .none (.tmp 49) (.con (V.int .i64 (Int.ofNat 3)))) <|
 .op (some 80) .any [81] (.mov (.tmp 81)) <|
 .nil))
 (.cond (.tmp 80) (.seq (.ops (.op (some 82) (.agg [(.int .i64), (.int .i64), .any, .any, (.int .i64), .any]) [6] (.load (some 6) (.tmp 6)) <|
 .op (some 83) .bool [82] (.call 138 [(.tmp 82), (.con (V.int .i64 (Int.ofNat 1)))]) <|
 .op (some 84) .any [83] (.mov (.tmp 83)) <|
 .grp 84 true (.op (some 85) (.agg [(.int .i64), .any, .bool, .bool, .bool, .bool, (.int .i64), (.int .i64), .any, .any, (.int .i64), .bool, (.int .i64)]) [9, 84] (.load (some 13) (.tmp 9)) <|
 .op (some 86) .any [6, 84] (.faddr 1 (.tmp 6)) <|
 .op (some 87) (.int .i64) [86, 84] (.load none (.tmp 86)) <|
 .op (some 88) (.int .i64) [85, 87, 84] (.call 67 [(.tmp 85), (.tmp 87)]) <|
 .op (some 89) .any [88, 84] (.bin .geq .none (.tmp 88) (.con (V.int .i64 (Int.ofNat 0)))) <|
 .nil) 90 [84, 89] (.tmp 84) (.tmp 89) (.con (V.bool false)) <|
 .op (some 8) .any [90] (.mov (.tmp 90)) <|
 .nil))
 .ret)
 (.seq (.ops (.op (some 92) .any [49] (.bin .eql .none (.tmp 49) (.con (V.int .i64 (Int.ofNat 4)))) <|
 .op (some 91) .any [92] (.mov (.tmp 92)) <|
 .nil))
 (.cond (.tmp 91) (.seq (.ops (.op (some 93) (.agg [(.int .i64), (.int .i64), .any, .any, (.int .i64), .any]) [6] (.load (some 6) (.tmp 6)) <|
 .op (some 94) .bool [93] (.call 138 [(.tmp 93), (.con (V.int .i64 (Int.ofNat 0)))]) <|
 .op (some 8) .any [94] (.mov (.tmp 94)) <|
 .nil))
 .ret)
 (.seq (.seq (.ops (.op (some 96) .any [49] (.bin .eql .none (.tmp 49) (.con (V.int .i64 (Int.ofNat 5)))) <|
 .op (some 95) .any [96] (.mov (.tmp 96)) <|
 .nil))
 (.cond (.tmp 95) .skip
 (.ops (.op (some 97) .any [49] (.bin .eql .none (.tmp 49) (.con (V.int .i64 (Int.ofNat 6)))) <|
 .op (some 95) .any [97] (.mov (.tmp 97)) <|
 .nil))))
 (.keep [(0, .ptr), (1, (.int .i64)), (3, (.int .i64)), (6, .ptr), (49, (.int .i64)), (95, .bool)] [9] [(9, [(.int .i64), .any, .bool, .bool, .bool, .bool, (.int .i64), (.int .i64), .any, .any, (.int .i64), .bool, (.int .i64)])] cc2))))))))))))
 (.keep [] [] [] cc1)))))))
def T61_0 (E : List (Nat × Blk)) (D : Den) (W : DrawFn) (K2 : Nat → Nat → Int → Int → Nat → Nat → Int → Bool → Int → V → Bool → Bool → Bool → Bool → Int → Int → V → V → Int → Bool → Int → H → Ans) (v0b : Nat) (v0o : Nat) (v1 : Int) (v2_0 : Int) (v2_1 : Int) (v2_2 : V) (v2_3 : V) (v2_4 : Int) (v2_5 : V) (v3 : Int) (σ : H) : Ans :=
 chk (allOne (V.cells (V.agg [(V.int .i64 v2_0), (V.int .i64 v2_1), v2_2, v2_3, (V.int .i64 v2_4), v2_5]))) (
 let s1 := newB σ (.cells (V.cells (V.agg [(V.int .i64 v2_0), (V.int .i64 v2_1), v2_2, v2_3, (V.int .i64 v2_4), v2_5])));
 joinB (fun c2 s3 =>
 joinB (fun c5 s6 =>
 condK c5 (
 some ((V.bool false), s6)) (
 ldK E s6 v0b (Nat.add v0o 3) fun u8 =>
 iaddrSK 13 u8 v1 fun b9 o10 =>
 ldnK E s6 b9 o10 13 fun l11 =>
 rtCons l11 fun x12 l13 =>
 rtInt .i64 x12 fun x14 =>
 rtCons l13 fun x15 l16 =>
 rtCons l16 fun x17 l18 =>
 rtBool x17 fun x19 =>
 rtCons l18 fun x20 l21 =>
 rtBool x20 fun x22 =>
 rtCons l21 fun x23 l24 =>
 rtBool x23 fun x25 =>
 rtCons l24 fun x26 l27 =>
 rtBool x26 fun x28 =>
 rtCons l27 fun x29 l30 =>
 rtInt .i64 x29 fun x31 =>
 rtCons l30 fun x32 l33 =>
 rtInt .i64 x32 fun x34 =>
 rtCons l33 fun x35 l36 =>
 rtCons l36 fun x37 l38 =>
 rtCons l38 fun x39 l40 =>
 rtInt .i64 x39 fun x41 =>
 rtCons l40 fun x42 l43 =>
 rtBool x42 fun x44 =>
 rtCons l43 fun x45 l46 =>
 rtInt .i64 x45 fun x47 =>
 rtNil l46 (
 chk (allOne [(V.int .i64 x14), x15, (V.bool x19), (V.bool x22), (V.bool x25), (V.bool x28), (V.int .i64 x31), (V.int .i64 x34), x35, x37, (V.int .i64 x41), (V.bool x44), (V.int .i64 x47)]) (
 ldK E s6 (H.next σ) 0 fun u48 =>
 rtInt .i64 u48 fun x49 =>
 condK (eqF x49 (Int.ofNat 12)) (
 ldnK E s6 (H.next σ) 0 6 fun l50 =>
 rtCons l50 fun x51 l52 =>
 rtInt .i64 x51 fun x53 =>
 rtCons l52 fun x54 l55 =>
 rtInt .i64 x54 fun x56 =>
 rtCons l55 fun x57 l58 =>
 rtCons l58 fun x59 l60 =>
 rtCons l60 fun x61 l62 =>
 rtInt .i64 x61 fun x63 =>
 rtCons l62 fun x64 l65 =>
 rtNil l65 (
 callK (D 137 [(V.ptr v0b v0o), (V.int .i64 v1), (V.agg [(V.int .i64 x53), (V.int .i64 x56), x57, x59, (V.int .i64 x63), x64])] s6) fun u66 s67 =>
 rtBool u66 fun x68 =>
 some ((V.bool x68), s67))) (
 ldK E s6 (H.next σ) 0 fun u69 =>
 rtInt .i64 u69 fun x70 =>
 condK (not (eqF x70 x14)) (
 some ((V.bool false), s6)) (
 condK (eqF x14 (Int.ofNat 1)) (
 ldnK E s6 (H.next σ) 0 6 fun l71 =>
 rtCons l71 fun x72 l73 =>
 rtInt .i64 x72 fun x74 =>
 rtCons l73 fun x75 l76 =>
 rtInt .i64 x75 fun x77 =>
 rtCons l76 fun x78 l79 =>
 rtCons l79 fun x80 l81 =>
 rtCons l81 fun x82 l83 =>
 rtInt .i64 x82 fun x84 =>
 rtCons l83 fun x85 l86 =>
 rtNil l86 (
 callK (D 138 [(V.agg [(V.int .i64 x74), (V.int .i64 x77), x78, x80, (V.int .i64 x84), x85]), (V.int .i64 (Int.ofNat 1))] s6) fun u87 s88 =>
 rtBool u87 fun x89 =>
 joinB (fun c90 s91 =>
 some ((V.bool c90), s91)) fun k92 =>
 condK x89 (
 ldK E s88 (H.next σ) 1 fun u93 =>
 rtInt .i64 u93 fun x94 =>
 joinB (fun c95 s96 =>
 k92 c95 s96) fun k97 =>
 condK (eqF x94 (Int.ofNat 0)) (
 k97 true s88) (
 ldK E s88 (H.next σ) 1 fun u98 =>
 rtInt .i64 u98 fun x99 =>
 k97 (eqF x99 (Int.ofNat 1)) s88)) (
 k92 false s88))) (
 condK (eqF x14 (Int.ofNat 2)) (
 ldnK E s6 (H.next σ) 0 6 fun l100 =>
 rtCons l100 fun x101 l102 =>
 rtInt .i64 x101 fun x103 =>
 rtCons l102 fun x104 l105 =>
 rtInt .i64 x104 fun x106 =>
 rtCons l105 fun x107 l108 =>
 rtCons l108 fun x109 l110 =>
 rtCons l110 fun x111 l112 =>
 rtInt .i64 x111 fun x113 =>
 rtCons l112 fun x114 l115 =>
 rtNil l115 (
 callK (D 138 [(V.agg [(V.int .i64 x103), (V.int .i64 x106), x107, x109, (V.int .i64 x113), x114]), (V.int .i64 (Int.ofNat 1))] s6) fun u116 s117 =>
 rtBool u116 fun x118 =>
 joinB (fun c119 s120 =>
 some ((V.bool c119), s120)) fun k121 =>
 condK x118 (
 joinB (fun c122 s123 =>
 k121 c122 s123) fun k124 =>
 condK x28 (
 k124 true s117) (
 ldK E s117 (H.next σ) 1 fun u125 =>
 rtInt .i64 u125 fun x126 =>
 callK (D 139 [(V.agg [(V.bool x19), (V.bool x22), (V.bool x25), (V.bool x28), (V.int .i64 x31), (V.int .i64 x34)]), (V.int .i64 x126)] s117) fun u127 s128 =>
 rtBool u127 fun x129 =>
 k124 x129 s128)) (
 k121 false s117))) (
 condK (eqF x14 (Int.ofNat 3)) (
 ldnK E s6 (H.next σ) 0 6 fun l130 =>
 rtCons l130 fun x131 l132 =>
 rtInt .i64 x131 fun x133 =>
 rtCons l132 fun x134 l135 =>
 rtInt .i64 x134 fun x136 =>
 rtCons l135 fun x137 l138 =>
 rtCons l138 fun x139 l140 =>
 rtCons l140 fun x141 l142 =>
 rtInt .i64 x141 fun x143 =>
 rtCons l142 fun x144 l145 =>
 rtNil l145 (
 callK (D 138 [(V.agg [(V.int .i64 x133), (V.int .i64 x136), x137, x139, (V.int .i64 x143), x144]), (V.int .i64 (Int.ofNat 1))] s6) fun u146 s147 =>
 rtBool u146 fun x148 =>
 joinB (fun c149 s150 =>
 some ((V.bool c149), s150)) fun k151 =>
 condK x148 (
 ldK E s147 (H.next σ) 1 fun u152 =>
 rtInt .i64 u152 fun x153 =>
 callK (D 67 [(V.agg [(V.int .i64 x14), x15, (V.bool x19), (V.bool x22), (V.bool x25), (V.bool x28), (V.int .i64 x31), (V.int .i64 x34), x35, x37, (V.int .i64 x41), (V.bool x44), (V.int .i64 x47)]), (V.int .i64 x153)] s147) fun u154 s155 =>
 rtInt .i64 u154 fun x156 =>
 k151 (leF (Int.ofNat 0) x156) s155) (
 k151 false s147))) (
 condK (eqF x14 (Int.ofNat 4)) (
 ldnK E s6 (H.next σ) 0 6 fun l157 =>
 rtCons l157 fun x158 l159 =>
 rtInt .i64 x158 fun x160 =>
 rtCons l159 fun x161 l162 =>
 rtInt .i64 x161 fun x163 =>
 rtCons l162 fun x164 l165 =>
 rtCons l165 fun x166 l167 =>
 rtCons l167 fun x168 l169 =>
 rtInt .i64 x168 fun x170 =>
 rtCons l169 fun x171 l172 =>
 rtNil l172 (
 callK (D 138 [(V.agg [(V.int .i64 x160), (V.int .i64 x163), x164, x166, (V.int .i64 x170), x171]), (V.int .i64 (Int.ofNat 0))] s6) fun u173 s174 =>
 rtBool u173 fun x175 =>
 some ((V.bool x175), s174))) (
 condK (eqF x14 (Int.ofNat 5)) (
 K2 v0b v0o v1 v3 (H.next σ) 0 x14 (eqF x14 (Int.ofNat 5)) x14 x15 x19 x22 x25 x28 x31 x34 x35 x37 x41 x44 x47 s6) (
 K2 v0b v0o v1 v3 (H.next σ) 0 x14 (eqF x14 (Int.ofNat 6)) x14 x15 x19 x22 x25 x28 x31 x34 x35 x37 x41 x44 x47 s6))))))))))) fun k7 =>
 condK c2 (
 k7 true s3) (
 k7 (ltF (Int.ofNat 17) v3) s3)) fun k4 =>
 condK (ltF v1 (Int.ofNat 0)) (
 k4 true s1) (
 ldK E s1 v0b (Nat.add v0o 3) fun u176 =>
 slenK u176 fun n177 =>
 k4 (leF (Int.ofNat n177) v1) s1))
def C61_1 : XC := (.seq (.ops (.op (some 8) .any [] (.mov (.con (V.bool false))) <|
 .nil))
 .ret)
def T61_1 (E : List (Nat × Blk)) (D : Den) (W : DrawFn) (σ : H) : Ans :=
 some ((V.bool false), σ)
def C61_2 (cc3 : XC) : XC := (.cond (.tmp 95) (.seq (.ops (.op (some 98) .any [0] (.mov (.tmp 0)) <|
 .op (some 99) (.agg [(.int .i64), .any, .bool, .bool, .bool, .bool, (.int .i64), (.int .i64), .any, .any, (.int .i64), .bool, (.int .i64)]) [9] (.load (some 13) (.tmp 9)) <|
 .op (some 100) (.agg [(.int .i64), (.int .i64), .any, .any, (.int .i64), .any]) [6] (.load (some 6) (.tmp 6)) <|
 .op (some 101) .bool [98, 99, 100] (.call 140 [(.tmp 98), (.tmp 99), (.tmp 100)]) <|
 .op (some 8) .any [101] (.mov (.tmp 101)) <|
 .nil))
 .ret)
 (.seq (.ops (.op (some 103) .any [49] (.bin .eql .none (.tmp 49) (.con (V.int .i64 (Int.ofNat 10)))) <|
 .op (some 102) .any [103] (.mov (.tmp 103)) <|
 .nil))
 (.cond (.tmp 102) (.seq (.ops (.op (some 104) .any [0] (.mov (.tmp 0)) <|
 .op (some 105) (.agg [(.int .i64), .any, .bool, .bool, .bool, .bool, (.int .i64), (.int .i64), .any, .any, (.int .i64), .bool, (.int .i64)]) [9] (.load (some 13) (.tmp 9)) <|
 .op (some 106) (.agg [(.int .i64), (.int .i64), .any, .any, (.int .i64), .any]) [6] (.load (some 6) (.tmp 6)) <|
 .op (some 107) .any [3] (.mov (.tmp 3)) <|
 .op (some 108) .bool [104, 105, 106, 107] (.call 141 [(.tmp 104), (.tmp 105), (.tmp 106), (.tmp 107)]) <|
 .op (some 8) .any [108] (.mov (.tmp 108)) <|
 .nil))
 .ret)
 (.seq (.ops (.op (some 110) .any [49] (.bin .eql .none (.tmp 49) (.con (V.int .i64 (Int.ofNat 9)))) <|
 .op (some 109) .any [110] (.mov (.tmp 110)) <|
 .nil))
 (.cond (.tmp 109) (.seq (.draw (.op (some 111) (.agg [(.int .i64), (.int .i64), .any, .any, (.int .i64), .any]) [6] (.load (some 6) (.tmp 6)) <|
 .op (some 112) .bool [111] (.call 138 [(.tmp 111), (.con (V.int .i64 (Int.ofNat 5)))]) <|
 .op (some 113) .any [112] (.mov (.tmp 112)) <|
 .grp 113 true (.op (some 114) .any [6, 113] (.faddr 1 (.tmp 6)) <|
 .op (some 115) (.int .i64) [114, 113] (.load none (.tmp 114)) <|
 .op (some 116) .any [115, 113] (.bin .geq .none (.tmp 115) (.con (V.int .i64 (Int.ofNat 0)))) <|
 .nil) 117 [113, 116] (.tmp 113) (.tmp 116) (.con (V.bool false)) <|
 .op (some 118) .any [117] (.mov (.tmp 117)) <|
 .grp 118 true (.op (some 119) .any [6, 118] (.faddr 1 (.tmp 6)) <|
 .op (some 120) (.int .i64) [119, 118] (.load none (.tmp 119)) <|
 .op (some 121) .any [9, 118] (.faddr 9 (.tmp 9)) <|
 .op (some 122) .any [121, 118] (.load none (.tmp 121)) <|
 .op (some 123) .any [122, 118] (.len false (.tmp 122)) <|
 .op (some 124) .any [120, 123, 118] (.bin .lss .none (.tmp 120) (.tmp 123)) <|
 .nil) 125 [118, 124] (.tmp 118) (.tmp 124) (.con (V.bool false)) <|
 .op (some 126) .any [125] (.mov (.tmp 125)) <|
 .grp 126 true (.op (some 127) .any [6, 126] (.faddr 3 (.tmp 6)) <|
 .op (some 128) .any [127, 126] (.load none (.tmp 127)) <|
 .op (some 129) .any [128, 126] (.len false (.tmp 128)) <|
 .op (some 130) .any [129, 126] (.bin .eql .none (.tmp 129) (.con (V.int .i64 (Int.ofNat 1)))) <|
 .nil) 131 [126, 130] (.tmp 126) (.tmp 130) (.con (V.bool false)) <|
 .op (some 132) .any [131] (.mov (.tmp 131)) <|
 .grp 132 true (.op (some 133) .any [0, 132] (.mov (.tmp 0)) <|
 .op (some 134) .any [9, 132] (.faddr 9 (.tmp 9)) <|
 .op (some 135) .any [134, 132] (.load none (.tmp 134)) <|
 .op (some 136) .any [6, 132] (.faddr 1 (.tmp 6)) <|
 .op (some 137) (.int .i64) [136, 132] (.load none (.tmp 136)) <|
 .op (some 138) .any [135, 137, 132] (.iaddrS 11 (.tmp 135) (.tmp 137)) <|
 .op (some 139) .any [138, 132] (.faddr 1 (.tmp 138)) <|
 .op (some 140) (.int .i64) [139, 132] (.load none (.tmp 139)) <|
 .op (some 141) .any [6, 132] (.faddr 3 (.tmp 6)) <|
 .op (some 142) .any [141, 132] (.load none (.tmp 141)) <|
 .op (some 143) .any [142, 132] (.iaddrS 6 (.tmp 142) (.con (V.int .i64 (Int.ofNat 0)))) <|
 .op (some 144) (.agg [(.int .i64), (.int .i64), .any, .any, (.int .i64), .any]) [143, 132] (.load (some 6) (.tmp 143)) <|
 .op (some 145) .any [3, 132] (.mov (.tmp 3)) <|
 .op (some 146) .any [145, 132] (.bin .add .none (.tmp 145) (.con (V.int .i64 (Int.ofNat 1)))) <|
 .op (some 147) .bool [133, 140, 144, 146, 132] (.call 61 [(.tmp 133), (.tmp 140), (.tmp 144), (.tmp 146)]) <|
 .nil) 148 [132, 147] (.tmp 132) (.tmp 147) (.con (V.bool false)) <|
 .op (some 8) .any [148] (.mov (.tmp 148)) <|
 .nil) [0, 1, 3, 7, 15, 31, 63, 127, 255, 511, 255, 1279, 3327, 8191, 16383, 32767, 65535, 131071, 262143, 524287, 1048575, 2097151, 4194303, 4194303, 12582911, 4194303, 37748735, 130023423, 264241151, 532676607, 4194303, 1077936127, 3225419775, 7520387071, 4194303, 17184063487, 68719476735, 137438953471, 274877906943])
 .ret)
 (.seq (.seq (.ops (.op (some 150) .any [49] (.bin .eql .none (.tmp 49) (.con (V.int .i64 (Int.ofNat 7)))) <|
 .op (some 149) .any [150] (.mov (.tmp 150)) <|
 .nil))
 (.cond (.tmp 149) .skip
 (.ops (.op (some 151) .any [49] (.bin .eql .none (.tmp 49) (.con (V.int .i64 (Int.ofNat 8)))) <|
 .op (some 149) .any [151] (.mov (.tmp 151)) <|
 .nil))))
 (.keep [(0, .ptr), (1, (.int .i64)), (3, (.int .i64)), (6, .ptr), (149, .bool)] [] [] cc3)))))))
def T61_2 (E : List (Nat × Blk)) (D : Den) (W : DrawFn) (K3 : Nat → Nat → Int → Int → Nat → Nat → Bool → H → Ans) (v0b : Nat) (v0o : Nat) (v1 : Int) (v3 : Int) (v6b : Nat) (v6o : Nat) (v49 : Int) (v95 : Bool) (r9_0 : Int) (r9_1 : V) (r9_2 : Bool) (r9_3 : Bool) (r9_4 : Bool) (r9_5 : Bool) (r9_6 : Int) (r9_7 : Int) (r9_8 : V) (r9_9 : V) (r9_10 : Int) (r9_11 : Bool) (r9_12 : Int) (σ : H) : Ans :=
 condK v95 (
 ldnK E σ v6b v6o 6 fun l1 =>
 rtCons l1 fun x2 l3 =>
 rtInt .i64 x2 fun x4 =>
 rtCons l3 fun x5 l6 =>
 rtInt .i64 x5 fun x7 =>
 rtCons l6 fun x8 l9 =>
 rtCons l9 fun x10 l11 =>
 rtCons l11 fun x12 l13 =>
 rtInt .i64 x12 fun x14 =>
 rtCons l13 fun x15 l16 =>
 rtNil l16 (
 callK (D 140 [(V.ptr v0b v0o), (V.agg [(V.int .i64 r9_0), r9_1, (V.bool r9_2), (V.bool r9_3), (V.bool r9_4), (V.bool r9_5), (V.int .i64 r9_6), (V.int .i64 r9_7), r9_8, r9_9, (V.int .i64 r9_10), (V.bool r9_11), (V.int .i64 r9_12)]), (V.agg [(V.int .i64 x4), (V.int .i64 x7), x8, x10, (V.int .i64 x14), x15])] σ) fun u17 s18 =>
 rtBool u17 fun x19 =>
 some ((V.bool x19), s18))) (
 condK (eqF v49 (Int.ofNat 10)) (
 ldnK E σ v6b v6o 6 fun l20 =>
 rtCons l20 fun x21 l22 =>
 rtInt .i64 x21 fun x23 =>
 rtCons l22 fun x24 l25 =>
 rtInt .i64 x24 fun x26 =>
 rtCons l25 fun x27 l28 =>
 rtCons l28 fun x29 l30 =>
 rtCons l30 fun x31 l32 =>
 rtInt .i64 x31 fun x33 =>
 rtCons l32 fun x34 l35 =>
 rtNil l35 (
 callK (D 141 [(V.ptr v0b v0o), (V.agg [(V.int .i64 r9_0), r9_1, (V.bool r9_2), (V.bool r9_3), (V.bool r9_4), (V.bool r9_5), (V.int .i64 r9_6), (V.int .i64 r9_7), r9_8, r9_9, (V.int .i64 r9_10), (V.bool r9_11), (V.int .i64 r9_12)]), (V.agg [(V.int .i64 x23), (V.int .i64 x26), x27, x29, (V.int .i64 x33), x34]), (V.int .i64 v3)] σ) fun u36 s37 =>
 rtBool u36 fun x38 =>
 some ((V.bool x38), s37))) (
 condK (eqF v49 (Int.ofNat 9)) (
 ldnK E σ v6b v6o 6 fun l39 =>
 rtCons l39 fun x40 l41 =>
 rtInt .i64 x40 fun x42 =>
 rtCons l41 fun x43 l44 =>
 rtInt .i64 x43 fun x45 =>
 rtCons l44 fun x46 l47 =>
 rtCons l47 fun x48 l49 =>
 rtCons l49 fun x50 l51 =>
 rtInt .i64 x50 fun x52 =>
 rtCons l51 fun x53 l54 =>
 rtNil l54 (
 callK (D 138 [(V.agg [(V.int .i64 x42), (V.int .i64 x45), x46, x48, (V.int .i64 x52), x53]), (V.int .i64 (Int.ofNat 5))] σ) fun u55 s56 =>
 rtBool u55 fun x57 =>
 joinB (fun c58 s59 =>
 joinB (fun c61 s62 =>
 joinB (fun c64 s65 =>
 joinB (fun c67 s68 =>
 some ((V.bool c67), s68)) fun k69 =>
 condK c64 (
 ldK E s65 v6b (Nat.add v6o 1) fun u70 =>
 rtInt .i64 u70 fun x71 =>
 iaddrSK 11 r9_9 x71 fun b72 o73 =>
 ldK E s65 b72 (Nat.add o73 1) fun u74 =>
 rtInt .i64 u74 fun x75 =>
 ldK E s65 v6b (Nat.add v6o 3) fun u76 =>
 iaddrSK 6 u76 (Int.ofNat 0) fun b77 o78 =>
 ldnK E s65 b77 o78 6 fun l79 =>
 rtCons l79 fun x80 l81 =>
 rtInt .i64 x80 fun x82 =>
 rtCons l81 fun x83 l84 =>
 rtInt .i64 x83 fun x85 =>
 rtCons l84 fun x86 l87 =>
 rtCons l87 fun x88 l89 =>
 rtCons l89 fun x90 l91 =>
 rtInt .i64 x90 fun x92 =>
 rtCons l91 fun x93 l94 =>
 rtNil l94 (
 callK (D 61 [(V.ptr v0b v0o), (V.int .i64 x75), (V.agg [(V.int .i64 x82), (V.int .i64 x85), x86, x88, (V.int .i64 x92), x93]), (V.int .i64 (addF .i64 v3 (Int.ofNat 1)))] s65) fun u95 s96 =>
 rtBool u95 fun x97 =>
 k69 x97 s96)) (
 k69 false s65)) fun k66 =>
 condK c61 (
 ldK E s62 v6b (Nat.add v6o 3) fun u98 =>
 slenK u98 fun n99 =>
 k66 (eqF (Int.ofNat n99) (Int.ofNat 1)) s62) (
 k66 false s62)) fun k63 =>
 condK c58 (
 ldK E s59 v6b (Nat.add v6o 1) fun u100 =>
 rtInt .i64 u100 fun x101 =>
 slenK r9_9 fun n102 =>
 k63 (ltF x101 (Int.ofNat n102)) s59) (
 k63 false s59)) fun k60 =>
 condK x57 (
 ldK E s56 v6b (Nat.add v6o 1) fun u103 =>
 rtInt .i64 u103 fun x104 =>
 k60 (leF (Int.ofNat 0) x104) s56) (
 k60 false s56))) (
 condK (eqF v49 (Int.ofNat 7)) (
 K3 v0b v0o v1 v3 v6b v6o (eqF v49 (Int.ofNat 7)) σ) (
 K3 v0b v0o v1 v3 v6b v6o (eqF v49 (Int.ofNat 8)) σ))))
def C61_3 : XC := (.cond (.tmp 149) (.seq (.ops (.op (some 152) .any [0] (.mov (.tmp 0)) <|
 .op (some 153) .any [1] (.mov (.tmp 1)) <|
 .op (some 154) (.agg [(.int .i64), (.int .i64), .any, .any, (.int .i64), .any]) [6] (.load (some 6) (.tmp 6)) <|
 .op (some 155) .any [3] (.mov (.tmp 3)) <|
 .op (some 156) .bool [152, 153, 154, 155] (.call 142 [(.tmp 152), (.tmp 153), (.tmp 154), (.tmp 155)]) <|
 .op (some 8) .any [156] (.mov (.tmp 156)) <|
 .nil))
 .ret)
 .skip)
def T61_3 (E : List (Nat × Blk)) (D : Den) (W : DrawFn) (K1 : H → Ans) (v0b : Nat) (v0o : Nat) (v1 : Int) (v3 : Int) (v6b : Nat) (v6o : Nat) (v149 : Bool) (σ : H) : Ans :=
 condK v149 (
 ldnK E σ v6b v6o 6 fun l1 =>
 rtCons l1 fun x2 l3 =>
 rtInt .i64 x2 fun x4 =>
 rtCons l3 fun x5 l6 =>
 rtInt .i64 x5 fun x7 =>
 rtCons l6 fun x8 l9 =>
 rtCons l9 fun x10 l11 =>
 rtCons l11 fun x12 l13 =>
 rtInt .i64 x12 fun x14 =>
 rtCons l13 fun x15 l16 =>
 rtNil l16 (
 callK (D 142 [(V.ptr v0b v0o), (V.int .i64 v1), (V.agg [(V.int .i64 x4), (V.int .i64 x7), x8, x10, (V.int .i64 x14), x15]), (V.int .i64 v3)] σ) fun u17 s18 =>
 rtBool u17 fun x19 =>
 some ((V.bool x19), s18))) (
 K1 σ)
theorem P61_0 (E : List (Nat × Blk)) (D : Den) (W : DrawFn) (N : Nat) (cc1 : XC) (cc2 : XC) (v0b : Nat) (v0o : Nat) (v1 : Int) (v2_0 : Int) (v2_1 : Int) (v2_2 : V) (v2_3 : V) (v2_4 : Int) (v2_5 : V) (v3 : Int) (σ : H) :
  denC E D W N (C61_0 cc1 cc2) ⟨[(0, (V.ptr v0b v0o)), (1, (V.int .i64 v1)), (2, (V.agg [(V.int .i64 v2_0), (V.int .i64 v2_1), v2_2, v2_3, (V.int .i64 v2_4), v2_5])), (3, (V.int .i64 v3))], [], [], σ⟩ (Fin61 E) (fun _ _ => none) (Fin61 E) =
  T61_0 E D W (fun v0b v0o v1 v3 v6b v6o v49 v95 r9_0 r9_1 r9_2 r9_3 r9_4 r9_5 r9_6 r9_7 r9_8 r9_9 r9_10 r9_11 r9_12 σ => denC E D W N cc2 ⟨[(0, (V.ptr v0b v0o)), (1, (V.int .i64 v1)), (3, (V.int .i64 v3)), (6, (V.ptr v6b v6o)), (49, (V.int .i64 v49)), (95, (V.bool v95))], [(9, (9, 0))], [(9, [(V.int .i64 r9_0), r9_1, (V.bool r9_2), (V.bool r9_3), (V.bool r9_4), (V.bool r9_5), (V.int .i64 r9_6), (V.int .i64 r9_7), r9_8, r9_9, (V.int .i64 r9_10), (V.bool r9_11), (V.int .i64 r9_12)])], σ⟩ (fun s' => denC E D W N (.keep [] [] [] cc1) s' (Fin61 E) (fun _ _ => none) (Fin61 E)) (blkK 0 (fun s' => denC E D W N (.keep [] [] [] cc1) s' (Fin61 E) (fun _ _ => none) (Fin61 E)) (fun _ _ => none)) (Fin61 E)) v0b v0o v1 v2_0 v2_1 v2_2 v2_3 v2_4 v2_5 v3 σ := by kernel_rfl
theorem P61_1 (E : List (Nat × Blk)) (D : Den) (W : DrawFn) (N : Nat) (σ : H) :
  denC E D W N (C61_1 ) ⟨[], [], [], σ⟩ (Fin61 E) (fun _ _ => none) (Fin61 E) =
  T61_1 E D W   σ := by kernel_rfl
theorem P61_2 (E : List (Nat × Blk)) (D : Den) (W : DrawFn) (N : Nat) (cc1 : XC) (cc3 : XC) (v0b : Nat) (v0o : Nat) (v1 : Int) (v3 : Int) (v6b : Nat) (v6o : Nat) (v49 : Int) (v95 : Bool) (r9_0 : Int) (r9_1 : V) (r9_2 : Bool) (r9_3 : Bool) (r9_4 : Bool) (r9_5 : Bool) (r9_6 : Int) (r9_7 : Int) (r9_8 : V) (r9_9 : V) (r9_10 : Int) (r9_11 : Bool) (r9_12 : Int) (σ : H) :
  denC E D W N (C61_2 cc3) ⟨[(0, (V.ptr v0b v0o)), (1, (V.int .i64 v1)), (3, (V.int .i64 v3)), (6, (V.ptr v6b v6o)), (49, (V.int .i64 v49)), (95, (V.bool v95))], [(9, (9, 0))], [(9, [(V.int .i64 r9_0), r9_1, (V.bool r9_2), (V.bool r9_3), (V.bool r9_4), (V.bool r9_5), (V.int .i64 r9_6), (V.int .i64 r9_7), r9_8, r9_9, (V.int .i64 r9_10), (V.bool r9_11), (V.int .i64 r9_12)])], σ⟩ (fun s' => denC E D W N (.keep [] [] [] cc1) s' (Fin61 E) (fun _ _ => none) (Fin61 E)) (blkK 0 (fun s' => denC E D W N (.keep [] [] [] cc1) s' (Fin61 E) (fun _ _ => none) (Fin61 E)) (fun _ _ => none)) (Fin61 E) =
  T61_2 E D W (fun v0b v0o v1 v3 v6b v6o v149 σ => denC E D W N cc3 ⟨[(0, (V.ptr v0b v0o)), (1, (V.int .i64 v1)), (3, (V.int .i64 v3)), (6, (V.ptr v6b v6o)), (149, (V.bool v149))], [], [], σ⟩ (fun s' => denC E D W N (.keep [] [] [] cc1) s' (Fin61 E) (fun _ _ => none) (Fin61 E)) (blkK 0 (fun s' => denC E D W N (.keep [] [] [] cc1) s' (Fin61 E) (fun _ _ => none) (Fin61 E)) (fun _ _ => none)) (Fin61 E)) v0b v0o v1 v3 v6b v6o v49 v95 r9_0 r9_1 r9_2 r9_3 r9_4 r9_5 r9_6 r9_7 r9_8 r9_9 r9_10 r9_11 r9_12 σ := by kernel_rfl
theorem P61_3 (E : List (Nat × Blk)) (D : Den) (W : DrawFn) (N : Nat) (cc1 : XC) (v0b : Nat) (v0o : Nat) (v1 : Int) (v3 : Int) (v6b : Nat) (v6o : Nat) (v149 : Bool) (σ : H) :
  denC E D W N (C61_3 ) ⟨[(0, (V.ptr v0b v0o)), (1, (V.int .i64 v1)), (3, (V.int .i64 v3)), (6, (V.ptr v6b v6o)), (149, (V.bool v149))], [], [], σ⟩ (fun s' => denC E D W N (.keep [] [] [] cc1) s' (Fin61 E) (fun _ _ => none) (Fin61 E)) (blkK 0 (fun s' => denC E D W N (.keep [] [] [] cc1) s' (Fin61 E) (fun _ _ => none) (Fin61 E)) (fun _ _ => none)) (Fin61 E) =
  T61_3 E D W (fun  σ => denC E D W N cc1 ⟨[], [], [], σ⟩ (Fin61 E) (fun _ _ => none) (Fin61 E)) v0b v0o v1 v3 v6b v6o v149 σ := by kernel_rfl
def J61_1 (E : List (Nat × Blk)) (D : Den) (W : DrawFn) (N : Nat) : H → Ans := T61_1 E D W 
theorem JE61_1 (E : List (Nat × Blk)) (D : Den) (W : DrawFn) (N : Nat) (σ : H) :
  denC E D W N C61_1 ⟨[], [], [], σ⟩ (Fin61 E) (fun _ _ => none) (Fin61 E) = J61_1 E D W N  σ := by
  refine (P61_1 E D W N    σ).trans ?_
  kernel_rfl
def J61_3 (E : List (Nat × Blk)) (D : Den) (W : DrawFn) (N : Nat) : Nat → Nat → Int → Int → Nat → Nat → Bool → H → Ans := T61_3 E D W (J61_1 E D W N )
theorem JE61_3 (E : List (Nat × Blk)) (D : Den) (W : DrawFn) (N : Nat) (v0b : Nat) (v0o : Nat) (v1 : Int) (v3 : Int) (v6b : Nat) (v6o : Nat) (v149 : Bool) (σ : H) :
  denC E D W N C61_3 ⟨[(0, (V.ptr v0b v0o)), (1, (V.int .i64 v1)), (3, (V.int .i64 v3)), (6, (V.ptr v6b v6o)), (149, (V.bool v149))], [], [], σ⟩ (fun s' => denC E D W N (.keep [] [] [] C61_1) s' (Fin61 E) (fun _ _ => none) (Fin61 E)) (blkK 0 (fun s' => denC E D W N (.keep [] [] [] C61_1) s' (Fin61 E) (fun _ _ => none) (Fin61 E)) (fun _ _ => none)) (Fin61 E) = J61_3 E D W N v0b v0o v1 v3 v6b v6o v149 σ := by
  refine (P61_3 E D W N C61_1  v0b v0o v1 v3 v6b v6o v149 σ).trans ?_
  simp only [JE61_1]
  kernel_rfl
def J61_2 (E : List (Nat × Blk)) (D : Den) (W : DrawFn) (N : Nat) : Nat → Nat → Int → Int → Nat → Nat → Int → Bool → Int → V → Bool → Bool → Bool → Bool → Int → Int → V → V → Int → Bool → Int → H → Ans := T61_2 E D W (J61_3 E D W N )
theorem JE61_2 (E : List (Nat × Blk)) (D : Den) (W : DrawFn) (N : Nat) (v0b : Nat) (v0o : Nat) (v1 : Int) (v3 : Int) (v6b : Nat) (v6o : Nat) (v49 : Int) (v95 : Bool) (r9_0 : Int) (r9_1 : V) (r9_2 : Bool) (r9_3 : Bool) (r9_4 : Bool) (r9_5 : Bool) (r9_6 : Int) (r9_7 : Int) (r9_8 : V) (r9_9 : V) (r9_10 : Int) (r9_11 : Bool) (r9_12 : Int) (σ : H) :
  denC E D W N (C61_2 C61_3) ⟨[(0, (V.ptr v0b v0o)), (1, (V.int .i64 v1)), (3, (V.int .i64 v3)), (6, (V.ptr v6b v6o)), (49, (V.int .i64 v49)), (95, (V.bool v95))], [(9, (9, 0))], [(9, [(V.int .i64 r9_0), r9_1, (V.bool r9_2), (V.bool r9_3), (V.bool r9_4), (V.bool r9_5), (V.int .i64 r9_6), (V.int .i64 r9_7), r9_8, r9_9, (V.int .i64 r9_10), (V.bool r9_11), (V.int .i64 r9_12)])], σ⟩ (fun s' => denC E D W N (.keep [] [] [] C61_1) s' (Fin61 E) (fun _ _ => none) (Fin61 E)) (blkK 0 (fun s' => denC E D W N (.keep [] [] [] C61_1) s' (Fin61 E) (fun _ _ => none) (Fin61 E)) (fun _ _ => none)) (Fin61 E) = J61_2 E D W N v0b v0o v1 v3 v6b v6o v49 v95 r9_0 r9_1 r9_2 r9_3 r9_4 r9_5 r9_6 r9_7 r9_8 r9_9 r9_10 r9_11 r9_12 σ := by
  refine (P61_2 E D W N C61_1 C61_3  v0b v0o v1 v3 v6b v6o v49 v95 r9_0 r9_1 r9_2 r9_3 r9_4 r9_5 r9_6 r9_7 r9_8 r9_9 r9_10 r9_11 r9_12 σ).trans ?_
  simp only [JE61_3]
  kernel_rfl
def J61_0 (E : List (Nat × Blk)) (D : Den) (W : DrawFn) (N : Nat) : Nat → Nat → Int → Int → Int → V → V → Int → V → Int → H → Ans := T61_0 E D W (J61_2 E D W N )
theorem JE61_0 (E : List (Nat × Blk)) (D : Den) (W : DrawFn) (N : Nat) (v0b : Nat) (v0o : Nat) (v1 : Int) (v2_0 : Int) (v2_1 : Int) (v2_2 : V) (v2_3 : V) (v2_4 : Int) (v2_5 : V) (v3 : Int) (σ : H) :
  denC E D W N (C61_0 C61_1 (C61_2 C61_3)) ⟨[(0, (V.ptr v0b v0o)), (1, (V.int .i64 v1)), (2, (V.agg [(V.int .i64 v2_0), (V.int .i64 v2_1), v2_2, v2_3, (V.int .i64 v2_4), v2_5])), (3, (V.int .i64 v3))], [], [], σ⟩ (Fin61 E) (fun _ _ => none) (Fin61 E) = J61_0 E D W N v0b v0o v1 v2_0 v2_1 v2_2 v2_3 v2_4 v2_5 v3 σ := by
  refine (P61_0 E D W N C61_1 (C61_2 C61_3)  v0b v0o v1 v2_0 v2_1 v2_2 v2_3 v2_4 v2_5 v3 σ).trans ?_
  simp only [JE61_2]
  kernel_rfl
def F61 (E : List (Nat × Blk)) (D : Den) (W : DrawFn) (N : Nat) (args : List V) (σ : H) : Ans :=
 rtCons args fun x1 l2 =>
 rtPtr x1 fun b3 o4 =>
 rtCons l2 fun x5 l6 =>
 rtInt .i64 x5 fun x7 =>
 rtCons l6 fun x8 l9 =>
 rtAgg x8 fun l10 =>
 rtCons l10 fun x11 l12 =>
 rtInt .i64 x11 fun x13 =>
 rtCons l12 fun x14 l15 =>
 rtInt .i64 x14 fun x16 =>
 rtCons l15 fun x17 l18 =>
 rtCons l18 fun x19 l20 =>
 rtCons l20 fun x21 l22 =>
 rtInt .i64 x21 fun x23 =>
 rtCons l22 fun x24 l25 =>
 rtNil l25 (
 rtCons l9 fun x26 l27 =>
 rtInt .i64 x26 fun x28 =>
 rtNil l27 (
 J61_0 E D W N b3 o4 x7 x13 x16 x17 x19 x23 x24 x28 σ))
def A61 : XFn := ⟨157, [.ptr, (.int .i64), (.agg [(.int .i64), (.int .i64), .any, .any, (.int .i64), .any]), (.int .i64)], [(.tmp 8)], (C61_0 C61_1 (C61_2 C61_3))⟩
theorem FE61 (E : List (Nat × Blk)) (D : Den) (W : DrawFn) (N : Nat) (args : List V) (σ : H) : runX E D W N A61 args σ = F61 E D W N args σ := by
  unfold F61
  simp only [← JE61_0]
  kernel_rfl
theorem AO61 : A61.body.ok = true := by kernel_rfl

/-! ### F62: ogham_value.Count -/
def Fin62 (E : List (Nat × Blk)) : St → Ans := fun s => resK E s [(.tmp 2)] fun l => some (oneV l, s.σ)
def C62_0 (cc1 : XC) (cc2 : XC) : XC := (.seq (.ops (.op (some 1) .any [0] (.box 35 (.tmp 0)) <|
 .op (some 2) .any [] (.mov (.con (V.int .i64 (Int.ofNat 0)))) <|
 .nil))
 (.seq (.ops (.op (some 3) .any [] (.mov (.con (V.int .i64 (Int.ofNat 1)))) <|
 .nil))
 (.seq (.seq (.ops (.op (some 6) .any [1] (.faddr 3 (.tmp 1)) <|
 .op (some 7) .any [6] (.load none (.tmp 6)) <|
 .op (some 8) .any [7] (.len false (.tmp 7)) <|
 .op (some 9) .any [] (.mov (.con (V.int .i64 (Int.ofNat 0)))) <|
 .nil))
 (.block 0 (.loop [(3, (.int .i64)), (7, .any), (8, (.int .i64)), (9, (.int .i64))] [] [] cc2)))
 (.keep [(3, (.int .i64))] [] [] cc1))))
def T62_0 (E : List (Nat × Blk)) (D : Den) (W : DrawFn) (K2 : Int → V → Int → Int → H → Ans) (v0_0 : Int) (v0_1 : Int) (v0_2 : V) (v0_3 : V) (v0_4 : Int) (v0_5 : V) (σ : H) : Ans :=
 chk (allOne (V.cells (V.agg [(V.int .i64 v0_0), (V.int .i64 v0_1), v0_2, v0_3, (V.int .i64 v0_4), v0_5]))) (
 let s1 := newB σ (.cells (V.cells (V.agg [(V.int .i64 v0_0), (V.int .i64 v0_1), v0_2, v0_3, (V.int .i64 v0_4), v0_5])));
 ldK E s1 (H.next σ) 3 fun u2 =>
 slenK u2 fun n3 =>
 K2 (Int.ofNat 1) u2 (Int.ofNat n3) (Int.ofNat 0) s1)
def C62_1 : XC := (.seq (.ops (.op (some 18) .any [3] (.mov (.tmp 3)) <|
 .op (some 2) .any [18] (.mov (.tmp 18)) <|
 .nil))
 .ret)
def T62_1 (E : List (Nat × Blk)) (D : Den) (W : DrawFn) (v3 : Int) (σ : H) : Ans :=
 some ((V.int .i64 v3), σ)
def C62_2 : XC := (.seq (.ops (.op (some 10) .any [9, 8] (.bin .lss .none (.tmp 9) (.tmp 8)) <|
 .nil))
 (.seq (.cond (.tmp 10) .skip
 (.exit 0))
 (.seq (.block 1 (.seq (.ops (.op (some 11) .any [7, 9] (.iaddrS 6 (.tmp 7) (.tmp 9)) <|
 .op (some 12) (.agg [(.int .i64), (.int .i64), .any, .any, (.int .i64), .any]) [11] (.load (some 6) (.tmp 11)) <|
 .pal 5 [] 35 [(V.int .i64 (Int.ofNat 0)), (V.int .i64 (Int.ofNat 0)), V.nils, V.nils, (V.int .i64 (Int.ofNat 0)), V.nils] <|
 .op none (.agg [(.int .i64), (.int .i64), .any, .any, (.int .i64), .any]) [5, 12] (.store 6 (.tmp 5) (.tmp 12)) <|
 .nil))
 (.ops (.op (some 13) .any [3] (.mov (.tmp 3)) <|
 .op (some 14) (.agg [(.int .i64), (.int .i64), .any, .any, (.int .i64), .any]) [5] (.load (some 6) (.tmp 5)) <|
 .op (some 15) (.int .i64) [14] (.call 62 [(.tmp 14)]) <|
 .op (some 16) .any [13, 15] (.bin .add .none (.tmp 13) (.tmp 15)) <|
 .op (some 3) .any [16] (.mov (.tmp 16)) <|
 .nil))))
 (.ops (.op (some 17) .any [9] (.bin .add .none (.tmp 9) (.con (V.int .i64 (Int.ofNat 1)))) <|
 .op (some 9) .any [17] (.mov (.tmp 17)) <|
 .nil)))))
def T62_2 (E : List (Nat × Blk)) (D : Den) (W : DrawFn) (K1 : Int → H → Ans) (R2 : Int → V → Int → Int → H → Ans) (v3 : Int) (v7 : V) (v8 : Int) (v9 : Int) (σ : H) : Ans :=
 condK (ltF v9 v8) (
 iaddrSK 6 v7 v9 fun b1 o2 =>
 ldnK E σ b1 o2 6 fun l3 =>
 rtCons l3 fun x4 l5 =>
 rtInt .i64 x4 fun x6 =>
 rtCons l5 fun x7 l8 =>
 rtInt .i64 x7 fun x9 =>
 rtCons l8 fun x10 l11 =>
 rtCons l11 fun x12 l13 =>
 rtCons l13 fun x14 l15 =>
 rtInt .i64 x14 fun x16 =>
 rtCons l15 fun x17 l18 =>
 rtNil l18 (
 chk (allOne [(V.int .i64 x6), (V.int .i64 x9), x10, x12, (V.int .i64 x16), x17]) (
 callK (D 62 [(V.agg [(V.int .i64 x6), (V.int .i64 x9), x10, x12, (V.int .i64 x16), x17])] σ) fun u19 s20 =>
 rtInt .i64 u19 fun x21 =>
 R2 (addF .i64 v3 x21) v7 v8 (addF .i64 v9 (Int.ofNat 1)) s20))) (
 K1 v3 σ)
theorem P62_0 (E : List (Nat × Blk)) (D : Den) (W : DrawFn) (N : Nat) (cc1 : XC) (cc2 : XC) (v0_0 : Int) (v0_1 : Int) (v0_2 : V) (v0_3 : V) (v0_4 : Int) (v0_5 : V) (σ : H) :
  denC E D W N (C62_0 cc1 cc2) ⟨[(0, (V.agg [(V.int .i64 v0_0), (V.int .i64 v0_1), v0_2, v0_3, (V.int .i64 v0_4), v0_5]))], [], [], σ⟩ (Fin62 E) (fun _ _ => none) (Fin62 E) =
  T62_0 E D W (fun v3 v7 v8 v9 σ => iterK (fun rec s' => denC E D W N cc2 s' (fun s'' => keepS [(3, (.int .i64)), (7, .any), (8, (.int .i64)), (9, (.int .i64))] [] [] s'' rec) (blkK 0 (fun s' => denC E D W N (.keep [(3, (.int .i64))] [] [] cc1) s' (Fin62 E) (fun _ _ => none) (Fin62 E)) (fun _ _ => none)) (Fin62 E)) N ⟨[(3, (V.int .i64 v3)), (7, v7), (8, (V.int .i64 v8)), (9, (V.int .i64 v9))], [], [], σ⟩) v0_0 v0_1 v0_2 v0_3 v0_4 v0_5 σ := by kernel_rfl
theorem P62_1 (E : List (Nat × Blk)) (D : Den) (W : DrawFn) (N : Nat) (v3 : Int) (σ : H) :
  denC E D W N (C62_1 ) ⟨[(3, (V.int .i64 v3))], [], [], σ⟩ (Fin62 E) (fun _ _ => none) (Fin62 E) =
  T62_1 E D W  v3 σ := by kernel_rfl
theorem P62_2 (E : List (Nat × Blk)) (D : Den) (W : DrawFn) (N : Nat) (cc1 : XC) (li2 : St → Ans) (v3 : Int) (v7 : V) (v8 : Int) (v9 : Int) (σ : H) :
  denC E D W N (C62_2 ) ⟨[(3, (V.int .i64 v3)), (7, v7), (8, (V.int .i64 v8)), (9, (V.int .i64 v9))], [], [], σ⟩ (fun s'' => keepS [(3, (.int .i64)), (7, .any), (8, (.int .i64)), (9, (.int .i64))] [] [] s'' li2) (blkK 0 (fun s' => denC E D W N (.keep [(3, (.int .i64))] [] [] cc1) s' (Fin62 E) (fun _ _ => none) (Fin62 E)) (fun _ _ => none)) (Fin62 E) =
  T62_2 E D W (fun v3 σ => denC E D W N cc1 ⟨[(3, (V.int .i64 v3))], [], [], σ⟩ (Fin62 E) (fun _ _ => none) (Fin62 E)) (fun v3 v7 v8 v9 σ => li2 ⟨[(3, (V.int .i64 v3)), (7, v7), (8, (V.int .i64 v8)), (9, (V.int .i64 v9))], [], [], σ⟩) v3 v7 v8 v9 σ := by kernel_rfl
def J62_1 (E : List (Nat × Blk)) (D : Den) (W : DrawFn) (N : Nat) : Int → H → Ans := T62_1 E D W 
theorem JE62_1 (E : List (Nat × Blk)) (D : Den) (W : DrawFn) (N : Nat) (v3 : Int) (σ : H) :
  denC E D W N C62_1 ⟨[(3, (V.int .i64 v3))], [], [], σ⟩ (Fin62 E) (fun _ _ => none) (Fin62 E) = J62_1 E D W N v3 σ := by
  refine (P62_1 E D W N   v3 σ).trans ?_
  kernel_rfl
def L62_2 (E : List (Nat × Blk)) (D : Den) (W : DrawFn) (N : Nat) (n : Nat) : Int → V → Int → Int → H → Ans :=
  Nat.rec (fun _ _ _ _ _ => none) (fun _ ih => T62_2 E D W (J62_1 E D W N ) ih) n
theorem LE62_2 (E : List (Nat × Blk)) (D : Den) (W : DrawFn) (N : Nat) (n : Nat) : ∀ (v3 : Int) (v7 : V) (v8 : Int) (v9 : Int) (σ : H),
  iterK (fun rec s' => denC E D W N C62_2 s' (fun s'' => keepS [(3, (.int .i64)), (7, .any), (8, (.int .i64)), (9, (.int .i64))] [] [] s'' rec) (blkK 0 (fun s' => denC E D W N (.keep [(3, (.int .i64))] [] [] C62_1) s' (Fin62 E) (fun _ _ => none) (Fin62 E)) (fun _ _ => none)) (Fin62 E)) n ⟨[(3, (V.int .i64 v3)), (7, v7), (8, (V.int .i64 v8)), (9, (V.int .i64 v9))], [], [], σ⟩ = L62_2 E D W N n v3 v7 v8 v9 σ := by
  induction n with
  | zero => intro v3 v7 v8 v9 σ; rfl
  | succ n ihn =>
    intro v3 v7 v8 v9 σ
    rw [iterK_succ]
    refine (P62_2 E D W N C62_1 (iterK (fun rec s' => denC E D W N C62_2 s' (fun s'' => keepS [(3, (.int .i64)), (7, .any), (8, (.int .i64)), (9, (.int .i64))] [] [] s'' rec) (blkK 0 (fun s' => denC E D W N (.keep [(3, (.int .i64))] [] [] C62_1) s' (Fin62 E) (fun _ _ => none) (Fin62 E)) (fun _ _ => none)) (Fin62 E)) n) v3 v7 v8 v9 σ).trans ?_
    simp only [ihn, JE62_1]
    kernel_rfl
def J62_0 (E : List (Nat × Blk)) (D : Den) (W : DrawFn) (N : Nat) : Int → Int → V → V → Int → V → H → Ans := T62_0 E D W (L62_2 E D W N N)
theorem JE62_0 (E : List (Nat × Blk)) (D : Den) (W : DrawFn) (N : Nat) (v0_0 : Int) (v0_1 : Int) (v0_2 : V) (v0_3 : V) (v0_4 : Int) (v0_5 : V) (σ : H) :
  denC E D W N (C62_0 C62_1 C62_2) ⟨[(0, (V.agg [(V.int .i64 v0_0), (V.int .i64 v0_1), v0_2, v0_3, (V.int .i64 v0_4), v0_5]))], [], [], σ⟩ (Fin62 E) (fun _ _ => none) (Fin62 E) = J62_0 E D W N v0_0 v0_1 v0_2 v0_3 v0_4 v0_5 σ := by
  refine (P62_0 E D W N C62_1 C62_2  v0_0 v0_1 v0_2 v0_3 v0_4 v0_5 σ).trans ?_
  simp only [LE62_2]
  kernel_rfl
def F62 (E : List (Nat × Blk)) (D : Den) (W : DrawFn) (N : Nat) (args : List V) (σ : H) : Ans :=
 rtCons args fun x1 l2 =>
 rtAgg x1 fun l3 =>
 rtCons l3 fun x4 l5 =>
 rtInt .i64 x4 fun x6 =>
 rtCons l5 fun x7 l8 =>
 rtInt .i64 x7 fun x9 =>
 rtCons l8 fun x10 l11 =>
 rtCons l11 fun x12 l13 =>
 rtCons l13 fun x14 l15 =>
 rtInt .i64 x14 fun x16 =>
 rtCons l15 fun x17 l18 =>
 rtNil l18 (
 rtNil l2 (
 J62_0 E D W N x6 x9 x10 x12 x16 x17 σ))
def A62 : XFn := ⟨19, [(.agg [(.int .i64), (.int .i64), .any, .any, (.int .i64), .any])], [(.tmp 2)], (C62_0 C62_1 C62_2)⟩
theorem FE62 (E : List (Nat × Blk)) (D : Den) (W : DrawFn) (N : Nat) (args : List V) (σ : H) : runX E D W N A62 args σ = F62 E D W N args σ := by
  unfold F62
  simp only [← JE62_0]
  kernel_rfl
theorem AO62 : A62.body.ok = true := by kernel_rfl

def C63_0 (cc1 : XC) (cc2 : XC) : XC := (.seq (.ops (.op (some 6) .any [] (.mov (.con (V.bool false))) <|
 .nil))
 (.seq (.seq (.ops (.op (some 10) .any [0] (.mov (.tmp 0)) <|
 .op (some 11) .any [10] (.len false (.tmp 10)) <|
 .op (some 12) .any [1] (.mov (.tmp 1)) <|
 .op (some 13) .any [12] (.len false (.tmp 12)) <|
 .op (some 14) .any [11, 13] (.bin .neq .none (.tmp 11) (.tmp 13)) <|
 .nil))
 (.cond (.tmp 14) (.seq (.ops (.op (some 6) .any [] (.mov (.con (V.bool false))) <|
 .nil))
 .ret)
 .skip))
 (.seq (.seq (.ops (.op (some 15) .any [0] (.mov (.tmp 0)) <|
 .op (some 16) .any [15] (.len false (.tmp 15)) <|
 .op (some 17) .any [] (.mov (.con (V.int .i64 (Int.ofNat 0)))) <|
 .nil))
 (.block 0 (.loop [(1, .any), (2, .any), (15, .any), (16, (.int .i64)), (17, (.int .i64))] [] [] cc2)))
 (.keep [] [] [] cc1))))
def C63_1 : XC := (.seq (.ops (.op (some 6) .any [] (.mov (.con (V.bool true))) <|
 .nil))
 .ret)
def C63_2 : XC := (.seq (.ops (.op (some 18) .any [17, 16] (.bin .lss .none (.tmp 17) (.tmp 16)) <|
 .nil))
 (.seq (.cond (.tmp 18) .skip
 (.exit 0))
 (.seq (.block 1 (.seq (.ops (.op (some 19) .any [17] (.mov (.tmp 17)) <|
 .op (some 20) .any [15, 17] (.iaddrS 6 (.tmp 15) (.tmp 17)) <|
 .op (some 21) (.agg [(.int .i64), (.int .i64), .any, .any, (.int .i64), .any]) [20] (.load (some 6) (.tmp 20)) <|
 .pal 8 [] 35 [(V.int .i64 (Int.ofNat 0)), (V.int .i64 (Int.ofNat 0)), V.nils, V.nils, (V.int .i64 (Int.ofNat 0)), V.nils] <|
 .op (some 7) .any [19] (.mov (.tmp 19)) <|
 .op none (.agg [(.int .i64), (.int .i64), .any, .any, (.int .i64), .any]) [8, 21] (.store 6 (.tmp 8) (.tmp 21)) <|
 .nil))
 (.seq (.ops (.op (some 22) .any [1] (.mov (.tmp 1)) <|
 .op (some 23) .any [7] (.mov (.tmp 7)) <|
 .op (some 24) .any [22, 23] (.iaddrS 6 (.tmp 22) (.tmp 23)) <|
 .op (some 25) (.agg [(.int .i64), (.int .i64), .any, .any, (.int .i64), .any]) [24] (.load (some 6) (.tmp 24)) <|
 .pal 9 [] 35 [(V.int .i64 (Int.ofNat 0)), (V.int .i64 (Int.ofNat 0)), V.nils, V.nils, (V.int .i64 (Int.ofNat 0)), V.nils] <|
 .op none (.agg [(.int .i64), (.int .i64), .any, .any, (.int .i64), .any]) [9, 25] (.store 6 (.tmp 9) (.tmp 25)) <|
 .nil))
 (.seq (.ops (.op (some 26) .any [2] (.mov (.tmp 2)) <|
 .op (some 27) (.agg [(.int .i64), (.int .i64), .any, .any, (.int .i64), .any]) [8] (.load (some 6) (.tmp 8)) <|
 .op (some 28) (.agg [(.int .i64), (.int .i64), .any, .any, (.int .i64), .any]) [9] (.load (some 6) (.tmp 9)) <|
 .op (some 29) .bool [26, 27, 28] (.callv (.tmp 26) [(.tmp 27), (.tmp 28)]) <|
 .op (some 30) .any [29] (.un .not (.tmp 29)) <|
 .nil))
 (.cond (.tmp 30) (.seq (.ops (.op (some 6) .any [] (.mov (.con (V.bool false))) <|
 .nil))
 .ret)
 .skip)))))
 (.ops (.op (some 31) .any [17] (.bin .add .none (.tmp 17) (.con (V.int .i64 (Int.ofNat 1)))) <|
 .op (some 17) .any [31] (.mov (.tmp 31)) <|
 .nil)))))
def A63 : XFn := ⟨32, [.any, .any, .any], [(.tmp 6)], (C63_0 C63_1 C63_2)⟩
def C64_0 (cc1 : XC) (cc2 : XC) : XC := (.seq (.ops (.op (some 6) .any [] (.mov (.con (V.bool false))) <|
 .nil))
 (.seq (.seq (.ops (.op (some 10) .any [0] (.mov (.tmp 0)) <|
 .op (some 11) .any [10] (.len false (.tmp 10)) <|
 .op (some 12) .any [1] (.mov (.tmp 1)) <|
 .op (some 13) .any [12] (.len false (.tmp 12)) <|
 .op (some 14) .any [11, 13] (.bin .neq .none (.tmp 11) (.tmp 13)) <|
 .nil))
 (.cond (.tmp 14) (.seq (.ops (.op (some 6) .any [] (.mov (.con (V.bool false))) <|
 .nil))
 .ret)
 .skip))
 (.seq (.seq (.ops (.op (some 15) .any [0] (.mov (.tmp 0)) <|
 .op (some 16) .any [15] (.len false (.tmp 15)) <|
 .op (some 17) .any [] (.mov (.con (V.int .i64 (Int.ofNat 0)))) <|
 .nil))
 (.block 0 (.loop [(1, .any), (2, .any), (15, .any), (16, (.int .i64)), (17, (.int .i64))] [] [] cc2)))
 (.keep [] [] [] cc1))))
def C64_1 : XC := (.seq (.ops (.op (some 6) .any [] (.mov (.con (V.bool true))) <|
 .nil))
 .ret)
def C64_2 : XC := (.seq (.ops (.op (some 18) .any [17, 16] (.bin .lss .none (.tmp 17) (.tmp 16)) <|
 .nil))
 (.seq (.cond (.tmp 18) .skip
 (.exit 0))
 (.seq (.block 1 (.seq (.ops (.op (some 19) .any [17] (.mov (.tmp 17)) <|
 .op (some 20) .any [15, 17] (.iaddrS 2 (.tmp 15) (.tmp 17)) <|
 .op (some 21) (.agg [(.int .i64), .any]) [20] (.load (some 2) (.tmp 20)) <|
 .pal 8 [] 161 [(V.int .i64 (Int.ofNat 0)), V.nils] <|
 .op (some 7) .any [19] (.mov (.tmp 19)) <|
 .op none (.agg [(.int .i64), .any]) [8, 21] (.store 2 (.tmp 8) (.tmp 21)) <|
 .nil))
 (.seq (.ops (.op (some 22) .any [1] (.mov (.tmp 1)) <|
 .op (some 23) .any [7] (.mov (.tmp 7)) <|
 .op (some 24) .any [22, 23] (.iaddrS 2 (.tmp 22) (.tmp 23)) <|
 .op (some 25) (.agg [(.int .i64), .any]) [24] (.load (some 2) (.tmp 24)) <|
 .pal 9 [] 161 [(V.int .i64 (Int.ofNat 0)), V.nils] <|
 .op none (.agg [(.int .i64), .any]) [9, 25] (.store 2 (.tmp 9) (.tmp 25)) <|
 .nil))
 (.seq (.ops (.op (some 26) .any [2] (.mov (.tmp 2)) <|
 .op (some 27) (.agg [(.int .i64), .any]) [8] (.load (some 2) (.tmp 8)) <|
 .op (some 28) (.agg [(.int .i64), .any]) [9] (.load (some 2) (.tmp 9)) <|
 .op (some 29) .bool [26, 27, 28] (.callv (.tmp 26) [(.tmp 27), (.tmp 28)]) <|
 .op (some 30) .any [29] (.un .not (.tmp 29)) <|
 .nil))
 (.cond (.tmp 30) (.seq (.ops (.op (some 6) .any [] (.mov (.con (V.bool false))) <|
 .nil))
 .ret)
 .skip)))))
 (.ops (.op (some 31) .any [17] (.bin .add .none (.tmp 17) (.con (V.int .i64 (Int.ofNat 1)))) <|
 .op (some 17) .any [31] (.mov (.tmp 31)) <|
 .nil)))))
def A64 : XFn := ⟨32, [.any, .any, .any], [(.tmp 6)], (C64_0 C64_1 C64_2)⟩
def G66_0 : List AOper := [⟨(some 33), .faddr 0 (.tmp 3), none⟩, ⟨(some 34), .faddr 3 (.tmp 33), none⟩, ⟨(some 35), .load none (.tmp 34), none⟩, ⟨(some 36), .mov (.tmp 1), none⟩, ⟨(some 37), .iaddrS 13 (.tmp 35) (.tmp 36), none⟩, ⟨(some 38), .load (some 13) (.tmp 37), none⟩, ⟨(some 39), .faddr 4 (.tmp 3), none⟩, ⟨(some 40), .faddr 3 (.tmp 39), none⟩, ⟨(some 41), .load none (.tmp 40), none⟩, ⟨(some 42), .mov (.tmp 2), none⟩, ⟨(some 43), .iaddrS 13 (.tmp 41) (.tmp 42), none⟩, ⟨(some 44), .load (some 13) (.tmp 43), none⟩, ⟨(some 45), .faddr 0 (.tmp 3), none⟩, ⟨(some 46), .faddr 3 (.tmp 45), none⟩, ⟨(some 47), .load none (.tmp 46), none⟩, ⟨(some 48), .mov (.tmp 1), none⟩, ⟨(some 49), .iaddrS 13 (.tmp 47) (.tmp 48), none⟩, ⟨(some 50), .faddr 0 (.tmp 49), none⟩, ⟨(some 51), .load none (.tmp 50), none⟩, ⟨(some 52), .faddr 4 (.tmp 3), none⟩, ⟨(some 53), .faddr 3 (.tmp 52), none⟩, ⟨(some 54), .load none (.tmp 53), none⟩, ⟨(some 55), .mov (.tmp 2), none⟩, ⟨(some 56), .iaddrS 13 (.tmp 54) (.tmp 55), none⟩, ⟨(some 57), .faddr 0 (.tmp 56), none⟩, ⟨(some 58), .load none (.tmp 57), none⟩, ⟨(some 59), .bin .eql .none (.tmp 51) (.tmp 58), none⟩, ⟨none, .store 13 (.tmp 6) (.tmp 38), none⟩, ⟨none, .store 13 (.tmp 7) (.tmp 44), none⟩, ⟨(some 8), .mov (.tmp 59), none⟩]
def H66_0 : List DP := [⟨0, [3]⟩, ⟨1, [33]⟩, ⟨3, [34]⟩, ⟨0, [1]⟩, ⟨15, [35, 36]⟩, ⟨31, [37]⟩, ⟨0, [3]⟩, ⟨64, [39]⟩, ⟨192, [40]⟩, ⟨0, [2]⟩, ⟨960, [41, 42]⟩, ⟨1984, [43]⟩, ⟨0, [3]⟩, ⟨4096, [45]⟩, ⟨12288, [46]⟩, ⟨0, [1]⟩, ⟨61440, [47, 48]⟩, ⟨126976, [49]⟩, ⟨258048, [50]⟩, ⟨0, [3]⟩, ⟨524288, [52]⟩, ⟨1572864, [53]⟩, ⟨0, [2]⟩, ⟨7864320, [54, 55]⟩, ⟨16252928, [56]⟩, ⟨33030144, [57]⟩, ⟨67104768, [51, 58]⟩, ⟨63, [6, 38]⟩, ⟨134221823, [7, 44]⟩, ⟨536870911, [59]⟩]
def C66_0 : XC := (.seq (.ops (.op (some 3) .any [0] (.box 88 (.tmp 0)) <|
 .op (some 6) .any [] (.alloc 165 [(V.int .i64 (Int.ofNat 0)), V.nils, (V.bool false), (V.bool false), (V.bool false), (V.bool false), (V.int .i64 (Int.ofNat 0)), (V.int .i64 (Int.ofNat 0)), V.nils, V.nils, (V.int .i64 (Int.ofNat 0)), (V.bool false), (V.int .i64 (Int.ofNat 0))]) <|
 .op (some 7) .any [] (.alloc 165 [(V.int .i64 (Int.ofNat 0)), V.nils, (V.bool false), (V.bool false), (V.bool false), (V.bool false), (V.int .i64 (Int.ofNat 0)), (V.int .i64 (Int.ofNat 0)), V.nils, V.nils, (V.int .i64 (Int.ofNat 0)), (V.bool false), (V.int .i64 (Int.ofNat 0))]) <|
 .op (some 8) .any [] (.mov (.con (V.bool false))) <|
 .nil))
 (.seq (.seq (.ops (.op (some 9) .any [1] (.mov (.tmp 1)) <|
 .op (some 10) .any [9] (.bin .lss .none (.tmp 9) (.con (V.int .i64 (Int.ofNat 0)))) <|
 .op (some 11) .any [10] (.mov (.tmp 10)) <|
 .grp 11 false (.op (some 12) .any [1, 11] (.mov (.tmp 1)) <|
 .op (some 13) .any [3, 11] (.faddr 0 (.tmp 3)) <|
 .op (some 14) .any [13, 11] (.faddr 3 (.tmp 13)) <|
 .op (some 15) .any [14, 11] (.load none (.tmp 14)) <|
 .op (some 16) .any [15, 11] (.len false (.tmp 15)) <|
 .op (some 17) .any [12, 16, 11] (.bin .geq .none (.tmp 12) (.tmp 16)) <|
 .nil) 18 [11, 17] (.tmp 11) (.con (V.bool true)) (.tmp 17) <|
 .op (some 19) .any [18] (.mov (.tmp 18)) <|
 .grp 19 false (.op (some 20) .any [2, 19] (.mov (.tmp 2)) <|
 .op (some 21) .any [20, 19] (.bin .lss .none (.tmp 20) (.con (V.int .i64 (Int.ofNat 0)))) <|
 .nil) 22 [19, 21] (.tmp 19) (.con (V.bool true)) (.tmp 21) <|
 .op (some 23) .any [22] (.mov (.tmp 22)) <|
 .grp 23 false (.op (some 24) .any [2, 23] (.mov (.tmp 2)) <|
 .op (some 25) .any [3, 23] (.faddr 4 (.tmp 3)) <|
 .op (some 26) .any [25, 23] (.faddr 3 (.tmp 25)) <|
 .op (some 27) .any [26, 23] (.load none (.tmp 26)) <|
 .op (some 28) .any [27, 23] (.len false (.tmp 27)) <|
 .op (some 29) .any [24, 28, 23] (.bin .geq .none (.tmp 24) (.tmp 28)) <|
 .nil) 30 [23, 29] (.tmp 23) (.con (V.bool true)) (.tmp 29) <|
 .nil))
 (.cond (.tmp 30) (.seq (.ops (.op (some 31) (.agg [(.int .i64), .any, .bool, .bool, .bool, .bool, (.int .i64), (.int .i64), .any, .any, (.int .i64), .bool, (.int .i64)]) [] (.build [(V.int .i64 (Int.ofNat 0)), V.nils, (V.bool false), (V.bool false), (V.bool false), (V.bool false), (V.int .i64 (Int.ofNat 0)), (V.int .i64 (Int.ofNat 0)), V.nils, V.nils, (V.int .i64 (Int.ofNat 0)), (V.bool false), (V.int .i64 (Int.ofNat 0))] []) <|
 .op (some 32) (.agg [(.int .i64), .any, .bool, .bool, .bool, .bool, (.int .i64), (.int .i64), .any, .any, (.int .i64), .bool, (.int .i64)]) [] (.build [(V.int .i64 (Int.ofNat 0)), V.nils, (V.bool false), (V.bool false), (V.bool false), (V.bool false), (V.int .i64 (Int.ofNat 0)), (V.int .i64 (Int.ofNat 0)), V.nils, V.nils, (V.int .i64 (Int.ofNat 0)), (V.bool false), (V.int .i64 (Int.ofNat 0))] []) <|
 .op none (.agg [(.int .i64), .any, .bool, .bool, .bool, .bool, (.int .i64), (.int .i64), .any, .any, (.int .i64), .bool, (.int .i64)]) [6, 31] (.store 13 (.tmp 6) (.tmp 31)) <|
 .op none (.agg [(.int .i64), .any, .bool, .bool, .bool, .bool, (.int .i64), (.int .i64), .any, .any, (.int .i64), .bool, (.int .i64)]) [7, 32] (.store 13 (.tmp 7) (.tmp 32)) <|
 .op (some 8) .any [] (.mov (.con (V.bool false))) <|
 .nil))
 .ret)
 .skip))
 (.seq (.keep [(1, (.int .i64)), (2, (.int .i64)), (3, .ptr), (6, .ptr), (7, .ptr)] [] [] (.gdraw G66_0 H66_0 [(6, .ptr), (7, .ptr), (8, .bool)]))
 .ret)))
def A66 : XFn := ⟨60, [(.agg [.str, .any, .any, .any, .str, .any, .any, .any]), (.int .i64), (.int .i64)], [(.cell 6 (some 13)), (.cell 7 (some 13)), (.tmp 8)], C66_0⟩
/-! ### F67: ogham_value.Item -/
def Fin67 (E : List (Nat × Blk)) : St → Ans := fun s => resK E s [(.tmp 4)] fun l => some (oneV l, s.σ)
def C67_0 : XC := (.seq (.ops (.op (some 2) .any [0] (.box 165 (.tmp 0)) <|
 .op (some 3) .any [1] (.box 2 (.tmp 1)) <|
 .op (some 4) .any [] (.mov (.con (V.int .i64 (Int.ofNat 0)))) <|
 .nil))
 (.seq (.ops (.op (some 5) .any [2] (.faddr 8 (.tmp 2)) <|
 .op (some 6) .any [5] (.load none (.tmp 5)) <|
 .op (some 7) .any [3] (.mkfn 144 [] [(.tmp 3)]) <|
 .op (some 8) (.int .i64) [6, 7] (.call 143 [(.tmp 6), (.tmp 7)]) <|
 .op (some 4) .any [8] (.mov (.tmp 8)) <|
 .nil))
 .ret))
def T67_0 (E : List (Nat × Blk)) (D : Den) (W : DrawFn) (v0_0 : Int) (v0_1 : V) (v0_2 : Bool) (v0_3 : Bool) (v0_4 : Bool) (v0_5 : Bool) (v0_6 : Int) (v0_7 : Int) (v0_8 : V) (v0_9 : V) (v0_10 : Int) (v0_11 : Bool) (v0_12 : Int) (v1 : Int) (σ : H) : Ans :=
 chk (allOne (V.cells (V.agg [(V.int .i64 v0_0), v0_1, (V.bool v0_2), (V.bool v0_3), (V.bool v0_4), (V.bool v0_5), (V.int .i64 v0_6), (V.int .i64 v0_7), v0_8, v0_9, (V.int .i64 v0_10), (V.bool v0_11), (V.int .i64 v0_12)]))) (
 let s1 := newB σ (.cells (V.cells (V.agg [(V.int .i64 v0_0), v0_1, (V.bool v0_2), (V.bool v0_3), (V.bool v0_4), (V.bool v0_5), (V.int .i64 v0_6), (V.int .i64 v0_7), v0_8, v0_9, (V.int .i64 v0_10), (V.bool v0_11), (V.int .i64 v0_12)])));
 chk (allOne (V.cells (V.int .i64 v1))) (
 let s2 := newB s1 (.cells (V.cells (V.int .i64 v1)));
 ldK E s2 (H.next σ) 8 fun u3 =>
 callK (D 143 [u3, (V.fn 144 [] [(V.ptr (H.next s1) 0)])] s2) fun u4 s5 =>
 rtInt .i64 u4 fun x6 =>
 some ((V.int .i64 x6), s5)))
theorem P67_0 (E : List (Nat × Blk)) (D : Den) (W : DrawFn) (N : Nat) (v0_0 : Int) (v0_1 : V) (v0_2 : Bool) (v0_3 : Bool) (v0_4 : Bool) (v0_5 : Bool) (v0_6 : Int) (v0_7 : Int) (v0_8 : V) (v0_9 : V) (v0_10 : Int) (v0_11 : Bool) (v0_12 : Int) (v1 : Int) (σ : H) :
  denC E D W N (C67_0 ) ⟨[(0, (V.agg [(V.int .i64 v0_0), v0_1, (V.bool v0_2), (V.bool v0_3), (V.bool v0_4), (V.bool v0_5), (V.int .i64 v0_6), (V.int .i64 v0_7), v0_8, v0_9, (V.int .i64 v0_10), (V.bool v0_11), (V.int .i64 v0_12)])), (1, (V.int .i64 v1))], [], [], σ⟩ (Fin67 E) (fun _ _ => none) (Fin67 E) =
  T67_0 E D W  v0_0 v0_1 v0_2 v0_3 v0_4 v0_5 v0_6 v0_7 v0_8 v0_9 v0_10 v0_11 v0_12 v1 σ := by kernel_rfl
def J67_0 (E : List (Nat × Blk)) (D : Den) (W : DrawFn) (N : Nat) : Int → V → Bool → Bool → Bool → Bool → Int → Int → V → V → Int → Bool → Int → Int → H → Ans := T67_0 E D W 
theorem JE67_0 (E : List (Nat × Blk)) (D : Den) (W : DrawFn) (N : Nat) (v0_0 : Int) (v0_1 : V) (v0_2 : Bool) (v0_3 : Bool) (v0_4 : Bool) (v0_5 : Bool) (v0_6 : Int) (v0_7 : Int) (v0_8 : V) (v0_9 : V) (v0_10 : Int) (v0_11 : Bool) (v0_12 : Int) (v1 : Int) (σ : H) :
  denC E D W N C67_0 ⟨[(0, (V.agg [(V.int .i64 v0_0), v0_1, (V.bool v0_2), (V.bool v0_3), (V.bool v0_4), (V.bool v0_5), (V.int .i64 v0_6), (V.int .i64 v0_7), v0_8, v0_9, (V.int .i64 v0_10), (V.bool v0_11), (V.int .i64 v0_12)])), (1, (V.int .i64 v1))], [], [], σ⟩ (Fin67 E) (fun _ _ => none) (Fin67 E) = J67_0 E D W N v0_0 v0_1 v0_2 v0_3 v0_4 v0_5 v0_6 v0_7 v0_8 v0_9 v0_10 v0_11 v0_12 v1 σ := by
  refine (P67_0 E D W N   v0_0 v0_1 v0_2 v0_3 v0_4 v0_5 v0_6 v0_7 v0_8 v0_9 v0_10 v0_11 v0_12 v1 σ).trans ?_
  kernel_rfl
def F67 (E : List (Nat × Blk)) (D : Den) (W : DrawFn) (N : Nat) (args : List V) (σ : H) : Ans :=
 rtCons args fun x1 l2 =>
 rtAgg x1 fun l3 =>
 rtCons l3 fun x4 l5 =>
 rtInt .i64 x4 fun x6 =>
 rtCons l5 fun x7 l8 =>
 rtCons l8 fun x9 l10 =>
 rtBool x9 fun x11 =>
 rtCons l10 fun x12 l13 =>
 rtBool x12 fun x14 =>
 rtCons l13 fun x15 l16 =>
 rtBool x15 fun x17 =>
 rtCons l16 fun x18 l19 =>
 rtBool x18 fun x20 =>
 rtCons l19 fun x21 l22 =>
 rtInt .i64 x21 fun x23 =>
 rtCons l22 fun x24 l25 =>
 rtInt .i64 x24 fun x26 =>
 rtCons l25 fun x27 l28 =>
 rtCons l28 fun x29 l30 =>
 rtCons l30 fun x31 l32 =>
 rtInt .i64 x31 fun x33 =>
 rtCons l32 fun x34 l35 =>
 rtBool x34 fun x36 =>
 rtCons l35 fun x37 l38 =>
 rtInt .i64 x37 fun x39 =>
 rtNil l38 (
 rtCons l2 fun x40 l41 =>
 rtInt .i64 x40 fun x42 =>
 rtNil l41 (
 J67_0 E D W N x6 x7 x11 x14 x17 x20 x23 x26 x27 x29 x33 x36 x39 x42 σ))
def A67 : XFn := ⟨9, [(.agg [(.int .i64), .any, .bool, .bool, .bool, .bool, (.int .i64), (.int .i64), .any, .any, (.int .i64), .bool, (.int .i64)]), (.int .i64)], [(.tmp 4)], C67_0⟩
theorem FE67 (E : List (Nat × Blk)) (D : Den) (W : DrawFn) (N : Nat) (args : List V) (σ : H) : runX E D W N A67 args σ = F67 E D W N args σ := by
  unfold F67
  simp only [← JE67_0]
  kernel_rfl
theorem AO67 : A67.body.ok = true := by kernel_rfl

def C69_0 (cc1 : XC) (cc2 : XC) : XC := (.seq (.ops (.op (some 4) .any [] (.mov (.con (V.int .i64 (Int.ofNat 0)))) <|
 .nil))
 (.seq (.seq (.ops (.op (some 6) .any [0] (.mov (.tmp 0)) <|
 .op (some 7) .any [6] (.len false (.tmp 6)) <|
 .op (some 8) .any [] (.mov (.con (V.int .i64 (Int.ofNat 0)))) <|
 .nil))
 (.block 0 (.loop [(0, .any), (1, .any), (7, (.int .i64)), (8, (.int .i64))] [] [] cc2)))
 (.keep [] [] [] cc1)))
def C69_1 : XC := (.seq (.ops (.op (some 4) .any [] (.mov (.con (V.int .i64 (Int.negSucc 0)))) <|
 .nil))
 .ret)
def C69_2 : XC := (.seq (.ops (.op (some 9) .any [8, 7] (.bin .lss .none (.tmp 8) (.tmp 7)) <|
 .nil))
 (.seq (.cond (.tmp 9) .skip
 (.exit 0))
 (.seq (.block 1 (.seq (.ops (.op (some 10) .any [8] (.mov (.tmp 8)) <|
 .op (some 5) .any [10] (.mov (.tmp 10)) <|
 .nil))
 (.seq (.ops (.op (some 11) .any [1] (.mov (.tmp 1)) <|
 .op (some 12) .any [0] (.mov (.tmp 0)) <|
 .op (some 13) .any [5] (.mov (.tmp 5)) <|
 .op (some 14) .any [12, 13] (.iaddrS 6 (.tmp 12) (.tmp 13)) <|
 .op (some 15) (.agg [(.int .i64), (.int .i64), .any, .any, (.int .i64), .any]) [14] (.load (some 6) (.tmp 14)) <|
 .op (some 16) .bool [11, 15] (.callv (.tmp 11) [(.tmp 15)]) <|
 .nil))
 (.cond (.tmp 16) (.seq (.ops (.op (some 17) .any [5] (.mov (.tmp 5)) <|
 .op (some 4) .any [17] (.mov (.tmp 17)) <|
 .nil))
 .ret)
 .skip))))
 (.ops (.op (some 18) .any [8] (.bin .add .none (.tmp 8) (.con (V.int .i64 (Int.ofNat 1)))) <|
 .op (some 8) .any [18] (.mov (.tmp 18)) <|
 .nil)))))
def A69 : XFn := ⟨19, [.any, .any], [(.tmp 4)], (C69_0 C69_1 C69_2)⟩
def C70_0 : XC := (.seq (.ops (.op (some 4) .any [] (.mov (.con (V.int .u8 (Int.ofNat 0)))) <|
 .nil))
 (.seq (.seq (.ops (.op (some 5) .any [1] (.mov (.tmp 1)) <|
 .op (some 6) .any [5] (.bin .lss .none (.tmp 5) (.con (V.int .i64 (Int.ofNat 0)))) <|
 .op (some 7) .any [6] (.mov (.tmp 6)) <|
 .grp 7 false (.op (some 8) .any [1, 7] (.mov (.tmp 1)) <|
 .op (some 9) .any [0, 7] (.mov (.tmp 0)) <|
 .op (some 10) .any [9, 7] (.len true (.tmp 9)) <|
 .op (some 11) .any [8, 10, 7] (.bin .geq .none (.tmp 8) (.tmp 10)) <|
 .nil) 12 [7, 11] (.tmp 7) (.con (V.bool true)) (.tmp 11) <|
 .nil))
 (.cond (.tmp 12) (.seq (.ops (.op (some 4) .any [] (.mov (.con (V.int .u8 (Int.ofNat 0)))) <|
 .nil))
 .ret)
 .skip))
 (.seq (.ops (.op (some 13) .any [0] (.mov (.tmp 0)) <|
 .op (some 14) .any [1] (.mov (.tmp 1)) <|
 .op (some 15) .any [13, 14] (.idxStr (.tmp 13) (.tmp 14)) <|
 .op (some 4) .any [15] (.mov (.tmp 15)) <|
 .nil))
 .ret)))
def A70 : XFn := ⟨16, [.str, (.int .i64)], [(.tmp 4)], C70_0⟩
/-! ### F71: ogham_oghamref04.letter -/
def Fin71 (E : List (Nat × Blk)) : St → Ans := fun s => resK E s [(.tmp 2)] fun l => some (oneV l, s.σ)
def C71_0 : XC := (.seq (.ops (.op (some 2) .any [] (.mov (.con (V.bool false))) <|
 .nil))
 (.seq (.ops (.op (some 3) .any [0] (.mov (.tmp 0)) <|
 .op (some 4) .any [3] (.bin .geq .none (.tmp 3) (.con (V.int .u8 (Int.ofNat 97)))) <|
 .op (some 5) .any [4] (.mov (.tmp 4)) <|
 .grp 5 true (.op (some 6) .any [0, 5] (.mov (.tmp 0)) <|
 .op (some 7) .any [6, 5] (.bin .leq .none (.tmp 6) (.con (V.int .u8 (Int.ofNat 122)))) <|
 .nil) 8 [5, 7] (.tmp 5) (.tmp 7) (.con (V.bool false)) <|
 .op (some 9) .any [8] (.mov (.tmp 8)) <|
 .grp 9 false (.op (some 10) .any [0, 9] (.mov (.tmp 0)) <|
 .op (some 11) .any [10, 9] (.bin .geq .none (.tmp 10) (.con (V.int .u8 (Int.ofNat 65)))) <|
 .op (some 12) .any [11, 9] (.mov (.tmp 11)) <|
 .grp 12 true (.op (some 13) .any [0, 12] (.mov (.tmp 0)) <|
 .op (some 14) .any [13, 12] (.bin .leq .none (.tmp 13) (.con (V.int .u8 (Int.ofNat 90)))) <|
 .nil) 15 [12, 14, 9] (.tmp 12) (.tmp 14) (.con (V.bool false)) <|
 .nil) 16 [9, 15] (.tmp 9) (.con (V.bool true)) (.tmp 15) <|
 .op (some 2) .any [16] (.mov (.tmp 16)) <|
 .nil))
 .ret))
def T71_0 (E : List (Nat × Blk)) (D : Den) (W : DrawFn) (v0 : Int) (σ : H) : Ans :=
 joinB (fun c1 s2 =>
 joinB (fun c4 s5 =>
 some ((V.bool c4), s5)) fun k6 =>
 condK c1 (
 k6 true s2) (
 joinB (fun c7 s8 =>
 k6 c7 s8) fun k9 =>
 condK (leF (Int.ofNat 65) v0) (
 k9 (leF v0 (Int.ofNat 90)) s2) (
 k9 false s2))) fun k3 =>
 condK (leF (Int.ofNat 97) v0) (
 k3 (leF v0 (Int.ofNat 122)) σ) (
 k3 false σ)
theorem P71_0 (E : List (Nat × Blk)) (D : Den) (W : DrawFn) (N : Nat) (v0 : Int) (σ : H) :
  denC E D W N (C71_0 ) ⟨[(0, (V.int .u8 v0))], [], [], σ⟩ (Fin71 E) (fun _ _ => none) (Fin71 E) =
  T71_0 E D W  v0 σ := by kernel_rfl
def J71_0 (E : List (Nat × Blk)) (D : Den) (W : DrawFn) (N : Nat) : Int → H → Ans := T71_0 E D W 
theorem JE71_0 (E : List (Nat × Blk)) (D : Den) (W : DrawFn) (N : Nat) (v0 : Int) (σ : H) :
  denC E D W N C71_0 ⟨[(0, (V.int .u8 v0))], [], [], σ⟩ (Fin71 E) (fun _ _ => none) (Fin71 E) = J71_0 E D W N v0 σ := by
  refine (P71_0 E D W N   v0 σ).trans ?_
  kernel_rfl
def F71 (E : List (Nat × Blk)) (D : Den) (W : DrawFn) (N : Nat) (args : List V) (σ : H) : Ans :=
 rtCons args fun x1 l2 =>
 rtInt .u8 x1 fun x3 =>
 rtNil l2 (
 J71_0 E D W N x3 σ)
def A71 : XFn := ⟨17, [(.int .u8)], [(.tmp 2)], C71_0⟩
theorem FE71 (E : List (Nat × Blk)) (D : Den) (W : DrawFn) (N : Nat) (args : List V) (σ : H) : runX E D W N A71 args σ = F71 E D W N args σ := by
  unfold F71
  simp only [← JE71_0]
  kernel_rfl
theorem AO71 : A71.body.ok = true := by kernel_rfl

/-! ### F72: ogham_oghamref04.name -/
def Fin72 (E : List (Nat × Blk)) : St → Ans := fun s => resK E s [(.tmp 4)] fun l => some (oneV l, s.σ)
def C72_0 (cc1 : XC) (cc2 : XC) : XC := (.seq (.ops (.op (some 4) .any [] (.mov (.con (V.int .i64 (Int.ofNat 0)))) <|
 .nil))
 (.seq (.ops (.op (some 6) .any [1] (.mov (.tmp 1)) <|
 .op (some 5) .any [6] (.mov (.tmp 6)) <|
 .nil))
 (.seq (.block 0 (.loop [(0, .str), (1, (.int .i64)), (5, (.int .i64))] [] [] cc2))
 (.keep [(0, .str), (1, (.int .i64)), (5, (.int .i64))] [] [] cc1))))
def T72_0 (E : List (Nat × Blk)) (D : Den) (W : DrawFn) (K2 : BS → Int → Int → H → Ans) (v0 : BS) (v1 : Int) (σ : H) : Ans :=
 K2 v0 v1 v1 σ
def C72_1 : XC := (.seq (.seq (.ops (.op (some 38) .any [0] (.mov (.tmp 0)) <|
 .op (some 39) .any [1] (.mov (.tmp 1)) <|
 .op (some 40) .any [39] (.bin .sub .none (.tmp 39) (.con (V.int .i64 (Int.ofNat 1)))) <|
 .op (some 41) .any [38, 40] (.idxStr (.tmp 38) (.tmp 40)) <|
 .op (some 42) .any [41] (.bin .eql .none (.tmp 41) (.con (V.int .u8 (Int.ofNat 45)))) <|
 .op (some 43) .any [42] (.mov (.tmp 42)) <|
 .grp 43 false (.op (some 44) .any [1, 43] (.mov (.tmp 1)) <|
 .op (some 45) .any [5, 43] (.mov (.tmp 5)) <|
 .op (some 46) .any [44, 45, 43] (.bin .sub .none (.tmp 44) (.tmp 45)) <|
 .op (some 47) .any [46, 43] (.bin .gtr .none (.tmp 46) (.con (V.int .i64 (Int.ofNat 60)))) <|
 .nil) 48 [43, 47] (.tmp 43) (.con (V.bool true)) (.tmp 47) <|
 .nil))
 (.cond (.tmp 48) (.seq (.ops (.op (some 4) .any [] (.mov (.con (V.int .i64 (Int.negSucc 0)))) <|
 .nil))
 .ret)
 .skip))
 (.seq (.ops (.op (some 49) .any [1] (.mov (.tmp 1)) <|
 .op (some 4) .any [49] (.mov (.tmp 49)) <|
 .nil))
 .ret))
def T72_1 (E : List (Nat × Blk)) (D : Den) (W : DrawFn) (v0 : BS) (v1 : Int) (v5 : Int) (σ : H) : Ans :=
 idxStrX v0 (subF .i64 v1 (Int.ofNat 1)) fun x1 =>
 joinB (fun c2 s3 =>
 condK c2 (
 some ((V.int .i64 (Int.negSucc 0)), s3)) (
 some ((V.int .i64 v1), s3))) fun k4 =>
 condK (eqF x1 (Int.ofNat 45)) (
 k4 true σ) (
 k4 (ltF (Int.ofNat 60) (subF .i64 v1 v5)) σ)
def C72_2 : XC := (.seq (.seq (.ops (.op (some 7) .any [1] (.mov (.tmp 1)) <|
 .op (some 8) .any [0] (.mov (.tmp 0)) <|
 .op (some 9) .any [8] (.len true (.tmp 8)) <|
 .op (some 10) .any [7, 9] (.bin .lss .none (.tmp 7) (.tmp 9)) <|
 .op (some 11) .any [10] (.mov (.tmp 10)) <|
 .grp 11 true (.op (some 12) .any [0, 11] (.mov (.tmp 0)) <|
 .op (some 13) .any [1, 11] (.mov (.tmp 1)) <|
 .op (some 14) .any [12, 13, 11] (.idxStr (.tmp 12) (.tmp 13)) <|
 .op (some 15) .bool [14, 11] (.call 71 [(.tmp 14)]) <|
 .op (some 16) .any [15, 11] (.mov (.tmp 15)) <|
 .grp 16 false (.op (some 17) .any [0, 16] (.mov (.tmp 0)) <|
 .op (some 18) .any [1, 16] (.mov (.tmp 1)) <|
 .op (some 19) .any [17, 18, 16] (.idxStr (.tmp 17) (.tmp 18)) <|
 .op (some 20) .bool [19, 16] (.call 74 [(.tmp 19)]) <|
 .nil) 21 [16, 20, 11] (.tmp 16) (.con (V.bool true)) (.tmp 20) <|
 .op (some 22) .any [21, 11] (.mov (.tmp 21)) <|
 .grp 22 false (.op (some 23) .any [0, 22] (.mov (.tmp 0)) <|
 .op (some 24) .any [1, 22] (.mov (.tmp 1)) <|
 .op (some 25) .any [23, 24, 22] (.idxStr (.tmp 23) (.tmp 24)) <|
 .op (some 26) .any [25, 22] (.bin .eql .none (.tmp 25) (.con (V.int .u8 (Int.ofNat 45)))) <|
 .op (some 27) .any [26, 22] (.mov (.tmp 26)) <|
 .grp 27 true (.op (some 28) .any [0, 27] (.mov (.tmp 0)) <|
 .op (some 29) .any [1, 27] (.mov (.tmp 1)) <|
 .op (some 30) .any [29, 27] (.bin .add .none (.tmp 29) (.con (V.int .i64 (Int.ofNat 1)))) <|
 .op (some 31) (.int .u8) [28, 30, 27] (.call 70 [(.tmp 28), (.tmp 30)]) <|
 .op (some 32) .any [31, 27] (.bin .neq .none (.tmp 31) (.con (V.int .u8 (Int.ofNat 45)))) <|
 .nil) 33 [27, 32, 22] (.tmp 27) (.tmp 32) (.con (V.bool false)) <|
 .nil) 34 [22, 33, 11] (.tmp 22) (.con (V.bool true)) (.tmp 33) <|
 .nil) 35 [11, 34] (.tmp 11) (.tmp 34) (.con (V.bool false)) <|
 .nil))
 (.cond (.tmp 35) .skip
 (.exit 0)))
 (.block 1 (.ops (.op (some 36) .any [1] (.mov (.tmp 1)) <|
 .op (some 37) .any [36] (.bin .add .none (.tmp 36) (.con (V.int .i64 (Int.ofNat 1)))) <|
 .op (some 1) .any [37] (.mov (.tmp 37)) <|
 .nil))))
def T72_2 (E : List (Nat × Blk)) (D : Den) (W : DrawFn) (K1 : BS → Int → Int → H → Ans) (R2 : BS → Int → Int → H → Ans) (v0 : BS) (v1 : Int) (v5 : Int) (σ : H) : Ans :=
 joinB (fun c1 s2 =>
 condK c1 (
 R2 v0 (addF .i64 v1 (Int.ofNat 1)) v5 s2) (
 K1 v0 v1 v5 s2)) fun k3 =>
 condK (ltF v1 (Int.ofNat (BS.len v0))) (
 idxStrX v0 v1 fun x4 =>
 callK (D 71 [(V.int .u8 x4)] σ) fun u5 s6 =>
 rtBool u5 fun x7 =>
 joinB (fun c8 s9 =>
 joinB (fun c11 s12 =>
 k3 c11 s12) fun k13 =>
 condK c8 (
 k13 true s9) (
 idxStrX v0 v1 fun x14 =>
 joinB (fun c15 s16 =>
 k13 c15 s16) fun k17 =>
 condK (eqF x14 (Int.ofNat 45)) (
 callK (D 70 [(V.str v0), (V.int .i64 (addF .i64 v1 (Int.ofNat 1)))] s9) fun u18 s19 =>
 rtInt .u8 u18 fun x20 =>
 k17 (not (eqF x20 (Int.ofNat 45))) s19) (
 k17 false s9))) fun k10 =>
 condK x7 (
 k10 true s6) (
 idxStrX v0 v1 fun x21 =>
 callK (D 74 [(V.int .u8 x21)] s6) fun u22 s23 =>
 rtBool u22 fun x24 =>
 k10 x24 s23)) (
 k3 false σ)
theorem P72_0 (E : List (Nat × Blk)) (D : Den) (W : DrawFn) (N : Nat) (cc1 : XC) (cc2 : XC) (v0 : BS) (v1 : Int) (σ : H) :
  denC E D W N (C72_0 cc1 cc2) ⟨[(0, (V.str v0)), (1, (V.int .i64 v1))], [], [], σ⟩ (Fin72 E) (fun _ _ => none) (Fin72 E) =
  T72_0 E D W (fun v0 v1 v5 σ => iterK (fun rec s' => denC E D W N cc2 s' (fun s'' => keepS [(0, .str), (1, (.int .i64)), (5, (.int .i64))] [] [] s'' rec) (blkK 0 (fun s' => denC E D W N (.keep [(0, .str), (1, (.int .i64)), (5, (.int .i64))] [] [] cc1) s' (Fin72 E) (fun _ _ => none) (Fin72 E)) (fun _ _ => none)) (Fin72 E)) N ⟨[(0, (V.str v0)), (1, (V.int .i64 v1)), (5, (V.int .i64 v5))], [], [], σ⟩) v0 v1 σ := by kernel_rfl
theorem P72_1 (E : List (Nat × Blk)) (D : Den) (W : DrawFn) (N : Nat) (v0 : BS) (v1 : Int) (v5 : Int) (σ : H) :
  denC E D W N (C72_1 ) ⟨[(0, (V.str v0)), (1, (V.int .i64 v1)), (5, (V.int .i64 v5))], [], [], σ⟩ (Fin72 E) (fun _ _ => none) (Fin72 E) =
  T72_1 E D W  v0 v1 v5 σ := by kernel_rfl
theorem P72_2 (E : List (Nat × Blk)) (D : Den) (W : DrawFn) (N : Nat) (cc1 : XC) (li2 : St → Ans) (v0 : BS) (v1 : Int) (v5 : Int) (σ : H) :
  denC E D W N (C72_2 ) ⟨[(0, (V.str v0)), (1, (V.int .i64 v1)), (5, (V.int .i64 v5))], [], [], σ⟩ (fun s'' => keepS [(0, .str), (1, (.int .i64)), (5, (.int .i64))] [] [] s'' li2) (blkK 0 (fun s' => denC E D W N (.keep [(0, .str), (1, (.int .i64)), (5, (.int .i64))] [] [] cc1) s' (Fin72 E) (fun _ _ => none) (Fin72 E)) (fun _ _ => none)) (Fin72 E) =
  T72_2 E D W (fun v0 v1 v5 σ => denC E D W N cc1 ⟨[(0, (V.str v0)), (1, (V.int .i64 v1)), (5, (V.int .i64 v5))], [], [], σ⟩ (Fin72 E) (fun _ _ => none) (Fin72 E)) (fun v0 v1 v5 σ => li2 ⟨[(0, (V.str v0)), (1, (V.int .i64 v1)), (5, (V.int .i64 v5))], [], [], σ⟩) v0 v1 v5 σ := by kernel_rfl
def J72_1 (E : List (Nat × Blk)) (D : Den) (W : DrawFn) (N : Nat) : BS → Int → Int → H → Ans := T72_1 E D W 
theorem JE72_1 (E : List (Nat × Blk)) (D : Den) (W : DrawFn) (N : Nat) (v0 : BS) (v1 : Int) (v5 : Int) (σ : H) :
  denC E D W N C72_1 ⟨[(0, (V.str v0)), (1, (V.int .i64 v1)), (5, (V.int .i64 v5))], [], [], σ⟩ (Fin72 E) (fun _ _ => none) (Fin72 E) = J72_1 E D W N v0 v1 v5 σ := by
  refine (P72_1 E D W N   v0 v1 v5 σ).trans ?_
  kernel_rfl
def L72_2 (E : List (Nat × Blk)) (D : Den) (W : DrawFn) (N : Nat) (n : Nat) : BS → Int → Int → H → Ans :=
  Nat.rec (fun _ _ _ _ => none) (fun _ ih => T72_2 E D W (J72_1 E D W N ) ih) n
theorem LE72_2 (E : List (Nat × Blk)) (D : Den) (W : DrawFn) (N : Nat) (n : Nat) : ∀ (v0 : BS) (v1 : Int) (v5 : Int) (σ : H),
  iterK (fun rec s' => denC E D W N C72_2 s' (fun s'' => keepS [(0, .str), (1, (.int .i64)), (5, (.int .i64))] [] [] s'' rec) (blkK 0 (fun s' => denC E D W N (.keep [(0, .str), (1, (.int .i64)), (5, (.int .i64))] [] [] C72_1) s' (Fin72 E) (fun _ _ => none) (Fin72 E)) (fun _ _ => none)) (Fin72 E)) n ⟨[(0, (V.str v0)), (1, (V.int .i64 v1)), (5, (V.int .i64 v5))], [], [], σ⟩ = L72_2 E D W N n v0 v1 v5 σ := by
  induction n with
  | zero => intro v0 v1 v5 σ; rfl
  | succ n ihn =>
    intro v0 v1 v5 σ
    rw [iterK_succ]
    refine (P72_2 E D W N C72_1 (iterK (fun rec s' => denC E D W N C72_2 s' (fun s'' => keepS [(0, .str), (1, (.int .i64)), (5, (.int .i64))] [] [] s'' rec) (blkK 0 (fun s' => denC E D W N (.keep [(0, .str), (1, (.int .i64)), (5, (.int .i64))] [] [] C72_1) s' (Fin72 E) (fun _ _ => none) (Fin72 E)) (fun _ _ => none)) (Fin72 E)) n) v0 v1 v5 σ).trans ?_
    simp only [ihn, JE72_1]
    kernel_rfl
def J72_0 (E : List (Nat × Blk)) (D : Den) (W : DrawFn) (N : Nat) : BS → Int → H → Ans := T72_0 E D W (L72_2 E D W N N)
theorem JE72_0 (E : List (Nat × Blk)) (D : Den) (W : DrawFn) (N : Nat) (v0 : BS) (v1 : Int) (σ : H) :
  denC E D W N (C72_0 C72_1 C72_2) ⟨[(0, (V.str v0)), (1, (V.int .i64 v1))], [], [], σ⟩ (Fin72 E) (fun _ _ => none) (Fin72 E) = J72_0 E D W N v0 v1 σ := by
  refine (P72_0 E D W N C72_1 C72_2  v0 v1 σ).trans ?_
  simp only [LE72_2]
  kernel_rfl
def F72 (E : List (Nat × Blk)) (D : Den) (W : DrawFn) (N : Nat) (args : List V) (σ : H) : Ans :=
 rtCons args fun x1 l2 =>
 rtStr x1 fun x3 =>
 rtCons l2 fun x4 l5 =>
 rtInt .i64 x4 fun x6 =>
 rtNil l5 (
 J72_0 E D W N x3 x6 σ)
def A72 : XFn := ⟨50, [.str, (.int .i64)], [(.tmp 4)], (C72_0 C72_1 C72_2)⟩
theorem FE72 (E : List (Nat × Blk)) (D : Den) (W : DrawFn) (N : Nat) (args : List V) (σ : H) : runX E D W N A72 args σ = F72 E D W N args σ := by
  unfold F72
  simp only [← JE72_0]
  kernel_rfl
theorem AO72 : A72.body.ok = true := by kernel_rfl

def C73_0 : XC := (.seq (.ops (.op (some 2) .any [] (.mov (.con (V.bool false))) <|
 .nil))
 (.seq (.ops (.op (some 3) .one [] (.call 146 []) <|
 .op (some 4) .any [0] (.mov (.tmp 0)) <|
 .op (some 5) .bool [3, 4] (.call 41 [(.tmp 3), (.tmp 4)]) <|
 .op (some 2) .any [5] (.mov (.tmp 5)) <|
 .nil))
 .ret))
def A73 : XFn := ⟨6, [.str], [(.tmp 2)], C73_0⟩
/-! ### F74: ogham_oghamref04.digit -/
def Fin74 (E : List (Nat × Blk)) : St → Ans := fun s => resK E s [(.tmp 2)] fun l => some (oneV l, s.σ)
def C74_0 : XC := (.seq (.ops (.op (some 2) .any [] (.mov (.con (V.bool false))) <|
 .nil))
 (.seq (.ops (.op (some 3) .any [0] (.mov (.tmp 0)) <|
 .op (some 4) .any [3] (.bin .geq .none (.tmp 3) (.con (V.int .u8 (Int.ofNat 48)))) <|
 .op (some 5) .any [4] (.mov (.tmp 4)) <|
 .grp 5 true (.op (some 6) .any [0, 5] (.mov (.tmp 0)) <|
 .op (some 7) .any [6, 5] (.bin .leq .none (.tmp 6) (.con (V.int .u8 (Int.ofNat 57)))) <|
 .nil) 8 [5, 7] (.tmp 5) (.tmp 7) (.con (V.bool false)) <|
 .op (some 2) .any [8] (.mov (.tmp 8)) <|
 .nil))
 .ret))
def T74_0 (E : List (Nat × Blk)) (D : Den) (W : DrawFn) (v0 : Int) (σ : H) : Ans :=
 joinB (fun c1 s2 =>
 some ((V.bool c1), s2)) fun k3 =>
 condK (leF (Int.ofNat 48) v0) (
 k3 (leF v0 (Int.ofNat 57)) σ) (
 k3 false σ)
theorem P74_0 (E : List (Nat × Blk)) (D : Den) (W : DrawFn) (N : Nat) (v0 : Int) (σ : H) :
  denC E D W N (C74_0 ) ⟨[(0, (V.int .u8 v0))], [], [], σ⟩ (Fin74 E) (fun _ _ => none) (Fin74 E) =
  T74_0 E D W  v0 σ := by kernel_rfl
def J74_0 (E : List (Nat × Blk)) (D : Den) (W : DrawFn) (N : Nat) : Int → H → Ans := T74_0 E D W 
theorem JE74_0 (E : List (Nat × Blk)) (D : Den) (W : DrawFn) (N : Nat) (v0 : Int) (σ : H) :
  denC E D W N C74_0 ⟨[(0, (V.int .u8 v0))], [], [], σ⟩ (Fin74 E) (fun _ _ => none) (Fin74 E) = J74_0 E D W N v0 σ := by
  refine (P74_0 E D W N   v0 σ).trans ?_
  kernel_rfl
def F74 (E : List (Nat × Blk)) (D : Den) (W : DrawFn) (N : Nat) (args : List V) (σ : H) : Ans :=
 rtCons args fun x1 l2 =>
 rtInt .u8 x1 fun x3 =>
 rtNil l2 (
 J74_0 E D W N x3 σ)
def A74 : XFn := ⟨9, [(.int .u8)], [(.tmp 2)], C74_0⟩
theorem FE74 (E : List (Nat × Blk)) (D : Den) (W : DrawFn) (N : Nat) (args : List V) (σ : H) : runX E D W N A74 args σ = F74 E D W N args σ := by
  unfold F74
  simp only [← JE74_0]
  kernel_rfl
theorem AO74 : A74.body.ok = true := by kernel_rfl

def C75_0 (cc1 : XC) : XC := (.seq (.ops (.op (some 4) .any [] (.mov (.con (V.int .i64 (Int.ofNat 0)))) <|
 .nil))
 (.seq (.ops (.op (some 9) .any [0] (.mov (.tmp 0)) <|
 .op (some 10) .any [1] (.mov (.tmp 1)) <|
 .op (some 11) .any [9, 10] (.idxStr (.tmp 9) (.tmp 10)) <|
 .op (some 12) .any [11] (.bin .eql .none (.tmp 11) (.con (V.int .u8 (Int.ofNat 45)))) <|
 .op (some 5) .any [12] (.mov (.tmp 12)) <|
 .nil))
 (.seq (.seq (.ops (.op (some 13) .any [5] (.mov (.tmp 5)) <|
 .nil))
 (.cond (.tmp 13) (.ops (.op (some 14) .any [1] (.mov (.tmp 1)) <|
 .op (some 15) .any [14] (.bin .add .none (.tmp 14) (.con (V.int .i64 (Int.ofNat 1)))) <|
 .op (some 1) .any [15] (.mov (.tmp 15)) <|
 .nil))
 .skip))
 (.keep [(0, .str), (1, (.int .i64)), (5, .bool)] [] [] cc1))))
def C75_1 (cc2 : XC) (cc3 : XC) : XC := (.seq (.ops (.op (some 16) .any [1] (.mov (.tmp 1)) <|
 .op (some 6) .any [16] (.mov (.tmp 16)) <|
 .nil))
 (.seq (.ops (.op (some 7) .any [] (.mov (.con (V.int .u64 (Int.ofNat 0)))) <|
 .nil))
 (.seq (.block 0 (.loop [(0, .str), (1, (.int .i64)), (5, .bool), (6, (.int .i64)), (7, (.int .u64))] [] [] cc3))
 (.keep [(0, .str), (1, (.int .i64)), (5, .bool), (6, (.int .i64)), (7, (.int .u64))] [] [] cc2))))
def C75_2 : XC := (.seq (.ops (.op (some 41) .any [1] (.mov (.tmp 1)) <|
 .op (some 42) .any [6] (.mov (.tmp 6)) <|
 .op (some 43) .any [41, 42] (.bin .sub .none (.tmp 41) (.tmp 42)) <|
 .op (some 8) .any [43] (.mov (.tmp 43)) <|
 .nil))
 (.seq (.seq (.ops (.op (some 44) .any [8] (.mov (.tmp 8)) <|
 .op (some 45) .any [44] (.bin .lss .none (.tmp 44) (.con (V.int .i64 (Int.ofNat 1)))) <|
 .op (some 46) .any [45] (.mov (.tmp 45)) <|
 .grp 46 false (.op (some 47) .any [8, 46] (.mov (.tmp 8)) <|
 .op (some 48) .any [47, 46] (.bin .gtr .none (.tmp 47) (.con (V.int .i64 (Int.ofNat 19)))) <|
 .nil) 49 [46, 48] (.tmp 46) (.con (V.bool true)) (.tmp 48) <|
 .op (some 50) .any [49] (.mov (.tmp 49)) <|
 .grp 50 false (.op (some 51) .any [8, 50] (.mov (.tmp 8)) <|
 .op (some 52) .any [51, 50] (.bin .gtr .none (.tmp 51) (.con (V.int .i64 (Int.ofNat 1)))) <|
 .op (some 53) .any [52, 50] (.mov (.tmp 52)) <|
 .grp 53 true (.op (some 54) .any [0, 53] (.mov (.tmp 0)) <|
 .op (some 55) .any [6, 53] (.mov (.tmp 6)) <|
 .op (some 56) .any [54, 55, 53] (.idxStr (.tmp 54) (.tmp 55)) <|
 .op (some 57) .any [56, 53] (.bin .eql .none (.tmp 56) (.con (V.int .u8 (Int.ofNat 48)))) <|
 .nil) 58 [53, 57, 50] (.tmp 53) (.tmp 57) (.con (V.bool false)) <|
 .nil) 59 [50, 58] (.tmp 50) (.con (V.bool true)) (.tmp 58) <|
 .op (some 60) .any [59] (.mov (.tmp 59)) <|
 .grp 60 false (.op (some 61) .any [5, 60] (.mov (.tmp 5)) <|
 .op (some 62) .any [61, 60] (.mov (.tmp 61)) <|
 .grp 62 true (.op (some 63) .any [0, 62] (.mov (.tmp 0)) <|
 .op (some 64) .any [6, 62] (.mov (.tmp 6)) <|
 .op (some 65) .any [63, 64, 62] (.idxStr (.tmp 63) (.tmp 64)) <|
 .op (some 66) .any [65, 62] (.bin .eql .none (.tmp 65) (.con (V.int .u8 (Int.ofNat 48)))) <|
 .nil) 67 [62, 66, 60] (.tmp 62) (.tmp 66) (.con (V.bool false)) <|
 .nil) 68 [60, 67] (.tmp 60) (.con (V.bool true)) (.tmp 67) <|
 .op (some 69) .any [68] (.mov (.tmp 68)) <|
 .grp 69 false (.op (some 70) .any [0, 69] (.mov (.tmp 0)) <|
 .op (some 71) .any [1, 69] (.mov (.tmp 1)) <|
 .op (some 72) (.int .u8) [70, 71, 69] (.call 70 [(.tmp 70), (.tmp 71)]) <|
 .op (some 73) .bool [72, 69] (.call 71 [(.tmp 72)]) <|
 .nil) 74 [69, 73] (.tmp 69) (.con (V.bool true)) (.tmp 73) <|
 .op (some 75) .any [74] (.mov (.tmp 74)) <|
 .grp 75 false (.op (some 76) .any [7, 75] (.mov (.tmp 7)) <|
 .op (some 77) .any [76, 75] (.bin .gtr .none (.tmp 76) (.con (V.int .u64 (Int.ofNat 9223372036854775808)))) <|
 .nil) 78 [75, 77] (.tmp 75) (.con (V.bool true)) (.tmp 77) <|
 .op (some 79) .any [78] (.mov (.tmp 78)) <|
 .grp 79 false (.op (some 80) .any [5, 79] (.mov (.tmp 5)) <|
 .op (some 81) .any [80, 79] (.un .not (.tmp 80)) <|
 .op (some 82) .any [81, 79] (.mov (.tmp 81)) <|
 .grp 82 true (.op (some 83) .any [7, 82] (.mov (.tmp 7)) <|
 .op (some 84) .any [83, 82] (.bin .eql .none (.tmp 83) (.con (V.int .u64 (Int.ofNat 9223372036854775808)))) <|
 .nil) 85 [82, 84, 79] (.tmp 82) (.tmp 84) (.con (V.bool false)) <|
 .nil) 86 [79, 85] (.tmp 79) (.con (V.bool true)) (.tmp 85) <|
 .nil))
 (.cond (.tmp 86) (.seq (.ops (.op (some 4) .any [] (.mov (.con (V.int .i64 (Int.negSucc 0)))) <|
 .nil))
 .ret)
 .skip))
 (.seq (.ops (.op (some 87) .any [1] (.mov (.tmp 1)) <|
 .op (some 4) .any [87] (.mov (.tmp 87)) <|
 .nil))
 .ret)))
def C75_3 (cc4 : XC) : XC := (.seq (.seq (.ops (.op (some 17) .any [1] (.mov (.tmp 1)) <|
 .op (some 18) .any [0] (.mov (.tmp 0)) <|
 .op (some 19) .any [18] (.len true (.tmp 18)) <|
 .op (some 20) .any [17, 19] (.bin .lss .none (.tmp 17) (.tmp 19)) <|
 .op (some 21) .any [20] (.mov (.tmp 20)) <|
 .grp 21 true (.op (some 22) .any [0, 21] (.mov (.tmp 0)) <|
 .op (some 23) .any [1, 21] (.mov (.tmp 1)) <|
 .op (some 24) .any [22, 23, 21] (.idxStr (.tmp 22) (.tmp 23)) <|
 .op (some 25) .bool [24, 21] (.call 74 [(.tmp 24)]) <|
 .nil) 26 [21, 25] (.tmp 21) (.tmp 25) (.con (V.bool false)) <|
 .nil))
 (.cond (.tmp 26) .skip
 (.exit 0)))
 (.block 1 (.seq (.seq (.ops (.op (some 27) .any [1] (.mov (.tmp 1)) <|
 .op (some 28) .any [6] (.mov (.tmp 6)) <|
 .op (some 29) .any [27, 28] (.bin .sub .none (.tmp 27) (.tmp 28)) <|
 .op (some 30) .any [29] (.bin .lss .none (.tmp 29) (.con (V.int .i64 (Int.ofNat 19)))) <|
 .nil))
 (.cond (.tmp 30) (.ops (.op (some 31) .any [7] (.mov (.tmp 7)) <|
 .op (some 32) .any [31] (.bin .mul .none (.con (V.int .u64 (Int.ofNat 10))) (.tmp 31)) <|
 .op (some 33) .any [0] (.mov (.tmp 0)) <|
 .op (some 34) .any [1] (.mov (.tmp 1)) <|
 .op (some 35) .any [33, 34] (.idxStr (.tmp 33) (.tmp 34)) <|
 .op (some 36) .any [35] (.bin .sub .none (.tmp 35) (.con (V.int .u8 (Int.ofNat 48)))) <|
 .op (some 37) .any [36] (.conv (.toInt .u64) (.tmp 36)) <|
 .op (some 38) .any [32, 37] (.bin .add .none (.tmp 32) (.tmp 37)) <|
 .op (some 7) .any [38] (.mov (.tmp 38)) <|
 .nil))
 .skip))
 (.keep [(0, .str), (1, (.int .i64)), (5, .bool), (6, (.int .i64)), (7, (.int .u64))] [] [] cc4))))
def C75_4 : XC := (.ops (.op (some 39) .any [1] (.mov (.tmp 1)) <|
 .op (some 40) .any [39] (.bin .add .none (.tmp 39) (.con (V.int .i64 (Int.ofNat 1)))) <|
 .op (some 1) .any [40] (.mov (.tmp 40)) <|
 .nil))
def A75 : XFn := ⟨88, [.str, (.int .i64)], [(.tmp 4)], (C75_0 (C75_1 C75_2 (C75_3 C75_4)))⟩
/-! ### F78: ogham_oghamref04.sign -/
def Fin78 (E : List (Nat × Blk)) : St → Ans := fun s => resK E s [(.tmp 4)] fun l => some (oneV l, s.σ)
def C78_0 (cc1 : XC) (cc2 : XC) : XC := (.seq (.ops (.op (some 4) .any [] (.mov (.con (V.int .i64 (Int.ofNat 0)))) <|
 .nil))
 (.seq (.ops (.op (some 9) .any [0] (.mov (.tmp 0)) <|
 .op (some 10) .any [1] (.mov (.tmp 1)) <|
 .op (some 11) .any [9, 10] (.sliceStr (.tmp 9) (some (.tmp 10)) none) <|
 .op (some 5) .any [11] (.mov (.tmp 11)) <|
 .nil))
 (.seq (.ops (.op (some 12) .any [] (.buildSlice 9 13 [(V.str ⟨0, 0⟩), (V.str ⟨0, 0⟩), (V.str ⟨0, 0⟩), (V.str ⟨0, 0⟩), (V.str ⟨0, 0⟩), (V.str ⟨0, 0⟩), (V.str ⟨0, 0⟩), (V.str ⟨0, 0⟩), (V.str ⟨0, 0⟩), (V.str ⟨0, 0⟩), (V.str ⟨0, 0⟩), (V.str ⟨0, 0⟩), (V.str ⟨0, 0⟩)] [(0, 1, (.con (V.str ⟨3, 4012602⟩))), (1, 1, (.con (V.str ⟨3, 3026478⟩))), (2, 1, (.con (V.str ⟨2, 11822⟩))), (3, 1, (.con (V.str ⟨2, 23387⟩))), (4, 1, (.con (V.str ⟨2, 23901⟩))), (5, 1, (.con (V.str ⟨1, 123⟩))), (6, 1, (.con (V.str ⟨1, 125⟩))), (7, 1, (.con (V.str ⟨1, 91⟩))), (8, 1, (.con (V.str ⟨1, 93⟩))), (9, 1, (.con (V.str ⟨1, 40⟩))), (10, 1, (.con (V.str ⟨1, 41⟩))), (11, 1, (.con (V.str ⟨1, 44⟩))), (12, 1, (.con (V.str ⟨1, 58⟩)))]) <|
 .op (some 6) .any [12] (.mov (.tmp 12)) <|
 .nil))
 (.seq (.seq (.ops (.op (some 7) .any [] (.mov (.con (V.int .i64 (Int.ofNat 0)))) <|
 .nil))
 (.block 0 (.loop [(5, .str), (6, .any), (7, (.int .i64))] [] [] cc2)))
 (.keep [] [] [] cc1)))))
def T78_0 (E : List (Nat × Blk)) (D : Den) (W : DrawFn) (K2 : BS → V → Int → H → Ans) (v0 : BS) (v1 : Int) (σ : H) : Ans :=
 sliceStrX v0 (some (V.int .i64 v1)) none fun t1 =>
 let s2 := newB σ (.cells [(V.str (BS.mk 3 4012602)), (V.str (BS.mk 3 3026478)), (V.str (BS.mk 2 11822)), (V.str (BS.mk 2 23387)), (V.str (BS.mk 2 23901)), (V.str (BS.mk 1 123)), (V.str (BS.mk 1 125)), (V.str (BS.mk 1 91)), (V.str (BS.mk 1 93)), (V.str (BS.mk 1 40)), (V.str (BS.mk 1 41)), (V.str (BS.mk 1 44)), (V.str (BS.mk 1 58))]);
 K2 t1 (V.sl (H.next σ) 0 13 (.ex 13)) (Int.ofNat 0) s2
def C78_1 : XC := (.seq (.ops (.op (some 4) .any [] (.mov (.con (V.int .i64 (Int.ofNat 0)))) <|
 .nil))
 .ret)
def T78_1 (E : List (Nat × Blk)) (D : Den) (W : DrawFn) (σ : H) : Ans :=
 some ((V.int .i64 (Int.ofNat 0)), σ)
def C78_2 : XC := (.seq (.seq (.ops (.op (some 13) .any [7] (.mov (.tmp 7)) <|
 .op (some 14) .any [6] (.mov (.tmp 6)) <|
 .op (some 15) .any [14] (.len false (.tmp 14)) <|
 .op (some 16) .any [13, 15] (.bin .lss .none (.tmp 13) (.tmp 15)) <|
 .nil))
 (.cond (.tmp 16) .skip
 (.exit 0)))
 (.seq (.block 1 (.seq (.ops (.op (some 19) .any [6] (.mov (.tmp 6)) <|
 .op (some 20) .any [7] (.mov (.tmp 7)) <|
 .op (some 21) .any [19, 20] (.iaddrS 1 (.tmp 19) (.tmp 20)) <|
 .op (some 22) .str [21] (.load none (.tmp 21)) <|
 .op (some 23) .any [22] (.len true (.tmp 22)) <|
 .op (some 8) .any [23] (.mov (.tmp 23)) <|
 .nil))
 (.seq (.draw (.op (some 24) .any [5] (.mov (.tmp 5)) <|
 .op (some 25) .any [24] (.len true (.tmp 24)) <|
 .op (some 26) .any [8] (.mov (.tmp 8)) <|
 .op (some 27) .any [25, 26] (.bin .geq .none (.tmp 25) (.tmp 26)) <|
 .op (some 28) .any [27] (.mov (.tmp 27)) <|
 .grp 28 true (.op (some 29) .any [5, 28] (.mov (.tmp 5)) <|
 .op (some 30) .any [8, 28] (.mov (.tmp 8)) <|
 .op (some 31) .any [29, 30, 28] (.sliceStr (.tmp 29) none (some (.tmp 30))) <|
 .op (some 32) .any [6, 28] (.mov (.tmp 6)) <|
 .op (some 33) .any [7, 28] (.mov (.tmp 7)) <|
 .op (some 34) .any [32, 33, 28] (.iaddrS 1 (.tmp 32) (.tmp 33)) <|
 .op (some 35) .str [34, 28] (.load none (.tmp 34)) <|
 .op (some 36) .any [31, 35, 28] (.bin .eql .none (.tmp 31) (.tmp 35)) <|
 .nil) 37 [28, 36] (.tmp 28) (.tmp 36) (.con (V.bool false)) <|
 .nil) [0, 1, 0, 7, 15, 31, 31, 127, 31, 31, 799, 1823, 4095, 8191])
 (.cond (.tmp 37) (.seq (.ops (.op (some 38) .any [8] (.mov (.tmp 8)) <|
 .op (some 4) .any [38] (.mov (.tmp 38)) <|
 .nil))
 .ret)
 .skip))))
 (.ops (.op (some 17) .any [7] (.mov (.tmp 7)) <|
 .op (some 18) .any [17] (.bin .add .none (.tmp 17) (.con (V.int .i64 (Int.ofNat 1)))) <|
 .op (some 7) .any [18] (.mov (.tmp 18)) <|
 .nil))))
def T78_2 (E : List (Nat × Blk)) (D : Den) (W : DrawFn) (K1 : H → Ans) (R2 : BS → V → Int → H → Ans) (v5 : BS) (v6 : V) (v7 : Int) (σ : H) : Ans :=
 slenK v6 fun n1 =>
 condK (ltF v7 (Int.ofNat n1)) (
 iaddrSK 1 v6 v7 fun b2 o3 =>
 ldK E σ b2 o3 fun u4 =>
 rtStr u4 fun x5 =>
 joinB (fun c6 s7 =>
 condK c6 (
 some ((V.int .i64 (Int.ofNat (BS.len x5))), s7)) (
 R2 v5 v6 (addF .i64 v7 (Int.ofNat 1)) s7)) fun k8 =>
 condK (leF (Int.ofNat (BS.len x5)) (Int.ofNat (BS.len v5))) (
 sliceStrX v5 none (some (V.int .i64 (Int.ofNat (BS.len x5)))) fun t9 =>
 iaddrSK 1 v6 v7 fun b10 o11 =>
 ldK E σ b10 o11 fun u12 =>
 rtStr u12 fun x13 =>
 k8 (BS.beq t9 x13) σ) (
 k8 false σ)) (
 K1 σ)
theorem P78_0 (E : List (Nat × Blk)) (D : Den) (W : DrawFn) (N : Nat) (cc1 : XC) (cc2 : XC) (v0 : BS) (v1 : Int) (σ : H) :
  denC E D W N (C78_0 cc1 cc2) ⟨[(0, (V.str v0)), (1, (V.int .i64 v1))], [], [], σ⟩ (Fin78 E) (fun _ _ => none) (Fin78 E) =
  T78_0 E D W (fun v5 v6 v7 σ => iterK (fun rec s' => denC E D W N cc2 s' (fun s'' => keepS [(5, .str), (6, .any), (7, (.int .i64))] [] [] s'' rec) (blkK 0 (fun s' => denC E D W N (.keep [] [] [] cc1) s' (Fin78 E) (fun _ _ => none) (Fin78 E)) (fun _ _ => none)) (Fin78 E)) N ⟨[(5, (V.str v5)), (6, v6), (7, (V.int .i64 v7))], [], [], σ⟩) v0 v1 σ := by kernel_rfl
theorem P78_1 (E : List (Nat × Blk)) (D : Den) (W : DrawFn) (N : Nat) (σ : H) :
  denC E D W N (C78_1 ) ⟨[], [], [], σ⟩ (Fin78 E) (fun _ _ => none) (Fin78 E) =
  T78_1 E D W   σ := by kernel_rfl
theorem P78_2 (E : List (Nat × Blk)) (D : Den) (W : DrawFn) (N : Nat) (cc1 : XC) (li2 : St → Ans) (v5 : BS) (v6 : V) (v7 : Int) (σ : H) :
  denC E D W N (C78_2 ) ⟨[(5, (V.str v5)), (6, v6), (7, (V.int .i64 v7))], [], [], σ⟩ (fun s'' => keepS [(5, .str), (6, .any), (7, (.int .i64))] [] [] s'' li2) (blkK 0 (fun s' => denC E D W N (.keep [] [] [] cc1) s' (Fin78 E) (fun _ _ => none) (Fin78 E)) (fun _ _ => none)) (Fin78 E) =
  T78_2 E D W (fun  σ => denC E D W N cc1 ⟨[], [], [], σ⟩ (Fin78 E) (fun _ _ => none) (Fin78 E)) (fun v5 v6 v7 σ => li2 ⟨[(5, (V.str v5)), (6, v6), (7, (V.int .i64 v7))], [], [], σ⟩) v5 v6 v7 σ := by kernel_rfl
def J78_1 (E : List (Nat × Blk)) (D : Den) (W : DrawFn) (N : Nat) : H → Ans := T78_1 E D W 
theorem JE78_1 (E : List (Nat × Blk)) (D : Den) (W : DrawFn) (N : Nat) (σ : H) :
  denC E D W N C78_1 ⟨[], [], [], σ⟩ (Fin78 E) (fun _ _ => none) (Fin78 E) = J78_1 E D W N  σ := by
  refine (P78_1 E D W N    σ).trans ?_
  kernel_rfl
def L78_2 (E : List (Nat × Blk)) (D : Den) (W : DrawFn) (N : Nat) (n : Nat) : BS → V → Int → H → Ans :=
  Nat.rec (fun _ _ _ _ => none) (fun _ ih => T78_2 E D W (J78_1 E D W N ) ih) n
theorem LE78_2 (E : List (Nat × Blk)) (D : Den) (W : DrawFn) (N : Nat) (n : Nat) : ∀ (v5 : BS) (v6 : V) (v7 : Int) (σ : H),
  iterK (fun rec s' => denC E D W N C78_2 s' (fun s'' => keepS [(5, .str), (6, .any), (7, (.int .i64))] [] [] s'' rec) (blkK 0 (fun s' => denC E D W N (.keep [] [] [] C78_1) s' (Fin78 E) (fun _ _ => none) (Fin78 E)) (fun _ _ => none)) (Fin78 E)) n ⟨[(5, (V.str v5)), (6, v6), (7, (V.int .i64 v7))], [], [], σ⟩ = L78_2 E D W N n v5 v6 v7 σ := by
  induction n with
  | zero => intro v5 v6 v7 σ; rfl
  | succ n ihn =>
    intro v5 v6 v7 σ
    rw [iterK_succ]
    refine (P78_2 E D W N C78_1 (iterK (fun rec s' => denC E D W N C78_2 s' (fun s'' => keepS [(5, .str), (6, .any), (7, (.int .i64))] [] [] s'' rec) (blkK 0 (fun s' => denC E D W N (.keep [] [] [] C78_1) s' (Fin78 E) (fun _ _ => none) (Fin78 E)) (fun _ _ => none)) (Fin78 E)) n) v5 v6 v7 σ).trans ?_
    simp only [ihn, JE78_1]
    kernel_rfl
def J78_0 (E : List (Nat × Blk)) (D : Den) (W : DrawFn) (N : Nat) : BS → Int → H → Ans := T78_0 E D W (L78_2 E D W N N)
theorem JE78_0 (E : List (Nat × Blk)) (D : Den) (W : DrawFn) (N : Nat) (v0 : BS) (v1 : Int) (σ : H) :
  denC E D W N (C78_0 C78_1 C78_2) ⟨[(0, (V.str v0)), (1, (V.int .i64 v1))], [], [], σ⟩ (Fin78 E) (fun _ _ => none) (Fin78 E) = J78_0 E D W N v0 v1 σ := by
  refine (P78_0 E D W N C78_1 C78_2  v0 v1 σ).trans ?_
  simp only [LE78_2]
  kernel_rfl
def F78 (E : List (Nat × Blk)) (D : Den) (W : DrawFn) (N : Nat) (args : List V) (σ : H) : Ans :=
 rtCons args fun x1 l2 =>
 rtStr x1 fun x3 =>
 rtCons l2 fun x4 l5 =>
 rtInt .i64 x4 fun x6 =>
 rtNil l5 (
 J78_0 E D W N x3 x6 σ)
def A78 : XFn := ⟨39, [.str, (.int .i64)], [(.tmp 4)], (C78_0 C78_1 C78_2)⟩
theorem FE78 (E : List (Nat × Blk)) (D : Den) (W : DrawFn) (N : Nat) (args : List V) (σ : H) : runX E D W N A78 args σ = F78 E D W N args σ := by
  unfold F78
  simp only [← JE78_0]
  kernel_rfl
theorem AO78 : A78.body.ok = true := by kernel_rfl

def C79_0 (cc1 : XC) : XC := (.seq (.ops (.op (some 2) .any [] (.mov (.con (V.int .i64 (Int.ofNat 0)))) <|
 .nil))
 (.seq (.ops (.op (some 6) .any [0] (.mov (.tmp 0)) <|
 .op (some 7) .any [6] (.idxStr (.tmp 6) (.con (V.int .i64 (Int.ofNat 0)))) <|
 .op (some 8) .any [7] (.bin .eql .none (.tmp 7) (.con (V.int .u8 (Int.ofNat 45)))) <|
 .op (some 3) .any [8] (.mov (.tmp 8)) <|
 .nil))
 (.seq (.seq (.ops (.op (some 9) .any [3] (.mov (.tmp 3)) <|
 .nil))
 (.cond (.tmp 9) (.ops (.op (some 10) .any [0] (.mov (.tmp 0)) <|
 .op (some 11) .any [10] (.sliceStr (.tmp 10) (some (.con (V.int .i64 (Int.ofNat 1)))) none) <|
 .op (some 0) .any [11] (.mov (.tmp 11)) <|
 .nil))
 .skip))
 (.keep [(0, .str), (3, .bool)] [] [] cc1))))
def C79_1 (cc2 : XC) (cc3 : XC) : XC := (.seq (.ops (.op (some 4) .any [] (.mov (.con (V.int .u64 (Int.ofNat 0)))) <|
 .nil))
 (.seq (.seq (.ops (.op (some 5) .any [] (.mov (.con (V.int .i64 (Int.ofNat 0)))) <|
 .nil))
 (.block 0 (.loop [(0, .str), (3, .bool), (4, (.int .u64)), (5, (.int .i64))] [] [] cc3)))
 (.keep [(3, .bool), (4, (.int .u64))] [] [] cc2)))
def C79_2 : XC := (.seq (.seq (.ops (.op (some 26) .any [3] (.mov (.tmp 3)) <|
 .nil))
 (.cond (.tmp 26) (.seq (.ops (.op (some 27) .any [4] (.mov (.tmp 4)) <|
 .op (some 28) .any [27] (.bin .sub .none (.tmp 27) (.con (V.int .u64 (Int.ofNat 1)))) <|
 .op (some 29) .any [28] (.conv (.toInt .i64) (.tmp 28)) <|
 .op (some 30) .any [29] (.un .neg (.tmp 29)) <|
 .op (some 31) .any [30] (.bin .sub .none (.tmp 30) (.con (V.int .i64 (Int.ofNat 1)))) <|
 .op (some 2) .any [31] (.mov (.tmp 31)) <|
 .nil))
 .ret)
 .skip))
 (.seq (.ops (.op (some 32) .any [4] (.mov (.tmp 4)) <|
 .op (some 33) .any [32] (.conv (.toInt .i64) (.tmp 32)) <|
 .op (some 2) .any [33] (.mov (.tmp 33)) <|
 .nil))
 .ret))
def C79_3 : XC := (.seq (.seq (.ops (.op (some 12) .any [5] (.mov (.tmp 5)) <|
 .op (some 13) .any [0] (.mov (.tmp 0)) <|
 .op (some 14) .any [13] (.len true (.tmp 13)) <|
 .op (some 15) .any [12, 14] (.bin .lss .none (.tmp 12) (.tmp 14)) <|
 .nil))
 (.cond (.tmp 15) .skip
 (.exit 0)))
 (.seq (.block 1 (.ops (.op (some 18) .any [4] (.mov (.tmp 4)) <|
 .op (some 19) .any [18] (.bin .mul .none (.con (V.int .u64 (Int.ofNat 10))) (.tmp 18)) <|
 .op (some 20) .any [0] (.mov (.tmp 0)) <|
 .op (some 21) .any [5] (.mov (.tmp 5)) <|
 .op (some 22) .any [20, 21] (.idxStr (.tmp 20) (.tmp 21)) <|
 .op (some 23) .any [22] (.bin .sub .none (.tmp 22) (.con (V.int .u8 (Int.ofNat 48)))) <|
 .op (some 24) .any [23] (.conv (.toInt .u64) (.tmp 23)) <|
 .op (some 25) .any [19, 24] (.bin .add .none (.tmp 19) (.tmp 24)) <|
 .op (some 4) .any [25] (.mov (.tmp 25)) <|
 .nil)))
 (.ops (.op (some 16) .any [5] (.mov (.tmp 5)) <|
 .op (some 17) .any [16] (.bin .add .none (.tmp 16) (.con (V.int .i64 (Int.ofNat 1)))) <|
 .op (some 5) .any [17] (.mov (.tmp 17)) <|
 .nil))))
def A79 : XFn := ⟨34, [.str], [(.tmp 2)], (C79_0 (C79_1 C79_2 C79_3))⟩
def C81_0 (cc1 : XC) : XC := (.seq (.ops (.pal 2 [] 101 [(V.bool false), (V.bool false), (V.bool false), (V.bool false), (V.int .i64 (Int.ofNat 0)), (V.int .i64 (Int.ofNat 0))] <|
 .nil))
 (.seq (.ops (.op (some 4) (.agg [.bool, .bool, .bool, .bool, (.int .i64), (.int .i64)]) [] (.build [(V.bool false), (V.bool false), (V.bool false), (V.bool false), (V.int .i64 (Int.ofNat 0)), (V.int .i64 (Int.ofNat 0))] [(0, 1, (.con (V.bool true)))]) <|
 .pal 3 [] 101 [(V.bool false), (V.bool false), (V.bool false), (V.bool false), (V.int .i64 (Int.ofNat 0)), (V.int .i64 (Int.ofNat 0))] <|
 .op none (.agg [.bool, .bool, .bool, .bool, (.int .i64), (.int .i64)]) [3, 4] (.store 6 (.tmp 3) (.tmp 4)) <|
 .nil))
 (.seq (.seq (.ops (.op (some 5) .any [0] (.mov (.tmp 0)) <|
 .op (some 6) .bool [5] (.call 19 [(.tmp 5), (.con (V.str ⟨3, 5130573⟩))]) <|
 .op (some 7) .any [6] (.un .not (.tmp 6)) <|
 .nil))
 (.cond (.tmp 7) (.ops (.op (some 8) .any [0] (.mov (.tmp 0)) <|
 .op (some 9) (.int .i64) [8] (.call 39 [(.tmp 8)]) <|
 .op (some 10) .any [3] (.faddr 1 (.tmp 3)) <|
 .op none .any [10] (.store 1 (.tmp 10) (.con (V.bool true))) <|
 .op (some 11) .any [3] (.faddr 4 (.tmp 3)) <|
 .op none .any [11, 9] (.store 1 (.tmp 11) (.tmp 9)) <|
 .nil))
 .skip))
 (.keep [(0, .any)] [2, 3] [(2, [.bool, .bool, .bool, .bool, (.int .i64), (.int .i64)]), (3, [.bool, .bool, .bool, .bool, (.int .i64), (.int .i64)])] cc1))))
def C81_1 (cc2 : XC) : XC := (.seq (.block 0 (.seq (.ops (.op (some 13) .any [0] (.mov (.tmp 0)) <|
 .op (some 14) .bool [13] (.call 19 [(.tmp 13), (.con (V.str ⟨2, 11822⟩))]) <|
 .op (some 12) .any [14] (.mov (.tmp 14)) <|
 .nil))
 (.cond (.tmp 12) (.seq (.ops (.op (some 15) .any [0] (.mov (.tmp 0)) <|
 .op (some 16) .bool [15] (.call 19 [(.tmp 15), (.con (V.str ⟨3, 5783885⟩))]) <|
 .op (some 17) .any [16] (.un .not (.tmp 16)) <|
 .nil))
 (.cond (.tmp 17) (.ops (.op (some 18) .any [0] (.mov (.tmp 0)) <|
 .op (some 19) (.int .i64) [18] (.call 39 [(.tmp 18)]) <|
 .op (some 20) .any [3] (.faddr 2 (.tmp 3)) <|
 .op none .any [20] (.store 1 (.tmp 20) (.con (V.bool true))) <|
 .op (some 21) .any [3] (.faddr 5 (.tmp 3)) <|
 .op none .any [21, 19] (.store 1 (.tmp 21) (.tmp 19)) <|
 .nil))
 .skip))
 (.seq (.ops (.op (some 23) .any [3] (.faddr 1 (.tmp 3)) <|
 .op (some 24) .bool [23] (.load none (.tmp 23)) <|
 .op (some 22) .any [24] (.mov (.tmp 24)) <|
 .nil))
 (.cond (.tmp 22) (.ops (.op (some 25) .any [3] (.faddr 4 (.tmp 3)) <|
 .op (some 26) (.int .i64) [25] (.load none (.tmp 25)) <|
 .op (some 27) .any [3] (.faddr 2 (.tmp 3)) <|
 .op none .any [27] (.store 1 (.tmp 27) (.con (V.bool true))) <|
 .op (some 28) .any [3] (.faddr 5 (.tmp 3)) <|
 .op none .any [28, 26] (.store 1 (.tmp 28) (.tmp 26)) <|
 .nil))
 .skip)))))
 (.keep [(0, .any)] [2, 3] [(2, [.bool, .bool, .bool, .bool, (.int .i64), (.int .i64)]), (3, [.bool, .bool, .bool, .bool, (.int .i64), (.int .i64)])] cc2))
def C81_2 (cc3 : XC) : XC := (.seq (.seq (.ops (.op (some 29) .any [0] (.mov (.tmp 0)) <|
 .op (some 30) .bool [29] (.call 19 [(.tmp 29), (.con (V.str ⟨1, 44⟩))]) <|
 .nil))
 (.cond (.tmp 30) (.seq (.ops (.op (some 31) .any [0] (.mov (.tmp 0)) <|
 .op (some 32) (.tup []) [31] (.call 18 [(.tmp 31), (.con (V.str ⟨3, 3026478⟩))]) <|
 .nil))
 (.ops (.op (some 33) .any [3] (.faddr 3 (.tmp 3)) <|
 .op none .any [33] (.store 1 (.tmp 33) (.con (V.bool true))) <|
 .nil)))
 .skip))
 (.keep [] [2, 3] [(2, [.bool, .bool, .bool, .bool, (.int .i64), (.int .i64)]), (3, [.bool, .bool, .bool, .bool, (.int .i64), (.int .i64)])] cc3))
def C81_3 : XC := (.seq (.ops (.op (some 34) (.agg [.bool, .bool, .bool, .bool, (.int .i64), (.int .i64)]) [3] (.load (some 6) (.tmp 3)) <|
 .op none (.agg [.bool, .bool, .bool, .bool, (.int .i64), (.int .i64)]) [2, 34] (.store 6 (.tmp 2) (.tmp 34)) <|
 .nil))
 .ret)
def A81 : XFn := ⟨35, [.any], [(.cell 2 (some 6))], (C81_0 (C81_1 (C81_2 C81_3)))⟩
def G82_0 : List AOper := [⟨(some 49), .mov (.tmp 1), none⟩, ⟨(some 50), .mov (.tmp 1), none⟩, ⟨(some 51), .nilck (.tmp 50), none⟩, ⟨(some 52), .faddr 11 (.tmp 51), none⟩, ⟨(some 53), .load none (.tmp 52), none⟩, ⟨(some 54), .load (some 3) (.tmp 4), none⟩, ⟨(some 55), .buildSlice 229 1 [(V.str ⟨0, 0⟩), (V.int .i64 (Int.ofNat 0)), (V.bool false)] [(0, 3, (.tmp 54))], none⟩, ⟨(some 56), .append 229 3 32 (.tmp 53) (.tmp 55), none⟩, ⟨(some 57), .nilck (.tmp 49), none⟩, ⟨(some 58), .faddr 11 (.tmp 57), none⟩, ⟨none, .store 1 (.tmp 58) (.tmp 56), none⟩]
def H82_0 : List DP := [⟨0, [1]⟩, ⟨0, [1]⟩, ⟨2, [50]⟩, ⟨6, [51]⟩, ⟨14, [52]⟩, ⟨0, [4]⟩, ⟨32, [54]⟩, ⟨126, [53, 55]⟩, ⟨255, [49]⟩, ⟨511, [57]⟩, ⟨1023, [58, 56]⟩]
def C82_0 (cc1 : XC) (cc2 : XC) : XC := (.seq (.block 0 (.loop [(0, .ptr), (1, .ptr)] [] [] cc2))
 (.keep [(1, .ptr)] [] [] cc1))
def C82_1 : XC := (.seq (.ops (.op (some 62) .any [1] (.mov (.tmp 1)) <|
 .op (some 63) .any [62] (.nilck (.tmp 62)) <|
 .op (some 64) .any [63] (.faddr 14 (.tmp 63)) <|
 .op (some 65) .bool [64] (.load none (.tmp 64)) <|
 .op (some 66) .any [65] (.un .not (.tmp 65)) <|
 .nil))
 (.cond (.tmp 66) (.ops (.op (some 67) .any [1] (.mov (.tmp 1)) <|
 .op (some 68) .any [1] (.mov (.tmp 1)) <|
 .op (some 69) .any [68] (.nilck (.tmp 68)) <|
 .op (some 70) .any [69] (.faddr 11 (.tmp 69)) <|
 .op (some 71) .any [70] (.load none (.tmp 70)) <|
 .op (some 72) .any [71] (.len false (.tmp 71)) <|
 .op (some 73) .any [67] (.nilck (.tmp 67)) <|
 .op (some 74) .any [73] (.faddr 13 (.tmp 73)) <|
 .op none .any [74, 72] (.store 1 (.tmp 74) (.tmp 72)) <|
 .nil))
 .skip))
def C82_2 (cc3 : XC) (cc4 : XC) : XC := (.seq (.seq (.ops (.op (some 5) .any [0] (.mov (.tmp 0)) <|
 .op (some 6) .any [5] (.nilck (.tmp 5)) <|
 .op (some 7) .any [6] (.faddr 7 (.tmp 6)) <|
 .op (some 8) (.int .i64) [7] (.load none (.tmp 7)) <|
 .op (some 9) .any [8] (.bin .eql .none (.tmp 8) (.con (V.int .i64 (Int.ofNat 0)))) <|
 .nil))
 (.cond (.tmp 9) .skip
 (.exit 0)))
 (.block 1 (.seq (.seq (.ops (.op (some 10) .any [1] (.mov (.tmp 1)) <|
 .op (some 11) .any [10] (.nilck (.tmp 10)) <|
 .op (some 12) .any [11] (.faddr 11 (.tmp 11)) <|
 .op (some 13) .any [12] (.load none (.tmp 12)) <|
 .op (some 14) .any [13] (.len false (.tmp 13)) <|
 .op (some 15) .any [14] (.bin .gtr .none (.tmp 14) (.con (V.int .i64 (Int.ofNat 0)))) <|
 .op (some 16) .any [15] (.mov (.tmp 15)) <|
 .grp 16 true (.op (some 17) .any [1, 16] (.mov (.tmp 1)) <|
 .op (some 18) .any [17, 16] (.nilck (.tmp 17)) <|
 .op (some 19) .any [18, 16] (.faddr 14 (.tmp 18)) <|
 .op (some 20) .bool [19, 16] (.load none (.tmp 19)) <|
 .op (some 21) .any [20, 16] (.un .not (.tmp 20)) <|
 .nil) 22 [16, 21] (.tmp 16) (.tmp 21) (.con (V.bool false)) <|
 .op (some 23) .any [22] (.mov (.tmp 22)) <|
 .grp 23 true (.op (some 24) .any [0, 23] (.mov (.tmp 0)) <|
 .op (some 25) .bool [24, 23] (.call 19 [(.tmp 24), (.con (V.str ⟨3, 3026478⟩))]) <|
 .nil) 26 [23, 25] (.tmp 23) (.tmp 25) (.con (V.bool false)) <|
 .nil))
 (.cond (.tmp 26) (.ops (.op (some 27) .any [1] (.mov (.tmp 1)) <|
 .op (some 28) .any [1] (.mov (.tmp 1)) <|
 .op (some 29) .any [1] (.mov (.tmp 1)) <|
 .op (some 30) .any [29] (.nilck (.tmp 29)) <|
 .op (some 31) .any [30] (.faddr 11 (.tmp 30)) <|
 .op (some 32) .any [31] (.load none (.tmp 31)) <|
 .op (some 33) .any [32] (.len false (.tmp 32)) <|
 .op (some 34) .any [27] (.nilck (.tmp 27)) <|
 .op (some 35) .any [34] (.faddr 14 (.tmp 34)) <|
 .op none .any [35] (.store 1 (.tmp 35) (.con (V.bool true))) <|
 .op (some 36) .any [28] (.nilck (.tmp 28)) <|
 .op (some 37) .any [36] (.faddr 13 (.tmp 36)) <|
 .op none .any [37, 33] (.store 1 (.tmp 37) (.tmp 33)) <|
 .nil))
 (.seq (.ops (.op (some 38) .any [0] (.mov (.tmp 0)) <|
 .op (some 39) .str [38] (.call 17 [(.tmp 38), (.con (V.int .i64 (Int.ofNat 2)))]) <|
 .op (some 40) (.agg [.str, (.int .i64), .bool]) [39] (.build [(V.str ⟨0, 0⟩), (V.int .i64 (Int.ofNat 0)), (V.bool false)] [(0, 1, (.tmp 39))]) <|
 .op (some 4) .any [] (.alloc 229 [(V.str ⟨0, 0⟩), (V.int .i64 (Int.ofNat 0)), (V.bool false)]) <|
 .op none (.agg [.str, (.int .i64), .bool]) [4, 40] (.store 3 (.tmp 4) (.tmp 40)) <|
 .nil))
 (.seq (.seq (.ops (.op (some 41) .any [0] (.mov (.tmp 0)) <|
 .op (some 42) .bool [41] (.call 19 [(.tmp 41), (.con (V.str ⟨1, 40⟩))]) <|
 .nil))
 (.cond (.tmp 42) (.seq (.ops (.op (some 43) .any [0] (.mov (.tmp 0)) <|
 .op (some 44) (.int .i64) [43] (.call 39 [(.tmp 43)]) <|
 .op (some 45) .any [4] (.faddr 2 (.tmp 4)) <|
 .op none .any [45] (.store 1 (.tmp 45) (.con (V.bool true))) <|
 .op (some 46) .any [4] (.faddr 1 (.tmp 4)) <|
 .op none .any [46, 44] (.store 1 (.tmp 46) (.tmp 44)) <|
 .nil))
 (.ops (.op (some 47) .any [0] (.mov (.tmp 0)) <|
 .op (some 48) (.tup []) [47] (.call 18 [(.tmp 47), (.con (V.str ⟨1, 41⟩))]) <|
 .nil)))
 .skip))
 (.keep [(0, .ptr), (1, .ptr), (4, .ptr)] [] [] cc4)))))
 (.keep [(0, .ptr), (1, .ptr)] [] [] cc3))))
def C82_3 : XC := (.seq (.ops (.op (some 59) .any [0] (.mov (.tmp 0)) <|
 .op (some 60) .bool [59] (.call 19 [(.tmp 59), (.con (V.str ⟨1, 44⟩))]) <|
 .op (some 61) .any [60] (.un .not (.tmp 60)) <|
 .nil))
 (.cond (.tmp 61) (.exit 0)
 .skip))
def C82_4 : XC := (.keep [(0, .ptr), (1, .ptr), (4, .ptr)] [] [] (.gdraw G82_0 H82_0 [(0, .ptr), (1, .ptr)]))
def A82 : XFn := ⟨75, [.ptr, .ptr], [], (C82_0 C82_1 (C82_2 C82_3 C82_4))⟩
def C83_0 (cc1 : XC) (cc2 : XC) : XC := (.seq (.seq (.ops (.op (some 7) .any [0] (.mov (.tmp 0)) <|
 .op (some 8) .bool [7] (.call 19 [(.tmp 7), (.con (V.str ⟨1, 125⟩))]) <|
 .nil))
 (.cond (.tmp 8) .ret
 .skip))
 (.seq (.ops (.op (some 6) .any [] (.mov (.con (V.int .i64 (Int.ofNat 0)))) <|
 .nil))
 (.seq (.block 0 (.loop [(0, .ptr), (1, .ptr), (2, (.int .i64)), (6, (.int .i64))] [] [] cc2))
 (.keep [(0, .ptr), (1, .ptr)] [] [] cc1))))
def C83_1 : XC := (.seq (.ops (.op (some 68) .any [0] (.mov (.tmp 0)) <|
 .op (some 69) (.tup []) [68] (.call 18 [(.tmp 68), (.con (V.str ⟨1, 125⟩))]) <|
 .nil))
 (.seq (.ops (.op (some 70) .any [1] (.mov (.tmp 1)) <|
 .op (some 71) .any [70] (.nilck (.tmp 70)) <|
 .op (some 72) .any [71] (.faddr 14 (.tmp 71)) <|
 .op (some 73) .bool [72] (.load none (.tmp 72)) <|
 .op (some 74) .any [73] (.un .not (.tmp 73)) <|
 .nil))
 (.cond (.tmp 74) (.ops (.op (some 75) .any [1] (.mov (.tmp 1)) <|
 .op (some 76) .any [1] (.mov (.tmp 1)) <|
 .op (some 77) .any [76] (.nilck (.tmp 76)) <|
 .op (some 78) .any [77] (.faddr 12 (.tmp 77)) <|
 .op (some 79) .any [78] (.load none (.tmp 78)) <|
 .op (some 80) .any [79] (.len false (.tmp 79)) <|
 .op (some 81) .any [75] (.nilck (.tmp 75)) <|
 .op (some 82) .any [81] (.faddr 13 (.tmp 81)) <|
 .op none .any [82, 80] (.store 1 (.tmp 82) (.tmp 80)) <|
 .nil))
 .skip)))
def C83_2 (cc3 : XC) (cc4 : XC) (cc5 : XC) : XC := (.seq (.seq (.ops (.op (some 9) .any [0] (.mov (.tmp 0)) <|
 .op (some 10) .any [9] (.nilck (.tmp 9)) <|
 .op (some 11) .any [10] (.faddr 7 (.tmp 10)) <|
 .op (some 12) (.int .i64) [11] (.load none (.tmp 11)) <|
 .op (some 13) .any [12] (.bin .eql .none (.tmp 12) (.con (V.int .i64 (Int.ofNat 0)))) <|
 .nil))
 (.cond (.tmp 13) .skip
 (.exit 0)))
 (.block 1 (.seq (.block 2 (.seq (.ops (.op (some 19) .any [1] (.mov (.tmp 1)) <|
 .op (some 20) .any [19] (.nilck (.tmp 19)) <|
 .op (some 21) .any [20] (.faddr 14 (.tmp 20)) <|
 .op (some 22) .bool [21] (.load none (.tmp 21)) <|
 .op (some 23) .any [22] (.un .not (.tmp 22)) <|
 .op (some 24) .any [23] (.mov (.tmp 23)) <|
 .grp 24 true (.op (some 25) .any [0, 24] (.mov (.tmp 0)) <|
 .op (some 26) .bool [25, 24] (.call 19 [(.tmp 25), (.con (V.str ⟨3, 3026478⟩))]) <|
 .nil) 27 [24, 26] (.tmp 24) (.tmp 26) (.con (V.bool false)) <|
 .op (some 18) .any [27] (.mov (.tmp 27)) <|
 .nil))
 (.cond (.tmp 18) (.ops (.op (some 28) .any [1] (.mov (.tmp 1)) <|
 .op (some 29) .any [1] (.mov (.tmp 1)) <|
 .op (some 30) .any [1] (.mov (.tmp 1)) <|
 .op (some 31) .any [30] (.nilck (.tmp 30)) <|
 .op (some 32) .any [31] (.faddr 12 (.tmp 31)) <|
 .op (some 33) .any [32] (.load none (.tmp 32)) <|
 .op (some 34) .any [33] (.len false (.tmp 33)) <|
 .op (some 35) .any [28] (.nilck (.tmp 28)) <|
 .op (some 36) .any [35] (.faddr 14 (.tmp 35)) <|
 .op none .any [36] (.store 1 (.tmp 36) (.con (V.bool true))) <|
 .op (some 37) .any [29] (.nilck (.tmp 29)) <|
 .op (some 38) .any [37] (.faddr 13 (.tmp 37)) <|
 .op none .any [38, 34] (.store 1 (.tmp 38) (.tmp 34)) <|
 .nil))
 (.seq (.ops (.op (some 40) .any [1] (.mov (.tmp 1)) <|
 .op (some 41) .any [40] (.nilck (.tmp 40)) <|
 .op (some 42) .any [41] (.faddr 14 (.tmp 41)) <|
 .op (some 43) .bool [42] (.load none (.tmp 42)) <|
 .op (some 44) .any [43] (.mov (.tmp 43)) <|
 .grp 44 true (.op (some 45) .any [0, 44] (.mov (.tmp 0)) <|
 .op (some 46) .bool [45, 44] (.call 19 [(.tmp 45), (.con (V.str ⟨2, 23387⟩))]) <|
 .nil) 47 [44, 46] (.tmp 44) (.tmp 46) (.con (V.bool false)) <|
 .op (some 39) .any [47] (.mov (.tmp 47)) <|
 .nil))
 (.cond (.tmp 39) (.seq (.ops (.op (some 48) .any [6] (.mov (.tmp 6)) <|
 .op (some 49) .any [48] (.bin .add .none (.tmp 48) (.con (V.int .i64 (Int.ofNat 1)))) <|
 .op (some 6) .any [49] (.mov (.tmp 49)) <|
 .nil))
 (.seq (.block 3 (.loop [(0, .ptr), (1, .ptr), (2, (.int .i64)), (6, (.int .i64))] [] [] cc5))
 (.keep [(0, .ptr), (1, .ptr), (2, (.int .i64)), (6, (.int .i64))] [] [] cc4)))
 (.ops (.op (some 14) .any [0] (.mov (.tmp 0)) <|
 .op (some 15) .any [1] (.mov (.tmp 1)) <|
 .op (some 16) .any [2] (.mov (.tmp 2)) <|
 .op (some 17) (.tup []) [14, 15, 16] (.call 148 [(.tmp 14), (.tmp 15), (.tmp 16), (.con (V.int .i64 (Int.ofNat 0)))]) <|
 .nil)))))))
 (.keep [(0, .ptr), (1, .ptr), (2, (.int .i64)), (6, (.int .i64))] [] [] cc3))))
def C83_3 : XC := (.seq (.ops (.op (some 65) .any [0] (.mov (.tmp 0)) <|
 .op (some 66) .bool [65] (.call 19 [(.tmp 65), (.con (V.str ⟨1, 44⟩))]) <|
 .op (some 67) .any [66] (.un .not (.tmp 66)) <|
 .nil))
 (.cond (.tmp 67) (.exit 0)
 .skip))
def C83_4 : XC := (.ops (.op (some 63) .any [0] (.mov (.tmp 0)) <|
 .op (some 64) (.tup []) [63] (.call 18 [(.tmp 63), (.con (V.str ⟨2, 23901⟩))]) <|
 .nil))
def C83_5 : XC := (.seq (.seq (.ops (.op (some 50) .any [0] (.mov (.tmp 0)) <|
 .op (some 51) .any [50] (.nilck (.tmp 50)) <|
 .op (some 52) .any [51] (.faddr 7 (.tmp 51)) <|
 .op (some 53) (.int .i64) [52] (.load none (.tmp 52)) <|
 .op (some 54) .any [53] (.bin .eql .none (.tmp 53) (.con (V.int .i64 (Int.ofNat 0)))) <|
 .nil))
 (.cond (.tmp 54) .skip
 (.exit 3)))
 (.block 4 (.seq (.ops (.op (some 55) .any [0] (.mov (.tmp 0)) <|
 .op (some 56) .any [1] (.mov (.tmp 1)) <|
 .op (some 57) .any [2] (.mov (.tmp 2)) <|
 .op (some 58) .any [6] (.mov (.tmp 6)) <|
 .op (some 59) (.tup []) [55, 56, 57, 58] (.call 148 [(.tmp 55), (.tmp 56), (.tmp 57), (.tmp 58)]) <|
 .nil))
 (.seq (.ops (.op (some 60) .any [0] (.mov (.tmp 0)) <|
 .op (some 61) .bool [60] (.call 19 [(.tmp 60), (.con (V.str ⟨1, 44⟩))]) <|
 .op (some 62) .any [61] (.un .not (.tmp 61)) <|
 .nil))
 (.cond (.tmp 62) (.exit 3)
 .skip)))))
def A83 : XFn := ⟨83, [.ptr, .ptr, (.int .i64)], [], (C83_0 C83_1 (C83_2 C83_3 C83_4 C83_5))⟩
def C85_0 (cc1 : XC) (cc2 : XC) : XC := (.seq (.ops (.pal 2 [] 182 [(V.int .i64 (Int.ofNat 0)), (V.int .i64 (Int.ofNat 0))] <|
 .nil))
 (.seq (.seq (.ops (.op (some 3) .any [0] (.mov (.tmp 0)) <|
 .nil))
 (.block 0 (.seq (.ops (.op (some 5) .any [3] (.bin .eql .none (.tmp 3) (.con (V.int .i64 (Int.ofNat 1)))) <|
 .op (some 4) .any [5] (.mov (.tmp 5)) <|
 .nil))
 (.cond (.tmp 4) (.seq (.ops (.op (some 6) (.agg [(.int .i64), (.int .i64)]) [] (.build [(V.int .i64 (Int.ofNat 0)), (V.int .i64 (Int.ofNat 0))] [(1, 1, (.con (V.int .i64 (Int.ofNat 1))))]) <|
 .op none (.agg [(.int .i64), (.int .i64)]) [2, 6] (.store 2 (.tmp 2) (.tmp 6)) <|
 .nil))
 .ret)
 (.seq (.ops (.op (some 8) .any [3] (.bin .eql .none (.tmp 3) (.con (V.int .i64 (Int.ofNat 2)))) <|
 .op (some 7) .any [8] (.mov (.tmp 8)) <|
 .nil))
 (.cond (.tmp 7) (.seq (.ops (.op (some 9) (.agg [(.int .i64), (.int .i64)]) [] (.build [(V.int .i64 (Int.ofNat 0)), (V.int .i64 (Int.ofNat 0))] [(1, 1, (.con (V.int .i64 (Int.ofNat 2))))]) <|
 .op none (.agg [(.int .i64), (.int .i64)]) [2, 9] (.store 2 (.tmp 2) (.tmp 9)) <|
 .nil))
 .ret)
 (.seq (.ops (.op (some 11) .any [3] (.bin .eql .none (.tmp 3) (.con (V.int .i64 (Int.ofNat 5)))) <|
 .op (some 10) .any [11] (.mov (.tmp 11)) <|
 .nil))
 (.cond (.tmp 10) (.seq (.ops (.op (some 12) (.agg [(.int .i64), (.int .i64)]) [] (.build [(V.int .i64 (Int.ofNat 0)), (V.int .i64 (Int.ofNat 0))] [(1, 1, (.con (V.int .i64 (Int.ofNat 4))))]) <|
 .op none (.agg [(.int .i64), (.int .i64)]) [2, 12] (.store 2 (.tmp 2) (.tmp 12)) <|
 .nil))
 .ret)
 (.seq (.ops (.op (some 14) .any [3] (.bin .eql .none (.tmp 3) (.con (V.int .i64 (Int.ofNat 4)))) <|
 .op (some 13) .any [14] (.mov (.tmp 14)) <|
 .nil))
 (.cond (.tmp 13) (.seq (.ops (.op (some 15) (.agg [(.int .i64), (.int .i64)]) [] (.build [(V.int .i64 (Int.ofNat 0)), (V.int .i64 (Int.ofNat 0))] [(1, 1, (.con (V.int .i64 (Int.ofNat 5))))]) <|
 .op none (.agg [(.int .i64), (.int .i64)]) [2, 15] (.store 2 (.tmp 2) (.tmp 15)) <|
 .nil))
 .ret)
 (.seq (.ops (.op (some 17) .any [3] (.bin .eql .none (.tmp 3) (.con (V.int .i64 (Int.ofNat 3)))) <|
 .op (some 16) .any [17] (.mov (.tmp 17)) <|
 .nil))
 (.cond (.tmp 16) (.seq (.ops (.op (some 18) (.agg [(.int .i64), (.int .i64)]) [] (.build [(V.int .i64 (Int.ofNat 0)), (V.int .i64 (Int.ofNat 0))] [(1, 1, (.con (V.int .i64 (Int.ofNat 10))))]) <|
 .op none (.agg [(.int .i64), (.int .i64)]) [2, 18] (.store 2 (.tmp 2) (.tmp 18)) <|
 .nil))
 .ret)
 (.seq (.ops (.op (some 20) .any [3] (.bin .eql .none (.tmp 3) (.con (V.int .i64 (Int.ofNat 6)))) <|
 .op (some 19) .any [20] (.mov (.tmp 20)) <|
 .nil))
 (.cond (.tmp 19) (.seq (.ops (.op (some 21) (.agg [(.int .i64), (.int .i64)]) [] (.build [(V.int .i64 (Int.ofNat 0)), (V.int .i64 (Int.ofNat 0))] [(1, 1, (.con (V.int .i64 (Int.ofNat 12))))]) <|
 .op none (.agg [(.int .i64), (.int .i64)]) [2, 21] (.store 2 (.tmp 2) (.tmp 21)) <|
 .nil))
 .ret)
 (.seq (.seq (.ops (.op (some 23) .any [3] (.bin .eql .none (.tmp 3) (.con (V.int .i64 (Int.ofNat 7)))) <|
 .op (some 22) .any [23] (.mov (.tmp 23)) <|
 .nil))
 (.cond (.tmp 22) .skip
 (.ops (.op (some 24) .any [3] (.bin .eql .none (.tmp 3) (.con (V.int .i64 (Int.ofNat 10)))) <|
 .op (some 22) .any [24] (.mov (.tmp 24)) <|
 .nil))))
 (.keep [(3, (.int .i64)), (22, .bool)] [2] [(2, [(.int .i64), (.int .i64)])] cc2))))))))))))))))
 (.keep [] [2] [(2, [(.int .i64), (.int .i64)])] cc1)))
def C85_1 : XC := (.seq (.ops (.op (some 29) (.agg [(.int .i64), (.int .i64)]) [] (.build [(V.int .i64 (Int.ofNat 0)), (V.int .i64 (Int.ofNat 0))] []) <|
 .op none (.agg [(.int .i64), (.int .i64)]) [2, 29] (.store 2 (.tmp 2) (.tmp 29)) <|
 .nil))
 .ret)
def C85_2 : XC := (.cond (.tmp 22) (.seq (.ops (.op (some 25) (.agg [(.int .i64), (.int .i64)]) [] (.build [(V.int .i64 (Int.ofNat 0)), (V.int .i64 (Int.ofNat 0))] [(1, 1, (.con (V.int .i64 (Int.ofNat 16))))]) <|
 .op none (.agg [(.int .i64), (.int .i64)]) [2, 25] (.store 2 (.tmp 2) (.tmp 25)) <|
 .nil))
 .ret)
 (.seq (.ops (.op (some 27) .any [3] (.bin .eql .none (.tmp 3) (.con (V.int .i64 (Int.ofNat 8)))) <|
 .op (some 26) .any [27] (.mov (.tmp 27)) <|
 .nil))
 (.cond (.tmp 26) (.seq (.ops (.op (some 28) (.agg [(.int .i64), (.int .i64)]) [] (.build [(V.int .i64 (Int.ofNat 0)), (V.int .i64 (Int.ofNat 0))] [(1, 1, (.con (V.int .i64 (Int.ofNat 17))))]) <|
 .op none (.agg [(.int .i64), (.int .i64)]) [2, 28] (.store 2 (.tmp 2) (.tmp 28)) <|
 .nil))
 .ret)
 .skip)))
def A85 : XFn := ⟨30, [(.int .i64)], [(.cell 2 (some 2))], (C85_0 C85_1 C85_2)⟩
def C86_0 : XC := (.seq (.ops (.op (some 2) .any [0] (.box 101 (.tmp 0)) <|
 .op (some 4) .any [] (.mov (.con (V.int .i64 (Int.ofNat 0)))) <|
 .nil))
 (.seq (.seq (.ops (.op (some 5) .any [2] (.faddr 0 (.tmp 2)) <|
 .op (some 6) .bool [5] (.load none (.tmp 5)) <|
 .op (some 7) .any [6] (.un .not (.tmp 6)) <|
 .nil))
 (.cond (.tmp 7) (.seq (.ops (.op (some 4) .any [] (.mov (.con (V.int .i64 (Int.ofNat 0)))) <|
 .nil))
 .ret)
 .skip))
 (.seq (.seq (.ops (.op (some 8) .any [2] (.faddr 1 (.tmp 2)) <|
 .op (some 9) .bool [8] (.load none (.tmp 8)) <|
 .op (some 10) .any [9] (.mov (.tmp 9)) <|
 .grp 10 true (.op (some 11) .any [2, 10] (.faddr 2 (.tmp 2)) <|
 .op (some 12) .bool [11, 10] (.load none (.tmp 11)) <|
 .nil) 13 [10, 12] (.tmp 10) (.tmp 12) (.con (V.bool false)) <|
 .op (some 14) .any [13] (.mov (.tmp 13)) <|
 .grp 14 true (.op (some 15) .any [2, 14] (.faddr 4 (.tmp 2)) <|
 .op (some 16) (.int .i64) [15, 14] (.load none (.tmp 15)) <|
 .op (some 17) .any [2, 14] (.faddr 5 (.tmp 2)) <|
 .op (some 18) (.int .i64) [17, 14] (.load none (.tmp 17)) <|
 .op (some 19) .any [16, 18, 14] (.bin .gtr .none (.tmp 16) (.tmp 18)) <|
 .nil) 20 [14, 19] (.tmp 14) (.tmp 19) (.con (V.bool false)) <|
 .nil))
 (.cond (.tmp 20) (.seq (.ops (.op (some 4) .any [] (.mov (.con (V.int .i64 (Int.ofNat 11)))) <|
 .nil))
 .ret)
 .skip))
 (.seq (.seq (.ops (.op (some 21) .any [1] (.mov (.tmp 1)) <|
 .op (some 22) .any [21] (.mov (.tmp 21)) <|
 .grp 22 true (.op (some 23) .any [2, 22] (.faddr 1 (.tmp 2)) <|
 .op (some 24) .bool [23, 22] (.load none (.tmp 23)) <|
 .op (some 25) .any [24, 22] (.un .not (.tmp 24)) <|
 .op (some 26) .any [25, 22] (.mov (.tmp 25)) <|
 .grp 26 false (.op (some 27) .any [2, 26] (.faddr 4 (.tmp 2)) <|
 .op (some 28) (.int .i64) [27, 26] (.load none (.tmp 27)) <|
 .op (some 29) .any [28, 26] (.bin .lss .none (.tmp 28) (.con (V.int .i64 (Int.ofNat 0)))) <|
 .nil) 30 [26, 29, 22] (.tmp 26) (.con (V.bool true)) (.tmp 29) <|
 .op (some 31) .any [30, 22] (.mov (.tmp 30)) <|
 .grp 31 false (.op (some 32) .any [2, 31] (.faddr 4 (.tmp 2)) <|
 .op (some 33) (.int .i64) [32, 31] (.load none (.tmp 32)) <|
 .op (some 34) .any [33, 31] (.bin .gtr .none (.tmp 33) (.con (V.int .i64 (Int.ofNat 70000)))) <|
 .nil) 35 [31, 34, 22] (.tmp 31) (.con (V.bool true)) (.tmp 34) <|
 .op (some 36) .any [35, 22] (.mov (.tmp 35)) <|
 .grp 36 false (.op (some 37) .any [2, 36] (.faddr 2 (.tmp 2)) <|
 .op (some 38) .bool [37, 36] (.load none (.tmp 37)) <|
 .op (some 39) .any [38, 36] (.mov (.tmp 38)) <|
 .grp 39 true (.op (some 40) .any [2, 39] (.faddr 5 (.tmp 2)) <|
 .op (some 41) (.int .i64) [40, 39] (.load none (.tmp 40)) <|
 .op (some 42) .any [41, 39] (.bin .lss .none (.tmp 41) (.con (V.int .i64 (Int.ofNat 0)))) <|
 .op (some 43) .any [42, 39] (.mov (.tmp 42)) <|
 .grp 43 false (.op (some 44) .any [2, 43] (.faddr 5 (.tmp 2)) <|
 .op (some 45) (.int .i64) [44, 43] (.load none (.tmp 44)) <|
 .op (some 46) .any [45, 43] (.bin .gtr .none (.tmp 45) (.con (V.int .i64 (Int.ofNat 70000)))) <|
 .nil) 47 [43, 46, 39] (.tmp 43) (.con (V.bool true)) (.tmp 46) <|
 .nil) 48 [39, 47, 36] (.tmp 39) (.tmp 47) (.con (V.bool false)) <|
 .nil) 49 [36, 48, 22] (.tmp 36) (.con (V.bool true)) (.tmp 48) <|
 .nil) 50 [22, 49] (.tmp 22) (.tmp 49) (.con (V.bool false)) <|
 .nil))
 (.cond (.tmp 50) (.seq (.ops (.op (some 4) .any [] (.mov (.con (V.int .i64 (Int.ofNat 11)))) <|
 .nil))
 .ret)
 .skip))
 (.seq (.ops (.op (some 4) .any [] (.mov (.con (V.int .i64 (Int.ofNat 0)))) <|
 .nil))
 .ret)))))
def A86 : XFn := ⟨51, [(.agg [.bool, .bool, .bool, .bool, (.int .i64), (.int .i64)]), .bool], [(.tmp 4)], C86_0⟩
def C87_0 (cc1 : XC) (cc2 : XC) : XC := (.seq (.ops (.op (some 3) .any [1] (.box 105 (.tmp 1)) <|
 .op (some 4) .any [] (.mov (.con V.nils)) <|
 .nil))
 (.seq (.ops (.op (some 5) .any [] (.mov (.con V.nils)) <|
 .nil))
 (.seq (.ops (.op (some 6) .any [] (.mov (.con (V.int .i64 (Int.ofNat 0)))) <|
 .nil))
 (.seq (.seq (.ops (.op (some 7) .any [] (.mov (.con (V.int .i64 (Int.ofNat 0)))) <|
 .nil))
 (.block 0 (.loop [(0, .any), (3, .ptr), (5, .any), (6, (.int .i64)), (7, (.int .i64))] [] [] cc2)))
 (.keep [(0, .any), (3, .ptr), (5, .any)] [] [] cc1)))))
def C87_1 (cc7 : XC) (cc8 : XC) : XC := (.seq (.ops (.op (some 9) .any [] (.mov (.con (V.int .i64 (Int.ofNat 0)))) <|
 .nil))
 (.seq (.ops (.op (some 10) .any [] (.mov (.con (V.bool false))) <|
 .op (some 11) .any [] (.mov (.con (V.bool false))) <|
 .nil))
 (.seq (.seq (.ops (.op (some 49) .any [3] (.faddr 13 (.tmp 3)) <|
 .op (some 50) (.int .i64) [49] (.load none (.tmp 49)) <|
 .op (some 12) .any [50] (.mov (.tmp 50)) <|
 .nil))
 (.block 4 (.loop [(0, .any), (3, .ptr), (5, .any), (9, (.int .i64)), (10, .bool), (11, .bool), (12, (.int .i64))] [] [] cc8)))
 (.keep [(0, .any), (5, .any), (11, .bool)] [] [] cc7))))
def C87_2 (cc3 : XC) (cc4 : XC) (cc5 : XC) (cc6 : XC) : XC := (.seq (.seq (.ops (.op (some 17) .any [7] (.mov (.tmp 7)) <|
 .op (some 18) .any [3] (.faddr 13 (.tmp 3)) <|
 .op (some 19) (.int .i64) [18] (.load none (.tmp 18)) <|
 .op (some 20) .any [17, 19] (.bin .lss .none (.tmp 17) (.tmp 19)) <|
 .nil))
 (.cond (.tmp 20) .skip
 (.exit 0)))
 (.seq (.block 1 (.seq (.ops (.op (some 23) .any [3] (.faddr 11 (.tmp 3)) <|
 .op (some 24) .any [23] (.load none (.tmp 23)) <|
 .op (some 25) .any [7] (.mov (.tmp 7)) <|
 .op (some 26) .any [24, 25] (.iaddrS 3 (.tmp 24) (.tmp 25)) <|
 .op (some 27) (.agg [.str, (.int .i64), .bool]) [26] (.load (some 3) (.tmp 26)) <|
 .pal 8 [] 229 [(V.str ⟨0, 0⟩), (V.int .i64 (Int.ofNat 0)), (V.bool false)] <|
 .op none (.agg [.str, (.int .i64), .bool]) [8, 27] (.store 3 (.tmp 8) (.tmp 27)) <|
 .nil))
 (.seq (.seq (.ops (.op (some 28) .any [8] (.faddr 2 (.tmp 8)) <|
 .op (some 29) .bool [28] (.load none (.tmp 28)) <|
 .op (some 30) .any [29] (.un .not (.tmp 29)) <|
 .nil))
 (.cond (.tmp 30) (.seq (.block 2 (.loop [(0, .any), (3, .ptr), (5, .any), (6, (.int .i64)), (7, (.int .i64))] [8] [(8, [.str, (.int .i64), .bool])] cc6))
 (.keep [(0, .any), (3, .ptr), (5, .any), (6, (.int .i64)), (7, (.int .i64))] [8] [(8, [.str, (.int .i64), .bool])] cc5))
 .skip))
 (.keep [(0, .any), (3, .ptr), (5, .any), (6, (.int .i64)), (7, (.int .i64))] [8] [(8, [.str, (.int .i64), .bool])] cc4))))
 (.keep [(0, .any), (3, .ptr), (5, .any), (6, (.int .i64)), (7, (.int .i64))] [] [] cc3)))
def C87_3 : XC := (.ops (.op (some 21) .any [7] (.mov (.tmp 7)) <|
 .op (some 22) .any [21] (.bin .add .none (.tmp 21) (.con (V.int .i64 (Int.ofNat 1)))) <|
 .op (some 7) .any [22] (.mov (.tmp 22)) <|
 .nil))
def C87_4 : XC := (.seq (.ops (.op (some 44) .any [8] (.faddr 2 (.tmp 8)) <|
 .op none .any [44] (.store 1 (.tmp 44) (.con (V.bool false))) <|
 .nil))
 (.ops (.op (some 45) .any [5] (.mov (.tmp 5)) <|
 .op (some 46) (.agg [.str, (.int .i64), .bool]) [8] (.load (some 3) (.tmp 8)) <|
 .op (some 47) .any [46] (.buildSlice 229 1 [(V.str ⟨0, 0⟩), (V.int .i64 (Int.ofNat 0)), (V.bool false)] [(0, 3, (.tmp 46))]) <|
 .op (some 48) .one [45, 47] (.append 229 3 32 (.tmp 45) (.tmp 47)) <|
 .op (some 5) .any [48] (.mov (.tmp 48)) <|
 .nil)))
def C87_5 : XC := (.seq (.ops (.op (some 40) .any [6] (.mov (.tmp 6)) <|
 .op (some 41) .any [8] (.faddr 1 (.tmp 8)) <|
 .op none .any [41, 40] (.store 1 (.tmp 41) (.tmp 40)) <|
 .nil))
 (.ops (.op (some 42) .any [6] (.mov (.tmp 6)) <|
 .op (some 43) .any [42] (.bin .add .none (.tmp 42) (.con (V.int .i64 (Int.ofNat 1)))) <|
 .op (some 6) .any [43] (.mov (.tmp 43)) <|
 .nil)))
def C87_6 : XC := (.seq (.seq (.ops (.op (some 31) .any [3] (.faddr 11 (.tmp 3)) <|
 .op (some 32) .any [31] (.load none (.tmp 31)) <|
 .op (some 33) .any [3] (.faddr 13 (.tmp 3)) <|
 .op (some 34) (.int .i64) [33] (.load none (.tmp 33)) <|
 .op (some 35) .any [32, 34] (.sliceSl 3 (.tmp 32) none (some (.tmp 34)) none) <|
 .op (some 36) .any [6] (.mov (.tmp 6)) <|
 .op (some 37) .bool [35, 36] (.call 149 [(.tmp 35), (.tmp 36)]) <|
 .nil))
 (.cond (.tmp 37) .skip
 (.exit 2)))
 (.block 3 (.ops (.op (some 38) .any [6] (.mov (.tmp 6)) <|
 .op (some 39) .any [38] (.bin .add .none (.tmp 38) (.con (V.int .i64 (Int.ofNat 1)))) <|
 .op (some 6) .any [39] (.mov (.tmp 39)) <|
 .nil))))
def C87_7 (cc13 : XC) (cc14 : XC) : XC := (.seq (.seq (.ops (.op (some 15) .any [] (.mov (.con (V.int .i64 (Int.ofNat 0)))) <|
 .nil))
 (.block 8 (.loop [(0, .any), (5, .any), (11, .bool), (15, (.int .i64))] [] [] cc14)))
 (.keep [(0, .any), (5, .any), (11, .bool)] [] [] cc13))
def C87_8 (cc9 : XC) (cc10 : XC) (cc11 : XC) : XC := (.seq (.seq (.ops (.op (some 51) .any [12] (.mov (.tmp 12)) <|
 .op (some 52) .any [3] (.faddr 11 (.tmp 3)) <|
 .op (some 53) .any [52] (.load none (.tmp 52)) <|
 .op (some 54) .any [53] (.len false (.tmp 53)) <|
 .op (some 55) .any [51, 54] (.bin .lss .none (.tmp 51) (.tmp 54)) <|
 .nil))
 (.cond (.tmp 55) .skip
 (.exit 4)))
 (.seq (.block 5 (.seq (.ops (.op (some 58) .any [3] (.faddr 11 (.tmp 3)) <|
 .op (some 59) .any [58] (.load none (.tmp 58)) <|
 .op (some 60) .any [12] (.mov (.tmp 12)) <|
 .op (some 61) .any [59, 60] (.iaddrS 3 (.tmp 59) (.tmp 60)) <|
 .op (some 62) (.agg [.str, (.int .i64), .bool]) [61] (.load (some 3) (.tmp 61)) <|
 .pal 13 [] 229 [(V.str ⟨0, 0⟩), (V.int .i64 (Int.ofNat 0)), (V.bool false)] <|
 .op none (.agg [.str, (.int .i64), .bool]) [13, 62] (.store 3 (.tmp 13) (.tmp 62)) <|
 .nil))
 (.seq (.seq (.ops (.op (some 63) .any [13] (.faddr 2 (.tmp 13)) <|
 .op (some 64) .bool [63] (.load none (.tmp 63)) <|
 .op (some 65) .any [64] (.un .not (.tmp 64)) <|
 .nil))
 (.cond (.tmp 65) (.seq (.ops (.op (some 66) .any [13] (.faddr 1 (.tmp 13)) <|
 .op none .any [66] (.store 1 (.tmp 66) (.con (V.int .i64 (Int.ofNat 0)))) <|
 .nil))
 (.seq (.ops (.op (some 14) .any [] (.mov (.con (V.int .i64 (Int.ofNat 0)))) <|
 .nil))
 (.block 6 (.loop [(0, .any), (3, .ptr), (5, .any), (9, (.int .i64)), (10, .bool), (11, .bool), (12, (.int .i64)), (14, (.int .i64))] [13] [(13, [.str, (.int .i64), .bool])] cc11))))
 .skip))
 (.keep [(0, .any), (3, .ptr), (5, .any), (9, (.int .i64)), (10, .bool), (11, .bool), (12, (.int .i64))] [13] [(13, [.str, (.int .i64), .bool])] cc10))))
 (.keep [(0, .any), (3, .ptr), (5, .any), (9, (.int .i64)), (10, .bool), (11, .bool), (12, (.int .i64))] [] [] cc9)))
def C87_9 : XC := (.ops (.op (some 56) .any [12] (.mov (.tmp 12)) <|
 .op (some 57) .any [56] (.bin .add .none (.tmp 56) (.con (V.int .i64 (Int.ofNat 1)))) <|
 .op (some 12) .any [57] (.mov (.tmp 57)) <|
 .nil))
def C87_10 : XC := (.seq (.ops (.op (some 100) .any [11] (.mov (.tmp 11)) <|
 .op (some 101) .any [100] (.mov (.tmp 100)) <|
 .grp 101 false (.op (some 102) .any [10, 101] (.mov (.tmp 10)) <|
 .op (some 103) .any [102, 101] (.mov (.tmp 102)) <|
 .grp 103 true (.op (some 104) .any [13, 103] (.faddr 1 (.tmp 13)) <|
 .op (some 105) (.int .i64) [104, 103] (.load none (.tmp 104)) <|
 .op (some 106) .any [9, 103] (.mov (.tmp 9)) <|
 .op (some 107) .any [105, 106, 103] (.bin .leq .none (.tmp 105) (.tmp 106)) <|
 .nil) 108 [103, 107, 101] (.tmp 103) (.tmp 107) (.con (V.bool false)) <|
 .nil) 109 [101, 108] (.tmp 101) (.con (V.bool true)) (.tmp 108) <|
 .op (some 11) .any [109] (.mov (.tmp 109)) <|
 .nil))
 (.seq (.ops (.op (some 110) .any [13] (.faddr 2 (.tmp 13)) <|
 .op none .any [110] (.store 1 (.tmp 110) (.con (V.bool false))) <|
 .nil))
 (.seq (.ops (.op (some 111) .any [13] (.faddr 1 (.tmp 13)) <|
 .op (some 112) (.int .i64) [111] (.load none (.tmp 111)) <|
 .op (some 9) .any [112] (.mov (.tmp 112)) <|
 .op (some 10) .any [] (.mov (.con (V.bool true))) <|
 .nil))
 (.ops (.op (some 113) .any [5] (.mov (.tmp 5)) <|
 .op (some 114) (.agg [.str, (.int .i64), .bool]) [13] (.load (some 3) (.tmp 13)) <|
 .op (some 115) .any [114] (.buildSlice 229 1 [(V.str ⟨0, 0⟩), (V.int .i64 (Int.ofNat 0)), (V.bool false)] [(0, 3, (.tmp 114))]) <|
 .op (some 116) .one [113, 115] (.append 229 3 32 (.tmp 113) (.tmp 115)) <|
 .op (some 5) .any [116] (.mov (.tmp 116)) <|
 .nil)))))
def C87_11 (cc12 : XC) : XC := (.seq (.seq (.ops (.op (some 67) .any [14] (.mov (.tmp 14)) <|
 .op (some 68) .any [5] (.mov (.tmp 5)) <|
 .op (some 69) .any [68] (.len false (.tmp 68)) <|
 .op (some 70) .any [67, 69] (.bin .lss .none (.tmp 67) (.tmp 69)) <|
 .nil))
 (.cond (.tmp 70) .skip
 (.exit 6)))
 (.seq (.block 7 (.seq (.seq (.ops (.op (some 73) .any [5] (.mov (.tmp 5)) <|
 .op (some 74) .any [14] (.mov (.tmp 14)) <|
 .op (some 75) .any [73, 74] (.iaddrS 3 (.tmp 73) (.tmp 74)) <|
 .op (some 76) .any [75] (.faddr 1 (.tmp 75)) <|
 .op (some 77) (.int .i64) [76] (.load none (.tmp 76)) <|
 .op (some 78) .any [77] (.bin .eql .none (.tmp 77) (.con (V.int .i64 (Int.ofNat 9223372036854775807)))) <|
 .nil))
 (.cond (.tmp 78) (.seq (.ops (.op (some 79) .any [0] (.mov (.tmp 0)) <|
 .op (some 80) (.tup []) [79] (.call 84 [(.tmp 79), (.con (V.int .i64 (Int.ofNat 11)))]) <|
 .nil))
 (.seq (.ops (.op (some 4) .any [] (.mov (.con V.nils)) <|
 .nil))
 .ret))
 .skip))
 (.seq (.draw (.op (some 81) .any [14] (.mov (.tmp 14)) <|
 .op (some 82) .any [81] (.bin .eql .none (.tmp 81) (.con (V.int .i64 (Int.ofNat 0)))) <|
 .op (some 83) .any [82] (.mov (.tmp 82)) <|
 .grp 83 false (.op (some 84) .any [5, 83] (.mov (.tmp 5)) <|
 .op (some 85) .any [14, 83] (.mov (.tmp 14)) <|
 .op (some 86) .any [84, 85, 83] (.iaddrS 3 (.tmp 84) (.tmp 85)) <|
 .op (some 87) .any [86, 83] (.faddr 1 (.tmp 86)) <|
 .op (some 88) (.int .i64) [87, 83] (.load none (.tmp 87)) <|
 .op (some 89) .any [13, 83] (.faddr 1 (.tmp 13)) <|
 .op (some 90) (.int .i64) [89, 83] (.load none (.tmp 89)) <|
 .op (some 91) .any [88, 90, 83] (.bin .geq .none (.tmp 88) (.tmp 90)) <|
 .nil) 92 [83, 91] (.tmp 83) (.con (V.bool true)) (.tmp 91) <|
 .nil) [0, 1, 3, 7, 7, 31, 63, 127, 7, 263, 1023, 2047])
 (.cond (.tmp 92) (.ops (.op (some 93) .any [5] (.mov (.tmp 5)) <|
 .op (some 94) .any [14] (.mov (.tmp 14)) <|
 .op (some 95) .any [93, 94] (.iaddrS 3 (.tmp 93) (.tmp 94)) <|
 .op (some 96) .any [95] (.faddr 1 (.tmp 95)) <|
 .op (some 97) (.int .i64) [96] (.load none (.tmp 96)) <|
 .op (some 98) .any [97] (.bin .add .none (.tmp 97) (.con (V.int .i64 (Int.ofNat 1)))) <|
 .op (some 99) .any [13] (.faddr 1 (.tmp 13)) <|
 .op none .any [99, 98] (.store 1 (.tmp 99) (.tmp 98)) <|
 .nil))
 .skip))))
 (.keep [(0, .any), (3, .ptr), (5, .any), (9, (.int .i64)), (10, .bool), (11, .bool), (12, (.int .i64)), (14, (.int .i64))] [13] [(13, [.str, (.int .i64), .bool])] cc12)))
def C87_12 : XC := (.ops (.op (some 71) .any [14] (.mov (.tmp 14)) <|
 .op (some 72) .any [71] (.bin .add .none (.tmp 71) (.con (V.int .i64 (Int.ofNat 1)))) <|
 .op (some 14) .any [72] (.mov (.tmp 72)) <|
 .nil))
def C87_13 (cc17 : XC) : XC := (.seq (.seq (.ops (.op (some 155) .any [11] (.mov (.tmp 11)) <|
 .nil))
 (.cond (.tmp 155) (.ops (.op (some 156) .any [0] (.mov (.tmp 0)) <|
 .op (some 157) (.tup []) [156] (.call 84 [(.tmp 156), (.con (V.int .i64 (Int.ofNat 8)))]) <|
 .nil))
 .skip))
 (.keep [(5, .any)] [] [] cc17))
def C87_14 (cc15 : XC) (cc16 : XC) : XC := (.seq (.seq (.ops (.op (some 117) .any [15] (.mov (.tmp 15)) <|
 .op (some 118) .any [5] (.mov (.tmp 5)) <|
 .op (some 119) .any [118] (.len false (.tmp 118)) <|
 .op (some 120) .any [117, 119] (.bin .lss .none (.tmp 117) (.tmp 119)) <|
 .nil))
 (.cond (.tmp 120) .skip
 (.exit 8)))
 (.seq (.block 9 (.seq (.ops (.op (some 16) .any [] (.mov (.con (V.int .i64 (Int.ofNat 0)))) <|
 .nil))
 (.block 10 (.loop [(0, .any), (5, .any), (11, .bool), (15, (.int .i64)), (16, (.int .i64))] [] [] cc16))))
 (.keep [(0, .any), (5, .any), (11, .bool), (15, (.int .i64))] [] [] cc15)))
def C87_15 : XC := (.ops (.op (some 121) .any [15] (.mov (.tmp 15)) <|
 .op (some 122) .any [121] (.bin .add .none (.tmp 121) (.con (V.int .i64 (Int.ofNat 1)))) <|
 .op (some 15) .any [122] (.mov (.tmp 122)) <|
 .nil))
def C87_16 : XC := (.seq (.seq (.ops (.op (some 123) .any [16] (.mov (.tmp 16)) <|
 .op (some 124) .any [15] (.mov (.tmp 15)) <|
 .op (some 125) .any [123, 124] (.bin .lss .none (.tmp 123) (.tmp 124)) <|
 .nil))
 (.cond (.tmp 125) .skip
 (.exit 10)))
 (.seq (.block 11 (.draw (.op (some 128) .any [11] (.mov (.tmp 11)) <|
 .op (some 129) .any [128] (.mov (.tmp 128)) <|
 .grp 129 false (.op (some 130) .any [5, 129] (.mov (.tmp 5)) <|
 .op (some 131) .any [16, 129] (.mov (.tmp 16)) <|
 .op (some 132) .any [130, 131, 129] (.iaddrS 3 (.tmp 130) (.tmp 131)) <|
 .op (some 133) .any [132, 129] (.faddr 0 (.tmp 132)) <|
 .op (some 134) .str [133, 129] (.load none (.tmp 133)) <|
 .op (some 135) .any [5, 129] (.mov (.tmp 5)) <|
 .op (some 136) .any [15, 129] (.mov (.tmp 15)) <|
 .op (some 137) .any [135, 136, 129] (.iaddrS 3 (.tmp 135) (.tmp 136)) <|
 .op (some 138) .any [137, 129] (.faddr 0 (.tmp 137)) <|
 .op (some 139) .str [138, 129] (.load none (.tmp 138)) <|
 .op (some 140) .any [134, 139, 129] (.bin .eql .none (.tmp 134) (.tmp 139)) <|
 .nil) 141 [129, 140] (.tmp 129) (.con (V.bool true)) (.tmp 140) <|
 .op (some 142) .any [141] (.mov (.tmp 141)) <|
 .grp 142 false (.op (some 143) .any [5, 142] (.mov (.tmp 5)) <|
 .op (some 144) .any [16, 142] (.mov (.tmp 16)) <|
 .op (some 145) .any [143, 144, 142] (.iaddrS 3 (.tmp 143) (.tmp 144)) <|
 .op (some 146) .any [145, 142] (.faddr 1 (.tmp 145)) <|
 .op (some 147) (.int .i64) [146, 142] (.load none (.tmp 146)) <|
 .op (some 148) .any [5, 142] (.mov (.tmp 5)) <|
 .op (some 149) .any [15, 142] (.mov (.tmp 15)) <|
 .op (some 150) .any [148, 149, 142] (.iaddrS 3 (.tmp 148) (.tmp 149)) <|
 .op (some 151) .any [150, 142] (.faddr 1 (.tmp 150)) <|
 .op (some 152) (.int .i64) [151, 142] (.load none (.tmp 151)) <|
 .op (some 153) .any [147, 152, 142] (.bin .eql .none (.tmp 147) (.tmp 152)) <|
 .nil) 154 [142, 153] (.tmp 142) (.con (V.bool true)) (.tmp 153) <|
 .op (some 11) .any [154] (.mov (.tmp 154)) <|
 .nil) [0, 1, 3, 3, 15, 31, 63, 3, 3, 387, 899, 1923, 4095, 8191, 16383, 32767, 32767, 131071, 262143, 524287, 32767, 32767, 3178495, 7372799, 15761407, 33554431, 67108863, 134217727]))
 (.ops (.op (some 126) .any [16] (.mov (.tmp 16)) <|
 .op (some 127) .any [126] (.bin .add .none (.tmp 126) (.con (V.int .i64 (Int.ofNat 1)))) <|
 .op (some 16) .any [127] (.mov (.tmp 127)) <|
 .nil))))
def C87_17 : XC := (.seq (.ops (.op (some 158) .any [5] (.mov (.tmp 5)) <|
 .op (some 4) .any [158] (.mov (.tmp 158)) <|
 .nil))
 .ret)
def A87 : XFn := ⟨159, [.any, (.agg [(.int .i64), .str, .bool, (.int .i64), (.int .i64), .bool, .bool, .bool, .bool, (.int .i64), (.int .i64), .any, .any, (.int .i64), .bool, (.int .i64)])], [(.tmp 4)], (C87_0 (C87_1 (C87_7 (C87_13 C87_17) (C87_14 C87_15 C87_16)) (C87_8 C87_9 C87_10 (C87_11 C87_12))) (C87_2 C87_3 C87_4 C87_5 C87_6))⟩
end
end Go.Proofs.YtmgbgifepccgpaaGreatDoor
