/- The code of the functions that are entered. Printed by a program off the dump. -/
import Derived.Test.YthkkkmkcjgaghaaGreatDoorAOgX
import Derived.KernelRfl
set_option linter.all false
set_option maxRecDepth 100000
set_option maxHeartbeats 0
namespace Go.Proofs.YthkkkmkcjgaghaaGreatDoor
open Go Go.Og
noncomputable section
/-! ### F3: ogham_oghamlaw25.AuditRules -/
def G3_0 : List AOper := [⟨(some 30), .faddr 1 (.tmp 8), none⟩, ⟨(some 31), .load none (.tmp 30), none⟩, ⟨(some 32), .mov (.tmp 9), none⟩, ⟨(some 33), .bin .add .none (.tmp 32) (.con (V.int .i64 (Int.ofNat 1))), none⟩, ⟨(some 34), .mov (.tmp 5), none⟩, ⟨(some 35), .faddr 0 (.tmp 8), none⟩, ⟨(some 36), .load none (.tmp 35), none⟩, ⟨(some 37), .mov (.tmp 9), none⟩, ⟨(some 38), .callv (.tmp 34) [(.tmp 36), (.tmp 37)], none⟩, ⟨(some 39), .build [(V.int .i64 (Int.ofNat 0)), (V.str ⟨0, 0⟩)] [(0, 1, (.tmp 33)), (1, 1, (.tmp 38))], none⟩, ⟨(some 40), .buildSlice 31 1 [(V.int .i64 (Int.ofNat 0)), (V.str ⟨0, 0⟩)] [(0, 2, (.tmp 39))], none⟩, ⟨(some 41), .append 31 2 24 (.tmp 31) (.tmp 40), none⟩, ⟨(some 42), .faddr 1 (.tmp 8), none⟩, ⟨none, .store 1 (.tmp 42) (.tmp 41), none⟩]
def H3_0 : List DP := [⟨0, [8]⟩, ⟨1, [30]⟩, ⟨0, [9]⟩, ⟨4, [32]⟩, ⟨0, [5]⟩, ⟨0, [8]⟩, ⟨32, [35]⟩, ⟨0, [9]⟩, ⟨240, [34, 36, 37]⟩, ⟨508, [33, 38]⟩, ⟨1020, [39]⟩, ⟨2047, [31, 40]⟩, ⟨4095, [8]⟩, ⟨8191, [42, 41]⟩]
def G3_1 : List AOper := [⟨(some 91), .mov (.tmp 6), none⟩, ⟨(some 92), .iaddrS 2 (.tmp 91) (.con (V.int .i64 (Int.ofNat 0))), none⟩, ⟨(some 93), .faddr 1 (.tmp 92), none⟩, ⟨(some 94), .load none (.tmp 93), none⟩, ⟨(some 95), .mov (.tmp 5), none⟩, ⟨(some 96), .mov (.tmp 0), none⟩, ⟨(some 97), .bin .add .none (.tmp 96) (.con (V.int .i64 (Int.ofNat 3))), none⟩, ⟨(some 98), .callv (.tmp 95) [(.con (V.str ⟨2, 12358⟩)), (.tmp 97)], none⟩, ⟨(some 99), .iaddrS 2 (.tmp 94) (.con (V.int .i64 (Int.ofNat 1))), none⟩, ⟨(some 100), .faddr 1 (.tmp 99), none⟩, ⟨none, .store 1 (.tmp 100) (.tmp 98), none⟩]
def H3_1 : List DP := [⟨0, [6]⟩, ⟨1, [91]⟩, ⟨3, [92]⟩, ⟨7, [93]⟩, ⟨0, [5]⟩, ⟨0, [0]⟩, ⟨32, [96]⟩, ⟨112, [95, 97]⟩, ⟨255, [94]⟩, ⟨511, [99]⟩, ⟨1023, [100, 98]⟩]
def Fin3 (E : List (Nat × Blk)) : St → Ans := fun s => resK E s [(.tmp 4)] fun l => some (oneV l, s.σ)
def C3_0 (cc1 : XC) (cc2 : XC) : XC := (.seq (.ops (.op (some 4) .any [] (.mov (.con (V.bool false))) <|
 .nil))
 (.seq (.ops (.op (some 11) .any [0] (.mov (.tmp 0)) <|
 .op (some 12) .any [11] (.conv (.toInt .u64) (.tmp 11)) <|
 .op (some 13) .any [12] (.bin .rem .none (.tmp 12) (.con (V.int .u64 (Int.ofNat 4)))) <|
 .op (some 14) .any [13] (.conv (.toInt .i64) (.tmp 13)) <|
 .op (some 15) .any [14] (.bin .add .none (.con (V.int .i64 (Int.ofNat 2))) (.tmp 14)) <|
 .op (some 0) .any [15] (.mov (.tmp 15)) <|
 .nil))
 (.seq (.ops (.op (some 5) .any [] (.mov (.con (V.fn 6 [] []))) <|
 .nil))
 (.seq (.ops (.op (some 6) .any [] (.mov (.con V.nils)) <|
 .nil))
 (.seq (.seq (.ops (.op (some 7) .any [] (.mov (.con (V.int .i64 (Int.ofNat 0)))) <|
 .nil))
 (.block 0 (.loop [(0, (.int .i64)), (1, (.int .i64)), (5, .any), (6, .any), (7, (.int .i64))] [] [] cc2)))
 (.keep [(0, (.int .i64)), (1, (.int .i64)), (5, .any), (6, .any)] [] [] cc1))))))
def T3_0 (E : List (Nat × Blk)) (D : Den) (W : DrawFn) (K2 : Int → Int → V → V → Int → H → Ans) (v0 : Int) (v1 : Int) (σ : H) : Ans :=
 K2 (addF .i64 (Int.ofNat 2) (wrapF .i64 (Int.tmod (wrapF .u64 v0) (Int.ofNat 4)))) v1 (V.fn 6 [] []) V.nils (Int.ofNat 0) σ
def C3_1 (cc6 : XC) : XC := (.seq (.ops (.op (some 10) .any [] (.mov (.con V.nils)) <|
 .nil))
 (.seq (.seq (.ops (.op (some 47) .any [1] (.mov (.tmp 1)) <|
 .op (some 48) .any [47] (.conv (.toInt .u64) (.tmp 47)) <|
 .op (some 49) .any [48] (.bin .rem .none (.tmp 48) (.con (V.int .u64 (Int.ofNat 6)))) <|
 .nil))
 (.block 4 (.seq (.ops (.op (some 51) .any [49] (.bin .eql .none (.tmp 49) (.con (V.int .u64 (Int.ofNat 1)))) <|
 .op (some 50) .any [51] (.mov (.tmp 51)) <|
 .nil))
 (.cond (.tmp 50) (.seq (.draw (.op (some 52) .any [6] (.mov (.tmp 6)) <|
 .op (some 53) .any [6] (.mov (.tmp 6)) <|
 .op (some 54) .any [6] (.mov (.tmp 6)) <|
 .op (some 55) .any [54] (.iaddrS 2 (.tmp 54) (.con (V.int .i64 (Int.ofNat 1)))) <|
 .op (some 56) (.agg [.str, .any]) [55] (.load (some 2) (.tmp 55)) <|
 .op (some 57) .any [6] (.mov (.tmp 6)) <|
 .op (some 58) .any [57] (.iaddrS 2 (.tmp 57) (.con (V.int .i64 (Int.ofNat 0)))) <|
 .op (some 59) (.agg [.str, .any]) [58] (.load (some 2) (.tmp 58)) <|
 .op (some 60) .any [52] (.iaddrS 2 (.tmp 52) (.con (V.int .i64 (Int.ofNat 0)))) <|
 .op none (.agg [.str, .any]) [60, 56] (.store 2 (.tmp 60) (.tmp 56)) <|
 .op (some 61) .any [53] (.iaddrS 2 (.tmp 53) (.con (V.int .i64 (Int.ofNat 1)))) <|
 .op none (.agg [.str, .any]) [61, 59] (.store 2 (.tmp 61) (.tmp 59)) <|
 .nil) [0, 0, 0, 4, 12, 0, 32, 96, 253, 509, 1023, 2047])
 (.ops (.op (some 62) .any [] (.buildSlice 3 1 [(V.int .i64 (Int.ofNat 0))] [(0, 1, (.con (V.int .i64 (Int.ofNat 1))))]) <|
 .op (some 10) .any [62] (.mov (.tmp 62)) <|
 .nil)))
 (.seq (.ops (.op (some 64) .any [49] (.bin .eql .none (.tmp 49) (.con (V.int .u64 (Int.ofNat 2)))) <|
 .op (some 63) .any [64] (.mov (.tmp 64)) <|
 .nil))
 (.cond (.tmp 63) (.seq (.ops (.op (some 65) .any [6] (.mov (.tmp 6)) <|
 .op (some 66) .any [65] (.iaddrS 2 (.tmp 65) (.con (V.int .i64 (Int.ofNat 1)))) <|
 .op (some 67) .any [66] (.faddr 1 (.tmp 66)) <|
 .op (some 68) .any [67] (.load none (.tmp 67)) <|
 .op (some 69) .any [68] (.iaddrS 2 (.tmp 68) (.con (V.int .i64 (Int.ofNat 0)))) <|
 .op (some 70) .any [69] (.faddr 0 (.tmp 69)) <|
 .op none .any [70] (.store 1 (.tmp 70) (.con (V.int .i64 (Int.ofNat 7)))) <|
 .nil))
 (.ops (.op (some 71) .any [] (.buildSlice 3 1 [(V.int .i64 (Int.ofNat 0))] [(0, 1, (.con (V.int .i64 (Int.ofNat 2))))]) <|
 .op (some 10) .any [71] (.mov (.tmp 71)) <|
 .nil)))
 (.seq (.ops (.op (some 73) .any [49] (.bin .eql .none (.tmp 49) (.con (V.int .u64 (Int.ofNat 3)))) <|
 .op (some 72) .any [73] (.mov (.tmp 73)) <|
 .nil))
 (.cond (.tmp 72) (.seq (.draw (.op (some 74) .any [6] (.mov (.tmp 6)) <|
 .op (some 75) .any [74] (.iaddrS 2 (.tmp 74) (.con (V.int .i64 (Int.ofNat 2)))) <|
 .op (some 76) .any [75] (.faddr 1 (.tmp 75)) <|
 .op (some 77) .any [76] (.load none (.tmp 76)) <|
 .op (some 78) .any [6] (.mov (.tmp 6)) <|
 .op (some 79) .any [78] (.iaddrS 2 (.tmp 78) (.con (V.int .i64 (Int.ofNat 2)))) <|
 .op (some 80) .any [79] (.faddr 1 (.tmp 79)) <|
 .op (some 81) .any [80] (.load none (.tmp 80)) <|
 .op (some 82) .any [81] (.iaddrS 2 (.tmp 81) (.con (V.int .i64 (Int.ofNat 1)))) <|
 .op (some 83) .any [82] (.faddr 1 (.tmp 82)) <|
 .op (some 84) .str [83] (.load none (.tmp 83)) <|
 .op (some 85) .any [84] (.bin .add .none (.tmp 84) (.con (V.str ⟨1, 32⟩))) <|
 .op (some 86) .any [77] (.iaddrS 2 (.tmp 77) (.con (V.int .i64 (Int.ofNat 1)))) <|
 .op (some 87) .any [86] (.faddr 1 (.tmp 86)) <|
 .op none .any [87, 85] (.store 1 (.tmp 87) (.tmp 85)) <|
 .nil) [0, 1, 3, 7, 0, 16, 48, 112, 240, 496, 1008, 2032, 4095, 8191, 16383])
 (.ops (.op (some 88) .any [] (.buildSlice 3 1 [(V.int .i64 (Int.ofNat 0))] [(0, 1, (.con (V.int .i64 (Int.ofNat 3))))]) <|
 .op (some 10) .any [88] (.mov (.tmp 88)) <|
 .nil)))
 (.seq (.ops (.op (some 90) .any [49] (.bin .eql .none (.tmp 49) (.con (V.int .u64 (Int.ofNat 4)))) <|
 .op (some 89) .any [90] (.mov (.tmp 90)) <|
 .nil))
 (.cond (.tmp 89) (.seq (.keep [(0, (.int .i64)), (5, .any), (6, .any)] [] [] (.gdraw G3_1 H3_1 [(0, (.int .i64)), (6, .any)]))
 (.seq (.ops (.op (some 101) .any [] (.buildSlice 3 1 [(V.int .i64 (Int.ofNat 0))] [(0, 1, (.con (V.int .i64 (Int.ofNat 4))))]) <|
 .op (some 10) .any [101] (.mov (.tmp 101)) <|
 .nil))
 (.seq (.ops (.op (some 102) .any [0] (.mov (.tmp 0)) <|
 .op (some 103) .any [102] (.bin .eql .none (.tmp 102) (.con (V.int .i64 (Int.ofNat 2)))) <|
 .nil))
 (.cond (.tmp 103) (.ops (.op (some 10) .any [] (.mov (.con V.nils)) <|
 .nil))
 .skip))))
 (.seq (.ops (.op (some 105) .any [49] (.bin .eql .none (.tmp 49) (.con (V.int .u64 (Int.ofNat 5)))) <|
 .op (some 104) .any [105] (.mov (.tmp 105)) <|
 .nil))
 (.cond (.tmp 104) (.seq (.ops (.op (some 106) .any [6] (.mov (.tmp 6)) <|
 .op (some 107) .any [106] (.iaddrS 2 (.tmp 106) (.con (V.int .i64 (Int.ofNat 1)))) <|
 .op (some 108) .any [107] (.faddr 1 (.tmp 107)) <|
 .op none .any [108] (.store 1 (.tmp 108) (.con V.nils)) <|
 .nil))
 (.ops (.op (some 109) .any [] (.buildSlice 3 1 [(V.int .i64 (Int.ofNat 0))] [(0, 1, (.con (V.int .i64 (Int.ofNat 2))))]) <|
 .op (some 10) .any [109] (.mov (.tmp 109)) <|
 .nil)))
 .skip))))))))))))
 (.keep [(6, .any), (10, .any)] [] [] cc6)))
def T3_1 (E : List (Nat × Blk)) (D : Den) (W : DrawFn) (K6 : V → V → H → Ans) (v0 : Int) (v1 : Int) (v5 : V) (v6 : V) (σ : H) : Ans :=
 condK (eqF (Int.tmod (wrapF .u64 v1) (Int.ofNat 6)) (Int.ofNat 1)) (
 iaddrSK 2 v6 (Int.ofNat 1) fun b1 o2 =>
 ldnK E σ b1 o2 2 fun l3 =>
 rtCons l3 fun x4 l5 =>
 rtStr x4 fun x6 =>
 rtCons l5 fun x7 l8 =>
 rtNil l8 (
 iaddrSK 2 v6 (Int.ofNat 0) fun b9 o10 =>
 ldnK E σ b9 o10 2 fun l11 =>
 rtCons l11 fun x12 l13 =>
 rtStr x12 fun x14 =>
 rtCons l13 fun x15 l16 =>
 rtNil l16 (
 iaddrSK 2 v6 (Int.ofNat 0) fun b17 o18 =>
 stK 2 b17 o18 (V.agg [(V.str x6), x7]) σ fun s19 =>
 iaddrSK 2 v6 (Int.ofNat 1) fun b20 o21 =>
 stK 2 b20 o21 (V.agg [(V.str x14), x15]) s19 fun s22 =>
 let s23 := newB s22 (.cells [(V.int .i64 (Int.ofNat 1))]);
 K6 v6 (V.sl (H.next s22) 0 1 (.ex 1)) s23))) (
 condK (eqF (Int.tmod (wrapF .u64 v1) (Int.ofNat 6)) (Int.ofNat 2)) (
 iaddrSK 2 v6 (Int.ofNat 1) fun b24 o25 =>
 ldK E σ b24 (Nat.add o25 1) fun u26 =>
 iaddrSK 2 u26 (Int.ofNat 0) fun b27 o28 =>
 stK 1 b27 o28 (V.int .i64 (Int.ofNat 7)) σ fun s29 =>
 let s30 := newB s29 (.cells [(V.int .i64 (Int.ofNat 2))]);
 K6 v6 (V.sl (H.next s29) 0 1 (.ex 1)) s30) (
 condK (eqF (Int.tmod (wrapF .u64 v1) (Int.ofNat 6)) (Int.ofNat 3)) (
 iaddrSK 2 v6 (Int.ofNat 2) fun b31 o32 =>
 ldK E σ b31 (Nat.add o32 1) fun u33 =>
 iaddrSK 2 v6 (Int.ofNat 2) fun b34 o35 =>
 ldK E σ b34 (Nat.add o35 1) fun u36 =>
 iaddrSK 2 u36 (Int.ofNat 1) fun b37 o38 =>
 ldK E σ b37 (Nat.add o38 1) fun u39 =>
 rtStr u39 fun x40 =>
 catK x40 (BS.mk 1 32) fun t41 =>
 iaddrSK 2 u33 (Int.ofNat 1) fun b42 o43 =>
 stK 1 b42 (Nat.add o43 1) (V.str t41) σ fun s44 =>
 let s45 := newB s44 (.cells [(V.int .i64 (Int.ofNat 3))]);
 K6 v6 (V.sl (H.next s44) 0 1 (.ex 1)) s45) (
 condK (eqF (Int.tmod (wrapF .u64 v1) (Int.ofNat 6)) (Int.ofNat 4)) (
 gdrawK (W G3_1 H3_1 [(0, (V.int .i64 v0)), (5, v5), (6, v6)] σ) fun e46 s47 =>
 getL e46 0 fun u48 =>
 rtInt .i64 u48 fun x49 =>
 getL e46 6 fun u50 =>
 let s51 := newB s47 (.cells [(V.int .i64 (Int.ofNat 4))]);
 condK (eqF x49 (Int.ofNat 2)) (
 K6 u50 V.nils s51) (
 K6 u50 (V.sl (H.next s47) 0 1 (.ex 1)) s51)) (
 condK (eqF (Int.tmod (wrapF .u64 v1) (Int.ofNat 6)) (Int.ofNat 5)) (
 iaddrSK 2 v6 (Int.ofNat 1) fun b52 o53 =>
 stK 1 b52 (Nat.add o53 1) V.nils σ fun s54 =>
 let s55 := newB s54 (.cells [(V.int .i64 (Int.ofNat 2))]);
 K6 v6 (V.sl (H.next s54) 0 1 (.ex 1)) s55) (
 K6 v6 V.nils σ)))))
def C3_2 (cc3 : XC) (cc4 : XC) (cc5 : XC) : XC := (.seq (.seq (.ops (.op (some 16) .any [7] (.mov (.tmp 7)) <|
 .op (some 17) .any [16] (.bin .lss .none (.tmp 16) (.con (V.int .i64 (Int.ofNat 3)))) <|
 .nil))
 (.cond (.tmp 17) .skip
 (.exit 0)))
 (.seq (.block 1 (.seq (.ops (.op (some 20) .any [7] (.mov (.tmp 7)) <|
 .op (some 21) .any [20] (.conv (.toInt .u64) (.tmp 20)) <|
 .op (some 22) .str [21] (.call 7 [(.tmp 21)]) <|
 .op (some 23) .any [22] (.bin .add .none (.con (V.str ⟨1, 70⟩)) (.tmp 22)) <|
 .op (some 24) (.agg [.str, .any]) [23] (.build [(V.str ⟨0, 0⟩), V.nils] [(0, 1, (.tmp 23))]) <|
 .op (some 8) .any [] (.alloc 29 [(V.str ⟨0, 0⟩), V.nils]) <|
 .op none (.agg [.str, .any]) [8, 24] (.store 2 (.tmp 8) (.tmp 24)) <|
 .nil))
 (.seq (.seq (.ops (.op (some 9) .any [] (.mov (.con (V.int .i64 (Int.ofNat 0)))) <|
 .nil))
 (.block 2 (.loop [(0, (.int .i64)), (1, (.int .i64)), (5, .any), (6, .any), (7, (.int .i64)), (8, .ptr), (9, (.int .i64))] [] [] cc5)))
 (.keep [(0, (.int .i64)), (1, (.int .i64)), (5, .any), (6, .any), (7, (.int .i64)), (8, .ptr)] [] [] cc4))))
 (.keep [(0, (.int .i64)), (1, (.int .i64)), (5, .any), (6, .any), (7, (.int .i64))] [] [] cc3)))
def T3_2 (E : List (Nat × Blk)) (D : Den) (W : DrawFn) (K1 : Int → Int → V → V → H → Ans) (K5 : Int → Int → V → V → Int → Nat → Nat → Int → H → Ans) (v0 : Int) (v1 : Int) (v5 : V) (v6 : V) (v7 : Int) (σ : H) : Ans :=
 condK (ltF v7 (Int.ofNat 3)) (
 callK (D 7 [(V.int .u64 (wrapF .u64 v7))] σ) fun u1 s2 =>
 rtStr u1 fun x3 =>
 catK (BS.mk 1 70) x3 fun t4 =>
 let s5 := newB s2 (.cells [(V.str ⟨0, 0⟩), V.nils]);
 stK 2 (H.next s2) 0 (V.agg [(V.str t4), V.nils]) s5 fun s6 =>
 K5 v0 v1 v5 v6 v7 (H.next s2) 0 (Int.ofNat 0) s6) (
 K1 v0 v1 v5 v6 σ)
def C3_3 : XC := (.ops (.op (some 18) .any [7] (.mov (.tmp 7)) <|
 .op (some 19) .any [18] (.bin .add .none (.tmp 18) (.con (V.int .i64 (Int.ofNat 1)))) <|
 .op (some 7) .any [19] (.mov (.tmp 19)) <|
 .nil))
def T3_3 (E : List (Nat × Blk)) (D : Den) (W : DrawFn) (R2 : Int → Int → V → V → Int → H → Ans) (v0 : Int) (v1 : Int) (v5 : V) (v6 : V) (v7 : Int) (σ : H) : Ans :=
 R2 v0 v1 v5 v6 (addF .i64 v7 (Int.ofNat 1)) σ
def C3_4 : XC := (.ops (.op (some 43) .any [6] (.mov (.tmp 6)) <|
 .op (some 44) (.agg [.str, .any]) [8] (.load (some 2) (.tmp 8)) <|
 .op (some 45) .any [44] (.buildSlice 29 1 [(V.str ⟨0, 0⟩), V.nils] [(0, 2, (.tmp 44))]) <|
 .op (some 46) .one [43, 45] (.append 29 2 40 (.tmp 43) (.tmp 45)) <|
 .op (some 6) .any [46] (.mov (.tmp 46)) <|
 .nil))
def T3_4 (E : List (Nat × Blk)) (D : Den) (W : DrawFn) (K3 : Int → Int → V → V → Int → H → Ans) (v0 : Int) (v1 : Int) (v5 : V) (v6 : V) (v7 : Int) (v8b : Nat) (v8o : Nat) (σ : H) : Ans :=
 ldnK E σ v8b v8o 2 fun l1 =>
 rtCons l1 fun x2 l3 =>
 rtStr x2 fun x4 =>
 rtCons l3 fun x5 l6 =>
 rtNil l6 (
 chk (allOne [(V.str x4), x5]) (
 let s7 := newB σ (.cells [(V.str x4), x5]);
 appK E 2 40 v6 (V.sl (H.next σ) 0 1 (.ex 1)) s7 fun u8 s9 =>
 rtOne u8 (
 K3 v0 v1 v5 u8 v7 s9)))
def C3_5 : XC := (.seq (.seq (.ops (.op (some 25) .any [9] (.mov (.tmp 9)) <|
 .op (some 26) .any [0] (.mov (.tmp 0)) <|
 .op (some 27) .any [25, 26] (.bin .lss .none (.tmp 25) (.tmp 26)) <|
 .nil))
 (.cond (.tmp 27) .skip
 (.exit 2)))
 (.seq (.block 3 (.keep [(0, (.int .i64)), (1, (.int .i64)), (5, .any), (6, .any), (7, (.int .i64)), (8, .ptr), (9, (.int .i64))] [] [] (.gdraw G3_0 H3_0 [(0, (.int .i64)), (1, (.int .i64)), (5, .any), (6, .any), (7, (.int .i64)), (8, .ptr), (9, (.int .i64))])))
 (.ops (.op (some 28) .any [9] (.mov (.tmp 9)) <|
 .op (some 29) .any [28] (.bin .add .none (.tmp 28) (.con (V.int .i64 (Int.ofNat 1)))) <|
 .op (some 9) .any [29] (.mov (.tmp 29)) <|
 .nil))))
def T3_5 (E : List (Nat × Blk)) (D : Den) (W : DrawFn) (K4 : Int → Int → V → V → Int → Nat → Nat → H → Ans) (R5 : Int → Int → V → V → Int → Nat → Nat → Int → H → Ans) (v0 : Int) (v1 : Int) (v5 : V) (v6 : V) (v7 : Int) (v8b : Nat) (v8o : Nat) (v9 : Int) (σ : H) : Ans :=
 condK (ltF v9 v0) (
 gdrawK (W G3_0 H3_0 [(0, (V.int .i64 v0)), (1, (V.int .i64 v1)), (5, v5), (6, v6), (7, (V.int .i64 v7)), (8, (V.ptr v8b v8o)), (9, (V.int .i64 v9))] σ) fun e1 s2 =>
 getL e1 0 fun u3 =>
 rtInt .i64 u3 fun x4 =>
 getL e1 1 fun u5 =>
 rtInt .i64 u5 fun x6 =>
 getL e1 5 fun u7 =>
 getL e1 6 fun u8 =>
 getL e1 7 fun u9 =>
 rtInt .i64 u9 fun x10 =>
 getL e1 8 fun u11 =>
 rtPtr u11 fun b12 o13 =>
 getL e1 9 fun u14 =>
 rtInt .i64 u14 fun x15 =>
 R5 x4 x6 u7 u8 x10 b12 o13 (addF .i64 x15 (Int.ofNat 1)) s2) (
 K4 v0 v1 v5 v6 v7 v8b v8o σ)
def C3_6 : XC := (.seq (.ops (.op (some 110) .bool [] (.call 8 []) <|
 .op (some 111) .any [110] (.mov (.tmp 110)) <|
 .grp 111 true (.op (some 112) .any [6, 111] (.mov (.tmp 6)) <|
 .op (some 113) .one [112, 111] (.call 10 [(.tmp 112)]) <|
 .op (some 114) .any [10, 111] (.mov (.tmp 10)) <|
 .op (some 115) .bool [113, 114, 111] (.call 9 [(.tmp 113), (.tmp 114)]) <|
 .nil) 116 [111, 115] (.tmp 111) (.tmp 115) (.con (V.bool false)) <|
 .op (some 4) .any [116] (.mov (.tmp 116)) <|
 .nil))
 .ret)
def T3_6 (E : List (Nat × Blk)) (D : Den) (W : DrawFn) (v6 : V) (v10 : V) (σ : H) : Ans :=
 callK (D 8 [] σ) fun u1 s2 =>
 rtBool u1 fun x3 =>
 joinB (fun c4 s5 =>
 some ((V.bool c4), s5)) fun k6 =>
 condK x3 (
 callK (D 10 [v6] s2) fun u7 s8 =>
 rtOne u7 (
 callK (D 9 [u7, v10] s8) fun u9 s10 =>
 rtBool u9 fun x11 =>
 k6 x11 s10)) (
 k6 false s2)
theorem P3_0 (E : List (Nat × Blk)) (D : Den) (W : DrawFn) (N : Nat) (cc1 : XC) (cc2 : XC) (v0 : Int) (v1 : Int) (σ : H) :
  denC E D W N (C3_0 cc1 cc2) ⟨[(0, (V.int .i64 v0)), (1, (V.int .i64 v1))], [], [], σ⟩ (Fin3 E) (fun _ _ => none) (Fin3 E) =
  T3_0 E D W (fun v0 v1 v5 v6 v7 σ => iterK (fun rec s' => denC E D W N cc2 s' (fun s'' => keepS [(0, (.int .i64)), (1, (.int .i64)), (5, .any), (6, .any), (7, (.int .i64))] [] [] s'' rec) (blkK 0 (fun s' => denC E D W N (.keep [(0, (.int .i64)), (1, (.int .i64)), (5, .any), (6, .any)] [] [] cc1) s' (Fin3 E) (fun _ _ => none) (Fin3 E)) (fun _ _ => none)) (Fin3 E)) N ⟨[(0, (V.int .i64 v0)), (1, (V.int .i64 v1)), (5, v5), (6, v6), (7, (V.int .i64 v7))], [], [], σ⟩) v0 v1 σ := by kernel_rfl
theorem P3_1 (E : List (Nat × Blk)) (D : Den) (W : DrawFn) (N : Nat) (cc6 : XC) (v0 : Int) (v1 : Int) (v5 : V) (v6 : V) (σ : H) :
  denC E D W N (C3_1 cc6) ⟨[(0, (V.int .i64 v0)), (1, (V.int .i64 v1)), (5, v5), (6, v6)], [], [], σ⟩ (Fin3 E) (fun _ _ => none) (Fin3 E) =
  T3_1 E D W (fun v6 v10 σ => denC E D W N cc6 ⟨[(6, v6), (10, v10)], [], [], σ⟩ (Fin3 E) (fun _ _ => none) (Fin3 E)) v0 v1 v5 v6 σ := by kernel_rfl
theorem P3_2 (E : List (Nat × Blk)) (D : Den) (W : DrawFn) (N : Nat) (cc1 : XC) (cc3 : XC) (cc4 : XC) (cc5 : XC) (li2 : St → Ans) (v0 : Int) (v1 : Int) (v5 : V) (v6 : V) (v7 : Int) (σ : H) :
  denC E D W N (C3_2 cc3 cc4 cc5) ⟨[(0, (V.int .i64 v0)), (1, (V.int .i64 v1)), (5, v5), (6, v6), (7, (V.int .i64 v7))], [], [], σ⟩ (fun s'' => keepS [(0, (.int .i64)), (1, (.int .i64)), (5, .any), (6, .any), (7, (.int .i64))] [] [] s'' li2) (blkK 0 (fun s' => denC E D W N (.keep [(0, (.int .i64)), (1, (.int .i64)), (5, .any), (6, .any)] [] [] cc1) s' (Fin3 E) (fun _ _ => none) (Fin3 E)) (fun _ _ => none)) (Fin3 E) =
  T3_2 E D W (fun v0 v1 v5 v6 σ => denC E D W N cc1 ⟨[(0, (V.int .i64 v0)), (1, (V.int .i64 v1)), (5, v5), (6, v6)], [], [], σ⟩ (Fin3 E) (fun _ _ => none) (Fin3 E)) (fun v0 v1 v5 v6 v7 v8b v8o v9 σ => iterK (fun rec s' => denC E D W N cc5 s' (fun s'' => keepS [(0, (.int .i64)), (1, (.int .i64)), (5, .any), (6, .any), (7, (.int .i64)), (8, .ptr), (9, (.int .i64))] [] [] s'' rec) (blkK 2 (fun s' => denC E D W N (.keep [(0, (.int .i64)), (1, (.int .i64)), (5, .any), (6, .any), (7, (.int .i64)), (8, .ptr)] [] [] cc4) s' (fun s' => denC E D W N (.keep [(0, (.int .i64)), (1, (.int .i64)), (5, .any), (6, .any), (7, (.int .i64))] [] [] cc3) s' (fun s'' => keepS [(0, (.int .i64)), (1, (.int .i64)), (5, .any), (6, .any), (7, (.int .i64))] [] [] s'' li2) (blkK 0 (fun s' => denC E D W N (.keep [(0, (.int .i64)), (1, (.int .i64)), (5, .any), (6, .any)] [] [] cc1) s' (Fin3 E) (fun _ _ => none) (Fin3 E)) (fun _ _ => none)) (Fin3 E)) (blkK 1 (fun s' => denC E D W N (.keep [(0, (.int .i64)), (1, (.int .i64)), (5, .any), (6, .any), (7, (.int .i64))] [] [] cc3) s' (fun s'' => keepS [(0, (.int .i64)), (1, (.int .i64)), (5, .any), (6, .any), (7, (.int .i64))] [] [] s'' li2) (blkK 0 (fun s' => denC E D W N (.keep [(0, (.int .i64)), (1, (.int .i64)), (5, .any), (6, .any)] [] [] cc1) s' (Fin3 E) (fun _ _ => none) (Fin3 E)) (fun _ _ => none)) (Fin3 E)) (blkK 0 (fun s' => denC E D W N (.keep [(0, (.int .i64)), (1, (.int .i64)), (5, .any), (6, .any)] [] [] cc1) s' (Fin3 E) (fun _ _ => none) (Fin3 E)) (fun _ _ => none))) (Fin3 E)) (blkK 1 (fun s' => denC E D W N (.keep [(0, (.int .i64)), (1, (.int .i64)), (5, .any), (6, .any), (7, (.int .i64))] [] [] cc3) s' (fun s'' => keepS [(0, (.int .i64)), (1, (.int .i64)), (5, .any), (6, .any), (7, (.int .i64))] [] [] s'' li2) (blkK 0 (fun s' => denC E D W N (.keep [(0, (.int .i64)), (1, (.int .i64)), (5, .any), (6, .any)] [] [] cc1) s' (Fin3 E) (fun _ _ => none) (Fin3 E)) (fun _ _ => none)) (Fin3 E)) (blkK 0 (fun s' => denC E D W N (.keep [(0, (.int .i64)), (1, (.int .i64)), (5, .any), (6, .any)] [] [] cc1) s' (Fin3 E) (fun _ _ => none) (Fin3 E)) (fun _ _ => none)))) (Fin3 E)) N ⟨[(0, (V.int .i64 v0)), (1, (V.int .i64 v1)), (5, v5), (6, v6), (7, (V.int .i64 v7)), (8, (V.ptr v8b v8o)), (9, (V.int .i64 v9))], [], [], σ⟩) v0 v1 v5 v6 v7 σ := by kernel_rfl
theorem P3_3 (E : List (Nat × Blk)) (D : Den) (W : DrawFn) (N : Nat) (cc1 : XC) (li2 : St → Ans) (v0 : Int) (v1 : Int) (v5 : V) (v6 : V) (v7 : Int) (σ : H) :
  denC E D W N (C3_3 ) ⟨[(0, (V.int .i64 v0)), (1, (V.int .i64 v1)), (5, v5), (6, v6), (7, (V.int .i64 v7))], [], [], σ⟩ (fun s'' => keepS [(0, (.int .i64)), (1, (.int .i64)), (5, .any), (6, .any), (7, (.int .i64))] [] [] s'' li2) (blkK 0 (fun s' => denC E D W N (.keep [(0, (.int .i64)), (1, (.int .i64)), (5, .any), (6, .any)] [] [] cc1) s' (Fin3 E) (fun _ _ => none) (Fin3 E)) (fun _ _ => none)) (Fin3 E) =
  T3_3 E D W (fun v0 v1 v5 v6 v7 σ => li2 ⟨[(0, (V.int .i64 v0)), (1, (V.int .i64 v1)), (5, v5), (6, v6), (7, (V.int .i64 v7))], [], [], σ⟩) v0 v1 v5 v6 v7 σ := by kernel_rfl
theorem P3_4 (E : List (Nat × Blk)) (D : Den) (W : DrawFn) (N : Nat) (cc1 : XC) (cc3 : XC) (li2 : St → Ans) (v0 : Int) (v1 : Int) (v5 : V) (v6 : V) (v7 : Int) (v8b : Nat) (v8o : Nat) (σ : H) :
  denC E D W N (C3_4 ) ⟨[(0, (V.int .i64 v0)), (1, (V.int .i64 v1)), (5, v5), (6, v6), (7, (V.int .i64 v7)), (8, (V.ptr v8b v8o))], [], [], σ⟩ (fun s' => denC E D W N (.keep [(0, (.int .i64)), (1, (.int .i64)), (5, .any), (6, .any), (7, (.int .i64))] [] [] cc3) s' (fun s'' => keepS [(0, (.int .i64)), (1, (.int .i64)), (5, .any), (6, .any), (7, (.int .i64))] [] [] s'' li2) (blkK 0 (fun s' => denC E D W N (.keep [(0, (.int .i64)), (1, (.int .i64)), (5, .any), (6, .any)] [] [] cc1) s' (Fin3 E) (fun _ _ => none) (Fin3 E)) (fun _ _ => none)) (Fin3 E)) (blkK 1 (fun s' => denC E D W N (.keep [(0, (.int .i64)), (1, (.int .i64)), (5, .any), (6, .any), (7, (.int .i64))] [] [] cc3) s' (fun s'' => keepS [(0, (.int .i64)), (1, (.int .i64)), (5, .any), (6, .any), (7, (.int .i64))] [] [] s'' li2) (blkK 0 (fun s' => denC E D W N (.keep [(0, (.int .i64)), (1, (.int .i64)), (5, .any), (6, .any)] [] [] cc1) s' (Fin3 E) (fun _ _ => none) (Fin3 E)) (fun _ _ => none)) (Fin3 E)) (blkK 0 (fun s' => denC E D W N (.keep [(0, (.int .i64)), (1, (.int .i64)), (5, .any), (6, .any)] [] [] cc1) s' (Fin3 E) (fun _ _ => none) (Fin3 E)) (fun _ _ => none))) (Fin3 E) =
  T3_4 E D W (fun v0 v1 v5 v6 v7 σ => denC E D W N cc3 ⟨[(0, (V.int .i64 v0)), (1, (V.int .i64 v1)), (5, v5), (6, v6), (7, (V.int .i64 v7))], [], [], σ⟩ (fun s'' => keepS [(0, (.int .i64)), (1, (.int .i64)), (5, .any), (6, .any), (7, (.int .i64))] [] [] s'' li2) (blkK 0 (fun s' => denC E D W N (.keep [(0, (.int .i64)), (1, (.int .i64)), (5, .any), (6, .any)] [] [] cc1) s' (Fin3 E) (fun _ _ => none) (Fin3 E)) (fun _ _ => none)) (Fin3 E)) v0 v1 v5 v6 v7 v8b v8o σ := by kernel_rfl
theorem P3_5 (E : List (Nat × Blk)) (D : Den) (W : DrawFn) (N : Nat) (cc1 : XC) (cc3 : XC) (cc4 : XC) (li2 : St → Ans) (li5 : St → Ans) (v0 : Int) (v1 : Int) (v5 : V) (v6 : V) (v7 : Int) (v8b : Nat) (v8o : Nat) (v9 : Int) (σ : H) :
  denC E D W N (C3_5 ) ⟨[(0, (V.int .i64 v0)), (1, (V.int .i64 v1)), (5, v5), (6, v6), (7, (V.int .i64 v7)), (8, (V.ptr v8b v8o)), (9, (V.int .i64 v9))], [], [], σ⟩ (fun s'' => keepS [(0, (.int .i64)), (1, (.int .i64)), (5, .any), (6, .any), (7, (.int .i64)), (8, .ptr), (9, (.int .i64))] [] [] s'' li5) (blkK 2 (fun s' => denC E D W N (.keep [(0, (.int .i64)), (1, (.int .i64)), (5, .any), (6, .any), (7, (.int .i64)), (8, .ptr)] [] [] cc4) s' (fun s' => denC E D W N (.keep [(0, (.int .i64)), (1, (.int .i64)), (5, .any), (6, .any), (7, (.int .i64))] [] [] cc3) s' (fun s'' => keepS [(0, (.int .i64)), (1, (.int .i64)), (5, .any), (6, .any), (7, (.int .i64))] [] [] s'' li2) (blkK 0 (fun s' => denC E D W N (.keep [(0, (.int .i64)), (1, (.int .i64)), (5, .any), (6, .any)] [] [] cc1) s' (Fin3 E) (fun _ _ => none) (Fin3 E)) (fun _ _ => none)) (Fin3 E)) (blkK 1 (fun s' => denC E D W N (.keep [(0, (.int .i64)), (1, (.int .i64)), (5, .any), (6, .any), (7, (.int .i64))] [] [] cc3) s' (fun s'' => keepS [(0, (.int .i64)), (1, (.int .i64)), (5, .any), (6, .any), (7, (.int .i64))] [] [] s'' li2) (blkK 0 (fun s' => denC E D W N (.keep [(0, (.int .i64)), (1, (.int .i64)), (5, .any), (6, .any)] [] [] cc1) s' (Fin3 E) (fun _ _ => none) (Fin3 E)) (fun _ _ => none)) (Fin3 E)) (blkK 0 (fun s' => denC E D W N (.keep [(0, (.int .i64)), (1, (.int .i64)), (5, .any), (6, .any)] [] [] cc1) s' (Fin3 E) (fun _ _ => none) (Fin3 E)) (fun _ _ => none))) (Fin3 E)) (blkK 1 (fun s' => denC E D W N (.keep [(0, (.int .i64)), (1, (.int .i64)), (5, .any), (6, .any), (7, (.int .i64))] [] [] cc3) s' (fun s'' => keepS [(0, (.int .i64)), (1, (.int .i64)), (5, .any), (6, .any), (7, (.int .i64))] [] [] s'' li2) (blkK 0 (fun s' => denC E D W N (.keep [(0, (.int .i64)), (1, (.int .i64)), (5, .any), (6, .any)] [] [] cc1) s' (Fin3 E) (fun _ _ => none) (Fin3 E)) (fun _ _ => none)) (Fin3 E)) (blkK 0 (fun s' => denC E D W N (.keep [(0, (.int .i64)), (1, (.int .i64)), (5, .any), (6, .any)] [] [] cc1) s' (Fin3 E) (fun _ _ => none) (Fin3 E)) (fun _ _ => none)))) (Fin3 E) =
  T3_5 E D W (fun v0 v1 v5 v6 v7 v8b v8o σ => denC E D W N cc4 ⟨[(0, (V.int .i64 v0)), (1, (V.int .i64 v1)), (5, v5), (6, v6), (7, (V.int .i64 v7)), (8, (V.ptr v8b v8o))], [], [], σ⟩ (fun s' => denC E D W N (.keep [(0, (.int .i64)), (1, (.int .i64)), (5, .any), (6, .any), (7, (.int .i64))] [] [] cc3) s' (fun s'' => keepS [(0, (.int .i64)), (1, (.int .i64)), (5, .any), (6, .any), (7, (.int .i64))] [] [] s'' li2) (blkK 0 (fun s' => denC E D W N (.keep [(0, (.int .i64)), (1, (.int .i64)), (5, .any), (6, .any)] [] [] cc1) s' (Fin3 E) (fun _ _ => none) (Fin3 E)) (fun _ _ => none)) (Fin3 E)) (blkK 1 (fun s' => denC E D W N (.keep [(0, (.int .i64)), (1, (.int .i64)), (5, .any), (6, .any), (7, (.int .i64))] [] [] cc3) s' (fun s'' => keepS [(0, (.int .i64)), (1, (.int .i64)), (5, .any), (6, .any), (7, (.int .i64))] [] [] s'' li2) (blkK 0 (fun s' => denC E D W N (.keep [(0, (.int .i64)), (1, (.int .i64)), (5, .any), (6, .any)] [] [] cc1) s' (Fin3 E) (fun _ _ => none) (Fin3 E)) (fun _ _ => none)) (Fin3 E)) (blkK 0 (fun s' => denC E D W N (.keep [(0, (.int .i64)), (1, (.int .i64)), (5, .any), (6, .any)] [] [] cc1) s' (Fin3 E) (fun _ _ => none) (Fin3 E)) (fun _ _ => none))) (Fin3 E)) (fun v0 v1 v5 v6 v7 v8b v8o v9 σ => li5 ⟨[(0, (V.int .i64 v0)), (1, (V.int .i64 v1)), (5, v5), (6, v6), (7, (V.int .i64 v7)), (8, (V.ptr v8b v8o)), (9, (V.int .i64 v9))], [], [], σ⟩) v0 v1 v5 v6 v7 v8b v8o v9 σ := by kernel_rfl
theorem P3_6 (E : List (Nat × Blk)) (D : Den) (W : DrawFn) (N : Nat) (v6 : V) (v10 : V) (σ : H) :
  denC E D W N (C3_6 ) ⟨[(6, v6), (10, v10)], [], [], σ⟩ (Fin3 E) (fun _ _ => none) (Fin3 E) =
  T3_6 E D W  v6 v10 σ := by kernel_rfl
def J3_6 (E : List (Nat × Blk)) (D : Den) (W : DrawFn) (N : Nat) : V → V → H → Ans := T3_6 E D W 
theorem JE3_6 (E : List (Nat × Blk)) (D : Den) (W : DrawFn) (N : Nat) (v6 : V) (v10 : V) (σ : H) :
  denC E D W N C3_6 ⟨[(6, v6), (10, v10)], [], [], σ⟩ (Fin3 E) (fun _ _ => none) (Fin3 E) = J3_6 E D W N v6 v10 σ := by
  refine (P3_6 E D W N   v6 v10 σ).trans ?_
  kernel_rfl
def J3_1 (E : List (Nat × Blk)) (D : Den) (W : DrawFn) (N : Nat) : Int → Int → V → V → H → Ans := T3_1 E D W (J3_6 E D W N )
theorem JE3_1 (E : List (Nat × Blk)) (D : Den) (W : DrawFn) (N : Nat) (v0 : Int) (v1 : Int) (v5 : V) (v6 : V) (σ : H) :
  denC E D W N (C3_1 C3_6) ⟨[(0, (V.int .i64 v0)), (1, (V.int .i64 v1)), (5, v5), (6, v6)], [], [], σ⟩ (Fin3 E) (fun _ _ => none) (Fin3 E) = J3_1 E D W N v0 v1 v5 v6 σ := by
  refine (P3_1 E D W N C3_6  v0 v1 v5 v6 σ).trans ?_
  simp only [JE3_6]
  kernel_rfl
def J3_3 (E : List (Nat × Blk)) (D : Den) (W : DrawFn) (N : Nat) (R2 : Int → Int → V → V → Int → H → Ans) : Int → Int → V → V → Int → H → Ans := T3_3 E D W R2
theorem JE3_3 (E : List (Nat × Blk)) (D : Den) (W : DrawFn) (N : Nat) (li2 : St → Ans) (v0 : Int) (v1 : Int) (v5 : V) (v6 : V) (v7 : Int) (σ : H) :
  denC E D W N C3_3 ⟨[(0, (V.int .i64 v0)), (1, (V.int .i64 v1)), (5, v5), (6, v6), (7, (V.int .i64 v7))], [], [], σ⟩ (fun s'' => keepS [(0, (.int .i64)), (1, (.int .i64)), (5, .any), (6, .any), (7, (.int .i64))] [] [] s'' li2) (blkK 0 (fun s' => denC E D W N (.keep [(0, (.int .i64)), (1, (.int .i64)), (5, .any), (6, .any)] [] [] (C3_1 C3_6)) s' (Fin3 E) (fun _ _ => none) (Fin3 E)) (fun _ _ => none)) (Fin3 E) = J3_3 E D W N (fun v0 v1 v5 v6 v7 σ => li2 ⟨[(0, (V.int .i64 v0)), (1, (V.int .i64 v1)), (5, v5), (6, v6), (7, (V.int .i64 v7))], [], [], σ⟩) v0 v1 v5 v6 v7 σ := by
  refine (P3_3 E D W N (C3_1 C3_6) li2 v0 v1 v5 v6 v7 σ).trans ?_
  kernel_rfl
def J3_4 (E : List (Nat × Blk)) (D : Den) (W : DrawFn) (N : Nat) (R2 : Int → Int → V → V → Int → H → Ans) : Int → Int → V → V → Int → Nat → Nat → H → Ans := T3_4 E D W (J3_3 E D W N R2)
theorem JE3_4 (E : List (Nat × Blk)) (D : Den) (W : DrawFn) (N : Nat) (li2 : St → Ans) (v0 : Int) (v1 : Int) (v5 : V) (v6 : V) (v7 : Int) (v8b : Nat) (v8o : Nat) (σ : H) :
  denC E D W N C3_4 ⟨[(0, (V.int .i64 v0)), (1, (V.int .i64 v1)), (5, v5), (6, v6), (7, (V.int .i64 v7)), (8, (V.ptr v8b v8o))], [], [], σ⟩ (fun s' => denC E D W N (.keep [(0, (.int .i64)), (1, (.int .i64)), (5, .any), (6, .any), (7, (.int .i64))] [] [] C3_3) s' (fun s'' => keepS [(0, (.int .i64)), (1, (.int .i64)), (5, .any), (6, .any), (7, (.int .i64))] [] [] s'' li2) (blkK 0 (fun s' => denC E D W N (.keep [(0, (.int .i64)), (1, (.int .i64)), (5, .any), (6, .any)] [] [] (C3_1 C3_6)) s' (Fin3 E) (fun _ _ => none) (Fin3 E)) (fun _ _ => none)) (Fin3 E)) (blkK 1 (fun s' => denC E D W N (.keep [(0, (.int .i64)), (1, (.int .i64)), (5, .any), (6, .any), (7, (.int .i64))] [] [] C3_3) s' (fun s'' => keepS [(0, (.int .i64)), (1, (.int .i64)), (5, .any), (6, .any), (7, (.int .i64))] [] [] s'' li2) (blkK 0 (fun s' => denC E D W N (.keep [(0, (.int .i64)), (1, (.int .i64)), (5, .any), (6, .any)] [] [] (C3_1 C3_6)) s' (Fin3 E) (fun _ _ => none) (Fin3 E)) (fun _ _ => none)) (Fin3 E)) (blkK 0 (fun s' => denC E D W N (.keep [(0, (.int .i64)), (1, (.int .i64)), (5, .any), (6, .any)] [] [] (C3_1 C3_6)) s' (Fin3 E) (fun _ _ => none) (Fin3 E)) (fun _ _ => none))) (Fin3 E) = J3_4 E D W N (fun v0 v1 v5 v6 v7 σ => li2 ⟨[(0, (V.int .i64 v0)), (1, (V.int .i64 v1)), (5, v5), (6, v6), (7, (V.int .i64 v7))], [], [], σ⟩) v0 v1 v5 v6 v7 v8b v8o σ := by
  refine (P3_4 E D W N (C3_1 C3_6) C3_3 li2 v0 v1 v5 v6 v7 v8b v8o σ).trans ?_
  simp only [JE3_3]
  kernel_rfl
def L3_5 (E : List (Nat × Blk)) (D : Den) (W : DrawFn) (N : Nat) (R2 : Int → Int → V → V → Int → H → Ans) (n : Nat) : Int → Int → V → V → Int → Nat → Nat → Int → H → Ans :=
  Nat.rec (fun _ _ _ _ _ _ _ _ _ => none) (fun _ ih => T3_5 E D W (J3_4 E D W N R2) ih) n
theorem LE3_5 (E : List (Nat × Blk)) (D : Den) (W : DrawFn) (N : Nat) (li2 : St → Ans) (n : Nat) : ∀ (v0 : Int) (v1 : Int) (v5 : V) (v6 : V) (v7 : Int) (v8b : Nat) (v8o : Nat) (v9 : Int) (σ : H),
  iterK (fun rec s' => denC E D W N C3_5 s' (fun s'' => keepS [(0, (.int .i64)), (1, (.int .i64)), (5, .any), (6, .any), (7, (.int .i64)), (8, .ptr), (9, (.int .i64))] [] [] s'' rec) (blkK 2 (fun s' => denC E D W N (.keep [(0, (.int .i64)), (1, (.int .i64)), (5, .any), (6, .any), (7, (.int .i64)), (8, .ptr)] [] [] C3_4) s' (fun s' => denC E D W N (.keep [(0, (.int .i64)), (1, (.int .i64)), (5, .any), (6, .any), (7, (.int .i64))] [] [] C3_3) s' (fun s'' => keepS [(0, (.int .i64)), (1, (.int .i64)), (5, .any), (6, .any), (7, (.int .i64))] [] [] s'' li2) (blkK 0 (fun s' => denC E D W N (.keep [(0, (.int .i64)), (1, (.int .i64)), (5, .any), (6, .any)] [] [] (C3_1 C3_6)) s' (Fin3 E) (fun _ _ => none) (Fin3 E)) (fun _ _ => none)) (Fin3 E)) (blkK 1 (fun s' => denC E D W N (.keep [(0, (.int .i64)), (1, (.int .i64)), (5, .any), (6, .any), (7, (.int .i64))] [] [] C3_3) s' (fun s'' => keepS [(0, (.int .i64)), (1, (.int .i64)), (5, .any), (6, .any), (7, (.int .i64))] [] [] s'' li2) (blkK 0 (fun s' => denC E D W N (.keep [(0, (.int .i64)), (1, (.int .i64)), (5, .any), (6, .any)] [] [] (C3_1 C3_6)) s' (Fin3 E) (fun _ _ => none) (Fin3 E)) (fun _ _ => none)) (Fin3 E)) (blkK 0 (fun s' => denC E D W N (.keep [(0, (.int .i64)), (1, (.int .i64)), (5, .any), (6, .any)] [] [] (C3_1 C3_6)) s' (Fin3 E) (fun _ _ => none) (Fin3 E)) (fun _ _ => none))) (Fin3 E)) (blkK 1 (fun s' => denC E D W N (.keep [(0, (.int .i64)), (1, (.int .i64)), (5, .any), (6, .any), (7, (.int .i64))] [] [] C3_3) s' (fun s'' => keepS [(0, (.int .i64)), (1, (.int .i64)), (5, .any), (6, .any), (7, (.int .i64))] [] [] s'' li2) (blkK 0 (fun s' => denC E D W N (.keep [(0, (.int .i64)), (1, (.int .i64)), (5, .any), (6, .any)] [] [] (C3_1 C3_6)) s' (Fin3 E) (fun _ _ => none) (Fin3 E)) (fun _ _ => none)) (Fin3 E)) (blkK 0 (fun s' => denC E D W N (.keep [(0, (.int .i64)), (1, (.int .i64)), (5, .any), (6, .any)] [] [] (C3_1 C3_6)) s' (Fin3 E) (fun _ _ => none) (Fin3 E)) (fun _ _ => none)))) (Fin3 E)) n ⟨[(0, (V.int .i64 v0)), (1, (V.int .i64 v1)), (5, v5), (6, v6), (7, (V.int .i64 v7)), (8, (V.ptr v8b v8o)), (9, (V.int .i64 v9))], [], [], σ⟩ = L3_5 E D W N (fun v0 v1 v5 v6 v7 σ => li2 ⟨[(0, (V.int .i64 v0)), (1, (V.int .i64 v1)), (5, v5), (6, v6), (7, (V.int .i64 v7))], [], [], σ⟩) n v0 v1 v5 v6 v7 v8b v8o v9 σ := by
  induction n with
  | zero => intro v0 v1 v5 v6 v7 v8b v8o v9 σ; rfl
  | succ n ihn =>
    intro v0 v1 v5 v6 v7 v8b v8o v9 σ
    rw [iterK_succ]
    refine (P3_5 E D W N (C3_1 C3_6) C3_3 C3_4 li2 (iterK (fun rec s' => denC E D W N C3_5 s' (fun s'' => keepS [(0, (.int .i64)), (1, (.int .i64)), (5, .any), (6, .any), (7, (.int .i64)), (8, .ptr), (9, (.int .i64))] [] [] s'' rec) (blkK 2 (fun s' => denC E D W N (.keep [(0, (.int .i64)), (1, (.int .i64)), (5, .any), (6, .any), (7, (.int .i64)), (8, .ptr)] [] [] C3_4) s' (fun s' => denC E D W N (.keep [(0, (.int .i64)), (1, (.int .i64)), (5, .any), (6, .any), (7, (.int .i64))] [] [] C3_3) s' (fun s'' => keepS [(0, (.int .i64)), (1, (.int .i64)), (5, .any), (6, .any), (7, (.int .i64))] [] [] s'' li2) (blkK 0 (fun s' => denC E D W N (.keep [(0, (.int .i64)), (1, (.int .i64)), (5, .any), (6, .any)] [] [] (C3_1 C3_6)) s' (Fin3 E) (fun _ _ => none) (Fin3 E)) (fun _ _ => none)) (Fin3 E)) (blkK 1 (fun s' => denC E D W N (.keep [(0, (.int .i64)), (1, (.int .i64)), (5, .any), (6, .any), (7, (.int .i64))] [] [] C3_3) s' (fun s'' => keepS [(0, (.int .i64)), (1, (.int .i64)), (5, .any), (6, .any), (7, (.int .i64))] [] [] s'' li2) (blkK 0 (fun s' => denC E D W N (.keep [(0, (.int .i64)), (1, (.int .i64)), (5, .any), (6, .any)] [] [] (C3_1 C3_6)) s' (Fin3 E) (fun _ _ => none) (Fin3 E)) (fun _ _ => none)) (Fin3 E)) (blkK 0 (fun s' => denC E D W N (.keep [(0, (.int .i64)), (1, (.int .i64)), (5, .any), (6, .any)] [] [] (C3_1 C3_6)) s' (Fin3 E) (fun _ _ => none) (Fin3 E)) (fun _ _ => none))) (Fin3 E)) (blkK 1 (fun s' => denC E D W N (.keep [(0, (.int .i64)), (1, (.int .i64)), (5, .any), (6, .any), (7, (.int .i64))] [] [] C3_3) s' (fun s'' => keepS [(0, (.int .i64)), (1, (.int .i64)), (5, .any), (6, .any), (7, (.int .i64))] [] [] s'' li2) (blkK 0 (fun s' => denC E D W N (.keep [(0, (.int .i64)), (1, (.int .i64)), (5, .any), (6, .any)] [] [] (C3_1 C3_6)) s' (Fin3 E) (fun _ _ => none) (Fin3 E)) (fun _ _ => none)) (Fin3 E)) (blkK 0 (fun s' => denC E D W N (.keep [(0, (.int .i64)), (1, (.int .i64)), (5, .any), (6, .any)] [] [] (C3_1 C3_6)) s' (Fin3 E) (fun _ _ => none) (Fin3 E)) (fun _ _ => none)))) (Fin3 E)) n) v0 v1 v5 v6 v7 v8b v8o v9 σ).trans ?_
    simp only [ihn, JE3_4]
    kernel_rfl
def L3_2 (E : List (Nat × Blk)) (D : Den) (W : DrawFn) (N : Nat) (n : Nat) : Int → Int → V → V → Int → H → Ans :=
  Nat.rec (fun _ _ _ _ _ _ => none) (fun _ ih => T3_2 E D W (J3_1 E D W N ) (L3_5 E D W N ih N)) n
theorem LE3_2 (E : List (Nat × Blk)) (D : Den) (W : DrawFn) (N : Nat) (n : Nat) : ∀ (v0 : Int) (v1 : Int) (v5 : V) (v6 : V) (v7 : Int) (σ : H),
  iterK (fun rec s' => denC E D W N (C3_2 C3_3 C3_4 C3_5) s' (fun s'' => keepS [(0, (.int .i64)), (1, (.int .i64)), (5, .any), (6, .any), (7, (.int .i64))] [] [] s'' rec) (blkK 0 (fun s' => denC E D W N (.keep [(0, (.int .i64)), (1, (.int .i64)), (5, .any), (6, .any)] [] [] (C3_1 C3_6)) s' (Fin3 E) (fun _ _ => none) (Fin3 E)) (fun _ _ => none)) (Fin3 E)) n ⟨[(0, (V.int .i64 v0)), (1, (V.int .i64 v1)), (5, v5), (6, v6), (7, (V.int .i64 v7))], [], [], σ⟩ = L3_2 E D W N n v0 v1 v5 v6 v7 σ := by
  induction n with
  | zero => intro v0 v1 v5 v6 v7 σ; rfl
  | succ n ihn =>
    intro v0 v1 v5 v6 v7 σ
    rw [iterK_succ]
    refine (P3_2 E D W N (C3_1 C3_6) C3_3 C3_4 C3_5 (iterK (fun rec s' => denC E D W N (C3_2 C3_3 C3_4 C3_5) s' (fun s'' => keepS [(0, (.int .i64)), (1, (.int .i64)), (5, .any), (6, .any), (7, (.int .i64))] [] [] s'' rec) (blkK 0 (fun s' => denC E D W N (.keep [(0, (.int .i64)), (1, (.int .i64)), (5, .any), (6, .any)] [] [] (C3_1 C3_6)) s' (Fin3 E) (fun _ _ => none) (Fin3 E)) (fun _ _ => none)) (Fin3 E)) n) v0 v1 v5 v6 v7 σ).trans ?_
    simp only [ihn, JE3_1, LE3_5]
    kernel_rfl
def J3_0 (E : List (Nat × Blk)) (D : Den) (W : DrawFn) (N : Nat) : Int → Int → H → Ans := T3_0 E D W (L3_2 E D W N N)
theorem JE3_0 (E : List (Nat × Blk)) (D : Den) (W : DrawFn) (N : Nat) (v0 : Int) (v1 : Int) (σ : H) :
  denC E D W N (C3_0 (C3_1 C3_6) (C3_2 C3_3 C3_4 C3_5)) ⟨[(0, (V.int .i64 v0)), (1, (V.int .i64 v1))], [], [], σ⟩ (Fin3 E) (fun _ _ => none) (Fin3 E) = J3_0 E D W N v0 v1 σ := by
  refine (P3_0 E D W N (C3_1 C3_6) (C3_2 C3_3 C3_4 C3_5)  v0 v1 σ).trans ?_
  simp only [LE3_2]
  kernel_rfl
def F3 (E : List (Nat × Blk)) (D : Den) (W : DrawFn) (N : Nat) (args : List V) (σ : H) : Ans :=
 rtCons args fun x1 l2 =>
 rtInt .i64 x1 fun x3 =>
 rtCons l2 fun x4 l5 =>
 rtInt .i64 x4 fun x6 =>
 rtNil l5 (
 J3_0 E D W N x3 x6 σ)
def A3 : XFn := ⟨117, [(.int .i64), (.int .i64)], [(.tmp 4)], (C3_0 (C3_1 C3_6) (C3_2 C3_3 C3_4 C3_5))⟩
theorem FE3 (E : List (Nat × Blk)) (D : Den) (W : DrawFn) (N : Nat) (args : List V) (σ : H) : runX E D W N A3 args σ = F3 E D W N args σ := by
  unfold F3
  simp only [← JE3_0]
  kernel_rfl
theorem AO3 : A3.body.ok = true := by kernel_rfl

/-! ### F6: ogham_oghamlaw25.AuditRules_1 -/
def Fin6 (E : List (Nat × Blk)) : St → Ans := fun s => resK E s [(.tmp 4)] fun l => some (oneV l, s.σ)
def C6_0 (cc1 : XC) (cc2 : XC) : XC := (.seq (.ops (.op (some 4) .any [] (.mov (.con (V.str ⟨0, 0⟩))) <|
 .nil))
 (.seq (.ops (.op (some 5) .any [] (.mov (.con (V.str ⟨0, 0⟩))) <|
 .nil))
 (.seq (.seq (.ops (.op (some 6) .any [] (.mov (.con (V.int .i64 (Int.ofNat 0)))) <|
 .nil))
 (.block 0 (.loop [(0, .str), (1, (.int .i64)), (5, .str), (6, (.int .i64))] [] [] cc2)))
 (.keep [(0, .str), (5, .str)] [] [] cc1))))
def T6_0 (E : List (Nat × Blk)) (D : Den) (W : DrawFn) (K2 : BS → Int → BS → Int → H → Ans) (v0 : BS) (v1 : Int) (σ : H) : Ans :=
 K2 v0 v1 (BS.mk 0 0) (Int.ofNat 0) σ
def C6_1 : XC := (.seq (.ops (.op (some 18) .any [0] (.mov (.tmp 0)) <|
 .op (some 19) .any [18] (.bin .add .none (.tmp 18) (.con (V.str ⟨62, 36905873833577286365342205242290495623582678696654808142108698332937057377888958827057978302716050440217788515867537173328298890712909524925552084000⟩))) <|
 .op (some 20) .any [5] (.mov (.tmp 5)) <|
 .op (some 21) .any [19, 20] (.bin .add .none (.tmp 19) (.tmp 20)) <|
 .op (some 22) .any [21] (.bin .add .none (.tmp 21) (.con (V.str ⟨7, 2889852723559712⟩))) <|
 .op (some 4) .any [22] (.mov (.tmp 22)) <|
 .nil))
 .ret)
def T6_1 (E : List (Nat × Blk)) (D : Den) (W : DrawFn) (v0 : BS) (v5 : BS) (σ : H) : Ans :=
 catK v0 (BS.mk 62 36905873833577286365342205242290495623582678696654808142108698332937057377888958827057978302716050440217788515867537173328298890712909524925552084000) fun t1 =>
 catK t1 v5 fun t2 =>
 catK t2 (BS.mk 7 2889852723559712) fun t3 =>
 some ((V.str t3), σ)
def C6_2 : XC := (.seq (.seq (.ops (.op (some 7) .any [6] (.mov (.tmp 6)) <|
 .op (some 8) .any [1] (.mov (.tmp 1)) <|
 .op (some 9) .any [7, 8] (.bin .lss .none (.tmp 7) (.tmp 8)) <|
 .nil))
 (.cond (.tmp 9) .skip
 (.exit 0)))
 (.seq (.block 1 (.ops (.op (some 12) .any [5] (.mov (.tmp 5)) <|
 .op (some 13) .any [12] (.bin .add .none (.tmp 12) (.con (V.str ⟨3, 7872556⟩))) <|
 .op (some 14) .any [6] (.mov (.tmp 6)) <|
 .op (some 15) .any [14] (.conv (.toInt .u64) (.tmp 14)) <|
 .op (some 16) .str [15] (.call 7 [(.tmp 15)]) <|
 .op (some 17) .any [13, 16] (.bin .add .none (.tmp 13) (.tmp 16)) <|
 .op (some 5) .any [17] (.mov (.tmp 17)) <|
 .nil)))
 (.ops (.op (some 10) .any [6] (.mov (.tmp 6)) <|
 .op (some 11) .any [10] (.bin .add .none (.tmp 10) (.con (V.int .i64 (Int.ofNat 1)))) <|
 .op (some 6) .any [11] (.mov (.tmp 11)) <|
 .nil))))
def T6_2 (E : List (Nat × Blk)) (D : Den) (W : DrawFn) (K1 : BS → BS → H → Ans) (R2 : BS → Int → BS → Int → H → Ans) (v0 : BS) (v1 : Int) (v5 : BS) (v6 : Int) (σ : H) : Ans :=
 condK (ltF v6 v1) (
 catK v5 (BS.mk 3 7872556) fun t1 =>
 callK (D 7 [(V.int .u64 (wrapF .u64 v6))] σ) fun u2 s3 =>
 rtStr u2 fun x4 =>
 catK t1 x4 fun t5 =>
 R2 v0 v1 t5 (addF .i64 v6 (Int.ofNat 1)) s3) (
 K1 v0 v5 σ)
theorem P6_0 (E : List (Nat × Blk)) (D : Den) (W : DrawFn) (N : Nat) (cc1 : XC) (cc2 : XC) (v0 : BS) (v1 : Int) (σ : H) :
  denC E D W N (C6_0 cc1 cc2) ⟨[(0, (V.str v0)), (1, (V.int .i64 v1))], [], [], σ⟩ (Fin6 E) (fun _ _ => none) (Fin6 E) =
  T6_0 E D W (fun v0 v1 v5 v6 σ => iterK (fun rec s' => denC E D W N cc2 s' (fun s'' => keepS [(0, .str), (1, (.int .i64)), (5, .str), (6, (.int .i64))] [] [] s'' rec) (blkK 0 (fun s' => denC E D W N (.keep [(0, .str), (5, .str)] [] [] cc1) s' (Fin6 E) (fun _ _ => none) (Fin6 E)) (fun _ _ => none)) (Fin6 E)) N ⟨[(0, (V.str v0)), (1, (V.int .i64 v1)), (5, (V.str v5)), (6, (V.int .i64 v6))], [], [], σ⟩) v0 v1 σ := by kernel_rfl
theorem P6_1 (E : List (Nat × Blk)) (D : Den) (W : DrawFn) (N : Nat) (v0 : BS) (v5 : BS) (σ : H) :
  denC E D W N (C6_1 ) ⟨[(0, (V.str v0)), (5, (V.str v5))], [], [], σ⟩ (Fin6 E) (fun _ _ => none) (Fin6 E) =
  T6_1 E D W  v0 v5 σ := by kernel_rfl
theorem P6_2 (E : List (Nat × Blk)) (D : Den) (W : DrawFn) (N : Nat) (cc1 : XC) (li2 : St → Ans) (v0 : BS) (v1 : Int) (v5 : BS) (v6 : Int) (σ : H) :
  denC E D W N (C6_2 ) ⟨[(0, (V.str v0)), (1, (V.int .i64 v1)), (5, (V.str v5)), (6, (V.int .i64 v6))], [], [], σ⟩ (fun s'' => keepS [(0, .str), (1, (.int .i64)), (5, .str), (6, (.int .i64))] [] [] s'' li2) (blkK 0 (fun s' => denC E D W N (.keep [(0, .str), (5, .str)] [] [] cc1) s' (Fin6 E) (fun _ _ => none) (Fin6 E)) (fun _ _ => none)) (Fin6 E) =
  T6_2 E D W (fun v0 v5 σ => denC E D W N cc1 ⟨[(0, (V.str v0)), (5, (V.str v5))], [], [], σ⟩ (Fin6 E) (fun _ _ => none) (Fin6 E)) (fun v0 v1 v5 v6 σ => li2 ⟨[(0, (V.str v0)), (1, (V.int .i64 v1)), (5, (V.str v5)), (6, (V.int .i64 v6))], [], [], σ⟩) v0 v1 v5 v6 σ := by kernel_rfl
def J6_1 (E : List (Nat × Blk)) (D : Den) (W : DrawFn) (N : Nat) : BS → BS → H → Ans := T6_1 E D W 
theorem JE6_1 (E : List (Nat × Blk)) (D : Den) (W : DrawFn) (N : Nat) (v0 : BS) (v5 : BS) (σ : H) :
  denC E D W N C6_1 ⟨[(0, (V.str v0)), (5, (V.str v5))], [], [], σ⟩ (Fin6 E) (fun _ _ => none) (Fin6 E) = J6_1 E D W N v0 v5 σ := by
  refine (P6_1 E D W N   v0 v5 σ).trans ?_
  kernel_rfl
def L6_2 (E : List (Nat × Blk)) (D : Den) (W : DrawFn) (N : Nat) (n : Nat) : BS → Int → BS → Int → H → Ans :=
  Nat.rec (fun _ _ _ _ _ => none) (fun _ ih => T6_2 E D W (J6_1 E D W N ) ih) n
theorem LE6_2 (E : List (Nat × Blk)) (D : Den) (W : DrawFn) (N : Nat) (n : Nat) : ∀ (v0 : BS) (v1 : Int) (v5 : BS) (v6 : Int) (σ : H),
  iterK (fun rec s' => denC E D W N C6_2 s' (fun s'' => keepS [(0, .str), (1, (.int .i64)), (5, .str), (6, (.int .i64))] [] [] s'' rec) (blkK 0 (fun s' => denC E D W N (.keep [(0, .str), (5, .str)] [] [] C6_1) s' (Fin6 E) (fun _ _ => none) (Fin6 E)) (fun _ _ => none)) (Fin6 E)) n ⟨[(0, (V.str v0)), (1, (V.int .i64 v1)), (5, (V.str v5)), (6, (V.int .i64 v6))], [], [], σ⟩ = L6_2 E D W N n v0 v1 v5 v6 σ := by
  induction n with
  | zero => intro v0 v1 v5 v6 σ; rfl
  | succ n ihn =>
    intro v0 v1 v5 v6 σ
    rw [iterK_succ]
    refine (P6_2 E D W N C6_1 (iterK (fun rec s' => denC E D W N C6_2 s' (fun s'' => keepS [(0, .str), (1, (.int .i64)), (5, .str), (6, (.int .i64))] [] [] s'' rec) (blkK 0 (fun s' => denC E D W N (.keep [(0, .str), (5, .str)] [] [] C6_1) s' (Fin6 E) (fun _ _ => none) (Fin6 E)) (fun _ _ => none)) (Fin6 E)) n) v0 v1 v5 v6 σ).trans ?_
    simp only [ihn, JE6_1]
    kernel_rfl
def J6_0 (E : List (Nat × Blk)) (D : Den) (W : DrawFn) (N : Nat) : BS → Int → H → Ans := T6_0 E D W (L6_2 E D W N N)
theorem JE6_0 (E : List (Nat × Blk)) (D : Den) (W : DrawFn) (N : Nat) (v0 : BS) (v1 : Int) (σ : H) :
  denC E D W N (C6_0 C6_1 C6_2) ⟨[(0, (V.str v0)), (1, (V.int .i64 v1))], [], [], σ⟩ (Fin6 E) (fun _ _ => none) (Fin6 E) = J6_0 E D W N v0 v1 σ := by
  refine (P6_0 E D W N C6_1 C6_2  v0 v1 σ).trans ?_
  simp only [LE6_2]
  kernel_rfl
def F6 (E : List (Nat × Blk)) (D : Den) (W : DrawFn) (N : Nat) (args : List V) (σ : H) : Ans :=
 rtCons args fun x1 l2 =>
 rtStr x1 fun x3 =>
 rtCons l2 fun x4 l5 =>
 rtInt .i64 x4 fun x6 =>
 rtNil l5 (
 J6_0 E D W N x3 x6 σ)
def A6 : XFn := ⟨23, [.str, (.int .i64)], [(.tmp 4)], (C6_0 C6_1 C6_2)⟩
theorem FE6 (E : List (Nat × Blk)) (D : Den) (W : DrawFn) (N : Nat) (args : List V) (σ : H) : runX E D W N A6 args σ = F6 E D W N args σ := by
  unfold F6
  simp only [← JE6_0]
  kernel_rfl
theorem AO6 : A6.body.ok = true := by kernel_rfl

/-! ### F7: ogham_oghamhelp.Digits -/
def G7_0 : List AOper := [⟨(some 10), .mov (.tmp 0), none⟩, ⟨(some 11), .bin .quo .none (.tmp 10) (.con (V.int .u64 (Int.ofNat 10))), none⟩, ⟨(some 12), .call 7 [(.tmp 11)], none⟩, ⟨(some 13), .mov (.tmp 0), none⟩, ⟨(some 14), .bin .rem .none (.tmp 13) (.con (V.int .u64 (Int.ofNat 10))), none⟩, ⟨(some 15), .bin .add .none (.con (V.int .u64 (Int.ofNat 48))) (.tmp 14), none⟩, ⟨(some 16), .conv (.toInt .u8) (.tmp 15), none⟩, ⟨(some 17), .buildSlice 5 1 [(V.int .u8 (Int.ofNat 0))] [(0, 1, (.tmp 16))], none⟩, ⟨(some 18), .conv .toStr (.tmp 17), none⟩, ⟨(some 19), .bin .add .none (.tmp 12) (.tmp 18), none⟩, ⟨(some 2), .mov (.tmp 19), none⟩]
def H7_0 : List DP := [⟨0, [0]⟩, ⟨1, [10]⟩, ⟨3, [11]⟩, ⟨0, [0]⟩, ⟨8, [13]⟩, ⟨24, [14]⟩, ⟨56, [15]⟩, ⟨120, [16]⟩, ⟨248, [17]⟩, ⟨511, [12, 18]⟩, ⟨1023, [19]⟩]
def Fin7 (E : List (Nat × Blk)) : St → Ans := fun s => resK E s [(.tmp 2)] fun l => some (oneV l, s.σ)
def C7_0 : XC := (.seq (.ops (.op (some 2) .any [] (.mov (.con (V.str ⟨0, 0⟩))) <|
 .nil))
 (.seq (.seq (.ops (.op (some 3) .any [0] (.mov (.tmp 0)) <|
 .op (some 4) .any [3] (.bin .lss .none (.tmp 3) (.con (V.int .u64 (Int.ofNat 10)))) <|
 .nil))
 (.cond (.tmp 4) (.seq (.ops (.op (some 5) .any [0] (.mov (.tmp 0)) <|
 .op (some 6) .any [5] (.bin .add .none (.con (V.int .u64 (Int.ofNat 48))) (.tmp 5)) <|
 .op (some 7) .any [6] (.conv (.toInt .u8) (.tmp 6)) <|
 .op (some 8) .any [7] (.buildSlice 5 1 [(V.int .u8 (Int.ofNat 0))] [(0, 1, (.tmp 7))]) <|
 .op (some 9) .any [8] (.conv .toStr (.tmp 8)) <|
 .op (some 2) .any [9] (.mov (.tmp 9)) <|
 .nil))
 .ret)
 .skip))
 (.seq (.keep [(0, (.int .u64))] [] [] (.gdraw G7_0 H7_0 [(2, .str)]))
 .ret)))
def T7_0 (E : List (Nat × Blk)) (D : Den) (W : DrawFn) (v0 : Int) (σ : H) : Ans :=
 condK (ltF v0 (Int.ofNat 10)) (
 let s1 := newB σ (.cells [(V.int .u8 (wrapF .u8 (addF .u64 (Int.ofNat 48) v0)))]);
 toStrK E s1 (V.sl (H.next σ) 0 1 (.ex 1)) fun t2 =>
 some ((V.str t2), s1)) (
 gdrawK (W G7_0 H7_0 [(0, (V.int .u64 v0))] σ) fun e3 s4 =>
 getL e3 2 fun u5 =>
 rtStr u5 fun x6 =>
 some ((V.str x6), s4))
theorem P7_0 (E : List (Nat × Blk)) (D : Den) (W : DrawFn) (N : Nat) (v0 : Int) (σ : H) :
  denC E D W N (C7_0 ) ⟨[(0, (V.int .u64 v0))], [], [], σ⟩ (Fin7 E) (fun _ _ => none) (Fin7 E) =
  T7_0 E D W  v0 σ := by kernel_rfl
def J7_0 (E : List (Nat × Blk)) (D : Den) (W : DrawFn) (N : Nat) : Int → H → Ans := T7_0 E D W 
theorem JE7_0 (E : List (Nat × Blk)) (D : Den) (W : DrawFn) (N : Nat) (v0 : Int) (σ : H) :
  denC E D W N C7_0 ⟨[(0, (V.int .u64 v0))], [], [], σ⟩ (Fin7 E) (fun _ _ => none) (Fin7 E) = J7_0 E D W N v0 σ := by
  refine (P7_0 E D W N   v0 σ).trans ?_
  kernel_rfl
def F7 (E : List (Nat × Blk)) (D : Den) (W : DrawFn) (N : Nat) (args : List V) (σ : H) : Ans :=
 rtCons args fun x1 l2 =>
 rtInt .u64 x1 fun x3 =>
 rtNil l2 (
 J7_0 E D W N x3 σ)
def A7 : XFn := ⟨20, [(.int .u64)], [(.tmp 2)], C7_0⟩
theorem FE7 (E : List (Nat × Blk)) (D : Den) (W : DrawFn) (N : Nat) (args : List V) (σ : H) : runX E D W N A7 args σ = F7 E D W N args σ := by
  unfold F7
  simp only [← JE7_0]
  kernel_rfl
theorem AO7 : A7.body.ok = true := by kernel_rfl

def C8_0 : XC := (.seq (.ops (.op (some 0) .any [] (.mov (.con (V.bool false))) <|
 .nil))
 (.seq (.ops (.op (some 2) (.agg [.str, .any]) [] (.build [(V.str ⟨0, 0⟩), V.nils] [(0, 1, (.con (V.str ⟨1, 77⟩)))]) <|
 .op (some 3) .any [2] (.buildSlice 29 1 [(V.str ⟨0, 0⟩), V.nils] [(0, 2, (.tmp 2))]) <|
 .op (some 4) .one [3] (.call 10 [(.tmp 3)]) <|
 .op (some 1) .any [4] (.mov (.tmp 4)) <|
 .nil))
 (.seq (.ops (.op (some 5) .one [] (.call 10 [(.con V.nils)]) <|
 .op (some 6) .any [5] (.len false (.tmp 5)) <|
 .op (some 7) .any [6] (.bin .eql .none (.tmp 6) (.con (V.int .i64 (Int.ofNat 0)))) <|
 .op (some 8) .any [7] (.mov (.tmp 7)) <|
 .grp 8 true (.op (some 9) .any [1, 8] (.mov (.tmp 1)) <|
 .op (some 10) .any [9, 8] (.len false (.tmp 9)) <|
 .op (some 11) .any [10, 8] (.bin .eql .none (.tmp 10) (.con (V.int .i64 (Int.ofNat 1)))) <|
 .nil) 12 [8, 11] (.tmp 8) (.tmp 11) (.con (V.bool false)) <|
 .op (some 13) .any [12] (.mov (.tmp 12)) <|
 .grp 13 true (.op (some 14) .any [1, 13] (.mov (.tmp 1)) <|
 .op (some 15) .any [14, 13] (.iaddrS 1 (.tmp 14) (.con (V.int .i64 (Int.ofNat 0)))) <|
 .op (some 16) (.int .i64) [15, 13] (.load none (.tmp 15)) <|
 .op (some 17) .any [16, 13] (.bin .eql .none (.tmp 16) (.con (V.int .i64 (Int.ofNat 2)))) <|
 .nil) 18 [13, 17] (.tmp 13) (.tmp 17) (.con (V.bool false)) <|
 .op (some 0) .any [18] (.mov (.tmp 18)) <|
 .nil))
 .ret)))
def A8 : XFn := ⟨19, [], [(.tmp 0)], C8_0⟩
def C9_0 : XC := (.seq (.ops (.op (some 4) .any [] (.mov (.con (V.bool false))) <|
 .nil))
 (.seq (.ops (.op (some 5) .any [0] (.mov (.tmp 0)) <|
 .op (some 6) .any [1] (.mov (.tmp 1)) <|
 .op (some 7) .bool [5, 6] (.call 22 [(.tmp 5), (.tmp 6), (.con (V.fn 23 [] []))]) <|
 .op (some 4) .any [7] (.mov (.tmp 7)) <|
 .nil))
 .ret))
def A9 : XFn := ⟨8, [.any, .any], [(.tmp 4)], C9_0⟩
def C10_0 (cc1 : XC) (cc2 : XC) : XC := (.seq (.ops (.op (some 2) .any [] (.mov (.con V.nils)) <|
 .nil))
 (.seq (.ops (.op (some 3) .any [] (.mov (.con V.nils)) <|
 .nil))
 (.seq (.seq (.ops (.op (some 6) (.agg []) [] (.build [] []) <|
 .op (some 7) .any [0] (.mov (.tmp 0)) <|
 .op (some 8) (.agg [.bool, .bool, .bool, .bool, .bool]) [6, 7] (.call 24 [(.tmp 6), (.tmp 7)]) <|
 .op (some 9) .any [] (.mov (.con (V.int .i64 (Int.ofNat 0)))) <|
 .nil))
 (.block 0 (.loop [(3, .any), (8, (.agg [.bool, .bool, .bool, .bool, .bool])), (9, (.int .i64))] [] [] cc2)))
 (.keep [(3, .any)] [] [] cc1))))
def C10_1 : XC := (.seq (.ops (.op (some 19) .any [3] (.mov (.tmp 3)) <|
 .op (some 2) .any [19] (.mov (.tmp 19)) <|
 .nil))
 .ret)
def C10_2 (cc3 : XC) : XC := (.seq (.ops (.op (some 10) .any [9] (.bin .lss .none (.tmp 9) (.con (V.int .i64 (Int.ofNat 5)))) <|
 .nil))
 (.seq (.cond (.tmp 10) .skip
 (.exit 0))
 (.seq (.block 1 (.seq (.ops (.op (some 11) .any [9] (.mov (.tmp 9)) <|
 .op (some 12) .bool [8, 9] (.idxArr 5 1 none (.tmp 8) (.tmp 9)) <|
 .op (some 4) .any [11] (.mov (.tmp 11)) <|
 .op (some 5) .any [12] (.mov (.tmp 12)) <|
 .nil))
 (.seq (.ops (.op (some 13) .any [5] (.mov (.tmp 5)) <|
 .nil))
 (.cond (.tmp 13) (.ops (.op (some 14) .any [3] (.mov (.tmp 3)) <|
 .op (some 15) .any [4] (.mov (.tmp 4)) <|
 .op (some 16) .any [15] (.buildSlice 3 1 [(V.int .i64 (Int.ofNat 0))] [(0, 1, (.tmp 15))]) <|
 .op (some 17) .one [14, 16] (.append 3 1 8 (.tmp 14) (.tmp 16)) <|
 .op (some 3) .any [17] (.mov (.tmp 17)) <|
 .nil))
 .skip))))
 (.keep [(3, .any), (8, (.agg [.bool, .bool, .bool, .bool, .bool])), (9, (.int .i64))] [] [] cc3))))
def C10_3 : XC := (.ops (.op (some 18) .any [9] (.bin .add .none (.tmp 9) (.con (V.int .i64 (Int.ofNat 1)))) <|
 .op (some 9) .any [18] (.mov (.tmp 18)) <|
 .nil))
def A10 : XFn := ⟨20, [.any], [(.tmp 2)], (C10_0 C10_1 (C10_2 C10_3))⟩
def C22_0 (cc1 : XC) (cc2 : XC) : XC := (.seq (.ops (.op (some 6) .any [] (.mov (.con (V.bool false))) <|
 .nil))
 (.seq (.seq (.ops (.op (some 8) .any [0] (.mov (.tmp 0)) <|
 .op (some 9) .any [8] (.len false (.tmp 8)) <|
 .op (some 10) .any [1] (.mov (.tmp 1)) <|
 .op (some 11) .any [10] (.len false (.tmp 10)) <|
 .op (some 12) .any [9, 11] (.bin .neq .none (.tmp 9) (.tmp 11)) <|
 .nil))
 (.cond (.tmp 12) (.seq (.ops (.op (some 6) .any [] (.mov (.con (V.bool false))) <|
 .nil))
 .ret)
 .skip))
 (.seq (.seq (.ops (.op (some 7) .any [] (.mov (.con (V.int .i64 (Int.ofNat 0)))) <|
 .nil))
 (.block 0 (.loop [(0, .any), (1, .any), (2, .any), (7, (.int .i64))] [] [] cc2)))
 (.keep [] [] [] cc1))))
def C22_1 : XC := (.seq (.ops (.op (some 6) .any [] (.mov (.con (V.bool true))) <|
 .nil))
 .ret)
def C22_2 : XC := (.seq (.seq (.ops (.op (some 13) .any [7] (.mov (.tmp 7)) <|
 .op (some 14) .any [0] (.mov (.tmp 0)) <|
 .op (some 15) .any [14] (.len false (.tmp 14)) <|
 .op (some 16) .any [13, 15] (.bin .lss .none (.tmp 13) (.tmp 15)) <|
 .nil))
 (.cond (.tmp 16) .skip
 (.exit 0)))
 (.seq (.block 1 (.seq (.draw (.op (some 19) .any [2] (.mov (.tmp 2)) <|
 .op (some 20) .any [0] (.mov (.tmp 0)) <|
 .op (some 21) .any [7] (.mov (.tmp 7)) <|
 .op (some 22) .any [20, 21] (.iaddrS 1 (.tmp 20) (.tmp 21)) <|
 .op (some 23) (.int .i64) [22] (.load none (.tmp 22)) <|
 .op (some 24) .any [1] (.mov (.tmp 1)) <|
 .op (some 25) .any [7] (.mov (.tmp 7)) <|
 .op (some 26) .any [24, 25] (.iaddrS 1 (.tmp 24) (.tmp 25)) <|
 .op (some 27) (.int .i64) [26] (.load none (.tmp 26)) <|
 .op (some 28) .bool [19, 23, 27] (.callv (.tmp 19) [(.tmp 23), (.tmp 27)]) <|
 .op (some 29) .any [28] (.un .not (.tmp 28)) <|
 .nil) [0, 0, 0, 6, 14, 0, 0, 96, 224, 511, 1023])
 (.cond (.tmp 29) (.seq (.ops (.op (some 6) .any [] (.mov (.con (V.bool false))) <|
 .nil))
 .ret)
 .skip)))
 (.ops (.op (some 17) .any [7] (.mov (.tmp 7)) <|
 .op (some 18) .any [17] (.bin .add .none (.tmp 17) (.con (V.int .i64 (Int.ofNat 1)))) <|
 .op (some 7) .any [18] (.mov (.tmp 18)) <|
 .nil))))
def A22 : XFn := ⟨30, [.any, .any, .any], [(.tmp 6)], (C22_0 C22_1 C22_2)⟩
def C23_0 : XC := (.seq (.ops (.op (some 4) .any [] (.mov (.con (V.bool false))) <|
 .nil))
 (.seq (.ops (.op (some 5) .any [0] (.mov (.tmp 0)) <|
 .op (some 6) .any [1] (.mov (.tmp 1)) <|
 .op (some 7) .any [5, 6] (.bin .eql .none (.tmp 5) (.tmp 6)) <|
 .op (some 4) .any [7] (.mov (.tmp 7)) <|
 .nil))
 .ret))
def A23 : XFn := ⟨8, [(.int .i64), (.int .i64)], [(.tmp 4)], C23_0⟩
/-! ### F24: _ogham_audit.checker_.broken -/
def Fin24 (E : List (Nat × Blk)) : St → Ans := fun s => resK E s [(.cell 4 (some 5))] fun l => some (oneV l, s.σ)
def C24_0 (cc1 : XC) (cc2 : XC) : XC := (.seq (.ops (.op (some 2) .any [0] (.box0 65 (.tmp 0)) <|
 .pal 4 [] 60 [(V.bool false), (V.bool false), (V.bool false), (V.bool false), (V.bool false)] <|
 .nil))
 (.seq (.ops (.op (some 5) .any [] (.alloc 60 [(V.bool false), (V.bool false), (V.bool false), (V.bool false), (V.bool false)]) <|
 .nil))
 (.seq (.ops (.op (some 9) .any [1] (.mov (.tmp 1)) <|
 .op (some 10) .any [9] (.len false (.tmp 9)) <|
 .op (some 11) .any [10] (.bin .gtr .none (.tmp 10) (.con (V.int .i64 (Int.ofNat 8)))) <|
 .op (some 12) .any [5] (.iaddrA 5 1 (.tmp 5) (.con (V.int .i64 (Int.ofNat 1)))) <|
 .op none .any [12, 11] (.store 1 (.tmp 12) (.tmp 11)) <|
 .nil))
 (.seq (.seq (.ops (.op (some 13) .any [1] (.mov (.tmp 1)) <|
 .op (some 14) .any [13] (.len false (.tmp 13)) <|
 .op (some 15) .any [] (.mov (.con (V.int .i64 (Int.ofNat 0)))) <|
 .nil))
 (.block 0 (.loop [(1, .any), (2, .ptr), (5, .ptr), (13, .any), (14, (.int .i64)), (15, (.int .i64))] [4] [(4, [.bool, .bool, .bool, .bool, .bool])] cc2)))
 (.keep [(5, .ptr)] [4] [(4, [.bool, .bool, .bool, .bool, .bool])] cc1)))))
def T24_0 (E : List (Nat × Blk)) (D : Den) (W : DrawFn) (K2 : V → Nat → Nat → Nat → Nat → V → Int → Int → Bool → Bool → Bool → Bool → Bool → H → Ans) (v1 : V) (σ : H) : Ans :=
 let s1 := newB σ (.unit 65);
 let s2 := newB s1 (.cells [(V.bool false), (V.bool false), (V.bool false), (V.bool false), (V.bool false)]);
 slenK v1 fun n3 =>
 stK 1 (H.next s1) (Nat.add 0 (Nat.mul 1 1)) (V.bool (ltF (Int.ofNat 8) (Int.ofNat n3))) s2 fun s5 =>
 slenK v1 fun n6 =>
 K2 v1 (H.next σ) 0 (H.next s1) 0 v1 (Int.ofNat n6) (Int.ofNat 0) false false false false false s5
def C24_1 : XC := (.seq (.ops (.op (some 80) (.agg [.bool, .bool, .bool, .bool, .bool]) [5] (.load (some 5) (.tmp 5)) <|
 .op none (.agg [.bool, .bool, .bool, .bool, .bool]) [4, 80] (.store 5 (.tmp 4) (.tmp 80)) <|
 .nil))
 .ret)
def T24_1 (E : List (Nat × Blk)) (D : Den) (W : DrawFn) (v5b : Nat) (v5o : Nat) (r4_0 : Bool) (r4_1 : Bool) (r4_2 : Bool) (r4_3 : Bool) (r4_4 : Bool) (σ : H) : Ans :=
 ldnK E σ v5b v5o 5 fun l1 =>
 rtCons l1 fun x2 l3 =>
 rtBool x2 fun x4 =>
 rtCons l3 fun x5 l6 =>
 rtBool x5 fun x7 =>
 rtCons l6 fun x8 l9 =>
 rtBool x8 fun x10 =>
 rtCons l9 fun x11 l12 =>
 rtBool x11 fun x13 =>
 rtCons l12 fun x14 l15 =>
 rtBool x14 fun x16 =>
 rtNil l15 (
 some ((V.agg [(V.bool x4), (V.bool x7), (V.bool x10), (V.bool x13), (V.bool x16)]), σ))
def C24_2 : XC := (.seq (.ops (.op (some 16) .any [15, 14] (.bin .lss .none (.tmp 15) (.tmp 14)) <|
 .nil))
 (.seq (.cond (.tmp 16) .skip
 (.exit 0))
 (.seq (.block 1 (.seq (.ops (.op (some 17) .any [15] (.mov (.tmp 15)) <|
 .op (some 18) .any [13, 15] (.iaddrS 2 (.tmp 13) (.tmp 15)) <|
 .op (some 19) (.agg [.str, .any]) [18] (.load (some 2) (.tmp 18)) <|
 .pal 7 [] 29 [(V.str ⟨0, 0⟩), V.nils] <|
 .op (some 6) .any [17] (.mov (.tmp 17)) <|
 .op none (.agg [.str, .any]) [7, 19] (.store 2 (.tmp 7) (.tmp 19)) <|
 .nil))
 (.seq (.draw (.op (some 20) .any [5] (.iaddrA 5 1 (.tmp 5) (.con (V.int .i64 (Int.ofNat 1)))) <|
 .op (some 21) .bool [20] (.load none (.tmp 20)) <|
 .op (some 22) .any [21] (.mov (.tmp 21)) <|
 .grp 22 false (.op (some 23) .any [6, 22] (.mov (.tmp 6)) <|
 .op (some 24) .any [23, 22] (.bin .gtr .none (.tmp 23) (.con (V.int .i64 (Int.ofNat 0)))) <|
 .op (some 25) .any [24, 22] (.mov (.tmp 24)) <|
 .grp 25 true (.op (some 26) .any [7, 25] (.faddr 0 (.tmp 7)) <|
 .op (some 27) .str [26, 25] (.load none (.tmp 26)) <|
 .op (some 28) .any [1, 25] (.mov (.tmp 1)) <|
 .op (some 29) .any [6, 25] (.mov (.tmp 6)) <|
 .op (some 30) .any [29, 25] (.bin .sub .none (.tmp 29) (.con (V.int .i64 (Int.ofNat 1)))) <|
 .op (some 31) .any [28, 30, 25] (.iaddrS 2 (.tmp 28) (.tmp 30)) <|
 .op (some 32) .any [31, 25] (.faddr 0 (.tmp 31)) <|
 .op (some 33) .str [32, 25] (.load none (.tmp 32)) <|
 .op (some 34) .any [27, 33, 25] (.bin .leq .none (.tmp 27) (.tmp 33)) <|
 .nil) 35 [25, 34, 22] (.tmp 25) (.tmp 34) (.con (V.bool false)) <|
 .nil) 36 [22, 35] (.tmp 22) (.con (V.bool true)) (.tmp 35) <|
 .op (some 37) .any [5] (.iaddrA 5 1 (.tmp 5) (.con (V.int .i64 (Int.ofNat 1)))) <|
 .op none .any [37, 36] (.store 1 (.tmp 37) (.tmp 36)) <|
 .nil) [0, 1, 3, 7, 15, 31, 63, 127, 63, 63, 575, 1855, 3903, 7999, 16383, 32767, 65535, 131071, 262143])
 (.seq (.ops (.op (some 38) .any [5] (.iaddrA 5 1 (.tmp 5) (.con (V.int .i64 (Int.ofNat 2)))) <|
 .op (some 39) .bool [38] (.load none (.tmp 38)) <|
 .op (some 40) .any [39] (.mov (.tmp 39)) <|
 .grp 40 false (.op (some 41) .any [2, 40] (.faddr0 65 (.tmp 2)) <|
 .op (some 42) (.agg []) [41, 40] (.load0 (.tmp 41)) <|
 .op (some 43) (.agg [.str, .any]) [7, 40] (.load (some 2) (.tmp 7)) <|
 .op (some 44) .bool [42, 43, 40] (.call 35 [(.tmp 42), (.tmp 43)]) <|
 .op (some 45) .any [44, 40] (.un .not (.tmp 44)) <|
 .nil) 46 [40, 45] (.tmp 40) (.con (V.bool true)) (.tmp 45) <|
 .op (some 47) .any [5] (.iaddrA 5 1 (.tmp 5) (.con (V.int .i64 (Int.ofNat 2)))) <|
 .op none .any [47, 46] (.store 1 (.tmp 47) (.tmp 46)) <|
 .nil))
 (.seq (.ops (.op (some 48) .any [2] (.faddr0 65 (.tmp 2)) <|
 .op (some 49) (.agg []) [48] (.load0 (.tmp 48)) <|
 .op (some 50) (.agg [.str, .any]) [7] (.load (some 2) (.tmp 7)) <|
 .op (some 51) .bool [49, 50] (.call 36 [(.tmp 49), (.tmp 50)]) <|
 .op (some 8) .any [51] (.mov (.tmp 51)) <|
 .nil))
 (.seq (.ops (.op (some 52) .any [5] (.iaddrA 5 1 (.tmp 5) (.con (V.int .i64 (Int.ofNat 3)))) <|
 .op (some 53) .bool [52] (.load none (.tmp 52)) <|
 .op (some 54) .any [53] (.mov (.tmp 53)) <|
 .grp 54 false (.op (some 55) .any [8, 54] (.mov (.tmp 8)) <|
 .op (some 56) .any [55, 54] (.un .not (.tmp 55)) <|
 .nil) 57 [54, 56] (.tmp 54) (.con (V.bool true)) (.tmp 56) <|
 .op (some 58) .any [5] (.iaddrA 5 1 (.tmp 5) (.con (V.int .i64 (Int.ofNat 3)))) <|
 .op none .any [58, 57] (.store 1 (.tmp 58) (.tmp 57)) <|
 .nil))
 (.ops (.op (some 59) .any [5] (.iaddrA 5 1 (.tmp 5) (.con (V.int .i64 (Int.ofNat 4)))) <|
 .op (some 60) .bool [59] (.load none (.tmp 59)) <|
 .op (some 61) .any [60] (.mov (.tmp 60)) <|
 .grp 61 false (.op (some 62) .any [8, 61] (.mov (.tmp 8)) <|
 .op (some 63) .any [62, 61] (.mov (.tmp 62)) <|
 .grp 63 true (.op (some 64) .any [2, 63] (.faddr0 65 (.tmp 2)) <|
 .op (some 65) (.agg []) [64, 63] (.load0 (.tmp 64)) <|
 .op (some 66) (.agg [.str, .any]) [7, 63] (.load (some 2) (.tmp 7)) <|
 .op (some 67) .bool [65, 66, 63] (.call 37 [(.tmp 65), (.tmp 66)]) <|
 .op (some 68) .any [67, 63] (.un .not (.tmp 67)) <|
 .op (some 69) .any [68, 63] (.mov (.tmp 68)) <|
 .grp 69 false (.op (some 70) .any [2, 69] (.faddr0 65 (.tmp 2)) <|
 .op (some 71) (.agg []) [70, 69] (.load0 (.tmp 70)) <|
 .op (some 72) (.agg [.str, .any]) [7, 69] (.load (some 2) (.tmp 7)) <|
 .op (some 73) .bool [71, 72, 69] (.call 38 [(.tmp 71), (.tmp 72)]) <|
 .op (some 74) .any [73, 69] (.un .not (.tmp 73)) <|
 .nil) 75 [69, 74, 63] (.tmp 69) (.con (V.bool true)) (.tmp 74) <|
 .nil) 76 [63, 75, 61] (.tmp 63) (.tmp 75) (.con (V.bool false)) <|
 .nil) 77 [61, 76] (.tmp 61) (.con (V.bool true)) (.tmp 76) <|
 .op (some 78) .any [5] (.iaddrA 5 1 (.tmp 5) (.con (V.int .i64 (Int.ofNat 4)))) <|
 .op none .any [78, 77] (.store 1 (.tmp 78) (.tmp 77)) <|
 .nil))))))))
 (.ops (.op (some 79) .any [15] (.bin .add .none (.tmp 15) (.con (V.int .i64 (Int.ofNat 1)))) <|
 .op (some 15) .any [79] (.mov (.tmp 79)) <|
 .nil)))))
def T24_2 (E : List (Nat × Blk)) (D : Den) (W : DrawFn) (K1 : Nat → Nat → Bool → Bool → Bool → Bool → Bool → H → Ans) (R2 : V → Nat → Nat → Nat → Nat → V → Int → Int → Bool → Bool → Bool → Bool → Bool → H → Ans) (v1 : V) (v2b : Nat) (v2o : Nat) (v5b : Nat) (v5o : Nat) (v13 : V) (v14 : Int) (v15 : Int) (r4_0 : Bool) (r4_1 : Bool) (r4_2 : Bool) (r4_3 : Bool) (r4_4 : Bool) (σ : H) : Ans :=
 condK (ltF v15 v14) (
 iaddrSK 2 v13 v15 fun b1 o2 =>
 ldnK E σ b1 o2 2 fun l3 =>
 rtCons l3 fun x4 l5 =>
 rtStr x4 fun x6 =>
 rtCons l5 fun x7 l8 =>
 rtNil l8 (
 chk (allOne [(V.str x6), x7]) (
 ldK E σ v5b (Nat.add v5o (Nat.mul 1 1)) fun u10 =>
 rtBool u10 fun x11 =>
 joinB (fun c12 s13 =>
 stK 1 v5b (Nat.add v5o (Nat.mul 1 1)) (V.bool c12) s13 fun s16 =>
 ldK E s16 v5b (Nat.add v5o (Nat.mul 2 1)) fun u18 =>
 rtBool u18 fun x19 =>
 joinB (fun c20 s21 =>
 stK 1 v5b (Nat.add v5o (Nat.mul 2 1)) (V.bool c20) s21 fun s24 =>
 gK (faddr0V 65 (V.ptr v2b v2o) s24) fun u25 =>
 rtPtr u25 fun b26 o27 =>
 callK (D 36 [(V.agg []), (V.agg [(V.str x6), x7])] s24) fun u28 s29 =>
 rtBool u28 fun x30 =>
 ldK E s29 v5b (Nat.add v5o (Nat.mul 3 1)) fun u32 =>
 rtBool u32 fun x33 =>
 joinB (fun c34 s35 =>
 stK 1 v5b (Nat.add v5o (Nat.mul 3 1)) (V.bool c34) s35 fun s38 =>
 ldK E s38 v5b (Nat.add v5o (Nat.mul 4 1)) fun u40 =>
 rtBool u40 fun x41 =>
 joinB (fun c42 s43 =>
 stK 1 v5b (Nat.add v5o (Nat.mul 4 1)) (V.bool c42) s43 fun s46 =>
 R2 v1 v2b v2o v5b v5o v13 v14 (addF .i64 v15 (Int.ofNat 1)) r4_0 r4_1 r4_2 r4_3 r4_4 s46) fun k44 =>
 condK x41 (
 k44 true s38) (
 joinB (fun c47 s48 =>
 k44 c47 s48) fun k49 =>
 condK x30 (
 gK (faddr0V 65 (V.ptr v2b v2o) s38) fun u50 =>
 rtPtr u50 fun b51 o52 =>
 callK (D 37 [(V.agg []), (V.agg [(V.str x6), x7])] s38) fun u53 s54 =>
 rtBool u53 fun x55 =>
 joinB (fun c56 s57 =>
 k49 c56 s57) fun k58 =>
 condK (not x55) (
 k58 true s54) (
 gK (faddr0V 65 (V.ptr v2b v2o) s54) fun u59 =>
 rtPtr u59 fun b60 o61 =>
 callK (D 38 [(V.agg []), (V.agg [(V.str x6), x7])] s54) fun u62 s63 =>
 rtBool u62 fun x64 =>
 k58 (not x64) s63)) (
 k49 false s38))) fun k36 =>
 condK x33 (
 k36 true s29) (
 k36 (not x30) s29)) fun k22 =>
 condK x19 (
 k22 true s16) (
 gK (faddr0V 65 (V.ptr v2b v2o) s16) fun u65 =>
 rtPtr u65 fun b66 o67 =>
 callK (D 35 [(V.agg []), (V.agg [(V.str x6), x7])] s16) fun u68 s69 =>
 rtBool u68 fun x70 =>
 k22 (not x70) s69)) fun k14 =>
 condK x11 (
 k14 true σ) (
 joinB (fun c71 s72 =>
 k14 c71 s72) fun k73 =>
 condK (ltF (Int.ofNat 0) v15) (
 iaddrSK 2 v1 (subF .i64 v15 (Int.ofNat 1)) fun b74 o75 =>
 ldK E σ b74 o75 fun u76 =>
 rtStr u76 fun x77 =>
 k73 (ltS x6 x77 || BS.beq x6 x77) σ) (
 k73 false σ))))) (
 K1 v5b v5o r4_0 r4_1 r4_2 r4_3 r4_4 σ)
theorem P24_0 (E : List (Nat × Blk)) (D : Den) (W : DrawFn) (N : Nat) (cc1 : XC) (cc2 : XC) (v1 : V) (σ : H) :
  denC E D W N (C24_0 cc1 cc2) ⟨[(0, (V.agg [])), (1, v1)], [], [], σ⟩ (Fin24 E) (fun _ _ => none) (Fin24 E) =
  T24_0 E D W (fun v1 v2b v2o v5b v5o v13 v14 v15 r4_0 r4_1 r4_2 r4_3 r4_4 σ => iterK (fun rec s' => denC E D W N cc2 s' (fun s'' => keepS [(1, .any), (2, .ptr), (5, .ptr), (13, .any), (14, (.int .i64)), (15, (.int .i64))] [4] [(4, [.bool, .bool, .bool, .bool, .bool])] s'' rec) (blkK 0 (fun s' => denC E D W N (.keep [(5, .ptr)] [4] [(4, [.bool, .bool, .bool, .bool, .bool])] cc1) s' (Fin24 E) (fun _ _ => none) (Fin24 E)) (fun _ _ => none)) (Fin24 E)) N ⟨[(1, v1), (2, (V.ptr v2b v2o)), (5, (V.ptr v5b v5o)), (13, v13), (14, (V.int .i64 v14)), (15, (V.int .i64 v15))], [(4, (4, 0))], [(4, [(V.bool r4_0), (V.bool r4_1), (V.bool r4_2), (V.bool r4_3), (V.bool r4_4)])], σ⟩) v1 σ := by kernel_rfl
theorem P24_1 (E : List (Nat × Blk)) (D : Den) (W : DrawFn) (N : Nat) (v5b : Nat) (v5o : Nat) (r4_0 : Bool) (r4_1 : Bool) (r4_2 : Bool) (r4_3 : Bool) (r4_4 : Bool) (σ : H) :
  denC E D W N (C24_1 ) ⟨[(5, (V.ptr v5b v5o))], [(4, (4, 0))], [(4, [(V.bool r4_0), (V.bool r4_1), (V.bool r4_2), (V.bool r4_3), (V.bool r4_4)])], σ⟩ (Fin24 E) (fun _ _ => none) (Fin24 E) =
  T24_1 E D W  v5b v5o r4_0 r4_1 r4_2 r4_3 r4_4 σ := by kernel_rfl
theorem P24_2 (E : List (Nat × Blk)) (D : Den) (W : DrawFn) (N : Nat) (cc1 : XC) (li2 : St → Ans) (v1 : V) (v2b : Nat) (v2o : Nat) (v5b : Nat) (v5o : Nat) (v13 : V) (v14 : Int) (v15 : Int) (r4_0 : Bool) (r4_1 : Bool) (r4_2 : Bool) (r4_3 : Bool) (r4_4 : Bool) (σ : H) :
  denC E D W N (C24_2 ) ⟨[(1, v1), (2, (V.ptr v2b v2o)), (5, (V.ptr v5b v5o)), (13, v13), (14, (V.int .i64 v14)), (15, (V.int .i64 v15))], [(4, (4, 0))], [(4, [(V.bool r4_0), (V.bool r4_1), (V.bool r4_2), (V.bool r4_3), (V.bool r4_4)])], σ⟩ (fun s'' => keepS [(1, .any), (2, .ptr), (5, .ptr), (13, .any), (14, (.int .i64)), (15, (.int .i64))] [4] [(4, [.bool, .bool, .bool, .bool, .bool])] s'' li2) (blkK 0 (fun s' => denC E D W N (.keep [(5, .ptr)] [4] [(4, [.bool, .bool, .bool, .bool, .bool])] cc1) s' (Fin24 E) (fun _ _ => none) (Fin24 E)) (fun _ _ => none)) (Fin24 E) =
  T24_2 E D W (fun v5b v5o r4_0 r4_1 r4_2 r4_3 r4_4 σ => denC E D W N cc1 ⟨[(5, (V.ptr v5b v5o))], [(4, (4, 0))], [(4, [(V.bool r4_0), (V.bool r4_1), (V.bool r4_2), (V.bool r4_3), (V.bool r4_4)])], σ⟩ (Fin24 E) (fun _ _ => none) (Fin24 E)) (fun v1 v2b v2o v5b v5o v13 v14 v15 r4_0 r4_1 r4_2 r4_3 r4_4 σ => li2 ⟨[(1, v1), (2, (V.ptr v2b v2o)), (5, (V.ptr v5b v5o)), (13, v13), (14, (V.int .i64 v14)), (15, (V.int .i64 v15))], [(4, (4, 0))], [(4, [(V.bool r4_0), (V.bool r4_1), (V.bool r4_2), (V.bool r4_3), (V.bool r4_4)])], σ⟩) v1 v2b v2o v5b v5o v13 v14 v15 r4_0 r4_1 r4_2 r4_3 r4_4 σ := by kernel_rfl
def J24_1 (E : List (Nat × Blk)) (D : Den) (W : DrawFn) (N : Nat) : Nat → Nat → Bool → Bool → Bool → Bool → Bool → H → Ans := T24_1 E D W 
theorem JE24_1 (E : List (Nat × Blk)) (D : Den) (W : DrawFn) (N : Nat) (v5b : Nat) (v5o : Nat) (r4_0 : Bool) (r4_1 : Bool) (r4_2 : Bool) (r4_3 : Bool) (r4_4 : Bool) (σ : H) :
  denC E D W N C24_1 ⟨[(5, (V.ptr v5b v5o))], [(4, (4, 0))], [(4, [(V.bool r4_0), (V.bool r4_1), (V.bool r4_2), (V.bool r4_3), (V.bool r4_4)])], σ⟩ (Fin24 E) (fun _ _ => none) (Fin24 E) = J24_1 E D W N v5b v5o r4_0 r4_1 r4_2 r4_3 r4_4 σ := by
  refine (P24_1 E D W N   v5b v5o r4_0 r4_1 r4_2 r4_3 r4_4 σ).trans ?_
  kernel_rfl
def L24_2 (E : List (Nat × Blk)) (D : Den) (W : DrawFn) (N : Nat) (n : Nat) : V → Nat → Nat → Nat → Nat → V → Int → Int → Bool → Bool → Bool → Bool → Bool → H → Ans :=
  Nat.rec (fun _ _ _ _ _ _ _ _ _ _ _ _ _ _ => none) (fun _ ih => T24_2 E D W (J24_1 E D W N ) ih) n
theorem LE24_2 (E : List (Nat × Blk)) (D : Den) (W : DrawFn) (N : Nat) (n : Nat) : ∀ (v1 : V) (v2b : Nat) (v2o : Nat) (v5b : Nat) (v5o : Nat) (v13 : V) (v14 : Int) (v15 : Int) (r4_0 : Bool) (r4_1 : Bool) (r4_2 : Bool) (r4_3 : Bool) (r4_4 : Bool) (σ : H),
  iterK (fun rec s' => denC E D W N C24_2 s' (fun s'' => keepS [(1, .any), (2, .ptr), (5, .ptr), (13, .any), (14, (.int .i64)), (15, (.int .i64))] [4] [(4, [.bool, .bool, .bool, .bool, .bool])] s'' rec) (blkK 0 (fun s' => denC E D W N (.keep [(5, .ptr)] [4] [(4, [.bool, .bool, .bool, .bool, .bool])] C24_1) s' (Fin24 E) (fun _ _ => none) (Fin24 E)) (fun _ _ => none)) (Fin24 E)) n ⟨[(1, v1), (2, (V.ptr v2b v2o)), (5, (V.ptr v5b v5o)), (13, v13), (14, (V.int .i64 v14)), (15, (V.int .i64 v15))], [(4, (4, 0))], [(4, [(V.bool r4_0), (V.bool r4_1), (V.bool r4_2), (V.bool r4_3), (V.bool r4_4)])], σ⟩ = L24_2 E D W N n v1 v2b v2o v5b v5o v13 v14 v15 r4_0 r4_1 r4_2 r4_3 r4_4 σ := by
  induction n with
  | zero => intro v1 v2b v2o v5b v5o v13 v14 v15 r4_0 r4_1 r4_2 r4_3 r4_4 σ; rfl
  | succ n ihn =>
    intro v1 v2b v2o v5b v5o v13 v14 v15 r4_0 r4_1 r4_2 r4_3 r4_4 σ
    rw [iterK_succ]
    refine (P24_2 E D W N C24_1 (iterK (fun rec s' => denC E D W N C24_2 s' (fun s'' => keepS [(1, .any), (2, .ptr), (5, .ptr), (13, .any), (14, (.int .i64)), (15, (.int .i64))] [4] [(4, [.bool, .bool, .bool, .bool, .bool])] s'' rec) (blkK 0 (fun s' => denC E D W N (.keep [(5, .ptr)] [4] [(4, [.bool, .bool, .bool, .bool, .bool])] C24_1) s' (Fin24 E) (fun _ _ => none) (Fin24 E)) (fun _ _ => none)) (Fin24 E)) n) v1 v2b v2o v5b v5o v13 v14 v15 r4_0 r4_1 r4_2 r4_3 r4_4 σ).trans ?_
    simp only [ihn, JE24_1]
    kernel_rfl
def J24_0 (E : List (Nat × Blk)) (D : Den) (W : DrawFn) (N : Nat) : V → H → Ans := T24_0 E D W (L24_2 E D W N N)
theorem JE24_0 (E : List (Nat × Blk)) (D : Den) (W : DrawFn) (N : Nat) (v1 : V) (σ : H) :
  denC E D W N (C24_0 C24_1 C24_2) ⟨[(0, (V.agg [])), (1, v1)], [], [], σ⟩ (Fin24 E) (fun _ _ => none) (Fin24 E) = J24_0 E D W N v1 σ := by
  refine (P24_0 E D W N C24_1 C24_2  v1 σ).trans ?_
  simp only [LE24_2]
  kernel_rfl
def F24 (E : List (Nat × Blk)) (D : Den) (W : DrawFn) (N : Nat) (args : List V) (σ : H) : Ans :=
 rtCons args fun x1 l2 =>
 rtAgg x1 fun l3 =>
 rtNil l3 (
 rtCons l2 fun x4 l5 =>
 rtNil l5 (
 J24_0 E D W N x4 σ))
def A24 : XFn := ⟨81, [(.agg []), .any], [(.cell 4 (some 5))], (C24_0 C24_1 C24_2)⟩
theorem FE24 (E : List (Nat × Blk)) (D : Den) (W : DrawFn) (N : Nat) (args : List V) (σ : H) : runX E D W N A24 args σ = F24 E D W N args σ := by
  unfold F24
  simp only [← JE24_0]
  kernel_rfl
theorem AO24 : A24.body.ok = true := by kernel_rfl

/-! ### F35: _ogham_audit.numbers_.right -/
def Fin35 (E : List (Nat × Blk)) : St → Ans := fun s => resK E s [(.tmp 4)] fun l => some (oneV l, s.σ)
def C35_0 (cc1 : XC) (cc2 : XC) : XC := (.seq (.ops (.op (some 2) .any [0] (.box0 62 (.tmp 0)) <|
 .op (some 3) .any [1] (.box 29 (.tmp 1)) <|
 .op (some 4) .any [] (.mov (.con (V.bool false))) <|
 .nil))
 (.seq (.seq (.ops (.op (some 7) .any [3] (.faddr 1 (.tmp 3)) <|
 .op (some 8) .any [7] (.load none (.tmp 7)) <|
 .op (some 9) .any [8] (.len false (.tmp 8)) <|
 .op (some 10) .any [] (.mov (.con (V.int .i64 (Int.ofNat 0)))) <|
 .nil))
 (.block 0 (.loop [(3, .ptr), (8, .any), (9, (.int .i64)), (10, (.int .i64))] [] [] cc2)))
 (.keep [(3, .ptr)] [] [] cc1)))
def T35_0 (E : List (Nat × Blk)) (D : Den) (W : DrawFn) (K2 : Nat → Nat → V → Int → Int → H → Ans) (v1_0 : BS) (v1_1 : V) (σ : H) : Ans :=
 let s1 := newB σ (.unit 62);
 chk (allOne (V.cells (V.agg [(V.str v1_0), v1_1]))) (
 let s2 := newB s1 (.cells (V.cells (V.agg [(V.str v1_0), v1_1])));
 ldK E s2 (H.next s1) 1 fun u3 =>
 slenK u3 fun n4 =>
 K2 (H.next s1) 0 u3 (Int.ofNat n4) (Int.ofNat 0) s2)
def C35_1 : XC := (.seq (.ops (.op (some 21) .any [3] (.faddr 1 (.tmp 3)) <|
 .op (some 22) .any [21] (.load none (.tmp 21)) <|
 .op (some 23) .any [22] (.len false (.tmp 22)) <|
 .op (some 24) .any [23] (.bin .gtr .none (.tmp 23) (.con (V.int .i64 (Int.ofNat 0)))) <|
 .op (some 25) .any [24] (.mov (.tmp 24)) <|
 .grp 25 true (.op (some 26) .any [3, 25] (.faddr 1 (.tmp 3)) <|
 .op (some 27) .any [26, 25] (.load none (.tmp 26)) <|
 .op (some 28) .any [27, 25] (.len false (.tmp 27)) <|
 .op (some 29) .any [28, 25] (.bin .leq .none (.tmp 28) (.con (V.int .i64 (Int.ofNat 8)))) <|
 .nil) 30 [25, 29] (.tmp 25) (.tmp 29) (.con (V.bool false)) <|
 .op (some 4) .any [30] (.mov (.tmp 30)) <|
 .nil))
 .ret)
def T35_1 (E : List (Nat × Blk)) (D : Den) (W : DrawFn) (v3b : Nat) (v3o : Nat) (σ : H) : Ans :=
 ldK E σ v3b (Nat.add v3o 1) fun u1 =>
 slenK u1 fun n2 =>
 joinB (fun c3 s4 =>
 some ((V.bool c3), s4)) fun k5 =>
 condK (ltF (Int.ofNat 0) (Int.ofNat n2)) (
 ldK E σ v3b (Nat.add v3o 1) fun u6 =>
 slenK u6 fun n7 =>
 k5 (leF (Int.ofNat n7) (Int.ofNat 8)) σ) (
 k5 false σ)
def C35_2 : XC := (.seq (.ops (.op (some 11) .any [10, 9] (.bin .lss .none (.tmp 10) (.tmp 9)) <|
 .nil))
 (.seq (.cond (.tmp 11) .skip
 (.exit 0))
 (.seq (.block 1 (.seq (.ops (.op (some 12) .any [10] (.mov (.tmp 10)) <|
 .op (some 13) .any [8, 10] (.iaddrS 2 (.tmp 8) (.tmp 10)) <|
 .op (some 14) (.agg [(.int .i64), .str]) [13] (.load (some 2) (.tmp 13)) <|
 .pal 6 [] 31 [(V.int .i64 (Int.ofNat 0)), (V.str ⟨0, 0⟩)] <|
 .op (some 5) .any [12] (.mov (.tmp 12)) <|
 .op none (.agg [(.int .i64), .str]) [6, 14] (.store 2 (.tmp 6) (.tmp 14)) <|
 .nil))
 (.seq (.ops (.op (some 15) .any [6] (.faddr 0 (.tmp 6)) <|
 .op (some 16) (.int .i64) [15] (.load none (.tmp 15)) <|
 .op (some 17) .any [5] (.mov (.tmp 5)) <|
 .op (some 18) .any [17] (.bin .add .none (.tmp 17) (.con (V.int .i64 (Int.ofNat 1)))) <|
 .op (some 19) .any [16, 18] (.bin .neq .none (.tmp 16) (.tmp 18)) <|
 .nil))
 (.cond (.tmp 19) (.seq (.ops (.op (some 4) .any [] (.mov (.con (V.bool false))) <|
 .nil))
 .ret)
 .skip))))
 (.ops (.op (some 20) .any [10] (.bin .add .none (.tmp 10) (.con (V.int .i64 (Int.ofNat 1)))) <|
 .op (some 10) .any [20] (.mov (.tmp 20)) <|
 .nil)))))
def T35_2 (E : List (Nat × Blk)) (D : Den) (W : DrawFn) (K1 : Nat → Nat → H → Ans) (R2 : Nat → Nat → V → Int → Int → H → Ans) (v3b : Nat) (v3o : Nat) (v8 : V) (v9 : Int) (v10 : Int) (σ : H) : Ans :=
 condK (ltF v10 v9) (
 iaddrSK 2 v8 v10 fun b1 o2 =>
 ldnK E σ b1 o2 2 fun l3 =>
 rtCons l3 fun x4 l5 =>
 rtInt .i64 x4 fun x6 =>
 rtCons l5 fun x7 l8 =>
 rtStr x7 fun x9 =>
 rtNil l8 (
 condK (not (eqF x6 (addF .i64 v10 (Int.ofNat 1)))) (
 some ((V.bool false), σ)) (
 R2 v3b v3o v8 v9 (addF .i64 v10 (Int.ofNat 1)) σ))) (
 K1 v3b v3o σ)
theorem P35_0 (E : List (Nat × Blk)) (D : Den) (W : DrawFn) (N : Nat) (cc1 : XC) (cc2 : XC) (v1_0 : BS) (v1_1 : V) (σ : H) :
  denC E D W N (C35_0 cc1 cc2) ⟨[(0, (V.agg [])), (1, (V.agg [(V.str v1_0), v1_1]))], [], [], σ⟩ (Fin35 E) (fun _ _ => none) (Fin35 E) =
  T35_0 E D W (fun v3b v3o v8 v9 v10 σ => iterK (fun rec s' => denC E D W N cc2 s' (fun s'' => keepS [(3, .ptr), (8, .any), (9, (.int .i64)), (10, (.int .i64))] [] [] s'' rec) (blkK 0 (fun s' => denC E D W N (.keep [(3, .ptr)] [] [] cc1) s' (Fin35 E) (fun _ _ => none) (Fin35 E)) (fun _ _ => none)) (Fin35 E)) N ⟨[(3, (V.ptr v3b v3o)), (8, v8), (9, (V.int .i64 v9)), (10, (V.int .i64 v10))], [], [], σ⟩) v1_0 v1_1 σ := by kernel_rfl
theorem P35_1 (E : List (Nat × Blk)) (D : Den) (W : DrawFn) (N : Nat) (v3b : Nat) (v3o : Nat) (σ : H) :
  denC E D W N (C35_1 ) ⟨[(3, (V.ptr v3b v3o))], [], [], σ⟩ (Fin35 E) (fun _ _ => none) (Fin35 E) =
  T35_1 E D W  v3b v3o σ := by kernel_rfl
theorem P35_2 (E : List (Nat × Blk)) (D : Den) (W : DrawFn) (N : Nat) (cc1 : XC) (li2 : St → Ans) (v3b : Nat) (v3o : Nat) (v8 : V) (v9 : Int) (v10 : Int) (σ : H) :
  denC E D W N (C35_2 ) ⟨[(3, (V.ptr v3b v3o)), (8, v8), (9, (V.int .i64 v9)), (10, (V.int .i64 v10))], [], [], σ⟩ (fun s'' => keepS [(3, .ptr), (8, .any), (9, (.int .i64)), (10, (.int .i64))] [] [] s'' li2) (blkK 0 (fun s' => denC E D W N (.keep [(3, .ptr)] [] [] cc1) s' (Fin35 E) (fun _ _ => none) (Fin35 E)) (fun _ _ => none)) (Fin35 E) =
  T35_2 E D W (fun v3b v3o σ => denC E D W N cc1 ⟨[(3, (V.ptr v3b v3o))], [], [], σ⟩ (Fin35 E) (fun _ _ => none) (Fin35 E)) (fun v3b v3o v8 v9 v10 σ => li2 ⟨[(3, (V.ptr v3b v3o)), (8, v8), (9, (V.int .i64 v9)), (10, (V.int .i64 v10))], [], [], σ⟩) v3b v3o v8 v9 v10 σ := by kernel_rfl
def J35_1 (E : List (Nat × Blk)) (D : Den) (W : DrawFn) (N : Nat) : Nat → Nat → H → Ans := T35_1 E D W 
theorem JE35_1 (E : List (Nat × Blk)) (D : Den) (W : DrawFn) (N : Nat) (v3b : Nat) (v3o : Nat) (σ : H) :
  denC E D W N C35_1 ⟨[(3, (V.ptr v3b v3o))], [], [], σ⟩ (Fin35 E) (fun _ _ => none) (Fin35 E) = J35_1 E D W N v3b v3o σ := by
  refine (P35_1 E D W N   v3b v3o σ).trans ?_
  kernel_rfl
def L35_2 (E : List (Nat × Blk)) (D : Den) (W : DrawFn) (N : Nat) (n : Nat) : Nat → Nat → V → Int → Int → H → Ans :=
  Nat.rec (fun _ _ _ _ _ _ => none) (fun _ ih => T35_2 E D W (J35_1 E D W N ) ih) n
theorem LE35_2 (E : List (Nat × Blk)) (D : Den) (W : DrawFn) (N : Nat) (n : Nat) : ∀ (v3b : Nat) (v3o : Nat) (v8 : V) (v9 : Int) (v10 : Int) (σ : H),
  iterK (fun rec s' => denC E D W N C35_2 s' (fun s'' => keepS [(3, .ptr), (8, .any), (9, (.int .i64)), (10, (.int .i64))] [] [] s'' rec) (blkK 0 (fun s' => denC E D W N (.keep [(3, .ptr)] [] [] C35_1) s' (Fin35 E) (fun _ _ => none) (Fin35 E)) (fun _ _ => none)) (Fin35 E)) n ⟨[(3, (V.ptr v3b v3o)), (8, v8), (9, (V.int .i64 v9)), (10, (V.int .i64 v10))], [], [], σ⟩ = L35_2 E D W N n v3b v3o v8 v9 v10 σ := by
  induction n with
  | zero => intro v3b v3o v8 v9 v10 σ; rfl
  | succ n ihn =>
    intro v3b v3o v8 v9 v10 σ
    rw [iterK_succ]
    refine (P35_2 E D W N C35_1 (iterK (fun rec s' => denC E D W N C35_2 s' (fun s'' => keepS [(3, .ptr), (8, .any), (9, (.int .i64)), (10, (.int .i64))] [] [] s'' rec) (blkK 0 (fun s' => denC E D W N (.keep [(3, .ptr)] [] [] C35_1) s' (Fin35 E) (fun _ _ => none) (Fin35 E)) (fun _ _ => none)) (Fin35 E)) n) v3b v3o v8 v9 v10 σ).trans ?_
    simp only [ihn, JE35_1]
    kernel_rfl
def J35_0 (E : List (Nat × Blk)) (D : Den) (W : DrawFn) (N : Nat) : BS → V → H → Ans := T35_0 E D W (L35_2 E D W N N)
theorem JE35_0 (E : List (Nat × Blk)) (D : Den) (W : DrawFn) (N : Nat) (v1_0 : BS) (v1_1 : V) (σ : H) :
  denC E D W N (C35_0 C35_1 C35_2) ⟨[(0, (V.agg [])), (1, (V.agg [(V.str v1_0), v1_1]))], [], [], σ⟩ (Fin35 E) (fun _ _ => none) (Fin35 E) = J35_0 E D W N v1_0 v1_1 σ := by
  refine (P35_0 E D W N C35_1 C35_2  v1_0 v1_1 σ).trans ?_
  simp only [LE35_2]
  kernel_rfl
def F35 (E : List (Nat × Blk)) (D : Den) (W : DrawFn) (N : Nat) (args : List V) (σ : H) : Ans :=
 rtCons args fun x1 l2 =>
 rtAgg x1 fun l3 =>
 rtNil l3 (
 rtCons l2 fun x4 l5 =>
 rtAgg x4 fun l6 =>
 rtCons l6 fun x7 l8 =>
 rtStr x7 fun x9 =>
 rtCons l8 fun x10 l11 =>
 rtNil l11 (
 rtNil l5 (
 J35_0 E D W N x9 x10 σ)))
def A35 : XFn := ⟨31, [(.agg []), (.agg [.str, .any])], [(.tmp 4)], (C35_0 C35_1 C35_2)⟩
theorem FE35 (E : List (Nat × Blk)) (D : Den) (W : DrawFn) (N : Nat) (args : List V) (σ : H) : runX E D W N A35 args σ = F35 E D W N args σ := by
  unfold F35
  simp only [← JE35_0]
  kernel_rfl
theorem AO35 : A35.body.ok = true := by kernel_rfl

def C36_0 : XC := (.seq (.ops (.op (some 2) .any [0] (.box0 63 (.tmp 0)) <|
 .op (some 3) .any [1] (.box 29 (.tmp 1)) <|
 .op (some 4) .any [] (.mov (.con (V.bool false))) <|
 .nil))
 (.seq (.ops (.op (some 8) (.agg [.str, .any]) [3] (.load (some 2) (.tmp 3)) <|
 .op (some 9) (.tup [.any, .bool]) [8] (.call 61 [(.tmp 8)]) <|
 .op (some 7) .any [9] (.mov (.tmp 9)) <|
 .op (some 10) .any [7] (.extract 0 (.tmp 7)) <|
 .op (some 11) .any [7] (.extract 1 (.tmp 7)) <|
 .op (some 5) .any [10] (.mov (.tmp 10)) <|
 .op (some 6) .any [11] (.mov (.tmp 11)) <|
 .nil))
 (.seq (.ops (.op (some 12) .any [6] (.mov (.tmp 6)) <|
 .op (some 13) .any [12] (.mov (.tmp 12)) <|
 .grp 13 true (.op (some 14) .any [3, 13] (.faddr 1 (.tmp 3)) <|
 .op (some 15) .any [14, 13] (.load none (.tmp 14)) <|
 .op (some 16) .any [3, 13] (.mkfn 63 [] [(.tmp 3)]) <|
 .op (some 17) .bool [15, 16, 13] (.call 62 [(.tmp 15), (.tmp 16)]) <|
 .op (some 18) .any [17, 13] (.un .not (.tmp 17)) <|
 .nil) 19 [13, 18] (.tmp 13) (.tmp 18) (.con (V.bool false)) <|
 .op (some 4) .any [19] (.mov (.tmp 19)) <|
 .nil))
 .ret)))
def A36 : XFn := ⟨20, [(.agg []), (.agg [.str, .any])], [(.tmp 4)], C36_0⟩
/-! ### F37: _ogham_audit.texts_.unlike -/
def Fin37 (E : List (Nat × Blk)) : St → Ans := fun s => resK E s [(.tmp 4)] fun l => some (oneV l, s.σ)
def C37_0 (cc1 : XC) (cc2 : XC) : XC := (.seq (.ops (.op (some 2) .any [0] (.box0 63 (.tmp 0)) <|
 .op (some 3) .any [1] (.box 29 (.tmp 1)) <|
 .op (some 4) .any [] (.mov (.con (V.bool false))) <|
 .nil))
 (.seq (.seq (.ops (.op (some 7) .any [3] (.faddr 1 (.tmp 3)) <|
 .op (some 8) .any [7] (.load none (.tmp 7)) <|
 .op (some 9) .any [8] (.len false (.tmp 8)) <|
 .op (some 10) .any [] (.mov (.con (V.int .i64 (Int.ofNat 0)))) <|
 .nil))
 (.block 0 (.loop [(3, .ptr), (8, .any), (9, (.int .i64)), (10, (.int .i64))] [] [] cc2)))
 (.keep [] [] [] cc1)))
def T37_0 (E : List (Nat × Blk)) (D : Den) (W : DrawFn) (K2 : Nat → Nat → V → Int → Int → H → Ans) (v1_0 : BS) (v1_1 : V) (σ : H) : Ans :=
 let s1 := newB σ (.unit 63);
 chk (allOne (V.cells (V.agg [(V.str v1_0), v1_1]))) (
 let s2 := newB s1 (.cells (V.cells (V.agg [(V.str v1_0), v1_1])));
 ldK E s2 (H.next s1) 1 fun u3 =>
 slenK u3 fun n4 =>
 K2 (H.next s1) 0 u3 (Int.ofNat n4) (Int.ofNat 0) s2)
def C37_1 : XC := (.seq (.ops (.op (some 4) .any [] (.mov (.con (V.bool true))) <|
 .nil))
 .ret)
def T37_1 (E : List (Nat × Blk)) (D : Den) (W : DrawFn) (σ : H) : Ans :=
 some ((V.bool true), σ)
def C37_2 : XC := (.seq (.ops (.op (some 11) .any [10, 9] (.bin .lss .none (.tmp 10) (.tmp 9)) <|
 .nil))
 (.seq (.cond (.tmp 11) .skip
 (.exit 0))
 (.seq (.block 1 (.seq (.ops (.op (some 12) .any [10] (.mov (.tmp 10)) <|
 .op (some 13) .any [8, 10] (.iaddrS 2 (.tmp 8) (.tmp 10)) <|
 .op (some 14) (.agg [(.int .i64), .str]) [13] (.load (some 2) (.tmp 13)) <|
 .op (some 6) .any [] (.alloc 31 [(V.int .i64 (Int.ofNat 0)), (V.str ⟨0, 0⟩)]) <|
 .op (some 5) .any [12] (.mov (.tmp 12)) <|
 .op none (.agg [(.int .i64), .str]) [6, 14] (.store 2 (.tmp 6) (.tmp 14)) <|
 .nil))
 (.seq (.ops (.op (some 15) .any [3] (.faddr 1 (.tmp 3)) <|
 .op (some 16) .any [15] (.load none (.tmp 15)) <|
 .op (some 17) .any [5] (.mov (.tmp 5)) <|
 .op (some 18) .any [16, 17] (.sliceSl 2 (.tmp 16) none (some (.tmp 17)) none) <|
 .op (some 19) .any [6] (.mkfn 65 [] [(.tmp 6)]) <|
 .op (some 20) .bool [18, 19] (.call 62 [(.tmp 18), (.tmp 19)]) <|
 .nil))
 (.cond (.tmp 20) (.seq (.ops (.op (some 4) .any [] (.mov (.con (V.bool false))) <|
 .nil))
 .ret)
 .skip))))
 (.ops (.op (some 21) .any [10] (.bin .add .none (.tmp 10) (.con (V.int .i64 (Int.ofNat 1)))) <|
 .op (some 10) .any [21] (.mov (.tmp 21)) <|
 .nil)))))
def T37_2 (E : List (Nat × Blk)) (D : Den) (W : DrawFn) (K1 : H → Ans) (R2 : Nat → Nat → V → Int → Int → H → Ans) (v3b : Nat) (v3o : Nat) (v8 : V) (v9 : Int) (v10 : Int) (σ : H) : Ans :=
 condK (ltF v10 v9) (
 iaddrSK 2 v8 v10 fun b1 o2 =>
 ldnK E σ b1 o2 2 fun l3 =>
 rtCons l3 fun x4 l5 =>
 rtInt .i64 x4 fun x6 =>
 rtCons l5 fun x7 l8 =>
 rtStr x7 fun x9 =>
 rtNil l8 (
 let s10 := newB σ (.cells [(V.int .i64 (Int.ofNat 0)), (V.str ⟨0, 0⟩)]);
 stK 2 (H.next σ) 0 (V.agg [(V.int .i64 x6), (V.str x9)]) s10 fun s11 =>
 ldK E s11 v3b (Nat.add v3o 1) fun u12 =>
 gK (sliceV 2 u12 none (some (V.int .i64 v10)) none) fun u13 =>
 callK (D 62 [u13, (V.fn 65 [] [(V.ptr (H.next σ) 0)])] s11) fun u14 s15 =>
 rtBool u14 fun x16 =>
 condK x16 (
 some ((V.bool false), s15)) (
 R2 v3b v3o v8 v9 (addF .i64 v10 (Int.ofNat 1)) s15))) (
 K1 σ)
theorem P37_0 (E : List (Nat × Blk)) (D : Den) (W : DrawFn) (N : Nat) (cc1 : XC) (cc2 : XC) (v1_0 : BS) (v1_1 : V) (σ : H) :
  denC E D W N (C37_0 cc1 cc2) ⟨[(0, (V.agg [])), (1, (V.agg [(V.str v1_0), v1_1]))], [], [], σ⟩ (Fin37 E) (fun _ _ => none) (Fin37 E) =
  T37_0 E D W (fun v3b v3o v8 v9 v10 σ => iterK (fun rec s' => denC E D W N cc2 s' (fun s'' => keepS [(3, .ptr), (8, .any), (9, (.int .i64)), (10, (.int .i64))] [] [] s'' rec) (blkK 0 (fun s' => denC E D W N (.keep [] [] [] cc1) s' (Fin37 E) (fun _ _ => none) (Fin37 E)) (fun _ _ => none)) (Fin37 E)) N ⟨[(3, (V.ptr v3b v3o)), (8, v8), (9, (V.int .i64 v9)), (10, (V.int .i64 v10))], [], [], σ⟩) v1_0 v1_1 σ := by kernel_rfl
theorem P37_1 (E : List (Nat × Blk)) (D : Den) (W : DrawFn) (N : Nat) (σ : H) :
  denC E D W N (C37_1 ) ⟨[], [], [], σ⟩ (Fin37 E) (fun _ _ => none) (Fin37 E) =
  T37_1 E D W   σ := by kernel_rfl
theorem P37_2 (E : List (Nat × Blk)) (D : Den) (W : DrawFn) (N : Nat) (cc1 : XC) (li2 : St → Ans) (v3b : Nat) (v3o : Nat) (v8 : V) (v9 : Int) (v10 : Int) (σ : H) :
  denC E D W N (C37_2 ) ⟨[(3, (V.ptr v3b v3o)), (8, v8), (9, (V.int .i64 v9)), (10, (V.int .i64 v10))], [], [], σ⟩ (fun s'' => keepS [(3, .ptr), (8, .any), (9, (.int .i64)), (10, (.int .i64))] [] [] s'' li2) (blkK 0 (fun s' => denC E D W N (.keep [] [] [] cc1) s' (Fin37 E) (fun _ _ => none) (Fin37 E)) (fun _ _ => none)) (Fin37 E) =
  T37_2 E D W (fun  σ => denC E D W N cc1 ⟨[], [], [], σ⟩ (Fin37 E) (fun _ _ => none) (Fin37 E)) (fun v3b v3o v8 v9 v10 σ => li2 ⟨[(3, (V.ptr v3b v3o)), (8, v8), (9, (V.int .i64 v9)), (10, (V.int .i64 v10))], [], [], σ⟩) v3b v3o v8 v9 v10 σ := by kernel_rfl
def J37_1 (E : List (Nat × Blk)) (D : Den) (W : DrawFn) (N : Nat) : H → Ans := T37_1 E D W 
theorem JE37_1 (E : List (Nat × Blk)) (D : Den) (W : DrawFn) (N : Nat) (σ : H) :
  denC E D W N C37_1 ⟨[], [], [], σ⟩ (Fin37 E) (fun _ _ => none) (Fin37 E) = J37_1 E D W N  σ := by
  refine (P37_1 E D W N    σ).trans ?_
  kernel_rfl
def L37_2 (E : List (Nat × Blk)) (D : Den) (W : DrawFn) (N : Nat) (n : Nat) : Nat → Nat → V → Int → Int → H → Ans :=
  Nat.rec (fun _ _ _ _ _ _ => none) (fun _ ih => T37_2 E D W (J37_1 E D W N ) ih) n
theorem LE37_2 (E : List (Nat × Blk)) (D : Den) (W : DrawFn) (N : Nat) (n : Nat) : ∀ (v3b : Nat) (v3o : Nat) (v8 : V) (v9 : Int) (v10 : Int) (σ : H),
  iterK (fun rec s' => denC E D W N C37_2 s' (fun s'' => keepS [(3, .ptr), (8, .any), (9, (.int .i64)), (10, (.int .i64))] [] [] s'' rec) (blkK 0 (fun s' => denC E D W N (.keep [] [] [] C37_1) s' (Fin37 E) (fun _ _ => none) (Fin37 E)) (fun _ _ => none)) (Fin37 E)) n ⟨[(3, (V.ptr v3b v3o)), (8, v8), (9, (V.int .i64 v9)), (10, (V.int .i64 v10))], [], [], σ⟩ = L37_2 E D W N n v3b v3o v8 v9 v10 σ := by
  induction n with
  | zero => intro v3b v3o v8 v9 v10 σ; rfl
  | succ n ihn =>
    intro v3b v3o v8 v9 v10 σ
    rw [iterK_succ]
    refine (P37_2 E D W N C37_1 (iterK (fun rec s' => denC E D W N C37_2 s' (fun s'' => keepS [(3, .ptr), (8, .any), (9, (.int .i64)), (10, (.int .i64))] [] [] s'' rec) (blkK 0 (fun s' => denC E D W N (.keep [] [] [] C37_1) s' (Fin37 E) (fun _ _ => none) (Fin37 E)) (fun _ _ => none)) (Fin37 E)) n) v3b v3o v8 v9 v10 σ).trans ?_
    simp only [ihn, JE37_1]
    kernel_rfl
def J37_0 (E : List (Nat × Blk)) (D : Den) (W : DrawFn) (N : Nat) : BS → V → H → Ans := T37_0 E D W (L37_2 E D W N N)
theorem JE37_0 (E : List (Nat × Blk)) (D : Den) (W : DrawFn) (N : Nat) (v1_0 : BS) (v1_1 : V) (σ : H) :
  denC E D W N (C37_0 C37_1 C37_2) ⟨[(0, (V.agg [])), (1, (V.agg [(V.str v1_0), v1_1]))], [], [], σ⟩ (Fin37 E) (fun _ _ => none) (Fin37 E) = J37_0 E D W N v1_0 v1_1 σ := by
  refine (P37_0 E D W N C37_1 C37_2  v1_0 v1_1 σ).trans ?_
  simp only [LE37_2]
  kernel_rfl
def F37 (E : List (Nat × Blk)) (D : Den) (W : DrawFn) (N : Nat) (args : List V) (σ : H) : Ans :=
 rtCons args fun x1 l2 =>
 rtAgg x1 fun l3 =>
 rtNil l3 (
 rtCons l2 fun x4 l5 =>
 rtAgg x4 fun l6 =>
 rtCons l6 fun x7 l8 =>
 rtStr x7 fun x9 =>
 rtCons l8 fun x10 l11 =>
 rtNil l11 (
 rtNil l5 (
 J37_0 E D W N x9 x10 σ)))
def A37 : XFn := ⟨22, [(.agg []), (.agg [.str, .any])], [(.tmp 4)], (C37_0 C37_1 C37_2)⟩
theorem FE37 (E : List (Nat × Blk)) (D : Den) (W : DrawFn) (N : Nat) (args : List V) (σ : H) : runX E D W N A37 args σ = F37 E D W N args σ := by
  unfold F37
  simp only [← JE37_0]
  kernel_rfl
theorem AO37 : A37.body.ok = true := by kernel_rfl

/-! ### F38: _ogham_audit.texts_.follow -/
def Fin38 (E : List (Nat × Blk)) : St → Ans := fun s => resK E s [(.tmp 4)] fun l => some (oneV l, s.σ)
def C38_0 (cc1 : XC) (cc2 : XC) : XC := (.seq (.ops (.op (some 2) .any [0] (.box0 63 (.tmp 0)) <|
 .op (some 3) .any [1] (.box 29 (.tmp 1)) <|
 .op (some 4) .any [] (.mov (.con (V.bool false))) <|
 .nil))
 (.seq (.ops (.op (some 11) (.agg [.str, .any]) [3] (.load (some 2) (.tmp 3)) <|
 .op (some 12) (.tup [.any, .bool]) [11] (.call 61 [(.tmp 11)]) <|
 .op (some 10) .any [12] (.mov (.tmp 12)) <|
 .op (some 13) .any [10] (.extract 0 (.tmp 10)) <|
 .op (some 14) .any [10] (.extract 1 (.tmp 10)) <|
 .op (some 5) .any [13] (.mov (.tmp 13)) <|
 .op (some 6) .any [14] (.mov (.tmp 14)) <|
 .nil))
 (.seq (.seq (.ops (.op (some 7) .any [] (.mov (.con (V.int .i64 (Int.ofNat 1)))) <|
 .nil))
 (.block 0 (.loop [(5, .any), (7, (.int .i64))] [] [] cc2)))
 (.keep [] [] [] cc1))))
def T38_0 (E : List (Nat × Blk)) (D : Den) (W : DrawFn) (K2 : V → Int → H → Ans) (v1_0 : BS) (v1_1 : V) (σ : H) : Ans :=
 let s1 := newB σ (.unit 63);
 chk (allOne (V.cells (V.agg [(V.str v1_0), v1_1]))) (
 let s2 := newB s1 (.cells (V.cells (V.agg [(V.str v1_0), v1_1])));
 ldnK E s2 (H.next s1) 0 2 fun l3 =>
 rtCons l3 fun x4 l5 =>
 rtStr x4 fun x6 =>
 rtCons l5 fun x7 l8 =>
 rtNil l8 (
 callK (D 61 [(V.agg [(V.str x6), x7])] s2) fun u9 s10 =>
 rtTup u9 fun l11 =>
 rtCons l11 fun x12 l13 =>
 rtCons l13 fun x14 l15 =>
 rtBool x14 fun x16 =>
 rtNil l15 (
 K2 x12 (Int.ofNat 1) s10)))
def C38_1 : XC := (.seq (.ops (.op (some 4) .any [] (.mov (.con (V.bool true))) <|
 .nil))
 .ret)
def T38_1 (E : List (Nat × Blk)) (D : Den) (W : DrawFn) (σ : H) : Ans :=
 some ((V.bool true), σ)
def C38_2 : XC := (.seq (.seq (.ops (.op (some 15) .any [7] (.mov (.tmp 7)) <|
 .op (some 16) .any [5] (.mov (.tmp 5)) <|
 .op (some 17) .any [16] (.len false (.tmp 16)) <|
 .op (some 18) .any [15, 17] (.bin .lss .none (.tmp 15) (.tmp 17)) <|
 .nil))
 (.cond (.tmp 18) .skip
 (.exit 0)))
 (.seq (.block 1 (.seq (.draw (.op (some 22) .any [5] (.mov (.tmp 5)) <|
 .op (some 23) .any [7] (.mov (.tmp 7)) <|
 .op (some 24) .any [23] (.bin .sub .none (.tmp 23) (.con (V.int .i64 (Int.ofNat 1)))) <|
 .op (some 25) .any [22, 24] (.iaddrS 4 (.tmp 22) (.tmp 24)) <|
 .op (some 26) (.agg [.str, .any, .any, .any]) [25] (.load (some 4) (.tmp 25)) <|
 .op (some 27) .any [5] (.mov (.tmp 5)) <|
 .op (some 28) .any [7] (.mov (.tmp 7)) <|
 .op (some 29) .any [27, 28] (.iaddrS 4 (.tmp 27) (.tmp 28)) <|
 .op (some 30) (.agg [.str, .any, .any, .any]) [29] (.load (some 4) (.tmp 29)) <|
 .op (some 31) (.tup [(.int .i64), (.int .i64)]) [26, 30] (.call 44 [(.tmp 26), (.tmp 30)]) <|
 .op (some 21) .any [31] (.mov (.tmp 31)) <|
 .op (some 32) .any [21] (.extract 0 (.tmp 21)) <|
 .op (some 33) .any [21] (.extract 1 (.tmp 21)) <|
 .op (some 8) .any [32] (.mov (.tmp 32)) <|
 .op (some 9) .any [33] (.mov (.tmp 33)) <|
 .nil) [0, 0, 2, 7, 15, 0, 0, 96, 224, 511, 1023, 2047, 2047, 4095, 16383])
 (.seq (.ops (.op (some 34) .any [9] (.mov (.tmp 9)) <|
 .op (some 35) .any [34] (.bin .neq .none (.tmp 34) (.con (V.int .i64 (Int.ofNat 0)))) <|
 .nil))
 (.cond (.tmp 35) (.seq (.ops (.op (some 4) .any [] (.mov (.con (V.bool false))) <|
 .nil))
 .ret)
 .skip))))
 (.ops (.op (some 19) .any [7] (.mov (.tmp 7)) <|
 .op (some 20) .any [19] (.bin .add .none (.tmp 19) (.con (V.int .i64 (Int.ofNat 1)))) <|
 .op (some 7) .any [20] (.mov (.tmp 20)) <|
 .nil))))
def T38_2 (E : List (Nat × Blk)) (D : Den) (W : DrawFn) (K1 : H → Ans) (R2 : V → Int → H → Ans) (v5 : V) (v7 : Int) (σ : H) : Ans :=
 slenK v5 fun n1 =>
 condK (ltF v7 (Int.ofNat n1)) (
 iaddrSK 4 v5 (subF .i64 v7 (Int.ofNat 1)) fun b2 o3 =>
 ldnK E σ b2 o3 4 fun l4 =>
 rtCons l4 fun x5 l6 =>
 rtStr x5 fun x7 =>
 rtCons l6 fun x8 l9 =>
 rtCons l9 fun x10 l11 =>
 rtCons l11 fun x12 l13 =>
 rtNil l13 (
 iaddrSK 4 v5 v7 fun b14 o15 =>
 ldnK E σ b14 o15 4 fun l16 =>
 rtCons l16 fun x17 l18 =>
 rtStr x17 fun x19 =>
 rtCons l18 fun x20 l21 =>
 rtCons l21 fun x22 l23 =>
 rtCons l23 fun x24 l25 =>
 rtNil l25 (
 callK (D 44 [(V.agg [(V.str x7), x8, x10, x12]), (V.agg [(V.str x19), x20, x22, x24])] σ) fun u26 s27 =>
 rtTup u26 fun l28 =>
 rtCons l28 fun x29 l30 =>
 rtInt .i64 x29 fun x31 =>
 rtCons l30 fun x32 l33 =>
 rtInt .i64 x32 fun x34 =>
 rtNil l33 (
 condK (not (eqF x34 (Int.ofNat 0))) (
 some ((V.bool false), s27)) (
 R2 v5 (addF .i64 v7 (Int.ofNat 1)) s27))))) (
 K1 σ)
theorem P38_0 (E : List (Nat × Blk)) (D : Den) (W : DrawFn) (N : Nat) (cc1 : XC) (cc2 : XC) (v1_0 : BS) (v1_1 : V) (σ : H) :
  denC E D W N (C38_0 cc1 cc2) ⟨[(0, (V.agg [])), (1, (V.agg [(V.str v1_0), v1_1]))], [], [], σ⟩ (Fin38 E) (fun _ _ => none) (Fin38 E) =
  T38_0 E D W (fun v5 v7 σ => iterK (fun rec s' => denC E D W N cc2 s' (fun s'' => keepS [(5, .any), (7, (.int .i64))] [] [] s'' rec) (blkK 0 (fun s' => denC E D W N (.keep [] [] [] cc1) s' (Fin38 E) (fun _ _ => none) (Fin38 E)) (fun _ _ => none)) (Fin38 E)) N ⟨[(5, v5), (7, (V.int .i64 v7))], [], [], σ⟩) v1_0 v1_1 σ := by kernel_rfl
theorem P38_1 (E : List (Nat × Blk)) (D : Den) (W : DrawFn) (N : Nat) (σ : H) :
  denC E D W N (C38_1 ) ⟨[], [], [], σ⟩ (Fin38 E) (fun _ _ => none) (Fin38 E) =
  T38_1 E D W   σ := by kernel_rfl
theorem P38_2 (E : List (Nat × Blk)) (D : Den) (W : DrawFn) (N : Nat) (cc1 : XC) (li2 : St → Ans) (v5 : V) (v7 : Int) (σ : H) :
  denC E D W N (C38_2 ) ⟨[(5, v5), (7, (V.int .i64 v7))], [], [], σ⟩ (fun s'' => keepS [(5, .any), (7, (.int .i64))] [] [] s'' li2) (blkK 0 (fun s' => denC E D W N (.keep [] [] [] cc1) s' (Fin38 E) (fun _ _ => none) (Fin38 E)) (fun _ _ => none)) (Fin38 E) =
  T38_2 E D W (fun  σ => denC E D W N cc1 ⟨[], [], [], σ⟩ (Fin38 E) (fun _ _ => none) (Fin38 E)) (fun v5 v7 σ => li2 ⟨[(5, v5), (7, (V.int .i64 v7))], [], [], σ⟩) v5 v7 σ := by kernel_rfl
def J38_1 (E : List (Nat × Blk)) (D : Den) (W : DrawFn) (N : Nat) : H → Ans := T38_1 E D W 
theorem JE38_1 (E : List (Nat × Blk)) (D : Den) (W : DrawFn) (N : Nat) (σ : H) :
  denC E D W N C38_1 ⟨[], [], [], σ⟩ (Fin38 E) (fun _ _ => none) (Fin38 E) = J38_1 E D W N  σ := by
  refine (P38_1 E D W N    σ).trans ?_
  kernel_rfl
def L38_2 (E : List (Nat × Blk)) (D : Den) (W : DrawFn) (N : Nat) (n : Nat) : V → Int → H → Ans :=
  Nat.rec (fun _ _ _ => none) (fun _ ih => T38_2 E D W (J38_1 E D W N ) ih) n
theorem LE38_2 (E : List (Nat × Blk)) (D : Den) (W : DrawFn) (N : Nat) (n : Nat) : ∀ (v5 : V) (v7 : Int) (σ : H),
  iterK (fun rec s' => denC E D W N C38_2 s' (fun s'' => keepS [(5, .any), (7, (.int .i64))] [] [] s'' rec) (blkK 0 (fun s' => denC E D W N (.keep [] [] [] C38_1) s' (Fin38 E) (fun _ _ => none) (Fin38 E)) (fun _ _ => none)) (Fin38 E)) n ⟨[(5, v5), (7, (V.int .i64 v7))], [], [], σ⟩ = L38_2 E D W N n v5 v7 σ := by
  induction n with
  | zero => intro v5 v7 σ; rfl
  | succ n ihn =>
    intro v5 v7 σ
    rw [iterK_succ]
    refine (P38_2 E D W N C38_1 (iterK (fun rec s' => denC E D W N C38_2 s' (fun s'' => keepS [(5, .any), (7, (.int .i64))] [] [] s'' rec) (blkK 0 (fun s' => denC E D W N (.keep [] [] [] C38_1) s' (Fin38 E) (fun _ _ => none) (Fin38 E)) (fun _ _ => none)) (Fin38 E)) n) v5 v7 σ).trans ?_
    simp only [ihn, JE38_1]
    kernel_rfl
def J38_0 (E : List (Nat × Blk)) (D : Den) (W : DrawFn) (N : Nat) : BS → V → H → Ans := T38_0 E D W (L38_2 E D W N N)
theorem JE38_0 (E : List (Nat × Blk)) (D : Den) (W : DrawFn) (N : Nat) (v1_0 : BS) (v1_1 : V) (σ : H) :
  denC E D W N (C38_0 C38_1 C38_2) ⟨[(0, (V.agg [])), (1, (V.agg [(V.str v1_0), v1_1]))], [], [], σ⟩ (Fin38 E) (fun _ _ => none) (Fin38 E) = J38_0 E D W N v1_0 v1_1 σ := by
  refine (P38_0 E D W N C38_1 C38_2  v1_0 v1_1 σ).trans ?_
  simp only [LE38_2]
  kernel_rfl
def F38 (E : List (Nat × Blk)) (D : Den) (W : DrawFn) (N : Nat) (args : List V) (σ : H) : Ans :=
 rtCons args fun x1 l2 =>
 rtAgg x1 fun l3 =>
 rtNil l3 (
 rtCons l2 fun x4 l5 =>
 rtAgg x4 fun l6 =>
 rtCons l6 fun x7 l8 =>
 rtStr x7 fun x9 =>
 rtCons l8 fun x10 l11 =>
 rtNil l11 (
 rtNil l5 (
 J38_0 E D W N x9 x10 σ)))
def A38 : XFn := ⟨36, [(.agg []), (.agg [.str, .any])], [(.tmp 4)], (C38_0 C38_1 C38_2)⟩
theorem FE38 (E : List (Nat × Blk)) (D : Den) (W : DrawFn) (N : Nat) (args : List V) (σ : H) : runX E D W N A38 args σ = F38 E D W N args σ := by
  unfold F38
  simp only [← JE38_0]
  kernel_rfl
theorem AO38 : A38.body.ok = true := by kernel_rfl

def G39_0 : List AOper := [⟨(some 27), .build [(V.str ⟨0, 0⟩), (V.int .i64 (Int.ofNat 0)), V.nils, V.nils, V.nils] [], none⟩, ⟨(some 28), .mov (.tmp 8), none⟩, ⟨(some 29), .nilck (.tmp 28), none⟩, ⟨(some 30), .faddr 7 (.tmp 29), none⟩, ⟨(some 31), .load none (.tmp 30), none⟩, ⟨(some 32), .mov (.tmp 8), none⟩, ⟨(some 33), .nilck (.tmp 32), none⟩, ⟨(some 34), .faddr 8 (.tmp 33), none⟩, ⟨(some 35), .load none (.tmp 34), none⟩, ⟨none, .store 5 (.tmp 2) (.tmp 27), none⟩, ⟨(some 3), .mov (.tmp 31), none⟩, ⟨(some 4), .mov (.tmp 35), none⟩]
def H39_0 : List DP := [⟨0, []⟩, ⟨0, [8]⟩, ⟨2, [28]⟩, ⟨6, [29]⟩, ⟨14, [30]⟩, ⟨0, [8]⟩, ⟨32, [32]⟩, ⟨96, [33]⟩, ⟨224, [34]⟩, ⟨1, [2, 27]⟩, ⟨543, [31]⟩, ⟨2047, [35]⟩]
def C39_0 : XC := (.seq (.ops (.op (some 2) .any [] (.alloc 99 [(V.str ⟨0, 0⟩), (V.int .i64 (Int.ofNat 0)), V.nils, V.nils, V.nils]) <|
 .op (some 3) .any [] (.mov (.con (V.int .i64 (Int.ofNat 0)))) <|
 .op (some 4) .any [] (.mov (.con (V.int .i64 (Int.ofNat 0)))) <|
 .nil))
 (.seq (.ops (.op (some 10) .any [0] (.mov (.tmp 0)) <|
 .op (some 11) (.tup [.any, (.int .i64), (.int .i64)]) [10] (.call 66 [(.tmp 10)]) <|
 .op (some 9) .any [11] (.mov (.tmp 11)) <|
 .op (some 12) .any [9] (.extract 0 (.tmp 9)) <|
 .op (some 13) .any [9] (.extract 1 (.tmp 9)) <|
 .op (some 14) .any [9] (.extract 2 (.tmp 9)) <|
 .op (some 5) .any [12] (.mov (.tmp 12)) <|
 .op (some 6) .any [13] (.mov (.tmp 13)) <|
 .op (some 7) .any [14] (.mov (.tmp 14)) <|
 .nil))
 (.seq (.seq (.ops (.op (some 15) .any [7] (.mov (.tmp 7)) <|
 .op (some 16) .any [15] (.bin .neq .none (.tmp 15) (.con (V.int .i64 (Int.ofNat 0)))) <|
 .nil))
 (.cond (.tmp 16) (.seq (.ops (.op (some 17) (.agg [.str, (.int .i64), .any, .any, .any]) [] (.build [(V.str ⟨0, 0⟩), (V.int .i64 (Int.ofNat 0)), V.nils, V.nils, V.nils] []) <|
 .op (some 18) .any [6] (.mov (.tmp 6)) <|
 .op (some 19) .any [7] (.mov (.tmp 7)) <|
 .op none (.agg [.str, (.int .i64), .any, .any, .any]) [2, 17] (.store 5 (.tmp 2) (.tmp 17)) <|
 .op (some 3) .any [18] (.mov (.tmp 18)) <|
 .op (some 4) .any [19] (.mov (.tmp 19)) <|
 .nil))
 .ret)
 .skip))
 (.seq (.ops (.op (some 20) .any [5] (.mov (.tmp 5)) <|
 .op (some 21) (.agg [.any, (.int .i64)]) [20] (.build [V.nils, (V.int .i64 (Int.ofNat 0))] [(0, 1, (.tmp 20))]) <|
 .op (some 22) (.agg [.any, (.int .i64), .str, (.int .i64), .any, .any, .any, (.int .i64), (.int .i64)]) [21] (.build [V.nils, (V.int .i64 (Int.ofNat 0)), (V.str ⟨0, 0⟩), (V.int .i64 (Int.ofNat 0)), V.nils, V.nils, V.nils, (V.int .i64 (Int.ofNat 0)), (V.int .i64 (Int.ofNat 0))] [(0, 2, (.tmp 21))]) <|
 .op (some 23) .any [22] (.box 148 (.tmp 22)) <|
 .op (some 8) .any [23] (.mov (.tmp 23)) <|
 .nil))
 (.seq (.seq (.ops (.op (some 24) .any [8] (.mov (.tmp 8)) <|
 .op (some 25) .bool [24] (.call 67 [(.tmp 24)]) <|
 .op (some 26) .any [25] (.un .not (.tmp 25)) <|
 .nil))
 (.cond (.tmp 26) (.seq (.keep [(2, .ptr), (8, .ptr)] [] [] (.gdraw G39_0 H39_0 [(2, .ptr), (3, (.int .i64)), (4, (.int .i64))]))
 .ret)
 .skip))
 (.seq (.ops (.op (some 36) .any [8] (.mov (.tmp 8)) <|
 .op (some 37) .any [36] (.nilck (.tmp 36)) <|
 .op (some 38) .any [37] (.faddr 2 (.tmp 37)) <|
 .op (some 39) (.agg [.str, (.int .i64), .any, .any, .any]) [38] (.load (some 5) (.tmp 38)) <|
 .op none (.agg [.str, (.int .i64), .any, .any, .any]) [2, 39] (.store 5 (.tmp 2) (.tmp 39)) <|
 .op (some 3) .any [] (.mov (.con (V.int .i64 (Int.ofNat 0)))) <|
 .op (some 4) .any [] (.mov (.con (V.int .i64 (Int.ofNat 0)))) <|
 .nil))
 .ret))))))
def A39 : XFn := ⟨40, [.str], [(.cell 2 (some 5)), (.tmp 3), (.tmp 4)], C39_0⟩
/-! ### F40: ogham_table.Make -/
def G40_0 : List AOper := [⟨(some 31), .build [(V.str ⟨0, 0⟩), V.nils, V.nils, V.nils] [], none⟩, ⟨(some 32), .faddr 3 (.tmp 1), none⟩, ⟨(some 33), .load none (.tmp 32), none⟩, ⟨(some 34), .len false (.tmp 33), none⟩, ⟨none, .store 4 (.tmp 2) (.tmp 31), none⟩, ⟨(some 3), .mov (.tmp 34), none⟩, ⟨(some 4), .mov (.con (V.int .i64 (Int.ofNat 9))), none⟩]
def H40_0 : List DP := [⟨0, []⟩, ⟨0, [1]⟩, ⟨2, [32]⟩, ⟨6, [33]⟩, ⟨1, [2, 31]⟩, ⟨31, [34]⟩, ⟨63, []⟩]
def G40_1 : List AOper := [⟨(some 38), .faddr 0 (.tmp 1), none⟩, ⟨(some 39), .load none (.tmp 38), none⟩, ⟨(some 40), .faddr 2 (.tmp 1), none⟩, ⟨(some 41), .load none (.tmp 40), none⟩, ⟨(some 42), .call 48 [(.tmp 41)], none⟩, ⟨(some 43), .build [(V.str ⟨0, 0⟩), V.nils, V.nils, V.nils] [(0, 1, (.tmp 39)), (1, 1, (.tmp 42))], none⟩, ⟨(some 9), .alloc 50 [(V.str ⟨0, 0⟩), V.nils, V.nils, V.nils], none⟩, ⟨none, .store 4 (.tmp 9) (.tmp 43), none⟩]
def H40_1 : List DP := [⟨0, [1]⟩, ⟨1, [38]⟩, ⟨0, [1]⟩, ⟨4, [40]⟩, ⟨12, [41]⟩, ⟨31, [39, 42]⟩, ⟨0, []⟩, ⟨127, [9, 43]⟩]
def Fin40 (E : List (Nat × Blk)) : St → Ans := fun s => resK E s [(.cell 2 (some 4)), (.tmp 3), (.tmp 4)] fun l => some (oneV l, s.σ)
def C40_0 (cc1 : XC) (cc2 : XC) : XC := (.seq (.ops (.op (some 1) .any [0] (.box 99 (.tmp 0)) <|
 .op (some 2) .any [] (.alloc 50 [(V.str ⟨0, 0⟩), V.nils, V.nils, V.nils]) <|
 .op (some 3) .any [] (.mov (.con (V.int .i64 (Int.ofNat 0)))) <|
 .op (some 4) .any [] (.mov (.con (V.int .i64 (Int.ofNat 0)))) <|
 .nil))
 (.seq (.seq (.ops (.op (some 14) (.agg [.str, (.int .i64), .any, .any, .any]) [1] (.load (some 5) (.tmp 1)) <|
 .op (some 15) (.tup [.any, (.int .i64), (.int .i64)]) [14] (.call 68 [(.tmp 14)]) <|
 .op (some 13) .any [15] (.mov (.tmp 15)) <|
 .op (some 16) .any [13] (.extract 0 (.tmp 13)) <|
 .op (some 17) .any [13] (.extract 1 (.tmp 13)) <|
 .op (some 18) .any [13] (.extract 2 (.tmp 13)) <|
 .op (some 5) .any [16] (.mov (.tmp 16)) <|
 .op (some 6) .any [17] (.mov (.tmp 17)) <|
 .op (some 7) .any [18] (.mov (.tmp 18)) <|
 .nil))
 (.seq (.ops (.op (some 19) .any [7] (.mov (.tmp 7)) <|
 .op (some 20) .any [19] (.bin .neq .none (.tmp 19) (.con (V.int .i64 (Int.ofNat 0)))) <|
 .nil))
 (.cond (.tmp 20) (.seq (.ops (.op (some 21) (.agg [.str, .any, .any, .any]) [] (.build [(V.str ⟨0, 0⟩), V.nils, V.nils, V.nils] []) <|
 .op (some 22) .any [6] (.mov (.tmp 6)) <|
 .op (some 23) .any [7] (.mov (.tmp 7)) <|
 .op none (.agg [.str, .any, .any, .any]) [2, 21] (.store 4 (.tmp 2) (.tmp 21)) <|
 .op (some 3) .any [22] (.mov (.tmp 22)) <|
 .op (some 4) .any [23] (.mov (.tmp 23)) <|
 .nil))
 .ret)
 .skip)))
 (.seq (.seq (.ops (.op (some 24) .any [1] (.faddr 3 (.tmp 1)) <|
 .op (some 25) .any [24] (.load none (.tmp 24)) <|
 .op (some 26) .any [25] (.len false (.tmp 25)) <|
 .op (some 27) .any [1] (.faddr 2 (.tmp 1)) <|
 .op (some 28) .any [27] (.load none (.tmp 27)) <|
 .op (some 29) .any [28] (.len false (.tmp 28)) <|
 .op (some 30) .any [26, 29] (.bin .lss .none (.tmp 26) (.tmp 29)) <|
 .nil))
 (.cond (.tmp 30) (.seq (.keep [(1, .ptr), (2, .ptr)] [] [] (.gdraw G40_0 H40_0 [(2, .ptr), (3, (.int .i64)), (4, (.int .i64))]))
 .ret)
 .skip))
 (.seq (.ops (.op (some 35) (.agg [.str, (.int .i64), .any, .any, .any]) [1] (.load (some 5) (.tmp 1)) <|
 .op (some 36) (.agg [.any, .str, (.int .i64), .any, .any, .any]) [35] (.build [V.nils, (V.str ⟨0, 0⟩), (V.int .i64 (Int.ofNat 0)), V.nils, V.nils, V.nils] [(1, 5, (.tmp 35))]) <|
 .op (some 37) .any [36] (.box 155 (.tmp 36)) <|
 .op (some 8) .any [37] (.mov (.tmp 37)) <|
 .nil))
 (.seq (.keep [(1, .ptr), (2, .ptr), (8, .ptr)] [] [] (.gdraw G40_1 H40_1 [(1, .ptr), (2, .ptr), (8, .ptr), (9, .ptr)]))
 (.seq (.seq (.ops (.op (some 44) .any [1] (.faddr 2 (.tmp 1)) <|
 .op (some 45) .any [44] (.load none (.tmp 44)) <|
 .op (some 46) .any [45] (.len false (.tmp 45)) <|
 .op (some 47) .any [] (.mov (.con (V.int .i64 (Int.ofNat 0)))) <|
 .nil))
 (.block 0 (.loop [(1, .ptr), (2, .ptr), (8, .ptr), (9, .ptr), (46, (.int .i64)), (47, (.int .i64))] [] [] cc2)))
 (.keep [(2, .ptr), (8, .ptr), (9, .ptr)] [] [] cc1)))))))
def T40_0 (E : List (Nat × Blk)) (D : Den) (W : DrawFn) (K2 : Nat → Nat → Nat → Nat → Nat → Nat → Nat → Nat → Int → Int → H → Ans) (v0_0 : BS) (v0_1 : Int) (v0_2 : V) (v0_3 : V) (v0_4 : V) (σ : H) : Ans :=
 chk (allOne (V.cells (V.agg [(V.str v0_0), (V.int .i64 v0_1), v0_2, v0_3, v0_4]))) (
 let s1 := newB σ (.cells (V.cells (V.agg [(V.str v0_0), (V.int .i64 v0_1), v0_2, v0_3, v0_4])));
 let s2 := newB s1 (.cells [(V.str ⟨0, 0⟩), V.nils, V.nils, V.nils]);
 ldnK E s2 (H.next σ) 0 5 fun l3 =>
 rtCons l3 fun x4 l5 =>
 rtStr x4 fun x6 =>
 rtCons l5 fun x7 l8 =>
 rtInt .i64 x7 fun x9 =>
 rtCons l8 fun x10 l11 =>
 rtCons l11 fun x12 l13 =>
 rtCons l13 fun x14 l15 =>
 rtNil l15 (
 callK (D 68 [(V.agg [(V.str x6), (V.int .i64 x9), x10, x12, x14])] s2) fun u16 s17 =>
 rtTup u16 fun l18 =>
 rtCons l18 fun x19 l20 =>
 rtCons l20 fun x21 l22 =>
 rtInt .i64 x21 fun x23 =>
 rtCons l22 fun x24 l25 =>
 rtInt .i64 x24 fun x26 =>
 rtNil l25 (
 condK (not (eqF x26 (Int.ofNat 0))) (
 stK 4 (H.next s1) 0 (V.agg [(V.str (BS.mk 0 0)), V.nils, V.nils, V.nils]) s17 fun s27 =>
 ldnK E s27 (H.next s1) 0 4 fun u28 =>
 some ((V.tup [(V.agg u28), (V.int .i64 x23), (V.int .i64 x26)]), s27)) (
 ldK E s17 (H.next σ) 3 fun u29 =>
 slenK u29 fun n30 =>
 ldK E s17 (H.next σ) 2 fun u31 =>
 slenK u31 fun n32 =>
 condK (ltF (Int.ofNat n30) (Int.ofNat n32)) (
 gdrawK (W G40_0 H40_0 [(1, (V.ptr (H.next σ) 0)), (2, (V.ptr (H.next s1) 0))] s17) fun e33 s34 =>
 getL e33 2 fun u35 =>
 rtPtr u35 fun b36 o37 =>
 getL e33 3 fun u38 =>
 rtInt .i64 u38 fun x39 =>
 getL e33 4 fun u40 =>
 rtInt .i64 u40 fun x41 =>
 ldnK E s34 b36 o37 4 fun u42 =>
 some ((V.tup [(V.agg u42), (V.int .i64 x39), (V.int .i64 x41)]), s34)) (
 ldnK E s17 (H.next σ) 0 5 fun l43 =>
 rtCons l43 fun x44 l45 =>
 rtStr x44 fun x46 =>
 rtCons l45 fun x47 l48 =>
 rtInt .i64 x47 fun x49 =>
 rtCons l48 fun x50 l51 =>
 rtCons l51 fun x52 l53 =>
 rtCons l53 fun x54 l55 =>
 rtNil l55 (
 chk (allOne (V.cells (V.agg [V.nils, (V.str x46), (V.int .i64 x49), x50, x52, x54]))) (
 let s56 := newB s17 (.cells (V.cells (V.agg [V.nils, (V.str x46), (V.int .i64 x49), x50, x52, x54])));
 gdrawK (W G40_1 H40_1 [(1, (V.ptr (H.next σ) 0)), (2, (V.ptr (H.next s1) 0)), (8, (V.ptr (H.next s17) 0))] s56) fun e57 s58 =>
 getL e57 1 fun u59 =>
 rtPtr u59 fun b60 o61 =>
 getL e57 2 fun u62 =>
 rtPtr u62 fun b63 o64 =>
 getL e57 8 fun u65 =>
 rtPtr u65 fun b66 o67 =>
 getL e57 9 fun u68 =>
 rtPtr u68 fun b69 o70 =>
 ldK E s58 b60 (Nat.add o61 2) fun u71 =>
 slenK u71 fun n72 =>
 K2 b60 o61 b63 o64 b66 o67 b69 o70 (Int.ofNat n72) (Int.ofNat 0) s58)))))))
def C40_1 : XC := (.seq (.ops (.op (some 72) .any [8] (.mov (.tmp 8)) <|
 .op (some 73) .any [72] (.nilck (.tmp 72)) <|
 .op (some 74) .any [73] (.faddr 0 (.tmp 73)) <|
 .op (some 75) .any [74] (.faddr 0 (.tmp 74)) <|
 .op (some 76) .any [75] (.load none (.tmp 75)) <|
 .op (some 77) .any [9] (.faddr 3 (.tmp 9)) <|
 .op none .any [77, 76] (.store 1 (.tmp 77) (.tmp 76)) <|
 .nil))
 (.seq (.ops (.op (some 78) (.agg [.str, .any, .any, .any]) [9] (.load (some 4) (.tmp 9)) <|
 .op none (.agg [.str, .any, .any, .any]) [2, 78] (.store 4 (.tmp 2) (.tmp 78)) <|
 .op (some 3) .any [] (.mov (.con (V.int .i64 (Int.ofNat 0)))) <|
 .op (some 4) .any [] (.mov (.con (V.int .i64 (Int.ofNat 0)))) <|
 .nil))
 .ret))
def T40_1 (E : List (Nat × Blk)) (D : Den) (W : DrawFn) (v2b : Nat) (v2o : Nat) (v8b : Nat) (v8o : Nat) (v9b : Nat) (v9o : Nat) (σ : H) : Ans :=
 ldK E σ v8b v8o fun u1 =>
 stK 1 v9b (Nat.add v9o 3) u1 σ fun s2 =>
 ldnK E s2 v9b v9o 4 fun l3 =>
 rtCons l3 fun x4 l5 =>
 rtStr x4 fun x6 =>
 rtCons l5 fun x7 l8 =>
 rtCons l8 fun x9 l10 =>
 rtCons l10 fun x11 l12 =>
 rtNil l12 (
 stK 4 v2b v2o (V.agg [(V.str x6), x7, x9, x11]) s2 fun s13 =>
 ldnK E s13 v2b v2o 4 fun u14 =>
 some ((V.tup [(V.agg u14), (V.int .i64 (Int.ofNat 0)), (V.int .i64 (Int.ofNat 0))]), s13))
def C40_2 : XC := (.seq (.ops (.op (some 48) .any [47, 46] (.bin .lss .none (.tmp 47) (.tmp 46)) <|
 .nil))
 (.seq (.cond (.tmp 48) .skip
 (.exit 0))
 (.seq (.block 1 (.seq (.ops (.op (some 49) .any [47] (.mov (.tmp 47)) <|
 .op (some 10) .any [49] (.mov (.tmp 49)) <|
 .nil))
 (.seq (.ops (.op (some 51) .any [8] (.mov (.tmp 8)) <|
 .op (some 52) .any [1] (.faddr 3 (.tmp 1)) <|
 .op (some 53) .any [52] (.load none (.tmp 52)) <|
 .op (some 54) .any [10] (.mov (.tmp 10)) <|
 .op (some 55) .any [53, 54] (.iaddrS 1 (.tmp 53) (.tmp 54)) <|
 .op (some 56) (.int .i64) [55] (.load none (.tmp 55)) <|
 .op (some 57) (.tup [(.int .i64), (.int .i64)]) [51, 56] (.call 69 [(.tmp 51), (.tmp 56), (.con (V.int .i64 (Int.ofNat 0)))]) <|
 .op (some 50) .any [57] (.mov (.tmp 57)) <|
 .op (some 58) .any [50] (.extract 0 (.tmp 50)) <|
 .op (some 59) .any [50] (.extract 1 (.tmp 50)) <|
 .op (some 11) .any [58] (.mov (.tmp 58)) <|
 .op (some 12) .any [59] (.mov (.tmp 59)) <|
 .nil))
 (.seq (.seq (.ops (.op (some 60) .any [12] (.mov (.tmp 12)) <|
 .op (some 61) .any [60] (.bin .neq .none (.tmp 60) (.con (V.int .i64 (Int.ofNat 0)))) <|
 .nil))
 (.cond (.tmp 61) (.seq (.ops (.op (some 62) (.agg [.str, .any, .any, .any]) [] (.build [(V.str ⟨0, 0⟩), V.nils, V.nils, V.nils] []) <|
 .op (some 63) .any [10] (.mov (.tmp 10)) <|
 .op (some 64) .any [12] (.mov (.tmp 12)) <|
 .op none (.agg [.str, .any, .any, .any]) [2, 62] (.store 4 (.tmp 2) (.tmp 62)) <|
 .op (some 3) .any [63] (.mov (.tmp 63)) <|
 .op (some 4) .any [64] (.mov (.tmp 64)) <|
 .nil))
 .ret)
 .skip))
 (.ops (.op (some 65) .any [9] (.faddr 2 (.tmp 9)) <|
 .op (some 66) .any [65] (.load none (.tmp 65)) <|
 .op (some 67) .any [11] (.mov (.tmp 11)) <|
 .op (some 68) .any [67] (.buildSlice 3 1 [(V.int .i64 (Int.ofNat 0))] [(0, 1, (.tmp 67))]) <|
 .op (some 69) .one [66, 68] (.append 3 1 8 (.tmp 66) (.tmp 68)) <|
 .op (some 70) .any [9] (.faddr 2 (.tmp 9)) <|
 .op none .any [70, 69] (.store 1 (.tmp 70) (.tmp 69)) <|
 .nil))))))
 (.ops (.op (some 71) .any [47] (.bin .add .none (.tmp 47) (.con (V.int .i64 (Int.ofNat 1)))) <|
 .op (some 47) .any [71] (.mov (.tmp 71)) <|
 .nil)))))
def T40_2 (E : List (Nat × Blk)) (D : Den) (W : DrawFn) (K1 : Nat → Nat → Nat → Nat → Nat → Nat → H → Ans) (R2 : Nat → Nat → Nat → Nat → Nat → Nat → Nat → Nat → Int → Int → H → Ans) (v1b : Nat) (v1o : Nat) (v2b : Nat) (v2o : Nat) (v8b : Nat) (v8o : Nat) (v9b : Nat) (v9o : Nat) (v46 : Int) (v47 : Int) (σ : H) : Ans :=
 condK (ltF v47 v46) (
 ldK E σ v1b (Nat.add v1o 3) fun u1 =>
 iaddrSK 1 u1 v47 fun b2 o3 =>
 ldK E σ b2 o3 fun u4 =>
 rtInt .i64 u4 fun x5 =>
 callK (D 69 [(V.ptr v8b v8o), (V.int .i64 x5), (V.int .i64 (Int.ofNat 0))] σ) fun u6 s7 =>
 rtTup u6 fun l8 =>
 rtCons l8 fun x9 l10 =>
 rtInt .i64 x9 fun x11 =>
 rtCons l10 fun x12 l13 =>
 rtInt .i64 x12 fun x14 =>
 rtNil l13 (
 condK (not (eqF x14 (Int.ofNat 0))) (
 stK 4 v2b v2o (V.agg [(V.str (BS.mk 0 0)), V.nils, V.nils, V.nils]) s7 fun s15 =>
 ldnK E s15 v2b v2o 4 fun u16 =>
 some ((V.tup [(V.agg u16), (V.int .i64 v47), (V.int .i64 x14)]), s15)) (
 ldK E s7 v9b (Nat.add v9o 2) fun u17 =>
 let s18 := newB s7 (.cells [(V.int .i64 x11)]);
 appK E 1 8 u17 (V.sl (H.next s7) 0 1 (.ex 1)) s18 fun u19 s20 =>
 rtOne u19 (
 stK 1 v9b (Nat.add v9o 2) u19 s20 fun s21 =>
 R2 v1b v1o v2b v2o v8b v8o v9b v9o v46 (addF .i64 v47 (Int.ofNat 1)) s21)))) (
 K1 v2b v2o v8b v8o v9b v9o σ)
theorem P40_0 (E : List (Nat × Blk)) (D : Den) (W : DrawFn) (N : Nat) (cc1 : XC) (cc2 : XC) (v0_0 : BS) (v0_1 : Int) (v0_2 : V) (v0_3 : V) (v0_4 : V) (σ : H) :
  denC E D W N (C40_0 cc1 cc2) ⟨[(0, (V.agg [(V.str v0_0), (V.int .i64 v0_1), v0_2, v0_3, v0_4]))], [], [], σ⟩ (Fin40 E) (fun _ _ => none) (Fin40 E) =
  T40_0 E D W (fun v1b v1o v2b v2o v8b v8o v9b v9o v46 v47 σ => iterK (fun rec s' => denC E D W N cc2 s' (fun s'' => keepS [(1, .ptr), (2, .ptr), (8, .ptr), (9, .ptr), (46, (.int .i64)), (47, (.int .i64))] [] [] s'' rec) (blkK 0 (fun s' => denC E D W N (.keep [(2, .ptr), (8, .ptr), (9, .ptr)] [] [] cc1) s' (Fin40 E) (fun _ _ => none) (Fin40 E)) (fun _ _ => none)) (Fin40 E)) N ⟨[(1, (V.ptr v1b v1o)), (2, (V.ptr v2b v2o)), (8, (V.ptr v8b v8o)), (9, (V.ptr v9b v9o)), (46, (V.int .i64 v46)), (47, (V.int .i64 v47))], [], [], σ⟩) v0_0 v0_1 v0_2 v0_3 v0_4 σ := by kernel_rfl
theorem P40_1 (E : List (Nat × Blk)) (D : Den) (W : DrawFn) (N : Nat) (v2b : Nat) (v2o : Nat) (v8b : Nat) (v8o : Nat) (v9b : Nat) (v9o : Nat) (σ : H) :
  denC E D W N (C40_1 ) ⟨[(2, (V.ptr v2b v2o)), (8, (V.ptr v8b v8o)), (9, (V.ptr v9b v9o))], [], [], σ⟩ (Fin40 E) (fun _ _ => none) (Fin40 E) =
  T40_1 E D W  v2b v2o v8b v8o v9b v9o σ := by kernel_rfl
theorem P40_2 (E : List (Nat × Blk)) (D : Den) (W : DrawFn) (N : Nat) (cc1 : XC) (li2 : St → Ans) (v1b : Nat) (v1o : Nat) (v2b : Nat) (v2o : Nat) (v8b : Nat) (v8o : Nat) (v9b : Nat) (v9o : Nat) (v46 : Int) (v47 : Int) (σ : H) :
  denC E D W N (C40_2 ) ⟨[(1, (V.ptr v1b v1o)), (2, (V.ptr v2b v2o)), (8, (V.ptr v8b v8o)), (9, (V.ptr v9b v9o)), (46, (V.int .i64 v46)), (47, (V.int .i64 v47))], [], [], σ⟩ (fun s'' => keepS [(1, .ptr), (2, .ptr), (8, .ptr), (9, .ptr), (46, (.int .i64)), (47, (.int .i64))] [] [] s'' li2) (blkK 0 (fun s' => denC E D W N (.keep [(2, .ptr), (8, .ptr), (9, .ptr)] [] [] cc1) s' (Fin40 E) (fun _ _ => none) (Fin40 E)) (fun _ _ => none)) (Fin40 E) =
  T40_2 E D W (fun v2b v2o v8b v8o v9b v9o σ => denC E D W N cc1 ⟨[(2, (V.ptr v2b v2o)), (8, (V.ptr v8b v8o)), (9, (V.ptr v9b v9o))], [], [], σ⟩ (Fin40 E) (fun _ _ => none) (Fin40 E)) (fun v1b v1o v2b v2o v8b v8o v9b v9o v46 v47 σ => li2 ⟨[(1, (V.ptr v1b v1o)), (2, (V.ptr v2b v2o)), (8, (V.ptr v8b v8o)), (9, (V.ptr v9b v9o)), (46, (V.int .i64 v46)), (47, (V.int .i64 v47))], [], [], σ⟩) v1b v1o v2b v2o v8b v8o v9b v9o v46 v47 σ := by kernel_rfl
def J40_1 (E : List (Nat × Blk)) (D : Den) (W : DrawFn) (N : Nat) : Nat → Nat → Nat → Nat → Nat → Nat → H → Ans := T40_1 E D W 
theorem JE40_1 (E : List (Nat × Blk)) (D : Den) (W : DrawFn) (N : Nat) (v2b : Nat) (v2o : Nat) (v8b : Nat) (v8o : Nat) (v9b : Nat) (v9o : Nat) (σ : H) :
  denC E D W N C40_1 ⟨[(2, (V.ptr v2b v2o)), (8, (V.ptr v8b v8o)), (9, (V.ptr v9b v9o))], [], [], σ⟩ (Fin40 E) (fun _ _ => none) (Fin40 E) = J40_1 E D W N v2b v2o v8b v8o v9b v9o σ := by
  refine (P40_1 E D W N   v2b v2o v8b v8o v9b v9o σ).trans ?_
  kernel_rfl
def L40_2 (E : List (Nat × Blk)) (D : Den) (W : DrawFn) (N : Nat) (n : Nat) : Nat → Nat → Nat → Nat → Nat → Nat → Nat → Nat → Int → Int → H → Ans :=
  Nat.rec (fun _ _ _ _ _ _ _ _ _ _ _ => none) (fun _ ih => T40_2 E D W (J40_1 E D W N ) ih) n
theorem LE40_2 (E : List (Nat × Blk)) (D : Den) (W : DrawFn) (N : Nat) (n : Nat) : ∀ (v1b : Nat) (v1o : Nat) (v2b : Nat) (v2o : Nat) (v8b : Nat) (v8o : Nat) (v9b : Nat) (v9o : Nat) (v46 : Int) (v47 : Int) (σ : H),
  iterK (fun rec s' => denC E D W N C40_2 s' (fun s'' => keepS [(1, .ptr), (2, .ptr), (8, .ptr), (9, .ptr), (46, (.int .i64)), (47, (.int .i64))] [] [] s'' rec) (blkK 0 (fun s' => denC E D W N (.keep [(2, .ptr), (8, .ptr), (9, .ptr)] [] [] C40_1) s' (Fin40 E) (fun _ _ => none) (Fin40 E)) (fun _ _ => none)) (Fin40 E)) n ⟨[(1, (V.ptr v1b v1o)), (2, (V.ptr v2b v2o)), (8, (V.ptr v8b v8o)), (9, (V.ptr v9b v9o)), (46, (V.int .i64 v46)), (47, (V.int .i64 v47))], [], [], σ⟩ = L40_2 E D W N n v1b v1o v2b v2o v8b v8o v9b v9o v46 v47 σ := by
  induction n with
  | zero => intro v1b v1o v2b v2o v8b v8o v9b v9o v46 v47 σ; rfl
  | succ n ihn =>
    intro v1b v1o v2b v2o v8b v8o v9b v9o v46 v47 σ
    rw [iterK_succ]
    refine (P40_2 E D W N C40_1 (iterK (fun rec s' => denC E D W N C40_2 s' (fun s'' => keepS [(1, .ptr), (2, .ptr), (8, .ptr), (9, .ptr), (46, (.int .i64)), (47, (.int .i64))] [] [] s'' rec) (blkK 0 (fun s' => denC E D W N (.keep [(2, .ptr), (8, .ptr), (9, .ptr)] [] [] C40_1) s' (Fin40 E) (fun _ _ => none) (Fin40 E)) (fun _ _ => none)) (Fin40 E)) n) v1b v1o v2b v2o v8b v8o v9b v9o v46 v47 σ).trans ?_
    simp only [ihn, JE40_1]
    kernel_rfl
def J40_0 (E : List (Nat × Blk)) (D : Den) (W : DrawFn) (N : Nat) : BS → Int → V → V → V → H → Ans := T40_0 E D W (L40_2 E D W N N)
theorem JE40_0 (E : List (Nat × Blk)) (D : Den) (W : DrawFn) (N : Nat) (v0_0 : BS) (v0_1 : Int) (v0_2 : V) (v0_3 : V) (v0_4 : V) (σ : H) :
  denC E D W N (C40_0 C40_1 C40_2) ⟨[(0, (V.agg [(V.str v0_0), (V.int .i64 v0_1), v0_2, v0_3, v0_4]))], [], [], σ⟩ (Fin40 E) (fun _ _ => none) (Fin40 E) = J40_0 E D W N v0_0 v0_1 v0_2 v0_3 v0_4 σ := by
  refine (P40_0 E D W N C40_1 C40_2  v0_0 v0_1 v0_2 v0_3 v0_4 σ).trans ?_
  simp only [LE40_2]
  kernel_rfl
def F40 (E : List (Nat × Blk)) (D : Den) (W : DrawFn) (N : Nat) (args : List V) (σ : H) : Ans :=
 rtCons args fun x1 l2 =>
 rtAgg x1 fun l3 =>
 rtCons l3 fun x4 l5 =>
 rtStr x4 fun x6 =>
 rtCons l5 fun x7 l8 =>
 rtInt .i64 x7 fun x9 =>
 rtCons l8 fun x10 l11 =>
 rtCons l11 fun x12 l13 =>
 rtCons l13 fun x14 l15 =>
 rtNil l15 (
 rtNil l2 (
 J40_0 E D W N x6 x9 x10 x12 x14 σ))
def A40 : XFn := ⟨79, [(.agg [.str, (.int .i64), .any, .any, .any])], [(.cell 2 (some 4)), (.tmp 3), (.tmp 4)], (C40_0 C40_1 C40_2)⟩
theorem FE40 (E : List (Nat × Blk)) (D : Den) (W : DrawFn) (N : Nat) (args : List V) (σ : H) : runX E D W N A40 args σ = F40 E D W N args σ := by
  unfold F40
  simp only [← JE40_0]
  kernel_rfl
theorem AO40 : A40.body.ok = true := by kernel_rfl

def G41_0 : List AOper := [⟨(some 28), .mov (.tmp 3), none⟩, ⟨(some 29), .nilck (.tmp 28), none⟩, ⟨(some 30), .faddr 0 (.tmp 29), none⟩, ⟨(some 31), .faddr 0 (.tmp 1), none⟩, ⟨(some 32), .load none (.tmp 31), none⟩, ⟨(some 33), .mov (.tmp 4), none⟩, ⟨(some 34), .buildSlice 9 4 [(V.str ⟨0, 0⟩), (V.str ⟨0, 0⟩), (V.str ⟨0, 0⟩), (V.str ⟨0, 0⟩)] [(0, 1, (.tmp 32)), (1, 1, (.con (V.str ⟨13, 2561083126905198320505063818272⟩))), (2, 1, (.tmp 33)), (3, 1, (.con (V.str ⟨9, 1444126302987771263546⟩)))], none⟩, ⟨(some 35), .call 71 [(.tmp 30), (.tmp 34)], none⟩]
def H41_0 : List DP := [⟨0, [3]⟩, ⟨1, [28]⟩, ⟨3, [29]⟩, ⟨0, [1]⟩, ⟨8, [31]⟩, ⟨0, [4]⟩, ⟨56, [32, 33]⟩, ⟨127, [30, 34]⟩]
def C41_0 (cc1 : XC) (cc2 : XC) : XC := (.seq (.ops (.op (some 1) .any [0] (.box 99 (.tmp 0)) <|
 .op (some 2) .any [] (.mov (.con (V.str ⟨0, 0⟩))) <|
 .nil))
 (.seq (.ops (.op (some 7) (.agg [.str, (.int .i64), .any, .any, .any]) [1] (.load (some 5) (.tmp 1)) <|
 .op (some 8) (.agg [.any, .bool, .str, (.int .i64), .any, .any, .any]) [7] (.build [V.nils, (V.bool false), (V.str ⟨0, 0⟩), (V.int .i64 (Int.ofNat 0)), V.nils, V.nils, V.nils] [(2, 5, (.tmp 7))]) <|
 .op (some 9) .any [8] (.box 161 (.tmp 8)) <|
 .op (some 3) .any [9] (.mov (.tmp 9)) <|
 .nil))
 (.seq (.ops (.op (some 10) .any [1] (.faddr 1 (.tmp 1)) <|
 .op (some 11) (.int .i64) [10] (.load none (.tmp 10)) <|
 .op (some 12) .str [11] (.call 70 [(.tmp 11)]) <|
 .op (some 4) .any [12] (.mov (.tmp 12)) <|
 .nil))
 (.seq (.ops (.op (some 13) .any [3] (.mov (.tmp 3)) <|
 .op (some 14) .any [4] (.mov (.tmp 4)) <|
 .op (some 15) .any [14] (.bin .eql .none (.tmp 14) (.con (V.str ⟨0, 0⟩))) <|
 .op (some 16) .any [15] (.mov (.tmp 15)) <|
 .grp 16 false (.op (some 17) .any [1, 16] (.faddr 3 (.tmp 1)) <|
 .op (some 18) .any [17, 16] (.load none (.tmp 17)) <|
 .op (some 19) .any [18, 16] (.len false (.tmp 18)) <|
 .op (some 20) .any [1, 16] (.faddr 2 (.tmp 1)) <|
 .op (some 21) .any [20, 16] (.load none (.tmp 20)) <|
 .op (some 22) .any [21, 16] (.len false (.tmp 21)) <|
 .op (some 23) .any [19, 22, 16] (.bin .neq .none (.tmp 19) (.tmp 22)) <|
 .nil) 24 [16, 23] (.tmp 16) (.con (V.bool true)) (.tmp 23) <|
 .op (some 25) .any [13] (.nilck (.tmp 13)) <|
 .op (some 26) .any [25] (.faddr 0 (.tmp 25)) <|
 .op (some 27) .any [26] (.faddr 1 (.tmp 26)) <|
 .op none .any [27, 24] (.store 1 (.tmp 27) (.tmp 24)) <|
 .nil))
 (.seq (.keep [(1, .ptr), (3, .ptr), (4, .str)] [] [] (.gdraw G41_0 H41_0 [(1, .ptr), (3, .ptr)]))
 (.seq (.seq (.ops (.op (some 36) .any [1] (.faddr 2 (.tmp 1)) <|
 .op (some 37) .any [36] (.load none (.tmp 36)) <|
 .op (some 38) .any [37] (.len false (.tmp 37)) <|
 .op (some 39) .any [] (.mov (.con (V.int .i64 (Int.ofNat 0)))) <|
 .nil))
 (.block 0 (.loop [(1, .ptr), (3, .ptr), (37, .any), (38, (.int .i64)), (39, (.int .i64))] [] [] cc2)))
 (.keep [(3, .ptr)] [] [] cc1)))))))
def C41_1 : XC := (.seq (.ops (.op (some 63) .any [3] (.mov (.tmp 3)) <|
 .op (some 64) .any [63] (.nilck (.tmp 63)) <|
 .op (some 65) .any [64] (.faddr 0 (.tmp 64)) <|
 .op (some 66) .any [] (.buildSlice 9 1 [(V.str ⟨0, 0⟩)] [(0, 1, (.con (V.str ⟨5, 44095653130⟩)))]) <|
 .op (some 67) (.tup []) [65, 66] (.call 71 [(.tmp 65), (.tmp 66)]) <|
 .nil))
 (.seq (.seq (.ops (.op (some 68) .any [3] (.mov (.tmp 3)) <|
 .op (some 69) .any [68] (.nilck (.tmp 68)) <|
 .op (some 70) .any [69] (.faddr 0 (.tmp 69)) <|
 .op (some 71) .any [70] (.faddr 1 (.tmp 70)) <|
 .op (some 72) .bool [71] (.load none (.tmp 71)) <|
 .nil))
 (.cond (.tmp 72) (.seq (.ops (.op (some 2) .any [] (.mov (.con (V.str ⟨0, 0⟩))) <|
 .nil))
 .ret)
 .skip))
 (.seq (.ops (.op (some 73) .any [3] (.mov (.tmp 3)) <|
 .op (some 74) .any [73] (.nilck (.tmp 73)) <|
 .op (some 75) .any [74] (.faddr 0 (.tmp 74)) <|
 .op (some 76) .any [75] (.faddr 0 (.tmp 75)) <|
 .op (some 77) .any [76] (.load none (.tmp 76)) <|
 .op (some 78) .any [77] (.conv .toStr (.tmp 77)) <|
 .op (some 2) .any [78] (.mov (.tmp 78)) <|
 .nil))
 .ret)))
def C41_2 : XC := (.seq (.ops (.op (some 40) .any [39, 38] (.bin .lss .none (.tmp 39) (.tmp 38)) <|
 .nil))
 (.seq (.cond (.tmp 40) .skip
 (.exit 0))
 (.seq (.block 1 (.seq (.ops (.op (some 41) .any [39] (.mov (.tmp 39)) <|
 .op (some 42) .any [37, 39] (.iaddrS 1 (.tmp 37) (.tmp 39)) <|
 .op (some 43) .str [42] (.load none (.tmp 42)) <|
 .op (some 5) .any [41] (.mov (.tmp 41)) <|
 .op (some 6) .any [43] (.mov (.tmp 43)) <|
 .nil))
 (.seq (.seq (.ops (.op (some 44) .any [3] (.mov (.tmp 3)) <|
 .op (some 45) .any [44] (.nilck (.tmp 44)) <|
 .op (some 46) .any [45] (.faddr 0 (.tmp 45)) <|
 .op (some 47) .any [46] (.faddr 1 (.tmp 46)) <|
 .op (some 48) .bool [47] (.load none (.tmp 47)) <|
 .nil))
 (.cond (.tmp 48) (.exit 0)
 .skip))
 (.seq (.ops (.op (some 49) .any [3] (.mov (.tmp 3)) <|
 .op (some 50) .any [49] (.nilck (.tmp 49)) <|
 .op (some 51) .any [50] (.faddr 0 (.tmp 50)) <|
 .op (some 52) .any [6] (.mov (.tmp 6)) <|
 .op (some 53) .any [52] (.buildSlice 9 3 [(V.str ⟨0, 0⟩), (V.str ⟨0, 0⟩), (V.str ⟨0, 0⟩)] [(0, 1, (.con (V.str ⟨1, 10⟩))), (1, 1, (.tmp 52)), (2, 1, (.con (V.str ⟨5, 138466179616⟩)))]) <|
 .op (some 54) (.tup []) [51, 53] (.call 71 [(.tmp 51), (.tmp 53)]) <|
 .nil))
 (.ops (.op (some 55) .any [3] (.mov (.tmp 3)) <|
 .op (some 56) .any [1] (.faddr 3 (.tmp 1)) <|
 .op (some 57) .any [56] (.load none (.tmp 56)) <|
 .op (some 58) .any [5] (.mov (.tmp 5)) <|
 .op (some 59) .any [57, 58] (.iaddrS 1 (.tmp 57) (.tmp 58)) <|
 .op (some 60) (.int .i64) [59] (.load none (.tmp 59)) <|
 .op (some 61) (.tup []) [55, 60] (.call 72 [(.tmp 55), (.tmp 60), (.con (V.int .i64 (Int.ofNat 0)))]) <|
 .nil))))))
 (.ops (.op (some 62) .any [39] (.bin .add .none (.tmp 39) (.con (V.int .i64 (Int.ofNat 1)))) <|
 .op (some 39) .any [62] (.mov (.tmp 62)) <|
 .nil)))))
def A41 : XFn := ⟨79, [(.agg [.str, (.int .i64), .any, .any, .any])], [(.tmp 2)], (C41_0 C41_1 C41_2)⟩
/-! ### F44: ogham_extend.May -/
def G44_0 : List AOper := [⟨(some 21), .mov (.tmp 6), none⟩, ⟨(some 22), .faddr 2 (.tmp 2), none⟩, ⟨(some 23), .load none (.tmp 22), none⟩, ⟨(some 24), .len false (.tmp 23), none⟩, ⟨(some 25), .bin .geq .none (.tmp 21) (.tmp 24), none⟩, ⟨(some 26), .mov (.tmp 25), none⟩, ⟨(some 27), .load (some 4) (.tmp 2), (some (26, false))⟩, ⟨(some 28), .faddr 2 (.tmp 2), (some (26, false))⟩, ⟨(some 29), .load none (.tmp 28), (some (26, false))⟩, ⟨(some 30), .mov (.tmp 6), (some (26, false))⟩, ⟨(some 31), .iaddrS 1 (.tmp 29) (.tmp 30), (some (26, false))⟩, ⟨(some 32), .load none (.tmp 31), (some (26, false))⟩, ⟨(some 33), .load (some 4) (.tmp 3), (some (26, false))⟩, ⟨(some 34), .load (some 4) (.tmp 3), (some (26, false))⟩, ⟨(some 35), .mov (.tmp 7), (some (26, false))⟩, ⟨(some 36), .call 75 [(.tmp 34), (.tmp 35)], (some (26, false))⟩, ⟨(some 37), .call 74 [(.tmp 27), (.tmp 32), (.tmp 33), (.tmp 36)], (some (26, false))⟩, ⟨(some 38), .un .not (.tmp 37), (some (26, false))⟩, ⟨(some 39), .pick (.tmp 26) (.con (V.bool true)) (.tmp 38), none⟩]
def H44_0 : List DP := [⟨0, [6]⟩, ⟨0, [2]⟩, ⟨2, [22]⟩, ⟨6, [23]⟩, ⟨15, [21, 24]⟩, ⟨31, [25]⟩, ⟨63, [2, 26]⟩, ⟨63, [2, 26]⟩, ⟨191, [28, 26]⟩, ⟨63, [6, 26]⟩, ⟨959, [29, 30, 26]⟩, ⟨1983, [31, 26]⟩, ⟨63, [3, 26]⟩, ⟨63, [3, 26]⟩, ⟨63, [7, 26]⟩, ⟨24639, [34, 35, 26]⟩, ⟨65535, [27, 32, 33, 36, 26]⟩, ⟨131071, [37, 26]⟩, ⟨262143, [26, 38]⟩]
def Fin44 (E : List (Nat × Blk)) : St → Ans := fun s => resK E s [(.tmp 4), (.tmp 5)] fun l => some (oneV l, s.σ)
def C44_0 (cc1 : XC) (cc2 : XC) : XC := (.seq (.ops (.op (some 2) .any [0] (.box 50 (.tmp 0)) <|
 .op (some 3) .any [1] (.box 50 (.tmp 1)) <|
 .op (some 4) .any [] (.mov (.con (V.int .i64 (Int.ofNat 0)))) <|
 .op (some 5) .any [] (.mov (.con (V.int .i64 (Int.ofNat 0)))) <|
 .nil))
 (.seq (.seq (.ops (.op (some 8) .any [2] (.faddr 0 (.tmp 2)) <|
 .op (some 9) .str [8] (.load none (.tmp 8)) <|
 .op (some 10) .any [3] (.faddr 0 (.tmp 3)) <|
 .op (some 11) .str [10] (.load none (.tmp 10)) <|
 .op (some 12) .any [9, 11] (.bin .neq .none (.tmp 9) (.tmp 11)) <|
 .nil))
 (.cond (.tmp 12) (.seq (.ops (.op (some 4) .any [] (.mov (.con (V.int .i64 (Int.ofNat 0)))) <|
 .op (some 5) .any [] (.mov (.con (V.int .i64 (Int.ofNat 14)))) <|
 .nil))
 .ret)
 .skip))
 (.seq (.seq (.ops (.op (some 13) .any [2] (.faddr 1 (.tmp 2)) <|
 .op (some 14) .any [13] (.load none (.tmp 13)) <|
 .op (some 15) .any [14] (.len false (.tmp 14)) <|
 .op (some 16) .any [] (.mov (.con (V.int .i64 (Int.ofNat 0)))) <|
 .nil))
 (.block 0 (.loop [(2, .ptr), (3, .ptr), (14, .any), (15, (.int .i64)), (16, (.int .i64))] [] [] cc2)))
 (.keep [] [] [] cc1))))
def T44_0 (E : List (Nat × Blk)) (D : Den) (W : DrawFn) (K2 : Nat → Nat → Nat → Nat → V → Int → Int → H → Ans) (v0_0 : BS) (v0_1 : V) (v0_2 : V) (v0_3 : V) (v1_0 : BS) (v1_1 : V) (v1_2 : V) (v1_3 : V) (σ : H) : Ans :=
 chk (allOne (V.cells (V.agg [(V.str v0_0), v0_1, v0_2, v0_3]))) (
 let s1 := newB σ (.cells (V.cells (V.agg [(V.str v0_0), v0_1, v0_2, v0_3])));
 chk (allOne (V.cells (V.agg [(V.str v1_0), v1_1, v1_2, v1_3]))) (
 let s2 := newB s1 (.cells (V.cells (V.agg [(V.str v1_0), v1_1, v1_2, v1_3])));
 ldK E s2 (H.next σ) 0 fun u3 =>
 rtStr u3 fun x4 =>
 ldK E s2 (H.next s1) 0 fun u5 =>
 rtStr u5 fun x6 =>
 condK (not (BS.beq x4 x6)) (
 some ((V.tup [(V.int .i64 (Int.ofNat 0)), (V.int .i64 (Int.ofNat 14))]), s2)) (
 ldK E s2 (H.next σ) 1 fun u7 =>
 slenK u7 fun n8 =>
 K2 (H.next σ) 0 (H.next s1) 0 u7 (Int.ofNat n8) (Int.ofNat 0) s2)))
def C44_1 : XC := (.seq (.ops (.op (some 4) .any [] (.mov (.con (V.int .i64 (Int.ofNat 0)))) <|
 .op (some 5) .any [] (.mov (.con (V.int .i64 (Int.ofNat 0)))) <|
 .nil))
 .ret)
def T44_1 (E : List (Nat × Blk)) (D : Den) (W : DrawFn) (σ : H) : Ans :=
 some ((V.tup [(V.int .i64 (Int.ofNat 0)), (V.int .i64 (Int.ofNat 0))]), σ)
def C44_2 : XC := (.seq (.ops (.op (some 17) .any [16, 15] (.bin .lss .none (.tmp 16) (.tmp 15)) <|
 .nil))
 (.seq (.cond (.tmp 17) .skip
 (.exit 0))
 (.seq (.block 1 (.seq (.ops (.op (some 18) .any [16] (.mov (.tmp 16)) <|
 .op (some 19) .any [14, 16] (.iaddrS 1 (.tmp 14) (.tmp 16)) <|
 .op (some 20) .str [19] (.load none (.tmp 19)) <|
 .op (some 6) .any [18] (.mov (.tmp 18)) <|
 .op (some 7) .any [20] (.mov (.tmp 20)) <|
 .nil))
 (.seq (.keep [(2, .ptr), (3, .ptr), (6, (.int .i64)), (7, .str), (14, .any), (15, (.int .i64)), (16, (.int .i64))] [] [] (.gdraw G44_0 H44_0 [(2, .ptr), (3, .ptr), (6, (.int .i64)), (14, .any), (15, (.int .i64)), (16, (.int .i64)), (39, .bool)]))
 (.cond (.tmp 39) (.seq (.ops (.op (some 40) .any [6] (.mov (.tmp 6)) <|
 .op (some 4) .any [40] (.mov (.tmp 40)) <|
 .op (some 5) .any [] (.mov (.con (V.int .i64 (Int.ofNat 14)))) <|
 .nil))
 .ret)
 .skip))))
 (.ops (.op (some 41) .any [16] (.bin .add .none (.tmp 16) (.con (V.int .i64 (Int.ofNat 1)))) <|
 .op (some 16) .any [41] (.mov (.tmp 41)) <|
 .nil)))))
def T44_2 (E : List (Nat × Blk)) (D : Den) (W : DrawFn) (K1 : H → Ans) (R2 : Nat → Nat → Nat → Nat → V → Int → Int → H → Ans) (v2b : Nat) (v2o : Nat) (v3b : Nat) (v3o : Nat) (v14 : V) (v15 : Int) (v16 : Int) (σ : H) : Ans :=
 condK (ltF v16 v15) (
 iaddrSK 1 v14 v16 fun b1 o2 =>
 ldK E σ b1 o2 fun u3 =>
 rtStr u3 fun x4 =>
 gdrawK (W G44_0 H44_0 [(2, (V.ptr v2b v2o)), (3, (V.ptr v3b v3o)), (6, (V.int .i64 v16)), (7, (V.str x4)), (14, v14), (15, (V.int .i64 v15)), (16, (V.int .i64 v16))] σ) fun e5 s6 =>
 getL e5 2 fun u7 =>
 rtPtr u7 fun b8 o9 =>
 getL e5 3 fun u10 =>
 rtPtr u10 fun b11 o12 =>
 getL e5 6 fun u13 =>
 rtInt .i64 u13 fun x14 =>
 getL e5 14 fun u15 =>
 getL e5 15 fun u16 =>
 rtInt .i64 u16 fun x17 =>
 getL e5 16 fun u18 =>
 rtInt .i64 u18 fun x19 =>
 getL e5 39 fun u20 =>
 rtBool u20 fun x21 =>
 condK x21 (
 some ((V.tup [(V.int .i64 x14), (V.int .i64 (Int.ofNat 14))]), s6)) (
 R2 b8 o9 b11 o12 u15 x17 (addF .i64 x19 (Int.ofNat 1)) s6)) (
 K1 σ)
theorem P44_0 (E : List (Nat × Blk)) (D : Den) (W : DrawFn) (N : Nat) (cc1 : XC) (cc2 : XC) (v0_0 : BS) (v0_1 : V) (v0_2 : V) (v0_3 : V) (v1_0 : BS) (v1_1 : V) (v1_2 : V) (v1_3 : V) (σ : H) :
  denC E D W N (C44_0 cc1 cc2) ⟨[(0, (V.agg [(V.str v0_0), v0_1, v0_2, v0_3])), (1, (V.agg [(V.str v1_0), v1_1, v1_2, v1_3]))], [], [], σ⟩ (Fin44 E) (fun _ _ => none) (Fin44 E) =
  T44_0 E D W (fun v2b v2o v3b v3o v14 v15 v16 σ => iterK (fun rec s' => denC E D W N cc2 s' (fun s'' => keepS [(2, .ptr), (3, .ptr), (14, .any), (15, (.int .i64)), (16, (.int .i64))] [] [] s'' rec) (blkK 0 (fun s' => denC E D W N (.keep [] [] [] cc1) s' (Fin44 E) (fun _ _ => none) (Fin44 E)) (fun _ _ => none)) (Fin44 E)) N ⟨[(2, (V.ptr v2b v2o)), (3, (V.ptr v3b v3o)), (14, v14), (15, (V.int .i64 v15)), (16, (V.int .i64 v16))], [], [], σ⟩) v0_0 v0_1 v0_2 v0_3 v1_0 v1_1 v1_2 v1_3 σ := by kernel_rfl
theorem P44_1 (E : List (Nat × Blk)) (D : Den) (W : DrawFn) (N : Nat) (σ : H) :
  denC E D W N (C44_1 ) ⟨[], [], [], σ⟩ (Fin44 E) (fun _ _ => none) (Fin44 E) =
  T44_1 E D W   σ := by kernel_rfl
theorem P44_2 (E : List (Nat × Blk)) (D : Den) (W : DrawFn) (N : Nat) (cc1 : XC) (li2 : St → Ans) (v2b : Nat) (v2o : Nat) (v3b : Nat) (v3o : Nat) (v14 : V) (v15 : Int) (v16 : Int) (σ : H) :
  denC E D W N (C44_2 ) ⟨[(2, (V.ptr v2b v2o)), (3, (V.ptr v3b v3o)), (14, v14), (15, (V.int .i64 v15)), (16, (V.int .i64 v16))], [], [], σ⟩ (fun s'' => keepS [(2, .ptr), (3, .ptr), (14, .any), (15, (.int .i64)), (16, (.int .i64))] [] [] s'' li2) (blkK 0 (fun s' => denC E D W N (.keep [] [] [] cc1) s' (Fin44 E) (fun _ _ => none) (Fin44 E)) (fun _ _ => none)) (Fin44 E) =
  T44_2 E D W (fun  σ => denC E D W N cc1 ⟨[], [], [], σ⟩ (Fin44 E) (fun _ _ => none) (Fin44 E)) (fun v2b v2o v3b v3o v14 v15 v16 σ => li2 ⟨[(2, (V.ptr v2b v2o)), (3, (V.ptr v3b v3o)), (14, v14), (15, (V.int .i64 v15)), (16, (V.int .i64 v16))], [], [], σ⟩) v2b v2o v3b v3o v14 v15 v16 σ := by kernel_rfl
def J44_1 (E : List (Nat × Blk)) (D : Den) (W : DrawFn) (N : Nat) : H → Ans := T44_1 E D W 
theorem JE44_1 (E : List (Nat × Blk)) (D : Den) (W : DrawFn) (N : Nat) (σ : H) :
  denC E D W N C44_1 ⟨[], [], [], σ⟩ (Fin44 E) (fun _ _ => none) (Fin44 E) = J44_1 E D W N  σ := by
  refine (P44_1 E D W N    σ).trans ?_
  kernel_rfl
def L44_2 (E : List (Nat × Blk)) (D : Den) (W : DrawFn) (N : Nat) (n : Nat) : Nat → Nat → Nat → Nat → V → Int → Int → H → Ans :=
  Nat.rec (fun _ _ _ _ _ _ _ _ => none) (fun _ ih => T44_2 E D W (J44_1 E D W N ) ih) n
theorem LE44_2 (E : List (Nat × Blk)) (D : Den) (W : DrawFn) (N : Nat) (n : Nat) : ∀ (v2b : Nat) (v2o : Nat) (v3b : Nat) (v3o : Nat) (v14 : V) (v15 : Int) (v16 : Int) (σ : H),
  iterK (fun rec s' => denC E D W N C44_2 s' (fun s'' => keepS [(2, .ptr), (3, .ptr), (14, .any), (15, (.int .i64)), (16, (.int .i64))] [] [] s'' rec) (blkK 0 (fun s' => denC E D W N (.keep [] [] [] C44_1) s' (Fin44 E) (fun _ _ => none) (Fin44 E)) (fun _ _ => none)) (Fin44 E)) n ⟨[(2, (V.ptr v2b v2o)), (3, (V.ptr v3b v3o)), (14, v14), (15, (V.int .i64 v15)), (16, (V.int .i64 v16))], [], [], σ⟩ = L44_2 E D W N n v2b v2o v3b v3o v14 v15 v16 σ := by
  induction n with
  | zero => intro v2b v2o v3b v3o v14 v15 v16 σ; rfl
  | succ n ihn =>
    intro v2b v2o v3b v3o v14 v15 v16 σ
    rw [iterK_succ]
    refine (P44_2 E D W N C44_1 (iterK (fun rec s' => denC E D W N C44_2 s' (fun s'' => keepS [(2, .ptr), (3, .ptr), (14, .any), (15, (.int .i64)), (16, (.int .i64))] [] [] s'' rec) (blkK 0 (fun s' => denC E D W N (.keep [] [] [] C44_1) s' (Fin44 E) (fun _ _ => none) (Fin44 E)) (fun _ _ => none)) (Fin44 E)) n) v2b v2o v3b v3o v14 v15 v16 σ).trans ?_
    simp only [ihn, JE44_1]
    kernel_rfl
def J44_0 (E : List (Nat × Blk)) (D : Den) (W : DrawFn) (N : Nat) : BS → V → V → V → BS → V → V → V → H → Ans := T44_0 E D W (L44_2 E D W N N)
theorem JE44_0 (E : List (Nat × Blk)) (D : Den) (W : DrawFn) (N : Nat) (v0_0 : BS) (v0_1 : V) (v0_2 : V) (v0_3 : V) (v1_0 : BS) (v1_1 : V) (v1_2 : V) (v1_3 : V) (σ : H) :
  denC E D W N (C44_0 C44_1 C44_2) ⟨[(0, (V.agg [(V.str v0_0), v0_1, v0_2, v0_3])), (1, (V.agg [(V.str v1_0), v1_1, v1_2, v1_3]))], [], [], σ⟩ (Fin44 E) (fun _ _ => none) (Fin44 E) = J44_0 E D W N v0_0 v0_1 v0_2 v0_3 v1_0 v1_1 v1_2 v1_3 σ := by
  refine (P44_0 E D W N C44_1 C44_2  v0_0 v0_1 v0_2 v0_3 v1_0 v1_1 v1_2 v1_3 σ).trans ?_
  simp only [LE44_2]
  kernel_rfl
def F44 (E : List (Nat × Blk)) (D : Den) (W : DrawFn) (N : Nat) (args : List V) (σ : H) : Ans :=
 rtCons args fun x1 l2 =>
 rtAgg x1 fun l3 =>
 rtCons l3 fun x4 l5 =>
 rtStr x4 fun x6 =>
 rtCons l5 fun x7 l8 =>
 rtCons l8 fun x9 l10 =>
 rtCons l10 fun x11 l12 =>
 rtNil l12 (
 rtCons l2 fun x13 l14 =>
 rtAgg x13 fun l15 =>
 rtCons l15 fun x16 l17 =>
 rtStr x16 fun x18 =>
 rtCons l17 fun x19 l20 =>
 rtCons l20 fun x21 l22 =>
 rtCons l22 fun x23 l24 =>
 rtNil l24 (
 rtNil l14 (
 J44_0 E D W N x6 x7 x9 x11 x18 x19 x21 x23 σ)))
def A44 : XFn := ⟨42, [(.agg [.str, .any, .any, .any]), (.agg [.str, .any, .any, .any])], [(.tmp 4), (.tmp 5)], (C44_0 C44_1 C44_2)⟩
theorem FE44 (E : List (Nat × Blk)) (D : Den) (W : DrawFn) (N : Nat) (args : List V) (σ : H) : runX E D W N A44 args σ = F44 E D W N args σ := by
  unfold F44
  simp only [← JE44_0]
  kernel_rfl
theorem AO44 : A44.body.ok = true := by kernel_rfl

/-! ### F48: slices.Clone___string_string_ -/
def Fin48 (E : List (Nat × Blk)) : St → Ans := fun s => resK E s [(.tmp 2)] fun l => some (oneV l, s.σ)
def C48_0 : XC := (.seq (.ops (.op (some 2) .any [] (.mov (.con V.nils)) <|
 .nil))
 (.seq (.seq (.ops (.op (some 3) .any [0] (.mov (.tmp 0)) <|
 .op (some 4) .any [3] (.bin .eql .slice (.tmp 3) (.con V.nils)) <|
 .nil))
 (.cond (.tmp 4) (.seq (.ops (.op (some 2) .any [] (.mov (.con V.nils)) <|
 .nil))
 .ret)
 .skip))
 (.seq (.ops (.op (some 5) .any [] (.buildSlice 9 0 [] []) <|
 .op (some 6) .any [0] (.mov (.tmp 0)) <|
 .op (some 7) .one [5, 6] (.append 9 1 16 (.tmp 5) (.tmp 6)) <|
 .op (some 2) .any [7] (.mov (.tmp 7)) <|
 .nil))
 .ret)))
def T48_0 (E : List (Nat × Blk)) (D : Den) (W : DrawFn) (v0 : V) (σ : H) : Ans :=
 eqK .slice v0 V.nils fun c1 =>
 condK c1 (
 some (V.nils, σ)) (
 let s2 := newB σ (.cells []);
 appK E 1 16 (V.sl (H.next σ) 0 0 (.ex 0)) v0 s2 fun u3 s4 =>
 rtOne u3 (
 some (u3, s4)))
theorem P48_0 (E : List (Nat × Blk)) (D : Den) (W : DrawFn) (N : Nat) (v0 : V) (σ : H) :
  denC E D W N (C48_0 ) ⟨[(0, v0)], [], [], σ⟩ (Fin48 E) (fun _ _ => none) (Fin48 E) =
  T48_0 E D W  v0 σ := by kernel_rfl
def J48_0 (E : List (Nat × Blk)) (D : Den) (W : DrawFn) (N : Nat) : V → H → Ans := T48_0 E D W 
theorem JE48_0 (E : List (Nat × Blk)) (D : Den) (W : DrawFn) (N : Nat) (v0 : V) (σ : H) :
  denC E D W N C48_0 ⟨[(0, v0)], [], [], σ⟩ (Fin48 E) (fun _ _ => none) (Fin48 E) = J48_0 E D W N v0 σ := by
  refine (P48_0 E D W N   v0 σ).trans ?_
  kernel_rfl
def F48 (E : List (Nat × Blk)) (D : Den) (W : DrawFn) (N : Nat) (args : List V) (σ : H) : Ans :=
 rtCons args fun x1 l2 =>
 rtNil l2 (
 J48_0 E D W N x1 σ)
def A48 : XFn := ⟨8, [.any], [(.tmp 2)], C48_0⟩
theorem FE48 (E : List (Nat × Blk)) (D : Den) (W : DrawFn) (N : Nat) (args : List V) (σ : H) : runX E D W N A48 args σ = F48 E D W N args σ := by
  unfold F48
  simp only [← JE48_0]
  kernel_rfl
theorem AO48 : A48.body.ok = true := by kernel_rfl

/-! ### F61: ogham_audit.Tables -/
def Fin61 (E : List (Nat × Blk)) : St → Ans := fun s => resK E s [(.tmp 2), (.tmp 3)] fun l => some (oneV l, s.σ)
def C61_0 (cc1 : XC) (cc2 : XC) : XC := (.seq (.ops (.op (some 1) .any [0] (.box 29 (.tmp 0)) <|
 .op (some 2) .any [] (.mov (.con V.nils)) <|
 .op (some 3) .any [] (.mov (.con (V.bool false))) <|
 .nil))
 (.seq (.ops (.op (some 4) .any [] (.mov (.con V.nils)) <|
 .nil))
 (.seq (.seq (.ops (.op (some 12) .any [1] (.faddr 1 (.tmp 1)) <|
 .op (some 13) .any [12] (.load none (.tmp 12)) <|
 .op (some 14) .any [13] (.len false (.tmp 13)) <|
 .op (some 15) .any [] (.mov (.con (V.int .i64 (Int.ofNat 0)))) <|
 .nil))
 (.block 0 (.loop [(4, .any), (13, .any), (14, (.int .i64)), (15, (.int .i64))] [] [] cc2)))
 (.keep [(4, .any)] [] [] cc1))))
def T61_0 (E : List (Nat × Blk)) (D : Den) (W : DrawFn) (K2 : V → V → Int → Int → H → Ans) (v0_0 : BS) (v0_1 : V) (σ : H) : Ans :=
 chk (allOne (V.cells (V.agg [(V.str v0_0), v0_1]))) (
 let s1 := newB σ (.cells (V.cells (V.agg [(V.str v0_0), v0_1])));
 ldK E s1 (H.next σ) 1 fun u2 =>
 slenK u2 fun n3 =>
 K2 V.nils u2 (Int.ofNat n3) (Int.ofNat 0) s1)
def C61_1 : XC := (.seq (.ops (.op (some 41) .any [4] (.mov (.tmp 4)) <|
 .op (some 2) .any [41] (.mov (.tmp 41)) <|
 .op (some 3) .any [] (.mov (.con (V.bool true))) <|
 .nil))
 .ret)
def T61_1 (E : List (Nat × Blk)) (D : Den) (W : DrawFn) (v4 : V) (σ : H) : Ans :=
 some ((V.tup [v4, (V.bool true)]), σ)
def C61_2 : XC := (.seq (.ops (.op (some 16) .any [15, 14] (.bin .lss .none (.tmp 15) (.tmp 14)) <|
 .nil))
 (.seq (.cond (.tmp 16) .skip
 (.exit 0))
 (.seq (.block 1 (.seq (.ops (.op (some 17) .any [13, 15] (.iaddrS 2 (.tmp 13) (.tmp 15)) <|
 .op (some 18) (.agg [(.int .i64), .str]) [17] (.load (some 2) (.tmp 17)) <|
 .pal 6 [] 31 [(V.int .i64 (Int.ofNat 0)), (V.str ⟨0, 0⟩)] <|
 .op none (.agg [(.int .i64), .str]) [6, 18] (.store 2 (.tmp 6) (.tmp 18)) <|
 .nil))
 (.seq (.ops (.op (some 20) .any [6] (.faddr 1 (.tmp 6)) <|
 .op (some 21) .str [20] (.load none (.tmp 20)) <|
 .op (some 22) (.tup [(.agg [.str, (.int .i64), .any, .any, .any]), (.int .i64), (.int .i64)]) [21] (.call 39 [(.tmp 21)]) <|
 .op (some 19) .any [22] (.mov (.tmp 22)) <|
 .op (some 23) .any [19] (.extract 0 (.tmp 19)) <|
 .op (some 24) .any [19] (.extract 1 (.tmp 19)) <|
 .op (some 25) .any [19] (.extract 2 (.tmp 19)) <|
 .pal 7 [] 99 [(V.str ⟨0, 0⟩), (V.int .i64 (Int.ofNat 0)), V.nils, V.nils, V.nils] <|
 .op none (.agg [.str, (.int .i64), .any, .any, .any]) [7, 23] (.store 5 (.tmp 7) (.tmp 23)) <|
 .op (some 8) .any [24] (.mov (.tmp 24)) <|
 .op (some 9) .any [25] (.mov (.tmp 25)) <|
 .nil))
 (.seq (.seq (.ops (.op (some 26) .any [9] (.mov (.tmp 9)) <|
 .op (some 27) .any [26] (.bin .neq .none (.tmp 26) (.con (V.int .i64 (Int.ofNat 0)))) <|
 .nil))
 (.cond (.tmp 27) (.seq (.ops (.op (some 2) .any [] (.mov (.con V.nils)) <|
 .op (some 3) .any [] (.mov (.con (V.bool false))) <|
 .nil))
 .ret)
 .skip))
 (.seq (.ops (.op (some 29) (.agg [.str, (.int .i64), .any, .any, .any]) [7] (.load (some 5) (.tmp 7)) <|
 .op (some 30) (.tup [(.agg [.str, .any, .any, .any]), (.int .i64), (.int .i64)]) [29] (.call 40 [(.tmp 29)]) <|
 .op (some 28) .any [30] (.mov (.tmp 30)) <|
 .op (some 31) .any [28] (.extract 0 (.tmp 28)) <|
 .op (some 32) .any [28] (.extract 1 (.tmp 28)) <|
 .op (some 33) .any [28] (.extract 2 (.tmp 28)) <|
 .pal 10 [] 50 [(V.str ⟨0, 0⟩), V.nils, V.nils, V.nils] <|
 .op none (.agg [.str, .any, .any, .any]) [10, 31] (.store 4 (.tmp 10) (.tmp 31)) <|
 .op (some 11) .any [32] (.mov (.tmp 32)) <|
 .op (some 9) .any [33] (.mov (.tmp 33)) <|
 .nil))
 (.seq (.seq (.ops (.op (some 34) .any [9] (.mov (.tmp 9)) <|
 .op (some 35) .any [34] (.bin .neq .none (.tmp 34) (.con (V.int .i64 (Int.ofNat 0)))) <|
 .nil))
 (.cond (.tmp 35) (.seq (.ops (.op (some 2) .any [] (.mov (.con V.nils)) <|
 .op (some 3) .any [] (.mov (.con (V.bool false))) <|
 .nil))
 .ret)
 .skip))
 (.ops (.op (some 36) .any [4] (.mov (.tmp 4)) <|
 .op (some 37) (.agg [.str, .any, .any, .any]) [10] (.load (some 4) (.tmp 10)) <|
 .op (some 38) .any [37] (.buildSlice 50 1 [(V.str ⟨0, 0⟩), V.nils, V.nils, V.nils] [(0, 4, (.tmp 37))]) <|
 .op (some 39) .one [36, 38] (.append 50 4 88 (.tmp 36) (.tmp 38)) <|
 .op (some 4) .any [39] (.mov (.tmp 39)) <|
 .nil))))))))
 (.ops (.op (some 40) .any [15] (.bin .add .none (.tmp 15) (.con (V.int .i64 (Int.ofNat 1)))) <|
 .op (some 15) .any [40] (.mov (.tmp 40)) <|
 .nil)))))
def T61_2 (E : List (Nat × Blk)) (D : Den) (W : DrawFn) (K1 : V → H → Ans) (R2 : V → V → Int → Int → H → Ans) (v4 : V) (v13 : V) (v14 : Int) (v15 : Int) (σ : H) : Ans :=
 condK (ltF v15 v14) (
 iaddrSK 2 v13 v15 fun b1 o2 =>
 ldnK E σ b1 o2 2 fun l3 =>
 rtCons l3 fun x4 l5 =>
 rtInt .i64 x4 fun x6 =>
 rtCons l5 fun x7 l8 =>
 rtStr x7 fun x9 =>
 rtNil l8 (
 callK (D 39 [(V.str x9)] σ) fun u10 s11 =>
 rtTup u10 fun l12 =>
 rtCons l12 fun x13 l14 =>
 rtAgg x13 fun l15 =>
 rtCons l15 fun x16 l17 =>
 rtStr x16 fun x18 =>
 rtCons l17 fun x19 l20 =>
 rtInt .i64 x19 fun x21 =>
 rtCons l20 fun x22 l23 =>
 rtCons l23 fun x24 l25 =>
 rtCons l25 fun x26 l27 =>
 rtNil l27 (
 rtCons l14 fun x28 l29 =>
 rtInt .i64 x28 fun x30 =>
 rtCons l29 fun x31 l32 =>
 rtInt .i64 x31 fun x33 =>
 rtNil l32 (
 chk (allOne [(V.str x18), (V.int .i64 x21), x22, x24, x26]) (
 condK (not (eqF x33 (Int.ofNat 0))) (
 some ((V.tup [V.nils, (V.bool false)]), s11)) (
 callK (D 40 [(V.agg [(V.str x18), (V.int .i64 x21), x22, x24, x26])] s11) fun u34 s35 =>
 rtTup u34 fun l36 =>
 rtCons l36 fun x37 l38 =>
 rtAgg x37 fun l39 =>
 rtCons l39 fun x40 l41 =>
 rtStr x40 fun x42 =>
 rtCons l41 fun x43 l44 =>
 rtCons l44 fun x45 l46 =>
 rtCons l46 fun x47 l48 =>
 rtNil l48 (
 rtCons l38 fun x49 l50 =>
 rtInt .i64 x49 fun x51 =>
 rtCons l50 fun x52 l53 =>
 rtInt .i64 x52 fun x54 =>
 rtNil l53 (
 chk (allOne [(V.str x42), x43, x45, x47]) (
 condK (not (eqF x54 (Int.ofNat 0))) (
 some ((V.tup [V.nils, (V.bool false)]), s35)) (
 chk (allOne [(V.str x42), x43, x45, x47]) (
 let s55 := newB s35 (.cells [(V.str x42), x43, x45, x47]);
 appK E 4 88 v4 (V.sl (H.next s35) 0 1 (.ex 1)) s55 fun u56 s57 =>
 rtOne u56 (
 R2 u56 v13 v14 (addF .i64 v15 (Int.ofNat 1)) s57)))))))))))) (
 K1 v4 σ)
theorem P61_0 (E : List (Nat × Blk)) (D : Den) (W : DrawFn) (N : Nat) (cc1 : XC) (cc2 : XC) (v0_0 : BS) (v0_1 : V) (σ : H) :
  denC E D W N (C61_0 cc1 cc2) ⟨[(0, (V.agg [(V.str v0_0), v0_1]))], [], [], σ⟩ (Fin61 E) (fun _ _ => none) (Fin61 E) =
  T61_0 E D W (fun v4 v13 v14 v15 σ => iterK (fun rec s' => denC E D W N cc2 s' (fun s'' => keepS [(4, .any), (13, .any), (14, (.int .i64)), (15, (.int .i64))] [] [] s'' rec) (blkK 0 (fun s' => denC E D W N (.keep [(4, .any)] [] [] cc1) s' (Fin61 E) (fun _ _ => none) (Fin61 E)) (fun _ _ => none)) (Fin61 E)) N ⟨[(4, v4), (13, v13), (14, (V.int .i64 v14)), (15, (V.int .i64 v15))], [], [], σ⟩) v0_0 v0_1 σ := by kernel_rfl
theorem P61_1 (E : List (Nat × Blk)) (D : Den) (W : DrawFn) (N : Nat) (v4 : V) (σ : H) :
  denC E D W N (C61_1 ) ⟨[(4, v4)], [], [], σ⟩ (Fin61 E) (fun _ _ => none) (Fin61 E) =
  T61_1 E D W  v4 σ := by kernel_rfl
theorem P61_2 (E : List (Nat × Blk)) (D : Den) (W : DrawFn) (N : Nat) (cc1 : XC) (li2 : St → Ans) (v4 : V) (v13 : V) (v14 : Int) (v15 : Int) (σ : H) :
  denC E D W N (C61_2 ) ⟨[(4, v4), (13, v13), (14, (V.int .i64 v14)), (15, (V.int .i64 v15))], [], [], σ⟩ (fun s'' => keepS [(4, .any), (13, .any), (14, (.int .i64)), (15, (.int .i64))] [] [] s'' li2) (blkK 0 (fun s' => denC E D W N (.keep [(4, .any)] [] [] cc1) s' (Fin61 E) (fun _ _ => none) (Fin61 E)) (fun _ _ => none)) (Fin61 E) =
  T61_2 E D W (fun v4 σ => denC E D W N cc1 ⟨[(4, v4)], [], [], σ⟩ (Fin61 E) (fun _ _ => none) (Fin61 E)) (fun v4 v13 v14 v15 σ => li2 ⟨[(4, v4), (13, v13), (14, (V.int .i64 v14)), (15, (V.int .i64 v15))], [], [], σ⟩) v4 v13 v14 v15 σ := by kernel_rfl
def J61_1 (E : List (Nat × Blk)) (D : Den) (W : DrawFn) (N : Nat) : V → H → Ans := T61_1 E D W 
theorem JE61_1 (E : List (Nat × Blk)) (D : Den) (W : DrawFn) (N : Nat) (v4 : V) (σ : H) :
  denC E D W N C61_1 ⟨[(4, v4)], [], [], σ⟩ (Fin61 E) (fun _ _ => none) (Fin61 E) = J61_1 E D W N v4 σ := by
  refine (P61_1 E D W N   v4 σ).trans ?_
  kernel_rfl
def L61_2 (E : List (Nat × Blk)) (D : Den) (W : DrawFn) (N : Nat) (n : Nat) : V → V → Int → Int → H → Ans :=
  Nat.rec (fun _ _ _ _ _ => none) (fun _ ih => T61_2 E D W (J61_1 E D W N ) ih) n
theorem LE61_2 (E : List (Nat × Blk)) (D : Den) (W : DrawFn) (N : Nat) (n : Nat) : ∀ (v4 : V) (v13 : V) (v14 : Int) (v15 : Int) (σ : H),
  iterK (fun rec s' => denC E D W N C61_2 s' (fun s'' => keepS [(4, .any), (13, .any), (14, (.int .i64)), (15, (.int .i64))] [] [] s'' rec) (blkK 0 (fun s' => denC E D W N (.keep [(4, .any)] [] [] C61_1) s' (Fin61 E) (fun _ _ => none) (Fin61 E)) (fun _ _ => none)) (Fin61 E)) n ⟨[(4, v4), (13, v13), (14, (V.int .i64 v14)), (15, (V.int .i64 v15))], [], [], σ⟩ = L61_2 E D W N n v4 v13 v14 v15 σ := by
  induction n with
  | zero => intro v4 v13 v14 v15 σ; rfl
  | succ n ihn =>
    intro v4 v13 v14 v15 σ
    rw [iterK_succ]
    refine (P61_2 E D W N C61_1 (iterK (fun rec s' => denC E D W N C61_2 s' (fun s'' => keepS [(4, .any), (13, .any), (14, (.int .i64)), (15, (.int .i64))] [] [] s'' rec) (blkK 0 (fun s' => denC E D W N (.keep [(4, .any)] [] [] C61_1) s' (Fin61 E) (fun _ _ => none) (Fin61 E)) (fun _ _ => none)) (Fin61 E)) n) v4 v13 v14 v15 σ).trans ?_
    simp only [ihn, JE61_1]
    kernel_rfl
def J61_0 (E : List (Nat × Blk)) (D : Den) (W : DrawFn) (N : Nat) : BS → V → H → Ans := T61_0 E D W (L61_2 E D W N N)
theorem JE61_0 (E : List (Nat × Blk)) (D : Den) (W : DrawFn) (N : Nat) (v0_0 : BS) (v0_1 : V) (σ : H) :
  denC E D W N (C61_0 C61_1 C61_2) ⟨[(0, (V.agg [(V.str v0_0), v0_1]))], [], [], σ⟩ (Fin61 E) (fun _ _ => none) (Fin61 E) = J61_0 E D W N v0_0 v0_1 σ := by
  refine (P61_0 E D W N C61_1 C61_2  v0_0 v0_1 σ).trans ?_
  simp only [LE61_2]
  kernel_rfl
def F61 (E : List (Nat × Blk)) (D : Den) (W : DrawFn) (N : Nat) (args : List V) (σ : H) : Ans :=
 rtCons args fun x1 l2 =>
 rtAgg x1 fun l3 =>
 rtCons l3 fun x4 l5 =>
 rtStr x4 fun x6 =>
 rtCons l5 fun x7 l8 =>
 rtNil l8 (
 rtNil l2 (
 J61_0 E D W N x6 x7 σ))
def A61 : XFn := ⟨42, [(.agg [.str, .any])], [(.tmp 2), (.tmp 3)], (C61_0 C61_1 C61_2)⟩
theorem FE61 (E : List (Nat × Blk)) (D : Den) (W : DrawFn) (N : Nat) (args : List V) (σ : H) : runX E D W N A61 args σ = F61 E D W N args σ := by
  unfold F61
  simp only [← JE61_0]
  kernel_rfl
theorem AO61 : A61.body.ok = true := by kernel_rfl

def C62_0 : XC := (.seq (.ops (.op (some 4) .any [] (.mov (.con (V.bool false))) <|
 .nil))
 (.seq (.ops (.op (some 5) .any [0] (.mov (.tmp 0)) <|
 .op (some 6) .any [1] (.mov (.tmp 1)) <|
 .op (some 7) (.int .i64) [5, 6] (.call 86 [(.tmp 5), (.tmp 6)]) <|
 .op (some 8) .any [7] (.bin .geq .none (.tmp 7) (.con (V.int .i64 (Int.ofNat 0)))) <|
 .op (some 4) .any [8] (.mov (.tmp 8)) <|
 .nil))
 .ret))
def A62 : XFn := ⟨9, [.any, .any], [(.tmp 4)], C62_0⟩
def C63_0 : XC := (.seq (.ops (.op (some 2) .any [0] (.box 31 (.tmp 0)) <|
 .op (some 3) .any [] (.mov (.con (V.bool false))) <|
 .nil))
 (.seq (.ops (.op (some 4) .any [1] (.faddr 0 (.tmp 1)) <|
 .op (some 5) .str [4] (.load none (.tmp 4)) <|
 .op (some 6) .any [2] (.faddr 1 (.tmp 2)) <|
 .op (some 7) .str [6] (.load none (.tmp 6)) <|
 .op (some 8) .bool [5, 7] (.call 64 [(.tmp 5), (.tmp 7)]) <|
 .op (some 9) .any [8] (.un .not (.tmp 8)) <|
 .op (some 3) .any [9] (.mov (.tmp 9)) <|
 .nil))
 .ret))
def A63 : XFn := ⟨10, [(.agg [(.int .i64), .str]), .any], [(.tmp 3)], C63_0⟩
def C64_0 : XC := (.seq (.ops (.op (some 4) .any [] (.mov (.con (V.bool false))) <|
 .nil))
 (.seq (.ops (.op (some 9) .any [1] (.mov (.tmp 1)) <|
 .op (some 10) (.tup [(.agg [.str, (.int .i64), .any, .any, .any]), (.int .i64), (.int .i64)]) [9] (.call 39 [(.tmp 9)]) <|
 .op (some 8) .any [10] (.mov (.tmp 10)) <|
 .op (some 11) .any [8] (.extract 0 (.tmp 8)) <|
 .op (some 12) .any [8] (.extract 1 (.tmp 8)) <|
 .op (some 13) .any [8] (.extract 2 (.tmp 8)) <|
 .pal 5 [] 99 [(V.str ⟨0, 0⟩), (V.int .i64 (Int.ofNat 0)), V.nils, V.nils, V.nils] <|
 .op none (.agg [.str, (.int .i64), .any, .any, .any]) [5, 11] (.store 5 (.tmp 5) (.tmp 11)) <|
 .op (some 6) .any [12] (.mov (.tmp 12)) <|
 .op (some 7) .any [13] (.mov (.tmp 13)) <|
 .nil))
 (.seq (.ops (.op (some 14) .any [7] (.mov (.tmp 7)) <|
 .op (some 15) .any [14] (.bin .eql .none (.tmp 14) (.con (V.int .i64 (Int.ofNat 0)))) <|
 .op (some 16) .any [15] (.mov (.tmp 15)) <|
 .grp 16 true (.op (some 17) .any [5, 16] (.faddr 0 (.tmp 5)) <|
 .op (some 18) .str [17, 16] (.load none (.tmp 17)) <|
 .op (some 19) .any [0, 16] (.mov (.tmp 0)) <|
 .op (some 20) .any [18, 19, 16] (.bin .eql .none (.tmp 18) (.tmp 19)) <|
 .nil) 21 [16, 20] (.tmp 16) (.tmp 20) (.con (V.bool false)) <|
 .op (some 22) .any [21] (.mov (.tmp 21)) <|
 .grp 22 true (.op (some 23) (.agg [.str, (.int .i64), .any, .any, .any]) [5, 22] (.load (some 5) (.tmp 5)) <|
 .op (some 24) .str [23, 22] (.call 41 [(.tmp 23)]) <|
 .op (some 25) .any [1, 22] (.mov (.tmp 1)) <|
 .op (some 26) .any [24, 25, 22] (.bin .eql .none (.tmp 24) (.tmp 25)) <|
 .nil) 27 [22, 26] (.tmp 22) (.tmp 26) (.con (V.bool false)) <|
 .op (some 4) .any [27] (.mov (.tmp 27)) <|
 .nil))
 .ret)))
def A64 : XFn := ⟨28, [.str, .str], [(.tmp 4)], C64_0⟩
def C65_0 : XC := (.seq (.ops (.op (some 2) .any [0] (.box 31 (.tmp 0)) <|
 .op (some 3) .any [] (.mov (.con (V.bool false))) <|
 .nil))
 (.seq (.ops (.op (some 4) .any [2] (.faddr 1 (.tmp 2)) <|
 .op (some 5) .str [4] (.load none (.tmp 4)) <|
 .op (some 6) .any [1] (.faddr 1 (.tmp 1)) <|
 .op (some 7) .str [6] (.load none (.tmp 6)) <|
 .op (some 8) .any [5, 7] (.bin .eql .none (.tmp 5) (.tmp 7)) <|
 .op (some 3) .any [8] (.mov (.tmp 8)) <|
 .nil))
 .ret))
def A65 : XFn := ⟨9, [(.agg [(.int .i64), .str]), .any], [(.tmp 3)], C65_0⟩
/-! ### F66: ogham_lex.Tokens -/
def Fin66 (E : List (Nat × Blk)) : St → Ans := fun s => resK E s [(.tmp 2), (.tmp 3), (.tmp 4)] fun l => some (oneV l, s.σ)
def C66_0 (cc1 : XC) (cc2 : XC) : XC := (.seq (.ops (.op (some 2) .any [] (.mov (.con V.nils)) <|
 .op (some 3) .any [] (.mov (.con (V.int .i64 (Int.ofNat 0)))) <|
 .op (some 4) .any [] (.mov (.con (V.int .i64 (Int.ofNat 0)))) <|
 .nil))
 (.seq (.seq (.ops (.op (some 10) .any [0] (.mov (.tmp 0)) <|
 .op (some 11) .any [10] (.len true (.tmp 10)) <|
 .op (some 12) .any [11] (.bin .gtr .none (.tmp 11) (.con (V.int .i64 (Int.ofNat 8000)))) <|
 .nil))
 (.cond (.tmp 12) (.seq (.ops (.op (some 2) .any [] (.mov (.con V.nils)) <|
 .op (some 3) .any [] (.mov (.con (V.int .i64 (Int.ofNat 0)))) <|
 .op (some 4) .any [] (.mov (.con (V.int .i64 (Int.ofNat 5)))) <|
 .nil))
 .ret)
 .skip))
 (.seq (.ops (.op (some 13) .any [0] (.mov (.tmp 0)) <|
 .op (some 14) (.agg [.str, (.int .i64)]) [13] (.build [(V.str ⟨0, 0⟩), (V.int .i64 (Int.ofNat 0))] [(0, 1, (.tmp 13))]) <|
 .op (some 15) (.agg [.str, (.int .i64)]) [14] (.build [(V.str ⟨0, 0⟩), (V.int .i64 (Int.ofNat 0))] [(0, 2, (.tmp 14))]) <|
 .op (some 16) .any [15] (.box 183 (.tmp 15)) <|
 .op (some 5) .any [16] (.mov (.tmp 16)) <|
 .nil))
 (.seq (.ops (.op (some 6) .any [] (.mov (.con V.nils)) <|
 .nil))
 (.seq (.seq (.ops (.op (some 17) .any [5] (.mov (.tmp 5)) <|
 .op (some 18) .any [17] (.nilck (.tmp 17)) <|
 .op (some 19) .any [18] (.faddr 0 (.tmp 18)) <|
 .op (some 20) (.tup []) [19] (.call 87 [(.tmp 19)]) <|
 .nil))
 (.block 0 (.loop [(0, .str), (5, .ptr), (6, .any)] [] [] cc2)))
 (.keep [(0, .str), (6, .any)] [] [] cc1))))))
def T66_0 (E : List (Nat × Blk)) (D : Den) (W : DrawFn) (K2 : BS → Nat → Nat → V → H → Ans) (v0 : BS) (σ : H) : Ans :=
 condK (ltF (Int.ofNat 8000) (Int.ofNat (BS.len v0))) (
 some ((V.tup [V.nils, (V.int .i64 (Int.ofNat 0)), (V.int .i64 (Int.ofNat 5))]), σ)) (
 chk (allOne (V.cells (V.agg [(V.str v0), (V.int .i64 (Int.ofNat 0))]))) (
 let s1 := newB σ (.cells (V.cells (V.agg [(V.str v0), (V.int .i64 (Int.ofNat 0))])));
 callK (D 87 [(V.ptr (H.next σ) 0)] s1) fun u2 s3 =>
 rtTup u2 fun l4 =>
 rtNil l4 (
 K2 v0 (H.next σ) 0 V.nils s3)))
def C66_1 : XC := (.seq (.ops (.op (some 53) .any [6] (.mov (.tmp 6)) <|
 .op (some 54) .any [0] (.mov (.tmp 0)) <|
 .op (some 55) .any [54] (.len true (.tmp 54)) <|
 .op (some 56) (.agg [(.int .i64), .str, (.int .i64)]) [55] (.build [(V.int .i64 (Int.ofNat 0)), (V.str ⟨0, 0⟩), (V.int .i64 (Int.ofNat 0))] [(2, 1, (.tmp 55))]) <|
 .op (some 57) .any [56] (.buildSlice 187 1 [(V.int .i64 (Int.ofNat 0)), (V.str ⟨0, 0⟩), (V.int .i64 (Int.ofNat 0))] [(0, 3, (.tmp 56))]) <|
 .op (some 58) .one [53, 57] (.append 187 3 32 (.tmp 53) (.tmp 57)) <|
 .op (some 2) .any [58] (.mov (.tmp 58)) <|
 .op (some 3) .any [] (.mov (.con (V.int .i64 (Int.ofNat 0)))) <|
 .op (some 4) .any [] (.mov (.con (V.int .i64 (Int.ofNat 0)))) <|
 .nil))
 .ret)
def T66_1 (E : List (Nat × Blk)) (D : Den) (W : DrawFn) (v0 : BS) (v6 : V) (σ : H) : Ans :=
 let s1 := newB σ (.cells [(V.int .i64 (Int.ofNat 0)), (V.str (BS.mk 0 0)), (V.int .i64 (Int.ofNat (BS.len v0)))]);
 appK E 3 32 v6 (V.sl (H.next σ) 0 1 (.ex 1)) s1 fun u2 s3 =>
 rtOne u2 (
 some ((V.tup [u2, (V.int .i64 (Int.ofNat 0)), (V.int .i64 (Int.ofNat 0))]), s3))
def C66_2 : XC := (.seq (.seq (.ops (.op (some 21) .any [5] (.mov (.tmp 5)) <|
 .op (some 22) .any [21] (.nilck (.tmp 21)) <|
 .op (some 23) .any [22] (.faddr 0 (.tmp 22)) <|
 .op (some 24) .any [23] (.faddr 1 (.tmp 23)) <|
 .op (some 25) (.int .i64) [24] (.load none (.tmp 24)) <|
 .op (some 26) .any [0] (.mov (.tmp 0)) <|
 .op (some 27) .any [26] (.len true (.tmp 26)) <|
 .op (some 28) .any [25, 27] (.bin .lss .none (.tmp 25) (.tmp 27)) <|
 .nil))
 (.cond (.tmp 28) .skip
 (.exit 0)))
 (.seq (.block 1 (.seq (.ops (.op (some 33) .any [5] (.mov (.tmp 5)) <|
 .op (some 34) .any [33] (.nilck (.tmp 33)) <|
 .op (some 35) .any [34] (.faddr 0 (.tmp 34)) <|
 .op (some 36) .any [35] (.faddr 1 (.tmp 35)) <|
 .op (some 37) (.int .i64) [36] (.load none (.tmp 36)) <|
 .op (some 7) .any [37] (.mov (.tmp 37)) <|
 .nil))
 (.seq (.ops (.op (some 39) .any [5] (.mov (.tmp 5)) <|
 .op (some 40) (.tup [(.int .i64), .str]) [39] (.call 88 [(.tmp 39)]) <|
 .op (some 38) .any [40] (.mov (.tmp 40)) <|
 .op (some 41) .any [38] (.extract 0 (.tmp 38)) <|
 .op (some 42) .any [38] (.extract 1 (.tmp 38)) <|
 .op (some 8) .any [41] (.mov (.tmp 41)) <|
 .op (some 9) .any [42] (.mov (.tmp 42)) <|
 .nil))
 (.seq (.seq (.ops (.op (some 43) .any [8] (.mov (.tmp 8)) <|
 .op (some 44) .any [43] (.bin .eql .none (.tmp 43) (.con (V.int .i64 (Int.ofNat 0)))) <|
 .nil))
 (.cond (.tmp 44) (.seq (.ops (.op (some 45) .any [7] (.mov (.tmp 7)) <|
 .op (some 2) .any [] (.mov (.con V.nils)) <|
 .op (some 3) .any [45] (.mov (.tmp 45)) <|
 .op (some 4) .any [] (.mov (.con (V.int .i64 (Int.ofNat 6)))) <|
 .nil))
 .ret)
 .skip))
 (.ops (.op (some 46) .any [6] (.mov (.tmp 6)) <|
 .op (some 47) .any [8] (.mov (.tmp 8)) <|
 .op (some 48) .any [9] (.mov (.tmp 9)) <|
 .op (some 49) .any [7] (.mov (.tmp 7)) <|
 .op (some 50) (.agg [(.int .i64), .str, (.int .i64)]) [47, 48, 49] (.build [(V.int .i64 (Int.ofNat 0)), (V.str ⟨0, 0⟩), (V.int .i64 (Int.ofNat 0))] [(0, 1, (.tmp 47)), (1, 1, (.tmp 48)), (2, 1, (.tmp 49))]) <|
 .op (some 51) .any [50] (.buildSlice 187 1 [(V.int .i64 (Int.ofNat 0)), (V.str ⟨0, 0⟩), (V.int .i64 (Int.ofNat 0))] [(0, 3, (.tmp 50))]) <|
 .op (some 52) .one [46, 51] (.append 187 3 32 (.tmp 46) (.tmp 51)) <|
 .op (some 6) .any [52] (.mov (.tmp 52)) <|
 .nil))))))
 (.ops (.op (some 29) .any [5] (.mov (.tmp 5)) <|
 .op (some 30) .any [29] (.nilck (.tmp 29)) <|
 .op (some 31) .any [30] (.faddr 0 (.tmp 30)) <|
 .op (some 32) (.tup []) [31] (.call 87 [(.tmp 31)]) <|
 .nil))))
def T66_2 (E : List (Nat × Blk)) (D : Den) (W : DrawFn) (K1 : BS → V → H → Ans) (R2 : BS → Nat → Nat → V → H → Ans) (v0 : BS) (v5b : Nat) (v5o : Nat) (v6 : V) (σ : H) : Ans :=
 ldK E σ v5b (Nat.add v5o 1) fun u1 =>
 rtInt .i64 u1 fun x2 =>
 condK (ltF x2 (Int.ofNat (BS.len v0))) (
 ldK E σ v5b (Nat.add v5o 1) fun u3 =>
 rtInt .i64 u3 fun x4 =>
 callK (D 88 [(V.ptr v5b v5o)] σ) fun u5 s6 =>
 rtTup u5 fun l7 =>
 rtCons l7 fun x8 l9 =>
 rtInt .i64 x8 fun x10 =>
 rtCons l9 fun x11 l12 =>
 rtStr x11 fun x13 =>
 rtNil l12 (
 condK (eqF x10 (Int.ofNat 0)) (
 some ((V.tup [V.nils, (V.int .i64 x4), (V.int .i64 (Int.ofNat 6))]), s6)) (
 let s14 := newB s6 (.cells [(V.int .i64 x10), (V.str x13), (V.int .i64 x4)]);
 appK E 3 32 v6 (V.sl (H.next s6) 0 1 (.ex 1)) s14 fun u15 s16 =>
 rtOne u15 (
 callK (D 87 [(V.ptr v5b v5o)] s16) fun u17 s18 =>
 rtTup u17 fun l19 =>
 rtNil l19 (
 R2 v0 v5b v5o u15 s18))))) (
 K1 v0 v6 σ)
theorem P66_0 (E : List (Nat × Blk)) (D : Den) (W : DrawFn) (N : Nat) (cc1 : XC) (cc2 : XC) (v0 : BS) (σ : H) :
  denC E D W N (C66_0 cc1 cc2) ⟨[(0, (V.str v0))], [], [], σ⟩ (Fin66 E) (fun _ _ => none) (Fin66 E) =
  T66_0 E D W (fun v0 v5b v5o v6 σ => iterK (fun rec s' => denC E D W N cc2 s' (fun s'' => keepS [(0, .str), (5, .ptr), (6, .any)] [] [] s'' rec) (blkK 0 (fun s' => denC E D W N (.keep [(0, .str), (6, .any)] [] [] cc1) s' (Fin66 E) (fun _ _ => none) (Fin66 E)) (fun _ _ => none)) (Fin66 E)) N ⟨[(0, (V.str v0)), (5, (V.ptr v5b v5o)), (6, v6)], [], [], σ⟩) v0 σ := by kernel_rfl
theorem P66_1 (E : List (Nat × Blk)) (D : Den) (W : DrawFn) (N : Nat) (v0 : BS) (v6 : V) (σ : H) :
  denC E D W N (C66_1 ) ⟨[(0, (V.str v0)), (6, v6)], [], [], σ⟩ (Fin66 E) (fun _ _ => none) (Fin66 E) =
  T66_1 E D W  v0 v6 σ := by kernel_rfl
theorem P66_2 (E : List (Nat × Blk)) (D : Den) (W : DrawFn) (N : Nat) (cc1 : XC) (li2 : St → Ans) (v0 : BS) (v5b : Nat) (v5o : Nat) (v6 : V) (σ : H) :
  denC E D W N (C66_2 ) ⟨[(0, (V.str v0)), (5, (V.ptr v5b v5o)), (6, v6)], [], [], σ⟩ (fun s'' => keepS [(0, .str), (5, .ptr), (6, .any)] [] [] s'' li2) (blkK 0 (fun s' => denC E D W N (.keep [(0, .str), (6, .any)] [] [] cc1) s' (Fin66 E) (fun _ _ => none) (Fin66 E)) (fun _ _ => none)) (Fin66 E) =
  T66_2 E D W (fun v0 v6 σ => denC E D W N cc1 ⟨[(0, (V.str v0)), (6, v6)], [], [], σ⟩ (Fin66 E) (fun _ _ => none) (Fin66 E)) (fun v0 v5b v5o v6 σ => li2 ⟨[(0, (V.str v0)), (5, (V.ptr v5b v5o)), (6, v6)], [], [], σ⟩) v0 v5b v5o v6 σ := by kernel_rfl
def J66_1 (E : List (Nat × Blk)) (D : Den) (W : DrawFn) (N : Nat) : BS → V → H → Ans := T66_1 E D W 
theorem JE66_1 (E : List (Nat × Blk)) (D : Den) (W : DrawFn) (N : Nat) (v0 : BS) (v6 : V) (σ : H) :
  denC E D W N C66_1 ⟨[(0, (V.str v0)), (6, v6)], [], [], σ⟩ (Fin66 E) (fun _ _ => none) (Fin66 E) = J66_1 E D W N v0 v6 σ := by
  refine (P66_1 E D W N   v0 v6 σ).trans ?_
  kernel_rfl
def L66_2 (E : List (Nat × Blk)) (D : Den) (W : DrawFn) (N : Nat) (n : Nat) : BS → Nat → Nat → V → H → Ans :=
  Nat.rec (fun _ _ _ _ _ => none) (fun _ ih => T66_2 E D W (J66_1 E D W N ) ih) n
theorem LE66_2 (E : List (Nat × Blk)) (D : Den) (W : DrawFn) (N : Nat) (n : Nat) : ∀ (v0 : BS) (v5b : Nat) (v5o : Nat) (v6 : V) (σ : H),
  iterK (fun rec s' => denC E D W N C66_2 s' (fun s'' => keepS [(0, .str), (5, .ptr), (6, .any)] [] [] s'' rec) (blkK 0 (fun s' => denC E D W N (.keep [(0, .str), (6, .any)] [] [] C66_1) s' (Fin66 E) (fun _ _ => none) (Fin66 E)) (fun _ _ => none)) (Fin66 E)) n ⟨[(0, (V.str v0)), (5, (V.ptr v5b v5o)), (6, v6)], [], [], σ⟩ = L66_2 E D W N n v0 v5b v5o v6 σ := by
  induction n with
  | zero => intro v0 v5b v5o v6 σ; rfl
  | succ n ihn =>
    intro v0 v5b v5o v6 σ
    rw [iterK_succ]
    refine (P66_2 E D W N C66_1 (iterK (fun rec s' => denC E D W N C66_2 s' (fun s'' => keepS [(0, .str), (5, .ptr), (6, .any)] [] [] s'' rec) (blkK 0 (fun s' => denC E D W N (.keep [(0, .str), (6, .any)] [] [] C66_1) s' (Fin66 E) (fun _ _ => none) (Fin66 E)) (fun _ _ => none)) (Fin66 E)) n) v0 v5b v5o v6 σ).trans ?_
    simp only [ihn, JE66_1]
    kernel_rfl
def J66_0 (E : List (Nat × Blk)) (D : Den) (W : DrawFn) (N : Nat) : BS → H → Ans := T66_0 E D W (L66_2 E D W N N)
theorem JE66_0 (E : List (Nat × Blk)) (D : Den) (W : DrawFn) (N : Nat) (v0 : BS) (σ : H) :
  denC E D W N (C66_0 C66_1 C66_2) ⟨[(0, (V.str v0))], [], [], σ⟩ (Fin66 E) (fun _ _ => none) (Fin66 E) = J66_0 E D W N v0 σ := by
  refine (P66_0 E D W N C66_1 C66_2  v0 σ).trans ?_
  simp only [LE66_2]
  kernel_rfl
def F66 (E : List (Nat × Blk)) (D : Den) (W : DrawFn) (N : Nat) (args : List V) (σ : H) : Ans :=
 rtCons args fun x1 l2 =>
 rtStr x1 fun x3 =>
 rtNil l2 (
 J66_0 E D W N x3 σ)
def A66 : XFn := ⟨59, [.str], [(.tmp 2), (.tmp 3), (.tmp 4)], (C66_0 C66_1 C66_2)⟩
theorem FE66 (E : List (Nat × Blk)) (D : Den) (W : DrawFn) (N : Nat) (args : List V) (σ : H) : runX E D W N A66 args σ = F66 E D W N args σ := by
  unfold F66
  simp only [← JE66_0]
  kernel_rfl
theorem AO66 : A66.body.ok = true := by kernel_rfl

def C67_0 (cc1 : XC) (cc2 : XC) : XC := (.seq (.ops (.op (some 2) .any [] (.mov (.con (V.bool false))) <|
 .nil))
 (.seq (.ops (.op (some 8) .any [0] (.mov (.tmp 0)) <|
 .op (some 9) (.tup [(.agg [(.int .i64), .str, (.int .i64)]), .bool]) [8] (.call 89 [(.tmp 8), (.con (V.int .i64 (Int.ofNat 1)))]) <|
 .op (some 7) .any [9] (.mov (.tmp 9)) <|
 .op (some 10) .any [7] (.extract 0 (.tmp 7)) <|
 .op (some 11) .any [7] (.extract 1 (.tmp 7)) <|
 .pal 3 [] 187 [(V.int .i64 (Int.ofNat 0)), (V.str ⟨0, 0⟩), (V.int .i64 (Int.ofNat 0))] <|
 .op none (.agg [(.int .i64), .str, (.int .i64)]) [3, 10] (.store 3 (.tmp 3) (.tmp 10)) <|
 .op (some 4) .any [11] (.mov (.tmp 11)) <|
 .nil))
 (.seq (.seq (.ops (.op (some 12) .any [4] (.mov (.tmp 4)) <|
 .op (some 13) .any [12] (.un .not (.tmp 12)) <|
 .op (some 14) .any [13] (.mov (.tmp 13)) <|
 .grp 14 false (.op (some 15) .any [0, 14] (.mov (.tmp 0)) <|
 .op (some 16) .any [14] (.buildSlice 9 1 [(V.str ⟨0, 0⟩)] [(0, 1, (.con (V.str ⟨11, 100710650190388740279911748⟩)))]) <|
 .op (some 17) .bool [15, 16, 14] (.call 90 [(.tmp 15), (.tmp 16)]) <|
 .op (some 18) .any [17, 14] (.un .not (.tmp 17)) <|
 .nil) 19 [14, 18] (.tmp 14) (.con (V.bool true)) (.tmp 18) <|
 .nil))
 (.cond (.tmp 19) (.seq (.ops (.op (some 2) .any [] (.mov (.con (V.bool false))) <|
 .nil))
 .ret)
 .skip))
 (.seq (.ops (.op (some 20) .any [0] (.mov (.tmp 0)) <|
 .op (some 21) .any [3] (.faddr 1 (.tmp 3)) <|
 .op (some 22) .str [21] (.load none (.tmp 21)) <|
 .op (some 23) .any [20] (.nilck (.tmp 20)) <|
 .op (some 24) .any [23] (.faddr 2 (.tmp 23)) <|
 .op (some 25) .any [24] (.faddr 0 (.tmp 24)) <|
 .op none .any [25, 22] (.store 1 (.tmp 25) (.tmp 22)) <|
 .nil))
 (.seq (.seq (.ops (.op (some 26) .any [] (.buildSlice 9 3 [(V.str ⟨0, 0⟩), (V.str ⟨0, 0⟩), (V.str ⟨0, 0⟩)] [(0, 1, (.con (V.str ⟨8, 6073459554577832005⟩))), (1, 1, (.con (V.str ⟨8, 6073459554577829193⟩))), (2, 1, (.con (V.str ⟨9, 1241215773001651606849⟩)))]) <|
 .op (some 27) .any [26] (.len false (.tmp 26)) <|
 .op (some 28) .any [] (.mov (.con (V.int .i64 (Int.ofNat 0)))) <|
 .nil))
 (.block 0 (.loop [(0, .ptr), (26, .any), (27, (.int .i64)), (28, (.int .i64))] [] [] cc2)))
 (.keep [(0, .ptr)] [] [] cc1))))))
def C67_1 (cc3 : XC) (cc4 : XC) : XC := (.seq (.seq (.ops (.op (some 50) .any [0] (.mov (.tmp 0)) <|
 .op (some 51) .any [] (.buildSlice 9 2 [(V.str ⟨0, 0⟩), (V.str ⟨0, 0⟩)] [(0, 1, (.con (V.str ⟨3, 4012602⟩))), (1, 1, (.con (V.str ⟨5, 336236856642⟩)))]) <|
 .op (some 52) .bool [50, 51] (.call 90 [(.tmp 50), (.tmp 51)]) <|
 .op (some 53) .any [52] (.un .not (.tmp 52)) <|
 .nil))
 (.cond (.tmp 53) (.seq (.ops (.op (some 2) .any [] (.mov (.con (V.bool false))) <|
 .nil))
 .ret)
 .skip))
 (.seq (.block 2 (.loop [(0, .ptr)] [] [] cc4))
 (.keep [(0, .ptr)] [] [] cc3)))
def C67_2 : XC := (.seq (.ops (.op (some 29) .any [28, 27] (.bin .lss .none (.tmp 28) (.tmp 27)) <|
 .nil))
 (.seq (.cond (.tmp 29) .skip
 (.exit 0))
 (.seq (.block 1 (.seq (.ops (.op (some 30) .any [28] (.mov (.tmp 28)) <|
 .op (some 31) .any [26, 28] (.iaddrS 1 (.tmp 26) (.tmp 28)) <|
 .op (some 32) .str [31] (.load none (.tmp 31)) <|
 .op (some 5) .any [30] (.mov (.tmp 30)) <|
 .op (some 6) .any [32] (.mov (.tmp 32)) <|
 .nil))
 (.seq (.seq (.ops (.op (some 33) .any [0] (.mov (.tmp 0)) <|
 .op (some 34) .any [33] (.nilck (.tmp 33)) <|
 .op (some 35) .any [34] (.faddr 0 (.tmp 34)) <|
 .op (some 36) .any [6] (.mov (.tmp 6)) <|
 .op (some 37) .bool [35, 36] (.call 91 [(.tmp 35), (.tmp 36)]) <|
 .op (some 38) .any [37] (.un .not (.tmp 37)) <|
 .nil))
 (.cond (.tmp 38) (.exit 1)
 .skip))
 (.seq (.ops (.op (some 39) .any [0] (.mov (.tmp 0)) <|
 .op (some 40) .any [5] (.mov (.tmp 5)) <|
 .op (some 41) .any [39] (.nilck (.tmp 39)) <|
 .op (some 42) .any [41] (.faddr 2 (.tmp 41)) <|
 .op (some 43) .any [42] (.faddr 1 (.tmp 42)) <|
 .op none .any [43, 40] (.store 1 (.tmp 43) (.tmp 40)) <|
 .nil))
 (.seq (.seq (.ops (.op (some 44) .any [0] (.mov (.tmp 0)) <|
 .op (some 45) .any [6] (.mov (.tmp 6)) <|
 .op (some 46) .any [45] (.buildSlice 9 2 [(V.str ⟨0, 0⟩), (V.str ⟨0, 0⟩)] [(0, 1, (.tmp 45)), (1, 1, (.con (V.str ⟨4, 1397178708⟩)))]) <|
 .op (some 47) .bool [44, 46] (.call 90 [(.tmp 44), (.tmp 46)]) <|
 .op (some 48) .any [47] (.un .not (.tmp 47)) <|
 .nil))
 (.cond (.tmp 48) (.seq (.ops (.op (some 2) .any [] (.mov (.con (V.bool false))) <|
 .nil))
 .ret)
 .skip))
 (.exit 0))))))
 (.ops (.op (some 49) .any [28] (.bin .add .none (.tmp 28) (.con (V.int .i64 (Int.ofNat 1)))) <|
 .op (some 28) .any [49] (.mov (.tmp 49)) <|
 .nil)))))
def C67_3 : XC := (.seq (.seq (.ops (.op (some 63) .any [0] (.mov (.tmp 0)) <|
 .op (some 64) .any [] (.buildSlice 9 1 [(V.str ⟨0, 0⟩)] [(0, 1, (.con (V.str ⟨3, 4476485⟩)))]) <|
 .op (some 65) .bool [63, 64] (.call 90 [(.tmp 63), (.tmp 64)]) <|
 .op (some 66) .any [65] (.un .not (.tmp 65)) <|
 .nil))
 (.cond (.tmp 66) (.seq (.ops (.op (some 2) .any [] (.mov (.con (V.bool false))) <|
 .nil))
 .ret)
 .skip))
 (.seq (.ops (.op (some 68) .any [0] (.mov (.tmp 0)) <|
 .op (some 69) (.tup [(.agg [(.int .i64), .str, (.int .i64)]), .bool]) [68] (.call 89 [(.tmp 68), (.con (V.int .i64 (Int.ofNat 0)))]) <|
 .op (some 67) .any [69] (.mov (.tmp 69)) <|
 .op (some 70) .any [67] (.extract 0 (.tmp 67)) <|
 .op (some 71) .any [67] (.extract 1 (.tmp 67)) <|
 .op (some 4) .any [71] (.mov (.tmp 71)) <|
 .nil))
 (.seq (.ops (.op (some 72) .any [4] (.mov (.tmp 4)) <|
 .op (some 2) .any [72] (.mov (.tmp 72)) <|
 .nil))
 .ret)))
def C67_4 : XC := (.seq (.seq (.ops (.op (some 54) .any [0] (.mov (.tmp 0)) <|
 .op (some 55) .any [54] (.nilck (.tmp 54)) <|
 .op (some 56) .any [55] (.faddr 0 (.tmp 55)) <|
 .op (some 57) (.agg [(.int .i64), .str, (.int .i64)]) [56] (.call 92 [(.tmp 56)]) <|
 .op (some 58) (.int .i64) [57] (.field 0 none (.tmp 57)) <|
 .op (some 59) .any [58] (.bin .eql .none (.tmp 58) (.con (V.int .i64 (Int.ofNat 1)))) <|
 .nil))
 (.cond (.tmp 59) .skip
 (.exit 2)))
 (.block 3 (.seq (.ops (.op (some 60) .any [0] (.mov (.tmp 0)) <|
 .op (some 61) .bool [60] (.call 93 [(.tmp 60)]) <|
 .op (some 62) .any [61] (.un .not (.tmp 61)) <|
 .nil))
 (.cond (.tmp 62) (.seq (.ops (.op (some 2) .any [] (.mov (.con (V.bool false))) <|
 .nil))
 .ret)
 .skip))))
def A67 : XFn := ⟨73, [.ptr], [(.tmp 2)], (C67_0 (C67_1 C67_3 C67_4) C67_2)⟩
/-! ### F68: ogham_refs.Order -/
def G68_0 : List AOper := [⟨(some 17), .mov (.tmp 5), none⟩, ⟨(some 18), .load (some 5) (.tmp 1), none⟩, ⟨(some 19), .load (some 5) (.tmp 1), none⟩, ⟨(some 20), .mov (.tmp 6), none⟩, ⟨(some 21), .call 95 [(.tmp 19), (.tmp 20)], none⟩, ⟨(some 22), .call 94 [(.tmp 18), (.tmp 21)], none⟩, ⟨(some 23), .buildSlice 32 1 [V.nils] [(0, 1, (.tmp 22))], none⟩, ⟨(some 24), .append 32 1 24 (.tmp 17) (.tmp 23), none⟩, ⟨(some 5), .mov (.tmp 24), none⟩]
def H68_0 : List DP := [⟨0, [5]⟩, ⟨0, [1]⟩, ⟨0, [1]⟩, ⟨0, [6]⟩, ⟨12, [19, 20]⟩, ⟨30, [18, 21]⟩, ⟨62, [22]⟩, ⟨127, [17, 23]⟩, ⟨255, [24]⟩]
def Fin68 (E : List (Nat × Blk)) : St → Ans := fun s => resK E s [(.tmp 2), (.tmp 3), (.tmp 4)] fun l => some (oneV l, s.σ)
def C68_0 (cc1 : XC) (cc2 : XC) : XC := (.seq (.ops (.op (some 1) .any [0] (.box 99 (.tmp 0)) <|
 .op (some 2) .any [] (.mov (.con V.nils)) <|
 .op (some 3) .any [] (.mov (.con (V.int .i64 (Int.ofNat 0)))) <|
 .op (some 4) .any [] (.mov (.con (V.int .i64 (Int.ofNat 0)))) <|
 .nil))
 (.seq (.ops (.op (some 5) .any [] (.mov (.con V.nils)) <|
 .nil))
 (.seq (.seq (.ops (.op (some 11) .any [1] (.faddr 2 (.tmp 1)) <|
 .op (some 12) .any [11] (.load none (.tmp 11)) <|
 .op (some 13) .any [12] (.len false (.tmp 12)) <|
 .op (some 14) .any [] (.mov (.con (V.int .i64 (Int.ofNat 0)))) <|
 .nil))
 (.block 0 (.loop [(1, .ptr), (5, .any), (13, (.int .i64)), (14, (.int .i64))] [] [] cc2)))
 (.keep [(1, .ptr), (5, .any)] [] [] cc1))))
def T68_0 (E : List (Nat × Blk)) (D : Den) (W : DrawFn) (K2 : Nat → Nat → V → Int → Int → H → Ans) (v0_0 : BS) (v0_1 : Int) (v0_2 : V) (v0_3 : V) (v0_4 : V) (σ : H) : Ans :=
 chk (allOne (V.cells (V.agg [(V.str v0_0), (V.int .i64 v0_1), v0_2, v0_3, v0_4]))) (
 let s1 := newB σ (.cells (V.cells (V.agg [(V.str v0_0), (V.int .i64 v0_1), v0_2, v0_3, v0_4])));
 ldK E s1 (H.next σ) 2 fun u2 =>
 slenK u2 fun n3 =>
 K2 (H.next σ) 0 V.nils (Int.ofNat n3) (Int.ofNat 0) s1)
def C68_1 (cc3 : XC) (cc4 : XC) : XC := (.seq (.seq (.ops (.op (some 27) (.agg [.str, (.int .i64), .any, .any, .any]) [1] (.load (some 5) (.tmp 1)) <|
 .op (some 28) .any [5] (.mov (.tmp 5)) <|
 .op (some 29) (.tup [(.int .i64), (.int .i64)]) [27, 28] (.call 96 [(.tmp 27), (.tmp 28)]) <|
 .op (some 26) .any [29] (.mov (.tmp 29)) <|
 .op (some 30) .any [26] (.extract 0 (.tmp 26)) <|
 .op (some 31) .any [26] (.extract 1 (.tmp 26)) <|
 .op (some 7) .any [30] (.mov (.tmp 30)) <|
 .op (some 8) .any [31] (.mov (.tmp 31)) <|
 .nil))
 (.seq (.ops (.op (some 32) .any [8] (.mov (.tmp 8)) <|
 .op (some 33) .any [32] (.bin .neq .none (.tmp 32) (.con (V.int .i64 (Int.ofNat 0)))) <|
 .nil))
 (.cond (.tmp 33) (.seq (.ops (.op (some 34) .any [7] (.mov (.tmp 7)) <|
 .op (some 35) .any [8] (.mov (.tmp 8)) <|
 .op (some 2) .any [] (.mov (.con V.nils)) <|
 .op (some 3) .any [34] (.mov (.tmp 34)) <|
 .op (some 4) .any [35] (.mov (.tmp 35)) <|
 .nil))
 .ret)
 .skip)))
 (.seq (.ops (.op (some 9) .any [] (.alloc 32 [V.nils]) <|
 .nil))
 (.seq (.block 2 (.loop [(1, .ptr), (5, .any), (9, .ptr)] [] [] cc4))
 (.keep [(9, .ptr)] [] [] cc3))))
def T68_1 (E : List (Nat × Blk)) (D : Den) (W : DrawFn) (K4 : Nat → Nat → V → Nat → Nat → H → Ans) (v1b : Nat) (v1o : Nat) (v5 : V) (σ : H) : Ans :=
 ldnK E σ v1b v1o 5 fun l1 =>
 rtCons l1 fun x2 l3 =>
 rtStr x2 fun x4 =>
 rtCons l3 fun x5 l6 =>
 rtInt .i64 x5 fun x7 =>
 rtCons l6 fun x8 l9 =>
 rtCons l9 fun x10 l11 =>
 rtCons l11 fun x12 l13 =>
 rtNil l13 (
 callK (D 96 [(V.agg [(V.str x4), (V.int .i64 x7), x8, x10, x12]), v5] σ) fun u14 s15 =>
 rtTup u14 fun l16 =>
 rtCons l16 fun x17 l18 =>
 rtInt .i64 x17 fun x19 =>
 rtCons l18 fun x20 l21 =>
 rtInt .i64 x20 fun x22 =>
 rtNil l21 (
 condK (not (eqF x22 (Int.ofNat 0))) (
 some ((V.tup [V.nils, (V.int .i64 x19), (V.int .i64 x22)]), s15)) (
 let s23 := newB s15 (.cells [V.nils]);
 K4 v1b v1o v5 (H.next s15) 0 s23)))
def C68_2 : XC := (.seq (.ops (.op (some 15) .any [14, 13] (.bin .lss .none (.tmp 14) (.tmp 13)) <|
 .nil))
 (.seq (.cond (.tmp 15) .skip
 (.exit 0))
 (.seq (.block 1 (.seq (.ops (.op (some 16) .any [14] (.mov (.tmp 14)) <|
 .op (some 6) .any [16] (.mov (.tmp 16)) <|
 .nil))
 (.keep [(1, .ptr), (5, .any), (6, (.int .i64)), (13, (.int .i64)), (14, (.int .i64))] [] [] (.gdraw G68_0 H68_0 [(1, .ptr), (5, .any), (13, (.int .i64)), (14, (.int .i64))]))))
 (.ops (.op (some 25) .any [14] (.bin .add .none (.tmp 14) (.con (V.int .i64 (Int.ofNat 1)))) <|
 .op (some 14) .any [25] (.mov (.tmp 25)) <|
 .nil)))))
def T68_2 (E : List (Nat × Blk)) (D : Den) (W : DrawFn) (K1 : Nat → Nat → V → H → Ans) (R2 : Nat → Nat → V → Int → Int → H → Ans) (v1b : Nat) (v1o : Nat) (v5 : V) (v13 : Int) (v14 : Int) (σ : H) : Ans :=
 condK (ltF v14 v13) (
 gdrawK (W G68_0 H68_0 [(1, (V.ptr v1b v1o)), (5, v5), (6, (V.int .i64 v14)), (13, (V.int .i64 v13)), (14, (V.int .i64 v14))] σ) fun e1 s2 =>
 getL e1 1 fun u3 =>
 rtPtr u3 fun b4 o5 =>
 getL e1 5 fun u6 =>
 getL e1 13 fun u7 =>
 rtInt .i64 u7 fun x8 =>
 getL e1 14 fun u9 =>
 rtInt .i64 u9 fun x10 =>
 R2 b4 o5 u6 x8 (addF .i64 x10 (Int.ofNat 1)) s2) (
 K1 v1b v1o v5 σ)
def C68_3 : XC := (.seq (.ops (.op (some 66) .any [9] (.load none (.tmp 9)) <|
 .op (some 2) .any [66] (.mov (.tmp 66)) <|
 .op (some 3) .any [] (.mov (.con (V.int .i64 (Int.ofNat 0)))) <|
 .op (some 4) .any [] (.mov (.con (V.int .i64 (Int.ofNat 0)))) <|
 .nil))
 .ret)
def T68_3 (E : List (Nat × Blk)) (D : Den) (W : DrawFn) (v9b : Nat) (v9o : Nat) (σ : H) : Ans :=
 ldK E σ v9b v9o fun u1 =>
 some ((V.tup [u1, (V.int .i64 (Int.ofNat 0)), (V.int .i64 (Int.ofNat 0))]), σ)
def C68_4 (cc5 : XC) : XC := (.seq (.seq (.ops (.op (some 36) .any [9] (.load none (.tmp 9)) <|
 .op (some 37) .any [36] (.len false (.tmp 36)) <|
 .op (some 38) .any [1] (.faddr 2 (.tmp 1)) <|
 .op (some 39) .any [38] (.load none (.tmp 38)) <|
 .op (some 40) .any [39] (.len false (.tmp 39)) <|
 .op (some 41) .any [37, 40] (.bin .lss .none (.tmp 37) (.tmp 40)) <|
 .nil))
 (.cond (.tmp 41) .skip
 (.exit 2)))
 (.block 3 (.seq (.ops (.op (some 42) .any [1] (.faddr 2 (.tmp 1)) <|
 .op (some 43) .any [42] (.load none (.tmp 42)) <|
 .op (some 44) .any [43] (.len false (.tmp 43)) <|
 .op (some 45) .any [] (.mov (.con (V.int .i64 (Int.ofNat 0)))) <|
 .nil))
 (.block 4 (.loop [(1, .ptr), (5, .any), (9, .ptr), (44, (.int .i64)), (45, (.int .i64))] [] [] cc5)))))
def T68_4 (E : List (Nat × Blk)) (D : Den) (W : DrawFn) (K3 : Nat → Nat → H → Ans) (K5 : Nat → Nat → V → Nat → Nat → Int → Int → H → Ans) (v1b : Nat) (v1o : Nat) (v5 : V) (v9b : Nat) (v9o : Nat) (σ : H) : Ans :=
 ldK E σ v9b v9o fun u1 =>
 slenK u1 fun n2 =>
 ldK E σ v1b (Nat.add v1o 2) fun u3 =>
 slenK u3 fun n4 =>
 condK (ltF (Int.ofNat n2) (Int.ofNat n4)) (
 ldK E σ v1b (Nat.add v1o 2) fun u5 =>
 slenK u5 fun n6 =>
 K5 v1b v1o v5 v9b v9o (Int.ofNat n6) (Int.ofNat 0) σ) (
 K3 v9b v9o σ)
def C68_5 : XC := (.seq (.ops (.op (some 46) .any [45, 44] (.bin .lss .none (.tmp 45) (.tmp 44)) <|
 .nil))
 (.seq (.cond (.tmp 46) .skip
 (.exit 4))
 (.seq (.block 5 (.seq (.ops (.op (some 47) .any [45] (.mov (.tmp 45)) <|
 .op (some 10) .any [47] (.mov (.tmp 47)) <|
 .nil))
 (.seq (.ops (.op (some 48) .any [9] (.load none (.tmp 9)) <|
 .op (some 49) .any [10] (.mov (.tmp 10)) <|
 .op (some 50) .bool [48, 49] (.call 97 [(.tmp 48), (.tmp 49)]) <|
 .op (some 51) .any [50] (.un .not (.tmp 50)) <|
 .op (some 52) .any [51] (.mov (.tmp 51)) <|
 .grp 52 true (.op (some 53) .any [5, 52] (.mov (.tmp 5)) <|
 .op (some 54) .any [10, 52] (.mov (.tmp 10)) <|
 .op (some 55) .any [53, 54, 52] (.iaddrS 1 (.tmp 53) (.tmp 54)) <|
 .op (some 56) .any [55, 52] (.load none (.tmp 55)) <|
 .op (some 57) .any [9, 52] (.mkfn 99 [] [(.tmp 9)]) <|
 .op (some 58) .bool [56, 57, 52] (.call 98 [(.tmp 56), (.tmp 57)]) <|
 .op (some 59) .any [58, 52] (.un .not (.tmp 58)) <|
 .nil) 60 [52, 59] (.tmp 52) (.tmp 59) (.con (V.bool false)) <|
 .nil))
 (.cond (.tmp 60) (.seq (.ops (.op (some 61) .any [9] (.load none (.tmp 9)) <|
 .op (some 62) .any [10] (.mov (.tmp 10)) <|
 .op (some 63) .any [62] (.buildSlice 3 1 [(V.int .i64 (Int.ofNat 0))] [(0, 1, (.tmp 62))]) <|
 .op (some 64) .one [61, 63] (.append 3 1 8 (.tmp 61) (.tmp 63)) <|
 .op none .any [9, 64] (.store 1 (.tmp 9) (.tmp 64)) <|
 .nil))
 (.exit 4))
 .skip))))
 (.ops (.op (some 65) .any [45] (.bin .add .none (.tmp 45) (.con (V.int .i64 (Int.ofNat 1)))) <|
 .op (some 45) .any [65] (.mov (.tmp 65)) <|
 .nil)))))
def T68_5 (E : List (Nat × Blk)) (D : Den) (W : DrawFn) (R4 : Nat → Nat → V → Nat → Nat → H → Ans) (R5 : Nat → Nat → V → Nat → Nat → Int → Int → H → Ans) (v1b : Nat) (v1o : Nat) (v5 : V) (v9b : Nat) (v9o : Nat) (v44 : Int) (v45 : Int) (σ : H) : Ans :=
 condK (ltF v45 v44) (
 ldK E σ v9b v9o fun u1 =>
 callK (D 97 [u1, (V.int .i64 v45)] σ) fun u2 s3 =>
 rtBool u2 fun x4 =>
 joinB (fun c5 s6 =>
 condK c5 (
 ldK E s6 v9b v9o fun u8 =>
 let s9 := newB s6 (.cells [(V.int .i64 v45)]);
 appK E 1 8 u8 (V.sl (H.next s6) 0 1 (.ex 1)) s9 fun u10 s11 =>
 rtOne u10 (
 stK 1 v9b v9o u10 s11 fun s12 =>
 R4 v1b v1o v5 v9b v9o s12)) (
 R5 v1b v1o v5 v9b v9o v44 (addF .i64 v45 (Int.ofNat 1)) s6)) fun k7 =>
 condK (not x4) (
 iaddrSK 1 v5 v45 fun b13 o14 =>
 ldK E s3 b13 o14 fun u15 =>
 callK (D 98 [u15, (V.fn 99 [] [(V.ptr v9b v9o)])] s3) fun u16 s17 =>
 rtBool u16 fun x18 =>
 k7 (not x18) s17) (
 k7 false s3)) (
 R4 v1b v1o v5 v9b v9o σ)
theorem P68_0 (E : List (Nat × Blk)) (D : Den) (W : DrawFn) (N : Nat) (cc1 : XC) (cc2 : XC) (v0_0 : BS) (v0_1 : Int) (v0_2 : V) (v0_3 : V) (v0_4 : V) (σ : H) :
  denC E D W N (C68_0 cc1 cc2) ⟨[(0, (V.agg [(V.str v0_0), (V.int .i64 v0_1), v0_2, v0_3, v0_4]))], [], [], σ⟩ (Fin68 E) (fun _ _ => none) (Fin68 E) =
  T68_0 E D W (fun v1b v1o v5 v13 v14 σ => iterK (fun rec s' => denC E D W N cc2 s' (fun s'' => keepS [(1, .ptr), (5, .any), (13, (.int .i64)), (14, (.int .i64))] [] [] s'' rec) (blkK 0 (fun s' => denC E D W N (.keep [(1, .ptr), (5, .any)] [] [] cc1) s' (Fin68 E) (fun _ _ => none) (Fin68 E)) (fun _ _ => none)) (Fin68 E)) N ⟨[(1, (V.ptr v1b v1o)), (5, v5), (13, (V.int .i64 v13)), (14, (V.int .i64 v14))], [], [], σ⟩) v0_0 v0_1 v0_2 v0_3 v0_4 σ := by kernel_rfl
theorem P68_1 (E : List (Nat × Blk)) (D : Den) (W : DrawFn) (N : Nat) (cc3 : XC) (cc4 : XC) (v1b : Nat) (v1o : Nat) (v5 : V) (σ : H) :
  denC E D W N (C68_1 cc3 cc4) ⟨[(1, (V.ptr v1b v1o)), (5, v5)], [], [], σ⟩ (Fin68 E) (fun _ _ => none) (Fin68 E) =
  T68_1 E D W (fun v1b v1o v5 v9b v9o σ => iterK (fun rec s' => denC E D W N cc4 s' (fun s'' => keepS [(1, .ptr), (5, .any), (9, .ptr)] [] [] s'' rec) (blkK 2 (fun s' => denC E D W N (.keep [(9, .ptr)] [] [] cc3) s' (Fin68 E) (fun _ _ => none) (Fin68 E)) (fun _ _ => none)) (Fin68 E)) N ⟨[(1, (V.ptr v1b v1o)), (5, v5), (9, (V.ptr v9b v9o))], [], [], σ⟩) v1b v1o v5 σ := by kernel_rfl
theorem P68_2 (E : List (Nat × Blk)) (D : Den) (W : DrawFn) (N : Nat) (cc1 : XC) (li2 : St → Ans) (v1b : Nat) (v1o : Nat) (v5 : V) (v13 : Int) (v14 : Int) (σ : H) :
  denC E D W N (C68_2 ) ⟨[(1, (V.ptr v1b v1o)), (5, v5), (13, (V.int .i64 v13)), (14, (V.int .i64 v14))], [], [], σ⟩ (fun s'' => keepS [(1, .ptr), (5, .any), (13, (.int .i64)), (14, (.int .i64))] [] [] s'' li2) (blkK 0 (fun s' => denC E D W N (.keep [(1, .ptr), (5, .any)] [] [] cc1) s' (Fin68 E) (fun _ _ => none) (Fin68 E)) (fun _ _ => none)) (Fin68 E) =
  T68_2 E D W (fun v1b v1o v5 σ => denC E D W N cc1 ⟨[(1, (V.ptr v1b v1o)), (5, v5)], [], [], σ⟩ (Fin68 E) (fun _ _ => none) (Fin68 E)) (fun v1b v1o v5 v13 v14 σ => li2 ⟨[(1, (V.ptr v1b v1o)), (5, v5), (13, (V.int .i64 v13)), (14, (V.int .i64 v14))], [], [], σ⟩) v1b v1o v5 v13 v14 σ := by kernel_rfl
theorem P68_3 (E : List (Nat × Blk)) (D : Den) (W : DrawFn) (N : Nat) (v9b : Nat) (v9o : Nat) (σ : H) :
  denC E D W N (C68_3 ) ⟨[(9, (V.ptr v9b v9o))], [], [], σ⟩ (Fin68 E) (fun _ _ => none) (Fin68 E) =
  T68_3 E D W  v9b v9o σ := by kernel_rfl
theorem P68_4 (E : List (Nat × Blk)) (D : Den) (W : DrawFn) (N : Nat) (cc3 : XC) (cc5 : XC) (li4 : St → Ans) (v1b : Nat) (v1o : Nat) (v5 : V) (v9b : Nat) (v9o : Nat) (σ : H) :
  denC E D W N (C68_4 cc5) ⟨[(1, (V.ptr v1b v1o)), (5, v5), (9, (V.ptr v9b v9o))], [], [], σ⟩ (fun s'' => keepS [(1, .ptr), (5, .any), (9, .ptr)] [] [] s'' li4) (blkK 2 (fun s' => denC E D W N (.keep [(9, .ptr)] [] [] cc3) s' (Fin68 E) (fun _ _ => none) (Fin68 E)) (fun _ _ => none)) (Fin68 E) =
  T68_4 E D W (fun v9b v9o σ => denC E D W N cc3 ⟨[(9, (V.ptr v9b v9o))], [], [], σ⟩ (Fin68 E) (fun _ _ => none) (Fin68 E)) (fun v1b v1o v5 v9b v9o v44 v45 σ => iterK (fun rec s' => denC E D W N cc5 s' (fun s'' => keepS [(1, .ptr), (5, .any), (9, .ptr), (44, (.int .i64)), (45, (.int .i64))] [] [] s'' rec) (blkK 4 (fun s'' => keepS [(1, .ptr), (5, .any), (9, .ptr)] [] [] s'' li4) (blkK 3 (fun s'' => keepS [(1, .ptr), (5, .any), (9, .ptr)] [] [] s'' li4) (blkK 2 (fun s' => denC E D W N (.keep [(9, .ptr)] [] [] cc3) s' (Fin68 E) (fun _ _ => none) (Fin68 E)) (fun _ _ => none)))) (Fin68 E)) N ⟨[(1, (V.ptr v1b v1o)), (5, v5), (9, (V.ptr v9b v9o)), (44, (V.int .i64 v44)), (45, (V.int .i64 v45))], [], [], σ⟩) v1b v1o v5 v9b v9o σ := by kernel_rfl
theorem P68_5 (E : List (Nat × Blk)) (D : Den) (W : DrawFn) (N : Nat) (cc3 : XC) (li4 : St → Ans) (li5 : St → Ans) (v1b : Nat) (v1o : Nat) (v5 : V) (v9b : Nat) (v9o : Nat) (v44 : Int) (v45 : Int) (σ : H) :
  denC E D W N (C68_5 ) ⟨[(1, (V.ptr v1b v1o)), (5, v5), (9, (V.ptr v9b v9o)), (44, (V.int .i64 v44)), (45, (V.int .i64 v45))], [], [], σ⟩ (fun s'' => keepS [(1, .ptr), (5, .any), (9, .ptr), (44, (.int .i64)), (45, (.int .i64))] [] [] s'' li5) (blkK 4 (fun s'' => keepS [(1, .ptr), (5, .any), (9, .ptr)] [] [] s'' li4) (blkK 3 (fun s'' => keepS [(1, .ptr), (5, .any), (9, .ptr)] [] [] s'' li4) (blkK 2 (fun s' => denC E D W N (.keep [(9, .ptr)] [] [] cc3) s' (Fin68 E) (fun _ _ => none) (Fin68 E)) (fun _ _ => none)))) (Fin68 E) =
  T68_5 E D W (fun v1b v1o v5 v9b v9o σ => li4 ⟨[(1, (V.ptr v1b v1o)), (5, v5), (9, (V.ptr v9b v9o))], [], [], σ⟩) (fun v1b v1o v5 v9b v9o v44 v45 σ => li5 ⟨[(1, (V.ptr v1b v1o)), (5, v5), (9, (V.ptr v9b v9o)), (44, (V.int .i64 v44)), (45, (V.int .i64 v45))], [], [], σ⟩) v1b v1o v5 v9b v9o v44 v45 σ := by kernel_rfl
def J68_3 (E : List (Nat × Blk)) (D : Den) (W : DrawFn) (N : Nat) : Nat → Nat → H → Ans := T68_3 E D W 
theorem JE68_3 (E : List (Nat × Blk)) (D : Den) (W : DrawFn) (N : Nat) (v9b : Nat) (v9o : Nat) (σ : H) :
  denC E D W N C68_3 ⟨[(9, (V.ptr v9b v9o))], [], [], σ⟩ (Fin68 E) (fun _ _ => none) (Fin68 E) = J68_3 E D W N v9b v9o σ := by
  refine (P68_3 E D W N   v9b v9o σ).trans ?_
  kernel_rfl
def L68_5 (E : List (Nat × Blk)) (D : Den) (W : DrawFn) (N : Nat) (R4 : Nat → Nat → V → Nat → Nat → H → Ans) (n : Nat) : Nat → Nat → V → Nat → Nat → Int → Int → H → Ans :=
  Nat.rec (fun _ _ _ _ _ _ _ _ => none) (fun _ ih => T68_5 E D W R4 ih) n
theorem LE68_5 (E : List (Nat × Blk)) (D : Den) (W : DrawFn) (N : Nat) (li4 : St → Ans) (n : Nat) : ∀ (v1b : Nat) (v1o : Nat) (v5 : V) (v9b : Nat) (v9o : Nat) (v44 : Int) (v45 : Int) (σ : H),
  iterK (fun rec s' => denC E D W N C68_5 s' (fun s'' => keepS [(1, .ptr), (5, .any), (9, .ptr), (44, (.int .i64)), (45, (.int .i64))] [] [] s'' rec) (blkK 4 (fun s'' => keepS [(1, .ptr), (5, .any), (9, .ptr)] [] [] s'' li4) (blkK 3 (fun s'' => keepS [(1, .ptr), (5, .any), (9, .ptr)] [] [] s'' li4) (blkK 2 (fun s' => denC E D W N (.keep [(9, .ptr)] [] [] C68_3) s' (Fin68 E) (fun _ _ => none) (Fin68 E)) (fun _ _ => none)))) (Fin68 E)) n ⟨[(1, (V.ptr v1b v1o)), (5, v5), (9, (V.ptr v9b v9o)), (44, (V.int .i64 v44)), (45, (V.int .i64 v45))], [], [], σ⟩ = L68_5 E D W N (fun v1b v1o v5 v9b v9o σ => li4 ⟨[(1, (V.ptr v1b v1o)), (5, v5), (9, (V.ptr v9b v9o))], [], [], σ⟩) n v1b v1o v5 v9b v9o v44 v45 σ := by
  induction n with
  | zero => intro v1b v1o v5 v9b v9o v44 v45 σ; rfl
  | succ n ihn =>
    intro v1b v1o v5 v9b v9o v44 v45 σ
    rw [iterK_succ]
    refine (P68_5 E D W N C68_3 li4 (iterK (fun rec s' => denC E D W N C68_5 s' (fun s'' => keepS [(1, .ptr), (5, .any), (9, .ptr), (44, (.int .i64)), (45, (.int .i64))] [] [] s'' rec) (blkK 4 (fun s'' => keepS [(1, .ptr), (5, .any), (9, .ptr)] [] [] s'' li4) (blkK 3 (fun s'' => keepS [(1, .ptr), (5, .any), (9, .ptr)] [] [] s'' li4) (blkK 2 (fun s' => denC E D W N (.keep [(9, .ptr)] [] [] C68_3) s' (Fin68 E) (fun _ _ => none) (Fin68 E)) (fun _ _ => none)))) (Fin68 E)) n) v1b v1o v5 v9b v9o v44 v45 σ).trans ?_
    simp only [ihn]
    kernel_rfl
def L68_4 (E : List (Nat × Blk)) (D : Den) (W : DrawFn) (N : Nat) (n : Nat) : Nat → Nat → V → Nat → Nat → H → Ans :=
  Nat.rec (fun _ _ _ _ _ _ => none) (fun _ ih => T68_4 E D W (J68_3 E D W N ) (L68_5 E D W N ih N)) n
theorem LE68_4 (E : List (Nat × Blk)) (D : Den) (W : DrawFn) (N : Nat) (n : Nat) : ∀ (v1b : Nat) (v1o : Nat) (v5 : V) (v9b : Nat) (v9o : Nat) (σ : H),
  iterK (fun rec s' => denC E D W N (C68_4 C68_5) s' (fun s'' => keepS [(1, .ptr), (5, .any), (9, .ptr)] [] [] s'' rec) (blkK 2 (fun s' => denC E D W N (.keep [(9, .ptr)] [] [] C68_3) s' (Fin68 E) (fun _ _ => none) (Fin68 E)) (fun _ _ => none)) (Fin68 E)) n ⟨[(1, (V.ptr v1b v1o)), (5, v5), (9, (V.ptr v9b v9o))], [], [], σ⟩ = L68_4 E D W N n v1b v1o v5 v9b v9o σ := by
  induction n with
  | zero => intro v1b v1o v5 v9b v9o σ; rfl
  | succ n ihn =>
    intro v1b v1o v5 v9b v9o σ
    rw [iterK_succ]
    refine (P68_4 E D W N C68_3 C68_5 (iterK (fun rec s' => denC E D W N (C68_4 C68_5) s' (fun s'' => keepS [(1, .ptr), (5, .any), (9, .ptr)] [] [] s'' rec) (blkK 2 (fun s' => denC E D W N (.keep [(9, .ptr)] [] [] C68_3) s' (Fin68 E) (fun _ _ => none) (Fin68 E)) (fun _ _ => none)) (Fin68 E)) n) v1b v1o v5 v9b v9o σ).trans ?_
    simp only [ihn, JE68_3, LE68_5]
    kernel_rfl
def J68_1 (E : List (Nat × Blk)) (D : Den) (W : DrawFn) (N : Nat) : Nat → Nat → V → H → Ans := T68_1 E D W (L68_4 E D W N N)
theorem JE68_1 (E : List (Nat × Blk)) (D : Den) (W : DrawFn) (N : Nat) (v1b : Nat) (v1o : Nat) (v5 : V) (σ : H) :
  denC E D W N (C68_1 C68_3 (C68_4 C68_5)) ⟨[(1, (V.ptr v1b v1o)), (5, v5)], [], [], σ⟩ (Fin68 E) (fun _ _ => none) (Fin68 E) = J68_1 E D W N v1b v1o v5 σ := by
  refine (P68_1 E D W N C68_3 (C68_4 C68_5)  v1b v1o v5 σ).trans ?_
  simp only [LE68_4]
  kernel_rfl
def L68_2 (E : List (Nat × Blk)) (D : Den) (W : DrawFn) (N : Nat) (n : Nat) : Nat → Nat → V → Int → Int → H → Ans :=
  Nat.rec (fun _ _ _ _ _ _ => none) (fun _ ih => T68_2 E D W (J68_1 E D W N ) ih) n
theorem LE68_2 (E : List (Nat × Blk)) (D : Den) (W : DrawFn) (N : Nat) (n : Nat) : ∀ (v1b : Nat) (v1o : Nat) (v5 : V) (v13 : Int) (v14 : Int) (σ : H),
  iterK (fun rec s' => denC E D W N C68_2 s' (fun s'' => keepS [(1, .ptr), (5, .any), (13, (.int .i64)), (14, (.int .i64))] [] [] s'' rec) (blkK 0 (fun s' => denC E D W N (.keep [(1, .ptr), (5, .any)] [] [] (C68_1 C68_3 (C68_4 C68_5))) s' (Fin68 E) (fun _ _ => none) (Fin68 E)) (fun _ _ => none)) (Fin68 E)) n ⟨[(1, (V.ptr v1b v1o)), (5, v5), (13, (V.int .i64 v13)), (14, (V.int .i64 v14))], [], [], σ⟩ = L68_2 E D W N n v1b v1o v5 v13 v14 σ := by
  induction n with
  | zero => intro v1b v1o v5 v13 v14 σ; rfl
  | succ n ihn =>
    intro v1b v1o v5 v13 v14 σ
    rw [iterK_succ]
    refine (P68_2 E D W N (C68_1 C68_3 (C68_4 C68_5)) (iterK (fun rec s' => denC E D W N C68_2 s' (fun s'' => keepS [(1, .ptr), (5, .any), (13, (.int .i64)), (14, (.int .i64))] [] [] s'' rec) (blkK 0 (fun s' => denC E D W N (.keep [(1, .ptr), (5, .any)] [] [] (C68_1 C68_3 (C68_4 C68_5))) s' (Fin68 E) (fun _ _ => none) (Fin68 E)) (fun _ _ => none)) (Fin68 E)) n) v1b v1o v5 v13 v14 σ).trans ?_
    simp only [ihn, JE68_1]
    kernel_rfl
def J68_0 (E : List (Nat × Blk)) (D : Den) (W : DrawFn) (N : Nat) : BS → Int → V → V → V → H → Ans := T68_0 E D W (L68_2 E D W N N)
theorem JE68_0 (E : List (Nat × Blk)) (D : Den) (W : DrawFn) (N : Nat) (v0_0 : BS) (v0_1 : Int) (v0_2 : V) (v0_3 : V) (v0_4 : V) (σ : H) :
  denC E D W N (C68_0 (C68_1 C68_3 (C68_4 C68_5)) C68_2) ⟨[(0, (V.agg [(V.str v0_0), (V.int .i64 v0_1), v0_2, v0_3, v0_4]))], [], [], σ⟩ (Fin68 E) (fun _ _ => none) (Fin68 E) = J68_0 E D W N v0_0 v0_1 v0_2 v0_3 v0_4 σ := by
  refine (P68_0 E D W N (C68_1 C68_3 (C68_4 C68_5)) C68_2  v0_0 v0_1 v0_2 v0_3 v0_4 σ).trans ?_
  simp only [LE68_2]
  kernel_rfl
def F68 (E : List (Nat × Blk)) (D : Den) (W : DrawFn) (N : Nat) (args : List V) (σ : H) : Ans :=
 rtCons args fun x1 l2 =>
 rtAgg x1 fun l3 =>
 rtCons l3 fun x4 l5 =>
 rtStr x4 fun x6 =>
 rtCons l5 fun x7 l8 =>
 rtInt .i64 x7 fun x9 =>
 rtCons l8 fun x10 l11 =>
 rtCons l11 fun x12 l13 =>
 rtCons l13 fun x14 l15 =>
 rtNil l15 (
 rtNil l2 (
 J68_0 E D W N x6 x9 x10 x12 x14 σ))
def A68 : XFn := ⟨67, [(.agg [.str, (.int .i64), .any, .any, .any])], [(.tmp 2), (.tmp 3), (.tmp 4)], (C68_0 (C68_1 C68_3 (C68_4 C68_5)) C68_2)⟩
theorem FE68 (E : List (Nat × Blk)) (D : Den) (W : DrawFn) (N : Nat) (args : List V) (σ : H) : runX E D W N A68 args σ = F68 E D W N args σ := by
  unfold F68
  simp only [← JE68_0]
  kernel_rfl
theorem AO68 : A68.body.ok = true := by kernel_rfl

/-! ### F69: __ogham_table.maker_.node -/
def Fin69 (E : List (Nat × Blk)) : St → Ans := fun s => resK E s [(.tmp 6), (.tmp 7)] fun l => some (oneV l, s.σ)
def C69_0 (cc1 : XC) : XC := (.seq (.ops (.op (some 6) .any [] (.mov (.con (V.int .i64 (Int.ofNat 0)))) <|
 .op (some 7) .any [] (.mov (.con (V.int .i64 (Int.ofNat 0)))) <|
 .nil))
 (.seq (.seq (.ops (.op (some 12) .any [1] (.mov (.tmp 1)) <|
 .op (some 13) .any [12] (.bin .lss .none (.tmp 12) (.con (V.int .i64 (Int.ofNat 0)))) <|
 .op (some 14) .any [13] (.mov (.tmp 13)) <|
 .grp 14 false (.op (some 15) .any [1, 14] (.mov (.tmp 1)) <|
 .op (some 16) .any [0, 14] (.mov (.tmp 0)) <|
 .op (some 17) .any [16, 14] (.nilck (.tmp 16)) <|
 .op (some 18) .any [17, 14] (.faddr 1 (.tmp 17)) <|
 .op (some 19) .any [18, 14] (.faddr 4 (.tmp 18)) <|
 .op (some 20) .any [19, 14] (.load none (.tmp 19)) <|
 .op (some 21) .any [20, 14] (.len false (.tmp 20)) <|
 .op (some 22) .any [15, 21, 14] (.bin .geq .none (.tmp 15) (.tmp 21)) <|
 .nil) 23 [14, 22] (.tmp 14) (.con (V.bool true)) (.tmp 22) <|
 .nil))
 (.cond (.tmp 23) (.seq (.ops (.op (some 6) .any [] (.mov (.con (V.int .i64 (Int.ofNat 0)))) <|
 .op (some 7) .any [] (.mov (.con (V.int .i64 (Int.ofNat 9)))) <|
 .nil))
 .ret)
 .skip))
 (.seq (.ops (.op (some 24) .any [0] (.mov (.tmp 0)) <|
 .op (some 25) .any [24] (.nilck (.tmp 24)) <|
 .op (some 26) .any [25] (.faddr 1 (.tmp 25)) <|
 .op (some 27) .any [26] (.faddr 4 (.tmp 26)) <|
 .op (some 28) .any [27] (.load none (.tmp 27)) <|
 .op (some 29) .any [1] (.mov (.tmp 1)) <|
 .op (some 30) .any [28, 29] (.iaddrS 16 (.tmp 28) (.tmp 29)) <|
 .op (some 31) (.agg [(.int .i64), .str, .bool, (.int .i64), (.int .i64), .bool, .bool, .bool, .bool, (.int .i64), (.int .i64), .any, .any, (.int .i64), .bool, (.int .i64)]) [30] (.load (some 16) (.tmp 30)) <|
 .pal 8 [] 203 [(V.int .i64 (Int.ofNat 0)), (V.str ⟨0, 0⟩), (V.bool false), (V.int .i64 (Int.ofNat 0)), (V.int .i64 (Int.ofNat 0)), (V.bool false), (V.bool false), (V.bool false), (V.bool false), (V.int .i64 (Int.ofNat 0)), (V.int .i64 (Int.ofNat 0)), V.nils, V.nils, (V.int .i64 (Int.ofNat 0)), (V.bool false), (V.int .i64 (Int.ofNat 0))] <|
 .op none (.agg [(.int .i64), .str, .bool, (.int .i64), (.int .i64), .bool, .bool, .bool, .bool, (.int .i64), (.int .i64), .any, .any, (.int .i64), .bool, (.int .i64)]) [8, 31] (.store 16 (.tmp 8) (.tmp 31)) <|
 .nil))
 (.seq (.ops (.op (some 9) .any [] (.mov (.con (V.int .i64 (Int.ofNat 0)))) <|
 .nil))
 (.seq (.ops (.op (some 10) .any [] (.mov (.con (V.int .i64 (Int.ofNat 0)))) <|
 .nil))
 (.seq (.seq (.ops (.op (some 32) .any [8] (.faddr 0 (.tmp 8)) <|
 .op (some 33) (.int .i64) [32] (.load none (.tmp 32)) <|
 .op (some 34) .any [33] (.bin .eql .none (.tmp 33) (.con (V.int .i64 (Int.ofNat 11)))) <|
 .nil))
 (.cond (.tmp 34) (.seq (.draw (.op (some 35) .any [0] (.mov (.tmp 0)) <|
 .op (some 36) .any [35] (.nilck (.tmp 35)) <|
 .op (some 37) .any [36] (.faddr 1 (.tmp 36)) <|
 .op (some 38) (.agg [.str, (.int .i64), .any, .any, .any]) [37] (.load (some 5) (.tmp 37)) <|
 .op (some 39) .any [8] (.faddr 1 (.tmp 8)) <|
 .op (some 40) .str [39] (.load none (.tmp 39)) <|
 .op (some 41) (.int .i64) [38, 40] (.call 100 [(.tmp 38), (.tmp 40)]) <|
 .op (some 11) .any [41] (.mov (.tmp 41)) <|
 .nil) [0, 1, 3, 7, 0, 16, 63, 127])
 (.seq (.seq (.ops (.op (some 42) .any [11] (.mov (.tmp 11)) <|
 .op (some 43) .any [42] (.bin .lss .none (.tmp 42) (.con (V.int .i64 (Int.ofNat 0)))) <|
 .op (some 44) .any [43] (.mov (.tmp 43)) <|
 .grp 44 false (.op (some 45) .any [11, 44] (.mov (.tmp 11)) <|
 .op (some 46) .any [0, 44] (.mov (.tmp 0)) <|
 .op (some 47) .any [46, 44] (.nilck (.tmp 46)) <|
 .op (some 48) .any [47, 44] (.faddr 1 (.tmp 47)) <|
 .op (some 49) .any [48, 44] (.faddr 3 (.tmp 48)) <|
 .op (some 50) .any [49, 44] (.load none (.tmp 49)) <|
 .op (some 51) .any [50, 44] (.len false (.tmp 50)) <|
 .op (some 52) .any [45, 51, 44] (.bin .geq .none (.tmp 45) (.tmp 51)) <|
 .nil) 53 [44, 52] (.tmp 44) (.con (V.bool true)) (.tmp 52) <|
 .nil))
 (.cond (.tmp 53) (.seq (.ops (.op (some 6) .any [] (.mov (.con (V.int .i64 (Int.ofNat 0)))) <|
 .op (some 7) .any [] (.mov (.con (V.int .i64 (Int.ofNat 9)))) <|
 .nil))
 .ret)
 .skip))
 (.ops (.op (some 55) .any [0] (.mov (.tmp 0)) <|
 .op (some 56) .any [0] (.mov (.tmp 0)) <|
 .op (some 57) .any [56] (.nilck (.tmp 56)) <|
 .op (some 58) .any [57] (.faddr 1 (.tmp 57)) <|
 .op (some 59) .any [58] (.faddr 3 (.tmp 58)) <|
 .op (some 60) .any [59] (.load none (.tmp 59)) <|
 .op (some 61) .any [11] (.mov (.tmp 11)) <|
 .op (some 62) .any [60, 61] (.iaddrS 1 (.tmp 60) (.tmp 61)) <|
 .op (some 63) (.int .i64) [62] (.load none (.tmp 62)) <|
 .op (some 64) .any [2] (.mov (.tmp 2)) <|
 .op (some 65) (.tup [(.int .i64), (.int .i64)]) [55, 63, 64] (.call 69 [(.tmp 55), (.tmp 63), (.tmp 64)]) <|
 .op (some 54) .any [65] (.mov (.tmp 65)) <|
 .op (some 66) .any [54] (.extract 0 (.tmp 54)) <|
 .op (some 67) .any [54] (.extract 1 (.tmp 54)) <|
 .op (some 9) .any [66] (.mov (.tmp 66)) <|
 .op (some 10) .any [67] (.mov (.tmp 67)) <|
 .nil))))
 (.ops (.op (some 69) .any [0] (.mov (.tmp 0)) <|
 .op (some 70) (.agg [(.int .i64), .str, .bool, (.int .i64), (.int .i64), .bool, .bool, .bool, .bool, (.int .i64), (.int .i64), .any, .any, (.int .i64), .bool, (.int .i64)]) [8] (.load (some 16) (.tmp 8)) <|
 .op (some 71) .any [2] (.mov (.tmp 2)) <|
 .op (some 72) (.tup [(.int .i64), (.int .i64)]) [69, 70, 71] (.call 101 [(.tmp 69), (.tmp 70), (.tmp 71)]) <|
 .op (some 68) .any [72] (.mov (.tmp 72)) <|
 .op (some 73) .any [68] (.extract 0 (.tmp 68)) <|
 .op (some 74) .any [68] (.extract 1 (.tmp 68)) <|
 .op (some 9) .any [73] (.mov (.tmp 73)) <|
 .op (some 10) .any [74] (.mov (.tmp 74)) <|
 .nil))))
 (.keep [(0, .ptr), (9, (.int .i64)), (10, (.int .i64))] [8] [(8, [(.int .i64), .str, .bool, (.int .i64), (.int .i64), .bool, .bool, .bool, .bool, (.int .i64), (.int .i64), .any, .any, (.int .i64), .bool, (.int .i64)])] cc1)))))))
def T69_0 (E : List (Nat × Blk)) (D : Den) (W : DrawFn) (K1 : Nat → Nat → Int → Int → Int → BS → Bool → Int → Int → Bool → Bool → Bool → Bool → Int → Int → V → V → Int → Bool → Int → H → Ans) (v0b : Nat) (v0o : Nat) (v1 : Int) (v2 : Int) (σ : H) : Ans :=
 joinB (fun c1 s2 =>
 condK c1 (
 some ((V.tup [(V.int .i64 (Int.ofNat 0)), (V.int .i64 (Int.ofNat 9))]), s2)) (
 ldK E s2 v0b (Nat.add (Nat.add v0o 1) 4) fun u4 =>
 iaddrSK 16 u4 v1 fun b5 o6 =>
 ldnK E s2 b5 o6 16 fun l7 =>
 rtCons l7 fun x8 l9 =>
 rtInt .i64 x8 fun x10 =>
 rtCons l9 fun x11 l12 =>
 rtStr x11 fun x13 =>
 rtCons l12 fun x14 l15 =>
 rtBool x14 fun x16 =>
 rtCons l15 fun x17 l18 =>
 rtInt .i64 x17 fun x19 =>
 rtCons l18 fun x20 l21 =>
 rtInt .i64 x20 fun x22 =>
 rtCons l21 fun x23 l24 =>
 rtBool x23 fun x25 =>
 rtCons l24 fun x26 l27 =>
 rtBool x26 fun x28 =>
 rtCons l27 fun x29 l30 =>
 rtBool x29 fun x31 =>
 rtCons l30 fun x32 l33 =>
 rtBool x32 fun x34 =>
 rtCons l33 fun x35 l36 =>
 rtInt .i64 x35 fun x37 =>
 rtCons l36 fun x38 l39 =>
 rtInt .i64 x38 fun x40 =>
 rtCons l39 fun x41 l42 =>
 rtCons l42 fun x43 l44 =>
 rtCons l44 fun x45 l46 =>
 rtInt .i64 x45 fun x47 =>
 rtCons l46 fun x48 l49 =>
 rtBool x48 fun x50 =>
 rtCons l49 fun x51 l52 =>
 rtInt .i64 x51 fun x53 =>
 rtNil l52 (
 chk (allOne [(V.int .i64 x10), (V.str x13), (V.bool x16), (V.int .i64 x19), (V.int .i64 x22), (V.bool x25), (V.bool x28), (V.bool x31), (V.bool x34), (V.int .i64 x37), (V.int .i64 x40), x41, x43, (V.int .i64 x47), (V.bool x50), (V.int .i64 x53)]) (
 condK (eqF x10 (Int.ofNat 11)) (
 ldnK E s2 v0b (Nat.add v0o 1) 5 fun l54 =>
 rtCons l54 fun x55 l56 =>
 rtStr x55 fun x57 =>
 rtCons l56 fun x58 l59 =>
 rtInt .i64 x58 fun x60 =>
 rtCons l59 fun x61 l62 =>
 rtCons l62 fun x63 l64 =>
 rtCons l64 fun x65 l66 =>
 rtNil l66 (
 callK (D 100 [(V.agg [(V.str x57), (V.int .i64 x60), x61, x63, x65]), (V.str x13)] s2) fun u67 s68 =>
 rtInt .i64 u67 fun x69 =>
 joinB (fun c70 s71 =>
 condK c70 (
 some ((V.tup [(V.int .i64 (Int.ofNat 0)), (V.int .i64 (Int.ofNat 9))]), s71)) (
 ldK E s71 v0b (Nat.add (Nat.add v0o 1) 3) fun u73 =>
 iaddrSK 1 u73 x69 fun b74 o75 =>
 ldK E s71 b74 o75 fun u76 =>
 rtInt .i64 u76 fun x77 =>
 callK (D 69 [(V.ptr v0b v0o), (V.int .i64 x77), (V.int .i64 v2)] s71) fun u78 s79 =>
 rtTup u78 fun l80 =>
 rtCons l80 fun x81 l82 =>
 rtInt .i64 x81 fun x83 =>
 rtCons l82 fun x84 l85 =>
 rtInt .i64 x84 fun x86 =>
 rtNil l85 (
 K1 v0b v0o x83 x86 x10 x13 x16 x19 x22 x25 x28 x31 x34 x37 x40 x41 x43 x47 x50 x53 s79))) fun k72 =>
 condK (ltF x69 (Int.ofNat 0)) (
 k72 true s68) (
 ldK E s68 v0b (Nat.add (Nat.add v0o 1) 3) fun u87 =>
 slenK u87 fun n88 =>
 k72 (leF (Int.ofNat n88) x69) s68))) (
 callK (D 101 [(V.ptr v0b v0o), (V.agg [(V.int .i64 x10), (V.str x13), (V.bool x16), (V.int .i64 x19), (V.int .i64 x22), (V.bool x25), (V.bool x28), (V.bool x31), (V.bool x34), (V.int .i64 x37), (V.int .i64 x40), x41, x43, (V.int .i64 x47), (V.bool x50), (V.int .i64 x53)]), (V.int .i64 v2)] s2) fun u89 s90 =>
 rtTup u89 fun l91 =>
 rtCons l91 fun x92 l93 =>
 rtInt .i64 x92 fun x94 =>
 rtCons l93 fun x95 l96 =>
 rtInt .i64 x95 fun x97 =>
 rtNil l96 (
 K1 v0b v0o x94 x97 x10 x13 x16 x19 x22 x25 x28 x31 x34 x37 x40 x41 x43 x47 x50 x53 s90)))))) fun k3 =>
 condK (ltF v1 (Int.ofNat 0)) (
 k3 true σ) (
 ldK E σ v0b (Nat.add (Nat.add v0o 1) 4) fun u4 =>
 slenK u4 fun n5 =>
 k3 (leF (Int.ofNat n5) v1) σ)
def C69_1 : XC := (.seq (.seq (.ops (.op (some 75) .any [10] (.mov (.tmp 10)) <|
 .op (some 76) .any [75] (.bin .neq .none (.tmp 75) (.con (V.int .i64 (Int.ofNat 0)))) <|
 .nil))
 (.cond (.tmp 76) (.seq (.ops (.op (some 77) .any [10] (.mov (.tmp 10)) <|
 .op (some 6) .any [] (.mov (.con (V.int .i64 (Int.ofNat 0)))) <|
 .op (some 7) .any [77] (.mov (.tmp 77)) <|
 .nil))
 .ret)
 .skip))
 (.seq (.ops (.op (some 78) .any [9] (.mov (.tmp 9)) <|
 .op (some 79) .any [0] (.mov (.tmp 0)) <|
 .op (some 80) .any [9] (.mov (.tmp 9)) <|
 .op (some 81) .any [8] (.faddr 2 (.tmp 8)) <|
 .op (some 82) (.agg [.bool, (.int .i64), (.int .i64)]) [81] (.load (some 3) (.tmp 81)) <|
 .op (some 83) (.int .i64) [79, 80, 82] (.call 102 [(.tmp 79), (.tmp 80), (.tmp 82)]) <|
 .op (some 6) .any [78] (.mov (.tmp 78)) <|
 .op (some 7) .any [83] (.mov (.tmp 83)) <|
 .nil))
 .ret))
def T69_1 (E : List (Nat × Blk)) (D : Den) (W : DrawFn) (v0b : Nat) (v0o : Nat) (v9 : Int) (v10 : Int) (r8_0 : Int) (r8_1 : BS) (r8_2 : Bool) (r8_3 : Int) (r8_4 : Int) (r8_5 : Bool) (r8_6 : Bool) (r8_7 : Bool) (r8_8 : Bool) (r8_9 : Int) (r8_10 : Int) (r8_11 : V) (r8_12 : V) (r8_13 : Int) (r8_14 : Bool) (r8_15 : Int) (σ : H) : Ans :=
 condK (not (eqF v10 (Int.ofNat 0))) (
 some ((V.tup [(V.int .i64 (Int.ofNat 0)), (V.int .i64 v10)]), σ)) (
 callK (D 102 [(V.ptr v0b v0o), (V.int .i64 v9), (V.agg [(V.bool r8_2), (V.int .i64 r8_3), (V.int .i64 r8_4)])] σ) fun u1 s2 =>
 rtInt .i64 u1 fun x3 =>
 some ((V.tup [(V.int .i64 v9), (V.int .i64 x3)]), s2))
theorem P69_0 (E : List (Nat × Blk)) (D : Den) (W : DrawFn) (N : Nat) (cc1 : XC) (v0b : Nat) (v0o : Nat) (v1 : Int) (v2 : Int) (σ : H) :
  denC E D W N (C69_0 cc1) ⟨[(0, (V.ptr v0b v0o)), (1, (V.int .i64 v1)), (2, (V.int .i64 v2))], [], [], σ⟩ (Fin69 E) (fun _ _ => none) (Fin69 E) =
  T69_0 E D W (fun v0b v0o v9 v10 r8_0 r8_1 r8_2 r8_3 r8_4 r8_5 r8_6 r8_7 r8_8 r8_9 r8_10 r8_11 r8_12 r8_13 r8_14 r8_15 σ => denC E D W N cc1 ⟨[(0, (V.ptr v0b v0o)), (9, (V.int .i64 v9)), (10, (V.int .i64 v10))], [(8, (8, 0))], [(8, [(V.int .i64 r8_0), (V.str r8_1), (V.bool r8_2), (V.int .i64 r8_3), (V.int .i64 r8_4), (V.bool r8_5), (V.bool r8_6), (V.bool r8_7), (V.bool r8_8), (V.int .i64 r8_9), (V.int .i64 r8_10), r8_11, r8_12, (V.int .i64 r8_13), (V.bool r8_14), (V.int .i64 r8_15)])], σ⟩ (Fin69 E) (fun _ _ => none) (Fin69 E)) v0b v0o v1 v2 σ := by kernel_rfl
theorem P69_1 (E : List (Nat × Blk)) (D : Den) (W : DrawFn) (N : Nat) (v0b : Nat) (v0o : Nat) (v9 : Int) (v10 : Int) (r8_0 : Int) (r8_1 : BS) (r8_2 : Bool) (r8_3 : Int) (r8_4 : Int) (r8_5 : Bool) (r8_6 : Bool) (r8_7 : Bool) (r8_8 : Bool) (r8_9 : Int) (r8_10 : Int) (r8_11 : V) (r8_12 : V) (r8_13 : Int) (r8_14 : Bool) (r8_15 : Int) (σ : H) :
  denC E D W N (C69_1 ) ⟨[(0, (V.ptr v0b v0o)), (9, (V.int .i64 v9)), (10, (V.int .i64 v10))], [(8, (8, 0))], [(8, [(V.int .i64 r8_0), (V.str r8_1), (V.bool r8_2), (V.int .i64 r8_3), (V.int .i64 r8_4), (V.bool r8_5), (V.bool r8_6), (V.bool r8_7), (V.bool r8_8), (V.int .i64 r8_9), (V.int .i64 r8_10), r8_11, r8_12, (V.int .i64 r8_13), (V.bool r8_14), (V.int .i64 r8_15)])], σ⟩ (Fin69 E) (fun _ _ => none) (Fin69 E) =
  T69_1 E D W  v0b v0o v9 v10 r8_0 r8_1 r8_2 r8_3 r8_4 r8_5 r8_6 r8_7 r8_8 r8_9 r8_10 r8_11 r8_12 r8_13 r8_14 r8_15 σ := by kernel_rfl
def J69_1 (E : List (Nat × Blk)) (D : Den) (W : DrawFn) (N : Nat) : Nat → Nat → Int → Int → Int → BS → Bool → Int → Int → Bool → Bool → Bool → Bool → Int → Int → V → V → Int → Bool → Int → H → Ans := T69_1 E D W 
theorem JE69_1 (E : List (Nat × Blk)) (D : Den) (W : DrawFn) (N : Nat) (v0b : Nat) (v0o : Nat) (v9 : Int) (v10 : Int) (r8_0 : Int) (r8_1 : BS) (r8_2 : Bool) (r8_3 : Int) (r8_4 : Int) (r8_5 : Bool) (r8_6 : Bool) (r8_7 : Bool) (r8_8 : Bool) (r8_9 : Int) (r8_10 : Int) (r8_11 : V) (r8_12 : V) (r8_13 : Int) (r8_14 : Bool) (r8_15 : Int) (σ : H) :
  denC E D W N C69_1 ⟨[(0, (V.ptr v0b v0o)), (9, (V.int .i64 v9)), (10, (V.int .i64 v10))], [(8, (8, 0))], [(8, [(V.int .i64 r8_0), (V.str r8_1), (V.bool r8_2), (V.int .i64 r8_3), (V.int .i64 r8_4), (V.bool r8_5), (V.bool r8_6), (V.bool r8_7), (V.bool r8_8), (V.int .i64 r8_9), (V.int .i64 r8_10), r8_11, r8_12, (V.int .i64 r8_13), (V.bool r8_14), (V.int .i64 r8_15)])], σ⟩ (Fin69 E) (fun _ _ => none) (Fin69 E) = J69_1 E D W N v0b v0o v9 v10 r8_0 r8_1 r8_2 r8_3 r8_4 r8_5 r8_6 r8_7 r8_8 r8_9 r8_10 r8_11 r8_12 r8_13 r8_14 r8_15 σ := by
  refine (P69_1 E D W N   v0b v0o v9 v10 r8_0 r8_1 r8_2 r8_3 r8_4 r8_5 r8_6 r8_7 r8_8 r8_9 r8_10 r8_11 r8_12 r8_13 r8_14 r8_15 σ).trans ?_
  kernel_rfl
def J69_0 (E : List (Nat × Blk)) (D : Den) (W : DrawFn) (N : Nat) : Nat → Nat → Int → Int → H → Ans := T69_0 E D W (J69_1 E D W N )
theorem JE69_0 (E : List (Nat × Blk)) (D : Den) (W : DrawFn) (N : Nat) (v0b : Nat) (v0o : Nat) (v1 : Int) (v2 : Int) (σ : H) :
  denC E D W N (C69_0 C69_1) ⟨[(0, (V.ptr v0b v0o)), (1, (V.int .i64 v1)), (2, (V.int .i64 v2))], [], [], σ⟩ (Fin69 E) (fun _ _ => none) (Fin69 E) = J69_0 E D W N v0b v0o v1 v2 σ := by
  refine (P69_0 E D W N C69_1  v0b v0o v1 v2 σ).trans ?_
  simp only [JE69_1]
  kernel_rfl
def F69 (E : List (Nat × Blk)) (D : Den) (W : DrawFn) (N : Nat) (args : List V) (σ : H) : Ans :=
 rtCons args fun x1 l2 =>
 rtPtr x1 fun b3 o4 =>
 rtCons l2 fun x5 l6 =>
 rtInt .i64 x5 fun x7 =>
 rtCons l6 fun x8 l9 =>
 rtInt .i64 x8 fun x10 =>
 rtNil l9 (
 J69_0 E D W N b3 o4 x7 x10 σ)
def A69 : XFn := ⟨84, [.ptr, (.int .i64), (.int .i64)], [(.tmp 6), (.tmp 7)], (C69_0 C69_1)⟩
theorem FE69 (E : List (Nat × Blk)) (D : Den) (W : DrawFn) (N : Nat) (args : List V) (σ : H) : runX E D W N A69 args σ = F69 E D W N args σ := by
  unfold F69
  simp only [← JE69_0]
  kernel_rfl
theorem AO69 : A69.body.ok = true := by kernel_rfl

def C70_0 : XC := (.seq (.ops (.op (some 2) .any [] (.mov (.con (V.str ⟨0, 0⟩))) <|
 .nil))
 (.seq (.seq (.ops (.op (some 3) .any [0] (.mov (.tmp 0)) <|
 .nil))
 (.block 0 (.seq (.ops (.op (some 5) .any [3] (.bin .eql .none (.tmp 3) (.con (V.int .i64 (Int.ofNat 0)))) <|
 .op (some 4) .any [5] (.mov (.tmp 5)) <|
 .nil))
 (.cond (.tmp 4) (.seq (.ops (.op (some 2) .any [] (.mov (.con (V.str ⟨14, 655635097218688137868315485820997⟩))) <|
 .nil))
 .ret)
 (.seq (.ops (.op (some 7) .any [3] (.bin .eql .none (.tmp 3) (.con (V.int .i64 (Int.ofNat 1)))) <|
 .op (some 6) .any [7] (.mov (.tmp 7)) <|
 .nil))
 (.cond (.tmp 6) (.seq (.ops (.op (some 2) .any [] (.mov (.con (V.str ⟨14, 655635097218688137868315485818185⟩))) <|
 .nil))
 .ret)
 (.seq (.ops (.op (some 9) .any [3] (.bin .eql .none (.tmp 3) (.con (V.int .i64 (Int.ofNat 2)))) <|
 .op (some 8) .any [9] (.mov (.tmp 9)) <|
 .nil))
 (.cond (.tmp 8) (.seq (.ops (.op (some 2) .any [] (.mov (.con (V.str ⟨15, 167842584887983849704415794096788801⟩))) <|
 .nil))
 .ret)
 .skip))))))))
 (.seq (.ops (.op (some 2) .any [] (.mov (.con (V.str ⟨0, 0⟩))) <|
 .nil))
 .ret)))
def A70 : XFn := ⟨10, [(.int .i64)], [(.tmp 2)], C70_0⟩
/-! ### F71: __ogham_print.writer_.put -/
def Fin71 (E : List (Nat × Blk)) : St → Ans := fun s => resK E s [] fun l => some (oneV l, s.σ)
def C71_0 (cc1 : XC) (cc2 : XC) : XC := (.seq (.seq (.ops (.op (some 6) .any [1] (.mov (.tmp 1)) <|
 .op (some 7) .any [6] (.len false (.tmp 6)) <|
 .op (some 8) .any [] (.mov (.con (V.int .i64 (Int.ofNat 0)))) <|
 .nil))
 (.block 0 (.loop [(0, .ptr), (6, .any), (7, (.int .i64)), (8, (.int .i64))] [] [] cc2)))
 (.keep [(0, .ptr)] [] [] cc1))
def T71_0 (E : List (Nat × Blk)) (D : Den) (W : DrawFn) (K2 : Nat → Nat → V → Int → Int → H → Ans) (v0b : Nat) (v0o : Nat) (v1 : V) (σ : H) : Ans :=
 slenK v1 fun n1 =>
 K2 v0b v0o v1 (Int.ofNat n1) (Int.ofNat 0) σ
def C71_1 : XC := (.ops (.op (some 22) .any [0] (.mov (.tmp 0)) <|
 .op (some 23) .any [0] (.mov (.tmp 0)) <|
 .op (some 24) .any [23] (.nilck (.tmp 23)) <|
 .op (some 25) .any [24] (.faddr 1 (.tmp 24)) <|
 .op (some 26) .bool [25] (.load none (.tmp 25)) <|
 .op (some 27) .any [26] (.mov (.tmp 26)) <|
 .grp 27 false (.op (some 28) .any [0, 27] (.mov (.tmp 0)) <|
 .op (some 29) .any [28, 27] (.nilck (.tmp 28)) <|
 .op (some 30) .any [29, 27] (.faddr 0 (.tmp 29)) <|
 .op (some 31) .any [30, 27] (.load none (.tmp 30)) <|
 .op (some 32) .any [31, 27] (.len false (.tmp 31)) <|
 .op (some 33) .any [32, 27] (.bin .gtr .none (.tmp 32) (.con (V.int .i64 (Int.ofNat 32000)))) <|
 .nil) 34 [27, 33] (.tmp 27) (.con (V.bool true)) (.tmp 33) <|
 .op (some 35) .any [22] (.nilck (.tmp 22)) <|
 .op (some 36) .any [35] (.faddr 1 (.tmp 35)) <|
 .op none .any [36, 34] (.store 1 (.tmp 36) (.tmp 34)) <|
 .nil))
def T71_1 (E : List (Nat × Blk)) (D : Den) (W : DrawFn) (v0b : Nat) (v0o : Nat) (σ : H) : Ans :=
 ldK E σ v0b (Nat.add v0o 1) fun u1 =>
 rtBool u1 fun x2 =>
 joinB (fun c3 s4 =>
 stK 1 v0b (Nat.add v0o 1) (V.bool c3) s4 fun s6 =>
 some ((V.tup []), s6)) fun k5 =>
 condK x2 (
 k5 true σ) (
 ldK E σ v0b v0o fun u7 =>
 slenK u7 fun n8 =>
 k5 (ltF (Int.ofNat 32000) (Int.ofNat n8)) σ)
def C71_2 : XC := (.seq (.ops (.op (some 9) .any [8, 7] (.bin .lss .none (.tmp 8) (.tmp 7)) <|
 .nil))
 (.seq (.cond (.tmp 9) .skip
 (.exit 0))
 (.seq (.block 1 (.seq (.ops (.op (some 10) .any [6, 8] (.iaddrS 1 (.tmp 6) (.tmp 8)) <|
 .op (some 11) .str [10] (.load none (.tmp 10)) <|
 .op (some 5) .any [11] (.mov (.tmp 11)) <|
 .nil))
 (.ops (.op (some 12) .any [0] (.mov (.tmp 0)) <|
 .op (some 13) .any [0] (.mov (.tmp 0)) <|
 .op (some 14) .any [13] (.nilck (.tmp 13)) <|
 .op (some 15) .any [14] (.faddr 0 (.tmp 14)) <|
 .op (some 16) .any [15] (.load none (.tmp 15)) <|
 .op (some 17) .any [5] (.mov (.tmp 5)) <|
 .op (some 18) .one [16, 17] (.append 5 1 1 (.tmp 16) (.tmp 17)) <|
 .op (some 19) .any [12] (.nilck (.tmp 12)) <|
 .op (some 20) .any [19] (.faddr 0 (.tmp 19)) <|
 .op none .any [20, 18] (.store 1 (.tmp 20) (.tmp 18)) <|
 .nil))))
 (.ops (.op (some 21) .any [8] (.bin .add .none (.tmp 8) (.con (V.int .i64 (Int.ofNat 1)))) <|
 .op (some 8) .any [21] (.mov (.tmp 21)) <|
 .nil)))))
def T71_2 (E : List (Nat × Blk)) (D : Den) (W : DrawFn) (K1 : Nat → Nat → H → Ans) (R2 : Nat → Nat → V → Int → Int → H → Ans) (v0b : Nat) (v0o : Nat) (v6 : V) (v7 : Int) (v8 : Int) (σ : H) : Ans :=
 condK (ltF v8 v7) (
 iaddrSK 1 v6 v8 fun b1 o2 =>
 ldK E σ b1 o2 fun u3 =>
 rtStr u3 fun x4 =>
 ldK E σ v0b v0o fun u5 =>
 appK E 1 1 u5 (V.str x4) σ fun u6 s7 =>
 rtOne u6 (
 stK 1 v0b v0o u6 s7 fun s8 =>
 R2 v0b v0o v6 v7 (addF .i64 v8 (Int.ofNat 1)) s8)) (
 K1 v0b v0o σ)
theorem P71_0 (E : List (Nat × Blk)) (D : Den) (W : DrawFn) (N : Nat) (cc1 : XC) (cc2 : XC) (v0b : Nat) (v0o : Nat) (v1 : V) (σ : H) :
  denC E D W N (C71_0 cc1 cc2) ⟨[(0, (V.ptr v0b v0o)), (1, v1)], [], [], σ⟩ (Fin71 E) (fun _ _ => none) (Fin71 E) =
  T71_0 E D W (fun v0b v0o v6 v7 v8 σ => iterK (fun rec s' => denC E D W N cc2 s' (fun s'' => keepS [(0, .ptr), (6, .any), (7, (.int .i64)), (8, (.int .i64))] [] [] s'' rec) (blkK 0 (fun s' => denC E D W N (.keep [(0, .ptr)] [] [] cc1) s' (Fin71 E) (fun _ _ => none) (Fin71 E)) (fun _ _ => none)) (Fin71 E)) N ⟨[(0, (V.ptr v0b v0o)), (6, v6), (7, (V.int .i64 v7)), (8, (V.int .i64 v8))], [], [], σ⟩) v0b v0o v1 σ := by kernel_rfl
theorem P71_1 (E : List (Nat × Blk)) (D : Den) (W : DrawFn) (N : Nat) (v0b : Nat) (v0o : Nat) (σ : H) :
  denC E D W N (C71_1 ) ⟨[(0, (V.ptr v0b v0o))], [], [], σ⟩ (Fin71 E) (fun _ _ => none) (Fin71 E) =
  T71_1 E D W  v0b v0o σ := by kernel_rfl
theorem P71_2 (E : List (Nat × Blk)) (D : Den) (W : DrawFn) (N : Nat) (cc1 : XC) (li2 : St → Ans) (v0b : Nat) (v0o : Nat) (v6 : V) (v7 : Int) (v8 : Int) (σ : H) :
  denC E D W N (C71_2 ) ⟨[(0, (V.ptr v0b v0o)), (6, v6), (7, (V.int .i64 v7)), (8, (V.int .i64 v8))], [], [], σ⟩ (fun s'' => keepS [(0, .ptr), (6, .any), (7, (.int .i64)), (8, (.int .i64))] [] [] s'' li2) (blkK 0 (fun s' => denC E D W N (.keep [(0, .ptr)] [] [] cc1) s' (Fin71 E) (fun _ _ => none) (Fin71 E)) (fun _ _ => none)) (Fin71 E) =
  T71_2 E D W (fun v0b v0o σ => denC E D W N cc1 ⟨[(0, (V.ptr v0b v0o))], [], [], σ⟩ (Fin71 E) (fun _ _ => none) (Fin71 E)) (fun v0b v0o v6 v7 v8 σ => li2 ⟨[(0, (V.ptr v0b v0o)), (6, v6), (7, (V.int .i64 v7)), (8, (V.int .i64 v8))], [], [], σ⟩) v0b v0o v6 v7 v8 σ := by kernel_rfl
def J71_1 (E : List (Nat × Blk)) (D : Den) (W : DrawFn) (N : Nat) : Nat → Nat → H → Ans := T71_1 E D W 
theorem JE71_1 (E : List (Nat × Blk)) (D : Den) (W : DrawFn) (N : Nat) (v0b : Nat) (v0o : Nat) (σ : H) :
  denC E D W N C71_1 ⟨[(0, (V.ptr v0b v0o))], [], [], σ⟩ (Fin71 E) (fun _ _ => none) (Fin71 E) = J71_1 E D W N v0b v0o σ := by
  refine (P71_1 E D W N   v0b v0o σ).trans ?_
  kernel_rfl
def L71_2 (E : List (Nat × Blk)) (D : Den) (W : DrawFn) (N : Nat) (n : Nat) : Nat → Nat → V → Int → Int → H → Ans :=
  Nat.rec (fun _ _ _ _ _ _ => none) (fun _ ih => T71_2 E D W (J71_1 E D W N ) ih) n
theorem LE71_2 (E : List (Nat × Blk)) (D : Den) (W : DrawFn) (N : Nat) (n : Nat) : ∀ (v0b : Nat) (v0o : Nat) (v6 : V) (v7 : Int) (v8 : Int) (σ : H),
  iterK (fun rec s' => denC E D W N C71_2 s' (fun s'' => keepS [(0, .ptr), (6, .any), (7, (.int .i64)), (8, (.int .i64))] [] [] s'' rec) (blkK 0 (fun s' => denC E D W N (.keep [(0, .ptr)] [] [] C71_1) s' (Fin71 E) (fun _ _ => none) (Fin71 E)) (fun _ _ => none)) (Fin71 E)) n ⟨[(0, (V.ptr v0b v0o)), (6, v6), (7, (V.int .i64 v7)), (8, (V.int .i64 v8))], [], [], σ⟩ = L71_2 E D W N n v0b v0o v6 v7 v8 σ := by
  induction n with
  | zero => intro v0b v0o v6 v7 v8 σ; rfl
  | succ n ihn =>
    intro v0b v0o v6 v7 v8 σ
    rw [iterK_succ]
    refine (P71_2 E D W N C71_1 (iterK (fun rec s' => denC E D W N C71_2 s' (fun s'' => keepS [(0, .ptr), (6, .any), (7, (.int .i64)), (8, (.int .i64))] [] [] s'' rec) (blkK 0 (fun s' => denC E D W N (.keep [(0, .ptr)] [] [] C71_1) s' (Fin71 E) (fun _ _ => none) (Fin71 E)) (fun _ _ => none)) (Fin71 E)) n) v0b v0o v6 v7 v8 σ).trans ?_
    simp only [ihn, JE71_1]
    kernel_rfl
def J71_0 (E : List (Nat × Blk)) (D : Den) (W : DrawFn) (N : Nat) : Nat → Nat → V → H → Ans := T71_0 E D W (L71_2 E D W N N)
theorem JE71_0 (E : List (Nat × Blk)) (D : Den) (W : DrawFn) (N : Nat) (v0b : Nat) (v0o : Nat) (v1 : V) (σ : H) :
  denC E D W N (C71_0 C71_1 C71_2) ⟨[(0, (V.ptr v0b v0o)), (1, v1)], [], [], σ⟩ (Fin71 E) (fun _ _ => none) (Fin71 E) = J71_0 E D W N v0b v0o v1 σ := by
  refine (P71_0 E D W N C71_1 C71_2  v0b v0o v1 σ).trans ?_
  simp only [LE71_2]
  kernel_rfl
def F71 (E : List (Nat × Blk)) (D : Den) (W : DrawFn) (N : Nat) (args : List V) (σ : H) : Ans :=
 rtCons args fun x1 l2 =>
 rtPtr x1 fun b3 o4 =>
 rtCons l2 fun x5 l6 =>
 rtNil l6 (
 J71_0 E D W N b3 o4 x5 σ)
def A71 : XFn := ⟨37, [.ptr, .any], [], (C71_0 C71_1 C71_2)⟩
theorem FE71 (E : List (Nat × Blk)) (D : Den) (W : DrawFn) (N : Nat) (args : List V) (σ : H) : runX E D W N A71 args σ = F71 E D W N args σ := by
  unfold F71
  simp only [← JE71_0]
  kernel_rfl
theorem AO71 : A71.body.ok = true := by kernel_rfl

def G72_0 : List AOper := [⟨(some 142), .mov (.tmp 0), none⟩, ⟨(some 143), .nilck (.tmp 142), none⟩, ⟨(some 144), .faddr 0 (.tmp 143), none⟩, ⟨(some 145), .faddr 1 (.tmp 6), none⟩, ⟨(some 146), .load none (.tmp 145), none⟩, ⟨(some 147), .buildSlice 9 1 [(V.str ⟨0, 0⟩)] [(0, 1, (.tmp 146))], none⟩, ⟨(some 148), .call 71 [(.tmp 144), (.tmp 147)], none⟩]
def H72_0 : List DP := [⟨0, [0]⟩, ⟨1, [142]⟩, ⟨3, [143]⟩, ⟨0, [6]⟩, ⟨8, [145]⟩, ⟨24, [146]⟩, ⟨63, [144, 147]⟩]
def C72_0 : XC := (.seq (.seq (.ops (.op (some 7) .any [0] (.mov (.tmp 0)) <|
 .op (some 8) .any [7] (.nilck (.tmp 7)) <|
 .op (some 9) .any [8] (.faddr 0 (.tmp 8)) <|
 .op (some 10) .any [9] (.faddr 1 (.tmp 9)) <|
 .op (some 11) .bool [10] (.load none (.tmp 10)) <|
 .op (some 12) .any [11] (.mov (.tmp 11)) <|
 .grp 12 false (.op (some 13) .any [1, 12] (.mov (.tmp 1)) <|
 .op (some 14) .any [13, 12] (.bin .lss .none (.tmp 13) (.con (V.int .i64 (Int.ofNat 0)))) <|
 .nil) 15 [12, 14] (.tmp 12) (.con (V.bool true)) (.tmp 14) <|
 .op (some 16) .any [15] (.mov (.tmp 15)) <|
 .grp 16 false (.op (some 17) .any [1, 16] (.mov (.tmp 1)) <|
 .op (some 18) .any [0, 16] (.mov (.tmp 0)) <|
 .op (some 19) .any [18, 16] (.nilck (.tmp 18)) <|
 .op (some 20) .any [19, 16] (.faddr 2 (.tmp 19)) <|
 .op (some 21) .any [20, 16] (.faddr 4 (.tmp 20)) <|
 .op (some 22) .any [21, 16] (.load none (.tmp 21)) <|
 .op (some 23) .any [22, 16] (.len false (.tmp 22)) <|
 .op (some 24) .any [17, 23, 16] (.bin .geq .none (.tmp 17) (.tmp 23)) <|
 .nil) 25 [16, 24] (.tmp 16) (.con (V.bool true)) (.tmp 24) <|
 .nil))
 (.cond (.tmp 25) (.seq (.ops (.op (some 26) .any [0] (.mov (.tmp 0)) <|
 .op (some 27) .any [26] (.nilck (.tmp 26)) <|
 .op (some 28) .any [27] (.faddr 0 (.tmp 27)) <|
 .op (some 29) .any [28] (.faddr 1 (.tmp 28)) <|
 .op none .any [29] (.store 1 (.tmp 29) (.con (V.bool true))) <|
 .nil))
 .ret)
 .skip))
 (.seq (.ops (.op (some 30) .any [0] (.mov (.tmp 0)) <|
 .op (some 31) .any [30] (.nilck (.tmp 30)) <|
 .op (some 32) .any [31] (.faddr 2 (.tmp 31)) <|
 .op (some 33) .any [32] (.faddr 4 (.tmp 32)) <|
 .op (some 34) .any [33] (.load none (.tmp 33)) <|
 .op (some 35) .any [1] (.mov (.tmp 1)) <|
 .op (some 36) .any [34, 35] (.iaddrS 16 (.tmp 34) (.tmp 35)) <|
 .op (some 37) (.agg [(.int .i64), .str, .bool, (.int .i64), (.int .i64), .bool, .bool, .bool, .bool, (.int .i64), (.int .i64), .any, .any, (.int .i64), .bool, (.int .i64)]) [36] (.load (some 16) (.tmp 36)) <|
 .op (some 6) .any [] (.alloc 203 [(V.int .i64 (Int.ofNat 0)), (V.str ⟨0, 0⟩), (V.bool false), (V.int .i64 (Int.ofNat 0)), (V.int .i64 (Int.ofNat 0)), (V.bool false), (V.bool false), (V.bool false), (V.bool false), (V.int .i64 (Int.ofNat 0)), (V.int .i64 (Int.ofNat 0)), V.nils, V.nils, (V.int .i64 (Int.ofNat 0)), (V.bool false), (V.int .i64 (Int.ofNat 0))]) <|
 .op none (.agg [(.int .i64), .str, .bool, (.int .i64), (.int .i64), .bool, .bool, .bool, .bool, (.int .i64), (.int .i64), .any, .any, (.int .i64), .bool, (.int .i64)]) [6, 37] (.store 16 (.tmp 6) (.tmp 37)) <|
 .nil))
 (.seq (.ops (.op (some 38) .any [0] (.mov (.tmp 0)) <|
 .op (some 39) .any [6] (.faddr 2 (.tmp 6)) <|
 .op (some 40) (.agg [.bool, (.int .i64), (.int .i64)]) [39] (.load (some 3) (.tmp 39)) <|
 .op (some 41) (.tup []) [38, 40] (.call 103 [(.tmp 38), (.tmp 40)]) <|
 .nil))
 (.seq (.ops (.op (some 42) .any [6] (.faddr 0 (.tmp 6)) <|
 .op (some 43) (.int .i64) [42] (.load none (.tmp 42)) <|
 .nil))
 (.block 0 (.seq (.ops (.op (some 49) .any [43] (.bin .eql .none (.tmp 43) (.con (V.int .i64 (Int.ofNat 1)))) <|
 .op (some 48) .any [49] (.mov (.tmp 49)) <|
 .nil))
 (.cond (.tmp 48) (.ops (.op (some 50) .any [0] (.mov (.tmp 0)) <|
 .op (some 51) .any [50] (.nilck (.tmp 50)) <|
 .op (some 52) .any [51] (.faddr 0 (.tmp 51)) <|
 .op (some 53) .any [] (.buildSlice 9 1 [(V.str ⟨0, 0⟩)] [(0, 1, (.con (V.str ⟨7, 22026814072246082⟩)))]) <|
 .op (some 54) (.tup []) [52, 53] (.call 71 [(.tmp 52), (.tmp 53)]) <|
 .nil))
 (.seq (.ops (.op (some 56) .any [43] (.bin .eql .none (.tmp 43) (.con (V.int .i64 (Int.ofNat 4)))) <|
 .op (some 55) .any [56] (.mov (.tmp 56)) <|
 .nil))
 (.cond (.tmp 55) (.ops (.op (some 57) .any [0] (.mov (.tmp 0)) <|
 .op (some 58) .any [57] (.nilck (.tmp 57)) <|
 .op (some 59) .any [58] (.faddr 0 (.tmp 58)) <|
 .op (some 60) .any [] (.buildSlice 9 1 [(V.str ⟨0, 0⟩)] [(0, 1, (.con (V.str ⟨4, 1280070990⟩)))]) <|
 .op (some 61) (.tup []) [59, 60] (.call 71 [(.tmp 59), (.tmp 60)]) <|
 .nil))
 (.seq (.ops (.op (some 63) .any [43] (.bin .eql .none (.tmp 43) (.con (V.int .i64 (Int.ofNat 2)))) <|
 .op (some 62) .any [63] (.mov (.tmp 63)) <|
 .nil))
 (.cond (.tmp 62) (.seq (.ops (.op (some 64) .any [0] (.mov (.tmp 0)) <|
 .op (some 65) .any [64] (.nilck (.tmp 64)) <|
 .op (some 66) .any [65] (.faddr 0 (.tmp 65)) <|
 .op (some 67) .any [] (.buildSlice 9 1 [(V.str ⟨0, 0⟩)] [(0, 1, (.con (V.str ⟨7, 23157120498421321⟩)))]) <|
 .op (some 68) (.tup []) [66, 67] (.call 71 [(.tmp 66), (.tmp 67)]) <|
 .nil))
 (.ops (.op (some 69) .any [0] (.mov (.tmp 0)) <|
 .op (some 70) .any [6] (.faddr 5 (.tmp 6)) <|
 .op (some 71) (.agg [.bool, .bool, .bool, .bool, (.int .i64), (.int .i64)]) [70] (.load (some 6) (.tmp 70)) <|
 .op (some 72) (.tup []) [69, 71] (.call 104 [(.tmp 69), (.tmp 71), (.con (V.str ⟨2, 10272⟩)), (.con (V.str ⟨1, 41⟩))]) <|
 .nil)))
 (.seq (.ops (.op (some 74) .any [43] (.bin .eql .none (.tmp 43) (.con (V.int .i64 (Int.ofNat 5)))) <|
 .op (some 73) .any [74] (.mov (.tmp 74)) <|
 .nil))
 (.cond (.tmp 73) (.seq (.ops (.op (some 75) .any [0] (.mov (.tmp 0)) <|
 .op (some 76) .any [75] (.nilck (.tmp 75)) <|
 .op (some 77) .any [76] (.faddr 0 (.tmp 76)) <|
 .op (some 78) .any [] (.buildSlice 9 1 [(V.str ⟨0, 0⟩)] [(0, 1, (.con (V.str ⟨12, 22068078162707940351935791951⟩)))]) <|
 .op (some 79) (.tup []) [77, 78] (.call 71 [(.tmp 77), (.tmp 78)]) <|
 .nil))
 (.ops (.op (some 80) .any [0] (.mov (.tmp 0)) <|
 .op (some 81) .any [6] (.faddr 5 (.tmp 6)) <|
 .op (some 82) (.agg [.bool, .bool, .bool, .bool, (.int .i64), (.int .i64)]) [81] (.load (some 6) (.tmp 81)) <|
 .op (some 83) (.tup []) [80, 82] (.call 104 [(.tmp 80), (.tmp 82), (.con (V.str ⟨8, 2891387214851418144⟩)), (.con (V.str ⟨2, 10537⟩))]) <|
 .nil)))
 (.seq (.ops (.op (some 85) .any [43] (.bin .eql .none (.tmp 43) (.con (V.int .i64 (Int.ofNat 6)))) <|
 .op (some 84) .any [85] (.mov (.tmp 85)) <|
 .nil))
 (.cond (.tmp 84) (.seq (.ops (.op (some 86) .any [0] (.mov (.tmp 0)) <|
 .op (some 87) .any [86] (.nilck (.tmp 86)) <|
 .op (some 88) .any [87] (.faddr 0 (.tmp 87)) <|
 .op (some 89) .any [] (.buildSlice 9 1 [(V.str ⟨0, 0⟩)] [(0, 1, (.con (V.str ⟨10, 488440487847103610377301⟩)))]) <|
 .op (some 90) (.tup []) [88, 89] (.call 71 [(.tmp 88), (.tmp 89)]) <|
 .nil))
 (.ops (.op (some 91) .any [0] (.mov (.tmp 0)) <|
 .op (some 92) .any [6] (.faddr 5 (.tmp 6)) <|
 .op (some 93) (.agg [.bool, .bool, .bool, .bool, (.int .i64), (.int .i64)]) [92] (.load (some 6) (.tmp 92)) <|
 .op (some 94) (.tup []) [91, 93] (.call 104 [(.tmp 91), (.tmp 93), (.con (V.str ⟨8, 2891387214851418144⟩)), (.con (V.str ⟨2, 10537⟩))]) <|
 .nil)))
 (.seq (.ops (.op (some 96) .any [43] (.bin .eql .none (.tmp 43) (.con (V.int .i64 (Int.ofNat 3)))) <|
 .op (some 95) .any [96] (.mov (.tmp 96)) <|
 .nil))
 (.cond (.tmp 95) (.ops (.op (some 97) .any [0] (.mov (.tmp 0)) <|
 .op (some 98) (.agg [(.int .i64), .str, .bool, (.int .i64), (.int .i64), .bool, .bool, .bool, .bool, (.int .i64), (.int .i64), .any, .any, (.int .i64), .bool, (.int .i64)]) [6] (.load (some 16) (.tmp 6)) <|
 .op (some 99) (.tup []) [97, 98] (.call 105 [(.tmp 97), (.tmp 98)]) <|
 .nil))
 (.seq (.ops (.op (some 101) .any [43] (.bin .eql .none (.tmp 43) (.con (V.int .i64 (Int.ofNat 7)))) <|
 .op (some 100) .any [101] (.mov (.tmp 101)) <|
 .nil))
 (.cond (.tmp 100) (.ops (.op (some 102) .any [0] (.mov (.tmp 0)) <|
 .op (some 103) (.agg [(.int .i64), .str, .bool, (.int .i64), (.int .i64), .bool, .bool, .bool, .bool, (.int .i64), (.int .i64), .any, .any, (.int .i64), .bool, (.int .i64)]) [6] (.load (some 16) (.tmp 6)) <|
 .op (some 104) .any [2] (.mov (.tmp 2)) <|
 .op (some 105) (.tup []) [102, 103, 104] (.call 106 [(.tmp 102), (.con (V.str ⟨8, 4990918871747741011⟩)), (.tmp 103), (.tmp 104)]) <|
 .nil))
 (.seq (.ops (.op (some 107) .any [43] (.bin .eql .none (.tmp 43) (.con (V.int .i64 (Int.ofNat 8)))) <|
 .op (some 106) .any [107] (.mov (.tmp 107)) <|
 .nil))
 (.cond (.tmp 106) (.ops (.op (some 108) .any [0] (.mov (.tmp 0)) <|
 .op (some 109) (.agg [(.int .i64), .str, .bool, (.int .i64), (.int .i64), .bool, .bool, .bool, .bool, (.int .i64), (.int .i64), .any, .any, (.int .i64), .bool, (.int .i64)]) [6] (.load (some 16) (.tmp 6)) <|
 .op (some 110) .any [2] (.mov (.tmp 2)) <|
 .op (some 111) (.tup []) [108, 109, 110] (.call 106 [(.tmp 108), (.con (V.str ⟨3, 5522771⟩)), (.tmp 109), (.tmp 110)]) <|
 .nil))
 (.seq (.ops (.op (some 113) .any [43] (.bin .eql .none (.tmp 43) (.con (V.int .i64 (Int.ofNat 9)))) <|
 .op (some 112) .any [113] (.mov (.tmp 113)) <|
 .nil))
 (.cond (.tmp 112) (.ops (.op (some 114) .any [0] (.mov (.tmp 0)) <|
 .op (some 115) (.agg [(.int .i64), .str, .bool, (.int .i64), (.int .i64), .bool, .bool, .bool, .bool, (.int .i64), (.int .i64), .any, .any, (.int .i64), .bool, (.int .i64)]) [6] (.load (some 16) (.tmp 6)) <|
 .op (some 116) .any [2] (.mov (.tmp 2)) <|
 .op (some 117) (.tup []) [114, 115, 116] (.call 106 [(.tmp 114), (.con (V.str ⟨6, 76155295057987⟩)), (.tmp 115), (.tmp 116)]) <|
 .nil))
 (.seq (.ops (.op (some 119) .any [43] (.bin .eql .none (.tmp 43) (.con (V.int .i64 (Int.ofNat 10)))) <|
 .op (some 118) .any [119] (.mov (.tmp 119)) <|
 .nil))
 (.cond (.tmp 118) (.seq (.ops (.op (some 120) .any [0] (.mov (.tmp 0)) <|
 .op (some 121) .any [120] (.nilck (.tmp 120)) <|
 .op (some 122) .any [121] (.faddr 0 (.tmp 121)) <|
 .op (some 123) .any [] (.buildSlice 9 1 [(V.str ⟨0, 0⟩)] [(0, 1, (.con (V.str ⟨9, 595286729230453392723⟩)))]) <|
 .op (some 124) (.tup []) [122, 123] (.call 71 [(.tmp 122), (.tmp 123)]) <|
 .nil))
 (.seq (.ops (.op (some 125) .any [0] (.mov (.tmp 0)) <|
 .op (some 126) .any [6] (.faddr 5 (.tmp 6)) <|
 .op (some 127) (.agg [.bool, .bool, .bool, .bool, (.int .i64), (.int .i64)]) [126] (.load (some 6) (.tmp 126)) <|
 .op (some 128) (.tup []) [125, 127] (.call 104 [(.tmp 125), (.tmp 127), (.con (V.str ⟨7, 11294481308013352⟩)), (.con (V.str ⟨3, 2107689⟩))]) <|
 .nil))
 (.seq (.ops (.op (some 129) .any [0] (.mov (.tmp 0)) <|
 .op (some 130) .any [129] (.nilck (.tmp 129)) <|
 .op (some 131) .any [130] (.faddr 0 (.tmp 130)) <|
 .op (some 132) .any [] (.buildSlice 9 1 [(V.str ⟨0, 0⟩)] [(0, 1, (.con (V.str ⟨3, 2115151⟩)))]) <|
 .op (some 133) (.tup []) [131, 132] (.call 71 [(.tmp 131), (.tmp 132)]) <|
 .nil))
 (.ops (.op (some 134) .any [0] (.mov (.tmp 0)) <|
 .op (some 135) .any [6] (.faddr 15 (.tmp 6)) <|
 .op (some 136) (.int .i64) [135] (.load none (.tmp 135)) <|
 .op (some 137) .any [2] (.mov (.tmp 2)) <|
 .op (some 138) .any [137] (.bin .add .none (.tmp 137) (.con (V.int .i64 (Int.ofNat 1)))) <|
 .op (some 139) (.tup []) [134, 136, 138] (.call 72 [(.tmp 134), (.tmp 136), (.tmp 138)]) <|
 .nil)))))
 (.seq (.ops (.op (some 141) .any [43] (.bin .eql .none (.tmp 43) (.con (V.int .i64 (Int.ofNat 11)))) <|
 .op (some 140) .any [141] (.mov (.tmp 141)) <|
 .nil))
 (.cond (.tmp 140) (.keep [(0, .ptr), (6, .ptr)] [] [] (.gdraw G72_0 H72_0 []))
 (.ops (.op (some 44) .any [0] (.mov (.tmp 0)) <|
 .op (some 45) .any [44] (.nilck (.tmp 44)) <|
 .op (some 46) .any [45] (.faddr 0 (.tmp 45)) <|
 .op (some 47) .any [46] (.faddr 1 (.tmp 46)) <|
 .op none .any [47] (.store 1 (.tmp 47) (.con (V.bool true))) <|
 .nil)))))))))))))))))))))))))))))
def A72 : XFn := ⟨149, [.ptr, (.int .i64), (.int .i64)], [], C72_0⟩
def C74_0 : XC := (.seq (.ops (.op (some 4) .any [0] (.box 50 (.tmp 0)) <|
 .op (some 6) .any [2] (.box 50 (.tmp 2)) <|
 .op (some 8) .any [] (.mov (.con (V.bool false))) <|
 .nil))
 (.seq (.ops (.op (some 10) (.agg [.str, .any, .any, .any]) [4] (.load (some 4) (.tmp 4)) <|
 .op (some 11) (.agg [.str, .any, .any, .any]) [6] (.load (some 4) (.tmp 6)) <|
 .op (some 12) (.agg [.str, .any, .any, .any, .str, .any, .any, .any]) [10, 11] (.build [(V.str ⟨0, 0⟩), V.nils, V.nils, V.nils, (V.str ⟨0, 0⟩), V.nils, V.nils, V.nils] [(0, 4, (.tmp 10)), (4, 4, (.tmp 11))]) <|
 .op (some 13) (.agg [.str, .any, .any, .any, .str, .any, .any, .any, (.int .i64)]) [12] (.build [(V.str ⟨0, 0⟩), V.nils, V.nils, V.nils, (V.str ⟨0, 0⟩), V.nils, V.nils, V.nils, (V.int .i64 (Int.ofNat 0))] [(0, 8, (.tmp 12)), (8, 1, (.con (V.int .i64 (Int.ofNat 300))))]) <|
 .op (some 14) .any [13] (.box 216 (.tmp 13)) <|
 .op (some 9) .any [14] (.mov (.tmp 14)) <|
 .nil))
 (.seq (.ops (.op (some 15) .any [9] (.mov (.tmp 9)) <|
 .op (some 16) .any [1] (.mov (.tmp 1)) <|
 .op (some 17) .any [3] (.mov (.tmp 3)) <|
 .op (some 18) .bool [15, 16, 17] (.call 107 [(.tmp 15), (.tmp 16), (.tmp 17)]) <|
 .op (some 8) .any [18] (.mov (.tmp 18)) <|
 .nil))
 .ret)))
def A74 : XFn := ⟨19, [(.agg [.str, .any, .any, .any]), (.int .i64), (.agg [.str, .any, .any, .any]), (.int .i64)], [(.tmp 8)], C74_0⟩
/-! ### F75: ogham_table.Find -/
def Fin75 (E : List (Nat × Blk)) : St → Ans := fun s => resK E s [(.tmp 4)] fun l => some (oneV l, s.σ)
def C75_0 : XC := (.seq (.ops (.op (some 2) .any [0] (.box 50 (.tmp 0)) <|
 .op (some 4) .any [] (.mov (.con (V.int .i64 (Int.ofNat 0)))) <|
 .nil))
 (.seq (.ops (.op (some 6) .any [2] (.faddr 1 (.tmp 2)) <|
 .op (some 7) .any [6] (.load none (.tmp 6)) <|
 .op (some 8) .any [1] (.mov (.tmp 1)) <|
 .op (some 9) (.int .i64) [7, 8] (.call 108 [(.tmp 7), (.tmp 8)]) <|
 .op (some 5) .any [9] (.mov (.tmp 9)) <|
 .nil))
 (.seq (.seq (.ops (.op (some 10) .any [5] (.mov (.tmp 5)) <|
 .op (some 11) .any [10] (.bin .lss .none (.tmp 10) (.con (V.int .i64 (Int.ofNat 0)))) <|
 .op (some 12) .any [11] (.mov (.tmp 11)) <|
 .grp 12 false (.op (some 13) .any [5, 12] (.mov (.tmp 5)) <|
 .op (some 14) .any [2, 12] (.faddr 2 (.tmp 2)) <|
 .op (some 15) .any [14, 12] (.load none (.tmp 14)) <|
 .op (some 16) .any [15, 12] (.len false (.tmp 15)) <|
 .op (some 17) .any [13, 16, 12] (.bin .geq .none (.tmp 13) (.tmp 16)) <|
 .nil) 18 [12, 17] (.tmp 12) (.con (V.bool true)) (.tmp 17) <|
 .nil))
 (.cond (.tmp 18) (.seq (.ops (.op (some 4) .any [] (.mov (.con (V.int .i64 (Int.negSucc 0)))) <|
 .nil))
 .ret)
 .skip))
 (.seq (.ops (.op (some 19) .any [2] (.faddr 2 (.tmp 2)) <|
 .op (some 20) .any [19] (.load none (.tmp 19)) <|
 .op (some 21) .any [5] (.mov (.tmp 5)) <|
 .op (some 22) .any [20, 21] (.iaddrS 1 (.tmp 20) (.tmp 21)) <|
 .op (some 23) (.int .i64) [22] (.load none (.tmp 22)) <|
 .op (some 4) .any [23] (.mov (.tmp 23)) <|
 .nil))
 .ret))))
def T75_0 (E : List (Nat × Blk)) (D : Den) (W : DrawFn) (v0_0 : BS) (v0_1 : V) (v0_2 : V) (v0_3 : V) (v1 : BS) (σ : H) : Ans :=
 chk (allOne (V.cells (V.agg [(V.str v0_0), v0_1, v0_2, v0_3]))) (
 let s1 := newB σ (.cells (V.cells (V.agg [(V.str v0_0), v0_1, v0_2, v0_3])));
 ldK E s1 (H.next σ) 1 fun u2 =>
 callK (D 108 [u2, (V.str v1)] s1) fun u3 s4 =>
 rtInt .i64 u3 fun x5 =>
 joinB (fun c6 s7 =>
 condK c6 (
 some ((V.int .i64 (Int.negSucc 0)), s7)) (
 ldK E s7 (H.next σ) 2 fun u9 =>
 iaddrSK 1 u9 x5 fun b10 o11 =>
 ldK E s7 b10 o11 fun u12 =>
 rtInt .i64 u12 fun x13 =>
 some ((V.int .i64 x13), s7))) fun k8 =>
 condK (ltF x5 (Int.ofNat 0)) (
 k8 true s4) (
 ldK E s4 (H.next σ) 2 fun u14 =>
 slenK u14 fun n15 =>
 k8 (leF (Int.ofNat n15) x5) s4))
theorem P75_0 (E : List (Nat × Blk)) (D : Den) (W : DrawFn) (N : Nat) (v0_0 : BS) (v0_1 : V) (v0_2 : V) (v0_3 : V) (v1 : BS) (σ : H) :
  denC E D W N (C75_0 ) ⟨[(0, (V.agg [(V.str v0_0), v0_1, v0_2, v0_3])), (1, (V.str v1))], [], [], σ⟩ (Fin75 E) (fun _ _ => none) (Fin75 E) =
  T75_0 E D W  v0_0 v0_1 v0_2 v0_3 v1 σ := by kernel_rfl
def J75_0 (E : List (Nat × Blk)) (D : Den) (W : DrawFn) (N : Nat) : BS → V → V → V → BS → H → Ans := T75_0 E D W 
theorem JE75_0 (E : List (Nat × Blk)) (D : Den) (W : DrawFn) (N : Nat) (v0_0 : BS) (v0_1 : V) (v0_2 : V) (v0_3 : V) (v1 : BS) (σ : H) :
  denC E D W N C75_0 ⟨[(0, (V.agg [(V.str v0_0), v0_1, v0_2, v0_3])), (1, (V.str v1))], [], [], σ⟩ (Fin75 E) (fun _ _ => none) (Fin75 E) = J75_0 E D W N v0_0 v0_1 v0_2 v0_3 v1 σ := by
  refine (P75_0 E D W N   v0_0 v0_1 v0_2 v0_3 v1 σ).trans ?_
  kernel_rfl
def F75 (E : List (Nat × Blk)) (D : Den) (W : DrawFn) (N : Nat) (args : List V) (σ : H) : Ans :=
 rtCons args fun x1 l2 =>
 rtAgg x1 fun l3 =>
 rtCons l3 fun x4 l5 =>
 rtStr x4 fun x6 =>
 rtCons l5 fun x7 l8 =>
 rtCons l8 fun x9 l10 =>
 rtCons l10 fun x11 l12 =>
 rtNil l12 (
 rtCons l2 fun x13 l14 =>
 rtStr x13 fun x15 =>
 rtNil l14 (
 J75_0 E D W N x6 x7 x9 x11 x15 σ))
def A75 : XFn := ⟨24, [(.agg [.str, .any, .any, .any]), .str], [(.tmp 4)], C75_0⟩
theorem FE75 (E : List (Nat × Blk)) (D : Den) (W : DrawFn) (N : Nat) (args : List V) (σ : H) : runX E D W N A75 args σ = F75 E D W N args σ := by
  unfold F75
  simp only [← JE75_0]
  kernel_rfl
theorem AO75 : A75.body.ok = true := by kernel_rfl

/-! ### F86: slices.IndexFunc___ogham_api.Version_ogham_api.Version_ -/
def Fin86 (E : List (Nat × Blk)) : St → Ans := fun s => resK E s [(.tmp 4)] fun l => some (oneV l, s.σ)
def C86_0 (cc1 : XC) (cc2 : XC) : XC := (.seq (.ops (.op (some 4) .any [] (.mov (.con (V.int .i64 (Int.ofNat 0)))) <|
 .nil))
 (.seq (.seq (.ops (.op (some 6) .any [0] (.mov (.tmp 0)) <|
 .op (some 7) .any [6] (.len false (.tmp 6)) <|
 .op (some 8) .any [] (.mov (.con (V.int .i64 (Int.ofNat 0)))) <|
 .nil))
 (.block 0 (.loop [(0, .any), (1, .any), (7, (.int .i64)), (8, (.int .i64))] [] [] cc2)))
 (.keep [] [] [] cc1)))
def T86_0 (E : List (Nat × Blk)) (D : Den) (W : DrawFn) (K2 : V → V → Int → Int → H → Ans) (v0 : V) (v1 : V) (σ : H) : Ans :=
 slenK v0 fun n1 =>
 K2 v0 v1 (Int.ofNat n1) (Int.ofNat 0) σ
def C86_1 : XC := (.seq (.ops (.op (some 4) .any [] (.mov (.con (V.int .i64 (Int.negSucc 0)))) <|
 .nil))
 .ret)
def T86_1 (E : List (Nat × Blk)) (D : Den) (W : DrawFn) (σ : H) : Ans :=
 some ((V.int .i64 (Int.negSucc 0)), σ)
def C86_2 : XC := (.seq (.ops (.op (some 9) .any [8, 7] (.bin .lss .none (.tmp 8) (.tmp 7)) <|
 .nil))
 (.seq (.cond (.tmp 9) .skip
 (.exit 0))
 (.seq (.block 1 (.seq (.ops (.op (some 10) .any [8] (.mov (.tmp 8)) <|
 .op (some 5) .any [10] (.mov (.tmp 10)) <|
 .nil))
 (.seq (.ops (.op (some 11) .any [1] (.mov (.tmp 1)) <|
 .op (some 12) .any [0] (.mov (.tmp 0)) <|
 .op (some 13) .any [5] (.mov (.tmp 5)) <|
 .op (some 14) .any [12, 13] (.iaddrS 2 (.tmp 12) (.tmp 13)) <|
 .op (some 15) (.agg [(.int .i64), .str]) [14] (.load (some 2) (.tmp 14)) <|
 .op (some 16) .bool [11, 15] (.callv (.tmp 11) [(.tmp 15)]) <|
 .nil))
 (.cond (.tmp 16) (.seq (.ops (.op (some 17) .any [5] (.mov (.tmp 5)) <|
 .op (some 4) .any [17] (.mov (.tmp 17)) <|
 .nil))
 .ret)
 .skip))))
 (.ops (.op (some 18) .any [8] (.bin .add .none (.tmp 8) (.con (V.int .i64 (Int.ofNat 1)))) <|
 .op (some 8) .any [18] (.mov (.tmp 18)) <|
 .nil)))))
def T86_2 (E : List (Nat × Blk)) (D : Den) (W : DrawFn) (K1 : H → Ans) (R2 : V → V → Int → Int → H → Ans) (v0 : V) (v1 : V) (v7 : Int) (v8 : Int) (σ : H) : Ans :=
 condK (ltF v8 v7) (
 iaddrSK 2 v0 v8 fun b1 o2 =>
 ldnK E σ b1 o2 2 fun l3 =>
 rtCons l3 fun x4 l5 =>
 rtInt .i64 x4 fun x6 =>
 rtCons l5 fun x7 l8 =>
 rtStr x7 fun x9 =>
 rtNil l8 (
 callvK D v1 [(V.agg [(V.int .i64 x6), (V.str x9)])] σ fun u10 s11 =>
 rtBool u10 fun x12 =>
 condK x12 (
 some ((V.int .i64 v8), s11)) (
 R2 v0 v1 v7 (addF .i64 v8 (Int.ofNat 1)) s11))) (
 K1 σ)
theorem P86_0 (E : List (Nat × Blk)) (D : Den) (W : DrawFn) (N : Nat) (cc1 : XC) (cc2 : XC) (v0 : V) (v1 : V) (σ : H) :
  denC E D W N (C86_0 cc1 cc2) ⟨[(0, v0), (1, v1)], [], [], σ⟩ (Fin86 E) (fun _ _ => none) (Fin86 E) =
  T86_0 E D W (fun v0 v1 v7 v8 σ => iterK (fun rec s' => denC E D W N cc2 s' (fun s'' => keepS [(0, .any), (1, .any), (7, (.int .i64)), (8, (.int .i64))] [] [] s'' rec) (blkK 0 (fun s' => denC E D W N (.keep [] [] [] cc1) s' (Fin86 E) (fun _ _ => none) (Fin86 E)) (fun _ _ => none)) (Fin86 E)) N ⟨[(0, v0), (1, v1), (7, (V.int .i64 v7)), (8, (V.int .i64 v8))], [], [], σ⟩) v0 v1 σ := by kernel_rfl
theorem P86_1 (E : List (Nat × Blk)) (D : Den) (W : DrawFn) (N : Nat) (σ : H) :
  denC E D W N (C86_1 ) ⟨[], [], [], σ⟩ (Fin86 E) (fun _ _ => none) (Fin86 E) =
  T86_1 E D W   σ := by kernel_rfl
theorem P86_2 (E : List (Nat × Blk)) (D : Den) (W : DrawFn) (N : Nat) (cc1 : XC) (li2 : St → Ans) (v0 : V) (v1 : V) (v7 : Int) (v8 : Int) (σ : H) :
  denC E D W N (C86_2 ) ⟨[(0, v0), (1, v1), (7, (V.int .i64 v7)), (8, (V.int .i64 v8))], [], [], σ⟩ (fun s'' => keepS [(0, .any), (1, .any), (7, (.int .i64)), (8, (.int .i64))] [] [] s'' li2) (blkK 0 (fun s' => denC E D W N (.keep [] [] [] cc1) s' (Fin86 E) (fun _ _ => none) (Fin86 E)) (fun _ _ => none)) (Fin86 E) =
  T86_2 E D W (fun  σ => denC E D W N cc1 ⟨[], [], [], σ⟩ (Fin86 E) (fun _ _ => none) (Fin86 E)) (fun v0 v1 v7 v8 σ => li2 ⟨[(0, v0), (1, v1), (7, (V.int .i64 v7)), (8, (V.int .i64 v8))], [], [], σ⟩) v0 v1 v7 v8 σ := by kernel_rfl
def J86_1 (E : List (Nat × Blk)) (D : Den) (W : DrawFn) (N : Nat) : H → Ans := T86_1 E D W 
theorem JE86_1 (E : List (Nat × Blk)) (D : Den) (W : DrawFn) (N : Nat) (σ : H) :
  denC E D W N C86_1 ⟨[], [], [], σ⟩ (Fin86 E) (fun _ _ => none) (Fin86 E) = J86_1 E D W N  σ := by
  refine (P86_1 E D W N    σ).trans ?_
  kernel_rfl
def L86_2 (E : List (Nat × Blk)) (D : Den) (W : DrawFn) (N : Nat) (n : Nat) : V → V → Int → Int → H → Ans :=
  Nat.rec (fun _ _ _ _ _ => none) (fun _ ih => T86_2 E D W (J86_1 E D W N ) ih) n
theorem LE86_2 (E : List (Nat × Blk)) (D : Den) (W : DrawFn) (N : Nat) (n : Nat) : ∀ (v0 : V) (v1 : V) (v7 : Int) (v8 : Int) (σ : H),
  iterK (fun rec s' => denC E D W N C86_2 s' (fun s'' => keepS [(0, .any), (1, .any), (7, (.int .i64)), (8, (.int .i64))] [] [] s'' rec) (blkK 0 (fun s' => denC E D W N (.keep [] [] [] C86_1) s' (Fin86 E) (fun _ _ => none) (Fin86 E)) (fun _ _ => none)) (Fin86 E)) n ⟨[(0, v0), (1, v1), (7, (V.int .i64 v7)), (8, (V.int .i64 v8))], [], [], σ⟩ = L86_2 E D W N n v0 v1 v7 v8 σ := by
  induction n with
  | zero => intro v0 v1 v7 v8 σ; rfl
  | succ n ihn =>
    intro v0 v1 v7 v8 σ
    rw [iterK_succ]
    refine (P86_2 E D W N C86_1 (iterK (fun rec s' => denC E D W N C86_2 s' (fun s'' => keepS [(0, .any), (1, .any), (7, (.int .i64)), (8, (.int .i64))] [] [] s'' rec) (blkK 0 (fun s' => denC E D W N (.keep [] [] [] C86_1) s' (Fin86 E) (fun _ _ => none) (Fin86 E)) (fun _ _ => none)) (Fin86 E)) n) v0 v1 v7 v8 σ).trans ?_
    simp only [ihn, JE86_1]
    kernel_rfl
def J86_0 (E : List (Nat × Blk)) (D : Den) (W : DrawFn) (N : Nat) : V → V → H → Ans := T86_0 E D W (L86_2 E D W N N)
theorem JE86_0 (E : List (Nat × Blk)) (D : Den) (W : DrawFn) (N : Nat) (v0 : V) (v1 : V) (σ : H) :
  denC E D W N (C86_0 C86_1 C86_2) ⟨[(0, v0), (1, v1)], [], [], σ⟩ (Fin86 E) (fun _ _ => none) (Fin86 E) = J86_0 E D W N v0 v1 σ := by
  refine (P86_0 E D W N C86_1 C86_2  v0 v1 σ).trans ?_
  simp only [LE86_2]
  kernel_rfl
def F86 (E : List (Nat × Blk)) (D : Den) (W : DrawFn) (N : Nat) (args : List V) (σ : H) : Ans :=
 rtCons args fun x1 l2 =>
 rtCons l2 fun x3 l4 =>
 rtNil l4 (
 J86_0 E D W N x1 x3 σ)
def A86 : XFn := ⟨19, [.any, .any], [(.tmp 4)], (C86_0 C86_1 C86_2)⟩
theorem FE86 (E : List (Nat × Blk)) (D : Den) (W : DrawFn) (N : Nat) (args : List V) (σ : H) : runX E D W N A86 args σ = F86 E D W N args σ := by
  unfold F86
  simp only [← JE86_0]
  kernel_rfl
theorem AO86 : A86.body.ok = true := by kernel_rfl

end
end Go.Proofs.YthkkkmkcjgaghaaGreatDoor
