/- The code of the functions that are entered. Printed by a program off the dump. -/
import Derived.Test.YthkkkmkcjgaghaaGreatDoorOgX
import Derived.KernelRfl
set_option linter.all false
set_option maxRecDepth 100000
set_option maxHeartbeats 0
namespace Go.Proofs.YthkkkmkcjgaghaaGreatDoor
open Go Go.Og
noncomputable section
def C4_0 (cc1 : XC) (cc2 : XC) : XC := (.seq (.ops (.op (some 2) .any [] (.mov (.con (V.bool false))) <|
 .nil))
 (.seq (.ops (.op (some 11) .one [] (.call 11 []) <|
 .op (some 3) .any [11] (.mov (.tmp 11)) <|
 .nil))
 (.seq (.seq (.ops (.op (some 12) .bool [] (.call 12 []) <|
 .op (some 13) .any [12] (.un .not (.tmp 12)) <|
 .op (some 14) .any [13] (.mov (.tmp 13)) <|
 .grp 14 false (.op (some 15) .any [3, 14] (.mov (.tmp 3)) <|
 .op (some 16) .any [15, 14] (.bin .eql .ptr (.tmp 15) (.con V.nilp)) <|
 .nil) 17 [14, 16] (.tmp 14) (.con (V.bool true)) (.tmp 16) <|
 .nil))
 (.cond (.tmp 17) (.seq (.ops (.op (some 2) .any [] (.mov (.con (V.bool false))) <|
 .nil))
 .ret)
 .skip))
 (.seq (.ops (.op (some 4) .any [] (.mov (.con (V.str ⟨1, 120⟩))) <|
 .nil))
 (.seq (.seq (.ops (.op (some 5) .any [] (.mov (.con (V.int .i64 (Int.ofNat 0)))) <|
 .nil))
 (.block 0 (.loop [(0, .bool), (3, .any), (4, .str), (5, (.int .i64))] [] [] cc2)))
 (.keep [] [] [] cc1))))))
def C4_1 : XC := (.seq (.ops (.op (some 2) .any [] (.mov (.con (V.bool false))) <|
 .nil))
 .ret)
def C4_2 (cc3 : XC) (cc4 : XC) : XC := (.seq (.seq (.ops (.op (some 18) .any [5] (.mov (.tmp 5)) <|
 .op (some 19) .any [18] (.bin .leq .none (.tmp 18) (.con (V.int .i64 (Int.ofNat 8)))) <|
 .nil))
 (.cond (.tmp 19) .skip
 (.exit 0)))
 (.seq (.block 1 (.seq (.ops (.op (some 22) .any [5] (.mov (.tmp 5)) <|
 .op (some 23) .any [22] (.conv (.toInt .u64) (.tmp 22)) <|
 .op (some 24) .str [23] (.call 7 [(.tmp 23)]) <|
 .op (some 25) .any [24] (.bin .add .none (.con (V.str ⟨1, 77⟩)) (.tmp 24)) <|
 .op (some 26) .any [25] (.bin .add .none (.tmp 25) (.con (V.str ⟨26, 109763095914330058706115112053438096070104739118161345380697120⟩))) <|
 .op (some 6) .any [26] (.mov (.tmp 26)) <|
 .nil))
 (.seq (.seq (.ops (.op (some 27) .any [0] (.mov (.tmp 0)) <|
 .nil))
 (.cond (.tmp 27) (.seq (.ops (.op (some 28) .any [4] (.mov (.tmp 4)) <|
 .op (some 29) .any [28] (.bin .add .none (.tmp 28) (.con (V.str ⟨3, 7938092⟩))) <|
 .op (some 30) .any [5] (.mov (.tmp 5)) <|
 .op (some 31) .any [30] (.conv (.toInt .u64) (.tmp 30)) <|
 .op (some 32) .str [31] (.call 7 [(.tmp 31)]) <|
 .op (some 33) .any [29, 32] (.bin .add .none (.tmp 29) (.tmp 32)) <|
 .op (some 4) .any [33] (.mov (.tmp 33)) <|
 .nil))
 (.ops (.op (some 34) .any [4] (.mov (.tmp 4)) <|
 .op (some 35) .any [34] (.bin .add .none (.con (V.str ⟨51, 83077639896642282797293766136835193987745990168307601318093263445647270008926856389992239392461409273510564478825990987853⟩)) (.tmp 34)) <|
 .op (some 36) .any [35] (.bin .add .none (.tmp 35) (.con (V.str ⟨6, 75102957894944⟩))) <|
 .op (some 6) .any [36] (.mov (.tmp 36)) <|
 .nil)))
 .skip))
 (.keep [(0, .bool), (3, .any), (4, .str), (5, (.int .i64)), (6, .str)] [] [] cc4))))
 (.keep [(0, .bool), (3, .any), (4, .str), (5, (.int .i64))] [] [] cc3)))
def C4_3 : XC := (.ops (.op (some 20) .any [5] (.mov (.tmp 5)) <|
 .op (some 21) .any [20] (.bin .add .none (.tmp 20) (.con (V.int .i64 (Int.ofNat 1)))) <|
 .op (some 5) .any [21] (.mov (.tmp 21)) <|
 .nil))
def C4_4 (cc5 : XC) : XC := (.seq (.ops (.op (some 38) .any [3] (.mov (.tmp 3)) <|
 .op (some 39) .any [6] (.mov (.tmp 6)) <|
 .op (some 40) (.tup [(.int .i64), (.int .i64), (.int .i64)]) [38, 39] (.call 13 [(.tmp 38), (.tmp 39)]) <|
 .op (some 37) .any [40] (.mov (.tmp 40)) <|
 .op (some 41) .any [37] (.extract 0 (.tmp 37)) <|
 .op (some 42) .any [37] (.extract 1 (.tmp 37)) <|
 .op (some 43) .any [37] (.extract 2 (.tmp 37)) <|
 .op (some 7) .any [41] (.mov (.tmp 41)) <|
 .op (some 8) .any [42] (.mov (.tmp 42)) <|
 .op (some 9) .any [43] (.mov (.tmp 43)) <|
 .nil))
 (.seq (.seq (.ops (.op (some 44) .any [5] (.mov (.tmp 5)) <|
 .op (some 45) .any [44] (.bin .eql .none (.tmp 44) (.con (V.int .i64 (Int.ofNat 8)))) <|
 .nil))
 (.cond (.tmp 45) (.seq (.ops (.op (some 46) .any [9] (.mov (.tmp 9)) <|
 .op (some 47) .any [46] (.bin .eql .none (.tmp 46) (.con (V.int .i64 (Int.ofNat 15)))) <|
 .op (some 48) .any [47] (.mov (.tmp 47)) <|
 .grp 48 true (.op (some 49) .any [7, 48] (.mov (.tmp 7)) <|
 .op (some 50) .any [49, 48] (.bin .eql .none (.tmp 49) (.con (V.int .i64 (Int.ofNat 0)))) <|
 .nil) 51 [48, 50] (.tmp 48) (.tmp 50) (.con (V.bool false)) <|
 .op (some 2) .any [51] (.mov (.tmp 51)) <|
 .nil))
 .ret)
 .skip))
 (.seq (.ops (.op (some 10) .any [] (.mov (.con (V.int .i64 (Int.ofNat 1)))) <|
 .nil))
 (.seq (.seq (.ops (.op (some 52) .any [0] (.mov (.tmp 0)) <|
 .nil))
 (.cond (.tmp 52) (.ops (.op (some 53) .any [5] (.mov (.tmp 5)) <|
 .op (some 54) .any [53] (.bin .add .none (.tmp 53) (.con (V.int .i64 (Int.ofNat 1)))) <|
 .op (some 10) .any [54] (.mov (.tmp 54)) <|
 .nil))
 .skip))
 (.keep [(0, .bool), (3, .any), (4, .str), (5, (.int .i64)), (7, (.int .i64)), (9, (.int .i64)), (10, (.int .i64))] [] [] cc5)))))
def C4_5 : XC := (.seq (.ops (.op (some 55) .any [9] (.mov (.tmp 9)) <|
 .op (some 56) .any [55] (.bin .neq .none (.tmp 55) (.con (V.int .i64 (Int.ofNat 0)))) <|
 .op (some 57) .any [56] (.mov (.tmp 56)) <|
 .grp 57 false (.op (some 58) .any [7, 57] (.mov (.tmp 7)) <|
 .op (some 59) .any [10, 57] (.mov (.tmp 10)) <|
 .op (some 60) .any [58, 59, 57] (.bin .neq .none (.tmp 58) (.tmp 59)) <|
 .nil) 61 [57, 60] (.tmp 57) (.con (V.bool true)) (.tmp 60) <|
 .nil))
 (.cond (.tmp 61) (.seq (.ops (.op (some 2) .any [] (.mov (.con (V.bool false))) <|
 .nil))
 .ret)
 .skip))
def A4 : XFn := ⟨62, [.bool], [(.tmp 2)], (C4_0 C4_1 (C4_2 C4_3 (C4_4 C4_5)))⟩
/-! ### F5: ogham_oghamlaw23.StoreNil -/
def Fin5 (E : List (Nat × Blk)) : St → Ans := fun s => resK E s [(.tmp 6)] fun l => some (oneV l, s.σ)
def C5_0 : XC := (.seq (.ops (.op (some 6) .any [] (.mov (.con (V.bool false))) <|
 .nil))
 (.seq (.ops (.op (some 7) .any [] (.mov (.con V.nilp)) <|
 .nil))
 (.seq (.seq (.ops (.op (some 17) .any [0] (.mov (.tmp 0)) <|
 .op (some 18) .any [17] (.len true (.tmp 17)) <|
 .op (some 19) .any [18] (.bin .gtr .none (.tmp 18) (.con (V.int .i64 (Int.ofNat 3000)))) <|
 .nil))
 (.cond (.tmp 19) (.seq (.ops (.op (some 20) .bool [] (.call 12 []) <|
 .op (some 6) .any [20] (.mov (.tmp 20)) <|
 .nil))
 .ret)
 .skip))
 (.seq (.ops (.op (some 22) .any [7] (.mov (.tmp 7)) <|
 .op (some 23) .any [0] (.mov (.tmp 0)) <|
 .op (some 24) (.tup [(.int .i64), (.int .i64), (.int .i64)]) [22, 23] (.call 13 [(.tmp 22), (.tmp 23)]) <|
 .op (some 21) .any [24] (.mov (.tmp 24)) <|
 .op (some 25) .any [21] (.extract 0 (.tmp 21)) <|
 .op (some 26) .any [21] (.extract 1 (.tmp 21)) <|
 .op (some 27) .any [21] (.extract 2 (.tmp 21)) <|
 .op (some 8) .any [25] (.mov (.tmp 25)) <|
 .op (some 9) .any [26] (.mov (.tmp 26)) <|
 .op (some 10) .any [27] (.mov (.tmp 27)) <|
 .nil))
 (.seq (.ops (.op (some 29) .any [7] (.mov (.tmp 7)) <|
 .op (some 30) .any [1] (.mov (.tmp 1)) <|
 .op (some 31) .any [0] (.mov (.tmp 0)) <|
 .op (some 32) (.tup [(.int .i64), (.int .i64)]) [29, 30, 31] (.call 14 [(.tmp 29), (.tmp 30), (.tmp 31)]) <|
 .op (some 28) .any [32] (.mov (.tmp 32)) <|
 .op (some 33) .any [28] (.extract 0 (.tmp 28)) <|
 .op (some 34) .any [28] (.extract 1 (.tmp 28)) <|
 .op (some 11) .any [33] (.mov (.tmp 33)) <|
 .op (some 12) .any [34] (.mov (.tmp 34)) <|
 .nil))
 (.seq (.ops (.op (some 36) .any [7] (.mov (.tmp 7)) <|
 .op (some 37) .any [1] (.mov (.tmp 1)) <|
 .op (some 38) .any [2] (.mov (.tmp 2)) <|
 .op (some 39) (.tup [.str, (.int .i64)]) [36, 37, 38] (.call 15 [(.tmp 36), (.tmp 37), (.tmp 38)]) <|
 .op (some 35) .any [39] (.mov (.tmp 39)) <|
 .op (some 40) .any [35] (.extract 0 (.tmp 35)) <|
 .op (some 41) .any [35] (.extract 1 (.tmp 35)) <|
 .op (some 13) .any [40] (.mov (.tmp 40)) <|
 .op (some 14) .any [41] (.mov (.tmp 41)) <|
 .nil))
 (.seq (.ops (.op (some 43) .any [7] (.mov (.tmp 7)) <|
 .op (some 44) .any [1] (.mov (.tmp 1)) <|
 .op (some 45) .any [2] (.mov (.tmp 2)) <|
 .op (some 46) (.tup [(.agg [.str, .any, .any, .any]), (.int .i64)]) [43, 44, 45] (.call 16 [(.tmp 43), (.tmp 44), (.tmp 45)]) <|
 .op (some 42) .any [46] (.mov (.tmp 46)) <|
 .op (some 47) .any [42] (.extract 0 (.tmp 42)) <|
 .op (some 48) .any [42] (.extract 1 (.tmp 42)) <|
 .pal 15 [] 50 [(V.str ⟨0, 0⟩), V.nils, V.nils, V.nils] <|
 .op none (.agg [.str, .any, .any, .any]) [15, 47] (.store 4 (.tmp 15) (.tmp 47)) <|
 .op (some 16) .any [48] (.mov (.tmp 48)) <|
 .nil))
 (.seq (.ops (.op (some 49) .bool [] (.call 12 []) <|
 .op (some 50) .any [49] (.mov (.tmp 49)) <|
 .grp 50 true (.op (some 51) .any [8, 50] (.mov (.tmp 8)) <|
 .op (some 52) .any [51, 50] (.bin .eql .none (.tmp 51) (.con (V.int .i64 (Int.ofNat 0)))) <|
 .nil) 53 [50, 52] (.tmp 50) (.tmp 52) (.con (V.bool false)) <|
 .op (some 54) .any [53] (.mov (.tmp 53)) <|
 .grp 54 true (.op (some 55) .any [10, 54] (.mov (.tmp 10)) <|
 .op (some 56) .any [55, 54] (.bin .eql .none (.tmp 55) (.con (V.int .i64 (Int.ofNat 2)))) <|
 .nil) 57 [54, 56] (.tmp 54) (.tmp 56) (.con (V.bool false)) <|
 .op (some 58) .any [57] (.mov (.tmp 57)) <|
 .grp 58 true (.op (some 59) .any [12, 58] (.mov (.tmp 12)) <|
 .op (some 60) .any [59, 58] (.bin .eql .none (.tmp 59) (.con (V.int .i64 (Int.ofNat 2)))) <|
 .nil) 61 [58, 60] (.tmp 58) (.tmp 60) (.con (V.bool false)) <|
 .op (some 62) .any [61] (.mov (.tmp 61)) <|
 .grp 62 true (.op (some 63) .any [7, 62] (.mov (.tmp 7)) <|
 .op (some 64) .one [63, 62] (.call 17 [(.tmp 63)]) <|
 .op (some 65) .any [64, 62] (.len false (.tmp 64)) <|
 .op (some 66) .any [65, 62] (.bin .eql .none (.tmp 65) (.con (V.int .i64 (Int.ofNat 0)))) <|
 .nil) 67 [62, 66] (.tmp 62) (.tmp 66) (.con (V.bool false)) <|
 .op (some 68) .any [67] (.mov (.tmp 67)) <|
 .grp 68 true (.op (some 69) .any [7, 68] (.mov (.tmp 7)) <|
 .op (some 70) .any [1, 68] (.mov (.tmp 1)) <|
 .op (some 71) .one [69, 70, 68] (.call 18 [(.tmp 69), (.tmp 70)]) <|
 .op (some 72) .any [71, 68] (.len false (.tmp 71)) <|
 .op (some 73) .any [72, 68] (.bin .eql .none (.tmp 72) (.con (V.int .i64 (Int.ofNat 0)))) <|
 .nil) 74 [68, 73] (.tmp 68) (.tmp 73) (.con (V.bool false)) <|
 .op (some 75) .any [74] (.mov (.tmp 74)) <|
 .grp 75 true (.op (some 76) .any [13, 75] (.mov (.tmp 13)) <|
 .op (some 77) .any [76, 75] (.bin .eql .none (.tmp 76) (.con (V.str ⟨0, 0⟩))) <|
 .nil) 78 [75, 77] (.tmp 75) (.tmp 77) (.con (V.bool false)) <|
 .op (some 79) .any [78] (.mov (.tmp 78)) <|
 .grp 79 true (.op (some 80) .any [14, 79] (.mov (.tmp 14)) <|
 .op (some 81) .any [80, 79] (.bin .eql .none (.tmp 80) (.con (V.int .i64 (Int.ofNat 2)))) <|
 .nil) 82 [79, 81] (.tmp 79) (.tmp 81) (.con (V.bool false)) <|
 .op (some 83) .any [82] (.mov (.tmp 82)) <|
 .grp 83 true (.op (some 84) (.agg [.str, .any, .any, .any]) [15, 83] (.load (some 4) (.tmp 15)) <|
 .op (some 85) (.agg [.str, .any, .any, .any]) [83] (.build [(V.str ⟨0, 0⟩), V.nils, V.nils, V.nils] []) <|
 .op (some 86) .bool [84, 85, 83] (.call 19 [(.tmp 84), (.tmp 85)]) <|
 .nil) 87 [83, 86] (.tmp 83) (.tmp 86) (.con (V.bool false)) <|
 .op (some 88) .any [87] (.mov (.tmp 87)) <|
 .grp 88 true (.op (some 89) .any [16, 88] (.mov (.tmp 16)) <|
 .op (some 90) .any [89, 88] (.bin .eql .none (.tmp 89) (.con (V.int .i64 (Int.ofNat 2)))) <|
 .nil) 91 [88, 90] (.tmp 88) (.tmp 90) (.con (V.bool false)) <|
 .op (some 92) .any [91] (.mov (.tmp 91)) <|
 .grp 92 true (.op (some 93) .any [7, 92] (.mov (.tmp 7)) <|
 .op (some 94) .one [93, 92] (.call 20 [(.tmp 93)]) <|
 .op (some 95) .any [94, 92] (.len false (.tmp 94)) <|
 .op (some 96) .any [95, 92] (.bin .eql .none (.tmp 95) (.con (V.int .i64 (Int.ofNat 0)))) <|
 .nil) 97 [92, 96] (.tmp 92) (.tmp 96) (.con (V.bool false)) <|
 .op (some 98) .any [97] (.mov (.tmp 97)) <|
 .grp 98 true (.op (some 99) .any [7, 98] (.mov (.tmp 7)) <|
 .op (some 100) .one [99, 98] (.call 21 [(.tmp 99)]) <|
 .op (some 101) .any [100, 98] (.bin .eql .ptr (.tmp 100) (.con V.nilp)) <|
 .nil) 102 [98, 101] (.tmp 98) (.tmp 101) (.con (V.bool false)) <|
 .op (some 6) .any [102] (.mov (.tmp 102)) <|
 .nil))
 .ret))))))))
def T5_0 (E : List (Nat × Blk)) (D : Den) (W : DrawFn) (v0 : BS) (v1 : BS) (v2 : Int) (σ : H) : Ans :=
 condK (ltF (Int.ofNat 3000) (Int.ofNat (BS.len v0))) (
 callK (D 12 [] σ) fun u1 s2 =>
 rtBool u1 fun x3 =>
 some ((V.bool x3), s2)) (
 callK (D 13 [V.nilp, (V.str v0)] σ) fun u4 s5 =>
 rtTup u4 fun l6 =>
 rtCons l6 fun x7 l8 =>
 rtInt .i64 x7 fun x9 =>
 rtCons l8 fun x10 l11 =>
 rtInt .i64 x10 fun x12 =>
 rtCons l11 fun x13 l14 =>
 rtInt .i64 x13 fun x15 =>
 rtNil l14 (
 callK (D 14 [V.nilp, (V.str v1), (V.str v0)] s5) fun u16 s17 =>
 rtTup u16 fun l18 =>
 rtCons l18 fun x19 l20 =>
 rtInt .i64 x19 fun x21 =>
 rtCons l20 fun x22 l23 =>
 rtInt .i64 x22 fun x24 =>
 rtNil l23 (
 callK (D 15 [V.nilp, (V.str v1), (V.int .i64 v2)] s17) fun u25 s26 =>
 rtTup u25 fun l27 =>
 rtCons l27 fun x28 l29 =>
 rtStr x28 fun x30 =>
 rtCons l29 fun x31 l32 =>
 rtInt .i64 x31 fun x33 =>
 rtNil l32 (
 callK (D 16 [V.nilp, (V.str v1), (V.int .i64 v2)] s26) fun u34 s35 =>
 rtTup u34 fun l36 =>
 rtCons l36 fun x37 l38 =>
 rtAgg x37 fun l39 =>
 rtCons l39 fun x40 l41 =>
 rtStr x40 fun x42 =>
 rtCons l41 fun x43 l44 =>
 rtCons l44 fun x45 l46 =>
 rtCons l46 fun x47 l48 =>
 rtNil l48 (
 rtCons l38 fun x49 l50 =>
 rtInt .i64 x49 fun x51 =>
 rtNil l50 (
 chk (allOne [(V.str x42), x43, x45, x47]) (
 callK (D 12 [] s35) fun u52 s53 =>
 rtBool u52 fun x54 =>
 joinB (fun c55 s56 =>
 joinB (fun c58 s59 =>
 joinB (fun c61 s62 =>
 joinB (fun c64 s65 =>
 joinB (fun c67 s68 =>
 joinB (fun c70 s71 =>
 joinB (fun c73 s74 =>
 joinB (fun c76 s77 =>
 joinB (fun c79 s80 =>
 joinB (fun c82 s83 =>
 joinB (fun c85 s86 =>
 some ((V.bool c85), s86)) fun k87 =>
 condK c82 (
 callK (D 21 [V.nilp] s83) fun u88 s89 =>
 rtOne u88 (
 eqK .ptr u88 V.nilp fun c90 =>
 k87 c90 s89)) (
 k87 false s83)) fun k84 =>
 condK c79 (
 callK (D 20 [V.nilp] s80) fun u91 s92 =>
 rtOne u91 (
 slenK u91 fun n93 =>
 k84 (eqF (Int.ofNat n93) (Int.ofNat 0)) s92)) (
 k84 false s80)) fun k81 =>
 condK c76 (
 k81 (eqF x51 (Int.ofNat 2)) s77) (
 k81 false s77)) fun k78 =>
 condK c73 (
 callK (D 19 [(V.agg [(V.str x42), x43, x45, x47]), (V.agg [(V.str (BS.mk 0 0)), V.nils, V.nils, V.nils])] s74) fun u94 s95 =>
 rtBool u94 fun x96 =>
 k78 x96 s95) (
 k78 false s74)) fun k75 =>
 condK c70 (
 k75 (eqF x33 (Int.ofNat 2)) s71) (
 k75 false s71)) fun k72 =>
 condK c67 (
 k72 (BS.beq x30 (BS.mk 0 0)) s68) (
 k72 false s68)) fun k69 =>
 condK c64 (
 callK (D 18 [V.nilp, (V.str v1)] s65) fun u97 s98 =>
 rtOne u97 (
 slenK u97 fun n99 =>
 k69 (eqF (Int.ofNat n99) (Int.ofNat 0)) s98)) (
 k69 false s65)) fun k66 =>
 condK c61 (
 callK (D 17 [V.nilp] s62) fun u100 s101 =>
 rtOne u100 (
 slenK u100 fun n102 =>
 k66 (eqF (Int.ofNat n102) (Int.ofNat 0)) s101)) (
 k66 false s62)) fun k63 =>
 condK c58 (
 k63 (eqF x24 (Int.ofNat 2)) s59) (
 k63 false s59)) fun k60 =>
 condK c55 (
 k60 (eqF x15 (Int.ofNat 2)) s56) (
 k60 false s56)) fun k57 =>
 condK x54 (
 k57 (eqF x9 (Int.ofNat 0)) s53) (
 k57 false s53))))))))
theorem P5_0 (E : List (Nat × Blk)) (D : Den) (W : DrawFn) (N : Nat) (v0 : BS) (v1 : BS) (v2 : Int) (σ : H) :
  denC E D W N (C5_0 ) ⟨[(0, (V.str v0)), (1, (V.str v1)), (2, (V.int .i64 v2))], [], [], σ⟩ (Fin5 E) (fun _ _ => none) (Fin5 E) =
  T5_0 E D W  v0 v1 v2 σ := by kernel_rfl
def J5_0 (E : List (Nat × Blk)) (D : Den) (W : DrawFn) (N : Nat) : BS → BS → Int → H → Ans := T5_0 E D W 
theorem JE5_0 (E : List (Nat × Blk)) (D : Den) (W : DrawFn) (N : Nat) (v0 : BS) (v1 : BS) (v2 : Int) (σ : H) :
  denC E D W N C5_0 ⟨[(0, (V.str v0)), (1, (V.str v1)), (2, (V.int .i64 v2))], [], [], σ⟩ (Fin5 E) (fun _ _ => none) (Fin5 E) = J5_0 E D W N v0 v1 v2 σ := by
  refine (P5_0 E D W N   v0 v1 v2 σ).trans ?_
  kernel_rfl
def F5 (E : List (Nat × Blk)) (D : Den) (W : DrawFn) (N : Nat) (args : List V) (σ : H) : Ans :=
 rtCons args fun x1 l2 =>
 rtStr x1 fun x3 =>
 rtCons l2 fun x4 l5 =>
 rtStr x4 fun x6 =>
 rtCons l5 fun x7 l8 =>
 rtInt .i64 x7 fun x9 =>
 rtNil l8 (
 J5_0 E D W N x3 x6 x9 σ)
def A5 : XFn := ⟨103, [.str, .str, (.int .i64)], [(.tmp 6)], C5_0⟩
theorem FE5 (E : List (Nat × Blk)) (D : Den) (W : DrawFn) (N : Nat) (args : List V) (σ : H) : runX E D W N A5 args σ = F5 E D W N args σ := by
  unfold F5
  simp only [← JE5_0]
  kernel_rfl
theorem AO5 : A5.body.ok = true := by kernel_rfl

def G7_0 : List AOper := [⟨(some 10), .mov (.tmp 0), none⟩, ⟨(some 11), .bin .quo .none (.tmp 10) (.con (V.int .u64 (Int.ofNat 10))), none⟩, ⟨(some 12), .call 7 [(.tmp 11)], none⟩, ⟨(some 13), .mov (.tmp 0), none⟩, ⟨(some 14), .bin .rem .none (.tmp 13) (.con (V.int .u64 (Int.ofNat 10))), none⟩, ⟨(some 15), .bin .add .none (.con (V.int .u64 (Int.ofNat 48))) (.tmp 14), none⟩, ⟨(some 16), .conv (.toInt .u8) (.tmp 15), none⟩, ⟨(some 17), .buildSlice 5 1 [(V.int .u8 (Int.ofNat 0))] [(0, 1, (.tmp 16))], none⟩, ⟨(some 18), .conv .toStr (.tmp 17), none⟩, ⟨(some 19), .bin .add .none (.tmp 12) (.tmp 18), none⟩, ⟨(some 2), .mov (.tmp 19), none⟩]
def H7_0 : List DP := [⟨0, [0]⟩, ⟨1, [10]⟩, ⟨3, [11]⟩, ⟨0, [0]⟩, ⟨8, [13]⟩, ⟨24, [14]⟩, ⟨56, [15]⟩, ⟨120, [16]⟩, ⟨248, [17]⟩, ⟨511, [12, 18]⟩, ⟨1023, [19]⟩]
def C7_0 : XC := (.seq (.ops (.op (some 2) .any [] (.mov (.con (V.str ⟨0, 0⟩))) <|
 .nil))
 (.seq (.seq (.ops (.op (some 3) .any [0] (.mov (.tmp 0)) <|
 .op (some 4) .any [3] (.bin .lss .none (.tmp 3) (.con (V.int .u64 (Int.ofNat 10)))) <|
 .nil))
 (.cond (.tmp 4) (.seq (.ops (.op (some 5) .any [0] (.mov (.tmp 0)) <|
 .op (some 6) .any [5] (.bin .add .none (.con (V.int .u64 (Int.ofNat 48))) (.tmp 5)) <|
 .op (some 7) .any [6] (.conv (.toInt .u8) (.tmp 6)) <|
 .op (some 8) .any [7] (.buildSlice 5 1 [(V.int .u8 (Int.ofNat 0))] [(0, 1, (.tmp 7))]) <|
 .op (some 9) .any [8] (.conv .toStr (.tmp 8)) <|
 .op (some 2) .any [9] (.mov (.tmp 9)) <|
 .nil))
 .ret)
 .skip))
 (.seq (.keep [(0, (.int .u64))] [] [] (.gdraw G7_0 H7_0 [(2, .str)]))
 .ret)))
def A7 : XFn := ⟨20, [(.int .u64)], [(.tmp 2)], C7_0⟩
def C9_0 : XC := (.seq (.ops (.op (some 4) .any [] (.mov (.con (V.bool false))) <|
 .nil))
 (.seq (.ops (.op (some 5) .any [0] (.mov (.tmp 0)) <|
 .op (some 6) .any [1] (.mov (.tmp 1)) <|
 .op (some 7) .bool [5, 6] (.call 22 [(.tmp 5), (.tmp 6), (.con (V.fn 23 [] []))]) <|
 .op (some 4) .any [7] (.mov (.tmp 7)) <|
 .nil))
 .ret))
def A9 : XFn := ⟨8, [.any, .any], [(.tmp 4)], C9_0⟩
def C11_0 : XC := (.seq (.ops (.op (some 0) .any [] (.mov (.con V.nilp)) <|
 .nil))
 (.seq (.ops (.op (some 1) (.agg [.any]) [] (.build [V.nils] []) <|
 .op (some 2) .any [1] (.box 71 (.tmp 1)) <|
 .op (some 0) .any [2] (.mov (.tmp 2)) <|
 .nil))
 .ret))
def A11 : XFn := ⟨3, [], [(.tmp 0)], C11_0⟩
def C12_0 : XC := (.seq (.ops (.op (some 0) .any [] (.mov (.con (V.bool false))) <|
 .nil))
 (.seq (.ops (.op (some 8) .one [] (.call 11 []) <|
 .op (some 1) .any [8] (.mov (.tmp 8)) <|
 .nil))
 (.seq (.seq (.ops (.op (some 9) .any [1] (.mov (.tmp 1)) <|
 .op (some 10) .any [9] (.bin .eql .ptr (.tmp 9) (.con V.nilp)) <|
 .nil))
 (.cond (.tmp 10) (.seq (.ops (.op (some 0) .any [] (.mov (.con (V.bool false))) <|
 .nil))
 .ret)
 .skip))
 (.seq (.ops (.op (some 12) .any [1] (.mov (.tmp 1)) <|
 .op (some 13) (.tup [(.int .i64), (.int .i64), (.int .i64)]) [12] (.call 13 [(.tmp 12), (.con (V.str ⟨38, 8696328401110393999863008430138354213846351527998628442106982968015151536563225768914853965⟩))]) <|
 .op (some 11) .any [13] (.mov (.tmp 13)) <|
 .op (some 14) .any [11] (.extract 0 (.tmp 11)) <|
 .op (some 15) .any [11] (.extract 1 (.tmp 11)) <|
 .op (some 16) .any [11] (.extract 2 (.tmp 11)) <|
 .op (some 2) .any [14] (.mov (.tmp 14)) <|
 .op (some 3) .any [15] (.mov (.tmp 15)) <|
 .op (some 4) .any [16] (.mov (.tmp 16)) <|
 .nil))
 (.seq (.ops (.op (some 18) .any [1] (.mov (.tmp 1)) <|
 .op (some 19) (.tup [(.int .i64), (.int .i64), (.int .i64)]) [18] (.call 13 [(.tmp 18), (.con (V.str ⟨38, 8696328401110393999863008430138354213846351527998628442106982968015151536563225768914853965⟩))]) <|
 .op (some 17) .any [19] (.mov (.tmp 19)) <|
 .op (some 20) .any [17] (.extract 0 (.tmp 17)) <|
 .op (some 21) .any [17] (.extract 1 (.tmp 17)) <|
 .op (some 22) .any [17] (.extract 2 (.tmp 17)) <|
 .op (some 5) .any [20] (.mov (.tmp 20)) <|
 .op (some 6) .any [21] (.mov (.tmp 21)) <|
 .op (some 7) .any [22] (.mov (.tmp 22)) <|
 .nil))
 (.seq (.ops (.op (some 23) .any [2] (.mov (.tmp 2)) <|
 .op (some 24) .any [23] (.bin .eql .none (.tmp 23) (.con (V.int .i64 (Int.ofNat 1)))) <|
 .op (some 25) .any [24] (.mov (.tmp 24)) <|
 .grp 25 true (.op (some 26) .any [4, 25] (.mov (.tmp 4)) <|
 .op (some 27) .any [26, 25] (.bin .eql .none (.tmp 26) (.con (V.int .i64 (Int.ofNat 0)))) <|
 .nil) 28 [25, 27] (.tmp 25) (.tmp 27) (.con (V.bool false)) <|
 .op (some 29) .any [28] (.mov (.tmp 28)) <|
 .grp 29 true (.op (some 30) .any [7, 29] (.mov (.tmp 7)) <|
 .op (some 31) .any [30, 29] (.bin .eql .none (.tmp 30) (.con (V.int .i64 (Int.ofNat 8)))) <|
 .nil) 32 [29, 31] (.tmp 29) (.tmp 31) (.con (V.bool false)) <|
 .op (some 33) .any [32] (.mov (.tmp 32)) <|
 .grp 33 true (.op (some 34) .any [1, 33] (.mov (.tmp 1)) <|
 .op (some 35) .one [34, 33] (.call 17 [(.tmp 34)]) <|
 .op (some 36) .any [35, 33] (.len false (.tmp 35)) <|
 .op (some 37) .any [36, 33] (.bin .eql .none (.tmp 36) (.con (V.int .i64 (Int.ofNat 1)))) <|
 .nil) 38 [33, 37] (.tmp 33) (.tmp 37) (.con (V.bool false)) <|
 .op (some 0) .any [38] (.mov (.tmp 38)) <|
 .nil))
 .ret))))))
def A12 : XFn := ⟨39, [], [(.tmp 0)], C12_0⟩
def C13_0 : XC := (.seq (.ops (.op (some 4) .any [] (.mov (.con (V.int .i64 (Int.ofNat 0)))) <|
 .op (some 5) .any [] (.mov (.con (V.int .i64 (Int.ofNat 0)))) <|
 .op (some 6) .any [] (.mov (.con (V.int .i64 (Int.ofNat 0)))) <|
 .nil))
 (.seq (.seq (.ops (.op (some 12) .any [0] (.mov (.tmp 0)) <|
 .op (some 13) .any [12] (.bin .eql .ptr (.tmp 12) (.con V.nilp)) <|
 .nil))
 (.cond (.tmp 13) (.seq (.ops (.op (some 4) .any [] (.mov (.con (V.int .i64 (Int.ofNat 0)))) <|
 .op (some 5) .any [] (.mov (.con (V.int .i64 (Int.ofNat 0)))) <|
 .op (some 6) .any [] (.mov (.con (V.int .i64 (Int.ofNat 2)))) <|
 .nil))
 .ret)
 .skip))
 (.seq (.ops (.op (some 15) .any [1] (.mov (.tmp 1)) <|
 .op (some 16) (.tup [(.agg [(.int .i64), .str, .str, .any, .any, .any]), (.int .i64), (.int .i64)]) [15] (.call 25 [(.tmp 15)]) <|
 .op (some 14) .any [16] (.mov (.tmp 16)) <|
 .op (some 17) .any [14] (.extract 0 (.tmp 14)) <|
 .op (some 18) .any [14] (.extract 1 (.tmp 14)) <|
 .op (some 19) .any [14] (.extract 2 (.tmp 14)) <|
 .pal 7 [] 73 [(V.int .i64 (Int.ofNat 0)), (V.str ⟨0, 0⟩), (V.str ⟨0, 0⟩), V.nils, V.nils, V.nils] <|
 .op none (.agg [(.int .i64), .str, .str, .any, .any, .any]) [7, 17] (.store 6 (.tmp 7) (.tmp 17)) <|
 .op (some 8) .any [18] (.mov (.tmp 18)) <|
 .op (some 9) .any [19] (.mov (.tmp 19)) <|
 .nil))
 (.seq (.seq (.ops (.op (some 20) .any [9] (.mov (.tmp 9)) <|
 .op (some 21) .any [20] (.bin .neq .none (.tmp 20) (.con (V.int .i64 (Int.ofNat 0)))) <|
 .nil))
 (.cond (.tmp 21) (.seq (.ops (.op (some 22) .any [8] (.mov (.tmp 8)) <|
 .op (some 23) .any [9] (.mov (.tmp 9)) <|
 .op (some 4) .any [] (.mov (.con (V.int .i64 (Int.ofNat 0)))) <|
 .op (some 5) .any [22] (.mov (.tmp 22)) <|
 .op (some 6) .any [23] (.mov (.tmp 23)) <|
 .nil))
 .ret)
 .skip))
 (.seq (.seq (.ops (.op (some 25) .any [0] (.mov (.tmp 0)) <|
 .op (some 26) (.agg [(.int .i64), .str, .str, .any, .any, .any]) [7] (.load (some 6) (.tmp 7)) <|
 .op (some 27) (.tup [(.int .i64), (.int .i64)]) [25, 26] (.call 26 [(.tmp 25), (.tmp 26)]) <|
 .op (some 24) .any [27] (.mov (.tmp 27)) <|
 .op (some 28) .any [24] (.extract 0 (.tmp 24)) <|
 .op (some 29) .any [24] (.extract 1 (.tmp 24)) <|
 .op (some 10) .any [28] (.mov (.tmp 28)) <|
 .op (some 11) .any [29] (.mov (.tmp 29)) <|
 .nil))
 (.seq (.ops (.op (some 30) .any [11] (.mov (.tmp 11)) <|
 .op (some 31) .any [30] (.bin .neq .none (.tmp 30) (.con (V.int .i64 (Int.ofNat 0)))) <|
 .nil))
 (.cond (.tmp 31) (.seq (.ops (.op (some 32) .any [10] (.mov (.tmp 10)) <|
 .op (some 33) .any [11] (.mov (.tmp 11)) <|
 .op (some 4) .any [] (.mov (.con (V.int .i64 (Int.ofNat 0)))) <|
 .op (some 5) .any [32] (.mov (.tmp 32)) <|
 .op (some 6) .any [33] (.mov (.tmp 33)) <|
 .nil))
 .ret)
 .skip)))
 (.seq (.draw (.op (some 34) .any [0] (.mov (.tmp 0)) <|
 .op (some 35) .any [34] (.nilck (.tmp 34)) <|
 .op (some 36) .any [35] (.faddr 0 (.tmp 35)) <|
 .op (some 37) .any [7] (.faddr 2 (.tmp 7)) <|
 .op (some 38) .any [37] (.faddr 0 (.tmp 37)) <|
 .op (some 39) .str [38] (.load none (.tmp 38)) <|
 .op (some 40) .one [36, 39] (.call 27 [(.tmp 36), (.tmp 39)]) <|
 .op (some 41) .any [40] (.len false (.tmp 40)) <|
 .op (some 42) .any [41] (.bin .add .none (.tmp 41) (.con (V.int .i64 (Int.ofNat 1)))) <|
 .op (some 43) .any [7] (.faddr 0 (.tmp 7)) <|
 .op (some 44) .any [43] (.faddr 0 (.tmp 43)) <|
 .op none .any [44, 42] (.store 1 (.tmp 44) (.tmp 42)) <|
 .nil) [0, 1, 3, 0, 8, 24, 63, 127, 255, 511, 1023, 2047])
 (.seq (.draw (.op (some 45) .any [0] (.mov (.tmp 0)) <|
 .op (some 46) .any [45] (.nilck (.tmp 45)) <|
 .op (some 47) .any [46] (.faddr 0 (.tmp 46)) <|
 .op (some 48) .any [7] (.faddr 2 (.tmp 7)) <|
 .op (some 49) .any [48] (.faddr 0 (.tmp 48)) <|
 .op (some 50) .str [49] (.load none (.tmp 49)) <|
 .op (some 51) (.agg [(.int .i64), .str, .str, .any, .any, .any]) [7] (.load (some 6) (.tmp 7)) <|
 .op (some 52) (.tup []) [47, 50, 51] (.call 28 [(.tmp 47), (.tmp 50), (.tmp 51)]) <|
 .nil) [0, 1, 3, 0, 8, 24, 0, 127])
 (.seq (.ops (.op (some 53) .any [7] (.faddr 0 (.tmp 7)) <|
 .op (some 54) .any [53] (.faddr 0 (.tmp 53)) <|
 .op (some 55) (.int .i64) [54] (.load none (.tmp 54)) <|
 .op (some 4) .any [55] (.mov (.tmp 55)) <|
 .op (some 5) .any [] (.mov (.con (V.int .i64 (Int.ofNat 0)))) <|
 .op (some 6) .any [] (.mov (.con (V.int .i64 (Int.ofNat 0)))) <|
 .nil))
 .ret))))))))
def A13 : XFn := ⟨56, [.any, .str], [(.tmp 4), (.tmp 5), (.tmp 6)], C13_0⟩
def C14_0 : XC := (.seq (.ops (.op (some 6) .any [] (.mov (.con (V.int .i64 (Int.ofNat 0)))) <|
 .op (some 7) .any [] (.mov (.con (V.int .i64 (Int.ofNat 0)))) <|
 .nil))
 (.seq (.seq (.ops (.op (some 11) .any [0] (.mov (.tmp 0)) <|
 .op (some 12) .any [11] (.bin .eql .ptr (.tmp 11) (.con V.nilp)) <|
 .nil))
 (.cond (.tmp 12) (.seq (.ops (.op (some 6) .any [] (.mov (.con (V.int .i64 (Int.ofNat 0)))) <|
 .op (some 7) .any [] (.mov (.con (V.int .i64 (Int.ofNat 2)))) <|
 .nil))
 .ret)
 .skip))
 (.seq (.ops (.op (some 14) .any [2] (.mov (.tmp 2)) <|
 .op (some 15) (.tup [(.agg [(.int .i64), .str, .str, .any, .any, .any]), (.int .i64), (.int .i64)]) [14] (.call 25 [(.tmp 14)]) <|
 .op (some 13) .any [15] (.mov (.tmp 15)) <|
 .op (some 16) .any [13] (.extract 0 (.tmp 13)) <|
 .op (some 17) .any [13] (.extract 1 (.tmp 13)) <|
 .op (some 18) .any [13] (.extract 2 (.tmp 13)) <|
 .pal 8 [] 73 [(V.int .i64 (Int.ofNat 0)), (V.str ⟨0, 0⟩), (V.str ⟨0, 0⟩), V.nils, V.nils, V.nils] <|
 .op none (.agg [(.int .i64), .str, .str, .any, .any, .any]) [8, 16] (.store 6 (.tmp 8) (.tmp 16)) <|
 .op (some 9) .any [17] (.mov (.tmp 17)) <|
 .op (some 10) .any [18] (.mov (.tmp 18)) <|
 .nil))
 (.seq (.block 0 (.seq (.ops (.op (some 20) .any [10] (.mov (.tmp 10)) <|
 .op (some 21) .any [20] (.bin .neq .none (.tmp 20) (.con (V.int .i64 (Int.ofNat 0)))) <|
 .op (some 19) .any [21] (.mov (.tmp 21)) <|
 .nil))
 (.cond (.tmp 19) (.seq (.ops (.op (some 22) .any [9] (.mov (.tmp 9)) <|
 .op (some 23) .any [10] (.mov (.tmp 10)) <|
 .op (some 6) .any [22] (.mov (.tmp 22)) <|
 .op (some 7) .any [23] (.mov (.tmp 23)) <|
 .nil))
 .ret)
 (.seq (.ops (.op (some 25) .any [8] (.faddr 2 (.tmp 8)) <|
 .op (some 26) .any [25] (.faddr 0 (.tmp 25)) <|
 .op (some 27) .str [26] (.load none (.tmp 26)) <|
 .op (some 28) .any [1] (.mov (.tmp 1)) <|
 .op (some 29) .any [27, 28] (.bin .neq .none (.tmp 27) (.tmp 28)) <|
 .op (some 24) .any [29] (.mov (.tmp 29)) <|
 .nil))
 (.cond (.tmp 24) (.seq (.ops (.op (some 6) .any [] (.mov (.con (V.int .i64 (Int.ofNat 0)))) <|
 .op (some 7) .any [] (.mov (.con (V.int .i64 (Int.ofNat 1)))) <|
 .nil))
 .ret)
 .skip)))))
 (.seq (.ops (.op (some 30) .any [0] (.mov (.tmp 0)) <|
 .op (some 31) (.agg [(.int .i64), .str, .str, .any, .any, .any]) [8] (.load (some 6) (.tmp 8)) <|
 .op (some 32) (.tup [(.int .i64), (.int .i64)]) [30, 31] (.call 26 [(.tmp 30), (.tmp 31)]) <|
 .op (some 33) .any [32] (.extract 0 (.tmp 32)) <|
 .op (some 34) .any [32] (.extract 1 (.tmp 32)) <|
 .op (some 6) .any [33] (.mov (.tmp 33)) <|
 .op (some 7) .any [34] (.mov (.tmp 34)) <|
 .nil))
 .ret)))))
def A14 : XFn := ⟨35, [.any, .str, .str], [(.tmp 6), (.tmp 7)], C14_0⟩
def C15_0 : XC := (.seq (.ops (.op (some 6) .any [] (.mov (.con (V.str ⟨0, 0⟩))) <|
 .op (some 7) .any [] (.mov (.con (V.int .i64 (Int.ofNat 0)))) <|
 .nil))
 (.seq (.ops (.op (some 11) .any [0] (.mov (.tmp 0)) <|
 .op (some 12) .any [1] (.mov (.tmp 1)) <|
 .op (some 13) .any [2] (.mov (.tmp 2)) <|
 .op (some 14) (.tup [(.agg [(.int .i64), .str, .str, .any, .any, .any]), (.int .i64)]) [11, 12, 13] (.call 29 [(.tmp 11), (.tmp 12), (.tmp 13)]) <|
 .op (some 10) .any [14] (.mov (.tmp 14)) <|
 .op (some 15) .any [10] (.extract 0 (.tmp 10)) <|
 .op (some 16) .any [10] (.extract 1 (.tmp 10)) <|
 .pal 8 [] 73 [(V.int .i64 (Int.ofNat 0)), (V.str ⟨0, 0⟩), (V.str ⟨0, 0⟩), V.nils, V.nils, V.nils] <|
 .op none (.agg [(.int .i64), .str, .str, .any, .any, .any]) [8, 15] (.store 6 (.tmp 8) (.tmp 15)) <|
 .op (some 9) .any [16] (.mov (.tmp 16)) <|
 .nil))
 (.seq (.ops (.op (some 17) .any [8] (.faddr 0 (.tmp 8)) <|
 .op (some 18) .any [17] (.faddr 1 (.tmp 17)) <|
 .op (some 19) .str [18] (.load none (.tmp 18)) <|
 .op (some 20) .any [9] (.mov (.tmp 9)) <|
 .op (some 6) .any [19] (.mov (.tmp 19)) <|
 .op (some 7) .any [20] (.mov (.tmp 20)) <|
 .nil))
 .ret)))
def A15 : XFn := ⟨21, [.any, .str, (.int .i64)], [(.tmp 6), (.tmp 7)], C15_0⟩
def C16_0 : XC := (.seq (.ops (.pal 6 [] 50 [(V.str ⟨0, 0⟩), V.nils, V.nils, V.nils] <|
 .op (some 7) .any [] (.mov (.con (V.int .i64 (Int.ofNat 0)))) <|
 .nil))
 (.seq (.ops (.op (some 11) .any [0] (.mov (.tmp 0)) <|
 .op (some 12) .any [1] (.mov (.tmp 1)) <|
 .op (some 13) .any [2] (.mov (.tmp 2)) <|
 .op (some 14) (.tup [(.agg [(.int .i64), .str, .str, .any, .any, .any]), (.int .i64)]) [11, 12, 13] (.call 29 [(.tmp 11), (.tmp 12), (.tmp 13)]) <|
 .op (some 10) .any [14] (.mov (.tmp 14)) <|
 .op (some 15) .any [10] (.extract 0 (.tmp 10)) <|
 .op (some 16) .any [10] (.extract 1 (.tmp 10)) <|
 .pal 8 [] 73 [(V.int .i64 (Int.ofNat 0)), (V.str ⟨0, 0⟩), (V.str ⟨0, 0⟩), V.nils, V.nils, V.nils] <|
 .op none (.agg [(.int .i64), .str, .str, .any, .any, .any]) [8, 15] (.store 6 (.tmp 8) (.tmp 15)) <|
 .op (some 9) .any [16] (.mov (.tmp 16)) <|
 .nil))
 (.seq (.seq (.ops (.op (some 17) .any [9] (.mov (.tmp 9)) <|
 .op (some 18) .any [17] (.bin .neq .none (.tmp 17) (.con (V.int .i64 (Int.ofNat 0)))) <|
 .nil))
 (.cond (.tmp 18) (.seq (.ops (.op (some 19) (.agg [.str, .any, .any, .any]) [] (.build [(V.str ⟨0, 0⟩), V.nils, V.nils, V.nils] []) <|
 .op (some 20) .any [9] (.mov (.tmp 9)) <|
 .op none (.agg [.str, .any, .any, .any]) [6, 19] (.store 4 (.tmp 6) (.tmp 19)) <|
 .op (some 7) .any [20] (.mov (.tmp 20)) <|
 .nil))
 .ret)
 .skip))
 (.seq (.ops (.op (some 21) .any [8] (.faddr 2 (.tmp 8)) <|
 .op (some 22) (.agg [.str, .any, .any, .any]) [21] (.load (some 4) (.tmp 21)) <|
 .op (some 23) (.agg [.str, .any, .any, .any]) [22] (.call 30 [(.tmp 22)]) <|
 .op none (.agg [.str, .any, .any, .any]) [6, 23] (.store 4 (.tmp 6) (.tmp 23)) <|
 .op (some 7) .any [] (.mov (.con (V.int .i64 (Int.ofNat 0)))) <|
 .nil))
 .ret))))
def A16 : XFn := ⟨24, [.any, .str, (.int .i64)], [(.cell 6 (some 4)), (.tmp 7)], C16_0⟩
def C17_0 (cc1 : XC) (cc2 : XC) : XC := (.seq (.ops (.op (some 2) .any [] (.mov (.con V.nils)) <|
 .nil))
 (.seq (.ops (.op (some 3) .any [] (.mov (.con V.nils)) <|
 .nil))
 (.seq (.seq (.ops (.op (some 6) .any [0] (.mov (.tmp 0)) <|
 .op (some 7) .any [6] (.bin .neq .ptr (.tmp 6) (.con V.nilp)) <|
 .nil))
 (.cond (.tmp 7) (.seq (.ops (.op (some 8) .any [0] (.mov (.tmp 0)) <|
 .op (some 9) .any [8] (.nilck (.tmp 8)) <|
 .op (some 10) .any [9] (.faddr 0 (.tmp 9)) <|
 .op (some 11) .any [10] (.faddr 0 (.tmp 10)) <|
 .op (some 12) .any [11] (.load none (.tmp 11)) <|
 .op (some 13) .any [12] (.len false (.tmp 12)) <|
 .op (some 14) .any [] (.mov (.con (V.int .i64 (Int.ofNat 0)))) <|
 .nil))
 (.block 0 (.loop [(3, .any), (12, .any), (13, (.int .i64)), (14, (.int .i64))] [] [] cc2)))
 .skip))
 (.keep [(3, .any)] [] [] cc1))))
def C17_1 : XC := (.seq (.ops (.op (some 24) .any [3] (.mov (.tmp 3)) <|
 .op (some 2) .any [24] (.mov (.tmp 24)) <|
 .nil))
 .ret)
def C17_2 : XC := (.seq (.ops (.op (some 15) .any [14, 13] (.bin .lss .none (.tmp 14) (.tmp 13)) <|
 .nil))
 (.seq (.cond (.tmp 15) .skip
 (.exit 0))
 (.seq (.block 1 (.seq (.ops (.op (some 16) .any [12, 14] (.iaddrS 2 (.tmp 12) (.tmp 14)) <|
 .op (some 17) (.agg [.str, .any]) [16] (.load (some 2) (.tmp 16)) <|
 .pal 5 [] 84 [(V.str ⟨0, 0⟩), V.nils] <|
 .op none (.agg [.str, .any]) [5, 17] (.store 2 (.tmp 5) (.tmp 17)) <|
 .nil))
 (.ops (.op (some 18) .any [3] (.mov (.tmp 3)) <|
 .op (some 19) .any [5] (.faddr 0 (.tmp 5)) <|
 .op (some 20) .str [19] (.load none (.tmp 19)) <|
 .op (some 21) .any [20] (.buildSlice 9 1 [(V.str ⟨0, 0⟩)] [(0, 1, (.tmp 20))]) <|
 .op (some 22) .one [18, 21] (.append 9 1 16 (.tmp 18) (.tmp 21)) <|
 .op (some 3) .any [22] (.mov (.tmp 22)) <|
 .nil))))
 (.ops (.op (some 23) .any [14] (.bin .add .none (.tmp 14) (.con (V.int .i64 (Int.ofNat 1)))) <|
 .op (some 14) .any [23] (.mov (.tmp 23)) <|
 .nil)))))
def A17 : XFn := ⟨25, [.any], [(.tmp 2)], (C17_0 C17_1 C17_2)⟩
def C18_0 (cc1 : XC) (cc2 : XC) : XC := (.seq (.ops (.op (some 4) .any [] (.mov (.con V.nils)) <|
 .nil))
 (.seq (.ops (.op (some 5) .any [] (.mov (.con V.nils)) <|
 .nil))
 (.seq (.seq (.ops (.op (some 8) .any [0] (.mov (.tmp 0)) <|
 .op (some 9) .any [8] (.bin .neq .ptr (.tmp 8) (.con V.nilp)) <|
 .nil))
 (.cond (.tmp 9) (.seq (.ops (.op (some 10) .any [0] (.mov (.tmp 0)) <|
 .op (some 11) .any [10] (.nilck (.tmp 10)) <|
 .op (some 12) .any [11] (.faddr 0 (.tmp 11)) <|
 .op (some 13) .any [1] (.mov (.tmp 1)) <|
 .op (some 14) .one [12, 13] (.call 27 [(.tmp 12), (.tmp 13)]) <|
 .op (some 15) .any [14] (.len false (.tmp 14)) <|
 .op (some 16) .any [] (.mov (.con (V.int .i64 (Int.ofNat 0)))) <|
 .nil))
 (.block 0 (.loop [(5, .any), (14, .any), (15, (.int .i64)), (16, (.int .i64))] [] [] cc2)))
 .skip))
 (.keep [(5, .any)] [] [] cc1))))
def C18_1 : XC := (.seq (.ops (.op (some 27) .any [5] (.mov (.tmp 5)) <|
 .op (some 4) .any [27] (.mov (.tmp 27)) <|
 .nil))
 .ret)
def C18_2 : XC := (.seq (.ops (.op (some 17) .any [16, 15] (.bin .lss .none (.tmp 16) (.tmp 15)) <|
 .nil))
 (.seq (.cond (.tmp 17) .skip
 (.exit 0))
 (.seq (.block 1 (.seq (.ops (.op (some 18) .any [14, 16] (.iaddrS 6 (.tmp 14) (.tmp 16)) <|
 .op (some 19) (.agg [(.int .i64), .str, .str, .any, .any, .any]) [18] (.load (some 6) (.tmp 18)) <|
 .pal 7 [] 73 [(V.int .i64 (Int.ofNat 0)), (V.str ⟨0, 0⟩), (V.str ⟨0, 0⟩), V.nils, V.nils, V.nils] <|
 .op none (.agg [(.int .i64), .str, .str, .any, .any, .any]) [7, 19] (.store 6 (.tmp 7) (.tmp 19)) <|
 .nil))
 (.ops (.op (some 20) .any [5] (.mov (.tmp 5)) <|
 .op (some 21) .any [7] (.faddr 0 (.tmp 7)) <|
 .op (some 22) .any [21] (.faddr 0 (.tmp 21)) <|
 .op (some 23) (.int .i64) [22] (.load none (.tmp 22)) <|
 .op (some 24) .any [23] (.buildSlice 3 1 [(V.int .i64 (Int.ofNat 0))] [(0, 1, (.tmp 23))]) <|
 .op (some 25) .one [20, 24] (.append 3 1 8 (.tmp 20) (.tmp 24)) <|
 .op (some 5) .any [25] (.mov (.tmp 25)) <|
 .nil))))
 (.ops (.op (some 26) .any [16] (.bin .add .none (.tmp 16) (.con (V.int .i64 (Int.ofNat 1)))) <|
 .op (some 16) .any [26] (.mov (.tmp 26)) <|
 .nil)))))
def A18 : XFn := ⟨28, [.any, .str], [(.tmp 4)], (C18_0 C18_1 C18_2)⟩
def C19_0 : XC := (.seq (.ops (.op (some 2) .any [0] (.box 50 (.tmp 0)) <|
 .op (some 3) .any [1] (.box 50 (.tmp 1)) <|
 .op (some 4) .any [] (.mov (.con (V.bool false))) <|
 .nil))
 (.seq (.ops (.op (some 5) .any [2] (.faddr 0 (.tmp 2)) <|
 .op (some 6) .str [5] (.load none (.tmp 5)) <|
 .op (some 7) .any [3] (.faddr 0 (.tmp 3)) <|
 .op (some 8) .str [7] (.load none (.tmp 7)) <|
 .op (some 9) .any [6, 8] (.bin .eql .none (.tmp 6) (.tmp 8)) <|
 .op (some 10) .any [9] (.mov (.tmp 9)) <|
 .grp 10 true (.op (some 11) .any [2, 10] (.faddr 1 (.tmp 2)) <|
 .op (some 12) .any [11, 10] (.load none (.tmp 11)) <|
 .op (some 13) .any [3, 10] (.faddr 1 (.tmp 3)) <|
 .op (some 14) .any [13, 10] (.load none (.tmp 13)) <|
 .op (some 15) .bool [12, 14, 10] (.call 31 [(.tmp 12), (.tmp 14)]) <|
 .nil) 16 [10, 15] (.tmp 10) (.tmp 15) (.con (V.bool false)) <|
 .op (some 17) .any [16] (.mov (.tmp 16)) <|
 .grp 17 true (.op (some 18) .any [2, 17] (.faddr 2 (.tmp 2)) <|
 .op (some 19) .any [18, 17] (.load none (.tmp 18)) <|
 .op (some 20) .any [3, 17] (.faddr 2 (.tmp 3)) <|
 .op (some 21) .any [20, 17] (.load none (.tmp 20)) <|
 .op (some 22) .bool [19, 21, 17] (.call 9 [(.tmp 19), (.tmp 21)]) <|
 .nil) 23 [17, 22] (.tmp 17) (.tmp 22) (.con (V.bool false)) <|
 .op (some 24) .any [23] (.mov (.tmp 23)) <|
 .grp 24 true (.op (some 25) .any [2, 24] (.faddr 3 (.tmp 2)) <|
 .op (some 26) .any [25, 24] (.load none (.tmp 25)) <|
 .op (some 27) .any [3, 24] (.faddr 3 (.tmp 3)) <|
 .op (some 28) .any [27, 24] (.load none (.tmp 27)) <|
 .op (some 29) .bool [26, 28, 24] (.call 32 [(.tmp 26), (.tmp 28), (.con (V.fn 33 [] []))]) <|
 .nil) 30 [24, 29] (.tmp 24) (.tmp 29) (.con (V.bool false)) <|
 .op (some 4) .any [30] (.mov (.tmp 30)) <|
 .nil))
 .ret))
def A19 : XFn := ⟨31, [(.agg [.str, .any, .any, .any]), (.agg [.str, .any, .any, .any])], [(.tmp 4)], C19_0⟩
def C20_0 (cc1 : XC) (cc2 : XC) : XC := (.seq (.ops (.op (some 2) .any [] (.mov (.con V.nils)) <|
 .nil))
 (.seq (.ops (.op (some 3) .any [] (.mov (.con V.nils)) <|
 .nil))
 (.seq (.seq (.ops (.op (some 9) .any [0] (.mov (.tmp 0)) <|
 .op (some 10) .any [9] (.bin .neq .ptr (.tmp 9) (.con V.nilp)) <|
 .nil))
 (.cond (.tmp 10) (.seq (.ops (.op (some 11) .any [0] (.mov (.tmp 0)) <|
 .op (some 12) .any [11] (.nilck (.tmp 11)) <|
 .op (some 13) .any [12] (.faddr 0 (.tmp 12)) <|
 .op (some 14) .any [13] (.faddr 0 (.tmp 13)) <|
 .op (some 15) .any [14] (.load none (.tmp 14)) <|
 .op (some 16) .any [15] (.len false (.tmp 15)) <|
 .op (some 17) .any [] (.mov (.con (V.int .i64 (Int.ofNat 0)))) <|
 .nil))
 (.block 0 (.loop [(3, .any), (15, .any), (16, (.int .i64)), (17, (.int .i64))] [] [] cc2)))
 .skip))
 (.keep [(3, .any)] [] [] cc1))))
def C20_1 : XC := (.seq (.ops (.op (some 44) .any [3] (.mov (.tmp 3)) <|
 .op (some 2) .any [44] (.mov (.tmp 44)) <|
 .nil))
 .ret)
def C20_2 (cc3 : XC) (cc4 : XC) (cc5 : XC) : XC := (.seq (.ops (.op (some 18) .any [17, 16] (.bin .lss .none (.tmp 17) (.tmp 16)) <|
 .nil))
 (.seq (.cond (.tmp 18) .skip
 (.exit 0))
 (.seq (.block 1 (.seq (.ops (.op (some 19) .any [15, 17] (.iaddrS 2 (.tmp 15) (.tmp 17)) <|
 .op (some 20) (.agg [.str, .any]) [19] (.load (some 2) (.tmp 19)) <|
 .pal 5 [] 84 [(V.str ⟨0, 0⟩), V.nils] <|
 .op none (.agg [.str, .any]) [5, 20] (.store 2 (.tmp 5) (.tmp 20)) <|
 .nil))
 (.seq (.ops (.op (some 21) .any [5] (.faddr 0 (.tmp 5)) <|
 .op (some 22) .str [21] (.load none (.tmp 21)) <|
 .op (some 23) (.agg [.str, .any]) [22] (.build [(V.str ⟨0, 0⟩), V.nils] [(0, 1, (.tmp 22))]) <|
 .pal 6 [] 29 [(V.str ⟨0, 0⟩), V.nils] <|
 .op none (.agg [.str, .any]) [6, 23] (.store 2 (.tmp 6) (.tmp 23)) <|
 .nil))
 (.seq (.seq (.ops (.op (some 24) .any [5] (.faddr 1 (.tmp 5)) <|
 .op (some 25) .any [24] (.load none (.tmp 24)) <|
 .op (some 26) .any [25] (.len false (.tmp 25)) <|
 .op (some 27) .any [] (.mov (.con (V.int .i64 (Int.ofNat 0)))) <|
 .nil))
 (.block 2 (.loop [(3, .any), (15, .any), (16, (.int .i64)), (17, (.int .i64)), (25, .any), (26, (.int .i64)), (27, (.int .i64))] [6] [(6, [.str, .any])] cc5)))
 (.keep [(3, .any), (15, .any), (16, (.int .i64)), (17, (.int .i64))] [6] [(6, [.str, .any])] cc4)))))
 (.keep [(3, .any), (15, .any), (16, (.int .i64)), (17, (.int .i64))] [] [] cc3))))
def C20_3 : XC := (.ops (.op (some 43) .any [17] (.bin .add .none (.tmp 17) (.con (V.int .i64 (Int.ofNat 1)))) <|
 .op (some 17) .any [43] (.mov (.tmp 43)) <|
 .nil))
def C20_4 : XC := (.ops (.op (some 39) .any [3] (.mov (.tmp 3)) <|
 .op (some 40) (.agg [.str, .any]) [6] (.load (some 2) (.tmp 6)) <|
 .op (some 41) .any [40] (.buildSlice 29 1 [(V.str ⟨0, 0⟩), V.nils] [(0, 2, (.tmp 40))]) <|
 .op (some 42) .one [39, 41] (.append 29 2 40 (.tmp 39) (.tmp 41)) <|
 .op (some 3) .any [42] (.mov (.tmp 42)) <|
 .nil))
def C20_5 : XC := (.seq (.ops (.op (some 28) .any [27, 26] (.bin .lss .none (.tmp 27) (.tmp 26)) <|
 .nil))
 (.seq (.cond (.tmp 28) .skip
 (.exit 2))
 (.seq (.block 3 (.seq (.ops (.op (some 29) .any [25, 27] (.iaddrS 6 (.tmp 25) (.tmp 27)) <|
 .op (some 30) (.agg [(.int .i64), .str, .str, .any, .any, .any]) [29] (.load (some 6) (.tmp 29)) <|
 .pal 8 [] 73 [(V.int .i64 (Int.ofNat 0)), (V.str ⟨0, 0⟩), (V.str ⟨0, 0⟩), V.nils, V.nils, V.nils] <|
 .op none (.agg [(.int .i64), .str, .str, .any, .any, .any]) [8, 30] (.store 6 (.tmp 8) (.tmp 30)) <|
 .nil))
 (.ops (.op (some 31) .any [6] (.faddr 1 (.tmp 6)) <|
 .op (some 32) .any [31] (.load none (.tmp 31)) <|
 .op (some 33) .any [8] (.faddr 0 (.tmp 8)) <|
 .op (some 34) (.agg [(.int .i64), .str]) [33] (.load (some 2) (.tmp 33)) <|
 .op (some 35) .any [34] (.buildSlice 31 1 [(V.int .i64 (Int.ofNat 0)), (V.str ⟨0, 0⟩)] [(0, 2, (.tmp 34))]) <|
 .op (some 36) .one [32, 35] (.append 31 2 24 (.tmp 32) (.tmp 35)) <|
 .op (some 37) .any [6] (.faddr 1 (.tmp 6)) <|
 .op none .any [37, 36] (.store 1 (.tmp 37) (.tmp 36)) <|
 .nil))))
 (.ops (.op (some 38) .any [27] (.bin .add .none (.tmp 27) (.con (V.int .i64 (Int.ofNat 1)))) <|
 .op (some 27) .any [38] (.mov (.tmp 38)) <|
 .nil)))))
def A20 : XFn := ⟨45, [.any], [(.tmp 2)], (C20_0 C20_1 (C20_2 C20_3 C20_4 C20_5))⟩
def C21_0 : XC := (.seq (.ops (.op (some 2) .any [] (.mov (.con V.nilp)) <|
 .nil))
 (.seq (.seq (.ops (.op (some 3) .any [0] (.mov (.tmp 0)) <|
 .op (some 4) .any [3] (.bin .eql .ptr (.tmp 3) (.con V.nilp)) <|
 .nil))
 (.cond (.tmp 4) (.seq (.ops (.op (some 2) .any [] (.mov (.con V.nilp)) <|
 .nil))
 .ret)
 .skip))
 (.seq (.ops (.op (some 5) .any [0] (.mov (.tmp 0)) <|
 .op (some 6) .any [5] (.nilck (.tmp 5)) <|
 .op (some 7) .any [6] (.faddr 0 (.tmp 6)) <|
 .op (some 8) .any [7] (.faddr 0 (.tmp 7)) <|
 .op (some 9) .any [8] (.load none (.tmp 8)) <|
 .op (some 10) .one [9] (.call 34 [(.tmp 9)]) <|
 .op (some 11) (.agg [.any]) [10] (.build [V.nils] [(0, 1, (.tmp 10))]) <|
 .op (some 12) (.agg [.any]) [11] (.build [V.nils] [(0, 1, (.tmp 11))]) <|
 .op (some 13) .any [12] (.box 71 (.tmp 12)) <|
 .op (some 2) .any [13] (.mov (.tmp 13)) <|
 .nil))
 .ret)))
def A21 : XFn := ⟨14, [.any], [(.tmp 2)], C21_0⟩
def C22_0 (cc1 : XC) (cc2 : XC) : XC := (.seq (.ops (.op (some 6) .any [] (.mov (.con (V.bool false))) <|
 .nil))
 (.seq (.seq (.ops (.op (some 8) .any [0] (.mov (.tmp 0)) <|
 .op (some 9) .any [8] (.len false (.tmp 8)) <|
 .op (some 10) .any [1] (.mov (.tmp 1)) <|
 .op (some 11) .any [10] (.len false (.tmp 10)) <|
 .op (some 12) .any [9, 11] (.bin .neq .none (.tmp 9) (.tmp 11)) <|
 .nil))
 (.cond (.tmp 12) (.seq (.ops (.op (some 6) .any [] (.mov (.con (V.bool false))) <|
 .nil))
 .ret)
 .skip))
 (.seq (.seq (.ops (.op (some 7) .any [] (.mov (.con (V.int .i64 (Int.ofNat 0)))) <|
 .nil))
 (.block 0 (.loop [(0, .any), (1, .any), (2, .any), (7, (.int .i64))] [] [] cc2)))
 (.keep [] [] [] cc1))))
def C22_1 : XC := (.seq (.ops (.op (some 6) .any [] (.mov (.con (V.bool true))) <|
 .nil))
 .ret)
def C22_2 : XC := (.seq (.seq (.ops (.op (some 13) .any [7] (.mov (.tmp 7)) <|
 .op (some 14) .any [0] (.mov (.tmp 0)) <|
 .op (some 15) .any [14] (.len false (.tmp 14)) <|
 .op (some 16) .any [13, 15] (.bin .lss .none (.tmp 13) (.tmp 15)) <|
 .nil))
 (.cond (.tmp 16) .skip
 (.exit 0)))
 (.seq (.block 1 (.seq (.draw (.op (some 19) .any [2] (.mov (.tmp 2)) <|
 .op (some 20) .any [0] (.mov (.tmp 0)) <|
 .op (some 21) .any [7] (.mov (.tmp 7)) <|
 .op (some 22) .any [20, 21] (.iaddrS 1 (.tmp 20) (.tmp 21)) <|
 .op (some 23) (.int .i64) [22] (.load none (.tmp 22)) <|
 .op (some 24) .any [1] (.mov (.tmp 1)) <|
 .op (some 25) .any [7] (.mov (.tmp 7)) <|
 .op (some 26) .any [24, 25] (.iaddrS 1 (.tmp 24) (.tmp 25)) <|
 .op (some 27) (.int .i64) [26] (.load none (.tmp 26)) <|
 .op (some 28) .bool [19, 23, 27] (.callv (.tmp 19) [(.tmp 23), (.tmp 27)]) <|
 .op (some 29) .any [28] (.un .not (.tmp 28)) <|
 .nil) [0, 0, 0, 6, 14, 0, 0, 96, 224, 511, 1023])
 (.cond (.tmp 29) (.seq (.ops (.op (some 6) .any [] (.mov (.con (V.bool false))) <|
 .nil))
 .ret)
 .skip)))
 (.ops (.op (some 17) .any [7] (.mov (.tmp 7)) <|
 .op (some 18) .any [17] (.bin .add .none (.tmp 17) (.con (V.int .i64 (Int.ofNat 1)))) <|
 .op (some 7) .any [18] (.mov (.tmp 18)) <|
 .nil))))
def A22 : XFn := ⟨30, [.any, .any, .any], [(.tmp 6)], (C22_0 C22_1 C22_2)⟩
def G25_0 : List AOper := [⟨(some 31), .load (some 5) (.tmp 5), none⟩, ⟨(some 32), .call 41 [(.tmp 31)], none⟩, ⟨(some 33), .build [(V.int .i64 (Int.ofNat 0)), (V.str ⟨0, 0⟩)] [(1, 1, (.tmp 32))], none⟩, ⟨(some 34), .load (some 4) (.tmp 8), none⟩, ⟨(some 35), .build [(V.int .i64 (Int.ofNat 0)), (V.str ⟨0, 0⟩), (V.str ⟨0, 0⟩), V.nils, V.nils, V.nils] [(0, 2, (.tmp 33)), (2, 4, (.tmp 34))], none⟩, ⟨none, .store 6 (.tmp 2) (.tmp 35), none⟩, ⟨(some 3), .mov (.con (V.int .i64 (Int.ofNat 0))), none⟩, ⟨(some 4), .mov (.con (V.int .i64 (Int.ofNat 0))), none⟩]
def H25_0 : List DP := [⟨0, [5]⟩, ⟨1, [31]⟩, ⟨3, [32]⟩, ⟨0, [8]⟩, ⟨15, [33, 34]⟩, ⟨31, [2, 35]⟩, ⟨63, []⟩, ⟨127, []⟩]
def C25_0 : XC := (.seq (.ops (.op (some 2) .any [] (.alloc 73 [(V.int .i64 (Int.ofNat 0)), (V.str ⟨0, 0⟩), (V.str ⟨0, 0⟩), V.nils, V.nils, V.nils]) <|
 .op (some 3) .any [] (.mov (.con (V.int .i64 (Int.ofNat 0)))) <|
 .op (some 4) .any [] (.mov (.con (V.int .i64 (Int.ofNat 0)))) <|
 .nil))
 (.seq (.ops (.op (some 10) .any [0] (.mov (.tmp 0)) <|
 .op (some 11) (.tup [(.agg [.str, (.int .i64), .any, .any, .any]), (.int .i64), (.int .i64)]) [10] (.call 39 [(.tmp 10)]) <|
 .op (some 9) .any [11] (.mov (.tmp 11)) <|
 .op (some 12) .any [9] (.extract 0 (.tmp 9)) <|
 .op (some 13) .any [9] (.extract 1 (.tmp 9)) <|
 .op (some 14) .any [9] (.extract 2 (.tmp 9)) <|
 .op (some 5) .any [] (.alloc 99 [(V.str ⟨0, 0⟩), (V.int .i64 (Int.ofNat 0)), V.nils, V.nils, V.nils]) <|
 .op none (.agg [.str, (.int .i64), .any, .any, .any]) [5, 12] (.store 5 (.tmp 5) (.tmp 12)) <|
 .op (some 6) .any [13] (.mov (.tmp 13)) <|
 .op (some 7) .any [14] (.mov (.tmp 14)) <|
 .nil))
 (.seq (.seq (.ops (.op (some 15) .any [7] (.mov (.tmp 7)) <|
 .op (some 16) .any [15] (.bin .neq .none (.tmp 15) (.con (V.int .i64 (Int.ofNat 0)))) <|
 .nil))
 (.cond (.tmp 16) (.seq (.ops (.op (some 17) (.agg [(.int .i64), .str, .str, .any, .any, .any]) [] (.build [(V.int .i64 (Int.ofNat 0)), (V.str ⟨0, 0⟩), (V.str ⟨0, 0⟩), V.nils, V.nils, V.nils] []) <|
 .op (some 18) .any [6] (.mov (.tmp 6)) <|
 .op (some 19) .any [7] (.mov (.tmp 7)) <|
 .op none (.agg [(.int .i64), .str, .str, .any, .any, .any]) [2, 17] (.store 6 (.tmp 2) (.tmp 17)) <|
 .op (some 3) .any [18] (.mov (.tmp 18)) <|
 .op (some 4) .any [19] (.mov (.tmp 19)) <|
 .nil))
 .ret)
 .skip))
 (.seq (.ops (.op (some 21) (.agg [.str, (.int .i64), .any, .any, .any]) [5] (.load (some 5) (.tmp 5)) <|
 .op (some 22) (.tup [(.agg [.str, .any, .any, .any]), (.int .i64), (.int .i64)]) [21] (.call 40 [(.tmp 21)]) <|
 .op (some 20) .any [22] (.mov (.tmp 22)) <|
 .op (some 23) .any [20] (.extract 0 (.tmp 20)) <|
 .op (some 24) .any [20] (.extract 1 (.tmp 20)) <|
 .op (some 25) .any [20] (.extract 2 (.tmp 20)) <|
 .op (some 8) .any [] (.alloc 50 [(V.str ⟨0, 0⟩), V.nils, V.nils, V.nils]) <|
 .op none (.agg [.str, .any, .any, .any]) [8, 23] (.store 4 (.tmp 8) (.tmp 23)) <|
 .op (some 6) .any [24] (.mov (.tmp 24)) <|
 .op (some 7) .any [25] (.mov (.tmp 25)) <|
 .nil))
 (.seq (.seq (.ops (.op (some 26) .any [7] (.mov (.tmp 7)) <|
 .op (some 27) .any [26] (.bin .neq .none (.tmp 26) (.con (V.int .i64 (Int.ofNat 0)))) <|
 .nil))
 (.cond (.tmp 27) (.seq (.ops (.op (some 28) (.agg [(.int .i64), .str, .str, .any, .any, .any]) [] (.build [(V.int .i64 (Int.ofNat 0)), (V.str ⟨0, 0⟩), (V.str ⟨0, 0⟩), V.nils, V.nils, V.nils] []) <|
 .op (some 29) .any [6] (.mov (.tmp 6)) <|
 .op (some 30) .any [7] (.mov (.tmp 7)) <|
 .op none (.agg [(.int .i64), .str, .str, .any, .any, .any]) [2, 28] (.store 6 (.tmp 2) (.tmp 28)) <|
 .op (some 3) .any [29] (.mov (.tmp 29)) <|
 .op (some 4) .any [30] (.mov (.tmp 30)) <|
 .nil))
 .ret)
 .skip))
 (.seq (.keep [(2, .ptr), (5, .ptr), (8, .ptr)] [] [] (.gdraw G25_0 H25_0 [(2, .ptr), (3, (.int .i64)), (4, (.int .i64))]))
 .ret))))))
def A25 : XFn := ⟨36, [.str], [(.cell 2 (some 6)), (.tmp 3), (.tmp 4)], C25_0⟩
def C26_0 (cc1 : XC) : XC := (.seq (.ops (.op (some 3) .any [1] (.box 73 (.tmp 1)) <|
 .op (some 4) .any [] (.mov (.con (V.int .i64 (Int.ofNat 0)))) <|
 .op (some 5) .any [] (.mov (.con (V.int .i64 (Int.ofNat 0)))) <|
 .nil))
 (.seq (.draw (.op (some 10) .any [0] (.mov (.tmp 0)) <|
 .op (some 11) .any [10] (.nilck (.tmp 10)) <|
 .op (some 12) .any [11] (.faddr 0 (.tmp 11)) <|
 .op (some 13) .any [3] (.faddr 2 (.tmp 3)) <|
 .op (some 14) .any [13] (.faddr 0 (.tmp 13)) <|
 .op (some 15) .str [14] (.load none (.tmp 14)) <|
 .op (some 16) .one [12, 15] (.call 27 [(.tmp 12), (.tmp 15)]) <|
 .op (some 6) .any [16] (.mov (.tmp 16)) <|
 .nil) [0, 1, 3, 0, 8, 24, 63, 127])
 (.seq (.seq (.ops (.op (some 17) .any [3] (.faddr 0 (.tmp 3)) <|
 .op (some 18) .any [17] (.faddr 1 (.tmp 17)) <|
 .op (some 19) .str [18] (.load none (.tmp 18)) <|
 .op (some 20) .any [19] (.bin .neq .none (.tmp 19) (.con (V.str ⟨0, 0⟩))) <|
 .op (some 21) .any [20] (.mov (.tmp 20)) <|
 .grp 21 true (.op (some 22) .any [6, 21] (.mov (.tmp 6)) <|
 .op (some 23) .any [3, 21] (.mkfn 43 [] [(.tmp 3)]) <|
 .op (some 24) .bool [22, 23, 21] (.call 42 [(.tmp 22), (.tmp 23)]) <|
 .nil) 25 [21, 24] (.tmp 21) (.tmp 24) (.con (V.bool false)) <|
 .nil))
 (.cond (.tmp 25) (.seq (.ops (.op (some 4) .any [] (.mov (.con (V.int .i64 (Int.ofNat 0)))) <|
 .op (some 5) .any [] (.mov (.con (V.int .i64 (Int.ofNat 8)))) <|
 .nil))
 .ret)
 .skip))
 (.seq (.seq (.ops (.op (some 26) .any [6] (.mov (.tmp 6)) <|
 .op (some 27) .any [26] (.len false (.tmp 26)) <|
 .op (some 7) .any [27] (.mov (.tmp 27)) <|
 .nil))
 (.seq (.ops (.op (some 28) .any [7] (.mov (.tmp 7)) <|
 .op (some 29) .any [28] (.bin .gtr .none (.tmp 28) (.con (V.int .i64 (Int.ofNat 0)))) <|
 .nil))
 (.cond (.tmp 29) (.seq (.draw (.op (some 31) .any [6] (.mov (.tmp 6)) <|
 .op (some 32) .any [7] (.mov (.tmp 7)) <|
 .op (some 33) .any [32] (.bin .sub .none (.tmp 32) (.con (V.int .i64 (Int.ofNat 1)))) <|
 .op (some 34) .any [31, 33] (.iaddrS 6 (.tmp 31) (.tmp 33)) <|
 .op (some 35) .any [34] (.faddr 2 (.tmp 34)) <|
 .op (some 36) (.agg [.str, .any, .any, .any]) [35] (.load (some 4) (.tmp 35)) <|
 .op (some 37) .any [3] (.faddr 2 (.tmp 3)) <|
 .op (some 38) (.agg [.str, .any, .any, .any]) [37] (.load (some 4) (.tmp 37)) <|
 .op (some 39) (.tup [(.int .i64), (.int .i64)]) [36, 38] (.call 44 [(.tmp 36), (.tmp 38)]) <|
 .op (some 30) .any [39] (.mov (.tmp 39)) <|
 .op (some 40) .any [30] (.extract 0 (.tmp 30)) <|
 .op (some 41) .any [30] (.extract 1 (.tmp 30)) <|
 .op (some 8) .any [40] (.mov (.tmp 40)) <|
 .op (some 9) .any [41] (.mov (.tmp 41)) <|
 .nil) [0, 0, 2, 7, 15, 31, 0, 64, 255, 511, 1023, 1023, 2047, 8191])
 (.seq (.ops (.op (some 42) .any [9] (.mov (.tmp 9)) <|
 .op (some 43) .any [42] (.bin .neq .none (.tmp 42) (.con (V.int .i64 (Int.ofNat 0)))) <|
 .nil))
 (.cond (.tmp 43) (.seq (.ops (.op (some 44) .any [8] (.mov (.tmp 8)) <|
 .op (some 45) .any [9] (.mov (.tmp 9)) <|
 .op (some 4) .any [44] (.mov (.tmp 44)) <|
 .op (some 5) .any [45] (.mov (.tmp 45)) <|
 .nil))
 .ret)
 .skip)))
 .skip)))
 (.keep [(0, .ptr), (3, .ptr), (6, .any)] [] [] cc1)))))
def C26_1 : XC := (.seq (.block 0 (.seq (.ops (.op (some 47) .any [3] (.faddr 0 (.tmp 3)) <|
 .op (some 48) .any [47] (.faddr 1 (.tmp 47)) <|
 .op (some 49) .str [48] (.load none (.tmp 48)) <|
 .op (some 50) .any [49] (.bin .eql .none (.tmp 49) (.con (V.str ⟨0, 0⟩))) <|
 .op (some 51) .any [50] (.mov (.tmp 50)) <|
 .grp 51 false (.op (some 52) .any [3, 51] (.faddr 0 (.tmp 3)) <|
 .op (some 53) .any [52, 51] (.faddr 1 (.tmp 52)) <|
 .op (some 54) .str [53, 51] (.load none (.tmp 53)) <|
 .op (some 55) .any [54, 51] (.len true (.tmp 54)) <|
 .op (some 56) .any [55, 51] (.bin .gtr .none (.tmp 55) (.con (V.int .i64 (Int.ofNat 8000)))) <|
 .nil) 57 [51, 56] (.tmp 51) (.con (V.bool true)) (.tmp 56) <|
 .op (some 46) .any [57] (.mov (.tmp 57)) <|
 .nil))
 (.cond (.tmp 46) (.seq (.ops (.op (some 4) .any [] (.mov (.con (V.int .i64 (Int.ofNat 0)))) <|
 .op (some 5) .any [] (.mov (.con (V.int .i64 (Int.ofNat 5)))) <|
 .nil))
 .ret)
 (.seq (.ops (.op (some 59) .any [6] (.mov (.tmp 6)) <|
 .op (some 60) .any [59] (.len false (.tmp 59)) <|
 .op (some 61) .any [60] (.bin .geq .none (.tmp 60) (.con (V.int .i64 (Int.ofNat 8)))) <|
 .op (some 62) .any [61] (.mov (.tmp 61)) <|
 .grp 62 false (.op (some 63) .any [6, 62] (.mov (.tmp 6)) <|
 .op (some 64) .any [63, 62] (.len false (.tmp 63)) <|
 .op (some 65) .any [64, 62] (.bin .eql .none (.tmp 64) (.con (V.int .i64 (Int.ofNat 0)))) <|
 .op (some 66) .any [65, 62] (.mov (.tmp 65)) <|
 .grp 66 true (.op (some 67) .any [0, 66] (.mov (.tmp 0)) <|
 .op (some 68) .any [67, 66] (.nilck (.tmp 67)) <|
 .op (some 69) .any [68, 66] (.faddr 0 (.tmp 68)) <|
 .op (some 70) .any [69, 66] (.faddr 0 (.tmp 69)) <|
 .op (some 71) .any [70, 66] (.load none (.tmp 70)) <|
 .op (some 72) .any [71, 66] (.len false (.tmp 71)) <|
 .op (some 73) .any [72, 66] (.bin .geq .none (.tmp 72) (.con (V.int .i64 (Int.ofNat 8)))) <|
 .nil) 74 [66, 73, 62] (.tmp 66) (.tmp 73) (.con (V.bool false)) <|
 .nil) 75 [62, 74] (.tmp 62) (.con (V.bool true)) (.tmp 74) <|
 .op (some 58) .any [75] (.mov (.tmp 75)) <|
 .nil))
 (.cond (.tmp 58) (.seq (.ops (.op (some 4) .any [] (.mov (.con (V.int .i64 (Int.ofNat 0)))) <|
 .op (some 5) .any [] (.mov (.con (V.int .i64 (Int.ofNat 15)))) <|
 .nil))
 .ret)
 .skip)))))
 (.seq (.ops (.op (some 4) .any [] (.mov (.con (V.int .i64 (Int.ofNat 0)))) <|
 .op (some 5) .any [] (.mov (.con (V.int .i64 (Int.ofNat 0)))) <|
 .nil))
 .ret))
def A26 : XFn := ⟨76, [.ptr, (.agg [(.int .i64), .str, .str, .any, .any, .any])], [(.tmp 4), (.tmp 5)], (C26_0 C26_1)⟩
def C27_0 : XC := (.seq (.ops (.op (some 4) .any [] (.mov (.con V.nils)) <|
 .nil))
 (.seq (.ops (.op (some 8) .any [0] (.mov (.tmp 0)) <|
 .op (some 9) .any [1] (.mov (.tmp 1)) <|
 .op (some 10) (.tup [(.int .i64), .bool]) [8, 9] (.call 45 [(.tmp 8), (.tmp 9)]) <|
 .op (some 7) .any [10] (.mov (.tmp 10)) <|
 .op (some 11) .any [7] (.extract 0 (.tmp 7)) <|
 .op (some 12) .any [7] (.extract 1 (.tmp 7)) <|
 .op (some 5) .any [11] (.mov (.tmp 11)) <|
 .op (some 6) .any [12] (.mov (.tmp 12)) <|
 .nil))
 (.seq (.seq (.ops (.op (some 13) .any [6] (.mov (.tmp 6)) <|
 .op (some 14) .any [13] (.un .not (.tmp 13)) <|
 .nil))
 (.cond (.tmp 14) (.seq (.ops (.op (some 4) .any [] (.mov (.con V.nils)) <|
 .nil))
 .ret)
 .skip))
 (.seq (.ops (.op (some 15) .any [0] (.mov (.tmp 0)) <|
 .op (some 16) .any [15] (.nilck (.tmp 15)) <|
 .op (some 17) .any [16] (.faddr 0 (.tmp 16)) <|
 .op (some 18) .any [17] (.load none (.tmp 17)) <|
 .op (some 19) .any [5] (.mov (.tmp 5)) <|
 .op (some 20) .any [18, 19] (.iaddrS 2 (.tmp 18) (.tmp 19)) <|
 .op (some 21) .any [20] (.faddr 1 (.tmp 20)) <|
 .op (some 22) .any [21] (.load none (.tmp 21)) <|
 .op (some 4) .any [22] (.mov (.tmp 22)) <|
 .nil))
 .ret))))
def A27 : XFn := ⟨23, [.ptr, .str], [(.tmp 4)], C27_0⟩
def G28_0 : List AOper := [⟨(some 36), .mov (.tmp 0), none⟩, ⟨(some 37), .nilck (.tmp 36), none⟩, ⟨(some 38), .faddr 0 (.tmp 37), none⟩, ⟨(some 39), .load none (.tmp 38), none⟩, ⟨(some 40), .mov (.tmp 6), none⟩, ⟨(some 41), .mov (.tmp 0), none⟩, ⟨(some 42), .nilck (.tmp 41), none⟩, ⟨(some 43), .faddr 0 (.tmp 42), none⟩, ⟨(some 44), .load none (.tmp 43), none⟩, ⟨(some 45), .mov (.tmp 6), none⟩, ⟨(some 46), .iaddrS 2 (.tmp 44) (.tmp 45), none⟩, ⟨(some 47), .faddr 1 (.tmp 46), none⟩, ⟨(some 48), .load none (.tmp 47), none⟩, ⟨(some 49), .call 47 [(.tmp 48)], none⟩, ⟨(some 50), .load (some 6) (.tmp 5), none⟩, ⟨(some 51), .buildSlice 73 1 [(V.int .i64 (Int.ofNat 0)), (V.str ⟨0, 0⟩), (V.str ⟨0, 0⟩), V.nils, V.nils, V.nils] [(0, 6, (.tmp 50))], none⟩, ⟨(some 52), .append 73 6 112 (.tmp 49) (.tmp 51), none⟩, ⟨(some 53), .iaddrS 2 (.tmp 39) (.tmp 40), none⟩, ⟨(some 54), .faddr 1 (.tmp 53), none⟩, ⟨none, .store 1 (.tmp 54) (.tmp 52), none⟩]
def H28_0 : List DP := [⟨0, [0]⟩, ⟨1, [36]⟩, ⟨3, [37]⟩, ⟨7, [38]⟩, ⟨0, [6]⟩, ⟨0, [0]⟩, ⟨32, [41]⟩, ⟨96, [42]⟩, ⟨224, [43]⟩, ⟨0, [6]⟩, ⟨992, [44, 45]⟩, ⟨2016, [46]⟩, ⟨4064, [47]⟩, ⟨8160, [48]⟩, ⟨0, [5]⟩, ⟨16384, [50]⟩, ⟨65504, [49, 51]⟩, ⟨131071, [39, 40]⟩, ⟨262143, [53]⟩, ⟨524287, [54, 52]⟩]
def C28_0 (cc1 : XC) : XC := (.seq (.ops (.op (some 5) .any [2] (.box 73 (.tmp 2)) <|
 .nil))
 (.seq (.ops (.op (some 9) .any [0] (.mov (.tmp 0)) <|
 .op (some 10) .any [1] (.mov (.tmp 1)) <|
 .op (some 11) (.tup [(.int .i64), .bool]) [9, 10] (.call 45 [(.tmp 9), (.tmp 10)]) <|
 .op (some 8) .any [11] (.mov (.tmp 11)) <|
 .op (some 12) .any [8] (.extract 0 (.tmp 8)) <|
 .op (some 13) .any [8] (.extract 1 (.tmp 8)) <|
 .op (some 6) .any [12] (.mov (.tmp 12)) <|
 .op (some 7) .any [13] (.mov (.tmp 13)) <|
 .nil))
 (.seq (.ops (.op (some 14) .any [0] (.mov (.tmp 0)) <|
 .op (some 15) .any [0] (.mov (.tmp 0)) <|
 .op (some 16) .any [15] (.nilck (.tmp 15)) <|
 .op (some 17) .any [16] (.faddr 0 (.tmp 16)) <|
 .op (some 18) .any [17] (.load none (.tmp 17)) <|
 .op (some 19) .one [18] (.call 34 [(.tmp 18)]) <|
 .op (some 20) .any [14] (.nilck (.tmp 14)) <|
 .op (some 21) .any [20] (.faddr 0 (.tmp 20)) <|
 .op none .any [21, 19] (.store 1 (.tmp 21) (.tmp 19)) <|
 .nil))
 (.seq (.seq (.ops (.op (some 22) .any [7] (.mov (.tmp 7)) <|
 .op (some 23) .any [22] (.un .not (.tmp 22)) <|
 .nil))
 (.cond (.tmp 23) (.ops (.op (some 24) .any [0] (.mov (.tmp 0)) <|
 .op (some 25) .any [0] (.mov (.tmp 0)) <|
 .op (some 26) .any [25] (.nilck (.tmp 25)) <|
 .op (some 27) .any [26] (.faddr 0 (.tmp 26)) <|
 .op (some 28) .any [27] (.load none (.tmp 27)) <|
 .op (some 29) .any [6] (.mov (.tmp 6)) <|
 .op (some 30) .any [1] (.mov (.tmp 1)) <|
 .op (some 31) (.agg [.str, .any]) [30] (.build [(V.str ⟨0, 0⟩), V.nils] [(0, 1, (.tmp 30))]) <|
 .op (some 32) .any [31] (.buildSlice 84 1 [(V.str ⟨0, 0⟩), V.nils] [(0, 2, (.tmp 31))]) <|
 .op (some 33) .one [28, 29, 32] (.call 46 [(.tmp 28), (.tmp 29), (.tmp 32)]) <|
 .op (some 34) .any [24] (.nilck (.tmp 24)) <|
 .op (some 35) .any [34] (.faddr 0 (.tmp 34)) <|
 .op none .any [35, 33] (.store 1 (.tmp 35) (.tmp 33)) <|
 .nil))
 .skip))
 (.keep [(0, .ptr), (5, .ptr), (6, (.int .i64))] [] [] cc1)))))
def C28_1 : XC := (.keep [(0, .ptr), (5, .ptr), (6, (.int .i64))] [] [] (.gdraw G28_0 H28_0 []))
def A28 : XFn := ⟨55, [.ptr, .str, (.agg [(.int .i64), .str, .str, .any, .any, .any])], [], (C28_0 C28_1)⟩
def C29_0 (cc1 : XC) : XC := (.seq (.ops (.pal 6 [] 73 [(V.int .i64 (Int.ofNat 0)), (V.str ⟨0, 0⟩), (V.str ⟨0, 0⟩), V.nils, V.nils, V.nils] <|
 .op (some 7) .any [] (.mov (.con (V.int .i64 (Int.ofNat 0)))) <|
 .nil))
 (.seq (.seq (.ops (.op (some 9) .any [0] (.mov (.tmp 0)) <|
 .op (some 10) .any [9] (.bin .eql .ptr (.tmp 9) (.con V.nilp)) <|
 .nil))
 (.cond (.tmp 10) (.seq (.ops (.op (some 11) (.agg [(.int .i64), .str, .str, .any, .any, .any]) [] (.build [(V.int .i64 (Int.ofNat 0)), (V.str ⟨0, 0⟩), (V.str ⟨0, 0⟩), V.nils, V.nils, V.nils] []) <|
 .op none (.agg [(.int .i64), .str, .str, .any, .any, .any]) [6, 11] (.store 6 (.tmp 6) (.tmp 11)) <|
 .op (some 7) .any [] (.mov (.con (V.int .i64 (Int.ofNat 2)))) <|
 .nil))
 .ret)
 .skip))
 (.seq (.ops (.op (some 12) .any [0] (.mov (.tmp 0)) <|
 .op (some 13) .any [12] (.nilck (.tmp 12)) <|
 .op (some 14) .any [13] (.faddr 0 (.tmp 13)) <|
 .op (some 15) .any [1] (.mov (.tmp 1)) <|
 .op (some 16) .one [14, 15] (.call 27 [(.tmp 14), (.tmp 15)]) <|
 .op (some 8) .any [16] (.mov (.tmp 16)) <|
 .nil))
 (.seq (.seq (.ops (.op (some 17) .any [2] (.mov (.tmp 2)) <|
 .op (some 18) .any [17] (.bin .eql .none (.tmp 17) (.con (V.int .i64 (Int.ofNat 0)))) <|
 .nil))
 (.cond (.tmp 18) (.ops (.op (some 19) .any [8] (.mov (.tmp 8)) <|
 .op (some 20) .any [19] (.len false (.tmp 19)) <|
 .op (some 2) .any [20] (.mov (.tmp 20)) <|
 .nil))
 .skip))
 (.keep [(2, (.int .i64)), (8, .any)] [6] [(6, [(.int .i64), .str, .str, .any, .any, .any])] cc1)))))
def C29_1 : XC := (.seq (.seq (.ops (.op (some 21) .any [2] (.mov (.tmp 2)) <|
 .op (some 22) .any [21] (.bin .lss .none (.tmp 21) (.con (V.int .i64 (Int.ofNat 1)))) <|
 .op (some 23) .any [22] (.mov (.tmp 22)) <|
 .grp 23 false (.op (some 24) .any [2, 23] (.mov (.tmp 2)) <|
 .op (some 25) .any [8, 23] (.mov (.tmp 8)) <|
 .op (some 26) .any [25, 23] (.len false (.tmp 25)) <|
 .op (some 27) .any [24, 26, 23] (.bin .gtr .none (.tmp 24) (.tmp 26)) <|
 .nil) 28 [23, 27] (.tmp 23) (.con (V.bool true)) (.tmp 27) <|
 .nil))
 (.cond (.tmp 28) (.seq (.ops (.op (some 29) (.agg [(.int .i64), .str, .str, .any, .any, .any]) [] (.build [(V.int .i64 (Int.ofNat 0)), (V.str ⟨0, 0⟩), (V.str ⟨0, 0⟩), V.nils, V.nils, V.nils] []) <|
 .op none (.agg [(.int .i64), .str, .str, .any, .any, .any]) [6, 29] (.store 6 (.tmp 6) (.tmp 29)) <|
 .op (some 7) .any [] (.mov (.con (V.int .i64 (Int.ofNat 9)))) <|
 .nil))
 .ret)
 .skip))
 (.seq (.ops (.op (some 30) .any [8] (.mov (.tmp 8)) <|
 .op (some 31) .any [2] (.mov (.tmp 2)) <|
 .op (some 32) .any [31] (.bin .sub .none (.tmp 31) (.con (V.int .i64 (Int.ofNat 1)))) <|
 .op (some 33) .any [30, 32] (.iaddrS 6 (.tmp 30) (.tmp 32)) <|
 .op (some 34) (.agg [(.int .i64), .str, .str, .any, .any, .any]) [33] (.load (some 6) (.tmp 33)) <|
 .op none (.agg [(.int .i64), .str, .str, .any, .any, .any]) [6, 34] (.store 6 (.tmp 6) (.tmp 34)) <|
 .op (some 7) .any [] (.mov (.con (V.int .i64 (Int.ofNat 0)))) <|
 .nil))
 .ret))
def A29 : XFn := ⟨35, [.any, .str, (.int .i64)], [(.cell 6 (some 6)), (.tmp 7)], (C29_0 C29_1)⟩
def C31_0 : XC := (.seq (.ops (.op (some 4) .any [] (.mov (.con (V.bool false))) <|
 .nil))
 (.seq (.ops (.op (some 5) .any [0] (.mov (.tmp 0)) <|
 .op (some 6) .any [1] (.mov (.tmp 1)) <|
 .op (some 7) .bool [5, 6] (.call 55 [(.tmp 5), (.tmp 6), (.con (V.fn 56 [] []))]) <|
 .op (some 4) .any [7] (.mov (.tmp 7)) <|
 .nil))
 .ret))
def A31 : XFn := ⟨8, [.any, .any], [(.tmp 4)], C31_0⟩
def C32_0 (cc1 : XC) (cc2 : XC) : XC := (.seq (.ops (.op (some 6) .any [] (.mov (.con (V.bool false))) <|
 .nil))
 (.seq (.seq (.ops (.op (some 8) .any [0] (.mov (.tmp 0)) <|
 .op (some 9) .any [8] (.len false (.tmp 8)) <|
 .op (some 10) .any [1] (.mov (.tmp 1)) <|
 .op (some 11) .any [10] (.len false (.tmp 10)) <|
 .op (some 12) .any [9, 11] (.bin .neq .none (.tmp 9) (.tmp 11)) <|
 .nil))
 (.cond (.tmp 12) (.seq (.ops (.op (some 6) .any [] (.mov (.con (V.bool false))) <|
 .nil))
 .ret)
 .skip))
 (.seq (.seq (.ops (.op (some 7) .any [] (.mov (.con (V.int .i64 (Int.ofNat 0)))) <|
 .nil))
 (.block 0 (.loop [(0, .any), (1, .any), (2, .any), (7, (.int .i64))] [] [] cc2)))
 (.keep [] [] [] cc1))))
def C32_1 : XC := (.seq (.ops (.op (some 6) .any [] (.mov (.con (V.bool true))) <|
 .nil))
 .ret)
def C32_2 : XC := (.seq (.seq (.ops (.op (some 13) .any [7] (.mov (.tmp 7)) <|
 .op (some 14) .any [0] (.mov (.tmp 0)) <|
 .op (some 15) .any [14] (.len false (.tmp 14)) <|
 .op (some 16) .any [13, 15] (.bin .lss .none (.tmp 13) (.tmp 15)) <|
 .nil))
 (.cond (.tmp 16) .skip
 (.exit 0)))
 (.seq (.block 1 (.seq (.draw (.op (some 19) .any [2] (.mov (.tmp 2)) <|
 .op (some 20) .any [0] (.mov (.tmp 0)) <|
 .op (some 21) .any [7] (.mov (.tmp 7)) <|
 .op (some 22) .any [20, 21] (.iaddrS 13 (.tmp 20) (.tmp 21)) <|
 .op (some 23) (.agg [(.int .i64), .any, .bool, .bool, .bool, .bool, (.int .i64), (.int .i64), .any, .any, (.int .i64), .bool, (.int .i64)]) [22] (.load (some 13) (.tmp 22)) <|
 .op (some 24) .any [1] (.mov (.tmp 1)) <|
 .op (some 25) .any [7] (.mov (.tmp 7)) <|
 .op (some 26) .any [24, 25] (.iaddrS 13 (.tmp 24) (.tmp 25)) <|
 .op (some 27) (.agg [(.int .i64), .any, .bool, .bool, .bool, .bool, (.int .i64), (.int .i64), .any, .any, (.int .i64), .bool, (.int .i64)]) [26] (.load (some 13) (.tmp 26)) <|
 .op (some 28) .bool [19, 23, 27] (.callv (.tmp 19) [(.tmp 23), (.tmp 27)]) <|
 .op (some 29) .any [28] (.un .not (.tmp 28)) <|
 .nil) [0, 0, 0, 6, 14, 0, 0, 96, 224, 511, 1023])
 (.cond (.tmp 29) (.seq (.ops (.op (some 6) .any [] (.mov (.con (V.bool false))) <|
 .nil))
 .ret)
 .skip)))
 (.ops (.op (some 17) .any [7] (.mov (.tmp 7)) <|
 .op (some 18) .any [17] (.bin .add .none (.tmp 17) (.con (V.int .i64 (Int.ofNat 1)))) <|
 .op (some 7) .any [18] (.mov (.tmp 18)) <|
 .nil))))
def A32 : XFn := ⟨30, [.any, .any, .any], [(.tmp 6)], (C32_0 C32_1 C32_2)⟩
def C34_0 : XC := (.seq (.ops (.op (some 2) .any [] (.mov (.con V.nils)) <|
 .nil))
 (.seq (.seq (.ops (.op (some 3) .any [0] (.mov (.tmp 0)) <|
 .op (some 4) .any [3] (.bin .eql .slice (.tmp 3) (.con V.nils)) <|
 .nil))
 (.cond (.tmp 4) (.seq (.ops (.op (some 2) .any [] (.mov (.con V.nils)) <|
 .nil))
 .ret)
 .skip))
 (.seq (.ops (.op (some 5) .any [] (.buildSlice 84 0 [] []) <|
 .op (some 6) .any [0] (.mov (.tmp 0)) <|
 .op (some 7) .one [5, 6] (.append 84 2 40 (.tmp 5) (.tmp 6)) <|
 .op (some 2) .any [7] (.mov (.tmp 7)) <|
 .nil))
 .ret)))
def A34 : XFn := ⟨8, [.any], [(.tmp 2)], C34_0⟩
def G39_0 : List AOper := [⟨(some 27), .build [(V.str ⟨0, 0⟩), (V.int .i64 (Int.ofNat 0)), V.nils, V.nils, V.nils] [], none⟩, ⟨(some 28), .mov (.tmp 8), none⟩, ⟨(some 29), .nilck (.tmp 28), none⟩, ⟨(some 30), .faddr 7 (.tmp 29), none⟩, ⟨(some 31), .load none (.tmp 30), none⟩, ⟨(some 32), .mov (.tmp 8), none⟩, ⟨(some 33), .nilck (.tmp 32), none⟩, ⟨(some 34), .faddr 8 (.tmp 33), none⟩, ⟨(some 35), .load none (.tmp 34), none⟩, ⟨none, .store 5 (.tmp 2) (.tmp 27), none⟩, ⟨(some 3), .mov (.tmp 31), none⟩, ⟨(some 4), .mov (.tmp 35), none⟩]
def H39_0 : List DP := [⟨0, []⟩, ⟨0, [8]⟩, ⟨2, [28]⟩, ⟨6, [29]⟩, ⟨14, [30]⟩, ⟨0, [8]⟩, ⟨32, [32]⟩, ⟨96, [33]⟩, ⟨224, [34]⟩, ⟨1, [2, 27]⟩, ⟨543, [31]⟩, ⟨2047, [35]⟩]
def C39_0 : XC := (.seq (.ops (.op (some 2) .any [] (.alloc 99 [(V.str ⟨0, 0⟩), (V.int .i64 (Int.ofNat 0)), V.nils, V.nils, V.nils]) <|
 .op (some 3) .any [] (.mov (.con (V.int .i64 (Int.ofNat 0)))) <|
 .op (some 4) .any [] (.mov (.con (V.int .i64 (Int.ofNat 0)))) <|
 .nil))
 (.seq (.ops (.op (some 10) .any [0] (.mov (.tmp 0)) <|
 .op (some 11) (.tup [.any, (.int .i64), (.int .i64)]) [10] (.call 66 [(.tmp 10)]) <|
 .op (some 9) .any [11] (.mov (.tmp 11)) <|
 .op (some 12) .any [9] (.extract 0 (.tmp 9)) <|
 .op (some 13) .any [9] (.extract 1 (.tmp 9)) <|
 .op (some 14) .any [9] (.extract 2 (.tmp 9)) <|
 .op (some 5) .any [12] (.mov (.tmp 12)) <|
 .op (some 6) .any [13] (.mov (.tmp 13)) <|
 .op (some 7) .any [14] (.mov (.tmp 14)) <|
 .nil))
 (.seq (.seq (.ops (.op (some 15) .any [7] (.mov (.tmp 7)) <|
 .op (some 16) .any [15] (.bin .neq .none (.tmp 15) (.con (V.int .i64 (Int.ofNat 0)))) <|
 .nil))
 (.cond (.tmp 16) (.seq (.ops (.op (some 17) (.agg [.str, (.int .i64), .any, .any, .any]) [] (.build [(V.str ⟨0, 0⟩), (V.int .i64 (Int.ofNat 0)), V.nils, V.nils, V.nils] []) <|
 .op (some 18) .any [6] (.mov (.tmp 6)) <|
 .op (some 19) .any [7] (.mov (.tmp 7)) <|
 .op none (.agg [.str, (.int .i64), .any, .any, .any]) [2, 17] (.store 5 (.tmp 2) (.tmp 17)) <|
 .op (some 3) .any [18] (.mov (.tmp 18)) <|
 .op (some 4) .any [19] (.mov (.tmp 19)) <|
 .nil))
 .ret)
 .skip))
 (.seq (.ops (.op (some 20) .any [5] (.mov (.tmp 5)) <|
 .op (some 21) (.agg [.any, (.int .i64)]) [20] (.build [V.nils, (V.int .i64 (Int.ofNat 0))] [(0, 1, (.tmp 20))]) <|
 .op (some 22) (.agg [.any, (.int .i64), .str, (.int .i64), .any, .any, .any, (.int .i64), (.int .i64)]) [21] (.build [V.nils, (V.int .i64 (Int.ofNat 0)), (V.str ⟨0, 0⟩), (V.int .i64 (Int.ofNat 0)), V.nils, V.nils, V.nils, (V.int .i64 (Int.ofNat 0)), (V.int .i64 (Int.ofNat 0))] [(0, 2, (.tmp 21))]) <|
 .op (some 23) .any [22] (.box 148 (.tmp 22)) <|
 .op (some 8) .any [23] (.mov (.tmp 23)) <|
 .nil))
 (.seq (.seq (.ops (.op (some 24) .any [8] (.mov (.tmp 8)) <|
 .op (some 25) .bool [24] (.call 67 [(.tmp 24)]) <|
 .op (some 26) .any [25] (.un .not (.tmp 25)) <|
 .nil))
 (.cond (.tmp 26) (.seq (.keep [(2, .ptr), (8, .ptr)] [] [] (.gdraw G39_0 H39_0 [(2, .ptr), (3, (.int .i64)), (4, (.int .i64))]))
 .ret)
 .skip))
 (.seq (.ops (.op (some 36) .any [8] (.mov (.tmp 8)) <|
 .op (some 37) .any [36] (.nilck (.tmp 36)) <|
 .op (some 38) .any [37] (.faddr 2 (.tmp 37)) <|
 .op (some 39) (.agg [.str, (.int .i64), .any, .any, .any]) [38] (.load (some 5) (.tmp 38)) <|
 .op none (.agg [.str, (.int .i64), .any, .any, .any]) [2, 39] (.store 5 (.tmp 2) (.tmp 39)) <|
 .op (some 3) .any [] (.mov (.con (V.int .i64 (Int.ofNat 0)))) <|
 .op (some 4) .any [] (.mov (.con (V.int .i64 (Int.ofNat 0)))) <|
 .nil))
 .ret))))))
def A39 : XFn := ⟨40, [.str], [(.cell 2 (some 5)), (.tmp 3), (.tmp 4)], C39_0⟩
def G40_0 : List AOper := [⟨(some 31), .build [(V.str ⟨0, 0⟩), V.nils, V.nils, V.nils] [], none⟩, ⟨(some 32), .faddr 3 (.tmp 1), none⟩, ⟨(some 33), .load none (.tmp 32), none⟩, ⟨(some 34), .len false (.tmp 33), none⟩, ⟨none, .store 4 (.tmp 2) (.tmp 31), none⟩, ⟨(some 3), .mov (.tmp 34), none⟩, ⟨(some 4), .mov (.con (V.int .i64 (Int.ofNat 9))), none⟩]
def H40_0 : List DP := [⟨0, []⟩, ⟨0, [1]⟩, ⟨2, [32]⟩, ⟨6, [33]⟩, ⟨1, [2, 31]⟩, ⟨31, [34]⟩, ⟨63, []⟩]
def G40_1 : List AOper := [⟨(some 38), .faddr 0 (.tmp 1), none⟩, ⟨(some 39), .load none (.tmp 38), none⟩, ⟨(some 40), .faddr 2 (.tmp 1), none⟩, ⟨(some 41), .load none (.tmp 40), none⟩, ⟨(some 42), .call 48 [(.tmp 41)], none⟩, ⟨(some 43), .build [(V.str ⟨0, 0⟩), V.nils, V.nils, V.nils] [(0, 1, (.tmp 39)), (1, 1, (.tmp 42))], none⟩, ⟨(some 9), .alloc 50 [(V.str ⟨0, 0⟩), V.nils, V.nils, V.nils], none⟩, ⟨none, .store 4 (.tmp 9) (.tmp 43), none⟩]
def H40_1 : List DP := [⟨0, [1]⟩, ⟨1, [38]⟩, ⟨0, [1]⟩, ⟨4, [40]⟩, ⟨12, [41]⟩, ⟨31, [39, 42]⟩, ⟨0, []⟩, ⟨127, [9, 43]⟩]
def C40_0 (cc1 : XC) (cc2 : XC) : XC := (.seq (.ops (.op (some 1) .any [0] (.box 99 (.tmp 0)) <|
 .op (some 2) .any [] (.alloc 50 [(V.str ⟨0, 0⟩), V.nils, V.nils, V.nils]) <|
 .op (some 3) .any [] (.mov (.con (V.int .i64 (Int.ofNat 0)))) <|
 .op (some 4) .any [] (.mov (.con (V.int .i64 (Int.ofNat 0)))) <|
 .nil))
 (.seq (.seq (.ops (.op (some 14) (.agg [.str, (.int .i64), .any, .any, .any]) [1] (.load (some 5) (.tmp 1)) <|
 .op (some 15) (.tup [.any, (.int .i64), (.int .i64)]) [14] (.call 68 [(.tmp 14)]) <|
 .op (some 13) .any [15] (.mov (.tmp 15)) <|
 .op (some 16) .any [13] (.extract 0 (.tmp 13)) <|
 .op (some 17) .any [13] (.extract 1 (.tmp 13)) <|
 .op (some 18) .any [13] (.extract 2 (.tmp 13)) <|
 .op (some 5) .any [16] (.mov (.tmp 16)) <|
 .op (some 6) .any [17] (.mov (.tmp 17)) <|
 .op (some 7) .any [18] (.mov (.tmp 18)) <|
 .nil))
 (.seq (.ops (.op (some 19) .any [7] (.mov (.tmp 7)) <|
 .op (some 20) .any [19] (.bin .neq .none (.tmp 19) (.con (V.int .i64 (Int.ofNat 0)))) <|
 .nil))
 (.cond (.tmp 20) (.seq (.ops (.op (some 21) (.agg [.str, .any, .any, .any]) [] (.build [(V.str ⟨0, 0⟩), V.nils, V.nils, V.nils] []) <|
 .op (some 22) .any [6] (.mov (.tmp 6)) <|
 .op (some 23) .any [7] (.mov (.tmp 7)) <|
 .op none (.agg [.str, .any, .any, .any]) [2, 21] (.store 4 (.tmp 2) (.tmp 21)) <|
 .op (some 3) .any [22] (.mov (.tmp 22)) <|
 .op (some 4) .any [23] (.mov (.tmp 23)) <|
 .nil))
 .ret)
 .skip)))
 (.seq (.seq (.ops (.op (some 24) .any [1] (.faddr 3 (.tmp 1)) <|
 .op (some 25) .any [24] (.load none (.tmp 24)) <|
 .op (some 26) .any [25] (.len false (.tmp 25)) <|
 .op (some 27) .any [1] (.faddr 2 (.tmp 1)) <|
 .op (some 28) .any [27] (.load none (.tmp 27)) <|
 .op (some 29) .any [28] (.len false (.tmp 28)) <|
 .op (some 30) .any [26, 29] (.bin .lss .none (.tmp 26) (.tmp 29)) <|
 .nil))
 (.cond (.tmp 30) (.seq (.keep [(1, .ptr), (2, .ptr)] [] [] (.gdraw G40_0 H40_0 [(2, .ptr), (3, (.int .i64)), (4, (.int .i64))]))
 .ret)
 .skip))
 (.seq (.ops (.op (some 35) (.agg [.str, (.int .i64), .any, .any, .any]) [1] (.load (some 5) (.tmp 1)) <|
 .op (some 36) (.agg [.any, .str, (.int .i64), .any, .any, .any]) [35] (.build [V.nils, (V.str ⟨0, 0⟩), (V.int .i64 (Int.ofNat 0)), V.nils, V.nils, V.nils] [(1, 5, (.tmp 35))]) <|
 .op (some 37) .any [36] (.box 155 (.tmp 36)) <|
 .op (some 8) .any [37] (.mov (.tmp 37)) <|
 .nil))
 (.seq (.keep [(1, .ptr), (2, .ptr), (8, .ptr)] [] [] (.gdraw G40_1 H40_1 [(1, .ptr), (2, .ptr), (8, .ptr), (9, .ptr)]))
 (.seq (.seq (.ops (.op (some 44) .any [1] (.faddr 2 (.tmp 1)) <|
 .op (some 45) .any [44] (.load none (.tmp 44)) <|
 .op (some 46) .any [45] (.len false (.tmp 45)) <|
 .op (some 47) .any [] (.mov (.con (V.int .i64 (Int.ofNat 0)))) <|
 .nil))
 (.block 0 (.loop [(1, .ptr), (2, .ptr), (8, .ptr), (9, .ptr), (46, (.int .i64)), (47, (.int .i64))] [] [] cc2)))
 (.keep [(2, .ptr), (8, .ptr), (9, .ptr)] [] [] cc1)))))))
def C40_1 : XC := (.seq (.ops (.op (some 72) .any [8] (.mov (.tmp 8)) <|
 .op (some 73) .any [72] (.nilck (.tmp 72)) <|
 .op (some 74) .any [73] (.faddr 0 (.tmp 73)) <|
 .op (some 75) .any [74] (.faddr 0 (.tmp 74)) <|
 .op (some 76) .any [75] (.load none (.tmp 75)) <|
 .op (some 77) .any [9] (.faddr 3 (.tmp 9)) <|
 .op none .any [77, 76] (.store 1 (.tmp 77) (.tmp 76)) <|
 .nil))
 (.seq (.ops (.op (some 78) (.agg [.str, .any, .any, .any]) [9] (.load (some 4) (.tmp 9)) <|
 .op none (.agg [.str, .any, .any, .any]) [2, 78] (.store 4 (.tmp 2) (.tmp 78)) <|
 .op (some 3) .any [] (.mov (.con (V.int .i64 (Int.ofNat 0)))) <|
 .op (some 4) .any [] (.mov (.con (V.int .i64 (Int.ofNat 0)))) <|
 .nil))
 .ret))
def C40_2 : XC := (.seq (.ops (.op (some 48) .any [47, 46] (.bin .lss .none (.tmp 47) (.tmp 46)) <|
 .nil))
 (.seq (.cond (.tmp 48) .skip
 (.exit 0))
 (.seq (.block 1 (.seq (.ops (.op (some 49) .any [47] (.mov (.tmp 47)) <|
 .op (some 10) .any [49] (.mov (.tmp 49)) <|
 .nil))
 (.seq (.ops (.op (some 51) .any [8] (.mov (.tmp 8)) <|
 .op (some 52) .any [1] (.faddr 3 (.tmp 1)) <|
 .op (some 53) .any [52] (.load none (.tmp 52)) <|
 .op (some 54) .any [10] (.mov (.tmp 10)) <|
 .op (some 55) .any [53, 54] (.iaddrS 1 (.tmp 53) (.tmp 54)) <|
 .op (some 56) (.int .i64) [55] (.load none (.tmp 55)) <|
 .op (some 57) (.tup [(.int .i64), (.int .i64)]) [51, 56] (.call 69 [(.tmp 51), (.tmp 56), (.con (V.int .i64 (Int.ofNat 0)))]) <|
 .op (some 50) .any [57] (.mov (.tmp 57)) <|
 .op (some 58) .any [50] (.extract 0 (.tmp 50)) <|
 .op (some 59) .any [50] (.extract 1 (.tmp 50)) <|
 .op (some 11) .any [58] (.mov (.tmp 58)) <|
 .op (some 12) .any [59] (.mov (.tmp 59)) <|
 .nil))
 (.seq (.seq (.ops (.op (some 60) .any [12] (.mov (.tmp 12)) <|
 .op (some 61) .any [60] (.bin .neq .none (.tmp 60) (.con (V.int .i64 (Int.ofNat 0)))) <|
 .nil))
 (.cond (.tmp 61) (.seq (.ops (.op (some 62) (.agg [.str, .any, .any, .any]) [] (.build [(V.str ⟨0, 0⟩), V.nils, V.nils, V.nils] []) <|
 .op (some 63) .any [10] (.mov (.tmp 10)) <|
 .op (some 64) .any [12] (.mov (.tmp 12)) <|
 .op none (.agg [.str, .any, .any, .any]) [2, 62] (.store 4 (.tmp 2) (.tmp 62)) <|
 .op (some 3) .any [63] (.mov (.tmp 63)) <|
 .op (some 4) .any [64] (.mov (.tmp 64)) <|
 .nil))
 .ret)
 .skip))
 (.ops (.op (some 65) .any [9] (.faddr 2 (.tmp 9)) <|
 .op (some 66) .any [65] (.load none (.tmp 65)) <|
 .op (some 67) .any [11] (.mov (.tmp 11)) <|
 .op (some 68) .any [67] (.buildSlice 3 1 [(V.int .i64 (Int.ofNat 0))] [(0, 1, (.tmp 67))]) <|
 .op (some 69) .one [66, 68] (.append 3 1 8 (.tmp 66) (.tmp 68)) <|
 .op (some 70) .any [9] (.faddr 2 (.tmp 9)) <|
 .op none .any [70, 69] (.store 1 (.tmp 70) (.tmp 69)) <|
 .nil))))))
 (.ops (.op (some 71) .any [47] (.bin .add .none (.tmp 47) (.con (V.int .i64 (Int.ofNat 1)))) <|
 .op (some 47) .any [71] (.mov (.tmp 71)) <|
 .nil)))))
def A40 : XFn := ⟨79, [(.agg [.str, (.int .i64), .any, .any, .any])], [(.cell 2 (some 4)), (.tmp 3), (.tmp 4)], (C40_0 C40_1 C40_2)⟩
def G41_0 : List AOper := [⟨(some 28), .mov (.tmp 3), none⟩, ⟨(some 29), .nilck (.tmp 28), none⟩, ⟨(some 30), .faddr 0 (.tmp 29), none⟩, ⟨(some 31), .faddr 0 (.tmp 1), none⟩, ⟨(some 32), .load none (.tmp 31), none⟩, ⟨(some 33), .mov (.tmp 4), none⟩, ⟨(some 34), .buildSlice 9 4 [(V.str ⟨0, 0⟩), (V.str ⟨0, 0⟩), (V.str ⟨0, 0⟩), (V.str ⟨0, 0⟩)] [(0, 1, (.tmp 32)), (1, 1, (.con (V.str ⟨13, 2561083126905198320505063818272⟩))), (2, 1, (.tmp 33)), (3, 1, (.con (V.str ⟨9, 1444126302987771263546⟩)))], none⟩, ⟨(some 35), .call 71 [(.tmp 30), (.tmp 34)], none⟩]
def H41_0 : List DP := [⟨0, [3]⟩, ⟨1, [28]⟩, ⟨3, [29]⟩, ⟨0, [1]⟩, ⟨8, [31]⟩, ⟨0, [4]⟩, ⟨56, [32, 33]⟩, ⟨127, [30, 34]⟩]
def C41_0 (cc1 : XC) (cc2 : XC) : XC := (.seq (.ops (.op (some 1) .any [0] (.box 99 (.tmp 0)) <|
 .op (some 2) .any [] (.mov (.con (V.str ⟨0, 0⟩))) <|
 .nil))
 (.seq (.ops (.op (some 7) (.agg [.str, (.int .i64), .any, .any, .any]) [1] (.load (some 5) (.tmp 1)) <|
 .op (some 8) (.agg [.any, .bool, .str, (.int .i64), .any, .any, .any]) [7] (.build [V.nils, (V.bool false), (V.str ⟨0, 0⟩), (V.int .i64 (Int.ofNat 0)), V.nils, V.nils, V.nils] [(2, 5, (.tmp 7))]) <|
 .op (some 9) .any [8] (.box 161 (.tmp 8)) <|
 .op (some 3) .any [9] (.mov (.tmp 9)) <|
 .nil))
 (.seq (.ops (.op (some 10) .any [1] (.faddr 1 (.tmp 1)) <|
 .op (some 11) (.int .i64) [10] (.load none (.tmp 10)) <|
 .op (some 12) .str [11] (.call 70 [(.tmp 11)]) <|
 .op (some 4) .any [12] (.mov (.tmp 12)) <|
 .nil))
 (.seq (.ops (.op (some 13) .any [3] (.mov (.tmp 3)) <|
 .op (some 14) .any [4] (.mov (.tmp 4)) <|
 .op (some 15) .any [14] (.bin .eql .none (.tmp 14) (.con (V.str ⟨0, 0⟩))) <|
 .op (some 16) .any [15] (.mov (.tmp 15)) <|
 .grp 16 false (.op (some 17) .any [1, 16] (.faddr 3 (.tmp 1)) <|
 .op (some 18) .any [17, 16] (.load none (.tmp 17)) <|
 .op (some 19) .any [18, 16] (.len false (.tmp 18)) <|
 .op (some 20) .any [1, 16] (.faddr 2 (.tmp 1)) <|
 .op (some 21) .any [20, 16] (.load none (.tmp 20)) <|
 .op (some 22) .any [21, 16] (.len false (.tmp 21)) <|
 .op (some 23) .any [19, 22, 16] (.bin .neq .none (.tmp 19) (.tmp 22)) <|
 .nil) 24 [16, 23] (.tmp 16) (.con (V.bool true)) (.tmp 23) <|
 .op (some 25) .any [13] (.nilck (.tmp 13)) <|
 .op (some 26) .any [25] (.faddr 0 (.tmp 25)) <|
 .op (some 27) .any [26] (.faddr 1 (.tmp 26)) <|
 .op none .any [27, 24] (.store 1 (.tmp 27) (.tmp 24)) <|
 .nil))
 (.seq (.keep [(1, .ptr), (3, .ptr), (4, .str)] [] [] (.gdraw G41_0 H41_0 [(1, .ptr), (3, .ptr)]))
 (.seq (.seq (.ops (.op (some 36) .any [1] (.faddr 2 (.tmp 1)) <|
 .op (some 37) .any [36] (.load none (.tmp 36)) <|
 .op (some 38) .any [37] (.len false (.tmp 37)) <|
 .op (some 39) .any [] (.mov (.con (V.int .i64 (Int.ofNat 0)))) <|
 .nil))
 (.block 0 (.loop [(1, .ptr), (3, .ptr), (37, .any), (38, (.int .i64)), (39, (.int .i64))] [] [] cc2)))
 (.keep [(3, .ptr)] [] [] cc1)))))))
def C41_1 : XC := (.seq (.ops (.op (some 63) .any [3] (.mov (.tmp 3)) <|
 .op (some 64) .any [63] (.nilck (.tmp 63)) <|
 .op (some 65) .any [64] (.faddr 0 (.tmp 64)) <|
 .op (some 66) .any [] (.buildSlice 9 1 [(V.str ⟨0, 0⟩)] [(0, 1, (.con (V.str ⟨5, 44095653130⟩)))]) <|
 .op (some 67) (.tup []) [65, 66] (.call 71 [(.tmp 65), (.tmp 66)]) <|
 .nil))
 (.seq (.seq (.ops (.op (some 68) .any [3] (.mov (.tmp 3)) <|
 .op (some 69) .any [68] (.nilck (.tmp 68)) <|
 .op (some 70) .any [69] (.faddr 0 (.tmp 69)) <|
 .op (some 71) .any [70] (.faddr 1 (.tmp 70)) <|
 .op (some 72) .bool [71] (.load none (.tmp 71)) <|
 .nil))
 (.cond (.tmp 72) (.seq (.ops (.op (some 2) .any [] (.mov (.con (V.str ⟨0, 0⟩))) <|
 .nil))
 .ret)
 .skip))
 (.seq (.ops (.op (some 73) .any [3] (.mov (.tmp 3)) <|
 .op (some 74) .any [73] (.nilck (.tmp 73)) <|
 .op (some 75) .any [74] (.faddr 0 (.tmp 74)) <|
 .op (some 76) .any [75] (.faddr 0 (.tmp 75)) <|
 .op (some 77) .any [76] (.load none (.tmp 76)) <|
 .op (some 78) .any [77] (.conv .toStr (.tmp 77)) <|
 .op (some 2) .any [78] (.mov (.tmp 78)) <|
 .nil))
 .ret)))
def C41_2 : XC := (.seq (.ops (.op (some 40) .any [39, 38] (.bin .lss .none (.tmp 39) (.tmp 38)) <|
 .nil))
 (.seq (.cond (.tmp 40) .skip
 (.exit 0))
 (.seq (.block 1 (.seq (.ops (.op (some 41) .any [39] (.mov (.tmp 39)) <|
 .op (some 42) .any [37, 39] (.iaddrS 1 (.tmp 37) (.tmp 39)) <|
 .op (some 43) .str [42] (.load none (.tmp 42)) <|
 .op (some 5) .any [41] (.mov (.tmp 41)) <|
 .op (some 6) .any [43] (.mov (.tmp 43)) <|
 .nil))
 (.seq (.seq (.ops (.op (some 44) .any [3] (.mov (.tmp 3)) <|
 .op (some 45) .any [44] (.nilck (.tmp 44)) <|
 .op (some 46) .any [45] (.faddr 0 (.tmp 45)) <|
 .op (some 47) .any [46] (.faddr 1 (.tmp 46)) <|
 .op (some 48) .bool [47] (.load none (.tmp 47)) <|
 .nil))
 (.cond (.tmp 48) (.exit 0)
 .skip))
 (.seq (.ops (.op (some 49) .any [3] (.mov (.tmp 3)) <|
 .op (some 50) .any [49] (.nilck (.tmp 49)) <|
 .op (some 51) .any [50] (.faddr 0 (.tmp 50)) <|
 .op (some 52) .any [6] (.mov (.tmp 6)) <|
 .op (some 53) .any [52] (.buildSlice 9 3 [(V.str ⟨0, 0⟩), (V.str ⟨0, 0⟩), (V.str ⟨0, 0⟩)] [(0, 1, (.con (V.str ⟨1, 10⟩))), (1, 1, (.tmp 52)), (2, 1, (.con (V.str ⟨5, 138466179616⟩)))]) <|
 .op (some 54) (.tup []) [51, 53] (.call 71 [(.tmp 51), (.tmp 53)]) <|
 .nil))
 (.ops (.op (some 55) .any [3] (.mov (.tmp 3)) <|
 .op (some 56) .any [1] (.faddr 3 (.tmp 1)) <|
 .op (some 57) .any [56] (.load none (.tmp 56)) <|
 .op (some 58) .any [5] (.mov (.tmp 5)) <|
 .op (some 59) .any [57, 58] (.iaddrS 1 (.tmp 57) (.tmp 58)) <|
 .op (some 60) (.int .i64) [59] (.load none (.tmp 59)) <|
 .op (some 61) (.tup []) [55, 60] (.call 72 [(.tmp 55), (.tmp 60), (.con (V.int .i64 (Int.ofNat 0)))]) <|
 .nil))))))
 (.ops (.op (some 62) .any [39] (.bin .add .none (.tmp 39) (.con (V.int .i64 (Int.ofNat 1)))) <|
 .op (some 39) .any [62] (.mov (.tmp 62)) <|
 .nil)))))
def A41 : XFn := ⟨79, [(.agg [.str, (.int .i64), .any, .any, .any])], [(.tmp 2)], (C41_0 C41_1 C41_2)⟩
def C42_0 : XC := (.seq (.ops (.op (some 4) .any [] (.mov (.con (V.bool false))) <|
 .nil))
 (.seq (.ops (.op (some 5) .any [0] (.mov (.tmp 0)) <|
 .op (some 6) .any [1] (.mov (.tmp 1)) <|
 .op (some 7) (.int .i64) [5, 6] (.call 73 [(.tmp 5), (.tmp 6)]) <|
 .op (some 8) .any [7] (.bin .geq .none (.tmp 7) (.con (V.int .i64 (Int.ofNat 0)))) <|
 .op (some 4) .any [8] (.mov (.tmp 8)) <|
 .nil))
 .ret))
def A42 : XFn := ⟨9, [.any, .any], [(.tmp 4)], C42_0⟩
def C43_0 : XC := (.seq (.ops (.op (some 2) .any [0] (.box 73 (.tmp 0)) <|
 .op (some 3) .any [] (.mov (.con (V.bool false))) <|
 .nil))
 (.seq (.ops (.op (some 4) .any [2] (.faddr 0 (.tmp 2)) <|
 .op (some 5) .any [4] (.faddr 1 (.tmp 4)) <|
 .op (some 6) .str [5] (.load none (.tmp 5)) <|
 .op (some 7) .any [1] (.faddr 0 (.tmp 1)) <|
 .op (some 8) .any [7] (.faddr 1 (.tmp 7)) <|
 .op (some 9) .str [8] (.load none (.tmp 8)) <|
 .op (some 10) .any [6, 9] (.bin .eql .none (.tmp 6) (.tmp 9)) <|
 .op (some 3) .any [10] (.mov (.tmp 10)) <|
 .nil))
 .ret))
def A43 : XFn := ⟨11, [(.agg [(.int .i64), .str, .str, .any, .any, .any]), .any], [(.tmp 3)], C43_0⟩
def G44_0 : List AOper := [⟨(some 21), .mov (.tmp 6), none⟩, ⟨(some 22), .faddr 2 (.tmp 2), none⟩, ⟨(some 23), .load none (.tmp 22), none⟩, ⟨(some 24), .len false (.tmp 23), none⟩, ⟨(some 25), .bin .geq .none (.tmp 21) (.tmp 24), none⟩, ⟨(some 26), .mov (.tmp 25), none⟩, ⟨(some 27), .load (some 4) (.tmp 2), (some (26, false))⟩, ⟨(some 28), .faddr 2 (.tmp 2), (some (26, false))⟩, ⟨(some 29), .load none (.tmp 28), (some (26, false))⟩, ⟨(some 30), .mov (.tmp 6), (some (26, false))⟩, ⟨(some 31), .iaddrS 1 (.tmp 29) (.tmp 30), (some (26, false))⟩, ⟨(some 32), .load none (.tmp 31), (some (26, false))⟩, ⟨(some 33), .load (some 4) (.tmp 3), (some (26, false))⟩, ⟨(some 34), .load (some 4) (.tmp 3), (some (26, false))⟩, ⟨(some 35), .mov (.tmp 7), (some (26, false))⟩, ⟨(some 36), .call 75 [(.tmp 34), (.tmp 35)], (some (26, false))⟩, ⟨(some 37), .call 74 [(.tmp 27), (.tmp 32), (.tmp 33), (.tmp 36)], (some (26, false))⟩, ⟨(some 38), .un .not (.tmp 37), (some (26, false))⟩, ⟨(some 39), .pick (.tmp 26) (.con (V.bool true)) (.tmp 38), none⟩]
def H44_0 : List DP := [⟨0, [6]⟩, ⟨0, [2]⟩, ⟨2, [22]⟩, ⟨6, [23]⟩, ⟨15, [21, 24]⟩, ⟨31, [25]⟩, ⟨63, [2, 26]⟩, ⟨63, [2, 26]⟩, ⟨191, [28, 26]⟩, ⟨63, [6, 26]⟩, ⟨959, [29, 30, 26]⟩, ⟨1983, [31, 26]⟩, ⟨63, [3, 26]⟩, ⟨63, [3, 26]⟩, ⟨63, [7, 26]⟩, ⟨24639, [34, 35, 26]⟩, ⟨65535, [27, 32, 33, 36, 26]⟩, ⟨131071, [37, 26]⟩, ⟨262143, [26, 38]⟩]
def C44_0 (cc1 : XC) (cc2 : XC) : XC := (.seq (.ops (.op (some 2) .any [0] (.box 50 (.tmp 0)) <|
 .op (some 3) .any [1] (.box 50 (.tmp 1)) <|
 .op (some 4) .any [] (.mov (.con (V.int .i64 (Int.ofNat 0)))) <|
 .op (some 5) .any [] (.mov (.con (V.int .i64 (Int.ofNat 0)))) <|
 .nil))
 (.seq (.seq (.ops (.op (some 8) .any [2] (.faddr 0 (.tmp 2)) <|
 .op (some 9) .str [8] (.load none (.tmp 8)) <|
 .op (some 10) .any [3] (.faddr 0 (.tmp 3)) <|
 .op (some 11) .str [10] (.load none (.tmp 10)) <|
 .op (some 12) .any [9, 11] (.bin .neq .none (.tmp 9) (.tmp 11)) <|
 .nil))
 (.cond (.tmp 12) (.seq (.ops (.op (some 4) .any [] (.mov (.con (V.int .i64 (Int.ofNat 0)))) <|
 .op (some 5) .any [] (.mov (.con (V.int .i64 (Int.ofNat 14)))) <|
 .nil))
 .ret)
 .skip))
 (.seq (.seq (.ops (.op (some 13) .any [2] (.faddr 1 (.tmp 2)) <|
 .op (some 14) .any [13] (.load none (.tmp 13)) <|
 .op (some 15) .any [14] (.len false (.tmp 14)) <|
 .op (some 16) .any [] (.mov (.con (V.int .i64 (Int.ofNat 0)))) <|
 .nil))
 (.block 0 (.loop [(2, .ptr), (3, .ptr), (14, .any), (15, (.int .i64)), (16, (.int .i64))] [] [] cc2)))
 (.keep [] [] [] cc1))))
def C44_1 : XC := (.seq (.ops (.op (some 4) .any [] (.mov (.con (V.int .i64 (Int.ofNat 0)))) <|
 .op (some 5) .any [] (.mov (.con (V.int .i64 (Int.ofNat 0)))) <|
 .nil))
 .ret)
def C44_2 : XC := (.seq (.ops (.op (some 17) .any [16, 15] (.bin .lss .none (.tmp 16) (.tmp 15)) <|
 .nil))
 (.seq (.cond (.tmp 17) .skip
 (.exit 0))
 (.seq (.block 1 (.seq (.ops (.op (some 18) .any [16] (.mov (.tmp 16)) <|
 .op (some 19) .any [14, 16] (.iaddrS 1 (.tmp 14) (.tmp 16)) <|
 .op (some 20) .str [19] (.load none (.tmp 19)) <|
 .op (some 6) .any [18] (.mov (.tmp 18)) <|
 .op (some 7) .any [20] (.mov (.tmp 20)) <|
 .nil))
 (.seq (.keep [(2, .ptr), (3, .ptr), (6, (.int .i64)), (7, .str), (14, .any), (15, (.int .i64)), (16, (.int .i64))] [] [] (.gdraw G44_0 H44_0 [(2, .ptr), (3, .ptr), (6, (.int .i64)), (14, .any), (15, (.int .i64)), (16, (.int .i64)), (39, .bool)]))
 (.cond (.tmp 39) (.seq (.ops (.op (some 40) .any [6] (.mov (.tmp 6)) <|
 .op (some 4) .any [40] (.mov (.tmp 40)) <|
 .op (some 5) .any [] (.mov (.con (V.int .i64 (Int.ofNat 14)))) <|
 .nil))
 .ret)
 .skip))))
 (.ops (.op (some 41) .any [16] (.bin .add .none (.tmp 16) (.con (V.int .i64 (Int.ofNat 1)))) <|
 .op (some 16) .any [41] (.mov (.tmp 41)) <|
 .nil)))))
def A44 : XFn := ⟨42, [(.agg [.str, .any, .any, .any]), (.agg [.str, .any, .any, .any])], [(.tmp 4), (.tmp 5)], (C44_0 C44_1 C44_2)⟩
def C45_0 : XC := (.seq (.ops (.op (some 4) .any [] (.mov (.con (V.int .i64 (Int.ofNat 0)))) <|
 .op (some 5) .any [] (.mov (.con (V.bool false))) <|
 .nil))
 (.seq (.ops (.op (some 6) .any [0] (.mov (.tmp 0)) <|
 .op (some 7) .any [6] (.nilck (.tmp 6)) <|
 .op (some 8) .any [7] (.faddr 0 (.tmp 7)) <|
 .op (some 9) .any [8] (.load none (.tmp 8)) <|
 .op (some 10) .any [1] (.mov (.tmp 1)) <|
 .op (some 11) (.tup [(.int .i64), .bool]) [9, 10] (.call 76 [(.tmp 9), (.tmp 10), (.con (V.fn 77 [] []))]) <|
 .op (some 12) .any [11] (.extract 0 (.tmp 11)) <|
 .op (some 13) .any [11] (.extract 1 (.tmp 11)) <|
 .op (some 4) .any [12] (.mov (.tmp 12)) <|
 .op (some 5) .any [13] (.mov (.tmp 13)) <|
 .nil))
 .ret))
def A45 : XFn := ⟨14, [.ptr, .str], [(.tmp 4), (.tmp 5)], C45_0⟩
def C46_0 : XC := (.seq (.ops (.op (some 6) .any [] (.mov (.con V.nils)) <|
 .nil))
 (.seq (.ops (.op (some 10) .any [0] (.mov (.tmp 0)) <|
 .op (some 11) .any [1] (.mov (.tmp 1)) <|
 .op (some 12) .any [10, 11] (.sliceSl 2 (.tmp 10) (some (.tmp 11)) none none) <|
 .nil))
 (.seq (.ops (.op (some 13) .any [2] (.mov (.tmp 2)) <|
 .op (some 14) .any [13] (.len false (.tmp 13)) <|
 .op (some 7) .any [14] (.mov (.tmp 14)) <|
 .nil))
 (.seq (.seq (.ops (.op (some 15) .any [7] (.mov (.tmp 7)) <|
 .op (some 16) .any [15] (.bin .eql .none (.tmp 15) (.con (V.int .i64 (Int.ofNat 0)))) <|
 .nil))
 (.cond (.tmp 16) (.seq (.ops (.op (some 17) .any [0] (.mov (.tmp 0)) <|
 .op (some 6) .any [17] (.mov (.tmp 17)) <|
 .nil))
 .ret)
 .skip))
 (.seq (.ops (.op (some 18) .any [0] (.mov (.tmp 0)) <|
 .op (some 19) .any [18] (.len false (.tmp 18)) <|
 .op (some 8) .any [19] (.mov (.tmp 19)) <|
 .nil))
 (.seq (.seq (.ops (.op (some 20) .any [1] (.mov (.tmp 1)) <|
 .op (some 21) .any [8] (.mov (.tmp 8)) <|
 .op (some 22) .any [20, 21] (.bin .eql .none (.tmp 20) (.tmp 21)) <|
 .nil))
 (.cond (.tmp 22) (.seq (.ops (.op (some 23) .any [0] (.mov (.tmp 0)) <|
 .op (some 24) .any [2] (.mov (.tmp 2)) <|
 .op (some 25) .one [23, 24] (.append 84 2 40 (.tmp 23) (.tmp 24)) <|
 .op (some 6) .any [25] (.mov (.tmp 25)) <|
 .nil))
 .ret)
 .skip))
 (.seq (.seq (.ops (.op (some 26) .any [8] (.mov (.tmp 8)) <|
 .op (some 27) .any [7] (.mov (.tmp 7)) <|
 .op (some 28) .any [26, 27] (.bin .add .none (.tmp 26) (.tmp 27)) <|
 .op (some 29) .any [0] (.mov (.tmp 0)) <|
 .op (some 30) .any [29] (.cap (.tmp 29)) <|
 .op (some 31) .any [28, 30] (.bin .gtr .none (.tmp 28) (.tmp 30)) <|
 .nil))
 (.cond (.tmp 31) (.seq (.ops (.op (some 32) .any [0] (.mov (.tmp 0)) <|
 .op (some 33) .any [1] (.mov (.tmp 1)) <|
 .op (some 34) .any [32, 33] (.sliceSl 2 (.tmp 32) none (some (.tmp 33)) none) <|
 .op (some 35) .any [8] (.mov (.tmp 8)) <|
 .op (some 36) .any [7] (.mov (.tmp 7)) <|
 .op (some 37) .any [35, 36] (.bin .add .none (.tmp 35) (.tmp 36)) <|
 .op (some 38) .any [1] (.mov (.tmp 1)) <|
 .op (some 39) .any [37, 38] (.bin .sub .none (.tmp 37) (.tmp 38)) <|
 .op (some 40) .any [34, 39] .bad <|
 .op (some 9) .any [40] (.mov (.tmp 40)) <|
 .nil))
 (.seq (.ops (.op (some 41) .any [9] (.mov (.tmp 9)) <|
 .op (some 42) .any [1] (.mov (.tmp 1)) <|
 .op (some 43) .any [41, 42] (.sliceSl 2 (.tmp 41) (some (.tmp 42)) none none) <|
 .op (some 44) .any [2] (.mov (.tmp 2)) <|
 .op (some 45) (.int .i64) [43, 44] (.copy 2 (.tmp 43) (.tmp 44)) <|
 .nil)) (.seq (.draw (.op (some 46) .any [9] (.mov (.tmp 9)) <|
 .op (some 47) .any [1] (.mov (.tmp 1)) <|
 .op (some 48) .any [7] (.mov (.tmp 7)) <|
 .op (some 49) .any [47, 48] (.bin .add .none (.tmp 47) (.tmp 48)) <|
 .op (some 50) .any [46, 49] (.sliceSl 2 (.tmp 46) (some (.tmp 49)) none none) <|
 .op (some 51) .any [0] (.mov (.tmp 0)) <|
 .op (some 52) .any [1] (.mov (.tmp 1)) <|
 .op (some 53) .any [51, 52] (.sliceSl 2 (.tmp 51) (some (.tmp 52)) none none) <|
 .op (some 54) (.int .i64) [50, 53] (.copy 2 (.tmp 50) (.tmp 53)) <|
 .nil) [0, 0, 0, 6, 15, 0, 0, 96, 255]) (.seq (.ops (.op (some 55) .any [9] (.mov (.tmp 9)) <|
 .op (some 6) .any [55] (.mov (.tmp 55)) <|
 .nil)) .ret))))
 .skip))
 (.seq (.ops (.op (some 56) .any [0] (.mov (.tmp 0)) <|
 .op (some 57) .any [8] (.mov (.tmp 8)) <|
 .op (some 58) .any [7] (.mov (.tmp 7)) <|
 .op (some 59) .any [57, 58] (.bin .add .none (.tmp 57) (.tmp 58)) <|
 .op (some 60) .any [56, 59] (.sliceSl 2 (.tmp 56) none (some (.tmp 59)) none) <|
 .op (some 0) .any [60] (.mov (.tmp 60)) <|
 .nil))
 (.seq (.seq (.ops (.op (some 61) .any [2] (.mov (.tmp 2)) <|
 .op (some 62) .any [0] (.mov (.tmp 0)) <|
 .op (some 63) .any [1] (.mov (.tmp 1)) <|
 .op (some 64) .any [7] (.mov (.tmp 7)) <|
 .op (some 65) .any [63, 64] (.bin .add .none (.tmp 63) (.tmp 64)) <|
 .op (some 66) .any [62, 65] (.sliceSl 2 (.tmp 62) (some (.tmp 65)) none none) <|
 .op (some 67) .bool [61, 66] (.call 79 [(.tmp 61), (.tmp 66)]) <|
 .op (some 68) .any [67] (.un .not (.tmp 67)) <|
 .nil))
 (.cond (.tmp 68) (.seq (.draw (.op (some 69) .any [0] (.mov (.tmp 0)) <|
 .op (some 70) .any [1] (.mov (.tmp 1)) <|
 .op (some 71) .any [7] (.mov (.tmp 7)) <|
 .op (some 72) .any [70, 71] (.bin .add .none (.tmp 70) (.tmp 71)) <|
 .op (some 73) .any [69, 72] (.sliceSl 2 (.tmp 69) (some (.tmp 72)) none none) <|
 .op (some 74) .any [0] (.mov (.tmp 0)) <|
 .op (some 75) .any [1] (.mov (.tmp 1)) <|
 .op (some 76) .any [74, 75] (.sliceSl 2 (.tmp 74) (some (.tmp 75)) none none) <|
 .op (some 77) (.int .i64) [73, 76] (.copy 2 (.tmp 73) (.tmp 76)) <|
 .nil) [0, 0, 0, 6, 15, 0, 0, 96, 255])
 (.seq (.ops (.op (some 78) .any [0] (.mov (.tmp 0)) <|
 .op (some 79) .any [1] (.mov (.tmp 1)) <|
 .op (some 80) .any [78, 79] (.sliceSl 2 (.tmp 78) (some (.tmp 79)) none none) <|
 .op (some 81) .any [2] (.mov (.tmp 2)) <|
 .op (some 82) (.int .i64) [80, 81] (.copy 2 (.tmp 80) (.tmp 81)) <|
 .nil))
 (.seq (.ops (.op (some 83) .any [0] (.mov (.tmp 0)) <|
 .op (some 6) .any [83] (.mov (.tmp 83)) <|
 .nil))
 .ret)))
 .skip))
 (.seq (.ops (.op (some 84) .any [0] (.mov (.tmp 0)) <|
 .op (some 85) .any [8] (.mov (.tmp 8)) <|
 .op (some 86) .any [84, 85] (.sliceSl 2 (.tmp 84) (some (.tmp 85)) none none) <|
 .op (some 87) .any [2] (.mov (.tmp 2)) <|
 .op (some 88) (.int .i64) [86, 87] (.copy 2 (.tmp 86) (.tmp 87)) <|
 .nil))
 (.seq (.ops (.op (some 89) .any [0] (.mov (.tmp 0)) <|
 .op (some 90) .any [1] (.mov (.tmp 1)) <|
 .op (some 91) .any [89, 90] (.sliceSl 2 (.tmp 89) (some (.tmp 90)) none none) <|
 .op (some 92) .any [7] (.mov (.tmp 7)) <|
 .op (some 93) (.tup []) [91, 92] (.call 80 [(.tmp 91), (.tmp 92)]) <|
 .nil))
 (.seq (.ops (.op (some 94) .any [0] (.mov (.tmp 0)) <|
 .op (some 6) .any [94] (.mov (.tmp 94)) <|
 .nil))
 .ret))))))))))))
def A46 : XFn := ⟨95, [.any, (.int .i64), .any], [(.tmp 6)], C46_0⟩
def C47_0 : XC := (.seq (.ops (.op (some 2) .any [] (.mov (.con V.nils)) <|
 .nil))
 (.seq (.ops (.op (some 3) .any [0] (.mov (.tmp 0)) <|
 .op (some 4) .any [0] (.mov (.tmp 0)) <|
 .op (some 5) .any [4] (.len false (.tmp 4)) <|
 .op (some 6) .any [0] (.mov (.tmp 0)) <|
 .op (some 7) .any [6] (.len false (.tmp 6)) <|
 .op (some 8) .any [3, 5, 7] (.sliceSl 6 (.tmp 3) none (some (.tmp 5)) (some (.tmp 7))) <|
 .op (some 2) .any [8] (.mov (.tmp 8)) <|
 .nil))
 .ret))
def A47 : XFn := ⟨9, [.any], [(.tmp 2)], C47_0⟩
def C48_0 : XC := (.seq (.ops (.op (some 2) .any [] (.mov (.con V.nils)) <|
 .nil))
 (.seq (.seq (.ops (.op (some 3) .any [0] (.mov (.tmp 0)) <|
 .op (some 4) .any [3] (.bin .eql .slice (.tmp 3) (.con V.nils)) <|
 .nil))
 (.cond (.tmp 4) (.seq (.ops (.op (some 2) .any [] (.mov (.con V.nils)) <|
 .nil))
 .ret)
 .skip))
 (.seq (.ops (.op (some 5) .any [] (.buildSlice 9 0 [] []) <|
 .op (some 6) .any [0] (.mov (.tmp 0)) <|
 .op (some 7) .one [5, 6] (.append 9 1 16 (.tmp 5) (.tmp 6)) <|
 .op (some 2) .any [7] (.mov (.tmp 7)) <|
 .nil))
 .ret)))
def A48 : XFn := ⟨8, [.any], [(.tmp 2)], C48_0⟩
def C55_0 (cc1 : XC) (cc2 : XC) : XC := (.seq (.ops (.op (some 6) .any [] (.mov (.con (V.bool false))) <|
 .nil))
 (.seq (.seq (.ops (.op (some 8) .any [0] (.mov (.tmp 0)) <|
 .op (some 9) .any [8] (.len false (.tmp 8)) <|
 .op (some 10) .any [1] (.mov (.tmp 1)) <|
 .op (some 11) .any [10] (.len false (.tmp 10)) <|
 .op (some 12) .any [9, 11] (.bin .neq .none (.tmp 9) (.tmp 11)) <|
 .nil))
 (.cond (.tmp 12) (.seq (.ops (.op (some 6) .any [] (.mov (.con (V.bool false))) <|
 .nil))
 .ret)
 .skip))
 (.seq (.seq (.ops (.op (some 7) .any [] (.mov (.con (V.int .i64 (Int.ofNat 0)))) <|
 .nil))
 (.block 0 (.loop [(0, .any), (1, .any), (2, .any), (7, (.int .i64))] [] [] cc2)))
 (.keep [] [] [] cc1))))
def C55_1 : XC := (.seq (.ops (.op (some 6) .any [] (.mov (.con (V.bool true))) <|
 .nil))
 .ret)
def C55_2 : XC := (.seq (.seq (.ops (.op (some 13) .any [7] (.mov (.tmp 7)) <|
 .op (some 14) .any [0] (.mov (.tmp 0)) <|
 .op (some 15) .any [14] (.len false (.tmp 14)) <|
 .op (some 16) .any [13, 15] (.bin .lss .none (.tmp 13) (.tmp 15)) <|
 .nil))
 (.cond (.tmp 16) .skip
 (.exit 0)))
 (.seq (.block 1 (.seq (.draw (.op (some 19) .any [2] (.mov (.tmp 2)) <|
 .op (some 20) .any [0] (.mov (.tmp 0)) <|
 .op (some 21) .any [7] (.mov (.tmp 7)) <|
 .op (some 22) .any [20, 21] (.iaddrS 1 (.tmp 20) (.tmp 21)) <|
 .op (some 23) .str [22] (.load none (.tmp 22)) <|
 .op (some 24) .any [1] (.mov (.tmp 1)) <|
 .op (some 25) .any [7] (.mov (.tmp 7)) <|
 .op (some 26) .any [24, 25] (.iaddrS 1 (.tmp 24) (.tmp 25)) <|
 .op (some 27) .str [26] (.load none (.tmp 26)) <|
 .op (some 28) .bool [19, 23, 27] (.callv (.tmp 19) [(.tmp 23), (.tmp 27)]) <|
 .op (some 29) .any [28] (.un .not (.tmp 28)) <|
 .nil) [0, 0, 0, 6, 14, 0, 0, 96, 224, 511, 1023])
 (.cond (.tmp 29) (.seq (.ops (.op (some 6) .any [] (.mov (.con (V.bool false))) <|
 .nil))
 .ret)
 .skip)))
 (.ops (.op (some 17) .any [7] (.mov (.tmp 7)) <|
 .op (some 18) .any [17] (.bin .add .none (.tmp 17) (.con (V.int .i64 (Int.ofNat 1)))) <|
 .op (some 7) .any [18] (.mov (.tmp 18)) <|
 .nil))))
def A55 : XFn := ⟨30, [.any, .any, .any], [(.tmp 6)], (C55_0 C55_1 C55_2)⟩
def C66_0 (cc1 : XC) (cc2 : XC) : XC := (.seq (.ops (.op (some 2) .any [] (.mov (.con V.nils)) <|
 .op (some 3) .any [] (.mov (.con (V.int .i64 (Int.ofNat 0)))) <|
 .op (some 4) .any [] (.mov (.con (V.int .i64 (Int.ofNat 0)))) <|
 .nil))
 (.seq (.seq (.ops (.op (some 10) .any [0] (.mov (.tmp 0)) <|
 .op (some 11) .any [10] (.len true (.tmp 10)) <|
 .op (some 12) .any [11] (.bin .gtr .none (.tmp 11) (.con (V.int .i64 (Int.ofNat 8000)))) <|
 .nil))
 (.cond (.tmp 12) (.seq (.ops (.op (some 2) .any [] (.mov (.con V.nils)) <|
 .op (some 3) .any [] (.mov (.con (V.int .i64 (Int.ofNat 0)))) <|
 .op (some 4) .any [] (.mov (.con (V.int .i64 (Int.ofNat 5)))) <|
 .nil))
 .ret)
 .skip))
 (.seq (.ops (.op (some 13) .any [0] (.mov (.tmp 0)) <|
 .op (some 14) (.agg [.str, (.int .i64)]) [13] (.build [(V.str ⟨0, 0⟩), (V.int .i64 (Int.ofNat 0))] [(0, 1, (.tmp 13))]) <|
 .op (some 15) (.agg [.str, (.int .i64)]) [14] (.build [(V.str ⟨0, 0⟩), (V.int .i64 (Int.ofNat 0))] [(0, 2, (.tmp 14))]) <|
 .op (some 16) .any [15] (.box 183 (.tmp 15)) <|
 .op (some 5) .any [16] (.mov (.tmp 16)) <|
 .nil))
 (.seq (.ops (.op (some 6) .any [] (.mov (.con V.nils)) <|
 .nil))
 (.seq (.seq (.ops (.op (some 17) .any [5] (.mov (.tmp 5)) <|
 .op (some 18) .any [17] (.nilck (.tmp 17)) <|
 .op (some 19) .any [18] (.faddr 0 (.tmp 18)) <|
 .op (some 20) (.tup []) [19] (.call 87 [(.tmp 19)]) <|
 .nil))
 (.block 0 (.loop [(0, .str), (5, .ptr), (6, .any)] [] [] cc2)))
 (.keep [(0, .str), (6, .any)] [] [] cc1))))))
def C66_1 : XC := (.seq (.ops (.op (some 53) .any [6] (.mov (.tmp 6)) <|
 .op (some 54) .any [0] (.mov (.tmp 0)) <|
 .op (some 55) .any [54] (.len true (.tmp 54)) <|
 .op (some 56) (.agg [(.int .i64), .str, (.int .i64)]) [55] (.build [(V.int .i64 (Int.ofNat 0)), (V.str ⟨0, 0⟩), (V.int .i64 (Int.ofNat 0))] [(2, 1, (.tmp 55))]) <|
 .op (some 57) .any [56] (.buildSlice 187 1 [(V.int .i64 (Int.ofNat 0)), (V.str ⟨0, 0⟩), (V.int .i64 (Int.ofNat 0))] [(0, 3, (.tmp 56))]) <|
 .op (some 58) .one [53, 57] (.append 187 3 32 (.tmp 53) (.tmp 57)) <|
 .op (some 2) .any [58] (.mov (.tmp 58)) <|
 .op (some 3) .any [] (.mov (.con (V.int .i64 (Int.ofNat 0)))) <|
 .op (some 4) .any [] (.mov (.con (V.int .i64 (Int.ofNat 0)))) <|
 .nil))
 .ret)
def C66_2 : XC := (.seq (.seq (.ops (.op (some 21) .any [5] (.mov (.tmp 5)) <|
 .op (some 22) .any [21] (.nilck (.tmp 21)) <|
 .op (some 23) .any [22] (.faddr 0 (.tmp 22)) <|
 .op (some 24) .any [23] (.faddr 1 (.tmp 23)) <|
 .op (some 25) (.int .i64) [24] (.load none (.tmp 24)) <|
 .op (some 26) .any [0] (.mov (.tmp 0)) <|
 .op (some 27) .any [26] (.len true (.tmp 26)) <|
 .op (some 28) .any [25, 27] (.bin .lss .none (.tmp 25) (.tmp 27)) <|
 .nil))
 (.cond (.tmp 28) .skip
 (.exit 0)))
 (.seq (.block 1 (.seq (.ops (.op (some 33) .any [5] (.mov (.tmp 5)) <|
 .op (some 34) .any [33] (.nilck (.tmp 33)) <|
 .op (some 35) .any [34] (.faddr 0 (.tmp 34)) <|
 .op (some 36) .any [35] (.faddr 1 (.tmp 35)) <|
 .op (some 37) (.int .i64) [36] (.load none (.tmp 36)) <|
 .op (some 7) .any [37] (.mov (.tmp 37)) <|
 .nil))
 (.seq (.ops (.op (some 39) .any [5] (.mov (.tmp 5)) <|
 .op (some 40) (.tup [(.int .i64), .str]) [39] (.call 88 [(.tmp 39)]) <|
 .op (some 38) .any [40] (.mov (.tmp 40)) <|
 .op (some 41) .any [38] (.extract 0 (.tmp 38)) <|
 .op (some 42) .any [38] (.extract 1 (.tmp 38)) <|
 .op (some 8) .any [41] (.mov (.tmp 41)) <|
 .op (some 9) .any [42] (.mov (.tmp 42)) <|
 .nil))
 (.seq (.seq (.ops (.op (some 43) .any [8] (.mov (.tmp 8)) <|
 .op (some 44) .any [43] (.bin .eql .none (.tmp 43) (.con (V.int .i64 (Int.ofNat 0)))) <|
 .nil))
 (.cond (.tmp 44) (.seq (.ops (.op (some 45) .any [7] (.mov (.tmp 7)) <|
 .op (some 2) .any [] (.mov (.con V.nils)) <|
 .op (some 3) .any [45] (.mov (.tmp 45)) <|
 .op (some 4) .any [] (.mov (.con (V.int .i64 (Int.ofNat 6)))) <|
 .nil))
 .ret)
 .skip))
 (.ops (.op (some 46) .any [6] (.mov (.tmp 6)) <|
 .op (some 47) .any [8] (.mov (.tmp 8)) <|
 .op (some 48) .any [9] (.mov (.tmp 9)) <|
 .op (some 49) .any [7] (.mov (.tmp 7)) <|
 .op (some 50) (.agg [(.int .i64), .str, (.int .i64)]) [47, 48, 49] (.build [(V.int .i64 (Int.ofNat 0)), (V.str ⟨0, 0⟩), (V.int .i64 (Int.ofNat 0))] [(0, 1, (.tmp 47)), (1, 1, (.tmp 48)), (2, 1, (.tmp 49))]) <|
 .op (some 51) .any [50] (.buildSlice 187 1 [(V.int .i64 (Int.ofNat 0)), (V.str ⟨0, 0⟩), (V.int .i64 (Int.ofNat 0))] [(0, 3, (.tmp 50))]) <|
 .op (some 52) .one [46, 51] (.append 187 3 32 (.tmp 46) (.tmp 51)) <|
 .op (some 6) .any [52] (.mov (.tmp 52)) <|
 .nil))))))
 (.ops (.op (some 29) .any [5] (.mov (.tmp 5)) <|
 .op (some 30) .any [29] (.nilck (.tmp 29)) <|
 .op (some 31) .any [30] (.faddr 0 (.tmp 30)) <|
 .op (some 32) (.tup []) [31] (.call 87 [(.tmp 31)]) <|
 .nil))))
def A66 : XFn := ⟨59, [.str], [(.tmp 2), (.tmp 3), (.tmp 4)], (C66_0 C66_1 C66_2)⟩
def C67_0 (cc1 : XC) (cc2 : XC) : XC := (.seq (.ops (.op (some 2) .any [] (.mov (.con (V.bool false))) <|
 .nil))
 (.seq (.ops (.op (some 8) .any [0] (.mov (.tmp 0)) <|
 .op (some 9) (.tup [(.agg [(.int .i64), .str, (.int .i64)]), .bool]) [8] (.call 89 [(.tmp 8), (.con (V.int .i64 (Int.ofNat 1)))]) <|
 .op (some 7) .any [9] (.mov (.tmp 9)) <|
 .op (some 10) .any [7] (.extract 0 (.tmp 7)) <|
 .op (some 11) .any [7] (.extract 1 (.tmp 7)) <|
 .pal 3 [] 187 [(V.int .i64 (Int.ofNat 0)), (V.str ⟨0, 0⟩), (V.int .i64 (Int.ofNat 0))] <|
 .op none (.agg [(.int .i64), .str, (.int .i64)]) [3, 10] (.store 3 (.tmp 3) (.tmp 10)) <|
 .op (some 4) .any [11] (.mov (.tmp 11)) <|
 .nil))
 (.seq (.seq (.ops (.op (some 12) .any [4] (.mov (.tmp 4)) <|
 .op (some 13) .any [12] (.un .not (.tmp 12)) <|
 .op (some 14) .any [13] (.mov (.tmp 13)) <|
 .grp 14 false (.op (some 15) .any [0, 14] (.mov (.tmp 0)) <|
 .op (some 16) .any [14] (.buildSlice 9 1 [(V.str ⟨0, 0⟩)] [(0, 1, (.con (V.str ⟨11, 100710650190388740279911748⟩)))]) <|
 .op (some 17) .bool [15, 16, 14] (.call 90 [(.tmp 15), (.tmp 16)]) <|
 .op (some 18) .any [17, 14] (.un .not (.tmp 17)) <|
 .nil) 19 [14, 18] (.tmp 14) (.con (V.bool true)) (.tmp 18) <|
 .nil))
 (.cond (.tmp 19) (.seq (.ops (.op (some 2) .any [] (.mov (.con (V.bool false))) <|
 .nil))
 .ret)
 .skip))
 (.seq (.ops (.op (some 20) .any [0] (.mov (.tmp 0)) <|
 .op (some 21) .any [3] (.faddr 1 (.tmp 3)) <|
 .op (some 22) .str [21] (.load none (.tmp 21)) <|
 .op (some 23) .any [20] (.nilck (.tmp 20)) <|
 .op (some 24) .any [23] (.faddr 2 (.tmp 23)) <|
 .op (some 25) .any [24] (.faddr 0 (.tmp 24)) <|
 .op none .any [25, 22] (.store 1 (.tmp 25) (.tmp 22)) <|
 .nil))
 (.seq (.seq (.ops (.op (some 26) .any [] (.buildSlice 9 3 [(V.str ⟨0, 0⟩), (V.str ⟨0, 0⟩), (V.str ⟨0, 0⟩)] [(0, 1, (.con (V.str ⟨8, 6073459554577832005⟩))), (1, 1, (.con (V.str ⟨8, 6073459554577829193⟩))), (2, 1, (.con (V.str ⟨9, 1241215773001651606849⟩)))]) <|
 .op (some 27) .any [26] (.len false (.tmp 26)) <|
 .op (some 28) .any [] (.mov (.con (V.int .i64 (Int.ofNat 0)))) <|
 .nil))
 (.block 0 (.loop [(0, .ptr), (26, .any), (27, (.int .i64)), (28, (.int .i64))] [] [] cc2)))
 (.keep [(0, .ptr)] [] [] cc1))))))
def C67_1 (cc3 : XC) (cc4 : XC) : XC := (.seq (.seq (.ops (.op (some 50) .any [0] (.mov (.tmp 0)) <|
 .op (some 51) .any [] (.buildSlice 9 2 [(V.str ⟨0, 0⟩), (V.str ⟨0, 0⟩)] [(0, 1, (.con (V.str ⟨3, 4012602⟩))), (1, 1, (.con (V.str ⟨5, 336236856642⟩)))]) <|
 .op (some 52) .bool [50, 51] (.call 90 [(.tmp 50), (.tmp 51)]) <|
 .op (some 53) .any [52] (.un .not (.tmp 52)) <|
 .nil))
 (.cond (.tmp 53) (.seq (.ops (.op (some 2) .any [] (.mov (.con (V.bool false))) <|
 .nil))
 .ret)
 .skip))
 (.seq (.block 2 (.loop [(0, .ptr)] [] [] cc4))
 (.keep [(0, .ptr)] [] [] cc3)))
def C67_2 : XC := (.seq (.ops (.op (some 29) .any [28, 27] (.bin .lss .none (.tmp 28) (.tmp 27)) <|
 .nil))
 (.seq (.cond (.tmp 29) .skip
 (.exit 0))
 (.seq (.block 1 (.seq (.ops (.op (some 30) .any [28] (.mov (.tmp 28)) <|
 .op (some 31) .any [26, 28] (.iaddrS 1 (.tmp 26) (.tmp 28)) <|
 .op (some 32) .str [31] (.load none (.tmp 31)) <|
 .op (some 5) .any [30] (.mov (.tmp 30)) <|
 .op (some 6) .any [32] (.mov (.tmp 32)) <|
 .nil))
 (.seq (.seq (.ops (.op (some 33) .any [0] (.mov (.tmp 0)) <|
 .op (some 34) .any [33] (.nilck (.tmp 33)) <|
 .op (some 35) .any [34] (.faddr 0 (.tmp 34)) <|
 .op (some 36) .any [6] (.mov (.tmp 6)) <|
 .op (some 37) .bool [35, 36] (.call 91 [(.tmp 35), (.tmp 36)]) <|
 .op (some 38) .any [37] (.un .not (.tmp 37)) <|
 .nil))
 (.cond (.tmp 38) (.exit 1)
 .skip))
 (.seq (.ops (.op (some 39) .any [0] (.mov (.tmp 0)) <|
 .op (some 40) .any [5] (.mov (.tmp 5)) <|
 .op (some 41) .any [39] (.nilck (.tmp 39)) <|
 .op (some 42) .any [41] (.faddr 2 (.tmp 41)) <|
 .op (some 43) .any [42] (.faddr 1 (.tmp 42)) <|
 .op none .any [43, 40] (.store 1 (.tmp 43) (.tmp 40)) <|
 .nil))
 (.seq (.seq (.ops (.op (some 44) .any [0] (.mov (.tmp 0)) <|
 .op (some 45) .any [6] (.mov (.tmp 6)) <|
 .op (some 46) .any [45] (.buildSlice 9 2 [(V.str ⟨0, 0⟩), (V.str ⟨0, 0⟩)] [(0, 1, (.tmp 45)), (1, 1, (.con (V.str ⟨4, 1397178708⟩)))]) <|
 .op (some 47) .bool [44, 46] (.call 90 [(.tmp 44), (.tmp 46)]) <|
 .op (some 48) .any [47] (.un .not (.tmp 47)) <|
 .nil))
 (.cond (.tmp 48) (.seq (.ops (.op (some 2) .any [] (.mov (.con (V.bool false))) <|
 .nil))
 .ret)
 .skip))
 (.exit 0))))))
 (.ops (.op (some 49) .any [28] (.bin .add .none (.tmp 28) (.con (V.int .i64 (Int.ofNat 1)))) <|
 .op (some 28) .any [49] (.mov (.tmp 49)) <|
 .nil)))))
def C67_3 : XC := (.seq (.seq (.ops (.op (some 63) .any [0] (.mov (.tmp 0)) <|
 .op (some 64) .any [] (.buildSlice 9 1 [(V.str ⟨0, 0⟩)] [(0, 1, (.con (V.str ⟨3, 4476485⟩)))]) <|
 .op (some 65) .bool [63, 64] (.call 90 [(.tmp 63), (.tmp 64)]) <|
 .op (some 66) .any [65] (.un .not (.tmp 65)) <|
 .nil))
 (.cond (.tmp 66) (.seq (.ops (.op (some 2) .any [] (.mov (.con (V.bool false))) <|
 .nil))
 .ret)
 .skip))
 (.seq (.ops (.op (some 68) .any [0] (.mov (.tmp 0)) <|
 .op (some 69) (.tup [(.agg [(.int .i64), .str, (.int .i64)]), .bool]) [68] (.call 89 [(.tmp 68), (.con (V.int .i64 (Int.ofNat 0)))]) <|
 .op (some 67) .any [69] (.mov (.tmp 69)) <|
 .op (some 70) .any [67] (.extract 0 (.tmp 67)) <|
 .op (some 71) .any [67] (.extract 1 (.tmp 67)) <|
 .op (some 4) .any [71] (.mov (.tmp 71)) <|
 .nil))
 (.seq (.ops (.op (some 72) .any [4] (.mov (.tmp 4)) <|
 .op (some 2) .any [72] (.mov (.tmp 72)) <|
 .nil))
 .ret)))
def C67_4 : XC := (.seq (.seq (.ops (.op (some 54) .any [0] (.mov (.tmp 0)) <|
 .op (some 55) .any [54] (.nilck (.tmp 54)) <|
 .op (some 56) .any [55] (.faddr 0 (.tmp 55)) <|
 .op (some 57) (.agg [(.int .i64), .str, (.int .i64)]) [56] (.call 92 [(.tmp 56)]) <|
 .op (some 58) (.int .i64) [57] (.field 0 none (.tmp 57)) <|
 .op (some 59) .any [58] (.bin .eql .none (.tmp 58) (.con (V.int .i64 (Int.ofNat 1)))) <|
 .nil))
 (.cond (.tmp 59) .skip
 (.exit 2)))
 (.block 3 (.seq (.ops (.op (some 60) .any [0] (.mov (.tmp 0)) <|
 .op (some 61) .bool [60] (.call 93 [(.tmp 60)]) <|
 .op (some 62) .any [61] (.un .not (.tmp 61)) <|
 .nil))
 (.cond (.tmp 62) (.seq (.ops (.op (some 2) .any [] (.mov (.con (V.bool false))) <|
 .nil))
 .ret)
 .skip))))
def A67 : XFn := ⟨73, [.ptr], [(.tmp 2)], (C67_0 (C67_1 C67_3 C67_4) C67_2)⟩
def G68_0 : List AOper := [⟨(some 17), .mov (.tmp 5), none⟩, ⟨(some 18), .load (some 5) (.tmp 1), none⟩, ⟨(some 19), .load (some 5) (.tmp 1), none⟩, ⟨(some 20), .mov (.tmp 6), none⟩, ⟨(some 21), .call 95 [(.tmp 19), (.tmp 20)], none⟩, ⟨(some 22), .call 94 [(.tmp 18), (.tmp 21)], none⟩, ⟨(some 23), .buildSlice 32 1 [V.nils] [(0, 1, (.tmp 22))], none⟩, ⟨(some 24), .append 32 1 24 (.tmp 17) (.tmp 23), none⟩, ⟨(some 5), .mov (.tmp 24), none⟩]
def H68_0 : List DP := [⟨0, [5]⟩, ⟨0, [1]⟩, ⟨0, [1]⟩, ⟨0, [6]⟩, ⟨12, [19, 20]⟩, ⟨30, [18, 21]⟩, ⟨62, [22]⟩, ⟨127, [17, 23]⟩, ⟨255, [24]⟩]
def C68_0 (cc1 : XC) (cc2 : XC) : XC := (.seq (.ops (.op (some 1) .any [0] (.box 99 (.tmp 0)) <|
 .op (some 2) .any [] (.mov (.con V.nils)) <|
 .op (some 3) .any [] (.mov (.con (V.int .i64 (Int.ofNat 0)))) <|
 .op (some 4) .any [] (.mov (.con (V.int .i64 (Int.ofNat 0)))) <|
 .nil))
 (.seq (.ops (.op (some 5) .any [] (.mov (.con V.nils)) <|
 .nil))
 (.seq (.seq (.ops (.op (some 11) .any [1] (.faddr 2 (.tmp 1)) <|
 .op (some 12) .any [11] (.load none (.tmp 11)) <|
 .op (some 13) .any [12] (.len false (.tmp 12)) <|
 .op (some 14) .any [] (.mov (.con (V.int .i64 (Int.ofNat 0)))) <|
 .nil))
 (.block 0 (.loop [(1, .ptr), (5, .any), (13, (.int .i64)), (14, (.int .i64))] [] [] cc2)))
 (.keep [(1, .ptr), (5, .any)] [] [] cc1))))
def C68_1 (cc3 : XC) (cc4 : XC) : XC := (.seq (.seq (.ops (.op (some 27) (.agg [.str, (.int .i64), .any, .any, .any]) [1] (.load (some 5) (.tmp 1)) <|
 .op (some 28) .any [5] (.mov (.tmp 5)) <|
 .op (some 29) (.tup [(.int .i64), (.int .i64)]) [27, 28] (.call 96 [(.tmp 27), (.tmp 28)]) <|
 .op (some 26) .any [29] (.mov (.tmp 29)) <|
 .op (some 30) .any [26] (.extract 0 (.tmp 26)) <|
 .op (some 31) .any [26] (.extract 1 (.tmp 26)) <|
 .op (some 7) .any [30] (.mov (.tmp 30)) <|
 .op (some 8) .any [31] (.mov (.tmp 31)) <|
 .nil))
 (.seq (.ops (.op (some 32) .any [8] (.mov (.tmp 8)) <|
 .op (some 33) .any [32] (.bin .neq .none (.tmp 32) (.con (V.int .i64 (Int.ofNat 0)))) <|
 .nil))
 (.cond (.tmp 33) (.seq (.ops (.op (some 34) .any [7] (.mov (.tmp 7)) <|
 .op (some 35) .any [8] (.mov (.tmp 8)) <|
 .op (some 2) .any [] (.mov (.con V.nils)) <|
 .op (some 3) .any [34] (.mov (.tmp 34)) <|
 .op (some 4) .any [35] (.mov (.tmp 35)) <|
 .nil))
 .ret)
 .skip)))
 (.seq (.ops (.op (some 9) .any [] (.alloc 32 [V.nils]) <|
 .nil))
 (.seq (.block 2 (.loop [(1, .ptr), (5, .any), (9, .ptr)] [] [] cc4))
 (.keep [(9, .ptr)] [] [] cc3))))
def C68_2 : XC := (.seq (.ops (.op (some 15) .any [14, 13] (.bin .lss .none (.tmp 14) (.tmp 13)) <|
 .nil))
 (.seq (.cond (.tmp 15) .skip
 (.exit 0))
 (.seq (.block 1 (.seq (.ops (.op (some 16) .any [14] (.mov (.tmp 14)) <|
 .op (some 6) .any [16] (.mov (.tmp 16)) <|
 .nil))
 (.keep [(1, .ptr), (5, .any), (6, (.int .i64)), (13, (.int .i64)), (14, (.int .i64))] [] [] (.gdraw G68_0 H68_0 [(1, .ptr), (5, .any), (13, (.int .i64)), (14, (.int .i64))]))))
 (.ops (.op (some 25) .any [14] (.bin .add .none (.tmp 14) (.con (V.int .i64 (Int.ofNat 1)))) <|
 .op (some 14) .any [25] (.mov (.tmp 25)) <|
 .nil)))))
def C68_3 : XC := (.seq (.ops (.op (some 66) .any [9] (.load none (.tmp 9)) <|
 .op (some 2) .any [66] (.mov (.tmp 66)) <|
 .op (some 3) .any [] (.mov (.con (V.int .i64 (Int.ofNat 0)))) <|
 .op (some 4) .any [] (.mov (.con (V.int .i64 (Int.ofNat 0)))) <|
 .nil))
 .ret)
def C68_4 (cc5 : XC) : XC := (.seq (.seq (.ops (.op (some 36) .any [9] (.load none (.tmp 9)) <|
 .op (some 37) .any [36] (.len false (.tmp 36)) <|
 .op (some 38) .any [1] (.faddr 2 (.tmp 1)) <|
 .op (some 39) .any [38] (.load none (.tmp 38)) <|
 .op (some 40) .any [39] (.len false (.tmp 39)) <|
 .op (some 41) .any [37, 40] (.bin .lss .none (.tmp 37) (.tmp 40)) <|
 .nil))
 (.cond (.tmp 41) .skip
 (.exit 2)))
 (.block 3 (.seq (.ops (.op (some 42) .any [1] (.faddr 2 (.tmp 1)) <|
 .op (some 43) .any [42] (.load none (.tmp 42)) <|
 .op (some 44) .any [43] (.len false (.tmp 43)) <|
 .op (some 45) .any [] (.mov (.con (V.int .i64 (Int.ofNat 0)))) <|
 .nil))
 (.block 4 (.loop [(1, .ptr), (5, .any), (9, .ptr), (44, (.int .i64)), (45, (.int .i64))] [] [] cc5)))))
def C68_5 : XC := (.seq (.ops (.op (some 46) .any [45, 44] (.bin .lss .none (.tmp 45) (.tmp 44)) <|
 .nil))
 (.seq (.cond (.tmp 46) .skip
 (.exit 4))
 (.seq (.block 5 (.seq (.ops (.op (some 47) .any [45] (.mov (.tmp 45)) <|
 .op (some 10) .any [47] (.mov (.tmp 47)) <|
 .nil))
 (.seq (.ops (.op (some 48) .any [9] (.load none (.tmp 9)) <|
 .op (some 49) .any [10] (.mov (.tmp 10)) <|
 .op (some 50) .bool [48, 49] (.call 97 [(.tmp 48), (.tmp 49)]) <|
 .op (some 51) .any [50] (.un .not (.tmp 50)) <|
 .op (some 52) .any [51] (.mov (.tmp 51)) <|
 .grp 52 true (.op (some 53) .any [5, 52] (.mov (.tmp 5)) <|
 .op (some 54) .any [10, 52] (.mov (.tmp 10)) <|
 .op (some 55) .any [53, 54, 52] (.iaddrS 1 (.tmp 53) (.tmp 54)) <|
 .op (some 56) .any [55, 52] (.load none (.tmp 55)) <|
 .op (some 57) .any [9, 52] (.mkfn 99 [] [(.tmp 9)]) <|
 .op (some 58) .bool [56, 57, 52] (.call 98 [(.tmp 56), (.tmp 57)]) <|
 .op (some 59) .any [58, 52] (.un .not (.tmp 58)) <|
 .nil) 60 [52, 59] (.tmp 52) (.tmp 59) (.con (V.bool false)) <|
 .nil))
 (.cond (.tmp 60) (.seq (.ops (.op (some 61) .any [9] (.load none (.tmp 9)) <|
 .op (some 62) .any [10] (.mov (.tmp 10)) <|
 .op (some 63) .any [62] (.buildSlice 3 1 [(V.int .i64 (Int.ofNat 0))] [(0, 1, (.tmp 62))]) <|
 .op (some 64) .one [61, 63] (.append 3 1 8 (.tmp 61) (.tmp 63)) <|
 .op none .any [9, 64] (.store 1 (.tmp 9) (.tmp 64)) <|
 .nil))
 (.exit 4))
 .skip))))
 (.ops (.op (some 65) .any [45] (.bin .add .none (.tmp 45) (.con (V.int .i64 (Int.ofNat 1)))) <|
 .op (some 45) .any [65] (.mov (.tmp 65)) <|
 .nil)))))
def A68 : XFn := ⟨67, [(.agg [.str, (.int .i64), .any, .any, .any])], [(.tmp 2), (.tmp 3), (.tmp 4)], (C68_0 (C68_1 C68_3 (C68_4 C68_5)) C68_2)⟩
def C69_0 (cc1 : XC) : XC := (.seq (.ops (.op (some 6) .any [] (.mov (.con (V.int .i64 (Int.ofNat 0)))) <|
 .op (some 7) .any [] (.mov (.con (V.int .i64 (Int.ofNat 0)))) <|
 .nil))
 (.seq (.seq (.ops (.op (some 12) .any [1] (.mov (.tmp 1)) <|
 .op (some 13) .any [12] (.bin .lss .none (.tmp 12) (.con (V.int .i64 (Int.ofNat 0)))) <|
 .op (some 14) .any [13] (.mov (.tmp 13)) <|
 .grp 14 false (.op (some 15) .any [1, 14] (.mov (.tmp 1)) <|
 .op (some 16) .any [0, 14] (.mov (.tmp 0)) <|
 .op (some 17) .any [16, 14] (.nilck (.tmp 16)) <|
 .op (some 18) .any [17, 14] (.faddr 1 (.tmp 17)) <|
 .op (some 19) .any [18, 14] (.faddr 4 (.tmp 18)) <|
 .op (some 20) .any [19, 14] (.load none (.tmp 19)) <|
 .op (some 21) .any [20, 14] (.len false (.tmp 20)) <|
 .op (some 22) .any [15, 21, 14] (.bin .geq .none (.tmp 15) (.tmp 21)) <|
 .nil) 23 [14, 22] (.tmp 14) (.con (V.bool true)) (.tmp 22) <|
 .nil))
 (.cond (.tmp 23) (.seq (.ops (.op (some 6) .any [] (.mov (.con (V.int .i64 (Int.ofNat 0)))) <|
 .op (some 7) .any [] (.mov (.con (V.int .i64 (Int.ofNat 9)))) <|
 .nil))
 .ret)
 .skip))
 (.seq (.ops (.op (some 24) .any [0] (.mov (.tmp 0)) <|
 .op (some 25) .any [24] (.nilck (.tmp 24)) <|
 .op (some 26) .any [25] (.faddr 1 (.tmp 25)) <|
 .op (some 27) .any [26] (.faddr 4 (.tmp 26)) <|
 .op (some 28) .any [27] (.load none (.tmp 27)) <|
 .op (some 29) .any [1] (.mov (.tmp 1)) <|
 .op (some 30) .any [28, 29] (.iaddrS 16 (.tmp 28) (.tmp 29)) <|
 .op (some 31) (.agg [(.int .i64), .str, .bool, (.int .i64), (.int .i64), .bool, .bool, .bool, .bool, (.int .i64), (.int .i64), .any, .any, (.int .i64), .bool, (.int .i64)]) [30] (.load (some 16) (.tmp 30)) <|
 .pal 8 [] 203 [(V.int .i64 (Int.ofNat 0)), (V.str ⟨0, 0⟩), (V.bool false), (V.int .i64 (Int.ofNat 0)), (V.int .i64 (Int.ofNat 0)), (V.bool false), (V.bool false), (V.bool false), (V.bool false), (V.int .i64 (Int.ofNat 0)), (V.int .i64 (Int.ofNat 0)), V.nils, V.nils, (V.int .i64 (Int.ofNat 0)), (V.bool false), (V.int .i64 (Int.ofNat 0))] <|
 .op none (.agg [(.int .i64), .str, .bool, (.int .i64), (.int .i64), .bool, .bool, .bool, .bool, (.int .i64), (.int .i64), .any, .any, (.int .i64), .bool, (.int .i64)]) [8, 31] (.store 16 (.tmp 8) (.tmp 31)) <|
 .nil))
 (.seq (.ops (.op (some 9) .any [] (.mov (.con (V.int .i64 (Int.ofNat 0)))) <|
 .nil))
 (.seq (.ops (.op (some 10) .any [] (.mov (.con (V.int .i64 (Int.ofNat 0)))) <|
 .nil))
 (.seq (.seq (.ops (.op (some 32) .any [8] (.faddr 0 (.tmp 8)) <|
 .op (some 33) (.int .i64) [32] (.load none (.tmp 32)) <|
 .op (some 34) .any [33] (.bin .eql .none (.tmp 33) (.con (V.int .i64 (Int.ofNat 11)))) <|
 .nil))
 (.cond (.tmp 34) (.seq (.draw (.op (some 35) .any [0] (.mov (.tmp 0)) <|
 .op (some 36) .any [35] (.nilck (.tmp 35)) <|
 .op (some 37) .any [36] (.faddr 1 (.tmp 36)) <|
 .op (some 38) (.agg [.str, (.int .i64), .any, .any, .any]) [37] (.load (some 5) (.tmp 37)) <|
 .op (some 39) .any [8] (.faddr 1 (.tmp 8)) <|
 .op (some 40) .str [39] (.load none (.tmp 39)) <|
 .op (some 41) (.int .i64) [38, 40] (.call 100 [(.tmp 38), (.tmp 40)]) <|
 .op (some 11) .any [41] (.mov (.tmp 41)) <|
 .nil) [0, 1, 3, 7, 0, 16, 63, 127])
 (.seq (.seq (.ops (.op (some 42) .any [11] (.mov (.tmp 11)) <|
 .op (some 43) .any [42] (.bin .lss .none (.tmp 42) (.con (V.int .i64 (Int.ofNat 0)))) <|
 .op (some 44) .any [43] (.mov (.tmp 43)) <|
 .grp 44 false (.op (some 45) .any [11, 44] (.mov (.tmp 11)) <|
 .op (some 46) .any [0, 44] (.mov (.tmp 0)) <|
 .op (some 47) .any [46, 44] (.nilck (.tmp 46)) <|
 .op (some 48) .any [47, 44] (.faddr 1 (.tmp 47)) <|
 .op (some 49) .any [48, 44] (.faddr 3 (.tmp 48)) <|
 .op (some 50) .any [49, 44] (.load none (.tmp 49)) <|
 .op (some 51) .any [50, 44] (.len false (.tmp 50)) <|
 .op (some 52) .any [45, 51, 44] (.bin .geq .none (.tmp 45) (.tmp 51)) <|
 .nil) 53 [44, 52] (.tmp 44) (.con (V.bool true)) (.tmp 52) <|
 .nil))
 (.cond (.tmp 53) (.seq (.ops (.op (some 6) .any [] (.mov (.con (V.int .i64 (Int.ofNat 0)))) <|
 .op (some 7) .any [] (.mov (.con (V.int .i64 (Int.ofNat 9)))) <|
 .nil))
 .ret)
 .skip))
 (.ops (.op (some 55) .any [0] (.mov (.tmp 0)) <|
 .op (some 56) .any [0] (.mov (.tmp 0)) <|
 .op (some 57) .any [56] (.nilck (.tmp 56)) <|
 .op (some 58) .any [57] (.faddr 1 (.tmp 57)) <|
 .op (some 59) .any [58] (.faddr 3 (.tmp 58)) <|
 .op (some 60) .any [59] (.load none (.tmp 59)) <|
 .op (some 61) .any [11] (.mov (.tmp 11)) <|
 .op (some 62) .any [60, 61] (.iaddrS 1 (.tmp 60) (.tmp 61)) <|
 .op (some 63) (.int .i64) [62] (.load none (.tmp 62)) <|
 .op (some 64) .any [2] (.mov (.tmp 2)) <|
 .op (some 65) (.tup [(.int .i64), (.int .i64)]) [55, 63, 64] (.call 69 [(.tmp 55), (.tmp 63), (.tmp 64)]) <|
 .op (some 54) .any [65] (.mov (.tmp 65)) <|
 .op (some 66) .any [54] (.extract 0 (.tmp 54)) <|
 .op (some 67) .any [54] (.extract 1 (.tmp 54)) <|
 .op (some 9) .any [66] (.mov (.tmp 66)) <|
 .op (some 10) .any [67] (.mov (.tmp 67)) <|
 .nil))))
 (.ops (.op (some 69) .any [0] (.mov (.tmp 0)) <|
 .op (some 70) (.agg [(.int .i64), .str, .bool, (.int .i64), (.int .i64), .bool, .bool, .bool, .bool, (.int .i64), (.int .i64), .any, .any, (.int .i64), .bool, (.int .i64)]) [8] (.load (some 16) (.tmp 8)) <|
 .op (some 71) .any [2] (.mov (.tmp 2)) <|
 .op (some 72) (.tup [(.int .i64), (.int .i64)]) [69, 70, 71] (.call 101 [(.tmp 69), (.tmp 70), (.tmp 71)]) <|
 .op (some 68) .any [72] (.mov (.tmp 72)) <|
 .op (some 73) .any [68] (.extract 0 (.tmp 68)) <|
 .op (some 74) .any [68] (.extract 1 (.tmp 68)) <|
 .op (some 9) .any [73] (.mov (.tmp 73)) <|
 .op (some 10) .any [74] (.mov (.tmp 74)) <|
 .nil))))
 (.keep [(0, .ptr), (9, (.int .i64)), (10, (.int .i64))] [8] [(8, [(.int .i64), .str, .bool, (.int .i64), (.int .i64), .bool, .bool, .bool, .bool, (.int .i64), (.int .i64), .any, .any, (.int .i64), .bool, (.int .i64)])] cc1)))))))
def C69_1 : XC := (.seq (.seq (.ops (.op (some 75) .any [10] (.mov (.tmp 10)) <|
 .op (some 76) .any [75] (.bin .neq .none (.tmp 75) (.con (V.int .i64 (Int.ofNat 0)))) <|
 .nil))
 (.cond (.tmp 76) (.seq (.ops (.op (some 77) .any [10] (.mov (.tmp 10)) <|
 .op (some 6) .any [] (.mov (.con (V.int .i64 (Int.ofNat 0)))) <|
 .op (some 7) .any [77] (.mov (.tmp 77)) <|
 .nil))
 .ret)
 .skip))
 (.seq (.ops (.op (some 78) .any [9] (.mov (.tmp 9)) <|
 .op (some 79) .any [0] (.mov (.tmp 0)) <|
 .op (some 80) .any [9] (.mov (.tmp 9)) <|
 .op (some 81) .any [8] (.faddr 2 (.tmp 8)) <|
 .op (some 82) (.agg [.bool, (.int .i64), (.int .i64)]) [81] (.load (some 3) (.tmp 81)) <|
 .op (some 83) (.int .i64) [79, 80, 82] (.call 102 [(.tmp 79), (.tmp 80), (.tmp 82)]) <|
 .op (some 6) .any [78] (.mov (.tmp 78)) <|
 .op (some 7) .any [83] (.mov (.tmp 83)) <|
 .nil))
 .ret))
def A69 : XFn := ⟨84, [.ptr, (.int .i64), (.int .i64)], [(.tmp 6), (.tmp 7)], (C69_0 C69_1)⟩
def C70_0 : XC := (.seq (.ops (.op (some 2) .any [] (.mov (.con (V.str ⟨0, 0⟩))) <|
 .nil))
 (.seq (.seq (.ops (.op (some 3) .any [0] (.mov (.tmp 0)) <|
 .nil))
 (.block 0 (.seq (.ops (.op (some 5) .any [3] (.bin .eql .none (.tmp 3) (.con (V.int .i64 (Int.ofNat 0)))) <|
 .op (some 4) .any [5] (.mov (.tmp 5)) <|
 .nil))
 (.cond (.tmp 4) (.seq (.ops (.op (some 2) .any [] (.mov (.con (V.str ⟨14, 655635097218688137868315485820997⟩))) <|
 .nil))
 .ret)
 (.seq (.ops (.op (some 7) .any [3] (.bin .eql .none (.tmp 3) (.con (V.int .i64 (Int.ofNat 1)))) <|
 .op (some 6) .any [7] (.mov (.tmp 7)) <|
 .nil))
 (.cond (.tmp 6) (.seq (.ops (.op (some 2) .any [] (.mov (.con (V.str ⟨14, 655635097218688137868315485818185⟩))) <|
 .nil))
 .ret)
 (.seq (.ops (.op (some 9) .any [3] (.bin .eql .none (.tmp 3) (.con (V.int .i64 (Int.ofNat 2)))) <|
 .op (some 8) .any [9] (.mov (.tmp 9)) <|
 .nil))
 (.cond (.tmp 8) (.seq (.ops (.op (some 2) .any [] (.mov (.con (V.str ⟨15, 167842584887983849704415794096788801⟩))) <|
 .nil))
 .ret)
 .skip))))))))
 (.seq (.ops (.op (some 2) .any [] (.mov (.con (V.str ⟨0, 0⟩))) <|
 .nil))
 .ret)))
def A70 : XFn := ⟨10, [(.int .i64)], [(.tmp 2)], C70_0⟩
def C71_0 (cc1 : XC) (cc2 : XC) : XC := (.seq (.seq (.ops (.op (some 6) .any [1] (.mov (.tmp 1)) <|
 .op (some 7) .any [6] (.len false (.tmp 6)) <|
 .op (some 8) .any [] (.mov (.con (V.int .i64 (Int.ofNat 0)))) <|
 .nil))
 (.block 0 (.loop [(0, .ptr), (6, .any), (7, (.int .i64)), (8, (.int .i64))] [] [] cc2)))
 (.keep [(0, .ptr)] [] [] cc1))
def C71_1 : XC := (.ops (.op (some 22) .any [0] (.mov (.tmp 0)) <|
 .op (some 23) .any [0] (.mov (.tmp 0)) <|
 .op (some 24) .any [23] (.nilck (.tmp 23)) <|
 .op (some 25) .any [24] (.faddr 1 (.tmp 24)) <|
 .op (some 26) .bool [25] (.load none (.tmp 25)) <|
 .op (some 27) .any [26] (.mov (.tmp 26)) <|
 .grp 27 false (.op (some 28) .any [0, 27] (.mov (.tmp 0)) <|
 .op (some 29) .any [28, 27] (.nilck (.tmp 28)) <|
 .op (some 30) .any [29, 27] (.faddr 0 (.tmp 29)) <|
 .op (some 31) .any [30, 27] (.load none (.tmp 30)) <|
 .op (some 32) .any [31, 27] (.len false (.tmp 31)) <|
 .op (some 33) .any [32, 27] (.bin .gtr .none (.tmp 32) (.con (V.int .i64 (Int.ofNat 32000)))) <|
 .nil) 34 [27, 33] (.tmp 27) (.con (V.bool true)) (.tmp 33) <|
 .op (some 35) .any [22] (.nilck (.tmp 22)) <|
 .op (some 36) .any [35] (.faddr 1 (.tmp 35)) <|
 .op none .any [36, 34] (.store 1 (.tmp 36) (.tmp 34)) <|
 .nil))
def C71_2 : XC := (.seq (.ops (.op (some 9) .any [8, 7] (.bin .lss .none (.tmp 8) (.tmp 7)) <|
 .nil))
 (.seq (.cond (.tmp 9) .skip
 (.exit 0))
 (.seq (.block 1 (.seq (.ops (.op (some 10) .any [6, 8] (.iaddrS 1 (.tmp 6) (.tmp 8)) <|
 .op (some 11) .str [10] (.load none (.tmp 10)) <|
 .op (some 5) .any [11] (.mov (.tmp 11)) <|
 .nil))
 (.ops (.op (some 12) .any [0] (.mov (.tmp 0)) <|
 .op (some 13) .any [0] (.mov (.tmp 0)) <|
 .op (some 14) .any [13] (.nilck (.tmp 13)) <|
 .op (some 15) .any [14] (.faddr 0 (.tmp 14)) <|
 .op (some 16) .any [15] (.load none (.tmp 15)) <|
 .op (some 17) .any [5] (.mov (.tmp 5)) <|
 .op (some 18) .one [16, 17] (.append 5 1 1 (.tmp 16) (.tmp 17)) <|
 .op (some 19) .any [12] (.nilck (.tmp 12)) <|
 .op (some 20) .any [19] (.faddr 0 (.tmp 19)) <|
 .op none .any [20, 18] (.store 1 (.tmp 20) (.tmp 18)) <|
 .nil))))
 (.ops (.op (some 21) .any [8] (.bin .add .none (.tmp 8) (.con (V.int .i64 (Int.ofNat 1)))) <|
 .op (some 8) .any [21] (.mov (.tmp 21)) <|
 .nil)))))
def A71 : XFn := ⟨37, [.ptr, .any], [], (C71_0 C71_1 C71_2)⟩
def G72_0 : List AOper := [⟨(some 142), .mov (.tmp 0), none⟩, ⟨(some 143), .nilck (.tmp 142), none⟩, ⟨(some 144), .faddr 0 (.tmp 143), none⟩, ⟨(some 145), .faddr 1 (.tmp 6), none⟩, ⟨(some 146), .load none (.tmp 145), none⟩, ⟨(some 147), .buildSlice 9 1 [(V.str ⟨0, 0⟩)] [(0, 1, (.tmp 146))], none⟩, ⟨(some 148), .call 71 [(.tmp 144), (.tmp 147)], none⟩]
def H72_0 : List DP := [⟨0, [0]⟩, ⟨1, [142]⟩, ⟨3, [143]⟩, ⟨0, [6]⟩, ⟨8, [145]⟩, ⟨24, [146]⟩, ⟨63, [144, 147]⟩]
def C72_0 : XC := (.seq (.seq (.ops (.op (some 7) .any [0] (.mov (.tmp 0)) <|
 .op (some 8) .any [7] (.nilck (.tmp 7)) <|
 .op (some 9) .any [8] (.faddr 0 (.tmp 8)) <|
 .op (some 10) .any [9] (.faddr 1 (.tmp 9)) <|
 .op (some 11) .bool [10] (.load none (.tmp 10)) <|
 .op (some 12) .any [11] (.mov (.tmp 11)) <|
 .grp 12 false (.op (some 13) .any [1, 12] (.mov (.tmp 1)) <|
 .op (some 14) .any [13, 12] (.bin .lss .none (.tmp 13) (.con (V.int .i64 (Int.ofNat 0)))) <|
 .nil) 15 [12, 14] (.tmp 12) (.con (V.bool true)) (.tmp 14) <|
 .op (some 16) .any [15] (.mov (.tmp 15)) <|
 .grp 16 false (.op (some 17) .any [1, 16] (.mov (.tmp 1)) <|
 .op (some 18) .any [0, 16] (.mov (.tmp 0)) <|
 .op (some 19) .any [18, 16] (.nilck (.tmp 18)) <|
 .op (some 20) .any [19, 16] (.faddr 2 (.tmp 19)) <|
 .op (some 21) .any [20, 16] (.faddr 4 (.tmp 20)) <|
 .op (some 22) .any [21, 16] (.load none (.tmp 21)) <|
 .op (some 23) .any [22, 16] (.len false (.tmp 22)) <|
 .op (some 24) .any [17, 23, 16] (.bin .geq .none (.tmp 17) (.tmp 23)) <|
 .nil) 25 [16, 24] (.tmp 16) (.con (V.bool true)) (.tmp 24) <|
 .nil))
 (.cond (.tmp 25) (.seq (.ops (.op (some 26) .any [0] (.mov (.tmp 0)) <|
 .op (some 27) .any [26] (.nilck (.tmp 26)) <|
 .op (some 28) .any [27] (.faddr 0 (.tmp 27)) <|
 .op (some 29) .any [28] (.faddr 1 (.tmp 28)) <|
 .op none .any [29] (.store 1 (.tmp 29) (.con (V.bool true))) <|
 .nil))
 .ret)
 .skip))
 (.seq (.ops (.op (some 30) .any [0] (.mov (.tmp 0)) <|
 .op (some 31) .any [30] (.nilck (.tmp 30)) <|
 .op (some 32) .any [31] (.faddr 2 (.tmp 31)) <|
 .op (some 33) .any [32] (.faddr 4 (.tmp 32)) <|
 .op (some 34) .any [33] (.load none (.tmp 33)) <|
 .op (some 35) .any [1] (.mov (.tmp 1)) <|
 .op (some 36) .any [34, 35] (.iaddrS 16 (.tmp 34) (.tmp 35)) <|
 .op (some 37) (.agg [(.int .i64), .str, .bool, (.int .i64), (.int .i64), .bool, .bool, .bool, .bool, (.int .i64), (.int .i64), .any, .any, (.int .i64), .bool, (.int .i64)]) [36] (.load (some 16) (.tmp 36)) <|
 .op (some 6) .any [] (.alloc 203 [(V.int .i64 (Int.ofNat 0)), (V.str ⟨0, 0⟩), (V.bool false), (V.int .i64 (Int.ofNat 0)), (V.int .i64 (Int.ofNat 0)), (V.bool false), (V.bool false), (V.bool false), (V.bool false), (V.int .i64 (Int.ofNat 0)), (V.int .i64 (Int.ofNat 0)), V.nils, V.nils, (V.int .i64 (Int.ofNat 0)), (V.bool false), (V.int .i64 (Int.ofNat 0))]) <|
 .op none (.agg [(.int .i64), .str, .bool, (.int .i64), (.int .i64), .bool, .bool, .bool, .bool, (.int .i64), (.int .i64), .any, .any, (.int .i64), .bool, (.int .i64)]) [6, 37] (.store 16 (.tmp 6) (.tmp 37)) <|
 .nil))
 (.seq (.ops (.op (some 38) .any [0] (.mov (.tmp 0)) <|
 .op (some 39) .any [6] (.faddr 2 (.tmp 6)) <|
 .op (some 40) (.agg [.bool, (.int .i64), (.int .i64)]) [39] (.load (some 3) (.tmp 39)) <|
 .op (some 41) (.tup []) [38, 40] (.call 103 [(.tmp 38), (.tmp 40)]) <|
 .nil))
 (.seq (.ops (.op (some 42) .any [6] (.faddr 0 (.tmp 6)) <|
 .op (some 43) (.int .i64) [42] (.load none (.tmp 42)) <|
 .nil))
 (.block 0 (.seq (.ops (.op (some 49) .any [43] (.bin .eql .none (.tmp 43) (.con (V.int .i64 (Int.ofNat 1)))) <|
 .op (some 48) .any [49] (.mov (.tmp 49)) <|
 .nil))
 (.cond (.tmp 48) (.ops (.op (some 50) .any [0] (.mov (.tmp 0)) <|
 .op (some 51) .any [50] (.nilck (.tmp 50)) <|
 .op (some 52) .any [51] (.faddr 0 (.tmp 51)) <|
 .op (some 53) .any [] (.buildSlice 9 1 [(V.str ⟨0, 0⟩)] [(0, 1, (.con (V.str ⟨7, 22026814072246082⟩)))]) <|
 .op (some 54) (.tup []) [52, 53] (.call 71 [(.tmp 52), (.tmp 53)]) <|
 .nil))
 (.seq (.ops (.op (some 56) .any [43] (.bin .eql .none (.tmp 43) (.con (V.int .i64 (Int.ofNat 4)))) <|
 .op (some 55) .any [56] (.mov (.tmp 56)) <|
 .nil))
 (.cond (.tmp 55) (.ops (.op (some 57) .any [0] (.mov (.tmp 0)) <|
 .op (some 58) .any [57] (.nilck (.tmp 57)) <|
 .op (some 59) .any [58] (.faddr 0 (.tmp 58)) <|
 .op (some 60) .any [] (.buildSlice 9 1 [(V.str ⟨0, 0⟩)] [(0, 1, (.con (V.str ⟨4, 1280070990⟩)))]) <|
 .op (some 61) (.tup []) [59, 60] (.call 71 [(.tmp 59), (.tmp 60)]) <|
 .nil))
 (.seq (.ops (.op (some 63) .any [43] (.bin .eql .none (.tmp 43) (.con (V.int .i64 (Int.ofNat 2)))) <|
 .op (some 62) .any [63] (.mov (.tmp 63)) <|
 .nil))
 (.cond (.tmp 62) (.seq (.ops (.op (some 64) .any [0] (.mov (.tmp 0)) <|
 .op (some 65) .any [64] (.nilck (.tmp 64)) <|
 .op (some 66) .any [65] (.faddr 0 (.tmp 65)) <|
 .op (some 67) .any [] (.buildSlice 9 1 [(V.str ⟨0, 0⟩)] [(0, 1, (.con (V.str ⟨7, 23157120498421321⟩)))]) <|
 .op (some 68) (.tup []) [66, 67] (.call 71 [(.tmp 66), (.tmp 67)]) <|
 .nil))
 (.ops (.op (some 69) .any [0] (.mov (.tmp 0)) <|
 .op (some 70) .any [6] (.faddr 5 (.tmp 6)) <|
 .op (some 71) (.agg [.bool, .bool, .bool, .bool, (.int .i64), (.int .i64)]) [70] (.load (some 6) (.tmp 70)) <|
 .op (some 72) (.tup []) [69, 71] (.call 104 [(.tmp 69), (.tmp 71), (.con (V.str ⟨2, 10272⟩)), (.con (V.str ⟨1, 41⟩))]) <|
 .nil)))
 (.seq (.ops (.op (some 74) .any [43] (.bin .eql .none (.tmp 43) (.con (V.int .i64 (Int.ofNat 5)))) <|
 .op (some 73) .any [74] (.mov (.tmp 74)) <|
 .nil))
 (.cond (.tmp 73) (.seq (.ops (.op (some 75) .any [0] (.mov (.tmp 0)) <|
 .op (some 76) .any [75] (.nilck (.tmp 75)) <|
 .op (some 77) .any [76] (.faddr 0 (.tmp 76)) <|
 .op (some 78) .any [] (.buildSlice 9 1 [(V.str ⟨0, 0⟩)] [(0, 1, (.con (V.str ⟨12, 22068078162707940351935791951⟩)))]) <|
 .op (some 79) (.tup []) [77, 78] (.call 71 [(.tmp 77), (.tmp 78)]) <|
 .nil))
 (.ops (.op (some 80) .any [0] (.mov (.tmp 0)) <|
 .op (some 81) .any [6] (.faddr 5 (.tmp 6)) <|
 .op (some 82) (.agg [.bool, .bool, .bool, .bool, (.int .i64), (.int .i64)]) [81] (.load (some 6) (.tmp 81)) <|
 .op (some 83) (.tup []) [80, 82] (.call 104 [(.tmp 80), (.tmp 82), (.con (V.str ⟨8, 2891387214851418144⟩)), (.con (V.str ⟨2, 10537⟩))]) <|
 .nil)))
 (.seq (.ops (.op (some 85) .any [43] (.bin .eql .none (.tmp 43) (.con (V.int .i64 (Int.ofNat 6)))) <|
 .op (some 84) .any [85] (.mov (.tmp 85)) <|
 .nil))
 (.cond (.tmp 84) (.seq (.ops (.op (some 86) .any [0] (.mov (.tmp 0)) <|
 .op (some 87) .any [86] (.nilck (.tmp 86)) <|
 .op (some 88) .any [87] (.faddr 0 (.tmp 87)) <|
 .op (some 89) .any [] (.buildSlice 9 1 [(V.str ⟨0, 0⟩)] [(0, 1, (.con (V.str ⟨10, 488440487847103610377301⟩)))]) <|
 .op (some 90) (.tup []) [88, 89] (.call 71 [(.tmp 88), (.tmp 89)]) <|
 .nil))
 (.ops (.op (some 91) .any [0] (.mov (.tmp 0)) <|
 .op (some 92) .any [6] (.faddr 5 (.tmp 6)) <|
 .op (some 93) (.agg [.bool, .bool, .bool, .bool, (.int .i64), (.int .i64)]) [92] (.load (some 6) (.tmp 92)) <|
 .op (some 94) (.tup []) [91, 93] (.call 104 [(.tmp 91), (.tmp 93), (.con (V.str ⟨8, 2891387214851418144⟩)), (.con (V.str ⟨2, 10537⟩))]) <|
 .nil)))
 (.seq (.ops (.op (some 96) .any [43] (.bin .eql .none (.tmp 43) (.con (V.int .i64 (Int.ofNat 3)))) <|
 .op (some 95) .any [96] (.mov (.tmp 96)) <|
 .nil))
 (.cond (.tmp 95) (.ops (.op (some 97) .any [0] (.mov (.tmp 0)) <|
 .op (some 98) (.agg [(.int .i64), .str, .bool, (.int .i64), (.int .i64), .bool, .bool, .bool, .bool, (.int .i64), (.int .i64), .any, .any, (.int .i64), .bool, (.int .i64)]) [6] (.load (some 16) (.tmp 6)) <|
 .op (some 99) (.tup []) [97, 98] (.call 105 [(.tmp 97), (.tmp 98)]) <|
 .nil))
 (.seq (.ops (.op (some 101) .any [43] (.bin .eql .none (.tmp 43) (.con (V.int .i64 (Int.ofNat 7)))) <|
 .op (some 100) .any [101] (.mov (.tmp 101)) <|
 .nil))
 (.cond (.tmp 100) (.ops (.op (some 102) .any [0] (.mov (.tmp 0)) <|
 .op (some 103) (.agg [(.int .i64), .str, .bool, (.int .i64), (.int .i64), .bool, .bool, .bool, .bool, (.int .i64), (.int .i64), .any, .any, (.int .i64), .bool, (.int .i64)]) [6] (.load (some 16) (.tmp 6)) <|
 .op (some 104) .any [2] (.mov (.tmp 2)) <|
 .op (some 105) (.tup []) [102, 103, 104] (.call 106 [(.tmp 102), (.con (V.str ⟨8, 4990918871747741011⟩)), (.tmp 103), (.tmp 104)]) <|
 .nil))
 (.seq (.ops (.op (some 107) .any [43] (.bin .eql .none (.tmp 43) (.con (V.int .i64 (Int.ofNat 8)))) <|
 .op (some 106) .any [107] (.mov (.tmp 107)) <|
 .nil))
 (.cond (.tmp 106) (.ops (.op (some 108) .any [0] (.mov (.tmp 0)) <|
 .op (some 109) (.agg [(.int .i64), .str, .bool, (.int .i64), (.int .i64), .bool, .bool, .bool, .bool, (.int .i64), (.int .i64), .any, .any, (.int .i64), .bool, (.int .i64)]) [6] (.load (some 16) (.tmp 6)) <|
 .op (some 110) .any [2] (.mov (.tmp 2)) <|
 .op (some 111) (.tup []) [108, 109, 110] (.call 106 [(.tmp 108), (.con (V.str ⟨3, 5522771⟩)), (.tmp 109), (.tmp 110)]) <|
 .nil))
 (.seq (.ops (.op (some 113) .any [43] (.bin .eql .none (.tmp 43) (.con (V.int .i64 (Int.ofNat 9)))) <|
 .op (some 112) .any [113] (.mov (.tmp 113)) <|
 .nil))
 (.cond (.tmp 112) (.ops (.op (some 114) .any [0] (.mov (.tmp 0)) <|
 .op (some 115) (.agg [(.int .i64), .str, .bool, (.int .i64), (.int .i64), .bool, .bool, .bool, .bool, (.int .i64), (.int .i64), .any, .any, (.int .i64), .bool, (.int .i64)]) [6] (.load (some 16) (.tmp 6)) <|
 .op (some 116) .any [2] (.mov (.tmp 2)) <|
 .op (some 117) (.tup []) [114, 115, 116] (.call 106 [(.tmp 114), (.con (V.str ⟨6, 76155295057987⟩)), (.tmp 115), (.tmp 116)]) <|
 .nil))
 (.seq (.ops (.op (some 119) .any [43] (.bin .eql .none (.tmp 43) (.con (V.int .i64 (Int.ofNat 10)))) <|
 .op (some 118) .any [119] (.mov (.tmp 119)) <|
 .nil))
 (.cond (.tmp 118) (.seq (.ops (.op (some 120) .any [0] (.mov (.tmp 0)) <|
 .op (some 121) .any [120] (.nilck (.tmp 120)) <|
 .op (some 122) .any [121] (.faddr 0 (.tmp 121)) <|
 .op (some 123) .any [] (.buildSlice 9 1 [(V.str ⟨0, 0⟩)] [(0, 1, (.con (V.str ⟨9, 595286729230453392723⟩)))]) <|
 .op (some 124) (.tup []) [122, 123] (.call 71 [(.tmp 122), (.tmp 123)]) <|
 .nil))
 (.seq (.ops (.op (some 125) .any [0] (.mov (.tmp 0)) <|
 .op (some 126) .any [6] (.faddr 5 (.tmp 6)) <|
 .op (some 127) (.agg [.bool, .bool, .bool, .bool, (.int .i64), (.int .i64)]) [126] (.load (some 6) (.tmp 126)) <|
 .op (some 128) (.tup []) [125, 127] (.call 104 [(.tmp 125), (.tmp 127), (.con (V.str ⟨7, 11294481308013352⟩)), (.con (V.str ⟨3, 2107689⟩))]) <|
 .nil))
 (.seq (.ops (.op (some 129) .any [0] (.mov (.tmp 0)) <|
 .op (some 130) .any [129] (.nilck (.tmp 129)) <|
 .op (some 131) .any [130] (.faddr 0 (.tmp 130)) <|
 .op (some 132) .any [] (.buildSlice 9 1 [(V.str ⟨0, 0⟩)] [(0, 1, (.con (V.str ⟨3, 2115151⟩)))]) <|
 .op (some 133) (.tup []) [131, 132] (.call 71 [(.tmp 131), (.tmp 132)]) <|
 .nil))
 (.ops (.op (some 134) .any [0] (.mov (.tmp 0)) <|
 .op (some 135) .any [6] (.faddr 15 (.tmp 6)) <|
 .op (some 136) (.int .i64) [135] (.load none (.tmp 135)) <|
 .op (some 137) .any [2] (.mov (.tmp 2)) <|
 .op (some 138) .any [137] (.bin .add .none (.tmp 137) (.con (V.int .i64 (Int.ofNat 1)))) <|
 .op (some 139) (.tup []) [134, 136, 138] (.call 72 [(.tmp 134), (.tmp 136), (.tmp 138)]) <|
 .nil)))))
 (.seq (.ops (.op (some 141) .any [43] (.bin .eql .none (.tmp 43) (.con (V.int .i64 (Int.ofNat 11)))) <|
 .op (some 140) .any [141] (.mov (.tmp 141)) <|
 .nil))
 (.cond (.tmp 140) (.keep [(0, .ptr), (6, .ptr)] [] [] (.gdraw G72_0 H72_0 []))
 (.ops (.op (some 44) .any [0] (.mov (.tmp 0)) <|
 .op (some 45) .any [44] (.nilck (.tmp 44)) <|
 .op (some 46) .any [45] (.faddr 0 (.tmp 45)) <|
 .op (some 47) .any [46] (.faddr 1 (.tmp 46)) <|
 .op none .any [47] (.store 1 (.tmp 47) (.con (V.bool true))) <|
 .nil)))))))))))))))))))))))))))))
def A72 : XFn := ⟨149, [.ptr, (.int .i64), (.int .i64)], [], C72_0⟩
def C73_0 (cc1 : XC) (cc2 : XC) : XC := (.seq (.ops (.op (some 4) .any [] (.mov (.con (V.int .i64 (Int.ofNat 0)))) <|
 .nil))
 (.seq (.seq (.ops (.op (some 6) .any [0] (.mov (.tmp 0)) <|
 .op (some 7) .any [6] (.len false (.tmp 6)) <|
 .op (some 8) .any [] (.mov (.con (V.int .i64 (Int.ofNat 0)))) <|
 .nil))
 (.block 0 (.loop [(0, .any), (1, .any), (7, (.int .i64)), (8, (.int .i64))] [] [] cc2)))
 (.keep [] [] [] cc1)))
def C73_1 : XC := (.seq (.ops (.op (some 4) .any [] (.mov (.con (V.int .i64 (Int.negSucc 0)))) <|
 .nil))
 .ret)
def C73_2 : XC := (.seq (.ops (.op (some 9) .any [8, 7] (.bin .lss .none (.tmp 8) (.tmp 7)) <|
 .nil))
 (.seq (.cond (.tmp 9) .skip
 (.exit 0))
 (.seq (.block 1 (.seq (.ops (.op (some 10) .any [8] (.mov (.tmp 8)) <|
 .op (some 5) .any [10] (.mov (.tmp 10)) <|
 .nil))
 (.seq (.ops (.op (some 11) .any [1] (.mov (.tmp 1)) <|
 .op (some 12) .any [0] (.mov (.tmp 0)) <|
 .op (some 13) .any [5] (.mov (.tmp 5)) <|
 .op (some 14) .any [12, 13] (.iaddrS 6 (.tmp 12) (.tmp 13)) <|
 .op (some 15) (.agg [(.int .i64), .str, .str, .any, .any, .any]) [14] (.load (some 6) (.tmp 14)) <|
 .op (some 16) .bool [11, 15] (.callv (.tmp 11) [(.tmp 15)]) <|
 .nil))
 (.cond (.tmp 16) (.seq (.ops (.op (some 17) .any [5] (.mov (.tmp 5)) <|
 .op (some 4) .any [17] (.mov (.tmp 17)) <|
 .nil))
 .ret)
 .skip))))
 (.ops (.op (some 18) .any [8] (.bin .add .none (.tmp 8) (.con (V.int .i64 (Int.ofNat 1)))) <|
 .op (some 8) .any [18] (.mov (.tmp 18)) <|
 .nil)))))
def A73 : XFn := ⟨19, [.any, .any], [(.tmp 4)], (C73_0 C73_1 C73_2)⟩
def C74_0 : XC := (.seq (.ops (.op (some 4) .any [0] (.box 50 (.tmp 0)) <|
 .op (some 6) .any [2] (.box 50 (.tmp 2)) <|
 .op (some 8) .any [] (.mov (.con (V.bool false))) <|
 .nil))
 (.seq (.ops (.op (some 10) (.agg [.str, .any, .any, .any]) [4] (.load (some 4) (.tmp 4)) <|
 .op (some 11) (.agg [.str, .any, .any, .any]) [6] (.load (some 4) (.tmp 6)) <|
 .op (some 12) (.agg [.str, .any, .any, .any, .str, .any, .any, .any]) [10, 11] (.build [(V.str ⟨0, 0⟩), V.nils, V.nils, V.nils, (V.str ⟨0, 0⟩), V.nils, V.nils, V.nils] [(0, 4, (.tmp 10)), (4, 4, (.tmp 11))]) <|
 .op (some 13) (.agg [.str, .any, .any, .any, .str, .any, .any, .any, (.int .i64)]) [12] (.build [(V.str ⟨0, 0⟩), V.nils, V.nils, V.nils, (V.str ⟨0, 0⟩), V.nils, V.nils, V.nils, (V.int .i64 (Int.ofNat 0))] [(0, 8, (.tmp 12)), (8, 1, (.con (V.int .i64 (Int.ofNat 300))))]) <|
 .op (some 14) .any [13] (.box 216 (.tmp 13)) <|
 .op (some 9) .any [14] (.mov (.tmp 14)) <|
 .nil))
 (.seq (.ops (.op (some 15) .any [9] (.mov (.tmp 9)) <|
 .op (some 16) .any [1] (.mov (.tmp 1)) <|
 .op (some 17) .any [3] (.mov (.tmp 3)) <|
 .op (some 18) .bool [15, 16, 17] (.call 107 [(.tmp 15), (.tmp 16), (.tmp 17)]) <|
 .op (some 8) .any [18] (.mov (.tmp 18)) <|
 .nil))
 .ret)))
def A74 : XFn := ⟨19, [(.agg [.str, .any, .any, .any]), (.int .i64), (.agg [.str, .any, .any, .any]), (.int .i64)], [(.tmp 8)], C74_0⟩
def C75_0 : XC := (.seq (.ops (.op (some 2) .any [0] (.box 50 (.tmp 0)) <|
 .op (some 4) .any [] (.mov (.con (V.int .i64 (Int.ofNat 0)))) <|
 .nil))
 (.seq (.ops (.op (some 6) .any [2] (.faddr 1 (.tmp 2)) <|
 .op (some 7) .any [6] (.load none (.tmp 6)) <|
 .op (some 8) .any [1] (.mov (.tmp 1)) <|
 .op (some 9) (.int .i64) [7, 8] (.call 108 [(.tmp 7), (.tmp 8)]) <|
 .op (some 5) .any [9] (.mov (.tmp 9)) <|
 .nil))
 (.seq (.seq (.ops (.op (some 10) .any [5] (.mov (.tmp 5)) <|
 .op (some 11) .any [10] (.bin .lss .none (.tmp 10) (.con (V.int .i64 (Int.ofNat 0)))) <|
 .op (some 12) .any [11] (.mov (.tmp 11)) <|
 .grp 12 false (.op (some 13) .any [5, 12] (.mov (.tmp 5)) <|
 .op (some 14) .any [2, 12] (.faddr 2 (.tmp 2)) <|
 .op (some 15) .any [14, 12] (.load none (.tmp 14)) <|
 .op (some 16) .any [15, 12] (.len false (.tmp 15)) <|
 .op (some 17) .any [13, 16, 12] (.bin .geq .none (.tmp 13) (.tmp 16)) <|
 .nil) 18 [12, 17] (.tmp 12) (.con (V.bool true)) (.tmp 17) <|
 .nil))
 (.cond (.tmp 18) (.seq (.ops (.op (some 4) .any [] (.mov (.con (V.int .i64 (Int.negSucc 0)))) <|
 .nil))
 .ret)
 .skip))
 (.seq (.ops (.op (some 19) .any [2] (.faddr 2 (.tmp 2)) <|
 .op (some 20) .any [19] (.load none (.tmp 19)) <|
 .op (some 21) .any [5] (.mov (.tmp 5)) <|
 .op (some 22) .any [20, 21] (.iaddrS 1 (.tmp 20) (.tmp 21)) <|
 .op (some 23) (.int .i64) [22] (.load none (.tmp 22)) <|
 .op (some 4) .any [23] (.mov (.tmp 23)) <|
 .nil))
 .ret))))
def A75 : XFn := ⟨24, [(.agg [.str, .any, .any, .any]), .str], [(.tmp 4)], C75_0⟩
def C76_0 (cc1 : XC) (cc2 : XC) : XC := (.seq (.ops (.op (some 6) .any [] (.mov (.con (V.int .i64 (Int.ofNat 0)))) <|
 .op (some 7) .any [] (.mov (.con (V.bool false))) <|
 .nil))
 (.seq (.ops (.op (some 12) .any [0] (.mov (.tmp 0)) <|
 .op (some 13) .any [12] (.len false (.tmp 12)) <|
 .op (some 8) .any [13] (.mov (.tmp 13)) <|
 .nil))
 (.seq (.ops (.op (some 14) .any [8] (.mov (.tmp 8)) <|
 .op (some 9) .any [] (.mov (.con (V.int .i64 (Int.ofNat 0)))) <|
 .op (some 10) .any [14] (.mov (.tmp 14)) <|
 .nil))
 (.seq (.block 0 (.loop [(0, .any), (1, .str), (2, .any), (8, (.int .i64)), (9, (.int .i64)), (10, (.int .i64))] [] [] cc2))
 (.keep [(0, .any), (1, .str), (2, .any), (8, (.int .i64)), (9, (.int .i64))] [] [] cc1)))))
def C76_1 : XC := (.seq (.ops (.op (some 35) .any [9] (.mov (.tmp 9)) <|
 .op (some 36) .any [9] (.mov (.tmp 9)) <|
 .op (some 37) .any [8] (.mov (.tmp 8)) <|
 .op (some 38) .any [36, 37] (.bin .lss .none (.tmp 36) (.tmp 37)) <|
 .op (some 39) .any [38] (.mov (.tmp 38)) <|
 .grp 39 true (.op (some 40) .any [2, 39] (.mov (.tmp 2)) <|
 .op (some 41) .any [0, 39] (.mov (.tmp 0)) <|
 .op (some 42) .any [9, 39] (.mov (.tmp 9)) <|
 .op (some 43) .any [41, 42, 39] (.iaddrS 2 (.tmp 41) (.tmp 42)) <|
 .op (some 44) (.agg [.str, .any]) [43, 39] (.load (some 2) (.tmp 43)) <|
 .op (some 45) .any [1, 39] (.mov (.tmp 1)) <|
 .op (some 46) (.int .i64) [40, 44, 45, 39] (.callv (.tmp 40) [(.tmp 44), (.tmp 45)]) <|
 .op (some 47) .any [46, 39] (.bin .eql .none (.tmp 46) (.con (V.int .i64 (Int.ofNat 0)))) <|
 .nil) 48 [39, 47] (.tmp 39) (.tmp 47) (.con (V.bool false)) <|
 .op (some 6) .any [35] (.mov (.tmp 35)) <|
 .op (some 7) .any [48] (.mov (.tmp 48)) <|
 .nil))
 .ret)
def C76_2 : XC := (.seq (.seq (.ops (.op (some 15) .any [9] (.mov (.tmp 9)) <|
 .op (some 16) .any [10] (.mov (.tmp 10)) <|
 .op (some 17) .any [15, 16] (.bin .lss .none (.tmp 15) (.tmp 16)) <|
 .nil))
 (.cond (.tmp 17) .skip
 (.exit 0)))
 (.block 1 (.seq (.ops (.op (some 18) .any [9] (.mov (.tmp 9)) <|
 .op (some 19) .any [10] (.mov (.tmp 10)) <|
 .op (some 20) .any [18, 19] (.bin .add .none (.tmp 18) (.tmp 19)) <|
 .op (some 21) .any [20] (.conv (.toInt .u64) (.tmp 20)) <|
 .op (some 22) .any [21] (.bin .shr .none (.tmp 21) (.con (V.int .u64 (Int.ofNat 1)))) <|
 .op (some 23) .any [22] (.conv (.toInt .i64) (.tmp 22)) <|
 .op (some 11) .any [23] (.mov (.tmp 23)) <|
 .nil))
 (.seq (.ops (.op (some 24) .any [2] (.mov (.tmp 2)) <|
 .op (some 25) .any [0] (.mov (.tmp 0)) <|
 .op (some 26) .any [11] (.mov (.tmp 11)) <|
 .op (some 27) .any [25, 26] (.iaddrS 2 (.tmp 25) (.tmp 26)) <|
 .op (some 28) (.agg [.str, .any]) [27] (.load (some 2) (.tmp 27)) <|
 .op (some 29) .any [1] (.mov (.tmp 1)) <|
 .op (some 30) (.int .i64) [24, 28, 29] (.callv (.tmp 24) [(.tmp 28), (.tmp 29)]) <|
 .op (some 31) .any [30] (.bin .lss .none (.tmp 30) (.con (V.int .i64 (Int.ofNat 0)))) <|
 .nil))
 (.cond (.tmp 31) (.ops (.op (some 32) .any [11] (.mov (.tmp 11)) <|
 .op (some 33) .any [32] (.bin .add .none (.tmp 32) (.con (V.int .i64 (Int.ofNat 1)))) <|
 .op (some 9) .any [33] (.mov (.tmp 33)) <|
 .nil))
 (.ops (.op (some 34) .any [11] (.mov (.tmp 11)) <|
 .op (some 10) .any [34] (.mov (.tmp 34)) <|
 .nil)))))))
def A76 : XFn := ⟨49, [.any, .str, .any], [(.tmp 6), (.tmp 7)], (C76_0 C76_1 C76_2)⟩
def C77_0 : XC := (.seq (.ops (.op (some 2) .any [0] (.box 84 (.tmp 0)) <|
 .op (some 4) .any [] (.mov (.con (V.int .i64 (Int.ofNat 0)))) <|
 .nil))
 (.seq (.ops (.op (some 5) .any [2] (.faddr 0 (.tmp 2)) <|
 .op (some 6) .str [5] (.load none (.tmp 5)) <|
 .op (some 7) .any [1] (.mov (.tmp 1)) <|
 .op (some 8) (.int .i64) [6, 7] (.call 78 [(.tmp 6), (.tmp 7)]) <|
 .op (some 4) .any [8] (.mov (.tmp 8)) <|
 .nil))
 .ret))
def A77 : XFn := ⟨9, [(.agg [.str, .any]), .str], [(.tmp 4)], C77_0⟩
def C78_0 : XC := (.seq (.ops (.op (some 4) .any [] (.mov (.con (V.int .i64 (Int.ofNat 0)))) <|
 .nil))
 (.seq (.ops (.op (some 7) .any [0] (.mov (.tmp 0)) <|
 .op (some 8) .bool [7] (.call 109 [(.tmp 7)]) <|
 .op (some 5) .any [8] (.mov (.tmp 8)) <|
 .nil))
 (.seq (.ops (.op (some 9) .any [1] (.mov (.tmp 1)) <|
 .op (some 10) .bool [9] (.call 109 [(.tmp 9)]) <|
 .op (some 6) .any [10] (.mov (.tmp 10)) <|
 .nil))
 (.seq (.seq (.ops (.op (some 11) .any [5] (.mov (.tmp 5)) <|
 .nil))
 (.cond (.tmp 11) (.seq (.seq (.ops (.op (some 12) .any [6] (.mov (.tmp 6)) <|
 .nil))
 (.cond (.tmp 12) (.seq (.ops (.op (some 4) .any [] (.mov (.con (V.int .i64 (Int.ofNat 0)))) <|
 .nil))
 .ret)
 .skip))
 (.seq (.ops (.op (some 4) .any [] (.mov (.con (V.int .i64 (Int.negSucc 0)))) <|
 .nil))
 .ret))
 .skip))
 (.seq (.seq (.ops (.op (some 13) .any [6] (.mov (.tmp 6)) <|
 .nil))
 (.cond (.tmp 13) (.seq (.ops (.op (some 4) .any [] (.mov (.con (V.int .i64 (Int.ofNat 1)))) <|
 .nil))
 .ret)
 .skip))
 (.seq (.seq (.ops (.op (some 14) .any [0] (.mov (.tmp 0)) <|
 .op (some 15) .any [1] (.mov (.tmp 1)) <|
 .op (some 16) .any [14, 15] (.bin .lss .none (.tmp 14) (.tmp 15)) <|
 .nil))
 (.cond (.tmp 16) (.seq (.ops (.op (some 4) .any [] (.mov (.con (V.int .i64 (Int.negSucc 0)))) <|
 .nil))
 .ret)
 .skip))
 (.seq (.seq (.ops (.op (some 17) .any [0] (.mov (.tmp 0)) <|
 .op (some 18) .any [1] (.mov (.tmp 1)) <|
 .op (some 19) .any [17, 18] (.bin .gtr .none (.tmp 17) (.tmp 18)) <|
 .nil))
 (.cond (.tmp 19) (.seq (.ops (.op (some 4) .any [] (.mov (.con (V.int .i64 (Int.ofNat 1)))) <|
 .nil))
 .ret)
 .skip))
 (.seq (.ops (.op (some 4) .any [] (.mov (.con (V.int .i64 (Int.ofNat 0)))) <|
 .nil))
 .ret))))))))
def A78 : XFn := ⟨20, [.str, .str], [(.tmp 4)], C78_0⟩
def C87_0 (cc1 : XC) : XC := (.block 0 (.loop [(0, .ptr)] [] [] cc1))
def C87_1 (cc2 : XC) (cc3 : XC) : XC := (.seq (.seq (.draw (.op (some 3) .any [0] (.mov (.tmp 0)) <|
 .op (some 4) .any [3] (.nilck (.tmp 3)) <|
 .op (some 5) .any [4] (.faddr 1 (.tmp 4)) <|
 .op (some 6) (.int .i64) [5] (.load none (.tmp 5)) <|
 .op (some 7) .any [0] (.mov (.tmp 0)) <|
 .op (some 8) .any [7] (.nilck (.tmp 7)) <|
 .op (some 9) .any [8] (.faddr 0 (.tmp 8)) <|
 .op (some 10) .str [9] (.load none (.tmp 9)) <|
 .op (some 11) .any [10] (.len true (.tmp 10)) <|
 .op (some 12) .any [6, 11] (.bin .lss .none (.tmp 6) (.tmp 11)) <|
 .nil) [0, 1, 3, 7, 0, 16, 48, 112, 240, 511])
 (.cond (.tmp 12) .skip
 (.exit 0)))
 (.block 1 (.seq (.ops (.op (some 13) .any [0] (.mov (.tmp 0)) <|
 .op (some 14) (.int .u8) [13] (.call 115 [(.tmp 13), (.con (V.int .i64 (Int.ofNat 0)))]) <|
 .op (some 2) .any [14] (.mov (.tmp 14)) <|
 .nil))
 (.block 2 (.seq (.ops (.op (some 16) .any [2] (.mov (.tmp 2)) <|
 .op (some 17) .any [16] (.bin .eql .none (.tmp 16) (.con (V.int .u8 (Int.ofNat 32)))) <|
 .op (some 18) .any [17] (.mov (.tmp 17)) <|
 .grp 18 false (.op (some 19) .any [2, 18] (.mov (.tmp 2)) <|
 .op (some 20) .any [19, 18] (.bin .eql .none (.tmp 19) (.con (V.int .u8 (Int.ofNat 9)))) <|
 .nil) 21 [18, 20] (.tmp 18) (.con (V.bool true)) (.tmp 20) <|
 .op (some 22) .any [21] (.mov (.tmp 21)) <|
 .grp 22 false (.op (some 23) .any [2, 22] (.mov (.tmp 2)) <|
 .op (some 24) .any [23, 22] (.bin .eql .none (.tmp 23) (.con (V.int .u8 (Int.ofNat 10)))) <|
 .nil) 25 [22, 24] (.tmp 22) (.con (V.bool true)) (.tmp 24) <|
 .op (some 26) .any [25] (.mov (.tmp 25)) <|
 .grp 26 false (.op (some 27) .any [2, 26] (.mov (.tmp 2)) <|
 .op (some 28) .any [27, 26] (.bin .eql .none (.tmp 27) (.con (V.int .u8 (Int.ofNat 13)))) <|
 .nil) 29 [26, 28] (.tmp 26) (.con (V.bool true)) (.tmp 28) <|
 .op (some 15) .any [29] (.mov (.tmp 29)) <|
 .nil))
 (.cond (.tmp 15) (.ops (.op (some 30) .any [0] (.mov (.tmp 0)) <|
 .op (some 31) .any [30] (.nilck (.tmp 30)) <|
 .op (some 32) .any [31] (.faddr 1 (.tmp 31)) <|
 .op (some 33) (.int .i64) [32] (.load none (.tmp 32)) <|
 .op (some 34) .any [33] (.bin .add .none (.tmp 33) (.con (V.int .i64 (Int.ofNat 1)))) <|
 .op (some 35) .any [30] (.nilck (.tmp 30)) <|
 .op (some 36) .any [35] (.faddr 1 (.tmp 35)) <|
 .op none .any [36, 34] (.store 1 (.tmp 36) (.tmp 34)) <|
 .nil))
 (.seq (.ops (.op (some 38) .any [0] (.mov (.tmp 0)) <|
 .op (some 39) .bool [38] (.call 116 [(.tmp 38), (.con (V.str ⟨2, 11565⟩))]) <|
 .op (some 37) .any [39] (.mov (.tmp 39)) <|
 .nil))
 (.cond (.tmp 37) (.seq (.ops (.op (some 40) .any [0] (.mov (.tmp 0)) <|
 .op (some 41) .any [40] (.nilck (.tmp 40)) <|
 .op (some 42) .any [41] (.faddr 1 (.tmp 41)) <|
 .op (some 43) (.int .i64) [42] (.load none (.tmp 42)) <|
 .op (some 44) .any [43] (.bin .add .none (.tmp 43) (.con (V.int .i64 (Int.ofNat 2)))) <|
 .op (some 45) .any [40] (.nilck (.tmp 40)) <|
 .op (some 46) .any [45] (.faddr 1 (.tmp 45)) <|
 .op none .any [46, 44] (.store 1 (.tmp 46) (.tmp 44)) <|
 .nil))
 (.seq (.block 3 (.loop [(0, .ptr)] [] [] cc3))
 (.keep [(0, .ptr)] [] [] cc2)))
 .ret))))))))
def C87_2 : XC := (.seq (.ops (.op (some 74) .any [0] (.mov (.tmp 0)) <|
 .op (some 75) .bool [74] (.call 116 [(.tmp 74), (.con (V.str ⟨2, 11565⟩))]) <|
 .nil))
 (.cond (.tmp 75) (.ops (.op (some 76) .any [0] (.mov (.tmp 0)) <|
 .op (some 77) .any [76] (.nilck (.tmp 76)) <|
 .op (some 78) .any [77] (.faddr 1 (.tmp 77)) <|
 .op (some 79) (.int .i64) [78] (.load none (.tmp 78)) <|
 .op (some 80) .any [79] (.bin .add .none (.tmp 79) (.con (V.int .i64 (Int.ofNat 2)))) <|
 .op (some 81) .any [76] (.nilck (.tmp 76)) <|
 .op (some 82) .any [81] (.faddr 1 (.tmp 81)) <|
 .op none .any [82, 80] (.store 1 (.tmp 82) (.tmp 80)) <|
 .nil))
 .skip))
def C87_3 : XC := (.seq (.seq (.draw (.op (some 47) .any [0] (.mov (.tmp 0)) <|
 .op (some 48) .any [47] (.nilck (.tmp 47)) <|
 .op (some 49) .any [48] (.faddr 1 (.tmp 48)) <|
 .op (some 50) (.int .i64) [49] (.load none (.tmp 49)) <|
 .op (some 51) .any [0] (.mov (.tmp 0)) <|
 .op (some 52) .any [51] (.nilck (.tmp 51)) <|
 .op (some 53) .any [52] (.faddr 0 (.tmp 52)) <|
 .op (some 54) .str [53] (.load none (.tmp 53)) <|
 .op (some 55) .any [54] (.len true (.tmp 54)) <|
 .op (some 56) .any [50, 55] (.bin .lss .none (.tmp 50) (.tmp 55)) <|
 .op (some 57) .any [56] (.mov (.tmp 56)) <|
 .grp 57 true (.op (some 58) .any [0, 57] (.mov (.tmp 0)) <|
 .op (some 59) (.int .u8) [58, 57] (.call 115 [(.tmp 58), (.con (V.int .i64 (Int.ofNat 0)))]) <|
 .op (some 60) .any [59, 57] (.bin .neq .none (.tmp 59) (.con (V.int .u8 (Int.ofNat 10)))) <|
 .nil) 61 [57, 60] (.tmp 57) (.tmp 60) (.con (V.bool false)) <|
 .op (some 62) .any [61] (.mov (.tmp 61)) <|
 .grp 62 true (.op (some 63) .any [0, 62] (.mov (.tmp 0)) <|
 .op (some 64) .bool [63, 62] (.call 116 [(.tmp 63), (.con (V.str ⟨2, 11565⟩))]) <|
 .op (some 65) .any [64, 62] (.un .not (.tmp 64)) <|
 .nil) 66 [62, 65] (.tmp 62) (.tmp 65) (.con (V.bool false)) <|
 .nil) [0, 1, 3, 7, 0, 16, 48, 112, 240, 511, 1023, 2047, 4095, 8191, 16383, 32767, 65535, 131071, 262143, 524287])
 (.cond (.tmp 66) .skip
 (.exit 3)))
 (.block 4 (.ops (.op (some 67) .any [0] (.mov (.tmp 0)) <|
 .op (some 68) .any [67] (.nilck (.tmp 67)) <|
 .op (some 69) .any [68] (.faddr 1 (.tmp 68)) <|
 .op (some 70) (.int .i64) [69] (.load none (.tmp 69)) <|
 .op (some 71) .any [70] (.bin .add .none (.tmp 70) (.con (V.int .i64 (Int.ofNat 1)))) <|
 .op (some 72) .any [67] (.nilck (.tmp 67)) <|
 .op (some 73) .any [72] (.faddr 1 (.tmp 72)) <|
 .op none .any [73, 71] (.store 1 (.tmp 73) (.tmp 71)) <|
 .nil))))
def A87 : XFn := ⟨83, [.ptr], [], (C87_0 (C87_1 C87_2 C87_3))⟩
def C88_0 : XC := (.seq (.ops (.op (some 2) .any [] (.mov (.con (V.int .i64 (Int.ofNat 0)))) <|
 .op (some 3) .any [] (.mov (.con (V.str ⟨0, 0⟩))) <|
 .nil))
 (.seq (.seq (.ops (.op (some 5) .any [0] (.mov (.tmp 0)) <|
 .op (some 6) .any [5] (.nilck (.tmp 5)) <|
 .op (some 7) .any [6] (.faddr 0 (.tmp 6)) <|
 .op (some 8) (.int .u8) [7] (.call 115 [(.tmp 7), (.con (V.int .i64 (Int.ofNat 0)))]) <|
 .op (some 4) .any [8] (.mov (.tmp 8)) <|
 .nil))
 (.block 0 (.seq (.ops (.op (some 10) .any [4] (.mov (.tmp 4)) <|
 .op (some 11) .bool [10] (.call 117 [(.tmp 10)]) <|
 .op (some 9) .any [11] (.mov (.tmp 11)) <|
 .nil))
 (.cond (.tmp 9) (.seq (.ops (.op (some 12) .any [0] (.mov (.tmp 0)) <|
 .op (some 13) (.tup [(.int .i64), .str]) [12] (.call 118 [(.tmp 12)]) <|
 .op (some 14) .any [13] (.extract 0 (.tmp 13)) <|
 .op (some 15) .any [13] (.extract 1 (.tmp 13)) <|
 .op (some 2) .any [14] (.mov (.tmp 14)) <|
 .op (some 3) .any [15] (.mov (.tmp 15)) <|
 .nil))
 .ret)
 (.seq (.ops (.op (some 17) .any [4] (.mov (.tmp 4)) <|
 .op (some 18) .bool [17] (.call 119 [(.tmp 17)]) <|
 .op (some 19) .any [18] (.mov (.tmp 18)) <|
 .grp 19 false (.op (some 20) .any [4, 19] (.mov (.tmp 4)) <|
 .op (some 21) .any [20, 19] (.bin .eql .none (.tmp 20) (.con (V.int .u8 (Int.ofNat 45)))) <|
 .op (some 22) .any [21, 19] (.mov (.tmp 21)) <|
 .grp 22 true (.op (some 23) .any [0, 22] (.mov (.tmp 0)) <|
 .op (some 24) .any [23, 22] (.nilck (.tmp 23)) <|
 .op (some 25) .any [24, 22] (.faddr 0 (.tmp 24)) <|
 .op (some 26) (.int .u8) [25, 22] (.call 115 [(.tmp 25), (.con (V.int .i64 (Int.ofNat 1)))]) <|
 .op (some 27) .bool [26, 22] (.call 119 [(.tmp 26)]) <|
 .nil) 28 [22, 27, 19] (.tmp 22) (.tmp 27) (.con (V.bool false)) <|
 .nil) 29 [19, 28] (.tmp 19) (.con (V.bool true)) (.tmp 28) <|
 .op (some 16) .any [29] (.mov (.tmp 29)) <|
 .nil))
 (.cond (.tmp 16) (.seq (.ops (.op (some 30) .any [0] (.mov (.tmp 0)) <|
 .op (some 31) (.tup [(.int .i64), .str]) [30] (.call 120 [(.tmp 30)]) <|
 .op (some 32) .any [31] (.extract 0 (.tmp 31)) <|
 .op (some 33) .any [31] (.extract 1 (.tmp 31)) <|
 .op (some 2) .any [32] (.mov (.tmp 32)) <|
 .op (some 3) .any [33] (.mov (.tmp 33)) <|
 .nil))
 .ret)
 (.seq (.ops (.op (some 35) .any [4] (.mov (.tmp 4)) <|
 .op (some 36) .any [35] (.bin .eql .none (.tmp 35) (.con (V.int .u8 (Int.ofNat 39)))) <|
 .op (some 34) .any [36] (.mov (.tmp 36)) <|
 .nil))
 (.cond (.tmp 34) (.seq (.ops (.op (some 37) .any [0] (.mov (.tmp 0)) <|
 .op (some 38) (.tup [(.int .i64), .str]) [37] (.call 121 [(.tmp 37)]) <|
 .op (some 39) .any [38] (.extract 0 (.tmp 38)) <|
 .op (some 40) .any [38] (.extract 1 (.tmp 38)) <|
 .op (some 2) .any [39] (.mov (.tmp 39)) <|
 .op (some 3) .any [40] (.mov (.tmp 40)) <|
 .nil))
 .ret)
 (.seq (.ops (.op (some 42) .any [4] (.mov (.tmp 4)) <|
 .op (some 43) .any [42] (.bin .eql .none (.tmp 42) (.con (V.int .u8 (Int.ofNat 34)))) <|
 .op (some 41) .any [43] (.mov (.tmp 43)) <|
 .nil))
 (.cond (.tmp 41) (.seq (.ops (.op (some 44) .any [0] (.mov (.tmp 0)) <|
 .op (some 45) (.tup [(.int .i64), .str]) [44] (.call 122 [(.tmp 44)]) <|
 .op (some 46) .any [45] (.extract 0 (.tmp 45)) <|
 .op (some 47) .any [45] (.extract 1 (.tmp 45)) <|
 .op (some 2) .any [46] (.mov (.tmp 46)) <|
 .op (some 3) .any [47] (.mov (.tmp 47)) <|
 .nil))
 .ret)
 .skip))))))))))
 (.seq (.ops (.op (some 48) .any [0] (.mov (.tmp 0)) <|
 .op (some 49) (.tup [(.int .i64), .str]) [48] (.call 123 [(.tmp 48)]) <|
 .op (some 50) .any [49] (.extract 0 (.tmp 49)) <|
 .op (some 51) .any [49] (.extract 1 (.tmp 49)) <|
 .op (some 2) .any [50] (.mov (.tmp 50)) <|
 .op (some 3) .any [51] (.mov (.tmp 51)) <|
 .nil))
 .ret)))
def A88 : XFn := ⟨52, [.ptr], [(.tmp 2), (.tmp 3)], C88_0⟩
def G89_0 : List AOper := [⟨(some 15), .load (some 3) (.tmp 6), none⟩, ⟨(some 16), .mov (.tmp 0), none⟩, ⟨(some 17), .faddr 2 (.tmp 6), none⟩, ⟨(some 18), .load none (.tmp 17), none⟩, ⟨(some 19), .call 124 [(.tmp 16), (.tmp 18), (.con (V.int .i64 (Int.ofNat 7)))], none⟩, ⟨none, .store 3 (.tmp 4) (.tmp 15), none⟩, ⟨(some 5), .mov (.tmp 19), none⟩]
def H89_0 : List DP := [⟨0, [6]⟩, ⟨0, [0]⟩, ⟨0, [6]⟩, ⟨4, [17]⟩, ⟨14, [16, 18]⟩, ⟨31, [4, 15]⟩, ⟨63, [19]⟩]
def C89_0 : XC := (.seq (.ops (.op (some 4) .any [] (.alloc 187 [(V.int .i64 (Int.ofNat 0)), (V.str ⟨0, 0⟩), (V.int .i64 (Int.ofNat 0))]) <|
 .op (some 5) .any [] (.mov (.con (V.bool false))) <|
 .nil))
 (.seq (.ops (.op (some 7) .any [0] (.mov (.tmp 0)) <|
 .op (some 8) .any [7] (.nilck (.tmp 7)) <|
 .op (some 9) .any [8] (.faddr 0 (.tmp 8)) <|
 .op (some 10) (.agg [(.int .i64), .str, (.int .i64)]) [9] (.call 92 [(.tmp 9)]) <|
 .op (some 6) .any [] (.alloc 187 [(V.int .i64 (Int.ofNat 0)), (V.str ⟨0, 0⟩), (V.int .i64 (Int.ofNat 0))]) <|
 .op none (.agg [(.int .i64), .str, (.int .i64)]) [6, 10] (.store 3 (.tmp 6) (.tmp 10)) <|
 .nil))
 (.seq (.seq (.ops (.op (some 11) .any [6] (.faddr 0 (.tmp 6)) <|
 .op (some 12) (.int .i64) [11] (.load none (.tmp 11)) <|
 .op (some 13) .any [1] (.mov (.tmp 1)) <|
 .op (some 14) .any [12, 13] (.bin .neq .none (.tmp 12) (.tmp 13)) <|
 .nil))
 (.cond (.tmp 14) (.seq (.keep [(0, .ptr), (4, .ptr), (6, .ptr)] [] [] (.gdraw G89_0 H89_0 [(4, .ptr), (5, .bool)]))
 .ret)
 .skip))
 (.seq (.ops (.op (some 20) .any [0] (.mov (.tmp 0)) <|
 .op (some 21) .any [20] (.nilck (.tmp 20)) <|
 .op (some 22) .any [21] (.faddr 0 (.tmp 21)) <|
 .op (some 23) (.agg [(.int .i64), .str, (.int .i64)]) [22] (.call 125 [(.tmp 22)]) <|
 .op none (.agg [(.int .i64), .str, (.int .i64)]) [4, 23] (.store 3 (.tmp 4) (.tmp 23)) <|
 .op (some 5) .any [] (.mov (.con (V.bool true))) <|
 .nil))
 .ret))))
def A89 : XFn := ⟨24, [.ptr, (.int .i64)], [(.cell 4 (some 3)), (.tmp 5)], C89_0⟩
def C90_0 (cc1 : XC) (cc2 : XC) : XC := (.seq (.ops (.op (some 4) .any [] (.mov (.con (V.bool false))) <|
 .nil))
 (.seq (.seq (.ops (.op (some 7) .any [1] (.mov (.tmp 1)) <|
 .op (some 8) .any [7] (.len false (.tmp 7)) <|
 .op (some 9) .any [] (.mov (.con (V.int .i64 (Int.ofNat 0)))) <|
 .nil))
 (.block 0 (.loop [(0, .ptr), (7, .any), (8, (.int .i64)), (9, (.int .i64))] [] [] cc2)))
 (.keep [] [] [] cc1)))
def C90_1 : XC := (.seq (.ops (.op (some 4) .any [] (.mov (.con (V.bool true))) <|
 .nil))
 .ret)
def C90_2 : XC := (.seq (.ops (.op (some 10) .any [9, 8] (.bin .lss .none (.tmp 9) (.tmp 8)) <|
 .nil))
 (.seq (.cond (.tmp 10) .skip
 (.exit 0))
 (.seq (.block 1 (.seq (.ops (.op (some 11) .any [7, 9] (.iaddrS 1 (.tmp 7) (.tmp 9)) <|
 .op (some 12) .str [11] (.load none (.tmp 11)) <|
 .op (some 6) .any [12] (.mov (.tmp 12)) <|
 .nil))
 (.seq (.ops (.op (some 13) .any [0] (.mov (.tmp 0)) <|
 .op (some 14) .any [13] (.nilck (.tmp 13)) <|
 .op (some 15) .any [14] (.faddr 0 (.tmp 14)) <|
 .op (some 16) .any [6] (.mov (.tmp 6)) <|
 .op (some 17) .bool [15, 16] (.call 126 [(.tmp 15), (.tmp 16)]) <|
 .op (some 18) .any [17] (.un .not (.tmp 17)) <|
 .nil))
 (.cond (.tmp 18) (.seq (.ops (.op (some 19) .any [0] (.mov (.tmp 0)) <|
 .op (some 20) .any [0] (.mov (.tmp 0)) <|
 .op (some 21) .any [20] (.nilck (.tmp 20)) <|
 .op (some 22) .any [21] (.faddr 0 (.tmp 21)) <|
 .op (some 23) (.agg [(.int .i64), .str, (.int .i64)]) [22] (.call 92 [(.tmp 22)]) <|
 .op (some 24) (.int .i64) [23] (.field 2 none (.tmp 23)) <|
 .op (some 25) .bool [19, 24] (.call 124 [(.tmp 19), (.tmp 24), (.con (V.int .i64 (Int.ofNat 7)))]) <|
 .op (some 4) .any [25] (.mov (.tmp 25)) <|
 .nil))
 .ret)
 .skip))))
 (.ops (.op (some 26) .any [9] (.bin .add .none (.tmp 9) (.con (V.int .i64 (Int.ofNat 1)))) <|
 .op (some 9) .any [26] (.mov (.tmp 26)) <|
 .nil)))))
def A90 : XFn := ⟨27, [.ptr, .any], [(.tmp 4)], (C90_0 C90_1 C90_2)⟩
def C91_0 : XC := (.seq (.ops (.op (some 4) .any [] (.mov (.con (V.bool false))) <|
 .nil))
 (.seq (.ops (.op (some 6) .any [0] (.mov (.tmp 0)) <|
 .op (some 7) (.agg [(.int .i64), .str, (.int .i64)]) [6] (.call 92 [(.tmp 6)]) <|
 .pal 5 [] 187 [(V.int .i64 (Int.ofNat 0)), (V.str ⟨0, 0⟩), (V.int .i64 (Int.ofNat 0))] <|
 .op none (.agg [(.int .i64), .str, (.int .i64)]) [5, 7] (.store 3 (.tmp 5) (.tmp 7)) <|
 .nil))
 (.seq (.ops (.op (some 8) .any [5] (.faddr 0 (.tmp 5)) <|
 .op (some 9) (.int .i64) [8] (.load none (.tmp 8)) <|
 .op (some 10) .any [9] (.bin .eql .none (.tmp 9) (.con (V.int .i64 (Int.ofNat 5)))) <|
 .op (some 11) .any [10] (.mov (.tmp 10)) <|
 .grp 11 false (.op (some 12) .any [5, 11] (.faddr 0 (.tmp 5)) <|
 .op (some 13) (.int .i64) [12, 11] (.load none (.tmp 12)) <|
 .op (some 14) .any [13, 11] (.bin .eql .none (.tmp 13) (.con (V.int .i64 (Int.ofNat 6)))) <|
 .nil) 15 [11, 14] (.tmp 11) (.con (V.bool true)) (.tmp 14) <|
 .op (some 16) .any [15] (.mov (.tmp 15)) <|
 .grp 16 true (.op (some 17) .any [5, 16] (.faddr 1 (.tmp 5)) <|
 .op (some 18) .str [17, 16] (.load none (.tmp 17)) <|
 .op (some 19) .any [1, 16] (.mov (.tmp 1)) <|
 .op (some 20) .any [18, 19, 16] (.bin .eql .none (.tmp 18) (.tmp 19)) <|
 .nil) 21 [16, 20] (.tmp 16) (.tmp 20) (.con (V.bool false)) <|
 .op (some 4) .any [21] (.mov (.tmp 21)) <|
 .nil))
 .ret)))
def A91 : XFn := ⟨22, [.any, .str], [(.tmp 4)], C91_0⟩
def C92_0 : XC := (.seq (.ops (.pal 2 [] 187 [(V.int .i64 (Int.ofNat 0)), (V.str ⟨0, 0⟩), (V.int .i64 (Int.ofNat 0))] <|
 .nil))
 (.seq (.draw (.op (some 3) .any [0] (.mov (.tmp 0)) <|
 .op (some 4) .any [3] (.nilck (.tmp 3)) <|
 .op (some 5) .any [4] (.faddr 0 (.tmp 4)) <|
 .op (some 6) .any [5] (.load none (.tmp 5)) <|
 .op (some 7) .any [0] (.mov (.tmp 0)) <|
 .op (some 8) .any [7] (.nilck (.tmp 7)) <|
 .op (some 9) .any [8] (.faddr 1 (.tmp 8)) <|
 .op (some 10) (.int .i64) [9] (.load none (.tmp 9)) <|
 .op (some 11) .any [6, 10] (.iaddrS 3 (.tmp 6) (.tmp 10)) <|
 .op (some 12) (.agg [(.int .i64), .str, (.int .i64)]) [11] (.load (some 3) (.tmp 11)) <|
 .op none (.agg [(.int .i64), .str, (.int .i64)]) [2, 12] (.store 3 (.tmp 2) (.tmp 12)) <|
 .nil) [0, 1, 3, 7, 0, 16, 48, 112, 255, 511, 1023])
 .ret))
def A92 : XFn := ⟨13, [.ptr], [(.cell 2 (some 3))], C92_0⟩
def G93_0 : List AOper := [⟨(some 30), .mov (.tmp 0), none⟩, ⟨(some 31), .mov (.tmp 0), none⟩, ⟨(some 32), .mov (.tmp 0), none⟩, ⟨(some 33), .nilck (.tmp 32), none⟩, ⟨(some 34), .faddr 2 (.tmp 33), none⟩, ⟨(some 35), .faddr 2 (.tmp 34), none⟩, ⟨(some 36), .load none (.tmp 35), none⟩, ⟨(some 37), .faddr 1 (.tmp 3), none⟩, ⟨(some 38), .load none (.tmp 37), none⟩, ⟨(some 39), .buildSlice 9 1 [(V.str ⟨0, 0⟩)] [(0, 1, (.tmp 38))], none⟩, ⟨(some 40), .append 9 1 16 (.tmp 36) (.tmp 39), none⟩, ⟨(some 41), .mov (.tmp 0), none⟩, ⟨(some 42), .nilck (.tmp 41), none⟩, ⟨(some 43), .faddr 2 (.tmp 42), none⟩, ⟨(some 44), .faddr 3 (.tmp 43), none⟩, ⟨(some 45), .load none (.tmp 44), none⟩, ⟨(some 46), .mov (.tmp 4), none⟩, ⟨(some 47), .buildSlice 3 1 [(V.int .i64 (Int.ofNat 0))] [(0, 1, (.tmp 46))], none⟩, ⟨(some 48), .append 3 1 8 (.tmp 45) (.tmp 47), none⟩, ⟨(some 49), .nilck (.tmp 30), none⟩, ⟨(some 50), .faddr 2 (.tmp 49), none⟩, ⟨(some 51), .faddr 2 (.tmp 50), none⟩, ⟨none, .store 1 (.tmp 51) (.tmp 40), none⟩, ⟨(some 52), .nilck (.tmp 31), none⟩, ⟨(some 53), .faddr 2 (.tmp 52), none⟩, ⟨(some 54), .faddr 3 (.tmp 53), none⟩, ⟨none, .store 1 (.tmp 54) (.tmp 48), none⟩]
def H93_0 : List DP := [⟨0, [0]⟩, ⟨0, [0]⟩, ⟨0, [0]⟩, ⟨4, [32]⟩, ⟨12, [33]⟩, ⟨28, [34]⟩, ⟨60, [35]⟩, ⟨0, [3]⟩, ⟨128, [37]⟩, ⟨384, [38]⟩, ⟨1020, [36, 39]⟩, ⟨0, [0]⟩, ⟨2048, [41]⟩, ⟨6144, [42]⟩, ⟨14336, [43]⟩, ⟨30720, [44]⟩, ⟨0, [4]⟩, ⟨65536, [46]⟩, ⟨262140, [45, 47]⟩, ⟨524285, [30]⟩, ⟨1048573, [49]⟩, ⟨2097149, [50]⟩, ⟨4194301, [51, 40]⟩, ⟨8388607, [31]⟩, ⟨16777215, [52]⟩, ⟨33554431, [53]⟩, ⟨67108863, [54, 48]⟩]
def C93_0 : XC := (.seq (.ops (.op (some 2) .any [] (.mov (.con (V.bool false))) <|
 .nil))
 (.seq (.ops (.op (some 6) .any [0] (.mov (.tmp 0)) <|
 .op (some 7) .any [6] (.nilck (.tmp 6)) <|
 .op (some 8) .any [7] (.faddr 0 (.tmp 7)) <|
 .op (some 9) (.agg [(.int .i64), .str, (.int .i64)]) [8] (.call 125 [(.tmp 8)]) <|
 .op (some 3) .any [] (.alloc 187 [(V.int .i64 (Int.ofNat 0)), (V.str ⟨0, 0⟩), (V.int .i64 (Int.ofNat 0))]) <|
 .op none (.agg [(.int .i64), .str, (.int .i64)]) [3, 9] (.store 3 (.tmp 3) (.tmp 9)) <|
 .nil))
 (.seq (.seq (.ops (.op (some 10) .any [0] (.mov (.tmp 0)) <|
 .op (some 11) .any [10] (.nilck (.tmp 10)) <|
 .op (some 12) .any [11] (.faddr 2 (.tmp 11)) <|
 .op (some 13) .any [12] (.faddr 2 (.tmp 12)) <|
 .op (some 14) .any [13] (.load none (.tmp 13)) <|
 .op (some 15) .any [14] (.len false (.tmp 14)) <|
 .op (some 16) .any [15] (.bin .geq .none (.tmp 15) (.con (V.int .i64 (Int.ofNat 40)))) <|
 .nil))
 (.cond (.tmp 16) (.seq (.ops (.op (some 17) .any [0] (.mov (.tmp 0)) <|
 .op (some 18) .any [3] (.faddr 2 (.tmp 3)) <|
 .op (some 19) (.int .i64) [18] (.load none (.tmp 18)) <|
 .op (some 20) .bool [17, 19] (.call 124 [(.tmp 17), (.tmp 19), (.con (V.int .i64 (Int.ofNat 5)))]) <|
 .op (some 2) .any [20] (.mov (.tmp 20)) <|
 .nil))
 .ret)
 .skip))
 (.seq (.seq (.ops (.op (some 21) .any [0] (.mov (.tmp 0)) <|
 .op (some 22) .any [] (.buildSlice 9 1 [(V.str ⟨0, 0⟩)] [(0, 1, (.con (V.str ⟨3, 4012602⟩)))]) <|
 .op (some 23) .bool [21, 22] (.call 90 [(.tmp 21), (.tmp 22)]) <|
 .op (some 24) .any [23] (.un .not (.tmp 23)) <|
 .nil))
 (.cond (.tmp 24) (.seq (.ops (.op (some 2) .any [] (.mov (.con (V.bool false))) <|
 .nil))
 .ret)
 .skip))
 (.seq (.ops (.op (some 26) .any [0] (.mov (.tmp 0)) <|
 .op (some 27) (.tup [(.int .i64), .bool]) [26] (.call 127 [(.tmp 26), (.con (V.int .i64 (Int.ofNat 0)))]) <|
 .op (some 25) .any [27] (.mov (.tmp 27)) <|
 .op (some 28) .any [25] (.extract 0 (.tmp 25)) <|
 .op (some 29) .any [25] (.extract 1 (.tmp 25)) <|
 .op (some 4) .any [28] (.mov (.tmp 28)) <|
 .op (some 5) .any [29] (.mov (.tmp 29)) <|
 .nil))
 (.seq (.keep [(0, .ptr), (3, .ptr), (4, (.int .i64)), (5, .bool)] [] [] (.gdraw G93_0 H93_0 [(5, .bool)]))
 (.seq (.ops (.op (some 55) .any [5] (.mov (.tmp 5)) <|
 .op (some 2) .any [55] (.mov (.tmp 55)) <|
 .nil))
 .ret)))))))
def A93 : XFn := ⟨56, [.ptr], [(.tmp 2)], C93_0⟩
def C94_0 (cc1 : XC) (cc2 : XC) : XC := (.seq (.ops (.op (some 2) .any [0] (.box 99 (.tmp 0)) <|
 .op (some 4) .any [] (.mov (.con V.nils)) <|
 .nil))
 (.seq (.ops (.op (some 5) .any [] (.mov (.con V.nils)) <|
 .nil))
 (.seq (.seq (.ops (.op (some 9) (.agg [.str, (.int .i64), .any, .any, .any]) [2] (.load (some 5) (.tmp 2)) <|
 .op (some 10) .any [1] (.mov (.tmp 1)) <|
 .op (some 11) .one [9, 10] (.call 128 [(.tmp 9), (.tmp 10)]) <|
 .op (some 12) .any [11] (.len false (.tmp 11)) <|
 .op (some 13) .any [] (.mov (.con (V.int .i64 (Int.ofNat 0)))) <|
 .nil))
 (.block 0 (.loop [(2, .ptr), (5, .any), (11, .any), (12, (.int .i64)), (13, (.int .i64))] [] [] cc2)))
 (.keep [(5, .any)] [] [] cc1))))
def C94_1 : XC := (.seq (.ops (.op (some 27) .any [5] (.mov (.tmp 5)) <|
 .op (some 4) .any [27] (.mov (.tmp 27)) <|
 .nil))
 .ret)
def C94_2 (cc3 : XC) : XC := (.seq (.ops (.op (some 14) .any [13, 12] (.bin .lss .none (.tmp 13) (.tmp 12)) <|
 .nil))
 (.seq (.cond (.tmp 14) .skip
 (.exit 0))
 (.seq (.block 1 (.seq (.ops (.op (some 15) .any [11, 13] (.iaddrS 1 (.tmp 11) (.tmp 13)) <|
 .op (some 16) .str [15] (.load none (.tmp 15)) <|
 .op (some 7) .any [16] (.mov (.tmp 16)) <|
 .nil))
 (.seq (.ops (.op (some 17) (.agg [.str, (.int .i64), .any, .any, .any]) [2] (.load (some 5) (.tmp 2)) <|
 .op (some 18) .any [7] (.mov (.tmp 7)) <|
 .op (some 19) (.int .i64) [17, 18] (.call 100 [(.tmp 17), (.tmp 18)]) <|
 .op (some 8) .any [19] (.mov (.tmp 19)) <|
 .nil))
 (.seq (.ops (.op (some 20) .any [8] (.mov (.tmp 8)) <|
 .op (some 21) .any [20] (.bin .geq .none (.tmp 20) (.con (V.int .i64 (Int.ofNat 0)))) <|
 .nil))
 (.cond (.tmp 21) (.ops (.op (some 22) .any [5] (.mov (.tmp 5)) <|
 .op (some 23) .any [8] (.mov (.tmp 8)) <|
 .op (some 24) .any [23] (.buildSlice 3 1 [(V.int .i64 (Int.ofNat 0))] [(0, 1, (.tmp 23))]) <|
 .op (some 25) .one [22, 24] (.append 3 1 8 (.tmp 22) (.tmp 24)) <|
 .op (some 5) .any [25] (.mov (.tmp 25)) <|
 .nil))
 .skip)))))
 (.keep [(2, .ptr), (5, .any), (11, .any), (12, (.int .i64)), (13, (.int .i64))] [] [] cc3))))
def C94_3 : XC := (.ops (.op (some 26) .any [13] (.bin .add .none (.tmp 13) (.con (V.int .i64 (Int.ofNat 1)))) <|
 .op (some 13) .any [26] (.mov (.tmp 26)) <|
 .nil))
def A94 : XFn := ⟨28, [(.agg [.str, (.int .i64), .any, .any, .any]), (.int .i64)], [(.tmp 4)], (C94_0 C94_1 (C94_2 C94_3))⟩
def C95_0 : XC := (.seq (.ops (.op (some 2) .any [0] (.box 99 (.tmp 0)) <|
 .op (some 4) .any [] (.mov (.con (V.int .i64 (Int.ofNat 0)))) <|
 .nil))
 (.seq (.seq (.ops (.op (some 5) .any [1] (.mov (.tmp 1)) <|
 .op (some 6) .any [2] (.faddr 3 (.tmp 2)) <|
 .op (some 7) .any [6] (.load none (.tmp 6)) <|
 .op (some 8) .any [7] (.len false (.tmp 7)) <|
 .op (some 9) .any [5, 8] (.bin .geq .none (.tmp 5) (.tmp 8)) <|
 .nil))
 (.cond (.tmp 9) (.seq (.ops (.op (some 4) .any [] (.mov (.con (V.int .i64 (Int.negSucc 0)))) <|
 .nil))
 .ret)
 .skip))
 (.seq (.ops (.op (some 10) .any [2] (.faddr 3 (.tmp 2)) <|
 .op (some 11) .any [10] (.load none (.tmp 10)) <|
 .op (some 12) .any [1] (.mov (.tmp 1)) <|
 .op (some 13) .any [11, 12] (.iaddrS 1 (.tmp 11) (.tmp 12)) <|
 .op (some 14) (.int .i64) [13] (.load none (.tmp 13)) <|
 .op (some 4) .any [14] (.mov (.tmp 14)) <|
 .nil))
 .ret)))
def A95 : XFn := ⟨15, [(.agg [.str, (.int .i64), .any, .any, .any]), (.int .i64)], [(.tmp 4)], C95_0⟩
def G96_0 : List AOper := [⟨(some 32), .load (some 5) (.tmp 2), none⟩, ⟨(some 33), .load (some 5) (.tmp 2), none⟩, ⟨(some 34), .mov (.tmp 8), none⟩, ⟨(some 35), .call 95 [(.tmp 33), (.tmp 34)], none⟩, ⟨(some 36), .call 129 [(.tmp 32), (.tmp 35)], none⟩]
def H96_0 : List DP := [⟨0, [2]⟩, ⟨0, [2]⟩, ⟨0, [8]⟩, ⟨6, [33, 34]⟩, ⟨15, [32, 35]⟩]
def C96_0 (cc1 : XC) (cc2 : XC) : XC := (.seq (.ops (.op (some 2) .any [0] (.box 99 (.tmp 0)) <|
 .op (some 4) .any [] (.mov (.con (V.int .i64 (Int.ofNat 0)))) <|
 .op (some 5) .any [] (.mov (.con (V.int .i64 (Int.ofNat 0)))) <|
 .nil))
 (.seq (.seq (.ops (.op (some 11) .any [2] (.faddr 2 (.tmp 2)) <|
 .op (some 12) .any [11] (.load none (.tmp 11)) <|
 .op (some 13) .any [12] (.len false (.tmp 12)) <|
 .op (some 14) .any [] (.mov (.con (V.int .i64 (Int.ofNat 0)))) <|
 .nil))
 (.block 0 (.loop [(1, .any), (2, .ptr), (12, .any), (13, (.int .i64)), (14, (.int .i64))] [] [] cc2)))
 (.keep [(1, .any), (2, .ptr)] [] [] cc1)))
def C96_1 (cc3 : XC) (cc4 : XC) : XC := (.seq (.seq (.ops (.op (some 26) .any [2] (.faddr 2 (.tmp 2)) <|
 .op (some 27) .any [26] (.load none (.tmp 26)) <|
 .op (some 28) .any [27] (.len false (.tmp 27)) <|
 .op (some 29) .any [] (.mov (.con (V.int .i64 (Int.ofNat 0)))) <|
 .nil))
 (.block 2 (.loop [(1, .any), (2, .ptr), (28, (.int .i64)), (29, (.int .i64))] [] [] cc4)))
 (.keep [(1, .any), (2, .ptr)] [] [] cc3))
def C96_2 : XC := (.seq (.ops (.op (some 15) .any [14, 13] (.bin .lss .none (.tmp 14) (.tmp 13)) <|
 .nil))
 (.seq (.cond (.tmp 15) .skip
 (.exit 0))
 (.seq (.block 1 (.seq (.ops (.op (some 16) .any [14] (.mov (.tmp 14)) <|
 .op (some 17) .any [12, 14] (.iaddrS 1 (.tmp 12) (.tmp 14)) <|
 .op (some 18) .str [17] (.load none (.tmp 17)) <|
 .op (some 6) .any [16] (.mov (.tmp 16)) <|
 .op (some 7) .any [18] (.mov (.tmp 18)) <|
 .nil))
 (.seq (.ops (.op (some 19) (.agg [.str, (.int .i64), .any, .any, .any]) [2] (.load (some 5) (.tmp 2)) <|
 .op (some 20) .any [7] (.mov (.tmp 7)) <|
 .op (some 21) (.int .i64) [19, 20] (.call 100 [(.tmp 19), (.tmp 20)]) <|
 .op (some 22) .any [6] (.mov (.tmp 6)) <|
 .op (some 23) .any [21, 22] (.bin .lss .none (.tmp 21) (.tmp 22)) <|
 .nil))
 (.cond (.tmp 23) (.seq (.ops (.op (some 24) .any [6] (.mov (.tmp 6)) <|
 .op (some 4) .any [24] (.mov (.tmp 24)) <|
 .op (some 5) .any [] (.mov (.con (V.int .i64 (Int.ofNat 8)))) <|
 .nil))
 .ret)
 .skip))))
 (.ops (.op (some 25) .any [14] (.bin .add .none (.tmp 14) (.con (V.int .i64 (Int.ofNat 1)))) <|
 .op (some 14) .any [25] (.mov (.tmp 25)) <|
 .nil)))))
def C96_3 (cc5 : XC) (cc6 : XC) : XC := (.seq (.seq (.ops (.op (some 39) .any [2] (.faddr 2 (.tmp 2)) <|
 .op (some 40) .any [39] (.load none (.tmp 39)) <|
 .op (some 41) .any [40] (.len false (.tmp 40)) <|
 .op (some 42) .any [] (.mov (.con (V.int .i64 (Int.ofNat 0)))) <|
 .nil))
 (.block 4 (.loop [(1, .any), (2, .ptr), (41, (.int .i64)), (42, (.int .i64))] [] [] cc6)))
 (.keep [] [] [] cc5))
def C96_4 : XC := (.seq (.ops (.op (some 30) .any [29, 28] (.bin .lss .none (.tmp 29) (.tmp 28)) <|
 .nil))
 (.seq (.cond (.tmp 30) .skip
 (.exit 2))
 (.seq (.block 3 (.seq (.ops (.op (some 31) .any [29] (.mov (.tmp 29)) <|
 .op (some 8) .any [31] (.mov (.tmp 31)) <|
 .nil))
 (.seq (.keep [(1, .any), (2, .ptr), (8, (.int .i64)), (28, (.int .i64)), (29, (.int .i64))] [] [] (.gdraw G96_0 H96_0 [(1, .any), (2, .ptr), (8, (.int .i64)), (28, (.int .i64)), (29, (.int .i64)), (36, .bool)]))
 (.cond (.tmp 36) (.seq (.ops (.op (some 37) .any [8] (.mov (.tmp 8)) <|
 .op (some 4) .any [37] (.mov (.tmp 37)) <|
 .op (some 5) .any [] (.mov (.con (V.int .i64 (Int.ofNat 9)))) <|
 .nil))
 .ret)
 .skip))))
 (.ops (.op (some 38) .any [29] (.bin .add .none (.tmp 29) (.con (V.int .i64 (Int.ofNat 1)))) <|
 .op (some 29) .any [38] (.mov (.tmp 38)) <|
 .nil)))))
def C96_5 : XC := (.seq (.ops (.op (some 4) .any [] (.mov (.con (V.int .i64 (Int.ofNat 0)))) <|
 .op (some 5) .any [] (.mov (.con (V.int .i64 (Int.ofNat 0)))) <|
 .nil))
 .ret)
def C96_6 : XC := (.seq (.ops (.op (some 43) .any [42, 41] (.bin .lss .none (.tmp 42) (.tmp 41)) <|
 .nil))
 (.seq (.cond (.tmp 43) .skip
 (.exit 4))
 (.seq (.block 5 (.seq (.ops (.op (some 44) .any [42] (.mov (.tmp 42)) <|
 .op (some 9) .any [44] (.mov (.tmp 44)) <|
 .nil))
 (.seq (.ops (.op (some 45) .any [2] (.faddr 2 (.tmp 2)) <|
 .op (some 46) .any [45] (.load none (.tmp 45)) <|
 .op (some 47) .any [46] (.len false (.tmp 46)) <|
 .op (some 48) .any [47, 47] (.mkslice 4 1 1 [(V.bool false)] (.tmp 47) (.tmp 47)) <|
 .op (some 10) .any [48] (.mov (.tmp 48)) <|
 .nil))
 (.seq (.ops (.op (some 49) .any [1] (.mov (.tmp 1)) <|
 .op (some 50) .any [9] (.mov (.tmp 9)) <|
 .op (some 51) .any [10] (.mov (.tmp 10)) <|
 .op (some 52) (.tup []) [49, 50, 51] (.call 130 [(.tmp 49), (.tmp 50), (.tmp 51)]) <|
 .nil))
 (.seq (.ops (.op (some 53) .any [10] (.mov (.tmp 10)) <|
 .op (some 54) .any [9] (.mov (.tmp 9)) <|
 .op (some 55) .any [53, 54] (.iaddrS 1 (.tmp 53) (.tmp 54)) <|
 .op (some 56) .bool [55] (.load none (.tmp 55)) <|
 .nil))
 (.cond (.tmp 56) (.seq (.ops (.op (some 57) .any [9] (.mov (.tmp 9)) <|
 .op (some 4) .any [57] (.mov (.tmp 57)) <|
 .op (some 5) .any [] (.mov (.con (V.int .i64 (Int.ofNat 10)))) <|
 .nil))
 .ret)
 .skip))))))
 (.ops (.op (some 58) .any [42] (.bin .add .none (.tmp 42) (.con (V.int .i64 (Int.ofNat 1)))) <|
 .op (some 42) .any [58] (.mov (.tmp 58)) <|
 .nil)))))
def A96 : XFn := ⟨59, [(.agg [.str, (.int .i64), .any, .any, .any]), .any], [(.tmp 4), (.tmp 5)], (C96_0 (C96_1 (C96_3 C96_5 C96_6) C96_4) C96_2)⟩
def C97_0 : XC := (.seq (.ops (.op (some 4) .any [] (.mov (.con (V.bool false))) <|
 .nil))
 (.seq (.ops (.op (some 5) .any [0] (.mov (.tmp 0)) <|
 .op (some 6) .any [1] (.mov (.tmp 1)) <|
 .op (some 7) (.int .i64) [5, 6] (.call 131 [(.tmp 5), (.tmp 6)]) <|
 .op (some 8) .any [7] (.bin .geq .none (.tmp 7) (.con (V.int .i64 (Int.ofNat 0)))) <|
 .op (some 4) .any [8] (.mov (.tmp 8)) <|
 .nil))
 .ret))
def A97 : XFn := ⟨9, [.any, (.int .i64)], [(.tmp 4)], C97_0⟩
def C98_0 : XC := (.seq (.ops (.op (some 4) .any [] (.mov (.con (V.bool false))) <|
 .nil))
 (.seq (.ops (.op (some 5) .any [0] (.mov (.tmp 0)) <|
 .op (some 6) .any [1] (.mov (.tmp 1)) <|
 .op (some 7) (.int .i64) [5, 6] (.call 132 [(.tmp 5), (.tmp 6)]) <|
 .op (some 8) .any [7] (.bin .geq .none (.tmp 7) (.con (V.int .i64 (Int.ofNat 0)))) <|
 .op (some 4) .any [8] (.mov (.tmp 8)) <|
 .nil))
 .ret))
def A98 : XFn := ⟨9, [.any, .any], [(.tmp 4)], C98_0⟩
def C100_0 : XC := (.seq (.ops (.op (some 2) .any [0] (.box 99 (.tmp 0)) <|
 .op (some 4) .any [] (.mov (.con (V.int .i64 (Int.ofNat 0)))) <|
 .nil))
 (.seq (.ops (.op (some 5) .any [2] (.faddr 2 (.tmp 2)) <|
 .op (some 6) .any [5] (.load none (.tmp 5)) <|
 .op (some 7) .any [1] (.mov (.tmp 1)) <|
 .op (some 8) (.int .i64) [6, 7] (.call 108 [(.tmp 6), (.tmp 7)]) <|
 .op (some 4) .any [8] (.mov (.tmp 8)) <|
 .nil))
 .ret))
def A100 : XFn := ⟨9, [(.agg [.str, (.int .i64), .any, .any, .any]), .str], [(.tmp 4)], C100_0⟩
def G101_0 : List AOper := [⟨(some 86), .mov (.tmp 0), none⟩, ⟨(some 87), .nilck (.tmp 86), none⟩, ⟨(some 88), .faddr 0 (.tmp 87), none⟩, ⟨(some 89), .faddr 0 (.tmp 88), none⟩, ⟨(some 90), .load none (.tmp 89), none⟩, ⟨(some 91), .mov (.tmp 9), none⟩, ⟨(some 92), .load (some 16) (.tmp 4), none⟩, ⟨(some 93), .call 136 [(.tmp 92)], none⟩, ⟨(some 85), .mov (.tmp 93), none⟩, ⟨(some 94), .extract 0 (.tmp 85), none⟩, ⟨(some 95), .extract 1 (.tmp 85), none⟩, ⟨(some 96), .iaddrS 13 (.tmp 90) (.tmp 91), none⟩, ⟨(some 97), .faddr 8 (.tmp 96), none⟩, ⟨none, .store 1 (.tmp 97) (.tmp 94), none⟩, ⟨(some 10), .mov (.tmp 95), none⟩]
def H101_0 : List DP := [⟨0, [0]⟩, ⟨1, [86]⟩, ⟨3, [87]⟩, ⟨7, [88]⟩, ⟨15, [89]⟩, ⟨0, [9]⟩, ⟨0, [4]⟩, ⟨64, [92]⟩, ⟨192, [93]⟩, ⟨448, [85]⟩, ⟨448, [85]⟩, ⟨1023, [90, 91]⟩, ⟨3071, [96]⟩, ⟨7167, [97, 94]⟩, ⟨16383, [95]⟩]
def C101_0 (cc1 : XC) : XC := (.seq (.ops (.op (some 4) .any [1] (.box 203 (.tmp 1)) <|
 .op (some 6) .any [] (.mov (.con (V.int .i64 (Int.ofNat 0)))) <|
 .op (some 7) .any [] (.mov (.con (V.int .i64 (Int.ofNat 0)))) <|
 .nil))
 (.seq (.seq (.ops (.op (some 12) .any [2] (.mov (.tmp 2)) <|
 .op (some 13) .any [12] (.bin .gtr .none (.tmp 12) (.con (V.int .i64 (Int.ofNat 16)))) <|
 .op (some 14) .any [13] (.mov (.tmp 13)) <|
 .grp 14 false (.op (some 15) .any [0, 14] (.mov (.tmp 0)) <|
 .op (some 16) .any [15, 14] (.nilck (.tmp 15)) <|
 .op (some 17) .any [16, 14] (.faddr 0 (.tmp 16)) <|
 .op (some 18) .any [17, 14] (.faddr 0 (.tmp 17)) <|
 .op (some 19) .any [18, 14] (.load none (.tmp 18)) <|
 .op (some 20) .any [19, 14] (.len false (.tmp 19)) <|
 .op (some 21) .any [20, 14] (.bin .geq .none (.tmp 20) (.con (V.int .i64 (Int.ofNat 300)))) <|
 .nil) 22 [14, 21] (.tmp 14) (.con (V.bool true)) (.tmp 21) <|
 .nil))
 (.cond (.tmp 22) (.seq (.ops (.op (some 6) .any [] (.mov (.con (V.int .i64 (Int.ofNat 0)))) <|
 .op (some 7) .any [] (.mov (.con (V.int .i64 (Int.ofNat 5)))) <|
 .nil))
 .ret)
 .skip))
 (.seq (.ops (.op (some 23) .any [4] (.faddr 0 (.tmp 4)) <|
 .op (some 24) (.int .i64) [23] (.load none (.tmp 23)) <|
 .op (some 25) .any [4] (.faddr 5 (.tmp 4)) <|
 .op (some 26) (.agg [.bool, .bool, .bool, .bool, (.int .i64), (.int .i64)]) [25] (.load (some 6) (.tmp 25)) <|
 .op (some 27) .any [4] (.faddr 13 (.tmp 4)) <|
 .op (some 28) (.int .i64) [27] (.load none (.tmp 27)) <|
 .op (some 29) .any [4] (.faddr 14 (.tmp 4)) <|
 .op (some 30) .bool [29] (.load none (.tmp 29)) <|
 .op (some 31) (.agg [(.int .i64), .any, .bool, .bool, .bool, .bool, (.int .i64), (.int .i64), .any, .any, (.int .i64), .bool, (.int .i64)]) [24, 26, 28, 30] (.build [(V.int .i64 (Int.ofNat 0)), V.nils, (V.bool false), (V.bool false), (V.bool false), (V.bool false), (V.int .i64 (Int.ofNat 0)), (V.int .i64 (Int.ofNat 0)), V.nils, V.nils, (V.int .i64 (Int.ofNat 0)), (V.bool false), (V.int .i64 (Int.ofNat 0))] [(0, 1, (.tmp 24)), (2, 6, (.tmp 26)), (10, 1, (.tmp 28)), (11, 1, (.tmp 30))]) <|
 .pal 8 [] 93 [(V.int .i64 (Int.ofNat 0)), V.nils, (V.bool false), (V.bool false), (V.bool false), (V.bool false), (V.int .i64 (Int.ofNat 0)), (V.int .i64 (Int.ofNat 0)), V.nils, V.nils, (V.int .i64 (Int.ofNat 0)), (V.bool false), (V.int .i64 (Int.ofNat 0))] <|
 .op none (.agg [(.int .i64), .any, .bool, .bool, .bool, .bool, (.int .i64), (.int .i64), .any, .any, (.int .i64), .bool, (.int .i64)]) [8, 31] (.store 13 (.tmp 8) (.tmp 31)) <|
 .nil))
 (.seq (.seq (.ops (.op (some 32) .any [4] (.faddr 0 (.tmp 4)) <|
 .op (some 33) (.int .i64) [32] (.load none (.tmp 32)) <|
 .op (some 34) .any [33] (.bin .neq .none (.tmp 33) (.con (V.int .i64 (Int.ofNat 9)))) <|
 .nil))
 (.cond (.tmp 34) (.ops (.op (some 35) .any [4] (.faddr 0 (.tmp 4)) <|
 .op (some 36) (.int .i64) [35] (.load none (.tmp 35)) <|
 .op (some 37) (.agg [(.int .i64), (.int .i64)]) [36] (.call 133 [(.tmp 36)]) <|
 .op (some 38) .any [37] (.buildSlice 118 1 [(V.int .i64 (Int.ofNat 0)), (V.int .i64 (Int.ofNat 0))] [(0, 2, (.tmp 37))]) <|
 .op (some 39) .any [8] (.faddr 1 (.tmp 8)) <|
 .op none .any [39, 38] (.store 1 (.tmp 39) (.tmp 38)) <|
 .nil))
 .skip))
 (.keep [(0, .ptr), (2, (.int .i64)), (4, .ptr)] [8] [(8, [(.int .i64), .any, .bool, .bool, .bool, .bool, (.int .i64), (.int .i64), .any, .any, (.int .i64), .bool, (.int .i64)])] cc1)))))
def C101_1 (cc2 : XC) (cc3 : XC) : XC := (.seq (.draw (.op (some 40) .any [0] (.mov (.tmp 0)) <|
 .op (some 41) .any [40] (.nilck (.tmp 40)) <|
 .op (some 42) .any [41] (.faddr 0 (.tmp 41)) <|
 .op (some 43) (.agg [(.int .i64), .any, .bool, .bool, .bool, .bool, (.int .i64), (.int .i64), .any, .any, (.int .i64), .bool, (.int .i64)]) [8] (.load (some 13) (.tmp 8)) <|
 .op (some 44) (.int .i64) [42, 43] (.call 134 [(.tmp 42), (.tmp 43)]) <|
 .op (some 9) .any [44] (.mov (.tmp 44)) <|
 .nil) [0, 1, 3, 0, 15, 31])
 (.seq (.ops (.op (some 10) .any [] (.mov (.con (V.int .i64 (Int.ofNat 0)))) <|
 .nil))
 (.seq (.seq (.ops (.op (some 45) .any [4] (.faddr 0 (.tmp 4)) <|
 .op (some 46) (.int .i64) [45] (.load none (.tmp 45)) <|
 .nil))
 (.block 0 (.seq (.ops (.op (some 48) .any [46] (.bin .eql .none (.tmp 46) (.con (V.int .i64 (Int.ofNat 2)))) <|
 .op (some 47) .any [48] (.mov (.tmp 48)) <|
 .nil))
 (.cond (.tmp 47) (.ops (.op (some 49) .any [4] (.faddr 5 (.tmp 4)) <|
 .op (some 50) (.agg [.bool, .bool, .bool, .bool, (.int .i64), (.int .i64)]) [49] (.load (some 6) (.tmp 49)) <|
 .op (some 51) (.int .i64) [50] (.call 135 [(.tmp 50), (.con (V.bool false))]) <|
 .op (some 10) .any [51] (.mov (.tmp 51)) <|
 .nil))
 (.seq (.seq (.ops (.op (some 53) .any [46] (.bin .eql .none (.tmp 46) (.con (V.int .i64 (Int.ofNat 5)))) <|
 .op (some 52) .any [53] (.mov (.tmp 53)) <|
 .nil))
 (.cond (.tmp 52) .skip
 (.ops (.op (some 54) .any [46] (.bin .eql .none (.tmp 46) (.con (V.int .i64 (Int.ofNat 6)))) <|
 .op (some 52) .any [54] (.mov (.tmp 54)) <|
 .nil))))
 (.keep [(0, .ptr), (2, (.int .i64)), (4, .ptr), (9, (.int .i64)), (10, (.int .i64)), (46, (.int .i64)), (52, .bool)] [] [] cc3))))))
 (.keep [(9, (.int .i64)), (10, (.int .i64))] [] [] cc2))))
def C101_2 : XC := (.seq (.ops (.op (some 107) .any [9] (.mov (.tmp 9)) <|
 .op (some 108) .any [10] (.mov (.tmp 10)) <|
 .op (some 6) .any [107] (.mov (.tmp 107)) <|
 .op (some 7) .any [108] (.mov (.tmp 108)) <|
 .nil))
 .ret)
def C101_3 (cc4 : XC) : XC := (.cond (.tmp 52) (.ops (.op (some 55) .any [4] (.faddr 5 (.tmp 4)) <|
 .op (some 56) (.agg [.bool, .bool, .bool, .bool, (.int .i64), (.int .i64)]) [55] (.load (some 6) (.tmp 55)) <|
 .op (some 57) (.int .i64) [56] (.call 135 [(.tmp 56), (.con (V.bool true))]) <|
 .op (some 10) .any [57] (.mov (.tmp 57)) <|
 .nil))
 (.seq (.ops (.op (some 59) .any [46] (.bin .eql .none (.tmp 46) (.con (V.int .i64 (Int.ofNat 10)))) <|
 .op (some 58) .any [59] (.mov (.tmp 59)) <|
 .nil))
 (.cond (.tmp 58) (.seq (.ops (.op (some 60) .any [4] (.faddr 5 (.tmp 4)) <|
 .op (some 61) (.agg [.bool, .bool, .bool, .bool, (.int .i64), (.int .i64)]) [60] (.load (some 6) (.tmp 60)) <|
 .op (some 62) (.int .i64) [61] (.call 135 [(.tmp 61), (.con (V.bool true))]) <|
 .op (some 10) .any [62] (.mov (.tmp 62)) <|
 .nil))
 (.seq (.ops (.op (some 63) .any [10] (.mov (.tmp 10)) <|
 .op (some 64) .any [63] (.bin .eql .none (.tmp 63) (.con (V.int .i64 (Int.ofNat 0)))) <|
 .nil))
 (.cond (.tmp 64) (.seq (.ops (.op (some 11) .any [] (.mov (.con (V.int .i64 (Int.ofNat 0)))) <|
 .nil))
 (.seq (.ops (.op (some 66) .any [0] (.mov (.tmp 0)) <|
 .op (some 67) .any [4] (.faddr 15 (.tmp 4)) <|
 .op (some 68) (.int .i64) [67] (.load none (.tmp 67)) <|
 .op (some 69) .any [2] (.mov (.tmp 2)) <|
 .op (some 70) .any [69] (.bin .add .none (.tmp 69) (.con (V.int .i64 (Int.ofNat 1)))) <|
 .op (some 71) (.tup [(.int .i64), (.int .i64)]) [66, 68, 70] (.call 69 [(.tmp 66), (.tmp 68), (.tmp 70)]) <|
 .op (some 65) .any [71] (.mov (.tmp 71)) <|
 .op (some 72) .any [65] (.extract 0 (.tmp 65)) <|
 .op (some 73) .any [65] (.extract 1 (.tmp 65)) <|
 .op (some 11) .any [72] (.mov (.tmp 72)) <|
 .op (some 10) .any [73] (.mov (.tmp 73)) <|
 .nil))
 (.ops (.op (some 74) .any [0] (.mov (.tmp 0)) <|
 .op (some 75) .any [74] (.nilck (.tmp 74)) <|
 .op (some 76) .any [75] (.faddr 0 (.tmp 75)) <|
 .op (some 77) .any [76] (.faddr 0 (.tmp 76)) <|
 .op (some 78) .any [77] (.load none (.tmp 77)) <|
 .op (some 79) .any [9] (.mov (.tmp 9)) <|
 .op (some 80) .any [11] (.mov (.tmp 11)) <|
 .op (some 81) .any [78, 79] (.iaddrS 13 (.tmp 78) (.tmp 79)) <|
 .op (some 82) .any [81] (.faddr 12 (.tmp 81)) <|
 .op none .any [82, 80] (.store 1 (.tmp 82) (.tmp 80)) <|
 .nil))))
 .skip)))
 (.seq (.ops (.op (some 84) .any [46] (.bin .eql .none (.tmp 46) (.con (V.int .i64 (Int.ofNat 3)))) <|
 .op (some 83) .any [84] (.mov (.tmp 84)) <|
 .nil))
 (.cond (.tmp 83) (.keep [(0, .ptr), (4, .ptr), (9, (.int .i64))] [] [] (.gdraw G101_0 H101_0 [(9, (.int .i64)), (10, (.int .i64))]))
 (.seq (.seq (.ops (.op (some 99) .any [46] (.bin .eql .none (.tmp 46) (.con (V.int .i64 (Int.ofNat 7)))) <|
 .op (some 98) .any [99] (.mov (.tmp 99)) <|
 .nil))
 (.cond (.tmp 98) .skip
 (.seq (.ops (.op (some 100) .any [46] (.bin .eql .none (.tmp 46) (.con (V.int .i64 (Int.ofNat 8)))) <|
 .op (some 98) .any [100] (.mov (.tmp 100)) <|
 .nil))
 (.cond (.tmp 98) .skip
 (.ops (.op (some 101) .any [46] (.bin .eql .none (.tmp 46) (.con (V.int .i64 (Int.ofNat 9)))) <|
 .op (some 98) .any [101] (.mov (.tmp 101)) <|
 .nil))))))
 (.keep [(0, .ptr), (2, (.int .i64)), (4, .ptr), (9, (.int .i64)), (10, (.int .i64)), (98, .bool)] [] [] cc4)))))))
def C101_4 : XC := (.cond (.tmp 98) (.ops (.op (some 102) .any [0] (.mov (.tmp 0)) <|
 .op (some 103) .any [9] (.mov (.tmp 9)) <|
 .op (some 104) (.agg [(.int .i64), .str, .bool, (.int .i64), (.int .i64), .bool, .bool, .bool, .bool, (.int .i64), (.int .i64), .any, .any, (.int .i64), .bool, (.int .i64)]) [4] (.load (some 16) (.tmp 4)) <|
 .op (some 105) .any [2] (.mov (.tmp 2)) <|
 .op (some 106) (.int .i64) [102, 103, 104, 105] (.call 137 [(.tmp 102), (.tmp 103), (.tmp 104), (.tmp 105)]) <|
 .op (some 10) .any [106] (.mov (.tmp 106)) <|
 .nil))
 .skip)
def A101 : XFn := ⟨109, [.ptr, (.agg [(.int .i64), .str, .bool, (.int .i64), (.int .i64), .bool, .bool, .bool, .bool, (.int .i64), (.int .i64), .any, .any, (.int .i64), .bool, (.int .i64)]), (.int .i64)], [(.tmp 6), (.tmp 7)], (C101_0 (C101_1 C101_2 (C101_3 C101_4)))⟩
def C102_0 (cc1 : XC) : XC := (.seq (.ops (.op (some 5) .any [2] (.box 201 (.tmp 2)) <|
 .op (some 6) .any [] (.mov (.con (V.int .i64 (Int.ofNat 0)))) <|
 .nil))
 (.seq (.seq (.ops (.op (some 8) .any [5] (.faddr 0 (.tmp 5)) <|
 .op (some 9) .bool [8] (.load none (.tmp 8)) <|
 .op (some 10) .any [9] (.un .not (.tmp 9)) <|
 .nil))
 (.cond (.tmp 10) (.seq (.ops (.op (some 6) .any [] (.mov (.con (V.int .i64 (Int.ofNat 0)))) <|
 .nil))
 .ret)
 .skip))
 (.seq (.ops (.op (some 7) .any [] (.mov (.con (V.int .i64 (Int.ofNat 0)))) <|
 .nil))
 (.seq (.block 0 (.seq (.ops (.op (some 12) .any [5] (.faddr 2 (.tmp 5)) <|
 .op (some 13) (.int .i64) [12] (.load none (.tmp 12)) <|
 .op (some 14) .any [13] (.bin .eql .none (.tmp 13) (.con (V.int .i64 (Int.ofNat 2)))) <|
 .op (some 11) .any [14] (.mov (.tmp 14)) <|
 .nil))
 (.cond (.tmp 11) (.ops (.op (some 7) .any [] (.mov (.con (V.int .i64 (Int.ofNat 1)))) <|
 .nil))
 (.seq (.ops (.op (some 16) .any [5] (.faddr 2 (.tmp 5)) <|
 .op (some 17) (.int .i64) [16] (.load none (.tmp 16)) <|
 .op (some 18) .any [17] (.bin .eql .none (.tmp 17) (.con (V.int .i64 (Int.ofNat 0)))) <|
 .op (some 19) .any [18] (.mov (.tmp 18)) <|
 .grp 19 true (.op (some 20) .any [0, 19] (.mov (.tmp 0)) <|
 .op (some 21) .any [20, 19] (.nilck (.tmp 20)) <|
 .op (some 22) .any [21, 19] (.faddr 1 (.tmp 21)) <|
 .op (some 23) .any [22, 19] (.faddr 1 (.tmp 22)) <|
 .op (some 24) (.int .i64) [23, 19] (.load none (.tmp 23)) <|
 .op (some 25) .any [24, 19] (.bin .neq .none (.tmp 24) (.con (V.int .i64 (Int.ofNat 0)))) <|
 .nil) 26 [19, 25] (.tmp 19) (.tmp 25) (.con (V.bool false)) <|
 .op (some 15) .any [26] (.mov (.tmp 26)) <|
 .nil))
 (.cond (.tmp 15) (.ops (.op (some 27) .any [0] (.mov (.tmp 0)) <|
 .op (some 28) .any [1] (.mov (.tmp 1)) <|
 .op (some 29) (.int .i64) [27, 28] (.call 138 [(.tmp 27), (.tmp 28)]) <|
 .op (some 7) .any [29] (.mov (.tmp 29)) <|
 .nil))
 .skip)))))
 (.keep [(0, .ptr), (1, (.int .i64)), (5, .ptr), (7, (.int .i64))] [] [] cc1)))))
def C102_1 : XC := (.seq (.ops (.op (some 30) .any [0] (.mov (.tmp 0)) <|
 .op (some 31) .any [1] (.mov (.tmp 1)) <|
 .op (some 32) .any [5] (.faddr 1 (.tmp 5)) <|
 .op (some 33) (.int .i64) [32] (.load none (.tmp 32)) <|
 .op (some 34) .any [7] (.mov (.tmp 7)) <|
 .op (some 35) (.int .i64) [30, 31, 33, 34] (.call 139 [(.tmp 30), (.tmp 31), (.tmp 33), (.tmp 34)]) <|
 .op (some 6) .any [35] (.mov (.tmp 35)) <|
 .nil))
 .ret)
def A102 : XFn := ⟨36, [.ptr, (.int .i64), (.agg [.bool, (.int .i64), (.int .i64)])], [(.tmp 6)], (C102_0 C102_1)⟩
def C103_0 : XC := (.seq (.ops (.op (some 3) .any [1] (.box 201 (.tmp 1)) <|
 .nil))
 (.seq (.seq (.ops (.op (some 4) .any [3] (.faddr 0 (.tmp 3)) <|
 .op (some 5) .bool [4] (.load none (.tmp 4)) <|
 .op (some 6) .any [5] (.un .not (.tmp 5)) <|
 .nil))
 (.cond (.tmp 6) .ret
 .skip))
 (.seq (.ops (.op (some 7) .any [0] (.mov (.tmp 0)) <|
 .op (some 8) .any [7] (.nilck (.tmp 7)) <|
 .op (some 9) .any [8] (.faddr 0 (.tmp 8)) <|
 .op (some 10) .any [] (.buildSlice 9 1 [(V.str ⟨0, 0⟩)] [(0, 1, (.con (V.str ⟨1, 91⟩)))]) <|
 .op (some 11) (.tup []) [9, 10] (.call 71 [(.tmp 9), (.tmp 10)]) <|
 .nil))
 (.seq (.draw (.op (some 12) .any [0] (.mov (.tmp 0)) <|
 .op (some 13) .any [12] (.nilck (.tmp 12)) <|
 .op (some 14) .any [13] (.faddr 0 (.tmp 13)) <|
 .op (some 15) .any [3] (.faddr 1 (.tmp 3)) <|
 .op (some 16) (.int .i64) [15] (.load none (.tmp 15)) <|
 .op (some 17) (.tup []) [14, 16] (.call 140 [(.tmp 14), (.tmp 16)]) <|
 .nil) [0, 1, 3, 0, 8, 31])
 (.seq (.ops (.op (some 18) .any [0] (.mov (.tmp 0)) <|
 .op (some 19) .any [18] (.nilck (.tmp 18)) <|
 .op (some 20) .any [19] (.faddr 0 (.tmp 19)) <|
 .op (some 21) .any [] (.buildSlice 9 1 [(V.str ⟨0, 0⟩)] [(0, 1, (.con (V.str ⟨2, 8285⟩)))]) <|
 .op (some 22) (.tup []) [20, 21] (.call 71 [(.tmp 20), (.tmp 21)]) <|
 .nil))
 (.seq (.ops (.op (some 23) .any [3] (.faddr 2 (.tmp 3)) <|
 .op (some 24) (.int .i64) [23] (.load none (.tmp 23)) <|
 .nil))
 (.block 0 (.seq (.ops (.op (some 26) .any [24] (.bin .eql .none (.tmp 24) (.con (V.int .i64 (Int.ofNat 1)))) <|
 .op (some 25) .any [26] (.mov (.tmp 26)) <|
 .nil))
 (.cond (.tmp 25) (.ops (.op (some 27) .any [0] (.mov (.tmp 0)) <|
 .op (some 28) .any [27] (.nilck (.tmp 27)) <|
 .op (some 29) .any [28] (.faddr 0 (.tmp 28)) <|
 .op (some 30) .any [] (.buildSlice 9 1 [(V.str ⟨0, 0⟩)] [(0, 1, (.con (V.str ⟨9, 596369269913283483717⟩)))]) <|
 .op (some 31) (.tup []) [29, 30] (.call 71 [(.tmp 29), (.tmp 30)]) <|
 .nil))
 (.seq (.ops (.op (some 33) .any [24] (.bin .eql .none (.tmp 24) (.con (V.int .i64 (Int.ofNat 2)))) <|
 .op (some 32) .any [33] (.mov (.tmp 33)) <|
 .nil))
 (.cond (.tmp 32) (.ops (.op (some 34) .any [0] (.mov (.tmp 0)) <|
 .op (some 35) .any [34] (.nilck (.tmp 34)) <|
 .op (some 36) .any [35] (.faddr 0 (.tmp 35)) <|
 .op (some 37) .any [] (.buildSlice 9 1 [(V.str ⟨0, 0⟩)] [(0, 1, (.con (V.str ⟨9, 596369269913283480905⟩)))]) <|
 .op (some 38) (.tup []) [36, 37] (.call 71 [(.tmp 36), (.tmp 37)]) <|
 .nil))
 .skip)))))))))))
def A103 : XFn := ⟨39, [.ptr, (.agg [.bool, (.int .i64), (.int .i64)])], [], C103_0⟩
def C105_0 : XC := (.seq (.ops (.op (some 2) .any [0] (.box 157 (.tmp 0)) <|
 .op (some 3) .any [1] (.box 203 (.tmp 1)) <|
 .nil))
 (.seq (.ops (.op (some 4) .any [2] (.load none (.tmp 2)) <|
 .op (some 5) .any [4] (.nilck (.tmp 4)) <|
 .op (some 6) .any [5] (.faddr 0 (.tmp 5)) <|
 .op (some 7) .any [] (.buildSlice 9 1 [(V.str ⟨0, 0⟩)] [(0, 1, (.con (V.str ⟨13, 2573406864690529315032254467653⟩)))]) <|
 .op (some 8) (.tup []) [6, 7] (.call 71 [(.tmp 6), (.tmp 7)]) <|
 .nil))
 (.seq (.ops (.op (some 9) .any [2] (.load none (.tmp 2)) <|
 .op (some 10) .any [3] (.faddr 11 (.tmp 3)) <|
 .op (some 11) .any [10] (.load none (.tmp 10)) <|
 .op (some 12) .any [11] (.len false (.tmp 11)) <|
 .op (some 13) .any [3] (.faddr 13 (.tmp 3)) <|
 .op (some 14) (.int .i64) [13] (.load none (.tmp 13)) <|
 .op (some 15) .any [3] (.faddr 14 (.tmp 3)) <|
 .op (some 16) .bool [15] (.load none (.tmp 15)) <|
 .op (some 17) .any [2, 3] (.mkfn 143 [] [(.tmp 2), (.tmp 3)]) <|
 .op (some 18) (.tup []) [9, 12, 14, 16, 17] (.call 142 [(.tmp 9), (.tmp 12), (.tmp 14), (.tmp 16), (.tmp 17)]) <|
 .nil))
 (.ops (.op (some 19) .any [2] (.load none (.tmp 2)) <|
 .op (some 20) .any [19] (.nilck (.tmp 19)) <|
 .op (some 21) .any [20] (.faddr 0 (.tmp 20)) <|
 .op (some 22) .any [] (.buildSlice 9 1 [(V.str ⟨0, 0⟩)] [(0, 1, (.con (V.str ⟨2, 32032⟩)))]) <|
 .op (some 23) (.tup []) [21, 22] (.call 71 [(.tmp 21), (.tmp 22)]) <|
 .nil)))))
def A105 : XFn := ⟨24, [.any, (.agg [(.int .i64), .str, .bool, (.int .i64), (.int .i64), .bool, .bool, .bool, .bool, (.int .i64), (.int .i64), .any, .any, (.int .i64), .bool, (.int .i64)])], [], C105_0⟩
def C107_0 (cc1 : XC) (cc2 : XC) : XC := (.seq (.ops (.op (some 6) .any [] (.mov (.con (V.bool false))) <|
 .nil))
 (.seq (.ops (.op (some 11) .any [0] (.mov (.tmp 0)) <|
 .op (some 12) .any [11] (.nilck (.tmp 11)) <|
 .op (some 13) .any [12] (.faddr 0 (.tmp 12)) <|
 .op (some 14) (.agg [.str, .any, .any, .any, .str, .any, .any, .any]) [13] (.load (some 8) (.tmp 13)) <|
 .op (some 15) .any [1] (.mov (.tmp 1)) <|
 .op (some 16) .any [2] (.mov (.tmp 2)) <|
 .op (some 17) (.tup [(.agg [(.int .i64), .any, .bool, .bool, .bool, .bool, (.int .i64), (.int .i64), .any, .any, (.int .i64), .bool, (.int .i64)]), (.agg [(.int .i64), .any, .bool, .bool, .bool, .bool, (.int .i64), (.int .i64), .any, .any, (.int .i64), .bool, (.int .i64)]), .bool]) [14, 15, 16] (.call 145 [(.tmp 14), (.tmp 15), (.tmp 16)]) <|
 .op (some 10) .any [17] (.mov (.tmp 17)) <|
 .op (some 18) .any [10] (.extract 0 (.tmp 10)) <|
 .op (some 19) .any [10] (.extract 1 (.tmp 10)) <|
 .op (some 20) .any [10] (.extract 2 (.tmp 10)) <|
 .pal 7 [] 93 [(V.int .i64 (Int.ofNat 0)), V.nils, (V.bool false), (V.bool false), (V.bool false), (V.bool false), (V.int .i64 (Int.ofNat 0)), (V.int .i64 (Int.ofNat 0)), V.nils, V.nils, (V.int .i64 (Int.ofNat 0)), (V.bool false), (V.int .i64 (Int.ofNat 0))] <|
 .pal 8 [] 93 [(V.int .i64 (Int.ofNat 0)), V.nils, (V.bool false), (V.bool false), (V.bool false), (V.bool false), (V.int .i64 (Int.ofNat 0)), (V.int .i64 (Int.ofNat 0)), V.nils, V.nils, (V.int .i64 (Int.ofNat 0)), (V.bool false), (V.int .i64 (Int.ofNat 0))] <|
 .op none (.agg [(.int .i64), .any, .bool, .bool, .bool, .bool, (.int .i64), (.int .i64), .any, .any, (.int .i64), .bool, (.int .i64)]) [7, 18] (.store 13 (.tmp 7) (.tmp 18)) <|
 .op none (.agg [(.int .i64), .any, .bool, .bool, .bool, .bool, (.int .i64), (.int .i64), .any, .any, (.int .i64), .bool, (.int .i64)]) [8, 19] (.store 13 (.tmp 8) (.tmp 19)) <|
 .op (some 9) .any [20] (.mov (.tmp 20)) <|
 .nil))
 (.seq (.seq (.ops (.op (some 21) .any [0] (.mov (.tmp 0)) <|
 .op (some 22) .any [21] (.nilck (.tmp 21)) <|
 .op (some 23) .any [22] (.faddr 8 (.tmp 22)) <|
 .op (some 24) (.int .i64) [23] (.load none (.tmp 23)) <|
 .op (some 25) .any [24] (.bin .sub .none (.tmp 24) (.con (V.int .i64 (Int.ofNat 1)))) <|
 .op (some 26) .any [21] (.nilck (.tmp 21)) <|
 .op (some 27) .any [26] (.faddr 8 (.tmp 26)) <|
 .op none .any [27, 25] (.store 1 (.tmp 27) (.tmp 25)) <|
 .nil))
 (.seq (.ops (.op (some 28) .any [9] (.mov (.tmp 9)) <|
 .op (some 29) .any [28] (.un .not (.tmp 28)) <|
 .op (some 30) .any [29] (.mov (.tmp 29)) <|
 .grp 30 false (.op (some 31) .any [0, 30] (.mov (.tmp 0)) <|
 .op (some 32) .any [31, 30] (.nilck (.tmp 31)) <|
 .op (some 33) .any [32, 30] (.faddr 8 (.tmp 32)) <|
 .op (some 34) (.int .i64) [33, 30] (.load none (.tmp 33)) <|
 .op (some 35) .any [34, 30] (.bin .lss .none (.tmp 34) (.con (V.int .i64 (Int.ofNat 0)))) <|
 .nil) 36 [30, 35] (.tmp 30) (.con (V.bool true)) (.tmp 35) <|
 .op (some 37) .any [36] (.mov (.tmp 36)) <|
 .grp 37 false (.op (some 38) .any [7, 37] (.faddr 0 (.tmp 7)) <|
 .op (some 39) (.int .i64) [38, 37] (.load none (.tmp 38)) <|
 .op (some 40) .any [8, 37] (.faddr 0 (.tmp 8)) <|
 .op (some 41) (.int .i64) [40, 37] (.load none (.tmp 40)) <|
 .op (some 42) .any [39, 41, 37] (.bin .neq .none (.tmp 39) (.tmp 41)) <|
 .nil) 43 [37, 42] (.tmp 37) (.con (V.bool true)) (.tmp 42) <|
 .op (some 44) .any [43] (.mov (.tmp 43)) <|
 .grp 44 false (.op (some 45) .any [7, 44] (.faddr 1 (.tmp 7)) <|
 .op (some 46) .any [45, 44] (.load none (.tmp 45)) <|
 .op (some 47) .any [8, 44] (.faddr 1 (.tmp 8)) <|
 .op (some 48) .any [47, 44] (.load none (.tmp 47)) <|
 .op (some 49) .bool [46, 48, 44] (.call 146 [(.tmp 46), (.tmp 48)]) <|
 .op (some 50) .any [49, 44] (.un .not (.tmp 49)) <|
 .nil) 51 [44, 50] (.tmp 44) (.con (V.bool true)) (.tmp 50) <|
 .op (some 52) .any [51] (.mov (.tmp 51)) <|
 .grp 52 false (.op (some 53) .any [7, 52] (.faddr 2 (.tmp 7)) <|
 .op (some 54) (.agg [.bool, .bool, .bool, .bool, (.int .i64), (.int .i64)]) [53, 52] (.load (some 6) (.tmp 53)) <|
 .op (some 55) .any [8, 52] (.faddr 2 (.tmp 8)) <|
 .op (some 56) (.agg [.bool, .bool, .bool, .bool, (.int .i64), (.int .i64)]) [55, 52] (.load (some 6) (.tmp 55)) <|
 .op (some 57) .any [54, 56, 52] (.bin .neq (.flat [(0, .bool), (1, .bool), (2, .bool), (3, .bool), (4, .int), (5, .int)]) (.tmp 54) (.tmp 56)) <|
 .nil) 58 [52, 57] (.tmp 52) (.con (V.bool true)) (.tmp 57) <|
 .op (some 59) .any [58] (.mov (.tmp 58)) <|
 .grp 59 false (.op (some 60) .any [7, 59] (.faddr 11 (.tmp 7)) <|
 .op (some 61) .bool [60, 59] (.load none (.tmp 60)) <|
 .op (some 62) .any [8, 59] (.faddr 11 (.tmp 8)) <|
 .op (some 63) .bool [62, 59] (.load none (.tmp 62)) <|
 .op (some 64) .any [61, 63, 59] (.bin .neq .bool (.tmp 61) (.tmp 63)) <|
 .nil) 65 [59, 64] (.tmp 59) (.con (V.bool true)) (.tmp 64) <|
 .nil))
 (.cond (.tmp 65) (.seq (.ops (.op (some 6) .any [] (.mov (.con (V.bool false))) <|
 .nil))
 .ret)
 .skip)))
 (.seq (.seq (.ops (.op (some 66) .any [7] (.faddr 0 (.tmp 7)) <|
 .op (some 67) (.int .i64) [66] (.load none (.tmp 66)) <|
 .nil))
 (.block 0 (.seq (.ops (.op (some 69) .any [67] (.bin .eql .none (.tmp 67) (.con (V.int .i64 (Int.ofNat 10)))) <|
 .op (some 68) .any [69] (.mov (.tmp 69)) <|
 .nil))
 (.cond (.tmp 68) (.seq (.ops (.op (some 70) .any [0] (.mov (.tmp 0)) <|
 .op (some 71) .any [7] (.faddr 12 (.tmp 7)) <|
 .op (some 72) (.int .i64) [71] (.load none (.tmp 71)) <|
 .op (some 73) .any [8] (.faddr 12 (.tmp 8)) <|
 .op (some 74) (.int .i64) [73] (.load none (.tmp 73)) <|
 .op (some 75) .bool [70, 72, 74] (.call 107 [(.tmp 70), (.tmp 72), (.tmp 74)]) <|
 .op (some 6) .any [75] (.mov (.tmp 75)) <|
 .nil))
 .ret)
 (.seq (.ops (.op (some 77) .any [67] (.bin .eql .none (.tmp 67) (.con (V.int .i64 (Int.ofNat 3)))) <|
 .op (some 76) .any [77] (.mov (.tmp 77)) <|
 .nil))
 (.cond (.tmp 76) (.seq (.ops (.op (some 78) (.agg [(.int .i64), .any, .bool, .bool, .bool, .bool, (.int .i64), (.int .i64), .any, .any, (.int .i64), .bool, (.int .i64)]) [7] (.load (some 13) (.tmp 7)) <|
 .op (some 79) (.agg [(.int .i64), .any, .bool, .bool, .bool, .bool, (.int .i64), (.int .i64), .any, .any, (.int .i64), .bool, (.int .i64)]) [8] (.load (some 13) (.tmp 8)) <|
 .op (some 80) .bool [78, 79] (.call 147 [(.tmp 78), (.tmp 79)]) <|
 .op (some 6) .any [80] (.mov (.tmp 80)) <|
 .nil))
 .ret)
 (.seq (.seq (.ops (.op (some 82) .any [67] (.bin .eql .none (.tmp 67) (.con (V.int .i64 (Int.ofNat 7)))) <|
 .op (some 81) .any [82] (.mov (.tmp 82)) <|
 .nil))
 (.cond (.tmp 81) .skip
 (.seq (.ops (.op (some 83) .any [67] (.bin .eql .none (.tmp 67) (.con (V.int .i64 (Int.ofNat 8)))) <|
 .op (some 81) .any [83] (.mov (.tmp 83)) <|
 .nil))
 (.cond (.tmp 81) .skip
 (.ops (.op (some 84) .any [67] (.bin .eql .none (.tmp 67) (.con (V.int .i64 (Int.ofNat 9)))) <|
 .op (some 81) .any [84] (.mov (.tmp 84)) <|
 .nil))))))
 (.keep [(0, .ptr), (81, .bool)] [7, 8] [(7, [(.int .i64), .any, .bool, .bool, .bool, .bool, (.int .i64), (.int .i64), .any, .any, (.int .i64), .bool, (.int .i64)]), (8, [(.int .i64), .any, .bool, .bool, .bool, .bool, (.int .i64), (.int .i64), .any, .any, (.int .i64), .bool, (.int .i64)])] cc2))))))))
 (.keep [] [] [] cc1)))))
def C107_1 : XC := (.seq (.ops (.op (some 6) .any [] (.mov (.con (V.bool true))) <|
 .nil))
 .ret)
def C107_2 : XC := (.cond (.tmp 81) (.seq (.ops (.op (some 85) .any [0] (.mov (.tmp 0)) <|
 .op (some 86) (.agg [(.int .i64), .any, .bool, .bool, .bool, .bool, (.int .i64), (.int .i64), .any, .any, (.int .i64), .bool, (.int .i64)]) [7] (.load (some 13) (.tmp 7)) <|
 .op (some 87) (.agg [(.int .i64), .any, .bool, .bool, .bool, .bool, (.int .i64), (.int .i64), .any, .any, (.int .i64), .bool, (.int .i64)]) [8] (.load (some 13) (.tmp 8)) <|
 .op (some 88) .bool [85, 86, 87] (.call 148 [(.tmp 85), (.tmp 86), (.tmp 87)]) <|
 .op (some 6) .any [88] (.mov (.tmp 88)) <|
 .nil))
 .ret)
 .skip)
def A107 : XFn := ⟨89, [.ptr, (.int .i64), (.int .i64)], [(.tmp 6)], (C107_0 C107_1 C107_2)⟩
def C108_0 (cc1 : XC) (cc2 : XC) : XC := (.seq (.ops (.op (some 4) .any [] (.mov (.con (V.int .i64 (Int.ofNat 0)))) <|
 .nil))
 (.seq (.seq (.ops (.op (some 6) .any [0] (.mov (.tmp 0)) <|
 .op (some 7) .any [6] (.len false (.tmp 6)) <|
 .op (some 8) .any [] (.mov (.con (V.int .i64 (Int.ofNat 0)))) <|
 .nil))
 (.block 0 (.loop [(0, .any), (1, .str), (7, (.int .i64)), (8, (.int .i64))] [] [] cc2)))
 (.keep [] [] [] cc1)))
def C108_1 : XC := (.seq (.ops (.op (some 4) .any [] (.mov (.con (V.int .i64 (Int.negSucc 0)))) <|
 .nil))
 .ret)
def C108_2 : XC := (.seq (.ops (.op (some 9) .any [8, 7] (.bin .lss .none (.tmp 8) (.tmp 7)) <|
 .nil))
 (.seq (.cond (.tmp 9) .skip
 (.exit 0))
 (.seq (.block 1 (.seq (.ops (.op (some 10) .any [8] (.mov (.tmp 8)) <|
 .op (some 5) .any [10] (.mov (.tmp 10)) <|
 .nil))
 (.seq (.ops (.op (some 11) .any [1] (.mov (.tmp 1)) <|
 .op (some 12) .any [0] (.mov (.tmp 0)) <|
 .op (some 13) .any [5] (.mov (.tmp 5)) <|
 .op (some 14) .any [12, 13] (.iaddrS 1 (.tmp 12) (.tmp 13)) <|
 .op (some 15) .str [14] (.load none (.tmp 14)) <|
 .op (some 16) .any [11, 15] (.bin .eql .none (.tmp 11) (.tmp 15)) <|
 .nil))
 (.cond (.tmp 16) (.seq (.ops (.op (some 17) .any [5] (.mov (.tmp 5)) <|
 .op (some 4) .any [17] (.mov (.tmp 17)) <|
 .nil))
 .ret)
 .skip))))
 (.ops (.op (some 18) .any [8] (.bin .add .none (.tmp 8) (.con (V.int .i64 (Int.ofNat 1)))) <|
 .op (some 8) .any [18] (.mov (.tmp 18)) <|
 .nil)))))
def A108 : XFn := ⟨19, [.any, .str], [(.tmp 4)], (C108_0 C108_1 C108_2)⟩
def C109_0 : XC := (.seq (.ops (.op (some 2) .any [] (.mov (.con (V.bool false))) <|
 .nil))
 (.seq (.ops (.op (some 3) .any [0] (.mov (.tmp 0)) <|
 .op (some 4) .any [0] (.mov (.tmp 0)) <|
 .op (some 5) .any [3, 4] (.bin .neq .none (.tmp 3) (.tmp 4)) <|
 .op (some 2) .any [5] (.mov (.tmp 5)) <|
 .nil))
 .ret))
def A109 : XFn := ⟨6, [.str], [(.tmp 2)], C109_0⟩
def C115_0 : XC := (.seq (.ops (.op (some 4) .any [] (.mov (.con (V.int .u8 (Int.ofNat 0)))) <|
 .nil))
 (.seq (.seq (.draw (.op (some 5) .any [0] (.mov (.tmp 0)) <|
 .op (some 6) .any [5] (.nilck (.tmp 5)) <|
 .op (some 7) .any [6] (.faddr 1 (.tmp 6)) <|
 .op (some 8) (.int .i64) [7] (.load none (.tmp 7)) <|
 .op (some 9) .any [1] (.mov (.tmp 1)) <|
 .op (some 10) .any [8, 9] (.bin .add .none (.tmp 8) (.tmp 9)) <|
 .op (some 11) .any [0] (.mov (.tmp 0)) <|
 .op (some 12) .any [11] (.nilck (.tmp 11)) <|
 .op (some 13) .any [12] (.faddr 0 (.tmp 12)) <|
 .op (some 14) .str [13] (.load none (.tmp 13)) <|
 .op (some 15) .any [14] (.len true (.tmp 14)) <|
 .op (some 16) .any [10, 15] (.bin .geq .none (.tmp 10) (.tmp 15)) <|
 .nil) [0, 1, 3, 7, 0, 31, 0, 64, 192, 448, 960, 2047])
 (.cond (.tmp 16) (.seq (.ops (.op (some 4) .any [] (.mov (.con (V.int .u8 (Int.ofNat 0)))) <|
 .nil))
 .ret)
 .skip))
 (.seq (.draw (.op (some 17) .any [0] (.mov (.tmp 0)) <|
 .op (some 18) .any [17] (.nilck (.tmp 17)) <|
 .op (some 19) .any [18] (.faddr 0 (.tmp 18)) <|
 .op (some 20) .str [19] (.load none (.tmp 19)) <|
 .op (some 21) .any [0] (.mov (.tmp 0)) <|
 .op (some 22) .any [21] (.nilck (.tmp 21)) <|
 .op (some 23) .any [22] (.faddr 1 (.tmp 22)) <|
 .op (some 24) (.int .i64) [23] (.load none (.tmp 23)) <|
 .op (some 25) .any [1] (.mov (.tmp 1)) <|
 .op (some 26) .any [24, 25] (.bin .add .none (.tmp 24) (.tmp 25)) <|
 .op (some 27) .any [20, 26] (.idxStr (.tmp 20) (.tmp 26)) <|
 .op (some 4) .any [27] (.mov (.tmp 27)) <|
 .nil) [0, 1, 3, 7, 0, 16, 48, 112, 0, 496, 1023, 2047])
 .ret)))
def A115 : XFn := ⟨28, [.ptr, (.int .i64)], [(.tmp 4)], C115_0⟩
def C116_0 : XC := (.seq (.ops (.op (some 4) .any [] (.mov (.con (V.bool false))) <|
 .nil))
 (.seq (.draw (.op (some 5) .any [0] (.mov (.tmp 0)) <|
 .op (some 6) .any [5] (.nilck (.tmp 5)) <|
 .op (some 7) .any [6] (.faddr 0 (.tmp 6)) <|
 .op (some 8) .str [7] (.load none (.tmp 7)) <|
 .op (some 9) .any [0] (.mov (.tmp 0)) <|
 .op (some 10) .any [9] (.nilck (.tmp 9)) <|
 .op (some 11) .any [10] (.faddr 1 (.tmp 10)) <|
 .op (some 12) (.int .i64) [11] (.load none (.tmp 11)) <|
 .op (some 13) .any [8, 12] (.sliceStr (.tmp 8) (some (.tmp 12)) none) <|
 .op (some 14) .any [1] (.mov (.tmp 1)) <|
 .op (some 15) .bool [13, 14] (.call 150 [(.tmp 13), (.tmp 14)]) <|
 .op (some 4) .any [15] (.mov (.tmp 15)) <|
 .nil) [0, 1, 3, 7, 0, 16, 48, 112, 255, 0, 1023, 2047])
 .ret))
def A116 : XFn := ⟨16, [.ptr, .str], [(.tmp 4)], C116_0⟩
def C117_0 : XC := (.seq (.ops (.op (some 2) .any [] (.mov (.con (V.bool false))) <|
 .nil))
 (.seq (.ops (.op (some 3) .any [0] (.mov (.tmp 0)) <|
 .op (some 4) .any [3] (.bin .geq .none (.tmp 3) (.con (V.int .u8 (Int.ofNat 97)))) <|
 .op (some 5) .any [4] (.mov (.tmp 4)) <|
 .grp 5 true (.op (some 6) .any [0, 5] (.mov (.tmp 0)) <|
 .op (some 7) .any [6, 5] (.bin .leq .none (.tmp 6) (.con (V.int .u8 (Int.ofNat 122)))) <|
 .nil) 8 [5, 7] (.tmp 5) (.tmp 7) (.con (V.bool false)) <|
 .op (some 9) .any [8] (.mov (.tmp 8)) <|
 .grp 9 false (.op (some 10) .any [0, 9] (.mov (.tmp 0)) <|
 .op (some 11) .any [10, 9] (.bin .geq .none (.tmp 10) (.con (V.int .u8 (Int.ofNat 65)))) <|
 .op (some 12) .any [11, 9] (.mov (.tmp 11)) <|
 .grp 12 true (.op (some 13) .any [0, 12] (.mov (.tmp 0)) <|
 .op (some 14) .any [13, 12] (.bin .leq .none (.tmp 13) (.con (V.int .u8 (Int.ofNat 90)))) <|
 .nil) 15 [12, 14, 9] (.tmp 12) (.tmp 14) (.con (V.bool false)) <|
 .nil) 16 [9, 15] (.tmp 9) (.con (V.bool true)) (.tmp 15) <|
 .op (some 2) .any [16] (.mov (.tmp 16)) <|
 .nil))
 .ret))
def A117 : XFn := ⟨17, [(.int .u8)], [(.tmp 2)], C117_0⟩
def C118_0 (cc1 : XC) (cc2 : XC) : XC := (.seq (.ops (.op (some 2) .any [] (.mov (.con (V.int .i64 (Int.ofNat 0)))) <|
 .op (some 3) .any [] (.mov (.con (V.str ⟨0, 0⟩))) <|
 .nil))
 (.seq (.ops (.op (some 7) .any [0] (.mov (.tmp 0)) <|
 .op (some 8) .any [7] (.nilck (.tmp 7)) <|
 .op (some 9) .any [8] (.faddr 0 (.tmp 8)) <|
 .op (some 10) .any [9] (.faddr 1 (.tmp 9)) <|
 .op (some 11) (.int .i64) [10] (.load none (.tmp 10)) <|
 .op (some 4) .any [11] (.mov (.tmp 11)) <|
 .nil))
 (.seq (.seq (.ops (.op (some 12) .any [0] (.mov (.tmp 0)) <|
 .op (some 13) .any [12] (.nilck (.tmp 12)) <|
 .op (some 14) .any [13] (.faddr 0 (.tmp 13)) <|
 .op (some 15) (.int .u8) [14] (.call 115 [(.tmp 14), (.con (V.int .i64 (Int.ofNat 0)))]) <|
 .op (some 5) .any [15] (.mov (.tmp 15)) <|
 .nil))
 (.block 0 (.loop [(0, .ptr), (4, (.int .i64)), (5, (.int .u8))] [] [] cc2)))
 (.keep [(0, .ptr), (4, (.int .i64))] [] [] cc1))))
def C118_1 : XC := (.seq (.draw (.op (some 46) .any [0] (.mov (.tmp 0)) <|
 .op (some 47) .any [46] (.nilck (.tmp 46)) <|
 .op (some 48) .any [47] (.faddr 0 (.tmp 47)) <|
 .op (some 49) .any [48] (.faddr 0 (.tmp 48)) <|
 .op (some 50) .str [49] (.load none (.tmp 49)) <|
 .op (some 51) .any [4] (.mov (.tmp 4)) <|
 .op (some 52) .any [0] (.mov (.tmp 0)) <|
 .op (some 53) .any [52] (.nilck (.tmp 52)) <|
 .op (some 54) .any [53] (.faddr 0 (.tmp 53)) <|
 .op (some 55) .any [54] (.faddr 1 (.tmp 54)) <|
 .op (some 56) (.int .i64) [55] (.load none (.tmp 55)) <|
 .op (some 57) .any [50, 51, 56] (.sliceStr (.tmp 50) (some (.tmp 51)) (some (.tmp 56))) <|
 .op (some 6) .any [57] (.mov (.tmp 57)) <|
 .nil) [0, 1, 3, 7, 15, 0, 0, 64, 192, 448, 960, 2047, 4095])
 (.seq (.block 2 (.seq (.ops (.op (some 59) .any [6] (.mov (.tmp 6)) <|
 .op (some 60) .any [59] (.len true (.tmp 59)) <|
 .op (some 61) .any [60] (.bin .gtr .none (.tmp 60) (.con (V.int .i64 (Int.ofNat 60)))) <|
 .op (some 62) .any [61] (.mov (.tmp 61)) <|
 .grp 62 false (.op (some 63) .any [6, 62] (.mov (.tmp 6)) <|
 .op (some 64) .any [6, 62] (.mov (.tmp 6)) <|
 .op (some 65) .any [64, 62] (.len true (.tmp 64)) <|
 .op (some 66) .any [65, 62] (.bin .sub .none (.tmp 65) (.con (V.int .i64 (Int.ofNat 1)))) <|
 .op (some 67) .any [63, 66, 62] (.idxStr (.tmp 63) (.tmp 66)) <|
 .op (some 68) .any [67, 62] (.bin .eql .none (.tmp 67) (.con (V.int .u8 (Int.ofNat 45)))) <|
 .nil) 69 [62, 68] (.tmp 62) (.con (V.bool true)) (.tmp 68) <|
 .op (some 58) .any [69] (.mov (.tmp 69)) <|
 .nil))
 (.cond (.tmp 58) (.seq (.ops (.op (some 2) .any [] (.mov (.con (V.int .i64 (Int.ofNat 0)))) <|
 .op (some 3) .any [] (.mov (.con (V.str ⟨0, 0⟩))) <|
 .nil))
 .ret)
 (.seq (.ops (.op (some 71) .any [6] (.mov (.tmp 6)) <|
 .op (some 72) .bool [71] (.call 151 [(.tmp 71)]) <|
 .op (some 70) .any [72] (.mov (.tmp 72)) <|
 .nil))
 (.cond (.tmp 70) (.seq (.ops (.op (some 73) .any [6] (.mov (.tmp 6)) <|
 .op (some 2) .any [] (.mov (.con (V.int .i64 (Int.ofNat 5)))) <|
 .op (some 3) .any [73] (.mov (.tmp 73)) <|
 .nil))
 .ret)
 (.seq (.ops (.op (some 75) .any [6] (.mov (.tmp 6)) <|
 .op (some 76) .any [75] (.idxStr (.tmp 75) (.con (V.int .i64 (Int.ofNat 0)))) <|
 .op (some 77) .any [76] (.bin .leq .none (.tmp 76) (.con (V.int .u8 (Int.ofNat 90)))) <|
 .op (some 74) .any [77] (.mov (.tmp 77)) <|
 .nil))
 (.cond (.tmp 74) (.seq (.ops (.op (some 78) .any [6] (.mov (.tmp 6)) <|
 .op (some 2) .any [] (.mov (.con (V.int .i64 (Int.ofNat 1)))) <|
 .op (some 3) .any [78] (.mov (.tmp 78)) <|
 .nil))
 .ret)
 .skip)))))))
 (.seq (.ops (.op (some 79) .any [6] (.mov (.tmp 6)) <|
 .op (some 2) .any [] (.mov (.con (V.int .i64 (Int.ofNat 2)))) <|
 .op (some 3) .any [79] (.mov (.tmp 79)) <|
 .nil))
 .ret)))
def C118_2 : XC := (.seq (.seq (.ops (.op (some 16) .any [5] (.mov (.tmp 5)) <|
 .op (some 17) .bool [16] (.call 117 [(.tmp 16)]) <|
 .op (some 18) .any [17] (.mov (.tmp 17)) <|
 .grp 18 false (.op (some 19) .any [5, 18] (.mov (.tmp 5)) <|
 .op (some 20) .bool [19, 18] (.call 119 [(.tmp 19)]) <|
 .nil) 21 [18, 20] (.tmp 18) (.con (V.bool true)) (.tmp 20) <|
 .op (some 22) .any [21] (.mov (.tmp 21)) <|
 .grp 22 false (.op (some 23) .any [5, 22] (.mov (.tmp 5)) <|
 .op (some 24) .any [23, 22] (.bin .eql .none (.tmp 23) (.con (V.int .u8 (Int.ofNat 45)))) <|
 .op (some 25) .any [24, 22] (.mov (.tmp 24)) <|
 .grp 25 true (.op (some 26) .any [0, 25] (.mov (.tmp 0)) <|
 .op (some 27) .any [26, 25] (.nilck (.tmp 26)) <|
 .op (some 28) .any [27, 25] (.faddr 0 (.tmp 27)) <|
 .op (some 29) (.int .u8) [28, 25] (.call 115 [(.tmp 28), (.con (V.int .i64 (Int.ofNat 1)))]) <|
 .op (some 30) .any [29, 25] (.bin .neq .none (.tmp 29) (.con (V.int .u8 (Int.ofNat 45)))) <|
 .nil) 31 [25, 30, 22] (.tmp 25) (.tmp 30) (.con (V.bool false)) <|
 .nil) 32 [22, 31] (.tmp 22) (.con (V.bool true)) (.tmp 31) <|
 .nil))
 (.cond (.tmp 32) .skip
 (.exit 0)))
 (.seq (.block 1 (.ops (.op (some 37) .any [0] (.mov (.tmp 0)) <|
 .op (some 38) .any [37] (.nilck (.tmp 37)) <|
 .op (some 39) .any [38] (.faddr 0 (.tmp 38)) <|
 .op (some 40) .any [39] (.faddr 1 (.tmp 39)) <|
 .op (some 41) (.int .i64) [40] (.load none (.tmp 40)) <|
 .op (some 42) .any [41] (.bin .add .none (.tmp 41) (.con (V.int .i64 (Int.ofNat 1)))) <|
 .op (some 43) .any [37] (.nilck (.tmp 37)) <|
 .op (some 44) .any [43] (.faddr 0 (.tmp 43)) <|
 .op (some 45) .any [44] (.faddr 1 (.tmp 44)) <|
 .op none .any [45, 42] (.store 1 (.tmp 45) (.tmp 42)) <|
 .nil)))
 (.ops (.op (some 33) .any [0] (.mov (.tmp 0)) <|
 .op (some 34) .any [33] (.nilck (.tmp 33)) <|
 .op (some 35) .any [34] (.faddr 0 (.tmp 34)) <|
 .op (some 36) (.int .u8) [35] (.call 115 [(.tmp 35), (.con (V.int .i64 (Int.ofNat 0)))]) <|
 .op (some 5) .any [36] (.mov (.tmp 36)) <|
 .nil))))
def A118 : XFn := ⟨80, [.ptr], [(.tmp 2), (.tmp 3)], (C118_0 C118_1 C118_2)⟩
def C119_0 : XC := (.seq (.ops (.op (some 2) .any [] (.mov (.con (V.bool false))) <|
 .nil))
 (.seq (.ops (.op (some 3) .any [0] (.mov (.tmp 0)) <|
 .op (some 4) .any [3] (.bin .geq .none (.tmp 3) (.con (V.int .u8 (Int.ofNat 48)))) <|
 .op (some 5) .any [4] (.mov (.tmp 4)) <|
 .grp 5 true (.op (some 6) .any [0, 5] (.mov (.tmp 0)) <|
 .op (some 7) .any [6, 5] (.bin .leq .none (.tmp 6) (.con (V.int .u8 (Int.ofNat 57)))) <|
 .nil) 8 [5, 7] (.tmp 5) (.tmp 7) (.con (V.bool false)) <|
 .op (some 2) .any [8] (.mov (.tmp 8)) <|
 .nil))
 .ret))
def A119 : XFn := ⟨9, [(.int .u8)], [(.tmp 2)], C119_0⟩
def C123_0 (cc1 : XC) (cc2 : XC) : XC := (.seq (.ops (.op (some 2) .any [] (.mov (.con (V.int .i64 (Int.ofNat 0)))) <|
 .op (some 3) .any [] (.mov (.con (V.str ⟨0, 0⟩))) <|
 .nil))
 (.seq (.seq (.ops (.op (some 6) .any [] (.buildSlice 9 13 [(V.str ⟨0, 0⟩), (V.str ⟨0, 0⟩), (V.str ⟨0, 0⟩), (V.str ⟨0, 0⟩), (V.str ⟨0, 0⟩), (V.str ⟨0, 0⟩), (V.str ⟨0, 0⟩), (V.str ⟨0, 0⟩), (V.str ⟨0, 0⟩), (V.str ⟨0, 0⟩), (V.str ⟨0, 0⟩), (V.str ⟨0, 0⟩), (V.str ⟨0, 0⟩)] [(0, 1, (.con (V.str ⟨3, 4012602⟩))), (1, 1, (.con (V.str ⟨3, 3026478⟩))), (2, 1, (.con (V.str ⟨2, 11822⟩))), (3, 1, (.con (V.str ⟨2, 23387⟩))), (4, 1, (.con (V.str ⟨2, 23901⟩))), (5, 1, (.con (V.str ⟨1, 123⟩))), (6, 1, (.con (V.str ⟨1, 125⟩))), (7, 1, (.con (V.str ⟨1, 91⟩))), (8, 1, (.con (V.str ⟨1, 93⟩))), (9, 1, (.con (V.str ⟨1, 40⟩))), (10, 1, (.con (V.str ⟨1, 41⟩))), (11, 1, (.con (V.str ⟨1, 44⟩))), (12, 1, (.con (V.str ⟨1, 58⟩)))]) <|
 .op (some 7) .any [6] (.len false (.tmp 6)) <|
 .op (some 8) .any [] (.mov (.con (V.int .i64 (Int.ofNat 0)))) <|
 .nil))
 (.block 0 (.loop [(0, .ptr), (6, .any), (7, (.int .i64)), (8, (.int .i64))] [] [] cc2)))
 (.keep [] [] [] cc1)))
def C123_1 : XC := (.seq (.ops (.op (some 2) .any [] (.mov (.con (V.int .i64 (Int.ofNat 0)))) <|
 .op (some 3) .any [] (.mov (.con (V.str ⟨0, 0⟩))) <|
 .nil))
 .ret)
def C123_2 : XC := (.seq (.ops (.op (some 9) .any [8, 7] (.bin .lss .none (.tmp 8) (.tmp 7)) <|
 .nil))
 (.seq (.cond (.tmp 9) .skip
 (.exit 0))
 (.seq (.block 1 (.seq (.ops (.op (some 10) .any [6, 8] (.iaddrS 1 (.tmp 6) (.tmp 8)) <|
 .op (some 11) .str [10] (.load none (.tmp 10)) <|
 .op (some 5) .any [11] (.mov (.tmp 11)) <|
 .nil))
 (.seq (.ops (.op (some 12) .any [0] (.mov (.tmp 0)) <|
 .op (some 13) .any [12] (.nilck (.tmp 12)) <|
 .op (some 14) .any [13] (.faddr 0 (.tmp 13)) <|
 .op (some 15) .any [5] (.mov (.tmp 5)) <|
 .op (some 16) .bool [14, 15] (.call 116 [(.tmp 14), (.tmp 15)]) <|
 .nil))
 (.cond (.tmp 16) (.seq (.ops (.op (some 17) .any [0] (.mov (.tmp 0)) <|
 .op (some 18) .any [17] (.nilck (.tmp 17)) <|
 .op (some 19) .any [18] (.faddr 0 (.tmp 18)) <|
 .op (some 20) .any [19] (.faddr 1 (.tmp 19)) <|
 .op (some 21) (.int .i64) [20] (.load none (.tmp 20)) <|
 .op (some 22) .any [5] (.mov (.tmp 5)) <|
 .op (some 23) .any [22] (.len true (.tmp 22)) <|
 .op (some 24) .any [21, 23] (.bin .add .none (.tmp 21) (.tmp 23)) <|
 .op (some 25) .any [17] (.nilck (.tmp 17)) <|
 .op (some 26) .any [25] (.faddr 0 (.tmp 25)) <|
 .op (some 27) .any [26] (.faddr 1 (.tmp 26)) <|
 .op none .any [27, 24] (.store 1 (.tmp 27) (.tmp 24)) <|
 .nil))
 (.seq (.ops (.op (some 28) .any [5] (.mov (.tmp 5)) <|
 .op (some 2) .any [] (.mov (.con (V.int .i64 (Int.ofNat 6)))) <|
 .op (some 3) .any [28] (.mov (.tmp 28)) <|
 .nil))
 .ret))
 .skip))))
 (.ops (.op (some 29) .any [8] (.bin .add .none (.tmp 8) (.con (V.int .i64 (Int.ofNat 1)))) <|
 .op (some 8) .any [29] (.mov (.tmp 29)) <|
 .nil)))))
def A123 : XFn := ⟨30, [.ptr], [(.tmp 2), (.tmp 3)], (C123_0 C123_1 C123_2)⟩
def C125_0 (cc1 : XC) : XC := (.seq (.ops (.pal 2 [] 187 [(V.int .i64 (Int.ofNat 0)), (V.str ⟨0, 0⟩), (V.int .i64 (Int.ofNat 0))] <|
 .nil))
 (.seq (.draw (.op (some 4) .any [0] (.mov (.tmp 0)) <|
 .op (some 5) .any [4] (.nilck (.tmp 4)) <|
 .op (some 6) .any [5] (.faddr 0 (.tmp 5)) <|
 .op (some 7) .any [6] (.load none (.tmp 6)) <|
 .op (some 8) .any [0] (.mov (.tmp 0)) <|
 .op (some 9) .any [8] (.nilck (.tmp 8)) <|
 .op (some 10) .any [9] (.faddr 1 (.tmp 9)) <|
 .op (some 11) (.int .i64) [10] (.load none (.tmp 10)) <|
 .op (some 12) .any [7, 11] (.iaddrS 3 (.tmp 7) (.tmp 11)) <|
 .op (some 13) (.agg [(.int .i64), .str, (.int .i64)]) [12] (.load (some 3) (.tmp 12)) <|
 .pal 3 [] 187 [(V.int .i64 (Int.ofNat 0)), (V.str ⟨0, 0⟩), (V.int .i64 (Int.ofNat 0))] <|
 .op none (.agg [(.int .i64), .str, (.int .i64)]) [3, 13] (.store 3 (.tmp 3) (.tmp 13)) <|
 .nil) [0, 1, 3, 7, 0, 16, 48, 112, 255, 511, 0, 2047])
 (.seq (.seq (.ops (.op (some 14) .any [3] (.faddr 0 (.tmp 3)) <|
 .op (some 15) (.int .i64) [14] (.load none (.tmp 14)) <|
 .op (some 16) .any [15] (.bin .neq .none (.tmp 15) (.con (V.int .i64 (Int.ofNat 0)))) <|
 .nil))
 (.cond (.tmp 16) (.ops (.op (some 17) .any [0] (.mov (.tmp 0)) <|
 .op (some 18) .any [17] (.nilck (.tmp 17)) <|
 .op (some 19) .any [18] (.faddr 1 (.tmp 18)) <|
 .op (some 20) (.int .i64) [19] (.load none (.tmp 19)) <|
 .op (some 21) .any [20] (.bin .add .none (.tmp 20) (.con (V.int .i64 (Int.ofNat 1)))) <|
 .op (some 22) .any [17] (.nilck (.tmp 17)) <|
 .op (some 23) .any [22] (.faddr 1 (.tmp 22)) <|
 .op none .any [23, 21] (.store 1 (.tmp 23) (.tmp 21)) <|
 .nil))
 .skip))
 (.keep [] [2, 3] [(2, [(.int .i64), .str, (.int .i64)]), (3, [(.int .i64), .str, (.int .i64)])] cc1))))
def C125_1 : XC := (.seq (.ops (.op (some 24) (.agg [(.int .i64), .str, (.int .i64)]) [3] (.load (some 3) (.tmp 3)) <|
 .op none (.agg [(.int .i64), .str, (.int .i64)]) [2, 24] (.store 3 (.tmp 2) (.tmp 24)) <|
 .nil))
 .ret)
def A125 : XFn := ⟨25, [.ptr], [(.cell 2 (some 3))], (C125_0 C125_1)⟩
def C126_0 : XC := (.seq (.ops (.op (some 4) .any [] (.mov (.con (V.bool false))) <|
 .nil))
 (.seq (.seq (.ops (.op (some 5) .any [0] (.mov (.tmp 0)) <|
 .op (some 6) .any [1] (.mov (.tmp 1)) <|
 .op (some 7) .bool [5, 6] (.call 91 [(.tmp 5), (.tmp 6)]) <|
 .op (some 8) .any [7] (.un .not (.tmp 7)) <|
 .nil))
 (.cond (.tmp 8) (.seq (.ops (.op (some 4) .any [] (.mov (.con (V.bool false))) <|
 .nil))
 .ret)
 .skip))
 (.seq (.ops (.op (some 9) .any [0] (.mov (.tmp 0)) <|
 .op (some 10) (.agg [(.int .i64), .str, (.int .i64)]) [9] (.call 125 [(.tmp 9)]) <|
 .nil))
 (.seq (.ops (.op (some 4) .any [] (.mov (.con (V.bool true))) <|
 .nil))
 .ret))))
def A126 : XFn := ⟨11, [.any, .str], [(.tmp 4)], C126_0⟩
def C127_0 : XC := (.seq (.ops (.op (some 4) .any [] (.mov (.con (V.int .i64 (Int.ofNat 0)))) <|
 .op (some 5) .any [] (.mov (.con (V.bool false))) <|
 .nil))
 (.seq (.ops (.op (some 10) .any [0] (.mov (.tmp 0)) <|
 .op (some 11) .any [10] (.nilck (.tmp 10)) <|
 .op (some 12) .any [11] (.faddr 0 (.tmp 11)) <|
 .op (some 13) (.agg [(.int .i64), .str, (.int .i64)]) [12] (.call 92 [(.tmp 12)]) <|
 .pal 6 [] 187 [(V.int .i64 (Int.ofNat 0)), (V.str ⟨0, 0⟩), (V.int .i64 (Int.ofNat 0))] <|
 .op none (.agg [(.int .i64), .str, (.int .i64)]) [6, 13] (.store 3 (.tmp 6) (.tmp 13)) <|
 .nil))
 (.seq (.block 0 (.seq (.ops (.op (some 15) (.agg [(.int .i64), .str, (.int .i64)]) [6] (.load (some 3) (.tmp 6)) <|
 .op (some 16) .bool [15] (.call 154 [(.tmp 15)]) <|
 .op (some 17) .any [16] (.un .not (.tmp 16)) <|
 .op (some 14) .any [17] (.mov (.tmp 17)) <|
 .nil))
 (.cond (.tmp 14) (.seq (.ops (.op (some 18) .any [0] (.mov (.tmp 0)) <|
 .op (some 19) .any [6] (.faddr 2 (.tmp 6)) <|
 .op (some 20) (.int .i64) [19] (.load none (.tmp 19)) <|
 .op (some 21) .bool [18, 20] (.call 124 [(.tmp 18), (.tmp 20), (.con (V.int .i64 (Int.ofNat 7)))]) <|
 .op (some 4) .any [] (.mov (.con (V.int .i64 (Int.ofNat 0)))) <|
 .op (some 5) .any [21] (.mov (.tmp 21)) <|
 .nil))
 .ret)
 (.seq (.ops (.op (some 23) .any [1] (.mov (.tmp 1)) <|
 .op (some 24) .any [23] (.bin .gtr .none (.tmp 23) (.con (V.int .i64 (Int.ofNat 16)))) <|
 .op (some 25) .any [24] (.mov (.tmp 24)) <|
 .grp 25 false (.op (some 26) .any [0, 25] (.mov (.tmp 0)) <|
 .op (some 27) .any [26, 25] (.nilck (.tmp 26)) <|
 .op (some 28) .any [27, 25] (.faddr 2 (.tmp 27)) <|
 .op (some 29) .any [28, 25] (.faddr 4 (.tmp 28)) <|
 .op (some 30) .any [29, 25] (.load none (.tmp 29)) <|
 .op (some 31) .any [30, 25] (.len false (.tmp 30)) <|
 .op (some 32) .any [31, 25] (.bin .geq .none (.tmp 31) (.con (V.int .i64 (Int.ofNat 300)))) <|
 .nil) 33 [25, 32] (.tmp 25) (.con (V.bool true)) (.tmp 32) <|
 .op (some 22) .any [33] (.mov (.tmp 33)) <|
 .nil))
 (.cond (.tmp 22) (.seq (.ops (.op (some 34) .any [0] (.mov (.tmp 0)) <|
 .op (some 35) .any [6] (.faddr 2 (.tmp 6)) <|
 .op (some 36) (.int .i64) [35] (.load none (.tmp 35)) <|
 .op (some 37) .bool [34, 36] (.call 124 [(.tmp 34), (.tmp 36), (.con (V.int .i64 (Int.ofNat 5)))]) <|
 .op (some 4) .any [] (.mov (.con (V.int .i64 (Int.ofNat 0)))) <|
 .op (some 5) .any [37] (.mov (.tmp 37)) <|
 .nil))
 .ret)
 .skip)))))
 (.seq (.ops (.op (some 38) .any [0] (.mov (.tmp 0)) <|
 .op (some 39) .any [38] (.nilck (.tmp 38)) <|
 .op (some 40) .any [39] (.faddr 2 (.tmp 39)) <|
 .op (some 41) .any [40] (.faddr 4 (.tmp 40)) <|
 .op (some 42) .any [41] (.load none (.tmp 41)) <|
 .op (some 43) .any [42] (.len false (.tmp 42)) <|
 .op (some 7) .any [43] (.mov (.tmp 43)) <|
 .nil))
 (.seq (.ops (.op (some 44) .any [0] (.mov (.tmp 0)) <|
 .op (some 45) .any [0] (.mov (.tmp 0)) <|
 .op (some 46) .any [45] (.nilck (.tmp 45)) <|
 .op (some 47) .any [46] (.faddr 2 (.tmp 46)) <|
 .op (some 48) .any [47] (.faddr 4 (.tmp 47)) <|
 .op (some 49) .any [48] (.load none (.tmp 48)) <|
 .op (some 50) (.agg [(.int .i64), .str, .bool, (.int .i64), (.int .i64), .bool, .bool, .bool, .bool, (.int .i64), (.int .i64), .any, .any, (.int .i64), .bool, (.int .i64)]) [] (.build [(V.int .i64 (Int.ofNat 0)), (V.str ⟨0, 0⟩), (V.bool false), (V.int .i64 (Int.ofNat 0)), (V.int .i64 (Int.ofNat 0)), (V.bool false), (V.bool false), (V.bool false), (V.bool false), (V.int .i64 (Int.ofNat 0)), (V.int .i64 (Int.ofNat 0)), V.nils, V.nils, (V.int .i64 (Int.ofNat 0)), (V.bool false), (V.int .i64 (Int.ofNat 0))] []) <|
 .op (some 51) .any [50] (.buildSlice 203 1 [(V.int .i64 (Int.ofNat 0)), (V.str ⟨0, 0⟩), (V.bool false), (V.int .i64 (Int.ofNat 0)), (V.int .i64 (Int.ofNat 0)), (V.bool false), (V.bool false), (V.bool false), (V.bool false), (V.int .i64 (Int.ofNat 0)), (V.int .i64 (Int.ofNat 0)), V.nils, V.nils, (V.int .i64 (Int.ofNat 0)), (V.bool false), (V.int .i64 (Int.ofNat 0))] [(0, 16, (.tmp 50))]) <|
 .op (some 52) .one [49, 51] (.append 203 16 144 (.tmp 49) (.tmp 51)) <|
 .op (some 53) .any [44] (.nilck (.tmp 44)) <|
 .op (some 54) .any [53] (.faddr 2 (.tmp 53)) <|
 .op (some 55) .any [54] (.faddr 4 (.tmp 54)) <|
 .op none .any [55, 52] (.store 1 (.tmp 55) (.tmp 52)) <|
 .nil))
 (.seq (.ops (.op (some 57) .any [0] (.mov (.tmp 0)) <|
 .op (some 58) .any [1] (.mov (.tmp 1)) <|
 .op (some 59) (.tup [(.agg [(.int .i64), .str, .bool, (.int .i64), (.int .i64), .bool, .bool, .bool, .bool, (.int .i64), (.int .i64), .any, .any, (.int .i64), .bool, (.int .i64)]), .bool]) [57, 58] (.call 155 [(.tmp 57), (.tmp 58)]) <|
 .op (some 56) .any [59] (.mov (.tmp 59)) <|
 .op (some 60) .any [56] (.extract 0 (.tmp 56)) <|
 .op (some 61) .any [56] (.extract 1 (.tmp 56)) <|
 .pal 8 [] 203 [(V.int .i64 (Int.ofNat 0)), (V.str ⟨0, 0⟩), (V.bool false), (V.int .i64 (Int.ofNat 0)), (V.int .i64 (Int.ofNat 0)), (V.bool false), (V.bool false), (V.bool false), (V.bool false), (V.int .i64 (Int.ofNat 0)), (V.int .i64 (Int.ofNat 0)), V.nils, V.nils, (V.int .i64 (Int.ofNat 0)), (V.bool false), (V.int .i64 (Int.ofNat 0))] <|
 .op none (.agg [(.int .i64), .str, .bool, (.int .i64), (.int .i64), .bool, .bool, .bool, .bool, (.int .i64), (.int .i64), .any, .any, (.int .i64), .bool, (.int .i64)]) [8, 60] (.store 16 (.tmp 8) (.tmp 60)) <|
 .op (some 9) .any [61] (.mov (.tmp 61)) <|
 .nil))
 (.seq (.seq (.ops (.op (some 62) .any [9] (.mov (.tmp 9)) <|
 .op (some 63) .any [62] (.un .not (.tmp 62)) <|
 .nil))
 (.cond (.tmp 63) (.seq (.ops (.op (some 4) .any [] (.mov (.con (V.int .i64 (Int.ofNat 0)))) <|
 .op (some 5) .any [] (.mov (.con (V.bool false))) <|
 .nil))
 .ret)
 .skip))
 (.seq (.draw (.op (some 64) .any [0] (.mov (.tmp 0)) <|
 .op (some 65) .any [64] (.nilck (.tmp 64)) <|
 .op (some 66) .any [65] (.faddr 2 (.tmp 65)) <|
 .op (some 67) .any [66] (.faddr 4 (.tmp 66)) <|
 .op (some 68) .any [67] (.load none (.tmp 67)) <|
 .op (some 69) .any [7] (.mov (.tmp 7)) <|
 .op (some 70) (.agg [(.int .i64), .str, .bool, (.int .i64), (.int .i64), .bool, .bool, .bool, .bool, (.int .i64), (.int .i64), .any, .any, (.int .i64), .bool, (.int .i64)]) [8] (.load (some 16) (.tmp 8)) <|
 .op (some 71) .any [68, 69] (.iaddrS 16 (.tmp 68) (.tmp 69)) <|
 .op none (.agg [(.int .i64), .str, .bool, (.int .i64), (.int .i64), .bool, .bool, .bool, .bool, (.int .i64), (.int .i64), .any, .any, (.int .i64), .bool, (.int .i64)]) [71, 70] (.store 16 (.tmp 71) (.tmp 70)) <|
 .nil) [0, 1, 3, 7, 15, 0, 0, 127, 255])
 (.seq (.ops (.op (some 72) .any [7] (.mov (.tmp 7)) <|
 .op (some 4) .any [72] (.mov (.tmp 72)) <|
 .op (some 5) .any [] (.mov (.con (V.bool true))) <|
 .nil))
 .ret)))))))))
def A127 : XFn := ⟨73, [.ptr, (.int .i64)], [(.tmp 4), (.tmp 5)], C127_0⟩
def G128_0 : List AOper := [⟨(some 6), .load (some 5) (.tmp 2), none⟩, ⟨(some 7), .mov (.tmp 1), none⟩, ⟨(some 8), .faddr 4 (.tmp 2), none⟩, ⟨(some 9), .load none (.tmp 8), none⟩, ⟨(some 10), .len false (.tmp 9), none⟩, ⟨(some 11), .mkslice 4 1 1 [(V.bool false)] (.tmp 10) (.tmp 10), none⟩, ⟨(some 12), .mkfn 157 [] [(.tmp 5)], none⟩, ⟨(some 13), .call 156 [(.tmp 6), (.tmp 7), (.tmp 11), (.tmp 12)], none⟩]
def H128_0 : List DP := [⟨0, [2]⟩, ⟨0, [1]⟩, ⟨0, [2]⟩, ⟨4, [8]⟩, ⟨12, [9]⟩, ⟨28, [10, 10]⟩, ⟨0, [5]⟩, ⟨127, [6, 7, 11, 12]⟩]
def C128_0 : XC := (.seq (.ops (.op (some 2) .any [0] (.box 99 (.tmp 0)) <|
 .op (some 4) .any [] (.mov (.con V.nils)) <|
 .nil))
 (.seq (.ops (.op (some 5) .any [] (.alloc 47 [V.nils]) <|
 .nil))
 (.seq (.keep [(1, (.int .i64)), (2, .ptr), (5, .ptr)] [] [] (.gdraw G128_0 H128_0 [(5, .ptr)]))
 (.seq (.ops (.op (some 14) .any [5] (.load none (.tmp 5)) <|
 .op (some 4) .any [14] (.mov (.tmp 14)) <|
 .nil))
 .ret))))
def A128 : XFn := ⟨15, [(.agg [.str, (.int .i64), .any, .any, .any]), (.int .i64)], [(.tmp 4)], C128_0⟩
def C129_0 : XC := (.seq (.ops (.op (some 2) .any [0] (.box 99 (.tmp 0)) <|
 .op (some 4) .any [] (.mov (.con (V.bool false))) <|
 .nil))
 (.seq (.ops (.op (some 5) (.agg [.str, (.int .i64), .any, .any, .any]) [2] (.load (some 5) (.tmp 2)) <|
 .op (some 6) .any [1] (.mov (.tmp 1)) <|
 .op (some 7) .one [5, 6] (.call 128 [(.tmp 5), (.tmp 6)]) <|
 .op (some 8) .any [2] (.mkfn 160 [] [(.tmp 2)]) <|
 .op (some 9) .bool [7, 8] (.call 159 [(.tmp 7), (.tmp 8)]) <|
 .op (some 4) .any [9] (.mov (.tmp 9)) <|
 .nil))
 .ret))
def A129 : XFn := ⟨10, [(.agg [.str, (.int .i64), .any, .any, .any]), (.int .i64)], [(.tmp 4)], C129_0⟩
def C130_0 (cc1 : XC) : XC := (.seq (.ops (.op (some 8) .any [0] (.mov (.tmp 0)) <|
 .op (some 9) .any [1] (.mov (.tmp 1)) <|
 .op (some 10) .any [8, 9] (.iaddrS 1 (.tmp 8) (.tmp 9)) <|
 .op (some 11) .any [10] (.load none (.tmp 10)) <|
 .op (some 12) .any [11] (.len false (.tmp 11)) <|
 .op (some 13) .any [] (.mov (.con (V.int .i64 (Int.ofNat 0)))) <|
 .nil))
 (.block 0 (.loop [(0, .any), (2, .any), (11, .any), (12, (.int .i64)), (13, (.int .i64))] [] [] cc1)))
def C130_1 (cc2 : XC) : XC := (.seq (.ops (.op (some 14) .any [13, 12] (.bin .lss .none (.tmp 13) (.tmp 12)) <|
 .nil))
 (.seq (.cond (.tmp 14) .skip
 (.exit 0))
 (.seq (.block 1 (.seq (.ops (.op (some 15) .any [11, 13] (.iaddrS 1 (.tmp 11) (.tmp 13)) <|
 .op (some 16) (.int .i64) [15] (.load none (.tmp 15)) <|
 .op (some 7) .any [16] (.mov (.tmp 16)) <|
 .nil))
 (.seq (.ops (.op (some 17) .any [2] (.mov (.tmp 2)) <|
 .op (some 18) .any [7] (.mov (.tmp 7)) <|
 .op (some 19) .any [17, 18] (.iaddrS 1 (.tmp 17) (.tmp 18)) <|
 .op (some 20) .bool [19] (.load none (.tmp 19)) <|
 .op (some 21) .any [20] (.un .not (.tmp 20)) <|
 .nil))
 (.cond (.tmp 21) (.seq (.ops (.op (some 22) .any [2] (.mov (.tmp 2)) <|
 .op (some 23) .any [7] (.mov (.tmp 7)) <|
 .op (some 24) .any [22, 23] (.iaddrS 1 (.tmp 22) (.tmp 23)) <|
 .op none .any [24] (.store 1 (.tmp 24) (.con (V.bool true))) <|
 .nil))
 (.ops (.op (some 25) .any [0] (.mov (.tmp 0)) <|
 .op (some 26) .any [7] (.mov (.tmp 7)) <|
 .op (some 27) .any [2] (.mov (.tmp 2)) <|
 .op (some 28) (.tup []) [25, 26, 27] (.call 130 [(.tmp 25), (.tmp 26), (.tmp 27)]) <|
 .nil)))
 .skip))))
 (.keep [(0, .any), (2, .any), (11, .any), (12, (.int .i64)), (13, (.int .i64))] [] [] cc2))))
def C130_2 : XC := (.ops (.op (some 29) .any [13] (.bin .add .none (.tmp 13) (.con (V.int .i64 (Int.ofNat 1)))) <|
 .op (some 13) .any [29] (.mov (.tmp 29)) <|
 .nil))
def A130 : XFn := ⟨30, [.any, (.int .i64), .any], [], (C130_0 (C130_1 C130_2))⟩
def C131_0 (cc1 : XC) (cc2 : XC) : XC := (.seq (.ops (.op (some 4) .any [] (.mov (.con (V.int .i64 (Int.ofNat 0)))) <|
 .nil))
 (.seq (.seq (.ops (.op (some 6) .any [0] (.mov (.tmp 0)) <|
 .op (some 7) .any [6] (.len false (.tmp 6)) <|
 .op (some 8) .any [] (.mov (.con (V.int .i64 (Int.ofNat 0)))) <|
 .nil))
 (.block 0 (.loop [(0, .any), (1, (.int .i64)), (7, (.int .i64)), (8, (.int .i64))] [] [] cc2)))
 (.keep [] [] [] cc1)))
def C131_1 : XC := (.seq (.ops (.op (some 4) .any [] (.mov (.con (V.int .i64 (Int.negSucc 0)))) <|
 .nil))
 .ret)
def C131_2 : XC := (.seq (.ops (.op (some 9) .any [8, 7] (.bin .lss .none (.tmp 8) (.tmp 7)) <|
 .nil))
 (.seq (.cond (.tmp 9) .skip
 (.exit 0))
 (.seq (.block 1 (.seq (.ops (.op (some 10) .any [8] (.mov (.tmp 8)) <|
 .op (some 5) .any [10] (.mov (.tmp 10)) <|
 .nil))
 (.seq (.ops (.op (some 11) .any [1] (.mov (.tmp 1)) <|
 .op (some 12) .any [0] (.mov (.tmp 0)) <|
 .op (some 13) .any [5] (.mov (.tmp 5)) <|
 .op (some 14) .any [12, 13] (.iaddrS 1 (.tmp 12) (.tmp 13)) <|
 .op (some 15) (.int .i64) [14] (.load none (.tmp 14)) <|
 .op (some 16) .any [11, 15] (.bin .eql .none (.tmp 11) (.tmp 15)) <|
 .nil))
 (.cond (.tmp 16) (.seq (.ops (.op (some 17) .any [5] (.mov (.tmp 5)) <|
 .op (some 4) .any [17] (.mov (.tmp 17)) <|
 .nil))
 .ret)
 .skip))))
 (.ops (.op (some 18) .any [8] (.bin .add .none (.tmp 8) (.con (V.int .i64 (Int.ofNat 1)))) <|
 .op (some 8) .any [18] (.mov (.tmp 18)) <|
 .nil)))))
def A131 : XFn := ⟨19, [.any, (.int .i64)], [(.tmp 4)], (C131_0 C131_1 C131_2)⟩
def C132_0 (cc1 : XC) (cc2 : XC) : XC := (.seq (.ops (.op (some 4) .any [] (.mov (.con (V.int .i64 (Int.ofNat 0)))) <|
 .nil))
 (.seq (.seq (.ops (.op (some 6) .any [0] (.mov (.tmp 0)) <|
 .op (some 7) .any [6] (.len false (.tmp 6)) <|
 .op (some 8) .any [] (.mov (.con (V.int .i64 (Int.ofNat 0)))) <|
 .nil))
 (.block 0 (.loop [(0, .any), (1, .any), (7, (.int .i64)), (8, (.int .i64))] [] [] cc2)))
 (.keep [] [] [] cc1)))
def C132_1 : XC := (.seq (.ops (.op (some 4) .any [] (.mov (.con (V.int .i64 (Int.negSucc 0)))) <|
 .nil))
 .ret)
def C132_2 : XC := (.seq (.ops (.op (some 9) .any [8, 7] (.bin .lss .none (.tmp 8) (.tmp 7)) <|
 .nil))
 (.seq (.cond (.tmp 9) .skip
 (.exit 0))
 (.seq (.block 1 (.seq (.ops (.op (some 10) .any [8] (.mov (.tmp 8)) <|
 .op (some 5) .any [10] (.mov (.tmp 10)) <|
 .nil))
 (.seq (.ops (.op (some 11) .any [1] (.mov (.tmp 1)) <|
 .op (some 12) .any [0] (.mov (.tmp 0)) <|
 .op (some 13) .any [5] (.mov (.tmp 5)) <|
 .op (some 14) .any [12, 13] (.iaddrS 1 (.tmp 12) (.tmp 13)) <|
 .op (some 15) (.int .i64) [14] (.load none (.tmp 14)) <|
 .op (some 16) .bool [11, 15] (.callv (.tmp 11) [(.tmp 15)]) <|
 .nil))
 (.cond (.tmp 16) (.seq (.ops (.op (some 17) .any [5] (.mov (.tmp 5)) <|
 .op (some 4) .any [17] (.mov (.tmp 17)) <|
 .nil))
 .ret)
 .skip))))
 (.ops (.op (some 18) .any [8] (.bin .add .none (.tmp 8) (.con (V.int .i64 (Int.ofNat 1)))) <|
 .op (some 8) .any [18] (.mov (.tmp 18)) <|
 .nil)))))
def A132 : XFn := ⟨19, [.any, .any], [(.tmp 4)], (C132_0 C132_1 C132_2)⟩
def C133_0 (cc1 : XC) (cc2 : XC) : XC := (.seq (.ops (.pal 2 [] 118 [(V.int .i64 (Int.ofNat 0)), (V.int .i64 (Int.ofNat 0))] <|
 .nil))
 (.seq (.ops (.op (some 3) .any [] (.mov (.con (V.int .i64 (Int.ofNat 0)))) <|
 .nil))
 (.seq (.seq (.ops (.op (some 4) .any [0] (.mov (.tmp 0)) <|
 .nil))
 (.block 0 (.seq (.ops (.op (some 6) .any [4] (.bin .eql .none (.tmp 4) (.con (V.int .i64 (Int.ofNat 1)))) <|
 .op (some 5) .any [6] (.mov (.tmp 6)) <|
 .nil))
 (.cond (.tmp 5) (.ops (.op (some 3) .any [] (.mov (.con (V.int .i64 (Int.ofNat 1)))) <|
 .nil))
 (.seq (.ops (.op (some 8) .any [4] (.bin .eql .none (.tmp 4) (.con (V.int .i64 (Int.ofNat 2)))) <|
 .op (some 7) .any [8] (.mov (.tmp 8)) <|
 .nil))
 (.cond (.tmp 7) (.ops (.op (some 3) .any [] (.mov (.con (V.int .i64 (Int.ofNat 2)))) <|
 .nil))
 (.seq (.ops (.op (some 10) .any [4] (.bin .eql .none (.tmp 4) (.con (V.int .i64 (Int.ofNat 5)))) <|
 .op (some 9) .any [10] (.mov (.tmp 10)) <|
 .nil))
 (.cond (.tmp 9) (.ops (.op (some 3) .any [] (.mov (.con (V.int .i64 (Int.ofNat 4)))) <|
 .nil))
 (.seq (.ops (.op (some 12) .any [4] (.bin .eql .none (.tmp 4) (.con (V.int .i64 (Int.ofNat 4)))) <|
 .op (some 11) .any [12] (.mov (.tmp 12)) <|
 .nil))
 (.cond (.tmp 11) (.ops (.op (some 3) .any [] (.mov (.con (V.int .i64 (Int.ofNat 5)))) <|
 .nil))
 (.seq (.ops (.op (some 14) .any [4] (.bin .eql .none (.tmp 4) (.con (V.int .i64 (Int.ofNat 3)))) <|
 .op (some 13) .any [14] (.mov (.tmp 14)) <|
 .nil))
 (.cond (.tmp 13) (.ops (.op (some 3) .any [] (.mov (.con (V.int .i64 (Int.ofNat 10)))) <|
 .nil))
 (.seq (.ops (.op (some 16) .any [4] (.bin .eql .none (.tmp 4) (.con (V.int .i64 (Int.ofNat 6)))) <|
 .op (some 15) .any [16] (.mov (.tmp 16)) <|
 .nil))
 (.cond (.tmp 15) (.ops (.op (some 3) .any [] (.mov (.con (V.int .i64 (Int.ofNat 12)))) <|
 .nil))
 (.seq (.seq (.ops (.op (some 18) .any [4] (.bin .eql .none (.tmp 4) (.con (V.int .i64 (Int.ofNat 7)))) <|
 .op (some 17) .any [18] (.mov (.tmp 18)) <|
 .nil))
 (.cond (.tmp 17) .skip
 (.ops (.op (some 19) .any [4] (.bin .eql .none (.tmp 4) (.con (V.int .i64 (Int.ofNat 10)))) <|
 .op (some 17) .any [19] (.mov (.tmp 19)) <|
 .nil))))
 (.keep [(3, (.int .i64)), (4, (.int .i64)), (17, .bool)] [2] [(2, [(.int .i64), (.int .i64)])] cc2))))))))))))))))
 (.keep [(3, (.int .i64))] [2] [(2, [(.int .i64), (.int .i64)])] cc1))))
def C133_1 : XC := (.seq (.ops (.op (some 22) .any [3] (.mov (.tmp 3)) <|
 .op (some 23) (.agg [(.int .i64), (.int .i64)]) [22] (.build [(V.int .i64 (Int.ofNat 0)), (V.int .i64 (Int.ofNat 0))] [(0, 1, (.con (V.int .i64 (Int.ofNat 0)))), (1, 1, (.tmp 22))]) <|
 .op none (.agg [(.int .i64), (.int .i64)]) [2, 23] (.store 2 (.tmp 2) (.tmp 23)) <|
 .nil))
 .ret)
def C133_2 : XC := (.cond (.tmp 17) (.ops (.op (some 3) .any [] (.mov (.con (V.int .i64 (Int.ofNat 16)))) <|
 .nil))
 (.seq (.ops (.op (some 21) .any [4] (.bin .eql .none (.tmp 4) (.con (V.int .i64 (Int.ofNat 8)))) <|
 .op (some 20) .any [21] (.mov (.tmp 21)) <|
 .nil))
 (.cond (.tmp 20) (.ops (.op (some 3) .any [] (.mov (.con (V.int .i64 (Int.ofNat 17)))) <|
 .nil))
 .skip)))
def A133 : XFn := ⟨24, [(.int .i64)], [(.cell 2 (some 2))], (C133_0 C133_1 C133_2)⟩
def G134_0 : List AOper := [⟨(some 5), .mov (.tmp 0), none⟩, ⟨(some 6), .mov (.tmp 0), none⟩, ⟨(some 7), .nilck (.tmp 6), none⟩, ⟨(some 8), .faddr 0 (.tmp 7), none⟩, ⟨(some 9), .load none (.tmp 8), none⟩, ⟨(some 10), .load (some 13) (.tmp 3), none⟩, ⟨(some 11), .buildSlice 93 1 [(V.int .i64 (Int.ofNat 0)), V.nils, (V.bool false), (V.bool false), (V.bool false), (V.bool false), (V.int .i64 (Int.ofNat 0)), (V.int .i64 (Int.ofNat 0)), V.nils, V.nils, (V.int .i64 (Int.ofNat 0)), (V.bool false), (V.int .i64 (Int.ofNat 0))] [(0, 13, (.tmp 10))], none⟩, ⟨(some 12), .append 93 13 128 (.tmp 9) (.tmp 11), none⟩, ⟨(some 13), .nilck (.tmp 5), none⟩, ⟨(some 14), .faddr 0 (.tmp 13), none⟩, ⟨none, .store 1 (.tmp 14) (.tmp 12), none⟩]
def H134_0 : List DP := [⟨0, [0]⟩, ⟨0, [0]⟩, ⟨2, [6]⟩, ⟨6, [7]⟩, ⟨14, [8]⟩, ⟨0, [3]⟩, ⟨32, [10]⟩, ⟨126, [9, 11]⟩, ⟨255, [5]⟩, ⟨511, [13]⟩, ⟨1023, [14, 12]⟩]
def C134_0 : XC := (.seq (.ops (.op (some 3) .any [1] (.box 93 (.tmp 1)) <|
 .op (some 4) .any [] (.mov (.con (V.int .i64 (Int.ofNat 0)))) <|
 .nil))
 (.seq (.keep [(0, .ptr), (3, .ptr)] [] [] (.gdraw G134_0 H134_0 [(0, .ptr)]))
 (.seq (.ops (.op (some 15) .any [0] (.mov (.tmp 0)) <|
 .op (some 16) .any [15] (.nilck (.tmp 15)) <|
 .op (some 17) .any [16] (.faddr 0 (.tmp 16)) <|
 .op (some 18) .any [17] (.load none (.tmp 17)) <|
 .op (some 19) .any [18] (.len false (.tmp 18)) <|
 .op (some 20) .any [19] (.bin .sub .none (.tmp 19) (.con (V.int .i64 (Int.ofNat 1)))) <|
 .op (some 4) .any [20] (.mov (.tmp 20)) <|
 .nil))
 .ret)))
def A134 : XFn := ⟨21, [.ptr, (.agg [(.int .i64), .any, .bool, .bool, .bool, .bool, (.int .i64), (.int .i64), .any, .any, (.int .i64), .bool, (.int .i64)])], [(.tmp 4)], C134_0⟩
end
end Go.Proofs.YthkkkmkcjgaghaaGreatDoor
