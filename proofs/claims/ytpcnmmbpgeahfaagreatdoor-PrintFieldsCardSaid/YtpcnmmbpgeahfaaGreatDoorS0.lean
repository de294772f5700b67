/- The code of the functions that are entered. Printed by a program off the dump. -/
import Derived.Test.YtpcnmmbpgeahfaaGreatDoorOgX
import Derived.KernelRfl
set_option linter.all false
set_option maxRecDepth 100000
set_option maxHeartbeats 0
namespace Go.Proofs.YtpcnmmbpgeahfaaGreatDoor
open Go Go.Og
noncomputable section
/-! ### F4: ogham_oghamlaw06.PrintFields -/
def Fin4 (E : List (Nat × Blk)) : St → Ans := fun s => resK E s [(.tmp 8)] fun l => some (oneV l, s.σ)
def C4_0 (cc1 : XC) (cc2 : XC) : XC := (.seq (.ops (.op (some 8) .any [] (.mov (.con (V.bool false))) <|
 .nil))
 (.seq (.ops (.op (some 16) .any [0] (.mov (.tmp 0)) <|
 .op (some 17) .any [16] (.conv (.toInt .u64) (.tmp 16)) <|
 .op (some 18) .any [17] (.bin .rem .none (.tmp 17) (.con (V.int .u64 (Int.ofNat 5)))) <|
 .op (some 19) .any [18] (.conv (.toInt .i64) (.tmp 18)) <|
 .op (some 20) .any [1] (.mov (.tmp 1)) <|
 .op (some 21) .any [20] (.conv (.toInt .u64) (.tmp 20)) <|
 .op (some 22) .any [21] (.bin .rem .none (.tmp 21) (.con (V.int .u64 (Int.ofNat 5)))) <|
 .op (some 23) .any [22] (.conv (.toInt .i64) (.tmp 22)) <|
 .op (some 24) .any [3] (.mov (.tmp 3)) <|
 .op (some 25) .any [24] (.conv (.toInt .u64) (.tmp 24)) <|
 .op (some 26) .any [25] (.bin .rem .none (.tmp 25) (.con (V.int .u64 (Int.ofNat 3)))) <|
 .op (some 27) .any [26] (.conv (.toInt .i64) (.tmp 26)) <|
 .op (some 0) .any [19] (.mov (.tmp 19)) <|
 .op (some 1) .any [23] (.mov (.tmp 23)) <|
 .op (some 3) .any [27] (.mov (.tmp 27)) <|
 .nil))
 (.seq (.ops (.op (some 28) .any [] (.buildSlice 9 3 [(V.str ⟨0, 0⟩), (V.str ⟨0, 0⟩), (V.str ⟨0, 0⟩)] [(0, 1, (.con (V.str ⟨8, 4990918871747741011⟩))), (1, 1, (.con (V.str ⟨3, 5522771⟩))), (2, 1, (.con (V.str ⟨6, 76155295057987⟩)))]) <|
 .op (some 29) .any [3] (.mov (.tmp 3)) <|
 .op (some 30) .any [28, 29] (.iaddrS 1 (.tmp 28) (.tmp 29)) <|
 .op (some 31) .str [30] (.load none (.tmp 30)) <|
 .op (some 32) .any [31] (.bin .add .none (.tmp 31) (.con (V.str ⟨2, 31520⟩))) <|
 .op (some 9) .any [32] (.mov (.tmp 32)) <|
 .nil))
 (.seq (.seq (.ops (.op (some 10) .any [] (.mov (.con (V.int .i64 (Int.ofNat 0)))) <|
 .nil))
 (.block 0 (.loop [(0, (.int .i64)), (1, (.int .i64)), (2, .any), (9, .str), (10, (.int .i64))] [] [] cc2)))
 (.keep [(0, (.int .i64)), (1, (.int .i64)), (2, .any), (9, .str)] [] [] cc1)))))
def T4_0 (E : List (Nat × Blk)) (D : Den) (W : DrawFn) (K2 : Int → Int → V → BS → Int → H → Ans) (v0 : Int) (v1 : Int) (v2 : V) (v3 : Int) (σ : H) : Ans :=
 let s1 := newB σ (.cells [(V.str (BS.mk 8 4990918871747741011)), (V.str (BS.mk 3 5522771)), (V.str (BS.mk 6 76155295057987))]);
 iaddrSK 1 (V.sl (H.next σ) 0 3 (.ex 3)) (wrapF .i64 (Int.tmod (wrapF .u64 v3) (Int.ofNat 3))) fun b2 o3 =>
 ldK E s1 b2 o3 fun u4 =>
 rtStr u4 fun x5 =>
 catK x5 (BS.mk 2 31520) fun t6 =>
 K2 (wrapF .i64 (Int.tmod (wrapF .u64 v0) (Int.ofNat 5))) (wrapF .i64 (Int.tmod (wrapF .u64 v1) (Int.ofNat 5))) v2 t6 (Int.ofNat 0) s1
def C4_1 (cc5 : XC) : XC := (.seq (.seq (.ops (.op (some 49) .any [0] (.mov (.tmp 0)) <|
 .op (some 50) .any [49] (.bin .gtr .none (.tmp 49) (.con (V.int .i64 (Int.ofNat 0)))) <|
 .nil))
 (.cond (.tmp 50) (.ops (.op (some 51) .any [9] (.mov (.tmp 9)) <|
 .op (some 52) .any [51] (.bin .add .none (.tmp 51) (.con (V.str ⟨1, 44⟩))) <|
 .op (some 9) .any [52] (.mov (.tmp 52)) <|
 .nil))
 .skip))
 (.keep [(1, (.int .i64)), (2, .any), (9, .str)] [] [] cc5))
def T4_1 (E : List (Nat × Blk)) (D : Den) (W : DrawFn) (K5 : Int → V → BS → H → Ans) (v0 : Int) (v1 : Int) (v2 : V) (v9 : BS) (σ : H) : Ans :=
 condK (ltF (Int.ofNat 0) v0) (
 catK v9 (BS.mk 1 44) fun t1 =>
 K5 v1 v2 t1 σ) (
 K5 v1 v2 v9 σ)
def C4_2 (cc3 : XC) (cc4 : XC) : XC := (.seq (.seq (.ops (.op (some 33) .any [10] (.mov (.tmp 10)) <|
 .op (some 34) .any [0] (.mov (.tmp 0)) <|
 .op (some 35) .any [33, 34] (.bin .lss .none (.tmp 33) (.tmp 34)) <|
 .nil))
 (.cond (.tmp 35) .skip
 (.exit 0)))
 (.seq (.block 1 (.seq (.seq (.ops (.op (some 38) .any [10] (.mov (.tmp 10)) <|
 .op (some 39) .any [38] (.bin .gtr .none (.tmp 38) (.con (V.int .i64 (Int.ofNat 0)))) <|
 .nil))
 (.cond (.tmp 39) (.ops (.op (some 40) .any [9] (.mov (.tmp 9)) <|
 .op (some 41) .any [40] (.bin .add .none (.tmp 40) (.con (V.str ⟨1, 44⟩))) <|
 .op (some 9) .any [41] (.mov (.tmp 41)) <|
 .nil))
 .skip))
 (.keep [(0, (.int .i64)), (1, (.int .i64)), (2, .any), (9, .str), (10, (.int .i64))] [] [] cc4)))
 (.keep [(0, (.int .i64)), (1, (.int .i64)), (2, .any), (9, .str), (10, (.int .i64))] [] [] cc3)))
def T4_2 (E : List (Nat × Blk)) (D : Den) (W : DrawFn) (K1 : Int → Int → V → BS → H → Ans) (K4 : Int → Int → V → BS → Int → H → Ans) (v0 : Int) (v1 : Int) (v2 : V) (v9 : BS) (v10 : Int) (σ : H) : Ans :=
 condK (ltF v10 v0) (
 condK (ltF (Int.ofNat 0) v10) (
 catK v9 (BS.mk 1 44) fun t1 =>
 K4 v0 v1 v2 t1 v10 σ) (
 K4 v0 v1 v2 v9 v10 σ)) (
 K1 v0 v1 v2 v9 σ)
def C4_3 : XC := (.ops (.op (some 36) .any [10] (.mov (.tmp 10)) <|
 .op (some 37) .any [36] (.bin .add .none (.tmp 36) (.con (V.int .i64 (Int.ofNat 1)))) <|
 .op (some 10) .any [37] (.mov (.tmp 37)) <|
 .nil))
def T4_3 (E : List (Nat × Blk)) (D : Den) (W : DrawFn) (R2 : Int → Int → V → BS → Int → H → Ans) (v0 : Int) (v1 : Int) (v2 : V) (v9 : BS) (v10 : Int) (σ : H) : Ans :=
 R2 v0 v1 v2 v9 (addF .i64 v10 (Int.ofNat 1)) σ
def C4_4 : XC := (.ops (.op (some 42) .any [9] (.mov (.tmp 9)) <|
 .op (some 43) .any [42] (.bin .add .none (.tmp 42) (.con (V.str ⟨2, 26144⟩))) <|
 .op (some 44) .any [10] (.mov (.tmp 10)) <|
 .op (some 45) .any [44] (.conv (.toInt .u64) (.tmp 44)) <|
 .op (some 46) .str [45] (.call 9 [(.tmp 45)]) <|
 .op (some 47) .any [43, 46] (.bin .add .none (.tmp 43) (.tmp 46)) <|
 .op (some 48) .any [47] (.bin .add .none (.tmp 47) (.con (V.str ⟨5, 327698173472⟩))) <|
 .op (some 9) .any [48] (.mov (.tmp 48)) <|
 .nil))
def T4_4 (E : List (Nat × Blk)) (D : Den) (W : DrawFn) (K3 : Int → Int → V → BS → Int → H → Ans) (v0 : Int) (v1 : Int) (v2 : V) (v9 : BS) (v10 : Int) (σ : H) : Ans :=
 catK v9 (BS.mk 2 26144) fun t1 =>
 callK (D 9 [(V.int .u64 (wrapF .u64 v10))] σ) fun u2 s3 =>
 rtStr u2 fun x4 =>
 catK t1 x4 fun t5 =>
 catK t5 (BS.mk 5 327698173472) fun t6 =>
 K3 v0 v1 v2 t6 v10 s3
def C4_5 (cc6 : XC) (cc7 : XC) : XC := (.seq (.ops (.op (some 53) .any [9] (.mov (.tmp 9)) <|
 .op (some 54) .any [53] (.bin .add .none (.tmp 53) (.con (V.str ⟨4, 774778400⟩))) <|
 .op (some 9) .any [54] (.mov (.tmp 54)) <|
 .nil))
 (.seq (.seq (.ops (.op (some 11) .any [] (.mov (.con (V.int .i64 (Int.ofNat 0)))) <|
 .nil))
 (.block 2 (.loop [(1, (.int .i64)), (2, .any), (9, .str), (11, (.int .i64))] [] [] cc7)))
 (.keep [(9, .str)] [] [] cc6)))
def T4_5 (E : List (Nat × Blk)) (D : Den) (W : DrawFn) (K7 : Int → V → BS → Int → H → Ans) (v1 : Int) (v2 : V) (v9 : BS) (σ : H) : Ans :=
 catK v9 (BS.mk 4 774778400) fun t1 =>
 K7 v1 v2 t1 (Int.ofNat 0) σ
def C4_6 : XC := (.seq (.ops (.op (some 89) .any [9] (.mov (.tmp 9)) <|
 .op (some 90) .any [89] (.bin .add .none (.con (V.str ⟨44, 1155320174116464280430403820601902550272215591982188862758896026166750936232273723435047202444581198372941⟩)) (.tmp 89)) <|
 .op (some 91) .any [90] (.bin .add .none (.tmp 90) (.con (V.str ⟨7, 2889852723559712⟩))) <|
 .op (some 12) .any [91] (.mov (.tmp 91)) <|
 .nil))
 (.seq (.ops (.op (some 93) .any [12] (.mov (.tmp 12)) <|
 .op (some 94) (.tup [(.agg [.str, (.int .i64), .any, .any, .any]), (.int .i64), (.int .i64)]) [93] (.call 6 [(.tmp 93)]) <|
 .op (some 92) .any [94] (.mov (.tmp 94)) <|
 .op (some 95) .any [92] (.extract 0 (.tmp 92)) <|
 .op (some 96) .any [92] (.extract 1 (.tmp 92)) <|
 .op (some 97) .any [92] (.extract 2 (.tmp 92)) <|
 .pal 13 [] 28 [(V.str ⟨0, 0⟩), (V.int .i64 (Int.ofNat 0)), V.nils, V.nils, V.nils] <|
 .op none (.agg [.str, (.int .i64), .any, .any, .any]) [13, 95] (.store 5 (.tmp 13) (.tmp 95)) <|
 .op (some 14) .any [96] (.mov (.tmp 96)) <|
 .op (some 15) .any [97] (.mov (.tmp 97)) <|
 .nil))
 (.seq (.ops (.op (some 98) .bool [] (.call 7 []) <|
 .op (some 99) .any [98] (.mov (.tmp 98)) <|
 .grp 99 true (.op (some 100) .any [15, 99] (.mov (.tmp 15)) <|
 .op (some 101) .any [100, 99] (.bin .eql .none (.tmp 100) (.con (V.int .i64 (Int.ofNat 0)))) <|
 .nil) 102 [99, 101] (.tmp 99) (.tmp 101) (.con (V.bool false)) <|
 .op (some 103) .any [102] (.mov (.tmp 102)) <|
 .grp 103 true (.op (some 104) (.agg [.str, (.int .i64), .any, .any, .any]) [13, 103] (.load (some 5) (.tmp 13)) <|
 .op (some 105) .str [104, 103] (.call 8 [(.tmp 104)]) <|
 .op (some 106) .any [12, 103] (.mov (.tmp 12)) <|
 .op (some 107) .any [105, 106, 103] (.bin .eql .none (.tmp 105) (.tmp 106)) <|
 .nil) 108 [103, 107] (.tmp 103) (.tmp 107) (.con (V.bool false)) <|
 .op (some 109) .any [108] (.mov (.tmp 108)) <|
 .grp 109 true (.op (some 110) (.agg [.str, (.int .i64), .any, .any, .any]) [13, 109] (.load (some 5) (.tmp 13)) <|
 .op (some 111) .bool [110, 109] (.call 10 [(.tmp 110)]) <|
 .nil) 112 [109, 111] (.tmp 109) (.tmp 111) (.con (V.bool false)) <|
 .op (some 8) .any [112] (.mov (.tmp 112)) <|
 .nil))
 .ret)))
def T4_6 (E : List (Nat × Blk)) (D : Den) (W : DrawFn) (v9 : BS) (σ : H) : Ans :=
 catK (BS.mk 44 1155320174116464280430403820601902550272215591982188862758896026166750936232273723435047202444581198372941) v9 fun t1 =>
 catK t1 (BS.mk 7 2889852723559712) fun t2 =>
 callK (D 6 [(V.str t2)] σ) fun u3 s4 =>
 rtTup u3 fun l5 =>
 rtCons l5 fun x6 l7 =>
 rtAgg x6 fun l8 =>
 rtCons l8 fun x9 l10 =>
 rtStr x9 fun x11 =>
 rtCons l10 fun x12 l13 =>
 rtInt .i64 x12 fun x14 =>
 rtCons l13 fun x15 l16 =>
 rtCons l16 fun x17 l18 =>
 rtCons l18 fun x19 l20 =>
 rtNil l20 (
 rtCons l7 fun x21 l22 =>
 rtInt .i64 x21 fun x23 =>
 rtCons l22 fun x24 l25 =>
 rtInt .i64 x24 fun x26 =>
 rtNil l25 (
 chk (allOne [(V.str x11), (V.int .i64 x14), x15, x17, x19]) (
 callK (D 7 [] s4) fun u27 s28 =>
 rtBool u27 fun x29 =>
 joinB (fun c30 s31 =>
 joinB (fun c33 s34 =>
 joinB (fun c36 s37 =>
 some ((V.bool c36), s37)) fun k38 =>
 condK c33 (
 callK (D 10 [(V.agg [(V.str x11), (V.int .i64 x14), x15, x17, x19])] s34) fun u39 s40 =>
 rtBool u39 fun x41 =>
 k38 x41 s40) (
 k38 false s34)) fun k35 =>
 condK c30 (
 callK (D 8 [(V.agg [(V.str x11), (V.int .i64 x14), x15, x17, x19])] s31) fun u42 s43 =>
 rtStr u42 fun x44 =>
 k35 (BS.beq x44 t2) s43) (
 k35 false s31)) fun k32 =>
 condK x29 (
 k32 (eqF x26 (Int.ofNat 0)) s28) (
 k32 false s28))))
def C4_7 (cc8 : XC) : XC := (.seq (.seq (.ops (.op (some 55) .any [11] (.mov (.tmp 11)) <|
 .op (some 56) .any [1] (.mov (.tmp 1)) <|
 .op (some 57) .any [55, 56] (.bin .lss .none (.tmp 55) (.tmp 56)) <|
 .nil))
 (.cond (.tmp 57) .skip
 (.exit 2)))
 (.seq (.block 3 (.seq (.ops (.op (some 60) .any [11] (.mov (.tmp 11)) <|
 .op (some 61) .any [2] (.mov (.tmp 2)) <|
 .op (some 62) .any [61] (.len false (.tmp 61)) <|
 .op (some 63) .any [60, 62] (.bin .lss .none (.tmp 60) (.tmp 62)) <|
 .op (some 64) .any [63] (.mov (.tmp 63)) <|
 .grp 64 true (.op (some 65) .any [2, 64] (.mov (.tmp 2)) <|
 .op (some 66) .any [11, 64] (.mov (.tmp 11)) <|
 .op (some 67) .any [65, 66, 64] (.iaddrS 1 (.tmp 65) (.tmp 66)) <|
 .op (some 68) .bool [67, 64] (.load none (.tmp 67)) <|
 .nil) 69 [64, 68] (.tmp 64) (.tmp 68) (.con (V.bool false)) <|
 .nil))
 (.cond (.tmp 69) (.ops (.op (some 70) .any [9] (.mov (.tmp 9)) <|
 .op (some 71) .any [70] (.bin .add .none (.tmp 70) (.con (V.str ⟨6, 113388669313068⟩))) <|
 .op (some 72) .any [11] (.mov (.tmp 11)) <|
 .op (some 73) .any [72] (.conv (.toInt .u64) (.tmp 72)) <|
 .op (some 74) .str [73] (.call 9 [(.tmp 73)]) <|
 .op (some 75) .any [71, 74] (.bin .add .none (.tmp 71) (.tmp 74)) <|
 .op (some 76) .any [75] (.bin .add .none (.tmp 75) (.con (V.str ⟨8, 7503045685409041952⟩))) <|
 .op (some 77) .any [11] (.mov (.tmp 11)) <|
 .op (some 78) .any [77] (.conv (.toInt .u64) (.tmp 77)) <|
 .op (some 79) .str [78] (.call 9 [(.tmp 78)]) <|
 .op (some 80) .any [76, 79] (.bin .add .none (.tmp 76) (.tmp 79)) <|
 .op (some 81) .any [80] (.bin .add .none (.tmp 80) (.con (V.str ⟨11, 112869877241742151453196832⟩))) <|
 .op (some 9) .any [81] (.mov (.tmp 81)) <|
 .nil))
 (.ops (.op (some 82) .any [9] (.mov (.tmp 9)) <|
 .op (some 83) .any [82] (.bin .add .none (.tmp 82) (.con (V.str ⟨3, 6758444⟩))) <|
 .op (some 84) .any [11] (.mov (.tmp 11)) <|
 .op (some 85) .any [84] (.conv (.toInt .u64) (.tmp 84)) <|
 .op (some 86) .str [85] (.call 9 [(.tmp 85)]) <|
 .op (some 87) .any [83, 86] (.bin .add .none (.tmp 83) (.tmp 86)) <|
 .op (some 88) .any [87] (.bin .add .none (.tmp 87) (.con (V.str ⟨5, 327698173472⟩))) <|
 .op (some 9) .any [88] (.mov (.tmp 88)) <|
 .nil)))))
 (.keep [(1, (.int .i64)), (2, .any), (9, .str), (11, (.int .i64))] [] [] cc8)))
def T4_7 (E : List (Nat × Blk)) (D : Den) (W : DrawFn) (K6 : BS → H → Ans) (K8 : Int → V → BS → Int → H → Ans) (v1 : Int) (v2 : V) (v9 : BS) (v11 : Int) (σ : H) : Ans :=
 condK (ltF v11 v1) (
 slenK v2 fun n1 =>
 joinB (fun c2 s3 =>
 condK c2 (
 catK v9 (BS.mk 6 113388669313068) fun t5 =>
 callK (D 9 [(V.int .u64 (wrapF .u64 v11))] s3) fun u6 s7 =>
 rtStr u6 fun x8 =>
 catK t5 x8 fun t9 =>
 catK t9 (BS.mk 8 7503045685409041952) fun t10 =>
 callK (D 9 [(V.int .u64 (wrapF .u64 v11))] s7) fun u11 s12 =>
 rtStr u11 fun x13 =>
 catK t10 x13 fun t14 =>
 catK t14 (BS.mk 11 112869877241742151453196832) fun t15 =>
 K8 v1 v2 t15 v11 s12) (
 catK v9 (BS.mk 3 6758444) fun t16 =>
 callK (D 9 [(V.int .u64 (wrapF .u64 v11))] s3) fun u17 s18 =>
 rtStr u17 fun x19 =>
 catK t16 x19 fun t20 =>
 catK t20 (BS.mk 5 327698173472) fun t21 =>
 K8 v1 v2 t21 v11 s18)) fun k4 =>
 condK (ltF v11 (Int.ofNat n1)) (
 iaddrSK 1 v2 v11 fun b22 o23 =>
 ldK E σ b22 o23 fun u24 =>
 rtBool u24 fun x25 =>
 k4 x25 σ) (
 k4 false σ)) (
 K6 v9 σ)
def C4_8 : XC := (.ops (.op (some 58) .any [11] (.mov (.tmp 11)) <|
 .op (some 59) .any [58] (.bin .add .none (.tmp 58) (.con (V.int .i64 (Int.ofNat 1)))) <|
 .op (some 11) .any [59] (.mov (.tmp 59)) <|
 .nil))
def T4_8 (E : List (Nat × Blk)) (D : Den) (W : DrawFn) (R7 : Int → V → BS → Int → H → Ans) (v1 : Int) (v2 : V) (v9 : BS) (v11 : Int) (σ : H) : Ans :=
 R7 v1 v2 v9 (addF .i64 v11 (Int.ofNat 1)) σ
theorem P4_0 (E : List (Nat × Blk)) (D : Den) (W : DrawFn) (N : Nat) (cc1 : XC) (cc2 : XC) (v0 : Int) (v1 : Int) (v2 : V) (v3 : Int) (σ : H) :
  denC E D W N (C4_0 cc1 cc2) ⟨[(0, (V.int .i64 v0)), (1, (V.int .i64 v1)), (2, v2), (3, (V.int .i64 v3))], [], [], σ⟩ (Fin4 E) (fun _ _ => none) (Fin4 E) =
  T4_0 E D W (fun v0 v1 v2 v9 v10 σ => iterK (fun rec s' => denC E D W N cc2 s' (fun s'' => keepS [(0, (.int .i64)), (1, (.int .i64)), (2, .any), (9, .str), (10, (.int .i64))] [] [] s'' rec) (blkK 0 (fun s' => denC E D W N (.keep [(0, (.int .i64)), (1, (.int .i64)), (2, .any), (9, .str)] [] [] cc1) s' (Fin4 E) (fun _ _ => none) (Fin4 E)) (fun _ _ => none)) (Fin4 E)) N ⟨[(0, (V.int .i64 v0)), (1, (V.int .i64 v1)), (2, v2), (9, (V.str v9)), (10, (V.int .i64 v10))], [], [], σ⟩) v0 v1 v2 v3 σ := by kernel_rfl
theorem P4_1 (E : List (Nat × Blk)) (D : Den) (W : DrawFn) (N : Nat) (cc5 : XC) (v0 : Int) (v1 : Int) (v2 : V) (v9 : BS) (σ : H) :
  denC E D W N (C4_1 cc5) ⟨[(0, (V.int .i64 v0)), (1, (V.int .i64 v1)), (2, v2), (9, (V.str v9))], [], [], σ⟩ (Fin4 E) (fun _ _ => none) (Fin4 E) =
  T4_1 E D W (fun v1 v2 v9 σ => denC E D W N cc5 ⟨[(1, (V.int .i64 v1)), (2, v2), (9, (V.str v9))], [], [], σ⟩ (Fin4 E) (fun _ _ => none) (Fin4 E)) v0 v1 v2 v9 σ := by kernel_rfl
theorem P4_2 (E : List (Nat × Blk)) (D : Den) (W : DrawFn) (N : Nat) (cc1 : XC) (cc3 : XC) (cc4 : XC) (li2 : St → Ans) (v0 : Int) (v1 : Int) (v2 : V) (v9 : BS) (v10 : Int) (σ : H) :
  denC E D W N (C4_2 cc3 cc4) ⟨[(0, (V.int .i64 v0)), (1, (V.int .i64 v1)), (2, v2), (9, (V.str v9)), (10, (V.int .i64 v10))], [], [], σ⟩ (fun s'' => keepS [(0, (.int .i64)), (1, (.int .i64)), (2, .any), (9, .str), (10, (.int .i64))] [] [] s'' li2) (blkK 0 (fun s' => denC E D W N (.keep [(0, (.int .i64)), (1, (.int .i64)), (2, .any), (9, .str)] [] [] cc1) s' (Fin4 E) (fun _ _ => none) (Fin4 E)) (fun _ _ => none)) (Fin4 E) =
  T4_2 E D W (fun v0 v1 v2 v9 σ => denC E D W N cc1 ⟨[(0, (V.int .i64 v0)), (1, (V.int .i64 v1)), (2, v2), (9, (V.str v9))], [], [], σ⟩ (Fin4 E) (fun _ _ => none) (Fin4 E)) (fun v0 v1 v2 v9 v10 σ => denC E D W N cc4 ⟨[(0, (V.int .i64 v0)), (1, (V.int .i64 v1)), (2, v2), (9, (V.str v9)), (10, (V.int .i64 v10))], [], [], σ⟩ (fun s' => denC E D W N (.keep [(0, (.int .i64)), (1, (.int .i64)), (2, .any), (9, .str), (10, (.int .i64))] [] [] cc3) s' (fun s'' => keepS [(0, (.int .i64)), (1, (.int .i64)), (2, .any), (9, .str), (10, (.int .i64))] [] [] s'' li2) (blkK 0 (fun s' => denC E D W N (.keep [(0, (.int .i64)), (1, (.int .i64)), (2, .any), (9, .str)] [] [] cc1) s' (Fin4 E) (fun _ _ => none) (Fin4 E)) (fun _ _ => none)) (Fin4 E)) (blkK 1 (fun s' => denC E D W N (.keep [(0, (.int .i64)), (1, (.int .i64)), (2, .any), (9, .str), (10, (.int .i64))] [] [] cc3) s' (fun s'' => keepS [(0, (.int .i64)), (1, (.int .i64)), (2, .any), (9, .str), (10, (.int .i64))] [] [] s'' li2) (blkK 0 (fun s' => denC E D W N (.keep [(0, (.int .i64)), (1, (.int .i64)), (2, .any), (9, .str)] [] [] cc1) s' (Fin4 E) (fun _ _ => none) (Fin4 E)) (fun _ _ => none)) (Fin4 E)) (blkK 0 (fun s' => denC E D W N (.keep [(0, (.int .i64)), (1, (.int .i64)), (2, .any), (9, .str)] [] [] cc1) s' (Fin4 E) (fun _ _ => none) (Fin4 E)) (fun _ _ => none))) (Fin4 E)) v0 v1 v2 v9 v10 σ := by kernel_rfl
theorem P4_3 (E : List (Nat × Blk)) (D : Den) (W : DrawFn) (N : Nat) (cc1 : XC) (li2 : St → Ans) (v0 : Int) (v1 : Int) (v2 : V) (v9 : BS) (v10 : Int) (σ : H) :
  denC E D W N (C4_3 ) ⟨[(0, (V.int .i64 v0)), (1, (V.int .i64 v1)), (2, v2), (9, (V.str v9)), (10, (V.int .i64 v10))], [], [], σ⟩ (fun s'' => keepS [(0, (.int .i64)), (1, (.int .i64)), (2, .any), (9, .str), (10, (.int .i64))] [] [] s'' li2) (blkK 0 (fun s' => denC E D W N (.keep [(0, (.int .i64)), (1, (.int .i64)), (2, .any), (9, .str)] [] [] cc1) s' (Fin4 E) (fun _ _ => none) (Fin4 E)) (fun _ _ => none)) (Fin4 E) =
  T4_3 E D W (fun v0 v1 v2 v9 v10 σ => li2 ⟨[(0, (V.int .i64 v0)), (1, (V.int .i64 v1)), (2, v2), (9, (V.str v9)), (10, (V.int .i64 v10))], [], [], σ⟩) v0 v1 v2 v9 v10 σ := by kernel_rfl
theorem P4_4 (E : List (Nat × Blk)) (D : Den) (W : DrawFn) (N : Nat) (cc1 : XC) (cc3 : XC) (li2 : St → Ans) (v0 : Int) (v1 : Int) (v2 : V) (v9 : BS) (v10 : Int) (σ : H) :
  denC E D W N (C4_4 ) ⟨[(0, (V.int .i64 v0)), (1, (V.int .i64 v1)), (2, v2), (9, (V.str v9)), (10, (V.int .i64 v10))], [], [], σ⟩ (fun s' => denC E D W N (.keep [(0, (.int .i64)), (1, (.int .i64)), (2, .any), (9, .str), (10, (.int .i64))] [] [] cc3) s' (fun s'' => keepS [(0, (.int .i64)), (1, (.int .i64)), (2, .any), (9, .str), (10, (.int .i64))] [] [] s'' li2) (blkK 0 (fun s' => denC E D W N (.keep [(0, (.int .i64)), (1, (.int .i64)), (2, .any), (9, .str)] [] [] cc1) s' (Fin4 E) (fun _ _ => none) (Fin4 E)) (fun _ _ => none)) (Fin4 E)) (blkK 1 (fun s' => denC E D W N (.keep [(0, (.int .i64)), (1, (.int .i64)), (2, .any), (9, .str), (10, (.int .i64))] [] [] cc3) s' (fun s'' => keepS [(0, (.int .i64)), (1, (.int .i64)), (2, .any), (9, .str), (10, (.int .i64))] [] [] s'' li2) (blkK 0 (fun s' => denC E D W N (.keep [(0, (.int .i64)), (1, (.int .i64)), (2, .any), (9, .str)] [] [] cc1) s' (Fin4 E) (fun _ _ => none) (Fin4 E)) (fun _ _ => none)) (Fin4 E)) (blkK 0 (fun s' => denC E D W N (.keep [(0, (.int .i64)), (1, (.int .i64)), (2, .any), (9, .str)] [] [] cc1) s' (Fin4 E) (fun _ _ => none) (Fin4 E)) (fun _ _ => none))) (Fin4 E) =
  T4_4 E D W (fun v0 v1 v2 v9 v10 σ => denC E D W N cc3 ⟨[(0, (V.int .i64 v0)), (1, (V.int .i64 v1)), (2, v2), (9, (V.str v9)), (10, (V.int .i64 v10))], [], [], σ⟩ (fun s'' => keepS [(0, (.int .i64)), (1, (.int .i64)), (2, .any), (9, .str), (10, (.int .i64))] [] [] s'' li2) (blkK 0 (fun s' => denC E D W N (.keep [(0, (.int .i64)), (1, (.int .i64)), (2, .any), (9, .str)] [] [] cc1) s' (Fin4 E) (fun _ _ => none) (Fin4 E)) (fun _ _ => none)) (Fin4 E)) v0 v1 v2 v9 v10 σ := by kernel_rfl
theorem P4_5 (E : List (Nat × Blk)) (D : Den) (W : DrawFn) (N : Nat) (cc6 : XC) (cc7 : XC) (v1 : Int) (v2 : V) (v9 : BS) (σ : H) :
  denC E D W N (C4_5 cc6 cc7) ⟨[(1, (V.int .i64 v1)), (2, v2), (9, (V.str v9))], [], [], σ⟩ (Fin4 E) (fun _ _ => none) (Fin4 E) =
  T4_5 E D W (fun v1 v2 v9 v11 σ => iterK (fun rec s' => denC E D W N cc7 s' (fun s'' => keepS [(1, (.int .i64)), (2, .any), (9, .str), (11, (.int .i64))] [] [] s'' rec) (blkK 2 (fun s' => denC E D W N (.keep [(9, .str)] [] [] cc6) s' (Fin4 E) (fun _ _ => none) (Fin4 E)) (fun _ _ => none)) (Fin4 E)) N ⟨[(1, (V.int .i64 v1)), (2, v2), (9, (V.str v9)), (11, (V.int .i64 v11))], [], [], σ⟩) v1 v2 v9 σ := by kernel_rfl
theorem P4_6 (E : List (Nat × Blk)) (D : Den) (W : DrawFn) (N : Nat) (v9 : BS) (σ : H) :
  denC E D W N (C4_6 ) ⟨[(9, (V.str v9))], [], [], σ⟩ (Fin4 E) (fun _ _ => none) (Fin4 E) =
  T4_6 E D W  v9 σ := by kernel_rfl
theorem P4_7 (E : List (Nat × Blk)) (D : Den) (W : DrawFn) (N : Nat) (cc6 : XC) (cc8 : XC) (li7 : St → Ans) (v1 : Int) (v2 : V) (v9 : BS) (v11 : Int) (σ : H) :
  denC E D W N (C4_7 cc8) ⟨[(1, (V.int .i64 v1)), (2, v2), (9, (V.str v9)), (11, (V.int .i64 v11))], [], [], σ⟩ (fun s'' => keepS [(1, (.int .i64)), (2, .any), (9, .str), (11, (.int .i64))] [] [] s'' li7) (blkK 2 (fun s' => denC E D W N (.keep [(9, .str)] [] [] cc6) s' (Fin4 E) (fun _ _ => none) (Fin4 E)) (fun _ _ => none)) (Fin4 E) =
  T4_7 E D W (fun v9 σ => denC E D W N cc6 ⟨[(9, (V.str v9))], [], [], σ⟩ (Fin4 E) (fun _ _ => none) (Fin4 E)) (fun v1 v2 v9 v11 σ => denC E D W N cc8 ⟨[(1, (V.int .i64 v1)), (2, v2), (9, (V.str v9)), (11, (V.int .i64 v11))], [], [], σ⟩ (fun s'' => keepS [(1, (.int .i64)), (2, .any), (9, .str), (11, (.int .i64))] [] [] s'' li7) (blkK 2 (fun s' => denC E D W N (.keep [(9, .str)] [] [] cc6) s' (Fin4 E) (fun _ _ => none) (Fin4 E)) (fun _ _ => none)) (Fin4 E)) v1 v2 v9 v11 σ := by kernel_rfl
theorem P4_8 (E : List (Nat × Blk)) (D : Den) (W : DrawFn) (N : Nat) (cc6 : XC) (li7 : St → Ans) (v1 : Int) (v2 : V) (v9 : BS) (v11 : Int) (σ : H) :
  denC E D W N (C4_8 ) ⟨[(1, (V.int .i64 v1)), (2, v2), (9, (V.str v9)), (11, (V.int .i64 v11))], [], [], σ⟩ (fun s'' => keepS [(1, (.int .i64)), (2, .any), (9, .str), (11, (.int .i64))] [] [] s'' li7) (blkK 2 (fun s' => denC E D W N (.keep [(9, .str)] [] [] cc6) s' (Fin4 E) (fun _ _ => none) (Fin4 E)) (fun _ _ => none)) (Fin4 E) =
  T4_8 E D W (fun v1 v2 v9 v11 σ => li7 ⟨[(1, (V.int .i64 v1)), (2, v2), (9, (V.str v9)), (11, (V.int .i64 v11))], [], [], σ⟩) v1 v2 v9 v11 σ := by kernel_rfl
def J4_6 (E : List (Nat × Blk)) (D : Den) (W : DrawFn) (N : Nat) : BS → H → Ans := T4_6 E D W 
theorem JE4_6 (E : List (Nat × Blk)) (D : Den) (W : DrawFn) (N : Nat) (v9 : BS) (σ : H) :
  denC E D W N C4_6 ⟨[(9, (V.str v9))], [], [], σ⟩ (Fin4 E) (fun _ _ => none) (Fin4 E) = J4_6 E D W N v9 σ := by
  refine (P4_6 E D W N   v9 σ).trans ?_
  kernel_rfl
def J4_8 (E : List (Nat × Blk)) (D : Den) (W : DrawFn) (N : Nat) (R7 : Int → V → BS → Int → H → Ans) : Int → V → BS → Int → H → Ans := T4_8 E D W R7
theorem JE4_8 (E : List (Nat × Blk)) (D : Den) (W : DrawFn) (N : Nat) (li7 : St → Ans) (v1 : Int) (v2 : V) (v9 : BS) (v11 : Int) (σ : H) :
  denC E D W N C4_8 ⟨[(1, (V.int .i64 v1)), (2, v2), (9, (V.str v9)), (11, (V.int .i64 v11))], [], [], σ⟩ (fun s'' => keepS [(1, (.int .i64)), (2, .any), (9, .str), (11, (.int .i64))] [] [] s'' li7) (blkK 2 (fun s' => denC E D W N (.keep [(9, .str)] [] [] C4_6) s' (Fin4 E) (fun _ _ => none) (Fin4 E)) (fun _ _ => none)) (Fin4 E) = J4_8 E D W N (fun v1 v2 v9 v11 σ => li7 ⟨[(1, (V.int .i64 v1)), (2, v2), (9, (V.str v9)), (11, (V.int .i64 v11))], [], [], σ⟩) v1 v2 v9 v11 σ := by
  refine (P4_8 E D W N C4_6 li7 v1 v2 v9 v11 σ).trans ?_
  kernel_rfl
def L4_7 (E : List (Nat × Blk)) (D : Den) (W : DrawFn) (N : Nat) (n : Nat) : Int → V → BS → Int → H → Ans :=
  Nat.rec (fun _ _ _ _ _ => none) (fun _ ih => T4_7 E D W (J4_6 E D W N ) (J4_8 E D W N ih)) n
theorem LE4_7 (E : List (Nat × Blk)) (D : Den) (W : DrawFn) (N : Nat) (n : Nat) : ∀ (v1 : Int) (v2 : V) (v9 : BS) (v11 : Int) (σ : H),
  iterK (fun rec s' => denC E D W N (C4_7 C4_8) s' (fun s'' => keepS [(1, (.int .i64)), (2, .any), (9, .str), (11, (.int .i64))] [] [] s'' rec) (blkK 2 (fun s' => denC E D W N (.keep [(9, .str)] [] [] C4_6) s' (Fin4 E) (fun _ _ => none) (Fin4 E)) (fun _ _ => none)) (Fin4 E)) n ⟨[(1, (V.int .i64 v1)), (2, v2), (9, (V.str v9)), (11, (V.int .i64 v11))], [], [], σ⟩ = L4_7 E D W N n v1 v2 v9 v11 σ := by
  induction n with
  | zero => intro v1 v2 v9 v11 σ; rfl
  | succ n ihn =>
    intro v1 v2 v9 v11 σ
    rw [iterK_succ]
    refine (P4_7 E D W N C4_6 C4_8 (iterK (fun rec s' => denC E D W N (C4_7 C4_8) s' (fun s'' => keepS [(1, (.int .i64)), (2, .any), (9, .str), (11, (.int .i64))] [] [] s'' rec) (blkK 2 (fun s' => denC E D W N (.keep [(9, .str)] [] [] C4_6) s' (Fin4 E) (fun _ _ => none) (Fin4 E)) (fun _ _ => none)) (Fin4 E)) n) v1 v2 v9 v11 σ).trans ?_
    simp only [ihn, JE4_6, JE4_8]
    kernel_rfl
def J4_5 (E : List (Nat × Blk)) (D : Den) (W : DrawFn) (N : Nat) : Int → V → BS → H → Ans := T4_5 E D W (L4_7 E D W N N)
theorem JE4_5 (E : List (Nat × Blk)) (D : Den) (W : DrawFn) (N : Nat) (v1 : Int) (v2 : V) (v9 : BS) (σ : H) :
  denC E D W N (C4_5 C4_6 (C4_7 C4_8)) ⟨[(1, (V.int .i64 v1)), (2, v2), (9, (V.str v9))], [], [], σ⟩ (Fin4 E) (fun _ _ => none) (Fin4 E) = J4_5 E D W N v1 v2 v9 σ := by
  refine (P4_5 E D W N C4_6 (C4_7 C4_8)  v1 v2 v9 σ).trans ?_
  simp only [LE4_7]
  kernel_rfl
def J4_1 (E : List (Nat × Blk)) (D : Den) (W : DrawFn) (N : Nat) : Int → Int → V → BS → H → Ans := T4_1 E D W (J4_5 E D W N )
theorem JE4_1 (E : List (Nat × Blk)) (D : Den) (W : DrawFn) (N : Nat) (v0 : Int) (v1 : Int) (v2 : V) (v9 : BS) (σ : H) :
  denC E D W N (C4_1 (C4_5 C4_6 (C4_7 C4_8))) ⟨[(0, (V.int .i64 v0)), (1, (V.int .i64 v1)), (2, v2), (9, (V.str v9))], [], [], σ⟩ (Fin4 E) (fun _ _ => none) (Fin4 E) = J4_1 E D W N v0 v1 v2 v9 σ := by
  refine (P4_1 E D W N (C4_5 C4_6 (C4_7 C4_8))  v0 v1 v2 v9 σ).trans ?_
  simp only [JE4_5]
  kernel_rfl
def J4_3 (E : List (Nat × Blk)) (D : Den) (W : DrawFn) (N : Nat) (R2 : Int → Int → V → BS → Int → H → Ans) : Int → Int → V → BS → Int → H → Ans := T4_3 E D W R2
theorem JE4_3 (E : List (Nat × Blk)) (D : Den) (W : DrawFn) (N : Nat) (li2 : St → Ans) (v0 : Int) (v1 : Int) (v2 : V) (v9 : BS) (v10 : Int) (σ : H) :
  denC E D W N C4_3 ⟨[(0, (V.int .i64 v0)), (1, (V.int .i64 v1)), (2, v2), (9, (V.str v9)), (10, (V.int .i64 v10))], [], [], σ⟩ (fun s'' => keepS [(0, (.int .i64)), (1, (.int .i64)), (2, .any), (9, .str), (10, (.int .i64))] [] [] s'' li2) (blkK 0 (fun s' => denC E D W N (.keep [(0, (.int .i64)), (1, (.int .i64)), (2, .any), (9, .str)] [] [] (C4_1 (C4_5 C4_6 (C4_7 C4_8)))) s' (Fin4 E) (fun _ _ => none) (Fin4 E)) (fun _ _ => none)) (Fin4 E) = J4_3 E D W N (fun v0 v1 v2 v9 v10 σ => li2 ⟨[(0, (V.int .i64 v0)), (1, (V.int .i64 v1)), (2, v2), (9, (V.str v9)), (10, (V.int .i64 v10))], [], [], σ⟩) v0 v1 v2 v9 v10 σ := by
  refine (P4_3 E D W N (C4_1 (C4_5 C4_6 (C4_7 C4_8))) li2 v0 v1 v2 v9 v10 σ).trans ?_
  kernel_rfl
def J4_4 (E : List (Nat × Blk)) (D : Den) (W : DrawFn) (N : Nat) (R2 : Int → Int → V → BS → Int → H → Ans) : Int → Int → V → BS → Int → H → Ans := T4_4 E D W (J4_3 E D W N R2)
theorem JE4_4 (E : List (Nat × Blk)) (D : Den) (W : DrawFn) (N : Nat) (li2 : St → Ans) (v0 : Int) (v1 : Int) (v2 : V) (v9 : BS) (v10 : Int) (σ : H) :
  denC E D W N C4_4 ⟨[(0, (V.int .i64 v0)), (1, (V.int .i64 v1)), (2, v2), (9, (V.str v9)), (10, (V.int .i64 v10))], [], [], σ⟩ (fun s' => denC E D W N (.keep [(0, (.int .i64)), (1, (.int .i64)), (2, .any), (9, .str), (10, (.int .i64))] [] [] C4_3) s' (fun s'' => keepS [(0, (.int .i64)), (1, (.int .i64)), (2, .any), (9, .str), (10, (.int .i64))] [] [] s'' li2) (blkK 0 (fun s' => denC E D W N (.keep [(0, (.int .i64)), (1, (.int .i64)), (2, .any), (9, .str)] [] [] (C4_1 (C4_5 C4_6 (C4_7 C4_8)))) s' (Fin4 E) (fun _ _ => none) (Fin4 E)) (fun _ _ => none)) (Fin4 E)) (blkK 1 (fun s' => denC E D W N (.keep [(0, (.int .i64)), (1, (.int .i64)), (2, .any), (9, .str), (10, (.int .i64))] [] [] C4_3) s' (fun s'' => keepS [(0, (.int .i64)), (1, (.int .i64)), (2, .any), (9, .str), (10, (.int .i64))] [] [] s'' li2) (blkK 0 (fun s' => denC E D W N (.keep [(0, (.int .i64)), (1, (.int .i64)), (2, .any), (9, .str)] [] [] (C4_1 (C4_5 C4_6 (C4_7 C4_8)))) s' (Fin4 E) (fun _ _ => none) (Fin4 E)) (fun _ _ => none)) (Fin4 E)) (blkK 0 (fun s' => denC E D W N (.keep [(0, (.int .i64)), (1, (.int .i64)), (2, .any), (9, .str)] [] [] (C4_1 (C4_5 C4_6 (C4_7 C4_8)))) s' (Fin4 E) (fun _ _ => none) (Fin4 E)) (fun _ _ => none))) (Fin4 E) = J4_4 E D W N (fun v0 v1 v2 v9 v10 σ => li2 ⟨[(0, (V.int .i64 v0)), (1, (V.int .i64 v1)), (2, v2), (9, (V.str v9)), (10, (V.int .i64 v10))], [], [], σ⟩) v0 v1 v2 v9 v10 σ := by
  refine (P4_4 E D W N (C4_1 (C4_5 C4_6 (C4_7 C4_8))) C4_3 li2 v0 v1 v2 v9 v10 σ).trans ?_
  simp only [JE4_3]
  kernel_rfl
def L4_2 (E : List (Nat × Blk)) (D : Den) (W : DrawFn) (N : Nat) (n : Nat) : Int → Int → V → BS → Int → H → Ans :=
  Nat.rec (fun _ _ _ _ _ _ => none) (fun _ ih => T4_2 E D W (J4_1 E D W N ) (J4_4 E D W N ih)) n
theorem LE4_2 (E : List (Nat × Blk)) (D : Den) (W : DrawFn) (N : Nat) (n : Nat) : ∀ (v0 : Int) (v1 : Int) (v2 : V) (v9 : BS) (v10 : Int) (σ : H),
  iterK (fun rec s' => denC E D W N (C4_2 C4_3 C4_4) s' (fun s'' => keepS [(0, (.int .i64)), (1, (.int .i64)), (2, .any), (9, .str), (10, (.int .i64))] [] [] s'' rec) (blkK 0 (fun s' => denC E D W N (.keep [(0, (.int .i64)), (1, (.int .i64)), (2, .any), (9, .str)] [] [] (C4_1 (C4_5 C4_6 (C4_7 C4_8)))) s' (Fin4 E) (fun _ _ => none) (Fin4 E)) (fun _ _ => none)) (Fin4 E)) n ⟨[(0, (V.int .i64 v0)), (1, (V.int .i64 v1)), (2, v2), (9, (V.str v9)), (10, (V.int .i64 v10))], [], [], σ⟩ = L4_2 E D W N n v0 v1 v2 v9 v10 σ := by
  induction n with
  | zero => intro v0 v1 v2 v9 v10 σ; rfl
  | succ n ihn =>
    intro v0 v1 v2 v9 v10 σ
    rw [iterK_succ]
    refine (P4_2 E D W N (C4_1 (C4_5 C4_6 (C4_7 C4_8))) C4_3 C4_4 (iterK (fun rec s' => denC E D W N (C4_2 C4_3 C4_4) s' (fun s'' => keepS [(0, (.int .i64)), (1, (.int .i64)), (2, .any), (9, .str), (10, (.int .i64))] [] [] s'' rec) (blkK 0 (fun s' => denC E D W N (.keep [(0, (.int .i64)), (1, (.int .i64)), (2, .any), (9, .str)] [] [] (C4_1 (C4_5 C4_6 (C4_7 C4_8)))) s' (Fin4 E) (fun _ _ => none) (Fin4 E)) (fun _ _ => none)) (Fin4 E)) n) v0 v1 v2 v9 v10 σ).trans ?_
    simp only [ihn, JE4_1, JE4_4]
    kernel_rfl
def J4_0 (E : List (Nat × Blk)) (D : Den) (W : DrawFn) (N : Nat) : Int → Int → V → Int → H → Ans := T4_0 E D W (L4_2 E D W N N)
theorem JE4_0 (E : List (Nat × Blk)) (D : Den) (W : DrawFn) (N : Nat) (v0 : Int) (v1 : Int) (v2 : V) (v3 : Int) (σ : H) :
  denC E D W N (C4_0 (C4_1 (C4_5 C4_6 (C4_7 C4_8))) (C4_2 C4_3 C4_4)) ⟨[(0, (V.int .i64 v0)), (1, (V.int .i64 v1)), (2, v2), (3, (V.int .i64 v3))], [], [], σ⟩ (Fin4 E) (fun _ _ => none) (Fin4 E) = J4_0 E D W N v0 v1 v2 v3 σ := by
  refine (P4_0 E D W N (C4_1 (C4_5 C4_6 (C4_7 C4_8))) (C4_2 C4_3 C4_4)  v0 v1 v2 v3 σ).trans ?_
  simp only [LE4_2]
  kernel_rfl
def F4 (E : List (Nat × Blk)) (D : Den) (W : DrawFn) (N : Nat) (args : List V) (σ : H) : Ans :=
 rtCons args fun x1 l2 =>
 rtInt .i64 x1 fun x3 =>
 rtCons l2 fun x4 l5 =>
 rtInt .i64 x4 fun x6 =>
 rtCons l5 fun x7 l8 =>
 rtCons l8 fun x9 l10 =>
 rtInt .i64 x9 fun x11 =>
 rtNil l10 (
 J4_0 E D W N x3 x6 x7 x11 σ)
def A4 : XFn := ⟨113, [(.int .i64), (.int .i64), .any, (.int .i64)], [(.tmp 8)], (C4_0 (C4_1 (C4_5 C4_6 (C4_7 C4_8))) (C4_2 C4_3 C4_4))⟩
theorem FE4 (E : List (Nat × Blk)) (D : Den) (W : DrawFn) (N : Nat) (args : List V) (σ : H) : runX E D W N A4 args σ = F4 E D W N args σ := by
  unfold F4
  simp only [← JE4_0]
  kernel_rfl
theorem AO4 : A4.body.ok = true := by kernel_rfl

def G6_0 : List AOper := [⟨(some 140), .build [(V.str ⟨0, 0⟩), (V.int .i64 (Int.ofNat 0)), V.nils, V.nils, V.nils] [], none⟩, ⟨(some 141), .mov (.tmp 8), none⟩, ⟨(some 142), .nilck (.tmp 141), none⟩, ⟨(some 143), .faddr 8 (.tmp 142), none⟩, ⟨(some 144), .load none (.tmp 143), none⟩, ⟨(some 145), .mov (.tmp 8), none⟩, ⟨(some 146), .nilck (.tmp 145), none⟩, ⟨(some 147), .faddr 7 (.tmp 146), none⟩, ⟨(some 148), .load none (.tmp 147), none⟩, ⟨none, .store 5 (.tmp 2) (.tmp 140), none⟩, ⟨(some 3), .mov (.tmp 144), none⟩, ⟨(some 4), .mov (.tmp 148), none⟩]
def H6_0 : List DP := [⟨0, []⟩, ⟨0, [8]⟩, ⟨2, [141]⟩, ⟨6, [142]⟩, ⟨14, [143]⟩, ⟨0, [8]⟩, ⟨32, [145]⟩, ⟨96, [146]⟩, ⟨224, [147]⟩, ⟨1, [2, 140]⟩, ⟨543, [144]⟩, ⟨2047, [148]⟩]
def C6_0 (cc1 : XC) : XC := (.seq (.ops (.op (some 2) .any [] (.alloc 28 [(V.str ⟨0, 0⟩), (V.int .i64 (Int.ofNat 0)), V.nils, V.nils, V.nils]) <|
 .op (some 3) .any [] (.mov (.con (V.int .i64 (Int.ofNat 0)))) <|
 .op (some 4) .any [] (.mov (.con (V.int .i64 (Int.ofNat 0)))) <|
 .nil))
 (.seq (.ops (.op (some 13) .any [0] (.mov (.tmp 0)) <|
 .op (some 14) (.tup [.any, (.int .i64), (.int .i64)]) [13] (.call 11 [(.tmp 13)]) <|
 .op (some 12) .any [14] (.mov (.tmp 14)) <|
 .op (some 15) .any [12] (.extract 0 (.tmp 12)) <|
 .op (some 16) .any [12] (.extract 1 (.tmp 12)) <|
 .op (some 17) .any [12] (.extract 2 (.tmp 12)) <|
 .op (some 5) .any [15] (.mov (.tmp 15)) <|
 .op (some 6) .any [16] (.mov (.tmp 16)) <|
 .op (some 7) .any [17] (.mov (.tmp 17)) <|
 .nil))
 (.seq (.seq (.ops (.op (some 18) .any [7] (.mov (.tmp 7)) <|
 .op (some 19) .any [18] (.bin .neq .none (.tmp 18) (.con (V.int .i64 (Int.ofNat 0)))) <|
 .nil))
 (.cond (.tmp 19) (.seq (.ops (.op (some 20) (.agg [.str, (.int .i64), .any, .any, .any]) [] (.build [(V.str ⟨0, 0⟩), (V.int .i64 (Int.ofNat 0)), V.nils, V.nils, V.nils] []) <|
 .op (some 21) .any [6] (.mov (.tmp 6)) <|
 .op (some 22) .any [7] (.mov (.tmp 7)) <|
 .op none (.agg [.str, (.int .i64), .any, .any, .any]) [2, 20] (.store 5 (.tmp 2) (.tmp 20)) <|
 .op (some 3) .any [21] (.mov (.tmp 21)) <|
 .op (some 4) .any [22] (.mov (.tmp 22)) <|
 .nil))
 .ret)
 .skip))
 (.seq (.ops (.op (some 23) .any [5] (.mov (.tmp 5)) <|
 .op (some 24) (.agg [.any, (.int .i64), .str, (.int .i64), .any, .any, .any, (.int .i64), (.int .i64)]) [23] (.build [V.nils, (V.int .i64 (Int.ofNat 0)), (V.str ⟨0, 0⟩), (V.int .i64 (Int.ofNat 0)), V.nils, V.nils, V.nils, (V.int .i64 (Int.ofNat 0)), (V.int .i64 (Int.ofNat 0))] [(0, 1, (.tmp 23))]) <|
 .op (some 25) .any [24] (.box 45 (.tmp 24)) <|
 .op (some 8) .any [25] (.mov (.tmp 25)) <|
 .nil))
 (.seq (.ops (.op (some 26) .any [8] (.mov (.tmp 8)) <|
 .op (some 27) .any [8] (.mov (.tmp 8)) <|
 .op (some 28) .str [27] (.call 12 [(.tmp 27), (.con (V.int .i64 (Int.ofNat 1)))]) <|
 .op (some 29) .any [26] (.nilck (.tmp 26)) <|
 .op (some 30) .any [29] (.faddr 2 (.tmp 29)) <|
 .op (some 31) .any [30] (.faddr 0 (.tmp 30)) <|
 .op none .any [31, 28] (.store 1 (.tmp 31) (.tmp 28)) <|
 .nil))
 (.seq (.ops (.op (some 32) .any [8] (.mov (.tmp 8)) <|
 .op (some 33) (.tup []) [32] (.call 13 [(.tmp 32), (.con (V.str ⟨11, 100710650190388740279911748⟩))]) <|
 .nil))
 (.seq (.block 0 (.seq (.ops (.op (some 35) .any [8] (.mov (.tmp 8)) <|
 .op (some 36) .bool [35] (.call 14 [(.tmp 35), (.con (V.str ⟨8, 6073459554577832005⟩))]) <|
 .op (some 34) .any [36] (.mov (.tmp 36)) <|
 .nil))
 (.cond (.tmp 34) (.ops (.op (some 37) .any [8] (.mov (.tmp 8)) <|
 .op (some 38) (.tup []) [37] (.call 13 [(.tmp 37), (.con (V.str ⟨4, 1397178708⟩))]) <|
 .nil))
 (.seq (.ops (.op (some 40) .any [8] (.mov (.tmp 8)) <|
 .op (some 41) .bool [40] (.call 14 [(.tmp 40), (.con (V.str ⟨8, 6073459554577829193⟩))]) <|
 .op (some 39) .any [41] (.mov (.tmp 41)) <|
 .nil))
 (.cond (.tmp 39) (.seq (.ops (.op (some 42) .any [8] (.mov (.tmp 8)) <|
 .op (some 43) .any [42] (.nilck (.tmp 42)) <|
 .op (some 44) .any [43] (.faddr 2 (.tmp 43)) <|
 .op (some 45) .any [44] (.faddr 1 (.tmp 44)) <|
 .op none .any [45] (.store 1 (.tmp 45) (.con (V.int .i64 (Int.ofNat 1)))) <|
 .nil))
 (.ops (.op (some 46) .any [8] (.mov (.tmp 8)) <|
 .op (some 47) (.tup []) [46] (.call 13 [(.tmp 46), (.con (V.str ⟨4, 1397178708⟩))]) <|
 .nil)))
 (.seq (.ops (.op (some 49) .any [8] (.mov (.tmp 8)) <|
 .op (some 50) .bool [49] (.call 14 [(.tmp 49), (.con (V.str ⟨9, 1241215773001651606849⟩))]) <|
 .op (some 48) .any [50] (.mov (.tmp 50)) <|
 .nil))
 (.cond (.tmp 48) (.seq (.ops (.op (some 51) .any [8] (.mov (.tmp 8)) <|
 .op (some 52) .any [51] (.nilck (.tmp 51)) <|
 .op (some 53) .any [52] (.faddr 2 (.tmp 52)) <|
 .op (some 54) .any [53] (.faddr 1 (.tmp 53)) <|
 .op none .any [54] (.store 1 (.tmp 54) (.con (V.int .i64 (Int.ofNat 2)))) <|
 .nil))
 (.ops (.op (some 55) .any [8] (.mov (.tmp 8)) <|
 .op (some 56) (.tup []) [55] (.call 13 [(.tmp 55), (.con (V.str ⟨4, 1397178708⟩))]) <|
 .nil)))
 .skip)))))))
 (.keep [(2, .ptr), (8, .ptr)] [] [] cc1))))))))
def C6_1 (cc2 : XC) (cc3 : XC) : XC := (.seq (.ops (.op (some 57) .any [8] (.mov (.tmp 8)) <|
 .op (some 58) (.tup []) [57] (.call 13 [(.tmp 57), (.con (V.str ⟨3, 4012602⟩))]) <|
 .nil))
 (.seq (.ops (.op (some 59) .any [8] (.mov (.tmp 8)) <|
 .op (some 60) (.tup []) [59] (.call 13 [(.tmp 59), (.con (V.str ⟨5, 336236856642⟩))]) <|
 .nil))
 (.seq (.block 1 (.loop [(2, .ptr), (8, .ptr)] [] [] cc3))
 (.keep [(2, .ptr), (8, .ptr)] [] [] cc2))))
def C6_2 (cc5 : XC) : XC := (.seq (.seq (.ops (.op (some 120) .any [8] (.mov (.tmp 8)) <|
 .op (some 121) .any [120] (.nilck (.tmp 120)) <|
 .op (some 122) .any [121] (.faddr 7 (.tmp 121)) <|
 .op (some 123) (.int .i64) [122] (.load none (.tmp 122)) <|
 .op (some 124) .any [123] (.bin .eql .none (.tmp 123) (.con (V.int .i64 (Int.ofNat 0)))) <|
 .op (some 125) .any [124] (.mov (.tmp 124)) <|
 .grp 125 true (.op (some 126) .any [8, 125] (.mov (.tmp 8)) <|
 .op (some 127) (.agg [(.int .i64), .str, (.int .i64)]) [126, 125] (.call 15 [(.tmp 126)]) <|
 .op (some 128) (.int .i64) [127, 125] (.field 0 none (.tmp 127)) <|
 .op (some 129) .any [128, 125] (.bin .neq .none (.tmp 128) (.con (V.int .i64 (Int.ofNat 0)))) <|
 .nil) 130 [125, 129] (.tmp 125) (.tmp 129) (.con (V.bool false)) <|
 .nil))
 (.cond (.tmp 130) (.ops (.op (some 131) .any [8] (.mov (.tmp 8)) <|
 .op (some 132) .any [8] (.mov (.tmp 8)) <|
 .op (some 133) (.agg [(.int .i64), .str, (.int .i64)]) [132] (.call 15 [(.tmp 132)]) <|
 .op (some 134) (.tup []) [131, 133] (.call 16 [(.tmp 131), (.con (V.int .i64 (Int.ofNat 7))), (.tmp 133)]) <|
 .nil))
 .skip))
 (.keep [(2, .ptr), (8, .ptr)] [] [] cc5))
def C6_3 (cc4 : XC) : XC := (.seq (.seq (.ops (.op (some 61) .any [8] (.mov (.tmp 8)) <|
 .op (some 62) .any [61] (.nilck (.tmp 61)) <|
 .op (some 63) .any [62] (.faddr 7 (.tmp 62)) <|
 .op (some 64) (.int .i64) [63] (.load none (.tmp 63)) <|
 .op (some 65) .any [64] (.bin .eql .none (.tmp 64) (.con (V.int .i64 (Int.ofNat 0)))) <|
 .op (some 66) .any [65] (.mov (.tmp 65)) <|
 .grp 66 true (.op (some 67) .any [8, 66] (.mov (.tmp 8)) <|
 .op (some 68) .bool [67, 66] (.call 14 [(.tmp 67), (.con (V.str ⟨3, 4476485⟩))]) <|
 .op (some 69) .any [68, 66] (.un .not (.tmp 68)) <|
 .nil) 70 [66, 69] (.tmp 66) (.tmp 69) (.con (V.bool false)) <|
 .nil))
 (.cond (.tmp 70) .skip
 (.exit 1)))
 (.block 2 (.seq (.ops (.op (some 71) .any [8] (.mov (.tmp 8)) <|
 .op (some 72) (.agg [(.int .i64), .str, (.int .i64)]) [71] (.call 15 [(.tmp 71)]) <|
 .pal 9 [] 50 [(V.int .i64 (Int.ofNat 0)), (V.str ⟨0, 0⟩), (V.int .i64 (Int.ofNat 0))] <|
 .op none (.agg [(.int .i64), .str, (.int .i64)]) [9, 72] (.store 3 (.tmp 9) (.tmp 72)) <|
 .nil))
 (.seq (.ops (.op (some 73) .any [8] (.mov (.tmp 8)) <|
 .op (some 74) .str [73] (.call 12 [(.tmp 73), (.con (V.int .i64 (Int.ofNat 1)))]) <|
 .op (some 10) .any [74] (.mov (.tmp 74)) <|
 .nil))
 (.seq (.seq (.ops (.op (some 75) .any [8] (.mov (.tmp 8)) <|
 .op (some 76) .any [75] (.nilck (.tmp 75)) <|
 .op (some 77) .any [76] (.faddr 7 (.tmp 76)) <|
 .op (some 78) (.int .i64) [77] (.load none (.tmp 77)) <|
 .op (some 79) .any [78] (.bin .eql .none (.tmp 78) (.con (V.int .i64 (Int.ofNat 0)))) <|
 .op (some 80) .any [79] (.mov (.tmp 79)) <|
 .grp 80 true (.op (some 81) .any [8, 80] (.mov (.tmp 8)) <|
 .op (some 82) .any [81, 80] (.nilck (.tmp 81)) <|
 .op (some 83) .any [82, 80] (.faddr 2 (.tmp 82)) <|
 .op (some 84) .any [83, 80] (.faddr 2 (.tmp 83)) <|
 .op (some 85) .any [84, 80] (.load none (.tmp 84)) <|
 .op (some 86) .any [85, 80] (.len false (.tmp 85)) <|
 .op (some 87) .any [86, 80] (.bin .geq .none (.tmp 86) (.con (V.int .i64 (Int.ofNat 40)))) <|
 .nil) 88 [80, 87] (.tmp 80) (.tmp 87) (.con (V.bool false)) <|
 .nil))
 (.cond (.tmp 88) (.ops (.op (some 89) .any [8] (.mov (.tmp 8)) <|
 .op (some 90) (.agg [(.int .i64), .str, (.int .i64)]) [9] (.load (some 3) (.tmp 9)) <|
 .op (some 91) (.tup []) [89, 90] (.call 16 [(.tmp 89), (.con (V.int .i64 (Int.ofNat 5))), (.tmp 90)]) <|
 .nil))
 .skip))
 (.keep [(2, .ptr), (8, .ptr), (10, .str)] [] [] cc4))))))
def C6_4 : XC := (.seq (.ops (.op (some 92) .any [8] (.mov (.tmp 8)) <|
 .op (some 93) (.tup []) [92] (.call 13 [(.tmp 92), (.con (V.str ⟨3, 4012602⟩))]) <|
 .nil))
 (.seq (.ops (.op (some 94) .any [8] (.mov (.tmp 8)) <|
 .op (some 95) (.int .i64) [94] (.call 17 [(.tmp 94), (.con (V.int .i64 (Int.ofNat 0)))]) <|
 .op (some 11) .any [95] (.mov (.tmp 95)) <|
 .nil))
 (.seq (.ops (.op (some 96) .any [8] (.mov (.tmp 8)) <|
 .op (some 97) .any [8] (.mov (.tmp 8)) <|
 .op (some 98) .any [97] (.nilck (.tmp 97)) <|
 .op (some 99) .any [98] (.faddr 2 (.tmp 98)) <|
 .op (some 100) .any [99] (.faddr 2 (.tmp 99)) <|
 .op (some 101) .any [100] (.load none (.tmp 100)) <|
 .op (some 102) .any [10] (.mov (.tmp 10)) <|
 .op (some 103) .any [102] (.buildSlice 9 1 [(V.str ⟨0, 0⟩)] [(0, 1, (.tmp 102))]) <|
 .op (some 104) .one [101, 103] (.append 9 1 16 (.tmp 101) (.tmp 103)) <|
 .op (some 105) .any [96] (.nilck (.tmp 96)) <|
 .op (some 106) .any [105] (.faddr 2 (.tmp 105)) <|
 .op (some 107) .any [106] (.faddr 2 (.tmp 106)) <|
 .op none .any [107, 104] (.store 1 (.tmp 107) (.tmp 104)) <|
 .nil))
 (.ops (.op (some 108) .any [8] (.mov (.tmp 8)) <|
 .op (some 109) .any [8] (.mov (.tmp 8)) <|
 .op (some 110) .any [109] (.nilck (.tmp 109)) <|
 .op (some 111) .any [110] (.faddr 2 (.tmp 110)) <|
 .op (some 112) .any [111] (.faddr 3 (.tmp 111)) <|
 .op (some 113) .any [112] (.load none (.tmp 112)) <|
 .op (some 114) .any [11] (.mov (.tmp 11)) <|
 .op (some 115) .any [114] (.buildSlice 3 1 [(V.int .i64 (Int.ofNat 0))] [(0, 1, (.tmp 114))]) <|
 .op (some 116) .one [113, 115] (.append 3 1 8 (.tmp 113) (.tmp 115)) <|
 .op (some 117) .any [108] (.nilck (.tmp 108)) <|
 .op (some 118) .any [117] (.faddr 2 (.tmp 117)) <|
 .op (some 119) .any [118] (.faddr 3 (.tmp 118)) <|
 .op none .any [119, 116] (.store 1 (.tmp 119) (.tmp 116)) <|
 .nil)))))
def C6_5 : XC := (.seq (.seq (.ops (.op (some 135) .any [8] (.mov (.tmp 8)) <|
 .op (some 136) .any [135] (.nilck (.tmp 135)) <|
 .op (some 137) .any [136] (.faddr 7 (.tmp 136)) <|
 .op (some 138) (.int .i64) [137] (.load none (.tmp 137)) <|
 .op (some 139) .any [138] (.bin .neq .none (.tmp 138) (.con (V.int .i64 (Int.ofNat 0)))) <|
 .nil))
 (.cond (.tmp 139) (.seq (.keep [(2, .ptr), (8, .ptr)] [] [] (.gdraw G6_0 H6_0 [(2, .ptr), (3, (.int .i64)), (4, (.int .i64))]))
 .ret)
 .skip))
 (.seq (.ops (.op (some 149) .any [8] (.mov (.tmp 8)) <|
 .op (some 150) .any [149] (.nilck (.tmp 149)) <|
 .op (some 151) .any [150] (.faddr 2 (.tmp 150)) <|
 .op (some 152) (.agg [.str, (.int .i64), .any, .any, .any]) [151] (.load (some 5) (.tmp 151)) <|
 .op none (.agg [.str, (.int .i64), .any, .any, .any]) [2, 152] (.store 5 (.tmp 2) (.tmp 152)) <|
 .op (some 3) .any [] (.mov (.con (V.int .i64 (Int.ofNat 0)))) <|
 .op (some 4) .any [] (.mov (.con (V.int .i64 (Int.ofNat 0)))) <|
 .nil))
 .ret))
def A6 : XFn := ⟨153, [.str], [(.cell 2 (some 5)), (.tmp 3), (.tmp 4)], (C6_0 (C6_1 (C6_2 C6_5) (C6_3 C6_4)))⟩
def C7_0 : XC := (.seq (.ops (.op (some 0) .any [] (.mov (.con (V.bool false))) <|
 .nil))
 (.seq (.ops (.op (some 5) (.tup [(.agg [.str, (.int .i64), .any, .any, .any]), (.int .i64), (.int .i64)]) [] (.call 6 [(.con (V.str ⟨38, 8696328401110393999863008430138354213846351527998628442106982968015151536563225768914853965⟩))]) <|
 .op (some 4) .any [5] (.mov (.tmp 5)) <|
 .op (some 6) .any [4] (.extract 0 (.tmp 4)) <|
 .op (some 7) .any [4] (.extract 1 (.tmp 4)) <|
 .op (some 8) .any [4] (.extract 2 (.tmp 4)) <|
 .pal 1 [] 28 [(V.str ⟨0, 0⟩), (V.int .i64 (Int.ofNat 0)), V.nils, V.nils, V.nils] <|
 .op none (.agg [.str, (.int .i64), .any, .any, .any]) [1, 6] (.store 5 (.tmp 1) (.tmp 6)) <|
 .op (some 2) .any [7] (.mov (.tmp 7)) <|
 .op (some 3) .any [8] (.mov (.tmp 8)) <|
 .nil))
 (.seq (.ops (.op (some 9) (.agg [.str, (.int .i64), .any, .any, .any]) [1] (.load (some 5) (.tmp 1)) <|
 .op (some 10) .str [9] (.call 8 [(.tmp 9)]) <|
 .op (some 11) .any [10] (.bin .eql .none (.tmp 10) (.con (V.str ⟨53, 1737457197874064976168543671879563561806554133799371613807770373899712756768576893345838405349305042644083264562168248507048013⟩))) <|
 .op (some 12) .any [11] (.mov (.tmp 11)) <|
 .grp 12 true (.op (some 13) (.agg [.str, (.int .i64), .any, .any, .any]) [1, 12] (.load (some 5) (.tmp 1)) <|
 .op (some 14) .bool [13, 12] (.call 10 [(.tmp 13)]) <|
 .nil) 15 [12, 14] (.tmp 12) (.tmp 14) (.con (V.bool false)) <|
 .op (some 0) .any [15] (.mov (.tmp 15)) <|
 .nil))
 .ret)))
def A7 : XFn := ⟨16, [], [(.tmp 0)], C7_0⟩
/-! ### F8: ogham_print.Print -/
def G8_0 : List AOper := [⟨(some 28), .mov (.tmp 3), none⟩, ⟨(some 29), .nilck (.tmp 28), none⟩, ⟨(some 30), .faddr 0 (.tmp 29), none⟩, ⟨(some 31), .faddr 0 (.tmp 1), none⟩, ⟨(some 32), .load none (.tmp 31), none⟩, ⟨(some 33), .mov (.tmp 4), none⟩, ⟨(some 34), .buildSlice 9 4 [(V.str ⟨0, 0⟩), (V.str ⟨0, 0⟩), (V.str ⟨0, 0⟩), (V.str ⟨0, 0⟩)] [(0, 1, (.tmp 32)), (1, 1, (.con (V.str ⟨13, 2561083126905198320505063818272⟩))), (2, 1, (.tmp 33)), (3, 1, (.con (V.str ⟨9, 1444126302987771263546⟩)))], none⟩, ⟨(some 35), .call 19 [(.tmp 30), (.tmp 34)], none⟩]
def H8_0 : List DP := [⟨0, [3]⟩, ⟨1, [28]⟩, ⟨3, [29]⟩, ⟨0, [1]⟩, ⟨8, [31]⟩, ⟨0, [4]⟩, ⟨56, [32, 33]⟩, ⟨127, [30, 34]⟩]
def Fin8 (E : List (Nat × Blk)) : St → Ans := fun s => resK E s [(.tmp 2)] fun l => some (oneV l, s.σ)
def C8_0 (cc1 : XC) (cc2 : XC) : XC := (.seq (.ops (.op (some 1) .any [0] (.box 28 (.tmp 0)) <|
 .op (some 2) .any [] (.mov (.con (V.str ⟨0, 0⟩))) <|
 .nil))
 (.seq (.ops (.op (some 7) (.agg [.str, (.int .i64), .any, .any, .any]) [1] (.load (some 5) (.tmp 1)) <|
 .op (some 8) (.agg [.any, .bool, .str, (.int .i64), .any, .any, .any]) [7] (.build [V.nils, (V.bool false), (V.str ⟨0, 0⟩), (V.int .i64 (Int.ofNat 0)), V.nils, V.nils, V.nils] [(2, 5, (.tmp 7))]) <|
 .op (some 9) .any [8] (.box 59 (.tmp 8)) <|
 .op (some 3) .any [9] (.mov (.tmp 9)) <|
 .nil))
 (.seq (.ops (.op (some 10) .any [1] (.faddr 1 (.tmp 1)) <|
 .op (some 11) (.int .i64) [10] (.load none (.tmp 10)) <|
 .op (some 12) .str [11] (.call 18 [(.tmp 11)]) <|
 .op (some 4) .any [12] (.mov (.tmp 12)) <|
 .nil))
 (.seq (.ops (.op (some 13) .any [3] (.mov (.tmp 3)) <|
 .op (some 14) .any [4] (.mov (.tmp 4)) <|
 .op (some 15) .any [14] (.bin .eql .none (.tmp 14) (.con (V.str ⟨0, 0⟩))) <|
 .op (some 16) .any [15] (.mov (.tmp 15)) <|
 .grp 16 false (.op (some 17) .any [1, 16] (.faddr 3 (.tmp 1)) <|
 .op (some 18) .any [17, 16] (.load none (.tmp 17)) <|
 .op (some 19) .any [18, 16] (.len false (.tmp 18)) <|
 .op (some 20) .any [1, 16] (.faddr 2 (.tmp 1)) <|
 .op (some 21) .any [20, 16] (.load none (.tmp 20)) <|
 .op (some 22) .any [21, 16] (.len false (.tmp 21)) <|
 .op (some 23) .any [19, 22, 16] (.bin .neq .none (.tmp 19) (.tmp 22)) <|
 .nil) 24 [16, 23] (.tmp 16) (.con (V.bool true)) (.tmp 23) <|
 .op (some 25) .any [13] (.nilck (.tmp 13)) <|
 .op (some 26) .any [25] (.faddr 0 (.tmp 25)) <|
 .op (some 27) .any [26] (.faddr 1 (.tmp 26)) <|
 .op none .any [27, 24] (.store 1 (.tmp 27) (.tmp 24)) <|
 .nil))
 (.seq (.keep [(1, .ptr), (3, .ptr), (4, .str)] [] [] (.gdraw G8_0 H8_0 [(1, .ptr), (3, .ptr)]))
 (.seq (.seq (.ops (.op (some 36) .any [1] (.faddr 2 (.tmp 1)) <|
 .op (some 37) .any [36] (.load none (.tmp 36)) <|
 .op (some 38) .any [37] (.len false (.tmp 37)) <|
 .op (some 39) .any [] (.mov (.con (V.int .i64 (Int.ofNat 0)))) <|
 .nil))
 (.block 0 (.loop [(1, .ptr), (3, .ptr), (37, .any), (38, (.int .i64)), (39, (.int .i64))] [] [] cc2)))
 (.keep [(3, .ptr)] [] [] cc1)))))))
def T8_0 (E : List (Nat × Blk)) (D : Den) (W : DrawFn) (K2 : Nat → Nat → Nat → Nat → V → Int → Int → H → Ans) (v0_0 : BS) (v0_1 : Int) (v0_2 : V) (v0_3 : V) (v0_4 : V) (σ : H) : Ans :=
 chk (allOne (V.cells (V.agg [(V.str v0_0), (V.int .i64 v0_1), v0_2, v0_3, v0_4]))) (
 let s1 := newB σ (.cells (V.cells (V.agg [(V.str v0_0), (V.int .i64 v0_1), v0_2, v0_3, v0_4])));
 ldnK E s1 (H.next σ) 0 5 fun l2 =>
 rtCons l2 fun x3 l4 =>
 rtStr x3 fun x5 =>
 rtCons l4 fun x6 l7 =>
 rtInt .i64 x6 fun x8 =>
 rtCons l7 fun x9 l10 =>
 rtCons l10 fun x11 l12 =>
 rtCons l12 fun x13 l14 =>
 rtNil l14 (
 chk (allOne (V.cells (V.agg [V.nils, (V.bool false), (V.str x5), (V.int .i64 x8), x9, x11, x13]))) (
 let s15 := newB s1 (.cells (V.cells (V.agg [V.nils, (V.bool false), (V.str x5), (V.int .i64 x8), x9, x11, x13])));
 ldK E s15 (H.next σ) 1 fun u16 =>
 rtInt .i64 u16 fun x17 =>
 callK (D 18 [(V.int .i64 x17)] s15) fun u18 s19 =>
 rtStr u18 fun x20 =>
 joinB (fun c21 s22 =>
 stK 1 (H.next s1) 1 (V.bool c21) s22 fun s24 =>
 gdrawK (W G8_0 H8_0 [(1, (V.ptr (H.next σ) 0)), (3, (V.ptr (H.next s1) 0)), (4, (V.str x20))] s24) fun e25 s26 =>
 getL e25 1 fun u27 =>
 rtPtr u27 fun b28 o29 =>
 getL e25 3 fun u30 =>
 rtPtr u30 fun b31 o32 =>
 ldK E s26 b28 (Nat.add o29 2) fun u33 =>
 slenK u33 fun n34 =>
 K2 b28 o29 b31 o32 u33 (Int.ofNat n34) (Int.ofNat 0) s26) fun k23 =>
 condK (BS.beq x20 (BS.mk 0 0)) (
 k23 true s19) (
 ldK E s19 (H.next σ) 3 fun u35 =>
 slenK u35 fun n36 =>
 ldK E s19 (H.next σ) 2 fun u37 =>
 slenK u37 fun n38 =>
 k23 (not (eqF (Int.ofNat n36) (Int.ofNat n38))) s19))))
def C8_1 : XC := (.seq (.ops (.op (some 63) .any [3] (.mov (.tmp 3)) <|
 .op (some 64) .any [63] (.nilck (.tmp 63)) <|
 .op (some 65) .any [64] (.faddr 0 (.tmp 64)) <|
 .op (some 66) .any [] (.buildSlice 9 1 [(V.str ⟨0, 0⟩)] [(0, 1, (.con (V.str ⟨5, 44095653130⟩)))]) <|
 .op (some 67) (.tup []) [65, 66] (.call 19 [(.tmp 65), (.tmp 66)]) <|
 .nil))
 (.seq (.seq (.ops (.op (some 68) .any [3] (.mov (.tmp 3)) <|
 .op (some 69) .any [68] (.nilck (.tmp 68)) <|
 .op (some 70) .any [69] (.faddr 0 (.tmp 69)) <|
 .op (some 71) .any [70] (.faddr 1 (.tmp 70)) <|
 .op (some 72) .bool [71] (.load none (.tmp 71)) <|
 .nil))
 (.cond (.tmp 72) (.seq (.ops (.op (some 2) .any [] (.mov (.con (V.str ⟨0, 0⟩))) <|
 .nil))
 .ret)
 .skip))
 (.seq (.ops (.op (some 73) .any [3] (.mov (.tmp 3)) <|
 .op (some 74) .any [73] (.nilck (.tmp 73)) <|
 .op (some 75) .any [74] (.faddr 0 (.tmp 74)) <|
 .op (some 76) .any [75] (.faddr 0 (.tmp 75)) <|
 .op (some 77) .any [76] (.load none (.tmp 76)) <|
 .op (some 78) .any [77] (.conv .toStr (.tmp 77)) <|
 .op (some 2) .any [78] (.mov (.tmp 78)) <|
 .nil))
 .ret)))
def T8_1 (E : List (Nat × Blk)) (D : Den) (W : DrawFn) (v3b : Nat) (v3o : Nat) (σ : H) : Ans :=
 let s1 := newB σ (.cells [(V.str (BS.mk 5 44095653130))]);
 callK (D 19 [(V.ptr v3b v3o), (V.sl (H.next σ) 0 1 (.ex 1))] s1) fun u2 s3 =>
 rtTup u2 fun l4 =>
 rtNil l4 (
 ldK E s3 v3b (Nat.add v3o 1) fun u5 =>
 rtBool u5 fun x6 =>
 condK x6 (
 some ((V.str (BS.mk 0 0)), s3)) (
 ldK E s3 v3b v3o fun u7 =>
 toStrK E s3 u7 fun t8 =>
 some ((V.str t8), s3)))
def C8_2 : XC := (.seq (.ops (.op (some 40) .any [39, 38] (.bin .lss .none (.tmp 39) (.tmp 38)) <|
 .nil))
 (.seq (.cond (.tmp 40) .skip
 (.exit 0))
 (.seq (.block 1 (.seq (.ops (.op (some 41) .any [39] (.mov (.tmp 39)) <|
 .op (some 42) .any [37, 39] (.iaddrS 1 (.tmp 37) (.tmp 39)) <|
 .op (some 43) .str [42] (.load none (.tmp 42)) <|
 .op (some 5) .any [41] (.mov (.tmp 41)) <|
 .op (some 6) .any [43] (.mov (.tmp 43)) <|
 .nil))
 (.seq (.seq (.ops (.op (some 44) .any [3] (.mov (.tmp 3)) <|
 .op (some 45) .any [44] (.nilck (.tmp 44)) <|
 .op (some 46) .any [45] (.faddr 0 (.tmp 45)) <|
 .op (some 47) .any [46] (.faddr 1 (.tmp 46)) <|
 .op (some 48) .bool [47] (.load none (.tmp 47)) <|
 .nil))
 (.cond (.tmp 48) (.exit 0)
 .skip))
 (.seq (.ops (.op (some 49) .any [3] (.mov (.tmp 3)) <|
 .op (some 50) .any [49] (.nilck (.tmp 49)) <|
 .op (some 51) .any [50] (.faddr 0 (.tmp 50)) <|
 .op (some 52) .any [6] (.mov (.tmp 6)) <|
 .op (some 53) .any [52] (.buildSlice 9 3 [(V.str ⟨0, 0⟩), (V.str ⟨0, 0⟩), (V.str ⟨0, 0⟩)] [(0, 1, (.con (V.str ⟨1, 10⟩))), (1, 1, (.tmp 52)), (2, 1, (.con (V.str ⟨5, 138466179616⟩)))]) <|
 .op (some 54) (.tup []) [51, 53] (.call 19 [(.tmp 51), (.tmp 53)]) <|
 .nil))
 (.ops (.op (some 55) .any [3] (.mov (.tmp 3)) <|
 .op (some 56) .any [1] (.faddr 3 (.tmp 1)) <|
 .op (some 57) .any [56] (.load none (.tmp 56)) <|
 .op (some 58) .any [5] (.mov (.tmp 5)) <|
 .op (some 59) .any [57, 58] (.iaddrS 1 (.tmp 57) (.tmp 58)) <|
 .op (some 60) (.int .i64) [59] (.load none (.tmp 59)) <|
 .op (some 61) (.tup []) [55, 60] (.call 20 [(.tmp 55), (.tmp 60), (.con (V.int .i64 (Int.ofNat 0)))]) <|
 .nil))))))
 (.ops (.op (some 62) .any [39] (.bin .add .none (.tmp 39) (.con (V.int .i64 (Int.ofNat 1)))) <|
 .op (some 39) .any [62] (.mov (.tmp 62)) <|
 .nil)))))
def T8_2 (E : List (Nat × Blk)) (D : Den) (W : DrawFn) (K1 : Nat → Nat → H → Ans) (R2 : Nat → Nat → Nat → Nat → V → Int → Int → H → Ans) (v1b : Nat) (v1o : Nat) (v3b : Nat) (v3o : Nat) (v37 : V) (v38 : Int) (v39 : Int) (σ : H) : Ans :=
 condK (ltF v39 v38) (
 iaddrSK 1 v37 v39 fun b1 o2 =>
 ldK E σ b1 o2 fun u3 =>
 rtStr u3 fun x4 =>
 ldK E σ v3b (Nat.add v3o 1) fun u5 =>
 rtBool u5 fun x6 =>
 condK x6 (
 K1 v3b v3o σ) (
 let s7 := newB σ (.cells [(V.str (BS.mk 1 10)), (V.str x4), (V.str (BS.mk 5 138466179616))]);
 callK (D 19 [(V.ptr v3b v3o), (V.sl (H.next σ) 0 3 (.ex 3))] s7) fun u8 s9 =>
 rtTup u8 fun l10 =>
 rtNil l10 (
 ldK E s9 v1b (Nat.add v1o 3) fun u11 =>
 iaddrSK 1 u11 v39 fun b12 o13 =>
 ldK E s9 b12 o13 fun u14 =>
 rtInt .i64 u14 fun x15 =>
 callK (D 20 [(V.ptr v3b v3o), (V.int .i64 x15), (V.int .i64 (Int.ofNat 0))] s9) fun u16 s17 =>
 rtTup u16 fun l18 =>
 rtNil l18 (
 R2 v1b v1o v3b v3o v37 v38 (addF .i64 v39 (Int.ofNat 1)) s17)))) (
 K1 v3b v3o σ)
theorem P8_0 (E : List (Nat × Blk)) (D : Den) (W : DrawFn) (N : Nat) (cc1 : XC) (cc2 : XC) (v0_0 : BS) (v0_1 : Int) (v0_2 : V) (v0_3 : V) (v0_4 : V) (σ : H) :
  denC E D W N (C8_0 cc1 cc2) ⟨[(0, (V.agg [(V.str v0_0), (V.int .i64 v0_1), v0_2, v0_3, v0_4]))], [], [], σ⟩ (Fin8 E) (fun _ _ => none) (Fin8 E) =
  T8_0 E D W (fun v1b v1o v3b v3o v37 v38 v39 σ => iterK (fun rec s' => denC E D W N cc2 s' (fun s'' => keepS [(1, .ptr), (3, .ptr), (37, .any), (38, (.int .i64)), (39, (.int .i64))] [] [] s'' rec) (blkK 0 (fun s' => denC E D W N (.keep [(3, .ptr)] [] [] cc1) s' (Fin8 E) (fun _ _ => none) (Fin8 E)) (fun _ _ => none)) (Fin8 E)) N ⟨[(1, (V.ptr v1b v1o)), (3, (V.ptr v3b v3o)), (37, v37), (38, (V.int .i64 v38)), (39, (V.int .i64 v39))], [], [], σ⟩) v0_0 v0_1 v0_2 v0_3 v0_4 σ := by kernel_rfl
theorem P8_1 (E : List (Nat × Blk)) (D : Den) (W : DrawFn) (N : Nat) (v3b : Nat) (v3o : Nat) (σ : H) :
  denC E D W N (C8_1 ) ⟨[(3, (V.ptr v3b v3o))], [], [], σ⟩ (Fin8 E) (fun _ _ => none) (Fin8 E) =
  T8_1 E D W  v3b v3o σ := by kernel_rfl
theorem P8_2 (E : List (Nat × Blk)) (D : Den) (W : DrawFn) (N : Nat) (cc1 : XC) (li2 : St → Ans) (v1b : Nat) (v1o : Nat) (v3b : Nat) (v3o : Nat) (v37 : V) (v38 : Int) (v39 : Int) (σ : H) :
  denC E D W N (C8_2 ) ⟨[(1, (V.ptr v1b v1o)), (3, (V.ptr v3b v3o)), (37, v37), (38, (V.int .i64 v38)), (39, (V.int .i64 v39))], [], [], σ⟩ (fun s'' => keepS [(1, .ptr), (3, .ptr), (37, .any), (38, (.int .i64)), (39, (.int .i64))] [] [] s'' li2) (blkK 0 (fun s' => denC E D W N (.keep [(3, .ptr)] [] [] cc1) s' (Fin8 E) (fun _ _ => none) (Fin8 E)) (fun _ _ => none)) (Fin8 E) =
  T8_2 E D W (fun v3b v3o σ => denC E D W N cc1 ⟨[(3, (V.ptr v3b v3o))], [], [], σ⟩ (Fin8 E) (fun _ _ => none) (Fin8 E)) (fun v1b v1o v3b v3o v37 v38 v39 σ => li2 ⟨[(1, (V.ptr v1b v1o)), (3, (V.ptr v3b v3o)), (37, v37), (38, (V.int .i64 v38)), (39, (V.int .i64 v39))], [], [], σ⟩) v1b v1o v3b v3o v37 v38 v39 σ := by kernel_rfl
def J8_1 (E : List (Nat × Blk)) (D : Den) (W : DrawFn) (N : Nat) : Nat → Nat → H → Ans := T8_1 E D W 
theorem JE8_1 (E : List (Nat × Blk)) (D : Den) (W : DrawFn) (N : Nat) (v3b : Nat) (v3o : Nat) (σ : H) :
  denC E D W N C8_1 ⟨[(3, (V.ptr v3b v3o))], [], [], σ⟩ (Fin8 E) (fun _ _ => none) (Fin8 E) = J8_1 E D W N v3b v3o σ := by
  refine (P8_1 E D W N   v3b v3o σ).trans ?_
  kernel_rfl
def L8_2 (E : List (Nat × Blk)) (D : Den) (W : DrawFn) (N : Nat) (n : Nat) : Nat → Nat → Nat → Nat → V → Int → Int → H → Ans :=
  Nat.rec (fun _ _ _ _ _ _ _ _ => none) (fun _ ih => T8_2 E D W (J8_1 E D W N ) ih) n
theorem LE8_2 (E : List (Nat × Blk)) (D : Den) (W : DrawFn) (N : Nat) (n : Nat) : ∀ (v1b : Nat) (v1o : Nat) (v3b : Nat) (v3o : Nat) (v37 : V) (v38 : Int) (v39 : Int) (σ : H),
  iterK (fun rec s' => denC E D W N C8_2 s' (fun s'' => keepS [(1, .ptr), (3, .ptr), (37, .any), (38, (.int .i64)), (39, (.int .i64))] [] [] s'' rec) (blkK 0 (fun s' => denC E D W N (.keep [(3, .ptr)] [] [] C8_1) s' (Fin8 E) (fun _ _ => none) (Fin8 E)) (fun _ _ => none)) (Fin8 E)) n ⟨[(1, (V.ptr v1b v1o)), (3, (V.ptr v3b v3o)), (37, v37), (38, (V.int .i64 v38)), (39, (V.int .i64 v39))], [], [], σ⟩ = L8_2 E D W N n v1b v1o v3b v3o v37 v38 v39 σ := by
  induction n with
  | zero => intro v1b v1o v3b v3o v37 v38 v39 σ; rfl
  | succ n ihn =>
    intro v1b v1o v3b v3o v37 v38 v39 σ
    rw [iterK_succ]
    refine (P8_2 E D W N C8_1 (iterK (fun rec s' => denC E D W N C8_2 s' (fun s'' => keepS [(1, .ptr), (3, .ptr), (37, .any), (38, (.int .i64)), (39, (.int .i64))] [] [] s'' rec) (blkK 0 (fun s' => denC E D W N (.keep [(3, .ptr)] [] [] C8_1) s' (Fin8 E) (fun _ _ => none) (Fin8 E)) (fun _ _ => none)) (Fin8 E)) n) v1b v1o v3b v3o v37 v38 v39 σ).trans ?_
    simp only [ihn, JE8_1]
    kernel_rfl
def J8_0 (E : List (Nat × Blk)) (D : Den) (W : DrawFn) (N : Nat) : BS → Int → V → V → V → H → Ans := T8_0 E D W (L8_2 E D W N N)
theorem JE8_0 (E : List (Nat × Blk)) (D : Den) (W : DrawFn) (N : Nat) (v0_0 : BS) (v0_1 : Int) (v0_2 : V) (v0_3 : V) (v0_4 : V) (σ : H) :
  denC E D W N (C8_0 C8_1 C8_2) ⟨[(0, (V.agg [(V.str v0_0), (V.int .i64 v0_1), v0_2, v0_3, v0_4]))], [], [], σ⟩ (Fin8 E) (fun _ _ => none) (Fin8 E) = J8_0 E D W N v0_0 v0_1 v0_2 v0_3 v0_4 σ := by
  refine (P8_0 E D W N C8_1 C8_2  v0_0 v0_1 v0_2 v0_3 v0_4 σ).trans ?_
  simp only [LE8_2]
  kernel_rfl
def F8 (E : List (Nat × Blk)) (D : Den) (W : DrawFn) (N : Nat) (args : List V) (σ : H) : Ans :=
 rtCons args fun x1 l2 =>
 rtAgg x1 fun l3 =>
 rtCons l3 fun x4 l5 =>
 rtStr x4 fun x6 =>
 rtCons l5 fun x7 l8 =>
 rtInt .i64 x7 fun x9 =>
 rtCons l8 fun x10 l11 =>
 rtCons l11 fun x12 l13 =>
 rtCons l13 fun x14 l15 =>
 rtNil l15 (
 rtNil l2 (
 J8_0 E D W N x6 x9 x10 x12 x14 σ))
def A8 : XFn := ⟨79, [(.agg [.str, (.int .i64), .any, .any, .any])], [(.tmp 2)], (C8_0 C8_1 C8_2)⟩
theorem FE8 (E : List (Nat × Blk)) (D : Den) (W : DrawFn) (N : Nat) (args : List V) (σ : H) : runX E D W N A8 args σ = F8 E D W N args σ := by
  unfold F8
  simp only [← JE8_0]
  kernel_rfl
theorem AO8 : A8.body.ok = true := by kernel_rfl

/-! ### F9: ogham_oghamhelp.Digits -/
def G9_0 : List AOper := [⟨(some 10), .mov (.tmp 0), none⟩, ⟨(some 11), .bin .quo .none (.tmp 10) (.con (V.int .u64 (Int.ofNat 10))), none⟩, ⟨(some 12), .call 9 [(.tmp 11)], none⟩, ⟨(some 13), .mov (.tmp 0), none⟩, ⟨(some 14), .bin .rem .none (.tmp 13) (.con (V.int .u64 (Int.ofNat 10))), none⟩, ⟨(some 15), .bin .add .none (.con (V.int .u64 (Int.ofNat 48))) (.tmp 14), none⟩, ⟨(some 16), .conv (.toInt .u8) (.tmp 15), none⟩, ⟨(some 17), .buildSlice 5 1 [(V.int .u8 (Int.ofNat 0))] [(0, 1, (.tmp 16))], none⟩, ⟨(some 18), .conv .toStr (.tmp 17), none⟩, ⟨(some 19), .bin .add .none (.tmp 12) (.tmp 18), none⟩, ⟨(some 2), .mov (.tmp 19), none⟩]
def H9_0 : List DP := [⟨0, [0]⟩, ⟨1, [10]⟩, ⟨3, [11]⟩, ⟨0, [0]⟩, ⟨8, [13]⟩, ⟨24, [14]⟩, ⟨56, [15]⟩, ⟨120, [16]⟩, ⟨248, [17]⟩, ⟨511, [12, 18]⟩, ⟨1023, [19]⟩]
def Fin9 (E : List (Nat × Blk)) : St → Ans := fun s => resK E s [(.tmp 2)] fun l => some (oneV l, s.σ)
def C9_0 : XC := (.seq (.ops (.op (some 2) .any [] (.mov (.con (V.str ⟨0, 0⟩))) <|
 .nil))
 (.seq (.seq (.ops (.op (some 3) .any [0] (.mov (.tmp 0)) <|
 .op (some 4) .any [3] (.bin .lss .none (.tmp 3) (.con (V.int .u64 (Int.ofNat 10)))) <|
 .nil))
 (.cond (.tmp 4) (.seq (.ops (.op (some 5) .any [0] (.mov (.tmp 0)) <|
 .op (some 6) .any [5] (.bin .add .none (.con (V.int .u64 (Int.ofNat 48))) (.tmp 5)) <|
 .op (some 7) .any [6] (.conv (.toInt .u8) (.tmp 6)) <|
 .op (some 8) .any [7] (.buildSlice 5 1 [(V.int .u8 (Int.ofNat 0))] [(0, 1, (.tmp 7))]) <|
 .op (some 9) .any [8] (.conv .toStr (.tmp 8)) <|
 .op (some 2) .any [9] (.mov (.tmp 9)) <|
 .nil))
 .ret)
 .skip))
 (.seq (.keep [(0, (.int .u64))] [] [] (.gdraw G9_0 H9_0 [(2, .str)]))
 .ret)))
def T9_0 (E : List (Nat × Blk)) (D : Den) (W : DrawFn) (v0 : Int) (σ : H) : Ans :=
 condK (ltF v0 (Int.ofNat 10)) (
 let s1 := newB σ (.cells [(V.int .u8 (wrapF .u8 (addF .u64 (Int.ofNat 48) v0)))]);
 toStrK E s1 (V.sl (H.next σ) 0 1 (.ex 1)) fun t2 =>
 some ((V.str t2), s1)) (
 gdrawK (W G9_0 H9_0 [(0, (V.int .u64 v0))] σ) fun e3 s4 =>
 getL e3 2 fun u5 =>
 rtStr u5 fun x6 =>
 some ((V.str x6), s4))
theorem P9_0 (E : List (Nat × Blk)) (D : Den) (W : DrawFn) (N : Nat) (v0 : Int) (σ : H) :
  denC E D W N (C9_0 ) ⟨[(0, (V.int .u64 v0))], [], [], σ⟩ (Fin9 E) (fun _ _ => none) (Fin9 E) =
  T9_0 E D W  v0 σ := by kernel_rfl
def J9_0 (E : List (Nat × Blk)) (D : Den) (W : DrawFn) (N : Nat) : Int → H → Ans := T9_0 E D W 
theorem JE9_0 (E : List (Nat × Blk)) (D : Den) (W : DrawFn) (N : Nat) (v0 : Int) (σ : H) :
  denC E D W N C9_0 ⟨[(0, (V.int .u64 v0))], [], [], σ⟩ (Fin9 E) (fun _ _ => none) (Fin9 E) = J9_0 E D W N v0 σ := by
  refine (P9_0 E D W N   v0 σ).trans ?_
  kernel_rfl
def F9 (E : List (Nat × Blk)) (D : Den) (W : DrawFn) (N : Nat) (args : List V) (σ : H) : Ans :=
 rtCons args fun x1 l2 =>
 rtInt .u64 x1 fun x3 =>
 rtNil l2 (
 J9_0 E D W N x3 σ)
def A9 : XFn := ⟨20, [(.int .u64)], [(.tmp 2)], C9_0⟩
theorem FE9 (E : List (Nat × Blk)) (D : Den) (W : DrawFn) (N : Nat) (args : List V) (σ : H) : runX E D W N A9 args σ = F9 E D W N args σ := by
  unfold F9
  simp only [← JE9_0]
  kernel_rfl
theorem AO9 : A9.body.ok = true := by kernel_rfl

/-! ### F10: ogham_print.Right -/
def Fin10 (E : List (Nat × Blk)) : St → Ans := fun s => resK E s [(.tmp 2)] fun l => some (oneV l, s.σ)
def C10_0 : XC := (.seq (.ops (.op (some 1) .any [0] (.box 28 (.tmp 0)) <|
 .op (some 2) .any [] (.mov (.con (V.bool false))) <|
 .nil))
 (.seq (.ops (.op (some 7) (.agg [.str, (.int .i64), .any, .any, .any]) [1] (.load (some 5) (.tmp 1)) <|
 .op (some 8) .str [7] (.call 8 [(.tmp 7)]) <|
 .op (some 3) .any [8] (.mov (.tmp 8)) <|
 .nil))
 (.seq (.ops (.op (some 10) .any [3] (.mov (.tmp 3)) <|
 .op (some 11) (.tup [(.agg [.str, (.int .i64), .any, .any, .any]), (.int .i64), (.int .i64)]) [10] (.call 21 [(.tmp 10)]) <|
 .op (some 9) .any [11] (.mov (.tmp 11)) <|
 .op (some 12) .any [9] (.extract 0 (.tmp 9)) <|
 .op (some 13) .any [9] (.extract 1 (.tmp 9)) <|
 .op (some 14) .any [9] (.extract 2 (.tmp 9)) <|
 .pal 4 [] 28 [(V.str ⟨0, 0⟩), (V.int .i64 (Int.ofNat 0)), V.nils, V.nils, V.nils] <|
 .op none (.agg [.str, (.int .i64), .any, .any, .any]) [4, 12] (.store 5 (.tmp 4) (.tmp 12)) <|
 .op (some 5) .any [13] (.mov (.tmp 13)) <|
 .op (some 6) .any [14] (.mov (.tmp 14)) <|
 .nil))
 (.seq (.ops (.op (some 15) .any [3] (.mov (.tmp 3)) <|
 .op (some 16) .any [15] (.bin .neq .none (.tmp 15) (.con (V.str ⟨0, 0⟩))) <|
 .op (some 17) .any [16] (.mov (.tmp 16)) <|
 .grp 17 true (.op (some 18) .any [6, 17] (.mov (.tmp 6)) <|
 .op (some 19) .any [18, 17] (.bin .eql .none (.tmp 18) (.con (V.int .i64 (Int.ofNat 0)))) <|
 .nil) 20 [17, 19] (.tmp 17) (.tmp 19) (.con (V.bool false)) <|
 .op (some 21) .any [20] (.mov (.tmp 20)) <|
 .grp 21 true (.op (some 22) .any [4, 21] (.faddr 0 (.tmp 4)) <|
 .op (some 23) .str [22, 21] (.load none (.tmp 22)) <|
 .op (some 24) .any [1, 21] (.faddr 0 (.tmp 1)) <|
 .op (some 25) .str [24, 21] (.load none (.tmp 24)) <|
 .op (some 26) .any [23, 25, 21] (.bin .eql .none (.tmp 23) (.tmp 25)) <|
 .nil) 27 [21, 26] (.tmp 21) (.tmp 26) (.con (V.bool false)) <|
 .op (some 28) .any [27] (.mov (.tmp 27)) <|
 .grp 28 true (.op (some 29) .any [4, 28] (.faddr 1 (.tmp 4)) <|
 .op (some 30) (.int .i64) [29, 28] (.load none (.tmp 29)) <|
 .op (some 31) .any [1, 28] (.faddr 1 (.tmp 1)) <|
 .op (some 32) (.int .i64) [31, 28] (.load none (.tmp 31)) <|
 .op (some 33) .any [30, 32, 28] (.bin .eql .none (.tmp 30) (.tmp 32)) <|
 .nil) 34 [28, 33] (.tmp 28) (.tmp 33) (.con (V.bool false)) <|
 .op (some 35) .any [34] (.mov (.tmp 34)) <|
 .grp 35 true (.op (some 36) .any [4, 35] (.faddr 2 (.tmp 4)) <|
 .op (some 37) .any [36, 35] (.load none (.tmp 36)) <|
 .op (some 38) .any [1, 35] (.faddr 2 (.tmp 1)) <|
 .op (some 39) .any [38, 35] (.load none (.tmp 38)) <|
 .op (some 40) .bool [37, 39, 35] (.call 22 [(.tmp 37), (.tmp 39)]) <|
 .nil) 41 [35, 40] (.tmp 35) (.tmp 40) (.con (V.bool false)) <|
 .op (some 42) .any [41] (.mov (.tmp 41)) <|
 .grp 42 true (.op (some 43) .any [4, 42] (.faddr 3 (.tmp 4)) <|
 .op (some 44) .any [43, 42] (.load none (.tmp 43)) <|
 .op (some 45) .any [1, 42] (.faddr 3 (.tmp 1)) <|
 .op (some 46) .any [45, 42] (.load none (.tmp 45)) <|
 .op (some 47) .bool [44, 46, 42] (.call 23 [(.tmp 44), (.tmp 46)]) <|
 .nil) 48 [42, 47] (.tmp 42) (.tmp 47) (.con (V.bool false)) <|
 .op (some 49) .any [48] (.mov (.tmp 48)) <|
 .grp 49 true (.op (some 50) .any [4, 49] (.faddr 4 (.tmp 4)) <|
 .op (some 51) .any [50, 49] (.load none (.tmp 50)) <|
 .op (some 52) .any [1, 49] (.faddr 4 (.tmp 1)) <|
 .op (some 53) .any [52, 49] (.load none (.tmp 52)) <|
 .op (some 54) .bool [51, 53, 49] (.call 24 [(.tmp 51), (.tmp 53), (.con (V.fn 25 [] []))]) <|
 .nil) 55 [49, 54] (.tmp 49) (.tmp 54) (.con (V.bool false)) <|
 .op (some 2) .any [55] (.mov (.tmp 55)) <|
 .nil))
 .ret))))
def T10_0 (E : List (Nat × Blk)) (D : Den) (W : DrawFn) (v0_0 : BS) (v0_1 : Int) (v0_2 : V) (v0_3 : V) (v0_4 : V) (σ : H) : Ans :=
 chk (allOne (V.cells (V.agg [(V.str v0_0), (V.int .i64 v0_1), v0_2, v0_3, v0_4]))) (
 let s1 := newB σ (.cells (V.cells (V.agg [(V.str v0_0), (V.int .i64 v0_1), v0_2, v0_3, v0_4])));
 ldnK E s1 (H.next σ) 0 5 fun l2 =>
 rtCons l2 fun x3 l4 =>
 rtStr x3 fun x5 =>
 rtCons l4 fun x6 l7 =>
 rtInt .i64 x6 fun x8 =>
 rtCons l7 fun x9 l10 =>
 rtCons l10 fun x11 l12 =>
 rtCons l12 fun x13 l14 =>
 rtNil l14 (
 callK (D 8 [(V.agg [(V.str x5), (V.int .i64 x8), x9, x11, x13])] s1) fun u15 s16 =>
 rtStr u15 fun x17 =>
 callK (D 21 [(V.str x17)] s16) fun u18 s19 =>
 rtTup u18 fun l20 =>
 rtCons l20 fun x21 l22 =>
 rtAgg x21 fun l23 =>
 rtCons l23 fun x24 l25 =>
 rtStr x24 fun x26 =>
 rtCons l25 fun x27 l28 =>
 rtInt .i64 x27 fun x29 =>
 rtCons l28 fun x30 l31 =>
 rtCons l31 fun x32 l33 =>
 rtCons l33 fun x34 l35 =>
 rtNil l35 (
 rtCons l22 fun x36 l37 =>
 rtInt .i64 x36 fun x38 =>
 rtCons l37 fun x39 l40 =>
 rtInt .i64 x39 fun x41 =>
 rtNil l40 (
 chk (allOne [(V.str x26), (V.int .i64 x29), x30, x32, x34]) (
 joinB (fun c42 s43 =>
 joinB (fun c45 s46 =>
 joinB (fun c48 s49 =>
 joinB (fun c51 s52 =>
 joinB (fun c54 s55 =>
 joinB (fun c57 s58 =>
 some ((V.bool c57), s58)) fun k59 =>
 condK c54 (
 ldK E s55 (H.next σ) 4 fun u60 =>
 callK (D 24 [x34, u60, (V.fn 25 [] [])] s55) fun u61 s62 =>
 rtBool u61 fun x63 =>
 k59 x63 s62) (
 k59 false s55)) fun k56 =>
 condK c51 (
 ldK E s52 (H.next σ) 3 fun u64 =>
 callK (D 23 [x32, u64] s52) fun u65 s66 =>
 rtBool u65 fun x67 =>
 k56 x67 s66) (
 k56 false s52)) fun k53 =>
 condK c48 (
 ldK E s49 (H.next σ) 2 fun u68 =>
 callK (D 22 [x30, u68] s49) fun u69 s70 =>
 rtBool u69 fun x71 =>
 k53 x71 s70) (
 k53 false s49)) fun k50 =>
 condK c45 (
 ldK E s46 (H.next σ) 1 fun u72 =>
 rtInt .i64 u72 fun x73 =>
 k50 (eqF x29 x73) s46) (
 k50 false s46)) fun k47 =>
 condK c42 (
 ldK E s43 (H.next σ) 0 fun u74 =>
 rtStr u74 fun x75 =>
 k47 (BS.beq x26 x75) s43) (
 k47 false s43)) fun k44 =>
 condK (not (BS.beq x17 (BS.mk 0 0))) (
 k44 (eqF x41 (Int.ofNat 0)) s19) (
 k44 false s19))))))
theorem P10_0 (E : List (Nat × Blk)) (D : Den) (W : DrawFn) (N : Nat) (v0_0 : BS) (v0_1 : Int) (v0_2 : V) (v0_3 : V) (v0_4 : V) (σ : H) :
  denC E D W N (C10_0 ) ⟨[(0, (V.agg [(V.str v0_0), (V.int .i64 v0_1), v0_2, v0_3, v0_4]))], [], [], σ⟩ (Fin10 E) (fun _ _ => none) (Fin10 E) =
  T10_0 E D W  v0_0 v0_1 v0_2 v0_3 v0_4 σ := by kernel_rfl
def J10_0 (E : List (Nat × Blk)) (D : Den) (W : DrawFn) (N : Nat) : BS → Int → V → V → V → H → Ans := T10_0 E D W 
theorem JE10_0 (E : List (Nat × Blk)) (D : Den) (W : DrawFn) (N : Nat) (v0_0 : BS) (v0_1 : Int) (v0_2 : V) (v0_3 : V) (v0_4 : V) (σ : H) :
  denC E D W N C10_0 ⟨[(0, (V.agg [(V.str v0_0), (V.int .i64 v0_1), v0_2, v0_3, v0_4]))], [], [], σ⟩ (Fin10 E) (fun _ _ => none) (Fin10 E) = J10_0 E D W N v0_0 v0_1 v0_2 v0_3 v0_4 σ := by
  refine (P10_0 E D W N   v0_0 v0_1 v0_2 v0_3 v0_4 σ).trans ?_
  kernel_rfl
def F10 (E : List (Nat × Blk)) (D : Den) (W : DrawFn) (N : Nat) (args : List V) (σ : H) : Ans :=
 rtCons args fun x1 l2 =>
 rtAgg x1 fun l3 =>
 rtCons l3 fun x4 l5 =>
 rtStr x4 fun x6 =>
 rtCons l5 fun x7 l8 =>
 rtInt .i64 x7 fun x9 =>
 rtCons l8 fun x10 l11 =>
 rtCons l11 fun x12 l13 =>
 rtCons l13 fun x14 l15 =>
 rtNil l15 (
 rtNil l2 (
 J10_0 E D W N x6 x9 x10 x12 x14 σ))
def A10 : XFn := ⟨56, [(.agg [.str, (.int .i64), .any, .any, .any])], [(.tmp 2)], C10_0⟩
theorem FE10 (E : List (Nat × Blk)) (D : Den) (W : DrawFn) (N : Nat) (args : List V) (σ : H) : runX E D W N A10 args σ = F10 E D W N args σ := by
  unfold F10
  simp only [← JE10_0]
  kernel_rfl
theorem AO10 : A10.body.ok = true := by kernel_rfl

/-! ### F11: ogham_oghamref04.Tokens -/
def Fin11 (E : List (Nat × Blk)) : St → Ans := fun s => resK E s [(.tmp 2), (.tmp 3), (.tmp 4)] fun l => some (oneV l, s.σ)
def C11_0 (cc1 : XC) : XC := (.seq (.ops (.op (some 2) .any [] (.mov (.con V.nils)) <|
 .op (some 3) .any [] (.mov (.con (V.int .i64 (Int.ofNat 0)))) <|
 .op (some 4) .any [] (.mov (.con (V.int .i64 (Int.ofNat 0)))) <|
 .nil))
 (.seq (.seq (.ops (.op (some 9) .any [0] (.mov (.tmp 0)) <|
 .op (some 10) .any [9] (.len true (.tmp 9)) <|
 .op (some 11) .any [10] (.bin .gtr .none (.tmp 10) (.con (V.int .i64 (Int.ofNat 8000)))) <|
 .nil))
 (.cond (.tmp 11) (.seq (.ops (.op (some 2) .any [] (.mov (.con V.nils)) <|
 .op (some 3) .any [] (.mov (.con (V.int .i64 (Int.ofNat 0)))) <|
 .op (some 4) .any [] (.mov (.con (V.int .i64 (Int.ofNat 5)))) <|
 .nil))
 .ret)
 .skip))
 (.seq (.ops (.op (some 5) .any [] (.mov (.con V.nils)) <|
 .nil))
 (.seq (.ops (.op (some 6) .any [] (.mov (.con (V.int .i64 (Int.ofNat 0)))) <|
 .nil))
 (.block 0 (.loop [(0, .str), (5, .any), (6, (.int .i64))] [] [] cc1))))))
def T11_0 (E : List (Nat × Blk)) (D : Den) (W : DrawFn) (K1 : BS → V → Int → H → Ans) (v0 : BS) (σ : H) : Ans :=
 condK (ltF (Int.ofNat 8000) (Int.ofNat (BS.len v0))) (
 some ((V.tup [V.nils, (V.int .i64 (Int.ofNat 0)), (V.int .i64 (Int.ofNat 5))]), σ)) (
 K1 v0 V.nils (Int.ofNat 0) σ)
def C11_1 : XC := (.block 1 (.seq (.ops (.op (some 12) .any [0] (.mov (.tmp 0)) <|
 .op (some 13) .any [6] (.mov (.tmp 6)) <|
 .op (some 14) (.int .i64) [12, 13] (.call 26 [(.tmp 12), (.tmp 13)]) <|
 .op (some 6) .any [14] (.mov (.tmp 14)) <|
 .nil))
 (.seq (.seq (.ops (.op (some 15) .any [6] (.mov (.tmp 6)) <|
 .op (some 16) .any [0] (.mov (.tmp 0)) <|
 .op (some 17) .any [16] (.len true (.tmp 16)) <|
 .op (some 18) .any [15, 17] (.bin .geq .none (.tmp 15) (.tmp 17)) <|
 .nil))
 (.cond (.tmp 18) (.seq (.ops (.op (some 19) .any [5] (.mov (.tmp 5)) <|
 .op (some 20) .any [0] (.mov (.tmp 0)) <|
 .op (some 21) .any [20] (.len true (.tmp 20)) <|
 .op (some 22) (.agg [(.int .i64), .str, (.int .i64)]) [21] (.build [(V.int .i64 (Int.ofNat 0)), (V.str ⟨0, 0⟩), (V.int .i64 (Int.ofNat 0))] [(2, 1, (.tmp 21))]) <|
 .op (some 23) .any [22] (.buildSlice 50 1 [(V.int .i64 (Int.ofNat 0)), (V.str ⟨0, 0⟩), (V.int .i64 (Int.ofNat 0))] [(0, 3, (.tmp 22))]) <|
 .op (some 24) .one [19, 23] (.append 50 3 32 (.tmp 19) (.tmp 23)) <|
 .op (some 2) .any [24] (.mov (.tmp 24)) <|
 .op (some 3) .any [] (.mov (.con (V.int .i64 (Int.ofNat 0)))) <|
 .op (some 4) .any [] (.mov (.con (V.int .i64 (Int.ofNat 0)))) <|
 .nil))
 .ret)
 .skip))
 (.seq (.ops (.op (some 26) .any [0] (.mov (.tmp 0)) <|
 .op (some 27) .any [6] (.mov (.tmp 6)) <|
 .op (some 28) (.tup [(.agg [(.int .i64), .str, (.int .i64)]), (.int .i64)]) [26, 27] (.call 27 [(.tmp 26), (.tmp 27)]) <|
 .op (some 25) .any [28] (.mov (.tmp 28)) <|
 .op (some 29) .any [25] (.extract 0 (.tmp 25)) <|
 .op (some 30) .any [25] (.extract 1 (.tmp 25)) <|
 .pal 7 [] 50 [(V.int .i64 (Int.ofNat 0)), (V.str ⟨0, 0⟩), (V.int .i64 (Int.ofNat 0))] <|
 .op none (.agg [(.int .i64), .str, (.int .i64)]) [7, 29] (.store 3 (.tmp 7) (.tmp 29)) <|
 .op (some 8) .any [30] (.mov (.tmp 30)) <|
 .nil))
 (.seq (.seq (.ops (.op (some 31) .any [8] (.mov (.tmp 8)) <|
 .op (some 32) .any [31] (.bin .lss .none (.tmp 31) (.con (V.int .i64 (Int.ofNat 0)))) <|
 .nil))
 (.cond (.tmp 32) (.seq (.ops (.op (some 33) .any [6] (.mov (.tmp 6)) <|
 .op (some 2) .any [] (.mov (.con V.nils)) <|
 .op (some 3) .any [33] (.mov (.tmp 33)) <|
 .op (some 4) .any [] (.mov (.con (V.int .i64 (Int.ofNat 6)))) <|
 .nil))
 .ret)
 .skip))
 (.seq (.ops (.op (some 34) .any [5] (.mov (.tmp 5)) <|
 .op (some 35) (.agg [(.int .i64), .str, (.int .i64)]) [7] (.load (some 3) (.tmp 7)) <|
 .op (some 36) .any [35] (.buildSlice 50 1 [(V.int .i64 (Int.ofNat 0)), (V.str ⟨0, 0⟩), (V.int .i64 (Int.ofNat 0))] [(0, 3, (.tmp 35))]) <|
 .op (some 37) .one [34, 36] (.append 50 3 32 (.tmp 34) (.tmp 36)) <|
 .op (some 5) .any [37] (.mov (.tmp 37)) <|
 .nil))
 (.ops (.op (some 38) .any [8] (.mov (.tmp 8)) <|
 .op (some 6) .any [38] (.mov (.tmp 38)) <|
 .nil))))))))
def T11_1 (E : List (Nat × Blk)) (D : Den) (W : DrawFn) (R1 : BS → V → Int → H → Ans) (v0 : BS) (v5 : V) (v6 : Int) (σ : H) : Ans :=
 callK (D 26 [(V.str v0), (V.int .i64 v6)] σ) fun u1 s2 =>
 rtInt .i64 u1 fun x3 =>
 condK (leF (Int.ofNat (BS.len v0)) x3) (
 let s4 := newB s2 (.cells [(V.int .i64 (Int.ofNat 0)), (V.str (BS.mk 0 0)), (V.int .i64 (Int.ofNat (BS.len v0)))]);
 appK E 3 32 v5 (V.sl (H.next s2) 0 1 (.ex 1)) s4 fun u5 s6 =>
 rtOne u5 (
 some ((V.tup [u5, (V.int .i64 (Int.ofNat 0)), (V.int .i64 (Int.ofNat 0))]), s6))) (
 callK (D 27 [(V.str v0), (V.int .i64 x3)] s2) fun u7 s8 =>
 rtTup u7 fun l9 =>
 rtCons l9 fun x10 l11 =>
 rtAgg x10 fun l12 =>
 rtCons l12 fun x13 l14 =>
 rtInt .i64 x13 fun x15 =>
 rtCons l14 fun x16 l17 =>
 rtStr x16 fun x18 =>
 rtCons l17 fun x19 l20 =>
 rtInt .i64 x19 fun x21 =>
 rtNil l20 (
 rtCons l11 fun x22 l23 =>
 rtInt .i64 x22 fun x24 =>
 rtNil l23 (
 condK (ltF x24 (Int.ofNat 0)) (
 some ((V.tup [V.nils, (V.int .i64 x3), (V.int .i64 (Int.ofNat 6))]), s8)) (
 let s25 := newB s8 (.cells [(V.int .i64 x15), (V.str x18), (V.int .i64 x21)]);
 appK E 3 32 v5 (V.sl (H.next s8) 0 1 (.ex 1)) s25 fun u26 s27 =>
 rtOne u26 (
 R1 v0 u26 x24 s27)))))
theorem P11_0 (E : List (Nat × Blk)) (D : Den) (W : DrawFn) (N : Nat) (cc1 : XC) (v0 : BS) (σ : H) :
  denC E D W N (C11_0 cc1) ⟨[(0, (V.str v0))], [], [], σ⟩ (Fin11 E) (fun _ _ => none) (Fin11 E) =
  T11_0 E D W (fun v0 v5 v6 σ => iterK (fun rec s' => denC E D W N cc1 s' (fun s'' => keepS [(0, .str), (5, .any), (6, (.int .i64))] [] [] s'' rec) (blkK 0 (Fin11 E) (fun _ _ => none)) (Fin11 E)) N ⟨[(0, (V.str v0)), (5, v5), (6, (V.int .i64 v6))], [], [], σ⟩) v0 σ := by kernel_rfl
theorem P11_1 (E : List (Nat × Blk)) (D : Den) (W : DrawFn) (N : Nat) (li1 : St → Ans) (v0 : BS) (v5 : V) (v6 : Int) (σ : H) :
  denC E D W N (C11_1 ) ⟨[(0, (V.str v0)), (5, v5), (6, (V.int .i64 v6))], [], [], σ⟩ (fun s'' => keepS [(0, .str), (5, .any), (6, (.int .i64))] [] [] s'' li1) (blkK 0 (Fin11 E) (fun _ _ => none)) (Fin11 E) =
  T11_1 E D W (fun v0 v5 v6 σ => li1 ⟨[(0, (V.str v0)), (5, v5), (6, (V.int .i64 v6))], [], [], σ⟩) v0 v5 v6 σ := by kernel_rfl
def L11_1 (E : List (Nat × Blk)) (D : Den) (W : DrawFn) (N : Nat) (n : Nat) : BS → V → Int → H → Ans :=
  Nat.rec (fun _ _ _ _ => none) (fun _ ih => T11_1 E D W ih) n
theorem LE11_1 (E : List (Nat × Blk)) (D : Den) (W : DrawFn) (N : Nat) (n : Nat) : ∀ (v0 : BS) (v5 : V) (v6 : Int) (σ : H),
  iterK (fun rec s' => denC E D W N C11_1 s' (fun s'' => keepS [(0, .str), (5, .any), (6, (.int .i64))] [] [] s'' rec) (blkK 0 (Fin11 E) (fun _ _ => none)) (Fin11 E)) n ⟨[(0, (V.str v0)), (5, v5), (6, (V.int .i64 v6))], [], [], σ⟩ = L11_1 E D W N n v0 v5 v6 σ := by
  induction n with
  | zero => intro v0 v5 v6 σ; rfl
  | succ n ihn =>
    intro v0 v5 v6 σ
    rw [iterK_succ]
    refine (P11_1 E D W N  (iterK (fun rec s' => denC E D W N C11_1 s' (fun s'' => keepS [(0, .str), (5, .any), (6, (.int .i64))] [] [] s'' rec) (blkK 0 (Fin11 E) (fun _ _ => none)) (Fin11 E)) n) v0 v5 v6 σ).trans ?_
    simp only [ihn]
    kernel_rfl
def J11_0 (E : List (Nat × Blk)) (D : Den) (W : DrawFn) (N : Nat) : BS → H → Ans := T11_0 E D W (L11_1 E D W N N)
theorem JE11_0 (E : List (Nat × Blk)) (D : Den) (W : DrawFn) (N : Nat) (v0 : BS) (σ : H) :
  denC E D W N (C11_0 C11_1) ⟨[(0, (V.str v0))], [], [], σ⟩ (Fin11 E) (fun _ _ => none) (Fin11 E) = J11_0 E D W N v0 σ := by
  refine (P11_0 E D W N C11_1  v0 σ).trans ?_
  simp only [LE11_1]
  kernel_rfl
def F11 (E : List (Nat × Blk)) (D : Den) (W : DrawFn) (N : Nat) (args : List V) (σ : H) : Ans :=
 rtCons args fun x1 l2 =>
 rtStr x1 fun x3 =>
 rtNil l2 (
 J11_0 E D W N x3 σ)
def A11 : XFn := ⟨39, [.str], [(.tmp 2), (.tmp 3), (.tmp 4)], (C11_0 C11_1)⟩
theorem FE11 (E : List (Nat × Blk)) (D : Den) (W : DrawFn) (N : Nat) (args : List V) (σ : H) : runX E D W N A11 args σ = F11 E D W N args σ := by
  unfold F11
  simp only [← JE11_0]
  kernel_rfl
theorem AO11 : A11.body.ok = true := by kernel_rfl

/-! ### F12: __ogham_oghamref05.parser_.kind -/
def Fin12 (E : List (Nat × Blk)) : St → Ans := fun s => resK E s [(.tmp 4)] fun l => some (oneV l, s.σ)
def C12_0 : XC := (.seq (.ops (.op (some 4) .any [] (.mov (.con (V.str ⟨0, 0⟩))) <|
 .nil))
 (.seq (.ops (.op (some 6) .any [0] (.mov (.tmp 0)) <|
 .op (some 7) (.agg [(.int .i64), .str, (.int .i64)]) [6] (.call 15 [(.tmp 6)]) <|
 .pal 5 [] 50 [(V.int .i64 (Int.ofNat 0)), (V.str ⟨0, 0⟩), (V.int .i64 (Int.ofNat 0))] <|
 .op none (.agg [(.int .i64), .str, (.int .i64)]) [5, 7] (.store 3 (.tmp 5) (.tmp 7)) <|
 .nil))
 (.seq (.seq (.ops (.op (some 8) .any [0] (.mov (.tmp 0)) <|
 .op (some 9) .any [8] (.nilck (.tmp 8)) <|
 .op (some 10) .any [9] (.faddr 7 (.tmp 9)) <|
 .op (some 11) (.int .i64) [10] (.load none (.tmp 10)) <|
 .op (some 12) .any [11] (.bin .neq .none (.tmp 11) (.con (V.int .i64 (Int.ofNat 0)))) <|
 .op (some 13) .any [12] (.mov (.tmp 12)) <|
 .grp 13 false (.op (some 14) .any [5, 13] (.faddr 0 (.tmp 5)) <|
 .op (some 15) (.int .i64) [14, 13] (.load none (.tmp 14)) <|
 .op (some 16) .any [1, 13] (.mov (.tmp 1)) <|
 .op (some 17) .any [15, 16, 13] (.bin .neq .none (.tmp 15) (.tmp 16)) <|
 .nil) 18 [13, 17] (.tmp 13) (.con (V.bool true)) (.tmp 17) <|
 .nil))
 (.cond (.tmp 18) (.seq (.ops (.op (some 19) .any [0] (.mov (.tmp 0)) <|
 .op (some 20) (.agg [(.int .i64), .str, (.int .i64)]) [5] (.load (some 3) (.tmp 5)) <|
 .op (some 21) (.tup []) [19, 20] (.call 16 [(.tmp 19), (.con (V.int .i64 (Int.ofNat 7))), (.tmp 20)]) <|
 .nil))
 (.seq (.ops (.op (some 4) .any [] (.mov (.con (V.str ⟨0, 0⟩))) <|
 .nil))
 .ret))
 .skip))
 (.seq (.ops (.op (some 22) .any [0] (.mov (.tmp 0)) <|
 .op (some 23) (.agg [(.int .i64), .str, (.int .i64)]) [22] (.call 28 [(.tmp 22)]) <|
 .op (some 24) .str [23] (.field 1 none (.tmp 23)) <|
 .op (some 4) .any [24] (.mov (.tmp 24)) <|
 .nil))
 .ret))))
def T12_0 (E : List (Nat × Blk)) (D : Den) (W : DrawFn) (v0b : Nat) (v0o : Nat) (v1 : Int) (σ : H) : Ans :=
 callK (D 15 [(V.ptr v0b v0o)] σ) fun u1 s2 =>
 rtAgg u1 fun l3 =>
 rtCons l3 fun x4 l5 =>
 rtInt .i64 x4 fun x6 =>
 rtCons l5 fun x7 l8 =>
 rtStr x7 fun x9 =>
 rtCons l8 fun x10 l11 =>
 rtInt .i64 x10 fun x12 =>
 rtNil l11 (
 ldK E s2 v0b (Nat.add v0o 7) fun u13 =>
 rtInt .i64 u13 fun x14 =>
 joinB (fun c15 s16 =>
 condK c15 (
 callK (D 16 [(V.ptr v0b v0o), (V.int .i64 (Int.ofNat 7)), (V.agg [(V.int .i64 x6), (V.str x9), (V.int .i64 x12)])] s16) fun u18 s19 =>
 rtTup u18 fun l20 =>
 rtNil l20 (
 some ((V.str (BS.mk 0 0)), s19))) (
 callK (D 28 [(V.ptr v0b v0o)] s16) fun u21 s22 =>
 rtAgg u21 fun l23 =>
 rtCons l23 fun x24 l25 =>
 rtInt .i64 x24 fun x26 =>
 rtCons l25 fun x27 l28 =>
 rtStr x27 fun x29 =>
 rtCons l28 fun x30 l31 =>
 rtInt .i64 x30 fun x32 =>
 rtNil l31 (
 some ((V.str x29), s22)))) fun k17 =>
 condK (not (eqF x14 (Int.ofNat 0))) (
 k17 true s2) (
 k17 (not (eqF x6 v1)) s2))
theorem P12_0 (E : List (Nat × Blk)) (D : Den) (W : DrawFn) (N : Nat) (v0b : Nat) (v0o : Nat) (v1 : Int) (σ : H) :
  denC E D W N (C12_0 ) ⟨[(0, (V.ptr v0b v0o)), (1, (V.int .i64 v1))], [], [], σ⟩ (Fin12 E) (fun _ _ => none) (Fin12 E) =
  T12_0 E D W  v0b v0o v1 σ := by kernel_rfl
def J12_0 (E : List (Nat × Blk)) (D : Den) (W : DrawFn) (N : Nat) : Nat → Nat → Int → H → Ans := T12_0 E D W 
theorem JE12_0 (E : List (Nat × Blk)) (D : Den) (W : DrawFn) (N : Nat) (v0b : Nat) (v0o : Nat) (v1 : Int) (σ : H) :
  denC E D W N C12_0 ⟨[(0, (V.ptr v0b v0o)), (1, (V.int .i64 v1))], [], [], σ⟩ (Fin12 E) (fun _ _ => none) (Fin12 E) = J12_0 E D W N v0b v0o v1 σ := by
  refine (P12_0 E D W N   v0b v0o v1 σ).trans ?_
  kernel_rfl
def F12 (E : List (Nat × Blk)) (D : Den) (W : DrawFn) (N : Nat) (args : List V) (σ : H) : Ans :=
 rtCons args fun x1 l2 =>
 rtPtr x1 fun b3 o4 =>
 rtCons l2 fun x5 l6 =>
 rtInt .i64 x5 fun x7 =>
 rtNil l6 (
 J12_0 E D W N b3 o4 x7 σ)
def A12 : XFn := ⟨25, [.ptr, (.int .i64)], [(.tmp 4)], C12_0⟩
theorem FE12 (E : List (Nat × Blk)) (D : Den) (W : DrawFn) (N : Nat) (args : List V) (σ : H) : runX E D W N A12 args σ = F12 E D W N args σ := by
  unfold F12
  simp only [← JE12_0]
  kernel_rfl
theorem AO12 : A12.body.ok = true := by kernel_rfl

/-! ### F13: __ogham_oghamref05.parser_.must -/
def Fin13 (E : List (Nat × Blk)) : St → Ans := fun s => resK E s [] fun l => some (oneV l, s.σ)
def C13_0 : XC := (.seq (.ops (.op (some 4) .any [0] (.mov (.tmp 0)) <|
 .op (some 5) .any [4] (.nilck (.tmp 4)) <|
 .op (some 6) .any [5] (.faddr 7 (.tmp 5)) <|
 .op (some 7) (.int .i64) [6] (.load none (.tmp 6)) <|
 .op (some 8) .any [7] (.bin .eql .none (.tmp 7) (.con (V.int .i64 (Int.ofNat 0)))) <|
 .op (some 9) .any [8] (.mov (.tmp 8)) <|
 .grp 9 true (.op (some 10) .any [0, 9] (.mov (.tmp 0)) <|
 .op (some 11) .any [1, 9] (.mov (.tmp 1)) <|
 .op (some 12) .bool [10, 11, 9] (.call 14 [(.tmp 10), (.tmp 11)]) <|
 .op (some 13) .any [12, 9] (.un .not (.tmp 12)) <|
 .nil) 14 [9, 13] (.tmp 9) (.tmp 13) (.con (V.bool false)) <|
 .nil))
 (.cond (.tmp 14) (.ops (.op (some 15) .any [0] (.mov (.tmp 0)) <|
 .op (some 16) .any [0] (.mov (.tmp 0)) <|
 .op (some 17) (.agg [(.int .i64), .str, (.int .i64)]) [16] (.call 15 [(.tmp 16)]) <|
 .op (some 18) (.tup []) [15, 17] (.call 16 [(.tmp 15), (.con (V.int .i64 (Int.ofNat 7))), (.tmp 17)]) <|
 .nil))
 .skip))
def T13_0 (E : List (Nat × Blk)) (D : Den) (W : DrawFn) (v0b : Nat) (v0o : Nat) (v1 : BS) (σ : H) : Ans :=
 ldK E σ v0b (Nat.add v0o 7) fun u1 =>
 rtInt .i64 u1 fun x2 =>
 joinB (fun c3 s4 =>
 condK c3 (
 callK (D 15 [(V.ptr v0b v0o)] s4) fun u6 s7 =>
 rtAgg u6 fun l8 =>
 rtCons l8 fun x9 l10 =>
 rtInt .i64 x9 fun x11 =>
 rtCons l10 fun x12 l13 =>
 rtStr x12 fun x14 =>
 rtCons l13 fun x15 l16 =>
 rtInt .i64 x15 fun x17 =>
 rtNil l16 (
 callK (D 16 [(V.ptr v0b v0o), (V.int .i64 (Int.ofNat 7)), (V.agg [(V.int .i64 x11), (V.str x14), (V.int .i64 x17)])] s7) fun u18 s19 =>
 rtTup u18 fun l20 =>
 rtNil l20 (
 some ((V.tup []), s19)))) (
 some ((V.tup []), s4))) fun k5 =>
 condK (eqF x2 (Int.ofNat 0)) (
 callK (D 14 [(V.ptr v0b v0o), (V.str v1)] σ) fun u21 s22 =>
 rtBool u21 fun x23 =>
 k5 (not x23) s22) (
 k5 false σ)
theorem P13_0 (E : List (Nat × Blk)) (D : Den) (W : DrawFn) (N : Nat) (v0b : Nat) (v0o : Nat) (v1 : BS) (σ : H) :
  denC E D W N (C13_0 ) ⟨[(0, (V.ptr v0b v0o)), (1, (V.str v1))], [], [], σ⟩ (Fin13 E) (fun _ _ => none) (Fin13 E) =
  T13_0 E D W  v0b v0o v1 σ := by kernel_rfl
def J13_0 (E : List (Nat × Blk)) (D : Den) (W : DrawFn) (N : Nat) : Nat → Nat → BS → H → Ans := T13_0 E D W 
theorem JE13_0 (E : List (Nat × Blk)) (D : Den) (W : DrawFn) (N : Nat) (v0b : Nat) (v0o : Nat) (v1 : BS) (σ : H) :
  denC E D W N C13_0 ⟨[(0, (V.ptr v0b v0o)), (1, (V.str v1))], [], [], σ⟩ (Fin13 E) (fun _ _ => none) (Fin13 E) = J13_0 E D W N v0b v0o v1 σ := by
  refine (P13_0 E D W N   v0b v0o v1 σ).trans ?_
  kernel_rfl
def F13 (E : List (Nat × Blk)) (D : Den) (W : DrawFn) (N : Nat) (args : List V) (σ : H) : Ans :=
 rtCons args fun x1 l2 =>
 rtPtr x1 fun b3 o4 =>
 rtCons l2 fun x5 l6 =>
 rtStr x5 fun x7 =>
 rtNil l6 (
 J13_0 E D W N b3 o4 x7 σ)
def A13 : XFn := ⟨19, [.ptr, .str], [], C13_0⟩
theorem FE13 (E : List (Nat × Blk)) (D : Den) (W : DrawFn) (N : Nat) (args : List V) (σ : H) : runX E D W N A13 args σ = F13 E D W N args σ := by
  unfold F13
  simp only [← JE13_0]
  kernel_rfl
theorem AO13 : A13.body.ok = true := by kernel_rfl

/-! ### F14: __ogham_oghamref05.parser_.is -/
def Fin14 (E : List (Nat × Blk)) : St → Ans := fun s => resK E s [(.tmp 4)] fun l => some (oneV l, s.σ)
def C14_0 : XC := (.seq (.ops (.op (some 4) .any [] (.mov (.con (V.bool false))) <|
 .nil))
 (.seq (.ops (.op (some 6) .any [0] (.mov (.tmp 0)) <|
 .op (some 7) (.agg [(.int .i64), .str, (.int .i64)]) [6] (.call 15 [(.tmp 6)]) <|
 .pal 5 [] 50 [(V.int .i64 (Int.ofNat 0)), (V.str ⟨0, 0⟩), (V.int .i64 (Int.ofNat 0))] <|
 .op none (.agg [(.int .i64), .str, (.int .i64)]) [5, 7] (.store 3 (.tmp 5) (.tmp 7)) <|
 .nil))
 (.seq (.seq (.ops (.op (some 8) .any [0] (.mov (.tmp 0)) <|
 .op (some 9) .any [8] (.nilck (.tmp 8)) <|
 .op (some 10) .any [9] (.faddr 7 (.tmp 9)) <|
 .op (some 11) (.int .i64) [10] (.load none (.tmp 10)) <|
 .op (some 12) .any [11] (.bin .eql .none (.tmp 11) (.con (V.int .i64 (Int.ofNat 0)))) <|
 .op (some 13) .any [12] (.mov (.tmp 12)) <|
 .grp 13 true (.op (some 14) .any [5, 13] (.faddr 0 (.tmp 5)) <|
 .op (some 15) (.int .i64) [14, 13] (.load none (.tmp 14)) <|
 .op (some 16) .any [15, 13] (.bin .eql .none (.tmp 15) (.con (V.int .i64 (Int.ofNat 5)))) <|
 .op (some 17) .any [16, 13] (.mov (.tmp 16)) <|
 .grp 17 false (.op (some 18) .any [5, 17] (.faddr 0 (.tmp 5)) <|
 .op (some 19) (.int .i64) [18, 17] (.load none (.tmp 18)) <|
 .op (some 20) .any [19, 17] (.bin .eql .none (.tmp 19) (.con (V.int .i64 (Int.ofNat 6)))) <|
 .nil) 21 [17, 20, 13] (.tmp 17) (.con (V.bool true)) (.tmp 20) <|
 .nil) 22 [13, 21] (.tmp 13) (.tmp 21) (.con (V.bool false)) <|
 .op (some 23) .any [22] (.mov (.tmp 22)) <|
 .grp 23 true (.op (some 24) .any [5, 23] (.faddr 1 (.tmp 5)) <|
 .op (some 25) .str [24, 23] (.load none (.tmp 24)) <|
 .op (some 26) .any [1, 23] (.mov (.tmp 1)) <|
 .op (some 27) .any [25, 26, 23] (.bin .eql .none (.tmp 25) (.tmp 26)) <|
 .nil) 28 [23, 27] (.tmp 23) (.tmp 27) (.con (V.bool false)) <|
 .nil))
 (.cond (.tmp 28) (.seq (.ops (.op (some 29) .any [0] (.mov (.tmp 0)) <|
 .op (some 30) (.agg [(.int .i64), .str, (.int .i64)]) [29] (.call 28 [(.tmp 29)]) <|
 .nil))
 (.seq (.ops (.op (some 4) .any [] (.mov (.con (V.bool true))) <|
 .nil))
 .ret))
 .skip))
 (.seq (.ops (.op (some 4) .any [] (.mov (.con (V.bool false))) <|
 .nil))
 .ret))))
def T14_0 (E : List (Nat × Blk)) (D : Den) (W : DrawFn) (v0b : Nat) (v0o : Nat) (v1 : BS) (σ : H) : Ans :=
 callK (D 15 [(V.ptr v0b v0o)] σ) fun u1 s2 =>
 rtAgg u1 fun l3 =>
 rtCons l3 fun x4 l5 =>
 rtInt .i64 x4 fun x6 =>
 rtCons l5 fun x7 l8 =>
 rtStr x7 fun x9 =>
 rtCons l8 fun x10 l11 =>
 rtInt .i64 x10 fun x12 =>
 rtNil l11 (
 ldK E s2 v0b (Nat.add v0o 7) fun u13 =>
 rtInt .i64 u13 fun x14 =>
 joinB (fun c15 s16 =>
 joinB (fun c18 s19 =>
 condK c18 (
 callK (D 28 [(V.ptr v0b v0o)] s19) fun u21 s22 =>
 rtAgg u21 fun l23 =>
 rtCons l23 fun x24 l25 =>
 rtInt .i64 x24 fun x26 =>
 rtCons l25 fun x27 l28 =>
 rtStr x27 fun x29 =>
 rtCons l28 fun x30 l31 =>
 rtInt .i64 x30 fun x32 =>
 rtNil l31 (
 some ((V.bool true), s22))) (
 some ((V.bool false), s19))) fun k20 =>
 condK c15 (
 k20 (BS.beq x9 v1) s16) (
 k20 false s16)) fun k17 =>
 condK (eqF x14 (Int.ofNat 0)) (
 joinB (fun c33 s34 =>
 k17 c33 s34) fun k35 =>
 condK (eqF x6 (Int.ofNat 5)) (
 k35 true s2) (
 k35 (eqF x6 (Int.ofNat 6)) s2)) (
 k17 false s2))
theorem P14_0 (E : List (Nat × Blk)) (D : Den) (W : DrawFn) (N : Nat) (v0b : Nat) (v0o : Nat) (v1 : BS) (σ : H) :
  denC E D W N (C14_0 ) ⟨[(0, (V.ptr v0b v0o)), (1, (V.str v1))], [], [], σ⟩ (Fin14 E) (fun _ _ => none) (Fin14 E) =
  T14_0 E D W  v0b v0o v1 σ := by kernel_rfl
def J14_0 (E : List (Nat × Blk)) (D : Den) (W : DrawFn) (N : Nat) : Nat → Nat → BS → H → Ans := T14_0 E D W 
theorem JE14_0 (E : List (Nat × Blk)) (D : Den) (W : DrawFn) (N : Nat) (v0b : Nat) (v0o : Nat) (v1 : BS) (σ : H) :
  denC E D W N C14_0 ⟨[(0, (V.ptr v0b v0o)), (1, (V.str v1))], [], [], σ⟩ (Fin14 E) (fun _ _ => none) (Fin14 E) = J14_0 E D W N v0b v0o v1 σ := by
  refine (P14_0 E D W N   v0b v0o v1 σ).trans ?_
  kernel_rfl
def F14 (E : List (Nat × Blk)) (D : Den) (W : DrawFn) (N : Nat) (args : List V) (σ : H) : Ans :=
 rtCons args fun x1 l2 =>
 rtPtr x1 fun b3 o4 =>
 rtCons l2 fun x5 l6 =>
 rtStr x5 fun x7 =>
 rtNil l6 (
 J14_0 E D W N b3 o4 x7 σ)
def A14 : XFn := ⟨31, [.ptr, .str], [(.tmp 4)], C14_0⟩
theorem FE14 (E : List (Nat × Blk)) (D : Den) (W : DrawFn) (N : Nat) (args : List V) (σ : H) : runX E D W N A14 args σ = F14 E D W N args σ := by
  unfold F14
  simp only [← JE14_0]
  kernel_rfl
theorem AO14 : A14.body.ok = true := by kernel_rfl

/-! ### F15: __ogham_oghamref05.parser_.now -/
def Fin15 (E : List (Nat × Blk)) : St → Ans := fun s => resK E s [(.cell 2 (some 3))] fun l => some (oneV l, s.σ)
def C15_0 : XC := (.seq (.ops (.pal 2 [] 50 [(V.int .i64 (Int.ofNat 0)), (V.str ⟨0, 0⟩), (V.int .i64 (Int.ofNat 0))] <|
 .nil))
 (.seq (.draw (.op (some 3) .any [0] (.mov (.tmp 0)) <|
 .op (some 4) .any [3] (.nilck (.tmp 3)) <|
 .op (some 5) .any [4] (.faddr 0 (.tmp 4)) <|
 .op (some 6) .any [5] (.load none (.tmp 5)) <|
 .op (some 7) .any [0] (.mov (.tmp 0)) <|
 .op (some 8) .any [7] (.nilck (.tmp 7)) <|
 .op (some 9) .any [8] (.faddr 1 (.tmp 8)) <|
 .op (some 10) (.int .i64) [9] (.load none (.tmp 9)) <|
 .op (some 11) .any [6, 10] (.iaddrS 3 (.tmp 6) (.tmp 10)) <|
 .op (some 12) (.agg [(.int .i64), .str, (.int .i64)]) [11] (.load (some 3) (.tmp 11)) <|
 .op none (.agg [(.int .i64), .str, (.int .i64)]) [2, 12] (.store 3 (.tmp 2) (.tmp 12)) <|
 .nil) [0, 1, 3, 7, 0, 16, 48, 112, 255, 511, 1023])
 .ret))
def T15_0 (E : List (Nat × Blk)) (D : Den) (W : DrawFn) (v0b : Nat) (v0o : Nat) (σ : H) : Ans :=
 ldK E σ v0b v0o fun u1 =>
 ldK E σ v0b (Nat.add v0o 1) fun u2 =>
 rtInt .i64 u2 fun x3 =>
 iaddrSK 3 u1 x3 fun b4 o5 =>
 ldnK E σ b4 o5 3 fun l6 =>
 rtCons l6 fun x7 l8 =>
 rtInt .i64 x7 fun x9 =>
 rtCons l8 fun x10 l11 =>
 rtStr x10 fun x12 =>
 rtCons l11 fun x13 l14 =>
 rtInt .i64 x13 fun x15 =>
 rtNil l14 (
 some ((V.agg [(V.int .i64 x9), (V.str x12), (V.int .i64 x15)]), σ))
theorem P15_0 (E : List (Nat × Blk)) (D : Den) (W : DrawFn) (N : Nat) (v0b : Nat) (v0o : Nat) (σ : H) :
  denC E D W N (C15_0 ) ⟨[(0, (V.ptr v0b v0o))], [], [], σ⟩ (Fin15 E) (fun _ _ => none) (Fin15 E) =
  T15_0 E D W  v0b v0o σ := by kernel_rfl
def J15_0 (E : List (Nat × Blk)) (D : Den) (W : DrawFn) (N : Nat) : Nat → Nat → H → Ans := T15_0 E D W 
theorem JE15_0 (E : List (Nat × Blk)) (D : Den) (W : DrawFn) (N : Nat) (v0b : Nat) (v0o : Nat) (σ : H) :
  denC E D W N C15_0 ⟨[(0, (V.ptr v0b v0o))], [], [], σ⟩ (Fin15 E) (fun _ _ => none) (Fin15 E) = J15_0 E D W N v0b v0o σ := by
  refine (P15_0 E D W N   v0b v0o σ).trans ?_
  kernel_rfl
def F15 (E : List (Nat × Blk)) (D : Den) (W : DrawFn) (N : Nat) (args : List V) (σ : H) : Ans :=
 rtCons args fun x1 l2 =>
 rtPtr x1 fun b3 o4 =>
 rtNil l2 (
 J15_0 E D W N b3 o4 σ)
def A15 : XFn := ⟨13, [.ptr], [(.cell 2 (some 3))], C15_0⟩
theorem FE15 (E : List (Nat × Blk)) (D : Den) (W : DrawFn) (N : Nat) (args : List V) (σ : H) : runX E D W N A15 args σ = F15 E D W N args σ := by
  unfold F15
  simp only [← JE15_0]
  kernel_rfl
theorem AO15 : A15.body.ok = true := by kernel_rfl

/-! ### F17: __ogham_oghamref05.parser_.typ -/
def Fin17 (E : List (Nat × Blk)) : St → Ans := fun s => resK E s [(.tmp 4)] fun l => some (oneV l, s.σ)
def C17_0 (cc1 : XC) (cc2 : XC) : XC := (.seq (.ops (.op (some 4) .any [] (.mov (.con (V.int .i64 (Int.ofNat 0)))) <|
 .nil))
 (.seq (.seq (.ops (.op (some 9) .any [0] (.mov (.tmp 0)) <|
 .op (some 10) .any [9] (.nilck (.tmp 9)) <|
 .op (some 11) .any [10] (.faddr 7 (.tmp 10)) <|
 .op (some 12) (.int .i64) [11] (.load none (.tmp 11)) <|
 .op (some 13) .any [12] (.bin .neq .none (.tmp 12) (.con (V.int .i64 (Int.ofNat 0)))) <|
 .nil))
 (.cond (.tmp 13) (.seq (.ops (.op (some 4) .any [] (.mov (.con (V.int .i64 (Int.ofNat 0)))) <|
 .nil))
 .ret)
 .skip))
 (.seq (.seq (.ops (.op (some 14) .any [0] (.mov (.tmp 0)) <|
 .op (some 15) (.agg [(.int .i64), .str, (.int .i64)]) [14] (.call 15 [(.tmp 14)]) <|
 .op (some 16) .bool [15] (.call 29 [(.tmp 15)]) <|
 .op (some 17) .any [16] (.un .not (.tmp 16)) <|
 .nil))
 (.cond (.tmp 17) (.seq (.ops (.op (some 18) .any [0] (.mov (.tmp 0)) <|
 .op (some 19) .any [0] (.mov (.tmp 0)) <|
 .op (some 20) (.agg [(.int .i64), .str, (.int .i64)]) [19] (.call 15 [(.tmp 19)]) <|
 .op (some 21) (.tup []) [18, 20] (.call 16 [(.tmp 18), (.con (V.int .i64 (Int.ofNat 7))), (.tmp 20)]) <|
 .nil))
 (.seq (.ops (.op (some 4) .any [] (.mov (.con (V.int .i64 (Int.ofNat 0)))) <|
 .nil))
 .ret))
 .skip))
 (.seq (.seq (.ops (.op (some 22) .any [1] (.mov (.tmp 1)) <|
 .op (some 23) .any [22] (.bin .gtr .none (.tmp 22) (.con (V.int .i64 (Int.ofNat 16)))) <|
 .op (some 24) .any [23] (.mov (.tmp 23)) <|
 .grp 24 false (.op (some 25) .any [0, 24] (.mov (.tmp 0)) <|
 .op (some 26) .any [25, 24] (.nilck (.tmp 25)) <|
 .op (some 27) .any [26, 24] (.faddr 2 (.tmp 26)) <|
 .op (some 28) .any [27, 24] (.faddr 4 (.tmp 27)) <|
 .op (some 29) .any [28, 24] (.load none (.tmp 28)) <|
 .op (some 30) .any [29, 24] (.len false (.tmp 29)) <|
 .op (some 31) .any [30, 24] (.bin .geq .none (.tmp 30) (.con (V.int .i64 (Int.ofNat 300)))) <|
 .nil) 32 [24, 31] (.tmp 24) (.con (V.bool true)) (.tmp 31) <|
 .nil))
 (.cond (.tmp 32) (.seq (.ops (.op (some 33) .any [0] (.mov (.tmp 0)) <|
 .op (some 34) .any [0] (.mov (.tmp 0)) <|
 .op (some 35) (.agg [(.int .i64), .str, (.int .i64)]) [34] (.call 15 [(.tmp 34)]) <|
 .op (some 36) (.tup []) [33, 35] (.call 16 [(.tmp 33), (.con (V.int .i64 (Int.ofNat 5))), (.tmp 35)]) <|
 .nil))
 (.seq (.ops (.op (some 4) .any [] (.mov (.con (V.int .i64 (Int.ofNat 0)))) <|
 .nil))
 .ret))
 .skip))
 (.seq (.ops (.op (some 37) .any [0] (.mov (.tmp 0)) <|
 .op (some 38) .any [37] (.nilck (.tmp 37)) <|
 .op (some 39) .any [38] (.faddr 2 (.tmp 38)) <|
 .op (some 40) .any [39] (.faddr 4 (.tmp 39)) <|
 .op (some 41) .any [40] (.load none (.tmp 40)) <|
 .op (some 42) .any [41] (.len false (.tmp 41)) <|
 .op (some 5) .any [42] (.mov (.tmp 42)) <|
 .nil))
 (.seq (.ops (.op (some 43) .any [0] (.mov (.tmp 0)) <|
 .op (some 44) .any [0] (.mov (.tmp 0)) <|
 .op (some 45) .any [44] (.nilck (.tmp 44)) <|
 .op (some 46) .any [45] (.faddr 2 (.tmp 45)) <|
 .op (some 47) .any [46] (.faddr 4 (.tmp 46)) <|
 .op (some 48) .any [47] (.load none (.tmp 47)) <|
 .op (some 49) (.agg [(.int .i64), .str, .bool, (.int .i64), (.int .i64), .bool, .bool, .bool, .bool, (.int .i64), (.int .i64), .any, .any, (.int .i64), .bool, (.int .i64)]) [] (.build [(V.int .i64 (Int.ofNat 0)), (V.str ⟨0, 0⟩), (V.bool false), (V.int .i64 (Int.ofNat 0)), (V.int .i64 (Int.ofNat 0)), (V.bool false), (V.bool false), (V.bool false), (V.bool false), (V.int .i64 (Int.ofNat 0)), (V.int .i64 (Int.ofNat 0)), V.nils, V.nils, (V.int .i64 (Int.ofNat 0)), (V.bool false), (V.int .i64 (Int.ofNat 0))] []) <|
 .op (some 50) .any [49] (.buildSlice 72 1 [(V.int .i64 (Int.ofNat 0)), (V.str ⟨0, 0⟩), (V.bool false), (V.int .i64 (Int.ofNat 0)), (V.int .i64 (Int.ofNat 0)), (V.bool false), (V.bool false), (V.bool false), (V.bool false), (V.int .i64 (Int.ofNat 0)), (V.int .i64 (Int.ofNat 0)), V.nils, V.nils, (V.int .i64 (Int.ofNat 0)), (V.bool false), (V.int .i64 (Int.ofNat 0))] [(0, 16, (.tmp 49))]) <|
 .op (some 51) .one [48, 50] (.append 72 16 144 (.tmp 48) (.tmp 50)) <|
 .op (some 52) .any [43] (.nilck (.tmp 43)) <|
 .op (some 53) .any [52] (.faddr 2 (.tmp 52)) <|
 .op (some 54) .any [53] (.faddr 4 (.tmp 53)) <|
 .op none .any [54, 51] (.store 1 (.tmp 54) (.tmp 51)) <|
 .nil))
 (.seq (.ops (.op (some 55) (.agg [(.int .i64), .str, .bool, (.int .i64), (.int .i64), .bool, .bool, .bool, .bool, (.int .i64), (.int .i64), .any, .any, (.int .i64), .bool, (.int .i64)]) [] (.build [(V.int .i64 (Int.ofNat 0)), (V.str ⟨0, 0⟩), (V.bool false), (V.int .i64 (Int.ofNat 0)), (V.int .i64 (Int.ofNat 0)), (V.bool false), (V.bool false), (V.bool false), (V.bool false), (V.int .i64 (Int.ofNat 0)), (V.int .i64 (Int.ofNat 0)), V.nils, V.nils, (V.int .i64 (Int.ofNat 0)), (V.bool false), (V.int .i64 (Int.ofNat 0))] []) <|
 .op (some 6) .any [] (.alloc 72 [(V.int .i64 (Int.ofNat 0)), (V.str ⟨0, 0⟩), (V.bool false), (V.int .i64 (Int.ofNat 0)), (V.int .i64 (Int.ofNat 0)), (V.bool false), (V.bool false), (V.bool false), (V.bool false), (V.int .i64 (Int.ofNat 0)), (V.int .i64 (Int.ofNat 0)), V.nils, V.nils, (V.int .i64 (Int.ofNat 0)), (V.bool false), (V.int .i64 (Int.ofNat 0))]) <|
 .op none (.agg [(.int .i64), .str, .bool, (.int .i64), (.int .i64), .bool, .bool, .bool, .bool, (.int .i64), (.int .i64), .any, .any, (.int .i64), .bool, (.int .i64)]) [6, 55] (.store 16 (.tmp 6) (.tmp 55)) <|
 .nil))
 (.seq (.seq (.ops (.op (some 56) .any [0] (.mov (.tmp 0)) <|
 .op (some 57) .bool [56] (.call 14 [(.tmp 56), (.con (V.str ⟨1, 91⟩))]) <|
 .nil))
 (.cond (.tmp 57) (.seq (.ops (.op (some 58) .any [0] (.mov (.tmp 0)) <|
 .op (some 59) (.agg [(.int .i64), .str, (.int .i64)]) [58] (.call 15 [(.tmp 58)]) <|
 .pal 7 [] 50 [(V.int .i64 (Int.ofNat 0)), (V.str ⟨0, 0⟩), (V.int .i64 (Int.ofNat 0))] <|
 .op none (.agg [(.int .i64), .str, (.int .i64)]) [7, 59] (.store 3 (.tmp 7) (.tmp 59)) <|
 .nil))
 (.seq (.ops (.op (some 60) .any [0] (.mov (.tmp 0)) <|
 .op (some 61) (.int .i64) [60] (.call 30 [(.tmp 60)]) <|
 .op (some 8) .any [61] (.mov (.tmp 61)) <|
 .nil))
 (.seq (.seq (.ops (.op (some 62) .any [0] (.mov (.tmp 0)) <|
 .op (some 63) .any [62] (.nilck (.tmp 62)) <|
 .op (some 64) .any [63] (.faddr 7 (.tmp 63)) <|
 .op (some 65) (.int .i64) [64] (.load none (.tmp 64)) <|
 .op (some 66) .any [65] (.bin .eql .none (.tmp 65) (.con (V.int .i64 (Int.ofNat 0)))) <|
 .op (some 67) .any [66] (.mov (.tmp 66)) <|
 .grp 67 true (.op (some 68) .any [8, 67] (.mov (.tmp 8)) <|
 .op (some 69) .any [68, 67] (.bin .lss .none (.tmp 68) (.con (V.int .i64 (Int.ofNat 0)))) <|
 .op (some 70) .any [69, 67] (.mov (.tmp 69)) <|
 .grp 70 false (.op (some 71) .any [8, 70] (.mov (.tmp 8)) <|
 .op (some 72) .any [71, 70] (.bin .gtr .none (.tmp 71) (.con (V.int .i64 (Int.ofNat 268435456)))) <|
 .nil) 73 [70, 72, 67] (.tmp 70) (.con (V.bool true)) (.tmp 72) <|
 .nil) 74 [67, 73] (.tmp 67) (.tmp 73) (.con (V.bool false)) <|
 .nil))
 (.cond (.tmp 74) (.ops (.op (some 75) .any [0] (.mov (.tmp 0)) <|
 .op (some 76) (.agg [(.int .i64), .str, (.int .i64)]) [7] (.load (some 3) (.tmp 7)) <|
 .op (some 77) (.tup []) [75, 76] (.call 16 [(.tmp 75), (.con (V.int .i64 (Int.ofNat 12))), (.tmp 76)]) <|
 .nil))
 .skip))
 (.keep [(0, .ptr), (1, (.int .i64)), (5, (.int .i64)), (6, .ptr), (8, (.int .i64))] [] [] cc2))))
 .skip))
 (.keep [(0, .ptr), (1, (.int .i64)), (5, (.int .i64)), (6, .ptr)] [] [] cc1)))))))))
def T17_0 (E : List (Nat × Blk)) (D : Den) (W : DrawFn) (K1 : Nat → Nat → Int → Int → Nat → Nat → H → Ans) (K2 : Nat → Nat → Int → Int → Nat → Nat → Int → H → Ans) (v0b : Nat) (v0o : Nat) (v1 : Int) (σ : H) : Ans :=
 ldK E σ v0b (Nat.add v0o 7) fun u1 =>
 rtInt .i64 u1 fun x2 =>
 condK (not (eqF x2 (Int.ofNat 0))) (
 some ((V.int .i64 (Int.ofNat 0)), σ)) (
 callK (D 15 [(V.ptr v0b v0o)] σ) fun u3 s4 =>
 rtAgg u3 fun l5 =>
 rtCons l5 fun x6 l7 =>
 rtInt .i64 x6 fun x8 =>
 rtCons l7 fun x9 l10 =>
 rtStr x9 fun x11 =>
 rtCons l10 fun x12 l13 =>
 rtInt .i64 x12 fun x14 =>
 rtNil l13 (
 callK (D 29 [(V.agg [(V.int .i64 x8), (V.str x11), (V.int .i64 x14)])] s4) fun u15 s16 =>
 rtBool u15 fun x17 =>
 condK (not x17) (
 callK (D 15 [(V.ptr v0b v0o)] s16) fun u18 s19 =>
 rtAgg u18 fun l20 =>
 rtCons l20 fun x21 l22 =>
 rtInt .i64 x21 fun x23 =>
 rtCons l22 fun x24 l25 =>
 rtStr x24 fun x26 =>
 rtCons l25 fun x27 l28 =>
 rtInt .i64 x27 fun x29 =>
 rtNil l28 (
 callK (D 16 [(V.ptr v0b v0o), (V.int .i64 (Int.ofNat 7)), (V.agg [(V.int .i64 x23), (V.str x26), (V.int .i64 x29)])] s19) fun u30 s31 =>
 rtTup u30 fun l32 =>
 rtNil l32 (
 some ((V.int .i64 (Int.ofNat 0)), s31)))) (
 joinB (fun c33 s34 =>
 condK c33 (
 callK (D 15 [(V.ptr v0b v0o)] s34) fun u36 s37 =>
 rtAgg u36 fun l38 =>
 rtCons l38 fun x39 l40 =>
 rtInt .i64 x39 fun x41 =>
 rtCons l40 fun x42 l43 =>
 rtStr x42 fun x44 =>
 rtCons l43 fun x45 l46 =>
 rtInt .i64 x45 fun x47 =>
 rtNil l46 (
 callK (D 16 [(V.ptr v0b v0o), (V.int .i64 (Int.ofNat 5)), (V.agg [(V.int .i64 x41), (V.str x44), (V.int .i64 x47)])] s37) fun u48 s49 =>
 rtTup u48 fun l50 =>
 rtNil l50 (
 some ((V.int .i64 (Int.ofNat 0)), s49)))) (
 ldK E s34 v0b (Nat.add (Nat.add v0o 2) 4) fun u51 =>
 slenK u51 fun n52 =>
 ldK E s34 v0b (Nat.add (Nat.add v0o 2) 4) fun u53 =>
 let s54 := newB s34 (.cells [(V.int .i64 (Int.ofNat 0)), (V.str (BS.mk 0 0)), (V.bool false), (V.int .i64 (Int.ofNat 0)), (V.int .i64 (Int.ofNat 0)), (V.bool false), (V.bool false), (V.bool false), (V.bool false), (V.int .i64 (Int.ofNat 0)), (V.int .i64 (Int.ofNat 0)), V.nils, V.nils, (V.int .i64 (Int.ofNat 0)), (V.bool false), (V.int .i64 (Int.ofNat 0))]);
 appK E 16 144 u53 (V.sl (H.next s34) 0 1 (.ex 1)) s54 fun u55 s56 =>
 rtOne u55 (
 stK 1 v0b (Nat.add (Nat.add v0o 2) 4) u55 s56 fun s57 =>
 let s58 := newB s57 (.cells [(V.int .i64 (Int.ofNat 0)), (V.str ⟨0, 0⟩), (V.bool false), (V.int .i64 (Int.ofNat 0)), (V.int .i64 (Int.ofNat 0)), (V.bool false), (V.bool false), (V.bool false), (V.bool false), (V.int .i64 (Int.ofNat 0)), (V.int .i64 (Int.ofNat 0)), V.nils, V.nils, (V.int .i64 (Int.ofNat 0)), (V.bool false), (V.int .i64 (Int.ofNat 0))]);
 stK 16 (H.next s57) 0 (V.agg [(V.int .i64 (Int.ofNat 0)), (V.str (BS.mk 0 0)), (V.bool false), (V.int .i64 (Int.ofNat 0)), (V.int .i64 (Int.ofNat 0)), (V.bool false), (V.bool false), (V.bool false), (V.bool false), (V.int .i64 (Int.ofNat 0)), (V.int .i64 (Int.ofNat 0)), V.nils, V.nils, (V.int .i64 (Int.ofNat 0)), (V.bool false), (V.int .i64 (Int.ofNat 0))]) s58 fun s59 =>
 callK (D 14 [(V.ptr v0b v0o), (V.str (BS.mk 1 91))] s59) fun u60 s61 =>
 rtBool u60 fun x62 =>
 condK x62 (
 callK (D 15 [(V.ptr v0b v0o)] s61) fun u63 s64 =>
 rtAgg u63 fun l65 =>
 rtCons l65 fun x66 l67 =>
 rtInt .i64 x66 fun x68 =>
 rtCons l67 fun x69 l70 =>
 rtStr x69 fun x71 =>
 rtCons l70 fun x72 l73 =>
 rtInt .i64 x72 fun x74 =>
 rtNil l73 (
 callK (D 30 [(V.ptr v0b v0o)] s64) fun u75 s76 =>
 rtInt .i64 u75 fun x77 =>
 ldK E s76 v0b (Nat.add v0o 7) fun u78 =>
 rtInt .i64 u78 fun x79 =>
 joinB (fun c80 s81 =>
 condK c80 (
 callK (D 16 [(V.ptr v0b v0o), (V.int .i64 (Int.ofNat 12)), (V.agg [(V.int .i64 x68), (V.str x71), (V.int .i64 x74)])] s81) fun u83 s84 =>
 rtTup u83 fun l85 =>
 rtNil l85 (
 K2 v0b v0o v1 (Int.ofNat n52) (H.next s57) 0 x77 s84)) (
 K2 v0b v0o v1 (Int.ofNat n52) (H.next s57) 0 x77 s81)) fun k82 =>
 condK (eqF x79 (Int.ofNat 0)) (
 joinB (fun c86 s87 =>
 k82 c86 s87) fun k88 =>
 condK (ltF x77 (Int.ofNat 0)) (
 k88 true s76) (
 k88 (ltF (Int.ofNat 268435456) x77) s76)) (
 k82 false s76))) (
 K1 v0b v0o v1 (Int.ofNat n52) (H.next s57) 0 s61)))) fun k35 =>
 condK (ltF (Int.ofNat 16) v1) (
 k35 true s16) (
 ldK E s16 v0b (Nat.add (Nat.add v0o 2) 4) fun u89 =>
 slenK u89 fun n90 =>
 k35 (leF (Int.ofNat 300) (Int.ofNat n90)) s16))))
def C17_1 : XC := (.seq (.ops (.op (some 91) .any [0] (.mov (.tmp 0)) <|
 .op (some 92) .any [1] (.mov (.tmp 1)) <|
 .op (some 93) (.tup []) [91, 6, 92] (.call 31 [(.tmp 91), (.tmp 6), (.tmp 92)]) <|
 .nil))
 (.seq (.seq (.ops (.op (some 94) .any [0] (.mov (.tmp 0)) <|
 .op (some 95) .any [94] (.nilck (.tmp 94)) <|
 .op (some 96) .any [95] (.faddr 7 (.tmp 95)) <|
 .op (some 97) (.int .i64) [96] (.load none (.tmp 96)) <|
 .op (some 98) .any [97] (.bin .neq .none (.tmp 97) (.con (V.int .i64 (Int.ofNat 0)))) <|
 .nil))
 (.cond (.tmp 98) (.seq (.ops (.op (some 4) .any [] (.mov (.con (V.int .i64 (Int.ofNat 0)))) <|
 .nil))
 .ret)
 .skip))
 (.seq (.draw (.op (some 99) .any [0] (.mov (.tmp 0)) <|
 .op (some 100) .any [99] (.nilck (.tmp 99)) <|
 .op (some 101) .any [100] (.faddr 2 (.tmp 100)) <|
 .op (some 102) .any [101] (.faddr 4 (.tmp 101)) <|
 .op (some 103) .any [102] (.load none (.tmp 102)) <|
 .op (some 104) .any [5] (.mov (.tmp 5)) <|
 .op (some 105) (.agg [(.int .i64), .str, .bool, (.int .i64), (.int .i64), .bool, .bool, .bool, .bool, (.int .i64), (.int .i64), .any, .any, (.int .i64), .bool, (.int .i64)]) [6] (.load (some 16) (.tmp 6)) <|
 .op (some 106) .any [103, 104] (.iaddrS 16 (.tmp 103) (.tmp 104)) <|
 .op none (.agg [(.int .i64), .str, .bool, (.int .i64), (.int .i64), .bool, .bool, .bool, .bool, (.int .i64), (.int .i64), .any, .any, (.int .i64), .bool, (.int .i64)]) [106, 105] (.store 16 (.tmp 106) (.tmp 105)) <|
 .nil) [0, 1, 3, 7, 15, 0, 0, 127, 255])
 (.seq (.ops (.op (some 107) .any [5] (.mov (.tmp 5)) <|
 .op (some 4) .any [107] (.mov (.tmp 107)) <|
 .nil))
 .ret))))
def T17_1 (E : List (Nat × Blk)) (D : Den) (W : DrawFn) (v0b : Nat) (v0o : Nat) (v1 : Int) (v5 : Int) (v6b : Nat) (v6o : Nat) (σ : H) : Ans :=
 callK (D 31 [(V.ptr v0b v0o), (V.ptr v6b v6o), (V.int .i64 v1)] σ) fun u1 s2 =>
 rtTup u1 fun l3 =>
 rtNil l3 (
 ldK E s2 v0b (Nat.add v0o 7) fun u4 =>
 rtInt .i64 u4 fun x5 =>
 condK (not (eqF x5 (Int.ofNat 0))) (
 some ((V.int .i64 (Int.ofNat 0)), s2)) (
 ldK E s2 v0b (Nat.add (Nat.add v0o 2) 4) fun u6 =>
 ldnK E s2 v6b v6o 16 fun l7 =>
 rtCons l7 fun x8 l9 =>
 rtInt .i64 x8 fun x10 =>
 rtCons l9 fun x11 l12 =>
 rtStr x11 fun x13 =>
 rtCons l12 fun x14 l15 =>
 rtBool x14 fun x16 =>
 rtCons l15 fun x17 l18 =>
 rtInt .i64 x17 fun x19 =>
 rtCons l18 fun x20 l21 =>
 rtInt .i64 x20 fun x22 =>
 rtCons l21 fun x23 l24 =>
 rtBool x23 fun x25 =>
 rtCons l24 fun x26 l27 =>
 rtBool x26 fun x28 =>
 rtCons l27 fun x29 l30 =>
 rtBool x29 fun x31 =>
 rtCons l30 fun x32 l33 =>
 rtBool x32 fun x34 =>
 rtCons l33 fun x35 l36 =>
 rtInt .i64 x35 fun x37 =>
 rtCons l36 fun x38 l39 =>
 rtInt .i64 x38 fun x40 =>
 rtCons l39 fun x41 l42 =>
 rtCons l42 fun x43 l44 =>
 rtCons l44 fun x45 l46 =>
 rtInt .i64 x45 fun x47 =>
 rtCons l46 fun x48 l49 =>
 rtBool x48 fun x50 =>
 rtCons l49 fun x51 l52 =>
 rtInt .i64 x51 fun x53 =>
 rtNil l52 (
 iaddrSK 16 u6 v5 fun b54 o55 =>
 stK 16 b54 o55 (V.agg [(V.int .i64 x10), (V.str x13), (V.bool x16), (V.int .i64 x19), (V.int .i64 x22), (V.bool x25), (V.bool x28), (V.bool x31), (V.bool x34), (V.int .i64 x37), (V.int .i64 x40), x41, x43, (V.int .i64 x47), (V.bool x50), (V.int .i64 x53)]) s2 fun s56 =>
 some ((V.int .i64 v5), s56))))
def C17_2 : XC := (.seq (.ops (.op (some 78) .any [0] (.mov (.tmp 0)) <|
 .op (some 79) (.tup []) [78] (.call 13 [(.tmp 78), (.con (V.str ⟨1, 93⟩))]) <|
 .nil))
 (.seq (.ops (.op (some 80) .any [8] (.mov (.tmp 8)) <|
 .op (some 81) (.agg [.bool, (.int .i64), (.int .i64)]) [80] (.build [(V.bool false), (V.int .i64 (Int.ofNat 0)), (V.int .i64 (Int.ofNat 0))] [(0, 1, (.con (V.bool true))), (1, 1, (.tmp 80))]) <|
 .op (some 82) .any [6] (.faddr 2 (.tmp 6)) <|
 .op none (.agg [.bool, (.int .i64), (.int .i64)]) [82, 81] (.store 3 (.tmp 82) (.tmp 81)) <|
 .nil))
 (.seq (.ops (.op (some 83) .any [0] (.mov (.tmp 0)) <|
 .op (some 84) .bool [83] (.call 14 [(.tmp 83), (.con (V.str ⟨8, 6073459554577832005⟩))]) <|
 .nil))
 (.cond (.tmp 84) (.ops (.op (some 85) .any [6] (.faddr 2 (.tmp 6)) <|
 .op (some 86) .any [85] (.faddr 2 (.tmp 85)) <|
 .op none .any [86] (.store 1 (.tmp 86) (.con (V.int .i64 (Int.ofNat 1)))) <|
 .nil))
 (.seq (.ops (.op (some 87) .any [0] (.mov (.tmp 0)) <|
 .op (some 88) .bool [87] (.call 14 [(.tmp 87), (.con (V.str ⟨8, 6073459554577829193⟩))]) <|
 .nil))
 (.cond (.tmp 88) (.ops (.op (some 89) .any [6] (.faddr 2 (.tmp 6)) <|
 .op (some 90) .any [89] (.faddr 2 (.tmp 89)) <|
 .op none .any [90] (.store 1 (.tmp 90) (.con (V.int .i64 (Int.ofNat 2)))) <|
 .nil))
 .skip))))))
def T17_2 (E : List (Nat × Blk)) (D : Den) (W : DrawFn) (K1 : Nat → Nat → Int → Int → Nat → Nat → H → Ans) (v0b : Nat) (v0o : Nat) (v1 : Int) (v5 : Int) (v6b : Nat) (v6o : Nat) (v8 : Int) (σ : H) : Ans :=
 callK (D 13 [(V.ptr v0b v0o), (V.str (BS.mk 1 93))] σ) fun u1 s2 =>
 rtTup u1 fun l3 =>
 rtNil l3 (
 stK 3 v6b (Nat.add v6o 2) (V.agg [(V.bool true), (V.int .i64 v8), (V.int .i64 (Int.ofNat 0))]) s2 fun s4 =>
 callK (D 14 [(V.ptr v0b v0o), (V.str (BS.mk 8 6073459554577832005))] s4) fun u5 s6 =>
 rtBool u5 fun x7 =>
 condK x7 (
 stK 1 v6b (Nat.add (Nat.add v6o 2) 2) (V.int .i64 (Int.ofNat 1)) s6 fun s8 =>
 K1 v0b v0o v1 v5 v6b v6o s8) (
 callK (D 14 [(V.ptr v0b v0o), (V.str (BS.mk 8 6073459554577829193))] s6) fun u9 s10 =>
 rtBool u9 fun x11 =>
 condK x11 (
 stK 1 v6b (Nat.add (Nat.add v6o 2) 2) (V.int .i64 (Int.ofNat 2)) s10 fun s12 =>
 K1 v0b v0o v1 v5 v6b v6o s12) (
 K1 v0b v0o v1 v5 v6b v6o s10)))
theorem P17_0 (E : List (Nat × Blk)) (D : Den) (W : DrawFn) (N : Nat) (cc1 : XC) (cc2 : XC) (v0b : Nat) (v0o : Nat) (v1 : Int) (σ : H) :
  denC E D W N (C17_0 cc1 cc2) ⟨[(0, (V.ptr v0b v0o)), (1, (V.int .i64 v1))], [], [], σ⟩ (Fin17 E) (fun _ _ => none) (Fin17 E) =
  T17_0 E D W (fun v0b v0o v1 v5 v6b v6o σ => denC E D W N cc1 ⟨[(0, (V.ptr v0b v0o)), (1, (V.int .i64 v1)), (5, (V.int .i64 v5)), (6, (V.ptr v6b v6o))], [], [], σ⟩ (Fin17 E) (fun _ _ => none) (Fin17 E)) (fun v0b v0o v1 v5 v6b v6o v8 σ => denC E D W N cc2 ⟨[(0, (V.ptr v0b v0o)), (1, (V.int .i64 v1)), (5, (V.int .i64 v5)), (6, (V.ptr v6b v6o)), (8, (V.int .i64 v8))], [], [], σ⟩ (fun s' => denC E D W N (.keep [(0, .ptr), (1, (.int .i64)), (5, (.int .i64)), (6, .ptr)] [] [] cc1) s' (Fin17 E) (fun _ _ => none) (Fin17 E)) (fun _ _ => none) (Fin17 E)) v0b v0o v1 σ := by kernel_rfl
theorem P17_1 (E : List (Nat × Blk)) (D : Den) (W : DrawFn) (N : Nat) (v0b : Nat) (v0o : Nat) (v1 : Int) (v5 : Int) (v6b : Nat) (v6o : Nat) (σ : H) :
  denC E D W N (C17_1 ) ⟨[(0, (V.ptr v0b v0o)), (1, (V.int .i64 v1)), (5, (V.int .i64 v5)), (6, (V.ptr v6b v6o))], [], [], σ⟩ (Fin17 E) (fun _ _ => none) (Fin17 E) =
  T17_1 E D W  v0b v0o v1 v5 v6b v6o σ := by kernel_rfl
theorem P17_2 (E : List (Nat × Blk)) (D : Den) (W : DrawFn) (N : Nat) (cc1 : XC) (v0b : Nat) (v0o : Nat) (v1 : Int) (v5 : Int) (v6b : Nat) (v6o : Nat) (v8 : Int) (σ : H) :
  denC E D W N (C17_2 ) ⟨[(0, (V.ptr v0b v0o)), (1, (V.int .i64 v1)), (5, (V.int .i64 v5)), (6, (V.ptr v6b v6o)), (8, (V.int .i64 v8))], [], [], σ⟩ (fun s' => denC E D W N (.keep [(0, .ptr), (1, (.int .i64)), (5, (.int .i64)), (6, .ptr)] [] [] cc1) s' (Fin17 E) (fun _ _ => none) (Fin17 E)) (fun _ _ => none) (Fin17 E) =
  T17_2 E D W (fun v0b v0o v1 v5 v6b v6o σ => denC E D W N cc1 ⟨[(0, (V.ptr v0b v0o)), (1, (V.int .i64 v1)), (5, (V.int .i64 v5)), (6, (V.ptr v6b v6o))], [], [], σ⟩ (Fin17 E) (fun _ _ => none) (Fin17 E)) v0b v0o v1 v5 v6b v6o v8 σ := by kernel_rfl
def J17_1 (E : List (Nat × Blk)) (D : Den) (W : DrawFn) (N : Nat) : Nat → Nat → Int → Int → Nat → Nat → H → Ans := T17_1 E D W 
theorem JE17_1 (E : List (Nat × Blk)) (D : Den) (W : DrawFn) (N : Nat) (v0b : Nat) (v0o : Nat) (v1 : Int) (v5 : Int) (v6b : Nat) (v6o : Nat) (σ : H) :
  denC E D W N C17_1 ⟨[(0, (V.ptr v0b v0o)), (1, (V.int .i64 v1)), (5, (V.int .i64 v5)), (6, (V.ptr v6b v6o))], [], [], σ⟩ (Fin17 E) (fun _ _ => none) (Fin17 E) = J17_1 E D W N v0b v0o v1 v5 v6b v6o σ := by
  refine (P17_1 E D W N   v0b v0o v1 v5 v6b v6o σ).trans ?_
  kernel_rfl
def J17_2 (E : List (Nat × Blk)) (D : Den) (W : DrawFn) (N : Nat) : Nat → Nat → Int → Int → Nat → Nat → Int → H → Ans := T17_2 E D W (J17_1 E D W N )
theorem JE17_2 (E : List (Nat × Blk)) (D : Den) (W : DrawFn) (N : Nat) (v0b : Nat) (v0o : Nat) (v1 : Int) (v5 : Int) (v6b : Nat) (v6o : Nat) (v8 : Int) (σ : H) :
  denC E D W N C17_2 ⟨[(0, (V.ptr v0b v0o)), (1, (V.int .i64 v1)), (5, (V.int .i64 v5)), (6, (V.ptr v6b v6o)), (8, (V.int .i64 v8))], [], [], σ⟩ (fun s' => denC E D W N (.keep [(0, .ptr), (1, (.int .i64)), (5, (.int .i64)), (6, .ptr)] [] [] C17_1) s' (Fin17 E) (fun _ _ => none) (Fin17 E)) (fun _ _ => none) (Fin17 E) = J17_2 E D W N v0b v0o v1 v5 v6b v6o v8 σ := by
  refine (P17_2 E D W N C17_1  v0b v0o v1 v5 v6b v6o v8 σ).trans ?_
  simp only [JE17_1]
  kernel_rfl
def J17_0 (E : List (Nat × Blk)) (D : Den) (W : DrawFn) (N : Nat) : Nat → Nat → Int → H → Ans := T17_0 E D W (J17_1 E D W N ) (J17_2 E D W N )
theorem JE17_0 (E : List (Nat × Blk)) (D : Den) (W : DrawFn) (N : Nat) (v0b : Nat) (v0o : Nat) (v1 : Int) (σ : H) :
  denC E D W N (C17_0 C17_1 C17_2) ⟨[(0, (V.ptr v0b v0o)), (1, (V.int .i64 v1))], [], [], σ⟩ (Fin17 E) (fun _ _ => none) (Fin17 E) = J17_0 E D W N v0b v0o v1 σ := by
  refine (P17_0 E D W N C17_1 C17_2  v0b v0o v1 σ).trans ?_
  simp only [JE17_1, JE17_2]
  kernel_rfl
def F17 (E : List (Nat × Blk)) (D : Den) (W : DrawFn) (N : Nat) (args : List V) (σ : H) : Ans :=
 rtCons args fun x1 l2 =>
 rtPtr x1 fun b3 o4 =>
 rtCons l2 fun x5 l6 =>
 rtInt .i64 x5 fun x7 =>
 rtNil l6 (
 J17_0 E D W N b3 o4 x7 σ)
def A17 : XFn := ⟨108, [.ptr, (.int .i64)], [(.tmp 4)], (C17_0 C17_1 C17_2)⟩
theorem FE17 (E : List (Nat × Blk)) (D : Den) (W : DrawFn) (N : Nat) (args : List V) (σ : H) : runX E D W N A17 args σ = F17 E D W N args σ := by
  unfold F17
  simp only [← JE17_0]
  kernel_rfl
theorem AO17 : A17.body.ok = true := by kernel_rfl

/-! ### F18: ogham_print.tagging -/
def Fin18 (E : List (Nat × Blk)) : St → Ans := fun s => resK E s [(.tmp 2)] fun l => some (oneV l, s.σ)
def C18_0 : XC := (.seq (.ops (.op (some 2) .any [] (.mov (.con (V.str ⟨0, 0⟩))) <|
 .nil))
 (.seq (.seq (.ops (.op (some 3) .any [0] (.mov (.tmp 0)) <|
 .nil))
 (.block 0 (.seq (.ops (.op (some 5) .any [3] (.bin .eql .none (.tmp 3) (.con (V.int .i64 (Int.ofNat 0)))) <|
 .op (some 4) .any [5] (.mov (.tmp 5)) <|
 .nil))
 (.cond (.tmp 4) (.seq (.ops (.op (some 2) .any [] (.mov (.con (V.str ⟨14, 655635097218688137868315485820997⟩))) <|
 .nil))
 .ret)
 (.seq (.ops (.op (some 7) .any [3] (.bin .eql .none (.tmp 3) (.con (V.int .i64 (Int.ofNat 1)))) <|
 .op (some 6) .any [7] (.mov (.tmp 7)) <|
 .nil))
 (.cond (.tmp 6) (.seq (.ops (.op (some 2) .any [] (.mov (.con (V.str ⟨14, 655635097218688137868315485818185⟩))) <|
 .nil))
 .ret)
 (.seq (.ops (.op (some 9) .any [3] (.bin .eql .none (.tmp 3) (.con (V.int .i64 (Int.ofNat 2)))) <|
 .op (some 8) .any [9] (.mov (.tmp 9)) <|
 .nil))
 (.cond (.tmp 8) (.seq (.ops (.op (some 2) .any [] (.mov (.con (V.str ⟨15, 167842584887983849704415794096788801⟩))) <|
 .nil))
 .ret)
 .skip))))))))
 (.seq (.ops (.op (some 2) .any [] (.mov (.con (V.str ⟨0, 0⟩))) <|
 .nil))
 .ret)))
def T18_0 (E : List (Nat × Blk)) (D : Den) (W : DrawFn) (v0 : Int) (σ : H) : Ans :=
 condK (eqF v0 (Int.ofNat 0)) (
 some ((V.str (BS.mk 14 655635097218688137868315485820997)), σ)) (
 condK (eqF v0 (Int.ofNat 1)) (
 some ((V.str (BS.mk 14 655635097218688137868315485818185)), σ)) (
 condK (eqF v0 (Int.ofNat 2)) (
 some ((V.str (BS.mk 15 167842584887983849704415794096788801)), σ)) (
 some ((V.str (BS.mk 0 0)), σ))))
theorem P18_0 (E : List (Nat × Blk)) (D : Den) (W : DrawFn) (N : Nat) (v0 : Int) (σ : H) :
  denC E D W N (C18_0 ) ⟨[(0, (V.int .i64 v0))], [], [], σ⟩ (Fin18 E) (fun _ _ => none) (Fin18 E) =
  T18_0 E D W  v0 σ := by kernel_rfl
def J18_0 (E : List (Nat × Blk)) (D : Den) (W : DrawFn) (N : Nat) : Int → H → Ans := T18_0 E D W 
theorem JE18_0 (E : List (Nat × Blk)) (D : Den) (W : DrawFn) (N : Nat) (v0 : Int) (σ : H) :
  denC E D W N C18_0 ⟨[(0, (V.int .i64 v0))], [], [], σ⟩ (Fin18 E) (fun _ _ => none) (Fin18 E) = J18_0 E D W N v0 σ := by
  refine (P18_0 E D W N   v0 σ).trans ?_
  kernel_rfl
def F18 (E : List (Nat × Blk)) (D : Den) (W : DrawFn) (N : Nat) (args : List V) (σ : H) : Ans :=
 rtCons args fun x1 l2 =>
 rtInt .i64 x1 fun x3 =>
 rtNil l2 (
 J18_0 E D W N x3 σ)
def A18 : XFn := ⟨10, [(.int .i64)], [(.tmp 2)], C18_0⟩
theorem FE18 (E : List (Nat × Blk)) (D : Den) (W : DrawFn) (N : Nat) (args : List V) (σ : H) : runX E D W N A18 args σ = F18 E D W N args σ := by
  unfold F18
  simp only [← JE18_0]
  kernel_rfl
theorem AO18 : A18.body.ok = true := by kernel_rfl

/-! ### F19: __ogham_print.writer_.put -/
def Fin19 (E : List (Nat × Blk)) : St → Ans := fun s => resK E s [] fun l => some (oneV l, s.σ)
def C19_0 (cc1 : XC) (cc2 : XC) : XC := (.seq (.seq (.ops (.op (some 6) .any [1] (.mov (.tmp 1)) <|
 .op (some 7) .any [6] (.len false (.tmp 6)) <|
 .op (some 8) .any [] (.mov (.con (V.int .i64 (Int.ofNat 0)))) <|
 .nil))
 (.block 0 (.loop [(0, .ptr), (6, .any), (7, (.int .i64)), (8, (.int .i64))] [] [] cc2)))
 (.keep [(0, .ptr)] [] [] cc1))
def T19_0 (E : List (Nat × Blk)) (D : Den) (W : DrawFn) (K2 : Nat → Nat → V → Int → Int → H → Ans) (v0b : Nat) (v0o : Nat) (v1 : V) (σ : H) : Ans :=
 slenK v1 fun n1 =>
 K2 v0b v0o v1 (Int.ofNat n1) (Int.ofNat 0) σ
def C19_1 : XC := (.ops (.op (some 22) .any [0] (.mov (.tmp 0)) <|
 .op (some 23) .any [0] (.mov (.tmp 0)) <|
 .op (some 24) .any [23] (.nilck (.tmp 23)) <|
 .op (some 25) .any [24] (.faddr 1 (.tmp 24)) <|
 .op (some 26) .bool [25] (.load none (.tmp 25)) <|
 .op (some 27) .any [26] (.mov (.tmp 26)) <|
 .grp 27 false (.op (some 28) .any [0, 27] (.mov (.tmp 0)) <|
 .op (some 29) .any [28, 27] (.nilck (.tmp 28)) <|
 .op (some 30) .any [29, 27] (.faddr 0 (.tmp 29)) <|
 .op (some 31) .any [30, 27] (.load none (.tmp 30)) <|
 .op (some 32) .any [31, 27] (.len false (.tmp 31)) <|
 .op (some 33) .any [32, 27] (.bin .gtr .none (.tmp 32) (.con (V.int .i64 (Int.ofNat 32000)))) <|
 .nil) 34 [27, 33] (.tmp 27) (.con (V.bool true)) (.tmp 33) <|
 .op (some 35) .any [22] (.nilck (.tmp 22)) <|
 .op (some 36) .any [35] (.faddr 1 (.tmp 35)) <|
 .op none .any [36, 34] (.store 1 (.tmp 36) (.tmp 34)) <|
 .nil))
def T19_1 (E : List (Nat × Blk)) (D : Den) (W : DrawFn) (v0b : Nat) (v0o : Nat) (σ : H) : Ans :=
 ldK E σ v0b (Nat.add v0o 1) fun u1 =>
 rtBool u1 fun x2 =>
 joinB (fun c3 s4 =>
 stK 1 v0b (Nat.add v0o 1) (V.bool c3) s4 fun s6 =>
 some ((V.tup []), s6)) fun k5 =>
 condK x2 (
 k5 true σ) (
 ldK E σ v0b v0o fun u7 =>
 slenK u7 fun n8 =>
 k5 (ltF (Int.ofNat 32000) (Int.ofNat n8)) σ)
def C19_2 : XC := (.seq (.ops (.op (some 9) .any [8, 7] (.bin .lss .none (.tmp 8) (.tmp 7)) <|
 .nil))
 (.seq (.cond (.tmp 9) .skip
 (.exit 0))
 (.seq (.block 1 (.seq (.ops (.op (some 10) .any [6, 8] (.iaddrS 1 (.tmp 6) (.tmp 8)) <|
 .op (some 11) .str [10] (.load none (.tmp 10)) <|
 .op (some 5) .any [11] (.mov (.tmp 11)) <|
 .nil))
 (.ops (.op (some 12) .any [0] (.mov (.tmp 0)) <|
 .op (some 13) .any [0] (.mov (.tmp 0)) <|
 .op (some 14) .any [13] (.nilck (.tmp 13)) <|
 .op (some 15) .any [14] (.faddr 0 (.tmp 14)) <|
 .op (some 16) .any [15] (.load none (.tmp 15)) <|
 .op (some 17) .any [5] (.mov (.tmp 5)) <|
 .op (some 18) .one [16, 17] (.append 5 1 1 (.tmp 16) (.tmp 17)) <|
 .op (some 19) .any [12] (.nilck (.tmp 12)) <|
 .op (some 20) .any [19] (.faddr 0 (.tmp 19)) <|
 .op none .any [20, 18] (.store 1 (.tmp 20) (.tmp 18)) <|
 .nil))))
 (.ops (.op (some 21) .any [8] (.bin .add .none (.tmp 8) (.con (V.int .i64 (Int.ofNat 1)))) <|
 .op (some 8) .any [21] (.mov (.tmp 21)) <|
 .nil)))))
def T19_2 (E : List (Nat × Blk)) (D : Den) (W : DrawFn) (K1 : Nat → Nat → H → Ans) (R2 : Nat → Nat → V → Int → Int → H → Ans) (v0b : Nat) (v0o : Nat) (v6 : V) (v7 : Int) (v8 : Int) (σ : H) : Ans :=
 condK (ltF v8 v7) (
 iaddrSK 1 v6 v8 fun b1 o2 =>
 ldK E σ b1 o2 fun u3 =>
 rtStr u3 fun x4 =>
 ldK E σ v0b v0o fun u5 =>
 appK E 1 1 u5 (V.str x4) σ fun u6 s7 =>
 rtOne u6 (
 stK 1 v0b v0o u6 s7 fun s8 =>
 R2 v0b v0o v6 v7 (addF .i64 v8 (Int.ofNat 1)) s8)) (
 K1 v0b v0o σ)
theorem P19_0 (E : List (Nat × Blk)) (D : Den) (W : DrawFn) (N : Nat) (cc1 : XC) (cc2 : XC) (v0b : Nat) (v0o : Nat) (v1 : V) (σ : H) :
  denC E D W N (C19_0 cc1 cc2) ⟨[(0, (V.ptr v0b v0o)), (1, v1)], [], [], σ⟩ (Fin19 E) (fun _ _ => none) (Fin19 E) =
  T19_0 E D W (fun v0b v0o v6 v7 v8 σ => iterK (fun rec s' => denC E D W N cc2 s' (fun s'' => keepS [(0, .ptr), (6, .any), (7, (.int .i64)), (8, (.int .i64))] [] [] s'' rec) (blkK 0 (fun s' => denC E D W N (.keep [(0, .ptr)] [] [] cc1) s' (Fin19 E) (fun _ _ => none) (Fin19 E)) (fun _ _ => none)) (Fin19 E)) N ⟨[(0, (V.ptr v0b v0o)), (6, v6), (7, (V.int .i64 v7)), (8, (V.int .i64 v8))], [], [], σ⟩) v0b v0o v1 σ := by kernel_rfl
theorem P19_1 (E : List (Nat × Blk)) (D : Den) (W : DrawFn) (N : Nat) (v0b : Nat) (v0o : Nat) (σ : H) :
  denC E D W N (C19_1 ) ⟨[(0, (V.ptr v0b v0o))], [], [], σ⟩ (Fin19 E) (fun _ _ => none) (Fin19 E) =
  T19_1 E D W  v0b v0o σ := by kernel_rfl
theorem P19_2 (E : List (Nat × Blk)) (D : Den) (W : DrawFn) (N : Nat) (cc1 : XC) (li2 : St → Ans) (v0b : Nat) (v0o : Nat) (v6 : V) (v7 : Int) (v8 : Int) (σ : H) :
  denC E D W N (C19_2 ) ⟨[(0, (V.ptr v0b v0o)), (6, v6), (7, (V.int .i64 v7)), (8, (V.int .i64 v8))], [], [], σ⟩ (fun s'' => keepS [(0, .ptr), (6, .any), (7, (.int .i64)), (8, (.int .i64))] [] [] s'' li2) (blkK 0 (fun s' => denC E D W N (.keep [(0, .ptr)] [] [] cc1) s' (Fin19 E) (fun _ _ => none) (Fin19 E)) (fun _ _ => none)) (Fin19 E) =
  T19_2 E D W (fun v0b v0o σ => denC E D W N cc1 ⟨[(0, (V.ptr v0b v0o))], [], [], σ⟩ (Fin19 E) (fun _ _ => none) (Fin19 E)) (fun v0b v0o v6 v7 v8 σ => li2 ⟨[(0, (V.ptr v0b v0o)), (6, v6), (7, (V.int .i64 v7)), (8, (V.int .i64 v8))], [], [], σ⟩) v0b v0o v6 v7 v8 σ := by kernel_rfl
def J19_1 (E : List (Nat × Blk)) (D : Den) (W : DrawFn) (N : Nat) : Nat → Nat → H → Ans := T19_1 E D W 
theorem JE19_1 (E : List (Nat × Blk)) (D : Den) (W : DrawFn) (N : Nat) (v0b : Nat) (v0o : Nat) (σ : H) :
  denC E D W N C19_1 ⟨[(0, (V.ptr v0b v0o))], [], [], σ⟩ (Fin19 E) (fun _ _ => none) (Fin19 E) = J19_1 E D W N v0b v0o σ := by
  refine (P19_1 E D W N   v0b v0o σ).trans ?_
  kernel_rfl
def L19_2 (E : List (Nat × Blk)) (D : Den) (W : DrawFn) (N : Nat) (n : Nat) : Nat → Nat → V → Int → Int → H → Ans :=
  Nat.rec (fun _ _ _ _ _ _ => none) (fun _ ih => T19_2 E D W (J19_1 E D W N ) ih) n
theorem LE19_2 (E : List (Nat × Blk)) (D : Den) (W : DrawFn) (N : Nat) (n : Nat) : ∀ (v0b : Nat) (v0o : Nat) (v6 : V) (v7 : Int) (v8 : Int) (σ : H),
  iterK (fun rec s' => denC E D W N C19_2 s' (fun s'' => keepS [(0, .ptr), (6, .any), (7, (.int .i64)), (8, (.int .i64))] [] [] s'' rec) (blkK 0 (fun s' => denC E D W N (.keep [(0, .ptr)] [] [] C19_1) s' (Fin19 E) (fun _ _ => none) (Fin19 E)) (fun _ _ => none)) (Fin19 E)) n ⟨[(0, (V.ptr v0b v0o)), (6, v6), (7, (V.int .i64 v7)), (8, (V.int .i64 v8))], [], [], σ⟩ = L19_2 E D W N n v0b v0o v6 v7 v8 σ := by
  induction n with
  | zero => intro v0b v0o v6 v7 v8 σ; rfl
  | succ n ihn =>
    intro v0b v0o v6 v7 v8 σ
    rw [iterK_succ]
    refine (P19_2 E D W N C19_1 (iterK (fun rec s' => denC E D W N C19_2 s' (fun s'' => keepS [(0, .ptr), (6, .any), (7, (.int .i64)), (8, (.int .i64))] [] [] s'' rec) (blkK 0 (fun s' => denC E D W N (.keep [(0, .ptr)] [] [] C19_1) s' (Fin19 E) (fun _ _ => none) (Fin19 E)) (fun _ _ => none)) (Fin19 E)) n) v0b v0o v6 v7 v8 σ).trans ?_
    simp only [ihn, JE19_1]
    kernel_rfl
def J19_0 (E : List (Nat × Blk)) (D : Den) (W : DrawFn) (N : Nat) : Nat → Nat → V → H → Ans := T19_0 E D W (L19_2 E D W N N)
theorem JE19_0 (E : List (Nat × Blk)) (D : Den) (W : DrawFn) (N : Nat) (v0b : Nat) (v0o : Nat) (v1 : V) (σ : H) :
  denC E D W N (C19_0 C19_1 C19_2) ⟨[(0, (V.ptr v0b v0o)), (1, v1)], [], [], σ⟩ (Fin19 E) (fun _ _ => none) (Fin19 E) = J19_0 E D W N v0b v0o v1 σ := by
  refine (P19_0 E D W N C19_1 C19_2  v0b v0o v1 σ).trans ?_
  simp only [LE19_2]
  kernel_rfl
def F19 (E : List (Nat × Blk)) (D : Den) (W : DrawFn) (N : Nat) (args : List V) (σ : H) : Ans :=
 rtCons args fun x1 l2 =>
 rtPtr x1 fun b3 o4 =>
 rtCons l2 fun x5 l6 =>
 rtNil l6 (
 J19_0 E D W N b3 o4 x5 σ)
def A19 : XFn := ⟨37, [.ptr, .any], [], (C19_0 C19_1 C19_2)⟩
theorem FE19 (E : List (Nat × Blk)) (D : Den) (W : DrawFn) (N : Nat) (args : List V) (σ : H) : runX E D W N A19 args σ = F19 E D W N args σ := by
  unfold F19
  simp only [← JE19_0]
  kernel_rfl
theorem AO19 : A19.body.ok = true := by kernel_rfl

/-! ### F20: __ogham_print.printer_.node -/
def G20_0 : List AOper := [⟨(some 142), .mov (.tmp 0), none⟩, ⟨(some 143), .nilck (.tmp 142), none⟩, ⟨(some 144), .faddr 0 (.tmp 143), none⟩, ⟨(some 145), .faddr 1 (.tmp 6), none⟩, ⟨(some 146), .load none (.tmp 145), none⟩, ⟨(some 147), .buildSlice 9 1 [(V.str ⟨0, 0⟩)] [(0, 1, (.tmp 146))], none⟩, ⟨(some 148), .call 19 [(.tmp 144), (.tmp 147)], none⟩]
def H20_0 : List DP := [⟨0, [0]⟩, ⟨1, [142]⟩, ⟨3, [143]⟩, ⟨0, [6]⟩, ⟨8, [145]⟩, ⟨24, [146]⟩, ⟨63, [144, 147]⟩]
def Fin20 (E : List (Nat × Blk)) : St → Ans := fun s => resK E s [] fun l => some (oneV l, s.σ)
def C20_0 : XC := (.seq (.seq (.ops (.op (some 7) .any [0] (.mov (.tmp 0)) <|
 .op (some 8) .any [7] (.nilck (.tmp 7)) <|
 .op (some 9) .any [8] (.faddr 0 (.tmp 8)) <|
 .op (some 10) .any [9] (.faddr 1 (.tmp 9)) <|
 .op (some 11) .bool [10] (.load none (.tmp 10)) <|
 .op (some 12) .any [11] (.mov (.tmp 11)) <|
 .grp 12 false (.op (some 13) .any [1, 12] (.mov (.tmp 1)) <|
 .op (some 14) .any [13, 12] (.bin .lss .none (.tmp 13) (.con (V.int .i64 (Int.ofNat 0)))) <|
 .nil) 15 [12, 14] (.tmp 12) (.con (V.bool true)) (.tmp 14) <|
 .op (some 16) .any [15] (.mov (.tmp 15)) <|
 .grp 16 false (.op (some 17) .any [1, 16] (.mov (.tmp 1)) <|
 .op (some 18) .any [0, 16] (.mov (.tmp 0)) <|
 .op (some 19) .any [18, 16] (.nilck (.tmp 18)) <|
 .op (some 20) .any [19, 16] (.faddr 2 (.tmp 19)) <|
 .op (some 21) .any [20, 16] (.faddr 4 (.tmp 20)) <|
 .op (some 22) .any [21, 16] (.load none (.tmp 21)) <|
 .op (some 23) .any [22, 16] (.len false (.tmp 22)) <|
 .op (some 24) .any [17, 23, 16] (.bin .geq .none (.tmp 17) (.tmp 23)) <|
 .nil) 25 [16, 24] (.tmp 16) (.con (V.bool true)) (.tmp 24) <|
 .nil))
 (.cond (.tmp 25) (.seq (.ops (.op (some 26) .any [0] (.mov (.tmp 0)) <|
 .op (some 27) .any [26] (.nilck (.tmp 26)) <|
 .op (some 28) .any [27] (.faddr 0 (.tmp 27)) <|
 .op (some 29) .any [28] (.faddr 1 (.tmp 28)) <|
 .op none .any [29] (.store 1 (.tmp 29) (.con (V.bool true))) <|
 .nil))
 .ret)
 .skip))
 (.seq (.ops (.op (some 30) .any [0] (.mov (.tmp 0)) <|
 .op (some 31) .any [30] (.nilck (.tmp 30)) <|
 .op (some 32) .any [31] (.faddr 2 (.tmp 31)) <|
 .op (some 33) .any [32] (.faddr 4 (.tmp 32)) <|
 .op (some 34) .any [33] (.load none (.tmp 33)) <|
 .op (some 35) .any [1] (.mov (.tmp 1)) <|
 .op (some 36) .any [34, 35] (.iaddrS 16 (.tmp 34) (.tmp 35)) <|
 .op (some 37) (.agg [(.int .i64), .str, .bool, (.int .i64), (.int .i64), .bool, .bool, .bool, .bool, (.int .i64), (.int .i64), .any, .any, (.int .i64), .bool, (.int .i64)]) [36] (.load (some 16) (.tmp 36)) <|
 .op (some 6) .any [] (.alloc 72 [(V.int .i64 (Int.ofNat 0)), (V.str ⟨0, 0⟩), (V.bool false), (V.int .i64 (Int.ofNat 0)), (V.int .i64 (Int.ofNat 0)), (V.bool false), (V.bool false), (V.bool false), (V.bool false), (V.int .i64 (Int.ofNat 0)), (V.int .i64 (Int.ofNat 0)), V.nils, V.nils, (V.int .i64 (Int.ofNat 0)), (V.bool false), (V.int .i64 (Int.ofNat 0))]) <|
 .op none (.agg [(.int .i64), .str, .bool, (.int .i64), (.int .i64), .bool, .bool, .bool, .bool, (.int .i64), (.int .i64), .any, .any, (.int .i64), .bool, (.int .i64)]) [6, 37] (.store 16 (.tmp 6) (.tmp 37)) <|
 .nil))
 (.seq (.ops (.op (some 38) .any [0] (.mov (.tmp 0)) <|
 .op (some 39) .any [6] (.faddr 2 (.tmp 6)) <|
 .op (some 40) (.agg [.bool, (.int .i64), (.int .i64)]) [39] (.load (some 3) (.tmp 39)) <|
 .op (some 41) (.tup []) [38, 40] (.call 32 [(.tmp 38), (.tmp 40)]) <|
 .nil))
 (.seq (.ops (.op (some 42) .any [6] (.faddr 0 (.tmp 6)) <|
 .op (some 43) (.int .i64) [42] (.load none (.tmp 42)) <|
 .nil))
 (.block 0 (.seq (.ops (.op (some 49) .any [43] (.bin .eql .none (.tmp 43) (.con (V.int .i64 (Int.ofNat 1)))) <|
 .op (some 48) .any [49] (.mov (.tmp 49)) <|
 .nil))
 (.cond (.tmp 48) (.ops (.op (some 50) .any [0] (.mov (.tmp 0)) <|
 .op (some 51) .any [50] (.nilck (.tmp 50)) <|
 .op (some 52) .any [51] (.faddr 0 (.tmp 51)) <|
 .op (some 53) .any [] (.buildSlice 9 1 [(V.str ⟨0, 0⟩)] [(0, 1, (.con (V.str ⟨7, 22026814072246082⟩)))]) <|
 .op (some 54) (.tup []) [52, 53] (.call 19 [(.tmp 52), (.tmp 53)]) <|
 .nil))
 (.seq (.ops (.op (some 56) .any [43] (.bin .eql .none (.tmp 43) (.con (V.int .i64 (Int.ofNat 4)))) <|
 .op (some 55) .any [56] (.mov (.tmp 56)) <|
 .nil))
 (.cond (.tmp 55) (.ops (.op (some 57) .any [0] (.mov (.tmp 0)) <|
 .op (some 58) .any [57] (.nilck (.tmp 57)) <|
 .op (some 59) .any [58] (.faddr 0 (.tmp 58)) <|
 .op (some 60) .any [] (.buildSlice 9 1 [(V.str ⟨0, 0⟩)] [(0, 1, (.con (V.str ⟨4, 1280070990⟩)))]) <|
 .op (some 61) (.tup []) [59, 60] (.call 19 [(.tmp 59), (.tmp 60)]) <|
 .nil))
 (.seq (.ops (.op (some 63) .any [43] (.bin .eql .none (.tmp 43) (.con (V.int .i64 (Int.ofNat 2)))) <|
 .op (some 62) .any [63] (.mov (.tmp 63)) <|
 .nil))
 (.cond (.tmp 62) (.seq (.ops (.op (some 64) .any [0] (.mov (.tmp 0)) <|
 .op (some 65) .any [64] (.nilck (.tmp 64)) <|
 .op (some 66) .any [65] (.faddr 0 (.tmp 65)) <|
 .op (some 67) .any [] (.buildSlice 9 1 [(V.str ⟨0, 0⟩)] [(0, 1, (.con (V.str ⟨7, 23157120498421321⟩)))]) <|
 .op (some 68) (.tup []) [66, 67] (.call 19 [(.tmp 66), (.tmp 67)]) <|
 .nil))
 (.ops (.op (some 69) .any [0] (.mov (.tmp 0)) <|
 .op (some 70) .any [6] (.faddr 5 (.tmp 6)) <|
 .op (some 71) (.agg [.bool, .bool, .bool, .bool, (.int .i64), (.int .i64)]) [70] (.load (some 6) (.tmp 70)) <|
 .op (some 72) (.tup []) [69, 71] (.call 33 [(.tmp 69), (.tmp 71), (.con (V.str ⟨2, 10272⟩)), (.con (V.str ⟨1, 41⟩))]) <|
 .nil)))
 (.seq (.ops (.op (some 74) .any [43] (.bin .eql .none (.tmp 43) (.con (V.int .i64 (Int.ofNat 5)))) <|
 .op (some 73) .any [74] (.mov (.tmp 74)) <|
 .nil))
 (.cond (.tmp 73) (.seq (.ops (.op (some 75) .any [0] (.mov (.tmp 0)) <|
 .op (some 76) .any [75] (.nilck (.tmp 75)) <|
 .op (some 77) .any [76] (.faddr 0 (.tmp 76)) <|
 .op (some 78) .any [] (.buildSlice 9 1 [(V.str ⟨0, 0⟩)] [(0, 1, (.con (V.str ⟨12, 22068078162707940351935791951⟩)))]) <|
 .op (some 79) (.tup []) [77, 78] (.call 19 [(.tmp 77), (.tmp 78)]) <|
 .nil))
 (.ops (.op (some 80) .any [0] (.mov (.tmp 0)) <|
 .op (some 81) .any [6] (.faddr 5 (.tmp 6)) <|
 .op (some 82) (.agg [.bool, .bool, .bool, .bool, (.int .i64), (.int .i64)]) [81] (.load (some 6) (.tmp 81)) <|
 .op (some 83) (.tup []) [80, 82] (.call 33 [(.tmp 80), (.tmp 82), (.con (V.str ⟨8, 2891387214851418144⟩)), (.con (V.str ⟨2, 10537⟩))]) <|
 .nil)))
 (.seq (.ops (.op (some 85) .any [43] (.bin .eql .none (.tmp 43) (.con (V.int .i64 (Int.ofNat 6)))) <|
 .op (some 84) .any [85] (.mov (.tmp 85)) <|
 .nil))
 (.cond (.tmp 84) (.seq (.ops (.op (some 86) .any [0] (.mov (.tmp 0)) <|
 .op (some 87) .any [86] (.nilck (.tmp 86)) <|
 .op (some 88) .any [87] (.faddr 0 (.tmp 87)) <|
 .op (some 89) .any [] (.buildSlice 9 1 [(V.str ⟨0, 0⟩)] [(0, 1, (.con (V.str ⟨10, 488440487847103610377301⟩)))]) <|
 .op (some 90) (.tup []) [88, 89] (.call 19 [(.tmp 88), (.tmp 89)]) <|
 .nil))
 (.ops (.op (some 91) .any [0] (.mov (.tmp 0)) <|
 .op (some 92) .any [6] (.faddr 5 (.tmp 6)) <|
 .op (some 93) (.agg [.bool, .bool, .bool, .bool, (.int .i64), (.int .i64)]) [92] (.load (some 6) (.tmp 92)) <|
 .op (some 94) (.tup []) [91, 93] (.call 33 [(.tmp 91), (.tmp 93), (.con (V.str ⟨8, 2891387214851418144⟩)), (.con (V.str ⟨2, 10537⟩))]) <|
 .nil)))
 (.seq (.ops (.op (some 96) .any [43] (.bin .eql .none (.tmp 43) (.con (V.int .i64 (Int.ofNat 3)))) <|
 .op (some 95) .any [96] (.mov (.tmp 96)) <|
 .nil))
 (.cond (.tmp 95) (.ops (.op (some 97) .any [0] (.mov (.tmp 0)) <|
 .op (some 98) (.agg [(.int .i64), .str, .bool, (.int .i64), (.int .i64), .bool, .bool, .bool, .bool, (.int .i64), (.int .i64), .any, .any, (.int .i64), .bool, (.int .i64)]) [6] (.load (some 16) (.tmp 6)) <|
 .op (some 99) (.tup []) [97, 98] (.call 34 [(.tmp 97), (.tmp 98)]) <|
 .nil))
 (.seq (.ops (.op (some 101) .any [43] (.bin .eql .none (.tmp 43) (.con (V.int .i64 (Int.ofNat 7)))) <|
 .op (some 100) .any [101] (.mov (.tmp 101)) <|
 .nil))
 (.cond (.tmp 100) (.ops (.op (some 102) .any [0] (.mov (.tmp 0)) <|
 .op (some 103) (.agg [(.int .i64), .str, .bool, (.int .i64), (.int .i64), .bool, .bool, .bool, .bool, (.int .i64), (.int .i64), .any, .any, (.int .i64), .bool, (.int .i64)]) [6] (.load (some 16) (.tmp 6)) <|
 .op (some 104) .any [2] (.mov (.tmp 2)) <|
 .op (some 105) (.tup []) [102, 103, 104] (.call 35 [(.tmp 102), (.con (V.str ⟨8, 4990918871747741011⟩)), (.tmp 103), (.tmp 104)]) <|
 .nil))
 (.seq (.ops (.op (some 107) .any [43] (.bin .eql .none (.tmp 43) (.con (V.int .i64 (Int.ofNat 8)))) <|
 .op (some 106) .any [107] (.mov (.tmp 107)) <|
 .nil))
 (.cond (.tmp 106) (.ops (.op (some 108) .any [0] (.mov (.tmp 0)) <|
 .op (some 109) (.agg [(.int .i64), .str, .bool, (.int .i64), (.int .i64), .bool, .bool, .bool, .bool, (.int .i64), (.int .i64), .any, .any, (.int .i64), .bool, (.int .i64)]) [6] (.load (some 16) (.tmp 6)) <|
 .op (some 110) .any [2] (.mov (.tmp 2)) <|
 .op (some 111) (.tup []) [108, 109, 110] (.call 35 [(.tmp 108), (.con (V.str ⟨3, 5522771⟩)), (.tmp 109), (.tmp 110)]) <|
 .nil))
 (.seq (.ops (.op (some 113) .any [43] (.bin .eql .none (.tmp 43) (.con (V.int .i64 (Int.ofNat 9)))) <|
 .op (some 112) .any [113] (.mov (.tmp 113)) <|
 .nil))
 (.cond (.tmp 112) (.ops (.op (some 114) .any [0] (.mov (.tmp 0)) <|
 .op (some 115) (.agg [(.int .i64), .str, .bool, (.int .i64), (.int .i64), .bool, .bool, .bool, .bool, (.int .i64), (.int .i64), .any, .any, (.int .i64), .bool, (.int .i64)]) [6] (.load (some 16) (.tmp 6)) <|
 .op (some 116) .any [2] (.mov (.tmp 2)) <|
 .op (some 117) (.tup []) [114, 115, 116] (.call 35 [(.tmp 114), (.con (V.str ⟨6, 76155295057987⟩)), (.tmp 115), (.tmp 116)]) <|
 .nil))
 (.seq (.ops (.op (some 119) .any [43] (.bin .eql .none (.tmp 43) (.con (V.int .i64 (Int.ofNat 10)))) <|
 .op (some 118) .any [119] (.mov (.tmp 119)) <|
 .nil))
 (.cond (.tmp 118) (.seq (.ops (.op (some 120) .any [0] (.mov (.tmp 0)) <|
 .op (some 121) .any [120] (.nilck (.tmp 120)) <|
 .op (some 122) .any [121] (.faddr 0 (.tmp 121)) <|
 .op (some 123) .any [] (.buildSlice 9 1 [(V.str ⟨0, 0⟩)] [(0, 1, (.con (V.str ⟨9, 595286729230453392723⟩)))]) <|
 .op (some 124) (.tup []) [122, 123] (.call 19 [(.tmp 122), (.tmp 123)]) <|
 .nil))
 (.seq (.ops (.op (some 125) .any [0] (.mov (.tmp 0)) <|
 .op (some 126) .any [6] (.faddr 5 (.tmp 6)) <|
 .op (some 127) (.agg [.bool, .bool, .bool, .bool, (.int .i64), (.int .i64)]) [126] (.load (some 6) (.tmp 126)) <|
 .op (some 128) (.tup []) [125, 127] (.call 33 [(.tmp 125), (.tmp 127), (.con (V.str ⟨7, 11294481308013352⟩)), (.con (V.str ⟨3, 2107689⟩))]) <|
 .nil))
 (.seq (.ops (.op (some 129) .any [0] (.mov (.tmp 0)) <|
 .op (some 130) .any [129] (.nilck (.tmp 129)) <|
 .op (some 131) .any [130] (.faddr 0 (.tmp 130)) <|
 .op (some 132) .any [] (.buildSlice 9 1 [(V.str ⟨0, 0⟩)] [(0, 1, (.con (V.str ⟨3, 2115151⟩)))]) <|
 .op (some 133) (.tup []) [131, 132] (.call 19 [(.tmp 131), (.tmp 132)]) <|
 .nil))
 (.ops (.op (some 134) .any [0] (.mov (.tmp 0)) <|
 .op (some 135) .any [6] (.faddr 15 (.tmp 6)) <|
 .op (some 136) (.int .i64) [135] (.load none (.tmp 135)) <|
 .op (some 137) .any [2] (.mov (.tmp 2)) <|
 .op (some 138) .any [137] (.bin .add .none (.tmp 137) (.con (V.int .i64 (Int.ofNat 1)))) <|
 .op (some 139) (.tup []) [134, 136, 138] (.call 20 [(.tmp 134), (.tmp 136), (.tmp 138)]) <|
 .nil)))))
 (.seq (.ops (.op (some 141) .any [43] (.bin .eql .none (.tmp 43) (.con (V.int .i64 (Int.ofNat 11)))) <|
 .op (some 140) .any [141] (.mov (.tmp 141)) <|
 .nil))
 (.cond (.tmp 140) (.keep [(0, .ptr), (6, .ptr)] [] [] (.gdraw G20_0 H20_0 []))
 (.ops (.op (some 44) .any [0] (.mov (.tmp 0)) <|
 .op (some 45) .any [44] (.nilck (.tmp 44)) <|
 .op (some 46) .any [45] (.faddr 0 (.tmp 45)) <|
 .op (some 47) .any [46] (.faddr 1 (.tmp 46)) <|
 .op none .any [47] (.store 1 (.tmp 47) (.con (V.bool true))) <|
 .nil)))))))))))))))))))))))))))))
def T20_0 (E : List (Nat × Blk)) (D : Den) (W : DrawFn) (v0b : Nat) (v0o : Nat) (v1 : Int) (v2 : Int) (σ : H) : Ans :=
 ldK E σ v0b (Nat.add v0o 1) fun u1 =>
 rtBool u1 fun x2 =>
 joinB (fun c3 s4 =>
 joinB (fun c6 s7 =>
 condK c6 (
 stK 1 v0b (Nat.add v0o 1) (V.bool true) s7 fun s9 =>
 some ((V.tup []), s9)) (
 ldK E s7 v0b (Nat.add (Nat.add v0o 2) 4) fun u10 =>
 iaddrSK 16 u10 v1 fun b11 o12 =>
 ldnK E s7 b11 o12 16 fun l13 =>
 rtCons l13 fun x14 l15 =>
 rtInt .i64 x14 fun x16 =>
 rtCons l15 fun x17 l18 =>
 rtStr x17 fun x19 =>
 rtCons l18 fun x20 l21 =>
 rtBool x20 fun x22 =>
 rtCons l21 fun x23 l24 =>
 rtInt .i64 x23 fun x25 =>
 rtCons l24 fun x26 l27 =>
 rtInt .i64 x26 fun x28 =>
 rtCons l27 fun x29 l30 =>
 rtBool x29 fun x31 =>
 rtCons l30 fun x32 l33 =>
 rtBool x32 fun x34 =>
 rtCons l33 fun x35 l36 =>
 rtBool x35 fun x37 =>
 rtCons l36 fun x38 l39 =>
 rtBool x38 fun x40 =>
 rtCons l39 fun x41 l42 =>
 rtInt .i64 x41 fun x43 =>
 rtCons l42 fun x44 l45 =>
 rtInt .i64 x44 fun x46 =>
 rtCons l45 fun x47 l48 =>
 rtCons l48 fun x49 l50 =>
 rtCons l50 fun x51 l52 =>
 rtInt .i64 x51 fun x53 =>
 rtCons l52 fun x54 l55 =>
 rtBool x54 fun x56 =>
 rtCons l55 fun x57 l58 =>
 rtInt .i64 x57 fun x59 =>
 rtNil l58 (
 let s60 := newB s7 (.cells [(V.int .i64 (Int.ofNat 0)), (V.str ⟨0, 0⟩), (V.bool false), (V.int .i64 (Int.ofNat 0)), (V.int .i64 (Int.ofNat 0)), (V.bool false), (V.bool false), (V.bool false), (V.bool false), (V.int .i64 (Int.ofNat 0)), (V.int .i64 (Int.ofNat 0)), V.nils, V.nils, (V.int .i64 (Int.ofNat 0)), (V.bool false), (V.int .i64 (Int.ofNat 0))]);
 stK 16 (H.next s7) 0 (V.agg [(V.int .i64 x16), (V.str x19), (V.bool x22), (V.int .i64 x25), (V.int .i64 x28), (V.bool x31), (V.bool x34), (V.bool x37), (V.bool x40), (V.int .i64 x43), (V.int .i64 x46), x47, x49, (V.int .i64 x53), (V.bool x56), (V.int .i64 x59)]) s60 fun s61 =>
 ldnK E s61 (H.next s7) 2 3 fun l62 =>
 rtCons l62 fun x63 l64 =>
 rtBool x63 fun x65 =>
 rtCons l64 fun x66 l67 =>
 rtInt .i64 x66 fun x68 =>
 rtCons l67 fun x69 l70 =>
 rtInt .i64 x69 fun x71 =>
 rtNil l70 (
 callK (D 32 [(V.ptr v0b v0o), (V.agg [(V.bool x65), (V.int .i64 x68), (V.int .i64 x71)])] s61) fun u72 s73 =>
 rtTup u72 fun l74 =>
 rtNil l74 (
 ldK E s73 (H.next s7) 0 fun u75 =>
 rtInt .i64 u75 fun x76 =>
 condK (eqF x76 (Int.ofNat 1)) (
 let s77 := newB s73 (.cells [(V.str (BS.mk 7 22026814072246082))]);
 callK (D 19 [(V.ptr v0b v0o), (V.sl (H.next s73) 0 1 (.ex 1))] s77) fun u78 s79 =>
 rtTup u78 fun l80 =>
 rtNil l80 (
 some ((V.tup []), s79))) (
 condK (eqF x76 (Int.ofNat 4)) (
 let s81 := newB s73 (.cells [(V.str (BS.mk 4 1280070990))]);
 callK (D 19 [(V.ptr v0b v0o), (V.sl (H.next s73) 0 1 (.ex 1))] s81) fun u82 s83 =>
 rtTup u82 fun l84 =>
 rtNil l84 (
 some ((V.tup []), s83))) (
 condK (eqF x76 (Int.ofNat 2)) (
 let s85 := newB s73 (.cells [(V.str (BS.mk 7 23157120498421321))]);
 callK (D 19 [(V.ptr v0b v0o), (V.sl (H.next s73) 0 1 (.ex 1))] s85) fun u86 s87 =>
 rtTup u86 fun l88 =>
 rtNil l88 (
 ldnK E s87 (H.next s7) 5 6 fun l89 =>
 rtCons l89 fun x90 l91 =>
 rtBool x90 fun x92 =>
 rtCons l91 fun x93 l94 =>
 rtBool x93 fun x95 =>
 rtCons l94 fun x96 l97 =>
 rtBool x96 fun x98 =>
 rtCons l97 fun x99 l100 =>
 rtBool x99 fun x101 =>
 rtCons l100 fun x102 l103 =>
 rtInt .i64 x102 fun x104 =>
 rtCons l103 fun x105 l106 =>
 rtInt .i64 x105 fun x107 =>
 rtNil l106 (
 callK (D 33 [(V.ptr v0b v0o), (V.agg [(V.bool x92), (V.bool x95), (V.bool x98), (V.bool x101), (V.int .i64 x104), (V.int .i64 x107)]), (V.str (BS.mk 2 10272)), (V.str (BS.mk 1 41))] s87) fun u108 s109 =>
 rtTup u108 fun l110 =>
 rtNil l110 (
 some ((V.tup []), s109))))) (
 condK (eqF x76 (Int.ofNat 5)) (
 let s111 := newB s73 (.cells [(V.str (BS.mk 12 22068078162707940351935791951))]);
 callK (D 19 [(V.ptr v0b v0o), (V.sl (H.next s73) 0 1 (.ex 1))] s111) fun u112 s113 =>
 rtTup u112 fun l114 =>
 rtNil l114 (
 ldnK E s113 (H.next s7) 5 6 fun l115 =>
 rtCons l115 fun x116 l117 =>
 rtBool x116 fun x118 =>
 rtCons l117 fun x119 l120 =>
 rtBool x119 fun x121 =>
 rtCons l120 fun x122 l123 =>
 rtBool x122 fun x124 =>
 rtCons l123 fun x125 l126 =>
 rtBool x125 fun x127 =>
 rtCons l126 fun x128 l129 =>
 rtInt .i64 x128 fun x130 =>
 rtCons l129 fun x131 l132 =>
 rtInt .i64 x131 fun x133 =>
 rtNil l132 (
 callK (D 33 [(V.ptr v0b v0o), (V.agg [(V.bool x118), (V.bool x121), (V.bool x124), (V.bool x127), (V.int .i64 x130), (V.int .i64 x133)]), (V.str (BS.mk 8 2891387214851418144)), (V.str (BS.mk 2 10537))] s113) fun u134 s135 =>
 rtTup u134 fun l136 =>
 rtNil l136 (
 some ((V.tup []), s135))))) (
 condK (eqF x76 (Int.ofNat 6)) (
 let s137 := newB s73 (.cells [(V.str (BS.mk 10 488440487847103610377301))]);
 callK (D 19 [(V.ptr v0b v0o), (V.sl (H.next s73) 0 1 (.ex 1))] s137) fun u138 s139 =>
 rtTup u138 fun l140 =>
 rtNil l140 (
 ldnK E s139 (H.next s7) 5 6 fun l141 =>
 rtCons l141 fun x142 l143 =>
 rtBool x142 fun x144 =>
 rtCons l143 fun x145 l146 =>
 rtBool x145 fun x147 =>
 rtCons l146 fun x148 l149 =>
 rtBool x148 fun x150 =>
 rtCons l149 fun x151 l152 =>
 rtBool x151 fun x153 =>
 rtCons l152 fun x154 l155 =>
 rtInt .i64 x154 fun x156 =>
 rtCons l155 fun x157 l158 =>
 rtInt .i64 x157 fun x159 =>
 rtNil l158 (
 callK (D 33 [(V.ptr v0b v0o), (V.agg [(V.bool x144), (V.bool x147), (V.bool x150), (V.bool x153), (V.int .i64 x156), (V.int .i64 x159)]), (V.str (BS.mk 8 2891387214851418144)), (V.str (BS.mk 2 10537))] s139) fun u160 s161 =>
 rtTup u160 fun l162 =>
 rtNil l162 (
 some ((V.tup []), s161))))) (
 condK (eqF x76 (Int.ofNat 3)) (
 ldnK E s73 (H.next s7) 0 16 fun l163 =>
 rtCons l163 fun x164 l165 =>
 rtInt .i64 x164 fun x166 =>
 rtCons l165 fun x167 l168 =>
 rtStr x167 fun x169 =>
 rtCons l168 fun x170 l171 =>
 rtBool x170 fun x172 =>
 rtCons l171 fun x173 l174 =>
 rtInt .i64 x173 fun x175 =>
 rtCons l174 fun x176 l177 =>
 rtInt .i64 x176 fun x178 =>
 rtCons l177 fun x179 l180 =>
 rtBool x179 fun x181 =>
 rtCons l180 fun x182 l183 =>
 rtBool x182 fun x184 =>
 rtCons l183 fun x185 l186 =>
 rtBool x185 fun x187 =>
 rtCons l186 fun x188 l189 =>
 rtBool x188 fun x190 =>
 rtCons l189 fun x191 l192 =>
 rtInt .i64 x191 fun x193 =>
 rtCons l192 fun x194 l195 =>
 rtInt .i64 x194 fun x196 =>
 rtCons l195 fun x197 l198 =>
 rtCons l198 fun x199 l200 =>
 rtCons l200 fun x201 l202 =>
 rtInt .i64 x201 fun x203 =>
 rtCons l202 fun x204 l205 =>
 rtBool x204 fun x206 =>
 rtCons l205 fun x207 l208 =>
 rtInt .i64 x207 fun x209 =>
 rtNil l208 (
 callK (D 34 [(V.ptr v0b v0o), (V.agg [(V.int .i64 x166), (V.str x169), (V.bool x172), (V.int .i64 x175), (V.int .i64 x178), (V.bool x181), (V.bool x184), (V.bool x187), (V.bool x190), (V.int .i64 x193), (V.int .i64 x196), x197, x199, (V.int .i64 x203), (V.bool x206), (V.int .i64 x209)])] s73) fun u210 s211 =>
 rtTup u210 fun l212 =>
 rtNil l212 (
 some ((V.tup []), s211)))) (
 condK (eqF x76 (Int.ofNat 7)) (
 ldnK E s73 (H.next s7) 0 16 fun l213 =>
 rtCons l213 fun x214 l215 =>
 rtInt .i64 x214 fun x216 =>
 rtCons l215 fun x217 l218 =>
 rtStr x217 fun x219 =>
 rtCons l218 fun x220 l221 =>
 rtBool x220 fun x222 =>
 rtCons l221 fun x223 l224 =>
 rtInt .i64 x223 fun x225 =>
 rtCons l224 fun x226 l227 =>
 rtInt .i64 x226 fun x228 =>
 rtCons l227 fun x229 l230 =>
 rtBool x229 fun x231 =>
 rtCons l230 fun x232 l233 =>
 rtBool x232 fun x234 =>
 rtCons l233 fun x235 l236 =>
 rtBool x235 fun x237 =>
 rtCons l236 fun x238 l239 =>
 rtBool x238 fun x240 =>
 rtCons l239 fun x241 l242 =>
 rtInt .i64 x241 fun x243 =>
 rtCons l242 fun x244 l245 =>
 rtInt .i64 x244 fun x246 =>
 rtCons l245 fun x247 l248 =>
 rtCons l248 fun x249 l250 =>
 rtCons l250 fun x251 l252 =>
 rtInt .i64 x251 fun x253 =>
 rtCons l252 fun x254 l255 =>
 rtBool x254 fun x256 =>
 rtCons l255 fun x257 l258 =>
 rtInt .i64 x257 fun x259 =>
 rtNil l258 (
 callK (D 35 [(V.ptr v0b v0o), (V.str (BS.mk 8 4990918871747741011)), (V.agg [(V.int .i64 x216), (V.str x219), (V.bool x222), (V.int .i64 x225), (V.int .i64 x228), (V.bool x231), (V.bool x234), (V.bool x237), (V.bool x240), (V.int .i64 x243), (V.int .i64 x246), x247, x249, (V.int .i64 x253), (V.bool x256), (V.int .i64 x259)]), (V.int .i64 v2)] s73) fun u260 s261 =>
 rtTup u260 fun l262 =>
 rtNil l262 (
 some ((V.tup []), s261)))) (
 condK (eqF x76 (Int.ofNat 8)) (
 ldnK E s73 (H.next s7) 0 16 fun l263 =>
 rtCons l263 fun x264 l265 =>
 rtInt .i64 x264 fun x266 =>
 rtCons l265 fun x267 l268 =>
 rtStr x267 fun x269 =>
 rtCons l268 fun x270 l271 =>
 rtBool x270 fun x272 =>
 rtCons l271 fun x273 l274 =>
 rtInt .i64 x273 fun x275 =>
 rtCons l274 fun x276 l277 =>
 rtInt .i64 x276 fun x278 =>
 rtCons l277 fun x279 l280 =>
 rtBool x279 fun x281 =>
 rtCons l280 fun x282 l283 =>
 rtBool x282 fun x284 =>
 rtCons l283 fun x285 l286 =>
 rtBool x285 fun x287 =>
 rtCons l286 fun x288 l289 =>
 rtBool x288 fun x290 =>
 rtCons l289 fun x291 l292 =>
 rtInt .i64 x291 fun x293 =>
 rtCons l292 fun x294 l295 =>
 rtInt .i64 x294 fun x296 =>
 rtCons l295 fun x297 l298 =>
 rtCons l298 fun x299 l300 =>
 rtCons l300 fun x301 l302 =>
 rtInt .i64 x301 fun x303 =>
 rtCons l302 fun x304 l305 =>
 rtBool x304 fun x306 =>
 rtCons l305 fun x307 l308 =>
 rtInt .i64 x307 fun x309 =>
 rtNil l308 (
 callK (D 35 [(V.ptr v0b v0o), (V.str (BS.mk 3 5522771)), (V.agg [(V.int .i64 x266), (V.str x269), (V.bool x272), (V.int .i64 x275), (V.int .i64 x278), (V.bool x281), (V.bool x284), (V.bool x287), (V.bool x290), (V.int .i64 x293), (V.int .i64 x296), x297, x299, (V.int .i64 x303), (V.bool x306), (V.int .i64 x309)]), (V.int .i64 v2)] s73) fun u310 s311 =>
 rtTup u310 fun l312 =>
 rtNil l312 (
 some ((V.tup []), s311)))) (
 condK (eqF x76 (Int.ofNat 9)) (
 ldnK E s73 (H.next s7) 0 16 fun l313 =>
 rtCons l313 fun x314 l315 =>
 rtInt .i64 x314 fun x316 =>
 rtCons l315 fun x317 l318 =>
 rtStr x317 fun x319 =>
 rtCons l318 fun x320 l321 =>
 rtBool x320 fun x322 =>
 rtCons l321 fun x323 l324 =>
 rtInt .i64 x323 fun x325 =>
 rtCons l324 fun x326 l327 =>
 rtInt .i64 x326 fun x328 =>
 rtCons l327 fun x329 l330 =>
 rtBool x329 fun x331 =>
 rtCons l330 fun x332 l333 =>
 rtBool x332 fun x334 =>
 rtCons l333 fun x335 l336 =>
 rtBool x335 fun x337 =>
 rtCons l336 fun x338 l339 =>
 rtBool x338 fun x340 =>
 rtCons l339 fun x341 l342 =>
 rtInt .i64 x341 fun x343 =>
 rtCons l342 fun x344 l345 =>
 rtInt .i64 x344 fun x346 =>
 rtCons l345 fun x347 l348 =>
 rtCons l348 fun x349 l350 =>
 rtCons l350 fun x351 l352 =>
 rtInt .i64 x351 fun x353 =>
 rtCons l352 fun x354 l355 =>
 rtBool x354 fun x356 =>
 rtCons l355 fun x357 l358 =>
 rtInt .i64 x357 fun x359 =>
 rtNil l358 (
 callK (D 35 [(V.ptr v0b v0o), (V.str (BS.mk 6 76155295057987)), (V.agg [(V.int .i64 x316), (V.str x319), (V.bool x322), (V.int .i64 x325), (V.int .i64 x328), (V.bool x331), (V.bool x334), (V.bool x337), (V.bool x340), (V.int .i64 x343), (V.int .i64 x346), x347, x349, (V.int .i64 x353), (V.bool x356), (V.int .i64 x359)]), (V.int .i64 v2)] s73) fun u360 s361 =>
 rtTup u360 fun l362 =>
 rtNil l362 (
 some ((V.tup []), s361)))) (
 condK (eqF x76 (Int.ofNat 10)) (
 let s363 := newB s73 (.cells [(V.str (BS.mk 9 595286729230453392723))]);
 callK (D 19 [(V.ptr v0b v0o), (V.sl (H.next s73) 0 1 (.ex 1))] s363) fun u364 s365 =>
 rtTup u364 fun l366 =>
 rtNil l366 (
 ldnK E s365 (H.next s7) 5 6 fun l367 =>
 rtCons l367 fun x368 l369 =>
 rtBool x368 fun x370 =>
 rtCons l369 fun x371 l372 =>
 rtBool x371 fun x373 =>
 rtCons l372 fun x374 l375 =>
 rtBool x374 fun x376 =>
 rtCons l375 fun x377 l378 =>
 rtBool x377 fun x379 =>
 rtCons l378 fun x380 l381 =>
 rtInt .i64 x380 fun x382 =>
 rtCons l381 fun x383 l384 =>
 rtInt .i64 x383 fun x385 =>
 rtNil l384 (
 callK (D 33 [(V.ptr v0b v0o), (V.agg [(V.bool x370), (V.bool x373), (V.bool x376), (V.bool x379), (V.int .i64 x382), (V.int .i64 x385)]), (V.str (BS.mk 7 11294481308013352)), (V.str (BS.mk 3 2107689))] s365) fun u386 s387 =>
 rtTup u386 fun l388 =>
 rtNil l388 (
 let s389 := newB s387 (.cells [(V.str (BS.mk 3 2115151))]);
 callK (D 19 [(V.ptr v0b v0o), (V.sl (H.next s387) 0 1 (.ex 1))] s389) fun u390 s391 =>
 rtTup u390 fun l392 =>
 rtNil l392 (
 ldK E s391 (H.next s7) 15 fun u393 =>
 rtInt .i64 u393 fun x394 =>
 callK (D 20 [(V.ptr v0b v0o), (V.int .i64 x394), (V.int .i64 (addF .i64 v2 (Int.ofNat 1)))] s391) fun u395 s396 =>
 rtTup u395 fun l397 =>
 rtNil l397 (
 some ((V.tup []), s396))))))) (
 condK (eqF x76 (Int.ofNat 11)) (
 gdrawK (W G20_0 H20_0 [(0, (V.ptr v0b v0o)), (6, (V.ptr (H.next s7) 0))] s73) fun e398 s399 =>
 some ((V.tup []), s399)) (
 stK 1 v0b (Nat.add v0o 1) (V.bool true) s73 fun s400 =>
 some ((V.tup []), s400))))))))))))))))) fun k8 =>
 condK c3 (
 k8 true s4) (
 ldK E s4 v0b (Nat.add (Nat.add v0o 2) 4) fun u401 =>
 slenK u401 fun n402 =>
 k8 (leF (Int.ofNat n402) v1) s4)) fun k5 =>
 condK x2 (
 k5 true σ) (
 k5 (ltF v1 (Int.ofNat 0)) σ)
theorem P20_0 (E : List (Nat × Blk)) (D : Den) (W : DrawFn) (N : Nat) (v0b : Nat) (v0o : Nat) (v1 : Int) (v2 : Int) (σ : H) :
  denC E D W N (C20_0 ) ⟨[(0, (V.ptr v0b v0o)), (1, (V.int .i64 v1)), (2, (V.int .i64 v2))], [], [], σ⟩ (Fin20 E) (fun _ _ => none) (Fin20 E) =
  T20_0 E D W  v0b v0o v1 v2 σ := by kernel_rfl
def J20_0 (E : List (Nat × Blk)) (D : Den) (W : DrawFn) (N : Nat) : Nat → Nat → Int → Int → H → Ans := T20_0 E D W 
theorem JE20_0 (E : List (Nat × Blk)) (D : Den) (W : DrawFn) (N : Nat) (v0b : Nat) (v0o : Nat) (v1 : Int) (v2 : Int) (σ : H) :
  denC E D W N C20_0 ⟨[(0, (V.ptr v0b v0o)), (1, (V.int .i64 v1)), (2, (V.int .i64 v2))], [], [], σ⟩ (Fin20 E) (fun _ _ => none) (Fin20 E) = J20_0 E D W N v0b v0o v1 v2 σ := by
  refine (P20_0 E D W N   v0b v0o v1 v2 σ).trans ?_
  kernel_rfl
def F20 (E : List (Nat × Blk)) (D : Den) (W : DrawFn) (N : Nat) (args : List V) (σ : H) : Ans :=
 rtCons args fun x1 l2 =>
 rtPtr x1 fun b3 o4 =>
 rtCons l2 fun x5 l6 =>
 rtInt .i64 x5 fun x7 =>
 rtCons l6 fun x8 l9 =>
 rtInt .i64 x8 fun x10 =>
 rtNil l9 (
 J20_0 E D W N b3 o4 x7 x10 σ)
def A20 : XFn := ⟨149, [.ptr, (.int .i64), (.int .i64)], [], C20_0⟩
theorem FE20 (E : List (Nat × Blk)) (D : Den) (W : DrawFn) (N : Nat) (args : List V) (σ : H) : runX E D W N A20 args σ = F20 E D W N args σ := by
  unfold F20
  simp only [← JE20_0]
  kernel_rfl
theorem AO20 : A20.body.ok = true := by kernel_rfl

/-! ### F21: ogham_syntax.Parse -/
def G21_0 : List AOper := [⟨(some 27), .build [(V.str ⟨0, 0⟩), (V.int .i64 (Int.ofNat 0)), V.nils, V.nils, V.nils] [], none⟩, ⟨(some 28), .mov (.tmp 8), none⟩, ⟨(some 29), .nilck (.tmp 28), none⟩, ⟨(some 30), .faddr 7 (.tmp 29), none⟩, ⟨(some 31), .load none (.tmp 30), none⟩, ⟨(some 32), .mov (.tmp 8), none⟩, ⟨(some 33), .nilck (.tmp 32), none⟩, ⟨(some 34), .faddr 8 (.tmp 33), none⟩, ⟨(some 35), .load none (.tmp 34), none⟩, ⟨none, .store 5 (.tmp 2) (.tmp 27), none⟩, ⟨(some 3), .mov (.tmp 31), none⟩, ⟨(some 4), .mov (.tmp 35), none⟩]
def H21_0 : List DP := [⟨0, []⟩, ⟨0, [8]⟩, ⟨2, [28]⟩, ⟨6, [29]⟩, ⟨14, [30]⟩, ⟨0, [8]⟩, ⟨32, [32]⟩, ⟨96, [33]⟩, ⟨224, [34]⟩, ⟨1, [2, 27]⟩, ⟨543, [31]⟩, ⟨2047, [35]⟩]
def Fin21 (E : List (Nat × Blk)) : St → Ans := fun s => resK E s [(.cell 2 (some 5)), (.tmp 3), (.tmp 4)] fun l => some (oneV l, s.σ)
def C21_0 : XC := (.seq (.ops (.op (some 2) .any [] (.alloc 28 [(V.str ⟨0, 0⟩), (V.int .i64 (Int.ofNat 0)), V.nils, V.nils, V.nils]) <|
 .op (some 3) .any [] (.mov (.con (V.int .i64 (Int.ofNat 0)))) <|
 .op (some 4) .any [] (.mov (.con (V.int .i64 (Int.ofNat 0)))) <|
 .nil))
 (.seq (.ops (.op (some 10) .any [0] (.mov (.tmp 0)) <|
 .op (some 11) (.tup [.any, (.int .i64), (.int .i64)]) [10] (.call 36 [(.tmp 10)]) <|
 .op (some 9) .any [11] (.mov (.tmp 11)) <|
 .op (some 12) .any [9] (.extract 0 (.tmp 9)) <|
 .op (some 13) .any [9] (.extract 1 (.tmp 9)) <|
 .op (some 14) .any [9] (.extract 2 (.tmp 9)) <|
 .op (some 5) .any [12] (.mov (.tmp 12)) <|
 .op (some 6) .any [13] (.mov (.tmp 13)) <|
 .op (some 7) .any [14] (.mov (.tmp 14)) <|
 .nil))
 (.seq (.seq (.ops (.op (some 15) .any [7] (.mov (.tmp 7)) <|
 .op (some 16) .any [15] (.bin .neq .none (.tmp 15) (.con (V.int .i64 (Int.ofNat 0)))) <|
 .nil))
 (.cond (.tmp 16) (.seq (.ops (.op (some 17) (.agg [.str, (.int .i64), .any, .any, .any]) [] (.build [(V.str ⟨0, 0⟩), (V.int .i64 (Int.ofNat 0)), V.nils, V.nils, V.nils] []) <|
 .op (some 18) .any [6] (.mov (.tmp 6)) <|
 .op (some 19) .any [7] (.mov (.tmp 7)) <|
 .op none (.agg [.str, (.int .i64), .any, .any, .any]) [2, 17] (.store 5 (.tmp 2) (.tmp 17)) <|
 .op (some 3) .any [18] (.mov (.tmp 18)) <|
 .op (some 4) .any [19] (.mov (.tmp 19)) <|
 .nil))
 .ret)
 .skip))
 (.seq (.ops (.op (some 20) .any [5] (.mov (.tmp 5)) <|
 .op (some 21) (.agg [.any, (.int .i64)]) [20] (.build [V.nils, (V.int .i64 (Int.ofNat 0))] [(0, 1, (.tmp 20))]) <|
 .op (some 22) (.agg [.any, (.int .i64), .str, (.int .i64), .any, .any, .any, (.int .i64), (.int .i64)]) [21] (.build [V.nils, (V.int .i64 (Int.ofNat 0)), (V.str ⟨0, 0⟩), (V.int .i64 (Int.ofNat 0)), V.nils, V.nils, V.nils, (V.int .i64 (Int.ofNat 0)), (V.int .i64 (Int.ofNat 0))] [(0, 2, (.tmp 21))]) <|
 .op (some 23) .any [22] (.box 90 (.tmp 22)) <|
 .op (some 8) .any [23] (.mov (.tmp 23)) <|
 .nil))
 (.seq (.seq (.ops (.op (some 24) .any [8] (.mov (.tmp 8)) <|
 .op (some 25) .bool [24] (.call 37 [(.tmp 24)]) <|
 .op (some 26) .any [25] (.un .not (.tmp 25)) <|
 .nil))
 (.cond (.tmp 26) (.seq (.keep [(2, .ptr), (8, .ptr)] [] [] (.gdraw G21_0 H21_0 [(2, .ptr), (3, (.int .i64)), (4, (.int .i64))]))
 .ret)
 .skip))
 (.seq (.ops (.op (some 36) .any [8] (.mov (.tmp 8)) <|
 .op (some 37) .any [36] (.nilck (.tmp 36)) <|
 .op (some 38) .any [37] (.faddr 2 (.tmp 37)) <|
 .op (some 39) (.agg [.str, (.int .i64), .any, .any, .any]) [38] (.load (some 5) (.tmp 38)) <|
 .op none (.agg [.str, (.int .i64), .any, .any, .any]) [2, 39] (.store 5 (.tmp 2) (.tmp 39)) <|
 .op (some 3) .any [] (.mov (.con (V.int .i64 (Int.ofNat 0)))) <|
 .op (some 4) .any [] (.mov (.con (V.int .i64 (Int.ofNat 0)))) <|
 .nil))
 .ret))))))
def T21_0 (E : List (Nat × Blk)) (D : Den) (W : DrawFn) (v0 : BS) (σ : H) : Ans :=
 let s1 := newB σ (.cells [(V.str ⟨0, 0⟩), (V.int .i64 (Int.ofNat 0)), V.nils, V.nils, V.nils]);
 callK (D 36 [(V.str v0)] s1) fun u2 s3 =>
 rtTup u2 fun l4 =>
 rtCons l4 fun x5 l6 =>
 rtCons l6 fun x7 l8 =>
 rtInt .i64 x7 fun x9 =>
 rtCons l8 fun x10 l11 =>
 rtInt .i64 x10 fun x12 =>
 rtNil l11 (
 condK (not (eqF x12 (Int.ofNat 0))) (
 stK 5 (H.next σ) 0 (V.agg [(V.str (BS.mk 0 0)), (V.int .i64 (Int.ofNat 0)), V.nils, V.nils, V.nils]) s3 fun s13 =>
 ldnK E s13 (H.next σ) 0 5 fun u14 =>
 some ((V.tup [(V.agg u14), (V.int .i64 x9), (V.int .i64 x12)]), s13)) (
 fillK [(0, 1, x5)] [V.nils, (V.int .i64 (Int.ofNat 0))] fun l15 =>
 rtCons l15 fun x16 l17 =>
 rtCons l17 fun x18 l19 =>
 rtInt .i64 x18 fun x20 =>
 rtNil l19 (
 chk (allOne (V.cells (V.agg [x16, (V.int .i64 x20), (V.str (BS.mk 0 0)), (V.int .i64 (Int.ofNat 0)), V.nils, V.nils, V.nils, (V.int .i64 (Int.ofNat 0)), (V.int .i64 (Int.ofNat 0))]))) (
 let s21 := newB s3 (.cells (V.cells (V.agg [x16, (V.int .i64 x20), (V.str (BS.mk 0 0)), (V.int .i64 (Int.ofNat 0)), V.nils, V.nils, V.nils, (V.int .i64 (Int.ofNat 0)), (V.int .i64 (Int.ofNat 0))])));
 callK (D 37 [(V.ptr (H.next s3) 0)] s21) fun u22 s23 =>
 rtBool u22 fun x24 =>
 condK (not x24) (
 gdrawK (W G21_0 H21_0 [(2, (V.ptr (H.next σ) 0)), (8, (V.ptr (H.next s3) 0))] s23) fun e25 s26 =>
 getL e25 2 fun u27 =>
 rtPtr u27 fun b28 o29 =>
 getL e25 3 fun u30 =>
 rtInt .i64 u30 fun x31 =>
 getL e25 4 fun u32 =>
 rtInt .i64 u32 fun x33 =>
 ldnK E s26 b28 o29 5 fun u34 =>
 some ((V.tup [(V.agg u34), (V.int .i64 x31), (V.int .i64 x33)]), s26)) (
 ldnK E s23 (H.next s3) 2 5 fun l35 =>
 rtCons l35 fun x36 l37 =>
 rtStr x36 fun x38 =>
 rtCons l37 fun x39 l40 =>
 rtInt .i64 x39 fun x41 =>
 rtCons l40 fun x42 l43 =>
 rtCons l43 fun x44 l45 =>
 rtCons l45 fun x46 l47 =>
 rtNil l47 (
 stK 5 (H.next σ) 0 (V.agg [(V.str x38), (V.int .i64 x41), x42, x44, x46]) s23 fun s48 =>
 ldnK E s48 (H.next σ) 0 5 fun u49 =>
 some ((V.tup [(V.agg u49), (V.int .i64 (Int.ofNat 0)), (V.int .i64 (Int.ofNat 0))]), s48)))))))
theorem P21_0 (E : List (Nat × Blk)) (D : Den) (W : DrawFn) (N : Nat) (v0 : BS) (σ : H) :
  denC E D W N (C21_0 ) ⟨[(0, (V.str v0))], [], [], σ⟩ (Fin21 E) (fun _ _ => none) (Fin21 E) =
  T21_0 E D W  v0 σ := by kernel_rfl
def J21_0 (E : List (Nat × Blk)) (D : Den) (W : DrawFn) (N : Nat) : BS → H → Ans := T21_0 E D W 
theorem JE21_0 (E : List (Nat × Blk)) (D : Den) (W : DrawFn) (N : Nat) (v0 : BS) (σ : H) :
  denC E D W N C21_0 ⟨[(0, (V.str v0))], [], [], σ⟩ (Fin21 E) (fun _ _ => none) (Fin21 E) = J21_0 E D W N v0 σ := by
  refine (P21_0 E D W N   v0 σ).trans ?_
  kernel_rfl
def F21 (E : List (Nat × Blk)) (D : Den) (W : DrawFn) (N : Nat) (args : List V) (σ : H) : Ans :=
 rtCons args fun x1 l2 =>
 rtStr x1 fun x3 =>
 rtNil l2 (
 J21_0 E D W N x3 σ)
def A21 : XFn := ⟨40, [.str], [(.cell 2 (some 5)), (.tmp 3), (.tmp 4)], C21_0⟩
theorem FE21 (E : List (Nat × Blk)) (D : Den) (W : DrawFn) (N : Nat) (args : List V) (σ : H) : runX E D W N A21 args σ = F21 E D W N args σ := by
  unfold F21
  simp only [← JE21_0]
  kernel_rfl
theorem AO21 : A21.body.ok = true := by kernel_rfl

def C22_0 (cc1 : XC) (cc2 : XC) : XC := (.seq (.ops (.op (some 4) .any [] (.mov (.con (V.bool false))) <|
 .nil))
 (.seq (.seq (.ops (.op (some 6) .any [0] (.mov (.tmp 0)) <|
 .op (some 7) .any [6] (.len false (.tmp 6)) <|
 .op (some 8) .any [1] (.mov (.tmp 1)) <|
 .op (some 9) .any [8] (.len false (.tmp 8)) <|
 .op (some 10) .any [7, 9] (.bin .neq .none (.tmp 7) (.tmp 9)) <|
 .nil))
 (.cond (.tmp 10) (.seq (.ops (.op (some 4) .any [] (.mov (.con (V.bool false))) <|
 .nil))
 .ret)
 .skip))
 (.seq (.seq (.ops (.op (some 11) .any [0] (.mov (.tmp 0)) <|
 .op (some 12) .any [11] (.len false (.tmp 11)) <|
 .op (some 13) .any [] (.mov (.con (V.int .i64 (Int.ofNat 0)))) <|
 .nil))
 (.block 0 (.loop [(0, .any), (1, .any), (12, (.int .i64)), (13, (.int .i64))] [] [] cc2)))
 (.keep [] [] [] cc1))))
def C22_1 : XC := (.seq (.ops (.op (some 4) .any [] (.mov (.con (V.bool true))) <|
 .nil))
 .ret)
def C22_2 : XC := (.seq (.ops (.op (some 14) .any [13, 12] (.bin .lss .none (.tmp 13) (.tmp 12)) <|
 .nil))
 (.seq (.cond (.tmp 14) .skip
 (.exit 0))
 (.seq (.block 1 (.seq (.ops (.op (some 15) .any [13] (.mov (.tmp 13)) <|
 .op (some 5) .any [15] (.mov (.tmp 15)) <|
 .nil))
 (.seq (.draw (.op (some 16) .any [0] (.mov (.tmp 0)) <|
 .op (some 17) .any [5] (.mov (.tmp 5)) <|
 .op (some 18) .any [16, 17] (.iaddrS 1 (.tmp 16) (.tmp 17)) <|
 .op (some 19) .str [18] (.load none (.tmp 18)) <|
 .op (some 20) .any [1] (.mov (.tmp 1)) <|
 .op (some 21) .any [5] (.mov (.tmp 5)) <|
 .op (some 22) .any [20, 21] (.iaddrS 1 (.tmp 20) (.tmp 21)) <|
 .op (some 23) .str [22] (.load none (.tmp 22)) <|
 .op (some 24) .any [19, 23] (.bin .neq .none (.tmp 19) (.tmp 23)) <|
 .nil) [0, 0, 3, 7, 0, 0, 48, 112, 255])
 (.cond (.tmp 24) (.seq (.ops (.op (some 4) .any [] (.mov (.con (V.bool false))) <|
 .nil))
 .ret)
 .skip))))
 (.ops (.op (some 25) .any [13] (.bin .add .none (.tmp 13) (.con (V.int .i64 (Int.ofNat 1)))) <|
 .op (some 13) .any [25] (.mov (.tmp 25)) <|
 .nil)))))
def A22 : XFn := ⟨26, [.any, .any], [(.tmp 4)], (C22_0 C22_1 C22_2)⟩
def C23_0 (cc1 : XC) (cc2 : XC) : XC := (.seq (.ops (.op (some 4) .any [] (.mov (.con (V.bool false))) <|
 .nil))
 (.seq (.seq (.ops (.op (some 6) .any [0] (.mov (.tmp 0)) <|
 .op (some 7) .any [6] (.len false (.tmp 6)) <|
 .op (some 8) .any [1] (.mov (.tmp 1)) <|
 .op (some 9) .any [8] (.len false (.tmp 8)) <|
 .op (some 10) .any [7, 9] (.bin .neq .none (.tmp 7) (.tmp 9)) <|
 .nil))
 (.cond (.tmp 10) (.seq (.ops (.op (some 4) .any [] (.mov (.con (V.bool false))) <|
 .nil))
 .ret)
 .skip))
 (.seq (.seq (.ops (.op (some 11) .any [0] (.mov (.tmp 0)) <|
 .op (some 12) .any [11] (.len false (.tmp 11)) <|
 .op (some 13) .any [] (.mov (.con (V.int .i64 (Int.ofNat 0)))) <|
 .nil))
 (.block 0 (.loop [(0, .any), (1, .any), (12, (.int .i64)), (13, (.int .i64))] [] [] cc2)))
 (.keep [] [] [] cc1))))
def C23_1 : XC := (.seq (.ops (.op (some 4) .any [] (.mov (.con (V.bool true))) <|
 .nil))
 .ret)
def C23_2 : XC := (.seq (.ops (.op (some 14) .any [13, 12] (.bin .lss .none (.tmp 13) (.tmp 12)) <|
 .nil))
 (.seq (.cond (.tmp 14) .skip
 (.exit 0))
 (.seq (.block 1 (.seq (.ops (.op (some 15) .any [13] (.mov (.tmp 13)) <|
 .op (some 5) .any [15] (.mov (.tmp 15)) <|
 .nil))
 (.seq (.draw (.op (some 16) .any [0] (.mov (.tmp 0)) <|
 .op (some 17) .any [5] (.mov (.tmp 5)) <|
 .op (some 18) .any [16, 17] (.iaddrS 1 (.tmp 16) (.tmp 17)) <|
 .op (some 19) (.int .i64) [18] (.load none (.tmp 18)) <|
 .op (some 20) .any [1] (.mov (.tmp 1)) <|
 .op (some 21) .any [5] (.mov (.tmp 5)) <|
 .op (some 22) .any [20, 21] (.iaddrS 1 (.tmp 20) (.tmp 21)) <|
 .op (some 23) (.int .i64) [22] (.load none (.tmp 22)) <|
 .op (some 24) .any [19, 23] (.bin .neq .none (.tmp 19) (.tmp 23)) <|
 .nil) [0, 0, 3, 7, 0, 0, 48, 112, 255])
 (.cond (.tmp 24) (.seq (.ops (.op (some 4) .any [] (.mov (.con (V.bool false))) <|
 .nil))
 .ret)
 .skip))))
 (.ops (.op (some 25) .any [13] (.bin .add .none (.tmp 13) (.con (V.int .i64 (Int.ofNat 1)))) <|
 .op (some 13) .any [25] (.mov (.tmp 25)) <|
 .nil)))))
def A23 : XFn := ⟨26, [.any, .any], [(.tmp 4)], (C23_0 C23_1 C23_2)⟩
/-! ### F24: slices.EqualFunc___ogham_api.Node___ogham_api.Node_ogham_api.Node_ogham_api.Node_ -/
def Fin24 (E : List (Nat × Blk)) : St → Ans := fun s => resK E s [(.tmp 6)] fun l => some (oneV l, s.σ)
def C24_0 (cc1 : XC) (cc2 : XC) : XC := (.seq (.ops (.op (some 6) .any [] (.mov (.con (V.bool false))) <|
 .nil))
 (.seq (.seq (.ops (.op (some 10) .any [0] (.mov (.tmp 0)) <|
 .op (some 11) .any [10] (.len false (.tmp 10)) <|
 .op (some 12) .any [1] (.mov (.tmp 1)) <|
 .op (some 13) .any [12] (.len false (.tmp 12)) <|
 .op (some 14) .any [11, 13] (.bin .neq .none (.tmp 11) (.tmp 13)) <|
 .nil))
 (.cond (.tmp 14) (.seq (.ops (.op (some 6) .any [] (.mov (.con (V.bool false))) <|
 .nil))
 .ret)
 .skip))
 (.seq (.seq (.ops (.op (some 15) .any [0] (.mov (.tmp 0)) <|
 .op (some 16) .any [15] (.len false (.tmp 15)) <|
 .op (some 17) .any [] (.mov (.con (V.int .i64 (Int.ofNat 0)))) <|
 .nil))
 (.block 0 (.loop [(1, .any), (2, .any), (15, .any), (16, (.int .i64)), (17, (.int .i64))] [] [] cc2)))
 (.keep [] [] [] cc1))))
def T24_0 (E : List (Nat × Blk)) (D : Den) (W : DrawFn) (K2 : V → V → V → Int → Int → H → Ans) (v0 : V) (v1 : V) (v2 : V) (σ : H) : Ans :=
 slenK v0 fun n1 =>
 slenK v1 fun n2 =>
 condK (not (eqF (Int.ofNat n1) (Int.ofNat n2))) (
 some ((V.bool false), σ)) (
 slenK v0 fun n3 =>
 K2 v1 v2 v0 (Int.ofNat n3) (Int.ofNat 0) σ)
def C24_1 : XC := (.seq (.ops (.op (some 6) .any [] (.mov (.con (V.bool true))) <|
 .nil))
 .ret)
def T24_1 (E : List (Nat × Blk)) (D : Den) (W : DrawFn) (σ : H) : Ans :=
 some ((V.bool true), σ)
def C24_2 : XC := (.seq (.ops (.op (some 18) .any [17, 16] (.bin .lss .none (.tmp 17) (.tmp 16)) <|
 .nil))
 (.seq (.cond (.tmp 18) .skip
 (.exit 0))
 (.seq (.block 1 (.seq (.ops (.op (some 19) .any [17] (.mov (.tmp 17)) <|
 .op (some 20) .any [15, 17] (.iaddrS 16 (.tmp 15) (.tmp 17)) <|
 .op (some 21) (.agg [(.int .i64), .str, .bool, (.int .i64), (.int .i64), .bool, .bool, .bool, .bool, (.int .i64), (.int .i64), .any, .any, (.int .i64), .bool, (.int .i64)]) [20] (.load (some 16) (.tmp 20)) <|
 .pal 8 [] 72 [(V.int .i64 (Int.ofNat 0)), (V.str ⟨0, 0⟩), (V.bool false), (V.int .i64 (Int.ofNat 0)), (V.int .i64 (Int.ofNat 0)), (V.bool false), (V.bool false), (V.bool false), (V.bool false), (V.int .i64 (Int.ofNat 0)), (V.int .i64 (Int.ofNat 0)), V.nils, V.nils, (V.int .i64 (Int.ofNat 0)), (V.bool false), (V.int .i64 (Int.ofNat 0))] <|
 .op (some 7) .any [19] (.mov (.tmp 19)) <|
 .op none (.agg [(.int .i64), .str, .bool, (.int .i64), (.int .i64), .bool, .bool, .bool, .bool, (.int .i64), (.int .i64), .any, .any, (.int .i64), .bool, (.int .i64)]) [8, 21] (.store 16 (.tmp 8) (.tmp 21)) <|
 .nil))
 (.seq (.ops (.op (some 22) .any [1] (.mov (.tmp 1)) <|
 .op (some 23) .any [7] (.mov (.tmp 7)) <|
 .op (some 24) .any [22, 23] (.iaddrS 16 (.tmp 22) (.tmp 23)) <|
 .op (some 25) (.agg [(.int .i64), .str, .bool, (.int .i64), (.int .i64), .bool, .bool, .bool, .bool, (.int .i64), (.int .i64), .any, .any, (.int .i64), .bool, (.int .i64)]) [24] (.load (some 16) (.tmp 24)) <|
 .pal 9 [] 72 [(V.int .i64 (Int.ofNat 0)), (V.str ⟨0, 0⟩), (V.bool false), (V.int .i64 (Int.ofNat 0)), (V.int .i64 (Int.ofNat 0)), (V.bool false), (V.bool false), (V.bool false), (V.bool false), (V.int .i64 (Int.ofNat 0)), (V.int .i64 (Int.ofNat 0)), V.nils, V.nils, (V.int .i64 (Int.ofNat 0)), (V.bool false), (V.int .i64 (Int.ofNat 0))] <|
 .op none (.agg [(.int .i64), .str, .bool, (.int .i64), (.int .i64), .bool, .bool, .bool, .bool, (.int .i64), (.int .i64), .any, .any, (.int .i64), .bool, (.int .i64)]) [9, 25] (.store 16 (.tmp 9) (.tmp 25)) <|
 .nil))
 (.seq (.ops (.op (some 26) .any [2] (.mov (.tmp 2)) <|
 .op (some 27) (.agg [(.int .i64), .str, .bool, (.int .i64), (.int .i64), .bool, .bool, .bool, .bool, (.int .i64), (.int .i64), .any, .any, (.int .i64), .bool, (.int .i64)]) [8] (.load (some 16) (.tmp 8)) <|
 .op (some 28) (.agg [(.int .i64), .str, .bool, (.int .i64), (.int .i64), .bool, .bool, .bool, .bool, (.int .i64), (.int .i64), .any, .any, (.int .i64), .bool, (.int .i64)]) [9] (.load (some 16) (.tmp 9)) <|
 .op (some 29) .bool [26, 27, 28] (.callv (.tmp 26) [(.tmp 27), (.tmp 28)]) <|
 .op (some 30) .any [29] (.un .not (.tmp 29)) <|
 .nil))
 (.cond (.tmp 30) (.seq (.ops (.op (some 6) .any [] (.mov (.con (V.bool false))) <|
 .nil))
 .ret)
 .skip)))))
 (.ops (.op (some 31) .any [17] (.bin .add .none (.tmp 17) (.con (V.int .i64 (Int.ofNat 1)))) <|
 .op (some 17) .any [31] (.mov (.tmp 31)) <|
 .nil)))))
def T24_2 (E : List (Nat × Blk)) (D : Den) (W : DrawFn) (K1 : H → Ans) (R2 : V → V → V → Int → Int → H → Ans) (v1 : V) (v2 : V) (v15 : V) (v16 : Int) (v17 : Int) (σ : H) : Ans :=
 condK (ltF v17 v16) (
 iaddrSK 16 v15 v17 fun b1 o2 =>
 ldnK E σ b1 o2 16 fun l3 =>
 rtCons l3 fun x4 l5 =>
 rtInt .i64 x4 fun x6 =>
 rtCons l5 fun x7 l8 =>
 rtStr x7 fun x9 =>
 rtCons l8 fun x10 l11 =>
 rtBool x10 fun x12 =>
 rtCons l11 fun x13 l14 =>
 rtInt .i64 x13 fun x15 =>
 rtCons l14 fun x16 l17 =>
 rtInt .i64 x16 fun x18 =>
 rtCons l17 fun x19 l20 =>
 rtBool x19 fun x21 =>
 rtCons l20 fun x22 l23 =>
 rtBool x22 fun x24 =>
 rtCons l23 fun x25 l26 =>
 rtBool x25 fun x27 =>
 rtCons l26 fun x28 l29 =>
 rtBool x28 fun x30 =>
 rtCons l29 fun x31 l32 =>
 rtInt .i64 x31 fun x33 =>
 rtCons l32 fun x34 l35 =>
 rtInt .i64 x34 fun x36 =>
 rtCons l35 fun x37 l38 =>
 rtCons l38 fun x39 l40 =>
 rtCons l40 fun x41 l42 =>
 rtInt .i64 x41 fun x43 =>
 rtCons l42 fun x44 l45 =>
 rtBool x44 fun x46 =>
 rtCons l45 fun x47 l48 =>
 rtInt .i64 x47 fun x49 =>
 rtNil l48 (
 chk (allOne [(V.int .i64 x6), (V.str x9), (V.bool x12), (V.int .i64 x15), (V.int .i64 x18), (V.bool x21), (V.bool x24), (V.bool x27), (V.bool x30), (V.int .i64 x33), (V.int .i64 x36), x37, x39, (V.int .i64 x43), (V.bool x46), (V.int .i64 x49)]) (
 iaddrSK 16 v1 v17 fun b50 o51 =>
 ldnK E σ b50 o51 16 fun l52 =>
 rtCons l52 fun x53 l54 =>
 rtInt .i64 x53 fun x55 =>
 rtCons l54 fun x56 l57 =>
 rtStr x56 fun x58 =>
 rtCons l57 fun x59 l60 =>
 rtBool x59 fun x61 =>
 rtCons l60 fun x62 l63 =>
 rtInt .i64 x62 fun x64 =>
 rtCons l63 fun x65 l66 =>
 rtInt .i64 x65 fun x67 =>
 rtCons l66 fun x68 l69 =>
 rtBool x68 fun x70 =>
 rtCons l69 fun x71 l72 =>
 rtBool x71 fun x73 =>
 rtCons l72 fun x74 l75 =>
 rtBool x74 fun x76 =>
 rtCons l75 fun x77 l78 =>
 rtBool x77 fun x79 =>
 rtCons l78 fun x80 l81 =>
 rtInt .i64 x80 fun x82 =>
 rtCons l81 fun x83 l84 =>
 rtInt .i64 x83 fun x85 =>
 rtCons l84 fun x86 l87 =>
 rtCons l87 fun x88 l89 =>
 rtCons l89 fun x90 l91 =>
 rtInt .i64 x90 fun x92 =>
 rtCons l91 fun x93 l94 =>
 rtBool x93 fun x95 =>
 rtCons l94 fun x96 l97 =>
 rtInt .i64 x96 fun x98 =>
 rtNil l97 (
 chk (allOne [(V.int .i64 x55), (V.str x58), (V.bool x61), (V.int .i64 x64), (V.int .i64 x67), (V.bool x70), (V.bool x73), (V.bool x76), (V.bool x79), (V.int .i64 x82), (V.int .i64 x85), x86, x88, (V.int .i64 x92), (V.bool x95), (V.int .i64 x98)]) (
 callvK D v2 [(V.agg [(V.int .i64 x6), (V.str x9), (V.bool x12), (V.int .i64 x15), (V.int .i64 x18), (V.bool x21), (V.bool x24), (V.bool x27), (V.bool x30), (V.int .i64 x33), (V.int .i64 x36), x37, x39, (V.int .i64 x43), (V.bool x46), (V.int .i64 x49)]), (V.agg [(V.int .i64 x55), (V.str x58), (V.bool x61), (V.int .i64 x64), (V.int .i64 x67), (V.bool x70), (V.bool x73), (V.bool x76), (V.bool x79), (V.int .i64 x82), (V.int .i64 x85), x86, x88, (V.int .i64 x92), (V.bool x95), (V.int .i64 x98)])] σ fun u99 s100 =>
 rtBool u99 fun x101 =>
 condK (not x101) (
 some ((V.bool false), s100)) (
 R2 v1 v2 v15 v16 (addF .i64 v17 (Int.ofNat 1)) s100)))))) (
 K1 σ)
theorem P24_0 (E : List (Nat × Blk)) (D : Den) (W : DrawFn) (N : Nat) (cc1 : XC) (cc2 : XC) (v0 : V) (v1 : V) (v2 : V) (σ : H) :
  denC E D W N (C24_0 cc1 cc2) ⟨[(0, v0), (1, v1), (2, v2)], [], [], σ⟩ (Fin24 E) (fun _ _ => none) (Fin24 E) =
  T24_0 E D W (fun v1 v2 v15 v16 v17 σ => iterK (fun rec s' => denC E D W N cc2 s' (fun s'' => keepS [(1, .any), (2, .any), (15, .any), (16, (.int .i64)), (17, (.int .i64))] [] [] s'' rec) (blkK 0 (fun s' => denC E D W N (.keep [] [] [] cc1) s' (Fin24 E) (fun _ _ => none) (Fin24 E)) (fun _ _ => none)) (Fin24 E)) N ⟨[(1, v1), (2, v2), (15, v15), (16, (V.int .i64 v16)), (17, (V.int .i64 v17))], [], [], σ⟩) v0 v1 v2 σ := by kernel_rfl
theorem P24_1 (E : List (Nat × Blk)) (D : Den) (W : DrawFn) (N : Nat) (σ : H) :
  denC E D W N (C24_1 ) ⟨[], [], [], σ⟩ (Fin24 E) (fun _ _ => none) (Fin24 E) =
  T24_1 E D W   σ := by kernel_rfl
theorem P24_2 (E : List (Nat × Blk)) (D : Den) (W : DrawFn) (N : Nat) (cc1 : XC) (li2 : St → Ans) (v1 : V) (v2 : V) (v15 : V) (v16 : Int) (v17 : Int) (σ : H) :
  denC E D W N (C24_2 ) ⟨[(1, v1), (2, v2), (15, v15), (16, (V.int .i64 v16)), (17, (V.int .i64 v17))], [], [], σ⟩ (fun s'' => keepS [(1, .any), (2, .any), (15, .any), (16, (.int .i64)), (17, (.int .i64))] [] [] s'' li2) (blkK 0 (fun s' => denC E D W N (.keep [] [] [] cc1) s' (Fin24 E) (fun _ _ => none) (Fin24 E)) (fun _ _ => none)) (Fin24 E) =
  T24_2 E D W (fun  σ => denC E D W N cc1 ⟨[], [], [], σ⟩ (Fin24 E) (fun _ _ => none) (Fin24 E)) (fun v1 v2 v15 v16 v17 σ => li2 ⟨[(1, v1), (2, v2), (15, v15), (16, (V.int .i64 v16)), (17, (V.int .i64 v17))], [], [], σ⟩) v1 v2 v15 v16 v17 σ := by kernel_rfl
def J24_1 (E : List (Nat × Blk)) (D : Den) (W : DrawFn) (N : Nat) : H → Ans := T24_1 E D W 
theorem JE24_1 (E : List (Nat × Blk)) (D : Den) (W : DrawFn) (N : Nat) (σ : H) :
  denC E D W N C24_1 ⟨[], [], [], σ⟩ (Fin24 E) (fun _ _ => none) (Fin24 E) = J24_1 E D W N  σ := by
  refine (P24_1 E D W N    σ).trans ?_
  kernel_rfl
def L24_2 (E : List (Nat × Blk)) (D : Den) (W : DrawFn) (N : Nat) (n : Nat) : V → V → V → Int → Int → H → Ans :=
  Nat.rec (fun _ _ _ _ _ _ => none) (fun _ ih => T24_2 E D W (J24_1 E D W N ) ih) n
theorem LE24_2 (E : List (Nat × Blk)) (D : Den) (W : DrawFn) (N : Nat) (n : Nat) : ∀ (v1 : V) (v2 : V) (v15 : V) (v16 : Int) (v17 : Int) (σ : H),
  iterK (fun rec s' => denC E D W N C24_2 s' (fun s'' => keepS [(1, .any), (2, .any), (15, .any), (16, (.int .i64)), (17, (.int .i64))] [] [] s'' rec) (blkK 0 (fun s' => denC E D W N (.keep [] [] [] C24_1) s' (Fin24 E) (fun _ _ => none) (Fin24 E)) (fun _ _ => none)) (Fin24 E)) n ⟨[(1, v1), (2, v2), (15, v15), (16, (V.int .i64 v16)), (17, (V.int .i64 v17))], [], [], σ⟩ = L24_2 E D W N n v1 v2 v15 v16 v17 σ := by
  induction n with
  | zero => intro v1 v2 v15 v16 v17 σ; rfl
  | succ n ihn =>
    intro v1 v2 v15 v16 v17 σ
    rw [iterK_succ]
    refine (P24_2 E D W N C24_1 (iterK (fun rec s' => denC E D W N C24_2 s' (fun s'' => keepS [(1, .any), (2, .any), (15, .any), (16, (.int .i64)), (17, (.int .i64))] [] [] s'' rec) (blkK 0 (fun s' => denC E D W N (.keep [] [] [] C24_1) s' (Fin24 E) (fun _ _ => none) (Fin24 E)) (fun _ _ => none)) (Fin24 E)) n) v1 v2 v15 v16 v17 σ).trans ?_
    simp only [ihn, JE24_1]
    kernel_rfl
def J24_0 (E : List (Nat × Blk)) (D : Den) (W : DrawFn) (N : Nat) : V → V → V → H → Ans := T24_0 E D W (L24_2 E D W N N)
theorem JE24_0 (E : List (Nat × Blk)) (D : Den) (W : DrawFn) (N : Nat) (v0 : V) (v1 : V) (v2 : V) (σ : H) :
  denC E D W N (C24_0 C24_1 C24_2) ⟨[(0, v0), (1, v1), (2, v2)], [], [], σ⟩ (Fin24 E) (fun _ _ => none) (Fin24 E) = J24_0 E D W N v0 v1 v2 σ := by
  refine (P24_0 E D W N C24_1 C24_2  v0 v1 v2 σ).trans ?_
  simp only [LE24_2]
  kernel_rfl
def F24 (E : List (Nat × Blk)) (D : Den) (W : DrawFn) (N : Nat) (args : List V) (σ : H) : Ans :=
 rtCons args fun x1 l2 =>
 rtCons l2 fun x3 l4 =>
 rtCons l4 fun x5 l6 =>
 rtNil l6 (
 J24_0 E D W N x1 x3 x5 σ)
def A24 : XFn := ⟨32, [.any, .any, .any], [(.tmp 6)], (C24_0 C24_1 C24_2)⟩
theorem FE24 (E : List (Nat × Blk)) (D : Den) (W : DrawFn) (N : Nat) (args : List V) (σ : H) : runX E D W N A24 args σ = F24 E D W N args σ := by
  unfold F24
  simp only [← JE24_0]
  kernel_rfl
theorem AO24 : A24.body.ok = true := by kernel_rfl

/-! ### F25: ogham_print.sameNode -/
def Fin25 (E : List (Nat × Blk)) : St → Ans := fun s => resK E s [(.tmp 4)] fun l => some (oneV l, s.σ)
def C25_0 (cc1 : XC) : XC := (.seq (.ops (.op (some 2) .any [0] (.box 72 (.tmp 0)) <|
 .op (some 3) .any [1] (.box 72 (.tmp 1)) <|
 .op (some 4) .any [] (.mov (.con (V.bool false))) <|
 .nil))
 (.keep [(2, .ptr), (3, .ptr)] [] [] cc1))
def T25_0 (E : List (Nat × Blk)) (D : Den) (W : DrawFn) (K1 : Nat → Nat → Nat → Nat → H → Ans) (v0_0 : Int) (v0_1 : BS) (v0_2 : Bool) (v0_3 : Int) (v0_4 : Int) (v0_5 : Bool) (v0_6 : Bool) (v0_7 : Bool) (v0_8 : Bool) (v0_9 : Int) (v0_10 : Int) (v0_11 : V) (v0_12 : V) (v0_13 : Int) (v0_14 : Bool) (v0_15 : Int) (v1_0 : Int) (v1_1 : BS) (v1_2 : Bool) (v1_3 : Int) (v1_4 : Int) (v1_5 : Bool) (v1_6 : Bool) (v1_7 : Bool) (v1_8 : Bool) (v1_9 : Int) (v1_10 : Int) (v1_11 : V) (v1_12 : V) (v1_13 : Int) (v1_14 : Bool) (v1_15 : Int) (σ : H) : Ans :=
 chk (allOne (V.cells (V.agg [(V.int .i64 v0_0), (V.str v0_1), (V.bool v0_2), (V.int .i64 v0_3), (V.int .i64 v0_4), (V.bool v0_5), (V.bool v0_6), (V.bool v0_7), (V.bool v0_8), (V.int .i64 v0_9), (V.int .i64 v0_10), v0_11, v0_12, (V.int .i64 v0_13), (V.bool v0_14), (V.int .i64 v0_15)]))) (
 let s1 := newB σ (.cells (V.cells (V.agg [(V.int .i64 v0_0), (V.str v0_1), (V.bool v0_2), (V.int .i64 v0_3), (V.int .i64 v0_4), (V.bool v0_5), (V.bool v0_6), (V.bool v0_7), (V.bool v0_8), (V.int .i64 v0_9), (V.int .i64 v0_10), v0_11, v0_12, (V.int .i64 v0_13), (V.bool v0_14), (V.int .i64 v0_15)])));
 chk (allOne (V.cells (V.agg [(V.int .i64 v1_0), (V.str v1_1), (V.bool v1_2), (V.int .i64 v1_3), (V.int .i64 v1_4), (V.bool v1_5), (V.bool v1_6), (V.bool v1_7), (V.bool v1_8), (V.int .i64 v1_9), (V.int .i64 v1_10), v1_11, v1_12, (V.int .i64 v1_13), (V.bool v1_14), (V.int .i64 v1_15)]))) (
 let s2 := newB s1 (.cells (V.cells (V.agg [(V.int .i64 v1_0), (V.str v1_1), (V.bool v1_2), (V.int .i64 v1_3), (V.int .i64 v1_4), (V.bool v1_5), (V.bool v1_6), (V.bool v1_7), (V.bool v1_8), (V.int .i64 v1_9), (V.int .i64 v1_10), v1_11, v1_12, (V.int .i64 v1_13), (V.bool v1_14), (V.int .i64 v1_15)])));
 K1 (H.next σ) 0 (H.next s1) 0 s2))
def C25_1 (cc2 : XC) (cc3 : XL) : XC := (.seq (.ops (.op (some 5) .any [2] (.faddr 0 (.tmp 2)) <|
 .op (some 6) (.int .i64) [5] (.load none (.tmp 5)) <|
 .op (some 7) .any [3] (.faddr 0 (.tmp 3)) <|
 .op (some 8) (.int .i64) [7] (.load none (.tmp 7)) <|
 .op (some 9) .any [6, 8] (.bin .eql .none (.tmp 6) (.tmp 8)) <|
 .op (some 10) .any [9] (.mov (.tmp 9)) <|
 .grp 10 true (.op (some 11) .any [2, 10] (.faddr 1 (.tmp 2)) <|
 .op (some 12) .str [11, 10] (.load none (.tmp 11)) <|
 .op (some 13) .any [3, 10] (.faddr 1 (.tmp 3)) <|
 .op (some 14) .str [13, 10] (.load none (.tmp 13)) <|
 .op (some 15) .any [12, 14, 10] (.bin .eql .none (.tmp 12) (.tmp 14)) <|
 .nil) 16 [10, 15] (.tmp 10) (.tmp 15) (.con (V.bool false)) <|
 .op (some 17) .any [16] (.mov (.tmp 16)) <|
 .grp 17 true (.op (some 18) .any [2, 17] (.faddr 2 (.tmp 2)) <|
 .op (some 19) (.agg [.bool, (.int .i64), (.int .i64)]) [18, 17] (.load (some 3) (.tmp 18)) <|
 .op (some 20) .any [3, 17] (.faddr 2 (.tmp 3)) <|
 .op (some 21) (.agg [.bool, (.int .i64), (.int .i64)]) [20, 17] (.load (some 3) (.tmp 20)) <|
 .op (some 22) .any [19, 21, 17] (.bin .eql (.flat [(0, .bool), (1, .int), (2, .int)]) (.tmp 19) (.tmp 21)) <|
 .nil) 23 [17, 22] (.tmp 17) (.tmp 22) (.con (V.bool false)) <|
 .op (some 24) .any [23] (.mov (.tmp 23)) <|
 .grp 24 true (.op (some 25) .any [2, 24] (.faddr 5 (.tmp 2)) <|
 .op (some 26) (.agg [.bool, .bool, .bool, .bool, (.int .i64), (.int .i64)]) [25, 24] (.load (some 6) (.tmp 25)) <|
 .op (some 27) .any [3, 24] (.faddr 5 (.tmp 3)) <|
 .op (some 28) (.agg [.bool, .bool, .bool, .bool, (.int .i64), (.int .i64)]) [27, 24] (.load (some 6) (.tmp 27)) <|
 .op (some 29) .any [26, 28, 24] (.bin .eql (.flat [(0, .bool), (1, .bool), (2, .bool), (3, .bool), (4, .int), (5, .int)]) (.tmp 26) (.tmp 28)) <|
 .nil) 30 [24, 29] (.tmp 24) (.tmp 29) (.con (V.bool false)) <|
 cc3))
 (.keep [(4, .bool)] [] [] cc2))
def T25_1 (E : List (Nat × Blk)) (D : Den) (W : DrawFn) (K3 : Bool → Bool → Bool → Bool → Bool → Bool → Bool → Int → Nat → Nat → Int → Nat → Nat → Nat → Nat → Nat → Nat → H → Ans) (v2b : Nat) (v2o : Nat) (v3b : Nat) (v3o : Nat) (σ : H) : Ans :=
 ldK E σ v2b v2o fun u1 =>
 rtInt .i64 u1 fun x2 =>
 ldK E σ v3b v3o fun u3 =>
 rtInt .i64 u3 fun x4 =>
 joinB (fun c5 s6 =>
 joinB (fun c8 s9 =>
 joinB (fun c11 s12 =>
 K3 c11 c8 c8 c5 c5 (eqF x2 x4) (eqF x2 x4) x4 v3b v3o x2 v2b v2o v2b v2o v3b v3o s12) fun k13 =>
 condK c8 (
 ldnK E s9 v2b (Nat.add v2o 5) 6 fun l14 =>
 rtCons l14 fun x15 l16 =>
 rtBool x15 fun x17 =>
 rtCons l16 fun x18 l19 =>
 rtBool x18 fun x20 =>
 rtCons l19 fun x21 l22 =>
 rtBool x21 fun x23 =>
 rtCons l22 fun x24 l25 =>
 rtBool x24 fun x26 =>
 rtCons l25 fun x27 l28 =>
 rtInt .i64 x27 fun x29 =>
 rtCons l28 fun x30 l31 =>
 rtInt .i64 x30 fun x32 =>
 rtNil l31 (
 ldnK E s9 v3b (Nat.add v3o 5) 6 fun l33 =>
 rtCons l33 fun x34 l35 =>
 rtBool x34 fun x36 =>
 rtCons l35 fun x37 l38 =>
 rtBool x37 fun x39 =>
 rtCons l38 fun x40 l41 =>
 rtBool x40 fun x42 =>
 rtCons l41 fun x43 l44 =>
 rtBool x43 fun x45 =>
 rtCons l44 fun x46 l47 =>
 rtInt .i64 x46 fun x48 =>
 rtCons l47 fun x49 l50 =>
 rtInt .i64 x49 fun x51 =>
 rtNil l50 (
 eqK (.flat [(0, .bool), (1, .bool), (2, .bool), (3, .bool), (4, .int), (5, .int)]) (V.agg [(V.bool x17), (V.bool x20), (V.bool x23), (V.bool x26), (V.int .i64 x29), (V.int .i64 x32)]) (V.agg [(V.bool x36), (V.bool x39), (V.bool x42), (V.bool x45), (V.int .i64 x48), (V.int .i64 x51)]) fun c52 =>
 k13 c52 s9))) (
 k13 false s9)) fun k10 =>
 condK c5 (
 ldnK E s6 v2b (Nat.add v2o 2) 3 fun l53 =>
 rtCons l53 fun x54 l55 =>
 rtBool x54 fun x56 =>
 rtCons l55 fun x57 l58 =>
 rtInt .i64 x57 fun x59 =>
 rtCons l58 fun x60 l61 =>
 rtInt .i64 x60 fun x62 =>
 rtNil l61 (
 ldnK E s6 v3b (Nat.add v3o 2) 3 fun l63 =>
 rtCons l63 fun x64 l65 =>
 rtBool x64 fun x66 =>
 rtCons l65 fun x67 l68 =>
 rtInt .i64 x67 fun x69 =>
 rtCons l68 fun x70 l71 =>
 rtInt .i64 x70 fun x72 =>
 rtNil l71 (
 eqK (.flat [(0, .bool), (1, .int), (2, .int)]) (V.agg [(V.bool x56), (V.int .i64 x59), (V.int .i64 x62)]) (V.agg [(V.bool x66), (V.int .i64 x69), (V.int .i64 x72)]) fun c73 =>
 k10 c73 s6))) (
 k10 false s6)) fun k7 =>
 condK (eqF x2 x4) (
 ldK E σ v2b (Nat.add v2o 1) fun u74 =>
 rtStr u74 fun x75 =>
 ldK E σ v3b (Nat.add v3o 1) fun u76 =>
 rtStr u76 fun x77 =>
 k7 (BS.beq x75 x77) σ) (
 k7 false σ)
def C25_2 : XC := .ret
def T25_2 (E : List (Nat × Blk)) (D : Den) (W : DrawFn) (v4 : Bool) (σ : H) : Ans :=
 some ((V.bool v4), σ)
def C25_3 (cc4 : XL) : XL := .op (some 31) .any [30] (.mov (.tmp 30)) <|
 .grp 31 true (.op (some 32) .any [2, 31] (.faddr 11 (.tmp 2)) <|
 .op (some 33) .any [32, 31] (.load none (.tmp 32)) <|
 .op (some 34) .any [3, 31] (.faddr 11 (.tmp 3)) <|
 .op (some 35) .any [34, 31] (.load none (.tmp 34)) <|
 .op (some 36) .bool [33, 35, 31] (.call 38 [(.tmp 33), (.tmp 35)]) <|
 .nil) 37 [31, 36] (.tmp 31) (.tmp 36) (.con (V.bool false)) <|
 .op (some 38) .any [37] (.mov (.tmp 37)) <|
 .grp 38 true (.op (some 39) .any [2, 38] (.faddr 12 (.tmp 2)) <|
 .op (some 40) .any [39, 38] (.load none (.tmp 39)) <|
 .op (some 41) .any [3, 38] (.faddr 12 (.tmp 3)) <|
 .op (some 42) .any [41, 38] (.load none (.tmp 41)) <|
 .op (some 43) .bool [40, 42, 38] (.call 39 [(.tmp 40), (.tmp 42), (.con (V.fn 40 [] []))]) <|
 .nil) 44 [38, 43] (.tmp 38) (.tmp 43) (.con (V.bool false)) <|
 .op (some 45) .any [44] (.mov (.tmp 44)) <|
 .grp 45 true (.op (some 46) .any [2, 45] (.faddr 13 (.tmp 2)) <|
 .op (some 47) (.int .i64) [46, 45] (.load none (.tmp 46)) <|
 .op (some 48) .any [3, 45] (.faddr 13 (.tmp 3)) <|
 .op (some 49) (.int .i64) [48, 45] (.load none (.tmp 48)) <|
 .op (some 50) .any [47, 49, 45] (.bin .eql .none (.tmp 47) (.tmp 49)) <|
 .nil) 51 [45, 50] (.tmp 45) (.tmp 50) (.con (V.bool false)) <|
 cc4
def T25_3 (E : List (Nat × Blk)) (D : Den) (W : DrawFn) (K4 : Bool → Bool → Bool → Bool → Bool → Bool → Bool → Bool → Bool → Bool → Bool → Bool → Bool → Int → Nat → Nat → Int → Nat → Nat → Nat → Nat → Nat → Nat → H → Ans) (m0 : Bool) (m1 : Bool) (m2 : Bool) (m3 : Bool) (m4 : Bool) (m5 : Bool) (m6 : Bool) (m7 : Int) (m8b : Nat) (m8o : Nat) (m9 : Int) (m10b : Nat) (m10o : Nat) (m11b : Nat) (m11o : Nat) (m12b : Nat) (m12o : Nat) (σ : H) : Ans :=
 joinB (fun c1 s2 =>
 joinB (fun c4 s5 =>
 joinB (fun c7 s8 =>
 K4 c7 c4 c4 c1 c1 m0 m0 m1 m2 m3 m4 m5 m6 m7 m8b m8o m9 m10b m10o m11b m11o m12b m12o s8) fun k9 =>
 condK c4 (
 ldK E s5 m11b (Nat.add m11o 13) fun u10 =>
 rtInt .i64 u10 fun x11 =>
 ldK E s5 m12b (Nat.add m12o 13) fun u12 =>
 rtInt .i64 u12 fun x13 =>
 k9 (eqF x11 x13) s5) (
 k9 false s5)) fun k6 =>
 condK c1 (
 ldK E s2 m11b (Nat.add m11o 12) fun u14 =>
 ldK E s2 m12b (Nat.add m12o 12) fun u15 =>
 callK (D 39 [u14, u15, (V.fn 40 [] [])] s2) fun u16 s17 =>
 rtBool u16 fun x18 =>
 k6 x18 s17) (
 k6 false s2)) fun k3 =>
 condK m0 (
 ldK E σ m11b (Nat.add m11o 11) fun u19 =>
 ldK E σ m12b (Nat.add m12o 11) fun u20 =>
 callK (D 38 [u19, u20] σ) fun u21 s22 =>
 rtBool u21 fun x23 =>
 k3 x23 s22) (
 k3 false σ)
def C25_4 : XL := .op (some 52) .any [51] (.mov (.tmp 51)) <|
 .grp 52 true (.op (some 53) .any [2, 52] (.faddr 14 (.tmp 2)) <|
 .op (some 54) .bool [53, 52] (.load none (.tmp 53)) <|
 .op (some 55) .any [3, 52] (.faddr 14 (.tmp 3)) <|
 .op (some 56) .bool [55, 52] (.load none (.tmp 55)) <|
 .op (some 57) .any [54, 56, 52] (.bin .eql .bool (.tmp 54) (.tmp 56)) <|
 .nil) 58 [52, 57] (.tmp 52) (.tmp 57) (.con (V.bool false)) <|
 .op (some 59) .any [58] (.mov (.tmp 58)) <|
 .grp 59 true (.op (some 60) .any [2, 59] (.faddr 15 (.tmp 2)) <|
 .op (some 61) (.int .i64) [60, 59] (.load none (.tmp 60)) <|
 .op (some 62) .any [3, 59] (.faddr 15 (.tmp 3)) <|
 .op (some 63) (.int .i64) [62, 59] (.load none (.tmp 62)) <|
 .op (some 64) .any [61, 63, 59] (.bin .eql .none (.tmp 61) (.tmp 63)) <|
 .nil) 65 [59, 64] (.tmp 59) (.tmp 64) (.con (V.bool false)) <|
 .op (some 4) .any [65] (.mov (.tmp 65)) <|
 .nil
def T25_4 (E : List (Nat × Blk)) (D : Den) (W : DrawFn) (K2 : Bool → H → Ans) (m0 : Bool) (m1 : Bool) (m2 : Bool) (m3 : Bool) (m4 : Bool) (m5 : Bool) (m6 : Bool) (m7 : Bool) (m8 : Bool) (m9 : Bool) (m10 : Bool) (m11 : Bool) (m12 : Bool) (m13 : Int) (m14b : Nat) (m14o : Nat) (m15 : Int) (m16b : Nat) (m16o : Nat) (m17b : Nat) (m17o : Nat) (m18b : Nat) (m18o : Nat) (σ : H) : Ans :=
 joinB (fun c1 s2 =>
 joinB (fun c4 s5 =>
 K2 c4 s5) fun k6 =>
 condK c1 (
 ldK E s2 m17b (Nat.add m17o 15) fun u7 =>
 rtInt .i64 u7 fun x8 =>
 ldK E s2 m18b (Nat.add m18o 15) fun u9 =>
 rtInt .i64 u9 fun x10 =>
 k6 (eqF x8 x10) s2) (
 k6 false s2)) fun k3 =>
 condK m0 (
 ldK E σ m17b (Nat.add m17o 14) fun u11 =>
 rtBool u11 fun x12 =>
 ldK E σ m18b (Nat.add m18o 14) fun u13 =>
 rtBool u13 fun x14 =>
 eqK .bool (V.bool x12) (V.bool x14) fun c15 =>
 k3 c15 σ) (
 k3 false σ)
theorem P25_0 (E : List (Nat × Blk)) (D : Den) (W : DrawFn) (N : Nat) (cc1 : XC) (v0_0 : Int) (v0_1 : BS) (v0_2 : Bool) (v0_3 : Int) (v0_4 : Int) (v0_5 : Bool) (v0_6 : Bool) (v0_7 : Bool) (v0_8 : Bool) (v0_9 : Int) (v0_10 : Int) (v0_11 : V) (v0_12 : V) (v0_13 : Int) (v0_14 : Bool) (v0_15 : Int) (v1_0 : Int) (v1_1 : BS) (v1_2 : Bool) (v1_3 : Int) (v1_4 : Int) (v1_5 : Bool) (v1_6 : Bool) (v1_7 : Bool) (v1_8 : Bool) (v1_9 : Int) (v1_10 : Int) (v1_11 : V) (v1_12 : V) (v1_13 : Int) (v1_14 : Bool) (v1_15 : Int) (σ : H) :
  denC E D W N (C25_0 cc1) ⟨[(0, (V.agg [(V.int .i64 v0_0), (V.str v0_1), (V.bool v0_2), (V.int .i64 v0_3), (V.int .i64 v0_4), (V.bool v0_5), (V.bool v0_6), (V.bool v0_7), (V.bool v0_8), (V.int .i64 v0_9), (V.int .i64 v0_10), v0_11, v0_12, (V.int .i64 v0_13), (V.bool v0_14), (V.int .i64 v0_15)])), (1, (V.agg [(V.int .i64 v1_0), (V.str v1_1), (V.bool v1_2), (V.int .i64 v1_3), (V.int .i64 v1_4), (V.bool v1_5), (V.bool v1_6), (V.bool v1_7), (V.bool v1_8), (V.int .i64 v1_9), (V.int .i64 v1_10), v1_11, v1_12, (V.int .i64 v1_13), (V.bool v1_14), (V.int .i64 v1_15)]))], [], [], σ⟩ (Fin25 E) (fun _ _ => none) (Fin25 E) =
  T25_0 E D W (fun v2b v2o v3b v3o σ => denC E D W N cc1 ⟨[(2, (V.ptr v2b v2o)), (3, (V.ptr v3b v3o))], [], [], σ⟩ (Fin25 E) (fun _ _ => none) (Fin25 E)) v0_0 v0_1 v0_2 v0_3 v0_4 v0_5 v0_6 v0_7 v0_8 v0_9 v0_10 v0_11 v0_12 v0_13 v0_14 v0_15 v1_0 v1_1 v1_2 v1_3 v1_4 v1_5 v1_6 v1_7 v1_8 v1_9 v1_10 v1_11 v1_12 v1_13 v1_14 v1_15 σ := by kernel_rfl
theorem P25_1 (E : List (Nat × Blk)) (D : Den) (W : DrawFn) (N : Nat) (cc2 : XC) (cc3 : XL) (v2b : Nat) (v2o : Nat) (v3b : Nat) (v3o : Nat) (σ : H) :
  denC E D W N (C25_1 cc2 cc3) ⟨[(2, (V.ptr v2b v2o)), (3, (V.ptr v3b v3o))], [], [], σ⟩ (Fin25 E) (fun _ _ => none) (Fin25 E) =
  T25_1 E D W (fun m0 m1 m2 m3 m4 m5 m6 m7 m8b m8o m9 m10b m10o m11b m11o m12b m12o σ => denL E D false true 0 cc3 26 [(30, (V.bool m0)), (24, (V.bool m1)), (23, (V.bool m2)), (17, (V.bool m3)), (16, (V.bool m4)), (10, (V.bool m5)), (9, (V.bool m6)), (8, (V.int .i64 m7)), (7, (V.ptr m8b m8o)), (6, (V.int .i64 m9)), (5, (V.ptr m10b m10o)), (2, (V.ptr m11b m11o)), (3, (V.ptr m12b m12o))] [] [] σ (fun e q r σ => (fun s' => denC E D W N (.keep [(4, .bool)] [] [] cc2) s' (Fin25 E) (fun _ _ => none) (Fin25 E)) ⟨e, q, r, σ⟩)) v2b v2o v3b v3o σ := by kernel_rfl
theorem P25_2 (E : List (Nat × Blk)) (D : Den) (W : DrawFn) (N : Nat) (v4 : Bool) (σ : H) :
  denC E D W N (C25_2 ) ⟨[(4, (V.bool v4))], [], [], σ⟩ (Fin25 E) (fun _ _ => none) (Fin25 E) =
  T25_2 E D W  v4 σ := by kernel_rfl
theorem P25_3 (E : List (Nat × Blk)) (D : Den) (W : DrawFn) (N : Nat) (cc2 : XC) (cc4 : XL) (m0 : Bool) (m1 : Bool) (m2 : Bool) (m3 : Bool) (m4 : Bool) (m5 : Bool) (m6 : Bool) (m7 : Int) (m8b : Nat) (m8o : Nat) (m9 : Int) (m10b : Nat) (m10o : Nat) (m11b : Nat) (m11o : Nat) (m12b : Nat) (m12o : Nat) (σ : H) :
  denL E D false true 0 (C25_3 cc4) 26 [(30, (V.bool m0)), (24, (V.bool m1)), (23, (V.bool m2)), (17, (V.bool m3)), (16, (V.bool m4)), (10, (V.bool m5)), (9, (V.bool m6)), (8, (V.int .i64 m7)), (7, (V.ptr m8b m8o)), (6, (V.int .i64 m9)), (5, (V.ptr m10b m10o)), (2, (V.ptr m11b m11o)), (3, (V.ptr m12b m12o))] [] [] σ (fun e q r σ => (fun s' => denC E D W N (.keep [(4, .bool)] [] [] cc2) s' (Fin25 E) (fun _ _ => none) (Fin25 E)) ⟨e, q, r, σ⟩) =
  T25_3 E D W (fun m0 m1 m2 m3 m4 m5 m6 m7 m8 m9 m10 m11 m12 m13 m14b m14o m15 m16b m16o m17b m17o m18b m18o σ => denL E D false true 0 cc4 47 [(51, (V.bool m0)), (45, (V.bool m1)), (44, (V.bool m2)), (38, (V.bool m3)), (37, (V.bool m4)), (31, (V.bool m5)), (30, (V.bool m6)), (24, (V.bool m7)), (23, (V.bool m8)), (17, (V.bool m9)), (16, (V.bool m10)), (10, (V.bool m11)), (9, (V.bool m12)), (8, (V.int .i64 m13)), (7, (V.ptr m14b m14o)), (6, (V.int .i64 m15)), (5, (V.ptr m16b m16o)), (2, (V.ptr m17b m17o)), (3, (V.ptr m18b m18o))] [] [] σ (fun e q r σ => (fun s' => denC E D W N (.keep [(4, .bool)] [] [] cc2) s' (Fin25 E) (fun _ _ => none) (Fin25 E)) ⟨e, q, r, σ⟩)) m0 m1 m2 m3 m4 m5 m6 m7 m8b m8o m9 m10b m10o m11b m11o m12b m12o σ := by kernel_rfl
theorem P25_4 (E : List (Nat × Blk)) (D : Den) (W : DrawFn) (N : Nat) (cc2 : XC) (m0 : Bool) (m1 : Bool) (m2 : Bool) (m3 : Bool) (m4 : Bool) (m5 : Bool) (m6 : Bool) (m7 : Bool) (m8 : Bool) (m9 : Bool) (m10 : Bool) (m11 : Bool) (m12 : Bool) (m13 : Int) (m14b : Nat) (m14o : Nat) (m15 : Int) (m16b : Nat) (m16o : Nat) (m17b : Nat) (m17o : Nat) (m18b : Nat) (m18o : Nat) (σ : H) :
  denL E D false true 0 (C25_4 ) 47 [(51, (V.bool m0)), (45, (V.bool m1)), (44, (V.bool m2)), (38, (V.bool m3)), (37, (V.bool m4)), (31, (V.bool m5)), (30, (V.bool m6)), (24, (V.bool m7)), (23, (V.bool m8)), (17, (V.bool m9)), (16, (V.bool m10)), (10, (V.bool m11)), (9, (V.bool m12)), (8, (V.int .i64 m13)), (7, (V.ptr m14b m14o)), (6, (V.int .i64 m15)), (5, (V.ptr m16b m16o)), (2, (V.ptr m17b m17o)), (3, (V.ptr m18b m18o))] [] [] σ (fun e q r σ => (fun s' => denC E D W N (.keep [(4, .bool)] [] [] cc2) s' (Fin25 E) (fun _ _ => none) (Fin25 E)) ⟨e, q, r, σ⟩) =
  T25_4 E D W (fun v4 σ => denC E D W N cc2 ⟨[(4, (V.bool v4))], [], [], σ⟩ (Fin25 E) (fun _ _ => none) (Fin25 E)) m0 m1 m2 m3 m4 m5 m6 m7 m8 m9 m10 m11 m12 m13 m14b m14o m15 m16b m16o m17b m17o m18b m18o σ := by kernel_rfl
def J25_2 (E : List (Nat × Blk)) (D : Den) (W : DrawFn) (N : Nat) : Bool → H → Ans := T25_2 E D W 
theorem JE25_2 (E : List (Nat × Blk)) (D : Den) (W : DrawFn) (N : Nat) (v4 : Bool) (σ : H) :
  denC E D W N C25_2 ⟨[(4, (V.bool v4))], [], [], σ⟩ (Fin25 E) (fun _ _ => none) (Fin25 E) = J25_2 E D W N v4 σ := by
  refine (P25_2 E D W N   v4 σ).trans ?_
  kernel_rfl
def J25_4 (E : List (Nat × Blk)) (D : Den) (W : DrawFn) (N : Nat) : Bool → Bool → Bool → Bool → Bool → Bool → Bool → Bool → Bool → Bool → Bool → Bool → Bool → Int → Nat → Nat → Int → Nat → Nat → Nat → Nat → Nat → Nat → H → Ans := T25_4 E D W (J25_2 E D W N )
theorem JE25_4 (E : List (Nat × Blk)) (D : Den) (W : DrawFn) (N : Nat) (m0 : Bool) (m1 : Bool) (m2 : Bool) (m3 : Bool) (m4 : Bool) (m5 : Bool) (m6 : Bool) (m7 : Bool) (m8 : Bool) (m9 : Bool) (m10 : Bool) (m11 : Bool) (m12 : Bool) (m13 : Int) (m14b : Nat) (m14o : Nat) (m15 : Int) (m16b : Nat) (m16o : Nat) (m17b : Nat) (m17o : Nat) (m18b : Nat) (m18o : Nat) (σ : H) :
  denL E D false true 0 C25_4 47 [(51, (V.bool m0)), (45, (V.bool m1)), (44, (V.bool m2)), (38, (V.bool m3)), (37, (V.bool m4)), (31, (V.bool m5)), (30, (V.bool m6)), (24, (V.bool m7)), (23, (V.bool m8)), (17, (V.bool m9)), (16, (V.bool m10)), (10, (V.bool m11)), (9, (V.bool m12)), (8, (V.int .i64 m13)), (7, (V.ptr m14b m14o)), (6, (V.int .i64 m15)), (5, (V.ptr m16b m16o)), (2, (V.ptr m17b m17o)), (3, (V.ptr m18b m18o))] [] [] σ (fun e q r σ => (fun s' => denC E D W N (.keep [(4, .bool)] [] [] C25_2) s' (Fin25 E) (fun _ _ => none) (Fin25 E)) ⟨e, q, r, σ⟩) = J25_4 E D W N m0 m1 m2 m3 m4 m5 m6 m7 m8 m9 m10 m11 m12 m13 m14b m14o m15 m16b m16o m17b m17o m18b m18o σ := by
  refine (P25_4 E D W N C25_2  m0 m1 m2 m3 m4 m5 m6 m7 m8 m9 m10 m11 m12 m13 m14b m14o m15 m16b m16o m17b m17o m18b m18o σ).trans ?_
  simp only [JE25_2]
  kernel_rfl
def J25_3 (E : List (Nat × Blk)) (D : Den) (W : DrawFn) (N : Nat) : Bool → Bool → Bool → Bool → Bool → Bool → Bool → Int → Nat → Nat → Int → Nat → Nat → Nat → Nat → Nat → Nat → H → Ans := T25_3 E D W (J25_4 E D W N )
theorem JE25_3 (E : List (Nat × Blk)) (D : Den) (W : DrawFn) (N : Nat) (m0 : Bool) (m1 : Bool) (m2 : Bool) (m3 : Bool) (m4 : Bool) (m5 : Bool) (m6 : Bool) (m7 : Int) (m8b : Nat) (m8o : Nat) (m9 : Int) (m10b : Nat) (m10o : Nat) (m11b : Nat) (m11o : Nat) (m12b : Nat) (m12o : Nat) (σ : H) :
  denL E D false true 0 (C25_3 C25_4) 26 [(30, (V.bool m0)), (24, (V.bool m1)), (23, (V.bool m2)), (17, (V.bool m3)), (16, (V.bool m4)), (10, (V.bool m5)), (9, (V.bool m6)), (8, (V.int .i64 m7)), (7, (V.ptr m8b m8o)), (6, (V.int .i64 m9)), (5, (V.ptr m10b m10o)), (2, (V.ptr m11b m11o)), (3, (V.ptr m12b m12o))] [] [] σ (fun e q r σ => (fun s' => denC E D W N (.keep [(4, .bool)] [] [] C25_2) s' (Fin25 E) (fun _ _ => none) (Fin25 E)) ⟨e, q, r, σ⟩) = J25_3 E D W N m0 m1 m2 m3 m4 m5 m6 m7 m8b m8o m9 m10b m10o m11b m11o m12b m12o σ := by
  refine (P25_3 E D W N C25_2 C25_4  m0 m1 m2 m3 m4 m5 m6 m7 m8b m8o m9 m10b m10o m11b m11o m12b m12o σ).trans ?_
  simp only [JE25_4]
  kernel_rfl
def J25_1 (E : List (Nat × Blk)) (D : Den) (W : DrawFn) (N : Nat) : Nat → Nat → Nat → Nat → H → Ans := T25_1 E D W (J25_3 E D W N )
theorem JE25_1 (E : List (Nat × Blk)) (D : Den) (W : DrawFn) (N : Nat) (v2b : Nat) (v2o : Nat) (v3b : Nat) (v3o : Nat) (σ : H) :
  denC E D W N (C25_1 C25_2 (C25_3 C25_4)) ⟨[(2, (V.ptr v2b v2o)), (3, (V.ptr v3b v3o))], [], [], σ⟩ (Fin25 E) (fun _ _ => none) (Fin25 E) = J25_1 E D W N v2b v2o v3b v3o σ := by
  refine (P25_1 E D W N C25_2 (C25_3 C25_4)  v2b v2o v3b v3o σ).trans ?_
  simp only [JE25_3]
  kernel_rfl
def J25_0 (E : List (Nat × Blk)) (D : Den) (W : DrawFn) (N : Nat) : Int → BS → Bool → Int → Int → Bool → Bool → Bool → Bool → Int → Int → V → V → Int → Bool → Int → Int → BS → Bool → Int → Int → Bool → Bool → Bool → Bool → Int → Int → V → V → Int → Bool → Int → H → Ans := T25_0 E D W (J25_1 E D W N )
theorem JE25_0 (E : List (Nat × Blk)) (D : Den) (W : DrawFn) (N : Nat) (v0_0 : Int) (v0_1 : BS) (v0_2 : Bool) (v0_3 : Int) (v0_4 : Int) (v0_5 : Bool) (v0_6 : Bool) (v0_7 : Bool) (v0_8 : Bool) (v0_9 : Int) (v0_10 : Int) (v0_11 : V) (v0_12 : V) (v0_13 : Int) (v0_14 : Bool) (v0_15 : Int) (v1_0 : Int) (v1_1 : BS) (v1_2 : Bool) (v1_3 : Int) (v1_4 : Int) (v1_5 : Bool) (v1_6 : Bool) (v1_7 : Bool) (v1_8 : Bool) (v1_9 : Int) (v1_10 : Int) (v1_11 : V) (v1_12 : V) (v1_13 : Int) (v1_14 : Bool) (v1_15 : Int) (σ : H) :
  denC E D W N (C25_0 (C25_1 C25_2 (C25_3 C25_4))) ⟨[(0, (V.agg [(V.int .i64 v0_0), (V.str v0_1), (V.bool v0_2), (V.int .i64 v0_3), (V.int .i64 v0_4), (V.bool v0_5), (V.bool v0_6), (V.bool v0_7), (V.bool v0_8), (V.int .i64 v0_9), (V.int .i64 v0_10), v0_11, v0_12, (V.int .i64 v0_13), (V.bool v0_14), (V.int .i64 v0_15)])), (1, (V.agg [(V.int .i64 v1_0), (V.str v1_1), (V.bool v1_2), (V.int .i64 v1_3), (V.int .i64 v1_4), (V.bool v1_5), (V.bool v1_6), (V.bool v1_7), (V.bool v1_8), (V.int .i64 v1_9), (V.int .i64 v1_10), v1_11, v1_12, (V.int .i64 v1_13), (V.bool v1_14), (V.int .i64 v1_15)]))], [], [], σ⟩ (Fin25 E) (fun _ _ => none) (Fin25 E) = J25_0 E D W N v0_0 v0_1 v0_2 v0_3 v0_4 v0_5 v0_6 v0_7 v0_8 v0_9 v0_10 v0_11 v0_12 v0_13 v0_14 v0_15 v1_0 v1_1 v1_2 v1_3 v1_4 v1_5 v1_6 v1_7 v1_8 v1_9 v1_10 v1_11 v1_12 v1_13 v1_14 v1_15 σ := by
  refine (P25_0 E D W N (C25_1 C25_2 (C25_3 C25_4))  v0_0 v0_1 v0_2 v0_3 v0_4 v0_5 v0_6 v0_7 v0_8 v0_9 v0_10 v0_11 v0_12 v0_13 v0_14 v0_15 v1_0 v1_1 v1_2 v1_3 v1_4 v1_5 v1_6 v1_7 v1_8 v1_9 v1_10 v1_11 v1_12 v1_13 v1_14 v1_15 σ).trans ?_
  simp only [JE25_1]
  kernel_rfl
def F25 (E : List (Nat × Blk)) (D : Den) (W : DrawFn) (N : Nat) (args : List V) (σ : H) : Ans :=
 rtCons args fun x1 l2 =>
 rtAgg x1 fun l3 =>
 rtCons l3 fun x4 l5 =>
 rtInt .i64 x4 fun x6 =>
 rtCons l5 fun x7 l8 =>
 rtStr x7 fun x9 =>
 rtCons l8 fun x10 l11 =>
 rtBool x10 fun x12 =>
 rtCons l11 fun x13 l14 =>
 rtInt .i64 x13 fun x15 =>
 rtCons l14 fun x16 l17 =>
 rtInt .i64 x16 fun x18 =>
 rtCons l17 fun x19 l20 =>
 rtBool x19 fun x21 =>
 rtCons l20 fun x22 l23 =>
 rtBool x22 fun x24 =>
 rtCons l23 fun x25 l26 =>
 rtBool x25 fun x27 =>
 rtCons l26 fun x28 l29 =>
 rtBool x28 fun x30 =>
 rtCons l29 fun x31 l32 =>
 rtInt .i64 x31 fun x33 =>
 rtCons l32 fun x34 l35 =>
 rtInt .i64 x34 fun x36 =>
 rtCons l35 fun x37 l38 =>
 rtCons l38 fun x39 l40 =>
 rtCons l40 fun x41 l42 =>
 rtInt .i64 x41 fun x43 =>
 rtCons l42 fun x44 l45 =>
 rtBool x44 fun x46 =>
 rtCons l45 fun x47 l48 =>
 rtInt .i64 x47 fun x49 =>
 rtNil l48 (
 rtCons l2 fun x50 l51 =>
 rtAgg x50 fun l52 =>
 rtCons l52 fun x53 l54 =>
 rtInt .i64 x53 fun x55 =>
 rtCons l54 fun x56 l57 =>
 rtStr x56 fun x58 =>
 rtCons l57 fun x59 l60 =>
 rtBool x59 fun x61 =>
 rtCons l60 fun x62 l63 =>
 rtInt .i64 x62 fun x64 =>
 rtCons l63 fun x65 l66 =>
 rtInt .i64 x65 fun x67 =>
 rtCons l66 fun x68 l69 =>
 rtBool x68 fun x70 =>
 rtCons l69 fun x71 l72 =>
 rtBool x71 fun x73 =>
 rtCons l72 fun x74 l75 =>
 rtBool x74 fun x76 =>
 rtCons l75 fun x77 l78 =>
 rtBool x77 fun x79 =>
 rtCons l78 fun x80 l81 =>
 rtInt .i64 x80 fun x82 =>
 rtCons l81 fun x83 l84 =>
 rtInt .i64 x83 fun x85 =>
 rtCons l84 fun x86 l87 =>
 rtCons l87 fun x88 l89 =>
 rtCons l89 fun x90 l91 =>
 rtInt .i64 x90 fun x92 =>
 rtCons l91 fun x93 l94 =>
 rtBool x93 fun x95 =>
 rtCons l94 fun x96 l97 =>
 rtInt .i64 x96 fun x98 =>
 rtNil l97 (
 rtNil l51 (
 J25_0 E D W N x6 x9 x12 x15 x18 x21 x24 x27 x30 x33 x36 x37 x39 x43 x46 x49 x55 x58 x61 x64 x67 x70 x73 x76 x79 x82 x85 x86 x88 x92 x95 x98 σ)))
def A25 : XFn := ⟨66, [(.agg [(.int .i64), .str, .bool, (.int .i64), (.int .i64), .bool, .bool, .bool, .bool, (.int .i64), (.int .i64), .any, .any, (.int .i64), .bool, (.int .i64)]), (.agg [(.int .i64), .str, .bool, (.int .i64), (.int .i64), .bool, .bool, .bool, .bool, (.int .i64), (.int .i64), .any, .any, (.int .i64), .bool, (.int .i64)])], [(.tmp 4)], (C25_0 (C25_1 C25_2 (C25_3 C25_4)))⟩
theorem FE25 (E : List (Nat × Blk)) (D : Den) (W : DrawFn) (N : Nat) (args : List V) (σ : H) : runX E D W N A25 args σ = F25 E D W N args σ := by
  unfold F25
  simp only [← JE25_0]
  kernel_rfl
theorem AO25 : A25.body.ok = true := by kernel_rfl

/-! ### F26: ogham_oghamref04.white -/
def Fin26 (E : List (Nat × Blk)) : St → Ans := fun s => resK E s [(.tmp 4)] fun l => some (oneV l, s.σ)
def C26_0 (cc1 : XC) (cc2 : XC) : XC := (.seq (.ops (.op (some 4) .any [] (.mov (.con (V.int .i64 (Int.ofNat 0)))) <|
 .nil))
 (.seq (.block 0 (.loop [(0, .str), (1, (.int .i64))] [] [] cc2))
 (.keep [(1, (.int .i64))] [] [] cc1)))
def T26_0 (E : List (Nat × Blk)) (D : Den) (W : DrawFn) (K2 : BS → Int → H → Ans) (v0 : BS) (v1 : Int) (σ : H) : Ans :=
 K2 v0 v1 σ
def C26_1 : XC := (.seq (.ops (.op (some 74) .any [1] (.mov (.tmp 1)) <|
 .op (some 4) .any [74] (.mov (.tmp 74)) <|
 .nil))
 .ret)
def T26_1 (E : List (Nat × Blk)) (D : Den) (W : DrawFn) (v1 : Int) (σ : H) : Ans :=
 some ((V.int .i64 v1), σ)
def C26_2 (cc3 : XC) : XC := (.seq (.seq (.ops (.op (some 5) .any [1] (.mov (.tmp 1)) <|
 .op (some 6) .any [0] (.mov (.tmp 0)) <|
 .op (some 7) .any [6] (.len true (.tmp 6)) <|
 .op (some 8) .any [5, 7] (.bin .lss .none (.tmp 5) (.tmp 7)) <|
 .nil))
 (.cond (.tmp 8) .skip
 (.exit 0)))
 (.block 1 (.block 2 (.seq (.ops (.op (some 11) .any [0] (.mov (.tmp 0)) <|
 .op (some 12) .any [1] (.mov (.tmp 1)) <|
 .op (some 13) .any [11, 12] (.idxStr (.tmp 11) (.tmp 12)) <|
 .op (some 14) .any [13] (.bin .eql .none (.tmp 13) (.con (V.int .u8 (Int.ofNat 32)))) <|
 .op (some 15) .any [14] (.mov (.tmp 14)) <|
 .grp 15 false (.op (some 16) .any [0, 15] (.mov (.tmp 0)) <|
 .op (some 17) .any [1, 15] (.mov (.tmp 1)) <|
 .op (some 18) .any [16, 17, 15] (.idxStr (.tmp 16) (.tmp 17)) <|
 .op (some 19) .any [18, 15] (.bin .eql .none (.tmp 18) (.con (V.int .u8 (Int.ofNat 9)))) <|
 .nil) 20 [15, 19] (.tmp 15) (.con (V.bool true)) (.tmp 19) <|
 .op (some 21) .any [20] (.mov (.tmp 20)) <|
 .grp 21 false (.op (some 22) .any [0, 21] (.mov (.tmp 0)) <|
 .op (some 23) .any [1, 21] (.mov (.tmp 1)) <|
 .op (some 24) .any [22, 23, 21] (.idxStr (.tmp 22) (.tmp 23)) <|
 .op (some 25) .any [24, 21] (.bin .eql .none (.tmp 24) (.con (V.int .u8 (Int.ofNat 10)))) <|
 .nil) 26 [21, 25] (.tmp 21) (.con (V.bool true)) (.tmp 25) <|
 .op (some 27) .any [26] (.mov (.tmp 26)) <|
 .grp 27 false (.op (some 28) .any [0, 27] (.mov (.tmp 0)) <|
 .op (some 29) .any [1, 27] (.mov (.tmp 1)) <|
 .op (some 30) .any [28, 29, 27] (.idxStr (.tmp 28) (.tmp 29)) <|
 .op (some 31) .any [30, 27] (.bin .eql .none (.tmp 30) (.con (V.int .u8 (Int.ofNat 13)))) <|
 .nil) 32 [27, 31] (.tmp 27) (.con (V.bool true)) (.tmp 31) <|
 .op (some 10) .any [32] (.mov (.tmp 32)) <|
 .nil))
 (.cond (.tmp 10) (.ops (.op (some 33) .any [1] (.mov (.tmp 1)) <|
 .op (some 34) .any [33] (.bin .add .none (.tmp 33) (.con (V.int .i64 (Int.ofNat 1)))) <|
 .op (some 1) .any [34] (.mov (.tmp 34)) <|
 .nil))
 (.seq (.ops (.op (some 36) .any [0] (.mov (.tmp 0)) <|
 .op (some 37) .any [1] (.mov (.tmp 1)) <|
 .op (some 38) .any [36, 37] (.idxStr (.tmp 36) (.tmp 37)) <|
 .op (some 39) .any [38] (.bin .eql .none (.tmp 38) (.con (V.int .u8 (Int.ofNat 45)))) <|
 .op (some 40) .any [39] (.mov (.tmp 39)) <|
 .grp 40 true (.op (some 41) .any [0, 40] (.mov (.tmp 0)) <|
 .op (some 42) .any [1, 40] (.mov (.tmp 1)) <|
 .op (some 43) .any [42, 40] (.bin .add .none (.tmp 42) (.con (V.int .i64 (Int.ofNat 1)))) <|
 .op (some 44) (.int .u8) [41, 43, 40] (.call 41 [(.tmp 41), (.tmp 43)]) <|
 .op (some 45) .any [44, 40] (.bin .eql .none (.tmp 44) (.con (V.int .u8 (Int.ofNat 45)))) <|
 .nil) 46 [40, 45] (.tmp 40) (.tmp 45) (.con (V.bool false)) <|
 .op (some 35) .any [46] (.mov (.tmp 46)) <|
 .nil))
 (.cond (.tmp 35) (.seq (.ops (.op (some 47) .any [1] (.mov (.tmp 1)) <|
 .op (some 48) .any [47] (.bin .add .none (.tmp 47) (.con (V.int .i64 (Int.ofNat 2)))) <|
 .op (some 1) .any [48] (.mov (.tmp 48)) <|
 .nil))
 (.block 3 (.loop [(0, .str), (1, (.int .i64))] [] [] cc3)))
 (.seq (.ops (.op (some 9) .any [1] (.mov (.tmp 1)) <|
 .op (some 4) .any [9] (.mov (.tmp 9)) <|
 .nil))
 .ret))))))))
def T26_2 (E : List (Nat × Blk)) (D : Den) (W : DrawFn) (K1 : Int → H → Ans) (K3 : BS → Int → H → Ans) (R2 : BS → Int → H → Ans) (v0 : BS) (v1 : Int) (σ : H) : Ans :=
 condK (ltF v1 (Int.ofNat (BS.len v0))) (
 idxStrX v0 v1 fun x1 =>
 joinB (fun c2 s3 =>
 joinB (fun c5 s6 =>
 joinB (fun c8 s9 =>
 condK c8 (
 R2 v0 (addF .i64 v1 (Int.ofNat 1)) s9) (
 idxStrX v0 v1 fun x11 =>
 joinB (fun c12 s13 =>
 condK c12 (
 K3 v0 (addF .i64 v1 (Int.ofNat 2)) s13) (
 some ((V.int .i64 v1), s13))) fun k14 =>
 condK (eqF x11 (Int.ofNat 45)) (
 callK (D 41 [(V.str v0), (V.int .i64 (addF .i64 v1 (Int.ofNat 1)))] s9) fun u15 s16 =>
 rtInt .u8 u15 fun x17 =>
 k14 (eqF x17 (Int.ofNat 45)) s16) (
 k14 false s9))) fun k10 =>
 condK c5 (
 k10 true s6) (
 idxStrX v0 v1 fun x18 =>
 k10 (eqF x18 (Int.ofNat 13)) s6)) fun k7 =>
 condK c2 (
 k7 true s3) (
 idxStrX v0 v1 fun x19 =>
 k7 (eqF x19 (Int.ofNat 10)) s3)) fun k4 =>
 condK (eqF x1 (Int.ofNat 32)) (
 k4 true σ) (
 idxStrX v0 v1 fun x20 =>
 k4 (eqF x20 (Int.ofNat 9)) σ)) (
 K1 v1 σ)
def C26_3 : XC := (.seq (.seq (.ops (.op (some 49) .any [1] (.mov (.tmp 1)) <|
 .op (some 50) .any [0] (.mov (.tmp 0)) <|
 .op (some 51) .any [50] (.len true (.tmp 50)) <|
 .op (some 52) .any [49, 51] (.bin .lss .none (.tmp 49) (.tmp 51)) <|
 .op (some 53) .any [52] (.mov (.tmp 52)) <|
 .grp 53 true (.op (some 54) .any [0, 53] (.mov (.tmp 0)) <|
 .op (some 55) .any [1, 53] (.mov (.tmp 1)) <|
 .op (some 56) .any [54, 55, 53] (.idxStr (.tmp 54) (.tmp 55)) <|
 .op (some 57) .any [56, 53] (.bin .neq .none (.tmp 56) (.con (V.int .u8 (Int.ofNat 10)))) <|
 .nil) 58 [53, 57] (.tmp 53) (.tmp 57) (.con (V.bool false)) <|
 .nil))
 (.cond (.tmp 58) .skip
 (.exit 3)))
 (.block 4 (.seq (.seq (.ops (.op (some 59) .any [0] (.mov (.tmp 0)) <|
 .op (some 60) .any [1] (.mov (.tmp 1)) <|
 .op (some 61) .any [59, 60] (.idxStr (.tmp 59) (.tmp 60)) <|
 .op (some 62) .any [61] (.bin .eql .none (.tmp 61) (.con (V.int .u8 (Int.ofNat 45)))) <|
 .op (some 63) .any [62] (.mov (.tmp 62)) <|
 .grp 63 true (.op (some 64) .any [0, 63] (.mov (.tmp 0)) <|
 .op (some 65) .any [1, 63] (.mov (.tmp 1)) <|
 .op (some 66) .any [65, 63] (.bin .add .none (.tmp 65) (.con (V.int .i64 (Int.ofNat 1)))) <|
 .op (some 67) (.int .u8) [64, 66, 63] (.call 41 [(.tmp 64), (.tmp 66)]) <|
 .op (some 68) .any [67, 63] (.bin .eql .none (.tmp 67) (.con (V.int .u8 (Int.ofNat 45)))) <|
 .nil) 69 [63, 68] (.tmp 63) (.tmp 68) (.con (V.bool false)) <|
 .nil))
 (.cond (.tmp 69) (.seq (.ops (.op (some 70) .any [1] (.mov (.tmp 1)) <|
 .op (some 71) .any [70] (.bin .add .none (.tmp 70) (.con (V.int .i64 (Int.ofNat 2)))) <|
 .op (some 1) .any [71] (.mov (.tmp 71)) <|
 .nil))
 (.exit 3))
 .skip))
 (.ops (.op (some 72) .any [1] (.mov (.tmp 1)) <|
 .op (some 73) .any [72] (.bin .add .none (.tmp 72) (.con (V.int .i64 (Int.ofNat 1)))) <|
 .op (some 1) .any [73] (.mov (.tmp 73)) <|
 .nil)))))
def T26_3 (E : List (Nat × Blk)) (D : Den) (W : DrawFn) (R2 : BS → Int → H → Ans) (R3 : BS → Int → H → Ans) (v0 : BS) (v1 : Int) (σ : H) : Ans :=
 joinB (fun c1 s2 =>
 condK c1 (
 idxStrX v0 v1 fun x4 =>
 joinB (fun c5 s6 =>
 condK c5 (
 R2 v0 (addF .i64 v1 (Int.ofNat 2)) s6) (
 R3 v0 (addF .i64 v1 (Int.ofNat 1)) s6)) fun k7 =>
 condK (eqF x4 (Int.ofNat 45)) (
 callK (D 41 [(V.str v0), (V.int .i64 (addF .i64 v1 (Int.ofNat 1)))] s2) fun u8 s9 =>
 rtInt .u8 u8 fun x10 =>
 k7 (eqF x10 (Int.ofNat 45)) s9) (
 k7 false s2)) (
 R2 v0 v1 s2)) fun k3 =>
 condK (ltF v1 (Int.ofNat (BS.len v0))) (
 idxStrX v0 v1 fun x11 =>
 k3 (not (eqF x11 (Int.ofNat 10))) σ) (
 k3 false σ)
theorem P26_0 (E : List (Nat × Blk)) (D : Den) (W : DrawFn) (N : Nat) (cc1 : XC) (cc2 : XC) (v0 : BS) (v1 : Int) (σ : H) :
  denC E D W N (C26_0 cc1 cc2) ⟨[(0, (V.str v0)), (1, (V.int .i64 v1))], [], [], σ⟩ (Fin26 E) (fun _ _ => none) (Fin26 E) =
  T26_0 E D W (fun v0 v1 σ => iterK (fun rec s' => denC E D W N cc2 s' (fun s'' => keepS [(0, .str), (1, (.int .i64))] [] [] s'' rec) (blkK 0 (fun s' => denC E D W N (.keep [(1, (.int .i64))] [] [] cc1) s' (Fin26 E) (fun _ _ => none) (Fin26 E)) (fun _ _ => none)) (Fin26 E)) N ⟨[(0, (V.str v0)), (1, (V.int .i64 v1))], [], [], σ⟩) v0 v1 σ := by kernel_rfl
theorem P26_1 (E : List (Nat × Blk)) (D : Den) (W : DrawFn) (N : Nat) (v1 : Int) (σ : H) :
  denC E D W N (C26_1 ) ⟨[(1, (V.int .i64 v1))], [], [], σ⟩ (Fin26 E) (fun _ _ => none) (Fin26 E) =
  T26_1 E D W  v1 σ := by kernel_rfl
theorem P26_2 (E : List (Nat × Blk)) (D : Den) (W : DrawFn) (N : Nat) (cc1 : XC) (cc3 : XC) (li2 : St → Ans) (v0 : BS) (v1 : Int) (σ : H) :
  denC E D W N (C26_2 cc3) ⟨[(0, (V.str v0)), (1, (V.int .i64 v1))], [], [], σ⟩ (fun s'' => keepS [(0, .str), (1, (.int .i64))] [] [] s'' li2) (blkK 0 (fun s' => denC E D W N (.keep [(1, (.int .i64))] [] [] cc1) s' (Fin26 E) (fun _ _ => none) (Fin26 E)) (fun _ _ => none)) (Fin26 E) =
  T26_2 E D W (fun v1 σ => denC E D W N cc1 ⟨[(1, (V.int .i64 v1))], [], [], σ⟩ (Fin26 E) (fun _ _ => none) (Fin26 E)) (fun v0 v1 σ => iterK (fun rec s' => denC E D W N cc3 s' (fun s'' => keepS [(0, .str), (1, (.int .i64))] [] [] s'' rec) (blkK 3 (fun s'' => keepS [(0, .str), (1, (.int .i64))] [] [] s'' li2) (blkK 2 (fun s'' => keepS [(0, .str), (1, (.int .i64))] [] [] s'' li2) (blkK 1 (fun s'' => keepS [(0, .str), (1, (.int .i64))] [] [] s'' li2) (blkK 0 (fun s' => denC E D W N (.keep [(1, (.int .i64))] [] [] cc1) s' (Fin26 E) (fun _ _ => none) (Fin26 E)) (fun _ _ => none))))) (Fin26 E)) N ⟨[(0, (V.str v0)), (1, (V.int .i64 v1))], [], [], σ⟩) (fun v0 v1 σ => li2 ⟨[(0, (V.str v0)), (1, (V.int .i64 v1))], [], [], σ⟩) v0 v1 σ := by kernel_rfl
theorem P26_3 (E : List (Nat × Blk)) (D : Den) (W : DrawFn) (N : Nat) (cc1 : XC) (li2 : St → Ans) (li3 : St → Ans) (v0 : BS) (v1 : Int) (σ : H) :
  denC E D W N (C26_3 ) ⟨[(0, (V.str v0)), (1, (V.int .i64 v1))], [], [], σ⟩ (fun s'' => keepS [(0, .str), (1, (.int .i64))] [] [] s'' li3) (blkK 3 (fun s'' => keepS [(0, .str), (1, (.int .i64))] [] [] s'' li2) (blkK 2 (fun s'' => keepS [(0, .str), (1, (.int .i64))] [] [] s'' li2) (blkK 1 (fun s'' => keepS [(0, .str), (1, (.int .i64))] [] [] s'' li2) (blkK 0 (fun s' => denC E D W N (.keep [(1, (.int .i64))] [] [] cc1) s' (Fin26 E) (fun _ _ => none) (Fin26 E)) (fun _ _ => none))))) (Fin26 E) =
  T26_3 E D W (fun v0 v1 σ => li2 ⟨[(0, (V.str v0)), (1, (V.int .i64 v1))], [], [], σ⟩) (fun v0 v1 σ => li3 ⟨[(0, (V.str v0)), (1, (V.int .i64 v1))], [], [], σ⟩) v0 v1 σ := by kernel_rfl
def J26_1 (E : List (Nat × Blk)) (D : Den) (W : DrawFn) (N : Nat) : Int → H → Ans := T26_1 E D W 
theorem JE26_1 (E : List (Nat × Blk)) (D : Den) (W : DrawFn) (N : Nat) (v1 : Int) (σ : H) :
  denC E D W N C26_1 ⟨[(1, (V.int .i64 v1))], [], [], σ⟩ (Fin26 E) (fun _ _ => none) (Fin26 E) = J26_1 E D W N v1 σ := by
  refine (P26_1 E D W N   v1 σ).trans ?_
  kernel_rfl
def L26_3 (E : List (Nat × Blk)) (D : Den) (W : DrawFn) (N : Nat) (R2 : BS → Int → H → Ans) (n : Nat) : BS → Int → H → Ans :=
  Nat.rec (fun _ _ _ => none) (fun _ ih => T26_3 E D W R2 ih) n
theorem LE26_3 (E : List (Nat × Blk)) (D : Den) (W : DrawFn) (N : Nat) (li2 : St → Ans) (n : Nat) : ∀ (v0 : BS) (v1 : Int) (σ : H),
  iterK (fun rec s' => denC E D W N C26_3 s' (fun s'' => keepS [(0, .str), (1, (.int .i64))] [] [] s'' rec) (blkK 3 (fun s'' => keepS [(0, .str), (1, (.int .i64))] [] [] s'' li2) (blkK 2 (fun s'' => keepS [(0, .str), (1, (.int .i64))] [] [] s'' li2) (blkK 1 (fun s'' => keepS [(0, .str), (1, (.int .i64))] [] [] s'' li2) (blkK 0 (fun s' => denC E D W N (.keep [(1, (.int .i64))] [] [] C26_1) s' (Fin26 E) (fun _ _ => none) (Fin26 E)) (fun _ _ => none))))) (Fin26 E)) n ⟨[(0, (V.str v0)), (1, (V.int .i64 v1))], [], [], σ⟩ = L26_3 E D W N (fun v0 v1 σ => li2 ⟨[(0, (V.str v0)), (1, (V.int .i64 v1))], [], [], σ⟩) n v0 v1 σ := by
  induction n with
  | zero => intro v0 v1 σ; rfl
  | succ n ihn =>
    intro v0 v1 σ
    rw [iterK_succ]
    refine (P26_3 E D W N C26_1 li2 (iterK (fun rec s' => denC E D W N C26_3 s' (fun s'' => keepS [(0, .str), (1, (.int .i64))] [] [] s'' rec) (blkK 3 (fun s'' => keepS [(0, .str), (1, (.int .i64))] [] [] s'' li2) (blkK 2 (fun s'' => keepS [(0, .str), (1, (.int .i64))] [] [] s'' li2) (blkK 1 (fun s'' => keepS [(0, .str), (1, (.int .i64))] [] [] s'' li2) (blkK 0 (fun s' => denC E D W N (.keep [(1, (.int .i64))] [] [] C26_1) s' (Fin26 E) (fun _ _ => none) (Fin26 E)) (fun _ _ => none))))) (Fin26 E)) n) v0 v1 σ).trans ?_
    simp only [ihn]
    kernel_rfl
def L26_2 (E : List (Nat × Blk)) (D : Den) (W : DrawFn) (N : Nat) (n : Nat) : BS → Int → H → Ans :=
  Nat.rec (fun _ _ _ => none) (fun _ ih => T26_2 E D W (J26_1 E D W N ) (L26_3 E D W N ih N) ih) n
theorem LE26_2 (E : List (Nat × Blk)) (D : Den) (W : DrawFn) (N : Nat) (n : Nat) : ∀ (v0 : BS) (v1 : Int) (σ : H),
  iterK (fun rec s' => denC E D W N (C26_2 C26_3) s' (fun s'' => keepS [(0, .str), (1, (.int .i64))] [] [] s'' rec) (blkK 0 (fun s' => denC E D W N (.keep [(1, (.int .i64))] [] [] C26_1) s' (Fin26 E) (fun _ _ => none) (Fin26 E)) (fun _ _ => none)) (Fin26 E)) n ⟨[(0, (V.str v0)), (1, (V.int .i64 v1))], [], [], σ⟩ = L26_2 E D W N n v0 v1 σ := by
  induction n with
  | zero => intro v0 v1 σ; rfl
  | succ n ihn =>
    intro v0 v1 σ
    rw [iterK_succ]
    refine (P26_2 E D W N C26_1 C26_3 (iterK (fun rec s' => denC E D W N (C26_2 C26_3) s' (fun s'' => keepS [(0, .str), (1, (.int .i64))] [] [] s'' rec) (blkK 0 (fun s' => denC E D W N (.keep [(1, (.int .i64))] [] [] C26_1) s' (Fin26 E) (fun _ _ => none) (Fin26 E)) (fun _ _ => none)) (Fin26 E)) n) v0 v1 σ).trans ?_
    simp only [ihn, JE26_1, LE26_3]
    kernel_rfl
def J26_0 (E : List (Nat × Blk)) (D : Den) (W : DrawFn) (N : Nat) : BS → Int → H → Ans := T26_0 E D W (L26_2 E D W N N)
theorem JE26_0 (E : List (Nat × Blk)) (D : Den) (W : DrawFn) (N : Nat) (v0 : BS) (v1 : Int) (σ : H) :
  denC E D W N (C26_0 C26_1 (C26_2 C26_3)) ⟨[(0, (V.str v0)), (1, (V.int .i64 v1))], [], [], σ⟩ (Fin26 E) (fun _ _ => none) (Fin26 E) = J26_0 E D W N v0 v1 σ := by
  refine (P26_0 E D W N C26_1 (C26_2 C26_3)  v0 v1 σ).trans ?_
  simp only [LE26_2]
  kernel_rfl
def F26 (E : List (Nat × Blk)) (D : Den) (W : DrawFn) (N : Nat) (args : List V) (σ : H) : Ans :=
 rtCons args fun x1 l2 =>
 rtStr x1 fun x3 =>
 rtCons l2 fun x4 l5 =>
 rtInt .i64 x4 fun x6 =>
 rtNil l5 (
 J26_0 E D W N x3 x6 σ)
def A26 : XFn := ⟨75, [.str, (.int .i64)], [(.tmp 4)], (C26_0 C26_1 (C26_2 C26_3))⟩
theorem FE26 (E : List (Nat × Blk)) (D : Den) (W : DrawFn) (N : Nat) (args : List V) (σ : H) : runX E D W N A26 args σ = F26 E D W N args σ := by
  unfold F26
  simp only [← JE26_0]
  kernel_rfl
theorem AO26 : A26.body.ok = true := by kernel_rfl

/-! ### F27: ogham_oghamref04.one -/
def Fin27 (E : List (Nat × Blk)) : St → Ans := fun s => resK E s [(.cell 4 (some 3)), (.tmp 5)] fun l => some (oneV l, s.σ)
def C27_0 (cc1 : XC) (cc2 : XC) : XC := (.seq (.ops (.pal 4 [] 50 [(V.int .i64 (Int.ofNat 0)), (V.str ⟨0, 0⟩), (V.int .i64 (Int.ofNat 0))] <|
 .op (some 5) .any [] (.mov (.con (V.int .i64 (Int.ofNat 0)))) <|
 .nil))
 (.seq (.ops (.op (some 10) .any [1] (.mov (.tmp 1)) <|
 .op (some 11) (.agg [(.int .i64), .str, (.int .i64)]) [10] (.build [(V.int .i64 (Int.ofNat 0)), (V.str ⟨0, 0⟩), (V.int .i64 (Int.ofNat 0))] [(2, 1, (.tmp 10))]) <|
 .pal 6 [] 50 [(V.int .i64 (Int.ofNat 0)), (V.str ⟨0, 0⟩), (V.int .i64 (Int.ofNat 0))] <|
 .op none (.agg [(.int .i64), .str, (.int .i64)]) [6, 11] (.store 3 (.tmp 6) (.tmp 11)) <|
 .nil))
 (.seq (.ops (.op (some 12) .any [0] (.mov (.tmp 0)) <|
 .op (some 13) .any [1] (.mov (.tmp 1)) <|
 .op (some 14) .any [12, 13] (.idxStr (.tmp 12) (.tmp 13)) <|
 .op (some 7) .any [14] (.mov (.tmp 14)) <|
 .nil))
 (.seq (.ops (.op (some 8) .any [] (.mov (.con (V.int .i64 (Int.negSucc 0)))) <|
 .nil))
 (.seq (.block 0 (.seq (.ops (.op (some 32) .any [7] (.mov (.tmp 7)) <|
 .op (some 33) .bool [32] (.call 42 [(.tmp 32)]) <|
 .op (some 31) .any [33] (.mov (.tmp 33)) <|
 .nil))
 (.cond (.tmp 31) (.seq (.ops (.op (some 34) .any [0] (.mov (.tmp 0)) <|
 .op (some 35) .any [1] (.mov (.tmp 1)) <|
 .op (some 36) (.int .i64) [34, 35] (.call 43 [(.tmp 34), (.tmp 35)]) <|
 .op (some 8) .any [36] (.mov (.tmp 36)) <|
 .nil))
 (.seq (.seq (.ops (.op (some 37) .any [8] (.mov (.tmp 8)) <|
 .op (some 38) .any [37] (.bin .lss .none (.tmp 37) (.con (V.int .i64 (Int.ofNat 0)))) <|
 .nil))
 (.cond (.tmp 38) (.seq (.ops (.op (some 39) (.agg [(.int .i64), .str, (.int .i64)]) [6] (.load (some 3) (.tmp 6)) <|
 .op none (.agg [(.int .i64), .str, (.int .i64)]) [4, 39] (.store 3 (.tmp 4) (.tmp 39)) <|
 .op (some 5) .any [] (.mov (.con (V.int .i64 (Int.negSucc 0)))) <|
 .nil))
 .ret)
 .skip))
 (.seq (.draw (.op (some 40) .any [0] (.mov (.tmp 0)) <|
 .op (some 41) .any [1] (.mov (.tmp 1)) <|
 .op (some 42) .any [8] (.mov (.tmp 8)) <|
 .op (some 43) .any [40, 41, 42] (.sliceStr (.tmp 40) (some (.tmp 41)) (some (.tmp 42))) <|
 .op (some 44) .any [6] (.faddr 0 (.tmp 6)) <|
 .op none .any [44] (.store 1 (.tmp 44) (.con (V.int .i64 (Int.ofNat 2)))) <|
 .op (some 45) .any [6] (.faddr 1 (.tmp 6)) <|
 .op none .any [45, 43] (.store 1 (.tmp 45) (.tmp 43)) <|
 .nil) [0, 0, 0, 7, 0, 16, 63, 127])
 (.seq (.seq (.ops (.op (some 46) .any [7] (.mov (.tmp 7)) <|
 .op (some 47) .any [46] (.bin .leq .none (.tmp 46) (.con (V.int .u8 (Int.ofNat 90)))) <|
 .nil))
 (.cond (.tmp 47) (.ops (.op (some 48) .any [6] (.faddr 0 (.tmp 6)) <|
 .op none .any [48] (.store 1 (.tmp 48) (.con (V.int .i64 (Int.ofNat 1)))) <|
 .nil))
 .skip))
 (.keep [(8, (.int .i64))] [4, 6] [(4, [(.int .i64), .str, (.int .i64)]), (6, [(.int .i64), .str, (.int .i64)])] cc2)))))
 (.seq (.ops (.op (some 54) .any [7] (.mov (.tmp 7)) <|
 .op (some 55) .bool [54] (.call 45 [(.tmp 54)]) <|
 .op (some 56) .any [55] (.mov (.tmp 55)) <|
 .grp 56 false (.op (some 57) .any [7, 56] (.mov (.tmp 7)) <|
 .op (some 58) .any [57, 56] (.bin .eql .none (.tmp 57) (.con (V.int .u8 (Int.ofNat 45)))) <|
 .op (some 59) .any [58, 56] (.mov (.tmp 58)) <|
 .grp 59 true (.op (some 60) .any [0, 59] (.mov (.tmp 0)) <|
 .op (some 61) .any [1, 59] (.mov (.tmp 1)) <|
 .op (some 62) .any [61, 59] (.bin .add .none (.tmp 61) (.con (V.int .i64 (Int.ofNat 1)))) <|
 .op (some 63) (.int .u8) [60, 62, 59] (.call 41 [(.tmp 60), (.tmp 62)]) <|
 .op (some 64) .bool [63, 59] (.call 45 [(.tmp 63)]) <|
 .nil) 65 [59, 64, 56] (.tmp 59) (.tmp 64) (.con (V.bool false)) <|
 .nil) 66 [56, 65] (.tmp 56) (.con (V.bool true)) (.tmp 65) <|
 .op (some 53) .any [66] (.mov (.tmp 66)) <|
 .nil))
 (.cond (.tmp 53) (.seq (.ops (.op (some 67) .any [0] (.mov (.tmp 0)) <|
 .op (some 68) .any [1] (.mov (.tmp 1)) <|
 .op (some 69) (.int .i64) [67, 68] (.call 46 [(.tmp 67), (.tmp 68)]) <|
 .op (some 8) .any [69] (.mov (.tmp 69)) <|
 .nil))
 (.seq (.seq (.ops (.op (some 70) .any [8] (.mov (.tmp 8)) <|
 .op (some 71) .any [70] (.bin .lss .none (.tmp 70) (.con (V.int .i64 (Int.ofNat 0)))) <|
 .nil))
 (.cond (.tmp 71) (.seq (.ops (.op (some 72) (.agg [(.int .i64), .str, (.int .i64)]) [6] (.load (some 3) (.tmp 6)) <|
 .op none (.agg [(.int .i64), .str, (.int .i64)]) [4, 72] (.store 3 (.tmp 4) (.tmp 72)) <|
 .op (some 5) .any [] (.mov (.con (V.int .i64 (Int.negSucc 0)))) <|
 .nil))
 .ret)
 .skip))
 (.draw (.op (some 73) .any [0] (.mov (.tmp 0)) <|
 .op (some 74) .any [1] (.mov (.tmp 1)) <|
 .op (some 75) .any [8] (.mov (.tmp 8)) <|
 .op (some 76) .any [73, 74, 75] (.sliceStr (.tmp 73) (some (.tmp 74)) (some (.tmp 75))) <|
 .op (some 77) .any [6] (.faddr 0 (.tmp 6)) <|
 .op none .any [77] (.store 1 (.tmp 77) (.con (V.int .i64 (Int.ofNat 3)))) <|
 .op (some 78) .any [6] (.faddr 1 (.tmp 6)) <|
 .op none .any [78, 76] (.store 1 (.tmp 78) (.tmp 76)) <|
 .nil) [0, 0, 0, 7, 0, 16, 63, 127])))
 (.seq (.ops (.op (some 80) .any [7] (.mov (.tmp 7)) <|
 .op (some 81) .any [80] (.bin .eql .none (.tmp 80) (.con (V.int .u8 (Int.ofNat 39)))) <|
 .op (some 79) .any [81] (.mov (.tmp 81)) <|
 .nil))
 (.cond (.tmp 79) (.seq (.ops (.op (some 82) .any [6] (.faddr 0 (.tmp 6)) <|
 .op none .any [82] (.store 1 (.tmp 82) (.con (V.int .i64 (Int.ofNat 4)))) <|
 .nil))
 (.ops (.op (some 84) .any [0] (.mov (.tmp 0)) <|
 .op (some 85) .any [1] (.mov (.tmp 1)) <|
 .op (some 86) (.tup [(.int .i64), .str]) [84, 85] (.call 47 [(.tmp 84), (.tmp 85)]) <|
 .op (some 83) .any [86] (.mov (.tmp 86)) <|
 .op (some 87) .any [83] (.extract 0 (.tmp 83)) <|
 .op (some 88) .any [83] (.extract 1 (.tmp 83)) <|
 .op (some 8) .any [87] (.mov (.tmp 87)) <|
 .op (some 89) .any [6] (.faddr 1 (.tmp 6)) <|
 .op none .any [89, 88] (.store 1 (.tmp 89) (.tmp 88)) <|
 .nil)))
 (.seq (.ops (.op (some 91) .any [7] (.mov (.tmp 7)) <|
 .op (some 92) .any [91] (.bin .eql .none (.tmp 91) (.con (V.int .u8 (Int.ofNat 34)))) <|
 .op (some 90) .any [92] (.mov (.tmp 92)) <|
 .nil))
 (.cond (.tmp 90) (.seq (.ops (.op (some 93) .any [6] (.faddr 0 (.tmp 6)) <|
 .op none .any [93] (.store 1 (.tmp 93) (.con (V.int .i64 (Int.ofNat 7)))) <|
 .nil))
 (.ops (.op (some 95) .any [0] (.mov (.tmp 0)) <|
 .op (some 96) .any [1] (.mov (.tmp 1)) <|
 .op (some 97) (.tup [(.int .i64), .str]) [95, 96] (.call 48 [(.tmp 95), (.tmp 96)]) <|
 .op (some 94) .any [97] (.mov (.tmp 97)) <|
 .op (some 98) .any [94] (.extract 0 (.tmp 94)) <|
 .op (some 99) .any [94] (.extract 1 (.tmp 94)) <|
 .op (some 8) .any [98] (.mov (.tmp 98)) <|
 .op (some 100) .any [6] (.faddr 1 (.tmp 6)) <|
 .op none .any [100, 99] (.store 1 (.tmp 100) (.tmp 99)) <|
 .nil)))
 (.seq (.ops (.op (some 15) .any [0] (.mov (.tmp 0)) <|
 .op (some 16) .any [1] (.mov (.tmp 1)) <|
 .op (some 17) (.int .i64) [15, 16] (.call 49 [(.tmp 15), (.tmp 16)]) <|
 .op (some 9) .any [17] (.mov (.tmp 17)) <|
 .nil))
 (.seq (.ops (.op (some 18) .any [9] (.mov (.tmp 9)) <|
 .op (some 19) .any [18] (.bin .gtr .none (.tmp 18) (.con (V.int .i64 (Int.ofNat 0)))) <|
 .nil))
 (.cond (.tmp 19) (.draw (.op (some 20) .any [0] (.mov (.tmp 0)) <|
 .op (some 21) .any [1] (.mov (.tmp 1)) <|
 .op (some 22) .any [1] (.mov (.tmp 1)) <|
 .op (some 23) .any [9] (.mov (.tmp 9)) <|
 .op (some 24) .any [22, 23] (.bin .add .none (.tmp 22) (.tmp 23)) <|
 .op (some 25) .any [20, 21, 24] (.sliceStr (.tmp 20) (some (.tmp 21)) (some (.tmp 24))) <|
 .op (some 26) .any [1] (.mov (.tmp 1)) <|
 .op (some 27) .any [9] (.mov (.tmp 9)) <|
 .op (some 28) .any [26, 27] (.bin .add .none (.tmp 26) (.tmp 27)) <|
 .op (some 29) .any [6] (.faddr 0 (.tmp 6)) <|
 .op none .any [29] (.store 1 (.tmp 29) (.con (V.int .i64 (Int.ofNat 6)))) <|
 .op (some 30) .any [6] (.faddr 1 (.tmp 6)) <|
 .op none .any [30, 25] (.store 1 (.tmp 30) (.tmp 25)) <|
 .op (some 8) .any [28] (.mov (.tmp 28)) <|
 .nil) [0, 0, 0, 0, 12, 31, 0, 0, 192, 0, 512, 1599, 3647, 8191])
 .skip))))))))))))
 (.keep [(8, (.int .i64))] [4, 6] [(4, [(.int .i64), .str, (.int .i64)]), (6, [(.int .i64), .str, (.int .i64)])] cc1))))))
def T27_0 (E : List (Nat × Blk)) (D : Den) (W : DrawFn) (K1 : Int → Int → BS → Int → Int → BS → Int → H → Ans) (K2 : Int → Int → BS → Int → Int → BS → Int → H → Ans) (v0 : BS) (v1 : Int) (σ : H) : Ans :=
 idxStrX v0 v1 fun x1 =>
 callK (D 42 [(V.int .u8 x1)] σ) fun u2 s3 =>
 rtBool u2 fun x4 =>
 condK x4 (
 callK (D 43 [(V.str v0), (V.int .i64 v1)] s3) fun u5 s6 =>
 rtInt .i64 u5 fun x7 =>
 condK (ltF x7 (Int.ofNat 0)) (
 some ((V.tup [(V.agg [(V.int .i64 (Int.ofNat 0)), (V.str (BS.mk 0 0)), (V.int .i64 v1)]), (V.int .i64 (Int.negSucc 0))]), s6)) (
 sliceStrX v0 (some (V.int .i64 v1)) (some (V.int .i64 x7)) fun t8 =>
 condK (leF x1 (Int.ofNat 90)) (
 K2 x7 (Int.ofNat 0) (BS.mk 0 0) (Int.ofNat 0) (Int.ofNat 1) t8 v1 s6) (
 K2 x7 (Int.ofNat 0) (BS.mk 0 0) (Int.ofNat 0) (Int.ofNat 2) t8 v1 s6))) (
 callK (D 45 [(V.int .u8 x1)] s3) fun u9 s10 =>
 rtBool u9 fun x11 =>
 joinB (fun c12 s13 =>
 condK c12 (
 callK (D 46 [(V.str v0), (V.int .i64 v1)] s13) fun u15 s16 =>
 rtInt .i64 u15 fun x17 =>
 condK (ltF x17 (Int.ofNat 0)) (
 some ((V.tup [(V.agg [(V.int .i64 (Int.ofNat 0)), (V.str (BS.mk 0 0)), (V.int .i64 v1)]), (V.int .i64 (Int.negSucc 0))]), s16)) (
 sliceStrX v0 (some (V.int .i64 v1)) (some (V.int .i64 x17)) fun t18 =>
 K1 x17 (Int.ofNat 0) (BS.mk 0 0) (Int.ofNat 0) (Int.ofNat 3) t18 v1 s16)) (
 condK (eqF x1 (Int.ofNat 39)) (
 callK (D 47 [(V.str v0), (V.int .i64 v1)] s13) fun u19 s20 =>
 rtTup u19 fun l21 =>
 rtCons l21 fun x22 l23 =>
 rtInt .i64 x22 fun x24 =>
 rtCons l23 fun x25 l26 =>
 rtStr x25 fun x27 =>
 rtNil l26 (
 K1 x24 (Int.ofNat 0) (BS.mk 0 0) (Int.ofNat 0) (Int.ofNat 4) x27 v1 s20)) (
 condK (eqF x1 (Int.ofNat 34)) (
 callK (D 48 [(V.str v0), (V.int .i64 v1)] s13) fun u28 s29 =>
 rtTup u28 fun l30 =>
 rtCons l30 fun x31 l32 =>
 rtInt .i64 x31 fun x33 =>
 rtCons l32 fun x34 l35 =>
 rtStr x34 fun x36 =>
 rtNil l35 (
 K1 x33 (Int.ofNat 0) (BS.mk 0 0) (Int.ofNat 0) (Int.ofNat 7) x36 v1 s29)) (
 callK (D 49 [(V.str v0), (V.int .i64 v1)] s13) fun u37 s38 =>
 rtInt .i64 u37 fun x39 =>
 condK (ltF (Int.ofNat 0) x39) (
 sliceStrX v0 (some (V.int .i64 v1)) (some (V.int .i64 (addF .i64 v1 x39))) fun t40 =>
 K1 (addF .i64 v1 x39) (Int.ofNat 0) (BS.mk 0 0) (Int.ofNat 0) (Int.ofNat 6) t40 v1 s38) (
 K1 (Int.negSucc 0) (Int.ofNat 0) (BS.mk 0 0) (Int.ofNat 0) (Int.ofNat 0) (BS.mk 0 0) v1 s38))))) fun k14 =>
 condK x11 (
 k14 true s10) (
 joinB (fun c41 s42 =>
 k14 c41 s42) fun k43 =>
 condK (eqF x1 (Int.ofNat 45)) (
 callK (D 41 [(V.str v0), (V.int .i64 (addF .i64 v1 (Int.ofNat 1)))] s10) fun u44 s45 =>
 rtInt .u8 u44 fun x46 =>
 callK (D 45 [(V.int .u8 x46)] s45) fun u47 s48 =>
 rtBool u47 fun x49 =>
 k43 x49 s48) (
 k43 false s10)))
def C27_1 : XC := (.seq (.ops (.op (some 101) (.agg [(.int .i64), .str, (.int .i64)]) [6] (.load (some 3) (.tmp 6)) <|
 .op (some 102) .any [8] (.mov (.tmp 8)) <|
 .op none (.agg [(.int .i64), .str, (.int .i64)]) [4, 101] (.store 3 (.tmp 4) (.tmp 101)) <|
 .op (some 5) .any [102] (.mov (.tmp 102)) <|
 .nil))
 .ret)
def T27_1 (E : List (Nat × Blk)) (D : Den) (W : DrawFn) (v8 : Int) (r4_0 : Int) (r4_1 : BS) (r4_2 : Int) (r6_0 : Int) (r6_1 : BS) (r6_2 : Int) (σ : H) : Ans :=
 some ((V.tup [(V.agg [(V.int .i64 r6_0), (V.str r6_1), (V.int .i64 r6_2)]), (V.int .i64 v8)]), σ)
def C27_2 : XC := (.seq (.ops (.op (some 49) .any [6] (.faddr 1 (.tmp 6)) <|
 .op (some 50) .str [49] (.load none (.tmp 49)) <|
 .op (some 51) .bool [50] (.call 44 [(.tmp 50)]) <|
 .nil))
 (.cond (.tmp 51) (.ops (.op (some 52) .any [6] (.faddr 0 (.tmp 6)) <|
 .op none .any [52] (.store 1 (.tmp 52) (.con (V.int .i64 (Int.ofNat 5)))) <|
 .nil))
 .skip))
def T27_2 (E : List (Nat × Blk)) (D : Den) (W : DrawFn) (K1 : Int → Int → BS → Int → Int → BS → Int → H → Ans) (v8 : Int) (r4_0 : Int) (r4_1 : BS) (r4_2 : Int) (r6_0 : Int) (r6_1 : BS) (r6_2 : Int) (σ : H) : Ans :=
 callK (D 44 [(V.str r6_1)] σ) fun u1 s2 =>
 rtBool u1 fun x3 =>
 condK x3 (
 K1 v8 r4_0 r4_1 r4_2 (Int.ofNat 5) r6_1 r6_2 s2) (
 K1 v8 r4_0 r4_1 r4_2 r6_0 r6_1 r6_2 s2)
theorem P27_0 (E : List (Nat × Blk)) (D : Den) (W : DrawFn) (N : Nat) (cc1 : XC) (cc2 : XC) (v0 : BS) (v1 : Int) (σ : H) :
  denC E D W N (C27_0 cc1 cc2) ⟨[(0, (V.str v0)), (1, (V.int .i64 v1))], [], [], σ⟩ (Fin27 E) (fun _ _ => none) (Fin27 E) =
  T27_0 E D W (fun v8 r4_0 r4_1 r4_2 r6_0 r6_1 r6_2 σ => denC E D W N cc1 ⟨[(8, (V.int .i64 v8))], [(4, (4, 0)), (6, (6, 0))], [(4, [(V.int .i64 r4_0), (V.str r4_1), (V.int .i64 r4_2)]), (6, [(V.int .i64 r6_0), (V.str r6_1), (V.int .i64 r6_2)])], σ⟩ (Fin27 E) (fun _ _ => none) (Fin27 E)) (fun v8 r4_0 r4_1 r4_2 r6_0 r6_1 r6_2 σ => denC E D W N cc2 ⟨[(8, (V.int .i64 v8))], [(4, (4, 0)), (6, (6, 0))], [(4, [(V.int .i64 r4_0), (V.str r4_1), (V.int .i64 r4_2)]), (6, [(V.int .i64 r6_0), (V.str r6_1), (V.int .i64 r6_2)])], σ⟩ (fun s' => denC E D W N (.keep [(8, (.int .i64))] [4, 6] [(4, [(.int .i64), .str, (.int .i64)]), (6, [(.int .i64), .str, (.int .i64)])] cc1) s' (Fin27 E) (fun _ _ => none) (Fin27 E)) (blkK 0 (fun s' => denC E D W N (.keep [(8, (.int .i64))] [4, 6] [(4, [(.int .i64), .str, (.int .i64)]), (6, [(.int .i64), .str, (.int .i64)])] cc1) s' (Fin27 E) (fun _ _ => none) (Fin27 E)) (fun _ _ => none)) (Fin27 E)) v0 v1 σ := by kernel_rfl
theorem P27_1 (E : List (Nat × Blk)) (D : Den) (W : DrawFn) (N : Nat) (v8 : Int) (r4_0 : Int) (r4_1 : BS) (r4_2 : Int) (r6_0 : Int) (r6_1 : BS) (r6_2 : Int) (σ : H) :
  denC E D W N (C27_1 ) ⟨[(8, (V.int .i64 v8))], [(4, (4, 0)), (6, (6, 0))], [(4, [(V.int .i64 r4_0), (V.str r4_1), (V.int .i64 r4_2)]), (6, [(V.int .i64 r6_0), (V.str r6_1), (V.int .i64 r6_2)])], σ⟩ (Fin27 E) (fun _ _ => none) (Fin27 E) =
  T27_1 E D W  v8 r4_0 r4_1 r4_2 r6_0 r6_1 r6_2 σ := by kernel_rfl
theorem P27_2 (E : List (Nat × Blk)) (D : Den) (W : DrawFn) (N : Nat) (cc1 : XC) (v8 : Int) (r4_0 : Int) (r4_1 : BS) (r4_2 : Int) (r6_0 : Int) (r6_1 : BS) (r6_2 : Int) (σ : H) :
  denC E D W N (C27_2 ) ⟨[(8, (V.int .i64 v8))], [(4, (4, 0)), (6, (6, 0))], [(4, [(V.int .i64 r4_0), (V.str r4_1), (V.int .i64 r4_2)]), (6, [(V.int .i64 r6_0), (V.str r6_1), (V.int .i64 r6_2)])], σ⟩ (fun s' => denC E D W N (.keep [(8, (.int .i64))] [4, 6] [(4, [(.int .i64), .str, (.int .i64)]), (6, [(.int .i64), .str, (.int .i64)])] cc1) s' (Fin27 E) (fun _ _ => none) (Fin27 E)) (blkK 0 (fun s' => denC E D W N (.keep [(8, (.int .i64))] [4, 6] [(4, [(.int .i64), .str, (.int .i64)]), (6, [(.int .i64), .str, (.int .i64)])] cc1) s' (Fin27 E) (fun _ _ => none) (Fin27 E)) (fun _ _ => none)) (Fin27 E) =
  T27_2 E D W (fun v8 r4_0 r4_1 r4_2 r6_0 r6_1 r6_2 σ => denC E D W N cc1 ⟨[(8, (V.int .i64 v8))], [(4, (4, 0)), (6, (6, 0))], [(4, [(V.int .i64 r4_0), (V.str r4_1), (V.int .i64 r4_2)]), (6, [(V.int .i64 r6_0), (V.str r6_1), (V.int .i64 r6_2)])], σ⟩ (Fin27 E) (fun _ _ => none) (Fin27 E)) v8 r4_0 r4_1 r4_2 r6_0 r6_1 r6_2 σ := by kernel_rfl
def J27_1 (E : List (Nat × Blk)) (D : Den) (W : DrawFn) (N : Nat) : Int → Int → BS → Int → Int → BS → Int → H → Ans := T27_1 E D W 
theorem JE27_1 (E : List (Nat × Blk)) (D : Den) (W : DrawFn) (N : Nat) (v8 : Int) (r4_0 : Int) (r4_1 : BS) (r4_2 : Int) (r6_0 : Int) (r6_1 : BS) (r6_2 : Int) (σ : H) :
  denC E D W N C27_1 ⟨[(8, (V.int .i64 v8))], [(4, (4, 0)), (6, (6, 0))], [(4, [(V.int .i64 r4_0), (V.str r4_1), (V.int .i64 r4_2)]), (6, [(V.int .i64 r6_0), (V.str r6_1), (V.int .i64 r6_2)])], σ⟩ (Fin27 E) (fun _ _ => none) (Fin27 E) = J27_1 E D W N v8 r4_0 r4_1 r4_2 r6_0 r6_1 r6_2 σ := by
  refine (P27_1 E D W N   v8 r4_0 r4_1 r4_2 r6_0 r6_1 r6_2 σ).trans ?_
  kernel_rfl
def J27_2 (E : List (Nat × Blk)) (D : Den) (W : DrawFn) (N : Nat) : Int → Int → BS → Int → Int → BS → Int → H → Ans := T27_2 E D W (J27_1 E D W N )
theorem JE27_2 (E : List (Nat × Blk)) (D : Den) (W : DrawFn) (N : Nat) (v8 : Int) (r4_0 : Int) (r4_1 : BS) (r4_2 : Int) (r6_0 : Int) (r6_1 : BS) (r6_2 : Int) (σ : H) :
  denC E D W N C27_2 ⟨[(8, (V.int .i64 v8))], [(4, (4, 0)), (6, (6, 0))], [(4, [(V.int .i64 r4_0), (V.str r4_1), (V.int .i64 r4_2)]), (6, [(V.int .i64 r6_0), (V.str r6_1), (V.int .i64 r6_2)])], σ⟩ (fun s' => denC E D W N (.keep [(8, (.int .i64))] [4, 6] [(4, [(.int .i64), .str, (.int .i64)]), (6, [(.int .i64), .str, (.int .i64)])] C27_1) s' (Fin27 E) (fun _ _ => none) (Fin27 E)) (blkK 0 (fun s' => denC E D W N (.keep [(8, (.int .i64))] [4, 6] [(4, [(.int .i64), .str, (.int .i64)]), (6, [(.int .i64), .str, (.int .i64)])] C27_1) s' (Fin27 E) (fun _ _ => none) (Fin27 E)) (fun _ _ => none)) (Fin27 E) = J27_2 E D W N v8 r4_0 r4_1 r4_2 r6_0 r6_1 r6_2 σ := by
  refine (P27_2 E D W N C27_1  v8 r4_0 r4_1 r4_2 r6_0 r6_1 r6_2 σ).trans ?_
  simp only [JE27_1]
  kernel_rfl
def J27_0 (E : List (Nat × Blk)) (D : Den) (W : DrawFn) (N : Nat) : BS → Int → H → Ans := T27_0 E D W (J27_1 E D W N ) (J27_2 E D W N )
theorem JE27_0 (E : List (Nat × Blk)) (D : Den) (W : DrawFn) (N : Nat) (v0 : BS) (v1 : Int) (σ : H) :
  denC E D W N (C27_0 C27_1 C27_2) ⟨[(0, (V.str v0)), (1, (V.int .i64 v1))], [], [], σ⟩ (Fin27 E) (fun _ _ => none) (Fin27 E) = J27_0 E D W N v0 v1 σ := by
  refine (P27_0 E D W N C27_1 C27_2  v0 v1 σ).trans ?_
  simp only [JE27_1, JE27_2]
  kernel_rfl
def F27 (E : List (Nat × Blk)) (D : Den) (W : DrawFn) (N : Nat) (args : List V) (σ : H) : Ans :=
 rtCons args fun x1 l2 =>
 rtStr x1 fun x3 =>
 rtCons l2 fun x4 l5 =>
 rtInt .i64 x4 fun x6 =>
 rtNil l5 (
 J27_0 E D W N x3 x6 σ)
def A27 : XFn := ⟨103, [.str, (.int .i64)], [(.cell 4 (some 3)), (.tmp 5)], (C27_0 C27_1 C27_2)⟩
theorem FE27 (E : List (Nat × Blk)) (D : Den) (W : DrawFn) (N : Nat) (args : List V) (σ : H) : runX E D W N A27 args σ = F27 E D W N args σ := by
  unfold F27
  simp only [← JE27_0]
  kernel_rfl
theorem AO27 : A27.body.ok = true := by kernel_rfl

/-! ### F28: __ogham_oghamref05.parser_.next -/
def Fin28 (E : List (Nat × Blk)) : St → Ans := fun s => resK E s [(.cell 2 (some 3))] fun l => some (oneV l, s.σ)
def C28_0 (cc1 : XC) : XC := (.seq (.ops (.pal 2 [] 50 [(V.int .i64 (Int.ofNat 0)), (V.str ⟨0, 0⟩), (V.int .i64 (Int.ofNat 0))] <|
 .nil))
 (.seq (.draw (.op (some 4) .any [0] (.mov (.tmp 0)) <|
 .op (some 5) .any [4] (.nilck (.tmp 4)) <|
 .op (some 6) .any [5] (.faddr 0 (.tmp 5)) <|
 .op (some 7) .any [6] (.load none (.tmp 6)) <|
 .op (some 8) .any [0] (.mov (.tmp 0)) <|
 .op (some 9) .any [8] (.nilck (.tmp 8)) <|
 .op (some 10) .any [9] (.faddr 1 (.tmp 9)) <|
 .op (some 11) (.int .i64) [10] (.load none (.tmp 10)) <|
 .op (some 12) .any [7, 11] (.iaddrS 3 (.tmp 7) (.tmp 11)) <|
 .op (some 13) (.agg [(.int .i64), .str, (.int .i64)]) [12] (.load (some 3) (.tmp 12)) <|
 .pal 3 [] 50 [(V.int .i64 (Int.ofNat 0)), (V.str ⟨0, 0⟩), (V.int .i64 (Int.ofNat 0))] <|
 .op none (.agg [(.int .i64), .str, (.int .i64)]) [3, 13] (.store 3 (.tmp 3) (.tmp 13)) <|
 .nil) [0, 1, 3, 7, 0, 16, 48, 112, 255, 511, 0, 2047])
 (.seq (.seq (.draw (.op (some 14) .any [0] (.mov (.tmp 0)) <|
 .op (some 15) .any [14] (.nilck (.tmp 14)) <|
 .op (some 16) .any [15] (.faddr 1 (.tmp 15)) <|
 .op (some 17) (.int .i64) [16] (.load none (.tmp 16)) <|
 .op (some 18) .any [17] (.bin .add .none (.tmp 17) (.con (V.int .i64 (Int.ofNat 1)))) <|
 .op (some 19) .any [0] (.mov (.tmp 0)) <|
 .op (some 20) .any [19] (.nilck (.tmp 19)) <|
 .op (some 21) .any [20] (.faddr 0 (.tmp 20)) <|
 .op (some 22) .any [21] (.load none (.tmp 21)) <|
 .op (some 23) .any [22] (.len false (.tmp 22)) <|
 .op (some 24) .any [18, 23] (.bin .lss .none (.tmp 18) (.tmp 23)) <|
 .nil) [0, 1, 3, 7, 15, 0, 32, 96, 224, 480, 1023])
 (.cond (.tmp 24) (.ops (.op (some 25) .any [0] (.mov (.tmp 0)) <|
 .op (some 26) .any [25] (.nilck (.tmp 25)) <|
 .op (some 27) .any [26] (.faddr 1 (.tmp 26)) <|
 .op (some 28) (.int .i64) [27] (.load none (.tmp 27)) <|
 .op (some 29) .any [28] (.bin .add .none (.tmp 28) (.con (V.int .i64 (Int.ofNat 1)))) <|
 .op (some 30) .any [25] (.nilck (.tmp 25)) <|
 .op (some 31) .any [30] (.faddr 1 (.tmp 30)) <|
 .op none .any [31, 29] (.store 1 (.tmp 31) (.tmp 29)) <|
 .nil))
 .skip))
 (.keep [] [2, 3] [(2, [(.int .i64), .str, (.int .i64)]), (3, [(.int .i64), .str, (.int .i64)])] cc1))))
def T28_0 (E : List (Nat × Blk)) (D : Den) (W : DrawFn) (K1 : Int → BS → Int → Int → BS → Int → H → Ans) (v0b : Nat) (v0o : Nat) (σ : H) : Ans :=
 ldK E σ v0b v0o fun u1 =>
 ldK E σ v0b (Nat.add v0o 1) fun u2 =>
 rtInt .i64 u2 fun x3 =>
 iaddrSK 3 u1 x3 fun b4 o5 =>
 ldnK E σ b4 o5 3 fun l6 =>
 rtCons l6 fun x7 l8 =>
 rtInt .i64 x7 fun x9 =>
 rtCons l8 fun x10 l11 =>
 rtStr x10 fun x12 =>
 rtCons l11 fun x13 l14 =>
 rtInt .i64 x13 fun x15 =>
 rtNil l14 (
 ldK E σ v0b (Nat.add v0o 1) fun u16 =>
 rtInt .i64 u16 fun x17 =>
 ldK E σ v0b v0o fun u18 =>
 slenK u18 fun n19 =>
 condK (ltF (addF .i64 x17 (Int.ofNat 1)) (Int.ofNat n19)) (
 ldK E σ v0b (Nat.add v0o 1) fun u20 =>
 rtInt .i64 u20 fun x21 =>
 stK 1 v0b (Nat.add v0o 1) (V.int .i64 (addF .i64 x21 (Int.ofNat 1))) σ fun s22 =>
 K1 (Int.ofNat 0) (BS.mk 0 0) (Int.ofNat 0) x9 x12 x15 s22) (
 K1 (Int.ofNat 0) (BS.mk 0 0) (Int.ofNat 0) x9 x12 x15 σ))
def C28_1 : XC := (.seq (.ops (.op (some 32) (.agg [(.int .i64), .str, (.int .i64)]) [3] (.load (some 3) (.tmp 3)) <|
 .op none (.agg [(.int .i64), .str, (.int .i64)]) [2, 32] (.store 3 (.tmp 2) (.tmp 32)) <|
 .nil))
 .ret)
def T28_1 (E : List (Nat × Blk)) (D : Den) (W : DrawFn) (r2_0 : Int) (r2_1 : BS) (r2_2 : Int) (r3_0 : Int) (r3_1 : BS) (r3_2 : Int) (σ : H) : Ans :=
 some ((V.agg [(V.int .i64 r3_0), (V.str r3_1), (V.int .i64 r3_2)]), σ)
theorem P28_0 (E : List (Nat × Blk)) (D : Den) (W : DrawFn) (N : Nat) (cc1 : XC) (v0b : Nat) (v0o : Nat) (σ : H) :
  denC E D W N (C28_0 cc1) ⟨[(0, (V.ptr v0b v0o))], [], [], σ⟩ (Fin28 E) (fun _ _ => none) (Fin28 E) =
  T28_0 E D W (fun r2_0 r2_1 r2_2 r3_0 r3_1 r3_2 σ => denC E D W N cc1 ⟨[], [(2, (2, 0)), (3, (3, 0))], [(2, [(V.int .i64 r2_0), (V.str r2_1), (V.int .i64 r2_2)]), (3, [(V.int .i64 r3_0), (V.str r3_1), (V.int .i64 r3_2)])], σ⟩ (Fin28 E) (fun _ _ => none) (Fin28 E)) v0b v0o σ := by kernel_rfl
theorem P28_1 (E : List (Nat × Blk)) (D : Den) (W : DrawFn) (N : Nat) (r2_0 : Int) (r2_1 : BS) (r2_2 : Int) (r3_0 : Int) (r3_1 : BS) (r3_2 : Int) (σ : H) :
  denC E D W N (C28_1 ) ⟨[], [(2, (2, 0)), (3, (3, 0))], [(2, [(V.int .i64 r2_0), (V.str r2_1), (V.int .i64 r2_2)]), (3, [(V.int .i64 r3_0), (V.str r3_1), (V.int .i64 r3_2)])], σ⟩ (Fin28 E) (fun _ _ => none) (Fin28 E) =
  T28_1 E D W  r2_0 r2_1 r2_2 r3_0 r3_1 r3_2 σ := by kernel_rfl
def J28_1 (E : List (Nat × Blk)) (D : Den) (W : DrawFn) (N : Nat) : Int → BS → Int → Int → BS → Int → H → Ans := T28_1 E D W 
theorem JE28_1 (E : List (Nat × Blk)) (D : Den) (W : DrawFn) (N : Nat) (r2_0 : Int) (r2_1 : BS) (r2_2 : Int) (r3_0 : Int) (r3_1 : BS) (r3_2 : Int) (σ : H) :
  denC E D W N C28_1 ⟨[], [(2, (2, 0)), (3, (3, 0))], [(2, [(V.int .i64 r2_0), (V.str r2_1), (V.int .i64 r2_2)]), (3, [(V.int .i64 r3_0), (V.str r3_1), (V.int .i64 r3_2)])], σ⟩ (Fin28 E) (fun _ _ => none) (Fin28 E) = J28_1 E D W N r2_0 r2_1 r2_2 r3_0 r3_1 r3_2 σ := by
  refine (P28_1 E D W N   r2_0 r2_1 r2_2 r3_0 r3_1 r3_2 σ).trans ?_
  kernel_rfl
def J28_0 (E : List (Nat × Blk)) (D : Den) (W : DrawFn) (N : Nat) : Nat → Nat → H → Ans := T28_0 E D W (J28_1 E D W N )
theorem JE28_0 (E : List (Nat × Blk)) (D : Den) (W : DrawFn) (N : Nat) (v0b : Nat) (v0o : Nat) (σ : H) :
  denC E D W N (C28_0 C28_1) ⟨[(0, (V.ptr v0b v0o))], [], [], σ⟩ (Fin28 E) (fun _ _ => none) (Fin28 E) = J28_0 E D W N v0b v0o σ := by
  refine (P28_0 E D W N C28_1  v0b v0o σ).trans ?_
  simp only [JE28_1]
  kernel_rfl
def F28 (E : List (Nat × Blk)) (D : Den) (W : DrawFn) (N : Nat) (args : List V) (σ : H) : Ans :=
 rtCons args fun x1 l2 =>
 rtPtr x1 fun b3 o4 =>
 rtNil l2 (
 J28_0 E D W N b3 o4 σ)
def A28 : XFn := ⟨33, [.ptr], [(.cell 2 (some 3))], (C28_0 C28_1)⟩
theorem FE28 (E : List (Nat × Blk)) (D : Den) (W : DrawFn) (N : Nat) (args : List V) (σ : H) : runX E D W N A28 args σ = F28 E D W N args σ := by
  unfold F28
  simp only [← JE28_0]
  kernel_rfl
theorem AO28 : A28.body.ok = true := by kernel_rfl

end
end Go.Proofs.YtpcnmmbpgeahfaaGreatDoor
