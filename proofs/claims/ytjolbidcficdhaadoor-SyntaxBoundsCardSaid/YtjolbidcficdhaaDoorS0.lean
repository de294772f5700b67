/- The functions of the program in their plain form. Printed by a program off the dump. -/
import Derived.Test.YtjolbidcficdhaaDoorOgX
import Derived.KernelRfl
set_option linter.all false
set_option maxRecDepth 100000
set_option maxHeartbeats 0
namespace Go.Proofs.YtjolbidcficdhaaDoor
open Go Go.Og
noncomputable section
/-! ### F4: ogham_oghamlaw05.SyntaxBounds -/
def Fin4 (E : List (Nat × Blk)) : St → Ans := fun s => resK E s [(.tmp 8)] fun l => some (oneV l, s.σ)
def C4_0 (cc1 : XC) : XC := (.seq (.ops (.op (some 8) .any [] (.mov (.con (V.bool false))) <|
 .nil))
 (.seq (.ops (.op (some 20) .any [2] (.mov (.tmp 2)) <|
 .op (some 21) .any [20] (.conv (.toInt .u64) (.tmp 20)) <|
 .op (some 22) .any [21] (.bin .rem .none (.tmp 21) (.con (V.int .u64 (Int.ofNat 5)))) <|
 .op (some 23) .any [22] (.conv (.toInt .i64) (.tmp 22)) <|
 .op (some 2) .any [23] (.mov (.tmp 23)) <|
 .nil))
 (.seq (.ops (.op (some 24) .any [0] (.mov (.tmp 0)) <|
 .op (some 25) .str [24] (.call 9 [(.tmp 24)]) <|
 .op (some 26) .any [25] (.bin .add .none (.tmp 25) (.con (V.str ⟨2, 11822⟩))) <|
 .op (some 27) .any [1] (.mov (.tmp 1)) <|
 .op (some 28) .str [27] (.call 9 [(.tmp 27)]) <|
 .op (some 29) .any [26, 28] (.bin .add .none (.tmp 26) (.tmp 28)) <|
 .op (some 30) .any [0] (.mov (.tmp 0)) <|
 .op (some 31) .str [30] (.call 9 [(.tmp 30)]) <|
 .op (some 32) .any [0] (.mov (.tmp 0)) <|
 .op (some 33) .str [32] (.call 9 [(.tmp 32)]) <|
 .op (some 34) .any [33] (.bin .add .none (.tmp 33) (.con (V.str ⟨5, 379052699182⟩))) <|
 .op (some 35) .any [1] (.mov (.tmp 1)) <|
 .op (some 36) .str [35] (.call 9 [(.tmp 35)]) <|
 .op (some 37) .any [36] (.bin .add .none (.con (V.str ⟨5, 198345378125⟩)) (.tmp 36)) <|
 .op (some 38) .any [29, 31, 34, 37] (.buildSlice 9 5 [(V.str ⟨0, 0⟩), (V.str ⟨0, 0⟩), (V.str ⟨0, 0⟩), (V.str ⟨0, 0⟩), (V.str ⟨0, 0⟩)] [(0, 1, (.tmp 29)), (1, 1, (.tmp 31)), (2, 1, (.tmp 34)), (3, 1, (.tmp 37)), (4, 1, (.con (V.str ⟨8, 6359449009564567885⟩)))]) <|
 .op (some 39) .any [2] (.mov (.tmp 2)) <|
 .op (some 40) .any [38, 39] (.iaddrS 1 (.tmp 38) (.tmp 39)) <|
 .op (some 41) .str [40] (.load none (.tmp 40)) <|
 .op (some 9) .any [41] (.mov (.tmp 41)) <|
 .nil))
 (.keep [(0, (.int .i64)), (1, (.int .i64)), (2, (.int .i64)), (3, .bool), (9, .str)] [] [] cc1))))
def T4_0 (E : List (Nat × Blk)) (D : Den) (W : DrawFn) (K1 : Int → Int → Int → Bool → BS → H → Ans) (v0 : Int) (v1 : Int) (v2 : Int) (v3 : Bool) (σ : H) : Ans :=
 callK (D 9 [(V.int .i64 v0)] σ) fun u1 s2 =>
 rtStr u1 fun x3 =>
 catK x3 (BS.mk 2 11822) fun t4 =>
 callK (D 9 [(V.int .i64 v1)] s2) fun u5 s6 =>
 rtStr u5 fun x7 =>
 catK t4 x7 fun t8 =>
 callK (D 9 [(V.int .i64 v0)] s6) fun u9 s10 =>
 rtStr u9 fun x11 =>
 callK (D 9 [(V.int .i64 v0)] s10) fun u12 s13 =>
 rtStr u12 fun x14 =>
 catK x14 (BS.mk 5 379052699182) fun t15 =>
 callK (D 9 [(V.int .i64 v1)] s13) fun u16 s17 =>
 rtStr u16 fun x18 =>
 catK (BS.mk 5 198345378125) x18 fun t19 =>
 let s20 := newB s17 (.cells [(V.str t8), (V.str x11), (V.str t15), (V.str t19), (V.str (BS.mk 8 6359449009564567885))]);
 iaddrSK 1 (V.sl (H.next s17) 0 5 (.ex 5)) (wrapF .i64 (Int.tmod (wrapF .u64 v2) (Int.ofNat 5))) fun b21 o22 =>
 ldK E s20 b21 o22 fun u23 =>
 rtStr u23 fun x24 =>
 K1 v0 v1 (wrapF .i64 (Int.tmod (wrapF .u64 v2) (Int.ofNat 5))) v3 x24 s20
def C4_1 (cc2 : XC) : XC := (.seq (.ops (.op (some 42) .any [2] (.mov (.tmp 2)) <|
 .op (some 43) .any [42] (.bin .lss .none (.tmp 42) (.con (V.int .i64 (Int.ofNat 3)))) <|
 .op (some 44) .any [2] (.mov (.tmp 2)) <|
 .op (some 45) .any [44] (.bin .lss .none (.tmp 44) (.con (V.int .i64 (Int.ofNat 2)))) <|
 .op (some 46) .any [45] (.mov (.tmp 45)) <|
 .grp 46 false (.op (some 47) .any [2, 46] (.mov (.tmp 2)) <|
 .op (some 48) .any [47, 46] (.bin .eql .none (.tmp 47) (.con (V.int .i64 (Int.ofNat 3)))) <|
 .nil) 49 [46, 48] (.tmp 46) (.con (V.bool true)) (.tmp 48) <|
 .op (some 50) .any [3] (.mov (.tmp 3)) <|
 .op (some 51) (.agg [.bool, .bool, .bool, .bool, (.int .i64), (.int .i64)]) [43, 49, 50] (.build [(V.bool false), (V.bool false), (V.bool false), (V.bool false), (V.int .i64 (Int.ofNat 0)), (V.int .i64 (Int.ofNat 0))] [(0, 1, (.con (V.bool true))), (1, 1, (.tmp 43)), (2, 1, (.tmp 49)), (3, 1, (.tmp 50))]) <|
 .pal 10 [] 35 [(V.bool false), (V.bool false), (V.bool false), (V.bool false), (V.int .i64 (Int.ofNat 0)), (V.int .i64 (Int.ofNat 0))] <|
 .op none (.agg [.bool, .bool, .bool, .bool, (.int .i64), (.int .i64)]) [10, 51] (.store 6 (.tmp 10) (.tmp 51)) <|
 .nil))
 (.keep [(0, (.int .i64)), (1, (.int .i64)), (2, (.int .i64)), (3, .bool), (9, .str)] [10] [(10, [.bool, .bool, .bool, .bool, (.int .i64), (.int .i64)])] cc2))
def T4_1 (E : List (Nat × Blk)) (D : Den) (W : DrawFn) (K2 : Int → Int → Int → Bool → BS → Bool → Bool → Bool → Bool → Int → Int → H → Ans) (v0 : Int) (v1 : Int) (v2 : Int) (v3 : Bool) (v9 : BS) (σ : H) : Ans :=
 joinB (fun c1 s2 =>
 K2 v0 v1 v2 v3 v9 true (ltF v2 (Int.ofNat 3)) c1 v3 (Int.ofNat 0) (Int.ofNat 0) s2) fun k3 =>
 condK (ltF v2 (Int.ofNat 2)) (
 k3 true σ) (
 k3 (eqF v2 (Int.ofNat 3)) σ)
def C4_2 (cc3 : XC) : XC := (.seq (.seq (.ops (.op (some 52) .any [10] (.faddr 1 (.tmp 10)) <|
 .op (some 53) .bool [52] (.load none (.tmp 52)) <|
 .nil))
 (.cond (.tmp 53) (.ops (.op (some 54) .any [0] (.mov (.tmp 0)) <|
 .op (some 55) .any [10] (.faddr 4 (.tmp 10)) <|
 .op none .any [55, 54] (.store 1 (.tmp 55) (.tmp 54)) <|
 .nil))
 .skip))
 (.keep [(0, (.int .i64)), (1, (.int .i64)), (2, (.int .i64)), (3, .bool), (9, .str)] [10] [(10, [.bool, .bool, .bool, .bool, (.int .i64), (.int .i64)])] cc3))
def T4_2 (E : List (Nat × Blk)) (D : Den) (W : DrawFn) (K3 : Int → Int → Int → Bool → BS → Bool → Bool → Bool → Bool → Int → Int → H → Ans) (v0 : Int) (v1 : Int) (v2 : Int) (v3 : Bool) (v9 : BS) (r10_0 : Bool) (r10_1 : Bool) (r10_2 : Bool) (r10_3 : Bool) (r10_4 : Int) (r10_5 : Int) (σ : H) : Ans :=
 condK r10_1 (
 K3 v0 v1 v2 v3 v9 r10_0 r10_1 r10_2 r10_3 v0 r10_5 σ) (
 K3 v0 v1 v2 v3 v9 r10_0 r10_1 r10_2 r10_3 r10_4 r10_5 σ)
def C4_3 (cc4 : XC) : XC := (.seq (.seq (.ops (.op (some 56) .any [10] (.faddr 2 (.tmp 10)) <|
 .op (some 57) .bool [56] (.load none (.tmp 56)) <|
 .nil))
 (.cond (.tmp 57) (.ops (.op (some 58) .any [1] (.mov (.tmp 1)) <|
 .op (some 59) .any [10] (.faddr 5 (.tmp 10)) <|
 .op none .any [59, 58] (.store 1 (.tmp 59) (.tmp 58)) <|
 .nil))
 .skip))
 (.keep [(0, (.int .i64)), (2, (.int .i64)), (3, .bool), (9, .str)] [10] [(10, [.bool, .bool, .bool, .bool, (.int .i64), (.int .i64)])] cc4))
def T4_3 (E : List (Nat × Blk)) (D : Den) (W : DrawFn) (K4 : Int → Int → Bool → BS → Bool → Bool → Bool → Bool → Int → Int → H → Ans) (v0 : Int) (v1 : Int) (v2 : Int) (v3 : Bool) (v9 : BS) (r10_0 : Bool) (r10_1 : Bool) (r10_2 : Bool) (r10_3 : Bool) (r10_4 : Int) (r10_5 : Int) (σ : H) : Ans :=
 condK r10_2 (
 K4 v0 v2 v3 v9 r10_0 r10_1 r10_2 r10_3 r10_4 v1 σ) (
 K4 v0 v2 v3 v9 r10_0 r10_1 r10_2 r10_3 r10_4 r10_5 σ)
def C4_4 (cc5 : XC) : XC := (.seq (.seq (.ops (.op (some 60) .any [2] (.mov (.tmp 2)) <|
 .op (some 61) .any [60] (.bin .eql .none (.tmp 60) (.con (V.int .i64 (Int.ofNat 1)))) <|
 .nil))
 (.cond (.tmp 61) (.ops (.op (some 62) .any [0] (.mov (.tmp 0)) <|
 .op (some 63) .any [10] (.faddr 5 (.tmp 10)) <|
 .op none .any [63, 62] (.store 1 (.tmp 63) (.tmp 62)) <|
 .nil))
 .skip))
 (.keep [(3, .bool), (9, .str)] [10] [(10, [.bool, .bool, .bool, .bool, (.int .i64), (.int .i64)])] cc5))
def T4_4 (E : List (Nat × Blk)) (D : Den) (W : DrawFn) (K5 : Bool → BS → Bool → Bool → Bool → Bool → Int → Int → H → Ans) (v0 : Int) (v2 : Int) (v3 : Bool) (v9 : BS) (r10_0 : Bool) (r10_1 : Bool) (r10_2 : Bool) (r10_3 : Bool) (r10_4 : Int) (r10_5 : Int) (σ : H) : Ans :=
 condK (eqF v2 (Int.ofNat 1)) (
 K5 v3 v9 r10_0 r10_1 r10_2 r10_3 r10_4 v0 σ) (
 K5 v3 v9 r10_0 r10_1 r10_2 r10_3 r10_4 r10_5 σ)
def C4_5 (cc6 : XC) : XC := (.seq (.seq (.ops (.op (some 64) .any [3] (.mov (.tmp 3)) <|
 .nil))
 (.cond (.tmp 64) (.ops (.op (some 65) .any [9] (.mov (.tmp 9)) <|
 .op (some 66) .any [65] (.bin .add .none (.tmp 65) (.con (V.str ⟨5, 198343270444⟩))) <|
 .op (some 9) .any [66] (.mov (.tmp 66)) <|
 .nil))
 .skip))
 (.keep [(9, .str)] [10] [(10, [.bool, .bool, .bool, .bool, (.int .i64), (.int .i64)])] cc6))
def T4_5 (E : List (Nat × Blk)) (D : Den) (W : DrawFn) (K6 : BS → Bool → Bool → Bool → Bool → Int → Int → H → Ans) (v3 : Bool) (v9 : BS) (r10_0 : Bool) (r10_1 : Bool) (r10_2 : Bool) (r10_3 : Bool) (r10_4 : Int) (r10_5 : Int) (σ : H) : Ans :=
 condK v3 (
 catK v9 (BS.mk 5 198343270444) fun t1 =>
 K6 t1 r10_0 r10_1 r10_2 r10_3 r10_4 r10_5 σ) (
 K6 v9 r10_0 r10_1 r10_2 r10_3 r10_4 r10_5 σ)
def C4_6 (cc7 : XC) : XC := (.seq (.ops (.op (some 68) .any [9] (.mov (.tmp 9)) <|
 .op (some 69) .any [68] (.bin .add .none (.con (V.str ⟨9, 740198763078094179913⟩)) (.tmp 68)) <|
 .op (some 70) .any [69] (.bin .add .none (.tmp 69) (.con (V.str ⟨1, 41⟩))) <|
 .op (some 71) .str [70] (.call 10 [(.tmp 70)]) <|
 .op (some 72) (.tup [(.agg [.str, (.int .i64), .any, .any, .any]), (.int .i64), (.int .i64)]) [71] (.call 7 [(.tmp 71)]) <|
 .op (some 67) .any [72] (.mov (.tmp 72)) <|
 .op (some 73) .any [67] (.extract 0 (.tmp 67)) <|
 .op (some 74) .any [67] (.extract 1 (.tmp 67)) <|
 .op (some 75) .any [67] (.extract 2 (.tmp 67)) <|
 .pal 11 [] 27 [(V.str ⟨0, 0⟩), (V.int .i64 (Int.ofNat 0)), V.nils, V.nils, V.nils] <|
 .op none (.agg [.str, (.int .i64), .any, .any, .any]) [11, 73] (.store 5 (.tmp 11) (.tmp 73)) <|
 .op (some 12) .any [74] (.mov (.tmp 74)) <|
 .op (some 13) .any [75] (.mov (.tmp 75)) <|
 .nil))
 (.keep [(9, .str), (13, (.int .i64))] [10, 11] [(10, [.bool, .bool, .bool, .bool, (.int .i64), (.int .i64)]), (11, [.str, (.int .i64), .any, .any, .any])] cc7))
def T4_6 (E : List (Nat × Blk)) (D : Den) (W : DrawFn) (K7 : BS → Int → Bool → Bool → Bool → Bool → Int → Int → BS → Int → V → V → V → H → Ans) (v9 : BS) (r10_0 : Bool) (r10_1 : Bool) (r10_2 : Bool) (r10_3 : Bool) (r10_4 : Int) (r10_5 : Int) (σ : H) : Ans :=
 catK (BS.mk 9 740198763078094179913) v9 fun t1 =>
 catK t1 (BS.mk 1 41) fun t2 =>
 callK (D 10 [(V.str t2)] σ) fun u3 s4 =>
 rtStr u3 fun x5 =>
 callK (D 7 [(V.str x5)] s4) fun u6 s7 =>
 rtTup u6 fun l8 =>
 rtCons l8 fun x9 l10 =>
 rtAgg x9 fun l11 =>
 rtCons l11 fun x12 l13 =>
 rtStr x12 fun x14 =>
 rtCons l13 fun x15 l16 =>
 rtInt .i64 x15 fun x17 =>
 rtCons l16 fun x18 l19 =>
 rtCons l19 fun x20 l21 =>
 rtCons l21 fun x22 l23 =>
 rtNil l23 (
 rtCons l10 fun x24 l25 =>
 rtInt .i64 x24 fun x26 =>
 rtCons l25 fun x27 l28 =>
 rtInt .i64 x27 fun x29 =>
 rtNil l28 (
 chk (allOne [(V.str x14), (V.int .i64 x17), x18, x20, x22]) (
 K7 v9 x29 r10_0 r10_1 r10_2 r10_3 r10_4 r10_5 x14 x17 x18 x20 x22 s7)))
def C4_7 (cc8 : XC) : XC := (.seq (.ops (.op (some 77) .any [9] (.mov (.tmp 9)) <|
 .op (some 78) .any [77] (.bin .add .none (.con (V.str ⟨20, 229079296149914293436645900950553960833441088335⟩)) (.tmp 77)) <|
 .op (some 79) .any [78] (.bin .add .none (.tmp 78) (.con (V.str ⟨2, 10537⟩))) <|
 .op (some 80) .str [79] (.call 10 [(.tmp 79)]) <|
 .op (some 81) (.tup [(.agg [.str, (.int .i64), .any, .any, .any]), (.int .i64), (.int .i64)]) [80] (.call 7 [(.tmp 80)]) <|
 .op (some 76) .any [81] (.mov (.tmp 81)) <|
 .op (some 82) .any [76] (.extract 0 (.tmp 76)) <|
 .op (some 83) .any [76] (.extract 1 (.tmp 76)) <|
 .op (some 84) .any [76] (.extract 2 (.tmp 76)) <|
 .pal 14 [] 27 [(V.str ⟨0, 0⟩), (V.int .i64 (Int.ofNat 0)), V.nils, V.nils, V.nils] <|
 .op none (.agg [.str, (.int .i64), .any, .any, .any]) [14, 82] (.store 5 (.tmp 14) (.tmp 82)) <|
 .op (some 15) .any [83] (.mov (.tmp 83)) <|
 .op (some 16) .any [84] (.mov (.tmp 84)) <|
 .nil))
 (.keep [(9, .str), (13, (.int .i64)), (16, (.int .i64))] [10, 11, 14] [(10, [.bool, .bool, .bool, .bool, (.int .i64), (.int .i64)]), (11, [.str, (.int .i64), .any, .any, .any]), (14, [.str, (.int .i64), .any, .any, .any])] cc8))
def T4_7 (E : List (Nat × Blk)) (D : Den) (W : DrawFn) (K8 : BS → Int → Int → Bool → Bool → Bool → Bool → Int → Int → BS → Int → V → V → V → BS → Int → V → V → V → H → Ans) (v9 : BS) (v13 : Int) (r10_0 : Bool) (r10_1 : Bool) (r10_2 : Bool) (r10_3 : Bool) (r10_4 : Int) (r10_5 : Int) (r11_0 : BS) (r11_1 : Int) (r11_2 : V) (r11_3 : V) (r11_4 : V) (σ : H) : Ans :=
 catK (BS.mk 20 229079296149914293436645900950553960833441088335) v9 fun t1 =>
 catK t1 (BS.mk 2 10537) fun t2 =>
 callK (D 10 [(V.str t2)] σ) fun u3 s4 =>
 rtStr u3 fun x5 =>
 callK (D 7 [(V.str x5)] s4) fun u6 s7 =>
 rtTup u6 fun l8 =>
 rtCons l8 fun x9 l10 =>
 rtAgg x9 fun l11 =>
 rtCons l11 fun x12 l13 =>
 rtStr x12 fun x14 =>
 rtCons l13 fun x15 l16 =>
 rtInt .i64 x15 fun x17 =>
 rtCons l16 fun x18 l19 =>
 rtCons l19 fun x20 l21 =>
 rtCons l21 fun x22 l23 =>
 rtNil l23 (
 rtCons l10 fun x24 l25 =>
 rtInt .i64 x24 fun x26 =>
 rtCons l25 fun x27 l28 =>
 rtInt .i64 x27 fun x29 =>
 rtNil l28 (
 chk (allOne [(V.str x14), (V.int .i64 x17), x18, x20, x22]) (
 K8 v9 v13 x29 r10_0 r10_1 r10_2 r10_3 r10_4 r10_5 r11_0 r11_1 r11_2 r11_3 r11_4 x14 x17 x18 x20 x22 s7)))
def C4_8 (cc9 : XC) : XC := (.seq (.ops (.op (some 86) .any [9] (.mov (.tmp 9)) <|
 .op (some 87) .any [86] (.bin .add .none (.con (V.str ⟨16, 53336679970359963699247142327714661715⟩)) (.tmp 86)) <|
 .op (some 88) .any [87] (.bin .add .none (.tmp 87) (.con (V.str ⟨10, 360307952133722716776745⟩))) <|
 .op (some 89) .str [88] (.call 10 [(.tmp 88)]) <|
 .op (some 90) (.tup [(.agg [.str, (.int .i64), .any, .any, .any]), (.int .i64), (.int .i64)]) [89] (.call 7 [(.tmp 89)]) <|
 .op (some 85) .any [90] (.mov (.tmp 90)) <|
 .op (some 91) .any [85] (.extract 0 (.tmp 85)) <|
 .op (some 92) .any [85] (.extract 1 (.tmp 85)) <|
 .op (some 93) .any [85] (.extract 2 (.tmp 85)) <|
 .pal 17 [] 27 [(V.str ⟨0, 0⟩), (V.int .i64 (Int.ofNat 0)), V.nils, V.nils, V.nils] <|
 .op none (.agg [.str, (.int .i64), .any, .any, .any]) [17, 91] (.store 5 (.tmp 17) (.tmp 91)) <|
 .op (some 18) .any [92] (.mov (.tmp 92)) <|
 .op (some 19) .any [93] (.mov (.tmp 93)) <|
 .nil))
 (.keep [(13, (.int .i64)), (16, (.int .i64)), (19, (.int .i64))] [10, 11, 14, 17] [(10, [.bool, .bool, .bool, .bool, (.int .i64), (.int .i64)]), (11, [.str, (.int .i64), .any, .any, .any]), (14, [.str, (.int .i64), .any, .any, .any]), (17, [.str, (.int .i64), .any, .any, .any])] cc9))
def T4_8 (E : List (Nat × Blk)) (D : Den) (W : DrawFn) (K9 : Int → Int → Int → Bool → Bool → Bool → Bool → Int → Int → BS → Int → V → V → V → BS → Int → V → V → V → BS → Int → V → V → V → H → Ans) (v9 : BS) (v13 : Int) (v16 : Int) (r10_0 : Bool) (r10_1 : Bool) (r10_2 : Bool) (r10_3 : Bool) (r10_4 : Int) (r10_5 : Int) (r11_0 : BS) (r11_1 : Int) (r11_2 : V) (r11_3 : V) (r11_4 : V) (r14_0 : BS) (r14_1 : Int) (r14_2 : V) (r14_3 : V) (r14_4 : V) (σ : H) : Ans :=
 catK (BS.mk 16 53336679970359963699247142327714661715) v9 fun t1 =>
 catK t1 (BS.mk 10 360307952133722716776745) fun t2 =>
 callK (D 10 [(V.str t2)] σ) fun u3 s4 =>
 rtStr u3 fun x5 =>
 callK (D 7 [(V.str x5)] s4) fun u6 s7 =>
 rtTup u6 fun l8 =>
 rtCons l8 fun x9 l10 =>
 rtAgg x9 fun l11 =>
 rtCons l11 fun x12 l13 =>
 rtStr x12 fun x14 =>
 rtCons l13 fun x15 l16 =>
 rtInt .i64 x15 fun x17 =>
 rtCons l16 fun x18 l19 =>
 rtCons l19 fun x20 l21 =>
 rtCons l21 fun x22 l23 =>
 rtNil l23 (
 rtCons l10 fun x24 l25 =>
 rtInt .i64 x24 fun x26 =>
 rtCons l25 fun x27 l28 =>
 rtInt .i64 x27 fun x29 =>
 rtNil l28 (
 chk (allOne [(V.str x14), (V.int .i64 x17), x18, x20, x22]) (
 K9 v13 v16 x29 r10_0 r10_1 r10_2 r10_3 r10_4 r10_5 r11_0 r11_1 r11_2 r11_3 r11_4 r14_0 r14_1 r14_2 r14_3 r14_4 x14 x17 x18 x20 x22 s7)))
def C4_9 (cc10 : XC) (cc11 : XL) : XC := (.seq (.draw (.op (some 94) .bool [] (.call 6 []) <|
 .op (some 95) .any [94] (.mov (.tmp 94)) <|
 .grp 95 true (.op (some 96) .any [13, 95] (.mov (.tmp 13)) <|
 .op (some 97) .any [96, 95] (.bin .eql .none (.tmp 96) (.con (V.int .i64 (Int.ofNat 0)))) <|
 .nil) 98 [95, 97] (.tmp 95) (.tmp 97) (.con (V.bool false)) <|
 .op (some 99) .any [98] (.mov (.tmp 98)) <|
 .grp 99 true (.op (some 100) .any [16, 99] (.mov (.tmp 16)) <|
 .op (some 101) .any [100, 99] (.bin .eql .none (.tmp 100) (.con (V.int .i64 (Int.ofNat 0)))) <|
 .nil) 102 [99, 101] (.tmp 99) (.tmp 101) (.con (V.bool false)) <|
 .op (some 103) .any [102] (.mov (.tmp 102)) <|
 .grp 103 true (.op (some 104) .any [19, 103] (.mov (.tmp 19)) <|
 .op (some 105) .any [104, 103] (.bin .eql .none (.tmp 104) (.con (V.int .i64 (Int.ofNat 0)))) <|
 .nil) 106 [103, 105] (.tmp 103) (.tmp 105) (.con (V.bool false)) <|
 cc11) [0, 1, 3, 7, 15, 31, 63, 127, 255, 511, 1023, 2047, 4095, 8191, 16383, 32767, 65535, 131071, 262143, 524287, 1048575, 2097151, 4194303, 8388607, 16777215, 1048575, 67108863, 134217727, 268435455, 536870911, 1073741823, 2147483647, 4294967295, 8589934591, 17179869183, 34359738367, 68719476735, 137438953471, 274877906943, 549755813887, 34359738367, 2199023255551, 4398046511103, 8796093022207, 17592186044415, 35184372088831, 70368744177663, 140737488355327, 281474976710655, 562949953421311, 1125899906842623, 2251799813685247, 4503599627370495, 9007199254740991, 18014398509481983, 1125899906842623, 72057594037927935, 144115188075855871, 288230376151711743])
 (.keep [(8, .bool)] [] [] cc10))
def T4_9 (E : List (Nat × Blk)) (D : Den) (W : DrawFn) (K11 : Bool → Bool → Bool → Bool → Bool → Bool → Bool → Int → Int → Int → Bool → Bool → Bool → Bool → Int → Int → BS → Int → V → V → V → BS → Int → V → V → V → BS → Int → V → V → V → H → Ans) (v13 : Int) (v16 : Int) (v19 : Int) (r10_0 : Bool) (r10_1 : Bool) (r10_2 : Bool) (r10_3 : Bool) (r10_4 : Int) (r10_5 : Int) (r11_0 : BS) (r11_1 : Int) (r11_2 : V) (r11_3 : V) (r11_4 : V) (r14_0 : BS) (r14_1 : Int) (r14_2 : V) (r14_3 : V) (r14_4 : V) (r17_0 : BS) (r17_1 : Int) (r17_2 : V) (r17_3 : V) (r17_4 : V) (σ : H) : Ans :=
 callK (D 6 [] σ) fun u1 s2 =>
 rtBool u1 fun x3 =>
 joinB (fun c4 s5 =>
 joinB (fun c7 s8 =>
 joinB (fun c10 s11 =>
 K11 c10 c7 c7 c4 c4 x3 x3 v13 v16 v19 r10_0 r10_1 r10_2 r10_3 r10_4 r10_5 r11_0 r11_1 r11_2 r11_3 r11_4 r14_0 r14_1 r14_2 r14_3 r14_4 r17_0 r17_1 r17_2 r17_3 r17_4 s11) fun k12 =>
 condK c7 (
 k12 (eqF v19 (Int.ofNat 0)) s8) (
 k12 false s8)) fun k9 =>
 condK c4 (
 k9 (eqF v16 (Int.ofNat 0)) s5) (
 k9 false s5)) fun k6 =>
 condK x3 (
 k6 (eqF v13 (Int.ofNat 0)) s2) (
 k6 false s2)
def C4_10 : XC := .ret
def T4_10 (E : List (Nat × Blk)) (D : Den) (W : DrawFn) (v8 : Bool) (σ : H) : Ans :=
 some ((V.bool v8), σ)
def C4_11 (cc12 : XL) : XL := .op (some 107) .any [106] (.mov (.tmp 106)) <|
 .grp 107 true (.op (some 108) .any [11, 107] (.faddr 4 (.tmp 11)) <|
 .op (some 109) .any [108, 107] (.load none (.tmp 108)) <|
 .op (some 110) .any [109, 107] (.len false (.tmp 109)) <|
 .op (some 111) .any [110, 107] (.bin .eql .none (.tmp 110) (.con (V.int .i64 (Int.ofNat 1)))) <|
 .nil) 112 [107, 111] (.tmp 107) (.tmp 111) (.con (V.bool false)) <|
 .op (some 113) .any [112] (.mov (.tmp 112)) <|
 .grp 113 true (.op (some 114) .any [11, 113] (.faddr 4 (.tmp 11)) <|
 .op (some 115) .any [114, 113] (.load none (.tmp 114)) <|
 .op (some 116) .any [115, 113] (.iaddrS 16 (.tmp 115) (.con (V.int .i64 (Int.ofNat 0)))) <|
 .op (some 117) .any [116, 113] (.faddr 5 (.tmp 116)) <|
 .op (some 118) (.agg [.bool, .bool, .bool, .bool, (.int .i64), (.int .i64)]) [117, 113] (.load (some 6) (.tmp 117)) <|
 .op (some 119) (.agg [.bool, .bool, .bool, .bool, (.int .i64), (.int .i64)]) [10, 113] (.load (some 6) (.tmp 10)) <|
 .op (some 120) .any [118, 119, 113] (.bin .eql (.flat [(0, .bool), (1, .bool), (2, .bool), (3, .bool), (4, .int), (5, .int)]) (.tmp 118) (.tmp 119)) <|
 .nil) 121 [113, 120] (.tmp 113) (.tmp 120) (.con (V.bool false)) <|
 .op (some 122) .any [121] (.mov (.tmp 121)) <|
 .grp 122 true (.op (some 123) .any [14, 122] (.faddr 4 (.tmp 14)) <|
 .op (some 124) .any [123, 122] (.load none (.tmp 123)) <|
 .op (some 125) .any [124, 122] (.len false (.tmp 124)) <|
 .op (some 126) .any [125, 122] (.bin .eql .none (.tmp 125) (.con (V.int .i64 (Int.ofNat 1)))) <|
 .nil) 127 [122, 126] (.tmp 122) (.tmp 126) (.con (V.bool false)) <|
 cc12
def T4_11 (E : List (Nat × Blk)) (D : Den) (W : DrawFn) (K12 : Bool → Bool → Bool → Bool → Bool → Bool → Bool → Bool → Bool → Bool → Bool → Bool → Bool → Int → Int → Int → Bool → Bool → Bool → Bool → Int → Int → BS → Int → V → V → V → BS → Int → V → V → V → BS → Int → V → V → V → H → Ans) (m0 : Bool) (m1 : Bool) (m2 : Bool) (m3 : Bool) (m4 : Bool) (m5 : Bool) (m6 : Bool) (m7 : Int) (m8 : Int) (m9 : Int) (r10_0 : Bool) (r10_1 : Bool) (r10_2 : Bool) (r10_3 : Bool) (r10_4 : Int) (r10_5 : Int) (r11_0 : BS) (r11_1 : Int) (r11_2 : V) (r11_3 : V) (r11_4 : V) (r14_0 : BS) (r14_1 : Int) (r14_2 : V) (r14_3 : V) (r14_4 : V) (r17_0 : BS) (r17_1 : Int) (r17_2 : V) (r17_3 : V) (r17_4 : V) (σ : H) : Ans :=
 joinB (fun c1 s2 =>
 joinB (fun c4 s5 =>
 joinB (fun c7 s8 =>
 K12 c7 c4 c4 c1 c1 m0 m0 m1 m2 m3 m4 m5 m6 m7 m8 m9 r10_0 r10_1 r10_2 r10_3 r10_4 r10_5 r11_0 r11_1 r11_2 r11_3 r11_4 r14_0 r14_1 r14_2 r14_3 r14_4 r17_0 r17_1 r17_2 r17_3 r17_4 s8) fun k9 =>
 condK c4 (
 slenK r14_4 fun n10 =>
 k9 (eqF (Int.ofNat n10) (Int.ofNat 1)) s5) (
 k9 false s5)) fun k6 =>
 condK c1 (
 iaddrSK 16 r11_4 (Int.ofNat 0) fun b11 o12 =>
 ldnK E s2 b11 (Nat.add o12 5) 6 fun l13 =>
 rtCons l13 fun x14 l15 =>
 rtBool x14 fun x16 =>
 rtCons l15 fun x17 l18 =>
 rtBool x17 fun x19 =>
 rtCons l18 fun x20 l21 =>
 rtBool x20 fun x22 =>
 rtCons l21 fun x23 l24 =>
 rtBool x23 fun x25 =>
 rtCons l24 fun x26 l27 =>
 rtInt .i64 x26 fun x28 =>
 rtCons l27 fun x29 l30 =>
 rtInt .i64 x29 fun x31 =>
 rtNil l30 (
 eqK (.flat [(0, .bool), (1, .bool), (2, .bool), (3, .bool), (4, .int), (5, .int)]) (V.agg [(V.bool x16), (V.bool x19), (V.bool x22), (V.bool x25), (V.int .i64 x28), (V.int .i64 x31)]) (V.agg [(V.bool r10_0), (V.bool r10_1), (V.bool r10_2), (V.bool r10_3), (V.int .i64 r10_4), (V.int .i64 r10_5)]) fun c32 =>
 k6 c32 s2)) (
 k6 false s2)) fun k3 =>
 condK m0 (
 slenK r11_4 fun n33 =>
 k3 (eqF (Int.ofNat n33) (Int.ofNat 1)) σ) (
 k3 false σ)
def C4_12 : XL := .op (some 128) .any [127] (.mov (.tmp 127)) <|
 .grp 128 true (.op (some 129) .any [14, 128] (.faddr 4 (.tmp 14)) <|
 .op (some 130) .any [129, 128] (.load none (.tmp 129)) <|
 .op (some 131) .any [130, 128] (.iaddrS 16 (.tmp 130) (.con (V.int .i64 (Int.ofNat 0)))) <|
 .op (some 132) .any [131, 128] (.faddr 5 (.tmp 131)) <|
 .op (some 133) (.agg [.bool, .bool, .bool, .bool, (.int .i64), (.int .i64)]) [132, 128] (.load (some 6) (.tmp 132)) <|
 .op (some 134) (.agg [.bool, .bool, .bool, .bool, (.int .i64), (.int .i64)]) [10, 128] (.load (some 6) (.tmp 10)) <|
 .op (some 135) .any [133, 134, 128] (.bin .eql (.flat [(0, .bool), (1, .bool), (2, .bool), (3, .bool), (4, .int), (5, .int)]) (.tmp 133) (.tmp 134)) <|
 .nil) 136 [128, 135] (.tmp 128) (.tmp 135) (.con (V.bool false)) <|
 .op (some 137) .any [136] (.mov (.tmp 136)) <|
 .grp 137 true (.op (some 138) .any [17, 137] (.faddr 4 (.tmp 17)) <|
 .op (some 139) .any [138, 137] (.load none (.tmp 138)) <|
 .op (some 140) .any [139, 137] (.len false (.tmp 139)) <|
 .op (some 141) .any [140, 137] (.bin .eql .none (.tmp 140) (.con (V.int .i64 (Int.ofNat 2)))) <|
 .nil) 142 [137, 141] (.tmp 137) (.tmp 141) (.con (V.bool false)) <|
 .op (some 143) .any [142] (.mov (.tmp 142)) <|
 .grp 143 true (.op (some 144) .any [17, 143] (.faddr 4 (.tmp 17)) <|
 .op (some 145) .any [144, 143] (.load none (.tmp 144)) <|
 .op (some 146) .any [145, 143] (.iaddrS 16 (.tmp 145) (.con (V.int .i64 (Int.ofNat 0)))) <|
 .op (some 147) .any [146, 143] (.faddr 5 (.tmp 146)) <|
 .op (some 148) (.agg [.bool, .bool, .bool, .bool, (.int .i64), (.int .i64)]) [147, 143] (.load (some 6) (.tmp 147)) <|
 .op (some 149) (.agg [.bool, .bool, .bool, .bool, (.int .i64), (.int .i64)]) [10, 143] (.load (some 6) (.tmp 10)) <|
 .op (some 150) .any [148, 149, 143] (.bin .eql (.flat [(0, .bool), (1, .bool), (2, .bool), (3, .bool), (4, .int), (5, .int)]) (.tmp 148) (.tmp 149)) <|
 .nil) 151 [143, 150] (.tmp 143) (.tmp 150) (.con (V.bool false)) <|
 .op (some 8) .any [151] (.mov (.tmp 151)) <|
 .nil
def T4_12 (E : List (Nat × Blk)) (D : Den) (W : DrawFn) (K10 : Bool → H → Ans) (m0 : Bool) (m1 : Bool) (m2 : Bool) (m3 : Bool) (m4 : Bool) (m5 : Bool) (m6 : Bool) (m7 : Bool) (m8 : Bool) (m9 : Bool) (m10 : Bool) (m11 : Bool) (m12 : Bool) (m13 : Int) (m14 : Int) (m15 : Int) (r10_0 : Bool) (r10_1 : Bool) (r10_2 : Bool) (r10_3 : Bool) (r10_4 : Int) (r10_5 : Int) (r11_0 : BS) (r11_1 : Int) (r11_2 : V) (r11_3 : V) (r11_4 : V) (r14_0 : BS) (r14_1 : Int) (r14_2 : V) (r14_3 : V) (r14_4 : V) (r17_0 : BS) (r17_1 : Int) (r17_2 : V) (r17_3 : V) (r17_4 : V) (σ : H) : Ans :=
 joinB (fun c1 s2 =>
 joinB (fun c4 s5 =>
 joinB (fun c7 s8 =>
 K10 c7 s8) fun k9 =>
 condK c4 (
 iaddrSK 16 r17_4 (Int.ofNat 0) fun b10 o11 =>
 ldnK E s5 b10 (Nat.add o11 5) 6 fun l12 =>
 rtCons l12 fun x13 l14 =>
 rtBool x13 fun x15 =>
 rtCons l14 fun x16 l17 =>
 rtBool x16 fun x18 =>
 rtCons l17 fun x19 l20 =>
 rtBool x19 fun x21 =>
 rtCons l20 fun x22 l23 =>
 rtBool x22 fun x24 =>
 rtCons l23 fun x25 l26 =>
 rtInt .i64 x25 fun x27 =>
 rtCons l26 fun x28 l29 =>
 rtInt .i64 x28 fun x30 =>
 rtNil l29 (
 eqK (.flat [(0, .bool), (1, .bool), (2, .bool), (3, .bool), (4, .int), (5, .int)]) (V.agg [(V.bool x15), (V.bool x18), (V.bool x21), (V.bool x24), (V.int .i64 x27), (V.int .i64 x30)]) (V.agg [(V.bool r10_0), (V.bool r10_1), (V.bool r10_2), (V.bool r10_3), (V.int .i64 r10_4), (V.int .i64 r10_5)]) fun c31 =>
 k9 c31 s5)) (
 k9 false s5)) fun k6 =>
 condK c1 (
 slenK r17_4 fun n32 =>
 k6 (eqF (Int.ofNat n32) (Int.ofNat 2)) s2) (
 k6 false s2)) fun k3 =>
 condK m0 (
 iaddrSK 16 r14_4 (Int.ofNat 0) fun b33 o34 =>
 ldnK E σ b33 (Nat.add o34 5) 6 fun l35 =>
 rtCons l35 fun x36 l37 =>
 rtBool x36 fun x38 =>
 rtCons l37 fun x39 l40 =>
 rtBool x39 fun x41 =>
 rtCons l40 fun x42 l43 =>
 rtBool x42 fun x44 =>
 rtCons l43 fun x45 l46 =>
 rtBool x45 fun x47 =>
 rtCons l46 fun x48 l49 =>
 rtInt .i64 x48 fun x50 =>
 rtCons l49 fun x51 l52 =>
 rtInt .i64 x51 fun x53 =>
 rtNil l52 (
 eqK (.flat [(0, .bool), (1, .bool), (2, .bool), (3, .bool), (4, .int), (5, .int)]) (V.agg [(V.bool x38), (V.bool x41), (V.bool x44), (V.bool x47), (V.int .i64 x50), (V.int .i64 x53)]) (V.agg [(V.bool r10_0), (V.bool r10_1), (V.bool r10_2), (V.bool r10_3), (V.int .i64 r10_4), (V.int .i64 r10_5)]) fun c54 =>
 k3 c54 σ)) (
 k3 false σ)
theorem P4_0 (E : List (Nat × Blk)) (D : Den) (W : DrawFn) (N : Nat) (cc1 : XC) (v0 : Int) (v1 : Int) (v2 : Int) (v3 : Bool) (σ : H) :
  denC E D W N (C4_0 cc1) ⟨[(0, (V.int .i64 v0)), (1, (V.int .i64 v1)), (2, (V.int .i64 v2)), (3, (V.bool v3))], [], [], σ⟩ (Fin4 E) (fun _ _ => none) (Fin4 E) =
  T4_0 E D W (fun v0 v1 v2 v3 v9 σ => denC E D W N cc1 ⟨[(0, (V.int .i64 v0)), (1, (V.int .i64 v1)), (2, (V.int .i64 v2)), (3, (V.bool v3)), (9, (V.str v9))], [], [], σ⟩ (Fin4 E) (fun _ _ => none) (Fin4 E)) v0 v1 v2 v3 σ := by kernel_rfl
theorem P4_1 (E : List (Nat × Blk)) (D : Den) (W : DrawFn) (N : Nat) (cc2 : XC) (v0 : Int) (v1 : Int) (v2 : Int) (v3 : Bool) (v9 : BS) (σ : H) :
  denC E D W N (C4_1 cc2) ⟨[(0, (V.int .i64 v0)), (1, (V.int .i64 v1)), (2, (V.int .i64 v2)), (3, (V.bool v3)), (9, (V.str v9))], [], [], σ⟩ (Fin4 E) (fun _ _ => none) (Fin4 E) =
  T4_1 E D W (fun v0 v1 v2 v3 v9 r10_0 r10_1 r10_2 r10_3 r10_4 r10_5 σ => denC E D W N cc2 ⟨[(0, (V.int .i64 v0)), (1, (V.int .i64 v1)), (2, (V.int .i64 v2)), (3, (V.bool v3)), (9, (V.str v9))], [(10, (10, 0))], [(10, [(V.bool r10_0), (V.bool r10_1), (V.bool r10_2), (V.bool r10_3), (V.int .i64 r10_4), (V.int .i64 r10_5)])], σ⟩ (Fin4 E) (fun _ _ => none) (Fin4 E)) v0 v1 v2 v3 v9 σ := by kernel_rfl
theorem P4_2 (E : List (Nat × Blk)) (D : Den) (W : DrawFn) (N : Nat) (cc3 : XC) (v0 : Int) (v1 : Int) (v2 : Int) (v3 : Bool) (v9 : BS) (r10_0 : Bool) (r10_1 : Bool) (r10_2 : Bool) (r10_3 : Bool) (r10_4 : Int) (r10_5 : Int) (σ : H) :
  denC E D W N (C4_2 cc3) ⟨[(0, (V.int .i64 v0)), (1, (V.int .i64 v1)), (2, (V.int .i64 v2)), (3, (V.bool v3)), (9, (V.str v9))], [(10, (10, 0))], [(10, [(V.bool r10_0), (V.bool r10_1), (V.bool r10_2), (V.bool r10_3), (V.int .i64 r10_4), (V.int .i64 r10_5)])], σ⟩ (Fin4 E) (fun _ _ => none) (Fin4 E) =
  T4_2 E D W (fun v0 v1 v2 v3 v9 r10_0 r10_1 r10_2 r10_3 r10_4 r10_5 σ => denC E D W N cc3 ⟨[(0, (V.int .i64 v0)), (1, (V.int .i64 v1)), (2, (V.int .i64 v2)), (3, (V.bool v3)), (9, (V.str v9))], [(10, (10, 0))], [(10, [(V.bool r10_0), (V.bool r10_1), (V.bool r10_2), (V.bool r10_3), (V.int .i64 r10_4), (V.int .i64 r10_5)])], σ⟩ (Fin4 E) (fun _ _ => none) (Fin4 E)) v0 v1 v2 v3 v9 r10_0 r10_1 r10_2 r10_3 r10_4 r10_5 σ := by kernel_rfl
theorem P4_3 (E : List (Nat × Blk)) (D : Den) (W : DrawFn) (N : Nat) (cc4 : XC) (v0 : Int) (v1 : Int) (v2 : Int) (v3 : Bool) (v9 : BS) (r10_0 : Bool) (r10_1 : Bool) (r10_2 : Bool) (r10_3 : Bool) (r10_4 : Int) (r10_5 : Int) (σ : H) :
  denC E D W N (C4_3 cc4) ⟨[(0, (V.int .i64 v0)), (1, (V.int .i64 v1)), (2, (V.int .i64 v2)), (3, (V.bool v3)), (9, (V.str v9))], [(10, (10, 0))], [(10, [(V.bool r10_0), (V.bool r10_1), (V.bool r10_2), (V.bool r10_3), (V.int .i64 r10_4), (V.int .i64 r10_5)])], σ⟩ (Fin4 E) (fun _ _ => none) (Fin4 E) =
  T4_3 E D W (fun v0 v2 v3 v9 r10_0 r10_1 r10_2 r10_3 r10_4 r10_5 σ => denC E D W N cc4 ⟨[(0, (V.int .i64 v0)), (2, (V.int .i64 v2)), (3, (V.bool v3)), (9, (V.str v9))], [(10, (10, 0))], [(10, [(V.bool r10_0), (V.bool r10_1), (V.bool r10_2), (V.bool r10_3), (V.int .i64 r10_4), (V.int .i64 r10_5)])], σ⟩ (Fin4 E) (fun _ _ => none) (Fin4 E)) v0 v1 v2 v3 v9 r10_0 r10_1 r10_2 r10_3 r10_4 r10_5 σ := by kernel_rfl
theorem P4_4 (E : List (Nat × Blk)) (D : Den) (W : DrawFn) (N : Nat) (cc5 : XC) (v0 : Int) (v2 : Int) (v3 : Bool) (v9 : BS) (r10_0 : Bool) (r10_1 : Bool) (r10_2 : Bool) (r10_3 : Bool) (r10_4 : Int) (r10_5 : Int) (σ : H) :
  denC E D W N (C4_4 cc5) ⟨[(0, (V.int .i64 v0)), (2, (V.int .i64 v2)), (3, (V.bool v3)), (9, (V.str v9))], [(10, (10, 0))], [(10, [(V.bool r10_0), (V.bool r10_1), (V.bool r10_2), (V.bool r10_3), (V.int .i64 r10_4), (V.int .i64 r10_5)])], σ⟩ (Fin4 E) (fun _ _ => none) (Fin4 E) =
  T4_4 E D W (fun v3 v9 r10_0 r10_1 r10_2 r10_3 r10_4 r10_5 σ => denC E D W N cc5 ⟨[(3, (V.bool v3)), (9, (V.str v9))], [(10, (10, 0))], [(10, [(V.bool r10_0), (V.bool r10_1), (V.bool r10_2), (V.bool r10_3), (V.int .i64 r10_4), (V.int .i64 r10_5)])], σ⟩ (Fin4 E) (fun _ _ => none) (Fin4 E)) v0 v2 v3 v9 r10_0 r10_1 r10_2 r10_3 r10_4 r10_5 σ := by kernel_rfl
theorem P4_5 (E : List (Nat × Blk)) (D : Den) (W : DrawFn) (N : Nat) (cc6 : XC) (v3 : Bool) (v9 : BS) (r10_0 : Bool) (r10_1 : Bool) (r10_2 : Bool) (r10_3 : Bool) (r10_4 : Int) (r10_5 : Int) (σ : H) :
  denC E D W N (C4_5 cc6) ⟨[(3, (V.bool v3)), (9, (V.str v9))], [(10, (10, 0))], [(10, [(V.bool r10_0), (V.bool r10_1), (V.bool r10_2), (V.bool r10_3), (V.int .i64 r10_4), (V.int .i64 r10_5)])], σ⟩ (Fin4 E) (fun _ _ => none) (Fin4 E) =
  T4_5 E D W (fun v9 r10_0 r10_1 r10_2 r10_3 r10_4 r10_5 σ => denC E D W N cc6 ⟨[(9, (V.str v9))], [(10, (10, 0))], [(10, [(V.bool r10_0), (V.bool r10_1), (V.bool r10_2), (V.bool r10_3), (V.int .i64 r10_4), (V.int .i64 r10_5)])], σ⟩ (Fin4 E) (fun _ _ => none) (Fin4 E)) v3 v9 r10_0 r10_1 r10_2 r10_3 r10_4 r10_5 σ := by kernel_rfl
theorem P4_6 (E : List (Nat × Blk)) (D : Den) (W : DrawFn) (N : Nat) (cc7 : XC) (v9 : BS) (r10_0 : Bool) (r10_1 : Bool) (r10_2 : Bool) (r10_3 : Bool) (r10_4 : Int) (r10_5 : Int) (σ : H) :
  denC E D W N (C4_6 cc7) ⟨[(9, (V.str v9))], [(10, (10, 0))], [(10, [(V.bool r10_0), (V.bool r10_1), (V.bool r10_2), (V.bool r10_3), (V.int .i64 r10_4), (V.int .i64 r10_5)])], σ⟩ (Fin4 E) (fun _ _ => none) (Fin4 E) =
  T4_6 E D W (fun v9 v13 r10_0 r10_1 r10_2 r10_3 r10_4 r10_5 r11_0 r11_1 r11_2 r11_3 r11_4 σ => denC E D W N cc7 ⟨[(9, (V.str v9)), (13, (V.int .i64 v13))], [(10, (10, 0)), (11, (11, 0))], [(10, [(V.bool r10_0), (V.bool r10_1), (V.bool r10_2), (V.bool r10_3), (V.int .i64 r10_4), (V.int .i64 r10_5)]), (11, [(V.str r11_0), (V.int .i64 r11_1), r11_2, r11_3, r11_4])], σ⟩ (Fin4 E) (fun _ _ => none) (Fin4 E)) v9 r10_0 r10_1 r10_2 r10_3 r10_4 r10_5 σ := by kernel_rfl
theorem P4_7 (E : List (Nat × Blk)) (D : Den) (W : DrawFn) (N : Nat) (cc8 : XC) (v9 : BS) (v13 : Int) (r10_0 : Bool) (r10_1 : Bool) (r10_2 : Bool) (r10_3 : Bool) (r10_4 : Int) (r10_5 : Int) (r11_0 : BS) (r11_1 : Int) (r11_2 : V) (r11_3 : V) (r11_4 : V) (σ : H) :
  denC E D W N (C4_7 cc8) ⟨[(9, (V.str v9)), (13, (V.int .i64 v13))], [(10, (10, 0)), (11, (11, 0))], [(10, [(V.bool r10_0), (V.bool r10_1), (V.bool r10_2), (V.bool r10_3), (V.int .i64 r10_4), (V.int .i64 r10_5)]), (11, [(V.str r11_0), (V.int .i64 r11_1), r11_2, r11_3, r11_4])], σ⟩ (Fin4 E) (fun _ _ => none) (Fin4 E) =
  T4_7 E D W (fun v9 v13 v16 r10_0 r10_1 r10_2 r10_3 r10_4 r10_5 r11_0 r11_1 r11_2 r11_3 r11_4 r14_0 r14_1 r14_2 r14_3 r14_4 σ => denC E D W N cc8 ⟨[(9, (V.str v9)), (13, (V.int .i64 v13)), (16, (V.int .i64 v16))], [(10, (10, 0)), (11, (11, 0)), (14, (14, 0))], [(10, [(V.bool r10_0), (V.bool r10_1), (V.bool r10_2), (V.bool r10_3), (V.int .i64 r10_4), (V.int .i64 r10_5)]), (11, [(V.str r11_0), (V.int .i64 r11_1), r11_2, r11_3, r11_4]), (14, [(V.str r14_0), (V.int .i64 r14_1), r14_2, r14_3, r14_4])], σ⟩ (Fin4 E) (fun _ _ => none) (Fin4 E)) v9 v13 r10_0 r10_1 r10_2 r10_3 r10_4 r10_5 r11_0 r11_1 r11_2 r11_3 r11_4 σ := by kernel_rfl
theorem P4_8 (E : List (Nat × Blk)) (D : Den) (W : DrawFn) (N : Nat) (cc9 : XC) (v9 : BS) (v13 : Int) (v16 : Int) (r10_0 : Bool) (r10_1 : Bool) (r10_2 : Bool) (r10_3 : Bool) (r10_4 : Int) (r10_5 : Int) (r11_0 : BS) (r11_1 : Int) (r11_2 : V) (r11_3 : V) (r11_4 : V) (r14_0 : BS) (r14_1 : Int) (r14_2 : V) (r14_3 : V) (r14_4 : V) (σ : H) :
  denC E D W N (C4_8 cc9) ⟨[(9, (V.str v9)), (13, (V.int .i64 v13)), (16, (V.int .i64 v16))], [(10, (10, 0)), (11, (11, 0)), (14, (14, 0))], [(10, [(V.bool r10_0), (V.bool r10_1), (V.bool r10_2), (V.bool r10_3), (V.int .i64 r10_4), (V.int .i64 r10_5)]), (11, [(V.str r11_0), (V.int .i64 r11_1), r11_2, r11_3, r11_4]), (14, [(V.str r14_0), (V.int .i64 r14_1), r14_2, r14_3, r14_4])], σ⟩ (Fin4 E) (fun _ _ => none) (Fin4 E) =
  T4_8 E D W (fun v13 v16 v19 r10_0 r10_1 r10_2 r10_3 r10_4 r10_5 r11_0 r11_1 r11_2 r11_3 r11_4 r14_0 r14_1 r14_2 r14_3 r14_4 r17_0 r17_1 r17_2 r17_3 r17_4 σ => denC E D W N cc9 ⟨[(13, (V.int .i64 v13)), (16, (V.int .i64 v16)), (19, (V.int .i64 v19))], [(10, (10, 0)), (11, (11, 0)), (14, (14, 0)), (17, (17, 0))], [(10, [(V.bool r10_0), (V.bool r10_1), (V.bool r10_2), (V.bool r10_3), (V.int .i64 r10_4), (V.int .i64 r10_5)]), (11, [(V.str r11_0), (V.int .i64 r11_1), r11_2, r11_3, r11_4]), (14, [(V.str r14_0), (V.int .i64 r14_1), r14_2, r14_3, r14_4]), (17, [(V.str r17_0), (V.int .i64 r17_1), r17_2, r17_3, r17_4])], σ⟩ (Fin4 E) (fun _ _ => none) (Fin4 E)) v9 v13 v16 r10_0 r10_1 r10_2 r10_3 r10_4 r10_5 r11_0 r11_1 r11_2 r11_3 r11_4 r14_0 r14_1 r14_2 r14_3 r14_4 σ := by kernel_rfl
theorem P4_9 (E : List (Nat × Blk)) (D : Den) (W : DrawFn) (N : Nat) (cc10 : XC) (cc11 : XL) (v13 : Int) (v16 : Int) (v19 : Int) (r10_0 : Bool) (r10_1 : Bool) (r10_2 : Bool) (r10_3 : Bool) (r10_4 : Int) (r10_5 : Int) (r11_0 : BS) (r11_1 : Int) (r11_2 : V) (r11_3 : V) (r11_4 : V) (r14_0 : BS) (r14_1 : Int) (r14_2 : V) (r14_3 : V) (r14_4 : V) (r17_0 : BS) (r17_1 : Int) (r17_2 : V) (r17_3 : V) (r17_4 : V) (σ : H) (hp : palsOk [(10, (10, 0)), (11, (11, 0)), (14, (14, 0)), (17, (17, 0))] (XL.pals (.op (some 94) .bool [] (.call 6 []) <|
 .op (some 95) .any [94] (.mov (.tmp 94)) <|
 .grp 95 true (.op (some 96) .any [13, 95] (.mov (.tmp 13)) <|
 .op (some 97) .any [96, 95] (.bin .eql .none (.tmp 96) (.con (V.int .i64 (Int.ofNat 0)))) <|
 .nil) 98 [95, 97] (.tmp 95) (.tmp 97) (.con (V.bool false)) <|
 .op (some 99) .any [98] (.mov (.tmp 98)) <|
 .grp 99 true (.op (some 100) .any [16, 99] (.mov (.tmp 16)) <|
 .op (some 101) .any [100, 99] (.bin .eql .none (.tmp 100) (.con (V.int .i64 (Int.ofNat 0)))) <|
 .nil) 102 [99, 101] (.tmp 99) (.tmp 101) (.con (V.bool false)) <|
 .op (some 103) .any [102] (.mov (.tmp 102)) <|
 .grp 103 true (.op (some 104) .any [19, 103] (.mov (.tmp 19)) <|
 .op (some 105) .any [104, 103] (.bin .eql .none (.tmp 104) (.con (V.int .i64 (Int.ofNat 0)))) <|
 .nil) 106 [103, 105] (.tmp 103) (.tmp 105) (.con (V.bool false)) <|
 cc11)) = true) :
  denC E D W N (C4_9 cc10 cc11) ⟨[(13, (V.int .i64 v13)), (16, (V.int .i64 v16)), (19, (V.int .i64 v19))], [(10, (10, 0)), (11, (11, 0)), (14, (14, 0)), (17, (17, 0))], [(10, [(V.bool r10_0), (V.bool r10_1), (V.bool r10_2), (V.bool r10_3), (V.int .i64 r10_4), (V.int .i64 r10_5)]), (11, [(V.str r11_0), (V.int .i64 r11_1), r11_2, r11_3, r11_4]), (14, [(V.str r14_0), (V.int .i64 r14_1), r14_2, r14_3, r14_4]), (17, [(V.str r17_0), (V.int .i64 r17_1), r17_2, r17_3, r17_4])], σ⟩ (Fin4 E) (fun _ _ => none) (Fin4 E) =
  T4_9 E D W (fun m0 m1 m2 m3 m4 m5 m6 m7 m8 m9 r10_0 r10_1 r10_2 r10_3 r10_4 r10_5 r11_0 r11_1 r11_2 r11_3 r11_4 r14_0 r14_1 r14_2 r14_3 r14_4 r17_0 r17_1 r17_2 r17_3 r17_4 σ => denL E D true true 0 cc11 13 [(106, (V.bool m0)), (103, (V.bool m1)), (102, (V.bool m2)), (99, (V.bool m3)), (98, (V.bool m4)), (95, (V.bool m5)), (94, (V.bool m6)), (13, (V.int .i64 m7)), (16, (V.int .i64 m8)), (19, (V.int .i64 m9))] [(10, (10, 0)), (11, (11, 0)), (14, (14, 0)), (17, (17, 0))] [(10, [(V.bool r10_0), (V.bool r10_1), (V.bool r10_2), (V.bool r10_3), (V.int .i64 r10_4), (V.int .i64 r10_5)]), (11, [(V.str r11_0), (V.int .i64 r11_1), r11_2, r11_3, r11_4]), (14, [(V.str r14_0), (V.int .i64 r14_1), r14_2, r14_3, r14_4]), (17, [(V.str r17_0), (V.int .i64 r17_1), r17_2, r17_3, r17_4])] σ (fun e q r σ => (fun s' => denC E D W N (.keep [(8, .bool)] [] [] cc10) s' (Fin4 E) (fun _ _ => none) (Fin4 E)) ⟨e, q, r, σ⟩)) v13 v16 v19 r10_0 r10_1 r10_2 r10_3 r10_4 r10_5 r11_0 r11_1 r11_2 r11_3 r11_4 r14_0 r14_1 r14_2 r14_3 r14_4 r17_0 r17_1 r17_2 r17_3 r17_4 σ := by
  refine Eq.trans (b := denL E D true true 0 (.op (some 94) .bool [] (.call 6 []) <|
 .op (some 95) .any [94] (.mov (.tmp 94)) <|
 .grp 95 true (.op (some 96) .any [13, 95] (.mov (.tmp 13)) <|
 .op (some 97) .any [96, 95] (.bin .eql .none (.tmp 96) (.con (V.int .i64 (Int.ofNat 0)))) <|
 .nil) 98 [95, 97] (.tmp 95) (.tmp 97) (.con (V.bool false)) <|
 .op (some 99) .any [98] (.mov (.tmp 98)) <|
 .grp 99 true (.op (some 100) .any [16, 99] (.mov (.tmp 16)) <|
 .op (some 101) .any [100, 99] (.bin .eql .none (.tmp 100) (.con (V.int .i64 (Int.ofNat 0)))) <|
 .nil) 102 [99, 101] (.tmp 99) (.tmp 101) (.con (V.bool false)) <|
 .op (some 103) .any [102] (.mov (.tmp 102)) <|
 .grp 103 true (.op (some 104) .any [19, 103] (.mov (.tmp 19)) <|
 .op (some 105) .any [104, 103] (.bin .eql .none (.tmp 104) (.con (V.int .i64 (Int.ofNat 0)))) <|
 .nil) 106 [103, 105] (.tmp 103) (.tmp 105) (.con (V.bool false)) <|
 cc11) 0 [(13, (V.int .i64 v13)), (16, (V.int .i64 v16)), (19, (V.int .i64 v19))] [(10, (10, 0)), (11, (11, 0)), (14, (14, 0)), (17, (17, 0))] [(10, [(V.bool r10_0), (V.bool r10_1), (V.bool r10_2), (V.bool r10_3), (V.int .i64 r10_4), (V.int .i64 r10_5)]), (11, [(V.str r11_0), (V.int .i64 r11_1), r11_2, r11_3, r11_4]), (14, [(V.str r14_0), (V.int .i64 r14_1), r14_2, r14_3, r14_4]), (17, [(V.str r17_0), (V.int .i64 r17_1), r17_2, r17_3, r17_4])] σ (fun e q r σ => (fun s' => denC E D W N (.keep [(8, .bool)] [] [] cc10) s' (Fin4 E) (fun _ _ => none) (Fin4 E)) ⟨e, q, r, σ⟩)) ?_ (by kernel_rfl)
  have hd : ∀ (q : Qs) (ds : List Nat) (a : Ans), palsOk q ds = true → drawK q ds a = a := fun q ds a h => by unfold drawK; rw [h]
  exact hd _ _ _ hp
theorem P4_10 (E : List (Nat × Blk)) (D : Den) (W : DrawFn) (N : Nat) (v8 : Bool) (σ : H) :
  denC E D W N (C4_10 ) ⟨[(8, (V.bool v8))], [], [], σ⟩ (Fin4 E) (fun _ _ => none) (Fin4 E) =
  T4_10 E D W  v8 σ := by kernel_rfl
theorem P4_11 (E : List (Nat × Blk)) (D : Den) (W : DrawFn) (N : Nat) (cc10 : XC) (cc12 : XL) (m0 : Bool) (m1 : Bool) (m2 : Bool) (m3 : Bool) (m4 : Bool) (m5 : Bool) (m6 : Bool) (m7 : Int) (m8 : Int) (m9 : Int) (r10_0 : Bool) (r10_1 : Bool) (r10_2 : Bool) (r10_3 : Bool) (r10_4 : Int) (r10_5 : Int) (r11_0 : BS) (r11_1 : Int) (r11_2 : V) (r11_3 : V) (r11_4 : V) (r14_0 : BS) (r14_1 : Int) (r14_2 : V) (r14_3 : V) (r14_4 : V) (r17_0 : BS) (r17_1 : Int) (r17_2 : V) (r17_3 : V) (r17_4 : V) (σ : H) :
  denL E D true true 0 (C4_11 cc12) 13 [(106, (V.bool m0)), (103, (V.bool m1)), (102, (V.bool m2)), (99, (V.bool m3)), (98, (V.bool m4)), (95, (V.bool m5)), (94, (V.bool m6)), (13, (V.int .i64 m7)), (16, (V.int .i64 m8)), (19, (V.int .i64 m9))] [(10, (10, 0)), (11, (11, 0)), (14, (14, 0)), (17, (17, 0))] [(10, [(V.bool r10_0), (V.bool r10_1), (V.bool r10_2), (V.bool r10_3), (V.int .i64 r10_4), (V.int .i64 r10_5)]), (11, [(V.str r11_0), (V.int .i64 r11_1), r11_2, r11_3, r11_4]), (14, [(V.str r14_0), (V.int .i64 r14_1), r14_2, r14_3, r14_4]), (17, [(V.str r17_0), (V.int .i64 r17_1), r17_2, r17_3, r17_4])] σ (fun e q r σ => (fun s' => denC E D W N (.keep [(8, .bool)] [] [] cc10) s' (Fin4 E) (fun _ _ => none) (Fin4 E)) ⟨e, q, r, σ⟩) =
  T4_11 E D W (fun m0 m1 m2 m3 m4 m5 m6 m7 m8 m9 m10 m11 m12 m13 m14 m15 r10_0 r10_1 r10_2 r10_3 r10_4 r10_5 r11_0 r11_1 r11_2 r11_3 r11_4 r14_0 r14_1 r14_2 r14_3 r14_4 r17_0 r17_1 r17_2 r17_3 r17_4 σ => denL E D true true 0 cc12 34 [(127, (V.bool m0)), (122, (V.bool m1)), (121, (V.bool m2)), (113, (V.bool m3)), (112, (V.bool m4)), (107, (V.bool m5)), (106, (V.bool m6)), (103, (V.bool m7)), (102, (V.bool m8)), (99, (V.bool m9)), (98, (V.bool m10)), (95, (V.bool m11)), (94, (V.bool m12)), (13, (V.int .i64 m13)), (16, (V.int .i64 m14)), (19, (V.int .i64 m15))] [(10, (10, 0)), (11, (11, 0)), (14, (14, 0)), (17, (17, 0))] [(10, [(V.bool r10_0), (V.bool r10_1), (V.bool r10_2), (V.bool r10_3), (V.int .i64 r10_4), (V.int .i64 r10_5)]), (11, [(V.str r11_0), (V.int .i64 r11_1), r11_2, r11_3, r11_4]), (14, [(V.str r14_0), (V.int .i64 r14_1), r14_2, r14_3, r14_4]), (17, [(V.str r17_0), (V.int .i64 r17_1), r17_2, r17_3, r17_4])] σ (fun e q r σ => (fun s' => denC E D W N (.keep [(8, .bool)] [] [] cc10) s' (Fin4 E) (fun _ _ => none) (Fin4 E)) ⟨e, q, r, σ⟩)) m0 m1 m2 m3 m4 m5 m6 m7 m8 m9 r10_0 r10_1 r10_2 r10_3 r10_4 r10_5 r11_0 r11_1 r11_2 r11_3 r11_4 r14_0 r14_1 r14_2 r14_3 r14_4 r17_0 r17_1 r17_2 r17_3 r17_4 σ := by kernel_rfl
theorem P4_12 (E : List (Nat × Blk)) (D : Den) (W : DrawFn) (N : Nat) (cc10 : XC) (m0 : Bool) (m1 : Bool) (m2 : Bool) (m3 : Bool) (m4 : Bool) (m5 : Bool) (m6 : Bool) (m7 : Bool) (m8 : Bool) (m9 : Bool) (m10 : Bool) (m11 : Bool) (m12 : Bool) (m13 : Int) (m14 : Int) (m15 : Int) (r10_0 : Bool) (r10_1 : Bool) (r10_2 : Bool) (r10_3 : Bool) (r10_4 : Int) (r10_5 : Int) (r11_0 : BS) (r11_1 : Int) (r11_2 : V) (r11_3 : V) (r11_4 : V) (r14_0 : BS) (r14_1 : Int) (r14_2 : V) (r14_3 : V) (r14_4 : V) (r17_0 : BS) (r17_1 : Int) (r17_2 : V) (r17_3 : V) (r17_4 : V) (σ : H) :
  denL E D true true 0 (C4_12 ) 34 [(127, (V.bool m0)), (122, (V.bool m1)), (121, (V.bool m2)), (113, (V.bool m3)), (112, (V.bool m4)), (107, (V.bool m5)), (106, (V.bool m6)), (103, (V.bool m7)), (102, (V.bool m8)), (99, (V.bool m9)), (98, (V.bool m10)), (95, (V.bool m11)), (94, (V.bool m12)), (13, (V.int .i64 m13)), (16, (V.int .i64 m14)), (19, (V.int .i64 m15))] [(10, (10, 0)), (11, (11, 0)), (14, (14, 0)), (17, (17, 0))] [(10, [(V.bool r10_0), (V.bool r10_1), (V.bool r10_2), (V.bool r10_3), (V.int .i64 r10_4), (V.int .i64 r10_5)]), (11, [(V.str r11_0), (V.int .i64 r11_1), r11_2, r11_3, r11_4]), (14, [(V.str r14_0), (V.int .i64 r14_1), r14_2, r14_3, r14_4]), (17, [(V.str r17_0), (V.int .i64 r17_1), r17_2, r17_3, r17_4])] σ (fun e q r σ => (fun s' => denC E D W N (.keep [(8, .bool)] [] [] cc10) s' (Fin4 E) (fun _ _ => none) (Fin4 E)) ⟨e, q, r, σ⟩) =
  T4_12 E D W (fun v8 σ => denC E D W N cc10 ⟨[(8, (V.bool v8))], [], [], σ⟩ (Fin4 E) (fun _ _ => none) (Fin4 E)) m0 m1 m2 m3 m4 m5 m6 m7 m8 m9 m10 m11 m12 m13 m14 m15 r10_0 r10_1 r10_2 r10_3 r10_4 r10_5 r11_0 r11_1 r11_2 r11_3 r11_4 r14_0 r14_1 r14_2 r14_3 r14_4 r17_0 r17_1 r17_2 r17_3 r17_4 σ := by kernel_rfl
def J4_10 (E : List (Nat × Blk)) (D : Den) (W : DrawFn) (N : Nat) : Bool → H → Ans := T4_10 E D W 
theorem JE4_10 (E : List (Nat × Blk)) (D : Den) (W : DrawFn) (N : Nat) (v8 : Bool) (σ : H) :
  denC E D W N C4_10 ⟨[(8, (V.bool v8))], [], [], σ⟩ (Fin4 E) (fun _ _ => none) (Fin4 E) = J4_10 E D W N v8 σ := by
  refine (P4_10 E D W N   v8 σ).trans ?_
  kernel_rfl
def J4_12 (E : List (Nat × Blk)) (D : Den) (W : DrawFn) (N : Nat) : Bool → Bool → Bool → Bool → Bool → Bool → Bool → Bool → Bool → Bool → Bool → Bool → Bool → Int → Int → Int → Bool → Bool → Bool → Bool → Int → Int → BS → Int → V → V → V → BS → Int → V → V → V → BS → Int → V → V → V → H → Ans := T4_12 E D W (J4_10 E D W N )
theorem JE4_12 (E : List (Nat × Blk)) (D : Den) (W : DrawFn) (N : Nat) (m0 : Bool) (m1 : Bool) (m2 : Bool) (m3 : Bool) (m4 : Bool) (m5 : Bool) (m6 : Bool) (m7 : Bool) (m8 : Bool) (m9 : Bool) (m10 : Bool) (m11 : Bool) (m12 : Bool) (m13 : Int) (m14 : Int) (m15 : Int) (r10_0 : Bool) (r10_1 : Bool) (r10_2 : Bool) (r10_3 : Bool) (r10_4 : Int) (r10_5 : Int) (r11_0 : BS) (r11_1 : Int) (r11_2 : V) (r11_3 : V) (r11_4 : V) (r14_0 : BS) (r14_1 : Int) (r14_2 : V) (r14_3 : V) (r14_4 : V) (r17_0 : BS) (r17_1 : Int) (r17_2 : V) (r17_3 : V) (r17_4 : V) (σ : H) :
  denL E D true true 0 C4_12 34 [(127, (V.bool m0)), (122, (V.bool m1)), (121, (V.bool m2)), (113, (V.bool m3)), (112, (V.bool m4)), (107, (V.bool m5)), (106, (V.bool m6)), (103, (V.bool m7)), (102, (V.bool m8)), (99, (V.bool m9)), (98, (V.bool m10)), (95, (V.bool m11)), (94, (V.bool m12)), (13, (V.int .i64 m13)), (16, (V.int .i64 m14)), (19, (V.int .i64 m15))] [(10, (10, 0)), (11, (11, 0)), (14, (14, 0)), (17, (17, 0))] [(10, [(V.bool r10_0), (V.bool r10_1), (V.bool r10_2), (V.bool r10_3), (V.int .i64 r10_4), (V.int .i64 r10_5)]), (11, [(V.str r11_0), (V.int .i64 r11_1), r11_2, r11_3, r11_4]), (14, [(V.str r14_0), (V.int .i64 r14_1), r14_2, r14_3, r14_4]), (17, [(V.str r17_0), (V.int .i64 r17_1), r17_2, r17_3, r17_4])] σ (fun e q r σ => (fun s' => denC E D W N (.keep [(8, .bool)] [] [] C4_10) s' (Fin4 E) (fun _ _ => none) (Fin4 E)) ⟨e, q, r, σ⟩) = J4_12 E D W N m0 m1 m2 m3 m4 m5 m6 m7 m8 m9 m10 m11 m12 m13 m14 m15 r10_0 r10_1 r10_2 r10_3 r10_4 r10_5 r11_0 r11_1 r11_2 r11_3 r11_4 r14_0 r14_1 r14_2 r14_3 r14_4 r17_0 r17_1 r17_2 r17_3 r17_4 σ := by
  refine (P4_12 E D W N C4_10  m0 m1 m2 m3 m4 m5 m6 m7 m8 m9 m10 m11 m12 m13 m14 m15 r10_0 r10_1 r10_2 r10_3 r10_4 r10_5 r11_0 r11_1 r11_2 r11_3 r11_4 r14_0 r14_1 r14_2 r14_3 r14_4 r17_0 r17_1 r17_2 r17_3 r17_4 σ).trans ?_
  simp only [JE4_10]
  kernel_rfl
def J4_11 (E : List (Nat × Blk)) (D : Den) (W : DrawFn) (N : Nat) : Bool → Bool → Bool → Bool → Bool → Bool → Bool → Int → Int → Int → Bool → Bool → Bool → Bool → Int → Int → BS → Int → V → V → V → BS → Int → V → V → V → BS → Int → V → V → V → H → Ans := T4_11 E D W (J4_12 E D W N )
theorem JE4_11 (E : List (Nat × Blk)) (D : Den) (W : DrawFn) (N : Nat) (m0 : Bool) (m1 : Bool) (m2 : Bool) (m3 : Bool) (m4 : Bool) (m5 : Bool) (m6 : Bool) (m7 : Int) (m8 : Int) (m9 : Int) (r10_0 : Bool) (r10_1 : Bool) (r10_2 : Bool) (r10_3 : Bool) (r10_4 : Int) (r10_5 : Int) (r11_0 : BS) (r11_1 : Int) (r11_2 : V) (r11_3 : V) (r11_4 : V) (r14_0 : BS) (r14_1 : Int) (r14_2 : V) (r14_3 : V) (r14_4 : V) (r17_0 : BS) (r17_1 : Int) (r17_2 : V) (r17_3 : V) (r17_4 : V) (σ : H) :
  denL E D true true 0 (C4_11 C4_12) 13 [(106, (V.bool m0)), (103, (V.bool m1)), (102, (V.bool m2)), (99, (V.bool m3)), (98, (V.bool m4)), (95, (V.bool m5)), (94, (V.bool m6)), (13, (V.int .i64 m7)), (16, (V.int .i64 m8)), (19, (V.int .i64 m9))] [(10, (10, 0)), (11, (11, 0)), (14, (14, 0)), (17, (17, 0))] [(10, [(V.bool r10_0), (V.bool r10_1), (V.bool r10_2), (V.bool r10_3), (V.int .i64 r10_4), (V.int .i64 r10_5)]), (11, [(V.str r11_0), (V.int .i64 r11_1), r11_2, r11_3, r11_4]), (14, [(V.str r14_0), (V.int .i64 r14_1), r14_2, r14_3, r14_4]), (17, [(V.str r17_0), (V.int .i64 r17_1), r17_2, r17_3, r17_4])] σ (fun e q r σ => (fun s' => denC E D W N (.keep [(8, .bool)] [] [] C4_10) s' (Fin4 E) (fun _ _ => none) (Fin4 E)) ⟨e, q, r, σ⟩) = J4_11 E D W N m0 m1 m2 m3 m4 m5 m6 m7 m8 m9 r10_0 r10_1 r10_2 r10_3 r10_4 r10_5 r11_0 r11_1 r11_2 r11_3 r11_4 r14_0 r14_1 r14_2 r14_3 r14_4 r17_0 r17_1 r17_2 r17_3 r17_4 σ := by
  refine (P4_11 E D W N C4_10 C4_12  m0 m1 m2 m3 m4 m5 m6 m7 m8 m9 r10_0 r10_1 r10_2 r10_3 r10_4 r10_5 r11_0 r11_1 r11_2 r11_3 r11_4 r14_0 r14_1 r14_2 r14_3 r14_4 r17_0 r17_1 r17_2 r17_3 r17_4 σ).trans ?_
  simp only [JE4_12]
  kernel_rfl
def J4_9 (E : List (Nat × Blk)) (D : Den) (W : DrawFn) (N : Nat) : Int → Int → Int → Bool → Bool → Bool → Bool → Int → Int → BS → Int → V → V → V → BS → Int → V → V → V → BS → Int → V → V → V → H → Ans := T4_9 E D W (J4_11 E D W N )
theorem JE4_9 (E : List (Nat × Blk)) (D : Den) (W : DrawFn) (N : Nat) (v13 : Int) (v16 : Int) (v19 : Int) (r10_0 : Bool) (r10_1 : Bool) (r10_2 : Bool) (r10_3 : Bool) (r10_4 : Int) (r10_5 : Int) (r11_0 : BS) (r11_1 : Int) (r11_2 : V) (r11_3 : V) (r11_4 : V) (r14_0 : BS) (r14_1 : Int) (r14_2 : V) (r14_3 : V) (r14_4 : V) (r17_0 : BS) (r17_1 : Int) (r17_2 : V) (r17_3 : V) (r17_4 : V) (σ : H) :
  denC E D W N (C4_9 C4_10 (C4_11 C4_12)) ⟨[(13, (V.int .i64 v13)), (16, (V.int .i64 v16)), (19, (V.int .i64 v19))], [(10, (10, 0)), (11, (11, 0)), (14, (14, 0)), (17, (17, 0))], [(10, [(V.bool r10_0), (V.bool r10_1), (V.bool r10_2), (V.bool r10_3), (V.int .i64 r10_4), (V.int .i64 r10_5)]), (11, [(V.str r11_0), (V.int .i64 r11_1), r11_2, r11_3, r11_4]), (14, [(V.str r14_0), (V.int .i64 r14_1), r14_2, r14_3, r14_4]), (17, [(V.str r17_0), (V.int .i64 r17_1), r17_2, r17_3, r17_4])], σ⟩ (Fin4 E) (fun _ _ => none) (Fin4 E) = J4_9 E D W N v13 v16 v19 r10_0 r10_1 r10_2 r10_3 r10_4 r10_5 r11_0 r11_1 r11_2 r11_3 r11_4 r14_0 r14_1 r14_2 r14_3 r14_4 r17_0 r17_1 r17_2 r17_3 r17_4 σ := by
  refine (P4_9 E D W N C4_10 (C4_11 C4_12)  v13 v16 v19 r10_0 r10_1 r10_2 r10_3 r10_4 r10_5 r11_0 r11_1 r11_2 r11_3 r11_4 r14_0 r14_1 r14_2 r14_3 r14_4 r17_0 r17_1 r17_2 r17_3 r17_4 σ (by kernel_rfl)).trans ?_
  simp only [JE4_11]
  kernel_rfl
def J4_8 (E : List (Nat × Blk)) (D : Den) (W : DrawFn) (N : Nat) : BS → Int → Int → Bool → Bool → Bool → Bool → Int → Int → BS → Int → V → V → V → BS → Int → V → V → V → H → Ans := T4_8 E D W (J4_9 E D W N )
theorem JE4_8 (E : List (Nat × Blk)) (D : Den) (W : DrawFn) (N : Nat) (v9 : BS) (v13 : Int) (v16 : Int) (r10_0 : Bool) (r10_1 : Bool) (r10_2 : Bool) (r10_3 : Bool) (r10_4 : Int) (r10_5 : Int) (r11_0 : BS) (r11_1 : Int) (r11_2 : V) (r11_3 : V) (r11_4 : V) (r14_0 : BS) (r14_1 : Int) (r14_2 : V) (r14_3 : V) (r14_4 : V) (σ : H) :
  denC E D W N (C4_8 (C4_9 C4_10 (C4_11 C4_12))) ⟨[(9, (V.str v9)), (13, (V.int .i64 v13)), (16, (V.int .i64 v16))], [(10, (10, 0)), (11, (11, 0)), (14, (14, 0))], [(10, [(V.bool r10_0), (V.bool r10_1), (V.bool r10_2), (V.bool r10_3), (V.int .i64 r10_4), (V.int .i64 r10_5)]), (11, [(V.str r11_0), (V.int .i64 r11_1), r11_2, r11_3, r11_4]), (14, [(V.str r14_0), (V.int .i64 r14_1), r14_2, r14_3, r14_4])], σ⟩ (Fin4 E) (fun _ _ => none) (Fin4 E) = J4_8 E D W N v9 v13 v16 r10_0 r10_1 r10_2 r10_3 r10_4 r10_5 r11_0 r11_1 r11_2 r11_3 r11_4 r14_0 r14_1 r14_2 r14_3 r14_4 σ := by
  refine (P4_8 E D W N (C4_9 C4_10 (C4_11 C4_12))  v9 v13 v16 r10_0 r10_1 r10_2 r10_3 r10_4 r10_5 r11_0 r11_1 r11_2 r11_3 r11_4 r14_0 r14_1 r14_2 r14_3 r14_4 σ).trans ?_
  simp only [JE4_9]
  kernel_rfl
def J4_7 (E : List (Nat × Blk)) (D : Den) (W : DrawFn) (N : Nat) : BS → Int → Bool → Bool → Bool → Bool → Int → Int → BS → Int → V → V → V → H → Ans := T4_7 E D W (J4_8 E D W N )
theorem JE4_7 (E : List (Nat × Blk)) (D : Den) (W : DrawFn) (N : Nat) (v9 : BS) (v13 : Int) (r10_0 : Bool) (r10_1 : Bool) (r10_2 : Bool) (r10_3 : Bool) (r10_4 : Int) (r10_5 : Int) (r11_0 : BS) (r11_1 : Int) (r11_2 : V) (r11_3 : V) (r11_4 : V) (σ : H) :
  denC E D W N (C4_7 (C4_8 (C4_9 C4_10 (C4_11 C4_12)))) ⟨[(9, (V.str v9)), (13, (V.int .i64 v13))], [(10, (10, 0)), (11, (11, 0))], [(10, [(V.bool r10_0), (V.bool r10_1), (V.bool r10_2), (V.bool r10_3), (V.int .i64 r10_4), (V.int .i64 r10_5)]), (11, [(V.str r11_0), (V.int .i64 r11_1), r11_2, r11_3, r11_4])], σ⟩ (Fin4 E) (fun _ _ => none) (Fin4 E) = J4_7 E D W N v9 v13 r10_0 r10_1 r10_2 r10_3 r10_4 r10_5 r11_0 r11_1 r11_2 r11_3 r11_4 σ := by
  refine (P4_7 E D W N (C4_8 (C4_9 C4_10 (C4_11 C4_12)))  v9 v13 r10_0 r10_1 r10_2 r10_3 r10_4 r10_5 r11_0 r11_1 r11_2 r11_3 r11_4 σ).trans ?_
  simp only [JE4_8]
  kernel_rfl
def J4_6 (E : List (Nat × Blk)) (D : Den) (W : DrawFn) (N : Nat) : BS → Bool → Bool → Bool → Bool → Int → Int → H → Ans := T4_6 E D W (J4_7 E D W N )
theorem JE4_6 (E : List (Nat × Blk)) (D : Den) (W : DrawFn) (N : Nat) (v9 : BS) (r10_0 : Bool) (r10_1 : Bool) (r10_2 : Bool) (r10_3 : Bool) (r10_4 : Int) (r10_5 : Int) (σ : H) :
  denC E D W N (C4_6 (C4_7 (C4_8 (C4_9 C4_10 (C4_11 C4_12))))) ⟨[(9, (V.str v9))], [(10, (10, 0))], [(10, [(V.bool r10_0), (V.bool r10_1), (V.bool r10_2), (V.bool r10_3), (V.int .i64 r10_4), (V.int .i64 r10_5)])], σ⟩ (Fin4 E) (fun _ _ => none) (Fin4 E) = J4_6 E D W N v9 r10_0 r10_1 r10_2 r10_3 r10_4 r10_5 σ := by
  refine (P4_6 E D W N (C4_7 (C4_8 (C4_9 C4_10 (C4_11 C4_12))))  v9 r10_0 r10_1 r10_2 r10_3 r10_4 r10_5 σ).trans ?_
  simp only [JE4_7]
  kernel_rfl
def J4_5 (E : List (Nat × Blk)) (D : Den) (W : DrawFn) (N : Nat) : Bool → BS → Bool → Bool → Bool → Bool → Int → Int → H → Ans := T4_5 E D W (J4_6 E D W N )
theorem JE4_5 (E : List (Nat × Blk)) (D : Den) (W : DrawFn) (N : Nat) (v3 : Bool) (v9 : BS) (r10_0 : Bool) (r10_1 : Bool) (r10_2 : Bool) (r10_3 : Bool) (r10_4 : Int) (r10_5 : Int) (σ : H) :
  denC E D W N (C4_5 (C4_6 (C4_7 (C4_8 (C4_9 C4_10 (C4_11 C4_12)))))) ⟨[(3, (V.bool v3)), (9, (V.str v9))], [(10, (10, 0))], [(10, [(V.bool r10_0), (V.bool r10_1), (V.bool r10_2), (V.bool r10_3), (V.int .i64 r10_4), (V.int .i64 r10_5)])], σ⟩ (Fin4 E) (fun _ _ => none) (Fin4 E) = J4_5 E D W N v3 v9 r10_0 r10_1 r10_2 r10_3 r10_4 r10_5 σ := by
  refine (P4_5 E D W N (C4_6 (C4_7 (C4_8 (C4_9 C4_10 (C4_11 C4_12)))))  v3 v9 r10_0 r10_1 r10_2 r10_3 r10_4 r10_5 σ).trans ?_
  simp only [JE4_6]
  kernel_rfl
def J4_4 (E : List (Nat × Blk)) (D : Den) (W : DrawFn) (N : Nat) : Int → Int → Bool → BS → Bool → Bool → Bool → Bool → Int → Int → H → Ans := T4_4 E D W (J4_5 E D W N )
theorem JE4_4 (E : List (Nat × Blk)) (D : Den) (W : DrawFn) (N : Nat) (v0 : Int) (v2 : Int) (v3 : Bool) (v9 : BS) (r10_0 : Bool) (r10_1 : Bool) (r10_2 : Bool) (r10_3 : Bool) (r10_4 : Int) (r10_5 : Int) (σ : H) :
  denC E D W N (C4_4 (C4_5 (C4_6 (C4_7 (C4_8 (C4_9 C4_10 (C4_11 C4_12))))))) ⟨[(0, (V.int .i64 v0)), (2, (V.int .i64 v2)), (3, (V.bool v3)), (9, (V.str v9))], [(10, (10, 0))], [(10, [(V.bool r10_0), (V.bool r10_1), (V.bool r10_2), (V.bool r10_3), (V.int .i64 r10_4), (V.int .i64 r10_5)])], σ⟩ (Fin4 E) (fun _ _ => none) (Fin4 E) = J4_4 E D W N v0 v2 v3 v9 r10_0 r10_1 r10_2 r10_3 r10_4 r10_5 σ := by
  refine (P4_4 E D W N (C4_5 (C4_6 (C4_7 (C4_8 (C4_9 C4_10 (C4_11 C4_12))))))  v0 v2 v3 v9 r10_0 r10_1 r10_2 r10_3 r10_4 r10_5 σ).trans ?_
  simp only [JE4_5]
  kernel_rfl
def J4_3 (E : List (Nat × Blk)) (D : Den) (W : DrawFn) (N : Nat) : Int → Int → Int → Bool → BS → Bool → Bool → Bool → Bool → Int → Int → H → Ans := T4_3 E D W (J4_4 E D W N )
theorem JE4_3 (E : List (Nat × Blk)) (D : Den) (W : DrawFn) (N : Nat) (v0 : Int) (v1 : Int) (v2 : Int) (v3 : Bool) (v9 : BS) (r10_0 : Bool) (r10_1 : Bool) (r10_2 : Bool) (r10_3 : Bool) (r10_4 : Int) (r10_5 : Int) (σ : H) :
  denC E D W N (C4_3 (C4_4 (C4_5 (C4_6 (C4_7 (C4_8 (C4_9 C4_10 (C4_11 C4_12)))))))) ⟨[(0, (V.int .i64 v0)), (1, (V.int .i64 v1)), (2, (V.int .i64 v2)), (3, (V.bool v3)), (9, (V.str v9))], [(10, (10, 0))], [(10, [(V.bool r10_0), (V.bool r10_1), (V.bool r10_2), (V.bool r10_3), (V.int .i64 r10_4), (V.int .i64 r10_5)])], σ⟩ (Fin4 E) (fun _ _ => none) (Fin4 E) = J4_3 E D W N v0 v1 v2 v3 v9 r10_0 r10_1 r10_2 r10_3 r10_4 r10_5 σ := by
  refine (P4_3 E D W N (C4_4 (C4_5 (C4_6 (C4_7 (C4_8 (C4_9 C4_10 (C4_11 C4_12)))))))  v0 v1 v2 v3 v9 r10_0 r10_1 r10_2 r10_3 r10_4 r10_5 σ).trans ?_
  simp only [JE4_4]
  kernel_rfl
def J4_2 (E : List (Nat × Blk)) (D : Den) (W : DrawFn) (N : Nat) : Int → Int → Int → Bool → BS → Bool → Bool → Bool → Bool → Int → Int → H → Ans := T4_2 E D W (J4_3 E D W N )
theorem JE4_2 (E : List (Nat × Blk)) (D : Den) (W : DrawFn) (N : Nat) (v0 : Int) (v1 : Int) (v2 : Int) (v3 : Bool) (v9 : BS) (r10_0 : Bool) (r10_1 : Bool) (r10_2 : Bool) (r10_3 : Bool) (r10_4 : Int) (r10_5 : Int) (σ : H) :
  denC E D W N (C4_2 (C4_3 (C4_4 (C4_5 (C4_6 (C4_7 (C4_8 (C4_9 C4_10 (C4_11 C4_12))))))))) ⟨[(0, (V.int .i64 v0)), (1, (V.int .i64 v1)), (2, (V.int .i64 v2)), (3, (V.bool v3)), (9, (V.str v9))], [(10, (10, 0))], [(10, [(V.bool r10_0), (V.bool r10_1), (V.bool r10_2), (V.bool r10_3), (V.int .i64 r10_4), (V.int .i64 r10_5)])], σ⟩ (Fin4 E) (fun _ _ => none) (Fin4 E) = J4_2 E D W N v0 v1 v2 v3 v9 r10_0 r10_1 r10_2 r10_3 r10_4 r10_5 σ := by
  refine (P4_2 E D W N (C4_3 (C4_4 (C4_5 (C4_6 (C4_7 (C4_8 (C4_9 C4_10 (C4_11 C4_12))))))))  v0 v1 v2 v3 v9 r10_0 r10_1 r10_2 r10_3 r10_4 r10_5 σ).trans ?_
  simp only [JE4_3]
  kernel_rfl
def J4_1 (E : List (Nat × Blk)) (D : Den) (W : DrawFn) (N : Nat) : Int → Int → Int → Bool → BS → H → Ans := T4_1 E D W (J4_2 E D W N )
theorem JE4_1 (E : List (Nat × Blk)) (D : Den) (W : DrawFn) (N : Nat) (v0 : Int) (v1 : Int) (v2 : Int) (v3 : Bool) (v9 : BS) (σ : H) :
  denC E D W N (C4_1 (C4_2 (C4_3 (C4_4 (C4_5 (C4_6 (C4_7 (C4_8 (C4_9 C4_10 (C4_11 C4_12)))))))))) ⟨[(0, (V.int .i64 v0)), (1, (V.int .i64 v1)), (2, (V.int .i64 v2)), (3, (V.bool v3)), (9, (V.str v9))], [], [], σ⟩ (Fin4 E) (fun _ _ => none) (Fin4 E) = J4_1 E D W N v0 v1 v2 v3 v9 σ := by
  refine (P4_1 E D W N (C4_2 (C4_3 (C4_4 (C4_5 (C4_6 (C4_7 (C4_8 (C4_9 C4_10 (C4_11 C4_12)))))))))  v0 v1 v2 v3 v9 σ).trans ?_
  simp only [JE4_2]
  kernel_rfl
def J4_0 (E : List (Nat × Blk)) (D : Den) (W : DrawFn) (N : Nat) : Int → Int → Int → Bool → H → Ans := T4_0 E D W (J4_1 E D W N )
theorem JE4_0 (E : List (Nat × Blk)) (D : Den) (W : DrawFn) (N : Nat) (v0 : Int) (v1 : Int) (v2 : Int) (v3 : Bool) (σ : H) :
  denC E D W N (C4_0 (C4_1 (C4_2 (C4_3 (C4_4 (C4_5 (C4_6 (C4_7 (C4_8 (C4_9 C4_10 (C4_11 C4_12))))))))))) ⟨[(0, (V.int .i64 v0)), (1, (V.int .i64 v1)), (2, (V.int .i64 v2)), (3, (V.bool v3))], [], [], σ⟩ (Fin4 E) (fun _ _ => none) (Fin4 E) = J4_0 E D W N v0 v1 v2 v3 σ := by
  refine (P4_0 E D W N (C4_1 (C4_2 (C4_3 (C4_4 (C4_5 (C4_6 (C4_7 (C4_8 (C4_9 C4_10 (C4_11 C4_12))))))))))  v0 v1 v2 v3 σ).trans ?_
  simp only [JE4_1]
  kernel_rfl
def F4 (E : List (Nat × Blk)) (D : Den) (W : DrawFn) (N : Nat) (args : List V) (σ : H) : Ans :=
 rtCons args fun x1 l2 =>
 rtInt .i64 x1 fun x3 =>
 rtCons l2 fun x4 l5 =>
 rtInt .i64 x4 fun x6 =>
 rtCons l5 fun x7 l8 =>
 rtInt .i64 x7 fun x9 =>
 rtCons l8 fun x10 l11 =>
 rtBool x10 fun x12 =>
 rtNil l11 (
 J4_0 E D W N x3 x6 x9 x12 σ)
def A4 : XFn := ⟨152, [(.int .i64), (.int .i64), (.int .i64), .bool], [(.tmp 8)], (C4_0 (C4_1 (C4_2 (C4_3 (C4_4 (C4_5 (C4_6 (C4_7 (C4_8 (C4_9 C4_10 (C4_11 C4_12)))))))))))⟩
theorem FE4 (E : List (Nat × Blk)) (D : Den) (W : DrawFn) (N : Nat) (args : List V) (σ : H) : runX E D W N A4 args σ = F4 E D W N args σ := by
  unfold F4
  simp only [← JE4_0]
  kernel_rfl
theorem AO4 : A4.body.ok = true := by kernel_rfl

/-! ### F5: ogham_oghamlaw05.SyntaxMarks -/
def G5_0 : List AOper := [⟨(some 15), .mov (.tmp 0), none⟩, ⟨(some 16), .call 9 [(.tmp 15)], none⟩, ⟨(some 17), .bin .add .none (.con (V.str ⟨1, 91⟩)) (.tmp 16), none⟩, ⟨(some 18), .bin .add .none (.tmp 17) (.con (V.str ⟨2, 8285⟩)), none⟩, ⟨(some 19), .mov (.tmp 5), none⟩, ⟨(some 20), .mov (.tmp 1), none⟩, ⟨(some 21), .iaddrS 1 (.tmp 19) (.tmp 20), none⟩, ⟨(some 22), .load none (.tmp 21), none⟩, ⟨(some 23), .bin .add .none (.tmp 18) (.tmp 22), none⟩, ⟨(some 24), .bin .add .none (.tmp 23) (.con (V.str ⟨4, 1280070990⟩)), none⟩, ⟨(some 25), .call 10 [(.tmp 24)], none⟩, ⟨(some 26), .call 7 [(.tmp 25)], none⟩, ⟨(some 14), .mov (.tmp 26), none⟩, ⟨(some 27), .extract 0 (.tmp 14), none⟩, ⟨(some 28), .extract 1 (.tmp 14), none⟩, ⟨(some 29), .extract 2 (.tmp 14), none⟩, ⟨(some 6), .alloc 27 [(V.str ⟨0, 0⟩), (V.int .i64 (Int.ofNat 0)), V.nils, V.nils, V.nils], none⟩, ⟨none, .store 5 (.tmp 6) (.tmp 27), none⟩, ⟨(some 7), .mov (.tmp 28), none⟩, ⟨(some 8), .mov (.tmp 29), none⟩]
def H5_0 : List DP := [⟨0, [0]⟩, ⟨1, [15]⟩, ⟨3, [16]⟩, ⟨7, [17]⟩, ⟨0, [5]⟩, ⟨0, [1]⟩, ⟨48, [19, 20]⟩, ⟨112, [21]⟩, ⟨255, [18, 22]⟩, ⟨511, [23]⟩, ⟨1023, [24]⟩, ⟨2047, [25]⟩, ⟨4095, [26]⟩, ⟨8191, [14]⟩, ⟨8191, [14]⟩, ⟨8191, [14]⟩, ⟨0, []⟩, ⟨81919, [6, 27]⟩, ⟨229375, [28]⟩, ⟨524287, [29]⟩]
def Fin5 (E : List (Nat × Blk)) : St → Ans := fun s => resK E s [(.tmp 4)] fun l => some (oneV l, s.σ)
def C5_0 : XC := (.seq (.ops (.op (some 4) .any [] (.mov (.con (V.bool false))) <|
 .nil))
 (.seq (.ops (.op (some 9) .any [1] (.mov (.tmp 1)) <|
 .op (some 10) .any [9] (.conv (.toInt .u64) (.tmp 9)) <|
 .op (some 11) .any [10] (.bin .rem .none (.tmp 10) (.con (V.int .u64 (Int.ofNat 3)))) <|
 .op (some 12) .any [11] (.conv (.toInt .i64) (.tmp 11)) <|
 .op (some 1) .any [12] (.mov (.tmp 12)) <|
 .nil))
 (.seq (.ops (.op (some 13) .any [] (.buildSlice 9 3 [(V.str ⟨0, 0⟩), (V.str ⟨0, 0⟩), (V.str ⟨0, 0⟩)] [(0, 1, (.con (V.str ⟨0, 0⟩))), (1, 1, (.con (V.str ⟨9, 596369269913283483717⟩))), (2, 1, (.con (V.str ⟨9, 596369269913283480905⟩)))]) <|
 .op (some 5) .any [13] (.mov (.tmp 13)) <|
 .nil))
 (.seq (.keep [(0, (.int .i64)), (1, (.int .i64)), (5, .any)] [] [] (.gdraw G5_0 H5_0 [(0, (.int .i64)), (1, (.int .i64)), (6, .ptr), (7, (.int .i64)), (8, (.int .i64))]))
 (.seq (.seq (.ops (.op (some 30) .any [0] (.mov (.tmp 0)) <|
 .op (some 31) .any [30] (.bin .lss .none (.tmp 30) (.con (V.int .i64 (Int.ofNat 0)))) <|
 .op (some 32) .any [31] (.mov (.tmp 31)) <|
 .grp 32 false (.op (some 33) .any [0, 32] (.mov (.tmp 0)) <|
 .op (some 34) .any [33, 32] (.bin .gtr .none (.tmp 33) (.con (V.int .i64 (Int.ofNat 268435456)))) <|
 .nil) 35 [32, 34] (.tmp 32) (.con (V.bool true)) (.tmp 34) <|
 .nil))
 (.cond (.tmp 35) (.seq (.ops (.op (some 36) .bool [] (.call 6 []) <|
 .op (some 37) .any [36] (.mov (.tmp 36)) <|
 .grp 37 true (.op (some 38) .any [8, 37] (.mov (.tmp 8)) <|
 .op (some 39) .any [38, 37] (.bin .eql .none (.tmp 38) (.con (V.int .i64 (Int.ofNat 12)))) <|
 .nil) 40 [37, 39] (.tmp 37) (.tmp 39) (.con (V.bool false)) <|
 .op (some 41) .any [40] (.mov (.tmp 40)) <|
 .grp 41 true (.op (some 42) .any [7, 41] (.mov (.tmp 7)) <|
 .op (some 43) .str [41] (.call 10 [(.con (V.str ⟨0, 0⟩))]) <|
 .op (some 44) .any [43, 41] (.len true (.tmp 43)) <|
 .op (some 45) .any [44, 41] (.bin .sub .none (.tmp 44) (.con (V.int .i64 (Int.ofNat 3)))) <|
 .op (some 46) .any [42, 45, 41] (.bin .eql .none (.tmp 42) (.tmp 45)) <|
 .nil) 47 [41, 46] (.tmp 41) (.tmp 46) (.con (V.bool false)) <|
 .op (some 48) .any [47] (.mov (.tmp 47)) <|
 .grp 48 true (.op (some 49) .any [6, 48] (.faddr 4 (.tmp 6)) <|
 .op (some 50) .any [49, 48] (.load none (.tmp 49)) <|
 .op (some 51) .any [50, 48] (.len false (.tmp 50)) <|
 .op (some 52) .any [51, 48] (.bin .eql .none (.tmp 51) (.con (V.int .i64 (Int.ofNat 0)))) <|
 .nil) 53 [48, 52] (.tmp 48) (.tmp 52) (.con (V.bool false)) <|
 .op (some 4) .any [53] (.mov (.tmp 53)) <|
 .nil))
 .ret)
 .skip))
 (.seq (.ops (.op (some 54) .bool [] (.call 6 []) <|
 .op (some 55) .any [54] (.mov (.tmp 54)) <|
 .grp 55 true (.op (some 56) .any [8, 55] (.mov (.tmp 8)) <|
 .op (some 57) .any [56, 55] (.bin .eql .none (.tmp 56) (.con (V.int .i64 (Int.ofNat 0)))) <|
 .nil) 58 [55, 57] (.tmp 55) (.tmp 57) (.con (V.bool false)) <|
 .op (some 59) .any [58] (.mov (.tmp 58)) <|
 .grp 59 true (.op (some 60) .any [6, 59] (.faddr 4 (.tmp 6)) <|
 .op (some 61) .any [60, 59] (.load none (.tmp 60)) <|
 .op (some 62) .any [61, 59] (.len false (.tmp 61)) <|
 .op (some 63) .any [62, 59] (.bin .eql .none (.tmp 62) (.con (V.int .i64 (Int.ofNat 1)))) <|
 .nil) 64 [59, 63] (.tmp 59) (.tmp 63) (.con (V.bool false)) <|
 .op (some 65) .any [64] (.mov (.tmp 64)) <|
 .grp 65 true (.op (some 66) .any [6, 65] (.faddr 4 (.tmp 6)) <|
 .op (some 67) .any [66, 65] (.load none (.tmp 66)) <|
 .op (some 68) .any [67, 65] (.iaddrS 16 (.tmp 67) (.con (V.int .i64 (Int.ofNat 0)))) <|
 .op (some 69) .any [68, 65] (.faddr 2 (.tmp 68)) <|
 .op (some 70) (.agg [.bool, (.int .i64), (.int .i64)]) [69, 65] (.load (some 3) (.tmp 69)) <|
 .op (some 71) .any [0, 65] (.mov (.tmp 0)) <|
 .op (some 72) .any [1, 65] (.mov (.tmp 1)) <|
 .op (some 73) (.agg [.bool, (.int .i64), (.int .i64)]) [71, 72, 65] (.build [(V.bool false), (V.int .i64 (Int.ofNat 0)), (V.int .i64 (Int.ofNat 0))] [(0, 1, (.con (V.bool true))), (1, 1, (.tmp 71)), (2, 1, (.tmp 72))]) <|
 .op (some 74) .any [70, 73, 65] (.bin .eql (.flat [(0, .bool), (1, .int), (2, .int)]) (.tmp 70) (.tmp 73)) <|
 .nil) 75 [65, 74] (.tmp 65) (.tmp 74) (.con (V.bool false)) <|
 .op (some 4) .any [75] (.mov (.tmp 75)) <|
 .nil))
 .ret))))))
def T5_0 (E : List (Nat × Blk)) (D : Den) (W : DrawFn) (v0 : Int) (v1 : Int) (σ : H) : Ans :=
 let s1 := newB σ (.cells [(V.str (BS.mk 0 0)), (V.str (BS.mk 9 596369269913283483717)), (V.str (BS.mk 9 596369269913283480905))]);
 gdrawK (W G5_0 H5_0 [(0, (V.int .i64 v0)), (1, (V.int .i64 (wrapF .i64 (Int.tmod (wrapF .u64 v1) (Int.ofNat 3))))), (5, (V.sl (H.next σ) 0 3 (.ex 3)))] s1) fun e2 s3 =>
 getL e2 0 fun u4 =>
 rtInt .i64 u4 fun x5 =>
 getL e2 1 fun u6 =>
 rtInt .i64 u6 fun x7 =>
 getL e2 6 fun u8 =>
 rtPtr u8 fun b9 o10 =>
 getL e2 7 fun u11 =>
 rtInt .i64 u11 fun x12 =>
 getL e2 8 fun u13 =>
 rtInt .i64 u13 fun x14 =>
 joinB (fun c15 s16 =>
 condK c15 (
 callK (D 6 [] s16) fun u18 s19 =>
 rtBool u18 fun x20 =>
 joinB (fun c21 s22 =>
 joinB (fun c24 s25 =>
 joinB (fun c27 s28 =>
 some ((V.bool c27), s28)) fun k29 =>
 condK c24 (
 ldK E s25 b9 (Nat.add o10 4) fun u30 =>
 slenK u30 fun n31 =>
 k29 (eqF (Int.ofNat n31) (Int.ofNat 0)) s25) (
 k29 false s25)) fun k26 =>
 condK c21 (
 callK (D 10 [(V.str (BS.mk 0 0))] s22) fun u32 s33 =>
 rtStr u32 fun x34 =>
 k26 (eqF x12 (subF .i64 (Int.ofNat (BS.len x34)) (Int.ofNat 3))) s33) (
 k26 false s22)) fun k23 =>
 condK x20 (
 k23 (eqF x14 (Int.ofNat 12)) s19) (
 k23 false s19)) (
 callK (D 6 [] s16) fun u35 s36 =>
 rtBool u35 fun x37 =>
 joinB (fun c38 s39 =>
 joinB (fun c41 s42 =>
 joinB (fun c44 s45 =>
 some ((V.bool c44), s45)) fun k46 =>
 condK c41 (
 ldK E s42 b9 (Nat.add o10 4) fun u47 =>
 iaddrSK 16 u47 (Int.ofNat 0) fun b48 o49 =>
 ldnK E s42 b48 (Nat.add o49 2) 3 fun l50 =>
 rtCons l50 fun x51 l52 =>
 rtBool x51 fun x53 =>
 rtCons l52 fun x54 l55 =>
 rtInt .i64 x54 fun x56 =>
 rtCons l55 fun x57 l58 =>
 rtInt .i64 x57 fun x59 =>
 rtNil l58 (
 eqK (.flat [(0, .bool), (1, .int), (2, .int)]) (V.agg [(V.bool x53), (V.int .i64 x56), (V.int .i64 x59)]) (V.agg [(V.bool true), (V.int .i64 x5), (V.int .i64 x7)]) fun c60 =>
 k46 c60 s42)) (
 k46 false s42)) fun k43 =>
 condK c38 (
 ldK E s39 b9 (Nat.add o10 4) fun u61 =>
 slenK u61 fun n62 =>
 k43 (eqF (Int.ofNat n62) (Int.ofNat 1)) s39) (
 k43 false s39)) fun k40 =>
 condK x37 (
 k40 (eqF x14 (Int.ofNat 0)) s36) (
 k40 false s36))) fun k17 =>
 condK (ltF x5 (Int.ofNat 0)) (
 k17 true s3) (
 k17 (ltF (Int.ofNat 268435456) x5) s3)
theorem P5_0 (E : List (Nat × Blk)) (D : Den) (W : DrawFn) (N : Nat) (v0 : Int) (v1 : Int) (σ : H) :
  denC E D W N (C5_0 ) ⟨[(0, (V.int .i64 v0)), (1, (V.int .i64 v1))], [], [], σ⟩ (Fin5 E) (fun _ _ => none) (Fin5 E) =
  T5_0 E D W  v0 v1 σ := by kernel_rfl
def J5_0 (E : List (Nat × Blk)) (D : Den) (W : DrawFn) (N : Nat) : Int → Int → H → Ans := T5_0 E D W 
theorem JE5_0 (E : List (Nat × Blk)) (D : Den) (W : DrawFn) (N : Nat) (v0 : Int) (v1 : Int) (σ : H) :
  denC E D W N C5_0 ⟨[(0, (V.int .i64 v0)), (1, (V.int .i64 v1))], [], [], σ⟩ (Fin5 E) (fun _ _ => none) (Fin5 E) = J5_0 E D W N v0 v1 σ := by
  refine (P5_0 E D W N   v0 v1 σ).trans ?_
  kernel_rfl
def F5 (E : List (Nat × Blk)) (D : Den) (W : DrawFn) (N : Nat) (args : List V) (σ : H) : Ans :=
 rtCons args fun x1 l2 =>
 rtInt .i64 x1 fun x3 =>
 rtCons l2 fun x4 l5 =>
 rtInt .i64 x4 fun x6 =>
 rtNil l5 (
 J5_0 E D W N x3 x6 σ)
def A5 : XFn := ⟨76, [(.int .i64), (.int .i64)], [(.tmp 4)], C5_0⟩
theorem FE5 (E : List (Nat × Blk)) (D : Den) (W : DrawFn) (N : Nat) (args : List V) (σ : H) : runX E D W N A5 args σ = F5 E D W N args σ := by
  unfold F5
  simp only [← JE5_0]
  kernel_rfl
theorem AO5 : A5.body.ok = true := by kernel_rfl

/-! ### F6: ogham_oghamlaw05.awake -/
def Fin6 (E : List (Nat × Blk)) : St → Ans := fun s => resK E s [(.tmp 0)] fun l => some (oneV l, s.σ)
def C6_0 : XC := (.seq (.ops (.op (some 0) .any [] (.mov (.con (V.bool false))) <|
 .nil))
 (.seq (.ops (.op (some 5) (.tup [(.agg [.str, (.int .i64), .any, .any, .any]), (.int .i64), (.int .i64)]) [] (.call 7 [(.con (V.str ⟨68, 15365082312408104876030393846070986292879098561787164772861530402028165223365166853668485259252883950828983602805086268172999713095979834202427583881019512347435085⟩))]) <|
 .op (some 4) .any [5] (.mov (.tmp 5)) <|
 .op (some 6) .any [4] (.extract 0 (.tmp 4)) <|
 .op (some 7) .any [4] (.extract 1 (.tmp 4)) <|
 .op (some 8) .any [4] (.extract 2 (.tmp 4)) <|
 .pal 1 [] 27 [(V.str ⟨0, 0⟩), (V.int .i64 (Int.ofNat 0)), V.nils, V.nils, V.nils] <|
 .op none (.agg [.str, (.int .i64), .any, .any, .any]) [1, 6] (.store 5 (.tmp 1) (.tmp 6)) <|
 .op (some 2) .any [7] (.mov (.tmp 7)) <|
 .op (some 3) .any [8] (.mov (.tmp 8)) <|
 .nil))
 (.seq (.ops (.op (some 9) .any [3] (.mov (.tmp 3)) <|
 .op (some 10) .any [9] (.bin .eql .none (.tmp 9) (.con (V.int .i64 (Int.ofNat 0)))) <|
 .op (some 11) .any [10] (.mov (.tmp 10)) <|
 .grp 11 true (.op (some 12) .any [1, 11] (.faddr 4 (.tmp 1)) <|
 .op (some 13) .any [12, 11] (.load none (.tmp 12)) <|
 .op (some 14) .any [13, 11] (.len false (.tmp 13)) <|
 .op (some 15) .any [14, 11] (.bin .eql .none (.tmp 14) (.con (V.int .i64 (Int.ofNat 2)))) <|
 .nil) 16 [11, 15] (.tmp 11) (.tmp 15) (.con (V.bool false)) <|
 .op (some 17) .any [16] (.mov (.tmp 16)) <|
 .grp 17 true (.op (some 18) .any [1, 17] (.faddr 4 (.tmp 1)) <|
 .op (some 19) .any [18, 17] (.load none (.tmp 18)) <|
 .op (some 20) .any [19, 17] (.iaddrS 16 (.tmp 19) (.con (V.int .i64 (Int.ofNat 0)))) <|
 .op (some 21) .any [20, 17] (.faddr 14 (.tmp 20)) <|
 .op (some 22) .bool [21, 17] (.load none (.tmp 21)) <|
 .nil) 23 [17, 22] (.tmp 17) (.tmp 22) (.con (V.bool false)) <|
 .op (some 24) .any [23] (.mov (.tmp 23)) <|
 .grp 24 true (.op (some 25) .any [1, 24] (.faddr 4 (.tmp 1)) <|
 .op (some 26) .any [25, 24] (.load none (.tmp 25)) <|
 .op (some 27) .any [26, 24] (.iaddrS 16 (.tmp 26) (.con (V.int .i64 (Int.ofNat 1)))) <|
 .op (some 28) .any [27, 24] (.faddr 5 (.tmp 27)) <|
 .op (some 29) .any [28, 24] (.faddr 5 (.tmp 28)) <|
 .op (some 30) (.int .i64) [29, 24] (.load none (.tmp 29)) <|
 .op (some 31) .any [30, 24] (.bin .eql .none (.tmp 30) (.con (V.int .i64 (Int.ofNat 7)))) <|
 .nil) 32 [24, 31] (.tmp 24) (.tmp 31) (.con (V.bool false)) <|
 .op (some 0) .any [32] (.mov (.tmp 32)) <|
 .nil))
 .ret)))
def T6_0 (E : List (Nat × Blk)) (D : Den) (W : DrawFn) (σ : H) : Ans :=
 callK (D 7 [(V.str (BS.mk 68 15365082312408104876030393846070986292879098561787164772861530402028165223365166853668485259252883950828983602805086268172999713095979834202427583881019512347435085))] σ) fun u1 s2 =>
 rtTup u1 fun l3 =>
 rtCons l3 fun x4 l5 =>
 rtAgg x4 fun l6 =>
 rtCons l6 fun x7 l8 =>
 rtStr x7 fun x9 =>
 rtCons l8 fun x10 l11 =>
 rtInt .i64 x10 fun x12 =>
 rtCons l11 fun x13 l14 =>
 rtCons l14 fun x15 l16 =>
 rtCons l16 fun x17 l18 =>
 rtNil l18 (
 rtCons l5 fun x19 l20 =>
 rtInt .i64 x19 fun x21 =>
 rtCons l20 fun x22 l23 =>
 rtInt .i64 x22 fun x24 =>
 rtNil l23 (
 chk (allOne [(V.str x9), (V.int .i64 x12), x13, x15, x17]) (
 joinB (fun c25 s26 =>
 joinB (fun c28 s29 =>
 joinB (fun c31 s32 =>
 some ((V.bool c31), s32)) fun k33 =>
 condK c28 (
 iaddrSK 16 x17 (Int.ofNat 1) fun b34 o35 =>
 ldK E s29 b34 (Nat.add (Nat.add o35 5) 5) fun u36 =>
 rtInt .i64 u36 fun x37 =>
 k33 (eqF x37 (Int.ofNat 7)) s29) (
 k33 false s29)) fun k30 =>
 condK c25 (
 iaddrSK 16 x17 (Int.ofNat 0) fun b38 o39 =>
 ldK E s26 b38 (Nat.add o39 14) fun u40 =>
 rtBool u40 fun x41 =>
 k30 x41 s26) (
 k30 false s26)) fun k27 =>
 condK (eqF x24 (Int.ofNat 0)) (
 slenK x17 fun n42 =>
 k27 (eqF (Int.ofNat n42) (Int.ofNat 2)) s2) (
 k27 false s2))))
theorem P6_0 (E : List (Nat × Blk)) (D : Den) (W : DrawFn) (N : Nat) (σ : H) :
  denC E D W N (C6_0 ) ⟨[], [], [], σ⟩ (Fin6 E) (fun _ _ => none) (Fin6 E) =
  T6_0 E D W   σ := by kernel_rfl
def J6_0 (E : List (Nat × Blk)) (D : Den) (W : DrawFn) (N : Nat) : H → Ans := T6_0 E D W 
theorem JE6_0 (E : List (Nat × Blk)) (D : Den) (W : DrawFn) (N : Nat) (σ : H) :
  denC E D W N C6_0 ⟨[], [], [], σ⟩ (Fin6 E) (fun _ _ => none) (Fin6 E) = J6_0 E D W N  σ := by
  refine (P6_0 E D W N    σ).trans ?_
  kernel_rfl
def F6 (E : List (Nat × Blk)) (D : Den) (W : DrawFn) (N : Nat) (args : List V) (σ : H) : Ans :=
 rtNil args (
 J6_0 E D W N  σ)
def A6 : XFn := ⟨33, [], [(.tmp 0)], C6_0⟩
theorem FE6 (E : List (Nat × Blk)) (D : Den) (W : DrawFn) (N : Nat) (args : List V) (σ : H) : runX E D W N A6 args σ = F6 E D W N args σ := by
  unfold F6
  simp only [← JE6_0]
  kernel_rfl
theorem AO6 : A6.body.ok = true := by kernel_rfl

/-! ### F7: ogham_syntax.Parse -/
def G7_0 : List AOper := [⟨(some 27), .build [(V.str ⟨0, 0⟩), (V.int .i64 (Int.ofNat 0)), V.nils, V.nils, V.nils] [], none⟩, ⟨(some 28), .mov (.tmp 8), none⟩, ⟨(some 29), .nilck (.tmp 28), none⟩, ⟨(some 30), .faddr 7 (.tmp 29), none⟩, ⟨(some 31), .load none (.tmp 30), none⟩, ⟨(some 32), .mov (.tmp 8), none⟩, ⟨(some 33), .nilck (.tmp 32), none⟩, ⟨(some 34), .faddr 8 (.tmp 33), none⟩, ⟨(some 35), .load none (.tmp 34), none⟩, ⟨none, .store 5 (.tmp 2) (.tmp 27), none⟩, ⟨(some 3), .mov (.tmp 31), none⟩, ⟨(some 4), .mov (.tmp 35), none⟩]
def H7_0 : List DP := [⟨0, []⟩, ⟨0, [8]⟩, ⟨2, [28]⟩, ⟨6, [29]⟩, ⟨14, [30]⟩, ⟨0, [8]⟩, ⟨32, [32]⟩, ⟨96, [33]⟩, ⟨224, [34]⟩, ⟨1, [2, 27]⟩, ⟨543, [31]⟩, ⟨2047, [35]⟩]
def Fin7 (E : List (Nat × Blk)) : St → Ans := fun s => resK E s [(.cell 2 (some 5)), (.tmp 3), (.tmp 4)] fun l => some (oneV l, s.σ)
def C7_0 : XC := (.seq (.ops (.op (some 2) .any [] (.alloc 27 [(V.str ⟨0, 0⟩), (V.int .i64 (Int.ofNat 0)), V.nils, V.nils, V.nils]) <|
 .op (some 3) .any [] (.mov (.con (V.int .i64 (Int.ofNat 0)))) <|
 .op (some 4) .any [] (.mov (.con (V.int .i64 (Int.ofNat 0)))) <|
 .nil))
 (.seq (.ops (.op (some 10) .any [0] (.mov (.tmp 0)) <|
 .op (some 11) (.tup [.any, (.int .i64), (.int .i64)]) [10] (.call 11 [(.tmp 10)]) <|
 .op (some 9) .any [11] (.mov (.tmp 11)) <|
 .op (some 12) .any [9] (.extract 0 (.tmp 9)) <|
 .op (some 13) .any [9] (.extract 1 (.tmp 9)) <|
 .op (some 14) .any [9] (.extract 2 (.tmp 9)) <|
 .op (some 5) .any [12] (.mov (.tmp 12)) <|
 .op (some 6) .any [13] (.mov (.tmp 13)) <|
 .op (some 7) .any [14] (.mov (.tmp 14)) <|
 .nil))
 (.seq (.seq (.ops (.op (some 15) .any [7] (.mov (.tmp 7)) <|
 .op (some 16) .any [15] (.bin .neq .none (.tmp 15) (.con (V.int .i64 (Int.ofNat 0)))) <|
 .nil))
 (.cond (.tmp 16) (.seq (.ops (.op (some 17) (.agg [.str, (.int .i64), .any, .any, .any]) [] (.build [(V.str ⟨0, 0⟩), (V.int .i64 (Int.ofNat 0)), V.nils, V.nils, V.nils] []) <|
 .op (some 18) .any [6] (.mov (.tmp 6)) <|
 .op (some 19) .any [7] (.mov (.tmp 7)) <|
 .op none (.agg [.str, (.int .i64), .any, .any, .any]) [2, 17] (.store 5 (.tmp 2) (.tmp 17)) <|
 .op (some 3) .any [18] (.mov (.tmp 18)) <|
 .op (some 4) .any [19] (.mov (.tmp 19)) <|
 .nil))
 .ret)
 .skip))
 (.seq (.ops (.op (some 20) .any [5] (.mov (.tmp 5)) <|
 .op (some 21) (.agg [.any, (.int .i64)]) [20] (.build [V.nils, (V.int .i64 (Int.ofNat 0))] [(0, 1, (.tmp 20))]) <|
 .op (some 22) (.agg [.any, (.int .i64), .str, (.int .i64), .any, .any, .any, (.int .i64), (.int .i64)]) [21] (.build [V.nils, (V.int .i64 (Int.ofNat 0)), (V.str ⟨0, 0⟩), (V.int .i64 (Int.ofNat 0)), V.nils, V.nils, V.nils, (V.int .i64 (Int.ofNat 0)), (V.int .i64 (Int.ofNat 0))] [(0, 2, (.tmp 21))]) <|
 .op (some 23) .any [22] (.box 60 (.tmp 22)) <|
 .op (some 8) .any [23] (.mov (.tmp 23)) <|
 .nil))
 (.seq (.seq (.ops (.op (some 24) .any [8] (.mov (.tmp 8)) <|
 .op (some 25) .bool [24] (.call 12 [(.tmp 24)]) <|
 .op (some 26) .any [25] (.un .not (.tmp 25)) <|
 .nil))
 (.cond (.tmp 26) (.seq (.keep [(2, .ptr), (8, .ptr)] [] [] (.gdraw G7_0 H7_0 [(2, .ptr), (3, (.int .i64)), (4, (.int .i64))]))
 .ret)
 .skip))
 (.seq (.ops (.op (some 36) .any [8] (.mov (.tmp 8)) <|
 .op (some 37) .any [36] (.nilck (.tmp 36)) <|
 .op (some 38) .any [37] (.faddr 2 (.tmp 37)) <|
 .op (some 39) (.agg [.str, (.int .i64), .any, .any, .any]) [38] (.load (some 5) (.tmp 38)) <|
 .op none (.agg [.str, (.int .i64), .any, .any, .any]) [2, 39] (.store 5 (.tmp 2) (.tmp 39)) <|
 .op (some 3) .any [] (.mov (.con (V.int .i64 (Int.ofNat 0)))) <|
 .op (some 4) .any [] (.mov (.con (V.int .i64 (Int.ofNat 0)))) <|
 .nil))
 .ret))))))
def T7_0 (E : List (Nat × Blk)) (D : Den) (W : DrawFn) (v0 : BS) (σ : H) : Ans :=
 let s1 := newB σ (.cells [(V.str ⟨0, 0⟩), (V.int .i64 (Int.ofNat 0)), V.nils, V.nils, V.nils]);
 callK (D 11 [(V.str v0)] s1) fun u2 s3 =>
 rtTup u2 fun l4 =>
 rtCons l4 fun x5 l6 =>
 rtCons l6 fun x7 l8 =>
 rtInt .i64 x7 fun x9 =>
 rtCons l8 fun x10 l11 =>
 rtInt .i64 x10 fun x12 =>
 rtNil l11 (
 condK (not (eqF x12 (Int.ofNat 0))) (
 stK 5 (H.next σ) 0 (V.agg [(V.str (BS.mk 0 0)), (V.int .i64 (Int.ofNat 0)), V.nils, V.nils, V.nils]) s3 fun s13 =>
 ldnK E s13 (H.next σ) 0 5 fun u14 =>
 some ((V.tup [(V.agg u14), (V.int .i64 x9), (V.int .i64 x12)]), s13)) (
 fillK [(0, 1, x5)] [V.nils, (V.int .i64 (Int.ofNat 0))] fun l15 =>
 rtCons l15 fun x16 l17 =>
 rtCons l17 fun x18 l19 =>
 rtInt .i64 x18 fun x20 =>
 rtNil l19 (
 chk (allOne (V.cells (V.agg [x16, (V.int .i64 x20), (V.str (BS.mk 0 0)), (V.int .i64 (Int.ofNat 0)), V.nils, V.nils, V.nils, (V.int .i64 (Int.ofNat 0)), (V.int .i64 (Int.ofNat 0))]))) (
 let s21 := newB s3 (.cells (V.cells (V.agg [x16, (V.int .i64 x20), (V.str (BS.mk 0 0)), (V.int .i64 (Int.ofNat 0)), V.nils, V.nils, V.nils, (V.int .i64 (Int.ofNat 0)), (V.int .i64 (Int.ofNat 0))])));
 callK (D 12 [(V.ptr (H.next s3) 0)] s21) fun u22 s23 =>
 rtBool u22 fun x24 =>
 condK (not x24) (
 gdrawK (W G7_0 H7_0 [(2, (V.ptr (H.next σ) 0)), (8, (V.ptr (H.next s3) 0))] s23) fun e25 s26 =>
 getL e25 2 fun u27 =>
 rtPtr u27 fun b28 o29 =>
 getL e25 3 fun u30 =>
 rtInt .i64 u30 fun x31 =>
 getL e25 4 fun u32 =>
 rtInt .i64 u32 fun x33 =>
 ldnK E s26 b28 o29 5 fun u34 =>
 some ((V.tup [(V.agg u34), (V.int .i64 x31), (V.int .i64 x33)]), s26)) (
 ldnK E s23 (H.next s3) 2 5 fun l35 =>
 rtCons l35 fun x36 l37 =>
 rtStr x36 fun x38 =>
 rtCons l37 fun x39 l40 =>
 rtInt .i64 x39 fun x41 =>
 rtCons l40 fun x42 l43 =>
 rtCons l43 fun x44 l45 =>
 rtCons l45 fun x46 l47 =>
 rtNil l47 (
 stK 5 (H.next σ) 0 (V.agg [(V.str x38), (V.int .i64 x41), x42, x44, x46]) s23 fun s48 =>
 ldnK E s48 (H.next σ) 0 5 fun u49 =>
 some ((V.tup [(V.agg u49), (V.int .i64 (Int.ofNat 0)), (V.int .i64 (Int.ofNat 0))]), s48)))))))
theorem P7_0 (E : List (Nat × Blk)) (D : Den) (W : DrawFn) (N : Nat) (v0 : BS) (σ : H) :
  denC E D W N (C7_0 ) ⟨[(0, (V.str v0))], [], [], σ⟩ (Fin7 E) (fun _ _ => none) (Fin7 E) =
  T7_0 E D W  v0 σ := by kernel_rfl
def J7_0 (E : List (Nat × Blk)) (D : Den) (W : DrawFn) (N : Nat) : BS → H → Ans := T7_0 E D W 
theorem JE7_0 (E : List (Nat × Blk)) (D : Den) (W : DrawFn) (N : Nat) (v0 : BS) (σ : H) :
  denC E D W N C7_0 ⟨[(0, (V.str v0))], [], [], σ⟩ (Fin7 E) (fun _ _ => none) (Fin7 E) = J7_0 E D W N v0 σ := by
  refine (P7_0 E D W N   v0 σ).trans ?_
  kernel_rfl
def F7 (E : List (Nat × Blk)) (D : Den) (W : DrawFn) (N : Nat) (args : List V) (σ : H) : Ans :=
 rtCons args fun x1 l2 =>
 rtStr x1 fun x3 =>
 rtNil l2 (
 J7_0 E D W N x3 σ)
def A7 : XFn := ⟨40, [.str], [(.cell 2 (some 5)), (.tmp 3), (.tmp 4)], C7_0⟩
theorem FE7 (E : List (Nat × Blk)) (D : Den) (W : DrawFn) (N : Nat) (args : List V) (σ : H) : runX E D W N A7 args σ = F7 E D W N args σ := by
  unfold F7
  simp only [← JE7_0]
  kernel_rfl
theorem AO7 : A7.body.ok = true := by kernel_rfl

/-! ### F9: ogham_oghamhelp.Number -/
def Fin9 (E : List (Nat × Blk)) : St → Ans := fun s => resK E s [(.tmp 2)] fun l => some (oneV l, s.σ)
def C9_0 : XC := (.seq (.ops (.op (some 2) .any [] (.mov (.con (V.str ⟨0, 0⟩))) <|
 .nil))
 (.seq (.seq (.ops (.op (some 3) .any [0] (.mov (.tmp 0)) <|
 .op (some 4) .any [3] (.bin .lss .none (.tmp 3) (.con (V.int .i64 (Int.ofNat 0)))) <|
 .nil))
 (.cond (.tmp 4) (.seq (.ops (.op (some 5) .any [0] (.mov (.tmp 0)) <|
 .op (some 6) .any [5] (.bin .add .none (.tmp 5) (.con (V.int .i64 (Int.ofNat 1)))) <|
 .op (some 7) .any [6] (.un .neg (.tmp 6)) <|
 .op (some 8) .any [7] (.conv (.toInt .u64) (.tmp 7)) <|
 .op (some 9) .any [8] (.bin .add .none (.tmp 8) (.con (V.int .u64 (Int.ofNat 1)))) <|
 .op (some 10) .str [9] (.call 17 [(.tmp 9)]) <|
 .op (some 11) .any [10] (.bin .add .none (.con (V.str ⟨1, 45⟩)) (.tmp 10)) <|
 .op (some 2) .any [11] (.mov (.tmp 11)) <|
 .nil))
 .ret)
 .skip))
 (.seq (.ops (.op (some 12) .any [0] (.mov (.tmp 0)) <|
 .op (some 13) .any [12] (.conv (.toInt .u64) (.tmp 12)) <|
 .op (some 14) .str [13] (.call 17 [(.tmp 13)]) <|
 .op (some 2) .any [14] (.mov (.tmp 14)) <|
 .nil))
 .ret)))
def T9_0 (E : List (Nat × Blk)) (D : Den) (W : DrawFn) (v0 : Int) (σ : H) : Ans :=
 condK (ltF v0 (Int.ofNat 0)) (
 callK (D 17 [(V.int .u64 (addF .u64 (wrapF .u64 (negF .i64 (addF .i64 v0 (Int.ofNat 1)))) (Int.ofNat 1)))] σ) fun u1 s2 =>
 rtStr u1 fun x3 =>
 catK (BS.mk 1 45) x3 fun t4 =>
 some ((V.str t4), s2)) (
 callK (D 17 [(V.int .u64 (wrapF .u64 v0))] σ) fun u5 s6 =>
 rtStr u5 fun x7 =>
 some ((V.str x7), s6))
theorem P9_0 (E : List (Nat × Blk)) (D : Den) (W : DrawFn) (N : Nat) (v0 : Int) (σ : H) :
  denC E D W N (C9_0 ) ⟨[(0, (V.int .i64 v0))], [], [], σ⟩ (Fin9 E) (fun _ _ => none) (Fin9 E) =
  T9_0 E D W  v0 σ := by kernel_rfl
def J9_0 (E : List (Nat × Blk)) (D : Den) (W : DrawFn) (N : Nat) : Int → H → Ans := T9_0 E D W 
theorem JE9_0 (E : List (Nat × Blk)) (D : Den) (W : DrawFn) (N : Nat) (v0 : Int) (σ : H) :
  denC E D W N C9_0 ⟨[(0, (V.int .i64 v0))], [], [], σ⟩ (Fin9 E) (fun _ _ => none) (Fin9 E) = J9_0 E D W N v0 σ := by
  refine (P9_0 E D W N   v0 σ).trans ?_
  kernel_rfl
def F9 (E : List (Nat × Blk)) (D : Den) (W : DrawFn) (N : Nat) (args : List V) (σ : H) : Ans :=
 rtCons args fun x1 l2 =>
 rtInt .i64 x1 fun x3 =>
 rtNil l2 (
 J9_0 E D W N x3 σ)
def A9 : XFn := ⟨15, [(.int .i64)], [(.tmp 2)], C9_0⟩
theorem FE9 (E : List (Nat × Blk)) (D : Den) (W : DrawFn) (N : Nat) (args : List V) (σ : H) : runX E D W N A9 args σ = F9 E D W N args σ := by
  unfold F9
  simp only [← JE9_0]
  kernel_rfl
theorem AO9 : A9.body.ok = true := by kernel_rfl

/-! ### F10: ogham_oghamlaw05.module -/
def Fin10 (E : List (Nat × Blk)) : St → Ans := fun s => resK E s [(.tmp 2)] fun l => some (oneV l, s.σ)
def C10_0 : XC := (.seq (.ops (.op (some 2) .any [] (.mov (.con (V.str ⟨0, 0⟩))) <|
 .nil))
 (.seq (.ops (.op (some 3) .any [0] (.mov (.tmp 0)) <|
 .op (some 4) .any [3] (.bin .add .none (.con (V.str ⟨30, 222506571868557908864840178738838794715991869943048379564569277948502093⟩)) (.tmp 3)) <|
 .op (some 5) .any [4] (.bin .add .none (.tmp 4) (.con (V.str ⟨4, 1145980192⟩))) <|
 .op (some 2) .any [5] (.mov (.tmp 5)) <|
 .nil))
 .ret))
def T10_0 (E : List (Nat × Blk)) (D : Den) (W : DrawFn) (v0 : BS) (σ : H) : Ans :=
 catK (BS.mk 30 222506571868557908864840178738838794715991869943048379564569277948502093) v0 fun t1 =>
 catK t1 (BS.mk 4 1145980192) fun t2 =>
 some ((V.str t2), σ)
theorem P10_0 (E : List (Nat × Blk)) (D : Den) (W : DrawFn) (N : Nat) (v0 : BS) (σ : H) :
  denC E D W N (C10_0 ) ⟨[(0, (V.str v0))], [], [], σ⟩ (Fin10 E) (fun _ _ => none) (Fin10 E) =
  T10_0 E D W  v0 σ := by kernel_rfl
def J10_0 (E : List (Nat × Blk)) (D : Den) (W : DrawFn) (N : Nat) : BS → H → Ans := T10_0 E D W 
theorem JE10_0 (E : List (Nat × Blk)) (D : Den) (W : DrawFn) (N : Nat) (v0 : BS) (σ : H) :
  denC E D W N C10_0 ⟨[(0, (V.str v0))], [], [], σ⟩ (Fin10 E) (fun _ _ => none) (Fin10 E) = J10_0 E D W N v0 σ := by
  refine (P10_0 E D W N   v0 σ).trans ?_
  kernel_rfl
def F10 (E : List (Nat × Blk)) (D : Den) (W : DrawFn) (N : Nat) (args : List V) (σ : H) : Ans :=
 rtCons args fun x1 l2 =>
 rtStr x1 fun x3 =>
 rtNil l2 (
 J10_0 E D W N x3 σ)
def A10 : XFn := ⟨6, [.str], [(.tmp 2)], C10_0⟩
theorem FE10 (E : List (Nat × Blk)) (D : Den) (W : DrawFn) (N : Nat) (args : List V) (σ : H) : runX E D W N A10 args σ = F10 E D W N args σ := by
  unfold F10
  simp only [← JE10_0]
  kernel_rfl
theorem AO10 : A10.body.ok = true := by kernel_rfl

/-! ### F11: ogham_lex.Tokens -/
def Fin11 (E : List (Nat × Blk)) : St → Ans := fun s => resK E s [(.tmp 2), (.tmp 3), (.tmp 4)] fun l => some (oneV l, s.σ)
def C11_0 (cc1 : XC) (cc2 : XC) : XC := (.seq (.ops (.op (some 2) .any [] (.mov (.con V.nils)) <|
 .op (some 3) .any [] (.mov (.con (V.int .i64 (Int.ofNat 0)))) <|
 .op (some 4) .any [] (.mov (.con (V.int .i64 (Int.ofNat 0)))) <|
 .nil))
 (.seq (.seq (.ops (.op (some 10) .any [0] (.mov (.tmp 0)) <|
 .op (some 11) .any [10] (.len true (.tmp 10)) <|
 .op (some 12) .any [11] (.bin .gtr .none (.tmp 11) (.con (V.int .i64 (Int.ofNat 8000)))) <|
 .nil))
 (.cond (.tmp 12) (.seq (.ops (.op (some 2) .any [] (.mov (.con V.nils)) <|
 .op (some 3) .any [] (.mov (.con (V.int .i64 (Int.ofNat 0)))) <|
 .op (some 4) .any [] (.mov (.con (V.int .i64 (Int.ofNat 5)))) <|
 .nil))
 .ret)
 .skip))
 (.seq (.ops (.op (some 13) .any [0] (.mov (.tmp 0)) <|
 .op (some 14) (.agg [.str, (.int .i64)]) [13] (.build [(V.str ⟨0, 0⟩), (V.int .i64 (Int.ofNat 0))] [(0, 1, (.tmp 13))]) <|
 .op (some 15) (.agg [.str, (.int .i64)]) [14] (.build [(V.str ⟨0, 0⟩), (V.int .i64 (Int.ofNat 0))] [(0, 2, (.tmp 14))]) <|
 .op (some 16) .any [15] (.box 71 (.tmp 15)) <|
 .op (some 5) .any [16] (.mov (.tmp 16)) <|
 .nil))
 (.seq (.ops (.op (some 6) .any [] (.mov (.con V.nils)) <|
 .nil))
 (.seq (.seq (.ops (.op (some 17) .any [5] (.mov (.tmp 5)) <|
 .op (some 18) .any [17] (.nilck (.tmp 17)) <|
 .op (some 19) .any [18] (.faddr 0 (.tmp 18)) <|
 .op (some 20) (.tup []) [19] (.call 18 [(.tmp 19)]) <|
 .nil))
 (.block 0 (.loop [(0, .str), (5, .ptr), (6, .any)] [] [] cc2)))
 (.keep [(0, .str), (6, .any)] [] [] cc1))))))
def T11_0 (E : List (Nat × Blk)) (D : Den) (W : DrawFn) (K2 : BS → Nat → Nat → V → H → Ans) (v0 : BS) (σ : H) : Ans :=
 condK (ltF (Int.ofNat 8000) (Int.ofNat (BS.len v0))) (
 some ((V.tup [V.nils, (V.int .i64 (Int.ofNat 0)), (V.int .i64 (Int.ofNat 5))]), σ)) (
 chk (allOne (V.cells (V.agg [(V.str v0), (V.int .i64 (Int.ofNat 0))]))) (
 let s1 := newB σ (.cells (V.cells (V.agg [(V.str v0), (V.int .i64 (Int.ofNat 0))])));
 callK (D 18 [(V.ptr (H.next σ) 0)] s1) fun u2 s3 =>
 rtTup u2 fun l4 =>
 rtNil l4 (
 K2 v0 (H.next σ) 0 V.nils s3)))
def C11_1 : XC := (.seq (.ops (.op (some 53) .any [6] (.mov (.tmp 6)) <|
 .op (some 54) .any [0] (.mov (.tmp 0)) <|
 .op (some 55) .any [54] (.len true (.tmp 54)) <|
 .op (some 56) (.agg [(.int .i64), .str, (.int .i64)]) [55] (.build [(V.int .i64 (Int.ofNat 0)), (V.str ⟨0, 0⟩), (V.int .i64 (Int.ofNat 0))] [(2, 1, (.tmp 55))]) <|
 .op (some 57) .any [56] (.buildSlice 75 1 [(V.int .i64 (Int.ofNat 0)), (V.str ⟨0, 0⟩), (V.int .i64 (Int.ofNat 0))] [(0, 3, (.tmp 56))]) <|
 .op (some 58) .one [53, 57] (.append 75 3 32 (.tmp 53) (.tmp 57)) <|
 .op (some 2) .any [58] (.mov (.tmp 58)) <|
 .op (some 3) .any [] (.mov (.con (V.int .i64 (Int.ofNat 0)))) <|
 .op (some 4) .any [] (.mov (.con (V.int .i64 (Int.ofNat 0)))) <|
 .nil))
 .ret)
def T11_1 (E : List (Nat × Blk)) (D : Den) (W : DrawFn) (v0 : BS) (v6 : V) (σ : H) : Ans :=
 let s1 := newB σ (.cells [(V.int .i64 (Int.ofNat 0)), (V.str (BS.mk 0 0)), (V.int .i64 (Int.ofNat (BS.len v0)))]);
 appK E 3 32 v6 (V.sl (H.next σ) 0 1 (.ex 1)) s1 fun u2 s3 =>
 rtOne u2 (
 some ((V.tup [u2, (V.int .i64 (Int.ofNat 0)), (V.int .i64 (Int.ofNat 0))]), s3))
def C11_2 : XC := (.seq (.seq (.ops (.op (some 21) .any [5] (.mov (.tmp 5)) <|
 .op (some 22) .any [21] (.nilck (.tmp 21)) <|
 .op (some 23) .any [22] (.faddr 0 (.tmp 22)) <|
 .op (some 24) .any [23] (.faddr 1 (.tmp 23)) <|
 .op (some 25) (.int .i64) [24] (.load none (.tmp 24)) <|
 .op (some 26) .any [0] (.mov (.tmp 0)) <|
 .op (some 27) .any [26] (.len true (.tmp 26)) <|
 .op (some 28) .any [25, 27] (.bin .lss .none (.tmp 25) (.tmp 27)) <|
 .nil))
 (.cond (.tmp 28) .skip
 (.exit 0)))
 (.seq (.block 1 (.seq (.ops (.op (some 33) .any [5] (.mov (.tmp 5)) <|
 .op (some 34) .any [33] (.nilck (.tmp 33)) <|
 .op (some 35) .any [34] (.faddr 0 (.tmp 34)) <|
 .op (some 36) .any [35] (.faddr 1 (.tmp 35)) <|
 .op (some 37) (.int .i64) [36] (.load none (.tmp 36)) <|
 .op (some 7) .any [37] (.mov (.tmp 37)) <|
 .nil))
 (.seq (.ops (.op (some 39) .any [5] (.mov (.tmp 5)) <|
 .op (some 40) (.tup [(.int .i64), .str]) [39] (.call 19 [(.tmp 39)]) <|
 .op (some 38) .any [40] (.mov (.tmp 40)) <|
 .op (some 41) .any [38] (.extract 0 (.tmp 38)) <|
 .op (some 42) .any [38] (.extract 1 (.tmp 38)) <|
 .op (some 8) .any [41] (.mov (.tmp 41)) <|
 .op (some 9) .any [42] (.mov (.tmp 42)) <|
 .nil))
 (.seq (.seq (.ops (.op (some 43) .any [8] (.mov (.tmp 8)) <|
 .op (some 44) .any [43] (.bin .eql .none (.tmp 43) (.con (V.int .i64 (Int.ofNat 0)))) <|
 .nil))
 (.cond (.tmp 44) (.seq (.ops (.op (some 45) .any [7] (.mov (.tmp 7)) <|
 .op (some 2) .any [] (.mov (.con V.nils)) <|
 .op (some 3) .any [45] (.mov (.tmp 45)) <|
 .op (some 4) .any [] (.mov (.con (V.int .i64 (Int.ofNat 6)))) <|
 .nil))
 .ret)
 .skip))
 (.ops (.op (some 46) .any [6] (.mov (.tmp 6)) <|
 .op (some 47) .any [8] (.mov (.tmp 8)) <|
 .op (some 48) .any [9] (.mov (.tmp 9)) <|
 .op (some 49) .any [7] (.mov (.tmp 7)) <|
 .op (some 50) (.agg [(.int .i64), .str, (.int .i64)]) [47, 48, 49] (.build [(V.int .i64 (Int.ofNat 0)), (V.str ⟨0, 0⟩), (V.int .i64 (Int.ofNat 0))] [(0, 1, (.tmp 47)), (1, 1, (.tmp 48)), (2, 1, (.tmp 49))]) <|
 .op (some 51) .any [50] (.buildSlice 75 1 [(V.int .i64 (Int.ofNat 0)), (V.str ⟨0, 0⟩), (V.int .i64 (Int.ofNat 0))] [(0, 3, (.tmp 50))]) <|
 .op (some 52) .one [46, 51] (.append 75 3 32 (.tmp 46) (.tmp 51)) <|
 .op (some 6) .any [52] (.mov (.tmp 52)) <|
 .nil))))))
 (.ops (.op (some 29) .any [5] (.mov (.tmp 5)) <|
 .op (some 30) .any [29] (.nilck (.tmp 29)) <|
 .op (some 31) .any [30] (.faddr 0 (.tmp 30)) <|
 .op (some 32) (.tup []) [31] (.call 18 [(.tmp 31)]) <|
 .nil))))
def T11_2 (E : List (Nat × Blk)) (D : Den) (W : DrawFn) (K1 : BS → V → H → Ans) (R2 : BS → Nat → Nat → V → H → Ans) (v0 : BS) (v5b : Nat) (v5o : Nat) (v6 : V) (σ : H) : Ans :=
 ldK E σ v5b (Nat.add v5o 1) fun u1 =>
 rtInt .i64 u1 fun x2 =>
 condK (ltF x2 (Int.ofNat (BS.len v0))) (
 ldK E σ v5b (Nat.add v5o 1) fun u3 =>
 rtInt .i64 u3 fun x4 =>
 callK (D 19 [(V.ptr v5b v5o)] σ) fun u5 s6 =>
 rtTup u5 fun l7 =>
 rtCons l7 fun x8 l9 =>
 rtInt .i64 x8 fun x10 =>
 rtCons l9 fun x11 l12 =>
 rtStr x11 fun x13 =>
 rtNil l12 (
 condK (eqF x10 (Int.ofNat 0)) (
 some ((V.tup [V.nils, (V.int .i64 x4), (V.int .i64 (Int.ofNat 6))]), s6)) (
 let s14 := newB s6 (.cells [(V.int .i64 x10), (V.str x13), (V.int .i64 x4)]);
 appK E 3 32 v6 (V.sl (H.next s6) 0 1 (.ex 1)) s14 fun u15 s16 =>
 rtOne u15 (
 callK (D 18 [(V.ptr v5b v5o)] s16) fun u17 s18 =>
 rtTup u17 fun l19 =>
 rtNil l19 (
 R2 v0 v5b v5o u15 s18))))) (
 K1 v0 v6 σ)
theorem P11_0 (E : List (Nat × Blk)) (D : Den) (W : DrawFn) (N : Nat) (cc1 : XC) (cc2 : XC) (v0 : BS) (σ : H) :
  denC E D W N (C11_0 cc1 cc2) ⟨[(0, (V.str v0))], [], [], σ⟩ (Fin11 E) (fun _ _ => none) (Fin11 E) =
  T11_0 E D W (fun v0 v5b v5o v6 σ => iterK (fun rec s' => denC E D W N cc2 s' (fun s'' => keepS [(0, .str), (5, .ptr), (6, .any)] [] [] s'' rec) (blkK 0 (fun s' => denC E D W N (.keep [(0, .str), (6, .any)] [] [] cc1) s' (Fin11 E) (fun _ _ => none) (Fin11 E)) (fun _ _ => none)) (Fin11 E)) N ⟨[(0, (V.str v0)), (5, (V.ptr v5b v5o)), (6, v6)], [], [], σ⟩) v0 σ := by kernel_rfl
theorem P11_1 (E : List (Nat × Blk)) (D : Den) (W : DrawFn) (N : Nat) (v0 : BS) (v6 : V) (σ : H) :
  denC E D W N (C11_1 ) ⟨[(0, (V.str v0)), (6, v6)], [], [], σ⟩ (Fin11 E) (fun _ _ => none) (Fin11 E) =
  T11_1 E D W  v0 v6 σ := by kernel_rfl
theorem P11_2 (E : List (Nat × Blk)) (D : Den) (W : DrawFn) (N : Nat) (cc1 : XC) (li2 : St → Ans) (v0 : BS) (v5b : Nat) (v5o : Nat) (v6 : V) (σ : H) :
  denC E D W N (C11_2 ) ⟨[(0, (V.str v0)), (5, (V.ptr v5b v5o)), (6, v6)], [], [], σ⟩ (fun s'' => keepS [(0, .str), (5, .ptr), (6, .any)] [] [] s'' li2) (blkK 0 (fun s' => denC E D W N (.keep [(0, .str), (6, .any)] [] [] cc1) s' (Fin11 E) (fun _ _ => none) (Fin11 E)) (fun _ _ => none)) (Fin11 E) =
  T11_2 E D W (fun v0 v6 σ => denC E D W N cc1 ⟨[(0, (V.str v0)), (6, v6)], [], [], σ⟩ (Fin11 E) (fun _ _ => none) (Fin11 E)) (fun v0 v5b v5o v6 σ => li2 ⟨[(0, (V.str v0)), (5, (V.ptr v5b v5o)), (6, v6)], [], [], σ⟩) v0 v5b v5o v6 σ := by kernel_rfl
def J11_1 (E : List (Nat × Blk)) (D : Den) (W : DrawFn) (N : Nat) : BS → V → H → Ans := T11_1 E D W 
theorem JE11_1 (E : List (Nat × Blk)) (D : Den) (W : DrawFn) (N : Nat) (v0 : BS) (v6 : V) (σ : H) :
  denC E D W N C11_1 ⟨[(0, (V.str v0)), (6, v6)], [], [], σ⟩ (Fin11 E) (fun _ _ => none) (Fin11 E) = J11_1 E D W N v0 v6 σ := by
  refine (P11_1 E D W N   v0 v6 σ).trans ?_
  kernel_rfl
def L11_2 (E : List (Nat × Blk)) (D : Den) (W : DrawFn) (N : Nat) (n : Nat) : BS → Nat → Nat → V → H → Ans :=
  Nat.rec (fun _ _ _ _ _ => none) (fun _ ih => T11_2 E D W (J11_1 E D W N ) ih) n
theorem LE11_2 (E : List (Nat × Blk)) (D : Den) (W : DrawFn) (N : Nat) (n : Nat) : ∀ (v0 : BS) (v5b : Nat) (v5o : Nat) (v6 : V) (σ : H),
  iterK (fun rec s' => denC E D W N C11_2 s' (fun s'' => keepS [(0, .str), (5, .ptr), (6, .any)] [] [] s'' rec) (blkK 0 (fun s' => denC E D W N (.keep [(0, .str), (6, .any)] [] [] C11_1) s' (Fin11 E) (fun _ _ => none) (Fin11 E)) (fun _ _ => none)) (Fin11 E)) n ⟨[(0, (V.str v0)), (5, (V.ptr v5b v5o)), (6, v6)], [], [], σ⟩ = L11_2 E D W N n v0 v5b v5o v6 σ := by
  induction n with
  | zero => intro v0 v5b v5o v6 σ; rfl
  | succ n ihn =>
    intro v0 v5b v5o v6 σ
    rw [iterK_succ]
    refine (P11_2 E D W N C11_1 (iterK (fun rec s' => denC E D W N C11_2 s' (fun s'' => keepS [(0, .str), (5, .ptr), (6, .any)] [] [] s'' rec) (blkK 0 (fun s' => denC E D W N (.keep [(0, .str), (6, .any)] [] [] C11_1) s' (Fin11 E) (fun _ _ => none) (Fin11 E)) (fun _ _ => none)) (Fin11 E)) n) v0 v5b v5o v6 σ).trans ?_
    simp only [ihn, JE11_1]
    kernel_rfl
def J11_0 (E : List (Nat × Blk)) (D : Den) (W : DrawFn) (N : Nat) : BS → H → Ans := T11_0 E D W (L11_2 E D W N N)
theorem JE11_0 (E : List (Nat × Blk)) (D : Den) (W : DrawFn) (N : Nat) (v0 : BS) (σ : H) :
  denC E D W N (C11_0 C11_1 C11_2) ⟨[(0, (V.str v0))], [], [], σ⟩ (Fin11 E) (fun _ _ => none) (Fin11 E) = J11_0 E D W N v0 σ := by
  refine (P11_0 E D W N C11_1 C11_2  v0 σ).trans ?_
  simp only [LE11_2]
  kernel_rfl
def F11 (E : List (Nat × Blk)) (D : Den) (W : DrawFn) (N : Nat) (args : List V) (σ : H) : Ans :=
 rtCons args fun x1 l2 =>
 rtStr x1 fun x3 =>
 rtNil l2 (
 J11_0 E D W N x3 σ)
def A11 : XFn := ⟨59, [.str], [(.tmp 2), (.tmp 3), (.tmp 4)], (C11_0 C11_1 C11_2)⟩
theorem FE11 (E : List (Nat × Blk)) (D : Den) (W : DrawFn) (N : Nat) (args : List V) (σ : H) : runX E D W N A11 args σ = F11 E D W N args σ := by
  unfold F11
  simp only [← JE11_0]
  kernel_rfl
theorem AO11 : A11.body.ok = true := by kernel_rfl

/-! ### F12: __ogham_syntax.parser_.module -/
def Fin12 (E : List (Nat × Blk)) : St → Ans := fun s => resK E s [(.tmp 2)] fun l => some (oneV l, s.σ)
def C12_0 (cc1 : XC) (cc2 : XC) : XC := (.seq (.ops (.op (some 2) .any [] (.mov (.con (V.bool false))) <|
 .nil))
 (.seq (.ops (.op (some 8) .any [0] (.mov (.tmp 0)) <|
 .op (some 9) (.tup [(.agg [(.int .i64), .str, (.int .i64)]), .bool]) [8] (.call 20 [(.tmp 8), (.con (V.int .i64 (Int.ofNat 1)))]) <|
 .op (some 7) .any [9] (.mov (.tmp 9)) <|
 .op (some 10) .any [7] (.extract 0 (.tmp 7)) <|
 .op (some 11) .any [7] (.extract 1 (.tmp 7)) <|
 .pal 3 [] 75 [(V.int .i64 (Int.ofNat 0)), (V.str ⟨0, 0⟩), (V.int .i64 (Int.ofNat 0))] <|
 .op none (.agg [(.int .i64), .str, (.int .i64)]) [3, 10] (.store 3 (.tmp 3) (.tmp 10)) <|
 .op (some 4) .any [11] (.mov (.tmp 11)) <|
 .nil))
 (.seq (.seq (.ops (.op (some 12) .any [4] (.mov (.tmp 4)) <|
 .op (some 13) .any [12] (.un .not (.tmp 12)) <|
 .op (some 14) .any [13] (.mov (.tmp 13)) <|
 .grp 14 false (.op (some 15) .any [0, 14] (.mov (.tmp 0)) <|
 .op (some 16) .any [14] (.buildSlice 9 1 [(V.str ⟨0, 0⟩)] [(0, 1, (.con (V.str ⟨11, 100710650190388740279911748⟩)))]) <|
 .op (some 17) .bool [15, 16, 14] (.call 21 [(.tmp 15), (.tmp 16)]) <|
 .op (some 18) .any [17, 14] (.un .not (.tmp 17)) <|
 .nil) 19 [14, 18] (.tmp 14) (.con (V.bool true)) (.tmp 18) <|
 .nil))
 (.cond (.tmp 19) (.seq (.ops (.op (some 2) .any [] (.mov (.con (V.bool false))) <|
 .nil))
 .ret)
 .skip))
 (.seq (.ops (.op (some 20) .any [0] (.mov (.tmp 0)) <|
 .op (some 21) .any [3] (.faddr 1 (.tmp 3)) <|
 .op (some 22) .str [21] (.load none (.tmp 21)) <|
 .op (some 23) .any [20] (.nilck (.tmp 20)) <|
 .op (some 24) .any [23] (.faddr 2 (.tmp 23)) <|
 .op (some 25) .any [24] (.faddr 0 (.tmp 24)) <|
 .op none .any [25, 22] (.store 1 (.tmp 25) (.tmp 22)) <|
 .nil))
 (.seq (.seq (.ops (.op (some 26) .any [] (.buildSlice 9 3 [(V.str ⟨0, 0⟩), (V.str ⟨0, 0⟩), (V.str ⟨0, 0⟩)] [(0, 1, (.con (V.str ⟨8, 6073459554577832005⟩))), (1, 1, (.con (V.str ⟨8, 6073459554577829193⟩))), (2, 1, (.con (V.str ⟨9, 1241215773001651606849⟩)))]) <|
 .op (some 27) .any [26] (.len false (.tmp 26)) <|
 .op (some 28) .any [] (.mov (.con (V.int .i64 (Int.ofNat 0)))) <|
 .nil))
 (.block 0 (.loop [(0, .ptr), (26, .any), (27, (.int .i64)), (28, (.int .i64))] [] [] cc2)))
 (.keep [(0, .ptr)] [] [] cc1))))))
def T12_0 (E : List (Nat × Blk)) (D : Den) (W : DrawFn) (K2 : Nat → Nat → V → Int → Int → H → Ans) (v0b : Nat) (v0o : Nat) (σ : H) : Ans :=
 callK (D 20 [(V.ptr v0b v0o), (V.int .i64 (Int.ofNat 1))] σ) fun u1 s2 =>
 rtTup u1 fun l3 =>
 rtCons l3 fun x4 l5 =>
 rtAgg x4 fun l6 =>
 rtCons l6 fun x7 l8 =>
 rtInt .i64 x7 fun x9 =>
 rtCons l8 fun x10 l11 =>
 rtStr x10 fun x12 =>
 rtCons l11 fun x13 l14 =>
 rtInt .i64 x13 fun x15 =>
 rtNil l14 (
 rtCons l5 fun x16 l17 =>
 rtBool x16 fun x18 =>
 rtNil l17 (
 joinB (fun c19 s20 =>
 condK c19 (
 some ((V.bool false), s20)) (
 stK 1 v0b (Nat.add v0o 2) (V.str x12) s20 fun s22 =>
 let s23 := newB s22 (.cells [(V.str (BS.mk 8 6073459554577832005)), (V.str (BS.mk 8 6073459554577829193)), (V.str (BS.mk 9 1241215773001651606849))]);
 slenK (V.sl (H.next s22) 0 3 (.ex 3)) fun n24 =>
 K2 v0b v0o (V.sl (H.next s22) 0 3 (.ex 3)) (Int.ofNat n24) (Int.ofNat 0) s23)) fun k21 =>
 condK (not x18) (
 k21 true s2) (
 let s25 := newB s2 (.cells [(V.str (BS.mk 11 100710650190388740279911748))]);
 callK (D 21 [(V.ptr v0b v0o), (V.sl (H.next s2) 0 1 (.ex 1))] s25) fun u26 s27 =>
 rtBool u26 fun x28 =>
 k21 (not x28) s27)))
def C12_1 (cc3 : XC) (cc4 : XC) : XC := (.seq (.seq (.ops (.op (some 50) .any [0] (.mov (.tmp 0)) <|
 .op (some 51) .any [] (.buildSlice 9 2 [(V.str ⟨0, 0⟩), (V.str ⟨0, 0⟩)] [(0, 1, (.con (V.str ⟨3, 4012602⟩))), (1, 1, (.con (V.str ⟨5, 336236856642⟩)))]) <|
 .op (some 52) .bool [50, 51] (.call 21 [(.tmp 50), (.tmp 51)]) <|
 .op (some 53) .any [52] (.un .not (.tmp 52)) <|
 .nil))
 (.cond (.tmp 53) (.seq (.ops (.op (some 2) .any [] (.mov (.con (V.bool false))) <|
 .nil))
 .ret)
 .skip))
 (.seq (.block 2 (.loop [(0, .ptr)] [] [] cc4))
 (.keep [(0, .ptr)] [] [] cc3)))
def T12_1 (E : List (Nat × Blk)) (D : Den) (W : DrawFn) (K4 : Nat → Nat → H → Ans) (v0b : Nat) (v0o : Nat) (σ : H) : Ans :=
 let s1 := newB σ (.cells [(V.str (BS.mk 3 4012602)), (V.str (BS.mk 5 336236856642))]);
 callK (D 21 [(V.ptr v0b v0o), (V.sl (H.next σ) 0 2 (.ex 2))] s1) fun u2 s3 =>
 rtBool u2 fun x4 =>
 condK (not x4) (
 some ((V.bool false), s3)) (
 K4 v0b v0o s3)
def C12_2 : XC := (.seq (.ops (.op (some 29) .any [28, 27] (.bin .lss .none (.tmp 28) (.tmp 27)) <|
 .nil))
 (.seq (.cond (.tmp 29) .skip
 (.exit 0))
 (.seq (.block 1 (.seq (.ops (.op (some 30) .any [28] (.mov (.tmp 28)) <|
 .op (some 31) .any [26, 28] (.iaddrS 1 (.tmp 26) (.tmp 28)) <|
 .op (some 32) .str [31] (.load none (.tmp 31)) <|
 .op (some 5) .any [30] (.mov (.tmp 30)) <|
 .op (some 6) .any [32] (.mov (.tmp 32)) <|
 .nil))
 (.seq (.seq (.ops (.op (some 33) .any [0] (.mov (.tmp 0)) <|
 .op (some 34) .any [33] (.nilck (.tmp 33)) <|
 .op (some 35) .any [34] (.faddr 0 (.tmp 34)) <|
 .op (some 36) .any [6] (.mov (.tmp 6)) <|
 .op (some 37) .bool [35, 36] (.call 22 [(.tmp 35), (.tmp 36)]) <|
 .op (some 38) .any [37] (.un .not (.tmp 37)) <|
 .nil))
 (.cond (.tmp 38) (.exit 1)
 .skip))
 (.seq (.ops (.op (some 39) .any [0] (.mov (.tmp 0)) <|
 .op (some 40) .any [5] (.mov (.tmp 5)) <|
 .op (some 41) .any [39] (.nilck (.tmp 39)) <|
 .op (some 42) .any [41] (.faddr 2 (.tmp 41)) <|
 .op (some 43) .any [42] (.faddr 1 (.tmp 42)) <|
 .op none .any [43, 40] (.store 1 (.tmp 43) (.tmp 40)) <|
 .nil))
 (.seq (.seq (.ops (.op (some 44) .any [0] (.mov (.tmp 0)) <|
 .op (some 45) .any [6] (.mov (.tmp 6)) <|
 .op (some 46) .any [45] (.buildSlice 9 2 [(V.str ⟨0, 0⟩), (V.str ⟨0, 0⟩)] [(0, 1, (.tmp 45)), (1, 1, (.con (V.str ⟨4, 1397178708⟩)))]) <|
 .op (some 47) .bool [44, 46] (.call 21 [(.tmp 44), (.tmp 46)]) <|
 .op (some 48) .any [47] (.un .not (.tmp 47)) <|
 .nil))
 (.cond (.tmp 48) (.seq (.ops (.op (some 2) .any [] (.mov (.con (V.bool false))) <|
 .nil))
 .ret)
 .skip))
 (.exit 0))))))
 (.ops (.op (some 49) .any [28] (.bin .add .none (.tmp 28) (.con (V.int .i64 (Int.ofNat 1)))) <|
 .op (some 28) .any [49] (.mov (.tmp 49)) <|
 .nil)))))
def T12_2 (E : List (Nat × Blk)) (D : Den) (W : DrawFn) (K1 : Nat → Nat → H → Ans) (R2 : Nat → Nat → V → Int → Int → H → Ans) (v0b : Nat) (v0o : Nat) (v26 : V) (v27 : Int) (v28 : Int) (σ : H) : Ans :=
 condK (ltF v28 v27) (
 iaddrSK 1 v26 v28 fun b1 o2 =>
 ldK E σ b1 o2 fun u3 =>
 rtStr u3 fun x4 =>
 callK (D 22 [(V.ptr v0b v0o), (V.str x4)] σ) fun u5 s6 =>
 rtBool u5 fun x7 =>
 condK (not x7) (
 R2 v0b v0o v26 v27 (addF .i64 v28 (Int.ofNat 1)) s6) (
 stK 1 v0b (Nat.add (Nat.add v0o 2) 1) (V.int .i64 v28) s6 fun s8 =>
 let s9 := newB s8 (.cells [(V.str x4), (V.str (BS.mk 4 1397178708))]);
 callK (D 21 [(V.ptr v0b v0o), (V.sl (H.next s8) 0 2 (.ex 2))] s9) fun u10 s11 =>
 rtBool u10 fun x12 =>
 condK (not x12) (
 some ((V.bool false), s11)) (
 K1 v0b v0o s11))) (
 K1 v0b v0o σ)
def C12_3 : XC := (.seq (.seq (.ops (.op (some 63) .any [0] (.mov (.tmp 0)) <|
 .op (some 64) .any [] (.buildSlice 9 1 [(V.str ⟨0, 0⟩)] [(0, 1, (.con (V.str ⟨3, 4476485⟩)))]) <|
 .op (some 65) .bool [63, 64] (.call 21 [(.tmp 63), (.tmp 64)]) <|
 .op (some 66) .any [65] (.un .not (.tmp 65)) <|
 .nil))
 (.cond (.tmp 66) (.seq (.ops (.op (some 2) .any [] (.mov (.con (V.bool false))) <|
 .nil))
 .ret)
 .skip))
 (.seq (.ops (.op (some 68) .any [0] (.mov (.tmp 0)) <|
 .op (some 69) (.tup [(.agg [(.int .i64), .str, (.int .i64)]), .bool]) [68] (.call 20 [(.tmp 68), (.con (V.int .i64 (Int.ofNat 0)))]) <|
 .op (some 67) .any [69] (.mov (.tmp 69)) <|
 .op (some 70) .any [67] (.extract 0 (.tmp 67)) <|
 .op (some 71) .any [67] (.extract 1 (.tmp 67)) <|
 .op (some 4) .any [71] (.mov (.tmp 71)) <|
 .nil))
 (.seq (.ops (.op (some 72) .any [4] (.mov (.tmp 4)) <|
 .op (some 2) .any [72] (.mov (.tmp 72)) <|
 .nil))
 .ret)))
def T12_3 (E : List (Nat × Blk)) (D : Den) (W : DrawFn) (v0b : Nat) (v0o : Nat) (σ : H) : Ans :=
 let s1 := newB σ (.cells [(V.str (BS.mk 3 4476485))]);
 callK (D 21 [(V.ptr v0b v0o), (V.sl (H.next σ) 0 1 (.ex 1))] s1) fun u2 s3 =>
 rtBool u2 fun x4 =>
 condK (not x4) (
 some ((V.bool false), s3)) (
 callK (D 20 [(V.ptr v0b v0o), (V.int .i64 (Int.ofNat 0))] s3) fun u5 s6 =>
 rtTup u5 fun l7 =>
 rtCons l7 fun x8 l9 =>
 rtAgg x8 fun l10 =>
 rtCons l10 fun x11 l12 =>
 rtInt .i64 x11 fun x13 =>
 rtCons l12 fun x14 l15 =>
 rtStr x14 fun x16 =>
 rtCons l15 fun x17 l18 =>
 rtInt .i64 x17 fun x19 =>
 rtNil l18 (
 rtCons l9 fun x20 l21 =>
 rtBool x20 fun x22 =>
 rtNil l21 (
 some ((V.bool x22), s6))))
def C12_4 : XC := (.seq (.seq (.ops (.op (some 54) .any [0] (.mov (.tmp 0)) <|
 .op (some 55) .any [54] (.nilck (.tmp 54)) <|
 .op (some 56) .any [55] (.faddr 0 (.tmp 55)) <|
 .op (some 57) (.agg [(.int .i64), .str, (.int .i64)]) [56] (.call 23 [(.tmp 56)]) <|
 .op (some 58) (.int .i64) [57] (.field 0 none (.tmp 57)) <|
 .op (some 59) .any [58] (.bin .eql .none (.tmp 58) (.con (V.int .i64 (Int.ofNat 1)))) <|
 .nil))
 (.cond (.tmp 59) .skip
 (.exit 2)))
 (.block 3 (.seq (.ops (.op (some 60) .any [0] (.mov (.tmp 0)) <|
 .op (some 61) .bool [60] (.call 24 [(.tmp 60)]) <|
 .op (some 62) .any [61] (.un .not (.tmp 61)) <|
 .nil))
 (.cond (.tmp 62) (.seq (.ops (.op (some 2) .any [] (.mov (.con (V.bool false))) <|
 .nil))
 .ret)
 .skip))))
def T12_4 (E : List (Nat × Blk)) (D : Den) (W : DrawFn) (K3 : Nat → Nat → H → Ans) (R4 : Nat → Nat → H → Ans) (v0b : Nat) (v0o : Nat) (σ : H) : Ans :=
 callK (D 23 [(V.ptr v0b v0o)] σ) fun u1 s2 =>
 rtAgg u1 fun l3 =>
 rtCons l3 fun x4 l5 =>
 rtInt .i64 x4 fun x6 =>
 rtCons l5 fun x7 l8 =>
 rtStr x7 fun x9 =>
 rtCons l8 fun x10 l11 =>
 rtInt .i64 x10 fun x12 =>
 rtNil l11 (
 condK (eqF x6 (Int.ofNat 1)) (
 callK (D 24 [(V.ptr v0b v0o)] s2) fun u13 s14 =>
 rtBool u13 fun x15 =>
 condK (not x15) (
 some ((V.bool false), s14)) (
 R4 v0b v0o s14)) (
 K3 v0b v0o s2))
theorem P12_0 (E : List (Nat × Blk)) (D : Den) (W : DrawFn) (N : Nat) (cc1 : XC) (cc2 : XC) (v0b : Nat) (v0o : Nat) (σ : H) :
  denC E D W N (C12_0 cc1 cc2) ⟨[(0, (V.ptr v0b v0o))], [], [], σ⟩ (Fin12 E) (fun _ _ => none) (Fin12 E) =
  T12_0 E D W (fun v0b v0o v26 v27 v28 σ => iterK (fun rec s' => denC E D W N cc2 s' (fun s'' => keepS [(0, .ptr), (26, .any), (27, (.int .i64)), (28, (.int .i64))] [] [] s'' rec) (blkK 0 (fun s' => denC E D W N (.keep [(0, .ptr)] [] [] cc1) s' (Fin12 E) (fun _ _ => none) (Fin12 E)) (fun _ _ => none)) (Fin12 E)) N ⟨[(0, (V.ptr v0b v0o)), (26, v26), (27, (V.int .i64 v27)), (28, (V.int .i64 v28))], [], [], σ⟩) v0b v0o σ := by kernel_rfl
theorem P12_1 (E : List (Nat × Blk)) (D : Den) (W : DrawFn) (N : Nat) (cc3 : XC) (cc4 : XC) (v0b : Nat) (v0o : Nat) (σ : H) :
  denC E D W N (C12_1 cc3 cc4) ⟨[(0, (V.ptr v0b v0o))], [], [], σ⟩ (Fin12 E) (fun _ _ => none) (Fin12 E) =
  T12_1 E D W (fun v0b v0o σ => iterK (fun rec s' => denC E D W N cc4 s' (fun s'' => keepS [(0, .ptr)] [] [] s'' rec) (blkK 2 (fun s' => denC E D W N (.keep [(0, .ptr)] [] [] cc3) s' (Fin12 E) (fun _ _ => none) (Fin12 E)) (fun _ _ => none)) (Fin12 E)) N ⟨[(0, (V.ptr v0b v0o))], [], [], σ⟩) v0b v0o σ := by kernel_rfl
theorem P12_2 (E : List (Nat × Blk)) (D : Den) (W : DrawFn) (N : Nat) (cc1 : XC) (li2 : St → Ans) (v0b : Nat) (v0o : Nat) (v26 : V) (v27 : Int) (v28 : Int) (σ : H) :
  denC E D W N (C12_2 ) ⟨[(0, (V.ptr v0b v0o)), (26, v26), (27, (V.int .i64 v27)), (28, (V.int .i64 v28))], [], [], σ⟩ (fun s'' => keepS [(0, .ptr), (26, .any), (27, (.int .i64)), (28, (.int .i64))] [] [] s'' li2) (blkK 0 (fun s' => denC E D W N (.keep [(0, .ptr)] [] [] cc1) s' (Fin12 E) (fun _ _ => none) (Fin12 E)) (fun _ _ => none)) (Fin12 E) =
  T12_2 E D W (fun v0b v0o σ => denC E D W N cc1 ⟨[(0, (V.ptr v0b v0o))], [], [], σ⟩ (Fin12 E) (fun _ _ => none) (Fin12 E)) (fun v0b v0o v26 v27 v28 σ => li2 ⟨[(0, (V.ptr v0b v0o)), (26, v26), (27, (V.int .i64 v27)), (28, (V.int .i64 v28))], [], [], σ⟩) v0b v0o v26 v27 v28 σ := by kernel_rfl
theorem P12_3 (E : List (Nat × Blk)) (D : Den) (W : DrawFn) (N : Nat) (v0b : Nat) (v0o : Nat) (σ : H) :
  denC E D W N (C12_3 ) ⟨[(0, (V.ptr v0b v0o))], [], [], σ⟩ (Fin12 E) (fun _ _ => none) (Fin12 E) =
  T12_3 E D W  v0b v0o σ := by kernel_rfl
theorem P12_4 (E : List (Nat × Blk)) (D : Den) (W : DrawFn) (N : Nat) (cc3 : XC) (li4 : St → Ans) (v0b : Nat) (v0o : Nat) (σ : H) :
  denC E D W N (C12_4 ) ⟨[(0, (V.ptr v0b v0o))], [], [], σ⟩ (fun s'' => keepS [(0, .ptr)] [] [] s'' li4) (blkK 2 (fun s' => denC E D W N (.keep [(0, .ptr)] [] [] cc3) s' (Fin12 E) (fun _ _ => none) (Fin12 E)) (fun _ _ => none)) (Fin12 E) =
  T12_4 E D W (fun v0b v0o σ => denC E D W N cc3 ⟨[(0, (V.ptr v0b v0o))], [], [], σ⟩ (Fin12 E) (fun _ _ => none) (Fin12 E)) (fun v0b v0o σ => li4 ⟨[(0, (V.ptr v0b v0o))], [], [], σ⟩) v0b v0o σ := by kernel_rfl
def J12_3 (E : List (Nat × Blk)) (D : Den) (W : DrawFn) (N : Nat) : Nat → Nat → H → Ans := T12_3 E D W 
theorem JE12_3 (E : List (Nat × Blk)) (D : Den) (W : DrawFn) (N : Nat) (v0b : Nat) (v0o : Nat) (σ : H) :
  denC E D W N C12_3 ⟨[(0, (V.ptr v0b v0o))], [], [], σ⟩ (Fin12 E) (fun _ _ => none) (Fin12 E) = J12_3 E D W N v0b v0o σ := by
  refine (P12_3 E D W N   v0b v0o σ).trans ?_
  kernel_rfl
def L12_4 (E : List (Nat × Blk)) (D : Den) (W : DrawFn) (N : Nat) (n : Nat) : Nat → Nat → H → Ans :=
  Nat.rec (fun _ _ _ => none) (fun _ ih => T12_4 E D W (J12_3 E D W N ) ih) n
theorem LE12_4 (E : List (Nat × Blk)) (D : Den) (W : DrawFn) (N : Nat) (n : Nat) : ∀ (v0b : Nat) (v0o : Nat) (σ : H),
  iterK (fun rec s' => denC E D W N C12_4 s' (fun s'' => keepS [(0, .ptr)] [] [] s'' rec) (blkK 2 (fun s' => denC E D W N (.keep [(0, .ptr)] [] [] C12_3) s' (Fin12 E) (fun _ _ => none) (Fin12 E)) (fun _ _ => none)) (Fin12 E)) n ⟨[(0, (V.ptr v0b v0o))], [], [], σ⟩ = L12_4 E D W N n v0b v0o σ := by
  induction n with
  | zero => intro v0b v0o σ; rfl
  | succ n ihn =>
    intro v0b v0o σ
    rw [iterK_succ]
    refine (P12_4 E D W N C12_3 (iterK (fun rec s' => denC E D W N C12_4 s' (fun s'' => keepS [(0, .ptr)] [] [] s'' rec) (blkK 2 (fun s' => denC E D W N (.keep [(0, .ptr)] [] [] C12_3) s' (Fin12 E) (fun _ _ => none) (Fin12 E)) (fun _ _ => none)) (Fin12 E)) n) v0b v0o σ).trans ?_
    simp only [ihn, JE12_3]
    kernel_rfl
def J12_1 (E : List (Nat × Blk)) (D : Den) (W : DrawFn) (N : Nat) : Nat → Nat → H → Ans := T12_1 E D W (L12_4 E D W N N)
theorem JE12_1 (E : List (Nat × Blk)) (D : Den) (W : DrawFn) (N : Nat) (v0b : Nat) (v0o : Nat) (σ : H) :
  denC E D W N (C12_1 C12_3 C12_4) ⟨[(0, (V.ptr v0b v0o))], [], [], σ⟩ (Fin12 E) (fun _ _ => none) (Fin12 E) = J12_1 E D W N v0b v0o σ := by
  refine (P12_1 E D W N C12_3 C12_4  v0b v0o σ).trans ?_
  simp only [LE12_4]
  kernel_rfl
def L12_2 (E : List (Nat × Blk)) (D : Den) (W : DrawFn) (N : Nat) (n : Nat) : Nat → Nat → V → Int → Int → H → Ans :=
  Nat.rec (fun _ _ _ _ _ _ => none) (fun _ ih => T12_2 E D W (J12_1 E D W N ) ih) n
theorem LE12_2 (E : List (Nat × Blk)) (D : Den) (W : DrawFn) (N : Nat) (n : Nat) : ∀ (v0b : Nat) (v0o : Nat) (v26 : V) (v27 : Int) (v28 : Int) (σ : H),
  iterK (fun rec s' => denC E D W N C12_2 s' (fun s'' => keepS [(0, .ptr), (26, .any), (27, (.int .i64)), (28, (.int .i64))] [] [] s'' rec) (blkK 0 (fun s' => denC E D W N (.keep [(0, .ptr)] [] [] (C12_1 C12_3 C12_4)) s' (Fin12 E) (fun _ _ => none) (Fin12 E)) (fun _ _ => none)) (Fin12 E)) n ⟨[(0, (V.ptr v0b v0o)), (26, v26), (27, (V.int .i64 v27)), (28, (V.int .i64 v28))], [], [], σ⟩ = L12_2 E D W N n v0b v0o v26 v27 v28 σ := by
  induction n with
  | zero => intro v0b v0o v26 v27 v28 σ; rfl
  | succ n ihn =>
    intro v0b v0o v26 v27 v28 σ
    rw [iterK_succ]
    refine (P12_2 E D W N (C12_1 C12_3 C12_4) (iterK (fun rec s' => denC E D W N C12_2 s' (fun s'' => keepS [(0, .ptr), (26, .any), (27, (.int .i64)), (28, (.int .i64))] [] [] s'' rec) (blkK 0 (fun s' => denC E D W N (.keep [(0, .ptr)] [] [] (C12_1 C12_3 C12_4)) s' (Fin12 E) (fun _ _ => none) (Fin12 E)) (fun _ _ => none)) (Fin12 E)) n) v0b v0o v26 v27 v28 σ).trans ?_
    simp only [ihn, JE12_1]
    kernel_rfl
def J12_0 (E : List (Nat × Blk)) (D : Den) (W : DrawFn) (N : Nat) : Nat → Nat → H → Ans := T12_0 E D W (L12_2 E D W N N)
theorem JE12_0 (E : List (Nat × Blk)) (D : Den) (W : DrawFn) (N : Nat) (v0b : Nat) (v0o : Nat) (σ : H) :
  denC E D W N (C12_0 (C12_1 C12_3 C12_4) C12_2) ⟨[(0, (V.ptr v0b v0o))], [], [], σ⟩ (Fin12 E) (fun _ _ => none) (Fin12 E) = J12_0 E D W N v0b v0o σ := by
  refine (P12_0 E D W N (C12_1 C12_3 C12_4) C12_2  v0b v0o σ).trans ?_
  simp only [LE12_2]
  kernel_rfl
def F12 (E : List (Nat × Blk)) (D : Den) (W : DrawFn) (N : Nat) (args : List V) (σ : H) : Ans :=
 rtCons args fun x1 l2 =>
 rtPtr x1 fun b3 o4 =>
 rtNil l2 (
 J12_0 E D W N b3 o4 σ)
def A12 : XFn := ⟨73, [.ptr], [(.tmp 2)], (C12_0 (C12_1 C12_3 C12_4) C12_2)⟩
theorem FE12 (E : List (Nat × Blk)) (D : Den) (W : DrawFn) (N : Nat) (args : List V) (σ : H) : runX E D W N A12 args σ = F12 E D W N args σ := by
  unfold F12
  simp only [← JE12_0]
  kernel_rfl
theorem AO12 : A12.body.ok = true := by kernel_rfl

/-! ### F17: ogham_oghamhelp.Digits -/
def G17_0 : List AOper := [⟨(some 10), .mov (.tmp 0), none⟩, ⟨(some 11), .bin .quo .none (.tmp 10) (.con (V.int .u64 (Int.ofNat 10))), none⟩, ⟨(some 12), .call 17 [(.tmp 11)], none⟩, ⟨(some 13), .mov (.tmp 0), none⟩, ⟨(some 14), .bin .rem .none (.tmp 13) (.con (V.int .u64 (Int.ofNat 10))), none⟩, ⟨(some 15), .bin .add .none (.con (V.int .u64 (Int.ofNat 48))) (.tmp 14), none⟩, ⟨(some 16), .conv (.toInt .u8) (.tmp 15), none⟩, ⟨(some 17), .buildSlice 5 1 [(V.int .u8 (Int.ofNat 0))] [(0, 1, (.tmp 16))], none⟩, ⟨(some 18), .conv .toStr (.tmp 17), none⟩, ⟨(some 19), .bin .add .none (.tmp 12) (.tmp 18), none⟩, ⟨(some 2), .mov (.tmp 19), none⟩]
def H17_0 : List DP := [⟨0, [0]⟩, ⟨1, [10]⟩, ⟨3, [11]⟩, ⟨0, [0]⟩, ⟨8, [13]⟩, ⟨24, [14]⟩, ⟨56, [15]⟩, ⟨120, [16]⟩, ⟨248, [17]⟩, ⟨511, [12, 18]⟩, ⟨1023, [19]⟩]
def Fin17 (E : List (Nat × Blk)) : St → Ans := fun s => resK E s [(.tmp 2)] fun l => some (oneV l, s.σ)
def C17_0 : XC := (.seq (.ops (.op (some 2) .any [] (.mov (.con (V.str ⟨0, 0⟩))) <|
 .nil))
 (.seq (.seq (.ops (.op (some 3) .any [0] (.mov (.tmp 0)) <|
 .op (some 4) .any [3] (.bin .lss .none (.tmp 3) (.con (V.int .u64 (Int.ofNat 10)))) <|
 .nil))
 (.cond (.tmp 4) (.seq (.ops (.op (some 5) .any [0] (.mov (.tmp 0)) <|
 .op (some 6) .any [5] (.bin .add .none (.con (V.int .u64 (Int.ofNat 48))) (.tmp 5)) <|
 .op (some 7) .any [6] (.conv (.toInt .u8) (.tmp 6)) <|
 .op (some 8) .any [7] (.buildSlice 5 1 [(V.int .u8 (Int.ofNat 0))] [(0, 1, (.tmp 7))]) <|
 .op (some 9) .any [8] (.conv .toStr (.tmp 8)) <|
 .op (some 2) .any [9] (.mov (.tmp 9)) <|
 .nil))
 .ret)
 .skip))
 (.seq (.keep [(0, (.int .u64))] [] [] (.gdraw G17_0 H17_0 [(2, .str)]))
 .ret)))
def T17_0 (E : List (Nat × Blk)) (D : Den) (W : DrawFn) (v0 : Int) (σ : H) : Ans :=
 condK (ltF v0 (Int.ofNat 10)) (
 let s1 := newB σ (.cells [(V.int .u8 (wrapF .u8 (addF .u64 (Int.ofNat 48) v0)))]);
 toStrK E s1 (V.sl (H.next σ) 0 1 (.ex 1)) fun t2 =>
 some ((V.str t2), s1)) (
 gdrawK (W G17_0 H17_0 [(0, (V.int .u64 v0))] σ) fun e3 s4 =>
 getL e3 2 fun u5 =>
 rtStr u5 fun x6 =>
 some ((V.str x6), s4))
theorem P17_0 (E : List (Nat × Blk)) (D : Den) (W : DrawFn) (N : Nat) (v0 : Int) (σ : H) :
  denC E D W N (C17_0 ) ⟨[(0, (V.int .u64 v0))], [], [], σ⟩ (Fin17 E) (fun _ _ => none) (Fin17 E) =
  T17_0 E D W  v0 σ := by kernel_rfl
def J17_0 (E : List (Nat × Blk)) (D : Den) (W : DrawFn) (N : Nat) : Int → H → Ans := T17_0 E D W 
theorem JE17_0 (E : List (Nat × Blk)) (D : Den) (W : DrawFn) (N : Nat) (v0 : Int) (σ : H) :
  denC E D W N C17_0 ⟨[(0, (V.int .u64 v0))], [], [], σ⟩ (Fin17 E) (fun _ _ => none) (Fin17 E) = J17_0 E D W N v0 σ := by
  refine (P17_0 E D W N   v0 σ).trans ?_
  kernel_rfl
def F17 (E : List (Nat × Blk)) (D : Den) (W : DrawFn) (N : Nat) (args : List V) (σ : H) : Ans :=
 rtCons args fun x1 l2 =>
 rtInt .u64 x1 fun x3 =>
 rtNil l2 (
 J17_0 E D W N x3 σ)
def A17 : XFn := ⟨20, [(.int .u64)], [(.tmp 2)], C17_0⟩
theorem FE17 (E : List (Nat × Blk)) (D : Den) (W : DrawFn) (N : Nat) (args : List V) (σ : H) : runX E D W N A17 args σ = F17 E D W N args σ := by
  unfold F17
  simp only [← JE17_0]
  kernel_rfl
theorem AO17 : A17.body.ok = true := by kernel_rfl

/-! ### F18: __ogham_lex.reader_.skip -/
def Fin18 (E : List (Nat × Blk)) : St → Ans := fun s => resK E s [] fun l => some (oneV l, s.σ)
def C18_0 (cc1 : XC) : XC := (.block 0 (.loop [(0, .ptr)] [] [] cc1))
def T18_0 (E : List (Nat × Blk)) (D : Den) (W : DrawFn) (K1 : Nat → Nat → H → Ans) (v0b : Nat) (v0o : Nat) (σ : H) : Ans :=
 K1 v0b v0o σ
def C18_1 (cc2 : XC) (cc3 : XC) : XC := (.seq (.seq (.draw (.op (some 3) .any [0] (.mov (.tmp 0)) <|
 .op (some 4) .any [3] (.nilck (.tmp 3)) <|
 .op (some 5) .any [4] (.faddr 1 (.tmp 4)) <|
 .op (some 6) (.int .i64) [5] (.load none (.tmp 5)) <|
 .op (some 7) .any [0] (.mov (.tmp 0)) <|
 .op (some 8) .any [7] (.nilck (.tmp 7)) <|
 .op (some 9) .any [8] (.faddr 0 (.tmp 8)) <|
 .op (some 10) .str [9] (.load none (.tmp 9)) <|
 .op (some 11) .any [10] (.len true (.tmp 10)) <|
 .op (some 12) .any [6, 11] (.bin .lss .none (.tmp 6) (.tmp 11)) <|
 .nil) [0, 1, 3, 7, 0, 16, 48, 112, 240, 511])
 (.cond (.tmp 12) .skip
 (.exit 0)))
 (.block 1 (.seq (.ops (.op (some 13) .any [0] (.mov (.tmp 0)) <|
 .op (some 14) (.int .u8) [13] (.call 32 [(.tmp 13), (.con (V.int .i64 (Int.ofNat 0)))]) <|
 .op (some 2) .any [14] (.mov (.tmp 14)) <|
 .nil))
 (.block 2 (.seq (.ops (.op (some 16) .any [2] (.mov (.tmp 2)) <|
 .op (some 17) .any [16] (.bin .eql .none (.tmp 16) (.con (V.int .u8 (Int.ofNat 32)))) <|
 .op (some 18) .any [17] (.mov (.tmp 17)) <|
 .grp 18 false (.op (some 19) .any [2, 18] (.mov (.tmp 2)) <|
 .op (some 20) .any [19, 18] (.bin .eql .none (.tmp 19) (.con (V.int .u8 (Int.ofNat 9)))) <|
 .nil) 21 [18, 20] (.tmp 18) (.con (V.bool true)) (.tmp 20) <|
 .op (some 22) .any [21] (.mov (.tmp 21)) <|
 .grp 22 false (.op (some 23) .any [2, 22] (.mov (.tmp 2)) <|
 .op (some 24) .any [23, 22] (.bin .eql .none (.tmp 23) (.con (V.int .u8 (Int.ofNat 10)))) <|
 .nil) 25 [22, 24] (.tmp 22) (.con (V.bool true)) (.tmp 24) <|
 .op (some 26) .any [25] (.mov (.tmp 25)) <|
 .grp 26 false (.op (some 27) .any [2, 26] (.mov (.tmp 2)) <|
 .op (some 28) .any [27, 26] (.bin .eql .none (.tmp 27) (.con (V.int .u8 (Int.ofNat 13)))) <|
 .nil) 29 [26, 28] (.tmp 26) (.con (V.bool true)) (.tmp 28) <|
 .op (some 15) .any [29] (.mov (.tmp 29)) <|
 .nil))
 (.cond (.tmp 15) (.ops (.op (some 30) .any [0] (.mov (.tmp 0)) <|
 .op (some 31) .any [30] (.nilck (.tmp 30)) <|
 .op (some 32) .any [31] (.faddr 1 (.tmp 31)) <|
 .op (some 33) (.int .i64) [32] (.load none (.tmp 32)) <|
 .op (some 34) .any [33] (.bin .add .none (.tmp 33) (.con (V.int .i64 (Int.ofNat 1)))) <|
 .op (some 35) .any [30] (.nilck (.tmp 30)) <|
 .op (some 36) .any [35] (.faddr 1 (.tmp 35)) <|
 .op none .any [36, 34] (.store 1 (.tmp 36) (.tmp 34)) <|
 .nil))
 (.seq (.ops (.op (some 38) .any [0] (.mov (.tmp 0)) <|
 .op (some 39) .bool [38] (.call 33 [(.tmp 38), (.con (V.str ⟨2, 11565⟩))]) <|
 .op (some 37) .any [39] (.mov (.tmp 39)) <|
 .nil))
 (.cond (.tmp 37) (.seq (.ops (.op (some 40) .any [0] (.mov (.tmp 0)) <|
 .op (some 41) .any [40] (.nilck (.tmp 40)) <|
 .op (some 42) .any [41] (.faddr 1 (.tmp 41)) <|
 .op (some 43) (.int .i64) [42] (.load none (.tmp 42)) <|
 .op (some 44) .any [43] (.bin .add .none (.tmp 43) (.con (V.int .i64 (Int.ofNat 2)))) <|
 .op (some 45) .any [40] (.nilck (.tmp 40)) <|
 .op (some 46) .any [45] (.faddr 1 (.tmp 45)) <|
 .op none .any [46, 44] (.store 1 (.tmp 46) (.tmp 44)) <|
 .nil))
 (.seq (.block 3 (.loop [(0, .ptr)] [] [] cc3))
 (.keep [(0, .ptr)] [] [] cc2)))
 .ret))))))))
def T18_1 (E : List (Nat × Blk)) (D : Den) (W : DrawFn) (K3 : Nat → Nat → H → Ans) (R1 : Nat → Nat → H → Ans) (v0b : Nat) (v0o : Nat) (σ : H) : Ans :=
 ldK E σ v0b (Nat.add v0o 1) fun u1 =>
 rtInt .i64 u1 fun x2 =>
 ldK E σ v0b v0o fun u3 =>
 rtStr u3 fun x4 =>
 condK (ltF x2 (Int.ofNat (BS.len x4))) (
 callK (D 32 [(V.ptr v0b v0o), (V.int .i64 (Int.ofNat 0))] σ) fun u5 s6 =>
 rtInt .u8 u5 fun x7 =>
 joinB (fun c8 s9 =>
 joinB (fun c11 s12 =>
 joinB (fun c14 s15 =>
 condK c14 (
 ldK E s15 v0b (Nat.add v0o 1) fun u17 =>
 rtInt .i64 u17 fun x18 =>
 stK 1 v0b (Nat.add v0o 1) (V.int .i64 (addF .i64 x18 (Int.ofNat 1))) s15 fun s19 =>
 R1 v0b v0o s19) (
 callK (D 33 [(V.ptr v0b v0o), (V.str (BS.mk 2 11565))] s15) fun u20 s21 =>
 rtBool u20 fun x22 =>
 condK x22 (
 ldK E s21 v0b (Nat.add v0o 1) fun u23 =>
 rtInt .i64 u23 fun x24 =>
 stK 1 v0b (Nat.add v0o 1) (V.int .i64 (addF .i64 x24 (Int.ofNat 2))) s21 fun s25 =>
 K3 v0b v0o s25) (
 some ((V.tup []), s21)))) fun k16 =>
 condK c11 (
 k16 true s12) (
 k16 (eqF x7 (Int.ofNat 13)) s12)) fun k13 =>
 condK c8 (
 k13 true s9) (
 k13 (eqF x7 (Int.ofNat 10)) s9)) fun k10 =>
 condK (eqF x7 (Int.ofNat 32)) (
 k10 true s6) (
 k10 (eqF x7 (Int.ofNat 9)) s6)) (
 some ((V.tup []), σ))
def C18_2 : XC := (.seq (.ops (.op (some 74) .any [0] (.mov (.tmp 0)) <|
 .op (some 75) .bool [74] (.call 33 [(.tmp 74), (.con (V.str ⟨2, 11565⟩))]) <|
 .nil))
 (.cond (.tmp 75) (.ops (.op (some 76) .any [0] (.mov (.tmp 0)) <|
 .op (some 77) .any [76] (.nilck (.tmp 76)) <|
 .op (some 78) .any [77] (.faddr 1 (.tmp 77)) <|
 .op (some 79) (.int .i64) [78] (.load none (.tmp 78)) <|
 .op (some 80) .any [79] (.bin .add .none (.tmp 79) (.con (V.int .i64 (Int.ofNat 2)))) <|
 .op (some 81) .any [76] (.nilck (.tmp 76)) <|
 .op (some 82) .any [81] (.faddr 1 (.tmp 81)) <|
 .op none .any [82, 80] (.store 1 (.tmp 82) (.tmp 80)) <|
 .nil))
 .skip))
def T18_2 (E : List (Nat × Blk)) (D : Den) (W : DrawFn) (R1 : Nat → Nat → H → Ans) (v0b : Nat) (v0o : Nat) (σ : H) : Ans :=
 callK (D 33 [(V.ptr v0b v0o), (V.str (BS.mk 2 11565))] σ) fun u1 s2 =>
 rtBool u1 fun x3 =>
 condK x3 (
 ldK E s2 v0b (Nat.add v0o 1) fun u4 =>
 rtInt .i64 u4 fun x5 =>
 stK 1 v0b (Nat.add v0o 1) (V.int .i64 (addF .i64 x5 (Int.ofNat 2))) s2 fun s6 =>
 R1 v0b v0o s6) (
 R1 v0b v0o s2)
def C18_3 : XC := (.seq (.seq (.draw (.op (some 47) .any [0] (.mov (.tmp 0)) <|
 .op (some 48) .any [47] (.nilck (.tmp 47)) <|
 .op (some 49) .any [48] (.faddr 1 (.tmp 48)) <|
 .op (some 50) (.int .i64) [49] (.load none (.tmp 49)) <|
 .op (some 51) .any [0] (.mov (.tmp 0)) <|
 .op (some 52) .any [51] (.nilck (.tmp 51)) <|
 .op (some 53) .any [52] (.faddr 0 (.tmp 52)) <|
 .op (some 54) .str [53] (.load none (.tmp 53)) <|
 .op (some 55) .any [54] (.len true (.tmp 54)) <|
 .op (some 56) .any [50, 55] (.bin .lss .none (.tmp 50) (.tmp 55)) <|
 .op (some 57) .any [56] (.mov (.tmp 56)) <|
 .grp 57 true (.op (some 58) .any [0, 57] (.mov (.tmp 0)) <|
 .op (some 59) (.int .u8) [58, 57] (.call 32 [(.tmp 58), (.con (V.int .i64 (Int.ofNat 0)))]) <|
 .op (some 60) .any [59, 57] (.bin .neq .none (.tmp 59) (.con (V.int .u8 (Int.ofNat 10)))) <|
 .nil) 61 [57, 60] (.tmp 57) (.tmp 60) (.con (V.bool false)) <|
 .op (some 62) .any [61] (.mov (.tmp 61)) <|
 .grp 62 true (.op (some 63) .any [0, 62] (.mov (.tmp 0)) <|
 .op (some 64) .bool [63, 62] (.call 33 [(.tmp 63), (.con (V.str ⟨2, 11565⟩))]) <|
 .op (some 65) .any [64, 62] (.un .not (.tmp 64)) <|
 .nil) 66 [62, 65] (.tmp 62) (.tmp 65) (.con (V.bool false)) <|
 .nil) [0, 1, 3, 7, 0, 16, 48, 112, 240, 511, 1023, 2047, 4095, 8191, 16383, 32767, 65535, 131071, 262143, 524287])
 (.cond (.tmp 66) .skip
 (.exit 3)))
 (.block 4 (.ops (.op (some 67) .any [0] (.mov (.tmp 0)) <|
 .op (some 68) .any [67] (.nilck (.tmp 67)) <|
 .op (some 69) .any [68] (.faddr 1 (.tmp 68)) <|
 .op (some 70) (.int .i64) [69] (.load none (.tmp 69)) <|
 .op (some 71) .any [70] (.bin .add .none (.tmp 70) (.con (V.int .i64 (Int.ofNat 1)))) <|
 .op (some 72) .any [67] (.nilck (.tmp 67)) <|
 .op (some 73) .any [72] (.faddr 1 (.tmp 72)) <|
 .op none .any [73, 71] (.store 1 (.tmp 73) (.tmp 71)) <|
 .nil))))
def T18_3 (E : List (Nat × Blk)) (D : Den) (W : DrawFn) (K2 : Nat → Nat → H → Ans) (R3 : Nat → Nat → H → Ans) (v0b : Nat) (v0o : Nat) (σ : H) : Ans :=
 ldK E σ v0b (Nat.add v0o 1) fun u1 =>
 rtInt .i64 u1 fun x2 =>
 ldK E σ v0b v0o fun u3 =>
 rtStr u3 fun x4 =>
 joinB (fun c5 s6 =>
 joinB (fun c8 s9 =>
 condK c8 (
 ldK E s9 v0b (Nat.add v0o 1) fun u11 =>
 rtInt .i64 u11 fun x12 =>
 stK 1 v0b (Nat.add v0o 1) (V.int .i64 (addF .i64 x12 (Int.ofNat 1))) s9 fun s13 =>
 R3 v0b v0o s13) (
 K2 v0b v0o s9)) fun k10 =>
 condK c5 (
 callK (D 33 [(V.ptr v0b v0o), (V.str (BS.mk 2 11565))] s6) fun u14 s15 =>
 rtBool u14 fun x16 =>
 k10 (not x16) s15) (
 k10 false s6)) fun k7 =>
 condK (ltF x2 (Int.ofNat (BS.len x4))) (
 callK (D 32 [(V.ptr v0b v0o), (V.int .i64 (Int.ofNat 0))] σ) fun u17 s18 =>
 rtInt .u8 u17 fun x19 =>
 k7 (not (eqF x19 (Int.ofNat 10))) s18) (
 k7 false σ)
theorem P18_0 (E : List (Nat × Blk)) (D : Den) (W : DrawFn) (N : Nat) (cc1 : XC) (v0b : Nat) (v0o : Nat) (σ : H) :
  denC E D W N (C18_0 cc1) ⟨[(0, (V.ptr v0b v0o))], [], [], σ⟩ (Fin18 E) (fun _ _ => none) (Fin18 E) =
  T18_0 E D W (fun v0b v0o σ => iterK (fun rec s' => denC E D W N cc1 s' (fun s'' => keepS [(0, .ptr)] [] [] s'' rec) (blkK 0 (Fin18 E) (fun _ _ => none)) (Fin18 E)) N ⟨[(0, (V.ptr v0b v0o))], [], [], σ⟩) v0b v0o σ := by kernel_rfl
theorem P18_1 (E : List (Nat × Blk)) (D : Den) (W : DrawFn) (N : Nat) (cc2 : XC) (cc3 : XC) (li1 : St → Ans) (v0b : Nat) (v0o : Nat) (σ : H) :
  denC E D W N (C18_1 cc2 cc3) ⟨[(0, (V.ptr v0b v0o))], [], [], σ⟩ (fun s'' => keepS [(0, .ptr)] [] [] s'' li1) (blkK 0 (Fin18 E) (fun _ _ => none)) (Fin18 E) =
  T18_1 E D W (fun v0b v0o σ => iterK (fun rec s' => denC E D W N cc3 s' (fun s'' => keepS [(0, .ptr)] [] [] s'' rec) (blkK 3 (fun s' => denC E D W N (.keep [(0, .ptr)] [] [] cc2) s' (fun s'' => keepS [(0, .ptr)] [] [] s'' li1) (blkK 2 (fun s'' => keepS [(0, .ptr)] [] [] s'' li1) (blkK 1 (fun s'' => keepS [(0, .ptr)] [] [] s'' li1) (blkK 0 (Fin18 E) (fun _ _ => none)))) (Fin18 E)) (blkK 2 (fun s'' => keepS [(0, .ptr)] [] [] s'' li1) (blkK 1 (fun s'' => keepS [(0, .ptr)] [] [] s'' li1) (blkK 0 (Fin18 E) (fun _ _ => none))))) (Fin18 E)) N ⟨[(0, (V.ptr v0b v0o))], [], [], σ⟩) (fun v0b v0o σ => li1 ⟨[(0, (V.ptr v0b v0o))], [], [], σ⟩) v0b v0o σ := by kernel_rfl
theorem P18_2 (E : List (Nat × Blk)) (D : Den) (W : DrawFn) (N : Nat) (li1 : St → Ans) (v0b : Nat) (v0o : Nat) (σ : H) :
  denC E D W N (C18_2 ) ⟨[(0, (V.ptr v0b v0o))], [], [], σ⟩ (fun s'' => keepS [(0, .ptr)] [] [] s'' li1) (blkK 2 (fun s'' => keepS [(0, .ptr)] [] [] s'' li1) (blkK 1 (fun s'' => keepS [(0, .ptr)] [] [] s'' li1) (blkK 0 (Fin18 E) (fun _ _ => none)))) (Fin18 E) =
  T18_2 E D W (fun v0b v0o σ => li1 ⟨[(0, (V.ptr v0b v0o))], [], [], σ⟩) v0b v0o σ := by kernel_rfl
theorem P18_3 (E : List (Nat × Blk)) (D : Den) (W : DrawFn) (N : Nat) (cc2 : XC) (li1 : St → Ans) (li3 : St → Ans) (v0b : Nat) (v0o : Nat) (σ : H) :
  denC E D W N (C18_3 ) ⟨[(0, (V.ptr v0b v0o))], [], [], σ⟩ (fun s'' => keepS [(0, .ptr)] [] [] s'' li3) (blkK 3 (fun s' => denC E D W N (.keep [(0, .ptr)] [] [] cc2) s' (fun s'' => keepS [(0, .ptr)] [] [] s'' li1) (blkK 2 (fun s'' => keepS [(0, .ptr)] [] [] s'' li1) (blkK 1 (fun s'' => keepS [(0, .ptr)] [] [] s'' li1) (blkK 0 (Fin18 E) (fun _ _ => none)))) (Fin18 E)) (blkK 2 (fun s'' => keepS [(0, .ptr)] [] [] s'' li1) (blkK 1 (fun s'' => keepS [(0, .ptr)] [] [] s'' li1) (blkK 0 (Fin18 E) (fun _ _ => none))))) (Fin18 E) =
  T18_3 E D W (fun v0b v0o σ => denC E D W N cc2 ⟨[(0, (V.ptr v0b v0o))], [], [], σ⟩ (fun s'' => keepS [(0, .ptr)] [] [] s'' li1) (blkK 2 (fun s'' => keepS [(0, .ptr)] [] [] s'' li1) (blkK 1 (fun s'' => keepS [(0, .ptr)] [] [] s'' li1) (blkK 0 (Fin18 E) (fun _ _ => none)))) (Fin18 E)) (fun v0b v0o σ => li3 ⟨[(0, (V.ptr v0b v0o))], [], [], σ⟩) v0b v0o σ := by kernel_rfl
def J18_2 (E : List (Nat × Blk)) (D : Den) (W : DrawFn) (N : Nat) (R1 : Nat → Nat → H → Ans) : Nat → Nat → H → Ans := T18_2 E D W R1
theorem JE18_2 (E : List (Nat × Blk)) (D : Den) (W : DrawFn) (N : Nat) (li1 : St → Ans) (v0b : Nat) (v0o : Nat) (σ : H) :
  denC E D W N C18_2 ⟨[(0, (V.ptr v0b v0o))], [], [], σ⟩ (fun s'' => keepS [(0, .ptr)] [] [] s'' li1) (blkK 2 (fun s'' => keepS [(0, .ptr)] [] [] s'' li1) (blkK 1 (fun s'' => keepS [(0, .ptr)] [] [] s'' li1) (blkK 0 (Fin18 E) (fun _ _ => none)))) (Fin18 E) = J18_2 E D W N (fun v0b v0o σ => li1 ⟨[(0, (V.ptr v0b v0o))], [], [], σ⟩) v0b v0o σ := by
  refine (P18_2 E D W N  li1 v0b v0o σ).trans ?_
  kernel_rfl
def L18_3 (E : List (Nat × Blk)) (D : Den) (W : DrawFn) (N : Nat) (R1 : Nat → Nat → H → Ans) (n : Nat) : Nat → Nat → H → Ans :=
  Nat.rec (fun _ _ _ => none) (fun _ ih => T18_3 E D W (J18_2 E D W N R1) ih) n
theorem LE18_3 (E : List (Nat × Blk)) (D : Den) (W : DrawFn) (N : Nat) (li1 : St → Ans) (n : Nat) : ∀ (v0b : Nat) (v0o : Nat) (σ : H),
  iterK (fun rec s' => denC E D W N C18_3 s' (fun s'' => keepS [(0, .ptr)] [] [] s'' rec) (blkK 3 (fun s' => denC E D W N (.keep [(0, .ptr)] [] [] C18_2) s' (fun s'' => keepS [(0, .ptr)] [] [] s'' li1) (blkK 2 (fun s'' => keepS [(0, .ptr)] [] [] s'' li1) (blkK 1 (fun s'' => keepS [(0, .ptr)] [] [] s'' li1) (blkK 0 (Fin18 E) (fun _ _ => none)))) (Fin18 E)) (blkK 2 (fun s'' => keepS [(0, .ptr)] [] [] s'' li1) (blkK 1 (fun s'' => keepS [(0, .ptr)] [] [] s'' li1) (blkK 0 (Fin18 E) (fun _ _ => none))))) (Fin18 E)) n ⟨[(0, (V.ptr v0b v0o))], [], [], σ⟩ = L18_3 E D W N (fun v0b v0o σ => li1 ⟨[(0, (V.ptr v0b v0o))], [], [], σ⟩) n v0b v0o σ := by
  induction n with
  | zero => intro v0b v0o σ; rfl
  | succ n ihn =>
    intro v0b v0o σ
    rw [iterK_succ]
    refine (P18_3 E D W N C18_2 li1 (iterK (fun rec s' => denC E D W N C18_3 s' (fun s'' => keepS [(0, .ptr)] [] [] s'' rec) (blkK 3 (fun s' => denC E D W N (.keep [(0, .ptr)] [] [] C18_2) s' (fun s'' => keepS [(0, .ptr)] [] [] s'' li1) (blkK 2 (fun s'' => keepS [(0, .ptr)] [] [] s'' li1) (blkK 1 (fun s'' => keepS [(0, .ptr)] [] [] s'' li1) (blkK 0 (Fin18 E) (fun _ _ => none)))) (Fin18 E)) (blkK 2 (fun s'' => keepS [(0, .ptr)] [] [] s'' li1) (blkK 1 (fun s'' => keepS [(0, .ptr)] [] [] s'' li1) (blkK 0 (Fin18 E) (fun _ _ => none))))) (Fin18 E)) n) v0b v0o σ).trans ?_
    simp only [ihn, JE18_2]
    kernel_rfl
def L18_1 (E : List (Nat × Blk)) (D : Den) (W : DrawFn) (N : Nat) (n : Nat) : Nat → Nat → H → Ans :=
  Nat.rec (fun _ _ _ => none) (fun _ ih => T18_1 E D W (L18_3 E D W N ih N) ih) n
theorem LE18_1 (E : List (Nat × Blk)) (D : Den) (W : DrawFn) (N : Nat) (n : Nat) : ∀ (v0b : Nat) (v0o : Nat) (σ : H),
  iterK (fun rec s' => denC E D W N (C18_1 C18_2 C18_3) s' (fun s'' => keepS [(0, .ptr)] [] [] s'' rec) (blkK 0 (Fin18 E) (fun _ _ => none)) (Fin18 E)) n ⟨[(0, (V.ptr v0b v0o))], [], [], σ⟩ = L18_1 E D W N n v0b v0o σ := by
  induction n with
  | zero => intro v0b v0o σ; rfl
  | succ n ihn =>
    intro v0b v0o σ
    rw [iterK_succ]
    refine (P18_1 E D W N C18_2 C18_3 (iterK (fun rec s' => denC E D W N (C18_1 C18_2 C18_3) s' (fun s'' => keepS [(0, .ptr)] [] [] s'' rec) (blkK 0 (Fin18 E) (fun _ _ => none)) (Fin18 E)) n) v0b v0o σ).trans ?_
    simp only [ihn, LE18_3]
    kernel_rfl
def J18_0 (E : List (Nat × Blk)) (D : Den) (W : DrawFn) (N : Nat) : Nat → Nat → H → Ans := T18_0 E D W (L18_1 E D W N N)
theorem JE18_0 (E : List (Nat × Blk)) (D : Den) (W : DrawFn) (N : Nat) (v0b : Nat) (v0o : Nat) (σ : H) :
  denC E D W N (C18_0 (C18_1 C18_2 C18_3)) ⟨[(0, (V.ptr v0b v0o))], [], [], σ⟩ (Fin18 E) (fun _ _ => none) (Fin18 E) = J18_0 E D W N v0b v0o σ := by
  refine (P18_0 E D W N (C18_1 C18_2 C18_3)  v0b v0o σ).trans ?_
  simp only [LE18_1]
  kernel_rfl
def F18 (E : List (Nat × Blk)) (D : Den) (W : DrawFn) (N : Nat) (args : List V) (σ : H) : Ans :=
 rtCons args fun x1 l2 =>
 rtPtr x1 fun b3 o4 =>
 rtNil l2 (
 J18_0 E D W N b3 o4 σ)
def A18 : XFn := ⟨83, [.ptr], [], (C18_0 (C18_1 C18_2 C18_3))⟩
theorem FE18 (E : List (Nat × Blk)) (D : Den) (W : DrawFn) (N : Nat) (args : List V) (σ : H) : runX E D W N A18 args σ = F18 E D W N args σ := by
  unfold F18
  simp only [← JE18_0]
  kernel_rfl
theorem AO18 : A18.body.ok = true := by kernel_rfl

/-! ### F19: __ogham_lex.lexer_.token -/
def Fin19 (E : List (Nat × Blk)) : St → Ans := fun s => resK E s [(.tmp 2), (.tmp 3)] fun l => some (oneV l, s.σ)
def C19_0 : XC := (.seq (.ops (.op (some 2) .any [] (.mov (.con (V.int .i64 (Int.ofNat 0)))) <|
 .op (some 3) .any [] (.mov (.con (V.str ⟨0, 0⟩))) <|
 .nil))
 (.seq (.seq (.ops (.op (some 5) .any [0] (.mov (.tmp 0)) <|
 .op (some 6) .any [5] (.nilck (.tmp 5)) <|
 .op (some 7) .any [6] (.faddr 0 (.tmp 6)) <|
 .op (some 8) (.int .u8) [7] (.call 32 [(.tmp 7), (.con (V.int .i64 (Int.ofNat 0)))]) <|
 .op (some 4) .any [8] (.mov (.tmp 8)) <|
 .nil))
 (.block 0 (.seq (.ops (.op (some 10) .any [4] (.mov (.tmp 4)) <|
 .op (some 11) .bool [10] (.call 34 [(.tmp 10)]) <|
 .op (some 9) .any [11] (.mov (.tmp 11)) <|
 .nil))
 (.cond (.tmp 9) (.seq (.ops (.op (some 12) .any [0] (.mov (.tmp 0)) <|
 .op (some 13) (.tup [(.int .i64), .str]) [12] (.call 35 [(.tmp 12)]) <|
 .op (some 14) .any [13] (.extract 0 (.tmp 13)) <|
 .op (some 15) .any [13] (.extract 1 (.tmp 13)) <|
 .op (some 2) .any [14] (.mov (.tmp 14)) <|
 .op (some 3) .any [15] (.mov (.tmp 15)) <|
 .nil))
 .ret)
 (.seq (.ops (.op (some 17) .any [4] (.mov (.tmp 4)) <|
 .op (some 18) .bool [17] (.call 36 [(.tmp 17)]) <|
 .op (some 19) .any [18] (.mov (.tmp 18)) <|
 .grp 19 false (.op (some 20) .any [4, 19] (.mov (.tmp 4)) <|
 .op (some 21) .any [20, 19] (.bin .eql .none (.tmp 20) (.con (V.int .u8 (Int.ofNat 45)))) <|
 .op (some 22) .any [21, 19] (.mov (.tmp 21)) <|
 .grp 22 true (.op (some 23) .any [0, 22] (.mov (.tmp 0)) <|
 .op (some 24) .any [23, 22] (.nilck (.tmp 23)) <|
 .op (some 25) .any [24, 22] (.faddr 0 (.tmp 24)) <|
 .op (some 26) (.int .u8) [25, 22] (.call 32 [(.tmp 25), (.con (V.int .i64 (Int.ofNat 1)))]) <|
 .op (some 27) .bool [26, 22] (.call 36 [(.tmp 26)]) <|
 .nil) 28 [22, 27, 19] (.tmp 22) (.tmp 27) (.con (V.bool false)) <|
 .nil) 29 [19, 28] (.tmp 19) (.con (V.bool true)) (.tmp 28) <|
 .op (some 16) .any [29] (.mov (.tmp 29)) <|
 .nil))
 (.cond (.tmp 16) (.seq (.ops (.op (some 30) .any [0] (.mov (.tmp 0)) <|
 .op (some 31) (.tup [(.int .i64), .str]) [30] (.call 37 [(.tmp 30)]) <|
 .op (some 32) .any [31] (.extract 0 (.tmp 31)) <|
 .op (some 33) .any [31] (.extract 1 (.tmp 31)) <|
 .op (some 2) .any [32] (.mov (.tmp 32)) <|
 .op (some 3) .any [33] (.mov (.tmp 33)) <|
 .nil))
 .ret)
 (.seq (.ops (.op (some 35) .any [4] (.mov (.tmp 4)) <|
 .op (some 36) .any [35] (.bin .eql .none (.tmp 35) (.con (V.int .u8 (Int.ofNat 39)))) <|
 .op (some 34) .any [36] (.mov (.tmp 36)) <|
 .nil))
 (.cond (.tmp 34) (.seq (.ops (.op (some 37) .any [0] (.mov (.tmp 0)) <|
 .op (some 38) (.tup [(.int .i64), .str]) [37] (.call 38 [(.tmp 37)]) <|
 .op (some 39) .any [38] (.extract 0 (.tmp 38)) <|
 .op (some 40) .any [38] (.extract 1 (.tmp 38)) <|
 .op (some 2) .any [39] (.mov (.tmp 39)) <|
 .op (some 3) .any [40] (.mov (.tmp 40)) <|
 .nil))
 .ret)
 (.seq (.ops (.op (some 42) .any [4] (.mov (.tmp 4)) <|
 .op (some 43) .any [42] (.bin .eql .none (.tmp 42) (.con (V.int .u8 (Int.ofNat 34)))) <|
 .op (some 41) .any [43] (.mov (.tmp 43)) <|
 .nil))
 (.cond (.tmp 41) (.seq (.ops (.op (some 44) .any [0] (.mov (.tmp 0)) <|
 .op (some 45) (.tup [(.int .i64), .str]) [44] (.call 39 [(.tmp 44)]) <|
 .op (some 46) .any [45] (.extract 0 (.tmp 45)) <|
 .op (some 47) .any [45] (.extract 1 (.tmp 45)) <|
 .op (some 2) .any [46] (.mov (.tmp 46)) <|
 .op (some 3) .any [47] (.mov (.tmp 47)) <|
 .nil))
 .ret)
 .skip))))))))))
 (.seq (.ops (.op (some 48) .any [0] (.mov (.tmp 0)) <|
 .op (some 49) (.tup [(.int .i64), .str]) [48] (.call 40 [(.tmp 48)]) <|
 .op (some 50) .any [49] (.extract 0 (.tmp 49)) <|
 .op (some 51) .any [49] (.extract 1 (.tmp 49)) <|
 .op (some 2) .any [50] (.mov (.tmp 50)) <|
 .op (some 3) .any [51] (.mov (.tmp 51)) <|
 .nil))
 .ret)))
def T19_0 (E : List (Nat × Blk)) (D : Den) (W : DrawFn) (v0b : Nat) (v0o : Nat) (σ : H) : Ans :=
 callK (D 32 [(V.ptr v0b v0o), (V.int .i64 (Int.ofNat 0))] σ) fun u1 s2 =>
 rtInt .u8 u1 fun x3 =>
 callK (D 34 [(V.int .u8 x3)] s2) fun u4 s5 =>
 rtBool u4 fun x6 =>
 condK x6 (
 callK (D 35 [(V.ptr v0b v0o)] s5) fun u7 s8 =>
 rtTup u7 fun l9 =>
 rtCons l9 fun x10 l11 =>
 rtInt .i64 x10 fun x12 =>
 rtCons l11 fun x13 l14 =>
 rtStr x13 fun x15 =>
 rtNil l14 (
 some ((V.tup [(V.int .i64 x12), (V.str x15)]), s8))) (
 callK (D 36 [(V.int .u8 x3)] s5) fun u16 s17 =>
 rtBool u16 fun x18 =>
 joinB (fun c19 s20 =>
 condK c19 (
 callK (D 37 [(V.ptr v0b v0o)] s20) fun u22 s23 =>
 rtTup u22 fun l24 =>
 rtCons l24 fun x25 l26 =>
 rtInt .i64 x25 fun x27 =>
 rtCons l26 fun x28 l29 =>
 rtStr x28 fun x30 =>
 rtNil l29 (
 some ((V.tup [(V.int .i64 x27), (V.str x30)]), s23))) (
 condK (eqF x3 (Int.ofNat 39)) (
 callK (D 38 [(V.ptr v0b v0o)] s20) fun u31 s32 =>
 rtTup u31 fun l33 =>
 rtCons l33 fun x34 l35 =>
 rtInt .i64 x34 fun x36 =>
 rtCons l35 fun x37 l38 =>
 rtStr x37 fun x39 =>
 rtNil l38 (
 some ((V.tup [(V.int .i64 x36), (V.str x39)]), s32))) (
 condK (eqF x3 (Int.ofNat 34)) (
 callK (D 39 [(V.ptr v0b v0o)] s20) fun u40 s41 =>
 rtTup u40 fun l42 =>
 rtCons l42 fun x43 l44 =>
 rtInt .i64 x43 fun x45 =>
 rtCons l44 fun x46 l47 =>
 rtStr x46 fun x48 =>
 rtNil l47 (
 some ((V.tup [(V.int .i64 x45), (V.str x48)]), s41))) (
 callK (D 40 [(V.ptr v0b v0o)] s20) fun u49 s50 =>
 rtTup u49 fun l51 =>
 rtCons l51 fun x52 l53 =>
 rtInt .i64 x52 fun x54 =>
 rtCons l53 fun x55 l56 =>
 rtStr x55 fun x57 =>
 rtNil l56 (
 some ((V.tup [(V.int .i64 x54), (V.str x57)]), s50)))))) fun k21 =>
 condK x18 (
 k21 true s17) (
 joinB (fun c58 s59 =>
 k21 c58 s59) fun k60 =>
 condK (eqF x3 (Int.ofNat 45)) (
 callK (D 32 [(V.ptr v0b v0o), (V.int .i64 (Int.ofNat 1))] s17) fun u61 s62 =>
 rtInt .u8 u61 fun x63 =>
 callK (D 36 [(V.int .u8 x63)] s62) fun u64 s65 =>
 rtBool u64 fun x66 =>
 k60 x66 s65) (
 k60 false s17)))
theorem P19_0 (E : List (Nat × Blk)) (D : Den) (W : DrawFn) (N : Nat) (v0b : Nat) (v0o : Nat) (σ : H) :
  denC E D W N (C19_0 ) ⟨[(0, (V.ptr v0b v0o))], [], [], σ⟩ (Fin19 E) (fun _ _ => none) (Fin19 E) =
  T19_0 E D W  v0b v0o σ := by kernel_rfl
def J19_0 (E : List (Nat × Blk)) (D : Den) (W : DrawFn) (N : Nat) : Nat → Nat → H → Ans := T19_0 E D W 
theorem JE19_0 (E : List (Nat × Blk)) (D : Den) (W : DrawFn) (N : Nat) (v0b : Nat) (v0o : Nat) (σ : H) :
  denC E D W N C19_0 ⟨[(0, (V.ptr v0b v0o))], [], [], σ⟩ (Fin19 E) (fun _ _ => none) (Fin19 E) = J19_0 E D W N v0b v0o σ := by
  refine (P19_0 E D W N   v0b v0o σ).trans ?_
  kernel_rfl
def F19 (E : List (Nat × Blk)) (D : Den) (W : DrawFn) (N : Nat) (args : List V) (σ : H) : Ans :=
 rtCons args fun x1 l2 =>
 rtPtr x1 fun b3 o4 =>
 rtNil l2 (
 J19_0 E D W N b3 o4 σ)
def A19 : XFn := ⟨52, [.ptr], [(.tmp 2), (.tmp 3)], C19_0⟩
theorem FE19 (E : List (Nat × Blk)) (D : Den) (W : DrawFn) (N : Nat) (args : List V) (σ : H) : runX E D W N A19 args σ = F19 E D W N args σ := by
  unfold F19
  simp only [← JE19_0]
  kernel_rfl
theorem AO19 : A19.body.ok = true := by kernel_rfl

/-! ### F20: __ogham_syntax.parser_.of -/
def G20_0 : List AOper := [⟨(some 15), .load (some 3) (.tmp 6), none⟩, ⟨(some 16), .mov (.tmp 0), none⟩, ⟨(some 17), .faddr 2 (.tmp 6), none⟩, ⟨(some 18), .load none (.tmp 17), none⟩, ⟨(some 19), .call 41 [(.tmp 16), (.tmp 18), (.con (V.int .i64 (Int.ofNat 7)))], none⟩, ⟨none, .store 3 (.tmp 4) (.tmp 15), none⟩, ⟨(some 5), .mov (.tmp 19), none⟩]
def H20_0 : List DP := [⟨0, [6]⟩, ⟨0, [0]⟩, ⟨0, [6]⟩, ⟨4, [17]⟩, ⟨14, [16, 18]⟩, ⟨31, [4, 15]⟩, ⟨63, [19]⟩]
def Fin20 (E : List (Nat × Blk)) : St → Ans := fun s => resK E s [(.cell 4 (some 3)), (.tmp 5)] fun l => some (oneV l, s.σ)
def C20_0 : XC := (.seq (.ops (.op (some 4) .any [] (.alloc 75 [(V.int .i64 (Int.ofNat 0)), (V.str ⟨0, 0⟩), (V.int .i64 (Int.ofNat 0))]) <|
 .op (some 5) .any [] (.mov (.con (V.bool false))) <|
 .nil))
 (.seq (.ops (.op (some 7) .any [0] (.mov (.tmp 0)) <|
 .op (some 8) .any [7] (.nilck (.tmp 7)) <|
 .op (some 9) .any [8] (.faddr 0 (.tmp 8)) <|
 .op (some 10) (.agg [(.int .i64), .str, (.int .i64)]) [9] (.call 23 [(.tmp 9)]) <|
 .op (some 6) .any [] (.alloc 75 [(V.int .i64 (Int.ofNat 0)), (V.str ⟨0, 0⟩), (V.int .i64 (Int.ofNat 0))]) <|
 .op none (.agg [(.int .i64), .str, (.int .i64)]) [6, 10] (.store 3 (.tmp 6) (.tmp 10)) <|
 .nil))
 (.seq (.seq (.ops (.op (some 11) .any [6] (.faddr 0 (.tmp 6)) <|
 .op (some 12) (.int .i64) [11] (.load none (.tmp 11)) <|
 .op (some 13) .any [1] (.mov (.tmp 1)) <|
 .op (some 14) .any [12, 13] (.bin .neq .none (.tmp 12) (.tmp 13)) <|
 .nil))
 (.cond (.tmp 14) (.seq (.keep [(0, .ptr), (4, .ptr), (6, .ptr)] [] [] (.gdraw G20_0 H20_0 [(4, .ptr), (5, .bool)]))
 .ret)
 .skip))
 (.seq (.ops (.op (some 20) .any [0] (.mov (.tmp 0)) <|
 .op (some 21) .any [20] (.nilck (.tmp 20)) <|
 .op (some 22) .any [21] (.faddr 0 (.tmp 21)) <|
 .op (some 23) (.agg [(.int .i64), .str, (.int .i64)]) [22] (.call 42 [(.tmp 22)]) <|
 .op none (.agg [(.int .i64), .str, (.int .i64)]) [4, 23] (.store 3 (.tmp 4) (.tmp 23)) <|
 .op (some 5) .any [] (.mov (.con (V.bool true))) <|
 .nil))
 .ret))))
def T20_0 (E : List (Nat × Blk)) (D : Den) (W : DrawFn) (v0b : Nat) (v0o : Nat) (v1 : Int) (σ : H) : Ans :=
 let s1 := newB σ (.cells [(V.int .i64 (Int.ofNat 0)), (V.str ⟨0, 0⟩), (V.int .i64 (Int.ofNat 0))]);
 callK (D 23 [(V.ptr v0b v0o)] s1) fun u2 s3 =>
 rtAgg u2 fun l4 =>
 rtCons l4 fun x5 l6 =>
 rtInt .i64 x5 fun x7 =>
 rtCons l6 fun x8 l9 =>
 rtStr x8 fun x10 =>
 rtCons l9 fun x11 l12 =>
 rtInt .i64 x11 fun x13 =>
 rtNil l12 (
 let s14 := newB s3 (.cells [(V.int .i64 (Int.ofNat 0)), (V.str ⟨0, 0⟩), (V.int .i64 (Int.ofNat 0))]);
 stK 3 (H.next s3) 0 (V.agg [(V.int .i64 x7), (V.str x10), (V.int .i64 x13)]) s14 fun s15 =>
 ldK E s15 (H.next s3) 0 fun u16 =>
 rtInt .i64 u16 fun x17 =>
 condK (not (eqF x17 v1)) (
 gdrawK (W G20_0 H20_0 [(0, (V.ptr v0b v0o)), (4, (V.ptr (H.next σ) 0)), (6, (V.ptr (H.next s3) 0))] s15) fun e18 s19 =>
 getL e18 4 fun u20 =>
 rtPtr u20 fun b21 o22 =>
 getL e18 5 fun u23 =>
 rtBool u23 fun x24 =>
 ldnK E s19 b21 o22 3 fun u25 =>
 some ((V.tup [(V.agg u25), (V.bool x24)]), s19)) (
 callK (D 42 [(V.ptr v0b v0o)] s15) fun u26 s27 =>
 rtAgg u26 fun l28 =>
 rtCons l28 fun x29 l30 =>
 rtInt .i64 x29 fun x31 =>
 rtCons l30 fun x32 l33 =>
 rtStr x32 fun x34 =>
 rtCons l33 fun x35 l36 =>
 rtInt .i64 x35 fun x37 =>
 rtNil l36 (
 stK 3 (H.next σ) 0 (V.agg [(V.int .i64 x31), (V.str x34), (V.int .i64 x37)]) s27 fun s38 =>
 ldnK E s38 (H.next σ) 0 3 fun u39 =>
 some ((V.tup [(V.agg u39), (V.bool true)]), s38))))
theorem P20_0 (E : List (Nat × Blk)) (D : Den) (W : DrawFn) (N : Nat) (v0b : Nat) (v0o : Nat) (v1 : Int) (σ : H) :
  denC E D W N (C20_0 ) ⟨[(0, (V.ptr v0b v0o)), (1, (V.int .i64 v1))], [], [], σ⟩ (Fin20 E) (fun _ _ => none) (Fin20 E) =
  T20_0 E D W  v0b v0o v1 σ := by kernel_rfl
def J20_0 (E : List (Nat × Blk)) (D : Den) (W : DrawFn) (N : Nat) : Nat → Nat → Int → H → Ans := T20_0 E D W 
theorem JE20_0 (E : List (Nat × Blk)) (D : Den) (W : DrawFn) (N : Nat) (v0b : Nat) (v0o : Nat) (v1 : Int) (σ : H) :
  denC E D W N C20_0 ⟨[(0, (V.ptr v0b v0o)), (1, (V.int .i64 v1))], [], [], σ⟩ (Fin20 E) (fun _ _ => none) (Fin20 E) = J20_0 E D W N v0b v0o v1 σ := by
  refine (P20_0 E D W N   v0b v0o v1 σ).trans ?_
  kernel_rfl
def F20 (E : List (Nat × Blk)) (D : Den) (W : DrawFn) (N : Nat) (args : List V) (σ : H) : Ans :=
 rtCons args fun x1 l2 =>
 rtPtr x1 fun b3 o4 =>
 rtCons l2 fun x5 l6 =>
 rtInt .i64 x5 fun x7 =>
 rtNil l6 (
 J20_0 E D W N b3 o4 x7 σ)
def A20 : XFn := ⟨24, [.ptr, (.int .i64)], [(.cell 4 (some 3)), (.tmp 5)], C20_0⟩
theorem FE20 (E : List (Nat × Blk)) (D : Den) (W : DrawFn) (N : Nat) (args : List V) (σ : H) : runX E D W N A20 args σ = F20 E D W N args σ := by
  unfold F20
  simp only [← JE20_0]
  kernel_rfl
theorem AO20 : A20.body.ok = true := by kernel_rfl

/-! ### F21: __ogham_syntax.parser_.want -/
def Fin21 (E : List (Nat × Blk)) : St → Ans := fun s => resK E s [(.tmp 4)] fun l => some (oneV l, s.σ)
def C21_0 (cc1 : XC) (cc2 : XC) : XC := (.seq (.ops (.op (some 4) .any [] (.mov (.con (V.bool false))) <|
 .nil))
 (.seq (.seq (.ops (.op (some 7) .any [1] (.mov (.tmp 1)) <|
 .op (some 8) .any [7] (.len false (.tmp 7)) <|
 .op (some 9) .any [] (.mov (.con (V.int .i64 (Int.ofNat 0)))) <|
 .nil))
 (.block 0 (.loop [(0, .ptr), (7, .any), (8, (.int .i64)), (9, (.int .i64))] [] [] cc2)))
 (.keep [] [] [] cc1)))
def T21_0 (E : List (Nat × Blk)) (D : Den) (W : DrawFn) (K2 : Nat → Nat → V → Int → Int → H → Ans) (v0b : Nat) (v0o : Nat) (v1 : V) (σ : H) : Ans :=
 slenK v1 fun n1 =>
 K2 v0b v0o v1 (Int.ofNat n1) (Int.ofNat 0) σ
def C21_1 : XC := (.seq (.ops (.op (some 4) .any [] (.mov (.con (V.bool true))) <|
 .nil))
 .ret)
def T21_1 (E : List (Nat × Blk)) (D : Den) (W : DrawFn) (σ : H) : Ans :=
 some ((V.bool true), σ)
def C21_2 : XC := (.seq (.ops (.op (some 10) .any [9, 8] (.bin .lss .none (.tmp 9) (.tmp 8)) <|
 .nil))
 (.seq (.cond (.tmp 10) .skip
 (.exit 0))
 (.seq (.block 1 (.seq (.ops (.op (some 11) .any [7, 9] (.iaddrS 1 (.tmp 7) (.tmp 9)) <|
 .op (some 12) .str [11] (.load none (.tmp 11)) <|
 .op (some 6) .any [12] (.mov (.tmp 12)) <|
 .nil))
 (.seq (.ops (.op (some 13) .any [0] (.mov (.tmp 0)) <|
 .op (some 14) .any [13] (.nilck (.tmp 13)) <|
 .op (some 15) .any [14] (.faddr 0 (.tmp 14)) <|
 .op (some 16) .any [6] (.mov (.tmp 6)) <|
 .op (some 17) .bool [15, 16] (.call 43 [(.tmp 15), (.tmp 16)]) <|
 .op (some 18) .any [17] (.un .not (.tmp 17)) <|
 .nil))
 (.cond (.tmp 18) (.seq (.ops (.op (some 19) .any [0] (.mov (.tmp 0)) <|
 .op (some 20) .any [0] (.mov (.tmp 0)) <|
 .op (some 21) .any [20] (.nilck (.tmp 20)) <|
 .op (some 22) .any [21] (.faddr 0 (.tmp 21)) <|
 .op (some 23) (.agg [(.int .i64), .str, (.int .i64)]) [22] (.call 23 [(.tmp 22)]) <|
 .op (some 24) (.int .i64) [23] (.field 2 none (.tmp 23)) <|
 .op (some 25) .bool [19, 24] (.call 41 [(.tmp 19), (.tmp 24), (.con (V.int .i64 (Int.ofNat 7)))]) <|
 .op (some 4) .any [25] (.mov (.tmp 25)) <|
 .nil))
 .ret)
 .skip))))
 (.ops (.op (some 26) .any [9] (.bin .add .none (.tmp 9) (.con (V.int .i64 (Int.ofNat 1)))) <|
 .op (some 9) .any [26] (.mov (.tmp 26)) <|
 .nil)))))
def T21_2 (E : List (Nat × Blk)) (D : Den) (W : DrawFn) (K1 : H → Ans) (R2 : Nat → Nat → V → Int → Int → H → Ans) (v0b : Nat) (v0o : Nat) (v7 : V) (v8 : Int) (v9 : Int) (σ : H) : Ans :=
 condK (ltF v9 v8) (
 iaddrSK 1 v7 v9 fun b1 o2 =>
 ldK E σ b1 o2 fun u3 =>
 rtStr u3 fun x4 =>
 callK (D 43 [(V.ptr v0b v0o), (V.str x4)] σ) fun u5 s6 =>
 rtBool u5 fun x7 =>
 condK (not x7) (
 callK (D 23 [(V.ptr v0b v0o)] s6) fun u8 s9 =>
 rtAgg u8 fun l10 =>
 rtCons l10 fun x11 l12 =>
 rtInt .i64 x11 fun x13 =>
 rtCons l12 fun x14 l15 =>
 rtStr x14 fun x16 =>
 rtCons l15 fun x17 l18 =>
 rtInt .i64 x17 fun x19 =>
 rtNil l18 (
 callK (D 41 [(V.ptr v0b v0o), (V.int .i64 x19), (V.int .i64 (Int.ofNat 7))] s9) fun u20 s21 =>
 rtBool u20 fun x22 =>
 some ((V.bool x22), s21))) (
 R2 v0b v0o v7 v8 (addF .i64 v9 (Int.ofNat 1)) s6)) (
 K1 σ)
theorem P21_0 (E : List (Nat × Blk)) (D : Den) (W : DrawFn) (N : Nat) (cc1 : XC) (cc2 : XC) (v0b : Nat) (v0o : Nat) (v1 : V) (σ : H) :
  denC E D W N (C21_0 cc1 cc2) ⟨[(0, (V.ptr v0b v0o)), (1, v1)], [], [], σ⟩ (Fin21 E) (fun _ _ => none) (Fin21 E) =
  T21_0 E D W (fun v0b v0o v7 v8 v9 σ => iterK (fun rec s' => denC E D W N cc2 s' (fun s'' => keepS [(0, .ptr), (7, .any), (8, (.int .i64)), (9, (.int .i64))] [] [] s'' rec) (blkK 0 (fun s' => denC E D W N (.keep [] [] [] cc1) s' (Fin21 E) (fun _ _ => none) (Fin21 E)) (fun _ _ => none)) (Fin21 E)) N ⟨[(0, (V.ptr v0b v0o)), (7, v7), (8, (V.int .i64 v8)), (9, (V.int .i64 v9))], [], [], σ⟩) v0b v0o v1 σ := by kernel_rfl
theorem P21_1 (E : List (Nat × Blk)) (D : Den) (W : DrawFn) (N : Nat) (σ : H) :
  denC E D W N (C21_1 ) ⟨[], [], [], σ⟩ (Fin21 E) (fun _ _ => none) (Fin21 E) =
  T21_1 E D W   σ := by kernel_rfl
theorem P21_2 (E : List (Nat × Blk)) (D : Den) (W : DrawFn) (N : Nat) (cc1 : XC) (li2 : St → Ans) (v0b : Nat) (v0o : Nat) (v7 : V) (v8 : Int) (v9 : Int) (σ : H) :
  denC E D W N (C21_2 ) ⟨[(0, (V.ptr v0b v0o)), (7, v7), (8, (V.int .i64 v8)), (9, (V.int .i64 v9))], [], [], σ⟩ (fun s'' => keepS [(0, .ptr), (7, .any), (8, (.int .i64)), (9, (.int .i64))] [] [] s'' li2) (blkK 0 (fun s' => denC E D W N (.keep [] [] [] cc1) s' (Fin21 E) (fun _ _ => none) (Fin21 E)) (fun _ _ => none)) (Fin21 E) =
  T21_2 E D W (fun  σ => denC E D W N cc1 ⟨[], [], [], σ⟩ (Fin21 E) (fun _ _ => none) (Fin21 E)) (fun v0b v0o v7 v8 v9 σ => li2 ⟨[(0, (V.ptr v0b v0o)), (7, v7), (8, (V.int .i64 v8)), (9, (V.int .i64 v9))], [], [], σ⟩) v0b v0o v7 v8 v9 σ := by kernel_rfl
def J21_1 (E : List (Nat × Blk)) (D : Den) (W : DrawFn) (N : Nat) : H → Ans := T21_1 E D W 
theorem JE21_1 (E : List (Nat × Blk)) (D : Den) (W : DrawFn) (N : Nat) (σ : H) :
  denC E D W N C21_1 ⟨[], [], [], σ⟩ (Fin21 E) (fun _ _ => none) (Fin21 E) = J21_1 E D W N  σ := by
  refine (P21_1 E D W N    σ).trans ?_
  kernel_rfl
def L21_2 (E : List (Nat × Blk)) (D : Den) (W : DrawFn) (N : Nat) (n : Nat) : Nat → Nat → V → Int → Int → H → Ans :=
  Nat.rec (fun _ _ _ _ _ _ => none) (fun _ ih => T21_2 E D W (J21_1 E D W N ) ih) n
theorem LE21_2 (E : List (Nat × Blk)) (D : Den) (W : DrawFn) (N : Nat) (n : Nat) : ∀ (v0b : Nat) (v0o : Nat) (v7 : V) (v8 : Int) (v9 : Int) (σ : H),
  iterK (fun rec s' => denC E D W N C21_2 s' (fun s'' => keepS [(0, .ptr), (7, .any), (8, (.int .i64)), (9, (.int .i64))] [] [] s'' rec) (blkK 0 (fun s' => denC E D W N (.keep [] [] [] C21_1) s' (Fin21 E) (fun _ _ => none) (Fin21 E)) (fun _ _ => none)) (Fin21 E)) n ⟨[(0, (V.ptr v0b v0o)), (7, v7), (8, (V.int .i64 v8)), (9, (V.int .i64 v9))], [], [], σ⟩ = L21_2 E D W N n v0b v0o v7 v8 v9 σ := by
  induction n with
  | zero => intro v0b v0o v7 v8 v9 σ; rfl
  | succ n ihn =>
    intro v0b v0o v7 v8 v9 σ
    rw [iterK_succ]
    refine (P21_2 E D W N C21_1 (iterK (fun rec s' => denC E D W N C21_2 s' (fun s'' => keepS [(0, .ptr), (7, .any), (8, (.int .i64)), (9, (.int .i64))] [] [] s'' rec) (blkK 0 (fun s' => denC E D W N (.keep [] [] [] C21_1) s' (Fin21 E) (fun _ _ => none) (Fin21 E)) (fun _ _ => none)) (Fin21 E)) n) v0b v0o v7 v8 v9 σ).trans ?_
    simp only [ihn, JE21_1]
    kernel_rfl
def J21_0 (E : List (Nat × Blk)) (D : Den) (W : DrawFn) (N : Nat) : Nat → Nat → V → H → Ans := T21_0 E D W (L21_2 E D W N N)
theorem JE21_0 (E : List (Nat × Blk)) (D : Den) (W : DrawFn) (N : Nat) (v0b : Nat) (v0o : Nat) (v1 : V) (σ : H) :
  denC E D W N (C21_0 C21_1 C21_2) ⟨[(0, (V.ptr v0b v0o)), (1, v1)], [], [], σ⟩ (Fin21 E) (fun _ _ => none) (Fin21 E) = J21_0 E D W N v0b v0o v1 σ := by
  refine (P21_0 E D W N C21_1 C21_2  v0b v0o v1 σ).trans ?_
  simp only [LE21_2]
  kernel_rfl
def F21 (E : List (Nat × Blk)) (D : Den) (W : DrawFn) (N : Nat) (args : List V) (σ : H) : Ans :=
 rtCons args fun x1 l2 =>
 rtPtr x1 fun b3 o4 =>
 rtCons l2 fun x5 l6 =>
 rtNil l6 (
 J21_0 E D W N b3 o4 x5 σ)
def A21 : XFn := ⟨27, [.ptr, .any], [(.tmp 4)], (C21_0 C21_1 C21_2)⟩
theorem FE21 (E : List (Nat × Blk)) (D : Den) (W : DrawFn) (N : Nat) (args : List V) (σ : H) : runX E D W N A21 args σ = F21 E D W N args σ := by
  unfold F21
  simp only [← JE21_0]
  kernel_rfl
theorem AO21 : A21.body.ok = true := by kernel_rfl

/-! ### F22: __ogham_syntax.stream_.stands -/
def Fin22 (E : List (Nat × Blk)) : St → Ans := fun s => resK E s [(.tmp 4)] fun l => some (oneV l, s.σ)
def C22_0 : XC := (.seq (.ops (.op (some 4) .any [] (.mov (.con (V.bool false))) <|
 .nil))
 (.seq (.ops (.op (some 6) .any [0] (.mov (.tmp 0)) <|
 .op (some 7) (.agg [(.int .i64), .str, (.int .i64)]) [6] (.call 23 [(.tmp 6)]) <|
 .pal 5 [] 75 [(V.int .i64 (Int.ofNat 0)), (V.str ⟨0, 0⟩), (V.int .i64 (Int.ofNat 0))] <|
 .op none (.agg [(.int .i64), .str, (.int .i64)]) [5, 7] (.store 3 (.tmp 5) (.tmp 7)) <|
 .nil))
 (.seq (.ops (.op (some 8) .any [5] (.faddr 0 (.tmp 5)) <|
 .op (some 9) (.int .i64) [8] (.load none (.tmp 8)) <|
 .op (some 10) .any [9] (.bin .eql .none (.tmp 9) (.con (V.int .i64 (Int.ofNat 5)))) <|
 .op (some 11) .any [10] (.mov (.tmp 10)) <|
 .grp 11 false (.op (some 12) .any [5, 11] (.faddr 0 (.tmp 5)) <|
 .op (some 13) (.int .i64) [12, 11] (.load none (.tmp 12)) <|
 .op (some 14) .any [13, 11] (.bin .eql .none (.tmp 13) (.con (V.int .i64 (Int.ofNat 6)))) <|
 .nil) 15 [11, 14] (.tmp 11) (.con (V.bool true)) (.tmp 14) <|
 .op (some 16) .any [15] (.mov (.tmp 15)) <|
 .grp 16 true (.op (some 17) .any [5, 16] (.faddr 1 (.tmp 5)) <|
 .op (some 18) .str [17, 16] (.load none (.tmp 17)) <|
 .op (some 19) .any [1, 16] (.mov (.tmp 1)) <|
 .op (some 20) .any [18, 19, 16] (.bin .eql .none (.tmp 18) (.tmp 19)) <|
 .nil) 21 [16, 20] (.tmp 16) (.tmp 20) (.con (V.bool false)) <|
 .op (some 4) .any [21] (.mov (.tmp 21)) <|
 .nil))
 .ret)))
def T22_0 (E : List (Nat × Blk)) (D : Den) (W : DrawFn) (v0 : V) (v1 : BS) (σ : H) : Ans :=
 callK (D 23 [v0] σ) fun u1 s2 =>
 rtAgg u1 fun l3 =>
 rtCons l3 fun x4 l5 =>
 rtInt .i64 x4 fun x6 =>
 rtCons l5 fun x7 l8 =>
 rtStr x7 fun x9 =>
 rtCons l8 fun x10 l11 =>
 rtInt .i64 x10 fun x12 =>
 rtNil l11 (
 joinB (fun c13 s14 =>
 joinB (fun c16 s17 =>
 some ((V.bool c16), s17)) fun k18 =>
 condK c13 (
 k18 (BS.beq x9 v1) s14) (
 k18 false s14)) fun k15 =>
 condK (eqF x6 (Int.ofNat 5)) (
 k15 true s2) (
 k15 (eqF x6 (Int.ofNat 6)) s2))
theorem P22_0 (E : List (Nat × Blk)) (D : Den) (W : DrawFn) (N : Nat) (v0 : V) (v1 : BS) (σ : H) :
  denC E D W N (C22_0 ) ⟨[(0, v0), (1, (V.str v1))], [], [], σ⟩ (Fin22 E) (fun _ _ => none) (Fin22 E) =
  T22_0 E D W  v0 v1 σ := by kernel_rfl
def J22_0 (E : List (Nat × Blk)) (D : Den) (W : DrawFn) (N : Nat) : V → BS → H → Ans := T22_0 E D W 
theorem JE22_0 (E : List (Nat × Blk)) (D : Den) (W : DrawFn) (N : Nat) (v0 : V) (v1 : BS) (σ : H) :
  denC E D W N C22_0 ⟨[(0, v0), (1, (V.str v1))], [], [], σ⟩ (Fin22 E) (fun _ _ => none) (Fin22 E) = J22_0 E D W N v0 v1 σ := by
  refine (P22_0 E D W N   v0 v1 σ).trans ?_
  kernel_rfl
def F22 (E : List (Nat × Blk)) (D : Den) (W : DrawFn) (N : Nat) (args : List V) (σ : H) : Ans :=
 rtCons args fun x1 l2 =>
 rtCons l2 fun x3 l4 =>
 rtStr x3 fun x5 =>
 rtNil l4 (
 J22_0 E D W N x1 x5 σ)
def A22 : XFn := ⟨22, [.any, .str], [(.tmp 4)], C22_0⟩
theorem FE22 (E : List (Nat × Blk)) (D : Den) (W : DrawFn) (N : Nat) (args : List V) (σ : H) : runX E D W N A22 args σ = F22 E D W N args σ := by
  unfold F22
  simp only [← JE22_0]
  kernel_rfl
theorem AO22 : A22.body.ok = true := by kernel_rfl

/-! ### F23: __ogham_syntax.stream_.peek -/
def Fin23 (E : List (Nat × Blk)) : St → Ans := fun s => resK E s [(.cell 2 (some 3))] fun l => some (oneV l, s.σ)
def C23_0 : XC := (.seq (.ops (.pal 2 [] 75 [(V.int .i64 (Int.ofNat 0)), (V.str ⟨0, 0⟩), (V.int .i64 (Int.ofNat 0))] <|
 .nil))
 (.seq (.draw (.op (some 3) .any [0] (.mov (.tmp 0)) <|
 .op (some 4) .any [3] (.nilck (.tmp 3)) <|
 .op (some 5) .any [4] (.faddr 0 (.tmp 4)) <|
 .op (some 6) .any [5] (.load none (.tmp 5)) <|
 .op (some 7) .any [0] (.mov (.tmp 0)) <|
 .op (some 8) .any [7] (.nilck (.tmp 7)) <|
 .op (some 9) .any [8] (.faddr 1 (.tmp 8)) <|
 .op (some 10) (.int .i64) [9] (.load none (.tmp 9)) <|
 .op (some 11) .any [6, 10] (.iaddrS 3 (.tmp 6) (.tmp 10)) <|
 .op (some 12) (.agg [(.int .i64), .str, (.int .i64)]) [11] (.load (some 3) (.tmp 11)) <|
 .op none (.agg [(.int .i64), .str, (.int .i64)]) [2, 12] (.store 3 (.tmp 2) (.tmp 12)) <|
 .nil) [0, 1, 3, 7, 0, 16, 48, 112, 255, 511, 1023])
 .ret))
def T23_0 (E : List (Nat × Blk)) (D : Den) (W : DrawFn) (v0b : Nat) (v0o : Nat) (σ : H) : Ans :=
 ldK E σ v0b v0o fun u1 =>
 ldK E σ v0b (Nat.add v0o 1) fun u2 =>
 rtInt .i64 u2 fun x3 =>
 iaddrSK 3 u1 x3 fun b4 o5 =>
 ldnK E σ b4 o5 3 fun l6 =>
 rtCons l6 fun x7 l8 =>
 rtInt .i64 x7 fun x9 =>
 rtCons l8 fun x10 l11 =>
 rtStr x10 fun x12 =>
 rtCons l11 fun x13 l14 =>
 rtInt .i64 x13 fun x15 =>
 rtNil l14 (
 some ((V.agg [(V.int .i64 x9), (V.str x12), (V.int .i64 x15)]), σ))
theorem P23_0 (E : List (Nat × Blk)) (D : Den) (W : DrawFn) (N : Nat) (v0b : Nat) (v0o : Nat) (σ : H) :
  denC E D W N (C23_0 ) ⟨[(0, (V.ptr v0b v0o))], [], [], σ⟩ (Fin23 E) (fun _ _ => none) (Fin23 E) =
  T23_0 E D W  v0b v0o σ := by kernel_rfl
def J23_0 (E : List (Nat × Blk)) (D : Den) (W : DrawFn) (N : Nat) : Nat → Nat → H → Ans := T23_0 E D W 
theorem JE23_0 (E : List (Nat × Blk)) (D : Den) (W : DrawFn) (N : Nat) (v0b : Nat) (v0o : Nat) (σ : H) :
  denC E D W N C23_0 ⟨[(0, (V.ptr v0b v0o))], [], [], σ⟩ (Fin23 E) (fun _ _ => none) (Fin23 E) = J23_0 E D W N v0b v0o σ := by
  refine (P23_0 E D W N   v0b v0o σ).trans ?_
  kernel_rfl
def F23 (E : List (Nat × Blk)) (D : Den) (W : DrawFn) (N : Nat) (args : List V) (σ : H) : Ans :=
 rtCons args fun x1 l2 =>
 rtPtr x1 fun b3 o4 =>
 rtNil l2 (
 J23_0 E D W N b3 o4 σ)
def A23 : XFn := ⟨13, [.ptr], [(.cell 2 (some 3))], C23_0⟩
theorem FE23 (E : List (Nat × Blk)) (D : Den) (W : DrawFn) (N : Nat) (args : List V) (σ : H) : runX E D W N A23 args σ = F23 E D W N args σ := by
  unfold F23
  simp only [← JE23_0]
  kernel_rfl
theorem AO23 : A23.body.ok = true := by kernel_rfl

/-! ### F24: __ogham_syntax.parser_.assignment -/
def G24_0 : List AOper := [⟨(some 30), .mov (.tmp 0), none⟩, ⟨(some 31), .mov (.tmp 0), none⟩, ⟨(some 32), .mov (.tmp 0), none⟩, ⟨(some 33), .nilck (.tmp 32), none⟩, ⟨(some 34), .faddr 2 (.tmp 33), none⟩, ⟨(some 35), .faddr 2 (.tmp 34), none⟩, ⟨(some 36), .load none (.tmp 35), none⟩, ⟨(some 37), .faddr 1 (.tmp 3), none⟩, ⟨(some 38), .load none (.tmp 37), none⟩, ⟨(some 39), .buildSlice 9 1 [(V.str ⟨0, 0⟩)] [(0, 1, (.tmp 38))], none⟩, ⟨(some 40), .append 9 1 16 (.tmp 36) (.tmp 39), none⟩, ⟨(some 41), .mov (.tmp 0), none⟩, ⟨(some 42), .nilck (.tmp 41), none⟩, ⟨(some 43), .faddr 2 (.tmp 42), none⟩, ⟨(some 44), .faddr 3 (.tmp 43), none⟩, ⟨(some 45), .load none (.tmp 44), none⟩, ⟨(some 46), .mov (.tmp 4), none⟩, ⟨(some 47), .buildSlice 3 1 [(V.int .i64 (Int.ofNat 0))] [(0, 1, (.tmp 46))], none⟩, ⟨(some 48), .append 3 1 8 (.tmp 45) (.tmp 47), none⟩, ⟨(some 49), .nilck (.tmp 30), none⟩, ⟨(some 50), .faddr 2 (.tmp 49), none⟩, ⟨(some 51), .faddr 2 (.tmp 50), none⟩, ⟨none, .store 1 (.tmp 51) (.tmp 40), none⟩, ⟨(some 52), .nilck (.tmp 31), none⟩, ⟨(some 53), .faddr 2 (.tmp 52), none⟩, ⟨(some 54), .faddr 3 (.tmp 53), none⟩, ⟨none, .store 1 (.tmp 54) (.tmp 48), none⟩]
def H24_0 : List DP := [⟨0, [0]⟩, ⟨0, [0]⟩, ⟨0, [0]⟩, ⟨4, [32]⟩, ⟨12, [33]⟩, ⟨28, [34]⟩, ⟨60, [35]⟩, ⟨0, [3]⟩, ⟨128, [37]⟩, ⟨384, [38]⟩, ⟨1020, [36, 39]⟩, ⟨0, [0]⟩, ⟨2048, [41]⟩, ⟨6144, [42]⟩, ⟨14336, [43]⟩, ⟨30720, [44]⟩, ⟨0, [4]⟩, ⟨65536, [46]⟩, ⟨262140, [45, 47]⟩, ⟨524285, [30]⟩, ⟨1048573, [49]⟩, ⟨2097149, [50]⟩, ⟨4194301, [51, 40]⟩, ⟨8388607, [31]⟩, ⟨16777215, [52]⟩, ⟨33554431, [53]⟩, ⟨67108863, [54, 48]⟩]
def Fin24 (E : List (Nat × Blk)) : St → Ans := fun s => resK E s [(.tmp 2)] fun l => some (oneV l, s.σ)
def C24_0 : XC := (.seq (.ops (.op (some 2) .any [] (.mov (.con (V.bool false))) <|
 .nil))
 (.seq (.ops (.op (some 6) .any [0] (.mov (.tmp 0)) <|
 .op (some 7) .any [6] (.nilck (.tmp 6)) <|
 .op (some 8) .any [7] (.faddr 0 (.tmp 7)) <|
 .op (some 9) (.agg [(.int .i64), .str, (.int .i64)]) [8] (.call 42 [(.tmp 8)]) <|
 .op (some 3) .any [] (.alloc 75 [(V.int .i64 (Int.ofNat 0)), (V.str ⟨0, 0⟩), (V.int .i64 (Int.ofNat 0))]) <|
 .op none (.agg [(.int .i64), .str, (.int .i64)]) [3, 9] (.store 3 (.tmp 3) (.tmp 9)) <|
 .nil))
 (.seq (.seq (.ops (.op (some 10) .any [0] (.mov (.tmp 0)) <|
 .op (some 11) .any [10] (.nilck (.tmp 10)) <|
 .op (some 12) .any [11] (.faddr 2 (.tmp 11)) <|
 .op (some 13) .any [12] (.faddr 2 (.tmp 12)) <|
 .op (some 14) .any [13] (.load none (.tmp 13)) <|
 .op (some 15) .any [14] (.len false (.tmp 14)) <|
 .op (some 16) .any [15] (.bin .geq .none (.tmp 15) (.con (V.int .i64 (Int.ofNat 40)))) <|
 .nil))
 (.cond (.tmp 16) (.seq (.ops (.op (some 17) .any [0] (.mov (.tmp 0)) <|
 .op (some 18) .any [3] (.faddr 2 (.tmp 3)) <|
 .op (some 19) (.int .i64) [18] (.load none (.tmp 18)) <|
 .op (some 20) .bool [17, 19] (.call 41 [(.tmp 17), (.tmp 19), (.con (V.int .i64 (Int.ofNat 5)))]) <|
 .op (some 2) .any [20] (.mov (.tmp 20)) <|
 .nil))
 .ret)
 .skip))
 (.seq (.seq (.ops (.op (some 21) .any [0] (.mov (.tmp 0)) <|
 .op (some 22) .any [] (.buildSlice 9 1 [(V.str ⟨0, 0⟩)] [(0, 1, (.con (V.str ⟨3, 4012602⟩)))]) <|
 .op (some 23) .bool [21, 22] (.call 21 [(.tmp 21), (.tmp 22)]) <|
 .op (some 24) .any [23] (.un .not (.tmp 23)) <|
 .nil))
 (.cond (.tmp 24) (.seq (.ops (.op (some 2) .any [] (.mov (.con (V.bool false))) <|
 .nil))
 .ret)
 .skip))
 (.seq (.ops (.op (some 26) .any [0] (.mov (.tmp 0)) <|
 .op (some 27) (.tup [(.int .i64), .bool]) [26] (.call 44 [(.tmp 26), (.con (V.int .i64 (Int.ofNat 0)))]) <|
 .op (some 25) .any [27] (.mov (.tmp 27)) <|
 .op (some 28) .any [25] (.extract 0 (.tmp 25)) <|
 .op (some 29) .any [25] (.extract 1 (.tmp 25)) <|
 .op (some 4) .any [28] (.mov (.tmp 28)) <|
 .op (some 5) .any [29] (.mov (.tmp 29)) <|
 .nil))
 (.seq (.keep [(0, .ptr), (3, .ptr), (4, (.int .i64)), (5, .bool)] [] [] (.gdraw G24_0 H24_0 [(5, .bool)]))
 (.seq (.ops (.op (some 55) .any [5] (.mov (.tmp 5)) <|
 .op (some 2) .any [55] (.mov (.tmp 55)) <|
 .nil))
 .ret)))))))
def T24_0 (E : List (Nat × Blk)) (D : Den) (W : DrawFn) (v0b : Nat) (v0o : Nat) (σ : H) : Ans :=
 callK (D 42 [(V.ptr v0b v0o)] σ) fun u1 s2 =>
 rtAgg u1 fun l3 =>
 rtCons l3 fun x4 l5 =>
 rtInt .i64 x4 fun x6 =>
 rtCons l5 fun x7 l8 =>
 rtStr x7 fun x9 =>
 rtCons l8 fun x10 l11 =>
 rtInt .i64 x10 fun x12 =>
 rtNil l11 (
 let s13 := newB s2 (.cells [(V.int .i64 (Int.ofNat 0)), (V.str ⟨0, 0⟩), (V.int .i64 (Int.ofNat 0))]);
 stK 3 (H.next s2) 0 (V.agg [(V.int .i64 x6), (V.str x9), (V.int .i64 x12)]) s13 fun s14 =>
 ldK E s14 v0b (Nat.add (Nat.add v0o 2) 2) fun u15 =>
 slenK u15 fun n16 =>
 condK (leF (Int.ofNat 40) (Int.ofNat n16)) (
 ldK E s14 (H.next s2) 2 fun u17 =>
 rtInt .i64 u17 fun x18 =>
 callK (D 41 [(V.ptr v0b v0o), (V.int .i64 x18), (V.int .i64 (Int.ofNat 5))] s14) fun u19 s20 =>
 rtBool u19 fun x21 =>
 some ((V.bool x21), s20)) (
 let s22 := newB s14 (.cells [(V.str (BS.mk 3 4012602))]);
 callK (D 21 [(V.ptr v0b v0o), (V.sl (H.next s14) 0 1 (.ex 1))] s22) fun u23 s24 =>
 rtBool u23 fun x25 =>
 condK (not x25) (
 some ((V.bool false), s24)) (
 callK (D 44 [(V.ptr v0b v0o), (V.int .i64 (Int.ofNat 0))] s24) fun u26 s27 =>
 rtTup u26 fun l28 =>
 rtCons l28 fun x29 l30 =>
 rtInt .i64 x29 fun x31 =>
 rtCons l30 fun x32 l33 =>
 rtBool x32 fun x34 =>
 rtNil l33 (
 gdrawK (W G24_0 H24_0 [(0, (V.ptr v0b v0o)), (3, (V.ptr (H.next s2) 0)), (4, (V.int .i64 x31)), (5, (V.bool x34))] s27) fun e35 s36 =>
 getL e35 5 fun u37 =>
 rtBool u37 fun x38 =>
 some ((V.bool x38), s36)))))
theorem P24_0 (E : List (Nat × Blk)) (D : Den) (W : DrawFn) (N : Nat) (v0b : Nat) (v0o : Nat) (σ : H) :
  denC E D W N (C24_0 ) ⟨[(0, (V.ptr v0b v0o))], [], [], σ⟩ (Fin24 E) (fun _ _ => none) (Fin24 E) =
  T24_0 E D W  v0b v0o σ := by kernel_rfl
def J24_0 (E : List (Nat × Blk)) (D : Den) (W : DrawFn) (N : Nat) : Nat → Nat → H → Ans := T24_0 E D W 
theorem JE24_0 (E : List (Nat × Blk)) (D : Den) (W : DrawFn) (N : Nat) (v0b : Nat) (v0o : Nat) (σ : H) :
  denC E D W N C24_0 ⟨[(0, (V.ptr v0b v0o))], [], [], σ⟩ (Fin24 E) (fun _ _ => none) (Fin24 E) = J24_0 E D W N v0b v0o σ := by
  refine (P24_0 E D W N   v0b v0o σ).trans ?_
  kernel_rfl
def F24 (E : List (Nat × Blk)) (D : Den) (W : DrawFn) (N : Nat) (args : List V) (σ : H) : Ans :=
 rtCons args fun x1 l2 =>
 rtPtr x1 fun b3 o4 =>
 rtNil l2 (
 J24_0 E D W N b3 o4 σ)
def A24 : XFn := ⟨56, [.ptr], [(.tmp 2)], C24_0⟩
theorem FE24 (E : List (Nat × Blk)) (D : Den) (W : DrawFn) (N : Nat) (args : List V) (σ : H) : runX E D W N A24 args σ = F24 E D W N args σ := by
  unfold F24
  simp only [← JE24_0]
  kernel_rfl
theorem AO24 : A24.body.ok = true := by kernel_rfl

/-! ### F32: __ogham_lex.reader_.peek -/
def Fin32 (E : List (Nat × Blk)) : St → Ans := fun s => resK E s [(.tmp 4)] fun l => some (oneV l, s.σ)
def C32_0 : XC := (.seq (.ops (.op (some 4) .any [] (.mov (.con (V.int .u8 (Int.ofNat 0)))) <|
 .nil))
 (.seq (.seq (.draw (.op (some 5) .any [0] (.mov (.tmp 0)) <|
 .op (some 6) .any [5] (.nilck (.tmp 5)) <|
 .op (some 7) .any [6] (.faddr 1 (.tmp 6)) <|
 .op (some 8) (.int .i64) [7] (.load none (.tmp 7)) <|
 .op (some 9) .any [1] (.mov (.tmp 1)) <|
 .op (some 10) .any [8, 9] (.bin .add .none (.tmp 8) (.tmp 9)) <|
 .op (some 11) .any [0] (.mov (.tmp 0)) <|
 .op (some 12) .any [11] (.nilck (.tmp 11)) <|
 .op (some 13) .any [12] (.faddr 0 (.tmp 12)) <|
 .op (some 14) .str [13] (.load none (.tmp 13)) <|
 .op (some 15) .any [14] (.len true (.tmp 14)) <|
 .op (some 16) .any [10, 15] (.bin .geq .none (.tmp 10) (.tmp 15)) <|
 .nil) [0, 1, 3, 7, 0, 31, 0, 64, 192, 448, 960, 2047])
 (.cond (.tmp 16) (.seq (.ops (.op (some 4) .any [] (.mov (.con (V.int .u8 (Int.ofNat 0)))) <|
 .nil))
 .ret)
 .skip))
 (.seq (.draw (.op (some 17) .any [0] (.mov (.tmp 0)) <|
 .op (some 18) .any [17] (.nilck (.tmp 17)) <|
 .op (some 19) .any [18] (.faddr 0 (.tmp 18)) <|
 .op (some 20) .str [19] (.load none (.tmp 19)) <|
 .op (some 21) .any [0] (.mov (.tmp 0)) <|
 .op (some 22) .any [21] (.nilck (.tmp 21)) <|
 .op (some 23) .any [22] (.faddr 1 (.tmp 22)) <|
 .op (some 24) (.int .i64) [23] (.load none (.tmp 23)) <|
 .op (some 25) .any [1] (.mov (.tmp 1)) <|
 .op (some 26) .any [24, 25] (.bin .add .none (.tmp 24) (.tmp 25)) <|
 .op (some 27) .any [20, 26] (.idxStr (.tmp 20) (.tmp 26)) <|
 .op (some 4) .any [27] (.mov (.tmp 27)) <|
 .nil) [0, 1, 3, 7, 0, 16, 48, 112, 0, 496, 1023, 2047])
 .ret)))
def T32_0 (E : List (Nat × Blk)) (D : Den) (W : DrawFn) (v0b : Nat) (v0o : Nat) (v1 : Int) (σ : H) : Ans :=
 ldK E σ v0b (Nat.add v0o 1) fun u1 =>
 rtInt .i64 u1 fun x2 =>
 ldK E σ v0b v0o fun u3 =>
 rtStr u3 fun x4 =>
 condK (leF (Int.ofNat (BS.len x4)) (addF .i64 x2 v1)) (
 some ((V.int .u8 (Int.ofNat 0)), σ)) (
 ldK E σ v0b v0o fun u5 =>
 rtStr u5 fun x6 =>
 ldK E σ v0b (Nat.add v0o 1) fun u7 =>
 rtInt .i64 u7 fun x8 =>
 idxStrX x6 (addF .i64 x8 v1) fun x9 =>
 some ((V.int .u8 x9), σ))
theorem P32_0 (E : List (Nat × Blk)) (D : Den) (W : DrawFn) (N : Nat) (v0b : Nat) (v0o : Nat) (v1 : Int) (σ : H) :
  denC E D W N (C32_0 ) ⟨[(0, (V.ptr v0b v0o)), (1, (V.int .i64 v1))], [], [], σ⟩ (Fin32 E) (fun _ _ => none) (Fin32 E) =
  T32_0 E D W  v0b v0o v1 σ := by kernel_rfl
def J32_0 (E : List (Nat × Blk)) (D : Den) (W : DrawFn) (N : Nat) : Nat → Nat → Int → H → Ans := T32_0 E D W 
theorem JE32_0 (E : List (Nat × Blk)) (D : Den) (W : DrawFn) (N : Nat) (v0b : Nat) (v0o : Nat) (v1 : Int) (σ : H) :
  denC E D W N C32_0 ⟨[(0, (V.ptr v0b v0o)), (1, (V.int .i64 v1))], [], [], σ⟩ (Fin32 E) (fun _ _ => none) (Fin32 E) = J32_0 E D W N v0b v0o v1 σ := by
  refine (P32_0 E D W N   v0b v0o v1 σ).trans ?_
  kernel_rfl
def F32 (E : List (Nat × Blk)) (D : Den) (W : DrawFn) (N : Nat) (args : List V) (σ : H) : Ans :=
 rtCons args fun x1 l2 =>
 rtPtr x1 fun b3 o4 =>
 rtCons l2 fun x5 l6 =>
 rtInt .i64 x5 fun x7 =>
 rtNil l6 (
 J32_0 E D W N b3 o4 x7 σ)
def A32 : XFn := ⟨28, [.ptr, (.int .i64)], [(.tmp 4)], C32_0⟩
theorem FE32 (E : List (Nat × Blk)) (D : Den) (W : DrawFn) (N : Nat) (args : List V) (σ : H) : runX E D W N A32 args σ = F32 E D W N args σ := by
  unfold F32
  simp only [← JE32_0]
  kernel_rfl
theorem AO32 : A32.body.ok = true := by kernel_rfl

/-! ### F33: __ogham_lex.reader_.ahead -/
def Fin33 (E : List (Nat × Blk)) : St → Ans := fun s => resK E s [(.tmp 4)] fun l => some (oneV l, s.σ)
def C33_0 : XC := (.seq (.ops (.op (some 4) .any [] (.mov (.con (V.bool false))) <|
 .nil))
 (.seq (.draw (.op (some 5) .any [0] (.mov (.tmp 0)) <|
 .op (some 6) .any [5] (.nilck (.tmp 5)) <|
 .op (some 7) .any [6] (.faddr 0 (.tmp 6)) <|
 .op (some 8) .str [7] (.load none (.tmp 7)) <|
 .op (some 9) .any [0] (.mov (.tmp 0)) <|
 .op (some 10) .any [9] (.nilck (.tmp 9)) <|
 .op (some 11) .any [10] (.faddr 1 (.tmp 10)) <|
 .op (some 12) (.int .i64) [11] (.load none (.tmp 11)) <|
 .op (some 13) .any [8, 12] (.sliceStr (.tmp 8) (some (.tmp 12)) none) <|
 .op (some 14) .any [1] (.mov (.tmp 1)) <|
 .op (some 15) .bool [13, 14] (.call 48 [(.tmp 13), (.tmp 14)]) <|
 .op (some 4) .any [15] (.mov (.tmp 15)) <|
 .nil) [0, 1, 3, 7, 0, 16, 48, 112, 255, 0, 1023, 2047])
 .ret))
def T33_0 (E : List (Nat × Blk)) (D : Den) (W : DrawFn) (v0b : Nat) (v0o : Nat) (v1 : BS) (σ : H) : Ans :=
 ldK E σ v0b v0o fun u1 =>
 rtStr u1 fun x2 =>
 ldK E σ v0b (Nat.add v0o 1) fun u3 =>
 rtInt .i64 u3 fun x4 =>
 sliceStrX x2 (some (V.int .i64 x4)) none fun t5 =>
 callK (D 48 [(V.str t5), (V.str v1)] σ) fun u6 s7 =>
 rtBool u6 fun x8 =>
 some ((V.bool x8), s7)
theorem P33_0 (E : List (Nat × Blk)) (D : Den) (W : DrawFn) (N : Nat) (v0b : Nat) (v0o : Nat) (v1 : BS) (σ : H) :
  denC E D W N (C33_0 ) ⟨[(0, (V.ptr v0b v0o)), (1, (V.str v1))], [], [], σ⟩ (Fin33 E) (fun _ _ => none) (Fin33 E) =
  T33_0 E D W  v0b v0o v1 σ := by kernel_rfl
def J33_0 (E : List (Nat × Blk)) (D : Den) (W : DrawFn) (N : Nat) : Nat → Nat → BS → H → Ans := T33_0 E D W 
theorem JE33_0 (E : List (Nat × Blk)) (D : Den) (W : DrawFn) (N : Nat) (v0b : Nat) (v0o : Nat) (v1 : BS) (σ : H) :
  denC E D W N C33_0 ⟨[(0, (V.ptr v0b v0o)), (1, (V.str v1))], [], [], σ⟩ (Fin33 E) (fun _ _ => none) (Fin33 E) = J33_0 E D W N v0b v0o v1 σ := by
  refine (P33_0 E D W N   v0b v0o v1 σ).trans ?_
  kernel_rfl
def F33 (E : List (Nat × Blk)) (D : Den) (W : DrawFn) (N : Nat) (args : List V) (σ : H) : Ans :=
 rtCons args fun x1 l2 =>
 rtPtr x1 fun b3 o4 =>
 rtCons l2 fun x5 l6 =>
 rtStr x5 fun x7 =>
 rtNil l6 (
 J33_0 E D W N b3 o4 x7 σ)
def A33 : XFn := ⟨16, [.ptr, .str], [(.tmp 4)], C33_0⟩
theorem FE33 (E : List (Nat × Blk)) (D : Den) (W : DrawFn) (N : Nat) (args : List V) (σ : H) : runX E D W N A33 args σ = F33 E D W N args σ := by
  unfold F33
  simp only [← JE33_0]
  kernel_rfl
theorem AO33 : A33.body.ok = true := by kernel_rfl

/-! ### F34: ogham_lex.letter -/
def Fin34 (E : List (Nat × Blk)) : St → Ans := fun s => resK E s [(.tmp 2)] fun l => some (oneV l, s.σ)
def C34_0 : XC := (.seq (.ops (.op (some 2) .any [] (.mov (.con (V.bool false))) <|
 .nil))
 (.seq (.ops (.op (some 3) .any [0] (.mov (.tmp 0)) <|
 .op (some 4) .any [3] (.bin .geq .none (.tmp 3) (.con (V.int .u8 (Int.ofNat 97)))) <|
 .op (some 5) .any [4] (.mov (.tmp 4)) <|
 .grp 5 true (.op (some 6) .any [0, 5] (.mov (.tmp 0)) <|
 .op (some 7) .any [6, 5] (.bin .leq .none (.tmp 6) (.con (V.int .u8 (Int.ofNat 122)))) <|
 .nil) 8 [5, 7] (.tmp 5) (.tmp 7) (.con (V.bool false)) <|
 .op (some 9) .any [8] (.mov (.tmp 8)) <|
 .grp 9 false (.op (some 10) .any [0, 9] (.mov (.tmp 0)) <|
 .op (some 11) .any [10, 9] (.bin .geq .none (.tmp 10) (.con (V.int .u8 (Int.ofNat 65)))) <|
 .op (some 12) .any [11, 9] (.mov (.tmp 11)) <|
 .grp 12 true (.op (some 13) .any [0, 12] (.mov (.tmp 0)) <|
 .op (some 14) .any [13, 12] (.bin .leq .none (.tmp 13) (.con (V.int .u8 (Int.ofNat 90)))) <|
 .nil) 15 [12, 14, 9] (.tmp 12) (.tmp 14) (.con (V.bool false)) <|
 .nil) 16 [9, 15] (.tmp 9) (.con (V.bool true)) (.tmp 15) <|
 .op (some 2) .any [16] (.mov (.tmp 16)) <|
 .nil))
 .ret))
def T34_0 (E : List (Nat × Blk)) (D : Den) (W : DrawFn) (v0 : Int) (σ : H) : Ans :=
 joinB (fun c1 s2 =>
 joinB (fun c4 s5 =>
 some ((V.bool c4), s5)) fun k6 =>
 condK c1 (
 k6 true s2) (
 joinB (fun c7 s8 =>
 k6 c7 s8) fun k9 =>
 condK (leF (Int.ofNat 65) v0) (
 k9 (leF v0 (Int.ofNat 90)) s2) (
 k9 false s2))) fun k3 =>
 condK (leF (Int.ofNat 97) v0) (
 k3 (leF v0 (Int.ofNat 122)) σ) (
 k3 false σ)
theorem P34_0 (E : List (Nat × Blk)) (D : Den) (W : DrawFn) (N : Nat) (v0 : Int) (σ : H) :
  denC E D W N (C34_0 ) ⟨[(0, (V.int .u8 v0))], [], [], σ⟩ (Fin34 E) (fun _ _ => none) (Fin34 E) =
  T34_0 E D W  v0 σ := by kernel_rfl
def J34_0 (E : List (Nat × Blk)) (D : Den) (W : DrawFn) (N : Nat) : Int → H → Ans := T34_0 E D W 
theorem JE34_0 (E : List (Nat × Blk)) (D : Den) (W : DrawFn) (N : Nat) (v0 : Int) (σ : H) :
  denC E D W N C34_0 ⟨[(0, (V.int .u8 v0))], [], [], σ⟩ (Fin34 E) (fun _ _ => none) (Fin34 E) = J34_0 E D W N v0 σ := by
  refine (P34_0 E D W N   v0 σ).trans ?_
  kernel_rfl
def F34 (E : List (Nat × Blk)) (D : Den) (W : DrawFn) (N : Nat) (args : List V) (σ : H) : Ans :=
 rtCons args fun x1 l2 =>
 rtInt .u8 x1 fun x3 =>
 rtNil l2 (
 J34_0 E D W N x3 σ)
def A34 : XFn := ⟨17, [(.int .u8)], [(.tmp 2)], C34_0⟩
theorem FE34 (E : List (Nat × Blk)) (D : Den) (W : DrawFn) (N : Nat) (args : List V) (σ : H) : runX E D W N A34 args σ = F34 E D W N args σ := by
  unfold F34
  simp only [← JE34_0]
  kernel_rfl
theorem AO34 : A34.body.ok = true := by kernel_rfl

/-! ### F35: __ogham_lex.lexer_.name -/
def Fin35 (E : List (Nat × Blk)) : St → Ans := fun s => resK E s [(.tmp 2), (.tmp 3)] fun l => some (oneV l, s.σ)
def C35_0 (cc1 : XC) (cc2 : XC) : XC := (.seq (.ops (.op (some 2) .any [] (.mov (.con (V.int .i64 (Int.ofNat 0)))) <|
 .op (some 3) .any [] (.mov (.con (V.str ⟨0, 0⟩))) <|
 .nil))
 (.seq (.ops (.op (some 7) .any [0] (.mov (.tmp 0)) <|
 .op (some 8) .any [7] (.nilck (.tmp 7)) <|
 .op (some 9) .any [8] (.faddr 0 (.tmp 8)) <|
 .op (some 10) .any [9] (.faddr 1 (.tmp 9)) <|
 .op (some 11) (.int .i64) [10] (.load none (.tmp 10)) <|
 .op (some 4) .any [11] (.mov (.tmp 11)) <|
 .nil))
 (.seq (.seq (.ops (.op (some 12) .any [0] (.mov (.tmp 0)) <|
 .op (some 13) .any [12] (.nilck (.tmp 12)) <|
 .op (some 14) .any [13] (.faddr 0 (.tmp 13)) <|
 .op (some 15) (.int .u8) [14] (.call 32 [(.tmp 14), (.con (V.int .i64 (Int.ofNat 0)))]) <|
 .op (some 5) .any [15] (.mov (.tmp 15)) <|
 .nil))
 (.block 0 (.loop [(0, .ptr), (4, (.int .i64)), (5, (.int .u8))] [] [] cc2)))
 (.keep [(0, .ptr), (4, (.int .i64))] [] [] cc1))))
def T35_0 (E : List (Nat × Blk)) (D : Den) (W : DrawFn) (K2 : Nat → Nat → Int → Int → H → Ans) (v0b : Nat) (v0o : Nat) (σ : H) : Ans :=
 ldK E σ v0b (Nat.add v0o 1) fun u1 =>
 rtInt .i64 u1 fun x2 =>
 callK (D 32 [(V.ptr v0b v0o), (V.int .i64 (Int.ofNat 0))] σ) fun u3 s4 =>
 rtInt .u8 u3 fun x5 =>
 K2 v0b v0o x2 x5 s4
def C35_1 : XC := (.seq (.draw (.op (some 46) .any [0] (.mov (.tmp 0)) <|
 .op (some 47) .any [46] (.nilck (.tmp 46)) <|
 .op (some 48) .any [47] (.faddr 0 (.tmp 47)) <|
 .op (some 49) .any [48] (.faddr 0 (.tmp 48)) <|
 .op (some 50) .str [49] (.load none (.tmp 49)) <|
 .op (some 51) .any [4] (.mov (.tmp 4)) <|
 .op (some 52) .any [0] (.mov (.tmp 0)) <|
 .op (some 53) .any [52] (.nilck (.tmp 52)) <|
 .op (some 54) .any [53] (.faddr 0 (.tmp 53)) <|
 .op (some 55) .any [54] (.faddr 1 (.tmp 54)) <|
 .op (some 56) (.int .i64) [55] (.load none (.tmp 55)) <|
 .op (some 57) .any [50, 51, 56] (.sliceStr (.tmp 50) (some (.tmp 51)) (some (.tmp 56))) <|
 .op (some 6) .any [57] (.mov (.tmp 57)) <|
 .nil) [0, 1, 3, 7, 15, 0, 0, 64, 192, 448, 960, 2047, 4095])
 (.seq (.block 2 (.seq (.ops (.op (some 59) .any [6] (.mov (.tmp 6)) <|
 .op (some 60) .any [59] (.len true (.tmp 59)) <|
 .op (some 61) .any [60] (.bin .gtr .none (.tmp 60) (.con (V.int .i64 (Int.ofNat 60)))) <|
 .op (some 62) .any [61] (.mov (.tmp 61)) <|
 .grp 62 false (.op (some 63) .any [6, 62] (.mov (.tmp 6)) <|
 .op (some 64) .any [6, 62] (.mov (.tmp 6)) <|
 .op (some 65) .any [64, 62] (.len true (.tmp 64)) <|
 .op (some 66) .any [65, 62] (.bin .sub .none (.tmp 65) (.con (V.int .i64 (Int.ofNat 1)))) <|
 .op (some 67) .any [63, 66, 62] (.idxStr (.tmp 63) (.tmp 66)) <|
 .op (some 68) .any [67, 62] (.bin .eql .none (.tmp 67) (.con (V.int .u8 (Int.ofNat 45)))) <|
 .nil) 69 [62, 68] (.tmp 62) (.con (V.bool true)) (.tmp 68) <|
 .op (some 58) .any [69] (.mov (.tmp 69)) <|
 .nil))
 (.cond (.tmp 58) (.seq (.ops (.op (some 2) .any [] (.mov (.con (V.int .i64 (Int.ofNat 0)))) <|
 .op (some 3) .any [] (.mov (.con (V.str ⟨0, 0⟩))) <|
 .nil))
 .ret)
 (.seq (.ops (.op (some 71) .any [6] (.mov (.tmp 6)) <|
 .op (some 72) .bool [71] (.call 49 [(.tmp 71)]) <|
 .op (some 70) .any [72] (.mov (.tmp 72)) <|
 .nil))
 (.cond (.tmp 70) (.seq (.ops (.op (some 73) .any [6] (.mov (.tmp 6)) <|
 .op (some 2) .any [] (.mov (.con (V.int .i64 (Int.ofNat 5)))) <|
 .op (some 3) .any [73] (.mov (.tmp 73)) <|
 .nil))
 .ret)
 (.seq (.ops (.op (some 75) .any [6] (.mov (.tmp 6)) <|
 .op (some 76) .any [75] (.idxStr (.tmp 75) (.con (V.int .i64 (Int.ofNat 0)))) <|
 .op (some 77) .any [76] (.bin .leq .none (.tmp 76) (.con (V.int .u8 (Int.ofNat 90)))) <|
 .op (some 74) .any [77] (.mov (.tmp 77)) <|
 .nil))
 (.cond (.tmp 74) (.seq (.ops (.op (some 78) .any [6] (.mov (.tmp 6)) <|
 .op (some 2) .any [] (.mov (.con (V.int .i64 (Int.ofNat 1)))) <|
 .op (some 3) .any [78] (.mov (.tmp 78)) <|
 .nil))
 .ret)
 .skip)))))))
 (.seq (.ops (.op (some 79) .any [6] (.mov (.tmp 6)) <|
 .op (some 2) .any [] (.mov (.con (V.int .i64 (Int.ofNat 2)))) <|
 .op (some 3) .any [79] (.mov (.tmp 79)) <|
 .nil))
 .ret)))
def T35_1 (E : List (Nat × Blk)) (D : Den) (W : DrawFn) (v0b : Nat) (v0o : Nat) (v4 : Int) (σ : H) : Ans :=
 ldK E σ v0b v0o fun u1 =>
 rtStr u1 fun x2 =>
 ldK E σ v0b (Nat.add v0o 1) fun u3 =>
 rtInt .i64 u3 fun x4 =>
 sliceStrX x2 (some (V.int .i64 v4)) (some (V.int .i64 x4)) fun t5 =>
 joinB (fun c6 s7 =>
 condK c6 (
 some ((V.tup [(V.int .i64 (Int.ofNat 0)), (V.str (BS.mk 0 0))]), s7)) (
 callK (D 49 [(V.str t5)] s7) fun u9 s10 =>
 rtBool u9 fun x11 =>
 condK x11 (
 some ((V.tup [(V.int .i64 (Int.ofNat 5)), (V.str t5)]), s10)) (
 idxStrX t5 (Int.ofNat 0) fun x12 =>
 condK (leF x12 (Int.ofNat 90)) (
 some ((V.tup [(V.int .i64 (Int.ofNat 1)), (V.str t5)]), s10)) (
 some ((V.tup [(V.int .i64 (Int.ofNat 2)), (V.str t5)]), s10))))) fun k8 =>
 condK (ltF (Int.ofNat 60) (Int.ofNat (BS.len t5))) (
 k8 true σ) (
 idxStrX t5 (subF .i64 (Int.ofNat (BS.len t5)) (Int.ofNat 1)) fun x13 =>
 k8 (eqF x13 (Int.ofNat 45)) σ)
def C35_2 : XC := (.seq (.seq (.ops (.op (some 16) .any [5] (.mov (.tmp 5)) <|
 .op (some 17) .bool [16] (.call 34 [(.tmp 16)]) <|
 .op (some 18) .any [17] (.mov (.tmp 17)) <|
 .grp 18 false (.op (some 19) .any [5, 18] (.mov (.tmp 5)) <|
 .op (some 20) .bool [19, 18] (.call 36 [(.tmp 19)]) <|
 .nil) 21 [18, 20] (.tmp 18) (.con (V.bool true)) (.tmp 20) <|
 .op (some 22) .any [21] (.mov (.tmp 21)) <|
 .grp 22 false (.op (some 23) .any [5, 22] (.mov (.tmp 5)) <|
 .op (some 24) .any [23, 22] (.bin .eql .none (.tmp 23) (.con (V.int .u8 (Int.ofNat 45)))) <|
 .op (some 25) .any [24, 22] (.mov (.tmp 24)) <|
 .grp 25 true (.op (some 26) .any [0, 25] (.mov (.tmp 0)) <|
 .op (some 27) .any [26, 25] (.nilck (.tmp 26)) <|
 .op (some 28) .any [27, 25] (.faddr 0 (.tmp 27)) <|
 .op (some 29) (.int .u8) [28, 25] (.call 32 [(.tmp 28), (.con (V.int .i64 (Int.ofNat 1)))]) <|
 .op (some 30) .any [29, 25] (.bin .neq .none (.tmp 29) (.con (V.int .u8 (Int.ofNat 45)))) <|
 .nil) 31 [25, 30, 22] (.tmp 25) (.tmp 30) (.con (V.bool false)) <|
 .nil) 32 [22, 31] (.tmp 22) (.con (V.bool true)) (.tmp 31) <|
 .nil))
 (.cond (.tmp 32) .skip
 (.exit 0)))
 (.seq (.block 1 (.ops (.op (some 37) .any [0] (.mov (.tmp 0)) <|
 .op (some 38) .any [37] (.nilck (.tmp 37)) <|
 .op (some 39) .any [38] (.faddr 0 (.tmp 38)) <|
 .op (some 40) .any [39] (.faddr 1 (.tmp 39)) <|
 .op (some 41) (.int .i64) [40] (.load none (.tmp 40)) <|
 .op (some 42) .any [41] (.bin .add .none (.tmp 41) (.con (V.int .i64 (Int.ofNat 1)))) <|
 .op (some 43) .any [37] (.nilck (.tmp 37)) <|
 .op (some 44) .any [43] (.faddr 0 (.tmp 43)) <|
 .op (some 45) .any [44] (.faddr 1 (.tmp 44)) <|
 .op none .any [45, 42] (.store 1 (.tmp 45) (.tmp 42)) <|
 .nil)))
 (.ops (.op (some 33) .any [0] (.mov (.tmp 0)) <|
 .op (some 34) .any [33] (.nilck (.tmp 33)) <|
 .op (some 35) .any [34] (.faddr 0 (.tmp 34)) <|
 .op (some 36) (.int .u8) [35] (.call 32 [(.tmp 35), (.con (V.int .i64 (Int.ofNat 0)))]) <|
 .op (some 5) .any [36] (.mov (.tmp 36)) <|
 .nil))))
def T35_2 (E : List (Nat × Blk)) (D : Den) (W : DrawFn) (K1 : Nat → Nat → Int → H → Ans) (R2 : Nat → Nat → Int → Int → H → Ans) (v0b : Nat) (v0o : Nat) (v4 : Int) (v5 : Int) (σ : H) : Ans :=
 callK (D 34 [(V.int .u8 v5)] σ) fun u1 s2 =>
 rtBool u1 fun x3 =>
 joinB (fun c4 s5 =>
 joinB (fun c7 s8 =>
 condK c7 (
 ldK E s8 v0b (Nat.add v0o 1) fun u10 =>
 rtInt .i64 u10 fun x11 =>
 stK 1 v0b (Nat.add v0o 1) (V.int .i64 (addF .i64 x11 (Int.ofNat 1))) s8 fun s12 =>
 callK (D 32 [(V.ptr v0b v0o), (V.int .i64 (Int.ofNat 0))] s12) fun u13 s14 =>
 rtInt .u8 u13 fun x15 =>
 R2 v0b v0o v4 x15 s14) (
 K1 v0b v0o v4 s8)) fun k9 =>
 condK c4 (
 k9 true s5) (
 joinB (fun c16 s17 =>
 k9 c16 s17) fun k18 =>
 condK (eqF v5 (Int.ofNat 45)) (
 callK (D 32 [(V.ptr v0b v0o), (V.int .i64 (Int.ofNat 1))] s5) fun u19 s20 =>
 rtInt .u8 u19 fun x21 =>
 k18 (not (eqF x21 (Int.ofNat 45))) s20) (
 k18 false s5))) fun k6 =>
 condK x3 (
 k6 true s2) (
 callK (D 36 [(V.int .u8 v5)] s2) fun u22 s23 =>
 rtBool u22 fun x24 =>
 k6 x24 s23)
theorem P35_0 (E : List (Nat × Blk)) (D : Den) (W : DrawFn) (N : Nat) (cc1 : XC) (cc2 : XC) (v0b : Nat) (v0o : Nat) (σ : H) :
  denC E D W N (C35_0 cc1 cc2) ⟨[(0, (V.ptr v0b v0o))], [], [], σ⟩ (Fin35 E) (fun _ _ => none) (Fin35 E) =
  T35_0 E D W (fun v0b v0o v4 v5 σ => iterK (fun rec s' => denC E D W N cc2 s' (fun s'' => keepS [(0, .ptr), (4, (.int .i64)), (5, (.int .u8))] [] [] s'' rec) (blkK 0 (fun s' => denC E D W N (.keep [(0, .ptr), (4, (.int .i64))] [] [] cc1) s' (Fin35 E) (fun _ _ => none) (Fin35 E)) (fun _ _ => none)) (Fin35 E)) N ⟨[(0, (V.ptr v0b v0o)), (4, (V.int .i64 v4)), (5, (V.int .u8 v5))], [], [], σ⟩) v0b v0o σ := by kernel_rfl
theorem P35_1 (E : List (Nat × Blk)) (D : Den) (W : DrawFn) (N : Nat) (v0b : Nat) (v0o : Nat) (v4 : Int) (σ : H) :
  denC E D W N (C35_1 ) ⟨[(0, (V.ptr v0b v0o)), (4, (V.int .i64 v4))], [], [], σ⟩ (Fin35 E) (fun _ _ => none) (Fin35 E) =
  T35_1 E D W  v0b v0o v4 σ := by kernel_rfl
theorem P35_2 (E : List (Nat × Blk)) (D : Den) (W : DrawFn) (N : Nat) (cc1 : XC) (li2 : St → Ans) (v0b : Nat) (v0o : Nat) (v4 : Int) (v5 : Int) (σ : H) :
  denC E D W N (C35_2 ) ⟨[(0, (V.ptr v0b v0o)), (4, (V.int .i64 v4)), (5, (V.int .u8 v5))], [], [], σ⟩ (fun s'' => keepS [(0, .ptr), (4, (.int .i64)), (5, (.int .u8))] [] [] s'' li2) (blkK 0 (fun s' => denC E D W N (.keep [(0, .ptr), (4, (.int .i64))] [] [] cc1) s' (Fin35 E) (fun _ _ => none) (Fin35 E)) (fun _ _ => none)) (Fin35 E) =
  T35_2 E D W (fun v0b v0o v4 σ => denC E D W N cc1 ⟨[(0, (V.ptr v0b v0o)), (4, (V.int .i64 v4))], [], [], σ⟩ (Fin35 E) (fun _ _ => none) (Fin35 E)) (fun v0b v0o v4 v5 σ => li2 ⟨[(0, (V.ptr v0b v0o)), (4, (V.int .i64 v4)), (5, (V.int .u8 v5))], [], [], σ⟩) v0b v0o v4 v5 σ := by kernel_rfl
def J35_1 (E : List (Nat × Blk)) (D : Den) (W : DrawFn) (N : Nat) : Nat → Nat → Int → H → Ans := T35_1 E D W 
theorem JE35_1 (E : List (Nat × Blk)) (D : Den) (W : DrawFn) (N : Nat) (v0b : Nat) (v0o : Nat) (v4 : Int) (σ : H) :
  denC E D W N C35_1 ⟨[(0, (V.ptr v0b v0o)), (4, (V.int .i64 v4))], [], [], σ⟩ (Fin35 E) (fun _ _ => none) (Fin35 E) = J35_1 E D W N v0b v0o v4 σ := by
  refine (P35_1 E D W N   v0b v0o v4 σ).trans ?_
  kernel_rfl
def L35_2 (E : List (Nat × Blk)) (D : Den) (W : DrawFn) (N : Nat) (n : Nat) : Nat → Nat → Int → Int → H → Ans :=
  Nat.rec (fun _ _ _ _ _ => none) (fun _ ih => T35_2 E D W (J35_1 E D W N ) ih) n
theorem LE35_2 (E : List (Nat × Blk)) (D : Den) (W : DrawFn) (N : Nat) (n : Nat) : ∀ (v0b : Nat) (v0o : Nat) (v4 : Int) (v5 : Int) (σ : H),
  iterK (fun rec s' => denC E D W N C35_2 s' (fun s'' => keepS [(0, .ptr), (4, (.int .i64)), (5, (.int .u8))] [] [] s'' rec) (blkK 0 (fun s' => denC E D W N (.keep [(0, .ptr), (4, (.int .i64))] [] [] C35_1) s' (Fin35 E) (fun _ _ => none) (Fin35 E)) (fun _ _ => none)) (Fin35 E)) n ⟨[(0, (V.ptr v0b v0o)), (4, (V.int .i64 v4)), (5, (V.int .u8 v5))], [], [], σ⟩ = L35_2 E D W N n v0b v0o v4 v5 σ := by
  induction n with
  | zero => intro v0b v0o v4 v5 σ; rfl
  | succ n ihn =>
    intro v0b v0o v4 v5 σ
    rw [iterK_succ]
    refine (P35_2 E D W N C35_1 (iterK (fun rec s' => denC E D W N C35_2 s' (fun s'' => keepS [(0, .ptr), (4, (.int .i64)), (5, (.int .u8))] [] [] s'' rec) (blkK 0 (fun s' => denC E D W N (.keep [(0, .ptr), (4, (.int .i64))] [] [] C35_1) s' (Fin35 E) (fun _ _ => none) (Fin35 E)) (fun _ _ => none)) (Fin35 E)) n) v0b v0o v4 v5 σ).trans ?_
    simp only [ihn, JE35_1]
    kernel_rfl
def J35_0 (E : List (Nat × Blk)) (D : Den) (W : DrawFn) (N : Nat) : Nat → Nat → H → Ans := T35_0 E D W (L35_2 E D W N N)
theorem JE35_0 (E : List (Nat × Blk)) (D : Den) (W : DrawFn) (N : Nat) (v0b : Nat) (v0o : Nat) (σ : H) :
  denC E D W N (C35_0 C35_1 C35_2) ⟨[(0, (V.ptr v0b v0o))], [], [], σ⟩ (Fin35 E) (fun _ _ => none) (Fin35 E) = J35_0 E D W N v0b v0o σ := by
  refine (P35_0 E D W N C35_1 C35_2  v0b v0o σ).trans ?_
  simp only [LE35_2]
  kernel_rfl
def F35 (E : List (Nat × Blk)) (D : Den) (W : DrawFn) (N : Nat) (args : List V) (σ : H) : Ans :=
 rtCons args fun x1 l2 =>
 rtPtr x1 fun b3 o4 =>
 rtNil l2 (
 J35_0 E D W N b3 o4 σ)
def A35 : XFn := ⟨80, [.ptr], [(.tmp 2), (.tmp 3)], (C35_0 C35_1 C35_2)⟩
theorem FE35 (E : List (Nat × Blk)) (D : Den) (W : DrawFn) (N : Nat) (args : List V) (σ : H) : runX E D W N A35 args σ = F35 E D W N args σ := by
  unfold F35
  simp only [← JE35_0]
  kernel_rfl
theorem AO35 : A35.body.ok = true := by kernel_rfl

/-! ### F36: ogham_lex.digit -/
def Fin36 (E : List (Nat × Blk)) : St → Ans := fun s => resK E s [(.tmp 2)] fun l => some (oneV l, s.σ)
def C36_0 : XC := (.seq (.ops (.op (some 2) .any [] (.mov (.con (V.bool false))) <|
 .nil))
 (.seq (.ops (.op (some 3) .any [0] (.mov (.tmp 0)) <|
 .op (some 4) .any [3] (.bin .geq .none (.tmp 3) (.con (V.int .u8 (Int.ofNat 48)))) <|
 .op (some 5) .any [4] (.mov (.tmp 4)) <|
 .grp 5 true (.op (some 6) .any [0, 5] (.mov (.tmp 0)) <|
 .op (some 7) .any [6, 5] (.bin .leq .none (.tmp 6) (.con (V.int .u8 (Int.ofNat 57)))) <|
 .nil) 8 [5, 7] (.tmp 5) (.tmp 7) (.con (V.bool false)) <|
 .op (some 2) .any [8] (.mov (.tmp 8)) <|
 .nil))
 .ret))
def T36_0 (E : List (Nat × Blk)) (D : Den) (W : DrawFn) (v0 : Int) (σ : H) : Ans :=
 joinB (fun c1 s2 =>
 some ((V.bool c1), s2)) fun k3 =>
 condK (leF (Int.ofNat 48) v0) (
 k3 (leF v0 (Int.ofNat 57)) σ) (
 k3 false σ)
theorem P36_0 (E : List (Nat × Blk)) (D : Den) (W : DrawFn) (N : Nat) (v0 : Int) (σ : H) :
  denC E D W N (C36_0 ) ⟨[(0, (V.int .u8 v0))], [], [], σ⟩ (Fin36 E) (fun _ _ => none) (Fin36 E) =
  T36_0 E D W  v0 σ := by kernel_rfl
def J36_0 (E : List (Nat × Blk)) (D : Den) (W : DrawFn) (N : Nat) : Int → H → Ans := T36_0 E D W 
theorem JE36_0 (E : List (Nat × Blk)) (D : Den) (W : DrawFn) (N : Nat) (v0 : Int) (σ : H) :
  denC E D W N C36_0 ⟨[(0, (V.int .u8 v0))], [], [], σ⟩ (Fin36 E) (fun _ _ => none) (Fin36 E) = J36_0 E D W N v0 σ := by
  refine (P36_0 E D W N   v0 σ).trans ?_
  kernel_rfl
def F36 (E : List (Nat × Blk)) (D : Den) (W : DrawFn) (N : Nat) (args : List V) (σ : H) : Ans :=
 rtCons args fun x1 l2 =>
 rtInt .u8 x1 fun x3 =>
 rtNil l2 (
 J36_0 E D W N x3 σ)
def A36 : XFn := ⟨9, [(.int .u8)], [(.tmp 2)], C36_0⟩
theorem FE36 (E : List (Nat × Blk)) (D : Den) (W : DrawFn) (N : Nat) (args : List V) (σ : H) : runX E D W N A36 args σ = F36 E D W N args σ := by
  unfold F36
  simp only [← JE36_0]
  kernel_rfl
theorem AO36 : A36.body.ok = true := by kernel_rfl

/-! ### F37: __ogham_lex.lexer_.number -/
def Fin37 (E : List (Nat × Blk)) : St → Ans := fun s => resK E s [(.tmp 2), (.tmp 3)] fun l => some (oneV l, s.σ)
def C37_0 (cc1 : XC) : XC := (.seq (.ops (.op (some 2) .any [] (.mov (.con (V.int .i64 (Int.ofNat 0)))) <|
 .op (some 3) .any [] (.mov (.con (V.str ⟨0, 0⟩))) <|
 .nil))
 (.seq (.ops (.op (some 10) .any [0] (.mov (.tmp 0)) <|
 .op (some 11) .any [10] (.nilck (.tmp 10)) <|
 .op (some 12) .any [11] (.faddr 0 (.tmp 11)) <|
 .op (some 13) .any [12] (.faddr 1 (.tmp 12)) <|
 .op (some 14) (.int .i64) [13] (.load none (.tmp 13)) <|
 .op (some 4) .any [14] (.mov (.tmp 14)) <|
 .nil))
 (.seq (.seq (.ops (.op (some 15) .any [0] (.mov (.tmp 0)) <|
 .op (some 16) .any [15] (.nilck (.tmp 15)) <|
 .op (some 17) .any [16] (.faddr 0 (.tmp 16)) <|
 .op (some 18) (.int .u8) [17] (.call 32 [(.tmp 17), (.con (V.int .i64 (Int.ofNat 0)))]) <|
 .op (some 19) .any [18] (.bin .eql .none (.tmp 18) (.con (V.int .u8 (Int.ofNat 45)))) <|
 .nil))
 (.cond (.tmp 19) (.ops (.op (some 20) .any [0] (.mov (.tmp 0)) <|
 .op (some 21) .any [20] (.nilck (.tmp 20)) <|
 .op (some 22) .any [21] (.faddr 0 (.tmp 21)) <|
 .op (some 23) .any [22] (.faddr 1 (.tmp 22)) <|
 .op (some 24) (.int .i64) [23] (.load none (.tmp 23)) <|
 .op (some 25) .any [24] (.bin .add .none (.tmp 24) (.con (V.int .i64 (Int.ofNat 1)))) <|
 .op (some 26) .any [20] (.nilck (.tmp 20)) <|
 .op (some 27) .any [26] (.faddr 0 (.tmp 26)) <|
 .op (some 28) .any [27] (.faddr 1 (.tmp 27)) <|
 .op none .any [28, 25] (.store 1 (.tmp 28) (.tmp 25)) <|
 .nil))
 .skip))
 (.keep [(0, .ptr), (4, (.int .i64))] [] [] cc1))))
def T37_0 (E : List (Nat × Blk)) (D : Den) (W : DrawFn) (K1 : Nat → Nat → Int → H → Ans) (v0b : Nat) (v0o : Nat) (σ : H) : Ans :=
 ldK E σ v0b (Nat.add v0o 1) fun u1 =>
 rtInt .i64 u1 fun x2 =>
 callK (D 32 [(V.ptr v0b v0o), (V.int .i64 (Int.ofNat 0))] σ) fun u3 s4 =>
 rtInt .u8 u3 fun x5 =>
 condK (eqF x5 (Int.ofNat 45)) (
 ldK E s4 v0b (Nat.add v0o 1) fun u6 =>
 rtInt .i64 u6 fun x7 =>
 stK 1 v0b (Nat.add v0o 1) (V.int .i64 (addF .i64 x7 (Int.ofNat 1))) s4 fun s8 =>
 K1 v0b v0o x2 s8) (
 K1 v0b v0o x2 s4)
def C37_1 (cc2 : XC) (cc3 : XC) : XC := (.seq (.ops (.op (some 29) .any [0] (.mov (.tmp 0)) <|
 .op (some 30) .any [29] (.nilck (.tmp 29)) <|
 .op (some 31) .any [30] (.faddr 0 (.tmp 30)) <|
 .op (some 32) .any [31] (.faddr 1 (.tmp 31)) <|
 .op (some 33) (.int .i64) [32] (.load none (.tmp 32)) <|
 .op (some 5) .any [33] (.mov (.tmp 33)) <|
 .nil))
 (.seq (.block 0 (.loop [(0, .ptr), (4, (.int .i64)), (5, (.int .i64))] [] [] cc3))
 (.keep [(0, .ptr), (4, (.int .i64)), (5, (.int .i64))] [] [] cc2)))
def T37_1 (E : List (Nat × Blk)) (D : Den) (W : DrawFn) (K3 : Nat → Nat → Int → Int → H → Ans) (v0b : Nat) (v0o : Nat) (v4 : Int) (σ : H) : Ans :=
 ldK E σ v0b (Nat.add v0o 1) fun u1 =>
 rtInt .i64 u1 fun x2 =>
 K3 v0b v0o v4 x2 σ
def C37_2 : XC := (.seq (.draw (.op (some 48) .any [0] (.mov (.tmp 0)) <|
 .op (some 49) .any [48] (.nilck (.tmp 48)) <|
 .op (some 50) .any [49] (.faddr 0 (.tmp 49)) <|
 .op (some 51) .any [50] (.faddr 0 (.tmp 50)) <|
 .op (some 52) .str [51] (.load none (.tmp 51)) <|
 .op (some 53) .any [4] (.mov (.tmp 4)) <|
 .op (some 54) .any [0] (.mov (.tmp 0)) <|
 .op (some 55) .any [54] (.nilck (.tmp 54)) <|
 .op (some 56) .any [55] (.faddr 0 (.tmp 55)) <|
 .op (some 57) .any [56] (.faddr 1 (.tmp 56)) <|
 .op (some 58) (.int .i64) [57] (.load none (.tmp 57)) <|
 .op (some 59) .any [52, 53, 58] (.sliceStr (.tmp 52) (some (.tmp 53)) (some (.tmp 58))) <|
 .op (some 60) .any [0] (.mov (.tmp 0)) <|
 .op (some 61) .any [60] (.nilck (.tmp 60)) <|
 .op (some 62) .any [61] (.faddr 0 (.tmp 61)) <|
 .op (some 63) .any [62] (.faddr 0 (.tmp 62)) <|
 .op (some 64) .str [63] (.load none (.tmp 63)) <|
 .op (some 65) .any [5] (.mov (.tmp 5)) <|
 .op (some 66) .any [64, 65] (.idxStr (.tmp 64) (.tmp 65)) <|
 .op (some 67) .any [66] (.bin .eql .none (.tmp 66) (.con (V.int .u8 (Int.ofNat 48)))) <|
 .op (some 6) .any [59] (.mov (.tmp 59)) <|
 .op (some 7) .any [67] (.mov (.tmp 67)) <|
 .nil) [0, 1, 3, 7, 15, 0, 0, 64, 192, 448, 960, 2047, 0, 4096, 12288, 28672, 61440, 0, 258048, 520192, 4095, 2097151])
 (.seq (.seq (.ops (.op (some 69) .any [6] (.mov (.tmp 6)) <|
 .op (some 70) (.tup [(.int .i64), .any]) [69] (.call 50 [(.tmp 69), (.con (V.int .i64 (Int.ofNat 10))), (.con (V.int .i64 (Int.ofNat 64)))]) <|
 .op (some 68) .any [70] (.mov (.tmp 70)) <|
 .op (some 71) .any [68] (.extract 0 (.tmp 68)) <|
 .op (some 72) .any [68] (.extract 1 (.tmp 68)) <|
 .op (some 8) .any [71] (.mov (.tmp 71)) <|
 .op (some 9) .any [72] (.mov (.tmp 72)) <|
 .nil))
 (.seq (.ops (.op (some 73) .any [9] (.mov (.tmp 9)) <|
 .op (some 74) .any [73] (.bin .neq (.iface true) (.tmp 73) (.con V.nili)) <|
 .op (some 75) .any [74] (.mov (.tmp 74)) <|
 .grp 75 false (.op (some 76) .any [7, 75] (.mov (.tmp 7)) <|
 .op (some 77) .any [76, 75] (.mov (.tmp 76)) <|
 .grp 77 true (.op (some 78) .any [0, 77] (.mov (.tmp 0)) <|
 .op (some 79) .any [78, 77] (.nilck (.tmp 78)) <|
 .op (some 80) .any [79, 77] (.faddr 0 (.tmp 79)) <|
 .op (some 81) .any [80, 77] (.faddr 1 (.tmp 80)) <|
 .op (some 82) (.int .i64) [81, 77] (.load none (.tmp 81)) <|
 .op (some 83) .any [5, 77] (.mov (.tmp 5)) <|
 .op (some 84) .any [82, 83, 77] (.bin .sub .none (.tmp 82) (.tmp 83)) <|
 .op (some 85) .any [84, 77] (.bin .gtr .none (.tmp 84) (.con (V.int .i64 (Int.ofNat 1)))) <|
 .op (some 86) .any [85, 77] (.mov (.tmp 85)) <|
 .grp 86 false (.op (some 87) .any [5, 86] (.mov (.tmp 5)) <|
 .op (some 88) .any [4, 86] (.mov (.tmp 4)) <|
 .op (some 89) .any [87, 88, 86] (.bin .gtr .none (.tmp 87) (.tmp 88)) <|
 .nil) 90 [86, 89, 77] (.tmp 86) (.con (V.bool true)) (.tmp 89) <|
 .nil) 91 [77, 90, 75] (.tmp 77) (.tmp 90) (.con (V.bool false)) <|
 .nil) 92 [75, 91] (.tmp 75) (.con (V.bool true)) (.tmp 91) <|
 .op (some 93) .any [92] (.mov (.tmp 92)) <|
 .grp 93 false (.op (some 94) .any [0, 93] (.mov (.tmp 0)) <|
 .op (some 95) .any [94, 93] (.nilck (.tmp 94)) <|
 .op (some 96) .any [95, 93] (.faddr 0 (.tmp 95)) <|
 .op (some 97) (.int .u8) [96, 93] (.call 32 [(.tmp 96), (.con (V.int .i64 (Int.ofNat 0)))]) <|
 .op (some 98) .bool [97, 93] (.call 34 [(.tmp 97)]) <|
 .nil) 99 [93, 98] (.tmp 93) (.con (V.bool true)) (.tmp 98) <|
 .nil))
 (.cond (.tmp 99) (.seq (.ops (.op (some 2) .any [] (.mov (.con (V.int .i64 (Int.ofNat 0)))) <|
 .op (some 3) .any [] (.mov (.con (V.str ⟨0, 0⟩))) <|
 .nil))
 .ret)
 .skip)))
 (.seq (.ops (.op (some 100) .any [6] (.mov (.tmp 6)) <|
 .op (some 2) .any [] (.mov (.con (V.int .i64 (Int.ofNat 3)))) <|
 .op (some 3) .any [100] (.mov (.tmp 100)) <|
 .nil))
 .ret)))
def T37_2 (E : List (Nat × Blk)) (D : Den) (W : DrawFn) (v0b : Nat) (v0o : Nat) (v4 : Int) (v5 : Int) (σ : H) : Ans :=
 ldK E σ v0b v0o fun u1 =>
 rtStr u1 fun x2 =>
 ldK E σ v0b (Nat.add v0o 1) fun u3 =>
 rtInt .i64 u3 fun x4 =>
 sliceStrX x2 (some (V.int .i64 v4)) (some (V.int .i64 x4)) fun t5 =>
 ldK E σ v0b v0o fun u6 =>
 rtStr u6 fun x7 =>
 idxStrX x7 v5 fun x8 =>
 callK (D 50 [(V.str t5), (V.int .i64 (Int.ofNat 10)), (V.int .i64 (Int.ofNat 64))] σ) fun u9 s10 =>
 rtTup u9 fun l11 =>
 rtCons l11 fun x12 l13 =>
 rtInt .i64 x12 fun x14 =>
 rtCons l13 fun x15 l16 =>
 rtNil l16 (
 eqK (.iface true) x15 V.nili fun c17 =>
 joinB (fun c18 s19 =>
 joinB (fun c21 s22 =>
 condK c21 (
 some ((V.tup [(V.int .i64 (Int.ofNat 0)), (V.str (BS.mk 0 0))]), s22)) (
 some ((V.tup [(V.int .i64 (Int.ofNat 3)), (V.str t5)]), s22))) fun k23 =>
 condK c18 (
 k23 true s19) (
 callK (D 32 [(V.ptr v0b v0o), (V.int .i64 (Int.ofNat 0))] s19) fun u24 s25 =>
 rtInt .u8 u24 fun x26 =>
 callK (D 34 [(V.int .u8 x26)] s25) fun u27 s28 =>
 rtBool u27 fun x29 =>
 k23 x29 s28)) fun k20 =>
 condK (not c17) (
 k20 true s10) (
 joinB (fun c30 s31 =>
 k20 c30 s31) fun k32 =>
 condK (eqF x8 (Int.ofNat 48)) (
 ldK E s10 v0b (Nat.add v0o 1) fun u33 =>
 rtInt .i64 u33 fun x34 =>
 joinB (fun c35 s36 =>
 k32 c35 s36) fun k37 =>
 condK (ltF (Int.ofNat 1) (subF .i64 x34 v5)) (
 k37 true s10) (
 k37 (ltF v4 v5) s10)) (
 k32 false s10)))
def C37_3 : XC := (.seq (.seq (.ops (.op (some 34) .any [0] (.mov (.tmp 0)) <|
 .op (some 35) .any [34] (.nilck (.tmp 34)) <|
 .op (some 36) .any [35] (.faddr 0 (.tmp 35)) <|
 .op (some 37) (.int .u8) [36] (.call 32 [(.tmp 36), (.con (V.int .i64 (Int.ofNat 0)))]) <|
 .op (some 38) .bool [37] (.call 36 [(.tmp 37)]) <|
 .nil))
 (.cond (.tmp 38) .skip
 (.exit 0)))
 (.block 1 (.ops (.op (some 39) .any [0] (.mov (.tmp 0)) <|
 .op (some 40) .any [39] (.nilck (.tmp 39)) <|
 .op (some 41) .any [40] (.faddr 0 (.tmp 40)) <|
 .op (some 42) .any [41] (.faddr 1 (.tmp 41)) <|
 .op (some 43) (.int .i64) [42] (.load none (.tmp 42)) <|
 .op (some 44) .any [43] (.bin .add .none (.tmp 43) (.con (V.int .i64 (Int.ofNat 1)))) <|
 .op (some 45) .any [39] (.nilck (.tmp 39)) <|
 .op (some 46) .any [45] (.faddr 0 (.tmp 45)) <|
 .op (some 47) .any [46] (.faddr 1 (.tmp 46)) <|
 .op none .any [47, 44] (.store 1 (.tmp 47) (.tmp 44)) <|
 .nil))))
def T37_3 (E : List (Nat × Blk)) (D : Den) (W : DrawFn) (K2 : Nat → Nat → Int → Int → H → Ans) (R3 : Nat → Nat → Int → Int → H → Ans) (v0b : Nat) (v0o : Nat) (v4 : Int) (v5 : Int) (σ : H) : Ans :=
 callK (D 32 [(V.ptr v0b v0o), (V.int .i64 (Int.ofNat 0))] σ) fun u1 s2 =>
 rtInt .u8 u1 fun x3 =>
 callK (D 36 [(V.int .u8 x3)] s2) fun u4 s5 =>
 rtBool u4 fun x6 =>
 condK x6 (
 ldK E s5 v0b (Nat.add v0o 1) fun u7 =>
 rtInt .i64 u7 fun x8 =>
 stK 1 v0b (Nat.add v0o 1) (V.int .i64 (addF .i64 x8 (Int.ofNat 1))) s5 fun s9 =>
 R3 v0b v0o v4 v5 s9) (
 K2 v0b v0o v4 v5 s5)
theorem P37_0 (E : List (Nat × Blk)) (D : Den) (W : DrawFn) (N : Nat) (cc1 : XC) (v0b : Nat) (v0o : Nat) (σ : H) :
  denC E D W N (C37_0 cc1) ⟨[(0, (V.ptr v0b v0o))], [], [], σ⟩ (Fin37 E) (fun _ _ => none) (Fin37 E) =
  T37_0 E D W (fun v0b v0o v4 σ => denC E D W N cc1 ⟨[(0, (V.ptr v0b v0o)), (4, (V.int .i64 v4))], [], [], σ⟩ (Fin37 E) (fun _ _ => none) (Fin37 E)) v0b v0o σ := by kernel_rfl
theorem P37_1 (E : List (Nat × Blk)) (D : Den) (W : DrawFn) (N : Nat) (cc2 : XC) (cc3 : XC) (v0b : Nat) (v0o : Nat) (v4 : Int) (σ : H) :
  denC E D W N (C37_1 cc2 cc3) ⟨[(0, (V.ptr v0b v0o)), (4, (V.int .i64 v4))], [], [], σ⟩ (Fin37 E) (fun _ _ => none) (Fin37 E) =
  T37_1 E D W (fun v0b v0o v4 v5 σ => iterK (fun rec s' => denC E D W N cc3 s' (fun s'' => keepS [(0, .ptr), (4, (.int .i64)), (5, (.int .i64))] [] [] s'' rec) (blkK 0 (fun s' => denC E D W N (.keep [(0, .ptr), (4, (.int .i64)), (5, (.int .i64))] [] [] cc2) s' (Fin37 E) (fun _ _ => none) (Fin37 E)) (fun _ _ => none)) (Fin37 E)) N ⟨[(0, (V.ptr v0b v0o)), (4, (V.int .i64 v4)), (5, (V.int .i64 v5))], [], [], σ⟩) v0b v0o v4 σ := by kernel_rfl
theorem P37_2 (E : List (Nat × Blk)) (D : Den) (W : DrawFn) (N : Nat) (v0b : Nat) (v0o : Nat) (v4 : Int) (v5 : Int) (σ : H) :
  denC E D W N (C37_2 ) ⟨[(0, (V.ptr v0b v0o)), (4, (V.int .i64 v4)), (5, (V.int .i64 v5))], [], [], σ⟩ (Fin37 E) (fun _ _ => none) (Fin37 E) =
  T37_2 E D W  v0b v0o v4 v5 σ := by kernel_rfl
theorem P37_3 (E : List (Nat × Blk)) (D : Den) (W : DrawFn) (N : Nat) (cc2 : XC) (li3 : St → Ans) (v0b : Nat) (v0o : Nat) (v4 : Int) (v5 : Int) (σ : H) :
  denC E D W N (C37_3 ) ⟨[(0, (V.ptr v0b v0o)), (4, (V.int .i64 v4)), (5, (V.int .i64 v5))], [], [], σ⟩ (fun s'' => keepS [(0, .ptr), (4, (.int .i64)), (5, (.int .i64))] [] [] s'' li3) (blkK 0 (fun s' => denC E D W N (.keep [(0, .ptr), (4, (.int .i64)), (5, (.int .i64))] [] [] cc2) s' (Fin37 E) (fun _ _ => none) (Fin37 E)) (fun _ _ => none)) (Fin37 E) =
  T37_3 E D W (fun v0b v0o v4 v5 σ => denC E D W N cc2 ⟨[(0, (V.ptr v0b v0o)), (4, (V.int .i64 v4)), (5, (V.int .i64 v5))], [], [], σ⟩ (Fin37 E) (fun _ _ => none) (Fin37 E)) (fun v0b v0o v4 v5 σ => li3 ⟨[(0, (V.ptr v0b v0o)), (4, (V.int .i64 v4)), (5, (V.int .i64 v5))], [], [], σ⟩) v0b v0o v4 v5 σ := by kernel_rfl
def J37_2 (E : List (Nat × Blk)) (D : Den) (W : DrawFn) (N : Nat) : Nat → Nat → Int → Int → H → Ans := T37_2 E D W 
theorem JE37_2 (E : List (Nat × Blk)) (D : Den) (W : DrawFn) (N : Nat) (v0b : Nat) (v0o : Nat) (v4 : Int) (v5 : Int) (σ : H) :
  denC E D W N C37_2 ⟨[(0, (V.ptr v0b v0o)), (4, (V.int .i64 v4)), (5, (V.int .i64 v5))], [], [], σ⟩ (Fin37 E) (fun _ _ => none) (Fin37 E) = J37_2 E D W N v0b v0o v4 v5 σ := by
  refine (P37_2 E D W N   v0b v0o v4 v5 σ).trans ?_
  kernel_rfl
def L37_3 (E : List (Nat × Blk)) (D : Den) (W : DrawFn) (N : Nat) (n : Nat) : Nat → Nat → Int → Int → H → Ans :=
  Nat.rec (fun _ _ _ _ _ => none) (fun _ ih => T37_3 E D W (J37_2 E D W N ) ih) n
theorem LE37_3 (E : List (Nat × Blk)) (D : Den) (W : DrawFn) (N : Nat) (n : Nat) : ∀ (v0b : Nat) (v0o : Nat) (v4 : Int) (v5 : Int) (σ : H),
  iterK (fun rec s' => denC E D W N C37_3 s' (fun s'' => keepS [(0, .ptr), (4, (.int .i64)), (5, (.int .i64))] [] [] s'' rec) (blkK 0 (fun s' => denC E D W N (.keep [(0, .ptr), (4, (.int .i64)), (5, (.int .i64))] [] [] C37_2) s' (Fin37 E) (fun _ _ => none) (Fin37 E)) (fun _ _ => none)) (Fin37 E)) n ⟨[(0, (V.ptr v0b v0o)), (4, (V.int .i64 v4)), (5, (V.int .i64 v5))], [], [], σ⟩ = L37_3 E D W N n v0b v0o v4 v5 σ := by
  induction n with
  | zero => intro v0b v0o v4 v5 σ; rfl
  | succ n ihn =>
    intro v0b v0o v4 v5 σ
    rw [iterK_succ]
    refine (P37_3 E D W N C37_2 (iterK (fun rec s' => denC E D W N C37_3 s' (fun s'' => keepS [(0, .ptr), (4, (.int .i64)), (5, (.int .i64))] [] [] s'' rec) (blkK 0 (fun s' => denC E D W N (.keep [(0, .ptr), (4, (.int .i64)), (5, (.int .i64))] [] [] C37_2) s' (Fin37 E) (fun _ _ => none) (Fin37 E)) (fun _ _ => none)) (Fin37 E)) n) v0b v0o v4 v5 σ).trans ?_
    simp only [ihn, JE37_2]
    kernel_rfl
def J37_1 (E : List (Nat × Blk)) (D : Den) (W : DrawFn) (N : Nat) : Nat → Nat → Int → H → Ans := T37_1 E D W (L37_3 E D W N N)
theorem JE37_1 (E : List (Nat × Blk)) (D : Den) (W : DrawFn) (N : Nat) (v0b : Nat) (v0o : Nat) (v4 : Int) (σ : H) :
  denC E D W N (C37_1 C37_2 C37_3) ⟨[(0, (V.ptr v0b v0o)), (4, (V.int .i64 v4))], [], [], σ⟩ (Fin37 E) (fun _ _ => none) (Fin37 E) = J37_1 E D W N v0b v0o v4 σ := by
  refine (P37_1 E D W N C37_2 C37_3  v0b v0o v4 σ).trans ?_
  simp only [LE37_3]
  kernel_rfl
def J37_0 (E : List (Nat × Blk)) (D : Den) (W : DrawFn) (N : Nat) : Nat → Nat → H → Ans := T37_0 E D W (J37_1 E D W N )
theorem JE37_0 (E : List (Nat × Blk)) (D : Den) (W : DrawFn) (N : Nat) (v0b : Nat) (v0o : Nat) (σ : H) :
  denC E D W N (C37_0 (C37_1 C37_2 C37_3)) ⟨[(0, (V.ptr v0b v0o))], [], [], σ⟩ (Fin37 E) (fun _ _ => none) (Fin37 E) = J37_0 E D W N v0b v0o σ := by
  refine (P37_0 E D W N (C37_1 C37_2 C37_3)  v0b v0o σ).trans ?_
  simp only [JE37_1]
  kernel_rfl
def F37 (E : List (Nat × Blk)) (D : Den) (W : DrawFn) (N : Nat) (args : List V) (σ : H) : Ans :=
 rtCons args fun x1 l2 =>
 rtPtr x1 fun b3 o4 =>
 rtNil l2 (
 J37_0 E D W N b3 o4 σ)
def A37 : XFn := ⟨101, [.ptr], [(.tmp 2), (.tmp 3)], (C37_0 (C37_1 C37_2 C37_3))⟩
theorem FE37 (E : List (Nat × Blk)) (D : Den) (W : DrawFn) (N : Nat) (args : List V) (σ : H) : runX E D W N A37 args σ = F37 E D W N args σ := by
  unfold F37
  simp only [← JE37_0]
  kernel_rfl
theorem AO37 : A37.body.ok = true := by kernel_rfl

/-! ### F40: __ogham_lex.lexer_.sign -/
def Fin40 (E : List (Nat × Blk)) : St → Ans := fun s => resK E s [(.tmp 2), (.tmp 3)] fun l => some (oneV l, s.σ)
def C40_0 (cc1 : XC) (cc2 : XC) : XC := (.seq (.ops (.op (some 2) .any [] (.mov (.con (V.int .i64 (Int.ofNat 0)))) <|
 .op (some 3) .any [] (.mov (.con (V.str ⟨0, 0⟩))) <|
 .nil))
 (.seq (.seq (.ops (.op (some 6) .any [] (.buildSlice 9 13 [(V.str ⟨0, 0⟩), (V.str ⟨0, 0⟩), (V.str ⟨0, 0⟩), (V.str ⟨0, 0⟩), (V.str ⟨0, 0⟩), (V.str ⟨0, 0⟩), (V.str ⟨0, 0⟩), (V.str ⟨0, 0⟩), (V.str ⟨0, 0⟩), (V.str ⟨0, 0⟩), (V.str ⟨0, 0⟩), (V.str ⟨0, 0⟩), (V.str ⟨0, 0⟩)] [(0, 1, (.con (V.str ⟨3, 4012602⟩))), (1, 1, (.con (V.str ⟨3, 3026478⟩))), (2, 1, (.con (V.str ⟨2, 11822⟩))), (3, 1, (.con (V.str ⟨2, 23387⟩))), (4, 1, (.con (V.str ⟨2, 23901⟩))), (5, 1, (.con (V.str ⟨1, 123⟩))), (6, 1, (.con (V.str ⟨1, 125⟩))), (7, 1, (.con (V.str ⟨1, 91⟩))), (8, 1, (.con (V.str ⟨1, 93⟩))), (9, 1, (.con (V.str ⟨1, 40⟩))), (10, 1, (.con (V.str ⟨1, 41⟩))), (11, 1, (.con (V.str ⟨1, 44⟩))), (12, 1, (.con (V.str ⟨1, 58⟩)))]) <|
 .op (some 7) .any [6] (.len false (.tmp 6)) <|
 .op (some 8) .any [] (.mov (.con (V.int .i64 (Int.ofNat 0)))) <|
 .nil))
 (.block 0 (.loop [(0, .ptr), (6, .any), (7, (.int .i64)), (8, (.int .i64))] [] [] cc2)))
 (.keep [] [] [] cc1)))
def T40_0 (E : List (Nat × Blk)) (D : Den) (W : DrawFn) (K2 : Nat → Nat → V → Int → Int → H → Ans) (v0b : Nat) (v0o : Nat) (σ : H) : Ans :=
 let s1 := newB σ (.cells [(V.str (BS.mk 3 4012602)), (V.str (BS.mk 3 3026478)), (V.str (BS.mk 2 11822)), (V.str (BS.mk 2 23387)), (V.str (BS.mk 2 23901)), (V.str (BS.mk 1 123)), (V.str (BS.mk 1 125)), (V.str (BS.mk 1 91)), (V.str (BS.mk 1 93)), (V.str (BS.mk 1 40)), (V.str (BS.mk 1 41)), (V.str (BS.mk 1 44)), (V.str (BS.mk 1 58))]);
 slenK (V.sl (H.next σ) 0 13 (.ex 13)) fun n2 =>
 K2 v0b v0o (V.sl (H.next σ) 0 13 (.ex 13)) (Int.ofNat n2) (Int.ofNat 0) s1
def C40_1 : XC := (.seq (.ops (.op (some 2) .any [] (.mov (.con (V.int .i64 (Int.ofNat 0)))) <|
 .op (some 3) .any [] (.mov (.con (V.str ⟨0, 0⟩))) <|
 .nil))
 .ret)
def T40_1 (E : List (Nat × Blk)) (D : Den) (W : DrawFn) (σ : H) : Ans :=
 some ((V.tup [(V.int .i64 (Int.ofNat 0)), (V.str (BS.mk 0 0))]), σ)
def C40_2 : XC := (.seq (.ops (.op (some 9) .any [8, 7] (.bin .lss .none (.tmp 8) (.tmp 7)) <|
 .nil))
 (.seq (.cond (.tmp 9) .skip
 (.exit 0))
 (.seq (.block 1 (.seq (.ops (.op (some 10) .any [6, 8] (.iaddrS 1 (.tmp 6) (.tmp 8)) <|
 .op (some 11) .str [10] (.load none (.tmp 10)) <|
 .op (some 5) .any [11] (.mov (.tmp 11)) <|
 .nil))
 (.seq (.ops (.op (some 12) .any [0] (.mov (.tmp 0)) <|
 .op (some 13) .any [12] (.nilck (.tmp 12)) <|
 .op (some 14) .any [13] (.faddr 0 (.tmp 13)) <|
 .op (some 15) .any [5] (.mov (.tmp 5)) <|
 .op (some 16) .bool [14, 15] (.call 33 [(.tmp 14), (.tmp 15)]) <|
 .nil))
 (.cond (.tmp 16) (.seq (.ops (.op (some 17) .any [0] (.mov (.tmp 0)) <|
 .op (some 18) .any [17] (.nilck (.tmp 17)) <|
 .op (some 19) .any [18] (.faddr 0 (.tmp 18)) <|
 .op (some 20) .any [19] (.faddr 1 (.tmp 19)) <|
 .op (some 21) (.int .i64) [20] (.load none (.tmp 20)) <|
 .op (some 22) .any [5] (.mov (.tmp 5)) <|
 .op (some 23) .any [22] (.len true (.tmp 22)) <|
 .op (some 24) .any [21, 23] (.bin .add .none (.tmp 21) (.tmp 23)) <|
 .op (some 25) .any [17] (.nilck (.tmp 17)) <|
 .op (some 26) .any [25] (.faddr 0 (.tmp 25)) <|
 .op (some 27) .any [26] (.faddr 1 (.tmp 26)) <|
 .op none .any [27, 24] (.store 1 (.tmp 27) (.tmp 24)) <|
 .nil))
 (.seq (.ops (.op (some 28) .any [5] (.mov (.tmp 5)) <|
 .op (some 2) .any [] (.mov (.con (V.int .i64 (Int.ofNat 6)))) <|
 .op (some 3) .any [28] (.mov (.tmp 28)) <|
 .nil))
 .ret))
 .skip))))
 (.ops (.op (some 29) .any [8] (.bin .add .none (.tmp 8) (.con (V.int .i64 (Int.ofNat 1)))) <|
 .op (some 8) .any [29] (.mov (.tmp 29)) <|
 .nil)))))
def T40_2 (E : List (Nat × Blk)) (D : Den) (W : DrawFn) (K1 : H → Ans) (R2 : Nat → Nat → V → Int → Int → H → Ans) (v0b : Nat) (v0o : Nat) (v6 : V) (v7 : Int) (v8 : Int) (σ : H) : Ans :=
 condK (ltF v8 v7) (
 iaddrSK 1 v6 v8 fun b1 o2 =>
 ldK E σ b1 o2 fun u3 =>
 rtStr u3 fun x4 =>
 callK (D 33 [(V.ptr v0b v0o), (V.str x4)] σ) fun u5 s6 =>
 rtBool u5 fun x7 =>
 condK x7 (
 ldK E s6 v0b (Nat.add v0o 1) fun u8 =>
 rtInt .i64 u8 fun x9 =>
 stK 1 v0b (Nat.add v0o 1) (V.int .i64 (addF .i64 x9 (Int.ofNat (BS.len x4)))) s6 fun s10 =>
 some ((V.tup [(V.int .i64 (Int.ofNat 6)), (V.str x4)]), s10)) (
 R2 v0b v0o v6 v7 (addF .i64 v8 (Int.ofNat 1)) s6)) (
 K1 σ)
theorem P40_0 (E : List (Nat × Blk)) (D : Den) (W : DrawFn) (N : Nat) (cc1 : XC) (cc2 : XC) (v0b : Nat) (v0o : Nat) (σ : H) :
  denC E D W N (C40_0 cc1 cc2) ⟨[(0, (V.ptr v0b v0o))], [], [], σ⟩ (Fin40 E) (fun _ _ => none) (Fin40 E) =
  T40_0 E D W (fun v0b v0o v6 v7 v8 σ => iterK (fun rec s' => denC E D W N cc2 s' (fun s'' => keepS [(0, .ptr), (6, .any), (7, (.int .i64)), (8, (.int .i64))] [] [] s'' rec) (blkK 0 (fun s' => denC E D W N (.keep [] [] [] cc1) s' (Fin40 E) (fun _ _ => none) (Fin40 E)) (fun _ _ => none)) (Fin40 E)) N ⟨[(0, (V.ptr v0b v0o)), (6, v6), (7, (V.int .i64 v7)), (8, (V.int .i64 v8))], [], [], σ⟩) v0b v0o σ := by kernel_rfl
theorem P40_1 (E : List (Nat × Blk)) (D : Den) (W : DrawFn) (N : Nat) (σ : H) :
  denC E D W N (C40_1 ) ⟨[], [], [], σ⟩ (Fin40 E) (fun _ _ => none) (Fin40 E) =
  T40_1 E D W   σ := by kernel_rfl
theorem P40_2 (E : List (Nat × Blk)) (D : Den) (W : DrawFn) (N : Nat) (cc1 : XC) (li2 : St → Ans) (v0b : Nat) (v0o : Nat) (v6 : V) (v7 : Int) (v8 : Int) (σ : H) :
  denC E D W N (C40_2 ) ⟨[(0, (V.ptr v0b v0o)), (6, v6), (7, (V.int .i64 v7)), (8, (V.int .i64 v8))], [], [], σ⟩ (fun s'' => keepS [(0, .ptr), (6, .any), (7, (.int .i64)), (8, (.int .i64))] [] [] s'' li2) (blkK 0 (fun s' => denC E D W N (.keep [] [] [] cc1) s' (Fin40 E) (fun _ _ => none) (Fin40 E)) (fun _ _ => none)) (Fin40 E) =
  T40_2 E D W (fun  σ => denC E D W N cc1 ⟨[], [], [], σ⟩ (Fin40 E) (fun _ _ => none) (Fin40 E)) (fun v0b v0o v6 v7 v8 σ => li2 ⟨[(0, (V.ptr v0b v0o)), (6, v6), (7, (V.int .i64 v7)), (8, (V.int .i64 v8))], [], [], σ⟩) v0b v0o v6 v7 v8 σ := by kernel_rfl
def J40_1 (E : List (Nat × Blk)) (D : Den) (W : DrawFn) (N : Nat) : H → Ans := T40_1 E D W 
theorem JE40_1 (E : List (Nat × Blk)) (D : Den) (W : DrawFn) (N : Nat) (σ : H) :
  denC E D W N C40_1 ⟨[], [], [], σ⟩ (Fin40 E) (fun _ _ => none) (Fin40 E) = J40_1 E D W N  σ := by
  refine (P40_1 E D W N    σ).trans ?_
  kernel_rfl
def L40_2 (E : List (Nat × Blk)) (D : Den) (W : DrawFn) (N : Nat) (n : Nat) : Nat → Nat → V → Int → Int → H → Ans :=
  Nat.rec (fun _ _ _ _ _ _ => none) (fun _ ih => T40_2 E D W (J40_1 E D W N ) ih) n
theorem LE40_2 (E : List (Nat × Blk)) (D : Den) (W : DrawFn) (N : Nat) (n : Nat) : ∀ (v0b : Nat) (v0o : Nat) (v6 : V) (v7 : Int) (v8 : Int) (σ : H),
  iterK (fun rec s' => denC E D W N C40_2 s' (fun s'' => keepS [(0, .ptr), (6, .any), (7, (.int .i64)), (8, (.int .i64))] [] [] s'' rec) (blkK 0 (fun s' => denC E D W N (.keep [] [] [] C40_1) s' (Fin40 E) (fun _ _ => none) (Fin40 E)) (fun _ _ => none)) (Fin40 E)) n ⟨[(0, (V.ptr v0b v0o)), (6, v6), (7, (V.int .i64 v7)), (8, (V.int .i64 v8))], [], [], σ⟩ = L40_2 E D W N n v0b v0o v6 v7 v8 σ := by
  induction n with
  | zero => intro v0b v0o v6 v7 v8 σ; rfl
  | succ n ihn =>
    intro v0b v0o v6 v7 v8 σ
    rw [iterK_succ]
    refine (P40_2 E D W N C40_1 (iterK (fun rec s' => denC E D W N C40_2 s' (fun s'' => keepS [(0, .ptr), (6, .any), (7, (.int .i64)), (8, (.int .i64))] [] [] s'' rec) (blkK 0 (fun s' => denC E D W N (.keep [] [] [] C40_1) s' (Fin40 E) (fun _ _ => none) (Fin40 E)) (fun _ _ => none)) (Fin40 E)) n) v0b v0o v6 v7 v8 σ).trans ?_
    simp only [ihn, JE40_1]
    kernel_rfl
def J40_0 (E : List (Nat × Blk)) (D : Den) (W : DrawFn) (N : Nat) : Nat → Nat → H → Ans := T40_0 E D W (L40_2 E D W N N)
theorem JE40_0 (E : List (Nat × Blk)) (D : Den) (W : DrawFn) (N : Nat) (v0b : Nat) (v0o : Nat) (σ : H) :
  denC E D W N (C40_0 C40_1 C40_2) ⟨[(0, (V.ptr v0b v0o))], [], [], σ⟩ (Fin40 E) (fun _ _ => none) (Fin40 E) = J40_0 E D W N v0b v0o σ := by
  refine (P40_0 E D W N C40_1 C40_2  v0b v0o σ).trans ?_
  simp only [LE40_2]
  kernel_rfl
def F40 (E : List (Nat × Blk)) (D : Den) (W : DrawFn) (N : Nat) (args : List V) (σ : H) : Ans :=
 rtCons args fun x1 l2 =>
 rtPtr x1 fun b3 o4 =>
 rtNil l2 (
 J40_0 E D W N b3 o4 σ)
def A40 : XFn := ⟨30, [.ptr], [(.tmp 2), (.tmp 3)], (C40_0 C40_1 C40_2)⟩
theorem FE40 (E : List (Nat × Blk)) (D : Den) (W : DrawFn) (N : Nat) (args : List V) (σ : H) : runX E D W N A40 args σ = F40 E D W N args σ := by
  unfold F40
  simp only [← JE40_0]
  kernel_rfl
theorem AO40 : A40.body.ok = true := by kernel_rfl

/-! ### F41: __ogham_syntax.parser_.fail -/
def Fin41 (E : List (Nat × Blk)) : St → Ans := fun s => resK E s [(.tmp 6)] fun l => some (oneV l, s.σ)
def C41_0 (cc1 : XC) : XC := (.seq (.ops (.op (some 6) .any [] (.mov (.con (V.bool false))) <|
 .nil))
 (.seq (.seq (.ops (.op (some 7) .any [0] (.mov (.tmp 0)) <|
 .op (some 8) .any [7] (.nilck (.tmp 7)) <|
 .op (some 9) .any [8] (.faddr 8 (.tmp 8)) <|
 .op (some 10) (.int .i64) [9] (.load none (.tmp 9)) <|
 .op (some 11) .any [10] (.bin .eql .none (.tmp 10) (.con (V.int .i64 (Int.ofNat 0)))) <|
 .nil))
 (.cond (.tmp 11) (.ops (.op (some 12) .any [0] (.mov (.tmp 0)) <|
 .op (some 13) .any [0] (.mov (.tmp 0)) <|
 .op (some 14) .any [1] (.mov (.tmp 1)) <|
 .op (some 15) .any [2] (.mov (.tmp 2)) <|
 .op (some 16) .any [12] (.nilck (.tmp 12)) <|
 .op (some 17) .any [16] (.faddr 7 (.tmp 16)) <|
 .op none .any [17, 14] (.store 1 (.tmp 17) (.tmp 14)) <|
 .op (some 18) .any [13] (.nilck (.tmp 13)) <|
 .op (some 19) .any [18] (.faddr 8 (.tmp 18)) <|
 .op none .any [19, 15] (.store 1 (.tmp 19) (.tmp 15)) <|
 .nil))
 .skip))
 (.keep [] [] [] cc1)))
def T41_0 (E : List (Nat × Blk)) (D : Den) (W : DrawFn) (K1 : H → Ans) (v0b : Nat) (v0o : Nat) (v1 : Int) (v2 : Int) (σ : H) : Ans :=
 ldK E σ v0b (Nat.add v0o 8) fun u1 =>
 rtInt .i64 u1 fun x2 =>
 condK (eqF x2 (Int.ofNat 0)) (
 stK 1 v0b (Nat.add v0o 7) (V.int .i64 v1) σ fun s3 =>
 stK 1 v0b (Nat.add v0o 8) (V.int .i64 v2) s3 fun s4 =>
 K1 s4) (
 K1 σ)
def C41_1 : XC := (.seq (.ops (.op (some 6) .any [] (.mov (.con (V.bool false))) <|
 .nil))
 .ret)
def T41_1 (E : List (Nat × Blk)) (D : Den) (W : DrawFn) (σ : H) : Ans :=
 some ((V.bool false), σ)
theorem P41_0 (E : List (Nat × Blk)) (D : Den) (W : DrawFn) (N : Nat) (cc1 : XC) (v0b : Nat) (v0o : Nat) (v1 : Int) (v2 : Int) (σ : H) :
  denC E D W N (C41_0 cc1) ⟨[(0, (V.ptr v0b v0o)), (1, (V.int .i64 v1)), (2, (V.int .i64 v2))], [], [], σ⟩ (Fin41 E) (fun _ _ => none) (Fin41 E) =
  T41_0 E D W (fun  σ => denC E D W N cc1 ⟨[], [], [], σ⟩ (Fin41 E) (fun _ _ => none) (Fin41 E)) v0b v0o v1 v2 σ := by kernel_rfl
theorem P41_1 (E : List (Nat × Blk)) (D : Den) (W : DrawFn) (N : Nat) (σ : H) :
  denC E D W N (C41_1 ) ⟨[], [], [], σ⟩ (Fin41 E) (fun _ _ => none) (Fin41 E) =
  T41_1 E D W   σ := by kernel_rfl
def J41_1 (E : List (Nat × Blk)) (D : Den) (W : DrawFn) (N : Nat) : H → Ans := T41_1 E D W 
theorem JE41_1 (E : List (Nat × Blk)) (D : Den) (W : DrawFn) (N : Nat) (σ : H) :
  denC E D W N C41_1 ⟨[], [], [], σ⟩ (Fin41 E) (fun _ _ => none) (Fin41 E) = J41_1 E D W N  σ := by
  refine (P41_1 E D W N    σ).trans ?_
  kernel_rfl
def J41_0 (E : List (Nat × Blk)) (D : Den) (W : DrawFn) (N : Nat) : Nat → Nat → Int → Int → H → Ans := T41_0 E D W (J41_1 E D W N )
theorem JE41_0 (E : List (Nat × Blk)) (D : Den) (W : DrawFn) (N : Nat) (v0b : Nat) (v0o : Nat) (v1 : Int) (v2 : Int) (σ : H) :
  denC E D W N (C41_0 C41_1) ⟨[(0, (V.ptr v0b v0o)), (1, (V.int .i64 v1)), (2, (V.int .i64 v2))], [], [], σ⟩ (Fin41 E) (fun _ _ => none) (Fin41 E) = J41_0 E D W N v0b v0o v1 v2 σ := by
  refine (P41_0 E D W N C41_1  v0b v0o v1 v2 σ).trans ?_
  simp only [JE41_1]
  kernel_rfl
def F41 (E : List (Nat × Blk)) (D : Den) (W : DrawFn) (N : Nat) (args : List V) (σ : H) : Ans :=
 rtCons args fun x1 l2 =>
 rtPtr x1 fun b3 o4 =>
 rtCons l2 fun x5 l6 =>
 rtInt .i64 x5 fun x7 =>
 rtCons l6 fun x8 l9 =>
 rtInt .i64 x8 fun x10 =>
 rtNil l9 (
 J41_0 E D W N b3 o4 x7 x10 σ)
def A41 : XFn := ⟨20, [.ptr, (.int .i64), (.int .i64)], [(.tmp 6)], (C41_0 C41_1)⟩
theorem FE41 (E : List (Nat × Blk)) (D : Den) (W : DrawFn) (N : Nat) (args : List V) (σ : H) : runX E D W N A41 args σ = F41 E D W N args σ := by
  unfold F41
  simp only [← JE41_0]
  kernel_rfl
theorem AO41 : A41.body.ok = true := by kernel_rfl

/-! ### F42: __ogham_syntax.stream_.next -/
def Fin42 (E : List (Nat × Blk)) : St → Ans := fun s => resK E s [(.cell 2 (some 3))] fun l => some (oneV l, s.σ)
def C42_0 (cc1 : XC) : XC := (.seq (.ops (.pal 2 [] 75 [(V.int .i64 (Int.ofNat 0)), (V.str ⟨0, 0⟩), (V.int .i64 (Int.ofNat 0))] <|
 .nil))
 (.seq (.draw (.op (some 4) .any [0] (.mov (.tmp 0)) <|
 .op (some 5) .any [4] (.nilck (.tmp 4)) <|
 .op (some 6) .any [5] (.faddr 0 (.tmp 5)) <|
 .op (some 7) .any [6] (.load none (.tmp 6)) <|
 .op (some 8) .any [0] (.mov (.tmp 0)) <|
 .op (some 9) .any [8] (.nilck (.tmp 8)) <|
 .op (some 10) .any [9] (.faddr 1 (.tmp 9)) <|
 .op (some 11) (.int .i64) [10] (.load none (.tmp 10)) <|
 .op (some 12) .any [7, 11] (.iaddrS 3 (.tmp 7) (.tmp 11)) <|
 .op (some 13) (.agg [(.int .i64), .str, (.int .i64)]) [12] (.load (some 3) (.tmp 12)) <|
 .pal 3 [] 75 [(V.int .i64 (Int.ofNat 0)), (V.str ⟨0, 0⟩), (V.int .i64 (Int.ofNat 0))] <|
 .op none (.agg [(.int .i64), .str, (.int .i64)]) [3, 13] (.store 3 (.tmp 3) (.tmp 13)) <|
 .nil) [0, 1, 3, 7, 0, 16, 48, 112, 255, 511, 0, 2047])
 (.seq (.seq (.ops (.op (some 14) .any [3] (.faddr 0 (.tmp 3)) <|
 .op (some 15) (.int .i64) [14] (.load none (.tmp 14)) <|
 .op (some 16) .any [15] (.bin .neq .none (.tmp 15) (.con (V.int .i64 (Int.ofNat 0)))) <|
 .nil))
 (.cond (.tmp 16) (.ops (.op (some 17) .any [0] (.mov (.tmp 0)) <|
 .op (some 18) .any [17] (.nilck (.tmp 17)) <|
 .op (some 19) .any [18] (.faddr 1 (.tmp 18)) <|
 .op (some 20) (.int .i64) [19] (.load none (.tmp 19)) <|
 .op (some 21) .any [20] (.bin .add .none (.tmp 20) (.con (V.int .i64 (Int.ofNat 1)))) <|
 .op (some 22) .any [17] (.nilck (.tmp 17)) <|
 .op (some 23) .any [22] (.faddr 1 (.tmp 22)) <|
 .op none .any [23, 21] (.store 1 (.tmp 23) (.tmp 21)) <|
 .nil))
 .skip))
 (.keep [] [2, 3] [(2, [(.int .i64), .str, (.int .i64)]), (3, [(.int .i64), .str, (.int .i64)])] cc1))))
def T42_0 (E : List (Nat × Blk)) (D : Den) (W : DrawFn) (K1 : Int → BS → Int → Int → BS → Int → H → Ans) (v0b : Nat) (v0o : Nat) (σ : H) : Ans :=
 ldK E σ v0b v0o fun u1 =>
 ldK E σ v0b (Nat.add v0o 1) fun u2 =>
 rtInt .i64 u2 fun x3 =>
 iaddrSK 3 u1 x3 fun b4 o5 =>
 ldnK E σ b4 o5 3 fun l6 =>
 rtCons l6 fun x7 l8 =>
 rtInt .i64 x7 fun x9 =>
 rtCons l8 fun x10 l11 =>
 rtStr x10 fun x12 =>
 rtCons l11 fun x13 l14 =>
 rtInt .i64 x13 fun x15 =>
 rtNil l14 (
 condK (not (eqF x9 (Int.ofNat 0))) (
 ldK E σ v0b (Nat.add v0o 1) fun u16 =>
 rtInt .i64 u16 fun x17 =>
 stK 1 v0b (Nat.add v0o 1) (V.int .i64 (addF .i64 x17 (Int.ofNat 1))) σ fun s18 =>
 K1 (Int.ofNat 0) (BS.mk 0 0) (Int.ofNat 0) x9 x12 x15 s18) (
 K1 (Int.ofNat 0) (BS.mk 0 0) (Int.ofNat 0) x9 x12 x15 σ))
def C42_1 : XC := (.seq (.ops (.op (some 24) (.agg [(.int .i64), .str, (.int .i64)]) [3] (.load (some 3) (.tmp 3)) <|
 .op none (.agg [(.int .i64), .str, (.int .i64)]) [2, 24] (.store 3 (.tmp 2) (.tmp 24)) <|
 .nil))
 .ret)
def T42_1 (E : List (Nat × Blk)) (D : Den) (W : DrawFn) (r2_0 : Int) (r2_1 : BS) (r2_2 : Int) (r3_0 : Int) (r3_1 : BS) (r3_2 : Int) (σ : H) : Ans :=
 some ((V.agg [(V.int .i64 r3_0), (V.str r3_1), (V.int .i64 r3_2)]), σ)
theorem P42_0 (E : List (Nat × Blk)) (D : Den) (W : DrawFn) (N : Nat) (cc1 : XC) (v0b : Nat) (v0o : Nat) (σ : H) :
  denC E D W N (C42_0 cc1) ⟨[(0, (V.ptr v0b v0o))], [], [], σ⟩ (Fin42 E) (fun _ _ => none) (Fin42 E) =
  T42_0 E D W (fun r2_0 r2_1 r2_2 r3_0 r3_1 r3_2 σ => denC E D W N cc1 ⟨[], [(2, (2, 0)), (3, (3, 0))], [(2, [(V.int .i64 r2_0), (V.str r2_1), (V.int .i64 r2_2)]), (3, [(V.int .i64 r3_0), (V.str r3_1), (V.int .i64 r3_2)])], σ⟩ (Fin42 E) (fun _ _ => none) (Fin42 E)) v0b v0o σ := by kernel_rfl
theorem P42_1 (E : List (Nat × Blk)) (D : Den) (W : DrawFn) (N : Nat) (r2_0 : Int) (r2_1 : BS) (r2_2 : Int) (r3_0 : Int) (r3_1 : BS) (r3_2 : Int) (σ : H) :
  denC E D W N (C42_1 ) ⟨[], [(2, (2, 0)), (3, (3, 0))], [(2, [(V.int .i64 r2_0), (V.str r2_1), (V.int .i64 r2_2)]), (3, [(V.int .i64 r3_0), (V.str r3_1), (V.int .i64 r3_2)])], σ⟩ (Fin42 E) (fun _ _ => none) (Fin42 E) =
  T42_1 E D W  r2_0 r2_1 r2_2 r3_0 r3_1 r3_2 σ := by kernel_rfl
def J42_1 (E : List (Nat × Blk)) (D : Den) (W : DrawFn) (N : Nat) : Int → BS → Int → Int → BS → Int → H → Ans := T42_1 E D W 
theorem JE42_1 (E : List (Nat × Blk)) (D : Den) (W : DrawFn) (N : Nat) (r2_0 : Int) (r2_1 : BS) (r2_2 : Int) (r3_0 : Int) (r3_1 : BS) (r3_2 : Int) (σ : H) :
  denC E D W N C42_1 ⟨[], [(2, (2, 0)), (3, (3, 0))], [(2, [(V.int .i64 r2_0), (V.str r2_1), (V.int .i64 r2_2)]), (3, [(V.int .i64 r3_0), (V.str r3_1), (V.int .i64 r3_2)])], σ⟩ (Fin42 E) (fun _ _ => none) (Fin42 E) = J42_1 E D W N r2_0 r2_1 r2_2 r3_0 r3_1 r3_2 σ := by
  refine (P42_1 E D W N   r2_0 r2_1 r2_2 r3_0 r3_1 r3_2 σ).trans ?_
  kernel_rfl
def J42_0 (E : List (Nat × Blk)) (D : Den) (W : DrawFn) (N : Nat) : Nat → Nat → H → Ans := T42_0 E D W (J42_1 E D W N )
theorem JE42_0 (E : List (Nat × Blk)) (D : Den) (W : DrawFn) (N : Nat) (v0b : Nat) (v0o : Nat) (σ : H) :
  denC E D W N (C42_0 C42_1) ⟨[(0, (V.ptr v0b v0o))], [], [], σ⟩ (Fin42 E) (fun _ _ => none) (Fin42 E) = J42_0 E D W N v0b v0o σ := by
  refine (P42_0 E D W N C42_1  v0b v0o σ).trans ?_
  simp only [JE42_1]
  kernel_rfl
def F42 (E : List (Nat × Blk)) (D : Den) (W : DrawFn) (N : Nat) (args : List V) (σ : H) : Ans :=
 rtCons args fun x1 l2 =>
 rtPtr x1 fun b3 o4 =>
 rtNil l2 (
 J42_0 E D W N b3 o4 σ)
def A42 : XFn := ⟨25, [.ptr], [(.cell 2 (some 3))], (C42_0 C42_1)⟩
theorem FE42 (E : List (Nat × Blk)) (D : Den) (W : DrawFn) (N : Nat) (args : List V) (σ : H) : runX E D W N A42 args σ = F42 E D W N args σ := by
  unfold F42
  simp only [← JE42_0]
  kernel_rfl
theorem AO42 : A42.body.ok = true := by kernel_rfl

/-! ### F43: __ogham_syntax.stream_.is -/
def Fin43 (E : List (Nat × Blk)) : St → Ans := fun s => resK E s [(.tmp 4)] fun l => some (oneV l, s.σ)
def C43_0 : XC := (.seq (.ops (.op (some 4) .any [] (.mov (.con (V.bool false))) <|
 .nil))
 (.seq (.seq (.ops (.op (some 5) .any [0] (.mov (.tmp 0)) <|
 .op (some 6) .any [1] (.mov (.tmp 1)) <|
 .op (some 7) .bool [5, 6] (.call 22 [(.tmp 5), (.tmp 6)]) <|
 .op (some 8) .any [7] (.un .not (.tmp 7)) <|
 .nil))
 (.cond (.tmp 8) (.seq (.ops (.op (some 4) .any [] (.mov (.con (V.bool false))) <|
 .nil))
 .ret)
 .skip))
 (.seq (.ops (.op (some 9) .any [0] (.mov (.tmp 0)) <|
 .op (some 10) (.agg [(.int .i64), .str, (.int .i64)]) [9] (.call 42 [(.tmp 9)]) <|
 .nil))
 (.seq (.ops (.op (some 4) .any [] (.mov (.con (V.bool true))) <|
 .nil))
 .ret))))
def T43_0 (E : List (Nat × Blk)) (D : Den) (W : DrawFn) (v0 : V) (v1 : BS) (σ : H) : Ans :=
 callK (D 22 [v0, (V.str v1)] σ) fun u1 s2 =>
 rtBool u1 fun x3 =>
 condK (not x3) (
 some ((V.bool false), s2)) (
 callK (D 42 [v0] s2) fun u4 s5 =>
 rtAgg u4 fun l6 =>
 rtCons l6 fun x7 l8 =>
 rtInt .i64 x7 fun x9 =>
 rtCons l8 fun x10 l11 =>
 rtStr x10 fun x12 =>
 rtCons l11 fun x13 l14 =>
 rtInt .i64 x13 fun x15 =>
 rtNil l14 (
 some ((V.bool true), s5)))
theorem P43_0 (E : List (Nat × Blk)) (D : Den) (W : DrawFn) (N : Nat) (v0 : V) (v1 : BS) (σ : H) :
  denC E D W N (C43_0 ) ⟨[(0, v0), (1, (V.str v1))], [], [], σ⟩ (Fin43 E) (fun _ _ => none) (Fin43 E) =
  T43_0 E D W  v0 v1 σ := by kernel_rfl
def J43_0 (E : List (Nat × Blk)) (D : Den) (W : DrawFn) (N : Nat) : V → BS → H → Ans := T43_0 E D W 
theorem JE43_0 (E : List (Nat × Blk)) (D : Den) (W : DrawFn) (N : Nat) (v0 : V) (v1 : BS) (σ : H) :
  denC E D W N C43_0 ⟨[(0, v0), (1, (V.str v1))], [], [], σ⟩ (Fin43 E) (fun _ _ => none) (Fin43 E) = J43_0 E D W N v0 v1 σ := by
  refine (P43_0 E D W N   v0 v1 σ).trans ?_
  kernel_rfl
def F43 (E : List (Nat × Blk)) (D : Den) (W : DrawFn) (N : Nat) (args : List V) (σ : H) : Ans :=
 rtCons args fun x1 l2 =>
 rtCons l2 fun x3 l4 =>
 rtStr x3 fun x5 =>
 rtNil l4 (
 J43_0 E D W N x1 x5 σ)
def A43 : XFn := ⟨11, [.any, .str], [(.tmp 4)], C43_0⟩
theorem FE43 (E : List (Nat × Blk)) (D : Den) (W : DrawFn) (N : Nat) (args : List V) (σ : H) : runX E D W N A43 args σ = F43 E D W N args σ := by
  unfold F43
  simp only [← JE43_0]
  kernel_rfl
theorem AO43 : A43.body.ok = true := by kernel_rfl

/-! ### F44: __ogham_syntax.parser_.typ -/
def Fin44 (E : List (Nat × Blk)) : St → Ans := fun s => resK E s [(.tmp 4), (.tmp 5)] fun l => some (oneV l, s.σ)
def C44_0 : XC := (.seq (.ops (.op (some 4) .any [] (.mov (.con (V.int .i64 (Int.ofNat 0)))) <|
 .op (some 5) .any [] (.mov (.con (V.bool false))) <|
 .nil))
 (.seq (.ops (.op (some 10) .any [0] (.mov (.tmp 0)) <|
 .op (some 11) .any [10] (.nilck (.tmp 10)) <|
 .op (some 12) .any [11] (.faddr 0 (.tmp 11)) <|
 .op (some 13) (.agg [(.int .i64), .str, (.int .i64)]) [12] (.call 23 [(.tmp 12)]) <|
 .pal 6 [] 75 [(V.int .i64 (Int.ofNat 0)), (V.str ⟨0, 0⟩), (V.int .i64 (Int.ofNat 0))] <|
 .op none (.agg [(.int .i64), .str, (.int .i64)]) [6, 13] (.store 3 (.tmp 6) (.tmp 13)) <|
 .nil))
 (.seq (.block 0 (.seq (.ops (.op (some 15) (.agg [(.int .i64), .str, (.int .i64)]) [6] (.load (some 3) (.tmp 6)) <|
 .op (some 16) .bool [15] (.call 52 [(.tmp 15)]) <|
 .op (some 17) .any [16] (.un .not (.tmp 16)) <|
 .op (some 14) .any [17] (.mov (.tmp 17)) <|
 .nil))
 (.cond (.tmp 14) (.seq (.ops (.op (some 18) .any [0] (.mov (.tmp 0)) <|
 .op (some 19) .any [6] (.faddr 2 (.tmp 6)) <|
 .op (some 20) (.int .i64) [19] (.load none (.tmp 19)) <|
 .op (some 21) .bool [18, 20] (.call 41 [(.tmp 18), (.tmp 20), (.con (V.int .i64 (Int.ofNat 7)))]) <|
 .op (some 4) .any [] (.mov (.con (V.int .i64 (Int.ofNat 0)))) <|
 .op (some 5) .any [21] (.mov (.tmp 21)) <|
 .nil))
 .ret)
 (.seq (.ops (.op (some 23) .any [1] (.mov (.tmp 1)) <|
 .op (some 24) .any [23] (.bin .gtr .none (.tmp 23) (.con (V.int .i64 (Int.ofNat 16)))) <|
 .op (some 25) .any [24] (.mov (.tmp 24)) <|
 .grp 25 false (.op (some 26) .any [0, 25] (.mov (.tmp 0)) <|
 .op (some 27) .any [26, 25] (.nilck (.tmp 26)) <|
 .op (some 28) .any [27, 25] (.faddr 2 (.tmp 27)) <|
 .op (some 29) .any [28, 25] (.faddr 4 (.tmp 28)) <|
 .op (some 30) .any [29, 25] (.load none (.tmp 29)) <|
 .op (some 31) .any [30, 25] (.len false (.tmp 30)) <|
 .op (some 32) .any [31, 25] (.bin .geq .none (.tmp 31) (.con (V.int .i64 (Int.ofNat 300)))) <|
 .nil) 33 [25, 32] (.tmp 25) (.con (V.bool true)) (.tmp 32) <|
 .op (some 22) .any [33] (.mov (.tmp 33)) <|
 .nil))
 (.cond (.tmp 22) (.seq (.ops (.op (some 34) .any [0] (.mov (.tmp 0)) <|
 .op (some 35) .any [6] (.faddr 2 (.tmp 6)) <|
 .op (some 36) (.int .i64) [35] (.load none (.tmp 35)) <|
 .op (some 37) .bool [34, 36] (.call 41 [(.tmp 34), (.tmp 36), (.con (V.int .i64 (Int.ofNat 5)))]) <|
 .op (some 4) .any [] (.mov (.con (V.int .i64 (Int.ofNat 0)))) <|
 .op (some 5) .any [37] (.mov (.tmp 37)) <|
 .nil))
 .ret)
 .skip)))))
 (.seq (.ops (.op (some 38) .any [0] (.mov (.tmp 0)) <|
 .op (some 39) .any [38] (.nilck (.tmp 38)) <|
 .op (some 40) .any [39] (.faddr 2 (.tmp 39)) <|
 .op (some 41) .any [40] (.faddr 4 (.tmp 40)) <|
 .op (some 42) .any [41] (.load none (.tmp 41)) <|
 .op (some 43) .any [42] (.len false (.tmp 42)) <|
 .op (some 7) .any [43] (.mov (.tmp 43)) <|
 .nil))
 (.seq (.ops (.op (some 44) .any [0] (.mov (.tmp 0)) <|
 .op (some 45) .any [0] (.mov (.tmp 0)) <|
 .op (some 46) .any [45] (.nilck (.tmp 45)) <|
 .op (some 47) .any [46] (.faddr 2 (.tmp 46)) <|
 .op (some 48) .any [47] (.faddr 4 (.tmp 47)) <|
 .op (some 49) .any [48] (.load none (.tmp 48)) <|
 .op (some 50) (.agg [(.int .i64), .str, .bool, (.int .i64), (.int .i64), .bool, .bool, .bool, .bool, (.int .i64), (.int .i64), .any, .any, (.int .i64), .bool, (.int .i64)]) [] (.build [(V.int .i64 (Int.ofNat 0)), (V.str ⟨0, 0⟩), (V.bool false), (V.int .i64 (Int.ofNat 0)), (V.int .i64 (Int.ofNat 0)), (V.bool false), (V.bool false), (V.bool false), (V.bool false), (V.int .i64 (Int.ofNat 0)), (V.int .i64 (Int.ofNat 0)), V.nils, V.nils, (V.int .i64 (Int.ofNat 0)), (V.bool false), (V.int .i64 (Int.ofNat 0))] []) <|
 .op (some 51) .any [50] (.buildSlice 39 1 [(V.int .i64 (Int.ofNat 0)), (V.str ⟨0, 0⟩), (V.bool false), (V.int .i64 (Int.ofNat 0)), (V.int .i64 (Int.ofNat 0)), (V.bool false), (V.bool false), (V.bool false), (V.bool false), (V.int .i64 (Int.ofNat 0)), (V.int .i64 (Int.ofNat 0)), V.nils, V.nils, (V.int .i64 (Int.ofNat 0)), (V.bool false), (V.int .i64 (Int.ofNat 0))] [(0, 16, (.tmp 50))]) <|
 .op (some 52) .one [49, 51] (.append 39 16 144 (.tmp 49) (.tmp 51)) <|
 .op (some 53) .any [44] (.nilck (.tmp 44)) <|
 .op (some 54) .any [53] (.faddr 2 (.tmp 53)) <|
 .op (some 55) .any [54] (.faddr 4 (.tmp 54)) <|
 .op none .any [55, 52] (.store 1 (.tmp 55) (.tmp 52)) <|
 .nil))
 (.seq (.ops (.op (some 57) .any [0] (.mov (.tmp 0)) <|
 .op (some 58) .any [1] (.mov (.tmp 1)) <|
 .op (some 59) (.tup [(.agg [(.int .i64), .str, .bool, (.int .i64), (.int .i64), .bool, .bool, .bool, .bool, (.int .i64), (.int .i64), .any, .any, (.int .i64), .bool, (.int .i64)]), .bool]) [57, 58] (.call 53 [(.tmp 57), (.tmp 58)]) <|
 .op (some 56) .any [59] (.mov (.tmp 59)) <|
 .op (some 60) .any [56] (.extract 0 (.tmp 56)) <|
 .op (some 61) .any [56] (.extract 1 (.tmp 56)) <|
 .pal 8 [] 39 [(V.int .i64 (Int.ofNat 0)), (V.str ⟨0, 0⟩), (V.bool false), (V.int .i64 (Int.ofNat 0)), (V.int .i64 (Int.ofNat 0)), (V.bool false), (V.bool false), (V.bool false), (V.bool false), (V.int .i64 (Int.ofNat 0)), (V.int .i64 (Int.ofNat 0)), V.nils, V.nils, (V.int .i64 (Int.ofNat 0)), (V.bool false), (V.int .i64 (Int.ofNat 0))] <|
 .op none (.agg [(.int .i64), .str, .bool, (.int .i64), (.int .i64), .bool, .bool, .bool, .bool, (.int .i64), (.int .i64), .any, .any, (.int .i64), .bool, (.int .i64)]) [8, 60] (.store 16 (.tmp 8) (.tmp 60)) <|
 .op (some 9) .any [61] (.mov (.tmp 61)) <|
 .nil))
 (.seq (.seq (.ops (.op (some 62) .any [9] (.mov (.tmp 9)) <|
 .op (some 63) .any [62] (.un .not (.tmp 62)) <|
 .nil))
 (.cond (.tmp 63) (.seq (.ops (.op (some 4) .any [] (.mov (.con (V.int .i64 (Int.ofNat 0)))) <|
 .op (some 5) .any [] (.mov (.con (V.bool false))) <|
 .nil))
 .ret)
 .skip))
 (.seq (.draw (.op (some 64) .any [0] (.mov (.tmp 0)) <|
 .op (some 65) .any [64] (.nilck (.tmp 64)) <|
 .op (some 66) .any [65] (.faddr 2 (.tmp 65)) <|
 .op (some 67) .any [66] (.faddr 4 (.tmp 66)) <|
 .op (some 68) .any [67] (.load none (.tmp 67)) <|
 .op (some 69) .any [7] (.mov (.tmp 7)) <|
 .op (some 70) (.agg [(.int .i64), .str, .bool, (.int .i64), (.int .i64), .bool, .bool, .bool, .bool, (.int .i64), (.int .i64), .any, .any, (.int .i64), .bool, (.int .i64)]) [8] (.load (some 16) (.tmp 8)) <|
 .op (some 71) .any [68, 69] (.iaddrS 16 (.tmp 68) (.tmp 69)) <|
 .op none (.agg [(.int .i64), .str, .bool, (.int .i64), (.int .i64), .bool, .bool, .bool, .bool, (.int .i64), (.int .i64), .any, .any, (.int .i64), .bool, (.int .i64)]) [71, 70] (.store 16 (.tmp 71) (.tmp 70)) <|
 .nil) [0, 1, 3, 7, 15, 0, 0, 127, 255])
 (.seq (.ops (.op (some 72) .any [7] (.mov (.tmp 7)) <|
 .op (some 4) .any [72] (.mov (.tmp 72)) <|
 .op (some 5) .any [] (.mov (.con (V.bool true))) <|
 .nil))
 .ret)))))))))
def T44_0 (E : List (Nat × Blk)) (D : Den) (W : DrawFn) (v0b : Nat) (v0o : Nat) (v1 : Int) (σ : H) : Ans :=
 callK (D 23 [(V.ptr v0b v0o)] σ) fun u1 s2 =>
 rtAgg u1 fun l3 =>
 rtCons l3 fun x4 l5 =>
 rtInt .i64 x4 fun x6 =>
 rtCons l5 fun x7 l8 =>
 rtStr x7 fun x9 =>
 rtCons l8 fun x10 l11 =>
 rtInt .i64 x10 fun x12 =>
 rtNil l11 (
 callK (D 52 [(V.agg [(V.int .i64 x6), (V.str x9), (V.int .i64 x12)])] s2) fun u13 s14 =>
 rtBool u13 fun x15 =>
 condK (not x15) (
 callK (D 41 [(V.ptr v0b v0o), (V.int .i64 x12), (V.int .i64 (Int.ofNat 7))] s14) fun u16 s17 =>
 rtBool u16 fun x18 =>
 some ((V.tup [(V.int .i64 (Int.ofNat 0)), (V.bool x18)]), s17)) (
 joinB (fun c19 s20 =>
 condK c19 (
 callK (D 41 [(V.ptr v0b v0o), (V.int .i64 x12), (V.int .i64 (Int.ofNat 5))] s20) fun u22 s23 =>
 rtBool u22 fun x24 =>
 some ((V.tup [(V.int .i64 (Int.ofNat 0)), (V.bool x24)]), s23)) (
 ldK E s20 v0b (Nat.add (Nat.add v0o 2) 4) fun u25 =>
 slenK u25 fun n26 =>
 ldK E s20 v0b (Nat.add (Nat.add v0o 2) 4) fun u27 =>
 let s28 := newB s20 (.cells [(V.int .i64 (Int.ofNat 0)), (V.str (BS.mk 0 0)), (V.bool false), (V.int .i64 (Int.ofNat 0)), (V.int .i64 (Int.ofNat 0)), (V.bool false), (V.bool false), (V.bool false), (V.bool false), (V.int .i64 (Int.ofNat 0)), (V.int .i64 (Int.ofNat 0)), V.nils, V.nils, (V.int .i64 (Int.ofNat 0)), (V.bool false), (V.int .i64 (Int.ofNat 0))]);
 appK E 16 144 u27 (V.sl (H.next s20) 0 1 (.ex 1)) s28 fun u29 s30 =>
 rtOne u29 (
 stK 1 v0b (Nat.add (Nat.add v0o 2) 4) u29 s30 fun s31 =>
 callK (D 53 [(V.ptr v0b v0o), (V.int .i64 v1)] s31) fun u32 s33 =>
 rtTup u32 fun l34 =>
 rtCons l34 fun x35 l36 =>
 rtAgg x35 fun l37 =>
 rtCons l37 fun x38 l39 =>
 rtInt .i64 x38 fun x40 =>
 rtCons l39 fun x41 l42 =>
 rtStr x41 fun x43 =>
 rtCons l42 fun x44 l45 =>
 rtBool x44 fun x46 =>
 rtCons l45 fun x47 l48 =>
 rtInt .i64 x47 fun x49 =>
 rtCons l48 fun x50 l51 =>
 rtInt .i64 x50 fun x52 =>
 rtCons l51 fun x53 l54 =>
 rtBool x53 fun x55 =>
 rtCons l54 fun x56 l57 =>
 rtBool x56 fun x58 =>
 rtCons l57 fun x59 l60 =>
 rtBool x59 fun x61 =>
 rtCons l60 fun x62 l63 =>
 rtBool x62 fun x64 =>
 rtCons l63 fun x65 l66 =>
 rtInt .i64 x65 fun x67 =>
 rtCons l66 fun x68 l69 =>
 rtInt .i64 x68 fun x70 =>
 rtCons l69 fun x71 l72 =>
 rtCons l72 fun x73 l74 =>
 rtCons l74 fun x75 l76 =>
 rtInt .i64 x75 fun x77 =>
 rtCons l76 fun x78 l79 =>
 rtBool x78 fun x80 =>
 rtCons l79 fun x81 l82 =>
 rtInt .i64 x81 fun x83 =>
 rtNil l82 (
 rtCons l36 fun x84 l85 =>
 rtBool x84 fun x86 =>
 rtNil l85 (
 chk (allOne [(V.int .i64 x40), (V.str x43), (V.bool x46), (V.int .i64 x49), (V.int .i64 x52), (V.bool x55), (V.bool x58), (V.bool x61), (V.bool x64), (V.int .i64 x67), (V.int .i64 x70), x71, x73, (V.int .i64 x77), (V.bool x80), (V.int .i64 x83)]) (
 condK (not x86) (
 some ((V.tup [(V.int .i64 (Int.ofNat 0)), (V.bool false)]), s33)) (
 ldK E s33 v0b (Nat.add (Nat.add v0o 2) 4) fun u87 =>
 iaddrSK 16 u87 (Int.ofNat n26) fun b88 o89 =>
 stK 16 b88 o89 (V.agg [(V.int .i64 x40), (V.str x43), (V.bool x46), (V.int .i64 x49), (V.int .i64 x52), (V.bool x55), (V.bool x58), (V.bool x61), (V.bool x64), (V.int .i64 x67), (V.int .i64 x70), x71, x73, (V.int .i64 x77), (V.bool x80), (V.int .i64 x83)]) s33 fun s90 =>
 some ((V.tup [(V.int .i64 (Int.ofNat n26)), (V.bool true)]), s90)))))))) fun k21 =>
 condK (ltF (Int.ofNat 16) v1) (
 k21 true s14) (
 ldK E s14 v0b (Nat.add (Nat.add v0o 2) 4) fun u91 =>
 slenK u91 fun n92 =>
 k21 (leF (Int.ofNat 300) (Int.ofNat n92)) s14)))
theorem P44_0 (E : List (Nat × Blk)) (D : Den) (W : DrawFn) (N : Nat) (v0b : Nat) (v0o : Nat) (v1 : Int) (σ : H) :
  denC E D W N (C44_0 ) ⟨[(0, (V.ptr v0b v0o)), (1, (V.int .i64 v1))], [], [], σ⟩ (Fin44 E) (fun _ _ => none) (Fin44 E) =
  T44_0 E D W  v0b v0o v1 σ := by kernel_rfl
def J44_0 (E : List (Nat × Blk)) (D : Den) (W : DrawFn) (N : Nat) : Nat → Nat → Int → H → Ans := T44_0 E D W 
theorem JE44_0 (E : List (Nat × Blk)) (D : Den) (W : DrawFn) (N : Nat) (v0b : Nat) (v0o : Nat) (v1 : Int) (σ : H) :
  denC E D W N C44_0 ⟨[(0, (V.ptr v0b v0o)), (1, (V.int .i64 v1))], [], [], σ⟩ (Fin44 E) (fun _ _ => none) (Fin44 E) = J44_0 E D W N v0b v0o v1 σ := by
  refine (P44_0 E D W N   v0b v0o v1 σ).trans ?_
  kernel_rfl
def F44 (E : List (Nat × Blk)) (D : Den) (W : DrawFn) (N : Nat) (args : List V) (σ : H) : Ans :=
 rtCons args fun x1 l2 =>
 rtPtr x1 fun b3 o4 =>
 rtCons l2 fun x5 l6 =>
 rtInt .i64 x5 fun x7 =>
 rtNil l6 (
 J44_0 E D W N b3 o4 x7 σ)
def A44 : XFn := ⟨73, [.ptr, (.int .i64)], [(.tmp 4), (.tmp 5)], C44_0⟩
theorem FE44 (E : List (Nat × Blk)) (D : Den) (W : DrawFn) (N : Nat) (args : List V) (σ : H) : runX E D W N A44 args σ = F44 E D W N args σ := by
  unfold F44
  simp only [← JE44_0]
  kernel_rfl
theorem AO44 : A44.body.ok = true := by kernel_rfl

/-! ### F48: strings.HasPrefix -/
def Fin48 (E : List (Nat × Blk)) : St → Ans := fun s => resK E s [(.tmp 4)] fun l => some (oneV l, s.σ)
def C48_0 : XC := (.seq (.ops (.op (some 4) .any [] (.mov (.con (V.bool false))) <|
 .nil))
 (.seq (.ops (.op (some 5) .any [0] (.mov (.tmp 0)) <|
 .op (some 6) .any [1] (.mov (.tmp 1)) <|
 .op (some 7) .bool [5, 6] (.call 58 [(.tmp 5), (.tmp 6)]) <|
 .op (some 4) .any [7] (.mov (.tmp 7)) <|
 .nil))
 .ret))
def T48_0 (E : List (Nat × Blk)) (D : Den) (W : DrawFn) (v0 : BS) (v1 : BS) (σ : H) : Ans :=
 callK (D 58 [(V.str v0), (V.str v1)] σ) fun u1 s2 =>
 rtBool u1 fun x3 =>
 some ((V.bool x3), s2)
theorem P48_0 (E : List (Nat × Blk)) (D : Den) (W : DrawFn) (N : Nat) (v0 : BS) (v1 : BS) (σ : H) :
  denC E D W N (C48_0 ) ⟨[(0, (V.str v0)), (1, (V.str v1))], [], [], σ⟩ (Fin48 E) (fun _ _ => none) (Fin48 E) =
  T48_0 E D W  v0 v1 σ := by kernel_rfl
def J48_0 (E : List (Nat × Blk)) (D : Den) (W : DrawFn) (N : Nat) : BS → BS → H → Ans := T48_0 E D W 
theorem JE48_0 (E : List (Nat × Blk)) (D : Den) (W : DrawFn) (N : Nat) (v0 : BS) (v1 : BS) (σ : H) :
  denC E D W N C48_0 ⟨[(0, (V.str v0)), (1, (V.str v1))], [], [], σ⟩ (Fin48 E) (fun _ _ => none) (Fin48 E) = J48_0 E D W N v0 v1 σ := by
  refine (P48_0 E D W N   v0 v1 σ).trans ?_
  kernel_rfl
def F48 (E : List (Nat × Blk)) (D : Den) (W : DrawFn) (N : Nat) (args : List V) (σ : H) : Ans :=
 rtCons args fun x1 l2 =>
 rtStr x1 fun x3 =>
 rtCons l2 fun x4 l5 =>
 rtStr x4 fun x6 =>
 rtNil l5 (
 J48_0 E D W N x3 x6 σ)
def A48 : XFn := ⟨8, [.str, .str], [(.tmp 4)], C48_0⟩
theorem FE48 (E : List (Nat × Blk)) (D : Den) (W : DrawFn) (N : Nat) (args : List V) (σ : H) : runX E D W N A48 args σ = F48 E D W N args σ := by
  unfold F48
  simp only [← JE48_0]
  kernel_rfl
theorem AO48 : A48.body.ok = true := by kernel_rfl

end
end Go.Proofs.YtjolbidcficdhaaDoor
