/- The code of the functions that are entered. Printed by a program off the dump. -/
import Derived.Test.YtmgbgifepccgpaaGreatDoorOgX
import Derived.KernelRfl
set_option linter.all false
set_option maxRecDepth 100000
set_option maxHeartbeats 0
namespace Go.Proofs.YtmgbgifepccgpaaGreatDoor
open Go Go.Og
noncomputable section
/-! ### F3: ogham_oghamlaw22.CrossUnknown -/
def Fin3 (E : List (Nat × Blk)) : St → Ans := fun s => resK E s [(.tmp 6)] fun l => some (oneV l, s.σ)
def C3_0 : XC := (.seq (.ops (.op (some 6) .any [] (.mov (.con (V.bool false))) <|
 .nil))
 (.seq (.ops (.op (some 14) .any [0] (.mov (.tmp 0)) <|
 .op (some 15) .any [14] (.conv (.toInt .u64) (.tmp 14)) <|
 .op (some 16) .any [15] (.bin .rem .none (.tmp 15) (.con (V.int .u64 (Int.ofNat 60)))) <|
 .op (some 17) .any [16] (.conv (.toInt .i64) (.tmp 16)) <|
 .op (some 18) .any [17] (.bin .add .none (.con (V.int .i64 (Int.ofNat 2))) (.tmp 17)) <|
 .op (some 0) .any [18] (.mov (.tmp 18)) <|
 .nil))
 (.seq (.ops (.op (some 19) .any [1] (.mov (.tmp 1)) <|
 .op (some 20) .any [19] (.conv (.toInt .u64) (.tmp 19)) <|
 .op (some 21) .any [20] (.bin .rem .none (.tmp 20) (.con (V.int .u64 (Int.ofNat 2)))) <|
 .op (some 22) .any [21] (.conv (.toInt .i64) (.tmp 21)) <|
 .op (some 23) .any [22] (.bin .add .none (.con (V.int .i64 (Int.ofNat 1))) (.tmp 22)) <|
 .op (some 24) .any [2] (.mov (.tmp 2)) <|
 .op (some 25) .any [24] (.conv (.toInt .u64) (.tmp 24)) <|
 .op (some 26) .any [25] (.bin .rem .none (.tmp 25) (.con (V.int .u64 (Int.ofNat 2)))) <|
 .op (some 27) .any [26] (.conv (.toInt .i64) (.tmp 26)) <|
 .op (some 28) .any [27] (.bin .add .none (.con (V.int .i64 (Int.ofNat 1))) (.tmp 27)) <|
 .op (some 1) .any [23] (.mov (.tmp 23)) <|
 .op (some 2) .any [28] (.mov (.tmp 28)) <|
 .nil))
 (.seq (.ops (.op (some 30) .str [] (.call 5 [(.con (V.int .i64 (Int.ofNat 1)))]) <|
 .op (some 31) (.tup [(.agg [.str, .any, .any, .any]), .bool]) [30] (.call 4 [(.tmp 30)]) <|
 .op (some 29) .any [31] (.mov (.tmp 31)) <|
 .op (some 32) .any [29] (.extract 0 (.tmp 29)) <|
 .op (some 33) .any [29] (.extract 1 (.tmp 29)) <|
 .pal 7 [] 27 [(V.str ⟨0, 0⟩), V.nils, V.nils, V.nils] <|
 .op none (.agg [.str, .any, .any, .any]) [7, 32] (.store 4 (.tmp 7) (.tmp 32)) <|
 .op (some 8) .any [33] (.mov (.tmp 33)) <|
 .nil))
 (.seq (.ops (.op (some 34) .any [1] (.mov (.tmp 1)) <|
 .op (some 35) .any [0] (.mov (.tmp 0)) <|
 .op (some 36) (.agg [(.int .i64), (.int .i64), .any, .any, (.int .i64), .any]) [34, 35] (.build [(V.int .i64 (Int.ofNat 0)), (V.int .i64 (Int.ofNat 0)), V.nils, V.nils, (V.int .i64 (Int.ofNat 0)), V.nils] [(0, 1, (.con (V.int .i64 (Int.ofNat 12)))), (4, 1, (.tmp 34)), (1, 1, (.tmp 35))]) <|
 .pal 9 [] 35 [(V.int .i64 (Int.ofNat 0)), (V.int .i64 (Int.ofNat 0)), V.nils, V.nils, (V.int .i64 (Int.ofNat 0)), V.nils] <|
 .op none (.agg [(.int .i64), (.int .i64), .any, .any, (.int .i64), .any]) [9, 36] (.store 6 (.tmp 9) (.tmp 36)) <|
 .nil))
 (.seq (.draw (.op (some 38) (.agg [.str, .any, .any, .any]) [7] (.load (some 4) (.tmp 7)) <|
 .op (some 39) .any [7] (.faddr 2 (.tmp 7)) <|
 .op (some 40) .any [39] (.load none (.tmp 39)) <|
 .op (some 41) .any [40] (.iaddrS 1 (.tmp 40) (.con (V.int .i64 (Int.ofNat 2)))) <|
 .op (some 42) (.int .i64) [41] (.load none (.tmp 41)) <|
 .op (some 43) .any [1] (.mov (.tmp 1)) <|
 .op (some 44) (.agg [(.int .i64), (.int .i64), .any, .any, (.int .i64), .any]) [9] (.load (some 6) (.tmp 9)) <|
 .op (some 45) (.tup [.any, (.int .i64)]) [38, 42, 43, 44] (.call 6 [(.tmp 38), (.tmp 42), (.tmp 43), (.tmp 44)]) <|
 .op (some 37) .any [45] (.mov (.tmp 45)) <|
 .op (some 46) .any [37] (.extract 0 (.tmp 37)) <|
 .op (some 47) .any [37] (.extract 1 (.tmp 37)) <|
 .op (some 10) .any [46] (.mov (.tmp 46)) <|
 .op (some 11) .any [47] (.mov (.tmp 47)) <|
 .nil) [0, 0, 2, 6, 14, 0, 0, 127, 255, 511, 511, 1023, 4095])
 (.seq (.draw (.op (some 49) (.agg [.str, .any, .any, .any]) [7] (.load (some 4) (.tmp 7)) <|
 .op (some 50) .any [7] (.faddr 2 (.tmp 7)) <|
 .op (some 51) .any [50] (.load none (.tmp 50)) <|
 .op (some 52) .any [51] (.iaddrS 1 (.tmp 51) (.con (V.int .i64 (Int.ofNat 2)))) <|
 .op (some 53) (.int .i64) [52] (.load none (.tmp 52)) <|
 .op (some 54) .any [1] (.mov (.tmp 1)) <|
 .op (some 55) (.agg [.str, .any, .any, .any]) [7] (.load (some 4) (.tmp 7)) <|
 .op (some 56) .any [7] (.faddr 2 (.tmp 7)) <|
 .op (some 57) .any [56] (.load none (.tmp 56)) <|
 .op (some 58) .any [57] (.iaddrS 1 (.tmp 57) (.con (V.int .i64 (Int.ofNat 2)))) <|
 .op (some 59) (.int .i64) [58] (.load none (.tmp 58)) <|
 .op (some 60) .any [2] (.mov (.tmp 2)) <|
 .op (some 61) .any [10] (.mov (.tmp 10)) <|
 .op (some 62) (.tup [.any, (.int .i64)]) [49, 53, 54, 55, 59, 60, 61] (.call 7 [(.tmp 49), (.tmp 53), (.tmp 54), (.tmp 55), (.tmp 59), (.tmp 60), (.tmp 61)]) <|
 .op (some 48) .any [62] (.mov (.tmp 62)) <|
 .op (some 63) .any [48] (.extract 0 (.tmp 48)) <|
 .op (some 64) .any [48] (.extract 1 (.tmp 48)) <|
 .op (some 12) .any [63] (.mov (.tmp 63)) <|
 .op (some 13) .any [64] (.mov (.tmp 64)) <|
 .nil) [0, 0, 2, 6, 14, 0, 0, 0, 128, 384, 896, 0, 0, 8191, 16383, 32767, 32767, 65535, 262143])
 (.seq (.ops (.op (some 65) .bool [] (.call 8 []) <|
 .op (some 66) .any [65] (.mov (.tmp 65)) <|
 .grp 66 true (.op (some 67) .any [8, 66] (.mov (.tmp 8)) <|
 .nil) 68 [66, 67] (.tmp 66) (.tmp 67) (.con (V.bool false)) <|
 .op (some 69) .any [68] (.mov (.tmp 68)) <|
 .grp 69 true (.op (some 70) .any [11, 69] (.mov (.tmp 11)) <|
 .op (some 71) .any [70, 69] (.bin .eql .none (.tmp 70) (.con (V.int .i64 (Int.ofNat 0)))) <|
 .nil) 72 [69, 71] (.tmp 69) (.tmp 71) (.con (V.bool false)) <|
 .op (some 73) .any [72] (.mov (.tmp 72)) <|
 .grp 73 true (.op (some 74) .any [13, 73] (.mov (.tmp 13)) <|
 .op (some 75) .any [74, 73] (.bin .eql .none (.tmp 74) (.con (V.int .i64 (Int.ofNat 16)))) <|
 .nil) 76 [73, 75] (.tmp 73) (.tmp 75) (.con (V.bool false)) <|
 .op (some 77) .any [76] (.mov (.tmp 76)) <|
 .grp 77 true (.op (some 78) .any [12, 77] (.mov (.tmp 12)) <|
 .op (some 79) .any [78, 77] (.len false (.tmp 78)) <|
 .op (some 80) .any [79, 77] (.bin .eql .none (.tmp 79) (.con (V.int .i64 (Int.ofNat 0)))) <|
 .nil) 81 [77, 80] (.tmp 77) (.tmp 80) (.con (V.bool false)) <|
 .op (some 6) .any [81] (.mov (.tmp 81)) <|
 .nil))
 .ret))))))))
def T3_0 (E : List (Nat × Blk)) (D : Den) (W : DrawFn) (v0 : Int) (v1 : Int) (v2 : Int) (σ : H) : Ans :=
 callK (D 5 [(V.int .i64 (Int.ofNat 1))] σ) fun u1 s2 =>
 rtStr u1 fun x3 =>
 callK (D 4 [(V.str x3)] s2) fun u4 s5 =>
 rtTup u4 fun l6 =>
 rtCons l6 fun x7 l8 =>
 rtAgg x7 fun l9 =>
 rtCons l9 fun x10 l11 =>
 rtStr x10 fun x12 =>
 rtCons l11 fun x13 l14 =>
 rtCons l14 fun x15 l16 =>
 rtCons l16 fun x17 l18 =>
 rtNil l18 (
 rtCons l8 fun x19 l20 =>
 rtBool x19 fun x21 =>
 rtNil l20 (
 chk (allOne [(V.str x12), x13, x15, x17]) (
 iaddrSK 1 x15 (Int.ofNat 2) fun b22 o23 =>
 ldK E s5 b22 o23 fun u24 =>
 rtInt .i64 u24 fun x25 =>
 callK (D 6 [(V.agg [(V.str x12), x13, x15, x17]), (V.int .i64 x25), (V.int .i64 (addF .i64 (Int.ofNat 1) (wrapF .i64 (Int.tmod (wrapF .u64 v1) (Int.ofNat 2))))), (V.agg [(V.int .i64 (Int.ofNat 12)), (V.int .i64 (addF .i64 (Int.ofNat 2) (wrapF .i64 (Int.tmod (wrapF .u64 v0) (Int.ofNat 60))))), V.nils, V.nils, (V.int .i64 (addF .i64 (Int.ofNat 1) (wrapF .i64 (Int.tmod (wrapF .u64 v1) (Int.ofNat 2))))), V.nils])] s5) fun u26 s27 =>
 rtTup u26 fun l28 =>
 rtCons l28 fun x29 l30 =>
 rtCons l30 fun x31 l32 =>
 rtInt .i64 x31 fun x33 =>
 rtNil l32 (
 iaddrSK 1 x15 (Int.ofNat 2) fun b34 o35 =>
 ldK E s27 b34 o35 fun u36 =>
 rtInt .i64 u36 fun x37 =>
 iaddrSK 1 x15 (Int.ofNat 2) fun b38 o39 =>
 ldK E s27 b38 o39 fun u40 =>
 rtInt .i64 u40 fun x41 =>
 callK (D 7 [(V.agg [(V.str x12), x13, x15, x17]), (V.int .i64 x37), (V.int .i64 (addF .i64 (Int.ofNat 1) (wrapF .i64 (Int.tmod (wrapF .u64 v1) (Int.ofNat 2))))), (V.agg [(V.str x12), x13, x15, x17]), (V.int .i64 x41), (V.int .i64 (addF .i64 (Int.ofNat 1) (wrapF .i64 (Int.tmod (wrapF .u64 v2) (Int.ofNat 2))))), x29] s27) fun u42 s43 =>
 rtTup u42 fun l44 =>
 rtCons l44 fun x45 l46 =>
 rtCons l46 fun x47 l48 =>
 rtInt .i64 x47 fun x49 =>
 rtNil l48 (
 callK (D 8 [] s43) fun u50 s51 =>
 rtBool u50 fun x52 =>
 joinB (fun c53 s54 =>
 joinB (fun c56 s57 =>
 joinB (fun c59 s60 =>
 joinB (fun c62 s63 =>
 some ((V.bool c62), s63)) fun k64 =>
 condK c59 (
 slenK x45 fun n65 =>
 k64 (eqF (Int.ofNat n65) (Int.ofNat 0)) s60) (
 k64 false s60)) fun k61 =>
 condK c56 (
 k61 (eqF x49 (Int.ofNat 16)) s57) (
 k61 false s57)) fun k58 =>
 condK c53 (
 k58 (eqF x33 (Int.ofNat 0)) s54) (
 k58 false s54)) fun k55 =>
 condK x52 (
 k55 x21 s51) (
 k55 false s51))))))
theorem P3_0 (E : List (Nat × Blk)) (D : Den) (W : DrawFn) (N : Nat) (v0 : Int) (v1 : Int) (v2 : Int) (σ : H) :
  denC E D W N (C3_0 ) ⟨[(0, (V.int .i64 v0)), (1, (V.int .i64 v1)), (2, (V.int .i64 v2))], [], [], σ⟩ (Fin3 E) (fun _ _ => none) (Fin3 E) =
  T3_0 E D W  v0 v1 v2 σ := by kernel_rfl
def J3_0 (E : List (Nat × Blk)) (D : Den) (W : DrawFn) (N : Nat) : Int → Int → Int → H → Ans := T3_0 E D W 
theorem JE3_0 (E : List (Nat × Blk)) (D : Den) (W : DrawFn) (N : Nat) (v0 : Int) (v1 : Int) (v2 : Int) (σ : H) :
  denC E D W N C3_0 ⟨[(0, (V.int .i64 v0)), (1, (V.int .i64 v1)), (2, (V.int .i64 v2))], [], [], σ⟩ (Fin3 E) (fun _ _ => none) (Fin3 E) = J3_0 E D W N v0 v1 v2 σ := by
  refine (P3_0 E D W N   v0 v1 v2 σ).trans ?_
  kernel_rfl
def F3 (E : List (Nat × Blk)) (D : Den) (W : DrawFn) (N : Nat) (args : List V) (σ : H) : Ans :=
 rtCons args fun x1 l2 =>
 rtInt .i64 x1 fun x3 =>
 rtCons l2 fun x4 l5 =>
 rtInt .i64 x4 fun x6 =>
 rtCons l5 fun x7 l8 =>
 rtInt .i64 x7 fun x9 =>
 rtNil l8 (
 J3_0 E D W N x3 x6 x9 σ)
def A3 : XFn := ⟨82, [(.int .i64), (.int .i64), (.int .i64)], [(.tmp 6)], C3_0⟩
theorem FE3 (E : List (Nat × Blk)) (D : Den) (W : DrawFn) (N : Nat) (args : List V) (σ : H) : runX E D W N A3 args σ = F3 E D W N args σ := by
  unfold F3
  simp only [← JE3_0]
  kernel_rfl
theorem AO3 : A3.body.ok = true := by kernel_rfl

def G4_0 : List AOper := [⟨(some 29), .load (some 4) (.tmp 7), none⟩, ⟨(some 30), .mov (.tmp 9), none⟩, ⟨(some 31), .bin .eql .none (.tmp 30) (.con (V.int .i64 (Int.ofNat 0))), none⟩, ⟨(some 32), .mov (.tmp 31), none⟩, ⟨(some 33), .faddr 3 (.tmp 7), (some (32, true))⟩, ⟨(some 34), .load none (.tmp 33), (some (32, true))⟩, ⟨(some 35), .len false (.tmp 34), (some (32, true))⟩, ⟨(some 36), .bin .leq .none (.tmp 35) (.con (V.int .i64 (Int.ofNat 120))), (some (32, true))⟩, ⟨(some 37), .pick (.tmp 32) (.tmp 36) (.con (V.bool false)), none⟩, ⟨none, .store 4 (.tmp 2) (.tmp 29), none⟩, ⟨(some 3), .mov (.tmp 37), none⟩]
def H4_0 : List DP := [⟨0, [7]⟩, ⟨0, [9]⟩, ⟨2, [30]⟩, ⟨6, [31]⟩, ⟨14, [7, 32]⟩, ⟨30, [33, 32]⟩, ⟨62, [34, 32]⟩, ⟨126, [35, 32]⟩, ⟨254, [32, 36]⟩, ⟨15, [2, 29]⟩, ⟨1023, [37]⟩]
def C4_0 : XC := (.seq (.ops (.op (some 2) .any [] (.alloc 27 [(V.str ⟨0, 0⟩), V.nils, V.nils, V.nils]) <|
 .op (some 3) .any [] (.mov (.con (V.bool false))) <|
 .nil))
 (.seq (.seq (.ops (.op (some 10) .any [0] (.mov (.tmp 0)) <|
 .op (some 11) .any [10] (.len true (.tmp 10)) <|
 .op (some 12) .any [11] (.bin .gtr .none (.tmp 11) (.con (V.int .i64 (Int.ofNat 3000)))) <|
 .nil))
 (.cond (.tmp 12) (.seq (.ops (.op (some 13) (.agg [.str, .any, .any, .any]) [] (.build [(V.str ⟨0, 0⟩), V.nils, V.nils, V.nils] []) <|
 .op none (.agg [.str, .any, .any, .any]) [2, 13] (.store 4 (.tmp 2) (.tmp 13)) <|
 .op (some 3) .any [] (.mov (.con (V.bool false))) <|
 .nil))
 .ret)
 .skip))
 (.seq (.ops (.op (some 15) .any [0] (.mov (.tmp 0)) <|
 .op (some 16) (.tup [(.agg [.str, (.int .i64), .any, .any, .any]), (.int .i64), (.int .i64)]) [15] (.call 9 [(.tmp 15)]) <|
 .op (some 14) .any [16] (.mov (.tmp 16)) <|
 .op (some 17) .any [14] (.extract 0 (.tmp 14)) <|
 .op (some 18) .any [14] (.extract 1 (.tmp 14)) <|
 .op (some 19) .any [14] (.extract 2 (.tmp 14)) <|
 .pal 4 [] 44 [(V.str ⟨0, 0⟩), (V.int .i64 (Int.ofNat 0)), V.nils, V.nils, V.nils] <|
 .op none (.agg [.str, (.int .i64), .any, .any, .any]) [4, 17] (.store 5 (.tmp 4) (.tmp 17)) <|
 .op (some 5) .any [18] (.mov (.tmp 18)) <|
 .op (some 6) .any [19] (.mov (.tmp 19)) <|
 .nil))
 (.seq (.seq (.ops (.op (some 20) .any [6] (.mov (.tmp 6)) <|
 .op (some 21) .any [20] (.bin .neq .none (.tmp 20) (.con (V.int .i64 (Int.ofNat 0)))) <|
 .nil))
 (.cond (.tmp 21) (.seq (.ops (.op (some 22) (.agg [.str, .any, .any, .any]) [] (.build [(V.str ⟨0, 0⟩), V.nils, V.nils, V.nils] []) <|
 .op none (.agg [.str, .any, .any, .any]) [2, 22] (.store 4 (.tmp 2) (.tmp 22)) <|
 .op (some 3) .any [] (.mov (.con (V.bool false))) <|
 .nil))
 .ret)
 .skip))
 (.seq (.ops (.op (some 24) (.agg [.str, (.int .i64), .any, .any, .any]) [4] (.load (some 5) (.tmp 4)) <|
 .op (some 25) (.tup [(.agg [.str, .any, .any, .any]), (.int .i64), (.int .i64)]) [24] (.call 10 [(.tmp 24)]) <|
 .op (some 23) .any [25] (.mov (.tmp 25)) <|
 .op (some 26) .any [23] (.extract 0 (.tmp 23)) <|
 .op (some 27) .any [23] (.extract 1 (.tmp 23)) <|
 .op (some 28) .any [23] (.extract 2 (.tmp 23)) <|
 .op (some 7) .any [] (.alloc 27 [(V.str ⟨0, 0⟩), V.nils, V.nils, V.nils]) <|
 .op none (.agg [.str, .any, .any, .any]) [7, 26] (.store 4 (.tmp 7) (.tmp 26)) <|
 .op (some 8) .any [27] (.mov (.tmp 27)) <|
 .op (some 9) .any [28] (.mov (.tmp 28)) <|
 .nil))
 (.seq (.keep [(2, .ptr), (7, .ptr), (9, (.int .i64))] [] [] (.gdraw G4_0 H4_0 [(2, .ptr), (3, .bool)]))
 .ret))))))
def A4 : XFn := ⟨38, [.str], [(.cell 2 (some 4)), (.tmp 3)], C4_0⟩
def C5_0 (cc1 : XC) (cc2 : XC) : XC := (.seq (.ops (.op (some 2) .any [] (.mov (.con (V.str ⟨0, 0⟩))) <|
 .nil))
 (.seq (.ops (.op (some 3) .any [] (.mov (.con (V.str ⟨0, 0⟩))) <|
 .op (some 4) .any [] (.mov (.con (V.str ⟨0, 0⟩))) <|
 .op (some 5) .any [] (.mov (.con (V.str ⟨0, 0⟩))) <|
 .nil))
 (.seq (.seq (.ops (.op (some 6) .any [] (.mov (.con (V.int .i64 (Int.ofNat 0)))) <|
 .nil))
 (.block 0 (.loop [(0, (.int .i64)), (3, .str), (4, .str), (5, .str), (6, (.int .i64))] [] [] cc2)))
 (.keep [(3, .str), (4, .str), (5, .str)] [] [] cc1))))
def C5_1 : XC := (.seq (.ops (.op (some 37) .any [3] (.mov (.tmp 3)) <|
 .op (some 38) .any [37] (.bin .add .none (.con (V.str ⟨73, 11421814725846646601509145371867137123653003473184686448963104296427833944540282279319961363510751773941619398224681724889912003594451216903511865776682992595977006667002028109⟩)) (.tmp 37)) <|
 .op (some 39) .any [38] (.bin .add .none (.tmp 38) (.con (V.str ⟨36, 89713209651992187123292570092527688741724701857218257351058953534941462405400076778784⟩))) <|
 .op (some 40) .any [4] (.mov (.tmp 4)) <|
 .op (some 41) .any [39, 40] (.bin .add .none (.tmp 39) (.tmp 40)) <|
 .op (some 42) .any [41] (.bin .add .none (.tmp 41) (.con (V.str ⟨28, 4863362840268295671071880600753735356853403620638970579189682437408⟩))) <|
 .op (some 43) .any [5] (.mov (.tmp 5)) <|
 .op (some 44) .any [42, 43] (.bin .add .none (.tmp 42) (.tmp 43)) <|
 .op (some 45) .any [44] (.bin .add .none (.tmp 44) (.con (V.str ⟨6, 75102957894944⟩))) <|
 .op (some 2) .any [45] (.mov (.tmp 45)) <|
 .nil))
 .ret)
def C5_2 : XC := (.seq (.seq (.ops (.op (some 8) .any [6] (.mov (.tmp 6)) <|
 .op (some 9) .any [0] (.mov (.tmp 0)) <|
 .op (some 10) .any [8, 9] (.bin .lss .none (.tmp 8) (.tmp 9)) <|
 .nil))
 (.cond (.tmp 10) .skip
 (.exit 0)))
 (.seq (.block 1 (.seq (.ops (.op (some 13) .any [6] (.mov (.tmp 6)) <|
 .op (some 14) .any [13] (.bin .add .none (.tmp 13) (.con (V.int .i64 (Int.ofNat 1)))) <|
 .op (some 15) .any [14] (.conv (.toInt .u64) (.tmp 14)) <|
 .op (some 16) .str [15] (.call 11 [(.tmp 15)]) <|
 .op (some 7) .any [16] (.mov (.tmp 16)) <|
 .nil))
 (.seq (.ops (.op (some 17) .any [3] (.mov (.tmp 3)) <|
 .op (some 18) .any [17] (.bin .add .none (.tmp 17) (.con (V.str ⟨3, 6692908⟩))) <|
 .op (some 19) .any [7] (.mov (.tmp 7)) <|
 .op (some 20) .any [18, 19] (.bin .add .none (.tmp 18) (.tmp 19)) <|
 .op (some 21) .any [20] (.bin .add .none (.tmp 20) (.con (V.str ⟨2, 23328⟩))) <|
 .op (some 22) .any [7] (.mov (.tmp 7)) <|
 .op (some 23) .any [21, 22] (.bin .add .none (.tmp 21) (.tmp 22)) <|
 .op (some 24) .any [23] (.bin .add .none (.tmp 23) (.con (V.str ⟨9, 1517625048984539701341⟩))) <|
 .op (some 3) .any [24] (.mov (.tmp 24)) <|
 .nil))
 (.seq (.ops (.op (some 25) .any [4] (.mov (.tmp 4)) <|
 .op (some 26) .any [25] (.bin .add .none (.tmp 25) (.con (V.str ⟨3, 6496300⟩))) <|
 .op (some 27) .any [7] (.mov (.tmp 7)) <|
 .op (some 28) .any [26, 27] (.bin .add .none (.tmp 26) (.tmp 27)) <|
 .op (some 29) .any [28] (.bin .add .none (.tmp 28) (.con (V.str ⟨2, 23328⟩))) <|
 .op (some 30) .any [7] (.mov (.tmp 7)) <|
 .op (some 31) .any [29, 30] (.bin .add .none (.tmp 29) (.tmp 30)) <|
 .op (some 32) .any [31] (.bin .add .none (.tmp 31) (.con (V.str ⟨9, 1517625048984539701341⟩))) <|
 .op (some 4) .any [32] (.mov (.tmp 32)) <|
 .nil))
 (.ops (.op (some 33) .any [5] (.mov (.tmp 5)) <|
 .op (some 34) .any [33] (.bin .add .none (.tmp 33) (.con (V.str ⟨3, 6627372⟩))) <|
 .op (some 35) .any [7] (.mov (.tmp 7)) <|
 .op (some 36) .any [34, 35] (.bin .add .none (.tmp 34) (.tmp 35)) <|
 .op (some 5) .any [36] (.mov (.tmp 36)) <|
 .nil))))))
 (.ops (.op (some 11) .any [6] (.mov (.tmp 6)) <|
 .op (some 12) .any [11] (.bin .add .none (.tmp 11) (.con (V.int .i64 (Int.ofNat 1)))) <|
 .op (some 6) .any [12] (.mov (.tmp 12)) <|
 .nil))))
def A5 : XFn := ⟨46, [(.int .i64)], [(.tmp 2)], (C5_0 C5_1 C5_2)⟩
/-! ### F6: ogham_cross.Encode -/
def Fin6 (E : List (Nat × Blk)) : St → Ans := fun s => resK E s [(.tmp 8), (.tmp 9)] fun l => some (oneV l, s.σ)
def C6_0 : XC := (.seq (.ops (.op (some 4) .any [0] (.box 27 (.tmp 0)) <|
 .op (some 7) .any [3] (.box 35 (.tmp 3)) <|
 .op (some 8) .any [] (.mov (.con V.nils)) <|
 .op (some 9) .any [] (.mov (.con (V.int .i64 (Int.ofNat 0)))) <|
 .nil))
 (.seq (.ops (.op (some 13) .any [2] (.mov (.tmp 2)) <|
 .op (some 14) (.tup [(.agg [.any, .any]), .bool]) [13] (.call 12 [(.tmp 13)]) <|
 .op (some 12) .any [14] (.mov (.tmp 14)) <|
 .op (some 15) .any [12] (.extract 0 (.tmp 12)) <|
 .op (some 16) .any [12] (.extract 1 (.tmp 12)) <|
 .pal 10 [] 58 [V.nilf, V.nilf] <|
 .op none (.agg [.any, .any]) [10, 15] (.store 2 (.tmp 10) (.tmp 15)) <|
 .op (some 11) .any [16] (.mov (.tmp 16)) <|
 .nil))
 (.seq (.seq (.ops (.op (some 17) .any [11] (.mov (.tmp 11)) <|
 .op (some 18) .any [17] (.un .not (.tmp 17)) <|
 .nil))
 (.cond (.tmp 18) (.seq (.ops (.op (some 8) .any [] (.mov (.con V.nils)) <|
 .op (some 9) .any [] (.mov (.con (V.int .i64 (Int.ofNat 1)))) <|
 .nil))
 .ret)
 .skip))
 (.seq (.ops (.op (some 19) .any [10] (.faddr 0 (.tmp 10)) <|
 .op (some 20) .any [19] (.faddr 0 (.tmp 19)) <|
 .op (some 21) .any [20] (.load none (.tmp 20)) <|
 .op (some 22) (.agg [.str, .any, .any, .any]) [4] (.load (some 4) (.tmp 4)) <|
 .op (some 23) .any [1] (.mov (.tmp 1)) <|
 .op (some 24) (.agg [(.int .i64), (.int .i64), .any, .any, (.int .i64), .any]) [7] (.load (some 6) (.tmp 7)) <|
 .op (some 25) (.tup [.any, (.int .i64)]) [21, 22, 23, 24] (.callv (.tmp 21) [(.tmp 22), (.tmp 23), (.tmp 24)]) <|
 .op (some 26) .any [25] (.extract 0 (.tmp 25)) <|
 .op (some 27) .any [25] (.extract 1 (.tmp 25)) <|
 .op (some 8) .any [26] (.mov (.tmp 26)) <|
 .op (some 9) .any [27] (.mov (.tmp 27)) <|
 .nil))
 .ret))))
def T6_0 (E : List (Nat × Blk)) (D : Den) (W : DrawFn) (v0_0 : BS) (v0_1 : V) (v0_2 : V) (v0_3 : V) (v1 : Int) (v2 : Int) (v3_0 : Int) (v3_1 : Int) (v3_2 : V) (v3_3 : V) (v3_4 : Int) (v3_5 : V) (σ : H) : Ans :=
 chk (allOne (V.cells (V.agg [(V.str v0_0), v0_1, v0_2, v0_3]))) (
 let s1 := newB σ (.cells (V.cells (V.agg [(V.str v0_0), v0_1, v0_2, v0_3])));
 chk (allOne (V.cells (V.agg [(V.int .i64 v3_0), (V.int .i64 v3_1), v3_2, v3_3, (V.int .i64 v3_4), v3_5]))) (
 let s2 := newB s1 (.cells (V.cells (V.agg [(V.int .i64 v3_0), (V.int .i64 v3_1), v3_2, v3_3, (V.int .i64 v3_4), v3_5])));
 callK (D 12 [(V.int .i64 v2)] s2) fun u3 s4 =>
 rtTup u3 fun l5 =>
 rtCons l5 fun x6 l7 =>
 rtAgg x6 fun l8 =>
 rtCons l8 fun x9 l10 =>
 rtCons l10 fun x11 l12 =>
 rtNil l12 (
 rtCons l7 fun x13 l14 =>
 rtBool x13 fun x15 =>
 rtNil l14 (
 chk (allOne [x9, x11]) (
 condK (not x15) (
 some ((V.tup [V.nils, (V.int .i64 (Int.ofNat 1))]), s4)) (
 ldnK E s4 (H.next σ) 0 4 fun l16 =>
 rtCons l16 fun x17 l18 =>
 rtStr x17 fun x19 =>
 rtCons l18 fun x20 l21 =>
 rtCons l21 fun x22 l23 =>
 rtCons l23 fun x24 l25 =>
 rtNil l25 (
 ldnK E s4 (H.next s1) 0 6 fun l26 =>
 rtCons l26 fun x27 l28 =>
 rtInt .i64 x27 fun x29 =>
 rtCons l28 fun x30 l31 =>
 rtInt .i64 x30 fun x32 =>
 rtCons l31 fun x33 l34 =>
 rtCons l34 fun x35 l36 =>
 rtCons l36 fun x37 l38 =>
 rtInt .i64 x37 fun x39 =>
 rtCons l38 fun x40 l41 =>
 rtNil l41 (
 callvK D x9 [(V.agg [(V.str x19), x20, x22, x24]), (V.int .i64 v1), (V.agg [(V.int .i64 x29), (V.int .i64 x32), x33, x35, (V.int .i64 x39), x40])] s4 fun u42 s43 =>
 rtTup u42 fun l44 =>
 rtCons l44 fun x45 l46 =>
 rtCons l46 fun x47 l48 =>
 rtInt .i64 x47 fun x49 =>
 rtNil l48 (
 some ((V.tup [x45, (V.int .i64 x49)]), s43))))))))))
theorem P6_0 (E : List (Nat × Blk)) (D : Den) (W : DrawFn) (N : Nat) (v0_0 : BS) (v0_1 : V) (v0_2 : V) (v0_3 : V) (v1 : Int) (v2 : Int) (v3_0 : Int) (v3_1 : Int) (v3_2 : V) (v3_3 : V) (v3_4 : Int) (v3_5 : V) (σ : H) :
  denC E D W N (C6_0 ) ⟨[(0, (V.agg [(V.str v0_0), v0_1, v0_2, v0_3])), (1, (V.int .i64 v1)), (2, (V.int .i64 v2)), (3, (V.agg [(V.int .i64 v3_0), (V.int .i64 v3_1), v3_2, v3_3, (V.int .i64 v3_4), v3_5]))], [], [], σ⟩ (Fin6 E) (fun _ _ => none) (Fin6 E) =
  T6_0 E D W  v0_0 v0_1 v0_2 v0_3 v1 v2 v3_0 v3_1 v3_2 v3_3 v3_4 v3_5 σ := by kernel_rfl
def J6_0 (E : List (Nat × Blk)) (D : Den) (W : DrawFn) (N : Nat) : BS → V → V → V → Int → Int → Int → Int → V → V → Int → V → H → Ans := T6_0 E D W 
theorem JE6_0 (E : List (Nat × Blk)) (D : Den) (W : DrawFn) (N : Nat) (v0_0 : BS) (v0_1 : V) (v0_2 : V) (v0_3 : V) (v1 : Int) (v2 : Int) (v3_0 : Int) (v3_1 : Int) (v3_2 : V) (v3_3 : V) (v3_4 : Int) (v3_5 : V) (σ : H) :
  denC E D W N C6_0 ⟨[(0, (V.agg [(V.str v0_0), v0_1, v0_2, v0_3])), (1, (V.int .i64 v1)), (2, (V.int .i64 v2)), (3, (V.agg [(V.int .i64 v3_0), (V.int .i64 v3_1), v3_2, v3_3, (V.int .i64 v3_4), v3_5]))], [], [], σ⟩ (Fin6 E) (fun _ _ => none) (Fin6 E) = J6_0 E D W N v0_0 v0_1 v0_2 v0_3 v1 v2 v3_0 v3_1 v3_2 v3_3 v3_4 v3_5 σ := by
  refine (P6_0 E D W N   v0_0 v0_1 v0_2 v0_3 v1 v2 v3_0 v3_1 v3_2 v3_3 v3_4 v3_5 σ).trans ?_
  kernel_rfl
def F6 (E : List (Nat × Blk)) (D : Den) (W : DrawFn) (N : Nat) (args : List V) (σ : H) : Ans :=
 rtCons args fun x1 l2 =>
 rtAgg x1 fun l3 =>
 rtCons l3 fun x4 l5 =>
 rtStr x4 fun x6 =>
 rtCons l5 fun x7 l8 =>
 rtCons l8 fun x9 l10 =>
 rtCons l10 fun x11 l12 =>
 rtNil l12 (
 rtCons l2 fun x13 l14 =>
 rtInt .i64 x13 fun x15 =>
 rtCons l14 fun x16 l17 =>
 rtInt .i64 x16 fun x18 =>
 rtCons l17 fun x19 l20 =>
 rtAgg x19 fun l21 =>
 rtCons l21 fun x22 l23 =>
 rtInt .i64 x22 fun x24 =>
 rtCons l23 fun x25 l26 =>
 rtInt .i64 x25 fun x27 =>
 rtCons l26 fun x28 l29 =>
 rtCons l29 fun x30 l31 =>
 rtCons l31 fun x32 l33 =>
 rtInt .i64 x32 fun x34 =>
 rtCons l33 fun x35 l36 =>
 rtNil l36 (
 rtNil l20 (
 J6_0 E D W N x6 x7 x9 x11 x15 x18 x24 x27 x28 x30 x34 x35 σ)))
def A6 : XFn := ⟨28, [(.agg [.str, .any, .any, .any]), (.int .i64), (.int .i64), (.agg [(.int .i64), (.int .i64), .any, .any, (.int .i64), .any])], [(.tmp 8), (.tmp 9)], C6_0⟩
theorem FE6 (E : List (Nat × Blk)) (D : Den) (W : DrawFn) (N : Nat) (args : List V) (σ : H) : runX E D W N A6 args σ = F6 E D W N args σ := by
  unfold F6
  simp only [← JE6_0]
  kernel_rfl
theorem AO6 : A6.body.ok = true := by kernel_rfl

/-! ### F7: ogham_cross.Over -/
def G7_0 : List AOper := [⟨(some 53), .load (some 4) (.tmp 7), none⟩, ⟨(some 54), .mov (.tmp 1), none⟩, ⟨(some 55), .load (some 4) (.tmp 10), none⟩, ⟨(some 56), .mov (.tmp 4), none⟩, ⟨(some 57), .load (some 6) (.tmp 20), none⟩, ⟨(some 58), .call 14 [(.tmp 57)], none⟩, ⟨(some 59), .call 13 [(.tmp 53), (.tmp 54), (.tmp 55), (.tmp 56), (.tmp 58)], none⟩, ⟨(some 52), .mov (.tmp 59), none⟩, ⟨(some 60), .extract 0 (.tmp 52), none⟩, ⟨(some 61), .extract 1 (.tmp 52), none⟩, ⟨(some 22), .alloc 35 [(V.int .i64 (Int.ofNat 0)), (V.int .i64 (Int.ofNat 0)), V.nils, V.nils, (V.int .i64 (Int.ofNat 0)), V.nils], none⟩, ⟨none, .store 6 (.tmp 22) (.tmp 60), none⟩, ⟨(some 21), .mov (.tmp 61), none⟩]
def H7_0 : List DP := [⟨0, [7]⟩, ⟨0, [1]⟩, ⟨0, [10]⟩, ⟨0, [4]⟩, ⟨0, [20]⟩, ⟨16, [57]⟩, ⟨63, [53, 54, 55, 56, 58]⟩, ⟨127, [59]⟩, ⟨255, [52]⟩, ⟨255, [52]⟩, ⟨0, []⟩, ⟨1535, [22, 60]⟩, ⟨4095, [61]⟩]
def Fin7 (E : List (Nat × Blk)) : St → Ans := fun s => resK E s [(.tmp 14), (.tmp 15)] fun l => some (oneV l, s.σ)
def C7_0 : XC := (.seq (.ops (.op (some 7) .any [0] (.box 27 (.tmp 0)) <|
 .op (some 10) .any [3] (.box 27 (.tmp 3)) <|
 .op (some 14) .any [] (.mov (.con V.nils)) <|
 .op (some 15) .any [] (.mov (.con (V.int .i64 (Int.ofNat 0)))) <|
 .nil))
 (.seq (.ops (.op (some 24) .any [2] (.mov (.tmp 2)) <|
 .op (some 25) (.tup [(.agg [.any, .any]), .bool]) [24] (.call 12 [(.tmp 24)]) <|
 .op (some 23) .any [25] (.mov (.tmp 25)) <|
 .op (some 26) .any [23] (.extract 0 (.tmp 23)) <|
 .op (some 27) .any [23] (.extract 1 (.tmp 23)) <|
 .pal 16 [] 58 [V.nilf, V.nilf] <|
 .op none (.agg [.any, .any]) [16, 26] (.store 2 (.tmp 16) (.tmp 26)) <|
 .op (some 17) .any [27] (.mov (.tmp 27)) <|
 .nil))
 (.seq (.ops (.op (some 29) .any [5] (.mov (.tmp 5)) <|
 .op (some 30) (.tup [(.agg [.any, .any]), .bool]) [29] (.call 12 [(.tmp 29)]) <|
 .op (some 28) .any [30] (.mov (.tmp 30)) <|
 .op (some 31) .any [28] (.extract 0 (.tmp 28)) <|
 .op (some 32) .any [28] (.extract 1 (.tmp 28)) <|
 .op (some 18) .any [] (.alloc 58 [V.nilf, V.nilf]) <|
 .op none (.agg [.any, .any]) [18, 31] (.store 2 (.tmp 18) (.tmp 31)) <|
 .op (some 19) .any [32] (.mov (.tmp 32)) <|
 .nil))
 (.seq (.seq (.ops (.op (some 33) .any [17] (.mov (.tmp 17)) <|
 .op (some 34) .any [33] (.un .not (.tmp 33)) <|
 .op (some 35) .any [34] (.mov (.tmp 34)) <|
 .grp 35 false (.op (some 36) .any [19, 35] (.mov (.tmp 19)) <|
 .op (some 37) .any [36, 35] (.un .not (.tmp 36)) <|
 .nil) 38 [35, 37] (.tmp 35) (.con (V.bool true)) (.tmp 37) <|
 .nil))
 (.cond (.tmp 38) (.seq (.ops (.op (some 14) .any [] (.mov (.con V.nils)) <|
 .op (some 15) .any [] (.mov (.con (V.int .i64 (Int.ofNat 1)))) <|
 .nil))
 .ret)
 .skip))
 (.seq (.ops (.op (some 40) .any [16] (.faddr 1 (.tmp 16)) <|
 .op (some 41) .any [40] (.faddr 0 (.tmp 40)) <|
 .op (some 42) .any [41] (.load none (.tmp 41)) <|
 .op (some 43) (.agg [.str, .any, .any, .any]) [7] (.load (some 4) (.tmp 7)) <|
 .op (some 44) .any [1] (.mov (.tmp 1)) <|
 .op (some 45) .any [6] (.mov (.tmp 6)) <|
 .op (some 46) (.tup [(.agg [(.int .i64), (.int .i64), .any, .any, (.int .i64), .any]), (.int .i64)]) [42, 43, 44, 45] (.callv (.tmp 42) [(.tmp 43), (.tmp 44), (.tmp 45)]) <|
 .op (some 39) .any [46] (.mov (.tmp 46)) <|
 .op (some 47) .any [39] (.extract 0 (.tmp 39)) <|
 .op (some 48) .any [39] (.extract 1 (.tmp 39)) <|
 .op (some 20) .any [] (.alloc 35 [(V.int .i64 (Int.ofNat 0)), (V.int .i64 (Int.ofNat 0)), V.nils, V.nils, (V.int .i64 (Int.ofNat 0)), V.nils]) <|
 .op none (.agg [(.int .i64), (.int .i64), .any, .any, (.int .i64), .any]) [20, 47] (.store 6 (.tmp 20) (.tmp 47)) <|
 .op (some 21) .any [48] (.mov (.tmp 48)) <|
 .nil))
 (.seq (.seq (.ops (.op (some 49) .any [21] (.mov (.tmp 21)) <|
 .op (some 50) .any [49] (.bin .neq .none (.tmp 49) (.con (V.int .i64 (Int.ofNat 0)))) <|
 .nil))
 (.cond (.tmp 50) (.seq (.ops (.op (some 51) .any [21] (.mov (.tmp 21)) <|
 .op (some 14) .any [] (.mov (.con V.nils)) <|
 .op (some 15) .any [51] (.mov (.tmp 51)) <|
 .nil))
 .ret)
 .skip))
 (.seq (.keep [(1, (.int .i64)), (4, (.int .i64)), (7, .ptr), (10, .ptr), (18, .ptr), (20, .ptr)] [] [] (.gdraw G7_0 H7_0 [(4, (.int .i64)), (10, .ptr), (18, .ptr), (21, (.int .i64)), (22, .ptr)]))
 (.seq (.block 0 (.seq (.ops (.op (some 63) .any [21] (.mov (.tmp 21)) <|
 .op (some 64) .any [63] (.bin .neq .none (.tmp 63) (.con (V.int .i64 (Int.ofNat 0)))) <|
 .op (some 62) .any [64] (.mov (.tmp 64)) <|
 .nil))
 (.cond (.tmp 62) (.seq (.ops (.op (some 65) .any [21] (.mov (.tmp 21)) <|
 .op (some 14) .any [] (.mov (.con V.nils)) <|
 .op (some 15) .any [65] (.mov (.tmp 65)) <|
 .nil))
 .ret)
 (.seq (.ops (.op (some 67) (.agg [(.int .i64), (.int .i64), .any, .any, (.int .i64), .any]) [22] (.load (some 6) (.tmp 22)) <|
 .op (some 68) .bool [67] (.call 15 [(.tmp 67)]) <|
 .op (some 69) .any [68] (.un .not (.tmp 68)) <|
 .op (some 66) .any [69] (.mov (.tmp 69)) <|
 .nil))
 (.cond (.tmp 66) (.seq (.ops (.op (some 14) .any [] (.mov (.con V.nils)) <|
 .op (some 15) .any [] (.mov (.con (V.int .i64 (Int.ofNat 16)))) <|
 .nil))
 .ret)
 .skip)))))
 (.seq (.ops (.op (some 70) .any [18] (.faddr 0 (.tmp 18)) <|
 .op (some 71) .any [70] (.faddr 0 (.tmp 70)) <|
 .op (some 72) .any [71] (.load none (.tmp 71)) <|
 .op (some 73) (.agg [.str, .any, .any, .any]) [10] (.load (some 4) (.tmp 10)) <|
 .op (some 74) .any [4] (.mov (.tmp 4)) <|
 .op (some 75) (.agg [(.int .i64), (.int .i64), .any, .any, (.int .i64), .any]) [22] (.load (some 6) (.tmp 22)) <|
 .op (some 76) (.tup [.any, (.int .i64)]) [72, 73, 74, 75] (.callv (.tmp 72) [(.tmp 73), (.tmp 74), (.tmp 75)]) <|
 .op (some 77) .any [76] (.extract 0 (.tmp 76)) <|
 .op (some 78) .any [76] (.extract 1 (.tmp 76)) <|
 .op (some 14) .any [77] (.mov (.tmp 77)) <|
 .op (some 15) .any [78] (.mov (.tmp 78)) <|
 .nil))
 .ret)))))))))
def T7_0 (E : List (Nat × Blk)) (D : Den) (W : DrawFn) (v0_0 : BS) (v0_1 : V) (v0_2 : V) (v0_3 : V) (v1 : Int) (v2 : Int) (v3_0 : BS) (v3_1 : V) (v3_2 : V) (v3_3 : V) (v4 : Int) (v5 : Int) (v6 : V) (σ : H) : Ans :=
 chk (allOne (V.cells (V.agg [(V.str v0_0), v0_1, v0_2, v0_3]))) (
 let s1 := newB σ (.cells (V.cells (V.agg [(V.str v0_0), v0_1, v0_2, v0_3])));
 chk (allOne (V.cells (V.agg [(V.str v3_0), v3_1, v3_2, v3_3]))) (
 let s2 := newB s1 (.cells (V.cells (V.agg [(V.str v3_0), v3_1, v3_2, v3_3])));
 callK (D 12 [(V.int .i64 v2)] s2) fun u3 s4 =>
 rtTup u3 fun l5 =>
 rtCons l5 fun x6 l7 =>
 rtAgg x6 fun l8 =>
 rtCons l8 fun x9 l10 =>
 rtCons l10 fun x11 l12 =>
 rtNil l12 (
 rtCons l7 fun x13 l14 =>
 rtBool x13 fun x15 =>
 rtNil l14 (
 chk (allOne [x9, x11]) (
 callK (D 12 [(V.int .i64 v5)] s4) fun u16 s17 =>
 rtTup u16 fun l18 =>
 rtCons l18 fun x19 l20 =>
 rtAgg x19 fun l21 =>
 rtCons l21 fun x22 l23 =>
 rtCons l23 fun x24 l25 =>
 rtNil l25 (
 rtCons l20 fun x26 l27 =>
 rtBool x26 fun x28 =>
 rtNil l27 (
 let s29 := newB s17 (.cells [V.nilf, V.nilf]);
 stK 2 (H.next s17) 0 (V.agg [x22, x24]) s29 fun s30 =>
 joinB (fun c31 s32 =>
 condK c31 (
 some ((V.tup [V.nils, (V.int .i64 (Int.ofNat 1))]), s32)) (
 ldnK E s32 (H.next σ) 0 4 fun l34 =>
 rtCons l34 fun x35 l36 =>
 rtStr x35 fun x37 =>
 rtCons l36 fun x38 l39 =>
 rtCons l39 fun x40 l41 =>
 rtCons l41 fun x42 l43 =>
 rtNil l43 (
 callvK D x11 [(V.agg [(V.str x37), x38, x40, x42]), (V.int .i64 v1), v6] s32 fun u44 s45 =>
 rtTup u44 fun l46 =>
 rtCons l46 fun x47 l48 =>
 rtAgg x47 fun l49 =>
 rtCons l49 fun x50 l51 =>
 rtInt .i64 x50 fun x52 =>
 rtCons l51 fun x53 l54 =>
 rtInt .i64 x53 fun x55 =>
 rtCons l54 fun x56 l57 =>
 rtCons l57 fun x58 l59 =>
 rtCons l59 fun x60 l61 =>
 rtInt .i64 x60 fun x62 =>
 rtCons l61 fun x63 l64 =>
 rtNil l64 (
 rtCons l48 fun x65 l66 =>
 rtInt .i64 x65 fun x67 =>
 rtNil l66 (
 let s68 := newB s45 (.cells [(V.int .i64 (Int.ofNat 0)), (V.int .i64 (Int.ofNat 0)), V.nils, V.nils, (V.int .i64 (Int.ofNat 0)), V.nils]);
 stK 6 (H.next s45) 0 (V.agg [(V.int .i64 x52), (V.int .i64 x55), x56, x58, (V.int .i64 x62), x63]) s68 fun s69 =>
 condK (not (eqF x67 (Int.ofNat 0))) (
 some ((V.tup [V.nils, (V.int .i64 x67)]), s69)) (
 gdrawK (W G7_0 H7_0 [(1, (V.int .i64 v1)), (4, (V.int .i64 v4)), (7, (V.ptr (H.next σ) 0)), (10, (V.ptr (H.next s1) 0)), (18, (V.ptr (H.next s17) 0)), (20, (V.ptr (H.next s45) 0))] s69) fun e70 s71 =>
 getL e70 4 fun u72 =>
 rtInt .i64 u72 fun x73 =>
 getL e70 10 fun u74 =>
 rtPtr u74 fun b75 o76 =>
 getL e70 18 fun u77 =>
 rtPtr u77 fun b78 o79 =>
 getL e70 21 fun u80 =>
 rtInt .i64 u80 fun x81 =>
 getL e70 22 fun u82 =>
 rtPtr u82 fun b83 o84 =>
 condK (not (eqF x81 (Int.ofNat 0))) (
 some ((V.tup [V.nils, (V.int .i64 x81)]), s71)) (
 ldnK E s71 b83 o84 6 fun l85 =>
 rtCons l85 fun x86 l87 =>
 rtInt .i64 x86 fun x88 =>
 rtCons l87 fun x89 l90 =>
 rtInt .i64 x89 fun x91 =>
 rtCons l90 fun x92 l93 =>
 rtCons l93 fun x94 l95 =>
 rtCons l95 fun x96 l97 =>
 rtInt .i64 x96 fun x98 =>
 rtCons l97 fun x99 l100 =>
 rtNil l100 (
 callK (D 15 [(V.agg [(V.int .i64 x88), (V.int .i64 x91), x92, x94, (V.int .i64 x98), x99])] s71) fun u101 s102 =>
 rtBool u101 fun x103 =>
 condK (not x103) (
 some ((V.tup [V.nils, (V.int .i64 (Int.ofNat 16))]), s102)) (
 ldK E s102 b78 o79 fun u104 =>
 ldnK E s102 b75 o76 4 fun l105 =>
 rtCons l105 fun x106 l107 =>
 rtStr x106 fun x108 =>
 rtCons l107 fun x109 l110 =>
 rtCons l110 fun x111 l112 =>
 rtCons l112 fun x113 l114 =>
 rtNil l114 (
 ldnK E s102 b83 o84 6 fun l115 =>
 rtCons l115 fun x116 l117 =>
 rtInt .i64 x116 fun x118 =>
 rtCons l117 fun x119 l120 =>
 rtInt .i64 x119 fun x121 =>
 rtCons l120 fun x122 l123 =>
 rtCons l123 fun x124 l125 =>
 rtCons l125 fun x126 l127 =>
 rtInt .i64 x126 fun x128 =>
 rtCons l127 fun x129 l130 =>
 rtNil l130 (
 callvK D u104 [(V.agg [(V.str x108), x109, x111, x113]), (V.int .i64 x73), (V.agg [(V.int .i64 x118), (V.int .i64 x121), x122, x124, (V.int .i64 x128), x129])] s102 fun u131 s132 =>
 rtTup u131 fun l133 =>
 rtCons l133 fun x134 l135 =>
 rtCons l135 fun x136 l137 =>
 rtInt .i64 x136 fun x138 =>
 rtNil l137 (
 some ((V.tup [x134, (V.int .i64 x138)]), s132))))))))))))) fun k33 =>
 condK (not x15) (
 k33 true s30) (
 k33 (not x28) s30))))))))
theorem P7_0 (E : List (Nat × Blk)) (D : Den) (W : DrawFn) (N : Nat) (v0_0 : BS) (v0_1 : V) (v0_2 : V) (v0_3 : V) (v1 : Int) (v2 : Int) (v3_0 : BS) (v3_1 : V) (v3_2 : V) (v3_3 : V) (v4 : Int) (v5 : Int) (v6 : V) (σ : H) :
  denC E D W N (C7_0 ) ⟨[(0, (V.agg [(V.str v0_0), v0_1, v0_2, v0_3])), (1, (V.int .i64 v1)), (2, (V.int .i64 v2)), (3, (V.agg [(V.str v3_0), v3_1, v3_2, v3_3])), (4, (V.int .i64 v4)), (5, (V.int .i64 v5)), (6, v6)], [], [], σ⟩ (Fin7 E) (fun _ _ => none) (Fin7 E) =
  T7_0 E D W  v0_0 v0_1 v0_2 v0_3 v1 v2 v3_0 v3_1 v3_2 v3_3 v4 v5 v6 σ := by kernel_rfl
def J7_0 (E : List (Nat × Blk)) (D : Den) (W : DrawFn) (N : Nat) : BS → V → V → V → Int → Int → BS → V → V → V → Int → Int → V → H → Ans := T7_0 E D W 
theorem JE7_0 (E : List (Nat × Blk)) (D : Den) (W : DrawFn) (N : Nat) (v0_0 : BS) (v0_1 : V) (v0_2 : V) (v0_3 : V) (v1 : Int) (v2 : Int) (v3_0 : BS) (v3_1 : V) (v3_2 : V) (v3_3 : V) (v4 : Int) (v5 : Int) (v6 : V) (σ : H) :
  denC E D W N C7_0 ⟨[(0, (V.agg [(V.str v0_0), v0_1, v0_2, v0_3])), (1, (V.int .i64 v1)), (2, (V.int .i64 v2)), (3, (V.agg [(V.str v3_0), v3_1, v3_2, v3_3])), (4, (V.int .i64 v4)), (5, (V.int .i64 v5)), (6, v6)], [], [], σ⟩ (Fin7 E) (fun _ _ => none) (Fin7 E) = J7_0 E D W N v0_0 v0_1 v0_2 v0_3 v1 v2 v3_0 v3_1 v3_2 v3_3 v4 v5 v6 σ := by
  refine (P7_0 E D W N   v0_0 v0_1 v0_2 v0_3 v1 v2 v3_0 v3_1 v3_2 v3_3 v4 v5 v6 σ).trans ?_
  kernel_rfl
def F7 (E : List (Nat × Blk)) (D : Den) (W : DrawFn) (N : Nat) (args : List V) (σ : H) : Ans :=
 rtCons args fun x1 l2 =>
 rtAgg x1 fun l3 =>
 rtCons l3 fun x4 l5 =>
 rtStr x4 fun x6 =>
 rtCons l5 fun x7 l8 =>
 rtCons l8 fun x9 l10 =>
 rtCons l10 fun x11 l12 =>
 rtNil l12 (
 rtCons l2 fun x13 l14 =>
 rtInt .i64 x13 fun x15 =>
 rtCons l14 fun x16 l17 =>
 rtInt .i64 x16 fun x18 =>
 rtCons l17 fun x19 l20 =>
 rtAgg x19 fun l21 =>
 rtCons l21 fun x22 l23 =>
 rtStr x22 fun x24 =>
 rtCons l23 fun x25 l26 =>
 rtCons l26 fun x27 l28 =>
 rtCons l28 fun x29 l30 =>
 rtNil l30 (
 rtCons l20 fun x31 l32 =>
 rtInt .i64 x31 fun x33 =>
 rtCons l32 fun x34 l35 =>
 rtInt .i64 x34 fun x36 =>
 rtCons l35 fun x37 l38 =>
 rtNil l38 (
 J7_0 E D W N x6 x7 x9 x11 x15 x18 x24 x25 x27 x29 x33 x36 x37 σ)))
def A7 : XFn := ⟨79, [(.agg [.str, .any, .any, .any]), (.int .i64), (.int .i64), (.agg [.str, .any, .any, .any]), (.int .i64), (.int .i64), .any], [(.tmp 14), (.tmp 15)], C7_0⟩
theorem FE7 (E : List (Nat × Blk)) (D : Den) (W : DrawFn) (N : Nat) (args : List V) (σ : H) : runX E D W N A7 args σ = F7 E D W N args σ := by
  unfold F7
  simp only [← JE7_0]
  kernel_rfl
theorem AO7 : A7.body.ok = true := by kernel_rfl

def C8_0 : XC := (.seq (.ops (.op (some 0) .any [] (.mov (.con (V.bool false))) <|
 .nil))
 (.seq (.ops (.op (some 6) (.tup [(.agg [.str, .any, .any, .any]), .bool]) [] (.call 4 [(.con (V.str ⟨48, 10513215938693142609338414843849125141369443019649302053554332849144046652396032987795422456017691386243615887204429⟩))]) <|
 .op (some 5) .any [6] (.mov (.tmp 6)) <|
 .op (some 7) .any [5] (.extract 0 (.tmp 5)) <|
 .op (some 8) .any [5] (.extract 1 (.tmp 5)) <|
 .pal 1 [] 27 [(V.str ⟨0, 0⟩), V.nils, V.nils, V.nils] <|
 .op none (.agg [.str, .any, .any, .any]) [1, 7] (.store 4 (.tmp 1) (.tmp 7)) <|
 .op (some 2) .any [8] (.mov (.tmp 8)) <|
 .nil))
 (.seq (.ops (.op (some 10) (.agg [.str, .any, .any, .any]) [1] (.load (some 4) (.tmp 1)) <|
 .op (some 11) (.agg [.str, .any, .any, .any]) [1] (.load (some 4) (.tmp 1)) <|
 .op (some 12) .any [] (.buildSlice 5 3 [(V.int .u8 (Int.ofNat 0)), (V.int .u8 (Int.ofNat 0)), (V.int .u8 (Int.ofNat 0))] [(0, 1, (.con (V.int .u8 (Int.ofNat 2)))), (1, 1, (.con (V.int .u8 (Int.ofNat 1)))), (2, 1, (.con (V.int .u8 (Int.ofNat 5))))]) <|
 .op (some 13) (.tup [.any, (.int .i64)]) [10, 11, 12] (.call 7 [(.tmp 10), (.con (V.int .i64 (Int.ofNat 0))), (.con (V.int .i64 (Int.ofNat 1))), (.tmp 11), (.con (V.int .i64 (Int.ofNat 0))), (.con (V.int .i64 (Int.ofNat 2))), (.tmp 12)]) <|
 .op (some 9) .any [13] (.mov (.tmp 13)) <|
 .op (some 14) .any [9] (.extract 0 (.tmp 9)) <|
 .op (some 15) .any [9] (.extract 1 (.tmp 9)) <|
 .op (some 3) .any [14] (.mov (.tmp 14)) <|
 .op (some 4) .any [15] (.mov (.tmp 15)) <|
 .nil))
 (.seq (.ops (.op (some 16) .any [2] (.mov (.tmp 2)) <|
 .op (some 17) .any [16] (.mov (.tmp 16)) <|
 .grp 17 true (.op (some 18) .any [4, 17] (.mov (.tmp 4)) <|
 .op (some 19) .any [18, 17] (.bin .eql .none (.tmp 18) (.con (V.int .i64 (Int.ofNat 0)))) <|
 .nil) 20 [17, 19] (.tmp 17) (.tmp 19) (.con (V.bool false)) <|
 .op (some 21) .any [20] (.mov (.tmp 20)) <|
 .grp 21 true (.op (some 22) .any [3, 21] (.mov (.tmp 3)) <|
 .op (some 23) .any [22, 21] (.len false (.tmp 22)) <|
 .op (some 24) .any [23, 21] (.bin .eql .none (.tmp 23) (.con (V.int .i64 (Int.ofNat 1)))) <|
 .nil) 25 [21, 24] (.tmp 21) (.tmp 24) (.con (V.bool false)) <|
 .op (some 26) .any [25] (.mov (.tmp 25)) <|
 .grp 26 true (.op (some 27) .any [3, 26] (.mov (.tmp 3)) <|
 .op (some 28) .any [27, 26] (.iaddrS 1 (.tmp 27) (.con (V.int .i64 (Int.ofNat 0)))) <|
 .op (some 29) (.int .u8) [28, 26] (.load none (.tmp 28)) <|
 .op (some 30) .any [29, 26] (.bin .eql .none (.tmp 29) (.con (V.int .u8 (Int.ofNat 160)))) <|
 .nil) 31 [26, 30] (.tmp 26) (.tmp 30) (.con (V.bool false)) <|
 .op (some 0) .any [31] (.mov (.tmp 31)) <|
 .nil))
 .ret))))
def A8 : XFn := ⟨32, [], [(.tmp 0)], C8_0⟩
def G9_0 : List AOper := [⟨(some 140), .build [(V.str ⟨0, 0⟩), (V.int .i64 (Int.ofNat 0)), V.nils, V.nils, V.nils] [], none⟩, ⟨(some 141), .mov (.tmp 8), none⟩, ⟨(some 142), .nilck (.tmp 141), none⟩, ⟨(some 143), .faddr 8 (.tmp 142), none⟩, ⟨(some 144), .load none (.tmp 143), none⟩, ⟨(some 145), .mov (.tmp 8), none⟩, ⟨(some 146), .nilck (.tmp 145), none⟩, ⟨(some 147), .faddr 7 (.tmp 146), none⟩, ⟨(some 148), .load none (.tmp 147), none⟩, ⟨none, .store 5 (.tmp 2) (.tmp 140), none⟩, ⟨(some 3), .mov (.tmp 144), none⟩, ⟨(some 4), .mov (.tmp 148), none⟩]
def H9_0 : List DP := [⟨0, []⟩, ⟨0, [8]⟩, ⟨2, [141]⟩, ⟨6, [142]⟩, ⟨14, [143]⟩, ⟨0, [8]⟩, ⟨32, [145]⟩, ⟨96, [146]⟩, ⟨224, [147]⟩, ⟨1, [2, 140]⟩, ⟨543, [144]⟩, ⟨2047, [148]⟩]
def C9_0 (cc1 : XC) : XC := (.seq (.ops (.op (some 2) .any [] (.alloc 44 [(V.str ⟨0, 0⟩), (V.int .i64 (Int.ofNat 0)), V.nils, V.nils, V.nils]) <|
 .op (some 3) .any [] (.mov (.con (V.int .i64 (Int.ofNat 0)))) <|
 .op (some 4) .any [] (.mov (.con (V.int .i64 (Int.ofNat 0)))) <|
 .nil))
 (.seq (.ops (.op (some 13) .any [0] (.mov (.tmp 0)) <|
 .op (some 14) (.tup [.any, (.int .i64), (.int .i64)]) [13] (.call 16 [(.tmp 13)]) <|
 .op (some 12) .any [14] (.mov (.tmp 14)) <|
 .op (some 15) .any [12] (.extract 0 (.tmp 12)) <|
 .op (some 16) .any [12] (.extract 1 (.tmp 12)) <|
 .op (some 17) .any [12] (.extract 2 (.tmp 12)) <|
 .op (some 5) .any [15] (.mov (.tmp 15)) <|
 .op (some 6) .any [16] (.mov (.tmp 16)) <|
 .op (some 7) .any [17] (.mov (.tmp 17)) <|
 .nil))
 (.seq (.seq (.ops (.op (some 18) .any [7] (.mov (.tmp 7)) <|
 .op (some 19) .any [18] (.bin .neq .none (.tmp 18) (.con (V.int .i64 (Int.ofNat 0)))) <|
 .nil))
 (.cond (.tmp 19) (.seq (.ops (.op (some 20) (.agg [.str, (.int .i64), .any, .any, .any]) [] (.build [(V.str ⟨0, 0⟩), (V.int .i64 (Int.ofNat 0)), V.nils, V.nils, V.nils] []) <|
 .op (some 21) .any [6] (.mov (.tmp 6)) <|
 .op (some 22) .any [7] (.mov (.tmp 7)) <|
 .op none (.agg [.str, (.int .i64), .any, .any, .any]) [2, 20] (.store 5 (.tmp 2) (.tmp 20)) <|
 .op (some 3) .any [21] (.mov (.tmp 21)) <|
 .op (some 4) .any [22] (.mov (.tmp 22)) <|
 .nil))
 .ret)
 .skip))
 (.seq (.ops (.op (some 23) .any [5] (.mov (.tmp 5)) <|
 .op (some 24) (.agg [.any, (.int .i64), .str, (.int .i64), .any, .any, .any, (.int .i64), (.int .i64)]) [23] (.build [V.nils, (V.int .i64 (Int.ofNat 0)), (V.str ⟨0, 0⟩), (V.int .i64 (Int.ofNat 0)), V.nils, V.nils, V.nils, (V.int .i64 (Int.ofNat 0)), (V.int .i64 (Int.ofNat 0))] [(0, 1, (.tmp 23))]) <|
 .op (some 25) .any [24] (.box 70 (.tmp 24)) <|
 .op (some 8) .any [25] (.mov (.tmp 25)) <|
 .nil))
 (.seq (.ops (.op (some 26) .any [8] (.mov (.tmp 8)) <|
 .op (some 27) .any [8] (.mov (.tmp 8)) <|
 .op (some 28) .str [27] (.call 17 [(.tmp 27), (.con (V.int .i64 (Int.ofNat 1)))]) <|
 .op (some 29) .any [26] (.nilck (.tmp 26)) <|
 .op (some 30) .any [29] (.faddr 2 (.tmp 29)) <|
 .op (some 31) .any [30] (.faddr 0 (.tmp 30)) <|
 .op none .any [31, 28] (.store 1 (.tmp 31) (.tmp 28)) <|
 .nil))
 (.seq (.ops (.op (some 32) .any [8] (.mov (.tmp 8)) <|
 .op (some 33) (.tup []) [32] (.call 18 [(.tmp 32), (.con (V.str ⟨11, 100710650190388740279911748⟩))]) <|
 .nil))
 (.seq (.block 0 (.seq (.ops (.op (some 35) .any [8] (.mov (.tmp 8)) <|
 .op (some 36) .bool [35] (.call 19 [(.tmp 35), (.con (V.str ⟨8, 6073459554577832005⟩))]) <|
 .op (some 34) .any [36] (.mov (.tmp 36)) <|
 .nil))
 (.cond (.tmp 34) (.ops (.op (some 37) .any [8] (.mov (.tmp 8)) <|
 .op (some 38) (.tup []) [37] (.call 18 [(.tmp 37), (.con (V.str ⟨4, 1397178708⟩))]) <|
 .nil))
 (.seq (.ops (.op (some 40) .any [8] (.mov (.tmp 8)) <|
 .op (some 41) .bool [40] (.call 19 [(.tmp 40), (.con (V.str ⟨8, 6073459554577829193⟩))]) <|
 .op (some 39) .any [41] (.mov (.tmp 41)) <|
 .nil))
 (.cond (.tmp 39) (.seq (.ops (.op (some 42) .any [8] (.mov (.tmp 8)) <|
 .op (some 43) .any [42] (.nilck (.tmp 42)) <|
 .op (some 44) .any [43] (.faddr 2 (.tmp 43)) <|
 .op (some 45) .any [44] (.faddr 1 (.tmp 44)) <|
 .op none .any [45] (.store 1 (.tmp 45) (.con (V.int .i64 (Int.ofNat 1)))) <|
 .nil))
 (.ops (.op (some 46) .any [8] (.mov (.tmp 8)) <|
 .op (some 47) (.tup []) [46] (.call 18 [(.tmp 46), (.con (V.str ⟨4, 1397178708⟩))]) <|
 .nil)))
 (.seq (.ops (.op (some 49) .any [8] (.mov (.tmp 8)) <|
 .op (some 50) .bool [49] (.call 19 [(.tmp 49), (.con (V.str ⟨9, 1241215773001651606849⟩))]) <|
 .op (some 48) .any [50] (.mov (.tmp 50)) <|
 .nil))
 (.cond (.tmp 48) (.seq (.ops (.op (some 51) .any [8] (.mov (.tmp 8)) <|
 .op (some 52) .any [51] (.nilck (.tmp 51)) <|
 .op (some 53) .any [52] (.faddr 2 (.tmp 52)) <|
 .op (some 54) .any [53] (.faddr 1 (.tmp 53)) <|
 .op none .any [54] (.store 1 (.tmp 54) (.con (V.int .i64 (Int.ofNat 2)))) <|
 .nil))
 (.ops (.op (some 55) .any [8] (.mov (.tmp 8)) <|
 .op (some 56) (.tup []) [55] (.call 18 [(.tmp 55), (.con (V.str ⟨4, 1397178708⟩))]) <|
 .nil)))
 .skip)))))))
 (.keep [(2, .ptr), (8, .ptr)] [] [] cc1))))))))
def C9_1 (cc2 : XC) (cc3 : XC) : XC := (.seq (.ops (.op (some 57) .any [8] (.mov (.tmp 8)) <|
 .op (some 58) (.tup []) [57] (.call 18 [(.tmp 57), (.con (V.str ⟨3, 4012602⟩))]) <|
 .nil))
 (.seq (.ops (.op (some 59) .any [8] (.mov (.tmp 8)) <|
 .op (some 60) (.tup []) [59] (.call 18 [(.tmp 59), (.con (V.str ⟨5, 336236856642⟩))]) <|
 .nil))
 (.seq (.block 1 (.loop [(2, .ptr), (8, .ptr)] [] [] cc3))
 (.keep [(2, .ptr), (8, .ptr)] [] [] cc2))))
def C9_2 (cc5 : XC) : XC := (.seq (.seq (.ops (.op (some 120) .any [8] (.mov (.tmp 8)) <|
 .op (some 121) .any [120] (.nilck (.tmp 120)) <|
 .op (some 122) .any [121] (.faddr 7 (.tmp 121)) <|
 .op (some 123) (.int .i64) [122] (.load none (.tmp 122)) <|
 .op (some 124) .any [123] (.bin .eql .none (.tmp 123) (.con (V.int .i64 (Int.ofNat 0)))) <|
 .op (some 125) .any [124] (.mov (.tmp 124)) <|
 .grp 125 true (.op (some 126) .any [8, 125] (.mov (.tmp 8)) <|
 .op (some 127) (.agg [(.int .i64), .str, (.int .i64)]) [126, 125] (.call 20 [(.tmp 126)]) <|
 .op (some 128) (.int .i64) [127, 125] (.field 0 none (.tmp 127)) <|
 .op (some 129) .any [128, 125] (.bin .neq .none (.tmp 128) (.con (V.int .i64 (Int.ofNat 0)))) <|
 .nil) 130 [125, 129] (.tmp 125) (.tmp 129) (.con (V.bool false)) <|
 .nil))
 (.cond (.tmp 130) (.ops (.op (some 131) .any [8] (.mov (.tmp 8)) <|
 .op (some 132) .any [8] (.mov (.tmp 8)) <|
 .op (some 133) (.agg [(.int .i64), .str, (.int .i64)]) [132] (.call 20 [(.tmp 132)]) <|
 .op (some 134) (.tup []) [131, 133] (.call 21 [(.tmp 131), (.con (V.int .i64 (Int.ofNat 7))), (.tmp 133)]) <|
 .nil))
 .skip))
 (.keep [(2, .ptr), (8, .ptr)] [] [] cc5))
def C9_3 (cc4 : XC) : XC := (.seq (.seq (.ops (.op (some 61) .any [8] (.mov (.tmp 8)) <|
 .op (some 62) .any [61] (.nilck (.tmp 61)) <|
 .op (some 63) .any [62] (.faddr 7 (.tmp 62)) <|
 .op (some 64) (.int .i64) [63] (.load none (.tmp 63)) <|
 .op (some 65) .any [64] (.bin .eql .none (.tmp 64) (.con (V.int .i64 (Int.ofNat 0)))) <|
 .op (some 66) .any [65] (.mov (.tmp 65)) <|
 .grp 66 true (.op (some 67) .any [8, 66] (.mov (.tmp 8)) <|
 .op (some 68) .bool [67, 66] (.call 19 [(.tmp 67), (.con (V.str ⟨3, 4476485⟩))]) <|
 .op (some 69) .any [68, 66] (.un .not (.tmp 68)) <|
 .nil) 70 [66, 69] (.tmp 66) (.tmp 69) (.con (V.bool false)) <|
 .nil))
 (.cond (.tmp 70) .skip
 (.exit 1)))
 (.block 2 (.seq (.ops (.op (some 71) .any [8] (.mov (.tmp 8)) <|
 .op (some 72) (.agg [(.int .i64), .str, (.int .i64)]) [71] (.call 20 [(.tmp 71)]) <|
 .pal 9 [] 74 [(V.int .i64 (Int.ofNat 0)), (V.str ⟨0, 0⟩), (V.int .i64 (Int.ofNat 0))] <|
 .op none (.agg [(.int .i64), .str, (.int .i64)]) [9, 72] (.store 3 (.tmp 9) (.tmp 72)) <|
 .nil))
 (.seq (.ops (.op (some 73) .any [8] (.mov (.tmp 8)) <|
 .op (some 74) .str [73] (.call 17 [(.tmp 73), (.con (V.int .i64 (Int.ofNat 1)))]) <|
 .op (some 10) .any [74] (.mov (.tmp 74)) <|
 .nil))
 (.seq (.seq (.ops (.op (some 75) .any [8] (.mov (.tmp 8)) <|
 .op (some 76) .any [75] (.nilck (.tmp 75)) <|
 .op (some 77) .any [76] (.faddr 7 (.tmp 76)) <|
 .op (some 78) (.int .i64) [77] (.load none (.tmp 77)) <|
 .op (some 79) .any [78] (.bin .eql .none (.tmp 78) (.con (V.int .i64 (Int.ofNat 0)))) <|
 .op (some 80) .any [79] (.mov (.tmp 79)) <|
 .grp 80 true (.op (some 81) .any [8, 80] (.mov (.tmp 8)) <|
 .op (some 82) .any [81, 80] (.nilck (.tmp 81)) <|
 .op (some 83) .any [82, 80] (.faddr 2 (.tmp 82)) <|
 .op (some 84) .any [83, 80] (.faddr 2 (.tmp 83)) <|
 .op (some 85) .any [84, 80] (.load none (.tmp 84)) <|
 .op (some 86) .any [85, 80] (.len false (.tmp 85)) <|
 .op (some 87) .any [86, 80] (.bin .geq .none (.tmp 86) (.con (V.int .i64 (Int.ofNat 40)))) <|
 .nil) 88 [80, 87] (.tmp 80) (.tmp 87) (.con (V.bool false)) <|
 .nil))
 (.cond (.tmp 88) (.ops (.op (some 89) .any [8] (.mov (.tmp 8)) <|
 .op (some 90) (.agg [(.int .i64), .str, (.int .i64)]) [9] (.load (some 3) (.tmp 9)) <|
 .op (some 91) (.tup []) [89, 90] (.call 21 [(.tmp 89), (.con (V.int .i64 (Int.ofNat 5))), (.tmp 90)]) <|
 .nil))
 .skip))
 (.keep [(2, .ptr), (8, .ptr), (10, .str)] [] [] cc4))))))
def C9_4 : XC := (.seq (.ops (.op (some 92) .any [8] (.mov (.tmp 8)) <|
 .op (some 93) (.tup []) [92] (.call 18 [(.tmp 92), (.con (V.str ⟨3, 4012602⟩))]) <|
 .nil))
 (.seq (.ops (.op (some 94) .any [8] (.mov (.tmp 8)) <|
 .op (some 95) (.int .i64) [94] (.call 22 [(.tmp 94), (.con (V.int .i64 (Int.ofNat 0)))]) <|
 .op (some 11) .any [95] (.mov (.tmp 95)) <|
 .nil))
 (.seq (.ops (.op (some 96) .any [8] (.mov (.tmp 8)) <|
 .op (some 97) .any [8] (.mov (.tmp 8)) <|
 .op (some 98) .any [97] (.nilck (.tmp 97)) <|
 .op (some 99) .any [98] (.faddr 2 (.tmp 98)) <|
 .op (some 100) .any [99] (.faddr 2 (.tmp 99)) <|
 .op (some 101) .any [100] (.load none (.tmp 100)) <|
 .op (some 102) .any [10] (.mov (.tmp 10)) <|
 .op (some 103) .any [102] (.buildSlice 9 1 [(V.str ⟨0, 0⟩)] [(0, 1, (.tmp 102))]) <|
 .op (some 104) .one [101, 103] (.append 9 1 16 (.tmp 101) (.tmp 103)) <|
 .op (some 105) .any [96] (.nilck (.tmp 96)) <|
 .op (some 106) .any [105] (.faddr 2 (.tmp 105)) <|
 .op (some 107) .any [106] (.faddr 2 (.tmp 106)) <|
 .op none .any [107, 104] (.store 1 (.tmp 107) (.tmp 104)) <|
 .nil))
 (.ops (.op (some 108) .any [8] (.mov (.tmp 8)) <|
 .op (some 109) .any [8] (.mov (.tmp 8)) <|
 .op (some 110) .any [109] (.nilck (.tmp 109)) <|
 .op (some 111) .any [110] (.faddr 2 (.tmp 110)) <|
 .op (some 112) .any [111] (.faddr 3 (.tmp 111)) <|
 .op (some 113) .any [112] (.load none (.tmp 112)) <|
 .op (some 114) .any [11] (.mov (.tmp 11)) <|
 .op (some 115) .any [114] (.buildSlice 3 1 [(V.int .i64 (Int.ofNat 0))] [(0, 1, (.tmp 114))]) <|
 .op (some 116) .one [113, 115] (.append 3 1 8 (.tmp 113) (.tmp 115)) <|
 .op (some 117) .any [108] (.nilck (.tmp 108)) <|
 .op (some 118) .any [117] (.faddr 2 (.tmp 117)) <|
 .op (some 119) .any [118] (.faddr 3 (.tmp 118)) <|
 .op none .any [119, 116] (.store 1 (.tmp 119) (.tmp 116)) <|
 .nil)))))
def C9_5 : XC := (.seq (.seq (.ops (.op (some 135) .any [8] (.mov (.tmp 8)) <|
 .op (some 136) .any [135] (.nilck (.tmp 135)) <|
 .op (some 137) .any [136] (.faddr 7 (.tmp 136)) <|
 .op (some 138) (.int .i64) [137] (.load none (.tmp 137)) <|
 .op (some 139) .any [138] (.bin .neq .none (.tmp 138) (.con (V.int .i64 (Int.ofNat 0)))) <|
 .nil))
 (.cond (.tmp 139) (.seq (.keep [(2, .ptr), (8, .ptr)] [] [] (.gdraw G9_0 H9_0 [(2, .ptr), (3, (.int .i64)), (4, (.int .i64))]))
 .ret)
 .skip))
 (.seq (.ops (.op (some 149) .any [8] (.mov (.tmp 8)) <|
 .op (some 150) .any [149] (.nilck (.tmp 149)) <|
 .op (some 151) .any [150] (.faddr 2 (.tmp 150)) <|
 .op (some 152) (.agg [.str, (.int .i64), .any, .any, .any]) [151] (.load (some 5) (.tmp 151)) <|
 .op none (.agg [.str, (.int .i64), .any, .any, .any]) [2, 152] (.store 5 (.tmp 2) (.tmp 152)) <|
 .op (some 3) .any [] (.mov (.con (V.int .i64 (Int.ofNat 0)))) <|
 .op (some 4) .any [] (.mov (.con (V.int .i64 (Int.ofNat 0)))) <|
 .nil))
 .ret))
def A9 : XFn := ⟨153, [.str], [(.cell 2 (some 5)), (.tmp 3), (.tmp 4)], (C9_0 (C9_1 (C9_2 C9_5) (C9_3 C9_4)))⟩
def G10_0 : List AOper := [⟨(some 25), .faddr 0 (.tmp 1), none⟩, ⟨(some 26), .load none (.tmp 25), none⟩, ⟨(some 27), .faddr 2 (.tmp 1), none⟩, ⟨(some 28), .load none (.tmp 27), none⟩, ⟨(some 29), .append 9 1 16 (.con V.nils) (.tmp 28), none⟩, ⟨(some 30), .build [(V.str ⟨0, 0⟩), V.nils, V.nils, V.nils] [(0, 1, (.tmp 26)), (1, 1, (.tmp 29))], none⟩, ⟨(some 9), .alloc 27 [(V.str ⟨0, 0⟩), V.nils, V.nils, V.nils], none⟩, ⟨none, .store 4 (.tmp 9) (.tmp 30), none⟩]
def H10_0 : List DP := [⟨0, [1]⟩, ⟨1, [25]⟩, ⟨0, [1]⟩, ⟨4, [27]⟩, ⟨12, [28]⟩, ⟨31, [26, 29]⟩, ⟨0, []⟩, ⟨127, [9, 30]⟩]
def G10_1 : List AOper := [⟨(some 38), .faddr 2 (.tmp 9), none⟩, ⟨(some 39), .load none (.tmp 38), none⟩, ⟨(some 40), .mov (.tmp 8), none⟩, ⟨(some 41), .faddr 3 (.tmp 1), none⟩, ⟨(some 42), .load none (.tmp 41), none⟩, ⟨(some 43), .mov (.tmp 10), none⟩, ⟨(some 44), .iaddrS 1 (.tmp 42) (.tmp 43), none⟩, ⟨(some 45), .load none (.tmp 44), none⟩, ⟨(some 46), .call 24 [(.tmp 40), (.tmp 45), (.con (V.int .i64 (Int.ofNat 0)))], none⟩, ⟨(some 47), .buildSlice 3 1 [(V.int .i64 (Int.ofNat 0))] [(0, 1, (.tmp 46))], none⟩, ⟨(some 48), .append 3 1 8 (.tmp 39) (.tmp 47), none⟩, ⟨(some 49), .faddr 2 (.tmp 9), none⟩, ⟨none, .store 1 (.tmp 49) (.tmp 48), none⟩]
def H10_1 : List DP := [⟨0, [9]⟩, ⟨1, [38]⟩, ⟨0, [8]⟩, ⟨0, [1]⟩, ⟨8, [41]⟩, ⟨0, [10]⟩, ⟨56, [42, 43]⟩, ⟨120, [44]⟩, ⟨252, [40, 45]⟩, ⟨508, [46]⟩, ⟨1023, [39, 47]⟩, ⟨2047, [9]⟩, ⟨4095, [49, 48]⟩]
def G10_2 : List AOper := [⟨(some 55), .build [(V.str ⟨0, 0⟩), V.nils, V.nils, V.nils] [], none⟩, ⟨(some 56), .mov (.tmp 10), none⟩, ⟨(some 57), .mov (.tmp 8), none⟩, ⟨(some 58), .nilck (.tmp 57), none⟩, ⟨(some 59), .faddr 6 (.tmp 58), none⟩, ⟨(some 60), .load none (.tmp 59), none⟩, ⟨none, .store 4 (.tmp 2) (.tmp 55), none⟩, ⟨(some 3), .mov (.tmp 56), none⟩, ⟨(some 4), .mov (.tmp 60), none⟩]
def H10_2 : List DP := [⟨0, []⟩, ⟨0, [10]⟩, ⟨0, [8]⟩, ⟨4, [57]⟩, ⟨12, [58]⟩, ⟨28, [59]⟩, ⟨1, [2, 55]⟩, ⟨67, [56]⟩, ⟨255, [60]⟩]
def C10_0 (cc1 : XC) (cc2 : XC) : XC := (.seq (.ops (.op (some 1) .any [0] (.box 44 (.tmp 0)) <|
 .op (some 2) .any [] (.alloc 27 [(V.str ⟨0, 0⟩), V.nils, V.nils, V.nils]) <|
 .op (some 3) .any [] (.mov (.con (V.int .i64 (Int.ofNat 0)))) <|
 .op (some 4) .any [] (.mov (.con (V.int .i64 (Int.ofNat 0)))) <|
 .nil))
 (.seq (.ops (.op (some 12) (.agg [.str, (.int .i64), .any, .any, .any]) [1] (.load (some 5) (.tmp 1)) <|
 .op (some 13) (.tup [.any, (.int .i64), (.int .i64)]) [12] (.call 23 [(.tmp 12)]) <|
 .op (some 11) .any [13] (.mov (.tmp 13)) <|
 .op (some 14) .any [11] (.extract 0 (.tmp 11)) <|
 .op (some 15) .any [11] (.extract 1 (.tmp 11)) <|
 .op (some 16) .any [11] (.extract 2 (.tmp 11)) <|
 .op (some 5) .any [14] (.mov (.tmp 14)) <|
 .op (some 6) .any [15] (.mov (.tmp 15)) <|
 .op (some 7) .any [16] (.mov (.tmp 16)) <|
 .nil))
 (.seq (.seq (.ops (.op (some 17) .any [7] (.mov (.tmp 7)) <|
 .op (some 18) .any [17] (.bin .neq .none (.tmp 17) (.con (V.int .i64 (Int.ofNat 0)))) <|
 .nil))
 (.cond (.tmp 18) (.seq (.ops (.op (some 19) (.agg [.str, .any, .any, .any]) [] (.build [(V.str ⟨0, 0⟩), V.nils, V.nils, V.nils] []) <|
 .op (some 20) .any [6] (.mov (.tmp 6)) <|
 .op (some 21) .any [7] (.mov (.tmp 7)) <|
 .op none (.agg [.str, .any, .any, .any]) [2, 19] (.store 4 (.tmp 2) (.tmp 19)) <|
 .op (some 3) .any [20] (.mov (.tmp 20)) <|
 .op (some 4) .any [21] (.mov (.tmp 21)) <|
 .nil))
 .ret)
 .skip))
 (.seq (.ops (.op (some 22) (.agg [.str, (.int .i64), .any, .any, .any]) [1] (.load (some 5) (.tmp 1)) <|
 .op (some 23) (.agg [.str, (.int .i64), .any, .any, .any, .any, (.int .i64)]) [22] (.build [(V.str ⟨0, 0⟩), (V.int .i64 (Int.ofNat 0)), V.nils, V.nils, V.nils, V.nils, (V.int .i64 (Int.ofNat 0))] [(0, 5, (.tmp 22))]) <|
 .op (some 24) .any [23] (.box 82 (.tmp 23)) <|
 .op (some 8) .any [24] (.mov (.tmp 24)) <|
 .nil))
 (.seq (.keep [(1, .ptr), (2, .ptr), (8, .ptr)] [] [] (.gdraw G10_0 H10_0 [(1, .ptr), (2, .ptr), (8, .ptr), (9, .ptr)]))
 (.seq (.seq (.ops (.op (some 10) .any [] (.mov (.con (V.int .i64 (Int.ofNat 0)))) <|
 .nil))
 (.block 0 (.loop [(1, .ptr), (2, .ptr), (8, .ptr), (9, .ptr), (10, (.int .i64))] [] [] cc2)))
 (.keep [(2, .ptr), (8, .ptr), (9, .ptr)] [] [] cc1)))))))
def C10_1 : XC := (.seq (.ops (.op (some 61) .any [8] (.mov (.tmp 8)) <|
 .op (some 62) .any [61] (.nilck (.tmp 61)) <|
 .op (some 63) .any [62] (.faddr 5 (.tmp 62)) <|
 .op (some 64) .any [63] (.load none (.tmp 63)) <|
 .op (some 65) .any [9] (.faddr 3 (.tmp 9)) <|
 .op none .any [65, 64] (.store 1 (.tmp 65) (.tmp 64)) <|
 .nil))
 (.seq (.ops (.op (some 66) (.agg [.str, .any, .any, .any]) [9] (.load (some 4) (.tmp 9)) <|
 .op none (.agg [.str, .any, .any, .any]) [2, 66] (.store 4 (.tmp 2) (.tmp 66)) <|
 .op (some 3) .any [] (.mov (.con (V.int .i64 (Int.ofNat 0)))) <|
 .op (some 4) .any [] (.mov (.con (V.int .i64 (Int.ofNat 0)))) <|
 .nil))
 .ret))
def C10_2 : XC := (.seq (.seq (.ops (.op (some 31) .any [10] (.mov (.tmp 10)) <|
 .op (some 32) .any [1] (.faddr 2 (.tmp 1)) <|
 .op (some 33) .any [32] (.load none (.tmp 32)) <|
 .op (some 34) .any [33] (.len false (.tmp 33)) <|
 .op (some 35) .any [31, 34] (.bin .lss .none (.tmp 31) (.tmp 34)) <|
 .nil))
 (.cond (.tmp 35) .skip
 (.exit 0)))
 (.seq (.block 1 (.seq (.keep [(1, .ptr), (2, .ptr), (8, .ptr), (9, .ptr), (10, (.int .i64))] [] [] (.gdraw G10_1 H10_1 [(1, .ptr), (2, .ptr), (8, .ptr), (9, .ptr), (10, (.int .i64))]))
 (.seq (.ops (.op (some 50) .any [8] (.mov (.tmp 8)) <|
 .op (some 51) .any [50] (.nilck (.tmp 50)) <|
 .op (some 52) .any [51] (.faddr 6 (.tmp 51)) <|
 .op (some 53) (.int .i64) [52] (.load none (.tmp 52)) <|
 .op (some 54) .any [53] (.bin .neq .none (.tmp 53) (.con (V.int .i64 (Int.ofNat 0)))) <|
 .nil))
 (.cond (.tmp 54) (.seq (.keep [(2, .ptr), (8, .ptr), (10, (.int .i64))] [] [] (.gdraw G10_2 H10_2 [(2, .ptr), (3, (.int .i64)), (4, (.int .i64))]))
 .ret)
 .skip))))
 (.ops (.op (some 36) .any [10] (.mov (.tmp 10)) <|
 .op (some 37) .any [36] (.bin .add .none (.tmp 36) (.con (V.int .i64 (Int.ofNat 1)))) <|
 .op (some 10) .any [37] (.mov (.tmp 37)) <|
 .nil))))
def A10 : XFn := ⟨67, [(.agg [.str, (.int .i64), .any, .any, .any])], [(.cell 2 (some 4)), (.tmp 3), (.tmp 4)], (C10_0 C10_1 C10_2)⟩
def G11_0 : List AOper := [⟨(some 10), .mov (.tmp 0), none⟩, ⟨(some 11), .bin .quo .none (.tmp 10) (.con (V.int .u64 (Int.ofNat 10))), none⟩, ⟨(some 12), .call 11 [(.tmp 11)], none⟩, ⟨(some 13), .mov (.tmp 0), none⟩, ⟨(some 14), .bin .rem .none (.tmp 13) (.con (V.int .u64 (Int.ofNat 10))), none⟩, ⟨(some 15), .bin .add .none (.con (V.int .u64 (Int.ofNat 48))) (.tmp 14), none⟩, ⟨(some 16), .conv (.toInt .u8) (.tmp 15), none⟩, ⟨(some 17), .buildSlice 5 1 [(V.int .u8 (Int.ofNat 0))] [(0, 1, (.tmp 16))], none⟩, ⟨(some 18), .conv .toStr (.tmp 17), none⟩, ⟨(some 19), .bin .add .none (.tmp 12) (.tmp 18), none⟩, ⟨(some 2), .mov (.tmp 19), none⟩]
def H11_0 : List DP := [⟨0, [0]⟩, ⟨1, [10]⟩, ⟨3, [11]⟩, ⟨0, [0]⟩, ⟨8, [13]⟩, ⟨24, [14]⟩, ⟨56, [15]⟩, ⟨120, [16]⟩, ⟨248, [17]⟩, ⟨511, [12, 18]⟩, ⟨1023, [19]⟩]
def C11_0 : XC := (.seq (.ops (.op (some 2) .any [] (.mov (.con (V.str ⟨0, 0⟩))) <|
 .nil))
 (.seq (.seq (.ops (.op (some 3) .any [0] (.mov (.tmp 0)) <|
 .op (some 4) .any [3] (.bin .lss .none (.tmp 3) (.con (V.int .u64 (Int.ofNat 10)))) <|
 .nil))
 (.cond (.tmp 4) (.seq (.ops (.op (some 5) .any [0] (.mov (.tmp 0)) <|
 .op (some 6) .any [5] (.bin .add .none (.con (V.int .u64 (Int.ofNat 48))) (.tmp 5)) <|
 .op (some 7) .any [6] (.conv (.toInt .u8) (.tmp 6)) <|
 .op (some 8) .any [7] (.buildSlice 5 1 [(V.int .u8 (Int.ofNat 0))] [(0, 1, (.tmp 7))]) <|
 .op (some 9) .any [8] (.conv .toStr (.tmp 8)) <|
 .op (some 2) .any [9] (.mov (.tmp 9)) <|
 .nil))
 .ret)
 .skip))
 (.seq (.keep [(0, (.int .u64))] [] [] (.gdraw G11_0 H11_0 [(2, .str)]))
 .ret)))
def A11 : XFn := ⟨20, [(.int .u64)], [(.tmp 2)], C11_0⟩
/-! ### F12: ogham_cross.rules -/
def Fin12 (E : List (Nat × Blk)) : St → Ans := fun s => resK E s [(.cell 2 (some 2)), (.tmp 3)] fun l => some (oneV l, s.σ)
def C12_0 : XC := (.seq (.ops (.pal 2 [] 58 [V.nilf, V.nilf] <|
 .op (some 3) .any [] (.mov (.con (V.bool false))) <|
 .nil))
 (.seq (.seq (.ops (.op (some 4) .any [0] (.mov (.tmp 0)) <|
 .nil))
 (.block 0 (.seq (.ops (.op (some 6) .any [4] (.bin .eql .none (.tmp 4) (.con (V.int .i64 (Int.ofNat 1)))) <|
 .op (some 5) .any [6] (.mov (.tmp 6)) <|
 .nil))
 (.cond (.tmp 5) (.seq (.ops (.op (some 7) (.agg [.any]) [] (.build [V.nilf] [(0, 1, (.con (V.fn 25 [] [])))]) <|
 .op (some 8) (.agg [.any]) [] (.build [V.nilf] [(0, 1, (.con (V.fn 26 [] [])))]) <|
 .op (some 9) (.agg [.any, .any]) [7, 8] (.build [V.nilf, V.nilf] [(0, 1, (.tmp 7)), (1, 1, (.tmp 8))]) <|
 .op none (.agg [.any, .any]) [2, 9] (.store 2 (.tmp 2) (.tmp 9)) <|
 .op (some 3) .any [] (.mov (.con (V.bool true))) <|
 .nil))
 .ret)
 (.seq (.ops (.op (some 11) .any [4] (.bin .eql .none (.tmp 4) (.con (V.int .i64 (Int.ofNat 2)))) <|
 .op (some 10) .any [11] (.mov (.tmp 11)) <|
 .nil))
 (.cond (.tmp 10) (.seq (.ops (.op (some 12) (.agg [.any]) [] (.build [V.nilf] [(0, 1, (.con (V.fn 27 [] [])))]) <|
 .op (some 13) (.agg [.any]) [] (.build [V.nilf] [(0, 1, (.con (V.fn 28 [] [])))]) <|
 .op (some 14) (.agg [.any, .any]) [12, 13] (.build [V.nilf, V.nilf] [(0, 1, (.tmp 12)), (1, 1, (.tmp 13))]) <|
 .op none (.agg [.any, .any]) [2, 14] (.store 2 (.tmp 2) (.tmp 14)) <|
 .op (some 3) .any [] (.mov (.con (V.bool true))) <|
 .nil))
 .ret)
 .skip))))))
 (.seq (.ops (.op (some 15) (.agg [.any, .any]) [] (.build [V.nilf, V.nilf] []) <|
 .op none (.agg [.any, .any]) [2, 15] (.store 2 (.tmp 2) (.tmp 15)) <|
 .op (some 3) .any [] (.mov (.con (V.bool false))) <|
 .nil))
 .ret)))
def T12_0 (E : List (Nat × Blk)) (D : Den) (W : DrawFn) (v0 : Int) (σ : H) : Ans :=
 condK (eqF v0 (Int.ofNat 1)) (
 some ((V.tup [(V.agg [(V.fn 25 [] []), (V.fn 26 [] [])]), (V.bool true)]), σ)) (
 condK (eqF v0 (Int.ofNat 2)) (
 some ((V.tup [(V.agg [(V.fn 27 [] []), (V.fn 28 [] [])]), (V.bool true)]), σ)) (
 some ((V.tup [(V.agg [V.nilf, V.nilf]), (V.bool false)]), σ)))
theorem P12_0 (E : List (Nat × Blk)) (D : Den) (W : DrawFn) (N : Nat) (v0 : Int) (σ : H) :
  denC E D W N (C12_0 ) ⟨[(0, (V.int .i64 v0))], [], [], σ⟩ (Fin12 E) (fun _ _ => none) (Fin12 E) =
  T12_0 E D W  v0 σ := by kernel_rfl
def J12_0 (E : List (Nat × Blk)) (D : Den) (W : DrawFn) (N : Nat) : Int → H → Ans := T12_0 E D W 
theorem JE12_0 (E : List (Nat × Blk)) (D : Den) (W : DrawFn) (N : Nat) (v0 : Int) (σ : H) :
  denC E D W N C12_0 ⟨[(0, (V.int .i64 v0))], [], [], σ⟩ (Fin12 E) (fun _ _ => none) (Fin12 E) = J12_0 E D W N v0 σ := by
  refine (P12_0 E D W N   v0 σ).trans ?_
  kernel_rfl
def F12 (E : List (Nat × Blk)) (D : Den) (W : DrawFn) (N : Nat) (args : List V) (σ : H) : Ans :=
 rtCons args fun x1 l2 =>
 rtInt .i64 x1 fun x3 =>
 rtNil l2 (
 J12_0 E D W N x3 σ)
def A12 : XFn := ⟨16, [(.int .i64)], [(.cell 2 (some 2)), (.tmp 3)], C12_0⟩
theorem FE12 (E : List (Nat × Blk)) (D : Den) (W : DrawFn) (N : Nat) (args : List V) (σ : H) : runX E D W N A12 args σ = F12 E D W N args σ := by
  unfold F12
  simp only [← JE12_0]
  kernel_rfl
theorem AO12 : A12.body.ok = true := by kernel_rfl

/-! ### F13: ogham_project.Value -/
def G13_0 : List AOper := [⟨(some 14), .load (some 4) (.tmp 5), none⟩, ⟨(some 15), .mov (.tmp 1), none⟩, ⟨(some 16), .load (some 6) (.tmp 9), none⟩, ⟨(some 17), .call 29 [(.tmp 14), (.tmp 15), (.tmp 16)], none⟩, ⟨(some 18), .un .not (.tmp 17), none⟩, ⟨(some 19), .mov (.tmp 18), none⟩, ⟨(some 20), .load (some 6) (.tmp 9), (some (19, false))⟩, ⟨(some 21), .call 14 [(.tmp 20)], (some (19, false))⟩, ⟨(some 22), .load (some 6) (.tmp 9), (some (19, false))⟩, ⟨(some 23), .call 30 [(.tmp 21), (.tmp 22)], (some (19, false))⟩, ⟨(some 24), .un .not (.tmp 23), (some (19, false))⟩, ⟨(some 25), .pick (.tmp 19) (.con (V.bool true)) (.tmp 24), none⟩]
def H13_0 : List DP := [⟨0, [5]⟩, ⟨0, [1]⟩, ⟨0, [9]⟩, ⟨7, [14, 15, 16]⟩, ⟨15, [17]⟩, ⟨31, [18]⟩, ⟨63, [9, 19]⟩, ⟨127, [20, 19]⟩, ⟨63, [9, 19]⟩, ⟨511, [21, 22, 19]⟩, ⟨1023, [23, 19]⟩, ⟨2047, [19, 24]⟩]
def G13_1 : List AOper := [⟨(some 42), .build [(V.int .i64 (Int.ofNat 0)), (V.int .i64 (Int.ofNat 0)), V.nils, V.nils, (V.int .i64 (Int.ofNat 0)), V.nils] [], none⟩, ⟨(some 43), .mov (.tmp 12), none⟩, ⟨(some 44), .nilck (.tmp 43), none⟩, ⟨(some 45), .faddr 8 (.tmp 44), none⟩, ⟨(some 46), .load none (.tmp 45), none⟩, ⟨none, .store 6 (.tmp 10) (.tmp 42), none⟩, ⟨(some 11), .mov (.tmp 46), none⟩]
def H13_1 : List DP := [⟨0, []⟩, ⟨0, [12]⟩, ⟨2, [43]⟩, ⟨6, [44]⟩, ⟨14, [45]⟩, ⟨1, [10, 42]⟩, ⟨63, [46]⟩]
def Fin13 (E : List (Nat × Blk)) : St → Ans := fun s => resK E s [(.cell 10 (some 6)), (.tmp 11)] fun l => some (oneV l, s.σ)
def C13_0 : XC := (.seq (.ops (.op (some 5) .any [0] (.box 27 (.tmp 0)) <|
 .op (some 7) .any [2] (.box 27 (.tmp 2)) <|
 .op (some 9) .any [4] (.box 35 (.tmp 4)) <|
 .op (some 10) .any [] (.alloc 35 [(V.int .i64 (Int.ofNat 0)), (V.int .i64 (Int.ofNat 0)), V.nils, V.nils, (V.int .i64 (Int.ofNat 0)), V.nils]) <|
 .op (some 11) .any [] (.mov (.con (V.int .i64 (Int.ofNat 0)))) <|
 .nil))
 (.seq (.seq (.keep [(1, (.int .i64)), (3, (.int .i64)), (5, .ptr), (7, .ptr), (9, .ptr), (10, .ptr)] [] [] (.gdraw G13_0 H13_0 [(1, (.int .i64)), (3, (.int .i64)), (5, .ptr), (7, .ptr), (9, .ptr), (10, .ptr), (25, .bool)]))
 (.cond (.tmp 25) (.seq (.ops (.op (some 26) (.agg [(.int .i64), (.int .i64), .any, .any, (.int .i64), .any]) [] (.build [(V.int .i64 (Int.ofNat 0)), (V.int .i64 (Int.ofNat 0)), V.nils, V.nils, (V.int .i64 (Int.ofNat 0)), V.nils] []) <|
 .op none (.agg [(.int .i64), (.int .i64), .any, .any, (.int .i64), .any]) [10, 26] (.store 6 (.tmp 10) (.tmp 26)) <|
 .op (some 11) .any [] (.mov (.con (V.int .i64 (Int.ofNat 13)))) <|
 .nil))
 .ret)
 .skip))
 (.seq (.ops (.op (some 27) (.agg [.str, .any, .any, .any]) [5] (.load (some 4) (.tmp 5)) <|
 .op (some 28) (.agg [.str, .any, .any, .any]) [7] (.load (some 4) (.tmp 7)) <|
 .op (some 29) (.agg [.str, .any, .any, .any, .str, .any, .any, .any]) [27, 28] (.build [(V.str ⟨0, 0⟩), V.nils, V.nils, V.nils, (V.str ⟨0, 0⟩), V.nils, V.nils, V.nils] [(0, 4, (.tmp 27)), (4, 4, (.tmp 28))]) <|
 .op (some 30) (.agg [.str, .any, .any, .any, .str, .any, .any, .any, (.int .i64)]) [29] (.build [(V.str ⟨0, 0⟩), V.nils, V.nils, V.nils, (V.str ⟨0, 0⟩), V.nils, V.nils, V.nils, (V.int .i64 (Int.ofNat 0))] [(0, 8, (.tmp 29))]) <|
 .op (some 31) .any [30] (.box 90 (.tmp 30)) <|
 .op (some 12) .any [31] (.mov (.tmp 31)) <|
 .nil))
 (.seq (.ops (.op (some 32) .any [12] (.mov (.tmp 12)) <|
 .op (some 33) .any [1] (.mov (.tmp 1)) <|
 .op (some 34) .any [3] (.mov (.tmp 3)) <|
 .op (some 35) (.agg [(.int .i64), (.int .i64), .any, .any, (.int .i64), .any]) [9] (.load (some 6) (.tmp 9)) <|
 .op (some 36) (.agg [(.int .i64), (.int .i64), .any, .any, (.int .i64), .any]) [32, 33, 34, 35] (.call 31 [(.tmp 32), (.tmp 33), (.tmp 34), (.tmp 35)]) <|
 .pal 13 [] 35 [(V.int .i64 (Int.ofNat 0)), (V.int .i64 (Int.ofNat 0)), V.nils, V.nils, (V.int .i64 (Int.ofNat 0)), V.nils] <|
 .op none (.agg [(.int .i64), (.int .i64), .any, .any, (.int .i64), .any]) [13, 36] (.store 6 (.tmp 13) (.tmp 36)) <|
 .nil))
 (.seq (.seq (.ops (.op (some 37) .any [12] (.mov (.tmp 12)) <|
 .op (some 38) .any [37] (.nilck (.tmp 37)) <|
 .op (some 39) .any [38] (.faddr 8 (.tmp 38)) <|
 .op (some 40) (.int .i64) [39] (.load none (.tmp 39)) <|
 .op (some 41) .any [40] (.bin .neq .none (.tmp 40) (.con (V.int .i64 (Int.ofNat 0)))) <|
 .nil))
 (.cond (.tmp 41) (.seq (.keep [(10, .ptr), (12, .ptr)] [] [] (.gdraw G13_1 H13_1 [(10, .ptr), (11, (.int .i64))]))
 .ret)
 .skip))
 (.seq (.ops (.op (some 47) (.agg [(.int .i64), (.int .i64), .any, .any, (.int .i64), .any]) [13] (.load (some 6) (.tmp 13)) <|
 .op none (.agg [(.int .i64), (.int .i64), .any, .any, (.int .i64), .any]) [10, 47] (.store 6 (.tmp 10) (.tmp 47)) <|
 .op (some 11) .any [] (.mov (.con (V.int .i64 (Int.ofNat 0)))) <|
 .nil))
 .ret))))))
def T13_0 (E : List (Nat × Blk)) (D : Den) (W : DrawFn) (v0_0 : BS) (v0_1 : V) (v0_2 : V) (v0_3 : V) (v1 : Int) (v2_0 : BS) (v2_1 : V) (v2_2 : V) (v2_3 : V) (v3 : Int) (v4_0 : Int) (v4_1 : Int) (v4_2 : V) (v4_3 : V) (v4_4 : Int) (v4_5 : V) (σ : H) : Ans :=
 chk (allOne (V.cells (V.agg [(V.str v0_0), v0_1, v0_2, v0_3]))) (
 let s1 := newB σ (.cells (V.cells (V.agg [(V.str v0_0), v0_1, v0_2, v0_3])));
 chk (allOne (V.cells (V.agg [(V.str v2_0), v2_1, v2_2, v2_3]))) (
 let s2 := newB s1 (.cells (V.cells (V.agg [(V.str v2_0), v2_1, v2_2, v2_3])));
 chk (allOne (V.cells (V.agg [(V.int .i64 v4_0), (V.int .i64 v4_1), v4_2, v4_3, (V.int .i64 v4_4), v4_5]))) (
 let s3 := newB s2 (.cells (V.cells (V.agg [(V.int .i64 v4_0), (V.int .i64 v4_1), v4_2, v4_3, (V.int .i64 v4_4), v4_5])));
 let s4 := newB s3 (.cells [(V.int .i64 (Int.ofNat 0)), (V.int .i64 (Int.ofNat 0)), V.nils, V.nils, (V.int .i64 (Int.ofNat 0)), V.nils]);
 gdrawK (W G13_0 H13_0 [(1, (V.int .i64 v1)), (3, (V.int .i64 v3)), (5, (V.ptr (H.next σ) 0)), (7, (V.ptr (H.next s1) 0)), (9, (V.ptr (H.next s2) 0)), (10, (V.ptr (H.next s3) 0))] s4) fun e5 s6 =>
 getL e5 1 fun u7 =>
 rtInt .i64 u7 fun x8 =>
 getL e5 3 fun u9 =>
 rtInt .i64 u9 fun x10 =>
 getL e5 5 fun u11 =>
 rtPtr u11 fun b12 o13 =>
 getL e5 7 fun u14 =>
 rtPtr u14 fun b15 o16 =>
 getL e5 9 fun u17 =>
 rtPtr u17 fun b18 o19 =>
 getL e5 10 fun u20 =>
 rtPtr u20 fun b21 o22 =>
 getL e5 25 fun u23 =>
 rtBool u23 fun x24 =>
 condK x24 (
 stK 6 b21 o22 (V.agg [(V.int .i64 (Int.ofNat 0)), (V.int .i64 (Int.ofNat 0)), V.nils, V.nils, (V.int .i64 (Int.ofNat 0)), V.nils]) s6 fun s25 =>
 ldnK E s25 b21 o22 6 fun u26 =>
 some ((V.tup [(V.agg u26), (V.int .i64 (Int.ofNat 13))]), s25)) (
 ldnK E s6 b12 o13 4 fun l27 =>
 rtCons l27 fun x28 l29 =>
 rtStr x28 fun x30 =>
 rtCons l29 fun x31 l32 =>
 rtCons l32 fun x33 l34 =>
 rtCons l34 fun x35 l36 =>
 rtNil l36 (
 ldnK E s6 b15 o16 4 fun l37 =>
 rtCons l37 fun x38 l39 =>
 rtStr x38 fun x40 =>
 rtCons l39 fun x41 l42 =>
 rtCons l42 fun x43 l44 =>
 rtCons l44 fun x45 l46 =>
 rtNil l46 (
 chk (allOne (V.cells (V.agg [(V.str x30), x31, x33, x35, (V.str x40), x41, x43, x45, (V.int .i64 (Int.ofNat 0))]))) (
 let s47 := newB s6 (.cells (V.cells (V.agg [(V.str x30), x31, x33, x35, (V.str x40), x41, x43, x45, (V.int .i64 (Int.ofNat 0))])));
 ldnK E s47 b18 o19 6 fun l48 =>
 rtCons l48 fun x49 l50 =>
 rtInt .i64 x49 fun x51 =>
 rtCons l50 fun x52 l53 =>
 rtInt .i64 x52 fun x54 =>
 rtCons l53 fun x55 l56 =>
 rtCons l56 fun x57 l58 =>
 rtCons l58 fun x59 l60 =>
 rtInt .i64 x59 fun x61 =>
 rtCons l60 fun x62 l63 =>
 rtNil l63 (
 callK (D 31 [(V.ptr (H.next s6) 0), (V.int .i64 x8), (V.int .i64 x10), (V.agg [(V.int .i64 x51), (V.int .i64 x54), x55, x57, (V.int .i64 x61), x62])] s47) fun u64 s65 =>
 rtAgg u64 fun l66 =>
 rtCons l66 fun x67 l68 =>
 rtInt .i64 x67 fun x69 =>
 rtCons l68 fun x70 l71 =>
 rtInt .i64 x70 fun x72 =>
 rtCons l71 fun x73 l74 =>
 rtCons l74 fun x75 l76 =>
 rtCons l76 fun x77 l78 =>
 rtInt .i64 x77 fun x79 =>
 rtCons l78 fun x80 l81 =>
 rtNil l81 (
 chk (allOne [(V.int .i64 x69), (V.int .i64 x72), x73, x75, (V.int .i64 x79), x80]) (
 ldK E s65 (H.next s6) 8 fun u82 =>
 rtInt .i64 u82 fun x83 =>
 condK (not (eqF x83 (Int.ofNat 0))) (
 gdrawK (W G13_1 H13_1 [(10, (V.ptr b21 o22)), (12, (V.ptr (H.next s6) 0))] s65) fun e84 s85 =>
 getL e84 10 fun u86 =>
 rtPtr u86 fun b87 o88 =>
 getL e84 11 fun u89 =>
 rtInt .i64 u89 fun x90 =>
 ldnK E s85 b87 o88 6 fun u91 =>
 some ((V.tup [(V.agg u91), (V.int .i64 x90)]), s85)) (
 stK 6 b21 o22 (V.agg [(V.int .i64 x69), (V.int .i64 x72), x73, x75, (V.int .i64 x79), x80]) s65 fun s92 =>
 ldnK E s92 b21 o22 6 fun u93 =>
 some ((V.tup [(V.agg u93), (V.int .i64 (Int.ofNat 0))]), s92))))))))))))
theorem P13_0 (E : List (Nat × Blk)) (D : Den) (W : DrawFn) (N : Nat) (v0_0 : BS) (v0_1 : V) (v0_2 : V) (v0_3 : V) (v1 : Int) (v2_0 : BS) (v2_1 : V) (v2_2 : V) (v2_3 : V) (v3 : Int) (v4_0 : Int) (v4_1 : Int) (v4_2 : V) (v4_3 : V) (v4_4 : Int) (v4_5 : V) (σ : H) :
  denC E D W N (C13_0 ) ⟨[(0, (V.agg [(V.str v0_0), v0_1, v0_2, v0_3])), (1, (V.int .i64 v1)), (2, (V.agg [(V.str v2_0), v2_1, v2_2, v2_3])), (3, (V.int .i64 v3)), (4, (V.agg [(V.int .i64 v4_0), (V.int .i64 v4_1), v4_2, v4_3, (V.int .i64 v4_4), v4_5]))], [], [], σ⟩ (Fin13 E) (fun _ _ => none) (Fin13 E) =
  T13_0 E D W  v0_0 v0_1 v0_2 v0_3 v1 v2_0 v2_1 v2_2 v2_3 v3 v4_0 v4_1 v4_2 v4_3 v4_4 v4_5 σ := by kernel_rfl
def J13_0 (E : List (Nat × Blk)) (D : Den) (W : DrawFn) (N : Nat) : BS → V → V → V → Int → BS → V → V → V → Int → Int → Int → V → V → Int → V → H → Ans := T13_0 E D W 
theorem JE13_0 (E : List (Nat × Blk)) (D : Den) (W : DrawFn) (N : Nat) (v0_0 : BS) (v0_1 : V) (v0_2 : V) (v0_3 : V) (v1 : Int) (v2_0 : BS) (v2_1 : V) (v2_2 : V) (v2_3 : V) (v3 : Int) (v4_0 : Int) (v4_1 : Int) (v4_2 : V) (v4_3 : V) (v4_4 : Int) (v4_5 : V) (σ : H) :
  denC E D W N C13_0 ⟨[(0, (V.agg [(V.str v0_0), v0_1, v0_2, v0_3])), (1, (V.int .i64 v1)), (2, (V.agg [(V.str v2_0), v2_1, v2_2, v2_3])), (3, (V.int .i64 v3)), (4, (V.agg [(V.int .i64 v4_0), (V.int .i64 v4_1), v4_2, v4_3, (V.int .i64 v4_4), v4_5]))], [], [], σ⟩ (Fin13 E) (fun _ _ => none) (Fin13 E) = J13_0 E D W N v0_0 v0_1 v0_2 v0_3 v1 v2_0 v2_1 v2_2 v2_3 v3 v4_0 v4_1 v4_2 v4_3 v4_4 v4_5 σ := by
  refine (P13_0 E D W N   v0_0 v0_1 v0_2 v0_3 v1 v2_0 v2_1 v2_2 v2_3 v3 v4_0 v4_1 v4_2 v4_3 v4_4 v4_5 σ).trans ?_
  kernel_rfl
def F13 (E : List (Nat × Blk)) (D : Den) (W : DrawFn) (N : Nat) (args : List V) (σ : H) : Ans :=
 rtCons args fun x1 l2 =>
 rtAgg x1 fun l3 =>
 rtCons l3 fun x4 l5 =>
 rtStr x4 fun x6 =>
 rtCons l5 fun x7 l8 =>
 rtCons l8 fun x9 l10 =>
 rtCons l10 fun x11 l12 =>
 rtNil l12 (
 rtCons l2 fun x13 l14 =>
 rtInt .i64 x13 fun x15 =>
 rtCons l14 fun x16 l17 =>
 rtAgg x16 fun l18 =>
 rtCons l18 fun x19 l20 =>
 rtStr x19 fun x21 =>
 rtCons l20 fun x22 l23 =>
 rtCons l23 fun x24 l25 =>
 rtCons l25 fun x26 l27 =>
 rtNil l27 (
 rtCons l17 fun x28 l29 =>
 rtInt .i64 x28 fun x30 =>
 rtCons l29 fun x31 l32 =>
 rtAgg x31 fun l33 =>
 rtCons l33 fun x34 l35 =>
 rtInt .i64 x34 fun x36 =>
 rtCons l35 fun x37 l38 =>
 rtInt .i64 x37 fun x39 =>
 rtCons l38 fun x40 l41 =>
 rtCons l41 fun x42 l43 =>
 rtCons l43 fun x44 l45 =>
 rtInt .i64 x44 fun x46 =>
 rtCons l45 fun x47 l48 =>
 rtNil l48 (
 rtNil l32 (
 J13_0 E D W N x6 x7 x9 x11 x15 x21 x22 x24 x26 x30 x36 x39 x40 x42 x46 x47 σ))))
def A13 : XFn := ⟨48, [(.agg [.str, .any, .any, .any]), (.int .i64), (.agg [.str, .any, .any, .any]), (.int .i64), (.agg [(.int .i64), (.int .i64), .any, .any, (.int .i64), .any])], [(.cell 10 (some 6)), (.tmp 11)], C13_0⟩
theorem FE13 (E : List (Nat × Blk)) (D : Den) (W : DrawFn) (N : Nat) (args : List V) (σ : H) : runX E D W N A13 args σ = F13 E D W N args σ := by
  unfold F13
  simp only [← JE13_0]
  kernel_rfl
theorem AO13 : A13.body.ok = true := by kernel_rfl

def G14_0 : List AOper := [⟨(some 10), .faddr 0 (.tmp 1), none⟩, ⟨(some 11), .load none (.tmp 10), none⟩, ⟨(some 12), .faddr 1 (.tmp 1), none⟩, ⟨(some 13), .load none (.tmp 12), none⟩, ⟨(some 14), .faddr 2 (.tmp 1), none⟩, ⟨(some 15), .load none (.tmp 14), none⟩, ⟨(some 16), .call 32 [(.tmp 15)], none⟩, ⟨(some 17), .build [(V.int .i64 (Int.ofNat 0)), (V.int .i64 (Int.ofNat 0)), V.nils, V.nils, (V.int .i64 (Int.ofNat 0)), V.nils] [(0, 1, (.tmp 11)), (1, 1, (.tmp 13)), (2, 1, (.tmp 16))], none⟩, ⟨(some 3), .alloc 35 [(V.int .i64 (Int.ofNat 0)), (V.int .i64 (Int.ofNat 0)), V.nils, V.nils, (V.int .i64 (Int.ofNat 0)), V.nils], none⟩, ⟨none, .store 6 (.tmp 3) (.tmp 17), none⟩]
def H14_0 : List DP := [⟨0, [1]⟩, ⟨1, [10]⟩, ⟨0, [1]⟩, ⟨4, [12]⟩, ⟨0, [1]⟩, ⟨16, [14]⟩, ⟨48, [15]⟩, ⟨127, [11, 13, 16]⟩, ⟨0, []⟩, ⟨511, [3, 17]⟩]
def G14_1 : List AOper := [⟨(some 25), .faddr 3 (.tmp 3), none⟩, ⟨(some 26), .load none (.tmp 25), none⟩, ⟨(some 27), .load (some 6) (.tmp 5), none⟩, ⟨(some 28), .call 14 [(.tmp 27)], none⟩, ⟨(some 29), .buildSlice 35 1 [(V.int .i64 (Int.ofNat 0)), (V.int .i64 (Int.ofNat 0)), V.nils, V.nils, (V.int .i64 (Int.ofNat 0)), V.nils] [(0, 6, (.tmp 28))], none⟩, ⟨(some 30), .append 35 6 96 (.tmp 26) (.tmp 29), none⟩, ⟨(some 31), .faddr 3 (.tmp 3), none⟩, ⟨none, .store 1 (.tmp 31) (.tmp 30), none⟩]
def H14_1 : List DP := [⟨0, [3]⟩, ⟨1, [25]⟩, ⟨0, [5]⟩, ⟨4, [27]⟩, ⟨12, [28]⟩, ⟨31, [26, 29]⟩, ⟨63, [3]⟩, ⟨127, [31, 30]⟩]
def C14_0 (cc1 : XC) (cc2 : XC) : XC := (.seq (.ops (.op (some 1) .any [0] (.box 35 (.tmp 0)) <|
 .op (some 2) .any [] (.alloc 35 [(V.int .i64 (Int.ofNat 0)), (V.int .i64 (Int.ofNat 0)), V.nils, V.nils, (V.int .i64 (Int.ofNat 0)), V.nils]) <|
 .nil))
 (.seq (.seq (.ops (.op (some 6) .any [1] (.faddr 0 (.tmp 1)) <|
 .op (some 7) (.int .i64) [6] (.load none (.tmp 6)) <|
 .op (some 8) .any [7] (.bin .eql .none (.tmp 7) (.con (V.int .i64 (Int.ofNat 12)))) <|
 .nil))
 (.cond (.tmp 8) (.seq (.ops (.op (some 9) (.agg [(.int .i64), (.int .i64), .any, .any, (.int .i64), .any]) [] (.build [(V.int .i64 (Int.ofNat 0)), (V.int .i64 (Int.ofNat 0)), V.nils, V.nils, (V.int .i64 (Int.ofNat 0)), V.nils] [(0, 1, (.con (V.int .i64 (Int.ofNat 12))))]) <|
 .op none (.agg [(.int .i64), (.int .i64), .any, .any, (.int .i64), .any]) [2, 9] (.store 6 (.tmp 2) (.tmp 9)) <|
 .nil))
 .ret)
 .skip))
 (.seq (.keep [(1, .ptr), (2, .ptr)] [] [] (.gdraw G14_0 H14_0 [(1, .ptr), (2, .ptr), (3, .ptr)]))
 (.seq (.seq (.ops (.op (some 18) .any [1] (.faddr 3 (.tmp 1)) <|
 .op (some 19) .any [18] (.load none (.tmp 18)) <|
 .op (some 20) .any [19] (.len false (.tmp 19)) <|
 .op (some 21) .any [] (.mov (.con (V.int .i64 (Int.ofNat 0)))) <|
 .nil))
 (.block 0 (.loop [(2, .ptr), (3, .ptr), (19, .any), (20, (.int .i64)), (21, (.int .i64))] [] [] cc2)))
 (.keep [(2, .ptr), (3, .ptr)] [] [] cc1)))))
def C14_1 : XC := (.seq (.ops (.op (some 33) (.agg [(.int .i64), (.int .i64), .any, .any, (.int .i64), .any]) [3] (.load (some 6) (.tmp 3)) <|
 .op none (.agg [(.int .i64), (.int .i64), .any, .any, (.int .i64), .any]) [2, 33] (.store 6 (.tmp 2) (.tmp 33)) <|
 .nil))
 .ret)
def C14_2 : XC := (.seq (.ops (.op (some 22) .any [21, 20] (.bin .lss .none (.tmp 21) (.tmp 20)) <|
 .nil))
 (.seq (.cond (.tmp 22) .skip
 (.exit 0))
 (.seq (.block 1 (.seq (.ops (.op (some 23) .any [19, 21] (.iaddrS 6 (.tmp 19) (.tmp 21)) <|
 .op (some 24) (.agg [(.int .i64), (.int .i64), .any, .any, (.int .i64), .any]) [23] (.load (some 6) (.tmp 23)) <|
 .op (some 5) .any [] (.alloc 35 [(V.int .i64 (Int.ofNat 0)), (V.int .i64 (Int.ofNat 0)), V.nils, V.nils, (V.int .i64 (Int.ofNat 0)), V.nils]) <|
 .op none (.agg [(.int .i64), (.int .i64), .any, .any, (.int .i64), .any]) [5, 24] (.store 6 (.tmp 5) (.tmp 24)) <|
 .nil))
 (.keep [(2, .ptr), (3, .ptr), (5, .ptr), (19, .any), (20, (.int .i64)), (21, (.int .i64))] [] [] (.gdraw G14_1 H14_1 [(2, .ptr), (3, .ptr), (19, .any), (20, (.int .i64)), (21, (.int .i64))]))))
 (.ops (.op (some 32) .any [21] (.bin .add .none (.tmp 21) (.con (V.int .i64 (Int.ofNat 1)))) <|
 .op (some 21) .any [32] (.mov (.tmp 32)) <|
 .nil)))))
def A14 : XFn := ⟨34, [(.agg [(.int .i64), (.int .i64), .any, .any, (.int .i64), .any])], [(.cell 2 (some 6))], (C14_0 C14_1 C14_2)⟩
def C15_0 : XC := (.seq (.ops (.op (some 1) .any [0] (.box 35 (.tmp 0)) <|
 .op (some 2) .any [] (.mov (.con (V.bool false))) <|
 .nil))
 (.seq (.ops (.op (some 3) .any [1] (.faddr 0 (.tmp 1)) <|
 .op (some 4) (.int .i64) [3] (.load none (.tmp 3)) <|
 .op (some 5) .any [4] (.bin .neq .none (.tmp 4) (.con (V.int .i64 (Int.ofNat 12)))) <|
 .op (some 6) .any [5] (.mov (.tmp 5)) <|
 .grp 6 true (.op (some 7) .any [1, 6] (.faddr 5 (.tmp 1)) <|
 .op (some 8) .any [7, 6] (.load none (.tmp 7)) <|
 .op (some 9) .any [8, 6] (.len false (.tmp 8)) <|
 .op (some 10) .any [9, 6] (.bin .eql .none (.tmp 9) (.con (V.int .i64 (Int.ofNat 0)))) <|
 .nil) 11 [6, 10] (.tmp 6) (.tmp 10) (.con (V.bool false)) <|
 .op (some 12) .any [11] (.mov (.tmp 11)) <|
 .grp 12 true (.op (some 13) .any [1, 12] (.faddr 3 (.tmp 1)) <|
 .op (some 14) .any [13, 12] (.load none (.tmp 13)) <|
 .op (some 15) .bool [14, 12] (.call 33 [(.tmp 14), (.con (V.fn 34 [] []))]) <|
 .op (some 16) .any [15, 12] (.un .not (.tmp 15)) <|
 .nil) 17 [12, 16] (.tmp 12) (.tmp 16) (.con (V.bool false)) <|
 .op (some 2) .any [17] (.mov (.tmp 17)) <|
 .nil))
 .ret))
def A15 : XFn := ⟨18, [(.agg [(.int .i64), (.int .i64), .any, .any, (.int .i64), .any])], [(.tmp 2)], C15_0⟩
/-! ### F16: ogham_oghamref04.Tokens -/
def Fin16 (E : List (Nat × Blk)) : St → Ans := fun s => resK E s [(.tmp 2), (.tmp 3), (.tmp 4)] fun l => some (oneV l, s.σ)
def C16_0 (cc1 : XC) : XC := (.seq (.ops (.op (some 2) .any [] (.mov (.con V.nils)) <|
 .op (some 3) .any [] (.mov (.con (V.int .i64 (Int.ofNat 0)))) <|
 .op (some 4) .any [] (.mov (.con (V.int .i64 (Int.ofNat 0)))) <|
 .nil))
 (.seq (.seq (.ops (.op (some 9) .any [0] (.mov (.tmp 0)) <|
 .op (some 10) .any [9] (.len true (.tmp 9)) <|
 .op (some 11) .any [10] (.bin .gtr .none (.tmp 10) (.con (V.int .i64 (Int.ofNat 8000)))) <|
 .nil))
 (.cond (.tmp 11) (.seq (.ops (.op (some 2) .any [] (.mov (.con V.nils)) <|
 .op (some 3) .any [] (.mov (.con (V.int .i64 (Int.ofNat 0)))) <|
 .op (some 4) .any [] (.mov (.con (V.int .i64 (Int.ofNat 5)))) <|
 .nil))
 .ret)
 .skip))
 (.seq (.ops (.op (some 5) .any [] (.mov (.con V.nils)) <|
 .nil))
 (.seq (.ops (.op (some 6) .any [] (.mov (.con (V.int .i64 (Int.ofNat 0)))) <|
 .nil))
 (.block 0 (.loop [(0, .str), (5, .any), (6, (.int .i64))] [] [] cc1))))))
def T16_0 (E : List (Nat × Blk)) (D : Den) (W : DrawFn) (K1 : BS → V → Int → H → Ans) (v0 : BS) (σ : H) : Ans :=
 condK (ltF (Int.ofNat 8000) (Int.ofNat (BS.len v0))) (
 some ((V.tup [V.nils, (V.int .i64 (Int.ofNat 0)), (V.int .i64 (Int.ofNat 5))]), σ)) (
 K1 v0 V.nils (Int.ofNat 0) σ)
def C16_1 : XC := (.block 1 (.seq (.ops (.op (some 12) .any [0] (.mov (.tmp 0)) <|
 .op (some 13) .any [6] (.mov (.tmp 6)) <|
 .op (some 14) (.int .i64) [12, 13] (.call 35 [(.tmp 12), (.tmp 13)]) <|
 .op (some 6) .any [14] (.mov (.tmp 14)) <|
 .nil))
 (.seq (.seq (.ops (.op (some 15) .any [6] (.mov (.tmp 6)) <|
 .op (some 16) .any [0] (.mov (.tmp 0)) <|
 .op (some 17) .any [16] (.len true (.tmp 16)) <|
 .op (some 18) .any [15, 17] (.bin .geq .none (.tmp 15) (.tmp 17)) <|
 .nil))
 (.cond (.tmp 18) (.seq (.ops (.op (some 19) .any [5] (.mov (.tmp 5)) <|
 .op (some 20) .any [0] (.mov (.tmp 0)) <|
 .op (some 21) .any [20] (.len true (.tmp 20)) <|
 .op (some 22) (.agg [(.int .i64), .str, (.int .i64)]) [21] (.build [(V.int .i64 (Int.ofNat 0)), (V.str ⟨0, 0⟩), (V.int .i64 (Int.ofNat 0))] [(2, 1, (.tmp 21))]) <|
 .op (some 23) .any [22] (.buildSlice 74 1 [(V.int .i64 (Int.ofNat 0)), (V.str ⟨0, 0⟩), (V.int .i64 (Int.ofNat 0))] [(0, 3, (.tmp 22))]) <|
 .op (some 24) .one [19, 23] (.append 74 3 32 (.tmp 19) (.tmp 23)) <|
 .op (some 2) .any [24] (.mov (.tmp 24)) <|
 .op (some 3) .any [] (.mov (.con (V.int .i64 (Int.ofNat 0)))) <|
 .op (some 4) .any [] (.mov (.con (V.int .i64 (Int.ofNat 0)))) <|
 .nil))
 .ret)
 .skip))
 (.seq (.ops (.op (some 26) .any [0] (.mov (.tmp 0)) <|
 .op (some 27) .any [6] (.mov (.tmp 6)) <|
 .op (some 28) (.tup [(.agg [(.int .i64), .str, (.int .i64)]), (.int .i64)]) [26, 27] (.call 36 [(.tmp 26), (.tmp 27)]) <|
 .op (some 25) .any [28] (.mov (.tmp 28)) <|
 .op (some 29) .any [25] (.extract 0 (.tmp 25)) <|
 .op (some 30) .any [25] (.extract 1 (.tmp 25)) <|
 .pal 7 [] 74 [(V.int .i64 (Int.ofNat 0)), (V.str ⟨0, 0⟩), (V.int .i64 (Int.ofNat 0))] <|
 .op none (.agg [(.int .i64), .str, (.int .i64)]) [7, 29] (.store 3 (.tmp 7) (.tmp 29)) <|
 .op (some 8) .any [30] (.mov (.tmp 30)) <|
 .nil))
 (.seq (.seq (.ops (.op (some 31) .any [8] (.mov (.tmp 8)) <|
 .op (some 32) .any [31] (.bin .lss .none (.tmp 31) (.con (V.int .i64 (Int.ofNat 0)))) <|
 .nil))
 (.cond (.tmp 32) (.seq (.ops (.op (some 33) .any [6] (.mov (.tmp 6)) <|
 .op (some 2) .any [] (.mov (.con V.nils)) <|
 .op (some 3) .any [33] (.mov (.tmp 33)) <|
 .op (some 4) .any [] (.mov (.con (V.int .i64 (Int.ofNat 6)))) <|
 .nil))
 .ret)
 .skip))
 (.seq (.ops (.op (some 34) .any [5] (.mov (.tmp 5)) <|
 .op (some 35) (.agg [(.int .i64), .str, (.int .i64)]) [7] (.load (some 3) (.tmp 7)) <|
 .op (some 36) .any [35] (.buildSlice 74 1 [(V.int .i64 (Int.ofNat 0)), (V.str ⟨0, 0⟩), (V.int .i64 (Int.ofNat 0))] [(0, 3, (.tmp 35))]) <|
 .op (some 37) .one [34, 36] (.append 74 3 32 (.tmp 34) (.tmp 36)) <|
 .op (some 5) .any [37] (.mov (.tmp 37)) <|
 .nil))
 (.ops (.op (some 38) .any [8] (.mov (.tmp 8)) <|
 .op (some 6) .any [38] (.mov (.tmp 38)) <|
 .nil))))))))
def T16_1 (E : List (Nat × Blk)) (D : Den) (W : DrawFn) (R1 : BS → V → Int → H → Ans) (v0 : BS) (v5 : V) (v6 : Int) (σ : H) : Ans :=
 callK (D 35 [(V.str v0), (V.int .i64 v6)] σ) fun u1 s2 =>
 rtInt .i64 u1 fun x3 =>
 condK (leF (Int.ofNat (BS.len v0)) x3) (
 let s4 := newB s2 (.cells [(V.int .i64 (Int.ofNat 0)), (V.str (BS.mk 0 0)), (V.int .i64 (Int.ofNat (BS.len v0)))]);
 appK E 3 32 v5 (V.sl (H.next s2) 0 1 (.ex 1)) s4 fun u5 s6 =>
 rtOne u5 (
 some ((V.tup [u5, (V.int .i64 (Int.ofNat 0)), (V.int .i64 (Int.ofNat 0))]), s6))) (
 callK (D 36 [(V.str v0), (V.int .i64 x3)] s2) fun u7 s8 =>
 rtTup u7 fun l9 =>
 rtCons l9 fun x10 l11 =>
 rtAgg x10 fun l12 =>
 rtCons l12 fun x13 l14 =>
 rtInt .i64 x13 fun x15 =>
 rtCons l14 fun x16 l17 =>
 rtStr x16 fun x18 =>
 rtCons l17 fun x19 l20 =>
 rtInt .i64 x19 fun x21 =>
 rtNil l20 (
 rtCons l11 fun x22 l23 =>
 rtInt .i64 x22 fun x24 =>
 rtNil l23 (
 condK (ltF x24 (Int.ofNat 0)) (
 some ((V.tup [V.nils, (V.int .i64 x3), (V.int .i64 (Int.ofNat 6))]), s8)) (
 let s25 := newB s8 (.cells [(V.int .i64 x15), (V.str x18), (V.int .i64 x21)]);
 appK E 3 32 v5 (V.sl (H.next s8) 0 1 (.ex 1)) s25 fun u26 s27 =>
 rtOne u26 (
 R1 v0 u26 x24 s27)))))
theorem P16_0 (E : List (Nat × Blk)) (D : Den) (W : DrawFn) (N : Nat) (cc1 : XC) (v0 : BS) (σ : H) :
  denC E D W N (C16_0 cc1) ⟨[(0, (V.str v0))], [], [], σ⟩ (Fin16 E) (fun _ _ => none) (Fin16 E) =
  T16_0 E D W (fun v0 v5 v6 σ => iterK (fun rec s' => denC E D W N cc1 s' (fun s'' => keepS [(0, .str), (5, .any), (6, (.int .i64))] [] [] s'' rec) (blkK 0 (Fin16 E) (fun _ _ => none)) (Fin16 E)) N ⟨[(0, (V.str v0)), (5, v5), (6, (V.int .i64 v6))], [], [], σ⟩) v0 σ := by kernel_rfl
theorem P16_1 (E : List (Nat × Blk)) (D : Den) (W : DrawFn) (N : Nat) (li1 : St → Ans) (v0 : BS) (v5 : V) (v6 : Int) (σ : H) :
  denC E D W N (C16_1 ) ⟨[(0, (V.str v0)), (5, v5), (6, (V.int .i64 v6))], [], [], σ⟩ (fun s'' => keepS [(0, .str), (5, .any), (6, (.int .i64))] [] [] s'' li1) (blkK 0 (Fin16 E) (fun _ _ => none)) (Fin16 E) =
  T16_1 E D W (fun v0 v5 v6 σ => li1 ⟨[(0, (V.str v0)), (5, v5), (6, (V.int .i64 v6))], [], [], σ⟩) v0 v5 v6 σ := by kernel_rfl
def L16_1 (E : List (Nat × Blk)) (D : Den) (W : DrawFn) (N : Nat) (n : Nat) : BS → V → Int → H → Ans :=
  Nat.rec (fun _ _ _ _ => none) (fun _ ih => T16_1 E D W ih) n
theorem LE16_1 (E : List (Nat × Blk)) (D : Den) (W : DrawFn) (N : Nat) (n : Nat) : ∀ (v0 : BS) (v5 : V) (v6 : Int) (σ : H),
  iterK (fun rec s' => denC E D W N C16_1 s' (fun s'' => keepS [(0, .str), (5, .any), (6, (.int .i64))] [] [] s'' rec) (blkK 0 (Fin16 E) (fun _ _ => none)) (Fin16 E)) n ⟨[(0, (V.str v0)), (5, v5), (6, (V.int .i64 v6))], [], [], σ⟩ = L16_1 E D W N n v0 v5 v6 σ := by
  induction n with
  | zero => intro v0 v5 v6 σ; rfl
  | succ n ihn =>
    intro v0 v5 v6 σ
    rw [iterK_succ]
    refine (P16_1 E D W N  (iterK (fun rec s' => denC E D W N C16_1 s' (fun s'' => keepS [(0, .str), (5, .any), (6, (.int .i64))] [] [] s'' rec) (blkK 0 (Fin16 E) (fun _ _ => none)) (Fin16 E)) n) v0 v5 v6 σ).trans ?_
    simp only [ihn]
    kernel_rfl
def J16_0 (E : List (Nat × Blk)) (D : Den) (W : DrawFn) (N : Nat) : BS → H → Ans := T16_0 E D W (L16_1 E D W N N)
theorem JE16_0 (E : List (Nat × Blk)) (D : Den) (W : DrawFn) (N : Nat) (v0 : BS) (σ : H) :
  denC E D W N (C16_0 C16_1) ⟨[(0, (V.str v0))], [], [], σ⟩ (Fin16 E) (fun _ _ => none) (Fin16 E) = J16_0 E D W N v0 σ := by
  refine (P16_0 E D W N C16_1  v0 σ).trans ?_
  simp only [LE16_1]
  kernel_rfl
def F16 (E : List (Nat × Blk)) (D : Den) (W : DrawFn) (N : Nat) (args : List V) (σ : H) : Ans :=
 rtCons args fun x1 l2 =>
 rtStr x1 fun x3 =>
 rtNil l2 (
 J16_0 E D W N x3 σ)
def A16 : XFn := ⟨39, [.str], [(.tmp 2), (.tmp 3), (.tmp 4)], (C16_0 C16_1)⟩
theorem FE16 (E : List (Nat × Blk)) (D : Den) (W : DrawFn) (N : Nat) (args : List V) (σ : H) : runX E D W N A16 args σ = F16 E D W N args σ := by
  unfold F16
  simp only [← JE16_0]
  kernel_rfl
theorem AO16 : A16.body.ok = true := by kernel_rfl

/-! ### F17: __ogham_oghamref05.parser_.kind -/
def Fin17 (E : List (Nat × Blk)) : St → Ans := fun s => resK E s [(.tmp 4)] fun l => some (oneV l, s.σ)
def C17_0 : XC := (.seq (.ops (.op (some 4) .any [] (.mov (.con (V.str ⟨0, 0⟩))) <|
 .nil))
 (.seq (.ops (.op (some 6) .any [0] (.mov (.tmp 0)) <|
 .op (some 7) (.agg [(.int .i64), .str, (.int .i64)]) [6] (.call 20 [(.tmp 6)]) <|
 .pal 5 [] 74 [(V.int .i64 (Int.ofNat 0)), (V.str ⟨0, 0⟩), (V.int .i64 (Int.ofNat 0))] <|
 .op none (.agg [(.int .i64), .str, (.int .i64)]) [5, 7] (.store 3 (.tmp 5) (.tmp 7)) <|
 .nil))
 (.seq (.seq (.ops (.op (some 8) .any [0] (.mov (.tmp 0)) <|
 .op (some 9) .any [8] (.nilck (.tmp 8)) <|
 .op (some 10) .any [9] (.faddr 7 (.tmp 9)) <|
 .op (some 11) (.int .i64) [10] (.load none (.tmp 10)) <|
 .op (some 12) .any [11] (.bin .neq .none (.tmp 11) (.con (V.int .i64 (Int.ofNat 0)))) <|
 .op (some 13) .any [12] (.mov (.tmp 12)) <|
 .grp 13 false (.op (some 14) .any [5, 13] (.faddr 0 (.tmp 5)) <|
 .op (some 15) (.int .i64) [14, 13] (.load none (.tmp 14)) <|
 .op (some 16) .any [1, 13] (.mov (.tmp 1)) <|
 .op (some 17) .any [15, 16, 13] (.bin .neq .none (.tmp 15) (.tmp 16)) <|
 .nil) 18 [13, 17] (.tmp 13) (.con (V.bool true)) (.tmp 17) <|
 .nil))
 (.cond (.tmp 18) (.seq (.ops (.op (some 19) .any [0] (.mov (.tmp 0)) <|
 .op (some 20) (.agg [(.int .i64), .str, (.int .i64)]) [5] (.load (some 3) (.tmp 5)) <|
 .op (some 21) (.tup []) [19, 20] (.call 21 [(.tmp 19), (.con (V.int .i64 (Int.ofNat 7))), (.tmp 20)]) <|
 .nil))
 (.seq (.ops (.op (some 4) .any [] (.mov (.con (V.str ⟨0, 0⟩))) <|
 .nil))
 .ret))
 .skip))
 (.seq (.ops (.op (some 22) .any [0] (.mov (.tmp 0)) <|
 .op (some 23) (.agg [(.int .i64), .str, (.int .i64)]) [22] (.call 37 [(.tmp 22)]) <|
 .op (some 24) .str [23] (.field 1 none (.tmp 23)) <|
 .op (some 4) .any [24] (.mov (.tmp 24)) <|
 .nil))
 .ret))))
def T17_0 (E : List (Nat × Blk)) (D : Den) (W : DrawFn) (v0b : Nat) (v0o : Nat) (v1 : Int) (σ : H) : Ans :=
 callK (D 20 [(V.ptr v0b v0o)] σ) fun u1 s2 =>
 rtAgg u1 fun l3 =>
 rtCons l3 fun x4 l5 =>
 rtInt .i64 x4 fun x6 =>
 rtCons l5 fun x7 l8 =>
 rtStr x7 fun x9 =>
 rtCons l8 fun x10 l11 =>
 rtInt .i64 x10 fun x12 =>
 rtNil l11 (
 ldK E s2 v0b (Nat.add v0o 7) fun u13 =>
 rtInt .i64 u13 fun x14 =>
 joinB (fun c15 s16 =>
 condK c15 (
 callK (D 21 [(V.ptr v0b v0o), (V.int .i64 (Int.ofNat 7)), (V.agg [(V.int .i64 x6), (V.str x9), (V.int .i64 x12)])] s16) fun u18 s19 =>
 rtTup u18 fun l20 =>
 rtNil l20 (
 some ((V.str (BS.mk 0 0)), s19))) (
 callK (D 37 [(V.ptr v0b v0o)] s16) fun u21 s22 =>
 rtAgg u21 fun l23 =>
 rtCons l23 fun x24 l25 =>
 rtInt .i64 x24 fun x26 =>
 rtCons l25 fun x27 l28 =>
 rtStr x27 fun x29 =>
 rtCons l28 fun x30 l31 =>
 rtInt .i64 x30 fun x32 =>
 rtNil l31 (
 some ((V.str x29), s22)))) fun k17 =>
 condK (not (eqF x14 (Int.ofNat 0))) (
 k17 true s2) (
 k17 (not (eqF x6 v1)) s2))
theorem P17_0 (E : List (Nat × Blk)) (D : Den) (W : DrawFn) (N : Nat) (v0b : Nat) (v0o : Nat) (v1 : Int) (σ : H) :
  denC E D W N (C17_0 ) ⟨[(0, (V.ptr v0b v0o)), (1, (V.int .i64 v1))], [], [], σ⟩ (Fin17 E) (fun _ _ => none) (Fin17 E) =
  T17_0 E D W  v0b v0o v1 σ := by kernel_rfl
def J17_0 (E : List (Nat × Blk)) (D : Den) (W : DrawFn) (N : Nat) : Nat → Nat → Int → H → Ans := T17_0 E D W 
theorem JE17_0 (E : List (Nat × Blk)) (D : Den) (W : DrawFn) (N : Nat) (v0b : Nat) (v0o : Nat) (v1 : Int) (σ : H) :
  denC E D W N C17_0 ⟨[(0, (V.ptr v0b v0o)), (1, (V.int .i64 v1))], [], [], σ⟩ (Fin17 E) (fun _ _ => none) (Fin17 E) = J17_0 E D W N v0b v0o v1 σ := by
  refine (P17_0 E D W N   v0b v0o v1 σ).trans ?_
  kernel_rfl
def F17 (E : List (Nat × Blk)) (D : Den) (W : DrawFn) (N : Nat) (args : List V) (σ : H) : Ans :=
 rtCons args fun x1 l2 =>
 rtPtr x1 fun b3 o4 =>
 rtCons l2 fun x5 l6 =>
 rtInt .i64 x5 fun x7 =>
 rtNil l6 (
 J17_0 E D W N b3 o4 x7 σ)
def A17 : XFn := ⟨25, [.ptr, (.int .i64)], [(.tmp 4)], C17_0⟩
theorem FE17 (E : List (Nat × Blk)) (D : Den) (W : DrawFn) (N : Nat) (args : List V) (σ : H) : runX E D W N A17 args σ = F17 E D W N args σ := by
  unfold F17
  simp only [← JE17_0]
  kernel_rfl
theorem AO17 : A17.body.ok = true := by kernel_rfl

def C18_0 : XC := (.seq (.ops (.op (some 4) .any [0] (.mov (.tmp 0)) <|
 .op (some 5) .any [4] (.nilck (.tmp 4)) <|
 .op (some 6) .any [5] (.faddr 7 (.tmp 5)) <|
 .op (some 7) (.int .i64) [6] (.load none (.tmp 6)) <|
 .op (some 8) .any [7] (.bin .eql .none (.tmp 7) (.con (V.int .i64 (Int.ofNat 0)))) <|
 .op (some 9) .any [8] (.mov (.tmp 8)) <|
 .grp 9 true (.op (some 10) .any [0, 9] (.mov (.tmp 0)) <|
 .op (some 11) .any [1, 9] (.mov (.tmp 1)) <|
 .op (some 12) .bool [10, 11, 9] (.call 19 [(.tmp 10), (.tmp 11)]) <|
 .op (some 13) .any [12, 9] (.un .not (.tmp 12)) <|
 .nil) 14 [9, 13] (.tmp 9) (.tmp 13) (.con (V.bool false)) <|
 .nil))
 (.cond (.tmp 14) (.ops (.op (some 15) .any [0] (.mov (.tmp 0)) <|
 .op (some 16) .any [0] (.mov (.tmp 0)) <|
 .op (some 17) (.agg [(.int .i64), .str, (.int .i64)]) [16] (.call 20 [(.tmp 16)]) <|
 .op (some 18) (.tup []) [15, 17] (.call 21 [(.tmp 15), (.con (V.int .i64 (Int.ofNat 7))), (.tmp 17)]) <|
 .nil))
 .skip))
def A18 : XFn := ⟨19, [.ptr, .str], [], C18_0⟩
/-! ### F19: __ogham_oghamref05.parser_.is -/
def Fin19 (E : List (Nat × Blk)) : St → Ans := fun s => resK E s [(.tmp 4)] fun l => some (oneV l, s.σ)
def C19_0 : XC := (.seq (.ops (.op (some 4) .any [] (.mov (.con (V.bool false))) <|
 .nil))
 (.seq (.ops (.op (some 6) .any [0] (.mov (.tmp 0)) <|
 .op (some 7) (.agg [(.int .i64), .str, (.int .i64)]) [6] (.call 20 [(.tmp 6)]) <|
 .pal 5 [] 74 [(V.int .i64 (Int.ofNat 0)), (V.str ⟨0, 0⟩), (V.int .i64 (Int.ofNat 0))] <|
 .op none (.agg [(.int .i64), .str, (.int .i64)]) [5, 7] (.store 3 (.tmp 5) (.tmp 7)) <|
 .nil))
 (.seq (.seq (.ops (.op (some 8) .any [0] (.mov (.tmp 0)) <|
 .op (some 9) .any [8] (.nilck (.tmp 8)) <|
 .op (some 10) .any [9] (.faddr 7 (.tmp 9)) <|
 .op (some 11) (.int .i64) [10] (.load none (.tmp 10)) <|
 .op (some 12) .any [11] (.bin .eql .none (.tmp 11) (.con (V.int .i64 (Int.ofNat 0)))) <|
 .op (some 13) .any [12] (.mov (.tmp 12)) <|
 .grp 13 true (.op (some 14) .any [5, 13] (.faddr 0 (.tmp 5)) <|
 .op (some 15) (.int .i64) [14, 13] (.load none (.tmp 14)) <|
 .op (some 16) .any [15, 13] (.bin .eql .none (.tmp 15) (.con (V.int .i64 (Int.ofNat 5)))) <|
 .op (some 17) .any [16, 13] (.mov (.tmp 16)) <|
 .grp 17 false (.op (some 18) .any [5, 17] (.faddr 0 (.tmp 5)) <|
 .op (some 19) (.int .i64) [18, 17] (.load none (.tmp 18)) <|
 .op (some 20) .any [19, 17] (.bin .eql .none (.tmp 19) (.con (V.int .i64 (Int.ofNat 6)))) <|
 .nil) 21 [17, 20, 13] (.tmp 17) (.con (V.bool true)) (.tmp 20) <|
 .nil) 22 [13, 21] (.tmp 13) (.tmp 21) (.con (V.bool false)) <|
 .op (some 23) .any [22] (.mov (.tmp 22)) <|
 .grp 23 true (.op (some 24) .any [5, 23] (.faddr 1 (.tmp 5)) <|
 .op (some 25) .str [24, 23] (.load none (.tmp 24)) <|
 .op (some 26) .any [1, 23] (.mov (.tmp 1)) <|
 .op (some 27) .any [25, 26, 23] (.bin .eql .none (.tmp 25) (.tmp 26)) <|
 .nil) 28 [23, 27] (.tmp 23) (.tmp 27) (.con (V.bool false)) <|
 .nil))
 (.cond (.tmp 28) (.seq (.ops (.op (some 29) .any [0] (.mov (.tmp 0)) <|
 .op (some 30) (.agg [(.int .i64), .str, (.int .i64)]) [29] (.call 37 [(.tmp 29)]) <|
 .nil))
 (.seq (.ops (.op (some 4) .any [] (.mov (.con (V.bool true))) <|
 .nil))
 .ret))
 .skip))
 (.seq (.ops (.op (some 4) .any [] (.mov (.con (V.bool false))) <|
 .nil))
 .ret))))
def T19_0 (E : List (Nat × Blk)) (D : Den) (W : DrawFn) (v0b : Nat) (v0o : Nat) (v1 : BS) (σ : H) : Ans :=
 callK (D 20 [(V.ptr v0b v0o)] σ) fun u1 s2 =>
 rtAgg u1 fun l3 =>
 rtCons l3 fun x4 l5 =>
 rtInt .i64 x4 fun x6 =>
 rtCons l5 fun x7 l8 =>
 rtStr x7 fun x9 =>
 rtCons l8 fun x10 l11 =>
 rtInt .i64 x10 fun x12 =>
 rtNil l11 (
 ldK E s2 v0b (Nat.add v0o 7) fun u13 =>
 rtInt .i64 u13 fun x14 =>
 joinB (fun c15 s16 =>
 joinB (fun c18 s19 =>
 condK c18 (
 callK (D 37 [(V.ptr v0b v0o)] s19) fun u21 s22 =>
 rtAgg u21 fun l23 =>
 rtCons l23 fun x24 l25 =>
 rtInt .i64 x24 fun x26 =>
 rtCons l25 fun x27 l28 =>
 rtStr x27 fun x29 =>
 rtCons l28 fun x30 l31 =>
 rtInt .i64 x30 fun x32 =>
 rtNil l31 (
 some ((V.bool true), s22))) (
 some ((V.bool false), s19))) fun k20 =>
 condK c15 (
 k20 (BS.beq x9 v1) s16) (
 k20 false s16)) fun k17 =>
 condK (eqF x14 (Int.ofNat 0)) (
 joinB (fun c33 s34 =>
 k17 c33 s34) fun k35 =>
 condK (eqF x6 (Int.ofNat 5)) (
 k35 true s2) (
 k35 (eqF x6 (Int.ofNat 6)) s2)) (
 k17 false s2))
theorem P19_0 (E : List (Nat × Blk)) (D : Den) (W : DrawFn) (N : Nat) (v0b : Nat) (v0o : Nat) (v1 : BS) (σ : H) :
  denC E D W N (C19_0 ) ⟨[(0, (V.ptr v0b v0o)), (1, (V.str v1))], [], [], σ⟩ (Fin19 E) (fun _ _ => none) (Fin19 E) =
  T19_0 E D W  v0b v0o v1 σ := by kernel_rfl
def J19_0 (E : List (Nat × Blk)) (D : Den) (W : DrawFn) (N : Nat) : Nat → Nat → BS → H → Ans := T19_0 E D W 
theorem JE19_0 (E : List (Nat × Blk)) (D : Den) (W : DrawFn) (N : Nat) (v0b : Nat) (v0o : Nat) (v1 : BS) (σ : H) :
  denC E D W N C19_0 ⟨[(0, (V.ptr v0b v0o)), (1, (V.str v1))], [], [], σ⟩ (Fin19 E) (fun _ _ => none) (Fin19 E) = J19_0 E D W N v0b v0o v1 σ := by
  refine (P19_0 E D W N   v0b v0o v1 σ).trans ?_
  kernel_rfl
def F19 (E : List (Nat × Blk)) (D : Den) (W : DrawFn) (N : Nat) (args : List V) (σ : H) : Ans :=
 rtCons args fun x1 l2 =>
 rtPtr x1 fun b3 o4 =>
 rtCons l2 fun x5 l6 =>
 rtStr x5 fun x7 =>
 rtNil l6 (
 J19_0 E D W N b3 o4 x7 σ)
def A19 : XFn := ⟨31, [.ptr, .str], [(.tmp 4)], C19_0⟩
theorem FE19 (E : List (Nat × Blk)) (D : Den) (W : DrawFn) (N : Nat) (args : List V) (σ : H) : runX E D W N A19 args σ = F19 E D W N args σ := by
  unfold F19
  simp only [← JE19_0]
  kernel_rfl
theorem AO19 : A19.body.ok = true := by kernel_rfl

/-! ### F20: __ogham_oghamref05.parser_.now -/
def Fin20 (E : List (Nat × Blk)) : St → Ans := fun s => resK E s [(.cell 2 (some 3))] fun l => some (oneV l, s.σ)
def C20_0 : XC := (.seq (.ops (.pal 2 [] 74 [(V.int .i64 (Int.ofNat 0)), (V.str ⟨0, 0⟩), (V.int .i64 (Int.ofNat 0))] <|
 .nil))
 (.seq (.draw (.op (some 3) .any [0] (.mov (.tmp 0)) <|
 .op (some 4) .any [3] (.nilck (.tmp 3)) <|
 .op (some 5) .any [4] (.faddr 0 (.tmp 4)) <|
 .op (some 6) .any [5] (.load none (.tmp 5)) <|
 .op (some 7) .any [0] (.mov (.tmp 0)) <|
 .op (some 8) .any [7] (.nilck (.tmp 7)) <|
 .op (some 9) .any [8] (.faddr 1 (.tmp 8)) <|
 .op (some 10) (.int .i64) [9] (.load none (.tmp 9)) <|
 .op (some 11) .any [6, 10] (.iaddrS 3 (.tmp 6) (.tmp 10)) <|
 .op (some 12) (.agg [(.int .i64), .str, (.int .i64)]) [11] (.load (some 3) (.tmp 11)) <|
 .op none (.agg [(.int .i64), .str, (.int .i64)]) [2, 12] (.store 3 (.tmp 2) (.tmp 12)) <|
 .nil) [0, 1, 3, 7, 0, 16, 48, 112, 255, 511, 1023])
 .ret))
def T20_0 (E : List (Nat × Blk)) (D : Den) (W : DrawFn) (v0b : Nat) (v0o : Nat) (σ : H) : Ans :=
 ldK E σ v0b v0o fun u1 =>
 ldK E σ v0b (Nat.add v0o 1) fun u2 =>
 rtInt .i64 u2 fun x3 =>
 iaddrSK 3 u1 x3 fun b4 o5 =>
 ldnK E σ b4 o5 3 fun l6 =>
 rtCons l6 fun x7 l8 =>
 rtInt .i64 x7 fun x9 =>
 rtCons l8 fun x10 l11 =>
 rtStr x10 fun x12 =>
 rtCons l11 fun x13 l14 =>
 rtInt .i64 x13 fun x15 =>
 rtNil l14 (
 some ((V.agg [(V.int .i64 x9), (V.str x12), (V.int .i64 x15)]), σ))
theorem P20_0 (E : List (Nat × Blk)) (D : Den) (W : DrawFn) (N : Nat) (v0b : Nat) (v0o : Nat) (σ : H) :
  denC E D W N (C20_0 ) ⟨[(0, (V.ptr v0b v0o))], [], [], σ⟩ (Fin20 E) (fun _ _ => none) (Fin20 E) =
  T20_0 E D W  v0b v0o σ := by kernel_rfl
def J20_0 (E : List (Nat × Blk)) (D : Den) (W : DrawFn) (N : Nat) : Nat → Nat → H → Ans := T20_0 E D W 
theorem JE20_0 (E : List (Nat × Blk)) (D : Den) (W : DrawFn) (N : Nat) (v0b : Nat) (v0o : Nat) (σ : H) :
  denC E D W N C20_0 ⟨[(0, (V.ptr v0b v0o))], [], [], σ⟩ (Fin20 E) (fun _ _ => none) (Fin20 E) = J20_0 E D W N v0b v0o σ := by
  refine (P20_0 E D W N   v0b v0o σ).trans ?_
  kernel_rfl
def F20 (E : List (Nat × Blk)) (D : Den) (W : DrawFn) (N : Nat) (args : List V) (σ : H) : Ans :=
 rtCons args fun x1 l2 =>
 rtPtr x1 fun b3 o4 =>
 rtNil l2 (
 J20_0 E D W N b3 o4 σ)
def A20 : XFn := ⟨13, [.ptr], [(.cell 2 (some 3))], C20_0⟩
theorem FE20 (E : List (Nat × Blk)) (D : Den) (W : DrawFn) (N : Nat) (args : List V) (σ : H) : runX E D W N A20 args σ = F20 E D W N args σ := by
  unfold F20
  simp only [← JE20_0]
  kernel_rfl
theorem AO20 : A20.body.ok = true := by kernel_rfl

def C22_0 (cc1 : XC) (cc2 : XC) : XC := (.seq (.ops (.op (some 4) .any [] (.mov (.con (V.int .i64 (Int.ofNat 0)))) <|
 .nil))
 (.seq (.seq (.ops (.op (some 9) .any [0] (.mov (.tmp 0)) <|
 .op (some 10) .any [9] (.nilck (.tmp 9)) <|
 .op (some 11) .any [10] (.faddr 7 (.tmp 10)) <|
 .op (some 12) (.int .i64) [11] (.load none (.tmp 11)) <|
 .op (some 13) .any [12] (.bin .neq .none (.tmp 12) (.con (V.int .i64 (Int.ofNat 0)))) <|
 .nil))
 (.cond (.tmp 13) (.seq (.ops (.op (some 4) .any [] (.mov (.con (V.int .i64 (Int.ofNat 0)))) <|
 .nil))
 .ret)
 .skip))
 (.seq (.seq (.ops (.op (some 14) .any [0] (.mov (.tmp 0)) <|
 .op (some 15) (.agg [(.int .i64), .str, (.int .i64)]) [14] (.call 20 [(.tmp 14)]) <|
 .op (some 16) .bool [15] (.call 38 [(.tmp 15)]) <|
 .op (some 17) .any [16] (.un .not (.tmp 16)) <|
 .nil))
 (.cond (.tmp 17) (.seq (.ops (.op (some 18) .any [0] (.mov (.tmp 0)) <|
 .op (some 19) .any [0] (.mov (.tmp 0)) <|
 .op (some 20) (.agg [(.int .i64), .str, (.int .i64)]) [19] (.call 20 [(.tmp 19)]) <|
 .op (some 21) (.tup []) [18, 20] (.call 21 [(.tmp 18), (.con (V.int .i64 (Int.ofNat 7))), (.tmp 20)]) <|
 .nil))
 (.seq (.ops (.op (some 4) .any [] (.mov (.con (V.int .i64 (Int.ofNat 0)))) <|
 .nil))
 .ret))
 .skip))
 (.seq (.seq (.ops (.op (some 22) .any [1] (.mov (.tmp 1)) <|
 .op (some 23) .any [22] (.bin .gtr .none (.tmp 22) (.con (V.int .i64 (Int.ofNat 16)))) <|
 .op (some 24) .any [23] (.mov (.tmp 23)) <|
 .grp 24 false (.op (some 25) .any [0, 24] (.mov (.tmp 0)) <|
 .op (some 26) .any [25, 24] (.nilck (.tmp 25)) <|
 .op (some 27) .any [26, 24] (.faddr 2 (.tmp 26)) <|
 .op (some 28) .any [27, 24] (.faddr 4 (.tmp 27)) <|
 .op (some 29) .any [28, 24] (.load none (.tmp 28)) <|
 .op (some 30) .any [29, 24] (.len false (.tmp 29)) <|
 .op (some 31) .any [30, 24] (.bin .geq .none (.tmp 30) (.con (V.int .i64 (Int.ofNat 300)))) <|
 .nil) 32 [24, 31] (.tmp 24) (.con (V.bool true)) (.tmp 31) <|
 .nil))
 (.cond (.tmp 32) (.seq (.ops (.op (some 33) .any [0] (.mov (.tmp 0)) <|
 .op (some 34) .any [0] (.mov (.tmp 0)) <|
 .op (some 35) (.agg [(.int .i64), .str, (.int .i64)]) [34] (.call 20 [(.tmp 34)]) <|
 .op (some 36) (.tup []) [33, 35] (.call 21 [(.tmp 33), (.con (V.int .i64 (Int.ofNat 5))), (.tmp 35)]) <|
 .nil))
 (.seq (.ops (.op (some 4) .any [] (.mov (.con (V.int .i64 (Int.ofNat 0)))) <|
 .nil))
 .ret))
 .skip))
 (.seq (.ops (.op (some 37) .any [0] (.mov (.tmp 0)) <|
 .op (some 38) .any [37] (.nilck (.tmp 37)) <|
 .op (some 39) .any [38] (.faddr 2 (.tmp 38)) <|
 .op (some 40) .any [39] (.faddr 4 (.tmp 39)) <|
 .op (some 41) .any [40] (.load none (.tmp 40)) <|
 .op (some 42) .any [41] (.len false (.tmp 41)) <|
 .op (some 5) .any [42] (.mov (.tmp 42)) <|
 .nil))
 (.seq (.ops (.op (some 43) .any [0] (.mov (.tmp 0)) <|
 .op (some 44) .any [0] (.mov (.tmp 0)) <|
 .op (some 45) .any [44] (.nilck (.tmp 44)) <|
 .op (some 46) .any [45] (.faddr 2 (.tmp 45)) <|
 .op (some 47) .any [46] (.faddr 4 (.tmp 46)) <|
 .op (some 48) .any [47] (.load none (.tmp 47)) <|
 .op (some 49) (.agg [(.int .i64), .str, .bool, (.int .i64), (.int .i64), .bool, .bool, .bool, .bool, (.int .i64), (.int .i64), .any, .any, (.int .i64), .bool, (.int .i64)]) [] (.build [(V.int .i64 (Int.ofNat 0)), (V.str ⟨0, 0⟩), (V.bool false), (V.int .i64 (Int.ofNat 0)), (V.int .i64 (Int.ofNat 0)), (V.bool false), (V.bool false), (V.bool false), (V.bool false), (V.int .i64 (Int.ofNat 0)), (V.int .i64 (Int.ofNat 0)), V.nils, V.nils, (V.int .i64 (Int.ofNat 0)), (V.bool false), (V.int .i64 (Int.ofNat 0))] []) <|
 .op (some 50) .any [49] (.buildSlice 105 1 [(V.int .i64 (Int.ofNat 0)), (V.str ⟨0, 0⟩), (V.bool false), (V.int .i64 (Int.ofNat 0)), (V.int .i64 (Int.ofNat 0)), (V.bool false), (V.bool false), (V.bool false), (V.bool false), (V.int .i64 (Int.ofNat 0)), (V.int .i64 (Int.ofNat 0)), V.nils, V.nils, (V.int .i64 (Int.ofNat 0)), (V.bool false), (V.int .i64 (Int.ofNat 0))] [(0, 16, (.tmp 49))]) <|
 .op (some 51) .one [48, 50] (.append 105 16 144 (.tmp 48) (.tmp 50)) <|
 .op (some 52) .any [43] (.nilck (.tmp 43)) <|
 .op (some 53) .any [52] (.faddr 2 (.tmp 52)) <|
 .op (some 54) .any [53] (.faddr 4 (.tmp 53)) <|
 .op none .any [54, 51] (.store 1 (.tmp 54) (.tmp 51)) <|
 .nil))
 (.seq (.ops (.op (some 55) (.agg [(.int .i64), .str, .bool, (.int .i64), (.int .i64), .bool, .bool, .bool, .bool, (.int .i64), (.int .i64), .any, .any, (.int .i64), .bool, (.int .i64)]) [] (.build [(V.int .i64 (Int.ofNat 0)), (V.str ⟨0, 0⟩), (V.bool false), (V.int .i64 (Int.ofNat 0)), (V.int .i64 (Int.ofNat 0)), (V.bool false), (V.bool false), (V.bool false), (V.bool false), (V.int .i64 (Int.ofNat 0)), (V.int .i64 (Int.ofNat 0)), V.nils, V.nils, (V.int .i64 (Int.ofNat 0)), (V.bool false), (V.int .i64 (Int.ofNat 0))] []) <|
 .op (some 6) .any [] (.alloc 105 [(V.int .i64 (Int.ofNat 0)), (V.str ⟨0, 0⟩), (V.bool false), (V.int .i64 (Int.ofNat 0)), (V.int .i64 (Int.ofNat 0)), (V.bool false), (V.bool false), (V.bool false), (V.bool false), (V.int .i64 (Int.ofNat 0)), (V.int .i64 (Int.ofNat 0)), V.nils, V.nils, (V.int .i64 (Int.ofNat 0)), (V.bool false), (V.int .i64 (Int.ofNat 0))]) <|
 .op none (.agg [(.int .i64), .str, .bool, (.int .i64), (.int .i64), .bool, .bool, .bool, .bool, (.int .i64), (.int .i64), .any, .any, (.int .i64), .bool, (.int .i64)]) [6, 55] (.store 16 (.tmp 6) (.tmp 55)) <|
 .nil))
 (.seq (.seq (.ops (.op (some 56) .any [0] (.mov (.tmp 0)) <|
 .op (some 57) .bool [56] (.call 19 [(.tmp 56), (.con (V.str ⟨1, 91⟩))]) <|
 .nil))
 (.cond (.tmp 57) (.seq (.ops (.op (some 58) .any [0] (.mov (.tmp 0)) <|
 .op (some 59) (.agg [(.int .i64), .str, (.int .i64)]) [58] (.call 20 [(.tmp 58)]) <|
 .pal 7 [] 74 [(V.int .i64 (Int.ofNat 0)), (V.str ⟨0, 0⟩), (V.int .i64 (Int.ofNat 0))] <|
 .op none (.agg [(.int .i64), .str, (.int .i64)]) [7, 59] (.store 3 (.tmp 7) (.tmp 59)) <|
 .nil))
 (.seq (.ops (.op (some 60) .any [0] (.mov (.tmp 0)) <|
 .op (some 61) (.int .i64) [60] (.call 39 [(.tmp 60)]) <|
 .op (some 8) .any [61] (.mov (.tmp 61)) <|
 .nil))
 (.seq (.seq (.ops (.op (some 62) .any [0] (.mov (.tmp 0)) <|
 .op (some 63) .any [62] (.nilck (.tmp 62)) <|
 .op (some 64) .any [63] (.faddr 7 (.tmp 63)) <|
 .op (some 65) (.int .i64) [64] (.load none (.tmp 64)) <|
 .op (some 66) .any [65] (.bin .eql .none (.tmp 65) (.con (V.int .i64 (Int.ofNat 0)))) <|
 .op (some 67) .any [66] (.mov (.tmp 66)) <|
 .grp 67 true (.op (some 68) .any [8, 67] (.mov (.tmp 8)) <|
 .op (some 69) .any [68, 67] (.bin .lss .none (.tmp 68) (.con (V.int .i64 (Int.ofNat 0)))) <|
 .op (some 70) .any [69, 67] (.mov (.tmp 69)) <|
 .grp 70 false (.op (some 71) .any [8, 70] (.mov (.tmp 8)) <|
 .op (some 72) .any [71, 70] (.bin .gtr .none (.tmp 71) (.con (V.int .i64 (Int.ofNat 268435456)))) <|
 .nil) 73 [70, 72, 67] (.tmp 70) (.con (V.bool true)) (.tmp 72) <|
 .nil) 74 [67, 73] (.tmp 67) (.tmp 73) (.con (V.bool false)) <|
 .nil))
 (.cond (.tmp 74) (.ops (.op (some 75) .any [0] (.mov (.tmp 0)) <|
 .op (some 76) (.agg [(.int .i64), .str, (.int .i64)]) [7] (.load (some 3) (.tmp 7)) <|
 .op (some 77) (.tup []) [75, 76] (.call 21 [(.tmp 75), (.con (V.int .i64 (Int.ofNat 12))), (.tmp 76)]) <|
 .nil))
 .skip))
 (.keep [(0, .ptr), (1, (.int .i64)), (5, (.int .i64)), (6, .ptr), (8, (.int .i64))] [] [] cc2))))
 .skip))
 (.keep [(0, .ptr), (1, (.int .i64)), (5, (.int .i64)), (6, .ptr)] [] [] cc1)))))))))
def C22_1 : XC := (.seq (.ops (.op (some 91) .any [0] (.mov (.tmp 0)) <|
 .op (some 92) .any [1] (.mov (.tmp 1)) <|
 .op (some 93) (.tup []) [91, 6, 92] (.call 40 [(.tmp 91), (.tmp 6), (.tmp 92)]) <|
 .nil))
 (.seq (.seq (.ops (.op (some 94) .any [0] (.mov (.tmp 0)) <|
 .op (some 95) .any [94] (.nilck (.tmp 94)) <|
 .op (some 96) .any [95] (.faddr 7 (.tmp 95)) <|
 .op (some 97) (.int .i64) [96] (.load none (.tmp 96)) <|
 .op (some 98) .any [97] (.bin .neq .none (.tmp 97) (.con (V.int .i64 (Int.ofNat 0)))) <|
 .nil))
 (.cond (.tmp 98) (.seq (.ops (.op (some 4) .any [] (.mov (.con (V.int .i64 (Int.ofNat 0)))) <|
 .nil))
 .ret)
 .skip))
 (.seq (.draw (.op (some 99) .any [0] (.mov (.tmp 0)) <|
 .op (some 100) .any [99] (.nilck (.tmp 99)) <|
 .op (some 101) .any [100] (.faddr 2 (.tmp 100)) <|
 .op (some 102) .any [101] (.faddr 4 (.tmp 101)) <|
 .op (some 103) .any [102] (.load none (.tmp 102)) <|
 .op (some 104) .any [5] (.mov (.tmp 5)) <|
 .op (some 105) (.agg [(.int .i64), .str, .bool, (.int .i64), (.int .i64), .bool, .bool, .bool, .bool, (.int .i64), (.int .i64), .any, .any, (.int .i64), .bool, (.int .i64)]) [6] (.load (some 16) (.tmp 6)) <|
 .op (some 106) .any [103, 104] (.iaddrS 16 (.tmp 103) (.tmp 104)) <|
 .op none (.agg [(.int .i64), .str, .bool, (.int .i64), (.int .i64), .bool, .bool, .bool, .bool, (.int .i64), (.int .i64), .any, .any, (.int .i64), .bool, (.int .i64)]) [106, 105] (.store 16 (.tmp 106) (.tmp 105)) <|
 .nil) [0, 1, 3, 7, 15, 0, 0, 127, 255])
 (.seq (.ops (.op (some 107) .any [5] (.mov (.tmp 5)) <|
 .op (some 4) .any [107] (.mov (.tmp 107)) <|
 .nil))
 .ret))))
def C22_2 : XC := (.seq (.ops (.op (some 78) .any [0] (.mov (.tmp 0)) <|
 .op (some 79) (.tup []) [78] (.call 18 [(.tmp 78), (.con (V.str ⟨1, 93⟩))]) <|
 .nil))
 (.seq (.ops (.op (some 80) .any [8] (.mov (.tmp 8)) <|
 .op (some 81) (.agg [.bool, (.int .i64), (.int .i64)]) [80] (.build [(V.bool false), (V.int .i64 (Int.ofNat 0)), (V.int .i64 (Int.ofNat 0))] [(0, 1, (.con (V.bool true))), (1, 1, (.tmp 80))]) <|
 .op (some 82) .any [6] (.faddr 2 (.tmp 6)) <|
 .op none (.agg [.bool, (.int .i64), (.int .i64)]) [82, 81] (.store 3 (.tmp 82) (.tmp 81)) <|
 .nil))
 (.seq (.ops (.op (some 83) .any [0] (.mov (.tmp 0)) <|
 .op (some 84) .bool [83] (.call 19 [(.tmp 83), (.con (V.str ⟨8, 6073459554577832005⟩))]) <|
 .nil))
 (.cond (.tmp 84) (.ops (.op (some 85) .any [6] (.faddr 2 (.tmp 6)) <|
 .op (some 86) .any [85] (.faddr 2 (.tmp 85)) <|
 .op none .any [86] (.store 1 (.tmp 86) (.con (V.int .i64 (Int.ofNat 1)))) <|
 .nil))
 (.seq (.ops (.op (some 87) .any [0] (.mov (.tmp 0)) <|
 .op (some 88) .bool [87] (.call 19 [(.tmp 87), (.con (V.str ⟨8, 6073459554577829193⟩))]) <|
 .nil))
 (.cond (.tmp 88) (.ops (.op (some 89) .any [6] (.faddr 2 (.tmp 6)) <|
 .op (some 90) .any [89] (.faddr 2 (.tmp 89)) <|
 .op none .any [90] (.store 1 (.tmp 90) (.con (V.int .i64 (Int.ofNat 2)))) <|
 .nil))
 .skip))))))
def A22 : XFn := ⟨108, [.ptr, (.int .i64)], [(.tmp 4)], (C22_0 C22_1 C22_2)⟩
def C23_0 (cc1 : XC) (cc2 : XC) : XC := (.seq (.ops (.op (some 1) .any [0] (.box 44 (.tmp 0)) <|
 .op (some 2) .any [] (.mov (.con V.nils)) <|
 .op (some 3) .any [] (.mov (.con (V.int .i64 (Int.ofNat 0)))) <|
 .op (some 4) .any [] (.mov (.con (V.int .i64 (Int.ofNat 0)))) <|
 .nil))
 (.seq (.ops (.op (some 5) .any [] (.mov (.con V.nils)) <|
 .nil))
 (.seq (.ops (.op (some 6) .any [] (.mov (.con (V.int .i64 (Int.negSucc 0)))) <|
 .nil))
 (.seq (.seq (.ops (.op (some 7) .any [] (.mov (.con (V.int .i64 (Int.ofNat 0)))) <|
 .nil))
 (.block 0 (.loop [(1, .ptr), (5, .any), (6, (.int .i64)), (7, (.int .i64))] [] [] cc2)))
 (.keep [(1, .ptr), (5, .any), (6, (.int .i64))] [] [] cc1)))))
def C23_1 (cc3 : XC) (cc4 : XC) : XC := (.seq (.seq (.ops (.op (some 8) .any [] (.mov (.con (V.int .i64 (Int.ofNat 0)))) <|
 .nil))
 (.block 2 (.loop [(1, .ptr), (5, .any), (6, (.int .i64)), (8, (.int .i64))] [] [] cc4)))
 (.keep [(1, .ptr), (5, .any), (6, (.int .i64))] [] [] cc3))
def C23_2 : XC := (.seq (.seq (.ops (.op (some 16) .any [7] (.mov (.tmp 7)) <|
 .op (some 17) .any [1] (.faddr 2 (.tmp 1)) <|
 .op (some 18) .any [17] (.load none (.tmp 17)) <|
 .op (some 19) .any [18] (.len false (.tmp 18)) <|
 .op (some 20) .any [16, 19] (.bin .lss .none (.tmp 16) (.tmp 19)) <|
 .nil))
 (.cond (.tmp 20) .skip
 (.exit 0)))
 (.seq (.block 1 (.seq (.draw (.op (some 23) .any [1] (.faddr 2 (.tmp 1)) <|
 .op (some 24) .any [23] (.load none (.tmp 23)) <|
 .op (some 25) .any [7] (.mov (.tmp 7)) <|
 .op (some 26) .any [24, 25] (.sliceSl 1 (.tmp 24) none (some (.tmp 25)) none) <|
 .op (some 27) .any [1] (.faddr 2 (.tmp 1)) <|
 .op (some 28) .any [27] (.load none (.tmp 27)) <|
 .op (some 29) .any [7] (.mov (.tmp 7)) <|
 .op (some 30) .any [28, 29] (.iaddrS 1 (.tmp 28) (.tmp 29)) <|
 .op (some 31) .str [30] (.load none (.tmp 30)) <|
 .op (some 32) .bool [26, 31] (.call 41 [(.tmp 26), (.tmp 31)]) <|
 .nil) [0, 1, 0, 7, 0, 16, 0, 112, 240, 511])
 (.cond (.tmp 32) (.seq (.ops (.op (some 33) .any [7] (.mov (.tmp 7)) <|
 .op (some 2) .any [] (.mov (.con V.nils)) <|
 .op (some 3) .any [33] (.mov (.tmp 33)) <|
 .op (some 4) .any [] (.mov (.con (V.int .i64 (Int.ofNat 8)))) <|
 .nil))
 .ret)
 .skip)))
 (.ops (.op (some 21) .any [7] (.mov (.tmp 7)) <|
 .op (some 22) .any [21] (.bin .add .none (.tmp 21) (.con (V.int .i64 (Int.ofNat 1)))) <|
 .op (some 7) .any [22] (.mov (.tmp 22)) <|
 .nil))))
def C23_3 (cc6 : XC) (cc7 : XC) : XC := (.seq (.seq (.ops (.op (some 61) .any [6] (.mov (.tmp 6)) <|
 .op (some 62) .any [61] (.bin .geq .none (.tmp 61) (.con (V.int .i64 (Int.ofNat 0)))) <|
 .nil))
 (.cond (.tmp 62) (.seq (.ops (.op (some 63) .any [6] (.mov (.tmp 6)) <|
 .op (some 2) .any [] (.mov (.con V.nils)) <|
 .op (some 3) .any [63] (.mov (.tmp 63)) <|
 .op (some 4) .any [] (.mov (.con (V.int .i64 (Int.ofNat 9)))) <|
 .nil))
 .ret)
 .skip))
 (.seq (.seq (.ops (.op (some 11) .any [] (.mov (.con (V.int .i64 (Int.ofNat 0)))) <|
 .nil))
 (.block 4 (.loop [(1, .ptr), (5, .any), (11, (.int .i64))] [] [] cc7)))
 (.keep [(1, .ptr), (5, .any)] [] [] cc6)))
def C23_4 (cc5 : XC) : XC := (.seq (.seq (.ops (.op (some 34) .any [8] (.mov (.tmp 8)) <|
 .op (some 35) .any [1] (.faddr 2 (.tmp 1)) <|
 .op (some 36) .any [35] (.load none (.tmp 35)) <|
 .op (some 37) .any [36] (.len false (.tmp 36)) <|
 .op (some 38) .any [34, 37] (.bin .lss .none (.tmp 34) (.tmp 37)) <|
 .nil))
 (.cond (.tmp 38) .skip
 (.exit 2)))
 (.seq (.block 3 (.seq (.draw (.op (some 42) (.agg [.str, (.int .i64), .any, .any, .any]) [1] (.load (some 5) (.tmp 1)) <|
 .op (some 43) .any [1] (.faddr 3 (.tmp 1)) <|
 .op (some 44) .any [43] (.load none (.tmp 43)) <|
 .op (some 45) .any [8] (.mov (.tmp 8)) <|
 .op (some 46) .any [44, 45] (.iaddrS 1 (.tmp 44) (.tmp 45)) <|
 .op (some 47) (.int .i64) [46] (.load none (.tmp 46)) <|
 .op (some 48) (.tup [.any, .bool]) [42, 47] (.call 42 [(.tmp 42), (.tmp 47), (.con (V.int .i64 (Int.ofNat 0))), (.con V.nils)]) <|
 .op (some 41) .any [48] (.mov (.tmp 48)) <|
 .op (some 49) .any [41] (.extract 0 (.tmp 41)) <|
 .op (some 50) .any [41] (.extract 1 (.tmp 41)) <|
 .op (some 9) .any [49] (.mov (.tmp 49)) <|
 .op (some 10) .any [50] (.mov (.tmp 50)) <|
 .nil) [0, 0, 2, 0, 14, 30, 63, 127, 255, 255, 511, 2047])
 (.seq (.ops (.op (some 51) .any [5] (.mov (.tmp 5)) <|
 .op (some 52) .any [9] (.mov (.tmp 9)) <|
 .op (some 53) .any [52] (.buildSlice 24 1 [V.nils] [(0, 1, (.tmp 52))]) <|
 .op (some 54) .one [51, 53] (.append 24 1 24 (.tmp 51) (.tmp 53)) <|
 .op (some 5) .any [54] (.mov (.tmp 54)) <|
 .nil))
 (.seq (.ops (.op (some 55) .any [10] (.mov (.tmp 10)) <|
 .op (some 56) .any [55] (.mov (.tmp 55)) <|
 .grp 56 true (.op (some 57) .any [6, 56] (.mov (.tmp 6)) <|
 .op (some 58) .any [57, 56] (.bin .lss .none (.tmp 57) (.con (V.int .i64 (Int.ofNat 0)))) <|
 .nil) 59 [56, 58] (.tmp 56) (.tmp 58) (.con (V.bool false)) <|
 .nil))
 (.cond (.tmp 59) (.ops (.op (some 60) .any [8] (.mov (.tmp 8)) <|
 .op (some 6) .any [60] (.mov (.tmp 60)) <|
 .nil))
 .skip)))))
 (.keep [(1, .ptr), (5, .any), (6, (.int .i64)), (8, (.int .i64))] [] [] cc5)))
def C23_5 : XC := (.ops (.op (some 39) .any [8] (.mov (.tmp 8)) <|
 .op (some 40) .any [39] (.bin .add .none (.tmp 39) (.con (V.int .i64 (Int.ofNat 1)))) <|
 .op (some 8) .any [40] (.mov (.tmp 40)) <|
 .nil))
def C23_6 (cc8 : XC) (cc9 : XC) : XC := (.seq (.ops (.op (some 12) .any [] (.mov (.con V.nils)) <|
 .nil))
 (.seq (.block 6 (.loop [(1, .ptr), (5, .any), (12, .any)] [] [] cc9))
 (.keep [(12, .any)] [] [] cc8)))
def C23_7 : XC := (.seq (.seq (.ops (.op (some 64) .any [11] (.mov (.tmp 11)) <|
 .op (some 65) .any [1] (.faddr 2 (.tmp 1)) <|
 .op (some 66) .any [65] (.load none (.tmp 65)) <|
 .op (some 67) .any [66] (.len false (.tmp 66)) <|
 .op (some 68) .any [64, 67] (.bin .lss .none (.tmp 64) (.tmp 67)) <|
 .nil))
 (.cond (.tmp 68) .skip
 (.exit 4)))
 (.seq (.block 5 (.seq (.ops (.op (some 71) .any [5] (.mov (.tmp 5)) <|
 .op (some 72) .any [11] (.mov (.tmp 11)) <|
 .op (some 73) .any [11] (.mov (.tmp 11)) <|
 .op (some 74) .bool [71, 72, 73] (.call 43 [(.tmp 71), (.tmp 72), (.tmp 73)]) <|
 .nil))
 (.cond (.tmp 74) (.seq (.ops (.op (some 75) .any [11] (.mov (.tmp 11)) <|
 .op (some 2) .any [] (.mov (.con V.nils)) <|
 .op (some 3) .any [75] (.mov (.tmp 75)) <|
 .op (some 4) .any [] (.mov (.con (V.int .i64 (Int.ofNat 10)))) <|
 .nil))
 .ret)
 .skip)))
 (.ops (.op (some 69) .any [11] (.mov (.tmp 11)) <|
 .op (some 70) .any [69] (.bin .add .none (.tmp 69) (.con (V.int .i64 (Int.ofNat 1)))) <|
 .op (some 11) .any [70] (.mov (.tmp 70)) <|
 .nil))))
def C23_8 : XC := (.seq (.ops (.op (some 119) .any [12] (.mov (.tmp 12)) <|
 .op (some 2) .any [119] (.mov (.tmp 119)) <|
 .op (some 3) .any [] (.mov (.con (V.int .i64 (Int.ofNat 0)))) <|
 .op (some 4) .any [] (.mov (.con (V.int .i64 (Int.ofNat 0)))) <|
 .nil))
 .ret)
def C23_9 (cc10 : XC) : XC := (.seq (.seq (.ops (.op (some 76) .any [12] (.mov (.tmp 12)) <|
 .op (some 77) .any [76] (.len false (.tmp 76)) <|
 .op (some 78) .any [1] (.faddr 2 (.tmp 1)) <|
 .op (some 79) .any [78] (.load none (.tmp 78)) <|
 .op (some 80) .any [79] (.len false (.tmp 79)) <|
 .op (some 81) .any [77, 80] (.bin .lss .none (.tmp 77) (.tmp 80)) <|
 .nil))
 (.cond (.tmp 81) .skip
 (.exit 6)))
 (.block 7 (.seq (.ops (.op (some 13) .any [] (.mov (.con (V.int .i64 (Int.ofNat 0)))) <|
 .nil))
 (.block 8 (.loop [(1, .ptr), (5, .any), (12, .any), (13, (.int .i64))] [] [] cc10)))))
def C23_10 (cc11 : XC) (cc12 : XC) (cc13 : XC) : XC := (.seq (.seq (.ops (.op (some 82) .any [13] (.mov (.tmp 13)) <|
 .op (some 83) .any [1] (.faddr 2 (.tmp 1)) <|
 .op (some 84) .any [83] (.load none (.tmp 83)) <|
 .op (some 85) .any [84] (.len false (.tmp 84)) <|
 .op (some 86) .any [82, 85] (.bin .lss .none (.tmp 82) (.tmp 85)) <|
 .nil))
 (.cond (.tmp 86) .skip
 (.exit 8)))
 (.seq (.block 9 (.seq (.ops (.op (some 89) .any [12] (.mov (.tmp 12)) <|
 .op (some 90) .any [13] (.mov (.tmp 13)) <|
 .op (some 91) .bool [89, 90] (.call 44 [(.tmp 89), (.tmp 90)]) <|
 .op (some 92) .any [91] (.un .not (.tmp 91)) <|
 .op (some 14) .any [92] (.mov (.tmp 92)) <|
 .nil))
 (.seq (.seq (.ops (.op (some 15) .any [] (.mov (.con (V.int .i64 (Int.ofNat 0)))) <|
 .nil))
 (.block 10 (.loop [(1, .ptr), (5, .any), (12, .any), (13, (.int .i64)), (14, .bool), (15, (.int .i64))] [] [] cc13)))
 (.keep [(1, .ptr), (5, .any), (12, .any), (13, (.int .i64)), (14, .bool)] [] [] cc12))))
 (.keep [(1, .ptr), (5, .any), (12, .any), (13, (.int .i64))] [] [] cc11)))
def C23_11 : XC := (.ops (.op (some 87) .any [13] (.mov (.tmp 13)) <|
 .op (some 88) .any [87] (.bin .add .none (.tmp 87) (.con (V.int .i64 (Int.ofNat 1)))) <|
 .op (some 13) .any [88] (.mov (.tmp 88)) <|
 .nil))
def C23_12 : XC := (.seq (.ops (.op (some 114) .any [14] (.mov (.tmp 14)) <|
 .nil))
 (.cond (.tmp 114) (.seq (.ops (.op (some 115) .any [12] (.mov (.tmp 12)) <|
 .op (some 116) .any [13] (.mov (.tmp 13)) <|
 .op (some 117) .any [116] (.buildSlice 3 1 [(V.int .i64 (Int.ofNat 0))] [(0, 1, (.tmp 116))]) <|
 .op (some 118) .one [115, 117] (.append 3 1 8 (.tmp 115) (.tmp 117)) <|
 .op (some 12) .any [118] (.mov (.tmp 118)) <|
 .nil))
 (.exit 8))
 .skip))
def C23_13 : XC := (.seq (.seq (.ops (.op (some 93) .any [15] (.mov (.tmp 15)) <|
 .op (some 94) .any [5] (.mov (.tmp 5)) <|
 .op (some 95) .any [13] (.mov (.tmp 13)) <|
 .op (some 96) .any [94, 95] (.iaddrS 1 (.tmp 94) (.tmp 95)) <|
 .op (some 97) .any [96] (.load none (.tmp 96)) <|
 .op (some 98) .any [97] (.len false (.tmp 97)) <|
 .op (some 99) .any [93, 98] (.bin .lss .none (.tmp 93) (.tmp 98)) <|
 .nil))
 (.cond (.tmp 99) .skip
 (.exit 10)))
 (.seq (.block 11 (.ops (.op (some 102) .any [14] (.mov (.tmp 14)) <|
 .op (some 103) .any [102] (.mov (.tmp 102)) <|
 .grp 103 true (.op (some 104) .any [12, 103] (.mov (.tmp 12)) <|
 .op (some 105) .any [5, 103] (.mov (.tmp 5)) <|
 .op (some 106) .any [13, 103] (.mov (.tmp 13)) <|
 .op (some 107) .any [105, 106, 103] (.iaddrS 1 (.tmp 105) (.tmp 106)) <|
 .op (some 108) .any [107, 103] (.load none (.tmp 107)) <|
 .op (some 109) .any [15, 103] (.mov (.tmp 15)) <|
 .op (some 110) .any [108, 109, 103] (.iaddrS 1 (.tmp 108) (.tmp 109)) <|
 .op (some 111) (.int .i64) [110, 103] (.load none (.tmp 110)) <|
 .op (some 112) .bool [104, 111, 103] (.call 44 [(.tmp 104), (.tmp 111)]) <|
 .nil) 113 [103, 112] (.tmp 103) (.tmp 112) (.con (V.bool false)) <|
 .op (some 14) .any [113] (.mov (.tmp 113)) <|
 .nil)))
 (.ops (.op (some 100) .any [15] (.mov (.tmp 15)) <|
 .op (some 101) .any [100] (.bin .add .none (.tmp 100) (.con (V.int .i64 (Int.ofNat 1)))) <|
 .op (some 15) .any [101] (.mov (.tmp 101)) <|
 .nil))))
def A23 : XFn := ⟨120, [(.agg [.str, (.int .i64), .any, .any, .any])], [(.tmp 2), (.tmp 3), (.tmp 4)], (C23_0 (C23_1 (C23_3 (C23_6 C23_8 (C23_9 (C23_10 C23_11 C23_12 C23_13))) C23_7) (C23_4 C23_5)) C23_2)⟩
def G24_0 : List AOper := [⟨(some 26), .mov (.tmp 0), none⟩, ⟨(some 27), .mov (.tmp 0), none⟩, ⟨(some 28), .nilck (.tmp 27), none⟩, ⟨(some 29), .faddr 0 (.tmp 28), none⟩, ⟨(some 30), .faddr 3 (.tmp 29), none⟩, ⟨(some 31), .load none (.tmp 30), none⟩, ⟨(some 32), .mov (.tmp 0), none⟩, ⟨(some 33), .nilck (.tmp 32), none⟩, ⟨(some 34), .faddr 0 (.tmp 33), none⟩, ⟨(some 35), .load (some 5) (.tmp 34), none⟩, ⟨(some 36), .faddr 1 (.tmp 7), none⟩, ⟨(some 37), .load none (.tmp 36), none⟩, ⟨(some 38), .call 45 [(.tmp 35), (.tmp 37)], none⟩, ⟨(some 39), .iaddrS 1 (.tmp 31) (.tmp 38), none⟩, ⟨(some 40), .load none (.tmp 39), none⟩, ⟨(some 41), .mov (.tmp 2), none⟩, ⟨(some 42), .call 24 [(.tmp 26), (.tmp 40), (.tmp 41)], none⟩, ⟨(some 8), .mov (.tmp 42), none⟩]
def H24_0 : List DP := [⟨0, [0]⟩, ⟨0, [0]⟩, ⟨2, [27]⟩, ⟨6, [28]⟩, ⟨14, [29]⟩, ⟨30, [30]⟩, ⟨0, [0]⟩, ⟨64, [32]⟩, ⟨192, [33]⟩, ⟨448, [34]⟩, ⟨0, [7]⟩, ⟨1024, [36]⟩, ⟨4032, [35, 37]⟩, ⟨8190, [31, 38]⟩, ⟨16382, [39]⟩, ⟨0, [2]⟩, ⟨65535, [26, 40, 41]⟩, ⟨131071, [42]⟩]
def C24_0 (cc1 : XC) : XC := (.seq (.ops (.op (some 6) .any [] (.mov (.con (V.int .i64 (Int.ofNat 0)))) <|
 .nil))
 (.seq (.seq (.ops (.op (some 10) .any [0] (.mov (.tmp 0)) <|
 .op (some 11) .any [10] (.nilck (.tmp 10)) <|
 .op (some 12) .any [11] (.faddr 6 (.tmp 11)) <|
 .op (some 13) (.int .i64) [12] (.load none (.tmp 12)) <|
 .op (some 14) .any [13] (.bin .neq .none (.tmp 13) (.con (V.int .i64 (Int.ofNat 0)))) <|
 .nil))
 (.cond (.tmp 14) (.seq (.ops (.op (some 6) .any [] (.mov (.con (V.int .i64 (Int.ofNat 0)))) <|
 .nil))
 .ret)
 .skip))
 (.seq (.ops (.op (some 15) .any [0] (.mov (.tmp 0)) <|
 .op (some 16) .any [15] (.nilck (.tmp 15)) <|
 .op (some 17) .any [16] (.faddr 0 (.tmp 16)) <|
 .op (some 18) .any [17] (.faddr 4 (.tmp 17)) <|
 .op (some 19) .any [18] (.load none (.tmp 18)) <|
 .op (some 20) .any [1] (.mov (.tmp 1)) <|
 .op (some 21) .any [19, 20] (.iaddrS 16 (.tmp 19) (.tmp 20)) <|
 .op (some 22) (.agg [(.int .i64), .str, .bool, (.int .i64), (.int .i64), .bool, .bool, .bool, .bool, (.int .i64), (.int .i64), .any, .any, (.int .i64), .bool, (.int .i64)]) [21] (.load (some 16) (.tmp 21)) <|
 .op (some 7) .any [] (.alloc 105 [(V.int .i64 (Int.ofNat 0)), (V.str ⟨0, 0⟩), (V.bool false), (V.int .i64 (Int.ofNat 0)), (V.int .i64 (Int.ofNat 0)), (V.bool false), (V.bool false), (V.bool false), (V.bool false), (V.int .i64 (Int.ofNat 0)), (V.int .i64 (Int.ofNat 0)), V.nils, V.nils, (V.int .i64 (Int.ofNat 0)), (V.bool false), (V.int .i64 (Int.ofNat 0))]) <|
 .op none (.agg [(.int .i64), .str, .bool, (.int .i64), (.int .i64), .bool, .bool, .bool, .bool, (.int .i64), (.int .i64), .any, .any, (.int .i64), .bool, (.int .i64)]) [7, 22] (.store 16 (.tmp 7) (.tmp 22)) <|
 .nil))
 (.seq (.ops (.op (some 8) .any [] (.mov (.con (V.int .i64 (Int.ofNat 0)))) <|
 .nil))
 (.seq (.seq (.ops (.op (some 23) .any [7] (.faddr 0 (.tmp 7)) <|
 .op (some 24) (.int .i64) [23] (.load none (.tmp 23)) <|
 .op (some 25) .any [24] (.bin .eql .none (.tmp 24) (.con (V.int .i64 (Int.ofNat 11)))) <|
 .nil))
 (.cond (.tmp 25) (.keep [(0, .ptr), (2, (.int .i64)), (7, .ptr)] [] [] (.gdraw G24_0 H24_0 [(0, .ptr), (7, .ptr), (8, (.int .i64))]))
 (.ops (.op (some 43) .any [0] (.mov (.tmp 0)) <|
 .op (some 44) (.agg [(.int .i64), .str, .bool, (.int .i64), (.int .i64), .bool, .bool, .bool, .bool, (.int .i64), (.int .i64), .any, .any, (.int .i64), .bool, (.int .i64)]) [7] (.load (some 16) (.tmp 7)) <|
 .op (some 45) .any [2] (.mov (.tmp 2)) <|
 .op (some 46) (.int .i64) [43, 44, 45] (.call 46 [(.tmp 43), (.tmp 44), (.tmp 45)]) <|
 .op (some 8) .any [46] (.mov (.tmp 46)) <|
 .nil))))
 (.keep [(0, .ptr), (7, .ptr), (8, (.int .i64))] [] [] cc1))))))
def C24_1 (cc2 : XC) (cc3 : XC) : XC := (.seq (.seq (.ops (.op (some 47) .any [0] (.mov (.tmp 0)) <|
 .op (some 48) .any [47] (.nilck (.tmp 47)) <|
 .op (some 49) .any [48] (.faddr 6 (.tmp 48)) <|
 .op (some 50) (.int .i64) [49] (.load none (.tmp 49)) <|
 .op (some 51) .any [50] (.bin .eql .none (.tmp 50) (.con (V.int .i64 (Int.ofNat 0)))) <|
 .op (some 52) .any [51] (.mov (.tmp 51)) <|
 .grp 52 true (.op (some 53) .any [7, 52] (.faddr 2 (.tmp 7)) <|
 .op (some 54) .any [53, 52] (.faddr 0 (.tmp 53)) <|
 .op (some 55) .bool [54, 52] (.load none (.tmp 54)) <|
 .nil) 56 [52, 55] (.tmp 52) (.tmp 55) (.con (V.bool false)) <|
 .nil))
 (.cond (.tmp 56) (.seq (.ops (.op (some 9) .any [] (.mov (.con (V.int .i64 (Int.ofNat 0)))) <|
 .nil))
 (.seq (.block 0 (.seq (.ops (.op (some 58) .any [7] (.faddr 2 (.tmp 7)) <|
 .op (some 59) .any [58] (.faddr 2 (.tmp 58)) <|
 .op (some 60) (.int .i64) [59] (.load none (.tmp 59)) <|
 .op (some 61) .any [60] (.bin .eql .none (.tmp 60) (.con (V.int .i64 (Int.ofNat 2)))) <|
 .op (some 57) .any [61] (.mov (.tmp 61)) <|
 .nil))
 (.cond (.tmp 57) (.ops (.op (some 9) .any [] (.mov (.con (V.int .i64 (Int.ofNat 1)))) <|
 .nil))
 (.seq (.ops (.op (some 63) .any [7] (.faddr 2 (.tmp 7)) <|
 .op (some 64) .any [63] (.faddr 2 (.tmp 63)) <|
 .op (some 65) (.int .i64) [64] (.load none (.tmp 64)) <|
 .op (some 66) .any [65] (.bin .eql .none (.tmp 65) (.con (V.int .i64 (Int.ofNat 0)))) <|
 .op (some 67) .any [66] (.mov (.tmp 66)) <|
 .grp 67 true (.op (some 68) .any [0, 67] (.mov (.tmp 0)) <|
 .op (some 69) .any [68, 67] (.nilck (.tmp 68)) <|
 .op (some 70) .any [69, 67] (.faddr 0 (.tmp 69)) <|
 .op (some 71) .any [70, 67] (.faddr 1 (.tmp 70)) <|
 .op (some 72) (.int .i64) [71, 67] (.load none (.tmp 71)) <|
 .op (some 73) .any [72, 67] (.bin .neq .none (.tmp 72) (.con (V.int .i64 (Int.ofNat 0)))) <|
 .nil) 74 [67, 73] (.tmp 67) (.tmp 73) (.con (V.bool false)) <|
 .op (some 62) .any [74] (.mov (.tmp 74)) <|
 .nil))
 (.cond (.tmp 62) (.ops (.op (some 75) .any [0] (.mov (.tmp 0)) <|
 .op (some 76) .any [8] (.mov (.tmp 8)) <|
 .op (some 77) (.int .i64) [75, 76] (.call 47 [(.tmp 75), (.tmp 76)]) <|
 .op (some 9) .any [77] (.mov (.tmp 77)) <|
 .nil))
 .skip)))))
 (.keep [(0, .ptr), (7, .ptr), (8, (.int .i64)), (9, (.int .i64))] [] [] cc3)))
 .skip))
 (.keep [(8, (.int .i64))] [] [] cc2))
def C24_2 : XC := (.seq (.ops (.op (some 85) .any [8] (.mov (.tmp 8)) <|
 .op (some 6) .any [85] (.mov (.tmp 85)) <|
 .nil))
 .ret)
def C24_3 : XC := (.ops (.op (some 78) .any [0] (.mov (.tmp 0)) <|
 .op (some 79) .any [8] (.mov (.tmp 8)) <|
 .op (some 80) .any [7] (.faddr 2 (.tmp 7)) <|
 .op (some 81) .any [80] (.faddr 1 (.tmp 80)) <|
 .op (some 82) (.int .i64) [81] (.load none (.tmp 81)) <|
 .op (some 83) .any [9] (.mov (.tmp 9)) <|
 .op (some 84) (.tup []) [78, 79, 82, 83] (.call 48 [(.tmp 78), (.tmp 79), (.tmp 82), (.tmp 83)]) <|
 .nil))
def A24 : XFn := ⟨86, [.ptr, (.int .i64), (.int .i64)], [(.tmp 6)], (C24_0 (C24_1 C24_2 C24_3))⟩
/-! ### F25: ogham_der.Encode -/
def Fin25 (E : List (Nat × Blk)) : St → Ans := fun s => resK E s [(.tmp 6), (.tmp 7)] fun l => some (oneV l, s.σ)
def C25_0 : XC := (.seq (.ops (.op (some 3) .any [0] (.box 27 (.tmp 0)) <|
 .op (some 5) .any [2] (.box 35 (.tmp 2)) <|
 .op (some 6) .any [] (.mov (.con V.nils)) <|
 .op (some 7) .any [] (.mov (.con (V.int .i64 (Int.ofNat 0)))) <|
 .nil))
 (.seq (.block 0 (.seq (.ops (.op (some 11) (.agg [.str, .any, .any, .any]) [3] (.load (some 4) (.tmp 3)) <|
 .op (some 12) .any [1] (.mov (.tmp 1)) <|
 .op (some 13) (.agg [(.int .i64), (.int .i64), .any, .any, (.int .i64), .any]) [5] (.load (some 6) (.tmp 5)) <|
 .op (some 14) .bool [11, 12, 13] (.call 49 [(.tmp 11), (.tmp 12), (.tmp 13)]) <|
 .op (some 15) .any [14] (.un .not (.tmp 14)) <|
 .op (some 10) .any [15] (.mov (.tmp 15)) <|
 .nil))
 (.cond (.tmp 10) (.seq (.ops (.op (some 6) .any [] (.mov (.con V.nils)) <|
 .op (some 7) .any [] (.mov (.con (V.int .i64 (Int.ofNat 13)))) <|
 .nil))
 .ret)
 (.seq (.ops (.op (some 17) (.agg [(.int .i64), (.int .i64), .any, .any, (.int .i64), .any]) [5] (.load (some 6) (.tmp 5)) <|
 .op (some 18) .bool [17] (.call 50 [(.tmp 17), (.con (V.int .i64 (Int.ofNat 1)))]) <|
 .op (some 19) .any [18] (.un .not (.tmp 18)) <|
 .op (some 16) .any [19] (.mov (.tmp 19)) <|
 .nil))
 (.cond (.tmp 16) (.seq (.ops (.op (some 6) .any [] (.mov (.con V.nils)) <|
 .op (some 7) .any [] (.mov (.con (V.int .i64 (Int.ofNat 16)))) <|
 .nil))
 .ret)
 .skip)))))
 (.seq (.ops (.op (some 20) (.agg [.str, .any, .any, .any]) [3] (.load (some 4) (.tmp 3)) <|
 .op (some 21) (.agg [.str, .any, .any, .any]) [20] (.build [(V.str ⟨0, 0⟩), V.nils, V.nils, V.nils] [(0, 4, (.tmp 20))]) <|
 .op (some 22) .any [21] (.box 121 (.tmp 21)) <|
 .op (some 8) .any [22] (.mov (.tmp 22)) <|
 .nil))
 (.seq (.ops (.op (some 23) .any [8] (.mov (.tmp 8)) <|
 .op (some 24) .any [1] (.mov (.tmp 1)) <|
 .op (some 25) (.agg [(.int .i64), (.int .i64), .any, .any, (.int .i64), .any]) [5] (.load (some 6) (.tmp 5)) <|
 .op (some 26) .one [23, 24, 25] (.call 51 [(.tmp 23), (.tmp 24), (.tmp 25)]) <|
 .op (some 9) .any [26] (.mov (.tmp 26)) <|
 .nil))
 (.seq (.seq (.ops (.op (some 27) .any [9] (.mov (.tmp 9)) <|
 .op (some 28) .any [27] (.len false (.tmp 27)) <|
 .op (some 29) .any [28] (.bin .gtr .none (.tmp 28) (.con (V.int .i64 (Int.ofNat 70000)))) <|
 .nil))
 (.cond (.tmp 29) (.seq (.ops (.op (some 6) .any [] (.mov (.con V.nils)) <|
 .op (some 7) .any [] (.mov (.con (V.int .i64 (Int.ofNat 5)))) <|
 .nil))
 .ret)
 .skip))
 (.seq (.ops (.op (some 30) .any [9] (.mov (.tmp 9)) <|
 .op (some 6) .any [30] (.mov (.tmp 30)) <|
 .op (some 7) .any [] (.mov (.con (V.int .i64 (Int.ofNat 0)))) <|
 .nil))
 .ret))))))
def T25_0 (E : List (Nat × Blk)) (D : Den) (W : DrawFn) (v0_0 : BS) (v0_1 : V) (v0_2 : V) (v0_3 : V) (v1 : Int) (v2_0 : Int) (v2_1 : Int) (v2_2 : V) (v2_3 : V) (v2_4 : Int) (v2_5 : V) (σ : H) : Ans :=
 chk (allOne (V.cells (V.agg [(V.str v0_0), v0_1, v0_2, v0_3]))) (
 let s1 := newB σ (.cells (V.cells (V.agg [(V.str v0_0), v0_1, v0_2, v0_3])));
 chk (allOne (V.cells (V.agg [(V.int .i64 v2_0), (V.int .i64 v2_1), v2_2, v2_3, (V.int .i64 v2_4), v2_5]))) (
 let s2 := newB s1 (.cells (V.cells (V.agg [(V.int .i64 v2_0), (V.int .i64 v2_1), v2_2, v2_3, (V.int .i64 v2_4), v2_5])));
 ldnK E s2 (H.next σ) 0 4 fun l3 =>
 rtCons l3 fun x4 l5 =>
 rtStr x4 fun x6 =>
 rtCons l5 fun x7 l8 =>
 rtCons l8 fun x9 l10 =>
 rtCons l10 fun x11 l12 =>
 rtNil l12 (
 ldnK E s2 (H.next s1) 0 6 fun l13 =>
 rtCons l13 fun x14 l15 =>
 rtInt .i64 x14 fun x16 =>
 rtCons l15 fun x17 l18 =>
 rtInt .i64 x17 fun x19 =>
 rtCons l18 fun x20 l21 =>
 rtCons l21 fun x22 l23 =>
 rtCons l23 fun x24 l25 =>
 rtInt .i64 x24 fun x26 =>
 rtCons l25 fun x27 l28 =>
 rtNil l28 (
 callK (D 49 [(V.agg [(V.str x6), x7, x9, x11]), (V.int .i64 v1), (V.agg [(V.int .i64 x16), (V.int .i64 x19), x20, x22, (V.int .i64 x26), x27])] s2) fun u29 s30 =>
 rtBool u29 fun x31 =>
 condK (not x31) (
 some ((V.tup [V.nils, (V.int .i64 (Int.ofNat 13))]), s30)) (
 ldnK E s30 (H.next s1) 0 6 fun l32 =>
 rtCons l32 fun x33 l34 =>
 rtInt .i64 x33 fun x35 =>
 rtCons l34 fun x36 l37 =>
 rtInt .i64 x36 fun x38 =>
 rtCons l37 fun x39 l40 =>
 rtCons l40 fun x41 l42 =>
 rtCons l42 fun x43 l44 =>
 rtInt .i64 x43 fun x45 =>
 rtCons l44 fun x46 l47 =>
 rtNil l47 (
 callK (D 50 [(V.agg [(V.int .i64 x35), (V.int .i64 x38), x39, x41, (V.int .i64 x45), x46]), (V.int .i64 (Int.ofNat 1))] s30) fun u48 s49 =>
 rtBool u48 fun x50 =>
 condK (not x50) (
 some ((V.tup [V.nils, (V.int .i64 (Int.ofNat 16))]), s49)) (
 ldnK E s49 (H.next σ) 0 4 fun l51 =>
 rtCons l51 fun x52 l53 =>
 rtStr x52 fun x54 =>
 rtCons l53 fun x55 l56 =>
 rtCons l56 fun x57 l58 =>
 rtCons l58 fun x59 l60 =>
 rtNil l60 (
 chk (allOne (V.cells (V.agg [(V.str x54), x55, x57, x59]))) (
 let s61 := newB s49 (.cells (V.cells (V.agg [(V.str x54), x55, x57, x59])));
 ldnK E s61 (H.next s1) 0 6 fun l62 =>
 rtCons l62 fun x63 l64 =>
 rtInt .i64 x63 fun x65 =>
 rtCons l64 fun x66 l67 =>
 rtInt .i64 x66 fun x68 =>
 rtCons l67 fun x69 l70 =>
 rtCons l70 fun x71 l72 =>
 rtCons l72 fun x73 l74 =>
 rtInt .i64 x73 fun x75 =>
 rtCons l74 fun x76 l77 =>
 rtNil l77 (
 callK (D 51 [(V.ptr (H.next s49) 0), (V.int .i64 v1), (V.agg [(V.int .i64 x65), (V.int .i64 x68), x69, x71, (V.int .i64 x75), x76])] s61) fun u78 s79 =>
 rtOne u78 (
 slenK u78 fun n80 =>
 condK (ltF (Int.ofNat 70000) (Int.ofNat n80)) (
 some ((V.tup [V.nils, (V.int .i64 (Int.ofNat 5))]), s79)) (
 some ((V.tup [u78, (V.int .i64 (Int.ofNat 0))]), s79)))))))))))))
theorem P25_0 (E : List (Nat × Blk)) (D : Den) (W : DrawFn) (N : Nat) (v0_0 : BS) (v0_1 : V) (v0_2 : V) (v0_3 : V) (v1 : Int) (v2_0 : Int) (v2_1 : Int) (v2_2 : V) (v2_3 : V) (v2_4 : Int) (v2_5 : V) (σ : H) :
  denC E D W N (C25_0 ) ⟨[(0, (V.agg [(V.str v0_0), v0_1, v0_2, v0_3])), (1, (V.int .i64 v1)), (2, (V.agg [(V.int .i64 v2_0), (V.int .i64 v2_1), v2_2, v2_3, (V.int .i64 v2_4), v2_5]))], [], [], σ⟩ (Fin25 E) (fun _ _ => none) (Fin25 E) =
  T25_0 E D W  v0_0 v0_1 v0_2 v0_3 v1 v2_0 v2_1 v2_2 v2_3 v2_4 v2_5 σ := by kernel_rfl
def J25_0 (E : List (Nat × Blk)) (D : Den) (W : DrawFn) (N : Nat) : BS → V → V → V → Int → Int → Int → V → V → Int → V → H → Ans := T25_0 E D W 
theorem JE25_0 (E : List (Nat × Blk)) (D : Den) (W : DrawFn) (N : Nat) (v0_0 : BS) (v0_1 : V) (v0_2 : V) (v0_3 : V) (v1 : Int) (v2_0 : Int) (v2_1 : Int) (v2_2 : V) (v2_3 : V) (v2_4 : Int) (v2_5 : V) (σ : H) :
  denC E D W N C25_0 ⟨[(0, (V.agg [(V.str v0_0), v0_1, v0_2, v0_3])), (1, (V.int .i64 v1)), (2, (V.agg [(V.int .i64 v2_0), (V.int .i64 v2_1), v2_2, v2_3, (V.int .i64 v2_4), v2_5]))], [], [], σ⟩ (Fin25 E) (fun _ _ => none) (Fin25 E) = J25_0 E D W N v0_0 v0_1 v0_2 v0_3 v1 v2_0 v2_1 v2_2 v2_3 v2_4 v2_5 σ := by
  refine (P25_0 E D W N   v0_0 v0_1 v0_2 v0_3 v1 v2_0 v2_1 v2_2 v2_3 v2_4 v2_5 σ).trans ?_
  kernel_rfl
def F25 (E : List (Nat × Blk)) (D : Den) (W : DrawFn) (N : Nat) (args : List V) (σ : H) : Ans :=
 rtCons args fun x1 l2 =>
 rtAgg x1 fun l3 =>
 rtCons l3 fun x4 l5 =>
 rtStr x4 fun x6 =>
 rtCons l5 fun x7 l8 =>
 rtCons l8 fun x9 l10 =>
 rtCons l10 fun x11 l12 =>
 rtNil l12 (
 rtCons l2 fun x13 l14 =>
 rtInt .i64 x13 fun x15 =>
 rtCons l14 fun x16 l17 =>
 rtAgg x16 fun l18 =>
 rtCons l18 fun x19 l20 =>
 rtInt .i64 x19 fun x21 =>
 rtCons l20 fun x22 l23 =>
 rtInt .i64 x22 fun x24 =>
 rtCons l23 fun x25 l26 =>
 rtCons l26 fun x27 l28 =>
 rtCons l28 fun x29 l30 =>
 rtInt .i64 x29 fun x31 =>
 rtCons l30 fun x32 l33 =>
 rtNil l33 (
 rtNil l17 (
 J25_0 E D W N x6 x7 x9 x11 x15 x21 x24 x25 x27 x31 x32 σ)))
def A25 : XFn := ⟨31, [(.agg [.str, .any, .any, .any]), (.int .i64), (.agg [(.int .i64), (.int .i64), .any, .any, (.int .i64), .any])], [(.tmp 6), (.tmp 7)], C25_0⟩
theorem FE25 (E : List (Nat × Blk)) (D : Den) (W : DrawFn) (N : Nat) (args : List V) (σ : H) : runX E D W N A25 args σ = F25 E D W N args σ := by
  unfold F25
  simp only [← JE25_0]
  kernel_rfl
theorem AO25 : A25.body.ok = true := by kernel_rfl

/-! ### F26: ogham_derin.Decode -/
def Fin26 (E : List (Nat × Blk)) : St → Ans := fun s => resK E s [(.cell 6 (some 6)), (.tmp 7)] fun l => some (oneV l, s.σ)
def C26_0 : XC := (.seq (.ops (.op (some 3) .any [0] (.box 27 (.tmp 0)) <|
 .pal 6 [] 35 [(V.int .i64 (Int.ofNat 0)), (V.int .i64 (Int.ofNat 0)), V.nils, V.nils, (V.int .i64 (Int.ofNat 0)), V.nils] <|
 .op (some 7) .any [] (.mov (.con (V.int .i64 (Int.ofNat 0)))) <|
 .nil))
 (.seq (.block 0 (.seq (.ops (.op (some 13) .any [1] (.mov (.tmp 1)) <|
 .op (some 14) .any [13] (.bin .lss .none (.tmp 13) (.con (V.int .i64 (Int.ofNat 0)))) <|
 .op (some 15) .any [14] (.mov (.tmp 14)) <|
 .grp 15 false (.op (some 16) .any [1, 15] (.mov (.tmp 1)) <|
 .op (some 17) .any [3, 15] (.faddr 3 (.tmp 3)) <|
 .op (some 18) .any [17, 15] (.load none (.tmp 17)) <|
 .op (some 19) .any [18, 15] (.len false (.tmp 18)) <|
 .op (some 20) .any [16, 19, 15] (.bin .geq .none (.tmp 16) (.tmp 19)) <|
 .nil) 21 [15, 20] (.tmp 15) (.con (V.bool true)) (.tmp 20) <|
 .op (some 12) .any [21] (.mov (.tmp 21)) <|
 .nil))
 (.cond (.tmp 12) (.seq (.ops (.op (some 22) (.agg [(.int .i64), (.int .i64), .any, .any, (.int .i64), .any]) [] (.build [(V.int .i64 (Int.ofNat 0)), (V.int .i64 (Int.ofNat 0)), V.nils, V.nils, (V.int .i64 (Int.ofNat 0)), V.nils] []) <|
 .op none (.agg [(.int .i64), (.int .i64), .any, .any, (.int .i64), .any]) [6, 22] (.store 6 (.tmp 6) (.tmp 22)) <|
 .op (some 7) .any [] (.mov (.con (V.int .i64 (Int.ofNat 9)))) <|
 .nil))
 .ret)
 (.seq (.ops (.op (some 24) .any [2] (.mov (.tmp 2)) <|
 .op (some 25) .any [24] (.len false (.tmp 24)) <|
 .op (some 26) .any [25] (.bin .gtr .none (.tmp 25) (.con (V.int .i64 (Int.ofNat 70000)))) <|
 .op (some 23) .any [26] (.mov (.tmp 26)) <|
 .nil))
 (.cond (.tmp 23) (.seq (.ops (.op (some 27) (.agg [(.int .i64), (.int .i64), .any, .any, (.int .i64), .any]) [] (.build [(V.int .i64 (Int.ofNat 0)), (V.int .i64 (Int.ofNat 0)), V.nils, V.nils, (V.int .i64 (Int.ofNat 0)), V.nils] []) <|
 .op none (.agg [(.int .i64), (.int .i64), .any, .any, (.int .i64), .any]) [6, 27] (.store 6 (.tmp 6) (.tmp 27)) <|
 .op (some 7) .any [] (.mov (.con (V.int .i64 (Int.ofNat 5)))) <|
 .nil))
 .ret)
 .skip)))))
 (.seq (.ops (.op (some 28) (.agg [.str, .any, .any, .any]) [3] (.load (some 4) (.tmp 3)) <|
 .op (some 29) (.agg [.bool, .str, .any, .any, .any]) [28] (.build [(V.bool false), (V.str ⟨0, 0⟩), V.nils, V.nils, V.nils] [(1, 4, (.tmp 28))]) <|
 .op (some 30) .any [29] (.box 127 (.tmp 29)) <|
 .op (some 8) .any [30] (.mov (.tmp 30)) <|
 .nil))
 (.seq (.ops (.op (some 31) .any [8] (.mov (.tmp 8)) <|
 .op (some 32) .any [1] (.mov (.tmp 1)) <|
 .op (some 33) .any [2] (.mov (.tmp 2)) <|
 .op (some 34) (.agg [(.int .i64), (.int .i64), .any, .any, (.int .i64), .any]) [31, 32, 33] (.call 52 [(.tmp 31), (.tmp 32), (.tmp 33), (.con (V.int .i64 (Int.ofNat 1)))]) <|
 .pal 9 [] 35 [(V.int .i64 (Int.ofNat 0)), (V.int .i64 (Int.ofNat 0)), V.nils, V.nils, (V.int .i64 (Int.ofNat 0)), V.nils] <|
 .op none (.agg [(.int .i64), (.int .i64), .any, .any, (.int .i64), .any]) [9, 34] (.store 6 (.tmp 9) (.tmp 34)) <|
 .nil))
 (.seq (.seq (.ops (.op (some 35) .any [8] (.mov (.tmp 8)) <|
 .op (some 36) .any [35] (.nilck (.tmp 35)) <|
 .op (some 37) .any [36] (.faddr 0 (.tmp 36)) <|
 .op (some 38) .any [37] (.faddr 0 (.tmp 37)) <|
 .op (some 39) .bool [38] (.load none (.tmp 38)) <|
 .nil))
 (.cond (.tmp 39) (.seq (.ops (.op (some 40) (.agg [(.int .i64), (.int .i64), .any, .any, (.int .i64), .any]) [] (.build [(V.int .i64 (Int.ofNat 0)), (V.int .i64 (Int.ofNat 0)), V.nils, V.nils, (V.int .i64 (Int.ofNat 0)), V.nils] []) <|
 .op none (.agg [(.int .i64), (.int .i64), .any, .any, (.int .i64), .any]) [6, 40] (.store 6 (.tmp 6) (.tmp 40)) <|
 .op (some 7) .any [] (.mov (.con (V.int .i64 (Int.ofNat 4)))) <|
 .nil))
 .ret)
 .skip))
 (.seq (.seq (.ops (.op (some 42) (.agg [.str, .any, .any, .any]) [3] (.load (some 4) (.tmp 3)) <|
 .op (some 43) .any [1] (.mov (.tmp 1)) <|
 .op (some 44) (.agg [(.int .i64), (.int .i64), .any, .any, (.int .i64), .any]) [9] (.load (some 6) (.tmp 9)) <|
 .op (some 45) (.tup [.any, (.int .i64)]) [42, 43, 44] (.call 25 [(.tmp 42), (.tmp 43), (.tmp 44)]) <|
 .op (some 41) .any [45] (.mov (.tmp 45)) <|
 .op (some 46) .any [41] (.extract 0 (.tmp 41)) <|
 .op (some 47) .any [41] (.extract 1 (.tmp 41)) <|
 .op (some 10) .any [46] (.mov (.tmp 46)) <|
 .op (some 11) .any [47] (.mov (.tmp 47)) <|
 .nil))
 (.seq (.ops (.op (some 48) .any [11] (.mov (.tmp 11)) <|
 .op (some 49) .any [48] (.bin .neq .none (.tmp 48) (.con (V.int .i64 (Int.ofNat 0)))) <|
 .op (some 50) .any [49] (.mov (.tmp 49)) <|
 .grp 50 false (.op (some 51) .any [10, 50] (.mov (.tmp 10)) <|
 .op (some 52) .any [2, 50] (.mov (.tmp 2)) <|
 .op (some 53) .bool [51, 52, 50] (.call 53 [(.tmp 51), (.tmp 52)]) <|
 .op (some 54) .any [53, 50] (.un .not (.tmp 53)) <|
 .nil) 55 [50, 54] (.tmp 50) (.con (V.bool true)) (.tmp 54) <|
 .nil))
 (.cond (.tmp 55) (.seq (.ops (.op (some 56) (.agg [(.int .i64), (.int .i64), .any, .any, (.int .i64), .any]) [] (.build [(V.int .i64 (Int.ofNat 0)), (V.int .i64 (Int.ofNat 0)), V.nils, V.nils, (V.int .i64 (Int.ofNat 0)), V.nils] []) <|
 .op none (.agg [(.int .i64), (.int .i64), .any, .any, (.int .i64), .any]) [6, 56] (.store 6 (.tmp 6) (.tmp 56)) <|
 .op (some 7) .any [] (.mov (.con (V.int .i64 (Int.ofNat 4)))) <|
 .nil))
 .ret)
 .skip)))
 (.seq (.ops (.op (some 57) (.agg [(.int .i64), (.int .i64), .any, .any, (.int .i64), .any]) [9] (.load (some 6) (.tmp 9)) <|
 .op none (.agg [(.int .i64), (.int .i64), .any, .any, (.int .i64), .any]) [6, 57] (.store 6 (.tmp 6) (.tmp 57)) <|
 .op (some 7) .any [] (.mov (.con (V.int .i64 (Int.ofNat 0)))) <|
 .nil))
 .ret)))))))
def T26_0 (E : List (Nat × Blk)) (D : Den) (W : DrawFn) (v0_0 : BS) (v0_1 : V) (v0_2 : V) (v0_3 : V) (v1 : Int) (v2 : V) (σ : H) : Ans :=
 chk (allOne (V.cells (V.agg [(V.str v0_0), v0_1, v0_2, v0_3]))) (
 let s1 := newB σ (.cells (V.cells (V.agg [(V.str v0_0), v0_1, v0_2, v0_3])));
 joinB (fun c2 s3 =>
 condK c2 (
 some ((V.tup [(V.agg [(V.int .i64 (Int.ofNat 0)), (V.int .i64 (Int.ofNat 0)), V.nils, V.nils, (V.int .i64 (Int.ofNat 0)), V.nils]), (V.int .i64 (Int.ofNat 9))]), s3)) (
 slenK v2 fun n5 =>
 condK (ltF (Int.ofNat 70000) (Int.ofNat n5)) (
 some ((V.tup [(V.agg [(V.int .i64 (Int.ofNat 0)), (V.int .i64 (Int.ofNat 0)), V.nils, V.nils, (V.int .i64 (Int.ofNat 0)), V.nils]), (V.int .i64 (Int.ofNat 5))]), s3)) (
 ldnK E s3 (H.next σ) 0 4 fun l6 =>
 rtCons l6 fun x7 l8 =>
 rtStr x7 fun x9 =>
 rtCons l8 fun x10 l11 =>
 rtCons l11 fun x12 l13 =>
 rtCons l13 fun x14 l15 =>
 rtNil l15 (
 chk (allOne (V.cells (V.agg [(V.bool false), (V.str x9), x10, x12, x14]))) (
 let s16 := newB s3 (.cells (V.cells (V.agg [(V.bool false), (V.str x9), x10, x12, x14])));
 callK (D 52 [(V.ptr (H.next s3) 0), (V.int .i64 v1), v2, (V.int .i64 (Int.ofNat 1))] s16) fun u17 s18 =>
 rtAgg u17 fun l19 =>
 rtCons l19 fun x20 l21 =>
 rtInt .i64 x20 fun x22 =>
 rtCons l21 fun x23 l24 =>
 rtInt .i64 x23 fun x25 =>
 rtCons l24 fun x26 l27 =>
 rtCons l27 fun x28 l29 =>
 rtCons l29 fun x30 l31 =>
 rtInt .i64 x30 fun x32 =>
 rtCons l31 fun x33 l34 =>
 rtNil l34 (
 chk (allOne [(V.int .i64 x22), (V.int .i64 x25), x26, x28, (V.int .i64 x32), x33]) (
 ldK E s18 (H.next s3) 0 fun u35 =>
 rtBool u35 fun x36 =>
 condK x36 (
 some ((V.tup [(V.agg [(V.int .i64 (Int.ofNat 0)), (V.int .i64 (Int.ofNat 0)), V.nils, V.nils, (V.int .i64 (Int.ofNat 0)), V.nils]), (V.int .i64 (Int.ofNat 4))]), s18)) (
 ldnK E s18 (H.next σ) 0 4 fun l37 =>
 rtCons l37 fun x38 l39 =>
 rtStr x38 fun x40 =>
 rtCons l39 fun x41 l42 =>
 rtCons l42 fun x43 l44 =>
 rtCons l44 fun x45 l46 =>
 rtNil l46 (
 callK (D 25 [(V.agg [(V.str x40), x41, x43, x45]), (V.int .i64 v1), (V.agg [(V.int .i64 x22), (V.int .i64 x25), x26, x28, (V.int .i64 x32), x33])] s18) fun u47 s48 =>
 rtTup u47 fun l49 =>
 rtCons l49 fun x50 l51 =>
 rtCons l51 fun x52 l53 =>
 rtInt .i64 x52 fun x54 =>
 rtNil l53 (
 joinB (fun c55 s56 =>
 condK c55 (
 some ((V.tup [(V.agg [(V.int .i64 (Int.ofNat 0)), (V.int .i64 (Int.ofNat 0)), V.nils, V.nils, (V.int .i64 (Int.ofNat 0)), V.nils]), (V.int .i64 (Int.ofNat 4))]), s56)) (
 chk (allOne [(V.int .i64 x22), (V.int .i64 x25), x26, x28, (V.int .i64 x32), x33]) (
 some ((V.tup [(V.agg [(V.int .i64 x22), (V.int .i64 x25), x26, x28, (V.int .i64 x32), x33]), (V.int .i64 (Int.ofNat 0))]), s56)))) fun k57 =>
 condK (not (eqF x54 (Int.ofNat 0))) (
 k57 true s48) (
 callK (D 53 [x50, v2] s48) fun u58 s59 =>
 rtBool u58 fun x60 =>
 k57 (not x60) s59))))))))))) fun k4 =>
 condK (ltF v1 (Int.ofNat 0)) (
 k4 true s1) (
 ldK E s1 (H.next σ) 3 fun u61 =>
 slenK u61 fun n62 =>
 k4 (leF (Int.ofNat n62) v1) s1))
theorem P26_0 (E : List (Nat × Blk)) (D : Den) (W : DrawFn) (N : Nat) (v0_0 : BS) (v0_1 : V) (v0_2 : V) (v0_3 : V) (v1 : Int) (v2 : V) (σ : H) :
  denC E D W N (C26_0 ) ⟨[(0, (V.agg [(V.str v0_0), v0_1, v0_2, v0_3])), (1, (V.int .i64 v1)), (2, v2)], [], [], σ⟩ (Fin26 E) (fun _ _ => none) (Fin26 E) =
  T26_0 E D W  v0_0 v0_1 v0_2 v0_3 v1 v2 σ := by kernel_rfl
def J26_0 (E : List (Nat × Blk)) (D : Den) (W : DrawFn) (N : Nat) : BS → V → V → V → Int → V → H → Ans := T26_0 E D W 
theorem JE26_0 (E : List (Nat × Blk)) (D : Den) (W : DrawFn) (N : Nat) (v0_0 : BS) (v0_1 : V) (v0_2 : V) (v0_3 : V) (v1 : Int) (v2 : V) (σ : H) :
  denC E D W N C26_0 ⟨[(0, (V.agg [(V.str v0_0), v0_1, v0_2, v0_3])), (1, (V.int .i64 v1)), (2, v2)], [], [], σ⟩ (Fin26 E) (fun _ _ => none) (Fin26 E) = J26_0 E D W N v0_0 v0_1 v0_2 v0_3 v1 v2 σ := by
  refine (P26_0 E D W N   v0_0 v0_1 v0_2 v0_3 v1 v2 σ).trans ?_
  kernel_rfl
def F26 (E : List (Nat × Blk)) (D : Den) (W : DrawFn) (N : Nat) (args : List V) (σ : H) : Ans :=
 rtCons args fun x1 l2 =>
 rtAgg x1 fun l3 =>
 rtCons l3 fun x4 l5 =>
 rtStr x4 fun x6 =>
 rtCons l5 fun x7 l8 =>
 rtCons l8 fun x9 l10 =>
 rtCons l10 fun x11 l12 =>
 rtNil l12 (
 rtCons l2 fun x13 l14 =>
 rtInt .i64 x13 fun x15 =>
 rtCons l14 fun x16 l17 =>
 rtNil l17 (
 J26_0 E D W N x6 x7 x9 x11 x15 x16 σ))
def A26 : XFn := ⟨58, [(.agg [.str, .any, .any, .any]), (.int .i64), .any], [(.cell 6 (some 6)), (.tmp 7)], C26_0⟩
theorem FE26 (E : List (Nat × Blk)) (D : Den) (W : DrawFn) (N : Nat) (args : List V) (σ : H) : runX E D W N A26 args σ = F26 E D W N args σ := by
  unfold F26
  simp only [← JE26_0]
  kernel_rfl
theorem AO26 : A26.body.ok = true := by kernel_rfl

/-! ### F27: ogham_uper.Encode -/
def Fin27 (E : List (Nat × Blk)) : St → Ans := fun s => resK E s [(.tmp 6), (.tmp 7)] fun l => some (oneV l, s.σ)
def C27_0 : XC := (.seq (.ops (.op (some 3) .any [0] (.box 27 (.tmp 0)) <|
 .op (some 5) .any [2] (.box 35 (.tmp 2)) <|
 .op (some 6) .any [] (.mov (.con V.nils)) <|
 .op (some 7) .any [] (.mov (.con (V.int .i64 (Int.ofNat 0)))) <|
 .nil))
 (.seq (.block 0 (.seq (.ops (.op (some 11) (.agg [.str, .any, .any, .any]) [3] (.load (some 4) (.tmp 3)) <|
 .op (some 12) .any [1] (.mov (.tmp 1)) <|
 .op (some 13) (.agg [(.int .i64), (.int .i64), .any, .any, (.int .i64), .any]) [5] (.load (some 6) (.tmp 5)) <|
 .op (some 14) .bool [11, 12, 13] (.call 49 [(.tmp 11), (.tmp 12), (.tmp 13)]) <|
 .op (some 15) .any [14] (.un .not (.tmp 14)) <|
 .op (some 16) .any [15] (.mov (.tmp 15)) <|
 .grp 16 false (.op (some 17) (.agg [.str, .any, .any, .any]) [3, 16] (.load (some 4) (.tmp 3)) <|
 .op (some 18) .bool [17, 16] (.call 54 [(.tmp 17)]) <|
 .op (some 19) .any [18, 16] (.un .not (.tmp 18)) <|
 .nil) 20 [16, 19] (.tmp 16) (.con (V.bool true)) (.tmp 19) <|
 .op (some 10) .any [20] (.mov (.tmp 20)) <|
 .nil))
 (.cond (.tmp 10) (.seq (.ops (.op (some 6) .any [] (.mov (.con V.nils)) <|
 .op (some 7) .any [] (.mov (.con (V.int .i64 (Int.ofNat 13)))) <|
 .nil))
 .ret)
 (.seq (.ops (.op (some 22) (.agg [(.int .i64), (.int .i64), .any, .any, (.int .i64), .any]) [5] (.load (some 6) (.tmp 5)) <|
 .op (some 23) .bool [22] (.call 50 [(.tmp 22), (.con (V.int .i64 (Int.ofNat 2)))]) <|
 .op (some 24) .any [23] (.un .not (.tmp 23)) <|
 .op (some 21) .any [24] (.mov (.tmp 24)) <|
 .nil))
 (.cond (.tmp 21) (.seq (.ops (.op (some 6) .any [] (.mov (.con V.nils)) <|
 .op (some 7) .any [] (.mov (.con (V.int .i64 (Int.ofNat 16)))) <|
 .nil))
 .ret)
 .skip)))))
 (.seq (.ops (.op (some 25) (.agg [.any, (.int .i64)]) [] (.build [V.nils, (V.int .i64 (Int.ofNat 0))] []) <|
 .op (some 26) .any [25] (.box 136 (.tmp 25)) <|
 .op (some 27) (.agg [.str, .any, .any, .any]) [3] (.load (some 4) (.tmp 3)) <|
 .op (some 28) (.agg [.any, .str, .any, .any, .any]) [26, 27] (.build [V.nilp, (V.str ⟨0, 0⟩), V.nils, V.nils, V.nils] [(0, 1, (.tmp 26)), (1, 4, (.tmp 27))]) <|
 .op (some 29) .any [28] (.box 138 (.tmp 28)) <|
 .op (some 8) .any [29] (.mov (.tmp 29)) <|
 .nil))
 (.seq (.ops (.op (some 30) .any [8] (.mov (.tmp 8)) <|
 .op (some 31) .any [1] (.mov (.tmp 1)) <|
 .op (some 32) (.agg [(.int .i64), (.int .i64), .any, .any, (.int .i64), .any]) [5] (.load (some 6) (.tmp 5)) <|
 .op (some 33) (.tup []) [30, 31, 32] (.call 55 [(.tmp 30), (.tmp 31), (.tmp 32)]) <|
 .nil))
 (.seq (.ops (.op (some 34) .any [8] (.mov (.tmp 8)) <|
 .op (some 35) .any [34] (.nilck (.tmp 34)) <|
 .op (some 36) .any [35] (.faddr 0 (.tmp 35)) <|
 .op (some 37) .any [36] (.load none (.tmp 36)) <|
 .op (some 38) .one [37] (.call 56 [(.tmp 37)]) <|
 .op (some 9) .any [38] (.mov (.tmp 38)) <|
 .nil))
 (.seq (.seq (.ops (.op (some 39) .any [9] (.mov (.tmp 9)) <|
 .op (some 40) .any [39] (.len false (.tmp 39)) <|
 .op (some 41) .any [40] (.bin .gtr .none (.tmp 40) (.con (V.int .i64 (Int.ofNat 70000)))) <|
 .nil))
 (.cond (.tmp 41) (.seq (.ops (.op (some 6) .any [] (.mov (.con V.nils)) <|
 .op (some 7) .any [] (.mov (.con (V.int .i64 (Int.ofNat 5)))) <|
 .nil))
 .ret)
 .skip))
 (.seq (.ops (.op (some 42) .any [9] (.mov (.tmp 9)) <|
 .op (some 6) .any [42] (.mov (.tmp 42)) <|
 .op (some 7) .any [] (.mov (.con (V.int .i64 (Int.ofNat 0)))) <|
 .nil))
 .ret)))))))
def T27_0 (E : List (Nat × Blk)) (D : Den) (W : DrawFn) (v0_0 : BS) (v0_1 : V) (v0_2 : V) (v0_3 : V) (v1 : Int) (v2_0 : Int) (v2_1 : Int) (v2_2 : V) (v2_3 : V) (v2_4 : Int) (v2_5 : V) (σ : H) : Ans :=
 chk (allOne (V.cells (V.agg [(V.str v0_0), v0_1, v0_2, v0_3]))) (
 let s1 := newB σ (.cells (V.cells (V.agg [(V.str v0_0), v0_1, v0_2, v0_3])));
 chk (allOne (V.cells (V.agg [(V.int .i64 v2_0), (V.int .i64 v2_1), v2_2, v2_3, (V.int .i64 v2_4), v2_5]))) (
 let s2 := newB s1 (.cells (V.cells (V.agg [(V.int .i64 v2_0), (V.int .i64 v2_1), v2_2, v2_3, (V.int .i64 v2_4), v2_5])));
 ldnK E s2 (H.next σ) 0 4 fun l3 =>
 rtCons l3 fun x4 l5 =>
 rtStr x4 fun x6 =>
 rtCons l5 fun x7 l8 =>
 rtCons l8 fun x9 l10 =>
 rtCons l10 fun x11 l12 =>
 rtNil l12 (
 ldnK E s2 (H.next s1) 0 6 fun l13 =>
 rtCons l13 fun x14 l15 =>
 rtInt .i64 x14 fun x16 =>
 rtCons l15 fun x17 l18 =>
 rtInt .i64 x17 fun x19 =>
 rtCons l18 fun x20 l21 =>
 rtCons l21 fun x22 l23 =>
 rtCons l23 fun x24 l25 =>
 rtInt .i64 x24 fun x26 =>
 rtCons l25 fun x27 l28 =>
 rtNil l28 (
 callK (D 49 [(V.agg [(V.str x6), x7, x9, x11]), (V.int .i64 v1), (V.agg [(V.int .i64 x16), (V.int .i64 x19), x20, x22, (V.int .i64 x26), x27])] s2) fun u29 s30 =>
 rtBool u29 fun x31 =>
 joinB (fun c32 s33 =>
 condK c32 (
 some ((V.tup [V.nils, (V.int .i64 (Int.ofNat 13))]), s33)) (
 ldnK E s33 (H.next s1) 0 6 fun l35 =>
 rtCons l35 fun x36 l37 =>
 rtInt .i64 x36 fun x38 =>
 rtCons l37 fun x39 l40 =>
 rtInt .i64 x39 fun x41 =>
 rtCons l40 fun x42 l43 =>
 rtCons l43 fun x44 l45 =>
 rtCons l45 fun x46 l47 =>
 rtInt .i64 x46 fun x48 =>
 rtCons l47 fun x49 l50 =>
 rtNil l50 (
 callK (D 50 [(V.agg [(V.int .i64 x38), (V.int .i64 x41), x42, x44, (V.int .i64 x48), x49]), (V.int .i64 (Int.ofNat 2))] s33) fun u51 s52 =>
 rtBool u51 fun x53 =>
 condK (not x53) (
 some ((V.tup [V.nils, (V.int .i64 (Int.ofNat 16))]), s52)) (
 chk (allOne (V.cells (V.agg [V.nils, (V.int .i64 (Int.ofNat 0))]))) (
 let s54 := newB s52 (.cells (V.cells (V.agg [V.nils, (V.int .i64 (Int.ofNat 0))])));
 ldnK E s54 (H.next σ) 0 4 fun l55 =>
 rtCons l55 fun x56 l57 =>
 rtStr x56 fun x58 =>
 rtCons l57 fun x59 l60 =>
 rtCons l60 fun x61 l62 =>
 rtCons l62 fun x63 l64 =>
 rtNil l64 (
 chk (allOne (V.cells (V.agg [(V.ptr (H.next s52) 0), (V.str x58), x59, x61, x63]))) (
 let s65 := newB s54 (.cells (V.cells (V.agg [(V.ptr (H.next s52) 0), (V.str x58), x59, x61, x63])));
 ldnK E s65 (H.next s1) 0 6 fun l66 =>
 rtCons l66 fun x67 l68 =>
 rtInt .i64 x67 fun x69 =>
 rtCons l68 fun x70 l71 =>
 rtInt .i64 x70 fun x72 =>
 rtCons l71 fun x73 l74 =>
 rtCons l74 fun x75 l76 =>
 rtCons l76 fun x77 l78 =>
 rtInt .i64 x77 fun x79 =>
 rtCons l78 fun x80 l81 =>
 rtNil l81 (
 callK (D 55 [(V.ptr (H.next s54) 0), (V.int .i64 v1), (V.agg [(V.int .i64 x69), (V.int .i64 x72), x73, x75, (V.int .i64 x79), x80])] s65) fun u82 s83 =>
 rtTup u82 fun l84 =>
 rtNil l84 (
 ldK E s83 (H.next s54) 0 fun u85 =>
 callK (D 56 [u85] s83) fun u86 s87 =>
 rtOne u86 (
 slenK u86 fun n88 =>
 condK (ltF (Int.ofNat 70000) (Int.ofNat n88)) (
 some ((V.tup [V.nils, (V.int .i64 (Int.ofNat 5))]), s87)) (
 some ((V.tup [u86, (V.int .i64 (Int.ofNat 0))]), s87)))))))))))) fun k34 =>
 condK (not x31) (
 k34 true s30) (
 ldnK E s30 (H.next σ) 0 4 fun l89 =>
 rtCons l89 fun x90 l91 =>
 rtStr x90 fun x92 =>
 rtCons l91 fun x93 l94 =>
 rtCons l94 fun x95 l96 =>
 rtCons l96 fun x97 l98 =>
 rtNil l98 (
 callK (D 54 [(V.agg [(V.str x92), x93, x95, x97])] s30) fun u99 s100 =>
 rtBool u99 fun x101 =>
 k34 (not x101) s100))))))
theorem P27_0 (E : List (Nat × Blk)) (D : Den) (W : DrawFn) (N : Nat) (v0_0 : BS) (v0_1 : V) (v0_2 : V) (v0_3 : V) (v1 : Int) (v2_0 : Int) (v2_1 : Int) (v2_2 : V) (v2_3 : V) (v2_4 : Int) (v2_5 : V) (σ : H) :
  denC E D W N (C27_0 ) ⟨[(0, (V.agg [(V.str v0_0), v0_1, v0_2, v0_3])), (1, (V.int .i64 v1)), (2, (V.agg [(V.int .i64 v2_0), (V.int .i64 v2_1), v2_2, v2_3, (V.int .i64 v2_4), v2_5]))], [], [], σ⟩ (Fin27 E) (fun _ _ => none) (Fin27 E) =
  T27_0 E D W  v0_0 v0_1 v0_2 v0_3 v1 v2_0 v2_1 v2_2 v2_3 v2_4 v2_5 σ := by kernel_rfl
def J27_0 (E : List (Nat × Blk)) (D : Den) (W : DrawFn) (N : Nat) : BS → V → V → V → Int → Int → Int → V → V → Int → V → H → Ans := T27_0 E D W 
theorem JE27_0 (E : List (Nat × Blk)) (D : Den) (W : DrawFn) (N : Nat) (v0_0 : BS) (v0_1 : V) (v0_2 : V) (v0_3 : V) (v1 : Int) (v2_0 : Int) (v2_1 : Int) (v2_2 : V) (v2_3 : V) (v2_4 : Int) (v2_5 : V) (σ : H) :
  denC E D W N C27_0 ⟨[(0, (V.agg [(V.str v0_0), v0_1, v0_2, v0_3])), (1, (V.int .i64 v1)), (2, (V.agg [(V.int .i64 v2_0), (V.int .i64 v2_1), v2_2, v2_3, (V.int .i64 v2_4), v2_5]))], [], [], σ⟩ (Fin27 E) (fun _ _ => none) (Fin27 E) = J27_0 E D W N v0_0 v0_1 v0_2 v0_3 v1 v2_0 v2_1 v2_2 v2_3 v2_4 v2_5 σ := by
  refine (P27_0 E D W N   v0_0 v0_1 v0_2 v0_3 v1 v2_0 v2_1 v2_2 v2_3 v2_4 v2_5 σ).trans ?_
  kernel_rfl
def F27 (E : List (Nat × Blk)) (D : Den) (W : DrawFn) (N : Nat) (args : List V) (σ : H) : Ans :=
 rtCons args fun x1 l2 =>
 rtAgg x1 fun l3 =>
 rtCons l3 fun x4 l5 =>
 rtStr x4 fun x6 =>
 rtCons l5 fun x7 l8 =>
 rtCons l8 fun x9 l10 =>
 rtCons l10 fun x11 l12 =>
 rtNil l12 (
 rtCons l2 fun x13 l14 =>
 rtInt .i64 x13 fun x15 =>
 rtCons l14 fun x16 l17 =>
 rtAgg x16 fun l18 =>
 rtCons l18 fun x19 l20 =>
 rtInt .i64 x19 fun x21 =>
 rtCons l20 fun x22 l23 =>
 rtInt .i64 x22 fun x24 =>
 rtCons l23 fun x25 l26 =>
 rtCons l26 fun x27 l28 =>
 rtCons l28 fun x29 l30 =>
 rtInt .i64 x29 fun x31 =>
 rtCons l30 fun x32 l33 =>
 rtNil l33 (
 rtNil l17 (
 J27_0 E D W N x6 x7 x9 x11 x15 x21 x24 x25 x27 x31 x32 σ)))
def A27 : XFn := ⟨43, [(.agg [.str, .any, .any, .any]), (.int .i64), (.agg [(.int .i64), (.int .i64), .any, .any, (.int .i64), .any])], [(.tmp 6), (.tmp 7)], C27_0⟩
theorem FE27 (E : List (Nat × Blk)) (D : Den) (W : DrawFn) (N : Nat) (args : List V) (σ : H) : runX E D W N A27 args σ = F27 E D W N args σ := by
  unfold F27
  simp only [← JE27_0]
  kernel_rfl
theorem AO27 : A27.body.ok = true := by kernel_rfl

/-! ### F28: ogham_uperin.Decode -/
def G28_0 : List AOper := [⟨(some 38), .mov (.tmp 2), none⟩, ⟨(some 39), .call 58 [(.tmp 38)], none⟩, ⟨(some 40), .load (some 4) (.tmp 3), none⟩, ⟨(some 41), .build [(V.int .i64 (Int.ofNat 0))] [], none⟩, ⟨(some 42), .box 146 (.tmp 41), none⟩, ⟨(some 43), .build [V.nilp, (V.str ⟨0, 0⟩), V.nils, V.nils, V.nils, V.nilp] [(0, 1, (.tmp 39)), (1, 4, (.tmp 40)), (5, 1, (.tmp 42))], none⟩, ⟨(some 44), .box 148 (.tmp 43), none⟩, ⟨(some 8), .mov (.tmp 44), none⟩]
def H28_0 : List DP := [⟨0, [2]⟩, ⟨1, [38]⟩, ⟨0, [3]⟩, ⟨0, []⟩, ⟨8, [41]⟩, ⟨31, [39, 40, 42]⟩, ⟨63, [43]⟩, ⟨127, [44]⟩]
def Fin28 (E : List (Nat × Blk)) : St → Ans := fun s => resK E s [(.cell 6 (some 6)), (.tmp 7)] fun l => some (oneV l, s.σ)
def C28_0 : XC := (.seq (.ops (.op (some 3) .any [0] (.box 27 (.tmp 0)) <|
 .op (some 6) .any [] (.alloc 35 [(V.int .i64 (Int.ofNat 0)), (V.int .i64 (Int.ofNat 0)), V.nils, V.nils, (V.int .i64 (Int.ofNat 0)), V.nils]) <|
 .op (some 7) .any [] (.mov (.con (V.int .i64 (Int.ofNat 0)))) <|
 .nil))
 (.seq (.block 0 (.seq (.ops (.op (some 13) .any [1] (.mov (.tmp 1)) <|
 .op (some 14) .any [13] (.bin .lss .none (.tmp 13) (.con (V.int .i64 (Int.ofNat 0)))) <|
 .op (some 15) .any [14] (.mov (.tmp 14)) <|
 .grp 15 false (.op (some 16) .any [1, 15] (.mov (.tmp 1)) <|
 .op (some 17) .any [3, 15] (.faddr 3 (.tmp 3)) <|
 .op (some 18) .any [17, 15] (.load none (.tmp 17)) <|
 .op (some 19) .any [18, 15] (.len false (.tmp 18)) <|
 .op (some 20) .any [16, 19, 15] (.bin .geq .none (.tmp 16) (.tmp 19)) <|
 .nil) 21 [15, 20] (.tmp 15) (.con (V.bool true)) (.tmp 20) <|
 .op (some 12) .any [21] (.mov (.tmp 21)) <|
 .nil))
 (.cond (.tmp 12) (.seq (.ops (.op (some 22) (.agg [(.int .i64), (.int .i64), .any, .any, (.int .i64), .any]) [] (.build [(V.int .i64 (Int.ofNat 0)), (V.int .i64 (Int.ofNat 0)), V.nils, V.nils, (V.int .i64 (Int.ofNat 0)), V.nils] []) <|
 .op none (.agg [(.int .i64), (.int .i64), .any, .any, (.int .i64), .any]) [6, 22] (.store 6 (.tmp 6) (.tmp 22)) <|
 .op (some 7) .any [] (.mov (.con (V.int .i64 (Int.ofNat 9)))) <|
 .nil))
 .ret)
 (.seq (.ops (.op (some 24) .any [2] (.mov (.tmp 2)) <|
 .op (some 25) .any [24] (.len false (.tmp 24)) <|
 .op (some 26) .any [25] (.bin .gtr .none (.tmp 25) (.con (V.int .i64 (Int.ofNat 70000)))) <|
 .op (some 23) .any [26] (.mov (.tmp 26)) <|
 .nil))
 (.cond (.tmp 23) (.seq (.ops (.op (some 27) (.agg [(.int .i64), (.int .i64), .any, .any, (.int .i64), .any]) [] (.build [(V.int .i64 (Int.ofNat 0)), (V.int .i64 (Int.ofNat 0)), V.nils, V.nils, (V.int .i64 (Int.ofNat 0)), V.nils] []) <|
 .op none (.agg [(.int .i64), (.int .i64), .any, .any, (.int .i64), .any]) [6, 27] (.store 6 (.tmp 6) (.tmp 27)) <|
 .op (some 7) .any [] (.mov (.con (V.int .i64 (Int.ofNat 5)))) <|
 .nil))
 .ret)
 (.seq (.ops (.op (some 29) .any [2] (.mov (.tmp 2)) <|
 .op (some 30) .any [29] (.len false (.tmp 29)) <|
 .op (some 31) .any [30] (.bin .eql .none (.tmp 30) (.con (V.int .i64 (Int.ofNat 0)))) <|
 .op (some 32) .any [31] (.mov (.tmp 31)) <|
 .grp 32 false (.op (some 33) (.agg [.str, .any, .any, .any]) [3, 32] (.load (some 4) (.tmp 3)) <|
 .op (some 34) .bool [33, 32] (.call 57 [(.tmp 33)]) <|
 .op (some 35) .any [34, 32] (.un .not (.tmp 34)) <|
 .nil) 36 [32, 35] (.tmp 32) (.con (V.bool true)) (.tmp 35) <|
 .op (some 28) .any [36] (.mov (.tmp 36)) <|
 .nil))
 (.cond (.tmp 28) (.seq (.ops (.op (some 37) (.agg [(.int .i64), (.int .i64), .any, .any, (.int .i64), .any]) [] (.build [(V.int .i64 (Int.ofNat 0)), (V.int .i64 (Int.ofNat 0)), V.nils, V.nils, (V.int .i64 (Int.ofNat 0)), V.nils] []) <|
 .op none (.agg [(.int .i64), (.int .i64), .any, .any, (.int .i64), .any]) [6, 37] (.store 6 (.tmp 6) (.tmp 37)) <|
 .op (some 7) .any [] (.mov (.con (V.int .i64 (Int.ofNat 4)))) <|
 .nil))
 .ret)
 .skip)))))))
 (.seq (.keep [(1, (.int .i64)), (2, .any), (3, .ptr), (6, .ptr)] [] [] (.gdraw G28_0 H28_0 [(1, (.int .i64)), (3, .ptr), (6, .ptr), (8, .ptr)]))
 (.seq (.ops (.op (some 45) .any [8] (.mov (.tmp 8)) <|
 .op (some 46) .any [1] (.mov (.tmp 1)) <|
 .op (some 47) (.agg [(.int .i64), (.int .i64), .any, .any, (.int .i64), .any]) [45, 46] (.call 59 [(.tmp 45), (.tmp 46), (.con (V.int .i64 (Int.ofNat 1)))]) <|
 .pal 9 [] 35 [(V.int .i64 (Int.ofNat 0)), (V.int .i64 (Int.ofNat 0)), V.nils, V.nils, (V.int .i64 (Int.ofNat 0)), V.nils] <|
 .op none (.agg [(.int .i64), (.int .i64), .any, .any, (.int .i64), .any]) [9, 47] (.store 6 (.tmp 9) (.tmp 47)) <|
 .nil))
 (.seq (.seq (.ops (.op (some 48) .any [8] (.mov (.tmp 8)) <|
 .op (some 49) .any [48] (.nilck (.tmp 48)) <|
 .op (some 50) .any [49] (.faddr 0 (.tmp 49)) <|
 .op (some 51) .any [50] (.load none (.tmp 50)) <|
 .op (some 52) (.int .i64) [51] (.call 60 [(.tmp 51)]) <|
 .op (some 53) .any [52] (.bin .neq .none (.tmp 52) (.con (V.int .i64 (Int.ofNat 0)))) <|
 .op (some 54) .any [53] (.mov (.tmp 53)) <|
 .grp 54 false (.op (some 55) (.agg [.str, .any, .any, .any]) [3, 54] (.load (some 4) (.tmp 3)) <|
 .op (some 56) .any [1, 54] (.mov (.tmp 1)) <|
 .op (some 57) (.agg [(.int .i64), (.int .i64), .any, .any, (.int .i64), .any]) [9, 54] (.load (some 6) (.tmp 9)) <|
 .op (some 58) .bool [55, 56, 57, 54] (.call 49 [(.tmp 55), (.tmp 56), (.tmp 57)]) <|
 .op (some 59) .any [58, 54] (.un .not (.tmp 58)) <|
 .nil) 60 [54, 59] (.tmp 54) (.con (V.bool true)) (.tmp 59) <|
 .nil))
 (.cond (.tmp 60) (.seq (.ops (.op (some 61) (.agg [(.int .i64), (.int .i64), .any, .any, (.int .i64), .any]) [] (.build [(V.int .i64 (Int.ofNat 0)), (V.int .i64 (Int.ofNat 0)), V.nils, V.nils, (V.int .i64 (Int.ofNat 0)), V.nils] []) <|
 .op none (.agg [(.int .i64), (.int .i64), .any, .any, (.int .i64), .any]) [6, 61] (.store 6 (.tmp 6) (.tmp 61)) <|
 .op (some 7) .any [] (.mov (.con (V.int .i64 (Int.ofNat 4)))) <|
 .nil))
 .ret)
 .skip))
 (.seq (.seq (.ops (.op (some 63) (.agg [.str, .any, .any, .any]) [3] (.load (some 4) (.tmp 3)) <|
 .op (some 64) .any [1] (.mov (.tmp 1)) <|
 .op (some 65) (.agg [(.int .i64), (.int .i64), .any, .any, (.int .i64), .any]) [9] (.load (some 6) (.tmp 9)) <|
 .op (some 66) (.tup [.any, (.int .i64)]) [63, 64, 65] (.call 27 [(.tmp 63), (.tmp 64), (.tmp 65)]) <|
 .op (some 62) .any [66] (.mov (.tmp 66)) <|
 .op (some 67) .any [62] (.extract 0 (.tmp 62)) <|
 .op (some 68) .any [62] (.extract 1 (.tmp 62)) <|
 .op (some 10) .any [67] (.mov (.tmp 67)) <|
 .op (some 11) .any [68] (.mov (.tmp 68)) <|
 .nil))
 (.seq (.ops (.op (some 69) .any [11] (.mov (.tmp 11)) <|
 .op (some 70) .any [69] (.bin .neq .none (.tmp 69) (.con (V.int .i64 (Int.ofNat 0)))) <|
 .nil))
 (.cond (.tmp 70) (.seq (.ops (.op (some 71) (.agg [(.int .i64), (.int .i64), .any, .any, (.int .i64), .any]) [] (.build [(V.int .i64 (Int.ofNat 0)), (V.int .i64 (Int.ofNat 0)), V.nils, V.nils, (V.int .i64 (Int.ofNat 0)), V.nils] []) <|
 .op none (.agg [(.int .i64), (.int .i64), .any, .any, (.int .i64), .any]) [6, 71] (.store 6 (.tmp 6) (.tmp 71)) <|
 .op (some 7) .any [] (.mov (.con (V.int .i64 (Int.ofNat 4)))) <|
 .nil))
 .ret)
 .skip)))
 (.seq (.ops (.op (some 72) (.agg [(.int .i64), (.int .i64), .any, .any, (.int .i64), .any]) [9] (.load (some 6) (.tmp 9)) <|
 .op none (.agg [(.int .i64), (.int .i64), .any, .any, (.int .i64), .any]) [6, 72] (.store 6 (.tmp 6) (.tmp 72)) <|
 .op (some 7) .any [] (.mov (.con (V.int .i64 (Int.ofNat 0)))) <|
 .nil))
 .ret)))))))
def T28_0 (E : List (Nat × Blk)) (D : Den) (W : DrawFn) (v0_0 : BS) (v0_1 : V) (v0_2 : V) (v0_3 : V) (v1 : Int) (v2 : V) (σ : H) : Ans :=
 chk (allOne (V.cells (V.agg [(V.str v0_0), v0_1, v0_2, v0_3]))) (
 let s1 := newB σ (.cells (V.cells (V.agg [(V.str v0_0), v0_1, v0_2, v0_3])));
 let s2 := newB s1 (.cells [(V.int .i64 (Int.ofNat 0)), (V.int .i64 (Int.ofNat 0)), V.nils, V.nils, (V.int .i64 (Int.ofNat 0)), V.nils]);
 joinB (fun c3 s4 =>
 condK c3 (
 stK 6 (H.next s1) 0 (V.agg [(V.int .i64 (Int.ofNat 0)), (V.int .i64 (Int.ofNat 0)), V.nils, V.nils, (V.int .i64 (Int.ofNat 0)), V.nils]) s4 fun s6 =>
 ldnK E s6 (H.next s1) 0 6 fun u7 =>
 some ((V.tup [(V.agg u7), (V.int .i64 (Int.ofNat 9))]), s6)) (
 slenK v2 fun n8 =>
 condK (ltF (Int.ofNat 70000) (Int.ofNat n8)) (
 stK 6 (H.next s1) 0 (V.agg [(V.int .i64 (Int.ofNat 0)), (V.int .i64 (Int.ofNat 0)), V.nils, V.nils, (V.int .i64 (Int.ofNat 0)), V.nils]) s4 fun s9 =>
 ldnK E s9 (H.next s1) 0 6 fun u10 =>
 some ((V.tup [(V.agg u10), (V.int .i64 (Int.ofNat 5))]), s9)) (
 slenK v2 fun n11 =>
 joinB (fun c12 s13 =>
 condK c12 (
 stK 6 (H.next s1) 0 (V.agg [(V.int .i64 (Int.ofNat 0)), (V.int .i64 (Int.ofNat 0)), V.nils, V.nils, (V.int .i64 (Int.ofNat 0)), V.nils]) s13 fun s15 =>
 ldnK E s15 (H.next s1) 0 6 fun u16 =>
 some ((V.tup [(V.agg u16), (V.int .i64 (Int.ofNat 4))]), s15)) (
 gdrawK (W G28_0 H28_0 [(1, (V.int .i64 v1)), (2, v2), (3, (V.ptr (H.next σ) 0)), (6, (V.ptr (H.next s1) 0))] s13) fun e17 s18 =>
 getL e17 1 fun u19 =>
 rtInt .i64 u19 fun x20 =>
 getL e17 3 fun u21 =>
 rtPtr u21 fun b22 o23 =>
 getL e17 6 fun u24 =>
 rtPtr u24 fun b25 o26 =>
 getL e17 8 fun u27 =>
 rtPtr u27 fun b28 o29 =>
 callK (D 59 [(V.ptr b28 o29), (V.int .i64 x20), (V.int .i64 (Int.ofNat 1))] s18) fun u30 s31 =>
 rtAgg u30 fun l32 =>
 rtCons l32 fun x33 l34 =>
 rtInt .i64 x33 fun x35 =>
 rtCons l34 fun x36 l37 =>
 rtInt .i64 x36 fun x38 =>
 rtCons l37 fun x39 l40 =>
 rtCons l40 fun x41 l42 =>
 rtCons l42 fun x43 l44 =>
 rtInt .i64 x43 fun x45 =>
 rtCons l44 fun x46 l47 =>
 rtNil l47 (
 chk (allOne [(V.int .i64 x35), (V.int .i64 x38), x39, x41, (V.int .i64 x45), x46]) (
 ldK E s31 b28 o29 fun u48 =>
 callK (D 60 [u48] s31) fun u49 s50 =>
 rtInt .i64 u49 fun x51 =>
 joinB (fun c52 s53 =>
 condK c52 (
 stK 6 b25 o26 (V.agg [(V.int .i64 (Int.ofNat 0)), (V.int .i64 (Int.ofNat 0)), V.nils, V.nils, (V.int .i64 (Int.ofNat 0)), V.nils]) s53 fun s55 =>
 ldnK E s55 b25 o26 6 fun u56 =>
 some ((V.tup [(V.agg u56), (V.int .i64 (Int.ofNat 4))]), s55)) (
 ldnK E s53 b22 o23 4 fun l57 =>
 rtCons l57 fun x58 l59 =>
 rtStr x58 fun x60 =>
 rtCons l59 fun x61 l62 =>
 rtCons l62 fun x63 l64 =>
 rtCons l64 fun x65 l66 =>
 rtNil l66 (
 callK (D 27 [(V.agg [(V.str x60), x61, x63, x65]), (V.int .i64 x20), (V.agg [(V.int .i64 x35), (V.int .i64 x38), x39, x41, (V.int .i64 x45), x46])] s53) fun u67 s68 =>
 rtTup u67 fun l69 =>
 rtCons l69 fun x70 l71 =>
 rtCons l71 fun x72 l73 =>
 rtInt .i64 x72 fun x74 =>
 rtNil l73 (
 condK (not (eqF x74 (Int.ofNat 0))) (
 stK 6 b25 o26 (V.agg [(V.int .i64 (Int.ofNat 0)), (V.int .i64 (Int.ofNat 0)), V.nils, V.nils, (V.int .i64 (Int.ofNat 0)), V.nils]) s68 fun s75 =>
 ldnK E s75 b25 o26 6 fun u76 =>
 some ((V.tup [(V.agg u76), (V.int .i64 (Int.ofNat 4))]), s75)) (
 stK 6 b25 o26 (V.agg [(V.int .i64 x35), (V.int .i64 x38), x39, x41, (V.int .i64 x45), x46]) s68 fun s77 =>
 ldnK E s77 b25 o26 6 fun u78 =>
 some ((V.tup [(V.agg u78), (V.int .i64 (Int.ofNat 0))]), s77)))))) fun k54 =>
 condK (not (eqF x51 (Int.ofNat 0))) (
 k54 true s50) (
 ldnK E s50 b22 o23 4 fun l79 =>
 rtCons l79 fun x80 l81 =>
 rtStr x80 fun x82 =>
 rtCons l81 fun x83 l84 =>
 rtCons l84 fun x85 l86 =>
 rtCons l86 fun x87 l88 =>
 rtNil l88 (
 callK (D 49 [(V.agg [(V.str x82), x83, x85, x87]), (V.int .i64 x20), (V.agg [(V.int .i64 x35), (V.int .i64 x38), x39, x41, (V.int .i64 x45), x46])] s50) fun u89 s90 =>
 rtBool u89 fun x91 =>
 k54 (not x91) s90)))))) fun k14 =>
 condK (eqF (Int.ofNat n11) (Int.ofNat 0)) (
 k14 true s4) (
 ldnK E s4 (H.next σ) 0 4 fun l92 =>
 rtCons l92 fun x93 l94 =>
 rtStr x93 fun x95 =>
 rtCons l94 fun x96 l97 =>
 rtCons l97 fun x98 l99 =>
 rtCons l99 fun x100 l101 =>
 rtNil l101 (
 callK (D 57 [(V.agg [(V.str x95), x96, x98, x100])] s4) fun u102 s103 =>
 rtBool u102 fun x104 =>
 k14 (not x104) s103))))) fun k5 =>
 condK (ltF v1 (Int.ofNat 0)) (
 k5 true s2) (
 ldK E s2 (H.next σ) 3 fun u105 =>
 slenK u105 fun n106 =>
 k5 (leF (Int.ofNat n106) v1) s2))
theorem P28_0 (E : List (Nat × Blk)) (D : Den) (W : DrawFn) (N : Nat) (v0_0 : BS) (v0_1 : V) (v0_2 : V) (v0_3 : V) (v1 : Int) (v2 : V) (σ : H) :
  denC E D W N (C28_0 ) ⟨[(0, (V.agg [(V.str v0_0), v0_1, v0_2, v0_3])), (1, (V.int .i64 v1)), (2, v2)], [], [], σ⟩ (Fin28 E) (fun _ _ => none) (Fin28 E) =
  T28_0 E D W  v0_0 v0_1 v0_2 v0_3 v1 v2 σ := by kernel_rfl
def J28_0 (E : List (Nat × Blk)) (D : Den) (W : DrawFn) (N : Nat) : BS → V → V → V → Int → V → H → Ans := T28_0 E D W 
theorem JE28_0 (E : List (Nat × Blk)) (D : Den) (W : DrawFn) (N : Nat) (v0_0 : BS) (v0_1 : V) (v0_2 : V) (v0_3 : V) (v1 : Int) (v2 : V) (σ : H) :
  denC E D W N C28_0 ⟨[(0, (V.agg [(V.str v0_0), v0_1, v0_2, v0_3])), (1, (V.int .i64 v1)), (2, v2)], [], [], σ⟩ (Fin28 E) (fun _ _ => none) (Fin28 E) = J28_0 E D W N v0_0 v0_1 v0_2 v0_3 v1 v2 σ := by
  refine (P28_0 E D W N   v0_0 v0_1 v0_2 v0_3 v1 v2 σ).trans ?_
  kernel_rfl
def F28 (E : List (Nat × Blk)) (D : Den) (W : DrawFn) (N : Nat) (args : List V) (σ : H) : Ans :=
 rtCons args fun x1 l2 =>
 rtAgg x1 fun l3 =>
 rtCons l3 fun x4 l5 =>
 rtStr x4 fun x6 =>
 rtCons l5 fun x7 l8 =>
 rtCons l8 fun x9 l10 =>
 rtCons l10 fun x11 l12 =>
 rtNil l12 (
 rtCons l2 fun x13 l14 =>
 rtInt .i64 x13 fun x15 =>
 rtCons l14 fun x16 l17 =>
 rtNil l17 (
 J28_0 E D W N x6 x7 x9 x11 x15 x16 σ))
def A28 : XFn := ⟨73, [(.agg [.str, .any, .any, .any]), (.int .i64), .any], [(.cell 6 (some 6)), (.tmp 7)], C28_0⟩
theorem FE28 (E : List (Nat × Blk)) (D : Den) (W : DrawFn) (N : Nat) (args : List V) (σ : H) : runX E D W N A28 args σ = F28 E D W N args σ := by
  unfold F28
  simp only [← JE28_0]
  kernel_rfl
theorem AO28 : A28.body.ok = true := by kernel_rfl

/-! ### F29: ogham_value.FitsBare -/
def Fin29 (E : List (Nat × Blk)) : St → Ans := fun s => resK E s [(.tmp 6)] fun l => some (oneV l, s.σ)
def C29_0 : XC := (.seq (.ops (.op (some 3) .any [0] (.box 27 (.tmp 0)) <|
 .op (some 5) .any [2] (.box 35 (.tmp 2)) <|
 .op (some 6) .any [] (.mov (.con (V.bool false))) <|
 .nil))
 (.seq (.ops (.op (some 8) (.agg [.str, .any, .any, .any]) [3] (.load (some 4) (.tmp 3)) <|
 .op (some 9) (.agg [.str, .any, .any, .any]) [8] (.build [(V.str ⟨0, 0⟩), V.nils, V.nils, V.nils] [(0, 4, (.tmp 8))]) <|
 .op (some 10) (.agg [.str, .any, .any, .any, .bool]) [9] (.build [(V.str ⟨0, 0⟩), V.nils, V.nils, V.nils, (V.bool false)] [(0, 4, (.tmp 9)), (4, 1, (.con (V.bool true)))]) <|
 .op (some 11) .any [10] (.box 155 (.tmp 10)) <|
 .op (some 7) .any [11] (.mov (.tmp 11)) <|
 .nil))
 (.seq (.ops (.op (some 12) .any [7] (.mov (.tmp 7)) <|
 .op (some 13) .any [1] (.mov (.tmp 1)) <|
 .op (some 14) (.agg [(.int .i64), (.int .i64), .any, .any, (.int .i64), .any]) [5] (.load (some 6) (.tmp 5)) <|
 .op (some 15) .bool [12, 13, 14] (.call 61 [(.tmp 12), (.tmp 13), (.tmp 14), (.con (V.int .i64 (Int.ofNat 1)))]) <|
 .op (some 16) .any [15] (.mov (.tmp 15)) <|
 .grp 16 true (.op (some 17) (.agg [(.int .i64), (.int .i64), .any, .any, (.int .i64), .any]) [5, 16] (.load (some 6) (.tmp 5)) <|
 .op (some 18) (.int .i64) [17, 16] (.call 62 [(.tmp 17)]) <|
 .op (some 19) .any [18, 16] (.bin .leq .none (.tmp 18) (.con (V.int .i64 (Int.ofNat 5000)))) <|
 .nil) 20 [16, 19] (.tmp 16) (.tmp 19) (.con (V.bool false)) <|
 .op (some 6) .any [20] (.mov (.tmp 20)) <|
 .nil))
 .ret)))
def T29_0 (E : List (Nat × Blk)) (D : Den) (W : DrawFn) (v0_0 : BS) (v0_1 : V) (v0_2 : V) (v0_3 : V) (v1 : Int) (v2_0 : Int) (v2_1 : Int) (v2_2 : V) (v2_3 : V) (v2_4 : Int) (v2_5 : V) (σ : H) : Ans :=
 chk (allOne (V.cells (V.agg [(V.str v0_0), v0_1, v0_2, v0_3]))) (
 let s1 := newB σ (.cells (V.cells (V.agg [(V.str v0_0), v0_1, v0_2, v0_3])));
 chk (allOne (V.cells (V.agg [(V.int .i64 v2_0), (V.int .i64 v2_1), v2_2, v2_3, (V.int .i64 v2_4), v2_5]))) (
 let s2 := newB s1 (.cells (V.cells (V.agg [(V.int .i64 v2_0), (V.int .i64 v2_1), v2_2, v2_3, (V.int .i64 v2_4), v2_5])));
 ldnK E s2 (H.next σ) 0 4 fun l3 =>
 rtCons l3 fun x4 l5 =>
 rtStr x4 fun x6 =>
 rtCons l5 fun x7 l8 =>
 rtCons l8 fun x9 l10 =>
 rtCons l10 fun x11 l12 =>
 rtNil l12 (
 chk (allOne (V.cells (V.agg [(V.str x6), x7, x9, x11, (V.bool true)]))) (
 let s13 := newB s2 (.cells (V.cells (V.agg [(V.str x6), x7, x9, x11, (V.bool true)])));
 ldnK E s13 (H.next s1) 0 6 fun l14 =>
 rtCons l14 fun x15 l16 =>
 rtInt .i64 x15 fun x17 =>
 rtCons l16 fun x18 l19 =>
 rtInt .i64 x18 fun x20 =>
 rtCons l19 fun x21 l22 =>
 rtCons l22 fun x23 l24 =>
 rtCons l24 fun x25 l26 =>
 rtInt .i64 x25 fun x27 =>
 rtCons l26 fun x28 l29 =>
 rtNil l29 (
 callK (D 61 [(V.ptr (H.next s2) 0), (V.int .i64 v1), (V.agg [(V.int .i64 x17), (V.int .i64 x20), x21, x23, (V.int .i64 x27), x28]), (V.int .i64 (Int.ofNat 1))] s13) fun u30 s31 =>
 rtBool u30 fun x32 =>
 joinB (fun c33 s34 =>
 some ((V.bool c33), s34)) fun k35 =>
 condK x32 (
 ldnK E s31 (H.next s1) 0 6 fun l36 =>
 rtCons l36 fun x37 l38 =>
 rtInt .i64 x37 fun x39 =>
 rtCons l38 fun x40 l41 =>
 rtInt .i64 x40 fun x42 =>
 rtCons l41 fun x43 l44 =>
 rtCons l44 fun x45 l46 =>
 rtCons l46 fun x47 l48 =>
 rtInt .i64 x47 fun x49 =>
 rtCons l48 fun x50 l51 =>
 rtNil l51 (
 callK (D 62 [(V.agg [(V.int .i64 x39), (V.int .i64 x42), x43, x45, (V.int .i64 x49), x50])] s31) fun u52 s53 =>
 rtInt .i64 u52 fun x54 =>
 k35 (leF x54 (Int.ofNat 5000)) s53)) (
 k35 false s31))))))
theorem P29_0 (E : List (Nat × Blk)) (D : Den) (W : DrawFn) (N : Nat) (v0_0 : BS) (v0_1 : V) (v0_2 : V) (v0_3 : V) (v1 : Int) (v2_0 : Int) (v2_1 : Int) (v2_2 : V) (v2_3 : V) (v2_4 : Int) (v2_5 : V) (σ : H) :
  denC E D W N (C29_0 ) ⟨[(0, (V.agg [(V.str v0_0), v0_1, v0_2, v0_3])), (1, (V.int .i64 v1)), (2, (V.agg [(V.int .i64 v2_0), (V.int .i64 v2_1), v2_2, v2_3, (V.int .i64 v2_4), v2_5]))], [], [], σ⟩ (Fin29 E) (fun _ _ => none) (Fin29 E) =
  T29_0 E D W  v0_0 v0_1 v0_2 v0_3 v1 v2_0 v2_1 v2_2 v2_3 v2_4 v2_5 σ := by kernel_rfl
def J29_0 (E : List (Nat × Blk)) (D : Den) (W : DrawFn) (N : Nat) : BS → V → V → V → Int → Int → Int → V → V → Int → V → H → Ans := T29_0 E D W 
theorem JE29_0 (E : List (Nat × Blk)) (D : Den) (W : DrawFn) (N : Nat) (v0_0 : BS) (v0_1 : V) (v0_2 : V) (v0_3 : V) (v1 : Int) (v2_0 : Int) (v2_1 : Int) (v2_2 : V) (v2_3 : V) (v2_4 : Int) (v2_5 : V) (σ : H) :
  denC E D W N C29_0 ⟨[(0, (V.agg [(V.str v0_0), v0_1, v0_2, v0_3])), (1, (V.int .i64 v1)), (2, (V.agg [(V.int .i64 v2_0), (V.int .i64 v2_1), v2_2, v2_3, (V.int .i64 v2_4), v2_5]))], [], [], σ⟩ (Fin29 E) (fun _ _ => none) (Fin29 E) = J29_0 E D W N v0_0 v0_1 v0_2 v0_3 v1 v2_0 v2_1 v2_2 v2_3 v2_4 v2_5 σ := by
  refine (P29_0 E D W N   v0_0 v0_1 v0_2 v0_3 v1 v2_0 v2_1 v2_2 v2_3 v2_4 v2_5 σ).trans ?_
  kernel_rfl
def F29 (E : List (Nat × Blk)) (D : Den) (W : DrawFn) (N : Nat) (args : List V) (σ : H) : Ans :=
 rtCons args fun x1 l2 =>
 rtAgg x1 fun l3 =>
 rtCons l3 fun x4 l5 =>
 rtStr x4 fun x6 =>
 rtCons l5 fun x7 l8 =>
 rtCons l8 fun x9 l10 =>
 rtCons l10 fun x11 l12 =>
 rtNil l12 (
 rtCons l2 fun x13 l14 =>
 rtInt .i64 x13 fun x15 =>
 rtCons l14 fun x16 l17 =>
 rtAgg x16 fun l18 =>
 rtCons l18 fun x19 l20 =>
 rtInt .i64 x19 fun x21 =>
 rtCons l20 fun x22 l23 =>
 rtInt .i64 x22 fun x24 =>
 rtCons l23 fun x25 l26 =>
 rtCons l26 fun x27 l28 =>
 rtCons l28 fun x29 l30 =>
 rtInt .i64 x29 fun x31 =>
 rtCons l30 fun x32 l33 =>
 rtNil l33 (
 rtNil l17 (
 J29_0 E D W N x6 x7 x9 x11 x15 x21 x24 x25 x27 x31 x32 σ)))
def A29 : XFn := ⟨21, [(.agg [.str, .any, .any, .any]), (.int .i64), (.agg [(.int .i64), (.int .i64), .any, .any, (.int .i64), .any])], [(.tmp 6)], C29_0⟩
theorem FE29 (E : List (Nat × Blk)) (D : Den) (W : DrawFn) (N : Nat) (args : List V) (σ : H) : runX E D W N A29 args σ = F29 E D W N args σ := by
  unfold F29
  simp only [← JE29_0]
  kernel_rfl
theorem AO29 : A29.body.ok = true := by kernel_rfl

/-! ### F30: ogham_value.Same -/
def Fin30 (E : List (Nat × Blk)) : St → Ans := fun s => resK E s [(.tmp 4)] fun l => some (oneV l, s.σ)
def C30_0 : XC := (.seq (.ops (.op (some 2) .any [0] (.box 35 (.tmp 0)) <|
 .op (some 3) .any [1] (.box 35 (.tmp 1)) <|
 .op (some 4) .any [] (.mov (.con (V.bool false))) <|
 .nil))
 (.seq (.ops (.op (some 5) .any [2] (.faddr 0 (.tmp 2)) <|
 .op (some 6) (.int .i64) [5] (.load none (.tmp 5)) <|
 .op (some 7) .any [3] (.faddr 0 (.tmp 3)) <|
 .op (some 8) (.int .i64) [7] (.load none (.tmp 7)) <|
 .op (some 9) .any [6, 8] (.bin .eql .none (.tmp 6) (.tmp 8)) <|
 .op (some 10) .any [9] (.mov (.tmp 9)) <|
 .grp 10 true (.op (some 11) .any [2, 10] (.faddr 1 (.tmp 2)) <|
 .op (some 12) (.int .i64) [11, 10] (.load none (.tmp 11)) <|
 .op (some 13) .any [3, 10] (.faddr 1 (.tmp 3)) <|
 .op (some 14) (.int .i64) [13, 10] (.load none (.tmp 13)) <|
 .op (some 15) .any [12, 14, 10] (.bin .eql .none (.tmp 12) (.tmp 14)) <|
 .nil) 16 [10, 15] (.tmp 10) (.tmp 15) (.con (V.bool false)) <|
 .op (some 17) .any [16] (.mov (.tmp 16)) <|
 .grp 17 true (.op (some 18) .any [2, 17] (.faddr 2 (.tmp 2)) <|
 .op (some 19) .any [18, 17] (.load none (.tmp 18)) <|
 .op (some 20) .any [3, 17] (.faddr 2 (.tmp 3)) <|
 .op (some 21) .any [20, 17] (.load none (.tmp 20)) <|
 .op (some 22) .bool [19, 21, 17] (.call 53 [(.tmp 19), (.tmp 21)]) <|
 .nil) 23 [17, 22] (.tmp 17) (.tmp 22) (.con (V.bool false)) <|
 .op (some 24) .any [23] (.mov (.tmp 23)) <|
 .grp 24 true (.op (some 25) .any [2, 24] (.faddr 3 (.tmp 2)) <|
 .op (some 26) .any [25, 24] (.load none (.tmp 25)) <|
 .op (some 27) .any [3, 24] (.faddr 3 (.tmp 3)) <|
 .op (some 28) .any [27, 24] (.load none (.tmp 27)) <|
 .op (some 29) .bool [26, 28, 24] (.call 63 [(.tmp 26), (.tmp 28), (.con (V.fn 30 [] []))]) <|
 .nil) 30 [24, 29] (.tmp 24) (.tmp 29) (.con (V.bool false)) <|
 .op (some 31) .any [30] (.mov (.tmp 30)) <|
 .grp 31 true (.op (some 32) .any [2, 31] (.faddr 4 (.tmp 2)) <|
 .op (some 33) (.int .i64) [32, 31] (.load none (.tmp 32)) <|
 .op (some 34) .any [3, 31] (.faddr 4 (.tmp 3)) <|
 .op (some 35) (.int .i64) [34, 31] (.load none (.tmp 34)) <|
 .op (some 36) .any [33, 35, 31] (.bin .eql .none (.tmp 33) (.tmp 35)) <|
 .nil) 37 [31, 36] (.tmp 31) (.tmp 36) (.con (V.bool false)) <|
 .op (some 38) .any [37] (.mov (.tmp 37)) <|
 .grp 38 true (.op (some 39) .any [2, 38] (.faddr 5 (.tmp 2)) <|
 .op (some 40) .any [39, 38] (.load none (.tmp 39)) <|
 .op (some 41) .any [3, 38] (.faddr 5 (.tmp 3)) <|
 .op (some 42) .any [41, 38] (.load none (.tmp 41)) <|
 .op (some 43) .bool [40, 42, 38] (.call 64 [(.tmp 40), (.tmp 42), (.con (V.fn 65 [] []))]) <|
 .nil) 44 [38, 43] (.tmp 38) (.tmp 43) (.con (V.bool false)) <|
 .op (some 4) .any [44] (.mov (.tmp 44)) <|
 .nil))
 .ret))
def T30_0 (E : List (Nat × Blk)) (D : Den) (W : DrawFn) (v0_0 : Int) (v0_1 : Int) (v0_2 : V) (v0_3 : V) (v0_4 : Int) (v0_5 : V) (v1_0 : Int) (v1_1 : Int) (v1_2 : V) (v1_3 : V) (v1_4 : Int) (v1_5 : V) (σ : H) : Ans :=
 chk (allOne (V.cells (V.agg [(V.int .i64 v0_0), (V.int .i64 v0_1), v0_2, v0_3, (V.int .i64 v0_4), v0_5]))) (
 let s1 := newB σ (.cells (V.cells (V.agg [(V.int .i64 v0_0), (V.int .i64 v0_1), v0_2, v0_3, (V.int .i64 v0_4), v0_5])));
 chk (allOne (V.cells (V.agg [(V.int .i64 v1_0), (V.int .i64 v1_1), v1_2, v1_3, (V.int .i64 v1_4), v1_5]))) (
 let s2 := newB s1 (.cells (V.cells (V.agg [(V.int .i64 v1_0), (V.int .i64 v1_1), v1_2, v1_3, (V.int .i64 v1_4), v1_5])));
 ldK E s2 (H.next σ) 0 fun u3 =>
 rtInt .i64 u3 fun x4 =>
 ldK E s2 (H.next s1) 0 fun u5 =>
 rtInt .i64 u5 fun x6 =>
 joinB (fun c7 s8 =>
 joinB (fun c10 s11 =>
 joinB (fun c13 s14 =>
 joinB (fun c16 s17 =>
 joinB (fun c19 s20 =>
 some ((V.bool c19), s20)) fun k21 =>
 condK c16 (
 ldK E s17 (H.next σ) 5 fun u22 =>
 ldK E s17 (H.next s1) 5 fun u23 =>
 callK (D 64 [u22, u23, (V.fn 65 [] [])] s17) fun u24 s25 =>
 rtBool u24 fun x26 =>
 k21 x26 s25) (
 k21 false s17)) fun k18 =>
 condK c13 (
 ldK E s14 (H.next σ) 4 fun u27 =>
 rtInt .i64 u27 fun x28 =>
 ldK E s14 (H.next s1) 4 fun u29 =>
 rtInt .i64 u29 fun x30 =>
 k18 (eqF x28 x30) s14) (
 k18 false s14)) fun k15 =>
 condK c10 (
 ldK E s11 (H.next σ) 3 fun u31 =>
 ldK E s11 (H.next s1) 3 fun u32 =>
 callK (D 63 [u31, u32, (V.fn 30 [] [])] s11) fun u33 s34 =>
 rtBool u33 fun x35 =>
 k15 x35 s34) (
 k15 false s11)) fun k12 =>
 condK c7 (
 ldK E s8 (H.next σ) 2 fun u36 =>
 ldK E s8 (H.next s1) 2 fun u37 =>
 callK (D 53 [u36, u37] s8) fun u38 s39 =>
 rtBool u38 fun x40 =>
 k12 x40 s39) (
 k12 false s8)) fun k9 =>
 condK (eqF x4 x6) (
 ldK E s2 (H.next σ) 1 fun u41 =>
 rtInt .i64 u41 fun x42 =>
 ldK E s2 (H.next s1) 1 fun u43 =>
 rtInt .i64 u43 fun x44 =>
 k9 (eqF x42 x44) s2) (
 k9 false s2)))
theorem P30_0 (E : List (Nat × Blk)) (D : Den) (W : DrawFn) (N : Nat) (v0_0 : Int) (v0_1 : Int) (v0_2 : V) (v0_3 : V) (v0_4 : Int) (v0_5 : V) (v1_0 : Int) (v1_1 : Int) (v1_2 : V) (v1_3 : V) (v1_4 : Int) (v1_5 : V) (σ : H) :
  denC E D W N (C30_0 ) ⟨[(0, (V.agg [(V.int .i64 v0_0), (V.int .i64 v0_1), v0_2, v0_3, (V.int .i64 v0_4), v0_5])), (1, (V.agg [(V.int .i64 v1_0), (V.int .i64 v1_1), v1_2, v1_3, (V.int .i64 v1_4), v1_5]))], [], [], σ⟩ (Fin30 E) (fun _ _ => none) (Fin30 E) =
  T30_0 E D W  v0_0 v0_1 v0_2 v0_3 v0_4 v0_5 v1_0 v1_1 v1_2 v1_3 v1_4 v1_5 σ := by kernel_rfl
def J30_0 (E : List (Nat × Blk)) (D : Den) (W : DrawFn) (N : Nat) : Int → Int → V → V → Int → V → Int → Int → V → V → Int → V → H → Ans := T30_0 E D W 
theorem JE30_0 (E : List (Nat × Blk)) (D : Den) (W : DrawFn) (N : Nat) (v0_0 : Int) (v0_1 : Int) (v0_2 : V) (v0_3 : V) (v0_4 : Int) (v0_5 : V) (v1_0 : Int) (v1_1 : Int) (v1_2 : V) (v1_3 : V) (v1_4 : Int) (v1_5 : V) (σ : H) :
  denC E D W N C30_0 ⟨[(0, (V.agg [(V.int .i64 v0_0), (V.int .i64 v0_1), v0_2, v0_3, (V.int .i64 v0_4), v0_5])), (1, (V.agg [(V.int .i64 v1_0), (V.int .i64 v1_1), v1_2, v1_3, (V.int .i64 v1_4), v1_5]))], [], [], σ⟩ (Fin30 E) (fun _ _ => none) (Fin30 E) = J30_0 E D W N v0_0 v0_1 v0_2 v0_3 v0_4 v0_5 v1_0 v1_1 v1_2 v1_3 v1_4 v1_5 σ := by
  refine (P30_0 E D W N   v0_0 v0_1 v0_2 v0_3 v0_4 v0_5 v1_0 v1_1 v1_2 v1_3 v1_4 v1_5 σ).trans ?_
  kernel_rfl
def F30 (E : List (Nat × Blk)) (D : Den) (W : DrawFn) (N : Nat) (args : List V) (σ : H) : Ans :=
 rtCons args fun x1 l2 =>
 rtAgg x1 fun l3 =>
 rtCons l3 fun x4 l5 =>
 rtInt .i64 x4 fun x6 =>
 rtCons l5 fun x7 l8 =>
 rtInt .i64 x7 fun x9 =>
 rtCons l8 fun x10 l11 =>
 rtCons l11 fun x12 l13 =>
 rtCons l13 fun x14 l15 =>
 rtInt .i64 x14 fun x16 =>
 rtCons l15 fun x17 l18 =>
 rtNil l18 (
 rtCons l2 fun x19 l20 =>
 rtAgg x19 fun l21 =>
 rtCons l21 fun x22 l23 =>
 rtInt .i64 x22 fun x24 =>
 rtCons l23 fun x25 l26 =>
 rtInt .i64 x25 fun x27 =>
 rtCons l26 fun x28 l29 =>
 rtCons l29 fun x30 l31 =>
 rtCons l31 fun x32 l33 =>
 rtInt .i64 x32 fun x34 =>
 rtCons l33 fun x35 l36 =>
 rtNil l36 (
 rtNil l20 (
 J30_0 E D W N x6 x9 x10 x12 x16 x17 x24 x27 x28 x30 x34 x35 σ)))
def A30 : XFn := ⟨45, [(.agg [(.int .i64), (.int .i64), .any, .any, (.int .i64), .any]), (.agg [(.int .i64), (.int .i64), .any, .any, (.int .i64), .any])], [(.tmp 4)], C30_0⟩
theorem FE30 (E : List (Nat × Blk)) (D : Den) (W : DrawFn) (N : Nat) (args : List V) (σ : H) : runX E D W N A30 args σ = F30 E D W N args σ := by
  unfold F30
  simp only [← JE30_0]
  kernel_rfl
theorem AO30 : A30.body.ok = true := by kernel_rfl

def G31_0 : List AOper := [⟨(some 38), .faddr 0 (.tmp 7), none⟩, ⟨(some 39), .load none (.tmp 38), none⟩, ⟨(some 40), .faddr 1 (.tmp 7), none⟩, ⟨(some 41), .load none (.tmp 40), none⟩, ⟨(some 42), .faddr 2 (.tmp 7), none⟩, ⟨(some 43), .load none (.tmp 42), none⟩, ⟨(some 44), .call 32 [(.tmp 43)], none⟩, ⟨(some 45), .build [(V.int .i64 (Int.ofNat 0)), (V.int .i64 (Int.ofNat 0)), V.nils, V.nils, (V.int .i64 (Int.ofNat 0)), V.nils] [(0, 1, (.tmp 39)), (1, 1, (.tmp 41)), (2, 1, (.tmp 44))], none⟩, ⟨(some 13), .alloc 35 [(V.int .i64 (Int.ofNat 0)), (V.int .i64 (Int.ofNat 0)), V.nils, V.nils, (V.int .i64 (Int.ofNat 0)), V.nils], none⟩, ⟨none, .store 6 (.tmp 13) (.tmp 45), none⟩]
def H31_0 : List DP := [⟨0, [7]⟩, ⟨1, [38]⟩, ⟨0, [7]⟩, ⟨4, [40]⟩, ⟨0, [7]⟩, ⟨16, [42]⟩, ⟨48, [43]⟩, ⟨127, [39, 41, 44]⟩, ⟨0, []⟩, ⟨511, [13, 45]⟩]
def G31_1 : List AOper := [⟨(some 65), .faddr 3 (.tmp 13), none⟩, ⟨(some 66), .load none (.tmp 65), none⟩, ⟨(some 67), .mov (.tmp 0), none⟩, ⟨(some 68), .faddr 12 (.tmp 10), none⟩, ⟨(some 69), .load none (.tmp 68), none⟩, ⟨(some 70), .faddr 12 (.tmp 11), none⟩, ⟨(some 71), .load none (.tmp 70), none⟩, ⟨(some 72), .load (some 6) (.tmp 15), none⟩, ⟨(some 73), .call 31 [(.tmp 67), (.tmp 69), (.tmp 71), (.tmp 72)], none⟩, ⟨(some 74), .buildSlice 35 1 [(V.int .i64 (Int.ofNat 0)), (V.int .i64 (Int.ofNat 0)), V.nils, V.nils, (V.int .i64 (Int.ofNat 0)), V.nils] [(0, 6, (.tmp 73))], none⟩, ⟨(some 75), .append 35 6 96 (.tmp 66) (.tmp 74), none⟩, ⟨(some 76), .faddr 3 (.tmp 13), none⟩, ⟨none, .store 1 (.tmp 76) (.tmp 75), none⟩]
def H31_1 : List DP := [⟨0, [13]⟩, ⟨1, [65]⟩, ⟨0, [0]⟩, ⟨0, [10]⟩, ⟨8, [68]⟩, ⟨0, [11]⟩, ⟨32, [70]⟩, ⟨0, [15]⟩, ⟨252, [67, 69, 71, 72]⟩, ⟨508, [73]⟩, ⟨1023, [66, 74]⟩, ⟨2047, [13]⟩, ⟨4095, [76, 75]⟩]
def G31_2 : List AOper := [⟨(some 87), .mov (.tmp 0), none⟩, ⟨(some 88), .faddr 9 (.tmp 10), none⟩, ⟨(some 89), .load none (.tmp 88), none⟩, ⟨(some 90), .faddr 1 (.tmp 7), none⟩, ⟨(some 91), .load none (.tmp 90), none⟩, ⟨(some 92), .iaddrS 11 (.tmp 89) (.tmp 91), none⟩, ⟨(some 93), .faddr 1 (.tmp 92), none⟩, ⟨(some 94), .load none (.tmp 93), none⟩, ⟨(some 95), .faddr 9 (.tmp 11), none⟩, ⟨(some 96), .load none (.tmp 95), none⟩, ⟨(some 97), .faddr 1 (.tmp 7), none⟩, ⟨(some 98), .load none (.tmp 97), none⟩, ⟨(some 99), .iaddrS 11 (.tmp 96) (.tmp 98), none⟩, ⟨(some 100), .faddr 1 (.tmp 99), none⟩, ⟨(some 101), .load none (.tmp 100), none⟩, ⟨(some 102), .faddr 3 (.tmp 7), none⟩, ⟨(some 103), .load none (.tmp 102), none⟩, ⟨(some 104), .iaddrS 6 (.tmp 103) (.con (V.int .i64 (Int.ofNat 0))), none⟩, ⟨(some 105), .load (some 6) (.tmp 104), none⟩, ⟨(some 106), .call 31 [(.tmp 87), (.tmp 94), (.tmp 101), (.tmp 105)], none⟩, ⟨(some 107), .buildSlice 35 1 [(V.int .i64 (Int.ofNat 0)), (V.int .i64 (Int.ofNat 0)), V.nils, V.nils, (V.int .i64 (Int.ofNat 0)), V.nils] [(0, 6, (.tmp 106))], none⟩, ⟨(some 108), .faddr 3 (.tmp 13), none⟩, ⟨none, .store 1 (.tmp 108) (.tmp 107), none⟩]
def H31_2 : List DP := [⟨0, [0]⟩, ⟨0, [10]⟩, ⟨2, [88]⟩, ⟨0, [7]⟩, ⟨8, [90]⟩, ⟨30, [89, 91]⟩, ⟨62, [92]⟩, ⟨126, [93]⟩, ⟨0, [11]⟩, ⟨256, [95]⟩, ⟨0, [7]⟩, ⟨1024, [97]⟩, ⟨3840, [96, 98]⟩, ⟨7936, [99]⟩, ⟨16128, [100]⟩, ⟨0, [7]⟩, ⟨32768, [102]⟩, ⟨98304, [103]⟩, ⟨229376, [104]⟩, ⟨524287, [87, 94, 101, 105]⟩, ⟨1048575, [106]⟩, ⟨2097151, [13]⟩, ⟨4194303, [108, 107]⟩]
def C31_0 (cc1 : XC) (cc2 : XC) (cc3 : XC) : XC := (.seq (.ops (.op (some 7) .any [3] (.box 35 (.tmp 3)) <|
 .op (some 8) .any [] (.alloc 35 [(V.int .i64 (Int.ofNat 0)), (V.int .i64 (Int.ofNat 0)), V.nils, V.nils, (V.int .i64 (Int.ofNat 0)), V.nils]) <|
 .nil))
 (.seq (.ops (.op (some 16) (.agg [(.int .i64), (.int .i64), .any, .any, (.int .i64), .any]) [] (.build [(V.int .i64 (Int.ofNat 0)), (V.int .i64 (Int.ofNat 0)), V.nils, V.nils, (V.int .i64 (Int.ofNat 0)), V.nils] [(0, 1, (.con (V.int .i64 (Int.ofNat 12))))]) <|
 .op (some 9) .any [] (.alloc 35 [(V.int .i64 (Int.ofNat 0)), (V.int .i64 (Int.ofNat 0)), V.nils, V.nils, (V.int .i64 (Int.ofNat 0)), V.nils]) <|
 .op none (.agg [(.int .i64), (.int .i64), .any, .any, (.int .i64), .any]) [9, 16] (.store 6 (.tmp 9) (.tmp 16)) <|
 .nil))
 (.seq (.seq (.ops (.op (some 17) .any [7] (.faddr 0 (.tmp 7)) <|
 .op (some 18) (.int .i64) [17] (.load none (.tmp 17)) <|
 .op (some 19) .any [18] (.bin .eql .none (.tmp 18) (.con (V.int .i64 (Int.ofNat 12)))) <|
 .nil))
 (.cond (.tmp 19) (.seq (.ops (.op (some 20) (.agg [(.int .i64), (.int .i64), .any, .any, (.int .i64), .any]) [9] (.load (some 6) (.tmp 9)) <|
 .op none (.agg [(.int .i64), (.int .i64), .any, .any, (.int .i64), .any]) [8, 20] (.store 6 (.tmp 8) (.tmp 20)) <|
 .nil))
 .ret)
 .skip))
 (.seq (.ops (.op (some 22) .any [0] (.mov (.tmp 0)) <|
 .op (some 23) .any [22] (.nilck (.tmp 22)) <|
 .op (some 24) .any [23] (.faddr 0 (.tmp 23)) <|
 .op (some 25) (.agg [.str, .any, .any, .any, .str, .any, .any, .any]) [24] (.load (some 8) (.tmp 24)) <|
 .op (some 26) .any [1] (.mov (.tmp 1)) <|
 .op (some 27) .any [2] (.mov (.tmp 2)) <|
 .op (some 28) (.tup [(.agg [(.int .i64), .any, .bool, .bool, .bool, .bool, (.int .i64), (.int .i64), .any, .any, (.int .i64), .bool, (.int .i64)]), (.agg [(.int .i64), .any, .bool, .bool, .bool, .bool, (.int .i64), (.int .i64), .any, .any, (.int .i64), .bool, (.int .i64)]), .bool]) [25, 26, 27] (.call 66 [(.tmp 25), (.tmp 26), (.tmp 27)]) <|
 .op (some 21) .any [28] (.mov (.tmp 28)) <|
 .op (some 29) .any [21] (.extract 0 (.tmp 21)) <|
 .op (some 30) .any [21] (.extract 1 (.tmp 21)) <|
 .op (some 31) .any [21] (.extract 2 (.tmp 21)) <|
 .op (some 10) .any [] (.alloc 165 [(V.int .i64 (Int.ofNat 0)), V.nils, (V.bool false), (V.bool false), (V.bool false), (V.bool false), (V.int .i64 (Int.ofNat 0)), (V.int .i64 (Int.ofNat 0)), V.nils, V.nils, (V.int .i64 (Int.ofNat 0)), (V.bool false), (V.int .i64 (Int.ofNat 0))]) <|
 .op (some 11) .any [] (.alloc 165 [(V.int .i64 (Int.ofNat 0)), V.nils, (V.bool false), (V.bool false), (V.bool false), (V.bool false), (V.int .i64 (Int.ofNat 0)), (V.int .i64 (Int.ofNat 0)), V.nils, V.nils, (V.int .i64 (Int.ofNat 0)), (V.bool false), (V.int .i64 (Int.ofNat 0))]) <|
 .op none (.agg [(.int .i64), .any, .bool, .bool, .bool, .bool, (.int .i64), (.int .i64), .any, .any, (.int .i64), .bool, (.int .i64)]) [10, 29] (.store 13 (.tmp 10) (.tmp 29)) <|
 .op none (.agg [(.int .i64), .any, .bool, .bool, .bool, .bool, (.int .i64), (.int .i64), .any, .any, (.int .i64), .bool, (.int .i64)]) [11, 30] (.store 13 (.tmp 11) (.tmp 30)) <|
 .op (some 12) .any [31] (.mov (.tmp 31)) <|
 .nil))
 (.seq (.seq (.ops (.op (some 32) .any [12] (.mov (.tmp 12)) <|
 .op (some 33) .any [32] (.un .not (.tmp 32)) <|
 .nil))
 (.cond (.tmp 33) (.seq (.ops (.op (some 34) .any [0] (.mov (.tmp 0)) <|
 .op (some 35) .any [34] (.nilck (.tmp 34)) <|
 .op (some 36) .any [35] (.faddr 8 (.tmp 35)) <|
 .op none .any [36] (.store 1 (.tmp 36) (.con (V.int .i64 (Int.ofNat 14)))) <|
 .nil))
 (.seq (.ops (.op (some 37) (.agg [(.int .i64), (.int .i64), .any, .any, (.int .i64), .any]) [] (.build [(V.int .i64 (Int.ofNat 0)), (V.int .i64 (Int.ofNat 0)), V.nils, V.nils, (V.int .i64 (Int.ofNat 0)), V.nils] []) <|
 .op none (.agg [(.int .i64), (.int .i64), .any, .any, (.int .i64), .any]) [8, 37] (.store 6 (.tmp 8) (.tmp 37)) <|
 .nil))
 .ret))
 .skip))
 (.seq (.keep [(0, .ptr), (7, .ptr), (8, .ptr), (9, .ptr), (10, .ptr), (11, .ptr)] [] [] (.gdraw G31_0 H31_0 [(0, .ptr), (7, .ptr), (8, .ptr), (9, .ptr), (10, .ptr), (11, .ptr), (13, .ptr)]))
 (.seq (.seq (.ops (.op (some 46) .any [7] (.faddr 0 (.tmp 7)) <|
 .op (some 47) (.int .i64) [46] (.load none (.tmp 46)) <|
 .nil))
 (.block 0 (.seq (.ops (.op (some 49) .any [47] (.bin .eql .none (.tmp 47) (.con (V.int .i64 (Int.ofNat 3)))) <|
 .op (some 48) .any [49] (.mov (.tmp 49)) <|
 .nil))
 (.cond (.tmp 48) (.seq (.ops (.op (some 50) (.agg [(.int .i64), .any, .bool, .bool, .bool, .bool, (.int .i64), (.int .i64), .any, .any, (.int .i64), .bool, (.int .i64)]) [11] (.load (some 13) (.tmp 11)) <|
 .op (some 51) .any [7] (.faddr 1 (.tmp 7)) <|
 .op (some 52) (.int .i64) [51] (.load none (.tmp 51)) <|
 .op (some 53) (.int .i64) [50, 52] (.call 67 [(.tmp 50), (.tmp 52)]) <|
 .op (some 54) .any [53] (.bin .lss .none (.tmp 53) (.con (V.int .i64 (Int.ofNat 0)))) <|
 .nil))
 (.cond (.tmp 54) (.seq (.ops (.op (some 55) (.agg [(.int .i64), (.int .i64), .any, .any, (.int .i64), .any]) [9] (.load (some 6) (.tmp 9)) <|
 .op none (.agg [(.int .i64), (.int .i64), .any, .any, (.int .i64), .any]) [8, 55] (.store 6 (.tmp 8) (.tmp 55)) <|
 .nil))
 .ret)
 .skip))
 (.seq (.ops (.op (some 57) .any [47] (.bin .eql .none (.tmp 47) (.con (V.int .i64 (Int.ofNat 10)))) <|
 .op (some 56) .any [57] (.mov (.tmp 57)) <|
 .nil))
 (.cond (.tmp 56) (.seq (.ops (.op (some 58) .any [7] (.faddr 3 (.tmp 7)) <|
 .op (some 59) .any [58] (.load none (.tmp 58)) <|
 .op (some 60) .any [59] (.len false (.tmp 59)) <|
 .op (some 61) .any [] (.mov (.con (V.int .i64 (Int.ofNat 0)))) <|
 .nil))
 (.block 1 (.loop [(0, .ptr), (8, .ptr), (10, .ptr), (11, .ptr), (13, .ptr), (59, .any), (60, (.int .i64)), (61, (.int .i64))] [] [] cc2)))
 (.seq (.ops (.op (some 79) .any [47] (.bin .eql .none (.tmp 47) (.con (V.int .i64 (Int.ofNat 9)))) <|
 .op (some 78) .any [79] (.mov (.tmp 79)) <|
 .nil))
 (.cond (.tmp 78) (.seq (.seq (.ops (.op (some 80) .any [7] (.faddr 1 (.tmp 7)) <|
 .op (some 81) (.int .i64) [80] (.load none (.tmp 80)) <|
 .op (some 82) .any [11] (.faddr 9 (.tmp 11)) <|
 .op (some 83) .any [82] (.load none (.tmp 82)) <|
 .op (some 84) .any [83] (.len false (.tmp 83)) <|
 .op (some 85) .any [81, 84] (.bin .geq .none (.tmp 81) (.tmp 84)) <|
 .nil))
 (.cond (.tmp 85) (.seq (.ops (.op (some 86) (.agg [(.int .i64), (.int .i64), .any, .any, (.int .i64), .any]) [9] (.load (some 6) (.tmp 9)) <|
 .op none (.agg [(.int .i64), (.int .i64), .any, .any, (.int .i64), .any]) [8, 86] (.store 6 (.tmp 8) (.tmp 86)) <|
 .nil))
 .ret)
 .skip))
 (.keep [(0, .ptr), (7, .ptr), (8, .ptr), (10, .ptr), (11, .ptr), (13, .ptr)] [] [] (.gdraw G31_2 H31_2 [(8, .ptr), (13, .ptr)])))
 (.seq (.seq (.ops (.op (some 110) .any [47] (.bin .eql .none (.tmp 47) (.con (V.int .i64 (Int.ofNat 7)))) <|
 .op (some 109) .any [110] (.mov (.tmp 110)) <|
 .nil))
 (.cond (.tmp 109) .skip
 (.ops (.op (some 111) .any [47] (.bin .eql .none (.tmp 47) (.con (V.int .i64 (Int.ofNat 8)))) <|
 .op (some 109) .any [111] (.mov (.tmp 111)) <|
 .nil))))
 (.keep [(0, .ptr), (7, .ptr), (8, .ptr), (10, .ptr), (11, .ptr), (13, .ptr), (109, .bool)] [] [] cc3))))))))))
 (.keep [(8, .ptr), (13, .ptr)] [] [] cc1))))))))
def C31_1 : XC := (.seq (.ops (.op (some 118) (.agg [(.int .i64), (.int .i64), .any, .any, (.int .i64), .any]) [13] (.load (some 6) (.tmp 13)) <|
 .op none (.agg [(.int .i64), (.int .i64), .any, .any, (.int .i64), .any]) [8, 118] (.store 6 (.tmp 8) (.tmp 118)) <|
 .nil))
 .ret)
def C31_2 : XC := (.seq (.ops (.op (some 62) .any [61, 60] (.bin .lss .none (.tmp 61) (.tmp 60)) <|
 .nil))
 (.seq (.cond (.tmp 62) .skip
 (.exit 1))
 (.seq (.block 2 (.seq (.ops (.op (some 63) .any [59, 61] (.iaddrS 6 (.tmp 59) (.tmp 61)) <|
 .op (some 64) (.agg [(.int .i64), (.int .i64), .any, .any, (.int .i64), .any]) [63] (.load (some 6) (.tmp 63)) <|
 .op (some 15) .any [] (.alloc 35 [(V.int .i64 (Int.ofNat 0)), (V.int .i64 (Int.ofNat 0)), V.nils, V.nils, (V.int .i64 (Int.ofNat 0)), V.nils]) <|
 .op none (.agg [(.int .i64), (.int .i64), .any, .any, (.int .i64), .any]) [15, 64] (.store 6 (.tmp 15) (.tmp 64)) <|
 .nil))
 (.keep [(0, .ptr), (8, .ptr), (10, .ptr), (11, .ptr), (13, .ptr), (15, .ptr), (59, .any), (60, (.int .i64)), (61, (.int .i64))] [] [] (.gdraw G31_1 H31_1 [(0, .ptr), (8, .ptr), (10, .ptr), (11, .ptr), (13, .ptr), (59, .any), (60, (.int .i64)), (61, (.int .i64))]))))
 (.ops (.op (some 77) .any [61] (.bin .add .none (.tmp 61) (.con (V.int .i64 (Int.ofNat 1)))) <|
 .op (some 61) .any [77] (.mov (.tmp 77)) <|
 .nil)))))
def C31_3 : XC := (.cond (.tmp 109) (.ops (.op (some 112) .any [0] (.mov (.tmp 0)) <|
 .op (some 113) (.agg [(.int .i64), .any, .bool, .bool, .bool, .bool, (.int .i64), (.int .i64), .any, .any, (.int .i64), .bool, (.int .i64)]) [10] (.load (some 13) (.tmp 10)) <|
 .op (some 114) (.agg [(.int .i64), .any, .bool, .bool, .bool, .bool, (.int .i64), (.int .i64), .any, .any, (.int .i64), .bool, (.int .i64)]) [11] (.load (some 13) (.tmp 11)) <|
 .op (some 115) (.agg [(.int .i64), (.int .i64), .any, .any, (.int .i64), .any]) [7] (.load (some 6) (.tmp 7)) <|
 .op (some 116) .one [112, 113, 114, 115] (.call 68 [(.tmp 112), (.tmp 113), (.tmp 114), (.tmp 115)]) <|
 .op (some 117) .any [13] (.faddr 3 (.tmp 13)) <|
 .op none .any [117, 116] (.store 1 (.tmp 117) (.tmp 116)) <|
 .nil))
 .skip)
def A31 : XFn := ⟨119, [.ptr, (.int .i64), (.int .i64), (.agg [(.int .i64), (.int .i64), .any, .any, (.int .i64), .any])], [(.cell 8 (some 6))], (C31_0 C31_1 C31_2 C31_3)⟩
def C32_0 : XC := (.seq (.ops (.op (some 2) .any [] (.mov (.con V.nils)) <|
 .nil))
 (.seq (.seq (.ops (.op (some 3) .any [0] (.mov (.tmp 0)) <|
 .op (some 4) .any [3] (.bin .eql .slice (.tmp 3) (.con V.nils)) <|
 .nil))
 (.cond (.tmp 4) (.seq (.ops (.op (some 2) .any [] (.mov (.con V.nils)) <|
 .nil))
 .ret)
 .skip))
 (.seq (.ops (.op (some 5) .any [] (.buildSlice 5 0 [] []) <|
 .op (some 6) .any [0] (.mov (.tmp 0)) <|
 .op (some 7) .one [5, 6] (.append 5 1 1 (.tmp 5) (.tmp 6)) <|
 .op (some 2) .any [7] (.mov (.tmp 7)) <|
 .nil))
 .ret)))
def A32 : XFn := ⟨8, [.any], [(.tmp 2)], C32_0⟩
def C33_0 : XC := (.seq (.ops (.op (some 4) .any [] (.mov (.con (V.bool false))) <|
 .nil))
 (.seq (.ops (.op (some 5) .any [0] (.mov (.tmp 0)) <|
 .op (some 6) .any [1] (.mov (.tmp 1)) <|
 .op (some 7) (.int .i64) [5, 6] (.call 69 [(.tmp 5), (.tmp 6)]) <|
 .op (some 8) .any [7] (.bin .geq .none (.tmp 7) (.con (V.int .i64 (Int.ofNat 0)))) <|
 .op (some 4) .any [8] (.mov (.tmp 8)) <|
 .nil))
 .ret))
def A33 : XFn := ⟨9, [.any, .any], [(.tmp 4)], C33_0⟩
/-! ### F35: ogham_oghamref04.white -/
def Fin35 (E : List (Nat × Blk)) : St → Ans := fun s => resK E s [(.tmp 4)] fun l => some (oneV l, s.σ)
def C35_0 (cc1 : XC) (cc2 : XC) : XC := (.seq (.ops (.op (some 4) .any [] (.mov (.con (V.int .i64 (Int.ofNat 0)))) <|
 .nil))
 (.seq (.block 0 (.loop [(0, .str), (1, (.int .i64))] [] [] cc2))
 (.keep [(1, (.int .i64))] [] [] cc1)))
def T35_0 (E : List (Nat × Blk)) (D : Den) (W : DrawFn) (K2 : BS → Int → H → Ans) (v0 : BS) (v1 : Int) (σ : H) : Ans :=
 K2 v0 v1 σ
def C35_1 : XC := (.seq (.ops (.op (some 74) .any [1] (.mov (.tmp 1)) <|
 .op (some 4) .any [74] (.mov (.tmp 74)) <|
 .nil))
 .ret)
def T35_1 (E : List (Nat × Blk)) (D : Den) (W : DrawFn) (v1 : Int) (σ : H) : Ans :=
 some ((V.int .i64 v1), σ)
def C35_2 (cc3 : XC) : XC := (.seq (.seq (.ops (.op (some 5) .any [1] (.mov (.tmp 1)) <|
 .op (some 6) .any [0] (.mov (.tmp 0)) <|
 .op (some 7) .any [6] (.len true (.tmp 6)) <|
 .op (some 8) .any [5, 7] (.bin .lss .none (.tmp 5) (.tmp 7)) <|
 .nil))
 (.cond (.tmp 8) .skip
 (.exit 0)))
 (.block 1 (.block 2 (.seq (.ops (.op (some 11) .any [0] (.mov (.tmp 0)) <|
 .op (some 12) .any [1] (.mov (.tmp 1)) <|
 .op (some 13) .any [11, 12] (.idxStr (.tmp 11) (.tmp 12)) <|
 .op (some 14) .any [13] (.bin .eql .none (.tmp 13) (.con (V.int .u8 (Int.ofNat 32)))) <|
 .op (some 15) .any [14] (.mov (.tmp 14)) <|
 .grp 15 false (.op (some 16) .any [0, 15] (.mov (.tmp 0)) <|
 .op (some 17) .any [1, 15] (.mov (.tmp 1)) <|
 .op (some 18) .any [16, 17, 15] (.idxStr (.tmp 16) (.tmp 17)) <|
 .op (some 19) .any [18, 15] (.bin .eql .none (.tmp 18) (.con (V.int .u8 (Int.ofNat 9)))) <|
 .nil) 20 [15, 19] (.tmp 15) (.con (V.bool true)) (.tmp 19) <|
 .op (some 21) .any [20] (.mov (.tmp 20)) <|
 .grp 21 false (.op (some 22) .any [0, 21] (.mov (.tmp 0)) <|
 .op (some 23) .any [1, 21] (.mov (.tmp 1)) <|
 .op (some 24) .any [22, 23, 21] (.idxStr (.tmp 22) (.tmp 23)) <|
 .op (some 25) .any [24, 21] (.bin .eql .none (.tmp 24) (.con (V.int .u8 (Int.ofNat 10)))) <|
 .nil) 26 [21, 25] (.tmp 21) (.con (V.bool true)) (.tmp 25) <|
 .op (some 27) .any [26] (.mov (.tmp 26)) <|
 .grp 27 false (.op (some 28) .any [0, 27] (.mov (.tmp 0)) <|
 .op (some 29) .any [1, 27] (.mov (.tmp 1)) <|
 .op (some 30) .any [28, 29, 27] (.idxStr (.tmp 28) (.tmp 29)) <|
 .op (some 31) .any [30, 27] (.bin .eql .none (.tmp 30) (.con (V.int .u8 (Int.ofNat 13)))) <|
 .nil) 32 [27, 31] (.tmp 27) (.con (V.bool true)) (.tmp 31) <|
 .op (some 10) .any [32] (.mov (.tmp 32)) <|
 .nil))
 (.cond (.tmp 10) (.ops (.op (some 33) .any [1] (.mov (.tmp 1)) <|
 .op (some 34) .any [33] (.bin .add .none (.tmp 33) (.con (V.int .i64 (Int.ofNat 1)))) <|
 .op (some 1) .any [34] (.mov (.tmp 34)) <|
 .nil))
 (.seq (.ops (.op (some 36) .any [0] (.mov (.tmp 0)) <|
 .op (some 37) .any [1] (.mov (.tmp 1)) <|
 .op (some 38) .any [36, 37] (.idxStr (.tmp 36) (.tmp 37)) <|
 .op (some 39) .any [38] (.bin .eql .none (.tmp 38) (.con (V.int .u8 (Int.ofNat 45)))) <|
 .op (some 40) .any [39] (.mov (.tmp 39)) <|
 .grp 40 true (.op (some 41) .any [0, 40] (.mov (.tmp 0)) <|
 .op (some 42) .any [1, 40] (.mov (.tmp 1)) <|
 .op (some 43) .any [42, 40] (.bin .add .none (.tmp 42) (.con (V.int .i64 (Int.ofNat 1)))) <|
 .op (some 44) (.int .u8) [41, 43, 40] (.call 70 [(.tmp 41), (.tmp 43)]) <|
 .op (some 45) .any [44, 40] (.bin .eql .none (.tmp 44) (.con (V.int .u8 (Int.ofNat 45)))) <|
 .nil) 46 [40, 45] (.tmp 40) (.tmp 45) (.con (V.bool false)) <|
 .op (some 35) .any [46] (.mov (.tmp 46)) <|
 .nil))
 (.cond (.tmp 35) (.seq (.ops (.op (some 47) .any [1] (.mov (.tmp 1)) <|
 .op (some 48) .any [47] (.bin .add .none (.tmp 47) (.con (V.int .i64 (Int.ofNat 2)))) <|
 .op (some 1) .any [48] (.mov (.tmp 48)) <|
 .nil))
 (.block 3 (.loop [(0, .str), (1, (.int .i64))] [] [] cc3)))
 (.seq (.ops (.op (some 9) .any [1] (.mov (.tmp 1)) <|
 .op (some 4) .any [9] (.mov (.tmp 9)) <|
 .nil))
 .ret))))))))
def T35_2 (E : List (Nat × Blk)) (D : Den) (W : DrawFn) (K1 : Int → H → Ans) (K3 : BS → Int → H → Ans) (R2 : BS → Int → H → Ans) (v0 : BS) (v1 : Int) (σ : H) : Ans :=
 condK (ltF v1 (Int.ofNat (BS.len v0))) (
 idxStrX v0 v1 fun x1 =>
 joinB (fun c2 s3 =>
 joinB (fun c5 s6 =>
 joinB (fun c8 s9 =>
 condK c8 (
 R2 v0 (addF .i64 v1 (Int.ofNat 1)) s9) (
 idxStrX v0 v1 fun x11 =>
 joinB (fun c12 s13 =>
 condK c12 (
 K3 v0 (addF .i64 v1 (Int.ofNat 2)) s13) (
 some ((V.int .i64 v1), s13))) fun k14 =>
 condK (eqF x11 (Int.ofNat 45)) (
 callK (D 70 [(V.str v0), (V.int .i64 (addF .i64 v1 (Int.ofNat 1)))] s9) fun u15 s16 =>
 rtInt .u8 u15 fun x17 =>
 k14 (eqF x17 (Int.ofNat 45)) s16) (
 k14 false s9))) fun k10 =>
 condK c5 (
 k10 true s6) (
 idxStrX v0 v1 fun x18 =>
 k10 (eqF x18 (Int.ofNat 13)) s6)) fun k7 =>
 condK c2 (
 k7 true s3) (
 idxStrX v0 v1 fun x19 =>
 k7 (eqF x19 (Int.ofNat 10)) s3)) fun k4 =>
 condK (eqF x1 (Int.ofNat 32)) (
 k4 true σ) (
 idxStrX v0 v1 fun x20 =>
 k4 (eqF x20 (Int.ofNat 9)) σ)) (
 K1 v1 σ)
def C35_3 : XC := (.seq (.seq (.ops (.op (some 49) .any [1] (.mov (.tmp 1)) <|
 .op (some 50) .any [0] (.mov (.tmp 0)) <|
 .op (some 51) .any [50] (.len true (.tmp 50)) <|
 .op (some 52) .any [49, 51] (.bin .lss .none (.tmp 49) (.tmp 51)) <|
 .op (some 53) .any [52] (.mov (.tmp 52)) <|
 .grp 53 true (.op (some 54) .any [0, 53] (.mov (.tmp 0)) <|
 .op (some 55) .any [1, 53] (.mov (.tmp 1)) <|
 .op (some 56) .any [54, 55, 53] (.idxStr (.tmp 54) (.tmp 55)) <|
 .op (some 57) .any [56, 53] (.bin .neq .none (.tmp 56) (.con (V.int .u8 (Int.ofNat 10)))) <|
 .nil) 58 [53, 57] (.tmp 53) (.tmp 57) (.con (V.bool false)) <|
 .nil))
 (.cond (.tmp 58) .skip
 (.exit 3)))
 (.block 4 (.seq (.seq (.ops (.op (some 59) .any [0] (.mov (.tmp 0)) <|
 .op (some 60) .any [1] (.mov (.tmp 1)) <|
 .op (some 61) .any [59, 60] (.idxStr (.tmp 59) (.tmp 60)) <|
 .op (some 62) .any [61] (.bin .eql .none (.tmp 61) (.con (V.int .u8 (Int.ofNat 45)))) <|
 .op (some 63) .any [62] (.mov (.tmp 62)) <|
 .grp 63 true (.op (some 64) .any [0, 63] (.mov (.tmp 0)) <|
 .op (some 65) .any [1, 63] (.mov (.tmp 1)) <|
 .op (some 66) .any [65, 63] (.bin .add .none (.tmp 65) (.con (V.int .i64 (Int.ofNat 1)))) <|
 .op (some 67) (.int .u8) [64, 66, 63] (.call 70 [(.tmp 64), (.tmp 66)]) <|
 .op (some 68) .any [67, 63] (.bin .eql .none (.tmp 67) (.con (V.int .u8 (Int.ofNat 45)))) <|
 .nil) 69 [63, 68] (.tmp 63) (.tmp 68) (.con (V.bool false)) <|
 .nil))
 (.cond (.tmp 69) (.seq (.ops (.op (some 70) .any [1] (.mov (.tmp 1)) <|
 .op (some 71) .any [70] (.bin .add .none (.tmp 70) (.con (V.int .i64 (Int.ofNat 2)))) <|
 .op (some 1) .any [71] (.mov (.tmp 71)) <|
 .nil))
 (.exit 3))
 .skip))
 (.ops (.op (some 72) .any [1] (.mov (.tmp 1)) <|
 .op (some 73) .any [72] (.bin .add .none (.tmp 72) (.con (V.int .i64 (Int.ofNat 1)))) <|
 .op (some 1) .any [73] (.mov (.tmp 73)) <|
 .nil)))))
def T35_3 (E : List (Nat × Blk)) (D : Den) (W : DrawFn) (R2 : BS → Int → H → Ans) (R3 : BS → Int → H → Ans) (v0 : BS) (v1 : Int) (σ : H) : Ans :=
 joinB (fun c1 s2 =>
 condK c1 (
 idxStrX v0 v1 fun x4 =>
 joinB (fun c5 s6 =>
 condK c5 (
 R2 v0 (addF .i64 v1 (Int.ofNat 2)) s6) (
 R3 v0 (addF .i64 v1 (Int.ofNat 1)) s6)) fun k7 =>
 condK (eqF x4 (Int.ofNat 45)) (
 callK (D 70 [(V.str v0), (V.int .i64 (addF .i64 v1 (Int.ofNat 1)))] s2) fun u8 s9 =>
 rtInt .u8 u8 fun x10 =>
 k7 (eqF x10 (Int.ofNat 45)) s9) (
 k7 false s2)) (
 R2 v0 v1 s2)) fun k3 =>
 condK (ltF v1 (Int.ofNat (BS.len v0))) (
 idxStrX v0 v1 fun x11 =>
 k3 (not (eqF x11 (Int.ofNat 10))) σ) (
 k3 false σ)
theorem P35_0 (E : List (Nat × Blk)) (D : Den) (W : DrawFn) (N : Nat) (cc1 : XC) (cc2 : XC) (v0 : BS) (v1 : Int) (σ : H) :
  denC E D W N (C35_0 cc1 cc2) ⟨[(0, (V.str v0)), (1, (V.int .i64 v1))], [], [], σ⟩ (Fin35 E) (fun _ _ => none) (Fin35 E) =
  T35_0 E D W (fun v0 v1 σ => iterK (fun rec s' => denC E D W N cc2 s' (fun s'' => keepS [(0, .str), (1, (.int .i64))] [] [] s'' rec) (blkK 0 (fun s' => denC E D W N (.keep [(1, (.int .i64))] [] [] cc1) s' (Fin35 E) (fun _ _ => none) (Fin35 E)) (fun _ _ => none)) (Fin35 E)) N ⟨[(0, (V.str v0)), (1, (V.int .i64 v1))], [], [], σ⟩) v0 v1 σ := by kernel_rfl
theorem P35_1 (E : List (Nat × Blk)) (D : Den) (W : DrawFn) (N : Nat) (v1 : Int) (σ : H) :
  denC E D W N (C35_1 ) ⟨[(1, (V.int .i64 v1))], [], [], σ⟩ (Fin35 E) (fun _ _ => none) (Fin35 E) =
  T35_1 E D W  v1 σ := by kernel_rfl
theorem P35_2 (E : List (Nat × Blk)) (D : Den) (W : DrawFn) (N : Nat) (cc1 : XC) (cc3 : XC) (li2 : St → Ans) (v0 : BS) (v1 : Int) (σ : H) :
  denC E D W N (C35_2 cc3) ⟨[(0, (V.str v0)), (1, (V.int .i64 v1))], [], [], σ⟩ (fun s'' => keepS [(0, .str), (1, (.int .i64))] [] [] s'' li2) (blkK 0 (fun s' => denC E D W N (.keep [(1, (.int .i64))] [] [] cc1) s' (Fin35 E) (fun _ _ => none) (Fin35 E)) (fun _ _ => none)) (Fin35 E) =
  T35_2 E D W (fun v1 σ => denC E D W N cc1 ⟨[(1, (V.int .i64 v1))], [], [], σ⟩ (Fin35 E) (fun _ _ => none) (Fin35 E)) (fun v0 v1 σ => iterK (fun rec s' => denC E D W N cc3 s' (fun s'' => keepS [(0, .str), (1, (.int .i64))] [] [] s'' rec) (blkK 3 (fun s'' => keepS [(0, .str), (1, (.int .i64))] [] [] s'' li2) (blkK 2 (fun s'' => keepS [(0, .str), (1, (.int .i64))] [] [] s'' li2) (blkK 1 (fun s'' => keepS [(0, .str), (1, (.int .i64))] [] [] s'' li2) (blkK 0 (fun s' => denC E D W N (.keep [(1, (.int .i64))] [] [] cc1) s' (Fin35 E) (fun _ _ => none) (Fin35 E)) (fun _ _ => none))))) (Fin35 E)) N ⟨[(0, (V.str v0)), (1, (V.int .i64 v1))], [], [], σ⟩) (fun v0 v1 σ => li2 ⟨[(0, (V.str v0)), (1, (V.int .i64 v1))], [], [], σ⟩) v0 v1 σ := by kernel_rfl
theorem P35_3 (E : List (Nat × Blk)) (D : Den) (W : DrawFn) (N : Nat) (cc1 : XC) (li2 : St → Ans) (li3 : St → Ans) (v0 : BS) (v1 : Int) (σ : H) :
  denC E D W N (C35_3 ) ⟨[(0, (V.str v0)), (1, (V.int .i64 v1))], [], [], σ⟩ (fun s'' => keepS [(0, .str), (1, (.int .i64))] [] [] s'' li3) (blkK 3 (fun s'' => keepS [(0, .str), (1, (.int .i64))] [] [] s'' li2) (blkK 2 (fun s'' => keepS [(0, .str), (1, (.int .i64))] [] [] s'' li2) (blkK 1 (fun s'' => keepS [(0, .str), (1, (.int .i64))] [] [] s'' li2) (blkK 0 (fun s' => denC E D W N (.keep [(1, (.int .i64))] [] [] cc1) s' (Fin35 E) (fun _ _ => none) (Fin35 E)) (fun _ _ => none))))) (Fin35 E) =
  T35_3 E D W (fun v0 v1 σ => li2 ⟨[(0, (V.str v0)), (1, (V.int .i64 v1))], [], [], σ⟩) (fun v0 v1 σ => li3 ⟨[(0, (V.str v0)), (1, (V.int .i64 v1))], [], [], σ⟩) v0 v1 σ := by kernel_rfl
def J35_1 (E : List (Nat × Blk)) (D : Den) (W : DrawFn) (N : Nat) : Int → H → Ans := T35_1 E D W 
theorem JE35_1 (E : List (Nat × Blk)) (D : Den) (W : DrawFn) (N : Nat) (v1 : Int) (σ : H) :
  denC E D W N C35_1 ⟨[(1, (V.int .i64 v1))], [], [], σ⟩ (Fin35 E) (fun _ _ => none) (Fin35 E) = J35_1 E D W N v1 σ := by
  refine (P35_1 E D W N   v1 σ).trans ?_
  kernel_rfl
def L35_3 (E : List (Nat × Blk)) (D : Den) (W : DrawFn) (N : Nat) (R2 : BS → Int → H → Ans) (n : Nat) : BS → Int → H → Ans :=
  Nat.rec (fun _ _ _ => none) (fun _ ih => T35_3 E D W R2 ih) n
theorem LE35_3 (E : List (Nat × Blk)) (D : Den) (W : DrawFn) (N : Nat) (li2 : St → Ans) (n : Nat) : ∀ (v0 : BS) (v1 : Int) (σ : H),
  iterK (fun rec s' => denC E D W N C35_3 s' (fun s'' => keepS [(0, .str), (1, (.int .i64))] [] [] s'' rec) (blkK 3 (fun s'' => keepS [(0, .str), (1, (.int .i64))] [] [] s'' li2) (blkK 2 (fun s'' => keepS [(0, .str), (1, (.int .i64))] [] [] s'' li2) (blkK 1 (fun s'' => keepS [(0, .str), (1, (.int .i64))] [] [] s'' li2) (blkK 0 (fun s' => denC E D W N (.keep [(1, (.int .i64))] [] [] C35_1) s' (Fin35 E) (fun _ _ => none) (Fin35 E)) (fun _ _ => none))))) (Fin35 E)) n ⟨[(0, (V.str v0)), (1, (V.int .i64 v1))], [], [], σ⟩ = L35_3 E D W N (fun v0 v1 σ => li2 ⟨[(0, (V.str v0)), (1, (V.int .i64 v1))], [], [], σ⟩) n v0 v1 σ := by
  induction n with
  | zero => intro v0 v1 σ; rfl
  | succ n ihn =>
    intro v0 v1 σ
    rw [iterK_succ]
    refine (P35_3 E D W N C35_1 li2 (iterK (fun rec s' => denC E D W N C35_3 s' (fun s'' => keepS [(0, .str), (1, (.int .i64))] [] [] s'' rec) (blkK 3 (fun s'' => keepS [(0, .str), (1, (.int .i64))] [] [] s'' li2) (blkK 2 (fun s'' => keepS [(0, .str), (1, (.int .i64))] [] [] s'' li2) (blkK 1 (fun s'' => keepS [(0, .str), (1, (.int .i64))] [] [] s'' li2) (blkK 0 (fun s' => denC E D W N (.keep [(1, (.int .i64))] [] [] C35_1) s' (Fin35 E) (fun _ _ => none) (Fin35 E)) (fun _ _ => none))))) (Fin35 E)) n) v0 v1 σ).trans ?_
    simp only [ihn]
    kernel_rfl
def L35_2 (E : List (Nat × Blk)) (D : Den) (W : DrawFn) (N : Nat) (n : Nat) : BS → Int → H → Ans :=
  Nat.rec (fun _ _ _ => none) (fun _ ih => T35_2 E D W (J35_1 E D W N ) (L35_3 E D W N ih N) ih) n
theorem LE35_2 (E : List (Nat × Blk)) (D : Den) (W : DrawFn) (N : Nat) (n : Nat) : ∀ (v0 : BS) (v1 : Int) (σ : H),
  iterK (fun rec s' => denC E D W N (C35_2 C35_3) s' (fun s'' => keepS [(0, .str), (1, (.int .i64))] [] [] s'' rec) (blkK 0 (fun s' => denC E D W N (.keep [(1, (.int .i64))] [] [] C35_1) s' (Fin35 E) (fun _ _ => none) (Fin35 E)) (fun _ _ => none)) (Fin35 E)) n ⟨[(0, (V.str v0)), (1, (V.int .i64 v1))], [], [], σ⟩ = L35_2 E D W N n v0 v1 σ := by
  induction n with
  | zero => intro v0 v1 σ; rfl
  | succ n ihn =>
    intro v0 v1 σ
    rw [iterK_succ]
    refine (P35_2 E D W N C35_1 C35_3 (iterK (fun rec s' => denC E D W N (C35_2 C35_3) s' (fun s'' => keepS [(0, .str), (1, (.int .i64))] [] [] s'' rec) (blkK 0 (fun s' => denC E D W N (.keep [(1, (.int .i64))] [] [] C35_1) s' (Fin35 E) (fun _ _ => none) (Fin35 E)) (fun _ _ => none)) (Fin35 E)) n) v0 v1 σ).trans ?_
    simp only [ihn, JE35_1, LE35_3]
    kernel_rfl
def J35_0 (E : List (Nat × Blk)) (D : Den) (W : DrawFn) (N : Nat) : BS → Int → H → Ans := T35_0 E D W (L35_2 E D W N N)
theorem JE35_0 (E : List (Nat × Blk)) (D : Den) (W : DrawFn) (N : Nat) (v0 : BS) (v1 : Int) (σ : H) :
  denC E D W N (C35_0 C35_1 (C35_2 C35_3)) ⟨[(0, (V.str v0)), (1, (V.int .i64 v1))], [], [], σ⟩ (Fin35 E) (fun _ _ => none) (Fin35 E) = J35_0 E D W N v0 v1 σ := by
  refine (P35_0 E D W N C35_1 (C35_2 C35_3)  v0 v1 σ).trans ?_
  simp only [LE35_2]
  kernel_rfl
def F35 (E : List (Nat × Blk)) (D : Den) (W : DrawFn) (N : Nat) (args : List V) (σ : H) : Ans :=
 rtCons args fun x1 l2 =>
 rtStr x1 fun x3 =>
 rtCons l2 fun x4 l5 =>
 rtInt .i64 x4 fun x6 =>
 rtNil l5 (
 J35_0 E D W N x3 x6 σ)
def A35 : XFn := ⟨75, [.str, (.int .i64)], [(.tmp 4)], (C35_0 C35_1 (C35_2 C35_3))⟩
theorem FE35 (E : List (Nat × Blk)) (D : Den) (W : DrawFn) (N : Nat) (args : List V) (σ : H) : runX E D W N A35 args σ = F35 E D W N args σ := by
  unfold F35
  simp only [← JE35_0]
  kernel_rfl
theorem AO35 : A35.body.ok = true := by kernel_rfl

/-! ### F36: ogham_oghamref04.one -/
def Fin36 (E : List (Nat × Blk)) : St → Ans := fun s => resK E s [(.cell 4 (some 3)), (.tmp 5)] fun l => some (oneV l, s.σ)
def C36_0 (cc1 : XC) (cc2 : XC) : XC := (.seq (.ops (.pal 4 [] 74 [(V.int .i64 (Int.ofNat 0)), (V.str ⟨0, 0⟩), (V.int .i64 (Int.ofNat 0))] <|
 .op (some 5) .any [] (.mov (.con (V.int .i64 (Int.ofNat 0)))) <|
 .nil))
 (.seq (.ops (.op (some 10) .any [1] (.mov (.tmp 1)) <|
 .op (some 11) (.agg [(.int .i64), .str, (.int .i64)]) [10] (.build [(V.int .i64 (Int.ofNat 0)), (V.str ⟨0, 0⟩), (V.int .i64 (Int.ofNat 0))] [(2, 1, (.tmp 10))]) <|
 .pal 6 [] 74 [(V.int .i64 (Int.ofNat 0)), (V.str ⟨0, 0⟩), (V.int .i64 (Int.ofNat 0))] <|
 .op none (.agg [(.int .i64), .str, (.int .i64)]) [6, 11] (.store 3 (.tmp 6) (.tmp 11)) <|
 .nil))
 (.seq (.ops (.op (some 12) .any [0] (.mov (.tmp 0)) <|
 .op (some 13) .any [1] (.mov (.tmp 1)) <|
 .op (some 14) .any [12, 13] (.idxStr (.tmp 12) (.tmp 13)) <|
 .op (some 7) .any [14] (.mov (.tmp 14)) <|
 .nil))
 (.seq (.ops (.op (some 8) .any [] (.mov (.con (V.int .i64 (Int.negSucc 0)))) <|
 .nil))
 (.seq (.block 0 (.seq (.ops (.op (some 32) .any [7] (.mov (.tmp 7)) <|
 .op (some 33) .bool [32] (.call 71 [(.tmp 32)]) <|
 .op (some 31) .any [33] (.mov (.tmp 33)) <|
 .nil))
 (.cond (.tmp 31) (.seq (.ops (.op (some 34) .any [0] (.mov (.tmp 0)) <|
 .op (some 35) .any [1] (.mov (.tmp 1)) <|
 .op (some 36) (.int .i64) [34, 35] (.call 72 [(.tmp 34), (.tmp 35)]) <|
 .op (some 8) .any [36] (.mov (.tmp 36)) <|
 .nil))
 (.seq (.seq (.ops (.op (some 37) .any [8] (.mov (.tmp 8)) <|
 .op (some 38) .any [37] (.bin .lss .none (.tmp 37) (.con (V.int .i64 (Int.ofNat 0)))) <|
 .nil))
 (.cond (.tmp 38) (.seq (.ops (.op (some 39) (.agg [(.int .i64), .str, (.int .i64)]) [6] (.load (some 3) (.tmp 6)) <|
 .op none (.agg [(.int .i64), .str, (.int .i64)]) [4, 39] (.store 3 (.tmp 4) (.tmp 39)) <|
 .op (some 5) .any [] (.mov (.con (V.int .i64 (Int.negSucc 0)))) <|
 .nil))
 .ret)
 .skip))
 (.seq (.draw (.op (some 40) .any [0] (.mov (.tmp 0)) <|
 .op (some 41) .any [1] (.mov (.tmp 1)) <|
 .op (some 42) .any [8] (.mov (.tmp 8)) <|
 .op (some 43) .any [40, 41, 42] (.sliceStr (.tmp 40) (some (.tmp 41)) (some (.tmp 42))) <|
 .op (some 44) .any [6] (.faddr 0 (.tmp 6)) <|
 .op none .any [44] (.store 1 (.tmp 44) (.con (V.int .i64 (Int.ofNat 2)))) <|
 .op (some 45) .any [6] (.faddr 1 (.tmp 6)) <|
 .op none .any [45, 43] (.store 1 (.tmp 45) (.tmp 43)) <|
 .nil) [0, 0, 0, 7, 0, 16, 63, 127])
 (.seq (.seq (.ops (.op (some 46) .any [7] (.mov (.tmp 7)) <|
 .op (some 47) .any [46] (.bin .leq .none (.tmp 46) (.con (V.int .u8 (Int.ofNat 90)))) <|
 .nil))
 (.cond (.tmp 47) (.ops (.op (some 48) .any [6] (.faddr 0 (.tmp 6)) <|
 .op none .any [48] (.store 1 (.tmp 48) (.con (V.int .i64 (Int.ofNat 1)))) <|
 .nil))
 .skip))
 (.keep [(8, (.int .i64))] [4, 6] [(4, [(.int .i64), .str, (.int .i64)]), (6, [(.int .i64), .str, (.int .i64)])] cc2)))))
 (.seq (.ops (.op (some 54) .any [7] (.mov (.tmp 7)) <|
 .op (some 55) .bool [54] (.call 74 [(.tmp 54)]) <|
 .op (some 56) .any [55] (.mov (.tmp 55)) <|
 .grp 56 false (.op (some 57) .any [7, 56] (.mov (.tmp 7)) <|
 .op (some 58) .any [57, 56] (.bin .eql .none (.tmp 57) (.con (V.int .u8 (Int.ofNat 45)))) <|
 .op (some 59) .any [58, 56] (.mov (.tmp 58)) <|
 .grp 59 true (.op (some 60) .any [0, 59] (.mov (.tmp 0)) <|
 .op (some 61) .any [1, 59] (.mov (.tmp 1)) <|
 .op (some 62) .any [61, 59] (.bin .add .none (.tmp 61) (.con (V.int .i64 (Int.ofNat 1)))) <|
 .op (some 63) (.int .u8) [60, 62, 59] (.call 70 [(.tmp 60), (.tmp 62)]) <|
 .op (some 64) .bool [63, 59] (.call 74 [(.tmp 63)]) <|
 .nil) 65 [59, 64, 56] (.tmp 59) (.tmp 64) (.con (V.bool false)) <|
 .nil) 66 [56, 65] (.tmp 56) (.con (V.bool true)) (.tmp 65) <|
 .op (some 53) .any [66] (.mov (.tmp 66)) <|
 .nil))
 (.cond (.tmp 53) (.seq (.ops (.op (some 67) .any [0] (.mov (.tmp 0)) <|
 .op (some 68) .any [1] (.mov (.tmp 1)) <|
 .op (some 69) (.int .i64) [67, 68] (.call 75 [(.tmp 67), (.tmp 68)]) <|
 .op (some 8) .any [69] (.mov (.tmp 69)) <|
 .nil))
 (.seq (.seq (.ops (.op (some 70) .any [8] (.mov (.tmp 8)) <|
 .op (some 71) .any [70] (.bin .lss .none (.tmp 70) (.con (V.int .i64 (Int.ofNat 0)))) <|
 .nil))
 (.cond (.tmp 71) (.seq (.ops (.op (some 72) (.agg [(.int .i64), .str, (.int .i64)]) [6] (.load (some 3) (.tmp 6)) <|
 .op none (.agg [(.int .i64), .str, (.int .i64)]) [4, 72] (.store 3 (.tmp 4) (.tmp 72)) <|
 .op (some 5) .any [] (.mov (.con (V.int .i64 (Int.negSucc 0)))) <|
 .nil))
 .ret)
 .skip))
 (.draw (.op (some 73) .any [0] (.mov (.tmp 0)) <|
 .op (some 74) .any [1] (.mov (.tmp 1)) <|
 .op (some 75) .any [8] (.mov (.tmp 8)) <|
 .op (some 76) .any [73, 74, 75] (.sliceStr (.tmp 73) (some (.tmp 74)) (some (.tmp 75))) <|
 .op (some 77) .any [6] (.faddr 0 (.tmp 6)) <|
 .op none .any [77] (.store 1 (.tmp 77) (.con (V.int .i64 (Int.ofNat 3)))) <|
 .op (some 78) .any [6] (.faddr 1 (.tmp 6)) <|
 .op none .any [78, 76] (.store 1 (.tmp 78) (.tmp 76)) <|
 .nil) [0, 0, 0, 7, 0, 16, 63, 127])))
 (.seq (.ops (.op (some 80) .any [7] (.mov (.tmp 7)) <|
 .op (some 81) .any [80] (.bin .eql .none (.tmp 80) (.con (V.int .u8 (Int.ofNat 39)))) <|
 .op (some 79) .any [81] (.mov (.tmp 81)) <|
 .nil))
 (.cond (.tmp 79) (.seq (.ops (.op (some 82) .any [6] (.faddr 0 (.tmp 6)) <|
 .op none .any [82] (.store 1 (.tmp 82) (.con (V.int .i64 (Int.ofNat 4)))) <|
 .nil))
 (.ops (.op (some 84) .any [0] (.mov (.tmp 0)) <|
 .op (some 85) .any [1] (.mov (.tmp 1)) <|
 .op (some 86) (.tup [(.int .i64), .str]) [84, 85] (.call 76 [(.tmp 84), (.tmp 85)]) <|
 .op (some 83) .any [86] (.mov (.tmp 86)) <|
 .op (some 87) .any [83] (.extract 0 (.tmp 83)) <|
 .op (some 88) .any [83] (.extract 1 (.tmp 83)) <|
 .op (some 8) .any [87] (.mov (.tmp 87)) <|
 .op (some 89) .any [6] (.faddr 1 (.tmp 6)) <|
 .op none .any [89, 88] (.store 1 (.tmp 89) (.tmp 88)) <|
 .nil)))
 (.seq (.ops (.op (some 91) .any [7] (.mov (.tmp 7)) <|
 .op (some 92) .any [91] (.bin .eql .none (.tmp 91) (.con (V.int .u8 (Int.ofNat 34)))) <|
 .op (some 90) .any [92] (.mov (.tmp 92)) <|
 .nil))
 (.cond (.tmp 90) (.seq (.ops (.op (some 93) .any [6] (.faddr 0 (.tmp 6)) <|
 .op none .any [93] (.store 1 (.tmp 93) (.con (V.int .i64 (Int.ofNat 7)))) <|
 .nil))
 (.ops (.op (some 95) .any [0] (.mov (.tmp 0)) <|
 .op (some 96) .any [1] (.mov (.tmp 1)) <|
 .op (some 97) (.tup [(.int .i64), .str]) [95, 96] (.call 77 [(.tmp 95), (.tmp 96)]) <|
 .op (some 94) .any [97] (.mov (.tmp 97)) <|
 .op (some 98) .any [94] (.extract 0 (.tmp 94)) <|
 .op (some 99) .any [94] (.extract 1 (.tmp 94)) <|
 .op (some 8) .any [98] (.mov (.tmp 98)) <|
 .op (some 100) .any [6] (.faddr 1 (.tmp 6)) <|
 .op none .any [100, 99] (.store 1 (.tmp 100) (.tmp 99)) <|
 .nil)))
 (.seq (.ops (.op (some 15) .any [0] (.mov (.tmp 0)) <|
 .op (some 16) .any [1] (.mov (.tmp 1)) <|
 .op (some 17) (.int .i64) [15, 16] (.call 78 [(.tmp 15), (.tmp 16)]) <|
 .op (some 9) .any [17] (.mov (.tmp 17)) <|
 .nil))
 (.seq (.ops (.op (some 18) .any [9] (.mov (.tmp 9)) <|
 .op (some 19) .any [18] (.bin .gtr .none (.tmp 18) (.con (V.int .i64 (Int.ofNat 0)))) <|
 .nil))
 (.cond (.tmp 19) (.draw (.op (some 20) .any [0] (.mov (.tmp 0)) <|
 .op (some 21) .any [1] (.mov (.tmp 1)) <|
 .op (some 22) .any [1] (.mov (.tmp 1)) <|
 .op (some 23) .any [9] (.mov (.tmp 9)) <|
 .op (some 24) .any [22, 23] (.bin .add .none (.tmp 22) (.tmp 23)) <|
 .op (some 25) .any [20, 21, 24] (.sliceStr (.tmp 20) (some (.tmp 21)) (some (.tmp 24))) <|
 .op (some 26) .any [1] (.mov (.tmp 1)) <|
 .op (some 27) .any [9] (.mov (.tmp 9)) <|
 .op (some 28) .any [26, 27] (.bin .add .none (.tmp 26) (.tmp 27)) <|
 .op (some 29) .any [6] (.faddr 0 (.tmp 6)) <|
 .op none .any [29] (.store 1 (.tmp 29) (.con (V.int .i64 (Int.ofNat 6)))) <|
 .op (some 30) .any [6] (.faddr 1 (.tmp 6)) <|
 .op none .any [30, 25] (.store 1 (.tmp 30) (.tmp 25)) <|
 .op (some 8) .any [28] (.mov (.tmp 28)) <|
 .nil) [0, 0, 0, 0, 12, 31, 0, 0, 192, 0, 512, 1599, 3647, 8191])
 .skip))))))))))))
 (.keep [(8, (.int .i64))] [4, 6] [(4, [(.int .i64), .str, (.int .i64)]), (6, [(.int .i64), .str, (.int .i64)])] cc1))))))
def T36_0 (E : List (Nat × Blk)) (D : Den) (W : DrawFn) (K1 : Int → Int → BS → Int → Int → BS → Int → H → Ans) (K2 : Int → Int → BS → Int → Int → BS → Int → H → Ans) (v0 : BS) (v1 : Int) (σ : H) : Ans :=
 idxStrX v0 v1 fun x1 =>
 callK (D 71 [(V.int .u8 x1)] σ) fun u2 s3 =>
 rtBool u2 fun x4 =>
 condK x4 (
 callK (D 72 [(V.str v0), (V.int .i64 v1)] s3) fun u5 s6 =>
 rtInt .i64 u5 fun x7 =>
 condK (ltF x7 (Int.ofNat 0)) (
 some ((V.tup [(V.agg [(V.int .i64 (Int.ofNat 0)), (V.str (BS.mk 0 0)), (V.int .i64 v1)]), (V.int .i64 (Int.negSucc 0))]), s6)) (
 sliceStrX v0 (some (V.int .i64 v1)) (some (V.int .i64 x7)) fun t8 =>
 condK (leF x1 (Int.ofNat 90)) (
 K2 x7 (Int.ofNat 0) (BS.mk 0 0) (Int.ofNat 0) (Int.ofNat 1) t8 v1 s6) (
 K2 x7 (Int.ofNat 0) (BS.mk 0 0) (Int.ofNat 0) (Int.ofNat 2) t8 v1 s6))) (
 callK (D 74 [(V.int .u8 x1)] s3) fun u9 s10 =>
 rtBool u9 fun x11 =>
 joinB (fun c12 s13 =>
 condK c12 (
 callK (D 75 [(V.str v0), (V.int .i64 v1)] s13) fun u15 s16 =>
 rtInt .i64 u15 fun x17 =>
 condK (ltF x17 (Int.ofNat 0)) (
 some ((V.tup [(V.agg [(V.int .i64 (Int.ofNat 0)), (V.str (BS.mk 0 0)), (V.int .i64 v1)]), (V.int .i64 (Int.negSucc 0))]), s16)) (
 sliceStrX v0 (some (V.int .i64 v1)) (some (V.int .i64 x17)) fun t18 =>
 K1 x17 (Int.ofNat 0) (BS.mk 0 0) (Int.ofNat 0) (Int.ofNat 3) t18 v1 s16)) (
 condK (eqF x1 (Int.ofNat 39)) (
 callK (D 76 [(V.str v0), (V.int .i64 v1)] s13) fun u19 s20 =>
 rtTup u19 fun l21 =>
 rtCons l21 fun x22 l23 =>
 rtInt .i64 x22 fun x24 =>
 rtCons l23 fun x25 l26 =>
 rtStr x25 fun x27 =>
 rtNil l26 (
 K1 x24 (Int.ofNat 0) (BS.mk 0 0) (Int.ofNat 0) (Int.ofNat 4) x27 v1 s20)) (
 condK (eqF x1 (Int.ofNat 34)) (
 callK (D 77 [(V.str v0), (V.int .i64 v1)] s13) fun u28 s29 =>
 rtTup u28 fun l30 =>
 rtCons l30 fun x31 l32 =>
 rtInt .i64 x31 fun x33 =>
 rtCons l32 fun x34 l35 =>
 rtStr x34 fun x36 =>
 rtNil l35 (
 K1 x33 (Int.ofNat 0) (BS.mk 0 0) (Int.ofNat 0) (Int.ofNat 7) x36 v1 s29)) (
 callK (D 78 [(V.str v0), (V.int .i64 v1)] s13) fun u37 s38 =>
 rtInt .i64 u37 fun x39 =>
 condK (ltF (Int.ofNat 0) x39) (
 sliceStrX v0 (some (V.int .i64 v1)) (some (V.int .i64 (addF .i64 v1 x39))) fun t40 =>
 K1 (addF .i64 v1 x39) (Int.ofNat 0) (BS.mk 0 0) (Int.ofNat 0) (Int.ofNat 6) t40 v1 s38) (
 K1 (Int.negSucc 0) (Int.ofNat 0) (BS.mk 0 0) (Int.ofNat 0) (Int.ofNat 0) (BS.mk 0 0) v1 s38))))) fun k14 =>
 condK x11 (
 k14 true s10) (
 joinB (fun c41 s42 =>
 k14 c41 s42) fun k43 =>
 condK (eqF x1 (Int.ofNat 45)) (
 callK (D 70 [(V.str v0), (V.int .i64 (addF .i64 v1 (Int.ofNat 1)))] s10) fun u44 s45 =>
 rtInt .u8 u44 fun x46 =>
 callK (D 74 [(V.int .u8 x46)] s45) fun u47 s48 =>
 rtBool u47 fun x49 =>
 k43 x49 s48) (
 k43 false s10)))
def C36_1 : XC := (.seq (.ops (.op (some 101) (.agg [(.int .i64), .str, (.int .i64)]) [6] (.load (some 3) (.tmp 6)) <|
 .op (some 102) .any [8] (.mov (.tmp 8)) <|
 .op none (.agg [(.int .i64), .str, (.int .i64)]) [4, 101] (.store 3 (.tmp 4) (.tmp 101)) <|
 .op (some 5) .any [102] (.mov (.tmp 102)) <|
 .nil))
 .ret)
def T36_1 (E : List (Nat × Blk)) (D : Den) (W : DrawFn) (v8 : Int) (r4_0 : Int) (r4_1 : BS) (r4_2 : Int) (r6_0 : Int) (r6_1 : BS) (r6_2 : Int) (σ : H) : Ans :=
 some ((V.tup [(V.agg [(V.int .i64 r6_0), (V.str r6_1), (V.int .i64 r6_2)]), (V.int .i64 v8)]), σ)
def C36_2 : XC := (.seq (.ops (.op (some 49) .any [6] (.faddr 1 (.tmp 6)) <|
 .op (some 50) .str [49] (.load none (.tmp 49)) <|
 .op (some 51) .bool [50] (.call 73 [(.tmp 50)]) <|
 .nil))
 (.cond (.tmp 51) (.ops (.op (some 52) .any [6] (.faddr 0 (.tmp 6)) <|
 .op none .any [52] (.store 1 (.tmp 52) (.con (V.int .i64 (Int.ofNat 5)))) <|
 .nil))
 .skip))
def T36_2 (E : List (Nat × Blk)) (D : Den) (W : DrawFn) (K1 : Int → Int → BS → Int → Int → BS → Int → H → Ans) (v8 : Int) (r4_0 : Int) (r4_1 : BS) (r4_2 : Int) (r6_0 : Int) (r6_1 : BS) (r6_2 : Int) (σ : H) : Ans :=
 callK (D 73 [(V.str r6_1)] σ) fun u1 s2 =>
 rtBool u1 fun x3 =>
 condK x3 (
 K1 v8 r4_0 r4_1 r4_2 (Int.ofNat 5) r6_1 r6_2 s2) (
 K1 v8 r4_0 r4_1 r4_2 r6_0 r6_1 r6_2 s2)
theorem P36_0 (E : List (Nat × Blk)) (D : Den) (W : DrawFn) (N : Nat) (cc1 : XC) (cc2 : XC) (v0 : BS) (v1 : Int) (σ : H) :
  denC E D W N (C36_0 cc1 cc2) ⟨[(0, (V.str v0)), (1, (V.int .i64 v1))], [], [], σ⟩ (Fin36 E) (fun _ _ => none) (Fin36 E) =
  T36_0 E D W (fun v8 r4_0 r4_1 r4_2 r6_0 r6_1 r6_2 σ => denC E D W N cc1 ⟨[(8, (V.int .i64 v8))], [(4, (4, 0)), (6, (6, 0))], [(4, [(V.int .i64 r4_0), (V.str r4_1), (V.int .i64 r4_2)]), (6, [(V.int .i64 r6_0), (V.str r6_1), (V.int .i64 r6_2)])], σ⟩ (Fin36 E) (fun _ _ => none) (Fin36 E)) (fun v8 r4_0 r4_1 r4_2 r6_0 r6_1 r6_2 σ => denC E D W N cc2 ⟨[(8, (V.int .i64 v8))], [(4, (4, 0)), (6, (6, 0))], [(4, [(V.int .i64 r4_0), (V.str r4_1), (V.int .i64 r4_2)]), (6, [(V.int .i64 r6_0), (V.str r6_1), (V.int .i64 r6_2)])], σ⟩ (fun s' => denC E D W N (.keep [(8, (.int .i64))] [4, 6] [(4, [(.int .i64), .str, (.int .i64)]), (6, [(.int .i64), .str, (.int .i64)])] cc1) s' (Fin36 E) (fun _ _ => none) (Fin36 E)) (blkK 0 (fun s' => denC E D W N (.keep [(8, (.int .i64))] [4, 6] [(4, [(.int .i64), .str, (.int .i64)]), (6, [(.int .i64), .str, (.int .i64)])] cc1) s' (Fin36 E) (fun _ _ => none) (Fin36 E)) (fun _ _ => none)) (Fin36 E)) v0 v1 σ := by kernel_rfl
theorem P36_1 (E : List (Nat × Blk)) (D : Den) (W : DrawFn) (N : Nat) (v8 : Int) (r4_0 : Int) (r4_1 : BS) (r4_2 : Int) (r6_0 : Int) (r6_1 : BS) (r6_2 : Int) (σ : H) :
  denC E D W N (C36_1 ) ⟨[(8, (V.int .i64 v8))], [(4, (4, 0)), (6, (6, 0))], [(4, [(V.int .i64 r4_0), (V.str r4_1), (V.int .i64 r4_2)]), (6, [(V.int .i64 r6_0), (V.str r6_1), (V.int .i64 r6_2)])], σ⟩ (Fin36 E) (fun _ _ => none) (Fin36 E) =
  T36_1 E D W  v8 r4_0 r4_1 r4_2 r6_0 r6_1 r6_2 σ := by kernel_rfl
theorem P36_2 (E : List (Nat × Blk)) (D : Den) (W : DrawFn) (N : Nat) (cc1 : XC) (v8 : Int) (r4_0 : Int) (r4_1 : BS) (r4_2 : Int) (r6_0 : Int) (r6_1 : BS) (r6_2 : Int) (σ : H) :
  denC E D W N (C36_2 ) ⟨[(8, (V.int .i64 v8))], [(4, (4, 0)), (6, (6, 0))], [(4, [(V.int .i64 r4_0), (V.str r4_1), (V.int .i64 r4_2)]), (6, [(V.int .i64 r6_0), (V.str r6_1), (V.int .i64 r6_2)])], σ⟩ (fun s' => denC E D W N (.keep [(8, (.int .i64))] [4, 6] [(4, [(.int .i64), .str, (.int .i64)]), (6, [(.int .i64), .str, (.int .i64)])] cc1) s' (Fin36 E) (fun _ _ => none) (Fin36 E)) (blkK 0 (fun s' => denC E D W N (.keep [(8, (.int .i64))] [4, 6] [(4, [(.int .i64), .str, (.int .i64)]), (6, [(.int .i64), .str, (.int .i64)])] cc1) s' (Fin36 E) (fun _ _ => none) (Fin36 E)) (fun _ _ => none)) (Fin36 E) =
  T36_2 E D W (fun v8 r4_0 r4_1 r4_2 r6_0 r6_1 r6_2 σ => denC E D W N cc1 ⟨[(8, (V.int .i64 v8))], [(4, (4, 0)), (6, (6, 0))], [(4, [(V.int .i64 r4_0), (V.str r4_1), (V.int .i64 r4_2)]), (6, [(V.int .i64 r6_0), (V.str r6_1), (V.int .i64 r6_2)])], σ⟩ (Fin36 E) (fun _ _ => none) (Fin36 E)) v8 r4_0 r4_1 r4_2 r6_0 r6_1 r6_2 σ := by kernel_rfl
def J36_1 (E : List (Nat × Blk)) (D : Den) (W : DrawFn) (N : Nat) : Int → Int → BS → Int → Int → BS → Int → H → Ans := T36_1 E D W 
theorem JE36_1 (E : List (Nat × Blk)) (D : Den) (W : DrawFn) (N : Nat) (v8 : Int) (r4_0 : Int) (r4_1 : BS) (r4_2 : Int) (r6_0 : Int) (r6_1 : BS) (r6_2 : Int) (σ : H) :
  denC E D W N C36_1 ⟨[(8, (V.int .i64 v8))], [(4, (4, 0)), (6, (6, 0))], [(4, [(V.int .i64 r4_0), (V.str r4_1), (V.int .i64 r4_2)]), (6, [(V.int .i64 r6_0), (V.str r6_1), (V.int .i64 r6_2)])], σ⟩ (Fin36 E) (fun _ _ => none) (Fin36 E) = J36_1 E D W N v8 r4_0 r4_1 r4_2 r6_0 r6_1 r6_2 σ := by
  refine (P36_1 E D W N   v8 r4_0 r4_1 r4_2 r6_0 r6_1 r6_2 σ).trans ?_
  kernel_rfl
def J36_2 (E : List (Nat × Blk)) (D : Den) (W : DrawFn) (N : Nat) : Int → Int → BS → Int → Int → BS → Int → H → Ans := T36_2 E D W (J36_1 E D W N )
theorem JE36_2 (E : List (Nat × Blk)) (D : Den) (W : DrawFn) (N : Nat) (v8 : Int) (r4_0 : Int) (r4_1 : BS) (r4_2 : Int) (r6_0 : Int) (r6_1 : BS) (r6_2 : Int) (σ : H) :
  denC E D W N C36_2 ⟨[(8, (V.int .i64 v8))], [(4, (4, 0)), (6, (6, 0))], [(4, [(V.int .i64 r4_0), (V.str r4_1), (V.int .i64 r4_2)]), (6, [(V.int .i64 r6_0), (V.str r6_1), (V.int .i64 r6_2)])], σ⟩ (fun s' => denC E D W N (.keep [(8, (.int .i64))] [4, 6] [(4, [(.int .i64), .str, (.int .i64)]), (6, [(.int .i64), .str, (.int .i64)])] C36_1) s' (Fin36 E) (fun _ _ => none) (Fin36 E)) (blkK 0 (fun s' => denC E D W N (.keep [(8, (.int .i64))] [4, 6] [(4, [(.int .i64), .str, (.int .i64)]), (6, [(.int .i64), .str, (.int .i64)])] C36_1) s' (Fin36 E) (fun _ _ => none) (Fin36 E)) (fun _ _ => none)) (Fin36 E) = J36_2 E D W N v8 r4_0 r4_1 r4_2 r6_0 r6_1 r6_2 σ := by
  refine (P36_2 E D W N C36_1  v8 r4_0 r4_1 r4_2 r6_0 r6_1 r6_2 σ).trans ?_
  simp only [JE36_1]
  kernel_rfl
def J36_0 (E : List (Nat × Blk)) (D : Den) (W : DrawFn) (N : Nat) : BS → Int → H → Ans := T36_0 E D W (J36_1 E D W N ) (J36_2 E D W N )
theorem JE36_0 (E : List (Nat × Blk)) (D : Den) (W : DrawFn) (N : Nat) (v0 : BS) (v1 : Int) (σ : H) :
  denC E D W N (C36_0 C36_1 C36_2) ⟨[(0, (V.str v0)), (1, (V.int .i64 v1))], [], [], σ⟩ (Fin36 E) (fun _ _ => none) (Fin36 E) = J36_0 E D W N v0 v1 σ := by
  refine (P36_0 E D W N C36_1 C36_2  v0 v1 σ).trans ?_
  simp only [JE36_1, JE36_2]
  kernel_rfl
def F36 (E : List (Nat × Blk)) (D : Den) (W : DrawFn) (N : Nat) (args : List V) (σ : H) : Ans :=
 rtCons args fun x1 l2 =>
 rtStr x1 fun x3 =>
 rtCons l2 fun x4 l5 =>
 rtInt .i64 x4 fun x6 =>
 rtNil l5 (
 J36_0 E D W N x3 x6 σ)
def A36 : XFn := ⟨103, [.str, (.int .i64)], [(.cell 4 (some 3)), (.tmp 5)], (C36_0 C36_1 C36_2)⟩
theorem FE36 (E : List (Nat × Blk)) (D : Den) (W : DrawFn) (N : Nat) (args : List V) (σ : H) : runX E D W N A36 args σ = F36 E D W N args σ := by
  unfold F36
  simp only [← JE36_0]
  kernel_rfl
theorem AO36 : A36.body.ok = true := by kernel_rfl

/-! ### F37: __ogham_oghamref05.parser_.next -/
def Fin37 (E : List (Nat × Blk)) : St → Ans := fun s => resK E s [(.cell 2 (some 3))] fun l => some (oneV l, s.σ)
def C37_0 (cc1 : XC) : XC := (.seq (.ops (.pal 2 [] 74 [(V.int .i64 (Int.ofNat 0)), (V.str ⟨0, 0⟩), (V.int .i64 (Int.ofNat 0))] <|
 .nil))
 (.seq (.draw (.op (some 4) .any [0] (.mov (.tmp 0)) <|
 .op (some 5) .any [4] (.nilck (.tmp 4)) <|
 .op (some 6) .any [5] (.faddr 0 (.tmp 5)) <|
 .op (some 7) .any [6] (.load none (.tmp 6)) <|
 .op (some 8) .any [0] (.mov (.tmp 0)) <|
 .op (some 9) .any [8] (.nilck (.tmp 8)) <|
 .op (some 10) .any [9] (.faddr 1 (.tmp 9)) <|
 .op (some 11) (.int .i64) [10] (.load none (.tmp 10)) <|
 .op (some 12) .any [7, 11] (.iaddrS 3 (.tmp 7) (.tmp 11)) <|
 .op (some 13) (.agg [(.int .i64), .str, (.int .i64)]) [12] (.load (some 3) (.tmp 12)) <|
 .pal 3 [] 74 [(V.int .i64 (Int.ofNat 0)), (V.str ⟨0, 0⟩), (V.int .i64 (Int.ofNat 0))] <|
 .op none (.agg [(.int .i64), .str, (.int .i64)]) [3, 13] (.store 3 (.tmp 3) (.tmp 13)) <|
 .nil) [0, 1, 3, 7, 0, 16, 48, 112, 255, 511, 0, 2047])
 (.seq (.seq (.draw (.op (some 14) .any [0] (.mov (.tmp 0)) <|
 .op (some 15) .any [14] (.nilck (.tmp 14)) <|
 .op (some 16) .any [15] (.faddr 1 (.tmp 15)) <|
 .op (some 17) (.int .i64) [16] (.load none (.tmp 16)) <|
 .op (some 18) .any [17] (.bin .add .none (.tmp 17) (.con (V.int .i64 (Int.ofNat 1)))) <|
 .op (some 19) .any [0] (.mov (.tmp 0)) <|
 .op (some 20) .any [19] (.nilck (.tmp 19)) <|
 .op (some 21) .any [20] (.faddr 0 (.tmp 20)) <|
 .op (some 22) .any [21] (.load none (.tmp 21)) <|
 .op (some 23) .any [22] (.len false (.tmp 22)) <|
 .op (some 24) .any [18, 23] (.bin .lss .none (.tmp 18) (.tmp 23)) <|
 .nil) [0, 1, 3, 7, 15, 0, 32, 96, 224, 480, 1023])
 (.cond (.tmp 24) (.ops (.op (some 25) .any [0] (.mov (.tmp 0)) <|
 .op (some 26) .any [25] (.nilck (.tmp 25)) <|
 .op (some 27) .any [26] (.faddr 1 (.tmp 26)) <|
 .op (some 28) (.int .i64) [27] (.load none (.tmp 27)) <|
 .op (some 29) .any [28] (.bin .add .none (.tmp 28) (.con (V.int .i64 (Int.ofNat 1)))) <|
 .op (some 30) .any [25] (.nilck (.tmp 25)) <|
 .op (some 31) .any [30] (.faddr 1 (.tmp 30)) <|
 .op none .any [31, 29] (.store 1 (.tmp 31) (.tmp 29)) <|
 .nil))
 .skip))
 (.keep [] [2, 3] [(2, [(.int .i64), .str, (.int .i64)]), (3, [(.int .i64), .str, (.int .i64)])] cc1))))
def T37_0 (E : List (Nat × Blk)) (D : Den) (W : DrawFn) (K1 : Int → BS → Int → Int → BS → Int → H → Ans) (v0b : Nat) (v0o : Nat) (σ : H) : Ans :=
 ldK E σ v0b v0o fun u1 =>
 ldK E σ v0b (Nat.add v0o 1) fun u2 =>
 rtInt .i64 u2 fun x3 =>
 iaddrSK 3 u1 x3 fun b4 o5 =>
 ldnK E σ b4 o5 3 fun l6 =>
 rtCons l6 fun x7 l8 =>
 rtInt .i64 x7 fun x9 =>
 rtCons l8 fun x10 l11 =>
 rtStr x10 fun x12 =>
 rtCons l11 fun x13 l14 =>
 rtInt .i64 x13 fun x15 =>
 rtNil l14 (
 ldK E σ v0b (Nat.add v0o 1) fun u16 =>
 rtInt .i64 u16 fun x17 =>
 ldK E σ v0b v0o fun u18 =>
 slenK u18 fun n19 =>
 condK (ltF (addF .i64 x17 (Int.ofNat 1)) (Int.ofNat n19)) (
 ldK E σ v0b (Nat.add v0o 1) fun u20 =>
 rtInt .i64 u20 fun x21 =>
 stK 1 v0b (Nat.add v0o 1) (V.int .i64 (addF .i64 x21 (Int.ofNat 1))) σ fun s22 =>
 K1 (Int.ofNat 0) (BS.mk 0 0) (Int.ofNat 0) x9 x12 x15 s22) (
 K1 (Int.ofNat 0) (BS.mk 0 0) (Int.ofNat 0) x9 x12 x15 σ))
def C37_1 : XC := (.seq (.ops (.op (some 32) (.agg [(.int .i64), .str, (.int .i64)]) [3] (.load (some 3) (.tmp 3)) <|
 .op none (.agg [(.int .i64), .str, (.int .i64)]) [2, 32] (.store 3 (.tmp 2) (.tmp 32)) <|
 .nil))
 .ret)
def T37_1 (E : List (Nat × Blk)) (D : Den) (W : DrawFn) (r2_0 : Int) (r2_1 : BS) (r2_2 : Int) (r3_0 : Int) (r3_1 : BS) (r3_2 : Int) (σ : H) : Ans :=
 some ((V.agg [(V.int .i64 r3_0), (V.str r3_1), (V.int .i64 r3_2)]), σ)
theorem P37_0 (E : List (Nat × Blk)) (D : Den) (W : DrawFn) (N : Nat) (cc1 : XC) (v0b : Nat) (v0o : Nat) (σ : H) :
  denC E D W N (C37_0 cc1) ⟨[(0, (V.ptr v0b v0o))], [], [], σ⟩ (Fin37 E) (fun _ _ => none) (Fin37 E) =
  T37_0 E D W (fun r2_0 r2_1 r2_2 r3_0 r3_1 r3_2 σ => denC E D W N cc1 ⟨[], [(2, (2, 0)), (3, (3, 0))], [(2, [(V.int .i64 r2_0), (V.str r2_1), (V.int .i64 r2_2)]), (3, [(V.int .i64 r3_0), (V.str r3_1), (V.int .i64 r3_2)])], σ⟩ (Fin37 E) (fun _ _ => none) (Fin37 E)) v0b v0o σ := by kernel_rfl
theorem P37_1 (E : List (Nat × Blk)) (D : Den) (W : DrawFn) (N : Nat) (r2_0 : Int) (r2_1 : BS) (r2_2 : Int) (r3_0 : Int) (r3_1 : BS) (r3_2 : Int) (σ : H) :
  denC E D W N (C37_1 ) ⟨[], [(2, (2, 0)), (3, (3, 0))], [(2, [(V.int .i64 r2_0), (V.str r2_1), (V.int .i64 r2_2)]), (3, [(V.int .i64 r3_0), (V.str r3_1), (V.int .i64 r3_2)])], σ⟩ (Fin37 E) (fun _ _ => none) (Fin37 E) =
  T37_1 E D W  r2_0 r2_1 r2_2 r3_0 r3_1 r3_2 σ := by kernel_rfl
def J37_1 (E : List (Nat × Blk)) (D : Den) (W : DrawFn) (N : Nat) : Int → BS → Int → Int → BS → Int → H → Ans := T37_1 E D W 
theorem JE37_1 (E : List (Nat × Blk)) (D : Den) (W : DrawFn) (N : Nat) (r2_0 : Int) (r2_1 : BS) (r2_2 : Int) (r3_0 : Int) (r3_1 : BS) (r3_2 : Int) (σ : H) :
  denC E D W N C37_1 ⟨[], [(2, (2, 0)), (3, (3, 0))], [(2, [(V.int .i64 r2_0), (V.str r2_1), (V.int .i64 r2_2)]), (3, [(V.int .i64 r3_0), (V.str r3_1), (V.int .i64 r3_2)])], σ⟩ (Fin37 E) (fun _ _ => none) (Fin37 E) = J37_1 E D W N r2_0 r2_1 r2_2 r3_0 r3_1 r3_2 σ := by
  refine (P37_1 E D W N   r2_0 r2_1 r2_2 r3_0 r3_1 r3_2 σ).trans ?_
  kernel_rfl
def J37_0 (E : List (Nat × Blk)) (D : Den) (W : DrawFn) (N : Nat) : Nat → Nat → H → Ans := T37_0 E D W (J37_1 E D W N )
theorem JE37_0 (E : List (Nat × Blk)) (D : Den) (W : DrawFn) (N : Nat) (v0b : Nat) (v0o : Nat) (σ : H) :
  denC E D W N (C37_0 C37_1) ⟨[(0, (V.ptr v0b v0o))], [], [], σ⟩ (Fin37 E) (fun _ _ => none) (Fin37 E) = J37_0 E D W N v0b v0o σ := by
  refine (P37_0 E D W N C37_1  v0b v0o σ).trans ?_
  simp only [JE37_1]
  kernel_rfl
def F37 (E : List (Nat × Blk)) (D : Den) (W : DrawFn) (N : Nat) (args : List V) (σ : H) : Ans :=
 rtCons args fun x1 l2 =>
 rtPtr x1 fun b3 o4 =>
 rtNil l2 (
 J37_0 E D W N b3 o4 σ)
def A37 : XFn := ⟨33, [.ptr], [(.cell 2 (some 3))], (C37_0 C37_1)⟩
theorem FE37 (E : List (Nat × Blk)) (D : Den) (W : DrawFn) (N : Nat) (args : List V) (σ : H) : runX E D W N A37 args σ = F37 E D W N args σ := by
  unfold F37
  simp only [← JE37_0]
  kernel_rfl
theorem AO37 : A37.body.ok = true := by kernel_rfl

def C38_0 (cc1 : XC) (cc2 : XC) : XC := (.seq (.ops (.op (some 1) .any [0] (.box 74 (.tmp 0)) <|
 .op (some 2) .any [] (.mov (.con (V.bool false))) <|
 .nil))
 (.seq (.ops (.op (some 5) .any [] (.buildSlice 9 10 [(V.str ⟨0, 0⟩), (V.str ⟨0, 0⟩), (V.str ⟨0, 0⟩), (V.str ⟨0, 0⟩), (V.str ⟨0, 0⟩), (V.str ⟨0, 0⟩), (V.str ⟨0, 0⟩), (V.str ⟨0, 0⟩), (V.str ⟨0, 0⟩), (V.str ⟨0, 0⟩)] [(0, 1, (.con (V.str ⟨1, 91⟩))), (1, 1, (.con (V.str ⟨7, 22026814072246082⟩))), (2, 1, (.con (V.str ⟨4, 1280070990⟩))), (3, 1, (.con (V.str ⟨10, 488440487847103610377301⟩))), (4, 1, (.con (V.str ⟨7, 23157120498421321⟩))), (5, 1, (.con (V.str ⟨5, 361940403023⟩))), (6, 1, (.con (V.str ⟨10, 322399817400452109389381⟩))), (7, 1, (.con (V.str ⟨3, 5522771⟩))), (8, 1, (.con (V.str ⟨6, 76155295057987⟩))), (9, 1, (.con (V.str ⟨8, 4990918871747741011⟩)))]) <|
 .op (some 3) .any [5] (.mov (.tmp 5)) <|
 .nil))
 (.seq (.seq (.ops (.op (some 4) .any [] (.mov (.con (V.int .i64 (Int.ofNat 0)))) <|
 .nil))
 (.block 0 (.loop [(1, .ptr), (3, .any), (4, (.int .i64))] [] [] cc2)))
 (.keep [(1, .ptr)] [] [] cc1))))
def C38_1 : XC := (.seq (.ops (.op (some 29) .any [1] (.faddr 0 (.tmp 1)) <|
 .op (some 30) (.int .i64) [29] (.load none (.tmp 29)) <|
 .op (some 31) .any [30] (.bin .eql .none (.tmp 30) (.con (V.int .i64 (Int.ofNat 1)))) <|
 .op (some 2) .any [31] (.mov (.tmp 31)) <|
 .nil))
 .ret)
def C38_2 : XC := (.seq (.seq (.ops (.op (some 6) .any [4] (.mov (.tmp 4)) <|
 .op (some 7) .any [3] (.mov (.tmp 3)) <|
 .op (some 8) .any [7] (.len false (.tmp 7)) <|
 .op (some 9) .any [6, 8] (.bin .lss .none (.tmp 6) (.tmp 8)) <|
 .nil))
 (.cond (.tmp 9) .skip
 (.exit 0)))
 (.seq (.block 1 (.seq (.draw (.op (some 12) .any [3] (.mov (.tmp 3)) <|
 .op (some 13) .any [4] (.mov (.tmp 4)) <|
 .op (some 14) .any [12, 13] (.iaddrS 1 (.tmp 12) (.tmp 13)) <|
 .op (some 15) .str [14] (.load none (.tmp 14)) <|
 .op (some 16) .any [1] (.faddr 1 (.tmp 1)) <|
 .op (some 17) .str [16] (.load none (.tmp 16)) <|
 .op (some 18) .any [15, 17] (.bin .eql .none (.tmp 15) (.tmp 17)) <|
 .op (some 19) .any [18] (.mov (.tmp 18)) <|
 .grp 19 true (.op (some 20) .any [1, 19] (.faddr 0 (.tmp 1)) <|
 .op (some 21) (.int .i64) [20, 19] (.load none (.tmp 20)) <|
 .op (some 22) .any [21, 19] (.bin .eql .none (.tmp 21) (.con (V.int .i64 (Int.ofNat 5)))) <|
 .op (some 23) .any [22, 19] (.mov (.tmp 22)) <|
 .grp 23 false (.op (some 24) .any [1, 23] (.faddr 0 (.tmp 1)) <|
 .op (some 25) (.int .i64) [24, 23] (.load none (.tmp 24)) <|
 .op (some 26) .any [25, 23] (.bin .eql .none (.tmp 25) (.con (V.int .i64 (Int.ofNat 6)))) <|
 .nil) 27 [23, 26, 19] (.tmp 23) (.con (V.bool true)) (.tmp 26) <|
 .nil) 28 [19, 27] (.tmp 19) (.tmp 27) (.con (V.bool false)) <|
 .nil) [0, 0, 3, 7, 0, 16, 63, 127, 255, 511, 1023, 2047, 4095, 8191, 16383, 32767, 65535])
 (.cond (.tmp 28) (.seq (.ops (.op (some 2) .any [] (.mov (.con (V.bool true))) <|
 .nil))
 .ret)
 .skip)))
 (.ops (.op (some 10) .any [4] (.mov (.tmp 4)) <|
 .op (some 11) .any [10] (.bin .add .none (.tmp 10) (.con (V.int .i64 (Int.ofNat 1)))) <|
 .op (some 4) .any [11] (.mov (.tmp 11)) <|
 .nil))))
def A38 : XFn := ⟨32, [(.agg [(.int .i64), .str, (.int .i64)])], [(.tmp 2)], (C38_0 C38_1 C38_2)⟩
end
end Go.Proofs.YtmgbgifepccgpaaGreatDoor
