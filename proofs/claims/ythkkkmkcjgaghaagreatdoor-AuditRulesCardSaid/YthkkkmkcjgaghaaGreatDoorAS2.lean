/- The code of the functions that are entered. Printed by a program off the dump. -/
import Derived.Test.YthkkkmkcjgaghaaGreatDoorAOgX
import Derived.KernelRfl
set_option linter.all false
set_option maxRecDepth 100000
set_option maxHeartbeats 0
namespace Go.Proofs.YthkkkmkcjgaghaaGreatDoor
open Go Go.Og
noncomputable section
/-! ### F136: ogham_table.items -/
def Fin136 (E : List (Nat × Blk)) : St → Ans := fun s => resK E s [(.tmp 2), (.tmp 3)] fun l => some (oneV l, s.σ)
def C136_0 (cc1 : XC) (cc2 : XC) : XC := (.seq (.ops (.op (some 1) .any [0] (.box 203 (.tmp 0)) <|
 .op (some 2) .any [] (.mov (.con V.nils)) <|
 .op (some 3) .any [] (.mov (.con (V.int .i64 (Int.ofNat 0)))) <|
 .nil))
 (.seq (.ops (.op (some 11) (.agg [(.int .i64), .str, .bool, (.int .i64), (.int .i64), .bool, .bool, .bool, .bool, (.int .i64), (.int .i64), .any, .any, (.int .i64), .bool, (.int .i64)]) [1] (.load (some 16) (.tmp 1)) <|
 .op (some 12) (.tup [.any, .bool]) [11] (.call 163 [(.tmp 11)]) <|
 .op (some 10) .any [12] (.mov (.tmp 12)) <|
 .op (some 13) .any [10] (.extract 0 (.tmp 10)) <|
 .op (some 14) .any [10] (.extract 1 (.tmp 10)) <|
 .op (some 4) .any [13] (.mov (.tmp 13)) <|
 .op (some 5) .any [14] (.mov (.tmp 14)) <|
 .nil))
 (.seq (.seq (.ops (.op (some 15) .any [5] (.mov (.tmp 5)) <|
 .op (some 16) .any [15] (.un .not (.tmp 15)) <|
 .nil))
 (.cond (.tmp 16) (.seq (.ops (.op (some 2) .any [] (.mov (.con V.nils)) <|
 .op (some 3) .any [] (.mov (.con (V.int .i64 (Int.ofNat 11)))) <|
 .nil))
 .ret)
 .skip))
 (.seq (.ops (.op (some 17) .any [1] (.faddr 13 (.tmp 1)) <|
 .op (some 18) (.int .i64) [17] (.load none (.tmp 17)) <|
 .op (some 19) .any [1] (.faddr 11 (.tmp 1)) <|
 .op (some 20) .any [19] (.load none (.tmp 19)) <|
 .op (some 21) (.int .i64) [18, 20] (.call 164 [(.tmp 18), (.tmp 20)]) <|
 .op (some 6) .any [21] (.mov (.tmp 21)) <|
 .nil))
 (.seq (.seq (.ops (.op (some 22) .any [4] (.mov (.tmp 4)) <|
 .op (some 23) .any [22] (.len false (.tmp 22)) <|
 .op (some 24) .any [] (.mov (.con (V.int .i64 (Int.ofNat 0)))) <|
 .nil))
 (.block 0 (.loop [(4, .any), (6, (.int .i64)), (22, .any), (23, (.int .i64)), (24, (.int .i64))] [] [] cc2)))
 (.keep [(4, .any)] [] [] cc1))))))
def T136_0 (E : List (Nat × Blk)) (D : Den) (W : DrawFn) (K2 : V → Int → V → Int → Int → H → Ans) (v0_0 : Int) (v0_1 : BS) (v0_2 : Bool) (v0_3 : Int) (v0_4 : Int) (v0_5 : Bool) (v0_6 : Bool) (v0_7 : Bool) (v0_8 : Bool) (v0_9 : Int) (v0_10 : Int) (v0_11 : V) (v0_12 : V) (v0_13 : Int) (v0_14 : Bool) (v0_15 : Int) (σ : H) : Ans :=
 chk (allOne (V.cells (V.agg [(V.int .i64 v0_0), (V.str v0_1), (V.bool v0_2), (V.int .i64 v0_3), (V.int .i64 v0_4), (V.bool v0_5), (V.bool v0_6), (V.bool v0_7), (V.bool v0_8), (V.int .i64 v0_9), (V.int .i64 v0_10), v0_11, v0_12, (V.int .i64 v0_13), (V.bool v0_14), (V.int .i64 v0_15)]))) (
 let s1 := newB σ (.cells (V.cells (V.agg [(V.int .i64 v0_0), (V.str v0_1), (V.bool v0_2), (V.int .i64 v0_3), (V.int .i64 v0_4), (V.bool v0_5), (V.bool v0_6), (V.bool v0_7), (V.bool v0_8), (V.int .i64 v0_9), (V.int .i64 v0_10), v0_11, v0_12, (V.int .i64 v0_13), (V.bool v0_14), (V.int .i64 v0_15)])));
 ldnK E s1 (H.next σ) 0 16 fun l2 =>
 rtCons l2 fun x3 l4 =>
 rtInt .i64 x3 fun x5 =>
 rtCons l4 fun x6 l7 =>
 rtStr x6 fun x8 =>
 rtCons l7 fun x9 l10 =>
 rtBool x9 fun x11 =>
 rtCons l10 fun x12 l13 =>
 rtInt .i64 x12 fun x14 =>
 rtCons l13 fun x15 l16 =>
 rtInt .i64 x15 fun x17 =>
 rtCons l16 fun x18 l19 =>
 rtBool x18 fun x20 =>
 rtCons l19 fun x21 l22 =>
 rtBool x21 fun x23 =>
 rtCons l22 fun x24 l25 =>
 rtBool x24 fun x26 =>
 rtCons l25 fun x27 l28 =>
 rtBool x27 fun x29 =>
 rtCons l28 fun x30 l31 =>
 rtInt .i64 x30 fun x32 =>
 rtCons l31 fun x33 l34 =>
 rtInt .i64 x33 fun x35 =>
 rtCons l34 fun x36 l37 =>
 rtCons l37 fun x38 l39 =>
 rtCons l39 fun x40 l41 =>
 rtInt .i64 x40 fun x42 =>
 rtCons l41 fun x43 l44 =>
 rtBool x43 fun x45 =>
 rtCons l44 fun x46 l47 =>
 rtInt .i64 x46 fun x48 =>
 rtNil l47 (
 callK (D 163 [(V.agg [(V.int .i64 x5), (V.str x8), (V.bool x11), (V.int .i64 x14), (V.int .i64 x17), (V.bool x20), (V.bool x23), (V.bool x26), (V.bool x29), (V.int .i64 x32), (V.int .i64 x35), x36, x38, (V.int .i64 x42), (V.bool x45), (V.int .i64 x48)])] s1) fun u49 s50 =>
 rtTup u49 fun l51 =>
 rtCons l51 fun x52 l53 =>
 rtCons l53 fun x54 l55 =>
 rtBool x54 fun x56 =>
 rtNil l55 (
 condK (not x56) (
 some ((V.tup [V.nils, (V.int .i64 (Int.ofNat 11))]), s50)) (
 ldK E s50 (H.next σ) 13 fun u57 =>
 rtInt .i64 u57 fun x58 =>
 ldK E s50 (H.next σ) 11 fun u59 =>
 callK (D 164 [(V.int .i64 x58), u59] s50) fun u60 s61 =>
 rtInt .i64 u60 fun x62 =>
 slenK x52 fun n63 =>
 K2 x52 x62 x52 (Int.ofNat n63) (Int.ofNat 0) s61))))
def C136_1 : XC := (.seq (.ops (.op (some 52) .any [4] (.mov (.tmp 4)) <|
 .op (some 2) .any [52] (.mov (.tmp 52)) <|
 .op (some 3) .any [] (.mov (.con (V.int .i64 (Int.ofNat 0)))) <|
 .nil))
 .ret)
def T136_1 (E : List (Nat × Blk)) (D : Den) (W : DrawFn) (v4 : V) (σ : H) : Ans :=
 some ((V.tup [v4, (V.int .i64 (Int.ofNat 0))]), σ)
def C136_2 : XC := (.seq (.ops (.op (some 25) .any [24, 23] (.bin .lss .none (.tmp 24) (.tmp 23)) <|
 .nil))
 (.seq (.cond (.tmp 25) .skip
 (.exit 0))
 (.seq (.block 1 (.seq (.ops (.op (some 26) .any [24] (.mov (.tmp 24)) <|
 .op (some 27) .any [22, 24] (.iaddrS 3 (.tmp 22) (.tmp 24)) <|
 .op (some 28) (.agg [.str, (.int .i64), .bool]) [27] (.load (some 3) (.tmp 27)) <|
 .op (some 8) .any [] (.alloc 121 [(V.str ⟨0, 0⟩), (V.int .i64 (Int.ofNat 0)), (V.bool false)]) <|
 .op (some 7) .any [26] (.mov (.tmp 26)) <|
 .op none (.agg [.str, (.int .i64), .bool]) [8, 28] (.store 3 (.tmp 8) (.tmp 28)) <|
 .nil))
 (.seq (.ops (.op (some 29) .any [4] (.mov (.tmp 4)) <|
 .op (some 30) .any [7] (.mov (.tmp 7)) <|
 .op (some 31) .any [29, 30] (.sliceSl 3 (.tmp 29) none (some (.tmp 30)) none) <|
 .op (some 32) .any [8] (.mkfn 166 [] [(.tmp 8)]) <|
 .op (some 33) .bool [31, 32] (.call 165 [(.tmp 31), (.tmp 32)]) <|
 .op (some 9) .any [33] (.mov (.tmp 33)) <|
 .nil))
 (.seq (.draw (.op (some 34) .any [9] (.mov (.tmp 9)) <|
 .op (some 35) .any [34] (.mov (.tmp 34)) <|
 .grp 35 false (.op (some 36) .any [7, 35] (.mov (.tmp 7)) <|
 .op (some 37) .any [6, 35] (.mov (.tmp 6)) <|
 .op (some 38) .any [36, 37, 35] (.bin .gtr .none (.tmp 36) (.tmp 37)) <|
 .op (some 39) .any [38, 35] (.mov (.tmp 38)) <|
 .grp 39 true (.op (some 40) .any [8, 39] (.faddr 1 (.tmp 8)) <|
 .op (some 41) (.int .i64) [40, 39] (.load none (.tmp 40)) <|
 .op (some 42) .any [4, 39] (.mov (.tmp 4)) <|
 .op (some 43) .any [7, 39] (.mov (.tmp 7)) <|
 .op (some 44) .any [43, 39] (.bin .sub .none (.tmp 43) (.con (V.int .i64 (Int.ofNat 1)))) <|
 .op (some 45) .any [42, 44, 39] (.iaddrS 3 (.tmp 42) (.tmp 44)) <|
 .op (some 46) .any [45, 39] (.faddr 1 (.tmp 45)) <|
 .op (some 47) (.int .i64) [46, 39] (.load none (.tmp 46)) <|
 .op (some 48) .any [41, 47, 39] (.bin .leq .none (.tmp 41) (.tmp 47)) <|
 .nil) 49 [39, 48, 35] (.tmp 39) (.tmp 48) (.con (V.bool false)) <|
 .nil) 50 [35, 49] (.tmp 35) (.con (V.bool true)) (.tmp 49) <|
 .nil) [0, 1, 3, 3, 15, 31, 63, 127, 63, 63, 575, 1855, 3903, 7999, 16383, 32767, 65535])
 (.cond (.tmp 50) (.seq (.ops (.op (some 2) .any [] (.mov (.con V.nils)) <|
 .op (some 3) .any [] (.mov (.con (V.int .i64 (Int.ofNat 8)))) <|
 .nil))
 .ret)
 .skip)))))
 (.ops (.op (some 51) .any [24] (.bin .add .none (.tmp 24) (.con (V.int .i64 (Int.ofNat 1)))) <|
 .op (some 24) .any [51] (.mov (.tmp 51)) <|
 .nil)))))
def T136_2 (E : List (Nat × Blk)) (D : Den) (W : DrawFn) (K1 : V → H → Ans) (R2 : V → Int → V → Int → Int → H → Ans) (v4 : V) (v6 : Int) (v22 : V) (v23 : Int) (v24 : Int) (σ : H) : Ans :=
 condK (ltF v24 v23) (
 iaddrSK 3 v22 v24 fun b1 o2 =>
 ldnK E σ b1 o2 3 fun l3 =>
 rtCons l3 fun x4 l5 =>
 rtStr x4 fun x6 =>
 rtCons l5 fun x7 l8 =>
 rtInt .i64 x7 fun x9 =>
 rtCons l8 fun x10 l11 =>
 rtBool x10 fun x12 =>
 rtNil l11 (
 let s13 := newB σ (.cells [(V.str ⟨0, 0⟩), (V.int .i64 (Int.ofNat 0)), (V.bool false)]);
 stK 3 (H.next σ) 0 (V.agg [(V.str x6), (V.int .i64 x9), (V.bool x12)]) s13 fun s14 =>
 gK (sliceV 3 v4 none (some (V.int .i64 v24)) none) fun u15 =>
 callK (D 165 [u15, (V.fn 166 [] [(V.ptr (H.next σ) 0)])] s14) fun u16 s17 =>
 rtBool u16 fun x18 =>
 joinB (fun c19 s20 =>
 condK c19 (
 some ((V.tup [V.nils, (V.int .i64 (Int.ofNat 8))]), s20)) (
 R2 v4 v6 v22 v23 (addF .i64 v24 (Int.ofNat 1)) s20)) fun k21 =>
 condK x18 (
 k21 true s17) (
 joinB (fun c22 s23 =>
 k21 c22 s23) fun k24 =>
 condK (ltF v6 v24) (
 ldK E s17 (H.next σ) 1 fun u25 =>
 rtInt .i64 u25 fun x26 =>
 iaddrSK 3 v4 (subF .i64 v24 (Int.ofNat 1)) fun b27 o28 =>
 ldK E s17 b27 (Nat.add o28 1) fun u29 =>
 rtInt .i64 u29 fun x30 =>
 k24 (leF x26 x30) s17) (
 k24 false s17)))) (
 K1 v4 σ)
theorem P136_0 (E : List (Nat × Blk)) (D : Den) (W : DrawFn) (N : Nat) (cc1 : XC) (cc2 : XC) (v0_0 : Int) (v0_1 : BS) (v0_2 : Bool) (v0_3 : Int) (v0_4 : Int) (v0_5 : Bool) (v0_6 : Bool) (v0_7 : Bool) (v0_8 : Bool) (v0_9 : Int) (v0_10 : Int) (v0_11 : V) (v0_12 : V) (v0_13 : Int) (v0_14 : Bool) (v0_15 : Int) (σ : H) :
  denC E D W N (C136_0 cc1 cc2) ⟨[(0, (V.agg [(V.int .i64 v0_0), (V.str v0_1), (V.bool v0_2), (V.int .i64 v0_3), (V.int .i64 v0_4), (V.bool v0_5), (V.bool v0_6), (V.bool v0_7), (V.bool v0_8), (V.int .i64 v0_9), (V.int .i64 v0_10), v0_11, v0_12, (V.int .i64 v0_13), (V.bool v0_14), (V.int .i64 v0_15)]))], [], [], σ⟩ (Fin136 E) (fun _ _ => none) (Fin136 E) =
  T136_0 E D W (fun v4 v6 v22 v23 v24 σ => iterK (fun rec s' => denC E D W N cc2 s' (fun s'' => keepS [(4, .any), (6, (.int .i64)), (22, .any), (23, (.int .i64)), (24, (.int .i64))] [] [] s'' rec) (blkK 0 (fun s' => denC E D W N (.keep [(4, .any)] [] [] cc1) s' (Fin136 E) (fun _ _ => none) (Fin136 E)) (fun _ _ => none)) (Fin136 E)) N ⟨[(4, v4), (6, (V.int .i64 v6)), (22, v22), (23, (V.int .i64 v23)), (24, (V.int .i64 v24))], [], [], σ⟩) v0_0 v0_1 v0_2 v0_3 v0_4 v0_5 v0_6 v0_7 v0_8 v0_9 v0_10 v0_11 v0_12 v0_13 v0_14 v0_15 σ := by kernel_rfl
theorem P136_1 (E : List (Nat × Blk)) (D : Den) (W : DrawFn) (N : Nat) (v4 : V) (σ : H) :
  denC E D W N (C136_1 ) ⟨[(4, v4)], [], [], σ⟩ (Fin136 E) (fun _ _ => none) (Fin136 E) =
  T136_1 E D W  v4 σ := by kernel_rfl
theorem P136_2 (E : List (Nat × Blk)) (D : Den) (W : DrawFn) (N : Nat) (cc1 : XC) (li2 : St → Ans) (v4 : V) (v6 : Int) (v22 : V) (v23 : Int) (v24 : Int) (σ : H) :
  denC E D W N (C136_2 ) ⟨[(4, v4), (6, (V.int .i64 v6)), (22, v22), (23, (V.int .i64 v23)), (24, (V.int .i64 v24))], [], [], σ⟩ (fun s'' => keepS [(4, .any), (6, (.int .i64)), (22, .any), (23, (.int .i64)), (24, (.int .i64))] [] [] s'' li2) (blkK 0 (fun s' => denC E D W N (.keep [(4, .any)] [] [] cc1) s' (Fin136 E) (fun _ _ => none) (Fin136 E)) (fun _ _ => none)) (Fin136 E) =
  T136_2 E D W (fun v4 σ => denC E D W N cc1 ⟨[(4, v4)], [], [], σ⟩ (Fin136 E) (fun _ _ => none) (Fin136 E)) (fun v4 v6 v22 v23 v24 σ => li2 ⟨[(4, v4), (6, (V.int .i64 v6)), (22, v22), (23, (V.int .i64 v23)), (24, (V.int .i64 v24))], [], [], σ⟩) v4 v6 v22 v23 v24 σ := by kernel_rfl
def J136_1 (E : List (Nat × Blk)) (D : Den) (W : DrawFn) (N : Nat) : V → H → Ans := T136_1 E D W 
theorem JE136_1 (E : List (Nat × Blk)) (D : Den) (W : DrawFn) (N : Nat) (v4 : V) (σ : H) :
  denC E D W N C136_1 ⟨[(4, v4)], [], [], σ⟩ (Fin136 E) (fun _ _ => none) (Fin136 E) = J136_1 E D W N v4 σ := by
  refine (P136_1 E D W N   v4 σ).trans ?_
  kernel_rfl
def L136_2 (E : List (Nat × Blk)) (D : Den) (W : DrawFn) (N : Nat) (n : Nat) : V → Int → V → Int → Int → H → Ans :=
  Nat.rec (fun _ _ _ _ _ _ => none) (fun _ ih => T136_2 E D W (J136_1 E D W N ) ih) n
theorem LE136_2 (E : List (Nat × Blk)) (D : Den) (W : DrawFn) (N : Nat) (n : Nat) : ∀ (v4 : V) (v6 : Int) (v22 : V) (v23 : Int) (v24 : Int) (σ : H),
  iterK (fun rec s' => denC E D W N C136_2 s' (fun s'' => keepS [(4, .any), (6, (.int .i64)), (22, .any), (23, (.int .i64)), (24, (.int .i64))] [] [] s'' rec) (blkK 0 (fun s' => denC E D W N (.keep [(4, .any)] [] [] C136_1) s' (Fin136 E) (fun _ _ => none) (Fin136 E)) (fun _ _ => none)) (Fin136 E)) n ⟨[(4, v4), (6, (V.int .i64 v6)), (22, v22), (23, (V.int .i64 v23)), (24, (V.int .i64 v24))], [], [], σ⟩ = L136_2 E D W N n v4 v6 v22 v23 v24 σ := by
  induction n with
  | zero => intro v4 v6 v22 v23 v24 σ; rfl
  | succ n ihn =>
    intro v4 v6 v22 v23 v24 σ
    rw [iterK_succ]
    refine (P136_2 E D W N C136_1 (iterK (fun rec s' => denC E D W N C136_2 s' (fun s'' => keepS [(4, .any), (6, (.int .i64)), (22, .any), (23, (.int .i64)), (24, (.int .i64))] [] [] s'' rec) (blkK 0 (fun s' => denC E D W N (.keep [(4, .any)] [] [] C136_1) s' (Fin136 E) (fun _ _ => none) (Fin136 E)) (fun _ _ => none)) (Fin136 E)) n) v4 v6 v22 v23 v24 σ).trans ?_
    simp only [ihn, JE136_1]
    kernel_rfl
def J136_0 (E : List (Nat × Blk)) (D : Den) (W : DrawFn) (N : Nat) : Int → BS → Bool → Int → Int → Bool → Bool → Bool → Bool → Int → Int → V → V → Int → Bool → Int → H → Ans := T136_0 E D W (L136_2 E D W N N)
theorem JE136_0 (E : List (Nat × Blk)) (D : Den) (W : DrawFn) (N : Nat) (v0_0 : Int) (v0_1 : BS) (v0_2 : Bool) (v0_3 : Int) (v0_4 : Int) (v0_5 : Bool) (v0_6 : Bool) (v0_7 : Bool) (v0_8 : Bool) (v0_9 : Int) (v0_10 : Int) (v0_11 : V) (v0_12 : V) (v0_13 : Int) (v0_14 : Bool) (v0_15 : Int) (σ : H) :
  denC E D W N (C136_0 C136_1 C136_2) ⟨[(0, (V.agg [(V.int .i64 v0_0), (V.str v0_1), (V.bool v0_2), (V.int .i64 v0_3), (V.int .i64 v0_4), (V.bool v0_5), (V.bool v0_6), (V.bool v0_7), (V.bool v0_8), (V.int .i64 v0_9), (V.int .i64 v0_10), v0_11, v0_12, (V.int .i64 v0_13), (V.bool v0_14), (V.int .i64 v0_15)]))], [], [], σ⟩ (Fin136 E) (fun _ _ => none) (Fin136 E) = J136_0 E D W N v0_0 v0_1 v0_2 v0_3 v0_4 v0_5 v0_6 v0_7 v0_8 v0_9 v0_10 v0_11 v0_12 v0_13 v0_14 v0_15 σ := by
  refine (P136_0 E D W N C136_1 C136_2  v0_0 v0_1 v0_2 v0_3 v0_4 v0_5 v0_6 v0_7 v0_8 v0_9 v0_10 v0_11 v0_12 v0_13 v0_14 v0_15 σ).trans ?_
  simp only [LE136_2]
  kernel_rfl
def F136 (E : List (Nat × Blk)) (D : Den) (W : DrawFn) (N : Nat) (args : List V) (σ : H) : Ans :=
 rtCons args fun x1 l2 =>
 rtAgg x1 fun l3 =>
 rtCons l3 fun x4 l5 =>
 rtInt .i64 x4 fun x6 =>
 rtCons l5 fun x7 l8 =>
 rtStr x7 fun x9 =>
 rtCons l8 fun x10 l11 =>
 rtBool x10 fun x12 =>
 rtCons l11 fun x13 l14 =>
 rtInt .i64 x13 fun x15 =>
 rtCons l14 fun x16 l17 =>
 rtInt .i64 x16 fun x18 =>
 rtCons l17 fun x19 l20 =>
 rtBool x19 fun x21 =>
 rtCons l20 fun x22 l23 =>
 rtBool x22 fun x24 =>
 rtCons l23 fun x25 l26 =>
 rtBool x25 fun x27 =>
 rtCons l26 fun x28 l29 =>
 rtBool x28 fun x30 =>
 rtCons l29 fun x31 l32 =>
 rtInt .i64 x31 fun x33 =>
 rtCons l32 fun x34 l35 =>
 rtInt .i64 x34 fun x36 =>
 rtCons l35 fun x37 l38 =>
 rtCons l38 fun x39 l40 =>
 rtCons l40 fun x41 l42 =>
 rtInt .i64 x41 fun x43 =>
 rtCons l42 fun x44 l45 =>
 rtBool x44 fun x46 =>
 rtCons l45 fun x47 l48 =>
 rtInt .i64 x47 fun x49 =>
 rtNil l48 (
 rtNil l2 (
 J136_0 E D W N x6 x9 x12 x15 x18 x21 x24 x27 x30 x33 x36 x37 x39 x43 x46 x49 σ))
def A136 : XFn := ⟨53, [(.agg [(.int .i64), .str, .bool, (.int .i64), (.int .i64), .bool, .bool, .bool, .bool, (.int .i64), (.int .i64), .any, .any, (.int .i64), .bool, (.int .i64)])], [(.tmp 2), (.tmp 3)], (C136_0 C136_1 C136_2)⟩
theorem FE136 (E : List (Nat × Blk)) (D : Den) (W : DrawFn) (N : Nat) (args : List V) (σ : H) : runX E D W N A136 args σ = F136 E D W N args σ := by
  unfold F136
  simp only [← JE136_0]
  kernel_rfl
theorem AO136 : A136.body.ok = true := by kernel_rfl

/-! ### F142: __ogham_print.printer_.list -/
def Fin142 (E : List (Nat × Blk)) : St → Ans := fun s => resK E s [] fun l => some (oneV l, s.σ)
def C142_0 (cc1 : XC) : XC := (.seq (.ops (.op (some 5) .any [0] (.box 157 (.tmp 0)) <|
 .nil))
 (.seq (.ops (.op (some 10) .any [] (.alloc 4 [(V.bool false)]) <|
 .op none .any [10] (.store 1 (.tmp 10) (.con (V.bool true))) <|
 .nil))
 (.seq (.ops (.op (some 13) .any [10, 5] (.mkfn 172 [] [(.tmp 10), (.tmp 5)]) <|
 .op (some 11) .any [13] (.mov (.tmp 13)) <|
 .nil))
 (.seq (.ops (.op (some 12) .any [] (.mov (.con (V.int .i64 (Int.ofNat 0)))) <|
 .nil))
 (.block 0 (.loop [(1, (.int .i64)), (2, (.int .i64)), (3, .bool), (4, .any), (5, .ptr), (11, .any), (12, (.int .i64))] [] [] cc1))))))
def T142_0 (E : List (Nat × Blk)) (D : Den) (W : DrawFn) (K1 : Int → Int → Bool → V → Nat → Nat → V → Int → H → Ans) (v0 : V) (v1 : Int) (v2 : Int) (v3 : Bool) (v4 : V) (σ : H) : Ans :=
 chk (allOne (V.cells v0)) (
 let s1 := newB σ (.cells (V.cells v0));
 let s2 := newB s1 (.cells [(V.bool false)]);
 stK 1 (H.next s1) 0 (V.bool true) s2 fun s3 =>
 K1 v1 v2 v3 v4 (H.next σ) 0 (V.fn 172 [] [(V.ptr (H.next s1) 0), (V.ptr (H.next σ) 0)]) (Int.ofNat 0) s3)
def C142_1 (cc2 : XC) (cc3 : XC) : XC := (.seq (.seq (.ops (.op (some 14) .any [12] (.mov (.tmp 12)) <|
 .op (some 15) .any [1] (.mov (.tmp 1)) <|
 .op (some 16) .any [14, 15] (.bin .leq .none (.tmp 14) (.tmp 15)) <|
 .op (some 17) .any [16] (.mov (.tmp 16)) <|
 .grp 17 true (.op (some 18) .any [5, 17] (.load none (.tmp 5)) <|
 .op (some 19) .any [18, 17] (.nilck (.tmp 18)) <|
 .op (some 20) .any [19, 17] (.faddr 0 (.tmp 19)) <|
 .op (some 21) .any [20, 17] (.faddr 1 (.tmp 20)) <|
 .op (some 22) .bool [21, 17] (.load none (.tmp 21)) <|
 .op (some 23) .any [22, 17] (.un .not (.tmp 22)) <|
 .nil) 24 [17, 23] (.tmp 17) (.tmp 23) (.con (V.bool false)) <|
 .nil))
 (.cond (.tmp 24) .skip
 (.exit 0)))
 (.seq (.block 1 (.seq (.seq (.ops (.op (some 27) .any [3] (.mov (.tmp 3)) <|
 .op (some 28) .any [27] (.mov (.tmp 27)) <|
 .grp 28 true (.op (some 29) .any [12, 28] (.mov (.tmp 12)) <|
 .op (some 30) .any [2, 28] (.mov (.tmp 2)) <|
 .op (some 31) .any [29, 30, 28] (.bin .eql .none (.tmp 29) (.tmp 30)) <|
 .nil) 32 [28, 31] (.tmp 28) (.tmp 31) (.con (V.bool false)) <|
 .nil))
 (.cond (.tmp 32) (.seq (.ops (.op (some 33) .any [11] (.mov (.tmp 11)) <|
 .op (some 34) (.tup []) [33] (.callv (.tmp 33) []) <|
 .nil))
 (.ops (.op (some 35) .any [5] (.load none (.tmp 5)) <|
 .op (some 36) .any [35] (.nilck (.tmp 35)) <|
 .op (some 37) .any [36] (.faddr 0 (.tmp 36)) <|
 .op (some 38) .any [] (.buildSlice 9 1 [(V.str ⟨0, 0⟩)] [(0, 1, (.con (V.str ⟨3, 3026478⟩)))]) <|
 .op (some 39) (.tup []) [37, 38] (.call 71 [(.tmp 37), (.tmp 38)]) <|
 .nil)))
 .skip))
 (.keep [(1, (.int .i64)), (2, (.int .i64)), (3, .bool), (4, .any), (5, .ptr), (11, .any), (12, (.int .i64))] [] [] cc3)))
 (.keep [(1, (.int .i64)), (2, (.int .i64)), (3, .bool), (4, .any), (5, .ptr), (11, .any), (12, (.int .i64))] [] [] cc2)))
def T142_1 (E : List (Nat × Blk)) (D : Den) (W : DrawFn) (K3 : Int → Int → Bool → V → Nat → Nat → V → Int → H → Ans) (v1 : Int) (v2 : Int) (v3 : Bool) (v4 : V) (v5b : Nat) (v5o : Nat) (v11 : V) (v12 : Int) (σ : H) : Ans :=
 joinB (fun c1 s2 =>
 condK c1 (
 joinB (fun c4 s5 =>
 condK c4 (
 callvK D v11 [] s5 fun u7 s8 =>
 rtTup u7 fun l9 =>
 rtNil l9 (
 ldK E s8 v5b v5o fun u10 =>
 rtPtr u10 fun b11 o12 =>
 let s13 := newB s8 (.cells [(V.str (BS.mk 3 3026478))]);
 callK (D 71 [(V.ptr b11 o12), (V.sl (H.next s8) 0 1 (.ex 1))] s13) fun u14 s15 =>
 rtTup u14 fun l16 =>
 rtNil l16 (
 K3 v1 v2 v3 v4 v5b v5o v11 v12 s15))) (
 K3 v1 v2 v3 v4 v5b v5o v11 v12 s5)) fun k6 =>
 condK v3 (
 k6 (eqF v12 v2) s2) (
 k6 false s2)) (
 some ((V.tup []), s2))) fun k3 =>
 condK (leF v12 v1) (
 ldK E σ v5b v5o fun u1 =>
 rtPtr u1 fun b2 o3 =>
 ldK E σ b2 (Nat.add o3 1) fun u4 =>
 rtBool u4 fun x5 =>
 k3 (not x5) σ) (
 k3 false σ)
def C142_2 : XC := (.ops (.op (some 25) .any [12] (.mov (.tmp 12)) <|
 .op (some 26) .any [25] (.bin .add .none (.tmp 25) (.con (V.int .i64 (Int.ofNat 1)))) <|
 .op (some 12) .any [26] (.mov (.tmp 26)) <|
 .nil))
def T142_2 (E : List (Nat × Blk)) (D : Den) (W : DrawFn) (R1 : Int → Int → Bool → V → Nat → Nat → V → Int → H → Ans) (v1 : Int) (v2 : Int) (v3 : Bool) (v4 : V) (v5b : Nat) (v5o : Nat) (v11 : V) (v12 : Int) (σ : H) : Ans :=
 R1 v1 v2 v3 v4 v5b v5o v11 (addF .i64 v12 (Int.ofNat 1)) σ
def C142_3 : XC := (.seq (.ops (.op (some 40) .any [12] (.mov (.tmp 12)) <|
 .op (some 41) .any [1] (.mov (.tmp 1)) <|
 .op (some 42) .any [40, 41] (.bin .lss .none (.tmp 40) (.tmp 41)) <|
 .nil))
 (.cond (.tmp 42) (.seq (.ops (.op (some 43) .any [11] (.mov (.tmp 11)) <|
 .op (some 44) (.tup []) [43] (.callv (.tmp 43) []) <|
 .nil))
 (.ops (.op (some 45) .any [4] (.mov (.tmp 4)) <|
 .op (some 46) .any [12] (.mov (.tmp 12)) <|
 .op (some 47) (.tup []) [45, 46] (.callv (.tmp 45) [(.tmp 46)]) <|
 .nil)))
 .skip))
def T142_3 (E : List (Nat × Blk)) (D : Den) (W : DrawFn) (K2 : Int → Int → Bool → V → Nat → Nat → V → Int → H → Ans) (v1 : Int) (v2 : Int) (v3 : Bool) (v4 : V) (v5b : Nat) (v5o : Nat) (v11 : V) (v12 : Int) (σ : H) : Ans :=
 condK (ltF v12 v1) (
 callvK D v11 [] σ fun u1 s2 =>
 rtTup u1 fun l3 =>
 rtNil l3 (
 callvK D v4 [(V.int .i64 v12)] s2 fun u4 s5 =>
 rtTup u4 fun l6 =>
 rtNil l6 (
 K2 v1 v2 v3 v4 v5b v5o v11 v12 s5))) (
 K2 v1 v2 v3 v4 v5b v5o v11 v12 σ)
theorem P142_0 (E : List (Nat × Blk)) (D : Den) (W : DrawFn) (N : Nat) (cc1 : XC) (v0 : V) (v1 : Int) (v2 : Int) (v3 : Bool) (v4 : V) (σ : H) :
  denC E D W N (C142_0 cc1) ⟨[(0, v0), (1, (V.int .i64 v1)), (2, (V.int .i64 v2)), (3, (V.bool v3)), (4, v4)], [], [], σ⟩ (Fin142 E) (fun _ _ => none) (Fin142 E) =
  T142_0 E D W (fun v1 v2 v3 v4 v5b v5o v11 v12 σ => iterK (fun rec s' => denC E D W N cc1 s' (fun s'' => keepS [(1, (.int .i64)), (2, (.int .i64)), (3, .bool), (4, .any), (5, .ptr), (11, .any), (12, (.int .i64))] [] [] s'' rec) (blkK 0 (Fin142 E) (fun _ _ => none)) (Fin142 E)) N ⟨[(1, (V.int .i64 v1)), (2, (V.int .i64 v2)), (3, (V.bool v3)), (4, v4), (5, (V.ptr v5b v5o)), (11, v11), (12, (V.int .i64 v12))], [], [], σ⟩) v0 v1 v2 v3 v4 σ := by kernel_rfl
theorem P142_1 (E : List (Nat × Blk)) (D : Den) (W : DrawFn) (N : Nat) (cc2 : XC) (cc3 : XC) (li1 : St → Ans) (v1 : Int) (v2 : Int) (v3 : Bool) (v4 : V) (v5b : Nat) (v5o : Nat) (v11 : V) (v12 : Int) (σ : H) :
  denC E D W N (C142_1 cc2 cc3) ⟨[(1, (V.int .i64 v1)), (2, (V.int .i64 v2)), (3, (V.bool v3)), (4, v4), (5, (V.ptr v5b v5o)), (11, v11), (12, (V.int .i64 v12))], [], [], σ⟩ (fun s'' => keepS [(1, (.int .i64)), (2, (.int .i64)), (3, .bool), (4, .any), (5, .ptr), (11, .any), (12, (.int .i64))] [] [] s'' li1) (blkK 0 (Fin142 E) (fun _ _ => none)) (Fin142 E) =
  T142_1 E D W (fun v1 v2 v3 v4 v5b v5o v11 v12 σ => denC E D W N cc3 ⟨[(1, (V.int .i64 v1)), (2, (V.int .i64 v2)), (3, (V.bool v3)), (4, v4), (5, (V.ptr v5b v5o)), (11, v11), (12, (V.int .i64 v12))], [], [], σ⟩ (fun s' => denC E D W N (.keep [(1, (.int .i64)), (2, (.int .i64)), (3, .bool), (4, .any), (5, .ptr), (11, .any), (12, (.int .i64))] [] [] cc2) s' (fun s'' => keepS [(1, (.int .i64)), (2, (.int .i64)), (3, .bool), (4, .any), (5, .ptr), (11, .any), (12, (.int .i64))] [] [] s'' li1) (blkK 0 (Fin142 E) (fun _ _ => none)) (Fin142 E)) (blkK 1 (fun s' => denC E D W N (.keep [(1, (.int .i64)), (2, (.int .i64)), (3, .bool), (4, .any), (5, .ptr), (11, .any), (12, (.int .i64))] [] [] cc2) s' (fun s'' => keepS [(1, (.int .i64)), (2, (.int .i64)), (3, .bool), (4, .any), (5, .ptr), (11, .any), (12, (.int .i64))] [] [] s'' li1) (blkK 0 (Fin142 E) (fun _ _ => none)) (Fin142 E)) (blkK 0 (Fin142 E) (fun _ _ => none))) (Fin142 E)) v1 v2 v3 v4 v5b v5o v11 v12 σ := by kernel_rfl
theorem P142_2 (E : List (Nat × Blk)) (D : Den) (W : DrawFn) (N : Nat) (li1 : St → Ans) (v1 : Int) (v2 : Int) (v3 : Bool) (v4 : V) (v5b : Nat) (v5o : Nat) (v11 : V) (v12 : Int) (σ : H) :
  denC E D W N (C142_2 ) ⟨[(1, (V.int .i64 v1)), (2, (V.int .i64 v2)), (3, (V.bool v3)), (4, v4), (5, (V.ptr v5b v5o)), (11, v11), (12, (V.int .i64 v12))], [], [], σ⟩ (fun s'' => keepS [(1, (.int .i64)), (2, (.int .i64)), (3, .bool), (4, .any), (5, .ptr), (11, .any), (12, (.int .i64))] [] [] s'' li1) (blkK 0 (Fin142 E) (fun _ _ => none)) (Fin142 E) =
  T142_2 E D W (fun v1 v2 v3 v4 v5b v5o v11 v12 σ => li1 ⟨[(1, (V.int .i64 v1)), (2, (V.int .i64 v2)), (3, (V.bool v3)), (4, v4), (5, (V.ptr v5b v5o)), (11, v11), (12, (V.int .i64 v12))], [], [], σ⟩) v1 v2 v3 v4 v5b v5o v11 v12 σ := by kernel_rfl
theorem P142_3 (E : List (Nat × Blk)) (D : Den) (W : DrawFn) (N : Nat) (cc2 : XC) (li1 : St → Ans) (v1 : Int) (v2 : Int) (v3 : Bool) (v4 : V) (v5b : Nat) (v5o : Nat) (v11 : V) (v12 : Int) (σ : H) :
  denC E D W N (C142_3 ) ⟨[(1, (V.int .i64 v1)), (2, (V.int .i64 v2)), (3, (V.bool v3)), (4, v4), (5, (V.ptr v5b v5o)), (11, v11), (12, (V.int .i64 v12))], [], [], σ⟩ (fun s' => denC E D W N (.keep [(1, (.int .i64)), (2, (.int .i64)), (3, .bool), (4, .any), (5, .ptr), (11, .any), (12, (.int .i64))] [] [] cc2) s' (fun s'' => keepS [(1, (.int .i64)), (2, (.int .i64)), (3, .bool), (4, .any), (5, .ptr), (11, .any), (12, (.int .i64))] [] [] s'' li1) (blkK 0 (Fin142 E) (fun _ _ => none)) (Fin142 E)) (blkK 1 (fun s' => denC E D W N (.keep [(1, (.int .i64)), (2, (.int .i64)), (3, .bool), (4, .any), (5, .ptr), (11, .any), (12, (.int .i64))] [] [] cc2) s' (fun s'' => keepS [(1, (.int .i64)), (2, (.int .i64)), (3, .bool), (4, .any), (5, .ptr), (11, .any), (12, (.int .i64))] [] [] s'' li1) (blkK 0 (Fin142 E) (fun _ _ => none)) (Fin142 E)) (blkK 0 (Fin142 E) (fun _ _ => none))) (Fin142 E) =
  T142_3 E D W (fun v1 v2 v3 v4 v5b v5o v11 v12 σ => denC E D W N cc2 ⟨[(1, (V.int .i64 v1)), (2, (V.int .i64 v2)), (3, (V.bool v3)), (4, v4), (5, (V.ptr v5b v5o)), (11, v11), (12, (V.int .i64 v12))], [], [], σ⟩ (fun s'' => keepS [(1, (.int .i64)), (2, (.int .i64)), (3, .bool), (4, .any), (5, .ptr), (11, .any), (12, (.int .i64))] [] [] s'' li1) (blkK 0 (Fin142 E) (fun _ _ => none)) (Fin142 E)) v1 v2 v3 v4 v5b v5o v11 v12 σ := by kernel_rfl
def J142_2 (E : List (Nat × Blk)) (D : Den) (W : DrawFn) (N : Nat) (R1 : Int → Int → Bool → V → Nat → Nat → V → Int → H → Ans) : Int → Int → Bool → V → Nat → Nat → V → Int → H → Ans := T142_2 E D W R1
theorem JE142_2 (E : List (Nat × Blk)) (D : Den) (W : DrawFn) (N : Nat) (li1 : St → Ans) (v1 : Int) (v2 : Int) (v3 : Bool) (v4 : V) (v5b : Nat) (v5o : Nat) (v11 : V) (v12 : Int) (σ : H) :
  denC E D W N C142_2 ⟨[(1, (V.int .i64 v1)), (2, (V.int .i64 v2)), (3, (V.bool v3)), (4, v4), (5, (V.ptr v5b v5o)), (11, v11), (12, (V.int .i64 v12))], [], [], σ⟩ (fun s'' => keepS [(1, (.int .i64)), (2, (.int .i64)), (3, .bool), (4, .any), (5, .ptr), (11, .any), (12, (.int .i64))] [] [] s'' li1) (blkK 0 (Fin142 E) (fun _ _ => none)) (Fin142 E) = J142_2 E D W N (fun v1 v2 v3 v4 v5b v5o v11 v12 σ => li1 ⟨[(1, (V.int .i64 v1)), (2, (V.int .i64 v2)), (3, (V.bool v3)), (4, v4), (5, (V.ptr v5b v5o)), (11, v11), (12, (V.int .i64 v12))], [], [], σ⟩) v1 v2 v3 v4 v5b v5o v11 v12 σ := by
  refine (P142_2 E D W N  li1 v1 v2 v3 v4 v5b v5o v11 v12 σ).trans ?_
  kernel_rfl
def J142_3 (E : List (Nat × Blk)) (D : Den) (W : DrawFn) (N : Nat) (R1 : Int → Int → Bool → V → Nat → Nat → V → Int → H → Ans) : Int → Int → Bool → V → Nat → Nat → V → Int → H → Ans := T142_3 E D W (J142_2 E D W N R1)
theorem JE142_3 (E : List (Nat × Blk)) (D : Den) (W : DrawFn) (N : Nat) (li1 : St → Ans) (v1 : Int) (v2 : Int) (v3 : Bool) (v4 : V) (v5b : Nat) (v5o : Nat) (v11 : V) (v12 : Int) (σ : H) :
  denC E D W N C142_3 ⟨[(1, (V.int .i64 v1)), (2, (V.int .i64 v2)), (3, (V.bool v3)), (4, v4), (5, (V.ptr v5b v5o)), (11, v11), (12, (V.int .i64 v12))], [], [], σ⟩ (fun s' => denC E D W N (.keep [(1, (.int .i64)), (2, (.int .i64)), (3, .bool), (4, .any), (5, .ptr), (11, .any), (12, (.int .i64))] [] [] C142_2) s' (fun s'' => keepS [(1, (.int .i64)), (2, (.int .i64)), (3, .bool), (4, .any), (5, .ptr), (11, .any), (12, (.int .i64))] [] [] s'' li1) (blkK 0 (Fin142 E) (fun _ _ => none)) (Fin142 E)) (blkK 1 (fun s' => denC E D W N (.keep [(1, (.int .i64)), (2, (.int .i64)), (3, .bool), (4, .any), (5, .ptr), (11, .any), (12, (.int .i64))] [] [] C142_2) s' (fun s'' => keepS [(1, (.int .i64)), (2, (.int .i64)), (3, .bool), (4, .any), (5, .ptr), (11, .any), (12, (.int .i64))] [] [] s'' li1) (blkK 0 (Fin142 E) (fun _ _ => none)) (Fin142 E)) (blkK 0 (Fin142 E) (fun _ _ => none))) (Fin142 E) = J142_3 E D W N (fun v1 v2 v3 v4 v5b v5o v11 v12 σ => li1 ⟨[(1, (V.int .i64 v1)), (2, (V.int .i64 v2)), (3, (V.bool v3)), (4, v4), (5, (V.ptr v5b v5o)), (11, v11), (12, (V.int .i64 v12))], [], [], σ⟩) v1 v2 v3 v4 v5b v5o v11 v12 σ := by
  refine (P142_3 E D W N C142_2 li1 v1 v2 v3 v4 v5b v5o v11 v12 σ).trans ?_
  simp only [JE142_2]
  kernel_rfl
def L142_1 (E : List (Nat × Blk)) (D : Den) (W : DrawFn) (N : Nat) (n : Nat) : Int → Int → Bool → V → Nat → Nat → V → Int → H → Ans :=
  Nat.rec (fun _ _ _ _ _ _ _ _ _ => none) (fun _ ih => T142_1 E D W (J142_3 E D W N ih)) n
theorem LE142_1 (E : List (Nat × Blk)) (D : Den) (W : DrawFn) (N : Nat) (n : Nat) : ∀ (v1 : Int) (v2 : Int) (v3 : Bool) (v4 : V) (v5b : Nat) (v5o : Nat) (v11 : V) (v12 : Int) (σ : H),
  iterK (fun rec s' => denC E D W N (C142_1 C142_2 C142_3) s' (fun s'' => keepS [(1, (.int .i64)), (2, (.int .i64)), (3, .bool), (4, .any), (5, .ptr), (11, .any), (12, (.int .i64))] [] [] s'' rec) (blkK 0 (Fin142 E) (fun _ _ => none)) (Fin142 E)) n ⟨[(1, (V.int .i64 v1)), (2, (V.int .i64 v2)), (3, (V.bool v3)), (4, v4), (5, (V.ptr v5b v5o)), (11, v11), (12, (V.int .i64 v12))], [], [], σ⟩ = L142_1 E D W N n v1 v2 v3 v4 v5b v5o v11 v12 σ := by
  induction n with
  | zero => intro v1 v2 v3 v4 v5b v5o v11 v12 σ; rfl
  | succ n ihn =>
    intro v1 v2 v3 v4 v5b v5o v11 v12 σ
    rw [iterK_succ]
    refine (P142_1 E D W N C142_2 C142_3 (iterK (fun rec s' => denC E D W N (C142_1 C142_2 C142_3) s' (fun s'' => keepS [(1, (.int .i64)), (2, (.int .i64)), (3, .bool), (4, .any), (5, .ptr), (11, .any), (12, (.int .i64))] [] [] s'' rec) (blkK 0 (Fin142 E) (fun _ _ => none)) (Fin142 E)) n) v1 v2 v3 v4 v5b v5o v11 v12 σ).trans ?_
    simp only [ihn, JE142_3]
    kernel_rfl
def J142_0 (E : List (Nat × Blk)) (D : Den) (W : DrawFn) (N : Nat) : V → Int → Int → Bool → V → H → Ans := T142_0 E D W (L142_1 E D W N N)
theorem JE142_0 (E : List (Nat × Blk)) (D : Den) (W : DrawFn) (N : Nat) (v0 : V) (v1 : Int) (v2 : Int) (v3 : Bool) (v4 : V) (σ : H) :
  denC E D W N (C142_0 (C142_1 C142_2 C142_3)) ⟨[(0, v0), (1, (V.int .i64 v1)), (2, (V.int .i64 v2)), (3, (V.bool v3)), (4, v4)], [], [], σ⟩ (Fin142 E) (fun _ _ => none) (Fin142 E) = J142_0 E D W N v0 v1 v2 v3 v4 σ := by
  refine (P142_0 E D W N (C142_1 C142_2 C142_3)  v0 v1 v2 v3 v4 σ).trans ?_
  simp only [LE142_1]
  kernel_rfl
def F142 (E : List (Nat × Blk)) (D : Den) (W : DrawFn) (N : Nat) (args : List V) (σ : H) : Ans :=
 rtCons args fun x1 l2 =>
 rtCons l2 fun x3 l4 =>
 rtInt .i64 x3 fun x5 =>
 rtCons l4 fun x6 l7 =>
 rtInt .i64 x6 fun x8 =>
 rtCons l7 fun x9 l10 =>
 rtBool x9 fun x11 =>
 rtCons l10 fun x12 l13 =>
 rtNil l13 (
 J142_0 E D W N x1 x5 x8 x11 x12 σ)
def A142 : XFn := ⟨48, [.any, (.int .i64), (.int .i64), .bool, .any], [], (C142_0 (C142_1 C142_2 C142_3))⟩
theorem FE142 (E : List (Nat × Blk)) (D : Den) (W : DrawFn) (N : Nat) (args : List V) (σ : H) : runX E D W N A142 args σ = F142 E D W N args σ := by
  unfold F142
  simp only [← JE142_0]
  kernel_rfl
theorem AO142 : A142.body.ok = true := by kernel_rfl

def G143_0 : List AOper := [⟨(some 4), .load none (.tmp 1), none⟩, ⟨(some 5), .nilck (.tmp 4), none⟩, ⟨(some 6), .faddr 0 (.tmp 5), none⟩, ⟨(some 7), .faddr 11 (.tmp 2), none⟩, ⟨(some 8), .load none (.tmp 7), none⟩, ⟨(some 9), .mov (.tmp 0), none⟩, ⟨(some 10), .iaddrS 3 (.tmp 8) (.tmp 9), none⟩, ⟨(some 11), .faddr 0 (.tmp 10), none⟩, ⟨(some 12), .load none (.tmp 11), none⟩, ⟨(some 13), .buildSlice 9 1 [(V.str ⟨0, 0⟩)] [(0, 1, (.tmp 12))], none⟩, ⟨(some 14), .call 71 [(.tmp 6), (.tmp 13)], none⟩]
def H143_0 : List DP := [⟨0, [1]⟩, ⟨1, [4]⟩, ⟨3, [5]⟩, ⟨0, [2]⟩, ⟨8, [7]⟩, ⟨0, [0]⟩, ⟨56, [8, 9]⟩, ⟨120, [10]⟩, ⟨248, [11]⟩, ⟨504, [12]⟩, ⟨1023, [6, 13]⟩]
def C143_0 : XC := (.seq (.keep [(0, (.int .i64)), (1, .any), (2, .any)] [] [] (.gdraw G143_0 H143_0 [(0, (.int .i64)), (1, .any), (2, .any)]))
 (.seq (.ops (.op (some 15) .any [2] (.faddr 11 (.tmp 2)) <|
 .op (some 16) .any [15] (.load none (.tmp 15)) <|
 .op (some 17) .any [0] (.mov (.tmp 0)) <|
 .op (some 18) .any [16, 17] (.iaddrS 3 (.tmp 16) (.tmp 17)) <|
 .op (some 19) .any [18] (.faddr 2 (.tmp 18)) <|
 .op (some 20) .bool [19] (.load none (.tmp 19)) <|
 .nil))
 (.cond (.tmp 20) (.seq (.ops (.op (some 21) .any [1] (.load none (.tmp 1)) <|
 .op (some 22) .any [21] (.nilck (.tmp 21)) <|
 .op (some 23) .any [22] (.faddr 0 (.tmp 22)) <|
 .op (some 24) .any [] (.buildSlice 9 1 [(V.str ⟨0, 0⟩)] [(0, 1, (.con (V.str ⟨2, 10272⟩)))]) <|
 .op (some 25) (.tup []) [23, 24] (.call 71 [(.tmp 23), (.tmp 24)]) <|
 .nil))
 (.seq (.draw (.op (some 26) .any [1] (.load none (.tmp 1)) <|
 .op (some 27) .any [26] (.nilck (.tmp 26)) <|
 .op (some 28) .any [27] (.faddr 0 (.tmp 27)) <|
 .op (some 29) .any [2] (.faddr 11 (.tmp 2)) <|
 .op (some 30) .any [29] (.load none (.tmp 29)) <|
 .op (some 31) .any [0] (.mov (.tmp 0)) <|
 .op (some 32) .any [30, 31] (.iaddrS 3 (.tmp 30) (.tmp 31)) <|
 .op (some 33) .any [32] (.faddr 1 (.tmp 32)) <|
 .op (some 34) (.int .i64) [33] (.load none (.tmp 33)) <|
 .op (some 35) (.tup []) [28, 34] (.call 140 [(.tmp 28), (.tmp 34)]) <|
 .nil) [0, 1, 3, 0, 8, 0, 56, 120, 248, 511])
 (.ops (.op (some 36) .any [1] (.load none (.tmp 1)) <|
 .op (some 37) .any [36] (.nilck (.tmp 36)) <|
 .op (some 38) .any [37] (.faddr 0 (.tmp 37)) <|
 .op (some 39) .any [] (.buildSlice 9 1 [(V.str ⟨0, 0⟩)] [(0, 1, (.con (V.str ⟨1, 41⟩)))]) <|
 .op (some 40) (.tup []) [38, 39] (.call 71 [(.tmp 38), (.tmp 39)]) <|
 .nil))))
 .skip)))
def A143 : XFn := ⟨41, [(.int .i64), .any, .any], [], C143_0⟩
/-! ### F145: _ogham_extend.sides_.types -/
def G145_0 : List AOper := [⟨(some 33), .faddr 0 (.tmp 3), none⟩, ⟨(some 34), .faddr 3 (.tmp 33), none⟩, ⟨(some 35), .load none (.tmp 34), none⟩, ⟨(some 36), .mov (.tmp 1), none⟩, ⟨(some 37), .iaddrS 13 (.tmp 35) (.tmp 36), none⟩, ⟨(some 38), .load (some 13) (.tmp 37), none⟩, ⟨(some 39), .faddr 4 (.tmp 3), none⟩, ⟨(some 40), .faddr 3 (.tmp 39), none⟩, ⟨(some 41), .load none (.tmp 40), none⟩, ⟨(some 42), .mov (.tmp 2), none⟩, ⟨(some 43), .iaddrS 13 (.tmp 41) (.tmp 42), none⟩, ⟨(some 44), .load (some 13) (.tmp 43), none⟩, ⟨none, .store 13 (.tmp 6) (.tmp 38), none⟩, ⟨none, .store 13 (.tmp 7) (.tmp 44), none⟩, ⟨(some 8), .mov (.con (V.bool true)), none⟩]
def H145_0 : List DP := [⟨0, [3]⟩, ⟨1, [33]⟩, ⟨3, [34]⟩, ⟨0, [1]⟩, ⟨15, [35, 36]⟩, ⟨31, [37]⟩, ⟨0, [3]⟩, ⟨64, [39]⟩, ⟨192, [40]⟩, ⟨0, [2]⟩, ⟨960, [41, 42]⟩, ⟨1984, [43]⟩, ⟨63, [6, 38]⟩, ⟨8191, [7, 44]⟩, ⟨16383, []⟩]
def Fin145 (E : List (Nat × Blk)) : St → Ans := fun s => resK E s [(.cell 6 (some 13)), (.cell 7 (some 13)), (.tmp 8)] fun l => some (oneV l, s.σ)
def C145_0 : XC := (.seq (.ops (.op (some 3) .any [0] (.box 214 (.tmp 0)) <|
 .op (some 6) .any [] (.alloc 93 [(V.int .i64 (Int.ofNat 0)), V.nils, (V.bool false), (V.bool false), (V.bool false), (V.bool false), (V.int .i64 (Int.ofNat 0)), (V.int .i64 (Int.ofNat 0)), V.nils, V.nils, (V.int .i64 (Int.ofNat 0)), (V.bool false), (V.int .i64 (Int.ofNat 0))]) <|
 .op (some 7) .any [] (.alloc 93 [(V.int .i64 (Int.ofNat 0)), V.nils, (V.bool false), (V.bool false), (V.bool false), (V.bool false), (V.int .i64 (Int.ofNat 0)), (V.int .i64 (Int.ofNat 0)), V.nils, V.nils, (V.int .i64 (Int.ofNat 0)), (V.bool false), (V.int .i64 (Int.ofNat 0))]) <|
 .op (some 8) .any [] (.mov (.con (V.bool false))) <|
 .nil))
 (.seq (.seq (.ops (.op (some 9) .any [1] (.mov (.tmp 1)) <|
 .op (some 10) .any [9] (.bin .lss .none (.tmp 9) (.con (V.int .i64 (Int.ofNat 0)))) <|
 .op (some 11) .any [10] (.mov (.tmp 10)) <|
 .grp 11 false (.op (some 12) .any [1, 11] (.mov (.tmp 1)) <|
 .op (some 13) .any [3, 11] (.faddr 0 (.tmp 3)) <|
 .op (some 14) .any [13, 11] (.faddr 3 (.tmp 13)) <|
 .op (some 15) .any [14, 11] (.load none (.tmp 14)) <|
 .op (some 16) .any [15, 11] (.len false (.tmp 15)) <|
 .op (some 17) .any [12, 16, 11] (.bin .geq .none (.tmp 12) (.tmp 16)) <|
 .nil) 18 [11, 17] (.tmp 11) (.con (V.bool true)) (.tmp 17) <|
 .op (some 19) .any [18] (.mov (.tmp 18)) <|
 .grp 19 false (.op (some 20) .any [2, 19] (.mov (.tmp 2)) <|
 .op (some 21) .any [20, 19] (.bin .lss .none (.tmp 20) (.con (V.int .i64 (Int.ofNat 0)))) <|
 .nil) 22 [19, 21] (.tmp 19) (.con (V.bool true)) (.tmp 21) <|
 .op (some 23) .any [22] (.mov (.tmp 22)) <|
 .grp 23 false (.op (some 24) .any [2, 23] (.mov (.tmp 2)) <|
 .op (some 25) .any [3, 23] (.faddr 4 (.tmp 3)) <|
 .op (some 26) .any [25, 23] (.faddr 3 (.tmp 25)) <|
 .op (some 27) .any [26, 23] (.load none (.tmp 26)) <|
 .op (some 28) .any [27, 23] (.len false (.tmp 27)) <|
 .op (some 29) .any [24, 28, 23] (.bin .geq .none (.tmp 24) (.tmp 28)) <|
 .nil) 30 [23, 29] (.tmp 23) (.con (V.bool true)) (.tmp 29) <|
 .nil))
 (.cond (.tmp 30) (.seq (.ops (.op (some 31) (.agg [(.int .i64), .any, .bool, .bool, .bool, .bool, (.int .i64), (.int .i64), .any, .any, (.int .i64), .bool, (.int .i64)]) [] (.build [(V.int .i64 (Int.ofNat 0)), V.nils, (V.bool false), (V.bool false), (V.bool false), (V.bool false), (V.int .i64 (Int.ofNat 0)), (V.int .i64 (Int.ofNat 0)), V.nils, V.nils, (V.int .i64 (Int.ofNat 0)), (V.bool false), (V.int .i64 (Int.ofNat 0))] []) <|
 .op (some 32) (.agg [(.int .i64), .any, .bool, .bool, .bool, .bool, (.int .i64), (.int .i64), .any, .any, (.int .i64), .bool, (.int .i64)]) [] (.build [(V.int .i64 (Int.ofNat 0)), V.nils, (V.bool false), (V.bool false), (V.bool false), (V.bool false), (V.int .i64 (Int.ofNat 0)), (V.int .i64 (Int.ofNat 0)), V.nils, V.nils, (V.int .i64 (Int.ofNat 0)), (V.bool false), (V.int .i64 (Int.ofNat 0))] []) <|
 .op none (.agg [(.int .i64), .any, .bool, .bool, .bool, .bool, (.int .i64), (.int .i64), .any, .any, (.int .i64), .bool, (.int .i64)]) [6, 31] (.store 13 (.tmp 6) (.tmp 31)) <|
 .op none (.agg [(.int .i64), .any, .bool, .bool, .bool, .bool, (.int .i64), (.int .i64), .any, .any, (.int .i64), .bool, (.int .i64)]) [7, 32] (.store 13 (.tmp 7) (.tmp 32)) <|
 .op (some 8) .any [] (.mov (.con (V.bool false))) <|
 .nil))
 .ret)
 .skip))
 (.seq (.keep [(1, (.int .i64)), (2, (.int .i64)), (3, .ptr), (6, .ptr), (7, .ptr)] [] [] (.gdraw G145_0 H145_0 [(6, .ptr), (7, .ptr), (8, .bool)]))
 .ret)))
def T145_0 (E : List (Nat × Blk)) (D : Den) (W : DrawFn) (v0_0 : BS) (v0_1 : V) (v0_2 : V) (v0_3 : V) (v0_4 : BS) (v0_5 : V) (v0_6 : V) (v0_7 : V) (v1 : Int) (v2 : Int) (σ : H) : Ans :=
 chk (allOne (V.cells (V.agg [(V.str v0_0), v0_1, v0_2, v0_3, (V.str v0_4), v0_5, v0_6, v0_7]))) (
 let s1 := newB σ (.cells (V.cells (V.agg [(V.str v0_0), v0_1, v0_2, v0_3, (V.str v0_4), v0_5, v0_6, v0_7])));
 let s2 := newB s1 (.cells [(V.int .i64 (Int.ofNat 0)), V.nils, (V.bool false), (V.bool false), (V.bool false), (V.bool false), (V.int .i64 (Int.ofNat 0)), (V.int .i64 (Int.ofNat 0)), V.nils, V.nils, (V.int .i64 (Int.ofNat 0)), (V.bool false), (V.int .i64 (Int.ofNat 0))]);
 let s3 := newB s2 (.cells [(V.int .i64 (Int.ofNat 0)), V.nils, (V.bool false), (V.bool false), (V.bool false), (V.bool false), (V.int .i64 (Int.ofNat 0)), (V.int .i64 (Int.ofNat 0)), V.nils, V.nils, (V.int .i64 (Int.ofNat 0)), (V.bool false), (V.int .i64 (Int.ofNat 0))]);
 joinB (fun c4 s5 =>
 joinB (fun c7 s8 =>
 joinB (fun c10 s11 =>
 condK c10 (
 stK 13 (H.next s1) 0 (V.agg [(V.int .i64 (Int.ofNat 0)), V.nils, (V.bool false), (V.bool false), (V.bool false), (V.bool false), (V.int .i64 (Int.ofNat 0)), (V.int .i64 (Int.ofNat 0)), V.nils, V.nils, (V.int .i64 (Int.ofNat 0)), (V.bool false), (V.int .i64 (Int.ofNat 0))]) s11 fun s13 =>
 stK 13 (H.next s2) 0 (V.agg [(V.int .i64 (Int.ofNat 0)), V.nils, (V.bool false), (V.bool false), (V.bool false), (V.bool false), (V.int .i64 (Int.ofNat 0)), (V.int .i64 (Int.ofNat 0)), V.nils, V.nils, (V.int .i64 (Int.ofNat 0)), (V.bool false), (V.int .i64 (Int.ofNat 0))]) s13 fun s14 =>
 ldnK E s14 (H.next s1) 0 13 fun u15 =>
 ldnK E s14 (H.next s2) 0 13 fun u16 =>
 some ((V.tup [(V.agg u15), (V.agg u16), (V.bool false)]), s14)) (
 gdrawK (W G145_0 H145_0 [(1, (V.int .i64 v1)), (2, (V.int .i64 v2)), (3, (V.ptr (H.next σ) 0)), (6, (V.ptr (H.next s1) 0)), (7, (V.ptr (H.next s2) 0))] s11) fun e17 s18 =>
 getL e17 6 fun u19 =>
 rtPtr u19 fun b20 o21 =>
 getL e17 7 fun u22 =>
 rtPtr u22 fun b23 o24 =>
 getL e17 8 fun u25 =>
 rtBool u25 fun x26 =>
 ldnK E s18 b20 o21 13 fun u27 =>
 ldnK E s18 b23 o24 13 fun u28 =>
 some ((V.tup [(V.agg u27), (V.agg u28), (V.bool x26)]), s18))) fun k12 =>
 condK c7 (
 k12 true s8) (
 ldK E s8 (H.next σ) 7 fun u29 =>
 slenK u29 fun n30 =>
 k12 (leF (Int.ofNat n30) v2) s8)) fun k9 =>
 condK c4 (
 k9 true s5) (
 k9 (ltF v2 (Int.ofNat 0)) s5)) fun k6 =>
 condK (ltF v1 (Int.ofNat 0)) (
 k6 true s3) (
 ldK E s3 (H.next σ) 3 fun u31 =>
 slenK u31 fun n32 =>
 k6 (leF (Int.ofNat n32) v1) s3))
theorem P145_0 (E : List (Nat × Blk)) (D : Den) (W : DrawFn) (N : Nat) (v0_0 : BS) (v0_1 : V) (v0_2 : V) (v0_3 : V) (v0_4 : BS) (v0_5 : V) (v0_6 : V) (v0_7 : V) (v1 : Int) (v2 : Int) (σ : H) :
  denC E D W N (C145_0 ) ⟨[(0, (V.agg [(V.str v0_0), v0_1, v0_2, v0_3, (V.str v0_4), v0_5, v0_6, v0_7])), (1, (V.int .i64 v1)), (2, (V.int .i64 v2))], [], [], σ⟩ (Fin145 E) (fun _ _ => none) (Fin145 E) =
  T145_0 E D W  v0_0 v0_1 v0_2 v0_3 v0_4 v0_5 v0_6 v0_7 v1 v2 σ := by kernel_rfl
def J145_0 (E : List (Nat × Blk)) (D : Den) (W : DrawFn) (N : Nat) : BS → V → V → V → BS → V → V → V → Int → Int → H → Ans := T145_0 E D W 
theorem JE145_0 (E : List (Nat × Blk)) (D : Den) (W : DrawFn) (N : Nat) (v0_0 : BS) (v0_1 : V) (v0_2 : V) (v0_3 : V) (v0_4 : BS) (v0_5 : V) (v0_6 : V) (v0_7 : V) (v1 : Int) (v2 : Int) (σ : H) :
  denC E D W N C145_0 ⟨[(0, (V.agg [(V.str v0_0), v0_1, v0_2, v0_3, (V.str v0_4), v0_5, v0_6, v0_7])), (1, (V.int .i64 v1)), (2, (V.int .i64 v2))], [], [], σ⟩ (Fin145 E) (fun _ _ => none) (Fin145 E) = J145_0 E D W N v0_0 v0_1 v0_2 v0_3 v0_4 v0_5 v0_6 v0_7 v1 v2 σ := by
  refine (P145_0 E D W N   v0_0 v0_1 v0_2 v0_3 v0_4 v0_5 v0_6 v0_7 v1 v2 σ).trans ?_
  kernel_rfl
def F145 (E : List (Nat × Blk)) (D : Den) (W : DrawFn) (N : Nat) (args : List V) (σ : H) : Ans :=
 rtCons args fun x1 l2 =>
 rtAgg x1 fun l3 =>
 rtCons l3 fun x4 l5 =>
 rtStr x4 fun x6 =>
 rtCons l5 fun x7 l8 =>
 rtCons l8 fun x9 l10 =>
 rtCons l10 fun x11 l12 =>
 rtCons l12 fun x13 l14 =>
 rtStr x13 fun x15 =>
 rtCons l14 fun x16 l17 =>
 rtCons l17 fun x18 l19 =>
 rtCons l19 fun x20 l21 =>
 rtNil l21 (
 rtCons l2 fun x22 l23 =>
 rtInt .i64 x22 fun x24 =>
 rtCons l23 fun x25 l26 =>
 rtInt .i64 x25 fun x27 =>
 rtNil l26 (
 J145_0 E D W N x6 x7 x9 x11 x15 x16 x18 x20 x24 x27 σ))
def A145 : XFn := ⟨45, [(.agg [.str, .any, .any, .any, .str, .any, .any, .any]), (.int .i64), (.int .i64)], [(.cell 6 (some 13)), (.cell 7 (some 13)), (.tmp 8)], C145_0⟩
theorem FE145 (E : List (Nat × Blk)) (D : Den) (W : DrawFn) (N : Nat) (args : List V) (σ : H) : runX E D W N A145 args σ = F145 E D W N args σ := by
  unfold F145
  simp only [← JE145_0]
  kernel_rfl
theorem AO145 : A145.body.ok = true := by kernel_rfl

/-! ### F146: slices.Equal___ogham_api.Tag_ogham_api.Tag_ -/
def Fin146 (E : List (Nat × Blk)) : St → Ans := fun s => resK E s [(.tmp 4)] fun l => some (oneV l, s.σ)
def C146_0 (cc1 : XC) (cc2 : XC) : XC := (.seq (.ops (.op (some 4) .any [] (.mov (.con (V.bool false))) <|
 .nil))
 (.seq (.seq (.ops (.op (some 6) .any [0] (.mov (.tmp 0)) <|
 .op (some 7) .any [6] (.len false (.tmp 6)) <|
 .op (some 8) .any [1] (.mov (.tmp 1)) <|
 .op (some 9) .any [8] (.len false (.tmp 8)) <|
 .op (some 10) .any [7, 9] (.bin .neq .none (.tmp 7) (.tmp 9)) <|
 .nil))
 (.cond (.tmp 10) (.seq (.ops (.op (some 4) .any [] (.mov (.con (V.bool false))) <|
 .nil))
 .ret)
 .skip))
 (.seq (.seq (.ops (.op (some 11) .any [0] (.mov (.tmp 0)) <|
 .op (some 12) .any [11] (.len false (.tmp 11)) <|
 .op (some 13) .any [] (.mov (.con (V.int .i64 (Int.ofNat 0)))) <|
 .nil))
 (.block 0 (.loop [(0, .any), (1, .any), (12, (.int .i64)), (13, (.int .i64))] [] [] cc2)))
 (.keep [] [] [] cc1))))
def T146_0 (E : List (Nat × Blk)) (D : Den) (W : DrawFn) (K2 : V → V → Int → Int → H → Ans) (v0 : V) (v1 : V) (σ : H) : Ans :=
 slenK v0 fun n1 =>
 slenK v1 fun n2 =>
 condK (not (eqF (Int.ofNat n1) (Int.ofNat n2))) (
 some ((V.bool false), σ)) (
 slenK v0 fun n3 =>
 K2 v0 v1 (Int.ofNat n3) (Int.ofNat 0) σ)
def C146_1 : XC := (.seq (.ops (.op (some 4) .any [] (.mov (.con (V.bool true))) <|
 .nil))
 .ret)
def T146_1 (E : List (Nat × Blk)) (D : Den) (W : DrawFn) (σ : H) : Ans :=
 some ((V.bool true), σ)
def C146_2 : XC := (.seq (.ops (.op (some 14) .any [13, 12] (.bin .lss .none (.tmp 13) (.tmp 12)) <|
 .nil))
 (.seq (.cond (.tmp 14) .skip
 (.exit 0))
 (.seq (.block 1 (.seq (.ops (.op (some 15) .any [13] (.mov (.tmp 13)) <|
 .op (some 5) .any [15] (.mov (.tmp 15)) <|
 .nil))
 (.seq (.draw (.op (some 16) .any [0] (.mov (.tmp 0)) <|
 .op (some 17) .any [5] (.mov (.tmp 5)) <|
 .op (some 18) .any [16, 17] (.iaddrS 2 (.tmp 16) (.tmp 17)) <|
 .op (some 19) (.agg [(.int .i64), (.int .i64)]) [18] (.load (some 2) (.tmp 18)) <|
 .op (some 20) .any [1] (.mov (.tmp 1)) <|
 .op (some 21) .any [5] (.mov (.tmp 5)) <|
 .op (some 22) .any [20, 21] (.iaddrS 2 (.tmp 20) (.tmp 21)) <|
 .op (some 23) (.agg [(.int .i64), (.int .i64)]) [22] (.load (some 2) (.tmp 22)) <|
 .op (some 24) .any [19, 23] (.bin .neq (.flat [(0, .int), (1, .int)]) (.tmp 19) (.tmp 23)) <|
 .nil) [0, 0, 3, 7, 0, 0, 48, 112, 255])
 (.cond (.tmp 24) (.seq (.ops (.op (some 4) .any [] (.mov (.con (V.bool false))) <|
 .nil))
 .ret)
 .skip))))
 (.ops (.op (some 25) .any [13] (.bin .add .none (.tmp 13) (.con (V.int .i64 (Int.ofNat 1)))) <|
 .op (some 13) .any [25] (.mov (.tmp 25)) <|
 .nil)))))
def T146_2 (E : List (Nat × Blk)) (D : Den) (W : DrawFn) (K1 : H → Ans) (R2 : V → V → Int → Int → H → Ans) (v0 : V) (v1 : V) (v12 : Int) (v13 : Int) (σ : H) : Ans :=
 condK (ltF v13 v12) (
 iaddrSK 2 v0 v13 fun b1 o2 =>
 ldnK E σ b1 o2 2 fun l3 =>
 rtCons l3 fun x4 l5 =>
 rtInt .i64 x4 fun x6 =>
 rtCons l5 fun x7 l8 =>
 rtInt .i64 x7 fun x9 =>
 rtNil l8 (
 iaddrSK 2 v1 v13 fun b10 o11 =>
 ldnK E σ b10 o11 2 fun l12 =>
 rtCons l12 fun x13 l14 =>
 rtInt .i64 x13 fun x15 =>
 rtCons l14 fun x16 l17 =>
 rtInt .i64 x16 fun x18 =>
 rtNil l17 (
 eqK (.flat [(0, .int), (1, .int)]) (V.agg [(V.int .i64 x6), (V.int .i64 x9)]) (V.agg [(V.int .i64 x15), (V.int .i64 x18)]) fun c19 =>
 condK (not c19) (
 some ((V.bool false), σ)) (
 R2 v0 v1 v12 (addF .i64 v13 (Int.ofNat 1)) σ)))) (
 K1 σ)
theorem P146_0 (E : List (Nat × Blk)) (D : Den) (W : DrawFn) (N : Nat) (cc1 : XC) (cc2 : XC) (v0 : V) (v1 : V) (σ : H) :
  denC E D W N (C146_0 cc1 cc2) ⟨[(0, v0), (1, v1)], [], [], σ⟩ (Fin146 E) (fun _ _ => none) (Fin146 E) =
  T146_0 E D W (fun v0 v1 v12 v13 σ => iterK (fun rec s' => denC E D W N cc2 s' (fun s'' => keepS [(0, .any), (1, .any), (12, (.int .i64)), (13, (.int .i64))] [] [] s'' rec) (blkK 0 (fun s' => denC E D W N (.keep [] [] [] cc1) s' (Fin146 E) (fun _ _ => none) (Fin146 E)) (fun _ _ => none)) (Fin146 E)) N ⟨[(0, v0), (1, v1), (12, (V.int .i64 v12)), (13, (V.int .i64 v13))], [], [], σ⟩) v0 v1 σ := by kernel_rfl
theorem P146_1 (E : List (Nat × Blk)) (D : Den) (W : DrawFn) (N : Nat) (σ : H) :
  denC E D W N (C146_1 ) ⟨[], [], [], σ⟩ (Fin146 E) (fun _ _ => none) (Fin146 E) =
  T146_1 E D W   σ := by kernel_rfl
theorem P146_2 (E : List (Nat × Blk)) (D : Den) (W : DrawFn) (N : Nat) (cc1 : XC) (li2 : St → Ans) (v0 : V) (v1 : V) (v12 : Int) (v13 : Int) (σ : H) :
  denC E D W N (C146_2 ) ⟨[(0, v0), (1, v1), (12, (V.int .i64 v12)), (13, (V.int .i64 v13))], [], [], σ⟩ (fun s'' => keepS [(0, .any), (1, .any), (12, (.int .i64)), (13, (.int .i64))] [] [] s'' li2) (blkK 0 (fun s' => denC E D W N (.keep [] [] [] cc1) s' (Fin146 E) (fun _ _ => none) (Fin146 E)) (fun _ _ => none)) (Fin146 E) =
  T146_2 E D W (fun  σ => denC E D W N cc1 ⟨[], [], [], σ⟩ (Fin146 E) (fun _ _ => none) (Fin146 E)) (fun v0 v1 v12 v13 σ => li2 ⟨[(0, v0), (1, v1), (12, (V.int .i64 v12)), (13, (V.int .i64 v13))], [], [], σ⟩) v0 v1 v12 v13 σ := by kernel_rfl
def J146_1 (E : List (Nat × Blk)) (D : Den) (W : DrawFn) (N : Nat) : H → Ans := T146_1 E D W 
theorem JE146_1 (E : List (Nat × Blk)) (D : Den) (W : DrawFn) (N : Nat) (σ : H) :
  denC E D W N C146_1 ⟨[], [], [], σ⟩ (Fin146 E) (fun _ _ => none) (Fin146 E) = J146_1 E D W N  σ := by
  refine (P146_1 E D W N    σ).trans ?_
  kernel_rfl
def L146_2 (E : List (Nat × Blk)) (D : Den) (W : DrawFn) (N : Nat) (n : Nat) : V → V → Int → Int → H → Ans :=
  Nat.rec (fun _ _ _ _ _ => none) (fun _ ih => T146_2 E D W (J146_1 E D W N ) ih) n
theorem LE146_2 (E : List (Nat × Blk)) (D : Den) (W : DrawFn) (N : Nat) (n : Nat) : ∀ (v0 : V) (v1 : V) (v12 : Int) (v13 : Int) (σ : H),
  iterK (fun rec s' => denC E D W N C146_2 s' (fun s'' => keepS [(0, .any), (1, .any), (12, (.int .i64)), (13, (.int .i64))] [] [] s'' rec) (blkK 0 (fun s' => denC E D W N (.keep [] [] [] C146_1) s' (Fin146 E) (fun _ _ => none) (Fin146 E)) (fun _ _ => none)) (Fin146 E)) n ⟨[(0, v0), (1, v1), (12, (V.int .i64 v12)), (13, (V.int .i64 v13))], [], [], σ⟩ = L146_2 E D W N n v0 v1 v12 v13 σ := by
  induction n with
  | zero => intro v0 v1 v12 v13 σ; rfl
  | succ n ihn =>
    intro v0 v1 v12 v13 σ
    rw [iterK_succ]
    refine (P146_2 E D W N C146_1 (iterK (fun rec s' => denC E D W N C146_2 s' (fun s'' => keepS [(0, .any), (1, .any), (12, (.int .i64)), (13, (.int .i64))] [] [] s'' rec) (blkK 0 (fun s' => denC E D W N (.keep [] [] [] C146_1) s' (Fin146 E) (fun _ _ => none) (Fin146 E)) (fun _ _ => none)) (Fin146 E)) n) v0 v1 v12 v13 σ).trans ?_
    simp only [ihn, JE146_1]
    kernel_rfl
def J146_0 (E : List (Nat × Blk)) (D : Den) (W : DrawFn) (N : Nat) : V → V → H → Ans := T146_0 E D W (L146_2 E D W N N)
theorem JE146_0 (E : List (Nat × Blk)) (D : Den) (W : DrawFn) (N : Nat) (v0 : V) (v1 : V) (σ : H) :
  denC E D W N (C146_0 C146_1 C146_2) ⟨[(0, v0), (1, v1)], [], [], σ⟩ (Fin146 E) (fun _ _ => none) (Fin146 E) = J146_0 E D W N v0 v1 σ := by
  refine (P146_0 E D W N C146_1 C146_2  v0 v1 σ).trans ?_
  simp only [LE146_2]
  kernel_rfl
def F146 (E : List (Nat × Blk)) (D : Den) (W : DrawFn) (N : Nat) (args : List V) (σ : H) : Ans :=
 rtCons args fun x1 l2 =>
 rtCons l2 fun x3 l4 =>
 rtNil l4 (
 J146_0 E D W N x1 x3 σ)
def A146 : XFn := ⟨26, [.any, .any], [(.tmp 4)], (C146_0 C146_1 C146_2)⟩
theorem FE146 (E : List (Nat × Blk)) (D : Den) (W : DrawFn) (N : Nat) (args : List V) (σ : H) : runX E D W N A146 args σ = F146 E D W N args σ := by
  unfold F146
  simp only [← JE146_0]
  kernel_rfl
theorem AO146 : A146.body.ok = true := by kernel_rfl

/-! ### F147: ogham_extend.items -/
def Fin147 (E : List (Nat × Blk)) : St → Ans := fun s => resK E s [(.tmp 4)] fun l => some (oneV l, s.σ)
def C147_0 : XC := (.seq (.ops (.op (some 2) .any [0] (.box 93 (.tmp 0)) <|
 .op (some 3) .any [1] (.box 93 (.tmp 1)) <|
 .op (some 4) .any [] (.mov (.con (V.bool false))) <|
 .nil))
 (.seq (.ops (.op (some 6) .any [2] (.faddr 8 (.tmp 2)) <|
 .op (some 7) .any [6] (.load none (.tmp 6)) <|
 .op (some 8) .any [7] (.len false (.tmp 7)) <|
 .op (some 5) .any [8] (.mov (.tmp 8)) <|
 .nil))
 (.seq (.draw (.op (some 9) .any [2] (.faddr 10 (.tmp 2)) <|
 .op (some 10) (.int .i64) [9] (.load none (.tmp 9)) <|
 .op (some 11) .any [3] (.faddr 10 (.tmp 3)) <|
 .op (some 12) (.int .i64) [11] (.load none (.tmp 11)) <|
 .op (some 13) .any [10, 12] (.bin .eql .none (.tmp 10) (.tmp 12)) <|
 .op (some 14) .any [13] (.mov (.tmp 13)) <|
 .grp 14 true (.op (some 15) .any [3, 14] (.faddr 8 (.tmp 3)) <|
 .op (some 16) .any [15, 14] (.load none (.tmp 15)) <|
 .op (some 17) .any [16, 14] (.len false (.tmp 16)) <|
 .op (some 18) .any [5, 14] (.mov (.tmp 5)) <|
 .op (some 19) .any [17, 18, 14] (.bin .geq .none (.tmp 17) (.tmp 18)) <|
 .nil) 20 [14, 19] (.tmp 14) (.tmp 19) (.con (V.bool false)) <|
 .op (some 21) .any [20] (.mov (.tmp 20)) <|
 .grp 21 true (.op (some 22) .any [3, 21] (.faddr 8 (.tmp 3)) <|
 .op (some 23) .any [22, 21] (.load none (.tmp 22)) <|
 .op (some 24) .any [5, 21] (.mov (.tmp 5)) <|
 .op (some 25) .any [23, 24, 21] (.sliceSl 3 (.tmp 23) none (some (.tmp 24)) none) <|
 .op (some 26) .any [2, 21] (.faddr 8 (.tmp 2)) <|
 .op (some 27) .any [26, 21] (.load none (.tmp 26)) <|
 .op (some 28) .bool [25, 27, 21] (.call 175 [(.tmp 25), (.tmp 27)]) <|
 .nil) 29 [21, 28] (.tmp 21) (.tmp 28) (.con (V.bool false)) <|
 .op (some 30) .any [29] (.mov (.tmp 29)) <|
 .grp 30 true (.op (some 31) .any [2, 30] (.faddr 11 (.tmp 2)) <|
 .op (some 32) .bool [31, 30] (.load none (.tmp 31)) <|
 .op (some 33) .any [32, 30] (.mov (.tmp 32)) <|
 .grp 33 false (.op (some 34) .any [3, 33] (.faddr 8 (.tmp 3)) <|
 .op (some 35) .any [34, 33] (.load none (.tmp 34)) <|
 .op (some 36) .any [35, 33] (.len false (.tmp 35)) <|
 .op (some 37) .any [5, 33] (.mov (.tmp 5)) <|
 .op (some 38) .any [36, 37, 33] (.bin .eql .none (.tmp 36) (.tmp 37)) <|
 .nil) 39 [33, 38, 30] (.tmp 33) (.con (V.bool true)) (.tmp 38) <|
 .nil) 40 [30, 39] (.tmp 30) (.tmp 39) (.con (V.bool false)) <|
 .op (some 4) .any [40] (.mov (.tmp 40)) <|
 .nil) [0, 1, 0, 4, 15, 31, 63, 127, 255, 63, 1023, 2047, 4095, 8191, 16383, 8191, 65535, 8191, 139263, 524287, 1048575, 2097151, 4194303, 8388607, 16777215, 33554431, 67108863, 134217727, 33554431, 536870911, 1073741823, 2147483647, 4294967295])
 .ret)))
def T147_0 (E : List (Nat × Blk)) (D : Den) (W : DrawFn) (v0_0 : Int) (v0_1 : V) (v0_2 : Bool) (v0_3 : Bool) (v0_4 : Bool) (v0_5 : Bool) (v0_6 : Int) (v0_7 : Int) (v0_8 : V) (v0_9 : V) (v0_10 : Int) (v0_11 : Bool) (v0_12 : Int) (v1_0 : Int) (v1_1 : V) (v1_2 : Bool) (v1_3 : Bool) (v1_4 : Bool) (v1_5 : Bool) (v1_6 : Int) (v1_7 : Int) (v1_8 : V) (v1_9 : V) (v1_10 : Int) (v1_11 : Bool) (v1_12 : Int) (σ : H) : Ans :=
 chk (allOne (V.cells (V.agg [(V.int .i64 v0_0), v0_1, (V.bool v0_2), (V.bool v0_3), (V.bool v0_4), (V.bool v0_5), (V.int .i64 v0_6), (V.int .i64 v0_7), v0_8, v0_9, (V.int .i64 v0_10), (V.bool v0_11), (V.int .i64 v0_12)]))) (
 let s1 := newB σ (.cells (V.cells (V.agg [(V.int .i64 v0_0), v0_1, (V.bool v0_2), (V.bool v0_3), (V.bool v0_4), (V.bool v0_5), (V.int .i64 v0_6), (V.int .i64 v0_7), v0_8, v0_9, (V.int .i64 v0_10), (V.bool v0_11), (V.int .i64 v0_12)])));
 chk (allOne (V.cells (V.agg [(V.int .i64 v1_0), v1_1, (V.bool v1_2), (V.bool v1_3), (V.bool v1_4), (V.bool v1_5), (V.int .i64 v1_6), (V.int .i64 v1_7), v1_8, v1_9, (V.int .i64 v1_10), (V.bool v1_11), (V.int .i64 v1_12)]))) (
 let s2 := newB s1 (.cells (V.cells (V.agg [(V.int .i64 v1_0), v1_1, (V.bool v1_2), (V.bool v1_3), (V.bool v1_4), (V.bool v1_5), (V.int .i64 v1_6), (V.int .i64 v1_7), v1_8, v1_9, (V.int .i64 v1_10), (V.bool v1_11), (V.int .i64 v1_12)])));
 ldK E s2 (H.next σ) 8 fun u3 =>
 slenK u3 fun n4 =>
 ldK E s2 (H.next σ) 10 fun u5 =>
 rtInt .i64 u5 fun x6 =>
 ldK E s2 (H.next s1) 10 fun u7 =>
 rtInt .i64 u7 fun x8 =>
 joinB (fun c9 s10 =>
 joinB (fun c12 s13 =>
 joinB (fun c15 s16 =>
 some ((V.bool c15), s16)) fun k17 =>
 condK c12 (
 ldK E s13 (H.next σ) 11 fun u18 =>
 rtBool u18 fun x19 =>
 joinB (fun c20 s21 =>
 k17 c20 s21) fun k22 =>
 condK x19 (
 k22 true s13) (
 ldK E s13 (H.next s1) 8 fun u23 =>
 slenK u23 fun n24 =>
 k22 (eqF (Int.ofNat n24) (Int.ofNat n4)) s13)) (
 k17 false s13)) fun k14 =>
 condK c9 (
 ldK E s10 (H.next s1) 8 fun u25 =>
 gK (sliceV 3 u25 none (some (V.int .i64 (Int.ofNat n4))) none) fun u26 =>
 ldK E s10 (H.next σ) 8 fun u27 =>
 callK (D 175 [u26, u27] s10) fun u28 s29 =>
 rtBool u28 fun x30 =>
 k14 x30 s29) (
 k14 false s10)) fun k11 =>
 condK (eqF x6 x8) (
 ldK E s2 (H.next s1) 8 fun u31 =>
 slenK u31 fun n32 =>
 k11 (leF (Int.ofNat n4) (Int.ofNat n32)) s2) (
 k11 false s2)))
theorem P147_0 (E : List (Nat × Blk)) (D : Den) (W : DrawFn) (N : Nat) (v0_0 : Int) (v0_1 : V) (v0_2 : Bool) (v0_3 : Bool) (v0_4 : Bool) (v0_5 : Bool) (v0_6 : Int) (v0_7 : Int) (v0_8 : V) (v0_9 : V) (v0_10 : Int) (v0_11 : Bool) (v0_12 : Int) (v1_0 : Int) (v1_1 : V) (v1_2 : Bool) (v1_3 : Bool) (v1_4 : Bool) (v1_5 : Bool) (v1_6 : Int) (v1_7 : Int) (v1_8 : V) (v1_9 : V) (v1_10 : Int) (v1_11 : Bool) (v1_12 : Int) (σ : H) :
  denC E D W N (C147_0 ) ⟨[(0, (V.agg [(V.int .i64 v0_0), v0_1, (V.bool v0_2), (V.bool v0_3), (V.bool v0_4), (V.bool v0_5), (V.int .i64 v0_6), (V.int .i64 v0_7), v0_8, v0_9, (V.int .i64 v0_10), (V.bool v0_11), (V.int .i64 v0_12)])), (1, (V.agg [(V.int .i64 v1_0), v1_1, (V.bool v1_2), (V.bool v1_3), (V.bool v1_4), (V.bool v1_5), (V.int .i64 v1_6), (V.int .i64 v1_7), v1_8, v1_9, (V.int .i64 v1_10), (V.bool v1_11), (V.int .i64 v1_12)]))], [], [], σ⟩ (Fin147 E) (fun _ _ => none) (Fin147 E) =
  T147_0 E D W  v0_0 v0_1 v0_2 v0_3 v0_4 v0_5 v0_6 v0_7 v0_8 v0_9 v0_10 v0_11 v0_12 v1_0 v1_1 v1_2 v1_3 v1_4 v1_5 v1_6 v1_7 v1_8 v1_9 v1_10 v1_11 v1_12 σ := by kernel_rfl
def J147_0 (E : List (Nat × Blk)) (D : Den) (W : DrawFn) (N : Nat) : Int → V → Bool → Bool → Bool → Bool → Int → Int → V → V → Int → Bool → Int → Int → V → Bool → Bool → Bool → Bool → Int → Int → V → V → Int → Bool → Int → H → Ans := T147_0 E D W 
theorem JE147_0 (E : List (Nat × Blk)) (D : Den) (W : DrawFn) (N : Nat) (v0_0 : Int) (v0_1 : V) (v0_2 : Bool) (v0_3 : Bool) (v0_4 : Bool) (v0_5 : Bool) (v0_6 : Int) (v0_7 : Int) (v0_8 : V) (v0_9 : V) (v0_10 : Int) (v0_11 : Bool) (v0_12 : Int) (v1_0 : Int) (v1_1 : V) (v1_2 : Bool) (v1_3 : Bool) (v1_4 : Bool) (v1_5 : Bool) (v1_6 : Int) (v1_7 : Int) (v1_8 : V) (v1_9 : V) (v1_10 : Int) (v1_11 : Bool) (v1_12 : Int) (σ : H) :
  denC E D W N C147_0 ⟨[(0, (V.agg [(V.int .i64 v0_0), v0_1, (V.bool v0_2), (V.bool v0_3), (V.bool v0_4), (V.bool v0_5), (V.int .i64 v0_6), (V.int .i64 v0_7), v0_8, v0_9, (V.int .i64 v0_10), (V.bool v0_11), (V.int .i64 v0_12)])), (1, (V.agg [(V.int .i64 v1_0), v1_1, (V.bool v1_2), (V.bool v1_3), (V.bool v1_4), (V.bool v1_5), (V.int .i64 v1_6), (V.int .i64 v1_7), v1_8, v1_9, (V.int .i64 v1_10), (V.bool v1_11), (V.int .i64 v1_12)]))], [], [], σ⟩ (Fin147 E) (fun _ _ => none) (Fin147 E) = J147_0 E D W N v0_0 v0_1 v0_2 v0_3 v0_4 v0_5 v0_6 v0_7 v0_8 v0_9 v0_10 v0_11 v0_12 v1_0 v1_1 v1_2 v1_3 v1_4 v1_5 v1_6 v1_7 v1_8 v1_9 v1_10 v1_11 v1_12 σ := by
  refine (P147_0 E D W N   v0_0 v0_1 v0_2 v0_3 v0_4 v0_5 v0_6 v0_7 v0_8 v0_9 v0_10 v0_11 v0_12 v1_0 v1_1 v1_2 v1_3 v1_4 v1_5 v1_6 v1_7 v1_8 v1_9 v1_10 v1_11 v1_12 σ).trans ?_
  kernel_rfl
def F147 (E : List (Nat × Blk)) (D : Den) (W : DrawFn) (N : Nat) (args : List V) (σ : H) : Ans :=
 rtCons args fun x1 l2 =>
 rtAgg x1 fun l3 =>
 rtCons l3 fun x4 l5 =>
 rtInt .i64 x4 fun x6 =>
 rtCons l5 fun x7 l8 =>
 rtCons l8 fun x9 l10 =>
 rtBool x9 fun x11 =>
 rtCons l10 fun x12 l13 =>
 rtBool x12 fun x14 =>
 rtCons l13 fun x15 l16 =>
 rtBool x15 fun x17 =>
 rtCons l16 fun x18 l19 =>
 rtBool x18 fun x20 =>
 rtCons l19 fun x21 l22 =>
 rtInt .i64 x21 fun x23 =>
 rtCons l22 fun x24 l25 =>
 rtInt .i64 x24 fun x26 =>
 rtCons l25 fun x27 l28 =>
 rtCons l28 fun x29 l30 =>
 rtCons l30 fun x31 l32 =>
 rtInt .i64 x31 fun x33 =>
 rtCons l32 fun x34 l35 =>
 rtBool x34 fun x36 =>
 rtCons l35 fun x37 l38 =>
 rtInt .i64 x37 fun x39 =>
 rtNil l38 (
 rtCons l2 fun x40 l41 =>
 rtAgg x40 fun l42 =>
 rtCons l42 fun x43 l44 =>
 rtInt .i64 x43 fun x45 =>
 rtCons l44 fun x46 l47 =>
 rtCons l47 fun x48 l49 =>
 rtBool x48 fun x50 =>
 rtCons l49 fun x51 l52 =>
 rtBool x51 fun x53 =>
 rtCons l52 fun x54 l55 =>
 rtBool x54 fun x56 =>
 rtCons l55 fun x57 l58 =>
 rtBool x57 fun x59 =>
 rtCons l58 fun x60 l61 =>
 rtInt .i64 x60 fun x62 =>
 rtCons l61 fun x63 l64 =>
 rtInt .i64 x63 fun x65 =>
 rtCons l64 fun x66 l67 =>
 rtCons l67 fun x68 l69 =>
 rtCons l69 fun x70 l71 =>
 rtInt .i64 x70 fun x72 =>
 rtCons l71 fun x73 l74 =>
 rtBool x73 fun x75 =>
 rtCons l74 fun x76 l77 =>
 rtInt .i64 x76 fun x78 =>
 rtNil l77 (
 rtNil l41 (
 J147_0 E D W N x6 x7 x11 x14 x17 x20 x23 x26 x27 x29 x33 x36 x39 x45 x46 x50 x53 x56 x59 x62 x65 x66 x68 x72 x75 x78 σ)))
def A147 : XFn := ⟨41, [(.agg [(.int .i64), .any, .bool, .bool, .bool, .bool, (.int .i64), (.int .i64), .any, .any, (.int .i64), .bool, (.int .i64)]), (.agg [(.int .i64), .any, .bool, .bool, .bool, .bool, (.int .i64), (.int .i64), .any, .any, (.int .i64), .bool, (.int .i64)])], [(.tmp 4)], C147_0⟩
theorem FE147 (E : List (Nat × Blk)) (D : Den) (W : DrawFn) (N : Nat) (args : List V) (σ : H) : runX E D W N A147 args σ = F147 E D W N args σ := by
  unfold F147
  simp only [← JE147_0]
  kernel_rfl
theorem AO147 : A147.body.ok = true := by kernel_rfl

/-! ### F150: strings.HasPrefix -/
def Fin150 (E : List (Nat × Blk)) : St → Ans := fun s => resK E s [(.tmp 4)] fun l => some (oneV l, s.σ)
def C150_0 : XC := (.seq (.ops (.op (some 4) .any [] (.mov (.con (V.bool false))) <|
 .nil))
 (.seq (.ops (.op (some 5) .any [0] (.mov (.tmp 0)) <|
 .op (some 6) .any [1] (.mov (.tmp 1)) <|
 .op (some 7) .bool [5, 6] (.call 177 [(.tmp 5), (.tmp 6)]) <|
 .op (some 4) .any [7] (.mov (.tmp 7)) <|
 .nil))
 .ret))
def T150_0 (E : List (Nat × Blk)) (D : Den) (W : DrawFn) (v0 : BS) (v1 : BS) (σ : H) : Ans :=
 callK (D 177 [(V.str v0), (V.str v1)] σ) fun u1 s2 =>
 rtBool u1 fun x3 =>
 some ((V.bool x3), s2)
theorem P150_0 (E : List (Nat × Blk)) (D : Den) (W : DrawFn) (N : Nat) (v0 : BS) (v1 : BS) (σ : H) :
  denC E D W N (C150_0 ) ⟨[(0, (V.str v0)), (1, (V.str v1))], [], [], σ⟩ (Fin150 E) (fun _ _ => none) (Fin150 E) =
  T150_0 E D W  v0 v1 σ := by kernel_rfl
def J150_0 (E : List (Nat × Blk)) (D : Den) (W : DrawFn) (N : Nat) : BS → BS → H → Ans := T150_0 E D W 
theorem JE150_0 (E : List (Nat × Blk)) (D : Den) (W : DrawFn) (N : Nat) (v0 : BS) (v1 : BS) (σ : H) :
  denC E D W N C150_0 ⟨[(0, (V.str v0)), (1, (V.str v1))], [], [], σ⟩ (Fin150 E) (fun _ _ => none) (Fin150 E) = J150_0 E D W N v0 v1 σ := by
  refine (P150_0 E D W N   v0 v1 σ).trans ?_
  kernel_rfl
def F150 (E : List (Nat × Blk)) (D : Den) (W : DrawFn) (N : Nat) (args : List V) (σ : H) : Ans :=
 rtCons args fun x1 l2 =>
 rtStr x1 fun x3 =>
 rtCons l2 fun x4 l5 =>
 rtStr x4 fun x6 =>
 rtNil l5 (
 J150_0 E D W N x3 x6 σ)
def A150 : XFn := ⟨8, [.str, .str], [(.tmp 4)], C150_0⟩
theorem FE150 (E : List (Nat × Blk)) (D : Den) (W : DrawFn) (N : Nat) (args : List V) (σ : H) : runX E D W N A150 args σ = F150 E D W N args σ := by
  unfold F150
  simp only [← JE150_0]
  kernel_rfl
theorem AO150 : A150.body.ok = true := by kernel_rfl

/-! ### F151: ogham_lex.Word -/
def Fin151 (E : List (Nat × Blk)) : St → Ans := fun s => resK E s [(.tmp 2)] fun l => some (oneV l, s.σ)
def C151_0 (cc1 : XC) (cc2 : XC) : XC := (.seq (.ops (.op (some 2) .any [] (.mov (.con (V.bool false))) <|
 .nil))
 (.seq (.seq (.ops (.op (some 3) .any [0] (.mov (.tmp 0)) <|
 .nil))
 (.block 0 (.seq (.seq (.ops (.op (some 5) .any [3] (.bin .eql .none (.tmp 3) (.con (V.str ⟨11, 100710650190388740279911748⟩))) <|
 .op (some 4) .any [5] (.mov (.tmp 5)) <|
 .nil))
 (.cond (.tmp 4) .skip
 (.seq (.ops (.op (some 6) .any [3] (.bin .eql .none (.tmp 3) (.con (V.str ⟨8, 6073459554577832005⟩))) <|
 .op (some 4) .any [6] (.mov (.tmp 6)) <|
 .nil))
 (.cond (.tmp 4) .skip
 (.seq (.ops (.op (some 7) .any [3] (.bin .eql .none (.tmp 3) (.con (V.str ⟨8, 6073459554577829193⟩))) <|
 .op (some 4) .any [7] (.mov (.tmp 7)) <|
 .nil))
 (.cond (.tmp 4) .skip
 (.seq (.ops (.op (some 8) .any [3] (.bin .eql .none (.tmp 3) (.con (V.str ⟨9, 1241215773001651606849⟩))) <|
 .op (some 4) .any [8] (.mov (.tmp 8)) <|
 .nil))
 (.cond (.tmp 4) .skip
 (.seq (.ops (.op (some 9) .any [3] (.bin .eql .none (.tmp 3) (.con (V.str ⟨4, 1397178708⟩))) <|
 .op (some 4) .any [9] (.mov (.tmp 9)) <|
 .nil))
 (.cond (.tmp 4) .skip
 (.seq (.ops (.op (some 10) .any [3] (.bin .eql .none (.tmp 3) (.con (V.str ⟨5, 336236856642⟩))) <|
 .op (some 4) .any [10] (.mov (.tmp 10)) <|
 .nil))
 (.cond (.tmp 4) .skip
 (.seq (.ops (.op (some 11) .any [3] (.bin .eql .none (.tmp 3) (.con (V.str ⟨3, 4476485⟩))) <|
 .op (some 4) .any [11] (.mov (.tmp 11)) <|
 .nil))
 (.cond (.tmp 4) .skip
 (.seq (.ops (.op (some 12) .any [3] (.bin .eql .none (.tmp 3) (.con (V.str ⟨7, 22026814072246082⟩))) <|
 .op (some 4) .any [12] (.mov (.tmp 12)) <|
 .nil))
 (.cond (.tmp 4) .skip
 (.seq (.ops (.op (some 13) .any [3] (.bin .eql .none (.tmp 3) (.con (V.str ⟨7, 23157120498421321⟩))) <|
 .op (some 4) .any [13] (.mov (.tmp 13)) <|
 .nil))
 (.cond (.tmp 4) .skip
 (.seq (.ops (.op (some 14) .any [3] (.bin .eql .none (.tmp 3) (.con (V.str ⟨10, 322399817400452109389381⟩))) <|
 .op (some 4) .any [14] (.mov (.tmp 14)) <|
 .nil))
 (.cond (.tmp 4) .skip
 (.seq (.ops (.op (some 15) .any [3] (.bin .eql .none (.tmp 3) (.con (V.str ⟨4, 1280070990⟩))) <|
 .op (some 4) .any [15] (.mov (.tmp 15)) <|
 .nil))
 (.cond (.tmp 4) .skip
 (.seq (.ops (.op (some 16) .any [3] (.bin .eql .none (.tmp 3) (.con (V.str ⟨5, 361940403023⟩))) <|
 .op (some 4) .any [16] (.mov (.tmp 16)) <|
 .nil))
 (.cond (.tmp 4) .skip
 (.seq (.ops (.op (some 17) .any [3] (.bin .eql .none (.tmp 3) (.con (V.str ⟨6, 78401563153491⟩))) <|
 .op (some 4) .any [17] (.mov (.tmp 17)) <|
 .nil))
 (.cond (.tmp 4) .skip
 (.seq (.ops (.op (some 18) .any [3] (.bin .eql .none (.tmp 3) (.con (V.str ⟨10, 488440487847103610377301⟩))) <|
 .op (some 4) .any [18] (.mov (.tmp 18)) <|
 .nil))
 (.cond (.tmp 4) .skip
 (.seq (.ops (.op (some 19) .any [3] (.bin .eql .none (.tmp 3) (.con (V.str ⟨8, 4990918871747741011⟩))) <|
 .op (some 4) .any [19] (.mov (.tmp 19)) <|
 .nil))
 (.cond (.tmp 4) .skip
 (.seq (.ops (.op (some 20) .any [3] (.bin .eql .none (.tmp 3) (.con (V.str ⟨3, 5522771⟩))) <|
 .op (some 4) .any [20] (.mov (.tmp 20)) <|
 .nil))
 (.cond (.tmp 4) .skip
 (.seq (.ops (.op (some 21) .any [3] (.bin .eql .none (.tmp 3) (.con (V.str ⟨6, 76155295057987⟩))) <|
 .op (some 4) .any [21] (.mov (.tmp 21)) <|
 .nil))
 (.cond (.tmp 4) .skip
 (.seq (.ops (.op (some 22) .any [3] (.bin .eql .none (.tmp 3) (.con (V.str ⟨2, 17999⟩))) <|
 .op (some 4) .any [22] (.mov (.tmp 22)) <|
 .nil))
 (.cond (.tmp 4) .skip
 (.seq (.ops (.op (some 23) .any [3] (.bin .eql .none (.tmp 3) (.con (V.str ⟨8, 5494759122808361039⟩))) <|
 .op (some 4) .any [23] (.mov (.tmp 23)) <|
 .nil))
 (.cond (.tmp 4) .skip
 (.seq (.ops (.op (some 24) .any [3] (.bin .eql .none (.tmp 3) (.con (V.str ⟨7, 23727827094750532⟩))) <|
 .op (some 4) .any [24] (.mov (.tmp 24)) <|
 .nil))
 (.cond (.tmp 4) .skip
 (.seq (.ops (.op (some 25) .any [3] (.bin .eql .none (.tmp 3) (.con (V.str ⟨4, 1163544915⟩))) <|
 .op (some 4) .any [25] (.mov (.tmp 25)) <|
 .nil))
 (.cond (.tmp 4) .skip
 (.seq (.ops (.op (some 26) .any [3] (.bin .eql .none (.tmp 3) (.con (V.str ⟨3, 5130573⟩))) <|
 .op (some 4) .any [26] (.mov (.tmp 26)) <|
 .nil))
 (.cond (.tmp 4) .skip
 (.seq (.ops (.op (some 27) .any [3] (.bin .eql .none (.tmp 3) (.con (V.str ⟨3, 5783885⟩))) <|
 .op (some 4) .any [27] (.mov (.tmp 27)) <|
 .nil))
 (.cond (.tmp 4) .skip
 (.seq (.ops (.op (some 28) .any [3] (.bin .eql .none (.tmp 3) (.con (V.str ⟨4, 1163219540⟩))) <|
 .op (some 4) .any [28] (.mov (.tmp 28)) <|
 .nil))
 (.cond (.tmp 4) .skip
 (.ops (.op (some 29) .any [3] (.bin .eql .none (.tmp 3) (.con (V.str ⟨5, 297750249798⟩))) <|
 .op (some 4) .any [29] (.mov (.tmp 29)) <|
 .nil))))))))))))))))))))))))))))))))))))))))))))))))))
 (.keep [(4, .bool)] [] [] cc2))))
 (.keep [] [] [] cc1)))
def T151_0 (E : List (Nat × Blk)) (D : Den) (W : DrawFn) (K2 : Bool → H → Ans) (v0 : BS) (σ : H) : Ans :=
 condK (BS.beq v0 (BS.mk 11 100710650190388740279911748)) (
 K2 (BS.beq v0 (BS.mk 11 100710650190388740279911748)) σ) (
 condK (BS.beq v0 (BS.mk 8 6073459554577832005)) (
 K2 (BS.beq v0 (BS.mk 8 6073459554577832005)) σ) (
 condK (BS.beq v0 (BS.mk 8 6073459554577829193)) (
 K2 (BS.beq v0 (BS.mk 8 6073459554577829193)) σ) (
 condK (BS.beq v0 (BS.mk 9 1241215773001651606849)) (
 K2 (BS.beq v0 (BS.mk 9 1241215773001651606849)) σ) (
 condK (BS.beq v0 (BS.mk 4 1397178708)) (
 K2 (BS.beq v0 (BS.mk 4 1397178708)) σ) (
 condK (BS.beq v0 (BS.mk 5 336236856642)) (
 K2 (BS.beq v0 (BS.mk 5 336236856642)) σ) (
 condK (BS.beq v0 (BS.mk 3 4476485)) (
 K2 (BS.beq v0 (BS.mk 3 4476485)) σ) (
 condK (BS.beq v0 (BS.mk 7 22026814072246082)) (
 K2 (BS.beq v0 (BS.mk 7 22026814072246082)) σ) (
 condK (BS.beq v0 (BS.mk 7 23157120498421321)) (
 K2 (BS.beq v0 (BS.mk 7 23157120498421321)) σ) (
 condK (BS.beq v0 (BS.mk 10 322399817400452109389381)) (
 K2 (BS.beq v0 (BS.mk 10 322399817400452109389381)) σ) (
 condK (BS.beq v0 (BS.mk 4 1280070990)) (
 K2 (BS.beq v0 (BS.mk 4 1280070990)) σ) (
 condK (BS.beq v0 (BS.mk 5 361940403023)) (
 K2 (BS.beq v0 (BS.mk 5 361940403023)) σ) (
 condK (BS.beq v0 (BS.mk 6 78401563153491)) (
 K2 (BS.beq v0 (BS.mk 6 78401563153491)) σ) (
 condK (BS.beq v0 (BS.mk 10 488440487847103610377301)) (
 K2 (BS.beq v0 (BS.mk 10 488440487847103610377301)) σ) (
 condK (BS.beq v0 (BS.mk 8 4990918871747741011)) (
 K2 (BS.beq v0 (BS.mk 8 4990918871747741011)) σ) (
 condK (BS.beq v0 (BS.mk 3 5522771)) (
 K2 (BS.beq v0 (BS.mk 3 5522771)) σ) (
 condK (BS.beq v0 (BS.mk 6 76155295057987)) (
 K2 (BS.beq v0 (BS.mk 6 76155295057987)) σ) (
 condK (BS.beq v0 (BS.mk 2 17999)) (
 K2 (BS.beq v0 (BS.mk 2 17999)) σ) (
 condK (BS.beq v0 (BS.mk 8 5494759122808361039)) (
 K2 (BS.beq v0 (BS.mk 8 5494759122808361039)) σ) (
 condK (BS.beq v0 (BS.mk 7 23727827094750532)) (
 K2 (BS.beq v0 (BS.mk 7 23727827094750532)) σ) (
 condK (BS.beq v0 (BS.mk 4 1163544915)) (
 K2 (BS.beq v0 (BS.mk 4 1163544915)) σ) (
 condK (BS.beq v0 (BS.mk 3 5130573)) (
 K2 (BS.beq v0 (BS.mk 3 5130573)) σ) (
 condK (BS.beq v0 (BS.mk 3 5783885)) (
 K2 (BS.beq v0 (BS.mk 3 5783885)) σ) (
 condK (BS.beq v0 (BS.mk 4 1163219540)) (
 K2 (BS.beq v0 (BS.mk 4 1163219540)) σ) (
 K2 (BS.beq v0 (BS.mk 5 297750249798)) σ))))))))))))))))))))))))
def C151_1 : XC := (.seq (.ops (.op (some 2) .any [] (.mov (.con (V.bool false))) <|
 .nil))
 .ret)
def T151_1 (E : List (Nat × Blk)) (D : Den) (W : DrawFn) (σ : H) : Ans :=
 some ((V.bool false), σ)
def C151_2 : XC := (.cond (.tmp 4) (.seq (.ops (.op (some 2) .any [] (.mov (.con (V.bool true))) <|
 .nil))
 .ret)
 .skip)
def T151_2 (E : List (Nat × Blk)) (D : Den) (W : DrawFn) (K1 : H → Ans) (v4 : Bool) (σ : H) : Ans :=
 condK v4 (
 some ((V.bool true), σ)) (
 K1 σ)
theorem P151_0 (E : List (Nat × Blk)) (D : Den) (W : DrawFn) (N : Nat) (cc1 : XC) (cc2 : XC) (v0 : BS) (σ : H) :
  denC E D W N (C151_0 cc1 cc2) ⟨[(0, (V.str v0))], [], [], σ⟩ (Fin151 E) (fun _ _ => none) (Fin151 E) =
  T151_0 E D W (fun v4 σ => denC E D W N cc2 ⟨[(4, (V.bool v4))], [], [], σ⟩ (fun s' => denC E D W N (.keep [] [] [] cc1) s' (Fin151 E) (fun _ _ => none) (Fin151 E)) (blkK 0 (fun s' => denC E D W N (.keep [] [] [] cc1) s' (Fin151 E) (fun _ _ => none) (Fin151 E)) (fun _ _ => none)) (Fin151 E)) v0 σ := by kernel_rfl
theorem P151_1 (E : List (Nat × Blk)) (D : Den) (W : DrawFn) (N : Nat) (σ : H) :
  denC E D W N (C151_1 ) ⟨[], [], [], σ⟩ (Fin151 E) (fun _ _ => none) (Fin151 E) =
  T151_1 E D W   σ := by kernel_rfl
theorem P151_2 (E : List (Nat × Blk)) (D : Den) (W : DrawFn) (N : Nat) (cc1 : XC) (v4 : Bool) (σ : H) :
  denC E D W N (C151_2 ) ⟨[(4, (V.bool v4))], [], [], σ⟩ (fun s' => denC E D W N (.keep [] [] [] cc1) s' (Fin151 E) (fun _ _ => none) (Fin151 E)) (blkK 0 (fun s' => denC E D W N (.keep [] [] [] cc1) s' (Fin151 E) (fun _ _ => none) (Fin151 E)) (fun _ _ => none)) (Fin151 E) =
  T151_2 E D W (fun  σ => denC E D W N cc1 ⟨[], [], [], σ⟩ (Fin151 E) (fun _ _ => none) (Fin151 E)) v4 σ := by kernel_rfl
def J151_1 (E : List (Nat × Blk)) (D : Den) (W : DrawFn) (N : Nat) : H → Ans := T151_1 E D W 
theorem JE151_1 (E : List (Nat × Blk)) (D : Den) (W : DrawFn) (N : Nat) (σ : H) :
  denC E D W N C151_1 ⟨[], [], [], σ⟩ (Fin151 E) (fun _ _ => none) (Fin151 E) = J151_1 E D W N  σ := by
  refine (P151_1 E D W N    σ).trans ?_
  kernel_rfl
def J151_2 (E : List (Nat × Blk)) (D : Den) (W : DrawFn) (N : Nat) : Bool → H → Ans := T151_2 E D W (J151_1 E D W N )
theorem JE151_2 (E : List (Nat × Blk)) (D : Den) (W : DrawFn) (N : Nat) (v4 : Bool) (σ : H) :
  denC E D W N C151_2 ⟨[(4, (V.bool v4))], [], [], σ⟩ (fun s' => denC E D W N (.keep [] [] [] C151_1) s' (Fin151 E) (fun _ _ => none) (Fin151 E)) (blkK 0 (fun s' => denC E D W N (.keep [] [] [] C151_1) s' (Fin151 E) (fun _ _ => none) (Fin151 E)) (fun _ _ => none)) (Fin151 E) = J151_2 E D W N v4 σ := by
  refine (P151_2 E D W N C151_1  v4 σ).trans ?_
  simp only [JE151_1]
  kernel_rfl
def J151_0 (E : List (Nat × Blk)) (D : Den) (W : DrawFn) (N : Nat) : BS → H → Ans := T151_0 E D W (J151_2 E D W N )
theorem JE151_0 (E : List (Nat × Blk)) (D : Den) (W : DrawFn) (N : Nat) (v0 : BS) (σ : H) :
  denC E D W N (C151_0 C151_1 C151_2) ⟨[(0, (V.str v0))], [], [], σ⟩ (Fin151 E) (fun _ _ => none) (Fin151 E) = J151_0 E D W N v0 σ := by
  refine (P151_0 E D W N C151_1 C151_2  v0 σ).trans ?_
  simp only [JE151_2]
  kernel_rfl
def F151 (E : List (Nat × Blk)) (D : Den) (W : DrawFn) (N : Nat) (args : List V) (σ : H) : Ans :=
 rtCons args fun x1 l2 =>
 rtStr x1 fun x3 =>
 rtNil l2 (
 J151_0 E D W N x3 σ)
def A151 : XFn := ⟨30, [.str], [(.tmp 2)], (C151_0 C151_1 C151_2)⟩
theorem FE151 (E : List (Nat × Blk)) (D : Den) (W : DrawFn) (N : Nat) (args : List V) (σ : H) : runX E D W N A151 args σ = F151 E D W N args σ := by
  unfold F151
  simp only [← JE151_0]
  kernel_rfl
theorem AO151 : A151.body.ok = true := by kernel_rfl

def C154_0 (cc1 : XC) (cc2 : XC) : XC := (.seq (.ops (.op (some 1) .any [0] (.box 187 (.tmp 0)) <|
 .op (some 2) .any [] (.mov (.con (V.bool false))) <|
 .nil))
 (.seq (.seq (.ops (.op (some 3) .any [1] (.faddr 0 (.tmp 1)) <|
 .op (some 4) (.int .i64) [3] (.load none (.tmp 3)) <|
 .nil))
 (.block 0 (.seq (.ops (.op (some 6) .any [4] (.bin .eql .none (.tmp 4) (.con (V.int .i64 (Int.ofNat 1)))) <|
 .op (some 5) .any [6] (.mov (.tmp 6)) <|
 .nil))
 (.cond (.tmp 5) (.seq (.ops (.op (some 2) .any [] (.mov (.con (V.bool true))) <|
 .nil))
 .ret)
 (.seq (.ops (.op (some 8) .any [4] (.bin .eql .none (.tmp 4) (.con (V.int .i64 (Int.ofNat 6)))) <|
 .op (some 7) .any [8] (.mov (.tmp 8)) <|
 .nil))
 (.cond (.tmp 7) (.seq (.ops (.op (some 9) .any [1] (.faddr 1 (.tmp 1)) <|
 .op (some 10) .str [9] (.load none (.tmp 9)) <|
 .op (some 11) .any [10] (.bin .eql .none (.tmp 10) (.con (V.str ⟨1, 91⟩))) <|
 .op (some 2) .any [11] (.mov (.tmp 11)) <|
 .nil))
 .ret)
 (.seq (.ops (.op (some 13) .any [4] (.bin .eql .none (.tmp 4) (.con (V.int .i64 (Int.ofNat 5)))) <|
 .op (some 12) .any [13] (.mov (.tmp 13)) <|
 .nil))
 (.cond (.tmp 12) (.seq (.ops (.op (some 14) .any [1] (.faddr 1 (.tmp 1)) <|
 .op (some 15) .str [14] (.load none (.tmp 14)) <|
 .nil))
 (.block 1 (.seq (.seq (.ops (.op (some 17) .any [15] (.bin .eql .none (.tmp 15) (.con (V.str ⟨7, 22026814072246082⟩))) <|
 .op (some 16) .any [17] (.mov (.tmp 17)) <|
 .nil))
 (.cond (.tmp 16) .skip
 (.seq (.ops (.op (some 18) .any [15] (.bin .eql .none (.tmp 15) (.con (V.str ⟨4, 1280070990⟩))) <|
 .op (some 16) .any [18] (.mov (.tmp 18)) <|
 .nil))
 (.cond (.tmp 16) .skip
 (.seq (.ops (.op (some 19) .any [15] (.bin .eql .none (.tmp 15) (.con (V.str ⟨10, 488440487847103610377301⟩))) <|
 .op (some 16) .any [19] (.mov (.tmp 19)) <|
 .nil))
 (.cond (.tmp 16) .skip
 (.seq (.ops (.op (some 20) .any [15] (.bin .eql .none (.tmp 15) (.con (V.str ⟨7, 23157120498421321⟩))) <|
 .op (some 16) .any [20] (.mov (.tmp 20)) <|
 .nil))
 (.cond (.tmp 16) .skip
 (.seq (.ops (.op (some 21) .any [15] (.bin .eql .none (.tmp 15) (.con (V.str ⟨5, 361940403023⟩))) <|
 .op (some 16) .any [21] (.mov (.tmp 21)) <|
 .nil))
 (.cond (.tmp 16) .skip
 (.seq (.ops (.op (some 22) .any [15] (.bin .eql .none (.tmp 15) (.con (V.str ⟨10, 322399817400452109389381⟩))) <|
 .op (some 16) .any [22] (.mov (.tmp 22)) <|
 .nil))
 (.cond (.tmp 16) .skip
 (.seq (.ops (.op (some 23) .any [15] (.bin .eql .none (.tmp 15) (.con (V.str ⟨8, 4990918871747741011⟩))) <|
 .op (some 16) .any [23] (.mov (.tmp 23)) <|
 .nil))
 (.cond (.tmp 16) .skip
 (.seq (.ops (.op (some 24) .any [15] (.bin .eql .none (.tmp 15) (.con (V.str ⟨3, 5522771⟩))) <|
 .op (some 16) .any [24] (.mov (.tmp 24)) <|
 .nil))
 (.cond (.tmp 16) .skip
 (.ops (.op (some 25) .any [15] (.bin .eql .none (.tmp 15) (.con (V.str ⟨6, 76155295057987⟩))) <|
 .op (some 16) .any [25] (.mov (.tmp 25)) <|
 .nil))))))))))))))))))
 (.keep [(16, .bool)] [] [] cc2))))
 .skip))))))))
 (.keep [] [] [] cc1)))
def C154_1 : XC := (.seq (.ops (.op (some 2) .any [] (.mov (.con (V.bool false))) <|
 .nil))
 .ret)
def C154_2 : XC := (.cond (.tmp 16) (.seq (.ops (.op (some 2) .any [] (.mov (.con (V.bool true))) <|
 .nil))
 .ret)
 .skip)
def A154 : XFn := ⟨26, [(.agg [(.int .i64), .str, (.int .i64)])], [(.tmp 2)], (C154_0 C154_1 C154_2)⟩
def G155_0 : List AOper := [⟨(some 31), .faddr 1 (.tmp 9), none⟩, ⟨(some 32), .load none (.tmp 31), none⟩, ⟨(some 33), .faddr 0 (.tmp 8), none⟩, ⟨none, .store 1 (.tmp 33) (.con (V.int .i64 (Int.ofNat 11))), none⟩, ⟨(some 34), .faddr 1 (.tmp 8), none⟩, ⟨none, .store 1 (.tmp 34) (.tmp 32), none⟩]
def H155_0 : List DP := [⟨0, [9]⟩, ⟨1, [31]⟩, ⟨0, [8]⟩, ⟨4, [33]⟩, ⟨15, [8]⟩, ⟨31, [34, 32]⟩]
def C155_0 (cc1 : XC) : XC := (.seq (.ops (.op (some 4) .any [] (.alloc 203 [(V.int .i64 (Int.ofNat 0)), (V.str ⟨0, 0⟩), (V.bool false), (V.int .i64 (Int.ofNat 0)), (V.int .i64 (Int.ofNat 0)), (V.bool false), (V.bool false), (V.bool false), (V.bool false), (V.int .i64 (Int.ofNat 0)), (V.int .i64 (Int.ofNat 0)), V.nils, V.nils, (V.int .i64 (Int.ofNat 0)), (V.bool false), (V.int .i64 (Int.ofNat 0))]) <|
 .op (some 5) .any [] (.mov (.con (V.bool false))) <|
 .nil))
 (.seq (.ops (.op (some 11) .any [0] (.mov (.tmp 0)) <|
 .op (some 12) (.tup [(.agg [.bool, (.int .i64), (.int .i64)]), .bool]) [11] (.call 181 [(.tmp 11)]) <|
 .op (some 10) .any [12] (.mov (.tmp 12)) <|
 .op (some 13) .any [10] (.extract 0 (.tmp 10)) <|
 .op (some 14) .any [10] (.extract 1 (.tmp 10)) <|
 .pal 6 [] 201 [(V.bool false), (V.int .i64 (Int.ofNat 0)), (V.int .i64 (Int.ofNat 0))] <|
 .op none (.agg [.bool, (.int .i64), (.int .i64)]) [6, 13] (.store 3 (.tmp 6) (.tmp 13)) <|
 .op (some 7) .any [14] (.mov (.tmp 14)) <|
 .nil))
 (.seq (.seq (.ops (.op (some 15) .any [7] (.mov (.tmp 7)) <|
 .op (some 16) .any [15] (.un .not (.tmp 15)) <|
 .nil))
 (.cond (.tmp 16) (.seq (.ops (.op (some 17) (.agg [(.int .i64), .str, .bool, (.int .i64), (.int .i64), .bool, .bool, .bool, .bool, (.int .i64), (.int .i64), .any, .any, (.int .i64), .bool, (.int .i64)]) [] (.build [(V.int .i64 (Int.ofNat 0)), (V.str ⟨0, 0⟩), (V.bool false), (V.int .i64 (Int.ofNat 0)), (V.int .i64 (Int.ofNat 0)), (V.bool false), (V.bool false), (V.bool false), (V.bool false), (V.int .i64 (Int.ofNat 0)), (V.int .i64 (Int.ofNat 0)), V.nils, V.nils, (V.int .i64 (Int.ofNat 0)), (V.bool false), (V.int .i64 (Int.ofNat 0))] []) <|
 .op none (.agg [(.int .i64), .str, .bool, (.int .i64), (.int .i64), .bool, .bool, .bool, .bool, (.int .i64), (.int .i64), .any, .any, (.int .i64), .bool, (.int .i64)]) [4, 17] (.store 16 (.tmp 4) (.tmp 17)) <|
 .op (some 5) .any [] (.mov (.con (V.bool false))) <|
 .nil))
 .ret)
 .skip))
 (.seq (.ops (.op (some 18) (.agg [.bool, (.int .i64), (.int .i64)]) [6] (.load (some 3) (.tmp 6)) <|
 .op (some 19) (.agg [(.int .i64), .str, .bool, (.int .i64), (.int .i64), .bool, .bool, .bool, .bool, (.int .i64), (.int .i64), .any, .any, (.int .i64), .bool, (.int .i64)]) [18] (.build [(V.int .i64 (Int.ofNat 0)), (V.str ⟨0, 0⟩), (V.bool false), (V.int .i64 (Int.ofNat 0)), (V.int .i64 (Int.ofNat 0)), (V.bool false), (V.bool false), (V.bool false), (V.bool false), (V.int .i64 (Int.ofNat 0)), (V.int .i64 (Int.ofNat 0)), V.nils, V.nils, (V.int .i64 (Int.ofNat 0)), (V.bool false), (V.int .i64 (Int.ofNat 0))] [(2, 3, (.tmp 18))]) <|
 .op (some 8) .any [] (.alloc 203 [(V.int .i64 (Int.ofNat 0)), (V.str ⟨0, 0⟩), (V.bool false), (V.int .i64 (Int.ofNat 0)), (V.int .i64 (Int.ofNat 0)), (V.bool false), (V.bool false), (V.bool false), (V.bool false), (V.int .i64 (Int.ofNat 0)), (V.int .i64 (Int.ofNat 0)), V.nils, V.nils, (V.int .i64 (Int.ofNat 0)), (V.bool false), (V.int .i64 (Int.ofNat 0))]) <|
 .op none (.agg [(.int .i64), .str, .bool, (.int .i64), (.int .i64), .bool, .bool, .bool, .bool, (.int .i64), (.int .i64), .any, .any, (.int .i64), .bool, (.int .i64)]) [8, 19] (.store 16 (.tmp 8) (.tmp 19)) <|
 .nil))
 (.seq (.seq (.ops (.op (some 20) .any [0] (.mov (.tmp 0)) <|
 .op (some 21) .any [20] (.nilck (.tmp 20)) <|
 .op (some 22) .any [21] (.faddr 0 (.tmp 21)) <|
 .op (some 23) (.agg [(.int .i64), .str, (.int .i64)]) [22] (.call 92 [(.tmp 22)]) <|
 .op (some 9) .any [] (.alloc 187 [(V.int .i64 (Int.ofNat 0)), (V.str ⟨0, 0⟩), (V.int .i64 (Int.ofNat 0))]) <|
 .op none (.agg [(.int .i64), .str, (.int .i64)]) [9, 23] (.store 3 (.tmp 9) (.tmp 23)) <|
 .nil))
 (.seq (.ops (.op (some 24) .any [9] (.faddr 0 (.tmp 9)) <|
 .op (some 25) (.int .i64) [24] (.load none (.tmp 24)) <|
 .op (some 26) .any [25] (.bin .eql .none (.tmp 25) (.con (V.int .i64 (Int.ofNat 1)))) <|
 .nil))
 (.cond (.tmp 26) (.seq (.ops (.op (some 27) .any [0] (.mov (.tmp 0)) <|
 .op (some 28) .any [27] (.nilck (.tmp 27)) <|
 .op (some 29) .any [28] (.faddr 0 (.tmp 28)) <|
 .op (some 30) (.agg [(.int .i64), .str, (.int .i64)]) [29] (.call 125 [(.tmp 29)]) <|
 .nil))
 (.seq (.keep [(4, .ptr), (8, .ptr), (9, .ptr)] [] [] (.gdraw G155_0 H155_0 [(4, .ptr), (8, .ptr)]))
 (.seq (.ops (.op (some 35) (.agg [(.int .i64), .str, .bool, (.int .i64), (.int .i64), .bool, .bool, .bool, .bool, (.int .i64), (.int .i64), .any, .any, (.int .i64), .bool, (.int .i64)]) [8] (.load (some 16) (.tmp 8)) <|
 .op none (.agg [(.int .i64), .str, .bool, (.int .i64), (.int .i64), .bool, .bool, .bool, .bool, (.int .i64), (.int .i64), .any, .any, (.int .i64), .bool, (.int .i64)]) [4, 35] (.store 16 (.tmp 4) (.tmp 35)) <|
 .op (some 5) .any [] (.mov (.con (V.bool true))) <|
 .nil))
 .ret)))
 .skip)))
 (.seq (.block 0 (.seq (.ops (.op (some 44) .any [0] (.mov (.tmp 0)) <|
 .op (some 45) .any [44] (.nilck (.tmp 44)) <|
 .op (some 46) .any [45] (.faddr 0 (.tmp 45)) <|
 .op (some 47) .bool [46] (.call 126 [(.tmp 46), (.con (V.str ⟨7, 22026814072246082⟩))]) <|
 .op (some 43) .any [47] (.mov (.tmp 47)) <|
 .nil))
 (.cond (.tmp 43) (.ops (.op (some 48) .any [8] (.faddr 0 (.tmp 8)) <|
 .op none .any [48] (.store 1 (.tmp 48) (.con (V.int .i64 (Int.ofNat 1)))) <|
 .nil))
 (.seq (.ops (.op (some 50) .any [0] (.mov (.tmp 0)) <|
 .op (some 51) .any [50] (.nilck (.tmp 50)) <|
 .op (some 52) .any [51] (.faddr 0 (.tmp 51)) <|
 .op (some 53) .bool [52] (.call 126 [(.tmp 52), (.con (V.str ⟨4, 1280070990⟩))]) <|
 .op (some 49) .any [53] (.mov (.tmp 53)) <|
 .nil))
 (.cond (.tmp 49) (.ops (.op (some 54) .any [8] (.faddr 0 (.tmp 8)) <|
 .op none .any [54] (.store 1 (.tmp 54) (.con (V.int .i64 (Int.ofNat 4)))) <|
 .nil))
 (.seq (.ops (.op (some 56) .any [0] (.mov (.tmp 0)) <|
 .op (some 57) .any [56] (.nilck (.tmp 56)) <|
 .op (some 58) .any [57] (.faddr 0 (.tmp 57)) <|
 .op (some 59) .bool [58] (.call 126 [(.tmp 58), (.con (V.str ⟨10, 488440487847103610377301⟩))]) <|
 .op (some 55) .any [59] (.mov (.tmp 59)) <|
 .nil))
 (.cond (.tmp 55) (.seq (.ops (.op (some 60) .any [8] (.faddr 0 (.tmp 8)) <|
 .op none .any [60] (.store 1 (.tmp 60) (.con (V.int .i64 (Int.ofNat 6)))) <|
 .nil))
 (.ops (.op (some 61) .any [0] (.mov (.tmp 0)) <|
 .op (some 62) .any [8] (.faddr 5 (.tmp 8)) <|
 .op (some 63) .bool [61, 62] (.call 182 [(.tmp 61), (.tmp 62)]) <|
 .op (some 7) .any [63] (.mov (.tmp 63)) <|
 .nil)))
 (.seq (.ops (.op (some 65) .any [0] (.mov (.tmp 0)) <|
 .op (some 66) .any [65] (.nilck (.tmp 65)) <|
 .op (some 67) .any [66] (.faddr 0 (.tmp 66)) <|
 .op (some 68) .bool [67] (.call 126 [(.tmp 67), (.con (V.str ⟨7, 23157120498421321⟩))]) <|
 .op (some 64) .any [68] (.mov (.tmp 68)) <|
 .nil))
 (.cond (.tmp 64) (.seq (.ops (.op (some 69) .any [8] (.faddr 0 (.tmp 8)) <|
 .op none .any [69] (.store 1 (.tmp 69) (.con (V.int .i64 (Int.ofNat 2)))) <|
 .nil))
 (.ops (.op (some 70) .any [0] (.mov (.tmp 0)) <|
 .op (some 71) .any [70] (.nilck (.tmp 70)) <|
 .op (some 72) .any [71] (.faddr 0 (.tmp 71)) <|
 .op (some 73) .bool [72] (.call 126 [(.tmp 72), (.con (V.str ⟨1, 40⟩))]) <|
 .op (some 74) .any [73] (.un .not (.tmp 73)) <|
 .op (some 75) .any [74] (.mov (.tmp 74)) <|
 .grp 75 false (.op (some 76) .any [0, 75] (.mov (.tmp 0)) <|
 .op (some 77) .any [8, 75] (.faddr 5 (.tmp 8)) <|
 .op (some 78) .bool [76, 77, 75] (.call 183 [(.tmp 76), (.tmp 77)]) <|
 .op (some 79) .any [78, 75] (.mov (.tmp 78)) <|
 .grp 79 true (.op (some 80) .any [0, 79] (.mov (.tmp 0)) <|
 .op (some 81) .any [79] (.buildSlice 9 1 [(V.str ⟨0, 0⟩)] [(0, 1, (.con (V.str ⟨1, 41⟩)))]) <|
 .op (some 82) .bool [80, 81, 79] (.call 90 [(.tmp 80), (.tmp 81)]) <|
 .nil) 83 [79, 82, 75] (.tmp 79) (.tmp 82) (.con (V.bool false)) <|
 .nil) 84 [75, 83] (.tmp 75) (.con (V.bool true)) (.tmp 83) <|
 .op (some 7) .any [84] (.mov (.tmp 84)) <|
 .nil)))
 (.seq (.ops (.op (some 86) .any [0] (.mov (.tmp 0)) <|
 .op (some 87) .any [86] (.nilck (.tmp 86)) <|
 .op (some 88) .any [87] (.faddr 0 (.tmp 87)) <|
 .op (some 89) .bool [88] (.call 126 [(.tmp 88), (.con (V.str ⟨5, 361940403023⟩))]) <|
 .op (some 85) .any [89] (.mov (.tmp 89)) <|
 .nil))
 (.cond (.tmp 85) (.seq (.ops (.op (some 90) .any [8] (.faddr 0 (.tmp 8)) <|
 .op none .any [90] (.store 1 (.tmp 90) (.con (V.int .i64 (Int.ofNat 5)))) <|
 .nil))
 (.ops (.op (some 91) .any [0] (.mov (.tmp 0)) <|
 .op (some 92) .any [] (.buildSlice 9 1 [(V.str ⟨0, 0⟩)] [(0, 1, (.con (V.str ⟨6, 78401563153491⟩)))]) <|
 .op (some 93) .bool [91, 92] (.call 90 [(.tmp 91), (.tmp 92)]) <|
 .op (some 94) .any [93] (.mov (.tmp 93)) <|
 .grp 94 true (.op (some 95) .any [0, 94] (.mov (.tmp 0)) <|
 .op (some 96) .any [8, 94] (.faddr 5 (.tmp 8)) <|
 .op (some 97) .bool [95, 96, 94] (.call 182 [(.tmp 95), (.tmp 96)]) <|
 .nil) 98 [94, 97] (.tmp 94) (.tmp 97) (.con (V.bool false)) <|
 .op (some 7) .any [98] (.mov (.tmp 98)) <|
 .nil)))
 (.seq (.ops (.op (some 100) .any [0] (.mov (.tmp 0)) <|
 .op (some 101) .any [100] (.nilck (.tmp 100)) <|
 .op (some 102) .any [101] (.faddr 0 (.tmp 101)) <|
 .op (some 103) .bool [102] (.call 126 [(.tmp 102), (.con (V.str ⟨10, 322399817400452109389381⟩))]) <|
 .op (some 99) .any [103] (.mov (.tmp 103)) <|
 .nil))
 (.cond (.tmp 99) (.seq (.ops (.op (some 104) .any [8] (.faddr 0 (.tmp 8)) <|
 .op none .any [104] (.store 1 (.tmp 104) (.con (V.int .i64 (Int.ofNat 3)))) <|
 .nil))
 (.ops (.op (some 105) .any [0] (.mov (.tmp 0)) <|
 .op (some 106) .bool [105, 8] (.call 184 [(.tmp 105), (.tmp 8)]) <|
 .op (some 7) .any [106] (.mov (.tmp 106)) <|
 .nil)))
 (.seq (.ops (.op (some 108) .any [0] (.mov (.tmp 0)) <|
 .op (some 109) .any [108] (.nilck (.tmp 108)) <|
 .op (some 110) .any [109] (.faddr 0 (.tmp 109)) <|
 .op (some 111) .bool [110] (.call 126 [(.tmp 110), (.con (V.str ⟨3, 5522771⟩))]) <|
 .op (some 107) .any [111] (.mov (.tmp 111)) <|
 .nil))
 (.cond (.tmp 107) (.seq (.ops (.op (some 112) .any [8] (.faddr 0 (.tmp 8)) <|
 .op none .any [112] (.store 1 (.tmp 112) (.con (V.int .i64 (Int.ofNat 8)))) <|
 .nil))
 (.ops (.op (some 113) .any [0] (.mov (.tmp 0)) <|
 .op (some 114) .any [1] (.mov (.tmp 1)) <|
 .op (some 115) .bool [113, 8, 114] (.call 185 [(.tmp 113), (.tmp 8), (.tmp 114)]) <|
 .op (some 7) .any [115] (.mov (.tmp 115)) <|
 .nil)))
 (.seq (.ops (.op (some 117) .any [0] (.mov (.tmp 0)) <|
 .op (some 118) .any [117] (.nilck (.tmp 117)) <|
 .op (some 119) .any [118] (.faddr 0 (.tmp 118)) <|
 .op (some 120) .bool [119] (.call 126 [(.tmp 119), (.con (V.str ⟨6, 76155295057987⟩))]) <|
 .op (some 116) .any [120] (.mov (.tmp 120)) <|
 .nil))
 (.cond (.tmp 116) (.seq (.ops (.op (some 121) .any [8] (.faddr 0 (.tmp 8)) <|
 .op none .any [121] (.store 1 (.tmp 121) (.con (V.int .i64 (Int.ofNat 9)))) <|
 .nil))
 (.ops (.op (some 122) .any [0] (.mov (.tmp 0)) <|
 .op (some 123) .any [1] (.mov (.tmp 1)) <|
 .op (some 124) .bool [122, 8, 123] (.call 185 [(.tmp 122), (.tmp 8), (.tmp 123)]) <|
 .op (some 7) .any [124] (.mov (.tmp 124)) <|
 .nil)))
 (.seq (.ops (.op (some 126) .any [0] (.mov (.tmp 0)) <|
 .op (some 127) .any [126] (.nilck (.tmp 126)) <|
 .op (some 128) .any [127] (.faddr 0 (.tmp 127)) <|
 .op (some 129) .bool [128] (.call 126 [(.tmp 128), (.con (V.str ⟨8, 4990918871747741011⟩))]) <|
 .op (some 125) .any [129] (.mov (.tmp 129)) <|
 .nil))
 (.cond (.tmp 125) (.ops (.op (some 130) .any [0] (.mov (.tmp 0)) <|
 .op (some 131) .any [1] (.mov (.tmp 1)) <|
 .op (some 132) .bool [130, 8, 131] (.call 186 [(.tmp 130), (.tmp 8), (.tmp 131)]) <|
 .op (some 7) .any [132] (.mov (.tmp 132)) <|
 .nil))
 (.ops (.op (some 36) .any [0] (.mov (.tmp 0)) <|
 .op (some 37) .any [0] (.mov (.tmp 0)) <|
 .op (some 38) .any [37] (.nilck (.tmp 37)) <|
 .op (some 39) .any [38] (.faddr 0 (.tmp 38)) <|
 .op (some 40) (.agg [(.int .i64), .str, (.int .i64)]) [39] (.call 92 [(.tmp 39)]) <|
 .op (some 41) (.int .i64) [40] (.field 2 none (.tmp 40)) <|
 .op (some 42) .bool [36, 41] (.call 124 [(.tmp 36), (.tmp 41), (.con (V.int .i64 (Int.ofNat 7)))]) <|
 .op (some 7) .any [42] (.mov (.tmp 42)) <|
 .nil)))))))))))))))))))))
 (.keep [(4, .ptr), (7, .bool), (8, .ptr)] [] [] cc1)))))))
def C155_1 : XC := (.seq (.ops (.op (some 133) (.agg [(.int .i64), .str, .bool, (.int .i64), (.int .i64), .bool, .bool, .bool, .bool, (.int .i64), (.int .i64), .any, .any, (.int .i64), .bool, (.int .i64)]) [8] (.load (some 16) (.tmp 8)) <|
 .op (some 134) .any [7] (.mov (.tmp 7)) <|
 .op none (.agg [(.int .i64), .str, .bool, (.int .i64), (.int .i64), .bool, .bool, .bool, .bool, (.int .i64), (.int .i64), .any, .any, (.int .i64), .bool, (.int .i64)]) [4, 133] (.store 16 (.tmp 4) (.tmp 133)) <|
 .op (some 5) .any [134] (.mov (.tmp 134)) <|
 .nil))
 .ret)
def A155 : XFn := ⟨135, [.ptr, (.int .i64)], [(.cell 4 (some 16)), (.tmp 5)], (C155_0 C155_1)⟩
/-! ### F156: ogham_refs.walk -/
def Fin156 (E : List (Nat × Blk)) : St → Ans := fun s => resK E s [] fun l => some (oneV l, s.σ)
def C156_0 (cc1 : XC) (cc2 : XC) : XC := (.seq (.ops (.op (some 4) .any [0] (.box 99 (.tmp 0)) <|
 .nil))
 (.seq (.seq (.ops (.op (some 11) .any [1] (.mov (.tmp 1)) <|
 .op (some 12) .any [11] (.bin .lss .none (.tmp 11) (.con (V.int .i64 (Int.ofNat 0)))) <|
 .op (some 13) .any [12] (.mov (.tmp 12)) <|
 .grp 13 false (.op (some 14) .any [1, 13] (.mov (.tmp 1)) <|
 .op (some 15) .any [4, 13] (.faddr 4 (.tmp 4)) <|
 .op (some 16) .any [15, 13] (.load none (.tmp 15)) <|
 .op (some 17) .any [16, 13] (.len false (.tmp 16)) <|
 .op (some 18) .any [14, 17, 13] (.bin .geq .none (.tmp 14) (.tmp 17)) <|
 .nil) 19 [13, 18] (.tmp 13) (.con (V.bool true)) (.tmp 18) <|
 .op (some 20) .any [19] (.mov (.tmp 19)) <|
 .grp 20 false (.op (some 21) .any [2, 20] (.mov (.tmp 2)) <|
 .op (some 22) .any [1, 20] (.mov (.tmp 1)) <|
 .op (some 23) .any [21, 22, 20] (.iaddrS 1 (.tmp 21) (.tmp 22)) <|
 .op (some 24) .bool [23, 20] (.load none (.tmp 23)) <|
 .nil) 25 [20, 24] (.tmp 20) (.con (V.bool true)) (.tmp 24) <|
 .nil))
 (.cond (.tmp 25) .ret
 .skip))
 (.seq (.ops (.op (some 26) .any [2] (.mov (.tmp 2)) <|
 .op (some 27) .any [1] (.mov (.tmp 1)) <|
 .op (some 28) .any [26, 27] (.iaddrS 1 (.tmp 26) (.tmp 27)) <|
 .op none .any [28] (.store 1 (.tmp 28) (.con (V.bool true))) <|
 .nil))
 (.seq (.ops (.op (some 29) .any [4] (.faddr 4 (.tmp 4)) <|
 .op (some 30) .any [29] (.load none (.tmp 29)) <|
 .op (some 31) .any [1] (.mov (.tmp 1)) <|
 .op (some 32) .any [30, 31] (.iaddrS 16 (.tmp 30) (.tmp 31)) <|
 .op (some 33) (.agg [(.int .i64), .str, .bool, (.int .i64), (.int .i64), .bool, .bool, .bool, .bool, (.int .i64), (.int .i64), .any, .any, (.int .i64), .bool, (.int .i64)]) [32] (.load (some 16) (.tmp 32)) <|
 .pal 8 [] 203 [(V.int .i64 (Int.ofNat 0)), (V.str ⟨0, 0⟩), (V.bool false), (V.int .i64 (Int.ofNat 0)), (V.int .i64 (Int.ofNat 0)), (V.bool false), (V.bool false), (V.bool false), (V.bool false), (V.int .i64 (Int.ofNat 0)), (V.int .i64 (Int.ofNat 0)), V.nils, V.nils, (V.int .i64 (Int.ofNat 0)), (V.bool false), (V.int .i64 (Int.ofNat 0))] <|
 .op none (.agg [(.int .i64), .str, .bool, (.int .i64), (.int .i64), .bool, .bool, .bool, .bool, (.int .i64), (.int .i64), .any, .any, (.int .i64), .bool, (.int .i64)]) [8, 33] (.store 16 (.tmp 8) (.tmp 33)) <|
 .nil))
 (.seq (.ops (.op (some 34) .any [3] (.mov (.tmp 3)) <|
 .op (some 35) (.agg [(.int .i64), .str, .bool, (.int .i64), (.int .i64), .bool, .bool, .bool, .bool, (.int .i64), (.int .i64), .any, .any, (.int .i64), .bool, (.int .i64)]) [8] (.load (some 16) (.tmp 8)) <|
 .op (some 36) (.tup []) [34, 35] (.callv (.tmp 34) [(.tmp 35)]) <|
 .nil))
 (.seq (.seq (.ops (.op (some 37) .any [8] (.faddr 0 (.tmp 8)) <|
 .op (some 38) (.int .i64) [37] (.load none (.tmp 37)) <|
 .op (some 39) .any [38] (.bin .eql .none (.tmp 38) (.con (V.int .i64 (Int.ofNat 11)))) <|
 .nil))
 (.cond (.tmp 39) .ret
 .skip))
 (.seq (.seq (.ops (.op (some 40) .any [8] (.faddr 12 (.tmp 8)) <|
 .op (some 41) .any [40] (.load none (.tmp 40)) <|
 .op (some 42) .any [41] (.len false (.tmp 41)) <|
 .op (some 43) .any [] (.mov (.con (V.int .i64 (Int.ofNat 0)))) <|
 .nil))
 (.block 0 (.loop [(2, .any), (3, .any), (4, .ptr), (41, .any), (42, (.int .i64)), (43, (.int .i64))] [8] [(8, [(.int .i64), .str, .bool, (.int .i64), (.int .i64), .bool, .bool, .bool, .bool, (.int .i64), (.int .i64), .any, .any, (.int .i64), .bool, (.int .i64)])] cc2)))
 (.keep [(2, .any), (3, .any), (4, .ptr)] [8] [(8, [(.int .i64), .str, .bool, (.int .i64), (.int .i64), .bool, .bool, .bool, .bool, (.int .i64), (.int .i64), .any, .any, (.int .i64), .bool, (.int .i64)])] cc1))))))))
def T156_0 (E : List (Nat × Blk)) (D : Den) (W : DrawFn) (K2 : V → V → Nat → Nat → V → Int → Int → Int → BS → Bool → Int → Int → Bool → Bool → Bool → Bool → Int → Int → V → V → Int → Bool → Int → H → Ans) (v0_0 : BS) (v0_1 : Int) (v0_2 : V) (v0_3 : V) (v0_4 : V) (v1 : Int) (v2 : V) (v3 : V) (σ : H) : Ans :=
 chk (allOne (V.cells (V.agg [(V.str v0_0), (V.int .i64 v0_1), v0_2, v0_3, v0_4]))) (
 let s1 := newB σ (.cells (V.cells (V.agg [(V.str v0_0), (V.int .i64 v0_1), v0_2, v0_3, v0_4])));
 joinB (fun c2 s3 =>
 joinB (fun c5 s6 =>
 condK c5 (
 some ((V.tup []), s6)) (
 iaddrSK 1 v2 v1 fun b8 o9 =>
 stK 1 b8 o9 (V.bool true) s6 fun s10 =>
 ldK E s10 (H.next σ) 4 fun u11 =>
 iaddrSK 16 u11 v1 fun b12 o13 =>
 ldnK E s10 b12 o13 16 fun l14 =>
 rtCons l14 fun x15 l16 =>
 rtInt .i64 x15 fun x17 =>
 rtCons l16 fun x18 l19 =>
 rtStr x18 fun x20 =>
 rtCons l19 fun x21 l22 =>
 rtBool x21 fun x23 =>
 rtCons l22 fun x24 l25 =>
 rtInt .i64 x24 fun x26 =>
 rtCons l25 fun x27 l28 =>
 rtInt .i64 x27 fun x29 =>
 rtCons l28 fun x30 l31 =>
 rtBool x30 fun x32 =>
 rtCons l31 fun x33 l34 =>
 rtBool x33 fun x35 =>
 rtCons l34 fun x36 l37 =>
 rtBool x36 fun x38 =>
 rtCons l37 fun x39 l40 =>
 rtBool x39 fun x41 =>
 rtCons l40 fun x42 l43 =>
 rtInt .i64 x42 fun x44 =>
 rtCons l43 fun x45 l46 =>
 rtInt .i64 x45 fun x47 =>
 rtCons l46 fun x48 l49 =>
 rtCons l49 fun x50 l51 =>
 rtCons l51 fun x52 l53 =>
 rtInt .i64 x52 fun x54 =>
 rtCons l53 fun x55 l56 =>
 rtBool x55 fun x57 =>
 rtCons l56 fun x58 l59 =>
 rtInt .i64 x58 fun x60 =>
 rtNil l59 (
 chk (allOne [(V.int .i64 x17), (V.str x20), (V.bool x23), (V.int .i64 x26), (V.int .i64 x29), (V.bool x32), (V.bool x35), (V.bool x38), (V.bool x41), (V.int .i64 x44), (V.int .i64 x47), x48, x50, (V.int .i64 x54), (V.bool x57), (V.int .i64 x60)]) (
 callvK D v3 [(V.agg [(V.int .i64 x17), (V.str x20), (V.bool x23), (V.int .i64 x26), (V.int .i64 x29), (V.bool x32), (V.bool x35), (V.bool x38), (V.bool x41), (V.int .i64 x44), (V.int .i64 x47), x48, x50, (V.int .i64 x54), (V.bool x57), (V.int .i64 x60)])] s10 fun u61 s62 =>
 rtTup u61 fun l63 =>
 rtNil l63 (
 condK (eqF x17 (Int.ofNat 11)) (
 some ((V.tup []), s62)) (
 slenK x50 fun n64 =>
 K2 v2 v3 (H.next σ) 0 x50 (Int.ofNat n64) (Int.ofNat 0) x17 x20 x23 x26 x29 x32 x35 x38 x41 x44 x47 x48 x50 x54 x57 x60 s62)))))) fun k7 =>
 condK c2 (
 k7 true s3) (
 iaddrSK 1 v2 v1 fun b17 o18 =>
 ldK E s3 b17 o18 fun u19 =>
 rtBool u19 fun x20 =>
 k7 x20 s3)) fun k4 =>
 condK (ltF v1 (Int.ofNat 0)) (
 k4 true s1) (
 ldK E s1 (H.next σ) 4 fun u21 =>
 slenK u21 fun n22 =>
 k4 (leF (Int.ofNat n22) v1) s1))
def C156_1 : XC := (.seq (.ops (.op (some 54) .any [8] (.faddr 0 (.tmp 8)) <|
 .op (some 55) (.int .i64) [54] (.load none (.tmp 54)) <|
 .op (some 56) .any [55] (.bin .eql .none (.tmp 55) (.con (V.int .i64 (Int.ofNat 10)))) <|
 .nil))
 (.cond (.tmp 56) (.ops (.op (some 57) (.agg [.str, (.int .i64), .any, .any, .any]) [4] (.load (some 5) (.tmp 4)) <|
 .op (some 58) .any [8] (.faddr 15 (.tmp 8)) <|
 .op (some 59) (.int .i64) [58] (.load none (.tmp 58)) <|
 .op (some 60) .any [2] (.mov (.tmp 2)) <|
 .op (some 61) .any [3] (.mov (.tmp 3)) <|
 .op (some 62) (.tup []) [57, 59, 60, 61] (.call 156 [(.tmp 57), (.tmp 59), (.tmp 60), (.tmp 61)]) <|
 .nil))
 .skip))
def T156_1 (E : List (Nat × Blk)) (D : Den) (W : DrawFn) (v2 : V) (v3 : V) (v4b : Nat) (v4o : Nat) (r8_0 : Int) (r8_1 : BS) (r8_2 : Bool) (r8_3 : Int) (r8_4 : Int) (r8_5 : Bool) (r8_6 : Bool) (r8_7 : Bool) (r8_8 : Bool) (r8_9 : Int) (r8_10 : Int) (r8_11 : V) (r8_12 : V) (r8_13 : Int) (r8_14 : Bool) (r8_15 : Int) (σ : H) : Ans :=
 condK (eqF r8_0 (Int.ofNat 10)) (
 ldnK E σ v4b v4o 5 fun l1 =>
 rtCons l1 fun x2 l3 =>
 rtStr x2 fun x4 =>
 rtCons l3 fun x5 l6 =>
 rtInt .i64 x5 fun x7 =>
 rtCons l6 fun x8 l9 =>
 rtCons l9 fun x10 l11 =>
 rtCons l11 fun x12 l13 =>
 rtNil l13 (
 callK (D 156 [(V.agg [(V.str x4), (V.int .i64 x7), x8, x10, x12]), (V.int .i64 r8_15), v2, v3] σ) fun u14 s15 =>
 rtTup u14 fun l16 =>
 rtNil l16 (
 some ((V.tup []), s15)))) (
 some ((V.tup []), σ))
def C156_2 : XC := (.seq (.ops (.op (some 44) .any [43, 42] (.bin .lss .none (.tmp 43) (.tmp 42)) <|
 .nil))
 (.seq (.cond (.tmp 44) .skip
 (.exit 0))
 (.seq (.block 1 (.seq (.ops (.op (some 45) .any [41, 43] (.iaddrS 11 (.tmp 41) (.tmp 43)) <|
 .op (some 46) (.agg [.str, (.int .i64), .bool, .bool, (.int .i64), (.int .i64), .any, .any, (.int .i64), .any, (.int .i64)]) [45] (.load (some 11) (.tmp 45)) <|
 .pal 10 [] 128 [(V.str ⟨0, 0⟩), (V.int .i64 (Int.ofNat 0)), (V.bool false), (V.bool false), (V.int .i64 (Int.ofNat 0)), (V.int .i64 (Int.ofNat 0)), V.nils, V.nils, (V.int .i64 (Int.ofNat 0)), V.nils, (V.int .i64 (Int.ofNat 0))] <|
 .op none (.agg [.str, (.int .i64), .bool, .bool, (.int .i64), (.int .i64), .any, .any, (.int .i64), .any, (.int .i64)]) [10, 46] (.store 11 (.tmp 10) (.tmp 46)) <|
 .nil))
 (.ops (.op (some 47) (.agg [.str, (.int .i64), .any, .any, .any]) [4] (.load (some 5) (.tmp 4)) <|
 .op (some 48) .any [10] (.faddr 1 (.tmp 10)) <|
 .op (some 49) (.int .i64) [48] (.load none (.tmp 48)) <|
 .op (some 50) .any [2] (.mov (.tmp 2)) <|
 .op (some 51) .any [3] (.mov (.tmp 3)) <|
 .op (some 52) (.tup []) [47, 49, 50, 51] (.call 156 [(.tmp 47), (.tmp 49), (.tmp 50), (.tmp 51)]) <|
 .nil))))
 (.ops (.op (some 53) .any [43] (.bin .add .none (.tmp 43) (.con (V.int .i64 (Int.ofNat 1)))) <|
 .op (some 43) .any [53] (.mov (.tmp 53)) <|
 .nil)))))
def T156_2 (E : List (Nat × Blk)) (D : Den) (W : DrawFn) (K1 : V → V → Nat → Nat → Int → BS → Bool → Int → Int → Bool → Bool → Bool → Bool → Int → Int → V → V → Int → Bool → Int → H → Ans) (R2 : V → V → Nat → Nat → V → Int → Int → Int → BS → Bool → Int → Int → Bool → Bool → Bool → Bool → Int → Int → V → V → Int → Bool → Int → H → Ans) (v2 : V) (v3 : V) (v4b : Nat) (v4o : Nat) (v41 : V) (v42 : Int) (v43 : Int) (r8_0 : Int) (r8_1 : BS) (r8_2 : Bool) (r8_3 : Int) (r8_4 : Int) (r8_5 : Bool) (r8_6 : Bool) (r8_7 : Bool) (r8_8 : Bool) (r8_9 : Int) (r8_10 : Int) (r8_11 : V) (r8_12 : V) (r8_13 : Int) (r8_14 : Bool) (r8_15 : Int) (σ : H) : Ans :=
 condK (ltF v43 v42) (
 iaddrSK 11 v41 v43 fun b1 o2 =>
 ldnK E σ b1 o2 11 fun l3 =>
 rtCons l3 fun x4 l5 =>
 rtStr x4 fun x6 =>
 rtCons l5 fun x7 l8 =>
 rtInt .i64 x7 fun x9 =>
 rtCons l8 fun x10 l11 =>
 rtBool x10 fun x12 =>
 rtCons l11 fun x13 l14 =>
 rtBool x13 fun x15 =>
 rtCons l14 fun x16 l17 =>
 rtInt .i64 x16 fun x18 =>
 rtCons l17 fun x19 l20 =>
 rtInt .i64 x19 fun x21 =>
 rtCons l20 fun x22 l23 =>
 rtCons l23 fun x24 l25 =>
 rtCons l25 fun x26 l27 =>
 rtInt .i64 x26 fun x28 =>
 rtCons l27 fun x29 l30 =>
 rtCons l30 fun x31 l32 =>
 rtInt .i64 x31 fun x33 =>
 rtNil l32 (
 chk (allOne [(V.str x6), (V.int .i64 x9), (V.bool x12), (V.bool x15), (V.int .i64 x18), (V.int .i64 x21), x22, x24, (V.int .i64 x28), x29, (V.int .i64 x33)]) (
 ldnK E σ v4b v4o 5 fun l34 =>
 rtCons l34 fun x35 l36 =>
 rtStr x35 fun x37 =>
 rtCons l36 fun x38 l39 =>
 rtInt .i64 x38 fun x40 =>
 rtCons l39 fun x41 l42 =>
 rtCons l42 fun x43 l44 =>
 rtCons l44 fun x45 l46 =>
 rtNil l46 (
 callK (D 156 [(V.agg [(V.str x37), (V.int .i64 x40), x41, x43, x45]), (V.int .i64 x9), v2, v3] σ) fun u47 s48 =>
 rtTup u47 fun l49 =>
 rtNil l49 (
 R2 v2 v3 v4b v4o v41 v42 (addF .i64 v43 (Int.ofNat 1)) r8_0 r8_1 r8_2 r8_3 r8_4 r8_5 r8_6 r8_7 r8_8 r8_9 r8_10 r8_11 r8_12 r8_13 r8_14 r8_15 s48))))) (
 K1 v2 v3 v4b v4o r8_0 r8_1 r8_2 r8_3 r8_4 r8_5 r8_6 r8_7 r8_8 r8_9 r8_10 r8_11 r8_12 r8_13 r8_14 r8_15 σ)
theorem P156_0 (E : List (Nat × Blk)) (D : Den) (W : DrawFn) (N : Nat) (cc1 : XC) (cc2 : XC) (v0_0 : BS) (v0_1 : Int) (v0_2 : V) (v0_3 : V) (v0_4 : V) (v1 : Int) (v2 : V) (v3 : V) (σ : H) :
  denC E D W N (C156_0 cc1 cc2) ⟨[(0, (V.agg [(V.str v0_0), (V.int .i64 v0_1), v0_2, v0_3, v0_4])), (1, (V.int .i64 v1)), (2, v2), (3, v3)], [], [], σ⟩ (Fin156 E) (fun _ _ => none) (Fin156 E) =
  T156_0 E D W (fun v2 v3 v4b v4o v41 v42 v43 r8_0 r8_1 r8_2 r8_3 r8_4 r8_5 r8_6 r8_7 r8_8 r8_9 r8_10 r8_11 r8_12 r8_13 r8_14 r8_15 σ => iterK (fun rec s' => denC E D W N cc2 s' (fun s'' => keepS [(2, .any), (3, .any), (4, .ptr), (41, .any), (42, (.int .i64)), (43, (.int .i64))] [8] [(8, [(.int .i64), .str, .bool, (.int .i64), (.int .i64), .bool, .bool, .bool, .bool, (.int .i64), (.int .i64), .any, .any, (.int .i64), .bool, (.int .i64)])] s'' rec) (blkK 0 (fun s' => denC E D W N (.keep [(2, .any), (3, .any), (4, .ptr)] [8] [(8, [(.int .i64), .str, .bool, (.int .i64), (.int .i64), .bool, .bool, .bool, .bool, (.int .i64), (.int .i64), .any, .any, (.int .i64), .bool, (.int .i64)])] cc1) s' (Fin156 E) (fun _ _ => none) (Fin156 E)) (fun _ _ => none)) (Fin156 E)) N ⟨[(2, v2), (3, v3), (4, (V.ptr v4b v4o)), (41, v41), (42, (V.int .i64 v42)), (43, (V.int .i64 v43))], [(8, (8, 0))], [(8, [(V.int .i64 r8_0), (V.str r8_1), (V.bool r8_2), (V.int .i64 r8_3), (V.int .i64 r8_4), (V.bool r8_5), (V.bool r8_6), (V.bool r8_7), (V.bool r8_8), (V.int .i64 r8_9), (V.int .i64 r8_10), r8_11, r8_12, (V.int .i64 r8_13), (V.bool r8_14), (V.int .i64 r8_15)])], σ⟩) v0_0 v0_1 v0_2 v0_3 v0_4 v1 v2 v3 σ := by kernel_rfl
theorem P156_1 (E : List (Nat × Blk)) (D : Den) (W : DrawFn) (N : Nat) (v2 : V) (v3 : V) (v4b : Nat) (v4o : Nat) (r8_0 : Int) (r8_1 : BS) (r8_2 : Bool) (r8_3 : Int) (r8_4 : Int) (r8_5 : Bool) (r8_6 : Bool) (r8_7 : Bool) (r8_8 : Bool) (r8_9 : Int) (r8_10 : Int) (r8_11 : V) (r8_12 : V) (r8_13 : Int) (r8_14 : Bool) (r8_15 : Int) (σ : H) :
  denC E D W N (C156_1 ) ⟨[(2, v2), (3, v3), (4, (V.ptr v4b v4o))], [(8, (8, 0))], [(8, [(V.int .i64 r8_0), (V.str r8_1), (V.bool r8_2), (V.int .i64 r8_3), (V.int .i64 r8_4), (V.bool r8_5), (V.bool r8_6), (V.bool r8_7), (V.bool r8_8), (V.int .i64 r8_9), (V.int .i64 r8_10), r8_11, r8_12, (V.int .i64 r8_13), (V.bool r8_14), (V.int .i64 r8_15)])], σ⟩ (Fin156 E) (fun _ _ => none) (Fin156 E) =
  T156_1 E D W  v2 v3 v4b v4o r8_0 r8_1 r8_2 r8_3 r8_4 r8_5 r8_6 r8_7 r8_8 r8_9 r8_10 r8_11 r8_12 r8_13 r8_14 r8_15 σ := by kernel_rfl
theorem P156_2 (E : List (Nat × Blk)) (D : Den) (W : DrawFn) (N : Nat) (cc1 : XC) (li2 : St → Ans) (v2 : V) (v3 : V) (v4b : Nat) (v4o : Nat) (v41 : V) (v42 : Int) (v43 : Int) (r8_0 : Int) (r8_1 : BS) (r8_2 : Bool) (r8_3 : Int) (r8_4 : Int) (r8_5 : Bool) (r8_6 : Bool) (r8_7 : Bool) (r8_8 : Bool) (r8_9 : Int) (r8_10 : Int) (r8_11 : V) (r8_12 : V) (r8_13 : Int) (r8_14 : Bool) (r8_15 : Int) (σ : H) :
  denC E D W N (C156_2 ) ⟨[(2, v2), (3, v3), (4, (V.ptr v4b v4o)), (41, v41), (42, (V.int .i64 v42)), (43, (V.int .i64 v43))], [(8, (8, 0))], [(8, [(V.int .i64 r8_0), (V.str r8_1), (V.bool r8_2), (V.int .i64 r8_3), (V.int .i64 r8_4), (V.bool r8_5), (V.bool r8_6), (V.bool r8_7), (V.bool r8_8), (V.int .i64 r8_9), (V.int .i64 r8_10), r8_11, r8_12, (V.int .i64 r8_13), (V.bool r8_14), (V.int .i64 r8_15)])], σ⟩ (fun s'' => keepS [(2, .any), (3, .any), (4, .ptr), (41, .any), (42, (.int .i64)), (43, (.int .i64))] [8] [(8, [(.int .i64), .str, .bool, (.int .i64), (.int .i64), .bool, .bool, .bool, .bool, (.int .i64), (.int .i64), .any, .any, (.int .i64), .bool, (.int .i64)])] s'' li2) (blkK 0 (fun s' => denC E D W N (.keep [(2, .any), (3, .any), (4, .ptr)] [8] [(8, [(.int .i64), .str, .bool, (.int .i64), (.int .i64), .bool, .bool, .bool, .bool, (.int .i64), (.int .i64), .any, .any, (.int .i64), .bool, (.int .i64)])] cc1) s' (Fin156 E) (fun _ _ => none) (Fin156 E)) (fun _ _ => none)) (Fin156 E) =
  T156_2 E D W (fun v2 v3 v4b v4o r8_0 r8_1 r8_2 r8_3 r8_4 r8_5 r8_6 r8_7 r8_8 r8_9 r8_10 r8_11 r8_12 r8_13 r8_14 r8_15 σ => denC E D W N cc1 ⟨[(2, v2), (3, v3), (4, (V.ptr v4b v4o))], [(8, (8, 0))], [(8, [(V.int .i64 r8_0), (V.str r8_1), (V.bool r8_2), (V.int .i64 r8_3), (V.int .i64 r8_4), (V.bool r8_5), (V.bool r8_6), (V.bool r8_7), (V.bool r8_8), (V.int .i64 r8_9), (V.int .i64 r8_10), r8_11, r8_12, (V.int .i64 r8_13), (V.bool r8_14), (V.int .i64 r8_15)])], σ⟩ (Fin156 E) (fun _ _ => none) (Fin156 E)) (fun v2 v3 v4b v4o v41 v42 v43 r8_0 r8_1 r8_2 r8_3 r8_4 r8_5 r8_6 r8_7 r8_8 r8_9 r8_10 r8_11 r8_12 r8_13 r8_14 r8_15 σ => li2 ⟨[(2, v2), (3, v3), (4, (V.ptr v4b v4o)), (41, v41), (42, (V.int .i64 v42)), (43, (V.int .i64 v43))], [(8, (8, 0))], [(8, [(V.int .i64 r8_0), (V.str r8_1), (V.bool r8_2), (V.int .i64 r8_3), (V.int .i64 r8_4), (V.bool r8_5), (V.bool r8_6), (V.bool r8_7), (V.bool r8_8), (V.int .i64 r8_9), (V.int .i64 r8_10), r8_11, r8_12, (V.int .i64 r8_13), (V.bool r8_14), (V.int .i64 r8_15)])], σ⟩) v2 v3 v4b v4o v41 v42 v43 r8_0 r8_1 r8_2 r8_3 r8_4 r8_5 r8_6 r8_7 r8_8 r8_9 r8_10 r8_11 r8_12 r8_13 r8_14 r8_15 σ := by kernel_rfl
def J156_1 (E : List (Nat × Blk)) (D : Den) (W : DrawFn) (N : Nat) : V → V → Nat → Nat → Int → BS → Bool → Int → Int → Bool → Bool → Bool → Bool → Int → Int → V → V → Int → Bool → Int → H → Ans := T156_1 E D W 
theorem JE156_1 (E : List (Nat × Blk)) (D : Den) (W : DrawFn) (N : Nat) (v2 : V) (v3 : V) (v4b : Nat) (v4o : Nat) (r8_0 : Int) (r8_1 : BS) (r8_2 : Bool) (r8_3 : Int) (r8_4 : Int) (r8_5 : Bool) (r8_6 : Bool) (r8_7 : Bool) (r8_8 : Bool) (r8_9 : Int) (r8_10 : Int) (r8_11 : V) (r8_12 : V) (r8_13 : Int) (r8_14 : Bool) (r8_15 : Int) (σ : H) :
  denC E D W N C156_1 ⟨[(2, v2), (3, v3), (4, (V.ptr v4b v4o))], [(8, (8, 0))], [(8, [(V.int .i64 r8_0), (V.str r8_1), (V.bool r8_2), (V.int .i64 r8_3), (V.int .i64 r8_4), (V.bool r8_5), (V.bool r8_6), (V.bool r8_7), (V.bool r8_8), (V.int .i64 r8_9), (V.int .i64 r8_10), r8_11, r8_12, (V.int .i64 r8_13), (V.bool r8_14), (V.int .i64 r8_15)])], σ⟩ (Fin156 E) (fun _ _ => none) (Fin156 E) = J156_1 E D W N v2 v3 v4b v4o r8_0 r8_1 r8_2 r8_3 r8_4 r8_5 r8_6 r8_7 r8_8 r8_9 r8_10 r8_11 r8_12 r8_13 r8_14 r8_15 σ := by
  refine (P156_1 E D W N   v2 v3 v4b v4o r8_0 r8_1 r8_2 r8_3 r8_4 r8_5 r8_6 r8_7 r8_8 r8_9 r8_10 r8_11 r8_12 r8_13 r8_14 r8_15 σ).trans ?_
  kernel_rfl
def L156_2 (E : List (Nat × Blk)) (D : Den) (W : DrawFn) (N : Nat) (n : Nat) : V → V → Nat → Nat → V → Int → Int → Int → BS → Bool → Int → Int → Bool → Bool → Bool → Bool → Int → Int → V → V → Int → Bool → Int → H → Ans :=
  Nat.rec (fun _ _ _ _ _ _ _ _ _ _ _ _ _ _ _ _ _ _ _ _ _ _ _ _ => none) (fun _ ih => T156_2 E D W (J156_1 E D W N ) ih) n
theorem LE156_2 (E : List (Nat × Blk)) (D : Den) (W : DrawFn) (N : Nat) (n : Nat) : ∀ (v2 : V) (v3 : V) (v4b : Nat) (v4o : Nat) (v41 : V) (v42 : Int) (v43 : Int) (r8_0 : Int) (r8_1 : BS) (r8_2 : Bool) (r8_3 : Int) (r8_4 : Int) (r8_5 : Bool) (r8_6 : Bool) (r8_7 : Bool) (r8_8 : Bool) (r8_9 : Int) (r8_10 : Int) (r8_11 : V) (r8_12 : V) (r8_13 : Int) (r8_14 : Bool) (r8_15 : Int) (σ : H),
  iterK (fun rec s' => denC E D W N C156_2 s' (fun s'' => keepS [(2, .any), (3, .any), (4, .ptr), (41, .any), (42, (.int .i64)), (43, (.int .i64))] [8] [(8, [(.int .i64), .str, .bool, (.int .i64), (.int .i64), .bool, .bool, .bool, .bool, (.int .i64), (.int .i64), .any, .any, (.int .i64), .bool, (.int .i64)])] s'' rec) (blkK 0 (fun s' => denC E D W N (.keep [(2, .any), (3, .any), (4, .ptr)] [8] [(8, [(.int .i64), .str, .bool, (.int .i64), (.int .i64), .bool, .bool, .bool, .bool, (.int .i64), (.int .i64), .any, .any, (.int .i64), .bool, (.int .i64)])] C156_1) s' (Fin156 E) (fun _ _ => none) (Fin156 E)) (fun _ _ => none)) (Fin156 E)) n ⟨[(2, v2), (3, v3), (4, (V.ptr v4b v4o)), (41, v41), (42, (V.int .i64 v42)), (43, (V.int .i64 v43))], [(8, (8, 0))], [(8, [(V.int .i64 r8_0), (V.str r8_1), (V.bool r8_2), (V.int .i64 r8_3), (V.int .i64 r8_4), (V.bool r8_5), (V.bool r8_6), (V.bool r8_7), (V.bool r8_8), (V.int .i64 r8_9), (V.int .i64 r8_10), r8_11, r8_12, (V.int .i64 r8_13), (V.bool r8_14), (V.int .i64 r8_15)])], σ⟩ = L156_2 E D W N n v2 v3 v4b v4o v41 v42 v43 r8_0 r8_1 r8_2 r8_3 r8_4 r8_5 r8_6 r8_7 r8_8 r8_9 r8_10 r8_11 r8_12 r8_13 r8_14 r8_15 σ := by
  induction n with
  | zero => intro v2 v3 v4b v4o v41 v42 v43 r8_0 r8_1 r8_2 r8_3 r8_4 r8_5 r8_6 r8_7 r8_8 r8_9 r8_10 r8_11 r8_12 r8_13 r8_14 r8_15 σ; rfl
  | succ n ihn =>
    intro v2 v3 v4b v4o v41 v42 v43 r8_0 r8_1 r8_2 r8_3 r8_4 r8_5 r8_6 r8_7 r8_8 r8_9 r8_10 r8_11 r8_12 r8_13 r8_14 r8_15 σ
    rw [iterK_succ]
    refine (P156_2 E D W N C156_1 (iterK (fun rec s' => denC E D W N C156_2 s' (fun s'' => keepS [(2, .any), (3, .any), (4, .ptr), (41, .any), (42, (.int .i64)), (43, (.int .i64))] [8] [(8, [(.int .i64), .str, .bool, (.int .i64), (.int .i64), .bool, .bool, .bool, .bool, (.int .i64), (.int .i64), .any, .any, (.int .i64), .bool, (.int .i64)])] s'' rec) (blkK 0 (fun s' => denC E D W N (.keep [(2, .any), (3, .any), (4, .ptr)] [8] [(8, [(.int .i64), .str, .bool, (.int .i64), (.int .i64), .bool, .bool, .bool, .bool, (.int .i64), (.int .i64), .any, .any, (.int .i64), .bool, (.int .i64)])] C156_1) s' (Fin156 E) (fun _ _ => none) (Fin156 E)) (fun _ _ => none)) (Fin156 E)) n) v2 v3 v4b v4o v41 v42 v43 r8_0 r8_1 r8_2 r8_3 r8_4 r8_5 r8_6 r8_7 r8_8 r8_9 r8_10 r8_11 r8_12 r8_13 r8_14 r8_15 σ).trans ?_
    simp only [ihn, JE156_1]
    kernel_rfl
def J156_0 (E : List (Nat × Blk)) (D : Den) (W : DrawFn) (N : Nat) : BS → Int → V → V → V → Int → V → V → H → Ans := T156_0 E D W (L156_2 E D W N N)
theorem JE156_0 (E : List (Nat × Blk)) (D : Den) (W : DrawFn) (N : Nat) (v0_0 : BS) (v0_1 : Int) (v0_2 : V) (v0_3 : V) (v0_4 : V) (v1 : Int) (v2 : V) (v3 : V) (σ : H) :
  denC E D W N (C156_0 C156_1 C156_2) ⟨[(0, (V.agg [(V.str v0_0), (V.int .i64 v0_1), v0_2, v0_3, v0_4])), (1, (V.int .i64 v1)), (2, v2), (3, v3)], [], [], σ⟩ (Fin156 E) (fun _ _ => none) (Fin156 E) = J156_0 E D W N v0_0 v0_1 v0_2 v0_3 v0_4 v1 v2 v3 σ := by
  refine (P156_0 E D W N C156_1 C156_2  v0_0 v0_1 v0_2 v0_3 v0_4 v1 v2 v3 σ).trans ?_
  simp only [LE156_2]
  kernel_rfl
def F156 (E : List (Nat × Blk)) (D : Den) (W : DrawFn) (N : Nat) (args : List V) (σ : H) : Ans :=
 rtCons args fun x1 l2 =>
 rtAgg x1 fun l3 =>
 rtCons l3 fun x4 l5 =>
 rtStr x4 fun x6 =>
 rtCons l5 fun x7 l8 =>
 rtInt .i64 x7 fun x9 =>
 rtCons l8 fun x10 l11 =>
 rtCons l11 fun x12 l13 =>
 rtCons l13 fun x14 l15 =>
 rtNil l15 (
 rtCons l2 fun x16 l17 =>
 rtInt .i64 x16 fun x18 =>
 rtCons l17 fun x19 l20 =>
 rtCons l20 fun x21 l22 =>
 rtNil l22 (
 J156_0 E D W N x6 x9 x10 x12 x14 x18 x19 x21 σ))
def A156 : XFn := ⟨63, [(.agg [.str, (.int .i64), .any, .any, .any]), (.int .i64), .any, .any], [], (C156_0 C156_1 C156_2)⟩
theorem FE156 (E : List (Nat × Blk)) (D : Den) (W : DrawFn) (N : Nat) (args : List V) (σ : H) : runX E D W N A156 args σ = F156 E D W N args σ := by
  unfold F156
  simp only [← JE156_0]
  kernel_rfl
theorem AO156 : A156.body.ok = true := by kernel_rfl

/-! ### F157: ogham_refs.refers_1 -/
def Fin157 (E : List (Nat × Blk)) : St → Ans := fun s => resK E s [] fun l => some (oneV l, s.σ)
def C157_0 : XC := (.seq (.ops (.op (some 2) .any [0] (.box 203 (.tmp 0)) <|
 .nil))
 (.seq (.ops (.op (some 3) .any [2] (.faddr 0 (.tmp 2)) <|
 .op (some 4) (.int .i64) [3] (.load none (.tmp 3)) <|
 .op (some 5) .any [4] (.bin .eql .none (.tmp 4) (.con (V.int .i64 (Int.ofNat 11)))) <|
 .nil))
 (.cond (.tmp 5) (.ops (.op (some 6) .any [1] (.load none (.tmp 1)) <|
 .op (some 7) .any [2] (.faddr 1 (.tmp 2)) <|
 .op (some 8) .str [7] (.load none (.tmp 7)) <|
 .op (some 9) .any [8] (.buildSlice 9 1 [(V.str ⟨0, 0⟩)] [(0, 1, (.tmp 8))]) <|
 .op (some 10) .one [6, 9] (.call 158 [(.tmp 6), (.tmp 9)]) <|
 .op none .any [1, 10] (.store 1 (.tmp 1) (.tmp 10)) <|
 .nil))
 .skip)))
def T157_0 (E : List (Nat × Blk)) (D : Den) (W : DrawFn) (v0_0 : Int) (v0_1 : BS) (v0_2 : Bool) (v0_3 : Int) (v0_4 : Int) (v0_5 : Bool) (v0_6 : Bool) (v0_7 : Bool) (v0_8 : Bool) (v0_9 : Int) (v0_10 : Int) (v0_11 : V) (v0_12 : V) (v0_13 : Int) (v0_14 : Bool) (v0_15 : Int) (v1 : V) (σ : H) : Ans :=
 chk (allOne (V.cells (V.agg [(V.int .i64 v0_0), (V.str v0_1), (V.bool v0_2), (V.int .i64 v0_3), (V.int .i64 v0_4), (V.bool v0_5), (V.bool v0_6), (V.bool v0_7), (V.bool v0_8), (V.int .i64 v0_9), (V.int .i64 v0_10), v0_11, v0_12, (V.int .i64 v0_13), (V.bool v0_14), (V.int .i64 v0_15)]))) (
 let s1 := newB σ (.cells (V.cells (V.agg [(V.int .i64 v0_0), (V.str v0_1), (V.bool v0_2), (V.int .i64 v0_3), (V.int .i64 v0_4), (V.bool v0_5), (V.bool v0_6), (V.bool v0_7), (V.bool v0_8), (V.int .i64 v0_9), (V.int .i64 v0_10), v0_11, v0_12, (V.int .i64 v0_13), (V.bool v0_14), (V.int .i64 v0_15)])));
 ldK E s1 (H.next σ) 0 fun u2 =>
 rtInt .i64 u2 fun x3 =>
 condK (eqF x3 (Int.ofNat 11)) (
 rtPtr v1 fun b4 o5 =>
 ldK E s1 b4 o5 fun u6 =>
 ldK E s1 (H.next σ) 1 fun u7 =>
 rtStr u7 fun x8 =>
 let s9 := newB s1 (.cells [(V.str x8)]);
 callK (D 158 [u6, (V.sl (H.next s1) 0 1 (.ex 1))] s9) fun u10 s11 =>
 rtOne u10 (
 rtPtr v1 fun b12 o13 =>
 stK 1 b12 o13 u10 s11 fun s14 =>
 some ((V.tup []), s14))) (
 some ((V.tup []), s1)))
theorem P157_0 (E : List (Nat × Blk)) (D : Den) (W : DrawFn) (N : Nat) (v0_0 : Int) (v0_1 : BS) (v0_2 : Bool) (v0_3 : Int) (v0_4 : Int) (v0_5 : Bool) (v0_6 : Bool) (v0_7 : Bool) (v0_8 : Bool) (v0_9 : Int) (v0_10 : Int) (v0_11 : V) (v0_12 : V) (v0_13 : Int) (v0_14 : Bool) (v0_15 : Int) (v1 : V) (σ : H) :
  denC E D W N (C157_0 ) ⟨[(0, (V.agg [(V.int .i64 v0_0), (V.str v0_1), (V.bool v0_2), (V.int .i64 v0_3), (V.int .i64 v0_4), (V.bool v0_5), (V.bool v0_6), (V.bool v0_7), (V.bool v0_8), (V.int .i64 v0_9), (V.int .i64 v0_10), v0_11, v0_12, (V.int .i64 v0_13), (V.bool v0_14), (V.int .i64 v0_15)])), (1, v1)], [], [], σ⟩ (Fin157 E) (fun _ _ => none) (Fin157 E) =
  T157_0 E D W  v0_0 v0_1 v0_2 v0_3 v0_4 v0_5 v0_6 v0_7 v0_8 v0_9 v0_10 v0_11 v0_12 v0_13 v0_14 v0_15 v1 σ := by kernel_rfl
def J157_0 (E : List (Nat × Blk)) (D : Den) (W : DrawFn) (N : Nat) : Int → BS → Bool → Int → Int → Bool → Bool → Bool → Bool → Int → Int → V → V → Int → Bool → Int → V → H → Ans := T157_0 E D W 
theorem JE157_0 (E : List (Nat × Blk)) (D : Den) (W : DrawFn) (N : Nat) (v0_0 : Int) (v0_1 : BS) (v0_2 : Bool) (v0_3 : Int) (v0_4 : Int) (v0_5 : Bool) (v0_6 : Bool) (v0_7 : Bool) (v0_8 : Bool) (v0_9 : Int) (v0_10 : Int) (v0_11 : V) (v0_12 : V) (v0_13 : Int) (v0_14 : Bool) (v0_15 : Int) (v1 : V) (σ : H) :
  denC E D W N C157_0 ⟨[(0, (V.agg [(V.int .i64 v0_0), (V.str v0_1), (V.bool v0_2), (V.int .i64 v0_3), (V.int .i64 v0_4), (V.bool v0_5), (V.bool v0_6), (V.bool v0_7), (V.bool v0_8), (V.int .i64 v0_9), (V.int .i64 v0_10), v0_11, v0_12, (V.int .i64 v0_13), (V.bool v0_14), (V.int .i64 v0_15)])), (1, v1)], [], [], σ⟩ (Fin157 E) (fun _ _ => none) (Fin157 E) = J157_0 E D W N v0_0 v0_1 v0_2 v0_3 v0_4 v0_5 v0_6 v0_7 v0_8 v0_9 v0_10 v0_11 v0_12 v0_13 v0_14 v0_15 v1 σ := by
  refine (P157_0 E D W N   v0_0 v0_1 v0_2 v0_3 v0_4 v0_5 v0_6 v0_7 v0_8 v0_9 v0_10 v0_11 v0_12 v0_13 v0_14 v0_15 v1 σ).trans ?_
  kernel_rfl
def F157 (E : List (Nat × Blk)) (D : Den) (W : DrawFn) (N : Nat) (args : List V) (σ : H) : Ans :=
 rtCons args fun x1 l2 =>
 rtAgg x1 fun l3 =>
 rtCons l3 fun x4 l5 =>
 rtInt .i64 x4 fun x6 =>
 rtCons l5 fun x7 l8 =>
 rtStr x7 fun x9 =>
 rtCons l8 fun x10 l11 =>
 rtBool x10 fun x12 =>
 rtCons l11 fun x13 l14 =>
 rtInt .i64 x13 fun x15 =>
 rtCons l14 fun x16 l17 =>
 rtInt .i64 x16 fun x18 =>
 rtCons l17 fun x19 l20 =>
 rtBool x19 fun x21 =>
 rtCons l20 fun x22 l23 =>
 rtBool x22 fun x24 =>
 rtCons l23 fun x25 l26 =>
 rtBool x25 fun x27 =>
 rtCons l26 fun x28 l29 =>
 rtBool x28 fun x30 =>
 rtCons l29 fun x31 l32 =>
 rtInt .i64 x31 fun x33 =>
 rtCons l32 fun x34 l35 =>
 rtInt .i64 x34 fun x36 =>
 rtCons l35 fun x37 l38 =>
 rtCons l38 fun x39 l40 =>
 rtCons l40 fun x41 l42 =>
 rtInt .i64 x41 fun x43 =>
 rtCons l42 fun x44 l45 =>
 rtBool x44 fun x46 =>
 rtCons l45 fun x47 l48 =>
 rtInt .i64 x47 fun x49 =>
 rtNil l48 (
 rtCons l2 fun x50 l51 =>
 rtNil l51 (
 J157_0 E D W N x6 x9 x12 x15 x18 x21 x24 x27 x30 x33 x36 x37 x39 x43 x46 x49 x50 σ))
def A157 : XFn := ⟨11, [(.agg [(.int .i64), .str, .bool, (.int .i64), (.int .i64), .bool, .bool, .bool, .bool, (.int .i64), (.int .i64), .any, .any, (.int .i64), .bool, (.int .i64)]), .any], [], C157_0⟩
theorem FE157 (E : List (Nat × Blk)) (D : Den) (W : DrawFn) (N : Nat) (args : List V) (σ : H) : runX E D W N A157 args σ = F157 E D W N args σ := by
  unfold F157
  simp only [← JE157_0]
  kernel_rfl
theorem AO157 : A157.body.ok = true := by kernel_rfl

def C159_0 : XC := (.seq (.ops (.op (some 4) .any [] (.mov (.con (V.bool false))) <|
 .nil))
 (.seq (.ops (.op (some 5) .any [0] (.mov (.tmp 0)) <|
 .op (some 6) .any [1] (.mov (.tmp 1)) <|
 .op (some 7) (.int .i64) [5, 6] (.call 188 [(.tmp 5), (.tmp 6)]) <|
 .op (some 8) .any [7] (.bin .geq .none (.tmp 7) (.con (V.int .i64 (Int.ofNat 0)))) <|
 .op (some 4) .any [8] (.mov (.tmp 8)) <|
 .nil))
 .ret))
def A159 : XFn := ⟨9, [.any, .any], [(.tmp 4)], C159_0⟩
def C163_0 (cc1 : XC) (cc2 : XC) : XC := (.seq (.ops (.op (some 1) .any [0] (.box 203 (.tmp 0)) <|
 .op (some 2) .any [] (.mov (.con V.nils)) <|
 .op (some 3) .any [] (.mov (.con (V.bool false))) <|
 .nil))
 (.seq (.ops (.op (some 4) .any [] (.mov (.con V.nils)) <|
 .nil))
 (.seq (.ops (.op (some 10) .any [1] (.faddr 13 (.tmp 1)) <|
 .op (some 11) (.int .i64) [10] (.load none (.tmp 10)) <|
 .op (some 12) .any [1] (.faddr 11 (.tmp 1)) <|
 .op (some 13) .any [12] (.load none (.tmp 12)) <|
 .op (some 14) (.int .i64) [11, 13] (.call 164 [(.tmp 11), (.tmp 13)]) <|
 .op (some 5) .any [] (.mov (.con (V.int .i64 (Int.ofNat 0)))) <|
 .op (some 6) .any [14] (.mov (.tmp 14)) <|
 .nil))
 (.seq (.seq (.ops (.op (some 15) .any [1] (.faddr 11 (.tmp 1)) <|
 .op (some 16) .any [15] (.load none (.tmp 15)) <|
 .op (some 17) .any [16] (.len false (.tmp 16)) <|
 .op (some 18) .any [] (.mov (.con (V.int .i64 (Int.ofNat 0)))) <|
 .nil))
 (.block 0 (.loop [(1, .ptr), (4, .any), (5, (.int .i64)), (6, (.int .i64)), (16, .any), (17, (.int .i64)), (18, (.int .i64))] [] [] cc2)))
 (.keep [(4, .any)] [] [] cc1)))))
def C163_1 : XC := (.seq (.ops (.op (some 59) .any [4] (.mov (.tmp 4)) <|
 .op (some 2) .any [59] (.mov (.tmp 59)) <|
 .op (some 3) .any [] (.mov (.con (V.bool true))) <|
 .nil))
 .ret)
def C163_2 (cc3 : XC) (cc4 : XC) (cc5 : XC) (cc6 : XC) : XC := (.seq (.ops (.op (some 19) .any [18, 17] (.bin .lss .none (.tmp 18) (.tmp 17)) <|
 .nil))
 (.seq (.cond (.tmp 19) .skip
 (.exit 0))
 (.seq (.block 1 (.seq (.ops (.op (some 20) .any [18] (.mov (.tmp 18)) <|
 .op (some 21) .any [16, 18] (.iaddrS 3 (.tmp 16) (.tmp 18)) <|
 .op (some 22) (.agg [.str, (.int .i64), .bool]) [21] (.load (some 3) (.tmp 21)) <|
 .pal 8 [] 121 [(V.str ⟨0, 0⟩), (V.int .i64 (Int.ofNat 0)), (V.bool false)] <|
 .op (some 7) .any [20] (.mov (.tmp 20)) <|
 .op none (.agg [.str, (.int .i64), .bool]) [8, 22] (.store 3 (.tmp 8) (.tmp 22)) <|
 .nil))
 (.seq (.ops (.op (some 9) .any [] (.mov (.con (V.bool true))) <|
 .nil))
 (.seq (.block 2 (.seq (.ops (.op (some 30) .any [8] (.faddr 2 (.tmp 8)) <|
 .op (some 31) .bool [30] (.load none (.tmp 30)) <|
 .op (some 29) .any [31] (.mov (.tmp 31)) <|
 .nil))
 (.cond (.tmp 29) .skip
 (.seq (.ops (.op (some 33) .any [7] (.mov (.tmp 7)) <|
 .op (some 34) .any [6] (.mov (.tmp 6)) <|
 .op (some 35) .any [33, 34] (.bin .lss .none (.tmp 33) (.tmp 34)) <|
 .op (some 32) .any [35] (.mov (.tmp 35)) <|
 .nil))
 (.cond (.tmp 32) (.seq (.block 3 (.loop [(1, .ptr), (4, .any), (5, (.int .i64)), (6, (.int .i64)), (9, .bool), (16, .any), (17, (.int .i64)), (18, (.int .i64))] [8] [(8, [.str, (.int .i64), .bool])] cc6))
 (.keep [(1, .ptr), (4, .any), (5, (.int .i64)), (6, (.int .i64)), (9, .bool), (16, .any), (17, (.int .i64)), (18, (.int .i64))] [8] [(8, [.str, (.int .i64), .bool])] cc5))
 (.ops (.op (some 24) .any [4] (.mov (.tmp 4)) <|
 .op (some 25) (.tup [(.int .i64), .bool]) [24] (.call 191 [(.tmp 24)]) <|
 .op (some 23) .any [25] (.mov (.tmp 25)) <|
 .op (some 26) .any [23] (.extract 0 (.tmp 23)) <|
 .op (some 27) .any [23] (.extract 1 (.tmp 23)) <|
 .op (some 28) .any [8] (.faddr 1 (.tmp 8)) <|
 .op none .any [28, 26] (.store 1 (.tmp 28) (.tmp 26)) <|
 .op (some 9) .any [27] (.mov (.tmp 27)) <|
 .nil)))))))
 (.keep [(1, .ptr), (4, .any), (5, (.int .i64)), (6, (.int .i64)), (9, .bool), (16, .any), (17, (.int .i64)), (18, (.int .i64))] [8] [(8, [.str, (.int .i64), .bool])] cc4)))))
 (.keep [(1, .ptr), (4, .any), (5, (.int .i64)), (6, (.int .i64)), (16, .any), (17, (.int .i64)), (18, (.int .i64))] [] [] cc3))))
def C163_3 : XC := (.ops (.op (some 58) .any [18] (.bin .add .none (.tmp 18) (.con (V.int .i64 (Int.ofNat 1)))) <|
 .op (some 18) .any [58] (.mov (.tmp 58)) <|
 .nil))
def C163_4 : XC := (.seq (.seq (.ops (.op (some 48) .any [9] (.mov (.tmp 9)) <|
 .op (some 49) .any [48] (.un .not (.tmp 48)) <|
 .nil))
 (.cond (.tmp 49) (.seq (.ops (.op (some 2) .any [] (.mov (.con V.nils)) <|
 .op (some 3) .any [] (.mov (.con (V.bool false))) <|
 .nil))
 .ret)
 .skip))
 (.ops (.op (some 50) .any [4] (.mov (.tmp 4)) <|
 .op (some 51) .any [8] (.faddr 0 (.tmp 8)) <|
 .op (some 52) .str [51] (.load none (.tmp 51)) <|
 .op (some 53) .any [8] (.faddr 1 (.tmp 8)) <|
 .op (some 54) (.int .i64) [53] (.load none (.tmp 53)) <|
 .op (some 55) (.agg [.str, (.int .i64), .bool]) [52, 54] (.build [(V.str ⟨0, 0⟩), (V.int .i64 (Int.ofNat 0)), (V.bool false)] [(0, 1, (.tmp 52)), (1, 1, (.tmp 54))]) <|
 .op (some 56) .any [55] (.buildSlice 121 1 [(V.str ⟨0, 0⟩), (V.int .i64 (Int.ofNat 0)), (V.bool false)] [(0, 3, (.tmp 55))]) <|
 .op (some 57) .one [50, 56] (.append 121 3 32 (.tmp 50) (.tmp 56)) <|
 .op (some 4) .any [57] (.mov (.tmp 57)) <|
 .nil)))
def C163_5 : XC := (.seq (.ops (.op (some 44) .any [5] (.mov (.tmp 5)) <|
 .op (some 45) .any [8] (.faddr 1 (.tmp 8)) <|
 .op none .any [45, 44] (.store 1 (.tmp 45) (.tmp 44)) <|
 .nil))
 (.ops (.op (some 46) .any [5] (.mov (.tmp 5)) <|
 .op (some 47) .any [46] (.bin .add .none (.tmp 46) (.con (V.int .i64 (Int.ofNat 1)))) <|
 .op (some 5) .any [47] (.mov (.tmp 47)) <|
 .nil)))
def C163_6 : XC := (.seq (.seq (.ops (.op (some 36) .any [1] (.faddr 11 (.tmp 1)) <|
 .op (some 37) .any [36] (.load none (.tmp 36)) <|
 .op (some 38) .any [6] (.mov (.tmp 6)) <|
 .op (some 39) .any [37, 38] (.sliceSl 3 (.tmp 37) none (some (.tmp 38)) none) <|
 .op (some 40) .any [5] (.mov (.tmp 5)) <|
 .op (some 41) .bool [39, 40] (.call 190 [(.tmp 39), (.tmp 40)]) <|
 .nil))
 (.cond (.tmp 41) .skip
 (.exit 3)))
 (.block 4 (.ops (.op (some 42) .any [5] (.mov (.tmp 5)) <|
 .op (some 43) .any [42] (.bin .add .none (.tmp 42) (.con (V.int .i64 (Int.ofNat 1)))) <|
 .op (some 5) .any [43] (.mov (.tmp 43)) <|
 .nil))))
def A163 : XFn := ⟨60, [(.agg [(.int .i64), .str, .bool, (.int .i64), (.int .i64), .bool, .bool, .bool, .bool, (.int .i64), (.int .i64), .any, .any, (.int .i64), .bool, (.int .i64)])], [(.tmp 2), (.tmp 3)], (C163_0 C163_1 (C163_2 C163_3 C163_4 C163_5 C163_6))⟩
/-! ### F164: ogham_table.root -/
def Fin164 (E : List (Nat × Blk)) : St → Ans := fun s => resK E s [(.tmp 4)] fun l => some (oneV l, s.σ)
def C164_0 : XC := (.seq (.ops (.op (some 4) .any [] (.mov (.con (V.int .i64 (Int.ofNat 0)))) <|
 .nil))
 (.seq (.ops (.op (some 5) .any [0] (.mov (.tmp 0)) <|
 .op (some 6) .any [1] (.mov (.tmp 1)) <|
 .op (some 7) .any [6] (.len false (.tmp 6)) <|
 .op (some 8) .any [5, 7] (.min (.tmp 5) [(.tmp 7)]) <|
 .op (some 9) .any [8] (.max (.con (V.int .i64 (Int.ofNat 0))) [(.tmp 8)]) <|
 .op (some 4) .any [9] (.mov (.tmp 9)) <|
 .nil))
 .ret))
def T164_0 (E : List (Nat × Blk)) (D : Den) (W : DrawFn) (v0 : Int) (v1 : V) (σ : H) : Ans :=
 slenK v1 fun n1 =>
 some ((V.int .i64 (maxF (Int.ofNat 0) (minF v0 (Int.ofNat n1)))), σ)
theorem P164_0 (E : List (Nat × Blk)) (D : Den) (W : DrawFn) (N : Nat) (v0 : Int) (v1 : V) (σ : H) :
  denC E D W N (C164_0 ) ⟨[(0, (V.int .i64 v0)), (1, v1)], [], [], σ⟩ (Fin164 E) (fun _ _ => none) (Fin164 E) =
  T164_0 E D W  v0 v1 σ := by kernel_rfl
def J164_0 (E : List (Nat × Blk)) (D : Den) (W : DrawFn) (N : Nat) : Int → V → H → Ans := T164_0 E D W 
theorem JE164_0 (E : List (Nat × Blk)) (D : Den) (W : DrawFn) (N : Nat) (v0 : Int) (v1 : V) (σ : H) :
  denC E D W N C164_0 ⟨[(0, (V.int .i64 v0)), (1, v1)], [], [], σ⟩ (Fin164 E) (fun _ _ => none) (Fin164 E) = J164_0 E D W N v0 v1 σ := by
  refine (P164_0 E D W N   v0 v1 σ).trans ?_
  kernel_rfl
def F164 (E : List (Nat × Blk)) (D : Den) (W : DrawFn) (N : Nat) (args : List V) (σ : H) : Ans :=
 rtCons args fun x1 l2 =>
 rtInt .i64 x1 fun x3 =>
 rtCons l2 fun x4 l5 =>
 rtNil l5 (
 J164_0 E D W N x3 x4 σ)
def A164 : XFn := ⟨10, [(.int .i64), .any], [(.tmp 4)], C164_0⟩
theorem FE164 (E : List (Nat × Blk)) (D : Den) (W : DrawFn) (N : Nat) (args : List V) (σ : H) : runX E D W N A164 args σ = F164 E D W N args σ := by
  unfold F164
  simp only [← JE164_0]
  kernel_rfl
theorem AO164 : A164.body.ok = true := by kernel_rfl

/-! ### F165: slices.ContainsFunc___ogham_api.Item_ogham_api.Item_ -/
def Fin165 (E : List (Nat × Blk)) : St → Ans := fun s => resK E s [(.tmp 4)] fun l => some (oneV l, s.σ)
def C165_0 : XC := (.seq (.ops (.op (some 4) .any [] (.mov (.con (V.bool false))) <|
 .nil))
 (.seq (.ops (.op (some 5) .any [0] (.mov (.tmp 0)) <|
 .op (some 6) .any [1] (.mov (.tmp 1)) <|
 .op (some 7) (.int .i64) [5, 6] (.call 192 [(.tmp 5), (.tmp 6)]) <|
 .op (some 8) .any [7] (.bin .geq .none (.tmp 7) (.con (V.int .i64 (Int.ofNat 0)))) <|
 .op (some 4) .any [8] (.mov (.tmp 8)) <|
 .nil))
 .ret))
def T165_0 (E : List (Nat × Blk)) (D : Den) (W : DrawFn) (v0 : V) (v1 : V) (σ : H) : Ans :=
 callK (D 192 [v0, v1] σ) fun u1 s2 =>
 rtInt .i64 u1 fun x3 =>
 some ((V.bool (leF (Int.ofNat 0) x3)), s2)
theorem P165_0 (E : List (Nat × Blk)) (D : Den) (W : DrawFn) (N : Nat) (v0 : V) (v1 : V) (σ : H) :
  denC E D W N (C165_0 ) ⟨[(0, v0), (1, v1)], [], [], σ⟩ (Fin165 E) (fun _ _ => none) (Fin165 E) =
  T165_0 E D W  v0 v1 σ := by kernel_rfl
def J165_0 (E : List (Nat × Blk)) (D : Den) (W : DrawFn) (N : Nat) : V → V → H → Ans := T165_0 E D W 
theorem JE165_0 (E : List (Nat × Blk)) (D : Den) (W : DrawFn) (N : Nat) (v0 : V) (v1 : V) (σ : H) :
  denC E D W N C165_0 ⟨[(0, v0), (1, v1)], [], [], σ⟩ (Fin165 E) (fun _ _ => none) (Fin165 E) = J165_0 E D W N v0 v1 σ := by
  refine (P165_0 E D W N   v0 v1 σ).trans ?_
  kernel_rfl
def F165 (E : List (Nat × Blk)) (D : Den) (W : DrawFn) (N : Nat) (args : List V) (σ : H) : Ans :=
 rtCons args fun x1 l2 =>
 rtCons l2 fun x3 l4 =>
 rtNil l4 (
 J165_0 E D W N x1 x3 σ)
def A165 : XFn := ⟨9, [.any, .any], [(.tmp 4)], C165_0⟩
theorem FE165 (E : List (Nat × Blk)) (D : Den) (W : DrawFn) (N : Nat) (args : List V) (σ : H) : runX E D W N A165 args σ = F165 E D W N args σ := by
  unfold F165
  simp only [← JE165_0]
  kernel_rfl
theorem AO165 : A165.body.ok = true := by kernel_rfl

/-! ### F166: ogham_table.items_1 -/
def Fin166 (E : List (Nat × Blk)) : St → Ans := fun s => resK E s [(.tmp 3)] fun l => some (oneV l, s.σ)
def C166_0 : XC := (.seq (.ops (.op (some 2) .any [0] (.box 121 (.tmp 0)) <|
 .op (some 3) .any [] (.mov (.con (V.bool false))) <|
 .nil))
 (.seq (.ops (.op (some 4) .any [2] (.faddr 0 (.tmp 2)) <|
 .op (some 5) .str [4] (.load none (.tmp 4)) <|
 .op (some 6) .any [1] (.faddr 0 (.tmp 1)) <|
 .op (some 7) .str [6] (.load none (.tmp 6)) <|
 .op (some 8) .any [5, 7] (.bin .eql .none (.tmp 5) (.tmp 7)) <|
 .op (some 9) .any [8] (.mov (.tmp 8)) <|
 .grp 9 false (.op (some 10) .any [2, 9] (.faddr 1 (.tmp 2)) <|
 .op (some 11) (.int .i64) [10, 9] (.load none (.tmp 10)) <|
 .op (some 12) .any [1, 9] (.faddr 1 (.tmp 1)) <|
 .op (some 13) (.int .i64) [12, 9] (.load none (.tmp 12)) <|
 .op (some 14) .any [11, 13, 9] (.bin .eql .none (.tmp 11) (.tmp 13)) <|
 .nil) 15 [9, 14] (.tmp 9) (.con (V.bool true)) (.tmp 14) <|
 .op (some 3) .any [15] (.mov (.tmp 15)) <|
 .nil))
 .ret))
def T166_0 (E : List (Nat × Blk)) (D : Den) (W : DrawFn) (v0_0 : BS) (v0_1 : Int) (v0_2 : Bool) (v1 : V) (σ : H) : Ans :=
 chk (allOne (V.cells (V.agg [(V.str v0_0), (V.int .i64 v0_1), (V.bool v0_2)]))) (
 let s1 := newB σ (.cells (V.cells (V.agg [(V.str v0_0), (V.int .i64 v0_1), (V.bool v0_2)])));
 ldK E s1 (H.next σ) 0 fun u2 =>
 rtStr u2 fun x3 =>
 rtPtr v1 fun b4 o5 =>
 ldK E s1 b4 o5 fun u6 =>
 rtStr u6 fun x7 =>
 joinB (fun c8 s9 =>
 some ((V.bool c8), s9)) fun k10 =>
 condK (BS.beq x3 x7) (
 k10 true s1) (
 ldK E s1 (H.next σ) 1 fun u11 =>
 rtInt .i64 u11 fun x12 =>
 rtPtr v1 fun b13 o14 =>
 ldK E s1 b13 (Nat.add o14 1) fun u15 =>
 rtInt .i64 u15 fun x16 =>
 k10 (eqF x12 x16) s1))
theorem P166_0 (E : List (Nat × Blk)) (D : Den) (W : DrawFn) (N : Nat) (v0_0 : BS) (v0_1 : Int) (v0_2 : Bool) (v1 : V) (σ : H) :
  denC E D W N (C166_0 ) ⟨[(0, (V.agg [(V.str v0_0), (V.int .i64 v0_1), (V.bool v0_2)])), (1, v1)], [], [], σ⟩ (Fin166 E) (fun _ _ => none) (Fin166 E) =
  T166_0 E D W  v0_0 v0_1 v0_2 v1 σ := by kernel_rfl
def J166_0 (E : List (Nat × Blk)) (D : Den) (W : DrawFn) (N : Nat) : BS → Int → Bool → V → H → Ans := T166_0 E D W 
theorem JE166_0 (E : List (Nat × Blk)) (D : Den) (W : DrawFn) (N : Nat) (v0_0 : BS) (v0_1 : Int) (v0_2 : Bool) (v1 : V) (σ : H) :
  denC E D W N C166_0 ⟨[(0, (V.agg [(V.str v0_0), (V.int .i64 v0_1), (V.bool v0_2)])), (1, v1)], [], [], σ⟩ (Fin166 E) (fun _ _ => none) (Fin166 E) = J166_0 E D W N v0_0 v0_1 v0_2 v1 σ := by
  refine (P166_0 E D W N   v0_0 v0_1 v0_2 v1 σ).trans ?_
  kernel_rfl
def F166 (E : List (Nat × Blk)) (D : Den) (W : DrawFn) (N : Nat) (args : List V) (σ : H) : Ans :=
 rtCons args fun x1 l2 =>
 rtAgg x1 fun l3 =>
 rtCons l3 fun x4 l5 =>
 rtStr x4 fun x6 =>
 rtCons l5 fun x7 l8 =>
 rtInt .i64 x7 fun x9 =>
 rtCons l8 fun x10 l11 =>
 rtBool x10 fun x12 =>
 rtNil l11 (
 rtCons l2 fun x13 l14 =>
 rtNil l14 (
 J166_0 E D W N x6 x9 x12 x13 σ))
def A166 : XFn := ⟨16, [(.agg [.str, (.int .i64), .bool]), .any], [(.tmp 3)], C166_0⟩
theorem FE166 (E : List (Nat × Blk)) (D : Den) (W : DrawFn) (N : Nat) (args : List V) (σ : H) : runX E D W N A166 args σ = F166 E D W N args σ := by
  unfold F166
  simp only [← JE166_0]
  kernel_rfl
theorem AO166 : A166.body.ok = true := by kernel_rfl

def C172_0 (cc1 : XC) : XC := (.seq (.seq (.ops (.op (some 2) .bool [0] (.load none (.tmp 0)) <|
 .op (some 3) .any [2] (.un .not (.tmp 2)) <|
 .nil))
 (.cond (.tmp 3) (.ops (.op (some 4) .any [1] (.load none (.tmp 1)) <|
 .op (some 5) .any [4] (.nilck (.tmp 4)) <|
 .op (some 6) .any [5] (.faddr 0 (.tmp 5)) <|
 .op (some 7) .any [] (.buildSlice 9 1 [(V.str ⟨0, 0⟩)] [(0, 1, (.con (V.str ⟨2, 8236⟩)))]) <|
 .op (some 8) (.tup []) [6, 7] (.call 71 [(.tmp 6), (.tmp 7)]) <|
 .nil))
 .skip))
 (.keep [(0, .any)] [] [] cc1))
def C172_1 : XC := (.ops (.op none .any [0] (.store 1 (.tmp 0) (.con (V.bool false))) <|
 .nil))
def A172 : XFn := ⟨9, [.any, .any], [], (C172_0 C172_1)⟩
/-! ### F175: slices.Equal___ogham_api.Item_ogham_api.Item_ -/
def Fin175 (E : List (Nat × Blk)) : St → Ans := fun s => resK E s [(.tmp 4)] fun l => some (oneV l, s.σ)
def C175_0 (cc1 : XC) (cc2 : XC) : XC := (.seq (.ops (.op (some 4) .any [] (.mov (.con (V.bool false))) <|
 .nil))
 (.seq (.seq (.ops (.op (some 6) .any [0] (.mov (.tmp 0)) <|
 .op (some 7) .any [6] (.len false (.tmp 6)) <|
 .op (some 8) .any [1] (.mov (.tmp 1)) <|
 .op (some 9) .any [8] (.len false (.tmp 8)) <|
 .op (some 10) .any [7, 9] (.bin .neq .none (.tmp 7) (.tmp 9)) <|
 .nil))
 (.cond (.tmp 10) (.seq (.ops (.op (some 4) .any [] (.mov (.con (V.bool false))) <|
 .nil))
 .ret)
 .skip))
 (.seq (.seq (.ops (.op (some 11) .any [0] (.mov (.tmp 0)) <|
 .op (some 12) .any [11] (.len false (.tmp 11)) <|
 .op (some 13) .any [] (.mov (.con (V.int .i64 (Int.ofNat 0)))) <|
 .nil))
 (.block 0 (.loop [(0, .any), (1, .any), (12, (.int .i64)), (13, (.int .i64))] [] [] cc2)))
 (.keep [] [] [] cc1))))
def T175_0 (E : List (Nat × Blk)) (D : Den) (W : DrawFn) (K2 : V → V → Int → Int → H → Ans) (v0 : V) (v1 : V) (σ : H) : Ans :=
 slenK v0 fun n1 =>
 slenK v1 fun n2 =>
 condK (not (eqF (Int.ofNat n1) (Int.ofNat n2))) (
 some ((V.bool false), σ)) (
 slenK v0 fun n3 =>
 K2 v0 v1 (Int.ofNat n3) (Int.ofNat 0) σ)
def C175_1 : XC := (.seq (.ops (.op (some 4) .any [] (.mov (.con (V.bool true))) <|
 .nil))
 .ret)
def T175_1 (E : List (Nat × Blk)) (D : Den) (W : DrawFn) (σ : H) : Ans :=
 some ((V.bool true), σ)
def C175_2 : XC := (.seq (.ops (.op (some 14) .any [13, 12] (.bin .lss .none (.tmp 13) (.tmp 12)) <|
 .nil))
 (.seq (.cond (.tmp 14) .skip
 (.exit 0))
 (.seq (.block 1 (.seq (.ops (.op (some 15) .any [13] (.mov (.tmp 13)) <|
 .op (some 5) .any [15] (.mov (.tmp 15)) <|
 .nil))
 (.seq (.draw (.op (some 16) .any [0] (.mov (.tmp 0)) <|
 .op (some 17) .any [5] (.mov (.tmp 5)) <|
 .op (some 18) .any [16, 17] (.iaddrS 3 (.tmp 16) (.tmp 17)) <|
 .op (some 19) (.agg [.str, (.int .i64), .bool]) [18] (.load (some 3) (.tmp 18)) <|
 .op (some 20) .any [1] (.mov (.tmp 1)) <|
 .op (some 21) .any [5] (.mov (.tmp 5)) <|
 .op (some 22) .any [20, 21] (.iaddrS 3 (.tmp 20) (.tmp 21)) <|
 .op (some 23) (.agg [.str, (.int .i64), .bool]) [22] (.load (some 3) (.tmp 22)) <|
 .op (some 24) .any [19, 23] (.bin .neq (.flat [(0, .str), (1, .int), (2, .bool)]) (.tmp 19) (.tmp 23)) <|
 .nil) [0, 0, 3, 7, 0, 0, 48, 112, 255])
 (.cond (.tmp 24) (.seq (.ops (.op (some 4) .any [] (.mov (.con (V.bool false))) <|
 .nil))
 .ret)
 .skip))))
 (.ops (.op (some 25) .any [13] (.bin .add .none (.tmp 13) (.con (V.int .i64 (Int.ofNat 1)))) <|
 .op (some 13) .any [25] (.mov (.tmp 25)) <|
 .nil)))))
def T175_2 (E : List (Nat × Blk)) (D : Den) (W : DrawFn) (K1 : H → Ans) (R2 : V → V → Int → Int → H → Ans) (v0 : V) (v1 : V) (v12 : Int) (v13 : Int) (σ : H) : Ans :=
 condK (ltF v13 v12) (
 iaddrSK 3 v0 v13 fun b1 o2 =>
 ldnK E σ b1 o2 3 fun l3 =>
 rtCons l3 fun x4 l5 =>
 rtStr x4 fun x6 =>
 rtCons l5 fun x7 l8 =>
 rtInt .i64 x7 fun x9 =>
 rtCons l8 fun x10 l11 =>
 rtBool x10 fun x12 =>
 rtNil l11 (
 iaddrSK 3 v1 v13 fun b13 o14 =>
 ldnK E σ b13 o14 3 fun l15 =>
 rtCons l15 fun x16 l17 =>
 rtStr x16 fun x18 =>
 rtCons l17 fun x19 l20 =>
 rtInt .i64 x19 fun x21 =>
 rtCons l20 fun x22 l23 =>
 rtBool x22 fun x24 =>
 rtNil l23 (
 eqK (.flat [(0, .str), (1, .int), (2, .bool)]) (V.agg [(V.str x6), (V.int .i64 x9), (V.bool x12)]) (V.agg [(V.str x18), (V.int .i64 x21), (V.bool x24)]) fun c25 =>
 condK (not c25) (
 some ((V.bool false), σ)) (
 R2 v0 v1 v12 (addF .i64 v13 (Int.ofNat 1)) σ)))) (
 K1 σ)
theorem P175_0 (E : List (Nat × Blk)) (D : Den) (W : DrawFn) (N : Nat) (cc1 : XC) (cc2 : XC) (v0 : V) (v1 : V) (σ : H) :
  denC E D W N (C175_0 cc1 cc2) ⟨[(0, v0), (1, v1)], [], [], σ⟩ (Fin175 E) (fun _ _ => none) (Fin175 E) =
  T175_0 E D W (fun v0 v1 v12 v13 σ => iterK (fun rec s' => denC E D W N cc2 s' (fun s'' => keepS [(0, .any), (1, .any), (12, (.int .i64)), (13, (.int .i64))] [] [] s'' rec) (blkK 0 (fun s' => denC E D W N (.keep [] [] [] cc1) s' (Fin175 E) (fun _ _ => none) (Fin175 E)) (fun _ _ => none)) (Fin175 E)) N ⟨[(0, v0), (1, v1), (12, (V.int .i64 v12)), (13, (V.int .i64 v13))], [], [], σ⟩) v0 v1 σ := by kernel_rfl
theorem P175_1 (E : List (Nat × Blk)) (D : Den) (W : DrawFn) (N : Nat) (σ : H) :
  denC E D W N (C175_1 ) ⟨[], [], [], σ⟩ (Fin175 E) (fun _ _ => none) (Fin175 E) =
  T175_1 E D W   σ := by kernel_rfl
theorem P175_2 (E : List (Nat × Blk)) (D : Den) (W : DrawFn) (N : Nat) (cc1 : XC) (li2 : St → Ans) (v0 : V) (v1 : V) (v12 : Int) (v13 : Int) (σ : H) :
  denC E D W N (C175_2 ) ⟨[(0, v0), (1, v1), (12, (V.int .i64 v12)), (13, (V.int .i64 v13))], [], [], σ⟩ (fun s'' => keepS [(0, .any), (1, .any), (12, (.int .i64)), (13, (.int .i64))] [] [] s'' li2) (blkK 0 (fun s' => denC E D W N (.keep [] [] [] cc1) s' (Fin175 E) (fun _ _ => none) (Fin175 E)) (fun _ _ => none)) (Fin175 E) =
  T175_2 E D W (fun  σ => denC E D W N cc1 ⟨[], [], [], σ⟩ (Fin175 E) (fun _ _ => none) (Fin175 E)) (fun v0 v1 v12 v13 σ => li2 ⟨[(0, v0), (1, v1), (12, (V.int .i64 v12)), (13, (V.int .i64 v13))], [], [], σ⟩) v0 v1 v12 v13 σ := by kernel_rfl
def J175_1 (E : List (Nat × Blk)) (D : Den) (W : DrawFn) (N : Nat) : H → Ans := T175_1 E D W 
theorem JE175_1 (E : List (Nat × Blk)) (D : Den) (W : DrawFn) (N : Nat) (σ : H) :
  denC E D W N C175_1 ⟨[], [], [], σ⟩ (Fin175 E) (fun _ _ => none) (Fin175 E) = J175_1 E D W N  σ := by
  refine (P175_1 E D W N    σ).trans ?_
  kernel_rfl
def L175_2 (E : List (Nat × Blk)) (D : Den) (W : DrawFn) (N : Nat) (n : Nat) : V → V → Int → Int → H → Ans :=
  Nat.rec (fun _ _ _ _ _ => none) (fun _ ih => T175_2 E D W (J175_1 E D W N ) ih) n
theorem LE175_2 (E : List (Nat × Blk)) (D : Den) (W : DrawFn) (N : Nat) (n : Nat) : ∀ (v0 : V) (v1 : V) (v12 : Int) (v13 : Int) (σ : H),
  iterK (fun rec s' => denC E D W N C175_2 s' (fun s'' => keepS [(0, .any), (1, .any), (12, (.int .i64)), (13, (.int .i64))] [] [] s'' rec) (blkK 0 (fun s' => denC E D W N (.keep [] [] [] C175_1) s' (Fin175 E) (fun _ _ => none) (Fin175 E)) (fun _ _ => none)) (Fin175 E)) n ⟨[(0, v0), (1, v1), (12, (V.int .i64 v12)), (13, (V.int .i64 v13))], [], [], σ⟩ = L175_2 E D W N n v0 v1 v12 v13 σ := by
  induction n with
  | zero => intro v0 v1 v12 v13 σ; rfl
  | succ n ihn =>
    intro v0 v1 v12 v13 σ
    rw [iterK_succ]
    refine (P175_2 E D W N C175_1 (iterK (fun rec s' => denC E D W N C175_2 s' (fun s'' => keepS [(0, .any), (1, .any), (12, (.int .i64)), (13, (.int .i64))] [] [] s'' rec) (blkK 0 (fun s' => denC E D W N (.keep [] [] [] C175_1) s' (Fin175 E) (fun _ _ => none) (Fin175 E)) (fun _ _ => none)) (Fin175 E)) n) v0 v1 v12 v13 σ).trans ?_
    simp only [ihn, JE175_1]
    kernel_rfl
def J175_0 (E : List (Nat × Blk)) (D : Den) (W : DrawFn) (N : Nat) : V → V → H → Ans := T175_0 E D W (L175_2 E D W N N)
theorem JE175_0 (E : List (Nat × Blk)) (D : Den) (W : DrawFn) (N : Nat) (v0 : V) (v1 : V) (σ : H) :
  denC E D W N (C175_0 C175_1 C175_2) ⟨[(0, v0), (1, v1)], [], [], σ⟩ (Fin175 E) (fun _ _ => none) (Fin175 E) = J175_0 E D W N v0 v1 σ := by
  refine (P175_0 E D W N C175_1 C175_2  v0 v1 σ).trans ?_
  simp only [LE175_2]
  kernel_rfl
def F175 (E : List (Nat × Blk)) (D : Den) (W : DrawFn) (N : Nat) (args : List V) (σ : H) : Ans :=
 rtCons args fun x1 l2 =>
 rtCons l2 fun x3 l4 =>
 rtNil l4 (
 J175_0 E D W N x1 x3 σ)
def A175 : XFn := ⟨26, [.any, .any], [(.tmp 4)], (C175_0 C175_1 C175_2)⟩
theorem FE175 (E : List (Nat × Blk)) (D : Den) (W : DrawFn) (N : Nat) (args : List V) (σ : H) : runX E D W N A175 args σ = F175 E D W N args σ := by
  unfold F175
  simp only [← JE175_0]
  kernel_rfl
theorem AO175 : A175.body.ok = true := by kernel_rfl

/-! ### F177: internal_stringslite.HasPrefix -/
def Fin177 (E : List (Nat × Blk)) : St → Ans := fun s => resK E s [(.tmp 4)] fun l => some (oneV l, s.σ)
def C177_0 : XC := (.seq (.ops (.op (some 4) .any [] (.mov (.con (V.bool false))) <|
 .nil))
 (.seq (.ops (.op (some 5) .any [0] (.mov (.tmp 0)) <|
 .op (some 6) .any [5] (.len true (.tmp 5)) <|
 .op (some 7) .any [1] (.mov (.tmp 1)) <|
 .op (some 8) .any [7] (.len true (.tmp 7)) <|
 .op (some 9) .any [6, 8] (.bin .geq .none (.tmp 6) (.tmp 8)) <|
 .op (some 10) .any [9] (.mov (.tmp 9)) <|
 .grp 10 true (.op (some 11) .any [0, 10] (.mov (.tmp 0)) <|
 .op (some 12) .any [1, 10] (.mov (.tmp 1)) <|
 .op (some 13) .any [12, 10] (.len true (.tmp 12)) <|
 .op (some 14) .any [11, 13, 10] (.sliceStr (.tmp 11) none (some (.tmp 13))) <|
 .op (some 15) .any [1, 10] (.mov (.tmp 1)) <|
 .op (some 16) .any [14, 15, 10] (.bin .eql .none (.tmp 14) (.tmp 15)) <|
 .nil) 17 [10, 16] (.tmp 10) (.tmp 16) (.con (V.bool false)) <|
 .op (some 4) .any [17] (.mov (.tmp 17)) <|
 .nil))
 .ret))
def T177_0 (E : List (Nat × Blk)) (D : Den) (W : DrawFn) (v0 : BS) (v1 : BS) (σ : H) : Ans :=
 joinB (fun c1 s2 =>
 some ((V.bool c1), s2)) fun k3 =>
 condK (leF (Int.ofNat (BS.len v1)) (Int.ofNat (BS.len v0))) (
 sliceStrX v0 none (some (V.int .i64 (Int.ofNat (BS.len v1)))) fun t4 =>
 k3 (BS.beq t4 v1) σ) (
 k3 false σ)
theorem P177_0 (E : List (Nat × Blk)) (D : Den) (W : DrawFn) (N : Nat) (v0 : BS) (v1 : BS) (σ : H) :
  denC E D W N (C177_0 ) ⟨[(0, (V.str v0)), (1, (V.str v1))], [], [], σ⟩ (Fin177 E) (fun _ _ => none) (Fin177 E) =
  T177_0 E D W  v0 v1 σ := by kernel_rfl
def J177_0 (E : List (Nat × Blk)) (D : Den) (W : DrawFn) (N : Nat) : BS → BS → H → Ans := T177_0 E D W 
theorem JE177_0 (E : List (Nat × Blk)) (D : Den) (W : DrawFn) (N : Nat) (v0 : BS) (v1 : BS) (σ : H) :
  denC E D W N C177_0 ⟨[(0, (V.str v0)), (1, (V.str v1))], [], [], σ⟩ (Fin177 E) (fun _ _ => none) (Fin177 E) = J177_0 E D W N v0 v1 σ := by
  refine (P177_0 E D W N   v0 v1 σ).trans ?_
  kernel_rfl
def F177 (E : List (Nat × Blk)) (D : Den) (W : DrawFn) (N : Nat) (args : List V) (σ : H) : Ans :=
 rtCons args fun x1 l2 =>
 rtStr x1 fun x3 =>
 rtCons l2 fun x4 l5 =>
 rtStr x4 fun x6 =>
 rtNil l5 (
 J177_0 E D W N x3 x6 σ)
def A177 : XFn := ⟨18, [.str, .str], [(.tmp 4)], C177_0⟩
theorem FE177 (E : List (Nat × Blk)) (D : Den) (W : DrawFn) (N : Nat) (args : List V) (σ : H) : runX E D W N A177 args σ = F177 E D W N args σ := by
  unfold F177
  simp only [← JE177_0]
  kernel_rfl
theorem AO177 : A177.body.ok = true := by kernel_rfl

def C181_0 (cc1 : XC) : XC := (.seq (.ops (.pal 2 [] 201 [(V.bool false), (V.int .i64 (Int.ofNat 0)), (V.int .i64 (Int.ofNat 0))] <|
 .op (some 3) .any [] (.mov (.con (V.bool false))) <|
 .nil))
 (.seq (.seq (.ops (.op (some 8) .any [0] (.mov (.tmp 0)) <|
 .op (some 9) .any [8] (.nilck (.tmp 8)) <|
 .op (some 10) .any [9] (.faddr 0 (.tmp 9)) <|
 .op (some 11) .bool [10] (.call 126 [(.tmp 10), (.con (V.str ⟨1, 91⟩))]) <|
 .op (some 12) .any [11] (.un .not (.tmp 11)) <|
 .nil))
 (.cond (.tmp 12) (.seq (.ops (.op (some 13) (.agg [.bool, (.int .i64), (.int .i64)]) [] (.build [(V.bool false), (V.int .i64 (Int.ofNat 0)), (V.int .i64 (Int.ofNat 0))] []) <|
 .op none (.agg [.bool, (.int .i64), (.int .i64)]) [2, 13] (.store 3 (.tmp 2) (.tmp 13)) <|
 .op (some 3) .any [] (.mov (.con (V.bool true))) <|
 .nil))
 .ret)
 .skip))
 (.seq (.ops (.op (some 15) .any [0] (.mov (.tmp 0)) <|
 .op (some 16) (.tup [(.int .i64), (.agg [(.int .i64), .str, (.int .i64)]), .bool]) [15] (.call 209 [(.tmp 15)]) <|
 .op (some 14) .any [16] (.mov (.tmp 16)) <|
 .op (some 17) .any [14] (.extract 0 (.tmp 14)) <|
 .op (some 18) .any [14] (.extract 1 (.tmp 14)) <|
 .op (some 19) .any [14] (.extract 2 (.tmp 14)) <|
 .pal 5 [] 187 [(V.int .i64 (Int.ofNat 0)), (V.str ⟨0, 0⟩), (V.int .i64 (Int.ofNat 0))] <|
 .op (some 4) .any [17] (.mov (.tmp 17)) <|
 .op none (.agg [(.int .i64), .str, (.int .i64)]) [5, 18] (.store 3 (.tmp 5) (.tmp 18)) <|
 .op (some 6) .any [19] (.mov (.tmp 19)) <|
 .nil))
 (.seq (.block 0 (.seq (.ops (.op (some 21) .any [6] (.mov (.tmp 6)) <|
 .op (some 22) .any [21] (.un .not (.tmp 21)) <|
 .op (some 20) .any [22] (.mov (.tmp 22)) <|
 .nil))
 (.cond (.tmp 20) (.seq (.ops (.op (some 23) (.agg [.bool, (.int .i64), (.int .i64)]) [] (.build [(V.bool false), (V.int .i64 (Int.ofNat 0)), (V.int .i64 (Int.ofNat 0))] []) <|
 .op none (.agg [.bool, (.int .i64), (.int .i64)]) [2, 23] (.store 3 (.tmp 2) (.tmp 23)) <|
 .op (some 3) .any [] (.mov (.con (V.bool false))) <|
 .nil))
 .ret)
 (.seq (.ops (.op (some 25) .any [4] (.mov (.tmp 4)) <|
 .op (some 26) .any [25] (.bin .lss .none (.tmp 25) (.con (V.int .i64 (Int.ofNat 0)))) <|
 .op (some 27) .any [26] (.mov (.tmp 26)) <|
 .grp 27 false (.op (some 28) .any [4, 27] (.mov (.tmp 4)) <|
 .op (some 29) .any [28, 27] (.bin .gtr .none (.tmp 28) (.con (V.int .i64 (Int.ofNat 268435456)))) <|
 .nil) 30 [27, 29] (.tmp 27) (.con (V.bool true)) (.tmp 29) <|
 .op (some 24) .any [30] (.mov (.tmp 30)) <|
 .nil))
 (.cond (.tmp 24) (.seq (.ops (.op (some 31) (.agg [.bool, (.int .i64), (.int .i64)]) [] (.build [(V.bool false), (V.int .i64 (Int.ofNat 0)), (V.int .i64 (Int.ofNat 0))] []) <|
 .op (some 32) .any [0] (.mov (.tmp 0)) <|
 .op (some 33) .any [5] (.faddr 2 (.tmp 5)) <|
 .op (some 34) (.int .i64) [33] (.load none (.tmp 33)) <|
 .op (some 35) .bool [32, 34] (.call 124 [(.tmp 32), (.tmp 34), (.con (V.int .i64 (Int.ofNat 12)))]) <|
 .op none (.agg [.bool, (.int .i64), (.int .i64)]) [2, 31] (.store 3 (.tmp 2) (.tmp 31)) <|
 .op (some 3) .any [35] (.mov (.tmp 35)) <|
 .nil))
 .ret)
 (.seq (.ops (.op (some 37) .any [0] (.mov (.tmp 0)) <|
 .op (some 38) .any [] (.buildSlice 9 1 [(V.str ⟨0, 0⟩)] [(0, 1, (.con (V.str ⟨1, 93⟩)))]) <|
 .op (some 39) .bool [37, 38] (.call 90 [(.tmp 37), (.tmp 38)]) <|
 .op (some 40) .any [39] (.un .not (.tmp 39)) <|
 .op (some 36) .any [40] (.mov (.tmp 40)) <|
 .nil))
 (.cond (.tmp 36) (.seq (.ops (.op (some 41) (.agg [.bool, (.int .i64), (.int .i64)]) [] (.build [(V.bool false), (V.int .i64 (Int.ofNat 0)), (V.int .i64 (Int.ofNat 0))] []) <|
 .op none (.agg [.bool, (.int .i64), (.int .i64)]) [2, 41] (.store 3 (.tmp 2) (.tmp 41)) <|
 .op (some 3) .any [] (.mov (.con (V.bool false))) <|
 .nil))
 .ret)
 .skip)))))))
 (.seq (.ops (.op (some 42) .any [4] (.mov (.tmp 4)) <|
 .op (some 43) (.agg [.bool, (.int .i64), (.int .i64)]) [42] (.build [(V.bool false), (V.int .i64 (Int.ofNat 0)), (V.int .i64 (Int.ofNat 0))] [(0, 1, (.con (V.bool true))), (1, 1, (.tmp 42))]) <|
 .pal 7 [] 201 [(V.bool false), (V.int .i64 (Int.ofNat 0)), (V.int .i64 (Int.ofNat 0))] <|
 .op none (.agg [.bool, (.int .i64), (.int .i64)]) [7, 43] (.store 3 (.tmp 7) (.tmp 43)) <|
 .nil))
 (.seq (.block 1 (.seq (.ops (.op (some 45) .any [0] (.mov (.tmp 0)) <|
 .op (some 46) .any [45] (.nilck (.tmp 45)) <|
 .op (some 47) .any [46] (.faddr 0 (.tmp 46)) <|
 .op (some 48) .bool [47] (.call 126 [(.tmp 47), (.con (V.str ⟨8, 6073459554577832005⟩))]) <|
 .op (some 44) .any [48] (.mov (.tmp 48)) <|
 .nil))
 (.cond (.tmp 44) (.ops (.op (some 49) .any [7] (.faddr 2 (.tmp 7)) <|
 .op none .any [49] (.store 1 (.tmp 49) (.con (V.int .i64 (Int.ofNat 1)))) <|
 .nil))
 (.seq (.ops (.op (some 51) .any [0] (.mov (.tmp 0)) <|
 .op (some 52) .any [51] (.nilck (.tmp 51)) <|
 .op (some 53) .any [52] (.faddr 0 (.tmp 52)) <|
 .op (some 54) .bool [53] (.call 126 [(.tmp 53), (.con (V.str ⟨8, 6073459554577829193⟩))]) <|
 .op (some 50) .any [54] (.mov (.tmp 54)) <|
 .nil))
 (.cond (.tmp 50) (.ops (.op (some 55) .any [7] (.faddr 2 (.tmp 7)) <|
 .op none .any [55] (.store 1 (.tmp 55) (.con (V.int .i64 (Int.ofNat 2)))) <|
 .nil))
 .skip)))))
 (.keep [] [2, 7] [(2, [.bool, (.int .i64), (.int .i64)]), (7, [.bool, (.int .i64), (.int .i64)])] cc1)))))))
def C181_1 : XC := (.seq (.ops (.op (some 56) (.agg [.bool, (.int .i64), (.int .i64)]) [7] (.load (some 3) (.tmp 7)) <|
 .op none (.agg [.bool, (.int .i64), (.int .i64)]) [2, 56] (.store 3 (.tmp 2) (.tmp 56)) <|
 .op (some 3) .any [] (.mov (.con (V.bool true))) <|
 .nil))
 .ret)
def A181 : XFn := ⟨57, [.ptr], [(.cell 2 (some 3)), (.tmp 3)], (C181_0 C181_1)⟩
/-! ### F184: __ogham_syntax.parser_.items -/
def G184_0 : List AOper := [⟨(some 48), .mov (.tmp 1), none⟩, ⟨(some 49), .mov (.tmp 1), none⟩, ⟨(some 50), .nilck (.tmp 49), none⟩, ⟨(some 51), .faddr 11 (.tmp 50), none⟩, ⟨(some 52), .load none (.tmp 51), none⟩, ⟨(some 53), .load (some 3) (.tmp 5), none⟩, ⟨(some 54), .buildSlice 121 1 [(V.str ⟨0, 0⟩), (V.int .i64 (Int.ofNat 0)), (V.bool false)] [(0, 3, (.tmp 53))], none⟩, ⟨(some 55), .append 121 3 32 (.tmp 52) (.tmp 54), none⟩, ⟨(some 56), .nilck (.tmp 48), none⟩, ⟨(some 57), .faddr 11 (.tmp 56), none⟩, ⟨none, .store 1 (.tmp 57) (.tmp 55), none⟩]
def H184_0 : List DP := [⟨0, [1]⟩, ⟨0, [1]⟩, ⟨2, [49]⟩, ⟨6, [50]⟩, ⟨14, [51]⟩, ⟨0, [5]⟩, ⟨32, [53]⟩, ⟨126, [52, 54]⟩, ⟨255, [48]⟩, ⟨511, [56]⟩, ⟨1023, [57, 55]⟩]
def Fin184 (E : List (Nat × Blk)) : St → Ans := fun s => resK E s [(.tmp 4)] fun l => some (oneV l, s.σ)
def C184_0 (cc1 : XC) (cc2 : XC) : XC := (.seq (.ops (.op (some 4) .any [] (.mov (.con (V.bool false))) <|
 .nil))
 (.seq (.seq (.ops (.op (some 7) .any [0] (.mov (.tmp 0)) <|
 .op (some 8) .any [] (.buildSlice 9 1 [(V.str ⟨0, 0⟩)] [(0, 1, (.con (V.str ⟨1, 123⟩)))]) <|
 .op (some 9) .bool [7, 8] (.call 90 [(.tmp 7), (.tmp 8)]) <|
 .op (some 10) .any [9] (.un .not (.tmp 9)) <|
 .nil))
 (.cond (.tmp 10) (.seq (.ops (.op (some 4) .any [] (.mov (.con (V.bool false))) <|
 .nil))
 .ret)
 .skip))
 (.seq (.block 0 (.loop [(0, .ptr), (1, .ptr)] [] [] cc2))
 (.keep [(0, .ptr), (1, .ptr)] [] [] cc1))))
def T184_0 (E : List (Nat × Blk)) (D : Den) (W : DrawFn) (K2 : Nat → Nat → Nat → Nat → H → Ans) (v0b : Nat) (v0o : Nat) (v1b : Nat) (v1o : Nat) (σ : H) : Ans :=
 let s1 := newB σ (.cells [(V.str (BS.mk 1 123))]);
 callK (D 90 [(V.ptr v0b v0o), (V.sl (H.next σ) 0 1 (.ex 1))] s1) fun u2 s3 =>
 rtBool u2 fun x4 =>
 condK (not x4) (
 some ((V.bool false), s3)) (
 K2 v0b v0o v1b v1o s3)
def C184_1 (cc4 : XC) : XC := (.seq (.seq (.ops (.op (some 63) .any [1] (.mov (.tmp 1)) <|
 .op (some 64) .any [63] (.nilck (.tmp 63)) <|
 .op (some 65) .any [64] (.faddr 14 (.tmp 64)) <|
 .op (some 66) .bool [65] (.load none (.tmp 65)) <|
 .op (some 67) .any [66] (.un .not (.tmp 66)) <|
 .nil))
 (.cond (.tmp 67) (.ops (.op (some 68) .any [1] (.mov (.tmp 1)) <|
 .op (some 69) .any [1] (.mov (.tmp 1)) <|
 .op (some 70) .any [69] (.nilck (.tmp 69)) <|
 .op (some 71) .any [70] (.faddr 11 (.tmp 70)) <|
 .op (some 72) .any [71] (.load none (.tmp 71)) <|
 .op (some 73) .any [72] (.len false (.tmp 72)) <|
 .op (some 74) .any [68] (.nilck (.tmp 68)) <|
 .op (some 75) .any [74] (.faddr 13 (.tmp 74)) <|
 .op none .any [75, 73] (.store 1 (.tmp 75) (.tmp 73)) <|
 .nil))
 .skip))
 (.keep [(0, .ptr)] [] [] cc4))
def T184_1 (E : List (Nat × Blk)) (D : Den) (W : DrawFn) (K4 : Nat → Nat → H → Ans) (v0b : Nat) (v0o : Nat) (v1b : Nat) (v1o : Nat) (σ : H) : Ans :=
 ldK E σ v1b (Nat.add v1o 14) fun u1 =>
 rtBool u1 fun x2 =>
 condK (not x2) (
 ldK E σ v1b (Nat.add v1o 11) fun u3 =>
 slenK u3 fun n4 =>
 stK 1 v1b (Nat.add v1o 13) (V.int .i64 (Int.ofNat n4)) σ fun s5 =>
 K4 v0b v0o s5) (
 K4 v0b v0o σ)
def C184_2 (cc3 : XC) : XC := (.block 1 (.seq (.seq (.ops (.op (some 11) .any [1] (.mov (.tmp 1)) <|
 .op (some 12) .any [11] (.nilck (.tmp 11)) <|
 .op (some 13) .any [12] (.faddr 11 (.tmp 12)) <|
 .op (some 14) .any [13] (.load none (.tmp 13)) <|
 .op (some 15) .any [14] (.len false (.tmp 14)) <|
 .op (some 16) .any [15] (.bin .gtr .none (.tmp 15) (.con (V.int .i64 (Int.ofNat 0)))) <|
 .op (some 17) .any [16] (.mov (.tmp 16)) <|
 .grp 17 true (.op (some 18) .any [1, 17] (.mov (.tmp 1)) <|
 .op (some 19) .any [18, 17] (.nilck (.tmp 18)) <|
 .op (some 20) .any [19, 17] (.faddr 14 (.tmp 19)) <|
 .op (some 21) .bool [20, 17] (.load none (.tmp 20)) <|
 .op (some 22) .any [21, 17] (.un .not (.tmp 21)) <|
 .nil) 23 [17, 22] (.tmp 17) (.tmp 22) (.con (V.bool false)) <|
 .op (some 24) .any [23] (.mov (.tmp 23)) <|
 .grp 24 true (.op (some 25) .any [0, 24] (.mov (.tmp 0)) <|
 .op (some 26) .any [25, 24] (.nilck (.tmp 25)) <|
 .op (some 27) .any [26, 24] (.faddr 0 (.tmp 26)) <|
 .op (some 28) .bool [27, 24] (.call 126 [(.tmp 27), (.con (V.str ⟨3, 3026478⟩))]) <|
 .nil) 29 [24, 28] (.tmp 24) (.tmp 28) (.con (V.bool false)) <|
 .nil))
 (.cond (.tmp 29) (.ops (.op (some 30) .any [1] (.mov (.tmp 1)) <|
 .op (some 31) .any [1] (.mov (.tmp 1)) <|
 .op (some 32) .any [1] (.mov (.tmp 1)) <|
 .op (some 33) .any [32] (.nilck (.tmp 32)) <|
 .op (some 34) .any [33] (.faddr 11 (.tmp 33)) <|
 .op (some 35) .any [34] (.load none (.tmp 34)) <|
 .op (some 36) .any [35] (.len false (.tmp 35)) <|
 .op (some 37) .any [30] (.nilck (.tmp 30)) <|
 .op (some 38) .any [37] (.faddr 14 (.tmp 37)) <|
 .op none .any [38] (.store 1 (.tmp 38) (.con (V.bool true))) <|
 .op (some 39) .any [31] (.nilck (.tmp 31)) <|
 .op (some 40) .any [39] (.faddr 13 (.tmp 39)) <|
 .op none .any [40, 36] (.store 1 (.tmp 40) (.tmp 36)) <|
 .nil))
 (.seq (.ops (.op (some 42) .any [0] (.mov (.tmp 0)) <|
 .op (some 43) (.tup [(.agg [.str, (.int .i64), .bool]), .bool]) [42] (.call 210 [(.tmp 42)]) <|
 .op (some 41) .any [43] (.mov (.tmp 43)) <|
 .op (some 44) .any [41] (.extract 0 (.tmp 41)) <|
 .op (some 45) .any [41] (.extract 1 (.tmp 41)) <|
 .op (some 5) .any [] (.alloc 121 [(V.str ⟨0, 0⟩), (V.int .i64 (Int.ofNat 0)), (V.bool false)]) <|
 .op none (.agg [.str, (.int .i64), .bool]) [5, 44] (.store 3 (.tmp 5) (.tmp 44)) <|
 .op (some 6) .any [45] (.mov (.tmp 45)) <|
 .nil))
 (.seq (.seq (.ops (.op (some 46) .any [6] (.mov (.tmp 6)) <|
 .op (some 47) .any [46] (.un .not (.tmp 46)) <|
 .nil))
 (.cond (.tmp 47) (.seq (.ops (.op (some 4) .any [] (.mov (.con (V.bool false))) <|
 .nil))
 .ret)
 .skip))
 (.keep [(0, .ptr), (1, .ptr), (5, .ptr)] [] [] (.gdraw G184_0 H184_0 [(0, .ptr), (1, .ptr)]))))))
 (.keep [(0, .ptr), (1, .ptr)] [] [] cc3)))
def T184_2 (E : List (Nat × Blk)) (D : Den) (W : DrawFn) (K3 : Nat → Nat → Nat → Nat → H → Ans) (v0b : Nat) (v0o : Nat) (v1b : Nat) (v1o : Nat) (σ : H) : Ans :=
 ldK E σ v1b (Nat.add v1o 11) fun u1 =>
 slenK u1 fun n2 =>
 joinB (fun c3 s4 =>
 joinB (fun c6 s7 =>
 condK c6 (
 ldK E s7 v1b (Nat.add v1o 11) fun u9 =>
 slenK u9 fun n10 =>
 stK 1 v1b (Nat.add v1o 14) (V.bool true) s7 fun s11 =>
 stK 1 v1b (Nat.add v1o 13) (V.int .i64 (Int.ofNat n10)) s11 fun s12 =>
 K3 v0b v0o v1b v1o s12) (
 callK (D 210 [(V.ptr v0b v0o)] s7) fun u13 s14 =>
 rtTup u13 fun l15 =>
 rtCons l15 fun x16 l17 =>
 rtAgg x16 fun l18 =>
 rtCons l18 fun x19 l20 =>
 rtStr x19 fun x21 =>
 rtCons l20 fun x22 l23 =>
 rtInt .i64 x22 fun x24 =>
 rtCons l23 fun x25 l26 =>
 rtBool x25 fun x27 =>
 rtNil l26 (
 rtCons l17 fun x28 l29 =>
 rtBool x28 fun x30 =>
 rtNil l29 (
 let s31 := newB s14 (.cells [(V.str ⟨0, 0⟩), (V.int .i64 (Int.ofNat 0)), (V.bool false)]);
 stK 3 (H.next s14) 0 (V.agg [(V.str x21), (V.int .i64 x24), (V.bool x27)]) s31 fun s32 =>
 condK (not x30) (
 some ((V.bool false), s32)) (
 gdrawK (W G184_0 H184_0 [(0, (V.ptr v0b v0o)), (1, (V.ptr v1b v1o)), (5, (V.ptr (H.next s14) 0))] s32) fun e33 s34 =>
 getL e33 0 fun u35 =>
 rtPtr u35 fun b36 o37 =>
 getL e33 1 fun u38 =>
 rtPtr u38 fun b39 o40 =>
 K3 b36 o37 b39 o40 s34))))) fun k8 =>
 condK c3 (
 callK (D 126 [(V.ptr v0b v0o), (V.str (BS.mk 3 3026478))] s4) fun u41 s42 =>
 rtBool u41 fun x43 =>
 k8 x43 s42) (
 k8 false s4)) fun k5 =>
 condK (ltF (Int.ofNat 0) (Int.ofNat n2)) (
 ldK E σ v1b (Nat.add v1o 14) fun u44 =>
 rtBool u44 fun x45 =>
 k5 (not x45) σ) (
 k5 false σ)
def C184_3 : XC := (.seq (.ops (.op (some 58) .any [0] (.mov (.tmp 0)) <|
 .op (some 59) .any [58] (.nilck (.tmp 58)) <|
 .op (some 60) .any [59] (.faddr 0 (.tmp 59)) <|
 .op (some 61) .bool [60] (.call 126 [(.tmp 60), (.con (V.str ⟨1, 44⟩))]) <|
 .op (some 62) .any [61] (.un .not (.tmp 61)) <|
 .nil))
 (.cond (.tmp 62) (.exit 0)
 .skip))
def T184_3 (E : List (Nat × Blk)) (D : Den) (W : DrawFn) (K1 : Nat → Nat → Nat → Nat → H → Ans) (R2 : Nat → Nat → Nat → Nat → H → Ans) (v0b : Nat) (v0o : Nat) (v1b : Nat) (v1o : Nat) (σ : H) : Ans :=
 callK (D 126 [(V.ptr v0b v0o), (V.str (BS.mk 1 44))] σ) fun u1 s2 =>
 rtBool u1 fun x3 =>
 condK (not x3) (
 K1 v0b v0o v1b v1o s2) (
 R2 v0b v0o v1b v1o s2)
def C184_4 : XC := (.seq (.ops (.op (some 76) .any [0] (.mov (.tmp 0)) <|
 .op (some 77) .any [] (.buildSlice 9 1 [(V.str ⟨0, 0⟩)] [(0, 1, (.con (V.str ⟨1, 125⟩)))]) <|
 .op (some 78) .bool [76, 77] (.call 90 [(.tmp 76), (.tmp 77)]) <|
 .op (some 4) .any [78] (.mov (.tmp 78)) <|
 .nil))
 .ret)
def T184_4 (E : List (Nat × Blk)) (D : Den) (W : DrawFn) (v0b : Nat) (v0o : Nat) (σ : H) : Ans :=
 let s1 := newB σ (.cells [(V.str (BS.mk 1 125))]);
 callK (D 90 [(V.ptr v0b v0o), (V.sl (H.next σ) 0 1 (.ex 1))] s1) fun u2 s3 =>
 rtBool u2 fun x4 =>
 some ((V.bool x4), s3)
theorem P184_0 (E : List (Nat × Blk)) (D : Den) (W : DrawFn) (N : Nat) (cc1 : XC) (cc2 : XC) (v0b : Nat) (v0o : Nat) (v1b : Nat) (v1o : Nat) (σ : H) :
  denC E D W N (C184_0 cc1 cc2) ⟨[(0, (V.ptr v0b v0o)), (1, (V.ptr v1b v1o))], [], [], σ⟩ (Fin184 E) (fun _ _ => none) (Fin184 E) =
  T184_0 E D W (fun v0b v0o v1b v1o σ => iterK (fun rec s' => denC E D W N cc2 s' (fun s'' => keepS [(0, .ptr), (1, .ptr)] [] [] s'' rec) (blkK 0 (fun s' => denC E D W N (.keep [(0, .ptr), (1, .ptr)] [] [] cc1) s' (Fin184 E) (fun _ _ => none) (Fin184 E)) (fun _ _ => none)) (Fin184 E)) N ⟨[(0, (V.ptr v0b v0o)), (1, (V.ptr v1b v1o))], [], [], σ⟩) v0b v0o v1b v1o σ := by kernel_rfl
theorem P184_1 (E : List (Nat × Blk)) (D : Den) (W : DrawFn) (N : Nat) (cc4 : XC) (v0b : Nat) (v0o : Nat) (v1b : Nat) (v1o : Nat) (σ : H) :
  denC E D W N (C184_1 cc4) ⟨[(0, (V.ptr v0b v0o)), (1, (V.ptr v1b v1o))], [], [], σ⟩ (Fin184 E) (fun _ _ => none) (Fin184 E) =
  T184_1 E D W (fun v0b v0o σ => denC E D W N cc4 ⟨[(0, (V.ptr v0b v0o))], [], [], σ⟩ (Fin184 E) (fun _ _ => none) (Fin184 E)) v0b v0o v1b v1o σ := by kernel_rfl
theorem P184_2 (E : List (Nat × Blk)) (D : Den) (W : DrawFn) (N : Nat) (cc1 : XC) (cc3 : XC) (li2 : St → Ans) (v0b : Nat) (v0o : Nat) (v1b : Nat) (v1o : Nat) (σ : H) :
  denC E D W N (C184_2 cc3) ⟨[(0, (V.ptr v0b v0o)), (1, (V.ptr v1b v1o))], [], [], σ⟩ (fun s'' => keepS [(0, .ptr), (1, .ptr)] [] [] s'' li2) (blkK 0 (fun s' => denC E D W N (.keep [(0, .ptr), (1, .ptr)] [] [] cc1) s' (Fin184 E) (fun _ _ => none) (Fin184 E)) (fun _ _ => none)) (Fin184 E) =
  T184_2 E D W (fun v0b v0o v1b v1o σ => denC E D W N cc3 ⟨[(0, (V.ptr v0b v0o)), (1, (V.ptr v1b v1o))], [], [], σ⟩ (fun s'' => keepS [(0, .ptr), (1, .ptr)] [] [] s'' li2) (blkK 1 (fun s'' => keepS [(0, .ptr), (1, .ptr)] [] [] s'' li2) (blkK 0 (fun s' => denC E D W N (.keep [(0, .ptr), (1, .ptr)] [] [] cc1) s' (Fin184 E) (fun _ _ => none) (Fin184 E)) (fun _ _ => none))) (Fin184 E)) v0b v0o v1b v1o σ := by kernel_rfl
theorem P184_3 (E : List (Nat × Blk)) (D : Den) (W : DrawFn) (N : Nat) (cc1 : XC) (li2 : St → Ans) (v0b : Nat) (v0o : Nat) (v1b : Nat) (v1o : Nat) (σ : H) :
  denC E D W N (C184_3 ) ⟨[(0, (V.ptr v0b v0o)), (1, (V.ptr v1b v1o))], [], [], σ⟩ (fun s'' => keepS [(0, .ptr), (1, .ptr)] [] [] s'' li2) (blkK 1 (fun s'' => keepS [(0, .ptr), (1, .ptr)] [] [] s'' li2) (blkK 0 (fun s' => denC E D W N (.keep [(0, .ptr), (1, .ptr)] [] [] cc1) s' (Fin184 E) (fun _ _ => none) (Fin184 E)) (fun _ _ => none))) (Fin184 E) =
  T184_3 E D W (fun v0b v0o v1b v1o σ => denC E D W N cc1 ⟨[(0, (V.ptr v0b v0o)), (1, (V.ptr v1b v1o))], [], [], σ⟩ (Fin184 E) (fun _ _ => none) (Fin184 E)) (fun v0b v0o v1b v1o σ => li2 ⟨[(0, (V.ptr v0b v0o)), (1, (V.ptr v1b v1o))], [], [], σ⟩) v0b v0o v1b v1o σ := by kernel_rfl
theorem P184_4 (E : List (Nat × Blk)) (D : Den) (W : DrawFn) (N : Nat) (v0b : Nat) (v0o : Nat) (σ : H) :
  denC E D W N (C184_4 ) ⟨[(0, (V.ptr v0b v0o))], [], [], σ⟩ (Fin184 E) (fun _ _ => none) (Fin184 E) =
  T184_4 E D W  v0b v0o σ := by kernel_rfl
def J184_4 (E : List (Nat × Blk)) (D : Den) (W : DrawFn) (N : Nat) : Nat → Nat → H → Ans := T184_4 E D W 
theorem JE184_4 (E : List (Nat × Blk)) (D : Den) (W : DrawFn) (N : Nat) (v0b : Nat) (v0o : Nat) (σ : H) :
  denC E D W N C184_4 ⟨[(0, (V.ptr v0b v0o))], [], [], σ⟩ (Fin184 E) (fun _ _ => none) (Fin184 E) = J184_4 E D W N v0b v0o σ := by
  refine (P184_4 E D W N   v0b v0o σ).trans ?_
  kernel_rfl
def J184_1 (E : List (Nat × Blk)) (D : Den) (W : DrawFn) (N : Nat) : Nat → Nat → Nat → Nat → H → Ans := T184_1 E D W (J184_4 E D W N )
theorem JE184_1 (E : List (Nat × Blk)) (D : Den) (W : DrawFn) (N : Nat) (v0b : Nat) (v0o : Nat) (v1b : Nat) (v1o : Nat) (σ : H) :
  denC E D W N (C184_1 C184_4) ⟨[(0, (V.ptr v0b v0o)), (1, (V.ptr v1b v1o))], [], [], σ⟩ (Fin184 E) (fun _ _ => none) (Fin184 E) = J184_1 E D W N v0b v0o v1b v1o σ := by
  refine (P184_1 E D W N C184_4  v0b v0o v1b v1o σ).trans ?_
  simp only [JE184_4]
  kernel_rfl
def J184_3 (E : List (Nat × Blk)) (D : Den) (W : DrawFn) (N : Nat) (R2 : Nat → Nat → Nat → Nat → H → Ans) : Nat → Nat → Nat → Nat → H → Ans := T184_3 E D W (J184_1 E D W N ) R2
theorem JE184_3 (E : List (Nat × Blk)) (D : Den) (W : DrawFn) (N : Nat) (li2 : St → Ans) (v0b : Nat) (v0o : Nat) (v1b : Nat) (v1o : Nat) (σ : H) :
  denC E D W N C184_3 ⟨[(0, (V.ptr v0b v0o)), (1, (V.ptr v1b v1o))], [], [], σ⟩ (fun s'' => keepS [(0, .ptr), (1, .ptr)] [] [] s'' li2) (blkK 1 (fun s'' => keepS [(0, .ptr), (1, .ptr)] [] [] s'' li2) (blkK 0 (fun s' => denC E D W N (.keep [(0, .ptr), (1, .ptr)] [] [] (C184_1 C184_4)) s' (Fin184 E) (fun _ _ => none) (Fin184 E)) (fun _ _ => none))) (Fin184 E) = J184_3 E D W N (fun v0b v0o v1b v1o σ => li2 ⟨[(0, (V.ptr v0b v0o)), (1, (V.ptr v1b v1o))], [], [], σ⟩) v0b v0o v1b v1o σ := by
  refine (P184_3 E D W N (C184_1 C184_4) li2 v0b v0o v1b v1o σ).trans ?_
  simp only [JE184_1]
  kernel_rfl
def L184_2 (E : List (Nat × Blk)) (D : Den) (W : DrawFn) (N : Nat) (n : Nat) : Nat → Nat → Nat → Nat → H → Ans :=
  Nat.rec (fun _ _ _ _ _ => none) (fun _ ih => T184_2 E D W (J184_3 E D W N ih)) n
theorem LE184_2 (E : List (Nat × Blk)) (D : Den) (W : DrawFn) (N : Nat) (n : Nat) : ∀ (v0b : Nat) (v0o : Nat) (v1b : Nat) (v1o : Nat) (σ : H),
  iterK (fun rec s' => denC E D W N (C184_2 C184_3) s' (fun s'' => keepS [(0, .ptr), (1, .ptr)] [] [] s'' rec) (blkK 0 (fun s' => denC E D W N (.keep [(0, .ptr), (1, .ptr)] [] [] (C184_1 C184_4)) s' (Fin184 E) (fun _ _ => none) (Fin184 E)) (fun _ _ => none)) (Fin184 E)) n ⟨[(0, (V.ptr v0b v0o)), (1, (V.ptr v1b v1o))], [], [], σ⟩ = L184_2 E D W N n v0b v0o v1b v1o σ := by
  induction n with
  | zero => intro v0b v0o v1b v1o σ; rfl
  | succ n ihn =>
    intro v0b v0o v1b v1o σ
    rw [iterK_succ]
    refine (P184_2 E D W N (C184_1 C184_4) C184_3 (iterK (fun rec s' => denC E D W N (C184_2 C184_3) s' (fun s'' => keepS [(0, .ptr), (1, .ptr)] [] [] s'' rec) (blkK 0 (fun s' => denC E D W N (.keep [(0, .ptr), (1, .ptr)] [] [] (C184_1 C184_4)) s' (Fin184 E) (fun _ _ => none) (Fin184 E)) (fun _ _ => none)) (Fin184 E)) n) v0b v0o v1b v1o σ).trans ?_
    simp only [ihn, JE184_3]
    kernel_rfl
def J184_0 (E : List (Nat × Blk)) (D : Den) (W : DrawFn) (N : Nat) : Nat → Nat → Nat → Nat → H → Ans := T184_0 E D W (L184_2 E D W N N)
theorem JE184_0 (E : List (Nat × Blk)) (D : Den) (W : DrawFn) (N : Nat) (v0b : Nat) (v0o : Nat) (v1b : Nat) (v1o : Nat) (σ : H) :
  denC E D W N (C184_0 (C184_1 C184_4) (C184_2 C184_3)) ⟨[(0, (V.ptr v0b v0o)), (1, (V.ptr v1b v1o))], [], [], σ⟩ (Fin184 E) (fun _ _ => none) (Fin184 E) = J184_0 E D W N v0b v0o v1b v1o σ := by
  refine (P184_0 E D W N (C184_1 C184_4) (C184_2 C184_3)  v0b v0o v1b v1o σ).trans ?_
  simp only [LE184_2]
  kernel_rfl
def F184 (E : List (Nat × Blk)) (D : Den) (W : DrawFn) (N : Nat) (args : List V) (σ : H) : Ans :=
 rtCons args fun x1 l2 =>
 rtPtr x1 fun b3 o4 =>
 rtCons l2 fun x5 l6 =>
 rtPtr x5 fun b7 o8 =>
 rtNil l6 (
 J184_0 E D W N b3 o4 b7 o8 σ)
def A184 : XFn := ⟨79, [.ptr, .ptr], [(.tmp 4)], (C184_0 (C184_1 C184_4) (C184_2 C184_3))⟩
theorem FE184 (E : List (Nat × Blk)) (D : Den) (W : DrawFn) (N : Nat) (args : List V) (σ : H) : runX E D W N A184 args σ = F184 E D W N args σ := by
  unfold F184
  simp only [← JE184_0]
  kernel_rfl
theorem AO184 : A184.body.ok = true := by kernel_rfl

def C188_0 (cc1 : XC) (cc2 : XC) : XC := (.seq (.ops (.op (some 4) .any [] (.mov (.con (V.int .i64 (Int.ofNat 0)))) <|
 .nil))
 (.seq (.seq (.ops (.op (some 6) .any [0] (.mov (.tmp 0)) <|
 .op (some 7) .any [6] (.len false (.tmp 6)) <|
 .op (some 8) .any [] (.mov (.con (V.int .i64 (Int.ofNat 0)))) <|
 .nil))
 (.block 0 (.loop [(0, .any), (1, .any), (7, (.int .i64)), (8, (.int .i64))] [] [] cc2)))
 (.keep [] [] [] cc1)))
def C188_1 : XC := (.seq (.ops (.op (some 4) .any [] (.mov (.con (V.int .i64 (Int.negSucc 0)))) <|
 .nil))
 .ret)
def C188_2 : XC := (.seq (.ops (.op (some 9) .any [8, 7] (.bin .lss .none (.tmp 8) (.tmp 7)) <|
 .nil))
 (.seq (.cond (.tmp 9) .skip
 (.exit 0))
 (.seq (.block 1 (.seq (.ops (.op (some 10) .any [8] (.mov (.tmp 8)) <|
 .op (some 5) .any [10] (.mov (.tmp 10)) <|
 .nil))
 (.seq (.ops (.op (some 11) .any [1] (.mov (.tmp 1)) <|
 .op (some 12) .any [0] (.mov (.tmp 0)) <|
 .op (some 13) .any [5] (.mov (.tmp 5)) <|
 .op (some 14) .any [12, 13] (.iaddrS 1 (.tmp 12) (.tmp 13)) <|
 .op (some 15) .str [14] (.load none (.tmp 14)) <|
 .op (some 16) .bool [11, 15] (.callv (.tmp 11) [(.tmp 15)]) <|
 .nil))
 (.cond (.tmp 16) (.seq (.ops (.op (some 17) .any [5] (.mov (.tmp 5)) <|
 .op (some 4) .any [17] (.mov (.tmp 17)) <|
 .nil))
 .ret)
 .skip))))
 (.ops (.op (some 18) .any [8] (.bin .add .none (.tmp 8) (.con (V.int .i64 (Int.ofNat 1)))) <|
 .op (some 8) .any [18] (.mov (.tmp 18)) <|
 .nil)))))
def A188 : XFn := ⟨19, [.any, .any], [(.tmp 4)], (C188_0 C188_1 C188_2)⟩
def C190_0 : XC := (.seq (.ops (.op (some 3) .any [1] (.box 2 (.tmp 1)) <|
 .op (some 4) .any [] (.mov (.con (V.bool false))) <|
 .nil))
 (.seq (.ops (.op (some 5) .any [0] (.mov (.tmp 0)) <|
 .op (some 6) .any [3] (.mkfn 213 [] [(.tmp 3)]) <|
 .op (some 7) .bool [5, 6] (.call 165 [(.tmp 5), (.tmp 6)]) <|
 .op (some 4) .any [7] (.mov (.tmp 7)) <|
 .nil))
 .ret))
def A190 : XFn := ⟨8, [.any, (.int .i64)], [(.tmp 4)], C190_0⟩
/-! ### F191: ogham_table.behind -/
def Fin191 (E : List (Nat × Blk)) : St → Ans := fun s => resK E s [(.tmp 2), (.tmp 3)] fun l => some (oneV l, s.σ)
def C191_0 (cc1 : XC) (cc2 : XC) : XC := (.seq (.ops (.op (some 2) .any [] (.mov (.con (V.int .i64 (Int.ofNat 0)))) <|
 .op (some 3) .any [] (.mov (.con (V.bool false))) <|
 .nil))
 (.seq (.seq (.ops (.op (some 7) .any [0] (.mov (.tmp 0)) <|
 .op (some 8) .any [7] (.len false (.tmp 7)) <|
 .op (some 9) .any [8] (.bin .eql .none (.tmp 8) (.con (V.int .i64 (Int.ofNat 0)))) <|
 .nil))
 (.cond (.tmp 9) (.seq (.ops (.op (some 2) .any [] (.mov (.con (V.int .i64 (Int.ofNat 0)))) <|
 .op (some 3) .any [] (.mov (.con (V.bool true))) <|
 .nil))
 .ret)
 .skip))
 (.seq (.ops (.op (some 10) .any [0] (.mov (.tmp 0)) <|
 .op (some 11) .any [10] (.iaddrS 3 (.tmp 10) (.con (V.int .i64 (Int.ofNat 0)))) <|
 .op (some 12) .any [11] (.faddr 1 (.tmp 11)) <|
 .op (some 13) (.int .i64) [12] (.load none (.tmp 12)) <|
 .op (some 4) .any [13] (.mov (.tmp 13)) <|
 .nil))
 (.seq (.seq (.ops (.op (some 14) .any [0] (.mov (.tmp 0)) <|
 .op (some 15) .any [14] (.len false (.tmp 14)) <|
 .op (some 16) .any [] (.mov (.con (V.int .i64 (Int.ofNat 0)))) <|
 .nil))
 (.block 0 (.loop [(4, (.int .i64)), (14, .any), (15, (.int .i64)), (16, (.int .i64))] [] [] cc2)))
 (.keep [(4, (.int .i64))] [] [] cc1)))))
def T191_0 (E : List (Nat × Blk)) (D : Den) (W : DrawFn) (K2 : Int → V → Int → Int → H → Ans) (v0 : V) (σ : H) : Ans :=
 slenK v0 fun n1 =>
 condK (eqF (Int.ofNat n1) (Int.ofNat 0)) (
 some ((V.tup [(V.int .i64 (Int.ofNat 0)), (V.bool true)]), σ)) (
 iaddrSK 3 v0 (Int.ofNat 0) fun b2 o3 =>
 ldK E σ b2 (Nat.add o3 1) fun u4 =>
 rtInt .i64 u4 fun x5 =>
 slenK v0 fun n6 =>
 K2 x5 v0 (Int.ofNat n6) (Int.ofNat 0) σ)
def C191_1 : XC := (.seq (.ops (.op (some 25) .any [4] (.mov (.tmp 4)) <|
 .op (some 26) .any [25] (.bin .add .none (.tmp 25) (.con (V.int .i64 (Int.ofNat 1)))) <|
 .op (some 27) .any [4] (.mov (.tmp 4)) <|
 .op (some 28) .any [27] (.bin .lss .none (.tmp 27) (.con (V.int .i64 (Int.ofNat 9223372036854775807)))) <|
 .op (some 2) .any [26] (.mov (.tmp 26)) <|
 .op (some 3) .any [28] (.mov (.tmp 28)) <|
 .nil))
 .ret)
def T191_1 (E : List (Nat × Blk)) (D : Den) (W : DrawFn) (v4 : Int) (σ : H) : Ans :=
 some ((V.tup [(V.int .i64 (addF .i64 v4 (Int.ofNat 1))), (V.bool (ltF v4 (Int.ofNat 9223372036854775807)))]), σ)
def C191_2 : XC := (.seq (.ops (.op (some 17) .any [16, 15] (.bin .lss .none (.tmp 16) (.tmp 15)) <|
 .nil))
 (.seq (.cond (.tmp 17) .skip
 (.exit 0))
 (.seq (.block 1 (.seq (.ops (.op (some 18) .any [14, 16] (.iaddrS 3 (.tmp 14) (.tmp 16)) <|
 .op (some 19) (.agg [.str, (.int .i64), .bool]) [18] (.load (some 3) (.tmp 18)) <|
 .pal 6 [] 121 [(V.str ⟨0, 0⟩), (V.int .i64 (Int.ofNat 0)), (V.bool false)] <|
 .op none (.agg [.str, (.int .i64), .bool]) [6, 19] (.store 3 (.tmp 6) (.tmp 19)) <|
 .nil))
 (.ops (.op (some 20) .any [4] (.mov (.tmp 4)) <|
 .op (some 21) .any [6] (.faddr 1 (.tmp 6)) <|
 .op (some 22) (.int .i64) [21] (.load none (.tmp 21)) <|
 .op (some 23) .any [20, 22] (.max (.tmp 20) [(.tmp 22)]) <|
 .op (some 4) .any [23] (.mov (.tmp 23)) <|
 .nil))))
 (.ops (.op (some 24) .any [16] (.bin .add .none (.tmp 16) (.con (V.int .i64 (Int.ofNat 1)))) <|
 .op (some 16) .any [24] (.mov (.tmp 24)) <|
 .nil)))))
def T191_2 (E : List (Nat × Blk)) (D : Den) (W : DrawFn) (K1 : Int → H → Ans) (R2 : Int → V → Int → Int → H → Ans) (v4 : Int) (v14 : V) (v15 : Int) (v16 : Int) (σ : H) : Ans :=
 condK (ltF v16 v15) (
 iaddrSK 3 v14 v16 fun b1 o2 =>
 ldnK E σ b1 o2 3 fun l3 =>
 rtCons l3 fun x4 l5 =>
 rtStr x4 fun x6 =>
 rtCons l5 fun x7 l8 =>
 rtInt .i64 x7 fun x9 =>
 rtCons l8 fun x10 l11 =>
 rtBool x10 fun x12 =>
 rtNil l11 (
 R2 (maxF v4 x9) v14 v15 (addF .i64 v16 (Int.ofNat 1)) σ)) (
 K1 v4 σ)
theorem P191_0 (E : List (Nat × Blk)) (D : Den) (W : DrawFn) (N : Nat) (cc1 : XC) (cc2 : XC) (v0 : V) (σ : H) :
  denC E D W N (C191_0 cc1 cc2) ⟨[(0, v0)], [], [], σ⟩ (Fin191 E) (fun _ _ => none) (Fin191 E) =
  T191_0 E D W (fun v4 v14 v15 v16 σ => iterK (fun rec s' => denC E D W N cc2 s' (fun s'' => keepS [(4, (.int .i64)), (14, .any), (15, (.int .i64)), (16, (.int .i64))] [] [] s'' rec) (blkK 0 (fun s' => denC E D W N (.keep [(4, (.int .i64))] [] [] cc1) s' (Fin191 E) (fun _ _ => none) (Fin191 E)) (fun _ _ => none)) (Fin191 E)) N ⟨[(4, (V.int .i64 v4)), (14, v14), (15, (V.int .i64 v15)), (16, (V.int .i64 v16))], [], [], σ⟩) v0 σ := by kernel_rfl
theorem P191_1 (E : List (Nat × Blk)) (D : Den) (W : DrawFn) (N : Nat) (v4 : Int) (σ : H) :
  denC E D W N (C191_1 ) ⟨[(4, (V.int .i64 v4))], [], [], σ⟩ (Fin191 E) (fun _ _ => none) (Fin191 E) =
  T191_1 E D W  v4 σ := by kernel_rfl
theorem P191_2 (E : List (Nat × Blk)) (D : Den) (W : DrawFn) (N : Nat) (cc1 : XC) (li2 : St → Ans) (v4 : Int) (v14 : V) (v15 : Int) (v16 : Int) (σ : H) :
  denC E D W N (C191_2 ) ⟨[(4, (V.int .i64 v4)), (14, v14), (15, (V.int .i64 v15)), (16, (V.int .i64 v16))], [], [], σ⟩ (fun s'' => keepS [(4, (.int .i64)), (14, .any), (15, (.int .i64)), (16, (.int .i64))] [] [] s'' li2) (blkK 0 (fun s' => denC E D W N (.keep [(4, (.int .i64))] [] [] cc1) s' (Fin191 E) (fun _ _ => none) (Fin191 E)) (fun _ _ => none)) (Fin191 E) =
  T191_2 E D W (fun v4 σ => denC E D W N cc1 ⟨[(4, (V.int .i64 v4))], [], [], σ⟩ (Fin191 E) (fun _ _ => none) (Fin191 E)) (fun v4 v14 v15 v16 σ => li2 ⟨[(4, (V.int .i64 v4)), (14, v14), (15, (V.int .i64 v15)), (16, (V.int .i64 v16))], [], [], σ⟩) v4 v14 v15 v16 σ := by kernel_rfl
def J191_1 (E : List (Nat × Blk)) (D : Den) (W : DrawFn) (N : Nat) : Int → H → Ans := T191_1 E D W 
theorem JE191_1 (E : List (Nat × Blk)) (D : Den) (W : DrawFn) (N : Nat) (v4 : Int) (σ : H) :
  denC E D W N C191_1 ⟨[(4, (V.int .i64 v4))], [], [], σ⟩ (Fin191 E) (fun _ _ => none) (Fin191 E) = J191_1 E D W N v4 σ := by
  refine (P191_1 E D W N   v4 σ).trans ?_
  kernel_rfl
def L191_2 (E : List (Nat × Blk)) (D : Den) (W : DrawFn) (N : Nat) (n : Nat) : Int → V → Int → Int → H → Ans :=
  Nat.rec (fun _ _ _ _ _ => none) (fun _ ih => T191_2 E D W (J191_1 E D W N ) ih) n
theorem LE191_2 (E : List (Nat × Blk)) (D : Den) (W : DrawFn) (N : Nat) (n : Nat) : ∀ (v4 : Int) (v14 : V) (v15 : Int) (v16 : Int) (σ : H),
  iterK (fun rec s' => denC E D W N C191_2 s' (fun s'' => keepS [(4, (.int .i64)), (14, .any), (15, (.int .i64)), (16, (.int .i64))] [] [] s'' rec) (blkK 0 (fun s' => denC E D W N (.keep [(4, (.int .i64))] [] [] C191_1) s' (Fin191 E) (fun _ _ => none) (Fin191 E)) (fun _ _ => none)) (Fin191 E)) n ⟨[(4, (V.int .i64 v4)), (14, v14), (15, (V.int .i64 v15)), (16, (V.int .i64 v16))], [], [], σ⟩ = L191_2 E D W N n v4 v14 v15 v16 σ := by
  induction n with
  | zero => intro v4 v14 v15 v16 σ; rfl
  | succ n ihn =>
    intro v4 v14 v15 v16 σ
    rw [iterK_succ]
    refine (P191_2 E D W N C191_1 (iterK (fun rec s' => denC E D W N C191_2 s' (fun s'' => keepS [(4, (.int .i64)), (14, .any), (15, (.int .i64)), (16, (.int .i64))] [] [] s'' rec) (blkK 0 (fun s' => denC E D W N (.keep [(4, (.int .i64))] [] [] C191_1) s' (Fin191 E) (fun _ _ => none) (Fin191 E)) (fun _ _ => none)) (Fin191 E)) n) v4 v14 v15 v16 σ).trans ?_
    simp only [ihn, JE191_1]
    kernel_rfl
def J191_0 (E : List (Nat × Blk)) (D : Den) (W : DrawFn) (N : Nat) : V → H → Ans := T191_0 E D W (L191_2 E D W N N)
theorem JE191_0 (E : List (Nat × Blk)) (D : Den) (W : DrawFn) (N : Nat) (v0 : V) (σ : H) :
  denC E D W N (C191_0 C191_1 C191_2) ⟨[(0, v0)], [], [], σ⟩ (Fin191 E) (fun _ _ => none) (Fin191 E) = J191_0 E D W N v0 σ := by
  refine (P191_0 E D W N C191_1 C191_2  v0 σ).trans ?_
  simp only [LE191_2]
  kernel_rfl
def F191 (E : List (Nat × Blk)) (D : Den) (W : DrawFn) (N : Nat) (args : List V) (σ : H) : Ans :=
 rtCons args fun x1 l2 =>
 rtNil l2 (
 J191_0 E D W N x1 σ)
def A191 : XFn := ⟨29, [.any], [(.tmp 2), (.tmp 3)], (C191_0 C191_1 C191_2)⟩
theorem FE191 (E : List (Nat × Blk)) (D : Den) (W : DrawFn) (N : Nat) (args : List V) (σ : H) : runX E D W N A191 args σ = F191 E D W N args σ := by
  unfold F191
  simp only [← JE191_0]
  kernel_rfl
theorem AO191 : A191.body.ok = true := by kernel_rfl

/-! ### F192: slices.IndexFunc___ogham_api.Item_ogham_api.Item_ -/
def Fin192 (E : List (Nat × Blk)) : St → Ans := fun s => resK E s [(.tmp 4)] fun l => some (oneV l, s.σ)
def C192_0 (cc1 : XC) (cc2 : XC) : XC := (.seq (.ops (.op (some 4) .any [] (.mov (.con (V.int .i64 (Int.ofNat 0)))) <|
 .nil))
 (.seq (.seq (.ops (.op (some 6) .any [0] (.mov (.tmp 0)) <|
 .op (some 7) .any [6] (.len false (.tmp 6)) <|
 .op (some 8) .any [] (.mov (.con (V.int .i64 (Int.ofNat 0)))) <|
 .nil))
 (.block 0 (.loop [(0, .any), (1, .any), (7, (.int .i64)), (8, (.int .i64))] [] [] cc2)))
 (.keep [] [] [] cc1)))
def T192_0 (E : List (Nat × Blk)) (D : Den) (W : DrawFn) (K2 : V → V → Int → Int → H → Ans) (v0 : V) (v1 : V) (σ : H) : Ans :=
 slenK v0 fun n1 =>
 K2 v0 v1 (Int.ofNat n1) (Int.ofNat 0) σ
def C192_1 : XC := (.seq (.ops (.op (some 4) .any [] (.mov (.con (V.int .i64 (Int.negSucc 0)))) <|
 .nil))
 .ret)
def T192_1 (E : List (Nat × Blk)) (D : Den) (W : DrawFn) (σ : H) : Ans :=
 some ((V.int .i64 (Int.negSucc 0)), σ)
def C192_2 : XC := (.seq (.ops (.op (some 9) .any [8, 7] (.bin .lss .none (.tmp 8) (.tmp 7)) <|
 .nil))
 (.seq (.cond (.tmp 9) .skip
 (.exit 0))
 (.seq (.block 1 (.seq (.ops (.op (some 10) .any [8] (.mov (.tmp 8)) <|
 .op (some 5) .any [10] (.mov (.tmp 10)) <|
 .nil))
 (.seq (.ops (.op (some 11) .any [1] (.mov (.tmp 1)) <|
 .op (some 12) .any [0] (.mov (.tmp 0)) <|
 .op (some 13) .any [5] (.mov (.tmp 5)) <|
 .op (some 14) .any [12, 13] (.iaddrS 3 (.tmp 12) (.tmp 13)) <|
 .op (some 15) (.agg [.str, (.int .i64), .bool]) [14] (.load (some 3) (.tmp 14)) <|
 .op (some 16) .bool [11, 15] (.callv (.tmp 11) [(.tmp 15)]) <|
 .nil))
 (.cond (.tmp 16) (.seq (.ops (.op (some 17) .any [5] (.mov (.tmp 5)) <|
 .op (some 4) .any [17] (.mov (.tmp 17)) <|
 .nil))
 .ret)
 .skip))))
 (.ops (.op (some 18) .any [8] (.bin .add .none (.tmp 8) (.con (V.int .i64 (Int.ofNat 1)))) <|
 .op (some 8) .any [18] (.mov (.tmp 18)) <|
 .nil)))))
def T192_2 (E : List (Nat × Blk)) (D : Den) (W : DrawFn) (K1 : H → Ans) (R2 : V → V → Int → Int → H → Ans) (v0 : V) (v1 : V) (v7 : Int) (v8 : Int) (σ : H) : Ans :=
 condK (ltF v8 v7) (
 iaddrSK 3 v0 v8 fun b1 o2 =>
 ldnK E σ b1 o2 3 fun l3 =>
 rtCons l3 fun x4 l5 =>
 rtStr x4 fun x6 =>
 rtCons l5 fun x7 l8 =>
 rtInt .i64 x7 fun x9 =>
 rtCons l8 fun x10 l11 =>
 rtBool x10 fun x12 =>
 rtNil l11 (
 callvK D v1 [(V.agg [(V.str x6), (V.int .i64 x9), (V.bool x12)])] σ fun u13 s14 =>
 rtBool u13 fun x15 =>
 condK x15 (
 some ((V.int .i64 v8), s14)) (
 R2 v0 v1 v7 (addF .i64 v8 (Int.ofNat 1)) s14))) (
 K1 σ)
theorem P192_0 (E : List (Nat × Blk)) (D : Den) (W : DrawFn) (N : Nat) (cc1 : XC) (cc2 : XC) (v0 : V) (v1 : V) (σ : H) :
  denC E D W N (C192_0 cc1 cc2) ⟨[(0, v0), (1, v1)], [], [], σ⟩ (Fin192 E) (fun _ _ => none) (Fin192 E) =
  T192_0 E D W (fun v0 v1 v7 v8 σ => iterK (fun rec s' => denC E D W N cc2 s' (fun s'' => keepS [(0, .any), (1, .any), (7, (.int .i64)), (8, (.int .i64))] [] [] s'' rec) (blkK 0 (fun s' => denC E D W N (.keep [] [] [] cc1) s' (Fin192 E) (fun _ _ => none) (Fin192 E)) (fun _ _ => none)) (Fin192 E)) N ⟨[(0, v0), (1, v1), (7, (V.int .i64 v7)), (8, (V.int .i64 v8))], [], [], σ⟩) v0 v1 σ := by kernel_rfl
theorem P192_1 (E : List (Nat × Blk)) (D : Den) (W : DrawFn) (N : Nat) (σ : H) :
  denC E D W N (C192_1 ) ⟨[], [], [], σ⟩ (Fin192 E) (fun _ _ => none) (Fin192 E) =
  T192_1 E D W   σ := by kernel_rfl
theorem P192_2 (E : List (Nat × Blk)) (D : Den) (W : DrawFn) (N : Nat) (cc1 : XC) (li2 : St → Ans) (v0 : V) (v1 : V) (v7 : Int) (v8 : Int) (σ : H) :
  denC E D W N (C192_2 ) ⟨[(0, v0), (1, v1), (7, (V.int .i64 v7)), (8, (V.int .i64 v8))], [], [], σ⟩ (fun s'' => keepS [(0, .any), (1, .any), (7, (.int .i64)), (8, (.int .i64))] [] [] s'' li2) (blkK 0 (fun s' => denC E D W N (.keep [] [] [] cc1) s' (Fin192 E) (fun _ _ => none) (Fin192 E)) (fun _ _ => none)) (Fin192 E) =
  T192_2 E D W (fun  σ => denC E D W N cc1 ⟨[], [], [], σ⟩ (Fin192 E) (fun _ _ => none) (Fin192 E)) (fun v0 v1 v7 v8 σ => li2 ⟨[(0, v0), (1, v1), (7, (V.int .i64 v7)), (8, (V.int .i64 v8))], [], [], σ⟩) v0 v1 v7 v8 σ := by kernel_rfl
def J192_1 (E : List (Nat × Blk)) (D : Den) (W : DrawFn) (N : Nat) : H → Ans := T192_1 E D W 
theorem JE192_1 (E : List (Nat × Blk)) (D : Den) (W : DrawFn) (N : Nat) (σ : H) :
  denC E D W N C192_1 ⟨[], [], [], σ⟩ (Fin192 E) (fun _ _ => none) (Fin192 E) = J192_1 E D W N  σ := by
  refine (P192_1 E D W N    σ).trans ?_
  kernel_rfl
def L192_2 (E : List (Nat × Blk)) (D : Den) (W : DrawFn) (N : Nat) (n : Nat) : V → V → Int → Int → H → Ans :=
  Nat.rec (fun _ _ _ _ _ => none) (fun _ ih => T192_2 E D W (J192_1 E D W N ) ih) n
theorem LE192_2 (E : List (Nat × Blk)) (D : Den) (W : DrawFn) (N : Nat) (n : Nat) : ∀ (v0 : V) (v1 : V) (v7 : Int) (v8 : Int) (σ : H),
  iterK (fun rec s' => denC E D W N C192_2 s' (fun s'' => keepS [(0, .any), (1, .any), (7, (.int .i64)), (8, (.int .i64))] [] [] s'' rec) (blkK 0 (fun s' => denC E D W N (.keep [] [] [] C192_1) s' (Fin192 E) (fun _ _ => none) (Fin192 E)) (fun _ _ => none)) (Fin192 E)) n ⟨[(0, v0), (1, v1), (7, (V.int .i64 v7)), (8, (V.int .i64 v8))], [], [], σ⟩ = L192_2 E D W N n v0 v1 v7 v8 σ := by
  induction n with
  | zero => intro v0 v1 v7 v8 σ; rfl
  | succ n ihn =>
    intro v0 v1 v7 v8 σ
    rw [iterK_succ]
    refine (P192_2 E D W N C192_1 (iterK (fun rec s' => denC E D W N C192_2 s' (fun s'' => keepS [(0, .any), (1, .any), (7, (.int .i64)), (8, (.int .i64))] [] [] s'' rec) (blkK 0 (fun s' => denC E D W N (.keep [] [] [] C192_1) s' (Fin192 E) (fun _ _ => none) (Fin192 E)) (fun _ _ => none)) (Fin192 E)) n) v0 v1 v7 v8 σ).trans ?_
    simp only [ihn, JE192_1]
    kernel_rfl
def J192_0 (E : List (Nat × Blk)) (D : Den) (W : DrawFn) (N : Nat) : V → V → H → Ans := T192_0 E D W (L192_2 E D W N N)
theorem JE192_0 (E : List (Nat × Blk)) (D : Den) (W : DrawFn) (N : Nat) (v0 : V) (v1 : V) (σ : H) :
  denC E D W N (C192_0 C192_1 C192_2) ⟨[(0, v0), (1, v1)], [], [], σ⟩ (Fin192 E) (fun _ _ => none) (Fin192 E) = J192_0 E D W N v0 v1 σ := by
  refine (P192_0 E D W N C192_1 C192_2  v0 v1 σ).trans ?_
  simp only [LE192_2]
  kernel_rfl
def F192 (E : List (Nat × Blk)) (D : Den) (W : DrawFn) (N : Nat) (args : List V) (σ : H) : Ans :=
 rtCons args fun x1 l2 =>
 rtCons l2 fun x3 l4 =>
 rtNil l4 (
 J192_0 E D W N x1 x3 σ)
def A192 : XFn := ⟨19, [.any, .any], [(.tmp 4)], (C192_0 C192_1 C192_2)⟩
theorem FE192 (E : List (Nat × Blk)) (D : Den) (W : DrawFn) (N : Nat) (args : List V) (σ : H) : runX E D W N A192 args σ = F192 E D W N args σ := by
  unfold F192
  simp only [← JE192_0]
  kernel_rfl
theorem AO192 : A192.body.ok = true := by kernel_rfl

def G210_0 : List AOper := [⟨(some 34), .load (some 3) (.tmp 6), none⟩, ⟨(some 35), .mov (.tmp 5), none⟩, ⟨(some 36), .mov (.tmp 35), none⟩, ⟨(some 37), .mov (.tmp 0), (some (36, true))⟩, ⟨(some 38), .buildSlice 9 1 [(V.str ⟨0, 0⟩)] [(0, 1, (.con (V.str ⟨1, 41⟩)))], (some (36, true))⟩, ⟨(some 39), .call 90 [(.tmp 37), (.tmp 38)], (some (36, true))⟩, ⟨(some 40), .pick (.tmp 36) (.tmp 39) (.con (V.bool false)), none⟩, ⟨none, .store 3 (.tmp 2) (.tmp 34), none⟩, ⟨(some 3), .mov (.tmp 40), none⟩]
def H210_0 : List DP := [⟨0, [6]⟩, ⟨0, [5]⟩, ⟨2, [35]⟩, ⟨6, [0, 36]⟩, ⟨6, [36]⟩, ⟨30, [37, 38, 36]⟩, ⟨62, [36, 39]⟩, ⟨63, [2, 34]⟩, ⟨255, [40]⟩]
def C210_0 : XC := (.seq (.ops (.op (some 2) .any [] (.alloc 121 [(V.str ⟨0, 0⟩), (V.int .i64 (Int.ofNat 0)), (V.bool false)]) <|
 .op (some 3) .any [] (.mov (.con (V.bool false))) <|
 .nil))
 (.seq (.ops (.op (some 8) .any [0] (.mov (.tmp 0)) <|
 .op (some 9) (.tup [(.agg [(.int .i64), .str, (.int .i64)]), .bool]) [8] (.call 89 [(.tmp 8), (.con (V.int .i64 (Int.ofNat 2)))]) <|
 .op (some 7) .any [9] (.mov (.tmp 9)) <|
 .op (some 10) .any [7] (.extract 0 (.tmp 7)) <|
 .op (some 11) .any [7] (.extract 1 (.tmp 7)) <|
 .pal 4 [] 187 [(V.int .i64 (Int.ofNat 0)), (V.str ⟨0, 0⟩), (V.int .i64 (Int.ofNat 0))] <|
 .op none (.agg [(.int .i64), .str, (.int .i64)]) [4, 10] (.store 3 (.tmp 4) (.tmp 10)) <|
 .op (some 5) .any [11] (.mov (.tmp 11)) <|
 .nil))
 (.seq (.ops (.op (some 12) .any [4] (.faddr 1 (.tmp 4)) <|
 .op (some 13) .str [12] (.load none (.tmp 12)) <|
 .op (some 14) (.agg [.str, (.int .i64), .bool]) [13] (.build [(V.str ⟨0, 0⟩), (V.int .i64 (Int.ofNat 0)), (V.bool false)] [(0, 1, (.tmp 13))]) <|
 .op (some 6) .any [] (.alloc 121 [(V.str ⟨0, 0⟩), (V.int .i64 (Int.ofNat 0)), (V.bool false)]) <|
 .op none (.agg [.str, (.int .i64), .bool]) [6, 14] (.store 3 (.tmp 6) (.tmp 14)) <|
 .nil))
 (.seq (.seq (.ops (.op (some 15) .any [5] (.mov (.tmp 5)) <|
 .op (some 16) .any [15] (.un .not (.tmp 15)) <|
 .op (some 17) .any [16] (.mov (.tmp 16)) <|
 .grp 17 false (.op (some 18) .any [0, 17] (.mov (.tmp 0)) <|
 .op (some 19) .any [18, 17] (.nilck (.tmp 18)) <|
 .op (some 20) .any [19, 17] (.faddr 0 (.tmp 19)) <|
 .op (some 21) .bool [20, 17] (.call 126 [(.tmp 20), (.con (V.str ⟨1, 40⟩))]) <|
 .op (some 22) .any [21, 17] (.un .not (.tmp 21)) <|
 .nil) 23 [17, 22] (.tmp 17) (.con (V.bool true)) (.tmp 22) <|
 .nil))
 (.cond (.tmp 23) (.seq (.ops (.op (some 24) (.agg [.str, (.int .i64), .bool]) [6] (.load (some 3) (.tmp 6)) <|
 .op (some 25) .any [5] (.mov (.tmp 5)) <|
 .op none (.agg [.str, (.int .i64), .bool]) [2, 24] (.store 3 (.tmp 2) (.tmp 24)) <|
 .op (some 3) .any [25] (.mov (.tmp 25)) <|
 .nil))
 .ret)
 .skip))
 (.seq (.ops (.op (some 26) .any [6] (.faddr 2 (.tmp 6)) <|
 .op none .any [26] (.store 1 (.tmp 26) (.con (V.bool true))) <|
 .nil))
 (.seq (.ops (.op (some 28) .any [0] (.mov (.tmp 0)) <|
 .op (some 29) (.tup [(.int .i64), (.agg [(.int .i64), .str, (.int .i64)]), .bool]) [28] (.call 209 [(.tmp 28)]) <|
 .op (some 27) .any [29] (.mov (.tmp 29)) <|
 .op (some 30) .any [27] (.extract 0 (.tmp 27)) <|
 .op (some 31) .any [27] (.extract 1 (.tmp 27)) <|
 .op (some 32) .any [27] (.extract 2 (.tmp 27)) <|
 .op (some 33) .any [6] (.faddr 1 (.tmp 6)) <|
 .op none .any [33, 30] (.store 1 (.tmp 33) (.tmp 30)) <|
 .op (some 5) .any [32] (.mov (.tmp 32)) <|
 .nil))
 (.seq (.keep [(0, .ptr), (2, .ptr), (5, .bool), (6, .ptr)] [] [] (.gdraw G210_0 H210_0 [(2, .ptr), (3, .bool)]))
 .ret)))))))
def A210 : XFn := ⟨41, [.ptr], [(.cell 2 (some 3)), (.tmp 3)], C210_0⟩
def C213_0 : XC := (.seq (.ops (.op (some 2) .any [0] (.box 121 (.tmp 0)) <|
 .op (some 3) .any [] (.mov (.con (V.bool false))) <|
 .nil))
 (.seq (.ops (.op (some 4) .any [2] (.faddr 2 (.tmp 2)) <|
 .op (some 5) .bool [4] (.load none (.tmp 4)) <|
 .op (some 6) .any [5] (.mov (.tmp 5)) <|
 .grp 6 true (.op (some 7) .any [2, 6] (.faddr 1 (.tmp 2)) <|
 .op (some 8) (.int .i64) [7, 6] (.load none (.tmp 7)) <|
 .op (some 9) (.int .i64) [1, 6] (.load none (.tmp 1)) <|
 .op (some 10) .any [8, 9, 6] (.bin .eql .none (.tmp 8) (.tmp 9)) <|
 .nil) 11 [6, 10] (.tmp 6) (.tmp 10) (.con (V.bool false)) <|
 .op (some 3) .any [11] (.mov (.tmp 11)) <|
 .nil))
 .ret))
def A213 : XFn := ⟨12, [(.agg [.str, (.int .i64), .bool]), .any], [(.tmp 3)], C213_0⟩
end
end Go.Proofs.YthkkkmkcjgaghaaGreatDoor
