/- The code of the functions that are entered. Printed by a program off the dump. -/
import Derived.Test.YtpcnmmbpgeahfaaGreatDoorOgX
import Derived.KernelRfl
set_option linter.all false
set_option maxRecDepth 100000
set_option maxHeartbeats 0
namespace Go.Proofs.YtpcnmmbpgeahfaaGreatDoor
open Go Go.Og
noncomputable section
/-! ### F29: ogham_oghamref05.begins -/
def Fin29 (E : List (Nat × Blk)) : St → Ans := fun s => resK E s [(.tmp 2)] fun l => some (oneV l, s.σ)
def C29_0 (cc1 : XC) (cc2 : XC) : XC := (.seq (.ops (.op (some 1) .any [0] (.box 50 (.tmp 0)) <|
 .op (some 2) .any [] (.mov (.con (V.bool false))) <|
 .nil))
 (.seq (.ops (.op (some 5) .any [] (.buildSlice 9 10 [(V.str ⟨0, 0⟩), (V.str ⟨0, 0⟩), (V.str ⟨0, 0⟩), (V.str ⟨0, 0⟩), (V.str ⟨0, 0⟩), (V.str ⟨0, 0⟩), (V.str ⟨0, 0⟩), (V.str ⟨0, 0⟩), (V.str ⟨0, 0⟩), (V.str ⟨0, 0⟩)] [(0, 1, (.con (V.str ⟨1, 91⟩))), (1, 1, (.con (V.str ⟨7, 22026814072246082⟩))), (2, 1, (.con (V.str ⟨4, 1280070990⟩))), (3, 1, (.con (V.str ⟨10, 488440487847103610377301⟩))), (4, 1, (.con (V.str ⟨7, 23157120498421321⟩))), (5, 1, (.con (V.str ⟨5, 361940403023⟩))), (6, 1, (.con (V.str ⟨10, 322399817400452109389381⟩))), (7, 1, (.con (V.str ⟨3, 5522771⟩))), (8, 1, (.con (V.str ⟨6, 76155295057987⟩))), (9, 1, (.con (V.str ⟨8, 4990918871747741011⟩)))]) <|
 .op (some 3) .any [5] (.mov (.tmp 5)) <|
 .nil))
 (.seq (.seq (.ops (.op (some 4) .any [] (.mov (.con (V.int .i64 (Int.ofNat 0)))) <|
 .nil))
 (.block 0 (.loop [(1, .ptr), (3, .any), (4, (.int .i64))] [] [] cc2)))
 (.keep [(1, .ptr)] [] [] cc1))))
def T29_0 (E : List (Nat × Blk)) (D : Den) (W : DrawFn) (K2 : Nat → Nat → V → Int → H → Ans) (v0_0 : Int) (v0_1 : BS) (v0_2 : Int) (σ : H) : Ans :=
 chk (allOne (V.cells (V.agg [(V.int .i64 v0_0), (V.str v0_1), (V.int .i64 v0_2)]))) (
 let s1 := newB σ (.cells (V.cells (V.agg [(V.int .i64 v0_0), (V.str v0_1), (V.int .i64 v0_2)])));
 let s2 := newB s1 (.cells [(V.str (BS.mk 1 91)), (V.str (BS.mk 7 22026814072246082)), (V.str (BS.mk 4 1280070990)), (V.str (BS.mk 10 488440487847103610377301)), (V.str (BS.mk 7 23157120498421321)), (V.str (BS.mk 5 361940403023)), (V.str (BS.mk 10 322399817400452109389381)), (V.str (BS.mk 3 5522771)), (V.str (BS.mk 6 76155295057987)), (V.str (BS.mk 8 4990918871747741011))]);
 K2 (H.next σ) 0 (V.sl (H.next s1) 0 10 (.ex 10)) (Int.ofNat 0) s2)
def C29_1 : XC := (.seq (.ops (.op (some 29) .any [1] (.faddr 0 (.tmp 1)) <|
 .op (some 30) (.int .i64) [29] (.load none (.tmp 29)) <|
 .op (some 31) .any [30] (.bin .eql .none (.tmp 30) (.con (V.int .i64 (Int.ofNat 1)))) <|
 .op (some 2) .any [31] (.mov (.tmp 31)) <|
 .nil))
 .ret)
def T29_1 (E : List (Nat × Blk)) (D : Den) (W : DrawFn) (v1b : Nat) (v1o : Nat) (σ : H) : Ans :=
 ldK E σ v1b v1o fun u1 =>
 rtInt .i64 u1 fun x2 =>
 some ((V.bool (eqF x2 (Int.ofNat 1))), σ)
def C29_2 : XC := (.seq (.seq (.ops (.op (some 6) .any [4] (.mov (.tmp 4)) <|
 .op (some 7) .any [3] (.mov (.tmp 3)) <|
 .op (some 8) .any [7] (.len false (.tmp 7)) <|
 .op (some 9) .any [6, 8] (.bin .lss .none (.tmp 6) (.tmp 8)) <|
 .nil))
 (.cond (.tmp 9) .skip
 (.exit 0)))
 (.seq (.block 1 (.seq (.draw (.op (some 12) .any [3] (.mov (.tmp 3)) <|
 .op (some 13) .any [4] (.mov (.tmp 4)) <|
 .op (some 14) .any [12, 13] (.iaddrS 1 (.tmp 12) (.tmp 13)) <|
 .op (some 15) .str [14] (.load none (.tmp 14)) <|
 .op (some 16) .any [1] (.faddr 1 (.tmp 1)) <|
 .op (some 17) .str [16] (.load none (.tmp 16)) <|
 .op (some 18) .any [15, 17] (.bin .eql .none (.tmp 15) (.tmp 17)) <|
 .op (some 19) .any [18] (.mov (.tmp 18)) <|
 .grp 19 true (.op (some 20) .any [1, 19] (.faddr 0 (.tmp 1)) <|
 .op (some 21) (.int .i64) [20, 19] (.load none (.tmp 20)) <|
 .op (some 22) .any [21, 19] (.bin .eql .none (.tmp 21) (.con (V.int .i64 (Int.ofNat 5)))) <|
 .op (some 23) .any [22, 19] (.mov (.tmp 22)) <|
 .grp 23 false (.op (some 24) .any [1, 23] (.faddr 0 (.tmp 1)) <|
 .op (some 25) (.int .i64) [24, 23] (.load none (.tmp 24)) <|
 .op (some 26) .any [25, 23] (.bin .eql .none (.tmp 25) (.con (V.int .i64 (Int.ofNat 6)))) <|
 .nil) 27 [23, 26, 19] (.tmp 23) (.con (V.bool true)) (.tmp 26) <|
 .nil) 28 [19, 27] (.tmp 19) (.tmp 27) (.con (V.bool false)) <|
 .nil) [0, 0, 3, 7, 0, 16, 63, 127, 255, 511, 1023, 2047, 4095, 8191, 16383, 32767, 65535])
 (.cond (.tmp 28) (.seq (.ops (.op (some 2) .any [] (.mov (.con (V.bool true))) <|
 .nil))
 .ret)
 .skip)))
 (.ops (.op (some 10) .any [4] (.mov (.tmp 4)) <|
 .op (some 11) .any [10] (.bin .add .none (.tmp 10) (.con (V.int .i64 (Int.ofNat 1)))) <|
 .op (some 4) .any [11] (.mov (.tmp 11)) <|
 .nil))))
def T29_2 (E : List (Nat × Blk)) (D : Den) (W : DrawFn) (K1 : Nat → Nat → H → Ans) (R2 : Nat → Nat → V → Int → H → Ans) (v1b : Nat) (v1o : Nat) (v3 : V) (v4 : Int) (σ : H) : Ans :=
 slenK v3 fun n1 =>
 condK (ltF v4 (Int.ofNat n1)) (
 iaddrSK 1 v3 v4 fun b2 o3 =>
 ldK E σ b2 o3 fun u4 =>
 rtStr u4 fun x5 =>
 ldK E σ v1b (Nat.add v1o 1) fun u6 =>
 rtStr u6 fun x7 =>
 joinB (fun c8 s9 =>
 condK c8 (
 some ((V.bool true), s9)) (
 R2 v1b v1o v3 (addF .i64 v4 (Int.ofNat 1)) s9)) fun k10 =>
 condK (BS.beq x5 x7) (
 ldK E σ v1b v1o fun u11 =>
 rtInt .i64 u11 fun x12 =>
 joinB (fun c13 s14 =>
 k10 c13 s14) fun k15 =>
 condK (eqF x12 (Int.ofNat 5)) (
 k15 true σ) (
 ldK E σ v1b v1o fun u16 =>
 rtInt .i64 u16 fun x17 =>
 k15 (eqF x17 (Int.ofNat 6)) σ)) (
 k10 false σ)) (
 K1 v1b v1o σ)
theorem P29_0 (E : List (Nat × Blk)) (D : Den) (W : DrawFn) (N : Nat) (cc1 : XC) (cc2 : XC) (v0_0 : Int) (v0_1 : BS) (v0_2 : Int) (σ : H) :
  denC E D W N (C29_0 cc1 cc2) ⟨[(0, (V.agg [(V.int .i64 v0_0), (V.str v0_1), (V.int .i64 v0_2)]))], [], [], σ⟩ (Fin29 E) (fun _ _ => none) (Fin29 E) =
  T29_0 E D W (fun v1b v1o v3 v4 σ => iterK (fun rec s' => denC E D W N cc2 s' (fun s'' => keepS [(1, .ptr), (3, .any), (4, (.int .i64))] [] [] s'' rec) (blkK 0 (fun s' => denC E D W N (.keep [(1, .ptr)] [] [] cc1) s' (Fin29 E) (fun _ _ => none) (Fin29 E)) (fun _ _ => none)) (Fin29 E)) N ⟨[(1, (V.ptr v1b v1o)), (3, v3), (4, (V.int .i64 v4))], [], [], σ⟩) v0_0 v0_1 v0_2 σ := by kernel_rfl
theorem P29_1 (E : List (Nat × Blk)) (D : Den) (W : DrawFn) (N : Nat) (v1b : Nat) (v1o : Nat) (σ : H) :
  denC E D W N (C29_1 ) ⟨[(1, (V.ptr v1b v1o))], [], [], σ⟩ (Fin29 E) (fun _ _ => none) (Fin29 E) =
  T29_1 E D W  v1b v1o σ := by kernel_rfl
theorem P29_2 (E : List (Nat × Blk)) (D : Den) (W : DrawFn) (N : Nat) (cc1 : XC) (li2 : St → Ans) (v1b : Nat) (v1o : Nat) (v3 : V) (v4 : Int) (σ : H) :
  denC E D W N (C29_2 ) ⟨[(1, (V.ptr v1b v1o)), (3, v3), (4, (V.int .i64 v4))], [], [], σ⟩ (fun s'' => keepS [(1, .ptr), (3, .any), (4, (.int .i64))] [] [] s'' li2) (blkK 0 (fun s' => denC E D W N (.keep [(1, .ptr)] [] [] cc1) s' (Fin29 E) (fun _ _ => none) (Fin29 E)) (fun _ _ => none)) (Fin29 E) =
  T29_2 E D W (fun v1b v1o σ => denC E D W N cc1 ⟨[(1, (V.ptr v1b v1o))], [], [], σ⟩ (Fin29 E) (fun _ _ => none) (Fin29 E)) (fun v1b v1o v3 v4 σ => li2 ⟨[(1, (V.ptr v1b v1o)), (3, v3), (4, (V.int .i64 v4))], [], [], σ⟩) v1b v1o v3 v4 σ := by kernel_rfl
def J29_1 (E : List (Nat × Blk)) (D : Den) (W : DrawFn) (N : Nat) : Nat → Nat → H → Ans := T29_1 E D W 
theorem JE29_1 (E : List (Nat × Blk)) (D : Den) (W : DrawFn) (N : Nat) (v1b : Nat) (v1o : Nat) (σ : H) :
  denC E D W N C29_1 ⟨[(1, (V.ptr v1b v1o))], [], [], σ⟩ (Fin29 E) (fun _ _ => none) (Fin29 E) = J29_1 E D W N v1b v1o σ := by
  refine (P29_1 E D W N   v1b v1o σ).trans ?_
  kernel_rfl
def L29_2 (E : List (Nat × Blk)) (D : Den) (W : DrawFn) (N : Nat) (n : Nat) : Nat → Nat → V → Int → H → Ans :=
  Nat.rec (fun _ _ _ _ _ => none) (fun _ ih => T29_2 E D W (J29_1 E D W N ) ih) n
theorem LE29_2 (E : List (Nat × Blk)) (D : Den) (W : DrawFn) (N : Nat) (n : Nat) : ∀ (v1b : Nat) (v1o : Nat) (v3 : V) (v4 : Int) (σ : H),
  iterK (fun rec s' => denC E D W N C29_2 s' (fun s'' => keepS [(1, .ptr), (3, .any), (4, (.int .i64))] [] [] s'' rec) (blkK 0 (fun s' => denC E D W N (.keep [(1, .ptr)] [] [] C29_1) s' (Fin29 E) (fun _ _ => none) (Fin29 E)) (fun _ _ => none)) (Fin29 E)) n ⟨[(1, (V.ptr v1b v1o)), (3, v3), (4, (V.int .i64 v4))], [], [], σ⟩ = L29_2 E D W N n v1b v1o v3 v4 σ := by
  induction n with
  | zero => intro v1b v1o v3 v4 σ; rfl
  | succ n ihn =>
    intro v1b v1o v3 v4 σ
    rw [iterK_succ]
    refine (P29_2 E D W N C29_1 (iterK (fun rec s' => denC E D W N C29_2 s' (fun s'' => keepS [(1, .ptr), (3, .any), (4, (.int .i64))] [] [] s'' rec) (blkK 0 (fun s' => denC E D W N (.keep [(1, .ptr)] [] [] C29_1) s' (Fin29 E) (fun _ _ => none) (Fin29 E)) (fun _ _ => none)) (Fin29 E)) n) v1b v1o v3 v4 σ).trans ?_
    simp only [ihn, JE29_1]
    kernel_rfl
def J29_0 (E : List (Nat × Blk)) (D : Den) (W : DrawFn) (N : Nat) : Int → BS → Int → H → Ans := T29_0 E D W (L29_2 E D W N N)
theorem JE29_0 (E : List (Nat × Blk)) (D : Den) (W : DrawFn) (N : Nat) (v0_0 : Int) (v0_1 : BS) (v0_2 : Int) (σ : H) :
  denC E D W N (C29_0 C29_1 C29_2) ⟨[(0, (V.agg [(V.int .i64 v0_0), (V.str v0_1), (V.int .i64 v0_2)]))], [], [], σ⟩ (Fin29 E) (fun _ _ => none) (Fin29 E) = J29_0 E D W N v0_0 v0_1 v0_2 σ := by
  refine (P29_0 E D W N C29_1 C29_2  v0_0 v0_1 v0_2 σ).trans ?_
  simp only [LE29_2]
  kernel_rfl
def F29 (E : List (Nat × Blk)) (D : Den) (W : DrawFn) (N : Nat) (args : List V) (σ : H) : Ans :=
 rtCons args fun x1 l2 =>
 rtAgg x1 fun l3 =>
 rtCons l3 fun x4 l5 =>
 rtInt .i64 x4 fun x6 =>
 rtCons l5 fun x7 l8 =>
 rtStr x7 fun x9 =>
 rtCons l8 fun x10 l11 =>
 rtInt .i64 x10 fun x12 =>
 rtNil l11 (
 rtNil l2 (
 J29_0 E D W N x6 x9 x12 σ))
def A29 : XFn := ⟨32, [(.agg [(.int .i64), .str, (.int .i64)])], [(.tmp 2)], (C29_0 C29_1 C29_2)⟩
theorem FE29 (E : List (Nat × Blk)) (D : Den) (W : DrawFn) (N : Nat) (args : List V) (σ : H) : runX E D W N A29 args σ = F29 E D W N args σ := by
  unfold F29
  simp only [← JE29_0]
  kernel_rfl
theorem AO29 : A29.body.ok = true := by kernel_rfl

/-! ### F31: __ogham_oghamref05.parser_.base -/
def G31_0 : List AOper := [⟨(some 139), .mov (.tmp 1), none⟩, ⟨(some 140), .mov (.tmp 1), none⟩, ⟨(some 141), .faddr 1 (.tmp 6), none⟩, ⟨(some 142), .load none (.tmp 141), none⟩, ⟨(some 143), .nilck (.tmp 139), none⟩, ⟨(some 144), .faddr 0 (.tmp 143), none⟩, ⟨none, .store 1 (.tmp 144) (.con (V.int .i64 (Int.ofNat 11))), none⟩, ⟨(some 145), .nilck (.tmp 140), none⟩, ⟨(some 146), .faddr 1 (.tmp 145), none⟩, ⟨none, .store 1 (.tmp 146) (.tmp 142), none⟩]
def H31_0 : List DP := [⟨0, [1]⟩, ⟨0, [1]⟩, ⟨0, [6]⟩, ⟨4, [141]⟩, ⟨1, [139]⟩, ⟨17, [143]⟩, ⟨49, [144]⟩, ⟨127, [140]⟩, ⟨255, [145]⟩, ⟨511, [146, 142]⟩]
def Fin31 (E : List (Nat × Blk)) : St → Ans := fun s => resK E s [] fun l => some (oneV l, s.σ)
def C31_0 : XC := (.seq (.ops (.op (some 7) .any [0] (.mov (.tmp 0)) <|
 .op (some 8) (.agg [(.int .i64), .str, (.int .i64)]) [7] (.call 15 [(.tmp 7)]) <|
 .op (some 6) .any [] (.alloc 50 [(V.int .i64 (Int.ofNat 0)), (V.str ⟨0, 0⟩), (V.int .i64 (Int.ofNat 0))]) <|
 .op none (.agg [(.int .i64), .str, (.int .i64)]) [6, 8] (.store 3 (.tmp 6) (.tmp 8)) <|
 .nil))
 (.block 0 (.seq (.ops (.op (some 13) .any [0] (.mov (.tmp 0)) <|
 .op (some 14) .any [13] (.nilck (.tmp 13)) <|
 .op (some 15) .any [14] (.faddr 7 (.tmp 14)) <|
 .op (some 16) (.int .i64) [15] (.load none (.tmp 15)) <|
 .op (some 17) .any [16] (.bin .neq .none (.tmp 16) (.con (V.int .i64 (Int.ofNat 0)))) <|
 .op (some 12) .any [17] (.mov (.tmp 17)) <|
 .nil))
 (.cond (.tmp 12) .skip
 (.seq (.ops (.op (some 19) .any [0] (.mov (.tmp 0)) <|
 .op (some 20) .bool [19] (.call 14 [(.tmp 19), (.con (V.str ⟨7, 22026814072246082⟩))]) <|
 .op (some 18) .any [20] (.mov (.tmp 20)) <|
 .nil))
 (.cond (.tmp 18) (.ops (.op (some 21) .any [1] (.mov (.tmp 1)) <|
 .op (some 22) .any [21] (.nilck (.tmp 21)) <|
 .op (some 23) .any [22] (.faddr 0 (.tmp 22)) <|
 .op none .any [23] (.store 1 (.tmp 23) (.con (V.int .i64 (Int.ofNat 1)))) <|
 .nil))
 (.seq (.ops (.op (some 25) .any [0] (.mov (.tmp 0)) <|
 .op (some 26) .bool [25] (.call 14 [(.tmp 25), (.con (V.str ⟨4, 1280070990⟩))]) <|
 .op (some 24) .any [26] (.mov (.tmp 26)) <|
 .nil))
 (.cond (.tmp 24) (.ops (.op (some 27) .any [1] (.mov (.tmp 1)) <|
 .op (some 28) .any [27] (.nilck (.tmp 27)) <|
 .op (some 29) .any [28] (.faddr 0 (.tmp 28)) <|
 .op none .any [29] (.store 1 (.tmp 29) (.con (V.int .i64 (Int.ofNat 4)))) <|
 .nil))
 (.seq (.ops (.op (some 31) .any [0] (.mov (.tmp 0)) <|
 .op (some 32) .bool [31] (.call 14 [(.tmp 31), (.con (V.str ⟨10, 488440487847103610377301⟩))]) <|
 .op (some 30) .any [32] (.mov (.tmp 32)) <|
 .nil))
 (.cond (.tmp 30) (.seq (.ops (.op (some 33) .any [1] (.mov (.tmp 1)) <|
 .op (some 34) .any [33] (.nilck (.tmp 33)) <|
 .op (some 35) .any [34] (.faddr 0 (.tmp 34)) <|
 .op none .any [35] (.store 1 (.tmp 35) (.con (V.int .i64 (Int.ofNat 6)))) <|
 .nil))
 (.ops (.op (some 36) .any [1] (.mov (.tmp 1)) <|
 .op (some 37) .any [0] (.mov (.tmp 0)) <|
 .op (some 38) (.agg [.bool, .bool, .bool, .bool, (.int .i64), (.int .i64)]) [37] (.call 51 [(.tmp 37)]) <|
 .op (some 39) .any [36] (.nilck (.tmp 36)) <|
 .op (some 40) .any [39] (.faddr 5 (.tmp 39)) <|
 .op none (.agg [.bool, .bool, .bool, .bool, (.int .i64), (.int .i64)]) [40, 38] (.store 6 (.tmp 40) (.tmp 38)) <|
 .nil)))
 (.seq (.ops (.op (some 42) .any [0] (.mov (.tmp 0)) <|
 .op (some 43) .bool [42] (.call 14 [(.tmp 42), (.con (V.str ⟨7, 23157120498421321⟩))]) <|
 .op (some 41) .any [43] (.mov (.tmp 43)) <|
 .nil))
 (.cond (.tmp 41) (.seq (.ops (.op (some 44) .any [1] (.mov (.tmp 1)) <|
 .op (some 45) .any [44] (.nilck (.tmp 44)) <|
 .op (some 46) .any [45] (.faddr 0 (.tmp 45)) <|
 .op none .any [46] (.store 1 (.tmp 46) (.con (V.int .i64 (Int.ofNat 2)))) <|
 .nil))
 (.seq (.ops (.op (some 47) .any [0] (.mov (.tmp 0)) <|
 .op (some 48) .bool [47] (.call 14 [(.tmp 47), (.con (V.str ⟨1, 40⟩))]) <|
 .nil))
 (.cond (.tmp 48) (.seq (.ops (.op (some 49) .any [1] (.mov (.tmp 1)) <|
 .op (some 50) .any [0] (.mov (.tmp 0)) <|
 .op (some 51) (.agg [.bool, .bool, .bool, .bool, (.int .i64), (.int .i64)]) [50] (.call 52 [(.tmp 50)]) <|
 .op (some 52) .any [49] (.nilck (.tmp 49)) <|
 .op (some 53) .any [52] (.faddr 5 (.tmp 52)) <|
 .op none (.agg [.bool, .bool, .bool, .bool, (.int .i64), (.int .i64)]) [53, 51] (.store 6 (.tmp 53) (.tmp 51)) <|
 .nil))
 (.ops (.op (some 54) .any [0] (.mov (.tmp 0)) <|
 .op (some 55) (.tup []) [54] (.call 13 [(.tmp 54), (.con (V.str ⟨1, 41⟩))]) <|
 .nil)))
 .skip)))
 (.seq (.ops (.op (some 57) .any [0] (.mov (.tmp 0)) <|
 .op (some 58) .bool [57] (.call 14 [(.tmp 57), (.con (V.str ⟨5, 361940403023⟩))]) <|
 .op (some 56) .any [58] (.mov (.tmp 58)) <|
 .nil))
 (.cond (.tmp 56) (.seq (.ops (.op (some 59) .any [0] (.mov (.tmp 0)) <|
 .op (some 60) (.tup []) [59] (.call 13 [(.tmp 59), (.con (V.str ⟨6, 78401563153491⟩))]) <|
 .nil))
 (.seq (.ops (.op (some 61) .any [1] (.mov (.tmp 1)) <|
 .op (some 62) .any [61] (.nilck (.tmp 61)) <|
 .op (some 63) .any [62] (.faddr 0 (.tmp 62)) <|
 .op none .any [63] (.store 1 (.tmp 63) (.con (V.int .i64 (Int.ofNat 5)))) <|
 .nil))
 (.ops (.op (some 64) .any [1] (.mov (.tmp 1)) <|
 .op (some 65) .any [0] (.mov (.tmp 0)) <|
 .op (some 66) (.agg [.bool, .bool, .bool, .bool, (.int .i64), (.int .i64)]) [65] (.call 51 [(.tmp 65)]) <|
 .op (some 67) .any [64] (.nilck (.tmp 64)) <|
 .op (some 68) .any [67] (.faddr 5 (.tmp 67)) <|
 .op none (.agg [.bool, .bool, .bool, .bool, (.int .i64), (.int .i64)]) [68, 66] (.store 6 (.tmp 68) (.tmp 66)) <|
 .nil))))
 (.seq (.ops (.op (some 70) .any [0] (.mov (.tmp 0)) <|
 .op (some 71) .bool [70] (.call 14 [(.tmp 70), (.con (V.str ⟨10, 322399817400452109389381⟩))]) <|
 .op (some 69) .any [71] (.mov (.tmp 71)) <|
 .nil))
 (.cond (.tmp 69) (.seq (.ops (.op (some 72) .any [1] (.mov (.tmp 1)) <|
 .op (some 73) .any [72] (.nilck (.tmp 72)) <|
 .op (some 74) .any [73] (.faddr 0 (.tmp 73)) <|
 .op none .any [74] (.store 1 (.tmp 74) (.con (V.int .i64 (Int.ofNat 3)))) <|
 .nil))
 (.seq (.ops (.op (some 75) .any [0] (.mov (.tmp 0)) <|
 .op (some 76) (.tup []) [75] (.call 13 [(.tmp 75), (.con (V.str ⟨1, 123⟩))]) <|
 .nil))
 (.seq (.ops (.op (some 77) .any [0] (.mov (.tmp 0)) <|
 .op (some 78) .any [1] (.mov (.tmp 1)) <|
 .op (some 79) (.tup []) [77, 78] (.call 53 [(.tmp 77), (.tmp 78)]) <|
 .nil))
 (.ops (.op (some 80) .any [0] (.mov (.tmp 0)) <|
 .op (some 81) (.tup []) [80] (.call 13 [(.tmp 80), (.con (V.str ⟨1, 125⟩))]) <|
 .nil)))))
 (.seq (.ops (.op (some 83) .any [0] (.mov (.tmp 0)) <|
 .op (some 84) .bool [83] (.call 14 [(.tmp 83), (.con (V.str ⟨3, 5522771⟩))]) <|
 .op (some 82) .any [84] (.mov (.tmp 84)) <|
 .nil))
 (.cond (.tmp 82) (.seq (.ops (.op (some 85) .any [1] (.mov (.tmp 1)) <|
 .op (some 86) .any [85] (.nilck (.tmp 85)) <|
 .op (some 87) .any [86] (.faddr 0 (.tmp 86)) <|
 .op none .any [87] (.store 1 (.tmp 87) (.con (V.int .i64 (Int.ofNat 8)))) <|
 .nil))
 (.seq (.ops (.op (some 88) .any [0] (.mov (.tmp 0)) <|
 .op (some 89) (.tup []) [88] (.call 13 [(.tmp 88), (.con (V.str ⟨1, 123⟩))]) <|
 .nil))
 (.ops (.op (some 90) .any [0] (.mov (.tmp 0)) <|
 .op (some 91) .any [1] (.mov (.tmp 1)) <|
 .op (some 92) .any [2] (.mov (.tmp 2)) <|
 .op (some 93) (.tup []) [90, 91, 92] (.call 54 [(.tmp 90), (.tmp 91), (.tmp 92)]) <|
 .nil))))
 (.seq (.ops (.op (some 95) .any [0] (.mov (.tmp 0)) <|
 .op (some 96) .bool [95] (.call 14 [(.tmp 95), (.con (V.str ⟨6, 76155295057987⟩))]) <|
 .op (some 94) .any [96] (.mov (.tmp 96)) <|
 .nil))
 (.cond (.tmp 94) (.seq (.ops (.op (some 97) .any [1] (.mov (.tmp 1)) <|
 .op (some 98) .any [97] (.nilck (.tmp 97)) <|
 .op (some 99) .any [98] (.faddr 0 (.tmp 98)) <|
 .op none .any [99] (.store 1 (.tmp 99) (.con (V.int .i64 (Int.ofNat 9)))) <|
 .nil))
 (.seq (.ops (.op (some 100) .any [0] (.mov (.tmp 0)) <|
 .op (some 101) (.tup []) [100] (.call 13 [(.tmp 100), (.con (V.str ⟨1, 123⟩))]) <|
 .nil))
 (.ops (.op (some 102) .any [0] (.mov (.tmp 0)) <|
 .op (some 103) .any [1] (.mov (.tmp 1)) <|
 .op (some 104) .any [2] (.mov (.tmp 2)) <|
 .op (some 105) (.tup []) [102, 103, 104] (.call 54 [(.tmp 102), (.tmp 103), (.tmp 104)]) <|
 .nil))))
 (.seq (.ops (.op (some 107) .any [0] (.mov (.tmp 0)) <|
 .op (some 108) .bool [107] (.call 14 [(.tmp 107), (.con (V.str ⟨8, 4990918871747741011⟩))]) <|
 .op (some 106) .any [108] (.mov (.tmp 108)) <|
 .nil))
 (.cond (.tmp 106) (.seq (.seq (.ops (.op (some 109) .any [0] (.mov (.tmp 0)) <|
 .op (some 110) .bool [109] (.call 14 [(.tmp 109), (.con (V.str ⟨1, 123⟩))]) <|
 .nil))
 (.cond (.tmp 110) (.seq (.ops (.op (some 111) .any [1] (.mov (.tmp 1)) <|
 .op (some 112) .any [111] (.nilck (.tmp 111)) <|
 .op (some 113) .any [112] (.faddr 0 (.tmp 112)) <|
 .op none .any [113] (.store 1 (.tmp 113) (.con (V.int .i64 (Int.ofNat 7)))) <|
 .nil))
 (.seq (.ops (.op (some 114) .any [0] (.mov (.tmp 0)) <|
 .op (some 115) .any [1] (.mov (.tmp 1)) <|
 .op (some 116) .any [2] (.mov (.tmp 2)) <|
 .op (some 117) (.tup []) [114, 115, 116] (.call 54 [(.tmp 114), (.tmp 115), (.tmp 116)]) <|
 .nil))
 .ret))
 .skip))
 (.seq (.ops (.op (some 118) .any [1] (.mov (.tmp 1)) <|
 .op (some 119) .any [118] (.nilck (.tmp 118)) <|
 .op (some 120) .any [119] (.faddr 0 (.tmp 119)) <|
 .op none .any [120] (.store 1 (.tmp 120) (.con (V.int .i64 (Int.ofNat 10)))) <|
 .nil))
 (.seq (.ops (.op (some 121) .any [1] (.mov (.tmp 1)) <|
 .op (some 122) .any [0] (.mov (.tmp 0)) <|
 .op (some 123) (.agg [.bool, .bool, .bool, .bool, (.int .i64), (.int .i64)]) [122] (.call 51 [(.tmp 122)]) <|
 .op (some 124) .any [121] (.nilck (.tmp 121)) <|
 .op (some 125) .any [124] (.faddr 5 (.tmp 124)) <|
 .op none (.agg [.bool, .bool, .bool, .bool, (.int .i64), (.int .i64)]) [125, 123] (.store 6 (.tmp 125) (.tmp 123)) <|
 .nil))
 (.seq (.ops (.op (some 126) .any [0] (.mov (.tmp 0)) <|
 .op (some 127) (.tup []) [126] (.call 13 [(.tmp 126), (.con (V.str ⟨2, 17999⟩))]) <|
 .nil))
 (.ops (.op (some 128) .any [1] (.mov (.tmp 1)) <|
 .op (some 129) .any [0] (.mov (.tmp 0)) <|
 .op (some 130) .any [2] (.mov (.tmp 2)) <|
 .op (some 131) .any [130] (.bin .add .none (.tmp 130) (.con (V.int .i64 (Int.ofNat 1)))) <|
 .op (some 132) (.int .i64) [129, 131] (.call 17 [(.tmp 129), (.tmp 131)]) <|
 .op (some 133) .any [128] (.nilck (.tmp 128)) <|
 .op (some 134) .any [133] (.faddr 15 (.tmp 133)) <|
 .op none .any [134, 132] (.store 1 (.tmp 134) (.tmp 132)) <|
 .nil))))))
 (.seq (.ops (.op (some 136) .any [6] (.faddr 0 (.tmp 6)) <|
 .op (some 137) (.int .i64) [136] (.load none (.tmp 136)) <|
 .op (some 138) .any [137] (.bin .eql .none (.tmp 137) (.con (V.int .i64 (Int.ofNat 1)))) <|
 .op (some 135) .any [138] (.mov (.tmp 138)) <|
 .nil))
 (.cond (.tmp 135) (.seq (.keep [(0, .ptr), (1, .ptr), (6, .ptr)] [] [] (.gdraw G31_0 H31_0 [(0, .ptr)]))
 (.ops (.op (some 147) .any [0] (.mov (.tmp 0)) <|
 .op (some 148) (.agg [(.int .i64), .str, (.int .i64)]) [147] (.call 28 [(.tmp 147)]) <|
 .nil)))
 (.ops (.op (some 9) .any [0] (.mov (.tmp 0)) <|
 .op (some 10) (.agg [(.int .i64), .str, (.int .i64)]) [6] (.load (some 3) (.tmp 6)) <|
 .op (some 11) (.tup []) [9, 10] (.call 16 [(.tmp 9), (.con (V.int .i64 (Int.ofNat 7))), (.tmp 10)]) <|
 .nil))))))))))))))))))))))))))
def T31_0 (E : List (Nat × Blk)) (D : Den) (W : DrawFn) (v0b : Nat) (v0o : Nat) (v1b : Nat) (v1o : Nat) (v2 : Int) (σ : H) : Ans :=
 callK (D 15 [(V.ptr v0b v0o)] σ) fun u1 s2 =>
 rtAgg u1 fun l3 =>
 rtCons l3 fun x4 l5 =>
 rtInt .i64 x4 fun x6 =>
 rtCons l5 fun x7 l8 =>
 rtStr x7 fun x9 =>
 rtCons l8 fun x10 l11 =>
 rtInt .i64 x10 fun x12 =>
 rtNil l11 (
 let s13 := newB s2 (.cells [(V.int .i64 (Int.ofNat 0)), (V.str ⟨0, 0⟩), (V.int .i64 (Int.ofNat 0))]);
 stK 3 (H.next s2) 0 (V.agg [(V.int .i64 x6), (V.str x9), (V.int .i64 x12)]) s13 fun s14 =>
 ldK E s14 v0b (Nat.add v0o 7) fun u15 =>
 rtInt .i64 u15 fun x16 =>
 condK (not (eqF x16 (Int.ofNat 0))) (
 some ((V.tup []), s14)) (
 callK (D 14 [(V.ptr v0b v0o), (V.str (BS.mk 7 22026814072246082))] s14) fun u17 s18 =>
 rtBool u17 fun x19 =>
 condK x19 (
 stK 1 v1b v1o (V.int .i64 (Int.ofNat 1)) s18 fun s20 =>
 some ((V.tup []), s20)) (
 callK (D 14 [(V.ptr v0b v0o), (V.str (BS.mk 4 1280070990))] s18) fun u21 s22 =>
 rtBool u21 fun x23 =>
 condK x23 (
 stK 1 v1b v1o (V.int .i64 (Int.ofNat 4)) s22 fun s24 =>
 some ((V.tup []), s24)) (
 callK (D 14 [(V.ptr v0b v0o), (V.str (BS.mk 10 488440487847103610377301))] s22) fun u25 s26 =>
 rtBool u25 fun x27 =>
 condK x27 (
 stK 1 v1b v1o (V.int .i64 (Int.ofNat 6)) s26 fun s28 =>
 callK (D 51 [(V.ptr v0b v0o)] s28) fun u29 s30 =>
 rtAgg u29 fun l31 =>
 rtCons l31 fun x32 l33 =>
 rtBool x32 fun x34 =>
 rtCons l33 fun x35 l36 =>
 rtBool x35 fun x37 =>
 rtCons l36 fun x38 l39 =>
 rtBool x38 fun x40 =>
 rtCons l39 fun x41 l42 =>
 rtBool x41 fun x43 =>
 rtCons l42 fun x44 l45 =>
 rtInt .i64 x44 fun x46 =>
 rtCons l45 fun x47 l48 =>
 rtInt .i64 x47 fun x49 =>
 rtNil l48 (
 stK 6 v1b (Nat.add v1o 5) (V.agg [(V.bool x34), (V.bool x37), (V.bool x40), (V.bool x43), (V.int .i64 x46), (V.int .i64 x49)]) s30 fun s50 =>
 some ((V.tup []), s50))) (
 callK (D 14 [(V.ptr v0b v0o), (V.str (BS.mk 7 23157120498421321))] s26) fun u51 s52 =>
 rtBool u51 fun x53 =>
 condK x53 (
 stK 1 v1b v1o (V.int .i64 (Int.ofNat 2)) s52 fun s54 =>
 callK (D 14 [(V.ptr v0b v0o), (V.str (BS.mk 1 40))] s54) fun u55 s56 =>
 rtBool u55 fun x57 =>
 condK x57 (
 callK (D 52 [(V.ptr v0b v0o)] s56) fun u58 s59 =>
 rtAgg u58 fun l60 =>
 rtCons l60 fun x61 l62 =>
 rtBool x61 fun x63 =>
 rtCons l62 fun x64 l65 =>
 rtBool x64 fun x66 =>
 rtCons l65 fun x67 l68 =>
 rtBool x67 fun x69 =>
 rtCons l68 fun x70 l71 =>
 rtBool x70 fun x72 =>
 rtCons l71 fun x73 l74 =>
 rtInt .i64 x73 fun x75 =>
 rtCons l74 fun x76 l77 =>
 rtInt .i64 x76 fun x78 =>
 rtNil l77 (
 stK 6 v1b (Nat.add v1o 5) (V.agg [(V.bool x63), (V.bool x66), (V.bool x69), (V.bool x72), (V.int .i64 x75), (V.int .i64 x78)]) s59 fun s79 =>
 callK (D 13 [(V.ptr v0b v0o), (V.str (BS.mk 1 41))] s79) fun u80 s81 =>
 rtTup u80 fun l82 =>
 rtNil l82 (
 some ((V.tup []), s81)))) (
 some ((V.tup []), s56))) (
 callK (D 14 [(V.ptr v0b v0o), (V.str (BS.mk 5 361940403023))] s52) fun u83 s84 =>
 rtBool u83 fun x85 =>
 condK x85 (
 callK (D 13 [(V.ptr v0b v0o), (V.str (BS.mk 6 78401563153491))] s84) fun u86 s87 =>
 rtTup u86 fun l88 =>
 rtNil l88 (
 stK 1 v1b v1o (V.int .i64 (Int.ofNat 5)) s87 fun s89 =>
 callK (D 51 [(V.ptr v0b v0o)] s89) fun u90 s91 =>
 rtAgg u90 fun l92 =>
 rtCons l92 fun x93 l94 =>
 rtBool x93 fun x95 =>
 rtCons l94 fun x96 l97 =>
 rtBool x96 fun x98 =>
 rtCons l97 fun x99 l100 =>
 rtBool x99 fun x101 =>
 rtCons l100 fun x102 l103 =>
 rtBool x102 fun x104 =>
 rtCons l103 fun x105 l106 =>
 rtInt .i64 x105 fun x107 =>
 rtCons l106 fun x108 l109 =>
 rtInt .i64 x108 fun x110 =>
 rtNil l109 (
 stK 6 v1b (Nat.add v1o 5) (V.agg [(V.bool x95), (V.bool x98), (V.bool x101), (V.bool x104), (V.int .i64 x107), (V.int .i64 x110)]) s91 fun s111 =>
 some ((V.tup []), s111)))) (
 callK (D 14 [(V.ptr v0b v0o), (V.str (BS.mk 10 322399817400452109389381))] s84) fun u112 s113 =>
 rtBool u112 fun x114 =>
 condK x114 (
 stK 1 v1b v1o (V.int .i64 (Int.ofNat 3)) s113 fun s115 =>
 callK (D 13 [(V.ptr v0b v0o), (V.str (BS.mk 1 123))] s115) fun u116 s117 =>
 rtTup u116 fun l118 =>
 rtNil l118 (
 callK (D 53 [(V.ptr v0b v0o), (V.ptr v1b v1o)] s117) fun u119 s120 =>
 rtTup u119 fun l121 =>
 rtNil l121 (
 callK (D 13 [(V.ptr v0b v0o), (V.str (BS.mk 1 125))] s120) fun u122 s123 =>
 rtTup u122 fun l124 =>
 rtNil l124 (
 some ((V.tup []), s123))))) (
 callK (D 14 [(V.ptr v0b v0o), (V.str (BS.mk 3 5522771))] s113) fun u125 s126 =>
 rtBool u125 fun x127 =>
 condK x127 (
 stK 1 v1b v1o (V.int .i64 (Int.ofNat 8)) s126 fun s128 =>
 callK (D 13 [(V.ptr v0b v0o), (V.str (BS.mk 1 123))] s128) fun u129 s130 =>
 rtTup u129 fun l131 =>
 rtNil l131 (
 callK (D 54 [(V.ptr v0b v0o), (V.ptr v1b v1o), (V.int .i64 v2)] s130) fun u132 s133 =>
 rtTup u132 fun l134 =>
 rtNil l134 (
 some ((V.tup []), s133)))) (
 callK (D 14 [(V.ptr v0b v0o), (V.str (BS.mk 6 76155295057987))] s126) fun u135 s136 =>
 rtBool u135 fun x137 =>
 condK x137 (
 stK 1 v1b v1o (V.int .i64 (Int.ofNat 9)) s136 fun s138 =>
 callK (D 13 [(V.ptr v0b v0o), (V.str (BS.mk 1 123))] s138) fun u139 s140 =>
 rtTup u139 fun l141 =>
 rtNil l141 (
 callK (D 54 [(V.ptr v0b v0o), (V.ptr v1b v1o), (V.int .i64 v2)] s140) fun u142 s143 =>
 rtTup u142 fun l144 =>
 rtNil l144 (
 some ((V.tup []), s143)))) (
 callK (D 14 [(V.ptr v0b v0o), (V.str (BS.mk 8 4990918871747741011))] s136) fun u145 s146 =>
 rtBool u145 fun x147 =>
 condK x147 (
 callK (D 14 [(V.ptr v0b v0o), (V.str (BS.mk 1 123))] s146) fun u148 s149 =>
 rtBool u148 fun x150 =>
 condK x150 (
 stK 1 v1b v1o (V.int .i64 (Int.ofNat 7)) s149 fun s151 =>
 callK (D 54 [(V.ptr v0b v0o), (V.ptr v1b v1o), (V.int .i64 v2)] s151) fun u152 s153 =>
 rtTup u152 fun l154 =>
 rtNil l154 (
 some ((V.tup []), s153))) (
 stK 1 v1b v1o (V.int .i64 (Int.ofNat 10)) s149 fun s155 =>
 callK (D 51 [(V.ptr v0b v0o)] s155) fun u156 s157 =>
 rtAgg u156 fun l158 =>
 rtCons l158 fun x159 l160 =>
 rtBool x159 fun x161 =>
 rtCons l160 fun x162 l163 =>
 rtBool x162 fun x164 =>
 rtCons l163 fun x165 l166 =>
 rtBool x165 fun x167 =>
 rtCons l166 fun x168 l169 =>
 rtBool x168 fun x170 =>
 rtCons l169 fun x171 l172 =>
 rtInt .i64 x171 fun x173 =>
 rtCons l172 fun x174 l175 =>
 rtInt .i64 x174 fun x176 =>
 rtNil l175 (
 stK 6 v1b (Nat.add v1o 5) (V.agg [(V.bool x161), (V.bool x164), (V.bool x167), (V.bool x170), (V.int .i64 x173), (V.int .i64 x176)]) s157 fun s177 =>
 callK (D 13 [(V.ptr v0b v0o), (V.str (BS.mk 2 17999))] s177) fun u178 s179 =>
 rtTup u178 fun l180 =>
 rtNil l180 (
 callK (D 17 [(V.ptr v0b v0o), (V.int .i64 (addF .i64 v2 (Int.ofNat 1)))] s179) fun u181 s182 =>
 rtInt .i64 u181 fun x183 =>
 stK 1 v1b (Nat.add v1o 15) (V.int .i64 x183) s182 fun s184 =>
 some ((V.tup []), s184))))) (
 ldK E s146 (H.next s2) 0 fun u185 =>
 rtInt .i64 u185 fun x186 =>
 condK (eqF x186 (Int.ofNat 1)) (
 gdrawK (W G31_0 H31_0 [(0, (V.ptr v0b v0o)), (1, (V.ptr v1b v1o)), (6, (V.ptr (H.next s2) 0))] s146) fun e187 s188 =>
 getL e187 0 fun u189 =>
 rtPtr u189 fun b190 o191 =>
 callK (D 28 [(V.ptr b190 o191)] s188) fun u192 s193 =>
 rtAgg u192 fun l194 =>
 rtCons l194 fun x195 l196 =>
 rtInt .i64 x195 fun x197 =>
 rtCons l196 fun x198 l199 =>
 rtStr x198 fun x200 =>
 rtCons l199 fun x201 l202 =>
 rtInt .i64 x201 fun x203 =>
 rtNil l202 (
 some ((V.tup []), s193))) (
 ldnK E s146 (H.next s2) 0 3 fun l204 =>
 rtCons l204 fun x205 l206 =>
 rtInt .i64 x205 fun x207 =>
 rtCons l206 fun x208 l209 =>
 rtStr x208 fun x210 =>
 rtCons l209 fun x211 l212 =>
 rtInt .i64 x211 fun x213 =>
 rtNil l212 (
 callK (D 16 [(V.ptr v0b v0o), (V.int .i64 (Int.ofNat 7)), (V.agg [(V.int .i64 x207), (V.str x210), (V.int .i64 x213)])] s146) fun u214 s215 =>
 rtTup u214 fun l216 =>
 rtNil l216 (
 some ((V.tup []), s215)))))))))))))))
theorem P31_0 (E : List (Nat × Blk)) (D : Den) (W : DrawFn) (N : Nat) (v0b : Nat) (v0o : Nat) (v1b : Nat) (v1o : Nat) (v2 : Int) (σ : H) :
  denC E D W N (C31_0 ) ⟨[(0, (V.ptr v0b v0o)), (1, (V.ptr v1b v1o)), (2, (V.int .i64 v2))], [], [], σ⟩ (Fin31 E) (fun _ _ => none) (Fin31 E) =
  T31_0 E D W  v0b v0o v1b v1o v2 σ := by kernel_rfl
def J31_0 (E : List (Nat × Blk)) (D : Den) (W : DrawFn) (N : Nat) : Nat → Nat → Nat → Nat → Int → H → Ans := T31_0 E D W 
theorem JE31_0 (E : List (Nat × Blk)) (D : Den) (W : DrawFn) (N : Nat) (v0b : Nat) (v0o : Nat) (v1b : Nat) (v1o : Nat) (v2 : Int) (σ : H) :
  denC E D W N C31_0 ⟨[(0, (V.ptr v0b v0o)), (1, (V.ptr v1b v1o)), (2, (V.int .i64 v2))], [], [], σ⟩ (Fin31 E) (fun _ _ => none) (Fin31 E) = J31_0 E D W N v0b v0o v1b v1o v2 σ := by
  refine (P31_0 E D W N   v0b v0o v1b v1o v2 σ).trans ?_
  kernel_rfl
def F31 (E : List (Nat × Blk)) (D : Den) (W : DrawFn) (N : Nat) (args : List V) (σ : H) : Ans :=
 rtCons args fun x1 l2 =>
 rtPtr x1 fun b3 o4 =>
 rtCons l2 fun x5 l6 =>
 rtPtr x5 fun b7 o8 =>
 rtCons l6 fun x9 l10 =>
 rtInt .i64 x9 fun x11 =>
 rtNil l10 (
 J31_0 E D W N b3 o4 b7 o8 x11 σ)
def A31 : XFn := ⟨149, [.ptr, .ptr, (.int .i64)], [], C31_0⟩
theorem FE31 (E : List (Nat × Blk)) (D : Den) (W : DrawFn) (N : Nat) (args : List V) (σ : H) : runX E D W N A31 args σ = F31 E D W N args σ := by
  unfold F31
  simp only [← JE31_0]
  kernel_rfl
theorem AO31 : A31.body.ok = true := by kernel_rfl

/-! ### F32: __ogham_print.printer_.mark -/
def Fin32 (E : List (Nat × Blk)) : St → Ans := fun s => resK E s [] fun l => some (oneV l, s.σ)
def C32_0 : XC := (.seq (.ops (.op (some 3) .any [1] (.box 66 (.tmp 1)) <|
 .nil))
 (.seq (.seq (.ops (.op (some 4) .any [3] (.faddr 0 (.tmp 3)) <|
 .op (some 5) .bool [4] (.load none (.tmp 4)) <|
 .op (some 6) .any [5] (.un .not (.tmp 5)) <|
 .nil))
 (.cond (.tmp 6) .ret
 .skip))
 (.seq (.ops (.op (some 7) .any [0] (.mov (.tmp 0)) <|
 .op (some 8) .any [7] (.nilck (.tmp 7)) <|
 .op (some 9) .any [8] (.faddr 0 (.tmp 8)) <|
 .op (some 10) .any [] (.buildSlice 9 1 [(V.str ⟨0, 0⟩)] [(0, 1, (.con (V.str ⟨1, 91⟩)))]) <|
 .op (some 11) (.tup []) [9, 10] (.call 19 [(.tmp 9), (.tmp 10)]) <|
 .nil))
 (.seq (.draw (.op (some 12) .any [0] (.mov (.tmp 0)) <|
 .op (some 13) .any [12] (.nilck (.tmp 12)) <|
 .op (some 14) .any [13] (.faddr 0 (.tmp 13)) <|
 .op (some 15) .any [3] (.faddr 1 (.tmp 3)) <|
 .op (some 16) (.int .i64) [15] (.load none (.tmp 15)) <|
 .op (some 17) (.tup []) [14, 16] (.call 55 [(.tmp 14), (.tmp 16)]) <|
 .nil) [0, 1, 3, 0, 8, 31])
 (.seq (.ops (.op (some 18) .any [0] (.mov (.tmp 0)) <|
 .op (some 19) .any [18] (.nilck (.tmp 18)) <|
 .op (some 20) .any [19] (.faddr 0 (.tmp 19)) <|
 .op (some 21) .any [] (.buildSlice 9 1 [(V.str ⟨0, 0⟩)] [(0, 1, (.con (V.str ⟨2, 8285⟩)))]) <|
 .op (some 22) (.tup []) [20, 21] (.call 19 [(.tmp 20), (.tmp 21)]) <|
 .nil))
 (.seq (.ops (.op (some 23) .any [3] (.faddr 2 (.tmp 3)) <|
 .op (some 24) (.int .i64) [23] (.load none (.tmp 23)) <|
 .nil))
 (.block 0 (.seq (.ops (.op (some 26) .any [24] (.bin .eql .none (.tmp 24) (.con (V.int .i64 (Int.ofNat 1)))) <|
 .op (some 25) .any [26] (.mov (.tmp 26)) <|
 .nil))
 (.cond (.tmp 25) (.ops (.op (some 27) .any [0] (.mov (.tmp 0)) <|
 .op (some 28) .any [27] (.nilck (.tmp 27)) <|
 .op (some 29) .any [28] (.faddr 0 (.tmp 28)) <|
 .op (some 30) .any [] (.buildSlice 9 1 [(V.str ⟨0, 0⟩)] [(0, 1, (.con (V.str ⟨9, 596369269913283483717⟩)))]) <|
 .op (some 31) (.tup []) [29, 30] (.call 19 [(.tmp 29), (.tmp 30)]) <|
 .nil))
 (.seq (.ops (.op (some 33) .any [24] (.bin .eql .none (.tmp 24) (.con (V.int .i64 (Int.ofNat 2)))) <|
 .op (some 32) .any [33] (.mov (.tmp 33)) <|
 .nil))
 (.cond (.tmp 32) (.ops (.op (some 34) .any [0] (.mov (.tmp 0)) <|
 .op (some 35) .any [34] (.nilck (.tmp 34)) <|
 .op (some 36) .any [35] (.faddr 0 (.tmp 35)) <|
 .op (some 37) .any [] (.buildSlice 9 1 [(V.str ⟨0, 0⟩)] [(0, 1, (.con (V.str ⟨9, 596369269913283480905⟩)))]) <|
 .op (some 38) (.tup []) [36, 37] (.call 19 [(.tmp 36), (.tmp 37)]) <|
 .nil))
 .skip)))))))))))
def T32_0 (E : List (Nat × Blk)) (D : Den) (W : DrawFn) (v0b : Nat) (v0o : Nat) (v1_0 : Bool) (v1_1 : Int) (v1_2 : Int) (σ : H) : Ans :=
 chk (allOne (V.cells (V.agg [(V.bool v1_0), (V.int .i64 v1_1), (V.int .i64 v1_2)]))) (
 let s1 := newB σ (.cells (V.cells (V.agg [(V.bool v1_0), (V.int .i64 v1_1), (V.int .i64 v1_2)])));
 ldK E s1 (H.next σ) 0 fun u2 =>
 rtBool u2 fun x3 =>
 condK (not x3) (
 some ((V.tup []), s1)) (
 let s4 := newB s1 (.cells [(V.str (BS.mk 1 91))]);
 callK (D 19 [(V.ptr v0b v0o), (V.sl (H.next s1) 0 1 (.ex 1))] s4) fun u5 s6 =>
 rtTup u5 fun l7 =>
 rtNil l7 (
 ldK E s6 (H.next σ) 1 fun u8 =>
 rtInt .i64 u8 fun x9 =>
 callK (D 55 [(V.ptr v0b v0o), (V.int .i64 x9)] s6) fun u10 s11 =>
 rtTup u10 fun l12 =>
 rtNil l12 (
 let s13 := newB s11 (.cells [(V.str (BS.mk 2 8285))]);
 callK (D 19 [(V.ptr v0b v0o), (V.sl (H.next s11) 0 1 (.ex 1))] s13) fun u14 s15 =>
 rtTup u14 fun l16 =>
 rtNil l16 (
 ldK E s15 (H.next σ) 2 fun u17 =>
 rtInt .i64 u17 fun x18 =>
 condK (eqF x18 (Int.ofNat 1)) (
 let s19 := newB s15 (.cells [(V.str (BS.mk 9 596369269913283483717))]);
 callK (D 19 [(V.ptr v0b v0o), (V.sl (H.next s15) 0 1 (.ex 1))] s19) fun u20 s21 =>
 rtTup u20 fun l22 =>
 rtNil l22 (
 some ((V.tup []), s21))) (
 condK (eqF x18 (Int.ofNat 2)) (
 let s23 := newB s15 (.cells [(V.str (BS.mk 9 596369269913283480905))]);
 callK (D 19 [(V.ptr v0b v0o), (V.sl (H.next s15) 0 1 (.ex 1))] s23) fun u24 s25 =>
 rtTup u24 fun l26 =>
 rtNil l26 (
 some ((V.tup []), s25))) (
 some ((V.tup []), s15))))))))
theorem P32_0 (E : List (Nat × Blk)) (D : Den) (W : DrawFn) (N : Nat) (v0b : Nat) (v0o : Nat) (v1_0 : Bool) (v1_1 : Int) (v1_2 : Int) (σ : H) :
  denC E D W N (C32_0 ) ⟨[(0, (V.ptr v0b v0o)), (1, (V.agg [(V.bool v1_0), (V.int .i64 v1_1), (V.int .i64 v1_2)]))], [], [], σ⟩ (Fin32 E) (fun _ _ => none) (Fin32 E) =
  T32_0 E D W  v0b v0o v1_0 v1_1 v1_2 σ := by kernel_rfl
def J32_0 (E : List (Nat × Blk)) (D : Den) (W : DrawFn) (N : Nat) : Nat → Nat → Bool → Int → Int → H → Ans := T32_0 E D W 
theorem JE32_0 (E : List (Nat × Blk)) (D : Den) (W : DrawFn) (N : Nat) (v0b : Nat) (v0o : Nat) (v1_0 : Bool) (v1_1 : Int) (v1_2 : Int) (σ : H) :
  denC E D W N C32_0 ⟨[(0, (V.ptr v0b v0o)), (1, (V.agg [(V.bool v1_0), (V.int .i64 v1_1), (V.int .i64 v1_2)]))], [], [], σ⟩ (Fin32 E) (fun _ _ => none) (Fin32 E) = J32_0 E D W N v0b v0o v1_0 v1_1 v1_2 σ := by
  refine (P32_0 E D W N   v0b v0o v1_0 v1_1 v1_2 σ).trans ?_
  kernel_rfl
def F32 (E : List (Nat × Blk)) (D : Den) (W : DrawFn) (N : Nat) (args : List V) (σ : H) : Ans :=
 rtCons args fun x1 l2 =>
 rtPtr x1 fun b3 o4 =>
 rtCons l2 fun x5 l6 =>
 rtAgg x5 fun l7 =>
 rtCons l7 fun x8 l9 =>
 rtBool x8 fun x10 =>
 rtCons l9 fun x11 l12 =>
 rtInt .i64 x11 fun x13 =>
 rtCons l12 fun x14 l15 =>
 rtInt .i64 x14 fun x16 =>
 rtNil l15 (
 rtNil l6 (
 J32_0 E D W N b3 o4 x10 x13 x16 σ))
def A32 : XFn := ⟨39, [.ptr, (.agg [.bool, (.int .i64), (.int .i64)])], [], C32_0⟩
theorem FE32 (E : List (Nat × Blk)) (D : Den) (W : DrawFn) (N : Nat) (args : List V) (σ : H) : runX E D W N A32 args σ = F32 E D W N args σ := by
  unfold F32
  simp only [← JE32_0]
  kernel_rfl
theorem AO32 : A32.body.ok = true := by kernel_rfl

/-! ### F35: __ogham_print.printer_.braced -/
def Fin35 (E : List (Nat × Blk)) : St → Ans := fun s => resK E s [] fun l => some (oneV l, s.σ)
def C35_0 : XC := (.seq (.ops (.op (some 6) .any [2] (.box 72 (.tmp 2)) <|
 .nil))
 (.seq (.seq (.ops (.op (some 8) .any [6] (.faddr 12 (.tmp 6)) <|
 .op (some 9) .any [8] (.load none (.tmp 8)) <|
 .op (some 10) .any [9] (.len false (.tmp 9)) <|
 .op (some 11) .any [10] (.bin .eql .none (.tmp 10) (.con (V.int .i64 (Int.ofNat 0)))) <|
 .op (some 12) .any [11] (.mov (.tmp 11)) <|
 .grp 12 true (.op (some 13) .any [6, 12] (.faddr 14 (.tmp 6)) <|
 .op (some 14) .bool [13, 12] (.load none (.tmp 13)) <|
 .op (some 15) .any [14, 12] (.un .not (.tmp 14)) <|
 .op (some 16) .any [15, 12] (.mov (.tmp 15)) <|
 .grp 16 false (.op (some 17) .any [6, 16] (.faddr 13 (.tmp 6)) <|
 .op (some 18) (.int .i64) [17, 16] (.load none (.tmp 17)) <|
 .op (some 19) .any [18, 16] (.bin .neq .none (.tmp 18) (.con (V.int .i64 (Int.ofNat 0)))) <|
 .nil) 20 [16, 19, 12] (.tmp 16) (.con (V.bool true)) (.tmp 19) <|
 .nil) 21 [12, 20] (.tmp 12) (.tmp 20) (.con (V.bool false)) <|
 .nil))
 (.cond (.tmp 21) (.seq (.ops (.op (some 22) .any [0] (.mov (.tmp 0)) <|
 .op (some 23) .any [22] (.nilck (.tmp 22)) <|
 .op (some 24) .any [23] (.faddr 0 (.tmp 23)) <|
 .op (some 25) .any [1] (.mov (.tmp 1)) <|
 .op (some 26) .any [25] (.buildSlice 9 2 [(V.str ⟨0, 0⟩), (V.str ⟨0, 0⟩)] [(0, 1, (.tmp 25)), (1, 1, (.con (V.str ⟨3, 8223520⟩)))]) <|
 .op (some 27) (.tup []) [24, 26] (.call 19 [(.tmp 24), (.tmp 26)]) <|
 .nil))
 .ret)
 .skip))
 (.seq (.ops (.op (some 28) .any [0] (.mov (.tmp 0)) <|
 .op (some 29) .any [28] (.nilck (.tmp 28)) <|
 .op (some 30) .any [29] (.faddr 0 (.tmp 29)) <|
 .op (some 31) .any [1] (.mov (.tmp 1)) <|
 .op (some 32) .any [31] (.buildSlice 9 2 [(V.str ⟨0, 0⟩), (V.str ⟨0, 0⟩)] [(0, 1, (.tmp 31)), (1, 1, (.con (V.str ⟨3, 2128672⟩)))]) <|
 .op (some 33) (.tup []) [30, 32] (.call 19 [(.tmp 30), (.tmp 32)]) <|
 .nil))
 (.seq (.ops (.op (some 34) .any [0] (.mov (.tmp 0)) <|
 .op (some 35) (.agg [(.int .i64), .str, .bool, (.int .i64), (.int .i64), .bool, .bool, .bool, .bool, (.int .i64), (.int .i64), .any, .any, (.int .i64), .bool, (.int .i64)]) [6] (.load (some 16) (.tmp 6)) <|
 .op (some 36) .any [3] (.mov (.tmp 3)) <|
 .op (some 37) (.tup []) [34, 35, 36] (.call 59 [(.tmp 34), (.tmp 35), (.tmp 36)]) <|
 .nil))
 (.ops (.op (some 38) .any [0] (.mov (.tmp 0)) <|
 .op (some 39) .any [38] (.nilck (.tmp 38)) <|
 .op (some 40) .any [39] (.faddr 0 (.tmp 39)) <|
 .op (some 41) .any [] (.buildSlice 9 1 [(V.str ⟨0, 0⟩)] [(0, 1, (.con (V.str ⟨2, 32032⟩)))]) <|
 .op (some 42) (.tup []) [40, 41] (.call 19 [(.tmp 40), (.tmp 41)]) <|
 .nil))))))
def T35_0 (E : List (Nat × Blk)) (D : Den) (W : DrawFn) (v0b : Nat) (v0o : Nat) (v1 : BS) (v2_0 : Int) (v2_1 : BS) (v2_2 : Bool) (v2_3 : Int) (v2_4 : Int) (v2_5 : Bool) (v2_6 : Bool) (v2_7 : Bool) (v2_8 : Bool) (v2_9 : Int) (v2_10 : Int) (v2_11 : V) (v2_12 : V) (v2_13 : Int) (v2_14 : Bool) (v2_15 : Int) (v3 : Int) (σ : H) : Ans :=
 chk (allOne (V.cells (V.agg [(V.int .i64 v2_0), (V.str v2_1), (V.bool v2_2), (V.int .i64 v2_3), (V.int .i64 v2_4), (V.bool v2_5), (V.bool v2_6), (V.bool v2_7), (V.bool v2_8), (V.int .i64 v2_9), (V.int .i64 v2_10), v2_11, v2_12, (V.int .i64 v2_13), (V.bool v2_14), (V.int .i64 v2_15)]))) (
 let s1 := newB σ (.cells (V.cells (V.agg [(V.int .i64 v2_0), (V.str v2_1), (V.bool v2_2), (V.int .i64 v2_3), (V.int .i64 v2_4), (V.bool v2_5), (V.bool v2_6), (V.bool v2_7), (V.bool v2_8), (V.int .i64 v2_9), (V.int .i64 v2_10), v2_11, v2_12, (V.int .i64 v2_13), (V.bool v2_14), (V.int .i64 v2_15)])));
 ldK E s1 (H.next σ) 12 fun u2 =>
 slenK u2 fun n3 =>
 joinB (fun c4 s5 =>
 condK c4 (
 let s7 := newB s5 (.cells [(V.str v1), (V.str (BS.mk 3 8223520))]);
 callK (D 19 [(V.ptr v0b v0o), (V.sl (H.next s5) 0 2 (.ex 2))] s7) fun u8 s9 =>
 rtTup u8 fun l10 =>
 rtNil l10 (
 some ((V.tup []), s9))) (
 let s11 := newB s5 (.cells [(V.str v1), (V.str (BS.mk 3 2128672))]);
 callK (D 19 [(V.ptr v0b v0o), (V.sl (H.next s5) 0 2 (.ex 2))] s11) fun u12 s13 =>
 rtTup u12 fun l14 =>
 rtNil l14 (
 ldnK E s13 (H.next σ) 0 16 fun l15 =>
 rtCons l15 fun x16 l17 =>
 rtInt .i64 x16 fun x18 =>
 rtCons l17 fun x19 l20 =>
 rtStr x19 fun x21 =>
 rtCons l20 fun x22 l23 =>
 rtBool x22 fun x24 =>
 rtCons l23 fun x25 l26 =>
 rtInt .i64 x25 fun x27 =>
 rtCons l26 fun x28 l29 =>
 rtInt .i64 x28 fun x30 =>
 rtCons l29 fun x31 l32 =>
 rtBool x31 fun x33 =>
 rtCons l32 fun x34 l35 =>
 rtBool x34 fun x36 =>
 rtCons l35 fun x37 l38 =>
 rtBool x37 fun x39 =>
 rtCons l38 fun x40 l41 =>
 rtBool x40 fun x42 =>
 rtCons l41 fun x43 l44 =>
 rtInt .i64 x43 fun x45 =>
 rtCons l44 fun x46 l47 =>
 rtInt .i64 x46 fun x48 =>
 rtCons l47 fun x49 l50 =>
 rtCons l50 fun x51 l52 =>
 rtCons l52 fun x53 l54 =>
 rtInt .i64 x53 fun x55 =>
 rtCons l54 fun x56 l57 =>
 rtBool x56 fun x58 =>
 rtCons l57 fun x59 l60 =>
 rtInt .i64 x59 fun x61 =>
 rtNil l60 (
 callK (D 59 [(V.ptr v0b v0o), (V.agg [(V.int .i64 x18), (V.str x21), (V.bool x24), (V.int .i64 x27), (V.int .i64 x30), (V.bool x33), (V.bool x36), (V.bool x39), (V.bool x42), (V.int .i64 x45), (V.int .i64 x48), x49, x51, (V.int .i64 x55), (V.bool x58), (V.int .i64 x61)]), (V.int .i64 v3)] s13) fun u62 s63 =>
 rtTup u62 fun l64 =>
 rtNil l64 (
 let s65 := newB s63 (.cells [(V.str (BS.mk 2 32032))]);
 callK (D 19 [(V.ptr v0b v0o), (V.sl (H.next s63) 0 1 (.ex 1))] s65) fun u66 s67 =>
 rtTup u66 fun l68 =>
 rtNil l68 (
 some ((V.tup []), s67))))))) fun k6 =>
 condK (eqF (Int.ofNat n3) (Int.ofNat 0)) (
 ldK E s1 (H.next σ) 14 fun u69 =>
 rtBool u69 fun x70 =>
 joinB (fun c71 s72 =>
 k6 c71 s72) fun k73 =>
 condK (not x70) (
 k73 true s1) (
 ldK E s1 (H.next σ) 13 fun u74 =>
 rtInt .i64 u74 fun x75 =>
 k73 (not (eqF x75 (Int.ofNat 0))) s1)) (
 k6 false s1))
theorem P35_0 (E : List (Nat × Blk)) (D : Den) (W : DrawFn) (N : Nat) (v0b : Nat) (v0o : Nat) (v1 : BS) (v2_0 : Int) (v2_1 : BS) (v2_2 : Bool) (v2_3 : Int) (v2_4 : Int) (v2_5 : Bool) (v2_6 : Bool) (v2_7 : Bool) (v2_8 : Bool) (v2_9 : Int) (v2_10 : Int) (v2_11 : V) (v2_12 : V) (v2_13 : Int) (v2_14 : Bool) (v2_15 : Int) (v3 : Int) (σ : H) :
  denC E D W N (C35_0 ) ⟨[(0, (V.ptr v0b v0o)), (1, (V.str v1)), (2, (V.agg [(V.int .i64 v2_0), (V.str v2_1), (V.bool v2_2), (V.int .i64 v2_3), (V.int .i64 v2_4), (V.bool v2_5), (V.bool v2_6), (V.bool v2_7), (V.bool v2_8), (V.int .i64 v2_9), (V.int .i64 v2_10), v2_11, v2_12, (V.int .i64 v2_13), (V.bool v2_14), (V.int .i64 v2_15)])), (3, (V.int .i64 v3))], [], [], σ⟩ (Fin35 E) (fun _ _ => none) (Fin35 E) =
  T35_0 E D W  v0b v0o v1 v2_0 v2_1 v2_2 v2_3 v2_4 v2_5 v2_6 v2_7 v2_8 v2_9 v2_10 v2_11 v2_12 v2_13 v2_14 v2_15 v3 σ := by kernel_rfl
def J35_0 (E : List (Nat × Blk)) (D : Den) (W : DrawFn) (N : Nat) : Nat → Nat → BS → Int → BS → Bool → Int → Int → Bool → Bool → Bool → Bool → Int → Int → V → V → Int → Bool → Int → Int → H → Ans := T35_0 E D W 
theorem JE35_0 (E : List (Nat × Blk)) (D : Den) (W : DrawFn) (N : Nat) (v0b : Nat) (v0o : Nat) (v1 : BS) (v2_0 : Int) (v2_1 : BS) (v2_2 : Bool) (v2_3 : Int) (v2_4 : Int) (v2_5 : Bool) (v2_6 : Bool) (v2_7 : Bool) (v2_8 : Bool) (v2_9 : Int) (v2_10 : Int) (v2_11 : V) (v2_12 : V) (v2_13 : Int) (v2_14 : Bool) (v2_15 : Int) (v3 : Int) (σ : H) :
  denC E D W N C35_0 ⟨[(0, (V.ptr v0b v0o)), (1, (V.str v1)), (2, (V.agg [(V.int .i64 v2_0), (V.str v2_1), (V.bool v2_2), (V.int .i64 v2_3), (V.int .i64 v2_4), (V.bool v2_5), (V.bool v2_6), (V.bool v2_7), (V.bool v2_8), (V.int .i64 v2_9), (V.int .i64 v2_10), v2_11, v2_12, (V.int .i64 v2_13), (V.bool v2_14), (V.int .i64 v2_15)])), (3, (V.int .i64 v3))], [], [], σ⟩ (Fin35 E) (fun _ _ => none) (Fin35 E) = J35_0 E D W N v0b v0o v1 v2_0 v2_1 v2_2 v2_3 v2_4 v2_5 v2_6 v2_7 v2_8 v2_9 v2_10 v2_11 v2_12 v2_13 v2_14 v2_15 v3 σ := by
  refine (P35_0 E D W N   v0b v0o v1 v2_0 v2_1 v2_2 v2_3 v2_4 v2_5 v2_6 v2_7 v2_8 v2_9 v2_10 v2_11 v2_12 v2_13 v2_14 v2_15 v3 σ).trans ?_
  kernel_rfl
def F35 (E : List (Nat × Blk)) (D : Den) (W : DrawFn) (N : Nat) (args : List V) (σ : H) : Ans :=
 rtCons args fun x1 l2 =>
 rtPtr x1 fun b3 o4 =>
 rtCons l2 fun x5 l6 =>
 rtStr x5 fun x7 =>
 rtCons l6 fun x8 l9 =>
 rtAgg x8 fun l10 =>
 rtCons l10 fun x11 l12 =>
 rtInt .i64 x11 fun x13 =>
 rtCons l12 fun x14 l15 =>
 rtStr x14 fun x16 =>
 rtCons l15 fun x17 l18 =>
 rtBool x17 fun x19 =>
 rtCons l18 fun x20 l21 =>
 rtInt .i64 x20 fun x22 =>
 rtCons l21 fun x23 l24 =>
 rtInt .i64 x23 fun x25 =>
 rtCons l24 fun x26 l27 =>
 rtBool x26 fun x28 =>
 rtCons l27 fun x29 l30 =>
 rtBool x29 fun x31 =>
 rtCons l30 fun x32 l33 =>
 rtBool x32 fun x34 =>
 rtCons l33 fun x35 l36 =>
 rtBool x35 fun x37 =>
 rtCons l36 fun x38 l39 =>
 rtInt .i64 x38 fun x40 =>
 rtCons l39 fun x41 l42 =>
 rtInt .i64 x41 fun x43 =>
 rtCons l42 fun x44 l45 =>
 rtCons l45 fun x46 l47 =>
 rtCons l47 fun x48 l49 =>
 rtInt .i64 x48 fun x50 =>
 rtCons l49 fun x51 l52 =>
 rtBool x51 fun x53 =>
 rtCons l52 fun x54 l55 =>
 rtInt .i64 x54 fun x56 =>
 rtNil l55 (
 rtCons l9 fun x57 l58 =>
 rtInt .i64 x57 fun x59 =>
 rtNil l58 (
 J35_0 E D W N b3 o4 x7 x13 x16 x19 x22 x25 x28 x31 x34 x37 x40 x43 x44 x46 x50 x53 x56 x59 σ))
def A35 : XFn := ⟨43, [.ptr, .str, (.agg [(.int .i64), .str, .bool, (.int .i64), (.int .i64), .bool, .bool, .bool, .bool, (.int .i64), (.int .i64), .any, .any, (.int .i64), .bool, (.int .i64)]), (.int .i64)], [], C35_0⟩
theorem FE35 (E : List (Nat × Blk)) (D : Den) (W : DrawFn) (N : Nat) (args : List V) (σ : H) : runX E D W N A35 args σ = F35 E D W N args σ := by
  unfold F35
  simp only [← JE35_0]
  kernel_rfl
theorem AO35 : A35.body.ok = true := by kernel_rfl

/-! ### F36: ogham_lex.Tokens -/
def Fin36 (E : List (Nat × Blk)) : St → Ans := fun s => resK E s [(.tmp 2), (.tmp 3), (.tmp 4)] fun l => some (oneV l, s.σ)
def C36_0 (cc1 : XC) (cc2 : XC) : XC := (.seq (.ops (.op (some 2) .any [] (.mov (.con V.nils)) <|
 .op (some 3) .any [] (.mov (.con (V.int .i64 (Int.ofNat 0)))) <|
 .op (some 4) .any [] (.mov (.con (V.int .i64 (Int.ofNat 0)))) <|
 .nil))
 (.seq (.seq (.ops (.op (some 10) .any [0] (.mov (.tmp 0)) <|
 .op (some 11) .any [10] (.len true (.tmp 10)) <|
 .op (some 12) .any [11] (.bin .gtr .none (.tmp 11) (.con (V.int .i64 (Int.ofNat 8000)))) <|
 .nil))
 (.cond (.tmp 12) (.seq (.ops (.op (some 2) .any [] (.mov (.con V.nils)) <|
 .op (some 3) .any [] (.mov (.con (V.int .i64 (Int.ofNat 0)))) <|
 .op (some 4) .any [] (.mov (.con (V.int .i64 (Int.ofNat 5)))) <|
 .nil))
 .ret)
 .skip))
 (.seq (.ops (.op (some 13) .any [0] (.mov (.tmp 0)) <|
 .op (some 14) (.agg [.str, (.int .i64)]) [13] (.build [(V.str ⟨0, 0⟩), (V.int .i64 (Int.ofNat 0))] [(0, 1, (.tmp 13))]) <|
 .op (some 15) (.agg [.str, (.int .i64)]) [14] (.build [(V.str ⟨0, 0⟩), (V.int .i64 (Int.ofNat 0))] [(0, 2, (.tmp 14))]) <|
 .op (some 16) .any [15] (.box 118 (.tmp 15)) <|
 .op (some 5) .any [16] (.mov (.tmp 16)) <|
 .nil))
 (.seq (.ops (.op (some 6) .any [] (.mov (.con V.nils)) <|
 .nil))
 (.seq (.seq (.ops (.op (some 17) .any [5] (.mov (.tmp 5)) <|
 .op (some 18) .any [17] (.nilck (.tmp 17)) <|
 .op (some 19) .any [18] (.faddr 0 (.tmp 18)) <|
 .op (some 20) (.tup []) [19] (.call 60 [(.tmp 19)]) <|
 .nil))
 (.block 0 (.loop [(0, .str), (5, .ptr), (6, .any)] [] [] cc2)))
 (.keep [(0, .str), (6, .any)] [] [] cc1))))))
def T36_0 (E : List (Nat × Blk)) (D : Den) (W : DrawFn) (K2 : BS → Nat → Nat → V → H → Ans) (v0 : BS) (σ : H) : Ans :=
 condK (ltF (Int.ofNat 8000) (Int.ofNat (BS.len v0))) (
 some ((V.tup [V.nils, (V.int .i64 (Int.ofNat 0)), (V.int .i64 (Int.ofNat 5))]), σ)) (
 chk (allOne (V.cells (V.agg [(V.str v0), (V.int .i64 (Int.ofNat 0))]))) (
 let s1 := newB σ (.cells (V.cells (V.agg [(V.str v0), (V.int .i64 (Int.ofNat 0))])));
 callK (D 60 [(V.ptr (H.next σ) 0)] s1) fun u2 s3 =>
 rtTup u2 fun l4 =>
 rtNil l4 (
 K2 v0 (H.next σ) 0 V.nils s3)))
def C36_1 : XC := (.seq (.ops (.op (some 53) .any [6] (.mov (.tmp 6)) <|
 .op (some 54) .any [0] (.mov (.tmp 0)) <|
 .op (some 55) .any [54] (.len true (.tmp 54)) <|
 .op (some 56) (.agg [(.int .i64), .str, (.int .i64)]) [55] (.build [(V.int .i64 (Int.ofNat 0)), (V.str ⟨0, 0⟩), (V.int .i64 (Int.ofNat 0))] [(2, 1, (.tmp 55))]) <|
 .op (some 57) .any [56] (.buildSlice 50 1 [(V.int .i64 (Int.ofNat 0)), (V.str ⟨0, 0⟩), (V.int .i64 (Int.ofNat 0))] [(0, 3, (.tmp 56))]) <|
 .op (some 58) .one [53, 57] (.append 50 3 32 (.tmp 53) (.tmp 57)) <|
 .op (some 2) .any [58] (.mov (.tmp 58)) <|
 .op (some 3) .any [] (.mov (.con (V.int .i64 (Int.ofNat 0)))) <|
 .op (some 4) .any [] (.mov (.con (V.int .i64 (Int.ofNat 0)))) <|
 .nil))
 .ret)
def T36_1 (E : List (Nat × Blk)) (D : Den) (W : DrawFn) (v0 : BS) (v6 : V) (σ : H) : Ans :=
 let s1 := newB σ (.cells [(V.int .i64 (Int.ofNat 0)), (V.str (BS.mk 0 0)), (V.int .i64 (Int.ofNat (BS.len v0)))]);
 appK E 3 32 v6 (V.sl (H.next σ) 0 1 (.ex 1)) s1 fun u2 s3 =>
 rtOne u2 (
 some ((V.tup [u2, (V.int .i64 (Int.ofNat 0)), (V.int .i64 (Int.ofNat 0))]), s3))
def C36_2 : XC := (.seq (.seq (.ops (.op (some 21) .any [5] (.mov (.tmp 5)) <|
 .op (some 22) .any [21] (.nilck (.tmp 21)) <|
 .op (some 23) .any [22] (.faddr 0 (.tmp 22)) <|
 .op (some 24) .any [23] (.faddr 1 (.tmp 23)) <|
 .op (some 25) (.int .i64) [24] (.load none (.tmp 24)) <|
 .op (some 26) .any [0] (.mov (.tmp 0)) <|
 .op (some 27) .any [26] (.len true (.tmp 26)) <|
 .op (some 28) .any [25, 27] (.bin .lss .none (.tmp 25) (.tmp 27)) <|
 .nil))
 (.cond (.tmp 28) .skip
 (.exit 0)))
 (.seq (.block 1 (.seq (.ops (.op (some 33) .any [5] (.mov (.tmp 5)) <|
 .op (some 34) .any [33] (.nilck (.tmp 33)) <|
 .op (some 35) .any [34] (.faddr 0 (.tmp 34)) <|
 .op (some 36) .any [35] (.faddr 1 (.tmp 35)) <|
 .op (some 37) (.int .i64) [36] (.load none (.tmp 36)) <|
 .op (some 7) .any [37] (.mov (.tmp 37)) <|
 .nil))
 (.seq (.ops (.op (some 39) .any [5] (.mov (.tmp 5)) <|
 .op (some 40) (.tup [(.int .i64), .str]) [39] (.call 61 [(.tmp 39)]) <|
 .op (some 38) .any [40] (.mov (.tmp 40)) <|
 .op (some 41) .any [38] (.extract 0 (.tmp 38)) <|
 .op (some 42) .any [38] (.extract 1 (.tmp 38)) <|
 .op (some 8) .any [41] (.mov (.tmp 41)) <|
 .op (some 9) .any [42] (.mov (.tmp 42)) <|
 .nil))
 (.seq (.seq (.ops (.op (some 43) .any [8] (.mov (.tmp 8)) <|
 .op (some 44) .any [43] (.bin .eql .none (.tmp 43) (.con (V.int .i64 (Int.ofNat 0)))) <|
 .nil))
 (.cond (.tmp 44) (.seq (.ops (.op (some 45) .any [7] (.mov (.tmp 7)) <|
 .op (some 2) .any [] (.mov (.con V.nils)) <|
 .op (some 3) .any [45] (.mov (.tmp 45)) <|
 .op (some 4) .any [] (.mov (.con (V.int .i64 (Int.ofNat 6)))) <|
 .nil))
 .ret)
 .skip))
 (.ops (.op (some 46) .any [6] (.mov (.tmp 6)) <|
 .op (some 47) .any [8] (.mov (.tmp 8)) <|
 .op (some 48) .any [9] (.mov (.tmp 9)) <|
 .op (some 49) .any [7] (.mov (.tmp 7)) <|
 .op (some 50) (.agg [(.int .i64), .str, (.int .i64)]) [47, 48, 49] (.build [(V.int .i64 (Int.ofNat 0)), (V.str ⟨0, 0⟩), (V.int .i64 (Int.ofNat 0))] [(0, 1, (.tmp 47)), (1, 1, (.tmp 48)), (2, 1, (.tmp 49))]) <|
 .op (some 51) .any [50] (.buildSlice 50 1 [(V.int .i64 (Int.ofNat 0)), (V.str ⟨0, 0⟩), (V.int .i64 (Int.ofNat 0))] [(0, 3, (.tmp 50))]) <|
 .op (some 52) .one [46, 51] (.append 50 3 32 (.tmp 46) (.tmp 51)) <|
 .op (some 6) .any [52] (.mov (.tmp 52)) <|
 .nil))))))
 (.ops (.op (some 29) .any [5] (.mov (.tmp 5)) <|
 .op (some 30) .any [29] (.nilck (.tmp 29)) <|
 .op (some 31) .any [30] (.faddr 0 (.tmp 30)) <|
 .op (some 32) (.tup []) [31] (.call 60 [(.tmp 31)]) <|
 .nil))))
def T36_2 (E : List (Nat × Blk)) (D : Den) (W : DrawFn) (K1 : BS → V → H → Ans) (R2 : BS → Nat → Nat → V → H → Ans) (v0 : BS) (v5b : Nat) (v5o : Nat) (v6 : V) (σ : H) : Ans :=
 ldK E σ v5b (Nat.add v5o 1) fun u1 =>
 rtInt .i64 u1 fun x2 =>
 condK (ltF x2 (Int.ofNat (BS.len v0))) (
 ldK E σ v5b (Nat.add v5o 1) fun u3 =>
 rtInt .i64 u3 fun x4 =>
 callK (D 61 [(V.ptr v5b v5o)] σ) fun u5 s6 =>
 rtTup u5 fun l7 =>
 rtCons l7 fun x8 l9 =>
 rtInt .i64 x8 fun x10 =>
 rtCons l9 fun x11 l12 =>
 rtStr x11 fun x13 =>
 rtNil l12 (
 condK (eqF x10 (Int.ofNat 0)) (
 some ((V.tup [V.nils, (V.int .i64 x4), (V.int .i64 (Int.ofNat 6))]), s6)) (
 let s14 := newB s6 (.cells [(V.int .i64 x10), (V.str x13), (V.int .i64 x4)]);
 appK E 3 32 v6 (V.sl (H.next s6) 0 1 (.ex 1)) s14 fun u15 s16 =>
 rtOne u15 (
 callK (D 60 [(V.ptr v5b v5o)] s16) fun u17 s18 =>
 rtTup u17 fun l19 =>
 rtNil l19 (
 R2 v0 v5b v5o u15 s18))))) (
 K1 v0 v6 σ)
theorem P36_0 (E : List (Nat × Blk)) (D : Den) (W : DrawFn) (N : Nat) (cc1 : XC) (cc2 : XC) (v0 : BS) (σ : H) :
  denC E D W N (C36_0 cc1 cc2) ⟨[(0, (V.str v0))], [], [], σ⟩ (Fin36 E) (fun _ _ => none) (Fin36 E) =
  T36_0 E D W (fun v0 v5b v5o v6 σ => iterK (fun rec s' => denC E D W N cc2 s' (fun s'' => keepS [(0, .str), (5, .ptr), (6, .any)] [] [] s'' rec) (blkK 0 (fun s' => denC E D W N (.keep [(0, .str), (6, .any)] [] [] cc1) s' (Fin36 E) (fun _ _ => none) (Fin36 E)) (fun _ _ => none)) (Fin36 E)) N ⟨[(0, (V.str v0)), (5, (V.ptr v5b v5o)), (6, v6)], [], [], σ⟩) v0 σ := by kernel_rfl
theorem P36_1 (E : List (Nat × Blk)) (D : Den) (W : DrawFn) (N : Nat) (v0 : BS) (v6 : V) (σ : H) :
  denC E D W N (C36_1 ) ⟨[(0, (V.str v0)), (6, v6)], [], [], σ⟩ (Fin36 E) (fun _ _ => none) (Fin36 E) =
  T36_1 E D W  v0 v6 σ := by kernel_rfl
theorem P36_2 (E : List (Nat × Blk)) (D : Den) (W : DrawFn) (N : Nat) (cc1 : XC) (li2 : St → Ans) (v0 : BS) (v5b : Nat) (v5o : Nat) (v6 : V) (σ : H) :
  denC E D W N (C36_2 ) ⟨[(0, (V.str v0)), (5, (V.ptr v5b v5o)), (6, v6)], [], [], σ⟩ (fun s'' => keepS [(0, .str), (5, .ptr), (6, .any)] [] [] s'' li2) (blkK 0 (fun s' => denC E D W N (.keep [(0, .str), (6, .any)] [] [] cc1) s' (Fin36 E) (fun _ _ => none) (Fin36 E)) (fun _ _ => none)) (Fin36 E) =
  T36_2 E D W (fun v0 v6 σ => denC E D W N cc1 ⟨[(0, (V.str v0)), (6, v6)], [], [], σ⟩ (Fin36 E) (fun _ _ => none) (Fin36 E)) (fun v0 v5b v5o v6 σ => li2 ⟨[(0, (V.str v0)), (5, (V.ptr v5b v5o)), (6, v6)], [], [], σ⟩) v0 v5b v5o v6 σ := by kernel_rfl
def J36_1 (E : List (Nat × Blk)) (D : Den) (W : DrawFn) (N : Nat) : BS → V → H → Ans := T36_1 E D W 
theorem JE36_1 (E : List (Nat × Blk)) (D : Den) (W : DrawFn) (N : Nat) (v0 : BS) (v6 : V) (σ : H) :
  denC E D W N C36_1 ⟨[(0, (V.str v0)), (6, v6)], [], [], σ⟩ (Fin36 E) (fun _ _ => none) (Fin36 E) = J36_1 E D W N v0 v6 σ := by
  refine (P36_1 E D W N   v0 v6 σ).trans ?_
  kernel_rfl
def L36_2 (E : List (Nat × Blk)) (D : Den) (W : DrawFn) (N : Nat) (n : Nat) : BS → Nat → Nat → V → H → Ans :=
  Nat.rec (fun _ _ _ _ _ => none) (fun _ ih => T36_2 E D W (J36_1 E D W N ) ih) n
theorem LE36_2 (E : List (Nat × Blk)) (D : Den) (W : DrawFn) (N : Nat) (n : Nat) : ∀ (v0 : BS) (v5b : Nat) (v5o : Nat) (v6 : V) (σ : H),
  iterK (fun rec s' => denC E D W N C36_2 s' (fun s'' => keepS [(0, .str), (5, .ptr), (6, .any)] [] [] s'' rec) (blkK 0 (fun s' => denC E D W N (.keep [(0, .str), (6, .any)] [] [] C36_1) s' (Fin36 E) (fun _ _ => none) (Fin36 E)) (fun _ _ => none)) (Fin36 E)) n ⟨[(0, (V.str v0)), (5, (V.ptr v5b v5o)), (6, v6)], [], [], σ⟩ = L36_2 E D W N n v0 v5b v5o v6 σ := by
  induction n with
  | zero => intro v0 v5b v5o v6 σ; rfl
  | succ n ihn =>
    intro v0 v5b v5o v6 σ
    rw [iterK_succ]
    refine (P36_2 E D W N C36_1 (iterK (fun rec s' => denC E D W N C36_2 s' (fun s'' => keepS [(0, .str), (5, .ptr), (6, .any)] [] [] s'' rec) (blkK 0 (fun s' => denC E D W N (.keep [(0, .str), (6, .any)] [] [] C36_1) s' (Fin36 E) (fun _ _ => none) (Fin36 E)) (fun _ _ => none)) (Fin36 E)) n) v0 v5b v5o v6 σ).trans ?_
    simp only [ihn, JE36_1]
    kernel_rfl
def J36_0 (E : List (Nat × Blk)) (D : Den) (W : DrawFn) (N : Nat) : BS → H → Ans := T36_0 E D W (L36_2 E D W N N)
theorem JE36_0 (E : List (Nat × Blk)) (D : Den) (W : DrawFn) (N : Nat) (v0 : BS) (σ : H) :
  denC E D W N (C36_0 C36_1 C36_2) ⟨[(0, (V.str v0))], [], [], σ⟩ (Fin36 E) (fun _ _ => none) (Fin36 E) = J36_0 E D W N v0 σ := by
  refine (P36_0 E D W N C36_1 C36_2  v0 σ).trans ?_
  simp only [LE36_2]
  kernel_rfl
def F36 (E : List (Nat × Blk)) (D : Den) (W : DrawFn) (N : Nat) (args : List V) (σ : H) : Ans :=
 rtCons args fun x1 l2 =>
 rtStr x1 fun x3 =>
 rtNil l2 (
 J36_0 E D W N x3 σ)
def A36 : XFn := ⟨59, [.str], [(.tmp 2), (.tmp 3), (.tmp 4)], (C36_0 C36_1 C36_2)⟩
theorem FE36 (E : List (Nat × Blk)) (D : Den) (W : DrawFn) (N : Nat) (args : List V) (σ : H) : runX E D W N A36 args σ = F36 E D W N args σ := by
  unfold F36
  simp only [← JE36_0]
  kernel_rfl
theorem AO36 : A36.body.ok = true := by kernel_rfl

/-! ### F37: __ogham_syntax.parser_.module -/
def Fin37 (E : List (Nat × Blk)) : St → Ans := fun s => resK E s [(.tmp 2)] fun l => some (oneV l, s.σ)
def C37_0 (cc1 : XC) (cc2 : XC) : XC := (.seq (.ops (.op (some 2) .any [] (.mov (.con (V.bool false))) <|
 .nil))
 (.seq (.ops (.op (some 8) .any [0] (.mov (.tmp 0)) <|
 .op (some 9) (.tup [(.agg [(.int .i64), .str, (.int .i64)]), .bool]) [8] (.call 62 [(.tmp 8), (.con (V.int .i64 (Int.ofNat 1)))]) <|
 .op (some 7) .any [9] (.mov (.tmp 9)) <|
 .op (some 10) .any [7] (.extract 0 (.tmp 7)) <|
 .op (some 11) .any [7] (.extract 1 (.tmp 7)) <|
 .pal 3 [] 50 [(V.int .i64 (Int.ofNat 0)), (V.str ⟨0, 0⟩), (V.int .i64 (Int.ofNat 0))] <|
 .op none (.agg [(.int .i64), .str, (.int .i64)]) [3, 10] (.store 3 (.tmp 3) (.tmp 10)) <|
 .op (some 4) .any [11] (.mov (.tmp 11)) <|
 .nil))
 (.seq (.seq (.ops (.op (some 12) .any [4] (.mov (.tmp 4)) <|
 .op (some 13) .any [12] (.un .not (.tmp 12)) <|
 .op (some 14) .any [13] (.mov (.tmp 13)) <|
 .grp 14 false (.op (some 15) .any [0, 14] (.mov (.tmp 0)) <|
 .op (some 16) .any [14] (.buildSlice 9 1 [(V.str ⟨0, 0⟩)] [(0, 1, (.con (V.str ⟨11, 100710650190388740279911748⟩)))]) <|
 .op (some 17) .bool [15, 16, 14] (.call 63 [(.tmp 15), (.tmp 16)]) <|
 .op (some 18) .any [17, 14] (.un .not (.tmp 17)) <|
 .nil) 19 [14, 18] (.tmp 14) (.con (V.bool true)) (.tmp 18) <|
 .nil))
 (.cond (.tmp 19) (.seq (.ops (.op (some 2) .any [] (.mov (.con (V.bool false))) <|
 .nil))
 .ret)
 .skip))
 (.seq (.ops (.op (some 20) .any [0] (.mov (.tmp 0)) <|
 .op (some 21) .any [3] (.faddr 1 (.tmp 3)) <|
 .op (some 22) .str [21] (.load none (.tmp 21)) <|
 .op (some 23) .any [20] (.nilck (.tmp 20)) <|
 .op (some 24) .any [23] (.faddr 2 (.tmp 23)) <|
 .op (some 25) .any [24] (.faddr 0 (.tmp 24)) <|
 .op none .any [25, 22] (.store 1 (.tmp 25) (.tmp 22)) <|
 .nil))
 (.seq (.seq (.ops (.op (some 26) .any [] (.buildSlice 9 3 [(V.str ⟨0, 0⟩), (V.str ⟨0, 0⟩), (V.str ⟨0, 0⟩)] [(0, 1, (.con (V.str ⟨8, 6073459554577832005⟩))), (1, 1, (.con (V.str ⟨8, 6073459554577829193⟩))), (2, 1, (.con (V.str ⟨9, 1241215773001651606849⟩)))]) <|
 .op (some 27) .any [26] (.len false (.tmp 26)) <|
 .op (some 28) .any [] (.mov (.con (V.int .i64 (Int.ofNat 0)))) <|
 .nil))
 (.block 0 (.loop [(0, .ptr), (26, .any), (27, (.int .i64)), (28, (.int .i64))] [] [] cc2)))
 (.keep [(0, .ptr)] [] [] cc1))))))
def T37_0 (E : List (Nat × Blk)) (D : Den) (W : DrawFn) (K2 : Nat → Nat → V → Int → Int → H → Ans) (v0b : Nat) (v0o : Nat) (σ : H) : Ans :=
 callK (D 62 [(V.ptr v0b v0o), (V.int .i64 (Int.ofNat 1))] σ) fun u1 s2 =>
 rtTup u1 fun l3 =>
 rtCons l3 fun x4 l5 =>
 rtAgg x4 fun l6 =>
 rtCons l6 fun x7 l8 =>
 rtInt .i64 x7 fun x9 =>
 rtCons l8 fun x10 l11 =>
 rtStr x10 fun x12 =>
 rtCons l11 fun x13 l14 =>
 rtInt .i64 x13 fun x15 =>
 rtNil l14 (
 rtCons l5 fun x16 l17 =>
 rtBool x16 fun x18 =>
 rtNil l17 (
 joinB (fun c19 s20 =>
 condK c19 (
 some ((V.bool false), s20)) (
 stK 1 v0b (Nat.add v0o 2) (V.str x12) s20 fun s22 =>
 let s23 := newB s22 (.cells [(V.str (BS.mk 8 6073459554577832005)), (V.str (BS.mk 8 6073459554577829193)), (V.str (BS.mk 9 1241215773001651606849))]);
 slenK (V.sl (H.next s22) 0 3 (.ex 3)) fun n24 =>
 K2 v0b v0o (V.sl (H.next s22) 0 3 (.ex 3)) (Int.ofNat n24) (Int.ofNat 0) s23)) fun k21 =>
 condK (not x18) (
 k21 true s2) (
 let s25 := newB s2 (.cells [(V.str (BS.mk 11 100710650190388740279911748))]);
 callK (D 63 [(V.ptr v0b v0o), (V.sl (H.next s2) 0 1 (.ex 1))] s25) fun u26 s27 =>
 rtBool u26 fun x28 =>
 k21 (not x28) s27)))
def C37_1 (cc3 : XC) (cc4 : XC) : XC := (.seq (.seq (.ops (.op (some 50) .any [0] (.mov (.tmp 0)) <|
 .op (some 51) .any [] (.buildSlice 9 2 [(V.str ⟨0, 0⟩), (V.str ⟨0, 0⟩)] [(0, 1, (.con (V.str ⟨3, 4012602⟩))), (1, 1, (.con (V.str ⟨5, 336236856642⟩)))]) <|
 .op (some 52) .bool [50, 51] (.call 63 [(.tmp 50), (.tmp 51)]) <|
 .op (some 53) .any [52] (.un .not (.tmp 52)) <|
 .nil))
 (.cond (.tmp 53) (.seq (.ops (.op (some 2) .any [] (.mov (.con (V.bool false))) <|
 .nil))
 .ret)
 .skip))
 (.seq (.block 2 (.loop [(0, .ptr)] [] [] cc4))
 (.keep [(0, .ptr)] [] [] cc3)))
def T37_1 (E : List (Nat × Blk)) (D : Den) (W : DrawFn) (K4 : Nat → Nat → H → Ans) (v0b : Nat) (v0o : Nat) (σ : H) : Ans :=
 let s1 := newB σ (.cells [(V.str (BS.mk 3 4012602)), (V.str (BS.mk 5 336236856642))]);
 callK (D 63 [(V.ptr v0b v0o), (V.sl (H.next σ) 0 2 (.ex 2))] s1) fun u2 s3 =>
 rtBool u2 fun x4 =>
 condK (not x4) (
 some ((V.bool false), s3)) (
 K4 v0b v0o s3)
def C37_2 : XC := (.seq (.ops (.op (some 29) .any [28, 27] (.bin .lss .none (.tmp 28) (.tmp 27)) <|
 .nil))
 (.seq (.cond (.tmp 29) .skip
 (.exit 0))
 (.seq (.block 1 (.seq (.ops (.op (some 30) .any [28] (.mov (.tmp 28)) <|
 .op (some 31) .any [26, 28] (.iaddrS 1 (.tmp 26) (.tmp 28)) <|
 .op (some 32) .str [31] (.load none (.tmp 31)) <|
 .op (some 5) .any [30] (.mov (.tmp 30)) <|
 .op (some 6) .any [32] (.mov (.tmp 32)) <|
 .nil))
 (.seq (.seq (.ops (.op (some 33) .any [0] (.mov (.tmp 0)) <|
 .op (some 34) .any [33] (.nilck (.tmp 33)) <|
 .op (some 35) .any [34] (.faddr 0 (.tmp 34)) <|
 .op (some 36) .any [6] (.mov (.tmp 6)) <|
 .op (some 37) .bool [35, 36] (.call 64 [(.tmp 35), (.tmp 36)]) <|
 .op (some 38) .any [37] (.un .not (.tmp 37)) <|
 .nil))
 (.cond (.tmp 38) (.exit 1)
 .skip))
 (.seq (.ops (.op (some 39) .any [0] (.mov (.tmp 0)) <|
 .op (some 40) .any [5] (.mov (.tmp 5)) <|
 .op (some 41) .any [39] (.nilck (.tmp 39)) <|
 .op (some 42) .any [41] (.faddr 2 (.tmp 41)) <|
 .op (some 43) .any [42] (.faddr 1 (.tmp 42)) <|
 .op none .any [43, 40] (.store 1 (.tmp 43) (.tmp 40)) <|
 .nil))
 (.seq (.seq (.ops (.op (some 44) .any [0] (.mov (.tmp 0)) <|
 .op (some 45) .any [6] (.mov (.tmp 6)) <|
 .op (some 46) .any [45] (.buildSlice 9 2 [(V.str ⟨0, 0⟩), (V.str ⟨0, 0⟩)] [(0, 1, (.tmp 45)), (1, 1, (.con (V.str ⟨4, 1397178708⟩)))]) <|
 .op (some 47) .bool [44, 46] (.call 63 [(.tmp 44), (.tmp 46)]) <|
 .op (some 48) .any [47] (.un .not (.tmp 47)) <|
 .nil))
 (.cond (.tmp 48) (.seq (.ops (.op (some 2) .any [] (.mov (.con (V.bool false))) <|
 .nil))
 .ret)
 .skip))
 (.exit 0))))))
 (.ops (.op (some 49) .any [28] (.bin .add .none (.tmp 28) (.con (V.int .i64 (Int.ofNat 1)))) <|
 .op (some 28) .any [49] (.mov (.tmp 49)) <|
 .nil)))))
def T37_2 (E : List (Nat × Blk)) (D : Den) (W : DrawFn) (K1 : Nat → Nat → H → Ans) (R2 : Nat → Nat → V → Int → Int → H → Ans) (v0b : Nat) (v0o : Nat) (v26 : V) (v27 : Int) (v28 : Int) (σ : H) : Ans :=
 condK (ltF v28 v27) (
 iaddrSK 1 v26 v28 fun b1 o2 =>
 ldK E σ b1 o2 fun u3 =>
 rtStr u3 fun x4 =>
 callK (D 64 [(V.ptr v0b v0o), (V.str x4)] σ) fun u5 s6 =>
 rtBool u5 fun x7 =>
 condK (not x7) (
 R2 v0b v0o v26 v27 (addF .i64 v28 (Int.ofNat 1)) s6) (
 stK 1 v0b (Nat.add (Nat.add v0o 2) 1) (V.int .i64 v28) s6 fun s8 =>
 let s9 := newB s8 (.cells [(V.str x4), (V.str (BS.mk 4 1397178708))]);
 callK (D 63 [(V.ptr v0b v0o), (V.sl (H.next s8) 0 2 (.ex 2))] s9) fun u10 s11 =>
 rtBool u10 fun x12 =>
 condK (not x12) (
 some ((V.bool false), s11)) (
 K1 v0b v0o s11))) (
 K1 v0b v0o σ)
def C37_3 : XC := (.seq (.seq (.ops (.op (some 63) .any [0] (.mov (.tmp 0)) <|
 .op (some 64) .any [] (.buildSlice 9 1 [(V.str ⟨0, 0⟩)] [(0, 1, (.con (V.str ⟨3, 4476485⟩)))]) <|
 .op (some 65) .bool [63, 64] (.call 63 [(.tmp 63), (.tmp 64)]) <|
 .op (some 66) .any [65] (.un .not (.tmp 65)) <|
 .nil))
 (.cond (.tmp 66) (.seq (.ops (.op (some 2) .any [] (.mov (.con (V.bool false))) <|
 .nil))
 .ret)
 .skip))
 (.seq (.ops (.op (some 68) .any [0] (.mov (.tmp 0)) <|
 .op (some 69) (.tup [(.agg [(.int .i64), .str, (.int .i64)]), .bool]) [68] (.call 62 [(.tmp 68), (.con (V.int .i64 (Int.ofNat 0)))]) <|
 .op (some 67) .any [69] (.mov (.tmp 69)) <|
 .op (some 70) .any [67] (.extract 0 (.tmp 67)) <|
 .op (some 71) .any [67] (.extract 1 (.tmp 67)) <|
 .op (some 4) .any [71] (.mov (.tmp 71)) <|
 .nil))
 (.seq (.ops (.op (some 72) .any [4] (.mov (.tmp 4)) <|
 .op (some 2) .any [72] (.mov (.tmp 72)) <|
 .nil))
 .ret)))
def T37_3 (E : List (Nat × Blk)) (D : Den) (W : DrawFn) (v0b : Nat) (v0o : Nat) (σ : H) : Ans :=
 let s1 := newB σ (.cells [(V.str (BS.mk 3 4476485))]);
 callK (D 63 [(V.ptr v0b v0o), (V.sl (H.next σ) 0 1 (.ex 1))] s1) fun u2 s3 =>
 rtBool u2 fun x4 =>
 condK (not x4) (
 some ((V.bool false), s3)) (
 callK (D 62 [(V.ptr v0b v0o), (V.int .i64 (Int.ofNat 0))] s3) fun u5 s6 =>
 rtTup u5 fun l7 =>
 rtCons l7 fun x8 l9 =>
 rtAgg x8 fun l10 =>
 rtCons l10 fun x11 l12 =>
 rtInt .i64 x11 fun x13 =>
 rtCons l12 fun x14 l15 =>
 rtStr x14 fun x16 =>
 rtCons l15 fun x17 l18 =>
 rtInt .i64 x17 fun x19 =>
 rtNil l18 (
 rtCons l9 fun x20 l21 =>
 rtBool x20 fun x22 =>
 rtNil l21 (
 some ((V.bool x22), s6))))
def C37_4 : XC := (.seq (.seq (.ops (.op (some 54) .any [0] (.mov (.tmp 0)) <|
 .op (some 55) .any [54] (.nilck (.tmp 54)) <|
 .op (some 56) .any [55] (.faddr 0 (.tmp 55)) <|
 .op (some 57) (.agg [(.int .i64), .str, (.int .i64)]) [56] (.call 65 [(.tmp 56)]) <|
 .op (some 58) (.int .i64) [57] (.field 0 none (.tmp 57)) <|
 .op (some 59) .any [58] (.bin .eql .none (.tmp 58) (.con (V.int .i64 (Int.ofNat 1)))) <|
 .nil))
 (.cond (.tmp 59) .skip
 (.exit 2)))
 (.block 3 (.seq (.ops (.op (some 60) .any [0] (.mov (.tmp 0)) <|
 .op (some 61) .bool [60] (.call 66 [(.tmp 60)]) <|
 .op (some 62) .any [61] (.un .not (.tmp 61)) <|
 .nil))
 (.cond (.tmp 62) (.seq (.ops (.op (some 2) .any [] (.mov (.con (V.bool false))) <|
 .nil))
 .ret)
 .skip))))
def T37_4 (E : List (Nat × Blk)) (D : Den) (W : DrawFn) (K3 : Nat → Nat → H → Ans) (R4 : Nat → Nat → H → Ans) (v0b : Nat) (v0o : Nat) (σ : H) : Ans :=
 callK (D 65 [(V.ptr v0b v0o)] σ) fun u1 s2 =>
 rtAgg u1 fun l3 =>
 rtCons l3 fun x4 l5 =>
 rtInt .i64 x4 fun x6 =>
 rtCons l5 fun x7 l8 =>
 rtStr x7 fun x9 =>
 rtCons l8 fun x10 l11 =>
 rtInt .i64 x10 fun x12 =>
 rtNil l11 (
 condK (eqF x6 (Int.ofNat 1)) (
 callK (D 66 [(V.ptr v0b v0o)] s2) fun u13 s14 =>
 rtBool u13 fun x15 =>
 condK (not x15) (
 some ((V.bool false), s14)) (
 R4 v0b v0o s14)) (
 K3 v0b v0o s2))
theorem P37_0 (E : List (Nat × Blk)) (D : Den) (W : DrawFn) (N : Nat) (cc1 : XC) (cc2 : XC) (v0b : Nat) (v0o : Nat) (σ : H) :
  denC E D W N (C37_0 cc1 cc2) ⟨[(0, (V.ptr v0b v0o))], [], [], σ⟩ (Fin37 E) (fun _ _ => none) (Fin37 E) =
  T37_0 E D W (fun v0b v0o v26 v27 v28 σ => iterK (fun rec s' => denC E D W N cc2 s' (fun s'' => keepS [(0, .ptr), (26, .any), (27, (.int .i64)), (28, (.int .i64))] [] [] s'' rec) (blkK 0 (fun s' => denC E D W N (.keep [(0, .ptr)] [] [] cc1) s' (Fin37 E) (fun _ _ => none) (Fin37 E)) (fun _ _ => none)) (Fin37 E)) N ⟨[(0, (V.ptr v0b v0o)), (26, v26), (27, (V.int .i64 v27)), (28, (V.int .i64 v28))], [], [], σ⟩) v0b v0o σ := by kernel_rfl
theorem P37_1 (E : List (Nat × Blk)) (D : Den) (W : DrawFn) (N : Nat) (cc3 : XC) (cc4 : XC) (v0b : Nat) (v0o : Nat) (σ : H) :
  denC E D W N (C37_1 cc3 cc4) ⟨[(0, (V.ptr v0b v0o))], [], [], σ⟩ (Fin37 E) (fun _ _ => none) (Fin37 E) =
  T37_1 E D W (fun v0b v0o σ => iterK (fun rec s' => denC E D W N cc4 s' (fun s'' => keepS [(0, .ptr)] [] [] s'' rec) (blkK 2 (fun s' => denC E D W N (.keep [(0, .ptr)] [] [] cc3) s' (Fin37 E) (fun _ _ => none) (Fin37 E)) (fun _ _ => none)) (Fin37 E)) N ⟨[(0, (V.ptr v0b v0o))], [], [], σ⟩) v0b v0o σ := by kernel_rfl
theorem P37_2 (E : List (Nat × Blk)) (D : Den) (W : DrawFn) (N : Nat) (cc1 : XC) (li2 : St → Ans) (v0b : Nat) (v0o : Nat) (v26 : V) (v27 : Int) (v28 : Int) (σ : H) :
  denC E D W N (C37_2 ) ⟨[(0, (V.ptr v0b v0o)), (26, v26), (27, (V.int .i64 v27)), (28, (V.int .i64 v28))], [], [], σ⟩ (fun s'' => keepS [(0, .ptr), (26, .any), (27, (.int .i64)), (28, (.int .i64))] [] [] s'' li2) (blkK 0 (fun s' => denC E D W N (.keep [(0, .ptr)] [] [] cc1) s' (Fin37 E) (fun _ _ => none) (Fin37 E)) (fun _ _ => none)) (Fin37 E) =
  T37_2 E D W (fun v0b v0o σ => denC E D W N cc1 ⟨[(0, (V.ptr v0b v0o))], [], [], σ⟩ (Fin37 E) (fun _ _ => none) (Fin37 E)) (fun v0b v0o v26 v27 v28 σ => li2 ⟨[(0, (V.ptr v0b v0o)), (26, v26), (27, (V.int .i64 v27)), (28, (V.int .i64 v28))], [], [], σ⟩) v0b v0o v26 v27 v28 σ := by kernel_rfl
theorem P37_3 (E : List (Nat × Blk)) (D : Den) (W : DrawFn) (N : Nat) (v0b : Nat) (v0o : Nat) (σ : H) :
  denC E D W N (C37_3 ) ⟨[(0, (V.ptr v0b v0o))], [], [], σ⟩ (Fin37 E) (fun _ _ => none) (Fin37 E) =
  T37_3 E D W  v0b v0o σ := by kernel_rfl
theorem P37_4 (E : List (Nat × Blk)) (D : Den) (W : DrawFn) (N : Nat) (cc3 : XC) (li4 : St → Ans) (v0b : Nat) (v0o : Nat) (σ : H) :
  denC E D W N (C37_4 ) ⟨[(0, (V.ptr v0b v0o))], [], [], σ⟩ (fun s'' => keepS [(0, .ptr)] [] [] s'' li4) (blkK 2 (fun s' => denC E D W N (.keep [(0, .ptr)] [] [] cc3) s' (Fin37 E) (fun _ _ => none) (Fin37 E)) (fun _ _ => none)) (Fin37 E) =
  T37_4 E D W (fun v0b v0o σ => denC E D W N cc3 ⟨[(0, (V.ptr v0b v0o))], [], [], σ⟩ (Fin37 E) (fun _ _ => none) (Fin37 E)) (fun v0b v0o σ => li4 ⟨[(0, (V.ptr v0b v0o))], [], [], σ⟩) v0b v0o σ := by kernel_rfl
def J37_3 (E : List (Nat × Blk)) (D : Den) (W : DrawFn) (N : Nat) : Nat → Nat → H → Ans := T37_3 E D W 
theorem JE37_3 (E : List (Nat × Blk)) (D : Den) (W : DrawFn) (N : Nat) (v0b : Nat) (v0o : Nat) (σ : H) :
  denC E D W N C37_3 ⟨[(0, (V.ptr v0b v0o))], [], [], σ⟩ (Fin37 E) (fun _ _ => none) (Fin37 E) = J37_3 E D W N v0b v0o σ := by
  refine (P37_3 E D W N   v0b v0o σ).trans ?_
  kernel_rfl
def L37_4 (E : List (Nat × Blk)) (D : Den) (W : DrawFn) (N : Nat) (n : Nat) : Nat → Nat → H → Ans :=
  Nat.rec (fun _ _ _ => none) (fun _ ih => T37_4 E D W (J37_3 E D W N ) ih) n
theorem LE37_4 (E : List (Nat × Blk)) (D : Den) (W : DrawFn) (N : Nat) (n : Nat) : ∀ (v0b : Nat) (v0o : Nat) (σ : H),
  iterK (fun rec s' => denC E D W N C37_4 s' (fun s'' => keepS [(0, .ptr)] [] [] s'' rec) (blkK 2 (fun s' => denC E D W N (.keep [(0, .ptr)] [] [] C37_3) s' (Fin37 E) (fun _ _ => none) (Fin37 E)) (fun _ _ => none)) (Fin37 E)) n ⟨[(0, (V.ptr v0b v0o))], [], [], σ⟩ = L37_4 E D W N n v0b v0o σ := by
  induction n with
  | zero => intro v0b v0o σ; rfl
  | succ n ihn =>
    intro v0b v0o σ
    rw [iterK_succ]
    refine (P37_4 E D W N C37_3 (iterK (fun rec s' => denC E D W N C37_4 s' (fun s'' => keepS [(0, .ptr)] [] [] s'' rec) (blkK 2 (fun s' => denC E D W N (.keep [(0, .ptr)] [] [] C37_3) s' (Fin37 E) (fun _ _ => none) (Fin37 E)) (fun _ _ => none)) (Fin37 E)) n) v0b v0o σ).trans ?_
    simp only [ihn, JE37_3]
    kernel_rfl
def J37_1 (E : List (Nat × Blk)) (D : Den) (W : DrawFn) (N : Nat) : Nat → Nat → H → Ans := T37_1 E D W (L37_4 E D W N N)
theorem JE37_1 (E : List (Nat × Blk)) (D : Den) (W : DrawFn) (N : Nat) (v0b : Nat) (v0o : Nat) (σ : H) :
  denC E D W N (C37_1 C37_3 C37_4) ⟨[(0, (V.ptr v0b v0o))], [], [], σ⟩ (Fin37 E) (fun _ _ => none) (Fin37 E) = J37_1 E D W N v0b v0o σ := by
  refine (P37_1 E D W N C37_3 C37_4  v0b v0o σ).trans ?_
  simp only [LE37_4]
  kernel_rfl
def L37_2 (E : List (Nat × Blk)) (D : Den) (W : DrawFn) (N : Nat) (n : Nat) : Nat → Nat → V → Int → Int → H → Ans :=
  Nat.rec (fun _ _ _ _ _ _ => none) (fun _ ih => T37_2 E D W (J37_1 E D W N ) ih) n
theorem LE37_2 (E : List (Nat × Blk)) (D : Den) (W : DrawFn) (N : Nat) (n : Nat) : ∀ (v0b : Nat) (v0o : Nat) (v26 : V) (v27 : Int) (v28 : Int) (σ : H),
  iterK (fun rec s' => denC E D W N C37_2 s' (fun s'' => keepS [(0, .ptr), (26, .any), (27, (.int .i64)), (28, (.int .i64))] [] [] s'' rec) (blkK 0 (fun s' => denC E D W N (.keep [(0, .ptr)] [] [] (C37_1 C37_3 C37_4)) s' (Fin37 E) (fun _ _ => none) (Fin37 E)) (fun _ _ => none)) (Fin37 E)) n ⟨[(0, (V.ptr v0b v0o)), (26, v26), (27, (V.int .i64 v27)), (28, (V.int .i64 v28))], [], [], σ⟩ = L37_2 E D W N n v0b v0o v26 v27 v28 σ := by
  induction n with
  | zero => intro v0b v0o v26 v27 v28 σ; rfl
  | succ n ihn =>
    intro v0b v0o v26 v27 v28 σ
    rw [iterK_succ]
    refine (P37_2 E D W N (C37_1 C37_3 C37_4) (iterK (fun rec s' => denC E D W N C37_2 s' (fun s'' => keepS [(0, .ptr), (26, .any), (27, (.int .i64)), (28, (.int .i64))] [] [] s'' rec) (blkK 0 (fun s' => denC E D W N (.keep [(0, .ptr)] [] [] (C37_1 C37_3 C37_4)) s' (Fin37 E) (fun _ _ => none) (Fin37 E)) (fun _ _ => none)) (Fin37 E)) n) v0b v0o v26 v27 v28 σ).trans ?_
    simp only [ihn, JE37_1]
    kernel_rfl
def J37_0 (E : List (Nat × Blk)) (D : Den) (W : DrawFn) (N : Nat) : Nat → Nat → H → Ans := T37_0 E D W (L37_2 E D W N N)
theorem JE37_0 (E : List (Nat × Blk)) (D : Den) (W : DrawFn) (N : Nat) (v0b : Nat) (v0o : Nat) (σ : H) :
  denC E D W N (C37_0 (C37_1 C37_3 C37_4) C37_2) ⟨[(0, (V.ptr v0b v0o))], [], [], σ⟩ (Fin37 E) (fun _ _ => none) (Fin37 E) = J37_0 E D W N v0b v0o σ := by
  refine (P37_0 E D W N (C37_1 C37_3 C37_4) C37_2  v0b v0o σ).trans ?_
  simp only [LE37_2]
  kernel_rfl
def F37 (E : List (Nat × Blk)) (D : Den) (W : DrawFn) (N : Nat) (args : List V) (σ : H) : Ans :=
 rtCons args fun x1 l2 =>
 rtPtr x1 fun b3 o4 =>
 rtNil l2 (
 J37_0 E D W N b3 o4 σ)
def A37 : XFn := ⟨73, [.ptr], [(.tmp 2)], (C37_0 (C37_1 C37_3 C37_4) C37_2)⟩
theorem FE37 (E : List (Nat × Blk)) (D : Den) (W : DrawFn) (N : Nat) (args : List V) (σ : H) : runX E D W N A37 args σ = F37 E D W N args σ := by
  unfold F37
  simp only [← JE37_0]
  kernel_rfl
theorem AO37 : A37.body.ok = true := by kernel_rfl

/-! ### F38: slices.Equal___ogham_api.Item_ogham_api.Item_ -/
def Fin38 (E : List (Nat × Blk)) : St → Ans := fun s => resK E s [(.tmp 4)] fun l => some (oneV l, s.σ)
def C38_0 (cc1 : XC) (cc2 : XC) : XC := (.seq (.ops (.op (some 4) .any [] (.mov (.con (V.bool false))) <|
 .nil))
 (.seq (.seq (.ops (.op (some 6) .any [0] (.mov (.tmp 0)) <|
 .op (some 7) .any [6] (.len false (.tmp 6)) <|
 .op (some 8) .any [1] (.mov (.tmp 1)) <|
 .op (some 9) .any [8] (.len false (.tmp 8)) <|
 .op (some 10) .any [7, 9] (.bin .neq .none (.tmp 7) (.tmp 9)) <|
 .nil))
 (.cond (.tmp 10) (.seq (.ops (.op (some 4) .any [] (.mov (.con (V.bool false))) <|
 .nil))
 .ret)
 .skip))
 (.seq (.seq (.ops (.op (some 11) .any [0] (.mov (.tmp 0)) <|
 .op (some 12) .any [11] (.len false (.tmp 11)) <|
 .op (some 13) .any [] (.mov (.con (V.int .i64 (Int.ofNat 0)))) <|
 .nil))
 (.block 0 (.loop [(0, .any), (1, .any), (12, (.int .i64)), (13, (.int .i64))] [] [] cc2)))
 (.keep [] [] [] cc1))))
def T38_0 (E : List (Nat × Blk)) (D : Den) (W : DrawFn) (K2 : V → V → Int → Int → H → Ans) (v0 : V) (v1 : V) (σ : H) : Ans :=
 slenK v0 fun n1 =>
 slenK v1 fun n2 =>
 condK (not (eqF (Int.ofNat n1) (Int.ofNat n2))) (
 some ((V.bool false), σ)) (
 slenK v0 fun n3 =>
 K2 v0 v1 (Int.ofNat n3) (Int.ofNat 0) σ)
def C38_1 : XC := (.seq (.ops (.op (some 4) .any [] (.mov (.con (V.bool true))) <|
 .nil))
 .ret)
def T38_1 (E : List (Nat × Blk)) (D : Den) (W : DrawFn) (σ : H) : Ans :=
 some ((V.bool true), σ)
def C38_2 : XC := (.seq (.ops (.op (some 14) .any [13, 12] (.bin .lss .none (.tmp 13) (.tmp 12)) <|
 .nil))
 (.seq (.cond (.tmp 14) .skip
 (.exit 0))
 (.seq (.block 1 (.seq (.ops (.op (some 15) .any [13] (.mov (.tmp 13)) <|
 .op (some 5) .any [15] (.mov (.tmp 15)) <|
 .nil))
 (.seq (.draw (.op (some 16) .any [0] (.mov (.tmp 0)) <|
 .op (some 17) .any [5] (.mov (.tmp 5)) <|
 .op (some 18) .any [16, 17] (.iaddrS 3 (.tmp 16) (.tmp 17)) <|
 .op (some 19) (.agg [.str, (.int .i64), .bool]) [18] (.load (some 3) (.tmp 18)) <|
 .op (some 20) .any [1] (.mov (.tmp 1)) <|
 .op (some 21) .any [5] (.mov (.tmp 5)) <|
 .op (some 22) .any [20, 21] (.iaddrS 3 (.tmp 20) (.tmp 21)) <|
 .op (some 23) (.agg [.str, (.int .i64), .bool]) [22] (.load (some 3) (.tmp 22)) <|
 .op (some 24) .any [19, 23] (.bin .neq (.flat [(0, .str), (1, .int), (2, .bool)]) (.tmp 19) (.tmp 23)) <|
 .nil) [0, 0, 3, 7, 0, 0, 48, 112, 255])
 (.cond (.tmp 24) (.seq (.ops (.op (some 4) .any [] (.mov (.con (V.bool false))) <|
 .nil))
 .ret)
 .skip))))
 (.ops (.op (some 25) .any [13] (.bin .add .none (.tmp 13) (.con (V.int .i64 (Int.ofNat 1)))) <|
 .op (some 13) .any [25] (.mov (.tmp 25)) <|
 .nil)))))
def T38_2 (E : List (Nat × Blk)) (D : Den) (W : DrawFn) (K1 : H → Ans) (R2 : V → V → Int → Int → H → Ans) (v0 : V) (v1 : V) (v12 : Int) (v13 : Int) (σ : H) : Ans :=
 condK (ltF v13 v12) (
 iaddrSK 3 v0 v13 fun b1 o2 =>
 ldnK E σ b1 o2 3 fun l3 =>
 rtCons l3 fun x4 l5 =>
 rtStr x4 fun x6 =>
 rtCons l5 fun x7 l8 =>
 rtInt .i64 x7 fun x9 =>
 rtCons l8 fun x10 l11 =>
 rtBool x10 fun x12 =>
 rtNil l11 (
 iaddrSK 3 v1 v13 fun b13 o14 =>
 ldnK E σ b13 o14 3 fun l15 =>
 rtCons l15 fun x16 l17 =>
 rtStr x16 fun x18 =>
 rtCons l17 fun x19 l20 =>
 rtInt .i64 x19 fun x21 =>
 rtCons l20 fun x22 l23 =>
 rtBool x22 fun x24 =>
 rtNil l23 (
 eqK (.flat [(0, .str), (1, .int), (2, .bool)]) (V.agg [(V.str x6), (V.int .i64 x9), (V.bool x12)]) (V.agg [(V.str x18), (V.int .i64 x21), (V.bool x24)]) fun c25 =>
 condK (not c25) (
 some ((V.bool false), σ)) (
 R2 v0 v1 v12 (addF .i64 v13 (Int.ofNat 1)) σ)))) (
 K1 σ)
theorem P38_0 (E : List (Nat × Blk)) (D : Den) (W : DrawFn) (N : Nat) (cc1 : XC) (cc2 : XC) (v0 : V) (v1 : V) (σ : H) :
  denC E D W N (C38_0 cc1 cc2) ⟨[(0, v0), (1, v1)], [], [], σ⟩ (Fin38 E) (fun _ _ => none) (Fin38 E) =
  T38_0 E D W (fun v0 v1 v12 v13 σ => iterK (fun rec s' => denC E D W N cc2 s' (fun s'' => keepS [(0, .any), (1, .any), (12, (.int .i64)), (13, (.int .i64))] [] [] s'' rec) (blkK 0 (fun s' => denC E D W N (.keep [] [] [] cc1) s' (Fin38 E) (fun _ _ => none) (Fin38 E)) (fun _ _ => none)) (Fin38 E)) N ⟨[(0, v0), (1, v1), (12, (V.int .i64 v12)), (13, (V.int .i64 v13))], [], [], σ⟩) v0 v1 σ := by kernel_rfl
theorem P38_1 (E : List (Nat × Blk)) (D : Den) (W : DrawFn) (N : Nat) (σ : H) :
  denC E D W N (C38_1 ) ⟨[], [], [], σ⟩ (Fin38 E) (fun _ _ => none) (Fin38 E) =
  T38_1 E D W   σ := by kernel_rfl
theorem P38_2 (E : List (Nat × Blk)) (D : Den) (W : DrawFn) (N : Nat) (cc1 : XC) (li2 : St → Ans) (v0 : V) (v1 : V) (v12 : Int) (v13 : Int) (σ : H) :
  denC E D W N (C38_2 ) ⟨[(0, v0), (1, v1), (12, (V.int .i64 v12)), (13, (V.int .i64 v13))], [], [], σ⟩ (fun s'' => keepS [(0, .any), (1, .any), (12, (.int .i64)), (13, (.int .i64))] [] [] s'' li2) (blkK 0 (fun s' => denC E D W N (.keep [] [] [] cc1) s' (Fin38 E) (fun _ _ => none) (Fin38 E)) (fun _ _ => none)) (Fin38 E) =
  T38_2 E D W (fun  σ => denC E D W N cc1 ⟨[], [], [], σ⟩ (Fin38 E) (fun _ _ => none) (Fin38 E)) (fun v0 v1 v12 v13 σ => li2 ⟨[(0, v0), (1, v1), (12, (V.int .i64 v12)), (13, (V.int .i64 v13))], [], [], σ⟩) v0 v1 v12 v13 σ := by kernel_rfl
def J38_1 (E : List (Nat × Blk)) (D : Den) (W : DrawFn) (N : Nat) : H → Ans := T38_1 E D W 
theorem JE38_1 (E : List (Nat × Blk)) (D : Den) (W : DrawFn) (N : Nat) (σ : H) :
  denC E D W N C38_1 ⟨[], [], [], σ⟩ (Fin38 E) (fun _ _ => none) (Fin38 E) = J38_1 E D W N  σ := by
  refine (P38_1 E D W N    σ).trans ?_
  kernel_rfl
def L38_2 (E : List (Nat × Blk)) (D : Den) (W : DrawFn) (N : Nat) (n : Nat) : V → V → Int → Int → H → Ans :=
  Nat.rec (fun _ _ _ _ _ => none) (fun _ ih => T38_2 E D W (J38_1 E D W N ) ih) n
theorem LE38_2 (E : List (Nat × Blk)) (D : Den) (W : DrawFn) (N : Nat) (n : Nat) : ∀ (v0 : V) (v1 : V) (v12 : Int) (v13 : Int) (σ : H),
  iterK (fun rec s' => denC E D W N C38_2 s' (fun s'' => keepS [(0, .any), (1, .any), (12, (.int .i64)), (13, (.int .i64))] [] [] s'' rec) (blkK 0 (fun s' => denC E D W N (.keep [] [] [] C38_1) s' (Fin38 E) (fun _ _ => none) (Fin38 E)) (fun _ _ => none)) (Fin38 E)) n ⟨[(0, v0), (1, v1), (12, (V.int .i64 v12)), (13, (V.int .i64 v13))], [], [], σ⟩ = L38_2 E D W N n v0 v1 v12 v13 σ := by
  induction n with
  | zero => intro v0 v1 v12 v13 σ; rfl
  | succ n ihn =>
    intro v0 v1 v12 v13 σ
    rw [iterK_succ]
    refine (P38_2 E D W N C38_1 (iterK (fun rec s' => denC E D W N C38_2 s' (fun s'' => keepS [(0, .any), (1, .any), (12, (.int .i64)), (13, (.int .i64))] [] [] s'' rec) (blkK 0 (fun s' => denC E D W N (.keep [] [] [] C38_1) s' (Fin38 E) (fun _ _ => none) (Fin38 E)) (fun _ _ => none)) (Fin38 E)) n) v0 v1 v12 v13 σ).trans ?_
    simp only [ihn, JE38_1]
    kernel_rfl
def J38_0 (E : List (Nat × Blk)) (D : Den) (W : DrawFn) (N : Nat) : V → V → H → Ans := T38_0 E D W (L38_2 E D W N N)
theorem JE38_0 (E : List (Nat × Blk)) (D : Den) (W : DrawFn) (N : Nat) (v0 : V) (v1 : V) (σ : H) :
  denC E D W N (C38_0 C38_1 C38_2) ⟨[(0, v0), (1, v1)], [], [], σ⟩ (Fin38 E) (fun _ _ => none) (Fin38 E) = J38_0 E D W N v0 v1 σ := by
  refine (P38_0 E D W N C38_1 C38_2  v0 v1 σ).trans ?_
  simp only [LE38_2]
  kernel_rfl
def F38 (E : List (Nat × Blk)) (D : Den) (W : DrawFn) (N : Nat) (args : List V) (σ : H) : Ans :=
 rtCons args fun x1 l2 =>
 rtCons l2 fun x3 l4 =>
 rtNil l4 (
 J38_0 E D W N x1 x3 σ)
def A38 : XFn := ⟨26, [.any, .any], [(.tmp 4)], (C38_0 C38_1 C38_2)⟩
theorem FE38 (E : List (Nat × Blk)) (D : Den) (W : DrawFn) (N : Nat) (args : List V) (σ : H) : runX E D W N A38 args σ = F38 E D W N args σ := by
  unfold F38
  simp only [← JE38_0]
  kernel_rfl
theorem AO38 : A38.body.ok = true := by kernel_rfl

/-! ### F39: slices.EqualFunc___ogham_api.Field___ogham_api.Field_ogham_api.Field_ogham_api.Field_ -/
def Fin39 (E : List (Nat × Blk)) : St → Ans := fun s => resK E s [(.tmp 6)] fun l => some (oneV l, s.σ)
def C39_0 (cc1 : XC) (cc2 : XC) : XC := (.seq (.ops (.op (some 6) .any [] (.mov (.con (V.bool false))) <|
 .nil))
 (.seq (.seq (.ops (.op (some 10) .any [0] (.mov (.tmp 0)) <|
 .op (some 11) .any [10] (.len false (.tmp 10)) <|
 .op (some 12) .any [1] (.mov (.tmp 1)) <|
 .op (some 13) .any [12] (.len false (.tmp 12)) <|
 .op (some 14) .any [11, 13] (.bin .neq .none (.tmp 11) (.tmp 13)) <|
 .nil))
 (.cond (.tmp 14) (.seq (.ops (.op (some 6) .any [] (.mov (.con (V.bool false))) <|
 .nil))
 .ret)
 .skip))
 (.seq (.seq (.ops (.op (some 15) .any [0] (.mov (.tmp 0)) <|
 .op (some 16) .any [15] (.len false (.tmp 15)) <|
 .op (some 17) .any [] (.mov (.con (V.int .i64 (Int.ofNat 0)))) <|
 .nil))
 (.block 0 (.loop [(1, .any), (2, .any), (15, .any), (16, (.int .i64)), (17, (.int .i64))] [] [] cc2)))
 (.keep [] [] [] cc1))))
def T39_0 (E : List (Nat × Blk)) (D : Den) (W : DrawFn) (K2 : V → V → V → Int → Int → H → Ans) (v0 : V) (v1 : V) (v2 : V) (σ : H) : Ans :=
 slenK v0 fun n1 =>
 slenK v1 fun n2 =>
 condK (not (eqF (Int.ofNat n1) (Int.ofNat n2))) (
 some ((V.bool false), σ)) (
 slenK v0 fun n3 =>
 K2 v1 v2 v0 (Int.ofNat n3) (Int.ofNat 0) σ)
def C39_1 : XC := (.seq (.ops (.op (some 6) .any [] (.mov (.con (V.bool true))) <|
 .nil))
 .ret)
def T39_1 (E : List (Nat × Blk)) (D : Den) (W : DrawFn) (σ : H) : Ans :=
 some ((V.bool true), σ)
def C39_2 : XC := (.seq (.ops (.op (some 18) .any [17, 16] (.bin .lss .none (.tmp 17) (.tmp 16)) <|
 .nil))
 (.seq (.cond (.tmp 18) .skip
 (.exit 0))
 (.seq (.block 1 (.seq (.ops (.op (some 19) .any [17] (.mov (.tmp 17)) <|
 .op (some 20) .any [15, 17] (.iaddrS 11 (.tmp 15) (.tmp 17)) <|
 .op (some 21) (.agg [.str, (.int .i64), .bool, .bool, (.int .i64), (.int .i64), .any, .any, (.int .i64), .any, (.int .i64)]) [20] (.load (some 11) (.tmp 20)) <|
 .pal 8 [] 100 [(V.str ⟨0, 0⟩), (V.int .i64 (Int.ofNat 0)), (V.bool false), (V.bool false), (V.int .i64 (Int.ofNat 0)), (V.int .i64 (Int.ofNat 0)), V.nils, V.nils, (V.int .i64 (Int.ofNat 0)), V.nils, (V.int .i64 (Int.ofNat 0))] <|
 .op (some 7) .any [19] (.mov (.tmp 19)) <|
 .op none (.agg [.str, (.int .i64), .bool, .bool, (.int .i64), (.int .i64), .any, .any, (.int .i64), .any, (.int .i64)]) [8, 21] (.store 11 (.tmp 8) (.tmp 21)) <|
 .nil))
 (.seq (.ops (.op (some 22) .any [1] (.mov (.tmp 1)) <|
 .op (some 23) .any [7] (.mov (.tmp 7)) <|
 .op (some 24) .any [22, 23] (.iaddrS 11 (.tmp 22) (.tmp 23)) <|
 .op (some 25) (.agg [.str, (.int .i64), .bool, .bool, (.int .i64), (.int .i64), .any, .any, (.int .i64), .any, (.int .i64)]) [24] (.load (some 11) (.tmp 24)) <|
 .pal 9 [] 100 [(V.str ⟨0, 0⟩), (V.int .i64 (Int.ofNat 0)), (V.bool false), (V.bool false), (V.int .i64 (Int.ofNat 0)), (V.int .i64 (Int.ofNat 0)), V.nils, V.nils, (V.int .i64 (Int.ofNat 0)), V.nils, (V.int .i64 (Int.ofNat 0))] <|
 .op none (.agg [.str, (.int .i64), .bool, .bool, (.int .i64), (.int .i64), .any, .any, (.int .i64), .any, (.int .i64)]) [9, 25] (.store 11 (.tmp 9) (.tmp 25)) <|
 .nil))
 (.seq (.ops (.op (some 26) .any [2] (.mov (.tmp 2)) <|
 .op (some 27) (.agg [.str, (.int .i64), .bool, .bool, (.int .i64), (.int .i64), .any, .any, (.int .i64), .any, (.int .i64)]) [8] (.load (some 11) (.tmp 8)) <|
 .op (some 28) (.agg [.str, (.int .i64), .bool, .bool, (.int .i64), (.int .i64), .any, .any, (.int .i64), .any, (.int .i64)]) [9] (.load (some 11) (.tmp 9)) <|
 .op (some 29) .bool [26, 27, 28] (.callv (.tmp 26) [(.tmp 27), (.tmp 28)]) <|
 .op (some 30) .any [29] (.un .not (.tmp 29)) <|
 .nil))
 (.cond (.tmp 30) (.seq (.ops (.op (some 6) .any [] (.mov (.con (V.bool false))) <|
 .nil))
 .ret)
 .skip)))))
 (.ops (.op (some 31) .any [17] (.bin .add .none (.tmp 17) (.con (V.int .i64 (Int.ofNat 1)))) <|
 .op (some 17) .any [31] (.mov (.tmp 31)) <|
 .nil)))))
def T39_2 (E : List (Nat × Blk)) (D : Den) (W : DrawFn) (K1 : H → Ans) (R2 : V → V → V → Int → Int → H → Ans) (v1 : V) (v2 : V) (v15 : V) (v16 : Int) (v17 : Int) (σ : H) : Ans :=
 condK (ltF v17 v16) (
 iaddrSK 11 v15 v17 fun b1 o2 =>
 ldnK E σ b1 o2 11 fun l3 =>
 rtCons l3 fun x4 l5 =>
 rtStr x4 fun x6 =>
 rtCons l5 fun x7 l8 =>
 rtInt .i64 x7 fun x9 =>
 rtCons l8 fun x10 l11 =>
 rtBool x10 fun x12 =>
 rtCons l11 fun x13 l14 =>
 rtBool x13 fun x15 =>
 rtCons l14 fun x16 l17 =>
 rtInt .i64 x16 fun x18 =>
 rtCons l17 fun x19 l20 =>
 rtInt .i64 x19 fun x21 =>
 rtCons l20 fun x22 l23 =>
 rtCons l23 fun x24 l25 =>
 rtCons l25 fun x26 l27 =>
 rtInt .i64 x26 fun x28 =>
 rtCons l27 fun x29 l30 =>
 rtCons l30 fun x31 l32 =>
 rtInt .i64 x31 fun x33 =>
 rtNil l32 (
 chk (allOne [(V.str x6), (V.int .i64 x9), (V.bool x12), (V.bool x15), (V.int .i64 x18), (V.int .i64 x21), x22, x24, (V.int .i64 x28), x29, (V.int .i64 x33)]) (
 iaddrSK 11 v1 v17 fun b34 o35 =>
 ldnK E σ b34 o35 11 fun l36 =>
 rtCons l36 fun x37 l38 =>
 rtStr x37 fun x39 =>
 rtCons l38 fun x40 l41 =>
 rtInt .i64 x40 fun x42 =>
 rtCons l41 fun x43 l44 =>
 rtBool x43 fun x45 =>
 rtCons l44 fun x46 l47 =>
 rtBool x46 fun x48 =>
 rtCons l47 fun x49 l50 =>
 rtInt .i64 x49 fun x51 =>
 rtCons l50 fun x52 l53 =>
 rtInt .i64 x52 fun x54 =>
 rtCons l53 fun x55 l56 =>
 rtCons l56 fun x57 l58 =>
 rtCons l58 fun x59 l60 =>
 rtInt .i64 x59 fun x61 =>
 rtCons l60 fun x62 l63 =>
 rtCons l63 fun x64 l65 =>
 rtInt .i64 x64 fun x66 =>
 rtNil l65 (
 chk (allOne [(V.str x39), (V.int .i64 x42), (V.bool x45), (V.bool x48), (V.int .i64 x51), (V.int .i64 x54), x55, x57, (V.int .i64 x61), x62, (V.int .i64 x66)]) (
 callvK D v2 [(V.agg [(V.str x6), (V.int .i64 x9), (V.bool x12), (V.bool x15), (V.int .i64 x18), (V.int .i64 x21), x22, x24, (V.int .i64 x28), x29, (V.int .i64 x33)]), (V.agg [(V.str x39), (V.int .i64 x42), (V.bool x45), (V.bool x48), (V.int .i64 x51), (V.int .i64 x54), x55, x57, (V.int .i64 x61), x62, (V.int .i64 x66)])] σ fun u67 s68 =>
 rtBool u67 fun x69 =>
 condK (not x69) (
 some ((V.bool false), s68)) (
 R2 v1 v2 v15 v16 (addF .i64 v17 (Int.ofNat 1)) s68)))))) (
 K1 σ)
theorem P39_0 (E : List (Nat × Blk)) (D : Den) (W : DrawFn) (N : Nat) (cc1 : XC) (cc2 : XC) (v0 : V) (v1 : V) (v2 : V) (σ : H) :
  denC E D W N (C39_0 cc1 cc2) ⟨[(0, v0), (1, v1), (2, v2)], [], [], σ⟩ (Fin39 E) (fun _ _ => none) (Fin39 E) =
  T39_0 E D W (fun v1 v2 v15 v16 v17 σ => iterK (fun rec s' => denC E D W N cc2 s' (fun s'' => keepS [(1, .any), (2, .any), (15, .any), (16, (.int .i64)), (17, (.int .i64))] [] [] s'' rec) (blkK 0 (fun s' => denC E D W N (.keep [] [] [] cc1) s' (Fin39 E) (fun _ _ => none) (Fin39 E)) (fun _ _ => none)) (Fin39 E)) N ⟨[(1, v1), (2, v2), (15, v15), (16, (V.int .i64 v16)), (17, (V.int .i64 v17))], [], [], σ⟩) v0 v1 v2 σ := by kernel_rfl
theorem P39_1 (E : List (Nat × Blk)) (D : Den) (W : DrawFn) (N : Nat) (σ : H) :
  denC E D W N (C39_1 ) ⟨[], [], [], σ⟩ (Fin39 E) (fun _ _ => none) (Fin39 E) =
  T39_1 E D W   σ := by kernel_rfl
theorem P39_2 (E : List (Nat × Blk)) (D : Den) (W : DrawFn) (N : Nat) (cc1 : XC) (li2 : St → Ans) (v1 : V) (v2 : V) (v15 : V) (v16 : Int) (v17 : Int) (σ : H) :
  denC E D W N (C39_2 ) ⟨[(1, v1), (2, v2), (15, v15), (16, (V.int .i64 v16)), (17, (V.int .i64 v17))], [], [], σ⟩ (fun s'' => keepS [(1, .any), (2, .any), (15, .any), (16, (.int .i64)), (17, (.int .i64))] [] [] s'' li2) (blkK 0 (fun s' => denC E D W N (.keep [] [] [] cc1) s' (Fin39 E) (fun _ _ => none) (Fin39 E)) (fun _ _ => none)) (Fin39 E) =
  T39_2 E D W (fun  σ => denC E D W N cc1 ⟨[], [], [], σ⟩ (Fin39 E) (fun _ _ => none) (Fin39 E)) (fun v1 v2 v15 v16 v17 σ => li2 ⟨[(1, v1), (2, v2), (15, v15), (16, (V.int .i64 v16)), (17, (V.int .i64 v17))], [], [], σ⟩) v1 v2 v15 v16 v17 σ := by kernel_rfl
def J39_1 (E : List (Nat × Blk)) (D : Den) (W : DrawFn) (N : Nat) : H → Ans := T39_1 E D W 
theorem JE39_1 (E : List (Nat × Blk)) (D : Den) (W : DrawFn) (N : Nat) (σ : H) :
  denC E D W N C39_1 ⟨[], [], [], σ⟩ (Fin39 E) (fun _ _ => none) (Fin39 E) = J39_1 E D W N  σ := by
  refine (P39_1 E D W N    σ).trans ?_
  kernel_rfl
def L39_2 (E : List (Nat × Blk)) (D : Den) (W : DrawFn) (N : Nat) (n : Nat) : V → V → V → Int → Int → H → Ans :=
  Nat.rec (fun _ _ _ _ _ _ => none) (fun _ ih => T39_2 E D W (J39_1 E D W N ) ih) n
theorem LE39_2 (E : List (Nat × Blk)) (D : Den) (W : DrawFn) (N : Nat) (n : Nat) : ∀ (v1 : V) (v2 : V) (v15 : V) (v16 : Int) (v17 : Int) (σ : H),
  iterK (fun rec s' => denC E D W N C39_2 s' (fun s'' => keepS [(1, .any), (2, .any), (15, .any), (16, (.int .i64)), (17, (.int .i64))] [] [] s'' rec) (blkK 0 (fun s' => denC E D W N (.keep [] [] [] C39_1) s' (Fin39 E) (fun _ _ => none) (Fin39 E)) (fun _ _ => none)) (Fin39 E)) n ⟨[(1, v1), (2, v2), (15, v15), (16, (V.int .i64 v16)), (17, (V.int .i64 v17))], [], [], σ⟩ = L39_2 E D W N n v1 v2 v15 v16 v17 σ := by
  induction n with
  | zero => intro v1 v2 v15 v16 v17 σ; rfl
  | succ n ihn =>
    intro v1 v2 v15 v16 v17 σ
    rw [iterK_succ]
    refine (P39_2 E D W N C39_1 (iterK (fun rec s' => denC E D W N C39_2 s' (fun s'' => keepS [(1, .any), (2, .any), (15, .any), (16, (.int .i64)), (17, (.int .i64))] [] [] s'' rec) (blkK 0 (fun s' => denC E D W N (.keep [] [] [] C39_1) s' (Fin39 E) (fun _ _ => none) (Fin39 E)) (fun _ _ => none)) (Fin39 E)) n) v1 v2 v15 v16 v17 σ).trans ?_
    simp only [ihn, JE39_1]
    kernel_rfl
def J39_0 (E : List (Nat × Blk)) (D : Den) (W : DrawFn) (N : Nat) : V → V → V → H → Ans := T39_0 E D W (L39_2 E D W N N)
theorem JE39_0 (E : List (Nat × Blk)) (D : Den) (W : DrawFn) (N : Nat) (v0 : V) (v1 : V) (v2 : V) (σ : H) :
  denC E D W N (C39_0 C39_1 C39_2) ⟨[(0, v0), (1, v1), (2, v2)], [], [], σ⟩ (Fin39 E) (fun _ _ => none) (Fin39 E) = J39_0 E D W N v0 v1 v2 σ := by
  refine (P39_0 E D W N C39_1 C39_2  v0 v1 v2 σ).trans ?_
  simp only [LE39_2]
  kernel_rfl
def F39 (E : List (Nat × Blk)) (D : Den) (W : DrawFn) (N : Nat) (args : List V) (σ : H) : Ans :=
 rtCons args fun x1 l2 =>
 rtCons l2 fun x3 l4 =>
 rtCons l4 fun x5 l6 =>
 rtNil l6 (
 J39_0 E D W N x1 x3 x5 σ)
def A39 : XFn := ⟨32, [.any, .any, .any], [(.tmp 6)], (C39_0 C39_1 C39_2)⟩
theorem FE39 (E : List (Nat × Blk)) (D : Den) (W : DrawFn) (N : Nat) (args : List V) (σ : H) : runX E D W N A39 args σ = F39 E D W N args σ := by
  unfold F39
  simp only [← JE39_0]
  kernel_rfl
theorem AO39 : A39.body.ok = true := by kernel_rfl

/-! ### F40: ogham_print.sameField -/
def Fin40 (E : List (Nat × Blk)) : St → Ans := fun s => resK E s [(.tmp 4)] fun l => some (oneV l, s.σ)
def C40_0 : XC := (.seq (.ops (.op (some 2) .any [0] (.box 100 (.tmp 0)) <|
 .op (some 3) .any [1] (.box 100 (.tmp 1)) <|
 .op (some 4) .any [] (.mov (.con (V.bool false))) <|
 .nil))
 (.seq (.ops (.op (some 5) .any [2] (.faddr 0 (.tmp 2)) <|
 .op (some 6) .str [5] (.load none (.tmp 5)) <|
 .op (some 7) .any [3] (.faddr 0 (.tmp 3)) <|
 .op (some 8) .str [7] (.load none (.tmp 7)) <|
 .op (some 9) .any [6, 8] (.bin .eql .none (.tmp 6) (.tmp 8)) <|
 .op (some 10) .any [9] (.mov (.tmp 9)) <|
 .grp 10 true (.op (some 11) .any [2, 10] (.faddr 1 (.tmp 2)) <|
 .op (some 12) (.int .i64) [11, 10] (.load none (.tmp 11)) <|
 .op (some 13) .any [3, 10] (.faddr 1 (.tmp 3)) <|
 .op (some 14) (.int .i64) [13, 10] (.load none (.tmp 13)) <|
 .op (some 15) .any [12, 14, 10] (.bin .eql .none (.tmp 12) (.tmp 14)) <|
 .nil) 16 [10, 15] (.tmp 10) (.tmp 15) (.con (V.bool false)) <|
 .op (some 17) .any [16] (.mov (.tmp 16)) <|
 .grp 17 true (.op (some 18) .any [2, 17] (.faddr 2 (.tmp 2)) <|
 .op (some 19) .bool [18, 17] (.load none (.tmp 18)) <|
 .op (some 20) .any [3, 17] (.faddr 2 (.tmp 3)) <|
 .op (some 21) .bool [20, 17] (.load none (.tmp 20)) <|
 .op (some 22) .any [19, 21, 17] (.bin .eql .bool (.tmp 19) (.tmp 21)) <|
 .nil) 23 [17, 22] (.tmp 17) (.tmp 22) (.con (V.bool false)) <|
 .op (some 24) .any [23] (.mov (.tmp 23)) <|
 .grp 24 true (.op (some 25) .any [2, 24] (.faddr 3 (.tmp 2)) <|
 .op (some 26) .bool [25, 24] (.load none (.tmp 25)) <|
 .op (some 27) .any [3, 24] (.faddr 3 (.tmp 3)) <|
 .op (some 28) .bool [27, 24] (.load none (.tmp 27)) <|
 .op (some 29) .any [26, 28, 24] (.bin .eql .bool (.tmp 26) (.tmp 28)) <|
 .nil) 30 [24, 29] (.tmp 24) (.tmp 29) (.con (V.bool false)) <|
 .op (some 31) .any [30] (.mov (.tmp 30)) <|
 .grp 31 true (.op (some 32) .any [2, 31] (.faddr 4 (.tmp 2)) <|
 .op (some 33) (.agg [(.int .i64), (.int .i64), .any, .any, (.int .i64), .any]) [32, 31] (.load (some 6) (.tmp 32)) <|
 .op (some 34) .any [3, 31] (.faddr 4 (.tmp 3)) <|
 .op (some 35) (.agg [(.int .i64), (.int .i64), .any, .any, (.int .i64), .any]) [34, 31] (.load (some 6) (.tmp 34)) <|
 .op (some 36) .bool [33, 35, 31] (.call 67 [(.tmp 33), (.tmp 35)]) <|
 .nil) 37 [31, 36] (.tmp 31) (.tmp 36) (.con (V.bool false)) <|
 .op (some 38) .any [37] (.mov (.tmp 37)) <|
 .grp 38 true (.op (some 39) .any [2, 38] (.faddr 10 (.tmp 2)) <|
 .op (some 40) (.int .i64) [39, 38] (.load none (.tmp 39)) <|
 .op (some 41) .any [3, 38] (.faddr 10 (.tmp 3)) <|
 .op (some 42) (.int .i64) [41, 38] (.load none (.tmp 41)) <|
 .op (some 43) .any [40, 42, 38] (.bin .eql .none (.tmp 40) (.tmp 42)) <|
 .nil) 44 [38, 43] (.tmp 38) (.tmp 43) (.con (V.bool false)) <|
 .op (some 4) .any [44] (.mov (.tmp 44)) <|
 .nil))
 .ret))
def T40_0 (E : List (Nat × Blk)) (D : Den) (W : DrawFn) (v0_0 : BS) (v0_1 : Int) (v0_2 : Bool) (v0_3 : Bool) (v0_4 : Int) (v0_5 : Int) (v0_6 : V) (v0_7 : V) (v0_8 : Int) (v0_9 : V) (v0_10 : Int) (v1_0 : BS) (v1_1 : Int) (v1_2 : Bool) (v1_3 : Bool) (v1_4 : Int) (v1_5 : Int) (v1_6 : V) (v1_7 : V) (v1_8 : Int) (v1_9 : V) (v1_10 : Int) (σ : H) : Ans :=
 chk (allOne (V.cells (V.agg [(V.str v0_0), (V.int .i64 v0_1), (V.bool v0_2), (V.bool v0_3), (V.int .i64 v0_4), (V.int .i64 v0_5), v0_6, v0_7, (V.int .i64 v0_8), v0_9, (V.int .i64 v0_10)]))) (
 let s1 := newB σ (.cells (V.cells (V.agg [(V.str v0_0), (V.int .i64 v0_1), (V.bool v0_2), (V.bool v0_3), (V.int .i64 v0_4), (V.int .i64 v0_5), v0_6, v0_7, (V.int .i64 v0_8), v0_9, (V.int .i64 v0_10)])));
 chk (allOne (V.cells (V.agg [(V.str v1_0), (V.int .i64 v1_1), (V.bool v1_2), (V.bool v1_3), (V.int .i64 v1_4), (V.int .i64 v1_5), v1_6, v1_7, (V.int .i64 v1_8), v1_9, (V.int .i64 v1_10)]))) (
 let s2 := newB s1 (.cells (V.cells (V.agg [(V.str v1_0), (V.int .i64 v1_1), (V.bool v1_2), (V.bool v1_3), (V.int .i64 v1_4), (V.int .i64 v1_5), v1_6, v1_7, (V.int .i64 v1_8), v1_9, (V.int .i64 v1_10)])));
 ldK E s2 (H.next σ) 0 fun u3 =>
 rtStr u3 fun x4 =>
 ldK E s2 (H.next s1) 0 fun u5 =>
 rtStr u5 fun x6 =>
 joinB (fun c7 s8 =>
 joinB (fun c10 s11 =>
 joinB (fun c13 s14 =>
 joinB (fun c16 s17 =>
 joinB (fun c19 s20 =>
 some ((V.bool c19), s20)) fun k21 =>
 condK c16 (
 ldK E s17 (H.next σ) 10 fun u22 =>
 rtInt .i64 u22 fun x23 =>
 ldK E s17 (H.next s1) 10 fun u24 =>
 rtInt .i64 u24 fun x25 =>
 k21 (eqF x23 x25) s17) (
 k21 false s17)) fun k18 =>
 condK c13 (
 ldnK E s14 (H.next σ) 4 6 fun l26 =>
 rtCons l26 fun x27 l28 =>
 rtInt .i64 x27 fun x29 =>
 rtCons l28 fun x30 l31 =>
 rtInt .i64 x30 fun x32 =>
 rtCons l31 fun x33 l34 =>
 rtCons l34 fun x35 l36 =>
 rtCons l36 fun x37 l38 =>
 rtInt .i64 x37 fun x39 =>
 rtCons l38 fun x40 l41 =>
 rtNil l41 (
 ldnK E s14 (H.next s1) 4 6 fun l42 =>
 rtCons l42 fun x43 l44 =>
 rtInt .i64 x43 fun x45 =>
 rtCons l44 fun x46 l47 =>
 rtInt .i64 x46 fun x48 =>
 rtCons l47 fun x49 l50 =>
 rtCons l50 fun x51 l52 =>
 rtCons l52 fun x53 l54 =>
 rtInt .i64 x53 fun x55 =>
 rtCons l54 fun x56 l57 =>
 rtNil l57 (
 callK (D 67 [(V.agg [(V.int .i64 x29), (V.int .i64 x32), x33, x35, (V.int .i64 x39), x40]), (V.agg [(V.int .i64 x45), (V.int .i64 x48), x49, x51, (V.int .i64 x55), x56])] s14) fun u58 s59 =>
 rtBool u58 fun x60 =>
 k18 x60 s59))) (
 k18 false s14)) fun k15 =>
 condK c10 (
 ldK E s11 (H.next σ) 3 fun u61 =>
 rtBool u61 fun x62 =>
 ldK E s11 (H.next s1) 3 fun u63 =>
 rtBool u63 fun x64 =>
 eqK .bool (V.bool x62) (V.bool x64) fun c65 =>
 k15 c65 s11) (
 k15 false s11)) fun k12 =>
 condK c7 (
 ldK E s8 (H.next σ) 2 fun u66 =>
 rtBool u66 fun x67 =>
 ldK E s8 (H.next s1) 2 fun u68 =>
 rtBool u68 fun x69 =>
 eqK .bool (V.bool x67) (V.bool x69) fun c70 =>
 k12 c70 s8) (
 k12 false s8)) fun k9 =>
 condK (BS.beq x4 x6) (
 ldK E s2 (H.next σ) 1 fun u71 =>
 rtInt .i64 u71 fun x72 =>
 ldK E s2 (H.next s1) 1 fun u73 =>
 rtInt .i64 u73 fun x74 =>
 k9 (eqF x72 x74) s2) (
 k9 false s2)))
theorem P40_0 (E : List (Nat × Blk)) (D : Den) (W : DrawFn) (N : Nat) (v0_0 : BS) (v0_1 : Int) (v0_2 : Bool) (v0_3 : Bool) (v0_4 : Int) (v0_5 : Int) (v0_6 : V) (v0_7 : V) (v0_8 : Int) (v0_9 : V) (v0_10 : Int) (v1_0 : BS) (v1_1 : Int) (v1_2 : Bool) (v1_3 : Bool) (v1_4 : Int) (v1_5 : Int) (v1_6 : V) (v1_7 : V) (v1_8 : Int) (v1_9 : V) (v1_10 : Int) (σ : H) :
  denC E D W N (C40_0 ) ⟨[(0, (V.agg [(V.str v0_0), (V.int .i64 v0_1), (V.bool v0_2), (V.bool v0_3), (V.int .i64 v0_4), (V.int .i64 v0_5), v0_6, v0_7, (V.int .i64 v0_8), v0_9, (V.int .i64 v0_10)])), (1, (V.agg [(V.str v1_0), (V.int .i64 v1_1), (V.bool v1_2), (V.bool v1_3), (V.int .i64 v1_4), (V.int .i64 v1_5), v1_6, v1_7, (V.int .i64 v1_8), v1_9, (V.int .i64 v1_10)]))], [], [], σ⟩ (Fin40 E) (fun _ _ => none) (Fin40 E) =
  T40_0 E D W  v0_0 v0_1 v0_2 v0_3 v0_4 v0_5 v0_6 v0_7 v0_8 v0_9 v0_10 v1_0 v1_1 v1_2 v1_3 v1_4 v1_5 v1_6 v1_7 v1_8 v1_9 v1_10 σ := by kernel_rfl
def J40_0 (E : List (Nat × Blk)) (D : Den) (W : DrawFn) (N : Nat) : BS → Int → Bool → Bool → Int → Int → V → V → Int → V → Int → BS → Int → Bool → Bool → Int → Int → V → V → Int → V → Int → H → Ans := T40_0 E D W 
theorem JE40_0 (E : List (Nat × Blk)) (D : Den) (W : DrawFn) (N : Nat) (v0_0 : BS) (v0_1 : Int) (v0_2 : Bool) (v0_3 : Bool) (v0_4 : Int) (v0_5 : Int) (v0_6 : V) (v0_7 : V) (v0_8 : Int) (v0_9 : V) (v0_10 : Int) (v1_0 : BS) (v1_1 : Int) (v1_2 : Bool) (v1_3 : Bool) (v1_4 : Int) (v1_5 : Int) (v1_6 : V) (v1_7 : V) (v1_8 : Int) (v1_9 : V) (v1_10 : Int) (σ : H) :
  denC E D W N C40_0 ⟨[(0, (V.agg [(V.str v0_0), (V.int .i64 v0_1), (V.bool v0_2), (V.bool v0_3), (V.int .i64 v0_4), (V.int .i64 v0_5), v0_6, v0_7, (V.int .i64 v0_8), v0_9, (V.int .i64 v0_10)])), (1, (V.agg [(V.str v1_0), (V.int .i64 v1_1), (V.bool v1_2), (V.bool v1_3), (V.int .i64 v1_4), (V.int .i64 v1_5), v1_6, v1_7, (V.int .i64 v1_8), v1_9, (V.int .i64 v1_10)]))], [], [], σ⟩ (Fin40 E) (fun _ _ => none) (Fin40 E) = J40_0 E D W N v0_0 v0_1 v0_2 v0_3 v0_4 v0_5 v0_6 v0_7 v0_8 v0_9 v0_10 v1_0 v1_1 v1_2 v1_3 v1_4 v1_5 v1_6 v1_7 v1_8 v1_9 v1_10 σ := by
  refine (P40_0 E D W N   v0_0 v0_1 v0_2 v0_3 v0_4 v0_5 v0_6 v0_7 v0_8 v0_9 v0_10 v1_0 v1_1 v1_2 v1_3 v1_4 v1_5 v1_6 v1_7 v1_8 v1_9 v1_10 σ).trans ?_
  kernel_rfl
def F40 (E : List (Nat × Blk)) (D : Den) (W : DrawFn) (N : Nat) (args : List V) (σ : H) : Ans :=
 rtCons args fun x1 l2 =>
 rtAgg x1 fun l3 =>
 rtCons l3 fun x4 l5 =>
 rtStr x4 fun x6 =>
 rtCons l5 fun x7 l8 =>
 rtInt .i64 x7 fun x9 =>
 rtCons l8 fun x10 l11 =>
 rtBool x10 fun x12 =>
 rtCons l11 fun x13 l14 =>
 rtBool x13 fun x15 =>
 rtCons l14 fun x16 l17 =>
 rtInt .i64 x16 fun x18 =>
 rtCons l17 fun x19 l20 =>
 rtInt .i64 x19 fun x21 =>
 rtCons l20 fun x22 l23 =>
 rtCons l23 fun x24 l25 =>
 rtCons l25 fun x26 l27 =>
 rtInt .i64 x26 fun x28 =>
 rtCons l27 fun x29 l30 =>
 rtCons l30 fun x31 l32 =>
 rtInt .i64 x31 fun x33 =>
 rtNil l32 (
 rtCons l2 fun x34 l35 =>
 rtAgg x34 fun l36 =>
 rtCons l36 fun x37 l38 =>
 rtStr x37 fun x39 =>
 rtCons l38 fun x40 l41 =>
 rtInt .i64 x40 fun x42 =>
 rtCons l41 fun x43 l44 =>
 rtBool x43 fun x45 =>
 rtCons l44 fun x46 l47 =>
 rtBool x46 fun x48 =>
 rtCons l47 fun x49 l50 =>
 rtInt .i64 x49 fun x51 =>
 rtCons l50 fun x52 l53 =>
 rtInt .i64 x52 fun x54 =>
 rtCons l53 fun x55 l56 =>
 rtCons l56 fun x57 l58 =>
 rtCons l58 fun x59 l60 =>
 rtInt .i64 x59 fun x61 =>
 rtCons l60 fun x62 l63 =>
 rtCons l63 fun x64 l65 =>
 rtInt .i64 x64 fun x66 =>
 rtNil l65 (
 rtNil l35 (
 J40_0 E D W N x6 x9 x12 x15 x18 x21 x22 x24 x28 x29 x33 x39 x42 x45 x48 x51 x54 x55 x57 x61 x62 x66 σ)))
def A40 : XFn := ⟨45, [(.agg [.str, (.int .i64), .bool, .bool, (.int .i64), (.int .i64), .any, .any, (.int .i64), .any, (.int .i64)]), (.agg [.str, (.int .i64), .bool, .bool, (.int .i64), (.int .i64), .any, .any, (.int .i64), .any, (.int .i64)])], [(.tmp 4)], C40_0⟩
theorem FE40 (E : List (Nat × Blk)) (D : Den) (W : DrawFn) (N : Nat) (args : List V) (σ : H) : runX E D W N A40 args σ = F40 E D W N args σ := by
  unfold F40
  simp only [← JE40_0]
  kernel_rfl
theorem AO40 : A40.body.ok = true := by kernel_rfl

/-! ### F42: ogham_oghamref04.letter -/
def Fin42 (E : List (Nat × Blk)) : St → Ans := fun s => resK E s [(.tmp 2)] fun l => some (oneV l, s.σ)
def C42_0 : XC := (.seq (.ops (.op (some 2) .any [] (.mov (.con (V.bool false))) <|
 .nil))
 (.seq (.ops (.op (some 3) .any [0] (.mov (.tmp 0)) <|
 .op (some 4) .any [3] (.bin .geq .none (.tmp 3) (.con (V.int .u8 (Int.ofNat 97)))) <|
 .op (some 5) .any [4] (.mov (.tmp 4)) <|
 .grp 5 true (.op (some 6) .any [0, 5] (.mov (.tmp 0)) <|
 .op (some 7) .any [6, 5] (.bin .leq .none (.tmp 6) (.con (V.int .u8 (Int.ofNat 122)))) <|
 .nil) 8 [5, 7] (.tmp 5) (.tmp 7) (.con (V.bool false)) <|
 .op (some 9) .any [8] (.mov (.tmp 8)) <|
 .grp 9 false (.op (some 10) .any [0, 9] (.mov (.tmp 0)) <|
 .op (some 11) .any [10, 9] (.bin .geq .none (.tmp 10) (.con (V.int .u8 (Int.ofNat 65)))) <|
 .op (some 12) .any [11, 9] (.mov (.tmp 11)) <|
 .grp 12 true (.op (some 13) .any [0, 12] (.mov (.tmp 0)) <|
 .op (some 14) .any [13, 12] (.bin .leq .none (.tmp 13) (.con (V.int .u8 (Int.ofNat 90)))) <|
 .nil) 15 [12, 14, 9] (.tmp 12) (.tmp 14) (.con (V.bool false)) <|
 .nil) 16 [9, 15] (.tmp 9) (.con (V.bool true)) (.tmp 15) <|
 .op (some 2) .any [16] (.mov (.tmp 16)) <|
 .nil))
 .ret))
def T42_0 (E : List (Nat × Blk)) (D : Den) (W : DrawFn) (v0 : Int) (σ : H) : Ans :=
 joinB (fun c1 s2 =>
 joinB (fun c4 s5 =>
 some ((V.bool c4), s5)) fun k6 =>
 condK c1 (
 k6 true s2) (
 joinB (fun c7 s8 =>
 k6 c7 s8) fun k9 =>
 condK (leF (Int.ofNat 65) v0) (
 k9 (leF v0 (Int.ofNat 90)) s2) (
 k9 false s2))) fun k3 =>
 condK (leF (Int.ofNat 97) v0) (
 k3 (leF v0 (Int.ofNat 122)) σ) (
 k3 false σ)
theorem P42_0 (E : List (Nat × Blk)) (D : Den) (W : DrawFn) (N : Nat) (v0 : Int) (σ : H) :
  denC E D W N (C42_0 ) ⟨[(0, (V.int .u8 v0))], [], [], σ⟩ (Fin42 E) (fun _ _ => none) (Fin42 E) =
  T42_0 E D W  v0 σ := by kernel_rfl
def J42_0 (E : List (Nat × Blk)) (D : Den) (W : DrawFn) (N : Nat) : Int → H → Ans := T42_0 E D W 
theorem JE42_0 (E : List (Nat × Blk)) (D : Den) (W : DrawFn) (N : Nat) (v0 : Int) (σ : H) :
  denC E D W N C42_0 ⟨[(0, (V.int .u8 v0))], [], [], σ⟩ (Fin42 E) (fun _ _ => none) (Fin42 E) = J42_0 E D W N v0 σ := by
  refine (P42_0 E D W N   v0 σ).trans ?_
  kernel_rfl
def F42 (E : List (Nat × Blk)) (D : Den) (W : DrawFn) (N : Nat) (args : List V) (σ : H) : Ans :=
 rtCons args fun x1 l2 =>
 rtInt .u8 x1 fun x3 =>
 rtNil l2 (
 J42_0 E D W N x3 σ)
def A42 : XFn := ⟨17, [(.int .u8)], [(.tmp 2)], C42_0⟩
theorem FE42 (E : List (Nat × Blk)) (D : Den) (W : DrawFn) (N : Nat) (args : List V) (σ : H) : runX E D W N A42 args σ = F42 E D W N args σ := by
  unfold F42
  simp only [← JE42_0]
  kernel_rfl
theorem AO42 : A42.body.ok = true := by kernel_rfl

/-! ### F43: ogham_oghamref04.name -/
def Fin43 (E : List (Nat × Blk)) : St → Ans := fun s => resK E s [(.tmp 4)] fun l => some (oneV l, s.σ)
def C43_0 (cc1 : XC) (cc2 : XC) : XC := (.seq (.ops (.op (some 4) .any [] (.mov (.con (V.int .i64 (Int.ofNat 0)))) <|
 .nil))
 (.seq (.ops (.op (some 6) .any [1] (.mov (.tmp 1)) <|
 .op (some 5) .any [6] (.mov (.tmp 6)) <|
 .nil))
 (.seq (.block 0 (.loop [(0, .str), (1, (.int .i64)), (5, (.int .i64))] [] [] cc2))
 (.keep [(0, .str), (1, (.int .i64)), (5, (.int .i64))] [] [] cc1))))
def T43_0 (E : List (Nat × Blk)) (D : Den) (W : DrawFn) (K2 : BS → Int → Int → H → Ans) (v0 : BS) (v1 : Int) (σ : H) : Ans :=
 K2 v0 v1 v1 σ
def C43_1 : XC := (.seq (.seq (.ops (.op (some 38) .any [0] (.mov (.tmp 0)) <|
 .op (some 39) .any [1] (.mov (.tmp 1)) <|
 .op (some 40) .any [39] (.bin .sub .none (.tmp 39) (.con (V.int .i64 (Int.ofNat 1)))) <|
 .op (some 41) .any [38, 40] (.idxStr (.tmp 38) (.tmp 40)) <|
 .op (some 42) .any [41] (.bin .eql .none (.tmp 41) (.con (V.int .u8 (Int.ofNat 45)))) <|
 .op (some 43) .any [42] (.mov (.tmp 42)) <|
 .grp 43 false (.op (some 44) .any [1, 43] (.mov (.tmp 1)) <|
 .op (some 45) .any [5, 43] (.mov (.tmp 5)) <|
 .op (some 46) .any [44, 45, 43] (.bin .sub .none (.tmp 44) (.tmp 45)) <|
 .op (some 47) .any [46, 43] (.bin .gtr .none (.tmp 46) (.con (V.int .i64 (Int.ofNat 60)))) <|
 .nil) 48 [43, 47] (.tmp 43) (.con (V.bool true)) (.tmp 47) <|
 .nil))
 (.cond (.tmp 48) (.seq (.ops (.op (some 4) .any [] (.mov (.con (V.int .i64 (Int.negSucc 0)))) <|
 .nil))
 .ret)
 .skip))
 (.seq (.ops (.op (some 49) .any [1] (.mov (.tmp 1)) <|
 .op (some 4) .any [49] (.mov (.tmp 49)) <|
 .nil))
 .ret))
def T43_1 (E : List (Nat × Blk)) (D : Den) (W : DrawFn) (v0 : BS) (v1 : Int) (v5 : Int) (σ : H) : Ans :=
 idxStrX v0 (subF .i64 v1 (Int.ofNat 1)) fun x1 =>
 joinB (fun c2 s3 =>
 condK c2 (
 some ((V.int .i64 (Int.negSucc 0)), s3)) (
 some ((V.int .i64 v1), s3))) fun k4 =>
 condK (eqF x1 (Int.ofNat 45)) (
 k4 true σ) (
 k4 (ltF (Int.ofNat 60) (subF .i64 v1 v5)) σ)
def C43_2 : XC := (.seq (.seq (.ops (.op (some 7) .any [1] (.mov (.tmp 1)) <|
 .op (some 8) .any [0] (.mov (.tmp 0)) <|
 .op (some 9) .any [8] (.len true (.tmp 8)) <|
 .op (some 10) .any [7, 9] (.bin .lss .none (.tmp 7) (.tmp 9)) <|
 .op (some 11) .any [10] (.mov (.tmp 10)) <|
 .grp 11 true (.op (some 12) .any [0, 11] (.mov (.tmp 0)) <|
 .op (some 13) .any [1, 11] (.mov (.tmp 1)) <|
 .op (some 14) .any [12, 13, 11] (.idxStr (.tmp 12) (.tmp 13)) <|
 .op (some 15) .bool [14, 11] (.call 42 [(.tmp 14)]) <|
 .op (some 16) .any [15, 11] (.mov (.tmp 15)) <|
 .grp 16 false (.op (some 17) .any [0, 16] (.mov (.tmp 0)) <|
 .op (some 18) .any [1, 16] (.mov (.tmp 1)) <|
 .op (some 19) .any [17, 18, 16] (.idxStr (.tmp 17) (.tmp 18)) <|
 .op (some 20) .bool [19, 16] (.call 45 [(.tmp 19)]) <|
 .nil) 21 [16, 20, 11] (.tmp 16) (.con (V.bool true)) (.tmp 20) <|
 .op (some 22) .any [21, 11] (.mov (.tmp 21)) <|
 .grp 22 false (.op (some 23) .any [0, 22] (.mov (.tmp 0)) <|
 .op (some 24) .any [1, 22] (.mov (.tmp 1)) <|
 .op (some 25) .any [23, 24, 22] (.idxStr (.tmp 23) (.tmp 24)) <|
 .op (some 26) .any [25, 22] (.bin .eql .none (.tmp 25) (.con (V.int .u8 (Int.ofNat 45)))) <|
 .op (some 27) .any [26, 22] (.mov (.tmp 26)) <|
 .grp 27 true (.op (some 28) .any [0, 27] (.mov (.tmp 0)) <|
 .op (some 29) .any [1, 27] (.mov (.tmp 1)) <|
 .op (some 30) .any [29, 27] (.bin .add .none (.tmp 29) (.con (V.int .i64 (Int.ofNat 1)))) <|
 .op (some 31) (.int .u8) [28, 30, 27] (.call 41 [(.tmp 28), (.tmp 30)]) <|
 .op (some 32) .any [31, 27] (.bin .neq .none (.tmp 31) (.con (V.int .u8 (Int.ofNat 45)))) <|
 .nil) 33 [27, 32, 22] (.tmp 27) (.tmp 32) (.con (V.bool false)) <|
 .nil) 34 [22, 33, 11] (.tmp 22) (.con (V.bool true)) (.tmp 33) <|
 .nil) 35 [11, 34] (.tmp 11) (.tmp 34) (.con (V.bool false)) <|
 .nil))
 (.cond (.tmp 35) .skip
 (.exit 0)))
 (.block 1 (.ops (.op (some 36) .any [1] (.mov (.tmp 1)) <|
 .op (some 37) .any [36] (.bin .add .none (.tmp 36) (.con (V.int .i64 (Int.ofNat 1)))) <|
 .op (some 1) .any [37] (.mov (.tmp 37)) <|
 .nil))))
def T43_2 (E : List (Nat × Blk)) (D : Den) (W : DrawFn) (K1 : BS → Int → Int → H → Ans) (R2 : BS → Int → Int → H → Ans) (v0 : BS) (v1 : Int) (v5 : Int) (σ : H) : Ans :=
 joinB (fun c1 s2 =>
 condK c1 (
 R2 v0 (addF .i64 v1 (Int.ofNat 1)) v5 s2) (
 K1 v0 v1 v5 s2)) fun k3 =>
 condK (ltF v1 (Int.ofNat (BS.len v0))) (
 idxStrX v0 v1 fun x4 =>
 callK (D 42 [(V.int .u8 x4)] σ) fun u5 s6 =>
 rtBool u5 fun x7 =>
 joinB (fun c8 s9 =>
 joinB (fun c11 s12 =>
 k3 c11 s12) fun k13 =>
 condK c8 (
 k13 true s9) (
 idxStrX v0 v1 fun x14 =>
 joinB (fun c15 s16 =>
 k13 c15 s16) fun k17 =>
 condK (eqF x14 (Int.ofNat 45)) (
 callK (D 41 [(V.str v0), (V.int .i64 (addF .i64 v1 (Int.ofNat 1)))] s9) fun u18 s19 =>
 rtInt .u8 u18 fun x20 =>
 k17 (not (eqF x20 (Int.ofNat 45))) s19) (
 k17 false s9))) fun k10 =>
 condK x7 (
 k10 true s6) (
 idxStrX v0 v1 fun x21 =>
 callK (D 45 [(V.int .u8 x21)] s6) fun u22 s23 =>
 rtBool u22 fun x24 =>
 k10 x24 s23)) (
 k3 false σ)
theorem P43_0 (E : List (Nat × Blk)) (D : Den) (W : DrawFn) (N : Nat) (cc1 : XC) (cc2 : XC) (v0 : BS) (v1 : Int) (σ : H) :
  denC E D W N (C43_0 cc1 cc2) ⟨[(0, (V.str v0)), (1, (V.int .i64 v1))], [], [], σ⟩ (Fin43 E) (fun _ _ => none) (Fin43 E) =
  T43_0 E D W (fun v0 v1 v5 σ => iterK (fun rec s' => denC E D W N cc2 s' (fun s'' => keepS [(0, .str), (1, (.int .i64)), (5, (.int .i64))] [] [] s'' rec) (blkK 0 (fun s' => denC E D W N (.keep [(0, .str), (1, (.int .i64)), (5, (.int .i64))] [] [] cc1) s' (Fin43 E) (fun _ _ => none) (Fin43 E)) (fun _ _ => none)) (Fin43 E)) N ⟨[(0, (V.str v0)), (1, (V.int .i64 v1)), (5, (V.int .i64 v5))], [], [], σ⟩) v0 v1 σ := by kernel_rfl
theorem P43_1 (E : List (Nat × Blk)) (D : Den) (W : DrawFn) (N : Nat) (v0 : BS) (v1 : Int) (v5 : Int) (σ : H) :
  denC E D W N (C43_1 ) ⟨[(0, (V.str v0)), (1, (V.int .i64 v1)), (5, (V.int .i64 v5))], [], [], σ⟩ (Fin43 E) (fun _ _ => none) (Fin43 E) =
  T43_1 E D W  v0 v1 v5 σ := by kernel_rfl
theorem P43_2 (E : List (Nat × Blk)) (D : Den) (W : DrawFn) (N : Nat) (cc1 : XC) (li2 : St → Ans) (v0 : BS) (v1 : Int) (v5 : Int) (σ : H) :
  denC E D W N (C43_2 ) ⟨[(0, (V.str v0)), (1, (V.int .i64 v1)), (5, (V.int .i64 v5))], [], [], σ⟩ (fun s'' => keepS [(0, .str), (1, (.int .i64)), (5, (.int .i64))] [] [] s'' li2) (blkK 0 (fun s' => denC E D W N (.keep [(0, .str), (1, (.int .i64)), (5, (.int .i64))] [] [] cc1) s' (Fin43 E) (fun _ _ => none) (Fin43 E)) (fun _ _ => none)) (Fin43 E) =
  T43_2 E D W (fun v0 v1 v5 σ => denC E D W N cc1 ⟨[(0, (V.str v0)), (1, (V.int .i64 v1)), (5, (V.int .i64 v5))], [], [], σ⟩ (Fin43 E) (fun _ _ => none) (Fin43 E)) (fun v0 v1 v5 σ => li2 ⟨[(0, (V.str v0)), (1, (V.int .i64 v1)), (5, (V.int .i64 v5))], [], [], σ⟩) v0 v1 v5 σ := by kernel_rfl
def J43_1 (E : List (Nat × Blk)) (D : Den) (W : DrawFn) (N : Nat) : BS → Int → Int → H → Ans := T43_1 E D W 
theorem JE43_1 (E : List (Nat × Blk)) (D : Den) (W : DrawFn) (N : Nat) (v0 : BS) (v1 : Int) (v5 : Int) (σ : H) :
  denC E D W N C43_1 ⟨[(0, (V.str v0)), (1, (V.int .i64 v1)), (5, (V.int .i64 v5))], [], [], σ⟩ (Fin43 E) (fun _ _ => none) (Fin43 E) = J43_1 E D W N v0 v1 v5 σ := by
  refine (P43_1 E D W N   v0 v1 v5 σ).trans ?_
  kernel_rfl
def L43_2 (E : List (Nat × Blk)) (D : Den) (W : DrawFn) (N : Nat) (n : Nat) : BS → Int → Int → H → Ans :=
  Nat.rec (fun _ _ _ _ => none) (fun _ ih => T43_2 E D W (J43_1 E D W N ) ih) n
theorem LE43_2 (E : List (Nat × Blk)) (D : Den) (W : DrawFn) (N : Nat) (n : Nat) : ∀ (v0 : BS) (v1 : Int) (v5 : Int) (σ : H),
  iterK (fun rec s' => denC E D W N C43_2 s' (fun s'' => keepS [(0, .str), (1, (.int .i64)), (5, (.int .i64))] [] [] s'' rec) (blkK 0 (fun s' => denC E D W N (.keep [(0, .str), (1, (.int .i64)), (5, (.int .i64))] [] [] C43_1) s' (Fin43 E) (fun _ _ => none) (Fin43 E)) (fun _ _ => none)) (Fin43 E)) n ⟨[(0, (V.str v0)), (1, (V.int .i64 v1)), (5, (V.int .i64 v5))], [], [], σ⟩ = L43_2 E D W N n v0 v1 v5 σ := by
  induction n with
  | zero => intro v0 v1 v5 σ; rfl
  | succ n ihn =>
    intro v0 v1 v5 σ
    rw [iterK_succ]
    refine (P43_2 E D W N C43_1 (iterK (fun rec s' => denC E D W N C43_2 s' (fun s'' => keepS [(0, .str), (1, (.int .i64)), (5, (.int .i64))] [] [] s'' rec) (blkK 0 (fun s' => denC E D W N (.keep [(0, .str), (1, (.int .i64)), (5, (.int .i64))] [] [] C43_1) s' (Fin43 E) (fun _ _ => none) (Fin43 E)) (fun _ _ => none)) (Fin43 E)) n) v0 v1 v5 σ).trans ?_
    simp only [ihn, JE43_1]
    kernel_rfl
def J43_0 (E : List (Nat × Blk)) (D : Den) (W : DrawFn) (N : Nat) : BS → Int → H → Ans := T43_0 E D W (L43_2 E D W N N)
theorem JE43_0 (E : List (Nat × Blk)) (D : Den) (W : DrawFn) (N : Nat) (v0 : BS) (v1 : Int) (σ : H) :
  denC E D W N (C43_0 C43_1 C43_2) ⟨[(0, (V.str v0)), (1, (V.int .i64 v1))], [], [], σ⟩ (Fin43 E) (fun _ _ => none) (Fin43 E) = J43_0 E D W N v0 v1 σ := by
  refine (P43_0 E D W N C43_1 C43_2  v0 v1 σ).trans ?_
  simp only [LE43_2]
  kernel_rfl
def F43 (E : List (Nat × Blk)) (D : Den) (W : DrawFn) (N : Nat) (args : List V) (σ : H) : Ans :=
 rtCons args fun x1 l2 =>
 rtStr x1 fun x3 =>
 rtCons l2 fun x4 l5 =>
 rtInt .i64 x4 fun x6 =>
 rtNil l5 (
 J43_0 E D W N x3 x6 σ)
def A43 : XFn := ⟨50, [.str, (.int .i64)], [(.tmp 4)], (C43_0 C43_1 C43_2)⟩
theorem FE43 (E : List (Nat × Blk)) (D : Den) (W : DrawFn) (N : Nat) (args : List V) (σ : H) : runX E D W N A43 args σ = F43 E D W N args σ := by
  unfold F43
  simp only [← JE43_0]
  kernel_rfl
theorem AO43 : A43.body.ok = true := by kernel_rfl

/-! ### F44: ogham_oghamref04.Word -/
def Fin44 (E : List (Nat × Blk)) : St → Ans := fun s => resK E s [(.tmp 2)] fun l => some (oneV l, s.σ)
def C44_0 : XC := (.seq (.ops (.op (some 2) .any [] (.mov (.con (V.bool false))) <|
 .nil))
 (.seq (.ops (.op (some 3) .one [] (.call 69 []) <|
 .op (some 4) .any [0] (.mov (.tmp 0)) <|
 .op (some 5) .bool [3, 4] (.call 68 [(.tmp 3), (.tmp 4)]) <|
 .op (some 2) .any [5] (.mov (.tmp 5)) <|
 .nil))
 .ret))
def T44_0 (E : List (Nat × Blk)) (D : Den) (W : DrawFn) (v0 : BS) (σ : H) : Ans :=
 callK (D 69 [] σ) fun u1 s2 =>
 rtOne u1 (
 callK (D 68 [u1, (V.str v0)] s2) fun u3 s4 =>
 rtBool u3 fun x5 =>
 some ((V.bool x5), s4))
theorem P44_0 (E : List (Nat × Blk)) (D : Den) (W : DrawFn) (N : Nat) (v0 : BS) (σ : H) :
  denC E D W N (C44_0 ) ⟨[(0, (V.str v0))], [], [], σ⟩ (Fin44 E) (fun _ _ => none) (Fin44 E) =
  T44_0 E D W  v0 σ := by kernel_rfl
def J44_0 (E : List (Nat × Blk)) (D : Den) (W : DrawFn) (N : Nat) : BS → H → Ans := T44_0 E D W 
theorem JE44_0 (E : List (Nat × Blk)) (D : Den) (W : DrawFn) (N : Nat) (v0 : BS) (σ : H) :
  denC E D W N C44_0 ⟨[(0, (V.str v0))], [], [], σ⟩ (Fin44 E) (fun _ _ => none) (Fin44 E) = J44_0 E D W N v0 σ := by
  refine (P44_0 E D W N   v0 σ).trans ?_
  kernel_rfl
def F44 (E : List (Nat × Blk)) (D : Den) (W : DrawFn) (N : Nat) (args : List V) (σ : H) : Ans :=
 rtCons args fun x1 l2 =>
 rtStr x1 fun x3 =>
 rtNil l2 (
 J44_0 E D W N x3 σ)
def A44 : XFn := ⟨6, [.str], [(.tmp 2)], C44_0⟩
theorem FE44 (E : List (Nat × Blk)) (D : Den) (W : DrawFn) (N : Nat) (args : List V) (σ : H) : runX E D W N A44 args σ = F44 E D W N args σ := by
  unfold F44
  simp only [← JE44_0]
  kernel_rfl
theorem AO44 : A44.body.ok = true := by kernel_rfl

/-! ### F45: ogham_oghamref04.digit -/
def Fin45 (E : List (Nat × Blk)) : St → Ans := fun s => resK E s [(.tmp 2)] fun l => some (oneV l, s.σ)
def C45_0 : XC := (.seq (.ops (.op (some 2) .any [] (.mov (.con (V.bool false))) <|
 .nil))
 (.seq (.ops (.op (some 3) .any [0] (.mov (.tmp 0)) <|
 .op (some 4) .any [3] (.bin .geq .none (.tmp 3) (.con (V.int .u8 (Int.ofNat 48)))) <|
 .op (some 5) .any [4] (.mov (.tmp 4)) <|
 .grp 5 true (.op (some 6) .any [0, 5] (.mov (.tmp 0)) <|
 .op (some 7) .any [6, 5] (.bin .leq .none (.tmp 6) (.con (V.int .u8 (Int.ofNat 57)))) <|
 .nil) 8 [5, 7] (.tmp 5) (.tmp 7) (.con (V.bool false)) <|
 .op (some 2) .any [8] (.mov (.tmp 8)) <|
 .nil))
 .ret))
def T45_0 (E : List (Nat × Blk)) (D : Den) (W : DrawFn) (v0 : Int) (σ : H) : Ans :=
 joinB (fun c1 s2 =>
 some ((V.bool c1), s2)) fun k3 =>
 condK (leF (Int.ofNat 48) v0) (
 k3 (leF v0 (Int.ofNat 57)) σ) (
 k3 false σ)
theorem P45_0 (E : List (Nat × Blk)) (D : Den) (W : DrawFn) (N : Nat) (v0 : Int) (σ : H) :
  denC E D W N (C45_0 ) ⟨[(0, (V.int .u8 v0))], [], [], σ⟩ (Fin45 E) (fun _ _ => none) (Fin45 E) =
  T45_0 E D W  v0 σ := by kernel_rfl
def J45_0 (E : List (Nat × Blk)) (D : Den) (W : DrawFn) (N : Nat) : Int → H → Ans := T45_0 E D W 
theorem JE45_0 (E : List (Nat × Blk)) (D : Den) (W : DrawFn) (N : Nat) (v0 : Int) (σ : H) :
  denC E D W N C45_0 ⟨[(0, (V.int .u8 v0))], [], [], σ⟩ (Fin45 E) (fun _ _ => none) (Fin45 E) = J45_0 E D W N v0 σ := by
  refine (P45_0 E D W N   v0 σ).trans ?_
  kernel_rfl
def F45 (E : List (Nat × Blk)) (D : Den) (W : DrawFn) (N : Nat) (args : List V) (σ : H) : Ans :=
 rtCons args fun x1 l2 =>
 rtInt .u8 x1 fun x3 =>
 rtNil l2 (
 J45_0 E D W N x3 σ)
def A45 : XFn := ⟨9, [(.int .u8)], [(.tmp 2)], C45_0⟩
theorem FE45 (E : List (Nat × Blk)) (D : Den) (W : DrawFn) (N : Nat) (args : List V) (σ : H) : runX E D W N A45 args σ = F45 E D W N args σ := by
  unfold F45
  simp only [← JE45_0]
  kernel_rfl
theorem AO45 : A45.body.ok = true := by kernel_rfl

/-! ### F49: ogham_oghamref04.sign -/
def Fin49 (E : List (Nat × Blk)) : St → Ans := fun s => resK E s [(.tmp 4)] fun l => some (oneV l, s.σ)
def C49_0 (cc1 : XC) (cc2 : XC) : XC := (.seq (.ops (.op (some 4) .any [] (.mov (.con (V.int .i64 (Int.ofNat 0)))) <|
 .nil))
 (.seq (.ops (.op (some 9) .any [0] (.mov (.tmp 0)) <|
 .op (some 10) .any [1] (.mov (.tmp 1)) <|
 .op (some 11) .any [9, 10] (.sliceStr (.tmp 9) (some (.tmp 10)) none) <|
 .op (some 5) .any [11] (.mov (.tmp 11)) <|
 .nil))
 (.seq (.ops (.op (some 12) .any [] (.buildSlice 9 13 [(V.str ⟨0, 0⟩), (V.str ⟨0, 0⟩), (V.str ⟨0, 0⟩), (V.str ⟨0, 0⟩), (V.str ⟨0, 0⟩), (V.str ⟨0, 0⟩), (V.str ⟨0, 0⟩), (V.str ⟨0, 0⟩), (V.str ⟨0, 0⟩), (V.str ⟨0, 0⟩), (V.str ⟨0, 0⟩), (V.str ⟨0, 0⟩), (V.str ⟨0, 0⟩)] [(0, 1, (.con (V.str ⟨3, 4012602⟩))), (1, 1, (.con (V.str ⟨3, 3026478⟩))), (2, 1, (.con (V.str ⟨2, 11822⟩))), (3, 1, (.con (V.str ⟨2, 23387⟩))), (4, 1, (.con (V.str ⟨2, 23901⟩))), (5, 1, (.con (V.str ⟨1, 123⟩))), (6, 1, (.con (V.str ⟨1, 125⟩))), (7, 1, (.con (V.str ⟨1, 91⟩))), (8, 1, (.con (V.str ⟨1, 93⟩))), (9, 1, (.con (V.str ⟨1, 40⟩))), (10, 1, (.con (V.str ⟨1, 41⟩))), (11, 1, (.con (V.str ⟨1, 44⟩))), (12, 1, (.con (V.str ⟨1, 58⟩)))]) <|
 .op (some 6) .any [12] (.mov (.tmp 12)) <|
 .nil))
 (.seq (.seq (.ops (.op (some 7) .any [] (.mov (.con (V.int .i64 (Int.ofNat 0)))) <|
 .nil))
 (.block 0 (.loop [(5, .str), (6, .any), (7, (.int .i64))] [] [] cc2)))
 (.keep [] [] [] cc1)))))
def T49_0 (E : List (Nat × Blk)) (D : Den) (W : DrawFn) (K2 : BS → V → Int → H → Ans) (v0 : BS) (v1 : Int) (σ : H) : Ans :=
 sliceStrX v0 (some (V.int .i64 v1)) none fun t1 =>
 let s2 := newB σ (.cells [(V.str (BS.mk 3 4012602)), (V.str (BS.mk 3 3026478)), (V.str (BS.mk 2 11822)), (V.str (BS.mk 2 23387)), (V.str (BS.mk 2 23901)), (V.str (BS.mk 1 123)), (V.str (BS.mk 1 125)), (V.str (BS.mk 1 91)), (V.str (BS.mk 1 93)), (V.str (BS.mk 1 40)), (V.str (BS.mk 1 41)), (V.str (BS.mk 1 44)), (V.str (BS.mk 1 58))]);
 K2 t1 (V.sl (H.next σ) 0 13 (.ex 13)) (Int.ofNat 0) s2
def C49_1 : XC := (.seq (.ops (.op (some 4) .any [] (.mov (.con (V.int .i64 (Int.ofNat 0)))) <|
 .nil))
 .ret)
def T49_1 (E : List (Nat × Blk)) (D : Den) (W : DrawFn) (σ : H) : Ans :=
 some ((V.int .i64 (Int.ofNat 0)), σ)
def C49_2 : XC := (.seq (.seq (.ops (.op (some 13) .any [7] (.mov (.tmp 7)) <|
 .op (some 14) .any [6] (.mov (.tmp 6)) <|
 .op (some 15) .any [14] (.len false (.tmp 14)) <|
 .op (some 16) .any [13, 15] (.bin .lss .none (.tmp 13) (.tmp 15)) <|
 .nil))
 (.cond (.tmp 16) .skip
 (.exit 0)))
 (.seq (.block 1 (.seq (.ops (.op (some 19) .any [6] (.mov (.tmp 6)) <|
 .op (some 20) .any [7] (.mov (.tmp 7)) <|
 .op (some 21) .any [19, 20] (.iaddrS 1 (.tmp 19) (.tmp 20)) <|
 .op (some 22) .str [21] (.load none (.tmp 21)) <|
 .op (some 23) .any [22] (.len true (.tmp 22)) <|
 .op (some 8) .any [23] (.mov (.tmp 23)) <|
 .nil))
 (.seq (.draw (.op (some 24) .any [5] (.mov (.tmp 5)) <|
 .op (some 25) .any [24] (.len true (.tmp 24)) <|
 .op (some 26) .any [8] (.mov (.tmp 8)) <|
 .op (some 27) .any [25, 26] (.bin .geq .none (.tmp 25) (.tmp 26)) <|
 .op (some 28) .any [27] (.mov (.tmp 27)) <|
 .grp 28 true (.op (some 29) .any [5, 28] (.mov (.tmp 5)) <|
 .op (some 30) .any [8, 28] (.mov (.tmp 8)) <|
 .op (some 31) .any [29, 30, 28] (.sliceStr (.tmp 29) none (some (.tmp 30))) <|
 .op (some 32) .any [6, 28] (.mov (.tmp 6)) <|
 .op (some 33) .any [7, 28] (.mov (.tmp 7)) <|
 .op (some 34) .any [32, 33, 28] (.iaddrS 1 (.tmp 32) (.tmp 33)) <|
 .op (some 35) .str [34, 28] (.load none (.tmp 34)) <|
 .op (some 36) .any [31, 35, 28] (.bin .eql .none (.tmp 31) (.tmp 35)) <|
 .nil) 37 [28, 36] (.tmp 28) (.tmp 36) (.con (V.bool false)) <|
 .nil) [0, 1, 0, 7, 15, 31, 31, 127, 31, 31, 799, 1823, 4095, 8191])
 (.cond (.tmp 37) (.seq (.ops (.op (some 38) .any [8] (.mov (.tmp 8)) <|
 .op (some 4) .any [38] (.mov (.tmp 38)) <|
 .nil))
 .ret)
 .skip))))
 (.ops (.op (some 17) .any [7] (.mov (.tmp 7)) <|
 .op (some 18) .any [17] (.bin .add .none (.tmp 17) (.con (V.int .i64 (Int.ofNat 1)))) <|
 .op (some 7) .any [18] (.mov (.tmp 18)) <|
 .nil))))
def T49_2 (E : List (Nat × Blk)) (D : Den) (W : DrawFn) (K1 : H → Ans) (R2 : BS → V → Int → H → Ans) (v5 : BS) (v6 : V) (v7 : Int) (σ : H) : Ans :=
 slenK v6 fun n1 =>
 condK (ltF v7 (Int.ofNat n1)) (
 iaddrSK 1 v6 v7 fun b2 o3 =>
 ldK E σ b2 o3 fun u4 =>
 rtStr u4 fun x5 =>
 joinB (fun c6 s7 =>
 condK c6 (
 some ((V.int .i64 (Int.ofNat (BS.len x5))), s7)) (
 R2 v5 v6 (addF .i64 v7 (Int.ofNat 1)) s7)) fun k8 =>
 condK (leF (Int.ofNat (BS.len x5)) (Int.ofNat (BS.len v5))) (
 sliceStrX v5 none (some (V.int .i64 (Int.ofNat (BS.len x5)))) fun t9 =>
 iaddrSK 1 v6 v7 fun b10 o11 =>
 ldK E σ b10 o11 fun u12 =>
 rtStr u12 fun x13 =>
 k8 (BS.beq t9 x13) σ) (
 k8 false σ)) (
 K1 σ)
theorem P49_0 (E : List (Nat × Blk)) (D : Den) (W : DrawFn) (N : Nat) (cc1 : XC) (cc2 : XC) (v0 : BS) (v1 : Int) (σ : H) :
  denC E D W N (C49_0 cc1 cc2) ⟨[(0, (V.str v0)), (1, (V.int .i64 v1))], [], [], σ⟩ (Fin49 E) (fun _ _ => none) (Fin49 E) =
  T49_0 E D W (fun v5 v6 v7 σ => iterK (fun rec s' => denC E D W N cc2 s' (fun s'' => keepS [(5, .str), (6, .any), (7, (.int .i64))] [] [] s'' rec) (blkK 0 (fun s' => denC E D W N (.keep [] [] [] cc1) s' (Fin49 E) (fun _ _ => none) (Fin49 E)) (fun _ _ => none)) (Fin49 E)) N ⟨[(5, (V.str v5)), (6, v6), (7, (V.int .i64 v7))], [], [], σ⟩) v0 v1 σ := by kernel_rfl
theorem P49_1 (E : List (Nat × Blk)) (D : Den) (W : DrawFn) (N : Nat) (σ : H) :
  denC E D W N (C49_1 ) ⟨[], [], [], σ⟩ (Fin49 E) (fun _ _ => none) (Fin49 E) =
  T49_1 E D W   σ := by kernel_rfl
theorem P49_2 (E : List (Nat × Blk)) (D : Den) (W : DrawFn) (N : Nat) (cc1 : XC) (li2 : St → Ans) (v5 : BS) (v6 : V) (v7 : Int) (σ : H) :
  denC E D W N (C49_2 ) ⟨[(5, (V.str v5)), (6, v6), (7, (V.int .i64 v7))], [], [], σ⟩ (fun s'' => keepS [(5, .str), (6, .any), (7, (.int .i64))] [] [] s'' li2) (blkK 0 (fun s' => denC E D W N (.keep [] [] [] cc1) s' (Fin49 E) (fun _ _ => none) (Fin49 E)) (fun _ _ => none)) (Fin49 E) =
  T49_2 E D W (fun  σ => denC E D W N cc1 ⟨[], [], [], σ⟩ (Fin49 E) (fun _ _ => none) (Fin49 E)) (fun v5 v6 v7 σ => li2 ⟨[(5, (V.str v5)), (6, v6), (7, (V.int .i64 v7))], [], [], σ⟩) v5 v6 v7 σ := by kernel_rfl
def J49_1 (E : List (Nat × Blk)) (D : Den) (W : DrawFn) (N : Nat) : H → Ans := T49_1 E D W 
theorem JE49_1 (E : List (Nat × Blk)) (D : Den) (W : DrawFn) (N : Nat) (σ : H) :
  denC E D W N C49_1 ⟨[], [], [], σ⟩ (Fin49 E) (fun _ _ => none) (Fin49 E) = J49_1 E D W N  σ := by
  refine (P49_1 E D W N    σ).trans ?_
  kernel_rfl
def L49_2 (E : List (Nat × Blk)) (D : Den) (W : DrawFn) (N : Nat) (n : Nat) : BS → V → Int → H → Ans :=
  Nat.rec (fun _ _ _ _ => none) (fun _ ih => T49_2 E D W (J49_1 E D W N ) ih) n
theorem LE49_2 (E : List (Nat × Blk)) (D : Den) (W : DrawFn) (N : Nat) (n : Nat) : ∀ (v5 : BS) (v6 : V) (v7 : Int) (σ : H),
  iterK (fun rec s' => denC E D W N C49_2 s' (fun s'' => keepS [(5, .str), (6, .any), (7, (.int .i64))] [] [] s'' rec) (blkK 0 (fun s' => denC E D W N (.keep [] [] [] C49_1) s' (Fin49 E) (fun _ _ => none) (Fin49 E)) (fun _ _ => none)) (Fin49 E)) n ⟨[(5, (V.str v5)), (6, v6), (7, (V.int .i64 v7))], [], [], σ⟩ = L49_2 E D W N n v5 v6 v7 σ := by
  induction n with
  | zero => intro v5 v6 v7 σ; rfl
  | succ n ihn =>
    intro v5 v6 v7 σ
    rw [iterK_succ]
    refine (P49_2 E D W N C49_1 (iterK (fun rec s' => denC E D W N C49_2 s' (fun s'' => keepS [(5, .str), (6, .any), (7, (.int .i64))] [] [] s'' rec) (blkK 0 (fun s' => denC E D W N (.keep [] [] [] C49_1) s' (Fin49 E) (fun _ _ => none) (Fin49 E)) (fun _ _ => none)) (Fin49 E)) n) v5 v6 v7 σ).trans ?_
    simp only [ihn, JE49_1]
    kernel_rfl
def J49_0 (E : List (Nat × Blk)) (D : Den) (W : DrawFn) (N : Nat) : BS → Int → H → Ans := T49_0 E D W (L49_2 E D W N N)
theorem JE49_0 (E : List (Nat × Blk)) (D : Den) (W : DrawFn) (N : Nat) (v0 : BS) (v1 : Int) (σ : H) :
  denC E D W N (C49_0 C49_1 C49_2) ⟨[(0, (V.str v0)), (1, (V.int .i64 v1))], [], [], σ⟩ (Fin49 E) (fun _ _ => none) (Fin49 E) = J49_0 E D W N v0 v1 σ := by
  refine (P49_0 E D W N C49_1 C49_2  v0 v1 σ).trans ?_
  simp only [LE49_2]
  kernel_rfl
def F49 (E : List (Nat × Blk)) (D : Den) (W : DrawFn) (N : Nat) (args : List V) (σ : H) : Ans :=
 rtCons args fun x1 l2 =>
 rtStr x1 fun x3 =>
 rtCons l2 fun x4 l5 =>
 rtInt .i64 x4 fun x6 =>
 rtNil l5 (
 J49_0 E D W N x3 x6 σ)
def A49 : XFn := ⟨39, [.str, (.int .i64)], [(.tmp 4)], (C49_0 C49_1 C49_2)⟩
theorem FE49 (E : List (Nat × Blk)) (D : Den) (W : DrawFn) (N : Nat) (args : List V) (σ : H) : runX E D W N A49 args σ = F49 E D W N args σ := by
  unfold F49
  simp only [← JE49_0]
  kernel_rfl
theorem AO49 : A49.body.ok = true := by kernel_rfl

def C54_0 (cc1 : XC) (cc2 : XC) : XC := (.seq (.seq (.ops (.op (some 7) .any [0] (.mov (.tmp 0)) <|
 .op (some 8) .bool [7] (.call 14 [(.tmp 7), (.con (V.str ⟨1, 125⟩))]) <|
 .nil))
 (.cond (.tmp 8) .ret
 .skip))
 (.seq (.ops (.op (some 6) .any [] (.mov (.con (V.int .i64 (Int.ofNat 0)))) <|
 .nil))
 (.seq (.block 0 (.loop [(0, .ptr), (1, .ptr), (2, (.int .i64)), (6, (.int .i64))] [] [] cc2))
 (.keep [(0, .ptr), (1, .ptr)] [] [] cc1))))
def C54_1 : XC := (.seq (.ops (.op (some 68) .any [0] (.mov (.tmp 0)) <|
 .op (some 69) (.tup []) [68] (.call 13 [(.tmp 68), (.con (V.str ⟨1, 125⟩))]) <|
 .nil))
 (.seq (.ops (.op (some 70) .any [1] (.mov (.tmp 1)) <|
 .op (some 71) .any [70] (.nilck (.tmp 70)) <|
 .op (some 72) .any [71] (.faddr 14 (.tmp 71)) <|
 .op (some 73) .bool [72] (.load none (.tmp 72)) <|
 .op (some 74) .any [73] (.un .not (.tmp 73)) <|
 .nil))
 (.cond (.tmp 74) (.ops (.op (some 75) .any [1] (.mov (.tmp 1)) <|
 .op (some 76) .any [1] (.mov (.tmp 1)) <|
 .op (some 77) .any [76] (.nilck (.tmp 76)) <|
 .op (some 78) .any [77] (.faddr 12 (.tmp 77)) <|
 .op (some 79) .any [78] (.load none (.tmp 78)) <|
 .op (some 80) .any [79] (.len false (.tmp 79)) <|
 .op (some 81) .any [75] (.nilck (.tmp 75)) <|
 .op (some 82) .any [81] (.faddr 13 (.tmp 81)) <|
 .op none .any [82, 80] (.store 1 (.tmp 82) (.tmp 80)) <|
 .nil))
 .skip)))
def C54_2 (cc3 : XC) (cc4 : XC) (cc5 : XC) : XC := (.seq (.seq (.ops (.op (some 9) .any [0] (.mov (.tmp 0)) <|
 .op (some 10) .any [9] (.nilck (.tmp 9)) <|
 .op (some 11) .any [10] (.faddr 7 (.tmp 10)) <|
 .op (some 12) (.int .i64) [11] (.load none (.tmp 11)) <|
 .op (some 13) .any [12] (.bin .eql .none (.tmp 12) (.con (V.int .i64 (Int.ofNat 0)))) <|
 .nil))
 (.cond (.tmp 13) .skip
 (.exit 0)))
 (.block 1 (.seq (.block 2 (.seq (.ops (.op (some 19) .any [1] (.mov (.tmp 1)) <|
 .op (some 20) .any [19] (.nilck (.tmp 19)) <|
 .op (some 21) .any [20] (.faddr 14 (.tmp 20)) <|
 .op (some 22) .bool [21] (.load none (.tmp 21)) <|
 .op (some 23) .any [22] (.un .not (.tmp 22)) <|
 .op (some 24) .any [23] (.mov (.tmp 23)) <|
 .grp 24 true (.op (some 25) .any [0, 24] (.mov (.tmp 0)) <|
 .op (some 26) .bool [25, 24] (.call 14 [(.tmp 25), (.con (V.str ⟨3, 3026478⟩))]) <|
 .nil) 27 [24, 26] (.tmp 24) (.tmp 26) (.con (V.bool false)) <|
 .op (some 18) .any [27] (.mov (.tmp 27)) <|
 .nil))
 (.cond (.tmp 18) (.ops (.op (some 28) .any [1] (.mov (.tmp 1)) <|
 .op (some 29) .any [1] (.mov (.tmp 1)) <|
 .op (some 30) .any [1] (.mov (.tmp 1)) <|
 .op (some 31) .any [30] (.nilck (.tmp 30)) <|
 .op (some 32) .any [31] (.faddr 12 (.tmp 31)) <|
 .op (some 33) .any [32] (.load none (.tmp 32)) <|
 .op (some 34) .any [33] (.len false (.tmp 33)) <|
 .op (some 35) .any [28] (.nilck (.tmp 28)) <|
 .op (some 36) .any [35] (.faddr 14 (.tmp 35)) <|
 .op none .any [36] (.store 1 (.tmp 36) (.con (V.bool true))) <|
 .op (some 37) .any [29] (.nilck (.tmp 29)) <|
 .op (some 38) .any [37] (.faddr 13 (.tmp 37)) <|
 .op none .any [38, 34] (.store 1 (.tmp 38) (.tmp 34)) <|
 .nil))
 (.seq (.ops (.op (some 40) .any [1] (.mov (.tmp 1)) <|
 .op (some 41) .any [40] (.nilck (.tmp 40)) <|
 .op (some 42) .any [41] (.faddr 14 (.tmp 41)) <|
 .op (some 43) .bool [42] (.load none (.tmp 42)) <|
 .op (some 44) .any [43] (.mov (.tmp 43)) <|
 .grp 44 true (.op (some 45) .any [0, 44] (.mov (.tmp 0)) <|
 .op (some 46) .bool [45, 44] (.call 14 [(.tmp 45), (.con (V.str ⟨2, 23387⟩))]) <|
 .nil) 47 [44, 46] (.tmp 44) (.tmp 46) (.con (V.bool false)) <|
 .op (some 39) .any [47] (.mov (.tmp 47)) <|
 .nil))
 (.cond (.tmp 39) (.seq (.ops (.op (some 48) .any [6] (.mov (.tmp 6)) <|
 .op (some 49) .any [48] (.bin .add .none (.tmp 48) (.con (V.int .i64 (Int.ofNat 1)))) <|
 .op (some 6) .any [49] (.mov (.tmp 49)) <|
 .nil))
 (.seq (.block 3 (.loop [(0, .ptr), (1, .ptr), (2, (.int .i64)), (6, (.int .i64))] [] [] cc5))
 (.keep [(0, .ptr), (1, .ptr), (2, (.int .i64)), (6, (.int .i64))] [] [] cc4)))
 (.ops (.op (some 14) .any [0] (.mov (.tmp 0)) <|
 .op (some 15) .any [1] (.mov (.tmp 1)) <|
 .op (some 16) .any [2] (.mov (.tmp 2)) <|
 .op (some 17) (.tup []) [14, 15, 16] (.call 71 [(.tmp 14), (.tmp 15), (.tmp 16), (.con (V.int .i64 (Int.ofNat 0)))]) <|
 .nil)))))))
 (.keep [(0, .ptr), (1, .ptr), (2, (.int .i64)), (6, (.int .i64))] [] [] cc3))))
def C54_3 : XC := (.seq (.ops (.op (some 65) .any [0] (.mov (.tmp 0)) <|
 .op (some 66) .bool [65] (.call 14 [(.tmp 65), (.con (V.str ⟨1, 44⟩))]) <|
 .op (some 67) .any [66] (.un .not (.tmp 66)) <|
 .nil))
 (.cond (.tmp 67) (.exit 0)
 .skip))
def C54_4 : XC := (.ops (.op (some 63) .any [0] (.mov (.tmp 0)) <|
 .op (some 64) (.tup []) [63] (.call 13 [(.tmp 63), (.con (V.str ⟨2, 23901⟩))]) <|
 .nil))
def C54_5 : XC := (.seq (.seq (.ops (.op (some 50) .any [0] (.mov (.tmp 0)) <|
 .op (some 51) .any [50] (.nilck (.tmp 50)) <|
 .op (some 52) .any [51] (.faddr 7 (.tmp 51)) <|
 .op (some 53) (.int .i64) [52] (.load none (.tmp 52)) <|
 .op (some 54) .any [53] (.bin .eql .none (.tmp 53) (.con (V.int .i64 (Int.ofNat 0)))) <|
 .nil))
 (.cond (.tmp 54) .skip
 (.exit 3)))
 (.block 4 (.seq (.ops (.op (some 55) .any [0] (.mov (.tmp 0)) <|
 .op (some 56) .any [1] (.mov (.tmp 1)) <|
 .op (some 57) .any [2] (.mov (.tmp 2)) <|
 .op (some 58) .any [6] (.mov (.tmp 6)) <|
 .op (some 59) (.tup []) [55, 56, 57, 58] (.call 71 [(.tmp 55), (.tmp 56), (.tmp 57), (.tmp 58)]) <|
 .nil))
 (.seq (.ops (.op (some 60) .any [0] (.mov (.tmp 0)) <|
 .op (some 61) .bool [60] (.call 14 [(.tmp 60), (.con (V.str ⟨1, 44⟩))]) <|
 .op (some 62) .any [61] (.un .not (.tmp 61)) <|
 .nil))
 (.cond (.tmp 62) (.exit 3)
 .skip)))))
def A54 : XFn := ⟨83, [.ptr, .ptr, (.int .i64)], [], (C54_0 C54_1 (C54_2 C54_3 C54_4 C54_5))⟩
/-! ### F57: __ogham_print.printer_.list -/
def Fin57 (E : List (Nat × Blk)) : St → Ans := fun s => resK E s [] fun l => some (oneV l, s.σ)
def C57_0 (cc1 : XC) : XC := (.seq (.ops (.op (some 5) .any [0] (.box 54 (.tmp 0)) <|
 .nil))
 (.seq (.ops (.op (some 10) .any [] (.alloc 4 [(V.bool false)]) <|
 .op none .any [10] (.store 1 (.tmp 10) (.con (V.bool true))) <|
 .nil))
 (.seq (.ops (.op (some 13) .any [10, 5] (.mkfn 73 [] [(.tmp 10), (.tmp 5)]) <|
 .op (some 11) .any [13] (.mov (.tmp 13)) <|
 .nil))
 (.seq (.ops (.op (some 12) .any [] (.mov (.con (V.int .i64 (Int.ofNat 0)))) <|
 .nil))
 (.block 0 (.loop [(1, (.int .i64)), (2, (.int .i64)), (3, .bool), (4, .any), (5, .ptr), (11, .any), (12, (.int .i64))] [] [] cc1))))))
def T57_0 (E : List (Nat × Blk)) (D : Den) (W : DrawFn) (K1 : Int → Int → Bool → V → Nat → Nat → V → Int → H → Ans) (v0 : V) (v1 : Int) (v2 : Int) (v3 : Bool) (v4 : V) (σ : H) : Ans :=
 chk (allOne (V.cells v0)) (
 let s1 := newB σ (.cells (V.cells v0));
 let s2 := newB s1 (.cells [(V.bool false)]);
 stK 1 (H.next s1) 0 (V.bool true) s2 fun s3 =>
 K1 v1 v2 v3 v4 (H.next σ) 0 (V.fn 73 [] [(V.ptr (H.next s1) 0), (V.ptr (H.next σ) 0)]) (Int.ofNat 0) s3)
def C57_1 (cc2 : XC) (cc3 : XC) : XC := (.seq (.seq (.ops (.op (some 14) .any [12] (.mov (.tmp 12)) <|
 .op (some 15) .any [1] (.mov (.tmp 1)) <|
 .op (some 16) .any [14, 15] (.bin .leq .none (.tmp 14) (.tmp 15)) <|
 .op (some 17) .any [16] (.mov (.tmp 16)) <|
 .grp 17 true (.op (some 18) .any [5, 17] (.load none (.tmp 5)) <|
 .op (some 19) .any [18, 17] (.nilck (.tmp 18)) <|
 .op (some 20) .any [19, 17] (.faddr 0 (.tmp 19)) <|
 .op (some 21) .any [20, 17] (.faddr 1 (.tmp 20)) <|
 .op (some 22) .bool [21, 17] (.load none (.tmp 21)) <|
 .op (some 23) .any [22, 17] (.un .not (.tmp 22)) <|
 .nil) 24 [17, 23] (.tmp 17) (.tmp 23) (.con (V.bool false)) <|
 .nil))
 (.cond (.tmp 24) .skip
 (.exit 0)))
 (.seq (.block 1 (.seq (.seq (.ops (.op (some 27) .any [3] (.mov (.tmp 3)) <|
 .op (some 28) .any [27] (.mov (.tmp 27)) <|
 .grp 28 true (.op (some 29) .any [12, 28] (.mov (.tmp 12)) <|
 .op (some 30) .any [2, 28] (.mov (.tmp 2)) <|
 .op (some 31) .any [29, 30, 28] (.bin .eql .none (.tmp 29) (.tmp 30)) <|
 .nil) 32 [28, 31] (.tmp 28) (.tmp 31) (.con (V.bool false)) <|
 .nil))
 (.cond (.tmp 32) (.seq (.ops (.op (some 33) .any [11] (.mov (.tmp 11)) <|
 .op (some 34) (.tup []) [33] (.callv (.tmp 33) []) <|
 .nil))
 (.ops (.op (some 35) .any [5] (.load none (.tmp 5)) <|
 .op (some 36) .any [35] (.nilck (.tmp 35)) <|
 .op (some 37) .any [36] (.faddr 0 (.tmp 36)) <|
 .op (some 38) .any [] (.buildSlice 9 1 [(V.str ⟨0, 0⟩)] [(0, 1, (.con (V.str ⟨3, 3026478⟩)))]) <|
 .op (some 39) (.tup []) [37, 38] (.call 19 [(.tmp 37), (.tmp 38)]) <|
 .nil)))
 .skip))
 (.keep [(1, (.int .i64)), (2, (.int .i64)), (3, .bool), (4, .any), (5, .ptr), (11, .any), (12, (.int .i64))] [] [] cc3)))
 (.keep [(1, (.int .i64)), (2, (.int .i64)), (3, .bool), (4, .any), (5, .ptr), (11, .any), (12, (.int .i64))] [] [] cc2)))
def T57_1 (E : List (Nat × Blk)) (D : Den) (W : DrawFn) (K3 : Int → Int → Bool → V → Nat → Nat → V → Int → H → Ans) (v1 : Int) (v2 : Int) (v3 : Bool) (v4 : V) (v5b : Nat) (v5o : Nat) (v11 : V) (v12 : Int) (σ : H) : Ans :=
 joinB (fun c1 s2 =>
 condK c1 (
 joinB (fun c4 s5 =>
 condK c4 (
 callvK D v11 [] s5 fun u7 s8 =>
 rtTup u7 fun l9 =>
 rtNil l9 (
 ldK E s8 v5b v5o fun u10 =>
 rtPtr u10 fun b11 o12 =>
 let s13 := newB s8 (.cells [(V.str (BS.mk 3 3026478))]);
 callK (D 19 [(V.ptr b11 o12), (V.sl (H.next s8) 0 1 (.ex 1))] s13) fun u14 s15 =>
 rtTup u14 fun l16 =>
 rtNil l16 (
 K3 v1 v2 v3 v4 v5b v5o v11 v12 s15))) (
 K3 v1 v2 v3 v4 v5b v5o v11 v12 s5)) fun k6 =>
 condK v3 (
 k6 (eqF v12 v2) s2) (
 k6 false s2)) (
 some ((V.tup []), s2))) fun k3 =>
 condK (leF v12 v1) (
 ldK E σ v5b v5o fun u17 =>
 rtPtr u17 fun b18 o19 =>
 ldK E σ b18 (Nat.add o19 1) fun u20 =>
 rtBool u20 fun x21 =>
 k3 (not x21) σ) (
 k3 false σ)
def C57_2 : XC := (.ops (.op (some 25) .any [12] (.mov (.tmp 12)) <|
 .op (some 26) .any [25] (.bin .add .none (.tmp 25) (.con (V.int .i64 (Int.ofNat 1)))) <|
 .op (some 12) .any [26] (.mov (.tmp 26)) <|
 .nil))
def T57_2 (E : List (Nat × Blk)) (D : Den) (W : DrawFn) (R1 : Int → Int → Bool → V → Nat → Nat → V → Int → H → Ans) (v1 : Int) (v2 : Int) (v3 : Bool) (v4 : V) (v5b : Nat) (v5o : Nat) (v11 : V) (v12 : Int) (σ : H) : Ans :=
 R1 v1 v2 v3 v4 v5b v5o v11 (addF .i64 v12 (Int.ofNat 1)) σ
def C57_3 : XC := (.seq (.ops (.op (some 40) .any [12] (.mov (.tmp 12)) <|
 .op (some 41) .any [1] (.mov (.tmp 1)) <|
 .op (some 42) .any [40, 41] (.bin .lss .none (.tmp 40) (.tmp 41)) <|
 .nil))
 (.cond (.tmp 42) (.seq (.ops (.op (some 43) .any [11] (.mov (.tmp 11)) <|
 .op (some 44) (.tup []) [43] (.callv (.tmp 43) []) <|
 .nil))
 (.ops (.op (some 45) .any [4] (.mov (.tmp 4)) <|
 .op (some 46) .any [12] (.mov (.tmp 12)) <|
 .op (some 47) (.tup []) [45, 46] (.callv (.tmp 45) [(.tmp 46)]) <|
 .nil)))
 .skip))
def T57_3 (E : List (Nat × Blk)) (D : Den) (W : DrawFn) (K2 : Int → Int → Bool → V → Nat → Nat → V → Int → H → Ans) (v1 : Int) (v2 : Int) (v3 : Bool) (v4 : V) (v5b : Nat) (v5o : Nat) (v11 : V) (v12 : Int) (σ : H) : Ans :=
 condK (ltF v12 v1) (
 callvK D v11 [] σ fun u1 s2 =>
 rtTup u1 fun l3 =>
 rtNil l3 (
 callvK D v4 [(V.int .i64 v12)] s2 fun u4 s5 =>
 rtTup u4 fun l6 =>
 rtNil l6 (
 K2 v1 v2 v3 v4 v5b v5o v11 v12 s5))) (
 K2 v1 v2 v3 v4 v5b v5o v11 v12 σ)
theorem P57_0 (E : List (Nat × Blk)) (D : Den) (W : DrawFn) (N : Nat) (cc1 : XC) (v0 : V) (v1 : Int) (v2 : Int) (v3 : Bool) (v4 : V) (σ : H) :
  denC E D W N (C57_0 cc1) ⟨[(0, v0), (1, (V.int .i64 v1)), (2, (V.int .i64 v2)), (3, (V.bool v3)), (4, v4)], [], [], σ⟩ (Fin57 E) (fun _ _ => none) (Fin57 E) =
  T57_0 E D W (fun v1 v2 v3 v4 v5b v5o v11 v12 σ => iterK (fun rec s' => denC E D W N cc1 s' (fun s'' => keepS [(1, (.int .i64)), (2, (.int .i64)), (3, .bool), (4, .any), (5, .ptr), (11, .any), (12, (.int .i64))] [] [] s'' rec) (blkK 0 (Fin57 E) (fun _ _ => none)) (Fin57 E)) N ⟨[(1, (V.int .i64 v1)), (2, (V.int .i64 v2)), (3, (V.bool v3)), (4, v4), (5, (V.ptr v5b v5o)), (11, v11), (12, (V.int .i64 v12))], [], [], σ⟩) v0 v1 v2 v3 v4 σ := by kernel_rfl
theorem P57_1 (E : List (Nat × Blk)) (D : Den) (W : DrawFn) (N : Nat) (cc2 : XC) (cc3 : XC) (li1 : St → Ans) (v1 : Int) (v2 : Int) (v3 : Bool) (v4 : V) (v5b : Nat) (v5o : Nat) (v11 : V) (v12 : Int) (σ : H) :
  denC E D W N (C57_1 cc2 cc3) ⟨[(1, (V.int .i64 v1)), (2, (V.int .i64 v2)), (3, (V.bool v3)), (4, v4), (5, (V.ptr v5b v5o)), (11, v11), (12, (V.int .i64 v12))], [], [], σ⟩ (fun s'' => keepS [(1, (.int .i64)), (2, (.int .i64)), (3, .bool), (4, .any), (5, .ptr), (11, .any), (12, (.int .i64))] [] [] s'' li1) (blkK 0 (Fin57 E) (fun _ _ => none)) (Fin57 E) =
  T57_1 E D W (fun v1 v2 v3 v4 v5b v5o v11 v12 σ => denC E D W N cc3 ⟨[(1, (V.int .i64 v1)), (2, (V.int .i64 v2)), (3, (V.bool v3)), (4, v4), (5, (V.ptr v5b v5o)), (11, v11), (12, (V.int .i64 v12))], [], [], σ⟩ (fun s' => denC E D W N (.keep [(1, (.int .i64)), (2, (.int .i64)), (3, .bool), (4, .any), (5, .ptr), (11, .any), (12, (.int .i64))] [] [] cc2) s' (fun s'' => keepS [(1, (.int .i64)), (2, (.int .i64)), (3, .bool), (4, .any), (5, .ptr), (11, .any), (12, (.int .i64))] [] [] s'' li1) (blkK 0 (Fin57 E) (fun _ _ => none)) (Fin57 E)) (blkK 1 (fun s' => denC E D W N (.keep [(1, (.int .i64)), (2, (.int .i64)), (3, .bool), (4, .any), (5, .ptr), (11, .any), (12, (.int .i64))] [] [] cc2) s' (fun s'' => keepS [(1, (.int .i64)), (2, (.int .i64)), (3, .bool), (4, .any), (5, .ptr), (11, .any), (12, (.int .i64))] [] [] s'' li1) (blkK 0 (Fin57 E) (fun _ _ => none)) (Fin57 E)) (blkK 0 (Fin57 E) (fun _ _ => none))) (Fin57 E)) v1 v2 v3 v4 v5b v5o v11 v12 σ := by kernel_rfl
theorem P57_2 (E : List (Nat × Blk)) (D : Den) (W : DrawFn) (N : Nat) (li1 : St → Ans) (v1 : Int) (v2 : Int) (v3 : Bool) (v4 : V) (v5b : Nat) (v5o : Nat) (v11 : V) (v12 : Int) (σ : H) :
  denC E D W N (C57_2 ) ⟨[(1, (V.int .i64 v1)), (2, (V.int .i64 v2)), (3, (V.bool v3)), (4, v4), (5, (V.ptr v5b v5o)), (11, v11), (12, (V.int .i64 v12))], [], [], σ⟩ (fun s'' => keepS [(1, (.int .i64)), (2, (.int .i64)), (3, .bool), (4, .any), (5, .ptr), (11, .any), (12, (.int .i64))] [] [] s'' li1) (blkK 0 (Fin57 E) (fun _ _ => none)) (Fin57 E) =
  T57_2 E D W (fun v1 v2 v3 v4 v5b v5o v11 v12 σ => li1 ⟨[(1, (V.int .i64 v1)), (2, (V.int .i64 v2)), (3, (V.bool v3)), (4, v4), (5, (V.ptr v5b v5o)), (11, v11), (12, (V.int .i64 v12))], [], [], σ⟩) v1 v2 v3 v4 v5b v5o v11 v12 σ := by kernel_rfl
theorem P57_3 (E : List (Nat × Blk)) (D : Den) (W : DrawFn) (N : Nat) (cc2 : XC) (li1 : St → Ans) (v1 : Int) (v2 : Int) (v3 : Bool) (v4 : V) (v5b : Nat) (v5o : Nat) (v11 : V) (v12 : Int) (σ : H) :
  denC E D W N (C57_3 ) ⟨[(1, (V.int .i64 v1)), (2, (V.int .i64 v2)), (3, (V.bool v3)), (4, v4), (5, (V.ptr v5b v5o)), (11, v11), (12, (V.int .i64 v12))], [], [], σ⟩ (fun s' => denC E D W N (.keep [(1, (.int .i64)), (2, (.int .i64)), (3, .bool), (4, .any), (5, .ptr), (11, .any), (12, (.int .i64))] [] [] cc2) s' (fun s'' => keepS [(1, (.int .i64)), (2, (.int .i64)), (3, .bool), (4, .any), (5, .ptr), (11, .any), (12, (.int .i64))] [] [] s'' li1) (blkK 0 (Fin57 E) (fun _ _ => none)) (Fin57 E)) (blkK 1 (fun s' => denC E D W N (.keep [(1, (.int .i64)), (2, (.int .i64)), (3, .bool), (4, .any), (5, .ptr), (11, .any), (12, (.int .i64))] [] [] cc2) s' (fun s'' => keepS [(1, (.int .i64)), (2, (.int .i64)), (3, .bool), (4, .any), (5, .ptr), (11, .any), (12, (.int .i64))] [] [] s'' li1) (blkK 0 (Fin57 E) (fun _ _ => none)) (Fin57 E)) (blkK 0 (Fin57 E) (fun _ _ => none))) (Fin57 E) =
  T57_3 E D W (fun v1 v2 v3 v4 v5b v5o v11 v12 σ => denC E D W N cc2 ⟨[(1, (V.int .i64 v1)), (2, (V.int .i64 v2)), (3, (V.bool v3)), (4, v4), (5, (V.ptr v5b v5o)), (11, v11), (12, (V.int .i64 v12))], [], [], σ⟩ (fun s'' => keepS [(1, (.int .i64)), (2, (.int .i64)), (3, .bool), (4, .any), (5, .ptr), (11, .any), (12, (.int .i64))] [] [] s'' li1) (blkK 0 (Fin57 E) (fun _ _ => none)) (Fin57 E)) v1 v2 v3 v4 v5b v5o v11 v12 σ := by kernel_rfl
def J57_2 (E : List (Nat × Blk)) (D : Den) (W : DrawFn) (N : Nat) (R1 : Int → Int → Bool → V → Nat → Nat → V → Int → H → Ans) : Int → Int → Bool → V → Nat → Nat → V → Int → H → Ans := T57_2 E D W R1
theorem JE57_2 (E : List (Nat × Blk)) (D : Den) (W : DrawFn) (N : Nat) (li1 : St → Ans) (v1 : Int) (v2 : Int) (v3 : Bool) (v4 : V) (v5b : Nat) (v5o : Nat) (v11 : V) (v12 : Int) (σ : H) :
  denC E D W N C57_2 ⟨[(1, (V.int .i64 v1)), (2, (V.int .i64 v2)), (3, (V.bool v3)), (4, v4), (5, (V.ptr v5b v5o)), (11, v11), (12, (V.int .i64 v12))], [], [], σ⟩ (fun s'' => keepS [(1, (.int .i64)), (2, (.int .i64)), (3, .bool), (4, .any), (5, .ptr), (11, .any), (12, (.int .i64))] [] [] s'' li1) (blkK 0 (Fin57 E) (fun _ _ => none)) (Fin57 E) = J57_2 E D W N (fun v1 v2 v3 v4 v5b v5o v11 v12 σ => li1 ⟨[(1, (V.int .i64 v1)), (2, (V.int .i64 v2)), (3, (V.bool v3)), (4, v4), (5, (V.ptr v5b v5o)), (11, v11), (12, (V.int .i64 v12))], [], [], σ⟩) v1 v2 v3 v4 v5b v5o v11 v12 σ := by
  refine (P57_2 E D W N  li1 v1 v2 v3 v4 v5b v5o v11 v12 σ).trans ?_
  kernel_rfl
def J57_3 (E : List (Nat × Blk)) (D : Den) (W : DrawFn) (N : Nat) (R1 : Int → Int → Bool → V → Nat → Nat → V → Int → H → Ans) : Int → Int → Bool → V → Nat → Nat → V → Int → H → Ans := T57_3 E D W (J57_2 E D W N R1)
theorem JE57_3 (E : List (Nat × Blk)) (D : Den) (W : DrawFn) (N : Nat) (li1 : St → Ans) (v1 : Int) (v2 : Int) (v3 : Bool) (v4 : V) (v5b : Nat) (v5o : Nat) (v11 : V) (v12 : Int) (σ : H) :
  denC E D W N C57_3 ⟨[(1, (V.int .i64 v1)), (2, (V.int .i64 v2)), (3, (V.bool v3)), (4, v4), (5, (V.ptr v5b v5o)), (11, v11), (12, (V.int .i64 v12))], [], [], σ⟩ (fun s' => denC E D W N (.keep [(1, (.int .i64)), (2, (.int .i64)), (3, .bool), (4, .any), (5, .ptr), (11, .any), (12, (.int .i64))] [] [] C57_2) s' (fun s'' => keepS [(1, (.int .i64)), (2, (.int .i64)), (3, .bool), (4, .any), (5, .ptr), (11, .any), (12, (.int .i64))] [] [] s'' li1) (blkK 0 (Fin57 E) (fun _ _ => none)) (Fin57 E)) (blkK 1 (fun s' => denC E D W N (.keep [(1, (.int .i64)), (2, (.int .i64)), (3, .bool), (4, .any), (5, .ptr), (11, .any), (12, (.int .i64))] [] [] C57_2) s' (fun s'' => keepS [(1, (.int .i64)), (2, (.int .i64)), (3, .bool), (4, .any), (5, .ptr), (11, .any), (12, (.int .i64))] [] [] s'' li1) (blkK 0 (Fin57 E) (fun _ _ => none)) (Fin57 E)) (blkK 0 (Fin57 E) (fun _ _ => none))) (Fin57 E) = J57_3 E D W N (fun v1 v2 v3 v4 v5b v5o v11 v12 σ => li1 ⟨[(1, (V.int .i64 v1)), (2, (V.int .i64 v2)), (3, (V.bool v3)), (4, v4), (5, (V.ptr v5b v5o)), (11, v11), (12, (V.int .i64 v12))], [], [], σ⟩) v1 v2 v3 v4 v5b v5o v11 v12 σ := by
  refine (P57_3 E D W N C57_2 li1 v1 v2 v3 v4 v5b v5o v11 v12 σ).trans ?_
  simp only [JE57_2]
  kernel_rfl
def L57_1 (E : List (Nat × Blk)) (D : Den) (W : DrawFn) (N : Nat) (n : Nat) : Int → Int → Bool → V → Nat → Nat → V → Int → H → Ans :=
  Nat.rec (fun _ _ _ _ _ _ _ _ _ => none) (fun _ ih => T57_1 E D W (J57_3 E D W N ih)) n
theorem LE57_1 (E : List (Nat × Blk)) (D : Den) (W : DrawFn) (N : Nat) (n : Nat) : ∀ (v1 : Int) (v2 : Int) (v3 : Bool) (v4 : V) (v5b : Nat) (v5o : Nat) (v11 : V) (v12 : Int) (σ : H),
  iterK (fun rec s' => denC E D W N (C57_1 C57_2 C57_3) s' (fun s'' => keepS [(1, (.int .i64)), (2, (.int .i64)), (3, .bool), (4, .any), (5, .ptr), (11, .any), (12, (.int .i64))] [] [] s'' rec) (blkK 0 (Fin57 E) (fun _ _ => none)) (Fin57 E)) n ⟨[(1, (V.int .i64 v1)), (2, (V.int .i64 v2)), (3, (V.bool v3)), (4, v4), (5, (V.ptr v5b v5o)), (11, v11), (12, (V.int .i64 v12))], [], [], σ⟩ = L57_1 E D W N n v1 v2 v3 v4 v5b v5o v11 v12 σ := by
  induction n with
  | zero => intro v1 v2 v3 v4 v5b v5o v11 v12 σ; rfl
  | succ n ihn =>
    intro v1 v2 v3 v4 v5b v5o v11 v12 σ
    rw [iterK_succ]
    refine (P57_1 E D W N C57_2 C57_3 (iterK (fun rec s' => denC E D W N (C57_1 C57_2 C57_3) s' (fun s'' => keepS [(1, (.int .i64)), (2, (.int .i64)), (3, .bool), (4, .any), (5, .ptr), (11, .any), (12, (.int .i64))] [] [] s'' rec) (blkK 0 (Fin57 E) (fun _ _ => none)) (Fin57 E)) n) v1 v2 v3 v4 v5b v5o v11 v12 σ).trans ?_
    simp only [ihn, JE57_3]
    kernel_rfl
def J57_0 (E : List (Nat × Blk)) (D : Den) (W : DrawFn) (N : Nat) : V → Int → Int → Bool → V → H → Ans := T57_0 E D W (L57_1 E D W N N)
theorem JE57_0 (E : List (Nat × Blk)) (D : Den) (W : DrawFn) (N : Nat) (v0 : V) (v1 : Int) (v2 : Int) (v3 : Bool) (v4 : V) (σ : H) :
  denC E D W N (C57_0 (C57_1 C57_2 C57_3)) ⟨[(0, v0), (1, (V.int .i64 v1)), (2, (V.int .i64 v2)), (3, (V.bool v3)), (4, v4)], [], [], σ⟩ (Fin57 E) (fun _ _ => none) (Fin57 E) = J57_0 E D W N v0 v1 v2 v3 v4 σ := by
  refine (P57_0 E D W N (C57_1 C57_2 C57_3)  v0 v1 v2 v3 v4 σ).trans ?_
  simp only [LE57_1]
  kernel_rfl
def F57 (E : List (Nat × Blk)) (D : Den) (W : DrawFn) (N : Nat) (args : List V) (σ : H) : Ans :=
 rtCons args fun x1 l2 =>
 rtCons l2 fun x3 l4 =>
 rtInt .i64 x3 fun x5 =>
 rtCons l4 fun x6 l7 =>
 rtInt .i64 x6 fun x8 =>
 rtCons l7 fun x9 l10 =>
 rtBool x9 fun x11 =>
 rtCons l10 fun x12 l13 =>
 rtNil l13 (
 J57_0 E D W N x1 x5 x8 x11 x12 σ)
def A57 : XFn := ⟨48, [.any, (.int .i64), (.int .i64), .bool, .any], [], (C57_0 (C57_1 C57_2 C57_3))⟩
theorem FE57 (E : List (Nat × Blk)) (D : Den) (W : DrawFn) (N : Nat) (args : List V) (σ : H) : runX E D W N A57 args σ = F57 E D W N args σ := by
  unfold F57
  simp only [← JE57_0]
  kernel_rfl
theorem AO57 : A57.body.ok = true := by kernel_rfl

def C59_0 : XC := (.seq (.ops (.op (some 3) .any [0] (.box 54 (.tmp 0)) <|
 .op (some 4) .any [1] (.box 72 (.tmp 1)) <|
 .op (some 5) .any [2] (.box 3 (.tmp 2)) <|
 .nil))
 (.ops (.op (some 6) .any [3] (.load none (.tmp 3)) <|
 .op (some 7) .any [4] (.faddr 12 (.tmp 4)) <|
 .op (some 8) .any [7] (.load none (.tmp 7)) <|
 .op (some 9) .any [8] (.len false (.tmp 8)) <|
 .op (some 10) .any [4] (.faddr 13 (.tmp 4)) <|
 .op (some 11) (.int .i64) [10] (.load none (.tmp 10)) <|
 .op (some 12) .any [4] (.faddr 14 (.tmp 4)) <|
 .op (some 13) .bool [12] (.load none (.tmp 12)) <|
 .op (some 14) .any [4, 3, 5] (.mkfn 74 [] [(.tmp 4), (.tmp 3), (.tmp 5)]) <|
 .op (some 15) (.tup []) [6, 9, 11, 13, 14] (.call 57 [(.tmp 6), (.tmp 9), (.tmp 11), (.tmp 13), (.tmp 14)]) <|
 .nil)))
def A59 : XFn := ⟨16, [.any, (.agg [(.int .i64), .str, .bool, (.int .i64), (.int .i64), .bool, .bool, .bool, .bool, (.int .i64), (.int .i64), .any, .any, (.int .i64), .bool, (.int .i64)]), (.int .i64)], [], C59_0⟩
/-! ### F60: __ogham_lex.reader_.skip -/
def Fin60 (E : List (Nat × Blk)) : St → Ans := fun s => resK E s [] fun l => some (oneV l, s.σ)
def C60_0 (cc1 : XC) : XC := (.block 0 (.loop [(0, .ptr)] [] [] cc1))
def T60_0 (E : List (Nat × Blk)) (D : Den) (W : DrawFn) (K1 : Nat → Nat → H → Ans) (v0b : Nat) (v0o : Nat) (σ : H) : Ans :=
 K1 v0b v0o σ
def C60_1 (cc2 : XC) (cc3 : XC) : XC := (.seq (.seq (.draw (.op (some 3) .any [0] (.mov (.tmp 0)) <|
 .op (some 4) .any [3] (.nilck (.tmp 3)) <|
 .op (some 5) .any [4] (.faddr 1 (.tmp 4)) <|
 .op (some 6) (.int .i64) [5] (.load none (.tmp 5)) <|
 .op (some 7) .any [0] (.mov (.tmp 0)) <|
 .op (some 8) .any [7] (.nilck (.tmp 7)) <|
 .op (some 9) .any [8] (.faddr 0 (.tmp 8)) <|
 .op (some 10) .str [9] (.load none (.tmp 9)) <|
 .op (some 11) .any [10] (.len true (.tmp 10)) <|
 .op (some 12) .any [6, 11] (.bin .lss .none (.tmp 6) (.tmp 11)) <|
 .nil) [0, 1, 3, 7, 0, 16, 48, 112, 240, 511])
 (.cond (.tmp 12) .skip
 (.exit 0)))
 (.block 1 (.seq (.ops (.op (some 13) .any [0] (.mov (.tmp 0)) <|
 .op (some 14) (.int .u8) [13] (.call 76 [(.tmp 13), (.con (V.int .i64 (Int.ofNat 0)))]) <|
 .op (some 2) .any [14] (.mov (.tmp 14)) <|
 .nil))
 (.block 2 (.seq (.ops (.op (some 16) .any [2] (.mov (.tmp 2)) <|
 .op (some 17) .any [16] (.bin .eql .none (.tmp 16) (.con (V.int .u8 (Int.ofNat 32)))) <|
 .op (some 18) .any [17] (.mov (.tmp 17)) <|
 .grp 18 false (.op (some 19) .any [2, 18] (.mov (.tmp 2)) <|
 .op (some 20) .any [19, 18] (.bin .eql .none (.tmp 19) (.con (V.int .u8 (Int.ofNat 9)))) <|
 .nil) 21 [18, 20] (.tmp 18) (.con (V.bool true)) (.tmp 20) <|
 .op (some 22) .any [21] (.mov (.tmp 21)) <|
 .grp 22 false (.op (some 23) .any [2, 22] (.mov (.tmp 2)) <|
 .op (some 24) .any [23, 22] (.bin .eql .none (.tmp 23) (.con (V.int .u8 (Int.ofNat 10)))) <|
 .nil) 25 [22, 24] (.tmp 22) (.con (V.bool true)) (.tmp 24) <|
 .op (some 26) .any [25] (.mov (.tmp 25)) <|
 .grp 26 false (.op (some 27) .any [2, 26] (.mov (.tmp 2)) <|
 .op (some 28) .any [27, 26] (.bin .eql .none (.tmp 27) (.con (V.int .u8 (Int.ofNat 13)))) <|
 .nil) 29 [26, 28] (.tmp 26) (.con (V.bool true)) (.tmp 28) <|
 .op (some 15) .any [29] (.mov (.tmp 29)) <|
 .nil))
 (.cond (.tmp 15) (.ops (.op (some 30) .any [0] (.mov (.tmp 0)) <|
 .op (some 31) .any [30] (.nilck (.tmp 30)) <|
 .op (some 32) .any [31] (.faddr 1 (.tmp 31)) <|
 .op (some 33) (.int .i64) [32] (.load none (.tmp 32)) <|
 .op (some 34) .any [33] (.bin .add .none (.tmp 33) (.con (V.int .i64 (Int.ofNat 1)))) <|
 .op (some 35) .any [30] (.nilck (.tmp 30)) <|
 .op (some 36) .any [35] (.faddr 1 (.tmp 35)) <|
 .op none .any [36, 34] (.store 1 (.tmp 36) (.tmp 34)) <|
 .nil))
 (.seq (.ops (.op (some 38) .any [0] (.mov (.tmp 0)) <|
 .op (some 39) .bool [38] (.call 77 [(.tmp 38), (.con (V.str ⟨2, 11565⟩))]) <|
 .op (some 37) .any [39] (.mov (.tmp 39)) <|
 .nil))
 (.cond (.tmp 37) (.seq (.ops (.op (some 40) .any [0] (.mov (.tmp 0)) <|
 .op (some 41) .any [40] (.nilck (.tmp 40)) <|
 .op (some 42) .any [41] (.faddr 1 (.tmp 41)) <|
 .op (some 43) (.int .i64) [42] (.load none (.tmp 42)) <|
 .op (some 44) .any [43] (.bin .add .none (.tmp 43) (.con (V.int .i64 (Int.ofNat 2)))) <|
 .op (some 45) .any [40] (.nilck (.tmp 40)) <|
 .op (some 46) .any [45] (.faddr 1 (.tmp 45)) <|
 .op none .any [46, 44] (.store 1 (.tmp 46) (.tmp 44)) <|
 .nil))
 (.seq (.block 3 (.loop [(0, .ptr)] [] [] cc3))
 (.keep [(0, .ptr)] [] [] cc2)))
 .ret))))))))
def T60_1 (E : List (Nat × Blk)) (D : Den) (W : DrawFn) (K3 : Nat → Nat → H → Ans) (R1 : Nat → Nat → H → Ans) (v0b : Nat) (v0o : Nat) (σ : H) : Ans :=
 ldK E σ v0b (Nat.add v0o 1) fun u1 =>
 rtInt .i64 u1 fun x2 =>
 ldK E σ v0b v0o fun u3 =>
 rtStr u3 fun x4 =>
 condK (ltF x2 (Int.ofNat (BS.len x4))) (
 callK (D 76 [(V.ptr v0b v0o), (V.int .i64 (Int.ofNat 0))] σ) fun u5 s6 =>
 rtInt .u8 u5 fun x7 =>
 joinB (fun c8 s9 =>
 joinB (fun c11 s12 =>
 joinB (fun c14 s15 =>
 condK c14 (
 ldK E s15 v0b (Nat.add v0o 1) fun u17 =>
 rtInt .i64 u17 fun x18 =>
 stK 1 v0b (Nat.add v0o 1) (V.int .i64 (addF .i64 x18 (Int.ofNat 1))) s15 fun s19 =>
 R1 v0b v0o s19) (
 callK (D 77 [(V.ptr v0b v0o), (V.str (BS.mk 2 11565))] s15) fun u20 s21 =>
 rtBool u20 fun x22 =>
 condK x22 (
 ldK E s21 v0b (Nat.add v0o 1) fun u23 =>
 rtInt .i64 u23 fun x24 =>
 stK 1 v0b (Nat.add v0o 1) (V.int .i64 (addF .i64 x24 (Int.ofNat 2))) s21 fun s25 =>
 K3 v0b v0o s25) (
 some ((V.tup []), s21)))) fun k16 =>
 condK c11 (
 k16 true s12) (
 k16 (eqF x7 (Int.ofNat 13)) s12)) fun k13 =>
 condK c8 (
 k13 true s9) (
 k13 (eqF x7 (Int.ofNat 10)) s9)) fun k10 =>
 condK (eqF x7 (Int.ofNat 32)) (
 k10 true s6) (
 k10 (eqF x7 (Int.ofNat 9)) s6)) (
 some ((V.tup []), σ))
def C60_2 : XC := (.seq (.ops (.op (some 74) .any [0] (.mov (.tmp 0)) <|
 .op (some 75) .bool [74] (.call 77 [(.tmp 74), (.con (V.str ⟨2, 11565⟩))]) <|
 .nil))
 (.cond (.tmp 75) (.ops (.op (some 76) .any [0] (.mov (.tmp 0)) <|
 .op (some 77) .any [76] (.nilck (.tmp 76)) <|
 .op (some 78) .any [77] (.faddr 1 (.tmp 77)) <|
 .op (some 79) (.int .i64) [78] (.load none (.tmp 78)) <|
 .op (some 80) .any [79] (.bin .add .none (.tmp 79) (.con (V.int .i64 (Int.ofNat 2)))) <|
 .op (some 81) .any [76] (.nilck (.tmp 76)) <|
 .op (some 82) .any [81] (.faddr 1 (.tmp 81)) <|
 .op none .any [82, 80] (.store 1 (.tmp 82) (.tmp 80)) <|
 .nil))
 .skip))
def T60_2 (E : List (Nat × Blk)) (D : Den) (W : DrawFn) (R1 : Nat → Nat → H → Ans) (v0b : Nat) (v0o : Nat) (σ : H) : Ans :=
 callK (D 77 [(V.ptr v0b v0o), (V.str (BS.mk 2 11565))] σ) fun u1 s2 =>
 rtBool u1 fun x3 =>
 condK x3 (
 ldK E s2 v0b (Nat.add v0o 1) fun u4 =>
 rtInt .i64 u4 fun x5 =>
 stK 1 v0b (Nat.add v0o 1) (V.int .i64 (addF .i64 x5 (Int.ofNat 2))) s2 fun s6 =>
 R1 v0b v0o s6) (
 R1 v0b v0o s2)
def C60_3 : XC := (.seq (.seq (.draw (.op (some 47) .any [0] (.mov (.tmp 0)) <|
 .op (some 48) .any [47] (.nilck (.tmp 47)) <|
 .op (some 49) .any [48] (.faddr 1 (.tmp 48)) <|
 .op (some 50) (.int .i64) [49] (.load none (.tmp 49)) <|
 .op (some 51) .any [0] (.mov (.tmp 0)) <|
 .op (some 52) .any [51] (.nilck (.tmp 51)) <|
 .op (some 53) .any [52] (.faddr 0 (.tmp 52)) <|
 .op (some 54) .str [53] (.load none (.tmp 53)) <|
 .op (some 55) .any [54] (.len true (.tmp 54)) <|
 .op (some 56) .any [50, 55] (.bin .lss .none (.tmp 50) (.tmp 55)) <|
 .op (some 57) .any [56] (.mov (.tmp 56)) <|
 .grp 57 true (.op (some 58) .any [0, 57] (.mov (.tmp 0)) <|
 .op (some 59) (.int .u8) [58, 57] (.call 76 [(.tmp 58), (.con (V.int .i64 (Int.ofNat 0)))]) <|
 .op (some 60) .any [59, 57] (.bin .neq .none (.tmp 59) (.con (V.int .u8 (Int.ofNat 10)))) <|
 .nil) 61 [57, 60] (.tmp 57) (.tmp 60) (.con (V.bool false)) <|
 .op (some 62) .any [61] (.mov (.tmp 61)) <|
 .grp 62 true (.op (some 63) .any [0, 62] (.mov (.tmp 0)) <|
 .op (some 64) .bool [63, 62] (.call 77 [(.tmp 63), (.con (V.str ⟨2, 11565⟩))]) <|
 .op (some 65) .any [64, 62] (.un .not (.tmp 64)) <|
 .nil) 66 [62, 65] (.tmp 62) (.tmp 65) (.con (V.bool false)) <|
 .nil) [0, 1, 3, 7, 0, 16, 48, 112, 240, 511, 1023, 2047, 4095, 8191, 16383, 32767, 65535, 131071, 262143, 524287])
 (.cond (.tmp 66) .skip
 (.exit 3)))
 (.block 4 (.ops (.op (some 67) .any [0] (.mov (.tmp 0)) <|
 .op (some 68) .any [67] (.nilck (.tmp 67)) <|
 .op (some 69) .any [68] (.faddr 1 (.tmp 68)) <|
 .op (some 70) (.int .i64) [69] (.load none (.tmp 69)) <|
 .op (some 71) .any [70] (.bin .add .none (.tmp 70) (.con (V.int .i64 (Int.ofNat 1)))) <|
 .op (some 72) .any [67] (.nilck (.tmp 67)) <|
 .op (some 73) .any [72] (.faddr 1 (.tmp 72)) <|
 .op none .any [73, 71] (.store 1 (.tmp 73) (.tmp 71)) <|
 .nil))))
def T60_3 (E : List (Nat × Blk)) (D : Den) (W : DrawFn) (K2 : Nat → Nat → H → Ans) (R3 : Nat → Nat → H → Ans) (v0b : Nat) (v0o : Nat) (σ : H) : Ans :=
 ldK E σ v0b (Nat.add v0o 1) fun u1 =>
 rtInt .i64 u1 fun x2 =>
 ldK E σ v0b v0o fun u3 =>
 rtStr u3 fun x4 =>
 joinB (fun c5 s6 =>
 joinB (fun c8 s9 =>
 condK c8 (
 ldK E s9 v0b (Nat.add v0o 1) fun u11 =>
 rtInt .i64 u11 fun x12 =>
 stK 1 v0b (Nat.add v0o 1) (V.int .i64 (addF .i64 x12 (Int.ofNat 1))) s9 fun s13 =>
 R3 v0b v0o s13) (
 K2 v0b v0o s9)) fun k10 =>
 condK c5 (
 callK (D 77 [(V.ptr v0b v0o), (V.str (BS.mk 2 11565))] s6) fun u14 s15 =>
 rtBool u14 fun x16 =>
 k10 (not x16) s15) (
 k10 false s6)) fun k7 =>
 condK (ltF x2 (Int.ofNat (BS.len x4))) (
 callK (D 76 [(V.ptr v0b v0o), (V.int .i64 (Int.ofNat 0))] σ) fun u17 s18 =>
 rtInt .u8 u17 fun x19 =>
 k7 (not (eqF x19 (Int.ofNat 10))) s18) (
 k7 false σ)
theorem P60_0 (E : List (Nat × Blk)) (D : Den) (W : DrawFn) (N : Nat) (cc1 : XC) (v0b : Nat) (v0o : Nat) (σ : H) :
  denC E D W N (C60_0 cc1) ⟨[(0, (V.ptr v0b v0o))], [], [], σ⟩ (Fin60 E) (fun _ _ => none) (Fin60 E) =
  T60_0 E D W (fun v0b v0o σ => iterK (fun rec s' => denC E D W N cc1 s' (fun s'' => keepS [(0, .ptr)] [] [] s'' rec) (blkK 0 (Fin60 E) (fun _ _ => none)) (Fin60 E)) N ⟨[(0, (V.ptr v0b v0o))], [], [], σ⟩) v0b v0o σ := by kernel_rfl
theorem P60_1 (E : List (Nat × Blk)) (D : Den) (W : DrawFn) (N : Nat) (cc2 : XC) (cc3 : XC) (li1 : St → Ans) (v0b : Nat) (v0o : Nat) (σ : H) :
  denC E D W N (C60_1 cc2 cc3) ⟨[(0, (V.ptr v0b v0o))], [], [], σ⟩ (fun s'' => keepS [(0, .ptr)] [] [] s'' li1) (blkK 0 (Fin60 E) (fun _ _ => none)) (Fin60 E) =
  T60_1 E D W (fun v0b v0o σ => iterK (fun rec s' => denC E D W N cc3 s' (fun s'' => keepS [(0, .ptr)] [] [] s'' rec) (blkK 3 (fun s' => denC E D W N (.keep [(0, .ptr)] [] [] cc2) s' (fun s'' => keepS [(0, .ptr)] [] [] s'' li1) (blkK 2 (fun s'' => keepS [(0, .ptr)] [] [] s'' li1) (blkK 1 (fun s'' => keepS [(0, .ptr)] [] [] s'' li1) (blkK 0 (Fin60 E) (fun _ _ => none)))) (Fin60 E)) (blkK 2 (fun s'' => keepS [(0, .ptr)] [] [] s'' li1) (blkK 1 (fun s'' => keepS [(0, .ptr)] [] [] s'' li1) (blkK 0 (Fin60 E) (fun _ _ => none))))) (Fin60 E)) N ⟨[(0, (V.ptr v0b v0o))], [], [], σ⟩) (fun v0b v0o σ => li1 ⟨[(0, (V.ptr v0b v0o))], [], [], σ⟩) v0b v0o σ := by kernel_rfl
theorem P60_2 (E : List (Nat × Blk)) (D : Den) (W : DrawFn) (N : Nat) (li1 : St → Ans) (v0b : Nat) (v0o : Nat) (σ : H) :
  denC E D W N (C60_2 ) ⟨[(0, (V.ptr v0b v0o))], [], [], σ⟩ (fun s'' => keepS [(0, .ptr)] [] [] s'' li1) (blkK 2 (fun s'' => keepS [(0, .ptr)] [] [] s'' li1) (blkK 1 (fun s'' => keepS [(0, .ptr)] [] [] s'' li1) (blkK 0 (Fin60 E) (fun _ _ => none)))) (Fin60 E) =
  T60_2 E D W (fun v0b v0o σ => li1 ⟨[(0, (V.ptr v0b v0o))], [], [], σ⟩) v0b v0o σ := by kernel_rfl
theorem P60_3 (E : List (Nat × Blk)) (D : Den) (W : DrawFn) (N : Nat) (cc2 : XC) (li1 : St → Ans) (li3 : St → Ans) (v0b : Nat) (v0o : Nat) (σ : H) :
  denC E D W N (C60_3 ) ⟨[(0, (V.ptr v0b v0o))], [], [], σ⟩ (fun s'' => keepS [(0, .ptr)] [] [] s'' li3) (blkK 3 (fun s' => denC E D W N (.keep [(0, .ptr)] [] [] cc2) s' (fun s'' => keepS [(0, .ptr)] [] [] s'' li1) (blkK 2 (fun s'' => keepS [(0, .ptr)] [] [] s'' li1) (blkK 1 (fun s'' => keepS [(0, .ptr)] [] [] s'' li1) (blkK 0 (Fin60 E) (fun _ _ => none)))) (Fin60 E)) (blkK 2 (fun s'' => keepS [(0, .ptr)] [] [] s'' li1) (blkK 1 (fun s'' => keepS [(0, .ptr)] [] [] s'' li1) (blkK 0 (Fin60 E) (fun _ _ => none))))) (Fin60 E) =
  T60_3 E D W (fun v0b v0o σ => denC E D W N cc2 ⟨[(0, (V.ptr v0b v0o))], [], [], σ⟩ (fun s'' => keepS [(0, .ptr)] [] [] s'' li1) (blkK 2 (fun s'' => keepS [(0, .ptr)] [] [] s'' li1) (blkK 1 (fun s'' => keepS [(0, .ptr)] [] [] s'' li1) (blkK 0 (Fin60 E) (fun _ _ => none)))) (Fin60 E)) (fun v0b v0o σ => li3 ⟨[(0, (V.ptr v0b v0o))], [], [], σ⟩) v0b v0o σ := by kernel_rfl
def J60_2 (E : List (Nat × Blk)) (D : Den) (W : DrawFn) (N : Nat) (R1 : Nat → Nat → H → Ans) : Nat → Nat → H → Ans := T60_2 E D W R1
theorem JE60_2 (E : List (Nat × Blk)) (D : Den) (W : DrawFn) (N : Nat) (li1 : St → Ans) (v0b : Nat) (v0o : Nat) (σ : H) :
  denC E D W N C60_2 ⟨[(0, (V.ptr v0b v0o))], [], [], σ⟩ (fun s'' => keepS [(0, .ptr)] [] [] s'' li1) (blkK 2 (fun s'' => keepS [(0, .ptr)] [] [] s'' li1) (blkK 1 (fun s'' => keepS [(0, .ptr)] [] [] s'' li1) (blkK 0 (Fin60 E) (fun _ _ => none)))) (Fin60 E) = J60_2 E D W N (fun v0b v0o σ => li1 ⟨[(0, (V.ptr v0b v0o))], [], [], σ⟩) v0b v0o σ := by
  refine (P60_2 E D W N  li1 v0b v0o σ).trans ?_
  kernel_rfl
def L60_3 (E : List (Nat × Blk)) (D : Den) (W : DrawFn) (N : Nat) (R1 : Nat → Nat → H → Ans) (n : Nat) : Nat → Nat → H → Ans :=
  Nat.rec (fun _ _ _ => none) (fun _ ih => T60_3 E D W (J60_2 E D W N R1) ih) n
theorem LE60_3 (E : List (Nat × Blk)) (D : Den) (W : DrawFn) (N : Nat) (li1 : St → Ans) (n : Nat) : ∀ (v0b : Nat) (v0o : Nat) (σ : H),
  iterK (fun rec s' => denC E D W N C60_3 s' (fun s'' => keepS [(0, .ptr)] [] [] s'' rec) (blkK 3 (fun s' => denC E D W N (.keep [(0, .ptr)] [] [] C60_2) s' (fun s'' => keepS [(0, .ptr)] [] [] s'' li1) (blkK 2 (fun s'' => keepS [(0, .ptr)] [] [] s'' li1) (blkK 1 (fun s'' => keepS [(0, .ptr)] [] [] s'' li1) (blkK 0 (Fin60 E) (fun _ _ => none)))) (Fin60 E)) (blkK 2 (fun s'' => keepS [(0, .ptr)] [] [] s'' li1) (blkK 1 (fun s'' => keepS [(0, .ptr)] [] [] s'' li1) (blkK 0 (Fin60 E) (fun _ _ => none))))) (Fin60 E)) n ⟨[(0, (V.ptr v0b v0o))], [], [], σ⟩ = L60_3 E D W N (fun v0b v0o σ => li1 ⟨[(0, (V.ptr v0b v0o))], [], [], σ⟩) n v0b v0o σ := by
  induction n with
  | zero => intro v0b v0o σ; rfl
  | succ n ihn =>
    intro v0b v0o σ
    rw [iterK_succ]
    refine (P60_3 E D W N C60_2 li1 (iterK (fun rec s' => denC E D W N C60_3 s' (fun s'' => keepS [(0, .ptr)] [] [] s'' rec) (blkK 3 (fun s' => denC E D W N (.keep [(0, .ptr)] [] [] C60_2) s' (fun s'' => keepS [(0, .ptr)] [] [] s'' li1) (blkK 2 (fun s'' => keepS [(0, .ptr)] [] [] s'' li1) (blkK 1 (fun s'' => keepS [(0, .ptr)] [] [] s'' li1) (blkK 0 (Fin60 E) (fun _ _ => none)))) (Fin60 E)) (blkK 2 (fun s'' => keepS [(0, .ptr)] [] [] s'' li1) (blkK 1 (fun s'' => keepS [(0, .ptr)] [] [] s'' li1) (blkK 0 (Fin60 E) (fun _ _ => none))))) (Fin60 E)) n) v0b v0o σ).trans ?_
    simp only [ihn, JE60_2]
    kernel_rfl
def L60_1 (E : List (Nat × Blk)) (D : Den) (W : DrawFn) (N : Nat) (n : Nat) : Nat → Nat → H → Ans :=
  Nat.rec (fun _ _ _ => none) (fun _ ih => T60_1 E D W (L60_3 E D W N ih N) ih) n
theorem LE60_1 (E : List (Nat × Blk)) (D : Den) (W : DrawFn) (N : Nat) (n : Nat) : ∀ (v0b : Nat) (v0o : Nat) (σ : H),
  iterK (fun rec s' => denC E D W N (C60_1 C60_2 C60_3) s' (fun s'' => keepS [(0, .ptr)] [] [] s'' rec) (blkK 0 (Fin60 E) (fun _ _ => none)) (Fin60 E)) n ⟨[(0, (V.ptr v0b v0o))], [], [], σ⟩ = L60_1 E D W N n v0b v0o σ := by
  induction n with
  | zero => intro v0b v0o σ; rfl
  | succ n ihn =>
    intro v0b v0o σ
    rw [iterK_succ]
    refine (P60_1 E D W N C60_2 C60_3 (iterK (fun rec s' => denC E D W N (C60_1 C60_2 C60_3) s' (fun s'' => keepS [(0, .ptr)] [] [] s'' rec) (blkK 0 (Fin60 E) (fun _ _ => none)) (Fin60 E)) n) v0b v0o σ).trans ?_
    simp only [ihn, LE60_3]
    kernel_rfl
def J60_0 (E : List (Nat × Blk)) (D : Den) (W : DrawFn) (N : Nat) : Nat → Nat → H → Ans := T60_0 E D W (L60_1 E D W N N)
theorem JE60_0 (E : List (Nat × Blk)) (D : Den) (W : DrawFn) (N : Nat) (v0b : Nat) (v0o : Nat) (σ : H) :
  denC E D W N (C60_0 (C60_1 C60_2 C60_3)) ⟨[(0, (V.ptr v0b v0o))], [], [], σ⟩ (Fin60 E) (fun _ _ => none) (Fin60 E) = J60_0 E D W N v0b v0o σ := by
  refine (P60_0 E D W N (C60_1 C60_2 C60_3)  v0b v0o σ).trans ?_
  simp only [LE60_1]
  kernel_rfl
def F60 (E : List (Nat × Blk)) (D : Den) (W : DrawFn) (N : Nat) (args : List V) (σ : H) : Ans :=
 rtCons args fun x1 l2 =>
 rtPtr x1 fun b3 o4 =>
 rtNil l2 (
 J60_0 E D W N b3 o4 σ)
def A60 : XFn := ⟨83, [.ptr], [], (C60_0 (C60_1 C60_2 C60_3))⟩
theorem FE60 (E : List (Nat × Blk)) (D : Den) (W : DrawFn) (N : Nat) (args : List V) (σ : H) : runX E D W N A60 args σ = F60 E D W N args σ := by
  unfold F60
  simp only [← JE60_0]
  kernel_rfl
theorem AO60 : A60.body.ok = true := by kernel_rfl

/-! ### F61: __ogham_lex.lexer_.token -/
def Fin61 (E : List (Nat × Blk)) : St → Ans := fun s => resK E s [(.tmp 2), (.tmp 3)] fun l => some (oneV l, s.σ)
def C61_0 : XC := (.seq (.ops (.op (some 2) .any [] (.mov (.con (V.int .i64 (Int.ofNat 0)))) <|
 .op (some 3) .any [] (.mov (.con (V.str ⟨0, 0⟩))) <|
 .nil))
 (.seq (.seq (.ops (.op (some 5) .any [0] (.mov (.tmp 0)) <|
 .op (some 6) .any [5] (.nilck (.tmp 5)) <|
 .op (some 7) .any [6] (.faddr 0 (.tmp 6)) <|
 .op (some 8) (.int .u8) [7] (.call 76 [(.tmp 7), (.con (V.int .i64 (Int.ofNat 0)))]) <|
 .op (some 4) .any [8] (.mov (.tmp 8)) <|
 .nil))
 (.block 0 (.seq (.ops (.op (some 10) .any [4] (.mov (.tmp 4)) <|
 .op (some 11) .bool [10] (.call 78 [(.tmp 10)]) <|
 .op (some 9) .any [11] (.mov (.tmp 11)) <|
 .nil))
 (.cond (.tmp 9) (.seq (.ops (.op (some 12) .any [0] (.mov (.tmp 0)) <|
 .op (some 13) (.tup [(.int .i64), .str]) [12] (.call 79 [(.tmp 12)]) <|
 .op (some 14) .any [13] (.extract 0 (.tmp 13)) <|
 .op (some 15) .any [13] (.extract 1 (.tmp 13)) <|
 .op (some 2) .any [14] (.mov (.tmp 14)) <|
 .op (some 3) .any [15] (.mov (.tmp 15)) <|
 .nil))
 .ret)
 (.seq (.ops (.op (some 17) .any [4] (.mov (.tmp 4)) <|
 .op (some 18) .bool [17] (.call 80 [(.tmp 17)]) <|
 .op (some 19) .any [18] (.mov (.tmp 18)) <|
 .grp 19 false (.op (some 20) .any [4, 19] (.mov (.tmp 4)) <|
 .op (some 21) .any [20, 19] (.bin .eql .none (.tmp 20) (.con (V.int .u8 (Int.ofNat 45)))) <|
 .op (some 22) .any [21, 19] (.mov (.tmp 21)) <|
 .grp 22 true (.op (some 23) .any [0, 22] (.mov (.tmp 0)) <|
 .op (some 24) .any [23, 22] (.nilck (.tmp 23)) <|
 .op (some 25) .any [24, 22] (.faddr 0 (.tmp 24)) <|
 .op (some 26) (.int .u8) [25, 22] (.call 76 [(.tmp 25), (.con (V.int .i64 (Int.ofNat 1)))]) <|
 .op (some 27) .bool [26, 22] (.call 80 [(.tmp 26)]) <|
 .nil) 28 [22, 27, 19] (.tmp 22) (.tmp 27) (.con (V.bool false)) <|
 .nil) 29 [19, 28] (.tmp 19) (.con (V.bool true)) (.tmp 28) <|
 .op (some 16) .any [29] (.mov (.tmp 29)) <|
 .nil))
 (.cond (.tmp 16) (.seq (.ops (.op (some 30) .any [0] (.mov (.tmp 0)) <|
 .op (some 31) (.tup [(.int .i64), .str]) [30] (.call 81 [(.tmp 30)]) <|
 .op (some 32) .any [31] (.extract 0 (.tmp 31)) <|
 .op (some 33) .any [31] (.extract 1 (.tmp 31)) <|
 .op (some 2) .any [32] (.mov (.tmp 32)) <|
 .op (some 3) .any [33] (.mov (.tmp 33)) <|
 .nil))
 .ret)
 (.seq (.ops (.op (some 35) .any [4] (.mov (.tmp 4)) <|
 .op (some 36) .any [35] (.bin .eql .none (.tmp 35) (.con (V.int .u8 (Int.ofNat 39)))) <|
 .op (some 34) .any [36] (.mov (.tmp 36)) <|
 .nil))
 (.cond (.tmp 34) (.seq (.ops (.op (some 37) .any [0] (.mov (.tmp 0)) <|
 .op (some 38) (.tup [(.int .i64), .str]) [37] (.call 82 [(.tmp 37)]) <|
 .op (some 39) .any [38] (.extract 0 (.tmp 38)) <|
 .op (some 40) .any [38] (.extract 1 (.tmp 38)) <|
 .op (some 2) .any [39] (.mov (.tmp 39)) <|
 .op (some 3) .any [40] (.mov (.tmp 40)) <|
 .nil))
 .ret)
 (.seq (.ops (.op (some 42) .any [4] (.mov (.tmp 4)) <|
 .op (some 43) .any [42] (.bin .eql .none (.tmp 42) (.con (V.int .u8 (Int.ofNat 34)))) <|
 .op (some 41) .any [43] (.mov (.tmp 43)) <|
 .nil))
 (.cond (.tmp 41) (.seq (.ops (.op (some 44) .any [0] (.mov (.tmp 0)) <|
 .op (some 45) (.tup [(.int .i64), .str]) [44] (.call 83 [(.tmp 44)]) <|
 .op (some 46) .any [45] (.extract 0 (.tmp 45)) <|
 .op (some 47) .any [45] (.extract 1 (.tmp 45)) <|
 .op (some 2) .any [46] (.mov (.tmp 46)) <|
 .op (some 3) .any [47] (.mov (.tmp 47)) <|
 .nil))
 .ret)
 .skip))))))))))
 (.seq (.ops (.op (some 48) .any [0] (.mov (.tmp 0)) <|
 .op (some 49) (.tup [(.int .i64), .str]) [48] (.call 84 [(.tmp 48)]) <|
 .op (some 50) .any [49] (.extract 0 (.tmp 49)) <|
 .op (some 51) .any [49] (.extract 1 (.tmp 49)) <|
 .op (some 2) .any [50] (.mov (.tmp 50)) <|
 .op (some 3) .any [51] (.mov (.tmp 51)) <|
 .nil))
 .ret)))
def T61_0 (E : List (Nat × Blk)) (D : Den) (W : DrawFn) (v0b : Nat) (v0o : Nat) (σ : H) : Ans :=
 callK (D 76 [(V.ptr v0b v0o), (V.int .i64 (Int.ofNat 0))] σ) fun u1 s2 =>
 rtInt .u8 u1 fun x3 =>
 callK (D 78 [(V.int .u8 x3)] s2) fun u4 s5 =>
 rtBool u4 fun x6 =>
 condK x6 (
 callK (D 79 [(V.ptr v0b v0o)] s5) fun u7 s8 =>
 rtTup u7 fun l9 =>
 rtCons l9 fun x10 l11 =>
 rtInt .i64 x10 fun x12 =>
 rtCons l11 fun x13 l14 =>
 rtStr x13 fun x15 =>
 rtNil l14 (
 some ((V.tup [(V.int .i64 x12), (V.str x15)]), s8))) (
 callK (D 80 [(V.int .u8 x3)] s5) fun u16 s17 =>
 rtBool u16 fun x18 =>
 joinB (fun c19 s20 =>
 condK c19 (
 callK (D 81 [(V.ptr v0b v0o)] s20) fun u22 s23 =>
 rtTup u22 fun l24 =>
 rtCons l24 fun x25 l26 =>
 rtInt .i64 x25 fun x27 =>
 rtCons l26 fun x28 l29 =>
 rtStr x28 fun x30 =>
 rtNil l29 (
 some ((V.tup [(V.int .i64 x27), (V.str x30)]), s23))) (
 condK (eqF x3 (Int.ofNat 39)) (
 callK (D 82 [(V.ptr v0b v0o)] s20) fun u31 s32 =>
 rtTup u31 fun l33 =>
 rtCons l33 fun x34 l35 =>
 rtInt .i64 x34 fun x36 =>
 rtCons l35 fun x37 l38 =>
 rtStr x37 fun x39 =>
 rtNil l38 (
 some ((V.tup [(V.int .i64 x36), (V.str x39)]), s32))) (
 condK (eqF x3 (Int.ofNat 34)) (
 callK (D 83 [(V.ptr v0b v0o)] s20) fun u40 s41 =>
 rtTup u40 fun l42 =>
 rtCons l42 fun x43 l44 =>
 rtInt .i64 x43 fun x45 =>
 rtCons l44 fun x46 l47 =>
 rtStr x46 fun x48 =>
 rtNil l47 (
 some ((V.tup [(V.int .i64 x45), (V.str x48)]), s41))) (
 callK (D 84 [(V.ptr v0b v0o)] s20) fun u49 s50 =>
 rtTup u49 fun l51 =>
 rtCons l51 fun x52 l53 =>
 rtInt .i64 x52 fun x54 =>
 rtCons l53 fun x55 l56 =>
 rtStr x55 fun x57 =>
 rtNil l56 (
 some ((V.tup [(V.int .i64 x54), (V.str x57)]), s50)))))) fun k21 =>
 condK x18 (
 k21 true s17) (
 joinB (fun c58 s59 =>
 k21 c58 s59) fun k60 =>
 condK (eqF x3 (Int.ofNat 45)) (
 callK (D 76 [(V.ptr v0b v0o), (V.int .i64 (Int.ofNat 1))] s17) fun u61 s62 =>
 rtInt .u8 u61 fun x63 =>
 callK (D 80 [(V.int .u8 x63)] s62) fun u64 s65 =>
 rtBool u64 fun x66 =>
 k60 x66 s65) (
 k60 false s17)))
theorem P61_0 (E : List (Nat × Blk)) (D : Den) (W : DrawFn) (N : Nat) (v0b : Nat) (v0o : Nat) (σ : H) :
  denC E D W N (C61_0 ) ⟨[(0, (V.ptr v0b v0o))], [], [], σ⟩ (Fin61 E) (fun _ _ => none) (Fin61 E) =
  T61_0 E D W  v0b v0o σ := by kernel_rfl
def J61_0 (E : List (Nat × Blk)) (D : Den) (W : DrawFn) (N : Nat) : Nat → Nat → H → Ans := T61_0 E D W 
theorem JE61_0 (E : List (Nat × Blk)) (D : Den) (W : DrawFn) (N : Nat) (v0b : Nat) (v0o : Nat) (σ : H) :
  denC E D W N C61_0 ⟨[(0, (V.ptr v0b v0o))], [], [], σ⟩ (Fin61 E) (fun _ _ => none) (Fin61 E) = J61_0 E D W N v0b v0o σ := by
  refine (P61_0 E D W N   v0b v0o σ).trans ?_
  kernel_rfl
def F61 (E : List (Nat × Blk)) (D : Den) (W : DrawFn) (N : Nat) (args : List V) (σ : H) : Ans :=
 rtCons args fun x1 l2 =>
 rtPtr x1 fun b3 o4 =>
 rtNil l2 (
 J61_0 E D W N b3 o4 σ)
def A61 : XFn := ⟨52, [.ptr], [(.tmp 2), (.tmp 3)], C61_0⟩
theorem FE61 (E : List (Nat × Blk)) (D : Den) (W : DrawFn) (N : Nat) (args : List V) (σ : H) : runX E D W N A61 args σ = F61 E D W N args σ := by
  unfold F61
  simp only [← JE61_0]
  kernel_rfl
theorem AO61 : A61.body.ok = true := by kernel_rfl

/-! ### F62: __ogham_syntax.parser_.of -/
def G62_0 : List AOper := [⟨(some 15), .load (some 3) (.tmp 6), none⟩, ⟨(some 16), .mov (.tmp 0), none⟩, ⟨(some 17), .faddr 2 (.tmp 6), none⟩, ⟨(some 18), .load none (.tmp 17), none⟩, ⟨(some 19), .call 85 [(.tmp 16), (.tmp 18), (.con (V.int .i64 (Int.ofNat 7)))], none⟩, ⟨none, .store 3 (.tmp 4) (.tmp 15), none⟩, ⟨(some 5), .mov (.tmp 19), none⟩]
def H62_0 : List DP := [⟨0, [6]⟩, ⟨0, [0]⟩, ⟨0, [6]⟩, ⟨4, [17]⟩, ⟨14, [16, 18]⟩, ⟨31, [4, 15]⟩, ⟨63, [19]⟩]
def Fin62 (E : List (Nat × Blk)) : St → Ans := fun s => resK E s [(.cell 4 (some 3)), (.tmp 5)] fun l => some (oneV l, s.σ)
def C62_0 : XC := (.seq (.ops (.op (some 4) .any [] (.alloc 50 [(V.int .i64 (Int.ofNat 0)), (V.str ⟨0, 0⟩), (V.int .i64 (Int.ofNat 0))]) <|
 .op (some 5) .any [] (.mov (.con (V.bool false))) <|
 .nil))
 (.seq (.ops (.op (some 7) .any [0] (.mov (.tmp 0)) <|
 .op (some 8) .any [7] (.nilck (.tmp 7)) <|
 .op (some 9) .any [8] (.faddr 0 (.tmp 8)) <|
 .op (some 10) (.agg [(.int .i64), .str, (.int .i64)]) [9] (.call 65 [(.tmp 9)]) <|
 .op (some 6) .any [] (.alloc 50 [(V.int .i64 (Int.ofNat 0)), (V.str ⟨0, 0⟩), (V.int .i64 (Int.ofNat 0))]) <|
 .op none (.agg [(.int .i64), .str, (.int .i64)]) [6, 10] (.store 3 (.tmp 6) (.tmp 10)) <|
 .nil))
 (.seq (.seq (.ops (.op (some 11) .any [6] (.faddr 0 (.tmp 6)) <|
 .op (some 12) (.int .i64) [11] (.load none (.tmp 11)) <|
 .op (some 13) .any [1] (.mov (.tmp 1)) <|
 .op (some 14) .any [12, 13] (.bin .neq .none (.tmp 12) (.tmp 13)) <|
 .nil))
 (.cond (.tmp 14) (.seq (.keep [(0, .ptr), (4, .ptr), (6, .ptr)] [] [] (.gdraw G62_0 H62_0 [(4, .ptr), (5, .bool)]))
 .ret)
 .skip))
 (.seq (.ops (.op (some 20) .any [0] (.mov (.tmp 0)) <|
 .op (some 21) .any [20] (.nilck (.tmp 20)) <|
 .op (some 22) .any [21] (.faddr 0 (.tmp 21)) <|
 .op (some 23) (.agg [(.int .i64), .str, (.int .i64)]) [22] (.call 86 [(.tmp 22)]) <|
 .op none (.agg [(.int .i64), .str, (.int .i64)]) [4, 23] (.store 3 (.tmp 4) (.tmp 23)) <|
 .op (some 5) .any [] (.mov (.con (V.bool true))) <|
 .nil))
 .ret))))
def T62_0 (E : List (Nat × Blk)) (D : Den) (W : DrawFn) (v0b : Nat) (v0o : Nat) (v1 : Int) (σ : H) : Ans :=
 let s1 := newB σ (.cells [(V.int .i64 (Int.ofNat 0)), (V.str ⟨0, 0⟩), (V.int .i64 (Int.ofNat 0))]);
 callK (D 65 [(V.ptr v0b v0o)] s1) fun u2 s3 =>
 rtAgg u2 fun l4 =>
 rtCons l4 fun x5 l6 =>
 rtInt .i64 x5 fun x7 =>
 rtCons l6 fun x8 l9 =>
 rtStr x8 fun x10 =>
 rtCons l9 fun x11 l12 =>
 rtInt .i64 x11 fun x13 =>
 rtNil l12 (
 let s14 := newB s3 (.cells [(V.int .i64 (Int.ofNat 0)), (V.str ⟨0, 0⟩), (V.int .i64 (Int.ofNat 0))]);
 stK 3 (H.next s3) 0 (V.agg [(V.int .i64 x7), (V.str x10), (V.int .i64 x13)]) s14 fun s15 =>
 ldK E s15 (H.next s3) 0 fun u16 =>
 rtInt .i64 u16 fun x17 =>
 condK (not (eqF x17 v1)) (
 gdrawK (W G62_0 H62_0 [(0, (V.ptr v0b v0o)), (4, (V.ptr (H.next σ) 0)), (6, (V.ptr (H.next s3) 0))] s15) fun e18 s19 =>
 getL e18 4 fun u20 =>
 rtPtr u20 fun b21 o22 =>
 getL e18 5 fun u23 =>
 rtBool u23 fun x24 =>
 ldnK E s19 b21 o22 3 fun u25 =>
 some ((V.tup [(V.agg u25), (V.bool x24)]), s19)) (
 callK (D 86 [(V.ptr v0b v0o)] s15) fun u26 s27 =>
 rtAgg u26 fun l28 =>
 rtCons l28 fun x29 l30 =>
 rtInt .i64 x29 fun x31 =>
 rtCons l30 fun x32 l33 =>
 rtStr x32 fun x34 =>
 rtCons l33 fun x35 l36 =>
 rtInt .i64 x35 fun x37 =>
 rtNil l36 (
 stK 3 (H.next σ) 0 (V.agg [(V.int .i64 x31), (V.str x34), (V.int .i64 x37)]) s27 fun s38 =>
 ldnK E s38 (H.next σ) 0 3 fun u39 =>
 some ((V.tup [(V.agg u39), (V.bool true)]), s38))))
theorem P62_0 (E : List (Nat × Blk)) (D : Den) (W : DrawFn) (N : Nat) (v0b : Nat) (v0o : Nat) (v1 : Int) (σ : H) :
  denC E D W N (C62_0 ) ⟨[(0, (V.ptr v0b v0o)), (1, (V.int .i64 v1))], [], [], σ⟩ (Fin62 E) (fun _ _ => none) (Fin62 E) =
  T62_0 E D W  v0b v0o v1 σ := by kernel_rfl
def J62_0 (E : List (Nat × Blk)) (D : Den) (W : DrawFn) (N : Nat) : Nat → Nat → Int → H → Ans := T62_0 E D W 
theorem JE62_0 (E : List (Nat × Blk)) (D : Den) (W : DrawFn) (N : Nat) (v0b : Nat) (v0o : Nat) (v1 : Int) (σ : H) :
  denC E D W N C62_0 ⟨[(0, (V.ptr v0b v0o)), (1, (V.int .i64 v1))], [], [], σ⟩ (Fin62 E) (fun _ _ => none) (Fin62 E) = J62_0 E D W N v0b v0o v1 σ := by
  refine (P62_0 E D W N   v0b v0o v1 σ).trans ?_
  kernel_rfl
def F62 (E : List (Nat × Blk)) (D : Den) (W : DrawFn) (N : Nat) (args : List V) (σ : H) : Ans :=
 rtCons args fun x1 l2 =>
 rtPtr x1 fun b3 o4 =>
 rtCons l2 fun x5 l6 =>
 rtInt .i64 x5 fun x7 =>
 rtNil l6 (
 J62_0 E D W N b3 o4 x7 σ)
def A62 : XFn := ⟨24, [.ptr, (.int .i64)], [(.cell 4 (some 3)), (.tmp 5)], C62_0⟩
theorem FE62 (E : List (Nat × Blk)) (D : Den) (W : DrawFn) (N : Nat) (args : List V) (σ : H) : runX E D W N A62 args σ = F62 E D W N args σ := by
  unfold F62
  simp only [← JE62_0]
  kernel_rfl
theorem AO62 : A62.body.ok = true := by kernel_rfl

/-! ### F63: __ogham_syntax.parser_.want -/
def Fin63 (E : List (Nat × Blk)) : St → Ans := fun s => resK E s [(.tmp 4)] fun l => some (oneV l, s.σ)
def C63_0 (cc1 : XC) (cc2 : XC) : XC := (.seq (.ops (.op (some 4) .any [] (.mov (.con (V.bool false))) <|
 .nil))
 (.seq (.seq (.ops (.op (some 7) .any [1] (.mov (.tmp 1)) <|
 .op (some 8) .any [7] (.len false (.tmp 7)) <|
 .op (some 9) .any [] (.mov (.con (V.int .i64 (Int.ofNat 0)))) <|
 .nil))
 (.block 0 (.loop [(0, .ptr), (7, .any), (8, (.int .i64)), (9, (.int .i64))] [] [] cc2)))
 (.keep [] [] [] cc1)))
def T63_0 (E : List (Nat × Blk)) (D : Den) (W : DrawFn) (K2 : Nat → Nat → V → Int → Int → H → Ans) (v0b : Nat) (v0o : Nat) (v1 : V) (σ : H) : Ans :=
 slenK v1 fun n1 =>
 K2 v0b v0o v1 (Int.ofNat n1) (Int.ofNat 0) σ
def C63_1 : XC := (.seq (.ops (.op (some 4) .any [] (.mov (.con (V.bool true))) <|
 .nil))
 .ret)
def T63_1 (E : List (Nat × Blk)) (D : Den) (W : DrawFn) (σ : H) : Ans :=
 some ((V.bool true), σ)
def C63_2 : XC := (.seq (.ops (.op (some 10) .any [9, 8] (.bin .lss .none (.tmp 9) (.tmp 8)) <|
 .nil))
 (.seq (.cond (.tmp 10) .skip
 (.exit 0))
 (.seq (.block 1 (.seq (.ops (.op (some 11) .any [7, 9] (.iaddrS 1 (.tmp 7) (.tmp 9)) <|
 .op (some 12) .str [11] (.load none (.tmp 11)) <|
 .op (some 6) .any [12] (.mov (.tmp 12)) <|
 .nil))
 (.seq (.ops (.op (some 13) .any [0] (.mov (.tmp 0)) <|
 .op (some 14) .any [13] (.nilck (.tmp 13)) <|
 .op (some 15) .any [14] (.faddr 0 (.tmp 14)) <|
 .op (some 16) .any [6] (.mov (.tmp 6)) <|
 .op (some 17) .bool [15, 16] (.call 87 [(.tmp 15), (.tmp 16)]) <|
 .op (some 18) .any [17] (.un .not (.tmp 17)) <|
 .nil))
 (.cond (.tmp 18) (.seq (.ops (.op (some 19) .any [0] (.mov (.tmp 0)) <|
 .op (some 20) .any [0] (.mov (.tmp 0)) <|
 .op (some 21) .any [20] (.nilck (.tmp 20)) <|
 .op (some 22) .any [21] (.faddr 0 (.tmp 21)) <|
 .op (some 23) (.agg [(.int .i64), .str, (.int .i64)]) [22] (.call 65 [(.tmp 22)]) <|
 .op (some 24) (.int .i64) [23] (.field 2 none (.tmp 23)) <|
 .op (some 25) .bool [19, 24] (.call 85 [(.tmp 19), (.tmp 24), (.con (V.int .i64 (Int.ofNat 7)))]) <|
 .op (some 4) .any [25] (.mov (.tmp 25)) <|
 .nil))
 .ret)
 .skip))))
 (.ops (.op (some 26) .any [9] (.bin .add .none (.tmp 9) (.con (V.int .i64 (Int.ofNat 1)))) <|
 .op (some 9) .any [26] (.mov (.tmp 26)) <|
 .nil)))))
def T63_2 (E : List (Nat × Blk)) (D : Den) (W : DrawFn) (K1 : H → Ans) (R2 : Nat → Nat → V → Int → Int → H → Ans) (v0b : Nat) (v0o : Nat) (v7 : V) (v8 : Int) (v9 : Int) (σ : H) : Ans :=
 condK (ltF v9 v8) (
 iaddrSK 1 v7 v9 fun b1 o2 =>
 ldK E σ b1 o2 fun u3 =>
 rtStr u3 fun x4 =>
 callK (D 87 [(V.ptr v0b v0o), (V.str x4)] σ) fun u5 s6 =>
 rtBool u5 fun x7 =>
 condK (not x7) (
 callK (D 65 [(V.ptr v0b v0o)] s6) fun u8 s9 =>
 rtAgg u8 fun l10 =>
 rtCons l10 fun x11 l12 =>
 rtInt .i64 x11 fun x13 =>
 rtCons l12 fun x14 l15 =>
 rtStr x14 fun x16 =>
 rtCons l15 fun x17 l18 =>
 rtInt .i64 x17 fun x19 =>
 rtNil l18 (
 callK (D 85 [(V.ptr v0b v0o), (V.int .i64 x19), (V.int .i64 (Int.ofNat 7))] s9) fun u20 s21 =>
 rtBool u20 fun x22 =>
 some ((V.bool x22), s21))) (
 R2 v0b v0o v7 v8 (addF .i64 v9 (Int.ofNat 1)) s6)) (
 K1 σ)
theorem P63_0 (E : List (Nat × Blk)) (D : Den) (W : DrawFn) (N : Nat) (cc1 : XC) (cc2 : XC) (v0b : Nat) (v0o : Nat) (v1 : V) (σ : H) :
  denC E D W N (C63_0 cc1 cc2) ⟨[(0, (V.ptr v0b v0o)), (1, v1)], [], [], σ⟩ (Fin63 E) (fun _ _ => none) (Fin63 E) =
  T63_0 E D W (fun v0b v0o v7 v8 v9 σ => iterK (fun rec s' => denC E D W N cc2 s' (fun s'' => keepS [(0, .ptr), (7, .any), (8, (.int .i64)), (9, (.int .i64))] [] [] s'' rec) (blkK 0 (fun s' => denC E D W N (.keep [] [] [] cc1) s' (Fin63 E) (fun _ _ => none) (Fin63 E)) (fun _ _ => none)) (Fin63 E)) N ⟨[(0, (V.ptr v0b v0o)), (7, v7), (8, (V.int .i64 v8)), (9, (V.int .i64 v9))], [], [], σ⟩) v0b v0o v1 σ := by kernel_rfl
theorem P63_1 (E : List (Nat × Blk)) (D : Den) (W : DrawFn) (N : Nat) (σ : H) :
  denC E D W N (C63_1 ) ⟨[], [], [], σ⟩ (Fin63 E) (fun _ _ => none) (Fin63 E) =
  T63_1 E D W   σ := by kernel_rfl
theorem P63_2 (E : List (Nat × Blk)) (D : Den) (W : DrawFn) (N : Nat) (cc1 : XC) (li2 : St → Ans) (v0b : Nat) (v0o : Nat) (v7 : V) (v8 : Int) (v9 : Int) (σ : H) :
  denC E D W N (C63_2 ) ⟨[(0, (V.ptr v0b v0o)), (7, v7), (8, (V.int .i64 v8)), (9, (V.int .i64 v9))], [], [], σ⟩ (fun s'' => keepS [(0, .ptr), (7, .any), (8, (.int .i64)), (9, (.int .i64))] [] [] s'' li2) (blkK 0 (fun s' => denC E D W N (.keep [] [] [] cc1) s' (Fin63 E) (fun _ _ => none) (Fin63 E)) (fun _ _ => none)) (Fin63 E) =
  T63_2 E D W (fun  σ => denC E D W N cc1 ⟨[], [], [], σ⟩ (Fin63 E) (fun _ _ => none) (Fin63 E)) (fun v0b v0o v7 v8 v9 σ => li2 ⟨[(0, (V.ptr v0b v0o)), (7, v7), (8, (V.int .i64 v8)), (9, (V.int .i64 v9))], [], [], σ⟩) v0b v0o v7 v8 v9 σ := by kernel_rfl
def J63_1 (E : List (Nat × Blk)) (D : Den) (W : DrawFn) (N : Nat) : H → Ans := T63_1 E D W 
theorem JE63_1 (E : List (Nat × Blk)) (D : Den) (W : DrawFn) (N : Nat) (σ : H) :
  denC E D W N C63_1 ⟨[], [], [], σ⟩ (Fin63 E) (fun _ _ => none) (Fin63 E) = J63_1 E D W N  σ := by
  refine (P63_1 E D W N    σ).trans ?_
  kernel_rfl
def L63_2 (E : List (Nat × Blk)) (D : Den) (W : DrawFn) (N : Nat) (n : Nat) : Nat → Nat → V → Int → Int → H → Ans :=
  Nat.rec (fun _ _ _ _ _ _ => none) (fun _ ih => T63_2 E D W (J63_1 E D W N ) ih) n
theorem LE63_2 (E : List (Nat × Blk)) (D : Den) (W : DrawFn) (N : Nat) (n : Nat) : ∀ (v0b : Nat) (v0o : Nat) (v7 : V) (v8 : Int) (v9 : Int) (σ : H),
  iterK (fun rec s' => denC E D W N C63_2 s' (fun s'' => keepS [(0, .ptr), (7, .any), (8, (.int .i64)), (9, (.int .i64))] [] [] s'' rec) (blkK 0 (fun s' => denC E D W N (.keep [] [] [] C63_1) s' (Fin63 E) (fun _ _ => none) (Fin63 E)) (fun _ _ => none)) (Fin63 E)) n ⟨[(0, (V.ptr v0b v0o)), (7, v7), (8, (V.int .i64 v8)), (9, (V.int .i64 v9))], [], [], σ⟩ = L63_2 E D W N n v0b v0o v7 v8 v9 σ := by
  induction n with
  | zero => intro v0b v0o v7 v8 v9 σ; rfl
  | succ n ihn =>
    intro v0b v0o v7 v8 v9 σ
    rw [iterK_succ]
    refine (P63_2 E D W N C63_1 (iterK (fun rec s' => denC E D W N C63_2 s' (fun s'' => keepS [(0, .ptr), (7, .any), (8, (.int .i64)), (9, (.int .i64))] [] [] s'' rec) (blkK 0 (fun s' => denC E D W N (.keep [] [] [] C63_1) s' (Fin63 E) (fun _ _ => none) (Fin63 E)) (fun _ _ => none)) (Fin63 E)) n) v0b v0o v7 v8 v9 σ).trans ?_
    simp only [ihn, JE63_1]
    kernel_rfl
def J63_0 (E : List (Nat × Blk)) (D : Den) (W : DrawFn) (N : Nat) : Nat → Nat → V → H → Ans := T63_0 E D W (L63_2 E D W N N)
theorem JE63_0 (E : List (Nat × Blk)) (D : Den) (W : DrawFn) (N : Nat) (v0b : Nat) (v0o : Nat) (v1 : V) (σ : H) :
  denC E D W N (C63_0 C63_1 C63_2) ⟨[(0, (V.ptr v0b v0o)), (1, v1)], [], [], σ⟩ (Fin63 E) (fun _ _ => none) (Fin63 E) = J63_0 E D W N v0b v0o v1 σ := by
  refine (P63_0 E D W N C63_1 C63_2  v0b v0o v1 σ).trans ?_
  simp only [LE63_2]
  kernel_rfl
def F63 (E : List (Nat × Blk)) (D : Den) (W : DrawFn) (N : Nat) (args : List V) (σ : H) : Ans :=
 rtCons args fun x1 l2 =>
 rtPtr x1 fun b3 o4 =>
 rtCons l2 fun x5 l6 =>
 rtNil l6 (
 J63_0 E D W N b3 o4 x5 σ)
def A63 : XFn := ⟨27, [.ptr, .any], [(.tmp 4)], (C63_0 C63_1 C63_2)⟩
theorem FE63 (E : List (Nat × Blk)) (D : Den) (W : DrawFn) (N : Nat) (args : List V) (σ : H) : runX E D W N A63 args σ = F63 E D W N args σ := by
  unfold F63
  simp only [← JE63_0]
  kernel_rfl
theorem AO63 : A63.body.ok = true := by kernel_rfl

/-! ### F64: __ogham_syntax.stream_.stands -/
def Fin64 (E : List (Nat × Blk)) : St → Ans := fun s => resK E s [(.tmp 4)] fun l => some (oneV l, s.σ)
def C64_0 : XC := (.seq (.ops (.op (some 4) .any [] (.mov (.con (V.bool false))) <|
 .nil))
 (.seq (.ops (.op (some 6) .any [0] (.mov (.tmp 0)) <|
 .op (some 7) (.agg [(.int .i64), .str, (.int .i64)]) [6] (.call 65 [(.tmp 6)]) <|
 .pal 5 [] 50 [(V.int .i64 (Int.ofNat 0)), (V.str ⟨0, 0⟩), (V.int .i64 (Int.ofNat 0))] <|
 .op none (.agg [(.int .i64), .str, (.int .i64)]) [5, 7] (.store 3 (.tmp 5) (.tmp 7)) <|
 .nil))
 (.seq (.ops (.op (some 8) .any [5] (.faddr 0 (.tmp 5)) <|
 .op (some 9) (.int .i64) [8] (.load none (.tmp 8)) <|
 .op (some 10) .any [9] (.bin .eql .none (.tmp 9) (.con (V.int .i64 (Int.ofNat 5)))) <|
 .op (some 11) .any [10] (.mov (.tmp 10)) <|
 .grp 11 false (.op (some 12) .any [5, 11] (.faddr 0 (.tmp 5)) <|
 .op (some 13) (.int .i64) [12, 11] (.load none (.tmp 12)) <|
 .op (some 14) .any [13, 11] (.bin .eql .none (.tmp 13) (.con (V.int .i64 (Int.ofNat 6)))) <|
 .nil) 15 [11, 14] (.tmp 11) (.con (V.bool true)) (.tmp 14) <|
 .op (some 16) .any [15] (.mov (.tmp 15)) <|
 .grp 16 true (.op (some 17) .any [5, 16] (.faddr 1 (.tmp 5)) <|
 .op (some 18) .str [17, 16] (.load none (.tmp 17)) <|
 .op (some 19) .any [1, 16] (.mov (.tmp 1)) <|
 .op (some 20) .any [18, 19, 16] (.bin .eql .none (.tmp 18) (.tmp 19)) <|
 .nil) 21 [16, 20] (.tmp 16) (.tmp 20) (.con (V.bool false)) <|
 .op (some 4) .any [21] (.mov (.tmp 21)) <|
 .nil))
 .ret)))
def T64_0 (E : List (Nat × Blk)) (D : Den) (W : DrawFn) (v0 : V) (v1 : BS) (σ : H) : Ans :=
 callK (D 65 [v0] σ) fun u1 s2 =>
 rtAgg u1 fun l3 =>
 rtCons l3 fun x4 l5 =>
 rtInt .i64 x4 fun x6 =>
 rtCons l5 fun x7 l8 =>
 rtStr x7 fun x9 =>
 rtCons l8 fun x10 l11 =>
 rtInt .i64 x10 fun x12 =>
 rtNil l11 (
 joinB (fun c13 s14 =>
 joinB (fun c16 s17 =>
 some ((V.bool c16), s17)) fun k18 =>
 condK c13 (
 k18 (BS.beq x9 v1) s14) (
 k18 false s14)) fun k15 =>
 condK (eqF x6 (Int.ofNat 5)) (
 k15 true s2) (
 k15 (eqF x6 (Int.ofNat 6)) s2))
theorem P64_0 (E : List (Nat × Blk)) (D : Den) (W : DrawFn) (N : Nat) (v0 : V) (v1 : BS) (σ : H) :
  denC E D W N (C64_0 ) ⟨[(0, v0), (1, (V.str v1))], [], [], σ⟩ (Fin64 E) (fun _ _ => none) (Fin64 E) =
  T64_0 E D W  v0 v1 σ := by kernel_rfl
def J64_0 (E : List (Nat × Blk)) (D : Den) (W : DrawFn) (N : Nat) : V → BS → H → Ans := T64_0 E D W 
theorem JE64_0 (E : List (Nat × Blk)) (D : Den) (W : DrawFn) (N : Nat) (v0 : V) (v1 : BS) (σ : H) :
  denC E D W N C64_0 ⟨[(0, v0), (1, (V.str v1))], [], [], σ⟩ (Fin64 E) (fun _ _ => none) (Fin64 E) = J64_0 E D W N v0 v1 σ := by
  refine (P64_0 E D W N   v0 v1 σ).trans ?_
  kernel_rfl
def F64 (E : List (Nat × Blk)) (D : Den) (W : DrawFn) (N : Nat) (args : List V) (σ : H) : Ans :=
 rtCons args fun x1 l2 =>
 rtCons l2 fun x3 l4 =>
 rtStr x3 fun x5 =>
 rtNil l4 (
 J64_0 E D W N x1 x5 σ)
def A64 : XFn := ⟨22, [.any, .str], [(.tmp 4)], C64_0⟩
theorem FE64 (E : List (Nat × Blk)) (D : Den) (W : DrawFn) (N : Nat) (args : List V) (σ : H) : runX E D W N A64 args σ = F64 E D W N args σ := by
  unfold F64
  simp only [← JE64_0]
  kernel_rfl
theorem AO64 : A64.body.ok = true := by kernel_rfl

/-! ### F65: __ogham_syntax.stream_.peek -/
def Fin65 (E : List (Nat × Blk)) : St → Ans := fun s => resK E s [(.cell 2 (some 3))] fun l => some (oneV l, s.σ)
def C65_0 : XC := (.seq (.ops (.pal 2 [] 50 [(V.int .i64 (Int.ofNat 0)), (V.str ⟨0, 0⟩), (V.int .i64 (Int.ofNat 0))] <|
 .nil))
 (.seq (.draw (.op (some 3) .any [0] (.mov (.tmp 0)) <|
 .op (some 4) .any [3] (.nilck (.tmp 3)) <|
 .op (some 5) .any [4] (.faddr 0 (.tmp 4)) <|
 .op (some 6) .any [5] (.load none (.tmp 5)) <|
 .op (some 7) .any [0] (.mov (.tmp 0)) <|
 .op (some 8) .any [7] (.nilck (.tmp 7)) <|
 .op (some 9) .any [8] (.faddr 1 (.tmp 8)) <|
 .op (some 10) (.int .i64) [9] (.load none (.tmp 9)) <|
 .op (some 11) .any [6, 10] (.iaddrS 3 (.tmp 6) (.tmp 10)) <|
 .op (some 12) (.agg [(.int .i64), .str, (.int .i64)]) [11] (.load (some 3) (.tmp 11)) <|
 .op none (.agg [(.int .i64), .str, (.int .i64)]) [2, 12] (.store 3 (.tmp 2) (.tmp 12)) <|
 .nil) [0, 1, 3, 7, 0, 16, 48, 112, 255, 511, 1023])
 .ret))
def T65_0 (E : List (Nat × Blk)) (D : Den) (W : DrawFn) (v0b : Nat) (v0o : Nat) (σ : H) : Ans :=
 ldK E σ v0b v0o fun u1 =>
 ldK E σ v0b (Nat.add v0o 1) fun u2 =>
 rtInt .i64 u2 fun x3 =>
 iaddrSK 3 u1 x3 fun b4 o5 =>
 ldnK E σ b4 o5 3 fun l6 =>
 rtCons l6 fun x7 l8 =>
 rtInt .i64 x7 fun x9 =>
 rtCons l8 fun x10 l11 =>
 rtStr x10 fun x12 =>
 rtCons l11 fun x13 l14 =>
 rtInt .i64 x13 fun x15 =>
 rtNil l14 (
 some ((V.agg [(V.int .i64 x9), (V.str x12), (V.int .i64 x15)]), σ))
theorem P65_0 (E : List (Nat × Blk)) (D : Den) (W : DrawFn) (N : Nat) (v0b : Nat) (v0o : Nat) (σ : H) :
  denC E D W N (C65_0 ) ⟨[(0, (V.ptr v0b v0o))], [], [], σ⟩ (Fin65 E) (fun _ _ => none) (Fin65 E) =
  T65_0 E D W  v0b v0o σ := by kernel_rfl
def J65_0 (E : List (Nat × Blk)) (D : Den) (W : DrawFn) (N : Nat) : Nat → Nat → H → Ans := T65_0 E D W 
theorem JE65_0 (E : List (Nat × Blk)) (D : Den) (W : DrawFn) (N : Nat) (v0b : Nat) (v0o : Nat) (σ : H) :
  denC E D W N C65_0 ⟨[(0, (V.ptr v0b v0o))], [], [], σ⟩ (Fin65 E) (fun _ _ => none) (Fin65 E) = J65_0 E D W N v0b v0o σ := by
  refine (P65_0 E D W N   v0b v0o σ).trans ?_
  kernel_rfl
def F65 (E : List (Nat × Blk)) (D : Den) (W : DrawFn) (N : Nat) (args : List V) (σ : H) : Ans :=
 rtCons args fun x1 l2 =>
 rtPtr x1 fun b3 o4 =>
 rtNil l2 (
 J65_0 E D W N b3 o4 σ)
def A65 : XFn := ⟨13, [.ptr], [(.cell 2 (some 3))], C65_0⟩
theorem FE65 (E : List (Nat × Blk)) (D : Den) (W : DrawFn) (N : Nat) (args : List V) (σ : H) : runX E D W N A65 args σ = F65 E D W N args σ := by
  unfold F65
  simp only [← JE65_0]
  kernel_rfl
theorem AO65 : A65.body.ok = true := by kernel_rfl

/-! ### F66: __ogham_syntax.parser_.assignment -/
def G66_0 : List AOper := [⟨(some 30), .mov (.tmp 0), none⟩, ⟨(some 31), .mov (.tmp 0), none⟩, ⟨(some 32), .mov (.tmp 0), none⟩, ⟨(some 33), .nilck (.tmp 32), none⟩, ⟨(some 34), .faddr 2 (.tmp 33), none⟩, ⟨(some 35), .faddr 2 (.tmp 34), none⟩, ⟨(some 36), .load none (.tmp 35), none⟩, ⟨(some 37), .faddr 1 (.tmp 3), none⟩, ⟨(some 38), .load none (.tmp 37), none⟩, ⟨(some 39), .buildSlice 9 1 [(V.str ⟨0, 0⟩)] [(0, 1, (.tmp 38))], none⟩, ⟨(some 40), .append 9 1 16 (.tmp 36) (.tmp 39), none⟩, ⟨(some 41), .mov (.tmp 0), none⟩, ⟨(some 42), .nilck (.tmp 41), none⟩, ⟨(some 43), .faddr 2 (.tmp 42), none⟩, ⟨(some 44), .faddr 3 (.tmp 43), none⟩, ⟨(some 45), .load none (.tmp 44), none⟩, ⟨(some 46), .mov (.tmp 4), none⟩, ⟨(some 47), .buildSlice 3 1 [(V.int .i64 (Int.ofNat 0))] [(0, 1, (.tmp 46))], none⟩, ⟨(some 48), .append 3 1 8 (.tmp 45) (.tmp 47), none⟩, ⟨(some 49), .nilck (.tmp 30), none⟩, ⟨(some 50), .faddr 2 (.tmp 49), none⟩, ⟨(some 51), .faddr 2 (.tmp 50), none⟩, ⟨none, .store 1 (.tmp 51) (.tmp 40), none⟩, ⟨(some 52), .nilck (.tmp 31), none⟩, ⟨(some 53), .faddr 2 (.tmp 52), none⟩, ⟨(some 54), .faddr 3 (.tmp 53), none⟩, ⟨none, .store 1 (.tmp 54) (.tmp 48), none⟩]
def H66_0 : List DP := [⟨0, [0]⟩, ⟨0, [0]⟩, ⟨0, [0]⟩, ⟨4, [32]⟩, ⟨12, [33]⟩, ⟨28, [34]⟩, ⟨60, [35]⟩, ⟨0, [3]⟩, ⟨128, [37]⟩, ⟨384, [38]⟩, ⟨1020, [36, 39]⟩, ⟨0, [0]⟩, ⟨2048, [41]⟩, ⟨6144, [42]⟩, ⟨14336, [43]⟩, ⟨30720, [44]⟩, ⟨0, [4]⟩, ⟨65536, [46]⟩, ⟨262140, [45, 47]⟩, ⟨524285, [30]⟩, ⟨1048573, [49]⟩, ⟨2097149, [50]⟩, ⟨4194301, [51, 40]⟩, ⟨8388607, [31]⟩, ⟨16777215, [52]⟩, ⟨33554431, [53]⟩, ⟨67108863, [54, 48]⟩]
def Fin66 (E : List (Nat × Blk)) : St → Ans := fun s => resK E s [(.tmp 2)] fun l => some (oneV l, s.σ)
def C66_0 : XC := (.seq (.ops (.op (some 2) .any [] (.mov (.con (V.bool false))) <|
 .nil))
 (.seq (.ops (.op (some 6) .any [0] (.mov (.tmp 0)) <|
 .op (some 7) .any [6] (.nilck (.tmp 6)) <|
 .op (some 8) .any [7] (.faddr 0 (.tmp 7)) <|
 .op (some 9) (.agg [(.int .i64), .str, (.int .i64)]) [8] (.call 86 [(.tmp 8)]) <|
 .op (some 3) .any [] (.alloc 50 [(V.int .i64 (Int.ofNat 0)), (V.str ⟨0, 0⟩), (V.int .i64 (Int.ofNat 0))]) <|
 .op none (.agg [(.int .i64), .str, (.int .i64)]) [3, 9] (.store 3 (.tmp 3) (.tmp 9)) <|
 .nil))
 (.seq (.seq (.ops (.op (some 10) .any [0] (.mov (.tmp 0)) <|
 .op (some 11) .any [10] (.nilck (.tmp 10)) <|
 .op (some 12) .any [11] (.faddr 2 (.tmp 11)) <|
 .op (some 13) .any [12] (.faddr 2 (.tmp 12)) <|
 .op (some 14) .any [13] (.load none (.tmp 13)) <|
 .op (some 15) .any [14] (.len false (.tmp 14)) <|
 .op (some 16) .any [15] (.bin .geq .none (.tmp 15) (.con (V.int .i64 (Int.ofNat 40)))) <|
 .nil))
 (.cond (.tmp 16) (.seq (.ops (.op (some 17) .any [0] (.mov (.tmp 0)) <|
 .op (some 18) .any [3] (.faddr 2 (.tmp 3)) <|
 .op (some 19) (.int .i64) [18] (.load none (.tmp 18)) <|
 .op (some 20) .bool [17, 19] (.call 85 [(.tmp 17), (.tmp 19), (.con (V.int .i64 (Int.ofNat 5)))]) <|
 .op (some 2) .any [20] (.mov (.tmp 20)) <|
 .nil))
 .ret)
 .skip))
 (.seq (.seq (.ops (.op (some 21) .any [0] (.mov (.tmp 0)) <|
 .op (some 22) .any [] (.buildSlice 9 1 [(V.str ⟨0, 0⟩)] [(0, 1, (.con (V.str ⟨3, 4012602⟩)))]) <|
 .op (some 23) .bool [21, 22] (.call 63 [(.tmp 21), (.tmp 22)]) <|
 .op (some 24) .any [23] (.un .not (.tmp 23)) <|
 .nil))
 (.cond (.tmp 24) (.seq (.ops (.op (some 2) .any [] (.mov (.con (V.bool false))) <|
 .nil))
 .ret)
 .skip))
 (.seq (.ops (.op (some 26) .any [0] (.mov (.tmp 0)) <|
 .op (some 27) (.tup [(.int .i64), .bool]) [26] (.call 88 [(.tmp 26), (.con (V.int .i64 (Int.ofNat 0)))]) <|
 .op (some 25) .any [27] (.mov (.tmp 27)) <|
 .op (some 28) .any [25] (.extract 0 (.tmp 25)) <|
 .op (some 29) .any [25] (.extract 1 (.tmp 25)) <|
 .op (some 4) .any [28] (.mov (.tmp 28)) <|
 .op (some 5) .any [29] (.mov (.tmp 29)) <|
 .nil))
 (.seq (.keep [(0, .ptr), (3, .ptr), (4, (.int .i64)), (5, .bool)] [] [] (.gdraw G66_0 H66_0 [(5, .bool)]))
 (.seq (.ops (.op (some 55) .any [5] (.mov (.tmp 5)) <|
 .op (some 2) .any [55] (.mov (.tmp 55)) <|
 .nil))
 .ret)))))))
def T66_0 (E : List (Nat × Blk)) (D : Den) (W : DrawFn) (v0b : Nat) (v0o : Nat) (σ : H) : Ans :=
 callK (D 86 [(V.ptr v0b v0o)] σ) fun u1 s2 =>
 rtAgg u1 fun l3 =>
 rtCons l3 fun x4 l5 =>
 rtInt .i64 x4 fun x6 =>
 rtCons l5 fun x7 l8 =>
 rtStr x7 fun x9 =>
 rtCons l8 fun x10 l11 =>
 rtInt .i64 x10 fun x12 =>
 rtNil l11 (
 let s13 := newB s2 (.cells [(V.int .i64 (Int.ofNat 0)), (V.str ⟨0, 0⟩), (V.int .i64 (Int.ofNat 0))]);
 stK 3 (H.next s2) 0 (V.agg [(V.int .i64 x6), (V.str x9), (V.int .i64 x12)]) s13 fun s14 =>
 ldK E s14 v0b (Nat.add (Nat.add v0o 2) 2) fun u15 =>
 slenK u15 fun n16 =>
 condK (leF (Int.ofNat 40) (Int.ofNat n16)) (
 ldK E s14 (H.next s2) 2 fun u17 =>
 rtInt .i64 u17 fun x18 =>
 callK (D 85 [(V.ptr v0b v0o), (V.int .i64 x18), (V.int .i64 (Int.ofNat 5))] s14) fun u19 s20 =>
 rtBool u19 fun x21 =>
 some ((V.bool x21), s20)) (
 let s22 := newB s14 (.cells [(V.str (BS.mk 3 4012602))]);
 callK (D 63 [(V.ptr v0b v0o), (V.sl (H.next s14) 0 1 (.ex 1))] s22) fun u23 s24 =>
 rtBool u23 fun x25 =>
 condK (not x25) (
 some ((V.bool false), s24)) (
 callK (D 88 [(V.ptr v0b v0o), (V.int .i64 (Int.ofNat 0))] s24) fun u26 s27 =>
 rtTup u26 fun l28 =>
 rtCons l28 fun x29 l30 =>
 rtInt .i64 x29 fun x31 =>
 rtCons l30 fun x32 l33 =>
 rtBool x32 fun x34 =>
 rtNil l33 (
 gdrawK (W G66_0 H66_0 [(0, (V.ptr v0b v0o)), (3, (V.ptr (H.next s2) 0)), (4, (V.int .i64 x31)), (5, (V.bool x34))] s27) fun e35 s36 =>
 getL e35 5 fun u37 =>
 rtBool u37 fun x38 =>
 some ((V.bool x38), s36)))))
theorem P66_0 (E : List (Nat × Blk)) (D : Den) (W : DrawFn) (N : Nat) (v0b : Nat) (v0o : Nat) (σ : H) :
  denC E D W N (C66_0 ) ⟨[(0, (V.ptr v0b v0o))], [], [], σ⟩ (Fin66 E) (fun _ _ => none) (Fin66 E) =
  T66_0 E D W  v0b v0o σ := by kernel_rfl
def J66_0 (E : List (Nat × Blk)) (D : Den) (W : DrawFn) (N : Nat) : Nat → Nat → H → Ans := T66_0 E D W 
theorem JE66_0 (E : List (Nat × Blk)) (D : Den) (W : DrawFn) (N : Nat) (v0b : Nat) (v0o : Nat) (σ : H) :
  denC E D W N C66_0 ⟨[(0, (V.ptr v0b v0o))], [], [], σ⟩ (Fin66 E) (fun _ _ => none) (Fin66 E) = J66_0 E D W N v0b v0o σ := by
  refine (P66_0 E D W N   v0b v0o σ).trans ?_
  kernel_rfl
def F66 (E : List (Nat × Blk)) (D : Den) (W : DrawFn) (N : Nat) (args : List V) (σ : H) : Ans :=
 rtCons args fun x1 l2 =>
 rtPtr x1 fun b3 o4 =>
 rtNil l2 (
 J66_0 E D W N b3 o4 σ)
def A66 : XFn := ⟨56, [.ptr], [(.tmp 2)], C66_0⟩
theorem FE66 (E : List (Nat × Blk)) (D : Den) (W : DrawFn) (N : Nat) (args : List V) (σ : H) : runX E D W N A66 args σ = F66 E D W N args σ := by
  unfold F66
  simp only [← JE66_0]
  kernel_rfl
theorem AO66 : A66.body.ok = true := by kernel_rfl

/-! ### F67: ogham_print.sameValue -/
def Fin67 (E : List (Nat × Blk)) : St → Ans := fun s => resK E s [(.tmp 4)] fun l => some (oneV l, s.σ)
def C67_0 : XC := (.seq (.ops (.op (some 2) .any [0] (.box 98 (.tmp 0)) <|
 .op (some 3) .any [1] (.box 98 (.tmp 1)) <|
 .op (some 4) .any [] (.mov (.con (V.bool false))) <|
 .nil))
 (.seq (.ops (.op (some 5) .any [2] (.faddr 0 (.tmp 2)) <|
 .op (some 6) (.int .i64) [5] (.load none (.tmp 5)) <|
 .op (some 7) .any [3] (.faddr 0 (.tmp 3)) <|
 .op (some 8) (.int .i64) [7] (.load none (.tmp 7)) <|
 .op (some 9) .any [6, 8] (.bin .eql .none (.tmp 6) (.tmp 8)) <|
 .op (some 10) .any [9] (.mov (.tmp 9)) <|
 .grp 10 true (.op (some 11) .any [2, 10] (.faddr 1 (.tmp 2)) <|
 .op (some 12) (.int .i64) [11, 10] (.load none (.tmp 11)) <|
 .op (some 13) .any [3, 10] (.faddr 1 (.tmp 3)) <|
 .op (some 14) (.int .i64) [13, 10] (.load none (.tmp 13)) <|
 .op (some 15) .any [12, 14, 10] (.bin .eql .none (.tmp 12) (.tmp 14)) <|
 .nil) 16 [10, 15] (.tmp 10) (.tmp 15) (.con (V.bool false)) <|
 .op (some 17) .any [16] (.mov (.tmp 16)) <|
 .grp 17 true (.op (some 18) .any [2, 17] (.faddr 2 (.tmp 2)) <|
 .op (some 19) .any [18, 17] (.load none (.tmp 18)) <|
 .op (some 20) .any [19, 17] (.conv .toStr (.tmp 19)) <|
 .op (some 21) .any [3, 17] (.faddr 2 (.tmp 3)) <|
 .op (some 22) .any [21, 17] (.load none (.tmp 21)) <|
 .op (some 23) .any [22, 17] (.conv .toStr (.tmp 22)) <|
 .op (some 24) .any [20, 23, 17] (.bin .eql .none (.tmp 20) (.tmp 23)) <|
 .nil) 25 [17, 24] (.tmp 17) (.tmp 24) (.con (V.bool false)) <|
 .op (some 26) .any [25] (.mov (.tmp 25)) <|
 .grp 26 true (.op (some 27) .any [2, 26] (.faddr 3 (.tmp 2)) <|
 .op (some 28) .any [27, 26] (.load none (.tmp 27)) <|
 .op (some 29) .any [28, 26] (.len false (.tmp 28)) <|
 .op (some 30) .any [3, 26] (.faddr 3 (.tmp 3)) <|
 .op (some 31) .any [30, 26] (.load none (.tmp 30)) <|
 .op (some 32) .any [31, 26] (.len false (.tmp 31)) <|
 .op (some 33) .any [29, 32, 26] (.bin .add .none (.tmp 29) (.tmp 32)) <|
 .op (some 34) .any [2, 26] (.faddr 5 (.tmp 2)) <|
 .op (some 35) .any [34, 26] (.load none (.tmp 34)) <|
 .op (some 36) .any [35, 26] (.len false (.tmp 35)) <|
 .op (some 37) .any [33, 36, 26] (.bin .add .none (.tmp 33) (.tmp 36)) <|
 .op (some 38) .any [3, 26] (.faddr 5 (.tmp 3)) <|
 .op (some 39) .any [38, 26] (.load none (.tmp 38)) <|
 .op (some 40) .any [39, 26] (.len false (.tmp 39)) <|
 .op (some 41) .any [37, 40, 26] (.bin .add .none (.tmp 37) (.tmp 40)) <|
 .op (some 42) .any [2, 26] (.faddr 4 (.tmp 2)) <|
 .op (some 43) (.int .i64) [42, 26] (.load none (.tmp 42)) <|
 .op (some 44) .any [41, 43, 26] (.bin .add .none (.tmp 41) (.tmp 43)) <|
 .op (some 45) .any [3, 26] (.faddr 4 (.tmp 3)) <|
 .op (some 46) (.int .i64) [45, 26] (.load none (.tmp 45)) <|
 .op (some 47) .any [44, 46, 26] (.bin .add .none (.tmp 44) (.tmp 46)) <|
 .op (some 48) .any [47, 26] (.bin .eql .none (.tmp 47) (.con (V.int .i64 (Int.ofNat 0)))) <|
 .nil) 49 [26, 48] (.tmp 26) (.tmp 48) (.con (V.bool false)) <|
 .op (some 4) .any [49] (.mov (.tmp 49)) <|
 .nil))
 .ret))
def T67_0 (E : List (Nat × Blk)) (D : Den) (W : DrawFn) (v0_0 : Int) (v0_1 : Int) (v0_2 : V) (v0_3 : V) (v0_4 : Int) (v0_5 : V) (v1_0 : Int) (v1_1 : Int) (v1_2 : V) (v1_3 : V) (v1_4 : Int) (v1_5 : V) (σ : H) : Ans :=
 chk (allOne (V.cells (V.agg [(V.int .i64 v0_0), (V.int .i64 v0_1), v0_2, v0_3, (V.int .i64 v0_4), v0_5]))) (
 let s1 := newB σ (.cells (V.cells (V.agg [(V.int .i64 v0_0), (V.int .i64 v0_1), v0_2, v0_3, (V.int .i64 v0_4), v0_5])));
 chk (allOne (V.cells (V.agg [(V.int .i64 v1_0), (V.int .i64 v1_1), v1_2, v1_3, (V.int .i64 v1_4), v1_5]))) (
 let s2 := newB s1 (.cells (V.cells (V.agg [(V.int .i64 v1_0), (V.int .i64 v1_1), v1_2, v1_3, (V.int .i64 v1_4), v1_5])));
 ldK E s2 (H.next σ) 0 fun u3 =>
 rtInt .i64 u3 fun x4 =>
 ldK E s2 (H.next s1) 0 fun u5 =>
 rtInt .i64 u5 fun x6 =>
 joinB (fun c7 s8 =>
 joinB (fun c10 s11 =>
 joinB (fun c13 s14 =>
 some ((V.bool c13), s14)) fun k15 =>
 condK c10 (
 ldK E s11 (H.next σ) 3 fun u16 =>
 slenK u16 fun n17 =>
 ldK E s11 (H.next s1) 3 fun u18 =>
 slenK u18 fun n19 =>
 ldK E s11 (H.next σ) 5 fun u20 =>
 slenK u20 fun n21 =>
 ldK E s11 (H.next s1) 5 fun u22 =>
 slenK u22 fun n23 =>
 ldK E s11 (H.next σ) 4 fun u24 =>
 rtInt .i64 u24 fun x25 =>
 ldK E s11 (H.next s1) 4 fun u26 =>
 rtInt .i64 u26 fun x27 =>
 k15 (eqF (addF .i64 (addF .i64 (addF .i64 (addF .i64 (addF .i64 (Int.ofNat n17) (Int.ofNat n19)) (Int.ofNat n21)) (Int.ofNat n23)) x25) x27) (Int.ofNat 0)) s11) (
 k15 false s11)) fun k12 =>
 condK c7 (
 ldK E s8 (H.next σ) 2 fun u28 =>
 toStrK E s8 u28 fun t29 =>
 ldK E s8 (H.next s1) 2 fun u30 =>
 toStrK E s8 u30 fun t31 =>
 k12 (BS.beq t29 t31) s8) (
 k12 false s8)) fun k9 =>
 condK (eqF x4 x6) (
 ldK E s2 (H.next σ) 1 fun u32 =>
 rtInt .i64 u32 fun x33 =>
 ldK E s2 (H.next s1) 1 fun u34 =>
 rtInt .i64 u34 fun x35 =>
 k9 (eqF x33 x35) s2) (
 k9 false s2)))
theorem P67_0 (E : List (Nat × Blk)) (D : Den) (W : DrawFn) (N : Nat) (v0_0 : Int) (v0_1 : Int) (v0_2 : V) (v0_3 : V) (v0_4 : Int) (v0_5 : V) (v1_0 : Int) (v1_1 : Int) (v1_2 : V) (v1_3 : V) (v1_4 : Int) (v1_5 : V) (σ : H) :
  denC E D W N (C67_0 ) ⟨[(0, (V.agg [(V.int .i64 v0_0), (V.int .i64 v0_1), v0_2, v0_3, (V.int .i64 v0_4), v0_5])), (1, (V.agg [(V.int .i64 v1_0), (V.int .i64 v1_1), v1_2, v1_3, (V.int .i64 v1_4), v1_5]))], [], [], σ⟩ (Fin67 E) (fun _ _ => none) (Fin67 E) =
  T67_0 E D W  v0_0 v0_1 v0_2 v0_3 v0_4 v0_5 v1_0 v1_1 v1_2 v1_3 v1_4 v1_5 σ := by kernel_rfl
def J67_0 (E : List (Nat × Blk)) (D : Den) (W : DrawFn) (N : Nat) : Int → Int → V → V → Int → V → Int → Int → V → V → Int → V → H → Ans := T67_0 E D W 
theorem JE67_0 (E : List (Nat × Blk)) (D : Den) (W : DrawFn) (N : Nat) (v0_0 : Int) (v0_1 : Int) (v0_2 : V) (v0_3 : V) (v0_4 : Int) (v0_5 : V) (v1_0 : Int) (v1_1 : Int) (v1_2 : V) (v1_3 : V) (v1_4 : Int) (v1_5 : V) (σ : H) :
  denC E D W N C67_0 ⟨[(0, (V.agg [(V.int .i64 v0_0), (V.int .i64 v0_1), v0_2, v0_3, (V.int .i64 v0_4), v0_5])), (1, (V.agg [(V.int .i64 v1_0), (V.int .i64 v1_1), v1_2, v1_3, (V.int .i64 v1_4), v1_5]))], [], [], σ⟩ (Fin67 E) (fun _ _ => none) (Fin67 E) = J67_0 E D W N v0_0 v0_1 v0_2 v0_3 v0_4 v0_5 v1_0 v1_1 v1_2 v1_3 v1_4 v1_5 σ := by
  refine (P67_0 E D W N   v0_0 v0_1 v0_2 v0_3 v0_4 v0_5 v1_0 v1_1 v1_2 v1_3 v1_4 v1_5 σ).trans ?_
  kernel_rfl
def F67 (E : List (Nat × Blk)) (D : Den) (W : DrawFn) (N : Nat) (args : List V) (σ : H) : Ans :=
 rtCons args fun x1 l2 =>
 rtAgg x1 fun l3 =>
 rtCons l3 fun x4 l5 =>
 rtInt .i64 x4 fun x6 =>
 rtCons l5 fun x7 l8 =>
 rtInt .i64 x7 fun x9 =>
 rtCons l8 fun x10 l11 =>
 rtCons l11 fun x12 l13 =>
 rtCons l13 fun x14 l15 =>
 rtInt .i64 x14 fun x16 =>
 rtCons l15 fun x17 l18 =>
 rtNil l18 (
 rtCons l2 fun x19 l20 =>
 rtAgg x19 fun l21 =>
 rtCons l21 fun x22 l23 =>
 rtInt .i64 x22 fun x24 =>
 rtCons l23 fun x25 l26 =>
 rtInt .i64 x25 fun x27 =>
 rtCons l26 fun x28 l29 =>
 rtCons l29 fun x30 l31 =>
 rtCons l31 fun x32 l33 =>
 rtInt .i64 x32 fun x34 =>
 rtCons l33 fun x35 l36 =>
 rtNil l36 (
 rtNil l20 (
 J67_0 E D W N x6 x9 x10 x12 x16 x17 x24 x27 x28 x30 x34 x35 σ)))
def A67 : XFn := ⟨50, [(.agg [(.int .i64), (.int .i64), .any, .any, (.int .i64), .any]), (.agg [(.int .i64), (.int .i64), .any, .any, (.int .i64), .any])], [(.tmp 4)], C67_0⟩
theorem FE67 (E : List (Nat × Blk)) (D : Den) (W : DrawFn) (N : Nat) (args : List V) (σ : H) : runX E D W N A67 args σ = F67 E D W N args σ := by
  unfold F67
  simp only [← JE67_0]
  kernel_rfl
theorem AO67 : A67.body.ok = true := by kernel_rfl

/-! ### F68: ogham_oghamhelp.In_string_ -/
def Fin68 (E : List (Nat × Blk)) : St → Ans := fun s => resK E s [(.tmp 4)] fun l => some (oneV l, s.σ)
def C68_0 (cc1 : XC) (cc2 : XC) : XC := (.seq (.ops (.op (some 4) .any [] (.mov (.con (V.bool false))) <|
 .nil))
 (.seq (.seq (.ops (.op (some 5) .any [] (.mov (.con (V.int .i64 (Int.ofNat 0)))) <|
 .nil))
 (.block 0 (.loop [(0, .any), (1, .str), (5, (.int .i64))] [] [] cc2)))
 (.keep [] [] [] cc1)))
def T68_0 (E : List (Nat × Blk)) (D : Den) (W : DrawFn) (K2 : V → BS → Int → H → Ans) (v0 : V) (v1 : BS) (σ : H) : Ans :=
 K2 v0 v1 (Int.ofNat 0) σ
def C68_1 : XC := (.seq (.ops (.op (some 4) .any [] (.mov (.con (V.bool false))) <|
 .nil))
 .ret)
def T68_1 (E : List (Nat × Blk)) (D : Den) (W : DrawFn) (σ : H) : Ans :=
 some ((V.bool false), σ)
def C68_2 : XC := (.seq (.seq (.ops (.op (some 6) .any [5] (.mov (.tmp 5)) <|
 .op (some 7) .any [0] (.mov (.tmp 0)) <|
 .op (some 8) .any [7] (.len false (.tmp 7)) <|
 .op (some 9) .any [6, 8] (.bin .lss .none (.tmp 6) (.tmp 8)) <|
 .nil))
 (.cond (.tmp 9) .skip
 (.exit 0)))
 (.seq (.block 1 (.seq (.ops (.op (some 12) .any [0] (.mov (.tmp 0)) <|
 .op (some 13) .any [5] (.mov (.tmp 5)) <|
 .op (some 14) .any [12, 13] (.iaddrS 1 (.tmp 12) (.tmp 13)) <|
 .op (some 15) .str [14] (.load none (.tmp 14)) <|
 .op (some 16) .any [1] (.mov (.tmp 1)) <|
 .op (some 17) .any [15, 16] (.bin .eql .none (.tmp 15) (.tmp 16)) <|
 .nil))
 (.cond (.tmp 17) (.seq (.ops (.op (some 4) .any [] (.mov (.con (V.bool true))) <|
 .nil))
 .ret)
 .skip)))
 (.ops (.op (some 10) .any [5] (.mov (.tmp 5)) <|
 .op (some 11) .any [10] (.bin .add .none (.tmp 10) (.con (V.int .i64 (Int.ofNat 1)))) <|
 .op (some 5) .any [11] (.mov (.tmp 11)) <|
 .nil))))
def T68_2 (E : List (Nat × Blk)) (D : Den) (W : DrawFn) (K1 : H → Ans) (R2 : V → BS → Int → H → Ans) (v0 : V) (v1 : BS) (v5 : Int) (σ : H) : Ans :=
 slenK v0 fun n1 =>
 condK (ltF v5 (Int.ofNat n1)) (
 iaddrSK 1 v0 v5 fun b2 o3 =>
 ldK E σ b2 o3 fun u4 =>
 rtStr u4 fun x5 =>
 condK (BS.beq x5 v1) (
 some ((V.bool true), σ)) (
 R2 v0 v1 (addF .i64 v5 (Int.ofNat 1)) σ)) (
 K1 σ)
theorem P68_0 (E : List (Nat × Blk)) (D : Den) (W : DrawFn) (N : Nat) (cc1 : XC) (cc2 : XC) (v0 : V) (v1 : BS) (σ : H) :
  denC E D W N (C68_0 cc1 cc2) ⟨[(0, v0), (1, (V.str v1))], [], [], σ⟩ (Fin68 E) (fun _ _ => none) (Fin68 E) =
  T68_0 E D W (fun v0 v1 v5 σ => iterK (fun rec s' => denC E D W N cc2 s' (fun s'' => keepS [(0, .any), (1, .str), (5, (.int .i64))] [] [] s'' rec) (blkK 0 (fun s' => denC E D W N (.keep [] [] [] cc1) s' (Fin68 E) (fun _ _ => none) (Fin68 E)) (fun _ _ => none)) (Fin68 E)) N ⟨[(0, v0), (1, (V.str v1)), (5, (V.int .i64 v5))], [], [], σ⟩) v0 v1 σ := by kernel_rfl
theorem P68_1 (E : List (Nat × Blk)) (D : Den) (W : DrawFn) (N : Nat) (σ : H) :
  denC E D W N (C68_1 ) ⟨[], [], [], σ⟩ (Fin68 E) (fun _ _ => none) (Fin68 E) =
  T68_1 E D W   σ := by kernel_rfl
theorem P68_2 (E : List (Nat × Blk)) (D : Den) (W : DrawFn) (N : Nat) (cc1 : XC) (li2 : St → Ans) (v0 : V) (v1 : BS) (v5 : Int) (σ : H) :
  denC E D W N (C68_2 ) ⟨[(0, v0), (1, (V.str v1)), (5, (V.int .i64 v5))], [], [], σ⟩ (fun s'' => keepS [(0, .any), (1, .str), (5, (.int .i64))] [] [] s'' li2) (blkK 0 (fun s' => denC E D W N (.keep [] [] [] cc1) s' (Fin68 E) (fun _ _ => none) (Fin68 E)) (fun _ _ => none)) (Fin68 E) =
  T68_2 E D W (fun  σ => denC E D W N cc1 ⟨[], [], [], σ⟩ (Fin68 E) (fun _ _ => none) (Fin68 E)) (fun v0 v1 v5 σ => li2 ⟨[(0, v0), (1, (V.str v1)), (5, (V.int .i64 v5))], [], [], σ⟩) v0 v1 v5 σ := by kernel_rfl
def J68_1 (E : List (Nat × Blk)) (D : Den) (W : DrawFn) (N : Nat) : H → Ans := T68_1 E D W 
theorem JE68_1 (E : List (Nat × Blk)) (D : Den) (W : DrawFn) (N : Nat) (σ : H) :
  denC E D W N C68_1 ⟨[], [], [], σ⟩ (Fin68 E) (fun _ _ => none) (Fin68 E) = J68_1 E D W N  σ := by
  refine (P68_1 E D W N    σ).trans ?_
  kernel_rfl
def L68_2 (E : List (Nat × Blk)) (D : Den) (W : DrawFn) (N : Nat) (n : Nat) : V → BS → Int → H → Ans :=
  Nat.rec (fun _ _ _ _ => none) (fun _ ih => T68_2 E D W (J68_1 E D W N ) ih) n
theorem LE68_2 (E : List (Nat × Blk)) (D : Den) (W : DrawFn) (N : Nat) (n : Nat) : ∀ (v0 : V) (v1 : BS) (v5 : Int) (σ : H),
  iterK (fun rec s' => denC E D W N C68_2 s' (fun s'' => keepS [(0, .any), (1, .str), (5, (.int .i64))] [] [] s'' rec) (blkK 0 (fun s' => denC E D W N (.keep [] [] [] C68_1) s' (Fin68 E) (fun _ _ => none) (Fin68 E)) (fun _ _ => none)) (Fin68 E)) n ⟨[(0, v0), (1, (V.str v1)), (5, (V.int .i64 v5))], [], [], σ⟩ = L68_2 E D W N n v0 v1 v5 σ := by
  induction n with
  | zero => intro v0 v1 v5 σ; rfl
  | succ n ihn =>
    intro v0 v1 v5 σ
    rw [iterK_succ]
    refine (P68_2 E D W N C68_1 (iterK (fun rec s' => denC E D W N C68_2 s' (fun s'' => keepS [(0, .any), (1, .str), (5, (.int .i64))] [] [] s'' rec) (blkK 0 (fun s' => denC E D W N (.keep [] [] [] C68_1) s' (Fin68 E) (fun _ _ => none) (Fin68 E)) (fun _ _ => none)) (Fin68 E)) n) v0 v1 v5 σ).trans ?_
    simp only [ihn, JE68_1]
    kernel_rfl
def J68_0 (E : List (Nat × Blk)) (D : Den) (W : DrawFn) (N : Nat) : V → BS → H → Ans := T68_0 E D W (L68_2 E D W N N)
theorem JE68_0 (E : List (Nat × Blk)) (D : Den) (W : DrawFn) (N : Nat) (v0 : V) (v1 : BS) (σ : H) :
  denC E D W N (C68_0 C68_1 C68_2) ⟨[(0, v0), (1, (V.str v1))], [], [], σ⟩ (Fin68 E) (fun _ _ => none) (Fin68 E) = J68_0 E D W N v0 v1 σ := by
  refine (P68_0 E D W N C68_1 C68_2  v0 v1 σ).trans ?_
  simp only [LE68_2]
  kernel_rfl
def F68 (E : List (Nat × Blk)) (D : Den) (W : DrawFn) (N : Nat) (args : List V) (σ : H) : Ans :=
 rtCons args fun x1 l2 =>
 rtCons l2 fun x3 l4 =>
 rtStr x3 fun x5 =>
 rtNil l4 (
 J68_0 E D W N x1 x5 σ)
def A68 : XFn := ⟨18, [.any, .str], [(.tmp 4)], (C68_0 C68_1 C68_2)⟩
theorem FE68 (E : List (Nat × Blk)) (D : Den) (W : DrawFn) (N : Nat) (args : List V) (σ : H) : runX E D W N A68 args σ = F68 E D W N args σ := by
  unfold F68
  simp only [← JE68_0]
  kernel_rfl
theorem AO68 : A68.body.ok = true := by kernel_rfl

/-! ### F69: ogham_oghamref04.words -/
def Fin69 (E : List (Nat × Blk)) : St → Ans := fun s => resK E s [(.tmp 0)] fun l => some (oneV l, s.σ)
def C69_0 : XC := (.seq (.ops (.op (some 0) .any [] (.mov (.con V.nils)) <|
 .nil))
 (.seq (.ops (.op (some 1) .any [] (.buildSlice 9 25 [(V.str ⟨0, 0⟩), (V.str ⟨0, 0⟩), (V.str ⟨0, 0⟩), (V.str ⟨0, 0⟩), (V.str ⟨0, 0⟩), (V.str ⟨0, 0⟩), (V.str ⟨0, 0⟩), (V.str ⟨0, 0⟩), (V.str ⟨0, 0⟩), (V.str ⟨0, 0⟩), (V.str ⟨0, 0⟩), (V.str ⟨0, 0⟩), (V.str ⟨0, 0⟩), (V.str ⟨0, 0⟩), (V.str ⟨0, 0⟩), (V.str ⟨0, 0⟩), (V.str ⟨0, 0⟩), (V.str ⟨0, 0⟩), (V.str ⟨0, 0⟩), (V.str ⟨0, 0⟩), (V.str ⟨0, 0⟩), (V.str ⟨0, 0⟩), (V.str ⟨0, 0⟩), (V.str ⟨0, 0⟩), (V.str ⟨0, 0⟩)] [(0, 1, (.con (V.str ⟨11, 100710650190388740279911748⟩))), (1, 1, (.con (V.str ⟨8, 6073459554577832005⟩))), (2, 1, (.con (V.str ⟨8, 6073459554577829193⟩))), (3, 1, (.con (V.str ⟨9, 1241215773001651606849⟩))), (4, 1, (.con (V.str ⟨4, 1397178708⟩))), (5, 1, (.con (V.str ⟨5, 336236856642⟩))), (6, 1, (.con (V.str ⟨3, 4476485⟩))), (7, 1, (.con (V.str ⟨7, 22026814072246082⟩))), (8, 1, (.con (V.str ⟨7, 23157120498421321⟩))), (9, 1, (.con (V.str ⟨10, 322399817400452109389381⟩))), (10, 1, (.con (V.str ⟨4, 1280070990⟩))), (11, 1, (.con (V.str ⟨5, 361940403023⟩))), (12, 1, (.con (V.str ⟨6, 78401563153491⟩))), (13, 1, (.con (V.str ⟨10, 488440487847103610377301⟩))), (14, 1, (.con (V.str ⟨8, 4990918871747741011⟩))), (15, 1, (.con (V.str ⟨3, 5522771⟩))), (16, 1, (.con (V.str ⟨6, 76155295057987⟩))), (17, 1, (.con (V.str ⟨2, 17999⟩))), (18, 1, (.con (V.str ⟨8, 5494759122808361039⟩))), (19, 1, (.con (V.str ⟨7, 23727827094750532⟩))), (20, 1, (.con (V.str ⟨4, 1163544915⟩))), (21, 1, (.con (V.str ⟨3, 5130573⟩))), (22, 1, (.con (V.str ⟨3, 5783885⟩))), (23, 1, (.con (V.str ⟨4, 1163219540⟩))), (24, 1, (.con (V.str ⟨5, 297750249798⟩)))]) <|
 .op (some 0) .any [1] (.mov (.tmp 1)) <|
 .nil))
 .ret))
def T69_0 (E : List (Nat × Blk)) (D : Den) (W : DrawFn) (σ : H) : Ans :=
 let s1 := newB σ (.cells [(V.str (BS.mk 11 100710650190388740279911748)), (V.str (BS.mk 8 6073459554577832005)), (V.str (BS.mk 8 6073459554577829193)), (V.str (BS.mk 9 1241215773001651606849)), (V.str (BS.mk 4 1397178708)), (V.str (BS.mk 5 336236856642)), (V.str (BS.mk 3 4476485)), (V.str (BS.mk 7 22026814072246082)), (V.str (BS.mk 7 23157120498421321)), (V.str (BS.mk 10 322399817400452109389381)), (V.str (BS.mk 4 1280070990)), (V.str (BS.mk 5 361940403023)), (V.str (BS.mk 6 78401563153491)), (V.str (BS.mk 10 488440487847103610377301)), (V.str (BS.mk 8 4990918871747741011)), (V.str (BS.mk 3 5522771)), (V.str (BS.mk 6 76155295057987)), (V.str (BS.mk 2 17999)), (V.str (BS.mk 8 5494759122808361039)), (V.str (BS.mk 7 23727827094750532)), (V.str (BS.mk 4 1163544915)), (V.str (BS.mk 3 5130573)), (V.str (BS.mk 3 5783885)), (V.str (BS.mk 4 1163219540)), (V.str (BS.mk 5 297750249798))]);
 some ((V.sl (H.next σ) 0 25 (.ex 25)), s1)
theorem P69_0 (E : List (Nat × Blk)) (D : Den) (W : DrawFn) (N : Nat) (σ : H) :
  denC E D W N (C69_0 ) ⟨[], [], [], σ⟩ (Fin69 E) (fun _ _ => none) (Fin69 E) =
  T69_0 E D W   σ := by kernel_rfl
def J69_0 (E : List (Nat × Blk)) (D : Den) (W : DrawFn) (N : Nat) : H → Ans := T69_0 E D W 
theorem JE69_0 (E : List (Nat × Blk)) (D : Den) (W : DrawFn) (N : Nat) (σ : H) :
  denC E D W N C69_0 ⟨[], [], [], σ⟩ (Fin69 E) (fun _ _ => none) (Fin69 E) = J69_0 E D W N  σ := by
  refine (P69_0 E D W N    σ).trans ?_
  kernel_rfl
def F69 (E : List (Nat × Blk)) (D : Den) (W : DrawFn) (N : Nat) (args : List V) (σ : H) : Ans :=
 rtNil args (
 J69_0 E D W N  σ)
def A69 : XFn := ⟨2, [], [(.tmp 0)], C69_0⟩
theorem FE69 (E : List (Nat × Blk)) (D : Den) (W : DrawFn) (N : Nat) (args : List V) (σ : H) : runX E D W N A69 args σ = F69 E D W N args σ := by
  unfold F69
  simp only [← JE69_0]
  kernel_rfl
theorem AO69 : A69.body.ok = true := by kernel_rfl

/-! ### F71: __ogham_oghamref05.parser_.field -/
def G71_0 : List AOper := [⟨(some 35), .mov (.tmp 1), none⟩, ⟨(some 36), .mov (.tmp 1), none⟩, ⟨(some 37), .nilck (.tmp 36), none⟩, ⟨(some 38), .faddr 12 (.tmp 37), none⟩, ⟨(some 39), .load none (.tmp 38), none⟩, ⟨(some 40), .load (some 11) (.tmp 8), none⟩, ⟨(some 41), .buildSlice 100 1 [(V.str ⟨0, 0⟩), (V.int .i64 (Int.ofNat 0)), (V.bool false), (V.bool false), (V.int .i64 (Int.ofNat 0)), (V.int .i64 (Int.ofNat 0)), V.nils, V.nils, (V.int .i64 (Int.ofNat 0)), V.nils, (V.int .i64 (Int.ofNat 0))] [(0, 11, (.tmp 40))], none⟩, ⟨(some 42), .append 100 11 136 (.tmp 39) (.tmp 41), none⟩, ⟨(some 43), .nilck (.tmp 35), none⟩, ⟨(some 44), .faddr 12 (.tmp 43), none⟩, ⟨none, .store 1 (.tmp 44) (.tmp 42), none⟩]
def H71_0 : List DP := [⟨0, [1]⟩, ⟨0, [1]⟩, ⟨2, [36]⟩, ⟨6, [37]⟩, ⟨14, [38]⟩, ⟨0, [8]⟩, ⟨32, [40]⟩, ⟨126, [39, 41]⟩, ⟨255, [35]⟩, ⟨511, [43]⟩, ⟨1023, [44, 42]⟩]
def Fin71 (E : List (Nat × Blk)) : St → Ans := fun s => resK E s [] fun l => some (oneV l, s.σ)
def C71_0 (cc1 : XC) : XC := (.seq (.ops (.op (some 9) .any [0] (.mov (.tmp 0)) <|
 .op (some 10) .str [9] (.call 12 [(.tmp 9), (.con (V.int .i64 (Int.ofNat 2)))]) <|
 .op (some 11) .any [3] (.mov (.tmp 3)) <|
 .op (some 12) (.agg [.str, (.int .i64), .bool, .bool, (.int .i64), (.int .i64), .any, .any, (.int .i64), .any, (.int .i64)]) [10, 11] (.build [(V.str ⟨0, 0⟩), (V.int .i64 (Int.ofNat 0)), (V.bool false), (V.bool false), (V.int .i64 (Int.ofNat 0)), (V.int .i64 (Int.ofNat 0)), V.nils, V.nils, (V.int .i64 (Int.ofNat 0)), V.nils, (V.int .i64 (Int.ofNat 0))] [(0, 1, (.tmp 10)), (10, 1, (.tmp 11))]) <|
 .op (some 8) .any [] (.alloc 100 [(V.str ⟨0, 0⟩), (V.int .i64 (Int.ofNat 0)), (V.bool false), (V.bool false), (V.int .i64 (Int.ofNat 0)), (V.int .i64 (Int.ofNat 0)), V.nils, V.nils, (V.int .i64 (Int.ofNat 0)), V.nils, (V.int .i64 (Int.ofNat 0))]) <|
 .op none (.agg [.str, (.int .i64), .bool, .bool, (.int .i64), (.int .i64), .any, .any, (.int .i64), .any, (.int .i64)]) [8, 12] (.store 11 (.tmp 8) (.tmp 12)) <|
 .nil))
 (.seq (.ops (.op (some 13) .any [0] (.mov (.tmp 0)) <|
 .op (some 14) .any [2] (.mov (.tmp 2)) <|
 .op (some 15) .any [14] (.bin .add .none (.tmp 14) (.con (V.int .i64 (Int.ofNat 1)))) <|
 .op (some 16) (.int .i64) [13, 15] (.call 17 [(.tmp 13), (.tmp 15)]) <|
 .op (some 17) .any [8] (.faddr 1 (.tmp 8)) <|
 .op none .any [17, 16] (.store 1 (.tmp 17) (.tmp 16)) <|
 .nil))
 (.seq (.block 0 (.seq (.ops (.op (some 19) .any [1] (.mov (.tmp 1)) <|
 .op (some 20) .any [19] (.nilck (.tmp 19)) <|
 .op (some 21) .any [20] (.faddr 0 (.tmp 20)) <|
 .op (some 22) (.int .i64) [21] (.load none (.tmp 21)) <|
 .op (some 23) .any [22] (.bin .eql .none (.tmp 22) (.con (V.int .i64 (Int.ofNat 9)))) <|
 .op (some 18) .any [23] (.mov (.tmp 23)) <|
 .nil))
 (.cond (.tmp 18) .skip
 (.seq (.ops (.op (some 25) .any [0] (.mov (.tmp 0)) <|
 .op (some 26) .bool [25] (.call 14 [(.tmp 25), (.con (V.str ⟨8, 5494759122808361039⟩))]) <|
 .op (some 24) .any [26] (.mov (.tmp 26)) <|
 .nil))
 (.cond (.tmp 24) (.ops (.op (some 27) .any [8] (.faddr 2 (.tmp 8)) <|
 .op none .any [27] (.store 1 (.tmp 27) (.con (V.bool true))) <|
 .nil))
 (.seq (.ops (.op (some 29) .any [0] (.mov (.tmp 0)) <|
 .op (some 30) .bool [29] (.call 14 [(.tmp 29), (.con (V.str ⟨7, 23727827094750532⟩))]) <|
 .op (some 28) .any [30] (.mov (.tmp 30)) <|
 .nil))
 (.cond (.tmp 28) (.ops (.op (some 31) .any [0] (.mov (.tmp 0)) <|
 .op (some 32) (.agg [(.int .i64), (.int .i64), .any, .any, (.int .i64), .any]) [31] (.call 90 [(.tmp 31)]) <|
 .op (some 33) .any [8] (.faddr 3 (.tmp 8)) <|
 .op none .any [33] (.store 1 (.tmp 33) (.con (V.bool true))) <|
 .op (some 34) .any [8] (.faddr 4 (.tmp 8)) <|
 .op none (.agg [(.int .i64), (.int .i64), .any, .any, (.int .i64), .any]) [34, 32] (.store 6 (.tmp 34) (.tmp 32)) <|
 .nil))
 .skip)))))))
 (.keep [(1, .ptr), (8, .ptr)] [] [] cc1))))
def T71_0 (E : List (Nat × Blk)) (D : Den) (W : DrawFn) (K1 : Nat → Nat → Nat → Nat → H → Ans) (v0 : V) (v1b : Nat) (v1o : Nat) (v2 : Int) (v3 : Int) (σ : H) : Ans :=
 callK (D 12 [v0, (V.int .i64 (Int.ofNat 2))] σ) fun u1 s2 =>
 rtStr u1 fun x3 =>
 let s4 := newB s2 (.cells [(V.str ⟨0, 0⟩), (V.int .i64 (Int.ofNat 0)), (V.bool false), (V.bool false), (V.int .i64 (Int.ofNat 0)), (V.int .i64 (Int.ofNat 0)), V.nils, V.nils, (V.int .i64 (Int.ofNat 0)), V.nils, (V.int .i64 (Int.ofNat 0))]);
 stK 11 (H.next s2) 0 (V.agg [(V.str x3), (V.int .i64 (Int.ofNat 0)), (V.bool false), (V.bool false), (V.int .i64 (Int.ofNat 0)), (V.int .i64 (Int.ofNat 0)), V.nils, V.nils, (V.int .i64 (Int.ofNat 0)), V.nils, (V.int .i64 v3)]) s4 fun s5 =>
 callK (D 17 [v0, (V.int .i64 (addF .i64 v2 (Int.ofNat 1)))] s5) fun u6 s7 =>
 rtInt .i64 u6 fun x8 =>
 stK 1 (H.next s2) 1 (V.int .i64 x8) s7 fun s9 =>
 ldK E s9 v1b v1o fun u10 =>
 rtInt .i64 u10 fun x11 =>
 condK (eqF x11 (Int.ofNat 9)) (
 K1 v1b v1o (H.next s2) 0 s9) (
 callK (D 14 [v0, (V.str (BS.mk 8 5494759122808361039))] s9) fun u12 s13 =>
 rtBool u12 fun x14 =>
 condK x14 (
 stK 1 (H.next s2) 2 (V.bool true) s13 fun s15 =>
 K1 v1b v1o (H.next s2) 0 s15) (
 callK (D 14 [v0, (V.str (BS.mk 7 23727827094750532))] s13) fun u16 s17 =>
 rtBool u16 fun x18 =>
 condK x18 (
 callK (D 90 [v0] s17) fun u19 s20 =>
 rtAgg u19 fun l21 =>
 rtCons l21 fun x22 l23 =>
 rtInt .i64 x22 fun x24 =>
 rtCons l23 fun x25 l26 =>
 rtInt .i64 x25 fun x27 =>
 rtCons l26 fun x28 l29 =>
 rtCons l29 fun x30 l31 =>
 rtCons l31 fun x32 l33 =>
 rtInt .i64 x32 fun x34 =>
 rtCons l33 fun x35 l36 =>
 rtNil l36 (
 stK 1 (H.next s2) 3 (V.bool true) s20 fun s37 =>
 stK 6 (H.next s2) 4 (V.agg [(V.int .i64 x24), (V.int .i64 x27), x28, x30, (V.int .i64 x34), x35]) s37 fun s38 =>
 K1 v1b v1o (H.next s2) 0 s38)) (
 K1 v1b v1o (H.next s2) 0 s17)))
def C71_1 : XC := (.keep [(1, .ptr), (8, .ptr)] [] [] (.gdraw G71_0 H71_0 []))
def T71_1 (E : List (Nat × Blk)) (D : Den) (W : DrawFn) (v1b : Nat) (v1o : Nat) (v8b : Nat) (v8o : Nat) (σ : H) : Ans :=
 gdrawK (W G71_0 H71_0 [(1, (V.ptr v1b v1o)), (8, (V.ptr v8b v8o))] σ) fun e1 s2 =>
 some ((V.tup []), s2)
theorem P71_0 (E : List (Nat × Blk)) (D : Den) (W : DrawFn) (N : Nat) (cc1 : XC) (v0 : V) (v1b : Nat) (v1o : Nat) (v2 : Int) (v3 : Int) (σ : H) :
  denC E D W N (C71_0 cc1) ⟨[(0, v0), (1, (V.ptr v1b v1o)), (2, (V.int .i64 v2)), (3, (V.int .i64 v3))], [], [], σ⟩ (Fin71 E) (fun _ _ => none) (Fin71 E) =
  T71_0 E D W (fun v1b v1o v8b v8o σ => denC E D W N cc1 ⟨[(1, (V.ptr v1b v1o)), (8, (V.ptr v8b v8o))], [], [], σ⟩ (Fin71 E) (fun _ _ => none) (Fin71 E)) v0 v1b v1o v2 v3 σ := by kernel_rfl
theorem P71_1 (E : List (Nat × Blk)) (D : Den) (W : DrawFn) (N : Nat) (v1b : Nat) (v1o : Nat) (v8b : Nat) (v8o : Nat) (σ : H) :
  denC E D W N (C71_1 ) ⟨[(1, (V.ptr v1b v1o)), (8, (V.ptr v8b v8o))], [], [], σ⟩ (Fin71 E) (fun _ _ => none) (Fin71 E) =
  T71_1 E D W  v1b v1o v8b v8o σ := by kernel_rfl
def J71_1 (E : List (Nat × Blk)) (D : Den) (W : DrawFn) (N : Nat) : Nat → Nat → Nat → Nat → H → Ans := T71_1 E D W 
theorem JE71_1 (E : List (Nat × Blk)) (D : Den) (W : DrawFn) (N : Nat) (v1b : Nat) (v1o : Nat) (v8b : Nat) (v8o : Nat) (σ : H) :
  denC E D W N C71_1 ⟨[(1, (V.ptr v1b v1o)), (8, (V.ptr v8b v8o))], [], [], σ⟩ (Fin71 E) (fun _ _ => none) (Fin71 E) = J71_1 E D W N v1b v1o v8b v8o σ := by
  refine (P71_1 E D W N   v1b v1o v8b v8o σ).trans ?_
  kernel_rfl
def J71_0 (E : List (Nat × Blk)) (D : Den) (W : DrawFn) (N : Nat) : V → Nat → Nat → Int → Int → H → Ans := T71_0 E D W (J71_1 E D W N )
theorem JE71_0 (E : List (Nat × Blk)) (D : Den) (W : DrawFn) (N : Nat) (v0 : V) (v1b : Nat) (v1o : Nat) (v2 : Int) (v3 : Int) (σ : H) :
  denC E D W N (C71_0 C71_1) ⟨[(0, v0), (1, (V.ptr v1b v1o)), (2, (V.int .i64 v2)), (3, (V.int .i64 v3))], [], [], σ⟩ (Fin71 E) (fun _ _ => none) (Fin71 E) = J71_0 E D W N v0 v1b v1o v2 v3 σ := by
  refine (P71_0 E D W N C71_1  v0 v1b v1o v2 v3 σ).trans ?_
  simp only [JE71_1]
  kernel_rfl
def F71 (E : List (Nat × Blk)) (D : Den) (W : DrawFn) (N : Nat) (args : List V) (σ : H) : Ans :=
 rtCons args fun x1 l2 =>
 rtCons l2 fun x3 l4 =>
 rtPtr x3 fun b5 o6 =>
 rtCons l4 fun x7 l8 =>
 rtInt .i64 x7 fun x9 =>
 rtCons l8 fun x10 l11 =>
 rtInt .i64 x10 fun x12 =>
 rtNil l11 (
 J71_0 E D W N x1 b5 o6 x9 x12 σ)
def A71 : XFn := ⟨45, [.any, .ptr, (.int .i64), (.int .i64)], [], (C71_0 C71_1)⟩
theorem FE71 (E : List (Nat × Blk)) (D : Den) (W : DrawFn) (N : Nat) (args : List V) (σ : H) : runX E D W N A71 args σ = F71 E D W N args σ := by
  unfold F71
  simp only [← JE71_0]
  kernel_rfl
theorem AO71 : A71.body.ok = true := by kernel_rfl

/-! ### F73: __ogham_print.printer_.list_1 -/
def Fin73 (E : List (Nat × Blk)) : St → Ans := fun s => resK E s [] fun l => some (oneV l, s.σ)
def C73_0 (cc1 : XC) : XC := (.seq (.seq (.ops (.op (some 2) .bool [0] (.load none (.tmp 0)) <|
 .op (some 3) .any [2] (.un .not (.tmp 2)) <|
 .nil))
 (.cond (.tmp 3) (.ops (.op (some 4) .any [1] (.load none (.tmp 1)) <|
 .op (some 5) .any [4] (.nilck (.tmp 4)) <|
 .op (some 6) .any [5] (.faddr 0 (.tmp 5)) <|
 .op (some 7) .any [] (.buildSlice 9 1 [(V.str ⟨0, 0⟩)] [(0, 1, (.con (V.str ⟨2, 8236⟩)))]) <|
 .op (some 8) (.tup []) [6, 7] (.call 19 [(.tmp 6), (.tmp 7)]) <|
 .nil))
 .skip))
 (.keep [(0, .any)] [] [] cc1))
def T73_0 (E : List (Nat × Blk)) (D : Den) (W : DrawFn) (K1 : V → H → Ans) (v0 : V) (v1 : V) (σ : H) : Ans :=
 rtPtr v0 fun b1 o2 =>
 ldK E σ b1 o2 fun u3 =>
 rtBool u3 fun x4 =>
 condK (not x4) (
 rtPtr v1 fun b5 o6 =>
 ldK E σ b5 o6 fun u7 =>
 rtPtr u7 fun b8 o9 =>
 let s10 := newB σ (.cells [(V.str (BS.mk 2 8236))]);
 callK (D 19 [(V.ptr b8 o9), (V.sl (H.next σ) 0 1 (.ex 1))] s10) fun u11 s12 =>
 rtTup u11 fun l13 =>
 rtNil l13 (
 K1 v0 s12)) (
 K1 v0 σ)
def C73_1 : XC := (.ops (.op none .any [0] (.store 1 (.tmp 0) (.con (V.bool false))) <|
 .nil))
def T73_1 (E : List (Nat × Blk)) (D : Den) (W : DrawFn) (v0 : V) (σ : H) : Ans :=
 rtPtr v0 fun b1 o2 =>
 stK 1 b1 o2 (V.bool false) σ fun s3 =>
 some ((V.tup []), s3)
theorem P73_0 (E : List (Nat × Blk)) (D : Den) (W : DrawFn) (N : Nat) (cc1 : XC) (v0 : V) (v1 : V) (σ : H) :
  denC E D W N (C73_0 cc1) ⟨[(0, v0), (1, v1)], [], [], σ⟩ (Fin73 E) (fun _ _ => none) (Fin73 E) =
  T73_0 E D W (fun v0 σ => denC E D W N cc1 ⟨[(0, v0)], [], [], σ⟩ (Fin73 E) (fun _ _ => none) (Fin73 E)) v0 v1 σ := by kernel_rfl
theorem P73_1 (E : List (Nat × Blk)) (D : Den) (W : DrawFn) (N : Nat) (v0 : V) (σ : H) :
  denC E D W N (C73_1 ) ⟨[(0, v0)], [], [], σ⟩ (Fin73 E) (fun _ _ => none) (Fin73 E) =
  T73_1 E D W  v0 σ := by kernel_rfl
def J73_1 (E : List (Nat × Blk)) (D : Den) (W : DrawFn) (N : Nat) : V → H → Ans := T73_1 E D W 
theorem JE73_1 (E : List (Nat × Blk)) (D : Den) (W : DrawFn) (N : Nat) (v0 : V) (σ : H) :
  denC E D W N C73_1 ⟨[(0, v0)], [], [], σ⟩ (Fin73 E) (fun _ _ => none) (Fin73 E) = J73_1 E D W N v0 σ := by
  refine (P73_1 E D W N   v0 σ).trans ?_
  kernel_rfl
def J73_0 (E : List (Nat × Blk)) (D : Den) (W : DrawFn) (N : Nat) : V → V → H → Ans := T73_0 E D W (J73_1 E D W N )
theorem JE73_0 (E : List (Nat × Blk)) (D : Den) (W : DrawFn) (N : Nat) (v0 : V) (v1 : V) (σ : H) :
  denC E D W N (C73_0 C73_1) ⟨[(0, v0), (1, v1)], [], [], σ⟩ (Fin73 E) (fun _ _ => none) (Fin73 E) = J73_0 E D W N v0 v1 σ := by
  refine (P73_0 E D W N C73_1  v0 v1 σ).trans ?_
  simp only [JE73_1]
  kernel_rfl
def F73 (E : List (Nat × Blk)) (D : Den) (W : DrawFn) (N : Nat) (args : List V) (σ : H) : Ans :=
 rtCons args fun x1 l2 =>
 rtCons l2 fun x3 l4 =>
 rtNil l4 (
 J73_0 E D W N x1 x3 σ)
def A73 : XFn := ⟨9, [.any, .any], [], (C73_0 C73_1)⟩
theorem FE73 (E : List (Nat × Blk)) (D : Den) (W : DrawFn) (N : Nat) (args : List V) (σ : H) : runX E D W N A73 args σ = F73 E D W N args σ := by
  unfold F73
  simp only [← JE73_0]
  kernel_rfl
theorem AO73 : A73.body.ok = true := by kernel_rfl

/-! ### F74: __ogham_print.printer_.fields_1 -/
def Fin74 (E : List (Nat × Blk)) : St → Ans := fun s => resK E s [] fun l => some (oneV l, s.σ)
def C74_0 (cc1 : XC) : XC := (.seq (.ops (.op (some 6) .any [1] (.faddr 12 (.tmp 1)) <|
 .op (some 7) .any [6] (.load none (.tmp 6)) <|
 .op (some 8) .any [0] (.mov (.tmp 0)) <|
 .op (some 9) .any [7, 8] (.iaddrS 11 (.tmp 7) (.tmp 8)) <|
 .op (some 10) (.agg [.str, (.int .i64), .bool, .bool, (.int .i64), (.int .i64), .any, .any, (.int .i64), .any, (.int .i64)]) [9] (.load (some 11) (.tmp 9)) <|
 .pal 5 [] 100 [(V.str ⟨0, 0⟩), (V.int .i64 (Int.ofNat 0)), (V.bool false), (V.bool false), (V.int .i64 (Int.ofNat 0)), (V.int .i64 (Int.ofNat 0)), V.nils, V.nils, (V.int .i64 (Int.ofNat 0)), V.nils, (V.int .i64 (Int.ofNat 0))] <|
 .op none (.agg [.str, (.int .i64), .bool, .bool, (.int .i64), (.int .i64), .any, .any, (.int .i64), .any, (.int .i64)]) [5, 10] (.store 11 (.tmp 5) (.tmp 10)) <|
 .nil))
 (.seq (.seq (.draw (.op (some 11) .any [5] (.faddr 10 (.tmp 5)) <|
 .op (some 12) (.int .i64) [11] (.load none (.tmp 11)) <|
 .op (some 13) .any [12] (.bin .gtr .none (.tmp 12) (.con (V.int .i64 (Int.ofNat 0)))) <|
 .op (some 14) .any [13] (.mov (.tmp 13)) <|
 .grp 14 true (.op (some 15) .any [0, 14] (.mov (.tmp 0)) <|
 .op (some 16) .any [15, 14] (.bin .eql .none (.tmp 15) (.con (V.int .i64 (Int.ofNat 0)))) <|
 .op (some 17) .any [16, 14] (.mov (.tmp 16)) <|
 .grp 17 false (.op (some 18) .any [1, 17] (.faddr 12 (.tmp 1)) <|
 .op (some 19) .any [18, 17] (.load none (.tmp 18)) <|
 .op (some 20) .any [0, 17] (.mov (.tmp 0)) <|
 .op (some 21) .any [20, 17] (.bin .sub .none (.tmp 20) (.con (V.int .i64 (Int.ofNat 1)))) <|
 .op (some 22) .any [19, 21, 17] (.iaddrS 11 (.tmp 19) (.tmp 21)) <|
 .op (some 23) .any [22, 17] (.faddr 10 (.tmp 22)) <|
 .op (some 24) (.int .i64) [23, 17] (.load none (.tmp 23)) <|
 .op (some 25) .any [5, 17] (.faddr 10 (.tmp 5)) <|
 .op (some 26) (.int .i64) [25, 17] (.load none (.tmp 25)) <|
 .op (some 27) .any [24, 26, 17] (.bin .neq .none (.tmp 24) (.tmp 26)) <|
 .nil) 28 [17, 27, 14] (.tmp 17) (.con (V.bool true)) (.tmp 27) <|
 .nil) 29 [14, 28] (.tmp 14) (.tmp 28) (.con (V.bool false)) <|
 .nil) [0, 1, 3, 7, 15, 31, 63, 127, 255, 127, 639, 2047, 4095, 8191, 127, 16511, 65535, 131071, 262143])
 (.cond (.tmp 29) (.ops (.op (some 30) .any [2] (.load none (.tmp 2)) <|
 .op (some 31) .any [30] (.nilck (.tmp 30)) <|
 .op (some 32) .any [31] (.faddr 0 (.tmp 31)) <|
 .op (some 33) .any [] (.buildSlice 9 1 [(V.str ⟨0, 0⟩)] [(0, 1, (.con (V.str ⟨3, 2120539⟩)))]) <|
 .op (some 34) (.tup []) [32, 33] (.call 19 [(.tmp 32), (.tmp 33)]) <|
 .nil))
 .skip))
 (.keep [(0, (.int .i64)), (1, .any), (2, .any), (3, .any)] [5] [(5, [.str, (.int .i64), .bool, .bool, (.int .i64), (.int .i64), .any, .any, (.int .i64), .any, (.int .i64)])] cc1)))
def T74_0 (E : List (Nat × Blk)) (D : Den) (W : DrawFn) (K1 : Int → V → V → V → BS → Int → Bool → Bool → Int → Int → V → V → Int → V → Int → H → Ans) (v0 : Int) (v1 : V) (v2 : V) (v3 : V) (σ : H) : Ans :=
 rtPtr v1 fun b1 o2 =>
 ldK E σ b1 (Nat.add o2 12) fun u3 =>
 iaddrSK 11 u3 v0 fun b4 o5 =>
 ldnK E σ b4 o5 11 fun l6 =>
 rtCons l6 fun x7 l8 =>
 rtStr x7 fun x9 =>
 rtCons l8 fun x10 l11 =>
 rtInt .i64 x10 fun x12 =>
 rtCons l11 fun x13 l14 =>
 rtBool x13 fun x15 =>
 rtCons l14 fun x16 l17 =>
 rtBool x16 fun x18 =>
 rtCons l17 fun x19 l20 =>
 rtInt .i64 x19 fun x21 =>
 rtCons l20 fun x22 l23 =>
 rtInt .i64 x22 fun x24 =>
 rtCons l23 fun x25 l26 =>
 rtCons l26 fun x27 l28 =>
 rtCons l28 fun x29 l30 =>
 rtInt .i64 x29 fun x31 =>
 rtCons l30 fun x32 l33 =>
 rtCons l33 fun x34 l35 =>
 rtInt .i64 x34 fun x36 =>
 rtNil l35 (
 chk (allOne [(V.str x9), (V.int .i64 x12), (V.bool x15), (V.bool x18), (V.int .i64 x21), (V.int .i64 x24), x25, x27, (V.int .i64 x31), x32, (V.int .i64 x36)]) (
 joinB (fun c37 s38 =>
 condK c37 (
 rtPtr v2 fun b40 o41 =>
 ldK E s38 b40 o41 fun u42 =>
 rtPtr u42 fun b43 o44 =>
 let s45 := newB s38 (.cells [(V.str (BS.mk 3 2120539))]);
 callK (D 19 [(V.ptr b43 o44), (V.sl (H.next s38) 0 1 (.ex 1))] s45) fun u46 s47 =>
 rtTup u46 fun l48 =>
 rtNil l48 (
 K1 v0 v1 v2 v3 x9 x12 x15 x18 x21 x24 x25 x27 x31 x32 x36 s47)) (
 K1 v0 v1 v2 v3 x9 x12 x15 x18 x21 x24 x25 x27 x31 x32 x36 s38)) fun k39 =>
 condK (ltF (Int.ofNat 0) x36) (
 joinB (fun c49 s50 =>
 k39 c49 s50) fun k51 =>
 condK (eqF v0 (Int.ofNat 0)) (
 k51 true σ) (
 rtPtr v1 fun b52 o53 =>
 ldK E σ b52 (Nat.add o53 12) fun u54 =>
 iaddrSK 11 u54 (subF .i64 v0 (Int.ofNat 1)) fun b55 o56 =>
 ldK E σ b55 (Nat.add o56 10) fun u57 =>
 rtInt .i64 u57 fun x58 =>
 k51 (not (eqF x58 x36)) σ)) (
 k39 false σ)))
def C74_1 : XC := (.seq (.ops (.op (some 35) .any [2] (.load none (.tmp 2)) <|
 .op (some 36) (.agg [.str, (.int .i64), .bool, .bool, (.int .i64), (.int .i64), .any, .any, (.int .i64), .any, (.int .i64)]) [5] (.load (some 11) (.tmp 5)) <|
 .op (some 37) (.int .i64) [3] (.load none (.tmp 3)) <|
 .op (some 38) (.tup []) [35, 36, 37] (.call 75 [(.tmp 35), (.tmp 36), (.tmp 37)]) <|
 .nil))
 (.seq (.draw (.op (some 39) .any [5] (.faddr 10 (.tmp 5)) <|
 .op (some 40) (.int .i64) [39] (.load none (.tmp 39)) <|
 .op (some 41) .any [40] (.bin .gtr .none (.tmp 40) (.con (V.int .i64 (Int.ofNat 0)))) <|
 .op (some 42) .any [41] (.mov (.tmp 41)) <|
 .grp 42 true (.op (some 43) .any [0, 42] (.mov (.tmp 0)) <|
 .op (some 44) .any [1, 42] (.faddr 12 (.tmp 1)) <|
 .op (some 45) .any [44, 42] (.load none (.tmp 44)) <|
 .op (some 46) .any [45, 42] (.len false (.tmp 45)) <|
 .op (some 47) .any [46, 42] (.bin .sub .none (.tmp 46) (.con (V.int .i64 (Int.ofNat 1)))) <|
 .op (some 48) .any [43, 47, 42] (.bin .eql .none (.tmp 43) (.tmp 47)) <|
 .op (some 49) .any [48, 42] (.mov (.tmp 48)) <|
 .grp 49 false (.op (some 50) .any [1, 49] (.faddr 12 (.tmp 1)) <|
 .op (some 51) .any [50, 49] (.load none (.tmp 50)) <|
 .op (some 52) .any [0, 49] (.mov (.tmp 0)) <|
 .op (some 53) .any [52, 49] (.bin .add .none (.tmp 52) (.con (V.int .i64 (Int.ofNat 1)))) <|
 .op (some 54) .any [51, 53, 49] (.iaddrS 11 (.tmp 51) (.tmp 53)) <|
 .op (some 55) .any [54, 49] (.faddr 10 (.tmp 54)) <|
 .op (some 56) (.int .i64) [55, 49] (.load none (.tmp 55)) <|
 .op (some 57) .any [5, 49] (.faddr 10 (.tmp 5)) <|
 .op (some 58) (.int .i64) [57, 49] (.load none (.tmp 57)) <|
 .op (some 59) .any [56, 58, 49] (.bin .neq .none (.tmp 56) (.tmp 58)) <|
 .nil) 60 [49, 59, 42] (.tmp 49) (.con (V.bool true)) (.tmp 59) <|
 .nil) 61 [42, 60] (.tmp 42) (.tmp 60) (.con (V.bool false)) <|
 .nil) [0, 1, 3, 7, 15, 15, 47, 111, 239, 511, 1023, 2047, 4095, 2047, 10239, 32767, 65535, 131071, 2047, 264191, 1048575, 2097151, 4194303])
 (.cond (.tmp 61) (.ops (.op (some 62) .any [2] (.load none (.tmp 2)) <|
 .op (some 63) .any [62] (.nilck (.tmp 62)) <|
 .op (some 64) .any [63] (.faddr 0 (.tmp 63)) <|
 .op (some 65) .any [] (.buildSlice 9 1 [(V.str ⟨0, 0⟩)] [(0, 1, (.con (V.str ⟨3, 6118688⟩)))]) <|
 .op (some 66) (.tup []) [64, 65] (.call 19 [(.tmp 64), (.tmp 65)]) <|
 .nil))
 .skip)))
def T74_1 (E : List (Nat × Blk)) (D : Den) (W : DrawFn) (v0 : Int) (v1 : V) (v2 : V) (v3 : V) (r5_0 : BS) (r5_1 : Int) (r5_2 : Bool) (r5_3 : Bool) (r5_4 : Int) (r5_5 : Int) (r5_6 : V) (r5_7 : V) (r5_8 : Int) (r5_9 : V) (r5_10 : Int) (σ : H) : Ans :=
 rtPtr v2 fun b1 o2 =>
 ldK E σ b1 o2 fun u3 =>
 rtPtr v3 fun b4 o5 =>
 ldK E σ b4 o5 fun u6 =>
 rtInt .i64 u6 fun x7 =>
 callK (D 75 [u3, (V.agg [(V.str r5_0), (V.int .i64 r5_1), (V.bool r5_2), (V.bool r5_3), (V.int .i64 r5_4), (V.int .i64 r5_5), r5_6, r5_7, (V.int .i64 r5_8), r5_9, (V.int .i64 r5_10)]), (V.int .i64 x7)] σ) fun u8 s9 =>
 rtTup u8 fun l10 =>
 rtNil l10 (
 joinB (fun c11 s12 =>
 condK c11 (
 rtPtr v2 fun b14 o15 =>
 ldK E s12 b14 o15 fun u16 =>
 rtPtr u16 fun b17 o18 =>
 let s19 := newB s12 (.cells [(V.str (BS.mk 3 6118688))]);
 callK (D 19 [(V.ptr b17 o18), (V.sl (H.next s12) 0 1 (.ex 1))] s19) fun u20 s21 =>
 rtTup u20 fun l22 =>
 rtNil l22 (
 some ((V.tup []), s21))) (
 some ((V.tup []), s12))) fun k13 =>
 condK (ltF (Int.ofNat 0) r5_10) (
 rtPtr v1 fun b23 o24 =>
 ldK E s9 b23 (Nat.add o24 12) fun u25 =>
 slenK u25 fun n26 =>
 joinB (fun c27 s28 =>
 k13 c27 s28) fun k29 =>
 condK (eqF v0 (subF .i64 (Int.ofNat n26) (Int.ofNat 1))) (
 k29 true s9) (
 rtPtr v1 fun b30 o31 =>
 ldK E s9 b30 (Nat.add o31 12) fun u32 =>
 iaddrSK 11 u32 (addF .i64 v0 (Int.ofNat 1)) fun b33 o34 =>
 ldK E s9 b33 (Nat.add o34 10) fun u35 =>
 rtInt .i64 u35 fun x36 =>
 k29 (not (eqF x36 r5_10)) s9)) (
 k13 false s9))
theorem P74_0 (E : List (Nat × Blk)) (D : Den) (W : DrawFn) (N : Nat) (cc1 : XC) (v0 : Int) (v1 : V) (v2 : V) (v3 : V) (σ : H) :
  denC E D W N (C74_0 cc1) ⟨[(0, (V.int .i64 v0)), (1, v1), (2, v2), (3, v3)], [], [], σ⟩ (Fin74 E) (fun _ _ => none) (Fin74 E) =
  T74_0 E D W (fun v0 v1 v2 v3 r5_0 r5_1 r5_2 r5_3 r5_4 r5_5 r5_6 r5_7 r5_8 r5_9 r5_10 σ => denC E D W N cc1 ⟨[(0, (V.int .i64 v0)), (1, v1), (2, v2), (3, v3)], [(5, (5, 0))], [(5, [(V.str r5_0), (V.int .i64 r5_1), (V.bool r5_2), (V.bool r5_3), (V.int .i64 r5_4), (V.int .i64 r5_5), r5_6, r5_7, (V.int .i64 r5_8), r5_9, (V.int .i64 r5_10)])], σ⟩ (Fin74 E) (fun _ _ => none) (Fin74 E)) v0 v1 v2 v3 σ := by kernel_rfl
theorem P74_1 (E : List (Nat × Blk)) (D : Den) (W : DrawFn) (N : Nat) (v0 : Int) (v1 : V) (v2 : V) (v3 : V) (r5_0 : BS) (r5_1 : Int) (r5_2 : Bool) (r5_3 : Bool) (r5_4 : Int) (r5_5 : Int) (r5_6 : V) (r5_7 : V) (r5_8 : Int) (r5_9 : V) (r5_10 : Int) (σ : H) :
  denC E D W N (C74_1 ) ⟨[(0, (V.int .i64 v0)), (1, v1), (2, v2), (3, v3)], [(5, (5, 0))], [(5, [(V.str r5_0), (V.int .i64 r5_1), (V.bool r5_2), (V.bool r5_3), (V.int .i64 r5_4), (V.int .i64 r5_5), r5_6, r5_7, (V.int .i64 r5_8), r5_9, (V.int .i64 r5_10)])], σ⟩ (Fin74 E) (fun _ _ => none) (Fin74 E) =
  T74_1 E D W  v0 v1 v2 v3 r5_0 r5_1 r5_2 r5_3 r5_4 r5_5 r5_6 r5_7 r5_8 r5_9 r5_10 σ := by kernel_rfl
def J74_1 (E : List (Nat × Blk)) (D : Den) (W : DrawFn) (N : Nat) : Int → V → V → V → BS → Int → Bool → Bool → Int → Int → V → V → Int → V → Int → H → Ans := T74_1 E D W 
theorem JE74_1 (E : List (Nat × Blk)) (D : Den) (W : DrawFn) (N : Nat) (v0 : Int) (v1 : V) (v2 : V) (v3 : V) (r5_0 : BS) (r5_1 : Int) (r5_2 : Bool) (r5_3 : Bool) (r5_4 : Int) (r5_5 : Int) (r5_6 : V) (r5_7 : V) (r5_8 : Int) (r5_9 : V) (r5_10 : Int) (σ : H) :
  denC E D W N C74_1 ⟨[(0, (V.int .i64 v0)), (1, v1), (2, v2), (3, v3)], [(5, (5, 0))], [(5, [(V.str r5_0), (V.int .i64 r5_1), (V.bool r5_2), (V.bool r5_3), (V.int .i64 r5_4), (V.int .i64 r5_5), r5_6, r5_7, (V.int .i64 r5_8), r5_9, (V.int .i64 r5_10)])], σ⟩ (Fin74 E) (fun _ _ => none) (Fin74 E) = J74_1 E D W N v0 v1 v2 v3 r5_0 r5_1 r5_2 r5_3 r5_4 r5_5 r5_6 r5_7 r5_8 r5_9 r5_10 σ := by
  refine (P74_1 E D W N   v0 v1 v2 v3 r5_0 r5_1 r5_2 r5_3 r5_4 r5_5 r5_6 r5_7 r5_8 r5_9 r5_10 σ).trans ?_
  kernel_rfl
def J74_0 (E : List (Nat × Blk)) (D : Den) (W : DrawFn) (N : Nat) : Int → V → V → V → H → Ans := T74_0 E D W (J74_1 E D W N )
theorem JE74_0 (E : List (Nat × Blk)) (D : Den) (W : DrawFn) (N : Nat) (v0 : Int) (v1 : V) (v2 : V) (v3 : V) (σ : H) :
  denC E D W N (C74_0 C74_1) ⟨[(0, (V.int .i64 v0)), (1, v1), (2, v2), (3, v3)], [], [], σ⟩ (Fin74 E) (fun _ _ => none) (Fin74 E) = J74_0 E D W N v0 v1 v2 v3 σ := by
  refine (P74_0 E D W N C74_1  v0 v1 v2 v3 σ).trans ?_
  simp only [JE74_1]
  kernel_rfl
def F74 (E : List (Nat × Blk)) (D : Den) (W : DrawFn) (N : Nat) (args : List V) (σ : H) : Ans :=
 rtCons args fun x1 l2 =>
 rtInt .i64 x1 fun x3 =>
 rtCons l2 fun x4 l5 =>
 rtCons l5 fun x6 l7 =>
 rtCons l7 fun x8 l9 =>
 rtNil l9 (
 J74_0 E D W N x3 x4 x6 x8 σ)
def A74 : XFn := ⟨67, [(.int .i64), .any, .any, .any], [], (C74_0 C74_1)⟩
theorem FE74 (E : List (Nat × Blk)) (D : Den) (W : DrawFn) (N : Nat) (args : List V) (σ : H) : runX E D W N A74 args σ = F74 E D W N args σ := by
  unfold F74
  simp only [← JE74_0]
  kernel_rfl
theorem AO74 : A74.body.ok = true := by kernel_rfl

end
end Go.Proofs.YtpcnmmbpgeahfaaGreatDoor
