/- The functions of the program in their plain form. Printed by a program off the dump. -/
import Derived.Test.YtidadhnbgejmgaaDoorOgX
import Derived.KernelRfl
set_option linter.all false
set_option maxRecDepth 100000
set_option maxHeartbeats 0
namespace Go.Proofs.YtidadhnbgejmgaaDoor
open Go Go.Og
noncomputable section
/-! ### F63: __ogham_syntax.parser_.bracket -/
def Fin63 (E : List (Nat × Blk)) : St → Ans := fun s => resK E s [(.tmp 8)] fun l => some (oneV l, s.σ)
def C63_0 (cc1 : XC) : XC := (.seq (.ops (.op (some 8) .any [] (.mov (.con (V.bool false))) <|
 .nil))
 (.block 0 (.loop [(0, .ptr), (1, .any), (2, (.int .i64)), (3, (.int .i64))] [] [] cc1)))
def T63_0 (E : List (Nat × Blk)) (D : Den) (W : DrawFn) (K1 : Nat → Nat → V → Int → Int → H → Ans) (v0b : Nat) (v0o : Nat) (v1 : V) (v2 : Int) (v3 : Int) (σ : H) : Ans :=
 K1 v0b v0o v1 v2 v3 σ
def C63_1 : XC := (.block 1 (.seq (.seq (.ops (.op (some 9) .any [0] (.mov (.tmp 0)) <|
 .op (some 10) .any [1] (.mov (.tmp 1)) <|
 .op (some 11) .any [2] (.mov (.tmp 2)) <|
 .op (some 12) .any [3] (.mov (.tmp 3)) <|
 .op (some 13) .bool [9, 10, 11, 12] (.call 57 [(.tmp 9), (.tmp 10), (.tmp 11), (.tmp 12)]) <|
 .op (some 14) .any [13] (.un .not (.tmp 13)) <|
 .nil))
 (.cond (.tmp 14) (.seq (.ops (.op (some 8) .any [] (.mov (.con (V.bool false))) <|
 .nil))
 .ret)
 .skip))
 (.seq (.ops (.op (some 15) .any [0] (.mov (.tmp 0)) <|
 .op (some 16) .any [15] (.nilck (.tmp 15)) <|
 .op (some 17) .any [16] (.faddr 0 (.tmp 16)) <|
 .op (some 18) .bool [17] (.call 31 [(.tmp 17), (.con (V.str ⟨1, 44⟩))]) <|
 .op (some 19) .any [18] (.un .not (.tmp 18)) <|
 .nil))
 (.cond (.tmp 19) (.seq (.ops (.op (some 20) .any [0] (.mov (.tmp 0)) <|
 .op (some 21) .any [] (.buildSlice 9 1 [(V.str ⟨0, 0⟩)] [(0, 1, (.con (V.str ⟨2, 23901⟩)))]) <|
 .op (some 22) .bool [20, 21] (.call 16 [(.tmp 20), (.tmp 21)]) <|
 .op (some 8) .any [22] (.mov (.tmp 22)) <|
 .nil))
 .ret)
 .skip))))
def T63_1 (E : List (Nat × Blk)) (D : Den) (W : DrawFn) (R1 : Nat → Nat → V → Int → Int → H → Ans) (v0b : Nat) (v0o : Nat) (v1 : V) (v2 : Int) (v3 : Int) (σ : H) : Ans :=
 callK (D 57 [(V.ptr v0b v0o), v1, (V.int .i64 v2), (V.int .i64 v3)] σ) fun u1 s2 =>
 rtBool u1 fun x3 =>
 condK (not x3) (
 some ((V.bool false), s2)) (
 callK (D 31 [(V.ptr v0b v0o), (V.str (BS.mk 1 44))] s2) fun u4 s5 =>
 rtBool u4 fun x6 =>
 condK (not x6) (
 let s7 := newB s5 (.cells [(V.str (BS.mk 2 23901))]);
 callK (D 16 [(V.ptr v0b v0o), (V.sl (H.next s5) 0 1 (.ex 1))] s7) fun u8 s9 =>
 rtBool u8 fun x10 =>
 some ((V.bool x10), s9)) (
 R1 v0b v0o v1 v2 v3 s5))
theorem P63_0 (E : List (Nat × Blk)) (D : Den) (W : DrawFn) (N : Nat) (cc1 : XC) (v0b : Nat) (v0o : Nat) (v1 : V) (v2 : Int) (v3 : Int) (σ : H) :
  denC E D W N (C63_0 cc1) ⟨[(0, (V.ptr v0b v0o)), (1, v1), (2, (V.int .i64 v2)), (3, (V.int .i64 v3))], [], [], σ⟩ (Fin63 E) (fun _ _ => none) (Fin63 E) =
  T63_0 E D W (fun v0b v0o v1 v2 v3 σ => iterK (fun rec s' => denC E D W N cc1 s' (fun s'' => keepS [(0, .ptr), (1, .any), (2, (.int .i64)), (3, (.int .i64))] [] [] s'' rec) (blkK 0 (Fin63 E) (fun _ _ => none)) (Fin63 E)) N ⟨[(0, (V.ptr v0b v0o)), (1, v1), (2, (V.int .i64 v2)), (3, (V.int .i64 v3))], [], [], σ⟩) v0b v0o v1 v2 v3 σ := by kernel_rfl
theorem P63_1 (E : List (Nat × Blk)) (D : Den) (W : DrawFn) (N : Nat) (li1 : St → Ans) (v0b : Nat) (v0o : Nat) (v1 : V) (v2 : Int) (v3 : Int) (σ : H) :
  denC E D W N (C63_1 ) ⟨[(0, (V.ptr v0b v0o)), (1, v1), (2, (V.int .i64 v2)), (3, (V.int .i64 v3))], [], [], σ⟩ (fun s'' => keepS [(0, .ptr), (1, .any), (2, (.int .i64)), (3, (.int .i64))] [] [] s'' li1) (blkK 0 (Fin63 E) (fun _ _ => none)) (Fin63 E) =
  T63_1 E D W (fun v0b v0o v1 v2 v3 σ => li1 ⟨[(0, (V.ptr v0b v0o)), (1, v1), (2, (V.int .i64 v2)), (3, (V.int .i64 v3))], [], [], σ⟩) v0b v0o v1 v2 v3 σ := by kernel_rfl
def L63_1 (E : List (Nat × Blk)) (D : Den) (W : DrawFn) (N : Nat) (n : Nat) : Nat → Nat → V → Int → Int → H → Ans :=
  Nat.rec (fun _ _ _ _ _ _ => none) (fun _ ih => T63_1 E D W ih) n
theorem LE63_1 (E : List (Nat × Blk)) (D : Den) (W : DrawFn) (N : Nat) (n : Nat) : ∀ (v0b : Nat) (v0o : Nat) (v1 : V) (v2 : Int) (v3 : Int) (σ : H),
  iterK (fun rec s' => denC E D W N C63_1 s' (fun s'' => keepS [(0, .ptr), (1, .any), (2, (.int .i64)), (3, (.int .i64))] [] [] s'' rec) (blkK 0 (Fin63 E) (fun _ _ => none)) (Fin63 E)) n ⟨[(0, (V.ptr v0b v0o)), (1, v1), (2, (V.int .i64 v2)), (3, (V.int .i64 v3))], [], [], σ⟩ = L63_1 E D W N n v0b v0o v1 v2 v3 σ := by
  induction n with
  | zero => intro v0b v0o v1 v2 v3 σ; rfl
  | succ n ihn =>
    intro v0b v0o v1 v2 v3 σ
    rw [iterK_succ]
    refine (P63_1 E D W N  (iterK (fun rec s' => denC E D W N C63_1 s' (fun s'' => keepS [(0, .ptr), (1, .any), (2, (.int .i64)), (3, (.int .i64))] [] [] s'' rec) (blkK 0 (Fin63 E) (fun _ _ => none)) (Fin63 E)) n) v0b v0o v1 v2 v3 σ).trans ?_
    simp only [ihn]
    kernel_rfl
def J63_0 (E : List (Nat × Blk)) (D : Den) (W : DrawFn) (N : Nat) : Nat → Nat → V → Int → Int → H → Ans := T63_0 E D W (L63_1 E D W N N)
theorem JE63_0 (E : List (Nat × Blk)) (D : Den) (W : DrawFn) (N : Nat) (v0b : Nat) (v0o : Nat) (v1 : V) (v2 : Int) (v3 : Int) (σ : H) :
  denC E D W N (C63_0 C63_1) ⟨[(0, (V.ptr v0b v0o)), (1, v1), (2, (V.int .i64 v2)), (3, (V.int .i64 v3))], [], [], σ⟩ (Fin63 E) (fun _ _ => none) (Fin63 E) = J63_0 E D W N v0b v0o v1 v2 v3 σ := by
  refine (P63_0 E D W N C63_1  v0b v0o v1 v2 v3 σ).trans ?_
  simp only [LE63_1]
  kernel_rfl
def F63 (E : List (Nat × Blk)) (D : Den) (W : DrawFn) (N : Nat) (args : List V) (σ : H) : Ans :=
 rtCons args fun x1 l2 =>
 rtPtr x1 fun b3 o4 =>
 rtCons l2 fun x5 l6 =>
 rtCons l6 fun x7 l8 =>
 rtInt .i64 x7 fun x9 =>
 rtCons l8 fun x10 l11 =>
 rtInt .i64 x10 fun x12 =>
 rtNil l11 (
 J63_0 E D W N b3 o4 x5 x9 x12 σ)
def A63 : XFn := ⟨23, [.ptr, .any, (.int .i64), (.int .i64)], [(.tmp 8)], (C63_0 C63_1)⟩
theorem FE63 (E : List (Nat × Blk)) (D : Den) (W : DrawFn) (N : Nat) (args : List V) (σ : H) : runX E D W N A63 args σ = F63 E D W N args σ := by
  unfold F63
  simp only [← JE63_0]
  kernel_rfl
theorem AO63 : A63.body.ok = true := by kernel_rfl

/-! ### F64: __ogham_syntax.parser_.value -/
def Fin64 (E : List (Nat × Blk)) : St → Ans := fun s => resK E s [(.cell 2 (some 6)), (.tmp 3)] fun l => some (oneV l, s.σ)
def C64_0 (cc1 : XC) : XC := (.seq (.ops (.pal 2 [] 120 [(V.int .i64 (Int.ofNat 0)), (V.int .i64 (Int.ofNat 0)), V.nils, V.nils, (V.int .i64 (Int.ofNat 0)), V.nils] <|
 .op (some 3) .any [] (.mov (.con (V.bool false))) <|
 .nil))
 (.seq (.ops (.op (some 9) .any [0] (.mov (.tmp 0)) <|
 .op (some 10) .any [9] (.nilck (.tmp 9)) <|
 .op (some 11) .any [10] (.faddr 0 (.tmp 10)) <|
 .op (some 12) (.agg [(.int .i64), .str, (.int .i64)]) [11] (.call 18 [(.tmp 11)]) <|
 .pal 4 [] 64 [(V.int .i64 (Int.ofNat 0)), (V.str ⟨0, 0⟩), (V.int .i64 (Int.ofNat 0))] <|
 .op none (.agg [(.int .i64), .str, (.int .i64)]) [4, 12] (.store 3 (.tmp 4) (.tmp 12)) <|
 .nil))
 (.seq (.block 0 (.seq (.ops (.op (some 14) .any [0] (.mov (.tmp 0)) <|
 .op (some 15) .any [14] (.nilck (.tmp 14)) <|
 .op (some 16) .any [15] (.faddr 0 (.tmp 15)) <|
 .op (some 17) .bool [16] (.call 31 [(.tmp 16), (.con (V.str ⟨4, 1163219540⟩))]) <|
 .op (some 13) .any [17] (.mov (.tmp 17)) <|
 .nil))
 (.cond (.tmp 13) (.seq (.ops (.op (some 18) (.agg [(.int .i64), (.int .i64), .any, .any, (.int .i64), .any]) [] (.build [(V.int .i64 (Int.ofNat 0)), (V.int .i64 (Int.ofNat 0)), V.nils, V.nils, (V.int .i64 (Int.ofNat 0)), V.nils] [(0, 1, (.con (V.int .i64 (Int.ofNat 1)))), (1, 1, (.con (V.int .i64 (Int.ofNat 1))))]) <|
 .op none (.agg [(.int .i64), (.int .i64), .any, .any, (.int .i64), .any]) [2, 18] (.store 6 (.tmp 2) (.tmp 18)) <|
 .op (some 3) .any [] (.mov (.con (V.bool true))) <|
 .nil))
 .ret)
 (.seq (.ops (.op (some 20) .any [0] (.mov (.tmp 0)) <|
 .op (some 21) .any [20] (.nilck (.tmp 20)) <|
 .op (some 22) .any [21] (.faddr 0 (.tmp 21)) <|
 .op (some 23) .bool [22] (.call 31 [(.tmp 22), (.con (V.str ⟨5, 297750249798⟩))]) <|
 .op (some 19) .any [23] (.mov (.tmp 23)) <|
 .nil))
 (.cond (.tmp 19) (.seq (.ops (.op (some 24) (.agg [(.int .i64), (.int .i64), .any, .any, (.int .i64), .any]) [] (.build [(V.int .i64 (Int.ofNat 0)), (V.int .i64 (Int.ofNat 0)), V.nils, V.nils, (V.int .i64 (Int.ofNat 0)), V.nils] [(0, 1, (.con (V.int .i64 (Int.ofNat 1))))]) <|
 .op none (.agg [(.int .i64), (.int .i64), .any, .any, (.int .i64), .any]) [2, 24] (.store 6 (.tmp 2) (.tmp 24)) <|
 .op (some 3) .any [] (.mov (.con (V.bool true))) <|
 .nil))
 .ret)
 (.seq (.ops (.op (some 26) .any [0] (.mov (.tmp 0)) <|
 .op (some 27) .any [26] (.nilck (.tmp 26)) <|
 .op (some 28) .any [27] (.faddr 0 (.tmp 27)) <|
 .op (some 29) .bool [28] (.call 31 [(.tmp 28), (.con (V.str ⟨4, 1280070990⟩))]) <|
 .op (some 25) .any [29] (.mov (.tmp 29)) <|
 .nil))
 (.cond (.tmp 25) (.seq (.ops (.op (some 30) (.agg [(.int .i64), (.int .i64), .any, .any, (.int .i64), .any]) [] (.build [(V.int .i64 (Int.ofNat 0)), (V.int .i64 (Int.ofNat 0)), V.nils, V.nils, (V.int .i64 (Int.ofNat 0)), V.nils] [(0, 1, (.con (V.int .i64 (Int.ofNat 4))))]) <|
 .op none (.agg [(.int .i64), (.int .i64), .any, .any, (.int .i64), .any]) [2, 30] (.store 6 (.tmp 2) (.tmp 30)) <|
 .op (some 3) .any [] (.mov (.con (V.bool true))) <|
 .nil))
 .ret)
 .skip)))))))
 (.seq (.ops (.op (some 31) .any [4] (.faddr 1 (.tmp 4)) <|
 .op (some 32) .str [31] (.load none (.tmp 31)) <|
 .op (some 33) .any [32] (.conv (.toBytes 5) (.tmp 32)) <|
 .op (some 34) (.agg [(.int .i64), (.int .i64), .any, .any, (.int .i64), .any]) [33] (.build [(V.int .i64 (Int.ofNat 0)), (V.int .i64 (Int.ofNat 0)), V.nils, V.nils, (V.int .i64 (Int.ofNat 0)), V.nils] [(2, 1, (.tmp 33))]) <|
 .pal 5 [] 120 [(V.int .i64 (Int.ofNat 0)), (V.int .i64 (Int.ofNat 0)), V.nils, V.nils, (V.int .i64 (Int.ofNat 0)), V.nils] <|
 .op none (.agg [(.int .i64), (.int .i64), .any, .any, (.int .i64), .any]) [5, 34] (.store 6 (.tmp 5) (.tmp 34)) <|
 .nil))
 (.seq (.seq (.ops (.op (some 35) .any [4] (.faddr 0 (.tmp 4)) <|
 .op (some 36) (.int .i64) [35] (.load none (.tmp 35)) <|
 .nil))
 (.block 1 (.seq (.ops (.op (some 43) .any [36] (.bin .eql .none (.tmp 36) (.con (V.int .i64 (Int.ofNat 3)))) <|
 .op (some 42) .any [43] (.mov (.tmp 43)) <|
 .nil))
 (.cond (.tmp 42) (.seq (.ops (.op (some 45) .any [0] (.mov (.tmp 0)) <|
 .op (some 46) (.tup [(.int .i64), (.agg [(.int .i64), .str, (.int .i64)]), .bool]) [45] (.call 54 [(.tmp 45)]) <|
 .op (some 44) .any [46] (.mov (.tmp 46)) <|
 .op (some 47) .any [44] (.extract 0 (.tmp 44)) <|
 .op (some 48) .any [44] (.extract 1 (.tmp 44)) <|
 .op (some 49) .any [44] (.extract 2 (.tmp 44)) <|
 .pal 7 [] 64 [(V.int .i64 (Int.ofNat 0)), (V.str ⟨0, 0⟩), (V.int .i64 (Int.ofNat 0))] <|
 .op (some 6) .any [47] (.mov (.tmp 47)) <|
 .op none (.agg [(.int .i64), .str, (.int .i64)]) [7, 48] (.store 3 (.tmp 7) (.tmp 48)) <|
 .op (some 8) .any [49] (.mov (.tmp 49)) <|
 .nil))
 (.seq (.ops (.op (some 50) .any [6] (.mov (.tmp 6)) <|
 .op (some 51) (.agg [(.int .i64), (.int .i64), .any, .any, (.int .i64), .any]) [50] (.build [(V.int .i64 (Int.ofNat 0)), (V.int .i64 (Int.ofNat 0)), V.nils, V.nils, (V.int .i64 (Int.ofNat 0)), V.nils] [(0, 1, (.con (V.int .i64 (Int.ofNat 2)))), (1, 1, (.tmp 50))]) <|
 .op none (.agg [(.int .i64), (.int .i64), .any, .any, (.int .i64), .any]) [2, 51] (.store 6 (.tmp 2) (.tmp 51)) <|
 .op (some 3) .any [] (.mov (.con (V.bool true))) <|
 .nil))
 .ret))
 (.seq (.ops (.op (some 53) .any [36] (.bin .eql .none (.tmp 36) (.con (V.int .i64 (Int.ofNat 2)))) <|
 .op (some 52) .any [53] (.mov (.tmp 53)) <|
 .nil))
 (.cond (.tmp 52) (.ops (.op (some 54) .any [5] (.faddr 0 (.tmp 5)) <|
 .op none .any [54] (.store 1 (.tmp 54) (.con (V.int .i64 (Int.ofNat 3)))) <|
 .nil))
 (.seq (.ops (.op (some 56) .any [36] (.bin .eql .none (.tmp 36) (.con (V.int .i64 (Int.ofNat 7)))) <|
 .op (some 55) .any [56] (.mov (.tmp 56)) <|
 .nil))
 (.cond (.tmp 55) (.ops (.op (some 57) .any [5] (.faddr 0 (.tmp 5)) <|
 .op none .any [57] (.store 1 (.tmp 57) (.con (V.int .i64 (Int.ofNat 6)))) <|
 .nil))
 (.seq (.ops (.op (some 59) .any [36] (.bin .eql .none (.tmp 36) (.con (V.int .i64 (Int.ofNat 4)))) <|
 .op (some 58) .any [59] (.mov (.tmp 59)) <|
 .nil))
 (.cond (.tmp 58) (.ops (.op (some 60) .any [4] (.faddr 1 (.tmp 4)) <|
 .op (some 61) .str [60] (.load none (.tmp 60)) <|
 .op (some 62) .one [61] (.call 66 [(.tmp 61)]) <|
 .op (some 63) .any [5] (.faddr 0 (.tmp 5)) <|
 .op none .any [63] (.store 1 (.tmp 63) (.con (V.int .i64 (Int.ofNat 5)))) <|
 .op (some 64) .any [5] (.faddr 2 (.tmp 5)) <|
 .op none .any [64, 62] (.store 1 (.tmp 64) (.tmp 62)) <|
 .nil))
 (.seq (.ops (.op (some 37) (.agg [(.int .i64), (.int .i64), .any, .any, (.int .i64), .any]) [] (.build [(V.int .i64 (Int.ofNat 0)), (V.int .i64 (Int.ofNat 0)), V.nils, V.nils, (V.int .i64 (Int.ofNat 0)), V.nils] []) <|
 .op (some 38) .any [0] (.mov (.tmp 0)) <|
 .op (some 39) .any [4] (.faddr 2 (.tmp 4)) <|
 .op (some 40) (.int .i64) [39] (.load none (.tmp 39)) <|
 .op (some 41) .bool [38, 40] (.call 29 [(.tmp 38), (.tmp 40), (.con (V.int .i64 (Int.ofNat 7)))]) <|
 .op none (.agg [(.int .i64), (.int .i64), .any, .any, (.int .i64), .any]) [2, 37] (.store 6 (.tmp 2) (.tmp 37)) <|
 .op (some 3) .any [41] (.mov (.tmp 41)) <|
 .nil))
 .ret)))))))))))
 (.keep [(0, .ptr)] [2, 5] [(2, [(.int .i64), (.int .i64), .any, .any, (.int .i64), .any]), (5, [(.int .i64), (.int .i64), .any, .any, (.int .i64), .any])] cc1))))))
def T64_0 (E : List (Nat × Blk)) (D : Den) (W : DrawFn) (K1 : Nat → Nat → Int → Int → V → V → Int → V → Int → Int → V → V → Int → V → H → Ans) (v0b : Nat) (v0o : Nat) (σ : H) : Ans :=
 callK (D 18 [(V.ptr v0b v0o)] σ) fun u1 s2 =>
 rtAgg u1 fun l3 =>
 rtCons l3 fun x4 l5 =>
 rtInt .i64 x4 fun x6 =>
 rtCons l5 fun x7 l8 =>
 rtStr x7 fun x9 =>
 rtCons l8 fun x10 l11 =>
 rtInt .i64 x10 fun x12 =>
 rtNil l11 (
 callK (D 31 [(V.ptr v0b v0o), (V.str (BS.mk 4 1163219540))] s2) fun u13 s14 =>
 rtBool u13 fun x15 =>
 condK x15 (
 some ((V.tup [(V.agg [(V.int .i64 (Int.ofNat 1)), (V.int .i64 (Int.ofNat 1)), V.nils, V.nils, (V.int .i64 (Int.ofNat 0)), V.nils]), (V.bool true)]), s14)) (
 callK (D 31 [(V.ptr v0b v0o), (V.str (BS.mk 5 297750249798))] s14) fun u16 s17 =>
 rtBool u16 fun x18 =>
 condK x18 (
 some ((V.tup [(V.agg [(V.int .i64 (Int.ofNat 1)), (V.int .i64 (Int.ofNat 0)), V.nils, V.nils, (V.int .i64 (Int.ofNat 0)), V.nils]), (V.bool true)]), s17)) (
 callK (D 31 [(V.ptr v0b v0o), (V.str (BS.mk 4 1280070990))] s17) fun u19 s20 =>
 rtBool u19 fun x21 =>
 condK x21 (
 some ((V.tup [(V.agg [(V.int .i64 (Int.ofNat 4)), (V.int .i64 (Int.ofNat 0)), V.nils, V.nils, (V.int .i64 (Int.ofNat 0)), V.nils]), (V.bool true)]), s20)) (
 chk (Nat.ble (BS.len x9) 1000000000000) (
 let s22 := newB s20 (.cells (ints (BS.toList x9)));
 condK (eqF x6 (Int.ofNat 3)) (
 callK (D 54 [(V.ptr v0b v0o)] s22) fun u23 s24 =>
 rtTup u23 fun l25 =>
 rtCons l25 fun x26 l27 =>
 rtInt .i64 x26 fun x28 =>
 rtCons l27 fun x29 l30 =>
 rtAgg x29 fun l31 =>
 rtCons l31 fun x32 l33 =>
 rtInt .i64 x32 fun x34 =>
 rtCons l33 fun x35 l36 =>
 rtStr x35 fun x37 =>
 rtCons l36 fun x38 l39 =>
 rtInt .i64 x38 fun x40 =>
 rtNil l39 (
 rtCons l30 fun x41 l42 =>
 rtBool x41 fun x43 =>
 rtNil l42 (
 some ((V.tup [(V.agg [(V.int .i64 (Int.ofNat 2)), (V.int .i64 x28), V.nils, V.nils, (V.int .i64 (Int.ofNat 0)), V.nils]), (V.bool true)]), s24)))) (
 condK (eqF x6 (Int.ofNat 2)) (
 K1 v0b v0o (Int.ofNat 0) (Int.ofNat 0) V.nils V.nils (Int.ofNat 0) V.nils (Int.ofNat 3) (Int.ofNat 0) (V.sl (H.next s20) 0 (BS.len x9) (.op 1)) V.nils (Int.ofNat 0) V.nils s22) (
 condK (eqF x6 (Int.ofNat 7)) (
 K1 v0b v0o (Int.ofNat 0) (Int.ofNat 0) V.nils V.nils (Int.ofNat 0) V.nils (Int.ofNat 6) (Int.ofNat 0) (V.sl (H.next s20) 0 (BS.len x9) (.op 1)) V.nils (Int.ofNat 0) V.nils s22) (
 condK (eqF x6 (Int.ofNat 4)) (
 callK (D 66 [(V.str x9)] s22) fun u44 s45 =>
 rtOne u44 (
 rtOne u44 (
 K1 v0b v0o (Int.ofNat 0) (Int.ofNat 0) V.nils V.nils (Int.ofNat 0) V.nils (Int.ofNat 5) (Int.ofNat 0) u44 V.nils (Int.ofNat 0) V.nils s45))) (
 callK (D 29 [(V.ptr v0b v0o), (V.int .i64 x12), (V.int .i64 (Int.ofNat 7))] s22) fun u46 s47 =>
 rtBool u46 fun x48 =>
 some ((V.tup [(V.agg [(V.int .i64 (Int.ofNat 0)), (V.int .i64 (Int.ofNat 0)), V.nils, V.nils, (V.int .i64 (Int.ofNat 0)), V.nils]), (V.bool x48)]), s47))))))))))
def C64_1 : XC := (.seq (.ops (.op (some 65) .any [0] (.mov (.tmp 0)) <|
 .op (some 66) .any [65] (.nilck (.tmp 65)) <|
 .op (some 67) .any [66] (.faddr 0 (.tmp 66)) <|
 .op (some 68) (.agg [(.int .i64), .str, (.int .i64)]) [67] (.call 30 [(.tmp 67)]) <|
 .nil))
 (.seq (.ops (.op (some 69) (.agg [(.int .i64), (.int .i64), .any, .any, (.int .i64), .any]) [5] (.load (some 6) (.tmp 5)) <|
 .op none (.agg [(.int .i64), (.int .i64), .any, .any, (.int .i64), .any]) [2, 69] (.store 6 (.tmp 2) (.tmp 69)) <|
 .op (some 3) .any [] (.mov (.con (V.bool true))) <|
 .nil))
 .ret))
def T64_1 (E : List (Nat × Blk)) (D : Den) (W : DrawFn) (v0b : Nat) (v0o : Nat) (r2_0 : Int) (r2_1 : Int) (r2_2 : V) (r2_3 : V) (r2_4 : Int) (r2_5 : V) (r5_0 : Int) (r5_1 : Int) (r5_2 : V) (r5_3 : V) (r5_4 : Int) (r5_5 : V) (σ : H) : Ans :=
 callK (D 30 [(V.ptr v0b v0o)] σ) fun u1 s2 =>
 rtAgg u1 fun l3 =>
 rtCons l3 fun x4 l5 =>
 rtInt .i64 x4 fun x6 =>
 rtCons l5 fun x7 l8 =>
 rtStr x7 fun x9 =>
 rtCons l8 fun x10 l11 =>
 rtInt .i64 x10 fun x12 =>
 rtNil l11 (
 chk (allOne [(V.int .i64 r5_0), (V.int .i64 r5_1), r5_2, r5_3, (V.int .i64 r5_4), r5_5]) (
 some ((V.tup [(V.agg [(V.int .i64 r5_0), (V.int .i64 r5_1), r5_2, r5_3, (V.int .i64 r5_4), r5_5]), (V.bool true)]), s2)))
theorem P64_0 (E : List (Nat × Blk)) (D : Den) (W : DrawFn) (N : Nat) (cc1 : XC) (v0b : Nat) (v0o : Nat) (σ : H) :
  denC E D W N (C64_0 cc1) ⟨[(0, (V.ptr v0b v0o))], [], [], σ⟩ (Fin64 E) (fun _ _ => none) (Fin64 E) =
  T64_0 E D W (fun v0b v0o r2_0 r2_1 r2_2 r2_3 r2_4 r2_5 r5_0 r5_1 r5_2 r5_3 r5_4 r5_5 σ => denC E D W N cc1 ⟨[(0, (V.ptr v0b v0o))], [(2, (2, 0)), (5, (5, 0))], [(2, [(V.int .i64 r2_0), (V.int .i64 r2_1), r2_2, r2_3, (V.int .i64 r2_4), r2_5]), (5, [(V.int .i64 r5_0), (V.int .i64 r5_1), r5_2, r5_3, (V.int .i64 r5_4), r5_5])], σ⟩ (Fin64 E) (fun _ _ => none) (Fin64 E)) v0b v0o σ := by kernel_rfl
theorem P64_1 (E : List (Nat × Blk)) (D : Den) (W : DrawFn) (N : Nat) (v0b : Nat) (v0o : Nat) (r2_0 : Int) (r2_1 : Int) (r2_2 : V) (r2_3 : V) (r2_4 : Int) (r2_5 : V) (r5_0 : Int) (r5_1 : Int) (r5_2 : V) (r5_3 : V) (r5_4 : Int) (r5_5 : V) (σ : H) :
  denC E D W N (C64_1 ) ⟨[(0, (V.ptr v0b v0o))], [(2, (2, 0)), (5, (5, 0))], [(2, [(V.int .i64 r2_0), (V.int .i64 r2_1), r2_2, r2_3, (V.int .i64 r2_4), r2_5]), (5, [(V.int .i64 r5_0), (V.int .i64 r5_1), r5_2, r5_3, (V.int .i64 r5_4), r5_5])], σ⟩ (Fin64 E) (fun _ _ => none) (Fin64 E) =
  T64_1 E D W  v0b v0o r2_0 r2_1 r2_2 r2_3 r2_4 r2_5 r5_0 r5_1 r5_2 r5_3 r5_4 r5_5 σ := by kernel_rfl
def J64_1 (E : List (Nat × Blk)) (D : Den) (W : DrawFn) (N : Nat) : Nat → Nat → Int → Int → V → V → Int → V → Int → Int → V → V → Int → V → H → Ans := T64_1 E D W 
theorem JE64_1 (E : List (Nat × Blk)) (D : Den) (W : DrawFn) (N : Nat) (v0b : Nat) (v0o : Nat) (r2_0 : Int) (r2_1 : Int) (r2_2 : V) (r2_3 : V) (r2_4 : Int) (r2_5 : V) (r5_0 : Int) (r5_1 : Int) (r5_2 : V) (r5_3 : V) (r5_4 : Int) (r5_5 : V) (σ : H) :
  denC E D W N C64_1 ⟨[(0, (V.ptr v0b v0o))], [(2, (2, 0)), (5, (5, 0))], [(2, [(V.int .i64 r2_0), (V.int .i64 r2_1), r2_2, r2_3, (V.int .i64 r2_4), r2_5]), (5, [(V.int .i64 r5_0), (V.int .i64 r5_1), r5_2, r5_3, (V.int .i64 r5_4), r5_5])], σ⟩ (Fin64 E) (fun _ _ => none) (Fin64 E) = J64_1 E D W N v0b v0o r2_0 r2_1 r2_2 r2_3 r2_4 r2_5 r5_0 r5_1 r5_2 r5_3 r5_4 r5_5 σ := by
  refine (P64_1 E D W N   v0b v0o r2_0 r2_1 r2_2 r2_3 r2_4 r2_5 r5_0 r5_1 r5_2 r5_3 r5_4 r5_5 σ).trans ?_
  kernel_rfl
def J64_0 (E : List (Nat × Blk)) (D : Den) (W : DrawFn) (N : Nat) : Nat → Nat → H → Ans := T64_0 E D W (J64_1 E D W N )
theorem JE64_0 (E : List (Nat × Blk)) (D : Den) (W : DrawFn) (N : Nat) (v0b : Nat) (v0o : Nat) (σ : H) :
  denC E D W N (C64_0 C64_1) ⟨[(0, (V.ptr v0b v0o))], [], [], σ⟩ (Fin64 E) (fun _ _ => none) (Fin64 E) = J64_0 E D W N v0b v0o σ := by
  refine (P64_0 E D W N C64_1  v0b v0o σ).trans ?_
  simp only [JE64_1]
  kernel_rfl
def F64 (E : List (Nat × Blk)) (D : Den) (W : DrawFn) (N : Nat) (args : List V) (σ : H) : Ans :=
 rtCons args fun x1 l2 =>
 rtPtr x1 fun b3 o4 =>
 rtNil l2 (
 J64_0 E D W N b3 o4 σ)
def A64 : XFn := ⟨70, [.ptr], [(.cell 2 (some 6)), (.tmp 3)], (C64_0 C64_1)⟩
theorem FE64 (E : List (Nat × Blk)) (D : Den) (W : DrawFn) (N : Nat) (args : List V) (σ : H) : runX E D W N A64 args σ = F64 E D W N args σ := by
  unfold F64
  simp only [← JE64_0]
  kernel_rfl
theorem AO64 : A64.body.ok = true := by kernel_rfl

/-! ### F65: internal_strconv.Itoa -/
def Fin65 (E : List (Nat × Blk)) : St → Ans := fun s => resK E s [(.tmp 2)] fun l => some (oneV l, s.σ)
def C65_0 : XC := (.seq (.ops (.op (some 2) .any [] (.mov (.con (V.str ⟨0, 0⟩))) <|
 .nil))
 (.seq (.ops (.op (some 3) .any [0] (.mov (.tmp 0)) <|
 .op (some 4) .str [3] (.call 67 [(.tmp 3), (.con (V.int .i64 (Int.ofNat 10)))]) <|
 .op (some 2) .any [4] (.mov (.tmp 4)) <|
 .nil))
 .ret))
def T65_0 (E : List (Nat × Blk)) (D : Den) (W : DrawFn) (v0 : Int) (σ : H) : Ans :=
 callK (D 67 [(V.int .i64 v0), (V.int .i64 (Int.ofNat 10))] σ) fun u1 s2 =>
 rtStr u1 fun x3 =>
 some ((V.str x3), s2)
theorem P65_0 (E : List (Nat × Blk)) (D : Den) (W : DrawFn) (N : Nat) (v0 : Int) (σ : H) :
  denC E D W N (C65_0 ) ⟨[(0, (V.int .i64 v0))], [], [], σ⟩ (Fin65 E) (fun _ _ => none) (Fin65 E) =
  T65_0 E D W  v0 σ := by kernel_rfl
def J65_0 (E : List (Nat × Blk)) (D : Den) (W : DrawFn) (N : Nat) : Int → H → Ans := T65_0 E D W 
theorem JE65_0 (E : List (Nat × Blk)) (D : Den) (W : DrawFn) (N : Nat) (v0 : Int) (σ : H) :
  denC E D W N C65_0 ⟨[(0, (V.int .i64 v0))], [], [], σ⟩ (Fin65 E) (fun _ _ => none) (Fin65 E) = J65_0 E D W N v0 σ := by
  refine (P65_0 E D W N   v0 σ).trans ?_
  kernel_rfl
def F65 (E : List (Nat × Blk)) (D : Den) (W : DrawFn) (N : Nat) (args : List V) (σ : H) : Ans :=
 rtCons args fun x1 l2 =>
 rtInt .i64 x1 fun x3 =>
 rtNil l2 (
 J65_0 E D W N x3 σ)
def A65 : XFn := ⟨5, [(.int .i64)], [(.tmp 2)], C65_0⟩
theorem FE65 (E : List (Nat × Blk)) (D : Den) (W : DrawFn) (N : Nat) (args : List V) (σ : H) : runX E D W N A65 args σ = F65 E D W N args σ := by
  unfold F65
  simp only [← JE65_0]
  kernel_rfl
theorem AO65 : A65.body.ok = true := by kernel_rfl

/-! ### F66: ogham_syntax.octets -/
def Fin66 (E : List (Nat × Blk)) : St → Ans := fun s => resK E s [(.tmp 2)] fun l => some (oneV l, s.σ)
def C66_0 (cc1 : XC) (cc2 : XC) : XC := (.seq (.ops (.op (some 2) .any [] (.mov (.con V.nils)) <|
 .nil))
 (.seq (.ops (.op (some 3) .any [] (.mov (.con V.nils)) <|
 .nil))
 (.seq (.seq (.ops (.op (some 4) .any [] (.mov (.con (V.int .i64 (Int.ofNat 0)))) <|
 .nil))
 (.block 0 (.loop [(0, .str), (3, .any), (4, (.int .i64))] [] [] cc2)))
 (.keep [(3, .any)] [] [] cc1))))
def T66_0 (E : List (Nat × Blk)) (D : Den) (W : DrawFn) (K2 : BS → V → Int → H → Ans) (v0 : BS) (σ : H) : Ans :=
 K2 v0 V.nils (Int.ofNat 0) σ
def C66_1 : XC := (.seq (.ops (.op (some 28) .any [3] (.mov (.tmp 3)) <|
 .op (some 2) .any [28] (.mov (.tmp 28)) <|
 .nil))
 .ret)
def T66_1 (E : List (Nat × Blk)) (D : Den) (W : DrawFn) (v3 : V) (σ : H) : Ans :=
 some (v3, σ)
def C66_2 : XC := (.seq (.seq (.ops (.op (some 7) .any [4] (.mov (.tmp 4)) <|
 .op (some 8) .any [7] (.bin .add .none (.tmp 7) (.con (V.int .i64 (Int.ofNat 1)))) <|
 .op (some 9) .any [0] (.mov (.tmp 0)) <|
 .op (some 10) .any [9] (.len true (.tmp 9)) <|
 .op (some 11) .any [8, 10] (.bin .lss .none (.tmp 8) (.tmp 10)) <|
 .nil))
 (.cond (.tmp 11) .skip
 (.exit 0)))
 (.seq (.block 1 (.seq (.ops (.op (some 15) .any [0] (.mov (.tmp 0)) <|
 .op (some 16) .any [4] (.mov (.tmp 4)) <|
 .op (some 17) .any [4] (.mov (.tmp 4)) <|
 .op (some 18) .any [17] (.bin .add .none (.tmp 17) (.con (V.int .i64 (Int.ofNat 2)))) <|
 .op (some 19) .any [15, 16, 18] (.sliceStr (.tmp 15) (some (.tmp 16)) (some (.tmp 18))) <|
 .op (some 20) (.tup [(.int .u64), .any]) [19] (.call 68 [(.tmp 19), (.con (V.int .i64 (Int.ofNat 16))), (.con (V.int .i64 (Int.ofNat 8)))]) <|
 .op (some 14) .any [20] (.mov (.tmp 20)) <|
 .op (some 21) .any [14] (.extract 0 (.tmp 14)) <|
 .op (some 22) .any [14] (.extract 1 (.tmp 14)) <|
 .op (some 5) .any [21] (.mov (.tmp 21)) <|
 .op (some 6) .any [22] (.mov (.tmp 22)) <|
 .nil))
 (.ops (.op (some 23) .any [3] (.mov (.tmp 3)) <|
 .op (some 24) .any [5] (.mov (.tmp 5)) <|
 .op (some 25) .any [24] (.conv (.toInt .u8) (.tmp 24)) <|
 .op (some 26) .any [25] (.buildSlice 5 1 [(V.int .u8 (Int.ofNat 0))] [(0, 1, (.tmp 25))]) <|
 .op (some 27) .one [23, 26] (.append 5 1 1 (.tmp 23) (.tmp 26)) <|
 .op (some 3) .any [27] (.mov (.tmp 27)) <|
 .nil))))
 (.ops (.op (some 12) .any [4] (.mov (.tmp 4)) <|
 .op (some 13) .any [12] (.bin .add .none (.tmp 12) (.con (V.int .i64 (Int.ofNat 2)))) <|
 .op (some 4) .any [13] (.mov (.tmp 13)) <|
 .nil))))
def T66_2 (E : List (Nat × Blk)) (D : Den) (W : DrawFn) (K1 : V → H → Ans) (R2 : BS → V → Int → H → Ans) (v0 : BS) (v3 : V) (v4 : Int) (σ : H) : Ans :=
 condK (ltF (addF .i64 v4 (Int.ofNat 1)) (Int.ofNat (BS.len v0))) (
 sliceStrX v0 (some (V.int .i64 v4)) (some (V.int .i64 (addF .i64 v4 (Int.ofNat 2)))) fun t1 =>
 callK (D 68 [(V.str t1), (V.int .i64 (Int.ofNat 16)), (V.int .i64 (Int.ofNat 8))] σ) fun u2 s3 =>
 rtTup u2 fun l4 =>
 rtCons l4 fun x5 l6 =>
 rtInt .u64 x5 fun x7 =>
 rtCons l6 fun x8 l9 =>
 rtNil l9 (
 let s10 := newB s3 (.cells [(V.int .u8 (wrapF .u8 x7))]);
 appK E 1 1 v3 (V.sl (H.next s3) 0 1 (.ex 1)) s10 fun u11 s12 =>
 rtOne u11 (
 R2 v0 u11 (addF .i64 v4 (Int.ofNat 2)) s12))) (
 K1 v3 σ)
theorem P66_0 (E : List (Nat × Blk)) (D : Den) (W : DrawFn) (N : Nat) (cc1 : XC) (cc2 : XC) (v0 : BS) (σ : H) :
  denC E D W N (C66_0 cc1 cc2) ⟨[(0, (V.str v0))], [], [], σ⟩ (Fin66 E) (fun _ _ => none) (Fin66 E) =
  T66_0 E D W (fun v0 v3 v4 σ => iterK (fun rec s' => denC E D W N cc2 s' (fun s'' => keepS [(0, .str), (3, .any), (4, (.int .i64))] [] [] s'' rec) (blkK 0 (fun s' => denC E D W N (.keep [(3, .any)] [] [] cc1) s' (Fin66 E) (fun _ _ => none) (Fin66 E)) (fun _ _ => none)) (Fin66 E)) N ⟨[(0, (V.str v0)), (3, v3), (4, (V.int .i64 v4))], [], [], σ⟩) v0 σ := by kernel_rfl
theorem P66_1 (E : List (Nat × Blk)) (D : Den) (W : DrawFn) (N : Nat) (v3 : V) (σ : H) :
  denC E D W N (C66_1 ) ⟨[(3, v3)], [], [], σ⟩ (Fin66 E) (fun _ _ => none) (Fin66 E) =
  T66_1 E D W  v3 σ := by kernel_rfl
theorem P66_2 (E : List (Nat × Blk)) (D : Den) (W : DrawFn) (N : Nat) (cc1 : XC) (li2 : St → Ans) (v0 : BS) (v3 : V) (v4 : Int) (σ : H) :
  denC E D W N (C66_2 ) ⟨[(0, (V.str v0)), (3, v3), (4, (V.int .i64 v4))], [], [], σ⟩ (fun s'' => keepS [(0, .str), (3, .any), (4, (.int .i64))] [] [] s'' li2) (blkK 0 (fun s' => denC E D W N (.keep [(3, .any)] [] [] cc1) s' (Fin66 E) (fun _ _ => none) (Fin66 E)) (fun _ _ => none)) (Fin66 E) =
  T66_2 E D W (fun v3 σ => denC E D W N cc1 ⟨[(3, v3)], [], [], σ⟩ (Fin66 E) (fun _ _ => none) (Fin66 E)) (fun v0 v3 v4 σ => li2 ⟨[(0, (V.str v0)), (3, v3), (4, (V.int .i64 v4))], [], [], σ⟩) v0 v3 v4 σ := by kernel_rfl
def J66_1 (E : List (Nat × Blk)) (D : Den) (W : DrawFn) (N : Nat) : V → H → Ans := T66_1 E D W 
theorem JE66_1 (E : List (Nat × Blk)) (D : Den) (W : DrawFn) (N : Nat) (v3 : V) (σ : H) :
  denC E D W N C66_1 ⟨[(3, v3)], [], [], σ⟩ (Fin66 E) (fun _ _ => none) (Fin66 E) = J66_1 E D W N v3 σ := by
  refine (P66_1 E D W N   v3 σ).trans ?_
  kernel_rfl
def L66_2 (E : List (Nat × Blk)) (D : Den) (W : DrawFn) (N : Nat) (n : Nat) : BS → V → Int → H → Ans :=
  Nat.rec (fun _ _ _ _ => none) (fun _ ih => T66_2 E D W (J66_1 E D W N ) ih) n
theorem LE66_2 (E : List (Nat × Blk)) (D : Den) (W : DrawFn) (N : Nat) (n : Nat) : ∀ (v0 : BS) (v3 : V) (v4 : Int) (σ : H),
  iterK (fun rec s' => denC E D W N C66_2 s' (fun s'' => keepS [(0, .str), (3, .any), (4, (.int .i64))] [] [] s'' rec) (blkK 0 (fun s' => denC E D W N (.keep [(3, .any)] [] [] C66_1) s' (Fin66 E) (fun _ _ => none) (Fin66 E)) (fun _ _ => none)) (Fin66 E)) n ⟨[(0, (V.str v0)), (3, v3), (4, (V.int .i64 v4))], [], [], σ⟩ = L66_2 E D W N n v0 v3 v4 σ := by
  induction n with
  | zero => intro v0 v3 v4 σ; rfl
  | succ n ihn =>
    intro v0 v3 v4 σ
    rw [iterK_succ]
    refine (P66_2 E D W N C66_1 (iterK (fun rec s' => denC E D W N C66_2 s' (fun s'' => keepS [(0, .str), (3, .any), (4, (.int .i64))] [] [] s'' rec) (blkK 0 (fun s' => denC E D W N (.keep [(3, .any)] [] [] C66_1) s' (Fin66 E) (fun _ _ => none) (Fin66 E)) (fun _ _ => none)) (Fin66 E)) n) v0 v3 v4 σ).trans ?_
    simp only [ihn, JE66_1]
    kernel_rfl
def J66_0 (E : List (Nat × Blk)) (D : Den) (W : DrawFn) (N : Nat) : BS → H → Ans := T66_0 E D W (L66_2 E D W N N)
theorem JE66_0 (E : List (Nat × Blk)) (D : Den) (W : DrawFn) (N : Nat) (v0 : BS) (σ : H) :
  denC E D W N (C66_0 C66_1 C66_2) ⟨[(0, (V.str v0))], [], [], σ⟩ (Fin66 E) (fun _ _ => none) (Fin66 E) = J66_0 E D W N v0 σ := by
  refine (P66_0 E D W N C66_1 C66_2  v0 σ).trans ?_
  simp only [LE66_2]
  kernel_rfl
def F66 (E : List (Nat × Blk)) (D : Den) (W : DrawFn) (N : Nat) (args : List V) (σ : H) : Ans :=
 rtCons args fun x1 l2 =>
 rtStr x1 fun x3 =>
 rtNil l2 (
 J66_0 E D W N x3 σ)
def A66 : XFn := ⟨29, [.str], [(.tmp 2)], (C66_0 C66_1 C66_2)⟩
theorem FE66 (E : List (Nat × Blk)) (D : Den) (W : DrawFn) (N : Nat) (args : List V) (σ : H) : runX E D W N A66 args σ = F66 E D W N args σ := by
  unfold F66
  simp only [← JE66_0]
  kernel_rfl
theorem AO66 : A66.body.ok = true := by kernel_rfl

/-! ### F67: internal_strconv.FormatInt -/
def Fin67 (E : List (Nat × Blk)) : St → Ans := fun s => resK E s [(.tmp 4)] fun l => some (oneV l, s.σ)
def C67_0 (cc1 : XC) (cc2 : XC) : XC := (.seq (.ops (.op (some 4) .any [] (.mov (.con (V.str ⟨0, 0⟩))) <|
 .nil))
 (.seq (.seq (.ops (.op (some 10) .any [1] (.mov (.tmp 1)) <|
 .op (some 11) .any [10] (.bin .eql .none (.tmp 10) (.con (V.int .i64 (Int.ofNat 10)))) <|
 .nil))
 (.cond (.tmp 11) (.seq (.seq (.ops (.op (some 12) .any [0] (.mov (.tmp 0)) <|
 .op (some 13) .any [12] (.bin .leq .none (.con (V.int .i64 (Int.ofNat 0))) (.tmp 12)) <|
 .op (some 14) .any [13] (.mov (.tmp 13)) <|
 .grp 14 true (.op (some 15) .any [0, 14] (.mov (.tmp 0)) <|
 .op (some 16) .any [15, 14] (.bin .lss .none (.tmp 15) (.con (V.int .i64 (Int.ofNat 100)))) <|
 .nil) 17 [14, 16] (.tmp 14) (.tmp 16) (.con (V.bool false)) <|
 .nil))
 (.cond (.tmp 17) (.seq (.ops (.op (some 18) .any [0] (.mov (.tmp 0)) <|
 .op (some 19) .str [18] (.call 69 [(.tmp 18)]) <|
 .op (some 4) .any [19] (.mov (.tmp 19)) <|
 .nil))
 .ret)
 .skip))
 (.seq (.ops (.op (some 5) .any [] (.alloc 131 [(V.int .u8 (Int.ofNat 0)), (V.int .u8 (Int.ofNat 0)), (V.int .u8 (Int.ofNat 0)), (V.int .u8 (Int.ofNat 0)), (V.int .u8 (Int.ofNat 0)), (V.int .u8 (Int.ofNat 0)), (V.int .u8 (Int.ofNat 0)), (V.int .u8 (Int.ofNat 0)), (V.int .u8 (Int.ofNat 0)), (V.int .u8 (Int.ofNat 0)), (V.int .u8 (Int.ofNat 0)), (V.int .u8 (Int.ofNat 0)), (V.int .u8 (Int.ofNat 0)), (V.int .u8 (Int.ofNat 0)), (V.int .u8 (Int.ofNat 0)), (V.int .u8 (Int.ofNat 0)), (V.int .u8 (Int.ofNat 0)), (V.int .u8 (Int.ofNat 0)), (V.int .u8 (Int.ofNat 0)), (V.int .u8 (Int.ofNat 0)), (V.int .u8 (Int.ofNat 0)), (V.int .u8 (Int.ofNat 0)), (V.int .u8 (Int.ofNat 0)), (V.int .u8 (Int.ofNat 0))]) <|
 .nil))
 (.seq (.ops (.op (some 20) .any [0] (.mov (.tmp 0)) <|
 .op (some 21) .any [20] (.conv (.toInt .u64) (.tmp 20)) <|
 .op (some 6) .any [21] (.mov (.tmp 21)) <|
 .nil))
 (.seq (.seq (.ops (.op (some 22) .any [0] (.mov (.tmp 0)) <|
 .op (some 23) .any [22] (.bin .lss .none (.tmp 22) (.con (V.int .i64 (Int.ofNat 0)))) <|
 .nil))
 (.cond (.tmp 23) (.ops (.op (some 24) .any [6] (.mov (.tmp 6)) <|
 .op (some 25) .any [24] (.un .neg (.tmp 24)) <|
 .op (some 6) .any [25] (.mov (.tmp 25)) <|
 .nil))
 .skip))
 (.keep [(0, (.int .i64)), (5, .ptr), (6, (.int .u64))] [] [] cc2)))))
 .skip))
 (.keep [(0, (.int .i64)), (1, (.int .i64))] [] [] cc1)))
def T67_0 (E : List (Nat × Blk)) (D : Den) (W : DrawFn) (K1 : Int → Int → H → Ans) (K2 : Int → Nat → Nat → Int → H → Ans) (v0 : Int) (v1 : Int) (σ : H) : Ans :=
 condK (eqF v1 (Int.ofNat 10)) (
 joinB (fun c1 s2 =>
 condK c1 (
 callK (D 69 [(V.int .i64 v0)] s2) fun u4 s5 =>
 rtStr u4 fun x6 =>
 some ((V.str x6), s5)) (
 let s7 := newB s2 (.cells [(V.int .u8 (Int.ofNat 0)), (V.int .u8 (Int.ofNat 0)), (V.int .u8 (Int.ofNat 0)), (V.int .u8 (Int.ofNat 0)), (V.int .u8 (Int.ofNat 0)), (V.int .u8 (Int.ofNat 0)), (V.int .u8 (Int.ofNat 0)), (V.int .u8 (Int.ofNat 0)), (V.int .u8 (Int.ofNat 0)), (V.int .u8 (Int.ofNat 0)), (V.int .u8 (Int.ofNat 0)), (V.int .u8 (Int.ofNat 0)), (V.int .u8 (Int.ofNat 0)), (V.int .u8 (Int.ofNat 0)), (V.int .u8 (Int.ofNat 0)), (V.int .u8 (Int.ofNat 0)), (V.int .u8 (Int.ofNat 0)), (V.int .u8 (Int.ofNat 0)), (V.int .u8 (Int.ofNat 0)), (V.int .u8 (Int.ofNat 0)), (V.int .u8 (Int.ofNat 0)), (V.int .u8 (Int.ofNat 0)), (V.int .u8 (Int.ofNat 0)), (V.int .u8 (Int.ofNat 0))]);
 condK (ltF v0 (Int.ofNat 0)) (
 K2 v0 (H.next s2) 0 (negF .u64 (wrapF .u64 v0)) s7) (
 K2 v0 (H.next s2) 0 (wrapF .u64 v0) s7))) fun k3 =>
 condK (leF (Int.ofNat 0) v0) (
 k3 (ltF v0 (Int.ofNat 100)) σ) (
 k3 false σ)) (
 K1 v0 v1 σ)
def C67_1 : XC := (.seq (.ops (.op (some 45) .any [0] (.mov (.tmp 0)) <|
 .op (some 46) .any [45] (.conv (.toInt .u64) (.tmp 45)) <|
 .op (some 47) .any [1] (.mov (.tmp 1)) <|
 .op (some 48) .any [0] (.mov (.tmp 0)) <|
 .op (some 49) .any [48] (.bin .lss .none (.tmp 48) (.con (V.int .i64 (Int.ofNat 0)))) <|
 .op (some 50) (.tup [.any, .str]) [46, 47, 49] (.call 72 [(.con V.nils), (.tmp 46), (.tmp 47), (.tmp 49), (.con (V.bool false))]) <|
 .op (some 44) .any [50] (.mov (.tmp 50)) <|
 .op (some 51) .any [44] (.extract 0 (.tmp 44)) <|
 .op (some 52) .any [44] (.extract 1 (.tmp 44)) <|
 .op (some 8) .any [51] (.mov (.tmp 51)) <|
 .op (some 9) .any [52] (.mov (.tmp 52)) <|
 .nil))
 (.seq (.ops (.op (some 53) .any [9] (.mov (.tmp 9)) <|
 .op (some 4) .any [53] (.mov (.tmp 53)) <|
 .nil))
 .ret))
def T67_1 (E : List (Nat × Blk)) (D : Den) (W : DrawFn) (v0 : Int) (v1 : Int) (σ : H) : Ans :=
 callK (D 72 [V.nils, (V.int .u64 (wrapF .u64 v0)), (V.int .i64 v1), (V.bool (ltF v0 (Int.ofNat 0))), (V.bool false)] σ) fun u1 s2 =>
 rtTup u1 fun l3 =>
 rtCons l3 fun x4 l5 =>
 rtCons l5 fun x6 l7 =>
 rtStr x6 fun x8 =>
 rtNil l7 (
 some ((V.str x8), s2))
def C67_2 : XC := (.seq (.ops (.op (some 26) .any [6] (.mov (.tmp 6)) <|
 .op (some 27) (.int .i64) [26] (.call 70 [(.tmp 26)]) <|
 .op (some 7) .any [27] (.mov (.tmp 27)) <|
 .nil))
 (.seq (.ops (.op (some 28) .any [7] (.mov (.tmp 7)) <|
 .op (some 29) .any [28] (.bin .add .none (.con (V.int .i64 (Int.ofNat 1))) (.tmp 28)) <|
 .op (some 30) .any [5, 29] (.sliceArr 24 1 (.tmp 5) (some (.con (V.int .i64 (Int.ofNat 1)))) (some (.tmp 29)) none) <|
 .op (some 31) .any [6] (.mov (.tmp 6)) <|
 .op (some 32) (.tup []) [30, 31] (.call 71 [(.tmp 30), (.tmp 31)]) <|
 .nil))
 (.seq (.seq (.ops (.op (some 33) .any [0] (.mov (.tmp 0)) <|
 .op (some 34) .any [33] (.bin .lss .none (.tmp 33) (.con (V.int .i64 (Int.ofNat 0)))) <|
 .nil))
 (.cond (.tmp 34) (.seq (.ops (.op (some 35) .any [5] (.iaddrA 24 1 (.tmp 5) (.con (V.int .i64 (Int.ofNat 0)))) <|
 .op none .any [35] (.store 1 (.tmp 35) (.con (V.int .u8 (Int.ofNat 45)))) <|
 .nil))
 (.seq (.ops (.op (some 36) .any [7] (.mov (.tmp 7)) <|
 .op (some 37) .any [36] (.bin .add .none (.con (V.int .i64 (Int.ofNat 1))) (.tmp 36)) <|
 .op (some 38) .any [5, 37] (.sliceArr 24 1 (.tmp 5) none (some (.tmp 37)) none) <|
 .op (some 39) .any [38] (.conv .toStr (.tmp 38)) <|
 .op (some 4) .any [39] (.mov (.tmp 39)) <|
 .nil))
 .ret))
 .skip))
 (.seq (.ops (.op (some 40) .any [7] (.mov (.tmp 7)) <|
 .op (some 41) .any [40] (.bin .add .none (.con (V.int .i64 (Int.ofNat 1))) (.tmp 40)) <|
 .op (some 42) .any [5, 41] (.sliceArr 24 1 (.tmp 5) (some (.con (V.int .i64 (Int.ofNat 1)))) (some (.tmp 41)) none) <|
 .op (some 43) .any [42] (.conv .toStr (.tmp 42)) <|
 .op (some 4) .any [43] (.mov (.tmp 43)) <|
 .nil))
 .ret))))
def T67_2 (E : List (Nat × Blk)) (D : Den) (W : DrawFn) (v0 : Int) (v5b : Nat) (v5o : Nat) (v6 : Int) (σ : H) : Ans :=
 callK (D 70 [(V.int .u64 v6)] σ) fun u1 s2 =>
 rtInt .i64 u1 fun x3 =>
 gK (sliceArrV 24 1 (V.ptr v5b v5o) (some (V.int .i64 (Int.ofNat 1))) (some (V.int .i64 (addF .i64 (Int.ofNat 1) x3))) none) fun u4 =>
 callK (D 71 [u4, (V.int .u64 v6)] s2) fun u5 s6 =>
 rtTup u5 fun l7 =>
 rtNil l7 (
 condK (ltF v0 (Int.ofNat 0)) (
 stK 1 v5b (Nat.add v5o (Nat.mul 0 1)) (V.int .u8 (Int.ofNat 45)) s6 fun s9 =>
 gK (sliceArrV 24 1 (V.ptr v5b v5o) none (some (V.int .i64 (addF .i64 (Int.ofNat 1) x3))) none) fun u10 =>
 toStrK E s9 u10 fun t11 =>
 some ((V.str t11), s9)) (
 gK (sliceArrV 24 1 (V.ptr v5b v5o) (some (V.int .i64 (Int.ofNat 1))) (some (V.int .i64 (addF .i64 (Int.ofNat 1) x3))) none) fun u12 =>
 toStrK E s6 u12 fun t13 =>
 some ((V.str t13), s6)))
theorem P67_0 (E : List (Nat × Blk)) (D : Den) (W : DrawFn) (N : Nat) (cc1 : XC) (cc2 : XC) (v0 : Int) (v1 : Int) (σ : H) :
  denC E D W N (C67_0 cc1 cc2) ⟨[(0, (V.int .i64 v0)), (1, (V.int .i64 v1))], [], [], σ⟩ (Fin67 E) (fun _ _ => none) (Fin67 E) =
  T67_0 E D W (fun v0 v1 σ => denC E D W N cc1 ⟨[(0, (V.int .i64 v0)), (1, (V.int .i64 v1))], [], [], σ⟩ (Fin67 E) (fun _ _ => none) (Fin67 E)) (fun v0 v5b v5o v6 σ => denC E D W N cc2 ⟨[(0, (V.int .i64 v0)), (5, (V.ptr v5b v5o)), (6, (V.int .u64 v6))], [], [], σ⟩ (fun s' => denC E D W N (.keep [(0, (.int .i64)), (1, (.int .i64))] [] [] cc1) s' (Fin67 E) (fun _ _ => none) (Fin67 E)) (fun _ _ => none) (Fin67 E)) v0 v1 σ := by kernel_rfl
theorem P67_1 (E : List (Nat × Blk)) (D : Den) (W : DrawFn) (N : Nat) (v0 : Int) (v1 : Int) (σ : H) :
  denC E D W N (C67_1 ) ⟨[(0, (V.int .i64 v0)), (1, (V.int .i64 v1))], [], [], σ⟩ (Fin67 E) (fun _ _ => none) (Fin67 E) =
  T67_1 E D W  v0 v1 σ := by kernel_rfl
theorem P67_2 (E : List (Nat × Blk)) (D : Den) (W : DrawFn) (N : Nat) (cc1 : XC) (v0 : Int) (v5b : Nat) (v5o : Nat) (v6 : Int) (σ : H) :
  denC E D W N (C67_2 ) ⟨[(0, (V.int .i64 v0)), (5, (V.ptr v5b v5o)), (6, (V.int .u64 v6))], [], [], σ⟩ (fun s' => denC E D W N (.keep [(0, (.int .i64)), (1, (.int .i64))] [] [] cc1) s' (Fin67 E) (fun _ _ => none) (Fin67 E)) (fun _ _ => none) (Fin67 E) =
  T67_2 E D W  v0 v5b v5o v6 σ := by kernel_rfl
def J67_1 (E : List (Nat × Blk)) (D : Den) (W : DrawFn) (N : Nat) : Int → Int → H → Ans := T67_1 E D W 
theorem JE67_1 (E : List (Nat × Blk)) (D : Den) (W : DrawFn) (N : Nat) (v0 : Int) (v1 : Int) (σ : H) :
  denC E D W N C67_1 ⟨[(0, (V.int .i64 v0)), (1, (V.int .i64 v1))], [], [], σ⟩ (Fin67 E) (fun _ _ => none) (Fin67 E) = J67_1 E D W N v0 v1 σ := by
  refine (P67_1 E D W N   v0 v1 σ).trans ?_
  kernel_rfl
def J67_2 (E : List (Nat × Blk)) (D : Den) (W : DrawFn) (N : Nat) : Int → Nat → Nat → Int → H → Ans := T67_2 E D W 
theorem JE67_2 (E : List (Nat × Blk)) (D : Den) (W : DrawFn) (N : Nat) (v0 : Int) (v5b : Nat) (v5o : Nat) (v6 : Int) (σ : H) :
  denC E D W N C67_2 ⟨[(0, (V.int .i64 v0)), (5, (V.ptr v5b v5o)), (6, (V.int .u64 v6))], [], [], σ⟩ (fun s' => denC E D W N (.keep [(0, (.int .i64)), (1, (.int .i64))] [] [] C67_1) s' (Fin67 E) (fun _ _ => none) (Fin67 E)) (fun _ _ => none) (Fin67 E) = J67_2 E D W N v0 v5b v5o v6 σ := by
  refine (P67_2 E D W N C67_1  v0 v5b v5o v6 σ).trans ?_
  kernel_rfl
def J67_0 (E : List (Nat × Blk)) (D : Den) (W : DrawFn) (N : Nat) : Int → Int → H → Ans := T67_0 E D W (J67_1 E D W N ) (J67_2 E D W N )
theorem JE67_0 (E : List (Nat × Blk)) (D : Den) (W : DrawFn) (N : Nat) (v0 : Int) (v1 : Int) (σ : H) :
  denC E D W N (C67_0 C67_1 C67_2) ⟨[(0, (V.int .i64 v0)), (1, (V.int .i64 v1))], [], [], σ⟩ (Fin67 E) (fun _ _ => none) (Fin67 E) = J67_0 E D W N v0 v1 σ := by
  refine (P67_0 E D W N C67_1 C67_2  v0 v1 σ).trans ?_
  simp only [JE67_1, JE67_2]
  kernel_rfl
def F67 (E : List (Nat × Blk)) (D : Den) (W : DrawFn) (N : Nat) (args : List V) (σ : H) : Ans :=
 rtCons args fun x1 l2 =>
 rtInt .i64 x1 fun x3 =>
 rtCons l2 fun x4 l5 =>
 rtInt .i64 x4 fun x6 =>
 rtNil l5 (
 J67_0 E D W N x3 x6 σ)
def A67 : XFn := ⟨54, [(.int .i64), (.int .i64)], [(.tmp 4)], (C67_0 C67_1 C67_2)⟩
theorem FE67 (E : List (Nat × Blk)) (D : Den) (W : DrawFn) (N : Nat) (args : List V) (σ : H) : runX E D W N A67 args σ = F67 E D W N args σ := by
  unfold F67
  simp only [← JE67_0]
  kernel_rfl
theorem AO67 : A67.body.ok = true := by kernel_rfl

/-! ### F68: strconv.ParseUint -/
def Fin68 (E : List (Nat × Blk)) : St → Ans := fun s => resK E s [(.tmp 6), (.tmp 7)] fun l => some (oneV l, s.σ)
def C68_0 : XC := (.seq (.ops (.op (some 6) .any [] (.mov (.con (V.int .u64 (Int.ofNat 0)))) <|
 .op (some 7) .any [] (.mov (.con V.nili)) <|
 .nil))
 (.seq (.ops (.op (some 11) .any [0] (.mov (.tmp 0)) <|
 .op (some 12) .any [1] (.mov (.tmp 1)) <|
 .op (some 13) .any [2] (.mov (.tmp 2)) <|
 .op (some 14) (.tup [(.int .u64), .any]) [11, 12, 13] (.call 49 [(.tmp 11), (.tmp 12), (.tmp 13)]) <|
 .op (some 10) .any [14] (.mov (.tmp 14)) <|
 .op (some 15) .any [10] (.extract 0 (.tmp 10)) <|
 .op (some 16) .any [10] (.extract 1 (.tmp 10)) <|
 .op (some 8) .any [15] (.mov (.tmp 15)) <|
 .op (some 9) .any [16] (.mov (.tmp 16)) <|
 .nil))
 (.seq (.seq (.ops (.op (some 17) .any [9] (.mov (.tmp 9)) <|
 .op (some 18) .any [17] (.bin .neq (.iface true) (.tmp 17) (.con V.nili)) <|
 .nil))
 (.cond (.tmp 18) (.seq (.ops (.op (some 19) .any [8] (.mov (.tmp 8)) <|
 .op (some 20) .any [0] (.mov (.tmp 0)) <|
 .op (some 21) .any [1] (.mov (.tmp 1)) <|
 .op (some 22) .any [2] (.mov (.tmp 2)) <|
 .op (some 23) .any [9] (.mov (.tmp 9)) <|
 .op (some 24) .one [20, 21, 22, 23] (.call 41 [(.con (V.str ⟨9, 2147778296661251613008⟩)), (.tmp 20), (.tmp 21), (.tmp 22), (.tmp 23)]) <|
 .op (some 6) .any [19] (.mov (.tmp 19)) <|
 .op (some 7) .any [24] (.mov (.tmp 24)) <|
 .nil))
 .ret)
 .skip))
 (.seq (.ops (.op (some 25) .any [8] (.mov (.tmp 8)) <|
 .op (some 6) .any [25] (.mov (.tmp 25)) <|
 .op (some 7) .any [] (.mov (.con V.nili)) <|
 .nil))
 .ret))))
def T68_0 (E : List (Nat × Blk)) (D : Den) (W : DrawFn) (v0 : BS) (v1 : Int) (v2 : Int) (σ : H) : Ans :=
 callK (D 49 [(V.str v0), (V.int .i64 v1), (V.int .i64 v2)] σ) fun u1 s2 =>
 rtTup u1 fun l3 =>
 rtCons l3 fun x4 l5 =>
 rtInt .u64 x4 fun x6 =>
 rtCons l5 fun x7 l8 =>
 rtNil l8 (
 eqK (.iface true) x7 V.nili fun c9 =>
 condK (not c9) (
 callK (D 41 [(V.str (BS.mk 9 2147778296661251613008)), (V.str v0), (V.int .i64 v1), (V.int .i64 v2), x7] s2) fun u10 s11 =>
 rtOne u10 (
 some ((V.tup [(V.int .u64 x6), u10]), s11))) (
 some ((V.tup [(V.int .u64 x6), V.nili]), s2)))
theorem P68_0 (E : List (Nat × Blk)) (D : Den) (W : DrawFn) (N : Nat) (v0 : BS) (v1 : Int) (v2 : Int) (σ : H) :
  denC E D W N (C68_0 ) ⟨[(0, (V.str v0)), (1, (V.int .i64 v1)), (2, (V.int .i64 v2))], [], [], σ⟩ (Fin68 E) (fun _ _ => none) (Fin68 E) =
  T68_0 E D W  v0 v1 v2 σ := by kernel_rfl
def J68_0 (E : List (Nat × Blk)) (D : Den) (W : DrawFn) (N : Nat) : BS → Int → Int → H → Ans := T68_0 E D W 
theorem JE68_0 (E : List (Nat × Blk)) (D : Den) (W : DrawFn) (N : Nat) (v0 : BS) (v1 : Int) (v2 : Int) (σ : H) :
  denC E D W N C68_0 ⟨[(0, (V.str v0)), (1, (V.int .i64 v1)), (2, (V.int .i64 v2))], [], [], σ⟩ (Fin68 E) (fun _ _ => none) (Fin68 E) = J68_0 E D W N v0 v1 v2 σ := by
  refine (P68_0 E D W N   v0 v1 v2 σ).trans ?_
  kernel_rfl
def F68 (E : List (Nat × Blk)) (D : Den) (W : DrawFn) (N : Nat) (args : List V) (σ : H) : Ans :=
 rtCons args fun x1 l2 =>
 rtStr x1 fun x3 =>
 rtCons l2 fun x4 l5 =>
 rtInt .i64 x4 fun x6 =>
 rtCons l5 fun x7 l8 =>
 rtInt .i64 x7 fun x9 =>
 rtNil l8 (
 J68_0 E D W N x3 x6 x9 σ)
def A68 : XFn := ⟨26, [.str, (.int .i64), (.int .i64)], [(.tmp 6), (.tmp 7)], C68_0⟩
theorem FE68 (E : List (Nat × Blk)) (D : Den) (W : DrawFn) (N : Nat) (args : List V) (σ : H) : runX E D W N A68 args σ = F68 E D W N args σ := by
  unfold F68
  simp only [← JE68_0]
  kernel_rfl
theorem AO68 : A68.body.ok = true := by kernel_rfl

/-! ### F69: internal_strconv.small -/
def Fin69 (E : List (Nat × Blk)) : St → Ans := fun s => resK E s [(.tmp 2)] fun l => some (oneV l, s.σ)
def C69_0 : XC := (.seq (.ops (.op (some 2) .any [] (.mov (.con (V.str ⟨0, 0⟩))) <|
 .nil))
 (.seq (.seq (.ops (.op (some 3) .any [0] (.mov (.tmp 0)) <|
 .op (some 4) .any [3] (.bin .lss .none (.tmp 3) (.con (V.int .i64 (Int.ofNat 10)))) <|
 .nil))
 (.cond (.tmp 4) (.seq (.ops (.op (some 5) .any [0] (.mov (.tmp 0)) <|
 .op (some 6) .any [0] (.mov (.tmp 0)) <|
 .op (some 7) .any [6] (.bin .add .none (.tmp 6) (.con (V.int .i64 (Int.ofNat 1)))) <|
 .op (some 8) .any [5, 7] (.sliceStr (.con (V.str ⟨36, 237927390410950444456928663707796224754864904193074819559483181009558347043374296609072⟩)) (some (.tmp 5)) (some (.tmp 7))) <|
 .op (some 2) .any [8] (.mov (.tmp 8)) <|
 .nil))
 .ret)
 .skip))
 (.seq (.ops (.op (some 9) .any [0] (.mov (.tmp 0)) <|
 .op (some 10) .any [9] (.bin .mul .none (.tmp 9) (.con (V.int .i64 (Int.ofNat 2)))) <|
 .op (some 11) .any [0] (.mov (.tmp 0)) <|
 .op (some 12) .any [11] (.bin .mul .none (.tmp 11) (.con (V.int .i64 (Int.ofNat 2)))) <|
 .op (some 13) .any [12] (.bin .add .none (.tmp 12) (.con (V.int .i64 (Int.ofNat 2)))) <|
 .op (some 14) .any [10, 13] (.sliceStr (.con (V.str ⟨200, 9938655150514779720929161263213647789093395803754561035662628441001274968862597953692946393464194303251501229616933063375291039650253924995779037586872666250072396106842829501851083234932712366962979930255066872747696324303968523733872590022915936937156789320557469720923390131174387415513794469201054844961267015441141542819553679203788501627738430154234325528792480477051962324423099068299719245009424585859096469223093538032153047611602695245052081125123941502624659711709950000⟩)) (some (.tmp 10)) (some (.tmp 13))) <|
 .op (some 2) .any [14] (.mov (.tmp 14)) <|
 .nil))
 .ret)))
def T69_0 (E : List (Nat × Blk)) (D : Den) (W : DrawFn) (v0 : Int) (σ : H) : Ans :=
 condK (ltF v0 (Int.ofNat 10)) (
 sliceStrX (BS.mk 36 237927390410950444456928663707796224754864904193074819559483181009558347043374296609072) (some (V.int .i64 v0)) (some (V.int .i64 (addF .i64 v0 (Int.ofNat 1)))) fun t1 =>
 some ((V.str t1), σ)) (
 sliceStrX (BS.mk 200 9938655150514779720929161263213647789093395803754561035662628441001274968862597953692946393464194303251501229616933063375291039650253924995779037586872666250072396106842829501851083234932712366962979930255066872747696324303968523733872590022915936937156789320557469720923390131174387415513794469201054844961267015441141542819553679203788501627738430154234325528792480477051962324423099068299719245009424585859096469223093538032153047611602695245052081125123941502624659711709950000) (some (V.int .i64 (mulF .i64 v0 (Int.ofNat 2)))) (some (V.int .i64 (addF .i64 (mulF .i64 v0 (Int.ofNat 2)) (Int.ofNat 2)))) fun t2 =>
 some ((V.str t2), σ))
theorem P69_0 (E : List (Nat × Blk)) (D : Den) (W : DrawFn) (N : Nat) (v0 : Int) (σ : H) :
  denC E D W N (C69_0 ) ⟨[(0, (V.int .i64 v0))], [], [], σ⟩ (Fin69 E) (fun _ _ => none) (Fin69 E) =
  T69_0 E D W  v0 σ := by kernel_rfl
def J69_0 (E : List (Nat × Blk)) (D : Den) (W : DrawFn) (N : Nat) : Int → H → Ans := T69_0 E D W 
theorem JE69_0 (E : List (Nat × Blk)) (D : Den) (W : DrawFn) (N : Nat) (v0 : Int) (σ : H) :
  denC E D W N C69_0 ⟨[(0, (V.int .i64 v0))], [], [], σ⟩ (Fin69 E) (fun _ _ => none) (Fin69 E) = J69_0 E D W N v0 σ := by
  refine (P69_0 E D W N   v0 σ).trans ?_
  kernel_rfl
def F69 (E : List (Nat × Blk)) (D : Den) (W : DrawFn) (N : Nat) (args : List V) (σ : H) : Ans :=
 rtCons args fun x1 l2 =>
 rtInt .i64 x1 fun x3 =>
 rtNil l2 (
 J69_0 E D W N x3 σ)
def A69 : XFn := ⟨15, [(.int .i64)], [(.tmp 2)], C69_0⟩
theorem FE69 (E : List (Nat × Blk)) (D : Den) (W : DrawFn) (N : Nat) (args : List V) (σ : H) : runX E D W N A69 args σ = F69 E D W N args σ := by
  unfold F69
  simp only [← JE69_0]
  kernel_rfl
theorem AO69 : A69.body.ok = true := by kernel_rfl

/-! ### F70: internal_strconv.numDigits -/
def Fin70 (E : List (Nat × Blk)) : St → Ans := fun s => resK E s [(.tmp 2)] fun l => some (oneV l, s.σ)
def C70_0 : XC := (.seq (.ops (.op (some 2) .any [] (.mov (.con (V.int .i64 (Int.ofNat 0)))) <|
 .nil))
 (.seq (.ops (.op (some 4) .any [0] (.mov (.tmp 0)) <|
 .op (some 5) (.int .i64) [4] (.call 74 [(.tmp 4)]) <|
 .op (some 6) (.int .i64) [5] (.call 73 [(.tmp 5)]) <|
 .op (some 3) .any [6] (.mov (.tmp 6)) <|
 .nil))
 (.seq (.ops (.op (some 7) .any [3] (.mov (.tmp 3)) <|
 .op (some 8) .any [0] (.mov (.tmp 0)) <|
 .op (some 9) .any [3] (.mov (.tmp 3)) <|
 .op (some 10) .any [9] (.iaddrA 20 1 (.con (V.ptr 4 0)) (.tmp 9)) <|
 .op (some 11) (.int .u64) [10] (.load none (.tmp 10)) <|
 .op (some 12) .any [8, 11] (.bin .geq .none (.tmp 8) (.tmp 11)) <|
 .op (some 13) (.int .i64) [12] (.call 75 [(.tmp 12)]) <|
 .op (some 14) .any [7, 13] (.bin .add .none (.tmp 7) (.tmp 13)) <|
 .op (some 2) .any [14] (.mov (.tmp 14)) <|
 .nil))
 .ret)))
def T70_0 (E : List (Nat × Blk)) (D : Den) (W : DrawFn) (v0 : Int) (σ : H) : Ans :=
 callK (D 74 [(V.int .u64 v0)] σ) fun u1 s2 =>
 rtInt .i64 u1 fun x3 =>
 callK (D 73 [(V.int .i64 x3)] s2) fun u4 s5 =>
 rtInt .i64 u4 fun x6 =>
 nnK x6 fun n7 =>
 chk (Nat.blt n7 20) (
 ldK E s5 4 (Nat.add 0 (Nat.mul n7 1)) fun u8 =>
 rtInt .u64 u8 fun x9 =>
 callK (D 75 [(V.bool (leF x9 v0))] s5) fun u10 s11 =>
 rtInt .i64 u10 fun x12 =>
 some ((V.int .i64 (addF .i64 x6 x12)), s11))
theorem P70_0 (E : List (Nat × Blk)) (D : Den) (W : DrawFn) (N : Nat) (v0 : Int) (σ : H) :
  denC E D W N (C70_0 ) ⟨[(0, (V.int .u64 v0))], [], [], σ⟩ (Fin70 E) (fun _ _ => none) (Fin70 E) =
  T70_0 E D W  v0 σ := by kernel_rfl
def J70_0 (E : List (Nat × Blk)) (D : Den) (W : DrawFn) (N : Nat) : Int → H → Ans := T70_0 E D W 
theorem JE70_0 (E : List (Nat × Blk)) (D : Den) (W : DrawFn) (N : Nat) (v0 : Int) (σ : H) :
  denC E D W N C70_0 ⟨[(0, (V.int .u64 v0))], [], [], σ⟩ (Fin70 E) (fun _ _ => none) (Fin70 E) = J70_0 E D W N v0 σ := by
  refine (P70_0 E D W N   v0 σ).trans ?_
  kernel_rfl
def F70 (E : List (Nat × Blk)) (D : Den) (W : DrawFn) (N : Nat) (args : List V) (σ : H) : Ans :=
 rtCons args fun x1 l2 =>
 rtInt .u64 x1 fun x3 =>
 rtNil l2 (
 J70_0 E D W N x3 σ)
def A70 : XFn := ⟨15, [(.int .u64)], [(.tmp 2)], C70_0⟩
theorem FE70 (E : List (Nat × Blk)) (D : Den) (W : DrawFn) (N : Nat) (args : List V) (σ : H) : runX E D W N A70 args σ = F70 E D W N args σ := by
  unfold F70
  simp only [← JE70_0]
  kernel_rfl
theorem AO70 : A70.body.ok = true := by kernel_rfl

/-! ### F71: internal_strconv.formatBase10 -/
def Fin71 (E : List (Nat × Blk)) : St → Ans := fun s => resK E s [] fun l => some (oneV l, s.σ)
def C71_0 (cc1 : XC) (cc2 : XC) : XC := (.seq (.ops (.op (some 17) .any [0] (.mov (.tmp 0)) <|
 .op (some 18) .any [17] (.len false (.tmp 17)) <|
 .op (some 4) .any [18] (.mov (.tmp 18)) <|
 .nil))
 (.seq (.block 0 (.loop [(0, .any), (1, (.int .u64)), (4, (.int .i64))] [] [] cc2))
 (.keep [(0, .any), (1, (.int .u64)), (4, (.int .i64))] [] [] cc1)))
def T71_0 (E : List (Nat × Blk)) (D : Den) (W : DrawFn) (K2 : V → Int → Int → H → Ans) (v0 : V) (v1 : Int) (σ : H) : Ans :=
 slenK v0 fun n1 =>
 K2 v0 v1 (Int.ofNat n1) σ
def C71_1 (cc3 : XC) : XC := (.seq (.ops (.op (some 96) .any [1] (.mov (.tmp 1)) <|
 .op (some 97) .any [96] (.conv (.toInt .u32) (.tmp 96)) <|
 .op (some 12) .any [97] (.mov (.tmp 97)) <|
 .nil))
 (.seq (.seq (.ops (.op (some 98) .any [4] (.mov (.tmp 4)) <|
 .op (some 99) .any [98] (.bin .geq .none (.tmp 98) (.con (V.int .i64 (Int.ofNat 4)))) <|
 .nil))
 (.cond (.tmp 99) (.seq (.ops (.op (some 100) .any [12] (.mov (.tmp 12)) <|
 .op (some 101) .any [100] (.bin .rem .none (.tmp 100) (.con (V.int .u32 (Int.ofNat 10000)))) <|
 .op (some 13) .any [101] (.mov (.tmp 101)) <|
 .nil))
 (.seq (.ops (.op (some 102) .any [12] (.mov (.tmp 12)) <|
 .op (some 103) .any [102] (.bin .quo .none (.tmp 102) (.con (V.int .u32 (Int.ofNat 10000)))) <|
 .op (some 12) .any [103] (.mov (.tmp 103)) <|
 .nil))
 (.seq (.ops (.op (some 104) .any [13] (.mov (.tmp 13)) <|
 .op (some 105) .any [104] (.bin .quo .none (.tmp 104) (.con (V.int .u32 (Int.ofNat 100)))) <|
 .op (some 106) .any [105] (.bin .mul .none (.tmp 105) (.con (V.int .u32 (Int.ofNat 2)))) <|
 .op (some 107) .any [13] (.mov (.tmp 13)) <|
 .op (some 108) .any [107] (.bin .rem .none (.tmp 107) (.con (V.int .u32 (Int.ofNat 100)))) <|
 .op (some 109) .any [108] (.bin .mul .none (.tmp 108) (.con (V.int .u32 (Int.ofNat 2)))) <|
 .op (some 14) .any [106] (.mov (.tmp 106)) <|
 .op (some 15) .any [109] (.mov (.tmp 109)) <|
 .nil))
 (.seq (.draw (.op (some 110) .any [0] (.mov (.tmp 0)) <|
 .op (some 111) .any [4] (.mov (.tmp 4)) <|
 .op (some 112) .any [111] (.bin .sub .none (.tmp 111) (.con (V.int .i64 (Int.ofNat 1)))) <|
 .op (some 113) .any [0] (.mov (.tmp 0)) <|
 .op (some 114) .any [4] (.mov (.tmp 4)) <|
 .op (some 115) .any [114] (.bin .sub .none (.tmp 114) (.con (V.int .i64 (Int.ofNat 2)))) <|
 .op (some 116) .any [15] (.mov (.tmp 15)) <|
 .op (some 117) .any [116] (.bin .add .none (.tmp 116) (.con (V.int .u32 (Int.ofNat 1)))) <|
 .op (some 118) .any [117] (.idxStr (.con (V.str ⟨200, 9938655150514779720929161263213647789093395803754561035662628441001274968862597953692946393464194303251501229616933063375291039650253924995779037586872666250072396106842829501851083234932712366962979930255066872747696324303968523733872590022915936937156789320557469720923390131174387415513794469201054844961267015441141542819553679203788501627738430154234325528792480477051962324423099068299719245009424585859096469223093538032153047611602695245052081125123941502624659711709950000⟩)) (.tmp 117)) <|
 .op (some 119) .any [15] (.mov (.tmp 15)) <|
 .op (some 120) .any [119] (.idxStr (.con (V.str ⟨200, 9938655150514779720929161263213647789093395803754561035662628441001274968862597953692946393464194303251501229616933063375291039650253924995779037586872666250072396106842829501851083234932712366962979930255066872747696324303968523733872590022915936937156789320557469720923390131174387415513794469201054844961267015441141542819553679203788501627738430154234325528792480477051962324423099068299719245009424585859096469223093538032153047611602695245052081125123941502624659711709950000⟩)) (.tmp 119)) <|
 .op (some 121) .any [110, 112] (.iaddrS 1 (.tmp 110) (.tmp 112)) <|
 .op none .any [121, 118] (.store 1 (.tmp 121) (.tmp 118)) <|
 .op (some 122) .any [113, 115] (.iaddrS 1 (.tmp 113) (.tmp 115)) <|
 .op none .any [122, 120] (.store 1 (.tmp 122) (.tmp 120)) <|
 .nil) [0, 0, 2, 0, 0, 16, 0, 64, 192, 0, 512, 455, 2503, 8191, 16383])
 (.seq (.draw (.op (some 123) .any [0] (.mov (.tmp 0)) <|
 .op (some 124) .any [4] (.mov (.tmp 4)) <|
 .op (some 125) .any [124] (.bin .sub .none (.tmp 124) (.con (V.int .i64 (Int.ofNat 3)))) <|
 .op (some 126) .any [0] (.mov (.tmp 0)) <|
 .op (some 127) .any [4] (.mov (.tmp 4)) <|
 .op (some 128) .any [127] (.bin .sub .none (.tmp 127) (.con (V.int .i64 (Int.ofNat 4)))) <|
 .op (some 129) .any [14] (.mov (.tmp 14)) <|
 .op (some 130) .any [129] (.bin .add .none (.tmp 129) (.con (V.int .u32 (Int.ofNat 1)))) <|
 .op (some 131) .any [130] (.idxStr (.con (V.str ⟨200, 9938655150514779720929161263213647789093395803754561035662628441001274968862597953692946393464194303251501229616933063375291039650253924995779037586872666250072396106842829501851083234932712366962979930255066872747696324303968523733872590022915936937156789320557469720923390131174387415513794469201054844961267015441141542819553679203788501627738430154234325528792480477051962324423099068299719245009424585859096469223093538032153047611602695245052081125123941502624659711709950000⟩)) (.tmp 130)) <|
 .op (some 132) .any [14] (.mov (.tmp 14)) <|
 .op (some 133) .any [132] (.idxStr (.con (V.str ⟨200, 9938655150514779720929161263213647789093395803754561035662628441001274968862597953692946393464194303251501229616933063375291039650253924995779037586872666250072396106842829501851083234932712366962979930255066872747696324303968523733872590022915936937156789320557469720923390131174387415513794469201054844961267015441141542819553679203788501627738430154234325528792480477051962324423099068299719245009424585859096469223093538032153047611602695245052081125123941502624659711709950000⟩)) (.tmp 132)) <|
 .op (some 134) .any [123, 125] (.iaddrS 1 (.tmp 123) (.tmp 125)) <|
 .op none .any [134, 131] (.store 1 (.tmp 134) (.tmp 131)) <|
 .op (some 135) .any [126, 128] (.iaddrS 1 (.tmp 126) (.tmp 128)) <|
 .op none .any [135, 133] (.store 1 (.tmp 135) (.tmp 133)) <|
 .nil) [0, 0, 2, 0, 0, 16, 0, 64, 192, 0, 512, 455, 2503, 8191, 16383])
 (.ops (.op (some 136) .any [4] (.mov (.tmp 4)) <|
 .op (some 137) .any [136] (.bin .sub .none (.tmp 136) (.con (V.int .i64 (Int.ofNat 4)))) <|
 .op (some 4) .any [137] (.mov (.tmp 137)) <|
 .nil)))))))
 .skip))
 (.keep [(0, .any), (4, (.int .i64)), (12, (.int .u32))] [] [] cc3)))
def T71_1 (E : List (Nat × Blk)) (D : Den) (W : DrawFn) (K3 : V → Int → Int → H → Ans) (v0 : V) (v1 : Int) (v4 : Int) (σ : H) : Ans :=
 condK (leF (Int.ofNat 4) v4) (
 idxStrX (BS.mk 200 9938655150514779720929161263213647789093395803754561035662628441001274968862597953692946393464194303251501229616933063375291039650253924995779037586872666250072396106842829501851083234932712366962979930255066872747696324303968523733872590022915936937156789320557469720923390131174387415513794469201054844961267015441141542819553679203788501627738430154234325528792480477051962324423099068299719245009424585859096469223093538032153047611602695245052081125123941502624659711709950000) (addF .u32 (mulF .u32 (Int.tmod (Int.tmod (wrapF .u32 v1) (Int.ofNat 10000)) (Int.ofNat 100)) (Int.ofNat 2)) (Int.ofNat 1)) fun x1 =>
 idxStrX (BS.mk 200 9938655150514779720929161263213647789093395803754561035662628441001274968862597953692946393464194303251501229616933063375291039650253924995779037586872666250072396106842829501851083234932712366962979930255066872747696324303968523733872590022915936937156789320557469720923390131174387415513794469201054844961267015441141542819553679203788501627738430154234325528792480477051962324423099068299719245009424585859096469223093538032153047611602695245052081125123941502624659711709950000) (mulF .u32 (Int.tmod (Int.tmod (wrapF .u32 v1) (Int.ofNat 10000)) (Int.ofNat 100)) (Int.ofNat 2)) fun x2 =>
 iaddrSK 1 v0 (subF .i64 v4 (Int.ofNat 1)) fun b3 o4 =>
 stK 1 b3 o4 (V.int .u8 x1) σ fun s5 =>
 iaddrSK 1 v0 (subF .i64 v4 (Int.ofNat 2)) fun b6 o7 =>
 stK 1 b6 o7 (V.int .u8 x2) s5 fun s8 =>
 idxStrX (BS.mk 200 9938655150514779720929161263213647789093395803754561035662628441001274968862597953692946393464194303251501229616933063375291039650253924995779037586872666250072396106842829501851083234932712366962979930255066872747696324303968523733872590022915936937156789320557469720923390131174387415513794469201054844961267015441141542819553679203788501627738430154234325528792480477051962324423099068299719245009424585859096469223093538032153047611602695245052081125123941502624659711709950000) (addF .u32 (mulF .u32 (quoF .u32 (Int.tmod (wrapF .u32 v1) (Int.ofNat 10000)) (Int.ofNat 100)) (Int.ofNat 2)) (Int.ofNat 1)) fun x9 =>
 idxStrX (BS.mk 200 9938655150514779720929161263213647789093395803754561035662628441001274968862597953692946393464194303251501229616933063375291039650253924995779037586872666250072396106842829501851083234932712366962979930255066872747696324303968523733872590022915936937156789320557469720923390131174387415513794469201054844961267015441141542819553679203788501627738430154234325528792480477051962324423099068299719245009424585859096469223093538032153047611602695245052081125123941502624659711709950000) (mulF .u32 (quoF .u32 (Int.tmod (wrapF .u32 v1) (Int.ofNat 10000)) (Int.ofNat 100)) (Int.ofNat 2)) fun x10 =>
 iaddrSK 1 v0 (subF .i64 v4 (Int.ofNat 3)) fun b11 o12 =>
 stK 1 b11 o12 (V.int .u8 x9) s8 fun s13 =>
 iaddrSK 1 v0 (subF .i64 v4 (Int.ofNat 4)) fun b14 o15 =>
 stK 1 b14 o15 (V.int .u8 x10) s13 fun s16 =>
 K3 v0 (subF .i64 v4 (Int.ofNat 4)) (quoF .u32 (wrapF .u32 v1) (Int.ofNat 10000)) s16) (
 K3 v0 v4 (wrapF .u32 v1) σ)
def C71_2 : XC := (.seq (.seq (.ops (.op (some 19) .any [4] (.mov (.tmp 4)) <|
 .op (some 20) .any [19] (.bin .geq .none (.tmp 19) (.con (V.int .i64 (Int.ofNat 8)))) <|
 .nil))
 (.cond (.tmp 20) .skip
 (.exit 0)))
 (.block 1 (.seq (.ops (.op (some 21) .any [1] (.mov (.tmp 1)) <|
 .op (some 22) .any [21] (.bin .rem .none (.tmp 21) (.con (V.int .u64 (Int.ofNat 100000000)))) <|
 .op (some 23) .any [22] (.conv (.toInt .u32) (.tmp 22)) <|
 .op (some 5) .any [23] (.mov (.tmp 23)) <|
 .nil))
 (.seq (.ops (.op (some 24) .any [1] (.mov (.tmp 1)) <|
 .op (some 25) .any [24] (.bin .quo .none (.tmp 24) (.con (V.int .u64 (Int.ofNat 100000000)))) <|
 .op (some 1) .any [25] (.mov (.tmp 25)) <|
 .nil))
 (.seq (.ops (.op (some 26) .any [5] (.mov (.tmp 5)) <|
 .op (some 27) .any [26] (.bin .quo .none (.tmp 26) (.con (V.int .u32 (Int.ofNat 10000)))) <|
 .op (some 28) .any [5] (.mov (.tmp 5)) <|
 .op (some 29) .any [28] (.bin .rem .none (.tmp 28) (.con (V.int .u32 (Int.ofNat 10000)))) <|
 .op (some 6) .any [27] (.mov (.tmp 27)) <|
 .op (some 7) .any [29] (.mov (.tmp 29)) <|
 .nil))
 (.seq (.ops (.op (some 30) .any [7] (.mov (.tmp 7)) <|
 .op (some 31) .any [30] (.bin .quo .none (.tmp 30) (.con (V.int .u32 (Int.ofNat 100)))) <|
 .op (some 32) .any [31] (.bin .mul .none (.tmp 31) (.con (V.int .u32 (Int.ofNat 2)))) <|
 .op (some 33) .any [7] (.mov (.tmp 7)) <|
 .op (some 34) .any [33] (.bin .rem .none (.tmp 33) (.con (V.int .u32 (Int.ofNat 100)))) <|
 .op (some 35) .any [34] (.bin .mul .none (.tmp 34) (.con (V.int .u32 (Int.ofNat 2)))) <|
 .op (some 8) .any [32] (.mov (.tmp 32)) <|
 .op (some 9) .any [35] (.mov (.tmp 35)) <|
 .nil))
 (.seq (.ops (.op (some 36) .any [6] (.mov (.tmp 6)) <|
 .op (some 37) .any [36] (.bin .quo .none (.tmp 36) (.con (V.int .u32 (Int.ofNat 100)))) <|
 .op (some 38) .any [37] (.bin .mul .none (.tmp 37) (.con (V.int .u32 (Int.ofNat 2)))) <|
 .op (some 39) .any [6] (.mov (.tmp 6)) <|
 .op (some 40) .any [39] (.bin .rem .none (.tmp 39) (.con (V.int .u32 (Int.ofNat 100)))) <|
 .op (some 41) .any [40] (.bin .mul .none (.tmp 40) (.con (V.int .u32 (Int.ofNat 2)))) <|
 .op (some 10) .any [38] (.mov (.tmp 38)) <|
 .op (some 11) .any [41] (.mov (.tmp 41)) <|
 .nil))
 (.seq (.draw (.op (some 42) .any [0] (.mov (.tmp 0)) <|
 .op (some 43) .any [4] (.mov (.tmp 4)) <|
 .op (some 44) .any [43] (.bin .sub .none (.tmp 43) (.con (V.int .i64 (Int.ofNat 1)))) <|
 .op (some 45) .any [0] (.mov (.tmp 0)) <|
 .op (some 46) .any [4] (.mov (.tmp 4)) <|
 .op (some 47) .any [46] (.bin .sub .none (.tmp 46) (.con (V.int .i64 (Int.ofNat 2)))) <|
 .op (some 48) .any [9] (.mov (.tmp 9)) <|
 .op (some 49) .any [48] (.bin .add .none (.tmp 48) (.con (V.int .u32 (Int.ofNat 1)))) <|
 .op (some 50) .any [49] (.idxStr (.con (V.str ⟨200, 9938655150514779720929161263213647789093395803754561035662628441001274968862597953692946393464194303251501229616933063375291039650253924995779037586872666250072396106842829501851083234932712366962979930255066872747696324303968523733872590022915936937156789320557469720923390131174387415513794469201054844961267015441141542819553679203788501627738430154234325528792480477051962324423099068299719245009424585859096469223093538032153047611602695245052081125123941502624659711709950000⟩)) (.tmp 49)) <|
 .op (some 51) .any [9] (.mov (.tmp 9)) <|
 .op (some 52) .any [51] (.idxStr (.con (V.str ⟨200, 9938655150514779720929161263213647789093395803754561035662628441001274968862597953692946393464194303251501229616933063375291039650253924995779037586872666250072396106842829501851083234932712366962979930255066872747696324303968523733872590022915936937156789320557469720923390131174387415513794469201054844961267015441141542819553679203788501627738430154234325528792480477051962324423099068299719245009424585859096469223093538032153047611602695245052081125123941502624659711709950000⟩)) (.tmp 51)) <|
 .op (some 53) .any [42, 44] (.iaddrS 1 (.tmp 42) (.tmp 44)) <|
 .op none .any [53, 50] (.store 1 (.tmp 53) (.tmp 50)) <|
 .op (some 54) .any [45, 47] (.iaddrS 1 (.tmp 45) (.tmp 47)) <|
 .op none .any [54, 52] (.store 1 (.tmp 54) (.tmp 52)) <|
 .nil) [0, 0, 2, 0, 0, 16, 0, 64, 192, 0, 512, 455, 2503, 8191, 16383])
 (.seq (.draw (.op (some 55) .any [0] (.mov (.tmp 0)) <|
 .op (some 56) .any [4] (.mov (.tmp 4)) <|
 .op (some 57) .any [56] (.bin .sub .none (.tmp 56) (.con (V.int .i64 (Int.ofNat 3)))) <|
 .op (some 58) .any [0] (.mov (.tmp 0)) <|
 .op (some 59) .any [4] (.mov (.tmp 4)) <|
 .op (some 60) .any [59] (.bin .sub .none (.tmp 59) (.con (V.int .i64 (Int.ofNat 4)))) <|
 .op (some 61) .any [8] (.mov (.tmp 8)) <|
 .op (some 62) .any [61] (.bin .add .none (.tmp 61) (.con (V.int .u32 (Int.ofNat 1)))) <|
 .op (some 63) .any [62] (.idxStr (.con (V.str ⟨200, 9938655150514779720929161263213647789093395803754561035662628441001274968862597953692946393464194303251501229616933063375291039650253924995779037586872666250072396106842829501851083234932712366962979930255066872747696324303968523733872590022915936937156789320557469720923390131174387415513794469201054844961267015441141542819553679203788501627738430154234325528792480477051962324423099068299719245009424585859096469223093538032153047611602695245052081125123941502624659711709950000⟩)) (.tmp 62)) <|
 .op (some 64) .any [8] (.mov (.tmp 8)) <|
 .op (some 65) .any [64] (.idxStr (.con (V.str ⟨200, 9938655150514779720929161263213647789093395803754561035662628441001274968862597953692946393464194303251501229616933063375291039650253924995779037586872666250072396106842829501851083234932712366962979930255066872747696324303968523733872590022915936937156789320557469720923390131174387415513794469201054844961267015441141542819553679203788501627738430154234325528792480477051962324423099068299719245009424585859096469223093538032153047611602695245052081125123941502624659711709950000⟩)) (.tmp 64)) <|
 .op (some 66) .any [55, 57] (.iaddrS 1 (.tmp 55) (.tmp 57)) <|
 .op none .any [66, 63] (.store 1 (.tmp 66) (.tmp 63)) <|
 .op (some 67) .any [58, 60] (.iaddrS 1 (.tmp 58) (.tmp 60)) <|
 .op none .any [67, 65] (.store 1 (.tmp 67) (.tmp 65)) <|
 .nil) [0, 0, 2, 0, 0, 16, 0, 64, 192, 0, 512, 455, 2503, 8191, 16383])
 (.seq (.draw (.op (some 68) .any [0] (.mov (.tmp 0)) <|
 .op (some 69) .any [4] (.mov (.tmp 4)) <|
 .op (some 70) .any [69] (.bin .sub .none (.tmp 69) (.con (V.int .i64 (Int.ofNat 5)))) <|
 .op (some 71) .any [0] (.mov (.tmp 0)) <|
 .op (some 72) .any [4] (.mov (.tmp 4)) <|
 .op (some 73) .any [72] (.bin .sub .none (.tmp 72) (.con (V.int .i64 (Int.ofNat 6)))) <|
 .op (some 74) .any [11] (.mov (.tmp 11)) <|
 .op (some 75) .any [74] (.bin .add .none (.tmp 74) (.con (V.int .u32 (Int.ofNat 1)))) <|
 .op (some 76) .any [75] (.idxStr (.con (V.str ⟨200, 9938655150514779720929161263213647789093395803754561035662628441001274968862597953692946393464194303251501229616933063375291039650253924995779037586872666250072396106842829501851083234932712366962979930255066872747696324303968523733872590022915936937156789320557469720923390131174387415513794469201054844961267015441141542819553679203788501627738430154234325528792480477051962324423099068299719245009424585859096469223093538032153047611602695245052081125123941502624659711709950000⟩)) (.tmp 75)) <|
 .op (some 77) .any [11] (.mov (.tmp 11)) <|
 .op (some 78) .any [77] (.idxStr (.con (V.str ⟨200, 9938655150514779720929161263213647789093395803754561035662628441001274968862597953692946393464194303251501229616933063375291039650253924995779037586872666250072396106842829501851083234932712366962979930255066872747696324303968523733872590022915936937156789320557469720923390131174387415513794469201054844961267015441141542819553679203788501627738430154234325528792480477051962324423099068299719245009424585859096469223093538032153047611602695245052081125123941502624659711709950000⟩)) (.tmp 77)) <|
 .op (some 79) .any [68, 70] (.iaddrS 1 (.tmp 68) (.tmp 70)) <|
 .op none .any [79, 76] (.store 1 (.tmp 79) (.tmp 76)) <|
 .op (some 80) .any [71, 73] (.iaddrS 1 (.tmp 71) (.tmp 73)) <|
 .op none .any [80, 78] (.store 1 (.tmp 80) (.tmp 78)) <|
 .nil) [0, 0, 2, 0, 0, 16, 0, 64, 192, 0, 512, 455, 2503, 8191, 16383])
 (.seq (.draw (.op (some 81) .any [0] (.mov (.tmp 0)) <|
 .op (some 82) .any [4] (.mov (.tmp 4)) <|
 .op (some 83) .any [82] (.bin .sub .none (.tmp 82) (.con (V.int .i64 (Int.ofNat 7)))) <|
 .op (some 84) .any [0] (.mov (.tmp 0)) <|
 .op (some 85) .any [4] (.mov (.tmp 4)) <|
 .op (some 86) .any [85] (.bin .sub .none (.tmp 85) (.con (V.int .i64 (Int.ofNat 8)))) <|
 .op (some 87) .any [10] (.mov (.tmp 10)) <|
 .op (some 88) .any [87] (.bin .add .none (.tmp 87) (.con (V.int .u32 (Int.ofNat 1)))) <|
 .op (some 89) .any [88] (.idxStr (.con (V.str ⟨200, 9938655150514779720929161263213647789093395803754561035662628441001274968862597953692946393464194303251501229616933063375291039650253924995779037586872666250072396106842829501851083234932712366962979930255066872747696324303968523733872590022915936937156789320557469720923390131174387415513794469201054844961267015441141542819553679203788501627738430154234325528792480477051962324423099068299719245009424585859096469223093538032153047611602695245052081125123941502624659711709950000⟩)) (.tmp 88)) <|
 .op (some 90) .any [10] (.mov (.tmp 10)) <|
 .op (some 91) .any [90] (.idxStr (.con (V.str ⟨200, 9938655150514779720929161263213647789093395803754561035662628441001274968862597953692946393464194303251501229616933063375291039650253924995779037586872666250072396106842829501851083234932712366962979930255066872747696324303968523733872590022915936937156789320557469720923390131174387415513794469201054844961267015441141542819553679203788501627738430154234325528792480477051962324423099068299719245009424585859096469223093538032153047611602695245052081125123941502624659711709950000⟩)) (.tmp 90)) <|
 .op (some 92) .any [81, 83] (.iaddrS 1 (.tmp 81) (.tmp 83)) <|
 .op none .any [92, 89] (.store 1 (.tmp 92) (.tmp 89)) <|
 .op (some 93) .any [84, 86] (.iaddrS 1 (.tmp 84) (.tmp 86)) <|
 .op none .any [93, 91] (.store 1 (.tmp 93) (.tmp 91)) <|
 .nil) [0, 0, 2, 0, 0, 16, 0, 64, 192, 0, 512, 455, 2503, 8191, 16383])
 (.ops (.op (some 94) .any [4] (.mov (.tmp 4)) <|
 .op (some 95) .any [94] (.bin .sub .none (.tmp 94) (.con (V.int .i64 (Int.ofNat 8)))) <|
 .op (some 4) .any [95] (.mov (.tmp 95)) <|
 .nil)))))))))))))
def T71_2 (E : List (Nat × Blk)) (D : Den) (W : DrawFn) (K1 : V → Int → Int → H → Ans) (R2 : V → Int → Int → H → Ans) (v0 : V) (v1 : Int) (v4 : Int) (σ : H) : Ans :=
 condK (leF (Int.ofNat 8) v4) (
 idxStrX (BS.mk 200 9938655150514779720929161263213647789093395803754561035662628441001274968862597953692946393464194303251501229616933063375291039650253924995779037586872666250072396106842829501851083234932712366962979930255066872747696324303968523733872590022915936937156789320557469720923390131174387415513794469201054844961267015441141542819553679203788501627738430154234325528792480477051962324423099068299719245009424585859096469223093538032153047611602695245052081125123941502624659711709950000) (addF .u32 (mulF .u32 (Int.tmod (Int.tmod (wrapF .u32 (Int.tmod v1 (Int.ofNat 100000000))) (Int.ofNat 10000)) (Int.ofNat 100)) (Int.ofNat 2)) (Int.ofNat 1)) fun x1 =>
 idxStrX (BS.mk 200 9938655150514779720929161263213647789093395803754561035662628441001274968862597953692946393464194303251501229616933063375291039650253924995779037586872666250072396106842829501851083234932712366962979930255066872747696324303968523733872590022915936937156789320557469720923390131174387415513794469201054844961267015441141542819553679203788501627738430154234325528792480477051962324423099068299719245009424585859096469223093538032153047611602695245052081125123941502624659711709950000) (mulF .u32 (Int.tmod (Int.tmod (wrapF .u32 (Int.tmod v1 (Int.ofNat 100000000))) (Int.ofNat 10000)) (Int.ofNat 100)) (Int.ofNat 2)) fun x2 =>
 iaddrSK 1 v0 (subF .i64 v4 (Int.ofNat 1)) fun b3 o4 =>
 stK 1 b3 o4 (V.int .u8 x1) σ fun s5 =>
 iaddrSK 1 v0 (subF .i64 v4 (Int.ofNat 2)) fun b6 o7 =>
 stK 1 b6 o7 (V.int .u8 x2) s5 fun s8 =>
 idxStrX (BS.mk 200 9938655150514779720929161263213647789093395803754561035662628441001274968862597953692946393464194303251501229616933063375291039650253924995779037586872666250072396106842829501851083234932712366962979930255066872747696324303968523733872590022915936937156789320557469720923390131174387415513794469201054844961267015441141542819553679203788501627738430154234325528792480477051962324423099068299719245009424585859096469223093538032153047611602695245052081125123941502624659711709950000) (addF .u32 (mulF .u32 (quoF .u32 (Int.tmod (wrapF .u32 (Int.tmod v1 (Int.ofNat 100000000))) (Int.ofNat 10000)) (Int.ofNat 100)) (Int.ofNat 2)) (Int.ofNat 1)) fun x9 =>
 idxStrX (BS.mk 200 9938655150514779720929161263213647789093395803754561035662628441001274968862597953692946393464194303251501229616933063375291039650253924995779037586872666250072396106842829501851083234932712366962979930255066872747696324303968523733872590022915936937156789320557469720923390131174387415513794469201054844961267015441141542819553679203788501627738430154234325528792480477051962324423099068299719245009424585859096469223093538032153047611602695245052081125123941502624659711709950000) (mulF .u32 (quoF .u32 (Int.tmod (wrapF .u32 (Int.tmod v1 (Int.ofNat 100000000))) (Int.ofNat 10000)) (Int.ofNat 100)) (Int.ofNat 2)) fun x10 =>
 iaddrSK 1 v0 (subF .i64 v4 (Int.ofNat 3)) fun b11 o12 =>
 stK 1 b11 o12 (V.int .u8 x9) s8 fun s13 =>
 iaddrSK 1 v0 (subF .i64 v4 (Int.ofNat 4)) fun b14 o15 =>
 stK 1 b14 o15 (V.int .u8 x10) s13 fun s16 =>
 idxStrX (BS.mk 200 9938655150514779720929161263213647789093395803754561035662628441001274968862597953692946393464194303251501229616933063375291039650253924995779037586872666250072396106842829501851083234932712366962979930255066872747696324303968523733872590022915936937156789320557469720923390131174387415513794469201054844961267015441141542819553679203788501627738430154234325528792480477051962324423099068299719245009424585859096469223093538032153047611602695245052081125123941502624659711709950000) (addF .u32 (mulF .u32 (Int.tmod (quoF .u32 (wrapF .u32 (Int.tmod v1 (Int.ofNat 100000000))) (Int.ofNat 10000)) (Int.ofNat 100)) (Int.ofNat 2)) (Int.ofNat 1)) fun x17 =>
 idxStrX (BS.mk 200 9938655150514779720929161263213647789093395803754561035662628441001274968862597953692946393464194303251501229616933063375291039650253924995779037586872666250072396106842829501851083234932712366962979930255066872747696324303968523733872590022915936937156789320557469720923390131174387415513794469201054844961267015441141542819553679203788501627738430154234325528792480477051962324423099068299719245009424585859096469223093538032153047611602695245052081125123941502624659711709950000) (mulF .u32 (Int.tmod (quoF .u32 (wrapF .u32 (Int.tmod v1 (Int.ofNat 100000000))) (Int.ofNat 10000)) (Int.ofNat 100)) (Int.ofNat 2)) fun x18 =>
 iaddrSK 1 v0 (subF .i64 v4 (Int.ofNat 5)) fun b19 o20 =>
 stK 1 b19 o20 (V.int .u8 x17) s16 fun s21 =>
 iaddrSK 1 v0 (subF .i64 v4 (Int.ofNat 6)) fun b22 o23 =>
 stK 1 b22 o23 (V.int .u8 x18) s21 fun s24 =>
 idxStrX (BS.mk 200 9938655150514779720929161263213647789093395803754561035662628441001274968862597953692946393464194303251501229616933063375291039650253924995779037586872666250072396106842829501851083234932712366962979930255066872747696324303968523733872590022915936937156789320557469720923390131174387415513794469201054844961267015441141542819553679203788501627738430154234325528792480477051962324423099068299719245009424585859096469223093538032153047611602695245052081125123941502624659711709950000) (addF .u32 (mulF .u32 (quoF .u32 (quoF .u32 (wrapF .u32 (Int.tmod v1 (Int.ofNat 100000000))) (Int.ofNat 10000)) (Int.ofNat 100)) (Int.ofNat 2)) (Int.ofNat 1)) fun x25 =>
 idxStrX (BS.mk 200 9938655150514779720929161263213647789093395803754561035662628441001274968862597953692946393464194303251501229616933063375291039650253924995779037586872666250072396106842829501851083234932712366962979930255066872747696324303968523733872590022915936937156789320557469720923390131174387415513794469201054844961267015441141542819553679203788501627738430154234325528792480477051962324423099068299719245009424585859096469223093538032153047611602695245052081125123941502624659711709950000) (mulF .u32 (quoF .u32 (quoF .u32 (wrapF .u32 (Int.tmod v1 (Int.ofNat 100000000))) (Int.ofNat 10000)) (Int.ofNat 100)) (Int.ofNat 2)) fun x26 =>
 iaddrSK 1 v0 (subF .i64 v4 (Int.ofNat 7)) fun b27 o28 =>
 stK 1 b27 o28 (V.int .u8 x25) s24 fun s29 =>
 iaddrSK 1 v0 (subF .i64 v4 (Int.ofNat 8)) fun b30 o31 =>
 stK 1 b30 o31 (V.int .u8 x26) s29 fun s32 =>
 R2 v0 (quoF .u64 v1 (Int.ofNat 100000000)) (subF .i64 v4 (Int.ofNat 8)) s32) (
 K1 v0 v1 v4 σ)
def C71_3 (cc4 : XC) : XC := (.seq (.seq (.ops (.op (some 138) .any [4] (.mov (.tmp 4)) <|
 .op (some 139) .any [138] (.bin .geq .none (.tmp 138) (.con (V.int .i64 (Int.ofNat 2)))) <|
 .nil))
 (.cond (.tmp 139) (.seq (.ops (.op (some 140) .any [12] (.mov (.tmp 12)) <|
 .op (some 141) .any [140] (.bin .rem .none (.tmp 140) (.con (V.int .u32 (Int.ofNat 100)))) <|
 .op (some 142) .any [141] (.bin .mul .none (.tmp 141) (.con (V.int .u32 (Int.ofNat 2)))) <|
 .op (some 16) .any [142] (.mov (.tmp 142)) <|
 .nil))
 (.seq (.ops (.op (some 143) .any [12] (.mov (.tmp 12)) <|
 .op (some 144) .any [143] (.bin .quo .none (.tmp 143) (.con (V.int .u32 (Int.ofNat 100)))) <|
 .op (some 12) .any [144] (.mov (.tmp 144)) <|
 .nil))
 (.seq (.draw (.op (some 145) .any [0] (.mov (.tmp 0)) <|
 .op (some 146) .any [4] (.mov (.tmp 4)) <|
 .op (some 147) .any [146] (.bin .sub .none (.tmp 146) (.con (V.int .i64 (Int.ofNat 1)))) <|
 .op (some 148) .any [0] (.mov (.tmp 0)) <|
 .op (some 149) .any [4] (.mov (.tmp 4)) <|
 .op (some 150) .any [149] (.bin .sub .none (.tmp 149) (.con (V.int .i64 (Int.ofNat 2)))) <|
 .op (some 151) .any [16] (.mov (.tmp 16)) <|
 .op (some 152) .any [151] (.bin .add .none (.tmp 151) (.con (V.int .u32 (Int.ofNat 1)))) <|
 .op (some 153) .any [152] (.idxStr (.con (V.str ⟨200, 9938655150514779720929161263213647789093395803754561035662628441001274968862597953692946393464194303251501229616933063375291039650253924995779037586872666250072396106842829501851083234932712366962979930255066872747696324303968523733872590022915936937156789320557469720923390131174387415513794469201054844961267015441141542819553679203788501627738430154234325528792480477051962324423099068299719245009424585859096469223093538032153047611602695245052081125123941502624659711709950000⟩)) (.tmp 152)) <|
 .op (some 154) .any [16] (.mov (.tmp 16)) <|
 .op (some 155) .any [154] (.idxStr (.con (V.str ⟨200, 9938655150514779720929161263213647789093395803754561035662628441001274968862597953692946393464194303251501229616933063375291039650253924995779037586872666250072396106842829501851083234932712366962979930255066872747696324303968523733872590022915936937156789320557469720923390131174387415513794469201054844961267015441141542819553679203788501627738430154234325528792480477051962324423099068299719245009424585859096469223093538032153047611602695245052081125123941502624659711709950000⟩)) (.tmp 154)) <|
 .op (some 156) .any [145, 147] (.iaddrS 1 (.tmp 145) (.tmp 147)) <|
 .op none .any [156, 153] (.store 1 (.tmp 156) (.tmp 153)) <|
 .op (some 157) .any [148, 150] (.iaddrS 1 (.tmp 148) (.tmp 150)) <|
 .op none .any [157, 155] (.store 1 (.tmp 157) (.tmp 155)) <|
 .nil) [0, 0, 2, 0, 0, 16, 0, 64, 192, 0, 512, 455, 2503, 8191, 16383])
 (.ops (.op (some 158) .any [4] (.mov (.tmp 4)) <|
 .op (some 159) .any [158] (.bin .sub .none (.tmp 158) (.con (V.int .i64 (Int.ofNat 2)))) <|
 .op (some 4) .any [159] (.mov (.tmp 159)) <|
 .nil)))))
 .skip))
 (.keep [(0, .any), (4, (.int .i64)), (12, (.int .u32))] [] [] cc4))
def T71_3 (E : List (Nat × Blk)) (D : Den) (W : DrawFn) (K4 : V → Int → Int → H → Ans) (v0 : V) (v4 : Int) (v12 : Int) (σ : H) : Ans :=
 condK (leF (Int.ofNat 2) v4) (
 idxStrX (BS.mk 200 9938655150514779720929161263213647789093395803754561035662628441001274968862597953692946393464194303251501229616933063375291039650253924995779037586872666250072396106842829501851083234932712366962979930255066872747696324303968523733872590022915936937156789320557469720923390131174387415513794469201054844961267015441141542819553679203788501627738430154234325528792480477051962324423099068299719245009424585859096469223093538032153047611602695245052081125123941502624659711709950000) (addF .u32 (mulF .u32 (Int.tmod v12 (Int.ofNat 100)) (Int.ofNat 2)) (Int.ofNat 1)) fun x1 =>
 idxStrX (BS.mk 200 9938655150514779720929161263213647789093395803754561035662628441001274968862597953692946393464194303251501229616933063375291039650253924995779037586872666250072396106842829501851083234932712366962979930255066872747696324303968523733872590022915936937156789320557469720923390131174387415513794469201054844961267015441141542819553679203788501627738430154234325528792480477051962324423099068299719245009424585859096469223093538032153047611602695245052081125123941502624659711709950000) (mulF .u32 (Int.tmod v12 (Int.ofNat 100)) (Int.ofNat 2)) fun x2 =>
 iaddrSK 1 v0 (subF .i64 v4 (Int.ofNat 1)) fun b3 o4 =>
 stK 1 b3 o4 (V.int .u8 x1) σ fun s5 =>
 iaddrSK 1 v0 (subF .i64 v4 (Int.ofNat 2)) fun b6 o7 =>
 stK 1 b6 o7 (V.int .u8 x2) s5 fun s8 =>
 K4 v0 (subF .i64 v4 (Int.ofNat 2)) (quoF .u32 v12 (Int.ofNat 100)) s8) (
 K4 v0 v4 v12 σ)
def C71_4 : XC := (.seq (.ops (.op (some 160) .any [4] (.mov (.tmp 4)) <|
 .op (some 161) .any [160] (.bin .gtr .none (.tmp 160) (.con (V.int .i64 (Int.ofNat 0)))) <|
 .nil))
 (.cond (.tmp 161) (.ops (.op (some 162) .any [0] (.mov (.tmp 0)) <|
 .op (some 163) .any [12] (.mov (.tmp 12)) <|
 .op (some 164) .any [163] (.bin .add .none (.con (V.int .u32 (Int.ofNat 48))) (.tmp 163)) <|
 .op (some 165) .any [164] (.conv (.toInt .u8) (.tmp 164)) <|
 .op (some 166) .any [162] (.iaddrS 1 (.tmp 162) (.con (V.int .i64 (Int.ofNat 0)))) <|
 .op none .any [166, 165] (.store 1 (.tmp 166) (.tmp 165)) <|
 .nil))
 .skip))
def T71_4 (E : List (Nat × Blk)) (D : Den) (W : DrawFn) (v0 : V) (v4 : Int) (v12 : Int) (σ : H) : Ans :=
 condK (ltF (Int.ofNat 0) v4) (
 iaddrSK 1 v0 (Int.ofNat 0) fun b1 o2 =>
 stK 1 b1 o2 (V.int .u8 (wrapF .u8 (addF .u32 (Int.ofNat 48) v12))) σ fun s3 =>
 some ((V.tup []), s3)) (
 some ((V.tup []), σ))
theorem P71_0 (E : List (Nat × Blk)) (D : Den) (W : DrawFn) (N : Nat) (cc1 : XC) (cc2 : XC) (v0 : V) (v1 : Int) (σ : H) :
  denC E D W N (C71_0 cc1 cc2) ⟨[(0, v0), (1, (V.int .u64 v1))], [], [], σ⟩ (Fin71 E) (fun _ _ => none) (Fin71 E) =
  T71_0 E D W (fun v0 v1 v4 σ => iterK (fun rec s' => denC E D W N cc2 s' (fun s'' => keepS [(0, .any), (1, (.int .u64)), (4, (.int .i64))] [] [] s'' rec) (blkK 0 (fun s' => denC E D W N (.keep [(0, .any), (1, (.int .u64)), (4, (.int .i64))] [] [] cc1) s' (Fin71 E) (fun _ _ => none) (Fin71 E)) (fun _ _ => none)) (Fin71 E)) N ⟨[(0, v0), (1, (V.int .u64 v1)), (4, (V.int .i64 v4))], [], [], σ⟩) v0 v1 σ := by kernel_rfl
theorem P71_1 (E : List (Nat × Blk)) (D : Den) (W : DrawFn) (N : Nat) (cc3 : XC) (v0 : V) (v1 : Int) (v4 : Int) (σ : H) :
  denC E D W N (C71_1 cc3) ⟨[(0, v0), (1, (V.int .u64 v1)), (4, (V.int .i64 v4))], [], [], σ⟩ (Fin71 E) (fun _ _ => none) (Fin71 E) =
  T71_1 E D W (fun v0 v4 v12 σ => denC E D W N cc3 ⟨[(0, v0), (4, (V.int .i64 v4)), (12, (V.int .u32 v12))], [], [], σ⟩ (Fin71 E) (fun _ _ => none) (Fin71 E)) v0 v1 v4 σ := by kernel_rfl
theorem P71_2 (E : List (Nat × Blk)) (D : Den) (W : DrawFn) (N : Nat) (cc1 : XC) (li2 : St → Ans) (v0 : V) (v1 : Int) (v4 : Int) (σ : H) :
  denC E D W N (C71_2 ) ⟨[(0, v0), (1, (V.int .u64 v1)), (4, (V.int .i64 v4))], [], [], σ⟩ (fun s'' => keepS [(0, .any), (1, (.int .u64)), (4, (.int .i64))] [] [] s'' li2) (blkK 0 (fun s' => denC E D W N (.keep [(0, .any), (1, (.int .u64)), (4, (.int .i64))] [] [] cc1) s' (Fin71 E) (fun _ _ => none) (Fin71 E)) (fun _ _ => none)) (Fin71 E) =
  T71_2 E D W (fun v0 v1 v4 σ => denC E D W N cc1 ⟨[(0, v0), (1, (V.int .u64 v1)), (4, (V.int .i64 v4))], [], [], σ⟩ (Fin71 E) (fun _ _ => none) (Fin71 E)) (fun v0 v1 v4 σ => li2 ⟨[(0, v0), (1, (V.int .u64 v1)), (4, (V.int .i64 v4))], [], [], σ⟩) v0 v1 v4 σ := by kernel_rfl
theorem P71_3 (E : List (Nat × Blk)) (D : Den) (W : DrawFn) (N : Nat) (cc4 : XC) (v0 : V) (v4 : Int) (v12 : Int) (σ : H) :
  denC E D W N (C71_3 cc4) ⟨[(0, v0), (4, (V.int .i64 v4)), (12, (V.int .u32 v12))], [], [], σ⟩ (Fin71 E) (fun _ _ => none) (Fin71 E) =
  T71_3 E D W (fun v0 v4 v12 σ => denC E D W N cc4 ⟨[(0, v0), (4, (V.int .i64 v4)), (12, (V.int .u32 v12))], [], [], σ⟩ (Fin71 E) (fun _ _ => none) (Fin71 E)) v0 v4 v12 σ := by kernel_rfl
theorem P71_4 (E : List (Nat × Blk)) (D : Den) (W : DrawFn) (N : Nat) (v0 : V) (v4 : Int) (v12 : Int) (σ : H) :
  denC E D W N (C71_4 ) ⟨[(0, v0), (4, (V.int .i64 v4)), (12, (V.int .u32 v12))], [], [], σ⟩ (Fin71 E) (fun _ _ => none) (Fin71 E) =
  T71_4 E D W  v0 v4 v12 σ := by kernel_rfl
def J71_4 (E : List (Nat × Blk)) (D : Den) (W : DrawFn) (N : Nat) : V → Int → Int → H → Ans := T71_4 E D W 
theorem JE71_4 (E : List (Nat × Blk)) (D : Den) (W : DrawFn) (N : Nat) (v0 : V) (v4 : Int) (v12 : Int) (σ : H) :
  denC E D W N C71_4 ⟨[(0, v0), (4, (V.int .i64 v4)), (12, (V.int .u32 v12))], [], [], σ⟩ (Fin71 E) (fun _ _ => none) (Fin71 E) = J71_4 E D W N v0 v4 v12 σ := by
  refine (P71_4 E D W N   v0 v4 v12 σ).trans ?_
  kernel_rfl
def J71_3 (E : List (Nat × Blk)) (D : Den) (W : DrawFn) (N : Nat) : V → Int → Int → H → Ans := T71_3 E D W (J71_4 E D W N )
theorem JE71_3 (E : List (Nat × Blk)) (D : Den) (W : DrawFn) (N : Nat) (v0 : V) (v4 : Int) (v12 : Int) (σ : H) :
  denC E D W N (C71_3 C71_4) ⟨[(0, v0), (4, (V.int .i64 v4)), (12, (V.int .u32 v12))], [], [], σ⟩ (Fin71 E) (fun _ _ => none) (Fin71 E) = J71_3 E D W N v0 v4 v12 σ := by
  refine (P71_3 E D W N C71_4  v0 v4 v12 σ).trans ?_
  simp only [JE71_4]
  kernel_rfl
def J71_1 (E : List (Nat × Blk)) (D : Den) (W : DrawFn) (N : Nat) : V → Int → Int → H → Ans := T71_1 E D W (J71_3 E D W N )
theorem JE71_1 (E : List (Nat × Blk)) (D : Den) (W : DrawFn) (N : Nat) (v0 : V) (v1 : Int) (v4 : Int) (σ : H) :
  denC E D W N (C71_1 (C71_3 C71_4)) ⟨[(0, v0), (1, (V.int .u64 v1)), (4, (V.int .i64 v4))], [], [], σ⟩ (Fin71 E) (fun _ _ => none) (Fin71 E) = J71_1 E D W N v0 v1 v4 σ := by
  refine (P71_1 E D W N (C71_3 C71_4)  v0 v1 v4 σ).trans ?_
  simp only [JE71_3]
  kernel_rfl
def L71_2 (E : List (Nat × Blk)) (D : Den) (W : DrawFn) (N : Nat) (n : Nat) : V → Int → Int → H → Ans :=
  Nat.rec (fun _ _ _ _ => none) (fun _ ih => T71_2 E D W (J71_1 E D W N ) ih) n
theorem LE71_2 (E : List (Nat × Blk)) (D : Den) (W : DrawFn) (N : Nat) (n : Nat) : ∀ (v0 : V) (v1 : Int) (v4 : Int) (σ : H),
  iterK (fun rec s' => denC E D W N C71_2 s' (fun s'' => keepS [(0, .any), (1, (.int .u64)), (4, (.int .i64))] [] [] s'' rec) (blkK 0 (fun s' => denC E D W N (.keep [(0, .any), (1, (.int .u64)), (4, (.int .i64))] [] [] (C71_1 (C71_3 C71_4))) s' (Fin71 E) (fun _ _ => none) (Fin71 E)) (fun _ _ => none)) (Fin71 E)) n ⟨[(0, v0), (1, (V.int .u64 v1)), (4, (V.int .i64 v4))], [], [], σ⟩ = L71_2 E D W N n v0 v1 v4 σ := by
  induction n with
  | zero => intro v0 v1 v4 σ; rfl
  | succ n ihn =>
    intro v0 v1 v4 σ
    rw [iterK_succ]
    refine (P71_2 E D W N (C71_1 (C71_3 C71_4)) (iterK (fun rec s' => denC E D W N C71_2 s' (fun s'' => keepS [(0, .any), (1, (.int .u64)), (4, (.int .i64))] [] [] s'' rec) (blkK 0 (fun s' => denC E D W N (.keep [(0, .any), (1, (.int .u64)), (4, (.int .i64))] [] [] (C71_1 (C71_3 C71_4))) s' (Fin71 E) (fun _ _ => none) (Fin71 E)) (fun _ _ => none)) (Fin71 E)) n) v0 v1 v4 σ).trans ?_
    simp only [ihn, JE71_1]
    kernel_rfl
def J71_0 (E : List (Nat × Blk)) (D : Den) (W : DrawFn) (N : Nat) : V → Int → H → Ans := T71_0 E D W (L71_2 E D W N N)
theorem JE71_0 (E : List (Nat × Blk)) (D : Den) (W : DrawFn) (N : Nat) (v0 : V) (v1 : Int) (σ : H) :
  denC E D W N (C71_0 (C71_1 (C71_3 C71_4)) C71_2) ⟨[(0, v0), (1, (V.int .u64 v1))], [], [], σ⟩ (Fin71 E) (fun _ _ => none) (Fin71 E) = J71_0 E D W N v0 v1 σ := by
  refine (P71_0 E D W N (C71_1 (C71_3 C71_4)) C71_2  v0 v1 σ).trans ?_
  simp only [LE71_2]
  kernel_rfl
def F71 (E : List (Nat × Blk)) (D : Den) (W : DrawFn) (N : Nat) (args : List V) (σ : H) : Ans :=
 rtCons args fun x1 l2 =>
 rtCons l2 fun x3 l4 =>
 rtInt .u64 x3 fun x5 =>
 rtNil l4 (
 J71_0 E D W N x1 x5 σ)
def A71 : XFn := ⟨167, [.any, (.int .u64)], [], (C71_0 (C71_1 (C71_3 C71_4)) C71_2)⟩
theorem FE71 (E : List (Nat × Blk)) (D : Den) (W : DrawFn) (N : Nat) (args : List V) (σ : H) : runX E D W N A71 args σ = F71 E D W N args σ := by
  unfold F71
  simp only [← JE71_0]
  kernel_rfl
theorem AO71 : A71.body.ok = true := by kernel_rfl

/-! ### F73: internal_strconv.log10Pow2 -/
def Fin73 (E : List (Nat × Blk)) : St → Ans := fun s => resK E s [(.tmp 2)] fun l => some (oneV l, s.σ)
def C73_0 : XC := (.seq (.ops (.op (some 2) .any [] (.mov (.con (V.int .i64 (Int.ofNat 0)))) <|
 .nil))
 (.seq (.ops (.op (some 3) .any [0] (.mov (.tmp 0)) <|
 .op (some 4) .any [3] (.bin .mul .none (.tmp 3) (.con (V.int .i64 (Int.ofNat 78913)))) <|
 .op (some 5) .any [4] (.bin .shr .none (.tmp 4) (.con (V.int .u64 (Int.ofNat 18)))) <|
 .op (some 2) .any [5] (.mov (.tmp 5)) <|
 .nil))
 .ret))
def T73_0 (E : List (Nat × Blk)) (D : Den) (W : DrawFn) (v0 : Int) (σ : H) : Ans :=
 some ((V.int .i64 (shrF .i64 (mulF .i64 v0 (Int.ofNat 78913)) 18)), σ)
theorem P73_0 (E : List (Nat × Blk)) (D : Den) (W : DrawFn) (N : Nat) (v0 : Int) (σ : H) :
  denC E D W N (C73_0 ) ⟨[(0, (V.int .i64 v0))], [], [], σ⟩ (Fin73 E) (fun _ _ => none) (Fin73 E) =
  T73_0 E D W  v0 σ := by kernel_rfl
def J73_0 (E : List (Nat × Blk)) (D : Den) (W : DrawFn) (N : Nat) : Int → H → Ans := T73_0 E D W 
theorem JE73_0 (E : List (Nat × Blk)) (D : Den) (W : DrawFn) (N : Nat) (v0 : Int) (σ : H) :
  denC E D W N C73_0 ⟨[(0, (V.int .i64 v0))], [], [], σ⟩ (Fin73 E) (fun _ _ => none) (Fin73 E) = J73_0 E D W N v0 σ := by
  refine (P73_0 E D W N   v0 σ).trans ?_
  kernel_rfl
def F73 (E : List (Nat × Blk)) (D : Den) (W : DrawFn) (N : Nat) (args : List V) (σ : H) : Ans :=
 rtCons args fun x1 l2 =>
 rtInt .i64 x1 fun x3 =>
 rtNil l2 (
 J73_0 E D W N x3 σ)
def A73 : XFn := ⟨6, [(.int .i64)], [(.tmp 2)], C73_0⟩
theorem FE73 (E : List (Nat × Blk)) (D : Den) (W : DrawFn) (N : Nat) (args : List V) (σ : H) : runX E D W N A73 args σ = F73 E D W N args σ := by
  unfold F73
  simp only [← JE73_0]
  kernel_rfl
theorem AO73 : A73.body.ok = true := by kernel_rfl

/-! ### F74: math_bits.Len64 -/
def Fin74 (E : List (Nat × Blk)) : St → Ans := fun s => resK E s [(.tmp 2)] fun l => some (oneV l, s.σ)
def C74_0 (cc1 : XC) : XC := (.seq (.ops (.op (some 2) .any [] (.mov (.con (V.int .i64 (Int.ofNat 0)))) <|
 .nil))
 (.seq (.seq (.ops (.op (some 3) .any [0] (.mov (.tmp 0)) <|
 .op (some 4) .any [3] (.bin .geq .none (.tmp 3) (.con (V.int .u64 (Int.ofNat 4294967296)))) <|
 .nil))
 (.cond (.tmp 4) (.seq (.ops (.op (some 5) .any [0] (.mov (.tmp 0)) <|
 .op (some 6) .any [5] (.bin .shr .none (.tmp 5) (.con (V.int .u64 (Int.ofNat 32)))) <|
 .op (some 0) .any [6] (.mov (.tmp 6)) <|
 .nil))
 (.ops (.op (some 2) .any [] (.mov (.con (V.int .i64 (Int.ofNat 32)))) <|
 .nil)))
 .skip))
 (.keep [(0, (.int .u64)), (2, (.int .i64))] [] [] cc1)))
def T74_0 (E : List (Nat × Blk)) (D : Den) (W : DrawFn) (K1 : Int → Int → H → Ans) (v0 : Int) (σ : H) : Ans :=
 condK (leF (Int.ofNat 4294967296) v0) (
 K1 (shrF .u64 v0 32) (Int.ofNat 32) σ) (
 K1 v0 (Int.ofNat 0) σ)
def C74_1 (cc2 : XC) : XC := (.seq (.seq (.ops (.op (some 7) .any [0] (.mov (.tmp 0)) <|
 .op (some 8) .any [7] (.bin .geq .none (.tmp 7) (.con (V.int .u64 (Int.ofNat 65536)))) <|
 .nil))
 (.cond (.tmp 8) (.seq (.ops (.op (some 9) .any [0] (.mov (.tmp 0)) <|
 .op (some 10) .any [9] (.bin .shr .none (.tmp 9) (.con (V.int .u64 (Int.ofNat 16)))) <|
 .op (some 0) .any [10] (.mov (.tmp 10)) <|
 .nil))
 (.ops (.op (some 11) .any [2] (.mov (.tmp 2)) <|
 .op (some 12) .any [11] (.bin .add .none (.tmp 11) (.con (V.int .i64 (Int.ofNat 16)))) <|
 .op (some 2) .any [12] (.mov (.tmp 12)) <|
 .nil)))
 .skip))
 (.keep [(0, (.int .u64)), (2, (.int .i64))] [] [] cc2))
def T74_1 (E : List (Nat × Blk)) (D : Den) (W : DrawFn) (K2 : Int → Int → H → Ans) (v0 : Int) (v2 : Int) (σ : H) : Ans :=
 condK (leF (Int.ofNat 65536) v0) (
 K2 (shrF .u64 v0 16) (addF .i64 v2 (Int.ofNat 16)) σ) (
 K2 v0 v2 σ)
def C74_2 (cc3 : XC) : XC := (.seq (.seq (.ops (.op (some 13) .any [0] (.mov (.tmp 0)) <|
 .op (some 14) .any [13] (.bin .geq .none (.tmp 13) (.con (V.int .u64 (Int.ofNat 256)))) <|
 .nil))
 (.cond (.tmp 14) (.seq (.ops (.op (some 15) .any [0] (.mov (.tmp 0)) <|
 .op (some 16) .any [15] (.bin .shr .none (.tmp 15) (.con (V.int .u64 (Int.ofNat 8)))) <|
 .op (some 0) .any [16] (.mov (.tmp 16)) <|
 .nil))
 (.ops (.op (some 17) .any [2] (.mov (.tmp 2)) <|
 .op (some 18) .any [17] (.bin .add .none (.tmp 17) (.con (V.int .i64 (Int.ofNat 8)))) <|
 .op (some 2) .any [18] (.mov (.tmp 18)) <|
 .nil)))
 .skip))
 (.keep [(0, (.int .u64)), (2, (.int .i64))] [] [] cc3))
def T74_2 (E : List (Nat × Blk)) (D : Den) (W : DrawFn) (K3 : Int → Int → H → Ans) (v0 : Int) (v2 : Int) (σ : H) : Ans :=
 condK (leF (Int.ofNat 256) v0) (
 K3 (shrF .u64 v0 8) (addF .i64 v2 (Int.ofNat 8)) σ) (
 K3 v0 v2 σ)
def C74_3 : XC := (.seq (.ops (.op (some 19) .any [2] (.mov (.tmp 2)) <|
 .op (some 20) .any [0] (.mov (.tmp 0)) <|
 .op (some 21) .any [20] (.conv (.toInt .u8) (.tmp 20)) <|
 .op (some 22) .any [21] (.idxStr (.con (V.str ⟨256, 1013866857139168856493015739252390649739422828853819106890363778118420553376247557433637691341895324351018602695588957474325319502760499485336098898398377509666851054660423406800006203933793007272033180812049178612605246075062580585469430410618860250057463399279570354286669047577758927328864388992123306212451509403152394148136105363817402562688186708175358218852349079190158732807302672745370040257219644697201681238697346923541678507645485296520536209706771857694240900605172937619415410180424934769249448772944216470541052485265558808433676546390051204254346932932316488017972311616136051587427851453983453479168⟩)) (.tmp 21)) <|
 .op (some 23) .any [22] (.conv (.toInt .i64) (.tmp 22)) <|
 .op (some 24) .any [19, 23] (.bin .add .none (.tmp 19) (.tmp 23)) <|
 .op (some 2) .any [24] (.mov (.tmp 24)) <|
 .nil))
 .ret)
def T74_3 (E : List (Nat × Blk)) (D : Den) (W : DrawFn) (v0 : Int) (v2 : Int) (σ : H) : Ans :=
 idxStrX (BS.mk 256 1013866857139168856493015739252390649739422828853819106890363778118420553376247557433637691341895324351018602695588957474325319502760499485336098898398377509666851054660423406800006203933793007272033180812049178612605246075062580585469430410618860250057463399279570354286669047577758927328864388992123306212451509403152394148136105363817402562688186708175358218852349079190158732807302672745370040257219644697201681238697346923541678507645485296520536209706771857694240900605172937619415410180424934769249448772944216470541052485265558808433676546390051204254346932932316488017972311616136051587427851453983453479168) (wrapF .u8 v0) fun x1 =>
 some ((V.int .i64 (addF .i64 v2 (wrapF .i64 x1))), σ)
theorem P74_0 (E : List (Nat × Blk)) (D : Den) (W : DrawFn) (N : Nat) (cc1 : XC) (v0 : Int) (σ : H) :
  denC E D W N (C74_0 cc1) ⟨[(0, (V.int .u64 v0))], [], [], σ⟩ (Fin74 E) (fun _ _ => none) (Fin74 E) =
  T74_0 E D W (fun v0 v2 σ => denC E D W N cc1 ⟨[(0, (V.int .u64 v0)), (2, (V.int .i64 v2))], [], [], σ⟩ (Fin74 E) (fun _ _ => none) (Fin74 E)) v0 σ := by kernel_rfl
theorem P74_1 (E : List (Nat × Blk)) (D : Den) (W : DrawFn) (N : Nat) (cc2 : XC) (v0 : Int) (v2 : Int) (σ : H) :
  denC E D W N (C74_1 cc2) ⟨[(0, (V.int .u64 v0)), (2, (V.int .i64 v2))], [], [], σ⟩ (Fin74 E) (fun _ _ => none) (Fin74 E) =
  T74_1 E D W (fun v0 v2 σ => denC E D W N cc2 ⟨[(0, (V.int .u64 v0)), (2, (V.int .i64 v2))], [], [], σ⟩ (Fin74 E) (fun _ _ => none) (Fin74 E)) v0 v2 σ := by kernel_rfl
theorem P74_2 (E : List (Nat × Blk)) (D : Den) (W : DrawFn) (N : Nat) (cc3 : XC) (v0 : Int) (v2 : Int) (σ : H) :
  denC E D W N (C74_2 cc3) ⟨[(0, (V.int .u64 v0)), (2, (V.int .i64 v2))], [], [], σ⟩ (Fin74 E) (fun _ _ => none) (Fin74 E) =
  T74_2 E D W (fun v0 v2 σ => denC E D W N cc3 ⟨[(0, (V.int .u64 v0)), (2, (V.int .i64 v2))], [], [], σ⟩ (Fin74 E) (fun _ _ => none) (Fin74 E)) v0 v2 σ := by kernel_rfl
theorem P74_3 (E : List (Nat × Blk)) (D : Den) (W : DrawFn) (N : Nat) (v0 : Int) (v2 : Int) (σ : H) :
  denC E D W N (C74_3 ) ⟨[(0, (V.int .u64 v0)), (2, (V.int .i64 v2))], [], [], σ⟩ (Fin74 E) (fun _ _ => none) (Fin74 E) =
  T74_3 E D W  v0 v2 σ := by kernel_rfl
def J74_3 (E : List (Nat × Blk)) (D : Den) (W : DrawFn) (N : Nat) : Int → Int → H → Ans := T74_3 E D W 
theorem JE74_3 (E : List (Nat × Blk)) (D : Den) (W : DrawFn) (N : Nat) (v0 : Int) (v2 : Int) (σ : H) :
  denC E D W N C74_3 ⟨[(0, (V.int .u64 v0)), (2, (V.int .i64 v2))], [], [], σ⟩ (Fin74 E) (fun _ _ => none) (Fin74 E) = J74_3 E D W N v0 v2 σ := by
  refine (P74_3 E D W N   v0 v2 σ).trans ?_
  kernel_rfl
def J74_2 (E : List (Nat × Blk)) (D : Den) (W : DrawFn) (N : Nat) : Int → Int → H → Ans := T74_2 E D W (J74_3 E D W N )
theorem JE74_2 (E : List (Nat × Blk)) (D : Den) (W : DrawFn) (N : Nat) (v0 : Int) (v2 : Int) (σ : H) :
  denC E D W N (C74_2 C74_3) ⟨[(0, (V.int .u64 v0)), (2, (V.int .i64 v2))], [], [], σ⟩ (Fin74 E) (fun _ _ => none) (Fin74 E) = J74_2 E D W N v0 v2 σ := by
  refine (P74_2 E D W N C74_3  v0 v2 σ).trans ?_
  simp only [JE74_3]
  kernel_rfl
def J74_1 (E : List (Nat × Blk)) (D : Den) (W : DrawFn) (N : Nat) : Int → Int → H → Ans := T74_1 E D W (J74_2 E D W N )
theorem JE74_1 (E : List (Nat × Blk)) (D : Den) (W : DrawFn) (N : Nat) (v0 : Int) (v2 : Int) (σ : H) :
  denC E D W N (C74_1 (C74_2 C74_3)) ⟨[(0, (V.int .u64 v0)), (2, (V.int .i64 v2))], [], [], σ⟩ (Fin74 E) (fun _ _ => none) (Fin74 E) = J74_1 E D W N v0 v2 σ := by
  refine (P74_1 E D W N (C74_2 C74_3)  v0 v2 σ).trans ?_
  simp only [JE74_2]
  kernel_rfl
def J74_0 (E : List (Nat × Blk)) (D : Den) (W : DrawFn) (N : Nat) : Int → H → Ans := T74_0 E D W (J74_1 E D W N )
theorem JE74_0 (E : List (Nat × Blk)) (D : Den) (W : DrawFn) (N : Nat) (v0 : Int) (σ : H) :
  denC E D W N (C74_0 (C74_1 (C74_2 C74_3))) ⟨[(0, (V.int .u64 v0))], [], [], σ⟩ (Fin74 E) (fun _ _ => none) (Fin74 E) = J74_0 E D W N v0 σ := by
  refine (P74_0 E D W N (C74_1 (C74_2 C74_3))  v0 σ).trans ?_
  simp only [JE74_1]
  kernel_rfl
def F74 (E : List (Nat × Blk)) (D : Den) (W : DrawFn) (N : Nat) (args : List V) (σ : H) : Ans :=
 rtCons args fun x1 l2 =>
 rtInt .u64 x1 fun x3 =>
 rtNil l2 (
 J74_0 E D W N x3 σ)
def A74 : XFn := ⟨25, [(.int .u64)], [(.tmp 2)], (C74_0 (C74_1 (C74_2 C74_3)))⟩
theorem FE74 (E : List (Nat × Blk)) (D : Den) (W : DrawFn) (N : Nat) (args : List V) (σ : H) : runX E D W N A74 args σ = F74 E D W N args σ := by
  unfold F74
  simp only [← JE74_0]
  kernel_rfl
theorem AO74 : A74.body.ok = true := by kernel_rfl

/-! ### F75: internal_strconv.bool2_int_ -/
def Fin75 (E : List (Nat × Blk)) : St → Ans := fun s => resK E s [(.tmp 2)] fun l => some (oneV l, s.σ)
def C75_0 : XC := (.seq (.ops (.op (some 2) .any [] (.mov (.con (V.int .i64 (Int.ofNat 0)))) <|
 .nil))
 (.seq (.seq (.ops (.op (some 3) .any [0] (.mov (.tmp 0)) <|
 .nil))
 (.cond (.tmp 3) (.seq (.ops (.op (some 2) .any [] (.mov (.con (V.int .i64 (Int.ofNat 1)))) <|
 .nil))
 .ret)
 .skip))
 (.seq (.ops (.op (some 2) .any [] (.mov (.con (V.int .i64 (Int.ofNat 0)))) <|
 .nil))
 .ret)))
def T75_0 (E : List (Nat × Blk)) (D : Den) (W : DrawFn) (v0 : Bool) (σ : H) : Ans :=
 condK v0 (
 some ((V.int .i64 (Int.ofNat 1)), σ)) (
 some ((V.int .i64 (Int.ofNat 0)), σ))
theorem P75_0 (E : List (Nat × Blk)) (D : Den) (W : DrawFn) (N : Nat) (v0 : Bool) (σ : H) :
  denC E D W N (C75_0 ) ⟨[(0, (V.bool v0))], [], [], σ⟩ (Fin75 E) (fun _ _ => none) (Fin75 E) =
  T75_0 E D W  v0 σ := by kernel_rfl
def J75_0 (E : List (Nat × Blk)) (D : Den) (W : DrawFn) (N : Nat) : Bool → H → Ans := T75_0 E D W 
theorem JE75_0 (E : List (Nat × Blk)) (D : Den) (W : DrawFn) (N : Nat) (v0 : Bool) (σ : H) :
  denC E D W N C75_0 ⟨[(0, (V.bool v0))], [], [], σ⟩ (Fin75 E) (fun _ _ => none) (Fin75 E) = J75_0 E D W N v0 σ := by
  refine (P75_0 E D W N   v0 σ).trans ?_
  kernel_rfl
def F75 (E : List (Nat × Blk)) (D : Den) (W : DrawFn) (N : Nat) (args : List V) (σ : H) : Ans :=
 rtCons args fun x1 l2 =>
 rtBool x1 fun x3 =>
 rtNil l2 (
 J75_0 E D W N x3 σ)
def A75 : XFn := ⟨4, [.bool], [(.tmp 2)], C75_0⟩
theorem FE75 (E : List (Nat × Blk)) (D : Den) (W : DrawFn) (N : Nat) (args : List V) (σ : H) : runX E D W N A75 args σ = F75 E D W N args σ := by
  unfold F75
  simp only [← JE75_0]
  kernel_rfl
theorem AO75 : A75.body.ok = true := by kernel_rfl

/-! ### F76: internal_strconv.isPowerOfTwo -/
def Fin76 (E : List (Nat × Blk)) : St → Ans := fun s => resK E s [(.tmp 2)] fun l => some (oneV l, s.σ)
def C76_0 : XC := (.seq (.ops (.op (some 2) .any [] (.mov (.con (V.bool false))) <|
 .nil))
 (.seq (.ops (.op (some 3) .any [0] (.mov (.tmp 0)) <|
 .op (some 4) .any [0] (.mov (.tmp 0)) <|
 .op (some 5) .any [4] (.bin .sub .none (.tmp 4) (.con (V.int .i64 (Int.ofNat 1)))) <|
 .op (some 6) .any [3, 5] (.bin .and .none (.tmp 3) (.tmp 5)) <|
 .op (some 7) .any [6] (.bin .eql .none (.tmp 6) (.con (V.int .i64 (Int.ofNat 0)))) <|
 .op (some 2) .any [7] (.mov (.tmp 7)) <|
 .nil))
 .ret))
def T76_0 (E : List (Nat × Blk)) (D : Den) (W : DrawFn) (v0 : Int) (σ : H) : Ans :=
 some ((V.bool (eqF (andF .i64 v0 (subF .i64 v0 (Int.ofNat 1))) (Int.ofNat 0))), σ)
theorem P76_0 (E : List (Nat × Blk)) (D : Den) (W : DrawFn) (N : Nat) (v0 : Int) (σ : H) :
  denC E D W N (C76_0 ) ⟨[(0, (V.int .i64 v0))], [], [], σ⟩ (Fin76 E) (fun _ _ => none) (Fin76 E) =
  T76_0 E D W  v0 σ := by kernel_rfl
def J76_0 (E : List (Nat × Blk)) (D : Den) (W : DrawFn) (N : Nat) : Int → H → Ans := T76_0 E D W 
theorem JE76_0 (E : List (Nat × Blk)) (D : Den) (W : DrawFn) (N : Nat) (v0 : Int) (σ : H) :
  denC E D W N C76_0 ⟨[(0, (V.int .i64 v0))], [], [], σ⟩ (Fin76 E) (fun _ _ => none) (Fin76 E) = J76_0 E D W N v0 σ := by
  refine (P76_0 E D W N   v0 σ).trans ?_
  kernel_rfl
def F76 (E : List (Nat × Blk)) (D : Den) (W : DrawFn) (N : Nat) (args : List V) (σ : H) : Ans :=
 rtCons args fun x1 l2 =>
 rtInt .i64 x1 fun x3 =>
 rtNil l2 (
 J76_0 E D W N x3 σ)
def A76 : XFn := ⟨8, [(.int .i64)], [(.tmp 2)], C76_0⟩
theorem FE76 (E : List (Nat × Blk)) (D : Den) (W : DrawFn) (N : Nat) (args : List V) (σ : H) : runX E D W N A76 args σ = F76 E D W N args σ := by
  unfold F76
  simp only [← JE76_0]
  kernel_rfl
theorem AO76 : A76.body.ok = true := by kernel_rfl

/-! ### F77: math_bits.TrailingZeros -/
def Fin77 (E : List (Nat × Blk)) : St → Ans := fun s => resK E s [(.tmp 2)] fun l => some (oneV l, s.σ)
def C77_0 : XC := (.seq (.ops (.op (some 2) .any [] (.mov (.con (V.int .i64 (Int.ofNat 0)))) <|
 .nil))
 (.seq (.cond (.con (V.bool false)) (.seq (.ops (.op (some 3) .any [0] (.mov (.tmp 0)) <|
 .op (some 4) .any [3] (.conv (.toInt .u32) (.tmp 3)) <|
 .op (some 5) (.int .i64) [4] (.call 78 [(.tmp 4)]) <|
 .op (some 2) .any [5] (.mov (.tmp 5)) <|
 .nil))
 .ret)
 .skip)
 (.seq (.ops (.op (some 6) .any [0] (.mov (.tmp 0)) <|
 .op (some 7) (.int .i64) [6] (.call 79 [(.tmp 6)]) <|
 .op (some 2) .any [7] (.mov (.tmp 7)) <|
 .nil))
 .ret)))
def T77_0 (E : List (Nat × Blk)) (D : Den) (W : DrawFn) (v0 : Int) (σ : H) : Ans :=
 condK false (
 callK (D 78 [(V.int .u32 (wrapF .u32 v0))] σ) fun u1 s2 =>
 rtInt .i64 u1 fun x3 =>
 some ((V.int .i64 x3), s2)) (
 callK (D 79 [(V.int .u64 v0)] σ) fun u4 s5 =>
 rtInt .i64 u4 fun x6 =>
 some ((V.int .i64 x6), s5))
theorem P77_0 (E : List (Nat × Blk)) (D : Den) (W : DrawFn) (N : Nat) (v0 : Int) (σ : H) :
  denC E D W N (C77_0 ) ⟨[(0, (V.int .u64 v0))], [], [], σ⟩ (Fin77 E) (fun _ _ => none) (Fin77 E) =
  T77_0 E D W  v0 σ := by kernel_rfl
def J77_0 (E : List (Nat × Blk)) (D : Den) (W : DrawFn) (N : Nat) : Int → H → Ans := T77_0 E D W 
theorem JE77_0 (E : List (Nat × Blk)) (D : Den) (W : DrawFn) (N : Nat) (v0 : Int) (σ : H) :
  denC E D W N C77_0 ⟨[(0, (V.int .u64 v0))], [], [], σ⟩ (Fin77 E) (fun _ _ => none) (Fin77 E) = J77_0 E D W N v0 σ := by
  refine (P77_0 E D W N   v0 σ).trans ?_
  kernel_rfl
def F77 (E : List (Nat × Blk)) (D : Den) (W : DrawFn) (N : Nat) (args : List V) (σ : H) : Ans :=
 rtCons args fun x1 l2 =>
 rtInt .u64 x1 fun x3 =>
 rtNil l2 (
 J77_0 E D W N x3 σ)
def A77 : XFn := ⟨8, [(.int .u64)], [(.tmp 2)], C77_0⟩
theorem FE77 (E : List (Nat × Blk)) (D : Den) (W : DrawFn) (N : Nat) (args : List V) (σ : H) : runX E D W N A77 args σ = F77 E D W N args σ := by
  unfold F77
  simp only [← JE77_0]
  kernel_rfl
theorem AO77 : A77.body.ok = true := by kernel_rfl

/-! ### F78: math_bits.TrailingZeros32 -/
def Fin78 (E : List (Nat × Blk)) : St → Ans := fun s => resK E s [(.tmp 2)] fun l => some (oneV l, s.σ)
def C78_0 : XC := (.seq (.ops (.op (some 2) .any [] (.mov (.con (V.int .i64 (Int.ofNat 0)))) <|
 .nil))
 (.seq (.seq (.ops (.op (some 3) .any [0] (.mov (.tmp 0)) <|
 .op (some 4) .any [3] (.bin .eql .none (.tmp 3) (.con (V.int .u32 (Int.ofNat 0)))) <|
 .nil))
 (.cond (.tmp 4) (.seq (.ops (.op (some 2) .any [] (.mov (.con (V.int .i64 (Int.ofNat 32)))) <|
 .nil))
 .ret)
 .skip))
 (.seq (.ops (.op (some 5) .any [0] (.mov (.tmp 0)) <|
 .op (some 6) .any [0] (.mov (.tmp 0)) <|
 .op (some 7) .any [6] (.un .neg (.tmp 6)) <|
 .op (some 8) .any [5, 7] (.bin .and .none (.tmp 5) (.tmp 7)) <|
 .op (some 9) .any [8] (.bin .mul .none (.tmp 8) (.con (V.int .u32 (Int.ofNat 125613361)))) <|
 .op (some 10) .any [9] (.bin .shr .none (.tmp 9) (.con (V.int .u64 (Int.ofNat 27)))) <|
 .op (some 11) .any [10] (.iaddrA 32 1 (.con (V.ptr 5 0)) (.tmp 10)) <|
 .op (some 12) (.int .u8) [11] (.load none (.tmp 11)) <|
 .op (some 13) .any [12] (.conv (.toInt .i64) (.tmp 12)) <|
 .op (some 2) .any [13] (.mov (.tmp 13)) <|
 .nil))
 .ret)))
def T78_0 (E : List (Nat × Blk)) (D : Den) (W : DrawFn) (v0 : Int) (σ : H) : Ans :=
 condK (eqF v0 (Int.ofNat 0)) (
 some ((V.int .i64 (Int.ofNat 32)), σ)) (
 nnK (shrF .u32 (mulF .u32 (andF .u32 v0 (negF .u32 v0)) (Int.ofNat 125613361)) 27) fun n1 =>
 chk (Nat.blt n1 32) (
 ldK E σ 5 (Nat.add 0 (Nat.mul n1 1)) fun u2 =>
 rtInt .u8 u2 fun x3 =>
 some ((V.int .i64 (wrapF .i64 x3)), σ)))
theorem P78_0 (E : List (Nat × Blk)) (D : Den) (W : DrawFn) (N : Nat) (v0 : Int) (σ : H) :
  denC E D W N (C78_0 ) ⟨[(0, (V.int .u32 v0))], [], [], σ⟩ (Fin78 E) (fun _ _ => none) (Fin78 E) =
  T78_0 E D W  v0 σ := by kernel_rfl
def J78_0 (E : List (Nat × Blk)) (D : Den) (W : DrawFn) (N : Nat) : Int → H → Ans := T78_0 E D W 
theorem JE78_0 (E : List (Nat × Blk)) (D : Den) (W : DrawFn) (N : Nat) (v0 : Int) (σ : H) :
  denC E D W N C78_0 ⟨[(0, (V.int .u32 v0))], [], [], σ⟩ (Fin78 E) (fun _ _ => none) (Fin78 E) = J78_0 E D W N v0 σ := by
  refine (P78_0 E D W N   v0 σ).trans ?_
  kernel_rfl
def F78 (E : List (Nat × Blk)) (D : Den) (W : DrawFn) (N : Nat) (args : List V) (σ : H) : Ans :=
 rtCons args fun x1 l2 =>
 rtInt .u32 x1 fun x3 =>
 rtNil l2 (
 J78_0 E D W N x3 σ)
def A78 : XFn := ⟨14, [(.int .u32)], [(.tmp 2)], C78_0⟩
theorem FE78 (E : List (Nat × Blk)) (D : Den) (W : DrawFn) (N : Nat) (args : List V) (σ : H) : runX E D W N A78 args σ = F78 E D W N args σ := by
  unfold F78
  simp only [← JE78_0]
  kernel_rfl
theorem AO78 : A78.body.ok = true := by kernel_rfl

/-! ### F79: math_bits.TrailingZeros64 -/
def Fin79 (E : List (Nat × Blk)) : St → Ans := fun s => resK E s [(.tmp 2)] fun l => some (oneV l, s.σ)
def C79_0 : XC := (.seq (.ops (.op (some 2) .any [] (.mov (.con (V.int .i64 (Int.ofNat 0)))) <|
 .nil))
 (.seq (.seq (.ops (.op (some 3) .any [0] (.mov (.tmp 0)) <|
 .op (some 4) .any [3] (.bin .eql .none (.tmp 3) (.con (V.int .u64 (Int.ofNat 0)))) <|
 .nil))
 (.cond (.tmp 4) (.seq (.ops (.op (some 2) .any [] (.mov (.con (V.int .i64 (Int.ofNat 64)))) <|
 .nil))
 .ret)
 .skip))
 (.seq (.ops (.op (some 5) .any [0] (.mov (.tmp 0)) <|
 .op (some 6) .any [0] (.mov (.tmp 0)) <|
 .op (some 7) .any [6] (.un .neg (.tmp 6)) <|
 .op (some 8) .any [5, 7] (.bin .and .none (.tmp 5) (.tmp 7)) <|
 .op (some 9) .any [8] (.bin .mul .none (.tmp 8) (.con (V.int .u64 (Int.ofNat 285870213051353865)))) <|
 .op (some 10) .any [9] (.bin .shr .none (.tmp 9) (.con (V.int .u64 (Int.ofNat 58)))) <|
 .op (some 11) .any [10] (.iaddrA 64 1 (.con (V.ptr 6 0)) (.tmp 10)) <|
 .op (some 12) (.int .u8) [11] (.load none (.tmp 11)) <|
 .op (some 13) .any [12] (.conv (.toInt .i64) (.tmp 12)) <|
 .op (some 2) .any [13] (.mov (.tmp 13)) <|
 .nil))
 .ret)))
def T79_0 (E : List (Nat × Blk)) (D : Den) (W : DrawFn) (v0 : Int) (σ : H) : Ans :=
 condK (eqF v0 (Int.ofNat 0)) (
 some ((V.int .i64 (Int.ofNat 64)), σ)) (
 nnK (shrF .u64 (mulF .u64 (andF .u64 v0 (negF .u64 v0)) (Int.ofNat 285870213051353865)) 58) fun n1 =>
 chk (Nat.blt n1 64) (
 ldK E σ 6 (Nat.add 0 (Nat.mul n1 1)) fun u2 =>
 rtInt .u8 u2 fun x3 =>
 some ((V.int .i64 (wrapF .i64 x3)), σ)))
theorem P79_0 (E : List (Nat × Blk)) (D : Den) (W : DrawFn) (N : Nat) (v0 : Int) (σ : H) :
  denC E D W N (C79_0 ) ⟨[(0, (V.int .u64 v0))], [], [], σ⟩ (Fin79 E) (fun _ _ => none) (Fin79 E) =
  T79_0 E D W  v0 σ := by kernel_rfl
def J79_0 (E : List (Nat × Blk)) (D : Den) (W : DrawFn) (N : Nat) : Int → H → Ans := T79_0 E D W 
theorem JE79_0 (E : List (Nat × Blk)) (D : Den) (W : DrawFn) (N : Nat) (v0 : Int) (σ : H) :
  denC E D W N C79_0 ⟨[(0, (V.int .u64 v0))], [], [], σ⟩ (Fin79 E) (fun _ _ => none) (Fin79 E) = J79_0 E D W N v0 σ := by
  refine (P79_0 E D W N   v0 σ).trans ?_
  kernel_rfl
def F79 (E : List (Nat × Blk)) (D : Den) (W : DrawFn) (N : Nat) (args : List V) (σ : H) : Ans :=
 rtCons args fun x1 l2 =>
 rtInt .u64 x1 fun x3 =>
 rtNil l2 (
 J79_0 E D W N x3 σ)
def A79 : XFn := ⟨14, [(.int .u64)], [(.tmp 2)], C79_0⟩
theorem FE79 (E : List (Nat × Blk)) (D : Den) (W : DrawFn) (N : Nat) (args : List V) (σ : H) : runX E D W N A79 args σ = F79 E D W N args σ := by
  unfold F79
  simp only [← JE79_0]
  kernel_rfl
theorem AO79 : A79.body.ok = true := by kernel_rfl

/-! ### F108: gosem.cut.vars -/
def Fin108 (E : List (Nat × Blk)) : St → Ans := fun s => resK E s [] fun l => some (oneV l, s.σ)
def C108_0 : XC := (.seq (.ops (.op (some 0) (.agg [(.int .u8), (.int .u8), (.int .u8), (.int .u8), (.int .u8), (.int .u8), (.int .u8), (.int .u8), (.int .u8), (.int .u8), (.int .u8), (.int .u8), (.int .u8), (.int .u8), (.int .u8), (.int .u8), (.int .u8), (.int .u8), (.int .u8), (.int .u8), (.int .u8), (.int .u8), (.int .u8), (.int .u8), (.int .u8), (.int .u8), (.int .u8), (.int .u8), (.int .u8), (.int .u8), (.int .u8), (.int .u8)]) [] (.build [(V.int .u8 (Int.ofNat 0)), (V.int .u8 (Int.ofNat 0)), (V.int .u8 (Int.ofNat 0)), (V.int .u8 (Int.ofNat 0)), (V.int .u8 (Int.ofNat 0)), (V.int .u8 (Int.ofNat 0)), (V.int .u8 (Int.ofNat 0)), (V.int .u8 (Int.ofNat 0)), (V.int .u8 (Int.ofNat 0)), (V.int .u8 (Int.ofNat 0)), (V.int .u8 (Int.ofNat 0)), (V.int .u8 (Int.ofNat 0)), (V.int .u8 (Int.ofNat 0)), (V.int .u8 (Int.ofNat 0)), (V.int .u8 (Int.ofNat 0)), (V.int .u8 (Int.ofNat 0)), (V.int .u8 (Int.ofNat 0)), (V.int .u8 (Int.ofNat 0)), (V.int .u8 (Int.ofNat 0)), (V.int .u8 (Int.ofNat 0)), (V.int .u8 (Int.ofNat 0)), (V.int .u8 (Int.ofNat 0)), (V.int .u8 (Int.ofNat 0)), (V.int .u8 (Int.ofNat 0)), (V.int .u8 (Int.ofNat 0)), (V.int .u8 (Int.ofNat 0)), (V.int .u8 (Int.ofNat 0)), (V.int .u8 (Int.ofNat 0)), (V.int .u8 (Int.ofNat 0)), (V.int .u8 (Int.ofNat 0)), (V.int .u8 (Int.ofNat 0)), (V.int .u8 (Int.ofNat 0))] [(0, 1, (.con (V.int .u8 (Int.ofNat 0)))), (1, 1, (.con (V.int .u8 (Int.ofNat 1)))), (2, 1, (.con (V.int .u8 (Int.ofNat 28)))), (3, 1, (.con (V.int .u8 (Int.ofNat 2)))), (4, 1, (.con (V.int .u8 (Int.ofNat 29)))), (5, 1, (.con (V.int .u8 (Int.ofNat 14)))), (6, 1, (.con (V.int .u8 (Int.ofNat 24)))), (7, 1, (.con (V.int .u8 (Int.ofNat 3)))), (8, 1, (.con (V.int .u8 (Int.ofNat 30)))), (9, 1, (.con (V.int .u8 (Int.ofNat 22)))), (10, 1, (.con (V.int .u8 (Int.ofNat 20)))), (11, 1, (.con (V.int .u8 (Int.ofNat 15)))), (12, 1, (.con (V.int .u8 (Int.ofNat 25)))), (13, 1, (.con (V.int .u8 (Int.ofNat 17)))), (14, 1, (.con (V.int .u8 (Int.ofNat 4)))), (15, 1, (.con (V.int .u8 (Int.ofNat 8)))), (16, 1, (.con (V.int .u8 (Int.ofNat 31)))), (17, 1, (.con (V.int .u8 (Int.ofNat 27)))), (18, 1, (.con (V.int .u8 (Int.ofNat 13)))), (19, 1, (.con (V.int .u8 (Int.ofNat 23)))), (20, 1, (.con (V.int .u8 (Int.ofNat 21)))), (21, 1, (.con (V.int .u8 (Int.ofNat 19)))), (22, 1, (.con (V.int .u8 (Int.ofNat 16)))), (23, 1, (.con (V.int .u8 (Int.ofNat 7)))), (24, 1, (.con (V.int .u8 (Int.ofNat 26)))), (25, 1, (.con (V.int .u8 (Int.ofNat 12)))), (26, 1, (.con (V.int .u8 (Int.ofNat 18)))), (27, 1, (.con (V.int .u8 (Int.ofNat 6)))), (28, 1, (.con (V.int .u8 (Int.ofNat 11)))), (29, 1, (.con (V.int .u8 (Int.ofNat 5)))), (30, 1, (.con (V.int .u8 (Int.ofNat 10)))), (31, 1, (.con (V.int .u8 (Int.ofNat 9))))]) <|
 .op none (.agg [(.int .u8), (.int .u8), (.int .u8), (.int .u8), (.int .u8), (.int .u8), (.int .u8), (.int .u8), (.int .u8), (.int .u8), (.int .u8), (.int .u8), (.int .u8), (.int .u8), (.int .u8), (.int .u8), (.int .u8), (.int .u8), (.int .u8), (.int .u8), (.int .u8), (.int .u8), (.int .u8), (.int .u8), (.int .u8), (.int .u8), (.int .u8), (.int .u8), (.int .u8), (.int .u8), (.int .u8), (.int .u8)]) [0] (.store 32 (.con (V.ptr 5 0)) (.tmp 0)) <|
 .nil))
 (.seq (.ops (.op (some 1) (.agg [(.int .u8), (.int .u8), (.int .u8), (.int .u8), (.int .u8), (.int .u8), (.int .u8), (.int .u8), (.int .u8), (.int .u8), (.int .u8), (.int .u8), (.int .u8), (.int .u8), (.int .u8), (.int .u8), (.int .u8), (.int .u8), (.int .u8), (.int .u8), (.int .u8), (.int .u8), (.int .u8), (.int .u8), (.int .u8), (.int .u8), (.int .u8), (.int .u8), (.int .u8), (.int .u8), (.int .u8), (.int .u8), (.int .u8), (.int .u8), (.int .u8), (.int .u8), (.int .u8), (.int .u8), (.int .u8), (.int .u8), (.int .u8), (.int .u8), (.int .u8), (.int .u8), (.int .u8), (.int .u8), (.int .u8), (.int .u8), (.int .u8), (.int .u8), (.int .u8), (.int .u8), (.int .u8), (.int .u8), (.int .u8), (.int .u8), (.int .u8), (.int .u8), (.int .u8), (.int .u8), (.int .u8), (.int .u8), (.int .u8), (.int .u8)]) [] (.build [(V.int .u8 (Int.ofNat 0)), (V.int .u8 (Int.ofNat 0)), (V.int .u8 (Int.ofNat 0)), (V.int .u8 (Int.ofNat 0)), (V.int .u8 (Int.ofNat 0)), (V.int .u8 (Int.ofNat 0)), (V.int .u8 (Int.ofNat 0)), (V.int .u8 (Int.ofNat 0)), (V.int .u8 (Int.ofNat 0)), (V.int .u8 (Int.ofNat 0)), (V.int .u8 (Int.ofNat 0)), (V.int .u8 (Int.ofNat 0)), (V.int .u8 (Int.ofNat 0)), (V.int .u8 (Int.ofNat 0)), (V.int .u8 (Int.ofNat 0)), (V.int .u8 (Int.ofNat 0)), (V.int .u8 (Int.ofNat 0)), (V.int .u8 (Int.ofNat 0)), (V.int .u8 (Int.ofNat 0)), (V.int .u8 (Int.ofNat 0)), (V.int .u8 (Int.ofNat 0)), (V.int .u8 (Int.ofNat 0)), (V.int .u8 (Int.ofNat 0)), (V.int .u8 (Int.ofNat 0)), (V.int .u8 (Int.ofNat 0)), (V.int .u8 (Int.ofNat 0)), (V.int .u8 (Int.ofNat 0)), (V.int .u8 (Int.ofNat 0)), (V.int .u8 (Int.ofNat 0)), (V.int .u8 (Int.ofNat 0)), (V.int .u8 (Int.ofNat 0)), (V.int .u8 (Int.ofNat 0)), (V.int .u8 (Int.ofNat 0)), (V.int .u8 (Int.ofNat 0)), (V.int .u8 (Int.ofNat 0)), (V.int .u8 (Int.ofNat 0)), (V.int .u8 (Int.ofNat 0)), (V.int .u8 (Int.ofNat 0)), (V.int .u8 (Int.ofNat 0)), (V.int .u8 (Int.ofNat 0)), (V.int .u8 (Int.ofNat 0)), (V.int .u8 (Int.ofNat 0)), (V.int .u8 (Int.ofNat 0)), (V.int .u8 (Int.ofNat 0)), (V.int .u8 (Int.ofNat 0)), (V.int .u8 (Int.ofNat 0)), (V.int .u8 (Int.ofNat 0)), (V.int .u8 (Int.ofNat 0)), (V.int .u8 (Int.ofNat 0)), (V.int .u8 (Int.ofNat 0)), (V.int .u8 (Int.ofNat 0)), (V.int .u8 (Int.ofNat 0)), (V.int .u8 (Int.ofNat 0)), (V.int .u8 (Int.ofNat 0)), (V.int .u8 (Int.ofNat 0)), (V.int .u8 (Int.ofNat 0)), (V.int .u8 (Int.ofNat 0)), (V.int .u8 (Int.ofNat 0)), (V.int .u8 (Int.ofNat 0)), (V.int .u8 (Int.ofNat 0)), (V.int .u8 (Int.ofNat 0)), (V.int .u8 (Int.ofNat 0)), (V.int .u8 (Int.ofNat 0)), (V.int .u8 (Int.ofNat 0))] [(0, 1, (.con (V.int .u8 (Int.ofNat 0)))), (1, 1, (.con (V.int .u8 (Int.ofNat 1)))), (2, 1, (.con (V.int .u8 (Int.ofNat 56)))), (3, 1, (.con (V.int .u8 (Int.ofNat 2)))), (4, 1, (.con (V.int .u8 (Int.ofNat 57)))), (5, 1, (.con (V.int .u8 (Int.ofNat 49)))), (6, 1, (.con (V.int .u8 (Int.ofNat 28)))), (7, 1, (.con (V.int .u8 (Int.ofNat 3)))), (8, 1, (.con (V.int .u8 (Int.ofNat 61)))), (9, 1, (.con (V.int .u8 (Int.ofNat 58)))), (10, 1, (.con (V.int .u8 (Int.ofNat 42)))), (11, 1, (.con (V.int .u8 (Int.ofNat 50)))), (12, 1, (.con (V.int .u8 (Int.ofNat 38)))), (13, 1, (.con (V.int .u8 (Int.ofNat 29)))), (14, 1, (.con (V.int .u8 (Int.ofNat 17)))), (15, 1, (.con (V.int .u8 (Int.ofNat 4)))), (16, 1, (.con (V.int .u8 (Int.ofNat 62)))), (17, 1, (.con (V.int .u8 (Int.ofNat 47)))), (18, 1, (.con (V.int .u8 (Int.ofNat 59)))), (19, 1, (.con (V.int .u8 (Int.ofNat 36)))), (20, 1, (.con (V.int .u8 (Int.ofNat 45)))), (21, 1, (.con (V.int .u8 (Int.ofNat 43)))), (22, 1, (.con (V.int .u8 (Int.ofNat 51)))), (23, 1, (.con (V.int .u8 (Int.ofNat 22)))), (24, 1, (.con (V.int .u8 (Int.ofNat 53)))), (25, 1, (.con (V.int .u8 (Int.ofNat 39)))), (26, 1, (.con (V.int .u8 (Int.ofNat 33)))), (27, 1, (.con (V.int .u8 (Int.ofNat 30)))), (28, 1, (.con (V.int .u8 (Int.ofNat 24)))), (29, 1, (.con (V.int .u8 (Int.ofNat 18)))), (30, 1, (.con (V.int .u8 (Int.ofNat 12)))), (31, 1, (.con (V.int .u8 (Int.ofNat 5)))), (32, 1, (.con (V.int .u8 (Int.ofNat 63)))), (33, 1, (.con (V.int .u8 (Int.ofNat 55)))), (34, 1, (.con (V.int .u8 (Int.ofNat 48)))), (35, 1, (.con (V.int .u8 (Int.ofNat 27)))), (36, 1, (.con (V.int .u8 (Int.ofNat 60)))), (37, 1, (.con (V.int .u8 (Int.ofNat 41)))), (38, 1, (.con (V.int .u8 (Int.ofNat 37)))), (39, 1, (.con (V.int .u8 (Int.ofNat 16)))), (40, 1, (.con (V.int .u8 (Int.ofNat 46)))), (41, 1, (.con (V.int .u8 (Int.ofNat 35)))), (42, 1, (.con (V.int .u8 (Int.ofNat 44)))), (43, 1, (.con (V.int .u8 (Int.ofNat 21)))), (44, 1, (.con (V.int .u8 (Int.ofNat 52)))), (45, 1, (.con (V.int .u8 (Int.ofNat 32)))), (46, 1, (.con (V.int .u8 (Int.ofNat 23)))), (47, 1, (.con (V.int .u8 (Int.ofNat 11)))), (48, 1, (.con (V.int .u8 (Int.ofNat 54)))), (49, 1, (.con (V.int .u8 (Int.ofNat 26)))), (50, 1, (.con (V.int .u8 (Int.ofNat 40)))), (51, 1, (.con (V.int .u8 (Int.ofNat 15)))), (52, 1, (.con (V.int .u8 (Int.ofNat 34)))), (53, 1, (.con (V.int .u8 (Int.ofNat 20)))), (54, 1, (.con (V.int .u8 (Int.ofNat 31)))), (55, 1, (.con (V.int .u8 (Int.ofNat 10)))), (56, 1, (.con (V.int .u8 (Int.ofNat 25)))), (57, 1, (.con (V.int .u8 (Int.ofNat 14)))), (58, 1, (.con (V.int .u8 (Int.ofNat 19)))), (59, 1, (.con (V.int .u8 (Int.ofNat 9)))), (60, 1, (.con (V.int .u8 (Int.ofNat 13)))), (61, 1, (.con (V.int .u8 (Int.ofNat 8)))), (62, 1, (.con (V.int .u8 (Int.ofNat 7)))), (63, 1, (.con (V.int .u8 (Int.ofNat 6))))]) <|
 .op none (.agg [(.int .u8), (.int .u8), (.int .u8), (.int .u8), (.int .u8), (.int .u8), (.int .u8), (.int .u8), (.int .u8), (.int .u8), (.int .u8), (.int .u8), (.int .u8), (.int .u8), (.int .u8), (.int .u8), (.int .u8), (.int .u8), (.int .u8), (.int .u8), (.int .u8), (.int .u8), (.int .u8), (.int .u8), (.int .u8), (.int .u8), (.int .u8), (.int .u8), (.int .u8), (.int .u8), (.int .u8), (.int .u8), (.int .u8), (.int .u8), (.int .u8), (.int .u8), (.int .u8), (.int .u8), (.int .u8), (.int .u8), (.int .u8), (.int .u8), (.int .u8), (.int .u8), (.int .u8), (.int .u8), (.int .u8), (.int .u8), (.int .u8), (.int .u8), (.int .u8), (.int .u8), (.int .u8), (.int .u8), (.int .u8), (.int .u8), (.int .u8), (.int .u8), (.int .u8), (.int .u8), (.int .u8), (.int .u8), (.int .u8), (.int .u8)]) [1] (.store 64 (.con (V.ptr 6 0)) (.tmp 1)) <|
 .nil))
 (.seq (.ops (.op (some 2) (.agg [(.int .u64), (.int .u64), (.int .u64), (.int .u64), (.int .u64), (.int .u64), (.int .u64), (.int .u64), (.int .u64), (.int .u64), (.int .u64), (.int .u64), (.int .u64), (.int .u64), (.int .u64), (.int .u64), (.int .u64), (.int .u64), (.int .u64), (.int .u64)]) [] (.build [(V.int .u64 (Int.ofNat 0)), (V.int .u64 (Int.ofNat 0)), (V.int .u64 (Int.ofNat 0)), (V.int .u64 (Int.ofNat 0)), (V.int .u64 (Int.ofNat 0)), (V.int .u64 (Int.ofNat 0)), (V.int .u64 (Int.ofNat 0)), (V.int .u64 (Int.ofNat 0)), (V.int .u64 (Int.ofNat 0)), (V.int .u64 (Int.ofNat 0)), (V.int .u64 (Int.ofNat 0)), (V.int .u64 (Int.ofNat 0)), (V.int .u64 (Int.ofNat 0)), (V.int .u64 (Int.ofNat 0)), (V.int .u64 (Int.ofNat 0)), (V.int .u64 (Int.ofNat 0)), (V.int .u64 (Int.ofNat 0)), (V.int .u64 (Int.ofNat 0)), (V.int .u64 (Int.ofNat 0)), (V.int .u64 (Int.ofNat 0))] [(0, 1, (.con (V.int .u64 (Int.ofNat 1)))), (1, 1, (.con (V.int .u64 (Int.ofNat 10)))), (2, 1, (.con (V.int .u64 (Int.ofNat 100)))), (3, 1, (.con (V.int .u64 (Int.ofNat 1000)))), (4, 1, (.con (V.int .u64 (Int.ofNat 10000)))), (5, 1, (.con (V.int .u64 (Int.ofNat 100000)))), (6, 1, (.con (V.int .u64 (Int.ofNat 1000000)))), (7, 1, (.con (V.int .u64 (Int.ofNat 10000000)))), (8, 1, (.con (V.int .u64 (Int.ofNat 100000000)))), (9, 1, (.con (V.int .u64 (Int.ofNat 1000000000)))), (10, 1, (.con (V.int .u64 (Int.ofNat 10000000000)))), (11, 1, (.con (V.int .u64 (Int.ofNat 100000000000)))), (12, 1, (.con (V.int .u64 (Int.ofNat 1000000000000)))), (13, 1, (.con (V.int .u64 (Int.ofNat 10000000000000)))), (14, 1, (.con (V.int .u64 (Int.ofNat 100000000000000)))), (15, 1, (.con (V.int .u64 (Int.ofNat 1000000000000000)))), (16, 1, (.con (V.int .u64 (Int.ofNat 10000000000000000)))), (17, 1, (.con (V.int .u64 (Int.ofNat 100000000000000000)))), (18, 1, (.con (V.int .u64 (Int.ofNat 1000000000000000000)))), (19, 1, (.con (V.int .u64 (Int.ofNat 10000000000000000000))))]) <|
 .op none (.agg [(.int .u64), (.int .u64), (.int .u64), (.int .u64), (.int .u64), (.int .u64), (.int .u64), (.int .u64), (.int .u64), (.int .u64), (.int .u64), (.int .u64), (.int .u64), (.int .u64), (.int .u64), (.int .u64), (.int .u64), (.int .u64), (.int .u64), (.int .u64)]) [2] (.store 20 (.con (V.ptr 4 0)) (.tmp 2)) <|
 .nil))
 (.seq (.ops (.op (some 3) (.agg [(.int .u8), (.int .u8)]) [] (.build [(V.int .u8 (Int.ofNat 0)), (V.int .u8 (Int.ofNat 0))] [(0, 1, (.con (V.int .u8 (Int.ofNat 128)))), (1, 1, (.con (V.int .u8 (Int.ofNat 191))))]) <|
 .op (some 4) (.agg [(.int .u8), (.int .u8)]) [] (.build [(V.int .u8 (Int.ofNat 0)), (V.int .u8 (Int.ofNat 0))] [(0, 1, (.con (V.int .u8 (Int.ofNat 160)))), (1, 1, (.con (V.int .u8 (Int.ofNat 191))))]) <|
 .op (some 5) (.agg [(.int .u8), (.int .u8)]) [] (.build [(V.int .u8 (Int.ofNat 0)), (V.int .u8 (Int.ofNat 0))] [(0, 1, (.con (V.int .u8 (Int.ofNat 128)))), (1, 1, (.con (V.int .u8 (Int.ofNat 159))))]) <|
 .op (some 6) (.agg [(.int .u8), (.int .u8)]) [] (.build [(V.int .u8 (Int.ofNat 0)), (V.int .u8 (Int.ofNat 0))] [(0, 1, (.con (V.int .u8 (Int.ofNat 144)))), (1, 1, (.con (V.int .u8 (Int.ofNat 191))))]) <|
 .op (some 7) (.agg [(.int .u8), (.int .u8)]) [] (.build [(V.int .u8 (Int.ofNat 0)), (V.int .u8 (Int.ofNat 0))] [(0, 1, (.con (V.int .u8 (Int.ofNat 128)))), (1, 1, (.con (V.int .u8 (Int.ofNat 143))))]) <|
 .op (some 8) (.agg [(.int .u8), (.int .u8), (.int .u8), (.int .u8), (.int .u8), (.int .u8), (.int .u8), (.int .u8), (.int .u8), (.int .u8), (.int .u8), (.int .u8), (.int .u8), (.int .u8), (.int .u8), (.int .u8), (.int .u8), (.int .u8), (.int .u8), (.int .u8), (.int .u8), (.int .u8), (.int .u8), (.int .u8), (.int .u8), (.int .u8), (.int .u8), (.int .u8), (.int .u8), (.int .u8), (.int .u8), (.int .u8)]) [3, 4, 5, 6, 7] (.build [(V.int .u8 (Int.ofNat 0)), (V.int .u8 (Int.ofNat 0)), (V.int .u8 (Int.ofNat 0)), (V.int .u8 (Int.ofNat 0)), (V.int .u8 (Int.ofNat 0)), (V.int .u8 (Int.ofNat 0)), (V.int .u8 (Int.ofNat 0)), (V.int .u8 (Int.ofNat 0)), (V.int .u8 (Int.ofNat 0)), (V.int .u8 (Int.ofNat 0)), (V.int .u8 (Int.ofNat 0)), (V.int .u8 (Int.ofNat 0)), (V.int .u8 (Int.ofNat 0)), (V.int .u8 (Int.ofNat 0)), (V.int .u8 (Int.ofNat 0)), (V.int .u8 (Int.ofNat 0)), (V.int .u8 (Int.ofNat 0)), (V.int .u8 (Int.ofNat 0)), (V.int .u8 (Int.ofNat 0)), (V.int .u8 (Int.ofNat 0)), (V.int .u8 (Int.ofNat 0)), (V.int .u8 (Int.ofNat 0)), (V.int .u8 (Int.ofNat 0)), (V.int .u8 (Int.ofNat 0)), (V.int .u8 (Int.ofNat 0)), (V.int .u8 (Int.ofNat 0)), (V.int .u8 (Int.ofNat 0)), (V.int .u8 (Int.ofNat 0)), (V.int .u8 (Int.ofNat 0)), (V.int .u8 (Int.ofNat 0)), (V.int .u8 (Int.ofNat 0)), (V.int .u8 (Int.ofNat 0))] [(0, 2, (.tmp 3)), (2, 2, (.tmp 4)), (4, 2, (.tmp 5)), (6, 2, (.tmp 6)), (8, 2, (.tmp 7))]) <|
 .op none (.agg [(.int .u8), (.int .u8), (.int .u8), (.int .u8), (.int .u8), (.int .u8), (.int .u8), (.int .u8), (.int .u8), (.int .u8), (.int .u8), (.int .u8), (.int .u8), (.int .u8), (.int .u8), (.int .u8), (.int .u8), (.int .u8), (.int .u8), (.int .u8), (.int .u8), (.int .u8), (.int .u8), (.int .u8), (.int .u8), (.int .u8), (.int .u8), (.int .u8), (.int .u8), (.int .u8), (.int .u8), (.int .u8)]) [8] (.store 32 (.con (V.ptr 1 0)) (.tmp 8)) <|
 .nil))
 (.seq (.ops (.op (some 9) .one [] (.call 61 [(.con (V.str ⟨18, 8833536683947734889501819473892098087608694⟩))]) <|
 .op none .any [9] (.store 1 (.con (V.ptr 3 0)) (.tmp 9)) <|
 .nil))
 (.ops (.op (some 10) .one [] (.call 61 [(.con (V.str ⟨14, 2441610318018593579359549976374889⟩))]) <|
 .op none .any [10] (.store 1 (.con (V.ptr 2 0)) (.tmp 10)) <|
 .nil)))))))
def T108_0 (E : List (Nat × Blk)) (D : Den) (W : DrawFn) (σ : H) : Ans :=
 stK 32 5 0 (V.agg [(V.int .u8 (Int.ofNat 0)), (V.int .u8 (Int.ofNat 1)), (V.int .u8 (Int.ofNat 28)), (V.int .u8 (Int.ofNat 2)), (V.int .u8 (Int.ofNat 29)), (V.int .u8 (Int.ofNat 14)), (V.int .u8 (Int.ofNat 24)), (V.int .u8 (Int.ofNat 3)), (V.int .u8 (Int.ofNat 30)), (V.int .u8 (Int.ofNat 22)), (V.int .u8 (Int.ofNat 20)), (V.int .u8 (Int.ofNat 15)), (V.int .u8 (Int.ofNat 25)), (V.int .u8 (Int.ofNat 17)), (V.int .u8 (Int.ofNat 4)), (V.int .u8 (Int.ofNat 8)), (V.int .u8 (Int.ofNat 31)), (V.int .u8 (Int.ofNat 27)), (V.int .u8 (Int.ofNat 13)), (V.int .u8 (Int.ofNat 23)), (V.int .u8 (Int.ofNat 21)), (V.int .u8 (Int.ofNat 19)), (V.int .u8 (Int.ofNat 16)), (V.int .u8 (Int.ofNat 7)), (V.int .u8 (Int.ofNat 26)), (V.int .u8 (Int.ofNat 12)), (V.int .u8 (Int.ofNat 18)), (V.int .u8 (Int.ofNat 6)), (V.int .u8 (Int.ofNat 11)), (V.int .u8 (Int.ofNat 5)), (V.int .u8 (Int.ofNat 10)), (V.int .u8 (Int.ofNat 9))]) σ fun s1 =>
 stK 64 6 0 (V.agg [(V.int .u8 (Int.ofNat 0)), (V.int .u8 (Int.ofNat 1)), (V.int .u8 (Int.ofNat 56)), (V.int .u8 (Int.ofNat 2)), (V.int .u8 (Int.ofNat 57)), (V.int .u8 (Int.ofNat 49)), (V.int .u8 (Int.ofNat 28)), (V.int .u8 (Int.ofNat 3)), (V.int .u8 (Int.ofNat 61)), (V.int .u8 (Int.ofNat 58)), (V.int .u8 (Int.ofNat 42)), (V.int .u8 (Int.ofNat 50)), (V.int .u8 (Int.ofNat 38)), (V.int .u8 (Int.ofNat 29)), (V.int .u8 (Int.ofNat 17)), (V.int .u8 (Int.ofNat 4)), (V.int .u8 (Int.ofNat 62)), (V.int .u8 (Int.ofNat 47)), (V.int .u8 (Int.ofNat 59)), (V.int .u8 (Int.ofNat 36)), (V.int .u8 (Int.ofNat 45)), (V.int .u8 (Int.ofNat 43)), (V.int .u8 (Int.ofNat 51)), (V.int .u8 (Int.ofNat 22)), (V.int .u8 (Int.ofNat 53)), (V.int .u8 (Int.ofNat 39)), (V.int .u8 (Int.ofNat 33)), (V.int .u8 (Int.ofNat 30)), (V.int .u8 (Int.ofNat 24)), (V.int .u8 (Int.ofNat 18)), (V.int .u8 (Int.ofNat 12)), (V.int .u8 (Int.ofNat 5)), (V.int .u8 (Int.ofNat 63)), (V.int .u8 (Int.ofNat 55)), (V.int .u8 (Int.ofNat 48)), (V.int .u8 (Int.ofNat 27)), (V.int .u8 (Int.ofNat 60)), (V.int .u8 (Int.ofNat 41)), (V.int .u8 (Int.ofNat 37)), (V.int .u8 (Int.ofNat 16)), (V.int .u8 (Int.ofNat 46)), (V.int .u8 (Int.ofNat 35)), (V.int .u8 (Int.ofNat 44)), (V.int .u8 (Int.ofNat 21)), (V.int .u8 (Int.ofNat 52)), (V.int .u8 (Int.ofNat 32)), (V.int .u8 (Int.ofNat 23)), (V.int .u8 (Int.ofNat 11)), (V.int .u8 (Int.ofNat 54)), (V.int .u8 (Int.ofNat 26)), (V.int .u8 (Int.ofNat 40)), (V.int .u8 (Int.ofNat 15)), (V.int .u8 (Int.ofNat 34)), (V.int .u8 (Int.ofNat 20)), (V.int .u8 (Int.ofNat 31)), (V.int .u8 (Int.ofNat 10)), (V.int .u8 (Int.ofNat 25)), (V.int .u8 (Int.ofNat 14)), (V.int .u8 (Int.ofNat 19)), (V.int .u8 (Int.ofNat 9)), (V.int .u8 (Int.ofNat 13)), (V.int .u8 (Int.ofNat 8)), (V.int .u8 (Int.ofNat 7)), (V.int .u8 (Int.ofNat 6))]) s1 fun s2 =>
 stK 20 4 0 (V.agg [(V.int .u64 (Int.ofNat 1)), (V.int .u64 (Int.ofNat 10)), (V.int .u64 (Int.ofNat 100)), (V.int .u64 (Int.ofNat 1000)), (V.int .u64 (Int.ofNat 10000)), (V.int .u64 (Int.ofNat 100000)), (V.int .u64 (Int.ofNat 1000000)), (V.int .u64 (Int.ofNat 10000000)), (V.int .u64 (Int.ofNat 100000000)), (V.int .u64 (Int.ofNat 1000000000)), (V.int .u64 (Int.ofNat 10000000000)), (V.int .u64 (Int.ofNat 100000000000)), (V.int .u64 (Int.ofNat 1000000000000)), (V.int .u64 (Int.ofNat 10000000000000)), (V.int .u64 (Int.ofNat 100000000000000)), (V.int .u64 (Int.ofNat 1000000000000000)), (V.int .u64 (Int.ofNat 10000000000000000)), (V.int .u64 (Int.ofNat 100000000000000000)), (V.int .u64 (Int.ofNat 1000000000000000000)), (V.int .u64 (Int.ofNat 10000000000000000000))]) s2 fun s3 =>
 stK 32 1 0 (V.agg [(V.int .u8 (Int.ofNat 128)), (V.int .u8 (Int.ofNat 191)), (V.int .u8 (Int.ofNat 160)), (V.int .u8 (Int.ofNat 191)), (V.int .u8 (Int.ofNat 128)), (V.int .u8 (Int.ofNat 159)), (V.int .u8 (Int.ofNat 144)), (V.int .u8 (Int.ofNat 191)), (V.int .u8 (Int.ofNat 128)), (V.int .u8 (Int.ofNat 143)), (V.int .u8 (Int.ofNat 0)), (V.int .u8 (Int.ofNat 0)), (V.int .u8 (Int.ofNat 0)), (V.int .u8 (Int.ofNat 0)), (V.int .u8 (Int.ofNat 0)), (V.int .u8 (Int.ofNat 0)), (V.int .u8 (Int.ofNat 0)), (V.int .u8 (Int.ofNat 0)), (V.int .u8 (Int.ofNat 0)), (V.int .u8 (Int.ofNat 0)), (V.int .u8 (Int.ofNat 0)), (V.int .u8 (Int.ofNat 0)), (V.int .u8 (Int.ofNat 0)), (V.int .u8 (Int.ofNat 0)), (V.int .u8 (Int.ofNat 0)), (V.int .u8 (Int.ofNat 0)), (V.int .u8 (Int.ofNat 0)), (V.int .u8 (Int.ofNat 0)), (V.int .u8 (Int.ofNat 0)), (V.int .u8 (Int.ofNat 0)), (V.int .u8 (Int.ofNat 0)), (V.int .u8 (Int.ofNat 0))]) s3 fun s4 =>
 callK (D 61 [(V.str (BS.mk 18 8833536683947734889501819473892098087608694))] s4) fun u5 s6 =>
 rtOne u5 (
 stK 1 3 0 u5 s6 fun s7 =>
 callK (D 61 [(V.str (BS.mk 14 2441610318018593579359549976374889))] s7) fun u8 s9 =>
 rtOne u8 (
 stK 1 2 0 u8 s9 fun s10 =>
 some ((V.tup []), s10)))
theorem P108_0 (E : List (Nat × Blk)) (D : Den) (W : DrawFn) (N : Nat) (σ : H) :
  denC E D W N (C108_0 ) ⟨[], [], [], σ⟩ (Fin108 E) (fun _ _ => none) (Fin108 E) =
  T108_0 E D W   σ := by kernel_rfl
def J108_0 (E : List (Nat × Blk)) (D : Den) (W : DrawFn) (N : Nat) : H → Ans := T108_0 E D W 
theorem JE108_0 (E : List (Nat × Blk)) (D : Den) (W : DrawFn) (N : Nat) (σ : H) :
  denC E D W N C108_0 ⟨[], [], [], σ⟩ (Fin108 E) (fun _ _ => none) (Fin108 E) = J108_0 E D W N  σ := by
  refine (P108_0 E D W N    σ).trans ?_
  kernel_rfl
def F108 (E : List (Nat × Blk)) (D : Den) (W : DrawFn) (N : Nat) (args : List V) (σ : H) : Ans :=
 rtNil args (
 J108_0 E D W N  σ)
def A108 : XFn := ⟨11, [], [], C108_0⟩
theorem FE108 (E : List (Nat × Blk)) (D : Den) (W : DrawFn) (N : Nat) (args : List V) (σ : H) : runX E D W N A108 args σ = F108 E D W N args σ := by
  unfold F108
  simp only [← JE108_0]
  kernel_rfl
theorem AO108 : A108.body.ok = true := by kernel_rfl

end
end Go.Proofs.YtidadhnbgejmgaaDoor
