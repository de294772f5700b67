/- The code of the functions that are entered. Printed by a program off the dump. -/
import Derived.Test.YthkkkmkcjgaghaaGreatDoorAOgX
import Derived.KernelRfl
set_option linter.all false
set_option maxRecDepth 100000
set_option maxHeartbeats 0
namespace Go.Proofs.YthkkkmkcjgaghaaGreatDoor
open Go Go.Og
noncomputable section
/-! ### F87: __ogham_lex.reader_.skip -/
def Fin87 (E : List (Nat × Blk)) : St → Ans := fun s => resK E s [] fun l => some (oneV l, s.σ)
def C87_0 (cc1 : XC) : XC := (.block 0 (.loop [(0, .ptr)] [] [] cc1))
def T87_0 (E : List (Nat × Blk)) (D : Den) (W : DrawFn) (K1 : Nat → Nat → H → Ans) (v0b : Nat) (v0o : Nat) (σ : H) : Ans :=
 K1 v0b v0o σ
def C87_1 (cc2 : XC) (cc3 : XC) : XC := (.seq (.seq (.draw (.op (some 3) .any [0] (.mov (.tmp 0)) <|
 .op (some 4) .any [3] (.nilck (.tmp 3)) <|
 .op (some 5) .any [4] (.faddr 1 (.tmp 4)) <|
 .op (some 6) (.int .i64) [5] (.load none (.tmp 5)) <|
 .op (some 7) .any [0] (.mov (.tmp 0)) <|
 .op (some 8) .any [7] (.nilck (.tmp 7)) <|
 .op (some 9) .any [8] (.faddr 0 (.tmp 8)) <|
 .op (some 10) .str [9] (.load none (.tmp 9)) <|
 .op (some 11) .any [10] (.len true (.tmp 10)) <|
 .op (some 12) .any [6, 11] (.bin .lss .none (.tmp 6) (.tmp 11)) <|
 .nil) [0, 1, 3, 7, 0, 16, 48, 112, 240, 511])
 (.cond (.tmp 12) .skip
 (.exit 0)))
 (.block 1 (.seq (.ops (.op (some 13) .any [0] (.mov (.tmp 0)) <|
 .op (some 14) (.int .u8) [13] (.call 115 [(.tmp 13), (.con (V.int .i64 (Int.ofNat 0)))]) <|
 .op (some 2) .any [14] (.mov (.tmp 14)) <|
 .nil))
 (.block 2 (.seq (.ops (.op (some 16) .any [2] (.mov (.tmp 2)) <|
 .op (some 17) .any [16] (.bin .eql .none (.tmp 16) (.con (V.int .u8 (Int.ofNat 32)))) <|
 .op (some 18) .any [17] (.mov (.tmp 17)) <|
 .grp 18 false (.op (some 19) .any [2, 18] (.mov (.tmp 2)) <|
 .op (some 20) .any [19, 18] (.bin .eql .none (.tmp 19) (.con (V.int .u8 (Int.ofNat 9)))) <|
 .nil) 21 [18, 20] (.tmp 18) (.con (V.bool true)) (.tmp 20) <|
 .op (some 22) .any [21] (.mov (.tmp 21)) <|
 .grp 22 false (.op (some 23) .any [2, 22] (.mov (.tmp 2)) <|
 .op (some 24) .any [23, 22] (.bin .eql .none (.tmp 23) (.con (V.int .u8 (Int.ofNat 10)))) <|
 .nil) 25 [22, 24] (.tmp 22) (.con (V.bool true)) (.tmp 24) <|
 .op (some 26) .any [25] (.mov (.tmp 25)) <|
 .grp 26 false (.op (some 27) .any [2, 26] (.mov (.tmp 2)) <|
 .op (some 28) .any [27, 26] (.bin .eql .none (.tmp 27) (.con (V.int .u8 (Int.ofNat 13)))) <|
 .nil) 29 [26, 28] (.tmp 26) (.con (V.bool true)) (.tmp 28) <|
 .op (some 15) .any [29] (.mov (.tmp 29)) <|
 .nil))
 (.cond (.tmp 15) (.ops (.op (some 30) .any [0] (.mov (.tmp 0)) <|
 .op (some 31) .any [30] (.nilck (.tmp 30)) <|
 .op (some 32) .any [31] (.faddr 1 (.tmp 31)) <|
 .op (some 33) (.int .i64) [32] (.load none (.tmp 32)) <|
 .op (some 34) .any [33] (.bin .add .none (.tmp 33) (.con (V.int .i64 (Int.ofNat 1)))) <|
 .op (some 35) .any [30] (.nilck (.tmp 30)) <|
 .op (some 36) .any [35] (.faddr 1 (.tmp 35)) <|
 .op none .any [36, 34] (.store 1 (.tmp 36) (.tmp 34)) <|
 .nil))
 (.seq (.ops (.op (some 38) .any [0] (.mov (.tmp 0)) <|
 .op (some 39) .bool [38] (.call 116 [(.tmp 38), (.con (V.str ⟨2, 11565⟩))]) <|
 .op (some 37) .any [39] (.mov (.tmp 39)) <|
 .nil))
 (.cond (.tmp 37) (.seq (.ops (.op (some 40) .any [0] (.mov (.tmp 0)) <|
 .op (some 41) .any [40] (.nilck (.tmp 40)) <|
 .op (some 42) .any [41] (.faddr 1 (.tmp 41)) <|
 .op (some 43) (.int .i64) [42] (.load none (.tmp 42)) <|
 .op (some 44) .any [43] (.bin .add .none (.tmp 43) (.con (V.int .i64 (Int.ofNat 2)))) <|
 .op (some 45) .any [40] (.nilck (.tmp 40)) <|
 .op (some 46) .any [45] (.faddr 1 (.tmp 45)) <|
 .op none .any [46, 44] (.store 1 (.tmp 46) (.tmp 44)) <|
 .nil))
 (.seq (.block 3 (.loop [(0, .ptr)] [] [] cc3))
 (.keep [(0, .ptr)] [] [] cc2)))
 .ret))))))))
def T87_1 (E : List (Nat × Blk)) (D : Den) (W : DrawFn) (K3 : Nat → Nat → H → Ans) (R1 : Nat → Nat → H → Ans) (v0b : Nat) (v0o : Nat) (σ : H) : Ans :=
 ldK E σ v0b (Nat.add v0o 1) fun u1 =>
 rtInt .i64 u1 fun x2 =>
 ldK E σ v0b v0o fun u3 =>
 rtStr u3 fun x4 =>
 condK (ltF x2 (Int.ofNat (BS.len x4))) (
 callK (D 115 [(V.ptr v0b v0o), (V.int .i64 (Int.ofNat 0))] σ) fun u5 s6 =>
 rtInt .u8 u5 fun x7 =>
 joinB (fun c8 s9 =>
 joinB (fun c11 s12 =>
 joinB (fun c14 s15 =>
 condK c14 (
 ldK E s15 v0b (Nat.add v0o 1) fun u17 =>
 rtInt .i64 u17 fun x18 =>
 stK 1 v0b (Nat.add v0o 1) (V.int .i64 (addF .i64 x18 (Int.ofNat 1))) s15 fun s19 =>
 R1 v0b v0o s19) (
 callK (D 116 [(V.ptr v0b v0o), (V.str (BS.mk 2 11565))] s15) fun u20 s21 =>
 rtBool u20 fun x22 =>
 condK x22 (
 ldK E s21 v0b (Nat.add v0o 1) fun u23 =>
 rtInt .i64 u23 fun x24 =>
 stK 1 v0b (Nat.add v0o 1) (V.int .i64 (addF .i64 x24 (Int.ofNat 2))) s21 fun s25 =>
 K3 v0b v0o s25) (
 some ((V.tup []), s21)))) fun k16 =>
 condK c11 (
 k16 true s12) (
 k16 (eqF x7 (Int.ofNat 13)) s12)) fun k13 =>
 condK c8 (
 k13 true s9) (
 k13 (eqF x7 (Int.ofNat 10)) s9)) fun k10 =>
 condK (eqF x7 (Int.ofNat 32)) (
 k10 true s6) (
 k10 (eqF x7 (Int.ofNat 9)) s6)) (
 some ((V.tup []), σ))
def C87_2 : XC := (.seq (.ops (.op (some 74) .any [0] (.mov (.tmp 0)) <|
 .op (some 75) .bool [74] (.call 116 [(.tmp 74), (.con (V.str ⟨2, 11565⟩))]) <|
 .nil))
 (.cond (.tmp 75) (.ops (.op (some 76) .any [0] (.mov (.tmp 0)) <|
 .op (some 77) .any [76] (.nilck (.tmp 76)) <|
 .op (some 78) .any [77] (.faddr 1 (.tmp 77)) <|
 .op (some 79) (.int .i64) [78] (.load none (.tmp 78)) <|
 .op (some 80) .any [79] (.bin .add .none (.tmp 79) (.con (V.int .i64 (Int.ofNat 2)))) <|
 .op (some 81) .any [76] (.nilck (.tmp 76)) <|
 .op (some 82) .any [81] (.faddr 1 (.tmp 81)) <|
 .op none .any [82, 80] (.store 1 (.tmp 82) (.tmp 80)) <|
 .nil))
 .skip))
def T87_2 (E : List (Nat × Blk)) (D : Den) (W : DrawFn) (R1 : Nat → Nat → H → Ans) (v0b : Nat) (v0o : Nat) (σ : H) : Ans :=
 callK (D 116 [(V.ptr v0b v0o), (V.str (BS.mk 2 11565))] σ) fun u1 s2 =>
 rtBool u1 fun x3 =>
 condK x3 (
 ldK E s2 v0b (Nat.add v0o 1) fun u4 =>
 rtInt .i64 u4 fun x5 =>
 stK 1 v0b (Nat.add v0o 1) (V.int .i64 (addF .i64 x5 (Int.ofNat 2))) s2 fun s6 =>
 R1 v0b v0o s6) (
 R1 v0b v0o s2)
def C87_3 : XC := (.seq (.seq (.draw (.op (some 47) .any [0] (.mov (.tmp 0)) <|
 .op (some 48) .any [47] (.nilck (.tmp 47)) <|
 .op (some 49) .any [48] (.faddr 1 (.tmp 48)) <|
 .op (some 50) (.int .i64) [49] (.load none (.tmp 49)) <|
 .op (some 51) .any [0] (.mov (.tmp 0)) <|
 .op (some 52) .any [51] (.nilck (.tmp 51)) <|
 .op (some 53) .any [52] (.faddr 0 (.tmp 52)) <|
 .op (some 54) .str [53] (.load none (.tmp 53)) <|
 .op (some 55) .any [54] (.len true (.tmp 54)) <|
 .op (some 56) .any [50, 55] (.bin .lss .none (.tmp 50) (.tmp 55)) <|
 .op (some 57) .any [56] (.mov (.tmp 56)) <|
 .grp 57 true (.op (some 58) .any [0, 57] (.mov (.tmp 0)) <|
 .op (some 59) (.int .u8) [58, 57] (.call 115 [(.tmp 58), (.con (V.int .i64 (Int.ofNat 0)))]) <|
 .op (some 60) .any [59, 57] (.bin .neq .none (.tmp 59) (.con (V.int .u8 (Int.ofNat 10)))) <|
 .nil) 61 [57, 60] (.tmp 57) (.tmp 60) (.con (V.bool false)) <|
 .op (some 62) .any [61] (.mov (.tmp 61)) <|
 .grp 62 true (.op (some 63) .any [0, 62] (.mov (.tmp 0)) <|
 .op (some 64) .bool [63, 62] (.call 116 [(.tmp 63), (.con (V.str ⟨2, 11565⟩))]) <|
 .op (some 65) .any [64, 62] (.un .not (.tmp 64)) <|
 .nil) 66 [62, 65] (.tmp 62) (.tmp 65) (.con (V.bool false)) <|
 .nil) [0, 1, 3, 7, 0, 16, 48, 112, 240, 511, 1023, 2047, 4095, 8191, 16383, 32767, 65535, 131071, 262143, 524287])
 (.cond (.tmp 66) .skip
 (.exit 3)))
 (.block 4 (.ops (.op (some 67) .any [0] (.mov (.tmp 0)) <|
 .op (some 68) .any [67] (.nilck (.tmp 67)) <|
 .op (some 69) .any [68] (.faddr 1 (.tmp 68)) <|
 .op (some 70) (.int .i64) [69] (.load none (.tmp 69)) <|
 .op (some 71) .any [70] (.bin .add .none (.tmp 70) (.con (V.int .i64 (Int.ofNat 1)))) <|
 .op (some 72) .any [67] (.nilck (.tmp 67)) <|
 .op (some 73) .any [72] (.faddr 1 (.tmp 72)) <|
 .op none .any [73, 71] (.store 1 (.tmp 73) (.tmp 71)) <|
 .nil))))
def T87_3 (E : List (Nat × Blk)) (D : Den) (W : DrawFn) (K2 : Nat → Nat → H → Ans) (R3 : Nat → Nat → H → Ans) (v0b : Nat) (v0o : Nat) (σ : H) : Ans :=
 ldK E σ v0b (Nat.add v0o 1) fun u1 =>
 rtInt .i64 u1 fun x2 =>
 ldK E σ v0b v0o fun u3 =>
 rtStr u3 fun x4 =>
 joinB (fun c5 s6 =>
 joinB (fun c8 s9 =>
 condK c8 (
 ldK E s9 v0b (Nat.add v0o 1) fun u11 =>
 rtInt .i64 u11 fun x12 =>
 stK 1 v0b (Nat.add v0o 1) (V.int .i64 (addF .i64 x12 (Int.ofNat 1))) s9 fun s13 =>
 R3 v0b v0o s13) (
 K2 v0b v0o s9)) fun k10 =>
 condK c5 (
 callK (D 116 [(V.ptr v0b v0o), (V.str (BS.mk 2 11565))] s6) fun u14 s15 =>
 rtBool u14 fun x16 =>
 k10 (not x16) s15) (
 k10 false s6)) fun k7 =>
 condK (ltF x2 (Int.ofNat (BS.len x4))) (
 callK (D 115 [(V.ptr v0b v0o), (V.int .i64 (Int.ofNat 0))] σ) fun u17 s18 =>
 rtInt .u8 u17 fun x19 =>
 k7 (not (eqF x19 (Int.ofNat 10))) s18) (
 k7 false σ)
theorem P87_0 (E : List (Nat × Blk)) (D : Den) (W : DrawFn) (N : Nat) (cc1 : XC) (v0b : Nat) (v0o : Nat) (σ : H) :
  denC E D W N (C87_0 cc1) ⟨[(0, (V.ptr v0b v0o))], [], [], σ⟩ (Fin87 E) (fun _ _ => none) (Fin87 E) =
  T87_0 E D W (fun v0b v0o σ => iterK (fun rec s' => denC E D W N cc1 s' (fun s'' => keepS [(0, .ptr)] [] [] s'' rec) (blkK 0 (Fin87 E) (fun _ _ => none)) (Fin87 E)) N ⟨[(0, (V.ptr v0b v0o))], [], [], σ⟩) v0b v0o σ := by kernel_rfl
theorem P87_1 (E : List (Nat × Blk)) (D : Den) (W : DrawFn) (N : Nat) (cc2 : XC) (cc3 : XC) (li1 : St → Ans) (v0b : Nat) (v0o : Nat) (σ : H) :
  denC E D W N (C87_1 cc2 cc3) ⟨[(0, (V.ptr v0b v0o))], [], [], σ⟩ (fun s'' => keepS [(0, .ptr)] [] [] s'' li1) (blkK 0 (Fin87 E) (fun _ _ => none)) (Fin87 E) =
  T87_1 E D W (fun v0b v0o σ => iterK (fun rec s' => denC E D W N cc3 s' (fun s'' => keepS [(0, .ptr)] [] [] s'' rec) (blkK 3 (fun s' => denC E D W N (.keep [(0, .ptr)] [] [] cc2) s' (fun s'' => keepS [(0, .ptr)] [] [] s'' li1) (blkK 2 (fun s'' => keepS [(0, .ptr)] [] [] s'' li1) (blkK 1 (fun s'' => keepS [(0, .ptr)] [] [] s'' li1) (blkK 0 (Fin87 E) (fun _ _ => none)))) (Fin87 E)) (blkK 2 (fun s'' => keepS [(0, .ptr)] [] [] s'' li1) (blkK 1 (fun s'' => keepS [(0, .ptr)] [] [] s'' li1) (blkK 0 (Fin87 E) (fun _ _ => none))))) (Fin87 E)) N ⟨[(0, (V.ptr v0b v0o))], [], [], σ⟩) (fun v0b v0o σ => li1 ⟨[(0, (V.ptr v0b v0o))], [], [], σ⟩) v0b v0o σ := by kernel_rfl
theorem P87_2 (E : List (Nat × Blk)) (D : Den) (W : DrawFn) (N : Nat) (li1 : St → Ans) (v0b : Nat) (v0o : Nat) (σ : H) :
  denC E D W N (C87_2 ) ⟨[(0, (V.ptr v0b v0o))], [], [], σ⟩ (fun s'' => keepS [(0, .ptr)] [] [] s'' li1) (blkK 2 (fun s'' => keepS [(0, .ptr)] [] [] s'' li1) (blkK 1 (fun s'' => keepS [(0, .ptr)] [] [] s'' li1) (blkK 0 (Fin87 E) (fun _ _ => none)))) (Fin87 E) =
  T87_2 E D W (fun v0b v0o σ => li1 ⟨[(0, (V.ptr v0b v0o))], [], [], σ⟩) v0b v0o σ := by kernel_rfl
theorem P87_3 (E : List (Nat × Blk)) (D : Den) (W : DrawFn) (N : Nat) (cc2 : XC) (li1 : St → Ans) (li3 : St → Ans) (v0b : Nat) (v0o : Nat) (σ : H) :
  denC E D W N (C87_3 ) ⟨[(0, (V.ptr v0b v0o))], [], [], σ⟩ (fun s'' => keepS [(0, .ptr)] [] [] s'' li3) (blkK 3 (fun s' => denC E D W N (.keep [(0, .ptr)] [] [] cc2) s' (fun s'' => keepS [(0, .ptr)] [] [] s'' li1) (blkK 2 (fun s'' => keepS [(0, .ptr)] [] [] s'' li1) (blkK 1 (fun s'' => keepS [(0, .ptr)] [] [] s'' li1) (blkK 0 (Fin87 E) (fun _ _ => none)))) (Fin87 E)) (blkK 2 (fun s'' => keepS [(0, .ptr)] [] [] s'' li1) (blkK 1 (fun s'' => keepS [(0, .ptr)] [] [] s'' li1) (blkK 0 (Fin87 E) (fun _ _ => none))))) (Fin87 E) =
  T87_3 E D W (fun v0b v0o σ => denC E D W N cc2 ⟨[(0, (V.ptr v0b v0o))], [], [], σ⟩ (fun s'' => keepS [(0, .ptr)] [] [] s'' li1) (blkK 2 (fun s'' => keepS [(0, .ptr)] [] [] s'' li1) (blkK 1 (fun s'' => keepS [(0, .ptr)] [] [] s'' li1) (blkK 0 (Fin87 E) (fun _ _ => none)))) (Fin87 E)) (fun v0b v0o σ => li3 ⟨[(0, (V.ptr v0b v0o))], [], [], σ⟩) v0b v0o σ := by kernel_rfl
def J87_2 (E : List (Nat × Blk)) (D : Den) (W : DrawFn) (N : Nat) (R1 : Nat → Nat → H → Ans) : Nat → Nat → H → Ans := T87_2 E D W R1
theorem JE87_2 (E : List (Nat × Blk)) (D : Den) (W : DrawFn) (N : Nat) (li1 : St → Ans) (v0b : Nat) (v0o : Nat) (σ : H) :
  denC E D W N C87_2 ⟨[(0, (V.ptr v0b v0o))], [], [], σ⟩ (fun s'' => keepS [(0, .ptr)] [] [] s'' li1) (blkK 2 (fun s'' => keepS [(0, .ptr)] [] [] s'' li1) (blkK 1 (fun s'' => keepS [(0, .ptr)] [] [] s'' li1) (blkK 0 (Fin87 E) (fun _ _ => none)))) (Fin87 E) = J87_2 E D W N (fun v0b v0o σ => li1 ⟨[(0, (V.ptr v0b v0o))], [], [], σ⟩) v0b v0o σ := by
  refine (P87_2 E D W N  li1 v0b v0o σ).trans ?_
  kernel_rfl
def L87_3 (E : List (Nat × Blk)) (D : Den) (W : DrawFn) (N : Nat) (R1 : Nat → Nat → H → Ans) (n : Nat) : Nat → Nat → H → Ans :=
  Nat.rec (fun _ _ _ => none) (fun _ ih => T87_3 E D W (J87_2 E D W N R1) ih) n
theorem LE87_3 (E : List (Nat × Blk)) (D : Den) (W : DrawFn) (N : Nat) (li1 : St → Ans) (n : Nat) : ∀ (v0b : Nat) (v0o : Nat) (σ : H),
  iterK (fun rec s' => denC E D W N C87_3 s' (fun s'' => keepS [(0, .ptr)] [] [] s'' rec) (blkK 3 (fun s' => denC E D W N (.keep [(0, .ptr)] [] [] C87_2) s' (fun s'' => keepS [(0, .ptr)] [] [] s'' li1) (blkK 2 (fun s'' => keepS [(0, .ptr)] [] [] s'' li1) (blkK 1 (fun s'' => keepS [(0, .ptr)] [] [] s'' li1) (blkK 0 (Fin87 E) (fun _ _ => none)))) (Fin87 E)) (blkK 2 (fun s'' => keepS [(0, .ptr)] [] [] s'' li1) (blkK 1 (fun s'' => keepS [(0, .ptr)] [] [] s'' li1) (blkK 0 (Fin87 E) (fun _ _ => none))))) (Fin87 E)) n ⟨[(0, (V.ptr v0b v0o))], [], [], σ⟩ = L87_3 E D W N (fun v0b v0o σ => li1 ⟨[(0, (V.ptr v0b v0o))], [], [], σ⟩) n v0b v0o σ := by
  induction n with
  | zero => intro v0b v0o σ; rfl
  | succ n ihn =>
    intro v0b v0o σ
    rw [iterK_succ]
    refine (P87_3 E D W N C87_2 li1 (iterK (fun rec s' => denC E D W N C87_3 s' (fun s'' => keepS [(0, .ptr)] [] [] s'' rec) (blkK 3 (fun s' => denC E D W N (.keep [(0, .ptr)] [] [] C87_2) s' (fun s'' => keepS [(0, .ptr)] [] [] s'' li1) (blkK 2 (fun s'' => keepS [(0, .ptr)] [] [] s'' li1) (blkK 1 (fun s'' => keepS [(0, .ptr)] [] [] s'' li1) (blkK 0 (Fin87 E) (fun _ _ => none)))) (Fin87 E)) (blkK 2 (fun s'' => keepS [(0, .ptr)] [] [] s'' li1) (blkK 1 (fun s'' => keepS [(0, .ptr)] [] [] s'' li1) (blkK 0 (Fin87 E) (fun _ _ => none))))) (Fin87 E)) n) v0b v0o σ).trans ?_
    simp only [ihn, JE87_2]
    kernel_rfl
def L87_1 (E : List (Nat × Blk)) (D : Den) (W : DrawFn) (N : Nat) (n : Nat) : Nat → Nat → H → Ans :=
  Nat.rec (fun _ _ _ => none) (fun _ ih => T87_1 E D W (L87_3 E D W N ih N) ih) n
theorem LE87_1 (E : List (Nat × Blk)) (D : Den) (W : DrawFn) (N : Nat) (n : Nat) : ∀ (v0b : Nat) (v0o : Nat) (σ : H),
  iterK (fun rec s' => denC E D W N (C87_1 C87_2 C87_3) s' (fun s'' => keepS [(0, .ptr)] [] [] s'' rec) (blkK 0 (Fin87 E) (fun _ _ => none)) (Fin87 E)) n ⟨[(0, (V.ptr v0b v0o))], [], [], σ⟩ = L87_1 E D W N n v0b v0o σ := by
  induction n with
  | zero => intro v0b v0o σ; rfl
  | succ n ihn =>
    intro v0b v0o σ
    rw [iterK_succ]
    refine (P87_1 E D W N C87_2 C87_3 (iterK (fun rec s' => denC E D W N (C87_1 C87_2 C87_3) s' (fun s'' => keepS [(0, .ptr)] [] [] s'' rec) (blkK 0 (Fin87 E) (fun _ _ => none)) (Fin87 E)) n) v0b v0o σ).trans ?_
    simp only [ihn, LE87_3]
    kernel_rfl
def J87_0 (E : List (Nat × Blk)) (D : Den) (W : DrawFn) (N : Nat) : Nat → Nat → H → Ans := T87_0 E D W (L87_1 E D W N N)
theorem JE87_0 (E : List (Nat × Blk)) (D : Den) (W : DrawFn) (N : Nat) (v0b : Nat) (v0o : Nat) (σ : H) :
  denC E D W N (C87_0 (C87_1 C87_2 C87_3)) ⟨[(0, (V.ptr v0b v0o))], [], [], σ⟩ (Fin87 E) (fun _ _ => none) (Fin87 E) = J87_0 E D W N v0b v0o σ := by
  refine (P87_0 E D W N (C87_1 C87_2 C87_3)  v0b v0o σ).trans ?_
  simp only [LE87_1]
  kernel_rfl
def F87 (E : List (Nat × Blk)) (D : Den) (W : DrawFn) (N : Nat) (args : List V) (σ : H) : Ans :=
 rtCons args fun x1 l2 =>
 rtPtr x1 fun b3 o4 =>
 rtNil l2 (
 J87_0 E D W N b3 o4 σ)
def A87 : XFn := ⟨83, [.ptr], [], (C87_0 (C87_1 C87_2 C87_3))⟩
theorem FE87 (E : List (Nat × Blk)) (D : Den) (W : DrawFn) (N : Nat) (args : List V) (σ : H) : runX E D W N A87 args σ = F87 E D W N args σ := by
  unfold F87
  simp only [← JE87_0]
  kernel_rfl
theorem AO87 : A87.body.ok = true := by kernel_rfl

/-! ### F88: __ogham_lex.lexer_.token -/
def Fin88 (E : List (Nat × Blk)) : St → Ans := fun s => resK E s [(.tmp 2), (.tmp 3)] fun l => some (oneV l, s.σ)
def C88_0 : XC := (.seq (.ops (.op (some 2) .any [] (.mov (.con (V.int .i64 (Int.ofNat 0)))) <|
 .op (some 3) .any [] (.mov (.con (V.str ⟨0, 0⟩))) <|
 .nil))
 (.seq (.seq (.ops (.op (some 5) .any [0] (.mov (.tmp 0)) <|
 .op (some 6) .any [5] (.nilck (.tmp 5)) <|
 .op (some 7) .any [6] (.faddr 0 (.tmp 6)) <|
 .op (some 8) (.int .u8) [7] (.call 115 [(.tmp 7), (.con (V.int .i64 (Int.ofNat 0)))]) <|
 .op (some 4) .any [8] (.mov (.tmp 8)) <|
 .nil))
 (.block 0 (.seq (.ops (.op (some 10) .any [4] (.mov (.tmp 4)) <|
 .op (some 11) .bool [10] (.call 117 [(.tmp 10)]) <|
 .op (some 9) .any [11] (.mov (.tmp 11)) <|
 .nil))
 (.cond (.tmp 9) (.seq (.ops (.op (some 12) .any [0] (.mov (.tmp 0)) <|
 .op (some 13) (.tup [(.int .i64), .str]) [12] (.call 118 [(.tmp 12)]) <|
 .op (some 14) .any [13] (.extract 0 (.tmp 13)) <|
 .op (some 15) .any [13] (.extract 1 (.tmp 13)) <|
 .op (some 2) .any [14] (.mov (.tmp 14)) <|
 .op (some 3) .any [15] (.mov (.tmp 15)) <|
 .nil))
 .ret)
 (.seq (.ops (.op (some 17) .any [4] (.mov (.tmp 4)) <|
 .op (some 18) .bool [17] (.call 119 [(.tmp 17)]) <|
 .op (some 19) .any [18] (.mov (.tmp 18)) <|
 .grp 19 false (.op (some 20) .any [4, 19] (.mov (.tmp 4)) <|
 .op (some 21) .any [20, 19] (.bin .eql .none (.tmp 20) (.con (V.int .u8 (Int.ofNat 45)))) <|
 .op (some 22) .any [21, 19] (.mov (.tmp 21)) <|
 .grp 22 true (.op (some 23) .any [0, 22] (.mov (.tmp 0)) <|
 .op (some 24) .any [23, 22] (.nilck (.tmp 23)) <|
 .op (some 25) .any [24, 22] (.faddr 0 (.tmp 24)) <|
 .op (some 26) (.int .u8) [25, 22] (.call 115 [(.tmp 25), (.con (V.int .i64 (Int.ofNat 1)))]) <|
 .op (some 27) .bool [26, 22] (.call 119 [(.tmp 26)]) <|
 .nil) 28 [22, 27, 19] (.tmp 22) (.tmp 27) (.con (V.bool false)) <|
 .nil) 29 [19, 28] (.tmp 19) (.con (V.bool true)) (.tmp 28) <|
 .op (some 16) .any [29] (.mov (.tmp 29)) <|
 .nil))
 (.cond (.tmp 16) (.seq (.ops (.op (some 30) .any [0] (.mov (.tmp 0)) <|
 .op (some 31) (.tup [(.int .i64), .str]) [30] (.call 120 [(.tmp 30)]) <|
 .op (some 32) .any [31] (.extract 0 (.tmp 31)) <|
 .op (some 33) .any [31] (.extract 1 (.tmp 31)) <|
 .op (some 2) .any [32] (.mov (.tmp 32)) <|
 .op (some 3) .any [33] (.mov (.tmp 33)) <|
 .nil))
 .ret)
 (.seq (.ops (.op (some 35) .any [4] (.mov (.tmp 4)) <|
 .op (some 36) .any [35] (.bin .eql .none (.tmp 35) (.con (V.int .u8 (Int.ofNat 39)))) <|
 .op (some 34) .any [36] (.mov (.tmp 36)) <|
 .nil))
 (.cond (.tmp 34) (.seq (.ops (.op (some 37) .any [0] (.mov (.tmp 0)) <|
 .op (some 38) (.tup [(.int .i64), .str]) [37] (.call 121 [(.tmp 37)]) <|
 .op (some 39) .any [38] (.extract 0 (.tmp 38)) <|
 .op (some 40) .any [38] (.extract 1 (.tmp 38)) <|
 .op (some 2) .any [39] (.mov (.tmp 39)) <|
 .op (some 3) .any [40] (.mov (.tmp 40)) <|
 .nil))
 .ret)
 (.seq (.ops (.op (some 42) .any [4] (.mov (.tmp 4)) <|
 .op (some 43) .any [42] (.bin .eql .none (.tmp 42) (.con (V.int .u8 (Int.ofNat 34)))) <|
 .op (some 41) .any [43] (.mov (.tmp 43)) <|
 .nil))
 (.cond (.tmp 41) (.seq (.ops (.op (some 44) .any [0] (.mov (.tmp 0)) <|
 .op (some 45) (.tup [(.int .i64), .str]) [44] (.call 122 [(.tmp 44)]) <|
 .op (some 46) .any [45] (.extract 0 (.tmp 45)) <|
 .op (some 47) .any [45] (.extract 1 (.tmp 45)) <|
 .op (some 2) .any [46] (.mov (.tmp 46)) <|
 .op (some 3) .any [47] (.mov (.tmp 47)) <|
 .nil))
 .ret)
 .skip))))))))))
 (.seq (.ops (.op (some 48) .any [0] (.mov (.tmp 0)) <|
 .op (some 49) (.tup [(.int .i64), .str]) [48] (.call 123 [(.tmp 48)]) <|
 .op (some 50) .any [49] (.extract 0 (.tmp 49)) <|
 .op (some 51) .any [49] (.extract 1 (.tmp 49)) <|
 .op (some 2) .any [50] (.mov (.tmp 50)) <|
 .op (some 3) .any [51] (.mov (.tmp 51)) <|
 .nil))
 .ret)))
def T88_0 (E : List (Nat × Blk)) (D : Den) (W : DrawFn) (v0b : Nat) (v0o : Nat) (σ : H) : Ans :=
 callK (D 115 [(V.ptr v0b v0o), (V.int .i64 (Int.ofNat 0))] σ) fun u1 s2 =>
 rtInt .u8 u1 fun x3 =>
 callK (D 117 [(V.int .u8 x3)] s2) fun u4 s5 =>
 rtBool u4 fun x6 =>
 condK x6 (
 callK (D 118 [(V.ptr v0b v0o)] s5) fun u7 s8 =>
 rtTup u7 fun l9 =>
 rtCons l9 fun x10 l11 =>
 rtInt .i64 x10 fun x12 =>
 rtCons l11 fun x13 l14 =>
 rtStr x13 fun x15 =>
 rtNil l14 (
 some ((V.tup [(V.int .i64 x12), (V.str x15)]), s8))) (
 callK (D 119 [(V.int .u8 x3)] s5) fun u16 s17 =>
 rtBool u16 fun x18 =>
 joinB (fun c19 s20 =>
 condK c19 (
 callK (D 120 [(V.ptr v0b v0o)] s20) fun u22 s23 =>
 rtTup u22 fun l24 =>
 rtCons l24 fun x25 l26 =>
 rtInt .i64 x25 fun x27 =>
 rtCons l26 fun x28 l29 =>
 rtStr x28 fun x30 =>
 rtNil l29 (
 some ((V.tup [(V.int .i64 x27), (V.str x30)]), s23))) (
 condK (eqF x3 (Int.ofNat 39)) (
 callK (D 121 [(V.ptr v0b v0o)] s20) fun u31 s32 =>
 rtTup u31 fun l33 =>
 rtCons l33 fun x34 l35 =>
 rtInt .i64 x34 fun x36 =>
 rtCons l35 fun x37 l38 =>
 rtStr x37 fun x39 =>
 rtNil l38 (
 some ((V.tup [(V.int .i64 x36), (V.str x39)]), s32))) (
 condK (eqF x3 (Int.ofNat 34)) (
 callK (D 122 [(V.ptr v0b v0o)] s20) fun u40 s41 =>
 rtTup u40 fun l42 =>
 rtCons l42 fun x43 l44 =>
 rtInt .i64 x43 fun x45 =>
 rtCons l44 fun x46 l47 =>
 rtStr x46 fun x48 =>
 rtNil l47 (
 some ((V.tup [(V.int .i64 x45), (V.str x48)]), s41))) (
 callK (D 123 [(V.ptr v0b v0o)] s20) fun u49 s50 =>
 rtTup u49 fun l51 =>
 rtCons l51 fun x52 l53 =>
 rtInt .i64 x52 fun x54 =>
 rtCons l53 fun x55 l56 =>
 rtStr x55 fun x57 =>
 rtNil l56 (
 some ((V.tup [(V.int .i64 x54), (V.str x57)]), s50)))))) fun k21 =>
 condK x18 (
 k21 true s17) (
 joinB (fun c58 s59 =>
 k21 c58 s59) fun k60 =>
 condK (eqF x3 (Int.ofNat 45)) (
 callK (D 115 [(V.ptr v0b v0o), (V.int .i64 (Int.ofNat 1))] s17) fun u61 s62 =>
 rtInt .u8 u61 fun x63 =>
 callK (D 119 [(V.int .u8 x63)] s62) fun u64 s65 =>
 rtBool u64 fun x66 =>
 k60 x66 s65) (
 k60 false s17)))
theorem P88_0 (E : List (Nat × Blk)) (D : Den) (W : DrawFn) (N : Nat) (v0b : Nat) (v0o : Nat) (σ : H) :
  denC E D W N (C88_0 ) ⟨[(0, (V.ptr v0b v0o))], [], [], σ⟩ (Fin88 E) (fun _ _ => none) (Fin88 E) =
  T88_0 E D W  v0b v0o σ := by kernel_rfl
def J88_0 (E : List (Nat × Blk)) (D : Den) (W : DrawFn) (N : Nat) : Nat → Nat → H → Ans := T88_0 E D W 
theorem JE88_0 (E : List (Nat × Blk)) (D : Den) (W : DrawFn) (N : Nat) (v0b : Nat) (v0o : Nat) (σ : H) :
  denC E D W N C88_0 ⟨[(0, (V.ptr v0b v0o))], [], [], σ⟩ (Fin88 E) (fun _ _ => none) (Fin88 E) = J88_0 E D W N v0b v0o σ := by
  refine (P88_0 E D W N   v0b v0o σ).trans ?_
  kernel_rfl
def F88 (E : List (Nat × Blk)) (D : Den) (W : DrawFn) (N : Nat) (args : List V) (σ : H) : Ans :=
 rtCons args fun x1 l2 =>
 rtPtr x1 fun b3 o4 =>
 rtNil l2 (
 J88_0 E D W N b3 o4 σ)
def A88 : XFn := ⟨52, [.ptr], [(.tmp 2), (.tmp 3)], C88_0⟩
theorem FE88 (E : List (Nat × Blk)) (D : Den) (W : DrawFn) (N : Nat) (args : List V) (σ : H) : runX E D W N A88 args σ = F88 E D W N args σ := by
  unfold F88
  simp only [← JE88_0]
  kernel_rfl
theorem AO88 : A88.body.ok = true := by kernel_rfl

def G89_0 : List AOper := [⟨(some 15), .load (some 3) (.tmp 6), none⟩, ⟨(some 16), .mov (.tmp 0), none⟩, ⟨(some 17), .faddr 2 (.tmp 6), none⟩, ⟨(some 18), .load none (.tmp 17), none⟩, ⟨(some 19), .call 124 [(.tmp 16), (.tmp 18), (.con (V.int .i64 (Int.ofNat 7)))], none⟩, ⟨none, .store 3 (.tmp 4) (.tmp 15), none⟩, ⟨(some 5), .mov (.tmp 19), none⟩]
def H89_0 : List DP := [⟨0, [6]⟩, ⟨0, [0]⟩, ⟨0, [6]⟩, ⟨4, [17]⟩, ⟨14, [16, 18]⟩, ⟨31, [4, 15]⟩, ⟨63, [19]⟩]
def C89_0 : XC := (.seq (.ops (.op (some 4) .any [] (.alloc 187 [(V.int .i64 (Int.ofNat 0)), (V.str ⟨0, 0⟩), (V.int .i64 (Int.ofNat 0))]) <|
 .op (some 5) .any [] (.mov (.con (V.bool false))) <|
 .nil))
 (.seq (.ops (.op (some 7) .any [0] (.mov (.tmp 0)) <|
 .op (some 8) .any [7] (.nilck (.tmp 7)) <|
 .op (some 9) .any [8] (.faddr 0 (.tmp 8)) <|
 .op (some 10) (.agg [(.int .i64), .str, (.int .i64)]) [9] (.call 92 [(.tmp 9)]) <|
 .op (some 6) .any [] (.alloc 187 [(V.int .i64 (Int.ofNat 0)), (V.str ⟨0, 0⟩), (V.int .i64 (Int.ofNat 0))]) <|
 .op none (.agg [(.int .i64), .str, (.int .i64)]) [6, 10] (.store 3 (.tmp 6) (.tmp 10)) <|
 .nil))
 (.seq (.seq (.ops (.op (some 11) .any [6] (.faddr 0 (.tmp 6)) <|
 .op (some 12) (.int .i64) [11] (.load none (.tmp 11)) <|
 .op (some 13) .any [1] (.mov (.tmp 1)) <|
 .op (some 14) .any [12, 13] (.bin .neq .none (.tmp 12) (.tmp 13)) <|
 .nil))
 (.cond (.tmp 14) (.seq (.keep [(0, .ptr), (4, .ptr), (6, .ptr)] [] [] (.gdraw G89_0 H89_0 [(4, .ptr), (5, .bool)]))
 .ret)
 .skip))
 (.seq (.ops (.op (some 20) .any [0] (.mov (.tmp 0)) <|
 .op (some 21) .any [20] (.nilck (.tmp 20)) <|
 .op (some 22) .any [21] (.faddr 0 (.tmp 21)) <|
 .op (some 23) (.agg [(.int .i64), .str, (.int .i64)]) [22] (.call 125 [(.tmp 22)]) <|
 .op none (.agg [(.int .i64), .str, (.int .i64)]) [4, 23] (.store 3 (.tmp 4) (.tmp 23)) <|
 .op (some 5) .any [] (.mov (.con (V.bool true))) <|
 .nil))
 .ret))))
def A89 : XFn := ⟨24, [.ptr, (.int .i64)], [(.cell 4 (some 3)), (.tmp 5)], C89_0⟩
/-! ### F90: __ogham_syntax.parser_.want -/
def Fin90 (E : List (Nat × Blk)) : St → Ans := fun s => resK E s [(.tmp 4)] fun l => some (oneV l, s.σ)
def C90_0 (cc1 : XC) (cc2 : XC) : XC := (.seq (.ops (.op (some 4) .any [] (.mov (.con (V.bool false))) <|
 .nil))
 (.seq (.seq (.ops (.op (some 7) .any [1] (.mov (.tmp 1)) <|
 .op (some 8) .any [7] (.len false (.tmp 7)) <|
 .op (some 9) .any [] (.mov (.con (V.int .i64 (Int.ofNat 0)))) <|
 .nil))
 (.block 0 (.loop [(0, .ptr), (7, .any), (8, (.int .i64)), (9, (.int .i64))] [] [] cc2)))
 (.keep [] [] [] cc1)))
def T90_0 (E : List (Nat × Blk)) (D : Den) (W : DrawFn) (K2 : Nat → Nat → V → Int → Int → H → Ans) (v0b : Nat) (v0o : Nat) (v1 : V) (σ : H) : Ans :=
 slenK v1 fun n1 =>
 K2 v0b v0o v1 (Int.ofNat n1) (Int.ofNat 0) σ
def C90_1 : XC := (.seq (.ops (.op (some 4) .any [] (.mov (.con (V.bool true))) <|
 .nil))
 .ret)
def T90_1 (E : List (Nat × Blk)) (D : Den) (W : DrawFn) (σ : H) : Ans :=
 some ((V.bool true), σ)
def C90_2 : XC := (.seq (.ops (.op (some 10) .any [9, 8] (.bin .lss .none (.tmp 9) (.tmp 8)) <|
 .nil))
 (.seq (.cond (.tmp 10) .skip
 (.exit 0))
 (.seq (.block 1 (.seq (.ops (.op (some 11) .any [7, 9] (.iaddrS 1 (.tmp 7) (.tmp 9)) <|
 .op (some 12) .str [11] (.load none (.tmp 11)) <|
 .op (some 6) .any [12] (.mov (.tmp 12)) <|
 .nil))
 (.seq (.ops (.op (some 13) .any [0] (.mov (.tmp 0)) <|
 .op (some 14) .any [13] (.nilck (.tmp 13)) <|
 .op (some 15) .any [14] (.faddr 0 (.tmp 14)) <|
 .op (some 16) .any [6] (.mov (.tmp 6)) <|
 .op (some 17) .bool [15, 16] (.call 126 [(.tmp 15), (.tmp 16)]) <|
 .op (some 18) .any [17] (.un .not (.tmp 17)) <|
 .nil))
 (.cond (.tmp 18) (.seq (.ops (.op (some 19) .any [0] (.mov (.tmp 0)) <|
 .op (some 20) .any [0] (.mov (.tmp 0)) <|
 .op (some 21) .any [20] (.nilck (.tmp 20)) <|
 .op (some 22) .any [21] (.faddr 0 (.tmp 21)) <|
 .op (some 23) (.agg [(.int .i64), .str, (.int .i64)]) [22] (.call 92 [(.tmp 22)]) <|
 .op (some 24) (.int .i64) [23] (.field 2 none (.tmp 23)) <|
 .op (some 25) .bool [19, 24] (.call 124 [(.tmp 19), (.tmp 24), (.con (V.int .i64 (Int.ofNat 7)))]) <|
 .op (some 4) .any [25] (.mov (.tmp 25)) <|
 .nil))
 .ret)
 .skip))))
 (.ops (.op (some 26) .any [9] (.bin .add .none (.tmp 9) (.con (V.int .i64 (Int.ofNat 1)))) <|
 .op (some 9) .any [26] (.mov (.tmp 26)) <|
 .nil)))))
def T90_2 (E : List (Nat × Blk)) (D : Den) (W : DrawFn) (K1 : H → Ans) (R2 : Nat → Nat → V → Int → Int → H → Ans) (v0b : Nat) (v0o : Nat) (v7 : V) (v8 : Int) (v9 : Int) (σ : H) : Ans :=
 condK (ltF v9 v8) (
 iaddrSK 1 v7 v9 fun b1 o2 =>
 ldK E σ b1 o2 fun u3 =>
 rtStr u3 fun x4 =>
 callK (D 126 [(V.ptr v0b v0o), (V.str x4)] σ) fun u5 s6 =>
 rtBool u5 fun x7 =>
 condK (not x7) (
 callK (D 92 [(V.ptr v0b v0o)] s6) fun u8 s9 =>
 rtAgg u8 fun l10 =>
 rtCons l10 fun x11 l12 =>
 rtInt .i64 x11 fun x13 =>
 rtCons l12 fun x14 l15 =>
 rtStr x14 fun x16 =>
 rtCons l15 fun x17 l18 =>
 rtInt .i64 x17 fun x19 =>
 rtNil l18 (
 callK (D 124 [(V.ptr v0b v0o), (V.int .i64 x19), (V.int .i64 (Int.ofNat 7))] s9) fun u20 s21 =>
 rtBool u20 fun x22 =>
 some ((V.bool x22), s21))) (
 R2 v0b v0o v7 v8 (addF .i64 v9 (Int.ofNat 1)) s6)) (
 K1 σ)
theorem P90_0 (E : List (Nat × Blk)) (D : Den) (W : DrawFn) (N : Nat) (cc1 : XC) (cc2 : XC) (v0b : Nat) (v0o : Nat) (v1 : V) (σ : H) :
  denC E D W N (C90_0 cc1 cc2) ⟨[(0, (V.ptr v0b v0o)), (1, v1)], [], [], σ⟩ (Fin90 E) (fun _ _ => none) (Fin90 E) =
  T90_0 E D W (fun v0b v0o v7 v8 v9 σ => iterK (fun rec s' => denC E D W N cc2 s' (fun s'' => keepS [(0, .ptr), (7, .any), (8, (.int .i64)), (9, (.int .i64))] [] [] s'' rec) (blkK 0 (fun s' => denC E D W N (.keep [] [] [] cc1) s' (Fin90 E) (fun _ _ => none) (Fin90 E)) (fun _ _ => none)) (Fin90 E)) N ⟨[(0, (V.ptr v0b v0o)), (7, v7), (8, (V.int .i64 v8)), (9, (V.int .i64 v9))], [], [], σ⟩) v0b v0o v1 σ := by kernel_rfl
theorem P90_1 (E : List (Nat × Blk)) (D : Den) (W : DrawFn) (N : Nat) (σ : H) :
  denC E D W N (C90_1 ) ⟨[], [], [], σ⟩ (Fin90 E) (fun _ _ => none) (Fin90 E) =
  T90_1 E D W   σ := by kernel_rfl
theorem P90_2 (E : List (Nat × Blk)) (D : Den) (W : DrawFn) (N : Nat) (cc1 : XC) (li2 : St → Ans) (v0b : Nat) (v0o : Nat) (v7 : V) (v8 : Int) (v9 : Int) (σ : H) :
  denC E D W N (C90_2 ) ⟨[(0, (V.ptr v0b v0o)), (7, v7), (8, (V.int .i64 v8)), (9, (V.int .i64 v9))], [], [], σ⟩ (fun s'' => keepS [(0, .ptr), (7, .any), (8, (.int .i64)), (9, (.int .i64))] [] [] s'' li2) (blkK 0 (fun s' => denC E D W N (.keep [] [] [] cc1) s' (Fin90 E) (fun _ _ => none) (Fin90 E)) (fun _ _ => none)) (Fin90 E) =
  T90_2 E D W (fun  σ => denC E D W N cc1 ⟨[], [], [], σ⟩ (Fin90 E) (fun _ _ => none) (Fin90 E)) (fun v0b v0o v7 v8 v9 σ => li2 ⟨[(0, (V.ptr v0b v0o)), (7, v7), (8, (V.int .i64 v8)), (9, (V.int .i64 v9))], [], [], σ⟩) v0b v0o v7 v8 v9 σ := by kernel_rfl
def J90_1 (E : List (Nat × Blk)) (D : Den) (W : DrawFn) (N : Nat) : H → Ans := T90_1 E D W 
theorem JE90_1 (E : List (Nat × Blk)) (D : Den) (W : DrawFn) (N : Nat) (σ : H) :
  denC E D W N C90_1 ⟨[], [], [], σ⟩ (Fin90 E) (fun _ _ => none) (Fin90 E) = J90_1 E D W N  σ := by
  refine (P90_1 E D W N    σ).trans ?_
  kernel_rfl
def L90_2 (E : List (Nat × Blk)) (D : Den) (W : DrawFn) (N : Nat) (n : Nat) : Nat → Nat → V → Int → Int → H → Ans :=
  Nat.rec (fun _ _ _ _ _ _ => none) (fun _ ih => T90_2 E D W (J90_1 E D W N ) ih) n
theorem LE90_2 (E : List (Nat × Blk)) (D : Den) (W : DrawFn) (N : Nat) (n : Nat) : ∀ (v0b : Nat) (v0o : Nat) (v7 : V) (v8 : Int) (v9 : Int) (σ : H),
  iterK (fun rec s' => denC E D W N C90_2 s' (fun s'' => keepS [(0, .ptr), (7, .any), (8, (.int .i64)), (9, (.int .i64))] [] [] s'' rec) (blkK 0 (fun s' => denC E D W N (.keep [] [] [] C90_1) s' (Fin90 E) (fun _ _ => none) (Fin90 E)) (fun _ _ => none)) (Fin90 E)) n ⟨[(0, (V.ptr v0b v0o)), (7, v7), (8, (V.int .i64 v8)), (9, (V.int .i64 v9))], [], [], σ⟩ = L90_2 E D W N n v0b v0o v7 v8 v9 σ := by
  induction n with
  | zero => intro v0b v0o v7 v8 v9 σ; rfl
  | succ n ihn =>
    intro v0b v0o v7 v8 v9 σ
    rw [iterK_succ]
    refine (P90_2 E D W N C90_1 (iterK (fun rec s' => denC E D W N C90_2 s' (fun s'' => keepS [(0, .ptr), (7, .any), (8, (.int .i64)), (9, (.int .i64))] [] [] s'' rec) (blkK 0 (fun s' => denC E D W N (.keep [] [] [] C90_1) s' (Fin90 E) (fun _ _ => none) (Fin90 E)) (fun _ _ => none)) (Fin90 E)) n) v0b v0o v7 v8 v9 σ).trans ?_
    simp only [ihn, JE90_1]
    kernel_rfl
def J90_0 (E : List (Nat × Blk)) (D : Den) (W : DrawFn) (N : Nat) : Nat → Nat → V → H → Ans := T90_0 E D W (L90_2 E D W N N)
theorem JE90_0 (E : List (Nat × Blk)) (D : Den) (W : DrawFn) (N : Nat) (v0b : Nat) (v0o : Nat) (v1 : V) (σ : H) :
  denC E D W N (C90_0 C90_1 C90_2) ⟨[(0, (V.ptr v0b v0o)), (1, v1)], [], [], σ⟩ (Fin90 E) (fun _ _ => none) (Fin90 E) = J90_0 E D W N v0b v0o v1 σ := by
  refine (P90_0 E D W N C90_1 C90_2  v0b v0o v1 σ).trans ?_
  simp only [LE90_2]
  kernel_rfl
def F90 (E : List (Nat × Blk)) (D : Den) (W : DrawFn) (N : Nat) (args : List V) (σ : H) : Ans :=
 rtCons args fun x1 l2 =>
 rtPtr x1 fun b3 o4 =>
 rtCons l2 fun x5 l6 =>
 rtNil l6 (
 J90_0 E D W N b3 o4 x5 σ)
def A90 : XFn := ⟨27, [.ptr, .any], [(.tmp 4)], (C90_0 C90_1 C90_2)⟩
theorem FE90 (E : List (Nat × Blk)) (D : Den) (W : DrawFn) (N : Nat) (args : List V) (σ : H) : runX E D W N A90 args σ = F90 E D W N args σ := by
  unfold F90
  simp only [← JE90_0]
  kernel_rfl
theorem AO90 : A90.body.ok = true := by kernel_rfl

/-! ### F91: __ogham_syntax.stream_.stands -/
def Fin91 (E : List (Nat × Blk)) : St → Ans := fun s => resK E s [(.tmp 4)] fun l => some (oneV l, s.σ)
def C91_0 : XC := (.seq (.ops (.op (some 4) .any [] (.mov (.con (V.bool false))) <|
 .nil))
 (.seq (.ops (.op (some 6) .any [0] (.mov (.tmp 0)) <|
 .op (some 7) (.agg [(.int .i64), .str, (.int .i64)]) [6] (.call 92 [(.tmp 6)]) <|
 .pal 5 [] 187 [(V.int .i64 (Int.ofNat 0)), (V.str ⟨0, 0⟩), (V.int .i64 (Int.ofNat 0))] <|
 .op none (.agg [(.int .i64), .str, (.int .i64)]) [5, 7] (.store 3 (.tmp 5) (.tmp 7)) <|
 .nil))
 (.seq (.ops (.op (some 8) .any [5] (.faddr 0 (.tmp 5)) <|
 .op (some 9) (.int .i64) [8] (.load none (.tmp 8)) <|
 .op (some 10) .any [9] (.bin .eql .none (.tmp 9) (.con (V.int .i64 (Int.ofNat 5)))) <|
 .op (some 11) .any [10] (.mov (.tmp 10)) <|
 .grp 11 false (.op (some 12) .any [5, 11] (.faddr 0 (.tmp 5)) <|
 .op (some 13) (.int .i64) [12, 11] (.load none (.tmp 12)) <|
 .op (some 14) .any [13, 11] (.bin .eql .none (.tmp 13) (.con (V.int .i64 (Int.ofNat 6)))) <|
 .nil) 15 [11, 14] (.tmp 11) (.con (V.bool true)) (.tmp 14) <|
 .op (some 16) .any [15] (.mov (.tmp 15)) <|
 .grp 16 true (.op (some 17) .any [5, 16] (.faddr 1 (.tmp 5)) <|
 .op (some 18) .str [17, 16] (.load none (.tmp 17)) <|
 .op (some 19) .any [1, 16] (.mov (.tmp 1)) <|
 .op (some 20) .any [18, 19, 16] (.bin .eql .none (.tmp 18) (.tmp 19)) <|
 .nil) 21 [16, 20] (.tmp 16) (.tmp 20) (.con (V.bool false)) <|
 .op (some 4) .any [21] (.mov (.tmp 21)) <|
 .nil))
 .ret)))
def T91_0 (E : List (Nat × Blk)) (D : Den) (W : DrawFn) (v0 : V) (v1 : BS) (σ : H) : Ans :=
 callK (D 92 [v0] σ) fun u1 s2 =>
 rtAgg u1 fun l3 =>
 rtCons l3 fun x4 l5 =>
 rtInt .i64 x4 fun x6 =>
 rtCons l5 fun x7 l8 =>
 rtStr x7 fun x9 =>
 rtCons l8 fun x10 l11 =>
 rtInt .i64 x10 fun x12 =>
 rtNil l11 (
 joinB (fun c13 s14 =>
 joinB (fun c16 s17 =>
 some ((V.bool c16), s17)) fun k18 =>
 condK c13 (
 k18 (BS.beq x9 v1) s14) (
 k18 false s14)) fun k15 =>
 condK (eqF x6 (Int.ofNat 5)) (
 k15 true s2) (
 k15 (eqF x6 (Int.ofNat 6)) s2))
theorem P91_0 (E : List (Nat × Blk)) (D : Den) (W : DrawFn) (N : Nat) (v0 : V) (v1 : BS) (σ : H) :
  denC E D W N (C91_0 ) ⟨[(0, v0), (1, (V.str v1))], [], [], σ⟩ (Fin91 E) (fun _ _ => none) (Fin91 E) =
  T91_0 E D W  v0 v1 σ := by kernel_rfl
def J91_0 (E : List (Nat × Blk)) (D : Den) (W : DrawFn) (N : Nat) : V → BS → H → Ans := T91_0 E D W 
theorem JE91_0 (E : List (Nat × Blk)) (D : Den) (W : DrawFn) (N : Nat) (v0 : V) (v1 : BS) (σ : H) :
  denC E D W N C91_0 ⟨[(0, v0), (1, (V.str v1))], [], [], σ⟩ (Fin91 E) (fun _ _ => none) (Fin91 E) = J91_0 E D W N v0 v1 σ := by
  refine (P91_0 E D W N   v0 v1 σ).trans ?_
  kernel_rfl
def F91 (E : List (Nat × Blk)) (D : Den) (W : DrawFn) (N : Nat) (args : List V) (σ : H) : Ans :=
 rtCons args fun x1 l2 =>
 rtCons l2 fun x3 l4 =>
 rtStr x3 fun x5 =>
 rtNil l4 (
 J91_0 E D W N x1 x5 σ)
def A91 : XFn := ⟨22, [.any, .str], [(.tmp 4)], C91_0⟩
theorem FE91 (E : List (Nat × Blk)) (D : Den) (W : DrawFn) (N : Nat) (args : List V) (σ : H) : runX E D W N A91 args σ = F91 E D W N args σ := by
  unfold F91
  simp only [← JE91_0]
  kernel_rfl
theorem AO91 : A91.body.ok = true := by kernel_rfl

/-! ### F92: __ogham_syntax.stream_.peek -/
def Fin92 (E : List (Nat × Blk)) : St → Ans := fun s => resK E s [(.cell 2 (some 3))] fun l => some (oneV l, s.σ)
def C92_0 : XC := (.seq (.ops (.pal 2 [] 187 [(V.int .i64 (Int.ofNat 0)), (V.str ⟨0, 0⟩), (V.int .i64 (Int.ofNat 0))] <|
 .nil))
 (.seq (.draw (.op (some 3) .any [0] (.mov (.tmp 0)) <|
 .op (some 4) .any [3] (.nilck (.tmp 3)) <|
 .op (some 5) .any [4] (.faddr 0 (.tmp 4)) <|
 .op (some 6) .any [5] (.load none (.tmp 5)) <|
 .op (some 7) .any [0] (.mov (.tmp 0)) <|
 .op (some 8) .any [7] (.nilck (.tmp 7)) <|
 .op (some 9) .any [8] (.faddr 1 (.tmp 8)) <|
 .op (some 10) (.int .i64) [9] (.load none (.tmp 9)) <|
 .op (some 11) .any [6, 10] (.iaddrS 3 (.tmp 6) (.tmp 10)) <|
 .op (some 12) (.agg [(.int .i64), .str, (.int .i64)]) [11] (.load (some 3) (.tmp 11)) <|
 .op none (.agg [(.int .i64), .str, (.int .i64)]) [2, 12] (.store 3 (.tmp 2) (.tmp 12)) <|
 .nil) [0, 1, 3, 7, 0, 16, 48, 112, 255, 511, 1023])
 .ret))
def T92_0 (E : List (Nat × Blk)) (D : Den) (W : DrawFn) (v0b : Nat) (v0o : Nat) (σ : H) : Ans :=
 ldK E σ v0b v0o fun u1 =>
 ldK E σ v0b (Nat.add v0o 1) fun u2 =>
 rtInt .i64 u2 fun x3 =>
 iaddrSK 3 u1 x3 fun b4 o5 =>
 ldnK E σ b4 o5 3 fun l6 =>
 rtCons l6 fun x7 l8 =>
 rtInt .i64 x7 fun x9 =>
 rtCons l8 fun x10 l11 =>
 rtStr x10 fun x12 =>
 rtCons l11 fun x13 l14 =>
 rtInt .i64 x13 fun x15 =>
 rtNil l14 (
 some ((V.agg [(V.int .i64 x9), (V.str x12), (V.int .i64 x15)]), σ))
theorem P92_0 (E : List (Nat × Blk)) (D : Den) (W : DrawFn) (N : Nat) (v0b : Nat) (v0o : Nat) (σ : H) :
  denC E D W N (C92_0 ) ⟨[(0, (V.ptr v0b v0o))], [], [], σ⟩ (Fin92 E) (fun _ _ => none) (Fin92 E) =
  T92_0 E D W  v0b v0o σ := by kernel_rfl
def J92_0 (E : List (Nat × Blk)) (D : Den) (W : DrawFn) (N : Nat) : Nat → Nat → H → Ans := T92_0 E D W 
theorem JE92_0 (E : List (Nat × Blk)) (D : Den) (W : DrawFn) (N : Nat) (v0b : Nat) (v0o : Nat) (σ : H) :
  denC E D W N C92_0 ⟨[(0, (V.ptr v0b v0o))], [], [], σ⟩ (Fin92 E) (fun _ _ => none) (Fin92 E) = J92_0 E D W N v0b v0o σ := by
  refine (P92_0 E D W N   v0b v0o σ).trans ?_
  kernel_rfl
def F92 (E : List (Nat × Blk)) (D : Den) (W : DrawFn) (N : Nat) (args : List V) (σ : H) : Ans :=
 rtCons args fun x1 l2 =>
 rtPtr x1 fun b3 o4 =>
 rtNil l2 (
 J92_0 E D W N b3 o4 σ)
def A92 : XFn := ⟨13, [.ptr], [(.cell 2 (some 3))], C92_0⟩
theorem FE92 (E : List (Nat × Blk)) (D : Den) (W : DrawFn) (N : Nat) (args : List V) (σ : H) : runX E D W N A92 args σ = F92 E D W N args σ := by
  unfold F92
  simp only [← JE92_0]
  kernel_rfl
theorem AO92 : A92.body.ok = true := by kernel_rfl

def G93_0 : List AOper := [⟨(some 30), .mov (.tmp 0), none⟩, ⟨(some 31), .mov (.tmp 0), none⟩, ⟨(some 32), .mov (.tmp 0), none⟩, ⟨(some 33), .nilck (.tmp 32), none⟩, ⟨(some 34), .faddr 2 (.tmp 33), none⟩, ⟨(some 35), .faddr 2 (.tmp 34), none⟩, ⟨(some 36), .load none (.tmp 35), none⟩, ⟨(some 37), .faddr 1 (.tmp 3), none⟩, ⟨(some 38), .load none (.tmp 37), none⟩, ⟨(some 39), .buildSlice 9 1 [(V.str ⟨0, 0⟩)] [(0, 1, (.tmp 38))], none⟩, ⟨(some 40), .append 9 1 16 (.tmp 36) (.tmp 39), none⟩, ⟨(some 41), .mov (.tmp 0), none⟩, ⟨(some 42), .nilck (.tmp 41), none⟩, ⟨(some 43), .faddr 2 (.tmp 42), none⟩, ⟨(some 44), .faddr 3 (.tmp 43), none⟩, ⟨(some 45), .load none (.tmp 44), none⟩, ⟨(some 46), .mov (.tmp 4), none⟩, ⟨(some 47), .buildSlice 3 1 [(V.int .i64 (Int.ofNat 0))] [(0, 1, (.tmp 46))], none⟩, ⟨(some 48), .append 3 1 8 (.tmp 45) (.tmp 47), none⟩, ⟨(some 49), .nilck (.tmp 30), none⟩, ⟨(some 50), .faddr 2 (.tmp 49), none⟩, ⟨(some 51), .faddr 2 (.tmp 50), none⟩, ⟨none, .store 1 (.tmp 51) (.tmp 40), none⟩, ⟨(some 52), .nilck (.tmp 31), none⟩, ⟨(some 53), .faddr 2 (.tmp 52), none⟩, ⟨(some 54), .faddr 3 (.tmp 53), none⟩, ⟨none, .store 1 (.tmp 54) (.tmp 48), none⟩]
def H93_0 : List DP := [⟨0, [0]⟩, ⟨0, [0]⟩, ⟨0, [0]⟩, ⟨4, [32]⟩, ⟨12, [33]⟩, ⟨28, [34]⟩, ⟨60, [35]⟩, ⟨0, [3]⟩, ⟨128, [37]⟩, ⟨384, [38]⟩, ⟨1020, [36, 39]⟩, ⟨0, [0]⟩, ⟨2048, [41]⟩, ⟨6144, [42]⟩, ⟨14336, [43]⟩, ⟨30720, [44]⟩, ⟨0, [4]⟩, ⟨65536, [46]⟩, ⟨262140, [45, 47]⟩, ⟨524285, [30]⟩, ⟨1048573, [49]⟩, ⟨2097149, [50]⟩, ⟨4194301, [51, 40]⟩, ⟨8388607, [31]⟩, ⟨16777215, [52]⟩, ⟨33554431, [53]⟩, ⟨67108863, [54, 48]⟩]
def C93_0 : XC := (.seq (.ops (.op (some 2) .any [] (.mov (.con (V.bool false))) <|
 .nil))
 (.seq (.ops (.op (some 6) .any [0] (.mov (.tmp 0)) <|
 .op (some 7) .any [6] (.nilck (.tmp 6)) <|
 .op (some 8) .any [7] (.faddr 0 (.tmp 7)) <|
 .op (some 9) (.agg [(.int .i64), .str, (.int .i64)]) [8] (.call 125 [(.tmp 8)]) <|
 .op (some 3) .any [] (.alloc 187 [(V.int .i64 (Int.ofNat 0)), (V.str ⟨0, 0⟩), (V.int .i64 (Int.ofNat 0))]) <|
 .op none (.agg [(.int .i64), .str, (.int .i64)]) [3, 9] (.store 3 (.tmp 3) (.tmp 9)) <|
 .nil))
 (.seq (.seq (.ops (.op (some 10) .any [0] (.mov (.tmp 0)) <|
 .op (some 11) .any [10] (.nilck (.tmp 10)) <|
 .op (some 12) .any [11] (.faddr 2 (.tmp 11)) <|
 .op (some 13) .any [12] (.faddr 2 (.tmp 12)) <|
 .op (some 14) .any [13] (.load none (.tmp 13)) <|
 .op (some 15) .any [14] (.len false (.tmp 14)) <|
 .op (some 16) .any [15] (.bin .geq .none (.tmp 15) (.con (V.int .i64 (Int.ofNat 40)))) <|
 .nil))
 (.cond (.tmp 16) (.seq (.ops (.op (some 17) .any [0] (.mov (.tmp 0)) <|
 .op (some 18) .any [3] (.faddr 2 (.tmp 3)) <|
 .op (some 19) (.int .i64) [18] (.load none (.tmp 18)) <|
 .op (some 20) .bool [17, 19] (.call 124 [(.tmp 17), (.tmp 19), (.con (V.int .i64 (Int.ofNat 5)))]) <|
 .op (some 2) .any [20] (.mov (.tmp 20)) <|
 .nil))
 .ret)
 .skip))
 (.seq (.seq (.ops (.op (some 21) .any [0] (.mov (.tmp 0)) <|
 .op (some 22) .any [] (.buildSlice 9 1 [(V.str ⟨0, 0⟩)] [(0, 1, (.con (V.str ⟨3, 4012602⟩)))]) <|
 .op (some 23) .bool [21, 22] (.call 90 [(.tmp 21), (.tmp 22)]) <|
 .op (some 24) .any [23] (.un .not (.tmp 23)) <|
 .nil))
 (.cond (.tmp 24) (.seq (.ops (.op (some 2) .any [] (.mov (.con (V.bool false))) <|
 .nil))
 .ret)
 .skip))
 (.seq (.ops (.op (some 26) .any [0] (.mov (.tmp 0)) <|
 .op (some 27) (.tup [(.int .i64), .bool]) [26] (.call 127 [(.tmp 26), (.con (V.int .i64 (Int.ofNat 0)))]) <|
 .op (some 25) .any [27] (.mov (.tmp 27)) <|
 .op (some 28) .any [25] (.extract 0 (.tmp 25)) <|
 .op (some 29) .any [25] (.extract 1 (.tmp 25)) <|
 .op (some 4) .any [28] (.mov (.tmp 28)) <|
 .op (some 5) .any [29] (.mov (.tmp 29)) <|
 .nil))
 (.seq (.keep [(0, .ptr), (3, .ptr), (4, (.int .i64)), (5, .bool)] [] [] (.gdraw G93_0 H93_0 [(5, .bool)]))
 (.seq (.ops (.op (some 55) .any [5] (.mov (.tmp 5)) <|
 .op (some 2) .any [55] (.mov (.tmp 55)) <|
 .nil))
 .ret)))))))
def A93 : XFn := ⟨56, [.ptr], [(.tmp 2)], C93_0⟩
/-! ### F94: ogham_refs.Uses -/
def Fin94 (E : List (Nat × Blk)) : St → Ans := fun s => resK E s [(.tmp 4)] fun l => some (oneV l, s.σ)
def C94_0 (cc1 : XC) (cc2 : XC) : XC := (.seq (.ops (.op (some 2) .any [0] (.box 99 (.tmp 0)) <|
 .op (some 4) .any [] (.mov (.con V.nils)) <|
 .nil))
 (.seq (.ops (.op (some 5) .any [] (.mov (.con V.nils)) <|
 .nil))
 (.seq (.seq (.ops (.op (some 9) (.agg [.str, (.int .i64), .any, .any, .any]) [2] (.load (some 5) (.tmp 2)) <|
 .op (some 10) .any [1] (.mov (.tmp 1)) <|
 .op (some 11) .one [9, 10] (.call 128 [(.tmp 9), (.tmp 10)]) <|
 .op (some 12) .any [11] (.len false (.tmp 11)) <|
 .op (some 13) .any [] (.mov (.con (V.int .i64 (Int.ofNat 0)))) <|
 .nil))
 (.block 0 (.loop [(2, .ptr), (5, .any), (11, .any), (12, (.int .i64)), (13, (.int .i64))] [] [] cc2)))
 (.keep [(5, .any)] [] [] cc1))))
def T94_0 (E : List (Nat × Blk)) (D : Den) (W : DrawFn) (K2 : Nat → Nat → V → V → Int → Int → H → Ans) (v0_0 : BS) (v0_1 : Int) (v0_2 : V) (v0_3 : V) (v0_4 : V) (v1 : Int) (σ : H) : Ans :=
 chk (allOne (V.cells (V.agg [(V.str v0_0), (V.int .i64 v0_1), v0_2, v0_3, v0_4]))) (
 let s1 := newB σ (.cells (V.cells (V.agg [(V.str v0_0), (V.int .i64 v0_1), v0_2, v0_3, v0_4])));
 ldnK E s1 (H.next σ) 0 5 fun l2 =>
 rtCons l2 fun x3 l4 =>
 rtStr x3 fun x5 =>
 rtCons l4 fun x6 l7 =>
 rtInt .i64 x6 fun x8 =>
 rtCons l7 fun x9 l10 =>
 rtCons l10 fun x11 l12 =>
 rtCons l12 fun x13 l14 =>
 rtNil l14 (
 callK (D 128 [(V.agg [(V.str x5), (V.int .i64 x8), x9, x11, x13]), (V.int .i64 v1)] s1) fun u15 s16 =>
 rtOne u15 (
 slenK u15 fun n17 =>
 K2 (H.next σ) 0 V.nils u15 (Int.ofNat n17) (Int.ofNat 0) s16)))
def C94_1 : XC := (.seq (.ops (.op (some 27) .any [5] (.mov (.tmp 5)) <|
 .op (some 4) .any [27] (.mov (.tmp 27)) <|
 .nil))
 .ret)
def T94_1 (E : List (Nat × Blk)) (D : Den) (W : DrawFn) (v5 : V) (σ : H) : Ans :=
 some (v5, σ)
def C94_2 (cc3 : XC) : XC := (.seq (.ops (.op (some 14) .any [13, 12] (.bin .lss .none (.tmp 13) (.tmp 12)) <|
 .nil))
 (.seq (.cond (.tmp 14) .skip
 (.exit 0))
 (.seq (.block 1 (.seq (.ops (.op (some 15) .any [11, 13] (.iaddrS 1 (.tmp 11) (.tmp 13)) <|
 .op (some 16) .str [15] (.load none (.tmp 15)) <|
 .op (some 7) .any [16] (.mov (.tmp 16)) <|
 .nil))
 (.seq (.ops (.op (some 17) (.agg [.str, (.int .i64), .any, .any, .any]) [2] (.load (some 5) (.tmp 2)) <|
 .op (some 18) .any [7] (.mov (.tmp 7)) <|
 .op (some 19) (.int .i64) [17, 18] (.call 100 [(.tmp 17), (.tmp 18)]) <|
 .op (some 8) .any [19] (.mov (.tmp 19)) <|
 .nil))
 (.seq (.ops (.op (some 20) .any [8] (.mov (.tmp 8)) <|
 .op (some 21) .any [20] (.bin .geq .none (.tmp 20) (.con (V.int .i64 (Int.ofNat 0)))) <|
 .nil))
 (.cond (.tmp 21) (.ops (.op (some 22) .any [5] (.mov (.tmp 5)) <|
 .op (some 23) .any [8] (.mov (.tmp 8)) <|
 .op (some 24) .any [23] (.buildSlice 3 1 [(V.int .i64 (Int.ofNat 0))] [(0, 1, (.tmp 23))]) <|
 .op (some 25) .one [22, 24] (.append 3 1 8 (.tmp 22) (.tmp 24)) <|
 .op (some 5) .any [25] (.mov (.tmp 25)) <|
 .nil))
 .skip)))))
 (.keep [(2, .ptr), (5, .any), (11, .any), (12, (.int .i64)), (13, (.int .i64))] [] [] cc3))))
def T94_2 (E : List (Nat × Blk)) (D : Den) (W : DrawFn) (K1 : V → H → Ans) (K3 : Nat → Nat → V → V → Int → Int → H → Ans) (v2b : Nat) (v2o : Nat) (v5 : V) (v11 : V) (v12 : Int) (v13 : Int) (σ : H) : Ans :=
 condK (ltF v13 v12) (
 iaddrSK 1 v11 v13 fun b1 o2 =>
 ldK E σ b1 o2 fun u3 =>
 rtStr u3 fun x4 =>
 ldnK E σ v2b v2o 5 fun l5 =>
 rtCons l5 fun x6 l7 =>
 rtStr x6 fun x8 =>
 rtCons l7 fun x9 l10 =>
 rtInt .i64 x9 fun x11 =>
 rtCons l10 fun x12 l13 =>
 rtCons l13 fun x14 l15 =>
 rtCons l15 fun x16 l17 =>
 rtNil l17 (
 callK (D 100 [(V.agg [(V.str x8), (V.int .i64 x11), x12, x14, x16]), (V.str x4)] σ) fun u18 s19 =>
 rtInt .i64 u18 fun x20 =>
 condK (leF (Int.ofNat 0) x20) (
 let s21 := newB s19 (.cells [(V.int .i64 x20)]);
 appK E 1 8 v5 (V.sl (H.next s19) 0 1 (.ex 1)) s21 fun u22 s23 =>
 rtOne u22 (
 K3 v2b v2o u22 v11 v12 v13 s23)) (
 K3 v2b v2o v5 v11 v12 v13 s19))) (
 K1 v5 σ)
def C94_3 : XC := (.ops (.op (some 26) .any [13] (.bin .add .none (.tmp 13) (.con (V.int .i64 (Int.ofNat 1)))) <|
 .op (some 13) .any [26] (.mov (.tmp 26)) <|
 .nil))
def T94_3 (E : List (Nat × Blk)) (D : Den) (W : DrawFn) (R2 : Nat → Nat → V → V → Int → Int → H → Ans) (v2b : Nat) (v2o : Nat) (v5 : V) (v11 : V) (v12 : Int) (v13 : Int) (σ : H) : Ans :=
 R2 v2b v2o v5 v11 v12 (addF .i64 v13 (Int.ofNat 1)) σ
theorem P94_0 (E : List (Nat × Blk)) (D : Den) (W : DrawFn) (N : Nat) (cc1 : XC) (cc2 : XC) (v0_0 : BS) (v0_1 : Int) (v0_2 : V) (v0_3 : V) (v0_4 : V) (v1 : Int) (σ : H) :
  denC E D W N (C94_0 cc1 cc2) ⟨[(0, (V.agg [(V.str v0_0), (V.int .i64 v0_1), v0_2, v0_3, v0_4])), (1, (V.int .i64 v1))], [], [], σ⟩ (Fin94 E) (fun _ _ => none) (Fin94 E) =
  T94_0 E D W (fun v2b v2o v5 v11 v12 v13 σ => iterK (fun rec s' => denC E D W N cc2 s' (fun s'' => keepS [(2, .ptr), (5, .any), (11, .any), (12, (.int .i64)), (13, (.int .i64))] [] [] s'' rec) (blkK 0 (fun s' => denC E D W N (.keep [(5, .any)] [] [] cc1) s' (Fin94 E) (fun _ _ => none) (Fin94 E)) (fun _ _ => none)) (Fin94 E)) N ⟨[(2, (V.ptr v2b v2o)), (5, v5), (11, v11), (12, (V.int .i64 v12)), (13, (V.int .i64 v13))], [], [], σ⟩) v0_0 v0_1 v0_2 v0_3 v0_4 v1 σ := by kernel_rfl
theorem P94_1 (E : List (Nat × Blk)) (D : Den) (W : DrawFn) (N : Nat) (v5 : V) (σ : H) :
  denC E D W N (C94_1 ) ⟨[(5, v5)], [], [], σ⟩ (Fin94 E) (fun _ _ => none) (Fin94 E) =
  T94_1 E D W  v5 σ := by kernel_rfl
theorem P94_2 (E : List (Nat × Blk)) (D : Den) (W : DrawFn) (N : Nat) (cc1 : XC) (cc3 : XC) (li2 : St → Ans) (v2b : Nat) (v2o : Nat) (v5 : V) (v11 : V) (v12 : Int) (v13 : Int) (σ : H) :
  denC E D W N (C94_2 cc3) ⟨[(2, (V.ptr v2b v2o)), (5, v5), (11, v11), (12, (V.int .i64 v12)), (13, (V.int .i64 v13))], [], [], σ⟩ (fun s'' => keepS [(2, .ptr), (5, .any), (11, .any), (12, (.int .i64)), (13, (.int .i64))] [] [] s'' li2) (blkK 0 (fun s' => denC E D W N (.keep [(5, .any)] [] [] cc1) s' (Fin94 E) (fun _ _ => none) (Fin94 E)) (fun _ _ => none)) (Fin94 E) =
  T94_2 E D W (fun v5 σ => denC E D W N cc1 ⟨[(5, v5)], [], [], σ⟩ (Fin94 E) (fun _ _ => none) (Fin94 E)) (fun v2b v2o v5 v11 v12 v13 σ => denC E D W N cc3 ⟨[(2, (V.ptr v2b v2o)), (5, v5), (11, v11), (12, (V.int .i64 v12)), (13, (V.int .i64 v13))], [], [], σ⟩ (fun s'' => keepS [(2, .ptr), (5, .any), (11, .any), (12, (.int .i64)), (13, (.int .i64))] [] [] s'' li2) (blkK 0 (fun s' => denC E D W N (.keep [(5, .any)] [] [] cc1) s' (Fin94 E) (fun _ _ => none) (Fin94 E)) (fun _ _ => none)) (Fin94 E)) v2b v2o v5 v11 v12 v13 σ := by kernel_rfl
theorem P94_3 (E : List (Nat × Blk)) (D : Den) (W : DrawFn) (N : Nat) (cc1 : XC) (li2 : St → Ans) (v2b : Nat) (v2o : Nat) (v5 : V) (v11 : V) (v12 : Int) (v13 : Int) (σ : H) :
  denC E D W N (C94_3 ) ⟨[(2, (V.ptr v2b v2o)), (5, v5), (11, v11), (12, (V.int .i64 v12)), (13, (V.int .i64 v13))], [], [], σ⟩ (fun s'' => keepS [(2, .ptr), (5, .any), (11, .any), (12, (.int .i64)), (13, (.int .i64))] [] [] s'' li2) (blkK 0 (fun s' => denC E D W N (.keep [(5, .any)] [] [] cc1) s' (Fin94 E) (fun _ _ => none) (Fin94 E)) (fun _ _ => none)) (Fin94 E) =
  T94_3 E D W (fun v2b v2o v5 v11 v12 v13 σ => li2 ⟨[(2, (V.ptr v2b v2o)), (5, v5), (11, v11), (12, (V.int .i64 v12)), (13, (V.int .i64 v13))], [], [], σ⟩) v2b v2o v5 v11 v12 v13 σ := by kernel_rfl
def J94_1 (E : List (Nat × Blk)) (D : Den) (W : DrawFn) (N : Nat) : V → H → Ans := T94_1 E D W 
theorem JE94_1 (E : List (Nat × Blk)) (D : Den) (W : DrawFn) (N : Nat) (v5 : V) (σ : H) :
  denC E D W N C94_1 ⟨[(5, v5)], [], [], σ⟩ (Fin94 E) (fun _ _ => none) (Fin94 E) = J94_1 E D W N v5 σ := by
  refine (P94_1 E D W N   v5 σ).trans ?_
  kernel_rfl
def J94_3 (E : List (Nat × Blk)) (D : Den) (W : DrawFn) (N : Nat) (R2 : Nat → Nat → V → V → Int → Int → H → Ans) : Nat → Nat → V → V → Int → Int → H → Ans := T94_3 E D W R2
theorem JE94_3 (E : List (Nat × Blk)) (D : Den) (W : DrawFn) (N : Nat) (li2 : St → Ans) (v2b : Nat) (v2o : Nat) (v5 : V) (v11 : V) (v12 : Int) (v13 : Int) (σ : H) :
  denC E D W N C94_3 ⟨[(2, (V.ptr v2b v2o)), (5, v5), (11, v11), (12, (V.int .i64 v12)), (13, (V.int .i64 v13))], [], [], σ⟩ (fun s'' => keepS [(2, .ptr), (5, .any), (11, .any), (12, (.int .i64)), (13, (.int .i64))] [] [] s'' li2) (blkK 0 (fun s' => denC E D W N (.keep [(5, .any)] [] [] C94_1) s' (Fin94 E) (fun _ _ => none) (Fin94 E)) (fun _ _ => none)) (Fin94 E) = J94_3 E D W N (fun v2b v2o v5 v11 v12 v13 σ => li2 ⟨[(2, (V.ptr v2b v2o)), (5, v5), (11, v11), (12, (V.int .i64 v12)), (13, (V.int .i64 v13))], [], [], σ⟩) v2b v2o v5 v11 v12 v13 σ := by
  refine (P94_3 E D W N C94_1 li2 v2b v2o v5 v11 v12 v13 σ).trans ?_
  kernel_rfl
def L94_2 (E : List (Nat × Blk)) (D : Den) (W : DrawFn) (N : Nat) (n : Nat) : Nat → Nat → V → V → Int → Int → H → Ans :=
  Nat.rec (fun _ _ _ _ _ _ _ => none) (fun _ ih => T94_2 E D W (J94_1 E D W N ) (J94_3 E D W N ih)) n
theorem LE94_2 (E : List (Nat × Blk)) (D : Den) (W : DrawFn) (N : Nat) (n : Nat) : ∀ (v2b : Nat) (v2o : Nat) (v5 : V) (v11 : V) (v12 : Int) (v13 : Int) (σ : H),
  iterK (fun rec s' => denC E D W N (C94_2 C94_3) s' (fun s'' => keepS [(2, .ptr), (5, .any), (11, .any), (12, (.int .i64)), (13, (.int .i64))] [] [] s'' rec) (blkK 0 (fun s' => denC E D W N (.keep [(5, .any)] [] [] C94_1) s' (Fin94 E) (fun _ _ => none) (Fin94 E)) (fun _ _ => none)) (Fin94 E)) n ⟨[(2, (V.ptr v2b v2o)), (5, v5), (11, v11), (12, (V.int .i64 v12)), (13, (V.int .i64 v13))], [], [], σ⟩ = L94_2 E D W N n v2b v2o v5 v11 v12 v13 σ := by
  induction n with
  | zero => intro v2b v2o v5 v11 v12 v13 σ; rfl
  | succ n ihn =>
    intro v2b v2o v5 v11 v12 v13 σ
    rw [iterK_succ]
    refine (P94_2 E D W N C94_1 C94_3 (iterK (fun rec s' => denC E D W N (C94_2 C94_3) s' (fun s'' => keepS [(2, .ptr), (5, .any), (11, .any), (12, (.int .i64)), (13, (.int .i64))] [] [] s'' rec) (blkK 0 (fun s' => denC E D W N (.keep [(5, .any)] [] [] C94_1) s' (Fin94 E) (fun _ _ => none) (Fin94 E)) (fun _ _ => none)) (Fin94 E)) n) v2b v2o v5 v11 v12 v13 σ).trans ?_
    simp only [ihn, JE94_1, JE94_3]
    kernel_rfl
def J94_0 (E : List (Nat × Blk)) (D : Den) (W : DrawFn) (N : Nat) : BS → Int → V → V → V → Int → H → Ans := T94_0 E D W (L94_2 E D W N N)
theorem JE94_0 (E : List (Nat × Blk)) (D : Den) (W : DrawFn) (N : Nat) (v0_0 : BS) (v0_1 : Int) (v0_2 : V) (v0_3 : V) (v0_4 : V) (v1 : Int) (σ : H) :
  denC E D W N (C94_0 C94_1 (C94_2 C94_3)) ⟨[(0, (V.agg [(V.str v0_0), (V.int .i64 v0_1), v0_2, v0_3, v0_4])), (1, (V.int .i64 v1))], [], [], σ⟩ (Fin94 E) (fun _ _ => none) (Fin94 E) = J94_0 E D W N v0_0 v0_1 v0_2 v0_3 v0_4 v1 σ := by
  refine (P94_0 E D W N C94_1 (C94_2 C94_3)  v0_0 v0_1 v0_2 v0_3 v0_4 v1 σ).trans ?_
  simp only [LE94_2]
  kernel_rfl
def F94 (E : List (Nat × Blk)) (D : Den) (W : DrawFn) (N : Nat) (args : List V) (σ : H) : Ans :=
 rtCons args fun x1 l2 =>
 rtAgg x1 fun l3 =>
 rtCons l3 fun x4 l5 =>
 rtStr x4 fun x6 =>
 rtCons l5 fun x7 l8 =>
 rtInt .i64 x7 fun x9 =>
 rtCons l8 fun x10 l11 =>
 rtCons l11 fun x12 l13 =>
 rtCons l13 fun x14 l15 =>
 rtNil l15 (
 rtCons l2 fun x16 l17 =>
 rtInt .i64 x16 fun x18 =>
 rtNil l17 (
 J94_0 E D W N x6 x9 x10 x12 x14 x18 σ))
def A94 : XFn := ⟨28, [(.agg [.str, (.int .i64), .any, .any, .any]), (.int .i64)], [(.tmp 4)], (C94_0 C94_1 (C94_2 C94_3))⟩
theorem FE94 (E : List (Nat × Blk)) (D : Den) (W : DrawFn) (N : Nat) (args : List V) (σ : H) : runX E D W N A94 args σ = F94 E D W N args σ := by
  unfold F94
  simp only [← JE94_0]
  kernel_rfl
theorem AO94 : A94.body.ok = true := by kernel_rfl

/-! ### F95: ogham_refs.of -/
def Fin95 (E : List (Nat × Blk)) : St → Ans := fun s => resK E s [(.tmp 4)] fun l => some (oneV l, s.σ)
def C95_0 : XC := (.seq (.ops (.op (some 2) .any [0] (.box 99 (.tmp 0)) <|
 .op (some 4) .any [] (.mov (.con (V.int .i64 (Int.ofNat 0)))) <|
 .nil))
 (.seq (.seq (.ops (.op (some 5) .any [1] (.mov (.tmp 1)) <|
 .op (some 6) .any [2] (.faddr 3 (.tmp 2)) <|
 .op (some 7) .any [6] (.load none (.tmp 6)) <|
 .op (some 8) .any [7] (.len false (.tmp 7)) <|
 .op (some 9) .any [5, 8] (.bin .geq .none (.tmp 5) (.tmp 8)) <|
 .nil))
 (.cond (.tmp 9) (.seq (.ops (.op (some 4) .any [] (.mov (.con (V.int .i64 (Int.negSucc 0)))) <|
 .nil))
 .ret)
 .skip))
 (.seq (.ops (.op (some 10) .any [2] (.faddr 3 (.tmp 2)) <|
 .op (some 11) .any [10] (.load none (.tmp 10)) <|
 .op (some 12) .any [1] (.mov (.tmp 1)) <|
 .op (some 13) .any [11, 12] (.iaddrS 1 (.tmp 11) (.tmp 12)) <|
 .op (some 14) (.int .i64) [13] (.load none (.tmp 13)) <|
 .op (some 4) .any [14] (.mov (.tmp 14)) <|
 .nil))
 .ret)))
def T95_0 (E : List (Nat × Blk)) (D : Den) (W : DrawFn) (v0_0 : BS) (v0_1 : Int) (v0_2 : V) (v0_3 : V) (v0_4 : V) (v1 : Int) (σ : H) : Ans :=
 chk (allOne (V.cells (V.agg [(V.str v0_0), (V.int .i64 v0_1), v0_2, v0_3, v0_4]))) (
 let s1 := newB σ (.cells (V.cells (V.agg [(V.str v0_0), (V.int .i64 v0_1), v0_2, v0_3, v0_4])));
 ldK E s1 (H.next σ) 3 fun u2 =>
 slenK u2 fun n3 =>
 condK (leF (Int.ofNat n3) v1) (
 some ((V.int .i64 (Int.negSucc 0)), s1)) (
 ldK E s1 (H.next σ) 3 fun u4 =>
 iaddrSK 1 u4 v1 fun b5 o6 =>
 ldK E s1 b5 o6 fun u7 =>
 rtInt .i64 u7 fun x8 =>
 some ((V.int .i64 x8), s1)))
theorem P95_0 (E : List (Nat × Blk)) (D : Den) (W : DrawFn) (N : Nat) (v0_0 : BS) (v0_1 : Int) (v0_2 : V) (v0_3 : V) (v0_4 : V) (v1 : Int) (σ : H) :
  denC E D W N (C95_0 ) ⟨[(0, (V.agg [(V.str v0_0), (V.int .i64 v0_1), v0_2, v0_3, v0_4])), (1, (V.int .i64 v1))], [], [], σ⟩ (Fin95 E) (fun _ _ => none) (Fin95 E) =
  T95_0 E D W  v0_0 v0_1 v0_2 v0_3 v0_4 v1 σ := by kernel_rfl
def J95_0 (E : List (Nat × Blk)) (D : Den) (W : DrawFn) (N : Nat) : BS → Int → V → V → V → Int → H → Ans := T95_0 E D W 
theorem JE95_0 (E : List (Nat × Blk)) (D : Den) (W : DrawFn) (N : Nat) (v0_0 : BS) (v0_1 : Int) (v0_2 : V) (v0_3 : V) (v0_4 : V) (v1 : Int) (σ : H) :
  denC E D W N C95_0 ⟨[(0, (V.agg [(V.str v0_0), (V.int .i64 v0_1), v0_2, v0_3, v0_4])), (1, (V.int .i64 v1))], [], [], σ⟩ (Fin95 E) (fun _ _ => none) (Fin95 E) = J95_0 E D W N v0_0 v0_1 v0_2 v0_3 v0_4 v1 σ := by
  refine (P95_0 E D W N   v0_0 v0_1 v0_2 v0_3 v0_4 v1 σ).trans ?_
  kernel_rfl
def F95 (E : List (Nat × Blk)) (D : Den) (W : DrawFn) (N : Nat) (args : List V) (σ : H) : Ans :=
 rtCons args fun x1 l2 =>
 rtAgg x1 fun l3 =>
 rtCons l3 fun x4 l5 =>
 rtStr x4 fun x6 =>
 rtCons l5 fun x7 l8 =>
 rtInt .i64 x7 fun x9 =>
 rtCons l8 fun x10 l11 =>
 rtCons l11 fun x12 l13 =>
 rtCons l13 fun x14 l15 =>
 rtNil l15 (
 rtCons l2 fun x16 l17 =>
 rtInt .i64 x16 fun x18 =>
 rtNil l17 (
 J95_0 E D W N x6 x9 x10 x12 x14 x18 σ))
def A95 : XFn := ⟨15, [(.agg [.str, (.int .i64), .any, .any, .any]), (.int .i64)], [(.tmp 4)], C95_0⟩
theorem FE95 (E : List (Nat × Blk)) (D : Den) (W : DrawFn) (N : Nat) (args : List V) (σ : H) : runX E D W N A95 args σ = F95 E D W N args σ := by
  unfold F95
  simp only [← JE95_0]
  kernel_rfl
theorem AO95 : A95.body.ok = true := by kernel_rfl

/-! ### F96: ogham_refs.wrong -/
def G96_0 : List AOper := [⟨(some 32), .load (some 5) (.tmp 2), none⟩, ⟨(some 33), .load (some 5) (.tmp 2), none⟩, ⟨(some 34), .mov (.tmp 8), none⟩, ⟨(some 35), .call 95 [(.tmp 33), (.tmp 34)], none⟩, ⟨(some 36), .call 129 [(.tmp 32), (.tmp 35)], none⟩]
def H96_0 : List DP := [⟨0, [2]⟩, ⟨0, [2]⟩, ⟨0, [8]⟩, ⟨6, [33, 34]⟩, ⟨15, [32, 35]⟩]
def Fin96 (E : List (Nat × Blk)) : St → Ans := fun s => resK E s [(.tmp 4), (.tmp 5)] fun l => some (oneV l, s.σ)
def C96_0 (cc1 : XC) (cc2 : XC) : XC := (.seq (.ops (.op (some 2) .any [0] (.box 99 (.tmp 0)) <|
 .op (some 4) .any [] (.mov (.con (V.int .i64 (Int.ofNat 0)))) <|
 .op (some 5) .any [] (.mov (.con (V.int .i64 (Int.ofNat 0)))) <|
 .nil))
 (.seq (.seq (.ops (.op (some 11) .any [2] (.faddr 2 (.tmp 2)) <|
 .op (some 12) .any [11] (.load none (.tmp 11)) <|
 .op (some 13) .any [12] (.len false (.tmp 12)) <|
 .op (some 14) .any [] (.mov (.con (V.int .i64 (Int.ofNat 0)))) <|
 .nil))
 (.block 0 (.loop [(1, .any), (2, .ptr), (12, .any), (13, (.int .i64)), (14, (.int .i64))] [] [] cc2)))
 (.keep [(1, .any), (2, .ptr)] [] [] cc1)))
def T96_0 (E : List (Nat × Blk)) (D : Den) (W : DrawFn) (K2 : V → Nat → Nat → V → Int → Int → H → Ans) (v0_0 : BS) (v0_1 : Int) (v0_2 : V) (v0_3 : V) (v0_4 : V) (v1 : V) (σ : H) : Ans :=
 chk (allOne (V.cells (V.agg [(V.str v0_0), (V.int .i64 v0_1), v0_2, v0_3, v0_4]))) (
 let s1 := newB σ (.cells (V.cells (V.agg [(V.str v0_0), (V.int .i64 v0_1), v0_2, v0_3, v0_4])));
 ldK E s1 (H.next σ) 2 fun u2 =>
 slenK u2 fun n3 =>
 K2 v1 (H.next σ) 0 u2 (Int.ofNat n3) (Int.ofNat 0) s1)
def C96_1 (cc3 : XC) (cc4 : XC) : XC := (.seq (.seq (.ops (.op (some 26) .any [2] (.faddr 2 (.tmp 2)) <|
 .op (some 27) .any [26] (.load none (.tmp 26)) <|
 .op (some 28) .any [27] (.len false (.tmp 27)) <|
 .op (some 29) .any [] (.mov (.con (V.int .i64 (Int.ofNat 0)))) <|
 .nil))
 (.block 2 (.loop [(1, .any), (2, .ptr), (28, (.int .i64)), (29, (.int .i64))] [] [] cc4)))
 (.keep [(1, .any), (2, .ptr)] [] [] cc3))
def T96_1 (E : List (Nat × Blk)) (D : Den) (W : DrawFn) (K4 : V → Nat → Nat → Int → Int → H → Ans) (v1 : V) (v2b : Nat) (v2o : Nat) (σ : H) : Ans :=
 ldK E σ v2b (Nat.add v2o 2) fun u1 =>
 slenK u1 fun n2 =>
 K4 v1 v2b v2o (Int.ofNat n2) (Int.ofNat 0) σ
def C96_2 : XC := (.seq (.ops (.op (some 15) .any [14, 13] (.bin .lss .none (.tmp 14) (.tmp 13)) <|
 .nil))
 (.seq (.cond (.tmp 15) .skip
 (.exit 0))
 (.seq (.block 1 (.seq (.ops (.op (some 16) .any [14] (.mov (.tmp 14)) <|
 .op (some 17) .any [12, 14] (.iaddrS 1 (.tmp 12) (.tmp 14)) <|
 .op (some 18) .str [17] (.load none (.tmp 17)) <|
 .op (some 6) .any [16] (.mov (.tmp 16)) <|
 .op (some 7) .any [18] (.mov (.tmp 18)) <|
 .nil))
 (.seq (.ops (.op (some 19) (.agg [.str, (.int .i64), .any, .any, .any]) [2] (.load (some 5) (.tmp 2)) <|
 .op (some 20) .any [7] (.mov (.tmp 7)) <|
 .op (some 21) (.int .i64) [19, 20] (.call 100 [(.tmp 19), (.tmp 20)]) <|
 .op (some 22) .any [6] (.mov (.tmp 6)) <|
 .op (some 23) .any [21, 22] (.bin .lss .none (.tmp 21) (.tmp 22)) <|
 .nil))
 (.cond (.tmp 23) (.seq (.ops (.op (some 24) .any [6] (.mov (.tmp 6)) <|
 .op (some 4) .any [24] (.mov (.tmp 24)) <|
 .op (some 5) .any [] (.mov (.con (V.int .i64 (Int.ofNat 8)))) <|
 .nil))
 .ret)
 .skip))))
 (.ops (.op (some 25) .any [14] (.bin .add .none (.tmp 14) (.con (V.int .i64 (Int.ofNat 1)))) <|
 .op (some 14) .any [25] (.mov (.tmp 25)) <|
 .nil)))))
def T96_2 (E : List (Nat × Blk)) (D : Den) (W : DrawFn) (K1 : V → Nat → Nat → H → Ans) (R2 : V → Nat → Nat → V → Int → Int → H → Ans) (v1 : V) (v2b : Nat) (v2o : Nat) (v12 : V) (v13 : Int) (v14 : Int) (σ : H) : Ans :=
 condK (ltF v14 v13) (
 iaddrSK 1 v12 v14 fun b1 o2 =>
 ldK E σ b1 o2 fun u3 =>
 rtStr u3 fun x4 =>
 ldnK E σ v2b v2o 5 fun l5 =>
 rtCons l5 fun x6 l7 =>
 rtStr x6 fun x8 =>
 rtCons l7 fun x9 l10 =>
 rtInt .i64 x9 fun x11 =>
 rtCons l10 fun x12 l13 =>
 rtCons l13 fun x14 l15 =>
 rtCons l15 fun x16 l17 =>
 rtNil l17 (
 callK (D 100 [(V.agg [(V.str x8), (V.int .i64 x11), x12, x14, x16]), (V.str x4)] σ) fun u18 s19 =>
 rtInt .i64 u18 fun x20 =>
 condK (ltF x20 v14) (
 some ((V.tup [(V.int .i64 v14), (V.int .i64 (Int.ofNat 8))]), s19)) (
 R2 v1 v2b v2o v12 v13 (addF .i64 v14 (Int.ofNat 1)) s19))) (
 K1 v1 v2b v2o σ)
def C96_3 (cc5 : XC) (cc6 : XC) : XC := (.seq (.seq (.ops (.op (some 39) .any [2] (.faddr 2 (.tmp 2)) <|
 .op (some 40) .any [39] (.load none (.tmp 39)) <|
 .op (some 41) .any [40] (.len false (.tmp 40)) <|
 .op (some 42) .any [] (.mov (.con (V.int .i64 (Int.ofNat 0)))) <|
 .nil))
 (.block 4 (.loop [(1, .any), (2, .ptr), (41, (.int .i64)), (42, (.int .i64))] [] [] cc6)))
 (.keep [] [] [] cc5))
def T96_3 (E : List (Nat × Blk)) (D : Den) (W : DrawFn) (K6 : V → Nat → Nat → Int → Int → H → Ans) (v1 : V) (v2b : Nat) (v2o : Nat) (σ : H) : Ans :=
 ldK E σ v2b (Nat.add v2o 2) fun u1 =>
 slenK u1 fun n2 =>
 K6 v1 v2b v2o (Int.ofNat n2) (Int.ofNat 0) σ
def C96_4 : XC := (.seq (.ops (.op (some 30) .any [29, 28] (.bin .lss .none (.tmp 29) (.tmp 28)) <|
 .nil))
 (.seq (.cond (.tmp 30) .skip
 (.exit 2))
 (.seq (.block 3 (.seq (.ops (.op (some 31) .any [29] (.mov (.tmp 29)) <|
 .op (some 8) .any [31] (.mov (.tmp 31)) <|
 .nil))
 (.seq (.keep [(1, .any), (2, .ptr), (8, (.int .i64)), (28, (.int .i64)), (29, (.int .i64))] [] [] (.gdraw G96_0 H96_0 [(1, .any), (2, .ptr), (8, (.int .i64)), (28, (.int .i64)), (29, (.int .i64)), (36, .bool)]))
 (.cond (.tmp 36) (.seq (.ops (.op (some 37) .any [8] (.mov (.tmp 8)) <|
 .op (some 4) .any [37] (.mov (.tmp 37)) <|
 .op (some 5) .any [] (.mov (.con (V.int .i64 (Int.ofNat 9)))) <|
 .nil))
 .ret)
 .skip))))
 (.ops (.op (some 38) .any [29] (.bin .add .none (.tmp 29) (.con (V.int .i64 (Int.ofNat 1)))) <|
 .op (some 29) .any [38] (.mov (.tmp 38)) <|
 .nil)))))
def T96_4 (E : List (Nat × Blk)) (D : Den) (W : DrawFn) (K3 : V → Nat → Nat → H → Ans) (R4 : V → Nat → Nat → Int → Int → H → Ans) (v1 : V) (v2b : Nat) (v2o : Nat) (v28 : Int) (v29 : Int) (σ : H) : Ans :=
 condK (ltF v29 v28) (
 gdrawK (W G96_0 H96_0 [(1, v1), (2, (V.ptr v2b v2o)), (8, (V.int .i64 v29)), (28, (V.int .i64 v28)), (29, (V.int .i64 v29))] σ) fun e1 s2 =>
 getL e1 1 fun u3 =>
 getL e1 2 fun u4 =>
 rtPtr u4 fun b5 o6 =>
 getL e1 8 fun u7 =>
 rtInt .i64 u7 fun x8 =>
 getL e1 28 fun u9 =>
 rtInt .i64 u9 fun x10 =>
 getL e1 29 fun u11 =>
 rtInt .i64 u11 fun x12 =>
 getL e1 36 fun u13 =>
 rtBool u13 fun x14 =>
 condK x14 (
 some ((V.tup [(V.int .i64 x8), (V.int .i64 (Int.ofNat 9))]), s2)) (
 R4 u3 b5 o6 x10 (addF .i64 x12 (Int.ofNat 1)) s2)) (
 K3 v1 v2b v2o σ)
def C96_5 : XC := (.seq (.ops (.op (some 4) .any [] (.mov (.con (V.int .i64 (Int.ofNat 0)))) <|
 .op (some 5) .any [] (.mov (.con (V.int .i64 (Int.ofNat 0)))) <|
 .nil))
 .ret)
def T96_5 (E : List (Nat × Blk)) (D : Den) (W : DrawFn) (σ : H) : Ans :=
 some ((V.tup [(V.int .i64 (Int.ofNat 0)), (V.int .i64 (Int.ofNat 0))]), σ)
def C96_6 : XC := (.seq (.ops (.op (some 43) .any [42, 41] (.bin .lss .none (.tmp 42) (.tmp 41)) <|
 .nil))
 (.seq (.cond (.tmp 43) .skip
 (.exit 4))
 (.seq (.block 5 (.seq (.ops (.op (some 44) .any [42] (.mov (.tmp 42)) <|
 .op (some 9) .any [44] (.mov (.tmp 44)) <|
 .nil))
 (.seq (.ops (.op (some 45) .any [2] (.faddr 2 (.tmp 2)) <|
 .op (some 46) .any [45] (.load none (.tmp 45)) <|
 .op (some 47) .any [46] (.len false (.tmp 46)) <|
 .op (some 48) .any [47, 47] (.mkslice 4 1 1 [(V.bool false)] (.tmp 47) (.tmp 47)) <|
 .op (some 10) .any [48] (.mov (.tmp 48)) <|
 .nil))
 (.seq (.ops (.op (some 49) .any [1] (.mov (.tmp 1)) <|
 .op (some 50) .any [9] (.mov (.tmp 9)) <|
 .op (some 51) .any [10] (.mov (.tmp 10)) <|
 .op (some 52) (.tup []) [49, 50, 51] (.call 130 [(.tmp 49), (.tmp 50), (.tmp 51)]) <|
 .nil))
 (.seq (.ops (.op (some 53) .any [10] (.mov (.tmp 10)) <|
 .op (some 54) .any [9] (.mov (.tmp 9)) <|
 .op (some 55) .any [53, 54] (.iaddrS 1 (.tmp 53) (.tmp 54)) <|
 .op (some 56) .bool [55] (.load none (.tmp 55)) <|
 .nil))
 (.cond (.tmp 56) (.seq (.ops (.op (some 57) .any [9] (.mov (.tmp 9)) <|
 .op (some 4) .any [57] (.mov (.tmp 57)) <|
 .op (some 5) .any [] (.mov (.con (V.int .i64 (Int.ofNat 10)))) <|
 .nil))
 .ret)
 .skip))))))
 (.ops (.op (some 58) .any [42] (.bin .add .none (.tmp 42) (.con (V.int .i64 (Int.ofNat 1)))) <|
 .op (some 42) .any [58] (.mov (.tmp 58)) <|
 .nil)))))
def T96_6 (E : List (Nat × Blk)) (D : Den) (W : DrawFn) (K5 : H → Ans) (R6 : V → Nat → Nat → Int → Int → H → Ans) (v1 : V) (v2b : Nat) (v2o : Nat) (v41 : Int) (v42 : Int) (σ : H) : Ans :=
 condK (ltF v42 v41) (
 ldK E σ v2b (Nat.add v2o 2) fun u1 =>
 slenK u1 fun n2 =>
 nnK (Int.ofNat n2) fun n3 =>
 nnK (Int.ofNat n2) fun n4 =>
 chk (Nat.ble n3 n4 && Nat.ble (n4 * 1) 281474976710656 && Nat.ble n4 1000000000000) (
 let s5 := newB σ (.cells (List.replicate n4 [(V.bool false)]).flatten);
 callK (D 130 [v1, (V.int .i64 v42), (V.sl (H.next σ) 0 n3 (.ex n4))] s5) fun u6 s7 =>
 rtTup u6 fun l8 =>
 rtNil l8 (
 iaddrSK 1 (V.sl (H.next σ) 0 n3 (.ex n4)) v42 fun b9 o10 =>
 ldK E s7 b9 o10 fun u11 =>
 rtBool u11 fun x12 =>
 condK x12 (
 some ((V.tup [(V.int .i64 v42), (V.int .i64 (Int.ofNat 10))]), s7)) (
 R6 v1 v2b v2o v41 (addF .i64 v42 (Int.ofNat 1)) s7)))) (
 K5 σ)
theorem P96_0 (E : List (Nat × Blk)) (D : Den) (W : DrawFn) (N : Nat) (cc1 : XC) (cc2 : XC) (v0_0 : BS) (v0_1 : Int) (v0_2 : V) (v0_3 : V) (v0_4 : V) (v1 : V) (σ : H) :
  denC E D W N (C96_0 cc1 cc2) ⟨[(0, (V.agg [(V.str v0_0), (V.int .i64 v0_1), v0_2, v0_3, v0_4])), (1, v1)], [], [], σ⟩ (Fin96 E) (fun _ _ => none) (Fin96 E) =
  T96_0 E D W (fun v1 v2b v2o v12 v13 v14 σ => iterK (fun rec s' => denC E D W N cc2 s' (fun s'' => keepS [(1, .any), (2, .ptr), (12, .any), (13, (.int .i64)), (14, (.int .i64))] [] [] s'' rec) (blkK 0 (fun s' => denC E D W N (.keep [(1, .any), (2, .ptr)] [] [] cc1) s' (Fin96 E) (fun _ _ => none) (Fin96 E)) (fun _ _ => none)) (Fin96 E)) N ⟨[(1, v1), (2, (V.ptr v2b v2o)), (12, v12), (13, (V.int .i64 v13)), (14, (V.int .i64 v14))], [], [], σ⟩) v0_0 v0_1 v0_2 v0_3 v0_4 v1 σ := by kernel_rfl
theorem P96_1 (E : List (Nat × Blk)) (D : Den) (W : DrawFn) (N : Nat) (cc3 : XC) (cc4 : XC) (v1 : V) (v2b : Nat) (v2o : Nat) (σ : H) :
  denC E D W N (C96_1 cc3 cc4) ⟨[(1, v1), (2, (V.ptr v2b v2o))], [], [], σ⟩ (Fin96 E) (fun _ _ => none) (Fin96 E) =
  T96_1 E D W (fun v1 v2b v2o v28 v29 σ => iterK (fun rec s' => denC E D W N cc4 s' (fun s'' => keepS [(1, .any), (2, .ptr), (28, (.int .i64)), (29, (.int .i64))] [] [] s'' rec) (blkK 2 (fun s' => denC E D W N (.keep [(1, .any), (2, .ptr)] [] [] cc3) s' (Fin96 E) (fun _ _ => none) (Fin96 E)) (fun _ _ => none)) (Fin96 E)) N ⟨[(1, v1), (2, (V.ptr v2b v2o)), (28, (V.int .i64 v28)), (29, (V.int .i64 v29))], [], [], σ⟩) v1 v2b v2o σ := by kernel_rfl
theorem P96_2 (E : List (Nat × Blk)) (D : Den) (W : DrawFn) (N : Nat) (cc1 : XC) (li2 : St → Ans) (v1 : V) (v2b : Nat) (v2o : Nat) (v12 : V) (v13 : Int) (v14 : Int) (σ : H) :
  denC E D W N (C96_2 ) ⟨[(1, v1), (2, (V.ptr v2b v2o)), (12, v12), (13, (V.int .i64 v13)), (14, (V.int .i64 v14))], [], [], σ⟩ (fun s'' => keepS [(1, .any), (2, .ptr), (12, .any), (13, (.int .i64)), (14, (.int .i64))] [] [] s'' li2) (blkK 0 (fun s' => denC E D W N (.keep [(1, .any), (2, .ptr)] [] [] cc1) s' (Fin96 E) (fun _ _ => none) (Fin96 E)) (fun _ _ => none)) (Fin96 E) =
  T96_2 E D W (fun v1 v2b v2o σ => denC E D W N cc1 ⟨[(1, v1), (2, (V.ptr v2b v2o))], [], [], σ⟩ (Fin96 E) (fun _ _ => none) (Fin96 E)) (fun v1 v2b v2o v12 v13 v14 σ => li2 ⟨[(1, v1), (2, (V.ptr v2b v2o)), (12, v12), (13, (V.int .i64 v13)), (14, (V.int .i64 v14))], [], [], σ⟩) v1 v2b v2o v12 v13 v14 σ := by kernel_rfl
theorem P96_3 (E : List (Nat × Blk)) (D : Den) (W : DrawFn) (N : Nat) (cc5 : XC) (cc6 : XC) (v1 : V) (v2b : Nat) (v2o : Nat) (σ : H) :
  denC E D W N (C96_3 cc5 cc6) ⟨[(1, v1), (2, (V.ptr v2b v2o))], [], [], σ⟩ (Fin96 E) (fun _ _ => none) (Fin96 E) =
  T96_3 E D W (fun v1 v2b v2o v41 v42 σ => iterK (fun rec s' => denC E D W N cc6 s' (fun s'' => keepS [(1, .any), (2, .ptr), (41, (.int .i64)), (42, (.int .i64))] [] [] s'' rec) (blkK 4 (fun s' => denC E D W N (.keep [] [] [] cc5) s' (Fin96 E) (fun _ _ => none) (Fin96 E)) (fun _ _ => none)) (Fin96 E)) N ⟨[(1, v1), (2, (V.ptr v2b v2o)), (41, (V.int .i64 v41)), (42, (V.int .i64 v42))], [], [], σ⟩) v1 v2b v2o σ := by kernel_rfl
theorem P96_4 (E : List (Nat × Blk)) (D : Den) (W : DrawFn) (N : Nat) (cc3 : XC) (li4 : St → Ans) (v1 : V) (v2b : Nat) (v2o : Nat) (v28 : Int) (v29 : Int) (σ : H) :
  denC E D W N (C96_4 ) ⟨[(1, v1), (2, (V.ptr v2b v2o)), (28, (V.int .i64 v28)), (29, (V.int .i64 v29))], [], [], σ⟩ (fun s'' => keepS [(1, .any), (2, .ptr), (28, (.int .i64)), (29, (.int .i64))] [] [] s'' li4) (blkK 2 (fun s' => denC E D W N (.keep [(1, .any), (2, .ptr)] [] [] cc3) s' (Fin96 E) (fun _ _ => none) (Fin96 E)) (fun _ _ => none)) (Fin96 E) =
  T96_4 E D W (fun v1 v2b v2o σ => denC E D W N cc3 ⟨[(1, v1), (2, (V.ptr v2b v2o))], [], [], σ⟩ (Fin96 E) (fun _ _ => none) (Fin96 E)) (fun v1 v2b v2o v28 v29 σ => li4 ⟨[(1, v1), (2, (V.ptr v2b v2o)), (28, (V.int .i64 v28)), (29, (V.int .i64 v29))], [], [], σ⟩) v1 v2b v2o v28 v29 σ := by kernel_rfl
theorem P96_5 (E : List (Nat × Blk)) (D : Den) (W : DrawFn) (N : Nat) (σ : H) :
  denC E D W N (C96_5 ) ⟨[], [], [], σ⟩ (Fin96 E) (fun _ _ => none) (Fin96 E) =
  T96_5 E D W   σ := by kernel_rfl
theorem P96_6 (E : List (Nat × Blk)) (D : Den) (W : DrawFn) (N : Nat) (cc5 : XC) (li6 : St → Ans) (v1 : V) (v2b : Nat) (v2o : Nat) (v41 : Int) (v42 : Int) (σ : H) :
  denC E D W N (C96_6 ) ⟨[(1, v1), (2, (V.ptr v2b v2o)), (41, (V.int .i64 v41)), (42, (V.int .i64 v42))], [], [], σ⟩ (fun s'' => keepS [(1, .any), (2, .ptr), (41, (.int .i64)), (42, (.int .i64))] [] [] s'' li6) (blkK 4 (fun s' => denC E D W N (.keep [] [] [] cc5) s' (Fin96 E) (fun _ _ => none) (Fin96 E)) (fun _ _ => none)) (Fin96 E) =
  T96_6 E D W (fun  σ => denC E D W N cc5 ⟨[], [], [], σ⟩ (Fin96 E) (fun _ _ => none) (Fin96 E)) (fun v1 v2b v2o v41 v42 σ => li6 ⟨[(1, v1), (2, (V.ptr v2b v2o)), (41, (V.int .i64 v41)), (42, (V.int .i64 v42))], [], [], σ⟩) v1 v2b v2o v41 v42 σ := by kernel_rfl
def J96_5 (E : List (Nat × Blk)) (D : Den) (W : DrawFn) (N : Nat) : H → Ans := T96_5 E D W 
theorem JE96_5 (E : List (Nat × Blk)) (D : Den) (W : DrawFn) (N : Nat) (σ : H) :
  denC E D W N C96_5 ⟨[], [], [], σ⟩ (Fin96 E) (fun _ _ => none) (Fin96 E) = J96_5 E D W N  σ := by
  refine (P96_5 E D W N    σ).trans ?_
  kernel_rfl
def L96_6 (E : List (Nat × Blk)) (D : Den) (W : DrawFn) (N : Nat) (n : Nat) : V → Nat → Nat → Int → Int → H → Ans :=
  Nat.rec (fun _ _ _ _ _ _ => none) (fun _ ih => T96_6 E D W (J96_5 E D W N ) ih) n
theorem LE96_6 (E : List (Nat × Blk)) (D : Den) (W : DrawFn) (N : Nat) (n : Nat) : ∀ (v1 : V) (v2b : Nat) (v2o : Nat) (v41 : Int) (v42 : Int) (σ : H),
  iterK (fun rec s' => denC E D W N C96_6 s' (fun s'' => keepS [(1, .any), (2, .ptr), (41, (.int .i64)), (42, (.int .i64))] [] [] s'' rec) (blkK 4 (fun s' => denC E D W N (.keep [] [] [] C96_5) s' (Fin96 E) (fun _ _ => none) (Fin96 E)) (fun _ _ => none)) (Fin96 E)) n ⟨[(1, v1), (2, (V.ptr v2b v2o)), (41, (V.int .i64 v41)), (42, (V.int .i64 v42))], [], [], σ⟩ = L96_6 E D W N n v1 v2b v2o v41 v42 σ := by
  induction n with
  | zero => intro v1 v2b v2o v41 v42 σ; rfl
  | succ n ihn =>
    intro v1 v2b v2o v41 v42 σ
    rw [iterK_succ]
    refine (P96_6 E D W N C96_5 (iterK (fun rec s' => denC E D W N C96_6 s' (fun s'' => keepS [(1, .any), (2, .ptr), (41, (.int .i64)), (42, (.int .i64))] [] [] s'' rec) (blkK 4 (fun s' => denC E D W N (.keep [] [] [] C96_5) s' (Fin96 E) (fun _ _ => none) (Fin96 E)) (fun _ _ => none)) (Fin96 E)) n) v1 v2b v2o v41 v42 σ).trans ?_
    simp only [ihn, JE96_5]
    kernel_rfl
def J96_3 (E : List (Nat × Blk)) (D : Den) (W : DrawFn) (N : Nat) : V → Nat → Nat → H → Ans := T96_3 E D W (L96_6 E D W N N)
theorem JE96_3 (E : List (Nat × Blk)) (D : Den) (W : DrawFn) (N : Nat) (v1 : V) (v2b : Nat) (v2o : Nat) (σ : H) :
  denC E D W N (C96_3 C96_5 C96_6) ⟨[(1, v1), (2, (V.ptr v2b v2o))], [], [], σ⟩ (Fin96 E) (fun _ _ => none) (Fin96 E) = J96_3 E D W N v1 v2b v2o σ := by
  refine (P96_3 E D W N C96_5 C96_6  v1 v2b v2o σ).trans ?_
  simp only [LE96_6]
  kernel_rfl
def L96_4 (E : List (Nat × Blk)) (D : Den) (W : DrawFn) (N : Nat) (n : Nat) : V → Nat → Nat → Int → Int → H → Ans :=
  Nat.rec (fun _ _ _ _ _ _ => none) (fun _ ih => T96_4 E D W (J96_3 E D W N ) ih) n
theorem LE96_4 (E : List (Nat × Blk)) (D : Den) (W : DrawFn) (N : Nat) (n : Nat) : ∀ (v1 : V) (v2b : Nat) (v2o : Nat) (v28 : Int) (v29 : Int) (σ : H),
  iterK (fun rec s' => denC E D W N C96_4 s' (fun s'' => keepS [(1, .any), (2, .ptr), (28, (.int .i64)), (29, (.int .i64))] [] [] s'' rec) (blkK 2 (fun s' => denC E D W N (.keep [(1, .any), (2, .ptr)] [] [] (C96_3 C96_5 C96_6)) s' (Fin96 E) (fun _ _ => none) (Fin96 E)) (fun _ _ => none)) (Fin96 E)) n ⟨[(1, v1), (2, (V.ptr v2b v2o)), (28, (V.int .i64 v28)), (29, (V.int .i64 v29))], [], [], σ⟩ = L96_4 E D W N n v1 v2b v2o v28 v29 σ := by
  induction n with
  | zero => intro v1 v2b v2o v28 v29 σ; rfl
  | succ n ihn =>
    intro v1 v2b v2o v28 v29 σ
    rw [iterK_succ]
    refine (P96_4 E D W N (C96_3 C96_5 C96_6) (iterK (fun rec s' => denC E D W N C96_4 s' (fun s'' => keepS [(1, .any), (2, .ptr), (28, (.int .i64)), (29, (.int .i64))] [] [] s'' rec) (blkK 2 (fun s' => denC E D W N (.keep [(1, .any), (2, .ptr)] [] [] (C96_3 C96_5 C96_6)) s' (Fin96 E) (fun _ _ => none) (Fin96 E)) (fun _ _ => none)) (Fin96 E)) n) v1 v2b v2o v28 v29 σ).trans ?_
    simp only [ihn, JE96_3]
    kernel_rfl
def J96_1 (E : List (Nat × Blk)) (D : Den) (W : DrawFn) (N : Nat) : V → Nat → Nat → H → Ans := T96_1 E D W (L96_4 E D W N N)
theorem JE96_1 (E : List (Nat × Blk)) (D : Den) (W : DrawFn) (N : Nat) (v1 : V) (v2b : Nat) (v2o : Nat) (σ : H) :
  denC E D W N (C96_1 (C96_3 C96_5 C96_6) C96_4) ⟨[(1, v1), (2, (V.ptr v2b v2o))], [], [], σ⟩ (Fin96 E) (fun _ _ => none) (Fin96 E) = J96_1 E D W N v1 v2b v2o σ := by
  refine (P96_1 E D W N (C96_3 C96_5 C96_6) C96_4  v1 v2b v2o σ).trans ?_
  simp only [LE96_4]
  kernel_rfl
def L96_2 (E : List (Nat × Blk)) (D : Den) (W : DrawFn) (N : Nat) (n : Nat) : V → Nat → Nat → V → Int → Int → H → Ans :=
  Nat.rec (fun _ _ _ _ _ _ _ => none) (fun _ ih => T96_2 E D W (J96_1 E D W N ) ih) n
theorem LE96_2 (E : List (Nat × Blk)) (D : Den) (W : DrawFn) (N : Nat) (n : Nat) : ∀ (v1 : V) (v2b : Nat) (v2o : Nat) (v12 : V) (v13 : Int) (v14 : Int) (σ : H),
  iterK (fun rec s' => denC E D W N C96_2 s' (fun s'' => keepS [(1, .any), (2, .ptr), (12, .any), (13, (.int .i64)), (14, (.int .i64))] [] [] s'' rec) (blkK 0 (fun s' => denC E D W N (.keep [(1, .any), (2, .ptr)] [] [] (C96_1 (C96_3 C96_5 C96_6) C96_4)) s' (Fin96 E) (fun _ _ => none) (Fin96 E)) (fun _ _ => none)) (Fin96 E)) n ⟨[(1, v1), (2, (V.ptr v2b v2o)), (12, v12), (13, (V.int .i64 v13)), (14, (V.int .i64 v14))], [], [], σ⟩ = L96_2 E D W N n v1 v2b v2o v12 v13 v14 σ := by
  induction n with
  | zero => intro v1 v2b v2o v12 v13 v14 σ; rfl
  | succ n ihn =>
    intro v1 v2b v2o v12 v13 v14 σ
    rw [iterK_succ]
    refine (P96_2 E D W N (C96_1 (C96_3 C96_5 C96_6) C96_4) (iterK (fun rec s' => denC E D W N C96_2 s' (fun s'' => keepS [(1, .any), (2, .ptr), (12, .any), (13, (.int .i64)), (14, (.int .i64))] [] [] s'' rec) (blkK 0 (fun s' => denC E D W N (.keep [(1, .any), (2, .ptr)] [] [] (C96_1 (C96_3 C96_5 C96_6) C96_4)) s' (Fin96 E) (fun _ _ => none) (Fin96 E)) (fun _ _ => none)) (Fin96 E)) n) v1 v2b v2o v12 v13 v14 σ).trans ?_
    simp only [ihn, JE96_1]
    kernel_rfl
def J96_0 (E : List (Nat × Blk)) (D : Den) (W : DrawFn) (N : Nat) : BS → Int → V → V → V → V → H → Ans := T96_0 E D W (L96_2 E D W N N)
theorem JE96_0 (E : List (Nat × Blk)) (D : Den) (W : DrawFn) (N : Nat) (v0_0 : BS) (v0_1 : Int) (v0_2 : V) (v0_3 : V) (v0_4 : V) (v1 : V) (σ : H) :
  denC E D W N (C96_0 (C96_1 (C96_3 C96_5 C96_6) C96_4) C96_2) ⟨[(0, (V.agg [(V.str v0_0), (V.int .i64 v0_1), v0_2, v0_3, v0_4])), (1, v1)], [], [], σ⟩ (Fin96 E) (fun _ _ => none) (Fin96 E) = J96_0 E D W N v0_0 v0_1 v0_2 v0_3 v0_4 v1 σ := by
  refine (P96_0 E D W N (C96_1 (C96_3 C96_5 C96_6) C96_4) C96_2  v0_0 v0_1 v0_2 v0_3 v0_4 v1 σ).trans ?_
  simp only [LE96_2]
  kernel_rfl
def F96 (E : List (Nat × Blk)) (D : Den) (W : DrawFn) (N : Nat) (args : List V) (σ : H) : Ans :=
 rtCons args fun x1 l2 =>
 rtAgg x1 fun l3 =>
 rtCons l3 fun x4 l5 =>
 rtStr x4 fun x6 =>
 rtCons l5 fun x7 l8 =>
 rtInt .i64 x7 fun x9 =>
 rtCons l8 fun x10 l11 =>
 rtCons l11 fun x12 l13 =>
 rtCons l13 fun x14 l15 =>
 rtNil l15 (
 rtCons l2 fun x16 l17 =>
 rtNil l17 (
 J96_0 E D W N x6 x9 x10 x12 x14 x16 σ))
def A96 : XFn := ⟨59, [(.agg [.str, (.int .i64), .any, .any, .any]), .any], [(.tmp 4), (.tmp 5)], (C96_0 (C96_1 (C96_3 C96_5 C96_6) C96_4) C96_2)⟩
theorem FE96 (E : List (Nat × Blk)) (D : Den) (W : DrawFn) (N : Nat) (args : List V) (σ : H) : runX E D W N A96 args σ = F96 E D W N args σ := by
  unfold F96
  simp only [← JE96_0]
  kernel_rfl
theorem AO96 : A96.body.ok = true := by kernel_rfl

def C97_0 : XC := (.seq (.ops (.op (some 4) .any [] (.mov (.con (V.bool false))) <|
 .nil))
 (.seq (.ops (.op (some 5) .any [0] (.mov (.tmp 0)) <|
 .op (some 6) .any [1] (.mov (.tmp 1)) <|
 .op (some 7) (.int .i64) [5, 6] (.call 131 [(.tmp 5), (.tmp 6)]) <|
 .op (some 8) .any [7] (.bin .geq .none (.tmp 7) (.con (V.int .i64 (Int.ofNat 0)))) <|
 .op (some 4) .any [8] (.mov (.tmp 8)) <|
 .nil))
 .ret))
def A97 : XFn := ⟨9, [.any, (.int .i64)], [(.tmp 4)], C97_0⟩
def C98_0 : XC := (.seq (.ops (.op (some 4) .any [] (.mov (.con (V.bool false))) <|
 .nil))
 (.seq (.ops (.op (some 5) .any [0] (.mov (.tmp 0)) <|
 .op (some 6) .any [1] (.mov (.tmp 1)) <|
 .op (some 7) (.int .i64) [5, 6] (.call 132 [(.tmp 5), (.tmp 6)]) <|
 .op (some 8) .any [7] (.bin .geq .none (.tmp 7) (.con (V.int .i64 (Int.ofNat 0)))) <|
 .op (some 4) .any [8] (.mov (.tmp 8)) <|
 .nil))
 .ret))
def A98 : XFn := ⟨9, [.any, .any], [(.tmp 4)], C98_0⟩
/-! ### F100: ogham_refs.Find -/
def Fin100 (E : List (Nat × Blk)) : St → Ans := fun s => resK E s [(.tmp 4)] fun l => some (oneV l, s.σ)
def C100_0 : XC := (.seq (.ops (.op (some 2) .any [0] (.box 99 (.tmp 0)) <|
 .op (some 4) .any [] (.mov (.con (V.int .i64 (Int.ofNat 0)))) <|
 .nil))
 (.seq (.ops (.op (some 5) .any [2] (.faddr 2 (.tmp 2)) <|
 .op (some 6) .any [5] (.load none (.tmp 5)) <|
 .op (some 7) .any [1] (.mov (.tmp 1)) <|
 .op (some 8) (.int .i64) [6, 7] (.call 108 [(.tmp 6), (.tmp 7)]) <|
 .op (some 4) .any [8] (.mov (.tmp 8)) <|
 .nil))
 .ret))
def T100_0 (E : List (Nat × Blk)) (D : Den) (W : DrawFn) (v0_0 : BS) (v0_1 : Int) (v0_2 : V) (v0_3 : V) (v0_4 : V) (v1 : BS) (σ : H) : Ans :=
 chk (allOne (V.cells (V.agg [(V.str v0_0), (V.int .i64 v0_1), v0_2, v0_3, v0_4]))) (
 let s1 := newB σ (.cells (V.cells (V.agg [(V.str v0_0), (V.int .i64 v0_1), v0_2, v0_3, v0_4])));
 ldK E s1 (H.next σ) 2 fun u2 =>
 callK (D 108 [u2, (V.str v1)] s1) fun u3 s4 =>
 rtInt .i64 u3 fun x5 =>
 some ((V.int .i64 x5), s4))
theorem P100_0 (E : List (Nat × Blk)) (D : Den) (W : DrawFn) (N : Nat) (v0_0 : BS) (v0_1 : Int) (v0_2 : V) (v0_3 : V) (v0_4 : V) (v1 : BS) (σ : H) :
  denC E D W N (C100_0 ) ⟨[(0, (V.agg [(V.str v0_0), (V.int .i64 v0_1), v0_2, v0_3, v0_4])), (1, (V.str v1))], [], [], σ⟩ (Fin100 E) (fun _ _ => none) (Fin100 E) =
  T100_0 E D W  v0_0 v0_1 v0_2 v0_3 v0_4 v1 σ := by kernel_rfl
def J100_0 (E : List (Nat × Blk)) (D : Den) (W : DrawFn) (N : Nat) : BS → Int → V → V → V → BS → H → Ans := T100_0 E D W 
theorem JE100_0 (E : List (Nat × Blk)) (D : Den) (W : DrawFn) (N : Nat) (v0_0 : BS) (v0_1 : Int) (v0_2 : V) (v0_3 : V) (v0_4 : V) (v1 : BS) (σ : H) :
  denC E D W N C100_0 ⟨[(0, (V.agg [(V.str v0_0), (V.int .i64 v0_1), v0_2, v0_3, v0_4])), (1, (V.str v1))], [], [], σ⟩ (Fin100 E) (fun _ _ => none) (Fin100 E) = J100_0 E D W N v0_0 v0_1 v0_2 v0_3 v0_4 v1 σ := by
  refine (P100_0 E D W N   v0_0 v0_1 v0_2 v0_3 v0_4 v1 σ).trans ?_
  kernel_rfl
def F100 (E : List (Nat × Blk)) (D : Den) (W : DrawFn) (N : Nat) (args : List V) (σ : H) : Ans :=
 rtCons args fun x1 l2 =>
 rtAgg x1 fun l3 =>
 rtCons l3 fun x4 l5 =>
 rtStr x4 fun x6 =>
 rtCons l5 fun x7 l8 =>
 rtInt .i64 x7 fun x9 =>
 rtCons l8 fun x10 l11 =>
 rtCons l11 fun x12 l13 =>
 rtCons l13 fun x14 l15 =>
 rtNil l15 (
 rtCons l2 fun x16 l17 =>
 rtStr x16 fun x18 =>
 rtNil l17 (
 J100_0 E D W N x6 x9 x10 x12 x14 x18 σ))
def A100 : XFn := ⟨9, [(.agg [.str, (.int .i64), .any, .any, .any]), .str], [(.tmp 4)], C100_0⟩
theorem FE100 (E : List (Nat × Blk)) (D : Den) (W : DrawFn) (N : Nat) (args : List V) (σ : H) : runX E D W N A100 args σ = F100 E D W N args σ := by
  unfold F100
  simp only [← JE100_0]
  kernel_rfl
theorem AO100 : A100.body.ok = true := by kernel_rfl

/-! ### F101: __ogham_table.maker_.made -/
def G101_0 : List AOper := [⟨(some 86), .mov (.tmp 0), none⟩, ⟨(some 87), .nilck (.tmp 86), none⟩, ⟨(some 88), .faddr 0 (.tmp 87), none⟩, ⟨(some 89), .faddr 0 (.tmp 88), none⟩, ⟨(some 90), .load none (.tmp 89), none⟩, ⟨(some 91), .mov (.tmp 9), none⟩, ⟨(some 92), .load (some 16) (.tmp 4), none⟩, ⟨(some 93), .call 136 [(.tmp 92)], none⟩, ⟨(some 85), .mov (.tmp 93), none⟩, ⟨(some 94), .extract 0 (.tmp 85), none⟩, ⟨(some 95), .extract 1 (.tmp 85), none⟩, ⟨(some 96), .iaddrS 13 (.tmp 90) (.tmp 91), none⟩, ⟨(some 97), .faddr 8 (.tmp 96), none⟩, ⟨none, .store 1 (.tmp 97) (.tmp 94), none⟩, ⟨(some 10), .mov (.tmp 95), none⟩]
def H101_0 : List DP := [⟨0, [0]⟩, ⟨1, [86]⟩, ⟨3, [87]⟩, ⟨7, [88]⟩, ⟨15, [89]⟩, ⟨0, [9]⟩, ⟨0, [4]⟩, ⟨64, [92]⟩, ⟨192, [93]⟩, ⟨448, [85]⟩, ⟨448, [85]⟩, ⟨1023, [90, 91]⟩, ⟨3071, [96]⟩, ⟨7167, [97, 94]⟩, ⟨16383, [95]⟩]
def Fin101 (E : List (Nat × Blk)) : St → Ans := fun s => resK E s [(.tmp 6), (.tmp 7)] fun l => some (oneV l, s.σ)
def C101_0 (cc1 : XC) : XC := (.seq (.ops (.op (some 4) .any [1] (.box 203 (.tmp 1)) <|
 .op (some 6) .any [] (.mov (.con (V.int .i64 (Int.ofNat 0)))) <|
 .op (some 7) .any [] (.mov (.con (V.int .i64 (Int.ofNat 0)))) <|
 .nil))
 (.seq (.seq (.ops (.op (some 12) .any [2] (.mov (.tmp 2)) <|
 .op (some 13) .any [12] (.bin .gtr .none (.tmp 12) (.con (V.int .i64 (Int.ofNat 16)))) <|
 .op (some 14) .any [13] (.mov (.tmp 13)) <|
 .grp 14 false (.op (some 15) .any [0, 14] (.mov (.tmp 0)) <|
 .op (some 16) .any [15, 14] (.nilck (.tmp 15)) <|
 .op (some 17) .any [16, 14] (.faddr 0 (.tmp 16)) <|
 .op (some 18) .any [17, 14] (.faddr 0 (.tmp 17)) <|
 .op (some 19) .any [18, 14] (.load none (.tmp 18)) <|
 .op (some 20) .any [19, 14] (.len false (.tmp 19)) <|
 .op (some 21) .any [20, 14] (.bin .geq .none (.tmp 20) (.con (V.int .i64 (Int.ofNat 300)))) <|
 .nil) 22 [14, 21] (.tmp 14) (.con (V.bool true)) (.tmp 21) <|
 .nil))
 (.cond (.tmp 22) (.seq (.ops (.op (some 6) .any [] (.mov (.con (V.int .i64 (Int.ofNat 0)))) <|
 .op (some 7) .any [] (.mov (.con (V.int .i64 (Int.ofNat 5)))) <|
 .nil))
 .ret)
 .skip))
 (.seq (.ops (.op (some 23) .any [4] (.faddr 0 (.tmp 4)) <|
 .op (some 24) (.int .i64) [23] (.load none (.tmp 23)) <|
 .op (some 25) .any [4] (.faddr 5 (.tmp 4)) <|
 .op (some 26) (.agg [.bool, .bool, .bool, .bool, (.int .i64), (.int .i64)]) [25] (.load (some 6) (.tmp 25)) <|
 .op (some 27) .any [4] (.faddr 13 (.tmp 4)) <|
 .op (some 28) (.int .i64) [27] (.load none (.tmp 27)) <|
 .op (some 29) .any [4] (.faddr 14 (.tmp 4)) <|
 .op (some 30) .bool [29] (.load none (.tmp 29)) <|
 .op (some 31) (.agg [(.int .i64), .any, .bool, .bool, .bool, .bool, (.int .i64), (.int .i64), .any, .any, (.int .i64), .bool, (.int .i64)]) [24, 26, 28, 30] (.build [(V.int .i64 (Int.ofNat 0)), V.nils, (V.bool false), (V.bool false), (V.bool false), (V.bool false), (V.int .i64 (Int.ofNat 0)), (V.int .i64 (Int.ofNat 0)), V.nils, V.nils, (V.int .i64 (Int.ofNat 0)), (V.bool false), (V.int .i64 (Int.ofNat 0))] [(0, 1, (.tmp 24)), (2, 6, (.tmp 26)), (10, 1, (.tmp 28)), (11, 1, (.tmp 30))]) <|
 .pal 8 [] 93 [(V.int .i64 (Int.ofNat 0)), V.nils, (V.bool false), (V.bool false), (V.bool false), (V.bool false), (V.int .i64 (Int.ofNat 0)), (V.int .i64 (Int.ofNat 0)), V.nils, V.nils, (V.int .i64 (Int.ofNat 0)), (V.bool false), (V.int .i64 (Int.ofNat 0))] <|
 .op none (.agg [(.int .i64), .any, .bool, .bool, .bool, .bool, (.int .i64), (.int .i64), .any, .any, (.int .i64), .bool, (.int .i64)]) [8, 31] (.store 13 (.tmp 8) (.tmp 31)) <|
 .nil))
 (.seq (.seq (.ops (.op (some 32) .any [4] (.faddr 0 (.tmp 4)) <|
 .op (some 33) (.int .i64) [32] (.load none (.tmp 32)) <|
 .op (some 34) .any [33] (.bin .neq .none (.tmp 33) (.con (V.int .i64 (Int.ofNat 9)))) <|
 .nil))
 (.cond (.tmp 34) (.ops (.op (some 35) .any [4] (.faddr 0 (.tmp 4)) <|
 .op (some 36) (.int .i64) [35] (.load none (.tmp 35)) <|
 .op (some 37) (.agg [(.int .i64), (.int .i64)]) [36] (.call 133 [(.tmp 36)]) <|
 .op (some 38) .any [37] (.buildSlice 118 1 [(V.int .i64 (Int.ofNat 0)), (V.int .i64 (Int.ofNat 0))] [(0, 2, (.tmp 37))]) <|
 .op (some 39) .any [8] (.faddr 1 (.tmp 8)) <|
 .op none .any [39, 38] (.store 1 (.tmp 39) (.tmp 38)) <|
 .nil))
 .skip))
 (.keep [(0, .ptr), (2, (.int .i64)), (4, .ptr)] [8] [(8, [(.int .i64), .any, .bool, .bool, .bool, .bool, (.int .i64), (.int .i64), .any, .any, (.int .i64), .bool, (.int .i64)])] cc1)))))
def T101_0 (E : List (Nat × Blk)) (D : Den) (W : DrawFn) (K1 : Nat → Nat → Int → Nat → Nat → Int → V → Bool → Bool → Bool → Bool → Int → Int → V → V → Int → Bool → Int → H → Ans) (v0b : Nat) (v0o : Nat) (v1_0 : Int) (v1_1 : BS) (v1_2 : Bool) (v1_3 : Int) (v1_4 : Int) (v1_5 : Bool) (v1_6 : Bool) (v1_7 : Bool) (v1_8 : Bool) (v1_9 : Int) (v1_10 : Int) (v1_11 : V) (v1_12 : V) (v1_13 : Int) (v1_14 : Bool) (v1_15 : Int) (v2 : Int) (σ : H) : Ans :=
 chk (allOne (V.cells (V.agg [(V.int .i64 v1_0), (V.str v1_1), (V.bool v1_2), (V.int .i64 v1_3), (V.int .i64 v1_4), (V.bool v1_5), (V.bool v1_6), (V.bool v1_7), (V.bool v1_8), (V.int .i64 v1_9), (V.int .i64 v1_10), v1_11, v1_12, (V.int .i64 v1_13), (V.bool v1_14), (V.int .i64 v1_15)]))) (
 let s1 := newB σ (.cells (V.cells (V.agg [(V.int .i64 v1_0), (V.str v1_1), (V.bool v1_2), (V.int .i64 v1_3), (V.int .i64 v1_4), (V.bool v1_5), (V.bool v1_6), (V.bool v1_7), (V.bool v1_8), (V.int .i64 v1_9), (V.int .i64 v1_10), v1_11, v1_12, (V.int .i64 v1_13), (V.bool v1_14), (V.int .i64 v1_15)])));
 joinB (fun c2 s3 =>
 condK c2 (
 some ((V.tup [(V.int .i64 (Int.ofNat 0)), (V.int .i64 (Int.ofNat 5))]), s3)) (
 ldK E s3 (H.next σ) 0 fun u5 =>
 rtInt .i64 u5 fun x6 =>
 ldnK E s3 (H.next σ) 5 6 fun l7 =>
 rtCons l7 fun x8 l9 =>
 rtBool x8 fun x10 =>
 rtCons l9 fun x11 l12 =>
 rtBool x11 fun x13 =>
 rtCons l12 fun x14 l15 =>
 rtBool x14 fun x16 =>
 rtCons l15 fun x17 l18 =>
 rtBool x17 fun x19 =>
 rtCons l18 fun x20 l21 =>
 rtInt .i64 x20 fun x22 =>
 rtCons l21 fun x23 l24 =>
 rtInt .i64 x23 fun x25 =>
 rtNil l24 (
 ldK E s3 (H.next σ) 13 fun u26 =>
 rtInt .i64 u26 fun x27 =>
 ldK E s3 (H.next σ) 14 fun u28 =>
 rtBool u28 fun x29 =>
 ldK E s3 (H.next σ) 0 fun u30 =>
 rtInt .i64 u30 fun x31 =>
 condK (not (eqF x31 (Int.ofNat 9))) (
 ldK E s3 (H.next σ) 0 fun u32 =>
 rtInt .i64 u32 fun x33 =>
 callK (D 133 [(V.int .i64 x33)] s3) fun u34 s35 =>
 rtAgg u34 fun l36 =>
 rtCons l36 fun x37 l38 =>
 rtInt .i64 x37 fun x39 =>
 rtCons l38 fun x40 l41 =>
 rtInt .i64 x40 fun x42 =>
 rtNil l41 (
 let s43 := newB s35 (.cells [(V.int .i64 x39), (V.int .i64 x42)]);
 K1 v0b v0o v2 (H.next σ) 0 x6 (V.sl (H.next s35) 0 1 (.ex 1)) x10 x13 x16 x19 x22 x25 V.nils V.nils x27 x29 (Int.ofNat 0) s43)) (
 K1 v0b v0o v2 (H.next σ) 0 x6 V.nils x10 x13 x16 x19 x22 x25 V.nils V.nils x27 x29 (Int.ofNat 0) s3)))) fun k4 =>
 condK (ltF (Int.ofNat 16) v2) (
 k4 true s1) (
 ldK E s1 v0b v0o fun u1 =>
 slenK u1 fun n2 =>
 k4 (leF (Int.ofNat 300) (Int.ofNat n2)) s1))
def C101_1 (cc2 : XC) (cc3 : XC) : XC := (.seq (.draw (.op (some 40) .any [0] (.mov (.tmp 0)) <|
 .op (some 41) .any [40] (.nilck (.tmp 40)) <|
 .op (some 42) .any [41] (.faddr 0 (.tmp 41)) <|
 .op (some 43) (.agg [(.int .i64), .any, .bool, .bool, .bool, .bool, (.int .i64), (.int .i64), .any, .any, (.int .i64), .bool, (.int .i64)]) [8] (.load (some 13) (.tmp 8)) <|
 .op (some 44) (.int .i64) [42, 43] (.call 134 [(.tmp 42), (.tmp 43)]) <|
 .op (some 9) .any [44] (.mov (.tmp 44)) <|
 .nil) [0, 1, 3, 0, 15, 31])
 (.seq (.ops (.op (some 10) .any [] (.mov (.con (V.int .i64 (Int.ofNat 0)))) <|
 .nil))
 (.seq (.seq (.ops (.op (some 45) .any [4] (.faddr 0 (.tmp 4)) <|
 .op (some 46) (.int .i64) [45] (.load none (.tmp 45)) <|
 .nil))
 (.block 0 (.seq (.ops (.op (some 48) .any [46] (.bin .eql .none (.tmp 46) (.con (V.int .i64 (Int.ofNat 2)))) <|
 .op (some 47) .any [48] (.mov (.tmp 48)) <|
 .nil))
 (.cond (.tmp 47) (.ops (.op (some 49) .any [4] (.faddr 5 (.tmp 4)) <|
 .op (some 50) (.agg [.bool, .bool, .bool, .bool, (.int .i64), (.int .i64)]) [49] (.load (some 6) (.tmp 49)) <|
 .op (some 51) (.int .i64) [50] (.call 135 [(.tmp 50), (.con (V.bool false))]) <|
 .op (some 10) .any [51] (.mov (.tmp 51)) <|
 .nil))
 (.seq (.seq (.ops (.op (some 53) .any [46] (.bin .eql .none (.tmp 46) (.con (V.int .i64 (Int.ofNat 5)))) <|
 .op (some 52) .any [53] (.mov (.tmp 53)) <|
 .nil))
 (.cond (.tmp 52) .skip
 (.ops (.op (some 54) .any [46] (.bin .eql .none (.tmp 46) (.con (V.int .i64 (Int.ofNat 6)))) <|
 .op (some 52) .any [54] (.mov (.tmp 54)) <|
 .nil))))
 (.keep [(0, .ptr), (2, (.int .i64)), (4, .ptr), (9, (.int .i64)), (10, (.int .i64)), (46, (.int .i64)), (52, .bool)] [] [] cc3))))))
 (.keep [(9, (.int .i64)), (10, (.int .i64))] [] [] cc2))))
def T101_1 (E : List (Nat × Blk)) (D : Den) (W : DrawFn) (K2 : Int → Int → H → Ans) (K3 : Nat → Nat → Int → Nat → Nat → Int → Int → Int → Bool → H → Ans) (v0b : Nat) (v0o : Nat) (v2 : Int) (v4b : Nat) (v4o : Nat) (r8_0 : Int) (r8_1 : V) (r8_2 : Bool) (r8_3 : Bool) (r8_4 : Bool) (r8_5 : Bool) (r8_6 : Int) (r8_7 : Int) (r8_8 : V) (r8_9 : V) (r8_10 : Int) (r8_11 : Bool) (r8_12 : Int) (σ : H) : Ans :=
 callK (D 134 [(V.ptr v0b v0o), (V.agg [(V.int .i64 r8_0), r8_1, (V.bool r8_2), (V.bool r8_3), (V.bool r8_4), (V.bool r8_5), (V.int .i64 r8_6), (V.int .i64 r8_7), r8_8, r8_9, (V.int .i64 r8_10), (V.bool r8_11), (V.int .i64 r8_12)])] σ) fun u1 s2 =>
 rtInt .i64 u1 fun x3 =>
 ldK E s2 v4b v4o fun u4 =>
 rtInt .i64 u4 fun x5 =>
 condK (eqF x5 (Int.ofNat 2)) (
 ldnK E s2 v4b (Nat.add v4o 5) 6 fun l6 =>
 rtCons l6 fun x7 l8 =>
 rtBool x7 fun x9 =>
 rtCons l8 fun x10 l11 =>
 rtBool x10 fun x12 =>
 rtCons l11 fun x13 l14 =>
 rtBool x13 fun x15 =>
 rtCons l14 fun x16 l17 =>
 rtBool x16 fun x18 =>
 rtCons l17 fun x19 l20 =>
 rtInt .i64 x19 fun x21 =>
 rtCons l20 fun x22 l23 =>
 rtInt .i64 x22 fun x24 =>
 rtNil l23 (
 callK (D 135 [(V.agg [(V.bool x9), (V.bool x12), (V.bool x15), (V.bool x18), (V.int .i64 x21), (V.int .i64 x24)]), (V.bool false)] s2) fun u25 s26 =>
 rtInt .i64 u25 fun x27 =>
 K2 x3 x27 s26)) (
 condK (eqF x5 (Int.ofNat 5)) (
 K3 v0b v0o v2 v4b v4o x3 (Int.ofNat 0) x5 (eqF x5 (Int.ofNat 5)) s2) (
 K3 v0b v0o v2 v4b v4o x3 (Int.ofNat 0) x5 (eqF x5 (Int.ofNat 6)) s2))
def C101_2 : XC := (.seq (.ops (.op (some 107) .any [9] (.mov (.tmp 9)) <|
 .op (some 108) .any [10] (.mov (.tmp 10)) <|
 .op (some 6) .any [107] (.mov (.tmp 107)) <|
 .op (some 7) .any [108] (.mov (.tmp 108)) <|
 .nil))
 .ret)
def T101_2 (E : List (Nat × Blk)) (D : Den) (W : DrawFn) (v9 : Int) (v10 : Int) (σ : H) : Ans :=
 some ((V.tup [(V.int .i64 v9), (V.int .i64 v10)]), σ)
def C101_3 (cc4 : XC) : XC := (.cond (.tmp 52) (.ops (.op (some 55) .any [4] (.faddr 5 (.tmp 4)) <|
 .op (some 56) (.agg [.bool, .bool, .bool, .bool, (.int .i64), (.int .i64)]) [55] (.load (some 6) (.tmp 55)) <|
 .op (some 57) (.int .i64) [56] (.call 135 [(.tmp 56), (.con (V.bool true))]) <|
 .op (some 10) .any [57] (.mov (.tmp 57)) <|
 .nil))
 (.seq (.ops (.op (some 59) .any [46] (.bin .eql .none (.tmp 46) (.con (V.int .i64 (Int.ofNat 10)))) <|
 .op (some 58) .any [59] (.mov (.tmp 59)) <|
 .nil))
 (.cond (.tmp 58) (.seq (.ops (.op (some 60) .any [4] (.faddr 5 (.tmp 4)) <|
 .op (some 61) (.agg [.bool, .bool, .bool, .bool, (.int .i64), (.int .i64)]) [60] (.load (some 6) (.tmp 60)) <|
 .op (some 62) (.int .i64) [61] (.call 135 [(.tmp 61), (.con (V.bool true))]) <|
 .op (some 10) .any [62] (.mov (.tmp 62)) <|
 .nil))
 (.seq (.ops (.op (some 63) .any [10] (.mov (.tmp 10)) <|
 .op (some 64) .any [63] (.bin .eql .none (.tmp 63) (.con (V.int .i64 (Int.ofNat 0)))) <|
 .nil))
 (.cond (.tmp 64) (.seq (.ops (.op (some 11) .any [] (.mov (.con (V.int .i64 (Int.ofNat 0)))) <|
 .nil))
 (.seq (.ops (.op (some 66) .any [0] (.mov (.tmp 0)) <|
 .op (some 67) .any [4] (.faddr 15 (.tmp 4)) <|
 .op (some 68) (.int .i64) [67] (.load none (.tmp 67)) <|
 .op (some 69) .any [2] (.mov (.tmp 2)) <|
 .op (some 70) .any [69] (.bin .add .none (.tmp 69) (.con (V.int .i64 (Int.ofNat 1)))) <|
 .op (some 71) (.tup [(.int .i64), (.int .i64)]) [66, 68, 70] (.call 69 [(.tmp 66), (.tmp 68), (.tmp 70)]) <|
 .op (some 65) .any [71] (.mov (.tmp 71)) <|
 .op (some 72) .any [65] (.extract 0 (.tmp 65)) <|
 .op (some 73) .any [65] (.extract 1 (.tmp 65)) <|
 .op (some 11) .any [72] (.mov (.tmp 72)) <|
 .op (some 10) .any [73] (.mov (.tmp 73)) <|
 .nil))
 (.ops (.op (some 74) .any [0] (.mov (.tmp 0)) <|
 .op (some 75) .any [74] (.nilck (.tmp 74)) <|
 .op (some 76) .any [75] (.faddr 0 (.tmp 75)) <|
 .op (some 77) .any [76] (.faddr 0 (.tmp 76)) <|
 .op (some 78) .any [77] (.load none (.tmp 77)) <|
 .op (some 79) .any [9] (.mov (.tmp 9)) <|
 .op (some 80) .any [11] (.mov (.tmp 11)) <|
 .op (some 81) .any [78, 79] (.iaddrS 13 (.tmp 78) (.tmp 79)) <|
 .op (some 82) .any [81] (.faddr 12 (.tmp 81)) <|
 .op none .any [82, 80] (.store 1 (.tmp 82) (.tmp 80)) <|
 .nil))))
 .skip)))
 (.seq (.ops (.op (some 84) .any [46] (.bin .eql .none (.tmp 46) (.con (V.int .i64 (Int.ofNat 3)))) <|
 .op (some 83) .any [84] (.mov (.tmp 84)) <|
 .nil))
 (.cond (.tmp 83) (.keep [(0, .ptr), (4, .ptr), (9, (.int .i64))] [] [] (.gdraw G101_0 H101_0 [(9, (.int .i64)), (10, (.int .i64))]))
 (.seq (.seq (.ops (.op (some 99) .any [46] (.bin .eql .none (.tmp 46) (.con (V.int .i64 (Int.ofNat 7)))) <|
 .op (some 98) .any [99] (.mov (.tmp 99)) <|
 .nil))
 (.cond (.tmp 98) .skip
 (.seq (.ops (.op (some 100) .any [46] (.bin .eql .none (.tmp 46) (.con (V.int .i64 (Int.ofNat 8)))) <|
 .op (some 98) .any [100] (.mov (.tmp 100)) <|
 .nil))
 (.cond (.tmp 98) .skip
 (.ops (.op (some 101) .any [46] (.bin .eql .none (.tmp 46) (.con (V.int .i64 (Int.ofNat 9)))) <|
 .op (some 98) .any [101] (.mov (.tmp 101)) <|
 .nil))))))
 (.keep [(0, .ptr), (2, (.int .i64)), (4, .ptr), (9, (.int .i64)), (10, (.int .i64)), (98, .bool)] [] [] cc4)))))))
def T101_3 (E : List (Nat × Blk)) (D : Den) (W : DrawFn) (K2 : Int → Int → H → Ans) (K4 : Nat → Nat → Int → Nat → Nat → Int → Int → Bool → H → Ans) (v0b : Nat) (v0o : Nat) (v2 : Int) (v4b : Nat) (v4o : Nat) (v9 : Int) (v10 : Int) (v46 : Int) (v52 : Bool) (σ : H) : Ans :=
 condK v52 (
 ldnK E σ v4b (Nat.add v4o 5) 6 fun l1 =>
 rtCons l1 fun x2 l3 =>
 rtBool x2 fun x4 =>
 rtCons l3 fun x5 l6 =>
 rtBool x5 fun x7 =>
 rtCons l6 fun x8 l9 =>
 rtBool x8 fun x10 =>
 rtCons l9 fun x11 l12 =>
 rtBool x11 fun x13 =>
 rtCons l12 fun x14 l15 =>
 rtInt .i64 x14 fun x16 =>
 rtCons l15 fun x17 l18 =>
 rtInt .i64 x17 fun x19 =>
 rtNil l18 (
 callK (D 135 [(V.agg [(V.bool x4), (V.bool x7), (V.bool x10), (V.bool x13), (V.int .i64 x16), (V.int .i64 x19)]), (V.bool true)] σ) fun u20 s21 =>
 rtInt .i64 u20 fun x22 =>
 K2 v9 x22 s21)) (
 condK (eqF v46 (Int.ofNat 10)) (
 ldnK E σ v4b (Nat.add v4o 5) 6 fun l23 =>
 rtCons l23 fun x24 l25 =>
 rtBool x24 fun x26 =>
 rtCons l25 fun x27 l28 =>
 rtBool x27 fun x29 =>
 rtCons l28 fun x30 l31 =>
 rtBool x30 fun x32 =>
 rtCons l31 fun x33 l34 =>
 rtBool x33 fun x35 =>
 rtCons l34 fun x36 l37 =>
 rtInt .i64 x36 fun x38 =>
 rtCons l37 fun x39 l40 =>
 rtInt .i64 x39 fun x41 =>
 rtNil l40 (
 callK (D 135 [(V.agg [(V.bool x26), (V.bool x29), (V.bool x32), (V.bool x35), (V.int .i64 x38), (V.int .i64 x41)]), (V.bool true)] σ) fun u42 s43 =>
 rtInt .i64 u42 fun x44 =>
 condK (eqF x44 (Int.ofNat 0)) (
 ldK E s43 v4b (Nat.add v4o 15) fun u45 =>
 rtInt .i64 u45 fun x46 =>
 callK (D 69 [(V.ptr v0b v0o), (V.int .i64 x46), (V.int .i64 (addF .i64 v2 (Int.ofNat 1)))] s43) fun u47 s48 =>
 rtTup u47 fun l49 =>
 rtCons l49 fun x50 l51 =>
 rtInt .i64 x50 fun x52 =>
 rtCons l51 fun x53 l54 =>
 rtInt .i64 x53 fun x55 =>
 rtNil l54 (
 ldK E s48 v0b v0o fun u56 =>
 iaddrSK 13 u56 v9 fun b57 o58 =>
 stK 1 b57 (Nat.add o58 12) (V.int .i64 x52) s48 fun s59 =>
 K2 v9 x55 s59)) (
 K2 v9 x44 s43))) (
 condK (eqF v46 (Int.ofNat 3)) (
 gdrawK (W G101_0 H101_0 [(0, (V.ptr v0b v0o)), (4, (V.ptr v4b v4o)), (9, (V.int .i64 v9))] σ) fun e60 s61 =>
 getL e60 9 fun u62 =>
 rtInt .i64 u62 fun x63 =>
 getL e60 10 fun u64 =>
 rtInt .i64 u64 fun x65 =>
 K2 x63 x65 s61) (
 condK (eqF v46 (Int.ofNat 7)) (
 K4 v0b v0o v2 v4b v4o v9 v10 (eqF v46 (Int.ofNat 7)) σ) (
 condK (eqF v46 (Int.ofNat 8)) (
 K4 v0b v0o v2 v4b v4o v9 v10 (eqF v46 (Int.ofNat 8)) σ) (
 K4 v0b v0o v2 v4b v4o v9 v10 (eqF v46 (Int.ofNat 9)) σ)))))
def C101_4 : XC := (.cond (.tmp 98) (.ops (.op (some 102) .any [0] (.mov (.tmp 0)) <|
 .op (some 103) .any [9] (.mov (.tmp 9)) <|
 .op (some 104) (.agg [(.int .i64), .str, .bool, (.int .i64), (.int .i64), .bool, .bool, .bool, .bool, (.int .i64), (.int .i64), .any, .any, (.int .i64), .bool, (.int .i64)]) [4] (.load (some 16) (.tmp 4)) <|
 .op (some 105) .any [2] (.mov (.tmp 2)) <|
 .op (some 106) (.int .i64) [102, 103, 104, 105] (.call 137 [(.tmp 102), (.tmp 103), (.tmp 104), (.tmp 105)]) <|
 .op (some 10) .any [106] (.mov (.tmp 106)) <|
 .nil))
 .skip)
def T101_4 (E : List (Nat × Blk)) (D : Den) (W : DrawFn) (K2 : Int → Int → H → Ans) (v0b : Nat) (v0o : Nat) (v2 : Int) (v4b : Nat) (v4o : Nat) (v9 : Int) (v10 : Int) (v98 : Bool) (σ : H) : Ans :=
 condK v98 (
 ldnK E σ v4b v4o 16 fun l1 =>
 rtCons l1 fun x2 l3 =>
 rtInt .i64 x2 fun x4 =>
 rtCons l3 fun x5 l6 =>
 rtStr x5 fun x7 =>
 rtCons l6 fun x8 l9 =>
 rtBool x8 fun x10 =>
 rtCons l9 fun x11 l12 =>
 rtInt .i64 x11 fun x13 =>
 rtCons l12 fun x14 l15 =>
 rtInt .i64 x14 fun x16 =>
 rtCons l15 fun x17 l18 =>
 rtBool x17 fun x19 =>
 rtCons l18 fun x20 l21 =>
 rtBool x20 fun x22 =>
 rtCons l21 fun x23 l24 =>
 rtBool x23 fun x25 =>
 rtCons l24 fun x26 l27 =>
 rtBool x26 fun x28 =>
 rtCons l27 fun x29 l30 =>
 rtInt .i64 x29 fun x31 =>
 rtCons l30 fun x32 l33 =>
 rtInt .i64 x32 fun x34 =>
 rtCons l33 fun x35 l36 =>
 rtCons l36 fun x37 l38 =>
 rtCons l38 fun x39 l40 =>
 rtInt .i64 x39 fun x41 =>
 rtCons l40 fun x42 l43 =>
 rtBool x42 fun x44 =>
 rtCons l43 fun x45 l46 =>
 rtInt .i64 x45 fun x47 =>
 rtNil l46 (
 callK (D 137 [(V.ptr v0b v0o), (V.int .i64 v9), (V.agg [(V.int .i64 x4), (V.str x7), (V.bool x10), (V.int .i64 x13), (V.int .i64 x16), (V.bool x19), (V.bool x22), (V.bool x25), (V.bool x28), (V.int .i64 x31), (V.int .i64 x34), x35, x37, (V.int .i64 x41), (V.bool x44), (V.int .i64 x47)]), (V.int .i64 v2)] σ) fun u48 s49 =>
 rtInt .i64 u48 fun x50 =>
 K2 v9 x50 s49)) (
 K2 v9 v10 σ)
theorem P101_0 (E : List (Nat × Blk)) (D : Den) (W : DrawFn) (N : Nat) (cc1 : XC) (v0b : Nat) (v0o : Nat) (v1_0 : Int) (v1_1 : BS) (v1_2 : Bool) (v1_3 : Int) (v1_4 : Int) (v1_5 : Bool) (v1_6 : Bool) (v1_7 : Bool) (v1_8 : Bool) (v1_9 : Int) (v1_10 : Int) (v1_11 : V) (v1_12 : V) (v1_13 : Int) (v1_14 : Bool) (v1_15 : Int) (v2 : Int) (σ : H) :
  denC E D W N (C101_0 cc1) ⟨[(0, (V.ptr v0b v0o)), (1, (V.agg [(V.int .i64 v1_0), (V.str v1_1), (V.bool v1_2), (V.int .i64 v1_3), (V.int .i64 v1_4), (V.bool v1_5), (V.bool v1_6), (V.bool v1_7), (V.bool v1_8), (V.int .i64 v1_9), (V.int .i64 v1_10), v1_11, v1_12, (V.int .i64 v1_13), (V.bool v1_14), (V.int .i64 v1_15)])), (2, (V.int .i64 v2))], [], [], σ⟩ (Fin101 E) (fun _ _ => none) (Fin101 E) =
  T101_0 E D W (fun v0b v0o v2 v4b v4o r8_0 r8_1 r8_2 r8_3 r8_4 r8_5 r8_6 r8_7 r8_8 r8_9 r8_10 r8_11 r8_12 σ => denC E D W N cc1 ⟨[(0, (V.ptr v0b v0o)), (2, (V.int .i64 v2)), (4, (V.ptr v4b v4o))], [(8, (8, 0))], [(8, [(V.int .i64 r8_0), r8_1, (V.bool r8_2), (V.bool r8_3), (V.bool r8_4), (V.bool r8_5), (V.int .i64 r8_6), (V.int .i64 r8_7), r8_8, r8_9, (V.int .i64 r8_10), (V.bool r8_11), (V.int .i64 r8_12)])], σ⟩ (Fin101 E) (fun _ _ => none) (Fin101 E)) v0b v0o v1_0 v1_1 v1_2 v1_3 v1_4 v1_5 v1_6 v1_7 v1_8 v1_9 v1_10 v1_11 v1_12 v1_13 v1_14 v1_15 v2 σ := by kernel_rfl
theorem P101_1 (E : List (Nat × Blk)) (D : Den) (W : DrawFn) (N : Nat) (cc2 : XC) (cc3 : XC) (v0b : Nat) (v0o : Nat) (v2 : Int) (v4b : Nat) (v4o : Nat) (r8_0 : Int) (r8_1 : V) (r8_2 : Bool) (r8_3 : Bool) (r8_4 : Bool) (r8_5 : Bool) (r8_6 : Int) (r8_7 : Int) (r8_8 : V) (r8_9 : V) (r8_10 : Int) (r8_11 : Bool) (r8_12 : Int) (σ : H) :
  denC E D W N (C101_1 cc2 cc3) ⟨[(0, (V.ptr v0b v0o)), (2, (V.int .i64 v2)), (4, (V.ptr v4b v4o))], [(8, (8, 0))], [(8, [(V.int .i64 r8_0), r8_1, (V.bool r8_2), (V.bool r8_3), (V.bool r8_4), (V.bool r8_5), (V.int .i64 r8_6), (V.int .i64 r8_7), r8_8, r8_9, (V.int .i64 r8_10), (V.bool r8_11), (V.int .i64 r8_12)])], σ⟩ (Fin101 E) (fun _ _ => none) (Fin101 E) =
  T101_1 E D W (fun v9 v10 σ => denC E D W N cc2 ⟨[(9, (V.int .i64 v9)), (10, (V.int .i64 v10))], [], [], σ⟩ (Fin101 E) (fun _ _ => none) (Fin101 E)) (fun v0b v0o v2 v4b v4o v9 v10 v46 v52 σ => denC E D W N cc3 ⟨[(0, (V.ptr v0b v0o)), (2, (V.int .i64 v2)), (4, (V.ptr v4b v4o)), (9, (V.int .i64 v9)), (10, (V.int .i64 v10)), (46, (V.int .i64 v46)), (52, (V.bool v52))], [], [], σ⟩ (fun s' => denC E D W N (.keep [(9, (.int .i64)), (10, (.int .i64))] [] [] cc2) s' (Fin101 E) (fun _ _ => none) (Fin101 E)) (blkK 0 (fun s' => denC E D W N (.keep [(9, (.int .i64)), (10, (.int .i64))] [] [] cc2) s' (Fin101 E) (fun _ _ => none) (Fin101 E)) (fun _ _ => none)) (Fin101 E)) v0b v0o v2 v4b v4o r8_0 r8_1 r8_2 r8_3 r8_4 r8_5 r8_6 r8_7 r8_8 r8_9 r8_10 r8_11 r8_12 σ := by kernel_rfl
theorem P101_2 (E : List (Nat × Blk)) (D : Den) (W : DrawFn) (N : Nat) (v9 : Int) (v10 : Int) (σ : H) :
  denC E D W N (C101_2 ) ⟨[(9, (V.int .i64 v9)), (10, (V.int .i64 v10))], [], [], σ⟩ (Fin101 E) (fun _ _ => none) (Fin101 E) =
  T101_2 E D W  v9 v10 σ := by kernel_rfl
theorem P101_3 (E : List (Nat × Blk)) (D : Den) (W : DrawFn) (N : Nat) (cc2 : XC) (cc4 : XC) (v0b : Nat) (v0o : Nat) (v2 : Int) (v4b : Nat) (v4o : Nat) (v9 : Int) (v10 : Int) (v46 : Int) (v52 : Bool) (σ : H) :
  denC E D W N (C101_3 cc4) ⟨[(0, (V.ptr v0b v0o)), (2, (V.int .i64 v2)), (4, (V.ptr v4b v4o)), (9, (V.int .i64 v9)), (10, (V.int .i64 v10)), (46, (V.int .i64 v46)), (52, (V.bool v52))], [], [], σ⟩ (fun s' => denC E D W N (.keep [(9, (.int .i64)), (10, (.int .i64))] [] [] cc2) s' (Fin101 E) (fun _ _ => none) (Fin101 E)) (blkK 0 (fun s' => denC E D W N (.keep [(9, (.int .i64)), (10, (.int .i64))] [] [] cc2) s' (Fin101 E) (fun _ _ => none) (Fin101 E)) (fun _ _ => none)) (Fin101 E) =
  T101_3 E D W (fun v9 v10 σ => denC E D W N cc2 ⟨[(9, (V.int .i64 v9)), (10, (V.int .i64 v10))], [], [], σ⟩ (Fin101 E) (fun _ _ => none) (Fin101 E)) (fun v0b v0o v2 v4b v4o v9 v10 v98 σ => denC E D W N cc4 ⟨[(0, (V.ptr v0b v0o)), (2, (V.int .i64 v2)), (4, (V.ptr v4b v4o)), (9, (V.int .i64 v9)), (10, (V.int .i64 v10)), (98, (V.bool v98))], [], [], σ⟩ (fun s' => denC E D W N (.keep [(9, (.int .i64)), (10, (.int .i64))] [] [] cc2) s' (Fin101 E) (fun _ _ => none) (Fin101 E)) (blkK 0 (fun s' => denC E D W N (.keep [(9, (.int .i64)), (10, (.int .i64))] [] [] cc2) s' (Fin101 E) (fun _ _ => none) (Fin101 E)) (fun _ _ => none)) (Fin101 E)) v0b v0o v2 v4b v4o v9 v10 v46 v52 σ := by kernel_rfl
theorem P101_4 (E : List (Nat × Blk)) (D : Den) (W : DrawFn) (N : Nat) (cc2 : XC) (v0b : Nat) (v0o : Nat) (v2 : Int) (v4b : Nat) (v4o : Nat) (v9 : Int) (v10 : Int) (v98 : Bool) (σ : H) :
  denC E D W N (C101_4 ) ⟨[(0, (V.ptr v0b v0o)), (2, (V.int .i64 v2)), (4, (V.ptr v4b v4o)), (9, (V.int .i64 v9)), (10, (V.int .i64 v10)), (98, (V.bool v98))], [], [], σ⟩ (fun s' => denC E D W N (.keep [(9, (.int .i64)), (10, (.int .i64))] [] [] cc2) s' (Fin101 E) (fun _ _ => none) (Fin101 E)) (blkK 0 (fun s' => denC E D W N (.keep [(9, (.int .i64)), (10, (.int .i64))] [] [] cc2) s' (Fin101 E) (fun _ _ => none) (Fin101 E)) (fun _ _ => none)) (Fin101 E) =
  T101_4 E D W (fun v9 v10 σ => denC E D W N cc2 ⟨[(9, (V.int .i64 v9)), (10, (V.int .i64 v10))], [], [], σ⟩ (Fin101 E) (fun _ _ => none) (Fin101 E)) v0b v0o v2 v4b v4o v9 v10 v98 σ := by kernel_rfl
def J101_2 (E : List (Nat × Blk)) (D : Den) (W : DrawFn) (N : Nat) : Int → Int → H → Ans := T101_2 E D W 
theorem JE101_2 (E : List (Nat × Blk)) (D : Den) (W : DrawFn) (N : Nat) (v9 : Int) (v10 : Int) (σ : H) :
  denC E D W N C101_2 ⟨[(9, (V.int .i64 v9)), (10, (V.int .i64 v10))], [], [], σ⟩ (Fin101 E) (fun _ _ => none) (Fin101 E) = J101_2 E D W N v9 v10 σ := by
  refine (P101_2 E D W N   v9 v10 σ).trans ?_
  kernel_rfl
def J101_4 (E : List (Nat × Blk)) (D : Den) (W : DrawFn) (N : Nat) : Nat → Nat → Int → Nat → Nat → Int → Int → Bool → H → Ans := T101_4 E D W (J101_2 E D W N )
theorem JE101_4 (E : List (Nat × Blk)) (D : Den) (W : DrawFn) (N : Nat) (v0b : Nat) (v0o : Nat) (v2 : Int) (v4b : Nat) (v4o : Nat) (v9 : Int) (v10 : Int) (v98 : Bool) (σ : H) :
  denC E D W N C101_4 ⟨[(0, (V.ptr v0b v0o)), (2, (V.int .i64 v2)), (4, (V.ptr v4b v4o)), (9, (V.int .i64 v9)), (10, (V.int .i64 v10)), (98, (V.bool v98))], [], [], σ⟩ (fun s' => denC E D W N (.keep [(9, (.int .i64)), (10, (.int .i64))] [] [] C101_2) s' (Fin101 E) (fun _ _ => none) (Fin101 E)) (blkK 0 (fun s' => denC E D W N (.keep [(9, (.int .i64)), (10, (.int .i64))] [] [] C101_2) s' (Fin101 E) (fun _ _ => none) (Fin101 E)) (fun _ _ => none)) (Fin101 E) = J101_4 E D W N v0b v0o v2 v4b v4o v9 v10 v98 σ := by
  refine (P101_4 E D W N C101_2  v0b v0o v2 v4b v4o v9 v10 v98 σ).trans ?_
  simp only [JE101_2]
  kernel_rfl
def J101_3 (E : List (Nat × Blk)) (D : Den) (W : DrawFn) (N : Nat) : Nat → Nat → Int → Nat → Nat → Int → Int → Int → Bool → H → Ans := T101_3 E D W (J101_2 E D W N ) (J101_4 E D W N )
theorem JE101_3 (E : List (Nat × Blk)) (D : Den) (W : DrawFn) (N : Nat) (v0b : Nat) (v0o : Nat) (v2 : Int) (v4b : Nat) (v4o : Nat) (v9 : Int) (v10 : Int) (v46 : Int) (v52 : Bool) (σ : H) :
  denC E D W N (C101_3 C101_4) ⟨[(0, (V.ptr v0b v0o)), (2, (V.int .i64 v2)), (4, (V.ptr v4b v4o)), (9, (V.int .i64 v9)), (10, (V.int .i64 v10)), (46, (V.int .i64 v46)), (52, (V.bool v52))], [], [], σ⟩ (fun s' => denC E D W N (.keep [(9, (.int .i64)), (10, (.int .i64))] [] [] C101_2) s' (Fin101 E) (fun _ _ => none) (Fin101 E)) (blkK 0 (fun s' => denC E D W N (.keep [(9, (.int .i64)), (10, (.int .i64))] [] [] C101_2) s' (Fin101 E) (fun _ _ => none) (Fin101 E)) (fun _ _ => none)) (Fin101 E) = J101_3 E D W N v0b v0o v2 v4b v4o v9 v10 v46 v52 σ := by
  refine (P101_3 E D W N C101_2 C101_4  v0b v0o v2 v4b v4o v9 v10 v46 v52 σ).trans ?_
  simp only [JE101_2, JE101_4]
  kernel_rfl
def J101_1 (E : List (Nat × Blk)) (D : Den) (W : DrawFn) (N : Nat) : Nat → Nat → Int → Nat → Nat → Int → V → Bool → Bool → Bool → Bool → Int → Int → V → V → Int → Bool → Int → H → Ans := T101_1 E D W (J101_2 E D W N ) (J101_3 E D W N )
theorem JE101_1 (E : List (Nat × Blk)) (D : Den) (W : DrawFn) (N : Nat) (v0b : Nat) (v0o : Nat) (v2 : Int) (v4b : Nat) (v4o : Nat) (r8_0 : Int) (r8_1 : V) (r8_2 : Bool) (r8_3 : Bool) (r8_4 : Bool) (r8_5 : Bool) (r8_6 : Int) (r8_7 : Int) (r8_8 : V) (r8_9 : V) (r8_10 : Int) (r8_11 : Bool) (r8_12 : Int) (σ : H) :
  denC E D W N (C101_1 C101_2 (C101_3 C101_4)) ⟨[(0, (V.ptr v0b v0o)), (2, (V.int .i64 v2)), (4, (V.ptr v4b v4o))], [(8, (8, 0))], [(8, [(V.int .i64 r8_0), r8_1, (V.bool r8_2), (V.bool r8_3), (V.bool r8_4), (V.bool r8_5), (V.int .i64 r8_6), (V.int .i64 r8_7), r8_8, r8_9, (V.int .i64 r8_10), (V.bool r8_11), (V.int .i64 r8_12)])], σ⟩ (Fin101 E) (fun _ _ => none) (Fin101 E) = J101_1 E D W N v0b v0o v2 v4b v4o r8_0 r8_1 r8_2 r8_3 r8_4 r8_5 r8_6 r8_7 r8_8 r8_9 r8_10 r8_11 r8_12 σ := by
  refine (P101_1 E D W N C101_2 (C101_3 C101_4)  v0b v0o v2 v4b v4o r8_0 r8_1 r8_2 r8_3 r8_4 r8_5 r8_6 r8_7 r8_8 r8_9 r8_10 r8_11 r8_12 σ).trans ?_
  simp only [JE101_2, JE101_3]
  kernel_rfl
def J101_0 (E : List (Nat × Blk)) (D : Den) (W : DrawFn) (N : Nat) : Nat → Nat → Int → BS → Bool → Int → Int → Bool → Bool → Bool → Bool → Int → Int → V → V → Int → Bool → Int → Int → H → Ans := T101_0 E D W (J101_1 E D W N )
theorem JE101_0 (E : List (Nat × Blk)) (D : Den) (W : DrawFn) (N : Nat) (v0b : Nat) (v0o : Nat) (v1_0 : Int) (v1_1 : BS) (v1_2 : Bool) (v1_3 : Int) (v1_4 : Int) (v1_5 : Bool) (v1_6 : Bool) (v1_7 : Bool) (v1_8 : Bool) (v1_9 : Int) (v1_10 : Int) (v1_11 : V) (v1_12 : V) (v1_13 : Int) (v1_14 : Bool) (v1_15 : Int) (v2 : Int) (σ : H) :
  denC E D W N (C101_0 (C101_1 C101_2 (C101_3 C101_4))) ⟨[(0, (V.ptr v0b v0o)), (1, (V.agg [(V.int .i64 v1_0), (V.str v1_1), (V.bool v1_2), (V.int .i64 v1_3), (V.int .i64 v1_4), (V.bool v1_5), (V.bool v1_6), (V.bool v1_7), (V.bool v1_8), (V.int .i64 v1_9), (V.int .i64 v1_10), v1_11, v1_12, (V.int .i64 v1_13), (V.bool v1_14), (V.int .i64 v1_15)])), (2, (V.int .i64 v2))], [], [], σ⟩ (Fin101 E) (fun _ _ => none) (Fin101 E) = J101_0 E D W N v0b v0o v1_0 v1_1 v1_2 v1_3 v1_4 v1_5 v1_6 v1_7 v1_8 v1_9 v1_10 v1_11 v1_12 v1_13 v1_14 v1_15 v2 σ := by
  refine (P101_0 E D W N (C101_1 C101_2 (C101_3 C101_4))  v0b v0o v1_0 v1_1 v1_2 v1_3 v1_4 v1_5 v1_6 v1_7 v1_8 v1_9 v1_10 v1_11 v1_12 v1_13 v1_14 v1_15 v2 σ).trans ?_
  simp only [JE101_1]
  kernel_rfl
def F101 (E : List (Nat × Blk)) (D : Den) (W : DrawFn) (N : Nat) (args : List V) (σ : H) : Ans :=
 rtCons args fun x1 l2 =>
 rtPtr x1 fun b3 o4 =>
 rtCons l2 fun x5 l6 =>
 rtAgg x5 fun l7 =>
 rtCons l7 fun x8 l9 =>
 rtInt .i64 x8 fun x10 =>
 rtCons l9 fun x11 l12 =>
 rtStr x11 fun x13 =>
 rtCons l12 fun x14 l15 =>
 rtBool x14 fun x16 =>
 rtCons l15 fun x17 l18 =>
 rtInt .i64 x17 fun x19 =>
 rtCons l18 fun x20 l21 =>
 rtInt .i64 x20 fun x22 =>
 rtCons l21 fun x23 l24 =>
 rtBool x23 fun x25 =>
 rtCons l24 fun x26 l27 =>
 rtBool x26 fun x28 =>
 rtCons l27 fun x29 l30 =>
 rtBool x29 fun x31 =>
 rtCons l30 fun x32 l33 =>
 rtBool x32 fun x34 =>
 rtCons l33 fun x35 l36 =>
 rtInt .i64 x35 fun x37 =>
 rtCons l36 fun x38 l39 =>
 rtInt .i64 x38 fun x40 =>
 rtCons l39 fun x41 l42 =>
 rtCons l42 fun x43 l44 =>
 rtCons l44 fun x45 l46 =>
 rtInt .i64 x45 fun x47 =>
 rtCons l46 fun x48 l49 =>
 rtBool x48 fun x50 =>
 rtCons l49 fun x51 l52 =>
 rtInt .i64 x51 fun x53 =>
 rtNil l52 (
 rtCons l6 fun x54 l55 =>
 rtInt .i64 x54 fun x56 =>
 rtNil l55 (
 J101_0 E D W N b3 o4 x10 x13 x16 x19 x22 x25 x28 x31 x34 x37 x40 x41 x43 x47 x50 x53 x56 σ))
def A101 : XFn := ⟨109, [.ptr, (.agg [(.int .i64), .str, .bool, (.int .i64), (.int .i64), .bool, .bool, .bool, .bool, (.int .i64), (.int .i64), .any, .any, (.int .i64), .bool, (.int .i64)]), (.int .i64)], [(.tmp 6), (.tmp 7)], (C101_0 (C101_1 C101_2 (C101_3 C101_4)))⟩
theorem FE101 (E : List (Nat × Blk)) (D : Den) (W : DrawFn) (N : Nat) (args : List V) (σ : H) : runX E D W N A101 args σ = F101 E D W N args σ := by
  unfold F101
  simp only [← JE101_0]
  kernel_rfl
theorem AO101 : A101.body.ok = true := by kernel_rfl

def C102_0 (cc1 : XC) : XC := (.seq (.ops (.op (some 5) .any [2] (.box 201 (.tmp 2)) <|
 .op (some 6) .any [] (.mov (.con (V.int .i64 (Int.ofNat 0)))) <|
 .nil))
 (.seq (.seq (.ops (.op (some 8) .any [5] (.faddr 0 (.tmp 5)) <|
 .op (some 9) .bool [8] (.load none (.tmp 8)) <|
 .op (some 10) .any [9] (.un .not (.tmp 9)) <|
 .nil))
 (.cond (.tmp 10) (.seq (.ops (.op (some 6) .any [] (.mov (.con (V.int .i64 (Int.ofNat 0)))) <|
 .nil))
 .ret)
 .skip))
 (.seq (.ops (.op (some 7) .any [] (.mov (.con (V.int .i64 (Int.ofNat 0)))) <|
 .nil))
 (.seq (.block 0 (.seq (.ops (.op (some 12) .any [5] (.faddr 2 (.tmp 5)) <|
 .op (some 13) (.int .i64) [12] (.load none (.tmp 12)) <|
 .op (some 14) .any [13] (.bin .eql .none (.tmp 13) (.con (V.int .i64 (Int.ofNat 2)))) <|
 .op (some 11) .any [14] (.mov (.tmp 14)) <|
 .nil))
 (.cond (.tmp 11) (.ops (.op (some 7) .any [] (.mov (.con (V.int .i64 (Int.ofNat 1)))) <|
 .nil))
 (.seq (.ops (.op (some 16) .any [5] (.faddr 2 (.tmp 5)) <|
 .op (some 17) (.int .i64) [16] (.load none (.tmp 16)) <|
 .op (some 18) .any [17] (.bin .eql .none (.tmp 17) (.con (V.int .i64 (Int.ofNat 0)))) <|
 .op (some 19) .any [18] (.mov (.tmp 18)) <|
 .grp 19 true (.op (some 20) .any [0, 19] (.mov (.tmp 0)) <|
 .op (some 21) .any [20, 19] (.nilck (.tmp 20)) <|
 .op (some 22) .any [21, 19] (.faddr 1 (.tmp 21)) <|
 .op (some 23) .any [22, 19] (.faddr 1 (.tmp 22)) <|
 .op (some 24) (.int .i64) [23, 19] (.load none (.tmp 23)) <|
 .op (some 25) .any [24, 19] (.bin .neq .none (.tmp 24) (.con (V.int .i64 (Int.ofNat 0)))) <|
 .nil) 26 [19, 25] (.tmp 19) (.tmp 25) (.con (V.bool false)) <|
 .op (some 15) .any [26] (.mov (.tmp 26)) <|
 .nil))
 (.cond (.tmp 15) (.ops (.op (some 27) .any [0] (.mov (.tmp 0)) <|
 .op (some 28) .any [1] (.mov (.tmp 1)) <|
 .op (some 29) (.int .i64) [27, 28] (.call 138 [(.tmp 27), (.tmp 28)]) <|
 .op (some 7) .any [29] (.mov (.tmp 29)) <|
 .nil))
 .skip)))))
 (.keep [(0, .ptr), (1, (.int .i64)), (5, .ptr), (7, (.int .i64))] [] [] cc1)))))
def C102_1 : XC := (.seq (.ops (.op (some 30) .any [0] (.mov (.tmp 0)) <|
 .op (some 31) .any [1] (.mov (.tmp 1)) <|
 .op (some 32) .any [5] (.faddr 1 (.tmp 5)) <|
 .op (some 33) (.int .i64) [32] (.load none (.tmp 32)) <|
 .op (some 34) .any [7] (.mov (.tmp 7)) <|
 .op (some 35) (.int .i64) [30, 31, 33, 34] (.call 139 [(.tmp 30), (.tmp 31), (.tmp 33), (.tmp 34)]) <|
 .op (some 6) .any [35] (.mov (.tmp 35)) <|
 .nil))
 .ret)
def A102 : XFn := ⟨36, [.ptr, (.int .i64), (.agg [.bool, (.int .i64), (.int .i64)])], [(.tmp 6)], (C102_0 C102_1)⟩
def C103_0 : XC := (.seq (.ops (.op (some 3) .any [1] (.box 201 (.tmp 1)) <|
 .nil))
 (.seq (.seq (.ops (.op (some 4) .any [3] (.faddr 0 (.tmp 3)) <|
 .op (some 5) .bool [4] (.load none (.tmp 4)) <|
 .op (some 6) .any [5] (.un .not (.tmp 5)) <|
 .nil))
 (.cond (.tmp 6) .ret
 .skip))
 (.seq (.ops (.op (some 7) .any [0] (.mov (.tmp 0)) <|
 .op (some 8) .any [7] (.nilck (.tmp 7)) <|
 .op (some 9) .any [8] (.faddr 0 (.tmp 8)) <|
 .op (some 10) .any [] (.buildSlice 9 1 [(V.str ⟨0, 0⟩)] [(0, 1, (.con (V.str ⟨1, 91⟩)))]) <|
 .op (some 11) (.tup []) [9, 10] (.call 71 [(.tmp 9), (.tmp 10)]) <|
 .nil))
 (.seq (.draw (.op (some 12) .any [0] (.mov (.tmp 0)) <|
 .op (some 13) .any [12] (.nilck (.tmp 12)) <|
 .op (some 14) .any [13] (.faddr 0 (.tmp 13)) <|
 .op (some 15) .any [3] (.faddr 1 (.tmp 3)) <|
 .op (some 16) (.int .i64) [15] (.load none (.tmp 15)) <|
 .op (some 17) (.tup []) [14, 16] (.call 140 [(.tmp 14), (.tmp 16)]) <|
 .nil) [0, 1, 3, 0, 8, 31])
 (.seq (.ops (.op (some 18) .any [0] (.mov (.tmp 0)) <|
 .op (some 19) .any [18] (.nilck (.tmp 18)) <|
 .op (some 20) .any [19] (.faddr 0 (.tmp 19)) <|
 .op (some 21) .any [] (.buildSlice 9 1 [(V.str ⟨0, 0⟩)] [(0, 1, (.con (V.str ⟨2, 8285⟩)))]) <|
 .op (some 22) (.tup []) [20, 21] (.call 71 [(.tmp 20), (.tmp 21)]) <|
 .nil))
 (.seq (.ops (.op (some 23) .any [3] (.faddr 2 (.tmp 3)) <|
 .op (some 24) (.int .i64) [23] (.load none (.tmp 23)) <|
 .nil))
 (.block 0 (.seq (.ops (.op (some 26) .any [24] (.bin .eql .none (.tmp 24) (.con (V.int .i64 (Int.ofNat 1)))) <|
 .op (some 25) .any [26] (.mov (.tmp 26)) <|
 .nil))
 (.cond (.tmp 25) (.ops (.op (some 27) .any [0] (.mov (.tmp 0)) <|
 .op (some 28) .any [27] (.nilck (.tmp 27)) <|
 .op (some 29) .any [28] (.faddr 0 (.tmp 28)) <|
 .op (some 30) .any [] (.buildSlice 9 1 [(V.str ⟨0, 0⟩)] [(0, 1, (.con (V.str ⟨9, 596369269913283483717⟩)))]) <|
 .op (some 31) (.tup []) [29, 30] (.call 71 [(.tmp 29), (.tmp 30)]) <|
 .nil))
 (.seq (.ops (.op (some 33) .any [24] (.bin .eql .none (.tmp 24) (.con (V.int .i64 (Int.ofNat 2)))) <|
 .op (some 32) .any [33] (.mov (.tmp 33)) <|
 .nil))
 (.cond (.tmp 32) (.ops (.op (some 34) .any [0] (.mov (.tmp 0)) <|
 .op (some 35) .any [34] (.nilck (.tmp 34)) <|
 .op (some 36) .any [35] (.faddr 0 (.tmp 35)) <|
 .op (some 37) .any [] (.buildSlice 9 1 [(V.str ⟨0, 0⟩)] [(0, 1, (.con (V.str ⟨9, 596369269913283480905⟩)))]) <|
 .op (some 38) (.tup []) [36, 37] (.call 71 [(.tmp 36), (.tmp 37)]) <|
 .nil))
 .skip)))))))))))
def A103 : XFn := ⟨39, [.ptr, (.agg [.bool, (.int .i64), (.int .i64)])], [], C103_0⟩
def C105_0 : XC := (.seq (.ops (.op (some 2) .any [0] (.box 157 (.tmp 0)) <|
 .op (some 3) .any [1] (.box 203 (.tmp 1)) <|
 .nil))
 (.seq (.ops (.op (some 4) .any [2] (.load none (.tmp 2)) <|
 .op (some 5) .any [4] (.nilck (.tmp 4)) <|
 .op (some 6) .any [5] (.faddr 0 (.tmp 5)) <|
 .op (some 7) .any [] (.buildSlice 9 1 [(V.str ⟨0, 0⟩)] [(0, 1, (.con (V.str ⟨13, 2573406864690529315032254467653⟩)))]) <|
 .op (some 8) (.tup []) [6, 7] (.call 71 [(.tmp 6), (.tmp 7)]) <|
 .nil))
 (.seq (.ops (.op (some 9) .any [2] (.load none (.tmp 2)) <|
 .op (some 10) .any [3] (.faddr 11 (.tmp 3)) <|
 .op (some 11) .any [10] (.load none (.tmp 10)) <|
 .op (some 12) .any [11] (.len false (.tmp 11)) <|
 .op (some 13) .any [3] (.faddr 13 (.tmp 3)) <|
 .op (some 14) (.int .i64) [13] (.load none (.tmp 13)) <|
 .op (some 15) .any [3] (.faddr 14 (.tmp 3)) <|
 .op (some 16) .bool [15] (.load none (.tmp 15)) <|
 .op (some 17) .any [2, 3] (.mkfn 143 [] [(.tmp 2), (.tmp 3)]) <|
 .op (some 18) (.tup []) [9, 12, 14, 16, 17] (.call 142 [(.tmp 9), (.tmp 12), (.tmp 14), (.tmp 16), (.tmp 17)]) <|
 .nil))
 (.ops (.op (some 19) .any [2] (.load none (.tmp 2)) <|
 .op (some 20) .any [19] (.nilck (.tmp 19)) <|
 .op (some 21) .any [20] (.faddr 0 (.tmp 20)) <|
 .op (some 22) .any [] (.buildSlice 9 1 [(V.str ⟨0, 0⟩)] [(0, 1, (.con (V.str ⟨2, 32032⟩)))]) <|
 .op (some 23) (.tup []) [21, 22] (.call 71 [(.tmp 21), (.tmp 22)]) <|
 .nil)))))
def A105 : XFn := ⟨24, [.any, (.agg [(.int .i64), .str, .bool, (.int .i64), (.int .i64), .bool, .bool, .bool, .bool, (.int .i64), (.int .i64), .any, .any, (.int .i64), .bool, (.int .i64)])], [], C105_0⟩
/-! ### F107: __ogham_extend.walker_.extends -/
def Fin107 (E : List (Nat × Blk)) : St → Ans := fun s => resK E s [(.tmp 6)] fun l => some (oneV l, s.σ)
def C107_0 (cc1 : XC) (cc2 : XC) : XC := (.seq (.ops (.op (some 6) .any [] (.mov (.con (V.bool false))) <|
 .nil))
 (.seq (.ops (.op (some 11) .any [0] (.mov (.tmp 0)) <|
 .op (some 12) .any [11] (.nilck (.tmp 11)) <|
 .op (some 13) .any [12] (.faddr 0 (.tmp 12)) <|
 .op (some 14) (.agg [.str, .any, .any, .any, .str, .any, .any, .any]) [13] (.load (some 8) (.tmp 13)) <|
 .op (some 15) .any [1] (.mov (.tmp 1)) <|
 .op (some 16) .any [2] (.mov (.tmp 2)) <|
 .op (some 17) (.tup [(.agg [(.int .i64), .any, .bool, .bool, .bool, .bool, (.int .i64), (.int .i64), .any, .any, (.int .i64), .bool, (.int .i64)]), (.agg [(.int .i64), .any, .bool, .bool, .bool, .bool, (.int .i64), (.int .i64), .any, .any, (.int .i64), .bool, (.int .i64)]), .bool]) [14, 15, 16] (.call 145 [(.tmp 14), (.tmp 15), (.tmp 16)]) <|
 .op (some 10) .any [17] (.mov (.tmp 17)) <|
 .op (some 18) .any [10] (.extract 0 (.tmp 10)) <|
 .op (some 19) .any [10] (.extract 1 (.tmp 10)) <|
 .op (some 20) .any [10] (.extract 2 (.tmp 10)) <|
 .pal 7 [] 93 [(V.int .i64 (Int.ofNat 0)), V.nils, (V.bool false), (V.bool false), (V.bool false), (V.bool false), (V.int .i64 (Int.ofNat 0)), (V.int .i64 (Int.ofNat 0)), V.nils, V.nils, (V.int .i64 (Int.ofNat 0)), (V.bool false), (V.int .i64 (Int.ofNat 0))] <|
 .pal 8 [] 93 [(V.int .i64 (Int.ofNat 0)), V.nils, (V.bool false), (V.bool false), (V.bool false), (V.bool false), (V.int .i64 (Int.ofNat 0)), (V.int .i64 (Int.ofNat 0)), V.nils, V.nils, (V.int .i64 (Int.ofNat 0)), (V.bool false), (V.int .i64 (Int.ofNat 0))] <|
 .op none (.agg [(.int .i64), .any, .bool, .bool, .bool, .bool, (.int .i64), (.int .i64), .any, .any, (.int .i64), .bool, (.int .i64)]) [7, 18] (.store 13 (.tmp 7) (.tmp 18)) <|
 .op none (.agg [(.int .i64), .any, .bool, .bool, .bool, .bool, (.int .i64), (.int .i64), .any, .any, (.int .i64), .bool, (.int .i64)]) [8, 19] (.store 13 (.tmp 8) (.tmp 19)) <|
 .op (some 9) .any [20] (.mov (.tmp 20)) <|
 .nil))
 (.seq (.seq (.ops (.op (some 21) .any [0] (.mov (.tmp 0)) <|
 .op (some 22) .any [21] (.nilck (.tmp 21)) <|
 .op (some 23) .any [22] (.faddr 8 (.tmp 22)) <|
 .op (some 24) (.int .i64) [23] (.load none (.tmp 23)) <|
 .op (some 25) .any [24] (.bin .sub .none (.tmp 24) (.con (V.int .i64 (Int.ofNat 1)))) <|
 .op (some 26) .any [21] (.nilck (.tmp 21)) <|
 .op (some 27) .any [26] (.faddr 8 (.tmp 26)) <|
 .op none .any [27, 25] (.store 1 (.tmp 27) (.tmp 25)) <|
 .nil))
 (.seq (.ops (.op (some 28) .any [9] (.mov (.tmp 9)) <|
 .op (some 29) .any [28] (.un .not (.tmp 28)) <|
 .op (some 30) .any [29] (.mov (.tmp 29)) <|
 .grp 30 false (.op (some 31) .any [0, 30] (.mov (.tmp 0)) <|
 .op (some 32) .any [31, 30] (.nilck (.tmp 31)) <|
 .op (some 33) .any [32, 30] (.faddr 8 (.tmp 32)) <|
 .op (some 34) (.int .i64) [33, 30] (.load none (.tmp 33)) <|
 .op (some 35) .any [34, 30] (.bin .lss .none (.tmp 34) (.con (V.int .i64 (Int.ofNat 0)))) <|
 .nil) 36 [30, 35] (.tmp 30) (.con (V.bool true)) (.tmp 35) <|
 .op (some 37) .any [36] (.mov (.tmp 36)) <|
 .grp 37 false (.op (some 38) .any [7, 37] (.faddr 0 (.tmp 7)) <|
 .op (some 39) (.int .i64) [38, 37] (.load none (.tmp 38)) <|
 .op (some 40) .any [8, 37] (.faddr 0 (.tmp 8)) <|
 .op (some 41) (.int .i64) [40, 37] (.load none (.tmp 40)) <|
 .op (some 42) .any [39, 41, 37] (.bin .neq .none (.tmp 39) (.tmp 41)) <|
 .nil) 43 [37, 42] (.tmp 37) (.con (V.bool true)) (.tmp 42) <|
 .op (some 44) .any [43] (.mov (.tmp 43)) <|
 .grp 44 false (.op (some 45) .any [7, 44] (.faddr 1 (.tmp 7)) <|
 .op (some 46) .any [45, 44] (.load none (.tmp 45)) <|
 .op (some 47) .any [8, 44] (.faddr 1 (.tmp 8)) <|
 .op (some 48) .any [47, 44] (.load none (.tmp 47)) <|
 .op (some 49) .bool [46, 48, 44] (.call 146 [(.tmp 46), (.tmp 48)]) <|
 .op (some 50) .any [49, 44] (.un .not (.tmp 49)) <|
 .nil) 51 [44, 50] (.tmp 44) (.con (V.bool true)) (.tmp 50) <|
 .op (some 52) .any [51] (.mov (.tmp 51)) <|
 .grp 52 false (.op (some 53) .any [7, 52] (.faddr 2 (.tmp 7)) <|
 .op (some 54) (.agg [.bool, .bool, .bool, .bool, (.int .i64), (.int .i64)]) [53, 52] (.load (some 6) (.tmp 53)) <|
 .op (some 55) .any [8, 52] (.faddr 2 (.tmp 8)) <|
 .op (some 56) (.agg [.bool, .bool, .bool, .bool, (.int .i64), (.int .i64)]) [55, 52] (.load (some 6) (.tmp 55)) <|
 .op (some 57) .any [54, 56, 52] (.bin .neq (.flat [(0, .bool), (1, .bool), (2, .bool), (3, .bool), (4, .int), (5, .int)]) (.tmp 54) (.tmp 56)) <|
 .nil) 58 [52, 57] (.tmp 52) (.con (V.bool true)) (.tmp 57) <|
 .op (some 59) .any [58] (.mov (.tmp 58)) <|
 .grp 59 false (.op (some 60) .any [7, 59] (.faddr 11 (.tmp 7)) <|
 .op (some 61) .bool [60, 59] (.load none (.tmp 60)) <|
 .op (some 62) .any [8, 59] (.faddr 11 (.tmp 8)) <|
 .op (some 63) .bool [62, 59] (.load none (.tmp 62)) <|
 .op (some 64) .any [61, 63, 59] (.bin .neq .bool (.tmp 61) (.tmp 63)) <|
 .nil) 65 [59, 64] (.tmp 59) (.con (V.bool true)) (.tmp 64) <|
 .nil))
 (.cond (.tmp 65) (.seq (.ops (.op (some 6) .any [] (.mov (.con (V.bool false))) <|
 .nil))
 .ret)
 .skip)))
 (.seq (.seq (.ops (.op (some 66) .any [7] (.faddr 0 (.tmp 7)) <|
 .op (some 67) (.int .i64) [66] (.load none (.tmp 66)) <|
 .nil))
 (.block 0 (.seq (.ops (.op (some 69) .any [67] (.bin .eql .none (.tmp 67) (.con (V.int .i64 (Int.ofNat 10)))) <|
 .op (some 68) .any [69] (.mov (.tmp 69)) <|
 .nil))
 (.cond (.tmp 68) (.seq (.ops (.op (some 70) .any [0] (.mov (.tmp 0)) <|
 .op (some 71) .any [7] (.faddr 12 (.tmp 7)) <|
 .op (some 72) (.int .i64) [71] (.load none (.tmp 71)) <|
 .op (some 73) .any [8] (.faddr 12 (.tmp 8)) <|
 .op (some 74) (.int .i64) [73] (.load none (.tmp 73)) <|
 .op (some 75) .bool [70, 72, 74] (.call 107 [(.tmp 70), (.tmp 72), (.tmp 74)]) <|
 .op (some 6) .any [75] (.mov (.tmp 75)) <|
 .nil))
 .ret)
 (.seq (.ops (.op (some 77) .any [67] (.bin .eql .none (.tmp 67) (.con (V.int .i64 (Int.ofNat 3)))) <|
 .op (some 76) .any [77] (.mov (.tmp 77)) <|
 .nil))
 (.cond (.tmp 76) (.seq (.ops (.op (some 78) (.agg [(.int .i64), .any, .bool, .bool, .bool, .bool, (.int .i64), (.int .i64), .any, .any, (.int .i64), .bool, (.int .i64)]) [7] (.load (some 13) (.tmp 7)) <|
 .op (some 79) (.agg [(.int .i64), .any, .bool, .bool, .bool, .bool, (.int .i64), (.int .i64), .any, .any, (.int .i64), .bool, (.int .i64)]) [8] (.load (some 13) (.tmp 8)) <|
 .op (some 80) .bool [78, 79] (.call 147 [(.tmp 78), (.tmp 79)]) <|
 .op (some 6) .any [80] (.mov (.tmp 80)) <|
 .nil))
 .ret)
 (.seq (.seq (.ops (.op (some 82) .any [67] (.bin .eql .none (.tmp 67) (.con (V.int .i64 (Int.ofNat 7)))) <|
 .op (some 81) .any [82] (.mov (.tmp 82)) <|
 .nil))
 (.cond (.tmp 81) .skip
 (.seq (.ops (.op (some 83) .any [67] (.bin .eql .none (.tmp 67) (.con (V.int .i64 (Int.ofNat 8)))) <|
 .op (some 81) .any [83] (.mov (.tmp 83)) <|
 .nil))
 (.cond (.tmp 81) .skip
 (.ops (.op (some 84) .any [67] (.bin .eql .none (.tmp 67) (.con (V.int .i64 (Int.ofNat 9)))) <|
 .op (some 81) .any [84] (.mov (.tmp 84)) <|
 .nil))))))
 (.keep [(0, .ptr), (81, .bool)] [7, 8] [(7, [(.int .i64), .any, .bool, .bool, .bool, .bool, (.int .i64), (.int .i64), .any, .any, (.int .i64), .bool, (.int .i64)]), (8, [(.int .i64), .any, .bool, .bool, .bool, .bool, (.int .i64), (.int .i64), .any, .any, (.int .i64), .bool, (.int .i64)])] cc2))))))))
 (.keep [] [] [] cc1)))))
def T107_0 (E : List (Nat × Blk)) (D : Den) (W : DrawFn) (K2 : Nat → Nat → Bool → Int → V → Bool → Bool → Bool → Bool → Int → Int → V → V → Int → Bool → Int → Int → V → Bool → Bool → Bool → Bool → Int → Int → V → V → Int → Bool → Int → H → Ans) (v0b : Nat) (v0o : Nat) (v1 : Int) (v2 : Int) (σ : H) : Ans :=
 ldnK E σ v0b v0o 8 fun l1 =>
 rtCons l1 fun x2 l3 =>
 rtStr x2 fun x4 =>
 rtCons l3 fun x5 l6 =>
 rtCons l6 fun x7 l8 =>
 rtCons l8 fun x9 l10 =>
 rtCons l10 fun x11 l12 =>
 rtStr x11 fun x13 =>
 rtCons l12 fun x14 l15 =>
 rtCons l15 fun x16 l17 =>
 rtCons l17 fun x18 l19 =>
 rtNil l19 (
 callK (D 145 [(V.agg [(V.str x4), x5, x7, x9, (V.str x13), x14, x16, x18]), (V.int .i64 v1), (V.int .i64 v2)] σ) fun u20 s21 =>
 rtTup u20 fun l22 =>
 rtCons l22 fun x23 l24 =>
 rtAgg x23 fun l25 =>
 rtCons l25 fun x26 l27 =>
 rtInt .i64 x26 fun x28 =>
 rtCons l27 fun x29 l30 =>
 rtCons l30 fun x31 l32 =>
 rtBool x31 fun x33 =>
 rtCons l32 fun x34 l35 =>
 rtBool x34 fun x36 =>
 rtCons l35 fun x37 l38 =>
 rtBool x37 fun x39 =>
 rtCons l38 fun x40 l41 =>
 rtBool x40 fun x42 =>
 rtCons l41 fun x43 l44 =>
 rtInt .i64 x43 fun x45 =>
 rtCons l44 fun x46 l47 =>
 rtInt .i64 x46 fun x48 =>
 rtCons l47 fun x49 l50 =>
 rtCons l50 fun x51 l52 =>
 rtCons l52 fun x53 l54 =>
 rtInt .i64 x53 fun x55 =>
 rtCons l54 fun x56 l57 =>
 rtBool x56 fun x58 =>
 rtCons l57 fun x59 l60 =>
 rtInt .i64 x59 fun x61 =>
 rtNil l60 (
 rtCons l24 fun x62 l63 =>
 rtAgg x62 fun l64 =>
 rtCons l64 fun x65 l66 =>
 rtInt .i64 x65 fun x67 =>
 rtCons l66 fun x68 l69 =>
 rtCons l69 fun x70 l71 =>
 rtBool x70 fun x72 =>
 rtCons l71 fun x73 l74 =>
 rtBool x73 fun x75 =>
 rtCons l74 fun x76 l77 =>
 rtBool x76 fun x78 =>
 rtCons l77 fun x79 l80 =>
 rtBool x79 fun x81 =>
 rtCons l80 fun x82 l83 =>
 rtInt .i64 x82 fun x84 =>
 rtCons l83 fun x85 l86 =>
 rtInt .i64 x85 fun x87 =>
 rtCons l86 fun x88 l89 =>
 rtCons l89 fun x90 l91 =>
 rtCons l91 fun x92 l93 =>
 rtInt .i64 x92 fun x94 =>
 rtCons l93 fun x95 l96 =>
 rtBool x95 fun x97 =>
 rtCons l96 fun x98 l99 =>
 rtInt .i64 x98 fun x100 =>
 rtNil l99 (
 rtCons l63 fun x101 l102 =>
 rtBool x101 fun x103 =>
 rtNil l102 (
 chk (allOne [(V.int .i64 x28), x29, (V.bool x33), (V.bool x36), (V.bool x39), (V.bool x42), (V.int .i64 x45), (V.int .i64 x48), x49, x51, (V.int .i64 x55), (V.bool x58), (V.int .i64 x61)]) (
 chk (allOne [(V.int .i64 x67), x68, (V.bool x72), (V.bool x75), (V.bool x78), (V.bool x81), (V.int .i64 x84), (V.int .i64 x87), x88, x90, (V.int .i64 x94), (V.bool x97), (V.int .i64 x100)]) (
 ldK E s21 v0b (Nat.add v0o 8) fun u104 =>
 rtInt .i64 u104 fun x105 =>
 stK 1 v0b (Nat.add v0o 8) (V.int .i64 (subF .i64 x105 (Int.ofNat 1))) s21 fun s106 =>
 joinB (fun c107 s108 =>
 joinB (fun c110 s111 =>
 joinB (fun c113 s114 =>
 joinB (fun c116 s117 =>
 joinB (fun c119 s120 =>
 condK c119 (
 some ((V.bool false), s120)) (
 condK (eqF x28 (Int.ofNat 10)) (
 callK (D 107 [(V.ptr v0b v0o), (V.int .i64 x61), (V.int .i64 x100)] s120) fun u122 s123 =>
 rtBool u122 fun x124 =>
 some ((V.bool x124), s123)) (
 condK (eqF x28 (Int.ofNat 3)) (
 callK (D 147 [(V.agg [(V.int .i64 x28), x29, (V.bool x33), (V.bool x36), (V.bool x39), (V.bool x42), (V.int .i64 x45), (V.int .i64 x48), x49, x51, (V.int .i64 x55), (V.bool x58), (V.int .i64 x61)]), (V.agg [(V.int .i64 x67), x68, (V.bool x72), (V.bool x75), (V.bool x78), (V.bool x81), (V.int .i64 x84), (V.int .i64 x87), x88, x90, (V.int .i64 x94), (V.bool x97), (V.int .i64 x100)])] s120) fun u125 s126 =>
 rtBool u125 fun x127 =>
 some ((V.bool x127), s126)) (
 condK (eqF x28 (Int.ofNat 7)) (
 K2 v0b v0o (eqF x28 (Int.ofNat 7)) x28 x29 x33 x36 x39 x42 x45 x48 x49 x51 x55 x58 x61 x67 x68 x72 x75 x78 x81 x84 x87 x88 x90 x94 x97 x100 s120) (
 condK (eqF x28 (Int.ofNat 8)) (
 K2 v0b v0o (eqF x28 (Int.ofNat 8)) x28 x29 x33 x36 x39 x42 x45 x48 x49 x51 x55 x58 x61 x67 x68 x72 x75 x78 x81 x84 x87 x88 x90 x94 x97 x100 s120) (
 K2 v0b v0o (eqF x28 (Int.ofNat 9)) x28 x29 x33 x36 x39 x42 x45 x48 x49 x51 x55 x58 x61 x67 x68 x72 x75 x78 x81 x84 x87 x88 x90 x94 x97 x100 s120)))))) fun k121 =>
 condK c116 (
 k121 true s117) (
 eqK .bool (V.bool x58) (V.bool x97) fun c1 =>
 k121 (not c1) s117)) fun k118 =>
 condK c113 (
 k118 true s114) (
 eqK (.flat [(0, .bool), (1, .bool), (2, .bool), (3, .bool), (4, .int), (5, .int)]) (V.agg [(V.bool x33), (V.bool x36), (V.bool x39), (V.bool x42), (V.int .i64 x45), (V.int .i64 x48)]) (V.agg [(V.bool x72), (V.bool x75), (V.bool x78), (V.bool x81), (V.int .i64 x84), (V.int .i64 x87)]) fun c2 =>
 k118 (not c2) s114)) fun k115 =>
 condK c110 (
 k115 true s111) (
 callK (D 146 [x29, x68] s111) fun u3 s4 =>
 rtBool u3 fun x5 =>
 k115 (not x5) s4)) fun k112 =>
 condK c107 (
 k112 true s108) (
 k112 (not (eqF x28 x67)) s108)) fun k109 =>
 condK (not x103) (
 k109 true s106) (
 ldK E s106 v0b (Nat.add v0o 8) fun u6 =>
 rtInt .i64 u6 fun x7 =>
 k109 (ltF x7 (Int.ofNat 0)) s106)))))))
def C107_1 : XC := (.seq (.ops (.op (some 6) .any [] (.mov (.con (V.bool true))) <|
 .nil))
 .ret)
def T107_1 (E : List (Nat × Blk)) (D : Den) (W : DrawFn) (σ : H) : Ans :=
 some ((V.bool true), σ)
def C107_2 : XC := (.cond (.tmp 81) (.seq (.ops (.op (some 85) .any [0] (.mov (.tmp 0)) <|
 .op (some 86) (.agg [(.int .i64), .any, .bool, .bool, .bool, .bool, (.int .i64), (.int .i64), .any, .any, (.int .i64), .bool, (.int .i64)]) [7] (.load (some 13) (.tmp 7)) <|
 .op (some 87) (.agg [(.int .i64), .any, .bool, .bool, .bool, .bool, (.int .i64), (.int .i64), .any, .any, (.int .i64), .bool, (.int .i64)]) [8] (.load (some 13) (.tmp 8)) <|
 .op (some 88) .bool [85, 86, 87] (.call 148 [(.tmp 85), (.tmp 86), (.tmp 87)]) <|
 .op (some 6) .any [88] (.mov (.tmp 88)) <|
 .nil))
 .ret)
 .skip)
def T107_2 (E : List (Nat × Blk)) (D : Den) (W : DrawFn) (K1 : H → Ans) (v0b : Nat) (v0o : Nat) (v81 : Bool) (r7_0 : Int) (r7_1 : V) (r7_2 : Bool) (r7_3 : Bool) (r7_4 : Bool) (r7_5 : Bool) (r7_6 : Int) (r7_7 : Int) (r7_8 : V) (r7_9 : V) (r7_10 : Int) (r7_11 : Bool) (r7_12 : Int) (r8_0 : Int) (r8_1 : V) (r8_2 : Bool) (r8_3 : Bool) (r8_4 : Bool) (r8_5 : Bool) (r8_6 : Int) (r8_7 : Int) (r8_8 : V) (r8_9 : V) (r8_10 : Int) (r8_11 : Bool) (r8_12 : Int) (σ : H) : Ans :=
 condK v81 (
 callK (D 148 [(V.ptr v0b v0o), (V.agg [(V.int .i64 r7_0), r7_1, (V.bool r7_2), (V.bool r7_3), (V.bool r7_4), (V.bool r7_5), (V.int .i64 r7_6), (V.int .i64 r7_7), r7_8, r7_9, (V.int .i64 r7_10), (V.bool r7_11), (V.int .i64 r7_12)]), (V.agg [(V.int .i64 r8_0), r8_1, (V.bool r8_2), (V.bool r8_3), (V.bool r8_4), (V.bool r8_5), (V.int .i64 r8_6), (V.int .i64 r8_7), r8_8, r8_9, (V.int .i64 r8_10), (V.bool r8_11), (V.int .i64 r8_12)])] σ) fun u1 s2 =>
 rtBool u1 fun x3 =>
 some ((V.bool x3), s2)) (
 K1 σ)
theorem P107_0 (E : List (Nat × Blk)) (D : Den) (W : DrawFn) (N : Nat) (cc1 : XC) (cc2 : XC) (v0b : Nat) (v0o : Nat) (v1 : Int) (v2 : Int) (σ : H) :
  denC E D W N (C107_0 cc1 cc2) ⟨[(0, (V.ptr v0b v0o)), (1, (V.int .i64 v1)), (2, (V.int .i64 v2))], [], [], σ⟩ (Fin107 E) (fun _ _ => none) (Fin107 E) =
  T107_0 E D W (fun v0b v0o v81 r7_0 r7_1 r7_2 r7_3 r7_4 r7_5 r7_6 r7_7 r7_8 r7_9 r7_10 r7_11 r7_12 r8_0 r8_1 r8_2 r8_3 r8_4 r8_5 r8_6 r8_7 r8_8 r8_9 r8_10 r8_11 r8_12 σ => denC E D W N cc2 ⟨[(0, (V.ptr v0b v0o)), (81, (V.bool v81))], [(7, (7, 0)), (8, (8, 0))], [(7, [(V.int .i64 r7_0), r7_1, (V.bool r7_2), (V.bool r7_3), (V.bool r7_4), (V.bool r7_5), (V.int .i64 r7_6), (V.int .i64 r7_7), r7_8, r7_9, (V.int .i64 r7_10), (V.bool r7_11), (V.int .i64 r7_12)]), (8, [(V.int .i64 r8_0), r8_1, (V.bool r8_2), (V.bool r8_3), (V.bool r8_4), (V.bool r8_5), (V.int .i64 r8_6), (V.int .i64 r8_7), r8_8, r8_9, (V.int .i64 r8_10), (V.bool r8_11), (V.int .i64 r8_12)])], σ⟩ (fun s' => denC E D W N (.keep [] [] [] cc1) s' (Fin107 E) (fun _ _ => none) (Fin107 E)) (blkK 0 (fun s' => denC E D W N (.keep [] [] [] cc1) s' (Fin107 E) (fun _ _ => none) (Fin107 E)) (fun _ _ => none)) (Fin107 E)) v0b v0o v1 v2 σ := by kernel_rfl
theorem P107_1 (E : List (Nat × Blk)) (D : Den) (W : DrawFn) (N : Nat) (σ : H) :
  denC E D W N (C107_1 ) ⟨[], [], [], σ⟩ (Fin107 E) (fun _ _ => none) (Fin107 E) =
  T107_1 E D W   σ := by kernel_rfl
theorem P107_2 (E : List (Nat × Blk)) (D : Den) (W : DrawFn) (N : Nat) (cc1 : XC) (v0b : Nat) (v0o : Nat) (v81 : Bool) (r7_0 : Int) (r7_1 : V) (r7_2 : Bool) (r7_3 : Bool) (r7_4 : Bool) (r7_5 : Bool) (r7_6 : Int) (r7_7 : Int) (r7_8 : V) (r7_9 : V) (r7_10 : Int) (r7_11 : Bool) (r7_12 : Int) (r8_0 : Int) (r8_1 : V) (r8_2 : Bool) (r8_3 : Bool) (r8_4 : Bool) (r8_5 : Bool) (r8_6 : Int) (r8_7 : Int) (r8_8 : V) (r8_9 : V) (r8_10 : Int) (r8_11 : Bool) (r8_12 : Int) (σ : H) :
  denC E D W N (C107_2 ) ⟨[(0, (V.ptr v0b v0o)), (81, (V.bool v81))], [(7, (7, 0)), (8, (8, 0))], [(7, [(V.int .i64 r7_0), r7_1, (V.bool r7_2), (V.bool r7_3), (V.bool r7_4), (V.bool r7_5), (V.int .i64 r7_6), (V.int .i64 r7_7), r7_8, r7_9, (V.int .i64 r7_10), (V.bool r7_11), (V.int .i64 r7_12)]), (8, [(V.int .i64 r8_0), r8_1, (V.bool r8_2), (V.bool r8_3), (V.bool r8_4), (V.bool r8_5), (V.int .i64 r8_6), (V.int .i64 r8_7), r8_8, r8_9, (V.int .i64 r8_10), (V.bool r8_11), (V.int .i64 r8_12)])], σ⟩ (fun s' => denC E D W N (.keep [] [] [] cc1) s' (Fin107 E) (fun _ _ => none) (Fin107 E)) (blkK 0 (fun s' => denC E D W N (.keep [] [] [] cc1) s' (Fin107 E) (fun _ _ => none) (Fin107 E)) (fun _ _ => none)) (Fin107 E) =
  T107_2 E D W (fun  σ => denC E D W N cc1 ⟨[], [], [], σ⟩ (Fin107 E) (fun _ _ => none) (Fin107 E)) v0b v0o v81 r7_0 r7_1 r7_2 r7_3 r7_4 r7_5 r7_6 r7_7 r7_8 r7_9 r7_10 r7_11 r7_12 r8_0 r8_1 r8_2 r8_3 r8_4 r8_5 r8_6 r8_7 r8_8 r8_9 r8_10 r8_11 r8_12 σ := by kernel_rfl
def J107_1 (E : List (Nat × Blk)) (D : Den) (W : DrawFn) (N : Nat) : H → Ans := T107_1 E D W 
theorem JE107_1 (E : List (Nat × Blk)) (D : Den) (W : DrawFn) (N : Nat) (σ : H) :
  denC E D W N C107_1 ⟨[], [], [], σ⟩ (Fin107 E) (fun _ _ => none) (Fin107 E) = J107_1 E D W N  σ := by
  refine (P107_1 E D W N    σ).trans ?_
  kernel_rfl
def J107_2 (E : List (Nat × Blk)) (D : Den) (W : DrawFn) (N : Nat) : Nat → Nat → Bool → Int → V → Bool → Bool → Bool → Bool → Int → Int → V → V → Int → Bool → Int → Int → V → Bool → Bool → Bool → Bool → Int → Int → V → V → Int → Bool → Int → H → Ans := T107_2 E D W (J107_1 E D W N )
theorem JE107_2 (E : List (Nat × Blk)) (D : Den) (W : DrawFn) (N : Nat) (v0b : Nat) (v0o : Nat) (v81 : Bool) (r7_0 : Int) (r7_1 : V) (r7_2 : Bool) (r7_3 : Bool) (r7_4 : Bool) (r7_5 : Bool) (r7_6 : Int) (r7_7 : Int) (r7_8 : V) (r7_9 : V) (r7_10 : Int) (r7_11 : Bool) (r7_12 : Int) (r8_0 : Int) (r8_1 : V) (r8_2 : Bool) (r8_3 : Bool) (r8_4 : Bool) (r8_5 : Bool) (r8_6 : Int) (r8_7 : Int) (r8_8 : V) (r8_9 : V) (r8_10 : Int) (r8_11 : Bool) (r8_12 : Int) (σ : H) :
  denC E D W N C107_2 ⟨[(0, (V.ptr v0b v0o)), (81, (V.bool v81))], [(7, (7, 0)), (8, (8, 0))], [(7, [(V.int .i64 r7_0), r7_1, (V.bool r7_2), (V.bool r7_3), (V.bool r7_4), (V.bool r7_5), (V.int .i64 r7_6), (V.int .i64 r7_7), r7_8, r7_9, (V.int .i64 r7_10), (V.bool r7_11), (V.int .i64 r7_12)]), (8, [(V.int .i64 r8_0), r8_1, (V.bool r8_2), (V.bool r8_3), (V.bool r8_4), (V.bool r8_5), (V.int .i64 r8_6), (V.int .i64 r8_7), r8_8, r8_9, (V.int .i64 r8_10), (V.bool r8_11), (V.int .i64 r8_12)])], σ⟩ (fun s' => denC E D W N (.keep [] [] [] C107_1) s' (Fin107 E) (fun _ _ => none) (Fin107 E)) (blkK 0 (fun s' => denC E D W N (.keep [] [] [] C107_1) s' (Fin107 E) (fun _ _ => none) (Fin107 E)) (fun _ _ => none)) (Fin107 E) = J107_2 E D W N v0b v0o v81 r7_0 r7_1 r7_2 r7_3 r7_4 r7_5 r7_6 r7_7 r7_8 r7_9 r7_10 r7_11 r7_12 r8_0 r8_1 r8_2 r8_3 r8_4 r8_5 r8_6 r8_7 r8_8 r8_9 r8_10 r8_11 r8_12 σ := by
  refine (P107_2 E D W N C107_1  v0b v0o v81 r7_0 r7_1 r7_2 r7_3 r7_4 r7_5 r7_6 r7_7 r7_8 r7_9 r7_10 r7_11 r7_12 r8_0 r8_1 r8_2 r8_3 r8_4 r8_5 r8_6 r8_7 r8_8 r8_9 r8_10 r8_11 r8_12 σ).trans ?_
  simp only [JE107_1]
  kernel_rfl
def J107_0 (E : List (Nat × Blk)) (D : Den) (W : DrawFn) (N : Nat) : Nat → Nat → Int → Int → H → Ans := T107_0 E D W (J107_2 E D W N )
theorem JE107_0 (E : List (Nat × Blk)) (D : Den) (W : DrawFn) (N : Nat) (v0b : Nat) (v0o : Nat) (v1 : Int) (v2 : Int) (σ : H) :
  denC E D W N (C107_0 C107_1 C107_2) ⟨[(0, (V.ptr v0b v0o)), (1, (V.int .i64 v1)), (2, (V.int .i64 v2))], [], [], σ⟩ (Fin107 E) (fun _ _ => none) (Fin107 E) = J107_0 E D W N v0b v0o v1 v2 σ := by
  refine (P107_0 E D W N C107_1 C107_2  v0b v0o v1 v2 σ).trans ?_
  simp only [JE107_2]
  kernel_rfl
def F107 (E : List (Nat × Blk)) (D : Den) (W : DrawFn) (N : Nat) (args : List V) (σ : H) : Ans :=
 rtCons args fun x1 l2 =>
 rtPtr x1 fun b3 o4 =>
 rtCons l2 fun x5 l6 =>
 rtInt .i64 x5 fun x7 =>
 rtCons l6 fun x8 l9 =>
 rtInt .i64 x8 fun x10 =>
 rtNil l9 (
 J107_0 E D W N b3 o4 x7 x10 σ)
def A107 : XFn := ⟨89, [.ptr, (.int .i64), (.int .i64)], [(.tmp 6)], (C107_0 C107_1 C107_2)⟩
theorem FE107 (E : List (Nat × Blk)) (D : Den) (W : DrawFn) (N : Nat) (args : List V) (σ : H) : runX E D W N A107 args σ = F107 E D W N args σ := by
  unfold F107
  simp only [← JE107_0]
  kernel_rfl
theorem AO107 : A107.body.ok = true := by kernel_rfl

/-! ### F108: slices.Index___string_string_ -/
def Fin108 (E : List (Nat × Blk)) : St → Ans := fun s => resK E s [(.tmp 4)] fun l => some (oneV l, s.σ)
def C108_0 (cc1 : XC) (cc2 : XC) : XC := (.seq (.ops (.op (some 4) .any [] (.mov (.con (V.int .i64 (Int.ofNat 0)))) <|
 .nil))
 (.seq (.seq (.ops (.op (some 6) .any [0] (.mov (.tmp 0)) <|
 .op (some 7) .any [6] (.len false (.tmp 6)) <|
 .op (some 8) .any [] (.mov (.con (V.int .i64 (Int.ofNat 0)))) <|
 .nil))
 (.block 0 (.loop [(0, .any), (1, .str), (7, (.int .i64)), (8, (.int .i64))] [] [] cc2)))
 (.keep [] [] [] cc1)))
def T108_0 (E : List (Nat × Blk)) (D : Den) (W : DrawFn) (K2 : V → BS → Int → Int → H → Ans) (v0 : V) (v1 : BS) (σ : H) : Ans :=
 slenK v0 fun n1 =>
 K2 v0 v1 (Int.ofNat n1) (Int.ofNat 0) σ
def C108_1 : XC := (.seq (.ops (.op (some 4) .any [] (.mov (.con (V.int .i64 (Int.negSucc 0)))) <|
 .nil))
 .ret)
def T108_1 (E : List (Nat × Blk)) (D : Den) (W : DrawFn) (σ : H) : Ans :=
 some ((V.int .i64 (Int.negSucc 0)), σ)
def C108_2 : XC := (.seq (.ops (.op (some 9) .any [8, 7] (.bin .lss .none (.tmp 8) (.tmp 7)) <|
 .nil))
 (.seq (.cond (.tmp 9) .skip
 (.exit 0))
 (.seq (.block 1 (.seq (.ops (.op (some 10) .any [8] (.mov (.tmp 8)) <|
 .op (some 5) .any [10] (.mov (.tmp 10)) <|
 .nil))
 (.seq (.ops (.op (some 11) .any [1] (.mov (.tmp 1)) <|
 .op (some 12) .any [0] (.mov (.tmp 0)) <|
 .op (some 13) .any [5] (.mov (.tmp 5)) <|
 .op (some 14) .any [12, 13] (.iaddrS 1 (.tmp 12) (.tmp 13)) <|
 .op (some 15) .str [14] (.load none (.tmp 14)) <|
 .op (some 16) .any [11, 15] (.bin .eql .none (.tmp 11) (.tmp 15)) <|
 .nil))
 (.cond (.tmp 16) (.seq (.ops (.op (some 17) .any [5] (.mov (.tmp 5)) <|
 .op (some 4) .any [17] (.mov (.tmp 17)) <|
 .nil))
 .ret)
 .skip))))
 (.ops (.op (some 18) .any [8] (.bin .add .none (.tmp 8) (.con (V.int .i64 (Int.ofNat 1)))) <|
 .op (some 8) .any [18] (.mov (.tmp 18)) <|
 .nil)))))
def T108_2 (E : List (Nat × Blk)) (D : Den) (W : DrawFn) (K1 : H → Ans) (R2 : V → BS → Int → Int → H → Ans) (v0 : V) (v1 : BS) (v7 : Int) (v8 : Int) (σ : H) : Ans :=
 condK (ltF v8 v7) (
 iaddrSK 1 v0 v8 fun b1 o2 =>
 ldK E σ b1 o2 fun u3 =>
 rtStr u3 fun x4 =>
 condK (BS.beq v1 x4) (
 some ((V.int .i64 v8), σ)) (
 R2 v0 v1 v7 (addF .i64 v8 (Int.ofNat 1)) σ)) (
 K1 σ)
theorem P108_0 (E : List (Nat × Blk)) (D : Den) (W : DrawFn) (N : Nat) (cc1 : XC) (cc2 : XC) (v0 : V) (v1 : BS) (σ : H) :
  denC E D W N (C108_0 cc1 cc2) ⟨[(0, v0), (1, (V.str v1))], [], [], σ⟩ (Fin108 E) (fun _ _ => none) (Fin108 E) =
  T108_0 E D W (fun v0 v1 v7 v8 σ => iterK (fun rec s' => denC E D W N cc2 s' (fun s'' => keepS [(0, .any), (1, .str), (7, (.int .i64)), (8, (.int .i64))] [] [] s'' rec) (blkK 0 (fun s' => denC E D W N (.keep [] [] [] cc1) s' (Fin108 E) (fun _ _ => none) (Fin108 E)) (fun _ _ => none)) (Fin108 E)) N ⟨[(0, v0), (1, (V.str v1)), (7, (V.int .i64 v7)), (8, (V.int .i64 v8))], [], [], σ⟩) v0 v1 σ := by kernel_rfl
theorem P108_1 (E : List (Nat × Blk)) (D : Den) (W : DrawFn) (N : Nat) (σ : H) :
  denC E D W N (C108_1 ) ⟨[], [], [], σ⟩ (Fin108 E) (fun _ _ => none) (Fin108 E) =
  T108_1 E D W   σ := by kernel_rfl
theorem P108_2 (E : List (Nat × Blk)) (D : Den) (W : DrawFn) (N : Nat) (cc1 : XC) (li2 : St → Ans) (v0 : V) (v1 : BS) (v7 : Int) (v8 : Int) (σ : H) :
  denC E D W N (C108_2 ) ⟨[(0, v0), (1, (V.str v1)), (7, (V.int .i64 v7)), (8, (V.int .i64 v8))], [], [], σ⟩ (fun s'' => keepS [(0, .any), (1, .str), (7, (.int .i64)), (8, (.int .i64))] [] [] s'' li2) (blkK 0 (fun s' => denC E D W N (.keep [] [] [] cc1) s' (Fin108 E) (fun _ _ => none) (Fin108 E)) (fun _ _ => none)) (Fin108 E) =
  T108_2 E D W (fun  σ => denC E D W N cc1 ⟨[], [], [], σ⟩ (Fin108 E) (fun _ _ => none) (Fin108 E)) (fun v0 v1 v7 v8 σ => li2 ⟨[(0, v0), (1, (V.str v1)), (7, (V.int .i64 v7)), (8, (V.int .i64 v8))], [], [], σ⟩) v0 v1 v7 v8 σ := by kernel_rfl
def J108_1 (E : List (Nat × Blk)) (D : Den) (W : DrawFn) (N : Nat) : H → Ans := T108_1 E D W 
theorem JE108_1 (E : List (Nat × Blk)) (D : Den) (W : DrawFn) (N : Nat) (σ : H) :
  denC E D W N C108_1 ⟨[], [], [], σ⟩ (Fin108 E) (fun _ _ => none) (Fin108 E) = J108_1 E D W N  σ := by
  refine (P108_1 E D W N    σ).trans ?_
  kernel_rfl
def L108_2 (E : List (Nat × Blk)) (D : Den) (W : DrawFn) (N : Nat) (n : Nat) : V → BS → Int → Int → H → Ans :=
  Nat.rec (fun _ _ _ _ _ => none) (fun _ ih => T108_2 E D W (J108_1 E D W N ) ih) n
theorem LE108_2 (E : List (Nat × Blk)) (D : Den) (W : DrawFn) (N : Nat) (n : Nat) : ∀ (v0 : V) (v1 : BS) (v7 : Int) (v8 : Int) (σ : H),
  iterK (fun rec s' => denC E D W N C108_2 s' (fun s'' => keepS [(0, .any), (1, .str), (7, (.int .i64)), (8, (.int .i64))] [] [] s'' rec) (blkK 0 (fun s' => denC E D W N (.keep [] [] [] C108_1) s' (Fin108 E) (fun _ _ => none) (Fin108 E)) (fun _ _ => none)) (Fin108 E)) n ⟨[(0, v0), (1, (V.str v1)), (7, (V.int .i64 v7)), (8, (V.int .i64 v8))], [], [], σ⟩ = L108_2 E D W N n v0 v1 v7 v8 σ := by
  induction n with
  | zero => intro v0 v1 v7 v8 σ; rfl
  | succ n ihn =>
    intro v0 v1 v7 v8 σ
    rw [iterK_succ]
    refine (P108_2 E D W N C108_1 (iterK (fun rec s' => denC E D W N C108_2 s' (fun s'' => keepS [(0, .any), (1, .str), (7, (.int .i64)), (8, (.int .i64))] [] [] s'' rec) (blkK 0 (fun s' => denC E D W N (.keep [] [] [] C108_1) s' (Fin108 E) (fun _ _ => none) (Fin108 E)) (fun _ _ => none)) (Fin108 E)) n) v0 v1 v7 v8 σ).trans ?_
    simp only [ihn, JE108_1]
    kernel_rfl
def J108_0 (E : List (Nat × Blk)) (D : Den) (W : DrawFn) (N : Nat) : V → BS → H → Ans := T108_0 E D W (L108_2 E D W N N)
theorem JE108_0 (E : List (Nat × Blk)) (D : Den) (W : DrawFn) (N : Nat) (v0 : V) (v1 : BS) (σ : H) :
  denC E D W N (C108_0 C108_1 C108_2) ⟨[(0, v0), (1, (V.str v1))], [], [], σ⟩ (Fin108 E) (fun _ _ => none) (Fin108 E) = J108_0 E D W N v0 v1 σ := by
  refine (P108_0 E D W N C108_1 C108_2  v0 v1 σ).trans ?_
  simp only [LE108_2]
  kernel_rfl
def F108 (E : List (Nat × Blk)) (D : Den) (W : DrawFn) (N : Nat) (args : List V) (σ : H) : Ans :=
 rtCons args fun x1 l2 =>
 rtCons l2 fun x3 l4 =>
 rtStr x3 fun x5 =>
 rtNil l4 (
 J108_0 E D W N x1 x5 σ)
def A108 : XFn := ⟨19, [.any, .str], [(.tmp 4)], (C108_0 C108_1 C108_2)⟩
theorem FE108 (E : List (Nat × Blk)) (D : Den) (W : DrawFn) (N : Nat) (args : List V) (σ : H) : runX E D W N A108 args σ = F108 E D W N args σ := by
  unfold F108
  simp only [← JE108_0]
  kernel_rfl
theorem AO108 : A108.body.ok = true := by kernel_rfl

/-! ### F115: __ogham_lex.reader_.peek -/
def Fin115 (E : List (Nat × Blk)) : St → Ans := fun s => resK E s [(.tmp 4)] fun l => some (oneV l, s.σ)
def C115_0 : XC := (.seq (.ops (.op (some 4) .any [] (.mov (.con (V.int .u8 (Int.ofNat 0)))) <|
 .nil))
 (.seq (.seq (.draw (.op (some 5) .any [0] (.mov (.tmp 0)) <|
 .op (some 6) .any [5] (.nilck (.tmp 5)) <|
 .op (some 7) .any [6] (.faddr 1 (.tmp 6)) <|
 .op (some 8) (.int .i64) [7] (.load none (.tmp 7)) <|
 .op (some 9) .any [1] (.mov (.tmp 1)) <|
 .op (some 10) .any [8, 9] (.bin .add .none (.tmp 8) (.tmp 9)) <|
 .op (some 11) .any [0] (.mov (.tmp 0)) <|
 .op (some 12) .any [11] (.nilck (.tmp 11)) <|
 .op (some 13) .any [12] (.faddr 0 (.tmp 12)) <|
 .op (some 14) .str [13] (.load none (.tmp 13)) <|
 .op (some 15) .any [14] (.len true (.tmp 14)) <|
 .op (some 16) .any [10, 15] (.bin .geq .none (.tmp 10) (.tmp 15)) <|
 .nil) [0, 1, 3, 7, 0, 31, 0, 64, 192, 448, 960, 2047])
 (.cond (.tmp 16) (.seq (.ops (.op (some 4) .any [] (.mov (.con (V.int .u8 (Int.ofNat 0)))) <|
 .nil))
 .ret)
 .skip))
 (.seq (.draw (.op (some 17) .any [0] (.mov (.tmp 0)) <|
 .op (some 18) .any [17] (.nilck (.tmp 17)) <|
 .op (some 19) .any [18] (.faddr 0 (.tmp 18)) <|
 .op (some 20) .str [19] (.load none (.tmp 19)) <|
 .op (some 21) .any [0] (.mov (.tmp 0)) <|
 .op (some 22) .any [21] (.nilck (.tmp 21)) <|
 .op (some 23) .any [22] (.faddr 1 (.tmp 22)) <|
 .op (some 24) (.int .i64) [23] (.load none (.tmp 23)) <|
 .op (some 25) .any [1] (.mov (.tmp 1)) <|
 .op (some 26) .any [24, 25] (.bin .add .none (.tmp 24) (.tmp 25)) <|
 .op (some 27) .any [20, 26] (.idxStr (.tmp 20) (.tmp 26)) <|
 .op (some 4) .any [27] (.mov (.tmp 27)) <|
 .nil) [0, 1, 3, 7, 0, 16, 48, 112, 0, 496, 1023, 2047])
 .ret)))
def T115_0 (E : List (Nat × Blk)) (D : Den) (W : DrawFn) (v0b : Nat) (v0o : Nat) (v1 : Int) (σ : H) : Ans :=
 ldK E σ v0b (Nat.add v0o 1) fun u1 =>
 rtInt .i64 u1 fun x2 =>
 ldK E σ v0b v0o fun u3 =>
 rtStr u3 fun x4 =>
 condK (leF (Int.ofNat (BS.len x4)) (addF .i64 x2 v1)) (
 some ((V.int .u8 (Int.ofNat 0)), σ)) (
 ldK E σ v0b v0o fun u5 =>
 rtStr u5 fun x6 =>
 ldK E σ v0b (Nat.add v0o 1) fun u7 =>
 rtInt .i64 u7 fun x8 =>
 idxStrX x6 (addF .i64 x8 v1) fun x9 =>
 some ((V.int .u8 x9), σ))
theorem P115_0 (E : List (Nat × Blk)) (D : Den) (W : DrawFn) (N : Nat) (v0b : Nat) (v0o : Nat) (v1 : Int) (σ : H) :
  denC E D W N (C115_0 ) ⟨[(0, (V.ptr v0b v0o)), (1, (V.int .i64 v1))], [], [], σ⟩ (Fin115 E) (fun _ _ => none) (Fin115 E) =
  T115_0 E D W  v0b v0o v1 σ := by kernel_rfl
def J115_0 (E : List (Nat × Blk)) (D : Den) (W : DrawFn) (N : Nat) : Nat → Nat → Int → H → Ans := T115_0 E D W 
theorem JE115_0 (E : List (Nat × Blk)) (D : Den) (W : DrawFn) (N : Nat) (v0b : Nat) (v0o : Nat) (v1 : Int) (σ : H) :
  denC E D W N C115_0 ⟨[(0, (V.ptr v0b v0o)), (1, (V.int .i64 v1))], [], [], σ⟩ (Fin115 E) (fun _ _ => none) (Fin115 E) = J115_0 E D W N v0b v0o v1 σ := by
  refine (P115_0 E D W N   v0b v0o v1 σ).trans ?_
  kernel_rfl
def F115 (E : List (Nat × Blk)) (D : Den) (W : DrawFn) (N : Nat) (args : List V) (σ : H) : Ans :=
 rtCons args fun x1 l2 =>
 rtPtr x1 fun b3 o4 =>
 rtCons l2 fun x5 l6 =>
 rtInt .i64 x5 fun x7 =>
 rtNil l6 (
 J115_0 E D W N b3 o4 x7 σ)
def A115 : XFn := ⟨28, [.ptr, (.int .i64)], [(.tmp 4)], C115_0⟩
theorem FE115 (E : List (Nat × Blk)) (D : Den) (W : DrawFn) (N : Nat) (args : List V) (σ : H) : runX E D W N A115 args σ = F115 E D W N args σ := by
  unfold F115
  simp only [← JE115_0]
  kernel_rfl
theorem AO115 : A115.body.ok = true := by kernel_rfl

/-! ### F116: __ogham_lex.reader_.ahead -/
def Fin116 (E : List (Nat × Blk)) : St → Ans := fun s => resK E s [(.tmp 4)] fun l => some (oneV l, s.σ)
def C116_0 : XC := (.seq (.ops (.op (some 4) .any [] (.mov (.con (V.bool false))) <|
 .nil))
 (.seq (.draw (.op (some 5) .any [0] (.mov (.tmp 0)) <|
 .op (some 6) .any [5] (.nilck (.tmp 5)) <|
 .op (some 7) .any [6] (.faddr 0 (.tmp 6)) <|
 .op (some 8) .str [7] (.load none (.tmp 7)) <|
 .op (some 9) .any [0] (.mov (.tmp 0)) <|
 .op (some 10) .any [9] (.nilck (.tmp 9)) <|
 .op (some 11) .any [10] (.faddr 1 (.tmp 10)) <|
 .op (some 12) (.int .i64) [11] (.load none (.tmp 11)) <|
 .op (some 13) .any [8, 12] (.sliceStr (.tmp 8) (some (.tmp 12)) none) <|
 .op (some 14) .any [1] (.mov (.tmp 1)) <|
 .op (some 15) .bool [13, 14] (.call 150 [(.tmp 13), (.tmp 14)]) <|
 .op (some 4) .any [15] (.mov (.tmp 15)) <|
 .nil) [0, 1, 3, 7, 0, 16, 48, 112, 255, 0, 1023, 2047])
 .ret))
def T116_0 (E : List (Nat × Blk)) (D : Den) (W : DrawFn) (v0b : Nat) (v0o : Nat) (v1 : BS) (σ : H) : Ans :=
 ldK E σ v0b v0o fun u1 =>
 rtStr u1 fun x2 =>
 ldK E σ v0b (Nat.add v0o 1) fun u3 =>
 rtInt .i64 u3 fun x4 =>
 sliceStrX x2 (some (V.int .i64 x4)) none fun t5 =>
 callK (D 150 [(V.str t5), (V.str v1)] σ) fun u6 s7 =>
 rtBool u6 fun x8 =>
 some ((V.bool x8), s7)
theorem P116_0 (E : List (Nat × Blk)) (D : Den) (W : DrawFn) (N : Nat) (v0b : Nat) (v0o : Nat) (v1 : BS) (σ : H) :
  denC E D W N (C116_0 ) ⟨[(0, (V.ptr v0b v0o)), (1, (V.str v1))], [], [], σ⟩ (Fin116 E) (fun _ _ => none) (Fin116 E) =
  T116_0 E D W  v0b v0o v1 σ := by kernel_rfl
def J116_0 (E : List (Nat × Blk)) (D : Den) (W : DrawFn) (N : Nat) : Nat → Nat → BS → H → Ans := T116_0 E D W 
theorem JE116_0 (E : List (Nat × Blk)) (D : Den) (W : DrawFn) (N : Nat) (v0b : Nat) (v0o : Nat) (v1 : BS) (σ : H) :
  denC E D W N C116_0 ⟨[(0, (V.ptr v0b v0o)), (1, (V.str v1))], [], [], σ⟩ (Fin116 E) (fun _ _ => none) (Fin116 E) = J116_0 E D W N v0b v0o v1 σ := by
  refine (P116_0 E D W N   v0b v0o v1 σ).trans ?_
  kernel_rfl
def F116 (E : List (Nat × Blk)) (D : Den) (W : DrawFn) (N : Nat) (args : List V) (σ : H) : Ans :=
 rtCons args fun x1 l2 =>
 rtPtr x1 fun b3 o4 =>
 rtCons l2 fun x5 l6 =>
 rtStr x5 fun x7 =>
 rtNil l6 (
 J116_0 E D W N b3 o4 x7 σ)
def A116 : XFn := ⟨16, [.ptr, .str], [(.tmp 4)], C116_0⟩
theorem FE116 (E : List (Nat × Blk)) (D : Den) (W : DrawFn) (N : Nat) (args : List V) (σ : H) : runX E D W N A116 args σ = F116 E D W N args σ := by
  unfold F116
  simp only [← JE116_0]
  kernel_rfl
theorem AO116 : A116.body.ok = true := by kernel_rfl

/-! ### F117: ogham_lex.letter -/
def Fin117 (E : List (Nat × Blk)) : St → Ans := fun s => resK E s [(.tmp 2)] fun l => some (oneV l, s.σ)
def C117_0 : XC := (.seq (.ops (.op (some 2) .any [] (.mov (.con (V.bool false))) <|
 .nil))
 (.seq (.ops (.op (some 3) .any [0] (.mov (.tmp 0)) <|
 .op (some 4) .any [3] (.bin .geq .none (.tmp 3) (.con (V.int .u8 (Int.ofNat 97)))) <|
 .op (some 5) .any [4] (.mov (.tmp 4)) <|
 .grp 5 true (.op (some 6) .any [0, 5] (.mov (.tmp 0)) <|
 .op (some 7) .any [6, 5] (.bin .leq .none (.tmp 6) (.con (V.int .u8 (Int.ofNat 122)))) <|
 .nil) 8 [5, 7] (.tmp 5) (.tmp 7) (.con (V.bool false)) <|
 .op (some 9) .any [8] (.mov (.tmp 8)) <|
 .grp 9 false (.op (some 10) .any [0, 9] (.mov (.tmp 0)) <|
 .op (some 11) .any [10, 9] (.bin .geq .none (.tmp 10) (.con (V.int .u8 (Int.ofNat 65)))) <|
 .op (some 12) .any [11, 9] (.mov (.tmp 11)) <|
 .grp 12 true (.op (some 13) .any [0, 12] (.mov (.tmp 0)) <|
 .op (some 14) .any [13, 12] (.bin .leq .none (.tmp 13) (.con (V.int .u8 (Int.ofNat 90)))) <|
 .nil) 15 [12, 14, 9] (.tmp 12) (.tmp 14) (.con (V.bool false)) <|
 .nil) 16 [9, 15] (.tmp 9) (.con (V.bool true)) (.tmp 15) <|
 .op (some 2) .any [16] (.mov (.tmp 16)) <|
 .nil))
 .ret))
def T117_0 (E : List (Nat × Blk)) (D : Den) (W : DrawFn) (v0 : Int) (σ : H) : Ans :=
 joinB (fun c1 s2 =>
 joinB (fun c4 s5 =>
 some ((V.bool c4), s5)) fun k6 =>
 condK c1 (
 k6 true s2) (
 joinB (fun c7 s8 =>
 k6 c7 s8) fun k9 =>
 condK (leF (Int.ofNat 65) v0) (
 k9 (leF v0 (Int.ofNat 90)) s2) (
 k9 false s2))) fun k3 =>
 condK (leF (Int.ofNat 97) v0) (
 k3 (leF v0 (Int.ofNat 122)) σ) (
 k3 false σ)
theorem P117_0 (E : List (Nat × Blk)) (D : Den) (W : DrawFn) (N : Nat) (v0 : Int) (σ : H) :
  denC E D W N (C117_0 ) ⟨[(0, (V.int .u8 v0))], [], [], σ⟩ (Fin117 E) (fun _ _ => none) (Fin117 E) =
  T117_0 E D W  v0 σ := by kernel_rfl
def J117_0 (E : List (Nat × Blk)) (D : Den) (W : DrawFn) (N : Nat) : Int → H → Ans := T117_0 E D W 
theorem JE117_0 (E : List (Nat × Blk)) (D : Den) (W : DrawFn) (N : Nat) (v0 : Int) (σ : H) :
  denC E D W N C117_0 ⟨[(0, (V.int .u8 v0))], [], [], σ⟩ (Fin117 E) (fun _ _ => none) (Fin117 E) = J117_0 E D W N v0 σ := by
  refine (P117_0 E D W N   v0 σ).trans ?_
  kernel_rfl
def F117 (E : List (Nat × Blk)) (D : Den) (W : DrawFn) (N : Nat) (args : List V) (σ : H) : Ans :=
 rtCons args fun x1 l2 =>
 rtInt .u8 x1 fun x3 =>
 rtNil l2 (
 J117_0 E D W N x3 σ)
def A117 : XFn := ⟨17, [(.int .u8)], [(.tmp 2)], C117_0⟩
theorem FE117 (E : List (Nat × Blk)) (D : Den) (W : DrawFn) (N : Nat) (args : List V) (σ : H) : runX E D W N A117 args σ = F117 E D W N args σ := by
  unfold F117
  simp only [← JE117_0]
  kernel_rfl
theorem AO117 : A117.body.ok = true := by kernel_rfl

/-! ### F118: __ogham_lex.lexer_.name -/
def Fin118 (E : List (Nat × Blk)) : St → Ans := fun s => resK E s [(.tmp 2), (.tmp 3)] fun l => some (oneV l, s.σ)
def C118_0 (cc1 : XC) (cc2 : XC) : XC := (.seq (.ops (.op (some 2) .any [] (.mov (.con (V.int .i64 (Int.ofNat 0)))) <|
 .op (some 3) .any [] (.mov (.con (V.str ⟨0, 0⟩))) <|
 .nil))
 (.seq (.ops (.op (some 7) .any [0] (.mov (.tmp 0)) <|
 .op (some 8) .any [7] (.nilck (.tmp 7)) <|
 .op (some 9) .any [8] (.faddr 0 (.tmp 8)) <|
 .op (some 10) .any [9] (.faddr 1 (.tmp 9)) <|
 .op (some 11) (.int .i64) [10] (.load none (.tmp 10)) <|
 .op (some 4) .any [11] (.mov (.tmp 11)) <|
 .nil))
 (.seq (.seq (.ops (.op (some 12) .any [0] (.mov (.tmp 0)) <|
 .op (some 13) .any [12] (.nilck (.tmp 12)) <|
 .op (some 14) .any [13] (.faddr 0 (.tmp 13)) <|
 .op (some 15) (.int .u8) [14] (.call 115 [(.tmp 14), (.con (V.int .i64 (Int.ofNat 0)))]) <|
 .op (some 5) .any [15] (.mov (.tmp 15)) <|
 .nil))
 (.block 0 (.loop [(0, .ptr), (4, (.int .i64)), (5, (.int .u8))] [] [] cc2)))
 (.keep [(0, .ptr), (4, (.int .i64))] [] [] cc1))))
def T118_0 (E : List (Nat × Blk)) (D : Den) (W : DrawFn) (K2 : Nat → Nat → Int → Int → H → Ans) (v0b : Nat) (v0o : Nat) (σ : H) : Ans :=
 ldK E σ v0b (Nat.add v0o 1) fun u1 =>
 rtInt .i64 u1 fun x2 =>
 callK (D 115 [(V.ptr v0b v0o), (V.int .i64 (Int.ofNat 0))] σ) fun u3 s4 =>
 rtInt .u8 u3 fun x5 =>
 K2 v0b v0o x2 x5 s4
def C118_1 : XC := (.seq (.draw (.op (some 46) .any [0] (.mov (.tmp 0)) <|
 .op (some 47) .any [46] (.nilck (.tmp 46)) <|
 .op (some 48) .any [47] (.faddr 0 (.tmp 47)) <|
 .op (some 49) .any [48] (.faddr 0 (.tmp 48)) <|
 .op (some 50) .str [49] (.load none (.tmp 49)) <|
 .op (some 51) .any [4] (.mov (.tmp 4)) <|
 .op (some 52) .any [0] (.mov (.tmp 0)) <|
 .op (some 53) .any [52] (.nilck (.tmp 52)) <|
 .op (some 54) .any [53] (.faddr 0 (.tmp 53)) <|
 .op (some 55) .any [54] (.faddr 1 (.tmp 54)) <|
 .op (some 56) (.int .i64) [55] (.load none (.tmp 55)) <|
 .op (some 57) .any [50, 51, 56] (.sliceStr (.tmp 50) (some (.tmp 51)) (some (.tmp 56))) <|
 .op (some 6) .any [57] (.mov (.tmp 57)) <|
 .nil) [0, 1, 3, 7, 15, 0, 0, 64, 192, 448, 960, 2047, 4095])
 (.seq (.block 2 (.seq (.ops (.op (some 59) .any [6] (.mov (.tmp 6)) <|
 .op (some 60) .any [59] (.len true (.tmp 59)) <|
 .op (some 61) .any [60] (.bin .gtr .none (.tmp 60) (.con (V.int .i64 (Int.ofNat 60)))) <|
 .op (some 62) .any [61] (.mov (.tmp 61)) <|
 .grp 62 false (.op (some 63) .any [6, 62] (.mov (.tmp 6)) <|
 .op (some 64) .any [6, 62] (.mov (.tmp 6)) <|
 .op (some 65) .any [64, 62] (.len true (.tmp 64)) <|
 .op (some 66) .any [65, 62] (.bin .sub .none (.tmp 65) (.con (V.int .i64 (Int.ofNat 1)))) <|
 .op (some 67) .any [63, 66, 62] (.idxStr (.tmp 63) (.tmp 66)) <|
 .op (some 68) .any [67, 62] (.bin .eql .none (.tmp 67) (.con (V.int .u8 (Int.ofNat 45)))) <|
 .nil) 69 [62, 68] (.tmp 62) (.con (V.bool true)) (.tmp 68) <|
 .op (some 58) .any [69] (.mov (.tmp 69)) <|
 .nil))
 (.cond (.tmp 58) (.seq (.ops (.op (some 2) .any [] (.mov (.con (V.int .i64 (Int.ofNat 0)))) <|
 .op (some 3) .any [] (.mov (.con (V.str ⟨0, 0⟩))) <|
 .nil))
 .ret)
 (.seq (.ops (.op (some 71) .any [6] (.mov (.tmp 6)) <|
 .op (some 72) .bool [71] (.call 151 [(.tmp 71)]) <|
 .op (some 70) .any [72] (.mov (.tmp 72)) <|
 .nil))
 (.cond (.tmp 70) (.seq (.ops (.op (some 73) .any [6] (.mov (.tmp 6)) <|
 .op (some 2) .any [] (.mov (.con (V.int .i64 (Int.ofNat 5)))) <|
 .op (some 3) .any [73] (.mov (.tmp 73)) <|
 .nil))
 .ret)
 (.seq (.ops (.op (some 75) .any [6] (.mov (.tmp 6)) <|
 .op (some 76) .any [75] (.idxStr (.tmp 75) (.con (V.int .i64 (Int.ofNat 0)))) <|
 .op (some 77) .any [76] (.bin .leq .none (.tmp 76) (.con (V.int .u8 (Int.ofNat 90)))) <|
 .op (some 74) .any [77] (.mov (.tmp 77)) <|
 .nil))
 (.cond (.tmp 74) (.seq (.ops (.op (some 78) .any [6] (.mov (.tmp 6)) <|
 .op (some 2) .any [] (.mov (.con (V.int .i64 (Int.ofNat 1)))) <|
 .op (some 3) .any [78] (.mov (.tmp 78)) <|
 .nil))
 .ret)
 .skip)))))))
 (.seq (.ops (.op (some 79) .any [6] (.mov (.tmp 6)) <|
 .op (some 2) .any [] (.mov (.con (V.int .i64 (Int.ofNat 2)))) <|
 .op (some 3) .any [79] (.mov (.tmp 79)) <|
 .nil))
 .ret)))
def T118_1 (E : List (Nat × Blk)) (D : Den) (W : DrawFn) (v0b : Nat) (v0o : Nat) (v4 : Int) (σ : H) : Ans :=
 ldK E σ v0b v0o fun u1 =>
 rtStr u1 fun x2 =>
 ldK E σ v0b (Nat.add v0o 1) fun u3 =>
 rtInt .i64 u3 fun x4 =>
 sliceStrX x2 (some (V.int .i64 v4)) (some (V.int .i64 x4)) fun t5 =>
 joinB (fun c6 s7 =>
 condK c6 (
 some ((V.tup [(V.int .i64 (Int.ofNat 0)), (V.str (BS.mk 0 0))]), s7)) (
 callK (D 151 [(V.str t5)] s7) fun u9 s10 =>
 rtBool u9 fun x11 =>
 condK x11 (
 some ((V.tup [(V.int .i64 (Int.ofNat 5)), (V.str t5)]), s10)) (
 idxStrX t5 (Int.ofNat 0) fun x12 =>
 condK (leF x12 (Int.ofNat 90)) (
 some ((V.tup [(V.int .i64 (Int.ofNat 1)), (V.str t5)]), s10)) (
 some ((V.tup [(V.int .i64 (Int.ofNat 2)), (V.str t5)]), s10))))) fun k8 =>
 condK (ltF (Int.ofNat 60) (Int.ofNat (BS.len t5))) (
 k8 true σ) (
 idxStrX t5 (subF .i64 (Int.ofNat (BS.len t5)) (Int.ofNat 1)) fun x13 =>
 k8 (eqF x13 (Int.ofNat 45)) σ)
def C118_2 : XC := (.seq (.seq (.ops (.op (some 16) .any [5] (.mov (.tmp 5)) <|
 .op (some 17) .bool [16] (.call 117 [(.tmp 16)]) <|
 .op (some 18) .any [17] (.mov (.tmp 17)) <|
 .grp 18 false (.op (some 19) .any [5, 18] (.mov (.tmp 5)) <|
 .op (some 20) .bool [19, 18] (.call 119 [(.tmp 19)]) <|
 .nil) 21 [18, 20] (.tmp 18) (.con (V.bool true)) (.tmp 20) <|
 .op (some 22) .any [21] (.mov (.tmp 21)) <|
 .grp 22 false (.op (some 23) .any [5, 22] (.mov (.tmp 5)) <|
 .op (some 24) .any [23, 22] (.bin .eql .none (.tmp 23) (.con (V.int .u8 (Int.ofNat 45)))) <|
 .op (some 25) .any [24, 22] (.mov (.tmp 24)) <|
 .grp 25 true (.op (some 26) .any [0, 25] (.mov (.tmp 0)) <|
 .op (some 27) .any [26, 25] (.nilck (.tmp 26)) <|
 .op (some 28) .any [27, 25] (.faddr 0 (.tmp 27)) <|
 .op (some 29) (.int .u8) [28, 25] (.call 115 [(.tmp 28), (.con (V.int .i64 (Int.ofNat 1)))]) <|
 .op (some 30) .any [29, 25] (.bin .neq .none (.tmp 29) (.con (V.int .u8 (Int.ofNat 45)))) <|
 .nil) 31 [25, 30, 22] (.tmp 25) (.tmp 30) (.con (V.bool false)) <|
 .nil) 32 [22, 31] (.tmp 22) (.con (V.bool true)) (.tmp 31) <|
 .nil))
 (.cond (.tmp 32) .skip
 (.exit 0)))
 (.seq (.block 1 (.ops (.op (some 37) .any [0] (.mov (.tmp 0)) <|
 .op (some 38) .any [37] (.nilck (.tmp 37)) <|
 .op (some 39) .any [38] (.faddr 0 (.tmp 38)) <|
 .op (some 40) .any [39] (.faddr 1 (.tmp 39)) <|
 .op (some 41) (.int .i64) [40] (.load none (.tmp 40)) <|
 .op (some 42) .any [41] (.bin .add .none (.tmp 41) (.con (V.int .i64 (Int.ofNat 1)))) <|
 .op (some 43) .any [37] (.nilck (.tmp 37)) <|
 .op (some 44) .any [43] (.faddr 0 (.tmp 43)) <|
 .op (some 45) .any [44] (.faddr 1 (.tmp 44)) <|
 .op none .any [45, 42] (.store 1 (.tmp 45) (.tmp 42)) <|
 .nil)))
 (.ops (.op (some 33) .any [0] (.mov (.tmp 0)) <|
 .op (some 34) .any [33] (.nilck (.tmp 33)) <|
 .op (some 35) .any [34] (.faddr 0 (.tmp 34)) <|
 .op (some 36) (.int .u8) [35] (.call 115 [(.tmp 35), (.con (V.int .i64 (Int.ofNat 0)))]) <|
 .op (some 5) .any [36] (.mov (.tmp 36)) <|
 .nil))))
def T118_2 (E : List (Nat × Blk)) (D : Den) (W : DrawFn) (K1 : Nat → Nat → Int → H → Ans) (R2 : Nat → Nat → Int → Int → H → Ans) (v0b : Nat) (v0o : Nat) (v4 : Int) (v5 : Int) (σ : H) : Ans :=
 callK (D 117 [(V.int .u8 v5)] σ) fun u1 s2 =>
 rtBool u1 fun x3 =>
 joinB (fun c4 s5 =>
 joinB (fun c7 s8 =>
 condK c7 (
 ldK E s8 v0b (Nat.add v0o 1) fun u10 =>
 rtInt .i64 u10 fun x11 =>
 stK 1 v0b (Nat.add v0o 1) (V.int .i64 (addF .i64 x11 (Int.ofNat 1))) s8 fun s12 =>
 callK (D 115 [(V.ptr v0b v0o), (V.int .i64 (Int.ofNat 0))] s12) fun u13 s14 =>
 rtInt .u8 u13 fun x15 =>
 R2 v0b v0o v4 x15 s14) (
 K1 v0b v0o v4 s8)) fun k9 =>
 condK c4 (
 k9 true s5) (
 joinB (fun c16 s17 =>
 k9 c16 s17) fun k18 =>
 condK (eqF v5 (Int.ofNat 45)) (
 callK (D 115 [(V.ptr v0b v0o), (V.int .i64 (Int.ofNat 1))] s5) fun u19 s20 =>
 rtInt .u8 u19 fun x21 =>
 k18 (not (eqF x21 (Int.ofNat 45))) s20) (
 k18 false s5))) fun k6 =>
 condK x3 (
 k6 true s2) (
 callK (D 119 [(V.int .u8 v5)] s2) fun u22 s23 =>
 rtBool u22 fun x24 =>
 k6 x24 s23)
theorem P118_0 (E : List (Nat × Blk)) (D : Den) (W : DrawFn) (N : Nat) (cc1 : XC) (cc2 : XC) (v0b : Nat) (v0o : Nat) (σ : H) :
  denC E D W N (C118_0 cc1 cc2) ⟨[(0, (V.ptr v0b v0o))], [], [], σ⟩ (Fin118 E) (fun _ _ => none) (Fin118 E) =
  T118_0 E D W (fun v0b v0o v4 v5 σ => iterK (fun rec s' => denC E D W N cc2 s' (fun s'' => keepS [(0, .ptr), (4, (.int .i64)), (5, (.int .u8))] [] [] s'' rec) (blkK 0 (fun s' => denC E D W N (.keep [(0, .ptr), (4, (.int .i64))] [] [] cc1) s' (Fin118 E) (fun _ _ => none) (Fin118 E)) (fun _ _ => none)) (Fin118 E)) N ⟨[(0, (V.ptr v0b v0o)), (4, (V.int .i64 v4)), (5, (V.int .u8 v5))], [], [], σ⟩) v0b v0o σ := by kernel_rfl
theorem P118_1 (E : List (Nat × Blk)) (D : Den) (W : DrawFn) (N : Nat) (v0b : Nat) (v0o : Nat) (v4 : Int) (σ : H) :
  denC E D W N (C118_1 ) ⟨[(0, (V.ptr v0b v0o)), (4, (V.int .i64 v4))], [], [], σ⟩ (Fin118 E) (fun _ _ => none) (Fin118 E) =
  T118_1 E D W  v0b v0o v4 σ := by kernel_rfl
theorem P118_2 (E : List (Nat × Blk)) (D : Den) (W : DrawFn) (N : Nat) (cc1 : XC) (li2 : St → Ans) (v0b : Nat) (v0o : Nat) (v4 : Int) (v5 : Int) (σ : H) :
  denC E D W N (C118_2 ) ⟨[(0, (V.ptr v0b v0o)), (4, (V.int .i64 v4)), (5, (V.int .u8 v5))], [], [], σ⟩ (fun s'' => keepS [(0, .ptr), (4, (.int .i64)), (5, (.int .u8))] [] [] s'' li2) (blkK 0 (fun s' => denC E D W N (.keep [(0, .ptr), (4, (.int .i64))] [] [] cc1) s' (Fin118 E) (fun _ _ => none) (Fin118 E)) (fun _ _ => none)) (Fin118 E) =
  T118_2 E D W (fun v0b v0o v4 σ => denC E D W N cc1 ⟨[(0, (V.ptr v0b v0o)), (4, (V.int .i64 v4))], [], [], σ⟩ (Fin118 E) (fun _ _ => none) (Fin118 E)) (fun v0b v0o v4 v5 σ => li2 ⟨[(0, (V.ptr v0b v0o)), (4, (V.int .i64 v4)), (5, (V.int .u8 v5))], [], [], σ⟩) v0b v0o v4 v5 σ := by kernel_rfl
def J118_1 (E : List (Nat × Blk)) (D : Den) (W : DrawFn) (N : Nat) : Nat → Nat → Int → H → Ans := T118_1 E D W 
theorem JE118_1 (E : List (Nat × Blk)) (D : Den) (W : DrawFn) (N : Nat) (v0b : Nat) (v0o : Nat) (v4 : Int) (σ : H) :
  denC E D W N C118_1 ⟨[(0, (V.ptr v0b v0o)), (4, (V.int .i64 v4))], [], [], σ⟩ (Fin118 E) (fun _ _ => none) (Fin118 E) = J118_1 E D W N v0b v0o v4 σ := by
  refine (P118_1 E D W N   v0b v0o v4 σ).trans ?_
  kernel_rfl
def L118_2 (E : List (Nat × Blk)) (D : Den) (W : DrawFn) (N : Nat) (n : Nat) : Nat → Nat → Int → Int → H → Ans :=
  Nat.rec (fun _ _ _ _ _ => none) (fun _ ih => T118_2 E D W (J118_1 E D W N ) ih) n
theorem LE118_2 (E : List (Nat × Blk)) (D : Den) (W : DrawFn) (N : Nat) (n : Nat) : ∀ (v0b : Nat) (v0o : Nat) (v4 : Int) (v5 : Int) (σ : H),
  iterK (fun rec s' => denC E D W N C118_2 s' (fun s'' => keepS [(0, .ptr), (4, (.int .i64)), (5, (.int .u8))] [] [] s'' rec) (blkK 0 (fun s' => denC E D W N (.keep [(0, .ptr), (4, (.int .i64))] [] [] C118_1) s' (Fin118 E) (fun _ _ => none) (Fin118 E)) (fun _ _ => none)) (Fin118 E)) n ⟨[(0, (V.ptr v0b v0o)), (4, (V.int .i64 v4)), (5, (V.int .u8 v5))], [], [], σ⟩ = L118_2 E D W N n v0b v0o v4 v5 σ := by
  induction n with
  | zero => intro v0b v0o v4 v5 σ; rfl
  | succ n ihn =>
    intro v0b v0o v4 v5 σ
    rw [iterK_succ]
    refine (P118_2 E D W N C118_1 (iterK (fun rec s' => denC E D W N C118_2 s' (fun s'' => keepS [(0, .ptr), (4, (.int .i64)), (5, (.int .u8))] [] [] s'' rec) (blkK 0 (fun s' => denC E D W N (.keep [(0, .ptr), (4, (.int .i64))] [] [] C118_1) s' (Fin118 E) (fun _ _ => none) (Fin118 E)) (fun _ _ => none)) (Fin118 E)) n) v0b v0o v4 v5 σ).trans ?_
    simp only [ihn, JE118_1]
    kernel_rfl
def J118_0 (E : List (Nat × Blk)) (D : Den) (W : DrawFn) (N : Nat) : Nat → Nat → H → Ans := T118_0 E D W (L118_2 E D W N N)
theorem JE118_0 (E : List (Nat × Blk)) (D : Den) (W : DrawFn) (N : Nat) (v0b : Nat) (v0o : Nat) (σ : H) :
  denC E D W N (C118_0 C118_1 C118_2) ⟨[(0, (V.ptr v0b v0o))], [], [], σ⟩ (Fin118 E) (fun _ _ => none) (Fin118 E) = J118_0 E D W N v0b v0o σ := by
  refine (P118_0 E D W N C118_1 C118_2  v0b v0o σ).trans ?_
  simp only [LE118_2]
  kernel_rfl
def F118 (E : List (Nat × Blk)) (D : Den) (W : DrawFn) (N : Nat) (args : List V) (σ : H) : Ans :=
 rtCons args fun x1 l2 =>
 rtPtr x1 fun b3 o4 =>
 rtNil l2 (
 J118_0 E D W N b3 o4 σ)
def A118 : XFn := ⟨80, [.ptr], [(.tmp 2), (.tmp 3)], (C118_0 C118_1 C118_2)⟩
theorem FE118 (E : List (Nat × Blk)) (D : Den) (W : DrawFn) (N : Nat) (args : List V) (σ : H) : runX E D W N A118 args σ = F118 E D W N args σ := by
  unfold F118
  simp only [← JE118_0]
  kernel_rfl
theorem AO118 : A118.body.ok = true := by kernel_rfl

/-! ### F119: ogham_lex.digit -/
def Fin119 (E : List (Nat × Blk)) : St → Ans := fun s => resK E s [(.tmp 2)] fun l => some (oneV l, s.σ)
def C119_0 : XC := (.seq (.ops (.op (some 2) .any [] (.mov (.con (V.bool false))) <|
 .nil))
 (.seq (.ops (.op (some 3) .any [0] (.mov (.tmp 0)) <|
 .op (some 4) .any [3] (.bin .geq .none (.tmp 3) (.con (V.int .u8 (Int.ofNat 48)))) <|
 .op (some 5) .any [4] (.mov (.tmp 4)) <|
 .grp 5 true (.op (some 6) .any [0, 5] (.mov (.tmp 0)) <|
 .op (some 7) .any [6, 5] (.bin .leq .none (.tmp 6) (.con (V.int .u8 (Int.ofNat 57)))) <|
 .nil) 8 [5, 7] (.tmp 5) (.tmp 7) (.con (V.bool false)) <|
 .op (some 2) .any [8] (.mov (.tmp 8)) <|
 .nil))
 .ret))
def T119_0 (E : List (Nat × Blk)) (D : Den) (W : DrawFn) (v0 : Int) (σ : H) : Ans :=
 joinB (fun c1 s2 =>
 some ((V.bool c1), s2)) fun k3 =>
 condK (leF (Int.ofNat 48) v0) (
 k3 (leF v0 (Int.ofNat 57)) σ) (
 k3 false σ)
theorem P119_0 (E : List (Nat × Blk)) (D : Den) (W : DrawFn) (N : Nat) (v0 : Int) (σ : H) :
  denC E D W N (C119_0 ) ⟨[(0, (V.int .u8 v0))], [], [], σ⟩ (Fin119 E) (fun _ _ => none) (Fin119 E) =
  T119_0 E D W  v0 σ := by kernel_rfl
def J119_0 (E : List (Nat × Blk)) (D : Den) (W : DrawFn) (N : Nat) : Int → H → Ans := T119_0 E D W 
theorem JE119_0 (E : List (Nat × Blk)) (D : Den) (W : DrawFn) (N : Nat) (v0 : Int) (σ : H) :
  denC E D W N C119_0 ⟨[(0, (V.int .u8 v0))], [], [], σ⟩ (Fin119 E) (fun _ _ => none) (Fin119 E) = J119_0 E D W N v0 σ := by
  refine (P119_0 E D W N   v0 σ).trans ?_
  kernel_rfl
def F119 (E : List (Nat × Blk)) (D : Den) (W : DrawFn) (N : Nat) (args : List V) (σ : H) : Ans :=
 rtCons args fun x1 l2 =>
 rtInt .u8 x1 fun x3 =>
 rtNil l2 (
 J119_0 E D W N x3 σ)
def A119 : XFn := ⟨9, [(.int .u8)], [(.tmp 2)], C119_0⟩
theorem FE119 (E : List (Nat × Blk)) (D : Den) (W : DrawFn) (N : Nat) (args : List V) (σ : H) : runX E D W N A119 args σ = F119 E D W N args σ := by
  unfold F119
  simp only [← JE119_0]
  kernel_rfl
theorem AO119 : A119.body.ok = true := by kernel_rfl

/-! ### F123: __ogham_lex.lexer_.sign -/
def Fin123 (E : List (Nat × Blk)) : St → Ans := fun s => resK E s [(.tmp 2), (.tmp 3)] fun l => some (oneV l, s.σ)
def C123_0 (cc1 : XC) (cc2 : XC) : XC := (.seq (.ops (.op (some 2) .any [] (.mov (.con (V.int .i64 (Int.ofNat 0)))) <|
 .op (some 3) .any [] (.mov (.con (V.str ⟨0, 0⟩))) <|
 .nil))
 (.seq (.seq (.ops (.op (some 6) .any [] (.buildSlice 9 13 [(V.str ⟨0, 0⟩), (V.str ⟨0, 0⟩), (V.str ⟨0, 0⟩), (V.str ⟨0, 0⟩), (V.str ⟨0, 0⟩), (V.str ⟨0, 0⟩), (V.str ⟨0, 0⟩), (V.str ⟨0, 0⟩), (V.str ⟨0, 0⟩), (V.str ⟨0, 0⟩), (V.str ⟨0, 0⟩), (V.str ⟨0, 0⟩), (V.str ⟨0, 0⟩)] [(0, 1, (.con (V.str ⟨3, 4012602⟩))), (1, 1, (.con (V.str ⟨3, 3026478⟩))), (2, 1, (.con (V.str ⟨2, 11822⟩))), (3, 1, (.con (V.str ⟨2, 23387⟩))), (4, 1, (.con (V.str ⟨2, 23901⟩))), (5, 1, (.con (V.str ⟨1, 123⟩))), (6, 1, (.con (V.str ⟨1, 125⟩))), (7, 1, (.con (V.str ⟨1, 91⟩))), (8, 1, (.con (V.str ⟨1, 93⟩))), (9, 1, (.con (V.str ⟨1, 40⟩))), (10, 1, (.con (V.str ⟨1, 41⟩))), (11, 1, (.con (V.str ⟨1, 44⟩))), (12, 1, (.con (V.str ⟨1, 58⟩)))]) <|
 .op (some 7) .any [6] (.len false (.tmp 6)) <|
 .op (some 8) .any [] (.mov (.con (V.int .i64 (Int.ofNat 0)))) <|
 .nil))
 (.block 0 (.loop [(0, .ptr), (6, .any), (7, (.int .i64)), (8, (.int .i64))] [] [] cc2)))
 (.keep [] [] [] cc1)))
def T123_0 (E : List (Nat × Blk)) (D : Den) (W : DrawFn) (K2 : Nat → Nat → V → Int → Int → H → Ans) (v0b : Nat) (v0o : Nat) (σ : H) : Ans :=
 let s1 := newB σ (.cells [(V.str (BS.mk 3 4012602)), (V.str (BS.mk 3 3026478)), (V.str (BS.mk 2 11822)), (V.str (BS.mk 2 23387)), (V.str (BS.mk 2 23901)), (V.str (BS.mk 1 123)), (V.str (BS.mk 1 125)), (V.str (BS.mk 1 91)), (V.str (BS.mk 1 93)), (V.str (BS.mk 1 40)), (V.str (BS.mk 1 41)), (V.str (BS.mk 1 44)), (V.str (BS.mk 1 58))]);
 slenK (V.sl (H.next σ) 0 13 (.ex 13)) fun n2 =>
 K2 v0b v0o (V.sl (H.next σ) 0 13 (.ex 13)) (Int.ofNat n2) (Int.ofNat 0) s1
def C123_1 : XC := (.seq (.ops (.op (some 2) .any [] (.mov (.con (V.int .i64 (Int.ofNat 0)))) <|
 .op (some 3) .any [] (.mov (.con (V.str ⟨0, 0⟩))) <|
 .nil))
 .ret)
def T123_1 (E : List (Nat × Blk)) (D : Den) (W : DrawFn) (σ : H) : Ans :=
 some ((V.tup [(V.int .i64 (Int.ofNat 0)), (V.str (BS.mk 0 0))]), σ)
def C123_2 : XC := (.seq (.ops (.op (some 9) .any [8, 7] (.bin .lss .none (.tmp 8) (.tmp 7)) <|
 .nil))
 (.seq (.cond (.tmp 9) .skip
 (.exit 0))
 (.seq (.block 1 (.seq (.ops (.op (some 10) .any [6, 8] (.iaddrS 1 (.tmp 6) (.tmp 8)) <|
 .op (some 11) .str [10] (.load none (.tmp 10)) <|
 .op (some 5) .any [11] (.mov (.tmp 11)) <|
 .nil))
 (.seq (.ops (.op (some 12) .any [0] (.mov (.tmp 0)) <|
 .op (some 13) .any [12] (.nilck (.tmp 12)) <|
 .op (some 14) .any [13] (.faddr 0 (.tmp 13)) <|
 .op (some 15) .any [5] (.mov (.tmp 5)) <|
 .op (some 16) .bool [14, 15] (.call 116 [(.tmp 14), (.tmp 15)]) <|
 .nil))
 (.cond (.tmp 16) (.seq (.ops (.op (some 17) .any [0] (.mov (.tmp 0)) <|
 .op (some 18) .any [17] (.nilck (.tmp 17)) <|
 .op (some 19) .any [18] (.faddr 0 (.tmp 18)) <|
 .op (some 20) .any [19] (.faddr 1 (.tmp 19)) <|
 .op (some 21) (.int .i64) [20] (.load none (.tmp 20)) <|
 .op (some 22) .any [5] (.mov (.tmp 5)) <|
 .op (some 23) .any [22] (.len true (.tmp 22)) <|
 .op (some 24) .any [21, 23] (.bin .add .none (.tmp 21) (.tmp 23)) <|
 .op (some 25) .any [17] (.nilck (.tmp 17)) <|
 .op (some 26) .any [25] (.faddr 0 (.tmp 25)) <|
 .op (some 27) .any [26] (.faddr 1 (.tmp 26)) <|
 .op none .any [27, 24] (.store 1 (.tmp 27) (.tmp 24)) <|
 .nil))
 (.seq (.ops (.op (some 28) .any [5] (.mov (.tmp 5)) <|
 .op (some 2) .any [] (.mov (.con (V.int .i64 (Int.ofNat 6)))) <|
 .op (some 3) .any [28] (.mov (.tmp 28)) <|
 .nil))
 .ret))
 .skip))))
 (.ops (.op (some 29) .any [8] (.bin .add .none (.tmp 8) (.con (V.int .i64 (Int.ofNat 1)))) <|
 .op (some 8) .any [29] (.mov (.tmp 29)) <|
 .nil)))))
def T123_2 (E : List (Nat × Blk)) (D : Den) (W : DrawFn) (K1 : H → Ans) (R2 : Nat → Nat → V → Int → Int → H → Ans) (v0b : Nat) (v0o : Nat) (v6 : V) (v7 : Int) (v8 : Int) (σ : H) : Ans :=
 condK (ltF v8 v7) (
 iaddrSK 1 v6 v8 fun b1 o2 =>
 ldK E σ b1 o2 fun u3 =>
 rtStr u3 fun x4 =>
 callK (D 116 [(V.ptr v0b v0o), (V.str x4)] σ) fun u5 s6 =>
 rtBool u5 fun x7 =>
 condK x7 (
 ldK E s6 v0b (Nat.add v0o 1) fun u8 =>
 rtInt .i64 u8 fun x9 =>
 stK 1 v0b (Nat.add v0o 1) (V.int .i64 (addF .i64 x9 (Int.ofNat (BS.len x4)))) s6 fun s10 =>
 some ((V.tup [(V.int .i64 (Int.ofNat 6)), (V.str x4)]), s10)) (
 R2 v0b v0o v6 v7 (addF .i64 v8 (Int.ofNat 1)) s6)) (
 K1 σ)
theorem P123_0 (E : List (Nat × Blk)) (D : Den) (W : DrawFn) (N : Nat) (cc1 : XC) (cc2 : XC) (v0b : Nat) (v0o : Nat) (σ : H) :
  denC E D W N (C123_0 cc1 cc2) ⟨[(0, (V.ptr v0b v0o))], [], [], σ⟩ (Fin123 E) (fun _ _ => none) (Fin123 E) =
  T123_0 E D W (fun v0b v0o v6 v7 v8 σ => iterK (fun rec s' => denC E D W N cc2 s' (fun s'' => keepS [(0, .ptr), (6, .any), (7, (.int .i64)), (8, (.int .i64))] [] [] s'' rec) (blkK 0 (fun s' => denC E D W N (.keep [] [] [] cc1) s' (Fin123 E) (fun _ _ => none) (Fin123 E)) (fun _ _ => none)) (Fin123 E)) N ⟨[(0, (V.ptr v0b v0o)), (6, v6), (7, (V.int .i64 v7)), (8, (V.int .i64 v8))], [], [], σ⟩) v0b v0o σ := by kernel_rfl
theorem P123_1 (E : List (Nat × Blk)) (D : Den) (W : DrawFn) (N : Nat) (σ : H) :
  denC E D W N (C123_1 ) ⟨[], [], [], σ⟩ (Fin123 E) (fun _ _ => none) (Fin123 E) =
  T123_1 E D W   σ := by kernel_rfl
theorem P123_2 (E : List (Nat × Blk)) (D : Den) (W : DrawFn) (N : Nat) (cc1 : XC) (li2 : St → Ans) (v0b : Nat) (v0o : Nat) (v6 : V) (v7 : Int) (v8 : Int) (σ : H) :
  denC E D W N (C123_2 ) ⟨[(0, (V.ptr v0b v0o)), (6, v6), (7, (V.int .i64 v7)), (8, (V.int .i64 v8))], [], [], σ⟩ (fun s'' => keepS [(0, .ptr), (6, .any), (7, (.int .i64)), (8, (.int .i64))] [] [] s'' li2) (blkK 0 (fun s' => denC E D W N (.keep [] [] [] cc1) s' (Fin123 E) (fun _ _ => none) (Fin123 E)) (fun _ _ => none)) (Fin123 E) =
  T123_2 E D W (fun  σ => denC E D W N cc1 ⟨[], [], [], σ⟩ (Fin123 E) (fun _ _ => none) (Fin123 E)) (fun v0b v0o v6 v7 v8 σ => li2 ⟨[(0, (V.ptr v0b v0o)), (6, v6), (7, (V.int .i64 v7)), (8, (V.int .i64 v8))], [], [], σ⟩) v0b v0o v6 v7 v8 σ := by kernel_rfl
def J123_1 (E : List (Nat × Blk)) (D : Den) (W : DrawFn) (N : Nat) : H → Ans := T123_1 E D W 
theorem JE123_1 (E : List (Nat × Blk)) (D : Den) (W : DrawFn) (N : Nat) (σ : H) :
  denC E D W N C123_1 ⟨[], [], [], σ⟩ (Fin123 E) (fun _ _ => none) (Fin123 E) = J123_1 E D W N  σ := by
  refine (P123_1 E D W N    σ).trans ?_
  kernel_rfl
def L123_2 (E : List (Nat × Blk)) (D : Den) (W : DrawFn) (N : Nat) (n : Nat) : Nat → Nat → V → Int → Int → H → Ans :=
  Nat.rec (fun _ _ _ _ _ _ => none) (fun _ ih => T123_2 E D W (J123_1 E D W N ) ih) n
theorem LE123_2 (E : List (Nat × Blk)) (D : Den) (W : DrawFn) (N : Nat) (n : Nat) : ∀ (v0b : Nat) (v0o : Nat) (v6 : V) (v7 : Int) (v8 : Int) (σ : H),
  iterK (fun rec s' => denC E D W N C123_2 s' (fun s'' => keepS [(0, .ptr), (6, .any), (7, (.int .i64)), (8, (.int .i64))] [] [] s'' rec) (blkK 0 (fun s' => denC E D W N (.keep [] [] [] C123_1) s' (Fin123 E) (fun _ _ => none) (Fin123 E)) (fun _ _ => none)) (Fin123 E)) n ⟨[(0, (V.ptr v0b v0o)), (6, v6), (7, (V.int .i64 v7)), (8, (V.int .i64 v8))], [], [], σ⟩ = L123_2 E D W N n v0b v0o v6 v7 v8 σ := by
  induction n with
  | zero => intro v0b v0o v6 v7 v8 σ; rfl
  | succ n ihn =>
    intro v0b v0o v6 v7 v8 σ
    rw [iterK_succ]
    refine (P123_2 E D W N C123_1 (iterK (fun rec s' => denC E D W N C123_2 s' (fun s'' => keepS [(0, .ptr), (6, .any), (7, (.int .i64)), (8, (.int .i64))] [] [] s'' rec) (blkK 0 (fun s' => denC E D W N (.keep [] [] [] C123_1) s' (Fin123 E) (fun _ _ => none) (Fin123 E)) (fun _ _ => none)) (Fin123 E)) n) v0b v0o v6 v7 v8 σ).trans ?_
    simp only [ihn, JE123_1]
    kernel_rfl
def J123_0 (E : List (Nat × Blk)) (D : Den) (W : DrawFn) (N : Nat) : Nat → Nat → H → Ans := T123_0 E D W (L123_2 E D W N N)
theorem JE123_0 (E : List (Nat × Blk)) (D : Den) (W : DrawFn) (N : Nat) (v0b : Nat) (v0o : Nat) (σ : H) :
  denC E D W N (C123_0 C123_1 C123_2) ⟨[(0, (V.ptr v0b v0o))], [], [], σ⟩ (Fin123 E) (fun _ _ => none) (Fin123 E) = J123_0 E D W N v0b v0o σ := by
  refine (P123_0 E D W N C123_1 C123_2  v0b v0o σ).trans ?_
  simp only [LE123_2]
  kernel_rfl
def F123 (E : List (Nat × Blk)) (D : Den) (W : DrawFn) (N : Nat) (args : List V) (σ : H) : Ans :=
 rtCons args fun x1 l2 =>
 rtPtr x1 fun b3 o4 =>
 rtNil l2 (
 J123_0 E D W N b3 o4 σ)
def A123 : XFn := ⟨30, [.ptr], [(.tmp 2), (.tmp 3)], (C123_0 C123_1 C123_2)⟩
theorem FE123 (E : List (Nat × Blk)) (D : Den) (W : DrawFn) (N : Nat) (args : List V) (σ : H) : runX E D W N A123 args σ = F123 E D W N args σ := by
  unfold F123
  simp only [← JE123_0]
  kernel_rfl
theorem AO123 : A123.body.ok = true := by kernel_rfl

/-! ### F125: __ogham_syntax.stream_.next -/
def Fin125 (E : List (Nat × Blk)) : St → Ans := fun s => resK E s [(.cell 2 (some 3))] fun l => some (oneV l, s.σ)
def C125_0 (cc1 : XC) : XC := (.seq (.ops (.pal 2 [] 187 [(V.int .i64 (Int.ofNat 0)), (V.str ⟨0, 0⟩), (V.int .i64 (Int.ofNat 0))] <|
 .nil))
 (.seq (.draw (.op (some 4) .any [0] (.mov (.tmp 0)) <|
 .op (some 5) .any [4] (.nilck (.tmp 4)) <|
 .op (some 6) .any [5] (.faddr 0 (.tmp 5)) <|
 .op (some 7) .any [6] (.load none (.tmp 6)) <|
 .op (some 8) .any [0] (.mov (.tmp 0)) <|
 .op (some 9) .any [8] (.nilck (.tmp 8)) <|
 .op (some 10) .any [9] (.faddr 1 (.tmp 9)) <|
 .op (some 11) (.int .i64) [10] (.load none (.tmp 10)) <|
 .op (some 12) .any [7, 11] (.iaddrS 3 (.tmp 7) (.tmp 11)) <|
 .op (some 13) (.agg [(.int .i64), .str, (.int .i64)]) [12] (.load (some 3) (.tmp 12)) <|
 .pal 3 [] 187 [(V.int .i64 (Int.ofNat 0)), (V.str ⟨0, 0⟩), (V.int .i64 (Int.ofNat 0))] <|
 .op none (.agg [(.int .i64), .str, (.int .i64)]) [3, 13] (.store 3 (.tmp 3) (.tmp 13)) <|
 .nil) [0, 1, 3, 7, 0, 16, 48, 112, 255, 511, 0, 2047])
 (.seq (.seq (.ops (.op (some 14) .any [3] (.faddr 0 (.tmp 3)) <|
 .op (some 15) (.int .i64) [14] (.load none (.tmp 14)) <|
 .op (some 16) .any [15] (.bin .neq .none (.tmp 15) (.con (V.int .i64 (Int.ofNat 0)))) <|
 .nil))
 (.cond (.tmp 16) (.ops (.op (some 17) .any [0] (.mov (.tmp 0)) <|
 .op (some 18) .any [17] (.nilck (.tmp 17)) <|
 .op (some 19) .any [18] (.faddr 1 (.tmp 18)) <|
 .op (some 20) (.int .i64) [19] (.load none (.tmp 19)) <|
 .op (some 21) .any [20] (.bin .add .none (.tmp 20) (.con (V.int .i64 (Int.ofNat 1)))) <|
 .op (some 22) .any [17] (.nilck (.tmp 17)) <|
 .op (some 23) .any [22] (.faddr 1 (.tmp 22)) <|
 .op none .any [23, 21] (.store 1 (.tmp 23) (.tmp 21)) <|
 .nil))
 .skip))
 (.keep [] [2, 3] [(2, [(.int .i64), .str, (.int .i64)]), (3, [(.int .i64), .str, (.int .i64)])] cc1))))
def T125_0 (E : List (Nat × Blk)) (D : Den) (W : DrawFn) (K1 : Int → BS → Int → Int → BS → Int → H → Ans) (v0b : Nat) (v0o : Nat) (σ : H) : Ans :=
 ldK E σ v0b v0o fun u1 =>
 ldK E σ v0b (Nat.add v0o 1) fun u2 =>
 rtInt .i64 u2 fun x3 =>
 iaddrSK 3 u1 x3 fun b4 o5 =>
 ldnK E σ b4 o5 3 fun l6 =>
 rtCons l6 fun x7 l8 =>
 rtInt .i64 x7 fun x9 =>
 rtCons l8 fun x10 l11 =>
 rtStr x10 fun x12 =>
 rtCons l11 fun x13 l14 =>
 rtInt .i64 x13 fun x15 =>
 rtNil l14 (
 condK (not (eqF x9 (Int.ofNat 0))) (
 ldK E σ v0b (Nat.add v0o 1) fun u16 =>
 rtInt .i64 u16 fun x17 =>
 stK 1 v0b (Nat.add v0o 1) (V.int .i64 (addF .i64 x17 (Int.ofNat 1))) σ fun s18 =>
 K1 (Int.ofNat 0) (BS.mk 0 0) (Int.ofNat 0) x9 x12 x15 s18) (
 K1 (Int.ofNat 0) (BS.mk 0 0) (Int.ofNat 0) x9 x12 x15 σ))
def C125_1 : XC := (.seq (.ops (.op (some 24) (.agg [(.int .i64), .str, (.int .i64)]) [3] (.load (some 3) (.tmp 3)) <|
 .op none (.agg [(.int .i64), .str, (.int .i64)]) [2, 24] (.store 3 (.tmp 2) (.tmp 24)) <|
 .nil))
 .ret)
def T125_1 (E : List (Nat × Blk)) (D : Den) (W : DrawFn) (r2_0 : Int) (r2_1 : BS) (r2_2 : Int) (r3_0 : Int) (r3_1 : BS) (r3_2 : Int) (σ : H) : Ans :=
 some ((V.agg [(V.int .i64 r3_0), (V.str r3_1), (V.int .i64 r3_2)]), σ)
theorem P125_0 (E : List (Nat × Blk)) (D : Den) (W : DrawFn) (N : Nat) (cc1 : XC) (v0b : Nat) (v0o : Nat) (σ : H) :
  denC E D W N (C125_0 cc1) ⟨[(0, (V.ptr v0b v0o))], [], [], σ⟩ (Fin125 E) (fun _ _ => none) (Fin125 E) =
  T125_0 E D W (fun r2_0 r2_1 r2_2 r3_0 r3_1 r3_2 σ => denC E D W N cc1 ⟨[], [(2, (2, 0)), (3, (3, 0))], [(2, [(V.int .i64 r2_0), (V.str r2_1), (V.int .i64 r2_2)]), (3, [(V.int .i64 r3_0), (V.str r3_1), (V.int .i64 r3_2)])], σ⟩ (Fin125 E) (fun _ _ => none) (Fin125 E)) v0b v0o σ := by kernel_rfl
theorem P125_1 (E : List (Nat × Blk)) (D : Den) (W : DrawFn) (N : Nat) (r2_0 : Int) (r2_1 : BS) (r2_2 : Int) (r3_0 : Int) (r3_1 : BS) (r3_2 : Int) (σ : H) :
  denC E D W N (C125_1 ) ⟨[], [(2, (2, 0)), (3, (3, 0))], [(2, [(V.int .i64 r2_0), (V.str r2_1), (V.int .i64 r2_2)]), (3, [(V.int .i64 r3_0), (V.str r3_1), (V.int .i64 r3_2)])], σ⟩ (Fin125 E) (fun _ _ => none) (Fin125 E) =
  T125_1 E D W  r2_0 r2_1 r2_2 r3_0 r3_1 r3_2 σ := by kernel_rfl
def J125_1 (E : List (Nat × Blk)) (D : Den) (W : DrawFn) (N : Nat) : Int → BS → Int → Int → BS → Int → H → Ans := T125_1 E D W 
theorem JE125_1 (E : List (Nat × Blk)) (D : Den) (W : DrawFn) (N : Nat) (r2_0 : Int) (r2_1 : BS) (r2_2 : Int) (r3_0 : Int) (r3_1 : BS) (r3_2 : Int) (σ : H) :
  denC E D W N C125_1 ⟨[], [(2, (2, 0)), (3, (3, 0))], [(2, [(V.int .i64 r2_0), (V.str r2_1), (V.int .i64 r2_2)]), (3, [(V.int .i64 r3_0), (V.str r3_1), (V.int .i64 r3_2)])], σ⟩ (Fin125 E) (fun _ _ => none) (Fin125 E) = J125_1 E D W N r2_0 r2_1 r2_2 r3_0 r3_1 r3_2 σ := by
  refine (P125_1 E D W N   r2_0 r2_1 r2_2 r3_0 r3_1 r3_2 σ).trans ?_
  kernel_rfl
def J125_0 (E : List (Nat × Blk)) (D : Den) (W : DrawFn) (N : Nat) : Nat → Nat → H → Ans := T125_0 E D W (J125_1 E D W N )
theorem JE125_0 (E : List (Nat × Blk)) (D : Den) (W : DrawFn) (N : Nat) (v0b : Nat) (v0o : Nat) (σ : H) :
  denC E D W N (C125_0 C125_1) ⟨[(0, (V.ptr v0b v0o))], [], [], σ⟩ (Fin125 E) (fun _ _ => none) (Fin125 E) = J125_0 E D W N v0b v0o σ := by
  refine (P125_0 E D W N C125_1  v0b v0o σ).trans ?_
  simp only [JE125_1]
  kernel_rfl
def F125 (E : List (Nat × Blk)) (D : Den) (W : DrawFn) (N : Nat) (args : List V) (σ : H) : Ans :=
 rtCons args fun x1 l2 =>
 rtPtr x1 fun b3 o4 =>
 rtNil l2 (
 J125_0 E D W N b3 o4 σ)
def A125 : XFn := ⟨25, [.ptr], [(.cell 2 (some 3))], (C125_0 C125_1)⟩
theorem FE125 (E : List (Nat × Blk)) (D : Den) (W : DrawFn) (N : Nat) (args : List V) (σ : H) : runX E D W N A125 args σ = F125 E D W N args σ := by
  unfold F125
  simp only [← JE125_0]
  kernel_rfl
theorem AO125 : A125.body.ok = true := by kernel_rfl

/-! ### F126: __ogham_syntax.stream_.is -/
def Fin126 (E : List (Nat × Blk)) : St → Ans := fun s => resK E s [(.tmp 4)] fun l => some (oneV l, s.σ)
def C126_0 : XC := (.seq (.ops (.op (some 4) .any [] (.mov (.con (V.bool false))) <|
 .nil))
 (.seq (.seq (.ops (.op (some 5) .any [0] (.mov (.tmp 0)) <|
 .op (some 6) .any [1] (.mov (.tmp 1)) <|
 .op (some 7) .bool [5, 6] (.call 91 [(.tmp 5), (.tmp 6)]) <|
 .op (some 8) .any [7] (.un .not (.tmp 7)) <|
 .nil))
 (.cond (.tmp 8) (.seq (.ops (.op (some 4) .any [] (.mov (.con (V.bool false))) <|
 .nil))
 .ret)
 .skip))
 (.seq (.ops (.op (some 9) .any [0] (.mov (.tmp 0)) <|
 .op (some 10) (.agg [(.int .i64), .str, (.int .i64)]) [9] (.call 125 [(.tmp 9)]) <|
 .nil))
 (.seq (.ops (.op (some 4) .any [] (.mov (.con (V.bool true))) <|
 .nil))
 .ret))))
def T126_0 (E : List (Nat × Blk)) (D : Den) (W : DrawFn) (v0 : V) (v1 : BS) (σ : H) : Ans :=
 callK (D 91 [v0, (V.str v1)] σ) fun u1 s2 =>
 rtBool u1 fun x3 =>
 condK (not x3) (
 some ((V.bool false), s2)) (
 callK (D 125 [v0] s2) fun u4 s5 =>
 rtAgg u4 fun l6 =>
 rtCons l6 fun x7 l8 =>
 rtInt .i64 x7 fun x9 =>
 rtCons l8 fun x10 l11 =>
 rtStr x10 fun x12 =>
 rtCons l11 fun x13 l14 =>
 rtInt .i64 x13 fun x15 =>
 rtNil l14 (
 some ((V.bool true), s5)))
theorem P126_0 (E : List (Nat × Blk)) (D : Den) (W : DrawFn) (N : Nat) (v0 : V) (v1 : BS) (σ : H) :
  denC E D W N (C126_0 ) ⟨[(0, v0), (1, (V.str v1))], [], [], σ⟩ (Fin126 E) (fun _ _ => none) (Fin126 E) =
  T126_0 E D W  v0 v1 σ := by kernel_rfl
def J126_0 (E : List (Nat × Blk)) (D : Den) (W : DrawFn) (N : Nat) : V → BS → H → Ans := T126_0 E D W 
theorem JE126_0 (E : List (Nat × Blk)) (D : Den) (W : DrawFn) (N : Nat) (v0 : V) (v1 : BS) (σ : H) :
  denC E D W N C126_0 ⟨[(0, v0), (1, (V.str v1))], [], [], σ⟩ (Fin126 E) (fun _ _ => none) (Fin126 E) = J126_0 E D W N v0 v1 σ := by
  refine (P126_0 E D W N   v0 v1 σ).trans ?_
  kernel_rfl
def F126 (E : List (Nat × Blk)) (D : Den) (W : DrawFn) (N : Nat) (args : List V) (σ : H) : Ans :=
 rtCons args fun x1 l2 =>
 rtCons l2 fun x3 l4 =>
 rtStr x3 fun x5 =>
 rtNil l4 (
 J126_0 E D W N x1 x5 σ)
def A126 : XFn := ⟨11, [.any, .str], [(.tmp 4)], C126_0⟩
theorem FE126 (E : List (Nat × Blk)) (D : Den) (W : DrawFn) (N : Nat) (args : List V) (σ : H) : runX E D W N A126 args σ = F126 E D W N args σ := by
  unfold F126
  simp only [← JE126_0]
  kernel_rfl
theorem AO126 : A126.body.ok = true := by kernel_rfl

def C127_0 : XC := (.seq (.ops (.op (some 4) .any [] (.mov (.con (V.int .i64 (Int.ofNat 0)))) <|
 .op (some 5) .any [] (.mov (.con (V.bool false))) <|
 .nil))
 (.seq (.ops (.op (some 10) .any [0] (.mov (.tmp 0)) <|
 .op (some 11) .any [10] (.nilck (.tmp 10)) <|
 .op (some 12) .any [11] (.faddr 0 (.tmp 11)) <|
 .op (some 13) (.agg [(.int .i64), .str, (.int .i64)]) [12] (.call 92 [(.tmp 12)]) <|
 .pal 6 [] 187 [(V.int .i64 (Int.ofNat 0)), (V.str ⟨0, 0⟩), (V.int .i64 (Int.ofNat 0))] <|
 .op none (.agg [(.int .i64), .str, (.int .i64)]) [6, 13] (.store 3 (.tmp 6) (.tmp 13)) <|
 .nil))
 (.seq (.block 0 (.seq (.ops (.op (some 15) (.agg [(.int .i64), .str, (.int .i64)]) [6] (.load (some 3) (.tmp 6)) <|
 .op (some 16) .bool [15] (.call 154 [(.tmp 15)]) <|
 .op (some 17) .any [16] (.un .not (.tmp 16)) <|
 .op (some 14) .any [17] (.mov (.tmp 17)) <|
 .nil))
 (.cond (.tmp 14) (.seq (.ops (.op (some 18) .any [0] (.mov (.tmp 0)) <|
 .op (some 19) .any [6] (.faddr 2 (.tmp 6)) <|
 .op (some 20) (.int .i64) [19] (.load none (.tmp 19)) <|
 .op (some 21) .bool [18, 20] (.call 124 [(.tmp 18), (.tmp 20), (.con (V.int .i64 (Int.ofNat 7)))]) <|
 .op (some 4) .any [] (.mov (.con (V.int .i64 (Int.ofNat 0)))) <|
 .op (some 5) .any [21] (.mov (.tmp 21)) <|
 .nil))
 .ret)
 (.seq (.ops (.op (some 23) .any [1] (.mov (.tmp 1)) <|
 .op (some 24) .any [23] (.bin .gtr .none (.tmp 23) (.con (V.int .i64 (Int.ofNat 16)))) <|
 .op (some 25) .any [24] (.mov (.tmp 24)) <|
 .grp 25 false (.op (some 26) .any [0, 25] (.mov (.tmp 0)) <|
 .op (some 27) .any [26, 25] (.nilck (.tmp 26)) <|
 .op (some 28) .any [27, 25] (.faddr 2 (.tmp 27)) <|
 .op (some 29) .any [28, 25] (.faddr 4 (.tmp 28)) <|
 .op (some 30) .any [29, 25] (.load none (.tmp 29)) <|
 .op (some 31) .any [30, 25] (.len false (.tmp 30)) <|
 .op (some 32) .any [31, 25] (.bin .geq .none (.tmp 31) (.con (V.int .i64 (Int.ofNat 300)))) <|
 .nil) 33 [25, 32] (.tmp 25) (.con (V.bool true)) (.tmp 32) <|
 .op (some 22) .any [33] (.mov (.tmp 33)) <|
 .nil))
 (.cond (.tmp 22) (.seq (.ops (.op (some 34) .any [0] (.mov (.tmp 0)) <|
 .op (some 35) .any [6] (.faddr 2 (.tmp 6)) <|
 .op (some 36) (.int .i64) [35] (.load none (.tmp 35)) <|
 .op (some 37) .bool [34, 36] (.call 124 [(.tmp 34), (.tmp 36), (.con (V.int .i64 (Int.ofNat 5)))]) <|
 .op (some 4) .any [] (.mov (.con (V.int .i64 (Int.ofNat 0)))) <|
 .op (some 5) .any [37] (.mov (.tmp 37)) <|
 .nil))
 .ret)
 .skip)))))
 (.seq (.ops (.op (some 38) .any [0] (.mov (.tmp 0)) <|
 .op (some 39) .any [38] (.nilck (.tmp 38)) <|
 .op (some 40) .any [39] (.faddr 2 (.tmp 39)) <|
 .op (some 41) .any [40] (.faddr 4 (.tmp 40)) <|
 .op (some 42) .any [41] (.load none (.tmp 41)) <|
 .op (some 43) .any [42] (.len false (.tmp 42)) <|
 .op (some 7) .any [43] (.mov (.tmp 43)) <|
 .nil))
 (.seq (.ops (.op (some 44) .any [0] (.mov (.tmp 0)) <|
 .op (some 45) .any [0] (.mov (.tmp 0)) <|
 .op (some 46) .any [45] (.nilck (.tmp 45)) <|
 .op (some 47) .any [46] (.faddr 2 (.tmp 46)) <|
 .op (some 48) .any [47] (.faddr 4 (.tmp 47)) <|
 .op (some 49) .any [48] (.load none (.tmp 48)) <|
 .op (some 50) (.agg [(.int .i64), .str, .bool, (.int .i64), (.int .i64), .bool, .bool, .bool, .bool, (.int .i64), (.int .i64), .any, .any, (.int .i64), .bool, (.int .i64)]) [] (.build [(V.int .i64 (Int.ofNat 0)), (V.str ⟨0, 0⟩), (V.bool false), (V.int .i64 (Int.ofNat 0)), (V.int .i64 (Int.ofNat 0)), (V.bool false), (V.bool false), (V.bool false), (V.bool false), (V.int .i64 (Int.ofNat 0)), (V.int .i64 (Int.ofNat 0)), V.nils, V.nils, (V.int .i64 (Int.ofNat 0)), (V.bool false), (V.int .i64 (Int.ofNat 0))] []) <|
 .op (some 51) .any [50] (.buildSlice 203 1 [(V.int .i64 (Int.ofNat 0)), (V.str ⟨0, 0⟩), (V.bool false), (V.int .i64 (Int.ofNat 0)), (V.int .i64 (Int.ofNat 0)), (V.bool false), (V.bool false), (V.bool false), (V.bool false), (V.int .i64 (Int.ofNat 0)), (V.int .i64 (Int.ofNat 0)), V.nils, V.nils, (V.int .i64 (Int.ofNat 0)), (V.bool false), (V.int .i64 (Int.ofNat 0))] [(0, 16, (.tmp 50))]) <|
 .op (some 52) .one [49, 51] (.append 203 16 144 (.tmp 49) (.tmp 51)) <|
 .op (some 53) .any [44] (.nilck (.tmp 44)) <|
 .op (some 54) .any [53] (.faddr 2 (.tmp 53)) <|
 .op (some 55) .any [54] (.faddr 4 (.tmp 54)) <|
 .op none .any [55, 52] (.store 1 (.tmp 55) (.tmp 52)) <|
 .nil))
 (.seq (.ops (.op (some 57) .any [0] (.mov (.tmp 0)) <|
 .op (some 58) .any [1] (.mov (.tmp 1)) <|
 .op (some 59) (.tup [(.agg [(.int .i64), .str, .bool, (.int .i64), (.int .i64), .bool, .bool, .bool, .bool, (.int .i64), (.int .i64), .any, .any, (.int .i64), .bool, (.int .i64)]), .bool]) [57, 58] (.call 155 [(.tmp 57), (.tmp 58)]) <|
 .op (some 56) .any [59] (.mov (.tmp 59)) <|
 .op (some 60) .any [56] (.extract 0 (.tmp 56)) <|
 .op (some 61) .any [56] (.extract 1 (.tmp 56)) <|
 .pal 8 [] 203 [(V.int .i64 (Int.ofNat 0)), (V.str ⟨0, 0⟩), (V.bool false), (V.int .i64 (Int.ofNat 0)), (V.int .i64 (Int.ofNat 0)), (V.bool false), (V.bool false), (V.bool false), (V.bool false), (V.int .i64 (Int.ofNat 0)), (V.int .i64 (Int.ofNat 0)), V.nils, V.nils, (V.int .i64 (Int.ofNat 0)), (V.bool false), (V.int .i64 (Int.ofNat 0))] <|
 .op none (.agg [(.int .i64), .str, .bool, (.int .i64), (.int .i64), .bool, .bool, .bool, .bool, (.int .i64), (.int .i64), .any, .any, (.int .i64), .bool, (.int .i64)]) [8, 60] (.store 16 (.tmp 8) (.tmp 60)) <|
 .op (some 9) .any [61] (.mov (.tmp 61)) <|
 .nil))
 (.seq (.seq (.ops (.op (some 62) .any [9] (.mov (.tmp 9)) <|
 .op (some 63) .any [62] (.un .not (.tmp 62)) <|
 .nil))
 (.cond (.tmp 63) (.seq (.ops (.op (some 4) .any [] (.mov (.con (V.int .i64 (Int.ofNat 0)))) <|
 .op (some 5) .any [] (.mov (.con (V.bool false))) <|
 .nil))
 .ret)
 .skip))
 (.seq (.draw (.op (some 64) .any [0] (.mov (.tmp 0)) <|
 .op (some 65) .any [64] (.nilck (.tmp 64)) <|
 .op (some 66) .any [65] (.faddr 2 (.tmp 65)) <|
 .op (some 67) .any [66] (.faddr 4 (.tmp 66)) <|
 .op (some 68) .any [67] (.load none (.tmp 67)) <|
 .op (some 69) .any [7] (.mov (.tmp 7)) <|
 .op (some 70) (.agg [(.int .i64), .str, .bool, (.int .i64), (.int .i64), .bool, .bool, .bool, .bool, (.int .i64), (.int .i64), .any, .any, (.int .i64), .bool, (.int .i64)]) [8] (.load (some 16) (.tmp 8)) <|
 .op (some 71) .any [68, 69] (.iaddrS 16 (.tmp 68) (.tmp 69)) <|
 .op none (.agg [(.int .i64), .str, .bool, (.int .i64), (.int .i64), .bool, .bool, .bool, .bool, (.int .i64), (.int .i64), .any, .any, (.int .i64), .bool, (.int .i64)]) [71, 70] (.store 16 (.tmp 71) (.tmp 70)) <|
 .nil) [0, 1, 3, 7, 15, 0, 0, 127, 255])
 (.seq (.ops (.op (some 72) .any [7] (.mov (.tmp 7)) <|
 .op (some 4) .any [72] (.mov (.tmp 72)) <|
 .op (some 5) .any [] (.mov (.con (V.bool true))) <|
 .nil))
 .ret)))))))))
def A127 : XFn := ⟨73, [.ptr, (.int .i64)], [(.tmp 4), (.tmp 5)], C127_0⟩
/-! ### F128: ogham_refs.refers -/
def G128_0 : List AOper := [⟨(some 6), .load (some 5) (.tmp 2), none⟩, ⟨(some 7), .mov (.tmp 1), none⟩, ⟨(some 8), .faddr 4 (.tmp 2), none⟩, ⟨(some 9), .load none (.tmp 8), none⟩, ⟨(some 10), .len false (.tmp 9), none⟩, ⟨(some 11), .mkslice 4 1 1 [(V.bool false)] (.tmp 10) (.tmp 10), none⟩, ⟨(some 12), .mkfn 157 [] [(.tmp 5)], none⟩, ⟨(some 13), .call 156 [(.tmp 6), (.tmp 7), (.tmp 11), (.tmp 12)], none⟩]
def H128_0 : List DP := [⟨0, [2]⟩, ⟨0, [1]⟩, ⟨0, [2]⟩, ⟨4, [8]⟩, ⟨12, [9]⟩, ⟨28, [10, 10]⟩, ⟨0, [5]⟩, ⟨127, [6, 7, 11, 12]⟩]
def Fin128 (E : List (Nat × Blk)) : St → Ans := fun s => resK E s [(.tmp 4)] fun l => some (oneV l, s.σ)
def C128_0 : XC := (.seq (.ops (.op (some 2) .any [0] (.box 99 (.tmp 0)) <|
 .op (some 4) .any [] (.mov (.con V.nils)) <|
 .nil))
 (.seq (.ops (.op (some 5) .any [] (.alloc 47 [V.nils]) <|
 .nil))
 (.seq (.keep [(1, (.int .i64)), (2, .ptr), (5, .ptr)] [] [] (.gdraw G128_0 H128_0 [(5, .ptr)]))
 (.seq (.ops (.op (some 14) .any [5] (.load none (.tmp 5)) <|
 .op (some 4) .any [14] (.mov (.tmp 14)) <|
 .nil))
 .ret))))
def T128_0 (E : List (Nat × Blk)) (D : Den) (W : DrawFn) (v0_0 : BS) (v0_1 : Int) (v0_2 : V) (v0_3 : V) (v0_4 : V) (v1 : Int) (σ : H) : Ans :=
 chk (allOne (V.cells (V.agg [(V.str v0_0), (V.int .i64 v0_1), v0_2, v0_3, v0_4]))) (
 let s1 := newB σ (.cells (V.cells (V.agg [(V.str v0_0), (V.int .i64 v0_1), v0_2, v0_3, v0_4])));
 let s2 := newB s1 (.cells [V.nils]);
 gdrawK (W G128_0 H128_0 [(1, (V.int .i64 v1)), (2, (V.ptr (H.next σ) 0)), (5, (V.ptr (H.next s1) 0))] s2) fun e3 s4 =>
 getL e3 5 fun u5 =>
 rtPtr u5 fun b6 o7 =>
 ldK E s4 b6 o7 fun u8 =>
 some (u8, s4))
theorem P128_0 (E : List (Nat × Blk)) (D : Den) (W : DrawFn) (N : Nat) (v0_0 : BS) (v0_1 : Int) (v0_2 : V) (v0_3 : V) (v0_4 : V) (v1 : Int) (σ : H) :
  denC E D W N (C128_0 ) ⟨[(0, (V.agg [(V.str v0_0), (V.int .i64 v0_1), v0_2, v0_3, v0_4])), (1, (V.int .i64 v1))], [], [], σ⟩ (Fin128 E) (fun _ _ => none) (Fin128 E) =
  T128_0 E D W  v0_0 v0_1 v0_2 v0_3 v0_4 v1 σ := by kernel_rfl
def J128_0 (E : List (Nat × Blk)) (D : Den) (W : DrawFn) (N : Nat) : BS → Int → V → V → V → Int → H → Ans := T128_0 E D W 
theorem JE128_0 (E : List (Nat × Blk)) (D : Den) (W : DrawFn) (N : Nat) (v0_0 : BS) (v0_1 : Int) (v0_2 : V) (v0_3 : V) (v0_4 : V) (v1 : Int) (σ : H) :
  denC E D W N C128_0 ⟨[(0, (V.agg [(V.str v0_0), (V.int .i64 v0_1), v0_2, v0_3, v0_4])), (1, (V.int .i64 v1))], [], [], σ⟩ (Fin128 E) (fun _ _ => none) (Fin128 E) = J128_0 E D W N v0_0 v0_1 v0_2 v0_3 v0_4 v1 σ := by
  refine (P128_0 E D W N   v0_0 v0_1 v0_2 v0_3 v0_4 v1 σ).trans ?_
  kernel_rfl
def F128 (E : List (Nat × Blk)) (D : Den) (W : DrawFn) (N : Nat) (args : List V) (σ : H) : Ans :=
 rtCons args fun x1 l2 =>
 rtAgg x1 fun l3 =>
 rtCons l3 fun x4 l5 =>
 rtStr x4 fun x6 =>
 rtCons l5 fun x7 l8 =>
 rtInt .i64 x7 fun x9 =>
 rtCons l8 fun x10 l11 =>
 rtCons l11 fun x12 l13 =>
 rtCons l13 fun x14 l15 =>
 rtNil l15 (
 rtCons l2 fun x16 l17 =>
 rtInt .i64 x16 fun x18 =>
 rtNil l17 (
 J128_0 E D W N x6 x9 x10 x12 x14 x18 σ))
def A128 : XFn := ⟨15, [(.agg [.str, (.int .i64), .any, .any, .any]), (.int .i64)], [(.tmp 4)], C128_0⟩
theorem FE128 (E : List (Nat × Blk)) (D : Den) (W : DrawFn) (N : Nat) (args : List V) (σ : H) : runX E D W N A128 args σ = F128 E D W N args σ := by
  unfold F128
  simp only [← JE128_0]
  kernel_rfl
theorem AO128 : A128.body.ok = true := by kernel_rfl

/-! ### F129: ogham_refs.lost -/
def Fin129 (E : List (Nat × Blk)) : St → Ans := fun s => resK E s [(.tmp 4)] fun l => some (oneV l, s.σ)
def C129_0 : XC := (.seq (.ops (.op (some 2) .any [0] (.box 99 (.tmp 0)) <|
 .op (some 4) .any [] (.mov (.con (V.bool false))) <|
 .nil))
 (.seq (.ops (.op (some 5) (.agg [.str, (.int .i64), .any, .any, .any]) [2] (.load (some 5) (.tmp 2)) <|
 .op (some 6) .any [1] (.mov (.tmp 1)) <|
 .op (some 7) .one [5, 6] (.call 128 [(.tmp 5), (.tmp 6)]) <|
 .op (some 8) .any [2] (.mkfn 160 [] [(.tmp 2)]) <|
 .op (some 9) .bool [7, 8] (.call 159 [(.tmp 7), (.tmp 8)]) <|
 .op (some 4) .any [9] (.mov (.tmp 9)) <|
 .nil))
 .ret))
def T129_0 (E : List (Nat × Blk)) (D : Den) (W : DrawFn) (v0_0 : BS) (v0_1 : Int) (v0_2 : V) (v0_3 : V) (v0_4 : V) (v1 : Int) (σ : H) : Ans :=
 chk (allOne (V.cells (V.agg [(V.str v0_0), (V.int .i64 v0_1), v0_2, v0_3, v0_4]))) (
 let s1 := newB σ (.cells (V.cells (V.agg [(V.str v0_0), (V.int .i64 v0_1), v0_2, v0_3, v0_4])));
 ldnK E s1 (H.next σ) 0 5 fun l2 =>
 rtCons l2 fun x3 l4 =>
 rtStr x3 fun x5 =>
 rtCons l4 fun x6 l7 =>
 rtInt .i64 x6 fun x8 =>
 rtCons l7 fun x9 l10 =>
 rtCons l10 fun x11 l12 =>
 rtCons l12 fun x13 l14 =>
 rtNil l14 (
 callK (D 128 [(V.agg [(V.str x5), (V.int .i64 x8), x9, x11, x13]), (V.int .i64 v1)] s1) fun u15 s16 =>
 rtOne u15 (
 callK (D 159 [u15, (V.fn 160 [] [(V.ptr (H.next σ) 0)])] s16) fun u17 s18 =>
 rtBool u17 fun x19 =>
 some ((V.bool x19), s18))))
theorem P129_0 (E : List (Nat × Blk)) (D : Den) (W : DrawFn) (N : Nat) (v0_0 : BS) (v0_1 : Int) (v0_2 : V) (v0_3 : V) (v0_4 : V) (v1 : Int) (σ : H) :
  denC E D W N (C129_0 ) ⟨[(0, (V.agg [(V.str v0_0), (V.int .i64 v0_1), v0_2, v0_3, v0_4])), (1, (V.int .i64 v1))], [], [], σ⟩ (Fin129 E) (fun _ _ => none) (Fin129 E) =
  T129_0 E D W  v0_0 v0_1 v0_2 v0_3 v0_4 v1 σ := by kernel_rfl
def J129_0 (E : List (Nat × Blk)) (D : Den) (W : DrawFn) (N : Nat) : BS → Int → V → V → V → Int → H → Ans := T129_0 E D W 
theorem JE129_0 (E : List (Nat × Blk)) (D : Den) (W : DrawFn) (N : Nat) (v0_0 : BS) (v0_1 : Int) (v0_2 : V) (v0_3 : V) (v0_4 : V) (v1 : Int) (σ : H) :
  denC E D W N C129_0 ⟨[(0, (V.agg [(V.str v0_0), (V.int .i64 v0_1), v0_2, v0_3, v0_4])), (1, (V.int .i64 v1))], [], [], σ⟩ (Fin129 E) (fun _ _ => none) (Fin129 E) = J129_0 E D W N v0_0 v0_1 v0_2 v0_3 v0_4 v1 σ := by
  refine (P129_0 E D W N   v0_0 v0_1 v0_2 v0_3 v0_4 v1 σ).trans ?_
  kernel_rfl
def F129 (E : List (Nat × Blk)) (D : Den) (W : DrawFn) (N : Nat) (args : List V) (σ : H) : Ans :=
 rtCons args fun x1 l2 =>
 rtAgg x1 fun l3 =>
 rtCons l3 fun x4 l5 =>
 rtStr x4 fun x6 =>
 rtCons l5 fun x7 l8 =>
 rtInt .i64 x7 fun x9 =>
 rtCons l8 fun x10 l11 =>
 rtCons l11 fun x12 l13 =>
 rtCons l13 fun x14 l15 =>
 rtNil l15 (
 rtCons l2 fun x16 l17 =>
 rtInt .i64 x16 fun x18 =>
 rtNil l17 (
 J129_0 E D W N x6 x9 x10 x12 x14 x18 σ))
def A129 : XFn := ⟨10, [(.agg [.str, (.int .i64), .any, .any, .any]), (.int .i64)], [(.tmp 4)], C129_0⟩
theorem FE129 (E : List (Nat × Blk)) (D : Den) (W : DrawFn) (N : Nat) (args : List V) (σ : H) : runX E D W N A129 args σ = F129 E D W N args σ := by
  unfold F129
  simp only [← JE129_0]
  kernel_rfl
theorem AO129 : A129.body.ok = true := by kernel_rfl

/-! ### F130: ogham_refs.reaches -/
def Fin130 (E : List (Nat × Blk)) : St → Ans := fun s => resK E s [] fun l => some (oneV l, s.σ)
def C130_0 (cc1 : XC) : XC := (.seq (.ops (.op (some 8) .any [0] (.mov (.tmp 0)) <|
 .op (some 9) .any [1] (.mov (.tmp 1)) <|
 .op (some 10) .any [8, 9] (.iaddrS 1 (.tmp 8) (.tmp 9)) <|
 .op (some 11) .any [10] (.load none (.tmp 10)) <|
 .op (some 12) .any [11] (.len false (.tmp 11)) <|
 .op (some 13) .any [] (.mov (.con (V.int .i64 (Int.ofNat 0)))) <|
 .nil))
 (.block 0 (.loop [(0, .any), (2, .any), (11, .any), (12, (.int .i64)), (13, (.int .i64))] [] [] cc1)))
def T130_0 (E : List (Nat × Blk)) (D : Den) (W : DrawFn) (K1 : V → V → V → Int → Int → H → Ans) (v0 : V) (v1 : Int) (v2 : V) (σ : H) : Ans :=
 iaddrSK 1 v0 v1 fun b1 o2 =>
 ldK E σ b1 o2 fun u3 =>
 slenK u3 fun n4 =>
 K1 v0 v2 u3 (Int.ofNat n4) (Int.ofNat 0) σ
def C130_1 (cc2 : XC) : XC := (.seq (.ops (.op (some 14) .any [13, 12] (.bin .lss .none (.tmp 13) (.tmp 12)) <|
 .nil))
 (.seq (.cond (.tmp 14) .skip
 (.exit 0))
 (.seq (.block 1 (.seq (.ops (.op (some 15) .any [11, 13] (.iaddrS 1 (.tmp 11) (.tmp 13)) <|
 .op (some 16) (.int .i64) [15] (.load none (.tmp 15)) <|
 .op (some 7) .any [16] (.mov (.tmp 16)) <|
 .nil))
 (.seq (.ops (.op (some 17) .any [2] (.mov (.tmp 2)) <|
 .op (some 18) .any [7] (.mov (.tmp 7)) <|
 .op (some 19) .any [17, 18] (.iaddrS 1 (.tmp 17) (.tmp 18)) <|
 .op (some 20) .bool [19] (.load none (.tmp 19)) <|
 .op (some 21) .any [20] (.un .not (.tmp 20)) <|
 .nil))
 (.cond (.tmp 21) (.seq (.ops (.op (some 22) .any [2] (.mov (.tmp 2)) <|
 .op (some 23) .any [7] (.mov (.tmp 7)) <|
 .op (some 24) .any [22, 23] (.iaddrS 1 (.tmp 22) (.tmp 23)) <|
 .op none .any [24] (.store 1 (.tmp 24) (.con (V.bool true))) <|
 .nil))
 (.ops (.op (some 25) .any [0] (.mov (.tmp 0)) <|
 .op (some 26) .any [7] (.mov (.tmp 7)) <|
 .op (some 27) .any [2] (.mov (.tmp 2)) <|
 .op (some 28) (.tup []) [25, 26, 27] (.call 130 [(.tmp 25), (.tmp 26), (.tmp 27)]) <|
 .nil)))
 .skip))))
 (.keep [(0, .any), (2, .any), (11, .any), (12, (.int .i64)), (13, (.int .i64))] [] [] cc2))))
def T130_1 (E : List (Nat × Blk)) (D : Den) (W : DrawFn) (K2 : V → V → V → Int → Int → H → Ans) (v0 : V) (v2 : V) (v11 : V) (v12 : Int) (v13 : Int) (σ : H) : Ans :=
 condK (ltF v13 v12) (
 iaddrSK 1 v11 v13 fun b1 o2 =>
 ldK E σ b1 o2 fun u3 =>
 rtInt .i64 u3 fun x4 =>
 iaddrSK 1 v2 x4 fun b5 o6 =>
 ldK E σ b5 o6 fun u7 =>
 rtBool u7 fun x8 =>
 condK (not x8) (
 iaddrSK 1 v2 x4 fun b9 o10 =>
 stK 1 b9 o10 (V.bool true) σ fun s11 =>
 callK (D 130 [v0, (V.int .i64 x4), v2] s11) fun u12 s13 =>
 rtTup u12 fun l14 =>
 rtNil l14 (
 K2 v0 v2 v11 v12 v13 s13)) (
 K2 v0 v2 v11 v12 v13 σ)) (
 some ((V.tup []), σ))
def C130_2 : XC := (.ops (.op (some 29) .any [13] (.bin .add .none (.tmp 13) (.con (V.int .i64 (Int.ofNat 1)))) <|
 .op (some 13) .any [29] (.mov (.tmp 29)) <|
 .nil))
def T130_2 (E : List (Nat × Blk)) (D : Den) (W : DrawFn) (R1 : V → V → V → Int → Int → H → Ans) (v0 : V) (v2 : V) (v11 : V) (v12 : Int) (v13 : Int) (σ : H) : Ans :=
 R1 v0 v2 v11 v12 (addF .i64 v13 (Int.ofNat 1)) σ
theorem P130_0 (E : List (Nat × Blk)) (D : Den) (W : DrawFn) (N : Nat) (cc1 : XC) (v0 : V) (v1 : Int) (v2 : V) (σ : H) :
  denC E D W N (C130_0 cc1) ⟨[(0, v0), (1, (V.int .i64 v1)), (2, v2)], [], [], σ⟩ (Fin130 E) (fun _ _ => none) (Fin130 E) =
  T130_0 E D W (fun v0 v2 v11 v12 v13 σ => iterK (fun rec s' => denC E D W N cc1 s' (fun s'' => keepS [(0, .any), (2, .any), (11, .any), (12, (.int .i64)), (13, (.int .i64))] [] [] s'' rec) (blkK 0 (Fin130 E) (fun _ _ => none)) (Fin130 E)) N ⟨[(0, v0), (2, v2), (11, v11), (12, (V.int .i64 v12)), (13, (V.int .i64 v13))], [], [], σ⟩) v0 v1 v2 σ := by kernel_rfl
theorem P130_1 (E : List (Nat × Blk)) (D : Den) (W : DrawFn) (N : Nat) (cc2 : XC) (li1 : St → Ans) (v0 : V) (v2 : V) (v11 : V) (v12 : Int) (v13 : Int) (σ : H) :
  denC E D W N (C130_1 cc2) ⟨[(0, v0), (2, v2), (11, v11), (12, (V.int .i64 v12)), (13, (V.int .i64 v13))], [], [], σ⟩ (fun s'' => keepS [(0, .any), (2, .any), (11, .any), (12, (.int .i64)), (13, (.int .i64))] [] [] s'' li1) (blkK 0 (Fin130 E) (fun _ _ => none)) (Fin130 E) =
  T130_1 E D W (fun v0 v2 v11 v12 v13 σ => denC E D W N cc2 ⟨[(0, v0), (2, v2), (11, v11), (12, (V.int .i64 v12)), (13, (V.int .i64 v13))], [], [], σ⟩ (fun s'' => keepS [(0, .any), (2, .any), (11, .any), (12, (.int .i64)), (13, (.int .i64))] [] [] s'' li1) (blkK 0 (Fin130 E) (fun _ _ => none)) (Fin130 E)) v0 v2 v11 v12 v13 σ := by kernel_rfl
theorem P130_2 (E : List (Nat × Blk)) (D : Den) (W : DrawFn) (N : Nat) (li1 : St → Ans) (v0 : V) (v2 : V) (v11 : V) (v12 : Int) (v13 : Int) (σ : H) :
  denC E D W N (C130_2 ) ⟨[(0, v0), (2, v2), (11, v11), (12, (V.int .i64 v12)), (13, (V.int .i64 v13))], [], [], σ⟩ (fun s'' => keepS [(0, .any), (2, .any), (11, .any), (12, (.int .i64)), (13, (.int .i64))] [] [] s'' li1) (blkK 0 (Fin130 E) (fun _ _ => none)) (Fin130 E) =
  T130_2 E D W (fun v0 v2 v11 v12 v13 σ => li1 ⟨[(0, v0), (2, v2), (11, v11), (12, (V.int .i64 v12)), (13, (V.int .i64 v13))], [], [], σ⟩) v0 v2 v11 v12 v13 σ := by kernel_rfl
def J130_2 (E : List (Nat × Blk)) (D : Den) (W : DrawFn) (N : Nat) (R1 : V → V → V → Int → Int → H → Ans) : V → V → V → Int → Int → H → Ans := T130_2 E D W R1
theorem JE130_2 (E : List (Nat × Blk)) (D : Den) (W : DrawFn) (N : Nat) (li1 : St → Ans) (v0 : V) (v2 : V) (v11 : V) (v12 : Int) (v13 : Int) (σ : H) :
  denC E D W N C130_2 ⟨[(0, v0), (2, v2), (11, v11), (12, (V.int .i64 v12)), (13, (V.int .i64 v13))], [], [], σ⟩ (fun s'' => keepS [(0, .any), (2, .any), (11, .any), (12, (.int .i64)), (13, (.int .i64))] [] [] s'' li1) (blkK 0 (Fin130 E) (fun _ _ => none)) (Fin130 E) = J130_2 E D W N (fun v0 v2 v11 v12 v13 σ => li1 ⟨[(0, v0), (2, v2), (11, v11), (12, (V.int .i64 v12)), (13, (V.int .i64 v13))], [], [], σ⟩) v0 v2 v11 v12 v13 σ := by
  refine (P130_2 E D W N  li1 v0 v2 v11 v12 v13 σ).trans ?_
  kernel_rfl
def L130_1 (E : List (Nat × Blk)) (D : Den) (W : DrawFn) (N : Nat) (n : Nat) : V → V → V → Int → Int → H → Ans :=
  Nat.rec (fun _ _ _ _ _ _ => none) (fun _ ih => T130_1 E D W (J130_2 E D W N ih)) n
theorem LE130_1 (E : List (Nat × Blk)) (D : Den) (W : DrawFn) (N : Nat) (n : Nat) : ∀ (v0 : V) (v2 : V) (v11 : V) (v12 : Int) (v13 : Int) (σ : H),
  iterK (fun rec s' => denC E D W N (C130_1 C130_2) s' (fun s'' => keepS [(0, .any), (2, .any), (11, .any), (12, (.int .i64)), (13, (.int .i64))] [] [] s'' rec) (blkK 0 (Fin130 E) (fun _ _ => none)) (Fin130 E)) n ⟨[(0, v0), (2, v2), (11, v11), (12, (V.int .i64 v12)), (13, (V.int .i64 v13))], [], [], σ⟩ = L130_1 E D W N n v0 v2 v11 v12 v13 σ := by
  induction n with
  | zero => intro v0 v2 v11 v12 v13 σ; rfl
  | succ n ihn =>
    intro v0 v2 v11 v12 v13 σ
    rw [iterK_succ]
    refine (P130_1 E D W N C130_2 (iterK (fun rec s' => denC E D W N (C130_1 C130_2) s' (fun s'' => keepS [(0, .any), (2, .any), (11, .any), (12, (.int .i64)), (13, (.int .i64))] [] [] s'' rec) (blkK 0 (Fin130 E) (fun _ _ => none)) (Fin130 E)) n) v0 v2 v11 v12 v13 σ).trans ?_
    simp only [ihn, JE130_2]
    kernel_rfl
def J130_0 (E : List (Nat × Blk)) (D : Den) (W : DrawFn) (N : Nat) : V → Int → V → H → Ans := T130_0 E D W (L130_1 E D W N N)
theorem JE130_0 (E : List (Nat × Blk)) (D : Den) (W : DrawFn) (N : Nat) (v0 : V) (v1 : Int) (v2 : V) (σ : H) :
  denC E D W N (C130_0 (C130_1 C130_2)) ⟨[(0, v0), (1, (V.int .i64 v1)), (2, v2)], [], [], σ⟩ (Fin130 E) (fun _ _ => none) (Fin130 E) = J130_0 E D W N v0 v1 v2 σ := by
  refine (P130_0 E D W N (C130_1 C130_2)  v0 v1 v2 σ).trans ?_
  simp only [LE130_1]
  kernel_rfl
def F130 (E : List (Nat × Blk)) (D : Den) (W : DrawFn) (N : Nat) (args : List V) (σ : H) : Ans :=
 rtCons args fun x1 l2 =>
 rtCons l2 fun x3 l4 =>
 rtInt .i64 x3 fun x5 =>
 rtCons l4 fun x6 l7 =>
 rtNil l7 (
 J130_0 E D W N x1 x5 x6 σ)
def A130 : XFn := ⟨30, [.any, (.int .i64), .any], [], (C130_0 (C130_1 C130_2))⟩
theorem FE130 (E : List (Nat × Blk)) (D : Den) (W : DrawFn) (N : Nat) (args : List V) (σ : H) : runX E D W N A130 args σ = F130 E D W N args σ := by
  unfold F130
  simp only [← JE130_0]
  kernel_rfl
theorem AO130 : A130.body.ok = true := by kernel_rfl

def C131_0 (cc1 : XC) (cc2 : XC) : XC := (.seq (.ops (.op (some 4) .any [] (.mov (.con (V.int .i64 (Int.ofNat 0)))) <|
 .nil))
 (.seq (.seq (.ops (.op (some 6) .any [0] (.mov (.tmp 0)) <|
 .op (some 7) .any [6] (.len false (.tmp 6)) <|
 .op (some 8) .any [] (.mov (.con (V.int .i64 (Int.ofNat 0)))) <|
 .nil))
 (.block 0 (.loop [(0, .any), (1, (.int .i64)), (7, (.int .i64)), (8, (.int .i64))] [] [] cc2)))
 (.keep [] [] [] cc1)))
def C131_1 : XC := (.seq (.ops (.op (some 4) .any [] (.mov (.con (V.int .i64 (Int.negSucc 0)))) <|
 .nil))
 .ret)
def C131_2 : XC := (.seq (.ops (.op (some 9) .any [8, 7] (.bin .lss .none (.tmp 8) (.tmp 7)) <|
 .nil))
 (.seq (.cond (.tmp 9) .skip
 (.exit 0))
 (.seq (.block 1 (.seq (.ops (.op (some 10) .any [8] (.mov (.tmp 8)) <|
 .op (some 5) .any [10] (.mov (.tmp 10)) <|
 .nil))
 (.seq (.ops (.op (some 11) .any [1] (.mov (.tmp 1)) <|
 .op (some 12) .any [0] (.mov (.tmp 0)) <|
 .op (some 13) .any [5] (.mov (.tmp 5)) <|
 .op (some 14) .any [12, 13] (.iaddrS 1 (.tmp 12) (.tmp 13)) <|
 .op (some 15) (.int .i64) [14] (.load none (.tmp 14)) <|
 .op (some 16) .any [11, 15] (.bin .eql .none (.tmp 11) (.tmp 15)) <|
 .nil))
 (.cond (.tmp 16) (.seq (.ops (.op (some 17) .any [5] (.mov (.tmp 5)) <|
 .op (some 4) .any [17] (.mov (.tmp 17)) <|
 .nil))
 .ret)
 .skip))))
 (.ops (.op (some 18) .any [8] (.bin .add .none (.tmp 8) (.con (V.int .i64 (Int.ofNat 1)))) <|
 .op (some 8) .any [18] (.mov (.tmp 18)) <|
 .nil)))))
def A131 : XFn := ⟨19, [.any, (.int .i64)], [(.tmp 4)], (C131_0 C131_1 C131_2)⟩
def C132_0 (cc1 : XC) (cc2 : XC) : XC := (.seq (.ops (.op (some 4) .any [] (.mov (.con (V.int .i64 (Int.ofNat 0)))) <|
 .nil))
 (.seq (.seq (.ops (.op (some 6) .any [0] (.mov (.tmp 0)) <|
 .op (some 7) .any [6] (.len false (.tmp 6)) <|
 .op (some 8) .any [] (.mov (.con (V.int .i64 (Int.ofNat 0)))) <|
 .nil))
 (.block 0 (.loop [(0, .any), (1, .any), (7, (.int .i64)), (8, (.int .i64))] [] [] cc2)))
 (.keep [] [] [] cc1)))
def C132_1 : XC := (.seq (.ops (.op (some 4) .any [] (.mov (.con (V.int .i64 (Int.negSucc 0)))) <|
 .nil))
 .ret)
def C132_2 : XC := (.seq (.ops (.op (some 9) .any [8, 7] (.bin .lss .none (.tmp 8) (.tmp 7)) <|
 .nil))
 (.seq (.cond (.tmp 9) .skip
 (.exit 0))
 (.seq (.block 1 (.seq (.ops (.op (some 10) .any [8] (.mov (.tmp 8)) <|
 .op (some 5) .any [10] (.mov (.tmp 10)) <|
 .nil))
 (.seq (.ops (.op (some 11) .any [1] (.mov (.tmp 1)) <|
 .op (some 12) .any [0] (.mov (.tmp 0)) <|
 .op (some 13) .any [5] (.mov (.tmp 5)) <|
 .op (some 14) .any [12, 13] (.iaddrS 1 (.tmp 12) (.tmp 13)) <|
 .op (some 15) (.int .i64) [14] (.load none (.tmp 14)) <|
 .op (some 16) .bool [11, 15] (.callv (.tmp 11) [(.tmp 15)]) <|
 .nil))
 (.cond (.tmp 16) (.seq (.ops (.op (some 17) .any [5] (.mov (.tmp 5)) <|
 .op (some 4) .any [17] (.mov (.tmp 17)) <|
 .nil))
 .ret)
 .skip))))
 (.ops (.op (some 18) .any [8] (.bin .add .none (.tmp 8) (.con (V.int .i64 (Int.ofNat 1)))) <|
 .op (some 8) .any [18] (.mov (.tmp 18)) <|
 .nil)))))
def A132 : XFn := ⟨19, [.any, .any], [(.tmp 4)], (C132_0 C132_1 C132_2)⟩
/-! ### F133: ogham_tags.Universal -/
def Fin133 (E : List (Nat × Blk)) : St → Ans := fun s => resK E s [(.cell 2 (some 2))] fun l => some (oneV l, s.σ)
def C133_0 (cc1 : XC) (cc2 : XC) : XC := (.seq (.ops (.pal 2 [] 118 [(V.int .i64 (Int.ofNat 0)), (V.int .i64 (Int.ofNat 0))] <|
 .nil))
 (.seq (.ops (.op (some 3) .any [] (.mov (.con (V.int .i64 (Int.ofNat 0)))) <|
 .nil))
 (.seq (.seq (.ops (.op (some 4) .any [0] (.mov (.tmp 0)) <|
 .nil))
 (.block 0 (.seq (.ops (.op (some 6) .any [4] (.bin .eql .none (.tmp 4) (.con (V.int .i64 (Int.ofNat 1)))) <|
 .op (some 5) .any [6] (.mov (.tmp 6)) <|
 .nil))
 (.cond (.tmp 5) (.ops (.op (some 3) .any [] (.mov (.con (V.int .i64 (Int.ofNat 1)))) <|
 .nil))
 (.seq (.ops (.op (some 8) .any [4] (.bin .eql .none (.tmp 4) (.con (V.int .i64 (Int.ofNat 2)))) <|
 .op (some 7) .any [8] (.mov (.tmp 8)) <|
 .nil))
 (.cond (.tmp 7) (.ops (.op (some 3) .any [] (.mov (.con (V.int .i64 (Int.ofNat 2)))) <|
 .nil))
 (.seq (.ops (.op (some 10) .any [4] (.bin .eql .none (.tmp 4) (.con (V.int .i64 (Int.ofNat 5)))) <|
 .op (some 9) .any [10] (.mov (.tmp 10)) <|
 .nil))
 (.cond (.tmp 9) (.ops (.op (some 3) .any [] (.mov (.con (V.int .i64 (Int.ofNat 4)))) <|
 .nil))
 (.seq (.ops (.op (some 12) .any [4] (.bin .eql .none (.tmp 4) (.con (V.int .i64 (Int.ofNat 4)))) <|
 .op (some 11) .any [12] (.mov (.tmp 12)) <|
 .nil))
 (.cond (.tmp 11) (.ops (.op (some 3) .any [] (.mov (.con (V.int .i64 (Int.ofNat 5)))) <|
 .nil))
 (.seq (.ops (.op (some 14) .any [4] (.bin .eql .none (.tmp 4) (.con (V.int .i64 (Int.ofNat 3)))) <|
 .op (some 13) .any [14] (.mov (.tmp 14)) <|
 .nil))
 (.cond (.tmp 13) (.ops (.op (some 3) .any [] (.mov (.con (V.int .i64 (Int.ofNat 10)))) <|
 .nil))
 (.seq (.ops (.op (some 16) .any [4] (.bin .eql .none (.tmp 4) (.con (V.int .i64 (Int.ofNat 6)))) <|
 .op (some 15) .any [16] (.mov (.tmp 16)) <|
 .nil))
 (.cond (.tmp 15) (.ops (.op (some 3) .any [] (.mov (.con (V.int .i64 (Int.ofNat 12)))) <|
 .nil))
 (.seq (.seq (.ops (.op (some 18) .any [4] (.bin .eql .none (.tmp 4) (.con (V.int .i64 (Int.ofNat 7)))) <|
 .op (some 17) .any [18] (.mov (.tmp 18)) <|
 .nil))
 (.cond (.tmp 17) .skip
 (.ops (.op (some 19) .any [4] (.bin .eql .none (.tmp 4) (.con (V.int .i64 (Int.ofNat 10)))) <|
 .op (some 17) .any [19] (.mov (.tmp 19)) <|
 .nil))))
 (.keep [(3, (.int .i64)), (4, (.int .i64)), (17, .bool)] [2] [(2, [(.int .i64), (.int .i64)])] cc2))))))))))))))))
 (.keep [(3, (.int .i64))] [2] [(2, [(.int .i64), (.int .i64)])] cc1))))
def T133_0 (E : List (Nat × Blk)) (D : Den) (W : DrawFn) (K1 : Int → Int → Int → H → Ans) (K2 : Int → Int → Bool → Int → Int → H → Ans) (v0 : Int) (σ : H) : Ans :=
 condK (eqF v0 (Int.ofNat 1)) (
 K1 (Int.ofNat 1) (Int.ofNat 0) (Int.ofNat 0) σ) (
 condK (eqF v0 (Int.ofNat 2)) (
 K1 (Int.ofNat 2) (Int.ofNat 0) (Int.ofNat 0) σ) (
 condK (eqF v0 (Int.ofNat 5)) (
 K1 (Int.ofNat 4) (Int.ofNat 0) (Int.ofNat 0) σ) (
 condK (eqF v0 (Int.ofNat 4)) (
 K1 (Int.ofNat 5) (Int.ofNat 0) (Int.ofNat 0) σ) (
 condK (eqF v0 (Int.ofNat 3)) (
 K1 (Int.ofNat 10) (Int.ofNat 0) (Int.ofNat 0) σ) (
 condK (eqF v0 (Int.ofNat 6)) (
 K1 (Int.ofNat 12) (Int.ofNat 0) (Int.ofNat 0) σ) (
 condK (eqF v0 (Int.ofNat 7)) (
 K2 (Int.ofNat 0) v0 (eqF v0 (Int.ofNat 7)) (Int.ofNat 0) (Int.ofNat 0) σ) (
 K2 (Int.ofNat 0) v0 (eqF v0 (Int.ofNat 10)) (Int.ofNat 0) (Int.ofNat 0) σ)))))))
def C133_1 : XC := (.seq (.ops (.op (some 22) .any [3] (.mov (.tmp 3)) <|
 .op (some 23) (.agg [(.int .i64), (.int .i64)]) [22] (.build [(V.int .i64 (Int.ofNat 0)), (V.int .i64 (Int.ofNat 0))] [(0, 1, (.con (V.int .i64 (Int.ofNat 0)))), (1, 1, (.tmp 22))]) <|
 .op none (.agg [(.int .i64), (.int .i64)]) [2, 23] (.store 2 (.tmp 2) (.tmp 23)) <|
 .nil))
 .ret)
def T133_1 (E : List (Nat × Blk)) (D : Den) (W : DrawFn) (v3 : Int) (r2_0 : Int) (r2_1 : Int) (σ : H) : Ans :=
 some ((V.agg [(V.int .i64 (Int.ofNat 0)), (V.int .i64 v3)]), σ)
def C133_2 : XC := (.cond (.tmp 17) (.ops (.op (some 3) .any [] (.mov (.con (V.int .i64 (Int.ofNat 16)))) <|
 .nil))
 (.seq (.ops (.op (some 21) .any [4] (.bin .eql .none (.tmp 4) (.con (V.int .i64 (Int.ofNat 8)))) <|
 .op (some 20) .any [21] (.mov (.tmp 21)) <|
 .nil))
 (.cond (.tmp 20) (.ops (.op (some 3) .any [] (.mov (.con (V.int .i64 (Int.ofNat 17)))) <|
 .nil))
 .skip)))
def T133_2 (E : List (Nat × Blk)) (D : Den) (W : DrawFn) (K1 : Int → Int → Int → H → Ans) (v3 : Int) (v4 : Int) (v17 : Bool) (r2_0 : Int) (r2_1 : Int) (σ : H) : Ans :=
 condK v17 (
 K1 (Int.ofNat 16) r2_0 r2_1 σ) (
 condK (eqF v4 (Int.ofNat 8)) (
 K1 (Int.ofNat 17) r2_0 r2_1 σ) (
 K1 v3 r2_0 r2_1 σ))
theorem P133_0 (E : List (Nat × Blk)) (D : Den) (W : DrawFn) (N : Nat) (cc1 : XC) (cc2 : XC) (v0 : Int) (σ : H) :
  denC E D W N (C133_0 cc1 cc2) ⟨[(0, (V.int .i64 v0))], [], [], σ⟩ (Fin133 E) (fun _ _ => none) (Fin133 E) =
  T133_0 E D W (fun v3 r2_0 r2_1 σ => denC E D W N cc1 ⟨[(3, (V.int .i64 v3))], [(2, (2, 0))], [(2, [(V.int .i64 r2_0), (V.int .i64 r2_1)])], σ⟩ (Fin133 E) (fun _ _ => none) (Fin133 E)) (fun v3 v4 v17 r2_0 r2_1 σ => denC E D W N cc2 ⟨[(3, (V.int .i64 v3)), (4, (V.int .i64 v4)), (17, (V.bool v17))], [(2, (2, 0))], [(2, [(V.int .i64 r2_0), (V.int .i64 r2_1)])], σ⟩ (fun s' => denC E D W N (.keep [(3, (.int .i64))] [2] [(2, [(.int .i64), (.int .i64)])] cc1) s' (Fin133 E) (fun _ _ => none) (Fin133 E)) (blkK 0 (fun s' => denC E D W N (.keep [(3, (.int .i64))] [2] [(2, [(.int .i64), (.int .i64)])] cc1) s' (Fin133 E) (fun _ _ => none) (Fin133 E)) (fun _ _ => none)) (Fin133 E)) v0 σ := by kernel_rfl
theorem P133_1 (E : List (Nat × Blk)) (D : Den) (W : DrawFn) (N : Nat) (v3 : Int) (r2_0 : Int) (r2_1 : Int) (σ : H) :
  denC E D W N (C133_1 ) ⟨[(3, (V.int .i64 v3))], [(2, (2, 0))], [(2, [(V.int .i64 r2_0), (V.int .i64 r2_1)])], σ⟩ (Fin133 E) (fun _ _ => none) (Fin133 E) =
  T133_1 E D W  v3 r2_0 r2_1 σ := by kernel_rfl
theorem P133_2 (E : List (Nat × Blk)) (D : Den) (W : DrawFn) (N : Nat) (cc1 : XC) (v3 : Int) (v4 : Int) (v17 : Bool) (r2_0 : Int) (r2_1 : Int) (σ : H) :
  denC E D W N (C133_2 ) ⟨[(3, (V.int .i64 v3)), (4, (V.int .i64 v4)), (17, (V.bool v17))], [(2, (2, 0))], [(2, [(V.int .i64 r2_0), (V.int .i64 r2_1)])], σ⟩ (fun s' => denC E D W N (.keep [(3, (.int .i64))] [2] [(2, [(.int .i64), (.int .i64)])] cc1) s' (Fin133 E) (fun _ _ => none) (Fin133 E)) (blkK 0 (fun s' => denC E D W N (.keep [(3, (.int .i64))] [2] [(2, [(.int .i64), (.int .i64)])] cc1) s' (Fin133 E) (fun _ _ => none) (Fin133 E)) (fun _ _ => none)) (Fin133 E) =
  T133_2 E D W (fun v3 r2_0 r2_1 σ => denC E D W N cc1 ⟨[(3, (V.int .i64 v3))], [(2, (2, 0))], [(2, [(V.int .i64 r2_0), (V.int .i64 r2_1)])], σ⟩ (Fin133 E) (fun _ _ => none) (Fin133 E)) v3 v4 v17 r2_0 r2_1 σ := by kernel_rfl
def J133_1 (E : List (Nat × Blk)) (D : Den) (W : DrawFn) (N : Nat) : Int → Int → Int → H → Ans := T133_1 E D W 
theorem JE133_1 (E : List (Nat × Blk)) (D : Den) (W : DrawFn) (N : Nat) (v3 : Int) (r2_0 : Int) (r2_1 : Int) (σ : H) :
  denC E D W N C133_1 ⟨[(3, (V.int .i64 v3))], [(2, (2, 0))], [(2, [(V.int .i64 r2_0), (V.int .i64 r2_1)])], σ⟩ (Fin133 E) (fun _ _ => none) (Fin133 E) = J133_1 E D W N v3 r2_0 r2_1 σ := by
  refine (P133_1 E D W N   v3 r2_0 r2_1 σ).trans ?_
  kernel_rfl
def J133_2 (E : List (Nat × Blk)) (D : Den) (W : DrawFn) (N : Nat) : Int → Int → Bool → Int → Int → H → Ans := T133_2 E D W (J133_1 E D W N )
theorem JE133_2 (E : List (Nat × Blk)) (D : Den) (W : DrawFn) (N : Nat) (v3 : Int) (v4 : Int) (v17 : Bool) (r2_0 : Int) (r2_1 : Int) (σ : H) :
  denC E D W N C133_2 ⟨[(3, (V.int .i64 v3)), (4, (V.int .i64 v4)), (17, (V.bool v17))], [(2, (2, 0))], [(2, [(V.int .i64 r2_0), (V.int .i64 r2_1)])], σ⟩ (fun s' => denC E D W N (.keep [(3, (.int .i64))] [2] [(2, [(.int .i64), (.int .i64)])] C133_1) s' (Fin133 E) (fun _ _ => none) (Fin133 E)) (blkK 0 (fun s' => denC E D W N (.keep [(3, (.int .i64))] [2] [(2, [(.int .i64), (.int .i64)])] C133_1) s' (Fin133 E) (fun _ _ => none) (Fin133 E)) (fun _ _ => none)) (Fin133 E) = J133_2 E D W N v3 v4 v17 r2_0 r2_1 σ := by
  refine (P133_2 E D W N C133_1  v3 v4 v17 r2_0 r2_1 σ).trans ?_
  simp only [JE133_1]
  kernel_rfl
def J133_0 (E : List (Nat × Blk)) (D : Den) (W : DrawFn) (N : Nat) : Int → H → Ans := T133_0 E D W (J133_1 E D W N ) (J133_2 E D W N )
theorem JE133_0 (E : List (Nat × Blk)) (D : Den) (W : DrawFn) (N : Nat) (v0 : Int) (σ : H) :
  denC E D W N (C133_0 C133_1 C133_2) ⟨[(0, (V.int .i64 v0))], [], [], σ⟩ (Fin133 E) (fun _ _ => none) (Fin133 E) = J133_0 E D W N v0 σ := by
  refine (P133_0 E D W N C133_1 C133_2  v0 σ).trans ?_
  simp only [JE133_1, JE133_2]
  kernel_rfl
def F133 (E : List (Nat × Blk)) (D : Den) (W : DrawFn) (N : Nat) (args : List V) (σ : H) : Ans :=
 rtCons args fun x1 l2 =>
 rtInt .i64 x1 fun x3 =>
 rtNil l2 (
 J133_0 E D W N x3 σ)
def A133 : XFn := ⟨24, [(.int .i64)], [(.cell 2 (some 2))], (C133_0 C133_1 C133_2)⟩
theorem FE133 (E : List (Nat × Blk)) (D : Den) (W : DrawFn) (N : Nat) (args : List V) (σ : H) : runX E D W N A133 args σ = F133 E D W N args σ := by
  unfold F133
  simp only [← JE133_0]
  kernel_rfl
theorem AO133 : A133.body.ok = true := by kernel_rfl

/-! ### F134: __ogham_table.types_.add -/
def G134_0 : List AOper := [⟨(some 5), .mov (.tmp 0), none⟩, ⟨(some 6), .mov (.tmp 0), none⟩, ⟨(some 7), .nilck (.tmp 6), none⟩, ⟨(some 8), .faddr 0 (.tmp 7), none⟩, ⟨(some 9), .load none (.tmp 8), none⟩, ⟨(some 10), .load (some 13) (.tmp 3), none⟩, ⟨(some 11), .buildSlice 93 1 [(V.int .i64 (Int.ofNat 0)), V.nils, (V.bool false), (V.bool false), (V.bool false), (V.bool false), (V.int .i64 (Int.ofNat 0)), (V.int .i64 (Int.ofNat 0)), V.nils, V.nils, (V.int .i64 (Int.ofNat 0)), (V.bool false), (V.int .i64 (Int.ofNat 0))] [(0, 13, (.tmp 10))], none⟩, ⟨(some 12), .append 93 13 128 (.tmp 9) (.tmp 11), none⟩, ⟨(some 13), .nilck (.tmp 5), none⟩, ⟨(some 14), .faddr 0 (.tmp 13), none⟩, ⟨none, .store 1 (.tmp 14) (.tmp 12), none⟩]
def H134_0 : List DP := [⟨0, [0]⟩, ⟨0, [0]⟩, ⟨2, [6]⟩, ⟨6, [7]⟩, ⟨14, [8]⟩, ⟨0, [3]⟩, ⟨32, [10]⟩, ⟨126, [9, 11]⟩, ⟨255, [5]⟩, ⟨511, [13]⟩, ⟨1023, [14, 12]⟩]
def Fin134 (E : List (Nat × Blk)) : St → Ans := fun s => resK E s [(.tmp 4)] fun l => some (oneV l, s.σ)
def C134_0 : XC := (.seq (.ops (.op (some 3) .any [1] (.box 93 (.tmp 1)) <|
 .op (some 4) .any [] (.mov (.con (V.int .i64 (Int.ofNat 0)))) <|
 .nil))
 (.seq (.keep [(0, .ptr), (3, .ptr)] [] [] (.gdraw G134_0 H134_0 [(0, .ptr)]))
 (.seq (.ops (.op (some 15) .any [0] (.mov (.tmp 0)) <|
 .op (some 16) .any [15] (.nilck (.tmp 15)) <|
 .op (some 17) .any [16] (.faddr 0 (.tmp 16)) <|
 .op (some 18) .any [17] (.load none (.tmp 17)) <|
 .op (some 19) .any [18] (.len false (.tmp 18)) <|
 .op (some 20) .any [19] (.bin .sub .none (.tmp 19) (.con (V.int .i64 (Int.ofNat 1)))) <|
 .op (some 4) .any [20] (.mov (.tmp 20)) <|
 .nil))
 .ret)))
def T134_0 (E : List (Nat × Blk)) (D : Den) (W : DrawFn) (v0b : Nat) (v0o : Nat) (v1_0 : Int) (v1_1 : V) (v1_2 : Bool) (v1_3 : Bool) (v1_4 : Bool) (v1_5 : Bool) (v1_6 : Int) (v1_7 : Int) (v1_8 : V) (v1_9 : V) (v1_10 : Int) (v1_11 : Bool) (v1_12 : Int) (σ : H) : Ans :=
 chk (allOne (V.cells (V.agg [(V.int .i64 v1_0), v1_1, (V.bool v1_2), (V.bool v1_3), (V.bool v1_4), (V.bool v1_5), (V.int .i64 v1_6), (V.int .i64 v1_7), v1_8, v1_9, (V.int .i64 v1_10), (V.bool v1_11), (V.int .i64 v1_12)]))) (
 let s1 := newB σ (.cells (V.cells (V.agg [(V.int .i64 v1_0), v1_1, (V.bool v1_2), (V.bool v1_3), (V.bool v1_4), (V.bool v1_5), (V.int .i64 v1_6), (V.int .i64 v1_7), v1_8, v1_9, (V.int .i64 v1_10), (V.bool v1_11), (V.int .i64 v1_12)])));
 gdrawK (W G134_0 H134_0 [(0, (V.ptr v0b v0o)), (3, (V.ptr (H.next σ) 0))] s1) fun e2 s3 =>
 getL e2 0 fun u4 =>
 rtPtr u4 fun b5 o6 =>
 ldK E s3 b5 o6 fun u7 =>
 slenK u7 fun n8 =>
 some ((V.int .i64 (subF .i64 (Int.ofNat n8) (Int.ofNat 1))), s3))
theorem P134_0 (E : List (Nat × Blk)) (D : Den) (W : DrawFn) (N : Nat) (v0b : Nat) (v0o : Nat) (v1_0 : Int) (v1_1 : V) (v1_2 : Bool) (v1_3 : Bool) (v1_4 : Bool) (v1_5 : Bool) (v1_6 : Int) (v1_7 : Int) (v1_8 : V) (v1_9 : V) (v1_10 : Int) (v1_11 : Bool) (v1_12 : Int) (σ : H) :
  denC E D W N (C134_0 ) ⟨[(0, (V.ptr v0b v0o)), (1, (V.agg [(V.int .i64 v1_0), v1_1, (V.bool v1_2), (V.bool v1_3), (V.bool v1_4), (V.bool v1_5), (V.int .i64 v1_6), (V.int .i64 v1_7), v1_8, v1_9, (V.int .i64 v1_10), (V.bool v1_11), (V.int .i64 v1_12)]))], [], [], σ⟩ (Fin134 E) (fun _ _ => none) (Fin134 E) =
  T134_0 E D W  v0b v0o v1_0 v1_1 v1_2 v1_3 v1_4 v1_5 v1_6 v1_7 v1_8 v1_9 v1_10 v1_11 v1_12 σ := by kernel_rfl
def J134_0 (E : List (Nat × Blk)) (D : Den) (W : DrawFn) (N : Nat) : Nat → Nat → Int → V → Bool → Bool → Bool → Bool → Int → Int → V → V → Int → Bool → Int → H → Ans := T134_0 E D W 
theorem JE134_0 (E : List (Nat × Blk)) (D : Den) (W : DrawFn) (N : Nat) (v0b : Nat) (v0o : Nat) (v1_0 : Int) (v1_1 : V) (v1_2 : Bool) (v1_3 : Bool) (v1_4 : Bool) (v1_5 : Bool) (v1_6 : Int) (v1_7 : Int) (v1_8 : V) (v1_9 : V) (v1_10 : Int) (v1_11 : Bool) (v1_12 : Int) (σ : H) :
  denC E D W N C134_0 ⟨[(0, (V.ptr v0b v0o)), (1, (V.agg [(V.int .i64 v1_0), v1_1, (V.bool v1_2), (V.bool v1_3), (V.bool v1_4), (V.bool v1_5), (V.int .i64 v1_6), (V.int .i64 v1_7), v1_8, v1_9, (V.int .i64 v1_10), (V.bool v1_11), (V.int .i64 v1_12)]))], [], [], σ⟩ (Fin134 E) (fun _ _ => none) (Fin134 E) = J134_0 E D W N v0b v0o v1_0 v1_1 v1_2 v1_3 v1_4 v1_5 v1_6 v1_7 v1_8 v1_9 v1_10 v1_11 v1_12 σ := by
  refine (P134_0 E D W N   v0b v0o v1_0 v1_1 v1_2 v1_3 v1_4 v1_5 v1_6 v1_7 v1_8 v1_9 v1_10 v1_11 v1_12 σ).trans ?_
  kernel_rfl
def F134 (E : List (Nat × Blk)) (D : Den) (W : DrawFn) (N : Nat) (args : List V) (σ : H) : Ans :=
 rtCons args fun x1 l2 =>
 rtPtr x1 fun b3 o4 =>
 rtCons l2 fun x5 l6 =>
 rtAgg x5 fun l7 =>
 rtCons l7 fun x8 l9 =>
 rtInt .i64 x8 fun x10 =>
 rtCons l9 fun x11 l12 =>
 rtCons l12 fun x13 l14 =>
 rtBool x13 fun x15 =>
 rtCons l14 fun x16 l17 =>
 rtBool x16 fun x18 =>
 rtCons l17 fun x19 l20 =>
 rtBool x19 fun x21 =>
 rtCons l20 fun x22 l23 =>
 rtBool x22 fun x24 =>
 rtCons l23 fun x25 l26 =>
 rtInt .i64 x25 fun x27 =>
 rtCons l26 fun x28 l29 =>
 rtInt .i64 x28 fun x30 =>
 rtCons l29 fun x31 l32 =>
 rtCons l32 fun x33 l34 =>
 rtCons l34 fun x35 l36 =>
 rtInt .i64 x35 fun x37 =>
 rtCons l36 fun x38 l39 =>
 rtBool x38 fun x40 =>
 rtCons l39 fun x41 l42 =>
 rtInt .i64 x41 fun x43 =>
 rtNil l42 (
 rtNil l6 (
 J134_0 E D W N b3 o4 x10 x11 x15 x18 x21 x24 x27 x30 x31 x33 x37 x40 x43 σ))
def A134 : XFn := ⟨21, [.ptr, (.agg [(.int .i64), .any, .bool, .bool, .bool, .bool, (.int .i64), (.int .i64), .any, .any, (.int .i64), .bool, (.int .i64)])], [(.tmp 4)], C134_0⟩
theorem FE134 (E : List (Nat × Blk)) (D : Den) (W : DrawFn) (N : Nat) (args : List V) (σ : H) : runX E D W N A134 args σ = F134 E D W N args σ := by
  unfold F134
  simp only [← JE134_0]
  kernel_rfl
theorem AO134 : A134.body.ok = true := by kernel_rfl

end
end Go.Proofs.YthkkkmkcjgaghaaGreatDoor
