/- The code of the functions that are entered. Printed by a program off the dump. -/
import Derived.Test.YtmgbgifepccgpaaGreatDoorOgX
import Derived.KernelRfl
set_option linter.all false
set_option maxRecDepth 100000
set_option maxHeartbeats 0
namespace Go.Proofs.YtmgbgifepccgpaaGreatDoor
open Go Go.Og
noncomputable section
/-! ### F248: __ogham_bits.Reader_.ready -/
def Fin248 (E : List (Nat × Blk)) : St → Ans := fun s => resK E s [(.tmp 4)] fun l => some (oneV l, s.σ)
def C248_0 : XC := (.seq (.ops (.op (some 4) .any [] (.mov (.con (V.bool false))) <|
 .nil))
 (.seq (.seq (.ops (.op (some 5) .any [0] (.mov (.tmp 0)) <|
 .op (some 6) .any [5] (.bin .eql .ptr (.tmp 5) (.con V.nilp)) <|
 .op (some 7) .any [6] (.mov (.tmp 6)) <|
 .grp 7 false (.op (some 8) .any [0, 7] (.mov (.tmp 0)) <|
 .op (some 9) .any [8, 7] (.nilck (.tmp 8)) <|
 .op (some 10) .any [9, 7] (.faddr 2 (.tmp 9)) <|
 .op (some 11) (.int .i64) [10, 7] (.load none (.tmp 10)) <|
 .op (some 12) .any [11, 7] (.bin .neq .none (.tmp 11) (.con (V.int .i64 (Int.ofNat 0)))) <|
 .nil) 13 [7, 12] (.tmp 7) (.con (V.bool true)) (.tmp 12) <|
 .nil))
 (.cond (.tmp 13) (.seq (.ops (.op (some 4) .any [] (.mov (.con (V.bool false))) <|
 .nil))
 .ret)
 .skip))
 (.seq (.seq (.ops (.op (some 14) .any [1] (.mov (.tmp 1)) <|
 .op (some 15) .any [0] (.mov (.tmp 0)) <|
 .op (some 16) .any [15] (.nilck (.tmp 15)) <|
 .op (some 17) .any [16] (.faddr 0 (.tmp 16)) <|
 .op (some 18) (.int .i64) [17] (.call 207 [(.tmp 17)]) <|
 .op (some 19) .any [14, 18] (.bin .gtr .none (.tmp 14) (.tmp 18)) <|
 .nil))
 (.cond (.tmp 19) (.seq (.ops (.op (some 20) .any [0] (.mov (.tmp 0)) <|
 .op (some 21) .any [20] (.nilck (.tmp 20)) <|
 .op (some 22) .any [21] (.faddr 2 (.tmp 21)) <|
 .op none .any [22] (.store 1 (.tmp 22) (.con (V.int .i64 (Int.ofNat 3)))) <|
 .nil))
 (.seq (.ops (.op (some 4) .any [] (.mov (.con (V.bool false))) <|
 .nil))
 .ret))
 .skip))
 (.seq (.ops (.op (some 4) .any [] (.mov (.con (V.bool true))) <|
 .nil))
 .ret))))
def T248_0 (E : List (Nat × Blk)) (D : Den) (W : DrawFn) (v0 : V) (v1 : Int) (σ : H) : Ans :=
 eqK .ptr v0 V.nilp fun c1 =>
 joinB (fun c2 s3 =>
 condK c2 (
 some ((V.bool false), s3)) (
 rtPtr v0 fun b5 o6 =>
 callK (D 207 [(V.ptr b5 o6)] s3) fun u7 s8 =>
 rtInt .i64 u7 fun x9 =>
 condK (ltF x9 v1) (
 rtPtr v0 fun b10 o11 =>
 stK 1 b10 (Nat.add o11 2) (V.int .i64 (Int.ofNat 3)) s8 fun s12 =>
 some ((V.bool false), s12)) (
 some ((V.bool true), s8)))) fun k4 =>
 condK c1 (
 k4 true σ) (
 rtPtr v0 fun b13 o14 =>
 ldK E σ b13 (Nat.add o14 2) fun u15 =>
 rtInt .i64 u15 fun x16 =>
 k4 (not (eqF x16 (Int.ofNat 0))) σ)
theorem P248_0 (E : List (Nat × Blk)) (D : Den) (W : DrawFn) (N : Nat) (v0 : V) (v1 : Int) (σ : H) :
  denC E D W N (C248_0 ) ⟨[(0, v0), (1, (V.int .i64 v1))], [], [], σ⟩ (Fin248 E) (fun _ _ => none) (Fin248 E) =
  T248_0 E D W  v0 v1 σ := by kernel_rfl
def J248_0 (E : List (Nat × Blk)) (D : Den) (W : DrawFn) (N : Nat) : V → Int → H → Ans := T248_0 E D W 
theorem JE248_0 (E : List (Nat × Blk)) (D : Den) (W : DrawFn) (N : Nat) (v0 : V) (v1 : Int) (σ : H) :
  denC E D W N C248_0 ⟨[(0, v0), (1, (V.int .i64 v1))], [], [], σ⟩ (Fin248 E) (fun _ _ => none) (Fin248 E) = J248_0 E D W N v0 v1 σ := by
  refine (P248_0 E D W N   v0 v1 σ).trans ?_
  kernel_rfl
def F248 (E : List (Nat × Blk)) (D : Den) (W : DrawFn) (N : Nat) (args : List V) (σ : H) : Ans :=
 rtCons args fun x1 l2 =>
 rtCons l2 fun x3 l4 =>
 rtInt .i64 x3 fun x5 =>
 rtNil l4 (
 J248_0 E D W N x1 x5 σ)
def A248 : XFn := ⟨23, [.any, (.int .i64)], [(.tmp 4)], C248_0⟩
theorem FE248 (E : List (Nat × Blk)) (D : Den) (W : DrawFn) (N : Nat) (args : List V) (σ : H) : runX E D W N A248 args σ = F248 E D W N args σ := by
  unfold F248
  simp only [← JE248_0]
  kernel_rfl
theorem AO248 : A248.body.ok = true := by kernel_rfl

def C249_0 : XC := (.seq (.ops (.op (some 4) .any [] (.mov (.con (V.bool false))) <|
 .nil))
 (.seq (.seq (.ops (.op (some 7) .any [0] (.mov (.tmp 0)) <|
 .op (some 8) (.int .i64) [7] (.call 134 [(.tmp 7)]) <|
 .op (some 9) .any [8] (.bin .neq .none (.tmp 8) (.con (V.int .i64 (Int.ofNat 0)))) <|
 .nil))
 (.cond (.tmp 9) (.seq (.ops (.op (some 4) .any [] (.mov (.con (V.bool false))) <|
 .nil))
 .ret)
 .skip))
 (.seq (.ops (.op (some 10) .any [0] (.mov (.tmp 0)) <|
 .op (some 11) .any [10] (.nilck (.tmp 10)) <|
 .op (some 12) .any [11] (.faddr 0 (.tmp 11)) <|
 .op (some 13) .any [12] (.load none (.tmp 12)) <|
 .op (some 14) .any [13] (.nilck (.tmp 13)) <|
 .op (some 15) (.agg [.any, (.int .i64), (.int .i64)]) [14] (.load (some 3) (.tmp 14)) <|
 .pal 5 [] 272 [V.nils, (V.int .i64 (Int.ofNat 0)), (V.int .i64 (Int.ofNat 0))] <|
 .op none (.agg [.any, (.int .i64), (.int .i64)]) [5, 15] (.store 3 (.tmp 5) (.tmp 15)) <|
 .nil))
 (.seq (.ops (.op (some 16) .any [1] (.mov (.tmp 1)) <|
 .op (some 17) (.tup []) [16] (.callv (.tmp 16) []) <|
 .nil))
 (.seq (.seq (.ops (.op (some 18) .any [0] (.mov (.tmp 0)) <|
 .op (some 19) (.int .i64) [18] (.call 134 [(.tmp 18)]) <|
 .op (some 6) .any [19] (.mov (.tmp 19)) <|
 .nil))
 (.seq (.ops (.op (some 20) .any [6] (.mov (.tmp 6)) <|
 .op (some 21) .any [20] (.bin .neq .none (.tmp 20) (.con (V.int .i64 (Int.ofNat 0)))) <|
 .nil))
 (.cond (.tmp 21) (.seq (.draw (.op (some 22) .any [0] (.mov (.tmp 0)) <|
 .op (some 23) .any [22] (.nilck (.tmp 22)) <|
 .op (some 24) .any [23] (.faddr 0 (.tmp 23)) <|
 .op (some 25) .any [24] (.load none (.tmp 24)) <|
 .op (some 26) .any [0] (.mov (.tmp 0)) <|
 .op (some 27) (.agg [.any, (.int .i64), (.int .i64)]) [5] (.load (some 3) (.tmp 5)) <|
 .op (some 28) .any [6] (.mov (.tmp 6)) <|
 .op (some 29) .any [25] (.nilck (.tmp 25)) <|
 .op none (.agg [.any, (.int .i64), (.int .i64)]) [29, 27] (.store 3 (.tmp 29) (.tmp 27)) <|
 .op (some 30) .any [26] (.nilck (.tmp 26)) <|
 .op (some 31) .any [30] (.faddr 1 (.tmp 30)) <|
 .op none .any [31, 28] (.store 1 (.tmp 31) (.tmp 28)) <|
 .nil) [0, 1, 3, 7, 0, 0, 0, 47, 175, 511, 1023, 2047])
 (.seq (.ops (.op (some 4) .any [] (.mov (.con (V.bool false))) <|
 .nil))
 .ret))
 .skip)))
 (.seq (.ops (.op (some 4) .any [] (.mov (.con (V.bool true))) <|
 .nil))
 .ret))))))
def A249 : XFn := ⟨32, [.ptr, .any], [(.tmp 4)], C249_0⟩
def C251_0 : XC := (.seq (.ops (.op (some 2) .any [0] (.load none (.tmp 0)) <|
 .op (some 3) (.int .u64) [2] (.call 123 [(.tmp 2), (.con (V.int .i64 (Int.ofNat 1)))]) <|
 .op (some 4) .any [3] (.bin .eql .none (.tmp 3) (.con (V.int .u64 (Int.ofNat 0)))) <|
 .nil))
 (.cond (.tmp 4) (.ops (.op (some 5) .any [0] (.load none (.tmp 0)) <|
 .op (some 6) (.int .u64) [5] (.call 123 [(.tmp 5), (.con (V.int .i64 (Int.ofNat 6)))]) <|
 .op none .any [1, 6] (.store 1 (.tmp 1) (.tmp 6)) <|
 .nil))
 (.ops (.op (some 7) .any [0] (.load none (.tmp 0)) <|
 .op (some 8) (.int .u64) [7] (.call 252 [(.tmp 7)]) <|
 .op none .any [1, 8] (.store 1 (.tmp 1) (.tmp 8)) <|
 .nil))))
def A251 : XFn := ⟨9, [.any, .any], [], C251_0⟩
/-! ### F258: __ogham_bits.place_.bit -/
def Fin258 (E : List (Nat × Blk)) : St → Ans := fun s => resK E s [(.tmp 2)] fun l => some (oneV l, s.σ)
def C258_0 : XC := (.seq (.ops (.op (some 2) .any [] (.mov (.con (V.int .i64 (Int.ofNat 0)))) <|
 .nil))
 (.seq (.draw (.op (some 4) .any [0] (.mov (.tmp 0)) <|
 .op (some 5) .any [4] (.nilck (.tmp 4)) <|
 .op (some 6) .any [5] (.faddr 0 (.tmp 5)) <|
 .op (some 7) .any [6] (.load none (.tmp 6)) <|
 .op (some 8) .any [0] (.mov (.tmp 0)) <|
 .op (some 9) .any [8] (.nilck (.tmp 8)) <|
 .op (some 10) .any [9] (.faddr 1 (.tmp 9)) <|
 .op (some 11) (.int .i64) [10] (.load none (.tmp 10)) <|
 .op (some 12) .any [11] (.bin .quo .none (.tmp 11) (.con (V.int .i64 (Int.ofNat 8)))) <|
 .op (some 13) .any [7, 12] (.iaddrS 1 (.tmp 7) (.tmp 12)) <|
 .op (some 14) (.int .u8) [13] (.load none (.tmp 13)) <|
 .op (some 15) .any [0] (.mov (.tmp 0)) <|
 .op (some 16) .any [15] (.nilck (.tmp 15)) <|
 .op (some 17) .any [16] (.faddr 1 (.tmp 16)) <|
 .op (some 18) (.int .i64) [17] (.load none (.tmp 17)) <|
 .op (some 19) .any [18] (.bin .rem .none (.tmp 18) (.con (V.int .i64 (Int.ofNat 8)))) <|
 .op (some 20) .any [19] (.bin .sub .none (.con (V.int .i64 (Int.ofNat 7))) (.tmp 19)) <|
 .op (some 21) .any [14, 20] (.bin .shr .none (.tmp 14) (.tmp 20)) <|
 .op (some 22) .any [21] (.bin .and .none (.tmp 21) (.con (V.int .u8 (Int.ofNat 1)))) <|
 .op (some 23) .any [22] (.conv (.toInt .i64) (.tmp 22)) <|
 .op (some 3) .any [23] (.mov (.tmp 23)) <|
 .nil) [0, 1, 3, 7, 0, 16, 48, 112, 240, 511, 1023, 0, 2048, 6144, 14336, 30720, 63488, 131071, 262143, 524287, 1048575])
 (.seq (.ops (.op (some 24) .any [0] (.mov (.tmp 0)) <|
 .op (some 25) .any [24] (.nilck (.tmp 24)) <|
 .op (some 26) .any [25] (.faddr 1 (.tmp 25)) <|
 .op (some 27) (.int .i64) [26] (.load none (.tmp 26)) <|
 .op (some 28) .any [27] (.bin .add .none (.tmp 27) (.con (V.int .i64 (Int.ofNat 1)))) <|
 .op (some 29) .any [24] (.nilck (.tmp 24)) <|
 .op (some 30) .any [29] (.faddr 1 (.tmp 29)) <|
 .op none .any [30, 28] (.store 1 (.tmp 30) (.tmp 28)) <|
 .nil))
 (.seq (.ops (.op (some 31) .any [3] (.mov (.tmp 3)) <|
 .op (some 2) .any [31] (.mov (.tmp 31)) <|
 .nil))
 .ret))))
def T258_0 (E : List (Nat × Blk)) (D : Den) (W : DrawFn) (v0b : Nat) (v0o : Nat) (σ : H) : Ans :=
 ldK E σ v0b v0o fun u1 =>
 ldK E σ v0b (Nat.add v0o 1) fun u2 =>
 rtInt .i64 u2 fun x3 =>
 iaddrSK 1 u1 (quoF .i64 x3 (Int.ofNat 8)) fun b4 o5 =>
 ldK E σ b4 o5 fun u6 =>
 rtInt .u8 u6 fun x7 =>
 ldK E σ v0b (Nat.add v0o 1) fun u8 =>
 rtInt .i64 u8 fun x9 =>
 nnK (subF .i64 (Int.ofNat 7) (Int.tmod x9 (Int.ofNat 8))) fun n10 =>
 ldK E σ v0b (Nat.add v0o 1) fun u11 =>
 rtInt .i64 u11 fun x12 =>
 stK 1 v0b (Nat.add v0o 1) (V.int .i64 (addF .i64 x12 (Int.ofNat 1))) σ fun s13 =>
 some ((V.int .i64 (wrapF .i64 (andF .u8 (shrF .u8 x7 n10) (Int.ofNat 1)))), s13)
theorem P258_0 (E : List (Nat × Blk)) (D : Den) (W : DrawFn) (N : Nat) (v0b : Nat) (v0o : Nat) (σ : H) :
  denC E D W N (C258_0 ) ⟨[(0, (V.ptr v0b v0o))], [], [], σ⟩ (Fin258 E) (fun _ _ => none) (Fin258 E) =
  T258_0 E D W  v0b v0o σ := by kernel_rfl
def J258_0 (E : List (Nat × Blk)) (D : Den) (W : DrawFn) (N : Nat) : Nat → Nat → H → Ans := T258_0 E D W 
theorem JE258_0 (E : List (Nat × Blk)) (D : Den) (W : DrawFn) (N : Nat) (v0b : Nat) (v0o : Nat) (σ : H) :
  denC E D W N C258_0 ⟨[(0, (V.ptr v0b v0o))], [], [], σ⟩ (Fin258 E) (fun _ _ => none) (Fin258 E) = J258_0 E D W N v0b v0o σ := by
  refine (P258_0 E D W N   v0b v0o σ).trans ?_
  kernel_rfl
def F258 (E : List (Nat × Blk)) (D : Den) (W : DrawFn) (N : Nat) (args : List V) (σ : H) : Ans :=
 rtCons args fun x1 l2 =>
 rtPtr x1 fun b3 o4 =>
 rtNil l2 (
 J258_0 E D W N b3 o4 σ)
def A258 : XFn := ⟨32, [.ptr], [(.tmp 2)], C258_0⟩
theorem FE258 (E : List (Nat × Blk)) (D : Den) (W : DrawFn) (N : Nat) (args : List V) (σ : H) : runX E D W N A258 args σ = F258 E D W N args σ := by
  unfold F258
  simp only [← JE258_0]
  kernel_rfl
theorem AO258 : A258.body.ok = true := by kernel_rfl

def C264_0 (cc1 : XC) (cc2 : XC) : XC := (.seq (.ops (.op (some 4) .any [] (.mov (.con (V.bool false))) <|
 .nil))
 (.seq (.seq (.ops (.op (some 7) .any [0] (.mov (.tmp 0)) <|
 .op (some 8) .any [1] (.mov (.tmp 1)) <|
 .op (some 9) .any [7, 8] (.iaddrS 13 (.tmp 7) (.tmp 8)) <|
 .op (some 10) .any [9] (.faddr 0 (.tmp 9)) <|
 .op (some 11) (.int .i64) [10] (.load none (.tmp 10)) <|
 .op (some 12) .any [11] (.bin .neq .none (.tmp 11) (.con (V.int .i64 (Int.ofNat 9)))) <|
 .op (some 13) .any [12] (.mov (.tmp 12)) <|
 .grp 13 false (.op (some 14) .any [0, 13] (.mov (.tmp 0)) <|
 .op (some 15) .any [1, 13] (.mov (.tmp 1)) <|
 .op (some 16) .any [14, 15, 13] (.iaddrS 13 (.tmp 14) (.tmp 15)) <|
 .op (some 17) .any [16, 13] (.faddr 1 (.tmp 16)) <|
 .op (some 18) .any [17, 13] (.load none (.tmp 17)) <|
 .op (some 19) .any [18, 13] (.len false (.tmp 18)) <|
 .op (some 20) .any [19, 13] (.bin .gtr .none (.tmp 19) (.con (V.int .i64 (Int.ofNat 0)))) <|
 .nil) 21 [13, 20] (.tmp 13) (.con (V.bool true)) (.tmp 20) <|
 .nil))
 (.cond (.tmp 21) (.seq (.ops (.op (some 4) .any [] (.mov (.con (V.bool false))) <|
 .nil))
 .ret)
 .skip))
 (.seq (.ops (.op (some 22) .any [0] (.mov (.tmp 0)) <|
 .op (some 23) .any [1] (.mov (.tmp 1)) <|
 .op (some 24) .any [22, 23] (.iaddrS 13 (.tmp 22) (.tmp 23)) <|
 .op (some 25) .any [24] (.faddr 11 (.tmp 24)) <|
 .op (some 26) .bool [25] (.load none (.tmp 25)) <|
 .op (some 5) .any [26] (.mov (.tmp 26)) <|
 .nil))
 (.seq (.seq (.ops (.op (some 6) .any [] (.mov (.con (V.int .i64 (Int.ofNat 0)))) <|
 .nil))
 (.block 0 (.loop [(0, .any), (1, (.int .i64)), (5, .bool), (6, (.int .i64))] [] [] cc2)))
 (.keep [(5, .bool)] [] [] cc1)))))
def C264_1 : XC := (.seq (.ops (.op (some 51) .any [5] (.mov (.tmp 5)) <|
 .op (some 4) .any [51] (.mov (.tmp 51)) <|
 .nil))
 .ret)
def C264_2 : XC := (.seq (.seq (.ops (.op (some 27) .any [6] (.mov (.tmp 6)) <|
 .op (some 28) .any [0] (.mov (.tmp 0)) <|
 .op (some 29) .any [1] (.mov (.tmp 1)) <|
 .op (some 30) .any [28, 29] (.iaddrS 13 (.tmp 28) (.tmp 29)) <|
 .op (some 31) .any [30] (.faddr 9 (.tmp 30)) <|
 .op (some 32) .any [31] (.load none (.tmp 31)) <|
 .op (some 33) .any [32] (.len false (.tmp 32)) <|
 .op (some 34) .any [27, 33] (.bin .lss .none (.tmp 27) (.tmp 33)) <|
 .nil))
 (.cond (.tmp 34) .skip
 (.exit 0)))
 (.seq (.block 1 (.ops (.op (some 37) .any [5] (.mov (.tmp 5)) <|
 .op (some 38) .any [37] (.mov (.tmp 37)) <|
 .grp 38 false (.op (some 39) .any [0, 38] (.mov (.tmp 0)) <|
 .op (some 40) .any [0, 38] (.mov (.tmp 0)) <|
 .op (some 41) .any [1, 38] (.mov (.tmp 1)) <|
 .op (some 42) .any [40, 41, 38] (.iaddrS 13 (.tmp 40) (.tmp 41)) <|
 .op (some 43) .any [42, 38] (.faddr 9 (.tmp 42)) <|
 .op (some 44) .any [43, 38] (.load none (.tmp 43)) <|
 .op (some 45) .any [6, 38] (.mov (.tmp 6)) <|
 .op (some 46) .any [44, 45, 38] (.iaddrS 11 (.tmp 44) (.tmp 45)) <|
 .op (some 47) .any [46, 38] (.faddr 1 (.tmp 46)) <|
 .op (some 48) (.int .i64) [47, 38] (.load none (.tmp 47)) <|
 .op (some 49) .bool [39, 48, 38] (.call 264 [(.tmp 39), (.tmp 48)]) <|
 .nil) 50 [38, 49] (.tmp 38) (.con (V.bool true)) (.tmp 49) <|
 .op (some 5) .any [50] (.mov (.tmp 50)) <|
 .nil)))
 (.ops (.op (some 35) .any [6] (.mov (.tmp 6)) <|
 .op (some 36) .any [35] (.bin .add .none (.tmp 35) (.con (V.int .i64 (Int.ofNat 1)))) <|
 .op (some 6) .any [36] (.mov (.tmp 36)) <|
 .nil))))
def A264 : XFn := ⟨52, [.any, (.int .i64)], [(.tmp 4)], (C264_0 C264_1 C264_2)⟩
def C265_0 (cc1 : XC) (cc2 : XC) : XC := (.seq (.ops (.op (some 4) .any [] (.mov (.con V.nils)) <|
 .nil))
 (.seq (.seq (.ops (.op (some 7) .any [0] (.mov (.tmp 0)) <|
 .op (some 8) .any [1] (.mov (.tmp 1)) <|
 .op (some 9) .any [7, 8] (.iaddrS 13 (.tmp 7) (.tmp 8)) <|
 .op (some 10) .any [9] (.faddr 1 (.tmp 9)) <|
 .op (some 11) .any [10] (.load none (.tmp 10)) <|
 .op (some 12) .any [11] (.len false (.tmp 11)) <|
 .op (some 13) .any [12] (.bin .gtr .none (.tmp 12) (.con (V.int .i64 (Int.ofNat 0)))) <|
 .nil))
 (.cond (.tmp 13) (.seq (.ops (.op (some 14) .any [0] (.mov (.tmp 0)) <|
 .op (some 15) .any [1] (.mov (.tmp 1)) <|
 .op (some 16) .any [14, 15] (.iaddrS 13 (.tmp 14) (.tmp 15)) <|
 .op (some 17) .any [16] (.faddr 1 (.tmp 16)) <|
 .op (some 18) .any [17] (.load none (.tmp 17)) <|
 .op (some 19) .any [18] (.sliceSl 2 (.tmp 18) none (some (.con (V.int .i64 (Int.ofNat 1)))) none) <|
 .op (some 4) .any [19] (.mov (.tmp 19)) <|
 .nil))
 .ret)
 .skip))
 (.seq (.ops (.op (some 5) .any [] (.mov (.con V.nils)) <|
 .nil))
 (.seq (.seq (.ops (.op (some 6) .any [] (.mov (.con (V.int .i64 (Int.ofNat 0)))) <|
 .nil))
 (.block 0 (.loop [(0, .any), (1, (.int .i64)), (5, .any), (6, (.int .i64))] [] [] cc2)))
 (.keep [(5, .any)] [] [] cc1)))))
def C265_1 : XC := (.seq (.ops (.op (some 43) .any [5] (.mov (.tmp 5)) <|
 .op (some 4) .any [43] (.mov (.tmp 43)) <|
 .nil))
 .ret)
def C265_2 : XC := (.seq (.seq (.ops (.op (some 20) .any [6] (.mov (.tmp 6)) <|
 .op (some 21) .any [0] (.mov (.tmp 0)) <|
 .op (some 22) .any [1] (.mov (.tmp 1)) <|
 .op (some 23) .any [21, 22] (.iaddrS 13 (.tmp 21) (.tmp 22)) <|
 .op (some 24) .any [23] (.faddr 9 (.tmp 23)) <|
 .op (some 25) .any [24] (.load none (.tmp 24)) <|
 .op (some 26) .any [25] (.len false (.tmp 25)) <|
 .op (some 27) .any [20, 26] (.bin .lss .none (.tmp 20) (.tmp 26)) <|
 .nil))
 (.cond (.tmp 27) .skip
 (.exit 0)))
 (.seq (.block 1 (.ops (.op (some 30) .any [5] (.mov (.tmp 5)) <|
 .op (some 31) .any [0] (.mov (.tmp 0)) <|
 .op (some 32) .any [0] (.mov (.tmp 0)) <|
 .op (some 33) .any [1] (.mov (.tmp 1)) <|
 .op (some 34) .any [32, 33] (.iaddrS 13 (.tmp 32) (.tmp 33)) <|
 .op (some 35) .any [34] (.faddr 9 (.tmp 34)) <|
 .op (some 36) .any [35] (.load none (.tmp 35)) <|
 .op (some 37) .any [6] (.mov (.tmp 6)) <|
 .op (some 38) .any [36, 37] (.iaddrS 11 (.tmp 36) (.tmp 37)) <|
 .op (some 39) .any [38] (.faddr 1 (.tmp 38)) <|
 .op (some 40) (.int .i64) [39] (.load none (.tmp 39)) <|
 .op (some 41) .one [31, 40] (.call 265 [(.tmp 31), (.tmp 40)]) <|
 .op (some 42) .one [30, 41] (.append 182 2 16 (.tmp 30) (.tmp 41)) <|
 .op (some 5) .any [42] (.mov (.tmp 42)) <|
 .nil)))
 (.ops (.op (some 28) .any [6] (.mov (.tmp 6)) <|
 .op (some 29) .any [28] (.bin .add .none (.tmp 28) (.con (V.int .i64 (Int.ofNat 1)))) <|
 .op (some 6) .any [29] (.mov (.tmp 29)) <|
 .nil))))
def A265 : XFn := ⟨44, [.any, (.int .i64)], [(.tmp 4)], (C265_0 C265_1 C265_2)⟩
def C266_0 (cc1 : XC) (cc2 : XC) : XC := (.seq (.ops (.op (some 2) .any [] (.mov (.con (V.bool false))) <|
 .nil))
 (.seq (.ops (.op (some 3) .any [] (.mov (.con V.nils)) <|
 .nil))
 (.seq (.seq (.ops (.op (some 4) .any [] (.mov (.con (V.int .i64 (Int.ofNat 0)))) <|
 .nil))
 (.block 0 (.loop [(0, .any), (3, .any), (4, (.int .i64))] [] [] cc2)))
 (.keep [] [] [] cc1))))
def C266_1 : XC := (.seq (.ops (.op (some 2) .any [] (.mov (.con (V.bool true))) <|
 .nil))
 .ret)
def C266_2 (cc3 : XC) (cc4 : XC) : XC := (.seq (.seq (.ops (.op (some 6) .any [4] (.mov (.tmp 4)) <|
 .op (some 7) .any [0] (.mov (.tmp 0)) <|
 .op (some 8) .any [7] (.len false (.tmp 7)) <|
 .op (some 9) .any [6, 8] (.bin .lss .none (.tmp 6) (.tmp 8)) <|
 .nil))
 (.cond (.tmp 9) .skip
 (.exit 0)))
 (.seq (.block 1 (.seq (.ops (.op (some 5) .any [] (.mov (.con (V.int .i64 (Int.ofNat 0)))) <|
 .nil))
 (.block 2 (.loop [(0, .any), (3, .any), (4, (.int .i64)), (5, (.int .i64))] [] [] cc4))))
 (.keep [(0, .any), (3, .any), (4, (.int .i64))] [] [] cc3)))
def C266_3 : XC := (.ops (.op (some 10) .any [4] (.mov (.tmp 4)) <|
 .op (some 11) .any [10] (.bin .add .none (.tmp 10) (.con (V.int .i64 (Int.ofNat 1)))) <|
 .op (some 4) .any [11] (.mov (.tmp 11)) <|
 .nil))
def C266_4 : XC := (.seq (.seq (.ops (.op (some 12) .any [5] (.mov (.tmp 5)) <|
 .op (some 13) .any [0] (.mov (.tmp 0)) <|
 .op (some 14) .any [4] (.mov (.tmp 4)) <|
 .op (some 15) .any [13, 14] (.iaddrS 1 (.tmp 13) (.tmp 14)) <|
 .op (some 16) .any [15] (.load none (.tmp 15)) <|
 .op (some 17) .any [16] (.len false (.tmp 16)) <|
 .op (some 18) .any [12, 17] (.bin .lss .none (.tmp 12) (.tmp 17)) <|
 .nil))
 (.cond (.tmp 18) .skip
 (.exit 2)))
 (.seq (.block 3 (.seq (.seq (.ops (.op (some 21) .any [3] (.mov (.tmp 3)) <|
 .op (some 22) .any [0] (.mov (.tmp 0)) <|
 .op (some 23) .any [4] (.mov (.tmp 4)) <|
 .op (some 24) .any [22, 23] (.iaddrS 1 (.tmp 22) (.tmp 23)) <|
 .op (some 25) .any [24] (.load none (.tmp 24)) <|
 .op (some 26) .any [5] (.mov (.tmp 5)) <|
 .op (some 27) .any [25, 26] (.iaddrS 2 (.tmp 25) (.tmp 26)) <|
 .op (some 28) (.agg [(.int .i64), (.int .i64)]) [27] (.load (some 2) (.tmp 27)) <|
 .op (some 29) .bool [21, 28] (.call 282 [(.tmp 21), (.tmp 28)]) <|
 .nil))
 (.cond (.tmp 29) (.seq (.ops (.op (some 2) .any [] (.mov (.con (V.bool false))) <|
 .nil))
 .ret)
 .skip))
 (.ops (.op (some 30) .any [3] (.mov (.tmp 3)) <|
 .op (some 31) .any [0] (.mov (.tmp 0)) <|
 .op (some 32) .any [4] (.mov (.tmp 4)) <|
 .op (some 33) .any [31, 32] (.iaddrS 1 (.tmp 31) (.tmp 32)) <|
 .op (some 34) .any [33] (.load none (.tmp 33)) <|
 .op (some 35) .any [5] (.mov (.tmp 5)) <|
 .op (some 36) .any [34, 35] (.iaddrS 2 (.tmp 34) (.tmp 35)) <|
 .op (some 37) (.agg [(.int .i64), (.int .i64)]) [36] (.load (some 2) (.tmp 36)) <|
 .op (some 38) .any [37] (.buildSlice 182 1 [(V.int .i64 (Int.ofNat 0)), (V.int .i64 (Int.ofNat 0))] [(0, 2, (.tmp 37))]) <|
 .op (some 39) .one [30, 38] (.append 182 2 16 (.tmp 30) (.tmp 38)) <|
 .op (some 3) .any [39] (.mov (.tmp 39)) <|
 .nil))))
 (.ops (.op (some 19) .any [5] (.mov (.tmp 5)) <|
 .op (some 20) .any [19] (.bin .add .none (.tmp 19) (.con (V.int .i64 (Int.ofNat 1)))) <|
 .op (some 5) .any [20] (.mov (.tmp 20)) <|
 .nil))))
def A266 : XFn := ⟨40, [.any], [(.tmp 2)], (C266_0 C266_1 (C266_2 C266_3 C266_4))⟩
def C270_0 : XC := (.seq (.ops (.op (some 2) .any [] (.mov (.con (V.int .i64 (Int.ofNat 0)))) <|
 .op (some 3) .any [] (.mov (.con (V.int .i64 (Int.ofNat 0)))) <|
 .op (some 4) .any [] (.mov (.con (V.int .i64 (Int.ofNat 0)))) <|
 .nil))
 (.seq (.seq (.ops (.op (some 9) .any [0] (.mov (.tmp 0)) <|
 .op (some 10) .any [9] (.iaddrS 1 (.tmp 9) (.con (V.int .i64 (Int.ofNat 0)))) <|
 .op (some 11) (.int .u8) [10] (.load none (.tmp 10)) <|
 .op (some 12) .any [11] (.bin .and .none (.tmp 11) (.con (V.int .u8 (Int.ofNat 31)))) <|
 .op (some 13) .any [12] (.conv (.toInt .i64) (.tmp 12)) <|
 .op (some 5) .any [13] (.mov (.tmp 13)) <|
 .nil))
 (.seq (.ops (.op (some 14) .any [5] (.mov (.tmp 5)) <|
 .op (some 15) .any [14] (.bin .lss .none (.tmp 14) (.con (V.int .i64 (Int.ofNat 31)))) <|
 .nil))
 (.cond (.tmp 15) (.seq (.ops (.op (some 16) .any [5] (.mov (.tmp 5)) <|
 .op (some 2) .any [16] (.mov (.tmp 16)) <|
 .op (some 3) .any [] (.mov (.con (V.int .i64 (Int.ofNat 0)))) <|
 .op (some 4) .any [] (.mov (.con (V.int .i64 (Int.ofNat 0)))) <|
 .nil))
 .ret)
 .skip)))
 (.seq (.ops (.op (some 18) .any [0] (.mov (.tmp 0)) <|
 .op (some 19) .any [18] (.sliceSl 1 (.tmp 18) (some (.con (V.int .i64 (Int.ofNat 1)))) none none) <|
 .op (some 20) (.tup [(.int .u64), (.int .i64), (.int .i64)]) [19] (.call 284 [(.tmp 19)]) <|
 .op (some 17) .any [20] (.mov (.tmp 20)) <|
 .op (some 21) .any [17] (.extract 0 (.tmp 17)) <|
 .op (some 22) .any [17] (.extract 1 (.tmp 17)) <|
 .op (some 23) .any [17] (.extract 2 (.tmp 17)) <|
 .op (some 6) .any [21] (.mov (.tmp 21)) <|
 .op (some 7) .any [22] (.mov (.tmp 22)) <|
 .op (some 8) .any [23] (.mov (.tmp 23)) <|
 .nil))
 (.seq (.block 0 (.seq (.ops (.op (some 25) .any [8] (.mov (.tmp 8)) <|
 .op (some 26) .any [25] (.bin .neq .none (.tmp 25) (.con (V.int .i64 (Int.ofNat 0)))) <|
 .op (some 24) .any [26] (.mov (.tmp 26)) <|
 .nil))
 (.cond (.tmp 24) (.seq (.ops (.op (some 27) .any [8] (.mov (.tmp 8)) <|
 .op (some 2) .any [] (.mov (.con (V.int .i64 (Int.ofNat 0)))) <|
 .op (some 3) .any [] (.mov (.con (V.int .i64 (Int.ofNat 0)))) <|
 .op (some 4) .any [27] (.mov (.tmp 27)) <|
 .nil))
 .ret)
 (.seq (.ops (.op (some 29) .any [6] (.mov (.tmp 6)) <|
 .op (some 30) .any [29] (.bin .lss .none (.tmp 29) (.con (V.int .u64 (Int.ofNat 31)))) <|
 .op (some 31) .any [30] (.mov (.tmp 30)) <|
 .grp 31 false (.op (some 32) .any [6, 31] (.mov (.tmp 6)) <|
 .op (some 33) .any [32, 31] (.bin .gtr .none (.tmp 32) (.con (V.int .u64 (Int.ofNat 268435456)))) <|
 .nil) 34 [31, 33] (.tmp 31) (.con (V.bool true)) (.tmp 33) <|
 .op (some 28) .any [34] (.mov (.tmp 34)) <|
 .nil))
 (.cond (.tmp 28) (.seq (.ops (.op (some 2) .any [] (.mov (.con (V.int .i64 (Int.ofNat 0)))) <|
 .op (some 3) .any [] (.mov (.con (V.int .i64 (Int.ofNat 0)))) <|
 .op (some 4) .any [] (.mov (.con (V.int .i64 (Int.ofNat 4)))) <|
 .nil))
 .ret)
 .skip)))))
 (.seq (.ops (.op (some 35) .any [6] (.mov (.tmp 6)) <|
 .op (some 36) .any [35] (.conv (.toInt .i64) (.tmp 35)) <|
 .op (some 37) .any [7] (.mov (.tmp 7)) <|
 .op (some 2) .any [36] (.mov (.tmp 36)) <|
 .op (some 3) .any [37] (.mov (.tmp 37)) <|
 .op (some 4) .any [] (.mov (.con (V.int .i64 (Int.ofNat 0)))) <|
 .nil))
 .ret)))))
def A270 : XFn := ⟨38, [.any], [(.tmp 2), (.tmp 3), (.tmp 4)], C270_0⟩
def C271_0 : XC := (.seq (.ops (.op (some 2) .any [] (.mov (.con (V.int .i64 (Int.ofNat 0)))) <|
 .op (some 3) .any [] (.mov (.con (V.int .i64 (Int.ofNat 0)))) <|
 .op (some 4) .any [] (.mov (.con (V.int .i64 (Int.ofNat 0)))) <|
 .nil))
 (.seq (.seq (.ops (.op (some 8) .any [0] (.mov (.tmp 0)) <|
 .op (some 9) .any [8] (.len false (.tmp 8)) <|
 .op (some 10) .any [9] (.bin .eql .none (.tmp 9) (.con (V.int .i64 (Int.ofNat 0)))) <|
 .nil))
 (.cond (.tmp 10) (.seq (.ops (.op (some 2) .any [] (.mov (.con (V.int .i64 (Int.ofNat 0)))) <|
 .op (some 3) .any [] (.mov (.con (V.int .i64 (Int.ofNat 0)))) <|
 .op (some 4) .any [] (.mov (.con (V.int .i64 (Int.ofNat 3)))) <|
 .nil))
 .ret)
 .skip))
 (.seq (.seq (.ops (.op (some 11) .any [0] (.mov (.tmp 0)) <|
 .op (some 12) .any [11] (.iaddrS 1 (.tmp 11) (.con (V.int .i64 (Int.ofNat 0)))) <|
 .op (some 13) (.int .u8) [12] (.load none (.tmp 12)) <|
 .op (some 14) .any [13] (.bin .lss .none (.tmp 13) (.con (V.int .u8 (Int.ofNat 128)))) <|
 .nil))
 (.cond (.tmp 14) (.seq (.ops (.op (some 15) .any [0] (.mov (.tmp 0)) <|
 .op (some 16) .any [15] (.iaddrS 1 (.tmp 15) (.con (V.int .i64 (Int.ofNat 0)))) <|
 .op (some 17) (.int .u8) [16] (.load none (.tmp 16)) <|
 .op (some 18) .any [17] (.conv (.toInt .i64) (.tmp 17)) <|
 .op (some 2) .any [18] (.mov (.tmp 18)) <|
 .op (some 3) .any [] (.mov (.con (V.int .i64 (Int.ofNat 1)))) <|
 .op (some 4) .any [] (.mov (.con (V.int .i64 (Int.ofNat 0)))) <|
 .nil))
 .ret)
 .skip))
 (.seq (.ops (.op (some 19) .any [0] (.mov (.tmp 0)) <|
 .op (some 20) .any [19] (.iaddrS 1 (.tmp 19) (.con (V.int .i64 (Int.ofNat 0)))) <|
 .op (some 21) (.int .u8) [20] (.load none (.tmp 20)) <|
 .op (some 22) .any [21] (.bin .andNot .none (.tmp 21) (.con (V.int .u8 (Int.ofNat 128)))) <|
 .op (some 23) .any [22] (.conv (.toInt .i64) (.tmp 22)) <|
 .op (some 5) .any [23] (.mov (.tmp 23)) <|
 .nil))
 (.seq (.block 0 (.seq (.ops (.op (some 25) .any [5] (.mov (.tmp 5)) <|
 .op (some 26) .any [25] (.bin .eql .none (.tmp 25) (.con (V.int .i64 (Int.ofNat 0)))) <|
 .op (some 27) .any [26] (.mov (.tmp 26)) <|
 .grp 27 false (.op (some 28) .any [5, 27] (.mov (.tmp 5)) <|
 .op (some 29) .any [28, 27] (.bin .gtr .none (.tmp 28) (.con (V.int .i64 (Int.ofNat 8)))) <|
 .nil) 30 [27, 29] (.tmp 27) (.con (V.bool true)) (.tmp 29) <|
 .op (some 24) .any [30] (.mov (.tmp 30)) <|
 .nil))
 (.cond (.tmp 24) (.seq (.ops (.op (some 2) .any [] (.mov (.con (V.int .i64 (Int.ofNat 0)))) <|
 .op (some 3) .any [] (.mov (.con (V.int .i64 (Int.ofNat 0)))) <|
 .op (some 4) .any [] (.mov (.con (V.int .i64 (Int.ofNat 4)))) <|
 .nil))
 .ret)
 (.seq (.ops (.op (some 32) .any [0] (.mov (.tmp 0)) <|
 .op (some 33) .any [32] (.len false (.tmp 32)) <|
 .op (some 34) .any [5] (.mov (.tmp 5)) <|
 .op (some 35) .any [33, 34] (.bin .leq .none (.tmp 33) (.tmp 34)) <|
 .op (some 31) .any [35] (.mov (.tmp 35)) <|
 .nil))
 (.cond (.tmp 31) (.seq (.ops (.op (some 2) .any [] (.mov (.con (V.int .i64 (Int.ofNat 0)))) <|
 .op (some 3) .any [] (.mov (.con (V.int .i64 (Int.ofNat 0)))) <|
 .op (some 4) .any [] (.mov (.con (V.int .i64 (Int.ofNat 3)))) <|
 .nil))
 .ret)
 .skip)))))
 (.seq (.ops (.op (some 37) .any [0] (.mov (.tmp 0)) <|
 .op (some 38) .any [5] (.mov (.tmp 5)) <|
 .op (some 39) .any [38] (.bin .add .none (.con (V.int .i64 (Int.ofNat 1))) (.tmp 38)) <|
 .op (some 40) .any [37, 39] (.sliceSl 1 (.tmp 37) (some (.con (V.int .i64 (Int.ofNat 1)))) (some (.tmp 39)) none) <|
 .op (some 41) (.tup [(.int .u64), (.int .i64)]) [40] (.call 191 [(.tmp 40)]) <|
 .op (some 36) .any [41] (.mov (.tmp 41)) <|
 .op (some 42) .any [36] (.extract 0 (.tmp 36)) <|
 .op (some 43) .any [36] (.extract 1 (.tmp 36)) <|
 .op (some 6) .any [42] (.mov (.tmp 42)) <|
 .op (some 7) .any [43] (.mov (.tmp 43)) <|
 .nil))
 (.seq (.seq (.ops (.op (some 44) .any [7] (.mov (.tmp 7)) <|
 .op (some 45) .any [44] (.bin .neq .none (.tmp 44) (.con (V.int .i64 (Int.ofNat 0)))) <|
 .op (some 46) .any [45] (.mov (.tmp 45)) <|
 .grp 46 false (.op (some 47) .any [6, 46] (.mov (.tmp 6)) <|
 .op (some 48) .any [47, 46] (.bin .lss .none (.tmp 47) (.con (V.int .u64 (Int.ofNat 128)))) <|
 .nil) 49 [46, 48] (.tmp 46) (.con (V.bool true)) (.tmp 48) <|
 .op (some 50) .any [49] (.mov (.tmp 49)) <|
 .grp 50 false (.op (some 51) .any [6, 50] (.mov (.tmp 6)) <|
 .op (some 52) .any [51, 50] (.bin .gtr .none (.tmp 51) (.con (V.int .u64 (Int.ofNat 2147483647)))) <|
 .nil) 53 [50, 52] (.tmp 50) (.con (V.bool true)) (.tmp 52) <|
 .nil))
 (.cond (.tmp 53) (.seq (.ops (.op (some 2) .any [] (.mov (.con (V.int .i64 (Int.ofNat 0)))) <|
 .op (some 3) .any [] (.mov (.con (V.int .i64 (Int.ofNat 0)))) <|
 .op (some 4) .any [] (.mov (.con (V.int .i64 (Int.ofNat 4)))) <|
 .nil))
 .ret)
 .skip))
 (.seq (.ops (.op (some 54) .any [6] (.mov (.tmp 6)) <|
 .op (some 55) .any [54] (.conv (.toInt .i64) (.tmp 54)) <|
 .op (some 56) .any [5] (.mov (.tmp 5)) <|
 .op (some 57) .any [56] (.bin .add .none (.con (V.int .i64 (Int.ofNat 1))) (.tmp 56)) <|
 .op (some 2) .any [55] (.mov (.tmp 55)) <|
 .op (some 3) .any [57] (.mov (.tmp 57)) <|
 .op (some 4) .any [] (.mov (.con (V.int .i64 (Int.ofNat 0)))) <|
 .nil))
 .ret))))))))
def A271 : XFn := ⟨58, [.any], [(.tmp 2), (.tmp 3), (.tmp 4)], C271_0⟩
/-! ### F275: __ogham_bits.Writer_.Bit -/
def Fin275 (E : List (Nat × Blk)) : St → Ans := fun s => resK E s [] fun l => some (oneV l, s.σ)
def C275_0 (cc1 : XC) : XC := (.seq (.seq (.ops (.op (some 4) .any [0] (.mov (.tmp 0)) <|
 .op (some 5) .any [4] (.bin .eql .ptr (.tmp 4) (.con V.nilp)) <|
 .nil))
 (.cond (.tmp 5) .ret
 .skip))
 (.seq (.seq (.ops (.op (some 6) .any [0] (.mov (.tmp 0)) <|
 .op (some 7) .any [6] (.nilck (.tmp 6)) <|
 .op (some 8) .any [7] (.faddr 1 (.tmp 7)) <|
 .op (some 9) (.int .i64) [8] (.load none (.tmp 8)) <|
 .op (some 10) .any [9] (.bin .rem .none (.tmp 9) (.con (V.int .i64 (Int.ofNat 8)))) <|
 .op (some 11) .any [10] (.bin .eql .none (.tmp 10) (.con (V.int .i64 (Int.ofNat 0)))) <|
 .nil))
 (.cond (.tmp 11) (.ops (.op (some 12) .any [0] (.mov (.tmp 0)) <|
 .op (some 13) .any [0] (.mov (.tmp 0)) <|
 .op (some 14) .any [13] (.nilck (.tmp 13)) <|
 .op (some 15) .any [14] (.faddr 0 (.tmp 14)) <|
 .op (some 16) .any [15] (.load none (.tmp 15)) <|
 .op (some 17) .any [] (.buildSlice 5 1 [(V.int .u8 (Int.ofNat 0))] [(0, 1, (.con (V.int .u8 (Int.ofNat 0))))]) <|
 .op (some 18) .one [16, 17] (.append 5 1 1 (.tmp 16) (.tmp 17)) <|
 .op (some 19) .any [12] (.nilck (.tmp 12)) <|
 .op (some 20) .any [19] (.faddr 0 (.tmp 19)) <|
 .op none .any [20, 18] (.store 1 (.tmp 20) (.tmp 18)) <|
 .nil))
 .skip))
 (.keep [(0, .any), (1, (.int .i64))] [] [] cc1)))
def T275_0 (E : List (Nat × Blk)) (D : Den) (W : DrawFn) (K1 : V → Int → H → Ans) (v0 : V) (v1 : Int) (σ : H) : Ans :=
 eqK .ptr v0 V.nilp fun c1 =>
 condK c1 (
 some ((V.tup []), σ)) (
 rtPtr v0 fun b2 o3 =>
 ldK E σ b2 (Nat.add o3 1) fun u4 =>
 rtInt .i64 u4 fun x5 =>
 condK (eqF (Int.tmod x5 (Int.ofNat 8)) (Int.ofNat 0)) (
 rtPtr v0 fun b6 o7 =>
 ldK E σ b6 o7 fun u8 =>
 let s9 := newB σ (.cells [(V.int .u8 (Int.ofNat 0))]);
 appK E 1 1 u8 (V.sl (H.next σ) 0 1 (.ex 1)) s9 fun u10 s11 =>
 rtOne u10 (
 rtPtr v0 fun b12 o13 =>
 stK 1 b12 o13 u10 s11 fun s14 =>
 K1 v0 v1 s14)) (
 K1 v0 v1 σ))
def C275_1 (cc2 : XC) : XC := (.seq (.seq (.ops (.op (some 21) .any [1] (.mov (.tmp 1)) <|
 .op (some 22) .any [21] (.bin .neq .none (.tmp 21) (.con (V.int .i64 (Int.ofNat 0)))) <|
 .nil))
 (.cond (.tmp 22) (.draw (.op (some 23) .any [0] (.mov (.tmp 0)) <|
 .op (some 24) .any [23] (.nilck (.tmp 23)) <|
 .op (some 25) .any [24] (.faddr 0 (.tmp 24)) <|
 .op (some 26) .any [25] (.load none (.tmp 25)) <|
 .op (some 27) .any [0] (.mov (.tmp 0)) <|
 .op (some 28) .any [27] (.nilck (.tmp 27)) <|
 .op (some 29) .any [28] (.faddr 1 (.tmp 28)) <|
 .op (some 30) (.int .i64) [29] (.load none (.tmp 29)) <|
 .op (some 31) .any [30] (.bin .quo .none (.tmp 30) (.con (V.int .i64 (Int.ofNat 8)))) <|
 .op (some 32) .any [26, 31] (.iaddrS 1 (.tmp 26) (.tmp 31)) <|
 .op (some 33) (.int .u8) [32] (.load none (.tmp 32)) <|
 .op (some 34) .any [0] (.mov (.tmp 0)) <|
 .op (some 35) .any [34] (.nilck (.tmp 34)) <|
 .op (some 36) .any [35] (.faddr 1 (.tmp 35)) <|
 .op (some 37) (.int .i64) [36] (.load none (.tmp 36)) <|
 .op (some 38) .any [37] (.bin .rem .none (.tmp 37) (.con (V.int .i64 (Int.ofNat 8)))) <|
 .op (some 39) .any [38] (.bin .shr .none (.con (V.int .u8 (Int.ofNat 128))) (.tmp 38)) <|
 .op (some 40) .any [33, 39] (.bin .or .none (.tmp 33) (.tmp 39)) <|
 .op (some 41) .any [26, 31] (.iaddrS 1 (.tmp 26) (.tmp 31)) <|
 .op none .any [41, 40] (.store 1 (.tmp 41) (.tmp 40)) <|
 .nil) [0, 1, 3, 7, 0, 16, 48, 112, 240, 511, 1023, 0, 2048, 6144, 14336, 30720, 63488, 131071, 262143, 524287])
 .skip))
 (.keep [(0, .any)] [] [] cc2))
def T275_1 (E : List (Nat × Blk)) (D : Den) (W : DrawFn) (K2 : V → H → Ans) (v0 : V) (v1 : Int) (σ : H) : Ans :=
 condK (not (eqF v1 (Int.ofNat 0))) (
 rtPtr v0 fun b1 o2 =>
 ldK E σ b1 o2 fun u3 =>
 rtPtr v0 fun b4 o5 =>
 ldK E σ b4 (Nat.add o5 1) fun u6 =>
 rtInt .i64 u6 fun x7 =>
 iaddrSK 1 u3 (quoF .i64 x7 (Int.ofNat 8)) fun b8 o9 =>
 ldK E σ b8 o9 fun u10 =>
 rtInt .u8 u10 fun x11 =>
 rtPtr v0 fun b12 o13 =>
 ldK E σ b12 (Nat.add o13 1) fun u14 =>
 rtInt .i64 u14 fun x15 =>
 nnK (Int.tmod x15 (Int.ofNat 8)) fun n16 =>
 iaddrSK 1 u3 (quoF .i64 x7 (Int.ofNat 8)) fun b17 o18 =>
 stK 1 b17 o18 (V.int .u8 (orF .u8 x11 (shrF .u8 (Int.ofNat 128) n16))) σ fun s19 =>
 K2 v0 s19) (
 K2 v0 σ)
def C275_2 : XC := (.ops (.op (some 42) .any [0] (.mov (.tmp 0)) <|
 .op (some 43) .any [42] (.nilck (.tmp 42)) <|
 .op (some 44) .any [43] (.faddr 1 (.tmp 43)) <|
 .op (some 45) (.int .i64) [44] (.load none (.tmp 44)) <|
 .op (some 46) .any [45] (.bin .add .none (.tmp 45) (.con (V.int .i64 (Int.ofNat 1)))) <|
 .op (some 47) .any [42] (.nilck (.tmp 42)) <|
 .op (some 48) .any [47] (.faddr 1 (.tmp 47)) <|
 .op none .any [48, 46] (.store 1 (.tmp 48) (.tmp 46)) <|
 .nil))
def T275_2 (E : List (Nat × Blk)) (D : Den) (W : DrawFn) (v0 : V) (σ : H) : Ans :=
 rtPtr v0 fun b1 o2 =>
 ldK E σ b1 (Nat.add o2 1) fun u3 =>
 rtInt .i64 u3 fun x4 =>
 rtPtr v0 fun b5 o6 =>
 stK 1 b5 (Nat.add o6 1) (V.int .i64 (addF .i64 x4 (Int.ofNat 1))) σ fun s7 =>
 some ((V.tup []), s7)
theorem P275_0 (E : List (Nat × Blk)) (D : Den) (W : DrawFn) (N : Nat) (cc1 : XC) (v0 : V) (v1 : Int) (σ : H) :
  denC E D W N (C275_0 cc1) ⟨[(0, v0), (1, (V.int .i64 v1))], [], [], σ⟩ (Fin275 E) (fun _ _ => none) (Fin275 E) =
  T275_0 E D W (fun v0 v1 σ => denC E D W N cc1 ⟨[(0, v0), (1, (V.int .i64 v1))], [], [], σ⟩ (Fin275 E) (fun _ _ => none) (Fin275 E)) v0 v1 σ := by kernel_rfl
theorem P275_1 (E : List (Nat × Blk)) (D : Den) (W : DrawFn) (N : Nat) (cc2 : XC) (v0 : V) (v1 : Int) (σ : H) :
  denC E D W N (C275_1 cc2) ⟨[(0, v0), (1, (V.int .i64 v1))], [], [], σ⟩ (Fin275 E) (fun _ _ => none) (Fin275 E) =
  T275_1 E D W (fun v0 σ => denC E D W N cc2 ⟨[(0, v0)], [], [], σ⟩ (Fin275 E) (fun _ _ => none) (Fin275 E)) v0 v1 σ := by kernel_rfl
theorem P275_2 (E : List (Nat × Blk)) (D : Den) (W : DrawFn) (N : Nat) (v0 : V) (σ : H) :
  denC E D W N (C275_2 ) ⟨[(0, v0)], [], [], σ⟩ (Fin275 E) (fun _ _ => none) (Fin275 E) =
  T275_2 E D W  v0 σ := by kernel_rfl
def J275_2 (E : List (Nat × Blk)) (D : Den) (W : DrawFn) (N : Nat) : V → H → Ans := T275_2 E D W 
theorem JE275_2 (E : List (Nat × Blk)) (D : Den) (W : DrawFn) (N : Nat) (v0 : V) (σ : H) :
  denC E D W N C275_2 ⟨[(0, v0)], [], [], σ⟩ (Fin275 E) (fun _ _ => none) (Fin275 E) = J275_2 E D W N v0 σ := by
  refine (P275_2 E D W N   v0 σ).trans ?_
  kernel_rfl
def J275_1 (E : List (Nat × Blk)) (D : Den) (W : DrawFn) (N : Nat) : V → Int → H → Ans := T275_1 E D W (J275_2 E D W N )
theorem JE275_1 (E : List (Nat × Blk)) (D : Den) (W : DrawFn) (N : Nat) (v0 : V) (v1 : Int) (σ : H) :
  denC E D W N (C275_1 C275_2) ⟨[(0, v0), (1, (V.int .i64 v1))], [], [], σ⟩ (Fin275 E) (fun _ _ => none) (Fin275 E) = J275_1 E D W N v0 v1 σ := by
  refine (P275_1 E D W N C275_2  v0 v1 σ).trans ?_
  simp only [JE275_2]
  kernel_rfl
def J275_0 (E : List (Nat × Blk)) (D : Den) (W : DrawFn) (N : Nat) : V → Int → H → Ans := T275_0 E D W (J275_1 E D W N )
theorem JE275_0 (E : List (Nat × Blk)) (D : Den) (W : DrawFn) (N : Nat) (v0 : V) (v1 : Int) (σ : H) :
  denC E D W N (C275_0 (C275_1 C275_2)) ⟨[(0, v0), (1, (V.int .i64 v1))], [], [], σ⟩ (Fin275 E) (fun _ _ => none) (Fin275 E) = J275_0 E D W N v0 v1 σ := by
  refine (P275_0 E D W N (C275_1 C275_2)  v0 v1 σ).trans ?_
  simp only [JE275_1]
  kernel_rfl
def F275 (E : List (Nat × Blk)) (D : Den) (W : DrawFn) (N : Nat) (args : List V) (σ : H) : Ans :=
 rtCons args fun x1 l2 =>
 rtCons l2 fun x3 l4 =>
 rtInt .i64 x3 fun x5 =>
 rtNil l4 (
 J275_0 E D W N x1 x5 σ)
def A275 : XFn := ⟨49, [.any, (.int .i64)], [], (C275_0 (C275_1 C275_2))⟩
theorem FE275 (E : List (Nat × Blk)) (D : Den) (W : DrawFn) (N : Nat) (args : List V) (σ : H) : runX E D W N A275 args σ = F275 E D W N args σ := by
  unfold F275
  simp only [← JE275_0]
  kernel_rfl
theorem AO275 : A275.body.ok = true := by kernel_rfl

def C276_0 (cc1 : XC) : XC := (.seq (.ops (.op (some 2) .any [] (.mov (.con (V.int .i64 (Int.ofNat 0)))) <|
 .nil))
 (.seq (.seq (.ops (.op (some 3) .any [0] (.mov (.tmp 0)) <|
 .op (some 4) .any [3] (.bin .geq .none (.tmp 3) (.con (V.int .u64 (Int.ofNat 4294967296)))) <|
 .nil))
 (.cond (.tmp 4) (.seq (.ops (.op (some 5) .any [0] (.mov (.tmp 0)) <|
 .op (some 6) .any [5] (.bin .shr .none (.tmp 5) (.con (V.int .u64 (Int.ofNat 32)))) <|
 .op (some 0) .any [6] (.mov (.tmp 6)) <|
 .nil))
 (.ops (.op (some 2) .any [] (.mov (.con (V.int .i64 (Int.ofNat 32)))) <|
 .nil)))
 .skip))
 (.keep [(0, (.int .u64)), (2, (.int .i64))] [] [] cc1)))
def C276_1 (cc2 : XC) : XC := (.seq (.seq (.ops (.op (some 7) .any [0] (.mov (.tmp 0)) <|
 .op (some 8) .any [7] (.bin .geq .none (.tmp 7) (.con (V.int .u64 (Int.ofNat 65536)))) <|
 .nil))
 (.cond (.tmp 8) (.seq (.ops (.op (some 9) .any [0] (.mov (.tmp 0)) <|
 .op (some 10) .any [9] (.bin .shr .none (.tmp 9) (.con (V.int .u64 (Int.ofNat 16)))) <|
 .op (some 0) .any [10] (.mov (.tmp 10)) <|
 .nil))
 (.ops (.op (some 11) .any [2] (.mov (.tmp 2)) <|
 .op (some 12) .any [11] (.bin .add .none (.tmp 11) (.con (V.int .i64 (Int.ofNat 16)))) <|
 .op (some 2) .any [12] (.mov (.tmp 12)) <|
 .nil)))
 .skip))
 (.keep [(0, (.int .u64)), (2, (.int .i64))] [] [] cc2))
def C276_2 (cc3 : XC) : XC := (.seq (.seq (.ops (.op (some 13) .any [0] (.mov (.tmp 0)) <|
 .op (some 14) .any [13] (.bin .geq .none (.tmp 13) (.con (V.int .u64 (Int.ofNat 256)))) <|
 .nil))
 (.cond (.tmp 14) (.seq (.ops (.op (some 15) .any [0] (.mov (.tmp 0)) <|
 .op (some 16) .any [15] (.bin .shr .none (.tmp 15) (.con (V.int .u64 (Int.ofNat 8)))) <|
 .op (some 0) .any [16] (.mov (.tmp 16)) <|
 .nil))
 (.ops (.op (some 17) .any [2] (.mov (.tmp 2)) <|
 .op (some 18) .any [17] (.bin .add .none (.tmp 17) (.con (V.int .i64 (Int.ofNat 8)))) <|
 .op (some 2) .any [18] (.mov (.tmp 18)) <|
 .nil)))
 .skip))
 (.keep [(0, (.int .u64)), (2, (.int .i64))] [] [] cc3))
def C276_3 : XC := (.seq (.ops (.op (some 19) .any [2] (.mov (.tmp 2)) <|
 .op (some 20) .any [0] (.mov (.tmp 0)) <|
 .op (some 21) .any [20] (.conv (.toInt .u8) (.tmp 20)) <|
 .op (some 22) .any [21] (.idxStr (.con (V.str ⟨256, 1013866857139168856493015739252390649739422828853819106890363778118420553376247557433637691341895324351018602695588957474325319502760499485336098898398377509666851054660423406800006203933793007272033180812049178612605246075062580585469430410618860250057463399279570354286669047577758927328864388992123306212451509403152394148136105363817402562688186708175358218852349079190158732807302672745370040257219644697201681238697346923541678507645485296520536209706771857694240900605172937619415410180424934769249448772944216470541052485265558808433676546390051204254346932932316488017972311616136051587427851453983453479168⟩)) (.tmp 21)) <|
 .op (some 23) .any [22] (.conv (.toInt .i64) (.tmp 22)) <|
 .op (some 24) .any [19, 23] (.bin .add .none (.tmp 19) (.tmp 23)) <|
 .op (some 2) .any [24] (.mov (.tmp 24)) <|
 .nil))
 .ret)
def A276 : XFn := ⟨25, [(.int .u64)], [(.tmp 2)], (C276_0 (C276_1 (C276_2 C276_3)))⟩
def C282_0 (cc1 : XC) (cc2 : XC) : XC := (.seq (.ops (.op (some 3) .any [1] (.box 182 (.tmp 1)) <|
 .op (some 4) .any [] (.mov (.con (V.bool false))) <|
 .nil))
 (.seq (.seq (.ops (.op (some 5) .any [] (.mov (.con (V.int .i64 (Int.ofNat 0)))) <|
 .nil))
 (.block 0 (.loop [(0, .any), (3, .ptr), (5, (.int .i64))] [] [] cc2)))
 (.keep [] [] [] cc1)))
def C282_1 : XC := (.seq (.ops (.op (some 4) .any [] (.mov (.con (V.bool false))) <|
 .nil))
 .ret)
def C282_2 : XC := (.seq (.seq (.ops (.op (some 6) .any [5] (.mov (.tmp 5)) <|
 .op (some 7) .any [0] (.mov (.tmp 0)) <|
 .op (some 8) .any [7] (.len false (.tmp 7)) <|
 .op (some 9) .any [6, 8] (.bin .lss .none (.tmp 6) (.tmp 8)) <|
 .nil))
 (.cond (.tmp 9) .skip
 (.exit 0)))
 (.seq (.block 1 (.seq (.draw (.op (some 12) .any [0] (.mov (.tmp 0)) <|
 .op (some 13) .any [5] (.mov (.tmp 5)) <|
 .op (some 14) .any [12, 13] (.iaddrS 2 (.tmp 12) (.tmp 13)) <|
 .op (some 15) (.agg [(.int .i64), (.int .i64)]) [14] (.load (some 2) (.tmp 14)) <|
 .op (some 16) (.agg [(.int .i64), (.int .i64)]) [3] (.load (some 2) (.tmp 3)) <|
 .op (some 17) .any [15, 16] (.bin .eql (.flat [(0, .int), (1, .int)]) (.tmp 15) (.tmp 16)) <|
 .nil) [0, 0, 3, 7, 0, 31])
 (.cond (.tmp 17) (.seq (.ops (.op (some 4) .any [] (.mov (.con (V.bool true))) <|
 .nil))
 .ret)
 .skip)))
 (.ops (.op (some 10) .any [5] (.mov (.tmp 5)) <|
 .op (some 11) .any [10] (.bin .add .none (.tmp 10) (.con (V.int .i64 (Int.ofNat 1)))) <|
 .op (some 5) .any [11] (.mov (.tmp 11)) <|
 .nil))))
def A282 : XFn := ⟨18, [.any, (.agg [(.int .i64), (.int .i64)])], [(.tmp 4)], (C282_0 C282_1 C282_2)⟩
end
end Go.Proofs.YtmgbgifepccgpaaGreatDoor
