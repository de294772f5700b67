/- The code of the functions that are entered. Printed by a program off the dump. -/
import Derived.Test.YtpcnmmbpgeahfaaGreatDoorOgX
import Derived.KernelRfl
set_option linter.all false
set_option maxRecDepth 100000
set_option maxHeartbeats 0
namespace Go.Proofs.YtpcnmmbpgeahfaaGreatDoor
open Go Go.Og
noncomputable section
/-! ### F75: __ogham_print.printer_.field -/
def G75_0 : List AOper := [⟨(some 6), .mov (.tmp 0), none⟩, ⟨(some 7), .nilck (.tmp 6), none⟩, ⟨(some 8), .faddr 0 (.tmp 7), none⟩, ⟨(some 9), .faddr 0 (.tmp 4), none⟩, ⟨(some 10), .load none (.tmp 9), none⟩, ⟨(some 11), .buildSlice 9 2 [(V.str ⟨0, 0⟩), (V.str ⟨0, 0⟩)] [(0, 1, (.tmp 10)), (1, 1, (.con (V.str ⟨1, 32⟩)))], none⟩, ⟨(some 12), .call 19 [(.tmp 8), (.tmp 11)], none⟩]
def H75_0 : List DP := [⟨0, [0]⟩, ⟨1, [6]⟩, ⟨3, [7]⟩, ⟨0, [4]⟩, ⟨8, [9]⟩, ⟨24, [10]⟩, ⟨63, [8, 11]⟩]
def G75_1 : List AOper := [⟨(some 28), .mov (.tmp 0), none⟩, ⟨(some 29), .nilck (.tmp 28), none⟩, ⟨(some 30), .faddr 0 (.tmp 29), none⟩, ⟨(some 31), .faddr 4 (.tmp 4), none⟩, ⟨(some 32), .load (some 6) (.tmp 31), none⟩, ⟨(some 33), .call 92 [(.tmp 32)], none⟩, ⟨(some 34), .buildSlice 9 2 [(V.str ⟨0, 0⟩), (V.str ⟨0, 0⟩)] [(0, 1, (.con (V.str ⟨9, 596370134094961787936⟩))), (1, 1, (.tmp 33))], none⟩, ⟨(some 35), .call 19 [(.tmp 30), (.tmp 34)], none⟩]
def H75_1 : List DP := [⟨0, [0]⟩, ⟨1, [28]⟩, ⟨3, [29]⟩, ⟨0, [4]⟩, ⟨8, [31]⟩, ⟨24, [32]⟩, ⟨56, [33]⟩, ⟨127, [30, 34]⟩]
def Fin75 (E : List (Nat × Blk)) : St → Ans := fun s => resK E s [] fun l => some (oneV l, s.σ)
def C75_0 (cc1 : XC) : XC := (.seq (.ops (.op (some 4) .any [1] (.box 100 (.tmp 1)) <|
 .nil))
 (.seq (.keep [(0, .ptr), (2, (.int .i64)), (4, .ptr)] [] [] (.gdraw G75_0 H75_0 [(0, .ptr), (2, (.int .i64)), (4, .ptr)]))
 (.seq (.ops (.op (some 13) .any [0] (.mov (.tmp 0)) <|
 .op (some 14) .any [4] (.faddr 1 (.tmp 4)) <|
 .op (some 15) (.int .i64) [14] (.load none (.tmp 14)) <|
 .op (some 16) .any [2] (.mov (.tmp 2)) <|
 .op (some 17) .any [16] (.bin .add .none (.tmp 16) (.con (V.int .i64 (Int.ofNat 1)))) <|
 .op (some 18) (.tup []) [13, 15, 17] (.call 20 [(.tmp 13), (.tmp 15), (.tmp 17)]) <|
 .nil))
 (.seq (.seq (.ops (.op (some 19) .any [4] (.faddr 2 (.tmp 4)) <|
 .op (some 20) .bool [19] (.load none (.tmp 19)) <|
 .nil))
 (.cond (.tmp 20) (.ops (.op (some 21) .any [0] (.mov (.tmp 0)) <|
 .op (some 22) .any [21] (.nilck (.tmp 21)) <|
 .op (some 23) .any [22] (.faddr 0 (.tmp 22)) <|
 .op (some 24) .any [] (.buildSlice 9 1 [(V.str ⟨0, 0⟩)] [(0, 1, (.con (V.str ⟨9, 1406658335438940426016⟩)))]) <|
 .op (some 25) (.tup []) [23, 24] (.call 19 [(.tmp 23), (.tmp 24)]) <|
 .nil))
 .skip))
 (.keep [(0, .ptr), (4, .ptr)] [] [] cc1)))))
def T75_0 (E : List (Nat × Blk)) (D : Den) (W : DrawFn) (K1 : Nat → Nat → Nat → Nat → H → Ans) (v0b : Nat) (v0o : Nat) (v1_0 : BS) (v1_1 : Int) (v1_2 : Bool) (v1_3 : Bool) (v1_4 : Int) (v1_5 : Int) (v1_6 : V) (v1_7 : V) (v1_8 : Int) (v1_9 : V) (v1_10 : Int) (v2 : Int) (σ : H) : Ans :=
 chk (allOne (V.cells (V.agg [(V.str v1_0), (V.int .i64 v1_1), (V.bool v1_2), (V.bool v1_3), (V.int .i64 v1_4), (V.int .i64 v1_5), v1_6, v1_7, (V.int .i64 v1_8), v1_9, (V.int .i64 v1_10)]))) (
 let s1 := newB σ (.cells (V.cells (V.agg [(V.str v1_0), (V.int .i64 v1_1), (V.bool v1_2), (V.bool v1_3), (V.int .i64 v1_4), (V.int .i64 v1_5), v1_6, v1_7, (V.int .i64 v1_8), v1_9, (V.int .i64 v1_10)])));
 gdrawK (W G75_0 H75_0 [(0, (V.ptr v0b v0o)), (2, (V.int .i64 v2)), (4, (V.ptr (H.next σ) 0))] s1) fun e2 s3 =>
 getL e2 0 fun u4 =>
 rtPtr u4 fun b5 o6 =>
 getL e2 2 fun u7 =>
 rtInt .i64 u7 fun x8 =>
 getL e2 4 fun u9 =>
 rtPtr u9 fun b10 o11 =>
 ldK E s3 b10 (Nat.add o11 1) fun u12 =>
 rtInt .i64 u12 fun x13 =>
 callK (D 20 [(V.ptr b5 o6), (V.int .i64 x13), (V.int .i64 (addF .i64 x8 (Int.ofNat 1)))] s3) fun u14 s15 =>
 rtTup u14 fun l16 =>
 rtNil l16 (
 ldK E s15 b10 (Nat.add o11 2) fun u17 =>
 rtBool u17 fun x18 =>
 condK x18 (
 let s19 := newB s15 (.cells [(V.str (BS.mk 9 1406658335438940426016))]);
 callK (D 19 [(V.ptr b5 o6), (V.sl (H.next s15) 0 1 (.ex 1))] s19) fun u20 s21 =>
 rtTup u20 fun l22 =>
 rtNil l22 (
 K1 b5 o6 b10 o11 s21)) (
 K1 b5 o6 b10 o11 s15)))
def C75_1 : XC := (.seq (.ops (.op (some 26) .any [4] (.faddr 3 (.tmp 4)) <|
 .op (some 27) .bool [26] (.load none (.tmp 26)) <|
 .nil))
 (.cond (.tmp 27) (.keep [(0, .ptr), (4, .ptr)] [] [] (.gdraw G75_1 H75_1 []))
 .skip))
def T75_1 (E : List (Nat × Blk)) (D : Den) (W : DrawFn) (v0b : Nat) (v0o : Nat) (v4b : Nat) (v4o : Nat) (σ : H) : Ans :=
 ldK E σ v4b (Nat.add v4o 3) fun u1 =>
 rtBool u1 fun x2 =>
 condK x2 (
 gdrawK (W G75_1 H75_1 [(0, (V.ptr v0b v0o)), (4, (V.ptr v4b v4o))] σ) fun e3 s4 =>
 some ((V.tup []), s4)) (
 some ((V.tup []), σ))
theorem P75_0 (E : List (Nat × Blk)) (D : Den) (W : DrawFn) (N : Nat) (cc1 : XC) (v0b : Nat) (v0o : Nat) (v1_0 : BS) (v1_1 : Int) (v1_2 : Bool) (v1_3 : Bool) (v1_4 : Int) (v1_5 : Int) (v1_6 : V) (v1_7 : V) (v1_8 : Int) (v1_9 : V) (v1_10 : Int) (v2 : Int) (σ : H) :
  denC E D W N (C75_0 cc1) ⟨[(0, (V.ptr v0b v0o)), (1, (V.agg [(V.str v1_0), (V.int .i64 v1_1), (V.bool v1_2), (V.bool v1_3), (V.int .i64 v1_4), (V.int .i64 v1_5), v1_6, v1_7, (V.int .i64 v1_8), v1_9, (V.int .i64 v1_10)])), (2, (V.int .i64 v2))], [], [], σ⟩ (Fin75 E) (fun _ _ => none) (Fin75 E) =
  T75_0 E D W (fun v0b v0o v4b v4o σ => denC E D W N cc1 ⟨[(0, (V.ptr v0b v0o)), (4, (V.ptr v4b v4o))], [], [], σ⟩ (Fin75 E) (fun _ _ => none) (Fin75 E)) v0b v0o v1_0 v1_1 v1_2 v1_3 v1_4 v1_5 v1_6 v1_7 v1_8 v1_9 v1_10 v2 σ := by kernel_rfl
theorem P75_1 (E : List (Nat × Blk)) (D : Den) (W : DrawFn) (N : Nat) (v0b : Nat) (v0o : Nat) (v4b : Nat) (v4o : Nat) (σ : H) :
  denC E D W N (C75_1 ) ⟨[(0, (V.ptr v0b v0o)), (4, (V.ptr v4b v4o))], [], [], σ⟩ (Fin75 E) (fun _ _ => none) (Fin75 E) =
  T75_1 E D W  v0b v0o v4b v4o σ := by kernel_rfl
def J75_1 (E : List (Nat × Blk)) (D : Den) (W : DrawFn) (N : Nat) : Nat → Nat → Nat → Nat → H → Ans := T75_1 E D W 
theorem JE75_1 (E : List (Nat × Blk)) (D : Den) (W : DrawFn) (N : Nat) (v0b : Nat) (v0o : Nat) (v4b : Nat) (v4o : Nat) (σ : H) :
  denC E D W N C75_1 ⟨[(0, (V.ptr v0b v0o)), (4, (V.ptr v4b v4o))], [], [], σ⟩ (Fin75 E) (fun _ _ => none) (Fin75 E) = J75_1 E D W N v0b v0o v4b v4o σ := by
  refine (P75_1 E D W N   v0b v0o v4b v4o σ).trans ?_
  kernel_rfl
def J75_0 (E : List (Nat × Blk)) (D : Den) (W : DrawFn) (N : Nat) : Nat → Nat → BS → Int → Bool → Bool → Int → Int → V → V → Int → V → Int → Int → H → Ans := T75_0 E D W (J75_1 E D W N )
theorem JE75_0 (E : List (Nat × Blk)) (D : Den) (W : DrawFn) (N : Nat) (v0b : Nat) (v0o : Nat) (v1_0 : BS) (v1_1 : Int) (v1_2 : Bool) (v1_3 : Bool) (v1_4 : Int) (v1_5 : Int) (v1_6 : V) (v1_7 : V) (v1_8 : Int) (v1_9 : V) (v1_10 : Int) (v2 : Int) (σ : H) :
  denC E D W N (C75_0 C75_1) ⟨[(0, (V.ptr v0b v0o)), (1, (V.agg [(V.str v1_0), (V.int .i64 v1_1), (V.bool v1_2), (V.bool v1_3), (V.int .i64 v1_4), (V.int .i64 v1_5), v1_6, v1_7, (V.int .i64 v1_8), v1_9, (V.int .i64 v1_10)])), (2, (V.int .i64 v2))], [], [], σ⟩ (Fin75 E) (fun _ _ => none) (Fin75 E) = J75_0 E D W N v0b v0o v1_0 v1_1 v1_2 v1_3 v1_4 v1_5 v1_6 v1_7 v1_8 v1_9 v1_10 v2 σ := by
  refine (P75_0 E D W N C75_1  v0b v0o v1_0 v1_1 v1_2 v1_3 v1_4 v1_5 v1_6 v1_7 v1_8 v1_9 v1_10 v2 σ).trans ?_
  simp only [JE75_1]
  kernel_rfl
def F75 (E : List (Nat × Blk)) (D : Den) (W : DrawFn) (N : Nat) (args : List V) (σ : H) : Ans :=
 rtCons args fun x1 l2 =>
 rtPtr x1 fun b3 o4 =>
 rtCons l2 fun x5 l6 =>
 rtAgg x5 fun l7 =>
 rtCons l7 fun x8 l9 =>
 rtStr x8 fun x10 =>
 rtCons l9 fun x11 l12 =>
 rtInt .i64 x11 fun x13 =>
 rtCons l12 fun x14 l15 =>
 rtBool x14 fun x16 =>
 rtCons l15 fun x17 l18 =>
 rtBool x17 fun x19 =>
 rtCons l18 fun x20 l21 =>
 rtInt .i64 x20 fun x22 =>
 rtCons l21 fun x23 l24 =>
 rtInt .i64 x23 fun x25 =>
 rtCons l24 fun x26 l27 =>
 rtCons l27 fun x28 l29 =>
 rtCons l29 fun x30 l31 =>
 rtInt .i64 x30 fun x32 =>
 rtCons l31 fun x33 l34 =>
 rtCons l34 fun x35 l36 =>
 rtInt .i64 x35 fun x37 =>
 rtNil l36 (
 rtCons l6 fun x38 l39 =>
 rtInt .i64 x38 fun x40 =>
 rtNil l39 (
 J75_0 E D W N b3 o4 x10 x13 x16 x19 x22 x25 x26 x28 x32 x33 x37 x40 σ))
def A75 : XFn := ⟨36, [.ptr, (.agg [.str, (.int .i64), .bool, .bool, (.int .i64), (.int .i64), .any, .any, (.int .i64), .any, (.int .i64)]), (.int .i64)], [], (C75_0 C75_1)⟩
theorem FE75 (E : List (Nat × Blk)) (D : Den) (W : DrawFn) (N : Nat) (args : List V) (σ : H) : runX E D W N A75 args σ = F75 E D W N args σ := by
  unfold F75
  simp only [← JE75_0]
  kernel_rfl
theorem AO75 : A75.body.ok = true := by kernel_rfl

/-! ### F76: __ogham_lex.reader_.peek -/
def Fin76 (E : List (Nat × Blk)) : St → Ans := fun s => resK E s [(.tmp 4)] fun l => some (oneV l, s.σ)
def C76_0 : XC := (.seq (.ops (.op (some 4) .any [] (.mov (.con (V.int .u8 (Int.ofNat 0)))) <|
 .nil))
 (.seq (.seq (.draw (.op (some 5) .any [0] (.mov (.tmp 0)) <|
 .op (some 6) .any [5] (.nilck (.tmp 5)) <|
 .op (some 7) .any [6] (.faddr 1 (.tmp 6)) <|
 .op (some 8) (.int .i64) [7] (.load none (.tmp 7)) <|
 .op (some 9) .any [1] (.mov (.tmp 1)) <|
 .op (some 10) .any [8, 9] (.bin .add .none (.tmp 8) (.tmp 9)) <|
 .op (some 11) .any [0] (.mov (.tmp 0)) <|
 .op (some 12) .any [11] (.nilck (.tmp 11)) <|
 .op (some 13) .any [12] (.faddr 0 (.tmp 12)) <|
 .op (some 14) .str [13] (.load none (.tmp 13)) <|
 .op (some 15) .any [14] (.len true (.tmp 14)) <|
 .op (some 16) .any [10, 15] (.bin .geq .none (.tmp 10) (.tmp 15)) <|
 .nil) [0, 1, 3, 7, 0, 31, 0, 64, 192, 448, 960, 2047])
 (.cond (.tmp 16) (.seq (.ops (.op (some 4) .any [] (.mov (.con (V.int .u8 (Int.ofNat 0)))) <|
 .nil))
 .ret)
 .skip))
 (.seq (.draw (.op (some 17) .any [0] (.mov (.tmp 0)) <|
 .op (some 18) .any [17] (.nilck (.tmp 17)) <|
 .op (some 19) .any [18] (.faddr 0 (.tmp 18)) <|
 .op (some 20) .str [19] (.load none (.tmp 19)) <|
 .op (some 21) .any [0] (.mov (.tmp 0)) <|
 .op (some 22) .any [21] (.nilck (.tmp 21)) <|
 .op (some 23) .any [22] (.faddr 1 (.tmp 22)) <|
 .op (some 24) (.int .i64) [23] (.load none (.tmp 23)) <|
 .op (some 25) .any [1] (.mov (.tmp 1)) <|
 .op (some 26) .any [24, 25] (.bin .add .none (.tmp 24) (.tmp 25)) <|
 .op (some 27) .any [20, 26] (.idxStr (.tmp 20) (.tmp 26)) <|
 .op (some 4) .any [27] (.mov (.tmp 27)) <|
 .nil) [0, 1, 3, 7, 0, 16, 48, 112, 0, 496, 1023, 2047])
 .ret)))
def T76_0 (E : List (Nat × Blk)) (D : Den) (W : DrawFn) (v0b : Nat) (v0o : Nat) (v1 : Int) (σ : H) : Ans :=
 ldK E σ v0b (Nat.add v0o 1) fun u1 =>
 rtInt .i64 u1 fun x2 =>
 ldK E σ v0b v0o fun u3 =>
 rtStr u3 fun x4 =>
 condK (leF (Int.ofNat (BS.len x4)) (addF .i64 x2 v1)) (
 some ((V.int .u8 (Int.ofNat 0)), σ)) (
 ldK E σ v0b v0o fun u5 =>
 rtStr u5 fun x6 =>
 ldK E σ v0b (Nat.add v0o 1) fun u7 =>
 rtInt .i64 u7 fun x8 =>
 idxStrX x6 (addF .i64 x8 v1) fun x9 =>
 some ((V.int .u8 x9), σ))
theorem P76_0 (E : List (Nat × Blk)) (D : Den) (W : DrawFn) (N : Nat) (v0b : Nat) (v0o : Nat) (v1 : Int) (σ : H) :
  denC E D W N (C76_0 ) ⟨[(0, (V.ptr v0b v0o)), (1, (V.int .i64 v1))], [], [], σ⟩ (Fin76 E) (fun _ _ => none) (Fin76 E) =
  T76_0 E D W  v0b v0o v1 σ := by kernel_rfl
def J76_0 (E : List (Nat × Blk)) (D : Den) (W : DrawFn) (N : Nat) : Nat → Nat → Int → H → Ans := T76_0 E D W 
theorem JE76_0 (E : List (Nat × Blk)) (D : Den) (W : DrawFn) (N : Nat) (v0b : Nat) (v0o : Nat) (v1 : Int) (σ : H) :
  denC E D W N C76_0 ⟨[(0, (V.ptr v0b v0o)), (1, (V.int .i64 v1))], [], [], σ⟩ (Fin76 E) (fun _ _ => none) (Fin76 E) = J76_0 E D W N v0b v0o v1 σ := by
  refine (P76_0 E D W N   v0b v0o v1 σ).trans ?_
  kernel_rfl
def F76 (E : List (Nat × Blk)) (D : Den) (W : DrawFn) (N : Nat) (args : List V) (σ : H) : Ans :=
 rtCons args fun x1 l2 =>
 rtPtr x1 fun b3 o4 =>
 rtCons l2 fun x5 l6 =>
 rtInt .i64 x5 fun x7 =>
 rtNil l6 (
 J76_0 E D W N b3 o4 x7 σ)
def A76 : XFn := ⟨28, [.ptr, (.int .i64)], [(.tmp 4)], C76_0⟩
theorem FE76 (E : List (Nat × Blk)) (D : Den) (W : DrawFn) (N : Nat) (args : List V) (σ : H) : runX E D W N A76 args σ = F76 E D W N args σ := by
  unfold F76
  simp only [← JE76_0]
  kernel_rfl
theorem AO76 : A76.body.ok = true := by kernel_rfl

/-! ### F77: __ogham_lex.reader_.ahead -/
def Fin77 (E : List (Nat × Blk)) : St → Ans := fun s => resK E s [(.tmp 4)] fun l => some (oneV l, s.σ)
def C77_0 : XC := (.seq (.ops (.op (some 4) .any [] (.mov (.con (V.bool false))) <|
 .nil))
 (.seq (.draw (.op (some 5) .any [0] (.mov (.tmp 0)) <|
 .op (some 6) .any [5] (.nilck (.tmp 5)) <|
 .op (some 7) .any [6] (.faddr 0 (.tmp 6)) <|
 .op (some 8) .str [7] (.load none (.tmp 7)) <|
 .op (some 9) .any [0] (.mov (.tmp 0)) <|
 .op (some 10) .any [9] (.nilck (.tmp 9)) <|
 .op (some 11) .any [10] (.faddr 1 (.tmp 10)) <|
 .op (some 12) (.int .i64) [11] (.load none (.tmp 11)) <|
 .op (some 13) .any [8, 12] (.sliceStr (.tmp 8) (some (.tmp 12)) none) <|
 .op (some 14) .any [1] (.mov (.tmp 1)) <|
 .op (some 15) .bool [13, 14] (.call 93 [(.tmp 13), (.tmp 14)]) <|
 .op (some 4) .any [15] (.mov (.tmp 15)) <|
 .nil) [0, 1, 3, 7, 0, 16, 48, 112, 255, 0, 1023, 2047])
 .ret))
def T77_0 (E : List (Nat × Blk)) (D : Den) (W : DrawFn) (v0b : Nat) (v0o : Nat) (v1 : BS) (σ : H) : Ans :=
 ldK E σ v0b v0o fun u1 =>
 rtStr u1 fun x2 =>
 ldK E σ v0b (Nat.add v0o 1) fun u3 =>
 rtInt .i64 u3 fun x4 =>
 sliceStrX x2 (some (V.int .i64 x4)) none fun t5 =>
 callK (D 93 [(V.str t5), (V.str v1)] σ) fun u6 s7 =>
 rtBool u6 fun x8 =>
 some ((V.bool x8), s7)
theorem P77_0 (E : List (Nat × Blk)) (D : Den) (W : DrawFn) (N : Nat) (v0b : Nat) (v0o : Nat) (v1 : BS) (σ : H) :
  denC E D W N (C77_0 ) ⟨[(0, (V.ptr v0b v0o)), (1, (V.str v1))], [], [], σ⟩ (Fin77 E) (fun _ _ => none) (Fin77 E) =
  T77_0 E D W  v0b v0o v1 σ := by kernel_rfl
def J77_0 (E : List (Nat × Blk)) (D : Den) (W : DrawFn) (N : Nat) : Nat → Nat → BS → H → Ans := T77_0 E D W 
theorem JE77_0 (E : List (Nat × Blk)) (D : Den) (W : DrawFn) (N : Nat) (v0b : Nat) (v0o : Nat) (v1 : BS) (σ : H) :
  denC E D W N C77_0 ⟨[(0, (V.ptr v0b v0o)), (1, (V.str v1))], [], [], σ⟩ (Fin77 E) (fun _ _ => none) (Fin77 E) = J77_0 E D W N v0b v0o v1 σ := by
  refine (P77_0 E D W N   v0b v0o v1 σ).trans ?_
  kernel_rfl
def F77 (E : List (Nat × Blk)) (D : Den) (W : DrawFn) (N : Nat) (args : List V) (σ : H) : Ans :=
 rtCons args fun x1 l2 =>
 rtPtr x1 fun b3 o4 =>
 rtCons l2 fun x5 l6 =>
 rtStr x5 fun x7 =>
 rtNil l6 (
 J77_0 E D W N b3 o4 x7 σ)
def A77 : XFn := ⟨16, [.ptr, .str], [(.tmp 4)], C77_0⟩
theorem FE77 (E : List (Nat × Blk)) (D : Den) (W : DrawFn) (N : Nat) (args : List V) (σ : H) : runX E D W N A77 args σ = F77 E D W N args σ := by
  unfold F77
  simp only [← JE77_0]
  kernel_rfl
theorem AO77 : A77.body.ok = true := by kernel_rfl

/-! ### F78: ogham_lex.letter -/
def Fin78 (E : List (Nat × Blk)) : St → Ans := fun s => resK E s [(.tmp 2)] fun l => some (oneV l, s.σ)
def C78_0 : XC := (.seq (.ops (.op (some 2) .any [] (.mov (.con (V.bool false))) <|
 .nil))
 (.seq (.ops (.op (some 3) .any [0] (.mov (.tmp 0)) <|
 .op (some 4) .any [3] (.bin .geq .none (.tmp 3) (.con (V.int .u8 (Int.ofNat 97)))) <|
 .op (some 5) .any [4] (.mov (.tmp 4)) <|
 .grp 5 true (.op (some 6) .any [0, 5] (.mov (.tmp 0)) <|
 .op (some 7) .any [6, 5] (.bin .leq .none (.tmp 6) (.con (V.int .u8 (Int.ofNat 122)))) <|
 .nil) 8 [5, 7] (.tmp 5) (.tmp 7) (.con (V.bool false)) <|
 .op (some 9) .any [8] (.mov (.tmp 8)) <|
 .grp 9 false (.op (some 10) .any [0, 9] (.mov (.tmp 0)) <|
 .op (some 11) .any [10, 9] (.bin .geq .none (.tmp 10) (.con (V.int .u8 (Int.ofNat 65)))) <|
 .op (some 12) .any [11, 9] (.mov (.tmp 11)) <|
 .grp 12 true (.op (some 13) .any [0, 12] (.mov (.tmp 0)) <|
 .op (some 14) .any [13, 12] (.bin .leq .none (.tmp 13) (.con (V.int .u8 (Int.ofNat 90)))) <|
 .nil) 15 [12, 14, 9] (.tmp 12) (.tmp 14) (.con (V.bool false)) <|
 .nil) 16 [9, 15] (.tmp 9) (.con (V.bool true)) (.tmp 15) <|
 .op (some 2) .any [16] (.mov (.tmp 16)) <|
 .nil))
 .ret))
def T78_0 (E : List (Nat × Blk)) (D : Den) (W : DrawFn) (v0 : Int) (σ : H) : Ans :=
 joinB (fun c1 s2 =>
 joinB (fun c4 s5 =>
 some ((V.bool c4), s5)) fun k6 =>
 condK c1 (
 k6 true s2) (
 joinB (fun c7 s8 =>
 k6 c7 s8) fun k9 =>
 condK (leF (Int.ofNat 65) v0) (
 k9 (leF v0 (Int.ofNat 90)) s2) (
 k9 false s2))) fun k3 =>
 condK (leF (Int.ofNat 97) v0) (
 k3 (leF v0 (Int.ofNat 122)) σ) (
 k3 false σ)
theorem P78_0 (E : List (Nat × Blk)) (D : Den) (W : DrawFn) (N : Nat) (v0 : Int) (σ : H) :
  denC E D W N (C78_0 ) ⟨[(0, (V.int .u8 v0))], [], [], σ⟩ (Fin78 E) (fun _ _ => none) (Fin78 E) =
  T78_0 E D W  v0 σ := by kernel_rfl
def J78_0 (E : List (Nat × Blk)) (D : Den) (W : DrawFn) (N : Nat) : Int → H → Ans := T78_0 E D W 
theorem JE78_0 (E : List (Nat × Blk)) (D : Den) (W : DrawFn) (N : Nat) (v0 : Int) (σ : H) :
  denC E D W N C78_0 ⟨[(0, (V.int .u8 v0))], [], [], σ⟩ (Fin78 E) (fun _ _ => none) (Fin78 E) = J78_0 E D W N v0 σ := by
  refine (P78_0 E D W N   v0 σ).trans ?_
  kernel_rfl
def F78 (E : List (Nat × Blk)) (D : Den) (W : DrawFn) (N : Nat) (args : List V) (σ : H) : Ans :=
 rtCons args fun x1 l2 =>
 rtInt .u8 x1 fun x3 =>
 rtNil l2 (
 J78_0 E D W N x3 σ)
def A78 : XFn := ⟨17, [(.int .u8)], [(.tmp 2)], C78_0⟩
theorem FE78 (E : List (Nat × Blk)) (D : Den) (W : DrawFn) (N : Nat) (args : List V) (σ : H) : runX E D W N A78 args σ = F78 E D W N args σ := by
  unfold F78
  simp only [← JE78_0]
  kernel_rfl
theorem AO78 : A78.body.ok = true := by kernel_rfl

/-! ### F79: __ogham_lex.lexer_.name -/
def Fin79 (E : List (Nat × Blk)) : St → Ans := fun s => resK E s [(.tmp 2), (.tmp 3)] fun l => some (oneV l, s.σ)
def C79_0 (cc1 : XC) (cc2 : XC) : XC := (.seq (.ops (.op (some 2) .any [] (.mov (.con (V.int .i64 (Int.ofNat 0)))) <|
 .op (some 3) .any [] (.mov (.con (V.str ⟨0, 0⟩))) <|
 .nil))
 (.seq (.ops (.op (some 7) .any [0] (.mov (.tmp 0)) <|
 .op (some 8) .any [7] (.nilck (.tmp 7)) <|
 .op (some 9) .any [8] (.faddr 0 (.tmp 8)) <|
 .op (some 10) .any [9] (.faddr 1 (.tmp 9)) <|
 .op (some 11) (.int .i64) [10] (.load none (.tmp 10)) <|
 .op (some 4) .any [11] (.mov (.tmp 11)) <|
 .nil))
 (.seq (.seq (.ops (.op (some 12) .any [0] (.mov (.tmp 0)) <|
 .op (some 13) .any [12] (.nilck (.tmp 12)) <|
 .op (some 14) .any [13] (.faddr 0 (.tmp 13)) <|
 .op (some 15) (.int .u8) [14] (.call 76 [(.tmp 14), (.con (V.int .i64 (Int.ofNat 0)))]) <|
 .op (some 5) .any [15] (.mov (.tmp 15)) <|
 .nil))
 (.block 0 (.loop [(0, .ptr), (4, (.int .i64)), (5, (.int .u8))] [] [] cc2)))
 (.keep [(0, .ptr), (4, (.int .i64))] [] [] cc1))))
def T79_0 (E : List (Nat × Blk)) (D : Den) (W : DrawFn) (K2 : Nat → Nat → Int → Int → H → Ans) (v0b : Nat) (v0o : Nat) (σ : H) : Ans :=
 ldK E σ v0b (Nat.add v0o 1) fun u1 =>
 rtInt .i64 u1 fun x2 =>
 callK (D 76 [(V.ptr v0b v0o), (V.int .i64 (Int.ofNat 0))] σ) fun u3 s4 =>
 rtInt .u8 u3 fun x5 =>
 K2 v0b v0o x2 x5 s4
def C79_1 : XC := (.seq (.draw (.op (some 46) .any [0] (.mov (.tmp 0)) <|
 .op (some 47) .any [46] (.nilck (.tmp 46)) <|
 .op (some 48) .any [47] (.faddr 0 (.tmp 47)) <|
 .op (some 49) .any [48] (.faddr 0 (.tmp 48)) <|
 .op (some 50) .str [49] (.load none (.tmp 49)) <|
 .op (some 51) .any [4] (.mov (.tmp 4)) <|
 .op (some 52) .any [0] (.mov (.tmp 0)) <|
 .op (some 53) .any [52] (.nilck (.tmp 52)) <|
 .op (some 54) .any [53] (.faddr 0 (.tmp 53)) <|
 .op (some 55) .any [54] (.faddr 1 (.tmp 54)) <|
 .op (some 56) (.int .i64) [55] (.load none (.tmp 55)) <|
 .op (some 57) .any [50, 51, 56] (.sliceStr (.tmp 50) (some (.tmp 51)) (some (.tmp 56))) <|
 .op (some 6) .any [57] (.mov (.tmp 57)) <|
 .nil) [0, 1, 3, 7, 15, 0, 0, 64, 192, 448, 960, 2047, 4095])
 (.seq (.block 2 (.seq (.ops (.op (some 59) .any [6] (.mov (.tmp 6)) <|
 .op (some 60) .any [59] (.len true (.tmp 59)) <|
 .op (some 61) .any [60] (.bin .gtr .none (.tmp 60) (.con (V.int .i64 (Int.ofNat 60)))) <|
 .op (some 62) .any [61] (.mov (.tmp 61)) <|
 .grp 62 false (.op (some 63) .any [6, 62] (.mov (.tmp 6)) <|
 .op (some 64) .any [6, 62] (.mov (.tmp 6)) <|
 .op (some 65) .any [64, 62] (.len true (.tmp 64)) <|
 .op (some 66) .any [65, 62] (.bin .sub .none (.tmp 65) (.con (V.int .i64 (Int.ofNat 1)))) <|
 .op (some 67) .any [63, 66, 62] (.idxStr (.tmp 63) (.tmp 66)) <|
 .op (some 68) .any [67, 62] (.bin .eql .none (.tmp 67) (.con (V.int .u8 (Int.ofNat 45)))) <|
 .nil) 69 [62, 68] (.tmp 62) (.con (V.bool true)) (.tmp 68) <|
 .op (some 58) .any [69] (.mov (.tmp 69)) <|
 .nil))
 (.cond (.tmp 58) (.seq (.ops (.op (some 2) .any [] (.mov (.con (V.int .i64 (Int.ofNat 0)))) <|
 .op (some 3) .any [] (.mov (.con (V.str ⟨0, 0⟩))) <|
 .nil))
 .ret)
 (.seq (.ops (.op (some 71) .any [6] (.mov (.tmp 6)) <|
 .op (some 72) .bool [71] (.call 94 [(.tmp 71)]) <|
 .op (some 70) .any [72] (.mov (.tmp 72)) <|
 .nil))
 (.cond (.tmp 70) (.seq (.ops (.op (some 73) .any [6] (.mov (.tmp 6)) <|
 .op (some 2) .any [] (.mov (.con (V.int .i64 (Int.ofNat 5)))) <|
 .op (some 3) .any [73] (.mov (.tmp 73)) <|
 .nil))
 .ret)
 (.seq (.ops (.op (some 75) .any [6] (.mov (.tmp 6)) <|
 .op (some 76) .any [75] (.idxStr (.tmp 75) (.con (V.int .i64 (Int.ofNat 0)))) <|
 .op (some 77) .any [76] (.bin .leq .none (.tmp 76) (.con (V.int .u8 (Int.ofNat 90)))) <|
 .op (some 74) .any [77] (.mov (.tmp 77)) <|
 .nil))
 (.cond (.tmp 74) (.seq (.ops (.op (some 78) .any [6] (.mov (.tmp 6)) <|
 .op (some 2) .any [] (.mov (.con (V.int .i64 (Int.ofNat 1)))) <|
 .op (some 3) .any [78] (.mov (.tmp 78)) <|
 .nil))
 .ret)
 .skip)))))))
 (.seq (.ops (.op (some 79) .any [6] (.mov (.tmp 6)) <|
 .op (some 2) .any [] (.mov (.con (V.int .i64 (Int.ofNat 2)))) <|
 .op (some 3) .any [79] (.mov (.tmp 79)) <|
 .nil))
 .ret)))
def T79_1 (E : List (Nat × Blk)) (D : Den) (W : DrawFn) (v0b : Nat) (v0o : Nat) (v4 : Int) (σ : H) : Ans :=
 ldK E σ v0b v0o fun u1 =>
 rtStr u1 fun x2 =>
 ldK E σ v0b (Nat.add v0o 1) fun u3 =>
 rtInt .i64 u3 fun x4 =>
 sliceStrX x2 (some (V.int .i64 v4)) (some (V.int .i64 x4)) fun t5 =>
 joinB (fun c6 s7 =>
 condK c6 (
 some ((V.tup [(V.int .i64 (Int.ofNat 0)), (V.str (BS.mk 0 0))]), s7)) (
 callK (D 94 [(V.str t5)] s7) fun u9 s10 =>
 rtBool u9 fun x11 =>
 condK x11 (
 some ((V.tup [(V.int .i64 (Int.ofNat 5)), (V.str t5)]), s10)) (
 idxStrX t5 (Int.ofNat 0) fun x12 =>
 condK (leF x12 (Int.ofNat 90)) (
 some ((V.tup [(V.int .i64 (Int.ofNat 1)), (V.str t5)]), s10)) (
 some ((V.tup [(V.int .i64 (Int.ofNat 2)), (V.str t5)]), s10))))) fun k8 =>
 condK (ltF (Int.ofNat 60) (Int.ofNat (BS.len t5))) (
 k8 true σ) (
 idxStrX t5 (subF .i64 (Int.ofNat (BS.len t5)) (Int.ofNat 1)) fun x13 =>
 k8 (eqF x13 (Int.ofNat 45)) σ)
def C79_2 : XC := (.seq (.seq (.ops (.op (some 16) .any [5] (.mov (.tmp 5)) <|
 .op (some 17) .bool [16] (.call 78 [(.tmp 16)]) <|
 .op (some 18) .any [17] (.mov (.tmp 17)) <|
 .grp 18 false (.op (some 19) .any [5, 18] (.mov (.tmp 5)) <|
 .op (some 20) .bool [19, 18] (.call 80 [(.tmp 19)]) <|
 .nil) 21 [18, 20] (.tmp 18) (.con (V.bool true)) (.tmp 20) <|
 .op (some 22) .any [21] (.mov (.tmp 21)) <|
 .grp 22 false (.op (some 23) .any [5, 22] (.mov (.tmp 5)) <|
 .op (some 24) .any [23, 22] (.bin .eql .none (.tmp 23) (.con (V.int .u8 (Int.ofNat 45)))) <|
 .op (some 25) .any [24, 22] (.mov (.tmp 24)) <|
 .grp 25 true (.op (some 26) .any [0, 25] (.mov (.tmp 0)) <|
 .op (some 27) .any [26, 25] (.nilck (.tmp 26)) <|
 .op (some 28) .any [27, 25] (.faddr 0 (.tmp 27)) <|
 .op (some 29) (.int .u8) [28, 25] (.call 76 [(.tmp 28), (.con (V.int .i64 (Int.ofNat 1)))]) <|
 .op (some 30) .any [29, 25] (.bin .neq .none (.tmp 29) (.con (V.int .u8 (Int.ofNat 45)))) <|
 .nil) 31 [25, 30, 22] (.tmp 25) (.tmp 30) (.con (V.bool false)) <|
 .nil) 32 [22, 31] (.tmp 22) (.con (V.bool true)) (.tmp 31) <|
 .nil))
 (.cond (.tmp 32) .skip
 (.exit 0)))
 (.seq (.block 1 (.ops (.op (some 37) .any [0] (.mov (.tmp 0)) <|
 .op (some 38) .any [37] (.nilck (.tmp 37)) <|
 .op (some 39) .any [38] (.faddr 0 (.tmp 38)) <|
 .op (some 40) .any [39] (.faddr 1 (.tmp 39)) <|
 .op (some 41) (.int .i64) [40] (.load none (.tmp 40)) <|
 .op (some 42) .any [41] (.bin .add .none (.tmp 41) (.con (V.int .i64 (Int.ofNat 1)))) <|
 .op (some 43) .any [37] (.nilck (.tmp 37)) <|
 .op (some 44) .any [43] (.faddr 0 (.tmp 43)) <|
 .op (some 45) .any [44] (.faddr 1 (.tmp 44)) <|
 .op none .any [45, 42] (.store 1 (.tmp 45) (.tmp 42)) <|
 .nil)))
 (.ops (.op (some 33) .any [0] (.mov (.tmp 0)) <|
 .op (some 34) .any [33] (.nilck (.tmp 33)) <|
 .op (some 35) .any [34] (.faddr 0 (.tmp 34)) <|
 .op (some 36) (.int .u8) [35] (.call 76 [(.tmp 35), (.con (V.int .i64 (Int.ofNat 0)))]) <|
 .op (some 5) .any [36] (.mov (.tmp 36)) <|
 .nil))))
def T79_2 (E : List (Nat × Blk)) (D : Den) (W : DrawFn) (K1 : Nat → Nat → Int → H → Ans) (R2 : Nat → Nat → Int → Int → H → Ans) (v0b : Nat) (v0o : Nat) (v4 : Int) (v5 : Int) (σ : H) : Ans :=
 callK (D 78 [(V.int .u8 v5)] σ) fun u1 s2 =>
 rtBool u1 fun x3 =>
 joinB (fun c4 s5 =>
 joinB (fun c7 s8 =>
 condK c7 (
 ldK E s8 v0b (Nat.add v0o 1) fun u10 =>
 rtInt .i64 u10 fun x11 =>
 stK 1 v0b (Nat.add v0o 1) (V.int .i64 (addF .i64 x11 (Int.ofNat 1))) s8 fun s12 =>
 callK (D 76 [(V.ptr v0b v0o), (V.int .i64 (Int.ofNat 0))] s12) fun u13 s14 =>
 rtInt .u8 u13 fun x15 =>
 R2 v0b v0o v4 x15 s14) (
 K1 v0b v0o v4 s8)) fun k9 =>
 condK c4 (
 k9 true s5) (
 joinB (fun c16 s17 =>
 k9 c16 s17) fun k18 =>
 condK (eqF v5 (Int.ofNat 45)) (
 callK (D 76 [(V.ptr v0b v0o), (V.int .i64 (Int.ofNat 1))] s5) fun u19 s20 =>
 rtInt .u8 u19 fun x21 =>
 k18 (not (eqF x21 (Int.ofNat 45))) s20) (
 k18 false s5))) fun k6 =>
 condK x3 (
 k6 true s2) (
 callK (D 80 [(V.int .u8 v5)] s2) fun u22 s23 =>
 rtBool u22 fun x24 =>
 k6 x24 s23)
theorem P79_0 (E : List (Nat × Blk)) (D : Den) (W : DrawFn) (N : Nat) (cc1 : XC) (cc2 : XC) (v0b : Nat) (v0o : Nat) (σ : H) :
  denC E D W N (C79_0 cc1 cc2) ⟨[(0, (V.ptr v0b v0o))], [], [], σ⟩ (Fin79 E) (fun _ _ => none) (Fin79 E) =
  T79_0 E D W (fun v0b v0o v4 v5 σ => iterK (fun rec s' => denC E D W N cc2 s' (fun s'' => keepS [(0, .ptr), (4, (.int .i64)), (5, (.int .u8))] [] [] s'' rec) (blkK 0 (fun s' => denC E D W N (.keep [(0, .ptr), (4, (.int .i64))] [] [] cc1) s' (Fin79 E) (fun _ _ => none) (Fin79 E)) (fun _ _ => none)) (Fin79 E)) N ⟨[(0, (V.ptr v0b v0o)), (4, (V.int .i64 v4)), (5, (V.int .u8 v5))], [], [], σ⟩) v0b v0o σ := by kernel_rfl
theorem P79_1 (E : List (Nat × Blk)) (D : Den) (W : DrawFn) (N : Nat) (v0b : Nat) (v0o : Nat) (v4 : Int) (σ : H) :
  denC E D W N (C79_1 ) ⟨[(0, (V.ptr v0b v0o)), (4, (V.int .i64 v4))], [], [], σ⟩ (Fin79 E) (fun _ _ => none) (Fin79 E) =
  T79_1 E D W  v0b v0o v4 σ := by kernel_rfl
theorem P79_2 (E : List (Nat × Blk)) (D : Den) (W : DrawFn) (N : Nat) (cc1 : XC) (li2 : St → Ans) (v0b : Nat) (v0o : Nat) (v4 : Int) (v5 : Int) (σ : H) :
  denC E D W N (C79_2 ) ⟨[(0, (V.ptr v0b v0o)), (4, (V.int .i64 v4)), (5, (V.int .u8 v5))], [], [], σ⟩ (fun s'' => keepS [(0, .ptr), (4, (.int .i64)), (5, (.int .u8))] [] [] s'' li2) (blkK 0 (fun s' => denC E D W N (.keep [(0, .ptr), (4, (.int .i64))] [] [] cc1) s' (Fin79 E) (fun _ _ => none) (Fin79 E)) (fun _ _ => none)) (Fin79 E) =
  T79_2 E D W (fun v0b v0o v4 σ => denC E D W N cc1 ⟨[(0, (V.ptr v0b v0o)), (4, (V.int .i64 v4))], [], [], σ⟩ (Fin79 E) (fun _ _ => none) (Fin79 E)) (fun v0b v0o v4 v5 σ => li2 ⟨[(0, (V.ptr v0b v0o)), (4, (V.int .i64 v4)), (5, (V.int .u8 v5))], [], [], σ⟩) v0b v0o v4 v5 σ := by kernel_rfl
def J79_1 (E : List (Nat × Blk)) (D : Den) (W : DrawFn) (N : Nat) : Nat → Nat → Int → H → Ans := T79_1 E D W 
theorem JE79_1 (E : List (Nat × Blk)) (D : Den) (W : DrawFn) (N : Nat) (v0b : Nat) (v0o : Nat) (v4 : Int) (σ : H) :
  denC E D W N C79_1 ⟨[(0, (V.ptr v0b v0o)), (4, (V.int .i64 v4))], [], [], σ⟩ (Fin79 E) (fun _ _ => none) (Fin79 E) = J79_1 E D W N v0b v0o v4 σ := by
  refine (P79_1 E D W N   v0b v0o v4 σ).trans ?_
  kernel_rfl
def L79_2 (E : List (Nat × Blk)) (D : Den) (W : DrawFn) (N : Nat) (n : Nat) : Nat → Nat → Int → Int → H → Ans :=
  Nat.rec (fun _ _ _ _ _ => none) (fun _ ih => T79_2 E D W (J79_1 E D W N ) ih) n
theorem LE79_2 (E : List (Nat × Blk)) (D : Den) (W : DrawFn) (N : Nat) (n : Nat) : ∀ (v0b : Nat) (v0o : Nat) (v4 : Int) (v5 : Int) (σ : H),
  iterK (fun rec s' => denC E D W N C79_2 s' (fun s'' => keepS [(0, .ptr), (4, (.int .i64)), (5, (.int .u8))] [] [] s'' rec) (blkK 0 (fun s' => denC E D W N (.keep [(0, .ptr), (4, (.int .i64))] [] [] C79_1) s' (Fin79 E) (fun _ _ => none) (Fin79 E)) (fun _ _ => none)) (Fin79 E)) n ⟨[(0, (V.ptr v0b v0o)), (4, (V.int .i64 v4)), (5, (V.int .u8 v5))], [], [], σ⟩ = L79_2 E D W N n v0b v0o v4 v5 σ := by
  induction n with
  | zero => intro v0b v0o v4 v5 σ; rfl
  | succ n ihn =>
    intro v0b v0o v4 v5 σ
    rw [iterK_succ]
    refine (P79_2 E D W N C79_1 (iterK (fun rec s' => denC E D W N C79_2 s' (fun s'' => keepS [(0, .ptr), (4, (.int .i64)), (5, (.int .u8))] [] [] s'' rec) (blkK 0 (fun s' => denC E D W N (.keep [(0, .ptr), (4, (.int .i64))] [] [] C79_1) s' (Fin79 E) (fun _ _ => none) (Fin79 E)) (fun _ _ => none)) (Fin79 E)) n) v0b v0o v4 v5 σ).trans ?_
    simp only [ihn, JE79_1]
    kernel_rfl
def J79_0 (E : List (Nat × Blk)) (D : Den) (W : DrawFn) (N : Nat) : Nat → Nat → H → Ans := T79_0 E D W (L79_2 E D W N N)
theorem JE79_0 (E : List (Nat × Blk)) (D : Den) (W : DrawFn) (N : Nat) (v0b : Nat) (v0o : Nat) (σ : H) :
  denC E D W N (C79_0 C79_1 C79_2) ⟨[(0, (V.ptr v0b v0o))], [], [], σ⟩ (Fin79 E) (fun _ _ => none) (Fin79 E) = J79_0 E D W N v0b v0o σ := by
  refine (P79_0 E D W N C79_1 C79_2  v0b v0o σ).trans ?_
  simp only [LE79_2]
  kernel_rfl
def F79 (E : List (Nat × Blk)) (D : Den) (W : DrawFn) (N : Nat) (args : List V) (σ : H) : Ans :=
 rtCons args fun x1 l2 =>
 rtPtr x1 fun b3 o4 =>
 rtNil l2 (
 J79_0 E D W N b3 o4 σ)
def A79 : XFn := ⟨80, [.ptr], [(.tmp 2), (.tmp 3)], (C79_0 C79_1 C79_2)⟩
theorem FE79 (E : List (Nat × Blk)) (D : Den) (W : DrawFn) (N : Nat) (args : List V) (σ : H) : runX E D W N A79 args σ = F79 E D W N args σ := by
  unfold F79
  simp only [← JE79_0]
  kernel_rfl
theorem AO79 : A79.body.ok = true := by kernel_rfl

/-! ### F80: ogham_lex.digit -/
def Fin80 (E : List (Nat × Blk)) : St → Ans := fun s => resK E s [(.tmp 2)] fun l => some (oneV l, s.σ)
def C80_0 : XC := (.seq (.ops (.op (some 2) .any [] (.mov (.con (V.bool false))) <|
 .nil))
 (.seq (.ops (.op (some 3) .any [0] (.mov (.tmp 0)) <|
 .op (some 4) .any [3] (.bin .geq .none (.tmp 3) (.con (V.int .u8 (Int.ofNat 48)))) <|
 .op (some 5) .any [4] (.mov (.tmp 4)) <|
 .grp 5 true (.op (some 6) .any [0, 5] (.mov (.tmp 0)) <|
 .op (some 7) .any [6, 5] (.bin .leq .none (.tmp 6) (.con (V.int .u8 (Int.ofNat 57)))) <|
 .nil) 8 [5, 7] (.tmp 5) (.tmp 7) (.con (V.bool false)) <|
 .op (some 2) .any [8] (.mov (.tmp 8)) <|
 .nil))
 .ret))
def T80_0 (E : List (Nat × Blk)) (D : Den) (W : DrawFn) (v0 : Int) (σ : H) : Ans :=
 joinB (fun c1 s2 =>
 some ((V.bool c1), s2)) fun k3 =>
 condK (leF (Int.ofNat 48) v0) (
 k3 (leF v0 (Int.ofNat 57)) σ) (
 k3 false σ)
theorem P80_0 (E : List (Nat × Blk)) (D : Den) (W : DrawFn) (N : Nat) (v0 : Int) (σ : H) :
  denC E D W N (C80_0 ) ⟨[(0, (V.int .u8 v0))], [], [], σ⟩ (Fin80 E) (fun _ _ => none) (Fin80 E) =
  T80_0 E D W  v0 σ := by kernel_rfl
def J80_0 (E : List (Nat × Blk)) (D : Den) (W : DrawFn) (N : Nat) : Int → H → Ans := T80_0 E D W 
theorem JE80_0 (E : List (Nat × Blk)) (D : Den) (W : DrawFn) (N : Nat) (v0 : Int) (σ : H) :
  denC E D W N C80_0 ⟨[(0, (V.int .u8 v0))], [], [], σ⟩ (Fin80 E) (fun _ _ => none) (Fin80 E) = J80_0 E D W N v0 σ := by
  refine (P80_0 E D W N   v0 σ).trans ?_
  kernel_rfl
def F80 (E : List (Nat × Blk)) (D : Den) (W : DrawFn) (N : Nat) (args : List V) (σ : H) : Ans :=
 rtCons args fun x1 l2 =>
 rtInt .u8 x1 fun x3 =>
 rtNil l2 (
 J80_0 E D W N x3 σ)
def A80 : XFn := ⟨9, [(.int .u8)], [(.tmp 2)], C80_0⟩
theorem FE80 (E : List (Nat × Blk)) (D : Den) (W : DrawFn) (N : Nat) (args : List V) (σ : H) : runX E D W N A80 args σ = F80 E D W N args σ := by
  unfold F80
  simp only [← JE80_0]
  kernel_rfl
theorem AO80 : A80.body.ok = true := by kernel_rfl

/-! ### F84: __ogham_lex.lexer_.sign -/
def Fin84 (E : List (Nat × Blk)) : St → Ans := fun s => resK E s [(.tmp 2), (.tmp 3)] fun l => some (oneV l, s.σ)
def C84_0 (cc1 : XC) (cc2 : XC) : XC := (.seq (.ops (.op (some 2) .any [] (.mov (.con (V.int .i64 (Int.ofNat 0)))) <|
 .op (some 3) .any [] (.mov (.con (V.str ⟨0, 0⟩))) <|
 .nil))
 (.seq (.seq (.ops (.op (some 6) .any [] (.buildSlice 9 13 [(V.str ⟨0, 0⟩), (V.str ⟨0, 0⟩), (V.str ⟨0, 0⟩), (V.str ⟨0, 0⟩), (V.str ⟨0, 0⟩), (V.str ⟨0, 0⟩), (V.str ⟨0, 0⟩), (V.str ⟨0, 0⟩), (V.str ⟨0, 0⟩), (V.str ⟨0, 0⟩), (V.str ⟨0, 0⟩), (V.str ⟨0, 0⟩), (V.str ⟨0, 0⟩)] [(0, 1, (.con (V.str ⟨3, 4012602⟩))), (1, 1, (.con (V.str ⟨3, 3026478⟩))), (2, 1, (.con (V.str ⟨2, 11822⟩))), (3, 1, (.con (V.str ⟨2, 23387⟩))), (4, 1, (.con (V.str ⟨2, 23901⟩))), (5, 1, (.con (V.str ⟨1, 123⟩))), (6, 1, (.con (V.str ⟨1, 125⟩))), (7, 1, (.con (V.str ⟨1, 91⟩))), (8, 1, (.con (V.str ⟨1, 93⟩))), (9, 1, (.con (V.str ⟨1, 40⟩))), (10, 1, (.con (V.str ⟨1, 41⟩))), (11, 1, (.con (V.str ⟨1, 44⟩))), (12, 1, (.con (V.str ⟨1, 58⟩)))]) <|
 .op (some 7) .any [6] (.len false (.tmp 6)) <|
 .op (some 8) .any [] (.mov (.con (V.int .i64 (Int.ofNat 0)))) <|
 .nil))
 (.block 0 (.loop [(0, .ptr), (6, .any), (7, (.int .i64)), (8, (.int .i64))] [] [] cc2)))
 (.keep [] [] [] cc1)))
def T84_0 (E : List (Nat × Blk)) (D : Den) (W : DrawFn) (K2 : Nat → Nat → V → Int → Int → H → Ans) (v0b : Nat) (v0o : Nat) (σ : H) : Ans :=
 let s1 := newB σ (.cells [(V.str (BS.mk 3 4012602)), (V.str (BS.mk 3 3026478)), (V.str (BS.mk 2 11822)), (V.str (BS.mk 2 23387)), (V.str (BS.mk 2 23901)), (V.str (BS.mk 1 123)), (V.str (BS.mk 1 125)), (V.str (BS.mk 1 91)), (V.str (BS.mk 1 93)), (V.str (BS.mk 1 40)), (V.str (BS.mk 1 41)), (V.str (BS.mk 1 44)), (V.str (BS.mk 1 58))]);
 slenK (V.sl (H.next σ) 0 13 (.ex 13)) fun n2 =>
 K2 v0b v0o (V.sl (H.next σ) 0 13 (.ex 13)) (Int.ofNat n2) (Int.ofNat 0) s1
def C84_1 : XC := (.seq (.ops (.op (some 2) .any [] (.mov (.con (V.int .i64 (Int.ofNat 0)))) <|
 .op (some 3) .any [] (.mov (.con (V.str ⟨0, 0⟩))) <|
 .nil))
 .ret)
def T84_1 (E : List (Nat × Blk)) (D : Den) (W : DrawFn) (σ : H) : Ans :=
 some ((V.tup [(V.int .i64 (Int.ofNat 0)), (V.str (BS.mk 0 0))]), σ)
def C84_2 : XC := (.seq (.ops (.op (some 9) .any [8, 7] (.bin .lss .none (.tmp 8) (.tmp 7)) <|
 .nil))
 (.seq (.cond (.tmp 9) .skip
 (.exit 0))
 (.seq (.block 1 (.seq (.ops (.op (some 10) .any [6, 8] (.iaddrS 1 (.tmp 6) (.tmp 8)) <|
 .op (some 11) .str [10] (.load none (.tmp 10)) <|
 .op (some 5) .any [11] (.mov (.tmp 11)) <|
 .nil))
 (.seq (.ops (.op (some 12) .any [0] (.mov (.tmp 0)) <|
 .op (some 13) .any [12] (.nilck (.tmp 12)) <|
 .op (some 14) .any [13] (.faddr 0 (.tmp 13)) <|
 .op (some 15) .any [5] (.mov (.tmp 5)) <|
 .op (some 16) .bool [14, 15] (.call 77 [(.tmp 14), (.tmp 15)]) <|
 .nil))
 (.cond (.tmp 16) (.seq (.ops (.op (some 17) .any [0] (.mov (.tmp 0)) <|
 .op (some 18) .any [17] (.nilck (.tmp 17)) <|
 .op (some 19) .any [18] (.faddr 0 (.tmp 18)) <|
 .op (some 20) .any [19] (.faddr 1 (.tmp 19)) <|
 .op (some 21) (.int .i64) [20] (.load none (.tmp 20)) <|
 .op (some 22) .any [5] (.mov (.tmp 5)) <|
 .op (some 23) .any [22] (.len true (.tmp 22)) <|
 .op (some 24) .any [21, 23] (.bin .add .none (.tmp 21) (.tmp 23)) <|
 .op (some 25) .any [17] (.nilck (.tmp 17)) <|
 .op (some 26) .any [25] (.faddr 0 (.tmp 25)) <|
 .op (some 27) .any [26] (.faddr 1 (.tmp 26)) <|
 .op none .any [27, 24] (.store 1 (.tmp 27) (.tmp 24)) <|
 .nil))
 (.seq (.ops (.op (some 28) .any [5] (.mov (.tmp 5)) <|
 .op (some 2) .any [] (.mov (.con (V.int .i64 (Int.ofNat 6)))) <|
 .op (some 3) .any [28] (.mov (.tmp 28)) <|
 .nil))
 .ret))
 .skip))))
 (.ops (.op (some 29) .any [8] (.bin .add .none (.tmp 8) (.con (V.int .i64 (Int.ofNat 1)))) <|
 .op (some 8) .any [29] (.mov (.tmp 29)) <|
 .nil)))))
def T84_2 (E : List (Nat × Blk)) (D : Den) (W : DrawFn) (K1 : H → Ans) (R2 : Nat → Nat → V → Int → Int → H → Ans) (v0b : Nat) (v0o : Nat) (v6 : V) (v7 : Int) (v8 : Int) (σ : H) : Ans :=
 condK (ltF v8 v7) (
 iaddrSK 1 v6 v8 fun b1 o2 =>
 ldK E σ b1 o2 fun u3 =>
 rtStr u3 fun x4 =>
 callK (D 77 [(V.ptr v0b v0o), (V.str x4)] σ) fun u5 s6 =>
 rtBool u5 fun x7 =>
 condK x7 (
 ldK E s6 v0b (Nat.add v0o 1) fun u8 =>
 rtInt .i64 u8 fun x9 =>
 stK 1 v0b (Nat.add v0o 1) (V.int .i64 (addF .i64 x9 (Int.ofNat (BS.len x4)))) s6 fun s10 =>
 some ((V.tup [(V.int .i64 (Int.ofNat 6)), (V.str x4)]), s10)) (
 R2 v0b v0o v6 v7 (addF .i64 v8 (Int.ofNat 1)) s6)) (
 K1 σ)
theorem P84_0 (E : List (Nat × Blk)) (D : Den) (W : DrawFn) (N : Nat) (cc1 : XC) (cc2 : XC) (v0b : Nat) (v0o : Nat) (σ : H) :
  denC E D W N (C84_0 cc1 cc2) ⟨[(0, (V.ptr v0b v0o))], [], [], σ⟩ (Fin84 E) (fun _ _ => none) (Fin84 E) =
  T84_0 E D W (fun v0b v0o v6 v7 v8 σ => iterK (fun rec s' => denC E D W N cc2 s' (fun s'' => keepS [(0, .ptr), (6, .any), (7, (.int .i64)), (8, (.int .i64))] [] [] s'' rec) (blkK 0 (fun s' => denC E D W N (.keep [] [] [] cc1) s' (Fin84 E) (fun _ _ => none) (Fin84 E)) (fun _ _ => none)) (Fin84 E)) N ⟨[(0, (V.ptr v0b v0o)), (6, v6), (7, (V.int .i64 v7)), (8, (V.int .i64 v8))], [], [], σ⟩) v0b v0o σ := by kernel_rfl
theorem P84_1 (E : List (Nat × Blk)) (D : Den) (W : DrawFn) (N : Nat) (σ : H) :
  denC E D W N (C84_1 ) ⟨[], [], [], σ⟩ (Fin84 E) (fun _ _ => none) (Fin84 E) =
  T84_1 E D W   σ := by kernel_rfl
theorem P84_2 (E : List (Nat × Blk)) (D : Den) (W : DrawFn) (N : Nat) (cc1 : XC) (li2 : St → Ans) (v0b : Nat) (v0o : Nat) (v6 : V) (v7 : Int) (v8 : Int) (σ : H) :
  denC E D W N (C84_2 ) ⟨[(0, (V.ptr v0b v0o)), (6, v6), (7, (V.int .i64 v7)), (8, (V.int .i64 v8))], [], [], σ⟩ (fun s'' => keepS [(0, .ptr), (6, .any), (7, (.int .i64)), (8, (.int .i64))] [] [] s'' li2) (blkK 0 (fun s' => denC E D W N (.keep [] [] [] cc1) s' (Fin84 E) (fun _ _ => none) (Fin84 E)) (fun _ _ => none)) (Fin84 E) =
  T84_2 E D W (fun  σ => denC E D W N cc1 ⟨[], [], [], σ⟩ (Fin84 E) (fun _ _ => none) (Fin84 E)) (fun v0b v0o v6 v7 v8 σ => li2 ⟨[(0, (V.ptr v0b v0o)), (6, v6), (7, (V.int .i64 v7)), (8, (V.int .i64 v8))], [], [], σ⟩) v0b v0o v6 v7 v8 σ := by kernel_rfl
def J84_1 (E : List (Nat × Blk)) (D : Den) (W : DrawFn) (N : Nat) : H → Ans := T84_1 E D W 
theorem JE84_1 (E : List (Nat × Blk)) (D : Den) (W : DrawFn) (N : Nat) (σ : H) :
  denC E D W N C84_1 ⟨[], [], [], σ⟩ (Fin84 E) (fun _ _ => none) (Fin84 E) = J84_1 E D W N  σ := by
  refine (P84_1 E D W N    σ).trans ?_
  kernel_rfl
def L84_2 (E : List (Nat × Blk)) (D : Den) (W : DrawFn) (N : Nat) (n : Nat) : Nat → Nat → V → Int → Int → H → Ans :=
  Nat.rec (fun _ _ _ _ _ _ => none) (fun _ ih => T84_2 E D W (J84_1 E D W N ) ih) n
theorem LE84_2 (E : List (Nat × Blk)) (D : Den) (W : DrawFn) (N : Nat) (n : Nat) : ∀ (v0b : Nat) (v0o : Nat) (v6 : V) (v7 : Int) (v8 : Int) (σ : H),
  iterK (fun rec s' => denC E D W N C84_2 s' (fun s'' => keepS [(0, .ptr), (6, .any), (7, (.int .i64)), (8, (.int .i64))] [] [] s'' rec) (blkK 0 (fun s' => denC E D W N (.keep [] [] [] C84_1) s' (Fin84 E) (fun _ _ => none) (Fin84 E)) (fun _ _ => none)) (Fin84 E)) n ⟨[(0, (V.ptr v0b v0o)), (6, v6), (7, (V.int .i64 v7)), (8, (V.int .i64 v8))], [], [], σ⟩ = L84_2 E D W N n v0b v0o v6 v7 v8 σ := by
  induction n with
  | zero => intro v0b v0o v6 v7 v8 σ; rfl
  | succ n ihn =>
    intro v0b v0o v6 v7 v8 σ
    rw [iterK_succ]
    refine (P84_2 E D W N C84_1 (iterK (fun rec s' => denC E D W N C84_2 s' (fun s'' => keepS [(0, .ptr), (6, .any), (7, (.int .i64)), (8, (.int .i64))] [] [] s'' rec) (blkK 0 (fun s' => denC E D W N (.keep [] [] [] C84_1) s' (Fin84 E) (fun _ _ => none) (Fin84 E)) (fun _ _ => none)) (Fin84 E)) n) v0b v0o v6 v7 v8 σ).trans ?_
    simp only [ihn, JE84_1]
    kernel_rfl
def J84_0 (E : List (Nat × Blk)) (D : Den) (W : DrawFn) (N : Nat) : Nat → Nat → H → Ans := T84_0 E D W (L84_2 E D W N N)
theorem JE84_0 (E : List (Nat × Blk)) (D : Den) (W : DrawFn) (N : Nat) (v0b : Nat) (v0o : Nat) (σ : H) :
  denC E D W N (C84_0 C84_1 C84_2) ⟨[(0, (V.ptr v0b v0o))], [], [], σ⟩ (Fin84 E) (fun _ _ => none) (Fin84 E) = J84_0 E D W N v0b v0o σ := by
  refine (P84_0 E D W N C84_1 C84_2  v0b v0o σ).trans ?_
  simp only [LE84_2]
  kernel_rfl
def F84 (E : List (Nat × Blk)) (D : Den) (W : DrawFn) (N : Nat) (args : List V) (σ : H) : Ans :=
 rtCons args fun x1 l2 =>
 rtPtr x1 fun b3 o4 =>
 rtNil l2 (
 J84_0 E D W N b3 o4 σ)
def A84 : XFn := ⟨30, [.ptr], [(.tmp 2), (.tmp 3)], (C84_0 C84_1 C84_2)⟩
theorem FE84 (E : List (Nat × Blk)) (D : Den) (W : DrawFn) (N : Nat) (args : List V) (σ : H) : runX E D W N A84 args σ = F84 E D W N args σ := by
  unfold F84
  simp only [← JE84_0]
  kernel_rfl
theorem AO84 : A84.body.ok = true := by kernel_rfl

/-! ### F86: __ogham_syntax.stream_.next -/
def Fin86 (E : List (Nat × Blk)) : St → Ans := fun s => resK E s [(.cell 2 (some 3))] fun l => some (oneV l, s.σ)
def C86_0 (cc1 : XC) : XC := (.seq (.ops (.pal 2 [] 50 [(V.int .i64 (Int.ofNat 0)), (V.str ⟨0, 0⟩), (V.int .i64 (Int.ofNat 0))] <|
 .nil))
 (.seq (.draw (.op (some 4) .any [0] (.mov (.tmp 0)) <|
 .op (some 5) .any [4] (.nilck (.tmp 4)) <|
 .op (some 6) .any [5] (.faddr 0 (.tmp 5)) <|
 .op (some 7) .any [6] (.load none (.tmp 6)) <|
 .op (some 8) .any [0] (.mov (.tmp 0)) <|
 .op (some 9) .any [8] (.nilck (.tmp 8)) <|
 .op (some 10) .any [9] (.faddr 1 (.tmp 9)) <|
 .op (some 11) (.int .i64) [10] (.load none (.tmp 10)) <|
 .op (some 12) .any [7, 11] (.iaddrS 3 (.tmp 7) (.tmp 11)) <|
 .op (some 13) (.agg [(.int .i64), .str, (.int .i64)]) [12] (.load (some 3) (.tmp 12)) <|
 .pal 3 [] 50 [(V.int .i64 (Int.ofNat 0)), (V.str ⟨0, 0⟩), (V.int .i64 (Int.ofNat 0))] <|
 .op none (.agg [(.int .i64), .str, (.int .i64)]) [3, 13] (.store 3 (.tmp 3) (.tmp 13)) <|
 .nil) [0, 1, 3, 7, 0, 16, 48, 112, 255, 511, 0, 2047])
 (.seq (.seq (.ops (.op (some 14) .any [3] (.faddr 0 (.tmp 3)) <|
 .op (some 15) (.int .i64) [14] (.load none (.tmp 14)) <|
 .op (some 16) .any [15] (.bin .neq .none (.tmp 15) (.con (V.int .i64 (Int.ofNat 0)))) <|
 .nil))
 (.cond (.tmp 16) (.ops (.op (some 17) .any [0] (.mov (.tmp 0)) <|
 .op (some 18) .any [17] (.nilck (.tmp 17)) <|
 .op (some 19) .any [18] (.faddr 1 (.tmp 18)) <|
 .op (some 20) (.int .i64) [19] (.load none (.tmp 19)) <|
 .op (some 21) .any [20] (.bin .add .none (.tmp 20) (.con (V.int .i64 (Int.ofNat 1)))) <|
 .op (some 22) .any [17] (.nilck (.tmp 17)) <|
 .op (some 23) .any [22] (.faddr 1 (.tmp 22)) <|
 .op none .any [23, 21] (.store 1 (.tmp 23) (.tmp 21)) <|
 .nil))
 .skip))
 (.keep [] [2, 3] [(2, [(.int .i64), .str, (.int .i64)]), (3, [(.int .i64), .str, (.int .i64)])] cc1))))
def T86_0 (E : List (Nat × Blk)) (D : Den) (W : DrawFn) (K1 : Int → BS → Int → Int → BS → Int → H → Ans) (v0b : Nat) (v0o : Nat) (σ : H) : Ans :=
 ldK E σ v0b v0o fun u1 =>
 ldK E σ v0b (Nat.add v0o 1) fun u2 =>
 rtInt .i64 u2 fun x3 =>
 iaddrSK 3 u1 x3 fun b4 o5 =>
 ldnK E σ b4 o5 3 fun l6 =>
 rtCons l6 fun x7 l8 =>
 rtInt .i64 x7 fun x9 =>
 rtCons l8 fun x10 l11 =>
 rtStr x10 fun x12 =>
 rtCons l11 fun x13 l14 =>
 rtInt .i64 x13 fun x15 =>
 rtNil l14 (
 condK (not (eqF x9 (Int.ofNat 0))) (
 ldK E σ v0b (Nat.add v0o 1) fun u16 =>
 rtInt .i64 u16 fun x17 =>
 stK 1 v0b (Nat.add v0o 1) (V.int .i64 (addF .i64 x17 (Int.ofNat 1))) σ fun s18 =>
 K1 (Int.ofNat 0) (BS.mk 0 0) (Int.ofNat 0) x9 x12 x15 s18) (
 K1 (Int.ofNat 0) (BS.mk 0 0) (Int.ofNat 0) x9 x12 x15 σ))
def C86_1 : XC := (.seq (.ops (.op (some 24) (.agg [(.int .i64), .str, (.int .i64)]) [3] (.load (some 3) (.tmp 3)) <|
 .op none (.agg [(.int .i64), .str, (.int .i64)]) [2, 24] (.store 3 (.tmp 2) (.tmp 24)) <|
 .nil))
 .ret)
def T86_1 (E : List (Nat × Blk)) (D : Den) (W : DrawFn) (r2_0 : Int) (r2_1 : BS) (r2_2 : Int) (r3_0 : Int) (r3_1 : BS) (r3_2 : Int) (σ : H) : Ans :=
 some ((V.agg [(V.int .i64 r3_0), (V.str r3_1), (V.int .i64 r3_2)]), σ)
theorem P86_0 (E : List (Nat × Blk)) (D : Den) (W : DrawFn) (N : Nat) (cc1 : XC) (v0b : Nat) (v0o : Nat) (σ : H) :
  denC E D W N (C86_0 cc1) ⟨[(0, (V.ptr v0b v0o))], [], [], σ⟩ (Fin86 E) (fun _ _ => none) (Fin86 E) =
  T86_0 E D W (fun r2_0 r2_1 r2_2 r3_0 r3_1 r3_2 σ => denC E D W N cc1 ⟨[], [(2, (2, 0)), (3, (3, 0))], [(2, [(V.int .i64 r2_0), (V.str r2_1), (V.int .i64 r2_2)]), (3, [(V.int .i64 r3_0), (V.str r3_1), (V.int .i64 r3_2)])], σ⟩ (Fin86 E) (fun _ _ => none) (Fin86 E)) v0b v0o σ := by kernel_rfl
theorem P86_1 (E : List (Nat × Blk)) (D : Den) (W : DrawFn) (N : Nat) (r2_0 : Int) (r2_1 : BS) (r2_2 : Int) (r3_0 : Int) (r3_1 : BS) (r3_2 : Int) (σ : H) :
  denC E D W N (C86_1 ) ⟨[], [(2, (2, 0)), (3, (3, 0))], [(2, [(V.int .i64 r2_0), (V.str r2_1), (V.int .i64 r2_2)]), (3, [(V.int .i64 r3_0), (V.str r3_1), (V.int .i64 r3_2)])], σ⟩ (Fin86 E) (fun _ _ => none) (Fin86 E) =
  T86_1 E D W  r2_0 r2_1 r2_2 r3_0 r3_1 r3_2 σ := by kernel_rfl
def J86_1 (E : List (Nat × Blk)) (D : Den) (W : DrawFn) (N : Nat) : Int → BS → Int → Int → BS → Int → H → Ans := T86_1 E D W 
theorem JE86_1 (E : List (Nat × Blk)) (D : Den) (W : DrawFn) (N : Nat) (r2_0 : Int) (r2_1 : BS) (r2_2 : Int) (r3_0 : Int) (r3_1 : BS) (r3_2 : Int) (σ : H) :
  denC E D W N C86_1 ⟨[], [(2, (2, 0)), (3, (3, 0))], [(2, [(V.int .i64 r2_0), (V.str r2_1), (V.int .i64 r2_2)]), (3, [(V.int .i64 r3_0), (V.str r3_1), (V.int .i64 r3_2)])], σ⟩ (Fin86 E) (fun _ _ => none) (Fin86 E) = J86_1 E D W N r2_0 r2_1 r2_2 r3_0 r3_1 r3_2 σ := by
  refine (P86_1 E D W N   r2_0 r2_1 r2_2 r3_0 r3_1 r3_2 σ).trans ?_
  kernel_rfl
def J86_0 (E : List (Nat × Blk)) (D : Den) (W : DrawFn) (N : Nat) : Nat → Nat → H → Ans := T86_0 E D W (J86_1 E D W N )
theorem JE86_0 (E : List (Nat × Blk)) (D : Den) (W : DrawFn) (N : Nat) (v0b : Nat) (v0o : Nat) (σ : H) :
  denC E D W N (C86_0 C86_1) ⟨[(0, (V.ptr v0b v0o))], [], [], σ⟩ (Fin86 E) (fun _ _ => none) (Fin86 E) = J86_0 E D W N v0b v0o σ := by
  refine (P86_0 E D W N C86_1  v0b v0o σ).trans ?_
  simp only [JE86_1]
  kernel_rfl
def F86 (E : List (Nat × Blk)) (D : Den) (W : DrawFn) (N : Nat) (args : List V) (σ : H) : Ans :=
 rtCons args fun x1 l2 =>
 rtPtr x1 fun b3 o4 =>
 rtNil l2 (
 J86_0 E D W N b3 o4 σ)
def A86 : XFn := ⟨25, [.ptr], [(.cell 2 (some 3))], (C86_0 C86_1)⟩
theorem FE86 (E : List (Nat × Blk)) (D : Den) (W : DrawFn) (N : Nat) (args : List V) (σ : H) : runX E D W N A86 args σ = F86 E D W N args σ := by
  unfold F86
  simp only [← JE86_0]
  kernel_rfl
theorem AO86 : A86.body.ok = true := by kernel_rfl

/-! ### F87: __ogham_syntax.stream_.is -/
def Fin87 (E : List (Nat × Blk)) : St → Ans := fun s => resK E s [(.tmp 4)] fun l => some (oneV l, s.σ)
def C87_0 : XC := (.seq (.ops (.op (some 4) .any [] (.mov (.con (V.bool false))) <|
 .nil))
 (.seq (.seq (.ops (.op (some 5) .any [0] (.mov (.tmp 0)) <|
 .op (some 6) .any [1] (.mov (.tmp 1)) <|
 .op (some 7) .bool [5, 6] (.call 64 [(.tmp 5), (.tmp 6)]) <|
 .op (some 8) .any [7] (.un .not (.tmp 7)) <|
 .nil))
 (.cond (.tmp 8) (.seq (.ops (.op (some 4) .any [] (.mov (.con (V.bool false))) <|
 .nil))
 .ret)
 .skip))
 (.seq (.ops (.op (some 9) .any [0] (.mov (.tmp 0)) <|
 .op (some 10) (.agg [(.int .i64), .str, (.int .i64)]) [9] (.call 86 [(.tmp 9)]) <|
 .nil))
 (.seq (.ops (.op (some 4) .any [] (.mov (.con (V.bool true))) <|
 .nil))
 .ret))))
def T87_0 (E : List (Nat × Blk)) (D : Den) (W : DrawFn) (v0 : V) (v1 : BS) (σ : H) : Ans :=
 callK (D 64 [v0, (V.str v1)] σ) fun u1 s2 =>
 rtBool u1 fun x3 =>
 condK (not x3) (
 some ((V.bool false), s2)) (
 callK (D 86 [v0] s2) fun u4 s5 =>
 rtAgg u4 fun l6 =>
 rtCons l6 fun x7 l8 =>
 rtInt .i64 x7 fun x9 =>
 rtCons l8 fun x10 l11 =>
 rtStr x10 fun x12 =>
 rtCons l11 fun x13 l14 =>
 rtInt .i64 x13 fun x15 =>
 rtNil l14 (
 some ((V.bool true), s5)))
theorem P87_0 (E : List (Nat × Blk)) (D : Den) (W : DrawFn) (N : Nat) (v0 : V) (v1 : BS) (σ : H) :
  denC E D W N (C87_0 ) ⟨[(0, v0), (1, (V.str v1))], [], [], σ⟩ (Fin87 E) (fun _ _ => none) (Fin87 E) =
  T87_0 E D W  v0 v1 σ := by kernel_rfl
def J87_0 (E : List (Nat × Blk)) (D : Den) (W : DrawFn) (N : Nat) : V → BS → H → Ans := T87_0 E D W 
theorem JE87_0 (E : List (Nat × Blk)) (D : Den) (W : DrawFn) (N : Nat) (v0 : V) (v1 : BS) (σ : H) :
  denC E D W N C87_0 ⟨[(0, v0), (1, (V.str v1))], [], [], σ⟩ (Fin87 E) (fun _ _ => none) (Fin87 E) = J87_0 E D W N v0 v1 σ := by
  refine (P87_0 E D W N   v0 v1 σ).trans ?_
  kernel_rfl
def F87 (E : List (Nat × Blk)) (D : Den) (W : DrawFn) (N : Nat) (args : List V) (σ : H) : Ans :=
 rtCons args fun x1 l2 =>
 rtCons l2 fun x3 l4 =>
 rtStr x3 fun x5 =>
 rtNil l4 (
 J87_0 E D W N x1 x5 σ)
def A87 : XFn := ⟨11, [.any, .str], [(.tmp 4)], C87_0⟩
theorem FE87 (E : List (Nat × Blk)) (D : Den) (W : DrawFn) (N : Nat) (args : List V) (σ : H) : runX E D W N A87 args σ = F87 E D W N args σ := by
  unfold F87
  simp only [← JE87_0]
  kernel_rfl
theorem AO87 : A87.body.ok = true := by kernel_rfl

/-! ### F88: __ogham_syntax.parser_.typ -/
def Fin88 (E : List (Nat × Blk)) : St → Ans := fun s => resK E s [(.tmp 4), (.tmp 5)] fun l => some (oneV l, s.σ)
def C88_0 : XC := (.seq (.ops (.op (some 4) .any [] (.mov (.con (V.int .i64 (Int.ofNat 0)))) <|
 .op (some 5) .any [] (.mov (.con (V.bool false))) <|
 .nil))
 (.seq (.ops (.op (some 10) .any [0] (.mov (.tmp 0)) <|
 .op (some 11) .any [10] (.nilck (.tmp 10)) <|
 .op (some 12) .any [11] (.faddr 0 (.tmp 11)) <|
 .op (some 13) (.agg [(.int .i64), .str, (.int .i64)]) [12] (.call 65 [(.tmp 12)]) <|
 .pal 6 [] 50 [(V.int .i64 (Int.ofNat 0)), (V.str ⟨0, 0⟩), (V.int .i64 (Int.ofNat 0))] <|
 .op none (.agg [(.int .i64), .str, (.int .i64)]) [6, 13] (.store 3 (.tmp 6) (.tmp 13)) <|
 .nil))
 (.seq (.block 0 (.seq (.ops (.op (some 15) (.agg [(.int .i64), .str, (.int .i64)]) [6] (.load (some 3) (.tmp 6)) <|
 .op (some 16) .bool [15] (.call 97 [(.tmp 15)]) <|
 .op (some 17) .any [16] (.un .not (.tmp 16)) <|
 .op (some 14) .any [17] (.mov (.tmp 17)) <|
 .nil))
 (.cond (.tmp 14) (.seq (.ops (.op (some 18) .any [0] (.mov (.tmp 0)) <|
 .op (some 19) .any [6] (.faddr 2 (.tmp 6)) <|
 .op (some 20) (.int .i64) [19] (.load none (.tmp 19)) <|
 .op (some 21) .bool [18, 20] (.call 85 [(.tmp 18), (.tmp 20), (.con (V.int .i64 (Int.ofNat 7)))]) <|
 .op (some 4) .any [] (.mov (.con (V.int .i64 (Int.ofNat 0)))) <|
 .op (some 5) .any [21] (.mov (.tmp 21)) <|
 .nil))
 .ret)
 (.seq (.ops (.op (some 23) .any [1] (.mov (.tmp 1)) <|
 .op (some 24) .any [23] (.bin .gtr .none (.tmp 23) (.con (V.int .i64 (Int.ofNat 16)))) <|
 .op (some 25) .any [24] (.mov (.tmp 24)) <|
 .grp 25 false (.op (some 26) .any [0, 25] (.mov (.tmp 0)) <|
 .op (some 27) .any [26, 25] (.nilck (.tmp 26)) <|
 .op (some 28) .any [27, 25] (.faddr 2 (.tmp 27)) <|
 .op (some 29) .any [28, 25] (.faddr 4 (.tmp 28)) <|
 .op (some 30) .any [29, 25] (.load none (.tmp 29)) <|
 .op (some 31) .any [30, 25] (.len false (.tmp 30)) <|
 .op (some 32) .any [31, 25] (.bin .geq .none (.tmp 31) (.con (V.int .i64 (Int.ofNat 300)))) <|
 .nil) 33 [25, 32] (.tmp 25) (.con (V.bool true)) (.tmp 32) <|
 .op (some 22) .any [33] (.mov (.tmp 33)) <|
 .nil))
 (.cond (.tmp 22) (.seq (.ops (.op (some 34) .any [0] (.mov (.tmp 0)) <|
 .op (some 35) .any [6] (.faddr 2 (.tmp 6)) <|
 .op (some 36) (.int .i64) [35] (.load none (.tmp 35)) <|
 .op (some 37) .bool [34, 36] (.call 85 [(.tmp 34), (.tmp 36), (.con (V.int .i64 (Int.ofNat 5)))]) <|
 .op (some 4) .any [] (.mov (.con (V.int .i64 (Int.ofNat 0)))) <|
 .op (some 5) .any [37] (.mov (.tmp 37)) <|
 .nil))
 .ret)
 .skip)))))
 (.seq (.ops (.op (some 38) .any [0] (.mov (.tmp 0)) <|
 .op (some 39) .any [38] (.nilck (.tmp 38)) <|
 .op (some 40) .any [39] (.faddr 2 (.tmp 39)) <|
 .op (some 41) .any [40] (.faddr 4 (.tmp 40)) <|
 .op (some 42) .any [41] (.load none (.tmp 41)) <|
 .op (some 43) .any [42] (.len false (.tmp 42)) <|
 .op (some 7) .any [43] (.mov (.tmp 43)) <|
 .nil))
 (.seq (.ops (.op (some 44) .any [0] (.mov (.tmp 0)) <|
 .op (some 45) .any [0] (.mov (.tmp 0)) <|
 .op (some 46) .any [45] (.nilck (.tmp 45)) <|
 .op (some 47) .any [46] (.faddr 2 (.tmp 46)) <|
 .op (some 48) .any [47] (.faddr 4 (.tmp 47)) <|
 .op (some 49) .any [48] (.load none (.tmp 48)) <|
 .op (some 50) (.agg [(.int .i64), .str, .bool, (.int .i64), (.int .i64), .bool, .bool, .bool, .bool, (.int .i64), (.int .i64), .any, .any, (.int .i64), .bool, (.int .i64)]) [] (.build [(V.int .i64 (Int.ofNat 0)), (V.str ⟨0, 0⟩), (V.bool false), (V.int .i64 (Int.ofNat 0)), (V.int .i64 (Int.ofNat 0)), (V.bool false), (V.bool false), (V.bool false), (V.bool false), (V.int .i64 (Int.ofNat 0)), (V.int .i64 (Int.ofNat 0)), V.nils, V.nils, (V.int .i64 (Int.ofNat 0)), (V.bool false), (V.int .i64 (Int.ofNat 0))] []) <|
 .op (some 51) .any [50] (.buildSlice 72 1 [(V.int .i64 (Int.ofNat 0)), (V.str ⟨0, 0⟩), (V.bool false), (V.int .i64 (Int.ofNat 0)), (V.int .i64 (Int.ofNat 0)), (V.bool false), (V.bool false), (V.bool false), (V.bool false), (V.int .i64 (Int.ofNat 0)), (V.int .i64 (Int.ofNat 0)), V.nils, V.nils, (V.int .i64 (Int.ofNat 0)), (V.bool false), (V.int .i64 (Int.ofNat 0))] [(0, 16, (.tmp 50))]) <|
 .op (some 52) .one [49, 51] (.append 72 16 144 (.tmp 49) (.tmp 51)) <|
 .op (some 53) .any [44] (.nilck (.tmp 44)) <|
 .op (some 54) .any [53] (.faddr 2 (.tmp 53)) <|
 .op (some 55) .any [54] (.faddr 4 (.tmp 54)) <|
 .op none .any [55, 52] (.store 1 (.tmp 55) (.tmp 52)) <|
 .nil))
 (.seq (.ops (.op (some 57) .any [0] (.mov (.tmp 0)) <|
 .op (some 58) .any [1] (.mov (.tmp 1)) <|
 .op (some 59) (.tup [(.agg [(.int .i64), .str, .bool, (.int .i64), (.int .i64), .bool, .bool, .bool, .bool, (.int .i64), (.int .i64), .any, .any, (.int .i64), .bool, (.int .i64)]), .bool]) [57, 58] (.call 98 [(.tmp 57), (.tmp 58)]) <|
 .op (some 56) .any [59] (.mov (.tmp 59)) <|
 .op (some 60) .any [56] (.extract 0 (.tmp 56)) <|
 .op (some 61) .any [56] (.extract 1 (.tmp 56)) <|
 .pal 8 [] 72 [(V.int .i64 (Int.ofNat 0)), (V.str ⟨0, 0⟩), (V.bool false), (V.int .i64 (Int.ofNat 0)), (V.int .i64 (Int.ofNat 0)), (V.bool false), (V.bool false), (V.bool false), (V.bool false), (V.int .i64 (Int.ofNat 0)), (V.int .i64 (Int.ofNat 0)), V.nils, V.nils, (V.int .i64 (Int.ofNat 0)), (V.bool false), (V.int .i64 (Int.ofNat 0))] <|
 .op none (.agg [(.int .i64), .str, .bool, (.int .i64), (.int .i64), .bool, .bool, .bool, .bool, (.int .i64), (.int .i64), .any, .any, (.int .i64), .bool, (.int .i64)]) [8, 60] (.store 16 (.tmp 8) (.tmp 60)) <|
 .op (some 9) .any [61] (.mov (.tmp 61)) <|
 .nil))
 (.seq (.seq (.ops (.op (some 62) .any [9] (.mov (.tmp 9)) <|
 .op (some 63) .any [62] (.un .not (.tmp 62)) <|
 .nil))
 (.cond (.tmp 63) (.seq (.ops (.op (some 4) .any [] (.mov (.con (V.int .i64 (Int.ofNat 0)))) <|
 .op (some 5) .any [] (.mov (.con (V.bool false))) <|
 .nil))
 .ret)
 .skip))
 (.seq (.draw (.op (some 64) .any [0] (.mov (.tmp 0)) <|
 .op (some 65) .any [64] (.nilck (.tmp 64)) <|
 .op (some 66) .any [65] (.faddr 2 (.tmp 65)) <|
 .op (some 67) .any [66] (.faddr 4 (.tmp 66)) <|
 .op (some 68) .any [67] (.load none (.tmp 67)) <|
 .op (some 69) .any [7] (.mov (.tmp 7)) <|
 .op (some 70) (.agg [(.int .i64), .str, .bool, (.int .i64), (.int .i64), .bool, .bool, .bool, .bool, (.int .i64), (.int .i64), .any, .any, (.int .i64), .bool, (.int .i64)]) [8] (.load (some 16) (.tmp 8)) <|
 .op (some 71) .any [68, 69] (.iaddrS 16 (.tmp 68) (.tmp 69)) <|
 .op none (.agg [(.int .i64), .str, .bool, (.int .i64), (.int .i64), .bool, .bool, .bool, .bool, (.int .i64), (.int .i64), .any, .any, (.int .i64), .bool, (.int .i64)]) [71, 70] (.store 16 (.tmp 71) (.tmp 70)) <|
 .nil) [0, 1, 3, 7, 15, 0, 0, 127, 255])
 (.seq (.ops (.op (some 72) .any [7] (.mov (.tmp 7)) <|
 .op (some 4) .any [72] (.mov (.tmp 72)) <|
 .op (some 5) .any [] (.mov (.con (V.bool true))) <|
 .nil))
 .ret)))))))))
def T88_0 (E : List (Nat × Blk)) (D : Den) (W : DrawFn) (v0b : Nat) (v0o : Nat) (v1 : Int) (σ : H) : Ans :=
 callK (D 65 [(V.ptr v0b v0o)] σ) fun u1 s2 =>
 rtAgg u1 fun l3 =>
 rtCons l3 fun x4 l5 =>
 rtInt .i64 x4 fun x6 =>
 rtCons l5 fun x7 l8 =>
 rtStr x7 fun x9 =>
 rtCons l8 fun x10 l11 =>
 rtInt .i64 x10 fun x12 =>
 rtNil l11 (
 callK (D 97 [(V.agg [(V.int .i64 x6), (V.str x9), (V.int .i64 x12)])] s2) fun u13 s14 =>
 rtBool u13 fun x15 =>
 condK (not x15) (
 callK (D 85 [(V.ptr v0b v0o), (V.int .i64 x12), (V.int .i64 (Int.ofNat 7))] s14) fun u16 s17 =>
 rtBool u16 fun x18 =>
 some ((V.tup [(V.int .i64 (Int.ofNat 0)), (V.bool x18)]), s17)) (
 joinB (fun c19 s20 =>
 condK c19 (
 callK (D 85 [(V.ptr v0b v0o), (V.int .i64 x12), (V.int .i64 (Int.ofNat 5))] s20) fun u22 s23 =>
 rtBool u22 fun x24 =>
 some ((V.tup [(V.int .i64 (Int.ofNat 0)), (V.bool x24)]), s23)) (
 ldK E s20 v0b (Nat.add (Nat.add v0o 2) 4) fun u25 =>
 slenK u25 fun n26 =>
 ldK E s20 v0b (Nat.add (Nat.add v0o 2) 4) fun u27 =>
 let s28 := newB s20 (.cells [(V.int .i64 (Int.ofNat 0)), (V.str (BS.mk 0 0)), (V.bool false), (V.int .i64 (Int.ofNat 0)), (V.int .i64 (Int.ofNat 0)), (V.bool false), (V.bool false), (V.bool false), (V.bool false), (V.int .i64 (Int.ofNat 0)), (V.int .i64 (Int.ofNat 0)), V.nils, V.nils, (V.int .i64 (Int.ofNat 0)), (V.bool false), (V.int .i64 (Int.ofNat 0))]);
 appK E 16 144 u27 (V.sl (H.next s20) 0 1 (.ex 1)) s28 fun u29 s30 =>
 rtOne u29 (
 stK 1 v0b (Nat.add (Nat.add v0o 2) 4) u29 s30 fun s31 =>
 callK (D 98 [(V.ptr v0b v0o), (V.int .i64 v1)] s31) fun u32 s33 =>
 rtTup u32 fun l34 =>
 rtCons l34 fun x35 l36 =>
 rtAgg x35 fun l37 =>
 rtCons l37 fun x38 l39 =>
 rtInt .i64 x38 fun x40 =>
 rtCons l39 fun x41 l42 =>
 rtStr x41 fun x43 =>
 rtCons l42 fun x44 l45 =>
 rtBool x44 fun x46 =>
 rtCons l45 fun x47 l48 =>
 rtInt .i64 x47 fun x49 =>
 rtCons l48 fun x50 l51 =>
 rtInt .i64 x50 fun x52 =>
 rtCons l51 fun x53 l54 =>
 rtBool x53 fun x55 =>
 rtCons l54 fun x56 l57 =>
 rtBool x56 fun x58 =>
 rtCons l57 fun x59 l60 =>
 rtBool x59 fun x61 =>
 rtCons l60 fun x62 l63 =>
 rtBool x62 fun x64 =>
 rtCons l63 fun x65 l66 =>
 rtInt .i64 x65 fun x67 =>
 rtCons l66 fun x68 l69 =>
 rtInt .i64 x68 fun x70 =>
 rtCons l69 fun x71 l72 =>
 rtCons l72 fun x73 l74 =>
 rtCons l74 fun x75 l76 =>
 rtInt .i64 x75 fun x77 =>
 rtCons l76 fun x78 l79 =>
 rtBool x78 fun x80 =>
 rtCons l79 fun x81 l82 =>
 rtInt .i64 x81 fun x83 =>
 rtNil l82 (
 rtCons l36 fun x84 l85 =>
 rtBool x84 fun x86 =>
 rtNil l85 (
 chk (allOne [(V.int .i64 x40), (V.str x43), (V.bool x46), (V.int .i64 x49), (V.int .i64 x52), (V.bool x55), (V.bool x58), (V.bool x61), (V.bool x64), (V.int .i64 x67), (V.int .i64 x70), x71, x73, (V.int .i64 x77), (V.bool x80), (V.int .i64 x83)]) (
 condK (not x86) (
 some ((V.tup [(V.int .i64 (Int.ofNat 0)), (V.bool false)]), s33)) (
 ldK E s33 v0b (Nat.add (Nat.add v0o 2) 4) fun u87 =>
 iaddrSK 16 u87 (Int.ofNat n26) fun b88 o89 =>
 stK 16 b88 o89 (V.agg [(V.int .i64 x40), (V.str x43), (V.bool x46), (V.int .i64 x49), (V.int .i64 x52), (V.bool x55), (V.bool x58), (V.bool x61), (V.bool x64), (V.int .i64 x67), (V.int .i64 x70), x71, x73, (V.int .i64 x77), (V.bool x80), (V.int .i64 x83)]) s33 fun s90 =>
 some ((V.tup [(V.int .i64 (Int.ofNat n26)), (V.bool true)]), s90)))))))) fun k21 =>
 condK (ltF (Int.ofNat 16) v1) (
 k21 true s14) (
 ldK E s14 v0b (Nat.add (Nat.add v0o 2) 4) fun u91 =>
 slenK u91 fun n92 =>
 k21 (leF (Int.ofNat 300) (Int.ofNat n92)) s14)))
theorem P88_0 (E : List (Nat × Blk)) (D : Den) (W : DrawFn) (N : Nat) (v0b : Nat) (v0o : Nat) (v1 : Int) (σ : H) :
  denC E D W N (C88_0 ) ⟨[(0, (V.ptr v0b v0o)), (1, (V.int .i64 v1))], [], [], σ⟩ (Fin88 E) (fun _ _ => none) (Fin88 E) =
  T88_0 E D W  v0b v0o v1 σ := by kernel_rfl
def J88_0 (E : List (Nat × Blk)) (D : Den) (W : DrawFn) (N : Nat) : Nat → Nat → Int → H → Ans := T88_0 E D W 
theorem JE88_0 (E : List (Nat × Blk)) (D : Den) (W : DrawFn) (N : Nat) (v0b : Nat) (v0o : Nat) (v1 : Int) (σ : H) :
  denC E D W N C88_0 ⟨[(0, (V.ptr v0b v0o)), (1, (V.int .i64 v1))], [], [], σ⟩ (Fin88 E) (fun _ _ => none) (Fin88 E) = J88_0 E D W N v0b v0o v1 σ := by
  refine (P88_0 E D W N   v0b v0o v1 σ).trans ?_
  kernel_rfl
def F88 (E : List (Nat × Blk)) (D : Den) (W : DrawFn) (N : Nat) (args : List V) (σ : H) : Ans :=
 rtCons args fun x1 l2 =>
 rtPtr x1 fun b3 o4 =>
 rtCons l2 fun x5 l6 =>
 rtInt .i64 x5 fun x7 =>
 rtNil l6 (
 J88_0 E D W N b3 o4 x7 σ)
def A88 : XFn := ⟨73, [.ptr, (.int .i64)], [(.tmp 4), (.tmp 5)], C88_0⟩
theorem FE88 (E : List (Nat × Blk)) (D : Den) (W : DrawFn) (N : Nat) (args : List V) (σ : H) : runX E D W N A88 args σ = F88 E D W N args σ := by
  unfold F88
  simp only [← JE88_0]
  kernel_rfl
theorem AO88 : A88.body.ok = true := by kernel_rfl

/-! ### F93: strings.HasPrefix -/
def Fin93 (E : List (Nat × Blk)) : St → Ans := fun s => resK E s [(.tmp 4)] fun l => some (oneV l, s.σ)
def C93_0 : XC := (.seq (.ops (.op (some 4) .any [] (.mov (.con (V.bool false))) <|
 .nil))
 (.seq (.ops (.op (some 5) .any [0] (.mov (.tmp 0)) <|
 .op (some 6) .any [1] (.mov (.tmp 1)) <|
 .op (some 7) .bool [5, 6] (.call 106 [(.tmp 5), (.tmp 6)]) <|
 .op (some 4) .any [7] (.mov (.tmp 7)) <|
 .nil))
 .ret))
def T93_0 (E : List (Nat × Blk)) (D : Den) (W : DrawFn) (v0 : BS) (v1 : BS) (σ : H) : Ans :=
 callK (D 106 [(V.str v0), (V.str v1)] σ) fun u1 s2 =>
 rtBool u1 fun x3 =>
 some ((V.bool x3), s2)
theorem P93_0 (E : List (Nat × Blk)) (D : Den) (W : DrawFn) (N : Nat) (v0 : BS) (v1 : BS) (σ : H) :
  denC E D W N (C93_0 ) ⟨[(0, (V.str v0)), (1, (V.str v1))], [], [], σ⟩ (Fin93 E) (fun _ _ => none) (Fin93 E) =
  T93_0 E D W  v0 v1 σ := by kernel_rfl
def J93_0 (E : List (Nat × Blk)) (D : Den) (W : DrawFn) (N : Nat) : BS → BS → H → Ans := T93_0 E D W 
theorem JE93_0 (E : List (Nat × Blk)) (D : Den) (W : DrawFn) (N : Nat) (v0 : BS) (v1 : BS) (σ : H) :
  denC E D W N C93_0 ⟨[(0, (V.str v0)), (1, (V.str v1))], [], [], σ⟩ (Fin93 E) (fun _ _ => none) (Fin93 E) = J93_0 E D W N v0 v1 σ := by
  refine (P93_0 E D W N   v0 v1 σ).trans ?_
  kernel_rfl
def F93 (E : List (Nat × Blk)) (D : Den) (W : DrawFn) (N : Nat) (args : List V) (σ : H) : Ans :=
 rtCons args fun x1 l2 =>
 rtStr x1 fun x3 =>
 rtCons l2 fun x4 l5 =>
 rtStr x4 fun x6 =>
 rtNil l5 (
 J93_0 E D W N x3 x6 σ)
def A93 : XFn := ⟨8, [.str, .str], [(.tmp 4)], C93_0⟩
theorem FE93 (E : List (Nat × Blk)) (D : Den) (W : DrawFn) (N : Nat) (args : List V) (σ : H) : runX E D W N A93 args σ = F93 E D W N args σ := by
  unfold F93
  simp only [← JE93_0]
  kernel_rfl
theorem AO93 : A93.body.ok = true := by kernel_rfl

/-! ### F94: ogham_lex.Word -/
def Fin94 (E : List (Nat × Blk)) : St → Ans := fun s => resK E s [(.tmp 2)] fun l => some (oneV l, s.σ)
def C94_0 (cc1 : XC) (cc2 : XC) : XC := (.seq (.ops (.op (some 2) .any [] (.mov (.con (V.bool false))) <|
 .nil))
 (.seq (.seq (.ops (.op (some 3) .any [0] (.mov (.tmp 0)) <|
 .nil))
 (.block 0 (.seq (.seq (.ops (.op (some 5) .any [3] (.bin .eql .none (.tmp 3) (.con (V.str ⟨11, 100710650190388740279911748⟩))) <|
 .op (some 4) .any [5] (.mov (.tmp 5)) <|
 .nil))
 (.cond (.tmp 4) .skip
 (.seq (.ops (.op (some 6) .any [3] (.bin .eql .none (.tmp 3) (.con (V.str ⟨8, 6073459554577832005⟩))) <|
 .op (some 4) .any [6] (.mov (.tmp 6)) <|
 .nil))
 (.cond (.tmp 4) .skip
 (.seq (.ops (.op (some 7) .any [3] (.bin .eql .none (.tmp 3) (.con (V.str ⟨8, 6073459554577829193⟩))) <|
 .op (some 4) .any [7] (.mov (.tmp 7)) <|
 .nil))
 (.cond (.tmp 4) .skip
 (.seq (.ops (.op (some 8) .any [3] (.bin .eql .none (.tmp 3) (.con (V.str ⟨9, 1241215773001651606849⟩))) <|
 .op (some 4) .any [8] (.mov (.tmp 8)) <|
 .nil))
 (.cond (.tmp 4) .skip
 (.seq (.ops (.op (some 9) .any [3] (.bin .eql .none (.tmp 3) (.con (V.str ⟨4, 1397178708⟩))) <|
 .op (some 4) .any [9] (.mov (.tmp 9)) <|
 .nil))
 (.cond (.tmp 4) .skip
 (.seq (.ops (.op (some 10) .any [3] (.bin .eql .none (.tmp 3) (.con (V.str ⟨5, 336236856642⟩))) <|
 .op (some 4) .any [10] (.mov (.tmp 10)) <|
 .nil))
 (.cond (.tmp 4) .skip
 (.seq (.ops (.op (some 11) .any [3] (.bin .eql .none (.tmp 3) (.con (V.str ⟨3, 4476485⟩))) <|
 .op (some 4) .any [11] (.mov (.tmp 11)) <|
 .nil))
 (.cond (.tmp 4) .skip
 (.seq (.ops (.op (some 12) .any [3] (.bin .eql .none (.tmp 3) (.con (V.str ⟨7, 22026814072246082⟩))) <|
 .op (some 4) .any [12] (.mov (.tmp 12)) <|
 .nil))
 (.cond (.tmp 4) .skip
 (.seq (.ops (.op (some 13) .any [3] (.bin .eql .none (.tmp 3) (.con (V.str ⟨7, 23157120498421321⟩))) <|
 .op (some 4) .any [13] (.mov (.tmp 13)) <|
 .nil))
 (.cond (.tmp 4) .skip
 (.seq (.ops (.op (some 14) .any [3] (.bin .eql .none (.tmp 3) (.con (V.str ⟨10, 322399817400452109389381⟩))) <|
 .op (some 4) .any [14] (.mov (.tmp 14)) <|
 .nil))
 (.cond (.tmp 4) .skip
 (.seq (.ops (.op (some 15) .any [3] (.bin .eql .none (.tmp 3) (.con (V.str ⟨4, 1280070990⟩))) <|
 .op (some 4) .any [15] (.mov (.tmp 15)) <|
 .nil))
 (.cond (.tmp 4) .skip
 (.seq (.ops (.op (some 16) .any [3] (.bin .eql .none (.tmp 3) (.con (V.str ⟨5, 361940403023⟩))) <|
 .op (some 4) .any [16] (.mov (.tmp 16)) <|
 .nil))
 (.cond (.tmp 4) .skip
 (.seq (.ops (.op (some 17) .any [3] (.bin .eql .none (.tmp 3) (.con (V.str ⟨6, 78401563153491⟩))) <|
 .op (some 4) .any [17] (.mov (.tmp 17)) <|
 .nil))
 (.cond (.tmp 4) .skip
 (.seq (.ops (.op (some 18) .any [3] (.bin .eql .none (.tmp 3) (.con (V.str ⟨10, 488440487847103610377301⟩))) <|
 .op (some 4) .any [18] (.mov (.tmp 18)) <|
 .nil))
 (.cond (.tmp 4) .skip
 (.seq (.ops (.op (some 19) .any [3] (.bin .eql .none (.tmp 3) (.con (V.str ⟨8, 4990918871747741011⟩))) <|
 .op (some 4) .any [19] (.mov (.tmp 19)) <|
 .nil))
 (.cond (.tmp 4) .skip
 (.seq (.ops (.op (some 20) .any [3] (.bin .eql .none (.tmp 3) (.con (V.str ⟨3, 5522771⟩))) <|
 .op (some 4) .any [20] (.mov (.tmp 20)) <|
 .nil))
 (.cond (.tmp 4) .skip
 (.seq (.ops (.op (some 21) .any [3] (.bin .eql .none (.tmp 3) (.con (V.str ⟨6, 76155295057987⟩))) <|
 .op (some 4) .any [21] (.mov (.tmp 21)) <|
 .nil))
 (.cond (.tmp 4) .skip
 (.seq (.ops (.op (some 22) .any [3] (.bin .eql .none (.tmp 3) (.con (V.str ⟨2, 17999⟩))) <|
 .op (some 4) .any [22] (.mov (.tmp 22)) <|
 .nil))
 (.cond (.tmp 4) .skip
 (.seq (.ops (.op (some 23) .any [3] (.bin .eql .none (.tmp 3) (.con (V.str ⟨8, 5494759122808361039⟩))) <|
 .op (some 4) .any [23] (.mov (.tmp 23)) <|
 .nil))
 (.cond (.tmp 4) .skip
 (.seq (.ops (.op (some 24) .any [3] (.bin .eql .none (.tmp 3) (.con (V.str ⟨7, 23727827094750532⟩))) <|
 .op (some 4) .any [24] (.mov (.tmp 24)) <|
 .nil))
 (.cond (.tmp 4) .skip
 (.seq (.ops (.op (some 25) .any [3] (.bin .eql .none (.tmp 3) (.con (V.str ⟨4, 1163544915⟩))) <|
 .op (some 4) .any [25] (.mov (.tmp 25)) <|
 .nil))
 (.cond (.tmp 4) .skip
 (.seq (.ops (.op (some 26) .any [3] (.bin .eql .none (.tmp 3) (.con (V.str ⟨3, 5130573⟩))) <|
 .op (some 4) .any [26] (.mov (.tmp 26)) <|
 .nil))
 (.cond (.tmp 4) .skip
 (.seq (.ops (.op (some 27) .any [3] (.bin .eql .none (.tmp 3) (.con (V.str ⟨3, 5783885⟩))) <|
 .op (some 4) .any [27] (.mov (.tmp 27)) <|
 .nil))
 (.cond (.tmp 4) .skip
 (.seq (.ops (.op (some 28) .any [3] (.bin .eql .none (.tmp 3) (.con (V.str ⟨4, 1163219540⟩))) <|
 .op (some 4) .any [28] (.mov (.tmp 28)) <|
 .nil))
 (.cond (.tmp 4) .skip
 (.ops (.op (some 29) .any [3] (.bin .eql .none (.tmp 3) (.con (V.str ⟨5, 297750249798⟩))) <|
 .op (some 4) .any [29] (.mov (.tmp 29)) <|
 .nil))))))))))))))))))))))))))))))))))))))))))))))))))
 (.keep [(4, .bool)] [] [] cc2))))
 (.keep [] [] [] cc1)))
def T94_0 (E : List (Nat × Blk)) (D : Den) (W : DrawFn) (K2 : Bool → H → Ans) (v0 : BS) (σ : H) : Ans :=
 condK (BS.beq v0 (BS.mk 11 100710650190388740279911748)) (
 K2 (BS.beq v0 (BS.mk 11 100710650190388740279911748)) σ) (
 condK (BS.beq v0 (BS.mk 8 6073459554577832005)) (
 K2 (BS.beq v0 (BS.mk 8 6073459554577832005)) σ) (
 condK (BS.beq v0 (BS.mk 8 6073459554577829193)) (
 K2 (BS.beq v0 (BS.mk 8 6073459554577829193)) σ) (
 condK (BS.beq v0 (BS.mk 9 1241215773001651606849)) (
 K2 (BS.beq v0 (BS.mk 9 1241215773001651606849)) σ) (
 condK (BS.beq v0 (BS.mk 4 1397178708)) (
 K2 (BS.beq v0 (BS.mk 4 1397178708)) σ) (
 condK (BS.beq v0 (BS.mk 5 336236856642)) (
 K2 (BS.beq v0 (BS.mk 5 336236856642)) σ) (
 condK (BS.beq v0 (BS.mk 3 4476485)) (
 K2 (BS.beq v0 (BS.mk 3 4476485)) σ) (
 condK (BS.beq v0 (BS.mk 7 22026814072246082)) (
 K2 (BS.beq v0 (BS.mk 7 22026814072246082)) σ) (
 condK (BS.beq v0 (BS.mk 7 23157120498421321)) (
 K2 (BS.beq v0 (BS.mk 7 23157120498421321)) σ) (
 condK (BS.beq v0 (BS.mk 10 322399817400452109389381)) (
 K2 (BS.beq v0 (BS.mk 10 322399817400452109389381)) σ) (
 condK (BS.beq v0 (BS.mk 4 1280070990)) (
 K2 (BS.beq v0 (BS.mk 4 1280070990)) σ) (
 condK (BS.beq v0 (BS.mk 5 361940403023)) (
 K2 (BS.beq v0 (BS.mk 5 361940403023)) σ) (
 condK (BS.beq v0 (BS.mk 6 78401563153491)) (
 K2 (BS.beq v0 (BS.mk 6 78401563153491)) σ) (
 condK (BS.beq v0 (BS.mk 10 488440487847103610377301)) (
 K2 (BS.beq v0 (BS.mk 10 488440487847103610377301)) σ) (
 condK (BS.beq v0 (BS.mk 8 4990918871747741011)) (
 K2 (BS.beq v0 (BS.mk 8 4990918871747741011)) σ) (
 condK (BS.beq v0 (BS.mk 3 5522771)) (
 K2 (BS.beq v0 (BS.mk 3 5522771)) σ) (
 condK (BS.beq v0 (BS.mk 6 76155295057987)) (
 K2 (BS.beq v0 (BS.mk 6 76155295057987)) σ) (
 condK (BS.beq v0 (BS.mk 2 17999)) (
 K2 (BS.beq v0 (BS.mk 2 17999)) σ) (
 condK (BS.beq v0 (BS.mk 8 5494759122808361039)) (
 K2 (BS.beq v0 (BS.mk 8 5494759122808361039)) σ) (
 condK (BS.beq v0 (BS.mk 7 23727827094750532)) (
 K2 (BS.beq v0 (BS.mk 7 23727827094750532)) σ) (
 condK (BS.beq v0 (BS.mk 4 1163544915)) (
 K2 (BS.beq v0 (BS.mk 4 1163544915)) σ) (
 condK (BS.beq v0 (BS.mk 3 5130573)) (
 K2 (BS.beq v0 (BS.mk 3 5130573)) σ) (
 condK (BS.beq v0 (BS.mk 3 5783885)) (
 K2 (BS.beq v0 (BS.mk 3 5783885)) σ) (
 condK (BS.beq v0 (BS.mk 4 1163219540)) (
 K2 (BS.beq v0 (BS.mk 4 1163219540)) σ) (
 K2 (BS.beq v0 (BS.mk 5 297750249798)) σ))))))))))))))))))))))))
def C94_1 : XC := (.seq (.ops (.op (some 2) .any [] (.mov (.con (V.bool false))) <|
 .nil))
 .ret)
def T94_1 (E : List (Nat × Blk)) (D : Den) (W : DrawFn) (σ : H) : Ans :=
 some ((V.bool false), σ)
def C94_2 : XC := (.cond (.tmp 4) (.seq (.ops (.op (some 2) .any [] (.mov (.con (V.bool true))) <|
 .nil))
 .ret)
 .skip)
def T94_2 (E : List (Nat × Blk)) (D : Den) (W : DrawFn) (K1 : H → Ans) (v4 : Bool) (σ : H) : Ans :=
 condK v4 (
 some ((V.bool true), σ)) (
 K1 σ)
theorem P94_0 (E : List (Nat × Blk)) (D : Den) (W : DrawFn) (N : Nat) (cc1 : XC) (cc2 : XC) (v0 : BS) (σ : H) :
  denC E D W N (C94_0 cc1 cc2) ⟨[(0, (V.str v0))], [], [], σ⟩ (Fin94 E) (fun _ _ => none) (Fin94 E) =
  T94_0 E D W (fun v4 σ => denC E D W N cc2 ⟨[(4, (V.bool v4))], [], [], σ⟩ (fun s' => denC E D W N (.keep [] [] [] cc1) s' (Fin94 E) (fun _ _ => none) (Fin94 E)) (blkK 0 (fun s' => denC E D W N (.keep [] [] [] cc1) s' (Fin94 E) (fun _ _ => none) (Fin94 E)) (fun _ _ => none)) (Fin94 E)) v0 σ := by kernel_rfl
theorem P94_1 (E : List (Nat × Blk)) (D : Den) (W : DrawFn) (N : Nat) (σ : H) :
  denC E D W N (C94_1 ) ⟨[], [], [], σ⟩ (Fin94 E) (fun _ _ => none) (Fin94 E) =
  T94_1 E D W   σ := by kernel_rfl
theorem P94_2 (E : List (Nat × Blk)) (D : Den) (W : DrawFn) (N : Nat) (cc1 : XC) (v4 : Bool) (σ : H) :
  denC E D W N (C94_2 ) ⟨[(4, (V.bool v4))], [], [], σ⟩ (fun s' => denC E D W N (.keep [] [] [] cc1) s' (Fin94 E) (fun _ _ => none) (Fin94 E)) (blkK 0 (fun s' => denC E D W N (.keep [] [] [] cc1) s' (Fin94 E) (fun _ _ => none) (Fin94 E)) (fun _ _ => none)) (Fin94 E) =
  T94_2 E D W (fun  σ => denC E D W N cc1 ⟨[], [], [], σ⟩ (Fin94 E) (fun _ _ => none) (Fin94 E)) v4 σ := by kernel_rfl
def J94_1 (E : List (Nat × Blk)) (D : Den) (W : DrawFn) (N : Nat) : H → Ans := T94_1 E D W 
theorem JE94_1 (E : List (Nat × Blk)) (D : Den) (W : DrawFn) (N : Nat) (σ : H) :
  denC E D W N C94_1 ⟨[], [], [], σ⟩ (Fin94 E) (fun _ _ => none) (Fin94 E) = J94_1 E D W N  σ := by
  refine (P94_1 E D W N    σ).trans ?_
  kernel_rfl
def J94_2 (E : List (Nat × Blk)) (D : Den) (W : DrawFn) (N : Nat) : Bool → H → Ans := T94_2 E D W (J94_1 E D W N )
theorem JE94_2 (E : List (Nat × Blk)) (D : Den) (W : DrawFn) (N : Nat) (v4 : Bool) (σ : H) :
  denC E D W N C94_2 ⟨[(4, (V.bool v4))], [], [], σ⟩ (fun s' => denC E D W N (.keep [] [] [] C94_1) s' (Fin94 E) (fun _ _ => none) (Fin94 E)) (blkK 0 (fun s' => denC E D W N (.keep [] [] [] C94_1) s' (Fin94 E) (fun _ _ => none) (Fin94 E)) (fun _ _ => none)) (Fin94 E) = J94_2 E D W N v4 σ := by
  refine (P94_2 E D W N C94_1  v4 σ).trans ?_
  simp only [JE94_1]
  kernel_rfl
def J94_0 (E : List (Nat × Blk)) (D : Den) (W : DrawFn) (N : Nat) : BS → H → Ans := T94_0 E D W (J94_2 E D W N )
theorem JE94_0 (E : List (Nat × Blk)) (D : Den) (W : DrawFn) (N : Nat) (v0 : BS) (σ : H) :
  denC E D W N (C94_0 C94_1 C94_2) ⟨[(0, (V.str v0))], [], [], σ⟩ (Fin94 E) (fun _ _ => none) (Fin94 E) = J94_0 E D W N v0 σ := by
  refine (P94_0 E D W N C94_1 C94_2  v0 σ).trans ?_
  simp only [JE94_2]
  kernel_rfl
def F94 (E : List (Nat × Blk)) (D : Den) (W : DrawFn) (N : Nat) (args : List V) (σ : H) : Ans :=
 rtCons args fun x1 l2 =>
 rtStr x1 fun x3 =>
 rtNil l2 (
 J94_0 E D W N x3 σ)
def A94 : XFn := ⟨30, [.str], [(.tmp 2)], (C94_0 C94_1 C94_2)⟩
theorem FE94 (E : List (Nat × Blk)) (D : Den) (W : DrawFn) (N : Nat) (args : List V) (σ : H) : runX E D W N A94 args σ = F94 E D W N args σ := by
  unfold F94
  simp only [← JE94_0]
  kernel_rfl
theorem AO94 : A94.body.ok = true := by kernel_rfl

/-! ### F97: ogham_syntax.begins -/
def Fin97 (E : List (Nat × Blk)) : St → Ans := fun s => resK E s [(.tmp 2)] fun l => some (oneV l, s.σ)
def C97_0 (cc1 : XC) (cc2 : XC) : XC := (.seq (.ops (.op (some 1) .any [0] (.box 50 (.tmp 0)) <|
 .op (some 2) .any [] (.mov (.con (V.bool false))) <|
 .nil))
 (.seq (.seq (.ops (.op (some 3) .any [1] (.faddr 0 (.tmp 1)) <|
 .op (some 4) (.int .i64) [3] (.load none (.tmp 3)) <|
 .nil))
 (.block 0 (.seq (.ops (.op (some 6) .any [4] (.bin .eql .none (.tmp 4) (.con (V.int .i64 (Int.ofNat 1)))) <|
 .op (some 5) .any [6] (.mov (.tmp 6)) <|
 .nil))
 (.cond (.tmp 5) (.seq (.ops (.op (some 2) .any [] (.mov (.con (V.bool true))) <|
 .nil))
 .ret)
 (.seq (.ops (.op (some 8) .any [4] (.bin .eql .none (.tmp 4) (.con (V.int .i64 (Int.ofNat 6)))) <|
 .op (some 7) .any [8] (.mov (.tmp 8)) <|
 .nil))
 (.cond (.tmp 7) (.seq (.ops (.op (some 9) .any [1] (.faddr 1 (.tmp 1)) <|
 .op (some 10) .str [9] (.load none (.tmp 9)) <|
 .op (some 11) .any [10] (.bin .eql .none (.tmp 10) (.con (V.str ⟨1, 91⟩))) <|
 .op (some 2) .any [11] (.mov (.tmp 11)) <|
 .nil))
 .ret)
 (.seq (.ops (.op (some 13) .any [4] (.bin .eql .none (.tmp 4) (.con (V.int .i64 (Int.ofNat 5)))) <|
 .op (some 12) .any [13] (.mov (.tmp 13)) <|
 .nil))
 (.cond (.tmp 12) (.seq (.ops (.op (some 14) .any [1] (.faddr 1 (.tmp 1)) <|
 .op (some 15) .str [14] (.load none (.tmp 14)) <|
 .nil))
 (.block 1 (.seq (.seq (.ops (.op (some 17) .any [15] (.bin .eql .none (.tmp 15) (.con (V.str ⟨7, 22026814072246082⟩))) <|
 .op (some 16) .any [17] (.mov (.tmp 17)) <|
 .nil))
 (.cond (.tmp 16) .skip
 (.seq (.ops (.op (some 18) .any [15] (.bin .eql .none (.tmp 15) (.con (V.str ⟨4, 1280070990⟩))) <|
 .op (some 16) .any [18] (.mov (.tmp 18)) <|
 .nil))
 (.cond (.tmp 16) .skip
 (.seq (.ops (.op (some 19) .any [15] (.bin .eql .none (.tmp 15) (.con (V.str ⟨10, 488440487847103610377301⟩))) <|
 .op (some 16) .any [19] (.mov (.tmp 19)) <|
 .nil))
 (.cond (.tmp 16) .skip
 (.seq (.ops (.op (some 20) .any [15] (.bin .eql .none (.tmp 15) (.con (V.str ⟨7, 23157120498421321⟩))) <|
 .op (some 16) .any [20] (.mov (.tmp 20)) <|
 .nil))
 (.cond (.tmp 16) .skip
 (.seq (.ops (.op (some 21) .any [15] (.bin .eql .none (.tmp 15) (.con (V.str ⟨5, 361940403023⟩))) <|
 .op (some 16) .any [21] (.mov (.tmp 21)) <|
 .nil))
 (.cond (.tmp 16) .skip
 (.seq (.ops (.op (some 22) .any [15] (.bin .eql .none (.tmp 15) (.con (V.str ⟨10, 322399817400452109389381⟩))) <|
 .op (some 16) .any [22] (.mov (.tmp 22)) <|
 .nil))
 (.cond (.tmp 16) .skip
 (.seq (.ops (.op (some 23) .any [15] (.bin .eql .none (.tmp 15) (.con (V.str ⟨8, 4990918871747741011⟩))) <|
 .op (some 16) .any [23] (.mov (.tmp 23)) <|
 .nil))
 (.cond (.tmp 16) .skip
 (.seq (.ops (.op (some 24) .any [15] (.bin .eql .none (.tmp 15) (.con (V.str ⟨3, 5522771⟩))) <|
 .op (some 16) .any [24] (.mov (.tmp 24)) <|
 .nil))
 (.cond (.tmp 16) .skip
 (.ops (.op (some 25) .any [15] (.bin .eql .none (.tmp 15) (.con (V.str ⟨6, 76155295057987⟩))) <|
 .op (some 16) .any [25] (.mov (.tmp 25)) <|
 .nil))))))))))))))))))
 (.keep [(16, .bool)] [] [] cc2))))
 .skip))))))))
 (.keep [] [] [] cc1)))
def T97_0 (E : List (Nat × Blk)) (D : Den) (W : DrawFn) (K1 : H → Ans) (K2 : Bool → H → Ans) (v0_0 : Int) (v0_1 : BS) (v0_2 : Int) (σ : H) : Ans :=
 chk (allOne (V.cells (V.agg [(V.int .i64 v0_0), (V.str v0_1), (V.int .i64 v0_2)]))) (
 let s1 := newB σ (.cells (V.cells (V.agg [(V.int .i64 v0_0), (V.str v0_1), (V.int .i64 v0_2)])));
 ldK E s1 (H.next σ) 0 fun u2 =>
 rtInt .i64 u2 fun x3 =>
 condK (eqF x3 (Int.ofNat 1)) (
 some ((V.bool true), s1)) (
 condK (eqF x3 (Int.ofNat 6)) (
 ldK E s1 (H.next σ) 1 fun u4 =>
 rtStr u4 fun x5 =>
 some ((V.bool (BS.beq x5 (BS.mk 1 91))), s1)) (
 condK (eqF x3 (Int.ofNat 5)) (
 ldK E s1 (H.next σ) 1 fun u6 =>
 rtStr u6 fun x7 =>
 condK (BS.beq x7 (BS.mk 7 22026814072246082)) (
 K2 (BS.beq x7 (BS.mk 7 22026814072246082)) s1) (
 condK (BS.beq x7 (BS.mk 4 1280070990)) (
 K2 (BS.beq x7 (BS.mk 4 1280070990)) s1) (
 condK (BS.beq x7 (BS.mk 10 488440487847103610377301)) (
 K2 (BS.beq x7 (BS.mk 10 488440487847103610377301)) s1) (
 condK (BS.beq x7 (BS.mk 7 23157120498421321)) (
 K2 (BS.beq x7 (BS.mk 7 23157120498421321)) s1) (
 condK (BS.beq x7 (BS.mk 5 361940403023)) (
 K2 (BS.beq x7 (BS.mk 5 361940403023)) s1) (
 condK (BS.beq x7 (BS.mk 10 322399817400452109389381)) (
 K2 (BS.beq x7 (BS.mk 10 322399817400452109389381)) s1) (
 condK (BS.beq x7 (BS.mk 8 4990918871747741011)) (
 K2 (BS.beq x7 (BS.mk 8 4990918871747741011)) s1) (
 condK (BS.beq x7 (BS.mk 3 5522771)) (
 K2 (BS.beq x7 (BS.mk 3 5522771)) s1) (
 K2 (BS.beq x7 (BS.mk 6 76155295057987)) s1))))))))) (
 K1 s1))))
def C97_1 : XC := (.seq (.ops (.op (some 2) .any [] (.mov (.con (V.bool false))) <|
 .nil))
 .ret)
def T97_1 (E : List (Nat × Blk)) (D : Den) (W : DrawFn) (σ : H) : Ans :=
 some ((V.bool false), σ)
def C97_2 : XC := (.cond (.tmp 16) (.seq (.ops (.op (some 2) .any [] (.mov (.con (V.bool true))) <|
 .nil))
 .ret)
 .skip)
def T97_2 (E : List (Nat × Blk)) (D : Den) (W : DrawFn) (K1 : H → Ans) (v16 : Bool) (σ : H) : Ans :=
 condK v16 (
 some ((V.bool true), σ)) (
 K1 σ)
theorem P97_0 (E : List (Nat × Blk)) (D : Den) (W : DrawFn) (N : Nat) (cc1 : XC) (cc2 : XC) (v0_0 : Int) (v0_1 : BS) (v0_2 : Int) (σ : H) :
  denC E D W N (C97_0 cc1 cc2) ⟨[(0, (V.agg [(V.int .i64 v0_0), (V.str v0_1), (V.int .i64 v0_2)]))], [], [], σ⟩ (Fin97 E) (fun _ _ => none) (Fin97 E) =
  T97_0 E D W (fun  σ => denC E D W N cc1 ⟨[], [], [], σ⟩ (Fin97 E) (fun _ _ => none) (Fin97 E)) (fun v16 σ => denC E D W N cc2 ⟨[(16, (V.bool v16))], [], [], σ⟩ (fun s' => denC E D W N (.keep [] [] [] cc1) s' (Fin97 E) (fun _ _ => none) (Fin97 E)) (blkK 1 (fun s' => denC E D W N (.keep [] [] [] cc1) s' (Fin97 E) (fun _ _ => none) (Fin97 E)) (blkK 0 (fun s' => denC E D W N (.keep [] [] [] cc1) s' (Fin97 E) (fun _ _ => none) (Fin97 E)) (fun _ _ => none))) (Fin97 E)) v0_0 v0_1 v0_2 σ := by kernel_rfl
theorem P97_1 (E : List (Nat × Blk)) (D : Den) (W : DrawFn) (N : Nat) (σ : H) :
  denC E D W N (C97_1 ) ⟨[], [], [], σ⟩ (Fin97 E) (fun _ _ => none) (Fin97 E) =
  T97_1 E D W   σ := by kernel_rfl
theorem P97_2 (E : List (Nat × Blk)) (D : Den) (W : DrawFn) (N : Nat) (cc1 : XC) (v16 : Bool) (σ : H) :
  denC E D W N (C97_2 ) ⟨[(16, (V.bool v16))], [], [], σ⟩ (fun s' => denC E D W N (.keep [] [] [] cc1) s' (Fin97 E) (fun _ _ => none) (Fin97 E)) (blkK 1 (fun s' => denC E D W N (.keep [] [] [] cc1) s' (Fin97 E) (fun _ _ => none) (Fin97 E)) (blkK 0 (fun s' => denC E D W N (.keep [] [] [] cc1) s' (Fin97 E) (fun _ _ => none) (Fin97 E)) (fun _ _ => none))) (Fin97 E) =
  T97_2 E D W (fun  σ => denC E D W N cc1 ⟨[], [], [], σ⟩ (Fin97 E) (fun _ _ => none) (Fin97 E)) v16 σ := by kernel_rfl
def J97_1 (E : List (Nat × Blk)) (D : Den) (W : DrawFn) (N : Nat) : H → Ans := T97_1 E D W 
theorem JE97_1 (E : List (Nat × Blk)) (D : Den) (W : DrawFn) (N : Nat) (σ : H) :
  denC E D W N C97_1 ⟨[], [], [], σ⟩ (Fin97 E) (fun _ _ => none) (Fin97 E) = J97_1 E D W N  σ := by
  refine (P97_1 E D W N    σ).trans ?_
  kernel_rfl
def J97_2 (E : List (Nat × Blk)) (D : Den) (W : DrawFn) (N : Nat) : Bool → H → Ans := T97_2 E D W (J97_1 E D W N )
theorem JE97_2 (E : List (Nat × Blk)) (D : Den) (W : DrawFn) (N : Nat) (v16 : Bool) (σ : H) :
  denC E D W N C97_2 ⟨[(16, (V.bool v16))], [], [], σ⟩ (fun s' => denC E D W N (.keep [] [] [] C97_1) s' (Fin97 E) (fun _ _ => none) (Fin97 E)) (blkK 1 (fun s' => denC E D W N (.keep [] [] [] C97_1) s' (Fin97 E) (fun _ _ => none) (Fin97 E)) (blkK 0 (fun s' => denC E D W N (.keep [] [] [] C97_1) s' (Fin97 E) (fun _ _ => none) (Fin97 E)) (fun _ _ => none))) (Fin97 E) = J97_2 E D W N v16 σ := by
  refine (P97_2 E D W N C97_1  v16 σ).trans ?_
  simp only [JE97_1]
  kernel_rfl
def J97_0 (E : List (Nat × Blk)) (D : Den) (W : DrawFn) (N : Nat) : Int → BS → Int → H → Ans := T97_0 E D W (J97_1 E D W N ) (J97_2 E D W N )
theorem JE97_0 (E : List (Nat × Blk)) (D : Den) (W : DrawFn) (N : Nat) (v0_0 : Int) (v0_1 : BS) (v0_2 : Int) (σ : H) :
  denC E D W N (C97_0 C97_1 C97_2) ⟨[(0, (V.agg [(V.int .i64 v0_0), (V.str v0_1), (V.int .i64 v0_2)]))], [], [], σ⟩ (Fin97 E) (fun _ _ => none) (Fin97 E) = J97_0 E D W N v0_0 v0_1 v0_2 σ := by
  refine (P97_0 E D W N C97_1 C97_2  v0_0 v0_1 v0_2 σ).trans ?_
  simp only [JE97_1, JE97_2]
  kernel_rfl
def F97 (E : List (Nat × Blk)) (D : Den) (W : DrawFn) (N : Nat) (args : List V) (σ : H) : Ans :=
 rtCons args fun x1 l2 =>
 rtAgg x1 fun l3 =>
 rtCons l3 fun x4 l5 =>
 rtInt .i64 x4 fun x6 =>
 rtCons l5 fun x7 l8 =>
 rtStr x7 fun x9 =>
 rtCons l8 fun x10 l11 =>
 rtInt .i64 x10 fun x12 =>
 rtNil l11 (
 rtNil l2 (
 J97_0 E D W N x6 x9 x12 σ))
def A97 : XFn := ⟨26, [(.agg [(.int .i64), .str, (.int .i64)])], [(.tmp 2)], (C97_0 C97_1 C97_2)⟩
theorem FE97 (E : List (Nat × Blk)) (D : Den) (W : DrawFn) (N : Nat) (args : List V) (σ : H) : runX E D W N A97 args σ = F97 E D W N args σ := by
  unfold F97
  simp only [← JE97_0]
  kernel_rfl
theorem AO97 : A97.body.ok = true := by kernel_rfl

/-! ### F98: __ogham_syntax.parser_.node -/
def G98_0 : List AOper := [⟨(some 31), .faddr 1 (.tmp 9), none⟩, ⟨(some 32), .load none (.tmp 31), none⟩, ⟨(some 33), .faddr 0 (.tmp 8), none⟩, ⟨none, .store 1 (.tmp 33) (.con (V.int .i64 (Int.ofNat 11))), none⟩, ⟨(some 34), .faddr 1 (.tmp 8), none⟩, ⟨none, .store 1 (.tmp 34) (.tmp 32), none⟩]
def H98_0 : List DP := [⟨0, [9]⟩, ⟨1, [31]⟩, ⟨0, [8]⟩, ⟨4, [33]⟩, ⟨15, [8]⟩, ⟨31, [34, 32]⟩]
def Fin98 (E : List (Nat × Blk)) : St → Ans := fun s => resK E s [(.cell 4 (some 16)), (.tmp 5)] fun l => some (oneV l, s.σ)
def C98_0 (cc1 : XC) : XC := (.seq (.ops (.op (some 4) .any [] (.alloc 72 [(V.int .i64 (Int.ofNat 0)), (V.str ⟨0, 0⟩), (V.bool false), (V.int .i64 (Int.ofNat 0)), (V.int .i64 (Int.ofNat 0)), (V.bool false), (V.bool false), (V.bool false), (V.bool false), (V.int .i64 (Int.ofNat 0)), (V.int .i64 (Int.ofNat 0)), V.nils, V.nils, (V.int .i64 (Int.ofNat 0)), (V.bool false), (V.int .i64 (Int.ofNat 0))]) <|
 .op (some 5) .any [] (.mov (.con (V.bool false))) <|
 .nil))
 (.seq (.ops (.op (some 11) .any [0] (.mov (.tmp 0)) <|
 .op (some 12) (.tup [(.agg [.bool, (.int .i64), (.int .i64)]), .bool]) [11] (.call 110 [(.tmp 11)]) <|
 .op (some 10) .any [12] (.mov (.tmp 12)) <|
 .op (some 13) .any [10] (.extract 0 (.tmp 10)) <|
 .op (some 14) .any [10] (.extract 1 (.tmp 10)) <|
 .pal 6 [] 66 [(V.bool false), (V.int .i64 (Int.ofNat 0)), (V.int .i64 (Int.ofNat 0))] <|
 .op none (.agg [.bool, (.int .i64), (.int .i64)]) [6, 13] (.store 3 (.tmp 6) (.tmp 13)) <|
 .op (some 7) .any [14] (.mov (.tmp 14)) <|
 .nil))
 (.seq (.seq (.ops (.op (some 15) .any [7] (.mov (.tmp 7)) <|
 .op (some 16) .any [15] (.un .not (.tmp 15)) <|
 .nil))
 (.cond (.tmp 16) (.seq (.ops (.op (some 17) (.agg [(.int .i64), .str, .bool, (.int .i64), (.int .i64), .bool, .bool, .bool, .bool, (.int .i64), (.int .i64), .any, .any, (.int .i64), .bool, (.int .i64)]) [] (.build [(V.int .i64 (Int.ofNat 0)), (V.str ⟨0, 0⟩), (V.bool false), (V.int .i64 (Int.ofNat 0)), (V.int .i64 (Int.ofNat 0)), (V.bool false), (V.bool false), (V.bool false), (V.bool false), (V.int .i64 (Int.ofNat 0)), (V.int .i64 (Int.ofNat 0)), V.nils, V.nils, (V.int .i64 (Int.ofNat 0)), (V.bool false), (V.int .i64 (Int.ofNat 0))] []) <|
 .op none (.agg [(.int .i64), .str, .bool, (.int .i64), (.int .i64), .bool, .bool, .bool, .bool, (.int .i64), (.int .i64), .any, .any, (.int .i64), .bool, (.int .i64)]) [4, 17] (.store 16 (.tmp 4) (.tmp 17)) <|
 .op (some 5) .any [] (.mov (.con (V.bool false))) <|
 .nil))
 .ret)
 .skip))
 (.seq (.ops (.op (some 18) (.agg [.bool, (.int .i64), (.int .i64)]) [6] (.load (some 3) (.tmp 6)) <|
 .op (some 19) (.agg [(.int .i64), .str, .bool, (.int .i64), (.int .i64), .bool, .bool, .bool, .bool, (.int .i64), (.int .i64), .any, .any, (.int .i64), .bool, (.int .i64)]) [18] (.build [(V.int .i64 (Int.ofNat 0)), (V.str ⟨0, 0⟩), (V.bool false), (V.int .i64 (Int.ofNat 0)), (V.int .i64 (Int.ofNat 0)), (V.bool false), (V.bool false), (V.bool false), (V.bool false), (V.int .i64 (Int.ofNat 0)), (V.int .i64 (Int.ofNat 0)), V.nils, V.nils, (V.int .i64 (Int.ofNat 0)), (V.bool false), (V.int .i64 (Int.ofNat 0))] [(2, 3, (.tmp 18))]) <|
 .op (some 8) .any [] (.alloc 72 [(V.int .i64 (Int.ofNat 0)), (V.str ⟨0, 0⟩), (V.bool false), (V.int .i64 (Int.ofNat 0)), (V.int .i64 (Int.ofNat 0)), (V.bool false), (V.bool false), (V.bool false), (V.bool false), (V.int .i64 (Int.ofNat 0)), (V.int .i64 (Int.ofNat 0)), V.nils, V.nils, (V.int .i64 (Int.ofNat 0)), (V.bool false), (V.int .i64 (Int.ofNat 0))]) <|
 .op none (.agg [(.int .i64), .str, .bool, (.int .i64), (.int .i64), .bool, .bool, .bool, .bool, (.int .i64), (.int .i64), .any, .any, (.int .i64), .bool, (.int .i64)]) [8, 19] (.store 16 (.tmp 8) (.tmp 19)) <|
 .nil))
 (.seq (.seq (.ops (.op (some 20) .any [0] (.mov (.tmp 0)) <|
 .op (some 21) .any [20] (.nilck (.tmp 20)) <|
 .op (some 22) .any [21] (.faddr 0 (.tmp 21)) <|
 .op (some 23) (.agg [(.int .i64), .str, (.int .i64)]) [22] (.call 65 [(.tmp 22)]) <|
 .op (some 9) .any [] (.alloc 50 [(V.int .i64 (Int.ofNat 0)), (V.str ⟨0, 0⟩), (V.int .i64 (Int.ofNat 0))]) <|
 .op none (.agg [(.int .i64), .str, (.int .i64)]) [9, 23] (.store 3 (.tmp 9) (.tmp 23)) <|
 .nil))
 (.seq (.ops (.op (some 24) .any [9] (.faddr 0 (.tmp 9)) <|
 .op (some 25) (.int .i64) [24] (.load none (.tmp 24)) <|
 .op (some 26) .any [25] (.bin .eql .none (.tmp 25) (.con (V.int .i64 (Int.ofNat 1)))) <|
 .nil))
 (.cond (.tmp 26) (.seq (.ops (.op (some 27) .any [0] (.mov (.tmp 0)) <|
 .op (some 28) .any [27] (.nilck (.tmp 27)) <|
 .op (some 29) .any [28] (.faddr 0 (.tmp 28)) <|
 .op (some 30) (.agg [(.int .i64), .str, (.int .i64)]) [29] (.call 86 [(.tmp 29)]) <|
 .nil))
 (.seq (.keep [(4, .ptr), (8, .ptr), (9, .ptr)] [] [] (.gdraw G98_0 H98_0 [(4, .ptr), (8, .ptr)]))
 (.seq (.ops (.op (some 35) (.agg [(.int .i64), .str, .bool, (.int .i64), (.int .i64), .bool, .bool, .bool, .bool, (.int .i64), (.int .i64), .any, .any, (.int .i64), .bool, (.int .i64)]) [8] (.load (some 16) (.tmp 8)) <|
 .op none (.agg [(.int .i64), .str, .bool, (.int .i64), (.int .i64), .bool, .bool, .bool, .bool, (.int .i64), (.int .i64), .any, .any, (.int .i64), .bool, (.int .i64)]) [4, 35] (.store 16 (.tmp 4) (.tmp 35)) <|
 .op (some 5) .any [] (.mov (.con (V.bool true))) <|
 .nil))
 .ret)))
 .skip)))
 (.seq (.block 0 (.seq (.ops (.op (some 44) .any [0] (.mov (.tmp 0)) <|
 .op (some 45) .any [44] (.nilck (.tmp 44)) <|
 .op (some 46) .any [45] (.faddr 0 (.tmp 45)) <|
 .op (some 47) .bool [46] (.call 87 [(.tmp 46), (.con (V.str ⟨7, 22026814072246082⟩))]) <|
 .op (some 43) .any [47] (.mov (.tmp 47)) <|
 .nil))
 (.cond (.tmp 43) (.ops (.op (some 48) .any [8] (.faddr 0 (.tmp 8)) <|
 .op none .any [48] (.store 1 (.tmp 48) (.con (V.int .i64 (Int.ofNat 1)))) <|
 .nil))
 (.seq (.ops (.op (some 50) .any [0] (.mov (.tmp 0)) <|
 .op (some 51) .any [50] (.nilck (.tmp 50)) <|
 .op (some 52) .any [51] (.faddr 0 (.tmp 51)) <|
 .op (some 53) .bool [52] (.call 87 [(.tmp 52), (.con (V.str ⟨4, 1280070990⟩))]) <|
 .op (some 49) .any [53] (.mov (.tmp 53)) <|
 .nil))
 (.cond (.tmp 49) (.ops (.op (some 54) .any [8] (.faddr 0 (.tmp 8)) <|
 .op none .any [54] (.store 1 (.tmp 54) (.con (V.int .i64 (Int.ofNat 4)))) <|
 .nil))
 (.seq (.ops (.op (some 56) .any [0] (.mov (.tmp 0)) <|
 .op (some 57) .any [56] (.nilck (.tmp 56)) <|
 .op (some 58) .any [57] (.faddr 0 (.tmp 57)) <|
 .op (some 59) .bool [58] (.call 87 [(.tmp 58), (.con (V.str ⟨10, 488440487847103610377301⟩))]) <|
 .op (some 55) .any [59] (.mov (.tmp 59)) <|
 .nil))
 (.cond (.tmp 55) (.seq (.ops (.op (some 60) .any [8] (.faddr 0 (.tmp 8)) <|
 .op none .any [60] (.store 1 (.tmp 60) (.con (V.int .i64 (Int.ofNat 6)))) <|
 .nil))
 (.ops (.op (some 61) .any [0] (.mov (.tmp 0)) <|
 .op (some 62) .any [8] (.faddr 5 (.tmp 8)) <|
 .op (some 63) .bool [61, 62] (.call 111 [(.tmp 61), (.tmp 62)]) <|
 .op (some 7) .any [63] (.mov (.tmp 63)) <|
 .nil)))
 (.seq (.ops (.op (some 65) .any [0] (.mov (.tmp 0)) <|
 .op (some 66) .any [65] (.nilck (.tmp 65)) <|
 .op (some 67) .any [66] (.faddr 0 (.tmp 66)) <|
 .op (some 68) .bool [67] (.call 87 [(.tmp 67), (.con (V.str ⟨7, 23157120498421321⟩))]) <|
 .op (some 64) .any [68] (.mov (.tmp 68)) <|
 .nil))
 (.cond (.tmp 64) (.seq (.ops (.op (some 69) .any [8] (.faddr 0 (.tmp 8)) <|
 .op none .any [69] (.store 1 (.tmp 69) (.con (V.int .i64 (Int.ofNat 2)))) <|
 .nil))
 (.ops (.op (some 70) .any [0] (.mov (.tmp 0)) <|
 .op (some 71) .any [70] (.nilck (.tmp 70)) <|
 .op (some 72) .any [71] (.faddr 0 (.tmp 71)) <|
 .op (some 73) .bool [72] (.call 87 [(.tmp 72), (.con (V.str ⟨1, 40⟩))]) <|
 .op (some 74) .any [73] (.un .not (.tmp 73)) <|
 .op (some 75) .any [74] (.mov (.tmp 74)) <|
 .grp 75 false (.op (some 76) .any [0, 75] (.mov (.tmp 0)) <|
 .op (some 77) .any [8, 75] (.faddr 5 (.tmp 8)) <|
 .op (some 78) .bool [76, 77, 75] (.call 112 [(.tmp 76), (.tmp 77)]) <|
 .op (some 79) .any [78, 75] (.mov (.tmp 78)) <|
 .grp 79 true (.op (some 80) .any [0, 79] (.mov (.tmp 0)) <|
 .op (some 81) .any [79] (.buildSlice 9 1 [(V.str ⟨0, 0⟩)] [(0, 1, (.con (V.str ⟨1, 41⟩)))]) <|
 .op (some 82) .bool [80, 81, 79] (.call 63 [(.tmp 80), (.tmp 81)]) <|
 .nil) 83 [79, 82, 75] (.tmp 79) (.tmp 82) (.con (V.bool false)) <|
 .nil) 84 [75, 83] (.tmp 75) (.con (V.bool true)) (.tmp 83) <|
 .op (some 7) .any [84] (.mov (.tmp 84)) <|
 .nil)))
 (.seq (.ops (.op (some 86) .any [0] (.mov (.tmp 0)) <|
 .op (some 87) .any [86] (.nilck (.tmp 86)) <|
 .op (some 88) .any [87] (.faddr 0 (.tmp 87)) <|
 .op (some 89) .bool [88] (.call 87 [(.tmp 88), (.con (V.str ⟨5, 361940403023⟩))]) <|
 .op (some 85) .any [89] (.mov (.tmp 89)) <|
 .nil))
 (.cond (.tmp 85) (.seq (.ops (.op (some 90) .any [8] (.faddr 0 (.tmp 8)) <|
 .op none .any [90] (.store 1 (.tmp 90) (.con (V.int .i64 (Int.ofNat 5)))) <|
 .nil))
 (.ops (.op (some 91) .any [0] (.mov (.tmp 0)) <|
 .op (some 92) .any [] (.buildSlice 9 1 [(V.str ⟨0, 0⟩)] [(0, 1, (.con (V.str ⟨6, 78401563153491⟩)))]) <|
 .op (some 93) .bool [91, 92] (.call 63 [(.tmp 91), (.tmp 92)]) <|
 .op (some 94) .any [93] (.mov (.tmp 93)) <|
 .grp 94 true (.op (some 95) .any [0, 94] (.mov (.tmp 0)) <|
 .op (some 96) .any [8, 94] (.faddr 5 (.tmp 8)) <|
 .op (some 97) .bool [95, 96, 94] (.call 111 [(.tmp 95), (.tmp 96)]) <|
 .nil) 98 [94, 97] (.tmp 94) (.tmp 97) (.con (V.bool false)) <|
 .op (some 7) .any [98] (.mov (.tmp 98)) <|
 .nil)))
 (.seq (.ops (.op (some 100) .any [0] (.mov (.tmp 0)) <|
 .op (some 101) .any [100] (.nilck (.tmp 100)) <|
 .op (some 102) .any [101] (.faddr 0 (.tmp 101)) <|
 .op (some 103) .bool [102] (.call 87 [(.tmp 102), (.con (V.str ⟨10, 322399817400452109389381⟩))]) <|
 .op (some 99) .any [103] (.mov (.tmp 103)) <|
 .nil))
 (.cond (.tmp 99) (.seq (.ops (.op (some 104) .any [8] (.faddr 0 (.tmp 8)) <|
 .op none .any [104] (.store 1 (.tmp 104) (.con (V.int .i64 (Int.ofNat 3)))) <|
 .nil))
 (.ops (.op (some 105) .any [0] (.mov (.tmp 0)) <|
 .op (some 106) .bool [105, 8] (.call 113 [(.tmp 105), (.tmp 8)]) <|
 .op (some 7) .any [106] (.mov (.tmp 106)) <|
 .nil)))
 (.seq (.ops (.op (some 108) .any [0] (.mov (.tmp 0)) <|
 .op (some 109) .any [108] (.nilck (.tmp 108)) <|
 .op (some 110) .any [109] (.faddr 0 (.tmp 109)) <|
 .op (some 111) .bool [110] (.call 87 [(.tmp 110), (.con (V.str ⟨3, 5522771⟩))]) <|
 .op (some 107) .any [111] (.mov (.tmp 111)) <|
 .nil))
 (.cond (.tmp 107) (.seq (.ops (.op (some 112) .any [8] (.faddr 0 (.tmp 8)) <|
 .op none .any [112] (.store 1 (.tmp 112) (.con (V.int .i64 (Int.ofNat 8)))) <|
 .nil))
 (.ops (.op (some 113) .any [0] (.mov (.tmp 0)) <|
 .op (some 114) .any [1] (.mov (.tmp 1)) <|
 .op (some 115) .bool [113, 8, 114] (.call 114 [(.tmp 113), (.tmp 8), (.tmp 114)]) <|
 .op (some 7) .any [115] (.mov (.tmp 115)) <|
 .nil)))
 (.seq (.ops (.op (some 117) .any [0] (.mov (.tmp 0)) <|
 .op (some 118) .any [117] (.nilck (.tmp 117)) <|
 .op (some 119) .any [118] (.faddr 0 (.tmp 118)) <|
 .op (some 120) .bool [119] (.call 87 [(.tmp 119), (.con (V.str ⟨6, 76155295057987⟩))]) <|
 .op (some 116) .any [120] (.mov (.tmp 120)) <|
 .nil))
 (.cond (.tmp 116) (.seq (.ops (.op (some 121) .any [8] (.faddr 0 (.tmp 8)) <|
 .op none .any [121] (.store 1 (.tmp 121) (.con (V.int .i64 (Int.ofNat 9)))) <|
 .nil))
 (.ops (.op (some 122) .any [0] (.mov (.tmp 0)) <|
 .op (some 123) .any [1] (.mov (.tmp 1)) <|
 .op (some 124) .bool [122, 8, 123] (.call 114 [(.tmp 122), (.tmp 8), (.tmp 123)]) <|
 .op (some 7) .any [124] (.mov (.tmp 124)) <|
 .nil)))
 (.seq (.ops (.op (some 126) .any [0] (.mov (.tmp 0)) <|
 .op (some 127) .any [126] (.nilck (.tmp 126)) <|
 .op (some 128) .any [127] (.faddr 0 (.tmp 127)) <|
 .op (some 129) .bool [128] (.call 87 [(.tmp 128), (.con (V.str ⟨8, 4990918871747741011⟩))]) <|
 .op (some 125) .any [129] (.mov (.tmp 129)) <|
 .nil))
 (.cond (.tmp 125) (.ops (.op (some 130) .any [0] (.mov (.tmp 0)) <|
 .op (some 131) .any [1] (.mov (.tmp 1)) <|
 .op (some 132) .bool [130, 8, 131] (.call 115 [(.tmp 130), (.tmp 8), (.tmp 131)]) <|
 .op (some 7) .any [132] (.mov (.tmp 132)) <|
 .nil))
 (.ops (.op (some 36) .any [0] (.mov (.tmp 0)) <|
 .op (some 37) .any [0] (.mov (.tmp 0)) <|
 .op (some 38) .any [37] (.nilck (.tmp 37)) <|
 .op (some 39) .any [38] (.faddr 0 (.tmp 38)) <|
 .op (some 40) (.agg [(.int .i64), .str, (.int .i64)]) [39] (.call 65 [(.tmp 39)]) <|
 .op (some 41) (.int .i64) [40] (.field 2 none (.tmp 40)) <|
 .op (some 42) .bool [36, 41] (.call 85 [(.tmp 36), (.tmp 41), (.con (V.int .i64 (Int.ofNat 7)))]) <|
 .op (some 7) .any [42] (.mov (.tmp 42)) <|
 .nil)))))))))))))))))))))
 (.keep [(4, .ptr), (7, .bool), (8, .ptr)] [] [] cc1)))))))
def T98_0 (E : List (Nat × Blk)) (D : Den) (W : DrawFn) (K1 : Nat → Nat → Bool → Nat → Nat → H → Ans) (v0b : Nat) (v0o : Nat) (v1 : Int) (σ : H) : Ans :=
 let s1 := newB σ (.cells [(V.int .i64 (Int.ofNat 0)), (V.str ⟨0, 0⟩), (V.bool false), (V.int .i64 (Int.ofNat 0)), (V.int .i64 (Int.ofNat 0)), (V.bool false), (V.bool false), (V.bool false), (V.bool false), (V.int .i64 (Int.ofNat 0)), (V.int .i64 (Int.ofNat 0)), V.nils, V.nils, (V.int .i64 (Int.ofNat 0)), (V.bool false), (V.int .i64 (Int.ofNat 0))]);
 callK (D 110 [(V.ptr v0b v0o)] s1) fun u2 s3 =>
 rtTup u2 fun l4 =>
 rtCons l4 fun x5 l6 =>
 rtAgg x5 fun l7 =>
 rtCons l7 fun x8 l9 =>
 rtBool x8 fun x10 =>
 rtCons l9 fun x11 l12 =>
 rtInt .i64 x11 fun x13 =>
 rtCons l12 fun x14 l15 =>
 rtInt .i64 x14 fun x16 =>
 rtNil l15 (
 rtCons l6 fun x17 l18 =>
 rtBool x17 fun x19 =>
 rtNil l18 (
 condK (not x19) (
 stK 16 (H.next σ) 0 (V.agg [(V.int .i64 (Int.ofNat 0)), (V.str (BS.mk 0 0)), (V.bool false), (V.int .i64 (Int.ofNat 0)), (V.int .i64 (Int.ofNat 0)), (V.bool false), (V.bool false), (V.bool false), (V.bool false), (V.int .i64 (Int.ofNat 0)), (V.int .i64 (Int.ofNat 0)), V.nils, V.nils, (V.int .i64 (Int.ofNat 0)), (V.bool false), (V.int .i64 (Int.ofNat 0))]) s3 fun s20 =>
 ldnK E s20 (H.next σ) 0 16 fun u21 =>
 some ((V.tup [(V.agg u21), (V.bool false)]), s20)) (
 let s22 := newB s3 (.cells [(V.int .i64 (Int.ofNat 0)), (V.str ⟨0, 0⟩), (V.bool false), (V.int .i64 (Int.ofNat 0)), (V.int .i64 (Int.ofNat 0)), (V.bool false), (V.bool false), (V.bool false), (V.bool false), (V.int .i64 (Int.ofNat 0)), (V.int .i64 (Int.ofNat 0)), V.nils, V.nils, (V.int .i64 (Int.ofNat 0)), (V.bool false), (V.int .i64 (Int.ofNat 0))]);
 stK 16 (H.next s3) 0 (V.agg [(V.int .i64 (Int.ofNat 0)), (V.str (BS.mk 0 0)), (V.bool x10), (V.int .i64 x13), (V.int .i64 x16), (V.bool false), (V.bool false), (V.bool false), (V.bool false), (V.int .i64 (Int.ofNat 0)), (V.int .i64 (Int.ofNat 0)), V.nils, V.nils, (V.int .i64 (Int.ofNat 0)), (V.bool false), (V.int .i64 (Int.ofNat 0))]) s22 fun s23 =>
 callK (D 65 [(V.ptr v0b v0o)] s23) fun u24 s25 =>
 rtAgg u24 fun l26 =>
 rtCons l26 fun x27 l28 =>
 rtInt .i64 x27 fun x29 =>
 rtCons l28 fun x30 l31 =>
 rtStr x30 fun x32 =>
 rtCons l31 fun x33 l34 =>
 rtInt .i64 x33 fun x35 =>
 rtNil l34 (
 let s36 := newB s25 (.cells [(V.int .i64 (Int.ofNat 0)), (V.str ⟨0, 0⟩), (V.int .i64 (Int.ofNat 0))]);
 stK 3 (H.next s25) 0 (V.agg [(V.int .i64 x29), (V.str x32), (V.int .i64 x35)]) s36 fun s37 =>
 ldK E s37 (H.next s25) 0 fun u38 =>
 rtInt .i64 u38 fun x39 =>
 condK (eqF x39 (Int.ofNat 1)) (
 callK (D 86 [(V.ptr v0b v0o)] s37) fun u40 s41 =>
 rtAgg u40 fun l42 =>
 rtCons l42 fun x43 l44 =>
 rtInt .i64 x43 fun x45 =>
 rtCons l44 fun x46 l47 =>
 rtStr x46 fun x48 =>
 rtCons l47 fun x49 l50 =>
 rtInt .i64 x49 fun x51 =>
 rtNil l50 (
 gdrawK (W G98_0 H98_0 [(4, (V.ptr (H.next σ) 0)), (8, (V.ptr (H.next s3) 0)), (9, (V.ptr (H.next s25) 0))] s41) fun e52 s53 =>
 getL e52 4 fun u54 =>
 rtPtr u54 fun b55 o56 =>
 getL e52 8 fun u57 =>
 rtPtr u57 fun b58 o59 =>
 ldnK E s53 b58 o59 16 fun l60 =>
 rtCons l60 fun x61 l62 =>
 rtInt .i64 x61 fun x63 =>
 rtCons l62 fun x64 l65 =>
 rtStr x64 fun x66 =>
 rtCons l65 fun x67 l68 =>
 rtBool x67 fun x69 =>
 rtCons l68 fun x70 l71 =>
 rtInt .i64 x70 fun x72 =>
 rtCons l71 fun x73 l74 =>
 rtInt .i64 x73 fun x75 =>
 rtCons l74 fun x76 l77 =>
 rtBool x76 fun x78 =>
 rtCons l77 fun x79 l80 =>
 rtBool x79 fun x81 =>
 rtCons l80 fun x82 l83 =>
 rtBool x82 fun x84 =>
 rtCons l83 fun x85 l86 =>
 rtBool x85 fun x87 =>
 rtCons l86 fun x88 l89 =>
 rtInt .i64 x88 fun x90 =>
 rtCons l89 fun x91 l92 =>
 rtInt .i64 x91 fun x93 =>
 rtCons l92 fun x94 l95 =>
 rtCons l95 fun x96 l97 =>
 rtCons l97 fun x98 l99 =>
 rtInt .i64 x98 fun x100 =>
 rtCons l99 fun x101 l102 =>
 rtBool x101 fun x103 =>
 rtCons l102 fun x104 l105 =>
 rtInt .i64 x104 fun x106 =>
 rtNil l105 (
 stK 16 b55 o56 (V.agg [(V.int .i64 x63), (V.str x66), (V.bool x69), (V.int .i64 x72), (V.int .i64 x75), (V.bool x78), (V.bool x81), (V.bool x84), (V.bool x87), (V.int .i64 x90), (V.int .i64 x93), x94, x96, (V.int .i64 x100), (V.bool x103), (V.int .i64 x106)]) s53 fun s107 =>
 ldnK E s107 b55 o56 16 fun u108 =>
 some ((V.tup [(V.agg u108), (V.bool true)]), s107)))) (
 callK (D 87 [(V.ptr v0b v0o), (V.str (BS.mk 7 22026814072246082))] s37) fun u109 s110 =>
 rtBool u109 fun x111 =>
 condK x111 (
 stK 1 (H.next s3) 0 (V.int .i64 (Int.ofNat 1)) s110 fun s112 =>
 K1 (H.next σ) 0 x19 (H.next s3) 0 s112) (
 callK (D 87 [(V.ptr v0b v0o), (V.str (BS.mk 4 1280070990))] s110) fun u113 s114 =>
 rtBool u113 fun x115 =>
 condK x115 (
 stK 1 (H.next s3) 0 (V.int .i64 (Int.ofNat 4)) s114 fun s116 =>
 K1 (H.next σ) 0 x19 (H.next s3) 0 s116) (
 callK (D 87 [(V.ptr v0b v0o), (V.str (BS.mk 10 488440487847103610377301))] s114) fun u117 s118 =>
 rtBool u117 fun x119 =>
 condK x119 (
 stK 1 (H.next s3) 0 (V.int .i64 (Int.ofNat 6)) s118 fun s120 =>
 callK (D 111 [(V.ptr v0b v0o), (V.ptr (H.next s3) 5)] s120) fun u121 s122 =>
 rtBool u121 fun x123 =>
 K1 (H.next σ) 0 x123 (H.next s3) 0 s122) (
 callK (D 87 [(V.ptr v0b v0o), (V.str (BS.mk 7 23157120498421321))] s118) fun u124 s125 =>
 rtBool u124 fun x126 =>
 condK x126 (
 stK 1 (H.next s3) 0 (V.int .i64 (Int.ofNat 2)) s125 fun s127 =>
 callK (D 87 [(V.ptr v0b v0o), (V.str (BS.mk 1 40))] s127) fun u128 s129 =>
 rtBool u128 fun x130 =>
 joinB (fun c131 s132 =>
 K1 (H.next σ) 0 c131 (H.next s3) 0 s132) fun k133 =>
 condK (not x130) (
 k133 true s129) (
 callK (D 112 [(V.ptr v0b v0o), (V.ptr (H.next s3) 5)] s129) fun u134 s135 =>
 rtBool u134 fun x136 =>
 joinB (fun c137 s138 =>
 k133 c137 s138) fun k139 =>
 condK x136 (
 let s140 := newB s135 (.cells [(V.str (BS.mk 1 41))]);
 callK (D 63 [(V.ptr v0b v0o), (V.sl (H.next s135) 0 1 (.ex 1))] s140) fun u141 s142 =>
 rtBool u141 fun x143 =>
 k139 x143 s142) (
 k139 false s135))) (
 callK (D 87 [(V.ptr v0b v0o), (V.str (BS.mk 5 361940403023))] s125) fun u144 s145 =>
 rtBool u144 fun x146 =>
 condK x146 (
 stK 1 (H.next s3) 0 (V.int .i64 (Int.ofNat 5)) s145 fun s147 =>
 let s148 := newB s147 (.cells [(V.str (BS.mk 6 78401563153491))]);
 callK (D 63 [(V.ptr v0b v0o), (V.sl (H.next s147) 0 1 (.ex 1))] s148) fun u149 s150 =>
 rtBool u149 fun x151 =>
 joinB (fun c152 s153 =>
 K1 (H.next σ) 0 c152 (H.next s3) 0 s153) fun k154 =>
 condK x151 (
 callK (D 111 [(V.ptr v0b v0o), (V.ptr (H.next s3) 5)] s150) fun u155 s156 =>
 rtBool u155 fun x157 =>
 k154 x157 s156) (
 k154 false s150)) (
 callK (D 87 [(V.ptr v0b v0o), (V.str (BS.mk 10 322399817400452109389381))] s145) fun u158 s159 =>
 rtBool u158 fun x160 =>
 condK x160 (
 stK 1 (H.next s3) 0 (V.int .i64 (Int.ofNat 3)) s159 fun s161 =>
 callK (D 113 [(V.ptr v0b v0o), (V.ptr (H.next s3) 0)] s161) fun u162 s163 =>
 rtBool u162 fun x164 =>
 K1 (H.next σ) 0 x164 (H.next s3) 0 s163) (
 callK (D 87 [(V.ptr v0b v0o), (V.str (BS.mk 3 5522771))] s159) fun u165 s166 =>
 rtBool u165 fun x167 =>
 condK x167 (
 stK 1 (H.next s3) 0 (V.int .i64 (Int.ofNat 8)) s166 fun s168 =>
 callK (D 114 [(V.ptr v0b v0o), (V.ptr (H.next s3) 0), (V.int .i64 v1)] s168) fun u169 s170 =>
 rtBool u169 fun x171 =>
 K1 (H.next σ) 0 x171 (H.next s3) 0 s170) (
 callK (D 87 [(V.ptr v0b v0o), (V.str (BS.mk 6 76155295057987))] s166) fun u172 s173 =>
 rtBool u172 fun x174 =>
 condK x174 (
 stK 1 (H.next s3) 0 (V.int .i64 (Int.ofNat 9)) s173 fun s175 =>
 callK (D 114 [(V.ptr v0b v0o), (V.ptr (H.next s3) 0), (V.int .i64 v1)] s175) fun u176 s177 =>
 rtBool u176 fun x178 =>
 K1 (H.next σ) 0 x178 (H.next s3) 0 s177) (
 callK (D 87 [(V.ptr v0b v0o), (V.str (BS.mk 8 4990918871747741011))] s173) fun u179 s180 =>
 rtBool u179 fun x181 =>
 condK x181 (
 callK (D 115 [(V.ptr v0b v0o), (V.ptr (H.next s3) 0), (V.int .i64 v1)] s180) fun u182 s183 =>
 rtBool u182 fun x184 =>
 K1 (H.next σ) 0 x184 (H.next s3) 0 s183) (
 callK (D 65 [(V.ptr v0b v0o)] s180) fun u185 s186 =>
 rtAgg u185 fun l187 =>
 rtCons l187 fun x188 l189 =>
 rtInt .i64 x188 fun x190 =>
 rtCons l189 fun x191 l192 =>
 rtStr x191 fun x193 =>
 rtCons l192 fun x194 l195 =>
 rtInt .i64 x194 fun x196 =>
 rtNil l195 (
 callK (D 85 [(V.ptr v0b v0o), (V.int .i64 x196), (V.int .i64 (Int.ofNat 7))] s186) fun u197 s198 =>
 rtBool u197 fun x199 =>
 K1 (H.next σ) 0 x199 (H.next s3) 0 s198)))))))))))))))
def C98_1 : XC := (.seq (.ops (.op (some 133) (.agg [(.int .i64), .str, .bool, (.int .i64), (.int .i64), .bool, .bool, .bool, .bool, (.int .i64), (.int .i64), .any, .any, (.int .i64), .bool, (.int .i64)]) [8] (.load (some 16) (.tmp 8)) <|
 .op (some 134) .any [7] (.mov (.tmp 7)) <|
 .op none (.agg [(.int .i64), .str, .bool, (.int .i64), (.int .i64), .bool, .bool, .bool, .bool, (.int .i64), (.int .i64), .any, .any, (.int .i64), .bool, (.int .i64)]) [4, 133] (.store 16 (.tmp 4) (.tmp 133)) <|
 .op (some 5) .any [134] (.mov (.tmp 134)) <|
 .nil))
 .ret)
def T98_1 (E : List (Nat × Blk)) (D : Den) (W : DrawFn) (v4b : Nat) (v4o : Nat) (v7 : Bool) (v8b : Nat) (v8o : Nat) (σ : H) : Ans :=
 ldnK E σ v8b v8o 16 fun l1 =>
 rtCons l1 fun x2 l3 =>
 rtInt .i64 x2 fun x4 =>
 rtCons l3 fun x5 l6 =>
 rtStr x5 fun x7 =>
 rtCons l6 fun x8 l9 =>
 rtBool x8 fun x10 =>
 rtCons l9 fun x11 l12 =>
 rtInt .i64 x11 fun x13 =>
 rtCons l12 fun x14 l15 =>
 rtInt .i64 x14 fun x16 =>
 rtCons l15 fun x17 l18 =>
 rtBool x17 fun x19 =>
 rtCons l18 fun x20 l21 =>
 rtBool x20 fun x22 =>
 rtCons l21 fun x23 l24 =>
 rtBool x23 fun x25 =>
 rtCons l24 fun x26 l27 =>
 rtBool x26 fun x28 =>
 rtCons l27 fun x29 l30 =>
 rtInt .i64 x29 fun x31 =>
 rtCons l30 fun x32 l33 =>
 rtInt .i64 x32 fun x34 =>
 rtCons l33 fun x35 l36 =>
 rtCons l36 fun x37 l38 =>
 rtCons l38 fun x39 l40 =>
 rtInt .i64 x39 fun x41 =>
 rtCons l40 fun x42 l43 =>
 rtBool x42 fun x44 =>
 rtCons l43 fun x45 l46 =>
 rtInt .i64 x45 fun x47 =>
 rtNil l46 (
 stK 16 v4b v4o (V.agg [(V.int .i64 x4), (V.str x7), (V.bool x10), (V.int .i64 x13), (V.int .i64 x16), (V.bool x19), (V.bool x22), (V.bool x25), (V.bool x28), (V.int .i64 x31), (V.int .i64 x34), x35, x37, (V.int .i64 x41), (V.bool x44), (V.int .i64 x47)]) σ fun s48 =>
 ldnK E s48 v4b v4o 16 fun u49 =>
 some ((V.tup [(V.agg u49), (V.bool v7)]), s48))
theorem P98_0 (E : List (Nat × Blk)) (D : Den) (W : DrawFn) (N : Nat) (cc1 : XC) (v0b : Nat) (v0o : Nat) (v1 : Int) (σ : H) :
  denC E D W N (C98_0 cc1) ⟨[(0, (V.ptr v0b v0o)), (1, (V.int .i64 v1))], [], [], σ⟩ (Fin98 E) (fun _ _ => none) (Fin98 E) =
  T98_0 E D W (fun v4b v4o v7 v8b v8o σ => denC E D W N cc1 ⟨[(4, (V.ptr v4b v4o)), (7, (V.bool v7)), (8, (V.ptr v8b v8o))], [], [], σ⟩ (Fin98 E) (fun _ _ => none) (Fin98 E)) v0b v0o v1 σ := by kernel_rfl
theorem P98_1 (E : List (Nat × Blk)) (D : Den) (W : DrawFn) (N : Nat) (v4b : Nat) (v4o : Nat) (v7 : Bool) (v8b : Nat) (v8o : Nat) (σ : H) :
  denC E D W N (C98_1 ) ⟨[(4, (V.ptr v4b v4o)), (7, (V.bool v7)), (8, (V.ptr v8b v8o))], [], [], σ⟩ (Fin98 E) (fun _ _ => none) (Fin98 E) =
  T98_1 E D W  v4b v4o v7 v8b v8o σ := by kernel_rfl
def J98_1 (E : List (Nat × Blk)) (D : Den) (W : DrawFn) (N : Nat) : Nat → Nat → Bool → Nat → Nat → H → Ans := T98_1 E D W 
theorem JE98_1 (E : List (Nat × Blk)) (D : Den) (W : DrawFn) (N : Nat) (v4b : Nat) (v4o : Nat) (v7 : Bool) (v8b : Nat) (v8o : Nat) (σ : H) :
  denC E D W N C98_1 ⟨[(4, (V.ptr v4b v4o)), (7, (V.bool v7)), (8, (V.ptr v8b v8o))], [], [], σ⟩ (Fin98 E) (fun _ _ => none) (Fin98 E) = J98_1 E D W N v4b v4o v7 v8b v8o σ := by
  refine (P98_1 E D W N   v4b v4o v7 v8b v8o σ).trans ?_
  kernel_rfl
def J98_0 (E : List (Nat × Blk)) (D : Den) (W : DrawFn) (N : Nat) : Nat → Nat → Int → H → Ans := T98_0 E D W (J98_1 E D W N )
theorem JE98_0 (E : List (Nat × Blk)) (D : Den) (W : DrawFn) (N : Nat) (v0b : Nat) (v0o : Nat) (v1 : Int) (σ : H) :
  denC E D W N (C98_0 C98_1) ⟨[(0, (V.ptr v0b v0o)), (1, (V.int .i64 v1))], [], [], σ⟩ (Fin98 E) (fun _ _ => none) (Fin98 E) = J98_0 E D W N v0b v0o v1 σ := by
  refine (P98_0 E D W N C98_1  v0b v0o v1 σ).trans ?_
  simp only [JE98_1]
  kernel_rfl
def F98 (E : List (Nat × Blk)) (D : Den) (W : DrawFn) (N : Nat) (args : List V) (σ : H) : Ans :=
 rtCons args fun x1 l2 =>
 rtPtr x1 fun b3 o4 =>
 rtCons l2 fun x5 l6 =>
 rtInt .i64 x5 fun x7 =>
 rtNil l6 (
 J98_0 E D W N b3 o4 x7 σ)
def A98 : XFn := ⟨135, [.ptr, (.int .i64)], [(.cell 4 (some 16)), (.tmp 5)], (C98_0 C98_1)⟩
theorem FE98 (E : List (Nat × Blk)) (D : Den) (W : DrawFn) (N : Nat) (args : List V) (σ : H) : runX E D W N A98 args σ = F98 E D W N args σ := by
  unfold F98
  simp only [← JE98_0]
  kernel_rfl
theorem AO98 : A98.body.ok = true := by kernel_rfl

/-! ### F106: internal_stringslite.HasPrefix -/
def Fin106 (E : List (Nat × Blk)) : St → Ans := fun s => resK E s [(.tmp 4)] fun l => some (oneV l, s.σ)
def C106_0 : XC := (.seq (.ops (.op (some 4) .any [] (.mov (.con (V.bool false))) <|
 .nil))
 (.seq (.ops (.op (some 5) .any [0] (.mov (.tmp 0)) <|
 .op (some 6) .any [5] (.len true (.tmp 5)) <|
 .op (some 7) .any [1] (.mov (.tmp 1)) <|
 .op (some 8) .any [7] (.len true (.tmp 7)) <|
 .op (some 9) .any [6, 8] (.bin .geq .none (.tmp 6) (.tmp 8)) <|
 .op (some 10) .any [9] (.mov (.tmp 9)) <|
 .grp 10 true (.op (some 11) .any [0, 10] (.mov (.tmp 0)) <|
 .op (some 12) .any [1, 10] (.mov (.tmp 1)) <|
 .op (some 13) .any [12, 10] (.len true (.tmp 12)) <|
 .op (some 14) .any [11, 13, 10] (.sliceStr (.tmp 11) none (some (.tmp 13))) <|
 .op (some 15) .any [1, 10] (.mov (.tmp 1)) <|
 .op (some 16) .any [14, 15, 10] (.bin .eql .none (.tmp 14) (.tmp 15)) <|
 .nil) 17 [10, 16] (.tmp 10) (.tmp 16) (.con (V.bool false)) <|
 .op (some 4) .any [17] (.mov (.tmp 17)) <|
 .nil))
 .ret))
def T106_0 (E : List (Nat × Blk)) (D : Den) (W : DrawFn) (v0 : BS) (v1 : BS) (σ : H) : Ans :=
 joinB (fun c1 s2 =>
 some ((V.bool c1), s2)) fun k3 =>
 condK (leF (Int.ofNat (BS.len v1)) (Int.ofNat (BS.len v0))) (
 sliceStrX v0 none (some (V.int .i64 (Int.ofNat (BS.len v1)))) fun t4 =>
 k3 (BS.beq t4 v1) σ) (
 k3 false σ)
theorem P106_0 (E : List (Nat × Blk)) (D : Den) (W : DrawFn) (N : Nat) (v0 : BS) (v1 : BS) (σ : H) :
  denC E D W N (C106_0 ) ⟨[(0, (V.str v0)), (1, (V.str v1))], [], [], σ⟩ (Fin106 E) (fun _ _ => none) (Fin106 E) =
  T106_0 E D W  v0 v1 σ := by kernel_rfl
def J106_0 (E : List (Nat × Blk)) (D : Den) (W : DrawFn) (N : Nat) : BS → BS → H → Ans := T106_0 E D W 
theorem JE106_0 (E : List (Nat × Blk)) (D : Den) (W : DrawFn) (N : Nat) (v0 : BS) (v1 : BS) (σ : H) :
  denC E D W N C106_0 ⟨[(0, (V.str v0)), (1, (V.str v1))], [], [], σ⟩ (Fin106 E) (fun _ _ => none) (Fin106 E) = J106_0 E D W N v0 v1 σ := by
  refine (P106_0 E D W N   v0 v1 σ).trans ?_
  kernel_rfl
def F106 (E : List (Nat × Blk)) (D : Den) (W : DrawFn) (N : Nat) (args : List V) (σ : H) : Ans :=
 rtCons args fun x1 l2 =>
 rtStr x1 fun x3 =>
 rtCons l2 fun x4 l5 =>
 rtStr x4 fun x6 =>
 rtNil l5 (
 J106_0 E D W N x3 x6 σ)
def A106 : XFn := ⟨18, [.str, .str], [(.tmp 4)], C106_0⟩
theorem FE106 (E : List (Nat × Blk)) (D : Den) (W : DrawFn) (N : Nat) (args : List V) (σ : H) : runX E D W N A106 args σ = F106 E D W N args σ := by
  unfold F106
  simp only [← JE106_0]
  kernel_rfl
theorem AO106 : A106.body.ok = true := by kernel_rfl

/-! ### F110: __ogham_syntax.parser_.mark -/
def Fin110 (E : List (Nat × Blk)) : St → Ans := fun s => resK E s [(.cell 2 (some 3)), (.tmp 3)] fun l => some (oneV l, s.σ)
def C110_0 (cc1 : XC) : XC := (.seq (.ops (.pal 2 [] 66 [(V.bool false), (V.int .i64 (Int.ofNat 0)), (V.int .i64 (Int.ofNat 0))] <|
 .op (some 3) .any [] (.mov (.con (V.bool false))) <|
 .nil))
 (.seq (.seq (.ops (.op (some 8) .any [0] (.mov (.tmp 0)) <|
 .op (some 9) .any [8] (.nilck (.tmp 8)) <|
 .op (some 10) .any [9] (.faddr 0 (.tmp 9)) <|
 .op (some 11) .bool [10] (.call 87 [(.tmp 10), (.con (V.str ⟨1, 91⟩))]) <|
 .op (some 12) .any [11] (.un .not (.tmp 11)) <|
 .nil))
 (.cond (.tmp 12) (.seq (.ops (.op (some 13) (.agg [.bool, (.int .i64), (.int .i64)]) [] (.build [(V.bool false), (V.int .i64 (Int.ofNat 0)), (V.int .i64 (Int.ofNat 0))] []) <|
 .op none (.agg [.bool, (.int .i64), (.int .i64)]) [2, 13] (.store 3 (.tmp 2) (.tmp 13)) <|
 .op (some 3) .any [] (.mov (.con (V.bool true))) <|
 .nil))
 .ret)
 .skip))
 (.seq (.ops (.op (some 15) .any [0] (.mov (.tmp 0)) <|
 .op (some 16) (.tup [(.int .i64), (.agg [(.int .i64), .str, (.int .i64)]), .bool]) [15] (.call 127 [(.tmp 15)]) <|
 .op (some 14) .any [16] (.mov (.tmp 16)) <|
 .op (some 17) .any [14] (.extract 0 (.tmp 14)) <|
 .op (some 18) .any [14] (.extract 1 (.tmp 14)) <|
 .op (some 19) .any [14] (.extract 2 (.tmp 14)) <|
 .pal 5 [] 50 [(V.int .i64 (Int.ofNat 0)), (V.str ⟨0, 0⟩), (V.int .i64 (Int.ofNat 0))] <|
 .op (some 4) .any [17] (.mov (.tmp 17)) <|
 .op none (.agg [(.int .i64), .str, (.int .i64)]) [5, 18] (.store 3 (.tmp 5) (.tmp 18)) <|
 .op (some 6) .any [19] (.mov (.tmp 19)) <|
 .nil))
 (.seq (.block 0 (.seq (.ops (.op (some 21) .any [6] (.mov (.tmp 6)) <|
 .op (some 22) .any [21] (.un .not (.tmp 21)) <|
 .op (some 20) .any [22] (.mov (.tmp 22)) <|
 .nil))
 (.cond (.tmp 20) (.seq (.ops (.op (some 23) (.agg [.bool, (.int .i64), (.int .i64)]) [] (.build [(V.bool false), (V.int .i64 (Int.ofNat 0)), (V.int .i64 (Int.ofNat 0))] []) <|
 .op none (.agg [.bool, (.int .i64), (.int .i64)]) [2, 23] (.store 3 (.tmp 2) (.tmp 23)) <|
 .op (some 3) .any [] (.mov (.con (V.bool false))) <|
 .nil))
 .ret)
 (.seq (.ops (.op (some 25) .any [4] (.mov (.tmp 4)) <|
 .op (some 26) .any [25] (.bin .lss .none (.tmp 25) (.con (V.int .i64 (Int.ofNat 0)))) <|
 .op (some 27) .any [26] (.mov (.tmp 26)) <|
 .grp 27 false (.op (some 28) .any [4, 27] (.mov (.tmp 4)) <|
 .op (some 29) .any [28, 27] (.bin .gtr .none (.tmp 28) (.con (V.int .i64 (Int.ofNat 268435456)))) <|
 .nil) 30 [27, 29] (.tmp 27) (.con (V.bool true)) (.tmp 29) <|
 .op (some 24) .any [30] (.mov (.tmp 30)) <|
 .nil))
 (.cond (.tmp 24) (.seq (.ops (.op (some 31) (.agg [.bool, (.int .i64), (.int .i64)]) [] (.build [(V.bool false), (V.int .i64 (Int.ofNat 0)), (V.int .i64 (Int.ofNat 0))] []) <|
 .op (some 32) .any [0] (.mov (.tmp 0)) <|
 .op (some 33) .any [5] (.faddr 2 (.tmp 5)) <|
 .op (some 34) (.int .i64) [33] (.load none (.tmp 33)) <|
 .op (some 35) .bool [32, 34] (.call 85 [(.tmp 32), (.tmp 34), (.con (V.int .i64 (Int.ofNat 12)))]) <|
 .op none (.agg [.bool, (.int .i64), (.int .i64)]) [2, 31] (.store 3 (.tmp 2) (.tmp 31)) <|
 .op (some 3) .any [35] (.mov (.tmp 35)) <|
 .nil))
 .ret)
 (.seq (.ops (.op (some 37) .any [0] (.mov (.tmp 0)) <|
 .op (some 38) .any [] (.buildSlice 9 1 [(V.str ⟨0, 0⟩)] [(0, 1, (.con (V.str ⟨1, 93⟩)))]) <|
 .op (some 39) .bool [37, 38] (.call 63 [(.tmp 37), (.tmp 38)]) <|
 .op (some 40) .any [39] (.un .not (.tmp 39)) <|
 .op (some 36) .any [40] (.mov (.tmp 40)) <|
 .nil))
 (.cond (.tmp 36) (.seq (.ops (.op (some 41) (.agg [.bool, (.int .i64), (.int .i64)]) [] (.build [(V.bool false), (V.int .i64 (Int.ofNat 0)), (V.int .i64 (Int.ofNat 0))] []) <|
 .op none (.agg [.bool, (.int .i64), (.int .i64)]) [2, 41] (.store 3 (.tmp 2) (.tmp 41)) <|
 .op (some 3) .any [] (.mov (.con (V.bool false))) <|
 .nil))
 .ret)
 .skip)))))))
 (.seq (.ops (.op (some 42) .any [4] (.mov (.tmp 4)) <|
 .op (some 43) (.agg [.bool, (.int .i64), (.int .i64)]) [42] (.build [(V.bool false), (V.int .i64 (Int.ofNat 0)), (V.int .i64 (Int.ofNat 0))] [(0, 1, (.con (V.bool true))), (1, 1, (.tmp 42))]) <|
 .pal 7 [] 66 [(V.bool false), (V.int .i64 (Int.ofNat 0)), (V.int .i64 (Int.ofNat 0))] <|
 .op none (.agg [.bool, (.int .i64), (.int .i64)]) [7, 43] (.store 3 (.tmp 7) (.tmp 43)) <|
 .nil))
 (.seq (.block 1 (.seq (.ops (.op (some 45) .any [0] (.mov (.tmp 0)) <|
 .op (some 46) .any [45] (.nilck (.tmp 45)) <|
 .op (some 47) .any [46] (.faddr 0 (.tmp 46)) <|
 .op (some 48) .bool [47] (.call 87 [(.tmp 47), (.con (V.str ⟨8, 6073459554577832005⟩))]) <|
 .op (some 44) .any [48] (.mov (.tmp 48)) <|
 .nil))
 (.cond (.tmp 44) (.ops (.op (some 49) .any [7] (.faddr 2 (.tmp 7)) <|
 .op none .any [49] (.store 1 (.tmp 49) (.con (V.int .i64 (Int.ofNat 1)))) <|
 .nil))
 (.seq (.ops (.op (some 51) .any [0] (.mov (.tmp 0)) <|
 .op (some 52) .any [51] (.nilck (.tmp 51)) <|
 .op (some 53) .any [52] (.faddr 0 (.tmp 52)) <|
 .op (some 54) .bool [53] (.call 87 [(.tmp 53), (.con (V.str ⟨8, 6073459554577829193⟩))]) <|
 .op (some 50) .any [54] (.mov (.tmp 54)) <|
 .nil))
 (.cond (.tmp 50) (.ops (.op (some 55) .any [7] (.faddr 2 (.tmp 7)) <|
 .op none .any [55] (.store 1 (.tmp 55) (.con (V.int .i64 (Int.ofNat 2)))) <|
 .nil))
 .skip)))))
 (.keep [] [2, 7] [(2, [.bool, (.int .i64), (.int .i64)]), (7, [.bool, (.int .i64), (.int .i64)])] cc1)))))))
def T110_0 (E : List (Nat × Blk)) (D : Den) (W : DrawFn) (K1 : Bool → Int → Int → Bool → Int → Int → H → Ans) (v0b : Nat) (v0o : Nat) (σ : H) : Ans :=
 callK (D 87 [(V.ptr v0b v0o), (V.str (BS.mk 1 91))] σ) fun u1 s2 =>
 rtBool u1 fun x3 =>
 condK (not x3) (
 some ((V.tup [(V.agg [(V.bool false), (V.int .i64 (Int.ofNat 0)), (V.int .i64 (Int.ofNat 0))]), (V.bool true)]), s2)) (
 callK (D 127 [(V.ptr v0b v0o)] s2) fun u4 s5 =>
 rtTup u4 fun l6 =>
 rtCons l6 fun x7 l8 =>
 rtInt .i64 x7 fun x9 =>
 rtCons l8 fun x10 l11 =>
 rtAgg x10 fun l12 =>
 rtCons l12 fun x13 l14 =>
 rtInt .i64 x13 fun x15 =>
 rtCons l14 fun x16 l17 =>
 rtStr x16 fun x18 =>
 rtCons l17 fun x19 l20 =>
 rtInt .i64 x19 fun x21 =>
 rtNil l20 (
 rtCons l11 fun x22 l23 =>
 rtBool x22 fun x24 =>
 rtNil l23 (
 condK (not x24) (
 some ((V.tup [(V.agg [(V.bool false), (V.int .i64 (Int.ofNat 0)), (V.int .i64 (Int.ofNat 0))]), (V.bool false)]), s5)) (
 joinB (fun c25 s26 =>
 condK c25 (
 callK (D 85 [(V.ptr v0b v0o), (V.int .i64 x21), (V.int .i64 (Int.ofNat 12))] s26) fun u28 s29 =>
 rtBool u28 fun x30 =>
 some ((V.tup [(V.agg [(V.bool false), (V.int .i64 (Int.ofNat 0)), (V.int .i64 (Int.ofNat 0))]), (V.bool x30)]), s29)) (
 let s31 := newB s26 (.cells [(V.str (BS.mk 1 93))]);
 callK (D 63 [(V.ptr v0b v0o), (V.sl (H.next s26) 0 1 (.ex 1))] s31) fun u32 s33 =>
 rtBool u32 fun x34 =>
 condK (not x34) (
 some ((V.tup [(V.agg [(V.bool false), (V.int .i64 (Int.ofNat 0)), (V.int .i64 (Int.ofNat 0))]), (V.bool false)]), s33)) (
 callK (D 87 [(V.ptr v0b v0o), (V.str (BS.mk 8 6073459554577832005))] s33) fun u35 s36 =>
 rtBool u35 fun x37 =>
 condK x37 (
 K1 false (Int.ofNat 0) (Int.ofNat 0) true x9 (Int.ofNat 1) s36) (
 callK (D 87 [(V.ptr v0b v0o), (V.str (BS.mk 8 6073459554577829193))] s36) fun u38 s39 =>
 rtBool u38 fun x40 =>
 condK x40 (
 K1 false (Int.ofNat 0) (Int.ofNat 0) true x9 (Int.ofNat 2) s39) (
 K1 false (Int.ofNat 0) (Int.ofNat 0) true x9 (Int.ofNat 0) s39))))) fun k27 =>
 condK (ltF x9 (Int.ofNat 0)) (
 k27 true s5) (
 k27 (ltF (Int.ofNat 268435456) x9) s5)))))
def C110_1 : XC := (.seq (.ops (.op (some 56) (.agg [.bool, (.int .i64), (.int .i64)]) [7] (.load (some 3) (.tmp 7)) <|
 .op none (.agg [.bool, (.int .i64), (.int .i64)]) [2, 56] (.store 3 (.tmp 2) (.tmp 56)) <|
 .op (some 3) .any [] (.mov (.con (V.bool true))) <|
 .nil))
 .ret)
def T110_1 (E : List (Nat × Blk)) (D : Den) (W : DrawFn) (r2_0 : Bool) (r2_1 : Int) (r2_2 : Int) (r7_0 : Bool) (r7_1 : Int) (r7_2 : Int) (σ : H) : Ans :=
 some ((V.tup [(V.agg [(V.bool r7_0), (V.int .i64 r7_1), (V.int .i64 r7_2)]), (V.bool true)]), σ)
theorem P110_0 (E : List (Nat × Blk)) (D : Den) (W : DrawFn) (N : Nat) (cc1 : XC) (v0b : Nat) (v0o : Nat) (σ : H) :
  denC E D W N (C110_0 cc1) ⟨[(0, (V.ptr v0b v0o))], [], [], σ⟩ (Fin110 E) (fun _ _ => none) (Fin110 E) =
  T110_0 E D W (fun r2_0 r2_1 r2_2 r7_0 r7_1 r7_2 σ => denC E D W N cc1 ⟨[], [(2, (2, 0)), (7, (7, 0))], [(2, [(V.bool r2_0), (V.int .i64 r2_1), (V.int .i64 r2_2)]), (7, [(V.bool r7_0), (V.int .i64 r7_1), (V.int .i64 r7_2)])], σ⟩ (Fin110 E) (fun _ _ => none) (Fin110 E)) v0b v0o σ := by kernel_rfl
theorem P110_1 (E : List (Nat × Blk)) (D : Den) (W : DrawFn) (N : Nat) (r2_0 : Bool) (r2_1 : Int) (r2_2 : Int) (r7_0 : Bool) (r7_1 : Int) (r7_2 : Int) (σ : H) :
  denC E D W N (C110_1 ) ⟨[], [(2, (2, 0)), (7, (7, 0))], [(2, [(V.bool r2_0), (V.int .i64 r2_1), (V.int .i64 r2_2)]), (7, [(V.bool r7_0), (V.int .i64 r7_1), (V.int .i64 r7_2)])], σ⟩ (Fin110 E) (fun _ _ => none) (Fin110 E) =
  T110_1 E D W  r2_0 r2_1 r2_2 r7_0 r7_1 r7_2 σ := by kernel_rfl
def J110_1 (E : List (Nat × Blk)) (D : Den) (W : DrawFn) (N : Nat) : Bool → Int → Int → Bool → Int → Int → H → Ans := T110_1 E D W 
theorem JE110_1 (E : List (Nat × Blk)) (D : Den) (W : DrawFn) (N : Nat) (r2_0 : Bool) (r2_1 : Int) (r2_2 : Int) (r7_0 : Bool) (r7_1 : Int) (r7_2 : Int) (σ : H) :
  denC E D W N C110_1 ⟨[], [(2, (2, 0)), (7, (7, 0))], [(2, [(V.bool r2_0), (V.int .i64 r2_1), (V.int .i64 r2_2)]), (7, [(V.bool r7_0), (V.int .i64 r7_1), (V.int .i64 r7_2)])], σ⟩ (Fin110 E) (fun _ _ => none) (Fin110 E) = J110_1 E D W N r2_0 r2_1 r2_2 r7_0 r7_1 r7_2 σ := by
  refine (P110_1 E D W N   r2_0 r2_1 r2_2 r7_0 r7_1 r7_2 σ).trans ?_
  kernel_rfl
def J110_0 (E : List (Nat × Blk)) (D : Den) (W : DrawFn) (N : Nat) : Nat → Nat → H → Ans := T110_0 E D W (J110_1 E D W N )
theorem JE110_0 (E : List (Nat × Blk)) (D : Den) (W : DrawFn) (N : Nat) (v0b : Nat) (v0o : Nat) (σ : H) :
  denC E D W N (C110_0 C110_1) ⟨[(0, (V.ptr v0b v0o))], [], [], σ⟩ (Fin110 E) (fun _ _ => none) (Fin110 E) = J110_0 E D W N v0b v0o σ := by
  refine (P110_0 E D W N C110_1  v0b v0o σ).trans ?_
  simp only [JE110_1]
  kernel_rfl
def F110 (E : List (Nat × Blk)) (D : Den) (W : DrawFn) (N : Nat) (args : List V) (σ : H) : Ans :=
 rtCons args fun x1 l2 =>
 rtPtr x1 fun b3 o4 =>
 rtNil l2 (
 J110_0 E D W N b3 o4 σ)
def A110 : XFn := ⟨57, [.ptr], [(.cell 2 (some 3)), (.tmp 3)], (C110_0 C110_1)⟩
theorem FE110 (E : List (Nat × Blk)) (D : Den) (W : DrawFn) (N : Nat) (args : List V) (σ : H) : runX E D W N A110 args σ = F110 E D W N args σ := by
  unfold F110
  simp only [← JE110_0]
  kernel_rfl
theorem AO110 : A110.body.ok = true := by kernel_rfl

/-! ### F114: __ogham_syntax.parser_.fields -/
def Fin114 (E : List (Nat × Blk)) : St → Ans := fun s => resK E s [(.tmp 6)] fun l => some (oneV l, s.σ)
def C114_0 (cc1 : XC) (cc2 : XC) : XC := (.seq (.ops (.op (some 6) .any [] (.mov (.con (V.bool false))) <|
 .nil))
 (.seq (.seq (.ops (.op (some 8) .any [0] (.mov (.tmp 0)) <|
 .op (some 9) .any [] (.buildSlice 9 1 [(V.str ⟨0, 0⟩)] [(0, 1, (.con (V.str ⟨1, 123⟩)))]) <|
 .op (some 10) .bool [8, 9] (.call 63 [(.tmp 8), (.tmp 9)]) <|
 .op (some 11) .any [10] (.un .not (.tmp 10)) <|
 .nil))
 (.cond (.tmp 11) (.seq (.ops (.op (some 6) .any [] (.mov (.con (V.bool false))) <|
 .nil))
 .ret)
 .skip))
 (.seq (.seq (.ops (.op (some 12) .any [0] (.mov (.tmp 0)) <|
 .op (some 13) .any [12] (.nilck (.tmp 12)) <|
 .op (some 14) .any [13] (.faddr 0 (.tmp 13)) <|
 .op (some 15) .bool [14] (.call 64 [(.tmp 14), (.con (V.str ⟨1, 125⟩))]) <|
 .op (some 16) .any [15] (.un .not (.tmp 15)) <|
 .op (some 7) .any [16] (.mov (.tmp 16)) <|
 .nil))
 (.block 0 (.loop [(0, .ptr), (1, .ptr), (2, (.int .i64)), (7, .bool)] [] [] cc2)))
 (.keep [(0, .ptr), (1, .ptr)] [] [] cc1))))
def T114_0 (E : List (Nat × Blk)) (D : Den) (W : DrawFn) (K2 : Nat → Nat → Nat → Nat → Int → Bool → H → Ans) (v0b : Nat) (v0o : Nat) (v1b : Nat) (v1o : Nat) (v2 : Int) (σ : H) : Ans :=
 let s1 := newB σ (.cells [(V.str (BS.mk 1 123))]);
 callK (D 63 [(V.ptr v0b v0o), (V.sl (H.next σ) 0 1 (.ex 1))] s1) fun u2 s3 =>
 rtBool u2 fun x4 =>
 condK (not x4) (
 some ((V.bool false), s3)) (
 callK (D 64 [(V.ptr v0b v0o), (V.str (BS.mk 1 125))] s3) fun u5 s6 =>
 rtBool u5 fun x7 =>
 K2 v0b v0o v1b v1o v2 (not x7) s6)
def C114_1 : XC := (.seq (.ops (.op (some 51) .any [1] (.mov (.tmp 1)) <|
 .op (some 52) .any [1] (.mov (.tmp 1)) <|
 .op (some 53) .any [52] (.nilck (.tmp 52)) <|
 .op (some 54) .any [53] (.faddr 12 (.tmp 53)) <|
 .op (some 55) .any [54] (.load none (.tmp 54)) <|
 .op (some 56) .any [55] (.len false (.tmp 55)) <|
 .op (some 57) .any [51] (.nilck (.tmp 51)) <|
 .op (some 58) .any [57] (.faddr 13 (.tmp 57)) <|
 .op none .any [58, 56] (.store 1 (.tmp 58) (.tmp 56)) <|
 .nil))
 (.seq (.ops (.op (some 59) .any [0] (.mov (.tmp 0)) <|
 .op (some 60) .any [] (.buildSlice 9 1 [(V.str ⟨0, 0⟩)] [(0, 1, (.con (V.str ⟨1, 125⟩)))]) <|
 .op (some 61) .bool [59, 60] (.call 63 [(.tmp 59), (.tmp 60)]) <|
 .op (some 6) .any [61] (.mov (.tmp 61)) <|
 .nil))
 .ret))
def T114_1 (E : List (Nat × Blk)) (D : Den) (W : DrawFn) (v0b : Nat) (v0o : Nat) (v1b : Nat) (v1o : Nat) (σ : H) : Ans :=
 ldK E σ v1b (Nat.add v1o 12) fun u1 =>
 slenK u1 fun n2 =>
 stK 1 v1b (Nat.add v1o 13) (V.int .i64 (Int.ofNat n2)) σ fun s3 =>
 let s4 := newB s3 (.cells [(V.str (BS.mk 1 125))]);
 callK (D 63 [(V.ptr v0b v0o), (V.sl (H.next s3) 0 1 (.ex 1))] s4) fun u5 s6 =>
 rtBool u5 fun x7 =>
 some ((V.bool x7), s6)
def C114_2 : XC := (.seq (.seq (.ops (.op (some 17) .any [7] (.mov (.tmp 7)) <|
 .nil))
 (.cond (.tmp 17) .skip
 (.exit 0)))
 (.seq (.block 1 (.seq (.seq (.ops (.op (some 22) .any [0] (.mov (.tmp 0)) <|
 .op (some 23) .any [22] (.nilck (.tmp 22)) <|
 .op (some 24) .any [23] (.faddr 0 (.tmp 23)) <|
 .op (some 25) .bool [24] (.call 87 [(.tmp 24), (.con (V.str ⟨3, 3026478⟩))]) <|
 .nil))
 (.cond (.tmp 25) (.seq (.ops (.op (some 26) .any [1] (.mov (.tmp 1)) <|
 .op (some 27) .any [1] (.mov (.tmp 1)) <|
 .op (some 28) .any [1] (.mov (.tmp 1)) <|
 .op (some 29) .any [28] (.nilck (.tmp 28)) <|
 .op (some 30) .any [29] (.faddr 12 (.tmp 29)) <|
 .op (some 31) .any [30] (.load none (.tmp 30)) <|
 .op (some 32) .any [31] (.len false (.tmp 31)) <|
 .op (some 33) .any [26] (.nilck (.tmp 26)) <|
 .op (some 34) .any [33] (.faddr 14 (.tmp 33)) <|
 .op none .any [34] (.store 1 (.tmp 34) (.con (V.bool true))) <|
 .op (some 35) .any [27] (.nilck (.tmp 27)) <|
 .op (some 36) .any [35] (.faddr 13 (.tmp 35)) <|
 .op none .any [36, 32] (.store 1 (.tmp 36) (.tmp 32)) <|
 .nil))
 (.seq (.ops (.op (some 37) .any [0] (.mov (.tmp 0)) <|
 .op (some 38) .any [1] (.mov (.tmp 1)) <|
 .op (some 39) .any [2] (.mov (.tmp 2)) <|
 .op (some 40) .bool [37, 38, 39] (.call 129 [(.tmp 37), (.tmp 38), (.tmp 39)]) <|
 .op (some 41) .any [40] (.mov (.tmp 40)) <|
 .grp 41 true (.op (some 42) .any [0, 41] (.mov (.tmp 0)) <|
 .op (some 43) .any [41] (.buildSlice 9 1 [(V.str ⟨0, 0⟩)] [(0, 1, (.con (V.str ⟨1, 125⟩)))]) <|
 .op (some 44) .bool [42, 43, 41] (.call 63 [(.tmp 42), (.tmp 43)]) <|
 .nil) 45 [41, 44] (.tmp 41) (.tmp 44) (.con (V.bool false)) <|
 .op (some 6) .any [45] (.mov (.tmp 45)) <|
 .nil))
 .ret))
 .skip))
 (.seq (.ops (.op (some 46) .any [0] (.mov (.tmp 0)) <|
 .op (some 47) .any [1] (.mov (.tmp 1)) <|
 .op (some 48) .any [2] (.mov (.tmp 2)) <|
 .op (some 49) .bool [46, 47, 48] (.call 130 [(.tmp 46), (.tmp 47), (.con (V.int .i64 (Int.ofNat 0))), (.tmp 48)]) <|
 .op (some 50) .any [49] (.un .not (.tmp 49)) <|
 .nil))
 (.cond (.tmp 50) (.seq (.ops (.op (some 6) .any [] (.mov (.con (V.bool false))) <|
 .nil))
 .ret)
 .skip))))
 (.ops (.op (some 18) .any [0] (.mov (.tmp 0)) <|
 .op (some 19) .any [18] (.nilck (.tmp 18)) <|
 .op (some 20) .any [19] (.faddr 0 (.tmp 19)) <|
 .op (some 21) .bool [20] (.call 87 [(.tmp 20), (.con (V.str ⟨1, 44⟩))]) <|
 .op (some 7) .any [21] (.mov (.tmp 21)) <|
 .nil))))
def T114_2 (E : List (Nat × Blk)) (D : Den) (W : DrawFn) (K1 : Nat → Nat → Nat → Nat → H → Ans) (R2 : Nat → Nat → Nat → Nat → Int → Bool → H → Ans) (v0b : Nat) (v0o : Nat) (v1b : Nat) (v1o : Nat) (v2 : Int) (v7 : Bool) (σ : H) : Ans :=
 condK v7 (
 callK (D 87 [(V.ptr v0b v0o), (V.str (BS.mk 3 3026478))] σ) fun u1 s2 =>
 rtBool u1 fun x3 =>
 condK x3 (
 ldK E s2 v1b (Nat.add v1o 12) fun u4 =>
 slenK u4 fun n5 =>
 stK 1 v1b (Nat.add v1o 14) (V.bool true) s2 fun s6 =>
 stK 1 v1b (Nat.add v1o 13) (V.int .i64 (Int.ofNat n5)) s6 fun s7 =>
 callK (D 129 [(V.ptr v0b v0o), (V.ptr v1b v1o), (V.int .i64 v2)] s7) fun u8 s9 =>
 rtBool u8 fun x10 =>
 joinB (fun c11 s12 =>
 some ((V.bool c11), s12)) fun k13 =>
 condK x10 (
 let s14 := newB s9 (.cells [(V.str (BS.mk 1 125))]);
 callK (D 63 [(V.ptr v0b v0o), (V.sl (H.next s9) 0 1 (.ex 1))] s14) fun u15 s16 =>
 rtBool u15 fun x17 =>
 k13 x17 s16) (
 k13 false s9)) (
 callK (D 130 [(V.ptr v0b v0o), (V.ptr v1b v1o), (V.int .i64 (Int.ofNat 0)), (V.int .i64 v2)] s2) fun u18 s19 =>
 rtBool u18 fun x20 =>
 condK (not x20) (
 some ((V.bool false), s19)) (
 callK (D 87 [(V.ptr v0b v0o), (V.str (BS.mk 1 44))] s19) fun u21 s22 =>
 rtBool u21 fun x23 =>
 R2 v0b v0o v1b v1o v2 x23 s22))) (
 K1 v0b v0o v1b v1o σ)
theorem P114_0 (E : List (Nat × Blk)) (D : Den) (W : DrawFn) (N : Nat) (cc1 : XC) (cc2 : XC) (v0b : Nat) (v0o : Nat) (v1b : Nat) (v1o : Nat) (v2 : Int) (σ : H) :
  denC E D W N (C114_0 cc1 cc2) ⟨[(0, (V.ptr v0b v0o)), (1, (V.ptr v1b v1o)), (2, (V.int .i64 v2))], [], [], σ⟩ (Fin114 E) (fun _ _ => none) (Fin114 E) =
  T114_0 E D W (fun v0b v0o v1b v1o v2 v7 σ => iterK (fun rec s' => denC E D W N cc2 s' (fun s'' => keepS [(0, .ptr), (1, .ptr), (2, (.int .i64)), (7, .bool)] [] [] s'' rec) (blkK 0 (fun s' => denC E D W N (.keep [(0, .ptr), (1, .ptr)] [] [] cc1) s' (Fin114 E) (fun _ _ => none) (Fin114 E)) (fun _ _ => none)) (Fin114 E)) N ⟨[(0, (V.ptr v0b v0o)), (1, (V.ptr v1b v1o)), (2, (V.int .i64 v2)), (7, (V.bool v7))], [], [], σ⟩) v0b v0o v1b v1o v2 σ := by kernel_rfl
theorem P114_1 (E : List (Nat × Blk)) (D : Den) (W : DrawFn) (N : Nat) (v0b : Nat) (v0o : Nat) (v1b : Nat) (v1o : Nat) (σ : H) :
  denC E D W N (C114_1 ) ⟨[(0, (V.ptr v0b v0o)), (1, (V.ptr v1b v1o))], [], [], σ⟩ (Fin114 E) (fun _ _ => none) (Fin114 E) =
  T114_1 E D W  v0b v0o v1b v1o σ := by kernel_rfl
theorem P114_2 (E : List (Nat × Blk)) (D : Den) (W : DrawFn) (N : Nat) (cc1 : XC) (li2 : St → Ans) (v0b : Nat) (v0o : Nat) (v1b : Nat) (v1o : Nat) (v2 : Int) (v7 : Bool) (σ : H) :
  denC E D W N (C114_2 ) ⟨[(0, (V.ptr v0b v0o)), (1, (V.ptr v1b v1o)), (2, (V.int .i64 v2)), (7, (V.bool v7))], [], [], σ⟩ (fun s'' => keepS [(0, .ptr), (1, .ptr), (2, (.int .i64)), (7, .bool)] [] [] s'' li2) (blkK 0 (fun s' => denC E D W N (.keep [(0, .ptr), (1, .ptr)] [] [] cc1) s' (Fin114 E) (fun _ _ => none) (Fin114 E)) (fun _ _ => none)) (Fin114 E) =
  T114_2 E D W (fun v0b v0o v1b v1o σ => denC E D W N cc1 ⟨[(0, (V.ptr v0b v0o)), (1, (V.ptr v1b v1o))], [], [], σ⟩ (Fin114 E) (fun _ _ => none) (Fin114 E)) (fun v0b v0o v1b v1o v2 v7 σ => li2 ⟨[(0, (V.ptr v0b v0o)), (1, (V.ptr v1b v1o)), (2, (V.int .i64 v2)), (7, (V.bool v7))], [], [], σ⟩) v0b v0o v1b v1o v2 v7 σ := by kernel_rfl
def J114_1 (E : List (Nat × Blk)) (D : Den) (W : DrawFn) (N : Nat) : Nat → Nat → Nat → Nat → H → Ans := T114_1 E D W 
theorem JE114_1 (E : List (Nat × Blk)) (D : Den) (W : DrawFn) (N : Nat) (v0b : Nat) (v0o : Nat) (v1b : Nat) (v1o : Nat) (σ : H) :
  denC E D W N C114_1 ⟨[(0, (V.ptr v0b v0o)), (1, (V.ptr v1b v1o))], [], [], σ⟩ (Fin114 E) (fun _ _ => none) (Fin114 E) = J114_1 E D W N v0b v0o v1b v1o σ := by
  refine (P114_1 E D W N   v0b v0o v1b v1o σ).trans ?_
  kernel_rfl
def L114_2 (E : List (Nat × Blk)) (D : Den) (W : DrawFn) (N : Nat) (n : Nat) : Nat → Nat → Nat → Nat → Int → Bool → H → Ans :=
  Nat.rec (fun _ _ _ _ _ _ _ => none) (fun _ ih => T114_2 E D W (J114_1 E D W N ) ih) n
theorem LE114_2 (E : List (Nat × Blk)) (D : Den) (W : DrawFn) (N : Nat) (n : Nat) : ∀ (v0b : Nat) (v0o : Nat) (v1b : Nat) (v1o : Nat) (v2 : Int) (v7 : Bool) (σ : H),
  iterK (fun rec s' => denC E D W N C114_2 s' (fun s'' => keepS [(0, .ptr), (1, .ptr), (2, (.int .i64)), (7, .bool)] [] [] s'' rec) (blkK 0 (fun s' => denC E D W N (.keep [(0, .ptr), (1, .ptr)] [] [] C114_1) s' (Fin114 E) (fun _ _ => none) (Fin114 E)) (fun _ _ => none)) (Fin114 E)) n ⟨[(0, (V.ptr v0b v0o)), (1, (V.ptr v1b v1o)), (2, (V.int .i64 v2)), (7, (V.bool v7))], [], [], σ⟩ = L114_2 E D W N n v0b v0o v1b v1o v2 v7 σ := by
  induction n with
  | zero => intro v0b v0o v1b v1o v2 v7 σ; rfl
  | succ n ihn =>
    intro v0b v0o v1b v1o v2 v7 σ
    rw [iterK_succ]
    refine (P114_2 E D W N C114_1 (iterK (fun rec s' => denC E D W N C114_2 s' (fun s'' => keepS [(0, .ptr), (1, .ptr), (2, (.int .i64)), (7, .bool)] [] [] s'' rec) (blkK 0 (fun s' => denC E D W N (.keep [(0, .ptr), (1, .ptr)] [] [] C114_1) s' (Fin114 E) (fun _ _ => none) (Fin114 E)) (fun _ _ => none)) (Fin114 E)) n) v0b v0o v1b v1o v2 v7 σ).trans ?_
    simp only [ihn, JE114_1]
    kernel_rfl
def J114_0 (E : List (Nat × Blk)) (D : Den) (W : DrawFn) (N : Nat) : Nat → Nat → Nat → Nat → Int → H → Ans := T114_0 E D W (L114_2 E D W N N)
theorem JE114_0 (E : List (Nat × Blk)) (D : Den) (W : DrawFn) (N : Nat) (v0b : Nat) (v0o : Nat) (v1b : Nat) (v1o : Nat) (v2 : Int) (σ : H) :
  denC E D W N (C114_0 C114_1 C114_2) ⟨[(0, (V.ptr v0b v0o)), (1, (V.ptr v1b v1o)), (2, (V.int .i64 v2))], [], [], σ⟩ (Fin114 E) (fun _ _ => none) (Fin114 E) = J114_0 E D W N v0b v0o v1b v1o v2 σ := by
  refine (P114_0 E D W N C114_1 C114_2  v0b v0o v1b v1o v2 σ).trans ?_
  simp only [LE114_2]
  kernel_rfl
def F114 (E : List (Nat × Blk)) (D : Den) (W : DrawFn) (N : Nat) (args : List V) (σ : H) : Ans :=
 rtCons args fun x1 l2 =>
 rtPtr x1 fun b3 o4 =>
 rtCons l2 fun x5 l6 =>
 rtPtr x5 fun b7 o8 =>
 rtCons l6 fun x9 l10 =>
 rtInt .i64 x9 fun x11 =>
 rtNil l10 (
 J114_0 E D W N b3 o4 b7 o8 x11 σ)
def A114 : XFn := ⟨62, [.ptr, .ptr, (.int .i64)], [(.tmp 6)], (C114_0 C114_1 C114_2)⟩
theorem FE114 (E : List (Nat × Blk)) (D : Den) (W : DrawFn) (N : Nat) (args : List V) (σ : H) : runX E D W N A114 args σ = F114 E D W N args σ := by
  unfold F114
  simp only [← JE114_0]
  kernel_rfl
theorem AO114 : A114.body.ok = true := by kernel_rfl

def C115_0 : XC := (.seq (.ops (.op (some 6) .any [] (.mov (.con (V.bool false))) <|
 .nil))
 (.seq (.seq (.ops (.op (some 8) .any [0] (.mov (.tmp 0)) <|
 .op (some 9) .any [8] (.nilck (.tmp 8)) <|
 .op (some 10) .any [9] (.faddr 0 (.tmp 9)) <|
 .op (some 11) .bool [10] (.call 64 [(.tmp 10), (.con (V.str ⟨1, 123⟩))]) <|
 .nil))
 (.cond (.tmp 11) (.seq (.ops (.op (some 12) .any [1] (.mov (.tmp 1)) <|
 .op (some 13) .any [12] (.nilck (.tmp 12)) <|
 .op (some 14) .any [13] (.faddr 0 (.tmp 13)) <|
 .op none .any [14] (.store 1 (.tmp 14) (.con (V.int .i64 (Int.ofNat 7)))) <|
 .nil))
 (.seq (.ops (.op (some 15) .any [0] (.mov (.tmp 0)) <|
 .op (some 16) .any [1] (.mov (.tmp 1)) <|
 .op (some 17) .any [2] (.mov (.tmp 2)) <|
 .op (some 18) .bool [15, 16, 17] (.call 114 [(.tmp 15), (.tmp 16), (.tmp 17)]) <|
 .op (some 6) .any [18] (.mov (.tmp 18)) <|
 .nil))
 .ret))
 .skip))
 (.seq (.ops (.op (some 19) .any [1] (.mov (.tmp 1)) <|
 .op (some 20) .any [19] (.nilck (.tmp 19)) <|
 .op (some 21) .any [20] (.faddr 0 (.tmp 20)) <|
 .op none .any [21] (.store 1 (.tmp 21) (.con (V.int .i64 (Int.ofNat 10)))) <|
 .nil))
 (.seq (.seq (.ops (.op (some 22) .any [0] (.mov (.tmp 0)) <|
 .op (some 23) .any [1] (.mov (.tmp 1)) <|
 .op (some 24) .any [23] (.nilck (.tmp 23)) <|
 .op (some 25) .any [24] (.faddr 5 (.tmp 24)) <|
 .op (some 26) .bool [22, 25] (.call 111 [(.tmp 22), (.tmp 25)]) <|
 .op (some 27) .any [26] (.un .not (.tmp 26)) <|
 .op (some 28) .any [27] (.mov (.tmp 27)) <|
 .grp 28 false (.op (some 29) .any [0, 28] (.mov (.tmp 0)) <|
 .op (some 30) .any [28] (.buildSlice 9 1 [(V.str ⟨0, 0⟩)] [(0, 1, (.con (V.str ⟨2, 17999⟩)))]) <|
 .op (some 31) .bool [29, 30, 28] (.call 63 [(.tmp 29), (.tmp 30)]) <|
 .op (some 32) .any [31, 28] (.un .not (.tmp 31)) <|
 .nil) 33 [28, 32] (.tmp 28) (.con (V.bool true)) (.tmp 32) <|
 .nil))
 (.cond (.tmp 33) (.seq (.ops (.op (some 6) .any [] (.mov (.con (V.bool false))) <|
 .nil))
 .ret)
 .skip))
 (.seq (.ops (.op (some 7) .any [] (.mov (.con (V.bool false))) <|
 .nil))
 (.seq (.ops (.op (some 35) .any [1] (.mov (.tmp 1)) <|
 .op (some 36) .any [0] (.mov (.tmp 0)) <|
 .op (some 37) .any [2] (.mov (.tmp 2)) <|
 .op (some 38) .any [37] (.bin .add .none (.tmp 37) (.con (V.int .i64 (Int.ofNat 1)))) <|
 .op (some 39) (.tup [(.int .i64), .bool]) [36, 38] (.call 88 [(.tmp 36), (.tmp 38)]) <|
 .op (some 34) .any [39] (.mov (.tmp 39)) <|
 .op (some 40) .any [34] (.extract 0 (.tmp 34)) <|
 .op (some 41) .any [34] (.extract 1 (.tmp 34)) <|
 .op (some 42) .any [35] (.nilck (.tmp 35)) <|
 .op (some 43) .any [42] (.faddr 15 (.tmp 42)) <|
 .op none .any [43, 40] (.store 1 (.tmp 43) (.tmp 40)) <|
 .op (some 7) .any [41] (.mov (.tmp 41)) <|
 .nil))
 (.seq (.ops (.op (some 44) .any [7] (.mov (.tmp 7)) <|
 .op (some 6) .any [44] (.mov (.tmp 44)) <|
 .nil))
 .ret)))))))
def A115 : XFn := ⟨45, [.ptr, .ptr, (.int .i64)], [(.tmp 6)], C115_0⟩
/-! ### F129: __ogham_syntax.parser_.additions -/
def Fin129 (E : List (Nat × Blk)) : St → Ans := fun s => resK E s [(.tmp 6)] fun l => some (oneV l, s.σ)
def C129_0 (cc1 : XC) (cc2 : XC) : XC := (.seq (.ops (.op (some 6) .any [] (.mov (.con (V.bool false))) <|
 .nil))
 (.seq (.ops (.op (some 7) .any [] (.mov (.con (V.int .i64 (Int.ofNat 0)))) <|
 .nil))
 (.seq (.block 0 (.loop [(0, .ptr), (1, .any), (2, (.int .i64)), (7, (.int .i64))] [] [] cc2))
 (.keep [] [] [] cc1))))
def T129_0 (E : List (Nat × Blk)) (D : Den) (W : DrawFn) (K2 : Nat → Nat → V → Int → Int → H → Ans) (v0b : Nat) (v0o : Nat) (v1 : V) (v2 : Int) (σ : H) : Ans :=
 K2 v0b v0o v1 v2 (Int.ofNat 0) σ
def C129_1 : XC := (.seq (.ops (.op (some 6) .any [] (.mov (.con (V.bool true))) <|
 .nil))
 .ret)
def T129_1 (E : List (Nat × Blk)) (D : Den) (W : DrawFn) (σ : H) : Ans :=
 some ((V.bool true), σ)
def C129_2 (cc3 : XC) : XC := (.seq (.seq (.ops (.op (some 9) .any [0] (.mov (.tmp 0)) <|
 .op (some 10) .any [9] (.nilck (.tmp 9)) <|
 .op (some 11) .any [10] (.faddr 0 (.tmp 10)) <|
 .op (some 12) .bool [11] (.call 87 [(.tmp 11), (.con (V.str ⟨1, 44⟩))]) <|
 .nil))
 (.cond (.tmp 12) .skip
 (.exit 0)))
 (.block 1 (.seq (.ops (.op (some 8) .any [] (.mov (.con (V.bool false))) <|
 .nil))
 (.seq (.seq (.ops (.op (some 13) .any [0] (.mov (.tmp 0)) <|
 .op (some 14) .any [13] (.nilck (.tmp 13)) <|
 .op (some 15) .any [14] (.faddr 0 (.tmp 14)) <|
 .op (some 16) .bool [15] (.call 87 [(.tmp 15), (.con (V.str ⟨2, 23387⟩))]) <|
 .nil))
 (.cond (.tmp 16) (.seq (.ops (.op (some 17) .any [7] (.mov (.tmp 7)) <|
 .op (some 18) .any [17] (.bin .add .none (.tmp 17) (.con (V.int .i64 (Int.ofNat 1)))) <|
 .op (some 7) .any [18] (.mov (.tmp 18)) <|
 .nil))
 (.ops (.op (some 19) .any [0] (.mov (.tmp 0)) <|
 .op (some 20) .any [1] (.mov (.tmp 1)) <|
 .op (some 21) .any [7] (.mov (.tmp 7)) <|
 .op (some 22) .any [2] (.mov (.tmp 2)) <|
 .op (some 23) .bool [19, 20, 21, 22] (.call 144 [(.tmp 19), (.tmp 20), (.tmp 21), (.tmp 22)]) <|
 .op (some 8) .any [23] (.mov (.tmp 23)) <|
 .nil)))
 (.ops (.op (some 24) .any [0] (.mov (.tmp 0)) <|
 .op (some 25) .any [1] (.mov (.tmp 1)) <|
 .op (some 26) .any [2] (.mov (.tmp 2)) <|
 .op (some 27) .bool [24, 25, 26] (.call 130 [(.tmp 24), (.tmp 25), (.con (V.int .i64 (Int.ofNat 0))), (.tmp 26)]) <|
 .op (some 8) .any [27] (.mov (.tmp 27)) <|
 .nil))))
 (.keep [(0, .ptr), (1, .any), (2, (.int .i64)), (7, (.int .i64)), (8, .bool)] [] [] cc3)))))
def T129_2 (E : List (Nat × Blk)) (D : Den) (W : DrawFn) (K1 : H → Ans) (K3 : Nat → Nat → V → Int → Int → Bool → H → Ans) (v0b : Nat) (v0o : Nat) (v1 : V) (v2 : Int) (v7 : Int) (σ : H) : Ans :=
 callK (D 87 [(V.ptr v0b v0o), (V.str (BS.mk 1 44))] σ) fun u1 s2 =>
 rtBool u1 fun x3 =>
 condK x3 (
 callK (D 87 [(V.ptr v0b v0o), (V.str (BS.mk 2 23387))] s2) fun u4 s5 =>
 rtBool u4 fun x6 =>
 condK x6 (
 callK (D 144 [(V.ptr v0b v0o), v1, (V.int .i64 (addF .i64 v7 (Int.ofNat 1))), (V.int .i64 v2)] s5) fun u7 s8 =>
 rtBool u7 fun x9 =>
 K3 v0b v0o v1 v2 (addF .i64 v7 (Int.ofNat 1)) x9 s8) (
 callK (D 130 [(V.ptr v0b v0o), v1, (V.int .i64 (Int.ofNat 0)), (V.int .i64 v2)] s5) fun u10 s11 =>
 rtBool u10 fun x12 =>
 K3 v0b v0o v1 v2 v7 x12 s11)) (
 K1 s2)
def C129_3 : XC := (.seq (.ops (.op (some 28) .any [8] (.mov (.tmp 8)) <|
 .op (some 29) .any [28] (.un .not (.tmp 28)) <|
 .nil))
 (.cond (.tmp 29) (.seq (.ops (.op (some 6) .any [] (.mov (.con (V.bool false))) <|
 .nil))
 .ret)
 .skip))
def T129_3 (E : List (Nat × Blk)) (D : Den) (W : DrawFn) (R2 : Nat → Nat → V → Int → Int → H → Ans) (v0b : Nat) (v0o : Nat) (v1 : V) (v2 : Int) (v7 : Int) (v8 : Bool) (σ : H) : Ans :=
 condK (not v8) (
 some ((V.bool false), σ)) (
 R2 v0b v0o v1 v2 v7 σ)
theorem P129_0 (E : List (Nat × Blk)) (D : Den) (W : DrawFn) (N : Nat) (cc1 : XC) (cc2 : XC) (v0b : Nat) (v0o : Nat) (v1 : V) (v2 : Int) (σ : H) :
  denC E D W N (C129_0 cc1 cc2) ⟨[(0, (V.ptr v0b v0o)), (1, v1), (2, (V.int .i64 v2))], [], [], σ⟩ (Fin129 E) (fun _ _ => none) (Fin129 E) =
  T129_0 E D W (fun v0b v0o v1 v2 v7 σ => iterK (fun rec s' => denC E D W N cc2 s' (fun s'' => keepS [(0, .ptr), (1, .any), (2, (.int .i64)), (7, (.int .i64))] [] [] s'' rec) (blkK 0 (fun s' => denC E D W N (.keep [] [] [] cc1) s' (Fin129 E) (fun _ _ => none) (Fin129 E)) (fun _ _ => none)) (Fin129 E)) N ⟨[(0, (V.ptr v0b v0o)), (1, v1), (2, (V.int .i64 v2)), (7, (V.int .i64 v7))], [], [], σ⟩) v0b v0o v1 v2 σ := by kernel_rfl
theorem P129_1 (E : List (Nat × Blk)) (D : Den) (W : DrawFn) (N : Nat) (σ : H) :
  denC E D W N (C129_1 ) ⟨[], [], [], σ⟩ (Fin129 E) (fun _ _ => none) (Fin129 E) =
  T129_1 E D W   σ := by kernel_rfl
theorem P129_2 (E : List (Nat × Blk)) (D : Den) (W : DrawFn) (N : Nat) (cc1 : XC) (cc3 : XC) (li2 : St → Ans) (v0b : Nat) (v0o : Nat) (v1 : V) (v2 : Int) (v7 : Int) (σ : H) :
  denC E D W N (C129_2 cc3) ⟨[(0, (V.ptr v0b v0o)), (1, v1), (2, (V.int .i64 v2)), (7, (V.int .i64 v7))], [], [], σ⟩ (fun s'' => keepS [(0, .ptr), (1, .any), (2, (.int .i64)), (7, (.int .i64))] [] [] s'' li2) (blkK 0 (fun s' => denC E D W N (.keep [] [] [] cc1) s' (Fin129 E) (fun _ _ => none) (Fin129 E)) (fun _ _ => none)) (Fin129 E) =
  T129_2 E D W (fun  σ => denC E D W N cc1 ⟨[], [], [], σ⟩ (Fin129 E) (fun _ _ => none) (Fin129 E)) (fun v0b v0o v1 v2 v7 v8 σ => denC E D W N cc3 ⟨[(0, (V.ptr v0b v0o)), (1, v1), (2, (V.int .i64 v2)), (7, (V.int .i64 v7)), (8, (V.bool v8))], [], [], σ⟩ (fun s'' => keepS [(0, .ptr), (1, .any), (2, (.int .i64)), (7, (.int .i64))] [] [] s'' li2) (blkK 1 (fun s'' => keepS [(0, .ptr), (1, .any), (2, (.int .i64)), (7, (.int .i64))] [] [] s'' li2) (blkK 0 (fun s' => denC E D W N (.keep [] [] [] cc1) s' (Fin129 E) (fun _ _ => none) (Fin129 E)) (fun _ _ => none))) (Fin129 E)) v0b v0o v1 v2 v7 σ := by kernel_rfl
theorem P129_3 (E : List (Nat × Blk)) (D : Den) (W : DrawFn) (N : Nat) (cc1 : XC) (li2 : St → Ans) (v0b : Nat) (v0o : Nat) (v1 : V) (v2 : Int) (v7 : Int) (v8 : Bool) (σ : H) :
  denC E D W N (C129_3 ) ⟨[(0, (V.ptr v0b v0o)), (1, v1), (2, (V.int .i64 v2)), (7, (V.int .i64 v7)), (8, (V.bool v8))], [], [], σ⟩ (fun s'' => keepS [(0, .ptr), (1, .any), (2, (.int .i64)), (7, (.int .i64))] [] [] s'' li2) (blkK 1 (fun s'' => keepS [(0, .ptr), (1, .any), (2, (.int .i64)), (7, (.int .i64))] [] [] s'' li2) (blkK 0 (fun s' => denC E D W N (.keep [] [] [] cc1) s' (Fin129 E) (fun _ _ => none) (Fin129 E)) (fun _ _ => none))) (Fin129 E) =
  T129_3 E D W (fun v0b v0o v1 v2 v7 σ => li2 ⟨[(0, (V.ptr v0b v0o)), (1, v1), (2, (V.int .i64 v2)), (7, (V.int .i64 v7))], [], [], σ⟩) v0b v0o v1 v2 v7 v8 σ := by kernel_rfl
def J129_1 (E : List (Nat × Blk)) (D : Den) (W : DrawFn) (N : Nat) : H → Ans := T129_1 E D W 
theorem JE129_1 (E : List (Nat × Blk)) (D : Den) (W : DrawFn) (N : Nat) (σ : H) :
  denC E D W N C129_1 ⟨[], [], [], σ⟩ (Fin129 E) (fun _ _ => none) (Fin129 E) = J129_1 E D W N  σ := by
  refine (P129_1 E D W N    σ).trans ?_
  kernel_rfl
def J129_3 (E : List (Nat × Blk)) (D : Den) (W : DrawFn) (N : Nat) (R2 : Nat → Nat → V → Int → Int → H → Ans) : Nat → Nat → V → Int → Int → Bool → H → Ans := T129_3 E D W R2
theorem JE129_3 (E : List (Nat × Blk)) (D : Den) (W : DrawFn) (N : Nat) (li2 : St → Ans) (v0b : Nat) (v0o : Nat) (v1 : V) (v2 : Int) (v7 : Int) (v8 : Bool) (σ : H) :
  denC E D W N C129_3 ⟨[(0, (V.ptr v0b v0o)), (1, v1), (2, (V.int .i64 v2)), (7, (V.int .i64 v7)), (8, (V.bool v8))], [], [], σ⟩ (fun s'' => keepS [(0, .ptr), (1, .any), (2, (.int .i64)), (7, (.int .i64))] [] [] s'' li2) (blkK 1 (fun s'' => keepS [(0, .ptr), (1, .any), (2, (.int .i64)), (7, (.int .i64))] [] [] s'' li2) (blkK 0 (fun s' => denC E D W N (.keep [] [] [] C129_1) s' (Fin129 E) (fun _ _ => none) (Fin129 E)) (fun _ _ => none))) (Fin129 E) = J129_3 E D W N (fun v0b v0o v1 v2 v7 σ => li2 ⟨[(0, (V.ptr v0b v0o)), (1, v1), (2, (V.int .i64 v2)), (7, (V.int .i64 v7))], [], [], σ⟩) v0b v0o v1 v2 v7 v8 σ := by
  refine (P129_3 E D W N C129_1 li2 v0b v0o v1 v2 v7 v8 σ).trans ?_
  kernel_rfl
def L129_2 (E : List (Nat × Blk)) (D : Den) (W : DrawFn) (N : Nat) (n : Nat) : Nat → Nat → V → Int → Int → H → Ans :=
  Nat.rec (fun _ _ _ _ _ _ => none) (fun _ ih => T129_2 E D W (J129_1 E D W N ) (J129_3 E D W N ih)) n
theorem LE129_2 (E : List (Nat × Blk)) (D : Den) (W : DrawFn) (N : Nat) (n : Nat) : ∀ (v0b : Nat) (v0o : Nat) (v1 : V) (v2 : Int) (v7 : Int) (σ : H),
  iterK (fun rec s' => denC E D W N (C129_2 C129_3) s' (fun s'' => keepS [(0, .ptr), (1, .any), (2, (.int .i64)), (7, (.int .i64))] [] [] s'' rec) (blkK 0 (fun s' => denC E D W N (.keep [] [] [] C129_1) s' (Fin129 E) (fun _ _ => none) (Fin129 E)) (fun _ _ => none)) (Fin129 E)) n ⟨[(0, (V.ptr v0b v0o)), (1, v1), (2, (V.int .i64 v2)), (7, (V.int .i64 v7))], [], [], σ⟩ = L129_2 E D W N n v0b v0o v1 v2 v7 σ := by
  induction n with
  | zero => intro v0b v0o v1 v2 v7 σ; rfl
  | succ n ihn =>
    intro v0b v0o v1 v2 v7 σ
    rw [iterK_succ]
    refine (P129_2 E D W N C129_1 C129_3 (iterK (fun rec s' => denC E D W N (C129_2 C129_3) s' (fun s'' => keepS [(0, .ptr), (1, .any), (2, (.int .i64)), (7, (.int .i64))] [] [] s'' rec) (blkK 0 (fun s' => denC E D W N (.keep [] [] [] C129_1) s' (Fin129 E) (fun _ _ => none) (Fin129 E)) (fun _ _ => none)) (Fin129 E)) n) v0b v0o v1 v2 v7 σ).trans ?_
    simp only [ihn, JE129_1, JE129_3]
    kernel_rfl
def J129_0 (E : List (Nat × Blk)) (D : Den) (W : DrawFn) (N : Nat) : Nat → Nat → V → Int → H → Ans := T129_0 E D W (L129_2 E D W N N)
theorem JE129_0 (E : List (Nat × Blk)) (D : Den) (W : DrawFn) (N : Nat) (v0b : Nat) (v0o : Nat) (v1 : V) (v2 : Int) (σ : H) :
  denC E D W N (C129_0 C129_1 (C129_2 C129_3)) ⟨[(0, (V.ptr v0b v0o)), (1, v1), (2, (V.int .i64 v2))], [], [], σ⟩ (Fin129 E) (fun _ _ => none) (Fin129 E) = J129_0 E D W N v0b v0o v1 v2 σ := by
  refine (P129_0 E D W N C129_1 (C129_2 C129_3)  v0b v0o v1 v2 σ).trans ?_
  simp only [LE129_2]
  kernel_rfl
def F129 (E : List (Nat × Blk)) (D : Den) (W : DrawFn) (N : Nat) (args : List V) (σ : H) : Ans :=
 rtCons args fun x1 l2 =>
 rtPtr x1 fun b3 o4 =>
 rtCons l2 fun x5 l6 =>
 rtCons l6 fun x7 l8 =>
 rtInt .i64 x7 fun x9 =>
 rtNil l8 (
 J129_0 E D W N b3 o4 x5 x9 σ)
def A129 : XFn := ⟨30, [.ptr, .any, (.int .i64)], [(.tmp 6)], (C129_0 C129_1 (C129_2 C129_3))⟩
theorem FE129 (E : List (Nat × Blk)) (D : Den) (W : DrawFn) (N : Nat) (args : List V) (σ : H) : runX E D W N A129 args σ = F129 E D W N args σ := by
  unfold F129
  simp only [← JE129_0]
  kernel_rfl
theorem AO129 : A129.body.ok = true := by kernel_rfl

/-! ### F130: __ogham_syntax.parser_.field -/
def G130_0 : List AOper := [⟨(some 57), .mov (.tmp 1), none⟩, ⟨(some 58), .mov (.tmp 1), none⟩, ⟨(some 59), .nilck (.tmp 58), none⟩, ⟨(some 60), .faddr 12 (.tmp 59), none⟩, ⟨(some 61), .load none (.tmp 60), none⟩, ⟨(some 62), .load (some 11) (.tmp 11), none⟩, ⟨(some 63), .buildSlice 100 1 [(V.str ⟨0, 0⟩), (V.int .i64 (Int.ofNat 0)), (V.bool false), (V.bool false), (V.int .i64 (Int.ofNat 0)), (V.int .i64 (Int.ofNat 0)), V.nils, V.nils, (V.int .i64 (Int.ofNat 0)), V.nils, (V.int .i64 (Int.ofNat 0))] [(0, 11, (.tmp 62))], none⟩, ⟨(some 64), .append 100 11 136 (.tmp 61) (.tmp 63), none⟩, ⟨(some 65), .nilck (.tmp 57), none⟩, ⟨(some 66), .faddr 12 (.tmp 65), none⟩, ⟨none, .store 1 (.tmp 66) (.tmp 64), none⟩]
def H130_0 : List DP := [⟨0, [1]⟩, ⟨0, [1]⟩, ⟨2, [58]⟩, ⟨6, [59]⟩, ⟨14, [60]⟩, ⟨0, [11]⟩, ⟨32, [62]⟩, ⟨126, [61, 63]⟩, ⟨255, [57]⟩, ⟨511, [65]⟩, ⟨1023, [66, 64]⟩]
def Fin130 (E : List (Nat × Blk)) : St → Ans := fun s => resK E s [(.tmp 8)] fun l => some (oneV l, s.σ)
def C130_0 (cc1 : XC) : XC := (.seq (.ops (.op (some 8) .any [] (.mov (.con (V.bool false))) <|
 .nil))
 (.seq (.ops (.op (some 13) .any [0] (.mov (.tmp 0)) <|
 .op (some 14) (.tup [(.agg [(.int .i64), .str, (.int .i64)]), .bool]) [13] (.call 62 [(.tmp 13), (.con (V.int .i64 (Int.ofNat 2)))]) <|
 .op (some 12) .any [14] (.mov (.tmp 14)) <|
 .op (some 15) .any [12] (.extract 0 (.tmp 12)) <|
 .op (some 16) .any [12] (.extract 1 (.tmp 12)) <|
 .pal 9 [] 50 [(V.int .i64 (Int.ofNat 0)), (V.str ⟨0, 0⟩), (V.int .i64 (Int.ofNat 0))] <|
 .op none (.agg [(.int .i64), .str, (.int .i64)]) [9, 15] (.store 3 (.tmp 9) (.tmp 15)) <|
 .op (some 10) .any [16] (.mov (.tmp 16)) <|
 .nil))
 (.seq (.seq (.ops (.op (some 17) .any [10] (.mov (.tmp 10)) <|
 .op (some 18) .any [17] (.un .not (.tmp 17)) <|
 .nil))
 (.cond (.tmp 18) (.seq (.ops (.op (some 8) .any [] (.mov (.con (V.bool false))) <|
 .nil))
 .ret)
 .skip))
 (.seq (.ops (.op (some 19) .any [9] (.faddr 1 (.tmp 9)) <|
 .op (some 20) .str [19] (.load none (.tmp 19)) <|
 .op (some 21) .any [2] (.mov (.tmp 2)) <|
 .op (some 22) (.agg [.str, (.int .i64), .bool, .bool, (.int .i64), (.int .i64), .any, .any, (.int .i64), .any, (.int .i64)]) [20, 21] (.build [(V.str ⟨0, 0⟩), (V.int .i64 (Int.ofNat 0)), (V.bool false), (V.bool false), (V.int .i64 (Int.ofNat 0)), (V.int .i64 (Int.ofNat 0)), V.nils, V.nils, (V.int .i64 (Int.ofNat 0)), V.nils, (V.int .i64 (Int.ofNat 0))] [(0, 1, (.tmp 20)), (10, 1, (.tmp 21))]) <|
 .op (some 11) .any [] (.alloc 100 [(V.str ⟨0, 0⟩), (V.int .i64 (Int.ofNat 0)), (V.bool false), (V.bool false), (V.int .i64 (Int.ofNat 0)), (V.int .i64 (Int.ofNat 0)), V.nils, V.nils, (V.int .i64 (Int.ofNat 0)), V.nils, (V.int .i64 (Int.ofNat 0))]) <|
 .op none (.agg [.str, (.int .i64), .bool, .bool, (.int .i64), (.int .i64), .any, .any, (.int .i64), .any, (.int .i64)]) [11, 22] (.store 11 (.tmp 11) (.tmp 22)) <|
 .nil))
 (.seq (.seq (.ops (.op (some 24) .any [0] (.mov (.tmp 0)) <|
 .op (some 25) .any [3] (.mov (.tmp 3)) <|
 .op (some 26) .any [25] (.bin .add .none (.tmp 25) (.con (V.int .i64 (Int.ofNat 1)))) <|
 .op (some 27) (.tup [(.int .i64), .bool]) [24, 26] (.call 88 [(.tmp 24), (.tmp 26)]) <|
 .op (some 23) .any [27] (.mov (.tmp 27)) <|
 .op (some 28) .any [23] (.extract 0 (.tmp 23)) <|
 .op (some 29) .any [23] (.extract 1 (.tmp 23)) <|
 .op (some 30) .any [11] (.faddr 1 (.tmp 11)) <|
 .op none .any [30, 28] (.store 1 (.tmp 30) (.tmp 28)) <|
 .op (some 10) .any [29] (.mov (.tmp 29)) <|
 .nil))
 (.seq (.ops (.op (some 31) .any [10] (.mov (.tmp 10)) <|
 .op (some 32) .any [31] (.un .not (.tmp 31)) <|
 .nil))
 (.cond (.tmp 32) (.seq (.ops (.op (some 8) .any [] (.mov (.con (V.bool false))) <|
 .nil))
 .ret)
 .skip)))
 (.seq (.block 0 (.seq (.ops (.op (some 34) .any [1] (.mov (.tmp 1)) <|
 .op (some 35) .any [34] (.nilck (.tmp 34)) <|
 .op (some 36) .any [35] (.faddr 0 (.tmp 35)) <|
 .op (some 37) (.int .i64) [36] (.load none (.tmp 36)) <|
 .op (some 38) .any [37] (.bin .eql .none (.tmp 37) (.con (V.int .i64 (Int.ofNat 9)))) <|
 .op (some 33) .any [38] (.mov (.tmp 38)) <|
 .nil))
 (.cond (.tmp 33) .skip
 (.seq (.ops (.op (some 40) .any [0] (.mov (.tmp 0)) <|
 .op (some 41) .any [40] (.nilck (.tmp 40)) <|
 .op (some 42) .any [41] (.faddr 0 (.tmp 41)) <|
 .op (some 43) .bool [42] (.call 87 [(.tmp 42), (.con (V.str ⟨8, 5494759122808361039⟩))]) <|
 .op (some 39) .any [43] (.mov (.tmp 43)) <|
 .nil))
 (.cond (.tmp 39) (.ops (.op (some 44) .any [11] (.faddr 2 (.tmp 11)) <|
 .op none .any [44] (.store 1 (.tmp 44) (.con (V.bool true))) <|
 .nil))
 (.seq (.ops (.op (some 46) .any [0] (.mov (.tmp 0)) <|
 .op (some 47) .any [46] (.nilck (.tmp 46)) <|
 .op (some 48) .any [47] (.faddr 0 (.tmp 47)) <|
 .op (some 49) .bool [48] (.call 87 [(.tmp 48), (.con (V.str ⟨7, 23727827094750532⟩))]) <|
 .op (some 45) .any [49] (.mov (.tmp 49)) <|
 .nil))
 (.cond (.tmp 45) (.seq (.ops (.op (some 50) .any [11] (.faddr 3 (.tmp 11)) <|
 .op none .any [50] (.store 1 (.tmp 50) (.con (V.bool true))) <|
 .nil))
 (.ops (.op (some 52) .any [0] (.mov (.tmp 0)) <|
 .op (some 53) (.tup [(.agg [(.int .i64), (.int .i64), .any, .any, (.int .i64), .any]), .bool]) [52] (.call 145 [(.tmp 52)]) <|
 .op (some 51) .any [53] (.mov (.tmp 53)) <|
 .op (some 54) .any [51] (.extract 0 (.tmp 51)) <|
 .op (some 55) .any [51] (.extract 1 (.tmp 51)) <|
 .op (some 56) .any [11] (.faddr 4 (.tmp 11)) <|
 .op none (.agg [(.int .i64), (.int .i64), .any, .any, (.int .i64), .any]) [56, 54] (.store 6 (.tmp 56) (.tmp 54)) <|
 .op (some 10) .any [55] (.mov (.tmp 55)) <|
 .nil)))
 .skip)))))))
 (.keep [(1, .ptr), (10, .bool), (11, .ptr)] [] [] cc1)))))))
def T130_0 (E : List (Nat × Blk)) (D : Den) (W : DrawFn) (K1 : Nat → Nat → Bool → Nat → Nat → H → Ans) (v0b : Nat) (v0o : Nat) (v1b : Nat) (v1o : Nat) (v2 : Int) (v3 : Int) (σ : H) : Ans :=
 callK (D 62 [(V.ptr v0b v0o), (V.int .i64 (Int.ofNat 2))] σ) fun u1 s2 =>
 rtTup u1 fun l3 =>
 rtCons l3 fun x4 l5 =>
 rtAgg x4 fun l6 =>
 rtCons l6 fun x7 l8 =>
 rtInt .i64 x7 fun x9 =>
 rtCons l8 fun x10 l11 =>
 rtStr x10 fun x12 =>
 rtCons l11 fun x13 l14 =>
 rtInt .i64 x13 fun x15 =>
 rtNil l14 (
 rtCons l5 fun x16 l17 =>
 rtBool x16 fun x18 =>
 rtNil l17 (
 condK (not x18) (
 some ((V.bool false), s2)) (
 let s19 := newB s2 (.cells [(V.str ⟨0, 0⟩), (V.int .i64 (Int.ofNat 0)), (V.bool false), (V.bool false), (V.int .i64 (Int.ofNat 0)), (V.int .i64 (Int.ofNat 0)), V.nils, V.nils, (V.int .i64 (Int.ofNat 0)), V.nils, (V.int .i64 (Int.ofNat 0))]);
 stK 11 (H.next s2) 0 (V.agg [(V.str x12), (V.int .i64 (Int.ofNat 0)), (V.bool false), (V.bool false), (V.int .i64 (Int.ofNat 0)), (V.int .i64 (Int.ofNat 0)), V.nils, V.nils, (V.int .i64 (Int.ofNat 0)), V.nils, (V.int .i64 v2)]) s19 fun s20 =>
 callK (D 88 [(V.ptr v0b v0o), (V.int .i64 (addF .i64 v3 (Int.ofNat 1)))] s20) fun u21 s22 =>
 rtTup u21 fun l23 =>
 rtCons l23 fun x24 l25 =>
 rtInt .i64 x24 fun x26 =>
 rtCons l25 fun x27 l28 =>
 rtBool x27 fun x29 =>
 rtNil l28 (
 stK 1 (H.next s2) 1 (V.int .i64 x26) s22 fun s30 =>
 condK (not x29) (
 some ((V.bool false), s30)) (
 ldK E s30 v1b v1o fun u31 =>
 rtInt .i64 u31 fun x32 =>
 condK (eqF x32 (Int.ofNat 9)) (
 K1 v1b v1o x29 (H.next s2) 0 s30) (
 callK (D 87 [(V.ptr v0b v0o), (V.str (BS.mk 8 5494759122808361039))] s30) fun u33 s34 =>
 rtBool u33 fun x35 =>
 condK x35 (
 stK 1 (H.next s2) 2 (V.bool true) s34 fun s36 =>
 K1 v1b v1o x29 (H.next s2) 0 s36) (
 callK (D 87 [(V.ptr v0b v0o), (V.str (BS.mk 7 23727827094750532))] s34) fun u37 s38 =>
 rtBool u37 fun x39 =>
 condK x39 (
 stK 1 (H.next s2) 3 (V.bool true) s38 fun s40 =>
 callK (D 145 [(V.ptr v0b v0o)] s40) fun u41 s42 =>
 rtTup u41 fun l43 =>
 rtCons l43 fun x44 l45 =>
 rtAgg x44 fun l46 =>
 rtCons l46 fun x47 l48 =>
 rtInt .i64 x47 fun x49 =>
 rtCons l48 fun x50 l51 =>
 rtInt .i64 x50 fun x52 =>
 rtCons l51 fun x53 l54 =>
 rtCons l54 fun x55 l56 =>
 rtCons l56 fun x57 l58 =>
 rtInt .i64 x57 fun x59 =>
 rtCons l58 fun x60 l61 =>
 rtNil l61 (
 rtCons l45 fun x62 l63 =>
 rtBool x62 fun x64 =>
 rtNil l63 (
 stK 6 (H.next s2) 4 (V.agg [(V.int .i64 x49), (V.int .i64 x52), x53, x55, (V.int .i64 x59), x60]) s42 fun s65 =>
 K1 v1b v1o x64 (H.next s2) 0 s65))) (
 K1 v1b v1o x29 (H.next s2) 0 s38))))))))
def C130_1 : XC := (.seq (.keep [(1, .ptr), (10, .bool), (11, .ptr)] [] [] (.gdraw G130_0 H130_0 [(10, .bool)]))
 (.seq (.ops (.op (some 67) .any [10] (.mov (.tmp 10)) <|
 .op (some 8) .any [67] (.mov (.tmp 67)) <|
 .nil))
 .ret))
def T130_1 (E : List (Nat × Blk)) (D : Den) (W : DrawFn) (v1b : Nat) (v1o : Nat) (v10 : Bool) (v11b : Nat) (v11o : Nat) (σ : H) : Ans :=
 gdrawK (W G130_0 H130_0 [(1, (V.ptr v1b v1o)), (10, (V.bool v10)), (11, (V.ptr v11b v11o))] σ) fun e1 s2 =>
 getL e1 10 fun u3 =>
 rtBool u3 fun x4 =>
 some ((V.bool x4), s2)
theorem P130_0 (E : List (Nat × Blk)) (D : Den) (W : DrawFn) (N : Nat) (cc1 : XC) (v0b : Nat) (v0o : Nat) (v1b : Nat) (v1o : Nat) (v2 : Int) (v3 : Int) (σ : H) :
  denC E D W N (C130_0 cc1) ⟨[(0, (V.ptr v0b v0o)), (1, (V.ptr v1b v1o)), (2, (V.int .i64 v2)), (3, (V.int .i64 v3))], [], [], σ⟩ (Fin130 E) (fun _ _ => none) (Fin130 E) =
  T130_0 E D W (fun v1b v1o v10 v11b v11o σ => denC E D W N cc1 ⟨[(1, (V.ptr v1b v1o)), (10, (V.bool v10)), (11, (V.ptr v11b v11o))], [], [], σ⟩ (Fin130 E) (fun _ _ => none) (Fin130 E)) v0b v0o v1b v1o v2 v3 σ := by kernel_rfl
theorem P130_1 (E : List (Nat × Blk)) (D : Den) (W : DrawFn) (N : Nat) (v1b : Nat) (v1o : Nat) (v10 : Bool) (v11b : Nat) (v11o : Nat) (σ : H) :
  denC E D W N (C130_1 ) ⟨[(1, (V.ptr v1b v1o)), (10, (V.bool v10)), (11, (V.ptr v11b v11o))], [], [], σ⟩ (Fin130 E) (fun _ _ => none) (Fin130 E) =
  T130_1 E D W  v1b v1o v10 v11b v11o σ := by kernel_rfl
def J130_1 (E : List (Nat × Blk)) (D : Den) (W : DrawFn) (N : Nat) : Nat → Nat → Bool → Nat → Nat → H → Ans := T130_1 E D W 
theorem JE130_1 (E : List (Nat × Blk)) (D : Den) (W : DrawFn) (N : Nat) (v1b : Nat) (v1o : Nat) (v10 : Bool) (v11b : Nat) (v11o : Nat) (σ : H) :
  denC E D W N C130_1 ⟨[(1, (V.ptr v1b v1o)), (10, (V.bool v10)), (11, (V.ptr v11b v11o))], [], [], σ⟩ (Fin130 E) (fun _ _ => none) (Fin130 E) = J130_1 E D W N v1b v1o v10 v11b v11o σ := by
  refine (P130_1 E D W N   v1b v1o v10 v11b v11o σ).trans ?_
  kernel_rfl
def J130_0 (E : List (Nat × Blk)) (D : Den) (W : DrawFn) (N : Nat) : Nat → Nat → Nat → Nat → Int → Int → H → Ans := T130_0 E D W (J130_1 E D W N )
theorem JE130_0 (E : List (Nat × Blk)) (D : Den) (W : DrawFn) (N : Nat) (v0b : Nat) (v0o : Nat) (v1b : Nat) (v1o : Nat) (v2 : Int) (v3 : Int) (σ : H) :
  denC E D W N (C130_0 C130_1) ⟨[(0, (V.ptr v0b v0o)), (1, (V.ptr v1b v1o)), (2, (V.int .i64 v2)), (3, (V.int .i64 v3))], [], [], σ⟩ (Fin130 E) (fun _ _ => none) (Fin130 E) = J130_0 E D W N v0b v0o v1b v1o v2 v3 σ := by
  refine (P130_0 E D W N C130_1  v0b v0o v1b v1o v2 v3 σ).trans ?_
  simp only [JE130_1]
  kernel_rfl
def F130 (E : List (Nat × Blk)) (D : Den) (W : DrawFn) (N : Nat) (args : List V) (σ : H) : Ans :=
 rtCons args fun x1 l2 =>
 rtPtr x1 fun b3 o4 =>
 rtCons l2 fun x5 l6 =>
 rtPtr x5 fun b7 o8 =>
 rtCons l6 fun x9 l10 =>
 rtInt .i64 x9 fun x11 =>
 rtCons l10 fun x12 l13 =>
 rtInt .i64 x12 fun x14 =>
 rtNil l13 (
 J130_0 E D W N b3 o4 b7 o8 x11 x14 σ)
def A130 : XFn := ⟨68, [.ptr, .ptr, (.int .i64), (.int .i64)], [(.tmp 8)], (C130_0 C130_1)⟩
theorem FE130 (E : List (Nat × Blk)) (D : Den) (W : DrawFn) (N : Nat) (args : List V) (σ : H) : runX E D W N A130 args σ = F130 E D W N args σ := by
  unfold F130
  simp only [← JE130_0]
  kernel_rfl
theorem AO130 : A130.body.ok = true := by kernel_rfl

/-! ### F144: __ogham_syntax.parser_.bracket -/
def Fin144 (E : List (Nat × Blk)) : St → Ans := fun s => resK E s [(.tmp 8)] fun l => some (oneV l, s.σ)
def C144_0 (cc1 : XC) : XC := (.seq (.ops (.op (some 8) .any [] (.mov (.con (V.bool false))) <|
 .nil))
 (.block 0 (.loop [(0, .ptr), (1, .any), (2, (.int .i64)), (3, (.int .i64))] [] [] cc1)))
def T144_0 (E : List (Nat × Blk)) (D : Den) (W : DrawFn) (K1 : Nat → Nat → V → Int → Int → H → Ans) (v0b : Nat) (v0o : Nat) (v1 : V) (v2 : Int) (v3 : Int) (σ : H) : Ans :=
 K1 v0b v0o v1 v2 v3 σ
def C144_1 : XC := (.block 1 (.seq (.seq (.ops (.op (some 9) .any [0] (.mov (.tmp 0)) <|
 .op (some 10) .any [1] (.mov (.tmp 1)) <|
 .op (some 11) .any [2] (.mov (.tmp 2)) <|
 .op (some 12) .any [3] (.mov (.tmp 3)) <|
 .op (some 13) .bool [9, 10, 11, 12] (.call 130 [(.tmp 9), (.tmp 10), (.tmp 11), (.tmp 12)]) <|
 .op (some 14) .any [13] (.un .not (.tmp 13)) <|
 .nil))
 (.cond (.tmp 14) (.seq (.ops (.op (some 8) .any [] (.mov (.con (V.bool false))) <|
 .nil))
 .ret)
 .skip))
 (.seq (.ops (.op (some 15) .any [0] (.mov (.tmp 0)) <|
 .op (some 16) .any [15] (.nilck (.tmp 15)) <|
 .op (some 17) .any [16] (.faddr 0 (.tmp 16)) <|
 .op (some 18) .bool [17] (.call 87 [(.tmp 17), (.con (V.str ⟨1, 44⟩))]) <|
 .op (some 19) .any [18] (.un .not (.tmp 18)) <|
 .nil))
 (.cond (.tmp 19) (.seq (.ops (.op (some 20) .any [0] (.mov (.tmp 0)) <|
 .op (some 21) .any [] (.buildSlice 9 1 [(V.str ⟨0, 0⟩)] [(0, 1, (.con (V.str ⟨2, 23901⟩)))]) <|
 .op (some 22) .bool [20, 21] (.call 63 [(.tmp 20), (.tmp 21)]) <|
 .op (some 8) .any [22] (.mov (.tmp 22)) <|
 .nil))
 .ret)
 .skip))))
def T144_1 (E : List (Nat × Blk)) (D : Den) (W : DrawFn) (R1 : Nat → Nat → V → Int → Int → H → Ans) (v0b : Nat) (v0o : Nat) (v1 : V) (v2 : Int) (v3 : Int) (σ : H) : Ans :=
 callK (D 130 [(V.ptr v0b v0o), v1, (V.int .i64 v2), (V.int .i64 v3)] σ) fun u1 s2 =>
 rtBool u1 fun x3 =>
 condK (not x3) (
 some ((V.bool false), s2)) (
 callK (D 87 [(V.ptr v0b v0o), (V.str (BS.mk 1 44))] s2) fun u4 s5 =>
 rtBool u4 fun x6 =>
 condK (not x6) (
 let s7 := newB s5 (.cells [(V.str (BS.mk 2 23901))]);
 callK (D 63 [(V.ptr v0b v0o), (V.sl (H.next s5) 0 1 (.ex 1))] s7) fun u8 s9 =>
 rtBool u8 fun x10 =>
 some ((V.bool x10), s9)) (
 R1 v0b v0o v1 v2 v3 s5))
theorem P144_0 (E : List (Nat × Blk)) (D : Den) (W : DrawFn) (N : Nat) (cc1 : XC) (v0b : Nat) (v0o : Nat) (v1 : V) (v2 : Int) (v3 : Int) (σ : H) :
  denC E D W N (C144_0 cc1) ⟨[(0, (V.ptr v0b v0o)), (1, v1), (2, (V.int .i64 v2)), (3, (V.int .i64 v3))], [], [], σ⟩ (Fin144 E) (fun _ _ => none) (Fin144 E) =
  T144_0 E D W (fun v0b v0o v1 v2 v3 σ => iterK (fun rec s' => denC E D W N cc1 s' (fun s'' => keepS [(0, .ptr), (1, .any), (2, (.int .i64)), (3, (.int .i64))] [] [] s'' rec) (blkK 0 (Fin144 E) (fun _ _ => none)) (Fin144 E)) N ⟨[(0, (V.ptr v0b v0o)), (1, v1), (2, (V.int .i64 v2)), (3, (V.int .i64 v3))], [], [], σ⟩) v0b v0o v1 v2 v3 σ := by kernel_rfl
theorem P144_1 (E : List (Nat × Blk)) (D : Den) (W : DrawFn) (N : Nat) (li1 : St → Ans) (v0b : Nat) (v0o : Nat) (v1 : V) (v2 : Int) (v3 : Int) (σ : H) :
  denC E D W N (C144_1 ) ⟨[(0, (V.ptr v0b v0o)), (1, v1), (2, (V.int .i64 v2)), (3, (V.int .i64 v3))], [], [], σ⟩ (fun s'' => keepS [(0, .ptr), (1, .any), (2, (.int .i64)), (3, (.int .i64))] [] [] s'' li1) (blkK 0 (Fin144 E) (fun _ _ => none)) (Fin144 E) =
  T144_1 E D W (fun v0b v0o v1 v2 v3 σ => li1 ⟨[(0, (V.ptr v0b v0o)), (1, v1), (2, (V.int .i64 v2)), (3, (V.int .i64 v3))], [], [], σ⟩) v0b v0o v1 v2 v3 σ := by kernel_rfl
def L144_1 (E : List (Nat × Blk)) (D : Den) (W : DrawFn) (N : Nat) (n : Nat) : Nat → Nat → V → Int → Int → H → Ans :=
  Nat.rec (fun _ _ _ _ _ _ => none) (fun _ ih => T144_1 E D W ih) n
theorem LE144_1 (E : List (Nat × Blk)) (D : Den) (W : DrawFn) (N : Nat) (n : Nat) : ∀ (v0b : Nat) (v0o : Nat) (v1 : V) (v2 : Int) (v3 : Int) (σ : H),
  iterK (fun rec s' => denC E D W N C144_1 s' (fun s'' => keepS [(0, .ptr), (1, .any), (2, (.int .i64)), (3, (.int .i64))] [] [] s'' rec) (blkK 0 (Fin144 E) (fun _ _ => none)) (Fin144 E)) n ⟨[(0, (V.ptr v0b v0o)), (1, v1), (2, (V.int .i64 v2)), (3, (V.int .i64 v3))], [], [], σ⟩ = L144_1 E D W N n v0b v0o v1 v2 v3 σ := by
  induction n with
  | zero => intro v0b v0o v1 v2 v3 σ; rfl
  | succ n ihn =>
    intro v0b v0o v1 v2 v3 σ
    rw [iterK_succ]
    refine (P144_1 E D W N  (iterK (fun rec s' => denC E D W N C144_1 s' (fun s'' => keepS [(0, .ptr), (1, .any), (2, (.int .i64)), (3, (.int .i64))] [] [] s'' rec) (blkK 0 (Fin144 E) (fun _ _ => none)) (Fin144 E)) n) v0b v0o v1 v2 v3 σ).trans ?_
    simp only [ihn]
    kernel_rfl
def J144_0 (E : List (Nat × Blk)) (D : Den) (W : DrawFn) (N : Nat) : Nat → Nat → V → Int → Int → H → Ans := T144_0 E D W (L144_1 E D W N N)
theorem JE144_0 (E : List (Nat × Blk)) (D : Den) (W : DrawFn) (N : Nat) (v0b : Nat) (v0o : Nat) (v1 : V) (v2 : Int) (v3 : Int) (σ : H) :
  denC E D W N (C144_0 C144_1) ⟨[(0, (V.ptr v0b v0o)), (1, v1), (2, (V.int .i64 v2)), (3, (V.int .i64 v3))], [], [], σ⟩ (Fin144 E) (fun _ _ => none) (Fin144 E) = J144_0 E D W N v0b v0o v1 v2 v3 σ := by
  refine (P144_0 E D W N C144_1  v0b v0o v1 v2 v3 σ).trans ?_
  simp only [LE144_1]
  kernel_rfl
def F144 (E : List (Nat × Blk)) (D : Den) (W : DrawFn) (N : Nat) (args : List V) (σ : H) : Ans :=
 rtCons args fun x1 l2 =>
 rtPtr x1 fun b3 o4 =>
 rtCons l2 fun x5 l6 =>
 rtCons l6 fun x7 l8 =>
 rtInt .i64 x7 fun x9 =>
 rtCons l8 fun x10 l11 =>
 rtInt .i64 x10 fun x12 =>
 rtNil l11 (
 J144_0 E D W N b3 o4 x5 x9 x12 σ)
def A144 : XFn := ⟨23, [.ptr, .any, (.int .i64), (.int .i64)], [(.tmp 8)], (C144_0 C144_1)⟩
theorem FE144 (E : List (Nat × Blk)) (D : Den) (W : DrawFn) (N : Nat) (args : List V) (σ : H) : runX E D W N A144 args σ = F144 E D W N args σ := by
  unfold F144
  simp only [← JE144_0]
  kernel_rfl
theorem AO144 : A144.body.ok = true := by kernel_rfl

end
end Go.Proofs.YtpcnmmbpgeahfaaGreatDoor
