/- What the last text leans on, part 5 of 6: merged out of smaller texts. No condition. -/
import Derived.KernelRfl
import Derived.Test.YtdfgcokapncaiaaGreatDoorProg
import Derived.Test.YtdfgcokapncaiaaGreatDoorQ3
set_option linter.all false
set_option maxRecDepth 100000
set_option maxHeartbeats 0
namespace Go.Proofs.YtdfgcokapncaiaaGreatDoor
open Go Go.Og
noncomputable section
variable (E : List (Nat × Blk)) (D : Den) (W : DrawFn) (N : Nat)
/-! ### F72: __ogham_lex.lexer_.sign -/
def Fin72 (E : List (Nat × Blk)) : St → Ans := fun s => resK E s [(.tmp 2), (.tmp 3)] fun l => some (oneV l, s.σ)
def C72_0 (cc1 : XC) (cc2 : XC) : XC := (.seq (.ops (.p 2 [] (.mov (.i 0)) <|
 .p 3 [] (.mov (.con (V.str ⟨0, 0⟩))) <|
 .nil))
 (.seq (.seq (.ops (.p 6 [] (.buildSlice 9 13 [(V.str ⟨0, 0⟩), (V.str ⟨0, 0⟩), (V.str ⟨0, 0⟩), (V.str ⟨0, 0⟩), (V.str ⟨0, 0⟩), (V.str ⟨0, 0⟩), (V.str ⟨0, 0⟩), (V.str ⟨0, 0⟩), (V.str ⟨0, 0⟩), (V.str ⟨0, 0⟩), (V.str ⟨0, 0⟩), (V.str ⟨0, 0⟩), (V.str ⟨0, 0⟩)] [(0, 1, (.con (V.str ⟨3, 4012602⟩))), (1, 1, (.con (V.str ⟨3, 3026478⟩))), (2, 1, (.con (V.str ⟨2, 11822⟩))), (3, 1, (.con (V.str ⟨2, 23387⟩))), (4, 1, (.con (V.str ⟨2, 23901⟩))), (5, 1, (.con (V.str ⟨1, 123⟩))), (6, 1, (.con (V.str ⟨1, 125⟩))), (7, 1, (.con (V.str ⟨1, 91⟩))), (8, 1, (.con (V.str ⟨1, 93⟩))), (9, 1, (.con (V.str ⟨1, 40⟩))), (10, 1, (.con (V.str ⟨1, 41⟩))), (11, 1, (.con (V.str ⟨1, 44⟩))), (12, 1, (.con (V.str ⟨1, 58⟩)))]) <|
 .p 7 [6] (.len false (.t 6)) <|
 .p 8 [] (.mov (.i 0)) <|
 .nil))
 (.block 0 (.loop [(0, .ptr), (6, .any), (7, .i), (8, .i)] [] [] cc2)))
 (.keep [] [] [] cc1)))
def T72_0 (E : List (Nat × Blk)) (D : Den) (W : DrawFn) (K2 : Nat → Nat → V → Int → Int → H → Ans) (v0b : Nat) (v0o : Nat) (σ : H) : Ans :=
 let s1 := newB σ (.cells [(V.str (BS.mk 3 4012602)), (V.str (BS.mk 3 3026478)), (V.str (BS.mk 2 11822)), (V.str (BS.mk 2 23387)), (V.str (BS.mk 2 23901)), (V.str (BS.mk 1 123)), (V.str (BS.mk 1 125)), (V.str (BS.mk 1 91)), (V.str (BS.mk 1 93)), (V.str (BS.mk 1 40)), (V.str (BS.mk 1 41)), (V.str (BS.mk 1 44)), (V.str (BS.mk 1 58))]);
 slenK (V.sl (H.next σ) 0 13 (.ex 13)) fun n2 =>
 K2 v0b v0o (V.sl (H.next σ) 0 13 (.ex 13)) (Int.ofNat n2) (Int.ofNat 0) s1
def C72_1 : XC := (.seq (.ops (.p 2 [] (.mov (.i 0)) <|
 .p 3 [] (.mov (.con (V.str ⟨0, 0⟩))) <|
 .nil))
 .ret)
def T72_1 (E : List (Nat × Blk)) (D : Den) (W : DrawFn) (σ : H) : Ans :=
 some ((V.tup [(V.int .i64 (Int.ofNat 0)), (V.str (BS.mk 0 0))]), σ)
def C72_2 : XC := (.seq (.ops (.p 9 [8, 7] (.bin .lss .none (.t 8) (.t 7)) <|
 .nil))
 (.seq (.cond (.tmp 9) .skip
 (.exit 0))
 (.seq (.block 1 (.seq (.ops (.p 10 [6, 8] (.iaddrS 1 (.t 6) (.t 8)) <|
 .op (some 11) .str [10] (.load none (.t 10)) <|
 .m 5 11 <|
 .nil))
 (.seq (.ops (.m 12 0 <|
 .p 13 [12] (.nilck (.t 12)) <|
 .p 14 [13] (.faddr 0 (.t 13)) <|
 .m 15 5 <|
 .op (some 16) .bool [14, 15] (.call 65 [(.t 14), (.t 15)]) <|
 .nil))
 (.cond (.tmp 16) (.seq (.ops (.m 17 0 <|
 .p 18 [17] (.nilck (.t 17)) <|
 .p 19 [18] (.faddr 0 (.t 18)) <|
 .p 20 [19] (.faddr 1 (.t 19)) <|
 .op (some 21) .i [20] (.load none (.t 20)) <|
 .m 22 5 <|
 .p 23 [22] (.len true (.t 22)) <|
 .p 24 [21, 23] (.bin .add .none (.t 21) (.t 23)) <|
 .p 25 [17] (.nilck (.t 17)) <|
 .p 26 [25] (.faddr 0 (.t 25)) <|
 .p 27 [26] (.faddr 1 (.t 26)) <|
 .op none .any [27, 24] (.store 1 (.t 27) (.t 24)) <|
 .nil))
 (.seq (.ops (.m 28 5 <|
 .p 2 [] (.mov (.i 6)) <|
 .m 3 28 <|
 .nil))
 .ret))
 .skip))))
 (.ops (.p 29 [8] (.bin .add .none (.t 8) (.i 1)) <|
 .m 8 29 <|
 .nil)))))
def T72_2 (E : List (Nat × Blk)) (D : Den) (W : DrawFn) (K1 : H → Ans) (R2 : Nat → Nat → V → Int → Int → H → Ans) (v0b : Nat) (v0o : Nat) (v6 : V) (v7 : Int) (v8 : Int) (σ : H) : Ans :=
 condK (ltF v8 v7) (
 iaddrSK 1 v6 v8 fun b1 o2 =>
 ldK E σ b1 o2 fun u3 =>
 rtStr u3 fun x4 =>
 callK (D 65 [(V.ptr v0b v0o), (V.str x4)] σ) fun u5 s6 =>
 rtBool u5 fun x7 =>
 condK x7 (
 ldK E s6 v0b (Nat.add v0o 1) fun u8 =>
 rtInt .i64 u8 fun x9 =>
 stK 1 v0b (Nat.add v0o 1) (V.int .i64 (addF .i64 x9 (Int.ofNat (BS.len x4)))) s6 fun s10 =>
 some ((V.tup [(V.int .i64 (Int.ofNat 6)), (V.str x4)]), s10)) (
 R2 v0b v0o v6 v7 (addF .i64 v8 (Int.ofNat 1)) s6)) (
 K1 σ)
theorem P72_0 (cc1 : XC) (cc2 : XC) (v0b : Nat) (v0o : Nat) (σ : H) :
  denC E D W N (C72_0 cc1 cc2) ⟨[(0, (V.ptr v0b v0o))], [], [], σ⟩ (Fin72 E) (fun _ _ => none) (Fin72 E) =
  T72_0 E D W (fun v0b v0o v6 v7 v8 σ => iterK (fun rec s' => denC E D W N cc2 s' (fun s'' => keepS [(0, .ptr), (6, .any), (7, .i), (8, .i)] [] [] s'' rec) (blkK 0 (fun s' => denC E D W N (.keep [] [] [] cc1) s' (Fin72 E) (fun _ _ => none) (Fin72 E)) (fun _ _ => none)) (Fin72 E)) N ⟨[(0, (V.ptr v0b v0o)), (6, v6), (7, (V.int .i64 v7)), (8, (V.int .i64 v8))], [], [], σ⟩) v0b v0o σ := by kernel_rfl
theorem P72_1 (σ : H) :
  denC E D W N (C72_1 ) ⟨[], [], [], σ⟩ (Fin72 E) (fun _ _ => none) (Fin72 E) =
  T72_1 E D W   σ := by kernel_rfl
theorem P72_2 (cc1 : XC) (li2 : St → Ans) (v0b : Nat) (v0o : Nat) (v6 : V) (v7 : Int) (v8 : Int) (σ : H) :
  denC E D W N (C72_2 ) ⟨[(0, (V.ptr v0b v0o)), (6, v6), (7, (V.int .i64 v7)), (8, (V.int .i64 v8))], [], [], σ⟩ (fun s'' => keepS [(0, .ptr), (6, .any), (7, .i), (8, .i)] [] [] s'' li2) (blkK 0 (fun s' => denC E D W N (.keep [] [] [] cc1) s' (Fin72 E) (fun _ _ => none) (Fin72 E)) (fun _ _ => none)) (Fin72 E) =
  T72_2 E D W (fun  σ => denC E D W N cc1 ⟨[], [], [], σ⟩ (Fin72 E) (fun _ _ => none) (Fin72 E)) (fun v0b v0o v6 v7 v8 σ => li2 ⟨[(0, (V.ptr v0b v0o)), (6, v6), (7, (V.int .i64 v7)), (8, (V.int .i64 v8))], [], [], σ⟩) v0b v0o v6 v7 v8 σ := by kernel_rfl
def J72_1 (E : List (Nat × Blk)) (D : Den) (W : DrawFn) (N : Nat) : H → Ans := T72_1 E D W 
theorem JE72_1 (σ : H) :
  denC E D W N C72_1 ⟨[], [], [], σ⟩ (Fin72 E) (fun _ _ => none) (Fin72 E) = J72_1 E D W N  σ := by
  refine (P72_1 E D W N    σ).trans ?_
  kernel_rfl
def L72_2 (n : Nat) : Nat → Nat → V → Int → Int → H → Ans :=
  Nat.rec (fun _ _ _ _ _ _ => none) (fun _ ih => T72_2 E D W (J72_1 E D W N ) ih) n
theorem LE72_2 (n : Nat) : ∀ (v0b : Nat) (v0o : Nat) (v6 : V) (v7 : Int) (v8 : Int) (σ : H),
  iterK (fun rec s' => denC E D W N C72_2 s' (fun s'' => keepS [(0, .ptr), (6, .any), (7, .i), (8, .i)] [] [] s'' rec) (blkK 0 (fun s' => denC E D W N (.keep [] [] [] C72_1) s' (Fin72 E) (fun _ _ => none) (Fin72 E)) (fun _ _ => none)) (Fin72 E)) n ⟨[(0, (V.ptr v0b v0o)), (6, v6), (7, (V.int .i64 v7)), (8, (V.int .i64 v8))], [], [], σ⟩ = L72_2 E D W N n v0b v0o v6 v7 v8 σ := by
  induction n with
  | zero => intro v0b v0o v6 v7 v8 σ; rfl
  | succ n ihn =>
    intro v0b v0o v6 v7 v8 σ
    rw [iterK_succ]
    refine (P72_2 E D W N C72_1 (iterK (fun rec s' => denC E D W N C72_2 s' (fun s'' => keepS [(0, .ptr), (6, .any), (7, .i), (8, .i)] [] [] s'' rec) (blkK 0 (fun s' => denC E D W N (.keep [] [] [] C72_1) s' (Fin72 E) (fun _ _ => none) (Fin72 E)) (fun _ _ => none)) (Fin72 E)) n) v0b v0o v6 v7 v8 σ).trans ?_
    simp only [ihn, JE72_1]
    kernel_rfl
def J72_0 : Nat → Nat → H → Ans := T72_0 E D W (L72_2 E D W N N)
theorem JE72_0 (v0b : Nat) (v0o : Nat) (σ : H) :
  denC E D W N (C72_0 C72_1 C72_2) ⟨[(0, (V.ptr v0b v0o))], [], [], σ⟩ (Fin72 E) (fun _ _ => none) (Fin72 E) = J72_0 E D W N v0b v0o σ := by
  refine (P72_0 E D W N C72_1 C72_2  v0b v0o σ).trans ?_
  simp only [LE72_2]
  kernel_rfl
def F72 (args : List V) (σ : H) : Ans :=
 rtCons args fun x1 l2 =>
 rtPtr x1 fun b3 o4 =>
 rtNil l2 (
 J72_0 E D W N b3 o4 σ)
def A72 : XFn := ⟨30, [.ptr], [(.tmp 2), (.tmp 3)], (C72_0 C72_1 C72_2)⟩
theorem FE72 (args : List V) (σ : H) : runX E D W N A72 args σ = F72 E D W N args σ := by
  unfold F72
  simp only [← JE72_0]
  kernel_rfl
theorem AO72 : A72.body.ok = true := by kernel_rfl

/-! ### F74: __ogham_syntax.stream_.next -/
def Fin74 (E : List (Nat × Blk)) : St → Ans := fun s => resK E s [(.cell 2 (some 3))] fun l => some (oneV l, s.σ)
def C74_0 (cc1 : XC) : XC := (.seq (.ops (.pal 2 [] 116 [(V.int .i64 (Int.ofNat 0)), (V.str ⟨0, 0⟩), (V.int .i64 (Int.ofNat 0))] <|
 .nil))
 (.seq (.draw (.m 4 0 <|
 .p 5 [4] (.nilck (.t 4)) <|
 .p 6 [5] (.faddr 0 (.t 5)) <|
 .p 7 [6] (.load none (.t 6)) <|
 .m 8 0 <|
 .p 9 [8] (.nilck (.t 8)) <|
 .p 10 [9] (.faddr 1 (.t 9)) <|
 .op (some 11) .i [10] (.load none (.t 10)) <|
 .p 12 [7, 11] (.iaddrS 3 (.t 7) (.t 11)) <|
 .op (some 13) (.agg [.i, .str, .i]) [12] (.load (some 3) (.t 12)) <|
 .pal 3 [] 116 [(V.int .i64 (Int.ofNat 0)), (V.str ⟨0, 0⟩), (V.int .i64 (Int.ofNat 0))] <|
 .op none (.agg [.i, .str, .i]) [3, 13] (.store 3 (.t 3) (.t 13)) <|
 .nil) [0, 1, 3, 7, 0, 16, 48, 112, 255, 511, 0, 2047])
 (.seq (.seq (.ops (.p 14 [3] (.faddr 0 (.t 3)) <|
 .op (some 15) .i [14] (.load none (.t 14)) <|
 .p 16 [15] (.bin .neq .none (.t 15) (.i 0)) <|
 .nil))
 (.cond (.tmp 16) (.ops (.m 17 0 <|
 .p 18 [17] (.nilck (.t 17)) <|
 .p 19 [18] (.faddr 1 (.t 18)) <|
 .op (some 20) .i [19] (.load none (.t 19)) <|
 .p 21 [20] (.bin .add .none (.t 20) (.i 1)) <|
 .p 22 [17] (.nilck (.t 17)) <|
 .p 23 [22] (.faddr 1 (.t 22)) <|
 .op none .any [23, 21] (.store 1 (.t 23) (.t 21)) <|
 .nil))
 .skip))
 (.keep [] [2, 3] [(2, [.i, .str, .i]), (3, [.i, .str, .i])] cc1))))
def T74_0 (E : List (Nat × Blk)) (D : Den) (W : DrawFn) (K1 : Int → BS → Int → Int → BS → Int → H → Ans) (v0b : Nat) (v0o : Nat) (σ : H) : Ans :=
 ldK E σ v0b v0o fun u1 =>
 ldK E σ v0b (Nat.add v0o 1) fun u2 =>
 rtInt .i64 u2 fun x3 =>
 iaddrSK 3 u1 x3 fun b4 o5 =>
 ldnK E σ b4 o5 3 fun l6 =>
 rtCons l6 fun x7 l8 =>
 rtInt .i64 x7 fun x9 =>
 rtCons l8 fun x10 l11 =>
 rtStr x10 fun x12 =>
 rtCons l11 fun x13 l14 =>
 rtInt .i64 x13 fun x15 =>
 rtNil l14 (
 condK (not (eqF x9 (Int.ofNat 0))) (
 ldK E σ v0b (Nat.add v0o 1) fun u16 =>
 rtInt .i64 u16 fun x17 =>
 stK 1 v0b (Nat.add v0o 1) (V.int .i64 (addF .i64 x17 (Int.ofNat 1))) σ fun s18 =>
 K1 (Int.ofNat 0) (BS.mk 0 0) (Int.ofNat 0) x9 x12 x15 s18) (
 K1 (Int.ofNat 0) (BS.mk 0 0) (Int.ofNat 0) x9 x12 x15 σ))
def C74_1 : XC := (.seq (.ops (.op (some 24) (.agg [.i, .str, .i]) [3] (.load (some 3) (.t 3)) <|
 .op none (.agg [.i, .str, .i]) [2, 24] (.store 3 (.t 2) (.t 24)) <|
 .nil))
 .ret)
def T74_1 (E : List (Nat × Blk)) (D : Den) (W : DrawFn) (r2_0 : Int) (r2_1 : BS) (r2_2 : Int) (r3_0 : Int) (r3_1 : BS) (r3_2 : Int) (σ : H) : Ans :=
 some ((V.agg [(V.int .i64 r3_0), (V.str r3_1), (V.int .i64 r3_2)]), σ)
theorem P74_0 (cc1 : XC) (v0b : Nat) (v0o : Nat) (σ : H) :
  denC E D W N (C74_0 cc1) ⟨[(0, (V.ptr v0b v0o))], [], [], σ⟩ (Fin74 E) (fun _ _ => none) (Fin74 E) =
  T74_0 E D W (fun r2_0 r2_1 r2_2 r3_0 r3_1 r3_2 σ => denC E D W N cc1 ⟨[], [(2, (2, 0)), (3, (3, 0))], [(2, [(V.int .i64 r2_0), (V.str r2_1), (V.int .i64 r2_2)]), (3, [(V.int .i64 r3_0), (V.str r3_1), (V.int .i64 r3_2)])], σ⟩ (Fin74 E) (fun _ _ => none) (Fin74 E)) v0b v0o σ := by kernel_rfl
theorem P74_1 (r2_0 : Int) (r2_1 : BS) (r2_2 : Int) (r3_0 : Int) (r3_1 : BS) (r3_2 : Int) (σ : H) :
  denC E D W N (C74_1 ) ⟨[], [(2, (2, 0)), (3, (3, 0))], [(2, [(V.int .i64 r2_0), (V.str r2_1), (V.int .i64 r2_2)]), (3, [(V.int .i64 r3_0), (V.str r3_1), (V.int .i64 r3_2)])], σ⟩ (Fin74 E) (fun _ _ => none) (Fin74 E) =
  T74_1 E D W  r2_0 r2_1 r2_2 r3_0 r3_1 r3_2 σ := by kernel_rfl
def J74_1 (E : List (Nat × Blk)) (D : Den) (W : DrawFn) (N : Nat) : Int → BS → Int → Int → BS → Int → H → Ans := T74_1 E D W 
theorem JE74_1 (r2_0 : Int) (r2_1 : BS) (r2_2 : Int) (r3_0 : Int) (r3_1 : BS) (r3_2 : Int) (σ : H) :
  denC E D W N C74_1 ⟨[], [(2, (2, 0)), (3, (3, 0))], [(2, [(V.int .i64 r2_0), (V.str r2_1), (V.int .i64 r2_2)]), (3, [(V.int .i64 r3_0), (V.str r3_1), (V.int .i64 r3_2)])], σ⟩ (Fin74 E) (fun _ _ => none) (Fin74 E) = J74_1 E D W N r2_0 r2_1 r2_2 r3_0 r3_1 r3_2 σ := by
  refine (P74_1 E D W N   r2_0 r2_1 r2_2 r3_0 r3_1 r3_2 σ).trans ?_
  kernel_rfl
def J74_0 : Nat → Nat → H → Ans := T74_0 E D W (J74_1 E D W N )
theorem JE74_0 (v0b : Nat) (v0o : Nat) (σ : H) :
  denC E D W N (C74_0 C74_1) ⟨[(0, (V.ptr v0b v0o))], [], [], σ⟩ (Fin74 E) (fun _ _ => none) (Fin74 E) = J74_0 E D W N v0b v0o σ := by
  refine (P74_0 E D W N C74_1  v0b v0o σ).trans ?_
  simp only [JE74_1]
  kernel_rfl
def F74 (args : List V) (σ : H) : Ans :=
 rtCons args fun x1 l2 =>
 rtPtr x1 fun b3 o4 =>
 rtNil l2 (
 J74_0 E D W N b3 o4 σ)
def A74 : XFn := ⟨25, [.ptr], [(.cell 2 (some 3))], (C74_0 C74_1)⟩
theorem FE74 (args : List V) (σ : H) : runX E D W N A74 args σ = F74 E D W N args σ := by
  unfold F74
  simp only [← JE74_0]
  kernel_rfl
theorem AO74 : A74.body.ok = true := by kernel_rfl

/-! ### F75: __ogham_syntax.stream_.is -/
def Fin75 (E : List (Nat × Blk)) : St → Ans := fun s => resK E s [(.tmp 4)] fun l => some (oneV l, s.σ)
def C75_0 : XC := (.seq (.ops (.p 4 [] (.mov (.con (V.bool false))) <|
 .nil))
 (.seq (.seq (.ops (.m 5 0 <|
 .m 6 1 <|
 .op (some 7) .bool [5, 6] (.call 44 [(.t 5), (.t 6)]) <|
 .p 8 [7] (.un .not (.t 7)) <|
 .nil))
 (.cond (.tmp 8) (.seq (.ops (.p 4 [] (.mov (.con (V.bool false))) <|
 .nil))
 .ret)
 .skip))
 (.seq (.ops (.m 9 0 <|
 .op (some 10) (.agg [.i, .str, .i]) [9] (.call 74 [(.t 9)]) <|
 .nil))
 (.seq (.ops (.p 4 [] (.mov (.con (V.bool true))) <|
 .nil))
 .ret))))
def T75_0 (E : List (Nat × Blk)) (D : Den) (W : DrawFn) (v0 : V) (v1 : BS) (σ : H) : Ans :=
 callK (D 44 [v0, (V.str v1)] σ) fun u1 s2 =>
 rtBool u1 fun x3 =>
 condK (not x3) (
 some ((V.bool false), s2)) (
 callK (D 74 [v0] s2) fun u4 s5 =>
 rtAgg u4 fun l6 =>
 rtCons l6 fun x7 l8 =>
 rtInt .i64 x7 fun x9 =>
 rtCons l8 fun x10 l11 =>
 rtStr x10 fun x12 =>
 rtCons l11 fun x13 l14 =>
 rtInt .i64 x13 fun x15 =>
 rtNil l14 (
 some ((V.bool true), s5)))
theorem P75_0 (v0 : V) (v1 : BS) (σ : H) :
  denC E D W N (C75_0 ) ⟨[(0, v0), (1, (V.str v1))], [], [], σ⟩ (Fin75 E) (fun _ _ => none) (Fin75 E) =
  T75_0 E D W  v0 v1 σ := by kernel_rfl
def J75_0 (E : List (Nat × Blk)) (D : Den) (W : DrawFn) (N : Nat) : V → BS → H → Ans := T75_0 E D W 
theorem JE75_0 (v0 : V) (v1 : BS) (σ : H) :
  denC E D W N C75_0 ⟨[(0, v0), (1, (V.str v1))], [], [], σ⟩ (Fin75 E) (fun _ _ => none) (Fin75 E) = J75_0 E D W N v0 v1 σ := by
  refine (P75_0 E D W N   v0 v1 σ).trans ?_
  kernel_rfl
def F75 (args : List V) (σ : H) : Ans :=
 rtCons args fun x1 l2 =>
 rtCons l2 fun x3 l4 =>
 rtStr x3 fun x5 =>
 rtNil l4 (
 J75_0 E D W N x1 x5 σ)
def A75 : XFn := ⟨11, [.any, .str], [(.tmp 4)], C75_0⟩
theorem FE75 (args : List V) (σ : H) : runX E D W N A75 args σ = F75 E D W N args σ := by
  unfold F75
  simp only [← JE75_0]
  kernel_rfl
theorem AO75 : A75.body.ok = true := by kernel_rfl

/-! ### F76: __ogham_syntax.parser_.typ -/
def Fin76 (E : List (Nat × Blk)) : St → Ans := fun s => resK E s [(.tmp 4), (.tmp 5)] fun l => some (oneV l, s.σ)
def C76_0 : XC := (.seq (.ops (.p 4 [] (.mov (.i 0)) <|
 .p 5 [] (.mov (.con (V.bool false))) <|
 .nil))
 (.seq (.ops (.m 10 0 <|
 .p 11 [10] (.nilck (.t 10)) <|
 .p 12 [11] (.faddr 0 (.t 11)) <|
 .op (some 13) (.agg [.i, .str, .i]) [12] (.call 45 [(.t 12)]) <|
 .pal 6 [] 116 [(V.int .i64 (Int.ofNat 0)), (V.str ⟨0, 0⟩), (V.int .i64 (Int.ofNat 0))] <|
 .op none (.agg [.i, .str, .i]) [6, 13] (.store 3 (.t 6) (.t 13)) <|
 .nil))
 (.seq (.block 0 (.seq (.ops (.op (some 15) (.agg [.i, .str, .i]) [6] (.load (some 3) (.t 6)) <|
 .op (some 16) .bool [15] (.call 103 [(.t 15)]) <|
 .p 17 [16] (.un .not (.t 16)) <|
 .m 14 17 <|
 .nil))
 (.cond (.tmp 14) (.seq (.ops (.m 18 0 <|
 .p 19 [6] (.faddr 2 (.t 6)) <|
 .op (some 20) .i [19] (.load none (.t 19)) <|
 .op (some 21) .bool [18, 20] (.call 73 [(.t 18), (.t 20), (.i 7)]) <|
 .p 4 [] (.mov (.i 0)) <|
 .m 5 21 <|
 .nil))
 .ret)
 (.seq (.ops (.m 23 1 <|
 .p 24 [23] (.bin .gtr .none (.t 23) (.i 16)) <|
 .m 25 24 <|
 .grp 25 false (.p 26 [0, 25] (.mov (.t 0)) <|
 .p 27 [26, 25] (.nilck (.t 26)) <|
 .p 28 [27, 25] (.faddr 2 (.t 27)) <|
 .p 29 [28, 25] (.faddr 4 (.t 28)) <|
 .p 30 [29, 25] (.load none (.t 29)) <|
 .p 31 [30, 25] (.len false (.t 30)) <|
 .p 32 [31, 25] (.bin .geq .none (.t 31) (.i 300)) <|
 .nil) 33 [25, 32] (.t 25) (.con (V.bool true)) (.t 32) <|
 .m 22 33 <|
 .nil))
 (.cond (.tmp 22) (.seq (.ops (.m 34 0 <|
 .p 35 [6] (.faddr 2 (.t 6)) <|
 .op (some 36) .i [35] (.load none (.t 35)) <|
 .op (some 37) .bool [34, 36] (.call 73 [(.t 34), (.t 36), (.i 5)]) <|
 .p 4 [] (.mov (.i 0)) <|
 .m 5 37 <|
 .nil))
 .ret)
 .skip)))))
 (.seq (.ops (.m 38 0 <|
 .p 39 [38] (.nilck (.t 38)) <|
 .p 40 [39] (.faddr 2 (.t 39)) <|
 .p 41 [40] (.faddr 4 (.t 40)) <|
 .p 42 [41] (.load none (.t 41)) <|
 .p 43 [42] (.len false (.t 42)) <|
 .m 7 43 <|
 .nil))
 (.seq (.ops (.m 44 0 <|
 .m 45 0 <|
 .p 46 [45] (.nilck (.t 45)) <|
 .p 47 [46] (.faddr 2 (.t 46)) <|
 .p 48 [47] (.faddr 4 (.t 47)) <|
 .p 49 [48] (.load none (.t 48)) <|
 .op (some 50) (.agg [.i, .str, .bool, .i, .i, .bool, .bool, .bool, .bool, .i, .i, .any, .any, .i, .bool, .i]) [] (.build [(V.int .i64 (Int.ofNat 0)), (V.str ⟨0, 0⟩), (V.bool false), (V.int .i64 (Int.ofNat 0)), (V.int .i64 (Int.ofNat 0)), (V.bool false), (V.bool false), (V.bool false), (V.bool false), (V.int .i64 (Int.ofNat 0)), (V.int .i64 (Int.ofNat 0)), V.nils, V.nils, (V.int .i64 (Int.ofNat 0)), (V.bool false), (V.int .i64 (Int.ofNat 0))] []) <|
 .p 51 [50] (.buildSlice 136 1 [(V.int .i64 (Int.ofNat 0)), (V.str ⟨0, 0⟩), (V.bool false), (V.int .i64 (Int.ofNat 0)), (V.int .i64 (Int.ofNat 0)), (V.bool false), (V.bool false), (V.bool false), (V.bool false), (V.int .i64 (Int.ofNat 0)), (V.int .i64 (Int.ofNat 0)), V.nils, V.nils, (V.int .i64 (Int.ofNat 0)), (V.bool false), (V.int .i64 (Int.ofNat 0))] [(0, 16, (.t 50))]) <|
 .op (some 52) .one [49, 51] (.append 136 16 144 (.t 49) (.t 51)) <|
 .p 53 [44] (.nilck (.t 44)) <|
 .p 54 [53] (.faddr 2 (.t 53)) <|
 .p 55 [54] (.faddr 4 (.t 54)) <|
 .op none .any [55, 52] (.store 1 (.t 55) (.t 52)) <|
 .nil))
 (.seq (.ops (.m 57 0 <|
 .m 58 1 <|
 .op (some 59) (.tup [(.agg [.i, .str, .bool, .i, .i, .bool, .bool, .bool, .bool, .i, .i, .any, .any, .i, .bool, .i]), .bool]) [57, 58] (.call 104 [(.t 57), (.t 58)]) <|
 .m 56 59 <|
 .p 60 [56] (.extract 0 (.t 56)) <|
 .p 61 [56] (.extract 1 (.t 56)) <|
 .pal 8 [] 136 [(V.int .i64 (Int.ofNat 0)), (V.str ⟨0, 0⟩), (V.bool false), (V.int .i64 (Int.ofNat 0)), (V.int .i64 (Int.ofNat 0)), (V.bool false), (V.bool false), (V.bool false), (V.bool false), (V.int .i64 (Int.ofNat 0)), (V.int .i64 (Int.ofNat 0)), V.nils, V.nils, (V.int .i64 (Int.ofNat 0)), (V.bool false), (V.int .i64 (Int.ofNat 0))] <|
 .op none (.agg [.i, .str, .bool, .i, .i, .bool, .bool, .bool, .bool, .i, .i, .any, .any, .i, .bool, .i]) [8, 60] (.store 16 (.t 8) (.t 60)) <|
 .m 9 61 <|
 .nil))
 (.seq (.seq (.ops (.m 62 9 <|
 .p 63 [62] (.un .not (.t 62)) <|
 .nil))
 (.cond (.tmp 63) (.seq (.ops (.p 4 [] (.mov (.i 0)) <|
 .p 5 [] (.mov (.con (V.bool false))) <|
 .nil))
 .ret)
 .skip))
 (.seq (.draw (.m 64 0 <|
 .p 65 [64] (.nilck (.t 64)) <|
 .p 66 [65] (.faddr 2 (.t 65)) <|
 .p 67 [66] (.faddr 4 (.t 66)) <|
 .p 68 [67] (.load none (.t 67)) <|
 .m 69 7 <|
 .op (some 70) (.agg [.i, .str, .bool, .i, .i, .bool, .bool, .bool, .bool, .i, .i, .any, .any, .i, .bool, .i]) [8] (.load (some 16) (.t 8)) <|
 .p 71 [68, 69] (.iaddrS 16 (.t 68) (.t 69)) <|
 .op none (.agg [.i, .str, .bool, .i, .i, .bool, .bool, .bool, .bool, .i, .i, .any, .any, .i, .bool, .i]) [71, 70] (.store 16 (.t 71) (.t 70)) <|
 .nil) [0, 1, 3, 7, 15, 0, 0, 127, 255])
 (.seq (.ops (.m 72 7 <|
 .m 4 72 <|
 .p 5 [] (.mov (.con (V.bool true))) <|
 .nil))
 .ret)))))))))
def T76_0 (E : List (Nat × Blk)) (D : Den) (W : DrawFn) (v0b : Nat) (v0o : Nat) (v1 : Int) (σ : H) : Ans :=
 callK (D 45 [(V.ptr v0b v0o)] σ) fun u1 s2 =>
 rtAgg u1 fun l3 =>
 rtCons l3 fun x4 l5 =>
 rtInt .i64 x4 fun x6 =>
 rtCons l5 fun x7 l8 =>
 rtStr x7 fun x9 =>
 rtCons l8 fun x10 l11 =>
 rtInt .i64 x10 fun x12 =>
 rtNil l11 (
 callK (D 103 [(V.agg [(V.int .i64 x6), (V.str x9), (V.int .i64 x12)])] s2) fun u13 s14 =>
 rtBool u13 fun x15 =>
 condK (not x15) (
 callK (D 73 [(V.ptr v0b v0o), (V.int .i64 x12), (V.int .i64 (Int.ofNat 7))] s14) fun u16 s17 =>
 rtBool u16 fun x18 =>
 some ((V.tup [(V.int .i64 (Int.ofNat 0)), (V.bool x18)]), s17)) (
 joinB (fun c19 s20 =>
 condK c19 (
 callK (D 73 [(V.ptr v0b v0o), (V.int .i64 x12), (V.int .i64 (Int.ofNat 5))] s20) fun u22 s23 =>
 rtBool u22 fun x24 =>
 some ((V.tup [(V.int .i64 (Int.ofNat 0)), (V.bool x24)]), s23)) (
 ldK E s20 v0b (Nat.add (Nat.add v0o 2) 4) fun u25 =>
 slenK u25 fun n26 =>
 ldK E s20 v0b (Nat.add (Nat.add v0o 2) 4) fun u27 =>
 let s28 := newB s20 (.cells [(V.int .i64 (Int.ofNat 0)), (V.str (BS.mk 0 0)), (V.bool false), (V.int .i64 (Int.ofNat 0)), (V.int .i64 (Int.ofNat 0)), (V.bool false), (V.bool false), (V.bool false), (V.bool false), (V.int .i64 (Int.ofNat 0)), (V.int .i64 (Int.ofNat 0)), V.nils, V.nils, (V.int .i64 (Int.ofNat 0)), (V.bool false), (V.int .i64 (Int.ofNat 0))]);
 appK E 16 144 u27 (V.sl (H.next s20) 0 1 (.ex 1)) s28 fun u29 s30 =>
 rtOne u29 (
 stK 1 v0b (Nat.add (Nat.add v0o 2) 4) u29 s30 fun s31 =>
 callK (D 104 [(V.ptr v0b v0o), (V.int .i64 v1)] s31) fun u32 s33 =>
 rtTup u32 fun l34 =>
 rtCons l34 fun x35 l36 =>
 rtAgg x35 fun l37 =>
 rtCons l37 fun x38 l39 =>
 rtInt .i64 x38 fun x40 =>
 rtCons l39 fun x41 l42 =>
 rtStr x41 fun x43 =>
 rtCons l42 fun x44 l45 =>
 rtBool x44 fun x46 =>
 rtCons l45 fun x47 l48 =>
 rtInt .i64 x47 fun x49 =>
 rtCons l48 fun x50 l51 =>
 rtInt .i64 x50 fun x52 =>
 rtCons l51 fun x53 l54 =>
 rtBool x53 fun x55 =>
 rtCons l54 fun x56 l57 =>
 rtBool x56 fun x58 =>
 rtCons l57 fun x59 l60 =>
 rtBool x59 fun x61 =>
 rtCons l60 fun x62 l63 =>
 rtBool x62 fun x64 =>
 rtCons l63 fun x65 l66 =>
 rtInt .i64 x65 fun x67 =>
 rtCons l66 fun x68 l69 =>
 rtInt .i64 x68 fun x70 =>
 rtCons l69 fun x71 l72 =>
 rtCons l72 fun x73 l74 =>
 rtCons l74 fun x75 l76 =>
 rtInt .i64 x75 fun x77 =>
 rtCons l76 fun x78 l79 =>
 rtBool x78 fun x80 =>
 rtCons l79 fun x81 l82 =>
 rtInt .i64 x81 fun x83 =>
 rtNil l82 (
 rtCons l36 fun x84 l85 =>
 rtBool x84 fun x86 =>
 rtNil l85 (
 chk (allOne [(V.int .i64 x40), (V.str x43), (V.bool x46), (V.int .i64 x49), (V.int .i64 x52), (V.bool x55), (V.bool x58), (V.bool x61), (V.bool x64), (V.int .i64 x67), (V.int .i64 x70), x71, x73, (V.int .i64 x77), (V.bool x80), (V.int .i64 x83)]) (
 condK (not x86) (
 some ((V.tup [(V.int .i64 (Int.ofNat 0)), (V.bool false)]), s33)) (
 ldK E s33 v0b (Nat.add (Nat.add v0o 2) 4) fun u87 =>
 iaddrSK 16 u87 (Int.ofNat n26) fun b88 o89 =>
 stK 16 b88 o89 (V.agg [(V.int .i64 x40), (V.str x43), (V.bool x46), (V.int .i64 x49), (V.int .i64 x52), (V.bool x55), (V.bool x58), (V.bool x61), (V.bool x64), (V.int .i64 x67), (V.int .i64 x70), x71, x73, (V.int .i64 x77), (V.bool x80), (V.int .i64 x83)]) s33 fun s90 =>
 some ((V.tup [(V.int .i64 (Int.ofNat n26)), (V.bool true)]), s90)))))))) fun k21 =>
 condK (ltF (Int.ofNat 16) v1) (
 k21 true s14) (
 ldK E s14 v0b (Nat.add (Nat.add v0o 2) 4) fun u91 =>
 slenK u91 fun n92 =>
 k21 (leF (Int.ofNat 300) (Int.ofNat n92)) s14)))
theorem P76_0 (v0b : Nat) (v0o : Nat) (v1 : Int) (σ : H) :
  denC E D W N (C76_0 ) ⟨[(0, (V.ptr v0b v0o)), (1, (V.int .i64 v1))], [], [], σ⟩ (Fin76 E) (fun _ _ => none) (Fin76 E) =
  T76_0 E D W  v0b v0o v1 σ := by kernel_rfl
def J76_0 (E : List (Nat × Blk)) (D : Den) (W : DrawFn) (N : Nat) : Nat → Nat → Int → H → Ans := T76_0 E D W 
theorem JE76_0 (v0b : Nat) (v0o : Nat) (v1 : Int) (σ : H) :
  denC E D W N C76_0 ⟨[(0, (V.ptr v0b v0o)), (1, (V.int .i64 v1))], [], [], σ⟩ (Fin76 E) (fun _ _ => none) (Fin76 E) = J76_0 E D W N v0b v0o v1 σ := by
  refine (P76_0 E D W N   v0b v0o v1 σ).trans ?_
  kernel_rfl
def F76 (args : List V) (σ : H) : Ans :=
 rtCons args fun x1 l2 =>
 rtPtr x1 fun b3 o4 =>
 rtCons l2 fun x5 l6 =>
 rtInt .i64 x5 fun x7 =>
 rtNil l6 (
 J76_0 E D W N b3 o4 x7 σ)
def A76 : XFn := ⟨73, [.ptr, .i], [(.tmp 4), (.tmp 5)], C76_0⟩
theorem FE76 (args : List V) (σ : H) : runX E D W N A76 args σ = F76 E D W N args σ := by
  unfold F76
  simp only [← JE76_0]
  kernel_rfl
theorem AO76 : A76.body.ok = true := by kernel_rfl

def G77_0 : List AOper := [⟨(some 6), .load (some 5) (.tmp 2), none⟩, ⟨(some 7), .mov (.tmp 1), none⟩, ⟨(some 8), .faddr 4 (.tmp 2), none⟩, ⟨(some 9), .load none (.tmp 8), none⟩, ⟨(some 10), .len false (.tmp 9), none⟩, ⟨(some 11), .mkslice 4 1 1 [(V.bool false)] (.tmp 10) (.tmp 10), none⟩, ⟨(some 12), .mkfn 106 [] [(.tmp 5)], none⟩, ⟨(some 13), .call 105 [(.tmp 6), (.tmp 7), (.tmp 11), (.tmp 12)], none⟩]
def H77_0 : List DP := [⟨0, [2]⟩, ⟨0, [1]⟩, ⟨0, [2]⟩, ⟨4, [8]⟩, ⟨12, [9]⟩, ⟨28, [10, 10]⟩, ⟨0, [5]⟩, ⟨127, [6, 7, 11, 12]⟩]
def C77_0 : XC := (.seq (.ops (.p 2 [0] (.box 60 (.t 0)) <|
 .p 4 [] (.mov (.con V.nils)) <|
 .nil))
 (.seq (.ops (.p 5 [] (.alloc 24 [V.nils]) <|
 .nil))
 (.seq (.keep [(1, .i), (2, .ptr), (5, .ptr)] [] [] (.gdraw G77_0 H77_0 [(5, .ptr)]))
 (.seq (.ops (.p 14 [5] (.load none (.t 5)) <|
 .m 4 14 <|
 .nil))
 .ret))))
def A77 : XFn := ⟨15, [(.agg [.str, .i, .any, .any, .any]), .i], [(.tmp 4)], C77_0⟩
def C78_0 : XC := (.seq (.ops (.p 2 [0] (.box 60 (.t 0)) <|
 .p 4 [] (.mov (.con (V.bool false))) <|
 .nil))
 (.seq (.ops (.op (some 5) (.agg [.str, .i, .any, .any, .any]) [2] (.load (some 5) (.t 2)) <|
 .m 6 1 <|
 .op (some 7) .one [5, 6] (.call 77 [(.t 5), (.t 6)]) <|
 .p 8 [2] (.mkfn 109 [] [(.t 2)]) <|
 .op (some 9) .bool [7, 8] (.call 108 [(.t 7), (.t 8)]) <|
 .m 4 9 <|
 .nil))
 .ret))
def A78 : XFn := ⟨10, [(.agg [.str, .i, .any, .any, .any]), .i], [(.tmp 4)], C78_0⟩
def C79_0 (cc1 : XC) : XC := (.seq (.ops (.m 8 0 <|
 .m 9 1 <|
 .p 10 [8, 9] (.iaddrS 1 (.t 8) (.t 9)) <|
 .p 11 [10] (.load none (.t 10)) <|
 .p 12 [11] (.len false (.t 11)) <|
 .p 13 [] (.mov (.i 0)) <|
 .nil))
 (.block 0 (.loop [(0, .any), (2, .any), (11, .any), (12, .i), (13, .i)] [] [] cc1)))
def C79_1 (cc2 : XC) : XC := (.seq (.ops (.p 14 [13, 12] (.bin .lss .none (.t 13) (.t 12)) <|
 .nil))
 (.seq (.cond (.tmp 14) .skip
 (.exit 0))
 (.seq (.block 1 (.seq (.ops (.p 15 [11, 13] (.iaddrS 1 (.t 11) (.t 13)) <|
 .op (some 16) .i [15] (.load none (.t 15)) <|
 .m 7 16 <|
 .nil))
 (.seq (.ops (.m 17 2 <|
 .m 18 7 <|
 .p 19 [17, 18] (.iaddrS 1 (.t 17) (.t 18)) <|
 .op (some 20) .bool [19] (.load none (.t 19)) <|
 .p 21 [20] (.un .not (.t 20)) <|
 .nil))
 (.cond (.tmp 21) (.seq (.ops (.m 22 2 <|
 .m 23 7 <|
 .p 24 [22, 23] (.iaddrS 1 (.t 22) (.t 23)) <|
 .op none .any [24] (.store 1 (.t 24) (.con (V.bool true))) <|
 .nil))
 (.ops (.m 25 0 <|
 .m 26 7 <|
 .m 27 2 <|
 .op (some 28) (.tup []) [25, 26, 27] (.call 79 [(.t 25), (.t 26), (.t 27)]) <|
 .nil)))
 .skip))))
 (.keep [(0, .any), (2, .any), (11, .any), (12, .i), (13, .i)] [] [] cc2))))
def C79_2 : XC := (.ops (.p 29 [13] (.bin .add .none (.t 13) (.i 1)) <|
 .m 13 29 <|
 .nil))
def A79 : XFn := ⟨30, [.any, .i, .any], [], (C79_0 (C79_1 C79_2))⟩
def C80_0 (cc1 : XC) (cc2 : XC) : XC := (.seq (.ops (.p 4 [] (.mov (.i 0)) <|
 .nil))
 (.seq (.seq (.ops (.m 6 0 <|
 .p 7 [6] (.len false (.t 6)) <|
 .p 8 [] (.mov (.i 0)) <|
 .nil))
 (.block 0 (.loop [(0, .any), (1, .i), (7, .i), (8, .i)] [] [] cc2)))
 (.keep [] [] [] cc1)))
def C80_1 : XC := (.seq (.ops (.p 4 [] (.mov (.con (V.int .i64 (Int.negSucc 0)))) <|
 .nil))
 .ret)
def C80_2 : XC := (.seq (.ops (.p 9 [8, 7] (.bin .lss .none (.t 8) (.t 7)) <|
 .nil))
 (.seq (.cond (.tmp 9) .skip
 (.exit 0))
 (.seq (.block 1 (.seq (.ops (.m 10 8 <|
 .m 5 10 <|
 .nil))
 (.seq (.ops (.m 11 1 <|
 .m 12 0 <|
 .m 13 5 <|
 .p 14 [12, 13] (.iaddrS 1 (.t 12) (.t 13)) <|
 .op (some 15) .i [14] (.load none (.t 14)) <|
 .p 16 [11, 15] (.bin .eql .none (.t 11) (.t 15)) <|
 .nil))
 (.cond (.tmp 16) (.seq (.ops (.m 17 5 <|
 .m 4 17 <|
 .nil))
 .ret)
 .skip))))
 (.ops (.p 18 [8] (.bin .add .none (.t 8) (.i 1)) <|
 .m 8 18 <|
 .nil)))))
def A80 : XFn := ⟨19, [.any, .i], [(.tmp 4)], (C80_0 C80_1 C80_2)⟩
def C81_0 (cc1 : XC) (cc2 : XC) : XC := (.seq (.ops (.p 4 [] (.mov (.i 0)) <|
 .nil))
 (.seq (.seq (.ops (.m 6 0 <|
 .p 7 [6] (.len false (.t 6)) <|
 .p 8 [] (.mov (.i 0)) <|
 .nil))
 (.block 0 (.loop [(0, .any), (1, .any), (7, .i), (8, .i)] [] [] cc2)))
 (.keep [] [] [] cc1)))
def C81_1 : XC := (.seq (.ops (.p 4 [] (.mov (.con (V.int .i64 (Int.negSucc 0)))) <|
 .nil))
 .ret)
def C81_2 : XC := (.seq (.ops (.p 9 [8, 7] (.bin .lss .none (.t 8) (.t 7)) <|
 .nil))
 (.seq (.cond (.tmp 9) .skip
 (.exit 0))
 (.seq (.block 1 (.seq (.ops (.m 10 8 <|
 .m 5 10 <|
 .nil))
 (.seq (.ops (.m 11 1 <|
 .m 12 0 <|
 .m 13 5 <|
 .p 14 [12, 13] (.iaddrS 1 (.t 12) (.t 13)) <|
 .op (some 15) .i [14] (.load none (.t 14)) <|
 .op (some 16) .bool [11, 15] (.callv (.t 11) [(.t 15)]) <|
 .nil))
 (.cond (.tmp 16) (.seq (.ops (.m 17 5 <|
 .m 4 17 <|
 .nil))
 .ret)
 .skip))))
 (.ops (.p 18 [8] (.bin .add .none (.t 8) (.i 1)) <|
 .m 8 18 <|
 .nil)))))
def A81 : XFn := ⟨19, [.any, .any], [(.tmp 4)], (C81_0 C81_1 C81_2)⟩
def C82_0 (cc1 : XC) (cc2 : XC) : XC := (.seq (.ops (.pal 2 [] 169 [(V.int .i64 (Int.ofNat 0)), (V.int .i64 (Int.ofNat 0))] <|
 .nil))
 (.seq (.ops (.p 3 [] (.mov (.i 0)) <|
 .nil))
 (.seq (.seq (.ops (.m 4 0 <|
 .nil))
 (.block 0 (.seq (.ops (.p 6 [4] (.bin .eql .none (.t 4) (.i 1)) <|
 .m 5 6 <|
 .nil))
 (.cond (.tmp 5) (.ops (.p 3 [] (.mov (.i 1)) <|
 .nil))
 (.seq (.ops (.p 8 [4] (.bin .eql .none (.t 4) (.i 2)) <|
 .m 7 8 <|
 .nil))
 (.cond (.tmp 7) (.ops (.p 3 [] (.mov (.i 2)) <|
 .nil))
 (.seq (.ops (.p 10 [4] (.bin .eql .none (.t 4) (.i 5)) <|
 .m 9 10 <|
 .nil))
 (.cond (.tmp 9) (.ops (.p 3 [] (.mov (.i 4)) <|
 .nil))
 (.seq (.ops (.p 12 [4] (.bin .eql .none (.t 4) (.i 4)) <|
 .m 11 12 <|
 .nil))
 (.cond (.tmp 11) (.ops (.p 3 [] (.mov (.i 5)) <|
 .nil))
 (.seq (.ops (.p 14 [4] (.bin .eql .none (.t 4) (.i 3)) <|
 .m 13 14 <|
 .nil))
 (.cond (.tmp 13) (.ops (.p 3 [] (.mov (.i 10)) <|
 .nil))
 (.seq (.ops (.p 16 [4] (.bin .eql .none (.t 4) (.i 6)) <|
 .m 15 16 <|
 .nil))
 (.cond (.tmp 15) (.ops (.p 3 [] (.mov (.i 12)) <|
 .nil))
 (.seq (.seq (.ops (.p 18 [4] (.bin .eql .none (.t 4) (.i 7)) <|
 .m 17 18 <|
 .nil))
 (.cond (.tmp 17) .skip
 (.ops (.p 19 [4] (.bin .eql .none (.t 4) (.i 10)) <|
 .m 17 19 <|
 .nil))))
 (.keep [(3, .i), (4, .i), (17, .bool)] [2] [(2, [.i, .i])] cc2))))))))))))))))
 (.keep [(3, .i)] [2] [(2, [.i, .i])] cc1))))
def C82_1 : XC := (.seq (.ops (.m 22 3 <|
 .op (some 23) (.agg [.i, .i]) [22] (.build [(V.int .i64 (Int.ofNat 0)), (V.int .i64 (Int.ofNat 0))] [(0, 1, (.i 0)), (1, 1, (.t 22))]) <|
 .op none (.agg [.i, .i]) [2, 23] (.store 2 (.t 2) (.t 23)) <|
 .nil))
 .ret)
def C82_2 : XC := (.cond (.tmp 17) (.ops (.p 3 [] (.mov (.i 16)) <|
 .nil))
 (.seq (.ops (.p 21 [4] (.bin .eql .none (.t 4) (.i 8)) <|
 .m 20 21 <|
 .nil))
 (.cond (.tmp 20) (.ops (.p 3 [] (.mov (.i 17)) <|
 .nil))
 .skip)))
def A82 : XFn := ⟨24, [.i], [(.cell 2 (some 2))], (C82_0 C82_1 C82_2)⟩
def G83_0 : List AOper := [⟨(some 5), .mov (.tmp 0), none⟩, ⟨(some 6), .mov (.tmp 0), none⟩, ⟨(some 7), .nilck (.tmp 6), none⟩, ⟨(some 8), .faddr 0 (.tmp 7), none⟩, ⟨(some 9), .load none (.tmp 8), none⟩, ⟨(some 10), .load (some 13) (.tmp 3), none⟩, ⟨(some 11), .buildSlice 167 1 [(V.int .i64 (Int.ofNat 0)), V.nils, (V.bool false), (V.bool false), (V.bool false), (V.bool false), (V.int .i64 (Int.ofNat 0)), (V.int .i64 (Int.ofNat 0)), V.nils, V.nils, (V.int .i64 (Int.ofNat 0)), (V.bool false), (V.int .i64 (Int.ofNat 0))] [(0, 13, (.tmp 10))], none⟩, ⟨(some 12), .append 167 13 128 (.tmp 9) (.tmp 11), none⟩, ⟨(some 13), .nilck (.tmp 5), none⟩, ⟨(some 14), .faddr 0 (.tmp 13), none⟩, ⟨none, .store 1 (.tmp 14) (.tmp 12), none⟩]
def H83_0 : List DP := [⟨0, [0]⟩, ⟨0, [0]⟩, ⟨2, [6]⟩, ⟨6, [7]⟩, ⟨14, [8]⟩, ⟨0, [3]⟩, ⟨32, [10]⟩, ⟨126, [9, 11]⟩, ⟨255, [5]⟩, ⟨511, [13]⟩, ⟨1023, [14, 12]⟩]
def C83_0 : XC := (.seq (.ops (.p 3 [1] (.box 167 (.t 1)) <|
 .p 4 [] (.mov (.i 0)) <|
 .nil))
 (.seq (.keep [(0, .ptr), (3, .ptr)] [] [] (.gdraw G83_0 H83_0 [(0, .ptr)]))
 (.seq (.ops (.m 15 0 <|
 .p 16 [15] (.nilck (.t 15)) <|
 .p 17 [16] (.faddr 0 (.t 16)) <|
 .p 18 [17] (.load none (.t 17)) <|
 .p 19 [18] (.len false (.t 18)) <|
 .p 20 [19] (.bin .sub .none (.t 19) (.i 1)) <|
 .m 4 20 <|
 .nil))
 .ret)))
def A83 : XFn := ⟨21, [.ptr, (.agg [.i, .any, .bool, .bool, .bool, .bool, .i, .i, .any, .any, .i, .bool, .i])], [(.tmp 4)], C83_0⟩
def C84_0 : XC := (.seq (.ops (.p 2 [0] (.box 132 (.t 0)) <|
 .p 4 [] (.mov (.i 0)) <|
 .nil))
 (.seq (.ops (.op (some 6) (.agg [.bool, .bool, .bool, .bool, .i, .i]) [2] (.load (some 6) (.t 2)) <|
 .op (some 7) (.agg [.bool, .bool, .bool, .bool, .i, .i]) [6] (.build [(V.bool false), (V.bool false), (V.bool false), (V.bool false), (V.int .i64 (Int.ofNat 0)), (V.int .i64 (Int.ofNat 0))] [(0, 6, (.t 6))]) <|
 .pal 5 [] 204 [(V.bool false), (V.bool false), (V.bool false), (V.bool false), (V.int .i64 (Int.ofNat 0)), (V.int .i64 (Int.ofNat 0))] <|
 .op none (.agg [.bool, .bool, .bool, .bool, .i, .i]) [5, 7] (.store 6 (.t 5) (.t 7)) <|
 .nil))
 (.seq (.seq (.ops (.p 8 [5] (.faddr 0 (.t 5)) <|
 .p 9 [8] (.faddr 0 (.t 8)) <|
 .op (some 10) .bool [9] (.load none (.t 9)) <|
 .m 11 10 <|
 .grp 11 true (.op (some 12) (.agg [.bool, .bool, .bool, .bool, .i, .i]) [5, 11] (.load (some 6) (.t 5)) <|
 .op (some 13) .bool [12, 11] (.call 110 [(.t 12)]) <|
 .p 14 [13, 11] (.mov (.t 13)) <|
 .grp 14 false (.p 15 [1, 14] (.mov (.t 1)) <|
 .p 16 [15, 14] (.mov (.t 15)) <|
 .grp 16 true (.op (some 17) (.agg [.bool, .bool, .bool, .bool, .i, .i]) [5, 16] (.load (some 6) (.t 5)) <|
 .op (some 18) .bool [17, 16] (.call 111 [(.t 17)]) <|
 .p 19 [18, 16] (.un .not (.t 18)) <|
 .nil) 20 [16, 19, 14] (.t 16) (.t 19) (.con (V.bool false)) <|
 .nil) 21 [14, 20, 11] (.t 14) (.con (V.bool true)) (.t 20) <|
 .nil) 22 [11, 21] (.t 11) (.t 21) (.con (V.bool false)) <|
 .nil))
 (.cond (.tmp 22) (.seq (.ops (.p 4 [] (.mov (.i 11)) <|
 .nil))
 .ret)
 .skip))
 (.seq (.ops (.p 4 [] (.mov (.i 0)) <|
 .nil))
 .ret))))
def A84 : XFn := ⟨23, [(.agg [.bool, .bool, .bool, .bool, .i, .i]), .bool], [(.tmp 4)], C84_0⟩
def C89_0 : XC := (.ops (.m 4 0 <|
 .m 5 1 <|
 .op (some 6) .str [5] (.call 120 [(.t 5), (.i 10)]) <|
 .p 7 [6] (.buildSlice 9 1 [(V.str ⟨0, 0⟩)] [(0, 1, (.t 6))]) <|
 .op (some 8) (.tup []) [4, 7] (.call 30 [(.t 4), (.t 7)]) <|
 .nil))
def A89 : XFn := ⟨9, [.any, .i], [], C89_0⟩
def C90_0 (cc1 : XC) (cc2 : XC) : XC := (.seq (.ops (.p 3 [1] (.box 132 (.t 1)) <|
 .nil))
 (.seq (.block 0 (.seq (.ops (.p 36 [3] (.faddr 1 (.t 3)) <|
 .op (some 37) .bool [36] (.load none (.t 36)) <|
 .m 38 37 <|
 .grp 38 true (.p 39 [3, 38] (.faddr 2 (.t 3)) <|
 .op (some 40) .bool [39, 38] (.load none (.t 39)) <|
 .nil) 41 [38, 40] (.t 38) (.t 40) (.con (V.bool false)) <|
 .m 42 41 <|
 .grp 42 true (.p 43 [3, 42] (.faddr 4 (.t 3)) <|
 .op (some 44) .i [43, 42] (.load none (.t 43)) <|
 .p 45 [3, 42] (.faddr 5 (.t 3)) <|
 .op (some 46) .i [45, 42] (.load none (.t 45)) <|
 .p 47 [44, 46, 42] (.bin .eql .none (.t 44) (.t 46)) <|
 .nil) 48 [42, 47] (.t 42) (.t 47) (.con (V.bool false)) <|
 .m 35 48 <|
 .nil))
 (.cond (.tmp 35) (.draw (.m 49 0 <|
 .p 50 [49] (.nilck (.t 49)) <|
 .p 51 [50] (.faddr 0 (.t 50)) <|
 .p 52 [3] (.faddr 4 (.t 3)) <|
 .op (some 53) .i [52] (.load none (.t 52)) <|
 .op (some 54) (.tup []) [51, 53] (.call 89 [(.t 51), (.t 53)]) <|
 .nil) [0, 1, 3, 0, 8, 31])
 (.seq (.seq (.ops (.p 4 [3] (.faddr 1 (.t 3)) <|
 .op (some 5) .bool [4] (.load none (.t 4)) <|
 .nil))
 (.cond (.tmp 5) (.draw (.m 6 0 <|
 .p 7 [6] (.nilck (.t 6)) <|
 .p 8 [7] (.faddr 0 (.t 7)) <|
 .p 9 [3] (.faddr 4 (.t 3)) <|
 .op (some 10) .i [9] (.load none (.t 9)) <|
 .op (some 11) (.tup []) [8, 10] (.call 89 [(.t 8), (.t 10)]) <|
 .nil) [0, 1, 3, 0, 8, 31])
 (.ops (.m 12 0 <|
 .p 13 [12] (.nilck (.t 12)) <|
 .p 14 [13] (.faddr 0 (.t 13)) <|
 .p 15 [] (.buildSlice 9 1 [(V.str ⟨0, 0⟩)] [(0, 1, (.con (V.str ⟨3, 5130573⟩)))]) <|
 .op (some 16) (.tup []) [14, 15] (.call 30 [(.t 14), (.t 15)]) <|
 .nil))))
 (.keep [(0, .ptr), (3, .ptr)] [] [] cc2)))))
 (.keep [(0, .ptr), (3, .ptr)] [] [] cc1)))
def C90_1 : XC := (.seq (.ops (.p 55 [3] (.faddr 3 (.t 3)) <|
 .op (some 56) .bool [55] (.load none (.t 55)) <|
 .nil))
 (.cond (.tmp 56) (.ops (.m 57 0 <|
 .p 58 [57] (.nilck (.t 57)) <|
 .p 59 [58] (.faddr 0 (.t 58)) <|
 .p 60 [] (.buildSlice 9 1 [(V.str ⟨0, 0⟩)] [(0, 1, (.con (V.str ⟨5, 198343270444⟩)))]) <|
 .op (some 61) (.tup []) [59, 60] (.call 30 [(.t 59), (.t 60)]) <|
 .nil))
 .skip))
def C90_2 : XC := (.seq (.ops (.m 17 0 <|
 .p 18 [17] (.nilck (.t 17)) <|
 .p 19 [18] (.faddr 0 (.t 18)) <|
 .p 20 [] (.buildSlice 9 1 [(V.str ⟨0, 0⟩)] [(0, 1, (.con (V.str ⟨2, 11822⟩)))]) <|
 .op (some 21) (.tup []) [19, 20] (.call 30 [(.t 19), (.t 20)]) <|
 .nil))
 (.seq (.ops (.p 22 [3] (.faddr 2 (.t 3)) <|
 .op (some 23) .bool [22] (.load none (.t 22)) <|
 .nil))
 (.cond (.tmp 23) (.draw (.m 24 0 <|
 .p 25 [24] (.nilck (.t 24)) <|
 .p 26 [25] (.faddr 0 (.t 25)) <|
 .p 27 [3] (.faddr 5 (.t 3)) <|
 .op (some 28) .i [27] (.load none (.t 27)) <|
 .op (some 29) (.tup []) [26, 28] (.call 89 [(.t 26), (.t 28)]) <|
 .nil) [0, 1, 3, 0, 8, 31])
 (.ops (.m 30 0 <|
 .p 31 [30] (.nilck (.t 30)) <|
 .p 32 [31] (.faddr 0 (.t 31)) <|
 .p 33 [] (.buildSlice 9 1 [(V.str ⟨0, 0⟩)] [(0, 1, (.con (V.str ⟨3, 5783885⟩)))]) <|
 .op (some 34) (.tup []) [32, 33] (.call 30 [(.t 32), (.t 33)]) <|
 .nil)))))
def A90 : XFn := ⟨62, [.ptr, (.agg [.bool, .bool, .bool, .bool, .i, .i])], [], (C90_0 C90_1 C90_2)⟩
/-! ### F99: strings.HasPrefix -/
def Fin99 (E : List (Nat × Blk)) : St → Ans := fun s => resK E s [(.tmp 4)] fun l => some (oneV l, s.σ)
def C99_0 : XC := (.seq (.ops (.p 4 [] (.mov (.con (V.bool false))) <|
 .nil))
 (.seq (.ops (.m 5 0 <|
 .m 6 1 <|
 .op (some 7) .bool [5, 6] (.call 126 [(.t 5), (.t 6)]) <|
 .m 4 7 <|
 .nil))
 .ret))
def T99_0 (E : List (Nat × Blk)) (D : Den) (W : DrawFn) (v0 : BS) (v1 : BS) (σ : H) : Ans :=
 callK (D 126 [(V.str v0), (V.str v1)] σ) fun u1 s2 =>
 rtBool u1 fun x3 =>
 some ((V.bool x3), s2)
theorem P99_0 (v0 : BS) (v1 : BS) (σ : H) :
  denC E D W N (C99_0 ) ⟨[(0, (V.str v0)), (1, (V.str v1))], [], [], σ⟩ (Fin99 E) (fun _ _ => none) (Fin99 E) =
  T99_0 E D W  v0 v1 σ := by kernel_rfl
def J99_0 (E : List (Nat × Blk)) (D : Den) (W : DrawFn) (N : Nat) : BS → BS → H → Ans := T99_0 E D W 
theorem JE99_0 (v0 : BS) (v1 : BS) (σ : H) :
  denC E D W N C99_0 ⟨[(0, (V.str v0)), (1, (V.str v1))], [], [], σ⟩ (Fin99 E) (fun _ _ => none) (Fin99 E) = J99_0 E D W N v0 v1 σ := by
  refine (P99_0 E D W N   v0 v1 σ).trans ?_
  kernel_rfl
def F99 (args : List V) (σ : H) : Ans :=
 rtCons args fun x1 l2 =>
 rtStr x1 fun x3 =>
 rtCons l2 fun x4 l5 =>
 rtStr x4 fun x6 =>
 rtNil l5 (
 J99_0 E D W N x3 x6 σ)
def A99 : XFn := ⟨8, [.str, .str], [(.tmp 4)], C99_0⟩
theorem FE99 (args : List V) (σ : H) : runX E D W N A99 args σ = F99 E D W N args σ := by
  unfold F99
  simp only [← JE99_0]
  kernel_rfl
theorem AO99 : A99.body.ok = true := by kernel_rfl

/-! ### F100: ogham_lex.Word -/
def Fin100 (E : List (Nat × Blk)) : St → Ans := fun s => resK E s [(.tmp 2)] fun l => some (oneV l, s.σ)
def C100_0 (cc1 : XC) (cc2 : XC) : XC := (.seq (.ops (.p 2 [] (.mov (.con (V.bool false))) <|
 .nil))
 (.seq (.seq (.ops (.m 3 0 <|
 .nil))
 (.block 0 (.seq (.seq (.ops (.p 5 [3] (.bin .eql .none (.t 3) (.con (V.str ⟨11, 100710650190388740279911748⟩))) <|
 .m 4 5 <|
 .nil))
 (.cond (.tmp 4) .skip
 (.seq (.ops (.p 6 [3] (.bin .eql .none (.t 3) (.con (V.str ⟨8, 6073459554577832005⟩))) <|
 .m 4 6 <|
 .nil))
 (.cond (.tmp 4) .skip
 (.seq (.ops (.p 7 [3] (.bin .eql .none (.t 3) (.con (V.str ⟨8, 6073459554577829193⟩))) <|
 .m 4 7 <|
 .nil))
 (.cond (.tmp 4) .skip
 (.seq (.ops (.p 8 [3] (.bin .eql .none (.t 3) (.con (V.str ⟨9, 1241215773001651606849⟩))) <|
 .m 4 8 <|
 .nil))
 (.cond (.tmp 4) .skip
 (.seq (.ops (.p 9 [3] (.bin .eql .none (.t 3) (.con (V.str ⟨4, 1397178708⟩))) <|
 .m 4 9 <|
 .nil))
 (.cond (.tmp 4) .skip
 (.seq (.ops (.p 10 [3] (.bin .eql .none (.t 3) (.con (V.str ⟨5, 336236856642⟩))) <|
 .m 4 10 <|
 .nil))
 (.cond (.tmp 4) .skip
 (.seq (.ops (.p 11 [3] (.bin .eql .none (.t 3) (.con (V.str ⟨3, 4476485⟩))) <|
 .m 4 11 <|
 .nil))
 (.cond (.tmp 4) .skip
 (.seq (.ops (.p 12 [3] (.bin .eql .none (.t 3) (.con (V.str ⟨7, 22026814072246082⟩))) <|
 .m 4 12 <|
 .nil))
 (.cond (.tmp 4) .skip
 (.seq (.ops (.p 13 [3] (.bin .eql .none (.t 3) (.con (V.str ⟨7, 23157120498421321⟩))) <|
 .m 4 13 <|
 .nil))
 (.cond (.tmp 4) .skip
 (.seq (.ops (.p 14 [3] (.bin .eql .none (.t 3) (.con (V.str ⟨10, 322399817400452109389381⟩))) <|
 .m 4 14 <|
 .nil))
 (.cond (.tmp 4) .skip
 (.seq (.ops (.p 15 [3] (.bin .eql .none (.t 3) (.con (V.str ⟨4, 1280070990⟩))) <|
 .m 4 15 <|
 .nil))
 (.cond (.tmp 4) .skip
 (.seq (.ops (.p 16 [3] (.bin .eql .none (.t 3) (.con (V.str ⟨5, 361940403023⟩))) <|
 .m 4 16 <|
 .nil))
 (.cond (.tmp 4) .skip
 (.seq (.ops (.p 17 [3] (.bin .eql .none (.t 3) (.con (V.str ⟨6, 78401563153491⟩))) <|
 .m 4 17 <|
 .nil))
 (.cond (.tmp 4) .skip
 (.seq (.ops (.p 18 [3] (.bin .eql .none (.t 3) (.con (V.str ⟨10, 488440487847103610377301⟩))) <|
 .m 4 18 <|
 .nil))
 (.cond (.tmp 4) .skip
 (.seq (.ops (.p 19 [3] (.bin .eql .none (.t 3) (.con (V.str ⟨8, 4990918871747741011⟩))) <|
 .m 4 19 <|
 .nil))
 (.cond (.tmp 4) .skip
 (.seq (.ops (.p 20 [3] (.bin .eql .none (.t 3) (.con (V.str ⟨3, 5522771⟩))) <|
 .m 4 20 <|
 .nil))
 (.cond (.tmp 4) .skip
 (.seq (.ops (.p 21 [3] (.bin .eql .none (.t 3) (.con (V.str ⟨6, 76155295057987⟩))) <|
 .m 4 21 <|
 .nil))
 (.cond (.tmp 4) .skip
 (.seq (.ops (.p 22 [3] (.bin .eql .none (.t 3) (.con (V.str ⟨2, 17999⟩))) <|
 .m 4 22 <|
 .nil))
 (.cond (.tmp 4) .skip
 (.seq (.ops (.p 23 [3] (.bin .eql .none (.t 3) (.con (V.str ⟨8, 5494759122808361039⟩))) <|
 .m 4 23 <|
 .nil))
 (.cond (.tmp 4) .skip
 (.seq (.ops (.p 24 [3] (.bin .eql .none (.t 3) (.con (V.str ⟨7, 23727827094750532⟩))) <|
 .m 4 24 <|
 .nil))
 (.cond (.tmp 4) .skip
 (.seq (.ops (.p 25 [3] (.bin .eql .none (.t 3) (.con (V.str ⟨4, 1163544915⟩))) <|
 .m 4 25 <|
 .nil))
 (.cond (.tmp 4) .skip
 (.seq (.ops (.p 26 [3] (.bin .eql .none (.t 3) (.con (V.str ⟨3, 5130573⟩))) <|
 .m 4 26 <|
 .nil))
 (.cond (.tmp 4) .skip
 (.seq (.ops (.p 27 [3] (.bin .eql .none (.t 3) (.con (V.str ⟨3, 5783885⟩))) <|
 .m 4 27 <|
 .nil))
 (.cond (.tmp 4) .skip
 (.seq (.ops (.p 28 [3] (.bin .eql .none (.t 3) (.con (V.str ⟨4, 1163219540⟩))) <|
 .m 4 28 <|
 .nil))
 (.cond (.tmp 4) .skip
 (.ops (.p 29 [3] (.bin .eql .none (.t 3) (.con (V.str ⟨5, 297750249798⟩))) <|
 .m 4 29 <|
 .nil))))))))))))))))))))))))))))))))))))))))))))))))))
 (.keep [(4, .bool)] [] [] cc2))))
 (.keep [] [] [] cc1)))
def T100_0 (E : List (Nat × Blk)) (D : Den) (W : DrawFn) (K2 : Bool → H → Ans) (v0 : BS) (σ : H) : Ans :=
 condK (BS.beq v0 (BS.mk 11 100710650190388740279911748)) (
 K2 (BS.beq v0 (BS.mk 11 100710650190388740279911748)) σ) (
 condK (BS.beq v0 (BS.mk 8 6073459554577832005)) (
 K2 (BS.beq v0 (BS.mk 8 6073459554577832005)) σ) (
 condK (BS.beq v0 (BS.mk 8 6073459554577829193)) (
 K2 (BS.beq v0 (BS.mk 8 6073459554577829193)) σ) (
 condK (BS.beq v0 (BS.mk 9 1241215773001651606849)) (
 K2 (BS.beq v0 (BS.mk 9 1241215773001651606849)) σ) (
 condK (BS.beq v0 (BS.mk 4 1397178708)) (
 K2 (BS.beq v0 (BS.mk 4 1397178708)) σ) (
 condK (BS.beq v0 (BS.mk 5 336236856642)) (
 K2 (BS.beq v0 (BS.mk 5 336236856642)) σ) (
 condK (BS.beq v0 (BS.mk 3 4476485)) (
 K2 (BS.beq v0 (BS.mk 3 4476485)) σ) (
 condK (BS.beq v0 (BS.mk 7 22026814072246082)) (
 K2 (BS.beq v0 (BS.mk 7 22026814072246082)) σ) (
 condK (BS.beq v0 (BS.mk 7 23157120498421321)) (
 K2 (BS.beq v0 (BS.mk 7 23157120498421321)) σ) (
 condK (BS.beq v0 (BS.mk 10 322399817400452109389381)) (
 K2 (BS.beq v0 (BS.mk 10 322399817400452109389381)) σ) (
 condK (BS.beq v0 (BS.mk 4 1280070990)) (
 K2 (BS.beq v0 (BS.mk 4 1280070990)) σ) (
 condK (BS.beq v0 (BS.mk 5 361940403023)) (
 K2 (BS.beq v0 (BS.mk 5 361940403023)) σ) (
 condK (BS.beq v0 (BS.mk 6 78401563153491)) (
 K2 (BS.beq v0 (BS.mk 6 78401563153491)) σ) (
 condK (BS.beq v0 (BS.mk 10 488440487847103610377301)) (
 K2 (BS.beq v0 (BS.mk 10 488440487847103610377301)) σ) (
 condK (BS.beq v0 (BS.mk 8 4990918871747741011)) (
 K2 (BS.beq v0 (BS.mk 8 4990918871747741011)) σ) (
 condK (BS.beq v0 (BS.mk 3 5522771)) (
 K2 (BS.beq v0 (BS.mk 3 5522771)) σ) (
 condK (BS.beq v0 (BS.mk 6 76155295057987)) (
 K2 (BS.beq v0 (BS.mk 6 76155295057987)) σ) (
 condK (BS.beq v0 (BS.mk 2 17999)) (
 K2 (BS.beq v0 (BS.mk 2 17999)) σ) (
 condK (BS.beq v0 (BS.mk 8 5494759122808361039)) (
 K2 (BS.beq v0 (BS.mk 8 5494759122808361039)) σ) (
 condK (BS.beq v0 (BS.mk 7 23727827094750532)) (
 K2 (BS.beq v0 (BS.mk 7 23727827094750532)) σ) (
 condK (BS.beq v0 (BS.mk 4 1163544915)) (
 K2 (BS.beq v0 (BS.mk 4 1163544915)) σ) (
 condK (BS.beq v0 (BS.mk 3 5130573)) (
 K2 (BS.beq v0 (BS.mk 3 5130573)) σ) (
 condK (BS.beq v0 (BS.mk 3 5783885)) (
 K2 (BS.beq v0 (BS.mk 3 5783885)) σ) (
 condK (BS.beq v0 (BS.mk 4 1163219540)) (
 K2 (BS.beq v0 (BS.mk 4 1163219540)) σ) (
 K2 (BS.beq v0 (BS.mk 5 297750249798)) σ))))))))))))))))))))))))
def C100_1 : XC := (.seq (.ops (.p 2 [] (.mov (.con (V.bool false))) <|
 .nil))
 .ret)
def T100_1 (E : List (Nat × Blk)) (D : Den) (W : DrawFn) (σ : H) : Ans :=
 some ((V.bool false), σ)
def C100_2 : XC := (.cond (.tmp 4) (.seq (.ops (.p 2 [] (.mov (.con (V.bool true))) <|
 .nil))
 .ret)
 .skip)
def T100_2 (E : List (Nat × Blk)) (D : Den) (W : DrawFn) (K1 : H → Ans) (v4 : Bool) (σ : H) : Ans :=
 condK v4 (
 some ((V.bool true), σ)) (
 K1 σ)
theorem P100_0 (cc1 : XC) (cc2 : XC) (v0 : BS) (σ : H) :
  denC E D W N (C100_0 cc1 cc2) ⟨[(0, (V.str v0))], [], [], σ⟩ (Fin100 E) (fun _ _ => none) (Fin100 E) =
  T100_0 E D W (fun v4 σ => denC E D W N cc2 ⟨[(4, (V.bool v4))], [], [], σ⟩ (fun s' => denC E D W N (.keep [] [] [] cc1) s' (Fin100 E) (fun _ _ => none) (Fin100 E)) (blkK 0 (fun s' => denC E D W N (.keep [] [] [] cc1) s' (Fin100 E) (fun _ _ => none) (Fin100 E)) (fun _ _ => none)) (Fin100 E)) v0 σ := by kernel_rfl
theorem P100_1 (σ : H) :
  denC E D W N (C100_1 ) ⟨[], [], [], σ⟩ (Fin100 E) (fun _ _ => none) (Fin100 E) =
  T100_1 E D W   σ := by kernel_rfl
theorem P100_2 (cc1 : XC) (v4 : Bool) (σ : H) :
  denC E D W N (C100_2 ) ⟨[(4, (V.bool v4))], [], [], σ⟩ (fun s' => denC E D W N (.keep [] [] [] cc1) s' (Fin100 E) (fun _ _ => none) (Fin100 E)) (blkK 0 (fun s' => denC E D W N (.keep [] [] [] cc1) s' (Fin100 E) (fun _ _ => none) (Fin100 E)) (fun _ _ => none)) (Fin100 E) =
  T100_2 E D W (fun  σ => denC E D W N cc1 ⟨[], [], [], σ⟩ (Fin100 E) (fun _ _ => none) (Fin100 E)) v4 σ := by kernel_rfl
def J100_1 (E : List (Nat × Blk)) (D : Den) (W : DrawFn) (N : Nat) : H → Ans := T100_1 E D W 
theorem JE100_1 (σ : H) :
  denC E D W N C100_1 ⟨[], [], [], σ⟩ (Fin100 E) (fun _ _ => none) (Fin100 E) = J100_1 E D W N  σ := by
  refine (P100_1 E D W N    σ).trans ?_
  kernel_rfl
def J100_2 : Bool → H → Ans := T100_2 E D W (J100_1 E D W N )
theorem JE100_2 (v4 : Bool) (σ : H) :
  denC E D W N C100_2 ⟨[(4, (V.bool v4))], [], [], σ⟩ (fun s' => denC E D W N (.keep [] [] [] C100_1) s' (Fin100 E) (fun _ _ => none) (Fin100 E)) (blkK 0 (fun s' => denC E D W N (.keep [] [] [] C100_1) s' (Fin100 E) (fun _ _ => none) (Fin100 E)) (fun _ _ => none)) (Fin100 E) = J100_2 E D W N v4 σ := by
  refine (P100_2 E D W N C100_1  v4 σ).trans ?_
  simp only [JE100_1]
  kernel_rfl
def J100_0 : BS → H → Ans := T100_0 E D W (J100_2 E D W N )
theorem JE100_0 (v0 : BS) (σ : H) :
  denC E D W N (C100_0 C100_1 C100_2) ⟨[(0, (V.str v0))], [], [], σ⟩ (Fin100 E) (fun _ _ => none) (Fin100 E) = J100_0 E D W N v0 σ := by
  refine (P100_0 E D W N C100_1 C100_2  v0 σ).trans ?_
  simp only [JE100_2]
  kernel_rfl
def F100 (args : List V) (σ : H) : Ans :=
 rtCons args fun x1 l2 =>
 rtStr x1 fun x3 =>
 rtNil l2 (
 J100_0 E D W N x3 σ)
def A100 : XFn := ⟨30, [.str], [(.tmp 2)], (C100_0 C100_1 C100_2)⟩
theorem FE100 (args : List V) (σ : H) : runX E D W N A100 args σ = F100 E D W N args σ := by
  unfold F100
  simp only [← JE100_0]
  kernel_rfl
theorem AO100 : A100.body.ok = true := by kernel_rfl

/-! ### F101: strconv.ParseInt -/
def Fin101 (E : List (Nat × Blk)) : St → Ans := fun s => resK E s [(.tmp 6), (.tmp 7)] fun l => some (oneV l, s.σ)
def C101_0 : XC := (.seq (.ops (.p 6 [] (.mov (.i 0)) <|
 .p 7 [] (.mov (.con V.nili)) <|
 .nil))
 (.seq (.ops (.m 10 0 <|
 .m 11 1 <|
 .m 12 2 <|
 .op (some 13) (.tup [.i, .any]) [10, 11, 12] (.call 127 [(.t 10), (.t 11), (.t 12)]) <|
 .m 9 13 <|
 .p 14 [9] (.extract 0 (.t 9)) <|
 .p 15 [9] (.extract 1 (.t 9)) <|
 .m 8 14 <|
 .m 7 15 <|
 .nil))
 (.seq (.seq (.ops (.m 16 7 <|
 .p 17 [16] (.bin .neq (.iface true) (.t 16) (.con V.nili)) <|
 .nil))
 (.cond (.tmp 17) (.seq (.ops (.m 18 8 <|
 .m 19 0 <|
 .m 20 1 <|
 .m 21 2 <|
 .m 22 7 <|
 .op (some 23) .one [19, 20, 21, 22] (.call 128 [(.con (V.str ⟨8, 8389723855915213136⟩)), (.t 19), (.t 20), (.t 21), (.t 22)]) <|
 .m 6 18 <|
 .m 7 23 <|
 .nil))
 .ret)
 .skip))
 (.seq (.ops (.m 24 8 <|
 .m 6 24 <|
 .p 7 [] (.mov (.con V.nili)) <|
 .nil))
 .ret))))
def T101_0 (E : List (Nat × Blk)) (D : Den) (W : DrawFn) (v0 : BS) (v1 : Int) (v2 : Int) (σ : H) : Ans :=
 callK (D 127 [(V.str v0), (V.int .i64 v1), (V.int .i64 v2)] σ) fun u1 s2 =>
 rtTup u1 fun l3 =>
 rtCons l3 fun x4 l5 =>
 rtInt .i64 x4 fun x6 =>
 rtCons l5 fun x7 l8 =>
 rtNil l8 (
 eqK (.iface true) x7 V.nili fun c9 =>
 condK (not c9) (
 callK (D 128 [(V.str (BS.mk 8 8389723855915213136)), (V.str v0), (V.int .i64 v1), (V.int .i64 v2), x7] s2) fun u10 s11 =>
 rtOne u10 (
 some ((V.tup [(V.int .i64 x6), u10]), s11))) (
 some ((V.tup [(V.int .i64 x6), V.nili]), s2)))
theorem P101_0 (v0 : BS) (v1 : Int) (v2 : Int) (σ : H) :
  denC E D W N (C101_0 ) ⟨[(0, (V.str v0)), (1, (V.int .i64 v1)), (2, (V.int .i64 v2))], [], [], σ⟩ (Fin101 E) (fun _ _ => none) (Fin101 E) =
  T101_0 E D W  v0 v1 v2 σ := by kernel_rfl
def J101_0 (E : List (Nat × Blk)) (D : Den) (W : DrawFn) (N : Nat) : BS → Int → Int → H → Ans := T101_0 E D W 
theorem JE101_0 (v0 : BS) (v1 : Int) (v2 : Int) (σ : H) :
  denC E D W N C101_0 ⟨[(0, (V.str v0)), (1, (V.int .i64 v1)), (2, (V.int .i64 v2))], [], [], σ⟩ (Fin101 E) (fun _ _ => none) (Fin101 E) = J101_0 E D W N v0 v1 v2 σ := by
  refine (P101_0 E D W N   v0 v1 v2 σ).trans ?_
  kernel_rfl
def F101 (args : List V) (σ : H) : Ans :=
 rtCons args fun x1 l2 =>
 rtStr x1 fun x3 =>
 rtCons l2 fun x4 l5 =>
 rtInt .i64 x4 fun x6 =>
 rtCons l5 fun x7 l8 =>
 rtInt .i64 x7 fun x9 =>
 rtNil l8 (
 J101_0 E D W N x3 x6 x9 σ)
def A101 : XFn := ⟨25, [.str, .i, .i], [(.tmp 6), (.tmp 7)], C101_0⟩
theorem FE101 (args : List V) (σ : H) : runX E D W N A101 args σ = F101 E D W N args σ := by
  unfold F101
  simp only [← JE101_0]
  kernel_rfl
theorem AO101 : A101.body.ok = true := by kernel_rfl

/-! ### F103: ogham_syntax.begins -/
def Fin103 (E : List (Nat × Blk)) : St → Ans := fun s => resK E s [(.tmp 2)] fun l => some (oneV l, s.σ)
def C103_0 (cc1 : XC) (cc2 : XC) : XC := (.seq (.ops (.p 1 [0] (.box 116 (.t 0)) <|
 .p 2 [] (.mov (.con (V.bool false))) <|
 .nil))
 (.seq (.seq (.ops (.p 3 [1] (.faddr 0 (.t 1)) <|
 .op (some 4) .i [3] (.load none (.t 3)) <|
 .nil))
 (.block 0 (.seq (.ops (.p 6 [4] (.bin .eql .none (.t 4) (.i 1)) <|
 .m 5 6 <|
 .nil))
 (.cond (.tmp 5) (.seq (.ops (.p 2 [] (.mov (.con (V.bool true))) <|
 .nil))
 .ret)
 (.seq (.ops (.p 8 [4] (.bin .eql .none (.t 4) (.i 6)) <|
 .m 7 8 <|
 .nil))
 (.cond (.tmp 7) (.seq (.ops (.p 9 [1] (.faddr 1 (.t 1)) <|
 .op (some 10) .str [9] (.load none (.t 9)) <|
 .p 11 [10] (.bin .eql .none (.t 10) (.con (V.str ⟨1, 91⟩))) <|
 .m 2 11 <|
 .nil))
 .ret)
 (.seq (.ops (.p 13 [4] (.bin .eql .none (.t 4) (.i 5)) <|
 .m 12 13 <|
 .nil))
 (.cond (.tmp 12) (.seq (.ops (.p 14 [1] (.faddr 1 (.t 1)) <|
 .op (some 15) .str [14] (.load none (.t 14)) <|
 .nil))
 (.block 1 (.seq (.seq (.ops (.p 17 [15] (.bin .eql .none (.t 15) (.con (V.str ⟨7, 22026814072246082⟩))) <|
 .m 16 17 <|
 .nil))
 (.cond (.tmp 16) .skip
 (.seq (.ops (.p 18 [15] (.bin .eql .none (.t 15) (.con (V.str ⟨4, 1280070990⟩))) <|
 .m 16 18 <|
 .nil))
 (.cond (.tmp 16) .skip
 (.seq (.ops (.p 19 [15] (.bin .eql .none (.t 15) (.con (V.str ⟨10, 488440487847103610377301⟩))) <|
 .m 16 19 <|
 .nil))
 (.cond (.tmp 16) .skip
 (.seq (.ops (.p 20 [15] (.bin .eql .none (.t 15) (.con (V.str ⟨7, 23157120498421321⟩))) <|
 .m 16 20 <|
 .nil))
 (.cond (.tmp 16) .skip
 (.seq (.ops (.p 21 [15] (.bin .eql .none (.t 15) (.con (V.str ⟨5, 361940403023⟩))) <|
 .m 16 21 <|
 .nil))
 (.cond (.tmp 16) .skip
 (.seq (.ops (.p 22 [15] (.bin .eql .none (.t 15) (.con (V.str ⟨10, 322399817400452109389381⟩))) <|
 .m 16 22 <|
 .nil))
 (.cond (.tmp 16) .skip
 (.seq (.ops (.p 23 [15] (.bin .eql .none (.t 15) (.con (V.str ⟨8, 4990918871747741011⟩))) <|
 .m 16 23 <|
 .nil))
 (.cond (.tmp 16) .skip
 (.seq (.ops (.p 24 [15] (.bin .eql .none (.t 15) (.con (V.str ⟨3, 5522771⟩))) <|
 .m 16 24 <|
 .nil))
 (.cond (.tmp 16) .skip
 (.ops (.p 25 [15] (.bin .eql .none (.t 15) (.con (V.str ⟨6, 76155295057987⟩))) <|
 .m 16 25 <|
 .nil))))))))))))))))))
 (.keep [(16, .bool)] [] [] cc2))))
 .skip))))))))
 (.keep [] [] [] cc1)))
def T103_0 (E : List (Nat × Blk)) (D : Den) (W : DrawFn) (K1 : H → Ans) (K2 : Bool → H → Ans) (v0_0 : Int) (v0_1 : BS) (v0_2 : Int) (σ : H) : Ans :=
 chk (allOne (V.cells (V.agg [(V.int .i64 v0_0), (V.str v0_1), (V.int .i64 v0_2)]))) (
 let s1 := newB σ (.cells (V.cells (V.agg [(V.int .i64 v0_0), (V.str v0_1), (V.int .i64 v0_2)])));
 ldK E s1 (H.next σ) 0 fun u2 =>
 rtInt .i64 u2 fun x3 =>
 condK (eqF x3 (Int.ofNat 1)) (
 some ((V.bool true), s1)) (
 condK (eqF x3 (Int.ofNat 6)) (
 ldK E s1 (H.next σ) 1 fun u4 =>
 rtStr u4 fun x5 =>
 some ((V.bool (BS.beq x5 (BS.mk 1 91))), s1)) (
 condK (eqF x3 (Int.ofNat 5)) (
 ldK E s1 (H.next σ) 1 fun u6 =>
 rtStr u6 fun x7 =>
 condK (BS.beq x7 (BS.mk 7 22026814072246082)) (
 K2 (BS.beq x7 (BS.mk 7 22026814072246082)) s1) (
 condK (BS.beq x7 (BS.mk 4 1280070990)) (
 K2 (BS.beq x7 (BS.mk 4 1280070990)) s1) (
 condK (BS.beq x7 (BS.mk 10 488440487847103610377301)) (
 K2 (BS.beq x7 (BS.mk 10 488440487847103610377301)) s1) (
 condK (BS.beq x7 (BS.mk 7 23157120498421321)) (
 K2 (BS.beq x7 (BS.mk 7 23157120498421321)) s1) (
 condK (BS.beq x7 (BS.mk 5 361940403023)) (
 K2 (BS.beq x7 (BS.mk 5 361940403023)) s1) (
 condK (BS.beq x7 (BS.mk 10 322399817400452109389381)) (
 K2 (BS.beq x7 (BS.mk 10 322399817400452109389381)) s1) (
 condK (BS.beq x7 (BS.mk 8 4990918871747741011)) (
 K2 (BS.beq x7 (BS.mk 8 4990918871747741011)) s1) (
 condK (BS.beq x7 (BS.mk 3 5522771)) (
 K2 (BS.beq x7 (BS.mk 3 5522771)) s1) (
 K2 (BS.beq x7 (BS.mk 6 76155295057987)) s1))))))))) (
 K1 s1))))
def C103_1 : XC := (.seq (.ops (.p 2 [] (.mov (.con (V.bool false))) <|
 .nil))
 .ret)
def T103_1 (E : List (Nat × Blk)) (D : Den) (W : DrawFn) (σ : H) : Ans :=
 some ((V.bool false), σ)
def C103_2 : XC := (.cond (.tmp 16) (.seq (.ops (.p 2 [] (.mov (.con (V.bool true))) <|
 .nil))
 .ret)
 .skip)
def T103_2 (E : List (Nat × Blk)) (D : Den) (W : DrawFn) (K1 : H → Ans) (v16 : Bool) (σ : H) : Ans :=
 condK v16 (
 some ((V.bool true), σ)) (
 K1 σ)
theorem P103_0 (cc1 : XC) (cc2 : XC) (v0_0 : Int) (v0_1 : BS) (v0_2 : Int) (σ : H) :
  denC E D W N (C103_0 cc1 cc2) ⟨[(0, (V.agg [(V.int .i64 v0_0), (V.str v0_1), (V.int .i64 v0_2)]))], [], [], σ⟩ (Fin103 E) (fun _ _ => none) (Fin103 E) =
  T103_0 E D W (fun  σ => denC E D W N cc1 ⟨[], [], [], σ⟩ (Fin103 E) (fun _ _ => none) (Fin103 E)) (fun v16 σ => denC E D W N cc2 ⟨[(16, (V.bool v16))], [], [], σ⟩ (fun s' => denC E D W N (.keep [] [] [] cc1) s' (Fin103 E) (fun _ _ => none) (Fin103 E)) (blkK 1 (fun s' => denC E D W N (.keep [] [] [] cc1) s' (Fin103 E) (fun _ _ => none) (Fin103 E)) (blkK 0 (fun s' => denC E D W N (.keep [] [] [] cc1) s' (Fin103 E) (fun _ _ => none) (Fin103 E)) (fun _ _ => none))) (Fin103 E)) v0_0 v0_1 v0_2 σ := by kernel_rfl
theorem P103_1 (σ : H) :
  denC E D W N (C103_1 ) ⟨[], [], [], σ⟩ (Fin103 E) (fun _ _ => none) (Fin103 E) =
  T103_1 E D W   σ := by kernel_rfl
theorem P103_2 (cc1 : XC) (v16 : Bool) (σ : H) :
  denC E D W N (C103_2 ) ⟨[(16, (V.bool v16))], [], [], σ⟩ (fun s' => denC E D W N (.keep [] [] [] cc1) s' (Fin103 E) (fun _ _ => none) (Fin103 E)) (blkK 1 (fun s' => denC E D W N (.keep [] [] [] cc1) s' (Fin103 E) (fun _ _ => none) (Fin103 E)) (blkK 0 (fun s' => denC E D W N (.keep [] [] [] cc1) s' (Fin103 E) (fun _ _ => none) (Fin103 E)) (fun _ _ => none))) (Fin103 E) =
  T103_2 E D W (fun  σ => denC E D W N cc1 ⟨[], [], [], σ⟩ (Fin103 E) (fun _ _ => none) (Fin103 E)) v16 σ := by kernel_rfl
def J103_1 (E : List (Nat × Blk)) (D : Den) (W : DrawFn) (N : Nat) : H → Ans := T103_1 E D W 
theorem JE103_1 (σ : H) :
  denC E D W N C103_1 ⟨[], [], [], σ⟩ (Fin103 E) (fun _ _ => none) (Fin103 E) = J103_1 E D W N  σ := by
  refine (P103_1 E D W N    σ).trans ?_
  kernel_rfl
def J103_2 : Bool → H → Ans := T103_2 E D W (J103_1 E D W N )
theorem JE103_2 (v16 : Bool) (σ : H) :
  denC E D W N C103_2 ⟨[(16, (V.bool v16))], [], [], σ⟩ (fun s' => denC E D W N (.keep [] [] [] C103_1) s' (Fin103 E) (fun _ _ => none) (Fin103 E)) (blkK 1 (fun s' => denC E D W N (.keep [] [] [] C103_1) s' (Fin103 E) (fun _ _ => none) (Fin103 E)) (blkK 0 (fun s' => denC E D W N (.keep [] [] [] C103_1) s' (Fin103 E) (fun _ _ => none) (Fin103 E)) (fun _ _ => none))) (Fin103 E) = J103_2 E D W N v16 σ := by
  refine (P103_2 E D W N C103_1  v16 σ).trans ?_
  simp only [JE103_1]
  kernel_rfl
def J103_0 : Int → BS → Int → H → Ans := T103_0 E D W (J103_1 E D W N ) (J103_2 E D W N )
theorem JE103_0 (v0_0 : Int) (v0_1 : BS) (v0_2 : Int) (σ : H) :
  denC E D W N (C103_0 C103_1 C103_2) ⟨[(0, (V.agg [(V.int .i64 v0_0), (V.str v0_1), (V.int .i64 v0_2)]))], [], [], σ⟩ (Fin103 E) (fun _ _ => none) (Fin103 E) = J103_0 E D W N v0_0 v0_1 v0_2 σ := by
  refine (P103_0 E D W N C103_1 C103_2  v0_0 v0_1 v0_2 σ).trans ?_
  simp only [JE103_1, JE103_2]
  kernel_rfl
def F103 (args : List V) (σ : H) : Ans :=
 rtCons args fun x1 l2 =>
 rtAgg x1 fun l3 =>
 rtCons l3 fun x4 l5 =>
 rtInt .i64 x4 fun x6 =>
 rtCons l5 fun x7 l8 =>
 rtStr x7 fun x9 =>
 rtCons l8 fun x10 l11 =>
 rtInt .i64 x10 fun x12 =>
 rtNil l11 (
 rtNil l2 (
 J103_0 E D W N x6 x9 x12 σ))
def A103 : XFn := ⟨26, [(.agg [.i, .str, .i])], [(.tmp 2)], (C103_0 C103_1 C103_2)⟩
theorem FE103 (args : List V) (σ : H) : runX E D W N A103 args σ = F103 E D W N args σ := by
  unfold F103
  simp only [← JE103_0]
  kernel_rfl
theorem AO103 : A103.body.ok = true := by kernel_rfl

/-! ### F104: __ogham_syntax.parser_.node -/
def G104_0 : List AOper := [⟨(some 31), .faddr 1 (.tmp 9), none⟩, ⟨(some 32), .load none (.tmp 31), none⟩, ⟨(some 33), .faddr 0 (.tmp 8), none⟩, ⟨none, .store 1 (.tmp 33) (.con (V.int .i64 (Int.ofNat 11))), none⟩, ⟨(some 34), .faddr 1 (.tmp 8), none⟩, ⟨none, .store 1 (.tmp 34) (.tmp 32), none⟩]
def H104_0 : List DP := [⟨0, [9]⟩, ⟨1, [31]⟩, ⟨0, [8]⟩, ⟨4, [33]⟩, ⟨15, [8]⟩, ⟨31, [34, 32]⟩]
def Fin104 (E : List (Nat × Blk)) : St → Ans := fun s => resK E s [(.cell 4 (some 16)), (.tmp 5)] fun l => some (oneV l, s.σ)
def C104_0 (cc1 : XC) : XC := (.seq (.ops (.p 4 [] (.alloc 136 [(V.int .i64 (Int.ofNat 0)), (V.str ⟨0, 0⟩), (V.bool false), (V.int .i64 (Int.ofNat 0)), (V.int .i64 (Int.ofNat 0)), (V.bool false), (V.bool false), (V.bool false), (V.bool false), (V.int .i64 (Int.ofNat 0)), (V.int .i64 (Int.ofNat 0)), V.nils, V.nils, (V.int .i64 (Int.ofNat 0)), (V.bool false), (V.int .i64 (Int.ofNat 0))]) <|
 .p 5 [] (.mov (.con (V.bool false))) <|
 .nil))
 (.seq (.ops (.m 11 0 <|
 .op (some 12) (.tup [(.agg [.bool, .i, .i]), .bool]) [11] (.call 130 [(.t 11)]) <|
 .m 10 12 <|
 .p 13 [10] (.extract 0 (.t 10)) <|
 .p 14 [10] (.extract 1 (.t 10)) <|
 .pal 6 [] 130 [(V.bool false), (V.int .i64 (Int.ofNat 0)), (V.int .i64 (Int.ofNat 0))] <|
 .op none (.agg [.bool, .i, .i]) [6, 13] (.store 3 (.t 6) (.t 13)) <|
 .m 7 14 <|
 .nil))
 (.seq (.seq (.ops (.m 15 7 <|
 .p 16 [15] (.un .not (.t 15)) <|
 .nil))
 (.cond (.tmp 16) (.seq (.ops (.op (some 17) (.agg [.i, .str, .bool, .i, .i, .bool, .bool, .bool, .bool, .i, .i, .any, .any, .i, .bool, .i]) [] (.build [(V.int .i64 (Int.ofNat 0)), (V.str ⟨0, 0⟩), (V.bool false), (V.int .i64 (Int.ofNat 0)), (V.int .i64 (Int.ofNat 0)), (V.bool false), (V.bool false), (V.bool false), (V.bool false), (V.int .i64 (Int.ofNat 0)), (V.int .i64 (Int.ofNat 0)), V.nils, V.nils, (V.int .i64 (Int.ofNat 0)), (V.bool false), (V.int .i64 (Int.ofNat 0))] []) <|
 .op none (.agg [.i, .str, .bool, .i, .i, .bool, .bool, .bool, .bool, .i, .i, .any, .any, .i, .bool, .i]) [4, 17] (.store 16 (.t 4) (.t 17)) <|
 .p 5 [] (.mov (.con (V.bool false))) <|
 .nil))
 .ret)
 .skip))
 (.seq (.ops (.op (some 18) (.agg [.bool, .i, .i]) [6] (.load (some 3) (.t 6)) <|
 .op (some 19) (.agg [.i, .str, .bool, .i, .i, .bool, .bool, .bool, .bool, .i, .i, .any, .any, .i, .bool, .i]) [18] (.build [(V.int .i64 (Int.ofNat 0)), (V.str ⟨0, 0⟩), (V.bool false), (V.int .i64 (Int.ofNat 0)), (V.int .i64 (Int.ofNat 0)), (V.bool false), (V.bool false), (V.bool false), (V.bool false), (V.int .i64 (Int.ofNat 0)), (V.int .i64 (Int.ofNat 0)), V.nils, V.nils, (V.int .i64 (Int.ofNat 0)), (V.bool false), (V.int .i64 (Int.ofNat 0))] [(2, 3, (.t 18))]) <|
 .p 8 [] (.alloc 136 [(V.int .i64 (Int.ofNat 0)), (V.str ⟨0, 0⟩), (V.bool false), (V.int .i64 (Int.ofNat 0)), (V.int .i64 (Int.ofNat 0)), (V.bool false), (V.bool false), (V.bool false), (V.bool false), (V.int .i64 (Int.ofNat 0)), (V.int .i64 (Int.ofNat 0)), V.nils, V.nils, (V.int .i64 (Int.ofNat 0)), (V.bool false), (V.int .i64 (Int.ofNat 0))]) <|
 .op none (.agg [.i, .str, .bool, .i, .i, .bool, .bool, .bool, .bool, .i, .i, .any, .any, .i, .bool, .i]) [8, 19] (.store 16 (.t 8) (.t 19)) <|
 .nil))
 (.seq (.seq (.ops (.m 20 0 <|
 .p 21 [20] (.nilck (.t 20)) <|
 .p 22 [21] (.faddr 0 (.t 21)) <|
 .op (some 23) (.agg [.i, .str, .i]) [22] (.call 45 [(.t 22)]) <|
 .p 9 [] (.alloc 116 [(V.int .i64 (Int.ofNat 0)), (V.str ⟨0, 0⟩), (V.int .i64 (Int.ofNat 0))]) <|
 .op none (.agg [.i, .str, .i]) [9, 23] (.store 3 (.t 9) (.t 23)) <|
 .nil))
 (.seq (.ops (.p 24 [9] (.faddr 0 (.t 9)) <|
 .op (some 25) .i [24] (.load none (.t 24)) <|
 .p 26 [25] (.bin .eql .none (.t 25) (.i 1)) <|
 .nil))
 (.cond (.tmp 26) (.seq (.ops (.m 27 0 <|
 .p 28 [27] (.nilck (.t 27)) <|
 .p 29 [28] (.faddr 0 (.t 28)) <|
 .op (some 30) (.agg [.i, .str, .i]) [29] (.call 74 [(.t 29)]) <|
 .nil))
 (.seq (.keep [(4, .ptr), (8, .ptr), (9, .ptr)] [] [] (.gdraw G104_0 H104_0 [(4, .ptr), (8, .ptr)]))
 (.seq (.ops (.op (some 35) (.agg [.i, .str, .bool, .i, .i, .bool, .bool, .bool, .bool, .i, .i, .any, .any, .i, .bool, .i]) [8] (.load (some 16) (.t 8)) <|
 .op none (.agg [.i, .str, .bool, .i, .i, .bool, .bool, .bool, .bool, .i, .i, .any, .any, .i, .bool, .i]) [4, 35] (.store 16 (.t 4) (.t 35)) <|
 .p 5 [] (.mov (.con (V.bool true))) <|
 .nil))
 .ret)))
 .skip)))
 (.seq (.block 0 (.seq (.ops (.m 44 0 <|
 .p 45 [44] (.nilck (.t 44)) <|
 .p 46 [45] (.faddr 0 (.t 45)) <|
 .op (some 47) .bool [46] (.call 75 [(.t 46), (.con (V.str ⟨7, 22026814072246082⟩))]) <|
 .m 43 47 <|
 .nil))
 (.cond (.tmp 43) (.ops (.p 48 [8] (.faddr 0 (.t 8)) <|
 .op none .any [48] (.store 1 (.t 48) (.i 1)) <|
 .nil))
 (.seq (.ops (.m 50 0 <|
 .p 51 [50] (.nilck (.t 50)) <|
 .p 52 [51] (.faddr 0 (.t 51)) <|
 .op (some 53) .bool [52] (.call 75 [(.t 52), (.con (V.str ⟨4, 1280070990⟩))]) <|
 .m 49 53 <|
 .nil))
 (.cond (.tmp 49) (.ops (.p 54 [8] (.faddr 0 (.t 8)) <|
 .op none .any [54] (.store 1 (.t 54) (.i 4)) <|
 .nil))
 (.seq (.ops (.m 56 0 <|
 .p 57 [56] (.nilck (.t 56)) <|
 .p 58 [57] (.faddr 0 (.t 57)) <|
 .op (some 59) .bool [58] (.call 75 [(.t 58), (.con (V.str ⟨10, 488440487847103610377301⟩))]) <|
 .m 55 59 <|
 .nil))
 (.cond (.tmp 55) (.seq (.ops (.p 60 [8] (.faddr 0 (.t 8)) <|
 .op none .any [60] (.store 1 (.t 60) (.i 6)) <|
 .nil))
 (.ops (.m 61 0 <|
 .p 62 [8] (.faddr 5 (.t 8)) <|
 .op (some 63) .bool [61, 62] (.call 131 [(.t 61), (.t 62)]) <|
 .m 7 63 <|
 .nil)))
 (.seq (.ops (.m 65 0 <|
 .p 66 [65] (.nilck (.t 65)) <|
 .p 67 [66] (.faddr 0 (.t 66)) <|
 .op (some 68) .bool [67] (.call 75 [(.t 67), (.con (V.str ⟨7, 23157120498421321⟩))]) <|
 .m 64 68 <|
 .nil))
 (.cond (.tmp 64) (.seq (.ops (.p 69 [8] (.faddr 0 (.t 8)) <|
 .op none .any [69] (.store 1 (.t 69) (.i 2)) <|
 .nil))
 (.ops (.m 70 0 <|
 .p 71 [70] (.nilck (.t 70)) <|
 .p 72 [71] (.faddr 0 (.t 71)) <|
 .op (some 73) .bool [72] (.call 75 [(.t 72), (.con (V.str ⟨1, 40⟩))]) <|
 .p 74 [73] (.un .not (.t 73)) <|
 .m 75 74 <|
 .grp 75 false (.p 76 [0, 75] (.mov (.t 0)) <|
 .p 77 [8, 75] (.faddr 5 (.t 8)) <|
 .op (some 78) .bool [76, 77, 75] (.call 132 [(.t 76), (.t 77)]) <|
 .p 79 [78, 75] (.mov (.t 78)) <|
 .grp 79 true (.p 80 [0, 79] (.mov (.t 0)) <|
 .p 81 [79] (.buildSlice 9 1 [(V.str ⟨0, 0⟩)] [(0, 1, (.con (V.str ⟨1, 41⟩)))]) <|
 .op (some 82) .bool [80, 81, 79] (.call 43 [(.t 80), (.t 81)]) <|
 .nil) 83 [79, 82, 75] (.t 79) (.t 82) (.con (V.bool false)) <|
 .nil) 84 [75, 83] (.t 75) (.con (V.bool true)) (.t 83) <|
 .m 7 84 <|
 .nil)))
 (.seq (.ops (.m 86 0 <|
 .p 87 [86] (.nilck (.t 86)) <|
 .p 88 [87] (.faddr 0 (.t 87)) <|
 .op (some 89) .bool [88] (.call 75 [(.t 88), (.con (V.str ⟨5, 361940403023⟩))]) <|
 .m 85 89 <|
 .nil))
 (.cond (.tmp 85) (.seq (.ops (.p 90 [8] (.faddr 0 (.t 8)) <|
 .op none .any [90] (.store 1 (.t 90) (.i 5)) <|
 .nil))
 (.ops (.m 91 0 <|
 .p 92 [] (.buildSlice 9 1 [(V.str ⟨0, 0⟩)] [(0, 1, (.con (V.str ⟨6, 78401563153491⟩)))]) <|
 .op (some 93) .bool [91, 92] (.call 43 [(.t 91), (.t 92)]) <|
 .m 94 93 <|
 .grp 94 true (.p 95 [0, 94] (.mov (.t 0)) <|
 .p 96 [8, 94] (.faddr 5 (.t 8)) <|
 .op (some 97) .bool [95, 96, 94] (.call 131 [(.t 95), (.t 96)]) <|
 .nil) 98 [94, 97] (.t 94) (.t 97) (.con (V.bool false)) <|
 .m 7 98 <|
 .nil)))
 (.seq (.ops (.m 100 0 <|
 .p 101 [100] (.nilck (.t 100)) <|
 .p 102 [101] (.faddr 0 (.t 101)) <|
 .op (some 103) .bool [102] (.call 75 [(.t 102), (.con (V.str ⟨10, 322399817400452109389381⟩))]) <|
 .m 99 103 <|
 .nil))
 (.cond (.tmp 99) (.seq (.ops (.p 104 [8] (.faddr 0 (.t 8)) <|
 .op none .any [104] (.store 1 (.t 104) (.i 3)) <|
 .nil))
 (.ops (.m 105 0 <|
 .op (some 106) .bool [105, 8] (.call 133 [(.t 105), (.t 8)]) <|
 .m 7 106 <|
 .nil)))
 (.seq (.ops (.m 108 0 <|
 .p 109 [108] (.nilck (.t 108)) <|
 .p 110 [109] (.faddr 0 (.t 109)) <|
 .op (some 111) .bool [110] (.call 75 [(.t 110), (.con (V.str ⟨3, 5522771⟩))]) <|
 .m 107 111 <|
 .nil))
 (.cond (.tmp 107) (.seq (.ops (.p 112 [8] (.faddr 0 (.t 8)) <|
 .op none .any [112] (.store 1 (.t 112) (.i 8)) <|
 .nil))
 (.ops (.m 113 0 <|
 .m 114 1 <|
 .op (some 115) .bool [113, 8, 114] (.call 134 [(.t 113), (.t 8), (.t 114)]) <|
 .m 7 115 <|
 .nil)))
 (.seq (.ops (.m 117 0 <|
 .p 118 [117] (.nilck (.t 117)) <|
 .p 119 [118] (.faddr 0 (.t 118)) <|
 .op (some 120) .bool [119] (.call 75 [(.t 119), (.con (V.str ⟨6, 76155295057987⟩))]) <|
 .m 116 120 <|
 .nil))
 (.cond (.tmp 116) (.seq (.ops (.p 121 [8] (.faddr 0 (.t 8)) <|
 .op none .any [121] (.store 1 (.t 121) (.i 9)) <|
 .nil))
 (.ops (.m 122 0 <|
 .m 123 1 <|
 .op (some 124) .bool [122, 8, 123] (.call 134 [(.t 122), (.t 8), (.t 123)]) <|
 .m 7 124 <|
 .nil)))
 (.seq (.ops (.m 126 0 <|
 .p 127 [126] (.nilck (.t 126)) <|
 .p 128 [127] (.faddr 0 (.t 127)) <|
 .op (some 129) .bool [128] (.call 75 [(.t 128), (.con (V.str ⟨8, 4990918871747741011⟩))]) <|
 .m 125 129 <|
 .nil))
 (.cond (.tmp 125) (.ops (.m 130 0 <|
 .m 131 1 <|
 .op (some 132) .bool [130, 8, 131] (.call 135 [(.t 130), (.t 8), (.t 131)]) <|
 .m 7 132 <|
 .nil))
 (.ops (.m 36 0 <|
 .m 37 0 <|
 .p 38 [37] (.nilck (.t 37)) <|
 .p 39 [38] (.faddr 0 (.t 38)) <|
 .op (some 40) (.agg [.i, .str, .i]) [39] (.call 45 [(.t 39)]) <|
 .op (some 41) .i [40] (.field 2 none (.t 40)) <|
 .op (some 42) .bool [36, 41] (.call 73 [(.t 36), (.t 41), (.i 7)]) <|
 .m 7 42 <|
 .nil)))))))))))))))))))))
 (.keep [(4, .ptr), (7, .bool), (8, .ptr)] [] [] cc1)))))))
def T104_0 (K1 : Nat → Nat → Bool → Nat → Nat → H → Ans) (v0b : Nat) (v0o : Nat) (v1 : Int) (σ : H) : Ans :=
 let s1 := newB σ (.cells [(V.int .i64 (Int.ofNat 0)), (V.str ⟨0, 0⟩), (V.bool false), (V.int .i64 (Int.ofNat 0)), (V.int .i64 (Int.ofNat 0)), (V.bool false), (V.bool false), (V.bool false), (V.bool false), (V.int .i64 (Int.ofNat 0)), (V.int .i64 (Int.ofNat 0)), V.nils, V.nils, (V.int .i64 (Int.ofNat 0)), (V.bool false), (V.int .i64 (Int.ofNat 0))]);
 callK (D 130 [(V.ptr v0b v0o)] s1) fun u2 s3 =>
 rtTup u2 fun l4 =>
 rtCons l4 fun x5 l6 =>
 rtAgg x5 fun l7 =>
 rtCons l7 fun x8 l9 =>
 rtBool x8 fun x10 =>
 rtCons l9 fun x11 l12 =>
 rtInt .i64 x11 fun x13 =>
 rtCons l12 fun x14 l15 =>
 rtInt .i64 x14 fun x16 =>
 rtNil l15 (
 rtCons l6 fun x17 l18 =>
 rtBool x17 fun x19 =>
 rtNil l18 (
 condK (not x19) (
 stK 16 (H.next σ) 0 (V.agg [(V.int .i64 (Int.ofNat 0)), (V.str (BS.mk 0 0)), (V.bool false), (V.int .i64 (Int.ofNat 0)), (V.int .i64 (Int.ofNat 0)), (V.bool false), (V.bool false), (V.bool false), (V.bool false), (V.int .i64 (Int.ofNat 0)), (V.int .i64 (Int.ofNat 0)), V.nils, V.nils, (V.int .i64 (Int.ofNat 0)), (V.bool false), (V.int .i64 (Int.ofNat 0))]) s3 fun s20 =>
 ldnK E s20 (H.next σ) 0 16 fun u21 =>
 some ((V.tup [(V.agg u21), (V.bool false)]), s20)) (
 let s22 := newB s3 (.cells [(V.int .i64 (Int.ofNat 0)), (V.str ⟨0, 0⟩), (V.bool false), (V.int .i64 (Int.ofNat 0)), (V.int .i64 (Int.ofNat 0)), (V.bool false), (V.bool false), (V.bool false), (V.bool false), (V.int .i64 (Int.ofNat 0)), (V.int .i64 (Int.ofNat 0)), V.nils, V.nils, (V.int .i64 (Int.ofNat 0)), (V.bool false), (V.int .i64 (Int.ofNat 0))]);
 stK 16 (H.next s3) 0 (V.agg [(V.int .i64 (Int.ofNat 0)), (V.str (BS.mk 0 0)), (V.bool x10), (V.int .i64 x13), (V.int .i64 x16), (V.bool false), (V.bool false), (V.bool false), (V.bool false), (V.int .i64 (Int.ofNat 0)), (V.int .i64 (Int.ofNat 0)), V.nils, V.nils, (V.int .i64 (Int.ofNat 0)), (V.bool false), (V.int .i64 (Int.ofNat 0))]) s22 fun s23 =>
 callK (D 45 [(V.ptr v0b v0o)] s23) fun u24 s25 =>
 rtAgg u24 fun l26 =>
 rtCons l26 fun x27 l28 =>
 rtInt .i64 x27 fun x29 =>
 rtCons l28 fun x30 l31 =>
 rtStr x30 fun x32 =>
 rtCons l31 fun x33 l34 =>
 rtInt .i64 x33 fun x35 =>
 rtNil l34 (
 let s36 := newB s25 (.cells [(V.int .i64 (Int.ofNat 0)), (V.str ⟨0, 0⟩), (V.int .i64 (Int.ofNat 0))]);
 stK 3 (H.next s25) 0 (V.agg [(V.int .i64 x29), (V.str x32), (V.int .i64 x35)]) s36 fun s37 =>
 ldK E s37 (H.next s25) 0 fun u38 =>
 rtInt .i64 u38 fun x39 =>
 condK (eqF x39 (Int.ofNat 1)) (
 callK (D 74 [(V.ptr v0b v0o)] s37) fun u40 s41 =>
 rtAgg u40 fun l42 =>
 rtCons l42 fun x43 l44 =>
 rtInt .i64 x43 fun x45 =>
 rtCons l44 fun x46 l47 =>
 rtStr x46 fun x48 =>
 rtCons l47 fun x49 l50 =>
 rtInt .i64 x49 fun x51 =>
 rtNil l50 (
 gdrawK (W G104_0 H104_0 [(4, (V.ptr (H.next σ) 0)), (8, (V.ptr (H.next s3) 0)), (9, (V.ptr (H.next s25) 0))] s41) fun e52 s53 =>
 getL e52 4 fun u54 =>
 rtPtr u54 fun b55 o56 =>
 getL e52 8 fun u57 =>
 rtPtr u57 fun b58 o59 =>
 ldnK E s53 b58 o59 16 fun l60 =>
 rtCons l60 fun x61 l62 =>
 rtInt .i64 x61 fun x63 =>
 rtCons l62 fun x64 l65 =>
 rtStr x64 fun x66 =>
 rtCons l65 fun x67 l68 =>
 rtBool x67 fun x69 =>
 rtCons l68 fun x70 l71 =>
 rtInt .i64 x70 fun x72 =>
 rtCons l71 fun x73 l74 =>
 rtInt .i64 x73 fun x75 =>
 rtCons l74 fun x76 l77 =>
 rtBool x76 fun x78 =>
 rtCons l77 fun x79 l80 =>
 rtBool x79 fun x81 =>
 rtCons l80 fun x82 l83 =>
 rtBool x82 fun x84 =>
 rtCons l83 fun x85 l86 =>
 rtBool x85 fun x87 =>
 rtCons l86 fun x88 l89 =>
 rtInt .i64 x88 fun x90 =>
 rtCons l89 fun x91 l92 =>
 rtInt .i64 x91 fun x93 =>
 rtCons l92 fun x94 l95 =>
 rtCons l95 fun x96 l97 =>
 rtCons l97 fun x98 l99 =>
 rtInt .i64 x98 fun x100 =>
 rtCons l99 fun x101 l102 =>
 rtBool x101 fun x103 =>
 rtCons l102 fun x104 l105 =>
 rtInt .i64 x104 fun x106 =>
 rtNil l105 (
 stK 16 b55 o56 (V.agg [(V.int .i64 x63), (V.str x66), (V.bool x69), (V.int .i64 x72), (V.int .i64 x75), (V.bool x78), (V.bool x81), (V.bool x84), (V.bool x87), (V.int .i64 x90), (V.int .i64 x93), x94, x96, (V.int .i64 x100), (V.bool x103), (V.int .i64 x106)]) s53 fun s107 =>
 ldnK E s107 b55 o56 16 fun u108 =>
 some ((V.tup [(V.agg u108), (V.bool true)]), s107)))) (
 callK (D 75 [(V.ptr v0b v0o), (V.str (BS.mk 7 22026814072246082))] s37) fun u109 s110 =>
 rtBool u109 fun x111 =>
 condK x111 (
 stK 1 (H.next s3) 0 (V.int .i64 (Int.ofNat 1)) s110 fun s112 =>
 K1 (H.next σ) 0 x19 (H.next s3) 0 s112) (
 callK (D 75 [(V.ptr v0b v0o), (V.str (BS.mk 4 1280070990))] s110) fun u113 s114 =>
 rtBool u113 fun x115 =>
 condK x115 (
 stK 1 (H.next s3) 0 (V.int .i64 (Int.ofNat 4)) s114 fun s116 =>
 K1 (H.next σ) 0 x19 (H.next s3) 0 s116) (
 callK (D 75 [(V.ptr v0b v0o), (V.str (BS.mk 10 488440487847103610377301))] s114) fun u117 s118 =>
 rtBool u117 fun x119 =>
 condK x119 (
 stK 1 (H.next s3) 0 (V.int .i64 (Int.ofNat 6)) s118 fun s120 =>
 callK (D 131 [(V.ptr v0b v0o), (V.ptr (H.next s3) 5)] s120) fun u121 s122 =>
 rtBool u121 fun x123 =>
 K1 (H.next σ) 0 x123 (H.next s3) 0 s122) (
 callK (D 75 [(V.ptr v0b v0o), (V.str (BS.mk 7 23157120498421321))] s118) fun u124 s125 =>
 rtBool u124 fun x126 =>
 condK x126 (
 stK 1 (H.next s3) 0 (V.int .i64 (Int.ofNat 2)) s125 fun s127 =>
 callK (D 75 [(V.ptr v0b v0o), (V.str (BS.mk 1 40))] s127) fun u128 s129 =>
 rtBool u128 fun x130 =>
 joinB (fun c131 s132 =>
 K1 (H.next σ) 0 c131 (H.next s3) 0 s132) fun k133 =>
 condK (not x130) (
 k133 true s129) (
 callK (D 132 [(V.ptr v0b v0o), (V.ptr (H.next s3) 5)] s129) fun u134 s135 =>
 rtBool u134 fun x136 =>
 joinB (fun c137 s138 =>
 k133 c137 s138) fun k139 =>
 condK x136 (
 let s140 := newB s135 (.cells [(V.str (BS.mk 1 41))]);
 callK (D 43 [(V.ptr v0b v0o), (V.sl (H.next s135) 0 1 (.ex 1))] s140) fun u141 s142 =>
 rtBool u141 fun x143 =>
 k139 x143 s142) (
 k139 false s135))) (
 callK (D 75 [(V.ptr v0b v0o), (V.str (BS.mk 5 361940403023))] s125) fun u144 s145 =>
 rtBool u144 fun x146 =>
 condK x146 (
 stK 1 (H.next s3) 0 (V.int .i64 (Int.ofNat 5)) s145 fun s147 =>
 let s148 := newB s147 (.cells [(V.str (BS.mk 6 78401563153491))]);
 callK (D 43 [(V.ptr v0b v0o), (V.sl (H.next s147) 0 1 (.ex 1))] s148) fun u149 s150 =>
 rtBool u149 fun x151 =>
 joinB (fun c152 s153 =>
 K1 (H.next σ) 0 c152 (H.next s3) 0 s153) fun k154 =>
 condK x151 (
 callK (D 131 [(V.ptr v0b v0o), (V.ptr (H.next s3) 5)] s150) fun u155 s156 =>
 rtBool u155 fun x157 =>
 k154 x157 s156) (
 k154 false s150)) (
 callK (D 75 [(V.ptr v0b v0o), (V.str (BS.mk 10 322399817400452109389381))] s145) fun u158 s159 =>
 rtBool u158 fun x160 =>
 condK x160 (
 stK 1 (H.next s3) 0 (V.int .i64 (Int.ofNat 3)) s159 fun s161 =>
 callK (D 133 [(V.ptr v0b v0o), (V.ptr (H.next s3) 0)] s161) fun u162 s163 =>
 rtBool u162 fun x164 =>
 K1 (H.next σ) 0 x164 (H.next s3) 0 s163) (
 callK (D 75 [(V.ptr v0b v0o), (V.str (BS.mk 3 5522771))] s159) fun u165 s166 =>
 rtBool u165 fun x167 =>
 condK x167 (
 stK 1 (H.next s3) 0 (V.int .i64 (Int.ofNat 8)) s166 fun s168 =>
 callK (D 134 [(V.ptr v0b v0o), (V.ptr (H.next s3) 0), (V.int .i64 v1)] s168) fun u169 s170 =>
 rtBool u169 fun x171 =>
 K1 (H.next σ) 0 x171 (H.next s3) 0 s170) (
 callK (D 75 [(V.ptr v0b v0o), (V.str (BS.mk 6 76155295057987))] s166) fun u172 s173 =>
 rtBool u172 fun x174 =>
 condK x174 (
 stK 1 (H.next s3) 0 (V.int .i64 (Int.ofNat 9)) s173 fun s175 =>
 callK (D 134 [(V.ptr v0b v0o), (V.ptr (H.next s3) 0), (V.int .i64 v1)] s175) fun u176 s177 =>
 rtBool u176 fun x178 =>
 K1 (H.next σ) 0 x178 (H.next s3) 0 s177) (
 callK (D 75 [(V.ptr v0b v0o), (V.str (BS.mk 8 4990918871747741011))] s173) fun u179 s180 =>
 rtBool u179 fun x181 =>
 condK x181 (
 callK (D 135 [(V.ptr v0b v0o), (V.ptr (H.next s3) 0), (V.int .i64 v1)] s180) fun u182 s183 =>
 rtBool u182 fun x184 =>
 K1 (H.next σ) 0 x184 (H.next s3) 0 s183) (
 callK (D 45 [(V.ptr v0b v0o)] s180) fun u185 s186 =>
 rtAgg u185 fun l187 =>
 rtCons l187 fun x188 l189 =>
 rtInt .i64 x188 fun x190 =>
 rtCons l189 fun x191 l192 =>
 rtStr x191 fun x193 =>
 rtCons l192 fun x194 l195 =>
 rtInt .i64 x194 fun x196 =>
 rtNil l195 (
 callK (D 73 [(V.ptr v0b v0o), (V.int .i64 x196), (V.int .i64 (Int.ofNat 7))] s186) fun u197 s198 =>
 rtBool u197 fun x199 =>
 K1 (H.next σ) 0 x199 (H.next s3) 0 s198)))))))))))))))
def C104_1 : XC := (.seq (.ops (.op (some 133) (.agg [.i, .str, .bool, .i, .i, .bool, .bool, .bool, .bool, .i, .i, .any, .any, .i, .bool, .i]) [8] (.load (some 16) (.t 8)) <|
 .m 134 7 <|
 .op none (.agg [.i, .str, .bool, .i, .i, .bool, .bool, .bool, .bool, .i, .i, .any, .any, .i, .bool, .i]) [4, 133] (.store 16 (.t 4) (.t 133)) <|
 .m 5 134 <|
 .nil))
 .ret)
def T104_1 (E : List (Nat × Blk)) (D : Den) (W : DrawFn) (v4b : Nat) (v4o : Nat) (v7 : Bool) (v8b : Nat) (v8o : Nat) (σ : H) : Ans :=
 ldnK E σ v8b v8o 16 fun l1 =>
 rtCons l1 fun x2 l3 =>
 rtInt .i64 x2 fun x4 =>
 rtCons l3 fun x5 l6 =>
 rtStr x5 fun x7 =>
 rtCons l6 fun x8 l9 =>
 rtBool x8 fun x10 =>
 rtCons l9 fun x11 l12 =>
 rtInt .i64 x11 fun x13 =>
 rtCons l12 fun x14 l15 =>
 rtInt .i64 x14 fun x16 =>
 rtCons l15 fun x17 l18 =>
 rtBool x17 fun x19 =>
 rtCons l18 fun x20 l21 =>
 rtBool x20 fun x22 =>
 rtCons l21 fun x23 l24 =>
 rtBool x23 fun x25 =>
 rtCons l24 fun x26 l27 =>
 rtBool x26 fun x28 =>
 rtCons l27 fun x29 l30 =>
 rtInt .i64 x29 fun x31 =>
 rtCons l30 fun x32 l33 =>
 rtInt .i64 x32 fun x34 =>
 rtCons l33 fun x35 l36 =>
 rtCons l36 fun x37 l38 =>
 rtCons l38 fun x39 l40 =>
 rtInt .i64 x39 fun x41 =>
 rtCons l40 fun x42 l43 =>
 rtBool x42 fun x44 =>
 rtCons l43 fun x45 l46 =>
 rtInt .i64 x45 fun x47 =>
 rtNil l46 (
 stK 16 v4b v4o (V.agg [(V.int .i64 x4), (V.str x7), (V.bool x10), (V.int .i64 x13), (V.int .i64 x16), (V.bool x19), (V.bool x22), (V.bool x25), (V.bool x28), (V.int .i64 x31), (V.int .i64 x34), x35, x37, (V.int .i64 x41), (V.bool x44), (V.int .i64 x47)]) σ fun s48 =>
 ldnK E s48 v4b v4o 16 fun u49 =>
 some ((V.tup [(V.agg u49), (V.bool v7)]), s48))
theorem P104_0 (cc1 : XC) (v0b : Nat) (v0o : Nat) (v1 : Int) (σ : H) :
  denC E D W N (C104_0 cc1) ⟨[(0, (V.ptr v0b v0o)), (1, (V.int .i64 v1))], [], [], σ⟩ (Fin104 E) (fun _ _ => none) (Fin104 E) =
  T104_0 E D W (fun v4b v4o v7 v8b v8o σ => denC E D W N cc1 ⟨[(4, (V.ptr v4b v4o)), (7, (V.bool v7)), (8, (V.ptr v8b v8o))], [], [], σ⟩ (Fin104 E) (fun _ _ => none) (Fin104 E)) v0b v0o v1 σ := by kernel_rfl
theorem P104_1 (v4b : Nat) (v4o : Nat) (v7 : Bool) (v8b : Nat) (v8o : Nat) (σ : H) :
  denC E D W N (C104_1 ) ⟨[(4, (V.ptr v4b v4o)), (7, (V.bool v7)), (8, (V.ptr v8b v8o))], [], [], σ⟩ (Fin104 E) (fun _ _ => none) (Fin104 E) =
  T104_1 E D W  v4b v4o v7 v8b v8o σ := by kernel_rfl
def J104_1 (E : List (Nat × Blk)) (D : Den) (W : DrawFn) (N : Nat) : Nat → Nat → Bool → Nat → Nat → H → Ans := T104_1 E D W 
theorem JE104_1 (v4b : Nat) (v4o : Nat) (v7 : Bool) (v8b : Nat) (v8o : Nat) (σ : H) :
  denC E D W N C104_1 ⟨[(4, (V.ptr v4b v4o)), (7, (V.bool v7)), (8, (V.ptr v8b v8o))], [], [], σ⟩ (Fin104 E) (fun _ _ => none) (Fin104 E) = J104_1 E D W N v4b v4o v7 v8b v8o σ := by
  refine (P104_1 E D W N   v4b v4o v7 v8b v8o σ).trans ?_
  kernel_rfl
def J104_0 : Nat → Nat → Int → H → Ans := T104_0 E D W (J104_1 E D W N )
theorem JE104_0 (v0b : Nat) (v0o : Nat) (v1 : Int) (σ : H) :
  denC E D W N (C104_0 C104_1) ⟨[(0, (V.ptr v0b v0o)), (1, (V.int .i64 v1))], [], [], σ⟩ (Fin104 E) (fun _ _ => none) (Fin104 E) = J104_0 E D W N v0b v0o v1 σ := by
  refine (P104_0 E D W N C104_1  v0b v0o v1 σ).trans ?_
  simp only [JE104_1]
  kernel_rfl
def F104 (args : List V) (σ : H) : Ans :=
 rtCons args fun x1 l2 =>
 rtPtr x1 fun b3 o4 =>
 rtCons l2 fun x5 l6 =>
 rtInt .i64 x5 fun x7 =>
 rtNil l6 (
 J104_0 E D W N b3 o4 x7 σ)
def A104 : XFn := ⟨135, [.ptr, .i], [(.cell 4 (some 16)), (.tmp 5)], (C104_0 C104_1)⟩
theorem FE104 (args : List V) (σ : H) : runX E D W N A104 args σ = F104 E D W N args σ := by
  unfold F104
  simp only [← JE104_0]
  kernel_rfl
theorem AO104 : A104.body.ok = true := by kernel_rfl

def C105_0 (cc1 : XC) (cc2 : XC) : XC := (.seq (.ops (.p 4 [0] (.box 60 (.t 0)) <|
 .nil))
 (.seq (.seq (.ops (.m 11 1 <|
 .p 12 [11] (.bin .lss .none (.t 11) (.i 0)) <|
 .m 13 12 <|
 .grp 13 false (.p 14 [1, 13] (.mov (.t 1)) <|
 .p 15 [4, 13] (.faddr 4 (.t 4)) <|
 .p 16 [15, 13] (.load none (.t 15)) <|
 .p 17 [16, 13] (.len false (.t 16)) <|
 .p 18 [14, 17, 13] (.bin .geq .none (.t 14) (.t 17)) <|
 .nil) 19 [13, 18] (.t 13) (.con (V.bool true)) (.t 18) <|
 .m 20 19 <|
 .grp 20 false (.p 21 [2, 20] (.mov (.t 2)) <|
 .p 22 [1, 20] (.mov (.t 1)) <|
 .p 23 [21, 22, 20] (.iaddrS 1 (.t 21) (.t 22)) <|
 .op (some 24) .bool [23, 20] (.load none (.t 23)) <|
 .nil) 25 [20, 24] (.t 20) (.con (V.bool true)) (.t 24) <|
 .nil))
 (.cond (.tmp 25) .ret
 .skip))
 (.seq (.ops (.m 26 2 <|
 .m 27 1 <|
 .p 28 [26, 27] (.iaddrS 1 (.t 26) (.t 27)) <|
 .op none .any [28] (.store 1 (.t 28) (.con (V.bool true))) <|
 .nil))
 (.seq (.ops (.p 29 [4] (.faddr 4 (.t 4)) <|
 .p 30 [29] (.load none (.t 29)) <|
 .m 31 1 <|
 .p 32 [30, 31] (.iaddrS 16 (.t 30) (.t 31)) <|
 .op (some 33) (.agg [.i, .str, .bool, .i, .i, .bool, .bool, .bool, .bool, .i, .i, .any, .any, .i, .bool, .i]) [32] (.load (some 16) (.t 32)) <|
 .pal 8 [] 136 [(V.int .i64 (Int.ofNat 0)), (V.str ⟨0, 0⟩), (V.bool false), (V.int .i64 (Int.ofNat 0)), (V.int .i64 (Int.ofNat 0)), (V.bool false), (V.bool false), (V.bool false), (V.bool false), (V.int .i64 (Int.ofNat 0)), (V.int .i64 (Int.ofNat 0)), V.nils, V.nils, (V.int .i64 (Int.ofNat 0)), (V.bool false), (V.int .i64 (Int.ofNat 0))] <|
 .op none (.agg [.i, .str, .bool, .i, .i, .bool, .bool, .bool, .bool, .i, .i, .any, .any, .i, .bool, .i]) [8, 33] (.store 16 (.t 8) (.t 33)) <|
 .nil))
 (.seq (.ops (.m 34 3 <|
 .op (some 35) (.agg [.i, .str, .bool, .i, .i, .bool, .bool, .bool, .bool, .i, .i, .any, .any, .i, .bool, .i]) [8] (.load (some 16) (.t 8)) <|
 .op (some 36) (.tup []) [34, 35] (.callv (.t 34) [(.t 35)]) <|
 .nil))
 (.seq (.seq (.ops (.p 37 [8] (.faddr 0 (.t 8)) <|
 .op (some 38) .i [37] (.load none (.t 37)) <|
 .p 39 [38] (.bin .eql .none (.t 38) (.i 11)) <|
 .nil))
 (.cond (.tmp 39) .ret
 .skip))
 (.seq (.seq (.ops (.p 40 [8] (.faddr 12 (.t 8)) <|
 .p 41 [40] (.load none (.t 40)) <|
 .p 42 [41] (.len false (.t 41)) <|
 .p 43 [] (.mov (.i 0)) <|
 .nil))
 (.block 0 (.loop [(2, .any), (3, .any), (4, .ptr), (41, .any), (42, .i), (43, .i)] [8] [(8, [.i, .str, .bool, .i, .i, .bool, .bool, .bool, .bool, .i, .i, .any, .any, .i, .bool, .i])] cc2)))
 (.keep [(2, .any), (3, .any), (4, .ptr)] [8] [(8, [.i, .str, .bool, .i, .i, .bool, .bool, .bool, .bool, .i, .i, .any, .any, .i, .bool, .i])] cc1))))))))
def C105_1 : XC := (.seq (.ops (.p 54 [8] (.faddr 0 (.t 8)) <|
 .op (some 55) .i [54] (.load none (.t 54)) <|
 .p 56 [55] (.bin .eql .none (.t 55) (.i 10)) <|
 .nil))
 (.cond (.tmp 56) (.ops (.op (some 57) (.agg [.str, .i, .any, .any, .any]) [4] (.load (some 5) (.t 4)) <|
 .p 58 [8] (.faddr 15 (.t 8)) <|
 .op (some 59) .i [58] (.load none (.t 58)) <|
 .m 60 2 <|
 .m 61 3 <|
 .op (some 62) (.tup []) [57, 59, 60, 61] (.call 105 [(.t 57), (.t 59), (.t 60), (.t 61)]) <|
 .nil))
 .skip))
def C105_2 : XC := (.seq (.ops (.p 44 [43, 42] (.bin .lss .none (.t 43) (.t 42)) <|
 .nil))
 (.seq (.cond (.tmp 44) .skip
 (.exit 0))
 (.seq (.block 1 (.seq (.ops (.p 45 [41, 43] (.iaddrS 11 (.t 41) (.t 43)) <|
 .op (some 46) (.agg [.str, .i, .bool, .bool, .i, .i, .any, .any, .i, .any, .i]) [45] (.load (some 11) (.t 45)) <|
 .pal 10 [] 216 [(V.str ⟨0, 0⟩), (V.int .i64 (Int.ofNat 0)), (V.bool false), (V.bool false), (V.int .i64 (Int.ofNat 0)), (V.int .i64 (Int.ofNat 0)), V.nils, V.nils, (V.int .i64 (Int.ofNat 0)), V.nils, (V.int .i64 (Int.ofNat 0))] <|
 .op none (.agg [.str, .i, .bool, .bool, .i, .i, .any, .any, .i, .any, .i]) [10, 46] (.store 11 (.t 10) (.t 46)) <|
 .nil))
 (.ops (.op (some 47) (.agg [.str, .i, .any, .any, .any]) [4] (.load (some 5) (.t 4)) <|
 .p 48 [10] (.faddr 1 (.t 10)) <|
 .op (some 49) .i [48] (.load none (.t 48)) <|
 .m 50 2 <|
 .m 51 3 <|
 .op (some 52) (.tup []) [47, 49, 50, 51] (.call 105 [(.t 47), (.t 49), (.t 50), (.t 51)]) <|
 .nil))))
 (.ops (.p 53 [43] (.bin .add .none (.t 43) (.i 1)) <|
 .m 43 53 <|
 .nil)))))
def A105 : XFn := ⟨63, [(.agg [.str, .i, .any, .any, .any]), .i, .any, .any], [], (C105_0 C105_1 C105_2)⟩
def C106_0 : XC := (.seq (.ops (.p 2 [0] (.box 136 (.t 0)) <|
 .nil))
 (.seq (.ops (.p 3 [2] (.faddr 0 (.t 2)) <|
 .op (some 4) .i [3] (.load none (.t 3)) <|
 .p 5 [4] (.bin .eql .none (.t 4) (.i 11)) <|
 .nil))
 (.cond (.tmp 5) (.ops (.p 6 [1] (.load none (.t 1)) <|
 .p 7 [2] (.faddr 1 (.t 2)) <|
 .op (some 8) .str [7] (.load none (.t 7)) <|
 .p 9 [8] (.buildSlice 9 1 [(V.str ⟨0, 0⟩)] [(0, 1, (.t 8))]) <|
 .op (some 10) .one [6, 9] (.call 107 [(.t 6), (.t 9)]) <|
 .op none .any [1, 10] (.store 1 (.t 1) (.t 10)) <|
 .nil))
 .skip)))
def A106 : XFn := ⟨11, [(.agg [.i, .str, .bool, .i, .i, .bool, .bool, .bool, .bool, .i, .i, .any, .any, .i, .bool, .i]), .any], [], C106_0⟩
def C108_0 : XC := (.seq (.ops (.p 4 [] (.mov (.con (V.bool false))) <|
 .nil))
 (.seq (.ops (.m 5 0 <|
 .m 6 1 <|
 .op (some 7) .i [5, 6] (.call 137 [(.t 5), (.t 6)]) <|
 .p 8 [7] (.bin .geq .none (.t 7) (.i 0)) <|
 .m 4 8 <|
 .nil))
 .ret))
def A108 : XFn := ⟨9, [.any, .any], [(.tmp 4)], C108_0⟩
def C110_0 : XC := (.seq (.ops (.p 1 [0] (.box 204 (.t 0)) <|
 .p 2 [] (.mov (.con (V.bool false))) <|
 .nil))
 (.seq (.ops (.op (some 3) (.agg [.bool, .bool, .bool, .bool, .i, .i]) [1] (.load (some 6) (.t 1)) <|
 .op (some 4) .bool [3] (.call 138 [(.t 3)]) <|
 .m 5 4 <|
 .grp 5 true (.p 6 [1, 5] (.faddr 0 (.t 1)) <|
 .p 7 [6, 5] (.faddr 4 (.t 6)) <|
 .op (some 8) .i [7, 5] (.load none (.t 7)) <|
 .p 9 [1, 5] (.faddr 0 (.t 1)) <|
 .p 10 [9, 5] (.faddr 5 (.t 9)) <|
 .op (some 11) .i [10, 5] (.load none (.t 10)) <|
 .p 12 [8, 11, 5] (.bin .gtr .none (.t 8) (.t 11)) <|
 .nil) 13 [5, 12] (.t 5) (.t 12) (.con (V.bool false)) <|
 .m 2 13 <|
 .nil))
 .ret))
def A110 : XFn := ⟨14, [(.agg [.bool, .bool, .bool, .bool, .i, .i])], [(.tmp 2)], C110_0⟩
def C120_0 : XC := (.seq (.ops (.p 4 [] (.mov (.con (V.str ⟨0, 0⟩))) <|
 .nil))
 (.seq (.ops (.m 5 0 <|
 .m 6 1 <|
 .op (some 7) .str [5, 6] (.call 150 [(.t 5), (.t 6)]) <|
 .m 4 7 <|
 .nil))
 .ret))
def A120 : XFn := ⟨8, [.i, .i], [(.tmp 4)], C120_0⟩
/-! ### F126: internal_stringslite.HasPrefix -/
def Fin126 (E : List (Nat × Blk)) : St → Ans := fun s => resK E s [(.tmp 4)] fun l => some (oneV l, s.σ)
def C126_0 : XC := (.seq (.ops (.p 4 [] (.mov (.con (V.bool false))) <|
 .nil))
 (.seq (.ops (.m 5 0 <|
 .p 6 [5] (.len true (.t 5)) <|
 .m 7 1 <|
 .p 8 [7] (.len true (.t 7)) <|
 .p 9 [6, 8] (.bin .geq .none (.t 6) (.t 8)) <|
 .m 10 9 <|
 .grp 10 true (.p 11 [0, 10] (.mov (.t 0)) <|
 .p 12 [1, 10] (.mov (.t 1)) <|
 .p 13 [12, 10] (.len true (.t 12)) <|
 .p 14 [11, 13, 10] (.sliceStr (.t 11) none (some (.t 13))) <|
 .p 15 [1, 10] (.mov (.t 1)) <|
 .p 16 [14, 15, 10] (.bin .eql .none (.t 14) (.t 15)) <|
 .nil) 17 [10, 16] (.t 10) (.t 16) (.con (V.bool false)) <|
 .m 4 17 <|
 .nil))
 .ret))
def T126_0 (E : List (Nat × Blk)) (D : Den) (W : DrawFn) (v0 : BS) (v1 : BS) (σ : H) : Ans :=
 joinB (fun c1 s2 =>
 some ((V.bool c1), s2)) fun k3 =>
 condK (leF (Int.ofNat (BS.len v1)) (Int.ofNat (BS.len v0))) (
 sliceStrX v0 none (some (V.int .i64 (Int.ofNat (BS.len v1)))) fun t4 =>
 k3 (BS.beq t4 v1) σ) (
 k3 false σ)
theorem P126_0 (v0 : BS) (v1 : BS) (σ : H) :
  denC E D W N (C126_0 ) ⟨[(0, (V.str v0)), (1, (V.str v1))], [], [], σ⟩ (Fin126 E) (fun _ _ => none) (Fin126 E) =
  T126_0 E D W  v0 v1 σ := by kernel_rfl
def J126_0 (E : List (Nat × Blk)) (D : Den) (W : DrawFn) (N : Nat) : BS → BS → H → Ans := T126_0 E D W 
theorem JE126_0 (v0 : BS) (v1 : BS) (σ : H) :
  denC E D W N C126_0 ⟨[(0, (V.str v0)), (1, (V.str v1))], [], [], σ⟩ (Fin126 E) (fun _ _ => none) (Fin126 E) = J126_0 E D W N v0 v1 σ := by
  refine (P126_0 E D W N   v0 v1 σ).trans ?_
  kernel_rfl
def F126 (args : List V) (σ : H) : Ans :=
 rtCons args fun x1 l2 =>
 rtStr x1 fun x3 =>
 rtCons l2 fun x4 l5 =>
 rtStr x4 fun x6 =>
 rtNil l5 (
 J126_0 E D W N x3 x6 σ)
def A126 : XFn := ⟨18, [.str, .str], [(.tmp 4)], C126_0⟩
theorem FE126 (args : List V) (σ : H) : runX E D W N A126 args σ = F126 E D W N args σ := by
  unfold F126
  simp only [← JE126_0]
  kernel_rfl
theorem AO126 : A126.body.ok = true := by kernel_rfl

/-! ### F127: internal_strconv.ParseInt -/
def Fin127 (E : List (Nat × Blk)) : St → Ans := fun s => resK E s [(.tmp 6), (.tmp 7)] fun l => some (oneV l, s.σ)
def C127_0 (cc1 : XC) : XC := (.seq (.ops (.p 6 [] (.mov (.i 0)) <|
 .p 7 [] (.mov (.con V.nili)) <|
 .nil))
 (.seq (.seq (.ops (.m 12 0 <|
 .p 13 [12] (.bin .eql .none (.t 12) (.con (V.str ⟨0, 0⟩))) <|
 .nil))
 (.cond (.tmp 13) (.seq (.ops (.p 14 [] (.mkifc 254 (.i 2)) <|
 .p 6 [] (.mov (.i 0)) <|
 .m 7 14 <|
 .nil))
 .ret)
 .skip))
 (.seq (.ops (.p 8 [] (.mov (.con (V.bool false))) <|
 .nil))
 (.seq (.seq (.ops (.m 15 0 <|
 .p 16 [15] (.idxStr (.t 15) (.i 0)) <|
 .nil))
 (.block 0 (.seq (.ops (.p 18 [16] (.bin .eql .none (.t 16) (.con (V.int .u8 (Int.ofNat 43)))) <|
 .m 17 18 <|
 .nil))
 (.cond (.tmp 17) (.ops (.m 19 0 <|
 .p 20 [19] (.sliceStr (.t 19) (some (.i 1)) none) <|
 .m 0 20 <|
 .nil))
 (.seq (.ops (.p 22 [16] (.bin .eql .none (.t 16) (.con (V.int .u8 (Int.ofNat 45)))) <|
 .m 21 22 <|
 .nil))
 (.cond (.tmp 21) (.seq (.ops (.m 23 0 <|
 .p 24 [23] (.sliceStr (.t 23) (some (.i 1)) none) <|
 .m 0 24 <|
 .nil))
 (.ops (.p 8 [] (.mov (.con (V.bool true))) <|
 .nil)))
 .skip))))))
 (.keep [(0, .str), (1, .i), (2, .i), (8, .bool)] [] [] cc1)))))
def T127_0 (E : List (Nat × Blk)) (D : Den) (W : DrawFn) (K1 : BS → Int → Int → Bool → H → Ans) (v0 : BS) (v1 : Int) (v2 : Int) (σ : H) : Ans :=
 condK (BS.beq v0 (BS.mk 0 0)) (
 some ((V.tup [(V.int .i64 (Int.ofNat 0)), (V.ifc 254 (V.int .i64 (Int.ofNat 2)))]), σ)) (
 idxStrX v0 (Int.ofNat 0) fun x1 =>
 condK (eqF x1 (Int.ofNat 43)) (
 sliceStrX v0 (some (V.int .i64 (Int.ofNat 1))) none fun t2 =>
 K1 t2 v1 v2 false σ) (
 condK (eqF x1 (Int.ofNat 45)) (
 sliceStrX v0 (some (V.int .i64 (Int.ofNat 1))) none fun t3 =>
 K1 t3 v1 v2 true σ) (
 K1 v0 v1 v2 false σ)))
def C127_1 (cc2 : XC) : XC := (.seq (.ops (.p 9 [] (.mov (.con (V.int .u64 (Int.ofNat 0)))) <|
 .nil))
 (.seq (.ops (.m 26 0 <|
 .m 27 1 <|
 .m 28 2 <|
 .op (some 29) (.tup [(.int .u64), .any]) [26, 27, 28] (.call 153 [(.t 26), (.t 27), (.t 28)]) <|
 .m 25 29 <|
 .p 30 [25] (.extract 0 (.t 25)) <|
 .p 31 [25] (.extract 1 (.t 25)) <|
 .m 9 30 <|
 .m 7 31 <|
 .nil))
 (.seq (.seq (.ops (.m 32 7 <|
 .p 33 [32] (.bin .neq (.iface true) (.t 32) (.con V.nili)) <|
 .m 34 33 <|
 .grp 34 true (.p 35 [7, 34] (.mov (.t 7)) <|
 .p 36 [34] (.mkifc 254 (.i 1)) <|
 .p 37 [35, 36, 34] (.bin .neq (.iface false) (.t 35) (.t 36)) <|
 .nil) 38 [34, 37] (.t 34) (.t 37) (.con (V.bool false)) <|
 .nil))
 (.cond (.tmp 38) (.seq (.ops (.m 39 7 <|
 .p 6 [] (.mov (.i 0)) <|
 .m 7 39 <|
 .nil))
 .ret)
 .skip))
 (.seq (.seq (.ops (.m 40 2 <|
 .p 41 [40] (.bin .eql .none (.t 40) (.i 0)) <|
 .nil))
 (.cond (.tmp 41) (.ops (.p 2 [] (.mov (.i 64)) <|
 .nil))
 .skip))
 (.keep [(2, .i), (8, .bool), (9, (.int .u64))] [] [] cc2)))))
def T127_1 (E : List (Nat × Blk)) (D : Den) (W : DrawFn) (K2 : Int → Bool → Int → H → Ans) (v0 : BS) (v1 : Int) (v2 : Int) (v8 : Bool) (σ : H) : Ans :=
 callK (D 153 [(V.str v0), (V.int .i64 v1), (V.int .i64 v2)] σ) fun u1 s2 =>
 rtTup u1 fun l3 =>
 rtCons l3 fun x4 l5 =>
 rtInt .u64 x4 fun x6 =>
 rtCons l5 fun x7 l8 =>
 rtNil l8 (
 eqK (.iface true) x7 V.nili fun c9 =>
 joinB (fun c10 s11 =>
 condK c10 (
 some ((V.tup [(V.int .i64 (Int.ofNat 0)), x7]), s11)) (
 condK (eqF v2 (Int.ofNat 0)) (
 K2 (Int.ofNat 64) v8 x6 s11) (
 K2 v2 v8 x6 s11))) fun k12 =>
 condK (not c9) (
 eqK (.iface false) x7 (V.ifc 254 (V.int .i64 (Int.ofNat 1))) fun c13 =>
 k12 (not c13) s2) (
 k12 false s2))
def C127_2 (cc3 : XC) : XC := (.seq (.ops (.m 42 2 <|
 .p 43 [42] (.bin .sub .none (.t 42) (.i 1)) <|
 .p 44 [43] (.conv (.toInt .u64) (.t 43)) <|
 .p 45 [44] (.bin .shl .none (.con (V.int .u64 (Int.ofNat 1))) (.t 44)) <|
 .m 10 45 <|
 .nil))
 (.seq (.seq (.ops (.m 46 8 <|
 .p 47 [46] (.un .not (.t 46)) <|
 .m 48 47 <|
 .grp 48 true (.p 49 [9, 48] (.mov (.t 9)) <|
 .p 50 [10, 48] (.mov (.t 10)) <|
 .p 51 [49, 50, 48] (.bin .geq .none (.t 49) (.t 50)) <|
 .nil) 52 [48, 51] (.t 48) (.t 51) (.con (V.bool false)) <|
 .nil))
 (.cond (.tmp 52) (.seq (.ops (.m 53 10 <|
 .p 54 [53] (.bin .sub .none (.t 53) (.con (V.int .u64 (Int.ofNat 1)))) <|
 .p 55 [54] (.conv (.toInt .i64) (.t 54)) <|
 .p 56 [] (.mkifc 254 (.i 1)) <|
 .m 6 55 <|
 .m 7 56 <|
 .nil))
 .ret)
 .skip))
 (.seq (.seq (.ops (.m 57 8 <|
 .m 58 57 <|
 .grp 58 true (.p 59 [9, 58] (.mov (.t 9)) <|
 .p 60 [10, 58] (.mov (.t 10)) <|
 .p 61 [59, 60, 58] (.bin .gtr .none (.t 59) (.t 60)) <|
 .nil) 62 [58, 61] (.t 58) (.t 61) (.con (V.bool false)) <|
 .nil))
 (.cond (.tmp 62) (.seq (.ops (.m 63 10 <|
 .p 64 [63] (.conv (.toInt .i64) (.t 63)) <|
 .p 65 [64] (.un .neg (.t 64)) <|
 .p 66 [] (.mkifc 254 (.i 1)) <|
 .m 6 65 <|
 .m 7 66 <|
 .nil))
 .ret)
 .skip))
 (.seq (.ops (.m 67 9 <|
 .p 68 [67] (.conv (.toInt .i64) (.t 67)) <|
 .m 11 68 <|
 .nil))
 (.seq (.seq (.ops (.m 69 8 <|
 .nil))
 (.cond (.tmp 69) (.ops (.m 70 11 <|
 .p 71 [70] (.un .neg (.t 70)) <|
 .m 11 71 <|
 .nil))
 .skip))
 (.keep [(11, .i)] [] [] cc3))))))
def T127_2 (E : List (Nat × Blk)) (D : Den) (W : DrawFn) (K3 : Int → H → Ans) (v2 : Int) (v8 : Bool) (v9 : Int) (σ : H) : Ans :=
 nnK (wrapF .u64 (subF .i64 v2 (Int.ofNat 1))) fun n1 =>
 joinB (fun c2 s3 =>
 condK c2 (
 some ((V.tup [(V.int .i64 (wrapF .i64 (subF .u64 (shlF .u64 (Int.ofNat 1) n1) (Int.ofNat 1)))), (V.ifc 254 (V.int .i64 (Int.ofNat 1)))]), s3)) (
 joinB (fun c5 s6 =>
 condK c5 (
 some ((V.tup [(V.int .i64 (negF .i64 (wrapF .i64 (shlF .u64 (Int.ofNat 1) n1)))), (V.ifc 254 (V.int .i64 (Int.ofNat 1)))]), s6)) (
 condK v8 (
 K3 (negF .i64 (wrapF .i64 v9)) s6) (
 K3 (wrapF .i64 v9) s6))) fun k7 =>
 condK v8 (
 k7 (ltF (shlF .u64 (Int.ofNat 1) n1) v9) s3) (
 k7 false s3))) fun k4 =>
 condK (not v8) (
 k4 (leF (shlF .u64 (Int.ofNat 1) n1) v9) σ) (
 k4 false σ)
def C127_3 : XC := (.seq (.ops (.m 72 11 <|
 .m 6 72 <|
 .p 7 [] (.mov (.con V.nili)) <|
 .nil))
 .ret)
def T127_3 (E : List (Nat × Blk)) (D : Den) (W : DrawFn) (v11 : Int) (σ : H) : Ans :=
 some ((V.tup [(V.int .i64 v11), V.nili]), σ)
theorem P127_0 (cc1 : XC) (v0 : BS) (v1 : Int) (v2 : Int) (σ : H) :
  denC E D W N (C127_0 cc1) ⟨[(0, (V.str v0)), (1, (V.int .i64 v1)), (2, (V.int .i64 v2))], [], [], σ⟩ (Fin127 E) (fun _ _ => none) (Fin127 E) =
  T127_0 E D W (fun v0 v1 v2 v8 σ => denC E D W N cc1 ⟨[(0, (V.str v0)), (1, (V.int .i64 v1)), (2, (V.int .i64 v2)), (8, (V.bool v8))], [], [], σ⟩ (Fin127 E) (fun _ _ => none) (Fin127 E)) v0 v1 v2 σ := by kernel_rfl
theorem P127_1 (cc2 : XC) (v0 : BS) (v1 : Int) (v2 : Int) (v8 : Bool) (σ : H) :
  denC E D W N (C127_1 cc2) ⟨[(0, (V.str v0)), (1, (V.int .i64 v1)), (2, (V.int .i64 v2)), (8, (V.bool v8))], [], [], σ⟩ (Fin127 E) (fun _ _ => none) (Fin127 E) =
  T127_1 E D W (fun v2 v8 v9 σ => denC E D W N cc2 ⟨[(2, (V.int .i64 v2)), (8, (V.bool v8)), (9, (V.int .u64 v9))], [], [], σ⟩ (Fin127 E) (fun _ _ => none) (Fin127 E)) v0 v1 v2 v8 σ := by kernel_rfl
theorem P127_2 (cc3 : XC) (v2 : Int) (v8 : Bool) (v9 : Int) (σ : H) :
  denC E D W N (C127_2 cc3) ⟨[(2, (V.int .i64 v2)), (8, (V.bool v8)), (9, (V.int .u64 v9))], [], [], σ⟩ (Fin127 E) (fun _ _ => none) (Fin127 E) =
  T127_2 E D W (fun v11 σ => denC E D W N cc3 ⟨[(11, (V.int .i64 v11))], [], [], σ⟩ (Fin127 E) (fun _ _ => none) (Fin127 E)) v2 v8 v9 σ := by kernel_rfl
theorem P127_3 (v11 : Int) (σ : H) :
  denC E D W N (C127_3 ) ⟨[(11, (V.int .i64 v11))], [], [], σ⟩ (Fin127 E) (fun _ _ => none) (Fin127 E) =
  T127_3 E D W  v11 σ := by kernel_rfl
def J127_3 (E : List (Nat × Blk)) (D : Den) (W : DrawFn) (N : Nat) : Int → H → Ans := T127_3 E D W 
theorem JE127_3 (v11 : Int) (σ : H) :
  denC E D W N C127_3 ⟨[(11, (V.int .i64 v11))], [], [], σ⟩ (Fin127 E) (fun _ _ => none) (Fin127 E) = J127_3 E D W N v11 σ := by
  refine (P127_3 E D W N   v11 σ).trans ?_
  kernel_rfl
def J127_2 : Int → Bool → Int → H → Ans := T127_2 E D W (J127_3 E D W N )
theorem JE127_2 (v2 : Int) (v8 : Bool) (v9 : Int) (σ : H) :
  denC E D W N (C127_2 C127_3) ⟨[(2, (V.int .i64 v2)), (8, (V.bool v8)), (9, (V.int .u64 v9))], [], [], σ⟩ (Fin127 E) (fun _ _ => none) (Fin127 E) = J127_2 E D W N v2 v8 v9 σ := by
  refine (P127_2 E D W N C127_3  v2 v8 v9 σ).trans ?_
  simp only [JE127_3]
  kernel_rfl
def J127_1 : BS → Int → Int → Bool → H → Ans := T127_1 E D W (J127_2 E D W N )
theorem JE127_1 (v0 : BS) (v1 : Int) (v2 : Int) (v8 : Bool) (σ : H) :
  denC E D W N (C127_1 (C127_2 C127_3)) ⟨[(0, (V.str v0)), (1, (V.int .i64 v1)), (2, (V.int .i64 v2)), (8, (V.bool v8))], [], [], σ⟩ (Fin127 E) (fun _ _ => none) (Fin127 E) = J127_1 E D W N v0 v1 v2 v8 σ := by
  refine (P127_1 E D W N (C127_2 C127_3)  v0 v1 v2 v8 σ).trans ?_
  simp only [JE127_2]
  kernel_rfl
def J127_0 : BS → Int → Int → H → Ans := T127_0 E D W (J127_1 E D W N )
theorem JE127_0 (v0 : BS) (v1 : Int) (v2 : Int) (σ : H) :
  denC E D W N (C127_0 (C127_1 (C127_2 C127_3))) ⟨[(0, (V.str v0)), (1, (V.int .i64 v1)), (2, (V.int .i64 v2))], [], [], σ⟩ (Fin127 E) (fun _ _ => none) (Fin127 E) = J127_0 E D W N v0 v1 v2 σ := by
  refine (P127_0 E D W N (C127_1 (C127_2 C127_3))  v0 v1 v2 σ).trans ?_
  simp only [JE127_1]
  kernel_rfl
def F127 (args : List V) (σ : H) : Ans :=
 rtCons args fun x1 l2 =>
 rtStr x1 fun x3 =>
 rtCons l2 fun x4 l5 =>
 rtInt .i64 x4 fun x6 =>
 rtCons l5 fun x7 l8 =>
 rtInt .i64 x7 fun x9 =>
 rtNil l8 (
 J127_0 E D W N x3 x6 x9 σ)
def A127 : XFn := ⟨73, [.str, .i, .i], [(.tmp 6), (.tmp 7)], (C127_0 (C127_1 (C127_2 C127_3)))⟩
theorem FE127 (args : List V) (σ : H) : runX E D W N A127 args σ = F127 E D W N args σ := by
  unfold F127
  simp only [← JE127_0]
  kernel_rfl
theorem AO127 : A127.body.ok = true := by kernel_rfl

/-! ### F130: __ogham_syntax.parser_.mark -/
def Fin130 (E : List (Nat × Blk)) : St → Ans := fun s => resK E s [(.cell 2 (some 3)), (.tmp 3)] fun l => some (oneV l, s.σ)
def C130_0 (cc1 : XC) : XC := (.seq (.ops (.pal 2 [] 130 [(V.bool false), (V.int .i64 (Int.ofNat 0)), (V.int .i64 (Int.ofNat 0))] <|
 .p 3 [] (.mov (.con (V.bool false))) <|
 .nil))
 (.seq (.seq (.ops (.m 8 0 <|
 .p 9 [8] (.nilck (.t 8)) <|
 .p 10 [9] (.faddr 0 (.t 9)) <|
 .op (some 11) .bool [10] (.call 75 [(.t 10), (.con (V.str ⟨1, 91⟩))]) <|
 .p 12 [11] (.un .not (.t 11)) <|
 .nil))
 (.cond (.tmp 12) (.seq (.ops (.op (some 13) (.agg [.bool, .i, .i]) [] (.build [(V.bool false), (V.int .i64 (Int.ofNat 0)), (V.int .i64 (Int.ofNat 0))] []) <|
 .op none (.agg [.bool, .i, .i]) [2, 13] (.store 3 (.t 2) (.t 13)) <|
 .p 3 [] (.mov (.con (V.bool true))) <|
 .nil))
 .ret)
 .skip))
 (.seq (.ops (.m 15 0 <|
 .op (some 16) (.tup [.i, (.agg [.i, .str, .i]), .bool]) [15] (.call 158 [(.t 15)]) <|
 .m 14 16 <|
 .p 17 [14] (.extract 0 (.t 14)) <|
 .p 18 [14] (.extract 1 (.t 14)) <|
 .p 19 [14] (.extract 2 (.t 14)) <|
 .pal 5 [] 116 [(V.int .i64 (Int.ofNat 0)), (V.str ⟨0, 0⟩), (V.int .i64 (Int.ofNat 0))] <|
 .m 4 17 <|
 .op none (.agg [.i, .str, .i]) [5, 18] (.store 3 (.t 5) (.t 18)) <|
 .m 6 19 <|
 .nil))
 (.seq (.block 0 (.seq (.ops (.m 21 6 <|
 .p 22 [21] (.un .not (.t 21)) <|
 .m 20 22 <|
 .nil))
 (.cond (.tmp 20) (.seq (.ops (.op (some 23) (.agg [.bool, .i, .i]) [] (.build [(V.bool false), (V.int .i64 (Int.ofNat 0)), (V.int .i64 (Int.ofNat 0))] []) <|
 .op none (.agg [.bool, .i, .i]) [2, 23] (.store 3 (.t 2) (.t 23)) <|
 .p 3 [] (.mov (.con (V.bool false))) <|
 .nil))
 .ret)
 (.seq (.ops (.m 25 4 <|
 .p 26 [25] (.bin .lss .none (.t 25) (.i 0)) <|
 .m 27 26 <|
 .grp 27 false (.p 28 [4, 27] (.mov (.t 4)) <|
 .p 29 [28, 27] (.bin .gtr .none (.t 28) (.i 268435456)) <|
 .nil) 30 [27, 29] (.t 27) (.con (V.bool true)) (.t 29) <|
 .m 24 30 <|
 .nil))
 (.cond (.tmp 24) (.seq (.ops (.op (some 31) (.agg [.bool, .i, .i]) [] (.build [(V.bool false), (V.int .i64 (Int.ofNat 0)), (V.int .i64 (Int.ofNat 0))] []) <|
 .m 32 0 <|
 .p 33 [5] (.faddr 2 (.t 5)) <|
 .op (some 34) .i [33] (.load none (.t 33)) <|
 .op (some 35) .bool [32, 34] (.call 73 [(.t 32), (.t 34), (.i 12)]) <|
 .op none (.agg [.bool, .i, .i]) [2, 31] (.store 3 (.t 2) (.t 31)) <|
 .m 3 35 <|
 .nil))
 .ret)
 (.seq (.ops (.m 37 0 <|
 .p 38 [] (.buildSlice 9 1 [(V.str ⟨0, 0⟩)] [(0, 1, (.con (V.str ⟨1, 93⟩)))]) <|
 .op (some 39) .bool [37, 38] (.call 43 [(.t 37), (.t 38)]) <|
 .p 40 [39] (.un .not (.t 39)) <|
 .m 36 40 <|
 .nil))
 (.cond (.tmp 36) (.seq (.ops (.op (some 41) (.agg [.bool, .i, .i]) [] (.build [(V.bool false), (V.int .i64 (Int.ofNat 0)), (V.int .i64 (Int.ofNat 0))] []) <|
 .op none (.agg [.bool, .i, .i]) [2, 41] (.store 3 (.t 2) (.t 41)) <|
 .p 3 [] (.mov (.con (V.bool false))) <|
 .nil))
 .ret)
 .skip)))))))
 (.seq (.ops (.m 42 4 <|
 .op (some 43) (.agg [.bool, .i, .i]) [42] (.build [(V.bool false), (V.int .i64 (Int.ofNat 0)), (V.int .i64 (Int.ofNat 0))] [(0, 1, (.con (V.bool true))), (1, 1, (.t 42))]) <|
 .pal 7 [] 130 [(V.bool false), (V.int .i64 (Int.ofNat 0)), (V.int .i64 (Int.ofNat 0))] <|
 .op none (.agg [.bool, .i, .i]) [7, 43] (.store 3 (.t 7) (.t 43)) <|
 .nil))
 (.seq (.block 1 (.seq (.ops (.m 45 0 <|
 .p 46 [45] (.nilck (.t 45)) <|
 .p 47 [46] (.faddr 0 (.t 46)) <|
 .op (some 48) .bool [47] (.call 75 [(.t 47), (.con (V.str ⟨8, 6073459554577832005⟩))]) <|
 .m 44 48 <|
 .nil))
 (.cond (.tmp 44) (.ops (.p 49 [7] (.faddr 2 (.t 7)) <|
 .op none .any [49] (.store 1 (.t 49) (.i 1)) <|
 .nil))
 (.seq (.ops (.m 51 0 <|
 .p 52 [51] (.nilck (.t 51)) <|
 .p 53 [52] (.faddr 0 (.t 52)) <|
 .op (some 54) .bool [53] (.call 75 [(.t 53), (.con (V.str ⟨8, 6073459554577829193⟩))]) <|
 .m 50 54 <|
 .nil))
 (.cond (.tmp 50) (.ops (.p 55 [7] (.faddr 2 (.t 7)) <|
 .op none .any [55] (.store 1 (.t 55) (.i 2)) <|
 .nil))
 .skip)))))
 (.keep [] [2, 7] [(2, [.bool, .i, .i]), (7, [.bool, .i, .i])] cc1)))))))
def T130_0 (E : List (Nat × Blk)) (D : Den) (W : DrawFn) (K1 : Bool → Int → Int → Bool → Int → Int → H → Ans) (v0b : Nat) (v0o : Nat) (σ : H) : Ans :=
 callK (D 75 [(V.ptr v0b v0o), (V.str (BS.mk 1 91))] σ) fun u1 s2 =>
 rtBool u1 fun x3 =>
 condK (not x3) (
 some ((V.tup [(V.agg [(V.bool false), (V.int .i64 (Int.ofNat 0)), (V.int .i64 (Int.ofNat 0))]), (V.bool true)]), s2)) (
 callK (D 158 [(V.ptr v0b v0o)] s2) fun u4 s5 =>
 rtTup u4 fun l6 =>
 rtCons l6 fun x7 l8 =>
 rtInt .i64 x7 fun x9 =>
 rtCons l8 fun x10 l11 =>
 rtAgg x10 fun l12 =>
 rtCons l12 fun x13 l14 =>
 rtInt .i64 x13 fun x15 =>
 rtCons l14 fun x16 l17 =>
 rtStr x16 fun x18 =>
 rtCons l17 fun x19 l20 =>
 rtInt .i64 x19 fun x21 =>
 rtNil l20 (
 rtCons l11 fun x22 l23 =>
 rtBool x22 fun x24 =>
 rtNil l23 (
 condK (not x24) (
 some ((V.tup [(V.agg [(V.bool false), (V.int .i64 (Int.ofNat 0)), (V.int .i64 (Int.ofNat 0))]), (V.bool false)]), s5)) (
 joinB (fun c25 s26 =>
 condK c25 (
 callK (D 73 [(V.ptr v0b v0o), (V.int .i64 x21), (V.int .i64 (Int.ofNat 12))] s26) fun u28 s29 =>
 rtBool u28 fun x30 =>
 some ((V.tup [(V.agg [(V.bool false), (V.int .i64 (Int.ofNat 0)), (V.int .i64 (Int.ofNat 0))]), (V.bool x30)]), s29)) (
 let s31 := newB s26 (.cells [(V.str (BS.mk 1 93))]);
 callK (D 43 [(V.ptr v0b v0o), (V.sl (H.next s26) 0 1 (.ex 1))] s31) fun u32 s33 =>
 rtBool u32 fun x34 =>
 condK (not x34) (
 some ((V.tup [(V.agg [(V.bool false), (V.int .i64 (Int.ofNat 0)), (V.int .i64 (Int.ofNat 0))]), (V.bool false)]), s33)) (
 callK (D 75 [(V.ptr v0b v0o), (V.str (BS.mk 8 6073459554577832005))] s33) fun u35 s36 =>
 rtBool u35 fun x37 =>
 condK x37 (
 K1 false (Int.ofNat 0) (Int.ofNat 0) true x9 (Int.ofNat 1) s36) (
 callK (D 75 [(V.ptr v0b v0o), (V.str (BS.mk 8 6073459554577829193))] s36) fun u38 s39 =>
 rtBool u38 fun x40 =>
 condK x40 (
 K1 false (Int.ofNat 0) (Int.ofNat 0) true x9 (Int.ofNat 2) s39) (
 K1 false (Int.ofNat 0) (Int.ofNat 0) true x9 (Int.ofNat 0) s39))))) fun k27 =>
 condK (ltF x9 (Int.ofNat 0)) (
 k27 true s5) (
 k27 (ltF (Int.ofNat 268435456) x9) s5)))))
def C130_1 : XC := (.seq (.ops (.op (some 56) (.agg [.bool, .i, .i]) [7] (.load (some 3) (.t 7)) <|
 .op none (.agg [.bool, .i, .i]) [2, 56] (.store 3 (.t 2) (.t 56)) <|
 .p 3 [] (.mov (.con (V.bool true))) <|
 .nil))
 .ret)
def T130_1 (E : List (Nat × Blk)) (D : Den) (W : DrawFn) (r2_0 : Bool) (r2_1 : Int) (r2_2 : Int) (r7_0 : Bool) (r7_1 : Int) (r7_2 : Int) (σ : H) : Ans :=
 some ((V.tup [(V.agg [(V.bool r7_0), (V.int .i64 r7_1), (V.int .i64 r7_2)]), (V.bool true)]), σ)
theorem P130_0 (cc1 : XC) (v0b : Nat) (v0o : Nat) (σ : H) :
  denC E D W N (C130_0 cc1) ⟨[(0, (V.ptr v0b v0o))], [], [], σ⟩ (Fin130 E) (fun _ _ => none) (Fin130 E) =
  T130_0 E D W (fun r2_0 r2_1 r2_2 r7_0 r7_1 r7_2 σ => denC E D W N cc1 ⟨[], [(2, (2, 0)), (7, (7, 0))], [(2, [(V.bool r2_0), (V.int .i64 r2_1), (V.int .i64 r2_2)]), (7, [(V.bool r7_0), (V.int .i64 r7_1), (V.int .i64 r7_2)])], σ⟩ (Fin130 E) (fun _ _ => none) (Fin130 E)) v0b v0o σ := by kernel_rfl
theorem P130_1 (r2_0 : Bool) (r2_1 : Int) (r2_2 : Int) (r7_0 : Bool) (r7_1 : Int) (r7_2 : Int) (σ : H) :
  denC E D W N (C130_1 ) ⟨[], [(2, (2, 0)), (7, (7, 0))], [(2, [(V.bool r2_0), (V.int .i64 r2_1), (V.int .i64 r2_2)]), (7, [(V.bool r7_0), (V.int .i64 r7_1), (V.int .i64 r7_2)])], σ⟩ (Fin130 E) (fun _ _ => none) (Fin130 E) =
  T130_1 E D W  r2_0 r2_1 r2_2 r7_0 r7_1 r7_2 σ := by kernel_rfl
def J130_1 (E : List (Nat × Blk)) (D : Den) (W : DrawFn) (N : Nat) : Bool → Int → Int → Bool → Int → Int → H → Ans := T130_1 E D W 
theorem JE130_1 (r2_0 : Bool) (r2_1 : Int) (r2_2 : Int) (r7_0 : Bool) (r7_1 : Int) (r7_2 : Int) (σ : H) :
  denC E D W N C130_1 ⟨[], [(2, (2, 0)), (7, (7, 0))], [(2, [(V.bool r2_0), (V.int .i64 r2_1), (V.int .i64 r2_2)]), (7, [(V.bool r7_0), (V.int .i64 r7_1), (V.int .i64 r7_2)])], σ⟩ (Fin130 E) (fun _ _ => none) (Fin130 E) = J130_1 E D W N r2_0 r2_1 r2_2 r7_0 r7_1 r7_2 σ := by
  refine (P130_1 E D W N   r2_0 r2_1 r2_2 r7_0 r7_1 r7_2 σ).trans ?_
  kernel_rfl
def J130_0 : Nat → Nat → H → Ans := T130_0 E D W (J130_1 E D W N )
theorem JE130_0 (v0b : Nat) (v0o : Nat) (σ : H) :
  denC E D W N (C130_0 C130_1) ⟨[(0, (V.ptr v0b v0o))], [], [], σ⟩ (Fin130 E) (fun _ _ => none) (Fin130 E) = J130_0 E D W N v0b v0o σ := by
  refine (P130_0 E D W N C130_1  v0b v0o σ).trans ?_
  simp only [JE130_1]
  kernel_rfl
def F130 (args : List V) (σ : H) : Ans :=
 rtCons args fun x1 l2 =>
 rtPtr x1 fun b3 o4 =>
 rtNil l2 (
 J130_0 E D W N b3 o4 σ)
def A130 : XFn := ⟨57, [.ptr], [(.cell 2 (some 3)), (.tmp 3)], (C130_0 C130_1)⟩
theorem FE130 (args : List V) (σ : H) : runX E D W N A130 args σ = F130 E D W N args σ := by
  unfold F130
  simp only [← JE130_0]
  kernel_rfl
theorem AO130 : A130.body.ok = true := by kernel_rfl

/-! ### F132: __ogham_syntax.parser_.bounds -/
def Fin132 (E : List (Nat × Blk)) : St → Ans := fun s => resK E s [(.tmp 4)] fun l => some (oneV l, s.σ)
def C132_0 (cc1 : XC) : XC := (.seq (.ops (.p 4 [] (.mov (.con (V.bool false))) <|
 .nil))
 (.seq (.ops (.m 11 1 <|
 .p 12 [11] (.nilck (.t 11)) <|
 .p 13 [12] (.faddr 0 (.t 12)) <|
 .op none .any [13] (.store 1 (.t 13) (.con (V.bool true))) <|
 .nil))
 (.seq (.seq (.ops (.m 14 0 <|
 .p 15 [14] (.nilck (.t 14)) <|
 .p 16 [15] (.faddr 0 (.t 15)) <|
 .op (some 17) .bool [16] (.call 75 [(.t 16), (.con (V.str ⟨3, 5130573⟩))]) <|
 .p 18 [17] (.un .not (.t 17)) <|
 .nil))
 (.cond (.tmp 18) (.seq (.ops (.m 20 0 <|
 .op (some 21) (.tup [.i, (.agg [.i, .str, .i]), .bool]) [20] (.call 158 [(.t 20)]) <|
 .m 19 21 <|
 .p 22 [19] (.extract 0 (.t 19)) <|
 .p 23 [19] (.extract 1 (.t 19)) <|
 .p 24 [19] (.extract 2 (.t 19)) <|
 .pal 6 [] 116 [(V.int .i64 (Int.ofNat 0)), (V.str ⟨0, 0⟩), (V.int .i64 (Int.ofNat 0))] <|
 .m 5 22 <|
 .op none (.agg [.i, .str, .i]) [6, 23] (.store 3 (.t 6) (.t 23)) <|
 .m 7 24 <|
 .nil))
 (.seq (.seq (.ops (.m 25 7 <|
 .p 26 [25] (.un .not (.t 25)) <|
 .nil))
 (.cond (.tmp 26) (.seq (.ops (.p 4 [] (.mov (.con (V.bool false))) <|
 .nil))
 .ret)
 .skip))
 (.ops (.m 27 1 <|
 .m 28 1 <|
 .m 29 5 <|
 .p 30 [27] (.nilck (.t 27)) <|
 .p 31 [30] (.faddr 1 (.t 30)) <|
 .op none .any [31] (.store 1 (.t 31) (.con (V.bool true))) <|
 .p 32 [28] (.nilck (.t 28)) <|
 .p 33 [32] (.faddr 4 (.t 32)) <|
 .op none .any [33, 29] (.store 1 (.t 33) (.t 29)) <|
 .nil))))
 .skip))
 (.keep [(0, .ptr), (1, .ptr)] [] [] cc1))))
def T132_0 (E : List (Nat × Blk)) (D : Den) (W : DrawFn) (K1 : Nat → Nat → Nat → Nat → H → Ans) (v0b : Nat) (v0o : Nat) (v1b : Nat) (v1o : Nat) (σ : H) : Ans :=
 stK 1 v1b v1o (V.bool true) σ fun s1 =>
 callK (D 75 [(V.ptr v0b v0o), (V.str (BS.mk 3 5130573))] s1) fun u2 s3 =>
 rtBool u2 fun x4 =>
 condK (not x4) (
 callK (D 158 [(V.ptr v0b v0o)] s3) fun u5 s6 =>
 rtTup u5 fun l7 =>
 rtCons l7 fun x8 l9 =>
 rtInt .i64 x8 fun x10 =>
 rtCons l9 fun x11 l12 =>
 rtAgg x11 fun l13 =>
 rtCons l13 fun x14 l15 =>
 rtInt .i64 x14 fun x16 =>
 rtCons l15 fun x17 l18 =>
 rtStr x17 fun x19 =>
 rtCons l18 fun x20 l21 =>
 rtInt .i64 x20 fun x22 =>
 rtNil l21 (
 rtCons l12 fun x23 l24 =>
 rtBool x23 fun x25 =>
 rtNil l24 (
 condK (not x25) (
 some ((V.bool false), s6)) (
 stK 1 v1b (Nat.add v1o 1) (V.bool true) s6 fun s26 =>
 stK 1 v1b (Nat.add v1o 4) (V.int .i64 x10) s26 fun s27 =>
 K1 v0b v0o v1b v1o s27)))) (
 K1 v0b v0o v1b v1o s3)
def C132_1 (cc2 : XC) : XC := (.seq (.block 0 (.seq (.ops (.m 35 0 <|
 .p 36 [35] (.nilck (.t 35)) <|
 .p 37 [36] (.faddr 0 (.t 36)) <|
 .op (some 38) .bool [37] (.call 75 [(.t 37), (.con (V.str ⟨2, 11822⟩))]) <|
 .p 39 [38] (.un .not (.t 38)) <|
 .m 34 39 <|
 .nil))
 (.cond (.tmp 34) (.draw (.m 40 1 <|
 .m 41 1 <|
 .m 42 1 <|
 .p 43 [42] (.nilck (.t 42)) <|
 .p 44 [43] (.faddr 1 (.t 43)) <|
 .op (some 45) .bool [44] (.load none (.t 44)) <|
 .m 46 1 <|
 .p 47 [46] (.nilck (.t 46)) <|
 .p 48 [47] (.faddr 4 (.t 47)) <|
 .op (some 49) .i [48] (.load none (.t 48)) <|
 .p 50 [40] (.nilck (.t 40)) <|
 .p 51 [50] (.faddr 2 (.t 50)) <|
 .op none .any [51, 45] (.store 1 (.t 51) (.t 45)) <|
 .p 52 [41] (.nilck (.t 41)) <|
 .p 53 [52] (.faddr 5 (.t 52)) <|
 .op none .any [53, 49] (.store 1 (.t 53) (.t 49)) <|
 .nil) [0, 0, 0, 4, 12, 28, 0, 64, 192, 448, 1021, 2045, 4093, 8191, 16383, 32767])
 (.seq (.ops (.m 55 0 <|
 .p 56 [55] (.nilck (.t 55)) <|
 .p 57 [56] (.faddr 0 (.t 56)) <|
 .op (some 58) .bool [57] (.call 75 [(.t 57), (.con (V.str ⟨3, 5783885⟩))]) <|
 .p 59 [58] (.un .not (.t 58)) <|
 .m 54 59 <|
 .nil))
 (.cond (.tmp 54) (.seq (.ops (.m 61 0 <|
 .op (some 62) (.tup [.i, (.agg [.i, .str, .i]), .bool]) [61] (.call 158 [(.t 61)]) <|
 .m 60 62 <|
 .p 63 [60] (.extract 0 (.t 60)) <|
 .p 64 [60] (.extract 1 (.t 60)) <|
 .p 65 [60] (.extract 2 (.t 60)) <|
 .pal 9 [] 116 [(V.int .i64 (Int.ofNat 0)), (V.str ⟨0, 0⟩), (V.int .i64 (Int.ofNat 0))] <|
 .m 8 63 <|
 .op none (.agg [.i, .str, .i]) [9, 64] (.store 3 (.t 9) (.t 64)) <|
 .m 10 65 <|
 .nil))
 (.seq (.seq (.ops (.m 66 10 <|
 .p 67 [66] (.un .not (.t 66)) <|
 .nil))
 (.cond (.tmp 67) (.seq (.ops (.p 4 [] (.mov (.con (V.bool false))) <|
 .nil))
 .ret)
 .skip))
 (.ops (.m 68 1 <|
 .m 69 1 <|
 .m 70 8 <|
 .p 71 [68] (.nilck (.t 68)) <|
 .p 72 [71] (.faddr 2 (.t 71)) <|
 .op none .any [72] (.store 1 (.t 72) (.con (V.bool true))) <|
 .p 73 [69] (.nilck (.t 69)) <|
 .p 74 [73] (.faddr 5 (.t 73)) <|
 .op none .any [74, 70] (.store 1 (.t 74) (.t 70)) <|
 .nil))))
 .skip)))))
 (.keep [(0, .ptr), (1, .ptr)] [] [] cc2))
def T132_1 (E : List (Nat × Blk)) (D : Den) (W : DrawFn) (K2 : Nat → Nat → Nat → Nat → H → Ans) (v0b : Nat) (v0o : Nat) (v1b : Nat) (v1o : Nat) (σ : H) : Ans :=
 callK (D 75 [(V.ptr v0b v0o), (V.str (BS.mk 2 11822))] σ) fun u1 s2 =>
 rtBool u1 fun x3 =>
 condK (not x3) (
 ldK E s2 v1b (Nat.add v1o 1) fun u4 =>
 rtBool u4 fun x5 =>
 ldK E s2 v1b (Nat.add v1o 4) fun u6 =>
 rtInt .i64 u6 fun x7 =>
 stK 1 v1b (Nat.add v1o 2) (V.bool x5) s2 fun s8 =>
 stK 1 v1b (Nat.add v1o 5) (V.int .i64 x7) s8 fun s9 =>
 K2 v0b v0o v1b v1o s9) (
 callK (D 75 [(V.ptr v0b v0o), (V.str (BS.mk 3 5783885))] s2) fun u10 s11 =>
 rtBool u10 fun x12 =>
 condK (not x12) (
 callK (D 158 [(V.ptr v0b v0o)] s11) fun u13 s14 =>
 rtTup u13 fun l15 =>
 rtCons l15 fun x16 l17 =>
 rtInt .i64 x16 fun x18 =>
 rtCons l17 fun x19 l20 =>
 rtAgg x19 fun l21 =>
 rtCons l21 fun x22 l23 =>
 rtInt .i64 x22 fun x24 =>
 rtCons l23 fun x25 l26 =>
 rtStr x25 fun x27 =>
 rtCons l26 fun x28 l29 =>
 rtInt .i64 x28 fun x30 =>
 rtNil l29 (
 rtCons l20 fun x31 l32 =>
 rtBool x31 fun x33 =>
 rtNil l32 (
 condK (not x33) (
 some ((V.bool false), s14)) (
 stK 1 v1b (Nat.add v1o 2) (V.bool true) s14 fun s34 =>
 stK 1 v1b (Nat.add v1o 5) (V.int .i64 x18) s34 fun s35 =>
 K2 v0b v0o v1b v1o s35)))) (
 K2 v0b v0o v1b v1o s11))
def C132_2 : XC := (.seq (.seq (.ops (.m 75 0 <|
 .p 76 [75] (.nilck (.t 75)) <|
 .p 77 [76] (.faddr 0 (.t 76)) <|
 .op (some 78) .bool [77] (.call 75 [(.t 77), (.con (V.str ⟨1, 44⟩))]) <|
 .nil))
 (.cond (.tmp 78) (.seq (.ops (.m 79 1 <|
 .p 80 [79] (.nilck (.t 79)) <|
 .p 81 [80] (.faddr 3 (.t 80)) <|
 .op none .any [81] (.store 1 (.t 81) (.con (V.bool true))) <|
 .nil))
 (.seq (.ops (.m 82 0 <|
 .p 83 [] (.buildSlice 9 1 [(V.str ⟨0, 0⟩)] [(0, 1, (.con (V.str ⟨3, 3026478⟩)))]) <|
 .op (some 84) .bool [82, 83] (.call 43 [(.t 82), (.t 83)]) <|
 .m 4 84 <|
 .nil))
 .ret))
 .skip))
 (.seq (.ops (.p 4 [] (.mov (.con (V.bool true))) <|
 .nil))
 .ret))
def T132_2 (E : List (Nat × Blk)) (D : Den) (W : DrawFn) (v0b : Nat) (v0o : Nat) (v1b : Nat) (v1o : Nat) (σ : H) : Ans :=
 callK (D 75 [(V.ptr v0b v0o), (V.str (BS.mk 1 44))] σ) fun u1 s2 =>
 rtBool u1 fun x3 =>
 condK x3 (
 stK 1 v1b (Nat.add v1o 3) (V.bool true) s2 fun s4 =>
 let s5 := newB s4 (.cells [(V.str (BS.mk 3 3026478))]);
 callK (D 43 [(V.ptr v0b v0o), (V.sl (H.next s4) 0 1 (.ex 1))] s5) fun u6 s7 =>
 rtBool u6 fun x8 =>
 some ((V.bool x8), s7)) (
 some ((V.bool true), s2))
theorem P132_0 (cc1 : XC) (v0b : Nat) (v0o : Nat) (v1b : Nat) (v1o : Nat) (σ : H) :
  denC E D W N (C132_0 cc1) ⟨[(0, (V.ptr v0b v0o)), (1, (V.ptr v1b v1o))], [], [], σ⟩ (Fin132 E) (fun _ _ => none) (Fin132 E) =
  T132_0 E D W (fun v0b v0o v1b v1o σ => denC E D W N cc1 ⟨[(0, (V.ptr v0b v0o)), (1, (V.ptr v1b v1o))], [], [], σ⟩ (Fin132 E) (fun _ _ => none) (Fin132 E)) v0b v0o v1b v1o σ := by kernel_rfl
theorem P132_1 (cc2 : XC) (v0b : Nat) (v0o : Nat) (v1b : Nat) (v1o : Nat) (σ : H) :
  denC E D W N (C132_1 cc2) ⟨[(0, (V.ptr v0b v0o)), (1, (V.ptr v1b v1o))], [], [], σ⟩ (Fin132 E) (fun _ _ => none) (Fin132 E) =
  T132_1 E D W (fun v0b v0o v1b v1o σ => denC E D W N cc2 ⟨[(0, (V.ptr v0b v0o)), (1, (V.ptr v1b v1o))], [], [], σ⟩ (Fin132 E) (fun _ _ => none) (Fin132 E)) v0b v0o v1b v1o σ := by kernel_rfl
theorem P132_2 (v0b : Nat) (v0o : Nat) (v1b : Nat) (v1o : Nat) (σ : H) :
  denC E D W N (C132_2 ) ⟨[(0, (V.ptr v0b v0o)), (1, (V.ptr v1b v1o))], [], [], σ⟩ (Fin132 E) (fun _ _ => none) (Fin132 E) =
  T132_2 E D W  v0b v0o v1b v1o σ := by kernel_rfl
def J132_2 (E : List (Nat × Blk)) (D : Den) (W : DrawFn) (N : Nat) : Nat → Nat → Nat → Nat → H → Ans := T132_2 E D W 
theorem JE132_2 (v0b : Nat) (v0o : Nat) (v1b : Nat) (v1o : Nat) (σ : H) :
  denC E D W N C132_2 ⟨[(0, (V.ptr v0b v0o)), (1, (V.ptr v1b v1o))], [], [], σ⟩ (Fin132 E) (fun _ _ => none) (Fin132 E) = J132_2 E D W N v0b v0o v1b v1o σ := by
  refine (P132_2 E D W N   v0b v0o v1b v1o σ).trans ?_
  kernel_rfl
def J132_1 : Nat → Nat → Nat → Nat → H → Ans := T132_1 E D W (J132_2 E D W N )
theorem JE132_1 (v0b : Nat) (v0o : Nat) (v1b : Nat) (v1o : Nat) (σ : H) :
  denC E D W N (C132_1 C132_2) ⟨[(0, (V.ptr v0b v0o)), (1, (V.ptr v1b v1o))], [], [], σ⟩ (Fin132 E) (fun _ _ => none) (Fin132 E) = J132_1 E D W N v0b v0o v1b v1o σ := by
  refine (P132_1 E D W N C132_2  v0b v0o v1b v1o σ).trans ?_
  simp only [JE132_2]
  kernel_rfl
def J132_0 : Nat → Nat → Nat → Nat → H → Ans := T132_0 E D W (J132_1 E D W N )
theorem JE132_0 (v0b : Nat) (v0o : Nat) (v1b : Nat) (v1o : Nat) (σ : H) :
  denC E D W N (C132_0 (C132_1 C132_2)) ⟨[(0, (V.ptr v0b v0o)), (1, (V.ptr v1b v1o))], [], [], σ⟩ (Fin132 E) (fun _ _ => none) (Fin132 E) = J132_0 E D W N v0b v0o v1b v1o σ := by
  refine (P132_0 E D W N (C132_1 C132_2)  v0b v0o v1b v1o σ).trans ?_
  simp only [JE132_1]
  kernel_rfl
def F132 (args : List V) (σ : H) : Ans :=
 rtCons args fun x1 l2 =>
 rtPtr x1 fun b3 o4 =>
 rtCons l2 fun x5 l6 =>
 rtPtr x5 fun b7 o8 =>
 rtNil l6 (
 J132_0 E D W N b3 o4 b7 o8 σ)
def A132 : XFn := ⟨85, [.ptr, .ptr], [(.tmp 4)], (C132_0 (C132_1 C132_2))⟩
theorem FE132 (args : List V) (σ : H) : runX E D W N A132 args σ = F132 E D W N args σ := by
  unfold F132
  simp only [← JE132_0]
  kernel_rfl
theorem AO132 : A132.body.ok = true := by kernel_rfl

/-! ### F134: __ogham_syntax.parser_.fields -/
def Fin134 (E : List (Nat × Blk)) : St → Ans := fun s => resK E s [(.tmp 6)] fun l => some (oneV l, s.σ)
def C134_0 (cc1 : XC) (cc2 : XC) : XC := (.seq (.ops (.p 6 [] (.mov (.con (V.bool false))) <|
 .nil))
 (.seq (.seq (.ops (.m 8 0 <|
 .p 9 [] (.buildSlice 9 1 [(V.str ⟨0, 0⟩)] [(0, 1, (.con (V.str ⟨1, 123⟩)))]) <|
 .op (some 10) .bool [8, 9] (.call 43 [(.t 8), (.t 9)]) <|
 .p 11 [10] (.un .not (.t 10)) <|
 .nil))
 (.cond (.tmp 11) (.seq (.ops (.p 6 [] (.mov (.con (V.bool false))) <|
 .nil))
 .ret)
 .skip))
 (.seq (.seq (.ops (.m 12 0 <|
 .p 13 [12] (.nilck (.t 12)) <|
 .p 14 [13] (.faddr 0 (.t 13)) <|
 .op (some 15) .bool [14] (.call 44 [(.t 14), (.con (V.str ⟨1, 125⟩))]) <|
 .p 16 [15] (.un .not (.t 15)) <|
 .m 7 16 <|
 .nil))
 (.block 0 (.loop [(0, .ptr), (1, .ptr), (2, .i), (7, .bool)] [] [] cc2)))
 (.keep [(0, .ptr), (1, .ptr)] [] [] cc1))))
def T134_0 (E : List (Nat × Blk)) (D : Den) (W : DrawFn) (K2 : Nat → Nat → Nat → Nat → Int → Bool → H → Ans) (v0b : Nat) (v0o : Nat) (v1b : Nat) (v1o : Nat) (v2 : Int) (σ : H) : Ans :=
 let s1 := newB σ (.cells [(V.str (BS.mk 1 123))]);
 callK (D 43 [(V.ptr v0b v0o), (V.sl (H.next σ) 0 1 (.ex 1))] s1) fun u2 s3 =>
 rtBool u2 fun x4 =>
 condK (not x4) (
 some ((V.bool false), s3)) (
 callK (D 44 [(V.ptr v0b v0o), (V.str (BS.mk 1 125))] s3) fun u5 s6 =>
 rtBool u5 fun x7 =>
 K2 v0b v0o v1b v1o v2 (not x7) s6)
def C134_1 : XC := (.seq (.ops (.m 51 1 <|
 .m 52 1 <|
 .p 53 [52] (.nilck (.t 52)) <|
 .p 54 [53] (.faddr 12 (.t 53)) <|
 .p 55 [54] (.load none (.t 54)) <|
 .p 56 [55] (.len false (.t 55)) <|
 .p 57 [51] (.nilck (.t 51)) <|
 .p 58 [57] (.faddr 13 (.t 57)) <|
 .op none .any [58, 56] (.store 1 (.t 58) (.t 56)) <|
 .nil))
 (.seq (.ops (.m 59 0 <|
 .p 60 [] (.buildSlice 9 1 [(V.str ⟨0, 0⟩)] [(0, 1, (.con (V.str ⟨1, 125⟩)))]) <|
 .op (some 61) .bool [59, 60] (.call 43 [(.t 59), (.t 60)]) <|
 .m 6 61 <|
 .nil))
 .ret))
def T134_1 (E : List (Nat × Blk)) (D : Den) (W : DrawFn) (v0b : Nat) (v0o : Nat) (v1b : Nat) (v1o : Nat) (σ : H) : Ans :=
 ldK E σ v1b (Nat.add v1o 12) fun u1 =>
 slenK u1 fun n2 =>
 stK 1 v1b (Nat.add v1o 13) (V.int .i64 (Int.ofNat n2)) σ fun s3 =>
 let s4 := newB s3 (.cells [(V.str (BS.mk 1 125))]);
 callK (D 43 [(V.ptr v0b v0o), (V.sl (H.next s3) 0 1 (.ex 1))] s4) fun u5 s6 =>
 rtBool u5 fun x7 =>
 some ((V.bool x7), s6)
def C134_2 : XC := (.seq (.seq (.ops (.m 17 7 <|
 .nil))
 (.cond (.tmp 17) .skip
 (.exit 0)))
 (.seq (.block 1 (.seq (.seq (.ops (.m 22 0 <|
 .p 23 [22] (.nilck (.t 22)) <|
 .p 24 [23] (.faddr 0 (.t 23)) <|
 .op (some 25) .bool [24] (.call 75 [(.t 24), (.con (V.str ⟨3, 3026478⟩))]) <|
 .nil))
 (.cond (.tmp 25) (.seq (.ops (.m 26 1 <|
 .m 27 1 <|
 .m 28 1 <|
 .p 29 [28] (.nilck (.t 28)) <|
 .p 30 [29] (.faddr 12 (.t 29)) <|
 .p 31 [30] (.load none (.t 30)) <|
 .p 32 [31] (.len false (.t 31)) <|
 .p 33 [26] (.nilck (.t 26)) <|
 .p 34 [33] (.faddr 14 (.t 33)) <|
 .op none .any [34] (.store 1 (.t 34) (.con (V.bool true))) <|
 .p 35 [27] (.nilck (.t 27)) <|
 .p 36 [35] (.faddr 13 (.t 35)) <|
 .op none .any [36, 32] (.store 1 (.t 36) (.t 32)) <|
 .nil))
 (.seq (.ops (.m 37 0 <|
 .m 38 1 <|
 .m 39 2 <|
 .op (some 40) .bool [37, 38, 39] (.call 160 [(.t 37), (.t 38), (.t 39)]) <|
 .m 41 40 <|
 .grp 41 true (.p 42 [0, 41] (.mov (.t 0)) <|
 .p 43 [41] (.buildSlice 9 1 [(V.str ⟨0, 0⟩)] [(0, 1, (.con (V.str ⟨1, 125⟩)))]) <|
 .op (some 44) .bool [42, 43, 41] (.call 43 [(.t 42), (.t 43)]) <|
 .nil) 45 [41, 44] (.t 41) (.t 44) (.con (V.bool false)) <|
 .m 6 45 <|
 .nil))
 .ret))
 .skip))
 (.seq (.ops (.m 46 0 <|
 .m 47 1 <|
 .m 48 2 <|
 .op (some 49) .bool [46, 47, 48] (.call 161 [(.t 46), (.t 47), (.i 0), (.t 48)]) <|
 .p 50 [49] (.un .not (.t 49)) <|
 .nil))
 (.cond (.tmp 50) (.seq (.ops (.p 6 [] (.mov (.con (V.bool false))) <|
 .nil))
 .ret)
 .skip))))
 (.ops (.m 18 0 <|
 .p 19 [18] (.nilck (.t 18)) <|
 .p 20 [19] (.faddr 0 (.t 19)) <|
 .op (some 21) .bool [20] (.call 75 [(.t 20), (.con (V.str ⟨1, 44⟩))]) <|
 .m 7 21 <|
 .nil))))
def T134_2 (E : List (Nat × Blk)) (D : Den) (W : DrawFn) (K1 : Nat → Nat → Nat → Nat → H → Ans) (R2 : Nat → Nat → Nat → Nat → Int → Bool → H → Ans) (v0b : Nat) (v0o : Nat) (v1b : Nat) (v1o : Nat) (v2 : Int) (v7 : Bool) (σ : H) : Ans :=
 condK v7 (
 callK (D 75 [(V.ptr v0b v0o), (V.str (BS.mk 3 3026478))] σ) fun u1 s2 =>
 rtBool u1 fun x3 =>
 condK x3 (
 ldK E s2 v1b (Nat.add v1o 12) fun u4 =>
 slenK u4 fun n5 =>
 stK 1 v1b (Nat.add v1o 14) (V.bool true) s2 fun s6 =>
 stK 1 v1b (Nat.add v1o 13) (V.int .i64 (Int.ofNat n5)) s6 fun s7 =>
 callK (D 160 [(V.ptr v0b v0o), (V.ptr v1b v1o), (V.int .i64 v2)] s7) fun u8 s9 =>
 rtBool u8 fun x10 =>
 joinB (fun c11 s12 =>
 some ((V.bool c11), s12)) fun k13 =>
 condK x10 (
 let s14 := newB s9 (.cells [(V.str (BS.mk 1 125))]);
 callK (D 43 [(V.ptr v0b v0o), (V.sl (H.next s9) 0 1 (.ex 1))] s14) fun u15 s16 =>
 rtBool u15 fun x17 =>
 k13 x17 s16) (
 k13 false s9)) (
 callK (D 161 [(V.ptr v0b v0o), (V.ptr v1b v1o), (V.int .i64 (Int.ofNat 0)), (V.int .i64 v2)] s2) fun u18 s19 =>
 rtBool u18 fun x20 =>
 condK (not x20) (
 some ((V.bool false), s19)) (
 callK (D 75 [(V.ptr v0b v0o), (V.str (BS.mk 1 44))] s19) fun u21 s22 =>
 rtBool u21 fun x23 =>
 R2 v0b v0o v1b v1o v2 x23 s22))) (
 K1 v0b v0o v1b v1o σ)
theorem P134_0 (cc1 : XC) (cc2 : XC) (v0b : Nat) (v0o : Nat) (v1b : Nat) (v1o : Nat) (v2 : Int) (σ : H) :
  denC E D W N (C134_0 cc1 cc2) ⟨[(0, (V.ptr v0b v0o)), (1, (V.ptr v1b v1o)), (2, (V.int .i64 v2))], [], [], σ⟩ (Fin134 E) (fun _ _ => none) (Fin134 E) =
  T134_0 E D W (fun v0b v0o v1b v1o v2 v7 σ => iterK (fun rec s' => denC E D W N cc2 s' (fun s'' => keepS [(0, .ptr), (1, .ptr), (2, .i), (7, .bool)] [] [] s'' rec) (blkK 0 (fun s' => denC E D W N (.keep [(0, .ptr), (1, .ptr)] [] [] cc1) s' (Fin134 E) (fun _ _ => none) (Fin134 E)) (fun _ _ => none)) (Fin134 E)) N ⟨[(0, (V.ptr v0b v0o)), (1, (V.ptr v1b v1o)), (2, (V.int .i64 v2)), (7, (V.bool v7))], [], [], σ⟩) v0b v0o v1b v1o v2 σ := by kernel_rfl
theorem P134_1 (v0b : Nat) (v0o : Nat) (v1b : Nat) (v1o : Nat) (σ : H) :
  denC E D W N (C134_1 ) ⟨[(0, (V.ptr v0b v0o)), (1, (V.ptr v1b v1o))], [], [], σ⟩ (Fin134 E) (fun _ _ => none) (Fin134 E) =
  T134_1 E D W  v0b v0o v1b v1o σ := by kernel_rfl
theorem P134_2 (cc1 : XC) (li2 : St → Ans) (v0b : Nat) (v0o : Nat) (v1b : Nat) (v1o : Nat) (v2 : Int) (v7 : Bool) (σ : H) :
  denC E D W N (C134_2 ) ⟨[(0, (V.ptr v0b v0o)), (1, (V.ptr v1b v1o)), (2, (V.int .i64 v2)), (7, (V.bool v7))], [], [], σ⟩ (fun s'' => keepS [(0, .ptr), (1, .ptr), (2, .i), (7, .bool)] [] [] s'' li2) (blkK 0 (fun s' => denC E D W N (.keep [(0, .ptr), (1, .ptr)] [] [] cc1) s' (Fin134 E) (fun _ _ => none) (Fin134 E)) (fun _ _ => none)) (Fin134 E) =
  T134_2 E D W (fun v0b v0o v1b v1o σ => denC E D W N cc1 ⟨[(0, (V.ptr v0b v0o)), (1, (V.ptr v1b v1o))], [], [], σ⟩ (Fin134 E) (fun _ _ => none) (Fin134 E)) (fun v0b v0o v1b v1o v2 v7 σ => li2 ⟨[(0, (V.ptr v0b v0o)), (1, (V.ptr v1b v1o)), (2, (V.int .i64 v2)), (7, (V.bool v7))], [], [], σ⟩) v0b v0o v1b v1o v2 v7 σ := by kernel_rfl
def J134_1 (E : List (Nat × Blk)) (D : Den) (W : DrawFn) (N : Nat) : Nat → Nat → Nat → Nat → H → Ans := T134_1 E D W 
theorem JE134_1 (v0b : Nat) (v0o : Nat) (v1b : Nat) (v1o : Nat) (σ : H) :
  denC E D W N C134_1 ⟨[(0, (V.ptr v0b v0o)), (1, (V.ptr v1b v1o))], [], [], σ⟩ (Fin134 E) (fun _ _ => none) (Fin134 E) = J134_1 E D W N v0b v0o v1b v1o σ := by
  refine (P134_1 E D W N   v0b v0o v1b v1o σ).trans ?_
  kernel_rfl
def L134_2 (n : Nat) : Nat → Nat → Nat → Nat → Int → Bool → H → Ans :=
  Nat.rec (fun _ _ _ _ _ _ _ => none) (fun _ ih => T134_2 E D W (J134_1 E D W N ) ih) n
theorem LE134_2 (n : Nat) : ∀ (v0b : Nat) (v0o : Nat) (v1b : Nat) (v1o : Nat) (v2 : Int) (v7 : Bool) (σ : H),
  iterK (fun rec s' => denC E D W N C134_2 s' (fun s'' => keepS [(0, .ptr), (1, .ptr), (2, .i), (7, .bool)] [] [] s'' rec) (blkK 0 (fun s' => denC E D W N (.keep [(0, .ptr), (1, .ptr)] [] [] C134_1) s' (Fin134 E) (fun _ _ => none) (Fin134 E)) (fun _ _ => none)) (Fin134 E)) n ⟨[(0, (V.ptr v0b v0o)), (1, (V.ptr v1b v1o)), (2, (V.int .i64 v2)), (7, (V.bool v7))], [], [], σ⟩ = L134_2 E D W N n v0b v0o v1b v1o v2 v7 σ := by
  induction n with
  | zero => intro v0b v0o v1b v1o v2 v7 σ; rfl
  | succ n ihn =>
    intro v0b v0o v1b v1o v2 v7 σ
    rw [iterK_succ]
    refine (P134_2 E D W N C134_1 (iterK (fun rec s' => denC E D W N C134_2 s' (fun s'' => keepS [(0, .ptr), (1, .ptr), (2, .i), (7, .bool)] [] [] s'' rec) (blkK 0 (fun s' => denC E D W N (.keep [(0, .ptr), (1, .ptr)] [] [] C134_1) s' (Fin134 E) (fun _ _ => none) (Fin134 E)) (fun _ _ => none)) (Fin134 E)) n) v0b v0o v1b v1o v2 v7 σ).trans ?_
    simp only [ihn, JE134_1]
    kernel_rfl
def J134_0 : Nat → Nat → Nat → Nat → Int → H → Ans := T134_0 E D W (L134_2 E D W N N)
theorem JE134_0 (v0b : Nat) (v0o : Nat) (v1b : Nat) (v1o : Nat) (v2 : Int) (σ : H) :
  denC E D W N (C134_0 C134_1 C134_2) ⟨[(0, (V.ptr v0b v0o)), (1, (V.ptr v1b v1o)), (2, (V.int .i64 v2))], [], [], σ⟩ (Fin134 E) (fun _ _ => none) (Fin134 E) = J134_0 E D W N v0b v0o v1b v1o v2 σ := by
  refine (P134_0 E D W N C134_1 C134_2  v0b v0o v1b v1o v2 σ).trans ?_
  simp only [LE134_2]
  kernel_rfl
def F134 (args : List V) (σ : H) : Ans :=
 rtCons args fun x1 l2 =>
 rtPtr x1 fun b3 o4 =>
 rtCons l2 fun x5 l6 =>
 rtPtr x5 fun b7 o8 =>
 rtCons l6 fun x9 l10 =>
 rtInt .i64 x9 fun x11 =>
 rtNil l10 (
 J134_0 E D W N b3 o4 b7 o8 x11 σ)
def A134 : XFn := ⟨62, [.ptr, .ptr, .i], [(.tmp 6)], (C134_0 C134_1 C134_2)⟩
theorem FE134 (args : List V) (σ : H) : runX E D W N A134 args σ = F134 E D W N args σ := by
  unfold F134
  simp only [← JE134_0]
  kernel_rfl
theorem AO134 : A134.body.ok = true := by kernel_rfl

/-! ### F135: __ogham_syntax.parser_.sequence -/
def Fin135 (E : List (Nat × Blk)) : St → Ans := fun s => resK E s [(.tmp 6)] fun l => some (oneV l, s.σ)
def C135_0 : XC := (.seq (.ops (.p 6 [] (.mov (.con (V.bool false))) <|
 .nil))
 (.seq (.seq (.ops (.m 8 0 <|
 .p 9 [8] (.nilck (.t 8)) <|
 .p 10 [9] (.faddr 0 (.t 9)) <|
 .op (some 11) .bool [10] (.call 44 [(.t 10), (.con (V.str ⟨1, 123⟩))]) <|
 .nil))
 (.cond (.tmp 11) (.seq (.ops (.m 12 1 <|
 .p 13 [12] (.nilck (.t 12)) <|
 .p 14 [13] (.faddr 0 (.t 13)) <|
 .op none .any [14] (.store 1 (.t 14) (.i 7)) <|
 .nil))
 (.seq (.ops (.m 15 0 <|
 .m 16 1 <|
 .m 17 2 <|
 .op (some 18) .bool [15, 16, 17] (.call 134 [(.t 15), (.t 16), (.t 17)]) <|
 .m 6 18 <|
 .nil))
 .ret))
 .skip))
 (.seq (.ops (.m 19 1 <|
 .p 20 [19] (.nilck (.t 19)) <|
 .p 21 [20] (.faddr 0 (.t 20)) <|
 .op none .any [21] (.store 1 (.t 21) (.i 10)) <|
 .nil))
 (.seq (.seq (.ops (.m 22 0 <|
 .m 23 1 <|
 .p 24 [23] (.nilck (.t 23)) <|
 .p 25 [24] (.faddr 5 (.t 24)) <|
 .op (some 26) .bool [22, 25] (.call 131 [(.t 22), (.t 25)]) <|
 .p 27 [26] (.un .not (.t 26)) <|
 .m 28 27 <|
 .grp 28 false (.p 29 [0, 28] (.mov (.t 0)) <|
 .p 30 [28] (.buildSlice 9 1 [(V.str ⟨0, 0⟩)] [(0, 1, (.con (V.str ⟨2, 17999⟩)))]) <|
 .op (some 31) .bool [29, 30, 28] (.call 43 [(.t 29), (.t 30)]) <|
 .p 32 [31, 28] (.un .not (.t 31)) <|
 .nil) 33 [28, 32] (.t 28) (.con (V.bool true)) (.t 32) <|
 .nil))
 (.cond (.tmp 33) (.seq (.ops (.p 6 [] (.mov (.con (V.bool false))) <|
 .nil))
 .ret)
 .skip))
 (.seq (.ops (.p 7 [] (.mov (.con (V.bool false))) <|
 .nil))
 (.seq (.ops (.m 35 1 <|
 .m 36 0 <|
 .m 37 2 <|
 .p 38 [37] (.bin .add .none (.t 37) (.i 1)) <|
 .op (some 39) (.tup [.i, .bool]) [36, 38] (.call 76 [(.t 36), (.t 38)]) <|
 .m 34 39 <|
 .p 40 [34] (.extract 0 (.t 34)) <|
 .p 41 [34] (.extract 1 (.t 34)) <|
 .p 42 [35] (.nilck (.t 35)) <|
 .p 43 [42] (.faddr 15 (.t 42)) <|
 .op none .any [43, 40] (.store 1 (.t 43) (.t 40)) <|
 .m 7 41 <|
 .nil))
 (.seq (.ops (.m 44 7 <|
 .m 6 44 <|
 .nil))
 .ret)))))))
def T135_0 (E : List (Nat × Blk)) (D : Den) (W : DrawFn) (v0b : Nat) (v0o : Nat) (v1b : Nat) (v1o : Nat) (v2 : Int) (σ : H) : Ans :=
 callK (D 44 [(V.ptr v0b v0o), (V.str (BS.mk 1 123))] σ) fun u1 s2 =>
 rtBool u1 fun x3 =>
 condK x3 (
 stK 1 v1b v1o (V.int .i64 (Int.ofNat 7)) s2 fun s4 =>
 callK (D 134 [(V.ptr v0b v0o), (V.ptr v1b v1o), (V.int .i64 v2)] s4) fun u5 s6 =>
 rtBool u5 fun x7 =>
 some ((V.bool x7), s6)) (
 stK 1 v1b v1o (V.int .i64 (Int.ofNat 10)) s2 fun s8 =>
 callK (D 131 [(V.ptr v0b v0o), (V.ptr v1b (Nat.add v1o 5))] s8) fun u9 s10 =>
 rtBool u9 fun x11 =>
 joinB (fun c12 s13 =>
 condK c12 (
 some ((V.bool false), s13)) (
 callK (D 76 [(V.ptr v0b v0o), (V.int .i64 (addF .i64 v2 (Int.ofNat 1)))] s13) fun u15 s16 =>
 rtTup u15 fun l17 =>
 rtCons l17 fun x18 l19 =>
 rtInt .i64 x18 fun x20 =>
 rtCons l19 fun x21 l22 =>
 rtBool x21 fun x23 =>
 rtNil l22 (
 stK 1 v1b (Nat.add v1o 15) (V.int .i64 x20) s16 fun s24 =>
 some ((V.bool x23), s24)))) fun k14 =>
 condK (not x11) (
 k14 true s10) (
 let s25 := newB s10 (.cells [(V.str (BS.mk 2 17999))]);
 callK (D 43 [(V.ptr v0b v0o), (V.sl (H.next s10) 0 1 (.ex 1))] s25) fun u26 s27 =>
 rtBool u26 fun x28 =>
 k14 (not x28) s27))
theorem P135_0 (v0b : Nat) (v0o : Nat) (v1b : Nat) (v1o : Nat) (v2 : Int) (σ : H) :
  denC E D W N (C135_0 ) ⟨[(0, (V.ptr v0b v0o)), (1, (V.ptr v1b v1o)), (2, (V.int .i64 v2))], [], [], σ⟩ (Fin135 E) (fun _ _ => none) (Fin135 E) =
  T135_0 E D W  v0b v0o v1b v1o v2 σ := by kernel_rfl
def J135_0 (E : List (Nat × Blk)) (D : Den) (W : DrawFn) (N : Nat) : Nat → Nat → Nat → Nat → Int → H → Ans := T135_0 E D W 
theorem JE135_0 (v0b : Nat) (v0o : Nat) (v1b : Nat) (v1o : Nat) (v2 : Int) (σ : H) :
  denC E D W N C135_0 ⟨[(0, (V.ptr v0b v0o)), (1, (V.ptr v1b v1o)), (2, (V.int .i64 v2))], [], [], σ⟩ (Fin135 E) (fun _ _ => none) (Fin135 E) = J135_0 E D W N v0b v0o v1b v1o v2 σ := by
  refine (P135_0 E D W N   v0b v0o v1b v1o v2 σ).trans ?_
  kernel_rfl
def F135 (args : List V) (σ : H) : Ans :=
 rtCons args fun x1 l2 =>
 rtPtr x1 fun b3 o4 =>
 rtCons l2 fun x5 l6 =>
 rtPtr x5 fun b7 o8 =>
 rtCons l6 fun x9 l10 =>
 rtInt .i64 x9 fun x11 =>
 rtNil l10 (
 J135_0 E D W N b3 o4 b7 o8 x11 σ)
def A135 : XFn := ⟨45, [.ptr, .ptr, .i], [(.tmp 6)], C135_0⟩
theorem FE135 (args : List V) (σ : H) : runX E D W N A135 args σ = F135 E D W N args σ := by
  unfold F135
  simp only [← JE135_0]
  kernel_rfl
theorem AO135 : A135.body.ok = true := by kernel_rfl

def C137_0 (cc1 : XC) (cc2 : XC) : XC := (.seq (.ops (.p 4 [] (.mov (.i 0)) <|
 .nil))
 (.seq (.seq (.ops (.m 6 0 <|
 .p 7 [6] (.len false (.t 6)) <|
 .p 8 [] (.mov (.i 0)) <|
 .nil))
 (.block 0 (.loop [(0, .any), (1, .any), (7, .i), (8, .i)] [] [] cc2)))
 (.keep [] [] [] cc1)))
def C137_1 : XC := (.seq (.ops (.p 4 [] (.mov (.con (V.int .i64 (Int.negSucc 0)))) <|
 .nil))
 .ret)
def C137_2 : XC := (.seq (.ops (.p 9 [8, 7] (.bin .lss .none (.t 8) (.t 7)) <|
 .nil))
 (.seq (.cond (.tmp 9) .skip
 (.exit 0))
 (.seq (.block 1 (.seq (.ops (.m 10 8 <|
 .m 5 10 <|
 .nil))
 (.seq (.ops (.m 11 1 <|
 .m 12 0 <|
 .m 13 5 <|
 .p 14 [12, 13] (.iaddrS 1 (.t 12) (.t 13)) <|
 .op (some 15) .str [14] (.load none (.t 14)) <|
 .op (some 16) .bool [11, 15] (.callv (.t 11) [(.t 15)]) <|
 .nil))
 (.cond (.tmp 16) (.seq (.ops (.m 17 5 <|
 .m 4 17 <|
 .nil))
 .ret)
 .skip))))
 (.ops (.p 18 [8] (.bin .add .none (.t 8) (.i 1)) <|
 .m 8 18 <|
 .nil)))))
def A137 : XFn := ⟨19, [.any, .any], [(.tmp 4)], (C137_0 C137_1 C137_2)⟩
def C138_0 : XC := (.seq (.ops (.p 1 [0] (.box 204 (.t 0)) <|
 .p 2 [] (.mov (.con (V.bool false))) <|
 .nil))
 (.seq (.ops (.p 3 [1] (.faddr 0 (.t 1)) <|
 .p 4 [3] (.faddr 0 (.t 3)) <|
 .op (some 5) .bool [4] (.load none (.t 4)) <|
 .m 6 5 <|
 .grp 6 true (.p 7 [1, 6] (.faddr 0 (.t 1)) <|
 .p 8 [7, 6] (.faddr 1 (.t 7)) <|
 .op (some 9) .bool [8, 6] (.load none (.t 8)) <|
 .nil) 10 [6, 9] (.t 6) (.t 9) (.con (V.bool false)) <|
 .m 11 10 <|
 .grp 11 true (.p 12 [1, 11] (.faddr 0 (.t 1)) <|
 .p 13 [12, 11] (.faddr 2 (.t 12)) <|
 .op (some 14) .bool [13, 11] (.load none (.t 13)) <|
 .nil) 15 [11, 14] (.t 11) (.t 14) (.con (V.bool false)) <|
 .m 2 15 <|
 .nil))
 .ret))
def A138 : XFn := ⟨16, [(.agg [.bool, .bool, .bool, .bool, .i, .i])], [(.tmp 2)], C138_0⟩
def C150_0 (cc1 : XC) (cc2 : XC) : XC := (.seq (.ops (.p 4 [] (.mov (.con (V.str ⟨0, 0⟩))) <|
 .nil))
 (.seq (.seq (.ops (.m 10 1 <|
 .p 11 [10] (.bin .eql .none (.t 10) (.i 10)) <|
 .nil))
 (.cond (.tmp 11) (.seq (.seq (.ops (.m 12 0 <|
 .p 13 [12] (.bin .leq .none (.i 0) (.t 12)) <|
 .m 14 13 <|
 .grp 14 true (.p 15 [0, 14] (.mov (.t 0)) <|
 .p 16 [15, 14] (.bin .lss .none (.t 15) (.i 100)) <|
 .nil) 17 [14, 16] (.t 14) (.t 16) (.con (V.bool false)) <|
 .nil))
 (.cond (.tmp 17) (.seq (.ops (.m 18 0 <|
 .op (some 19) .str [18] (.call 171 [(.t 18)]) <|
 .m 4 19 <|
 .nil))
 .ret)
 .skip))
 (.seq (.ops (.p 5 [] (.alloc 273 [(V.int .u8 (Int.ofNat 0)), (V.int .u8 (Int.ofNat 0)), (V.int .u8 (Int.ofNat 0)), (V.int .u8 (Int.ofNat 0)), (V.int .u8 (Int.ofNat 0)), (V.int .u8 (Int.ofNat 0)), (V.int .u8 (Int.ofNat 0)), (V.int .u8 (Int.ofNat 0)), (V.int .u8 (Int.ofNat 0)), (V.int .u8 (Int.ofNat 0)), (V.int .u8 (Int.ofNat 0)), (V.int .u8 (Int.ofNat 0)), (V.int .u8 (Int.ofNat 0)), (V.int .u8 (Int.ofNat 0)), (V.int .u8 (Int.ofNat 0)), (V.int .u8 (Int.ofNat 0)), (V.int .u8 (Int.ofNat 0)), (V.int .u8 (Int.ofNat 0)), (V.int .u8 (Int.ofNat 0)), (V.int .u8 (Int.ofNat 0)), (V.int .u8 (Int.ofNat 0)), (V.int .u8 (Int.ofNat 0)), (V.int .u8 (Int.ofNat 0)), (V.int .u8 (Int.ofNat 0))]) <|
 .nil))
 (.seq (.ops (.m 20 0 <|
 .p 21 [20] (.conv (.toInt .u64) (.t 20)) <|
 .m 6 21 <|
 .nil))
 (.seq (.seq (.ops (.m 22 0 <|
 .p 23 [22] (.bin .lss .none (.t 22) (.i 0)) <|
 .nil))
 (.cond (.tmp 23) (.ops (.m 24 6 <|
 .p 25 [24] (.un .neg (.t 24)) <|
 .m 6 25 <|
 .nil))
 .skip))
 (.keep [(0, .i), (5, .ptr), (6, (.int .u64))] [] [] cc2)))))
 .skip))
 (.keep [(0, .i), (1, .i)] [] [] cc1)))
def C150_1 : XC := (.seq (.ops (.m 45 0 <|
 .p 46 [45] (.conv (.toInt .u64) (.t 45)) <|
 .m 47 1 <|
 .m 48 0 <|
 .p 49 [48] (.bin .lss .none (.t 48) (.i 0)) <|
 .op (some 50) (.tup [.any, .str]) [46, 47, 49] (.call 174 [(.con V.nils), (.t 46), (.t 47), (.t 49), (.con (V.bool false))]) <|
 .m 44 50 <|
 .p 51 [44] (.extract 0 (.t 44)) <|
 .p 52 [44] (.extract 1 (.t 44)) <|
 .m 8 51 <|
 .m 9 52 <|
 .nil))
 (.seq (.ops (.m 53 9 <|
 .m 4 53 <|
 .nil))
 .ret))
def C150_2 : XC := (.seq (.ops (.m 26 6 <|
 .op (some 27) .i [26] (.call 172 [(.t 26)]) <|
 .m 7 27 <|
 .nil))
 (.seq (.ops (.m 28 7 <|
 .p 29 [28] (.bin .add .none (.i 1) (.t 28)) <|
 .p 30 [5, 29] (.sliceArr 24 1 (.t 5) (some (.i 1)) (some (.t 29)) none) <|
 .m 31 6 <|
 .op (some 32) (.tup []) [30, 31] (.call 173 [(.t 30), (.t 31)]) <|
 .nil))
 (.seq (.seq (.ops (.m 33 0 <|
 .p 34 [33] (.bin .lss .none (.t 33) (.i 0)) <|
 .nil))
 (.cond (.tmp 34) (.seq (.ops (.p 35 [5] (.iaddrA 24 1 (.t 5) (.i 0)) <|
 .op none .any [35] (.store 1 (.t 35) (.con (V.int .u8 (Int.ofNat 45)))) <|
 .nil))
 (.seq (.ops (.m 36 7 <|
 .p 37 [36] (.bin .add .none (.i 1) (.t 36)) <|
 .p 38 [5, 37] (.sliceArr 24 1 (.t 5) none (some (.t 37)) none) <|
 .p 39 [38] (.conv .toStr (.t 38)) <|
 .m 4 39 <|
 .nil))
 .ret))
 .skip))
 (.seq (.ops (.m 40 7 <|
 .p 41 [40] (.bin .add .none (.i 1) (.t 40)) <|
 .p 42 [5, 41] (.sliceArr 24 1 (.t 5) (some (.i 1)) (some (.t 41)) none) <|
 .p 43 [42] (.conv .toStr (.t 42)) <|
 .m 4 43 <|
 .nil))
 .ret))))
def A150 : XFn := ⟨54, [.i, .i], [(.tmp 4)], (C150_0 C150_1 C150_2)⟩
/-! ### F153: internal_strconv.ParseUint -/
def Fin153 (E : List (Nat × Blk)) : St → Ans := fun s => resK E s [(.tmp 6), (.tmp 7)] fun l => some (oneV l, s.σ)
def C153_0 (cc1 : XC) : XC := (.seq (.ops (.p 6 [] (.mov (.con (V.int .u64 (Int.ofNat 0)))) <|
 .p 7 [] (.mov (.con V.nili)) <|
 .nil))
 (.seq (.seq (.ops (.m 18 0 <|
 .p 19 [18] (.bin .eql .none (.t 18) (.con (V.str ⟨0, 0⟩))) <|
 .nil))
 (.cond (.tmp 19) (.seq (.ops (.p 20 [] (.mkifc 254 (.i 2)) <|
 .p 6 [] (.mov (.con (V.int .u64 (Int.ofNat 0)))) <|
 .m 7 20 <|
 .nil))
 .ret)
 .skip))
 (.seq (.ops (.m 21 1 <|
 .p 22 [21] (.bin .eql .none (.t 21) (.i 0)) <|
 .m 8 22 <|
 .nil))
 (.seq (.ops (.m 23 0 <|
 .m 9 23 <|
 .nil))
 (.seq (.block 0 (.seq (.ops (.m 26 1 <|
 .p 27 [26] (.bin .leq .none (.i 2) (.t 26)) <|
 .m 28 27 <|
 .grp 28 true (.p 29 [1, 28] (.mov (.t 1)) <|
 .p 30 [29, 28] (.bin .leq .none (.t 29) (.i 36)) <|
 .nil) 31 [28, 30] (.t 28) (.t 30) (.con (V.bool false)) <|
 .m 25 31 <|
 .nil))
 (.cond (.tmp 25) .skip
 (.seq (.ops (.m 33 1 <|
 .p 34 [33] (.bin .eql .none (.t 33) (.i 0)) <|
 .m 32 34 <|
 .nil))
 (.cond (.tmp 32) (.seq (.ops (.p 1 [] (.mov (.i 10)) <|
 .nil))
 (.seq (.ops (.m 35 0 <|
 .p 36 [35] (.idxStr (.t 35) (.i 0)) <|
 .p 37 [36] (.bin .eql .none (.t 36) (.con (V.int .u8 (Int.ofNat 48)))) <|
 .nil))
 (.cond (.tmp 37) (.block 1 (.seq (.ops (.m 41 0 <|
 .p 42 [41] (.len true (.t 41)) <|
 .p 43 [42] (.bin .geq .none (.t 42) (.i 3)) <|
 .m 44 43 <|
 .grp 44 true (.p 45 [0, 44] (.mov (.t 0)) <|
 .p 46 [45, 44] (.idxStr (.t 45) (.i 1)) <|
 .op (some 47) (.int .u8) [46, 44] (.call 181 [(.t 46)]) <|
 .p 48 [47, 44] (.bin .eql .none (.t 47) (.con (V.int .u8 (Int.ofNat 98)))) <|
 .nil) 49 [44, 48] (.t 44) (.t 48) (.con (V.bool false)) <|
 .m 40 49 <|
 .nil))
 (.cond (.tmp 40) (.seq (.ops (.p 1 [] (.mov (.i 2)) <|
 .nil))
 (.ops (.m 50 0 <|
 .p 51 [50] (.sliceStr (.t 50) (some (.i 2)) none) <|
 .m 0 51 <|
 .nil)))
 (.seq (.ops (.m 53 0 <|
 .p 54 [53] (.len true (.t 53)) <|
 .p 55 [54] (.bin .geq .none (.t 54) (.i 3)) <|
 .m 56 55 <|
 .grp 56 true (.p 57 [0, 56] (.mov (.t 0)) <|
 .p 58 [57, 56] (.idxStr (.t 57) (.i 1)) <|
 .op (some 59) (.int .u8) [58, 56] (.call 181 [(.t 58)]) <|
 .p 60 [59, 56] (.bin .eql .none (.t 59) (.con (V.int .u8 (Int.ofNat 111)))) <|
 .nil) 61 [56, 60] (.t 56) (.t 60) (.con (V.bool false)) <|
 .m 52 61 <|
 .nil))
 (.cond (.tmp 52) (.seq (.ops (.p 1 [] (.mov (.i 8)) <|
 .nil))
 (.ops (.m 62 0 <|
 .p 63 [62] (.sliceStr (.t 62) (some (.i 2)) none) <|
 .m 0 63 <|
 .nil)))
 (.seq (.ops (.m 65 0 <|
 .p 66 [65] (.len true (.t 65)) <|
 .p 67 [66] (.bin .geq .none (.t 66) (.i 3)) <|
 .m 68 67 <|
 .grp 68 true (.p 69 [0, 68] (.mov (.t 0)) <|
 .p 70 [69, 68] (.idxStr (.t 69) (.i 1)) <|
 .op (some 71) (.int .u8) [70, 68] (.call 181 [(.t 70)]) <|
 .p 72 [71, 68] (.bin .eql .none (.t 71) (.con (V.int .u8 (Int.ofNat 120)))) <|
 .nil) 73 [68, 72] (.t 68) (.t 72) (.con (V.bool false)) <|
 .m 64 73 <|
 .nil))
 (.cond (.tmp 64) (.seq (.ops (.p 1 [] (.mov (.i 16)) <|
 .nil))
 (.ops (.m 74 0 <|
 .p 75 [74] (.sliceStr (.t 74) (some (.i 2)) none) <|
 .m 0 75 <|
 .nil)))
 (.seq (.ops (.p 1 [] (.mov (.i 8)) <|
 .nil))
 (.ops (.m 38 0 <|
 .p 39 [38] (.sliceStr (.t 38) (some (.i 1)) none) <|
 .m 0 39 <|
 .nil))))))))))
 .skip)))
 (.seq (.ops (.p 24 [] (.mkifc 254 (.i 3)) <|
 .p 6 [] (.mov (.con (V.int .u64 (Int.ofNat 0)))) <|
 .m 7 24 <|
 .nil))
 .ret))))))
 (.keep [(0, .str), (1, .i), (2, .i), (8, .bool), (9, .str)] [] [] cc1))))))
def T153_0 (E : List (Nat × Blk)) (D : Den) (W : DrawFn) (K1 : BS → Int → Int → Bool → BS → H → Ans) (v0 : BS) (v1 : Int) (v2 : Int) (σ : H) : Ans :=
 condK (BS.beq v0 (BS.mk 0 0)) (
 some ((V.tup [(V.int .u64 (Int.ofNat 0)), (V.ifc 254 (V.int .i64 (Int.ofNat 2)))]), σ)) (
 joinB (fun c1 s2 =>
 condK c1 (
 K1 v0 v1 v2 (eqF v1 (Int.ofNat 0)) v0 s2) (
 condK (eqF v1 (Int.ofNat 0)) (
 idxStrX v0 (Int.ofNat 0) fun x4 =>
 condK (eqF x4 (Int.ofNat 48)) (
 joinB (fun c5 s6 =>
 condK c5 (
 sliceStrX v0 (some (V.int .i64 (Int.ofNat 2))) none fun t8 =>
 K1 t8 (Int.ofNat 2) v2 (eqF v1 (Int.ofNat 0)) v0 s6) (
 joinB (fun c9 s10 =>
 condK c9 (
 sliceStrX v0 (some (V.int .i64 (Int.ofNat 2))) none fun t12 =>
 K1 t12 (Int.ofNat 8) v2 (eqF v1 (Int.ofNat 0)) v0 s10) (
 joinB (fun c13 s14 =>
 condK c13 (
 sliceStrX v0 (some (V.int .i64 (Int.ofNat 2))) none fun t16 =>
 K1 t16 (Int.ofNat 16) v2 (eqF v1 (Int.ofNat 0)) v0 s14) (
 sliceStrX v0 (some (V.int .i64 (Int.ofNat 1))) none fun t17 =>
 K1 t17 (Int.ofNat 8) v2 (eqF v1 (Int.ofNat 0)) v0 s14)) fun k15 =>
 condK (leF (Int.ofNat 3) (Int.ofNat (BS.len v0))) (
 idxStrX v0 (Int.ofNat 1) fun x18 =>
 callK (D 181 [(V.int .u8 x18)] s10) fun u19 s20 =>
 rtInt .u8 u19 fun x21 =>
 k15 (eqF x21 (Int.ofNat 120)) s20) (
 k15 false s10))) fun k11 =>
 condK (leF (Int.ofNat 3) (Int.ofNat (BS.len v0))) (
 idxStrX v0 (Int.ofNat 1) fun x22 =>
 callK (D 181 [(V.int .u8 x22)] s6) fun u23 s24 =>
 rtInt .u8 u23 fun x25 =>
 k11 (eqF x25 (Int.ofNat 111)) s24) (
 k11 false s6))) fun k7 =>
 condK (leF (Int.ofNat 3) (Int.ofNat (BS.len v0))) (
 idxStrX v0 (Int.ofNat 1) fun x26 =>
 callK (D 181 [(V.int .u8 x26)] s2) fun u27 s28 =>
 rtInt .u8 u27 fun x29 =>
 k7 (eqF x29 (Int.ofNat 98)) s28) (
 k7 false s2)) (
 K1 v0 (Int.ofNat 10) v2 (eqF v1 (Int.ofNat 0)) v0 s2)) (
 some ((V.tup [(V.int .u64 (Int.ofNat 0)), (V.ifc 254 (V.int .i64 (Int.ofNat 3)))]), s2)))) fun k3 =>
 condK (leF (Int.ofNat 2) v1) (
 k3 (leF v1 (Int.ofNat 36)) σ) (
 k3 false σ))
def C153_1 (cc2 : XC) : XC := (.seq (.seq (.ops (.m 76 2 <|
 .p 77 [76] (.bin .eql .none (.t 76) (.i 0)) <|
 .nil))
 (.cond (.tmp 77) (.ops (.p 2 [] (.mov (.i 64)) <|
 .nil))
 (.seq (.ops (.m 78 2 <|
 .p 79 [78] (.bin .lss .none (.t 78) (.i 0)) <|
 .m 80 79 <|
 .grp 80 false (.p 81 [2, 80] (.mov (.t 2)) <|
 .p 82 [81, 80] (.bin .gtr .none (.t 81) (.i 64)) <|
 .nil) 83 [80, 82] (.t 80) (.con (V.bool true)) (.t 82) <|
 .nil))
 (.cond (.tmp 83) (.seq (.ops (.p 84 [] (.mkifc 254 (.i 4)) <|
 .p 6 [] (.mov (.con (V.int .u64 (Int.ofNat 0)))) <|
 .m 7 84 <|
 .nil))
 .ret)
 .skip))))
 (.keep [(0, .str), (1, .i), (2, .i), (8, .bool), (9, .str)] [] [] cc2))
def T153_1 (E : List (Nat × Blk)) (D : Den) (W : DrawFn) (K2 : BS → Int → Int → Bool → BS → H → Ans) (v0 : BS) (v1 : Int) (v2 : Int) (v8 : Bool) (v9 : BS) (σ : H) : Ans :=
 condK (eqF v2 (Int.ofNat 0)) (
 K2 v0 v1 (Int.ofNat 64) v8 v9 σ) (
 joinB (fun c1 s2 =>
 condK c1 (
 some ((V.tup [(V.int .u64 (Int.ofNat 0)), (V.ifc 254 (V.int .i64 (Int.ofNat 4)))]), s2)) (
 K2 v0 v1 v2 v8 v9 s2)) fun k3 =>
 condK (ltF v2 (Int.ofNat 0)) (
 k3 true σ) (
 k3 (ltF (Int.ofNat 64) v2) σ))
def C153_2 (cc3 : XC) : XC := (.seq (.ops (.p 10 [] (.mov (.con (V.int .u64 (Int.ofNat 0)))) <|
 .nil))
 (.seq (.seq (.ops (.m 85 1 <|
 .nil))
 (.block 2 (.seq (.ops (.p 91 [85] (.bin .eql .none (.t 85) (.i 10)) <|
 .m 90 91 <|
 .nil))
 (.cond (.tmp 90) (.ops (.p 10 [] (.mov (.con (V.int .u64 (Int.ofNat 1844674407370955162)))) <|
 .nil))
 (.seq (.ops (.p 93 [85] (.bin .eql .none (.t 85) (.i 16)) <|
 .m 92 93 <|
 .nil))
 (.cond (.tmp 92) (.ops (.p 10 [] (.mov (.con (V.int .u64 (Int.ofNat 1152921504606846976)))) <|
 .nil))
 (.ops (.m 86 1 <|
 .p 87 [86] (.conv (.toInt .u64) (.t 86)) <|
 .p 88 [87] (.bin .quo .none (.con (V.int .u64 (Int.ofNat 18446744073709551615))) (.t 87)) <|
 .p 89 [88] (.bin .add .none (.t 88) (.con (V.int .u64 (Int.ofNat 1)))) <|
 .m 10 89 <|
 .nil))))))))
 (.keep [(0, .str), (1, .i), (2, .i), (8, .bool), (9, .str), (10, (.int .u64))] [] [] cc3)))
def T153_2 (E : List (Nat × Blk)) (D : Den) (W : DrawFn) (K3 : BS → Int → Int → Bool → BS → Int → H → Ans) (v0 : BS) (v1 : Int) (v2 : Int) (v8 : Bool) (v9 : BS) (σ : H) : Ans :=
 condK (eqF v1 (Int.ofNat 10)) (
 K3 v0 v1 v2 v8 v9 (Int.ofNat 1844674407370955162) σ) (
 condK (eqF v1 (Int.ofNat 16)) (
 K3 v0 v1 v2 v8 v9 (Int.ofNat 1152921504606846976) σ) (
 nzK (wrapF .u64 v1) (
 K3 v0 v1 v2 v8 v9 (addF .u64 (quoF .u64 (Int.ofNat 18446744073709551615) (wrapF .u64 v1)) (Int.ofNat 1)) σ)))
def C153_3 (cc4 : XC) (cc5 : XC) : XC := (.seq (.ops (.m 94 2 <|
 .p 95 [94] (.conv (.toInt .u64) (.t 94)) <|
 .p 96 [95] (.bin .shl .none (.con (V.int .u64 (Int.ofNat 1))) (.t 95)) <|
 .p 97 [96] (.bin .sub .none (.t 96) (.con (V.int .u64 (Int.ofNat 1)))) <|
 .m 11 97 <|
 .nil))
 (.seq (.ops (.p 12 [] (.mov (.con (V.bool false))) <|
 .nil))
 (.seq (.ops (.p 13 [] (.mov (.con (V.int .u64 (Int.ofNat 0)))) <|
 .nil))
 (.seq (.seq (.ops (.m 98 0 <|
 .p 99 [98] (.conv (.toBytes 5) (.t 98)) <|
 .p 100 [99] (.len false (.t 99)) <|
 .p 101 [] (.mov (.i 0)) <|
 .nil))
 (.block 3 (.loop [(1, .i), (8, .bool), (9, .str), (10, (.int .u64)), (11, (.int .u64)), (12, .bool), (13, (.int .u64)), (99, .any), (100, .i), (101, .i)] [] [] cc5)))
 (.keep [(9, .str), (12, .bool), (13, (.int .u64))] [] [] cc4)))))
def T153_3 (E : List (Nat × Blk)) (D : Den) (W : DrawFn) (K5 : Int → Bool → BS → Int → Int → Bool → Int → V → Int → Int → H → Ans) (v0 : BS) (v1 : Int) (v2 : Int) (v8 : Bool) (v9 : BS) (v10 : Int) (σ : H) : Ans :=
 nnK (wrapF .u64 v2) fun n1 =>
 chk (Nat.ble (BS.len v0) 1000000000000) (
 let s2 := newB σ (.cells (ints (BS.toList v0)));
 slenK (V.sl (H.next σ) 0 (BS.len v0) (.op 1)) fun n3 =>
 K5 v1 v8 v9 v10 (subF .u64 (shlF .u64 (Int.ofNat 1) n1) (Int.ofNat 1)) false (Int.ofNat 0) (V.sl (H.next σ) 0 (BS.len v0) (.op 1)) (Int.ofNat n3) (Int.ofNat 0) s2)
def C153_4 : XC := (.seq (.seq (.ops (.m 164 12 <|
 .m 165 164 <|
 .grp 165 true (.p 166 [9, 165] (.mov (.t 9)) <|
 .op (some 167) .bool [166, 165] (.call 182 [(.t 166)]) <|
 .p 168 [167, 165] (.un .not (.t 167)) <|
 .nil) 169 [165, 168] (.t 165) (.t 168) (.con (V.bool false)) <|
 .nil))
 (.cond (.tmp 169) (.seq (.ops (.p 170 [] (.mkifc 254 (.i 2)) <|
 .p 6 [] (.mov (.con (V.int .u64 (Int.ofNat 0)))) <|
 .m 7 170 <|
 .nil))
 .ret)
 .skip))
 (.seq (.ops (.m 171 13 <|
 .m 6 171 <|
 .p 7 [] (.mov (.con V.nili)) <|
 .nil))
 .ret))
def T153_4 (E : List (Nat × Blk)) (D : Den) (W : DrawFn) (v9 : BS) (v12 : Bool) (v13 : Int) (σ : H) : Ans :=
 joinB (fun c1 s2 =>
 condK c1 (
 some ((V.tup [(V.int .u64 (Int.ofNat 0)), (V.ifc 254 (V.int .i64 (Int.ofNat 2)))]), s2)) (
 some ((V.tup [(V.int .u64 v13), V.nili]), s2))) fun k3 =>
 condK v12 (
 callK (D 182 [(V.str v9)] σ) fun u4 s5 =>
 rtBool u4 fun x6 =>
 k3 (not x6) s5) (
 k3 false σ)
def C153_5 (cc6 : XC) (cc7 : XC) : XC := (.seq (.ops (.p 102 [101, 100] (.bin .lss .none (.t 101) (.t 100)) <|
 .nil))
 (.seq (.cond (.tmp 102) .skip
 (.exit 3))
 (.seq (.block 4 (.seq (.ops (.p 103 [99, 101] (.iaddrS 1 (.t 99) (.t 101)) <|
 .op (some 104) (.int .u8) [103] (.load none (.t 103)) <|
 .m 15 104 <|
 .nil))
 (.seq (.ops (.p 16 [] (.mov (.con (V.int .u8 (Int.ofNat 0)))) <|
 .nil))
 (.seq (.block 5 (.seq (.ops (.m 107 15 <|
 .p 108 [107] (.bin .eql .none (.t 107) (.con (V.int .u8 (Int.ofNat 95)))) <|
 .m 109 108 <|
 .grp 109 true (.p 110 [8, 109] (.mov (.t 8)) <|
 .nil) 111 [109, 110] (.t 109) (.t 110) (.con (V.bool false)) <|
 .m 106 111 <|
 .nil))
 (.cond (.tmp 106) (.seq (.ops (.p 12 [] (.mov (.con (V.bool true))) <|
 .nil))
 (.exit 4))
 (.seq (.ops (.m 113 15 <|
 .p 114 [113] (.bin .leq .none (.con (V.int .u8 (Int.ofNat 48))) (.t 113)) <|
 .m 115 114 <|
 .grp 115 true (.p 116 [15, 115] (.mov (.t 15)) <|
 .p 117 [116, 115] (.bin .leq .none (.t 116) (.con (V.int .u8 (Int.ofNat 57)))) <|
 .nil) 118 [115, 117] (.t 115) (.t 117) (.con (V.bool false)) <|
 .m 112 118 <|
 .nil))
 (.cond (.tmp 112) (.ops (.m 119 15 <|
 .p 120 [119] (.bin .sub .none (.t 119) (.con (V.int .u8 (Int.ofNat 48)))) <|
 .m 16 120 <|
 .nil))
 (.seq (.ops (.m 122 15 <|
 .op (some 123) (.int .u8) [122] (.call 181 [(.t 122)]) <|
 .p 124 [123] (.bin .leq .none (.con (V.int .u8 (Int.ofNat 97))) (.t 123)) <|
 .m 125 124 <|
 .grp 125 true (.p 126 [15, 125] (.mov (.t 15)) <|
 .op (some 127) (.int .u8) [126, 125] (.call 181 [(.t 126)]) <|
 .p 128 [127, 125] (.bin .leq .none (.t 127) (.con (V.int .u8 (Int.ofNat 122)))) <|
 .nil) 129 [125, 128] (.t 125) (.t 128) (.con (V.bool false)) <|
 .m 121 129 <|
 .nil))
 (.cond (.tmp 121) (.ops (.m 130 15 <|
 .op (some 131) (.int .u8) [130] (.call 181 [(.t 130)]) <|
 .p 132 [131] (.bin .sub .none (.t 131) (.con (V.int .u8 (Int.ofNat 97)))) <|
 .p 133 [132] (.bin .add .none (.t 132) (.con (V.int .u8 (Int.ofNat 10)))) <|
 .m 16 133 <|
 .nil))
 (.seq (.ops (.p 105 [] (.mkifc 254 (.i 2)) <|
 .p 6 [] (.mov (.con (V.int .u64 (Int.ofNat 0)))) <|
 .m 7 105 <|
 .nil))
 .ret))))))))
 (.keep [(1, .i), (8, .bool), (9, .str), (10, (.int .u64)), (11, (.int .u64)), (12, .bool), (13, (.int .u64)), (16, (.int .u8)), (99, .any), (100, .i), (101, .i)] [] [] cc7)))))
 (.keep [(1, .i), (8, .bool), (9, .str), (10, (.int .u64)), (11, (.int .u64)), (12, .bool), (13, (.int .u64)), (99, .any), (100, .i), (101, .i)] [] [] cc6))))
def T153_5 (E : List (Nat × Blk)) (D : Den) (W : DrawFn) (K4 : BS → Bool → Int → H → Ans) (K6 : Int → Bool → BS → Int → Int → Bool → Int → V → Int → Int → H → Ans) (K7 : Int → Bool → BS → Int → Int → Bool → Int → Int → V → Int → Int → H → Ans) (v1 : Int) (v8 : Bool) (v9 : BS) (v10 : Int) (v11 : Int) (v12 : Bool) (v13 : Int) (v99 : V) (v100 : Int) (v101 : Int) (σ : H) : Ans :=
 condK (ltF v101 v100) (
 iaddrSK 1 v99 v101 fun b1 o2 =>
 ldK E σ b1 o2 fun u3 =>
 rtInt .u8 u3 fun x4 =>
 joinB (fun c5 s6 =>
 condK c5 (
 K6 v1 v8 v9 v10 v11 true v13 v99 v100 v101 s6) (
 joinB (fun c8 s9 =>
 condK c8 (
 K7 v1 v8 v9 v10 v11 v12 v13 (subF .u8 x4 (Int.ofNat 48)) v99 v100 v101 s9) (
 callK (D 181 [(V.int .u8 x4)] s9) fun u11 s12 =>
 rtInt .u8 u11 fun x13 =>
 joinB (fun c14 s15 =>
 condK c14 (
 callK (D 181 [(V.int .u8 x4)] s15) fun u17 s18 =>
 rtInt .u8 u17 fun x19 =>
 K7 v1 v8 v9 v10 v11 v12 v13 (addF .u8 (subF .u8 x19 (Int.ofNat 97)) (Int.ofNat 10)) v99 v100 v101 s18) (
 some ((V.tup [(V.int .u64 (Int.ofNat 0)), (V.ifc 254 (V.int .i64 (Int.ofNat 2)))]), s15))) fun k16 =>
 condK (leF (Int.ofNat 97) x13) (
 callK (D 181 [(V.int .u8 x4)] s12) fun u20 s21 =>
 rtInt .u8 u20 fun x22 =>
 k16 (leF x22 (Int.ofNat 122)) s21) (
 k16 false s12))) fun k10 =>
 condK (leF (Int.ofNat 48) x4) (
 k10 (leF x4 (Int.ofNat 57)) s6) (
 k10 false s6))) fun k7 =>
 condK (eqF x4 (Int.ofNat 95)) (
 k7 v8 σ) (
 k7 false σ)) (
 K4 v9 v12 v13 σ)
def C153_6 : XC := (.ops (.p 163 [101] (.bin .add .none (.t 101) (.i 1)) <|
 .m 101 163 <|
 .nil))
def T153_6 (E : List (Nat × Blk)) (D : Den) (W : DrawFn) (R5 : Int → Bool → BS → Int → Int → Bool → Int → V → Int → Int → H → Ans) (v1 : Int) (v8 : Bool) (v9 : BS) (v10 : Int) (v11 : Int) (v12 : Bool) (v13 : Int) (v99 : V) (v100 : Int) (v101 : Int) (σ : H) : Ans :=
 R5 v1 v8 v9 v10 v11 v12 v13 v99 v100 (addF .i64 v101 (Int.ofNat 1)) σ
def C153_7 : XC := (.seq (.seq (.ops (.m 134 16 <|
 .m 135 1 <|
 .p 136 [135] (.conv (.toInt .u8) (.t 135)) <|
 .p 137 [134, 136] (.bin .geq .none (.t 134) (.t 136)) <|
 .nil))
 (.cond (.tmp 137) (.seq (.ops (.p 138 [] (.mkifc 254 (.i 2)) <|
 .p 6 [] (.mov (.con (V.int .u64 (Int.ofNat 0)))) <|
 .m 7 138 <|
 .nil))
 .ret)
 .skip))
 (.seq (.seq (.ops (.m 139 13 <|
 .m 140 10 <|
 .p 141 [139, 140] (.bin .geq .none (.t 139) (.t 140)) <|
 .nil))
 (.cond (.tmp 141) (.seq (.ops (.m 142 11 <|
 .p 143 [] (.mkifc 254 (.i 1)) <|
 .m 6 142 <|
 .m 7 143 <|
 .nil))
 .ret)
 .skip))
 (.seq (.ops (.m 144 13 <|
 .m 145 1 <|
 .p 146 [145] (.conv (.toInt .u64) (.t 145)) <|
 .p 147 [144, 146] (.bin .mul .none (.t 144) (.t 146)) <|
 .m 13 147 <|
 .nil))
 (.seq (.ops (.m 148 13 <|
 .m 149 16 <|
 .p 150 [149] (.conv (.toInt .u64) (.t 149)) <|
 .p 151 [148, 150] (.bin .add .none (.t 148) (.t 150)) <|
 .m 17 151 <|
 .nil))
 (.seq (.seq (.ops (.m 152 17 <|
 .m 153 13 <|
 .p 154 [152, 153] (.bin .lss .none (.t 152) (.t 153)) <|
 .m 155 154 <|
 .grp 155 false (.p 156 [17, 155] (.mov (.t 17)) <|
 .p 157 [11, 155] (.mov (.t 11)) <|
 .p 158 [156, 157, 155] (.bin .gtr .none (.t 156) (.t 157)) <|
 .nil) 159 [155, 158] (.t 155) (.con (V.bool true)) (.t 158) <|
 .nil))
 (.cond (.tmp 159) (.seq (.ops (.m 160 11 <|
 .p 161 [] (.mkifc 254 (.i 1)) <|
 .m 6 160 <|
 .m 7 161 <|
 .nil))
 .ret)
 .skip))
 (.ops (.m 162 17 <|
 .m 13 162 <|
 .nil)))))))
def T153_7 (E : List (Nat × Blk)) (D : Den) (W : DrawFn) (K6 : Int → Bool → BS → Int → Int → Bool → Int → V → Int → Int → H → Ans) (v1 : Int) (v8 : Bool) (v9 : BS) (v10 : Int) (v11 : Int) (v12 : Bool) (v13 : Int) (v16 : Int) (v99 : V) (v100 : Int) (v101 : Int) (σ : H) : Ans :=
 condK (leF (wrapF .u8 v1) v16) (
 some ((V.tup [(V.int .u64 (Int.ofNat 0)), (V.ifc 254 (V.int .i64 (Int.ofNat 2)))]), σ)) (
 condK (leF v10 v13) (
 some ((V.tup [(V.int .u64 v11), (V.ifc 254 (V.int .i64 (Int.ofNat 1)))]), σ)) (
 joinB (fun c1 s2 =>
 condK c1 (
 some ((V.tup [(V.int .u64 v11), (V.ifc 254 (V.int .i64 (Int.ofNat 1)))]), s2)) (
 K6 v1 v8 v9 v10 v11 v12 (addF .u64 (mulF .u64 v13 (wrapF .u64 v1)) (wrapF .u64 v16)) v99 v100 v101 s2)) fun k3 =>
 condK (ltF (addF .u64 (mulF .u64 v13 (wrapF .u64 v1)) (wrapF .u64 v16)) (mulF .u64 v13 (wrapF .u64 v1))) (
 k3 true σ) (
 k3 (ltF v11 (addF .u64 (mulF .u64 v13 (wrapF .u64 v1)) (wrapF .u64 v16))) σ)))
theorem P153_0 (cc1 : XC) (v0 : BS) (v1 : Int) (v2 : Int) (σ : H) :
  denC E D W N (C153_0 cc1) ⟨[(0, (V.str v0)), (1, (V.int .i64 v1)), (2, (V.int .i64 v2))], [], [], σ⟩ (Fin153 E) (fun _ _ => none) (Fin153 E) =
  T153_0 E D W (fun v0 v1 v2 v8 v9 σ => denC E D W N cc1 ⟨[(0, (V.str v0)), (1, (V.int .i64 v1)), (2, (V.int .i64 v2)), (8, (V.bool v8)), (9, (V.str v9))], [], [], σ⟩ (Fin153 E) (fun _ _ => none) (Fin153 E)) v0 v1 v2 σ := by kernel_rfl
theorem P153_1 (cc2 : XC) (v0 : BS) (v1 : Int) (v2 : Int) (v8 : Bool) (v9 : BS) (σ : H) :
  denC E D W N (C153_1 cc2) ⟨[(0, (V.str v0)), (1, (V.int .i64 v1)), (2, (V.int .i64 v2)), (8, (V.bool v8)), (9, (V.str v9))], [], [], σ⟩ (Fin153 E) (fun _ _ => none) (Fin153 E) =
  T153_1 E D W (fun v0 v1 v2 v8 v9 σ => denC E D W N cc2 ⟨[(0, (V.str v0)), (1, (V.int .i64 v1)), (2, (V.int .i64 v2)), (8, (V.bool v8)), (9, (V.str v9))], [], [], σ⟩ (Fin153 E) (fun _ _ => none) (Fin153 E)) v0 v1 v2 v8 v9 σ := by kernel_rfl
theorem P153_2 (cc3 : XC) (v0 : BS) (v1 : Int) (v2 : Int) (v8 : Bool) (v9 : BS) (σ : H) :
  denC E D W N (C153_2 cc3) ⟨[(0, (V.str v0)), (1, (V.int .i64 v1)), (2, (V.int .i64 v2)), (8, (V.bool v8)), (9, (V.str v9))], [], [], σ⟩ (Fin153 E) (fun _ _ => none) (Fin153 E) =
  T153_2 E D W (fun v0 v1 v2 v8 v9 v10 σ => denC E D W N cc3 ⟨[(0, (V.str v0)), (1, (V.int .i64 v1)), (2, (V.int .i64 v2)), (8, (V.bool v8)), (9, (V.str v9)), (10, (V.int .u64 v10))], [], [], σ⟩ (Fin153 E) (fun _ _ => none) (Fin153 E)) v0 v1 v2 v8 v9 σ := by kernel_rfl
theorem P153_3 (cc4 : XC) (cc5 : XC) (v0 : BS) (v1 : Int) (v2 : Int) (v8 : Bool) (v9 : BS) (v10 : Int) (σ : H) :
  denC E D W N (C153_3 cc4 cc5) ⟨[(0, (V.str v0)), (1, (V.int .i64 v1)), (2, (V.int .i64 v2)), (8, (V.bool v8)), (9, (V.str v9)), (10, (V.int .u64 v10))], [], [], σ⟩ (Fin153 E) (fun _ _ => none) (Fin153 E) =
  T153_3 E D W (fun v1 v8 v9 v10 v11 v12 v13 v99 v100 v101 σ => iterK (fun rec s' => denC E D W N cc5 s' (fun s'' => keepS [(1, .i), (8, .bool), (9, .str), (10, (.int .u64)), (11, (.int .u64)), (12, .bool), (13, (.int .u64)), (99, .any), (100, .i), (101, .i)] [] [] s'' rec) (blkK 3 (fun s' => denC E D W N (.keep [(9, .str), (12, .bool), (13, (.int .u64))] [] [] cc4) s' (Fin153 E) (fun _ _ => none) (Fin153 E)) (fun _ _ => none)) (Fin153 E)) N ⟨[(1, (V.int .i64 v1)), (8, (V.bool v8)), (9, (V.str v9)), (10, (V.int .u64 v10)), (11, (V.int .u64 v11)), (12, (V.bool v12)), (13, (V.int .u64 v13)), (99, v99), (100, (V.int .i64 v100)), (101, (V.int .i64 v101))], [], [], σ⟩) v0 v1 v2 v8 v9 v10 σ := by kernel_rfl
theorem P153_4 (v9 : BS) (v12 : Bool) (v13 : Int) (σ : H) :
  denC E D W N (C153_4 ) ⟨[(9, (V.str v9)), (12, (V.bool v12)), (13, (V.int .u64 v13))], [], [], σ⟩ (Fin153 E) (fun _ _ => none) (Fin153 E) =
  T153_4 E D W  v9 v12 v13 σ := by kernel_rfl
theorem P153_5 (cc4 : XC) (cc6 : XC) (cc7 : XC) (li5 : St → Ans) (v1 : Int) (v8 : Bool) (v9 : BS) (v10 : Int) (v11 : Int) (v12 : Bool) (v13 : Int) (v99 : V) (v100 : Int) (v101 : Int) (σ : H) :
  denC E D W N (C153_5 cc6 cc7) ⟨[(1, (V.int .i64 v1)), (8, (V.bool v8)), (9, (V.str v9)), (10, (V.int .u64 v10)), (11, (V.int .u64 v11)), (12, (V.bool v12)), (13, (V.int .u64 v13)), (99, v99), (100, (V.int .i64 v100)), (101, (V.int .i64 v101))], [], [], σ⟩ (fun s'' => keepS [(1, .i), (8, .bool), (9, .str), (10, (.int .u64)), (11, (.int .u64)), (12, .bool), (13, (.int .u64)), (99, .any), (100, .i), (101, .i)] [] [] s'' li5) (blkK 3 (fun s' => denC E D W N (.keep [(9, .str), (12, .bool), (13, (.int .u64))] [] [] cc4) s' (Fin153 E) (fun _ _ => none) (Fin153 E)) (fun _ _ => none)) (Fin153 E) =
  T153_5 E D W (fun v9 v12 v13 σ => denC E D W N cc4 ⟨[(9, (V.str v9)), (12, (V.bool v12)), (13, (V.int .u64 v13))], [], [], σ⟩ (Fin153 E) (fun _ _ => none) (Fin153 E)) (fun v1 v8 v9 v10 v11 v12 v13 v99 v100 v101 σ => denC E D W N cc6 ⟨[(1, (V.int .i64 v1)), (8, (V.bool v8)), (9, (V.str v9)), (10, (V.int .u64 v10)), (11, (V.int .u64 v11)), (12, (V.bool v12)), (13, (V.int .u64 v13)), (99, v99), (100, (V.int .i64 v100)), (101, (V.int .i64 v101))], [], [], σ⟩ (fun s'' => keepS [(1, .i), (8, .bool), (9, .str), (10, (.int .u64)), (11, (.int .u64)), (12, .bool), (13, (.int .u64)), (99, .any), (100, .i), (101, .i)] [] [] s'' li5) (blkK 3 (fun s' => denC E D W N (.keep [(9, .str), (12, .bool), (13, (.int .u64))] [] [] cc4) s' (Fin153 E) (fun _ _ => none) (Fin153 E)) (fun _ _ => none)) (Fin153 E)) (fun v1 v8 v9 v10 v11 v12 v13 v16 v99 v100 v101 σ => denC E D W N cc7 ⟨[(1, (V.int .i64 v1)), (8, (V.bool v8)), (9, (V.str v9)), (10, (V.int .u64 v10)), (11, (V.int .u64 v11)), (12, (V.bool v12)), (13, (V.int .u64 v13)), (16, (V.int .u8 v16)), (99, v99), (100, (V.int .i64 v100)), (101, (V.int .i64 v101))], [], [], σ⟩ (fun s' => denC E D W N (.keep [(1, .i), (8, .bool), (9, .str), (10, (.int .u64)), (11, (.int .u64)), (12, .bool), (13, (.int .u64)), (99, .any), (100, .i), (101, .i)] [] [] cc6) s' (fun s'' => keepS [(1, .i), (8, .bool), (9, .str), (10, (.int .u64)), (11, (.int .u64)), (12, .bool), (13, (.int .u64)), (99, .any), (100, .i), (101, .i)] [] [] s'' li5) (blkK 3 (fun s' => denC E D W N (.keep [(9, .str), (12, .bool), (13, (.int .u64))] [] [] cc4) s' (Fin153 E) (fun _ _ => none) (Fin153 E)) (fun _ _ => none)) (Fin153 E)) (blkK 4 (fun s' => denC E D W N (.keep [(1, .i), (8, .bool), (9, .str), (10, (.int .u64)), (11, (.int .u64)), (12, .bool), (13, (.int .u64)), (99, .any), (100, .i), (101, .i)] [] [] cc6) s' (fun s'' => keepS [(1, .i), (8, .bool), (9, .str), (10, (.int .u64)), (11, (.int .u64)), (12, .bool), (13, (.int .u64)), (99, .any), (100, .i), (101, .i)] [] [] s'' li5) (blkK 3 (fun s' => denC E D W N (.keep [(9, .str), (12, .bool), (13, (.int .u64))] [] [] cc4) s' (Fin153 E) (fun _ _ => none) (Fin153 E)) (fun _ _ => none)) (Fin153 E)) (blkK 3 (fun s' => denC E D W N (.keep [(9, .str), (12, .bool), (13, (.int .u64))] [] [] cc4) s' (Fin153 E) (fun _ _ => none) (Fin153 E)) (fun _ _ => none))) (Fin153 E)) v1 v8 v9 v10 v11 v12 v13 v99 v100 v101 σ := by kernel_rfl
theorem P153_6 (cc4 : XC) (li5 : St → Ans) (v1 : Int) (v8 : Bool) (v9 : BS) (v10 : Int) (v11 : Int) (v12 : Bool) (v13 : Int) (v99 : V) (v100 : Int) (v101 : Int) (σ : H) :
  denC E D W N (C153_6 ) ⟨[(1, (V.int .i64 v1)), (8, (V.bool v8)), (9, (V.str v9)), (10, (V.int .u64 v10)), (11, (V.int .u64 v11)), (12, (V.bool v12)), (13, (V.int .u64 v13)), (99, v99), (100, (V.int .i64 v100)), (101, (V.int .i64 v101))], [], [], σ⟩ (fun s'' => keepS [(1, .i), (8, .bool), (9, .str), (10, (.int .u64)), (11, (.int .u64)), (12, .bool), (13, (.int .u64)), (99, .any), (100, .i), (101, .i)] [] [] s'' li5) (blkK 3 (fun s' => denC E D W N (.keep [(9, .str), (12, .bool), (13, (.int .u64))] [] [] cc4) s' (Fin153 E) (fun _ _ => none) (Fin153 E)) (fun _ _ => none)) (Fin153 E) =
  T153_6 E D W (fun v1 v8 v9 v10 v11 v12 v13 v99 v100 v101 σ => li5 ⟨[(1, (V.int .i64 v1)), (8, (V.bool v8)), (9, (V.str v9)), (10, (V.int .u64 v10)), (11, (V.int .u64 v11)), (12, (V.bool v12)), (13, (V.int .u64 v13)), (99, v99), (100, (V.int .i64 v100)), (101, (V.int .i64 v101))], [], [], σ⟩) v1 v8 v9 v10 v11 v12 v13 v99 v100 v101 σ := by kernel_rfl
theorem P153_7 (cc4 : XC) (cc6 : XC) (li5 : St → Ans) (v1 : Int) (v8 : Bool) (v9 : BS) (v10 : Int) (v11 : Int) (v12 : Bool) (v13 : Int) (v16 : Int) (v99 : V) (v100 : Int) (v101 : Int) (σ : H) :
  denC E D W N (C153_7 ) ⟨[(1, (V.int .i64 v1)), (8, (V.bool v8)), (9, (V.str v9)), (10, (V.int .u64 v10)), (11, (V.int .u64 v11)), (12, (V.bool v12)), (13, (V.int .u64 v13)), (16, (V.int .u8 v16)), (99, v99), (100, (V.int .i64 v100)), (101, (V.int .i64 v101))], [], [], σ⟩ (fun s' => denC E D W N (.keep [(1, .i), (8, .bool), (9, .str), (10, (.int .u64)), (11, (.int .u64)), (12, .bool), (13, (.int .u64)), (99, .any), (100, .i), (101, .i)] [] [] cc6) s' (fun s'' => keepS [(1, .i), (8, .bool), (9, .str), (10, (.int .u64)), (11, (.int .u64)), (12, .bool), (13, (.int .u64)), (99, .any), (100, .i), (101, .i)] [] [] s'' li5) (blkK 3 (fun s' => denC E D W N (.keep [(9, .str), (12, .bool), (13, (.int .u64))] [] [] cc4) s' (Fin153 E) (fun _ _ => none) (Fin153 E)) (fun _ _ => none)) (Fin153 E)) (blkK 4 (fun s' => denC E D W N (.keep [(1, .i), (8, .bool), (9, .str), (10, (.int .u64)), (11, (.int .u64)), (12, .bool), (13, (.int .u64)), (99, .any), (100, .i), (101, .i)] [] [] cc6) s' (fun s'' => keepS [(1, .i), (8, .bool), (9, .str), (10, (.int .u64)), (11, (.int .u64)), (12, .bool), (13, (.int .u64)), (99, .any), (100, .i), (101, .i)] [] [] s'' li5) (blkK 3 (fun s' => denC E D W N (.keep [(9, .str), (12, .bool), (13, (.int .u64))] [] [] cc4) s' (Fin153 E) (fun _ _ => none) (Fin153 E)) (fun _ _ => none)) (Fin153 E)) (blkK 3 (fun s' => denC E D W N (.keep [(9, .str), (12, .bool), (13, (.int .u64))] [] [] cc4) s' (Fin153 E) (fun _ _ => none) (Fin153 E)) (fun _ _ => none))) (Fin153 E) =
  T153_7 E D W (fun v1 v8 v9 v10 v11 v12 v13 v99 v100 v101 σ => denC E D W N cc6 ⟨[(1, (V.int .i64 v1)), (8, (V.bool v8)), (9, (V.str v9)), (10, (V.int .u64 v10)), (11, (V.int .u64 v11)), (12, (V.bool v12)), (13, (V.int .u64 v13)), (99, v99), (100, (V.int .i64 v100)), (101, (V.int .i64 v101))], [], [], σ⟩ (fun s'' => keepS [(1, .i), (8, .bool), (9, .str), (10, (.int .u64)), (11, (.int .u64)), (12, .bool), (13, (.int .u64)), (99, .any), (100, .i), (101, .i)] [] [] s'' li5) (blkK 3 (fun s' => denC E D W N (.keep [(9, .str), (12, .bool), (13, (.int .u64))] [] [] cc4) s' (Fin153 E) (fun _ _ => none) (Fin153 E)) (fun _ _ => none)) (Fin153 E)) v1 v8 v9 v10 v11 v12 v13 v16 v99 v100 v101 σ := by kernel_rfl
def J153_4 (E : List (Nat × Blk)) (D : Den) (W : DrawFn) (N : Nat) : BS → Bool → Int → H → Ans := T153_4 E D W 
theorem JE153_4 (v9 : BS) (v12 : Bool) (v13 : Int) (σ : H) :
  denC E D W N C153_4 ⟨[(9, (V.str v9)), (12, (V.bool v12)), (13, (V.int .u64 v13))], [], [], σ⟩ (Fin153 E) (fun _ _ => none) (Fin153 E) = J153_4 E D W N v9 v12 v13 σ := by
  refine (P153_4 E D W N   v9 v12 v13 σ).trans ?_
  kernel_rfl
def J153_6 (E : List (Nat × Blk)) (D : Den) (W : DrawFn) (N : Nat) (R5 : Int → Bool → BS → Int → Int → Bool → Int → V → Int → Int → H → Ans) : Int → Bool → BS → Int → Int → Bool → Int → V → Int → Int → H → Ans := T153_6 E D W R5
theorem JE153_6 (li5 : St → Ans) (v1 : Int) (v8 : Bool) (v9 : BS) (v10 : Int) (v11 : Int) (v12 : Bool) (v13 : Int) (v99 : V) (v100 : Int) (v101 : Int) (σ : H) :
  denC E D W N C153_6 ⟨[(1, (V.int .i64 v1)), (8, (V.bool v8)), (9, (V.str v9)), (10, (V.int .u64 v10)), (11, (V.int .u64 v11)), (12, (V.bool v12)), (13, (V.int .u64 v13)), (99, v99), (100, (V.int .i64 v100)), (101, (V.int .i64 v101))], [], [], σ⟩ (fun s'' => keepS [(1, .i), (8, .bool), (9, .str), (10, (.int .u64)), (11, (.int .u64)), (12, .bool), (13, (.int .u64)), (99, .any), (100, .i), (101, .i)] [] [] s'' li5) (blkK 3 (fun s' => denC E D W N (.keep [(9, .str), (12, .bool), (13, (.int .u64))] [] [] C153_4) s' (Fin153 E) (fun _ _ => none) (Fin153 E)) (fun _ _ => none)) (Fin153 E) = J153_6 E D W N (fun v1 v8 v9 v10 v11 v12 v13 v99 v100 v101 σ => li5 ⟨[(1, (V.int .i64 v1)), (8, (V.bool v8)), (9, (V.str v9)), (10, (V.int .u64 v10)), (11, (V.int .u64 v11)), (12, (V.bool v12)), (13, (V.int .u64 v13)), (99, v99), (100, (V.int .i64 v100)), (101, (V.int .i64 v101))], [], [], σ⟩) v1 v8 v9 v10 v11 v12 v13 v99 v100 v101 σ := by
  refine (P153_6 E D W N C153_4 li5 v1 v8 v9 v10 v11 v12 v13 v99 v100 v101 σ).trans ?_
  kernel_rfl
def J153_7 (R5 : Int → Bool → BS → Int → Int → Bool → Int → V → Int → Int → H → Ans) : Int → Bool → BS → Int → Int → Bool → Int → Int → V → Int → Int → H → Ans := T153_7 E D W (J153_6 E D W N R5)
theorem JE153_7 (li5 : St → Ans) (v1 : Int) (v8 : Bool) (v9 : BS) (v10 : Int) (v11 : Int) (v12 : Bool) (v13 : Int) (v16 : Int) (v99 : V) (v100 : Int) (v101 : Int) (σ : H) :
  denC E D W N C153_7 ⟨[(1, (V.int .i64 v1)), (8, (V.bool v8)), (9, (V.str v9)), (10, (V.int .u64 v10)), (11, (V.int .u64 v11)), (12, (V.bool v12)), (13, (V.int .u64 v13)), (16, (V.int .u8 v16)), (99, v99), (100, (V.int .i64 v100)), (101, (V.int .i64 v101))], [], [], σ⟩ (fun s' => denC E D W N (.keep [(1, .i), (8, .bool), (9, .str), (10, (.int .u64)), (11, (.int .u64)), (12, .bool), (13, (.int .u64)), (99, .any), (100, .i), (101, .i)] [] [] C153_6) s' (fun s'' => keepS [(1, .i), (8, .bool), (9, .str), (10, (.int .u64)), (11, (.int .u64)), (12, .bool), (13, (.int .u64)), (99, .any), (100, .i), (101, .i)] [] [] s'' li5) (blkK 3 (fun s' => denC E D W N (.keep [(9, .str), (12, .bool), (13, (.int .u64))] [] [] C153_4) s' (Fin153 E) (fun _ _ => none) (Fin153 E)) (fun _ _ => none)) (Fin153 E)) (blkK 4 (fun s' => denC E D W N (.keep [(1, .i), (8, .bool), (9, .str), (10, (.int .u64)), (11, (.int .u64)), (12, .bool), (13, (.int .u64)), (99, .any), (100, .i), (101, .i)] [] [] C153_6) s' (fun s'' => keepS [(1, .i), (8, .bool), (9, .str), (10, (.int .u64)), (11, (.int .u64)), (12, .bool), (13, (.int .u64)), (99, .any), (100, .i), (101, .i)] [] [] s'' li5) (blkK 3 (fun s' => denC E D W N (.keep [(9, .str), (12, .bool), (13, (.int .u64))] [] [] C153_4) s' (Fin153 E) (fun _ _ => none) (Fin153 E)) (fun _ _ => none)) (Fin153 E)) (blkK 3 (fun s' => denC E D W N (.keep [(9, .str), (12, .bool), (13, (.int .u64))] [] [] C153_4) s' (Fin153 E) (fun _ _ => none) (Fin153 E)) (fun _ _ => none))) (Fin153 E) = J153_7 E D W N (fun v1 v8 v9 v10 v11 v12 v13 v99 v100 v101 σ => li5 ⟨[(1, (V.int .i64 v1)), (8, (V.bool v8)), (9, (V.str v9)), (10, (V.int .u64 v10)), (11, (V.int .u64 v11)), (12, (V.bool v12)), (13, (V.int .u64 v13)), (99, v99), (100, (V.int .i64 v100)), (101, (V.int .i64 v101))], [], [], σ⟩) v1 v8 v9 v10 v11 v12 v13 v16 v99 v100 v101 σ := by
  refine (P153_7 E D W N C153_4 C153_6 li5 v1 v8 v9 v10 v11 v12 v13 v16 v99 v100 v101 σ).trans ?_
  simp only [JE153_6]
  kernel_rfl
def L153_5 (n : Nat) : Int → Bool → BS → Int → Int → Bool → Int → V → Int → Int → H → Ans :=
  Nat.rec (fun _ _ _ _ _ _ _ _ _ _ _ => none) (fun _ ih => T153_5 E D W (J153_4 E D W N ) (J153_6 E D W N ih) (J153_7 E D W N ih)) n
theorem LE153_5 (n : Nat) : ∀ (v1 : Int) (v8 : Bool) (v9 : BS) (v10 : Int) (v11 : Int) (v12 : Bool) (v13 : Int) (v99 : V) (v100 : Int) (v101 : Int) (σ : H),
  iterK (fun rec s' => denC E D W N (C153_5 C153_6 C153_7) s' (fun s'' => keepS [(1, .i), (8, .bool), (9, .str), (10, (.int .u64)), (11, (.int .u64)), (12, .bool), (13, (.int .u64)), (99, .any), (100, .i), (101, .i)] [] [] s'' rec) (blkK 3 (fun s' => denC E D W N (.keep [(9, .str), (12, .bool), (13, (.int .u64))] [] [] C153_4) s' (Fin153 E) (fun _ _ => none) (Fin153 E)) (fun _ _ => none)) (Fin153 E)) n ⟨[(1, (V.int .i64 v1)), (8, (V.bool v8)), (9, (V.str v9)), (10, (V.int .u64 v10)), (11, (V.int .u64 v11)), (12, (V.bool v12)), (13, (V.int .u64 v13)), (99, v99), (100, (V.int .i64 v100)), (101, (V.int .i64 v101))], [], [], σ⟩ = L153_5 E D W N n v1 v8 v9 v10 v11 v12 v13 v99 v100 v101 σ := by
  induction n with
  | zero => intro v1 v8 v9 v10 v11 v12 v13 v99 v100 v101 σ; rfl
  | succ n ihn =>
    intro v1 v8 v9 v10 v11 v12 v13 v99 v100 v101 σ
    rw [iterK_succ]
    refine (P153_5 E D W N C153_4 C153_6 C153_7 (iterK (fun rec s' => denC E D W N (C153_5 C153_6 C153_7) s' (fun s'' => keepS [(1, .i), (8, .bool), (9, .str), (10, (.int .u64)), (11, (.int .u64)), (12, .bool), (13, (.int .u64)), (99, .any), (100, .i), (101, .i)] [] [] s'' rec) (blkK 3 (fun s' => denC E D W N (.keep [(9, .str), (12, .bool), (13, (.int .u64))] [] [] C153_4) s' (Fin153 E) (fun _ _ => none) (Fin153 E)) (fun _ _ => none)) (Fin153 E)) n) v1 v8 v9 v10 v11 v12 v13 v99 v100 v101 σ).trans ?_
    simp only [ihn, JE153_4, JE153_6, JE153_7]
    kernel_rfl
def J153_3 : BS → Int → Int → Bool → BS → Int → H → Ans := T153_3 E D W (L153_5 E D W N N)
theorem JE153_3 (v0 : BS) (v1 : Int) (v2 : Int) (v8 : Bool) (v9 : BS) (v10 : Int) (σ : H) :
  denC E D W N (C153_3 C153_4 (C153_5 C153_6 C153_7)) ⟨[(0, (V.str v0)), (1, (V.int .i64 v1)), (2, (V.int .i64 v2)), (8, (V.bool v8)), (9, (V.str v9)), (10, (V.int .u64 v10))], [], [], σ⟩ (Fin153 E) (fun _ _ => none) (Fin153 E) = J153_3 E D W N v0 v1 v2 v8 v9 v10 σ := by
  refine (P153_3 E D W N C153_4 (C153_5 C153_6 C153_7)  v0 v1 v2 v8 v9 v10 σ).trans ?_
  simp only [LE153_5]
  kernel_rfl
def J153_2 : BS → Int → Int → Bool → BS → H → Ans := T153_2 E D W (J153_3 E D W N )
theorem JE153_2 (v0 : BS) (v1 : Int) (v2 : Int) (v8 : Bool) (v9 : BS) (σ : H) :
  denC E D W N (C153_2 (C153_3 C153_4 (C153_5 C153_6 C153_7))) ⟨[(0, (V.str v0)), (1, (V.int .i64 v1)), (2, (V.int .i64 v2)), (8, (V.bool v8)), (9, (V.str v9))], [], [], σ⟩ (Fin153 E) (fun _ _ => none) (Fin153 E) = J153_2 E D W N v0 v1 v2 v8 v9 σ := by
  refine (P153_2 E D W N (C153_3 C153_4 (C153_5 C153_6 C153_7))  v0 v1 v2 v8 v9 σ).trans ?_
  simp only [JE153_3]
  kernel_rfl
def J153_1 : BS → Int → Int → Bool → BS → H → Ans := T153_1 E D W (J153_2 E D W N )
theorem JE153_1 (v0 : BS) (v1 : Int) (v2 : Int) (v8 : Bool) (v9 : BS) (σ : H) :
  denC E D W N (C153_1 (C153_2 (C153_3 C153_4 (C153_5 C153_6 C153_7)))) ⟨[(0, (V.str v0)), (1, (V.int .i64 v1)), (2, (V.int .i64 v2)), (8, (V.bool v8)), (9, (V.str v9))], [], [], σ⟩ (Fin153 E) (fun _ _ => none) (Fin153 E) = J153_1 E D W N v0 v1 v2 v8 v9 σ := by
  refine (P153_1 E D W N (C153_2 (C153_3 C153_4 (C153_5 C153_6 C153_7)))  v0 v1 v2 v8 v9 σ).trans ?_
  simp only [JE153_2]
  kernel_rfl
def J153_0 : BS → Int → Int → H → Ans := T153_0 E D W (J153_1 E D W N )
theorem JE153_0 (v0 : BS) (v1 : Int) (v2 : Int) (σ : H) :
  denC E D W N (C153_0 (C153_1 (C153_2 (C153_3 C153_4 (C153_5 C153_6 C153_7))))) ⟨[(0, (V.str v0)), (1, (V.int .i64 v1)), (2, (V.int .i64 v2))], [], [], σ⟩ (Fin153 E) (fun _ _ => none) (Fin153 E) = J153_0 E D W N v0 v1 v2 σ := by
  refine (P153_0 E D W N (C153_1 (C153_2 (C153_3 C153_4 (C153_5 C153_6 C153_7))))  v0 v1 v2 σ).trans ?_
  simp only [JE153_1]
  kernel_rfl
def F153 (args : List V) (σ : H) : Ans :=
 rtCons args fun x1 l2 =>
 rtStr x1 fun x3 =>
 rtCons l2 fun x4 l5 =>
 rtInt .i64 x4 fun x6 =>
 rtCons l5 fun x7 l8 =>
 rtInt .i64 x7 fun x9 =>
 rtNil l8 (
 J153_0 E D W N x3 x6 x9 σ)
def A153 : XFn := ⟨172, [.str, .i, .i], [(.tmp 6), (.tmp 7)], (C153_0 (C153_1 (C153_2 (C153_3 C153_4 (C153_5 C153_6 C153_7)))))⟩
theorem FE153 (args : List V) (σ : H) : runX E D W N A153 args σ = F153 E D W N args σ := by
  unfold F153
  simp only [← JE153_0]
  kernel_rfl
theorem AO153 : A153.body.ok = true := by kernel_rfl

/-! ### F158: __ogham_syntax.parser_.number -/
def Fin158 (E : List (Nat × Blk)) : St → Ans := fun s => resK E s [(.tmp 2), (.cell 3 (some 3)), (.tmp 4)] fun l => some (oneV l, s.σ)
def C158_0 : XC := (.seq (.ops (.p 2 [] (.mov (.i 0)) <|
 .pal 3 [] 116 [(V.int .i64 (Int.ofNat 0)), (V.str ⟨0, 0⟩), (V.int .i64 (Int.ofNat 0))] <|
 .p 4 [] (.mov (.con (V.bool false))) <|
 .nil))
 (.seq (.ops (.m 10 0 <|
 .op (some 11) (.tup [(.agg [.i, .str, .i]), .bool]) [10] (.call 42 [(.t 10), (.i 3)]) <|
 .m 9 11 <|
 .p 12 [9] (.extract 0 (.t 9)) <|
 .p 13 [9] (.extract 1 (.t 9)) <|
 .pal 5 [] 116 [(V.int .i64 (Int.ofNat 0)), (V.str ⟨0, 0⟩), (V.int .i64 (Int.ofNat 0))] <|
 .op none (.agg [.i, .str, .i]) [5, 12] (.store 3 (.t 5) (.t 12)) <|
 .m 6 13 <|
 .nil))
 (.seq (.seq (.ops (.m 14 6 <|
 .p 15 [14] (.un .not (.t 14)) <|
 .nil))
 (.cond (.tmp 15) (.seq (.draw (.op (some 16) (.agg [.i, .str, .i]) [5] (.load (some 3) (.t 5)) <|
 .p 2 [] (.mov (.i 0)) <|
 .op none (.agg [.i, .str, .i]) [3, 16] (.store 3 (.t 3) (.t 16)) <|
 .p 4 [] (.mov (.con (V.bool false))) <|
 .nil) [0, 0, 3, 7])
 .ret)
 .skip))
 (.seq (.ops (.p 18 [5] (.faddr 1 (.t 5)) <|
 .op (some 19) .str [18] (.load none (.t 18)) <|
 .op (some 20) (.tup [.i, .any]) [19] (.call 101 [(.t 19), (.i 10), (.i 64)]) <|
 .m 17 20 <|
 .p 21 [17] (.extract 0 (.t 17)) <|
 .p 22 [17] (.extract 1 (.t 17)) <|
 .m 7 21 <|
 .m 8 22 <|
 .nil))
 (.seq (.draw (.m 23 7 <|
 .op (some 24) (.agg [.i, .str, .i]) [5] (.load (some 3) (.t 5)) <|
 .m 2 23 <|
 .op none (.agg [.i, .str, .i]) [3, 24] (.store 3 (.t 3) (.t 24)) <|
 .p 4 [] (.mov (.con (V.bool true))) <|
 .nil) [0, 0, 1, 7, 15])
 .ret)))))
def T158_0 (E : List (Nat × Blk)) (D : Den) (W : DrawFn) (v0 : V) (σ : H) : Ans :=
 callK (D 42 [v0, (V.int .i64 (Int.ofNat 3))] σ) fun u1 s2 =>
 rtTup u1 fun l3 =>
 rtCons l3 fun x4 l5 =>
 rtAgg x4 fun l6 =>
 rtCons l6 fun x7 l8 =>
 rtInt .i64 x7 fun x9 =>
 rtCons l8 fun x10 l11 =>
 rtStr x10 fun x12 =>
 rtCons l11 fun x13 l14 =>
 rtInt .i64 x13 fun x15 =>
 rtNil l14 (
 rtCons l5 fun x16 l17 =>
 rtBool x16 fun x18 =>
 rtNil l17 (
 condK (not x18) (
 some ((V.tup [(V.int .i64 (Int.ofNat 0)), (V.agg [(V.int .i64 x9), (V.str x12), (V.int .i64 x15)]), (V.bool false)]), s2)) (
 callK (D 101 [(V.str x12), (V.int .i64 (Int.ofNat 10)), (V.int .i64 (Int.ofNat 64))] s2) fun u19 s20 =>
 rtTup u19 fun l21 =>
 rtCons l21 fun x22 l23 =>
 rtInt .i64 x22 fun x24 =>
 rtCons l23 fun x25 l26 =>
 rtNil l26 (
 some ((V.tup [(V.int .i64 x24), (V.agg [(V.int .i64 x9), (V.str x12), (V.int .i64 x15)]), (V.bool true)]), s20)))))
theorem P158_0 (v0 : V) (σ : H) :
  denC E D W N (C158_0 ) ⟨[(0, v0)], [], [], σ⟩ (Fin158 E) (fun _ _ => none) (Fin158 E) =
  T158_0 E D W  v0 σ := by kernel_rfl
def J158_0 (E : List (Nat × Blk)) (D : Den) (W : DrawFn) (N : Nat) : V → H → Ans := T158_0 E D W 
theorem JE158_0 (v0 : V) (σ : H) :
  denC E D W N C158_0 ⟨[(0, v0)], [], [], σ⟩ (Fin158 E) (fun _ _ => none) (Fin158 E) = J158_0 E D W N v0 σ := by
  refine (P158_0 E D W N   v0 σ).trans ?_
  kernel_rfl
def F158 (args : List V) (σ : H) : Ans :=
 rtCons args fun x1 l2 =>
 rtNil l2 (
 J158_0 E D W N x1 σ)
def A158 : XFn := ⟨25, [.any], [(.tmp 2), (.cell 3 (some 3)), (.tmp 4)], C158_0⟩
theorem FE158 (args : List V) (σ : H) : runX E D W N A158 args σ = F158 E D W N args σ := by
  unfold F158
  simp only [← JE158_0]
  kernel_rfl
theorem AO158 : A158.body.ok = true := by kernel_rfl

def C171_0 : XC := (.seq (.ops (.p 2 [] (.mov (.con (V.str ⟨0, 0⟩))) <|
 .nil))
 (.seq (.seq (.ops (.m 3 0 <|
 .p 4 [3] (.bin .lss .none (.t 3) (.i 10)) <|
 .nil))
 (.cond (.tmp 4) (.seq (.ops (.m 5 0 <|
 .m 6 0 <|
 .p 7 [6] (.bin .add .none (.t 6) (.i 1)) <|
 .p 8 [5, 7] (.sliceStr (.con (V.str ⟨36, 237927390410950444456928663707796224754864904193074819559483181009558347043374296609072⟩)) (some (.t 5)) (some (.t 7))) <|
 .m 2 8 <|
 .nil))
 .ret)
 .skip))
 (.seq (.ops (.m 9 0 <|
 .p 10 [9] (.bin .mul .none (.t 9) (.i 2)) <|
 .m 11 0 <|
 .p 12 [11] (.bin .mul .none (.t 11) (.i 2)) <|
 .p 13 [12] (.bin .add .none (.t 12) (.i 2)) <|
 .p 14 [10, 13] (.sliceStr (.con (V.str ⟨200, 9938655150514779720929161263213647789093395803754561035662628441001274968862597953692946393464194303251501229616933063375291039650253924995779037586872666250072396106842829501851083234932712366962979930255066872747696324303968523733872590022915936937156789320557469720923390131174387415513794469201054844961267015441141542819553679203788501627738430154234325528792480477051962324423099068299719245009424585859096469223093538032153047611602695245052081125123941502624659711709950000⟩)) (some (.t 10)) (some (.t 13))) <|
 .m 2 14 <|
 .nil))
 .ret)))
def A171 : XFn := ⟨15, [.i], [(.tmp 2)], C171_0⟩
/-! ### F187: __ogham_syntax.parser_.value -/
def Fin187 (E : List (Nat × Blk)) : St → Ans := fun s => resK E s [(.cell 2 (some 6)), (.tmp 3)] fun l => some (oneV l, s.σ)
def C187_0 (cc1 : XC) : XC := (.seq (.ops (.pal 2 [] 214 [(V.int .i64 (Int.ofNat 0)), (V.int .i64 (Int.ofNat 0)), V.nils, V.nils, (V.int .i64 (Int.ofNat 0)), V.nils] <|
 .p 3 [] (.mov (.con (V.bool false))) <|
 .nil))
 (.seq (.ops (.m 9 0 <|
 .p 10 [9] (.nilck (.t 9)) <|
 .p 11 [10] (.faddr 0 (.t 10)) <|
 .op (some 12) (.agg [.i, .str, .i]) [11] (.call 45 [(.t 11)]) <|
 .pal 4 [] 116 [(V.int .i64 (Int.ofNat 0)), (V.str ⟨0, 0⟩), (V.int .i64 (Int.ofNat 0))] <|
 .op none (.agg [.i, .str, .i]) [4, 12] (.store 3 (.t 4) (.t 12)) <|
 .nil))
 (.seq (.block 0 (.seq (.ops (.m 14 0 <|
 .p 15 [14] (.nilck (.t 14)) <|
 .p 16 [15] (.faddr 0 (.t 15)) <|
 .op (some 17) .bool [16] (.call 75 [(.t 16), (.con (V.str ⟨4, 1163219540⟩))]) <|
 .m 13 17 <|
 .nil))
 (.cond (.tmp 13) (.seq (.ops (.op (some 18) (.agg [.i, .i, .any, .any, .i, .any]) [] (.build [(V.int .i64 (Int.ofNat 0)), (V.int .i64 (Int.ofNat 0)), V.nils, V.nils, (V.int .i64 (Int.ofNat 0)), V.nils] [(0, 1, (.i 1)), (1, 1, (.i 1))]) <|
 .op none (.agg [.i, .i, .any, .any, .i, .any]) [2, 18] (.store 6 (.t 2) (.t 18)) <|
 .p 3 [] (.mov (.con (V.bool true))) <|
 .nil))
 .ret)
 (.seq (.ops (.m 20 0 <|
 .p 21 [20] (.nilck (.t 20)) <|
 .p 22 [21] (.faddr 0 (.t 21)) <|
 .op (some 23) .bool [22] (.call 75 [(.t 22), (.con (V.str ⟨5, 297750249798⟩))]) <|
 .m 19 23 <|
 .nil))
 (.cond (.tmp 19) (.seq (.ops (.op (some 24) (.agg [.i, .i, .any, .any, .i, .any]) [] (.build [(V.int .i64 (Int.ofNat 0)), (V.int .i64 (Int.ofNat 0)), V.nils, V.nils, (V.int .i64 (Int.ofNat 0)), V.nils] [(0, 1, (.i 1))]) <|
 .op none (.agg [.i, .i, .any, .any, .i, .any]) [2, 24] (.store 6 (.t 2) (.t 24)) <|
 .p 3 [] (.mov (.con (V.bool true))) <|
 .nil))
 .ret)
 (.seq (.ops (.m 26 0 <|
 .p 27 [26] (.nilck (.t 26)) <|
 .p 28 [27] (.faddr 0 (.t 27)) <|
 .op (some 29) .bool [28] (.call 75 [(.t 28), (.con (V.str ⟨4, 1280070990⟩))]) <|
 .m 25 29 <|
 .nil))
 (.cond (.tmp 25) (.seq (.ops (.op (some 30) (.agg [.i, .i, .any, .any, .i, .any]) [] (.build [(V.int .i64 (Int.ofNat 0)), (V.int .i64 (Int.ofNat 0)), V.nils, V.nils, (V.int .i64 (Int.ofNat 0)), V.nils] [(0, 1, (.i 4))]) <|
 .op none (.agg [.i, .i, .any, .any, .i, .any]) [2, 30] (.store 6 (.t 2) (.t 30)) <|
 .p 3 [] (.mov (.con (V.bool true))) <|
 .nil))
 .ret)
 .skip)))))))
 (.seq (.ops (.p 31 [4] (.faddr 1 (.t 4)) <|
 .op (some 32) .str [31] (.load none (.t 31)) <|
 .p 33 [32] (.conv (.toBytes 5) (.t 32)) <|
 .op (some 34) (.agg [.i, .i, .any, .any, .i, .any]) [33] (.build [(V.int .i64 (Int.ofNat 0)), (V.int .i64 (Int.ofNat 0)), V.nils, V.nils, (V.int .i64 (Int.ofNat 0)), V.nils] [(2, 1, (.t 33))]) <|
 .pal 5 [] 214 [(V.int .i64 (Int.ofNat 0)), (V.int .i64 (Int.ofNat 0)), V.nils, V.nils, (V.int .i64 (Int.ofNat 0)), V.nils] <|
 .op none (.agg [.i, .i, .any, .any, .i, .any]) [5, 34] (.store 6 (.t 5) (.t 34)) <|
 .nil))
 (.seq (.seq (.ops (.p 35 [4] (.faddr 0 (.t 4)) <|
 .op (some 36) .i [35] (.load none (.t 35)) <|
 .nil))
 (.block 1 (.seq (.ops (.p 43 [36] (.bin .eql .none (.t 36) (.i 3)) <|
 .m 42 43 <|
 .nil))
 (.cond (.tmp 42) (.seq (.ops (.m 45 0 <|
 .op (some 46) (.tup [.i, (.agg [.i, .str, .i]), .bool]) [45] (.call 158 [(.t 45)]) <|
 .m 44 46 <|
 .p 47 [44] (.extract 0 (.t 44)) <|
 .p 48 [44] (.extract 1 (.t 44)) <|
 .p 49 [44] (.extract 2 (.t 44)) <|
 .pal 7 [] 116 [(V.int .i64 (Int.ofNat 0)), (V.str ⟨0, 0⟩), (V.int .i64 (Int.ofNat 0))] <|
 .m 6 47 <|
 .op none (.agg [.i, .str, .i]) [7, 48] (.store 3 (.t 7) (.t 48)) <|
 .m 8 49 <|
 .nil))
 (.seq (.ops (.m 50 6 <|
 .op (some 51) (.agg [.i, .i, .any, .any, .i, .any]) [50] (.build [(V.int .i64 (Int.ofNat 0)), (V.int .i64 (Int.ofNat 0)), V.nils, V.nils, (V.int .i64 (Int.ofNat 0)), V.nils] [(0, 1, (.i 2)), (1, 1, (.t 50))]) <|
 .op none (.agg [.i, .i, .any, .any, .i, .any]) [2, 51] (.store 6 (.t 2) (.t 51)) <|
 .p 3 [] (.mov (.con (V.bool true))) <|
 .nil))
 .ret))
 (.seq (.ops (.p 53 [36] (.bin .eql .none (.t 36) (.i 2)) <|
 .m 52 53 <|
 .nil))
 (.cond (.tmp 52) (.ops (.p 54 [5] (.faddr 0 (.t 5)) <|
 .op none .any [54] (.store 1 (.t 54) (.i 3)) <|
 .nil))
 (.seq (.ops (.p 56 [36] (.bin .eql .none (.t 36) (.i 7)) <|
 .m 55 56 <|
 .nil))
 (.cond (.tmp 55) (.ops (.p 57 [5] (.faddr 0 (.t 5)) <|
 .op none .any [57] (.store 1 (.t 57) (.i 6)) <|
 .nil))
 (.seq (.ops (.p 59 [36] (.bin .eql .none (.t 36) (.i 4)) <|
 .m 58 59 <|
 .nil))
 (.cond (.tmp 58) (.ops (.p 60 [4] (.faddr 1 (.t 4)) <|
 .op (some 61) .str [60] (.load none (.t 60)) <|
 .op (some 62) .one [61] (.call 198 [(.t 61)]) <|
 .p 63 [5] (.faddr 0 (.t 5)) <|
 .op none .any [63] (.store 1 (.t 63) (.i 5)) <|
 .p 64 [5] (.faddr 2 (.t 5)) <|
 .op none .any [64, 62] (.store 1 (.t 64) (.t 62)) <|
 .nil))
 (.seq (.ops (.op (some 37) (.agg [.i, .i, .any, .any, .i, .any]) [] (.build [(V.int .i64 (Int.ofNat 0)), (V.int .i64 (Int.ofNat 0)), V.nils, V.nils, (V.int .i64 (Int.ofNat 0)), V.nils] []) <|
 .m 38 0 <|
 .p 39 [4] (.faddr 2 (.t 4)) <|
 .op (some 40) .i [39] (.load none (.t 39)) <|
 .op (some 41) .bool [38, 40] (.call 73 [(.t 38), (.t 40), (.i 7)]) <|
 .op none (.agg [.i, .i, .any, .any, .i, .any]) [2, 37] (.store 6 (.t 2) (.t 37)) <|
 .m 3 41 <|
 .nil))
 .ret)))))))))))
 (.keep [(0, .ptr)] [2, 5] [(2, [.i, .i, .any, .any, .i, .any]), (5, [.i, .i, .any, .any, .i, .any])] cc1))))))
def T187_0 (E : List (Nat × Blk)) (D : Den) (W : DrawFn) (K1 : Nat → Nat → Int → Int → V → V → Int → V → Int → Int → V → V → Int → V → H → Ans) (v0b : Nat) (v0o : Nat) (σ : H) : Ans :=
 callK (D 45 [(V.ptr v0b v0o)] σ) fun u1 s2 =>
 rtAgg u1 fun l3 =>
 rtCons l3 fun x4 l5 =>
 rtInt .i64 x4 fun x6 =>
 rtCons l5 fun x7 l8 =>
 rtStr x7 fun x9 =>
 rtCons l8 fun x10 l11 =>
 rtInt .i64 x10 fun x12 =>
 rtNil l11 (
 callK (D 75 [(V.ptr v0b v0o), (V.str (BS.mk 4 1163219540))] s2) fun u13 s14 =>
 rtBool u13 fun x15 =>
 condK x15 (
 some ((V.tup [(V.agg [(V.int .i64 (Int.ofNat 1)), (V.int .i64 (Int.ofNat 1)), V.nils, V.nils, (V.int .i64 (Int.ofNat 0)), V.nils]), (V.bool true)]), s14)) (
 callK (D 75 [(V.ptr v0b v0o), (V.str (BS.mk 5 297750249798))] s14) fun u16 s17 =>
 rtBool u16 fun x18 =>
 condK x18 (
 some ((V.tup [(V.agg [(V.int .i64 (Int.ofNat 1)), (V.int .i64 (Int.ofNat 0)), V.nils, V.nils, (V.int .i64 (Int.ofNat 0)), V.nils]), (V.bool true)]), s17)) (
 callK (D 75 [(V.ptr v0b v0o), (V.str (BS.mk 4 1280070990))] s17) fun u19 s20 =>
 rtBool u19 fun x21 =>
 condK x21 (
 some ((V.tup [(V.agg [(V.int .i64 (Int.ofNat 4)), (V.int .i64 (Int.ofNat 0)), V.nils, V.nils, (V.int .i64 (Int.ofNat 0)), V.nils]), (V.bool true)]), s20)) (
 chk (Nat.ble (BS.len x9) 1000000000000) (
 let s22 := newB s20 (.cells (ints (BS.toList x9)));
 condK (eqF x6 (Int.ofNat 3)) (
 callK (D 158 [(V.ptr v0b v0o)] s22) fun u23 s24 =>
 rtTup u23 fun l25 =>
 rtCons l25 fun x26 l27 =>
 rtInt .i64 x26 fun x28 =>
 rtCons l27 fun x29 l30 =>
 rtAgg x29 fun l31 =>
 rtCons l31 fun x32 l33 =>
 rtInt .i64 x32 fun x34 =>
 rtCons l33 fun x35 l36 =>
 rtStr x35 fun x37 =>
 rtCons l36 fun x38 l39 =>
 rtInt .i64 x38 fun x40 =>
 rtNil l39 (
 rtCons l30 fun x41 l42 =>
 rtBool x41 fun x43 =>
 rtNil l42 (
 some ((V.tup [(V.agg [(V.int .i64 (Int.ofNat 2)), (V.int .i64 x28), V.nils, V.nils, (V.int .i64 (Int.ofNat 0)), V.nils]), (V.bool true)]), s24)))) (
 condK (eqF x6 (Int.ofNat 2)) (
 K1 v0b v0o (Int.ofNat 0) (Int.ofNat 0) V.nils V.nils (Int.ofNat 0) V.nils (Int.ofNat 3) (Int.ofNat 0) (V.sl (H.next s20) 0 (BS.len x9) (.op 1)) V.nils (Int.ofNat 0) V.nils s22) (
 condK (eqF x6 (Int.ofNat 7)) (
 K1 v0b v0o (Int.ofNat 0) (Int.ofNat 0) V.nils V.nils (Int.ofNat 0) V.nils (Int.ofNat 6) (Int.ofNat 0) (V.sl (H.next s20) 0 (BS.len x9) (.op 1)) V.nils (Int.ofNat 0) V.nils s22) (
 condK (eqF x6 (Int.ofNat 4)) (
 callK (D 198 [(V.str x9)] s22) fun u44 s45 =>
 rtOne u44 (
 rtOne u44 (
 K1 v0b v0o (Int.ofNat 0) (Int.ofNat 0) V.nils V.nils (Int.ofNat 0) V.nils (Int.ofNat 5) (Int.ofNat 0) u44 V.nils (Int.ofNat 0) V.nils s45))) (
 callK (D 73 [(V.ptr v0b v0o), (V.int .i64 x12), (V.int .i64 (Int.ofNat 7))] s22) fun u46 s47 =>
 rtBool u46 fun x48 =>
 some ((V.tup [(V.agg [(V.int .i64 (Int.ofNat 0)), (V.int .i64 (Int.ofNat 0)), V.nils, V.nils, (V.int .i64 (Int.ofNat 0)), V.nils]), (V.bool x48)]), s47))))))))))
def C187_1 : XC := (.seq (.ops (.m 65 0 <|
 .p 66 [65] (.nilck (.t 65)) <|
 .p 67 [66] (.faddr 0 (.t 66)) <|
 .op (some 68) (.agg [.i, .str, .i]) [67] (.call 74 [(.t 67)]) <|
 .nil))
 (.seq (.ops (.op (some 69) (.agg [.i, .i, .any, .any, .i, .any]) [5] (.load (some 6) (.t 5)) <|
 .op none (.agg [.i, .i, .any, .any, .i, .any]) [2, 69] (.store 6 (.t 2) (.t 69)) <|
 .p 3 [] (.mov (.con (V.bool true))) <|
 .nil))
 .ret))
def T187_1 (E : List (Nat × Blk)) (D : Den) (W : DrawFn) (v0b : Nat) (v0o : Nat) (r2_0 : Int) (r2_1 : Int) (r2_2 : V) (r2_3 : V) (r2_4 : Int) (r2_5 : V) (r5_0 : Int) (r5_1 : Int) (r5_2 : V) (r5_3 : V) (r5_4 : Int) (r5_5 : V) (σ : H) : Ans :=
 callK (D 74 [(V.ptr v0b v0o)] σ) fun u1 s2 =>
 rtAgg u1 fun l3 =>
 rtCons l3 fun x4 l5 =>
 rtInt .i64 x4 fun x6 =>
 rtCons l5 fun x7 l8 =>
 rtStr x7 fun x9 =>
 rtCons l8 fun x10 l11 =>
 rtInt .i64 x10 fun x12 =>
 rtNil l11 (
 chk (allOne [(V.int .i64 r5_0), (V.int .i64 r5_1), r5_2, r5_3, (V.int .i64 r5_4), r5_5]) (
 some ((V.tup [(V.agg [(V.int .i64 r5_0), (V.int .i64 r5_1), r5_2, r5_3, (V.int .i64 r5_4), r5_5]), (V.bool true)]), s2)))
theorem P187_0 (cc1 : XC) (v0b : Nat) (v0o : Nat) (σ : H) :
  denC E D W N (C187_0 cc1) ⟨[(0, (V.ptr v0b v0o))], [], [], σ⟩ (Fin187 E) (fun _ _ => none) (Fin187 E) =
  T187_0 E D W (fun v0b v0o r2_0 r2_1 r2_2 r2_3 r2_4 r2_5 r5_0 r5_1 r5_2 r5_3 r5_4 r5_5 σ => denC E D W N cc1 ⟨[(0, (V.ptr v0b v0o))], [(2, (2, 0)), (5, (5, 0))], [(2, [(V.int .i64 r2_0), (V.int .i64 r2_1), r2_2, r2_3, (V.int .i64 r2_4), r2_5]), (5, [(V.int .i64 r5_0), (V.int .i64 r5_1), r5_2, r5_3, (V.int .i64 r5_4), r5_5])], σ⟩ (Fin187 E) (fun _ _ => none) (Fin187 E)) v0b v0o σ := by kernel_rfl
theorem P187_1 (v0b : Nat) (v0o : Nat) (r2_0 : Int) (r2_1 : Int) (r2_2 : V) (r2_3 : V) (r2_4 : Int) (r2_5 : V) (r5_0 : Int) (r5_1 : Int) (r5_2 : V) (r5_3 : V) (r5_4 : Int) (r5_5 : V) (σ : H) :
  denC E D W N (C187_1 ) ⟨[(0, (V.ptr v0b v0o))], [(2, (2, 0)), (5, (5, 0))], [(2, [(V.int .i64 r2_0), (V.int .i64 r2_1), r2_2, r2_3, (V.int .i64 r2_4), r2_5]), (5, [(V.int .i64 r5_0), (V.int .i64 r5_1), r5_2, r5_3, (V.int .i64 r5_4), r5_5])], σ⟩ (Fin187 E) (fun _ _ => none) (Fin187 E) =
  T187_1 E D W  v0b v0o r2_0 r2_1 r2_2 r2_3 r2_4 r2_5 r5_0 r5_1 r5_2 r5_3 r5_4 r5_5 σ := by kernel_rfl
def J187_1 (E : List (Nat × Blk)) (D : Den) (W : DrawFn) (N : Nat) : Nat → Nat → Int → Int → V → V → Int → V → Int → Int → V → V → Int → V → H → Ans := T187_1 E D W 
theorem JE187_1 (v0b : Nat) (v0o : Nat) (r2_0 : Int) (r2_1 : Int) (r2_2 : V) (r2_3 : V) (r2_4 : Int) (r2_5 : V) (r5_0 : Int) (r5_1 : Int) (r5_2 : V) (r5_3 : V) (r5_4 : Int) (r5_5 : V) (σ : H) :
  denC E D W N C187_1 ⟨[(0, (V.ptr v0b v0o))], [(2, (2, 0)), (5, (5, 0))], [(2, [(V.int .i64 r2_0), (V.int .i64 r2_1), r2_2, r2_3, (V.int .i64 r2_4), r2_5]), (5, [(V.int .i64 r5_0), (V.int .i64 r5_1), r5_2, r5_3, (V.int .i64 r5_4), r5_5])], σ⟩ (Fin187 E) (fun _ _ => none) (Fin187 E) = J187_1 E D W N v0b v0o r2_0 r2_1 r2_2 r2_3 r2_4 r2_5 r5_0 r5_1 r5_2 r5_3 r5_4 r5_5 σ := by
  refine (P187_1 E D W N   v0b v0o r2_0 r2_1 r2_2 r2_3 r2_4 r2_5 r5_0 r5_1 r5_2 r5_3 r5_4 r5_5 σ).trans ?_
  kernel_rfl
def J187_0 : Nat → Nat → H → Ans := T187_0 E D W (J187_1 E D W N )
theorem JE187_0 (v0b : Nat) (v0o : Nat) (σ : H) :
  denC E D W N (C187_0 C187_1) ⟨[(0, (V.ptr v0b v0o))], [], [], σ⟩ (Fin187 E) (fun _ _ => none) (Fin187 E) = J187_0 E D W N v0b v0o σ := by
  refine (P187_0 E D W N C187_1  v0b v0o σ).trans ?_
  simp only [JE187_1]
  kernel_rfl
def F187 (args : List V) (σ : H) : Ans :=
 rtCons args fun x1 l2 =>
 rtPtr x1 fun b3 o4 =>
 rtNil l2 (
 J187_0 E D W N b3 o4 σ)
def A187 : XFn := ⟨70, [.ptr], [(.cell 2 (some 6)), (.tmp 3)], (C187_0 C187_1)⟩
theorem FE187 (args : List V) (σ : H) : runX E D W N A187 args σ = F187 E D W N args σ := by
  unfold F187
  simp only [← JE187_0]
  kernel_rfl
theorem AO187 : A187.body.ok = true := by kernel_rfl

end
end Go.Proofs.YtdfgcokapncaiaaGreatDoor
set_option linter.all false
set_option maxRecDepth 100000
set_option maxHeartbeats 0
namespace Go.Proofs.YtdfgcokapncaiaaGreatDoor
open Go Go.Og
noncomputable section
def glob : Nat → Bool := fun g => Nat.blt g 8
theorem follows : Tryz.prog.follows .mixedOrders = true := by kernel_rfl
def Is (f : Nat) (A : XFn) : Prop := ∃ fn, Tryz.prog.funcs[f]? = some fn ∧ compF Tryz.prog glob fn = some A.strip ∧ A.body.ok = true ∧ callOk Tryz.prog f = true
theorem Is.sound {f : Nat} {A : XFn} (h : Is f A) (E : List (Nat × Blk)) (D : Den) (hD : ∀ f, SoundFn Tryz.prog E glob f (D f)) (N : Nat) : SoundFn Tryz.prog E glob f (runX E D (drawW E D) N A) :=
  let ⟨_, h1, h2, h3, h4⟩ := h
  runX_ok hD (drawW_ok hD follows) follows N h1 h2 rfl h3 h4
def tab : List (Nat × XFn) := [(4, A4), (8, A8), (11, A11), (12, A12), (13, A13), (17, A17), (18, A18), (20, A20), (21, A21), (22, A22), (23, A23), (26, A26), (27, A27), (28, A28), (29, A29), (30, A30), (31, A31), (32, A32), (35, A35), (36, A36), (37, A37), (47, A47), (48, A48), (49, A49), (50, A50), (51, A51), (53, A53), (54, A54), (55, A55), (56, A56), (57, A57), (61, A61), (62, A62), (77, A77), (78, A78), (79, A79), (80, A80), (81, A81), (82, A82), (83, A83), (84, A84), (89, A89), (90, A90), (105, A105), (106, A106), (108, A108), (110, A110), (120, A120), (137, A137), (138, A138), (150, A150), (171, A171)]
theorem tab_is : ∀ p ∈ tab, Is p.1 p.2 := by
  unfold tab
  simp only [List.forall_mem_cons]
  exact ⟨⟨_, Tryz.func4, by kernel_rfl, by kernel_rfl, by kernel_rfl⟩,
    ⟨_, Tryz.func8, by kernel_rfl, by kernel_rfl, by kernel_rfl⟩,
    ⟨_, Tryz.func11, by kernel_rfl, by kernel_rfl, by kernel_rfl⟩,
    ⟨_, Tryz.func12, by kernel_rfl, by kernel_rfl, by kernel_rfl⟩,
    ⟨_, Tryz.func13, by kernel_rfl, by kernel_rfl, by kernel_rfl⟩,
    ⟨_, Tryz.func17, by kernel_rfl, by kernel_rfl, by kernel_rfl⟩,
    ⟨_, Tryz.func18, by kernel_rfl, by kernel_rfl, by kernel_rfl⟩,
    ⟨_, Tryz.func20, by kernel_rfl, by kernel_rfl, by kernel_rfl⟩,
    ⟨_, Tryz.func21, by kernel_rfl, by kernel_rfl, by kernel_rfl⟩,
    ⟨_, Tryz.func22, by kernel_rfl, by kernel_rfl, by kernel_rfl⟩,
    ⟨_, Tryz.func23, by kernel_rfl, by kernel_rfl, by kernel_rfl⟩,
    ⟨_, Tryz.func26, by kernel_rfl, by kernel_rfl, by kernel_rfl⟩,
    ⟨_, Tryz.func27, by kernel_rfl, by kernel_rfl, by kernel_rfl⟩,
    ⟨_, Tryz.func28, by kernel_rfl, by kernel_rfl, by kernel_rfl⟩,
    ⟨_, Tryz.func29, by kernel_rfl, by kernel_rfl, by kernel_rfl⟩,
    ⟨_, Tryz.func30, by kernel_rfl, by kernel_rfl, by kernel_rfl⟩,
    ⟨_, Tryz.func31, by kernel_rfl, by kernel_rfl, by kernel_rfl⟩,
    ⟨_, Tryz.func32, by kernel_rfl, by kernel_rfl, by kernel_rfl⟩,
    ⟨_, Tryz.func35, by kernel_rfl, by kernel_rfl, by kernel_rfl⟩,
    ⟨_, Tryz.func36, by kernel_rfl, by kernel_rfl, by kernel_rfl⟩,
    ⟨_, Tryz.func37, by kernel_rfl, by kernel_rfl, by kernel_rfl⟩,
    ⟨_, Tryz.func47, by kernel_rfl, by kernel_rfl, by kernel_rfl⟩,
    ⟨_, Tryz.func48, by kernel_rfl, by kernel_rfl, by kernel_rfl⟩,
    ⟨_, Tryz.func49, by kernel_rfl, by kernel_rfl, by kernel_rfl⟩,
    ⟨_, Tryz.func50, by kernel_rfl, by kernel_rfl, by kernel_rfl⟩,
    ⟨_, Tryz.func51, by kernel_rfl, by kernel_rfl, by kernel_rfl⟩,
    ⟨_, Tryz.func53, by kernel_rfl, by kernel_rfl, by kernel_rfl⟩,
    ⟨_, Tryz.func54, by kernel_rfl, by kernel_rfl, by kernel_rfl⟩,
    ⟨_, Tryz.func55, by kernel_rfl, by kernel_rfl, by kernel_rfl⟩,
    ⟨_, Tryz.func56, by kernel_rfl, by kernel_rfl, by kernel_rfl⟩,
    ⟨_, Tryz.func57, by kernel_rfl, by kernel_rfl, by kernel_rfl⟩,
    ⟨_, Tryz.func61, by kernel_rfl, by kernel_rfl, by kernel_rfl⟩,
    ⟨_, Tryz.func62, by kernel_rfl, by kernel_rfl, by kernel_rfl⟩,
    ⟨_, Tryz.func77, by kernel_rfl, by kernel_rfl, by kernel_rfl⟩,
    ⟨_, Tryz.func78, by kernel_rfl, by kernel_rfl, by kernel_rfl⟩,
    ⟨_, Tryz.func79, by kernel_rfl, by kernel_rfl, by kernel_rfl⟩,
    ⟨_, Tryz.func80, by kernel_rfl, by kernel_rfl, by kernel_rfl⟩,
    ⟨_, Tryz.func81, by kernel_rfl, by kernel_rfl, by kernel_rfl⟩,
    ⟨_, Tryz.func82, by kernel_rfl, by kernel_rfl, by kernel_rfl⟩,
    ⟨_, Tryz.func83, by kernel_rfl, by kernel_rfl, by kernel_rfl⟩,
    ⟨_, Tryz.func84, by kernel_rfl, by kernel_rfl, by kernel_rfl⟩,
    ⟨_, Tryz.func89, by kernel_rfl, by kernel_rfl, by kernel_rfl⟩,
    ⟨_, Tryz.func90, by kernel_rfl, by kernel_rfl, by kernel_rfl⟩,
    ⟨_, Tryz.func105, by kernel_rfl, by kernel_rfl, by kernel_rfl⟩,
    ⟨_, Tryz.func106, by kernel_rfl, by kernel_rfl, by kernel_rfl⟩,
    ⟨_, Tryz.func108, by kernel_rfl, by kernel_rfl, by kernel_rfl⟩,
    ⟨_, Tryz.func110, by kernel_rfl, by kernel_rfl, by kernel_rfl⟩,
    ⟨_, Tryz.func120, by kernel_rfl, by kernel_rfl, by kernel_rfl⟩,
    ⟨_, Tryz.func137, by kernel_rfl, by kernel_rfl, by kernel_rfl⟩,
    ⟨_, Tryz.func138, by kernel_rfl, by kernel_rfl, by kernel_rfl⟩,
    ⟨_, Tryz.func150, by kernel_rfl, by kernel_rfl, by kernel_rfl⟩,
    ⟨_, Tryz.func171, by kernel_rfl, by kernel_rfl, by kernel_rfl⟩, fun _ h => by cases h⟩
def lookA : List (Nat × XFn) → Nat → Option XFn := fun l n => List.rec none (fun p _ ih => match Nat.beq p.1 n with | true => some p.2 | false => ih) l
theorem lookA_mem : ∀ (l : List (Nat × XFn)) (n : Nat) (g : XFn), lookA l n = some g → (n, g) ∈ l
  | [], n, g, h => by cases h
  | p :: l, n, g, h => by
    have h' : (match Nat.beq p.1 n with | true => some p.2 | false => lookA l n) = some g := h
    cases hb : Nat.beq p.1 n with
    | true =>
      rw [hb] at h'
      simp only [Option.some.injEq] at h'
      have := Nat.eq_of_beq_eq_true hb
      subst this; subst h'
      exact List.mem_cons_self
    | false =>
      rw [hb] at h'
      exact List.mem_cons_of_mem _ (lookA_mem l n g h')
theorem CF3 : compF Tryz.prog glob Tryz.f3 = some A3.strip := by kernel_rfl
theorem CO3 : callOk Tryz.prog 3 = true := by kernel_rfl
theorem SF3 (E : List (Nat × Blk)) (D : Den) (hD : ∀ f, SoundFn Tryz.prog E glob f (D f)) (N : Nat) : SoundFn Tryz.prog E glob 3 (F3 E D (drawW E D) N) := by
  have h := runX_ok hD (drawW_ok hD follows) follows N Tryz.func3 (xf := A3) CF3 rfl AO3 CO3
  have he : runX E D (drawW E D) N A3 = F3 E D (drawW E D) N := by funext args σ; exact FE3 E D (drawW E D) N args σ
  rw [he] at h; exact h
theorem CF5 : compF Tryz.prog glob Tryz.f5 = some A5.strip := by kernel_rfl
theorem CO5 : callOk Tryz.prog 5 = true := by kernel_rfl
theorem SF5 (E : List (Nat × Blk)) (D : Den) (hD : ∀ f, SoundFn Tryz.prog E glob f (D f)) (N : Nat) : SoundFn Tryz.prog E glob 5 (F5 E D (drawW E D) N) := by
  have h := runX_ok hD (drawW_ok hD follows) follows N Tryz.func5 (xf := A5) CF5 rfl AO5 CO5
  have he : runX E D (drawW E D) N A5 = F5 E D (drawW E D) N := by funext args σ; exact FE5 E D (drawW E D) N args σ
  rw [he] at h; exact h
theorem CF6 : compF Tryz.prog glob Tryz.f6 = some A6.strip := by kernel_rfl
theorem CO6 : callOk Tryz.prog 6 = true := by kernel_rfl
theorem SF6 (E : List (Nat × Blk)) (D : Den) (hD : ∀ f, SoundFn Tryz.prog E glob f (D f)) (N : Nat) : SoundFn Tryz.prog E glob 6 (F6 E D (drawW E D) N) := by
  have h := runX_ok hD (drawW_ok hD follows) follows N Tryz.func6 (xf := A6) CF6 rfl AO6 CO6
  have he : runX E D (drawW E D) N A6 = F6 E D (drawW E D) N := by funext args σ; exact FE6 E D (drawW E D) N args σ
  rw [he] at h; exact h
theorem CF7 : compF Tryz.prog glob Tryz.f7 = some A7.strip := by kernel_rfl
theorem CO7 : callOk Tryz.prog 7 = true := by kernel_rfl
theorem SF7 (E : List (Nat × Blk)) (D : Den) (hD : ∀ f, SoundFn Tryz.prog E glob f (D f)) (N : Nat) : SoundFn Tryz.prog E glob 7 (F7 E D (drawW E D) N) := by
  have h := runX_ok hD (drawW_ok hD follows) follows N Tryz.func7 (xf := A7) CF7 rfl AO7 CO7
  have he : runX E D (drawW E D) N A7 = F7 E D (drawW E D) N := by funext args σ; exact FE7 E D (drawW E D) N args σ
  rw [he] at h; exact h
theorem CF9 : compF Tryz.prog glob Tryz.f9 = some A9.strip := by kernel_rfl
theorem CO9 : callOk Tryz.prog 9 = true := by kernel_rfl
theorem SF9 (E : List (Nat × Blk)) (D : Den) (hD : ∀ f, SoundFn Tryz.prog E glob f (D f)) (N : Nat) : SoundFn Tryz.prog E glob 9 (F9 E D (drawW E D) N) := by
  have h := runX_ok hD (drawW_ok hD follows) follows N Tryz.func9 (xf := A9) CF9 rfl AO9 CO9
  have he : runX E D (drawW E D) N A9 = F9 E D (drawW E D) N := by funext args σ; exact FE9 E D (drawW E D) N args σ
  rw [he] at h; exact h
theorem CF10 : compF Tryz.prog glob Tryz.f10 = some A10.strip := by kernel_rfl
theorem CO10 : callOk Tryz.prog 10 = true := by kernel_rfl
theorem SF10 (E : List (Nat × Blk)) (D : Den) (hD : ∀ f, SoundFn Tryz.prog E glob f (D f)) (N : Nat) : SoundFn Tryz.prog E glob 10 (F10 E D (drawW E D) N) := by
  have h := runX_ok hD (drawW_ok hD follows) follows N Tryz.func10 (xf := A10) CF10 rfl AO10 CO10
  have he : runX E D (drawW E D) N A10 = F10 E D (drawW E D) N := by funext args σ; exact FE10 E D (drawW E D) N args σ
  rw [he] at h; exact h
theorem CF14 : compF Tryz.prog glob Tryz.f14 = some A14.strip := by kernel_rfl
theorem CO14 : callOk Tryz.prog 14 = true := by kernel_rfl
theorem SF14 (E : List (Nat × Blk)) (D : Den) (hD : ∀ f, SoundFn Tryz.prog E glob f (D f)) (N : Nat) : SoundFn Tryz.prog E glob 14 (F14 E D (drawW E D) N) := by
  have h := runX_ok hD (drawW_ok hD follows) follows N Tryz.func14 (xf := A14) CF14 rfl AO14 CO14
  have he : runX E D (drawW E D) N A14 = F14 E D (drawW E D) N := by funext args σ; exact FE14 E D (drawW E D) N args σ
  rw [he] at h; exact h
theorem CF15 : compF Tryz.prog glob Tryz.f15 = some A15.strip := by kernel_rfl
theorem CO15 : callOk Tryz.prog 15 = true := by kernel_rfl
theorem SF15 (E : List (Nat × Blk)) (D : Den) (hD : ∀ f, SoundFn Tryz.prog E glob f (D f)) (N : Nat) : SoundFn Tryz.prog E glob 15 (F15 E D (drawW E D) N) := by
  have h := runX_ok hD (drawW_ok hD follows) follows N Tryz.func15 (xf := A15) CF15 rfl AO15 CO15
  have he : runX E D (drawW E D) N A15 = F15 E D (drawW E D) N := by funext args σ; exact FE15 E D (drawW E D) N args σ
  rw [he] at h; exact h
theorem CF16 : compF Tryz.prog glob Tryz.f16 = some A16.strip := by kernel_rfl
theorem CO16 : callOk Tryz.prog 16 = true := by kernel_rfl
theorem SF16 (E : List (Nat × Blk)) (D : Den) (hD : ∀ f, SoundFn Tryz.prog E glob f (D f)) (N : Nat) : SoundFn Tryz.prog E glob 16 (F16 E D (drawW E D) N) := by
  have h := runX_ok hD (drawW_ok hD follows) follows N Tryz.func16 (xf := A16) CF16 rfl AO16 CO16
  have he : runX E D (drawW E D) N A16 = F16 E D (drawW E D) N := by funext args σ; exact FE16 E D (drawW E D) N args σ
  rw [he] at h; exact h
theorem CF24 : compF Tryz.prog glob Tryz.f24 = some A24.strip := by kernel_rfl
theorem CO24 : callOk Tryz.prog 24 = true := by kernel_rfl
theorem SF24 (E : List (Nat × Blk)) (D : Den) (hD : ∀ f, SoundFn Tryz.prog E glob f (D f)) (N : Nat) : SoundFn Tryz.prog E glob 24 (F24 E D (drawW E D) N) := by
  have h := runX_ok hD (drawW_ok hD follows) follows N Tryz.func24 (xf := A24) CF24 rfl AO24 CO24
  have he : runX E D (drawW E D) N A24 = F24 E D (drawW E D) N := by funext args σ; exact FE24 E D (drawW E D) N args σ
  rw [he] at h; exact h
theorem CF25 : compF Tryz.prog glob Tryz.f25 = some A25.strip := by kernel_rfl
theorem CO25 : callOk Tryz.prog 25 = true := by kernel_rfl
theorem SF25 (E : List (Nat × Blk)) (D : Den) (hD : ∀ f, SoundFn Tryz.prog E glob f (D f)) (N : Nat) : SoundFn Tryz.prog E glob 25 (F25 E D (drawW E D) N) := by
  have h := runX_ok hD (drawW_ok hD follows) follows N Tryz.func25 (xf := A25) CF25 rfl AO25 CO25
  have he : runX E D (drawW E D) N A25 = F25 E D (drawW E D) N := by funext args σ; exact FE25 E D (drawW E D) N args σ
  rw [he] at h; exact h
theorem CF40 : compF Tryz.prog glob Tryz.f40 = some A40.strip := by kernel_rfl
theorem CO40 : callOk Tryz.prog 40 = true := by kernel_rfl
theorem SF40 (E : List (Nat × Blk)) (D : Den) (hD : ∀ f, SoundFn Tryz.prog E glob f (D f)) (N : Nat) : SoundFn Tryz.prog E glob 40 (F40 E D (drawW E D) N) := by
  have h := runX_ok hD (drawW_ok hD follows) follows N Tryz.func40 (xf := A40) CF40 rfl AO40 CO40
  have he : runX E D (drawW E D) N A40 = F40 E D (drawW E D) N := by funext args σ; exact FE40 E D (drawW E D) N args σ
  rw [he] at h; exact h
theorem CF41 : compF Tryz.prog glob Tryz.f41 = some A41.strip := by kernel_rfl
theorem CO41 : callOk Tryz.prog 41 = true := by kernel_rfl
theorem SF41 (E : List (Nat × Blk)) (D : Den) (hD : ∀ f, SoundFn Tryz.prog E glob f (D f)) (N : Nat) : SoundFn Tryz.prog E glob 41 (F41 E D (drawW E D) N) := by
  have h := runX_ok hD (drawW_ok hD follows) follows N Tryz.func41 (xf := A41) CF41 rfl AO41 CO41
  have he : runX E D (drawW E D) N A41 = F41 E D (drawW E D) N := by funext args σ; exact FE41 E D (drawW E D) N args σ
  rw [he] at h; exact h
theorem CF42 : compF Tryz.prog glob Tryz.f42 = some A42.strip := by kernel_rfl
theorem CO42 : callOk Tryz.prog 42 = true := by kernel_rfl
theorem SF42 (E : List (Nat × Blk)) (D : Den) (hD : ∀ f, SoundFn Tryz.prog E glob f (D f)) (N : Nat) : SoundFn Tryz.prog E glob 42 (F42 E D (drawW E D) N) := by
  have h := runX_ok hD (drawW_ok hD follows) follows N Tryz.func42 (xf := A42) CF42 rfl AO42 CO42
  have he : runX E D (drawW E D) N A42 = F42 E D (drawW E D) N := by funext args σ; exact FE42 E D (drawW E D) N args σ
  rw [he] at h; exact h
theorem CF43 : compF Tryz.prog glob Tryz.f43 = some A43.strip := by kernel_rfl
theorem CO43 : callOk Tryz.prog 43 = true := by kernel_rfl
theorem SF43 (E : List (Nat × Blk)) (D : Den) (hD : ∀ f, SoundFn Tryz.prog E glob f (D f)) (N : Nat) : SoundFn Tryz.prog E glob 43 (F43 E D (drawW E D) N) := by
  have h := runX_ok hD (drawW_ok hD follows) follows N Tryz.func43 (xf := A43) CF43 rfl AO43 CO43
  have he : runX E D (drawW E D) N A43 = F43 E D (drawW E D) N := by funext args σ; exact FE43 E D (drawW E D) N args σ
  rw [he] at h; exact h
theorem CF44 : compF Tryz.prog glob Tryz.f44 = some A44.strip := by kernel_rfl
theorem CO44 : callOk Tryz.prog 44 = true := by kernel_rfl
theorem SF44 (E : List (Nat × Blk)) (D : Den) (hD : ∀ f, SoundFn Tryz.prog E glob f (D f)) (N : Nat) : SoundFn Tryz.prog E glob 44 (F44 E D (drawW E D) N) := by
  have h := runX_ok hD (drawW_ok hD follows) follows N Tryz.func44 (xf := A44) CF44 rfl AO44 CO44
  have he : runX E D (drawW E D) N A44 = F44 E D (drawW E D) N := by funext args σ; exact FE44 E D (drawW E D) N args σ
  rw [he] at h; exact h
theorem CF45 : compF Tryz.prog glob Tryz.f45 = some A45.strip := by kernel_rfl
theorem CO45 : callOk Tryz.prog 45 = true := by kernel_rfl
theorem SF45 (E : List (Nat × Blk)) (D : Den) (hD : ∀ f, SoundFn Tryz.prog E glob f (D f)) (N : Nat) : SoundFn Tryz.prog E glob 45 (F45 E D (drawW E D) N) := by
  have h := runX_ok hD (drawW_ok hD follows) follows N Tryz.func45 (xf := A45) CF45 rfl AO45 CO45
  have he : runX E D (drawW E D) N A45 = F45 E D (drawW E D) N := by funext args σ; exact FE45 E D (drawW E D) N args σ
  rw [he] at h; exact h
theorem CF46 : compF Tryz.prog glob Tryz.f46 = some A46.strip := by kernel_rfl
theorem CO46 : callOk Tryz.prog 46 = true := by kernel_rfl
theorem SF46 (E : List (Nat × Blk)) (D : Den) (hD : ∀ f, SoundFn Tryz.prog E glob f (D f)) (N : Nat) : SoundFn Tryz.prog E glob 46 (F46 E D (drawW E D) N) := by
  have h := runX_ok hD (drawW_ok hD follows) follows N Tryz.func46 (xf := A46) CF46 rfl AO46 CO46
  have he : runX E D (drawW E D) N A46 = F46 E D (drawW E D) N := by funext args σ; exact FE46 E D (drawW E D) N args σ
  rw [he] at h; exact h
theorem CF64 : compF Tryz.prog glob Tryz.f64 = some A64.strip := by kernel_rfl
theorem CO64 : callOk Tryz.prog 64 = true := by kernel_rfl
theorem SF64 (E : List (Nat × Blk)) (D : Den) (hD : ∀ f, SoundFn Tryz.prog E glob f (D f)) (N : Nat) : SoundFn Tryz.prog E glob 64 (F64 E D (drawW E D) N) := by
  have h := runX_ok hD (drawW_ok hD follows) follows N Tryz.func64 (xf := A64) CF64 rfl AO64 CO64
  have he : runX E D (drawW E D) N A64 = F64 E D (drawW E D) N := by funext args σ; exact FE64 E D (drawW E D) N args σ
  rw [he] at h; exact h
theorem CF65 : compF Tryz.prog glob Tryz.f65 = some A65.strip := by kernel_rfl
theorem CO65 : callOk Tryz.prog 65 = true := by kernel_rfl
theorem SF65 (E : List (Nat × Blk)) (D : Den) (hD : ∀ f, SoundFn Tryz.prog E glob f (D f)) (N : Nat) : SoundFn Tryz.prog E glob 65 (F65 E D (drawW E D) N) := by
  have h := runX_ok hD (drawW_ok hD follows) follows N Tryz.func65 (xf := A65) CF65 rfl AO65 CO65
  have he : runX E D (drawW E D) N A65 = F65 E D (drawW E D) N := by funext args σ; exact FE65 E D (drawW E D) N args σ
  rw [he] at h; exact h
theorem CF66 : compF Tryz.prog glob Tryz.f66 = some A66.strip := by kernel_rfl
theorem CO66 : callOk Tryz.prog 66 = true := by kernel_rfl
theorem SF66 (E : List (Nat × Blk)) (D : Den) (hD : ∀ f, SoundFn Tryz.prog E glob f (D f)) (N : Nat) : SoundFn Tryz.prog E glob 66 (F66 E D (drawW E D) N) := by
  have h := runX_ok hD (drawW_ok hD follows) follows N Tryz.func66 (xf := A66) CF66 rfl AO66 CO66
  have he : runX E D (drawW E D) N A66 = F66 E D (drawW E D) N := by funext args σ; exact FE66 E D (drawW E D) N args σ
  rw [he] at h; exact h
theorem CF67 : compF Tryz.prog glob Tryz.f67 = some A67.strip := by kernel_rfl
theorem CO67 : callOk Tryz.prog 67 = true := by kernel_rfl
theorem SF67 (E : List (Nat × Blk)) (D : Den) (hD : ∀ f, SoundFn Tryz.prog E glob f (D f)) (N : Nat) : SoundFn Tryz.prog E glob 67 (F67 E D (drawW E D) N) := by
  have h := runX_ok hD (drawW_ok hD follows) follows N Tryz.func67 (xf := A67) CF67 rfl AO67 CO67
  have he : runX E D (drawW E D) N A67 = F67 E D (drawW E D) N := by funext args σ; exact FE67 E D (drawW E D) N args σ
  rw [he] at h; exact h
theorem CF68 : compF Tryz.prog glob Tryz.f68 = some A68.strip := by kernel_rfl
theorem CO68 : callOk Tryz.prog 68 = true := by kernel_rfl
theorem SF68 (E : List (Nat × Blk)) (D : Den) (hD : ∀ f, SoundFn Tryz.prog E glob f (D f)) (N : Nat) : SoundFn Tryz.prog E glob 68 (F68 E D (drawW E D) N) := by
  have h := runX_ok hD (drawW_ok hD follows) follows N Tryz.func68 (xf := A68) CF68 rfl AO68 CO68
  have he : runX E D (drawW E D) N A68 = F68 E D (drawW E D) N := by funext args σ; exact FE68 E D (drawW E D) N args σ
  rw [he] at h; exact h
theorem CF69 : compF Tryz.prog glob Tryz.f69 = some A69.strip := by kernel_rfl
theorem CO69 : callOk Tryz.prog 69 = true := by kernel_rfl
theorem SF69 (E : List (Nat × Blk)) (D : Den) (hD : ∀ f, SoundFn Tryz.prog E glob f (D f)) (N : Nat) : SoundFn Tryz.prog E glob 69 (F69 E D (drawW E D) N) := by
  have h := runX_ok hD (drawW_ok hD follows) follows N Tryz.func69 (xf := A69) CF69 rfl AO69 CO69
  have he : runX E D (drawW E D) N A69 = F69 E D (drawW E D) N := by funext args σ; exact FE69 E D (drawW E D) N args σ
  rw [he] at h; exact h
theorem CF72 : compF Tryz.prog glob Tryz.f72 = some A72.strip := by kernel_rfl
theorem CO72 : callOk Tryz.prog 72 = true := by kernel_rfl
theorem SF72 (E : List (Nat × Blk)) (D : Den) (hD : ∀ f, SoundFn Tryz.prog E glob f (D f)) (N : Nat) : SoundFn Tryz.prog E glob 72 (F72 E D (drawW E D) N) := by
  have h := runX_ok hD (drawW_ok hD follows) follows N Tryz.func72 (xf := A72) CF72 rfl AO72 CO72
  have he : runX E D (drawW E D) N A72 = F72 E D (drawW E D) N := by funext args σ; exact FE72 E D (drawW E D) N args σ
  rw [he] at h; exact h
theorem CF74 : compF Tryz.prog glob Tryz.f74 = some A74.strip := by kernel_rfl
theorem CO74 : callOk Tryz.prog 74 = true := by kernel_rfl
theorem SF74 (E : List (Nat × Blk)) (D : Den) (hD : ∀ f, SoundFn Tryz.prog E glob f (D f)) (N : Nat) : SoundFn Tryz.prog E glob 74 (F74 E D (drawW E D) N) := by
  have h := runX_ok hD (drawW_ok hD follows) follows N Tryz.func74 (xf := A74) CF74 rfl AO74 CO74
  have he : runX E D (drawW E D) N A74 = F74 E D (drawW E D) N := by funext args σ; exact FE74 E D (drawW E D) N args σ
  rw [he] at h; exact h
theorem CF75 : compF Tryz.prog glob Tryz.f75 = some A75.strip := by kernel_rfl
theorem CO75 : callOk Tryz.prog 75 = true := by kernel_rfl
theorem SF75 (E : List (Nat × Blk)) (D : Den) (hD : ∀ f, SoundFn Tryz.prog E glob f (D f)) (N : Nat) : SoundFn Tryz.prog E glob 75 (F75 E D (drawW E D) N) := by
  have h := runX_ok hD (drawW_ok hD follows) follows N Tryz.func75 (xf := A75) CF75 rfl AO75 CO75
  have he : runX E D (drawW E D) N A75 = F75 E D (drawW E D) N := by funext args σ; exact FE75 E D (drawW E D) N args σ
  rw [he] at h; exact h
theorem CF76 : compF Tryz.prog glob Tryz.f76 = some A76.strip := by kernel_rfl
theorem CO76 : callOk Tryz.prog 76 = true := by kernel_rfl
theorem SF76 (E : List (Nat × Blk)) (D : Den) (hD : ∀ f, SoundFn Tryz.prog E glob f (D f)) (N : Nat) : SoundFn Tryz.prog E glob 76 (F76 E D (drawW E D) N) := by
  have h := runX_ok hD (drawW_ok hD follows) follows N Tryz.func76 (xf := A76) CF76 rfl AO76 CO76
  have he : runX E D (drawW E D) N A76 = F76 E D (drawW E D) N := by funext args σ; exact FE76 E D (drawW E D) N args σ
  rw [he] at h; exact h
theorem CF99 : compF Tryz.prog glob Tryz.f99 = some A99.strip := by kernel_rfl
theorem CO99 : callOk Tryz.prog 99 = true := by kernel_rfl
theorem SF99 (E : List (Nat × Blk)) (D : Den) (hD : ∀ f, SoundFn Tryz.prog E glob f (D f)) (N : Nat) : SoundFn Tryz.prog E glob 99 (F99 E D (drawW E D) N) := by
  have h := runX_ok hD (drawW_ok hD follows) follows N Tryz.func99 (xf := A99) CF99 rfl AO99 CO99
  have he : runX E D (drawW E D) N A99 = F99 E D (drawW E D) N := by funext args σ; exact FE99 E D (drawW E D) N args σ
  rw [he] at h; exact h
theorem CF100 : compF Tryz.prog glob Tryz.f100 = some A100.strip := by kernel_rfl
theorem CO100 : callOk Tryz.prog 100 = true := by kernel_rfl
theorem SF100 (E : List (Nat × Blk)) (D : Den) (hD : ∀ f, SoundFn Tryz.prog E glob f (D f)) (N : Nat) : SoundFn Tryz.prog E glob 100 (F100 E D (drawW E D) N) := by
  have h := runX_ok hD (drawW_ok hD follows) follows N Tryz.func100 (xf := A100) CF100 rfl AO100 CO100
  have he : runX E D (drawW E D) N A100 = F100 E D (drawW E D) N := by funext args σ; exact FE100 E D (drawW E D) N args σ
  rw [he] at h; exact h
theorem CF101 : compF Tryz.prog glob Tryz.f101 = some A101.strip := by kernel_rfl
theorem CO101 : callOk Tryz.prog 101 = true := by kernel_rfl
theorem SF101 (E : List (Nat × Blk)) (D : Den) (hD : ∀ f, SoundFn Tryz.prog E glob f (D f)) (N : Nat) : SoundFn Tryz.prog E glob 101 (F101 E D (drawW E D) N) := by
  have h := runX_ok hD (drawW_ok hD follows) follows N Tryz.func101 (xf := A101) CF101 rfl AO101 CO101
  have he : runX E D (drawW E D) N A101 = F101 E D (drawW E D) N := by funext args σ; exact FE101 E D (drawW E D) N args σ
  rw [he] at h; exact h
theorem CF103 : compF Tryz.prog glob Tryz.f103 = some A103.strip := by kernel_rfl
theorem CO103 : callOk Tryz.prog 103 = true := by kernel_rfl
theorem SF103 (E : List (Nat × Blk)) (D : Den) (hD : ∀ f, SoundFn Tryz.prog E glob f (D f)) (N : Nat) : SoundFn Tryz.prog E glob 103 (F103 E D (drawW E D) N) := by
  have h := runX_ok hD (drawW_ok hD follows) follows N Tryz.func103 (xf := A103) CF103 rfl AO103 CO103
  have he : runX E D (drawW E D) N A103 = F103 E D (drawW E D) N := by funext args σ; exact FE103 E D (drawW E D) N args σ
  rw [he] at h; exact h
theorem CF104 : compF Tryz.prog glob Tryz.f104 = some A104.strip := by kernel_rfl
theorem CO104 : callOk Tryz.prog 104 = true := by kernel_rfl
theorem SF104 (E : List (Nat × Blk)) (D : Den) (hD : ∀ f, SoundFn Tryz.prog E glob f (D f)) (N : Nat) : SoundFn Tryz.prog E glob 104 (F104 E D (drawW E D) N) := by
  have h := runX_ok hD (drawW_ok hD follows) follows N Tryz.func104 (xf := A104) CF104 rfl AO104 CO104
  have he : runX E D (drawW E D) N A104 = F104 E D (drawW E D) N := by funext args σ; exact FE104 E D (drawW E D) N args σ
  rw [he] at h; exact h
theorem CF126 : compF Tryz.prog glob Tryz.f126 = some A126.strip := by kernel_rfl
theorem CO126 : callOk Tryz.prog 126 = true := by kernel_rfl
theorem SF126 (E : List (Nat × Blk)) (D : Den) (hD : ∀ f, SoundFn Tryz.prog E glob f (D f)) (N : Nat) : SoundFn Tryz.prog E glob 126 (F126 E D (drawW E D) N) := by
  have h := runX_ok hD (drawW_ok hD follows) follows N Tryz.func126 (xf := A126) CF126 rfl AO126 CO126
  have he : runX E D (drawW E D) N A126 = F126 E D (drawW E D) N := by funext args σ; exact FE126 E D (drawW E D) N args σ
  rw [he] at h; exact h
theorem CF127 : compF Tryz.prog glob Tryz.f127 = some A127.strip := by kernel_rfl
theorem CO127 : callOk Tryz.prog 127 = true := by kernel_rfl
theorem SF127 (E : List (Nat × Blk)) (D : Den) (hD : ∀ f, SoundFn Tryz.prog E glob f (D f)) (N : Nat) : SoundFn Tryz.prog E glob 127 (F127 E D (drawW E D) N) := by
  have h := runX_ok hD (drawW_ok hD follows) follows N Tryz.func127 (xf := A127) CF127 rfl AO127 CO127
  have he : runX E D (drawW E D) N A127 = F127 E D (drawW E D) N := by funext args σ; exact FE127 E D (drawW E D) N args σ
  rw [he] at h; exact h
theorem CF130 : compF Tryz.prog glob Tryz.f130 = some A130.strip := by kernel_rfl
theorem CO130 : callOk Tryz.prog 130 = true := by kernel_rfl
theorem SF130 (E : List (Nat × Blk)) (D : Den) (hD : ∀ f, SoundFn Tryz.prog E glob f (D f)) (N : Nat) : SoundFn Tryz.prog E glob 130 (F130 E D (drawW E D) N) := by
  have h := runX_ok hD (drawW_ok hD follows) follows N Tryz.func130 (xf := A130) CF130 rfl AO130 CO130
  have he : runX E D (drawW E D) N A130 = F130 E D (drawW E D) N := by funext args σ; exact FE130 E D (drawW E D) N args σ
  rw [he] at h; exact h
theorem CF132 : compF Tryz.prog glob Tryz.f132 = some A132.strip := by kernel_rfl
theorem CO132 : callOk Tryz.prog 132 = true := by kernel_rfl
theorem SF132 (E : List (Nat × Blk)) (D : Den) (hD : ∀ f, SoundFn Tryz.prog E glob f (D f)) (N : Nat) : SoundFn Tryz.prog E glob 132 (F132 E D (drawW E D) N) := by
  have h := runX_ok hD (drawW_ok hD follows) follows N Tryz.func132 (xf := A132) CF132 rfl AO132 CO132
  have he : runX E D (drawW E D) N A132 = F132 E D (drawW E D) N := by funext args σ; exact FE132 E D (drawW E D) N args σ
  rw [he] at h; exact h
theorem CF134 : compF Tryz.prog glob Tryz.f134 = some A134.strip := by kernel_rfl
theorem CO134 : callOk Tryz.prog 134 = true := by kernel_rfl
theorem SF134 (E : List (Nat × Blk)) (D : Den) (hD : ∀ f, SoundFn Tryz.prog E glob f (D f)) (N : Nat) : SoundFn Tryz.prog E glob 134 (F134 E D (drawW E D) N) := by
  have h := runX_ok hD (drawW_ok hD follows) follows N Tryz.func134 (xf := A134) CF134 rfl AO134 CO134
  have he : runX E D (drawW E D) N A134 = F134 E D (drawW E D) N := by funext args σ; exact FE134 E D (drawW E D) N args σ
  rw [he] at h; exact h
theorem CF135 : compF Tryz.prog glob Tryz.f135 = some A135.strip := by kernel_rfl
theorem CO135 : callOk Tryz.prog 135 = true := by kernel_rfl
theorem SF135 (E : List (Nat × Blk)) (D : Den) (hD : ∀ f, SoundFn Tryz.prog E glob f (D f)) (N : Nat) : SoundFn Tryz.prog E glob 135 (F135 E D (drawW E D) N) := by
  have h := runX_ok hD (drawW_ok hD follows) follows N Tryz.func135 (xf := A135) CF135 rfl AO135 CO135
  have he : runX E D (drawW E D) N A135 = F135 E D (drawW E D) N := by funext args σ; exact FE135 E D (drawW E D) N args σ
  rw [he] at h; exact h
theorem CF153 : compF Tryz.prog glob Tryz.f153 = some A153.strip := by kernel_rfl
theorem CO153 : callOk Tryz.prog 153 = true := by kernel_rfl
theorem SF153 (E : List (Nat × Blk)) (D : Den) (hD : ∀ f, SoundFn Tryz.prog E glob f (D f)) (N : Nat) : SoundFn Tryz.prog E glob 153 (F153 E D (drawW E D) N) := by
  have h := runX_ok hD (drawW_ok hD follows) follows N Tryz.func153 (xf := A153) CF153 rfl AO153 CO153
  have he : runX E D (drawW E D) N A153 = F153 E D (drawW E D) N := by funext args σ; exact FE153 E D (drawW E D) N args σ
  rw [he] at h; exact h
theorem CF158 : compF Tryz.prog glob Tryz.f158 = some A158.strip := by kernel_rfl
theorem CO158 : callOk Tryz.prog 158 = true := by kernel_rfl
theorem SF158 (E : List (Nat × Blk)) (D : Den) (hD : ∀ f, SoundFn Tryz.prog E glob f (D f)) (N : Nat) : SoundFn Tryz.prog E glob 158 (F158 E D (drawW E D) N) := by
  have h := runX_ok hD (drawW_ok hD follows) follows N Tryz.func158 (xf := A158) CF158 rfl AO158 CO158
  have he : runX E D (drawW E D) N A158 = F158 E D (drawW E D) N := by funext args σ; exact FE158 E D (drawW E D) N args σ
  rw [he] at h; exact h
theorem CF187 : compF Tryz.prog glob Tryz.f187 = some A187.strip := by kernel_rfl
theorem CO187 : callOk Tryz.prog 187 = true := by kernel_rfl
theorem SF187 (E : List (Nat × Blk)) (D : Den) (hD : ∀ f, SoundFn Tryz.prog E glob f (D f)) (N : Nat) : SoundFn Tryz.prog E glob 187 (F187 E D (drawW E D) N) := by
  have h := runX_ok hD (drawW_ok hD follows) follows N Tryz.func187 (xf := A187) CF187 rfl AO187 CO187
  have he : runX E D (drawW E D) N A187 = F187 E D (drawW E D) N := by funext args σ; exact FE187 E D (drawW E D) N args σ
  rw [he] at h; exact h
def ftab (E : List (Nat × Blk)) (N : Nat) (D : Den) : List (Nat × (List V → H → Ans)) := [(3, F3 E D (drawW E D) N), (5, F5 E D (drawW E D) N), (6, F6 E D (drawW E D) N), (7, F7 E D (drawW E D) N), (9, F9 E D (drawW E D) N), (10, F10 E D (drawW E D) N), (14, F14 E D (drawW E D) N), (15, F15 E D (drawW E D) N), (16, F16 E D (drawW E D) N), (24, F24 E D (drawW E D) N), (25, F25 E D (drawW E D) N), (40, F40 E D (drawW E D) N), (41, F41 E D (drawW E D) N), (42, F42 E D (drawW E D) N), (43, F43 E D (drawW E D) N), (44, F44 E D (drawW E D) N), (45, F45 E D (drawW E D) N), (46, F46 E D (drawW E D) N), (64, F64 E D (drawW E D) N), (65, F65 E D (drawW E D) N), (66, F66 E D (drawW E D) N), (67, F67 E D (drawW E D) N), (68, F68 E D (drawW E D) N), (69, F69 E D (drawW E D) N), (72, F72 E D (drawW E D) N), (74, F74 E D (drawW E D) N), (75, F75 E D (drawW E D) N), (76, F76 E D (drawW E D) N), (99, F99 E D (drawW E D) N), (100, F100 E D (drawW E D) N), (101, F101 E D (drawW E D) N), (103, F103 E D (drawW E D) N), (104, F104 E D (drawW E D) N), (126, F126 E D (drawW E D) N), (127, F127 E D (drawW E D) N), (130, F130 E D (drawW E D) N), (132, F132 E D (drawW E D) N), (134, F134 E D (drawW E D) N), (135, F135 E D (drawW E D) N), (153, F153 E D (drawW E D) N), (158, F158 E D (drawW E D) N), (187, F187 E D (drawW E D) N)]
def BD (E : List (Nat × Blk)) (N : Nat) (D : Den) : Den := fun f => match lookF (ftab E N D) f with
  | some g => g
  | none => match lookA tab f with
    | some g => runX E D (drawW E D) N g
    | none => fun _ _ => none
theorem BD_ok (E : List (Nat × Blk)) (N : Nat) (D : Den) (hD : ∀ f, SoundFn Tryz.prog E glob f (D f)) (f : FuncId) : SoundFn Tryz.prog E glob f (BD E N D f) := by
  have hall : ∀ p ∈ ftab E N D, SoundFn Tryz.prog E glob p.1 p.2 := by
    unfold ftab
    simp only [List.forall_mem_cons]
    exact ⟨SF3 E _ hD N, SF5 E _ hD N, SF6 E _ hD N, SF7 E _ hD N, SF9 E _ hD N, SF10 E _ hD N, SF14 E _ hD N, SF15 E _ hD N, SF16 E _ hD N, SF24 E _ hD N, SF25 E _ hD N, SF40 E _ hD N, SF41 E _ hD N, SF42 E _ hD N, SF43 E _ hD N, SF44 E _ hD N, SF45 E _ hD N, SF46 E _ hD N, SF64 E _ hD N, SF65 E _ hD N, SF66 E _ hD N, SF67 E _ hD N, SF68 E _ hD N, SF69 E _ hD N, SF72 E _ hD N, SF74 E _ hD N, SF75 E _ hD N, SF76 E _ hD N, SF99 E _ hD N, SF100 E _ hD N, SF101 E _ hD N, SF103 E _ hD N, SF104 E _ hD N, SF126 E _ hD N, SF127 E _ hD N, SF130 E _ hD N, SF132 E _ hD N, SF134 E _ hD N, SF135 E _ hD N, SF153 E _ hD N, SF158 E _ hD N, SF187 E _ hD N, fun _ h => by cases h⟩
  unfold BD
  split
  · rename_i g hg
    rw [lookF_eq] at hg
    exact hall _ (look_mem hg)
  · split
    · rename_i g hg
      exact (tab_is _ (lookA_mem _ _ _ hg)).sound E _ hD N
    · intro C _ _ R σ w args xs v σ' h; cases h
def DT (E : List (Nat × Blk)) (N : Nat) (d : Nat) : Den := Nat.rec (fun _ _ _ => none) (fun _ ih => BD E N ih) d
theorem DT_ok (E : List (Nat × Blk)) (N : Nat) : ∀ (d : Nat) (f : FuncId), SoundFn Tryz.prog E glob f (DT E N d f) := by
  intro d
  induction d with
  | zero => intro f C _ _ R σ w args xs v σ' h; cases h
  | succ d ih => exact BD_ok E N _ ih
theorem globLt : ∀ g, glob g = true → g < 8 := fun g hg => by simpa [glob] using hg
end
end Go.Proofs.YtdfgcokapncaiaaGreatDoor
set_option linter.all false
namespace Go.Og
noncomputable section

theorem ble_of {a b : Nat} (h : a ≤ b) : Nat.ble a b = true := by rw [Nat.ble_eq]; exact h
/-- The block b holds these cells. -/
def Atc (σ : H) (b : Nat) (l : List V) : Prop := lookF σ.bl b = some (.cells l)
/-- No block beyond the next number. -/
def Tidy (σ : H) : Prop := ∀ b, σ.next ≤ b → lookF σ.bl b = none
/-- What was there is as it was, but for the blocks of S. -/
structure Fr (S : Nat → Prop) (σ σ' : H) : Prop where
  tidy : Tidy σ'
  le : σ.next ≤ σ'.next
  same : ∀ b, b < σ.next → ¬ S b → lookF σ'.bl b = lookF σ.bl b
def Nowhere : Nat → Prop := fun _ => False
/-- The block that a slice lies in. -/
def Names (v : V) (b : Nat) : Prop := match v with
  | .sl b' _ _ _ => b = b'
  | _ => False

section
variable {E : List (Nat × Blk)} {σ σ' σ'' : H} {b b' : Nat} {l m : List V} {S T : Nat → Prop}
theorem Atc.lt (h : Atc σ b l) (ht : Tidy σ) : b < σ.next := by
  rcases Nat.lt_or_ge b σ.next with hl | hl
  · exact hl
  · have := ht b hl; rw [show lookF σ.bl b = some (.cells l) from h] at this; cases this
theorem Fr.refl (ht : Tidy σ) : Fr S σ σ := ⟨ht, Nat.le_refl _, fun _ _ _ => rfl⟩
theorem Fr.mono (h : Fr S σ σ') (hs : ∀ b, b < σ.next → S b → T b) : Fr T σ σ' := ⟨h.tidy, h.le, fun b hb hn => h.same b hb fun hS => hn (hs b hb hS)⟩
theorem Fr.trans (h : Fr S σ σ') (k : Fr T σ' σ'') (hT : ∀ b, b < σ.next → T b → S b) : Fr S σ σ'' :=
  ⟨k.tidy, Nat.le_trans h.le k.le, fun b hb hn => (k.same b (Nat.lt_of_lt_of_le hb h.le) fun hT' => hn (hT b hb hT')).trans (h.same b hb hn)⟩
theorem Fr.at_ (h : Fr S σ σ') (ha : Atc σ b l) (ht : Tidy σ) (hn : ¬ S b) : Atc σ' b l := (h.same b (ha.lt ht) hn).trans ha
theorem lookF_setF (c : Blk) (k : Nat) : lookF (setF σ b c).bl k = if b = k then some c else lookF σ.bl k := by
  rw [lookF_eq, lookF_eq]; exact look_setF σ b c k
theorem Atc_setF (m : List V) : Atc (setF σ b (.cells m)) b m := by
  show lookF _ _ = _
  rw [lookF_setF, if_pos rfl]
theorem Fr.set (ht : Tidy σ) (hb : b < σ.next) (c : Blk) : Fr (fun k => k = b) σ (setF σ b c) := by
  refine ⟨fun k hk => ?_, Nat.le_refl _, fun k hk hn => ?_⟩
  · have hk' : σ.next ≤ k := hk
    rw [lookF_setF, if_neg (by omega)]; exact ht k hk'
  · rw [lookF_setF, if_neg (fun h => hn h.symm)]
theorem Atc_newB (l : List V) : Atc (newB σ (.cells l)) σ.next l := by
  show lookF ((σ.next, Blk.cells l) :: σ.bl) _ = _
  rw [lookF_cons, if_pos rfl]
theorem Fr.new (ht : Tidy σ) (c : Blk) : Fr S σ (newB σ c) := by
  refine ⟨fun k hk => ?_, Nat.le_succ _, fun k hk hn => ?_⟩
  · have hk' : σ.next + 1 ≤ k := hk
    show lookF ((σ.next, c) :: σ.bl) _ = _
    rw [lookF_cons, if_neg (by omega)]; exact ht k (by omega)
  · show lookF ((σ.next, c) :: σ.bl) _ = _
    rw [lookF_cons, if_neg (by omega)]
/-! ### what is read and written -/
theorem rdK_at {κ : List V → Ans} (h : Atc σ b l) : rdK E σ b κ = κ l := by unfold rdK; rw [show lookF σ.bl b = some (.cells l) from h]
theorem nthK_of {κ : V → Ans} {o : Nat} {v : V} (h : nthF l o = some v) : nthK l o κ = κ v := by unfold nthK; rw [h]
theorem ldK_at {κ : V → Ans} {o : Nat} {v : V} (h : Atc σ b l) (hv : nthF l o = some v) : ldK E σ b o κ = κ v := (rdK_at h).trans (nthK_of hv)
theorem ldK_get {κ : V → Ans} {o : Nat} {v : V} (h : Atc σ b l) (hv : l[o]? = some v) : ldK E σ b o κ = κ v := ldK_at h (by rw [nthF_eq]; exact hv)
theorem subK_of {κ : List V → Ans} {o n : Nat} (h : o + n ≤ l.length) : subK l o n κ = κ ((l.drop o).take n) := by
  unfold subK; rw [show Nat.ble (Nat.add o n) l.length = true from ble_of h]
theorem ldnK_at {κ : List V → Ans} {o n : Nat} (h : Atc σ b l) (hl : o + n ≤ l.length) : ldnK E σ b o n κ = κ ((l.drop o).take n) := (rdK_at h).trans (subK_of hl)
theorem chk_true {c : Bool} {a : Ans} (h : c = true) : chk c a = a := by rw [h]; rfl
theorem stK_at {κ : H → Ans} {n o : Nat} {v : V} (h : Atc σ b l) (hc : (Nat.beq v.cells.length n && Nat.ble (Nat.add o n) l.length && allOne v.cells) = true) : stK n b o v σ κ = κ (setF σ b (.cells (spl l o v.cells))) := by
  unfold stK; rw [show lookF σ.bl b = some (.cells l) from h]; exact chk_true hc
/-! ### numbers -/
theorem ltF_nat (m n : Nat) : ltF (Int.ofNat m) (Int.ofNat n) = decide (m < n) := by
  rw [ltF_eq]; simp
theorem leF_nat (m n : Nat) : leF (Int.ofNat m) (Int.ofNat n) = decide (m ≤ n) := by
  rw [leF_eq]; simp
theorem eqF_nat (m n : Nat) : eqF (Int.ofNat m) (Int.ofNat n) = decide (m = n) := by
  rw [eqF_eq]; rw [Bool.eq_iff_iff]; simp only [beq_iff_eq, decide_eq_true_eq]; exact ⟨fun h => Int.ofNat.inj h, fun h => by rw [h]⟩
theorem wrapF_nat {k : IntKind} {m : Nat} (h : m ≤ maxN k) : wrapF k (Int.ofNat m) = Int.ofNat m :=
  (wrapF_eq _ _).trans (wrap_in (show Nat.ble m (maxN k) = true from ble_of h))
theorem addF_nat {m n : Nat} (h : m + n ≤ 9223372036854775807) : addF .i64 (Int.ofNat m) (Int.ofNat n) = Int.ofNat (m + n) := by
  exact wrapF_nat (k := .i64) (m := m + n) h
theorem subF_nat {m n : Nat} (h : n ≤ m) (hm : m ≤ 9223372036854775807) : subF .i64 (Int.ofNat m) (Int.ofNat n) = Int.ofNat (m - n) := by
  have e : Int.sub (Int.ofNat m) (Int.ofNat n) = Int.ofNat (m - n) := by
    show (m : Int) - (n : Int) = ((m - n : Nat) : Int)
    omega
  show wrapF .i64 (Int.sub (Int.ofNat m) (Int.ofNat n)) = _
  rw [e]
  exact wrapF_nat (k := .i64) (show m - n ≤ 9223372036854775807 by omega)
theorem idxStrX_nat {s : BS} {i : Nat} {κ : Int → Ans} (h : i < s.len) : idxStrX s (Int.ofNat i) κ = κ (Int.ofNat (s.get i)) := by
  show chk (Nat.blt i s.len) _ = _
  exact chk_true (by simpa [Nat.blt_eq] using h)
theorem sliceStrX_from {s : BS} {i : Nat} {κ : BS → Ans} (h : i ≤ s.len) : sliceStrX s (some (.int .i64 (Int.ofNat i))) none κ = κ (s.sub i s.len) := by
  show chk (Nat.ble i s.len && Nat.ble s.len s.len) _ = _
  exact chk_true (by simp [Nat.ble_eq, h])
theorem sliceStrX_to {s : BS} {i : Nat} {κ : BS → Ans} (h : i ≤ s.len) : sliceStrX s none (some (.int .i64 (Int.ofNat i))) κ = κ (s.sub 0 i) := by
  show chk (Nat.ble 0 i && Nat.ble i s.len) _ = _
  exact chk_true (by simp [Nat.ble_eq, h])
theorem sliceStrX_both {s : BS} {i j : Nat} {κ : BS → Ans} (h : i ≤ j) (hj : j ≤ s.len) : sliceStrX s (some (.int .i64 (Int.ofNat i))) (some (.int .i64 (Int.ofNat j))) κ = κ (s.sub i j) := by
  show chk (Nat.ble i j && Nat.ble j s.len) _ = _
  exact chk_true (by simp [Nat.ble_eq, h, hj])

/-! ### slices that grow -/
/-- A slice of k elements that grows by append. -/
def Sl (σ : H) (esz k : Nat) (v : V) (l : List V) : Prop := (k = 0 ∧ v = .nils ∧ l = []) ∨ (∃ b, v = .sl b 0 k (.op esz) ∧ Atc σ b l ∧ 0 < k ∧ l.length = k * esz)
theorem Sl.nil (σ : H) (esz : Nat) : Sl σ esz 0 .nils [] := .inl ⟨rfl, rfl, rfl⟩
theorem Sl.length {esz k : Nat} {v : V} (h : Sl σ esz k v l) : l.length = k * esz := by
  rcases h with ⟨rfl, _, rfl⟩ | ⟨b, _, _, _, h⟩
  · simp
  · exact h
theorem Sl.fr {esz k : Nat} {v : V} (h : Sl σ esz k v l) (f : Fr S σ σ') (ht : Tidy σ) (hn : ∀ b, Names v b → ¬ S b) : Sl σ' esz k v l := by
  rcases h with h | ⟨b, rfl, ha, hk, hl⟩
  · exact .inl h
  · exact .inr ⟨b, rfl, f.at_ ha ht (hn b rfl), hk, hl⟩
theorem Sl.one {esz k : Nat} {v : V} (h : Sl σ esz k v l) : v.one = true := by
  rcases h with ⟨_, rfl, _⟩ | ⟨b, rfl, _⟩ <;> rfl
theorem Sl.slen {esz k : Nat} {v : V} {κ : Nat → Ans} (h : Sl σ esz k v l) : slenK v κ = κ k := by
  rcases h with ⟨rfl, rfl, _⟩ | ⟨b, rfl, _⟩ <;> rfl
theorem Sl.lt {esz k : Nat} {v : V} (h : Sl σ esz k v l) (ht : Tidy σ) (hb : Names v b) : b < σ.next := by
  rcases h with ⟨_, rfl, _⟩ | ⟨c, rfl, ha, _⟩
  · exact hb.elim
  · cases hb; exact ha.lt ht
theorem srcK_ex {esz n xb xo : Nat} {c' : Cap} {κ : Nat → List V → Ans} (h : Atc σ xb m) (hl : xo + n * esz ≤ m.length) : srcK E σ esz (.sl xb xo n c') κ = κ n ((m.drop xo).take (n * esz)) :=
  (rdK_at h).trans (subK_of hl)
theorem rtOne_sl {b o n : Nat} {c : Cap} {a : Ans} : rtOne (.sl b o n c) a = a := rfl
theorem iaddrSK_lt {esz b o n i : Nat} {c : Cap} {κ : Nat → Nat → Ans} (h : i < n) : iaddrSK esz (.sl b o n c) (Int.ofNat i) κ = κ b (Nat.add o (Nat.mul i esz)) := by
  show chk (Nat.blt i n) _ = _
  exact chk_true (by simpa [Nat.blt_eq] using h)
theorem lookF_drop (l : List (Nat × Blk)) (id id' : Nat) : lookF (drop l id) id' = if id = id' then none else lookF l id' := by
  rw [lookF_eq, lookF_eq]; exact look_drop l id id'
/-- One element more. -/
theorem app_one {esz bytes k xb : Nat} {v : V} (h : Sl σ esz k v l) (ht : Tidy σ) (hx : Atc σ xb m) (hm : m.length = esz) (ho : allOne m = true) (hg : growable (k + 1) bytes = true) :
    ∃ σ', (∀ κ : V → H → Ans, appK E esz bytes v (.sl xb 0 1 (.ex 1)) σ κ = κ (.sl σ.next 0 (k + 1) (.op esz)) σ') ∧ Atc σ' σ.next (l ++ m) ∧ σ'.next = σ.next + 1 ∧ Fr (Names v) σ σ' := by
  have e1 : ((m.drop 0).take (1 * esz)) = m := by rw [List.drop_zero, Nat.one_mul, ← hm, List.take_length]
  have hs : ∀ κ' : Nat → List V → Ans, srcK E σ esz (.sl xb 0 1 (.ex 1)) κ' = κ' 1 m := fun κ' => by
    have := srcK_ex (E := E) (σ := σ) (esz := esz) (n := 1) (c' := .ex 1) (xb := xb) (xo := 0) (κ := κ') hx (by omega)
    rw [this, e1]
  rcases h with ⟨rfl, rfl, rfl⟩ | ⟨b, rfl, ha, hk, hl⟩
  · refine ⟨newB σ (.cells m), fun κ => ?_, Atc_newB m, rfl, Fr.new ht _⟩
    show srcK E σ esz _ _ = _
    rw [hs]
    show callK (appendV E esz bytes .nils (.sl xb 0 1 (.ex 1)) σ) κ = _
    have hc : srcCells E σ esz (.sl xb 0 1 (.ex 1)) = some (1, m) := by
      show (rdN E σ xb 0 (1 * esz)).map _ = _
      unfold rdN rd
      rw [← lookF_eq, show lookF σ.bl xb = some (.cells m) from hx]
      simp only []
      rw [show Nat.ble (0 + 1 * esz) m.length = true from ble_of (by omega)]
      simp only [if_true, Option.map_some]
      rw [e1]
    unfold appendV
    rw [hc]
    simp only []
    rw [if_neg (by decide), show growable 1 bytes = true from hg]
    rfl
  · refine ⟨⟨σ.next + 1, (σ.next, .cells (l ++ m)) :: drop σ.bl b⟩, fun κ => ?_, ?_, rfl, ?_⟩
    · show srcK E σ esz _ _ = _
      rw [hs]
      show (match lookF σ.bl b with
        | some (.cells l) => chk (Nat.beq l.length (k * esz) && Nat.beq esz esz && growable (k + 1) bytes && allOne m) (forceD σ.bl b fun bl' => κ (.sl σ.next 0 (k + 1) (.op esz)) ⟨σ.next + 1, (σ.next, .cells (l ++ m)) :: bl'⟩)
        | _ => none) = _
      rw [show lookF σ.bl b = some (.cells l) from ha]
      simp only []
      rw [chk_true (by rw [hg, ho, hl]; simp), forceD_eq]
    · show lookF ((σ.next, Blk.cells (l ++ m)) :: _) _ = _
      rw [lookF_cons, if_pos rfl]
    · refine ⟨fun k' hk' => ?_, Nat.le_succ _, fun k' hk' hn => ?_⟩
      · have hk2 : σ.next + 1 ≤ k' := hk'
        show lookF ((σ.next, _) :: drop σ.bl b) k' = none
        rw [lookF_cons, if_neg (by simp only []; omega), lookF_drop]
        split
        · rfl
        · exact ht k' (by omega)
      · show lookF ((σ.next, _) :: drop σ.bl b) k' = _
        rw [lookF_cons, if_neg (by simp only []; omega), lookF_drop, if_neg]
        intro hbk
        exact hn hbk.symm
end
/-! ### texts as lists of numbers -/
theorem rtInt_int (k : IntKind) (n : Int) (κ : Int → Ans) : rtInt k (.int k n) κ = κ n := by simp [rtInt]
theorem rtBool_bool (b : Bool) (κ : Bool → Ans) : rtBool (.bool b) κ = κ b := rfl
theorem rtStr_str (s : BS) (κ : BS → Ans) : rtStr (.str s) κ = κ s := rfl
theorem rtPtr_ptr (b o : Nat) (κ : Nat → Nat → Ans) : rtPtr (.ptr b o) κ = κ b o := rfl
theorem rtAgg_agg (l : List V) (κ : List V → Ans) : rtAgg (.agg l) κ = κ l := rfl
theorem rtTup_tup (l : List V) (κ : List V → Ans) : rtTup (.tup l) κ = κ l := rfl
theorem rtCons_cons (v : V) (l : List V) (κ : V → List V → Ans) : rtCons (v :: l) κ = κ v l := rfl
theorem rtNil_nil (a : Ans) : rtNil [] a = a := rfl
theorem callK_some_ (v : V) (σ : H) (κ : V → H → Ans) : callK (some (v, σ)) κ = κ v σ := rfl
theorem joinB_ (f : Bool → H → Ans) (g : (Bool → H → Ans) → Ans) : joinB f g = g f := rfl

def BS.nats (s : BS) : List Nat := s.toList.map UInt8.toNat
theorem BS.length_nats (s : BS) : s.nats.length = s.len := by simp [BS.nats, BS.length_toList]
theorem BS.nats_get {s : BS} {i : Nat} (h : i < s.len) : s.nats[i]? = some (s.get i) := by
  simp only [BS.nats, List.getElem?_map, BS.getElem?_toList, if_pos h, Option.map_some, UInt8.toNat_ofNat']
  rw [Nat.mod_eq_of_lt (s.get_lt i)]
theorem BS.nats_lt (s : BS) : ∀ c ∈ s.nats, c < 256 := by
  intro c hc
  simp only [BS.nats, List.mem_map] at hc
  obtain ⟨u, _, rfl⟩ := hc
  exact u.toNat_lt
theorem BS.nats_cat (a b : BS) : (a.cat b).nats = a.nats ++ b.nats := by simp [BS.nats, BS.toList_cat]
theorem BS.nats_sub {s : BS} {lo hi : Nat} (h : hi ≤ s.len) : (s.sub lo hi).nats = (s.nats.drop lo).take (hi - lo) := by
  simp [BS.nats, BS.toList_sub h]
theorem nats_inj {l m : List UInt8} (h : l.map UInt8.toNat = m.map UInt8.toNat) : l = m := by
  have hm := congrArg (List.map UInt8.ofNat) h
  simpa [List.map_map, Function.comp_def] using hm
theorem BS.beq_nats (a b : BS) : a.beq b = decide (a.nats = b.nats) := by
  rw [BS.beq_eq]
  rw [Bool.eq_iff_iff]
  simp only [decide_eq_true_eq]
  exact ⟨fun h => by rw [BS.nats, h, ← BS.nats], fun h => nats_inj h⟩
def BS.canon (s : BS) : Prop := s.val < 2 ^ (8 * s.len)
theorem BS.canon_low {s : BS} (h : s.canon) : s.low = s.val := Nat.mod_eq_of_lt h
theorem BS.canon_ext {a b : BS} (ha : a.canon) (hb : b.canon) (h : a.nats = b.nats) : a = b := by
  have ht := nats_inj h
  obtain ⟨hl, hg⟩ := BS.get_eq ht
  have := (BS.low_eq hl).2 hg
  rw [BS.canon_low ha, BS.canon_low hb] at this
  cases a; cases b
  simp only [] at hl this
  subst hl; subst this; rfl
theorem BS.sub_canon (s : BS) (lo hi : Nat) : (s.sub lo hi).canon := Nat.mod_lt _ (Nat.pow_pos (by decide))
def ofN : List Nat → BS
  | [] => ⟨0, 0⟩
  | c :: l => ⟨Nat.succ (ofN l).len, Nat.add c (Nat.mul 256 (ofN l).val)⟩
theorem ofN_eq : ∀ {l : List Nat}, (∀ c ∈ l, c < 256) → ofN l = BS.ofList (l.map UInt8.ofNat)
  | [], _ => rfl
  | c :: l, h => by
    have hc : (UInt8.ofNat c).toNat = c := by simp only [UInt8.toNat_ofNat']; exact Nat.mod_eq_of_lt (h c (by simp))
    have ih := ofN_eq (l := l) (fun d hd => h d (List.mem_cons_of_mem _ hd))
    show BS.mk (Nat.succ (ofN l).len) (Nat.add c (Nat.mul 256 (ofN l).val)) = BS.mk (Nat.succ (BS.ofList (l.map UInt8.ofNat)).len) (Nat.add (UInt8.ofNat c).toNat (Nat.mul 256 (BS.ofList (l.map UInt8.ofNat)).val))
    rw [ih, hc]
theorem ofN_len : ∀ l : List Nat, (ofN l).len = l.length
  | [] => rfl
  | c :: l => by simp [ofN, ofN_len l]
theorem ofN_nats {l : List Nat} (h : ∀ c ∈ l, c < 256) : (ofN l).nats = l := by
  rw [ofN_eq h]
  apply List.ext_getElem?
  intro i
  by_cases hi : i < l.length
  · have hl : (BS.ofList (l.map UInt8.ofNat)).len = l.length := by rw [BS.len_ofList, List.length_map]
    rw [BS.nats_get (by omega)]
    have hc : (l.map UInt8.ofNat)[i]? = some (UInt8.ofNat l[i]) := by simp [hi]
    rw [BS.get_ofList _ _ _ hc]
    simp only [UInt8.toNat_ofNat', List.getElem?_eq_getElem hi]
    rw [Nat.mod_eq_of_lt (h _ (List.getElem_mem hi))]
  · rw [List.getElem?_eq_none (by rw [BS.length_nats, BS.len_ofList, List.length_map]; omega), List.getElem?_eq_none (by omega)]
theorem ofN_canon : ∀ {l : List Nat}, (∀ c ∈ l, c < 256) → (ofN l).canon
  | [], _ => by show 0 < 2 ^ (8 * 0); decide
  | c :: l, h => by
    have ih : (ofN l).val < 2 ^ (8 * (ofN l).len) := ofN_canon (fun d hd => h d (by simp [hd]))
    have hc := h c (by simp)
    show c + 256 * (ofN l).val < 2 ^ (8 * ((ofN l).len + 1))
    have e : 2 ^ (8 * ((ofN l).len + 1)) = 256 * 2 ^ (8 * (ofN l).len) := by
      rw [Nat.mul_add, Nat.pow_add]; simp [Nat.mul_comm]
    rw [e]; omega
theorem sub_ofN {s : BS} {lo hi : Nat} (h : hi ≤ s.len) : s.sub lo hi = ofN ((s.nats.drop lo).take (hi - lo)) := by
  have hb : ∀ c ∈ (s.nats.drop lo).take (hi - lo), c < 256 := fun c hc => s.nats_lt c (List.mem_of_mem_drop (List.mem_of_mem_take hc))
  exact BS.canon_ext (s.sub_canon lo hi) (ofN_canon hb) (by rw [BS.nats_sub h, ofN_nats hb])

/-- From the place i on the text reads r. -/
def Rst (s : BS) (i : Nat) (r : List Nat) : Prop := i ≤ s.len ∧ s.nats.drop i = r
section
variable {s : BS} {i : Nat} {r : List Nat}
theorem Rst.start (s : BS) : Rst s 0 s.nats := ⟨Nat.zero_le _, rfl⟩
theorem Rst.len (h : Rst s i r) : i + r.length = s.len := by
  have := congrArg List.length h.2
  rw [List.length_drop, BS.length_nats] at this
  have := h.1; omega
theorem Rst.bd (h : Rst s i r) : ∀ c ∈ r, c < 256 := fun c hc => s.nats_lt c (List.mem_of_mem_drop (h.2 ▸ hc))
theorem Rst.drop (h : Rst s i r) {k : Nat} (hk : k ≤ r.length) : Rst s (i + k) (r.drop k) := by
  refine ⟨by have := h.len; omega, ?_⟩
  rw [← h.2, List.drop_drop]
theorem Rst.get? (h : Rst s i r) (k : Nat) : r[k]? = if i + k < s.len then some (s.get (i + k)) else none := by
  rw [← h.2, List.getElem?_drop]
  by_cases hk : i + k < s.len
  · rw [if_pos hk, BS.nats_get hk]
  · rw [if_neg hk, List.getElem?_eq_none (by rw [BS.length_nats]; omega)]
theorem Rst.getD_lt (h : Rst s i r) {k : Nat} (hk : i + k < s.len) : r.getD k 0 = s.get (i + k) := by
  rw [List.getD_eq_getElem?_getD, h.get?, if_pos hk]; rfl
theorem Rst.getD_ge (h : Rst s i r) {k : Nat} (hk : ¬ i + k < s.len) : r.getD k 0 = 0 := by
  rw [List.getD_eq_getElem?_getD, h.get?, if_neg hk]; rfl
theorem Rst.sub (h : Rst s i r) {k : Nat} (hk : k ≤ r.length) : s.sub i (i + k) = ofN (r.take k) := by
  have := h.len
  rw [sub_ofN (by omega), h.2, Nat.add_sub_cancel_left]
theorem Rst.subAll (h : Rst s i r) : s.sub i s.len = ofN r := by
  have := h.len
  rw [show s.len = i + r.length by omega, h.sub (Nat.le_refl _), List.take_length]
end
end
end Go.Og
set_option linter.all false
namespace Go.Og
noncomputable section
section
variable {E : List (Nat × Blk)} {D : Den} {n0 n i : Nat} {o : AOper} {l : List AOper} {p : DP} {pl : List DP} {s : DS} {v : V}
theorem dsteps_p (hg : o.guard = none) (hc : o.op.cls = .p) (hv : aopP o.op (restr p.looks s.e) = some v) :
    dsteps E D n0 n i (o :: l) (p :: pl) s = dsteps E D n0 n (i + 1) l pl { s with e := putE s.e o.dst v } := by
  have h : dstep E D n0 n i o p s = some { s with e := putE s.e o.dst v } := by unfold dstep; rw [hg]; simp only [wantedA, hc, hv]
  show (match dstep E D n0 n i o p s with | none => none | some s' => dsteps E D n0 n (i + 1) l pl s') = _
  rw [h]
theorem dsteps_l {h : List (Nat × Blk)} {ss : List (List (Nat × Blk))} (hg : o.guard = none) (hc : o.op.cls = .l) (hs : s.ss = h :: ss) (hv : aopL E o.op (restr p.looks s.e) ⟨s.nx, hideB n0 n (visK p.anc s.am) h⟩ = some v) :
    dsteps E D n0 n i (o :: l) (p :: pl) s = dsteps E D n0 n (i + 1) l pl { s with e := putE s.e o.dst v, ls := (i, o.op, restr p.looks s.e, v) :: s.ls } := by
  have h : dstep E D n0 n i o p s = some { s with e := putE s.e o.dst v, ls := (i, o.op, restr p.looks s.e, v) :: s.ls } := by unfold dstep; rw [hg]; simp only [wantedA, hc, hs, hv]
  show (match dstep E D n0 n i o p s with | none => none | some s' => dsteps E D n0 n (i + 1) l pl s') = _
  rw [h]
theorem dsteps_a {b : Blk} (hg : o.guard = none) (hc : o.op.cls = .a) (hv : aopA o.op (restr p.looks s.e) (n0 + i) = some (v, b)) :
    dsteps E D n0 n i (o :: l) (p :: pl) s = dsteps E D n0 n (i + 1) l pl { s with e := putE s.e o.dst v, ss := s.ss.map ((n0 + i, b) :: ·), am := s.am ||| 2 ^ i } := by
  have h : dstep E D n0 n i o p s = some { s with e := putE s.e o.dst v, ss := s.ss.map ((n0 + i, b) :: ·), am := s.am ||| 2 ^ i } := by unfold dstep; rw [hg]; simp only [wantedA, hc, hv]
  show (match dstep E D n0 n i o p s with | none => none | some s' => dsteps E D n0 n (i + 1) l pl s') = _
  rw [h]
theorem dsteps_a' {b : Blk} {id am' : Nat} (hg : o.guard = none) (hc : o.op.cls = .a) (hid : n0 + i = id) (ham : s.am ||| 2 ^ i = am') (hv : aopA o.op (restr p.looks s.e) id = some (v, b)) :
    dsteps E D n0 n i (o :: l) (p :: pl) s = dsteps E D n0 n (i + 1) l pl { s with e := putE s.e o.dst v, ss := s.ss.map ((id, b) :: ·), am := am' } := by
  subst hid; subst ham
  exact dsteps_a hg hc hv
theorem dsteps_k {h : List (Nat × Blk)} {ss : List (List (Nat × Blk))} {σ' : H} (hg : o.guard = none) (hc : o.op.cls = .k) (hs : s.ss = h :: ss) (hv : den1 E D o.op (restr p.looks s.e) ⟨s.nx, hideB n0 n (visK p.anc s.am) h⟩ = some (v, σ')) :
    dsteps E D n0 n i (o :: l) (p :: pl) s = dsteps E D n0 n (i + 1) l pl { s with e := putE s.e o.dst v, nx := σ'.next, ss := (keepB n0 n (visK p.anc s.am) h ++ σ'.bl) :: s.ss, ks := i :: s.ks } := by
  have h : dstep E D n0 n i o p s = some { s with e := putE s.e o.dst v, nx := σ'.next, ss := (keepB n0 n (visK p.anc s.am) h ++ σ'.bl) :: s.ss, ks := i :: s.ks } := by unfold dstep; rw [hg]; simp only [wantedA, hc, hs, hv]
  show (match dstep E D n0 n i o p s with | none => none | some s' => dsteps E D n0 n (i + 1) l pl s') = _
  rw [h]
theorem dsteps_nil : dsteps E D n0 n i [] pl s = some s := by cases pl <;> rfl
theorem drawW_of {ops : List AOper} {e : Env} {σ : H} {h : List (Nat × Blk)} {ss : List (List (Nat × Blk))} (hd : dsteps E D σ.next ops.length 0 ops pl ⟨e, σ.next + ops.length, [σ.bl], [], 0, []⟩ = some s)
    (hl : s.ls.all (fun (j, op, em, v) => checkL E σ.next ops.length pl s.am j op em v s.ss s.ks []) = true) (hs : s.ss = h :: ss) :
    drawW E D ops pl e σ = some (s.e, ⟨s.nx, hideB σ.next ops.length (fun k => s.am.testBit k) h⟩) := by
  unfold drawW
  rw [hd]
  show (if s.ls.all (fun (j, op, em, v) => checkL E σ.next ops.length pl s.am j op em v s.ss s.ks []) = true then _ else none) = _
  rw [if_pos hl, hs]
end

section
variable {E : List (Nat × Blk)} {n0 n am j : Nat} {pl : List DP} {op : AOp} {em : Env} {v : V} {h : List (Nat × Blk)} {ss : List (List (Nat × Blk))} {k : Nat} {ks more : List Nat}
theorem check_skip (hl : legal pl j (k :: ks) more = false) : checkL E n0 n pl am j op em v (h :: ss) (k :: ks) more = checkL E n0 n pl am j op em v ss ks (k :: more) := by
  show ((!legal pl j (k :: ks) more || _) && checkL E n0 n pl am j op em v ss ks (k :: more)) = _
  rw [hl]; rfl
theorem check_take (hv : aopL E op em ⟨0, hideB n0 n (visK (pl.getD j ⟨0, []⟩).anc am) h⟩ = some v) (hb : V.beq v v = true) : checkL E n0 n pl am j op em v (h :: ss) (k :: ks) more = checkL E n0 n pl am j op em v ss ks (k :: more) := by
  show ((!legal pl j (k :: ks) more || (match aopL E op em ⟨0, hideB n0 n (visK (pl.getD j ⟨0, []⟩).anc am) h⟩ with | some u => V.beq u v | none => false)) && checkL E n0 n pl am j op em v ss ks (k :: more)) = _
  rw [hv]
  simp only [hb, Bool.or_true, Bool.true_and]
theorem check_last (hv : aopL E op em ⟨0, hideB n0 n (visK (pl.getD j ⟨0, []⟩).anc am) h⟩ = some v) (hb : V.beq v v = true) : checkL E n0 n pl am j op em v (h :: ss) [] more = true := by
  show ((!legal pl j [] more || (match aopL E op em ⟨0, hideB n0 n (visK (pl.getD j ⟨0, []⟩).anc am) h⟩ with | some u => V.beq u v | none => false)) && true) = _
  rw [hv]
  simp only [hb, Bool.or_true, Bool.true_and]
end
/-! ### which blocks are there -/
section
variable {n0 n : Nat} {p : Nat → Bool} {l : List (Nat × Blk)}
theorem hide_keep : ∀ {l : List (Nat × Blk)}, (∀ i, i < n → p i = false → look l (n0 + i) = none) → hideB n0 n p l = l ∧ keepB n0 n p l = []
  | [], _ => ⟨rfl, rfl⟩
  | (k, b) :: l, h => by
    have hc : (Nat.ble n0 k && Nat.blt k (n0 + n) && !p (k - n0)) = false := by
      cases hb : (Nat.ble n0 k && Nat.blt k (n0 + n) && !p (k - n0)) with
      | false => rfl
      | true =>
        exfalso
        simp only [Bool.and_eq_true, Nat.ble_eq, Nat.blt_eq, Bool.not_eq_true'] at hb
        have := h (k - n0) (by omega) hb.2
        rw [show n0 + (k - n0) = k by omega] at this
        simp [look] at this
    have ih := hide_keep (l := l) (fun i hi hp => by
      have := h i hi hp
      simp only [look] at this
      split at this
      · cases this
      · exact this)
    unfold hideB keepB
    rw [hc]
    simp only [Bool.false_eq_true, if_false]
    exact ⟨by rw [ih.1], ih.2⟩
theorem Tidy.gap {σ : H} (h : Tidy σ) (n : Nat) : ∀ id, σ.next ≤ id → id < σ.next + n → look σ.bl id = none := fun id h1 _ => by
  have := h id h1; rwa [lookF_eq] at this
theorem Tidy.wide {σ : H} (h : Tidy σ) (n : Nat) : Tidy ⟨σ.next + n, σ.bl⟩ := fun b hb => h b (by have : σ.next + n ≤ b := hb; omega)
theorem Fr.wide {S : Nat → Prop} {σ σ' : H} {n : Nat} (f : Fr S ⟨σ.next + n, σ.bl⟩ σ') : Fr S σ σ' :=
  ⟨f.tidy, by have : σ.next + n ≤ σ'.next := f.le; omega, fun b hb hn => f.same b (show b < σ.next + n by omega) hn⟩
theorem Fr.gap {S : Nat → Prop} {σ σ' : H} {n : Nat} (f : Fr S ⟨σ.next + n, σ.bl⟩ σ') (ht : Tidy σ) (hS : ∀ b, S b → b < σ.next) : ∀ id, σ.next ≤ id → id < σ.next + n → look σ'.bl id = none := fun id h1 h2 => by
  have := f.same id h2 (fun hs => by have := hS id hs; omega)
  rw [← lookF_eq, this]
  exact ht id h1
theorem look_hide_old {id : Nat} (h : id < n0) : look (hideB n0 n p l) id = look l id := by
  rw [look_hideB, if_neg (by omega)]
theorem look_cons_ne {α : Type} {k id : Nat} {b : α} {l : List (Nat × α)} (h : k ≠ id) : look ((k, b) :: l) id = look l id := by simp [look, h]
theorem look_cons_eq {α : Type} {k : Nat} {b : α} {l : List (Nat × α)} : look ((k, b) :: l) k = some b := by simp [look]
theorem load_of {E : List (Nat × Blk)} {x : AO} {e : Env} {b off nx : Nat} {h : List (Nat × Blk)} {c : List V} {v : V} (hx : opv e x = .ptr b off) (hl : look h b = some (.cells c)) (hv : c[off]? = some v) :
    aopL E (.load none x) e ⟨nx, h⟩ = some v := by
  unfold aopL
  simp only [hx, rd, hl, hv]
end
/-! ### the same, by the parts of what is held -/
section
variable {E : List (Nat × Blk)} {D : Den} {n0 n i : Nat} {d : Option Nat} {o : AOp} {l : List AOper} {anc : Nat} {lk : List Nat} {pl : List DP} {e : Env} {nx am : Nat} {ss : List (List (Nat × Blk))} {h : List (Nat × Blk)} {ks : List Nat} {ls : List (Nat × AOp × Env × V)}
theorem dp (v : V) (hc : o.cls = .p) (hv : aopP o (restr lk e) = some v) : dsteps E D n0 n i (⟨d, o, none⟩ :: l) (⟨anc, lk⟩ :: pl) ⟨e, nx, ss, ks, am, ls⟩ = dsteps E D n0 n (i + 1) l pl ⟨putE e d v, nx, ss, ks, am, ls⟩ :=
  dsteps_p rfl hc hv
theorem dl (v : V) (hc : o.cls = .l) (hv : aopL E o (restr lk e) ⟨nx, hideB n0 n (visK anc am) h⟩ = some v) : dsteps E D n0 n i (⟨d, o, none⟩ :: l) (⟨anc, lk⟩ :: pl) ⟨e, nx, h :: ss, ks, am, ls⟩ = dsteps E D n0 n (i + 1) l pl ⟨putE e d v, nx, h :: ss, ks, am, (i, o, restr lk e, v) :: ls⟩ :=
  dsteps_l rfl hc rfl hv
theorem da (v : V) (b : Blk) (id am' : Nat) (hc : o.cls = .a) (hid : n0 + i = id) (ham : am ||| 2 ^ i = am') (hv : aopA o (restr lk e) id = some (v, b)) : dsteps E D n0 n i (⟨d, o, none⟩ :: l) (⟨anc, lk⟩ :: pl) ⟨e, nx, ss, ks, am, ls⟩ = dsteps E D n0 n (i + 1) l pl ⟨putE e d v, nx, ss.map ((id, b) :: ·), ks, am', ls⟩ :=
  dsteps_a' rfl hc hid ham hv
theorem dk (v : V) (nx' : Nat) (bl' : List (Nat × Blk)) (hc : o.cls = .k) (hk : hideB n0 n (visK anc am) h = h ∧ keepB n0 n (visK anc am) h = []) (hv : den1 E D o (restr lk e) ⟨nx, h⟩ = some (v, ⟨nx', bl'⟩)) : dsteps E D n0 n i (⟨d, o, none⟩ :: l) (⟨anc, lk⟩ :: pl) ⟨e, nx, h :: ss, ks, am, ls⟩ = dsteps E D n0 n (i + 1) l pl ⟨putE e d v, nx', bl' :: h :: ss, i :: ks, am, ls⟩ := by
  have := dsteps_k (E := E) (D := D) (n0 := n0) (n := n) (i := i) (o := ⟨d, o, none⟩) (l := l) (p := ⟨anc, lk⟩) (pl := pl) (s := ⟨e, nx, h :: ss, ks, am, ls⟩) (v := v) (σ' := ⟨nx', bl'⟩) rfl hc rfl (by show den1 E D o (restr lk e) ⟨nx, hideB n0 n (visK anc am) h⟩ = _; rw [hk.1]; exact hv)
  rw [this]
  show dsteps E D n0 n (i + 1) l pl ⟨putE e d v, nx', (keepB n0 n (visK anc am) h ++ bl') :: h :: ss, i :: ks, am, ls⟩ = _
  rw [hk.2]; rfl
end
end
end Go.Og
set_option linter.all false
namespace Go.Og
noncomputable section

mutual
def V.rn (ρ : Nat → Nat) : V → V
  | .ptr b o => .ptr (ρ b) o
  | .sl b o n c => .sl (ρ b) o n c
  | .sle b o k e => .sle (ρ b) o k e
  | .mp b => .mp (ρ b)
  | .fn f a c => .fn f (rns ρ a) (rns ρ c)
  | .ifc t v => .ifc t (V.rn ρ v)
  | .agg l => .agg (rns ρ l)
  | .tup l => .tup (rns ρ l)
  | v => v
def rns (ρ : Nat → Nat) : List V → List V
  | [] => []
  | v :: l => V.rn ρ v :: rns ρ l
end
mutual
/-- All its addresses are of that kind. -/
def V.inn (p : Nat → Bool) : V → Bool
  | .dead => false
  | .ptr b _ => p b
  | .sl b _ _ _ => p b
  | .sle b _ _ _ => p b
  | .mp b => p b
  | .fn _ a c => inns p a && inns p c
  | .ifc _ v => V.inn p v
  | .agg l => inns p l
  | .tup l => inns p l
  | _ => true
def inns (p : Nat → Bool) : List V → Bool
  | [] => true
  | v :: l => V.inn p v && inns p l
end
section
variable {R S : Ren} {p : Nat → Bool} {ρ : Nat → Nat}
mutual
theorem conc_rn (h : ∀ b, p b = true → S (ρ b) = R b) : ∀ v : V, V.inn p v = true → conc S (V.rn ρ v) = conc R v
  | .dead, hc => by simp [V.inn] at hc
  | .ptr b o, hc => by
    simp only [V.inn] at hc
    simp only [V.rn, conc, h b hc]
  | .sl b o n (.ex c), hc => by
    simp only [V.inn] at hc
    simp only [V.rn, conc, h b hc]
  | .sl b o n (.op c), hc => by
    simp only [V.inn] at hc
    simp only [V.rn, conc, h b hc]
  | .sle b o k e, hc => by
    simp only [V.inn] at hc
    simp only [V.rn, conc, h b hc]
  | .mp b, hc => by
    simp only [V.inn] at hc
    simp only [V.rn, conc, h b hc]
  | .bool _, _ => rfl
  | .int _ _, _ => rfl
  | .str _, _ => rfl
  | .nilp, _ => rfl
  | .nils, _ => rfl
  | .nilm, _ => rfl
  | .nilf, _ => rfl
  | .nili, _ => rfl
  | .fn f a c, hc => by
    simp only [V.inn, Bool.and_eq_true] at hc
    simp only [V.rn, conc, concs_rn h a hc.1, concs_rn h c hc.2]
  | .ifc t v, hc => by
    simp only [V.inn] at hc
    simp only [V.rn, conc, conc_rn h v hc]
  | .agg l, hc => by
    simp only [V.inn] at hc
    simp only [V.rn, conc, concs_rn h l hc]
  | .tup l, hc => by
    simp only [V.inn] at hc
    simp only [V.rn, conc, concs_rn h l hc]
theorem concs_rn (h : ∀ b, p b = true → S (ρ b) = R b) : ∀ l : List V, inns p l = true → concs S (rns ρ l) = concs R l
  | [], _ => rfl
  | v :: l, hc => by
    simp only [inns, Bool.and_eq_true] at hc
    simp only [rns, concs, conc_rn h v hc.1, concs_rn h l hc.2]
end
theorem rns_get : ∀ (l : List V) (k : Nat), (rns ρ l)[k]? = (l[k]?).map (V.rn ρ)
  | [], k => by simp [rns]
  | v :: l, 0 => by simp [rns]
  | v :: l, k + 1 => by simpa [rns] using rns_get l k
theorem rns_length : ∀ (l : List V), (rns ρ l).length = l.length
  | [] => rfl
  | v :: l => by simp [rns, rns_length l]
theorem inns_get : ∀ {l : List V} {k : Nat} {v : V}, inns p l = true → l[k]? = some v → V.inn p v = true
  | [], k, v, _, h => by simp at h
  | u :: l, 0, v, hc, h => by
    simp only [inns, Bool.and_eq_true] at hc
    simp at h; subst h; exact hc.1
  | u :: l, k + 1, v, hc, h => by
    simp only [inns, Bool.and_eq_true] at hc
    exact inns_get hc.2 (by simpa using h)
def rnp (ρ : Nat → Nat) : List (V × V) → List (V × V)
  | [] => []
  | q :: l => (V.rn ρ q.1, V.rn ρ q.2) :: rnp ρ l
def innp (p : Nat → Bool) : List (V × V) → Bool
  | [] => true
  | q :: l => V.inn p q.1 && V.inn p q.2 && innp p l
def Blk.rn (ρ : Nat → Nat) : Blk → Blk
  | .cells l => .cells (rns ρ l)
  | .map l => .map (rnp ρ l)
  | .siter s q => .siter s q
  | .unit t => .unit t
def Blk.inn (p : Nat → Bool) : Blk → Bool
  | .cells l => inns p l
  | .map l => innp p l
  | .siter _ _ => true
  | .unit _ => true
theorem MapHolds.rn (h : ∀ b, p b = true → S (ρ b) = R b) : ∀ {l : List (V × V)} {es : List MapEntry}, innp p l = true → (MapHolds S (rnp ρ l) es ↔ MapHolds R l es)
  | [], [], _ => Iff.rfl
  | (a, b) :: l, e :: es, hc => by
    simp only [innp, Bool.and_eq_true] at hc
    simp only [rnp, MapHolds, conc_rn h a hc.1.1, conc_rn h b hc.1.2, MapHolds.rn h hc.2]
  | [], _ :: _, _ => Iff.rfl
  | _ :: _, [], _ => Iff.rfl
theorem Holds.rn (h : ∀ b, p b = true → S (ρ b) = R b) {s : Nat} {l : List V} {arr : Array Value} (hc : inns p l = true) : Holds S s (rns ρ l) arr ↔ Holds R s l arr := by
  constructor
  · intro hh k v hk
    obtain ⟨a, ha, h1, h2⟩ := hh k (V.rn ρ v) (by rw [rns_get, hk]; rfl)
    exact ⟨a, (conc_rn h v (inns_get hc hk)).symm.trans ha, h1, h2⟩
  · intro hh k v hk
    rw [rns_get, Option.map_eq_some_iff] at hk
    obtain ⟨u, hu, rfl⟩ := hk
    obtain ⟨a, ha, h1, h2⟩ := hh k u hu
    exact ⟨a, (conc_rn h u (inns_get hc hu)).trans ha, h1, h2⟩
theorem OwnOk.rn (h : ∀ b, p b = true → S (ρ b) = R b) {i : BI} {b : Blk} {w : World} (hc : b.inn p = true) : OwnOk S i (b.rn ρ) w ↔ OwnOk R i b w := by
  cases b with
  | cells l =>
    have e := @Holds.rn R S p ρ h i.shift l
    constructor
    · rintro ⟨arr, el, lo, hi, h1, h2, h3, h4, h5⟩
      exact ⟨arr, el, lo, hi, h1, (e hc).1 h2, h3, by rw [rns_length] at h4; exact h4, h5⟩
    · rintro ⟨arr, el, lo, hi, h1, h2, h3, h4, h5⟩
      exact ⟨arr, el, lo, hi, h1, (e hc).2 h2, h3, by rw [rns_length]; exact h4, h5⟩
  | map l =>
    constructor
    · rintro ⟨es, clock, h1, h2⟩
      exact ⟨es, clock, h1, (MapHolds.rn h hc).1 h2⟩
    · rintro ⟨es, clock, h1, h2⟩
      exact ⟨es, clock, h1, (MapHolds.rn h hc).2 h2⟩
  | siter s q => exact Iff.rfl
  | unit t => exact Iff.rfl
end

/-! ### what a call does at few blocks -/
structure Few where
  n0 : Nat
  args : List V
  bl0 : List (Nat × Blk)
  v : V
  n1 : Nat
  bl1 : List (Nat × Blk)
def domB (l : List (Nat × Blk)) (b : Nat) : Bool := match lookF l b with
  | some _ => true
  | none => false
def allIds (l : List (Nat × Blk)) (q : Nat → Bool) : Bool := l.all fun x => q x.1
def allBl (l : List (Nat × Blk)) (q : Nat → Bool) : Bool := l.all fun x => x.2.inn q
def Few.right (ng : Nat) (F : List V → H → Ans) (e : Few) : Bool := match F e.args ⟨e.n0, e.bl0⟩ with
  | some (v, σ) => V.beq v e.v && (inBl e.bl1 σ.bl && (Nat.beq σ.next e.n1 && (Nat.ble e.n0 e.n1 && (Nat.ble ng e.n0 && (allIds e.bl0 (fun b => Nat.ble ng b && Nat.blt b e.n0) && (allBl e.bl0 (domB e.bl0) && (inns (domB e.bl0) e.args &&
      (allIds e.bl1 (fun b => Nat.ble e.n0 b || domB e.bl0 b) && (allBl e.bl1 (domB e.bl1) && V.inn (domB e.bl1) e.v)))))))))
  | none => false
def Few.to (e : Few) (ρ : Nat → Nat) (σ : H) (id : Nat) : Nat := if id < e.n0 then ρ id else id - e.n0 + σ.next
def rnBl (ρ : Nat → Nat) (l : List (Nat × Blk)) : List (Nat × Blk) := l.map fun x => (ρ x.1, x.2.rn ρ)
def Few.old (e : Few) (ρ : Nat → Nat) (id : Nat) : Bool := e.bl0.any fun x => Nat.beq (ρ x.1) id
def Few.ans (e : Few) (ρ : Nat → Nat) (σ : H) : V × H := (e.v.rn (e.to ρ σ), ⟨σ.next + (e.n1 - e.n0), rnBl (e.to ρ σ) e.bl1 ++ σ.bl.filter fun x => !e.old ρ x.1⟩)
structure Few.Fits (e : Few) (ρ : Nat → Nat) (args : List V) (σ : H) : Prop where
  args : args = rns ρ e.args
  bl : ∀ id b, look e.bl0 id = some b → look σ.bl (ρ id) = some (b.rn ρ)
  inj : ∀ id id', domB e.bl0 id = true → domB e.bl0 id' = true → ρ id = ρ id' → id = id'

theorem domB_iff {l : List (Nat × Blk)} {b : Nat} : domB l b = true ↔ ∃ c, look l b = some c := by
  unfold domB; rw [lookF_eq]
  cases look l b <;> simp
theorem allIds_look {l : List (Nat × Blk)} {q : Nat → Bool} (h : allIds l q = true) {id : Nat} {b : Blk} (hb : look l id = some b) : q id = true := by
  have := List.all_eq_true.1 h (id, b) (look_mem hb)
  exact this
theorem allBl_look {l : List (Nat × Blk)} {q : Nat → Bool} (h : allBl l q = true) {id : Nat} {b : Blk} (hb : look l id = some b) : b.inn q = true := by
  have := List.all_eq_true.1 h (id, b) (look_mem hb)
  exact this
theorem look_rnBl {ρ : Nat → Nat} : ∀ {l : List (Nat × Blk)} {id : Nat} {b : Blk}, look (rnBl ρ l) id = some b → ∃ k c, (k, c) ∈ l ∧ id = ρ k ∧ b = c.rn ρ
  | [], id, b, h => by cases h
  | (k, c) :: l, id, b, h => by
    simp only [rnBl, List.map_cons, look] at h
    split at h
    · rename_i he
      have he := Nat.eq_of_beq_eq_true he
      simp only [Option.some.injEq] at h
      exact ⟨k, c, List.mem_cons_self, he.symm, h.symm⟩
    · obtain ⟨k', c', h1, h2, h3⟩ := look_rnBl (l := l) h
      exact ⟨k', c', List.mem_cons_of_mem _ h1, h2, h3⟩
theorem look_filter {q : Nat → Bool} : ∀ (l : List (Nat × Blk)) (id : Nat), look (l.filter fun x => q x.1) id = if q id = true then look l id else none
  | [], id => by simp [look]
  | (k, c) :: l, id => by
    by_cases hq : q k = true
    · rw [List.filter_cons_of_pos (by exact hq)]
      simp only [look, look_filter l id]
      by_cases hk : Nat.beq k id = true
      · have := Nat.eq_of_beq_eq_true hk; subst this
        simp [hq]
      · simp [hk]
    · rw [List.filter_cons_of_neg (by exact hq), look_filter l id]
      simp only [look]
      by_cases hk : Nat.beq k id = true
      · have := Nat.eq_of_beq_eq_true hk; subst this
        simp [hq]
      · simp [hk]
theorem old_iff {e : Few} {ρ : Nat → Nat} {id : Nat} : e.old ρ id = true ↔ ∃ k c, (k, c) ∈ e.bl0 ∧ ρ k = id := by
  unfold Few.old
  rw [List.any_eq_true]
  constructor
  · rintro ⟨⟨k, c⟩, h1, h2⟩; exact ⟨k, c, h1, Nat.eq_of_beq_eq_true h2⟩
  · rintro ⟨k, c, h1, h2⟩; exact ⟨(k, c), h1, by subst h2; exact Nat.beq_refl _⟩
theorem dom_of_mem : ∀ {l : List (Nat × Blk)} {k : Nat} {c : Blk}, (k, c) ∈ l → ∃ d, look l k = some d
  | (j, d) :: l, k, c, h => by
    simp only [look]
    by_cases hk : Nat.beq j k = true
    · exact ⟨d, by simp [hk]⟩
    · simp only [hk]
      rcases List.mem_cons.1 h with h | h
      · cases h; exact (hk (Nat.beq_refl _)).elim
      · simpa using dom_of_mem h

theorem loc_ok {P : Program} {G : Nat → Bool} {f : FuncId} {F : List V → H → Ans} (hS : SoundFn P [] G f F) {ng : Nat} (hG : ∀ g, G g = true → g < ng) {e : Few} (h : e.right ng F = true)
    {C : Cx} (hGC : C.G = G) {R : Ren} {σ : H} {w : World} {args : List V} {xs : List Value} {ρ : Nat → Nat} (hm : e.Fits ρ args σ) (hrel : Rel C R σ w) (hxs : concs R args = some xs) :
    callOk P f = true ∧ Calls P f xs.toArray w fun en w' => ∃ R' x, Ext σ.next R R' ∧ σ.next ≤ (e.ans ρ σ).2.next ∧ Rel C R' (e.ans ρ σ).2 w' ∧ conc R' (e.ans ρ σ).1 = some x ∧ en = .returned x := by
  unfold Few.right at h
  cases hr : F e.args ⟨e.n0, e.bl0⟩ with
  | none => rw [hr] at h; cases h
  | some q =>
    obtain ⟨v, σ1⟩ := q
    rw [hr] at h
    simp only [Bool.and_eq_true, Nat.ble_eq] at h
    obtain ⟨hv, hin, hnx, hn01, hng, hi0, hb0, ha0, hi1, hb1, hv1⟩ := h
    have hv := beq_ok _ _ hv
    subst hv
    have hin := inBl_ok hin
    have hnx := Nat.eq_of_beq_eq_true hnx
    -- where the few blocks lie
    let R0 : Ren := fun id => match domB e.bl0 id with
      | true => R (ρ id)
      | false => if id < ng then some ⟨id, 0, 0⟩ else none
    have hR0 : ∀ b, domB e.bl0 b = true → R (ρ b) = R0 b := fun b hb => by
      show R (ρ b) = (match domB e.bl0 b with | true => R (ρ b) | false => _)
      rw [hb]
    have hlt0 : ∀ {id b}, look e.bl0 id = some b → ng ≤ id ∧ id < e.n0 := fun hb => by
      have := allIds_look hi0 hb
      simpa [Nat.blt_eq] using this
    have hxs0 : concs R0 e.args = some xs := by
      rw [hm.args, concs_rn hR0 _ ha0] at hxs; exact hxs
    have own0 : ∀ id b, look e.bl0 id = some b → ∃ i, R (ρ id) = some i ∧ R0 id = some i ∧ C.O i.blk ∧ OwnOk R0 i b w := fun id b hb => by
      obtain ⟨i, hi, hO, hok⟩ := hrel.own _ _ (hm.bl id b hb)
      exact ⟨i, hi, (hR0 id (domB_iff.2 ⟨_, hb⟩)).symm.trans hi, hO, (OwnOk.rn hR0 (allBl_look hb0 hb)).1 hok⟩
    let O0 : Nat → Prop := fun blk => (∃ id b i, look e.bl0 id = some b ∧ R (ρ id) = some i ∧ i.blk = blk) ∨ w.heap.size ≤ blk
    have hrel0 : Rel ⟨O0, w, [], G⟩ R0 ⟨e.n0, e.bl0⟩ w := by
      refine ⟨?_, ?_, ?_, fun id b hb => by simp [look] at hb, ?_, fun _ _ => rfl, Nat.le_refl _, fun blk hb => .inr hb, rfl, rfl, rfl⟩
      · intro id hid
        have hid' : e.n0 ≤ id := hid
        have hd : domB e.bl0 id = false := by
          cases hc : domB e.bl0 id with
          | false => rfl
          | true =>
            obtain ⟨b, hb⟩ := domB_iff.1 hc
            have := (hlt0 hb).2; omega
        show (match domB e.bl0 id with | true => R (ρ id) | false => _) = none
        rw [hd]
        exact if_neg (by omega)
      · intro id b hb
        obtain ⟨i, hi, hi0', _, hok⟩ := own0 id b hb
        exact ⟨i, hi0', .inl ⟨id, b, i, hb, hi, rfl⟩, hok⟩
      · intro id id' b b' i i' hb hb' hi hi' hbl
        obtain ⟨j, hj, hj0, _, _⟩ := own0 id b hb
        obtain ⟨j', hj', hj0', _, _⟩ := own0 id' b' hb'
        rw [hj0] at hi; cases hi
        rw [hj0'] at hi'; cases hi'
        exact hm.inj id id' (domB_iff.2 ⟨_, hb⟩) (domB_iff.2 ⟨_, hb'⟩) (hrel.inj _ _ _ _ _ _ (hm.bl _ _ hb) (hm.bl _ _ hb') hj hj' hbl)
      · intro g hg
        have hgn := hG g hg
        refine ⟨⟨g, 0, 0⟩, ?_, rfl, rfl⟩
        have hd : domB e.bl0 g = false := by
          cases hc : domB e.bl0 g with
          | false => rfl
          | true =>
            obtain ⟨b, hb⟩ := domB_iff.1 hc
            have := (hlt0 hb).1; omega
        show (match domB e.bl0 g with | true => R (ρ g) | false => _) = _
        rw [hd]
        exact if_pos hgn
    obtain ⟨hok, hc⟩ := hS ⟨O0, w, [], G⟩ rfl rfl R0 ⟨e.n0, e.bl0⟩ w e.args xs _ σ1 hr hrel0 hxs0
    refine ⟨hok, hc.mono ?_⟩
    rintro en w' ⟨R1, x, hE1, _, h3, h4, rfl⟩
    have hE1 : ∀ id, id < e.n0 → R1 id = R0 id := hE1
    have keep : ∀ blk, ¬ O0 blk → w'.heap[blk]? = w.heap[blk]? := fun blk hb => h3.fr blk hb
    let R' : Ren := fun id => if id < σ.next then R id else R1 (id - σ.next + e.n0)
    have hext : Ext σ.next R R' := fun id hid => by show (if id < σ.next then _ else _) = _; rw [if_pos hid]
    have hle : Le R R' := hext.le hrel.fresh
    have hto : ∀ b, domB e.bl1 b = true → R' (e.to ρ σ b) = R1 b := fun b hb => by
      obtain ⟨c, hc1⟩ := domB_iff.1 hb
      have hid := allIds_look hi1 hc1
      unfold Few.to
      by_cases hl : b < e.n0
      · rw [if_pos hl]
        have hd : domB e.bl0 b = true := by
          simp only [Bool.or_eq_true, Nat.ble_eq] at hid
          rcases hid with h | h
          · omega
          · exact h
        obtain ⟨c0, hc0⟩ := domB_iff.1 hd
        have hlt := hrel.next_of_own (hm.bl b c0 hc0)
        rw [hext _ hlt, hE1 b hl, hR0 b hd]
      · rw [if_neg hl]
        show (if b - e.n0 + σ.next < σ.next then _ else R1 (b - e.n0 + σ.next - σ.next + e.n0)) = _
        rw [if_neg (by omega)]
        congr 1; omega
    -- blocks of the answer
    have hnew : ∀ {id b}, look (rnBl (e.to ρ σ) e.bl1) id = some b → ∃ k c i, id = e.to ρ σ k ∧ look σ1.bl k = some c ∧ R1 k = some i ∧ R' id = some i ∧ O0 i.blk ∧ C.O i.blk ∧ OwnOk R' i b w' := fun {id b} hb => by
      obtain ⟨k, c, hk, rfl, rfl⟩ := look_rnBl hb
      have hl1 := hin (k, c) hk
      obtain ⟨d, hd⟩ := dom_of_mem hk
      have hdb : domB e.bl1 k = true := domB_iff.2 ⟨_, hd⟩
      obtain ⟨i, hi, hO, hok'⟩ := h3.own k c hl1
      have hcin : c.inn (domB e.bl1) = true := List.all_eq_true.1 hb1 (k, c) hk
      refine ⟨k, c, i, rfl, hl1, hi, (hto k hdb).trans hi, hO, ?_, (OwnOk.rn hto hcin).2 hok'⟩
      rcases hO with ⟨id', b', i', hb', hi', heq⟩ | hO
      · obtain ⟨j, hj, _, hOj, _⟩ := own0 id' b' hb'
        rw [hj] at hi'; cases hi'
        rw [← heq]; exact hOj
      · exact hrel.new _ (Nat.le_trans hrel.size hO)
    have hrest : ∀ {id b}, look (σ.bl.filter fun x => !e.old ρ x.1) id = some b → id < σ.next ∧ look σ.bl id = some b ∧ e.old ρ id = false := fun {id b} hb => by
      rw [look_filter (q := fun k => !e.old ρ k)] at hb
      split at hb
      · rename_i hq
        exact ⟨hrel.next_of_own hb, hb, by simpa using hq⟩
      · cases hb
    have hkeep : ∀ {id b i}, look σ.bl id = some b → e.old ρ id = false → R id = some i → ¬ O0 i.blk := fun {id b i} hb ho hi hO => by
      obtain ⟨j, hj, _, hok'⟩ := hrel.own id b hb
      rw [hi] at hj; cases hj
      rcases hO with ⟨id', b', i', hb', hi', heq⟩ | hO
      · have := hrel.inj _ _ _ _ _ _ hb (hm.bl id' b' hb') hi hi' heq.symm
        have : e.old ρ id = true := old_iff.2 ⟨id', b', look_mem hb', this.symm⟩
        rw [this] at ho; cases ho
      · have := hok'.lt; omega
    have hsplit : ∀ {id b}, look (rnBl (e.to ρ σ) e.bl1 ++ σ.bl.filter fun x => !e.old ρ x.1) id = some b → look (rnBl (e.to ρ σ) e.bl1) id = some b ∨ (id < σ.next ∧ look σ.bl id = some b ∧ e.old ρ id = false) := fun {id b} hb => by
      rw [look_app] at hb
      cases hs : look (rnBl (e.to ρ σ) e.bl1) id with
      | some c => rw [hs] at hb; exact .inl hb
      | none => rw [hs] at hb; exact .inr (hrest hb)
    refine ⟨R', x, hext, Nat.le_add_right _ _, ⟨?_, ?_, ?_, ?_, ?_, ?_, Nat.le_trans hrel.size h3.size, hrel.new, h3.os.trans hrel.os, h3.tape.trans hrel.tape, h3.output.trans hrel.output⟩, (conc_rn hto _ hv1).trans h4, rfl⟩
    · intro id hid
      have hid' : σ.next + (e.n1 - e.n0) ≤ id := hid
      show (if id < σ.next then _ else R1 (id - σ.next + e.n0)) = none
      rw [if_neg (by omega)]
      exact h3.fresh _ (by rw [hnx]; omega)
    · intro id b hb
      rcases hsplit hb with hb | ⟨hl, hb, ho⟩
      · obtain ⟨k, c, i, _, _, _, hi, _, hO, hok'⟩ := hnew hb
        exact ⟨i, hi, hO, hok'⟩
      · obtain ⟨i, hi, hO, hok'⟩ := hrel.own id b hb
        exact ⟨i, hle _ _ hi, hO, hok'.mono hle (keep _ (hkeep hb ho hi))⟩
    · intro id id' b b' i i' hb hb' hi hi' hbl
      have olds : ∀ {id b i}, look σ.bl id = some b → R' id = some i → R id = some i := fun {id b i} hb hi => by
        obtain ⟨j, hj, _, _⟩ := hrel.own id b hb
        have := hle _ _ hj
        rw [hi] at this; cases this
        exact hj
      rcases hsplit hb with hb | ⟨hl, hb, ho⟩ <;> rcases hsplit hb' with hb' | ⟨hl', hb', ho'⟩
      · obtain ⟨k, c, j, h1, h5, h6, h7, _⟩ := hnew hb
        obtain ⟨k', c', j', h1', h5', h6', h7', _⟩ := hnew hb'
        rw [h7] at hi; cases hi
        rw [h7'] at hi'; cases hi'
        have := h3.inj k k' c c' _ _ h5 h5' h6 h6' hbl
        rw [h1, h1', this]
      · obtain ⟨k, c, j, h1, h5, h6, h7, h8, _⟩ := hnew hb
        rw [h7] at hi; cases hi
        have hR := olds hb' hi'
        exact (hkeep hb' ho' hR (hbl ▸ h8)).elim
      · obtain ⟨k, c, j, h1, h5, h6, h7, h8, _⟩ := hnew hb'
        rw [h7] at hi'; cases hi'
        have hR := olds hb hi
        exact (hkeep hb ho hR (hbl ▸ h8)).elim
      · exact hrel.inj id id' b b' i i' hb hb' (olds hb hi) (olds hb' hi') hbl
    · intro id b hb
      obtain ⟨i, hi, hO, hok'⟩ := hrel.ext id b hb
      refine ⟨i, hle _ _ hi, hO, hok'.mono hle (keep _ ?_)⟩
      rintro (⟨id', b', i', hb', hi', heq⟩ | hn)
      · obtain ⟨j, hj, _, hOj, _⟩ := own0 id' b' hb'
        rw [hj] at hi'; cases hi'
        exact hO (heq ▸ hOj)
      · have := hok'.lt; omega
    · intro g hg
      obtain ⟨i, hi, hb⟩ := hrel.glob g hg
      exact ⟨i, hle _ _ hi, hb⟩
    · intro blk hn
      rw [← hrel.fr blk hn]
      refine keep blk ?_
      rintro (⟨id', b', i', hb', hi', heq⟩ | hn')
      · obtain ⟨j, hj, _, hOj, _⟩ := own0 id' b' hb'
        rw [hj] at hi'; cases hi'
        exact hn (heq ▸ hOj)
      · exact hn (hrel.new _ (Nat.le_trans hrel.size hn'))

/-- Where what is called fits a known one, that one's answer. -/
def locF (l : List Few) (F : List V → H → Ans) : List V → H → Ans := fun args σ => by
  classical
  exact if h : ∃ q : Few × (Nat → Nat), q.1 ∈ l ∧ q.1.Fits q.2 args σ then some ((Classical.choose h).1.ans (Classical.choose h).2 σ) else F args σ
theorem locF_hit {l : List Few} {F : List V → H → Ans} {args : List V} {σ : H} {e : Few} {ρ : Nat → Nat} (he : e ∈ l) (hm : e.Fits ρ args σ) :
    ∃ e' ρ', e' ∈ l ∧ e'.Fits ρ' args σ ∧ locF l F args σ = some (e'.ans ρ' σ) := by
  have h : ∃ q : Few × (Nat → Nat), q.1 ∈ l ∧ q.1.Fits q.2 args σ := ⟨(e, ρ), he, hm⟩
  refine ⟨(Classical.choose h).1, (Classical.choose h).2, (Classical.choose_spec h).1, (Classical.choose_spec h).2, ?_⟩
  unfold locF
  exact dif_pos h
theorem locF_ok {P : Program} {G : Nat → Bool} {f : FuncId} {F F' : List V → H → Ans} {E : List (Nat × Blk)} (hF : SoundFn P E G f F) (hF' : SoundFn P [] G f F') {ng : Nat} (hG : ∀ g, G g = true → g < ng) {l : List Few} (hl : ∀ e ∈ l, e.right ng F' = true) : SoundFn P E G f (locF l F) := by
  intro C hE hGC R σ w args xs v σ' hr hrel hxs
  unfold locF at hr
  split at hr
  · rename_i h
    simp only [Option.some.injEq] at hr
    have := loc_ok hF' hG (hl _ (Classical.choose_spec h).1) hGC (Classical.choose_spec h).2 hrel hxs
    rw [hr] at this
    exact this
  · exact hF C hE hGC R σ w args xs v σ' hr hrel hxs
end
end Go.Og
set_option linter.all false
namespace Go.Og
noncomputable section
/-- The heap holds these blocks, under other numbers. -/
def Has (l : List (Nat × Blk)) (ρ : Nat → Nat) (σ : H) : Prop := ∀ id b, look l id = some b → lookF σ.bl (ρ id) = some (b.rn ρ)
def Inj (l : List (Nat × Blk)) (ρ : Nat → Nat) : Prop := ∀ id id', domB l id = true → domB l id' = true → ρ id = ρ id' → id = id'
theorem fits_of {e : Few} {ρ : Nat → Nat} {args : List V} {σ : H} (ha : args = rns ρ e.args) (hb : Has e.bl0 ρ σ) (hi : Inj e.bl0 ρ) : e.Fits ρ args σ :=
  ⟨ha, fun id b h => by rw [← lookF_eq]; exact hb id b h, hi⟩
/-- The numbers of an entry are as they should be. -/
def Few.shape (e : Few) : Bool := allIds e.bl0 (fun b => Nat.blt b e.n0) && (allIds e.bl1 (fun b => (Nat.ble e.n0 b || domB e.bl0 b) && Nat.blt b e.n1) && Nat.ble e.n0 e.n1)
section
variable {e : Few} {ρ : Nat → Nat} {args : List V} {σ : H}
theorem Few.shape0 (h : e.shape = true) {id : Nat} (hd : domB e.bl0 id = true) : id < e.n0 := by
  unfold Few.shape at h
  simp only [Bool.and_eq_true] at h
  obtain ⟨c, hc⟩ := domB_iff.1 hd
  simpa [Nat.blt_eq] using allIds_look h.1 hc
theorem Few.shape1 (h : e.shape = true) {id : Nat} (hd : domB e.bl1 id = true) : id < e.n1 ∧ (e.n0 ≤ id ∨ domB e.bl0 id = true) := by
  unfold Few.shape at h
  simp only [Bool.and_eq_true] at h
  obtain ⟨c, hc⟩ := domB_iff.1 hd
  have := allIds_look h.2.1 hc
  simp only [Bool.and_eq_true, Bool.or_eq_true, Nat.ble_eq, Nat.blt_eq] at this
  exact ⟨this.2, this.1⟩
theorem Few.shapeN (h : e.shape = true) : e.n0 ≤ e.n1 := by
  unfold Few.shape at h
  simp only [Bool.and_eq_true, Nat.ble_eq] at h
  exact h.2.2
theorem Few.Fits.lt (hm : e.Fits ρ args σ) (ht : Tidy σ) {id : Nat} (hd : domB e.bl0 id = true) : ρ id < σ.next := by
  obtain ⟨c, hc⟩ := domB_iff.1 hd
  have h := hm.bl id c hc
  rcases Nat.lt_or_ge (ρ id) σ.next with hl | hl
  · exact hl
  · have := ht _ hl; rw [lookF_eq, h] at this; cases this
theorem Few.to_inj (hs : e.shape = true) (hm : e.Fits ρ args σ) (ht : Tidy σ) : Inj e.bl1 (e.to ρ σ) := by
  intro id id' hd hd' h
  have h1 := (Few.shape1 hs hd).2
  have h2 := (Few.shape1 hs hd').2
  unfold Few.to at h
  by_cases ha : id < e.n0
  · have hda : domB e.bl0 id = true := by rcases h1 with h1 | h1; omega; exact h1
    by_cases hb : id' < e.n0
    · have hdb : domB e.bl0 id' = true := by rcases h2 with h2 | h2; omega; exact h2
      rw [if_pos ha, if_pos hb] at h
      exact hm.inj _ _ hda hdb h
    · rw [if_pos ha, if_neg hb] at h
      have := hm.lt ht hda; omega
  · by_cases hb : id' < e.n0
    · have hdb : domB e.bl0 id' = true := by rcases h2 with h2 | h2; omega; exact h2
      rw [if_neg ha, if_pos hb] at h
      have := hm.lt ht hdb; omega
    · rw [if_neg ha, if_neg hb] at h; omega
theorem look_rn {l : List (Nat × Blk)} {τ : Nat → Nat} (hi : ∀ id id', domB l id = true → domB l id' = true → τ id = τ id' → id = id') : ∀ {m : List (Nat × Blk)} {id : Nat} {b : Blk}, (∀ x ∈ m, domB l x.1 = true) → look m id = some b → look (rnBl τ m) (τ id) = some (b.rn τ)
  | [], id, b, _, h => by cases h
  | (k, c) :: m, id, b, hm, h => by
    simp only [look] at h
    simp only [rnBl, List.map_cons, look]
    by_cases hk : Nat.beq k id = true
    · have := Nat.eq_of_beq_eq_true hk; subst this
      rw [if_pos hk] at h
      cases h
      rw [if_pos (Nat.beq_refl _)]
    · rw [if_neg hk] at h
      have hkd : domB l k = true := hm (k, c) List.mem_cons_self
      have hid : domB l id = true := hm (id, b) (List.mem_cons_of_mem _ (look_mem h))
      rw [if_neg (fun hh => hk (by have := hi k id hkd hid (Nat.eq_of_beq_eq_true hh); subst this; exact Nat.beq_refl _))]
      exact look_rn hi (fun x hx => hm x (List.mem_cons_of_mem _ hx)) h
theorem Few.has (hs : e.shape = true) (hm : e.Fits ρ args σ) (ht : Tidy σ) : Has e.bl1 (e.to ρ σ) (e.ans ρ σ).2 := by
  intro id b hb
  show lookF (rnBl (e.to ρ σ) e.bl1 ++ σ.bl.filter fun x => !e.old ρ x.1) _ = _
  rw [lookF_eq, look_app]
  rw [look_rn (l := e.bl1) (Few.to_inj hs hm ht) (fun x hx => by
    obtain ⟨d, hd⟩ := dom_of_mem (k := x.1) (c := x.2) hx
    exact domB_iff.2 ⟨_, hd⟩) hb]
theorem Few.fr (hs : e.shape = true) (hm : e.Fits ρ args σ) (ht : Tidy σ) : Fr (fun b => e.old ρ b = true) σ (e.ans ρ σ).2 := by
  have hn := Few.shapeN hs
  refine ⟨fun b hb => ?_, Nat.le_add_right _ _, fun b hb hS => ?_⟩
  · have hb' : σ.next + (e.n1 - e.n0) ≤ b := hb
    show lookF (rnBl (e.to ρ σ) e.bl1 ++ σ.bl.filter fun x => !e.old ρ x.1) b = none
    rw [lookF_eq, look_app]
    cases hc : look (rnBl (e.to ρ σ) e.bl1) b with
    | some c =>
      exfalso
      obtain ⟨k, c', hk, he, _⟩ := look_rnBl hc
      obtain ⟨d, hd⟩ := dom_of_mem hk
      have hkd := Few.shape1 hs (domB_iff.2 ⟨d, hd⟩)
      unfold Few.to at he
      by_cases hl : k < e.n0
      · rw [if_pos hl] at he
        have hda : domB e.bl0 k = true := by rcases hkd.2 with h | h; omega; exact h
        have := hm.lt ht hda; omega
      · rw [if_neg hl] at he
        have := hkd.1; omega
    | none =>
      simp only []
      rw [look_filter (q := fun k => !e.old ρ k)]
      split
      · rw [← lookF_eq]; exact ht b (by omega)
      · rfl
  · show lookF (rnBl (e.to ρ σ) e.bl1 ++ σ.bl.filter fun x => !e.old ρ x.1) b = _
    rw [lookF_eq, look_app]
    cases hc : look (rnBl (e.to ρ σ) e.bl1) b with
    | some c =>
      exfalso
      obtain ⟨k, c', hk, he, _⟩ := look_rnBl hc
      obtain ⟨d, hd⟩ := dom_of_mem hk
      have hkd := Few.shape1 hs (domB_iff.2 ⟨d, hd⟩)
      unfold Few.to at he
      by_cases hl : k < e.n0
      · rw [if_pos hl] at he
        have hda : domB e.bl0 k = true := by rcases hkd.2 with h | h; omega; exact h
        obtain ⟨c0, hc0⟩ := domB_iff.1 hda
        exact hS (old_iff.2 ⟨k, c0, look_mem hc0, he.symm⟩)
      · rw [if_neg hl] at he; omega
    | none =>
      simp only []
      rw [look_filter (q := fun k => !e.old ρ k), if_pos (by
        cases ho : e.old ρ b with
        | true => exact (hS ho).elim
        | false => rfl), lookF_eq]
theorem Few.tidy (hs : e.shape = true) (hm : e.Fits ρ args σ) (ht : Tidy σ) : Tidy (e.ans ρ σ).2 := (Few.fr hs hm ht).tidy
/-- What one heap holds a later one holds, if nothing of it has turned. -/
theorem Has.fr {l : List (Nat × Blk)} {S : Nat → Prop} {σ σ' : H} (h : Has l ρ σ) (f : Fr S σ σ') (ht : Tidy σ) (hS : ∀ id, domB l id = true → ¬ S (ρ id)) : Has l ρ σ' := fun id b hb => by
  have h1 := h id b hb
  have hlt : ρ id < σ.next := by
    rcases Nat.lt_or_ge (ρ id) σ.next with hl | hl
    · exact hl
    · have := ht _ hl; rw [h1] at this; cases this
  rw [f.same _ hlt (hS id (domB_iff.2 ⟨_, hb⟩))]
  exact h1
theorem Has.lt {l : List (Nat × Blk)} {σ : H} (h : Has l ρ σ) (ht : Tidy σ) {id : Nat} (hd : domB l id = true) : ρ id < σ.next := by
  obtain ⟨c, hc⟩ := domB_iff.1 hd
  have h1 := h id c hc
  rcases Nat.lt_or_ge (ρ id) σ.next with hl | hl
  · exact hl
  · have := ht _ hl; rw [h1] at this; cases this
end
end
end Go.Og
set_option linter.all false
set_option maxRecDepth 100000
set_option maxHeartbeats 0
namespace Go.Proofs.YtdfgcokapncaiaaGreatDoor
open Go Go.Og
noncomputable section
def t0 : BS := ⟨62, 54587738091573229668102065803883576158056086505522375198882813406261465456683832757570236346346394289095007491148526506889332126255556727757022175309⟩
def t1 : BS := ⟨60, 125196985422296024755087087882495889236356511176722189805258665138041362464958182108137022199165723474008053044155539243043665186791301727920205⟩
def eNew : Few := ⟨100, [],
  [],
  .ptr 100 0, 101,
  [(100, .cells [.nils])]⟩
theorem eNew_right : eNew.right 8 ((DT [] 100000 60) 5) = true := by kernel_rfl
theorem eNew_shape : eNew.shape = true := by kernel_rfl
def eAw : Few := ⟨100, [],
  [],
  .bool true, 500,
  []⟩
theorem eAw_right : eAw.right 8 ((DT [] 100000 60) 4) = true := by kernel_rfl
theorem eAw_shape : eAw.shape = true := by kernel_rfl
def eReg : Few := ⟨100, [.ptr 50 0, .str t0],
  [(50, .cells [.nils])],
  .tup [.int .i64 (Int.ofNat 1), .int .i64 (Int.ofNat 0), .int .i64 (Int.ofNat 0)], 347,
  [(50, .cells [.sl 325 0 1 (.op 2)]),
  (259, .cells [.str ⟨1, 65⟩]),
  (261, .cells [.int .i64 (Int.ofNat 0), .int .i64 (Int.ofNat 2)]),
  (274, .cells [.int .i64 (Int.ofNat 2), .sl 261 0 1 (.ex 1), .bool true, .bool true, .bool true, .bool false, .int .i64 (Int.ofNat 5), .int .i64 (Int.ofNat 5), .nils, .nils, .int .i64 (Int.ofNat 0), .bool false, .int .i64 (Int.ofNat 0)]),
  (280, .cells [.int .i64 (Int.ofNat 0)]),
  (325, .cells [.str ⟨1, 77⟩, .sl 346 0 1 (.op 6)]),
  (346, .cells [.int .i64 (Int.ofNat 1), .str t1, .str ⟨1, 77⟩, .sl 259 0 1 (.op 1), .sl 280 0 1 (.op 1), .sl 274 0 1 (.op 13)])]⟩
theorem eReg_right : eReg.right 8 ((DT [] 100000 60) 6) = true := by kernel_rfl
theorem eReg_shape : eReg.shape = true := by kernel_rfl
def eReg2 : Few := ⟨100, [.ptr 50 0, .str t1],
  [(50, .cells [.nils])],
  .tup [.int .i64 (Int.ofNat 1), .int .i64 (Int.ofNat 0), .int .i64 (Int.ofNat 0)], 338,
  [(50, .cells [.sl 316 0 1 (.op 2)]),
  (250, .cells [.str ⟨1, 65⟩]),
  (252, .cells [.int .i64 (Int.ofNat 0), .int .i64 (Int.ofNat 2)]),
  (265, .cells [.int .i64 (Int.ofNat 2), .sl 252 0 1 (.ex 1), .bool true, .bool true, .bool true, .bool false, .int .i64 (Int.ofNat 5), .int .i64 (Int.ofNat 5), .nils, .nils, .int .i64 (Int.ofNat 0), .bool false, .int .i64 (Int.ofNat 0)]),
  (271, .cells [.int .i64 (Int.ofNat 0)]),
  (316, .cells [.str ⟨1, 77⟩, .sl 337 0 1 (.op 6)]),
  (337, .cells [.int .i64 (Int.ofNat 1), .str t1, .str ⟨1, 77⟩, .sl 250 0 1 (.op 1), .sl 271 0 1 (.op 1), .sl 265 0 1 (.op 13)])]⟩
theorem eReg2_right : eReg2.right 8 ((DT [] 100000 60) 6) = true := by kernel_rfl
theorem eReg2_shape : eReg2.shape = true := by kernel_rfl
def eMake : Few := ⟨100, [.agg [.str ⟨1, 77⟩, .int .i64 (Int.ofNat 0), .sl 51 0 1 (.op 1), .sl 52 0 1 (.op 1), .sl 50 0 1 (.op 16)]],
  [(50, .cells [.int .i64 (Int.ofNat 2), .str ⟨0, 0⟩, .bool false, .int .i64 (Int.ofNat 0), .int .i64 (Int.ofNat 0), .bool true, .bool true, .bool true, .bool false, .int .i64 (Int.ofNat 5), .int .i64 (Int.ofNat 5), .nils, .nils, .int .i64 (Int.ofNat 0), .bool false, .int .i64 (Int.ofNat 0)]),
  (51, .cells [.str ⟨1, 65⟩]),
  (52, .cells [.int .i64 (Int.ofNat 0)])],
  .tup [.agg [.str ⟨1, 77⟩, .sl 162 0 1 (.op 1), .sl 183 0 1 (.op 1), .sl 177 0 1 (.op 13)], .int .i64 (Int.ofNat 0), .int .i64 (Int.ofNat 0)], 184,
  [(50, .cells [.int .i64 (Int.ofNat 2), .str ⟨0, 0⟩, .bool false, .int .i64 (Int.ofNat 0), .int .i64 (Int.ofNat 0), .bool true, .bool true, .bool true, .bool false, .int .i64 (Int.ofNat 5), .int .i64 (Int.ofNat 5), .nils, .nils, .int .i64 (Int.ofNat 0), .bool false, .int .i64 (Int.ofNat 0)]),
  (51, .cells [.str ⟨1, 65⟩]),
  (52, .cells [.int .i64 (Int.ofNat 0)]),
  (162, .cells [.str ⟨1, 65⟩]),
  (164, .cells [.int .i64 (Int.ofNat 0), .int .i64 (Int.ofNat 2)]),
  (177, .cells [.int .i64 (Int.ofNat 2), .sl 164 0 1 (.ex 1), .bool true, .bool true, .bool true, .bool false, .int .i64 (Int.ofNat 5), .int .i64 (Int.ofNat 5), .nils, .nils, .int .i64 (Int.ofNat 0), .bool false, .int .i64 (Int.ofNat 0)]),
  (183, .cells [.int .i64 (Int.ofNat 0)])]⟩
theorem eMake_right : eMake.right 8 ((DT [] 100000 60) 15) = true := by kernel_rfl
theorem eMake_shape : eMake.shape = true := by kernel_rfl
def ePrint : Few := ⟨100, [.agg [.str ⟨1, 77⟩, .int .i64 (Int.ofNat 0), .sl 51 0 1 (.op 1), .sl 52 0 1 (.op 1), .sl 50 0 1 (.op 16)]],
  [(50, .cells [.int .i64 (Int.ofNat 2), .str ⟨0, 0⟩, .bool false, .int .i64 (Int.ofNat 0), .int .i64 (Int.ofNat 0), .bool true, .bool true, .bool true, .bool false, .int .i64 (Int.ofNat 5), .int .i64 (Int.ofNat 5), .nils, .nils, .int .i64 (Int.ofNat 0), .bool false, .int .i64 (Int.ofNat 0)]),
  (51, .cells [.str ⟨1, 65⟩]),
  (52, .cells [.int .i64 (Int.ofNat 0)])],
  .str t1, 132,
  [(50, .cells [.int .i64 (Int.ofNat 2), .str ⟨0, 0⟩, .bool false, .int .i64 (Int.ofNat 0), .int .i64 (Int.ofNat 0), .bool true, .bool true, .bool true, .bool false, .int .i64 (Int.ofNat 5), .int .i64 (Int.ofNat 5), .nils, .nils, .int .i64 (Int.ofNat 0), .bool false, .int .i64 (Int.ofNat 0)]),
  (51, .cells [.str ⟨1, 65⟩]),
  (52, .cells [.int .i64 (Int.ofNat 0)])]⟩
theorem ePrint_right : ePrint.right 8 ((DT [] 100000 60) 16) = true := by kernel_rfl
theorem ePrint_shape : ePrint.shape = true := by kernel_rfl
def eMay : Few := ⟨351, [.ptr 50 0, .agg [.int .i64 (Int.ofNat 0), .str t1, .str ⟨1, 77⟩, .sl 347 0 1 (.op 1), .sl 348 0 1 (.op 1), .sl 349 0 1 (.op 13)]],
  [(50, .cells [.sl 325 0 1 (.op 2)]),
  (259, .cells [.str ⟨1, 65⟩]),
  (261, .cells [.int .i64 (Int.ofNat 0), .int .i64 (Int.ofNat 2)]),
  (274, .cells [.int .i64 (Int.ofNat 2), .sl 261 0 1 (.ex 1), .bool true, .bool true, .bool true, .bool false, .int .i64 (Int.ofNat 5), .int .i64 (Int.ofNat 5), .nils, .nils, .int .i64 (Int.ofNat 0), .bool false, .int .i64 (Int.ofNat 0)]),
  (280, .cells [.int .i64 (Int.ofNat 0)]),
  (325, .cells [.str ⟨1, 77⟩, .sl 346 0 1 (.op 6)]),
  (346, .cells [.int .i64 (Int.ofNat 1), .str t1, .str ⟨1, 77⟩, .sl 259 0 1 (.op 1), .sl 280 0 1 (.op 1), .sl 274 0 1 (.op 13)]),
  (347, .cells [.str ⟨1, 65⟩]),
  (348, .cells [.int .i64 (Int.ofNat 0)]),
  (349, .cells [.int .i64 (Int.ofNat 2), .sl 350 0 1 (.ex 1), .bool true, .bool true, .bool true, .bool false, .int .i64 (Int.ofNat 5), .int .i64 (Int.ofNat 5), .nils, .nils, .int .i64 (Int.ofNat 0), .bool false, .int .i64 (Int.ofNat 0)]),
  (350, .cells [.int .i64 (Int.ofNat 0), .int .i64 (Int.ofNat 2)])],
  .tup [.int .i64 (Int.ofNat 0), .int .i64 (Int.ofNat 8)], 355,
  [(50, .cells [.sl 325 0 1 (.op 2)]),
  (259, .cells [.str ⟨1, 65⟩]),
  (261, .cells [.int .i64 (Int.ofNat 0), .int .i64 (Int.ofNat 2)]),
  (274, .cells [.int .i64 (Int.ofNat 2), .sl 261 0 1 (.ex 1), .bool true, .bool true, .bool true, .bool false, .int .i64 (Int.ofNat 5), .int .i64 (Int.ofNat 5), .nils, .nils, .int .i64 (Int.ofNat 0), .bool false, .int .i64 (Int.ofNat 0)]),
  (280, .cells [.int .i64 (Int.ofNat 0)]),
  (325, .cells [.str ⟨1, 77⟩, .sl 346 0 1 (.op 6)]),
  (346, .cells [.int .i64 (Int.ofNat 1), .str t1, .str ⟨1, 77⟩, .sl 259 0 1 (.op 1), .sl 280 0 1 (.op 1), .sl 274 0 1 (.op 13)]),
  (347, .cells [.str ⟨1, 65⟩]),
  (348, .cells [.int .i64 (Int.ofNat 0)]),
  (349, .cells [.int .i64 (Int.ofNat 2), .sl 350 0 1 (.ex 1), .bool true, .bool true, .bool true, .bool false, .int .i64 (Int.ofNat 5), .int .i64 (Int.ofNat 5), .nils, .nils, .int .i64 (Int.ofNat 0), .bool false, .int .i64 (Int.ofNat 0)]),
  (350, .cells [.int .i64 (Int.ofNat 0), .int .i64 (Int.ofNat 2)])]⟩
theorem eMay_right : eMay.right 8 ((DT [] 100000 60) 10) = true := by kernel_rfl
theorem eMay_shape : eMay.shape = true := by kernel_rfl
def eF1 : Few := ⟨347, [.ptr 50 0, .str ⟨1, 77⟩, .int .i64 (Int.ofNat 1)],
  [(50, .cells [.sl 325 0 1 (.op 2)]),
  (259, .cells [.str ⟨1, 65⟩]),
  (261, .cells [.int .i64 (Int.ofNat 0), .int .i64 (Int.ofNat 2)]),
  (274, .cells [.int .i64 (Int.ofNat 2), .sl 261 0 1 (.ex 1), .bool true, .bool true, .bool true, .bool false, .int .i64 (Int.ofNat 5), .int .i64 (Int.ofNat 5), .nils, .nils, .int .i64 (Int.ofNat 0), .bool false, .int .i64 (Int.ofNat 0)]),
  (280, .cells [.int .i64 (Int.ofNat 0)]),
  (325, .cells [.str ⟨1, 77⟩, .sl 346 0 1 (.op 6)]),
  (346, .cells [.int .i64 (Int.ofNat 1), .str t1, .str ⟨1, 77⟩, .sl 259 0 1 (.op 1), .sl 280 0 1 (.op 1), .sl 274 0 1 (.op 13)])],
  .tup [.str t1, .int .i64 (Int.ofNat 0)], 349,
  [(50, .cells [.sl 325 0 1 (.op 2)]),
  (259, .cells [.str ⟨1, 65⟩]),
  (261, .cells [.int .i64 (Int.ofNat 0), .int .i64 (Int.ofNat 2)]),
  (274, .cells [.int .i64 (Int.ofNat 2), .sl 261 0 1 (.ex 1), .bool true, .bool true, .bool true, .bool false, .int .i64 (Int.ofNat 5), .int .i64 (Int.ofNat 5), .nils, .nils, .int .i64 (Int.ofNat 0), .bool false, .int .i64 (Int.ofNat 0)]),
  (280, .cells [.int .i64 (Int.ofNat 0)]),
  (325, .cells [.str ⟨1, 77⟩, .sl 346 0 1 (.op 6)]),
  (346, .cells [.int .i64 (Int.ofNat 1), .str t1, .str ⟨1, 77⟩, .sl 259 0 1 (.op 1), .sl 280 0 1 (.op 1), .sl 274 0 1 (.op 13)])]⟩
theorem eF1_right : eF1.right 8 ((DT [] 100000 60) 7) = true := by kernel_rfl
theorem eF1_shape : eF1.shape = true := by kernel_rfl
def eF2 : Few := ⟨338, [.ptr 50 0, .str ⟨1, 77⟩, .int .i64 (Int.ofNat 0)],
  [(50, .cells [.sl 316 0 1 (.op 2)]),
  (250, .cells [.str ⟨1, 65⟩]),
  (252, .cells [.int .i64 (Int.ofNat 0), .int .i64 (Int.ofNat 2)]),
  (265, .cells [.int .i64 (Int.ofNat 2), .sl 252 0 1 (.ex 1), .bool true, .bool true, .bool true, .bool false, .int .i64 (Int.ofNat 5), .int .i64 (Int.ofNat 5), .nils, .nils, .int .i64 (Int.ofNat 0), .bool false, .int .i64 (Int.ofNat 0)]),
  (271, .cells [.int .i64 (Int.ofNat 0)]),
  (316, .cells [.str ⟨1, 77⟩, .sl 337 0 1 (.op 6)]),
  (337, .cells [.int .i64 (Int.ofNat 1), .str t1, .str ⟨1, 77⟩, .sl 250 0 1 (.op 1), .sl 271 0 1 (.op 1), .sl 265 0 1 (.op 13)])],
  .tup [.str t1, .int .i64 (Int.ofNat 0)], 340,
  [(50, .cells [.sl 316 0 1 (.op 2)]),
  (250, .cells [.str ⟨1, 65⟩]),
  (252, .cells [.int .i64 (Int.ofNat 0), .int .i64 (Int.ofNat 2)]),
  (265, .cells [.int .i64 (Int.ofNat 2), .sl 252 0 1 (.ex 1), .bool true, .bool true, .bool true, .bool false, .int .i64 (Int.ofNat 5), .int .i64 (Int.ofNat 5), .nils, .nils, .int .i64 (Int.ofNat 0), .bool false, .int .i64 (Int.ofNat 0)]),
  (271, .cells [.int .i64 (Int.ofNat 0)]),
  (316, .cells [.str ⟨1, 77⟩, .sl 337 0 1 (.op 6)]),
  (337, .cells [.int .i64 (Int.ofNat 1), .str t1, .str ⟨1, 77⟩, .sl 250 0 1 (.op 1), .sl 271 0 1 (.op 1), .sl 265 0 1 (.op 13)])]⟩
theorem eF2_right : eF2.right 8 ((DT [] 100000 60) 7) = true := by kernel_rfl
theorem eF2_shape : eF2.shape = true := by kernel_rfl
def kn : List (Nat × List Few) := [(5, [eNew]), (4, [eAw]), (6, [eReg, eReg2]), (15, [eMake]), (16, [ePrint]), (10, [eMay]), (7, [eF1, eF2])]
end
end Go.Proofs.YtdfgcokapncaiaaGreatDoor
