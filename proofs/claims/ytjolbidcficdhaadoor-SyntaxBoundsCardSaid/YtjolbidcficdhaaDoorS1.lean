/- The functions of the program in their plain form. Printed by a program off the dump. -/
import Derived.Test.YtjolbidcficdhaaDoorOgX
import Derived.KernelRfl
set_option linter.all false
set_option maxRecDepth 100000
set_option maxHeartbeats 0
namespace Go.Proofs.YtjolbidcficdhaaDoor
open Go Go.Og
noncomputable section
/-! ### F49: ogham_lex.Word -/
def Fin49 (E : List (Nat × Blk)) : St → Ans := fun s => resK E s [(.tmp 2)] fun l => some (oneV l, s.σ)
def C49_0 (cc1 : XC) (cc2 : XC) : XC := (.seq (.ops (.op (some 2) .any [] (.mov (.con (V.bool false))) <|
 .nil))
 (.seq (.seq (.ops (.op (some 3) .any [0] (.mov (.tmp 0)) <|
 .nil))
 (.block 0 (.seq (.seq (.ops (.op (some 5) .any [3] (.bin .eql .none (.tmp 3) (.con (V.str ⟨11, 100710650190388740279911748⟩))) <|
 .op (some 4) .any [5] (.mov (.tmp 5)) <|
 .nil))
 (.cond (.tmp 4) .skip
 (.seq (.ops (.op (some 6) .any [3] (.bin .eql .none (.tmp 3) (.con (V.str ⟨8, 6073459554577832005⟩))) <|
 .op (some 4) .any [6] (.mov (.tmp 6)) <|
 .nil))
 (.cond (.tmp 4) .skip
 (.seq (.ops (.op (some 7) .any [3] (.bin .eql .none (.tmp 3) (.con (V.str ⟨8, 6073459554577829193⟩))) <|
 .op (some 4) .any [7] (.mov (.tmp 7)) <|
 .nil))
 (.cond (.tmp 4) .skip
 (.seq (.ops (.op (some 8) .any [3] (.bin .eql .none (.tmp 3) (.con (V.str ⟨9, 1241215773001651606849⟩))) <|
 .op (some 4) .any [8] (.mov (.tmp 8)) <|
 .nil))
 (.cond (.tmp 4) .skip
 (.seq (.ops (.op (some 9) .any [3] (.bin .eql .none (.tmp 3) (.con (V.str ⟨4, 1397178708⟩))) <|
 .op (some 4) .any [9] (.mov (.tmp 9)) <|
 .nil))
 (.cond (.tmp 4) .skip
 (.seq (.ops (.op (some 10) .any [3] (.bin .eql .none (.tmp 3) (.con (V.str ⟨5, 336236856642⟩))) <|
 .op (some 4) .any [10] (.mov (.tmp 10)) <|
 .nil))
 (.cond (.tmp 4) .skip
 (.seq (.ops (.op (some 11) .any [3] (.bin .eql .none (.tmp 3) (.con (V.str ⟨3, 4476485⟩))) <|
 .op (some 4) .any [11] (.mov (.tmp 11)) <|
 .nil))
 (.cond (.tmp 4) .skip
 (.seq (.ops (.op (some 12) .any [3] (.bin .eql .none (.tmp 3) (.con (V.str ⟨7, 22026814072246082⟩))) <|
 .op (some 4) .any [12] (.mov (.tmp 12)) <|
 .nil))
 (.cond (.tmp 4) .skip
 (.seq (.ops (.op (some 13) .any [3] (.bin .eql .none (.tmp 3) (.con (V.str ⟨7, 23157120498421321⟩))) <|
 .op (some 4) .any [13] (.mov (.tmp 13)) <|
 .nil))
 (.cond (.tmp 4) .skip
 (.seq (.ops (.op (some 14) .any [3] (.bin .eql .none (.tmp 3) (.con (V.str ⟨10, 322399817400452109389381⟩))) <|
 .op (some 4) .any [14] (.mov (.tmp 14)) <|
 .nil))
 (.cond (.tmp 4) .skip
 (.seq (.ops (.op (some 15) .any [3] (.bin .eql .none (.tmp 3) (.con (V.str ⟨4, 1280070990⟩))) <|
 .op (some 4) .any [15] (.mov (.tmp 15)) <|
 .nil))
 (.cond (.tmp 4) .skip
 (.seq (.ops (.op (some 16) .any [3] (.bin .eql .none (.tmp 3) (.con (V.str ⟨5, 361940403023⟩))) <|
 .op (some 4) .any [16] (.mov (.tmp 16)) <|
 .nil))
 (.cond (.tmp 4) .skip
 (.seq (.ops (.op (some 17) .any [3] (.bin .eql .none (.tmp 3) (.con (V.str ⟨6, 78401563153491⟩))) <|
 .op (some 4) .any [17] (.mov (.tmp 17)) <|
 .nil))
 (.cond (.tmp 4) .skip
 (.seq (.ops (.op (some 18) .any [3] (.bin .eql .none (.tmp 3) (.con (V.str ⟨10, 488440487847103610377301⟩))) <|
 .op (some 4) .any [18] (.mov (.tmp 18)) <|
 .nil))
 (.cond (.tmp 4) .skip
 (.seq (.ops (.op (some 19) .any [3] (.bin .eql .none (.tmp 3) (.con (V.str ⟨8, 4990918871747741011⟩))) <|
 .op (some 4) .any [19] (.mov (.tmp 19)) <|
 .nil))
 (.cond (.tmp 4) .skip
 (.seq (.ops (.op (some 20) .any [3] (.bin .eql .none (.tmp 3) (.con (V.str ⟨3, 5522771⟩))) <|
 .op (some 4) .any [20] (.mov (.tmp 20)) <|
 .nil))
 (.cond (.tmp 4) .skip
 (.seq (.ops (.op (some 21) .any [3] (.bin .eql .none (.tmp 3) (.con (V.str ⟨6, 76155295057987⟩))) <|
 .op (some 4) .any [21] (.mov (.tmp 21)) <|
 .nil))
 (.cond (.tmp 4) .skip
 (.seq (.ops (.op (some 22) .any [3] (.bin .eql .none (.tmp 3) (.con (V.str ⟨2, 17999⟩))) <|
 .op (some 4) .any [22] (.mov (.tmp 22)) <|
 .nil))
 (.cond (.tmp 4) .skip
 (.seq (.ops (.op (some 23) .any [3] (.bin .eql .none (.tmp 3) (.con (V.str ⟨8, 5494759122808361039⟩))) <|
 .op (some 4) .any [23] (.mov (.tmp 23)) <|
 .nil))
 (.cond (.tmp 4) .skip
 (.seq (.ops (.op (some 24) .any [3] (.bin .eql .none (.tmp 3) (.con (V.str ⟨7, 23727827094750532⟩))) <|
 .op (some 4) .any [24] (.mov (.tmp 24)) <|
 .nil))
 (.cond (.tmp 4) .skip
 (.seq (.ops (.op (some 25) .any [3] (.bin .eql .none (.tmp 3) (.con (V.str ⟨4, 1163544915⟩))) <|
 .op (some 4) .any [25] (.mov (.tmp 25)) <|
 .nil))
 (.cond (.tmp 4) .skip
 (.seq (.ops (.op (some 26) .any [3] (.bin .eql .none (.tmp 3) (.con (V.str ⟨3, 5130573⟩))) <|
 .op (some 4) .any [26] (.mov (.tmp 26)) <|
 .nil))
 (.cond (.tmp 4) .skip
 (.seq (.ops (.op (some 27) .any [3] (.bin .eql .none (.tmp 3) (.con (V.str ⟨3, 5783885⟩))) <|
 .op (some 4) .any [27] (.mov (.tmp 27)) <|
 .nil))
 (.cond (.tmp 4) .skip
 (.seq (.ops (.op (some 28) .any [3] (.bin .eql .none (.tmp 3) (.con (V.str ⟨4, 1163219540⟩))) <|
 .op (some 4) .any [28] (.mov (.tmp 28)) <|
 .nil))
 (.cond (.tmp 4) .skip
 (.ops (.op (some 29) .any [3] (.bin .eql .none (.tmp 3) (.con (V.str ⟨5, 297750249798⟩))) <|
 .op (some 4) .any [29] (.mov (.tmp 29)) <|
 .nil))))))))))))))))))))))))))))))))))))))))))))))))))
 (.keep [(4, .bool)] [] [] cc2))))
 (.keep [] [] [] cc1)))
def T49_0 (E : List (Nat × Blk)) (D : Den) (W : DrawFn) (K2 : Bool → H → Ans) (v0 : BS) (σ : H) : Ans :=
 condK (BS.beq v0 (BS.mk 11 100710650190388740279911748)) (
 K2 (BS.beq v0 (BS.mk 11 100710650190388740279911748)) σ) (
 condK (BS.beq v0 (BS.mk 8 6073459554577832005)) (
 K2 (BS.beq v0 (BS.mk 8 6073459554577832005)) σ) (
 condK (BS.beq v0 (BS.mk 8 6073459554577829193)) (
 K2 (BS.beq v0 (BS.mk 8 6073459554577829193)) σ) (
 condK (BS.beq v0 (BS.mk 9 1241215773001651606849)) (
 K2 (BS.beq v0 (BS.mk 9 1241215773001651606849)) σ) (
 condK (BS.beq v0 (BS.mk 4 1397178708)) (
 K2 (BS.beq v0 (BS.mk 4 1397178708)) σ) (
 condK (BS.beq v0 (BS.mk 5 336236856642)) (
 K2 (BS.beq v0 (BS.mk 5 336236856642)) σ) (
 condK (BS.beq v0 (BS.mk 3 4476485)) (
 K2 (BS.beq v0 (BS.mk 3 4476485)) σ) (
 condK (BS.beq v0 (BS.mk 7 22026814072246082)) (
 K2 (BS.beq v0 (BS.mk 7 22026814072246082)) σ) (
 condK (BS.beq v0 (BS.mk 7 23157120498421321)) (
 K2 (BS.beq v0 (BS.mk 7 23157120498421321)) σ) (
 condK (BS.beq v0 (BS.mk 10 322399817400452109389381)) (
 K2 (BS.beq v0 (BS.mk 10 322399817400452109389381)) σ) (
 condK (BS.beq v0 (BS.mk 4 1280070990)) (
 K2 (BS.beq v0 (BS.mk 4 1280070990)) σ) (
 condK (BS.beq v0 (BS.mk 5 361940403023)) (
 K2 (BS.beq v0 (BS.mk 5 361940403023)) σ) (
 condK (BS.beq v0 (BS.mk 6 78401563153491)) (
 K2 (BS.beq v0 (BS.mk 6 78401563153491)) σ) (
 condK (BS.beq v0 (BS.mk 10 488440487847103610377301)) (
 K2 (BS.beq v0 (BS.mk 10 488440487847103610377301)) σ) (
 condK (BS.beq v0 (BS.mk 8 4990918871747741011)) (
 K2 (BS.beq v0 (BS.mk 8 4990918871747741011)) σ) (
 condK (BS.beq v0 (BS.mk 3 5522771)) (
 K2 (BS.beq v0 (BS.mk 3 5522771)) σ) (
 condK (BS.beq v0 (BS.mk 6 76155295057987)) (
 K2 (BS.beq v0 (BS.mk 6 76155295057987)) σ) (
 condK (BS.beq v0 (BS.mk 2 17999)) (
 K2 (BS.beq v0 (BS.mk 2 17999)) σ) (
 condK (BS.beq v0 (BS.mk 8 5494759122808361039)) (
 K2 (BS.beq v0 (BS.mk 8 5494759122808361039)) σ) (
 condK (BS.beq v0 (BS.mk 7 23727827094750532)) (
 K2 (BS.beq v0 (BS.mk 7 23727827094750532)) σ) (
 condK (BS.beq v0 (BS.mk 4 1163544915)) (
 K2 (BS.beq v0 (BS.mk 4 1163544915)) σ) (
 condK (BS.beq v0 (BS.mk 3 5130573)) (
 K2 (BS.beq v0 (BS.mk 3 5130573)) σ) (
 condK (BS.beq v0 (BS.mk 3 5783885)) (
 K2 (BS.beq v0 (BS.mk 3 5783885)) σ) (
 condK (BS.beq v0 (BS.mk 4 1163219540)) (
 K2 (BS.beq v0 (BS.mk 4 1163219540)) σ) (
 K2 (BS.beq v0 (BS.mk 5 297750249798)) σ))))))))))))))))))))))))
def C49_1 : XC := (.seq (.ops (.op (some 2) .any [] (.mov (.con (V.bool false))) <|
 .nil))
 .ret)
def T49_1 (E : List (Nat × Blk)) (D : Den) (W : DrawFn) (σ : H) : Ans :=
 some ((V.bool false), σ)
def C49_2 : XC := (.cond (.tmp 4) (.seq (.ops (.op (some 2) .any [] (.mov (.con (V.bool true))) <|
 .nil))
 .ret)
 .skip)
def T49_2 (E : List (Nat × Blk)) (D : Den) (W : DrawFn) (K1 : H → Ans) (v4 : Bool) (σ : H) : Ans :=
 condK v4 (
 some ((V.bool true), σ)) (
 K1 σ)
theorem P49_0 (E : List (Nat × Blk)) (D : Den) (W : DrawFn) (N : Nat) (cc1 : XC) (cc2 : XC) (v0 : BS) (σ : H) :
  denC E D W N (C49_0 cc1 cc2) ⟨[(0, (V.str v0))], [], [], σ⟩ (Fin49 E) (fun _ _ => none) (Fin49 E) =
  T49_0 E D W (fun v4 σ => denC E D W N cc2 ⟨[(4, (V.bool v4))], [], [], σ⟩ (fun s' => denC E D W N (.keep [] [] [] cc1) s' (Fin49 E) (fun _ _ => none) (Fin49 E)) (blkK 0 (fun s' => denC E D W N (.keep [] [] [] cc1) s' (Fin49 E) (fun _ _ => none) (Fin49 E)) (fun _ _ => none)) (Fin49 E)) v0 σ := by kernel_rfl
theorem P49_1 (E : List (Nat × Blk)) (D : Den) (W : DrawFn) (N : Nat) (σ : H) :
  denC E D W N (C49_1 ) ⟨[], [], [], σ⟩ (Fin49 E) (fun _ _ => none) (Fin49 E) =
  T49_1 E D W   σ := by kernel_rfl
theorem P49_2 (E : List (Nat × Blk)) (D : Den) (W : DrawFn) (N : Nat) (cc1 : XC) (v4 : Bool) (σ : H) :
  denC E D W N (C49_2 ) ⟨[(4, (V.bool v4))], [], [], σ⟩ (fun s' => denC E D W N (.keep [] [] [] cc1) s' (Fin49 E) (fun _ _ => none) (Fin49 E)) (blkK 0 (fun s' => denC E D W N (.keep [] [] [] cc1) s' (Fin49 E) (fun _ _ => none) (Fin49 E)) (fun _ _ => none)) (Fin49 E) =
  T49_2 E D W (fun  σ => denC E D W N cc1 ⟨[], [], [], σ⟩ (Fin49 E) (fun _ _ => none) (Fin49 E)) v4 σ := by kernel_rfl
def J49_1 (E : List (Nat × Blk)) (D : Den) (W : DrawFn) (N : Nat) : H → Ans := T49_1 E D W 
theorem JE49_1 (E : List (Nat × Blk)) (D : Den) (W : DrawFn) (N : Nat) (σ : H) :
  denC E D W N C49_1 ⟨[], [], [], σ⟩ (Fin49 E) (fun _ _ => none) (Fin49 E) = J49_1 E D W N  σ := by
  refine (P49_1 E D W N    σ).trans ?_
  kernel_rfl
def J49_2 (E : List (Nat × Blk)) (D : Den) (W : DrawFn) (N : Nat) : Bool → H → Ans := T49_2 E D W (J49_1 E D W N )
theorem JE49_2 (E : List (Nat × Blk)) (D : Den) (W : DrawFn) (N : Nat) (v4 : Bool) (σ : H) :
  denC E D W N C49_2 ⟨[(4, (V.bool v4))], [], [], σ⟩ (fun s' => denC E D W N (.keep [] [] [] C49_1) s' (Fin49 E) (fun _ _ => none) (Fin49 E)) (blkK 0 (fun s' => denC E D W N (.keep [] [] [] C49_1) s' (Fin49 E) (fun _ _ => none) (Fin49 E)) (fun _ _ => none)) (Fin49 E) = J49_2 E D W N v4 σ := by
  refine (P49_2 E D W N C49_1  v4 σ).trans ?_
  simp only [JE49_1]
  kernel_rfl
def J49_0 (E : List (Nat × Blk)) (D : Den) (W : DrawFn) (N : Nat) : BS → H → Ans := T49_0 E D W (J49_2 E D W N )
theorem JE49_0 (E : List (Nat × Blk)) (D : Den) (W : DrawFn) (N : Nat) (v0 : BS) (σ : H) :
  denC E D W N (C49_0 C49_1 C49_2) ⟨[(0, (V.str v0))], [], [], σ⟩ (Fin49 E) (fun _ _ => none) (Fin49 E) = J49_0 E D W N v0 σ := by
  refine (P49_0 E D W N C49_1 C49_2  v0 σ).trans ?_
  simp only [JE49_2]
  kernel_rfl
def F49 (E : List (Nat × Blk)) (D : Den) (W : DrawFn) (N : Nat) (args : List V) (σ : H) : Ans :=
 rtCons args fun x1 l2 =>
 rtStr x1 fun x3 =>
 rtNil l2 (
 J49_0 E D W N x3 σ)
def A49 : XFn := ⟨30, [.str], [(.tmp 2)], (C49_0 C49_1 C49_2)⟩
theorem FE49 (E : List (Nat × Blk)) (D : Den) (W : DrawFn) (N : Nat) (args : List V) (σ : H) : runX E D W N A49 args σ = F49 E D W N args σ := by
  unfold F49
  simp only [← JE49_0]
  kernel_rfl
theorem AO49 : A49.body.ok = true := by kernel_rfl

/-! ### F50: strconv.ParseInt -/
def Fin50 (E : List (Nat × Blk)) : St → Ans := fun s => resK E s [(.tmp 6), (.tmp 7)] fun l => some (oneV l, s.σ)
def C50_0 : XC := (.seq (.ops (.op (some 6) .any [] (.mov (.con (V.int .i64 (Int.ofNat 0)))) <|
 .op (some 7) .any [] (.mov (.con V.nili)) <|
 .nil))
 (.seq (.ops (.op (some 10) .any [0] (.mov (.tmp 0)) <|
 .op (some 11) .any [1] (.mov (.tmp 1)) <|
 .op (some 12) .any [2] (.mov (.tmp 2)) <|
 .op (some 13) (.tup [(.int .i64), .any]) [10, 11, 12] (.call 59 [(.tmp 10), (.tmp 11), (.tmp 12)]) <|
 .op (some 9) .any [13] (.mov (.tmp 13)) <|
 .op (some 14) .any [9] (.extract 0 (.tmp 9)) <|
 .op (some 15) .any [9] (.extract 1 (.tmp 9)) <|
 .op (some 8) .any [14] (.mov (.tmp 14)) <|
 .op (some 7) .any [15] (.mov (.tmp 15)) <|
 .nil))
 (.seq (.seq (.ops (.op (some 16) .any [7] (.mov (.tmp 7)) <|
 .op (some 17) .any [16] (.bin .neq (.iface true) (.tmp 16) (.con V.nili)) <|
 .nil))
 (.cond (.tmp 17) (.seq (.ops (.op (some 18) .any [8] (.mov (.tmp 8)) <|
 .op (some 19) .any [0] (.mov (.tmp 0)) <|
 .op (some 20) .any [1] (.mov (.tmp 1)) <|
 .op (some 21) .any [2] (.mov (.tmp 2)) <|
 .op (some 22) .any [7] (.mov (.tmp 7)) <|
 .op (some 23) .one [19, 20, 21, 22] (.call 60 [(.con (V.str ⟨8, 8389723855915213136⟩)), (.tmp 19), (.tmp 20), (.tmp 21), (.tmp 22)]) <|
 .op (some 6) .any [18] (.mov (.tmp 18)) <|
 .op (some 7) .any [23] (.mov (.tmp 23)) <|
 .nil))
 .ret)
 .skip))
 (.seq (.ops (.op (some 24) .any [8] (.mov (.tmp 8)) <|
 .op (some 6) .any [24] (.mov (.tmp 24)) <|
 .op (some 7) .any [] (.mov (.con V.nili)) <|
 .nil))
 .ret))))
def T50_0 (E : List (Nat × Blk)) (D : Den) (W : DrawFn) (v0 : BS) (v1 : Int) (v2 : Int) (σ : H) : Ans :=
 callK (D 59 [(V.str v0), (V.int .i64 v1), (V.int .i64 v2)] σ) fun u1 s2 =>
 rtTup u1 fun l3 =>
 rtCons l3 fun x4 l5 =>
 rtInt .i64 x4 fun x6 =>
 rtCons l5 fun x7 l8 =>
 rtNil l8 (
 eqK (.iface true) x7 V.nili fun c9 =>
 condK (not c9) (
 callK (D 60 [(V.str (BS.mk 8 8389723855915213136)), (V.str v0), (V.int .i64 v1), (V.int .i64 v2), x7] s2) fun u10 s11 =>
 rtOne u10 (
 some ((V.tup [(V.int .i64 x6), u10]), s11))) (
 some ((V.tup [(V.int .i64 x6), V.nili]), s2)))
theorem P50_0 (E : List (Nat × Blk)) (D : Den) (W : DrawFn) (N : Nat) (v0 : BS) (v1 : Int) (v2 : Int) (σ : H) :
  denC E D W N (C50_0 ) ⟨[(0, (V.str v0)), (1, (V.int .i64 v1)), (2, (V.int .i64 v2))], [], [], σ⟩ (Fin50 E) (fun _ _ => none) (Fin50 E) =
  T50_0 E D W  v0 v1 v2 σ := by kernel_rfl
def J50_0 (E : List (Nat × Blk)) (D : Den) (W : DrawFn) (N : Nat) : BS → Int → Int → H → Ans := T50_0 E D W 
theorem JE50_0 (E : List (Nat × Blk)) (D : Den) (W : DrawFn) (N : Nat) (v0 : BS) (v1 : Int) (v2 : Int) (σ : H) :
  denC E D W N C50_0 ⟨[(0, (V.str v0)), (1, (V.int .i64 v1)), (2, (V.int .i64 v2))], [], [], σ⟩ (Fin50 E) (fun _ _ => none) (Fin50 E) = J50_0 E D W N v0 v1 v2 σ := by
  refine (P50_0 E D W N   v0 v1 v2 σ).trans ?_
  kernel_rfl
def F50 (E : List (Nat × Blk)) (D : Den) (W : DrawFn) (N : Nat) (args : List V) (σ : H) : Ans :=
 rtCons args fun x1 l2 =>
 rtStr x1 fun x3 =>
 rtCons l2 fun x4 l5 =>
 rtInt .i64 x4 fun x6 =>
 rtCons l5 fun x7 l8 =>
 rtInt .i64 x7 fun x9 =>
 rtNil l8 (
 J50_0 E D W N x3 x6 x9 σ)
def A50 : XFn := ⟨25, [.str, (.int .i64), (.int .i64)], [(.tmp 6), (.tmp 7)], C50_0⟩
theorem FE50 (E : List (Nat × Blk)) (D : Den) (W : DrawFn) (N : Nat) (args : List V) (σ : H) : runX E D W N A50 args σ = F50 E D W N args σ := by
  unfold F50
  simp only [← JE50_0]
  kernel_rfl
theorem AO50 : A50.body.ok = true := by kernel_rfl

/-! ### F52: ogham_syntax.begins -/
def Fin52 (E : List (Nat × Blk)) : St → Ans := fun s => resK E s [(.tmp 2)] fun l => some (oneV l, s.σ)
def C52_0 (cc1 : XC) (cc2 : XC) : XC := (.seq (.ops (.op (some 1) .any [0] (.box 75 (.tmp 0)) <|
 .op (some 2) .any [] (.mov (.con (V.bool false))) <|
 .nil))
 (.seq (.seq (.ops (.op (some 3) .any [1] (.faddr 0 (.tmp 1)) <|
 .op (some 4) (.int .i64) [3] (.load none (.tmp 3)) <|
 .nil))
 (.block 0 (.seq (.ops (.op (some 6) .any [4] (.bin .eql .none (.tmp 4) (.con (V.int .i64 (Int.ofNat 1)))) <|
 .op (some 5) .any [6] (.mov (.tmp 6)) <|
 .nil))
 (.cond (.tmp 5) (.seq (.ops (.op (some 2) .any [] (.mov (.con (V.bool true))) <|
 .nil))
 .ret)
 (.seq (.ops (.op (some 8) .any [4] (.bin .eql .none (.tmp 4) (.con (V.int .i64 (Int.ofNat 6)))) <|
 .op (some 7) .any [8] (.mov (.tmp 8)) <|
 .nil))
 (.cond (.tmp 7) (.seq (.ops (.op (some 9) .any [1] (.faddr 1 (.tmp 1)) <|
 .op (some 10) .str [9] (.load none (.tmp 9)) <|
 .op (some 11) .any [10] (.bin .eql .none (.tmp 10) (.con (V.str ⟨1, 91⟩))) <|
 .op (some 2) .any [11] (.mov (.tmp 11)) <|
 .nil))
 .ret)
 (.seq (.ops (.op (some 13) .any [4] (.bin .eql .none (.tmp 4) (.con (V.int .i64 (Int.ofNat 5)))) <|
 .op (some 12) .any [13] (.mov (.tmp 13)) <|
 .nil))
 (.cond (.tmp 12) (.seq (.ops (.op (some 14) .any [1] (.faddr 1 (.tmp 1)) <|
 .op (some 15) .str [14] (.load none (.tmp 14)) <|
 .nil))
 (.block 1 (.seq (.seq (.ops (.op (some 17) .any [15] (.bin .eql .none (.tmp 15) (.con (V.str ⟨7, 22026814072246082⟩))) <|
 .op (some 16) .any [17] (.mov (.tmp 17)) <|
 .nil))
 (.cond (.tmp 16) .skip
 (.seq (.ops (.op (some 18) .any [15] (.bin .eql .none (.tmp 15) (.con (V.str ⟨4, 1280070990⟩))) <|
 .op (some 16) .any [18] (.mov (.tmp 18)) <|
 .nil))
 (.cond (.tmp 16) .skip
 (.seq (.ops (.op (some 19) .any [15] (.bin .eql .none (.tmp 15) (.con (V.str ⟨10, 488440487847103610377301⟩))) <|
 .op (some 16) .any [19] (.mov (.tmp 19)) <|
 .nil))
 (.cond (.tmp 16) .skip
 (.seq (.ops (.op (some 20) .any [15] (.bin .eql .none (.tmp 15) (.con (V.str ⟨7, 23157120498421321⟩))) <|
 .op (some 16) .any [20] (.mov (.tmp 20)) <|
 .nil))
 (.cond (.tmp 16) .skip
 (.seq (.ops (.op (some 21) .any [15] (.bin .eql .none (.tmp 15) (.con (V.str ⟨5, 361940403023⟩))) <|
 .op (some 16) .any [21] (.mov (.tmp 21)) <|
 .nil))
 (.cond (.tmp 16) .skip
 (.seq (.ops (.op (some 22) .any [15] (.bin .eql .none (.tmp 15) (.con (V.str ⟨10, 322399817400452109389381⟩))) <|
 .op (some 16) .any [22] (.mov (.tmp 22)) <|
 .nil))
 (.cond (.tmp 16) .skip
 (.seq (.ops (.op (some 23) .any [15] (.bin .eql .none (.tmp 15) (.con (V.str ⟨8, 4990918871747741011⟩))) <|
 .op (some 16) .any [23] (.mov (.tmp 23)) <|
 .nil))
 (.cond (.tmp 16) .skip
 (.seq (.ops (.op (some 24) .any [15] (.bin .eql .none (.tmp 15) (.con (V.str ⟨3, 5522771⟩))) <|
 .op (some 16) .any [24] (.mov (.tmp 24)) <|
 .nil))
 (.cond (.tmp 16) .skip
 (.ops (.op (some 25) .any [15] (.bin .eql .none (.tmp 15) (.con (V.str ⟨6, 76155295057987⟩))) <|
 .op (some 16) .any [25] (.mov (.tmp 25)) <|
 .nil))))))))))))))))))
 (.keep [(16, .bool)] [] [] cc2))))
 .skip))))))))
 (.keep [] [] [] cc1)))
def T52_0 (E : List (Nat × Blk)) (D : Den) (W : DrawFn) (K1 : H → Ans) (K2 : Bool → H → Ans) (v0_0 : Int) (v0_1 : BS) (v0_2 : Int) (σ : H) : Ans :=
 chk (allOne (V.cells (V.agg [(V.int .i64 v0_0), (V.str v0_1), (V.int .i64 v0_2)]))) (
 let s1 := newB σ (.cells (V.cells (V.agg [(V.int .i64 v0_0), (V.str v0_1), (V.int .i64 v0_2)])));
 ldK E s1 (H.next σ) 0 fun u2 =>
 rtInt .i64 u2 fun x3 =>
 condK (eqF x3 (Int.ofNat 1)) (
 some ((V.bool true), s1)) (
 condK (eqF x3 (Int.ofNat 6)) (
 ldK E s1 (H.next σ) 1 fun u4 =>
 rtStr u4 fun x5 =>
 some ((V.bool (BS.beq x5 (BS.mk 1 91))), s1)) (
 condK (eqF x3 (Int.ofNat 5)) (
 ldK E s1 (H.next σ) 1 fun u6 =>
 rtStr u6 fun x7 =>
 condK (BS.beq x7 (BS.mk 7 22026814072246082)) (
 K2 (BS.beq x7 (BS.mk 7 22026814072246082)) s1) (
 condK (BS.beq x7 (BS.mk 4 1280070990)) (
 K2 (BS.beq x7 (BS.mk 4 1280070990)) s1) (
 condK (BS.beq x7 (BS.mk 10 488440487847103610377301)) (
 K2 (BS.beq x7 (BS.mk 10 488440487847103610377301)) s1) (
 condK (BS.beq x7 (BS.mk 7 23157120498421321)) (
 K2 (BS.beq x7 (BS.mk 7 23157120498421321)) s1) (
 condK (BS.beq x7 (BS.mk 5 361940403023)) (
 K2 (BS.beq x7 (BS.mk 5 361940403023)) s1) (
 condK (BS.beq x7 (BS.mk 10 322399817400452109389381)) (
 K2 (BS.beq x7 (BS.mk 10 322399817400452109389381)) s1) (
 condK (BS.beq x7 (BS.mk 8 4990918871747741011)) (
 K2 (BS.beq x7 (BS.mk 8 4990918871747741011)) s1) (
 condK (BS.beq x7 (BS.mk 3 5522771)) (
 K2 (BS.beq x7 (BS.mk 3 5522771)) s1) (
 K2 (BS.beq x7 (BS.mk 6 76155295057987)) s1))))))))) (
 K1 s1))))
def C52_1 : XC := (.seq (.ops (.op (some 2) .any [] (.mov (.con (V.bool false))) <|
 .nil))
 .ret)
def T52_1 (E : List (Nat × Blk)) (D : Den) (W : DrawFn) (σ : H) : Ans :=
 some ((V.bool false), σ)
def C52_2 : XC := (.cond (.tmp 16) (.seq (.ops (.op (some 2) .any [] (.mov (.con (V.bool true))) <|
 .nil))
 .ret)
 .skip)
def T52_2 (E : List (Nat × Blk)) (D : Den) (W : DrawFn) (K1 : H → Ans) (v16 : Bool) (σ : H) : Ans :=
 condK v16 (
 some ((V.bool true), σ)) (
 K1 σ)
theorem P52_0 (E : List (Nat × Blk)) (D : Den) (W : DrawFn) (N : Nat) (cc1 : XC) (cc2 : XC) (v0_0 : Int) (v0_1 : BS) (v0_2 : Int) (σ : H) :
  denC E D W N (C52_0 cc1 cc2) ⟨[(0, (V.agg [(V.int .i64 v0_0), (V.str v0_1), (V.int .i64 v0_2)]))], [], [], σ⟩ (Fin52 E) (fun _ _ => none) (Fin52 E) =
  T52_0 E D W (fun  σ => denC E D W N cc1 ⟨[], [], [], σ⟩ (Fin52 E) (fun _ _ => none) (Fin52 E)) (fun v16 σ => denC E D W N cc2 ⟨[(16, (V.bool v16))], [], [], σ⟩ (fun s' => denC E D W N (.keep [] [] [] cc1) s' (Fin52 E) (fun _ _ => none) (Fin52 E)) (blkK 1 (fun s' => denC E D W N (.keep [] [] [] cc1) s' (Fin52 E) (fun _ _ => none) (Fin52 E)) (blkK 0 (fun s' => denC E D W N (.keep [] [] [] cc1) s' (Fin52 E) (fun _ _ => none) (Fin52 E)) (fun _ _ => none))) (Fin52 E)) v0_0 v0_1 v0_2 σ := by kernel_rfl
theorem P52_1 (E : List (Nat × Blk)) (D : Den) (W : DrawFn) (N : Nat) (σ : H) :
  denC E D W N (C52_1 ) ⟨[], [], [], σ⟩ (Fin52 E) (fun _ _ => none) (Fin52 E) =
  T52_1 E D W   σ := by kernel_rfl
theorem P52_2 (E : List (Nat × Blk)) (D : Den) (W : DrawFn) (N : Nat) (cc1 : XC) (v16 : Bool) (σ : H) :
  denC E D W N (C52_2 ) ⟨[(16, (V.bool v16))], [], [], σ⟩ (fun s' => denC E D W N (.keep [] [] [] cc1) s' (Fin52 E) (fun _ _ => none) (Fin52 E)) (blkK 1 (fun s' => denC E D W N (.keep [] [] [] cc1) s' (Fin52 E) (fun _ _ => none) (Fin52 E)) (blkK 0 (fun s' => denC E D W N (.keep [] [] [] cc1) s' (Fin52 E) (fun _ _ => none) (Fin52 E)) (fun _ _ => none))) (Fin52 E) =
  T52_2 E D W (fun  σ => denC E D W N cc1 ⟨[], [], [], σ⟩ (Fin52 E) (fun _ _ => none) (Fin52 E)) v16 σ := by kernel_rfl
def J52_1 (E : List (Nat × Blk)) (D : Den) (W : DrawFn) (N : Nat) : H → Ans := T52_1 E D W 
theorem JE52_1 (E : List (Nat × Blk)) (D : Den) (W : DrawFn) (N : Nat) (σ : H) :
  denC E D W N C52_1 ⟨[], [], [], σ⟩ (Fin52 E) (fun _ _ => none) (Fin52 E) = J52_1 E D W N  σ := by
  refine (P52_1 E D W N    σ).trans ?_
  kernel_rfl
def J52_2 (E : List (Nat × Blk)) (D : Den) (W : DrawFn) (N : Nat) : Bool → H → Ans := T52_2 E D W (J52_1 E D W N )
theorem JE52_2 (E : List (Nat × Blk)) (D : Den) (W : DrawFn) (N : Nat) (v16 : Bool) (σ : H) :
  denC E D W N C52_2 ⟨[(16, (V.bool v16))], [], [], σ⟩ (fun s' => denC E D W N (.keep [] [] [] C52_1) s' (Fin52 E) (fun _ _ => none) (Fin52 E)) (blkK 1 (fun s' => denC E D W N (.keep [] [] [] C52_1) s' (Fin52 E) (fun _ _ => none) (Fin52 E)) (blkK 0 (fun s' => denC E D W N (.keep [] [] [] C52_1) s' (Fin52 E) (fun _ _ => none) (Fin52 E)) (fun _ _ => none))) (Fin52 E) = J52_2 E D W N v16 σ := by
  refine (P52_2 E D W N C52_1  v16 σ).trans ?_
  simp only [JE52_1]
  kernel_rfl
def J52_0 (E : List (Nat × Blk)) (D : Den) (W : DrawFn) (N : Nat) : Int → BS → Int → H → Ans := T52_0 E D W (J52_1 E D W N ) (J52_2 E D W N )
theorem JE52_0 (E : List (Nat × Blk)) (D : Den) (W : DrawFn) (N : Nat) (v0_0 : Int) (v0_1 : BS) (v0_2 : Int) (σ : H) :
  denC E D W N (C52_0 C52_1 C52_2) ⟨[(0, (V.agg [(V.int .i64 v0_0), (V.str v0_1), (V.int .i64 v0_2)]))], [], [], σ⟩ (Fin52 E) (fun _ _ => none) (Fin52 E) = J52_0 E D W N v0_0 v0_1 v0_2 σ := by
  refine (P52_0 E D W N C52_1 C52_2  v0_0 v0_1 v0_2 σ).trans ?_
  simp only [JE52_1, JE52_2]
  kernel_rfl
def F52 (E : List (Nat × Blk)) (D : Den) (W : DrawFn) (N : Nat) (args : List V) (σ : H) : Ans :=
 rtCons args fun x1 l2 =>
 rtAgg x1 fun l3 =>
 rtCons l3 fun x4 l5 =>
 rtInt .i64 x4 fun x6 =>
 rtCons l5 fun x7 l8 =>
 rtStr x7 fun x9 =>
 rtCons l8 fun x10 l11 =>
 rtInt .i64 x10 fun x12 =>
 rtNil l11 (
 rtNil l2 (
 J52_0 E D W N x6 x9 x12 σ))
def A52 : XFn := ⟨26, [(.agg [(.int .i64), .str, (.int .i64)])], [(.tmp 2)], (C52_0 C52_1 C52_2)⟩
theorem FE52 (E : List (Nat × Blk)) (D : Den) (W : DrawFn) (N : Nat) (args : List V) (σ : H) : runX E D W N A52 args σ = F52 E D W N args σ := by
  unfold F52
  simp only [← JE52_0]
  kernel_rfl
theorem AO52 : A52.body.ok = true := by kernel_rfl

/-! ### F53: __ogham_syntax.parser_.node -/
def G53_0 : List AOper := [⟨(some 31), .faddr 1 (.tmp 9), none⟩, ⟨(some 32), .load none (.tmp 31), none⟩, ⟨(some 33), .faddr 0 (.tmp 8), none⟩, ⟨none, .store 1 (.tmp 33) (.con (V.int .i64 (Int.ofNat 11))), none⟩, ⟨(some 34), .faddr 1 (.tmp 8), none⟩, ⟨none, .store 1 (.tmp 34) (.tmp 32), none⟩]
def H53_0 : List DP := [⟨0, [9]⟩, ⟨1, [31]⟩, ⟨0, [8]⟩, ⟨4, [33]⟩, ⟨15, [8]⟩, ⟨31, [34, 32]⟩]
def Fin53 (E : List (Nat × Blk)) : St → Ans := fun s => resK E s [(.cell 4 (some 16)), (.tmp 5)] fun l => some (oneV l, s.σ)
def C53_0 (cc1 : XC) : XC := (.seq (.ops (.op (some 4) .any [] (.alloc 39 [(V.int .i64 (Int.ofNat 0)), (V.str ⟨0, 0⟩), (V.bool false), (V.int .i64 (Int.ofNat 0)), (V.int .i64 (Int.ofNat 0)), (V.bool false), (V.bool false), (V.bool false), (V.bool false), (V.int .i64 (Int.ofNat 0)), (V.int .i64 (Int.ofNat 0)), V.nils, V.nils, (V.int .i64 (Int.ofNat 0)), (V.bool false), (V.int .i64 (Int.ofNat 0))]) <|
 .op (some 5) .any [] (.mov (.con (V.bool false))) <|
 .nil))
 (.seq (.ops (.op (some 11) .any [0] (.mov (.tmp 0)) <|
 .op (some 12) (.tup [(.agg [.bool, (.int .i64), (.int .i64)]), .bool]) [11] (.call 62 [(.tmp 11)]) <|
 .op (some 10) .any [12] (.mov (.tmp 12)) <|
 .op (some 13) .any [10] (.extract 0 (.tmp 10)) <|
 .op (some 14) .any [10] (.extract 1 (.tmp 10)) <|
 .pal 6 [] 33 [(V.bool false), (V.int .i64 (Int.ofNat 0)), (V.int .i64 (Int.ofNat 0))] <|
 .op none (.agg [.bool, (.int .i64), (.int .i64)]) [6, 13] (.store 3 (.tmp 6) (.tmp 13)) <|
 .op (some 7) .any [14] (.mov (.tmp 14)) <|
 .nil))
 (.seq (.seq (.ops (.op (some 15) .any [7] (.mov (.tmp 7)) <|
 .op (some 16) .any [15] (.un .not (.tmp 15)) <|
 .nil))
 (.cond (.tmp 16) (.seq (.ops (.op (some 17) (.agg [(.int .i64), .str, .bool, (.int .i64), (.int .i64), .bool, .bool, .bool, .bool, (.int .i64), (.int .i64), .any, .any, (.int .i64), .bool, (.int .i64)]) [] (.build [(V.int .i64 (Int.ofNat 0)), (V.str ⟨0, 0⟩), (V.bool false), (V.int .i64 (Int.ofNat 0)), (V.int .i64 (Int.ofNat 0)), (V.bool false), (V.bool false), (V.bool false), (V.bool false), (V.int .i64 (Int.ofNat 0)), (V.int .i64 (Int.ofNat 0)), V.nils, V.nils, (V.int .i64 (Int.ofNat 0)), (V.bool false), (V.int .i64 (Int.ofNat 0))] []) <|
 .op none (.agg [(.int .i64), .str, .bool, (.int .i64), (.int .i64), .bool, .bool, .bool, .bool, (.int .i64), (.int .i64), .any, .any, (.int .i64), .bool, (.int .i64)]) [4, 17] (.store 16 (.tmp 4) (.tmp 17)) <|
 .op (some 5) .any [] (.mov (.con (V.bool false))) <|
 .nil))
 .ret)
 .skip))
 (.seq (.ops (.op (some 18) (.agg [.bool, (.int .i64), (.int .i64)]) [6] (.load (some 3) (.tmp 6)) <|
 .op (some 19) (.agg [(.int .i64), .str, .bool, (.int .i64), (.int .i64), .bool, .bool, .bool, .bool, (.int .i64), (.int .i64), .any, .any, (.int .i64), .bool, (.int .i64)]) [18] (.build [(V.int .i64 (Int.ofNat 0)), (V.str ⟨0, 0⟩), (V.bool false), (V.int .i64 (Int.ofNat 0)), (V.int .i64 (Int.ofNat 0)), (V.bool false), (V.bool false), (V.bool false), (V.bool false), (V.int .i64 (Int.ofNat 0)), (V.int .i64 (Int.ofNat 0)), V.nils, V.nils, (V.int .i64 (Int.ofNat 0)), (V.bool false), (V.int .i64 (Int.ofNat 0))] [(2, 3, (.tmp 18))]) <|
 .op (some 8) .any [] (.alloc 39 [(V.int .i64 (Int.ofNat 0)), (V.str ⟨0, 0⟩), (V.bool false), (V.int .i64 (Int.ofNat 0)), (V.int .i64 (Int.ofNat 0)), (V.bool false), (V.bool false), (V.bool false), (V.bool false), (V.int .i64 (Int.ofNat 0)), (V.int .i64 (Int.ofNat 0)), V.nils, V.nils, (V.int .i64 (Int.ofNat 0)), (V.bool false), (V.int .i64 (Int.ofNat 0))]) <|
 .op none (.agg [(.int .i64), .str, .bool, (.int .i64), (.int .i64), .bool, .bool, .bool, .bool, (.int .i64), (.int .i64), .any, .any, (.int .i64), .bool, (.int .i64)]) [8, 19] (.store 16 (.tmp 8) (.tmp 19)) <|
 .nil))
 (.seq (.seq (.ops (.op (some 20) .any [0] (.mov (.tmp 0)) <|
 .op (some 21) .any [20] (.nilck (.tmp 20)) <|
 .op (some 22) .any [21] (.faddr 0 (.tmp 21)) <|
 .op (some 23) (.agg [(.int .i64), .str, (.int .i64)]) [22] (.call 23 [(.tmp 22)]) <|
 .op (some 9) .any [] (.alloc 75 [(V.int .i64 (Int.ofNat 0)), (V.str ⟨0, 0⟩), (V.int .i64 (Int.ofNat 0))]) <|
 .op none (.agg [(.int .i64), .str, (.int .i64)]) [9, 23] (.store 3 (.tmp 9) (.tmp 23)) <|
 .nil))
 (.seq (.ops (.op (some 24) .any [9] (.faddr 0 (.tmp 9)) <|
 .op (some 25) (.int .i64) [24] (.load none (.tmp 24)) <|
 .op (some 26) .any [25] (.bin .eql .none (.tmp 25) (.con (V.int .i64 (Int.ofNat 1)))) <|
 .nil))
 (.cond (.tmp 26) (.seq (.ops (.op (some 27) .any [0] (.mov (.tmp 0)) <|
 .op (some 28) .any [27] (.nilck (.tmp 27)) <|
 .op (some 29) .any [28] (.faddr 0 (.tmp 28)) <|
 .op (some 30) (.agg [(.int .i64), .str, (.int .i64)]) [29] (.call 42 [(.tmp 29)]) <|
 .nil))
 (.seq (.keep [(4, .ptr), (8, .ptr), (9, .ptr)] [] [] (.gdraw G53_0 H53_0 [(4, .ptr), (8, .ptr)]))
 (.seq (.ops (.op (some 35) (.agg [(.int .i64), .str, .bool, (.int .i64), (.int .i64), .bool, .bool, .bool, .bool, (.int .i64), (.int .i64), .any, .any, (.int .i64), .bool, (.int .i64)]) [8] (.load (some 16) (.tmp 8)) <|
 .op none (.agg [(.int .i64), .str, .bool, (.int .i64), (.int .i64), .bool, .bool, .bool, .bool, (.int .i64), (.int .i64), .any, .any, (.int .i64), .bool, (.int .i64)]) [4, 35] (.store 16 (.tmp 4) (.tmp 35)) <|
 .op (some 5) .any [] (.mov (.con (V.bool true))) <|
 .nil))
 .ret)))
 .skip)))
 (.seq (.block 0 (.seq (.ops (.op (some 44) .any [0] (.mov (.tmp 0)) <|
 .op (some 45) .any [44] (.nilck (.tmp 44)) <|
 .op (some 46) .any [45] (.faddr 0 (.tmp 45)) <|
 .op (some 47) .bool [46] (.call 43 [(.tmp 46), (.con (V.str ⟨7, 22026814072246082⟩))]) <|
 .op (some 43) .any [47] (.mov (.tmp 47)) <|
 .nil))
 (.cond (.tmp 43) (.ops (.op (some 48) .any [8] (.faddr 0 (.tmp 8)) <|
 .op none .any [48] (.store 1 (.tmp 48) (.con (V.int .i64 (Int.ofNat 1)))) <|
 .nil))
 (.seq (.ops (.op (some 50) .any [0] (.mov (.tmp 0)) <|
 .op (some 51) .any [50] (.nilck (.tmp 50)) <|
 .op (some 52) .any [51] (.faddr 0 (.tmp 51)) <|
 .op (some 53) .bool [52] (.call 43 [(.tmp 52), (.con (V.str ⟨4, 1280070990⟩))]) <|
 .op (some 49) .any [53] (.mov (.tmp 53)) <|
 .nil))
 (.cond (.tmp 49) (.ops (.op (some 54) .any [8] (.faddr 0 (.tmp 8)) <|
 .op none .any [54] (.store 1 (.tmp 54) (.con (V.int .i64 (Int.ofNat 4)))) <|
 .nil))
 (.seq (.ops (.op (some 56) .any [0] (.mov (.tmp 0)) <|
 .op (some 57) .any [56] (.nilck (.tmp 56)) <|
 .op (some 58) .any [57] (.faddr 0 (.tmp 57)) <|
 .op (some 59) .bool [58] (.call 43 [(.tmp 58), (.con (V.str ⟨10, 488440487847103610377301⟩))]) <|
 .op (some 55) .any [59] (.mov (.tmp 59)) <|
 .nil))
 (.cond (.tmp 55) (.seq (.ops (.op (some 60) .any [8] (.faddr 0 (.tmp 8)) <|
 .op none .any [60] (.store 1 (.tmp 60) (.con (V.int .i64 (Int.ofNat 6)))) <|
 .nil))
 (.ops (.op (some 61) .any [0] (.mov (.tmp 0)) <|
 .op (some 62) .any [8] (.faddr 5 (.tmp 8)) <|
 .op (some 63) .bool [61, 62] (.call 63 [(.tmp 61), (.tmp 62)]) <|
 .op (some 7) .any [63] (.mov (.tmp 63)) <|
 .nil)))
 (.seq (.ops (.op (some 65) .any [0] (.mov (.tmp 0)) <|
 .op (some 66) .any [65] (.nilck (.tmp 65)) <|
 .op (some 67) .any [66] (.faddr 0 (.tmp 66)) <|
 .op (some 68) .bool [67] (.call 43 [(.tmp 67), (.con (V.str ⟨7, 23157120498421321⟩))]) <|
 .op (some 64) .any [68] (.mov (.tmp 68)) <|
 .nil))
 (.cond (.tmp 64) (.seq (.ops (.op (some 69) .any [8] (.faddr 0 (.tmp 8)) <|
 .op none .any [69] (.store 1 (.tmp 69) (.con (V.int .i64 (Int.ofNat 2)))) <|
 .nil))
 (.ops (.op (some 70) .any [0] (.mov (.tmp 0)) <|
 .op (some 71) .any [70] (.nilck (.tmp 70)) <|
 .op (some 72) .any [71] (.faddr 0 (.tmp 71)) <|
 .op (some 73) .bool [72] (.call 43 [(.tmp 72), (.con (V.str ⟨1, 40⟩))]) <|
 .op (some 74) .any [73] (.un .not (.tmp 73)) <|
 .op (some 75) .any [74] (.mov (.tmp 74)) <|
 .grp 75 false (.op (some 76) .any [0, 75] (.mov (.tmp 0)) <|
 .op (some 77) .any [8, 75] (.faddr 5 (.tmp 8)) <|
 .op (some 78) .bool [76, 77, 75] (.call 64 [(.tmp 76), (.tmp 77)]) <|
 .op (some 79) .any [78, 75] (.mov (.tmp 78)) <|
 .grp 79 true (.op (some 80) .any [0, 79] (.mov (.tmp 0)) <|
 .op (some 81) .any [79] (.buildSlice 9 1 [(V.str ⟨0, 0⟩)] [(0, 1, (.con (V.str ⟨1, 41⟩)))]) <|
 .op (some 82) .bool [80, 81, 79] (.call 21 [(.tmp 80), (.tmp 81)]) <|
 .nil) 83 [79, 82, 75] (.tmp 79) (.tmp 82) (.con (V.bool false)) <|
 .nil) 84 [75, 83] (.tmp 75) (.con (V.bool true)) (.tmp 83) <|
 .op (some 7) .any [84] (.mov (.tmp 84)) <|
 .nil)))
 (.seq (.ops (.op (some 86) .any [0] (.mov (.tmp 0)) <|
 .op (some 87) .any [86] (.nilck (.tmp 86)) <|
 .op (some 88) .any [87] (.faddr 0 (.tmp 87)) <|
 .op (some 89) .bool [88] (.call 43 [(.tmp 88), (.con (V.str ⟨5, 361940403023⟩))]) <|
 .op (some 85) .any [89] (.mov (.tmp 89)) <|
 .nil))
 (.cond (.tmp 85) (.seq (.ops (.op (some 90) .any [8] (.faddr 0 (.tmp 8)) <|
 .op none .any [90] (.store 1 (.tmp 90) (.con (V.int .i64 (Int.ofNat 5)))) <|
 .nil))
 (.ops (.op (some 91) .any [0] (.mov (.tmp 0)) <|
 .op (some 92) .any [] (.buildSlice 9 1 [(V.str ⟨0, 0⟩)] [(0, 1, (.con (V.str ⟨6, 78401563153491⟩)))]) <|
 .op (some 93) .bool [91, 92] (.call 21 [(.tmp 91), (.tmp 92)]) <|
 .op (some 94) .any [93] (.mov (.tmp 93)) <|
 .grp 94 true (.op (some 95) .any [0, 94] (.mov (.tmp 0)) <|
 .op (some 96) .any [8, 94] (.faddr 5 (.tmp 8)) <|
 .op (some 97) .bool [95, 96, 94] (.call 63 [(.tmp 95), (.tmp 96)]) <|
 .nil) 98 [94, 97] (.tmp 94) (.tmp 97) (.con (V.bool false)) <|
 .op (some 7) .any [98] (.mov (.tmp 98)) <|
 .nil)))
 (.seq (.ops (.op (some 100) .any [0] (.mov (.tmp 0)) <|
 .op (some 101) .any [100] (.nilck (.tmp 100)) <|
 .op (some 102) .any [101] (.faddr 0 (.tmp 101)) <|
 .op (some 103) .bool [102] (.call 43 [(.tmp 102), (.con (V.str ⟨10, 322399817400452109389381⟩))]) <|
 .op (some 99) .any [103] (.mov (.tmp 103)) <|
 .nil))
 (.cond (.tmp 99) (.seq (.ops (.op (some 104) .any [8] (.faddr 0 (.tmp 8)) <|
 .op none .any [104] (.store 1 (.tmp 104) (.con (V.int .i64 (Int.ofNat 3)))) <|
 .nil))
 (.ops (.op (some 105) .any [0] (.mov (.tmp 0)) <|
 .op (some 106) .bool [105, 8] (.call 65 [(.tmp 105), (.tmp 8)]) <|
 .op (some 7) .any [106] (.mov (.tmp 106)) <|
 .nil)))
 (.seq (.ops (.op (some 108) .any [0] (.mov (.tmp 0)) <|
 .op (some 109) .any [108] (.nilck (.tmp 108)) <|
 .op (some 110) .any [109] (.faddr 0 (.tmp 109)) <|
 .op (some 111) .bool [110] (.call 43 [(.tmp 110), (.con (V.str ⟨3, 5522771⟩))]) <|
 .op (some 107) .any [111] (.mov (.tmp 111)) <|
 .nil))
 (.cond (.tmp 107) (.seq (.ops (.op (some 112) .any [8] (.faddr 0 (.tmp 8)) <|
 .op none .any [112] (.store 1 (.tmp 112) (.con (V.int .i64 (Int.ofNat 8)))) <|
 .nil))
 (.ops (.op (some 113) .any [0] (.mov (.tmp 0)) <|
 .op (some 114) .any [1] (.mov (.tmp 1)) <|
 .op (some 115) .bool [113, 8, 114] (.call 66 [(.tmp 113), (.tmp 8), (.tmp 114)]) <|
 .op (some 7) .any [115] (.mov (.tmp 115)) <|
 .nil)))
 (.seq (.ops (.op (some 117) .any [0] (.mov (.tmp 0)) <|
 .op (some 118) .any [117] (.nilck (.tmp 117)) <|
 .op (some 119) .any [118] (.faddr 0 (.tmp 118)) <|
 .op (some 120) .bool [119] (.call 43 [(.tmp 119), (.con (V.str ⟨6, 76155295057987⟩))]) <|
 .op (some 116) .any [120] (.mov (.tmp 120)) <|
 .nil))
 (.cond (.tmp 116) (.seq (.ops (.op (some 121) .any [8] (.faddr 0 (.tmp 8)) <|
 .op none .any [121] (.store 1 (.tmp 121) (.con (V.int .i64 (Int.ofNat 9)))) <|
 .nil))
 (.ops (.op (some 122) .any [0] (.mov (.tmp 0)) <|
 .op (some 123) .any [1] (.mov (.tmp 1)) <|
 .op (some 124) .bool [122, 8, 123] (.call 66 [(.tmp 122), (.tmp 8), (.tmp 123)]) <|
 .op (some 7) .any [124] (.mov (.tmp 124)) <|
 .nil)))
 (.seq (.ops (.op (some 126) .any [0] (.mov (.tmp 0)) <|
 .op (some 127) .any [126] (.nilck (.tmp 126)) <|
 .op (some 128) .any [127] (.faddr 0 (.tmp 127)) <|
 .op (some 129) .bool [128] (.call 43 [(.tmp 128), (.con (V.str ⟨8, 4990918871747741011⟩))]) <|
 .op (some 125) .any [129] (.mov (.tmp 129)) <|
 .nil))
 (.cond (.tmp 125) (.ops (.op (some 130) .any [0] (.mov (.tmp 0)) <|
 .op (some 131) .any [1] (.mov (.tmp 1)) <|
 .op (some 132) .bool [130, 8, 131] (.call 67 [(.tmp 130), (.tmp 8), (.tmp 131)]) <|
 .op (some 7) .any [132] (.mov (.tmp 132)) <|
 .nil))
 (.ops (.op (some 36) .any [0] (.mov (.tmp 0)) <|
 .op (some 37) .any [0] (.mov (.tmp 0)) <|
 .op (some 38) .any [37] (.nilck (.tmp 37)) <|
 .op (some 39) .any [38] (.faddr 0 (.tmp 38)) <|
 .op (some 40) (.agg [(.int .i64), .str, (.int .i64)]) [39] (.call 23 [(.tmp 39)]) <|
 .op (some 41) (.int .i64) [40] (.field 2 none (.tmp 40)) <|
 .op (some 42) .bool [36, 41] (.call 41 [(.tmp 36), (.tmp 41), (.con (V.int .i64 (Int.ofNat 7)))]) <|
 .op (some 7) .any [42] (.mov (.tmp 42)) <|
 .nil)))))))))))))))))))))
 (.keep [(4, .ptr), (7, .bool), (8, .ptr)] [] [] cc1)))))))
def T53_0 (E : List (Nat × Blk)) (D : Den) (W : DrawFn) (K1 : Nat → Nat → Bool → Nat → Nat → H → Ans) (v0b : Nat) (v0o : Nat) (v1 : Int) (σ : H) : Ans :=
 let s1 := newB σ (.cells [(V.int .i64 (Int.ofNat 0)), (V.str ⟨0, 0⟩), (V.bool false), (V.int .i64 (Int.ofNat 0)), (V.int .i64 (Int.ofNat 0)), (V.bool false), (V.bool false), (V.bool false), (V.bool false), (V.int .i64 (Int.ofNat 0)), (V.int .i64 (Int.ofNat 0)), V.nils, V.nils, (V.int .i64 (Int.ofNat 0)), (V.bool false), (V.int .i64 (Int.ofNat 0))]);
 callK (D 62 [(V.ptr v0b v0o)] s1) fun u2 s3 =>
 rtTup u2 fun l4 =>
 rtCons l4 fun x5 l6 =>
 rtAgg x5 fun l7 =>
 rtCons l7 fun x8 l9 =>
 rtBool x8 fun x10 =>
 rtCons l9 fun x11 l12 =>
 rtInt .i64 x11 fun x13 =>
 rtCons l12 fun x14 l15 =>
 rtInt .i64 x14 fun x16 =>
 rtNil l15 (
 rtCons l6 fun x17 l18 =>
 rtBool x17 fun x19 =>
 rtNil l18 (
 condK (not x19) (
 stK 16 (H.next σ) 0 (V.agg [(V.int .i64 (Int.ofNat 0)), (V.str (BS.mk 0 0)), (V.bool false), (V.int .i64 (Int.ofNat 0)), (V.int .i64 (Int.ofNat 0)), (V.bool false), (V.bool false), (V.bool false), (V.bool false), (V.int .i64 (Int.ofNat 0)), (V.int .i64 (Int.ofNat 0)), V.nils, V.nils, (V.int .i64 (Int.ofNat 0)), (V.bool false), (V.int .i64 (Int.ofNat 0))]) s3 fun s20 =>
 ldnK E s20 (H.next σ) 0 16 fun u21 =>
 some ((V.tup [(V.agg u21), (V.bool false)]), s20)) (
 let s22 := newB s3 (.cells [(V.int .i64 (Int.ofNat 0)), (V.str ⟨0, 0⟩), (V.bool false), (V.int .i64 (Int.ofNat 0)), (V.int .i64 (Int.ofNat 0)), (V.bool false), (V.bool false), (V.bool false), (V.bool false), (V.int .i64 (Int.ofNat 0)), (V.int .i64 (Int.ofNat 0)), V.nils, V.nils, (V.int .i64 (Int.ofNat 0)), (V.bool false), (V.int .i64 (Int.ofNat 0))]);
 stK 16 (H.next s3) 0 (V.agg [(V.int .i64 (Int.ofNat 0)), (V.str (BS.mk 0 0)), (V.bool x10), (V.int .i64 x13), (V.int .i64 x16), (V.bool false), (V.bool false), (V.bool false), (V.bool false), (V.int .i64 (Int.ofNat 0)), (V.int .i64 (Int.ofNat 0)), V.nils, V.nils, (V.int .i64 (Int.ofNat 0)), (V.bool false), (V.int .i64 (Int.ofNat 0))]) s22 fun s23 =>
 callK (D 23 [(V.ptr v0b v0o)] s23) fun u24 s25 =>
 rtAgg u24 fun l26 =>
 rtCons l26 fun x27 l28 =>
 rtInt .i64 x27 fun x29 =>
 rtCons l28 fun x30 l31 =>
 rtStr x30 fun x32 =>
 rtCons l31 fun x33 l34 =>
 rtInt .i64 x33 fun x35 =>
 rtNil l34 (
 let s36 := newB s25 (.cells [(V.int .i64 (Int.ofNat 0)), (V.str ⟨0, 0⟩), (V.int .i64 (Int.ofNat 0))]);
 stK 3 (H.next s25) 0 (V.agg [(V.int .i64 x29), (V.str x32), (V.int .i64 x35)]) s36 fun s37 =>
 ldK E s37 (H.next s25) 0 fun u38 =>
 rtInt .i64 u38 fun x39 =>
 condK (eqF x39 (Int.ofNat 1)) (
 callK (D 42 [(V.ptr v0b v0o)] s37) fun u40 s41 =>
 rtAgg u40 fun l42 =>
 rtCons l42 fun x43 l44 =>
 rtInt .i64 x43 fun x45 =>
 rtCons l44 fun x46 l47 =>
 rtStr x46 fun x48 =>
 rtCons l47 fun x49 l50 =>
 rtInt .i64 x49 fun x51 =>
 rtNil l50 (
 gdrawK (W G53_0 H53_0 [(4, (V.ptr (H.next σ) 0)), (8, (V.ptr (H.next s3) 0)), (9, (V.ptr (H.next s25) 0))] s41) fun e52 s53 =>
 getL e52 4 fun u54 =>
 rtPtr u54 fun b55 o56 =>
 getL e52 8 fun u57 =>
 rtPtr u57 fun b58 o59 =>
 ldnK E s53 b58 o59 16 fun l60 =>
 rtCons l60 fun x61 l62 =>
 rtInt .i64 x61 fun x63 =>
 rtCons l62 fun x64 l65 =>
 rtStr x64 fun x66 =>
 rtCons l65 fun x67 l68 =>
 rtBool x67 fun x69 =>
 rtCons l68 fun x70 l71 =>
 rtInt .i64 x70 fun x72 =>
 rtCons l71 fun x73 l74 =>
 rtInt .i64 x73 fun x75 =>
 rtCons l74 fun x76 l77 =>
 rtBool x76 fun x78 =>
 rtCons l77 fun x79 l80 =>
 rtBool x79 fun x81 =>
 rtCons l80 fun x82 l83 =>
 rtBool x82 fun x84 =>
 rtCons l83 fun x85 l86 =>
 rtBool x85 fun x87 =>
 rtCons l86 fun x88 l89 =>
 rtInt .i64 x88 fun x90 =>
 rtCons l89 fun x91 l92 =>
 rtInt .i64 x91 fun x93 =>
 rtCons l92 fun x94 l95 =>
 rtCons l95 fun x96 l97 =>
 rtCons l97 fun x98 l99 =>
 rtInt .i64 x98 fun x100 =>
 rtCons l99 fun x101 l102 =>
 rtBool x101 fun x103 =>
 rtCons l102 fun x104 l105 =>
 rtInt .i64 x104 fun x106 =>
 rtNil l105 (
 stK 16 b55 o56 (V.agg [(V.int .i64 x63), (V.str x66), (V.bool x69), (V.int .i64 x72), (V.int .i64 x75), (V.bool x78), (V.bool x81), (V.bool x84), (V.bool x87), (V.int .i64 x90), (V.int .i64 x93), x94, x96, (V.int .i64 x100), (V.bool x103), (V.int .i64 x106)]) s53 fun s107 =>
 ldnK E s107 b55 o56 16 fun u108 =>
 some ((V.tup [(V.agg u108), (V.bool true)]), s107)))) (
 callK (D 43 [(V.ptr v0b v0o), (V.str (BS.mk 7 22026814072246082))] s37) fun u109 s110 =>
 rtBool u109 fun x111 =>
 condK x111 (
 stK 1 (H.next s3) 0 (V.int .i64 (Int.ofNat 1)) s110 fun s112 =>
 K1 (H.next σ) 0 x19 (H.next s3) 0 s112) (
 callK (D 43 [(V.ptr v0b v0o), (V.str (BS.mk 4 1280070990))] s110) fun u113 s114 =>
 rtBool u113 fun x115 =>
 condK x115 (
 stK 1 (H.next s3) 0 (V.int .i64 (Int.ofNat 4)) s114 fun s116 =>
 K1 (H.next σ) 0 x19 (H.next s3) 0 s116) (
 callK (D 43 [(V.ptr v0b v0o), (V.str (BS.mk 10 488440487847103610377301))] s114) fun u117 s118 =>
 rtBool u117 fun x119 =>
 condK x119 (
 stK 1 (H.next s3) 0 (V.int .i64 (Int.ofNat 6)) s118 fun s120 =>
 callK (D 63 [(V.ptr v0b v0o), (V.ptr (H.next s3) 5)] s120) fun u121 s122 =>
 rtBool u121 fun x123 =>
 K1 (H.next σ) 0 x123 (H.next s3) 0 s122) (
 callK (D 43 [(V.ptr v0b v0o), (V.str (BS.mk 7 23157120498421321))] s118) fun u124 s125 =>
 rtBool u124 fun x126 =>
 condK x126 (
 stK 1 (H.next s3) 0 (V.int .i64 (Int.ofNat 2)) s125 fun s127 =>
 callK (D 43 [(V.ptr v0b v0o), (V.str (BS.mk 1 40))] s127) fun u128 s129 =>
 rtBool u128 fun x130 =>
 joinB (fun c131 s132 =>
 K1 (H.next σ) 0 c131 (H.next s3) 0 s132) fun k133 =>
 condK (not x130) (
 k133 true s129) (
 callK (D 64 [(V.ptr v0b v0o), (V.ptr (H.next s3) 5)] s129) fun u134 s135 =>
 rtBool u134 fun x136 =>
 joinB (fun c137 s138 =>
 k133 c137 s138) fun k139 =>
 condK x136 (
 let s140 := newB s135 (.cells [(V.str (BS.mk 1 41))]);
 callK (D 21 [(V.ptr v0b v0o), (V.sl (H.next s135) 0 1 (.ex 1))] s140) fun u141 s142 =>
 rtBool u141 fun x143 =>
 k139 x143 s142) (
 k139 false s135))) (
 callK (D 43 [(V.ptr v0b v0o), (V.str (BS.mk 5 361940403023))] s125) fun u144 s145 =>
 rtBool u144 fun x146 =>
 condK x146 (
 stK 1 (H.next s3) 0 (V.int .i64 (Int.ofNat 5)) s145 fun s147 =>
 let s148 := newB s147 (.cells [(V.str (BS.mk 6 78401563153491))]);
 callK (D 21 [(V.ptr v0b v0o), (V.sl (H.next s147) 0 1 (.ex 1))] s148) fun u149 s150 =>
 rtBool u149 fun x151 =>
 joinB (fun c152 s153 =>
 K1 (H.next σ) 0 c152 (H.next s3) 0 s153) fun k154 =>
 condK x151 (
 callK (D 63 [(V.ptr v0b v0o), (V.ptr (H.next s3) 5)] s150) fun u155 s156 =>
 rtBool u155 fun x157 =>
 k154 x157 s156) (
 k154 false s150)) (
 callK (D 43 [(V.ptr v0b v0o), (V.str (BS.mk 10 322399817400452109389381))] s145) fun u158 s159 =>
 rtBool u158 fun x160 =>
 condK x160 (
 stK 1 (H.next s3) 0 (V.int .i64 (Int.ofNat 3)) s159 fun s161 =>
 callK (D 65 [(V.ptr v0b v0o), (V.ptr (H.next s3) 0)] s161) fun u162 s163 =>
 rtBool u162 fun x164 =>
 K1 (H.next σ) 0 x164 (H.next s3) 0 s163) (
 callK (D 43 [(V.ptr v0b v0o), (V.str (BS.mk 3 5522771))] s159) fun u165 s166 =>
 rtBool u165 fun x167 =>
 condK x167 (
 stK 1 (H.next s3) 0 (V.int .i64 (Int.ofNat 8)) s166 fun s168 =>
 callK (D 66 [(V.ptr v0b v0o), (V.ptr (H.next s3) 0), (V.int .i64 v1)] s168) fun u169 s170 =>
 rtBool u169 fun x171 =>
 K1 (H.next σ) 0 x171 (H.next s3) 0 s170) (
 callK (D 43 [(V.ptr v0b v0o), (V.str (BS.mk 6 76155295057987))] s166) fun u172 s173 =>
 rtBool u172 fun x174 =>
 condK x174 (
 stK 1 (H.next s3) 0 (V.int .i64 (Int.ofNat 9)) s173 fun s175 =>
 callK (D 66 [(V.ptr v0b v0o), (V.ptr (H.next s3) 0), (V.int .i64 v1)] s175) fun u176 s177 =>
 rtBool u176 fun x178 =>
 K1 (H.next σ) 0 x178 (H.next s3) 0 s177) (
 callK (D 43 [(V.ptr v0b v0o), (V.str (BS.mk 8 4990918871747741011))] s173) fun u179 s180 =>
 rtBool u179 fun x181 =>
 condK x181 (
 callK (D 67 [(V.ptr v0b v0o), (V.ptr (H.next s3) 0), (V.int .i64 v1)] s180) fun u182 s183 =>
 rtBool u182 fun x184 =>
 K1 (H.next σ) 0 x184 (H.next s3) 0 s183) (
 callK (D 23 [(V.ptr v0b v0o)] s180) fun u185 s186 =>
 rtAgg u185 fun l187 =>
 rtCons l187 fun x188 l189 =>
 rtInt .i64 x188 fun x190 =>
 rtCons l189 fun x191 l192 =>
 rtStr x191 fun x193 =>
 rtCons l192 fun x194 l195 =>
 rtInt .i64 x194 fun x196 =>
 rtNil l195 (
 callK (D 41 [(V.ptr v0b v0o), (V.int .i64 x196), (V.int .i64 (Int.ofNat 7))] s186) fun u197 s198 =>
 rtBool u197 fun x199 =>
 K1 (H.next σ) 0 x199 (H.next s3) 0 s198)))))))))))))))
def C53_1 : XC := (.seq (.ops (.op (some 133) (.agg [(.int .i64), .str, .bool, (.int .i64), (.int .i64), .bool, .bool, .bool, .bool, (.int .i64), (.int .i64), .any, .any, (.int .i64), .bool, (.int .i64)]) [8] (.load (some 16) (.tmp 8)) <|
 .op (some 134) .any [7] (.mov (.tmp 7)) <|
 .op none (.agg [(.int .i64), .str, .bool, (.int .i64), (.int .i64), .bool, .bool, .bool, .bool, (.int .i64), (.int .i64), .any, .any, (.int .i64), .bool, (.int .i64)]) [4, 133] (.store 16 (.tmp 4) (.tmp 133)) <|
 .op (some 5) .any [134] (.mov (.tmp 134)) <|
 .nil))
 .ret)
def T53_1 (E : List (Nat × Blk)) (D : Den) (W : DrawFn) (v4b : Nat) (v4o : Nat) (v7 : Bool) (v8b : Nat) (v8o : Nat) (σ : H) : Ans :=
 ldnK E σ v8b v8o 16 fun l1 =>
 rtCons l1 fun x2 l3 =>
 rtInt .i64 x2 fun x4 =>
 rtCons l3 fun x5 l6 =>
 rtStr x5 fun x7 =>
 rtCons l6 fun x8 l9 =>
 rtBool x8 fun x10 =>
 rtCons l9 fun x11 l12 =>
 rtInt .i64 x11 fun x13 =>
 rtCons l12 fun x14 l15 =>
 rtInt .i64 x14 fun x16 =>
 rtCons l15 fun x17 l18 =>
 rtBool x17 fun x19 =>
 rtCons l18 fun x20 l21 =>
 rtBool x20 fun x22 =>
 rtCons l21 fun x23 l24 =>
 rtBool x23 fun x25 =>
 rtCons l24 fun x26 l27 =>
 rtBool x26 fun x28 =>
 rtCons l27 fun x29 l30 =>
 rtInt .i64 x29 fun x31 =>
 rtCons l30 fun x32 l33 =>
 rtInt .i64 x32 fun x34 =>
 rtCons l33 fun x35 l36 =>
 rtCons l36 fun x37 l38 =>
 rtCons l38 fun x39 l40 =>
 rtInt .i64 x39 fun x41 =>
 rtCons l40 fun x42 l43 =>
 rtBool x42 fun x44 =>
 rtCons l43 fun x45 l46 =>
 rtInt .i64 x45 fun x47 =>
 rtNil l46 (
 stK 16 v4b v4o (V.agg [(V.int .i64 x4), (V.str x7), (V.bool x10), (V.int .i64 x13), (V.int .i64 x16), (V.bool x19), (V.bool x22), (V.bool x25), (V.bool x28), (V.int .i64 x31), (V.int .i64 x34), x35, x37, (V.int .i64 x41), (V.bool x44), (V.int .i64 x47)]) σ fun s48 =>
 ldnK E s48 v4b v4o 16 fun u49 =>
 some ((V.tup [(V.agg u49), (V.bool v7)]), s48))
theorem P53_0 (E : List (Nat × Blk)) (D : Den) (W : DrawFn) (N : Nat) (cc1 : XC) (v0b : Nat) (v0o : Nat) (v1 : Int) (σ : H) :
  denC E D W N (C53_0 cc1) ⟨[(0, (V.ptr v0b v0o)), (1, (V.int .i64 v1))], [], [], σ⟩ (Fin53 E) (fun _ _ => none) (Fin53 E) =
  T53_0 E D W (fun v4b v4o v7 v8b v8o σ => denC E D W N cc1 ⟨[(4, (V.ptr v4b v4o)), (7, (V.bool v7)), (8, (V.ptr v8b v8o))], [], [], σ⟩ (Fin53 E) (fun _ _ => none) (Fin53 E)) v0b v0o v1 σ := by kernel_rfl
theorem P53_1 (E : List (Nat × Blk)) (D : Den) (W : DrawFn) (N : Nat) (v4b : Nat) (v4o : Nat) (v7 : Bool) (v8b : Nat) (v8o : Nat) (σ : H) :
  denC E D W N (C53_1 ) ⟨[(4, (V.ptr v4b v4o)), (7, (V.bool v7)), (8, (V.ptr v8b v8o))], [], [], σ⟩ (Fin53 E) (fun _ _ => none) (Fin53 E) =
  T53_1 E D W  v4b v4o v7 v8b v8o σ := by kernel_rfl
def J53_1 (E : List (Nat × Blk)) (D : Den) (W : DrawFn) (N : Nat) : Nat → Nat → Bool → Nat → Nat → H → Ans := T53_1 E D W 
theorem JE53_1 (E : List (Nat × Blk)) (D : Den) (W : DrawFn) (N : Nat) (v4b : Nat) (v4o : Nat) (v7 : Bool) (v8b : Nat) (v8o : Nat) (σ : H) :
  denC E D W N C53_1 ⟨[(4, (V.ptr v4b v4o)), (7, (V.bool v7)), (8, (V.ptr v8b v8o))], [], [], σ⟩ (Fin53 E) (fun _ _ => none) (Fin53 E) = J53_1 E D W N v4b v4o v7 v8b v8o σ := by
  refine (P53_1 E D W N   v4b v4o v7 v8b v8o σ).trans ?_
  kernel_rfl
def J53_0 (E : List (Nat × Blk)) (D : Den) (W : DrawFn) (N : Nat) : Nat → Nat → Int → H → Ans := T53_0 E D W (J53_1 E D W N )
theorem JE53_0 (E : List (Nat × Blk)) (D : Den) (W : DrawFn) (N : Nat) (v0b : Nat) (v0o : Nat) (v1 : Int) (σ : H) :
  denC E D W N (C53_0 C53_1) ⟨[(0, (V.ptr v0b v0o)), (1, (V.int .i64 v1))], [], [], σ⟩ (Fin53 E) (fun _ _ => none) (Fin53 E) = J53_0 E D W N v0b v0o v1 σ := by
  refine (P53_0 E D W N C53_1  v0b v0o v1 σ).trans ?_
  simp only [JE53_1]
  kernel_rfl
def F53 (E : List (Nat × Blk)) (D : Den) (W : DrawFn) (N : Nat) (args : List V) (σ : H) : Ans :=
 rtCons args fun x1 l2 =>
 rtPtr x1 fun b3 o4 =>
 rtCons l2 fun x5 l6 =>
 rtInt .i64 x5 fun x7 =>
 rtNil l6 (
 J53_0 E D W N b3 o4 x7 σ)
def A53 : XFn := ⟨135, [.ptr, (.int .i64)], [(.cell 4 (some 16)), (.tmp 5)], (C53_0 C53_1)⟩
theorem FE53 (E : List (Nat × Blk)) (D : Den) (W : DrawFn) (N : Nat) (args : List V) (σ : H) : runX E D W N A53 args σ = F53 E D W N args σ := by
  unfold F53
  simp only [← JE53_0]
  kernel_rfl
theorem AO53 : A53.body.ok = true := by kernel_rfl

/-! ### F58: internal_stringslite.HasPrefix -/
def Fin58 (E : List (Nat × Blk)) : St → Ans := fun s => resK E s [(.tmp 4)] fun l => some (oneV l, s.σ)
def C58_0 : XC := (.seq (.ops (.op (some 4) .any [] (.mov (.con (V.bool false))) <|
 .nil))
 (.seq (.ops (.op (some 5) .any [0] (.mov (.tmp 0)) <|
 .op (some 6) .any [5] (.len true (.tmp 5)) <|
 .op (some 7) .any [1] (.mov (.tmp 1)) <|
 .op (some 8) .any [7] (.len true (.tmp 7)) <|
 .op (some 9) .any [6, 8] (.bin .geq .none (.tmp 6) (.tmp 8)) <|
 .op (some 10) .any [9] (.mov (.tmp 9)) <|
 .grp 10 true (.op (some 11) .any [0, 10] (.mov (.tmp 0)) <|
 .op (some 12) .any [1, 10] (.mov (.tmp 1)) <|
 .op (some 13) .any [12, 10] (.len true (.tmp 12)) <|
 .op (some 14) .any [11, 13, 10] (.sliceStr (.tmp 11) none (some (.tmp 13))) <|
 .op (some 15) .any [1, 10] (.mov (.tmp 1)) <|
 .op (some 16) .any [14, 15, 10] (.bin .eql .none (.tmp 14) (.tmp 15)) <|
 .nil) 17 [10, 16] (.tmp 10) (.tmp 16) (.con (V.bool false)) <|
 .op (some 4) .any [17] (.mov (.tmp 17)) <|
 .nil))
 .ret))
def T58_0 (E : List (Nat × Blk)) (D : Den) (W : DrawFn) (v0 : BS) (v1 : BS) (σ : H) : Ans :=
 joinB (fun c1 s2 =>
 some ((V.bool c1), s2)) fun k3 =>
 condK (leF (Int.ofNat (BS.len v1)) (Int.ofNat (BS.len v0))) (
 sliceStrX v0 none (some (V.int .i64 (Int.ofNat (BS.len v1)))) fun t4 =>
 k3 (BS.beq t4 v1) σ) (
 k3 false σ)
theorem P58_0 (E : List (Nat × Blk)) (D : Den) (W : DrawFn) (N : Nat) (v0 : BS) (v1 : BS) (σ : H) :
  denC E D W N (C58_0 ) ⟨[(0, (V.str v0)), (1, (V.str v1))], [], [], σ⟩ (Fin58 E) (fun _ _ => none) (Fin58 E) =
  T58_0 E D W  v0 v1 σ := by kernel_rfl
def J58_0 (E : List (Nat × Blk)) (D : Den) (W : DrawFn) (N : Nat) : BS → BS → H → Ans := T58_0 E D W 
theorem JE58_0 (E : List (Nat × Blk)) (D : Den) (W : DrawFn) (N : Nat) (v0 : BS) (v1 : BS) (σ : H) :
  denC E D W N C58_0 ⟨[(0, (V.str v0)), (1, (V.str v1))], [], [], σ⟩ (Fin58 E) (fun _ _ => none) (Fin58 E) = J58_0 E D W N v0 v1 σ := by
  refine (P58_0 E D W N   v0 v1 σ).trans ?_
  kernel_rfl
def F58 (E : List (Nat × Blk)) (D : Den) (W : DrawFn) (N : Nat) (args : List V) (σ : H) : Ans :=
 rtCons args fun x1 l2 =>
 rtStr x1 fun x3 =>
 rtCons l2 fun x4 l5 =>
 rtStr x4 fun x6 =>
 rtNil l5 (
 J58_0 E D W N x3 x6 σ)
def A58 : XFn := ⟨18, [.str, .str], [(.tmp 4)], C58_0⟩
theorem FE58 (E : List (Nat × Blk)) (D : Den) (W : DrawFn) (N : Nat) (args : List V) (σ : H) : runX E D W N A58 args σ = F58 E D W N args σ := by
  unfold F58
  simp only [← JE58_0]
  kernel_rfl
theorem AO58 : A58.body.ok = true := by kernel_rfl

/-! ### F59: internal_strconv.ParseInt -/
def Fin59 (E : List (Nat × Blk)) : St → Ans := fun s => resK E s [(.tmp 6), (.tmp 7)] fun l => some (oneV l, s.σ)
def C59_0 (cc1 : XC) : XC := (.seq (.ops (.op (some 6) .any [] (.mov (.con (V.int .i64 (Int.ofNat 0)))) <|
 .op (some 7) .any [] (.mov (.con V.nili)) <|
 .nil))
 (.seq (.seq (.ops (.op (some 12) .any [0] (.mov (.tmp 0)) <|
 .op (some 13) .any [12] (.bin .eql .none (.tmp 12) (.con (V.str ⟨0, 0⟩))) <|
 .nil))
 (.cond (.tmp 13) (.seq (.ops (.op (some 14) .any [] (.mkifc 126 (.con (V.int .i64 (Int.ofNat 2)))) <|
 .op (some 6) .any [] (.mov (.con (V.int .i64 (Int.ofNat 0)))) <|
 .op (some 7) .any [14] (.mov (.tmp 14)) <|
 .nil))
 .ret)
 .skip))
 (.seq (.ops (.op (some 8) .any [] (.mov (.con (V.bool false))) <|
 .nil))
 (.seq (.seq (.ops (.op (some 15) .any [0] (.mov (.tmp 0)) <|
 .op (some 16) .any [15] (.idxStr (.tmp 15) (.con (V.int .i64 (Int.ofNat 0)))) <|
 .nil))
 (.block 0 (.seq (.ops (.op (some 18) .any [16] (.bin .eql .none (.tmp 16) (.con (V.int .u8 (Int.ofNat 43)))) <|
 .op (some 17) .any [18] (.mov (.tmp 18)) <|
 .nil))
 (.cond (.tmp 17) (.ops (.op (some 19) .any [0] (.mov (.tmp 0)) <|
 .op (some 20) .any [19] (.sliceStr (.tmp 19) (some (.con (V.int .i64 (Int.ofNat 1)))) none) <|
 .op (some 0) .any [20] (.mov (.tmp 20)) <|
 .nil))
 (.seq (.ops (.op (some 22) .any [16] (.bin .eql .none (.tmp 16) (.con (V.int .u8 (Int.ofNat 45)))) <|
 .op (some 21) .any [22] (.mov (.tmp 22)) <|
 .nil))
 (.cond (.tmp 21) (.seq (.ops (.op (some 23) .any [0] (.mov (.tmp 0)) <|
 .op (some 24) .any [23] (.sliceStr (.tmp 23) (some (.con (V.int .i64 (Int.ofNat 1)))) none) <|
 .op (some 0) .any [24] (.mov (.tmp 24)) <|
 .nil))
 (.ops (.op (some 8) .any [] (.mov (.con (V.bool true))) <|
 .nil)))
 .skip))))))
 (.keep [(0, .str), (1, (.int .i64)), (2, (.int .i64)), (8, .bool)] [] [] cc1)))))
def T59_0 (E : List (Nat × Blk)) (D : Den) (W : DrawFn) (K1 : BS → Int → Int → Bool → H → Ans) (v0 : BS) (v1 : Int) (v2 : Int) (σ : H) : Ans :=
 condK (BS.beq v0 (BS.mk 0 0)) (
 some ((V.tup [(V.int .i64 (Int.ofNat 0)), (V.ifc 126 (V.int .i64 (Int.ofNat 2)))]), σ)) (
 idxStrX v0 (Int.ofNat 0) fun x1 =>
 condK (eqF x1 (Int.ofNat 43)) (
 sliceStrX v0 (some (V.int .i64 (Int.ofNat 1))) none fun t2 =>
 K1 t2 v1 v2 false σ) (
 condK (eqF x1 (Int.ofNat 45)) (
 sliceStrX v0 (some (V.int .i64 (Int.ofNat 1))) none fun t3 =>
 K1 t3 v1 v2 true σ) (
 K1 v0 v1 v2 false σ)))
def C59_1 (cc2 : XC) : XC := (.seq (.ops (.op (some 9) .any [] (.mov (.con (V.int .u64 (Int.ofNat 0)))) <|
 .nil))
 (.seq (.ops (.op (some 26) .any [0] (.mov (.tmp 0)) <|
 .op (some 27) .any [1] (.mov (.tmp 1)) <|
 .op (some 28) .any [2] (.mov (.tmp 2)) <|
 .op (some 29) (.tup [(.int .u64), .any]) [26, 27, 28] (.call 68 [(.tmp 26), (.tmp 27), (.tmp 28)]) <|
 .op (some 25) .any [29] (.mov (.tmp 29)) <|
 .op (some 30) .any [25] (.extract 0 (.tmp 25)) <|
 .op (some 31) .any [25] (.extract 1 (.tmp 25)) <|
 .op (some 9) .any [30] (.mov (.tmp 30)) <|
 .op (some 7) .any [31] (.mov (.tmp 31)) <|
 .nil))
 (.seq (.seq (.ops (.op (some 32) .any [7] (.mov (.tmp 7)) <|
 .op (some 33) .any [32] (.bin .neq (.iface true) (.tmp 32) (.con V.nili)) <|
 .op (some 34) .any [33] (.mov (.tmp 33)) <|
 .grp 34 true (.op (some 35) .any [7, 34] (.mov (.tmp 7)) <|
 .op (some 36) .any [34] (.mkifc 126 (.con (V.int .i64 (Int.ofNat 1)))) <|
 .op (some 37) .any [35, 36, 34] (.bin .neq (.iface false) (.tmp 35) (.tmp 36)) <|
 .nil) 38 [34, 37] (.tmp 34) (.tmp 37) (.con (V.bool false)) <|
 .nil))
 (.cond (.tmp 38) (.seq (.ops (.op (some 39) .any [7] (.mov (.tmp 7)) <|
 .op (some 6) .any [] (.mov (.con (V.int .i64 (Int.ofNat 0)))) <|
 .op (some 7) .any [39] (.mov (.tmp 39)) <|
 .nil))
 .ret)
 .skip))
 (.seq (.seq (.ops (.op (some 40) .any [2] (.mov (.tmp 2)) <|
 .op (some 41) .any [40] (.bin .eql .none (.tmp 40) (.con (V.int .i64 (Int.ofNat 0)))) <|
 .nil))
 (.cond (.tmp 41) (.ops (.op (some 2) .any [] (.mov (.con (V.int .i64 (Int.ofNat 64)))) <|
 .nil))
 .skip))
 (.keep [(2, (.int .i64)), (8, .bool), (9, (.int .u64))] [] [] cc2)))))
def T59_1 (E : List (Nat × Blk)) (D : Den) (W : DrawFn) (K2 : Int → Bool → Int → H → Ans) (v0 : BS) (v1 : Int) (v2 : Int) (v8 : Bool) (σ : H) : Ans :=
 callK (D 68 [(V.str v0), (V.int .i64 v1), (V.int .i64 v2)] σ) fun u1 s2 =>
 rtTup u1 fun l3 =>
 rtCons l3 fun x4 l5 =>
 rtInt .u64 x4 fun x6 =>
 rtCons l5 fun x7 l8 =>
 rtNil l8 (
 eqK (.iface true) x7 V.nili fun c9 =>
 joinB (fun c10 s11 =>
 condK c10 (
 some ((V.tup [(V.int .i64 (Int.ofNat 0)), x7]), s11)) (
 condK (eqF v2 (Int.ofNat 0)) (
 K2 (Int.ofNat 64) v8 x6 s11) (
 K2 v2 v8 x6 s11))) fun k12 =>
 condK (not c9) (
 eqK (.iface false) x7 (V.ifc 126 (V.int .i64 (Int.ofNat 1))) fun c13 =>
 k12 (not c13) s2) (
 k12 false s2))
def C59_2 (cc3 : XC) : XC := (.seq (.ops (.op (some 42) .any [2] (.mov (.tmp 2)) <|
 .op (some 43) .any [42] (.bin .sub .none (.tmp 42) (.con (V.int .i64 (Int.ofNat 1)))) <|
 .op (some 44) .any [43] (.conv (.toInt .u64) (.tmp 43)) <|
 .op (some 45) .any [44] (.bin .shl .none (.con (V.int .u64 (Int.ofNat 1))) (.tmp 44)) <|
 .op (some 10) .any [45] (.mov (.tmp 45)) <|
 .nil))
 (.seq (.seq (.ops (.op (some 46) .any [8] (.mov (.tmp 8)) <|
 .op (some 47) .any [46] (.un .not (.tmp 46)) <|
 .op (some 48) .any [47] (.mov (.tmp 47)) <|
 .grp 48 true (.op (some 49) .any [9, 48] (.mov (.tmp 9)) <|
 .op (some 50) .any [10, 48] (.mov (.tmp 10)) <|
 .op (some 51) .any [49, 50, 48] (.bin .geq .none (.tmp 49) (.tmp 50)) <|
 .nil) 52 [48, 51] (.tmp 48) (.tmp 51) (.con (V.bool false)) <|
 .nil))
 (.cond (.tmp 52) (.seq (.ops (.op (some 53) .any [10] (.mov (.tmp 10)) <|
 .op (some 54) .any [53] (.bin .sub .none (.tmp 53) (.con (V.int .u64 (Int.ofNat 1)))) <|
 .op (some 55) .any [54] (.conv (.toInt .i64) (.tmp 54)) <|
 .op (some 56) .any [] (.mkifc 126 (.con (V.int .i64 (Int.ofNat 1)))) <|
 .op (some 6) .any [55] (.mov (.tmp 55)) <|
 .op (some 7) .any [56] (.mov (.tmp 56)) <|
 .nil))
 .ret)
 .skip))
 (.seq (.seq (.ops (.op (some 57) .any [8] (.mov (.tmp 8)) <|
 .op (some 58) .any [57] (.mov (.tmp 57)) <|
 .grp 58 true (.op (some 59) .any [9, 58] (.mov (.tmp 9)) <|
 .op (some 60) .any [10, 58] (.mov (.tmp 10)) <|
 .op (some 61) .any [59, 60, 58] (.bin .gtr .none (.tmp 59) (.tmp 60)) <|
 .nil) 62 [58, 61] (.tmp 58) (.tmp 61) (.con (V.bool false)) <|
 .nil))
 (.cond (.tmp 62) (.seq (.ops (.op (some 63) .any [10] (.mov (.tmp 10)) <|
 .op (some 64) .any [63] (.conv (.toInt .i64) (.tmp 63)) <|
 .op (some 65) .any [64] (.un .neg (.tmp 64)) <|
 .op (some 66) .any [] (.mkifc 126 (.con (V.int .i64 (Int.ofNat 1)))) <|
 .op (some 6) .any [65] (.mov (.tmp 65)) <|
 .op (some 7) .any [66] (.mov (.tmp 66)) <|
 .nil))
 .ret)
 .skip))
 (.seq (.ops (.op (some 67) .any [9] (.mov (.tmp 9)) <|
 .op (some 68) .any [67] (.conv (.toInt .i64) (.tmp 67)) <|
 .op (some 11) .any [68] (.mov (.tmp 68)) <|
 .nil))
 (.seq (.seq (.ops (.op (some 69) .any [8] (.mov (.tmp 8)) <|
 .nil))
 (.cond (.tmp 69) (.ops (.op (some 70) .any [11] (.mov (.tmp 11)) <|
 .op (some 71) .any [70] (.un .neg (.tmp 70)) <|
 .op (some 11) .any [71] (.mov (.tmp 71)) <|
 .nil))
 .skip))
 (.keep [(11, (.int .i64))] [] [] cc3))))))
def T59_2 (E : List (Nat × Blk)) (D : Den) (W : DrawFn) (K3 : Int → H → Ans) (v2 : Int) (v8 : Bool) (v9 : Int) (σ : H) : Ans :=
 nnK (wrapF .u64 (subF .i64 v2 (Int.ofNat 1))) fun n1 =>
 joinB (fun c2 s3 =>
 condK c2 (
 some ((V.tup [(V.int .i64 (wrapF .i64 (subF .u64 (shlF .u64 (Int.ofNat 1) n1) (Int.ofNat 1)))), (V.ifc 126 (V.int .i64 (Int.ofNat 1)))]), s3)) (
 joinB (fun c5 s6 =>
 condK c5 (
 some ((V.tup [(V.int .i64 (negF .i64 (wrapF .i64 (shlF .u64 (Int.ofNat 1) n1)))), (V.ifc 126 (V.int .i64 (Int.ofNat 1)))]), s6)) (
 condK v8 (
 K3 (negF .i64 (wrapF .i64 v9)) s6) (
 K3 (wrapF .i64 v9) s6))) fun k7 =>
 condK v8 (
 k7 (ltF (shlF .u64 (Int.ofNat 1) n1) v9) s3) (
 k7 false s3))) fun k4 =>
 condK (not v8) (
 k4 (leF (shlF .u64 (Int.ofNat 1) n1) v9) σ) (
 k4 false σ)
def C59_3 : XC := (.seq (.ops (.op (some 72) .any [11] (.mov (.tmp 11)) <|
 .op (some 6) .any [72] (.mov (.tmp 72)) <|
 .op (some 7) .any [] (.mov (.con V.nili)) <|
 .nil))
 .ret)
def T59_3 (E : List (Nat × Blk)) (D : Den) (W : DrawFn) (v11 : Int) (σ : H) : Ans :=
 some ((V.tup [(V.int .i64 v11), V.nili]), σ)
theorem P59_0 (E : List (Nat × Blk)) (D : Den) (W : DrawFn) (N : Nat) (cc1 : XC) (v0 : BS) (v1 : Int) (v2 : Int) (σ : H) :
  denC E D W N (C59_0 cc1) ⟨[(0, (V.str v0)), (1, (V.int .i64 v1)), (2, (V.int .i64 v2))], [], [], σ⟩ (Fin59 E) (fun _ _ => none) (Fin59 E) =
  T59_0 E D W (fun v0 v1 v2 v8 σ => denC E D W N cc1 ⟨[(0, (V.str v0)), (1, (V.int .i64 v1)), (2, (V.int .i64 v2)), (8, (V.bool v8))], [], [], σ⟩ (Fin59 E) (fun _ _ => none) (Fin59 E)) v0 v1 v2 σ := by kernel_rfl
theorem P59_1 (E : List (Nat × Blk)) (D : Den) (W : DrawFn) (N : Nat) (cc2 : XC) (v0 : BS) (v1 : Int) (v2 : Int) (v8 : Bool) (σ : H) :
  denC E D W N (C59_1 cc2) ⟨[(0, (V.str v0)), (1, (V.int .i64 v1)), (2, (V.int .i64 v2)), (8, (V.bool v8))], [], [], σ⟩ (Fin59 E) (fun _ _ => none) (Fin59 E) =
  T59_1 E D W (fun v2 v8 v9 σ => denC E D W N cc2 ⟨[(2, (V.int .i64 v2)), (8, (V.bool v8)), (9, (V.int .u64 v9))], [], [], σ⟩ (Fin59 E) (fun _ _ => none) (Fin59 E)) v0 v1 v2 v8 σ := by kernel_rfl
theorem P59_2 (E : List (Nat × Blk)) (D : Den) (W : DrawFn) (N : Nat) (cc3 : XC) (v2 : Int) (v8 : Bool) (v9 : Int) (σ : H) :
  denC E D W N (C59_2 cc3) ⟨[(2, (V.int .i64 v2)), (8, (V.bool v8)), (9, (V.int .u64 v9))], [], [], σ⟩ (Fin59 E) (fun _ _ => none) (Fin59 E) =
  T59_2 E D W (fun v11 σ => denC E D W N cc3 ⟨[(11, (V.int .i64 v11))], [], [], σ⟩ (Fin59 E) (fun _ _ => none) (Fin59 E)) v2 v8 v9 σ := by kernel_rfl
theorem P59_3 (E : List (Nat × Blk)) (D : Den) (W : DrawFn) (N : Nat) (v11 : Int) (σ : H) :
  denC E D W N (C59_3 ) ⟨[(11, (V.int .i64 v11))], [], [], σ⟩ (Fin59 E) (fun _ _ => none) (Fin59 E) =
  T59_3 E D W  v11 σ := by kernel_rfl
def J59_3 (E : List (Nat × Blk)) (D : Den) (W : DrawFn) (N : Nat) : Int → H → Ans := T59_3 E D W 
theorem JE59_3 (E : List (Nat × Blk)) (D : Den) (W : DrawFn) (N : Nat) (v11 : Int) (σ : H) :
  denC E D W N C59_3 ⟨[(11, (V.int .i64 v11))], [], [], σ⟩ (Fin59 E) (fun _ _ => none) (Fin59 E) = J59_3 E D W N v11 σ := by
  refine (P59_3 E D W N   v11 σ).trans ?_
  kernel_rfl
def J59_2 (E : List (Nat × Blk)) (D : Den) (W : DrawFn) (N : Nat) : Int → Bool → Int → H → Ans := T59_2 E D W (J59_3 E D W N )
theorem JE59_2 (E : List (Nat × Blk)) (D : Den) (W : DrawFn) (N : Nat) (v2 : Int) (v8 : Bool) (v9 : Int) (σ : H) :
  denC E D W N (C59_2 C59_3) ⟨[(2, (V.int .i64 v2)), (8, (V.bool v8)), (9, (V.int .u64 v9))], [], [], σ⟩ (Fin59 E) (fun _ _ => none) (Fin59 E) = J59_2 E D W N v2 v8 v9 σ := by
  refine (P59_2 E D W N C59_3  v2 v8 v9 σ).trans ?_
  simp only [JE59_3]
  kernel_rfl
def J59_1 (E : List (Nat × Blk)) (D : Den) (W : DrawFn) (N : Nat) : BS → Int → Int → Bool → H → Ans := T59_1 E D W (J59_2 E D W N )
theorem JE59_1 (E : List (Nat × Blk)) (D : Den) (W : DrawFn) (N : Nat) (v0 : BS) (v1 : Int) (v2 : Int) (v8 : Bool) (σ : H) :
  denC E D W N (C59_1 (C59_2 C59_3)) ⟨[(0, (V.str v0)), (1, (V.int .i64 v1)), (2, (V.int .i64 v2)), (8, (V.bool v8))], [], [], σ⟩ (Fin59 E) (fun _ _ => none) (Fin59 E) = J59_1 E D W N v0 v1 v2 v8 σ := by
  refine (P59_1 E D W N (C59_2 C59_3)  v0 v1 v2 v8 σ).trans ?_
  simp only [JE59_2]
  kernel_rfl
def J59_0 (E : List (Nat × Blk)) (D : Den) (W : DrawFn) (N : Nat) : BS → Int → Int → H → Ans := T59_0 E D W (J59_1 E D W N )
theorem JE59_0 (E : List (Nat × Blk)) (D : Den) (W : DrawFn) (N : Nat) (v0 : BS) (v1 : Int) (v2 : Int) (σ : H) :
  denC E D W N (C59_0 (C59_1 (C59_2 C59_3))) ⟨[(0, (V.str v0)), (1, (V.int .i64 v1)), (2, (V.int .i64 v2))], [], [], σ⟩ (Fin59 E) (fun _ _ => none) (Fin59 E) = J59_0 E D W N v0 v1 v2 σ := by
  refine (P59_0 E D W N (C59_1 (C59_2 C59_3))  v0 v1 v2 σ).trans ?_
  simp only [JE59_1]
  kernel_rfl
def F59 (E : List (Nat × Blk)) (D : Den) (W : DrawFn) (N : Nat) (args : List V) (σ : H) : Ans :=
 rtCons args fun x1 l2 =>
 rtStr x1 fun x3 =>
 rtCons l2 fun x4 l5 =>
 rtInt .i64 x4 fun x6 =>
 rtCons l5 fun x7 l8 =>
 rtInt .i64 x7 fun x9 =>
 rtNil l8 (
 J59_0 E D W N x3 x6 x9 σ)
def A59 : XFn := ⟨73, [.str, (.int .i64), (.int .i64)], [(.tmp 6), (.tmp 7)], (C59_0 (C59_1 (C59_2 C59_3)))⟩
theorem FE59 (E : List (Nat × Blk)) (D : Den) (W : DrawFn) (N : Nat) (args : List V) (σ : H) : runX E D W N A59 args σ = F59 E D W N args σ := by
  unfold F59
  simp only [← JE59_0]
  kernel_rfl
theorem AO59 : A59.body.ok = true := by kernel_rfl

/-! ### F62: __ogham_syntax.parser_.mark -/
def Fin62 (E : List (Nat × Blk)) : St → Ans := fun s => resK E s [(.cell 2 (some 3)), (.tmp 3)] fun l => some (oneV l, s.σ)
def C62_0 (cc1 : XC) : XC := (.seq (.ops (.pal 2 [] 33 [(V.bool false), (V.int .i64 (Int.ofNat 0)), (V.int .i64 (Int.ofNat 0))] <|
 .op (some 3) .any [] (.mov (.con (V.bool false))) <|
 .nil))
 (.seq (.seq (.ops (.op (some 8) .any [0] (.mov (.tmp 0)) <|
 .op (some 9) .any [8] (.nilck (.tmp 8)) <|
 .op (some 10) .any [9] (.faddr 0 (.tmp 9)) <|
 .op (some 11) .bool [10] (.call 43 [(.tmp 10), (.con (V.str ⟨1, 91⟩))]) <|
 .op (some 12) .any [11] (.un .not (.tmp 11)) <|
 .nil))
 (.cond (.tmp 12) (.seq (.ops (.op (some 13) (.agg [.bool, (.int .i64), (.int .i64)]) [] (.build [(V.bool false), (V.int .i64 (Int.ofNat 0)), (V.int .i64 (Int.ofNat 0))] []) <|
 .op none (.agg [.bool, (.int .i64), (.int .i64)]) [2, 13] (.store 3 (.tmp 2) (.tmp 13)) <|
 .op (some 3) .any [] (.mov (.con (V.bool true))) <|
 .nil))
 .ret)
 .skip))
 (.seq (.ops (.op (some 15) .any [0] (.mov (.tmp 0)) <|
 .op (some 16) (.tup [(.int .i64), (.agg [(.int .i64), .str, (.int .i64)]), .bool]) [15] (.call 73 [(.tmp 15)]) <|
 .op (some 14) .any [16] (.mov (.tmp 16)) <|
 .op (some 17) .any [14] (.extract 0 (.tmp 14)) <|
 .op (some 18) .any [14] (.extract 1 (.tmp 14)) <|
 .op (some 19) .any [14] (.extract 2 (.tmp 14)) <|
 .pal 5 [] 75 [(V.int .i64 (Int.ofNat 0)), (V.str ⟨0, 0⟩), (V.int .i64 (Int.ofNat 0))] <|
 .op (some 4) .any [17] (.mov (.tmp 17)) <|
 .op none (.agg [(.int .i64), .str, (.int .i64)]) [5, 18] (.store 3 (.tmp 5) (.tmp 18)) <|
 .op (some 6) .any [19] (.mov (.tmp 19)) <|
 .nil))
 (.seq (.block 0 (.seq (.ops (.op (some 21) .any [6] (.mov (.tmp 6)) <|
 .op (some 22) .any [21] (.un .not (.tmp 21)) <|
 .op (some 20) .any [22] (.mov (.tmp 22)) <|
 .nil))
 (.cond (.tmp 20) (.seq (.ops (.op (some 23) (.agg [.bool, (.int .i64), (.int .i64)]) [] (.build [(V.bool false), (V.int .i64 (Int.ofNat 0)), (V.int .i64 (Int.ofNat 0))] []) <|
 .op none (.agg [.bool, (.int .i64), (.int .i64)]) [2, 23] (.store 3 (.tmp 2) (.tmp 23)) <|
 .op (some 3) .any [] (.mov (.con (V.bool false))) <|
 .nil))
 .ret)
 (.seq (.ops (.op (some 25) .any [4] (.mov (.tmp 4)) <|
 .op (some 26) .any [25] (.bin .lss .none (.tmp 25) (.con (V.int .i64 (Int.ofNat 0)))) <|
 .op (some 27) .any [26] (.mov (.tmp 26)) <|
 .grp 27 false (.op (some 28) .any [4, 27] (.mov (.tmp 4)) <|
 .op (some 29) .any [28, 27] (.bin .gtr .none (.tmp 28) (.con (V.int .i64 (Int.ofNat 268435456)))) <|
 .nil) 30 [27, 29] (.tmp 27) (.con (V.bool true)) (.tmp 29) <|
 .op (some 24) .any [30] (.mov (.tmp 30)) <|
 .nil))
 (.cond (.tmp 24) (.seq (.ops (.op (some 31) (.agg [.bool, (.int .i64), (.int .i64)]) [] (.build [(V.bool false), (V.int .i64 (Int.ofNat 0)), (V.int .i64 (Int.ofNat 0))] []) <|
 .op (some 32) .any [0] (.mov (.tmp 0)) <|
 .op (some 33) .any [5] (.faddr 2 (.tmp 5)) <|
 .op (some 34) (.int .i64) [33] (.load none (.tmp 33)) <|
 .op (some 35) .bool [32, 34] (.call 41 [(.tmp 32), (.tmp 34), (.con (V.int .i64 (Int.ofNat 12)))]) <|
 .op none (.agg [.bool, (.int .i64), (.int .i64)]) [2, 31] (.store 3 (.tmp 2) (.tmp 31)) <|
 .op (some 3) .any [35] (.mov (.tmp 35)) <|
 .nil))
 .ret)
 (.seq (.ops (.op (some 37) .any [0] (.mov (.tmp 0)) <|
 .op (some 38) .any [] (.buildSlice 9 1 [(V.str ⟨0, 0⟩)] [(0, 1, (.con (V.str ⟨1, 93⟩)))]) <|
 .op (some 39) .bool [37, 38] (.call 21 [(.tmp 37), (.tmp 38)]) <|
 .op (some 40) .any [39] (.un .not (.tmp 39)) <|
 .op (some 36) .any [40] (.mov (.tmp 40)) <|
 .nil))
 (.cond (.tmp 36) (.seq (.ops (.op (some 41) (.agg [.bool, (.int .i64), (.int .i64)]) [] (.build [(V.bool false), (V.int .i64 (Int.ofNat 0)), (V.int .i64 (Int.ofNat 0))] []) <|
 .op none (.agg [.bool, (.int .i64), (.int .i64)]) [2, 41] (.store 3 (.tmp 2) (.tmp 41)) <|
 .op (some 3) .any [] (.mov (.con (V.bool false))) <|
 .nil))
 .ret)
 .skip)))))))
 (.seq (.ops (.op (some 42) .any [4] (.mov (.tmp 4)) <|
 .op (some 43) (.agg [.bool, (.int .i64), (.int .i64)]) [42] (.build [(V.bool false), (V.int .i64 (Int.ofNat 0)), (V.int .i64 (Int.ofNat 0))] [(0, 1, (.con (V.bool true))), (1, 1, (.tmp 42))]) <|
 .pal 7 [] 33 [(V.bool false), (V.int .i64 (Int.ofNat 0)), (V.int .i64 (Int.ofNat 0))] <|
 .op none (.agg [.bool, (.int .i64), (.int .i64)]) [7, 43] (.store 3 (.tmp 7) (.tmp 43)) <|
 .nil))
 (.seq (.block 1 (.seq (.ops (.op (some 45) .any [0] (.mov (.tmp 0)) <|
 .op (some 46) .any [45] (.nilck (.tmp 45)) <|
 .op (some 47) .any [46] (.faddr 0 (.tmp 46)) <|
 .op (some 48) .bool [47] (.call 43 [(.tmp 47), (.con (V.str ⟨8, 6073459554577832005⟩))]) <|
 .op (some 44) .any [48] (.mov (.tmp 48)) <|
 .nil))
 (.cond (.tmp 44) (.ops (.op (some 49) .any [7] (.faddr 2 (.tmp 7)) <|
 .op none .any [49] (.store 1 (.tmp 49) (.con (V.int .i64 (Int.ofNat 1)))) <|
 .nil))
 (.seq (.ops (.op (some 51) .any [0] (.mov (.tmp 0)) <|
 .op (some 52) .any [51] (.nilck (.tmp 51)) <|
 .op (some 53) .any [52] (.faddr 0 (.tmp 52)) <|
 .op (some 54) .bool [53] (.call 43 [(.tmp 53), (.con (V.str ⟨8, 6073459554577829193⟩))]) <|
 .op (some 50) .any [54] (.mov (.tmp 54)) <|
 .nil))
 (.cond (.tmp 50) (.ops (.op (some 55) .any [7] (.faddr 2 (.tmp 7)) <|
 .op none .any [55] (.store 1 (.tmp 55) (.con (V.int .i64 (Int.ofNat 2)))) <|
 .nil))
 .skip)))))
 (.keep [] [2, 7] [(2, [.bool, (.int .i64), (.int .i64)]), (7, [.bool, (.int .i64), (.int .i64)])] cc1)))))))
def T62_0 (E : List (Nat × Blk)) (D : Den) (W : DrawFn) (K1 : Bool → Int → Int → Bool → Int → Int → H → Ans) (v0b : Nat) (v0o : Nat) (σ : H) : Ans :=
 callK (D 43 [(V.ptr v0b v0o), (V.str (BS.mk 1 91))] σ) fun u1 s2 =>
 rtBool u1 fun x3 =>
 condK (not x3) (
 some ((V.tup [(V.agg [(V.bool false), (V.int .i64 (Int.ofNat 0)), (V.int .i64 (Int.ofNat 0))]), (V.bool true)]), s2)) (
 callK (D 73 [(V.ptr v0b v0o)] s2) fun u4 s5 =>
 rtTup u4 fun l6 =>
 rtCons l6 fun x7 l8 =>
 rtInt .i64 x7 fun x9 =>
 rtCons l8 fun x10 l11 =>
 rtAgg x10 fun l12 =>
 rtCons l12 fun x13 l14 =>
 rtInt .i64 x13 fun x15 =>
 rtCons l14 fun x16 l17 =>
 rtStr x16 fun x18 =>
 rtCons l17 fun x19 l20 =>
 rtInt .i64 x19 fun x21 =>
 rtNil l20 (
 rtCons l11 fun x22 l23 =>
 rtBool x22 fun x24 =>
 rtNil l23 (
 condK (not x24) (
 some ((V.tup [(V.agg [(V.bool false), (V.int .i64 (Int.ofNat 0)), (V.int .i64 (Int.ofNat 0))]), (V.bool false)]), s5)) (
 joinB (fun c25 s26 =>
 condK c25 (
 callK (D 41 [(V.ptr v0b v0o), (V.int .i64 x21), (V.int .i64 (Int.ofNat 12))] s26) fun u28 s29 =>
 rtBool u28 fun x30 =>
 some ((V.tup [(V.agg [(V.bool false), (V.int .i64 (Int.ofNat 0)), (V.int .i64 (Int.ofNat 0))]), (V.bool x30)]), s29)) (
 let s31 := newB s26 (.cells [(V.str (BS.mk 1 93))]);
 callK (D 21 [(V.ptr v0b v0o), (V.sl (H.next s26) 0 1 (.ex 1))] s31) fun u32 s33 =>
 rtBool u32 fun x34 =>
 condK (not x34) (
 some ((V.tup [(V.agg [(V.bool false), (V.int .i64 (Int.ofNat 0)), (V.int .i64 (Int.ofNat 0))]), (V.bool false)]), s33)) (
 callK (D 43 [(V.ptr v0b v0o), (V.str (BS.mk 8 6073459554577832005))] s33) fun u35 s36 =>
 rtBool u35 fun x37 =>
 condK x37 (
 K1 false (Int.ofNat 0) (Int.ofNat 0) true x9 (Int.ofNat 1) s36) (
 callK (D 43 [(V.ptr v0b v0o), (V.str (BS.mk 8 6073459554577829193))] s36) fun u38 s39 =>
 rtBool u38 fun x40 =>
 condK x40 (
 K1 false (Int.ofNat 0) (Int.ofNat 0) true x9 (Int.ofNat 2) s39) (
 K1 false (Int.ofNat 0) (Int.ofNat 0) true x9 (Int.ofNat 0) s39))))) fun k27 =>
 condK (ltF x9 (Int.ofNat 0)) (
 k27 true s5) (
 k27 (ltF (Int.ofNat 268435456) x9) s5)))))
def C62_1 : XC := (.seq (.ops (.op (some 56) (.agg [.bool, (.int .i64), (.int .i64)]) [7] (.load (some 3) (.tmp 7)) <|
 .op none (.agg [.bool, (.int .i64), (.int .i64)]) [2, 56] (.store 3 (.tmp 2) (.tmp 56)) <|
 .op (some 3) .any [] (.mov (.con (V.bool true))) <|
 .nil))
 .ret)
def T62_1 (E : List (Nat × Blk)) (D : Den) (W : DrawFn) (r2_0 : Bool) (r2_1 : Int) (r2_2 : Int) (r7_0 : Bool) (r7_1 : Int) (r7_2 : Int) (σ : H) : Ans :=
 some ((V.tup [(V.agg [(V.bool r7_0), (V.int .i64 r7_1), (V.int .i64 r7_2)]), (V.bool true)]), σ)
theorem P62_0 (E : List (Nat × Blk)) (D : Den) (W : DrawFn) (N : Nat) (cc1 : XC) (v0b : Nat) (v0o : Nat) (σ : H) :
  denC E D W N (C62_0 cc1) ⟨[(0, (V.ptr v0b v0o))], [], [], σ⟩ (Fin62 E) (fun _ _ => none) (Fin62 E) =
  T62_0 E D W (fun r2_0 r2_1 r2_2 r7_0 r7_1 r7_2 σ => denC E D W N cc1 ⟨[], [(2, (2, 0)), (7, (7, 0))], [(2, [(V.bool r2_0), (V.int .i64 r2_1), (V.int .i64 r2_2)]), (7, [(V.bool r7_0), (V.int .i64 r7_1), (V.int .i64 r7_2)])], σ⟩ (Fin62 E) (fun _ _ => none) (Fin62 E)) v0b v0o σ := by kernel_rfl
theorem P62_1 (E : List (Nat × Blk)) (D : Den) (W : DrawFn) (N : Nat) (r2_0 : Bool) (r2_1 : Int) (r2_2 : Int) (r7_0 : Bool) (r7_1 : Int) (r7_2 : Int) (σ : H) :
  denC E D W N (C62_1 ) ⟨[], [(2, (2, 0)), (7, (7, 0))], [(2, [(V.bool r2_0), (V.int .i64 r2_1), (V.int .i64 r2_2)]), (7, [(V.bool r7_0), (V.int .i64 r7_1), (V.int .i64 r7_2)])], σ⟩ (Fin62 E) (fun _ _ => none) (Fin62 E) =
  T62_1 E D W  r2_0 r2_1 r2_2 r7_0 r7_1 r7_2 σ := by kernel_rfl
def J62_1 (E : List (Nat × Blk)) (D : Den) (W : DrawFn) (N : Nat) : Bool → Int → Int → Bool → Int → Int → H → Ans := T62_1 E D W 
theorem JE62_1 (E : List (Nat × Blk)) (D : Den) (W : DrawFn) (N : Nat) (r2_0 : Bool) (r2_1 : Int) (r2_2 : Int) (r7_0 : Bool) (r7_1 : Int) (r7_2 : Int) (σ : H) :
  denC E D W N C62_1 ⟨[], [(2, (2, 0)), (7, (7, 0))], [(2, [(V.bool r2_0), (V.int .i64 r2_1), (V.int .i64 r2_2)]), (7, [(V.bool r7_0), (V.int .i64 r7_1), (V.int .i64 r7_2)])], σ⟩ (Fin62 E) (fun _ _ => none) (Fin62 E) = J62_1 E D W N r2_0 r2_1 r2_2 r7_0 r7_1 r7_2 σ := by
  refine (P62_1 E D W N   r2_0 r2_1 r2_2 r7_0 r7_1 r7_2 σ).trans ?_
  kernel_rfl
def J62_0 (E : List (Nat × Blk)) (D : Den) (W : DrawFn) (N : Nat) : Nat → Nat → H → Ans := T62_0 E D W (J62_1 E D W N )
theorem JE62_0 (E : List (Nat × Blk)) (D : Den) (W : DrawFn) (N : Nat) (v0b : Nat) (v0o : Nat) (σ : H) :
  denC E D W N (C62_0 C62_1) ⟨[(0, (V.ptr v0b v0o))], [], [], σ⟩ (Fin62 E) (fun _ _ => none) (Fin62 E) = J62_0 E D W N v0b v0o σ := by
  refine (P62_0 E D W N C62_1  v0b v0o σ).trans ?_
  simp only [JE62_1]
  kernel_rfl
def F62 (E : List (Nat × Blk)) (D : Den) (W : DrawFn) (N : Nat) (args : List V) (σ : H) : Ans :=
 rtCons args fun x1 l2 =>
 rtPtr x1 fun b3 o4 =>
 rtNil l2 (
 J62_0 E D W N b3 o4 σ)
def A62 : XFn := ⟨57, [.ptr], [(.cell 2 (some 3)), (.tmp 3)], (C62_0 C62_1)⟩
theorem FE62 (E : List (Nat × Blk)) (D : Den) (W : DrawFn) (N : Nat) (args : List V) (σ : H) : runX E D W N A62 args σ = F62 E D W N args σ := by
  unfold F62
  simp only [← JE62_0]
  kernel_rfl
theorem AO62 : A62.body.ok = true := by kernel_rfl

/-! ### F63: __ogham_syntax.parser_.size -/
def Fin63 (E : List (Nat × Blk)) : St → Ans := fun s => resK E s [(.tmp 4)] fun l => some (oneV l, s.σ)
def C63_0 : XC := (.seq (.ops (.op (some 4) .any [] (.mov (.con (V.bool false))) <|
 .nil))
 (.seq (.ops (.op (some 5) .any [0] (.mov (.tmp 0)) <|
 .op (some 6) .any [5] (.nilck (.tmp 5)) <|
 .op (some 7) .any [6] (.faddr 0 (.tmp 6)) <|
 .op (some 8) .bool [7] (.call 43 [(.tmp 7), (.con (V.str ⟨1, 40⟩))]) <|
 .op (some 9) .any [8] (.un .not (.tmp 8)) <|
 .op (some 10) .any [9] (.mov (.tmp 9)) <|
 .grp 10 false (.op (some 11) .any [0, 10] (.mov (.tmp 0)) <|
 .op (some 12) .any [10] (.buildSlice 9 2 [(V.str ⟨0, 0⟩), (V.str ⟨0, 0⟩)] [(0, 1, (.con (V.str ⟨4, 1163544915⟩))), (1, 1, (.con (V.str ⟨1, 40⟩)))]) <|
 .op (some 13) .bool [11, 12, 10] (.call 21 [(.tmp 11), (.tmp 12)]) <|
 .op (some 14) .any [13, 10] (.mov (.tmp 13)) <|
 .grp 14 true (.op (some 15) .any [0, 14] (.mov (.tmp 0)) <|
 .op (some 16) .any [1, 14] (.mov (.tmp 1)) <|
 .op (some 17) .bool [15, 16, 14] (.call 64 [(.tmp 15), (.tmp 16)]) <|
 .nil) 18 [14, 17, 10] (.tmp 14) (.tmp 17) (.con (V.bool false)) <|
 .op (some 19) .any [18, 10] (.mov (.tmp 18)) <|
 .grp 19 true (.op (some 20) .any [0, 19] (.mov (.tmp 0)) <|
 .op (some 21) .any [19] (.buildSlice 9 2 [(V.str ⟨0, 0⟩), (V.str ⟨0, 0⟩)] [(0, 1, (.con (V.str ⟨1, 41⟩))), (1, 1, (.con (V.str ⟨1, 41⟩)))]) <|
 .op (some 22) .bool [20, 21, 19] (.call 21 [(.tmp 20), (.tmp 21)]) <|
 .nil) 23 [19, 22, 10] (.tmp 19) (.tmp 22) (.con (V.bool false)) <|
 .nil) 24 [10, 23] (.tmp 10) (.con (V.bool true)) (.tmp 23) <|
 .op (some 4) .any [24] (.mov (.tmp 24)) <|
 .nil))
 .ret))
def T63_0 (E : List (Nat × Blk)) (D : Den) (W : DrawFn) (v0b : Nat) (v0o : Nat) (v1 : V) (σ : H) : Ans :=
 callK (D 43 [(V.ptr v0b v0o), (V.str (BS.mk 1 40))] σ) fun u1 s2 =>
 rtBool u1 fun x3 =>
 joinB (fun c4 s5 =>
 some ((V.bool c4), s5)) fun k6 =>
 condK (not x3) (
 k6 true s2) (
 let s7 := newB s2 (.cells [(V.str (BS.mk 4 1163544915)), (V.str (BS.mk 1 40))]);
 callK (D 21 [(V.ptr v0b v0o), (V.sl (H.next s2) 0 2 (.ex 2))] s7) fun u8 s9 =>
 rtBool u8 fun x10 =>
 joinB (fun c11 s12 =>
 joinB (fun c14 s15 =>
 k6 c14 s15) fun k16 =>
 condK c11 (
 let s17 := newB s12 (.cells [(V.str (BS.mk 1 41)), (V.str (BS.mk 1 41))]);
 callK (D 21 [(V.ptr v0b v0o), (V.sl (H.next s12) 0 2 (.ex 2))] s17) fun u18 s19 =>
 rtBool u18 fun x20 =>
 k16 x20 s19) (
 k16 false s12)) fun k13 =>
 condK x10 (
 callK (D 64 [(V.ptr v0b v0o), v1] s9) fun u21 s22 =>
 rtBool u21 fun x23 =>
 k13 x23 s22) (
 k13 false s9))
theorem P63_0 (E : List (Nat × Blk)) (D : Den) (W : DrawFn) (N : Nat) (v0b : Nat) (v0o : Nat) (v1 : V) (σ : H) :
  denC E D W N (C63_0 ) ⟨[(0, (V.ptr v0b v0o)), (1, v1)], [], [], σ⟩ (Fin63 E) (fun _ _ => none) (Fin63 E) =
  T63_0 E D W  v0b v0o v1 σ := by kernel_rfl
def J63_0 (E : List (Nat × Blk)) (D : Den) (W : DrawFn) (N : Nat) : Nat → Nat → V → H → Ans := T63_0 E D W 
theorem JE63_0 (E : List (Nat × Blk)) (D : Den) (W : DrawFn) (N : Nat) (v0b : Nat) (v0o : Nat) (v1 : V) (σ : H) :
  denC E D W N C63_0 ⟨[(0, (V.ptr v0b v0o)), (1, v1)], [], [], σ⟩ (Fin63 E) (fun _ _ => none) (Fin63 E) = J63_0 E D W N v0b v0o v1 σ := by
  refine (P63_0 E D W N   v0b v0o v1 σ).trans ?_
  kernel_rfl
def F63 (E : List (Nat × Blk)) (D : Den) (W : DrawFn) (N : Nat) (args : List V) (σ : H) : Ans :=
 rtCons args fun x1 l2 =>
 rtPtr x1 fun b3 o4 =>
 rtCons l2 fun x5 l6 =>
 rtNil l6 (
 J63_0 E D W N b3 o4 x5 σ)
def A63 : XFn := ⟨25, [.ptr, .any], [(.tmp 4)], C63_0⟩
theorem FE63 (E : List (Nat × Blk)) (D : Den) (W : DrawFn) (N : Nat) (args : List V) (σ : H) : runX E D W N A63 args σ = F63 E D W N args σ := by
  unfold F63
  simp only [← JE63_0]
  kernel_rfl
theorem AO63 : A63.body.ok = true := by kernel_rfl

/-! ### F64: __ogham_syntax.parser_.bounds -/
def Fin64 (E : List (Nat × Blk)) : St → Ans := fun s => resK E s [(.tmp 4)] fun l => some (oneV l, s.σ)
def C64_0 (cc1 : XC) : XC := (.seq (.ops (.op (some 4) .any [] (.mov (.con (V.bool false))) <|
 .nil))
 (.seq (.ops (.op (some 11) .any [1] (.mov (.tmp 1)) <|
 .op (some 12) .any [11] (.nilck (.tmp 11)) <|
 .op (some 13) .any [12] (.faddr 0 (.tmp 12)) <|
 .op none .any [13] (.store 1 (.tmp 13) (.con (V.bool true))) <|
 .nil))
 (.seq (.seq (.ops (.op (some 14) .any [0] (.mov (.tmp 0)) <|
 .op (some 15) .any [14] (.nilck (.tmp 14)) <|
 .op (some 16) .any [15] (.faddr 0 (.tmp 15)) <|
 .op (some 17) .bool [16] (.call 43 [(.tmp 16), (.con (V.str ⟨3, 5130573⟩))]) <|
 .op (some 18) .any [17] (.un .not (.tmp 17)) <|
 .nil))
 (.cond (.tmp 18) (.seq (.ops (.op (some 20) .any [0] (.mov (.tmp 0)) <|
 .op (some 21) (.tup [(.int .i64), (.agg [(.int .i64), .str, (.int .i64)]), .bool]) [20] (.call 73 [(.tmp 20)]) <|
 .op (some 19) .any [21] (.mov (.tmp 21)) <|
 .op (some 22) .any [19] (.extract 0 (.tmp 19)) <|
 .op (some 23) .any [19] (.extract 1 (.tmp 19)) <|
 .op (some 24) .any [19] (.extract 2 (.tmp 19)) <|
 .pal 6 [] 75 [(V.int .i64 (Int.ofNat 0)), (V.str ⟨0, 0⟩), (V.int .i64 (Int.ofNat 0))] <|
 .op (some 5) .any [22] (.mov (.tmp 22)) <|
 .op none (.agg [(.int .i64), .str, (.int .i64)]) [6, 23] (.store 3 (.tmp 6) (.tmp 23)) <|
 .op (some 7) .any [24] (.mov (.tmp 24)) <|
 .nil))
 (.seq (.seq (.ops (.op (some 25) .any [7] (.mov (.tmp 7)) <|
 .op (some 26) .any [25] (.un .not (.tmp 25)) <|
 .nil))
 (.cond (.tmp 26) (.seq (.ops (.op (some 4) .any [] (.mov (.con (V.bool false))) <|
 .nil))
 .ret)
 .skip))
 (.ops (.op (some 27) .any [1] (.mov (.tmp 1)) <|
 .op (some 28) .any [1] (.mov (.tmp 1)) <|
 .op (some 29) .any [5] (.mov (.tmp 5)) <|
 .op (some 30) .any [27] (.nilck (.tmp 27)) <|
 .op (some 31) .any [30] (.faddr 1 (.tmp 30)) <|
 .op none .any [31] (.store 1 (.tmp 31) (.con (V.bool true))) <|
 .op (some 32) .any [28] (.nilck (.tmp 28)) <|
 .op (some 33) .any [32] (.faddr 4 (.tmp 32)) <|
 .op none .any [33, 29] (.store 1 (.tmp 33) (.tmp 29)) <|
 .nil))))
 .skip))
 (.keep [(0, .ptr), (1, .ptr)] [] [] cc1))))
def T64_0 (E : List (Nat × Blk)) (D : Den) (W : DrawFn) (K1 : Nat → Nat → Nat → Nat → H → Ans) (v0b : Nat) (v0o : Nat) (v1b : Nat) (v1o : Nat) (σ : H) : Ans :=
 stK 1 v1b v1o (V.bool true) σ fun s1 =>
 callK (D 43 [(V.ptr v0b v0o), (V.str (BS.mk 3 5130573))] s1) fun u2 s3 =>
 rtBool u2 fun x4 =>
 condK (not x4) (
 callK (D 73 [(V.ptr v0b v0o)] s3) fun u5 s6 =>
 rtTup u5 fun l7 =>
 rtCons l7 fun x8 l9 =>
 rtInt .i64 x8 fun x10 =>
 rtCons l9 fun x11 l12 =>
 rtAgg x11 fun l13 =>
 rtCons l13 fun x14 l15 =>
 rtInt .i64 x14 fun x16 =>
 rtCons l15 fun x17 l18 =>
 rtStr x17 fun x19 =>
 rtCons l18 fun x20 l21 =>
 rtInt .i64 x20 fun x22 =>
 rtNil l21 (
 rtCons l12 fun x23 l24 =>
 rtBool x23 fun x25 =>
 rtNil l24 (
 condK (not x25) (
 some ((V.bool false), s6)) (
 stK 1 v1b (Nat.add v1o 1) (V.bool true) s6 fun s26 =>
 stK 1 v1b (Nat.add v1o 4) (V.int .i64 x10) s26 fun s27 =>
 K1 v0b v0o v1b v1o s27)))) (
 K1 v0b v0o v1b v1o s3)
def C64_1 (cc2 : XC) : XC := (.seq (.block 0 (.seq (.ops (.op (some 35) .any [0] (.mov (.tmp 0)) <|
 .op (some 36) .any [35] (.nilck (.tmp 35)) <|
 .op (some 37) .any [36] (.faddr 0 (.tmp 36)) <|
 .op (some 38) .bool [37] (.call 43 [(.tmp 37), (.con (V.str ⟨2, 11822⟩))]) <|
 .op (some 39) .any [38] (.un .not (.tmp 38)) <|
 .op (some 34) .any [39] (.mov (.tmp 39)) <|
 .nil))
 (.cond (.tmp 34) (.draw (.op (some 40) .any [1] (.mov (.tmp 1)) <|
 .op (some 41) .any [1] (.mov (.tmp 1)) <|
 .op (some 42) .any [1] (.mov (.tmp 1)) <|
 .op (some 43) .any [42] (.nilck (.tmp 42)) <|
 .op (some 44) .any [43] (.faddr 1 (.tmp 43)) <|
 .op (some 45) .bool [44] (.load none (.tmp 44)) <|
 .op (some 46) .any [1] (.mov (.tmp 1)) <|
 .op (some 47) .any [46] (.nilck (.tmp 46)) <|
 .op (some 48) .any [47] (.faddr 4 (.tmp 47)) <|
 .op (some 49) (.int .i64) [48] (.load none (.tmp 48)) <|
 .op (some 50) .any [40] (.nilck (.tmp 40)) <|
 .op (some 51) .any [50] (.faddr 2 (.tmp 50)) <|
 .op none .any [51, 45] (.store 1 (.tmp 51) (.tmp 45)) <|
 .op (some 52) .any [41] (.nilck (.tmp 41)) <|
 .op (some 53) .any [52] (.faddr 5 (.tmp 52)) <|
 .op none .any [53, 49] (.store 1 (.tmp 53) (.tmp 49)) <|
 .nil) [0, 0, 0, 4, 12, 28, 0, 64, 192, 448, 1021, 2045, 4093, 8191, 16383, 32767])
 (.seq (.ops (.op (some 55) .any [0] (.mov (.tmp 0)) <|
 .op (some 56) .any [55] (.nilck (.tmp 55)) <|
 .op (some 57) .any [56] (.faddr 0 (.tmp 56)) <|
 .op (some 58) .bool [57] (.call 43 [(.tmp 57), (.con (V.str ⟨3, 5783885⟩))]) <|
 .op (some 59) .any [58] (.un .not (.tmp 58)) <|
 .op (some 54) .any [59] (.mov (.tmp 59)) <|
 .nil))
 (.cond (.tmp 54) (.seq (.ops (.op (some 61) .any [0] (.mov (.tmp 0)) <|
 .op (some 62) (.tup [(.int .i64), (.agg [(.int .i64), .str, (.int .i64)]), .bool]) [61] (.call 73 [(.tmp 61)]) <|
 .op (some 60) .any [62] (.mov (.tmp 62)) <|
 .op (some 63) .any [60] (.extract 0 (.tmp 60)) <|
 .op (some 64) .any [60] (.extract 1 (.tmp 60)) <|
 .op (some 65) .any [60] (.extract 2 (.tmp 60)) <|
 .pal 9 [] 75 [(V.int .i64 (Int.ofNat 0)), (V.str ⟨0, 0⟩), (V.int .i64 (Int.ofNat 0))] <|
 .op (some 8) .any [63] (.mov (.tmp 63)) <|
 .op none (.agg [(.int .i64), .str, (.int .i64)]) [9, 64] (.store 3 (.tmp 9) (.tmp 64)) <|
 .op (some 10) .any [65] (.mov (.tmp 65)) <|
 .nil))
 (.seq (.seq (.ops (.op (some 66) .any [10] (.mov (.tmp 10)) <|
 .op (some 67) .any [66] (.un .not (.tmp 66)) <|
 .nil))
 (.cond (.tmp 67) (.seq (.ops (.op (some 4) .any [] (.mov (.con (V.bool false))) <|
 .nil))
 .ret)
 .skip))
 (.ops (.op (some 68) .any [1] (.mov (.tmp 1)) <|
 .op (some 69) .any [1] (.mov (.tmp 1)) <|
 .op (some 70) .any [8] (.mov (.tmp 8)) <|
 .op (some 71) .any [68] (.nilck (.tmp 68)) <|
 .op (some 72) .any [71] (.faddr 2 (.tmp 71)) <|
 .op none .any [72] (.store 1 (.tmp 72) (.con (V.bool true))) <|
 .op (some 73) .any [69] (.nilck (.tmp 69)) <|
 .op (some 74) .any [73] (.faddr 5 (.tmp 73)) <|
 .op none .any [74, 70] (.store 1 (.tmp 74) (.tmp 70)) <|
 .nil))))
 .skip)))))
 (.keep [(0, .ptr), (1, .ptr)] [] [] cc2))
def T64_1 (E : List (Nat × Blk)) (D : Den) (W : DrawFn) (K2 : Nat → Nat → Nat → Nat → H → Ans) (v0b : Nat) (v0o : Nat) (v1b : Nat) (v1o : Nat) (σ : H) : Ans :=
 callK (D 43 [(V.ptr v0b v0o), (V.str (BS.mk 2 11822))] σ) fun u1 s2 =>
 rtBool u1 fun x3 =>
 condK (not x3) (
 ldK E s2 v1b (Nat.add v1o 1) fun u4 =>
 rtBool u4 fun x5 =>
 ldK E s2 v1b (Nat.add v1o 4) fun u6 =>
 rtInt .i64 u6 fun x7 =>
 stK 1 v1b (Nat.add v1o 2) (V.bool x5) s2 fun s8 =>
 stK 1 v1b (Nat.add v1o 5) (V.int .i64 x7) s8 fun s9 =>
 K2 v0b v0o v1b v1o s9) (
 callK (D 43 [(V.ptr v0b v0o), (V.str (BS.mk 3 5783885))] s2) fun u10 s11 =>
 rtBool u10 fun x12 =>
 condK (not x12) (
 callK (D 73 [(V.ptr v0b v0o)] s11) fun u13 s14 =>
 rtTup u13 fun l15 =>
 rtCons l15 fun x16 l17 =>
 rtInt .i64 x16 fun x18 =>
 rtCons l17 fun x19 l20 =>
 rtAgg x19 fun l21 =>
 rtCons l21 fun x22 l23 =>
 rtInt .i64 x22 fun x24 =>
 rtCons l23 fun x25 l26 =>
 rtStr x25 fun x27 =>
 rtCons l26 fun x28 l29 =>
 rtInt .i64 x28 fun x30 =>
 rtNil l29 (
 rtCons l20 fun x31 l32 =>
 rtBool x31 fun x33 =>
 rtNil l32 (
 condK (not x33) (
 some ((V.bool false), s14)) (
 stK 1 v1b (Nat.add v1o 2) (V.bool true) s14 fun s34 =>
 stK 1 v1b (Nat.add v1o 5) (V.int .i64 x18) s34 fun s35 =>
 K2 v0b v0o v1b v1o s35)))) (
 K2 v0b v0o v1b v1o s11))
def C64_2 : XC := (.seq (.seq (.ops (.op (some 75) .any [0] (.mov (.tmp 0)) <|
 .op (some 76) .any [75] (.nilck (.tmp 75)) <|
 .op (some 77) .any [76] (.faddr 0 (.tmp 76)) <|
 .op (some 78) .bool [77] (.call 43 [(.tmp 77), (.con (V.str ⟨1, 44⟩))]) <|
 .nil))
 (.cond (.tmp 78) (.seq (.ops (.op (some 79) .any [1] (.mov (.tmp 1)) <|
 .op (some 80) .any [79] (.nilck (.tmp 79)) <|
 .op (some 81) .any [80] (.faddr 3 (.tmp 80)) <|
 .op none .any [81] (.store 1 (.tmp 81) (.con (V.bool true))) <|
 .nil))
 (.seq (.ops (.op (some 82) .any [0] (.mov (.tmp 0)) <|
 .op (some 83) .any [] (.buildSlice 9 1 [(V.str ⟨0, 0⟩)] [(0, 1, (.con (V.str ⟨3, 3026478⟩)))]) <|
 .op (some 84) .bool [82, 83] (.call 21 [(.tmp 82), (.tmp 83)]) <|
 .op (some 4) .any [84] (.mov (.tmp 84)) <|
 .nil))
 .ret))
 .skip))
 (.seq (.ops (.op (some 4) .any [] (.mov (.con (V.bool true))) <|
 .nil))
 .ret))
def T64_2 (E : List (Nat × Blk)) (D : Den) (W : DrawFn) (v0b : Nat) (v0o : Nat) (v1b : Nat) (v1o : Nat) (σ : H) : Ans :=
 callK (D 43 [(V.ptr v0b v0o), (V.str (BS.mk 1 44))] σ) fun u1 s2 =>
 rtBool u1 fun x3 =>
 condK x3 (
 stK 1 v1b (Nat.add v1o 3) (V.bool true) s2 fun s4 =>
 let s5 := newB s4 (.cells [(V.str (BS.mk 3 3026478))]);
 callK (D 21 [(V.ptr v0b v0o), (V.sl (H.next s4) 0 1 (.ex 1))] s5) fun u6 s7 =>
 rtBool u6 fun x8 =>
 some ((V.bool x8), s7)) (
 some ((V.bool true), s2))
theorem P64_0 (E : List (Nat × Blk)) (D : Den) (W : DrawFn) (N : Nat) (cc1 : XC) (v0b : Nat) (v0o : Nat) (v1b : Nat) (v1o : Nat) (σ : H) :
  denC E D W N (C64_0 cc1) ⟨[(0, (V.ptr v0b v0o)), (1, (V.ptr v1b v1o))], [], [], σ⟩ (Fin64 E) (fun _ _ => none) (Fin64 E) =
  T64_0 E D W (fun v0b v0o v1b v1o σ => denC E D W N cc1 ⟨[(0, (V.ptr v0b v0o)), (1, (V.ptr v1b v1o))], [], [], σ⟩ (Fin64 E) (fun _ _ => none) (Fin64 E)) v0b v0o v1b v1o σ := by kernel_rfl
theorem P64_1 (E : List (Nat × Blk)) (D : Den) (W : DrawFn) (N : Nat) (cc2 : XC) (v0b : Nat) (v0o : Nat) (v1b : Nat) (v1o : Nat) (σ : H) :
  denC E D W N (C64_1 cc2) ⟨[(0, (V.ptr v0b v0o)), (1, (V.ptr v1b v1o))], [], [], σ⟩ (Fin64 E) (fun _ _ => none) (Fin64 E) =
  T64_1 E D W (fun v0b v0o v1b v1o σ => denC E D W N cc2 ⟨[(0, (V.ptr v0b v0o)), (1, (V.ptr v1b v1o))], [], [], σ⟩ (Fin64 E) (fun _ _ => none) (Fin64 E)) v0b v0o v1b v1o σ := by kernel_rfl
theorem P64_2 (E : List (Nat × Blk)) (D : Den) (W : DrawFn) (N : Nat) (v0b : Nat) (v0o : Nat) (v1b : Nat) (v1o : Nat) (σ : H) :
  denC E D W N (C64_2 ) ⟨[(0, (V.ptr v0b v0o)), (1, (V.ptr v1b v1o))], [], [], σ⟩ (Fin64 E) (fun _ _ => none) (Fin64 E) =
  T64_2 E D W  v0b v0o v1b v1o σ := by kernel_rfl
def J64_2 (E : List (Nat × Blk)) (D : Den) (W : DrawFn) (N : Nat) : Nat → Nat → Nat → Nat → H → Ans := T64_2 E D W 
theorem JE64_2 (E : List (Nat × Blk)) (D : Den) (W : DrawFn) (N : Nat) (v0b : Nat) (v0o : Nat) (v1b : Nat) (v1o : Nat) (σ : H) :
  denC E D W N C64_2 ⟨[(0, (V.ptr v0b v0o)), (1, (V.ptr v1b v1o))], [], [], σ⟩ (Fin64 E) (fun _ _ => none) (Fin64 E) = J64_2 E D W N v0b v0o v1b v1o σ := by
  refine (P64_2 E D W N   v0b v0o v1b v1o σ).trans ?_
  kernel_rfl
def J64_1 (E : List (Nat × Blk)) (D : Den) (W : DrawFn) (N : Nat) : Nat → Nat → Nat → Nat → H → Ans := T64_1 E D W (J64_2 E D W N )
theorem JE64_1 (E : List (Nat × Blk)) (D : Den) (W : DrawFn) (N : Nat) (v0b : Nat) (v0o : Nat) (v1b : Nat) (v1o : Nat) (σ : H) :
  denC E D W N (C64_1 C64_2) ⟨[(0, (V.ptr v0b v0o)), (1, (V.ptr v1b v1o))], [], [], σ⟩ (Fin64 E) (fun _ _ => none) (Fin64 E) = J64_1 E D W N v0b v0o v1b v1o σ := by
  refine (P64_1 E D W N C64_2  v0b v0o v1b v1o σ).trans ?_
  simp only [JE64_2]
  kernel_rfl
def J64_0 (E : List (Nat × Blk)) (D : Den) (W : DrawFn) (N : Nat) : Nat → Nat → Nat → Nat → H → Ans := T64_0 E D W (J64_1 E D W N )
theorem JE64_0 (E : List (Nat × Blk)) (D : Den) (W : DrawFn) (N : Nat) (v0b : Nat) (v0o : Nat) (v1b : Nat) (v1o : Nat) (σ : H) :
  denC E D W N (C64_0 (C64_1 C64_2)) ⟨[(0, (V.ptr v0b v0o)), (1, (V.ptr v1b v1o))], [], [], σ⟩ (Fin64 E) (fun _ _ => none) (Fin64 E) = J64_0 E D W N v0b v0o v1b v1o σ := by
  refine (P64_0 E D W N (C64_1 C64_2)  v0b v0o v1b v1o σ).trans ?_
  simp only [JE64_1]
  kernel_rfl
def F64 (E : List (Nat × Blk)) (D : Den) (W : DrawFn) (N : Nat) (args : List V) (σ : H) : Ans :=
 rtCons args fun x1 l2 =>
 rtPtr x1 fun b3 o4 =>
 rtCons l2 fun x5 l6 =>
 rtPtr x5 fun b7 o8 =>
 rtNil l6 (
 J64_0 E D W N b3 o4 b7 o8 σ)
def A64 : XFn := ⟨85, [.ptr, .ptr], [(.tmp 4)], (C64_0 (C64_1 C64_2))⟩
theorem FE64 (E : List (Nat × Blk)) (D : Den) (W : DrawFn) (N : Nat) (args : List V) (σ : H) : runX E D W N A64 args σ = F64 E D W N args σ := by
  unfold F64
  simp only [← JE64_0]
  kernel_rfl
theorem AO64 : A64.body.ok = true := by kernel_rfl

/-! ### F66: __ogham_syntax.parser_.fields -/
def Fin66 (E : List (Nat × Blk)) : St → Ans := fun s => resK E s [(.tmp 6)] fun l => some (oneV l, s.σ)
def C66_0 (cc1 : XC) (cc2 : XC) : XC := (.seq (.ops (.op (some 6) .any [] (.mov (.con (V.bool false))) <|
 .nil))
 (.seq (.seq (.ops (.op (some 8) .any [0] (.mov (.tmp 0)) <|
 .op (some 9) .any [] (.buildSlice 9 1 [(V.str ⟨0, 0⟩)] [(0, 1, (.con (V.str ⟨1, 123⟩)))]) <|
 .op (some 10) .bool [8, 9] (.call 21 [(.tmp 8), (.tmp 9)]) <|
 .op (some 11) .any [10] (.un .not (.tmp 10)) <|
 .nil))
 (.cond (.tmp 11) (.seq (.ops (.op (some 6) .any [] (.mov (.con (V.bool false))) <|
 .nil))
 .ret)
 .skip))
 (.seq (.seq (.ops (.op (some 12) .any [0] (.mov (.tmp 0)) <|
 .op (some 13) .any [12] (.nilck (.tmp 12)) <|
 .op (some 14) .any [13] (.faddr 0 (.tmp 13)) <|
 .op (some 15) .bool [14] (.call 22 [(.tmp 14), (.con (V.str ⟨1, 125⟩))]) <|
 .op (some 16) .any [15] (.un .not (.tmp 15)) <|
 .op (some 7) .any [16] (.mov (.tmp 16)) <|
 .nil))
 (.block 0 (.loop [(0, .ptr), (1, .ptr), (2, (.int .i64)), (7, .bool)] [] [] cc2)))
 (.keep [(0, .ptr), (1, .ptr)] [] [] cc1))))
def T66_0 (E : List (Nat × Blk)) (D : Den) (W : DrawFn) (K2 : Nat → Nat → Nat → Nat → Int → Bool → H → Ans) (v0b : Nat) (v0o : Nat) (v1b : Nat) (v1o : Nat) (v2 : Int) (σ : H) : Ans :=
 let s1 := newB σ (.cells [(V.str (BS.mk 1 123))]);
 callK (D 21 [(V.ptr v0b v0o), (V.sl (H.next σ) 0 1 (.ex 1))] s1) fun u2 s3 =>
 rtBool u2 fun x4 =>
 condK (not x4) (
 some ((V.bool false), s3)) (
 callK (D 22 [(V.ptr v0b v0o), (V.str (BS.mk 1 125))] s3) fun u5 s6 =>
 rtBool u5 fun x7 =>
 K2 v0b v0o v1b v1o v2 (not x7) s6)
def C66_1 : XC := (.seq (.ops (.op (some 51) .any [1] (.mov (.tmp 1)) <|
 .op (some 52) .any [1] (.mov (.tmp 1)) <|
 .op (some 53) .any [52] (.nilck (.tmp 52)) <|
 .op (some 54) .any [53] (.faddr 12 (.tmp 53)) <|
 .op (some 55) .any [54] (.load none (.tmp 54)) <|
 .op (some 56) .any [55] (.len false (.tmp 55)) <|
 .op (some 57) .any [51] (.nilck (.tmp 51)) <|
 .op (some 58) .any [57] (.faddr 13 (.tmp 57)) <|
 .op none .any [58, 56] (.store 1 (.tmp 58) (.tmp 56)) <|
 .nil))
 (.seq (.ops (.op (some 59) .any [0] (.mov (.tmp 0)) <|
 .op (some 60) .any [] (.buildSlice 9 1 [(V.str ⟨0, 0⟩)] [(0, 1, (.con (V.str ⟨1, 125⟩)))]) <|
 .op (some 61) .bool [59, 60] (.call 21 [(.tmp 59), (.tmp 60)]) <|
 .op (some 6) .any [61] (.mov (.tmp 61)) <|
 .nil))
 .ret))
def T66_1 (E : List (Nat × Blk)) (D : Den) (W : DrawFn) (v0b : Nat) (v0o : Nat) (v1b : Nat) (v1o : Nat) (σ : H) : Ans :=
 ldK E σ v1b (Nat.add v1o 12) fun u1 =>
 slenK u1 fun n2 =>
 stK 1 v1b (Nat.add v1o 13) (V.int .i64 (Int.ofNat n2)) σ fun s3 =>
 let s4 := newB s3 (.cells [(V.str (BS.mk 1 125))]);
 callK (D 21 [(V.ptr v0b v0o), (V.sl (H.next s3) 0 1 (.ex 1))] s4) fun u5 s6 =>
 rtBool u5 fun x7 =>
 some ((V.bool x7), s6)
def C66_2 : XC := (.seq (.seq (.ops (.op (some 17) .any [7] (.mov (.tmp 7)) <|
 .nil))
 (.cond (.tmp 17) .skip
 (.exit 0)))
 (.seq (.block 1 (.seq (.seq (.ops (.op (some 22) .any [0] (.mov (.tmp 0)) <|
 .op (some 23) .any [22] (.nilck (.tmp 22)) <|
 .op (some 24) .any [23] (.faddr 0 (.tmp 23)) <|
 .op (some 25) .bool [24] (.call 43 [(.tmp 24), (.con (V.str ⟨3, 3026478⟩))]) <|
 .nil))
 (.cond (.tmp 25) (.seq (.ops (.op (some 26) .any [1] (.mov (.tmp 1)) <|
 .op (some 27) .any [1] (.mov (.tmp 1)) <|
 .op (some 28) .any [1] (.mov (.tmp 1)) <|
 .op (some 29) .any [28] (.nilck (.tmp 28)) <|
 .op (some 30) .any [29] (.faddr 12 (.tmp 29)) <|
 .op (some 31) .any [30] (.load none (.tmp 30)) <|
 .op (some 32) .any [31] (.len false (.tmp 31)) <|
 .op (some 33) .any [26] (.nilck (.tmp 26)) <|
 .op (some 34) .any [33] (.faddr 14 (.tmp 33)) <|
 .op none .any [34] (.store 1 (.tmp 34) (.con (V.bool true))) <|
 .op (some 35) .any [27] (.nilck (.tmp 27)) <|
 .op (some 36) .any [35] (.faddr 13 (.tmp 35)) <|
 .op none .any [36, 32] (.store 1 (.tmp 36) (.tmp 32)) <|
 .nil))
 (.seq (.ops (.op (some 37) .any [0] (.mov (.tmp 0)) <|
 .op (some 38) .any [1] (.mov (.tmp 1)) <|
 .op (some 39) .any [2] (.mov (.tmp 2)) <|
 .op (some 40) .bool [37, 38, 39] (.call 75 [(.tmp 37), (.tmp 38), (.tmp 39)]) <|
 .op (some 41) .any [40] (.mov (.tmp 40)) <|
 .grp 41 true (.op (some 42) .any [0, 41] (.mov (.tmp 0)) <|
 .op (some 43) .any [41] (.buildSlice 9 1 [(V.str ⟨0, 0⟩)] [(0, 1, (.con (V.str ⟨1, 125⟩)))]) <|
 .op (some 44) .bool [42, 43, 41] (.call 21 [(.tmp 42), (.tmp 43)]) <|
 .nil) 45 [41, 44] (.tmp 41) (.tmp 44) (.con (V.bool false)) <|
 .op (some 6) .any [45] (.mov (.tmp 45)) <|
 .nil))
 .ret))
 .skip))
 (.seq (.ops (.op (some 46) .any [0] (.mov (.tmp 0)) <|
 .op (some 47) .any [1] (.mov (.tmp 1)) <|
 .op (some 48) .any [2] (.mov (.tmp 2)) <|
 .op (some 49) .bool [46, 47, 48] (.call 76 [(.tmp 46), (.tmp 47), (.con (V.int .i64 (Int.ofNat 0))), (.tmp 48)]) <|
 .op (some 50) .any [49] (.un .not (.tmp 49)) <|
 .nil))
 (.cond (.tmp 50) (.seq (.ops (.op (some 6) .any [] (.mov (.con (V.bool false))) <|
 .nil))
 .ret)
 .skip))))
 (.ops (.op (some 18) .any [0] (.mov (.tmp 0)) <|
 .op (some 19) .any [18] (.nilck (.tmp 18)) <|
 .op (some 20) .any [19] (.faddr 0 (.tmp 19)) <|
 .op (some 21) .bool [20] (.call 43 [(.tmp 20), (.con (V.str ⟨1, 44⟩))]) <|
 .op (some 7) .any [21] (.mov (.tmp 21)) <|
 .nil))))
def T66_2 (E : List (Nat × Blk)) (D : Den) (W : DrawFn) (K1 : Nat → Nat → Nat → Nat → H → Ans) (R2 : Nat → Nat → Nat → Nat → Int → Bool → H → Ans) (v0b : Nat) (v0o : Nat) (v1b : Nat) (v1o : Nat) (v2 : Int) (v7 : Bool) (σ : H) : Ans :=
 condK v7 (
 callK (D 43 [(V.ptr v0b v0o), (V.str (BS.mk 3 3026478))] σ) fun u1 s2 =>
 rtBool u1 fun x3 =>
 condK x3 (
 ldK E s2 v1b (Nat.add v1o 12) fun u4 =>
 slenK u4 fun n5 =>
 stK 1 v1b (Nat.add v1o 14) (V.bool true) s2 fun s6 =>
 stK 1 v1b (Nat.add v1o 13) (V.int .i64 (Int.ofNat n5)) s6 fun s7 =>
 callK (D 75 [(V.ptr v0b v0o), (V.ptr v1b v1o), (V.int .i64 v2)] s7) fun u8 s9 =>
 rtBool u8 fun x10 =>
 joinB (fun c11 s12 =>
 some ((V.bool c11), s12)) fun k13 =>
 condK x10 (
 let s14 := newB s9 (.cells [(V.str (BS.mk 1 125))]);
 callK (D 21 [(V.ptr v0b v0o), (V.sl (H.next s9) 0 1 (.ex 1))] s14) fun u15 s16 =>
 rtBool u15 fun x17 =>
 k13 x17 s16) (
 k13 false s9)) (
 callK (D 76 [(V.ptr v0b v0o), (V.ptr v1b v1o), (V.int .i64 (Int.ofNat 0)), (V.int .i64 v2)] s2) fun u18 s19 =>
 rtBool u18 fun x20 =>
 condK (not x20) (
 some ((V.bool false), s19)) (
 callK (D 43 [(V.ptr v0b v0o), (V.str (BS.mk 1 44))] s19) fun u21 s22 =>
 rtBool u21 fun x23 =>
 R2 v0b v0o v1b v1o v2 x23 s22))) (
 K1 v0b v0o v1b v1o σ)
theorem P66_0 (E : List (Nat × Blk)) (D : Den) (W : DrawFn) (N : Nat) (cc1 : XC) (cc2 : XC) (v0b : Nat) (v0o : Nat) (v1b : Nat) (v1o : Nat) (v2 : Int) (σ : H) :
  denC E D W N (C66_0 cc1 cc2) ⟨[(0, (V.ptr v0b v0o)), (1, (V.ptr v1b v1o)), (2, (V.int .i64 v2))], [], [], σ⟩ (Fin66 E) (fun _ _ => none) (Fin66 E) =
  T66_0 E D W (fun v0b v0o v1b v1o v2 v7 σ => iterK (fun rec s' => denC E D W N cc2 s' (fun s'' => keepS [(0, .ptr), (1, .ptr), (2, (.int .i64)), (7, .bool)] [] [] s'' rec) (blkK 0 (fun s' => denC E D W N (.keep [(0, .ptr), (1, .ptr)] [] [] cc1) s' (Fin66 E) (fun _ _ => none) (Fin66 E)) (fun _ _ => none)) (Fin66 E)) N ⟨[(0, (V.ptr v0b v0o)), (1, (V.ptr v1b v1o)), (2, (V.int .i64 v2)), (7, (V.bool v7))], [], [], σ⟩) v0b v0o v1b v1o v2 σ := by kernel_rfl
theorem P66_1 (E : List (Nat × Blk)) (D : Den) (W : DrawFn) (N : Nat) (v0b : Nat) (v0o : Nat) (v1b : Nat) (v1o : Nat) (σ : H) :
  denC E D W N (C66_1 ) ⟨[(0, (V.ptr v0b v0o)), (1, (V.ptr v1b v1o))], [], [], σ⟩ (Fin66 E) (fun _ _ => none) (Fin66 E) =
  T66_1 E D W  v0b v0o v1b v1o σ := by kernel_rfl
theorem P66_2 (E : List (Nat × Blk)) (D : Den) (W : DrawFn) (N : Nat) (cc1 : XC) (li2 : St → Ans) (v0b : Nat) (v0o : Nat) (v1b : Nat) (v1o : Nat) (v2 : Int) (v7 : Bool) (σ : H) :
  denC E D W N (C66_2 ) ⟨[(0, (V.ptr v0b v0o)), (1, (V.ptr v1b v1o)), (2, (V.int .i64 v2)), (7, (V.bool v7))], [], [], σ⟩ (fun s'' => keepS [(0, .ptr), (1, .ptr), (2, (.int .i64)), (7, .bool)] [] [] s'' li2) (blkK 0 (fun s' => denC E D W N (.keep [(0, .ptr), (1, .ptr)] [] [] cc1) s' (Fin66 E) (fun _ _ => none) (Fin66 E)) (fun _ _ => none)) (Fin66 E) =
  T66_2 E D W (fun v0b v0o v1b v1o σ => denC E D W N cc1 ⟨[(0, (V.ptr v0b v0o)), (1, (V.ptr v1b v1o))], [], [], σ⟩ (Fin66 E) (fun _ _ => none) (Fin66 E)) (fun v0b v0o v1b v1o v2 v7 σ => li2 ⟨[(0, (V.ptr v0b v0o)), (1, (V.ptr v1b v1o)), (2, (V.int .i64 v2)), (7, (V.bool v7))], [], [], σ⟩) v0b v0o v1b v1o v2 v7 σ := by kernel_rfl
def J66_1 (E : List (Nat × Blk)) (D : Den) (W : DrawFn) (N : Nat) : Nat → Nat → Nat → Nat → H → Ans := T66_1 E D W 
theorem JE66_1 (E : List (Nat × Blk)) (D : Den) (W : DrawFn) (N : Nat) (v0b : Nat) (v0o : Nat) (v1b : Nat) (v1o : Nat) (σ : H) :
  denC E D W N C66_1 ⟨[(0, (V.ptr v0b v0o)), (1, (V.ptr v1b v1o))], [], [], σ⟩ (Fin66 E) (fun _ _ => none) (Fin66 E) = J66_1 E D W N v0b v0o v1b v1o σ := by
  refine (P66_1 E D W N   v0b v0o v1b v1o σ).trans ?_
  kernel_rfl
def L66_2 (E : List (Nat × Blk)) (D : Den) (W : DrawFn) (N : Nat) (n : Nat) : Nat → Nat → Nat → Nat → Int → Bool → H → Ans :=
  Nat.rec (fun _ _ _ _ _ _ _ => none) (fun _ ih => T66_2 E D W (J66_1 E D W N ) ih) n
theorem LE66_2 (E : List (Nat × Blk)) (D : Den) (W : DrawFn) (N : Nat) (n : Nat) : ∀ (v0b : Nat) (v0o : Nat) (v1b : Nat) (v1o : Nat) (v2 : Int) (v7 : Bool) (σ : H),
  iterK (fun rec s' => denC E D W N C66_2 s' (fun s'' => keepS [(0, .ptr), (1, .ptr), (2, (.int .i64)), (7, .bool)] [] [] s'' rec) (blkK 0 (fun s' => denC E D W N (.keep [(0, .ptr), (1, .ptr)] [] [] C66_1) s' (Fin66 E) (fun _ _ => none) (Fin66 E)) (fun _ _ => none)) (Fin66 E)) n ⟨[(0, (V.ptr v0b v0o)), (1, (V.ptr v1b v1o)), (2, (V.int .i64 v2)), (7, (V.bool v7))], [], [], σ⟩ = L66_2 E D W N n v0b v0o v1b v1o v2 v7 σ := by
  induction n with
  | zero => intro v0b v0o v1b v1o v2 v7 σ; rfl
  | succ n ihn =>
    intro v0b v0o v1b v1o v2 v7 σ
    rw [iterK_succ]
    refine (P66_2 E D W N C66_1 (iterK (fun rec s' => denC E D W N C66_2 s' (fun s'' => keepS [(0, .ptr), (1, .ptr), (2, (.int .i64)), (7, .bool)] [] [] s'' rec) (blkK 0 (fun s' => denC E D W N (.keep [(0, .ptr), (1, .ptr)] [] [] C66_1) s' (Fin66 E) (fun _ _ => none) (Fin66 E)) (fun _ _ => none)) (Fin66 E)) n) v0b v0o v1b v1o v2 v7 σ).trans ?_
    simp only [ihn, JE66_1]
    kernel_rfl
def J66_0 (E : List (Nat × Blk)) (D : Den) (W : DrawFn) (N : Nat) : Nat → Nat → Nat → Nat → Int → H → Ans := T66_0 E D W (L66_2 E D W N N)
theorem JE66_0 (E : List (Nat × Blk)) (D : Den) (W : DrawFn) (N : Nat) (v0b : Nat) (v0o : Nat) (v1b : Nat) (v1o : Nat) (v2 : Int) (σ : H) :
  denC E D W N (C66_0 C66_1 C66_2) ⟨[(0, (V.ptr v0b v0o)), (1, (V.ptr v1b v1o)), (2, (V.int .i64 v2))], [], [], σ⟩ (Fin66 E) (fun _ _ => none) (Fin66 E) = J66_0 E D W N v0b v0o v1b v1o v2 σ := by
  refine (P66_0 E D W N C66_1 C66_2  v0b v0o v1b v1o v2 σ).trans ?_
  simp only [LE66_2]
  kernel_rfl
def F66 (E : List (Nat × Blk)) (D : Den) (W : DrawFn) (N : Nat) (args : List V) (σ : H) : Ans :=
 rtCons args fun x1 l2 =>
 rtPtr x1 fun b3 o4 =>
 rtCons l2 fun x5 l6 =>
 rtPtr x5 fun b7 o8 =>
 rtCons l6 fun x9 l10 =>
 rtInt .i64 x9 fun x11 =>
 rtNil l10 (
 J66_0 E D W N b3 o4 b7 o8 x11 σ)
def A66 : XFn := ⟨62, [.ptr, .ptr, (.int .i64)], [(.tmp 6)], (C66_0 C66_1 C66_2)⟩
theorem FE66 (E : List (Nat × Blk)) (D : Den) (W : DrawFn) (N : Nat) (args : List V) (σ : H) : runX E D W N A66 args σ = F66 E D W N args σ := by
  unfold F66
  simp only [← JE66_0]
  kernel_rfl
theorem AO66 : A66.body.ok = true := by kernel_rfl

/-! ### F67: __ogham_syntax.parser_.sequence -/
def Fin67 (E : List (Nat × Blk)) : St → Ans := fun s => resK E s [(.tmp 6)] fun l => some (oneV l, s.σ)
def C67_0 : XC := (.seq (.ops (.op (some 6) .any [] (.mov (.con (V.bool false))) <|
 .nil))
 (.seq (.seq (.ops (.op (some 8) .any [0] (.mov (.tmp 0)) <|
 .op (some 9) .any [8] (.nilck (.tmp 8)) <|
 .op (some 10) .any [9] (.faddr 0 (.tmp 9)) <|
 .op (some 11) .bool [10] (.call 22 [(.tmp 10), (.con (V.str ⟨1, 123⟩))]) <|
 .nil))
 (.cond (.tmp 11) (.seq (.ops (.op (some 12) .any [1] (.mov (.tmp 1)) <|
 .op (some 13) .any [12] (.nilck (.tmp 12)) <|
 .op (some 14) .any [13] (.faddr 0 (.tmp 13)) <|
 .op none .any [14] (.store 1 (.tmp 14) (.con (V.int .i64 (Int.ofNat 7)))) <|
 .nil))
 (.seq (.ops (.op (some 15) .any [0] (.mov (.tmp 0)) <|
 .op (some 16) .any [1] (.mov (.tmp 1)) <|
 .op (some 17) .any [2] (.mov (.tmp 2)) <|
 .op (some 18) .bool [15, 16, 17] (.call 66 [(.tmp 15), (.tmp 16), (.tmp 17)]) <|
 .op (some 6) .any [18] (.mov (.tmp 18)) <|
 .nil))
 .ret))
 .skip))
 (.seq (.ops (.op (some 19) .any [1] (.mov (.tmp 1)) <|
 .op (some 20) .any [19] (.nilck (.tmp 19)) <|
 .op (some 21) .any [20] (.faddr 0 (.tmp 20)) <|
 .op none .any [21] (.store 1 (.tmp 21) (.con (V.int .i64 (Int.ofNat 10)))) <|
 .nil))
 (.seq (.seq (.ops (.op (some 22) .any [0] (.mov (.tmp 0)) <|
 .op (some 23) .any [1] (.mov (.tmp 1)) <|
 .op (some 24) .any [23] (.nilck (.tmp 23)) <|
 .op (some 25) .any [24] (.faddr 5 (.tmp 24)) <|
 .op (some 26) .bool [22, 25] (.call 63 [(.tmp 22), (.tmp 25)]) <|
 .op (some 27) .any [26] (.un .not (.tmp 26)) <|
 .op (some 28) .any [27] (.mov (.tmp 27)) <|
 .grp 28 false (.op (some 29) .any [0, 28] (.mov (.tmp 0)) <|
 .op (some 30) .any [28] (.buildSlice 9 1 [(V.str ⟨0, 0⟩)] [(0, 1, (.con (V.str ⟨2, 17999⟩)))]) <|
 .op (some 31) .bool [29, 30, 28] (.call 21 [(.tmp 29), (.tmp 30)]) <|
 .op (some 32) .any [31, 28] (.un .not (.tmp 31)) <|
 .nil) 33 [28, 32] (.tmp 28) (.con (V.bool true)) (.tmp 32) <|
 .nil))
 (.cond (.tmp 33) (.seq (.ops (.op (some 6) .any [] (.mov (.con (V.bool false))) <|
 .nil))
 .ret)
 .skip))
 (.seq (.ops (.op (some 7) .any [] (.mov (.con (V.bool false))) <|
 .nil))
 (.seq (.ops (.op (some 35) .any [1] (.mov (.tmp 1)) <|
 .op (some 36) .any [0] (.mov (.tmp 0)) <|
 .op (some 37) .any [2] (.mov (.tmp 2)) <|
 .op (some 38) .any [37] (.bin .add .none (.tmp 37) (.con (V.int .i64 (Int.ofNat 1)))) <|
 .op (some 39) (.tup [(.int .i64), .bool]) [36, 38] (.call 44 [(.tmp 36), (.tmp 38)]) <|
 .op (some 34) .any [39] (.mov (.tmp 39)) <|
 .op (some 40) .any [34] (.extract 0 (.tmp 34)) <|
 .op (some 41) .any [34] (.extract 1 (.tmp 34)) <|
 .op (some 42) .any [35] (.nilck (.tmp 35)) <|
 .op (some 43) .any [42] (.faddr 15 (.tmp 42)) <|
 .op none .any [43, 40] (.store 1 (.tmp 43) (.tmp 40)) <|
 .op (some 7) .any [41] (.mov (.tmp 41)) <|
 .nil))
 (.seq (.ops (.op (some 44) .any [7] (.mov (.tmp 7)) <|
 .op (some 6) .any [44] (.mov (.tmp 44)) <|
 .nil))
 .ret)))))))
def T67_0 (E : List (Nat × Blk)) (D : Den) (W : DrawFn) (v0b : Nat) (v0o : Nat) (v1b : Nat) (v1o : Nat) (v2 : Int) (σ : H) : Ans :=
 callK (D 22 [(V.ptr v0b v0o), (V.str (BS.mk 1 123))] σ) fun u1 s2 =>
 rtBool u1 fun x3 =>
 condK x3 (
 stK 1 v1b v1o (V.int .i64 (Int.ofNat 7)) s2 fun s4 =>
 callK (D 66 [(V.ptr v0b v0o), (V.ptr v1b v1o), (V.int .i64 v2)] s4) fun u5 s6 =>
 rtBool u5 fun x7 =>
 some ((V.bool x7), s6)) (
 stK 1 v1b v1o (V.int .i64 (Int.ofNat 10)) s2 fun s8 =>
 callK (D 63 [(V.ptr v0b v0o), (V.ptr v1b (Nat.add v1o 5))] s8) fun u9 s10 =>
 rtBool u9 fun x11 =>
 joinB (fun c12 s13 =>
 condK c12 (
 some ((V.bool false), s13)) (
 callK (D 44 [(V.ptr v0b v0o), (V.int .i64 (addF .i64 v2 (Int.ofNat 1)))] s13) fun u15 s16 =>
 rtTup u15 fun l17 =>
 rtCons l17 fun x18 l19 =>
 rtInt .i64 x18 fun x20 =>
 rtCons l19 fun x21 l22 =>
 rtBool x21 fun x23 =>
 rtNil l22 (
 stK 1 v1b (Nat.add v1o 15) (V.int .i64 x20) s16 fun s24 =>
 some ((V.bool x23), s24)))) fun k14 =>
 condK (not x11) (
 k14 true s10) (
 let s25 := newB s10 (.cells [(V.str (BS.mk 2 17999))]);
 callK (D 21 [(V.ptr v0b v0o), (V.sl (H.next s10) 0 1 (.ex 1))] s25) fun u26 s27 =>
 rtBool u26 fun x28 =>
 k14 (not x28) s27))
theorem P67_0 (E : List (Nat × Blk)) (D : Den) (W : DrawFn) (N : Nat) (v0b : Nat) (v0o : Nat) (v1b : Nat) (v1o : Nat) (v2 : Int) (σ : H) :
  denC E D W N (C67_0 ) ⟨[(0, (V.ptr v0b v0o)), (1, (V.ptr v1b v1o)), (2, (V.int .i64 v2))], [], [], σ⟩ (Fin67 E) (fun _ _ => none) (Fin67 E) =
  T67_0 E D W  v0b v0o v1b v1o v2 σ := by kernel_rfl
def J67_0 (E : List (Nat × Blk)) (D : Den) (W : DrawFn) (N : Nat) : Nat → Nat → Nat → Nat → Int → H → Ans := T67_0 E D W 
theorem JE67_0 (E : List (Nat × Blk)) (D : Den) (W : DrawFn) (N : Nat) (v0b : Nat) (v0o : Nat) (v1b : Nat) (v1o : Nat) (v2 : Int) (σ : H) :
  denC E D W N C67_0 ⟨[(0, (V.ptr v0b v0o)), (1, (V.ptr v1b v1o)), (2, (V.int .i64 v2))], [], [], σ⟩ (Fin67 E) (fun _ _ => none) (Fin67 E) = J67_0 E D W N v0b v0o v1b v1o v2 σ := by
  refine (P67_0 E D W N   v0b v0o v1b v1o v2 σ).trans ?_
  kernel_rfl
def F67 (E : List (Nat × Blk)) (D : Den) (W : DrawFn) (N : Nat) (args : List V) (σ : H) : Ans :=
 rtCons args fun x1 l2 =>
 rtPtr x1 fun b3 o4 =>
 rtCons l2 fun x5 l6 =>
 rtPtr x5 fun b7 o8 =>
 rtCons l6 fun x9 l10 =>
 rtInt .i64 x9 fun x11 =>
 rtNil l10 (
 J67_0 E D W N b3 o4 b7 o8 x11 σ)
def A67 : XFn := ⟨45, [.ptr, .ptr, (.int .i64)], [(.tmp 6)], C67_0⟩
theorem FE67 (E : List (Nat × Blk)) (D : Den) (W : DrawFn) (N : Nat) (args : List V) (σ : H) : runX E D W N A67 args σ = F67 E D W N args σ := by
  unfold F67
  simp only [← JE67_0]
  kernel_rfl
theorem AO67 : A67.body.ok = true := by kernel_rfl

/-! ### F68: internal_strconv.ParseUint -/
def Fin68 (E : List (Nat × Blk)) : St → Ans := fun s => resK E s [(.tmp 6), (.tmp 7)] fun l => some (oneV l, s.σ)
def C68_0 (cc1 : XC) : XC := (.seq (.ops (.op (some 6) .any [] (.mov (.con (V.int .u64 (Int.ofNat 0)))) <|
 .op (some 7) .any [] (.mov (.con V.nili)) <|
 .nil))
 (.seq (.seq (.ops (.op (some 18) .any [0] (.mov (.tmp 0)) <|
 .op (some 19) .any [18] (.bin .eql .none (.tmp 18) (.con (V.str ⟨0, 0⟩))) <|
 .nil))
 (.cond (.tmp 19) (.seq (.ops (.op (some 20) .any [] (.mkifc 126 (.con (V.int .i64 (Int.ofNat 2)))) <|
 .op (some 6) .any [] (.mov (.con (V.int .u64 (Int.ofNat 0)))) <|
 .op (some 7) .any [20] (.mov (.tmp 20)) <|
 .nil))
 .ret)
 .skip))
 (.seq (.ops (.op (some 21) .any [1] (.mov (.tmp 1)) <|
 .op (some 22) .any [21] (.bin .eql .none (.tmp 21) (.con (V.int .i64 (Int.ofNat 0)))) <|
 .op (some 8) .any [22] (.mov (.tmp 22)) <|
 .nil))
 (.seq (.ops (.op (some 23) .any [0] (.mov (.tmp 0)) <|
 .op (some 9) .any [23] (.mov (.tmp 23)) <|
 .nil))
 (.seq (.block 0 (.seq (.ops (.op (some 26) .any [1] (.mov (.tmp 1)) <|
 .op (some 27) .any [26] (.bin .leq .none (.con (V.int .i64 (Int.ofNat 2))) (.tmp 26)) <|
 .op (some 28) .any [27] (.mov (.tmp 27)) <|
 .grp 28 true (.op (some 29) .any [1, 28] (.mov (.tmp 1)) <|
 .op (some 30) .any [29, 28] (.bin .leq .none (.tmp 29) (.con (V.int .i64 (Int.ofNat 36)))) <|
 .nil) 31 [28, 30] (.tmp 28) (.tmp 30) (.con (V.bool false)) <|
 .op (some 25) .any [31] (.mov (.tmp 31)) <|
 .nil))
 (.cond (.tmp 25) .skip
 (.seq (.ops (.op (some 33) .any [1] (.mov (.tmp 1)) <|
 .op (some 34) .any [33] (.bin .eql .none (.tmp 33) (.con (V.int .i64 (Int.ofNat 0)))) <|
 .op (some 32) .any [34] (.mov (.tmp 34)) <|
 .nil))
 (.cond (.tmp 32) (.seq (.ops (.op (some 1) .any [] (.mov (.con (V.int .i64 (Int.ofNat 10)))) <|
 .nil))
 (.seq (.ops (.op (some 35) .any [0] (.mov (.tmp 0)) <|
 .op (some 36) .any [35] (.idxStr (.tmp 35) (.con (V.int .i64 (Int.ofNat 0)))) <|
 .op (some 37) .any [36] (.bin .eql .none (.tmp 36) (.con (V.int .u8 (Int.ofNat 48)))) <|
 .nil))
 (.cond (.tmp 37) (.block 1 (.seq (.ops (.op (some 41) .any [0] (.mov (.tmp 0)) <|
 .op (some 42) .any [41] (.len true (.tmp 41)) <|
 .op (some 43) .any [42] (.bin .geq .none (.tmp 42) (.con (V.int .i64 (Int.ofNat 3)))) <|
 .op (some 44) .any [43] (.mov (.tmp 43)) <|
 .grp 44 true (.op (some 45) .any [0, 44] (.mov (.tmp 0)) <|
 .op (some 46) .any [45, 44] (.idxStr (.tmp 45) (.con (V.int .i64 (Int.ofNat 1)))) <|
 .op (some 47) (.int .u8) [46, 44] (.call 77 [(.tmp 46)]) <|
 .op (some 48) .any [47, 44] (.bin .eql .none (.tmp 47) (.con (V.int .u8 (Int.ofNat 98)))) <|
 .nil) 49 [44, 48] (.tmp 44) (.tmp 48) (.con (V.bool false)) <|
 .op (some 40) .any [49] (.mov (.tmp 49)) <|
 .nil))
 (.cond (.tmp 40) (.seq (.ops (.op (some 1) .any [] (.mov (.con (V.int .i64 (Int.ofNat 2)))) <|
 .nil))
 (.ops (.op (some 50) .any [0] (.mov (.tmp 0)) <|
 .op (some 51) .any [50] (.sliceStr (.tmp 50) (some (.con (V.int .i64 (Int.ofNat 2)))) none) <|
 .op (some 0) .any [51] (.mov (.tmp 51)) <|
 .nil)))
 (.seq (.ops (.op (some 53) .any [0] (.mov (.tmp 0)) <|
 .op (some 54) .any [53] (.len true (.tmp 53)) <|
 .op (some 55) .any [54] (.bin .geq .none (.tmp 54) (.con (V.int .i64 (Int.ofNat 3)))) <|
 .op (some 56) .any [55] (.mov (.tmp 55)) <|
 .grp 56 true (.op (some 57) .any [0, 56] (.mov (.tmp 0)) <|
 .op (some 58) .any [57, 56] (.idxStr (.tmp 57) (.con (V.int .i64 (Int.ofNat 1)))) <|
 .op (some 59) (.int .u8) [58, 56] (.call 77 [(.tmp 58)]) <|
 .op (some 60) .any [59, 56] (.bin .eql .none (.tmp 59) (.con (V.int .u8 (Int.ofNat 111)))) <|
 .nil) 61 [56, 60] (.tmp 56) (.tmp 60) (.con (V.bool false)) <|
 .op (some 52) .any [61] (.mov (.tmp 61)) <|
 .nil))
 (.cond (.tmp 52) (.seq (.ops (.op (some 1) .any [] (.mov (.con (V.int .i64 (Int.ofNat 8)))) <|
 .nil))
 (.ops (.op (some 62) .any [0] (.mov (.tmp 0)) <|
 .op (some 63) .any [62] (.sliceStr (.tmp 62) (some (.con (V.int .i64 (Int.ofNat 2)))) none) <|
 .op (some 0) .any [63] (.mov (.tmp 63)) <|
 .nil)))
 (.seq (.ops (.op (some 65) .any [0] (.mov (.tmp 0)) <|
 .op (some 66) .any [65] (.len true (.tmp 65)) <|
 .op (some 67) .any [66] (.bin .geq .none (.tmp 66) (.con (V.int .i64 (Int.ofNat 3)))) <|
 .op (some 68) .any [67] (.mov (.tmp 67)) <|
 .grp 68 true (.op (some 69) .any [0, 68] (.mov (.tmp 0)) <|
 .op (some 70) .any [69, 68] (.idxStr (.tmp 69) (.con (V.int .i64 (Int.ofNat 1)))) <|
 .op (some 71) (.int .u8) [70, 68] (.call 77 [(.tmp 70)]) <|
 .op (some 72) .any [71, 68] (.bin .eql .none (.tmp 71) (.con (V.int .u8 (Int.ofNat 120)))) <|
 .nil) 73 [68, 72] (.tmp 68) (.tmp 72) (.con (V.bool false)) <|
 .op (some 64) .any [73] (.mov (.tmp 73)) <|
 .nil))
 (.cond (.tmp 64) (.seq (.ops (.op (some 1) .any [] (.mov (.con (V.int .i64 (Int.ofNat 16)))) <|
 .nil))
 (.ops (.op (some 74) .any [0] (.mov (.tmp 0)) <|
 .op (some 75) .any [74] (.sliceStr (.tmp 74) (some (.con (V.int .i64 (Int.ofNat 2)))) none) <|
 .op (some 0) .any [75] (.mov (.tmp 75)) <|
 .nil)))
 (.seq (.ops (.op (some 1) .any [] (.mov (.con (V.int .i64 (Int.ofNat 8)))) <|
 .nil))
 (.ops (.op (some 38) .any [0] (.mov (.tmp 0)) <|
 .op (some 39) .any [38] (.sliceStr (.tmp 38) (some (.con (V.int .i64 (Int.ofNat 1)))) none) <|
 .op (some 0) .any [39] (.mov (.tmp 39)) <|
 .nil))))))))))
 .skip)))
 (.seq (.ops (.op (some 24) .any [] (.mkifc 126 (.con (V.int .i64 (Int.ofNat 3)))) <|
 .op (some 6) .any [] (.mov (.con (V.int .u64 (Int.ofNat 0)))) <|
 .op (some 7) .any [24] (.mov (.tmp 24)) <|
 .nil))
 .ret))))))
 (.keep [(0, .str), (1, (.int .i64)), (2, (.int .i64)), (8, .bool), (9, .str)] [] [] cc1))))))
def T68_0 (E : List (Nat × Blk)) (D : Den) (W : DrawFn) (K1 : BS → Int → Int → Bool → BS → H → Ans) (v0 : BS) (v1 : Int) (v2 : Int) (σ : H) : Ans :=
 condK (BS.beq v0 (BS.mk 0 0)) (
 some ((V.tup [(V.int .u64 (Int.ofNat 0)), (V.ifc 126 (V.int .i64 (Int.ofNat 2)))]), σ)) (
 joinB (fun c1 s2 =>
 condK c1 (
 K1 v0 v1 v2 (eqF v1 (Int.ofNat 0)) v0 s2) (
 condK (eqF v1 (Int.ofNat 0)) (
 idxStrX v0 (Int.ofNat 0) fun x4 =>
 condK (eqF x4 (Int.ofNat 48)) (
 joinB (fun c5 s6 =>
 condK c5 (
 sliceStrX v0 (some (V.int .i64 (Int.ofNat 2))) none fun t8 =>
 K1 t8 (Int.ofNat 2) v2 (eqF v1 (Int.ofNat 0)) v0 s6) (
 joinB (fun c9 s10 =>
 condK c9 (
 sliceStrX v0 (some (V.int .i64 (Int.ofNat 2))) none fun t12 =>
 K1 t12 (Int.ofNat 8) v2 (eqF v1 (Int.ofNat 0)) v0 s10) (
 joinB (fun c13 s14 =>
 condK c13 (
 sliceStrX v0 (some (V.int .i64 (Int.ofNat 2))) none fun t16 =>
 K1 t16 (Int.ofNat 16) v2 (eqF v1 (Int.ofNat 0)) v0 s14) (
 sliceStrX v0 (some (V.int .i64 (Int.ofNat 1))) none fun t17 =>
 K1 t17 (Int.ofNat 8) v2 (eqF v1 (Int.ofNat 0)) v0 s14)) fun k15 =>
 condK (leF (Int.ofNat 3) (Int.ofNat (BS.len v0))) (
 idxStrX v0 (Int.ofNat 1) fun x18 =>
 callK (D 77 [(V.int .u8 x18)] s10) fun u19 s20 =>
 rtInt .u8 u19 fun x21 =>
 k15 (eqF x21 (Int.ofNat 120)) s20) (
 k15 false s10))) fun k11 =>
 condK (leF (Int.ofNat 3) (Int.ofNat (BS.len v0))) (
 idxStrX v0 (Int.ofNat 1) fun x22 =>
 callK (D 77 [(V.int .u8 x22)] s6) fun u23 s24 =>
 rtInt .u8 u23 fun x25 =>
 k11 (eqF x25 (Int.ofNat 111)) s24) (
 k11 false s6))) fun k7 =>
 condK (leF (Int.ofNat 3) (Int.ofNat (BS.len v0))) (
 idxStrX v0 (Int.ofNat 1) fun x26 =>
 callK (D 77 [(V.int .u8 x26)] s2) fun u27 s28 =>
 rtInt .u8 u27 fun x29 =>
 k7 (eqF x29 (Int.ofNat 98)) s28) (
 k7 false s2)) (
 K1 v0 (Int.ofNat 10) v2 (eqF v1 (Int.ofNat 0)) v0 s2)) (
 some ((V.tup [(V.int .u64 (Int.ofNat 0)), (V.ifc 126 (V.int .i64 (Int.ofNat 3)))]), s2)))) fun k3 =>
 condK (leF (Int.ofNat 2) v1) (
 k3 (leF v1 (Int.ofNat 36)) σ) (
 k3 false σ))
def C68_1 (cc2 : XC) : XC := (.seq (.seq (.ops (.op (some 76) .any [2] (.mov (.tmp 2)) <|
 .op (some 77) .any [76] (.bin .eql .none (.tmp 76) (.con (V.int .i64 (Int.ofNat 0)))) <|
 .nil))
 (.cond (.tmp 77) (.ops (.op (some 2) .any [] (.mov (.con (V.int .i64 (Int.ofNat 64)))) <|
 .nil))
 (.seq (.ops (.op (some 78) .any [2] (.mov (.tmp 2)) <|
 .op (some 79) .any [78] (.bin .lss .none (.tmp 78) (.con (V.int .i64 (Int.ofNat 0)))) <|
 .op (some 80) .any [79] (.mov (.tmp 79)) <|
 .grp 80 false (.op (some 81) .any [2, 80] (.mov (.tmp 2)) <|
 .op (some 82) .any [81, 80] (.bin .gtr .none (.tmp 81) (.con (V.int .i64 (Int.ofNat 64)))) <|
 .nil) 83 [80, 82] (.tmp 80) (.con (V.bool true)) (.tmp 82) <|
 .nil))
 (.cond (.tmp 83) (.seq (.ops (.op (some 84) .any [] (.mkifc 126 (.con (V.int .i64 (Int.ofNat 4)))) <|
 .op (some 6) .any [] (.mov (.con (V.int .u64 (Int.ofNat 0)))) <|
 .op (some 7) .any [84] (.mov (.tmp 84)) <|
 .nil))
 .ret)
 .skip))))
 (.keep [(0, .str), (1, (.int .i64)), (2, (.int .i64)), (8, .bool), (9, .str)] [] [] cc2))
def T68_1 (E : List (Nat × Blk)) (D : Den) (W : DrawFn) (K2 : BS → Int → Int → Bool → BS → H → Ans) (v0 : BS) (v1 : Int) (v2 : Int) (v8 : Bool) (v9 : BS) (σ : H) : Ans :=
 condK (eqF v2 (Int.ofNat 0)) (
 K2 v0 v1 (Int.ofNat 64) v8 v9 σ) (
 joinB (fun c1 s2 =>
 condK c1 (
 some ((V.tup [(V.int .u64 (Int.ofNat 0)), (V.ifc 126 (V.int .i64 (Int.ofNat 4)))]), s2)) (
 K2 v0 v1 v2 v8 v9 s2)) fun k3 =>
 condK (ltF v2 (Int.ofNat 0)) (
 k3 true σ) (
 k3 (ltF (Int.ofNat 64) v2) σ))
def C68_2 (cc3 : XC) : XC := (.seq (.ops (.op (some 10) .any [] (.mov (.con (V.int .u64 (Int.ofNat 0)))) <|
 .nil))
 (.seq (.seq (.ops (.op (some 85) .any [1] (.mov (.tmp 1)) <|
 .nil))
 (.block 2 (.seq (.ops (.op (some 91) .any [85] (.bin .eql .none (.tmp 85) (.con (V.int .i64 (Int.ofNat 10)))) <|
 .op (some 90) .any [91] (.mov (.tmp 91)) <|
 .nil))
 (.cond (.tmp 90) (.ops (.op (some 10) .any [] (.mov (.con (V.int .u64 (Int.ofNat 1844674407370955162)))) <|
 .nil))
 (.seq (.ops (.op (some 93) .any [85] (.bin .eql .none (.tmp 85) (.con (V.int .i64 (Int.ofNat 16)))) <|
 .op (some 92) .any [93] (.mov (.tmp 93)) <|
 .nil))
 (.cond (.tmp 92) (.ops (.op (some 10) .any [] (.mov (.con (V.int .u64 (Int.ofNat 1152921504606846976)))) <|
 .nil))
 (.ops (.op (some 86) .any [1] (.mov (.tmp 1)) <|
 .op (some 87) .any [86] (.conv (.toInt .u64) (.tmp 86)) <|
 .op (some 88) .any [87] (.bin .quo .none (.con (V.int .u64 (Int.ofNat 18446744073709551615))) (.tmp 87)) <|
 .op (some 89) .any [88] (.bin .add .none (.tmp 88) (.con (V.int .u64 (Int.ofNat 1)))) <|
 .op (some 10) .any [89] (.mov (.tmp 89)) <|
 .nil))))))))
 (.keep [(0, .str), (1, (.int .i64)), (2, (.int .i64)), (8, .bool), (9, .str), (10, (.int .u64))] [] [] cc3)))
def T68_2 (E : List (Nat × Blk)) (D : Den) (W : DrawFn) (K3 : BS → Int → Int → Bool → BS → Int → H → Ans) (v0 : BS) (v1 : Int) (v2 : Int) (v8 : Bool) (v9 : BS) (σ : H) : Ans :=
 condK (eqF v1 (Int.ofNat 10)) (
 K3 v0 v1 v2 v8 v9 (Int.ofNat 1844674407370955162) σ) (
 condK (eqF v1 (Int.ofNat 16)) (
 K3 v0 v1 v2 v8 v9 (Int.ofNat 1152921504606846976) σ) (
 nzK (wrapF .u64 v1) (
 K3 v0 v1 v2 v8 v9 (addF .u64 (quoF .u64 (Int.ofNat 18446744073709551615) (wrapF .u64 v1)) (Int.ofNat 1)) σ)))
def C68_3 (cc4 : XC) (cc5 : XC) : XC := (.seq (.ops (.op (some 94) .any [2] (.mov (.tmp 2)) <|
 .op (some 95) .any [94] (.conv (.toInt .u64) (.tmp 94)) <|
 .op (some 96) .any [95] (.bin .shl .none (.con (V.int .u64 (Int.ofNat 1))) (.tmp 95)) <|
 .op (some 97) .any [96] (.bin .sub .none (.tmp 96) (.con (V.int .u64 (Int.ofNat 1)))) <|
 .op (some 11) .any [97] (.mov (.tmp 97)) <|
 .nil))
 (.seq (.ops (.op (some 12) .any [] (.mov (.con (V.bool false))) <|
 .nil))
 (.seq (.ops (.op (some 13) .any [] (.mov (.con (V.int .u64 (Int.ofNat 0)))) <|
 .nil))
 (.seq (.seq (.ops (.op (some 98) .any [0] (.mov (.tmp 0)) <|
 .op (some 99) .any [98] (.conv (.toBytes 5) (.tmp 98)) <|
 .op (some 100) .any [99] (.len false (.tmp 99)) <|
 .op (some 101) .any [] (.mov (.con (V.int .i64 (Int.ofNat 0)))) <|
 .nil))
 (.block 3 (.loop [(1, (.int .i64)), (8, .bool), (9, .str), (10, (.int .u64)), (11, (.int .u64)), (12, .bool), (13, (.int .u64)), (99, .any), (100, (.int .i64)), (101, (.int .i64))] [] [] cc5)))
 (.keep [(9, .str), (12, .bool), (13, (.int .u64))] [] [] cc4)))))
def T68_3 (E : List (Nat × Blk)) (D : Den) (W : DrawFn) (K5 : Int → Bool → BS → Int → Int → Bool → Int → V → Int → Int → H → Ans) (v0 : BS) (v1 : Int) (v2 : Int) (v8 : Bool) (v9 : BS) (v10 : Int) (σ : H) : Ans :=
 nnK (wrapF .u64 v2) fun n1 =>
 chk (Nat.ble (BS.len v0) 1000000000000) (
 let s2 := newB σ (.cells (ints (BS.toList v0)));
 slenK (V.sl (H.next σ) 0 (BS.len v0) (.op 1)) fun n3 =>
 K5 v1 v8 v9 v10 (subF .u64 (shlF .u64 (Int.ofNat 1) n1) (Int.ofNat 1)) false (Int.ofNat 0) (V.sl (H.next σ) 0 (BS.len v0) (.op 1)) (Int.ofNat n3) (Int.ofNat 0) s2)
def C68_4 : XC := (.seq (.seq (.ops (.op (some 164) .any [12] (.mov (.tmp 12)) <|
 .op (some 165) .any [164] (.mov (.tmp 164)) <|
 .grp 165 true (.op (some 166) .any [9, 165] (.mov (.tmp 9)) <|
 .op (some 167) .bool [166, 165] (.call 78 [(.tmp 166)]) <|
 .op (some 168) .any [167, 165] (.un .not (.tmp 167)) <|
 .nil) 169 [165, 168] (.tmp 165) (.tmp 168) (.con (V.bool false)) <|
 .nil))
 (.cond (.tmp 169) (.seq (.ops (.op (some 170) .any [] (.mkifc 126 (.con (V.int .i64 (Int.ofNat 2)))) <|
 .op (some 6) .any [] (.mov (.con (V.int .u64 (Int.ofNat 0)))) <|
 .op (some 7) .any [170] (.mov (.tmp 170)) <|
 .nil))
 .ret)
 .skip))
 (.seq (.ops (.op (some 171) .any [13] (.mov (.tmp 13)) <|
 .op (some 6) .any [171] (.mov (.tmp 171)) <|
 .op (some 7) .any [] (.mov (.con V.nili)) <|
 .nil))
 .ret))
def T68_4 (E : List (Nat × Blk)) (D : Den) (W : DrawFn) (v9 : BS) (v12 : Bool) (v13 : Int) (σ : H) : Ans :=
 joinB (fun c1 s2 =>
 condK c1 (
 some ((V.tup [(V.int .u64 (Int.ofNat 0)), (V.ifc 126 (V.int .i64 (Int.ofNat 2)))]), s2)) (
 some ((V.tup [(V.int .u64 v13), V.nili]), s2))) fun k3 =>
 condK v12 (
 callK (D 78 [(V.str v9)] σ) fun u4 s5 =>
 rtBool u4 fun x6 =>
 k3 (not x6) s5) (
 k3 false σ)
def C68_5 (cc6 : XC) (cc7 : XC) : XC := (.seq (.ops (.op (some 102) .any [101, 100] (.bin .lss .none (.tmp 101) (.tmp 100)) <|
 .nil))
 (.seq (.cond (.tmp 102) .skip
 (.exit 3))
 (.seq (.block 4 (.seq (.ops (.op (some 103) .any [99, 101] (.iaddrS 1 (.tmp 99) (.tmp 101)) <|
 .op (some 104) (.int .u8) [103] (.load none (.tmp 103)) <|
 .op (some 15) .any [104] (.mov (.tmp 104)) <|
 .nil))
 (.seq (.ops (.op (some 16) .any [] (.mov (.con (V.int .u8 (Int.ofNat 0)))) <|
 .nil))
 (.seq (.block 5 (.seq (.ops (.op (some 107) .any [15] (.mov (.tmp 15)) <|
 .op (some 108) .any [107] (.bin .eql .none (.tmp 107) (.con (V.int .u8 (Int.ofNat 95)))) <|
 .op (some 109) .any [108] (.mov (.tmp 108)) <|
 .grp 109 true (.op (some 110) .any [8, 109] (.mov (.tmp 8)) <|
 .nil) 111 [109, 110] (.tmp 109) (.tmp 110) (.con (V.bool false)) <|
 .op (some 106) .any [111] (.mov (.tmp 111)) <|
 .nil))
 (.cond (.tmp 106) (.seq (.ops (.op (some 12) .any [] (.mov (.con (V.bool true))) <|
 .nil))
 (.exit 4))
 (.seq (.ops (.op (some 113) .any [15] (.mov (.tmp 15)) <|
 .op (some 114) .any [113] (.bin .leq .none (.con (V.int .u8 (Int.ofNat 48))) (.tmp 113)) <|
 .op (some 115) .any [114] (.mov (.tmp 114)) <|
 .grp 115 true (.op (some 116) .any [15, 115] (.mov (.tmp 15)) <|
 .op (some 117) .any [116, 115] (.bin .leq .none (.tmp 116) (.con (V.int .u8 (Int.ofNat 57)))) <|
 .nil) 118 [115, 117] (.tmp 115) (.tmp 117) (.con (V.bool false)) <|
 .op (some 112) .any [118] (.mov (.tmp 118)) <|
 .nil))
 (.cond (.tmp 112) (.ops (.op (some 119) .any [15] (.mov (.tmp 15)) <|
 .op (some 120) .any [119] (.bin .sub .none (.tmp 119) (.con (V.int .u8 (Int.ofNat 48)))) <|
 .op (some 16) .any [120] (.mov (.tmp 120)) <|
 .nil))
 (.seq (.ops (.op (some 122) .any [15] (.mov (.tmp 15)) <|
 .op (some 123) (.int .u8) [122] (.call 77 [(.tmp 122)]) <|
 .op (some 124) .any [123] (.bin .leq .none (.con (V.int .u8 (Int.ofNat 97))) (.tmp 123)) <|
 .op (some 125) .any [124] (.mov (.tmp 124)) <|
 .grp 125 true (.op (some 126) .any [15, 125] (.mov (.tmp 15)) <|
 .op (some 127) (.int .u8) [126, 125] (.call 77 [(.tmp 126)]) <|
 .op (some 128) .any [127, 125] (.bin .leq .none (.tmp 127) (.con (V.int .u8 (Int.ofNat 122)))) <|
 .nil) 129 [125, 128] (.tmp 125) (.tmp 128) (.con (V.bool false)) <|
 .op (some 121) .any [129] (.mov (.tmp 129)) <|
 .nil))
 (.cond (.tmp 121) (.ops (.op (some 130) .any [15] (.mov (.tmp 15)) <|
 .op (some 131) (.int .u8) [130] (.call 77 [(.tmp 130)]) <|
 .op (some 132) .any [131] (.bin .sub .none (.tmp 131) (.con (V.int .u8 (Int.ofNat 97)))) <|
 .op (some 133) .any [132] (.bin .add .none (.tmp 132) (.con (V.int .u8 (Int.ofNat 10)))) <|
 .op (some 16) .any [133] (.mov (.tmp 133)) <|
 .nil))
 (.seq (.ops (.op (some 105) .any [] (.mkifc 126 (.con (V.int .i64 (Int.ofNat 2)))) <|
 .op (some 6) .any [] (.mov (.con (V.int .u64 (Int.ofNat 0)))) <|
 .op (some 7) .any [105] (.mov (.tmp 105)) <|
 .nil))
 .ret))))))))
 (.keep [(1, (.int .i64)), (8, .bool), (9, .str), (10, (.int .u64)), (11, (.int .u64)), (12, .bool), (13, (.int .u64)), (16, (.int .u8)), (99, .any), (100, (.int .i64)), (101, (.int .i64))] [] [] cc7)))))
 (.keep [(1, (.int .i64)), (8, .bool), (9, .str), (10, (.int .u64)), (11, (.int .u64)), (12, .bool), (13, (.int .u64)), (99, .any), (100, (.int .i64)), (101, (.int .i64))] [] [] cc6))))
def T68_5 (E : List (Nat × Blk)) (D : Den) (W : DrawFn) (K4 : BS → Bool → Int → H → Ans) (K6 : Int → Bool → BS → Int → Int → Bool → Int → V → Int → Int → H → Ans) (K7 : Int → Bool → BS → Int → Int → Bool → Int → Int → V → Int → Int → H → Ans) (v1 : Int) (v8 : Bool) (v9 : BS) (v10 : Int) (v11 : Int) (v12 : Bool) (v13 : Int) (v99 : V) (v100 : Int) (v101 : Int) (σ : H) : Ans :=
 condK (ltF v101 v100) (
 iaddrSK 1 v99 v101 fun b1 o2 =>
 ldK E σ b1 o2 fun u3 =>
 rtInt .u8 u3 fun x4 =>
 joinB (fun c5 s6 =>
 condK c5 (
 K6 v1 v8 v9 v10 v11 true v13 v99 v100 v101 s6) (
 joinB (fun c8 s9 =>
 condK c8 (
 K7 v1 v8 v9 v10 v11 v12 v13 (subF .u8 x4 (Int.ofNat 48)) v99 v100 v101 s9) (
 callK (D 77 [(V.int .u8 x4)] s9) fun u11 s12 =>
 rtInt .u8 u11 fun x13 =>
 joinB (fun c14 s15 =>
 condK c14 (
 callK (D 77 [(V.int .u8 x4)] s15) fun u17 s18 =>
 rtInt .u8 u17 fun x19 =>
 K7 v1 v8 v9 v10 v11 v12 v13 (addF .u8 (subF .u8 x19 (Int.ofNat 97)) (Int.ofNat 10)) v99 v100 v101 s18) (
 some ((V.tup [(V.int .u64 (Int.ofNat 0)), (V.ifc 126 (V.int .i64 (Int.ofNat 2)))]), s15))) fun k16 =>
 condK (leF (Int.ofNat 97) x13) (
 callK (D 77 [(V.int .u8 x4)] s12) fun u20 s21 =>
 rtInt .u8 u20 fun x22 =>
 k16 (leF x22 (Int.ofNat 122)) s21) (
 k16 false s12))) fun k10 =>
 condK (leF (Int.ofNat 48) x4) (
 k10 (leF x4 (Int.ofNat 57)) s6) (
 k10 false s6))) fun k7 =>
 condK (eqF x4 (Int.ofNat 95)) (
 k7 v8 σ) (
 k7 false σ)) (
 K4 v9 v12 v13 σ)
def C68_6 : XC := (.ops (.op (some 163) .any [101] (.bin .add .none (.tmp 101) (.con (V.int .i64 (Int.ofNat 1)))) <|
 .op (some 101) .any [163] (.mov (.tmp 163)) <|
 .nil))
def T68_6 (E : List (Nat × Blk)) (D : Den) (W : DrawFn) (R5 : Int → Bool → BS → Int → Int → Bool → Int → V → Int → Int → H → Ans) (v1 : Int) (v8 : Bool) (v9 : BS) (v10 : Int) (v11 : Int) (v12 : Bool) (v13 : Int) (v99 : V) (v100 : Int) (v101 : Int) (σ : H) : Ans :=
 R5 v1 v8 v9 v10 v11 v12 v13 v99 v100 (addF .i64 v101 (Int.ofNat 1)) σ
def C68_7 : XC := (.seq (.seq (.ops (.op (some 134) .any [16] (.mov (.tmp 16)) <|
 .op (some 135) .any [1] (.mov (.tmp 1)) <|
 .op (some 136) .any [135] (.conv (.toInt .u8) (.tmp 135)) <|
 .op (some 137) .any [134, 136] (.bin .geq .none (.tmp 134) (.tmp 136)) <|
 .nil))
 (.cond (.tmp 137) (.seq (.ops (.op (some 138) .any [] (.mkifc 126 (.con (V.int .i64 (Int.ofNat 2)))) <|
 .op (some 6) .any [] (.mov (.con (V.int .u64 (Int.ofNat 0)))) <|
 .op (some 7) .any [138] (.mov (.tmp 138)) <|
 .nil))
 .ret)
 .skip))
 (.seq (.seq (.ops (.op (some 139) .any [13] (.mov (.tmp 13)) <|
 .op (some 140) .any [10] (.mov (.tmp 10)) <|
 .op (some 141) .any [139, 140] (.bin .geq .none (.tmp 139) (.tmp 140)) <|
 .nil))
 (.cond (.tmp 141) (.seq (.ops (.op (some 142) .any [11] (.mov (.tmp 11)) <|
 .op (some 143) .any [] (.mkifc 126 (.con (V.int .i64 (Int.ofNat 1)))) <|
 .op (some 6) .any [142] (.mov (.tmp 142)) <|
 .op (some 7) .any [143] (.mov (.tmp 143)) <|
 .nil))
 .ret)
 .skip))
 (.seq (.ops (.op (some 144) .any [13] (.mov (.tmp 13)) <|
 .op (some 145) .any [1] (.mov (.tmp 1)) <|
 .op (some 146) .any [145] (.conv (.toInt .u64) (.tmp 145)) <|
 .op (some 147) .any [144, 146] (.bin .mul .none (.tmp 144) (.tmp 146)) <|
 .op (some 13) .any [147] (.mov (.tmp 147)) <|
 .nil))
 (.seq (.ops (.op (some 148) .any [13] (.mov (.tmp 13)) <|
 .op (some 149) .any [16] (.mov (.tmp 16)) <|
 .op (some 150) .any [149] (.conv (.toInt .u64) (.tmp 149)) <|
 .op (some 151) .any [148, 150] (.bin .add .none (.tmp 148) (.tmp 150)) <|
 .op (some 17) .any [151] (.mov (.tmp 151)) <|
 .nil))
 (.seq (.seq (.ops (.op (some 152) .any [17] (.mov (.tmp 17)) <|
 .op (some 153) .any [13] (.mov (.tmp 13)) <|
 .op (some 154) .any [152, 153] (.bin .lss .none (.tmp 152) (.tmp 153)) <|
 .op (some 155) .any [154] (.mov (.tmp 154)) <|
 .grp 155 false (.op (some 156) .any [17, 155] (.mov (.tmp 17)) <|
 .op (some 157) .any [11, 155] (.mov (.tmp 11)) <|
 .op (some 158) .any [156, 157, 155] (.bin .gtr .none (.tmp 156) (.tmp 157)) <|
 .nil) 159 [155, 158] (.tmp 155) (.con (V.bool true)) (.tmp 158) <|
 .nil))
 (.cond (.tmp 159) (.seq (.ops (.op (some 160) .any [11] (.mov (.tmp 11)) <|
 .op (some 161) .any [] (.mkifc 126 (.con (V.int .i64 (Int.ofNat 1)))) <|
 .op (some 6) .any [160] (.mov (.tmp 160)) <|
 .op (some 7) .any [161] (.mov (.tmp 161)) <|
 .nil))
 .ret)
 .skip))
 (.ops (.op (some 162) .any [17] (.mov (.tmp 17)) <|
 .op (some 13) .any [162] (.mov (.tmp 162)) <|
 .nil)))))))
def T68_7 (E : List (Nat × Blk)) (D : Den) (W : DrawFn) (K6 : Int → Bool → BS → Int → Int → Bool → Int → V → Int → Int → H → Ans) (v1 : Int) (v8 : Bool) (v9 : BS) (v10 : Int) (v11 : Int) (v12 : Bool) (v13 : Int) (v16 : Int) (v99 : V) (v100 : Int) (v101 : Int) (σ : H) : Ans :=
 condK (leF (wrapF .u8 v1) v16) (
 some ((V.tup [(V.int .u64 (Int.ofNat 0)), (V.ifc 126 (V.int .i64 (Int.ofNat 2)))]), σ)) (
 condK (leF v10 v13) (
 some ((V.tup [(V.int .u64 v11), (V.ifc 126 (V.int .i64 (Int.ofNat 1)))]), σ)) (
 joinB (fun c1 s2 =>
 condK c1 (
 some ((V.tup [(V.int .u64 v11), (V.ifc 126 (V.int .i64 (Int.ofNat 1)))]), s2)) (
 K6 v1 v8 v9 v10 v11 v12 (addF .u64 (mulF .u64 v13 (wrapF .u64 v1)) (wrapF .u64 v16)) v99 v100 v101 s2)) fun k3 =>
 condK (ltF (addF .u64 (mulF .u64 v13 (wrapF .u64 v1)) (wrapF .u64 v16)) (mulF .u64 v13 (wrapF .u64 v1))) (
 k3 true σ) (
 k3 (ltF v11 (addF .u64 (mulF .u64 v13 (wrapF .u64 v1)) (wrapF .u64 v16))) σ)))
theorem P68_0 (E : List (Nat × Blk)) (D : Den) (W : DrawFn) (N : Nat) (cc1 : XC) (v0 : BS) (v1 : Int) (v2 : Int) (σ : H) :
  denC E D W N (C68_0 cc1) ⟨[(0, (V.str v0)), (1, (V.int .i64 v1)), (2, (V.int .i64 v2))], [], [], σ⟩ (Fin68 E) (fun _ _ => none) (Fin68 E) =
  T68_0 E D W (fun v0 v1 v2 v8 v9 σ => denC E D W N cc1 ⟨[(0, (V.str v0)), (1, (V.int .i64 v1)), (2, (V.int .i64 v2)), (8, (V.bool v8)), (9, (V.str v9))], [], [], σ⟩ (Fin68 E) (fun _ _ => none) (Fin68 E)) v0 v1 v2 σ := by kernel_rfl
theorem P68_1 (E : List (Nat × Blk)) (D : Den) (W : DrawFn) (N : Nat) (cc2 : XC) (v0 : BS) (v1 : Int) (v2 : Int) (v8 : Bool) (v9 : BS) (σ : H) :
  denC E D W N (C68_1 cc2) ⟨[(0, (V.str v0)), (1, (V.int .i64 v1)), (2, (V.int .i64 v2)), (8, (V.bool v8)), (9, (V.str v9))], [], [], σ⟩ (Fin68 E) (fun _ _ => none) (Fin68 E) =
  T68_1 E D W (fun v0 v1 v2 v8 v9 σ => denC E D W N cc2 ⟨[(0, (V.str v0)), (1, (V.int .i64 v1)), (2, (V.int .i64 v2)), (8, (V.bool v8)), (9, (V.str v9))], [], [], σ⟩ (Fin68 E) (fun _ _ => none) (Fin68 E)) v0 v1 v2 v8 v9 σ := by kernel_rfl
theorem P68_2 (E : List (Nat × Blk)) (D : Den) (W : DrawFn) (N : Nat) (cc3 : XC) (v0 : BS) (v1 : Int) (v2 : Int) (v8 : Bool) (v9 : BS) (σ : H) :
  denC E D W N (C68_2 cc3) ⟨[(0, (V.str v0)), (1, (V.int .i64 v1)), (2, (V.int .i64 v2)), (8, (V.bool v8)), (9, (V.str v9))], [], [], σ⟩ (Fin68 E) (fun _ _ => none) (Fin68 E) =
  T68_2 E D W (fun v0 v1 v2 v8 v9 v10 σ => denC E D W N cc3 ⟨[(0, (V.str v0)), (1, (V.int .i64 v1)), (2, (V.int .i64 v2)), (8, (V.bool v8)), (9, (V.str v9)), (10, (V.int .u64 v10))], [], [], σ⟩ (Fin68 E) (fun _ _ => none) (Fin68 E)) v0 v1 v2 v8 v9 σ := by kernel_rfl
theorem P68_3 (E : List (Nat × Blk)) (D : Den) (W : DrawFn) (N : Nat) (cc4 : XC) (cc5 : XC) (v0 : BS) (v1 : Int) (v2 : Int) (v8 : Bool) (v9 : BS) (v10 : Int) (σ : H) :
  denC E D W N (C68_3 cc4 cc5) ⟨[(0, (V.str v0)), (1, (V.int .i64 v1)), (2, (V.int .i64 v2)), (8, (V.bool v8)), (9, (V.str v9)), (10, (V.int .u64 v10))], [], [], σ⟩ (Fin68 E) (fun _ _ => none) (Fin68 E) =
  T68_3 E D W (fun v1 v8 v9 v10 v11 v12 v13 v99 v100 v101 σ => iterK (fun rec s' => denC E D W N cc5 s' (fun s'' => keepS [(1, (.int .i64)), (8, .bool), (9, .str), (10, (.int .u64)), (11, (.int .u64)), (12, .bool), (13, (.int .u64)), (99, .any), (100, (.int .i64)), (101, (.int .i64))] [] [] s'' rec) (blkK 3 (fun s' => denC E D W N (.keep [(9, .str), (12, .bool), (13, (.int .u64))] [] [] cc4) s' (Fin68 E) (fun _ _ => none) (Fin68 E)) (fun _ _ => none)) (Fin68 E)) N ⟨[(1, (V.int .i64 v1)), (8, (V.bool v8)), (9, (V.str v9)), (10, (V.int .u64 v10)), (11, (V.int .u64 v11)), (12, (V.bool v12)), (13, (V.int .u64 v13)), (99, v99), (100, (V.int .i64 v100)), (101, (V.int .i64 v101))], [], [], σ⟩) v0 v1 v2 v8 v9 v10 σ := by kernel_rfl
theorem P68_4 (E : List (Nat × Blk)) (D : Den) (W : DrawFn) (N : Nat) (v9 : BS) (v12 : Bool) (v13 : Int) (σ : H) :
  denC E D W N (C68_4 ) ⟨[(9, (V.str v9)), (12, (V.bool v12)), (13, (V.int .u64 v13))], [], [], σ⟩ (Fin68 E) (fun _ _ => none) (Fin68 E) =
  T68_4 E D W  v9 v12 v13 σ := by kernel_rfl
theorem P68_5 (E : List (Nat × Blk)) (D : Den) (W : DrawFn) (N : Nat) (cc4 : XC) (cc6 : XC) (cc7 : XC) (li5 : St → Ans) (v1 : Int) (v8 : Bool) (v9 : BS) (v10 : Int) (v11 : Int) (v12 : Bool) (v13 : Int) (v99 : V) (v100 : Int) (v101 : Int) (σ : H) :
  denC E D W N (C68_5 cc6 cc7) ⟨[(1, (V.int .i64 v1)), (8, (V.bool v8)), (9, (V.str v9)), (10, (V.int .u64 v10)), (11, (V.int .u64 v11)), (12, (V.bool v12)), (13, (V.int .u64 v13)), (99, v99), (100, (V.int .i64 v100)), (101, (V.int .i64 v101))], [], [], σ⟩ (fun s'' => keepS [(1, (.int .i64)), (8, .bool), (9, .str), (10, (.int .u64)), (11, (.int .u64)), (12, .bool), (13, (.int .u64)), (99, .any), (100, (.int .i64)), (101, (.int .i64))] [] [] s'' li5) (blkK 3 (fun s' => denC E D W N (.keep [(9, .str), (12, .bool), (13, (.int .u64))] [] [] cc4) s' (Fin68 E) (fun _ _ => none) (Fin68 E)) (fun _ _ => none)) (Fin68 E) =
  T68_5 E D W (fun v9 v12 v13 σ => denC E D W N cc4 ⟨[(9, (V.str v9)), (12, (V.bool v12)), (13, (V.int .u64 v13))], [], [], σ⟩ (Fin68 E) (fun _ _ => none) (Fin68 E)) (fun v1 v8 v9 v10 v11 v12 v13 v99 v100 v101 σ => denC E D W N cc6 ⟨[(1, (V.int .i64 v1)), (8, (V.bool v8)), (9, (V.str v9)), (10, (V.int .u64 v10)), (11, (V.int .u64 v11)), (12, (V.bool v12)), (13, (V.int .u64 v13)), (99, v99), (100, (V.int .i64 v100)), (101, (V.int .i64 v101))], [], [], σ⟩ (fun s'' => keepS [(1, (.int .i64)), (8, .bool), (9, .str), (10, (.int .u64)), (11, (.int .u64)), (12, .bool), (13, (.int .u64)), (99, .any), (100, (.int .i64)), (101, (.int .i64))] [] [] s'' li5) (blkK 3 (fun s' => denC E D W N (.keep [(9, .str), (12, .bool), (13, (.int .u64))] [] [] cc4) s' (Fin68 E) (fun _ _ => none) (Fin68 E)) (fun _ _ => none)) (Fin68 E)) (fun v1 v8 v9 v10 v11 v12 v13 v16 v99 v100 v101 σ => denC E D W N cc7 ⟨[(1, (V.int .i64 v1)), (8, (V.bool v8)), (9, (V.str v9)), (10, (V.int .u64 v10)), (11, (V.int .u64 v11)), (12, (V.bool v12)), (13, (V.int .u64 v13)), (16, (V.int .u8 v16)), (99, v99), (100, (V.int .i64 v100)), (101, (V.int .i64 v101))], [], [], σ⟩ (fun s' => denC E D W N (.keep [(1, (.int .i64)), (8, .bool), (9, .str), (10, (.int .u64)), (11, (.int .u64)), (12, .bool), (13, (.int .u64)), (99, .any), (100, (.int .i64)), (101, (.int .i64))] [] [] cc6) s' (fun s'' => keepS [(1, (.int .i64)), (8, .bool), (9, .str), (10, (.int .u64)), (11, (.int .u64)), (12, .bool), (13, (.int .u64)), (99, .any), (100, (.int .i64)), (101, (.int .i64))] [] [] s'' li5) (blkK 3 (fun s' => denC E D W N (.keep [(9, .str), (12, .bool), (13, (.int .u64))] [] [] cc4) s' (Fin68 E) (fun _ _ => none) (Fin68 E)) (fun _ _ => none)) (Fin68 E)) (blkK 4 (fun s' => denC E D W N (.keep [(1, (.int .i64)), (8, .bool), (9, .str), (10, (.int .u64)), (11, (.int .u64)), (12, .bool), (13, (.int .u64)), (99, .any), (100, (.int .i64)), (101, (.int .i64))] [] [] cc6) s' (fun s'' => keepS [(1, (.int .i64)), (8, .bool), (9, .str), (10, (.int .u64)), (11, (.int .u64)), (12, .bool), (13, (.int .u64)), (99, .any), (100, (.int .i64)), (101, (.int .i64))] [] [] s'' li5) (blkK 3 (fun s' => denC E D W N (.keep [(9, .str), (12, .bool), (13, (.int .u64))] [] [] cc4) s' (Fin68 E) (fun _ _ => none) (Fin68 E)) (fun _ _ => none)) (Fin68 E)) (blkK 3 (fun s' => denC E D W N (.keep [(9, .str), (12, .bool), (13, (.int .u64))] [] [] cc4) s' (Fin68 E) (fun _ _ => none) (Fin68 E)) (fun _ _ => none))) (Fin68 E)) v1 v8 v9 v10 v11 v12 v13 v99 v100 v101 σ := by kernel_rfl
theorem P68_6 (E : List (Nat × Blk)) (D : Den) (W : DrawFn) (N : Nat) (cc4 : XC) (li5 : St → Ans) (v1 : Int) (v8 : Bool) (v9 : BS) (v10 : Int) (v11 : Int) (v12 : Bool) (v13 : Int) (v99 : V) (v100 : Int) (v101 : Int) (σ : H) :
  denC E D W N (C68_6 ) ⟨[(1, (V.int .i64 v1)), (8, (V.bool v8)), (9, (V.str v9)), (10, (V.int .u64 v10)), (11, (V.int .u64 v11)), (12, (V.bool v12)), (13, (V.int .u64 v13)), (99, v99), (100, (V.int .i64 v100)), (101, (V.int .i64 v101))], [], [], σ⟩ (fun s'' => keepS [(1, (.int .i64)), (8, .bool), (9, .str), (10, (.int .u64)), (11, (.int .u64)), (12, .bool), (13, (.int .u64)), (99, .any), (100, (.int .i64)), (101, (.int .i64))] [] [] s'' li5) (blkK 3 (fun s' => denC E D W N (.keep [(9, .str), (12, .bool), (13, (.int .u64))] [] [] cc4) s' (Fin68 E) (fun _ _ => none) (Fin68 E)) (fun _ _ => none)) (Fin68 E) =
  T68_6 E D W (fun v1 v8 v9 v10 v11 v12 v13 v99 v100 v101 σ => li5 ⟨[(1, (V.int .i64 v1)), (8, (V.bool v8)), (9, (V.str v9)), (10, (V.int .u64 v10)), (11, (V.int .u64 v11)), (12, (V.bool v12)), (13, (V.int .u64 v13)), (99, v99), (100, (V.int .i64 v100)), (101, (V.int .i64 v101))], [], [], σ⟩) v1 v8 v9 v10 v11 v12 v13 v99 v100 v101 σ := by kernel_rfl
theorem P68_7 (E : List (Nat × Blk)) (D : Den) (W : DrawFn) (N : Nat) (cc4 : XC) (cc6 : XC) (li5 : St → Ans) (v1 : Int) (v8 : Bool) (v9 : BS) (v10 : Int) (v11 : Int) (v12 : Bool) (v13 : Int) (v16 : Int) (v99 : V) (v100 : Int) (v101 : Int) (σ : H) :
  denC E D W N (C68_7 ) ⟨[(1, (V.int .i64 v1)), (8, (V.bool v8)), (9, (V.str v9)), (10, (V.int .u64 v10)), (11, (V.int .u64 v11)), (12, (V.bool v12)), (13, (V.int .u64 v13)), (16, (V.int .u8 v16)), (99, v99), (100, (V.int .i64 v100)), (101, (V.int .i64 v101))], [], [], σ⟩ (fun s' => denC E D W N (.keep [(1, (.int .i64)), (8, .bool), (9, .str), (10, (.int .u64)), (11, (.int .u64)), (12, .bool), (13, (.int .u64)), (99, .any), (100, (.int .i64)), (101, (.int .i64))] [] [] cc6) s' (fun s'' => keepS [(1, (.int .i64)), (8, .bool), (9, .str), (10, (.int .u64)), (11, (.int .u64)), (12, .bool), (13, (.int .u64)), (99, .any), (100, (.int .i64)), (101, (.int .i64))] [] [] s'' li5) (blkK 3 (fun s' => denC E D W N (.keep [(9, .str), (12, .bool), (13, (.int .u64))] [] [] cc4) s' (Fin68 E) (fun _ _ => none) (Fin68 E)) (fun _ _ => none)) (Fin68 E)) (blkK 4 (fun s' => denC E D W N (.keep [(1, (.int .i64)), (8, .bool), (9, .str), (10, (.int .u64)), (11, (.int .u64)), (12, .bool), (13, (.int .u64)), (99, .any), (100, (.int .i64)), (101, (.int .i64))] [] [] cc6) s' (fun s'' => keepS [(1, (.int .i64)), (8, .bool), (9, .str), (10, (.int .u64)), (11, (.int .u64)), (12, .bool), (13, (.int .u64)), (99, .any), (100, (.int .i64)), (101, (.int .i64))] [] [] s'' li5) (blkK 3 (fun s' => denC E D W N (.keep [(9, .str), (12, .bool), (13, (.int .u64))] [] [] cc4) s' (Fin68 E) (fun _ _ => none) (Fin68 E)) (fun _ _ => none)) (Fin68 E)) (blkK 3 (fun s' => denC E D W N (.keep [(9, .str), (12, .bool), (13, (.int .u64))] [] [] cc4) s' (Fin68 E) (fun _ _ => none) (Fin68 E)) (fun _ _ => none))) (Fin68 E) =
  T68_7 E D W (fun v1 v8 v9 v10 v11 v12 v13 v99 v100 v101 σ => denC E D W N cc6 ⟨[(1, (V.int .i64 v1)), (8, (V.bool v8)), (9, (V.str v9)), (10, (V.int .u64 v10)), (11, (V.int .u64 v11)), (12, (V.bool v12)), (13, (V.int .u64 v13)), (99, v99), (100, (V.int .i64 v100)), (101, (V.int .i64 v101))], [], [], σ⟩ (fun s'' => keepS [(1, (.int .i64)), (8, .bool), (9, .str), (10, (.int .u64)), (11, (.int .u64)), (12, .bool), (13, (.int .u64)), (99, .any), (100, (.int .i64)), (101, (.int .i64))] [] [] s'' li5) (blkK 3 (fun s' => denC E D W N (.keep [(9, .str), (12, .bool), (13, (.int .u64))] [] [] cc4) s' (Fin68 E) (fun _ _ => none) (Fin68 E)) (fun _ _ => none)) (Fin68 E)) v1 v8 v9 v10 v11 v12 v13 v16 v99 v100 v101 σ := by kernel_rfl
def J68_4 (E : List (Nat × Blk)) (D : Den) (W : DrawFn) (N : Nat) : BS → Bool → Int → H → Ans := T68_4 E D W 
theorem JE68_4 (E : List (Nat × Blk)) (D : Den) (W : DrawFn) (N : Nat) (v9 : BS) (v12 : Bool) (v13 : Int) (σ : H) :
  denC E D W N C68_4 ⟨[(9, (V.str v9)), (12, (V.bool v12)), (13, (V.int .u64 v13))], [], [], σ⟩ (Fin68 E) (fun _ _ => none) (Fin68 E) = J68_4 E D W N v9 v12 v13 σ := by
  refine (P68_4 E D W N   v9 v12 v13 σ).trans ?_
  kernel_rfl
def J68_6 (E : List (Nat × Blk)) (D : Den) (W : DrawFn) (N : Nat) (R5 : Int → Bool → BS → Int → Int → Bool → Int → V → Int → Int → H → Ans) : Int → Bool → BS → Int → Int → Bool → Int → V → Int → Int → H → Ans := T68_6 E D W R5
theorem JE68_6 (E : List (Nat × Blk)) (D : Den) (W : DrawFn) (N : Nat) (li5 : St → Ans) (v1 : Int) (v8 : Bool) (v9 : BS) (v10 : Int) (v11 : Int) (v12 : Bool) (v13 : Int) (v99 : V) (v100 : Int) (v101 : Int) (σ : H) :
  denC E D W N C68_6 ⟨[(1, (V.int .i64 v1)), (8, (V.bool v8)), (9, (V.str v9)), (10, (V.int .u64 v10)), (11, (V.int .u64 v11)), (12, (V.bool v12)), (13, (V.int .u64 v13)), (99, v99), (100, (V.int .i64 v100)), (101, (V.int .i64 v101))], [], [], σ⟩ (fun s'' => keepS [(1, (.int .i64)), (8, .bool), (9, .str), (10, (.int .u64)), (11, (.int .u64)), (12, .bool), (13, (.int .u64)), (99, .any), (100, (.int .i64)), (101, (.int .i64))] [] [] s'' li5) (blkK 3 (fun s' => denC E D W N (.keep [(9, .str), (12, .bool), (13, (.int .u64))] [] [] C68_4) s' (Fin68 E) (fun _ _ => none) (Fin68 E)) (fun _ _ => none)) (Fin68 E) = J68_6 E D W N (fun v1 v8 v9 v10 v11 v12 v13 v99 v100 v101 σ => li5 ⟨[(1, (V.int .i64 v1)), (8, (V.bool v8)), (9, (V.str v9)), (10, (V.int .u64 v10)), (11, (V.int .u64 v11)), (12, (V.bool v12)), (13, (V.int .u64 v13)), (99, v99), (100, (V.int .i64 v100)), (101, (V.int .i64 v101))], [], [], σ⟩) v1 v8 v9 v10 v11 v12 v13 v99 v100 v101 σ := by
  refine (P68_6 E D W N C68_4 li5 v1 v8 v9 v10 v11 v12 v13 v99 v100 v101 σ).trans ?_
  kernel_rfl
def J68_7 (E : List (Nat × Blk)) (D : Den) (W : DrawFn) (N : Nat) (R5 : Int → Bool → BS → Int → Int → Bool → Int → V → Int → Int → H → Ans) : Int → Bool → BS → Int → Int → Bool → Int → Int → V → Int → Int → H → Ans := T68_7 E D W (J68_6 E D W N R5)
theorem JE68_7 (E : List (Nat × Blk)) (D : Den) (W : DrawFn) (N : Nat) (li5 : St → Ans) (v1 : Int) (v8 : Bool) (v9 : BS) (v10 : Int) (v11 : Int) (v12 : Bool) (v13 : Int) (v16 : Int) (v99 : V) (v100 : Int) (v101 : Int) (σ : H) :
  denC E D W N C68_7 ⟨[(1, (V.int .i64 v1)), (8, (V.bool v8)), (9, (V.str v9)), (10, (V.int .u64 v10)), (11, (V.int .u64 v11)), (12, (V.bool v12)), (13, (V.int .u64 v13)), (16, (V.int .u8 v16)), (99, v99), (100, (V.int .i64 v100)), (101, (V.int .i64 v101))], [], [], σ⟩ (fun s' => denC E D W N (.keep [(1, (.int .i64)), (8, .bool), (9, .str), (10, (.int .u64)), (11, (.int .u64)), (12, .bool), (13, (.int .u64)), (99, .any), (100, (.int .i64)), (101, (.int .i64))] [] [] C68_6) s' (fun s'' => keepS [(1, (.int .i64)), (8, .bool), (9, .str), (10, (.int .u64)), (11, (.int .u64)), (12, .bool), (13, (.int .u64)), (99, .any), (100, (.int .i64)), (101, (.int .i64))] [] [] s'' li5) (blkK 3 (fun s' => denC E D W N (.keep [(9, .str), (12, .bool), (13, (.int .u64))] [] [] C68_4) s' (Fin68 E) (fun _ _ => none) (Fin68 E)) (fun _ _ => none)) (Fin68 E)) (blkK 4 (fun s' => denC E D W N (.keep [(1, (.int .i64)), (8, .bool), (9, .str), (10, (.int .u64)), (11, (.int .u64)), (12, .bool), (13, (.int .u64)), (99, .any), (100, (.int .i64)), (101, (.int .i64))] [] [] C68_6) s' (fun s'' => keepS [(1, (.int .i64)), (8, .bool), (9, .str), (10, (.int .u64)), (11, (.int .u64)), (12, .bool), (13, (.int .u64)), (99, .any), (100, (.int .i64)), (101, (.int .i64))] [] [] s'' li5) (blkK 3 (fun s' => denC E D W N (.keep [(9, .str), (12, .bool), (13, (.int .u64))] [] [] C68_4) s' (Fin68 E) (fun _ _ => none) (Fin68 E)) (fun _ _ => none)) (Fin68 E)) (blkK 3 (fun s' => denC E D W N (.keep [(9, .str), (12, .bool), (13, (.int .u64))] [] [] C68_4) s' (Fin68 E) (fun _ _ => none) (Fin68 E)) (fun _ _ => none))) (Fin68 E) = J68_7 E D W N (fun v1 v8 v9 v10 v11 v12 v13 v99 v100 v101 σ => li5 ⟨[(1, (V.int .i64 v1)), (8, (V.bool v8)), (9, (V.str v9)), (10, (V.int .u64 v10)), (11, (V.int .u64 v11)), (12, (V.bool v12)), (13, (V.int .u64 v13)), (99, v99), (100, (V.int .i64 v100)), (101, (V.int .i64 v101))], [], [], σ⟩) v1 v8 v9 v10 v11 v12 v13 v16 v99 v100 v101 σ := by
  refine (P68_7 E D W N C68_4 C68_6 li5 v1 v8 v9 v10 v11 v12 v13 v16 v99 v100 v101 σ).trans ?_
  simp only [JE68_6]
  kernel_rfl
def L68_5 (E : List (Nat × Blk)) (D : Den) (W : DrawFn) (N : Nat) (n : Nat) : Int → Bool → BS → Int → Int → Bool → Int → V → Int → Int → H → Ans :=
  Nat.rec (fun _ _ _ _ _ _ _ _ _ _ _ => none) (fun _ ih => T68_5 E D W (J68_4 E D W N ) (J68_6 E D W N ih) (J68_7 E D W N ih)) n
theorem LE68_5 (E : List (Nat × Blk)) (D : Den) (W : DrawFn) (N : Nat) (n : Nat) : ∀ (v1 : Int) (v8 : Bool) (v9 : BS) (v10 : Int) (v11 : Int) (v12 : Bool) (v13 : Int) (v99 : V) (v100 : Int) (v101 : Int) (σ : H),
  iterK (fun rec s' => denC E D W N (C68_5 C68_6 C68_7) s' (fun s'' => keepS [(1, (.int .i64)), (8, .bool), (9, .str), (10, (.int .u64)), (11, (.int .u64)), (12, .bool), (13, (.int .u64)), (99, .any), (100, (.int .i64)), (101, (.int .i64))] [] [] s'' rec) (blkK 3 (fun s' => denC E D W N (.keep [(9, .str), (12, .bool), (13, (.int .u64))] [] [] C68_4) s' (Fin68 E) (fun _ _ => none) (Fin68 E)) (fun _ _ => none)) (Fin68 E)) n ⟨[(1, (V.int .i64 v1)), (8, (V.bool v8)), (9, (V.str v9)), (10, (V.int .u64 v10)), (11, (V.int .u64 v11)), (12, (V.bool v12)), (13, (V.int .u64 v13)), (99, v99), (100, (V.int .i64 v100)), (101, (V.int .i64 v101))], [], [], σ⟩ = L68_5 E D W N n v1 v8 v9 v10 v11 v12 v13 v99 v100 v101 σ := by
  induction n with
  | zero => intro v1 v8 v9 v10 v11 v12 v13 v99 v100 v101 σ; rfl
  | succ n ihn =>
    intro v1 v8 v9 v10 v11 v12 v13 v99 v100 v101 σ
    rw [iterK_succ]
    refine (P68_5 E D W N C68_4 C68_6 C68_7 (iterK (fun rec s' => denC E D W N (C68_5 C68_6 C68_7) s' (fun s'' => keepS [(1, (.int .i64)), (8, .bool), (9, .str), (10, (.int .u64)), (11, (.int .u64)), (12, .bool), (13, (.int .u64)), (99, .any), (100, (.int .i64)), (101, (.int .i64))] [] [] s'' rec) (blkK 3 (fun s' => denC E D W N (.keep [(9, .str), (12, .bool), (13, (.int .u64))] [] [] C68_4) s' (Fin68 E) (fun _ _ => none) (Fin68 E)) (fun _ _ => none)) (Fin68 E)) n) v1 v8 v9 v10 v11 v12 v13 v99 v100 v101 σ).trans ?_
    simp only [ihn, JE68_4, JE68_6, JE68_7]
    kernel_rfl
def J68_3 (E : List (Nat × Blk)) (D : Den) (W : DrawFn) (N : Nat) : BS → Int → Int → Bool → BS → Int → H → Ans := T68_3 E D W (L68_5 E D W N N)
theorem JE68_3 (E : List (Nat × Blk)) (D : Den) (W : DrawFn) (N : Nat) (v0 : BS) (v1 : Int) (v2 : Int) (v8 : Bool) (v9 : BS) (v10 : Int) (σ : H) :
  denC E D W N (C68_3 C68_4 (C68_5 C68_6 C68_7)) ⟨[(0, (V.str v0)), (1, (V.int .i64 v1)), (2, (V.int .i64 v2)), (8, (V.bool v8)), (9, (V.str v9)), (10, (V.int .u64 v10))], [], [], σ⟩ (Fin68 E) (fun _ _ => none) (Fin68 E) = J68_3 E D W N v0 v1 v2 v8 v9 v10 σ := by
  refine (P68_3 E D W N C68_4 (C68_5 C68_6 C68_7)  v0 v1 v2 v8 v9 v10 σ).trans ?_
  simp only [LE68_5]
  kernel_rfl
def J68_2 (E : List (Nat × Blk)) (D : Den) (W : DrawFn) (N : Nat) : BS → Int → Int → Bool → BS → H → Ans := T68_2 E D W (J68_3 E D W N )
theorem JE68_2 (E : List (Nat × Blk)) (D : Den) (W : DrawFn) (N : Nat) (v0 : BS) (v1 : Int) (v2 : Int) (v8 : Bool) (v9 : BS) (σ : H) :
  denC E D W N (C68_2 (C68_3 C68_4 (C68_5 C68_6 C68_7))) ⟨[(0, (V.str v0)), (1, (V.int .i64 v1)), (2, (V.int .i64 v2)), (8, (V.bool v8)), (9, (V.str v9))], [], [], σ⟩ (Fin68 E) (fun _ _ => none) (Fin68 E) = J68_2 E D W N v0 v1 v2 v8 v9 σ := by
  refine (P68_2 E D W N (C68_3 C68_4 (C68_5 C68_6 C68_7))  v0 v1 v2 v8 v9 σ).trans ?_
  simp only [JE68_3]
  kernel_rfl
def J68_1 (E : List (Nat × Blk)) (D : Den) (W : DrawFn) (N : Nat) : BS → Int → Int → Bool → BS → H → Ans := T68_1 E D W (J68_2 E D W N )
theorem JE68_1 (E : List (Nat × Blk)) (D : Den) (W : DrawFn) (N : Nat) (v0 : BS) (v1 : Int) (v2 : Int) (v8 : Bool) (v9 : BS) (σ : H) :
  denC E D W N (C68_1 (C68_2 (C68_3 C68_4 (C68_5 C68_6 C68_7)))) ⟨[(0, (V.str v0)), (1, (V.int .i64 v1)), (2, (V.int .i64 v2)), (8, (V.bool v8)), (9, (V.str v9))], [], [], σ⟩ (Fin68 E) (fun _ _ => none) (Fin68 E) = J68_1 E D W N v0 v1 v2 v8 v9 σ := by
  refine (P68_1 E D W N (C68_2 (C68_3 C68_4 (C68_5 C68_6 C68_7)))  v0 v1 v2 v8 v9 σ).trans ?_
  simp only [JE68_2]
  kernel_rfl
def J68_0 (E : List (Nat × Blk)) (D : Den) (W : DrawFn) (N : Nat) : BS → Int → Int → H → Ans := T68_0 E D W (J68_1 E D W N )
theorem JE68_0 (E : List (Nat × Blk)) (D : Den) (W : DrawFn) (N : Nat) (v0 : BS) (v1 : Int) (v2 : Int) (σ : H) :
  denC E D W N (C68_0 (C68_1 (C68_2 (C68_3 C68_4 (C68_5 C68_6 C68_7))))) ⟨[(0, (V.str v0)), (1, (V.int .i64 v1)), (2, (V.int .i64 v2))], [], [], σ⟩ (Fin68 E) (fun _ _ => none) (Fin68 E) = J68_0 E D W N v0 v1 v2 σ := by
  refine (P68_0 E D W N (C68_1 (C68_2 (C68_3 C68_4 (C68_5 C68_6 C68_7))))  v0 v1 v2 σ).trans ?_
  simp only [JE68_1]
  kernel_rfl
def F68 (E : List (Nat × Blk)) (D : Den) (W : DrawFn) (N : Nat) (args : List V) (σ : H) : Ans :=
 rtCons args fun x1 l2 =>
 rtStr x1 fun x3 =>
 rtCons l2 fun x4 l5 =>
 rtInt .i64 x4 fun x6 =>
 rtCons l5 fun x7 l8 =>
 rtInt .i64 x7 fun x9 =>
 rtNil l8 (
 J68_0 E D W N x3 x6 x9 σ)
def A68 : XFn := ⟨172, [.str, (.int .i64), (.int .i64)], [(.tmp 6), (.tmp 7)], (C68_0 (C68_1 (C68_2 (C68_3 C68_4 (C68_5 C68_6 C68_7)))))⟩
theorem FE68 (E : List (Nat × Blk)) (D : Den) (W : DrawFn) (N : Nat) (args : List V) (σ : H) : runX E D W N A68 args σ = F68 E D W N args σ := by
  unfold F68
  simp only [← JE68_0]
  kernel_rfl
theorem AO68 : A68.body.ok = true := by kernel_rfl

/-! ### F73: __ogham_syntax.parser_.number -/
def Fin73 (E : List (Nat × Blk)) : St → Ans := fun s => resK E s [(.tmp 2), (.cell 3 (some 3)), (.tmp 4)] fun l => some (oneV l, s.σ)
def C73_0 : XC := (.seq (.ops (.op (some 2) .any [] (.mov (.con (V.int .i64 (Int.ofNat 0)))) <|
 .pal 3 [] 75 [(V.int .i64 (Int.ofNat 0)), (V.str ⟨0, 0⟩), (V.int .i64 (Int.ofNat 0))] <|
 .op (some 4) .any [] (.mov (.con (V.bool false))) <|
 .nil))
 (.seq (.ops (.op (some 10) .any [0] (.mov (.tmp 0)) <|
 .op (some 11) (.tup [(.agg [(.int .i64), .str, (.int .i64)]), .bool]) [10] (.call 20 [(.tmp 10), (.con (V.int .i64 (Int.ofNat 3)))]) <|
 .op (some 9) .any [11] (.mov (.tmp 11)) <|
 .op (some 12) .any [9] (.extract 0 (.tmp 9)) <|
 .op (some 13) .any [9] (.extract 1 (.tmp 9)) <|
 .pal 5 [] 75 [(V.int .i64 (Int.ofNat 0)), (V.str ⟨0, 0⟩), (V.int .i64 (Int.ofNat 0))] <|
 .op none (.agg [(.int .i64), .str, (.int .i64)]) [5, 12] (.store 3 (.tmp 5) (.tmp 12)) <|
 .op (some 6) .any [13] (.mov (.tmp 13)) <|
 .nil))
 (.seq (.seq (.ops (.op (some 14) .any [6] (.mov (.tmp 6)) <|
 .op (some 15) .any [14] (.un .not (.tmp 14)) <|
 .nil))
 (.cond (.tmp 15) (.seq (.draw (.op (some 16) (.agg [(.int .i64), .str, (.int .i64)]) [5] (.load (some 3) (.tmp 5)) <|
 .op (some 2) .any [] (.mov (.con (V.int .i64 (Int.ofNat 0)))) <|
 .op none (.agg [(.int .i64), .str, (.int .i64)]) [3, 16] (.store 3 (.tmp 3) (.tmp 16)) <|
 .op (some 4) .any [] (.mov (.con (V.bool false))) <|
 .nil) [0, 0, 3, 7])
 .ret)
 .skip))
 (.seq (.ops (.op (some 18) .any [5] (.faddr 1 (.tmp 5)) <|
 .op (some 19) .str [18] (.load none (.tmp 18)) <|
 .op (some 20) (.tup [(.int .i64), .any]) [19] (.call 50 [(.tmp 19), (.con (V.int .i64 (Int.ofNat 10))), (.con (V.int .i64 (Int.ofNat 64)))]) <|
 .op (some 17) .any [20] (.mov (.tmp 20)) <|
 .op (some 21) .any [17] (.extract 0 (.tmp 17)) <|
 .op (some 22) .any [17] (.extract 1 (.tmp 17)) <|
 .op (some 7) .any [21] (.mov (.tmp 21)) <|
 .op (some 8) .any [22] (.mov (.tmp 22)) <|
 .nil))
 (.seq (.draw (.op (some 23) .any [7] (.mov (.tmp 7)) <|
 .op (some 24) (.agg [(.int .i64), .str, (.int .i64)]) [5] (.load (some 3) (.tmp 5)) <|
 .op (some 2) .any [23] (.mov (.tmp 23)) <|
 .op none (.agg [(.int .i64), .str, (.int .i64)]) [3, 24] (.store 3 (.tmp 3) (.tmp 24)) <|
 .op (some 4) .any [] (.mov (.con (V.bool true))) <|
 .nil) [0, 0, 1, 7, 15])
 .ret)))))
def T73_0 (E : List (Nat × Blk)) (D : Den) (W : DrawFn) (v0 : V) (σ : H) : Ans :=
 callK (D 20 [v0, (V.int .i64 (Int.ofNat 3))] σ) fun u1 s2 =>
 rtTup u1 fun l3 =>
 rtCons l3 fun x4 l5 =>
 rtAgg x4 fun l6 =>
 rtCons l6 fun x7 l8 =>
 rtInt .i64 x7 fun x9 =>
 rtCons l8 fun x10 l11 =>
 rtStr x10 fun x12 =>
 rtCons l11 fun x13 l14 =>
 rtInt .i64 x13 fun x15 =>
 rtNil l14 (
 rtCons l5 fun x16 l17 =>
 rtBool x16 fun x18 =>
 rtNil l17 (
 condK (not x18) (
 some ((V.tup [(V.int .i64 (Int.ofNat 0)), (V.agg [(V.int .i64 x9), (V.str x12), (V.int .i64 x15)]), (V.bool false)]), s2)) (
 callK (D 50 [(V.str x12), (V.int .i64 (Int.ofNat 10)), (V.int .i64 (Int.ofNat 64))] s2) fun u19 s20 =>
 rtTup u19 fun l21 =>
 rtCons l21 fun x22 l23 =>
 rtInt .i64 x22 fun x24 =>
 rtCons l23 fun x25 l26 =>
 rtNil l26 (
 some ((V.tup [(V.int .i64 x24), (V.agg [(V.int .i64 x9), (V.str x12), (V.int .i64 x15)]), (V.bool true)]), s20)))))
theorem P73_0 (E : List (Nat × Blk)) (D : Den) (W : DrawFn) (N : Nat) (v0 : V) (σ : H) :
  denC E D W N (C73_0 ) ⟨[(0, v0)], [], [], σ⟩ (Fin73 E) (fun _ _ => none) (Fin73 E) =
  T73_0 E D W  v0 σ := by kernel_rfl
def J73_0 (E : List (Nat × Blk)) (D : Den) (W : DrawFn) (N : Nat) : V → H → Ans := T73_0 E D W 
theorem JE73_0 (E : List (Nat × Blk)) (D : Den) (W : DrawFn) (N : Nat) (v0 : V) (σ : H) :
  denC E D W N C73_0 ⟨[(0, v0)], [], [], σ⟩ (Fin73 E) (fun _ _ => none) (Fin73 E) = J73_0 E D W N v0 σ := by
  refine (P73_0 E D W N   v0 σ).trans ?_
  kernel_rfl
def F73 (E : List (Nat × Blk)) (D : Den) (W : DrawFn) (N : Nat) (args : List V) (σ : H) : Ans :=
 rtCons args fun x1 l2 =>
 rtNil l2 (
 J73_0 E D W N x1 σ)
def A73 : XFn := ⟨25, [.any], [(.tmp 2), (.cell 3 (some 3)), (.tmp 4)], C73_0⟩
theorem FE73 (E : List (Nat × Blk)) (D : Den) (W : DrawFn) (N : Nat) (args : List V) (σ : H) : runX E D W N A73 args σ = F73 E D W N args σ := by
  unfold F73
  simp only [← JE73_0]
  kernel_rfl
theorem AO73 : A73.body.ok = true := by kernel_rfl

/-! ### F75: __ogham_syntax.parser_.additions -/
def Fin75 (E : List (Nat × Blk)) : St → Ans := fun s => resK E s [(.tmp 6)] fun l => some (oneV l, s.σ)
def C75_0 (cc1 : XC) (cc2 : XC) : XC := (.seq (.ops (.op (some 6) .any [] (.mov (.con (V.bool false))) <|
 .nil))
 (.seq (.ops (.op (some 7) .any [] (.mov (.con (V.int .i64 (Int.ofNat 0)))) <|
 .nil))
 (.seq (.block 0 (.loop [(0, .ptr), (1, .any), (2, (.int .i64)), (7, (.int .i64))] [] [] cc2))
 (.keep [] [] [] cc1))))
def T75_0 (E : List (Nat × Blk)) (D : Den) (W : DrawFn) (K2 : Nat → Nat → V → Int → Int → H → Ans) (v0b : Nat) (v0o : Nat) (v1 : V) (v2 : Int) (σ : H) : Ans :=
 K2 v0b v0o v1 v2 (Int.ofNat 0) σ
def C75_1 : XC := (.seq (.ops (.op (some 6) .any [] (.mov (.con (V.bool true))) <|
 .nil))
 .ret)
def T75_1 (E : List (Nat × Blk)) (D : Den) (W : DrawFn) (σ : H) : Ans :=
 some ((V.bool true), σ)
def C75_2 (cc3 : XC) : XC := (.seq (.seq (.ops (.op (some 9) .any [0] (.mov (.tmp 0)) <|
 .op (some 10) .any [9] (.nilck (.tmp 9)) <|
 .op (some 11) .any [10] (.faddr 0 (.tmp 10)) <|
 .op (some 12) .bool [11] (.call 43 [(.tmp 11), (.con (V.str ⟨1, 44⟩))]) <|
 .nil))
 (.cond (.tmp 12) .skip
 (.exit 0)))
 (.block 1 (.seq (.ops (.op (some 8) .any [] (.mov (.con (V.bool false))) <|
 .nil))
 (.seq (.seq (.ops (.op (some 13) .any [0] (.mov (.tmp 0)) <|
 .op (some 14) .any [13] (.nilck (.tmp 13)) <|
 .op (some 15) .any [14] (.faddr 0 (.tmp 14)) <|
 .op (some 16) .bool [15] (.call 43 [(.tmp 15), (.con (V.str ⟨2, 23387⟩))]) <|
 .nil))
 (.cond (.tmp 16) (.seq (.ops (.op (some 17) .any [7] (.mov (.tmp 7)) <|
 .op (some 18) .any [17] (.bin .add .none (.tmp 17) (.con (V.int .i64 (Int.ofNat 1)))) <|
 .op (some 7) .any [18] (.mov (.tmp 18)) <|
 .nil))
 (.ops (.op (some 19) .any [0] (.mov (.tmp 0)) <|
 .op (some 20) .any [1] (.mov (.tmp 1)) <|
 .op (some 21) .any [7] (.mov (.tmp 7)) <|
 .op (some 22) .any [2] (.mov (.tmp 2)) <|
 .op (some 23) .bool [19, 20, 21, 22] (.call 82 [(.tmp 19), (.tmp 20), (.tmp 21), (.tmp 22)]) <|
 .op (some 8) .any [23] (.mov (.tmp 23)) <|
 .nil)))
 (.ops (.op (some 24) .any [0] (.mov (.tmp 0)) <|
 .op (some 25) .any [1] (.mov (.tmp 1)) <|
 .op (some 26) .any [2] (.mov (.tmp 2)) <|
 .op (some 27) .bool [24, 25, 26] (.call 76 [(.tmp 24), (.tmp 25), (.con (V.int .i64 (Int.ofNat 0))), (.tmp 26)]) <|
 .op (some 8) .any [27] (.mov (.tmp 27)) <|
 .nil))))
 (.keep [(0, .ptr), (1, .any), (2, (.int .i64)), (7, (.int .i64)), (8, .bool)] [] [] cc3)))))
def T75_2 (E : List (Nat × Blk)) (D : Den) (W : DrawFn) (K1 : H → Ans) (K3 : Nat → Nat → V → Int → Int → Bool → H → Ans) (v0b : Nat) (v0o : Nat) (v1 : V) (v2 : Int) (v7 : Int) (σ : H) : Ans :=
 callK (D 43 [(V.ptr v0b v0o), (V.str (BS.mk 1 44))] σ) fun u1 s2 =>
 rtBool u1 fun x3 =>
 condK x3 (
 callK (D 43 [(V.ptr v0b v0o), (V.str (BS.mk 2 23387))] s2) fun u4 s5 =>
 rtBool u4 fun x6 =>
 condK x6 (
 callK (D 82 [(V.ptr v0b v0o), v1, (V.int .i64 (addF .i64 v7 (Int.ofNat 1))), (V.int .i64 v2)] s5) fun u7 s8 =>
 rtBool u7 fun x9 =>
 K3 v0b v0o v1 v2 (addF .i64 v7 (Int.ofNat 1)) x9 s8) (
 callK (D 76 [(V.ptr v0b v0o), v1, (V.int .i64 (Int.ofNat 0)), (V.int .i64 v2)] s5) fun u10 s11 =>
 rtBool u10 fun x12 =>
 K3 v0b v0o v1 v2 v7 x12 s11)) (
 K1 s2)
def C75_3 : XC := (.seq (.ops (.op (some 28) .any [8] (.mov (.tmp 8)) <|
 .op (some 29) .any [28] (.un .not (.tmp 28)) <|
 .nil))
 (.cond (.tmp 29) (.seq (.ops (.op (some 6) .any [] (.mov (.con (V.bool false))) <|
 .nil))
 .ret)
 .skip))
def T75_3 (E : List (Nat × Blk)) (D : Den) (W : DrawFn) (R2 : Nat → Nat → V → Int → Int → H → Ans) (v0b : Nat) (v0o : Nat) (v1 : V) (v2 : Int) (v7 : Int) (v8 : Bool) (σ : H) : Ans :=
 condK (not v8) (
 some ((V.bool false), σ)) (
 R2 v0b v0o v1 v2 v7 σ)
theorem P75_0 (E : List (Nat × Blk)) (D : Den) (W : DrawFn) (N : Nat) (cc1 : XC) (cc2 : XC) (v0b : Nat) (v0o : Nat) (v1 : V) (v2 : Int) (σ : H) :
  denC E D W N (C75_0 cc1 cc2) ⟨[(0, (V.ptr v0b v0o)), (1, v1), (2, (V.int .i64 v2))], [], [], σ⟩ (Fin75 E) (fun _ _ => none) (Fin75 E) =
  T75_0 E D W (fun v0b v0o v1 v2 v7 σ => iterK (fun rec s' => denC E D W N cc2 s' (fun s'' => keepS [(0, .ptr), (1, .any), (2, (.int .i64)), (7, (.int .i64))] [] [] s'' rec) (blkK 0 (fun s' => denC E D W N (.keep [] [] [] cc1) s' (Fin75 E) (fun _ _ => none) (Fin75 E)) (fun _ _ => none)) (Fin75 E)) N ⟨[(0, (V.ptr v0b v0o)), (1, v1), (2, (V.int .i64 v2)), (7, (V.int .i64 v7))], [], [], σ⟩) v0b v0o v1 v2 σ := by kernel_rfl
theorem P75_1 (E : List (Nat × Blk)) (D : Den) (W : DrawFn) (N : Nat) (σ : H) :
  denC E D W N (C75_1 ) ⟨[], [], [], σ⟩ (Fin75 E) (fun _ _ => none) (Fin75 E) =
  T75_1 E D W   σ := by kernel_rfl
theorem P75_2 (E : List (Nat × Blk)) (D : Den) (W : DrawFn) (N : Nat) (cc1 : XC) (cc3 : XC) (li2 : St → Ans) (v0b : Nat) (v0o : Nat) (v1 : V) (v2 : Int) (v7 : Int) (σ : H) :
  denC E D W N (C75_2 cc3) ⟨[(0, (V.ptr v0b v0o)), (1, v1), (2, (V.int .i64 v2)), (7, (V.int .i64 v7))], [], [], σ⟩ (fun s'' => keepS [(0, .ptr), (1, .any), (2, (.int .i64)), (7, (.int .i64))] [] [] s'' li2) (blkK 0 (fun s' => denC E D W N (.keep [] [] [] cc1) s' (Fin75 E) (fun _ _ => none) (Fin75 E)) (fun _ _ => none)) (Fin75 E) =
  T75_2 E D W (fun  σ => denC E D W N cc1 ⟨[], [], [], σ⟩ (Fin75 E) (fun _ _ => none) (Fin75 E)) (fun v0b v0o v1 v2 v7 v8 σ => denC E D W N cc3 ⟨[(0, (V.ptr v0b v0o)), (1, v1), (2, (V.int .i64 v2)), (7, (V.int .i64 v7)), (8, (V.bool v8))], [], [], σ⟩ (fun s'' => keepS [(0, .ptr), (1, .any), (2, (.int .i64)), (7, (.int .i64))] [] [] s'' li2) (blkK 1 (fun s'' => keepS [(0, .ptr), (1, .any), (2, (.int .i64)), (7, (.int .i64))] [] [] s'' li2) (blkK 0 (fun s' => denC E D W N (.keep [] [] [] cc1) s' (Fin75 E) (fun _ _ => none) (Fin75 E)) (fun _ _ => none))) (Fin75 E)) v0b v0o v1 v2 v7 σ := by kernel_rfl
theorem P75_3 (E : List (Nat × Blk)) (D : Den) (W : DrawFn) (N : Nat) (cc1 : XC) (li2 : St → Ans) (v0b : Nat) (v0o : Nat) (v1 : V) (v2 : Int) (v7 : Int) (v8 : Bool) (σ : H) :
  denC E D W N (C75_3 ) ⟨[(0, (V.ptr v0b v0o)), (1, v1), (2, (V.int .i64 v2)), (7, (V.int .i64 v7)), (8, (V.bool v8))], [], [], σ⟩ (fun s'' => keepS [(0, .ptr), (1, .any), (2, (.int .i64)), (7, (.int .i64))] [] [] s'' li2) (blkK 1 (fun s'' => keepS [(0, .ptr), (1, .any), (2, (.int .i64)), (7, (.int .i64))] [] [] s'' li2) (blkK 0 (fun s' => denC E D W N (.keep [] [] [] cc1) s' (Fin75 E) (fun _ _ => none) (Fin75 E)) (fun _ _ => none))) (Fin75 E) =
  T75_3 E D W (fun v0b v0o v1 v2 v7 σ => li2 ⟨[(0, (V.ptr v0b v0o)), (1, v1), (2, (V.int .i64 v2)), (7, (V.int .i64 v7))], [], [], σ⟩) v0b v0o v1 v2 v7 v8 σ := by kernel_rfl
def J75_1 (E : List (Nat × Blk)) (D : Den) (W : DrawFn) (N : Nat) : H → Ans := T75_1 E D W 
theorem JE75_1 (E : List (Nat × Blk)) (D : Den) (W : DrawFn) (N : Nat) (σ : H) :
  denC E D W N C75_1 ⟨[], [], [], σ⟩ (Fin75 E) (fun _ _ => none) (Fin75 E) = J75_1 E D W N  σ := by
  refine (P75_1 E D W N    σ).trans ?_
  kernel_rfl
def J75_3 (E : List (Nat × Blk)) (D : Den) (W : DrawFn) (N : Nat) (R2 : Nat → Nat → V → Int → Int → H → Ans) : Nat → Nat → V → Int → Int → Bool → H → Ans := T75_3 E D W R2
theorem JE75_3 (E : List (Nat × Blk)) (D : Den) (W : DrawFn) (N : Nat) (li2 : St → Ans) (v0b : Nat) (v0o : Nat) (v1 : V) (v2 : Int) (v7 : Int) (v8 : Bool) (σ : H) :
  denC E D W N C75_3 ⟨[(0, (V.ptr v0b v0o)), (1, v1), (2, (V.int .i64 v2)), (7, (V.int .i64 v7)), (8, (V.bool v8))], [], [], σ⟩ (fun s'' => keepS [(0, .ptr), (1, .any), (2, (.int .i64)), (7, (.int .i64))] [] [] s'' li2) (blkK 1 (fun s'' => keepS [(0, .ptr), (1, .any), (2, (.int .i64)), (7, (.int .i64))] [] [] s'' li2) (blkK 0 (fun s' => denC E D W N (.keep [] [] [] C75_1) s' (Fin75 E) (fun _ _ => none) (Fin75 E)) (fun _ _ => none))) (Fin75 E) = J75_3 E D W N (fun v0b v0o v1 v2 v7 σ => li2 ⟨[(0, (V.ptr v0b v0o)), (1, v1), (2, (V.int .i64 v2)), (7, (V.int .i64 v7))], [], [], σ⟩) v0b v0o v1 v2 v7 v8 σ := by
  refine (P75_3 E D W N C75_1 li2 v0b v0o v1 v2 v7 v8 σ).trans ?_
  kernel_rfl
def L75_2 (E : List (Nat × Blk)) (D : Den) (W : DrawFn) (N : Nat) (n : Nat) : Nat → Nat → V → Int → Int → H → Ans :=
  Nat.rec (fun _ _ _ _ _ _ => none) (fun _ ih => T75_2 E D W (J75_1 E D W N ) (J75_3 E D W N ih)) n
theorem LE75_2 (E : List (Nat × Blk)) (D : Den) (W : DrawFn) (N : Nat) (n : Nat) : ∀ (v0b : Nat) (v0o : Nat) (v1 : V) (v2 : Int) (v7 : Int) (σ : H),
  iterK (fun rec s' => denC E D W N (C75_2 C75_3) s' (fun s'' => keepS [(0, .ptr), (1, .any), (2, (.int .i64)), (7, (.int .i64))] [] [] s'' rec) (blkK 0 (fun s' => denC E D W N (.keep [] [] [] C75_1) s' (Fin75 E) (fun _ _ => none) (Fin75 E)) (fun _ _ => none)) (Fin75 E)) n ⟨[(0, (V.ptr v0b v0o)), (1, v1), (2, (V.int .i64 v2)), (7, (V.int .i64 v7))], [], [], σ⟩ = L75_2 E D W N n v0b v0o v1 v2 v7 σ := by
  induction n with
  | zero => intro v0b v0o v1 v2 v7 σ; rfl
  | succ n ihn =>
    intro v0b v0o v1 v2 v7 σ
    rw [iterK_succ]
    refine (P75_2 E D W N C75_1 C75_3 (iterK (fun rec s' => denC E D W N (C75_2 C75_3) s' (fun s'' => keepS [(0, .ptr), (1, .any), (2, (.int .i64)), (7, (.int .i64))] [] [] s'' rec) (blkK 0 (fun s' => denC E D W N (.keep [] [] [] C75_1) s' (Fin75 E) (fun _ _ => none) (Fin75 E)) (fun _ _ => none)) (Fin75 E)) n) v0b v0o v1 v2 v7 σ).trans ?_
    simp only [ihn, JE75_1, JE75_3]
    kernel_rfl
def J75_0 (E : List (Nat × Blk)) (D : Den) (W : DrawFn) (N : Nat) : Nat → Nat → V → Int → H → Ans := T75_0 E D W (L75_2 E D W N N)
theorem JE75_0 (E : List (Nat × Blk)) (D : Den) (W : DrawFn) (N : Nat) (v0b : Nat) (v0o : Nat) (v1 : V) (v2 : Int) (σ : H) :
  denC E D W N (C75_0 C75_1 (C75_2 C75_3)) ⟨[(0, (V.ptr v0b v0o)), (1, v1), (2, (V.int .i64 v2))], [], [], σ⟩ (Fin75 E) (fun _ _ => none) (Fin75 E) = J75_0 E D W N v0b v0o v1 v2 σ := by
  refine (P75_0 E D W N C75_1 (C75_2 C75_3)  v0b v0o v1 v2 σ).trans ?_
  simp only [LE75_2]
  kernel_rfl
def F75 (E : List (Nat × Blk)) (D : Den) (W : DrawFn) (N : Nat) (args : List V) (σ : H) : Ans :=
 rtCons args fun x1 l2 =>
 rtPtr x1 fun b3 o4 =>
 rtCons l2 fun x5 l6 =>
 rtCons l6 fun x7 l8 =>
 rtInt .i64 x7 fun x9 =>
 rtNil l8 (
 J75_0 E D W N b3 o4 x5 x9 σ)
def A75 : XFn := ⟨30, [.ptr, .any, (.int .i64)], [(.tmp 6)], (C75_0 C75_1 (C75_2 C75_3))⟩
theorem FE75 (E : List (Nat × Blk)) (D : Den) (W : DrawFn) (N : Nat) (args : List V) (σ : H) : runX E D W N A75 args σ = F75 E D W N args σ := by
  unfold F75
  simp only [← JE75_0]
  kernel_rfl
theorem AO75 : A75.body.ok = true := by kernel_rfl

/-! ### F76: __ogham_syntax.parser_.field -/
def G76_0 : List AOper := [⟨(some 57), .mov (.tmp 1), none⟩, ⟨(some 58), .mov (.tmp 1), none⟩, ⟨(some 59), .nilck (.tmp 58), none⟩, ⟨(some 60), .faddr 12 (.tmp 59), none⟩, ⟨(some 61), .load none (.tmp 60), none⟩, ⟨(some 62), .load (some 11) (.tmp 11), none⟩, ⟨(some 63), .buildSlice 46 1 [(V.str ⟨0, 0⟩), (V.int .i64 (Int.ofNat 0)), (V.bool false), (V.bool false), (V.int .i64 (Int.ofNat 0)), (V.int .i64 (Int.ofNat 0)), V.nils, V.nils, (V.int .i64 (Int.ofNat 0)), V.nils, (V.int .i64 (Int.ofNat 0))] [(0, 11, (.tmp 62))], none⟩, ⟨(some 64), .append 46 11 136 (.tmp 61) (.tmp 63), none⟩, ⟨(some 65), .nilck (.tmp 57), none⟩, ⟨(some 66), .faddr 12 (.tmp 65), none⟩, ⟨none, .store 1 (.tmp 66) (.tmp 64), none⟩]
def H76_0 : List DP := [⟨0, [1]⟩, ⟨0, [1]⟩, ⟨2, [58]⟩, ⟨6, [59]⟩, ⟨14, [60]⟩, ⟨0, [11]⟩, ⟨32, [62]⟩, ⟨126, [61, 63]⟩, ⟨255, [57]⟩, ⟨511, [65]⟩, ⟨1023, [66, 64]⟩]
def Fin76 (E : List (Nat × Blk)) : St → Ans := fun s => resK E s [(.tmp 8)] fun l => some (oneV l, s.σ)
def C76_0 (cc1 : XC) : XC := (.seq (.ops (.op (some 8) .any [] (.mov (.con (V.bool false))) <|
 .nil))
 (.seq (.ops (.op (some 13) .any [0] (.mov (.tmp 0)) <|
 .op (some 14) (.tup [(.agg [(.int .i64), .str, (.int .i64)]), .bool]) [13] (.call 20 [(.tmp 13), (.con (V.int .i64 (Int.ofNat 2)))]) <|
 .op (some 12) .any [14] (.mov (.tmp 14)) <|
 .op (some 15) .any [12] (.extract 0 (.tmp 12)) <|
 .op (some 16) .any [12] (.extract 1 (.tmp 12)) <|
 .pal 9 [] 75 [(V.int .i64 (Int.ofNat 0)), (V.str ⟨0, 0⟩), (V.int .i64 (Int.ofNat 0))] <|
 .op none (.agg [(.int .i64), .str, (.int .i64)]) [9, 15] (.store 3 (.tmp 9) (.tmp 15)) <|
 .op (some 10) .any [16] (.mov (.tmp 16)) <|
 .nil))
 (.seq (.seq (.ops (.op (some 17) .any [10] (.mov (.tmp 10)) <|
 .op (some 18) .any [17] (.un .not (.tmp 17)) <|
 .nil))
 (.cond (.tmp 18) (.seq (.ops (.op (some 8) .any [] (.mov (.con (V.bool false))) <|
 .nil))
 .ret)
 .skip))
 (.seq (.ops (.op (some 19) .any [9] (.faddr 1 (.tmp 9)) <|
 .op (some 20) .str [19] (.load none (.tmp 19)) <|
 .op (some 21) .any [2] (.mov (.tmp 2)) <|
 .op (some 22) (.agg [.str, (.int .i64), .bool, .bool, (.int .i64), (.int .i64), .any, .any, (.int .i64), .any, (.int .i64)]) [20, 21] (.build [(V.str ⟨0, 0⟩), (V.int .i64 (Int.ofNat 0)), (V.bool false), (V.bool false), (V.int .i64 (Int.ofNat 0)), (V.int .i64 (Int.ofNat 0)), V.nils, V.nils, (V.int .i64 (Int.ofNat 0)), V.nils, (V.int .i64 (Int.ofNat 0))] [(0, 1, (.tmp 20)), (10, 1, (.tmp 21))]) <|
 .op (some 11) .any [] (.alloc 46 [(V.str ⟨0, 0⟩), (V.int .i64 (Int.ofNat 0)), (V.bool false), (V.bool false), (V.int .i64 (Int.ofNat 0)), (V.int .i64 (Int.ofNat 0)), V.nils, V.nils, (V.int .i64 (Int.ofNat 0)), V.nils, (V.int .i64 (Int.ofNat 0))]) <|
 .op none (.agg [.str, (.int .i64), .bool, .bool, (.int .i64), (.int .i64), .any, .any, (.int .i64), .any, (.int .i64)]) [11, 22] (.store 11 (.tmp 11) (.tmp 22)) <|
 .nil))
 (.seq (.seq (.ops (.op (some 24) .any [0] (.mov (.tmp 0)) <|
 .op (some 25) .any [3] (.mov (.tmp 3)) <|
 .op (some 26) .any [25] (.bin .add .none (.tmp 25) (.con (V.int .i64 (Int.ofNat 1)))) <|
 .op (some 27) (.tup [(.int .i64), .bool]) [24, 26] (.call 44 [(.tmp 24), (.tmp 26)]) <|
 .op (some 23) .any [27] (.mov (.tmp 27)) <|
 .op (some 28) .any [23] (.extract 0 (.tmp 23)) <|
 .op (some 29) .any [23] (.extract 1 (.tmp 23)) <|
 .op (some 30) .any [11] (.faddr 1 (.tmp 11)) <|
 .op none .any [30, 28] (.store 1 (.tmp 30) (.tmp 28)) <|
 .op (some 10) .any [29] (.mov (.tmp 29)) <|
 .nil))
 (.seq (.ops (.op (some 31) .any [10] (.mov (.tmp 10)) <|
 .op (some 32) .any [31] (.un .not (.tmp 31)) <|
 .nil))
 (.cond (.tmp 32) (.seq (.ops (.op (some 8) .any [] (.mov (.con (V.bool false))) <|
 .nil))
 .ret)
 .skip)))
 (.seq (.block 0 (.seq (.ops (.op (some 34) .any [1] (.mov (.tmp 1)) <|
 .op (some 35) .any [34] (.nilck (.tmp 34)) <|
 .op (some 36) .any [35] (.faddr 0 (.tmp 35)) <|
 .op (some 37) (.int .i64) [36] (.load none (.tmp 36)) <|
 .op (some 38) .any [37] (.bin .eql .none (.tmp 37) (.con (V.int .i64 (Int.ofNat 9)))) <|
 .op (some 33) .any [38] (.mov (.tmp 38)) <|
 .nil))
 (.cond (.tmp 33) .skip
 (.seq (.ops (.op (some 40) .any [0] (.mov (.tmp 0)) <|
 .op (some 41) .any [40] (.nilck (.tmp 40)) <|
 .op (some 42) .any [41] (.faddr 0 (.tmp 41)) <|
 .op (some 43) .bool [42] (.call 43 [(.tmp 42), (.con (V.str ⟨8, 5494759122808361039⟩))]) <|
 .op (some 39) .any [43] (.mov (.tmp 43)) <|
 .nil))
 (.cond (.tmp 39) (.ops (.op (some 44) .any [11] (.faddr 2 (.tmp 11)) <|
 .op none .any [44] (.store 1 (.tmp 44) (.con (V.bool true))) <|
 .nil))
 (.seq (.ops (.op (some 46) .any [0] (.mov (.tmp 0)) <|
 .op (some 47) .any [46] (.nilck (.tmp 46)) <|
 .op (some 48) .any [47] (.faddr 0 (.tmp 47)) <|
 .op (some 49) .bool [48] (.call 43 [(.tmp 48), (.con (V.str ⟨7, 23727827094750532⟩))]) <|
 .op (some 45) .any [49] (.mov (.tmp 49)) <|
 .nil))
 (.cond (.tmp 45) (.seq (.ops (.op (some 50) .any [11] (.faddr 3 (.tmp 11)) <|
 .op none .any [50] (.store 1 (.tmp 50) (.con (V.bool true))) <|
 .nil))
 (.ops (.op (some 52) .any [0] (.mov (.tmp 0)) <|
 .op (some 53) (.tup [(.agg [(.int .i64), (.int .i64), .any, .any, (.int .i64), .any]), .bool]) [52] (.call 83 [(.tmp 52)]) <|
 .op (some 51) .any [53] (.mov (.tmp 53)) <|
 .op (some 54) .any [51] (.extract 0 (.tmp 51)) <|
 .op (some 55) .any [51] (.extract 1 (.tmp 51)) <|
 .op (some 56) .any [11] (.faddr 4 (.tmp 11)) <|
 .op none (.agg [(.int .i64), (.int .i64), .any, .any, (.int .i64), .any]) [56, 54] (.store 6 (.tmp 56) (.tmp 54)) <|
 .op (some 10) .any [55] (.mov (.tmp 55)) <|
 .nil)))
 .skip)))))))
 (.keep [(1, .ptr), (10, .bool), (11, .ptr)] [] [] cc1)))))))
def T76_0 (E : List (Nat × Blk)) (D : Den) (W : DrawFn) (K1 : Nat → Nat → Bool → Nat → Nat → H → Ans) (v0b : Nat) (v0o : Nat) (v1b : Nat) (v1o : Nat) (v2 : Int) (v3 : Int) (σ : H) : Ans :=
 callK (D 20 [(V.ptr v0b v0o), (V.int .i64 (Int.ofNat 2))] σ) fun u1 s2 =>
 rtTup u1 fun l3 =>
 rtCons l3 fun x4 l5 =>
 rtAgg x4 fun l6 =>
 rtCons l6 fun x7 l8 =>
 rtInt .i64 x7 fun x9 =>
 rtCons l8 fun x10 l11 =>
 rtStr x10 fun x12 =>
 rtCons l11 fun x13 l14 =>
 rtInt .i64 x13 fun x15 =>
 rtNil l14 (
 rtCons l5 fun x16 l17 =>
 rtBool x16 fun x18 =>
 rtNil l17 (
 condK (not x18) (
 some ((V.bool false), s2)) (
 let s19 := newB s2 (.cells [(V.str ⟨0, 0⟩), (V.int .i64 (Int.ofNat 0)), (V.bool false), (V.bool false), (V.int .i64 (Int.ofNat 0)), (V.int .i64 (Int.ofNat 0)), V.nils, V.nils, (V.int .i64 (Int.ofNat 0)), V.nils, (V.int .i64 (Int.ofNat 0))]);
 stK 11 (H.next s2) 0 (V.agg [(V.str x12), (V.int .i64 (Int.ofNat 0)), (V.bool false), (V.bool false), (V.int .i64 (Int.ofNat 0)), (V.int .i64 (Int.ofNat 0)), V.nils, V.nils, (V.int .i64 (Int.ofNat 0)), V.nils, (V.int .i64 v2)]) s19 fun s20 =>
 callK (D 44 [(V.ptr v0b v0o), (V.int .i64 (addF .i64 v3 (Int.ofNat 1)))] s20) fun u21 s22 =>
 rtTup u21 fun l23 =>
 rtCons l23 fun x24 l25 =>
 rtInt .i64 x24 fun x26 =>
 rtCons l25 fun x27 l28 =>
 rtBool x27 fun x29 =>
 rtNil l28 (
 stK 1 (H.next s2) 1 (V.int .i64 x26) s22 fun s30 =>
 condK (not x29) (
 some ((V.bool false), s30)) (
 ldK E s30 v1b v1o fun u31 =>
 rtInt .i64 u31 fun x32 =>
 condK (eqF x32 (Int.ofNat 9)) (
 K1 v1b v1o x29 (H.next s2) 0 s30) (
 callK (D 43 [(V.ptr v0b v0o), (V.str (BS.mk 8 5494759122808361039))] s30) fun u33 s34 =>
 rtBool u33 fun x35 =>
 condK x35 (
 stK 1 (H.next s2) 2 (V.bool true) s34 fun s36 =>
 K1 v1b v1o x29 (H.next s2) 0 s36) (
 callK (D 43 [(V.ptr v0b v0o), (V.str (BS.mk 7 23727827094750532))] s34) fun u37 s38 =>
 rtBool u37 fun x39 =>
 condK x39 (
 stK 1 (H.next s2) 3 (V.bool true) s38 fun s40 =>
 callK (D 83 [(V.ptr v0b v0o)] s40) fun u41 s42 =>
 rtTup u41 fun l43 =>
 rtCons l43 fun x44 l45 =>
 rtAgg x44 fun l46 =>
 rtCons l46 fun x47 l48 =>
 rtInt .i64 x47 fun x49 =>
 rtCons l48 fun x50 l51 =>
 rtInt .i64 x50 fun x52 =>
 rtCons l51 fun x53 l54 =>
 rtCons l54 fun x55 l56 =>
 rtCons l56 fun x57 l58 =>
 rtInt .i64 x57 fun x59 =>
 rtCons l58 fun x60 l61 =>
 rtNil l61 (
 rtCons l45 fun x62 l63 =>
 rtBool x62 fun x64 =>
 rtNil l63 (
 stK 6 (H.next s2) 4 (V.agg [(V.int .i64 x49), (V.int .i64 x52), x53, x55, (V.int .i64 x59), x60]) s42 fun s65 =>
 K1 v1b v1o x64 (H.next s2) 0 s65))) (
 K1 v1b v1o x29 (H.next s2) 0 s38))))))))
def C76_1 : XC := (.seq (.keep [(1, .ptr), (10, .bool), (11, .ptr)] [] [] (.gdraw G76_0 H76_0 [(10, .bool)]))
 (.seq (.ops (.op (some 67) .any [10] (.mov (.tmp 10)) <|
 .op (some 8) .any [67] (.mov (.tmp 67)) <|
 .nil))
 .ret))
def T76_1 (E : List (Nat × Blk)) (D : Den) (W : DrawFn) (v1b : Nat) (v1o : Nat) (v10 : Bool) (v11b : Nat) (v11o : Nat) (σ : H) : Ans :=
 gdrawK (W G76_0 H76_0 [(1, (V.ptr v1b v1o)), (10, (V.bool v10)), (11, (V.ptr v11b v11o))] σ) fun e1 s2 =>
 getL e1 10 fun u3 =>
 rtBool u3 fun x4 =>
 some ((V.bool x4), s2)
theorem P76_0 (E : List (Nat × Blk)) (D : Den) (W : DrawFn) (N : Nat) (cc1 : XC) (v0b : Nat) (v0o : Nat) (v1b : Nat) (v1o : Nat) (v2 : Int) (v3 : Int) (σ : H) :
  denC E D W N (C76_0 cc1) ⟨[(0, (V.ptr v0b v0o)), (1, (V.ptr v1b v1o)), (2, (V.int .i64 v2)), (3, (V.int .i64 v3))], [], [], σ⟩ (Fin76 E) (fun _ _ => none) (Fin76 E) =
  T76_0 E D W (fun v1b v1o v10 v11b v11o σ => denC E D W N cc1 ⟨[(1, (V.ptr v1b v1o)), (10, (V.bool v10)), (11, (V.ptr v11b v11o))], [], [], σ⟩ (Fin76 E) (fun _ _ => none) (Fin76 E)) v0b v0o v1b v1o v2 v3 σ := by kernel_rfl
theorem P76_1 (E : List (Nat × Blk)) (D : Den) (W : DrawFn) (N : Nat) (v1b : Nat) (v1o : Nat) (v10 : Bool) (v11b : Nat) (v11o : Nat) (σ : H) :
  denC E D W N (C76_1 ) ⟨[(1, (V.ptr v1b v1o)), (10, (V.bool v10)), (11, (V.ptr v11b v11o))], [], [], σ⟩ (Fin76 E) (fun _ _ => none) (Fin76 E) =
  T76_1 E D W  v1b v1o v10 v11b v11o σ := by kernel_rfl
def J76_1 (E : List (Nat × Blk)) (D : Den) (W : DrawFn) (N : Nat) : Nat → Nat → Bool → Nat → Nat → H → Ans := T76_1 E D W 
theorem JE76_1 (E : List (Nat × Blk)) (D : Den) (W : DrawFn) (N : Nat) (v1b : Nat) (v1o : Nat) (v10 : Bool) (v11b : Nat) (v11o : Nat) (σ : H) :
  denC E D W N C76_1 ⟨[(1, (V.ptr v1b v1o)), (10, (V.bool v10)), (11, (V.ptr v11b v11o))], [], [], σ⟩ (Fin76 E) (fun _ _ => none) (Fin76 E) = J76_1 E D W N v1b v1o v10 v11b v11o σ := by
  refine (P76_1 E D W N   v1b v1o v10 v11b v11o σ).trans ?_
  kernel_rfl
def J76_0 (E : List (Nat × Blk)) (D : Den) (W : DrawFn) (N : Nat) : Nat → Nat → Nat → Nat → Int → Int → H → Ans := T76_0 E D W (J76_1 E D W N )
theorem JE76_0 (E : List (Nat × Blk)) (D : Den) (W : DrawFn) (N : Nat) (v0b : Nat) (v0o : Nat) (v1b : Nat) (v1o : Nat) (v2 : Int) (v3 : Int) (σ : H) :
  denC E D W N (C76_0 C76_1) ⟨[(0, (V.ptr v0b v0o)), (1, (V.ptr v1b v1o)), (2, (V.int .i64 v2)), (3, (V.int .i64 v3))], [], [], σ⟩ (Fin76 E) (fun _ _ => none) (Fin76 E) = J76_0 E D W N v0b v0o v1b v1o v2 v3 σ := by
  refine (P76_0 E D W N C76_1  v0b v0o v1b v1o v2 v3 σ).trans ?_
  simp only [JE76_1]
  kernel_rfl
def F76 (E : List (Nat × Blk)) (D : Den) (W : DrawFn) (N : Nat) (args : List V) (σ : H) : Ans :=
 rtCons args fun x1 l2 =>
 rtPtr x1 fun b3 o4 =>
 rtCons l2 fun x5 l6 =>
 rtPtr x5 fun b7 o8 =>
 rtCons l6 fun x9 l10 =>
 rtInt .i64 x9 fun x11 =>
 rtCons l10 fun x12 l13 =>
 rtInt .i64 x12 fun x14 =>
 rtNil l13 (
 J76_0 E D W N b3 o4 b7 o8 x11 x14 σ)
def A76 : XFn := ⟨68, [.ptr, .ptr, (.int .i64), (.int .i64)], [(.tmp 8)], (C76_0 C76_1)⟩
theorem FE76 (E : List (Nat × Blk)) (D : Den) (W : DrawFn) (N : Nat) (args : List V) (σ : H) : runX E D W N A76 args σ = F76 E D W N args σ := by
  unfold F76
  simp only [← JE76_0]
  kernel_rfl
theorem AO76 : A76.body.ok = true := by kernel_rfl

end
end Go.Proofs.YtjolbidcficdhaaDoor
