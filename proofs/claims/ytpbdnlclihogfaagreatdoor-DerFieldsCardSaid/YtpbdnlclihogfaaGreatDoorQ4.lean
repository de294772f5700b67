/- What the last text leans on, part 5 of 7: merged out of smaller texts. No condition. -/
import Derived.KernelRfl
import Derived.Test.YtpbdnlclihogfaaGreatDoorProg
import Derived.Test.YtpbdnlclihogfaaGreatDoorQ3
set_option linter.all false
set_option maxRecDepth 100000
set_option maxHeartbeats 0
namespace Go.Proofs.YtpbdnlclihogfaaGreatDoor
open Go Go.Og
noncomputable section
variable (E : List (Nat × Blk)) (D : Den) (W : DrawFn) (N : Nat)
def C99_0 (cc1 : XC) (cc2 : XC) : XC := (.seq (.ops (.p 1 [0] (.box 115 (.t 0))<|
.c 2 (V.bool false)<|
.nil))
 (.seq (.ops (.p 5 [] (.buildSlice 9 10 [(V.str ⟨0, 0⟩), (V.str ⟨0, 0⟩), (V.str ⟨0, 0⟩), (V.str ⟨0, 0⟩), (V.str ⟨0, 0⟩), (V.str ⟨0, 0⟩), (V.str ⟨0, 0⟩), (V.str ⟨0, 0⟩), (V.str ⟨0, 0⟩), (V.str ⟨0, 0⟩)] [(0, 1, (.con (V.str ⟨1, 91⟩))), (1, 1, (.con (V.str ⟨7, 22026814072246082⟩))), (2, 1, (.con (V.str ⟨4, 1280070990⟩))), (3, 1, (.con (V.str ⟨10, 488440487847103610377301⟩))), (4, 1, (.con (V.str ⟨7, 23157120498421321⟩))), (5, 1, (.con (V.str ⟨5, 361940403023⟩))), (6, 1, (.con (V.str ⟨10, 322399817400452109389381⟩))), (7, 1, (.con (V.str ⟨3, 5522771⟩))), (8, 1, (.con (V.str ⟨6, 76155295057987⟩))), (9, 1, (.con (V.str ⟨8, 4990918871747741011⟩)))])<|
.m 3 5<|
.nil))
 (.seq (.seq (.ops (.q 4 0<|
.nil))
 (.block 0 (.loop [(1, .ptr), (3, .any), (4, .i)] [] [] cc2)))
 (.keep [(1, .ptr)] [] [] cc1))))
def C99_1 : XC := (.seq (.ops (.f 29 0 1<|
.l 30 .i 29<|
.b 31 .eql .none (.t 30) (.i 1)<|
.m 2 31<|
.nil))
 .ret)
def C99_2 : XC := (.seq (.seq (.ops (.m 6 4<|
.m 7 3<|
.u 8 7<|
.b 9 .lss .none (.t 6) (.t 8)<|
.nil))
 (.cond (.tmp 9) .skip
 (.exit 0)))
 (.seq (.block 1 (.seq (.draw (.m 12 3<|
.m 13 4<|
.s 14 1 12 13<|
.l 15 .str 14<|
.f 16 1 1<|
.l 17 .str 16<|
.b 18 .eql .none (.t 15) (.t 17)<|
.m 19 18<|
.grp 19 true (.p 20 [1, 19] (.faddr 0 (.t 1))<|
.op (some 21) .i [20, 19] (.load none (.t 20))<|
.p 22 [21, 19] (.bin .eql .none (.t 21) (.i 5))<|
.p 23 [22, 19] (.mov (.t 22))<|
.grp 23 false (.p 24 [1, 23] (.faddr 0 (.t 1))<|
.op (some 25) .i [24, 23] (.load none (.t 24))<|
.p 26 [25, 23] (.bin .eql .none (.t 25) (.i 6))<|
.nil) 27 [23, 26, 19] (.t 23) (.con (V.bool true)) (.t 26)<|
.nil) 28 [19, 27] (.t 19) (.t 27) (.con (V.bool false))<|
.nil) [0, 0, 3, 7, 0, 16, 63, 127, 255, 511, 1023, 2047, 4095, 8191, 16383, 32767, 65535])
 (.cond (.tmp 28) (.seq (.ops (.c 2 (V.bool true)<|
.nil))
 .ret)
 .skip)))
 (.ops (.m 10 4<|
.b 11 .add .none (.t 10) (.i 1)<|
.m 4 11<|
.nil))))
def A99 : XFn := ⟨32, [(.agg [.i, .str, .i])], [(.tmp 2)], (C99_0 C99_1 C99_2)⟩
def C100_0 : XC := (.seq (.ops (.q 2 0<|
.nil))
 (.seq (.ops (.m 4 0<|
.k 5 .str 55 [(.t 4), (.i 3)]<|
.m 3 5<|
.nil))
 (.seq (.seq (.ops (.m 6 3<|
.b 7 .eql .none (.t 6) (.con (V.str ⟨0, 0⟩))<|
.nil))
 (.cond (.tmp 7) (.seq (.ops (.q 2 0<|
.nil))
 .ret)
 .skip))
 (.seq (.ops (.m 8 3<|
.k 9 .i 147 [(.t 8)]<|
.m 2 9<|
.nil))
 .ret))))
def A100 : XFn := ⟨10, [.any], [(.tmp 2)], C100_0⟩
def G101_0 : List AOper := [⟨(some 139), .mov (.tmp 1), none⟩, ⟨(some 140), .mov (.tmp 1), none⟩, ⟨(some 141), .faddr 1 (.tmp 6), none⟩, ⟨(some 142), .load none (.tmp 141), none⟩, ⟨(some 143), .nilck (.tmp 139), none⟩, ⟨(some 144), .faddr 0 (.tmp 143), none⟩, ⟨none, .store 1 (.tmp 144) (.con (V.int .i64 (Int.ofNat 11))), none⟩, ⟨(some 145), .nilck (.tmp 140), none⟩, ⟨(some 146), .faddr 1 (.tmp 145), none⟩, ⟨none, .store 1 (.tmp 146) (.tmp 142), none⟩]
def H101_0 : List DP := [⟨0, [1]⟩, ⟨0, [1]⟩, ⟨0, [6]⟩, ⟨4, [141]⟩, ⟨1, [139]⟩, ⟨17, [143]⟩, ⟨49, [144]⟩, ⟨127, [140]⟩, ⟨255, [145]⟩, ⟨511, [146, 142]⟩]
def C101_0 : XC := (.seq (.ops (.m 7 0<|
.k 8 (.agg [.i, .str, .i]) 58 [(.t 7)]<|
.p 6 [] (.alloc 115 [(V.int .i64 (Int.ofNat 0)), (V.str ⟨0, 0⟩), (V.int .i64 (Int.ofNat 0))])<|
.op none (.agg [.i, .str, .i]) [6, 8] (.store 3 (.t 6) (.t 8))<|
.nil))
 (.block 0 (.seq (.ops (.m 13 0<|
.n 14 13<|
.f 15 7 14<|
.l 16 .i 15<|
.b 17 .neq .none (.t 16) (.i 0)<|
.m 12 17<|
.nil))
 (.cond (.tmp 12) .skip
 (.seq (.ops (.m 19 0<|
.k 20 .bool 57 [(.t 19), (.con (V.str ⟨7, 22026814072246082⟩))]<|
.m 18 20<|
.nil))
 (.cond (.tmp 18) (.ops (.m 21 1<|
.n 22 21<|
.f 23 0 22<|
.op none .any [23] (.store 1 (.t 23) (.i 1))<|
.nil))
 (.seq (.ops (.m 25 0<|
.k 26 .bool 57 [(.t 25), (.con (V.str ⟨4, 1280070990⟩))]<|
.m 24 26<|
.nil))
 (.cond (.tmp 24) (.ops (.m 27 1<|
.n 28 27<|
.f 29 0 28<|
.op none .any [29] (.store 1 (.t 29) (.i 4))<|
.nil))
 (.seq (.ops (.m 31 0<|
.k 32 .bool 57 [(.t 31), (.con (V.str ⟨10, 488440487847103610377301⟩))]<|
.m 30 32<|
.nil))
 (.cond (.tmp 30) (.seq (.ops (.m 33 1<|
.n 34 33<|
.f 35 0 34<|
.op none .any [35] (.store 1 (.t 35) (.i 6))<|
.nil))
 (.ops (.m 36 1<|
.m 37 0<|
.k 38 (.agg [.bool, .bool, .bool, .bool, .i, .i]) 148 [(.t 37)]<|
.n 39 36<|
.f 40 5 39<|
.op none (.agg [.bool, .bool, .bool, .bool, .i, .i]) [40, 38] (.store 6 (.t 40) (.t 38))<|
.nil)))
 (.seq (.ops (.m 42 0<|
.k 43 .bool 57 [(.t 42), (.con (V.str ⟨7, 23157120498421321⟩))]<|
.m 41 43<|
.nil))
 (.cond (.tmp 41) (.seq (.ops (.m 44 1<|
.n 45 44<|
.f 46 0 45<|
.op none .any [46] (.store 1 (.t 46) (.i 2))<|
.nil))
 (.seq (.ops (.m 47 0<|
.k 48 .bool 57 [(.t 47), (.con (V.str ⟨1, 40⟩))]<|
.nil))
 (.cond (.tmp 48) (.seq (.ops (.m 49 1<|
.m 50 0<|
.k 51 (.agg [.bool, .bool, .bool, .bool, .i, .i]) 149 [(.t 50)]<|
.n 52 49<|
.f 53 5 52<|
.op none (.agg [.bool, .bool, .bool, .bool, .i, .i]) [53, 51] (.store 6 (.t 53) (.t 51))<|
.nil))
 (.ops (.m 54 0<|
.k 55 (.tup []) 56 [(.t 54), (.con (V.str ⟨1, 41⟩))]<|
.nil)))
 .skip)))
 (.seq (.ops (.m 57 0<|
.k 58 .bool 57 [(.t 57), (.con (V.str ⟨5, 361940403023⟩))]<|
.m 56 58<|
.nil))
 (.cond (.tmp 56) (.seq (.ops (.m 59 0<|
.k 60 (.tup []) 56 [(.t 59), (.con (V.str ⟨6, 78401563153491⟩))]<|
.nil))
 (.seq (.ops (.m 61 1<|
.n 62 61<|
.f 63 0 62<|
.op none .any [63] (.store 1 (.t 63) (.i 5))<|
.nil))
 (.ops (.m 64 1<|
.m 65 0<|
.k 66 (.agg [.bool, .bool, .bool, .bool, .i, .i]) 148 [(.t 65)]<|
.n 67 64<|
.f 68 5 67<|
.op none (.agg [.bool, .bool, .bool, .bool, .i, .i]) [68, 66] (.store 6 (.t 68) (.t 66))<|
.nil))))
 (.seq (.ops (.m 70 0<|
.k 71 .bool 57 [(.t 70), (.con (V.str ⟨10, 322399817400452109389381⟩))]<|
.m 69 71<|
.nil))
 (.cond (.tmp 69) (.seq (.ops (.m 72 1<|
.n 73 72<|
.f 74 0 73<|
.op none .any [74] (.store 1 (.t 74) (.i 3))<|
.nil))
 (.seq (.ops (.m 75 0<|
.k 76 (.tup []) 56 [(.t 75), (.con (V.str ⟨1, 123⟩))]<|
.nil))
 (.seq (.ops (.m 77 0<|
.m 78 1<|
.k 79 (.tup []) 150 [(.t 77), (.t 78)]<|
.nil))
 (.ops (.m 80 0<|
.k 81 (.tup []) 56 [(.t 80), (.con (V.str ⟨1, 125⟩))]<|
.nil)))))
 (.seq (.ops (.m 83 0<|
.k 84 .bool 57 [(.t 83), (.con (V.str ⟨3, 5522771⟩))]<|
.m 82 84<|
.nil))
 (.cond (.tmp 82) (.seq (.ops (.m 85 1<|
.n 86 85<|
.f 87 0 86<|
.op none .any [87] (.store 1 (.t 87) (.i 8))<|
.nil))
 (.seq (.ops (.m 88 0<|
.k 89 (.tup []) 56 [(.t 88), (.con (V.str ⟨1, 123⟩))]<|
.nil))
 (.ops (.m 90 0<|
.m 91 1<|
.m 92 2<|
.k 93 (.tup []) 151 [(.t 90), (.t 91), (.t 92)]<|
.nil))))
 (.seq (.ops (.m 95 0<|
.k 96 .bool 57 [(.t 95), (.con (V.str ⟨6, 76155295057987⟩))]<|
.m 94 96<|
.nil))
 (.cond (.tmp 94) (.seq (.ops (.m 97 1<|
.n 98 97<|
.f 99 0 98<|
.op none .any [99] (.store 1 (.t 99) (.i 9))<|
.nil))
 (.seq (.ops (.m 100 0<|
.k 101 (.tup []) 56 [(.t 100), (.con (V.str ⟨1, 123⟩))]<|
.nil))
 (.ops (.m 102 0<|
.m 103 1<|
.m 104 2<|
.k 105 (.tup []) 151 [(.t 102), (.t 103), (.t 104)]<|
.nil))))
 (.seq (.ops (.m 107 0<|
.k 108 .bool 57 [(.t 107), (.con (V.str ⟨8, 4990918871747741011⟩))]<|
.m 106 108<|
.nil))
 (.cond (.tmp 106) (.seq (.seq (.ops (.m 109 0<|
.k 110 .bool 57 [(.t 109), (.con (V.str ⟨1, 123⟩))]<|
.nil))
 (.cond (.tmp 110) (.seq (.ops (.m 111 1<|
.n 112 111<|
.f 113 0 112<|
.op none .any [113] (.store 1 (.t 113) (.i 7))<|
.nil))
 (.seq (.ops (.m 114 0<|
.m 115 1<|
.m 116 2<|
.k 117 (.tup []) 151 [(.t 114), (.t 115), (.t 116)]<|
.nil))
 .ret))
 .skip))
 (.seq (.ops (.m 118 1<|
.n 119 118<|
.f 120 0 119<|
.op none .any [120] (.store 1 (.t 120) (.i 10))<|
.nil))
 (.seq (.ops (.m 121 1<|
.m 122 0<|
.k 123 (.agg [.bool, .bool, .bool, .bool, .i, .i]) 148 [(.t 122)]<|
.n 124 121<|
.f 125 5 124<|
.op none (.agg [.bool, .bool, .bool, .bool, .i, .i]) [125, 123] (.store 6 (.t 125) (.t 123))<|
.nil))
 (.seq (.ops (.m 126 0<|
.k 127 (.tup []) 56 [(.t 126), (.con (V.str ⟨2, 17999⟩))]<|
.nil))
 (.ops (.m 128 1<|
.m 129 0<|
.m 130 2<|
.b 131 .add .none (.t 130) (.i 1)<|
.k 132 .i 60 [(.t 129), (.t 131)]<|
.n 133 128<|
.f 134 15 133<|
.w 1 134 132<|
.nil))))))
 (.seq (.ops (.f 136 0 6<|
.l 137 .i 136<|
.b 138 .eql .none (.t 137) (.i 1)<|
.m 135 138<|
.nil))
 (.cond (.tmp 135) (.seq (.keep [(0, .ptr), (1, .ptr), (6, .ptr)] [] [] (.gdraw G101_0 H101_0 [(0, .ptr)]))
 (.ops (.m 147 0<|
.k 148 (.agg [.i, .str, .i]) 98 [(.t 147)]<|
.nil)))
 (.ops (.m 9 0<|
.op (some 10) (.agg [.i, .str, .i]) [6] (.load (some 3) (.t 6))<|
.k 11 (.tup []) 59 [(.t 9), (.i 7), (.t 10)]<|
.nil))))))))))))))))))))))))))
def A101 : XFn := ⟨149, [.ptr, .ptr, .i], [], C101_0⟩
/-! ### F102: ogham_oghamhelp.In_string_ -/
def Fin102 (E : List (Nat × Blk)) : St → Ans := fun s => resK E s [(.tmp 4)] fun l => some (oneV l, s.σ)
def C102_0 (cc1 : XC) (cc2 : XC) : XC := (.seq (.ops (.c 4 (V.bool false)<|
.nil))
 (.seq (.seq (.ops (.q 5 0<|
.nil))
 (.block 0 (.loop [(0, .any), (1, .str), (5, .i)] [] [] cc2)))
 (.keep [] [] [] cc1)))
def T102_0 (E : List (Nat × Blk)) (D : Den) (W : DrawFn) (K2 : V → BS → Int → H → Ans) (v0 : V) (v1 : BS) (σ : H) : Ans :=
 K2 v0 v1 (Int.ofNat 0) σ
def C102_1 : XC := (.seq (.ops (.c 4 (V.bool false)<|
.nil))
 .ret)
def T102_1 (E : List (Nat × Blk)) (D : Den) (W : DrawFn) (σ : H) : Ans :=
 some ((V.bool false), σ)
def C102_2 : XC := (.seq (.seq (.ops (.m 6 5<|
.m 7 0<|
.u 8 7<|
.b 9 .lss .none (.t 6) (.t 8)<|
.nil))
 (.cond (.tmp 9) .skip
 (.exit 0)))
 (.seq (.block 1 (.seq (.ops (.m 12 0<|
.m 13 5<|
.s 14 1 12 13<|
.l 15 .str 14<|
.m 16 1<|
.b 17 .eql .none (.t 15) (.t 16)<|
.nil))
 (.cond (.tmp 17) (.seq (.ops (.c 4 (V.bool true)<|
.nil))
 .ret)
 .skip)))
 (.ops (.m 10 5<|
.b 11 .add .none (.t 10) (.i 1)<|
.m 5 11<|
.nil))))
def T102_2 (E : List (Nat × Blk)) (D : Den) (W : DrawFn) (K1 : H → Ans) (R2 : V → BS → Int → H → Ans) (v0 : V) (v1 : BS) (v5 : Int) (σ : H) : Ans :=
 slenK v0 fun n1 =>
 condK (ltF v5 (Int.ofNat n1)) (
 iaddrSK 1 v0 v5 fun b2 o3 =>
 ldK E σ b2 o3 fun u4 =>
 rtStr u4 fun x5 =>
 condK (BS.beq x5 v1) (
 some ((V.bool true), σ)) (
 R2 v0 v1 (addF .i64 v5 (Int.ofNat 1)) σ)) (
 K1 σ)
def S102_0 (v0 : V) (v1 : BS) (σ : H) : St := ⟨[(0, v0), (1, (V.str v1))], [], [], σ⟩
def S102_1 (σ : H) : St := ⟨[], [], [], σ⟩
def S102_2 (v0 : V) (v1 : BS) (v5 : Int) (σ : H) : St := ⟨[(0, v0), (1, (V.str v1)), (5, (V.int .i64 v5))], [], [], σ⟩
theorem P102_0 (cc1 : XC) (cc2 : XC) (v0 : V) (v1 : BS) (σ : H) :
  denC E D W N (C102_0 cc1 cc2) (S102_0 v0 v1 σ) (Fin102 E) (fun _ _ => none) (Fin102 E) =
  T102_0 E D W (fun v0 v1 v5 σ => iterK (fun rec s' => denC E D W N cc2 s' (fun s'' => keepS [(0, .any), (1, .str), (5, .i)] [] [] s'' rec) (blkK 0 (fun s' => denC E D W N (.keep [] [] [] cc1) s' (Fin102 E) (fun _ _ => none) (Fin102 E)) (fun _ _ => none)) (Fin102 E)) N (S102_2 v0 v1 v5 σ)) v0 v1 σ := by kernel_rfl
theorem P102_1 (σ : H) :
  denC E D W N (C102_1 ) (S102_1 σ) (Fin102 E) (fun _ _ => none) (Fin102 E) =
  T102_1 E D W   σ := by kernel_rfl
theorem P102_2 (cc1 : XC) (li2 : St → Ans) (v0 : V) (v1 : BS) (v5 : Int) (σ : H) :
  denC E D W N (C102_2 ) (S102_2 v0 v1 v5 σ) (fun s'' => keepS [(0, .any), (1, .str), (5, .i)] [] [] s'' li2) (blkK 0 (fun s' => denC E D W N (.keep [] [] [] cc1) s' (Fin102 E) (fun _ _ => none) (Fin102 E)) (fun _ _ => none)) (Fin102 E) =
  T102_2 E D W (fun  σ => denC E D W N cc1 (S102_1 σ) (Fin102 E) (fun _ _ => none) (Fin102 E)) (fun v0 v1 v5 σ => li2 (S102_2 v0 v1 v5 σ)) v0 v1 v5 σ := by kernel_rfl
def J102_1 (E : List (Nat × Blk)) (D : Den) (W : DrawFn) (N : Nat) : H → Ans := T102_1 E D W 
theorem JE102_1 (σ : H) :
  denC E D W N C102_1 (S102_1 σ) (Fin102 E) (fun _ _ => none) (Fin102 E) = J102_1 E D W N  σ := by
  refine (P102_1 E D W N    σ).trans ?_
  kernel_rfl
def L102_2 (n : Nat) : V → BS → Int → H → Ans :=
  Nat.rec (fun _ _ _ _ => none) (fun _ ih => T102_2 E D W (J102_1 E D W N ) ih) n
theorem LE102_2 (n : Nat) : ∀ (v0 : V) (v1 : BS) (v5 : Int) (σ : H),
  iterK (fun rec s' => denC E D W N C102_2 s' (fun s'' => keepS [(0, .any), (1, .str), (5, .i)] [] [] s'' rec) (blkK 0 (fun s' => denC E D W N (.keep [] [] [] C102_1) s' (Fin102 E) (fun _ _ => none) (Fin102 E)) (fun _ _ => none)) (Fin102 E)) n (S102_2 v0 v1 v5 σ) = L102_2 E D W N n v0 v1 v5 σ := by
  induction n with
  | zero => intro v0 v1 v5 σ; rfl
  | succ n ihn =>
    intro v0 v1 v5 σ
    rw [iterK_succ]
    refine (P102_2 E D W N C102_1 (iterK (fun rec s' => denC E D W N C102_2 s' (fun s'' => keepS [(0, .any), (1, .str), (5, .i)] [] [] s'' rec) (blkK 0 (fun s' => denC E D W N (.keep [] [] [] C102_1) s' (Fin102 E) (fun _ _ => none) (Fin102 E)) (fun _ _ => none)) (Fin102 E)) n) v0 v1 v5 σ).trans ?_
    simp only [ihn, JE102_1]
    kernel_rfl
def J102_0 : V → BS → H → Ans := T102_0 E D W (L102_2 E D W N N)
theorem JE102_0 (v0 : V) (v1 : BS) (σ : H) :
  denC E D W N (C102_0 C102_1 C102_2) (S102_0 v0 v1 σ) (Fin102 E) (fun _ _ => none) (Fin102 E) = J102_0 E D W N v0 v1 σ := by
  refine (P102_0 E D W N C102_1 C102_2  v0 v1 σ).trans ?_
  simp only [LE102_2]
  kernel_rfl
def F102 (args : List V) (σ : H) : Ans :=
 rtCons args fun x1 l2 =>
 rtCons l2 fun x3 l4 =>
 rtStr x3 fun x5 =>
 rtNil l4 (
 J102_0 E D W N x1 x5 σ)
def A102 : XFn := ⟨18, [.any, .str], [(.tmp 4)], (C102_0 C102_1 C102_2)⟩
theorem FE102 (args : List V) (σ : H) : runX E D W N A102 args σ = F102 E D W N args σ := by
  unfold F102
  simp only [← JE102_0]
  kernel_rfl
theorem AO102 : A102.body.ok = true := by kernel_rfl

def C103_0 (cc1 : XC) (cc2 : XC) : XC := (.seq (.ops (.p 4 [0] (.box 77 (.t 0))<|
.c 8 V.nils<|
.c 9 (V.bool false)<|
.nil))
 (.seq (.seq (.ops (.m 16 1<|
.b 17 .lss .none (.t 16) (.i 0)<|
.m 18 17<|
.grp 18 false (.p 19 [1, 18] (.mov (.t 1))<|
.p 20 [4, 18] (.faddr 4 (.t 4))<|
.p 21 [20, 18] (.load none (.t 20))<|
.p 22 [21, 18] (.len false (.t 21))<|
.p 23 [19, 22, 18] (.bin .geq .none (.t 19) (.t 22))<|
.nil) 24 [18, 23] (.t 18) (.con (V.bool true)) (.t 23)<|
.m 25 24<|
.grp 25 false (.p 26 [2, 25] (.mov (.t 2))<|
.p 27 [26, 25] (.bin .gtr .none (.t 26) (.i 16))<|
.nil) 28 [25, 27] (.t 25) (.con (V.bool true)) (.t 27)<|
.nil))
 (.cond (.tmp 28) (.seq (.ops (.m 29 3<|
.m 8 29<|
.c 9 (V.bool false)<|
.nil))
 .ret)
 .skip))
 (.seq (.ops (.f 30 4 4<|
.l 31 .any 30<|
.m 32 1<|
.s 33 16 31 32<|
.op (some 34) (.agg [.i, .str, .bool, .i, .i, .bool, .bool, .bool, .bool, .i, .i, .any, .any, .i, .bool, .i]) [33] (.load (some 16) (.t 33))<|
.pal 10 [] 175 [(V.int .i64 (Int.ofNat 0)), (V.str ⟨0, 0⟩), (V.bool false), (V.int .i64 (Int.ofNat 0)), (V.int .i64 (Int.ofNat 0)), (V.bool false), (V.bool false), (V.bool false), (V.bool false), (V.int .i64 (Int.ofNat 0)), (V.int .i64 (Int.ofNat 0)), V.nils, V.nils, (V.int .i64 (Int.ofNat 0)), (V.bool false), (V.int .i64 (Int.ofNat 0))]<|
.op none (.agg [.i, .str, .bool, .i, .i, .bool, .bool, .bool, .bool, .i, .i, .any, .any, .i, .bool, .i]) [10, 34] (.store 16 (.t 10) (.t 34))<|
.nil))
 (.seq (.seq (.ops (.f 35 0 10<|
.l 36 .i 35<|
.b 37 .eql .none (.t 36) (.i 11)<|
.nil))
 (.cond (.tmp 37) (.seq (.ops (.op (some 38) (.agg [.str, .i, .any, .any, .any]) [4] (.load (some 5) (.t 4))<|
.f 39 1 10<|
.l 40 .str 39<|
.k 41 .i 105 [(.t 38), (.t 40)]<|
.m 11 41<|
.nil))
 (.seq (.seq (.ops (.m 42 11<|
.b 43 .lss .none (.t 42) (.i 0)<|
.nil))
 (.cond (.tmp 43) (.seq (.ops (.m 44 3<|
.m 8 44<|
.c 9 (V.bool true)<|
.nil))
 .ret)
 .skip))
 (.seq (.seq (.ops (.m 45 3<|
.m 46 11<|
.k 47 .bool 24 [(.t 45), (.t 46)]<|
.p 48 [47] (.un .not (.t 47))<|
.nil))
 (.cond (.tmp 48) (.ops (.m 49 3<|
.m 50 11<|
.p 51 [50] (.buildSlice 3 1 [(V.int .i64 (Int.ofNat 0))] [(0, 1, (.t 50))])<|
.op (some 52) .one [49, 51] (.append 3 1 8 (.t 49) (.t 51))<|
.m 3 52<|
.nil))
 .skip))
 (.keep [(3, .any)] [] [] cc2))))
 .skip))
 (.keep [(2, .i), (3, .any), (4, .ptr)] [10] [(10, [.i, .str, .bool, .i, .i, .bool, .bool, .bool, .bool, .i, .i, .any, .any, .i, .bool, .i])] cc1)))))
def C103_1 (cc3 : XC) (cc4 : XC) : XC := (.seq (.ops (.c 12 (V.bool false)<|
.nil))
 (.seq (.seq (.ops (.q 13 0<|
.nil))
 (.block 0 (.loop [(2, .i), (3, .any), (4, .ptr), (12, .bool), (13, .i)] [10] [(10, [.i, .str, .bool, .i, .i, .bool, .bool, .bool, .bool, .i, .i, .any, .any, .i, .bool, .i])] cc4)))
 (.keep [(2, .i), (3, .any), (4, .ptr), (12, .bool)] [10] [(10, [.i, .str, .bool, .i, .i, .bool, .bool, .bool, .bool, .i, .i, .any, .any, .i, .bool, .i])] cc3)))
def C103_2 : XC := (.seq (.ops (.m 53 3<|
.m 8 53<|
.c 9 (V.bool false)<|
.nil))
 .ret)
def C103_3 (cc5 : XC) : XC := (.seq (.seq (.ops (.f 79 0 10<|
.l 80 .i 79<|
.b 81 .eql .none (.t 80) (.i 10)<|
.nil))
 (.cond (.tmp 81) (.seq (.ops (.c 15 (V.bool false)<|
.nil))
 (.seq (.ops (.op (some 83) (.agg [.str, .i, .any, .any, .any]) [4] (.load (some 5) (.t 4))<|
.f 84 15 10<|
.l 85 .i 84<|
.m 86 2<|
.b 87 .add .none (.t 86) (.i 1)<|
.m 88 3<|
.k 89 (.tup [.any, .bool]) 103 [(.t 83), (.t 85), (.t 87), (.t 88)]<|
.m 82 89<|
.p 90 [82] (.extract 0 (.t 82))<|
.p 91 [82] (.extract 1 (.t 82))<|
.m 3 90<|
.m 15 91<|
.nil))
 (.ops (.m 92 12<|
.m 93 92<|
.grp 93 false (.p 94 [15, 93] (.mov (.t 15))<|
.nil) 95 [93, 94] (.t 93) (.con (V.bool true)) (.t 94)<|
.m 12 95<|
.nil))))
 .skip))
 (.keep [(3, .any), (12, .bool)] [] [] cc5))
def C103_4 : XC := (.seq (.seq (.ops (.m 54 13<|
.f 55 12 10<|
.l 56 .any 55<|
.u 57 56<|
.b 58 .lss .none (.t 54) (.t 57)<|
.nil))
 (.cond (.tmp 58) .skip
 (.exit 0)))
 (.seq (.block 1 (.seq (.ops (.c 14 (V.bool false)<|
.nil))
 (.seq (.draw (.op (some 62) (.agg [.str, .i, .any, .any, .any]) [4] (.load (some 5) (.t 4))<|
.f 63 12 10<|
.l 64 .any 63<|
.m 65 13<|
.s 66 11 64 65<|
.f 67 1 66<|
.l 68 .i 67<|
.m 69 2<|
.b 70 .add .none (.t 69) (.i 1)<|
.m 71 3<|
.k 72 (.tup [.any, .bool]) 103 [(.t 62), (.t 68), (.t 70), (.t 71)]<|
.m 61 72<|
.p 73 [61] (.extract 0 (.t 61))<|
.p 74 [61] (.extract 1 (.t 61))<|
.m 3 73<|
.m 14 74<|
.nil) [0, 0, 2, 0, 14, 30, 62, 0, 128, 0, 1023, 2047, 4095, 4095, 8191, 32767])
 (.ops (.m 75 12<|
.m 76 75<|
.grp 76 false (.p 77 [14, 76] (.mov (.t 14))<|
.nil) 78 [76, 77] (.t 76) (.con (V.bool true)) (.t 77)<|
.m 12 78<|
.nil)))))
 (.ops (.m 59 13<|
.b 60 .add .none (.t 59) (.i 1)<|
.m 13 60<|
.nil))))
def C103_5 : XC := (.seq (.ops (.m 96 3<|
.m 97 12<|
.m 8 96<|
.m 9 97<|
.nil))
 .ret)
def A103 : XFn := ⟨98, [(.agg [.str, .i, .any, .any, .any]), .i, .i, .any], [(.tmp 8), (.tmp 9)], (C103_0 (C103_1 (C103_3 C103_5) C103_4) C103_2)⟩
def C104_0 (cc1 : XC) (cc2 : XC) : XC := (.seq (.ops (.c 6 (V.bool false)<|
.nil))
 (.seq (.ops (.p 10 [] (.buildSlice 3 0 [] [])<|
.m 7 10<|
.nil))
 (.seq (.ops (.m 11 0<|
.m 12 1<|
.s 13 1 11 12<|
.l 14 .any 13<|
.op (some 15) .one [14] (.append 3 1 8 (.con V.nils) (.t 14))<|
.m 8 15<|
.nil))
 (.seq (.block 0 (.loop [(0, .any), (2, .i), (7, .any), (8, .any)] [] [] cc2))
 (.keep [] [] [] cc1)))))
def C104_1 : XC := (.seq (.ops (.c 6 (V.bool false)<|
.nil))
 .ret)
def C104_2 : XC := (.seq (.seq (.ops (.m 16 8<|
.u 17 16<|
.b 18 .gtr .none (.t 17) (.i 0)<|
.nil))
 (.cond (.tmp 18) .skip
 (.exit 0)))
 (.block 1 (.seq (.ops (.m 19 8<|
.p 20 [19] (.iaddrS 1 (.t 19) (.i 0))<|
.l 21 .i 20<|
.m 9 21<|
.nil))
 (.seq (.ops (.m 22 8<|
.p 23 [22] (.sliceSl 1 (.t 22) (some (.i 1)) none none)<|
.m 8 23<|
.nil))
 (.seq (.seq (.ops (.m 24 9<|
.m 25 2<|
.b 26 .eql .none (.t 24) (.t 25)<|
.nil))
 (.cond (.tmp 26) (.seq (.ops (.c 6 (V.bool true)<|
.nil))
 .ret)
 .skip))
 (.seq (.ops (.m 27 7<|
.m 28 9<|
.k 29 .bool 24 [(.t 27), (.t 28)]<|
.p 30 [29] (.un .not (.t 29))<|
.nil))
 (.cond (.tmp 30) (.seq (.ops (.m 31 7<|
.m 32 9<|
.p 33 [32] (.buildSlice 3 1 [(V.int .i64 (Int.ofNat 0))] [(0, 1, (.t 32))])<|
.op (some 34) .one [31, 33] (.append 3 1 8 (.t 31) (.t 33))<|
.m 7 34<|
.nil))
 (.ops (.m 35 8<|
.m 36 0<|
.m 37 9<|
.s 38 1 36 37<|
.l 39 .any 38<|
.op (some 40) .one [35, 39] (.append 3 1 8 (.t 35) (.t 39))<|
.m 8 40<|
.nil)))
 .skip)))))))
def A104 : XFn := ⟨41, [.any, .i, .i], [(.tmp 6)], (C104_0 C104_1 C104_2)⟩
def G106_0 : List AOper := [⟨(some 45), .mov (.tmp 0), none⟩, ⟨(some 46), .mov (.tmp 0), none⟩, ⟨(some 47), .nilck (.tmp 46), none⟩, ⟨(some 48), .faddr 5 (.tmp 47), none⟩, ⟨(some 49), .load none (.tmp 48), none⟩, ⟨(some 50), .load (some 13) (.tmp 8), none⟩, ⟨(some 51), .buildSlice 139 1 [(V.int .i64 (Int.ofNat 0)), V.nils, (V.bool false), (V.bool false), (V.bool false), (V.bool false), (V.int .i64 (Int.ofNat 0)), (V.int .i64 (Int.ofNat 0)), V.nils, V.nils, (V.int .i64 (Int.ofNat 0)), (V.bool false), (V.int .i64 (Int.ofNat 0))] [(0, 13, (.tmp 50))], none⟩, ⟨(some 52), .append 139 13 128 (.tmp 49) (.tmp 51), none⟩, ⟨(some 53), .nilck (.tmp 45), none⟩, ⟨(some 54), .faddr 5 (.tmp 53), none⟩, ⟨none, .store 1 (.tmp 54) (.tmp 52), none⟩]
def H106_0 : List DP := [⟨0, [0]⟩, ⟨0, [0]⟩, ⟨2, [46]⟩, ⟨6, [47]⟩, ⟨14, [48]⟩, ⟨0, [8]⟩, ⟨32, [50]⟩, ⟨126, [49, 51]⟩, ⟨255, [45]⟩, ⟨511, [53]⟩, ⟨1023, [54, 52]⟩]
def G106_1 : List AOper := [⟨(some 97), .mov (.tmp 0), none⟩, ⟨(some 98), .nilck (.tmp 97), none⟩, ⟨(some 99), .faddr 5 (.tmp 98), none⟩, ⟨(some 100), .load none (.tmp 99), none⟩, ⟨(some 101), .mov (.tmp 7), none⟩, ⟨(some 102), .mov (.tmp 0), none⟩, ⟨(some 103), .load (some 16) (.tmp 4), none⟩, ⟨(some 104), .call 155 [(.tmp 102), (.tmp 103)], none⟩, ⟨(some 105), .iaddrS 13 (.tmp 100) (.tmp 101), none⟩, ⟨(some 106), .faddr 8 (.tmp 105), none⟩, ⟨none, .store 1 (.tmp 106) (.tmp 104), none⟩]
def H106_1 : List DP := [⟨0, [0]⟩, ⟨1, [97]⟩, ⟨3, [98]⟩, ⟨7, [99]⟩, ⟨0, [7]⟩, ⟨0, [0]⟩, ⟨0, [4]⟩, ⟨96, [102, 103]⟩, ⟨255, [100, 101]⟩, ⟨511, [105]⟩, ⟨1023, [106, 104]⟩]
def C106_0 (cc1 : XC) : XC := (.seq (.ops (.p 4 [1] (.box 175 (.t 1))<|
.q 6 0<|
.nil))
 (.seq (.seq (.ops (.m 11 2<|
.b 12 .gtr .none (.t 11) (.i 16)<|
.m 13 12<|
.grp 13 false (.p 14 [0, 13] (.mov (.t 0))<|
.p 15 [14, 13] (.nilck (.t 14))<|
.p 16 [15, 13] (.faddr 5 (.t 15))<|
.p 17 [16, 13] (.load none (.t 16))<|
.p 18 [17, 13] (.len false (.t 17))<|
.p 19 [18, 13] (.bin .geq .none (.t 18) (.i 300))<|
.nil) 20 [13, 19] (.t 13) (.con (V.bool true)) (.t 19)<|
.nil))
 (.cond (.tmp 20) (.seq (.ops (.m 21 0<|
.k 22 (.tup []) 152 [(.t 21), (.i 5)]<|
.nil))
 (.seq (.ops (.q 6 0<|
.nil))
 .ret))
 .skip))
 (.seq (.ops (.m 23 0<|
.n 24 23<|
.f 25 5 24<|
.l 26 .any 25<|
.u 27 26<|
.m 7 27<|
.nil))
 (.seq (.ops (.f 28 0 4<|
.l 29 .i 28<|
.f 30 5 4<|
.op (some 31) (.agg [.bool, .bool, .bool, .bool, .i, .i]) [30] (.load (some 6) (.t 30))<|
.f 32 13 4<|
.l 33 .i 32<|
.f 34 14 4<|
.l 35 .bool 34<|
.op (some 36) (.agg [.i, .any, .bool, .bool, .bool, .bool, .i, .i, .any, .any, .i, .bool, .i]) [29, 31, 33, 35] (.build [(V.int .i64 (Int.ofNat 0)), V.nils, (V.bool false), (V.bool false), (V.bool false), (V.bool false), (V.int .i64 (Int.ofNat 0)), (V.int .i64 (Int.ofNat 0)), V.nils, V.nils, (V.int .i64 (Int.ofNat 0)), (V.bool false), (V.int .i64 (Int.ofNat 0))] [(0, 1, (.t 29)), (2, 6, (.t 31)), (10, 1, (.t 33)), (11, 1, (.t 35))])<|
.p 8 [] (.alloc 139 [(V.int .i64 (Int.ofNat 0)), V.nils, (V.bool false), (V.bool false), (V.bool false), (V.bool false), (V.int .i64 (Int.ofNat 0)), (V.int .i64 (Int.ofNat 0)), V.nils, V.nils, (V.int .i64 (Int.ofNat 0)), (V.bool false), (V.int .i64 (Int.ofNat 0))])<|
.op none (.agg [.i, .any, .bool, .bool, .bool, .bool, .i, .i, .any, .any, .i, .bool, .i]) [8, 36] (.store 13 (.t 8) (.t 36))<|
.nil))
 (.seq (.seq (.ops (.f 37 0 4<|
.l 38 .i 37<|
.b 39 .neq .none (.t 38) (.i 9)<|
.nil))
 (.cond (.tmp 39) (.ops (.f 40 0 4<|
.l 41 .i 40<|
.k 42 (.agg [.i, .i]) 153 [(.t 41)]<|
.p 43 [42] (.buildSlice 45 1 [(V.int .i64 (Int.ofNat 0)), (V.int .i64 (Int.ofNat 0))] [(0, 2, (.t 42))])<|
.f 44 1 8<|
.w 1 44 43<|
.nil))
 .skip))
 (.keep [(0, .ptr), (2, .i), (4, .ptr), (7, .i), (8, .ptr)] [] [] cc1))))))
def C106_1 (cc2 : XC) (cc3 : XC) : XC := (.seq (.keep [(0, .ptr), (2, .i), (4, .ptr), (7, .i), (8, .ptr)] [] [] (.gdraw G106_0 H106_0 [(0, .ptr), (2, .i), (4, .ptr), (7, .i)]))
 (.seq (.seq (.ops (.f 55 0 4<|
.l 56 .i 55<|
.nil))
 (.block 0 (.seq (.seq (.ops (.b 58 .eql .none (.t 56) (.i 2)<|
.m 57 58<|
.nil))
 (.cond (.tmp 57) .skip
 (.seq (.ops (.b 59 .eql .none (.t 56) (.i 5)<|
.m 57 59<|
.nil))
 (.cond (.tmp 57) .skip
 (.seq (.ops (.b 60 .eql .none (.t 56) (.i 6)<|
.m 57 60<|
.nil))
 (.cond (.tmp 57) .skip
 (.ops (.b 61 .eql .none (.t 56) (.i 10)<|
.m 57 61<|
.nil))))))))
 (.keep [(0, .ptr), (2, .i), (4, .ptr), (7, .i), (56, .i), (57, .bool)] [] [] cc3))))
 (.keep [(7, .i)] [] [] cc2)))
def C106_2 : XC := (.seq (.ops (.m 116 7<|
.m 6 116<|
.nil))
 .ret)
def C106_3 (cc4 : XC) (cc5 : XC) : XC := (.cond (.tmp 57) (.seq (.ops (.f 62 5 4<|
.op (some 63) (.agg [.bool, .bool, .bool, .bool, .i, .i]) [62] (.load (some 6) (.t 62))<|
.f 64 0 4<|
.l 65 .i 64<|
.b 66 .neq .none (.t 65) (.i 2)<|
.k 67 .i 154 [(.t 63), (.t 66)]<|
.m 9 67<|
.nil))
 (.seq (.seq (.ops (.m 68 9<|
.b 69 .neq .none (.t 68) (.i 0)<|
.nil))
 (.cond (.tmp 69) (.ops (.m 70 0<|
.m 71 9<|
.k 72 (.tup []) 152 [(.t 70), (.t 71)]<|
.nil))
 .skip))
 (.keep [(0, .ptr), (2, .i), (4, .ptr), (7, .i)] [] [] cc4)))
 (.seq (.ops (.b 96 .eql .none (.t 56) (.i 3)<|
.m 95 96<|
.nil))
 (.cond (.tmp 95) (.keep [(0, .ptr), (4, .ptr), (7, .i)] [] [] (.gdraw G106_1 H106_1 [(7, .i)]))
 (.seq (.seq (.ops (.b 108 .eql .none (.t 56) (.i 7)<|
.m 107 108<|
.nil))
 (.cond (.tmp 107) .skip
 (.seq (.ops (.b 109 .eql .none (.t 56) (.i 8)<|
.m 107 109<|
.nil))
 (.cond (.tmp 107) .skip
 (.ops (.b 110 .eql .none (.t 56) (.i 9)<|
.m 107 110<|
.nil))))))
 (.keep [(0, .ptr), (2, .i), (4, .ptr), (7, .i), (107, .bool)] [] [] cc5)))))
def C106_4 : XC := (.seq (.ops (.f 73 0 4<|
.l 74 .i 73<|
.b 75 .eql .none (.t 74) (.i 10)<|
.nil))
 (.cond (.tmp 75) (.seq (.ops (.m 76 0<|
.f 77 15 4<|
.l 78 .i 77<|
.m 79 2<|
.b 80 .add .none (.t 79) (.i 1)<|
.k 81 .i 62 [(.t 76), (.t 78), (.t 80)]<|
.m 10 81<|
.nil))
 (.seq (.ops (.m 82 0<|
.n 83 82<|
.f 84 6 83<|
.l 85 .i 84<|
.b 86 .eql .none (.t 85) (.i 0)<|
.nil))
 (.cond (.tmp 86) (.ops (.m 87 0<|
.n 88 87<|
.f 89 5 88<|
.l 90 .any 89<|
.m 91 7<|
.m 92 10<|
.s 93 13 90 91<|
.f 94 12 93<|
.w 1 94 92<|
.nil))
 .skip)))
 .skip))
def C106_5 : XC := (.cond (.tmp 107) (.ops (.m 111 0<|
.m 112 7<|
.op (some 113) (.agg [.i, .str, .bool, .i, .i, .bool, .bool, .bool, .bool, .i, .i, .any, .any, .i, .bool, .i]) [4] (.load (some 16) (.t 4))<|
.m 114 2<|
.k 115 (.tup []) 156 [(.t 111), (.t 112), (.t 113), (.t 114)]<|
.nil))
 .skip)
def A106 : XFn := ⟨117, [.ptr, (.agg [.i, .str, .bool, .i, .i, .bool, .bool, .bool, .bool, .i, .i, .any, .any, .i, .bool, .i]), .i], [(.tmp 6)], (C106_0 (C106_1 C106_2 (C106_3 C106_4 C106_5)))⟩
def C107_0 : XC := (.seq (.ops (.q 4 0<|
.nil))
 (.seq (.seq (.ops (.m 5 0<|
.n 6 5<|
.f 7 5 6<|
.l 8 .any 7<|
.m 9 1<|
.s 10 13 8 9<|
.f 11 1 10<|
.l 12 .any 11<|
.u 13 12<|
.b 14 .gtr .none (.t 13) (.i 0)<|
.nil))
 (.cond (.tmp 14) (.seq (.ops (.q 4 1<|
.nil))
 .ret)
 .skip))
 (.seq (.ops (.q 4 0<|
.nil))
 .ret)))
def A107 : XFn := ⟨15, [.ptr, .i], [(.tmp 4)], C107_0⟩
def C108_0 : XC := (.seq (.seq (.ops (.m 10 0<|
.n 11 10<|
.f 12 6 11<|
.l 13 .i 12<|
.b 14 .neq .none (.t 13) (.i 0)<|
.nil))
 (.cond (.tmp 14) .ret
 .skip))
 (.seq (.ops (.m 16 0<|
.n 17 16<|
.f 18 5 17<|
.l 19 .any 18<|
.m 20 1<|
.s 21 13 19 20<|
.f 22 1 21<|
.l 23 .any 22<|
.m 24 2<|
.m 25 3<|
.k 26 (.tup [.any, .i]) 157 [(.t 23), (.t 24), (.t 25)]<|
.m 15 26<|
.p 27 [15] (.extract 0 (.t 15))<|
.p 28 [15] (.extract 1 (.t 15))<|
.m 8 27<|
.m 9 28<|
.nil))
 (.seq (.seq (.ops (.m 29 9<|
.b 30 .neq .none (.t 29) (.i 0)<|
.nil))
 (.cond (.tmp 30) (.seq (.ops (.m 31 0<|
.m 32 9<|
.k 33 (.tup []) 152 [(.t 31), (.t 32)]<|
.nil))
 .ret)
 .skip))
 (.ops (.m 34 0<|
.n 35 34<|
.f 36 5 35<|
.l 37 .any 36<|
.m 38 1<|
.m 39 8<|
.s 40 13 37 38<|
.f 41 1 40<|
.w 1 41 39<|
.nil)))))
def A108 : XFn := ⟨42, [.ptr, .i, .i, .i], [], C108_0⟩
/-! ### F110: ogham_value.plain -/
def Fin110 (E : List (Nat × Blk)) : St → Ans := fun s => resK E s [(.tmp 4)] fun l => some (oneV l, s.σ)
def C110_0 : XC := (.seq (.ops (.p 2 [0] (.box 26 (.t 0))<|
.c 4 (V.bool false)<|
.nil))
 (.seq (.ops (.m 5 1<|
.b 6 .and .none (.t 5) (.i 1)<|
.b 7 .neq .none (.t 6) (.i 0)<|
.m 8 7<|
.grp 8 false (.p 9 [2, 8] (.faddr 1 (.t 2))<|
.op (some 10) .i [9, 8] (.load none (.t 9))<|
.p 11 [10, 8] (.bin .eql .none (.t 10) (.i 0))<|
.nil) 12 [8, 11] (.t 8) (.con (V.bool true)) (.t 11)<|
.m 13 12<|
.grp 13 true (.p 14 [1, 13] (.mov (.t 1))<|
.p 15 [14, 13] (.bin .and .none (.t 14) (.i 2))<|
.p 16 [15, 13] (.bin .neq .none (.t 15) (.i 0))<|
.p 17 [16, 13] (.mov (.t 16))<|
.grp 17 false (.p 18 [2, 17] (.faddr 2 (.t 2))<|
.p 19 [18, 17] (.load none (.t 18))<|
.p 20 [19, 17] (.len false (.t 19))<|
.p 21 [20, 17] (.bin .eql .none (.t 20) (.i 0))<|
.nil) 22 [17, 21, 13] (.t 17) (.con (V.bool true)) (.t 21)<|
.nil) 23 [13, 22] (.t 13) (.t 22) (.con (V.bool false))<|
.m 24 23<|
.grp 24 true (.p 25 [1, 24] (.mov (.t 1))<|
.p 26 [25, 24] (.bin .and .none (.t 25) (.i 4))<|
.p 27 [26, 24] (.bin .neq .none (.t 26) (.i 0))<|
.p 28 [27, 24] (.mov (.t 27))<|
.grp 28 false (.p 29 [2, 28] (.faddr 3 (.t 2))<|
.p 30 [29, 28] (.load none (.t 29))<|
.p 31 [30, 28] (.len false (.t 30))<|
.p 32 [31, 28] (.bin .eql .none (.t 31) (.i 0))<|
.nil) 33 [28, 32, 24] (.t 28) (.con (V.bool true)) (.t 32)<|
.nil) 34 [24, 33] (.t 24) (.t 33) (.con (V.bool false))<|
.m 35 34<|
.grp 35 true (.p 36 [1, 35] (.mov (.t 1))<|
.p 37 [36, 35] (.bin .and .none (.t 36) (.i 8))<|
.p 38 [37, 35] (.bin .neq .none (.t 37) (.i 0))<|
.p 39 [38, 35] (.mov (.t 38))<|
.grp 39 false (.p 40 [2, 39] (.faddr 4 (.t 2))<|
.op (some 41) .i [40, 39] (.load none (.t 40))<|
.p 42 [41, 39] (.bin .eql .none (.t 41) (.i 0))<|
.p 43 [42, 39] (.mov (.t 42))<|
.grp 43 true (.p 44 [2, 43] (.faddr 5 (.t 2))<|
.p 45 [44, 43] (.load none (.t 44))<|
.p 46 [45, 43] (.len false (.t 45))<|
.p 47 [46, 43] (.bin .eql .none (.t 46) (.i 0))<|
.nil) 48 [43, 47, 39] (.t 43) (.t 47) (.con (V.bool false))<|
.nil) 49 [39, 48, 35] (.t 39) (.con (V.bool true)) (.t 48)<|
.nil) 50 [35, 49] (.t 35) (.t 49) (.con (V.bool false))<|
.m 4 50<|
.nil))
 .ret))
def T110_0 (E : List (Nat × Blk)) (D : Den) (W : DrawFn) (v0_0 v0_1 : Int) (v0_2 v0_3 : V) (v0_4 : Int) (v0_5 : V) (v1 : Int) (σ : H) : Ans :=
 chk (allOne (V.cells (V.agg [(V.int .i64 v0_0), (V.int .i64 v0_1), v0_2, v0_3, (V.int .i64 v0_4), v0_5]))) (
 let s1 := newB σ (.cells (V.cells (V.agg [(V.int .i64 v0_0), (V.int .i64 v0_1), v0_2, v0_3, (V.int .i64 v0_4), v0_5])));
 joinB (fun c2 s3 =>
 joinB (fun c5 s6 =>
 joinB (fun c8 s9 =>
 joinB (fun c11 s12 =>
 some ((V.bool c11), s12)) fun k13 =>
 condK c8 (
 joinB (fun c14 s15 =>
 k13 c14 s15) fun k16 =>
 condK (not (eqF (andF .i64 v1 (Int.ofNat 8)) (Int.ofNat 0))) (
 k16 true s9) (
 ldK E s9 (H.next σ) 4 fun u17 =>
 rtInt .i64 u17 fun x18 =>
 joinB (fun c19 s20 =>
 k16 c19 s20) fun k21 =>
 condK (eqF x18 (Int.ofNat 0)) (
 ldK E s9 (H.next σ) 5 fun u22 =>
 slenK u22 fun n23 =>
 k21 (eqF (Int.ofNat n23) (Int.ofNat 0)) s9) (
 k21 false s9))) (
 k13 false s9)) fun k10 =>
 condK c5 (
 joinB (fun c24 s25 =>
 k10 c24 s25) fun k26 =>
 condK (not (eqF (andF .i64 v1 (Int.ofNat 4)) (Int.ofNat 0))) (
 k26 true s6) (
 ldK E s6 (H.next σ) 3 fun u27 =>
 slenK u27 fun n28 =>
 k26 (eqF (Int.ofNat n28) (Int.ofNat 0)) s6)) (
 k10 false s6)) fun k7 =>
 condK c2 (
 joinB (fun c29 s30 =>
 k7 c29 s30) fun k31 =>
 condK (not (eqF (andF .i64 v1 (Int.ofNat 2)) (Int.ofNat 0))) (
 k31 true s3) (
 ldK E s3 (H.next σ) 2 fun u32 =>
 slenK u32 fun n33 =>
 k31 (eqF (Int.ofNat n33) (Int.ofNat 0)) s3)) (
 k7 false s3)) fun k4 =>
 condK (not (eqF (andF .i64 v1 (Int.ofNat 1)) (Int.ofNat 0))) (
 k4 true s1) (
 ldK E s1 (H.next σ) 1 fun u34 =>
 rtInt .i64 u34 fun x35 =>
 k4 (eqF x35 (Int.ofNat 0)) s1))
def S110_0 (v0_0 v0_1 : Int) (v0_2 v0_3 : V) (v0_4 : Int) (v0_5 : V) (v1 : Int) (σ : H) : St := ⟨[(0, (V.agg [(V.int .i64 v0_0), (V.int .i64 v0_1), v0_2, v0_3, (V.int .i64 v0_4), v0_5])), (1, (V.int .i64 v1))], [], [], σ⟩
theorem P110_0 (v0_0 v0_1 : Int) (v0_2 v0_3 : V) (v0_4 : Int) (v0_5 : V) (v1 : Int) (σ : H) :
  denC E D W N (C110_0 ) (S110_0 v0_0 v0_1 v0_2 v0_3 v0_4 v0_5 v1 σ) (Fin110 E) (fun _ _ => none) (Fin110 E) =
  T110_0 E D W  v0_0 v0_1 v0_2 v0_3 v0_4 v0_5 v1 σ := by kernel_rfl
def J110_0 (E : List (Nat × Blk)) (D : Den) (W : DrawFn) (N : Nat) : Int → Int → V → V → Int → V → Int → H → Ans := T110_0 E D W 
theorem JE110_0 (v0_0 v0_1 : Int) (v0_2 v0_3 : V) (v0_4 : Int) (v0_5 : V) (v1 : Int) (σ : H) :
  denC E D W N C110_0 (S110_0 v0_0 v0_1 v0_2 v0_3 v0_4 v0_5 v1 σ) (Fin110 E) (fun _ _ => none) (Fin110 E) = J110_0 E D W N v0_0 v0_1 v0_2 v0_3 v0_4 v0_5 v1 σ := by
  refine (P110_0 E D W N   v0_0 v0_1 v0_2 v0_3 v0_4 v0_5 v1 σ).trans ?_
  kernel_rfl
def F110 (args : List V) (σ : H) : Ans :=
 rtCons args fun x1 l2 =>
 rtAgg x1 fun l3 =>
 rtCons l3 fun x4 l5 =>
 rtInt .i64 x4 fun x6 =>
 rtCons l5 fun x7 l8 =>
 rtInt .i64 x7 fun x9 =>
 rtCons l8 fun x10 l11 =>
 rtCons l11 fun x12 l13 =>
 rtCons l13 fun x14 l15 =>
 rtInt .i64 x14 fun x16 =>
 rtCons l15 fun x17 l18 =>
 rtNil l18 (
 rtCons l2 fun x19 l20 =>
 rtInt .i64 x19 fun x21 =>
 rtNil l20 (
 J110_0 E D W N x6 x9 x10 x12 x16 x17 x21 σ))
def A110 : XFn := ⟨51, [(.agg [.i, .i, .any, .any, .i, .any]), .i], [(.tmp 4)], C110_0⟩
theorem FE110 (args : List V) (σ : H) : runX E D W N A110 args σ = F110 E D W N args σ := by
  unfold F110
  simp only [← JE110_0]
  kernel_rfl
theorem AO110 : A110.body.ok = true := by kernel_rfl

/-! ### F111: ogham_bounds.Within -/
def Fin111 (E : List (Nat × Blk)) : St → Ans := fun s => resK E s [(.tmp 4)] fun l => some (oneV l, s.σ)
def C111_0 : XC := (.seq (.ops (.p 2 [0] (.box 135 (.t 0))<|
.c 4 (V.bool false)<|
.nil))
 (.seq (.ops (.f 5 0 2<|
.l 6 .bool 5<|
.p 7 [6] (.un .not (.t 6))<|
.m 8 7<|
.grp 8 false (.p 9 [2, 8] (.faddr 1 (.t 2))<|
.op (some 10) .bool [9, 8] (.load none (.t 9))<|
.p 11 [10, 8] (.un .not (.t 10))<|
.p 12 [11, 8] (.mov (.t 11))<|
.grp 12 false (.p 13 [1, 12] (.mov (.t 1))<|
.p 14 [2, 12] (.faddr 4 (.t 2))<|
.op (some 15) .i [14, 12] (.load none (.t 14))<|
.p 16 [13, 15, 12] (.bin .geq .none (.t 13) (.t 15))<|
.nil) 17 [12, 16, 8] (.t 12) (.con (V.bool true)) (.t 16)<|
.p 18 [17, 8] (.mov (.t 17))<|
.grp 18 true (.p 19 [2, 18] (.faddr 2 (.t 2))<|
.op (some 20) .bool [19, 18] (.load none (.t 19))<|
.p 21 [20, 18] (.un .not (.t 20))<|
.p 22 [21, 18] (.mov (.t 21))<|
.grp 22 false (.p 23 [1, 22] (.mov (.t 1))<|
.p 24 [2, 22] (.faddr 5 (.t 2))<|
.op (some 25) .i [24, 22] (.load none (.t 24))<|
.p 26 [23, 25, 22] (.bin .leq .none (.t 23) (.t 25))<|
.nil) 27 [22, 26, 18] (.t 22) (.con (V.bool true)) (.t 26)<|
.nil) 28 [18, 27, 8] (.t 18) (.t 27) (.con (V.bool false))<|
.nil) 29 [8, 28] (.t 8) (.con (V.bool true)) (.t 28)<|
.m 4 29<|
.nil))
 .ret))
def T111_0 (E : List (Nat × Blk)) (D : Den) (W : DrawFn) (v0_0 v0_1 v0_2 v0_3 : Bool) (v0_4 v0_5 v1 : Int) (σ : H) : Ans :=
 chk (allOne (V.cells (V.agg [(V.bool v0_0), (V.bool v0_1), (V.bool v0_2), (V.bool v0_3), (V.int .i64 v0_4), (V.int .i64 v0_5)]))) (
 let s1 := newB σ (.cells (V.cells (V.agg [(V.bool v0_0), (V.bool v0_1), (V.bool v0_2), (V.bool v0_3), (V.int .i64 v0_4), (V.int .i64 v0_5)])));
 ldK E s1 (H.next σ) 0 fun u2 =>
 rtBool u2 fun x3 =>
 joinB (fun c4 s5 =>
 some ((V.bool c4), s5)) fun k6 =>
 condK (not x3) (
 k6 true s1) (
 ldK E s1 (H.next σ) 1 fun u7 =>
 rtBool u7 fun x8 =>
 joinB (fun c9 s10 =>
 joinB (fun c12 s13 =>
 k6 c12 s13) fun k14 =>
 condK c9 (
 ldK E s10 (H.next σ) 2 fun u15 =>
 rtBool u15 fun x16 =>
 joinB (fun c17 s18 =>
 k14 c17 s18) fun k19 =>
 condK (not x16) (
 k19 true s10) (
 ldK E s10 (H.next σ) 5 fun u20 =>
 rtInt .i64 u20 fun x21 =>
 k19 (leF v1 x21) s10)) (
 k14 false s10)) fun k11 =>
 condK (not x8) (
 k11 true s1) (
 ldK E s1 (H.next σ) 4 fun u22 =>
 rtInt .i64 u22 fun x23 =>
 k11 (leF x23 v1) s1)))
def S111_0 (v0_0 v0_1 v0_2 v0_3 : Bool) (v0_4 v0_5 v1 : Int) (σ : H) : St := ⟨[(0, (V.agg [(V.bool v0_0), (V.bool v0_1), (V.bool v0_2), (V.bool v0_3), (V.int .i64 v0_4), (V.int .i64 v0_5)])), (1, (V.int .i64 v1))], [], [], σ⟩
theorem P111_0 (v0_0 v0_1 v0_2 v0_3 : Bool) (v0_4 v0_5 v1 : Int) (σ : H) :
  denC E D W N (C111_0 ) (S111_0 v0_0 v0_1 v0_2 v0_3 v0_4 v0_5 v1 σ) (Fin111 E) (fun _ _ => none) (Fin111 E) =
  T111_0 E D W  v0_0 v0_1 v0_2 v0_3 v0_4 v0_5 v1 σ := by kernel_rfl
def J111_0 (E : List (Nat × Blk)) (D : Den) (W : DrawFn) (N : Nat) : Bool → Bool → Bool → Bool → Int → Int → Int → H → Ans := T111_0 E D W 
theorem JE111_0 (v0_0 v0_1 v0_2 v0_3 : Bool) (v0_4 v0_5 v1 : Int) (σ : H) :
  denC E D W N C111_0 (S111_0 v0_0 v0_1 v0_2 v0_3 v0_4 v0_5 v1 σ) (Fin111 E) (fun _ _ => none) (Fin111 E) = J111_0 E D W N v0_0 v0_1 v0_2 v0_3 v0_4 v0_5 v1 σ := by
  refine (P111_0 E D W N   v0_0 v0_1 v0_2 v0_3 v0_4 v0_5 v1 σ).trans ?_
  kernel_rfl
def F111 (args : List V) (σ : H) : Ans :=
 rtCons args fun x1 l2 =>
 rtAgg x1 fun l3 =>
 rtCons l3 fun x4 l5 =>
 rtBool x4 fun x6 =>
 rtCons l5 fun x7 l8 =>
 rtBool x7 fun x9 =>
 rtCons l8 fun x10 l11 =>
 rtBool x10 fun x12 =>
 rtCons l11 fun x13 l14 =>
 rtBool x13 fun x15 =>
 rtCons l14 fun x16 l17 =>
 rtInt .i64 x16 fun x18 =>
 rtCons l17 fun x19 l20 =>
 rtInt .i64 x19 fun x21 =>
 rtNil l20 (
 rtCons l2 fun x22 l23 =>
 rtInt .i64 x22 fun x24 =>
 rtNil l23 (
 J111_0 E D W N x6 x9 x12 x15 x18 x21 x24 σ))
def A111 : XFn := ⟨30, [(.agg [.bool, .bool, .bool, .bool, .i, .i]), .i], [(.tmp 4)], C111_0⟩
theorem FE111 (args : List V) (σ : H) : runX E D W N A111 args σ = F111 E D W N args σ := by
  unfold F111
  simp only [← JE111_0]
  kernel_rfl
theorem AO111 : A111.body.ok = true := by kernel_rfl

/-! ### F113: __ogham_value.checker_.list -/
def Fin113 (E : List (Nat × Blk)) : St → Ans := fun s => resK E s [(.tmp 8)] fun l => some (oneV l, s.σ)
def C113_0 : XC := (.seq (.ops (.p 4 [0] (.box 125 (.t 0))<|
.p 5 [1] (.box 139 (.t 1))<|
.p 6 [2] (.box 26 (.t 2))<|
.p 7 [3] (.box 3 (.t 3))<|
.c 8 (V.bool false)<|
.nil))
 (.seq (.ops (.op (some 9) (.agg [.i, .i, .any, .any, .i, .any]) [6] (.load (some 6) (.t 6))<|
.k 10 .bool 110 [(.t 9), (.i 4)]<|
.m 11 10<|
.grp 11 true (.p 12 [5, 11] (.faddr 2 (.t 5))<|
.p 13 [12, 11] (.faddr 3 (.t 12))<|
.op (some 14) .bool [13, 11] (.load none (.t 13))<|
.p 15 [14, 11] (.mov (.t 14))<|
.grp 15 false (.p 16 [5, 15] (.faddr 2 (.t 5))<|
.op (some 17) (.agg [.bool, .bool, .bool, .bool, .i, .i]) [16, 15] (.load (some 6) (.t 16))<|
.p 18 [6, 15] (.faddr 3 (.t 6))<|
.p 19 [18, 15] (.load none (.t 18))<|
.p 20 [19, 15] (.len false (.t 19))<|
.op (some 21) .bool [17, 20, 15] (.call 111 [(.t 17), (.t 20)])<|
.nil) 22 [15, 21, 11] (.t 15) (.con (V.bool true)) (.t 21)<|
.nil) 23 [11, 22] (.t 11) (.t 22) (.con (V.bool false))<|
.m 24 23<|
.grp 24 true (.p 25 [6, 24] (.faddr 3 (.t 6))<|
.p 26 [25, 24] (.load none (.t 25))<|
.p 27 [4, 5, 7, 24] (.mkfn 160 [] [(.t 4), (.t 5), (.t 7)])<|
.op (some 28) .bool [26, 27, 24] (.call 65 [(.t 26), (.t 27)])<|
.p 29 [28, 24] (.un .not (.t 28))<|
.nil) 30 [24, 29] (.t 24) (.t 29) (.con (V.bool false))<|
.m 8 30<|
.nil))
 .ret))
def T113_0 (E : List (Nat × Blk)) (D : Den) (W : DrawFn) (v0 : V) (v1_0 : Int) (v1_1 : V) (v1_2 v1_3 v1_4 v1_5 : Bool) (v1_6 v1_7 : Int) (v1_8 v1_9 : V) (v1_10 : Int) (v1_11 : Bool) (v1_12 v2_0 v2_1 : Int) (v2_2 v2_3 : V) (v2_4 : Int) (v2_5 : V) (v3 : Int) (σ : H) : Ans :=
 chk (allOne (V.cells v0)) (
 let s1 := newB σ (.cells (V.cells v0));
 chk (allOne (V.cells (V.agg [(V.int .i64 v1_0), v1_1, (V.bool v1_2), (V.bool v1_3), (V.bool v1_4), (V.bool v1_5), (V.int .i64 v1_6), (V.int .i64 v1_7), v1_8, v1_9, (V.int .i64 v1_10), (V.bool v1_11), (V.int .i64 v1_12)]))) (
 let s2 := newB s1 (.cells (V.cells (V.agg [(V.int .i64 v1_0), v1_1, (V.bool v1_2), (V.bool v1_3), (V.bool v1_4), (V.bool v1_5), (V.int .i64 v1_6), (V.int .i64 v1_7), v1_8, v1_9, (V.int .i64 v1_10), (V.bool v1_11), (V.int .i64 v1_12)])));
 chk (allOne (V.cells (V.agg [(V.int .i64 v2_0), (V.int .i64 v2_1), v2_2, v2_3, (V.int .i64 v2_4), v2_5]))) (
 let s3 := newB s2 (.cells (V.cells (V.agg [(V.int .i64 v2_0), (V.int .i64 v2_1), v2_2, v2_3, (V.int .i64 v2_4), v2_5])));
 chk (allOne (V.cells (V.int .i64 v3))) (
 let s4 := newB s3 (.cells (V.cells (V.int .i64 v3)));
 ldnK E s4 (H.next s2) 0 6 fun l5 =>
 rtCons l5 fun x6 l7 =>
 rtInt .i64 x6 fun x8 =>
 rtCons l7 fun x9 l10 =>
 rtInt .i64 x9 fun x11 =>
 rtCons l10 fun x12 l13 =>
 rtCons l13 fun x14 l15 =>
 rtCons l15 fun x16 l17 =>
 rtInt .i64 x16 fun x18 =>
 rtCons l17 fun x19 l20 =>
 rtNil l20 (
 callK (D 110 [(V.agg [(V.int .i64 x8), (V.int .i64 x11), x12, x14, (V.int .i64 x18), x19]), (V.int .i64 (Int.ofNat 4))] s4) fun u21 s22 =>
 rtBool u21 fun x23 =>
 joinB (fun c24 s25 =>
 joinB (fun c27 s28 =>
 some ((V.bool c27), s28)) fun k29 =>
 condK c24 (
 ldK E s25 (H.next s2) 3 fun u30 =>
 callK (D 65 [u30, (V.fn 160 [] [(V.ptr (H.next σ) 0), (V.ptr (H.next s1) 0), (V.ptr (H.next s3) 0)])] s25) fun u31 s32 =>
 rtBool u31 fun x33 =>
 k29 (not x33) s32) (
 k29 false s25)) fun k26 =>
 condK x23 (
 ldK E s22 (H.next s1) 5 fun u34 =>
 rtBool u34 fun x35 =>
 joinB (fun c36 s37 =>
 k26 c36 s37) fun k38 =>
 condK x35 (
 k38 true s22) (
 ldnK E s22 (H.next s1) 2 6 fun l39 =>
 rtCons l39 fun x40 l41 =>
 rtBool x40 fun x42 =>
 rtCons l41 fun x43 l44 =>
 rtBool x43 fun x45 =>
 rtCons l44 fun x46 l47 =>
 rtBool x46 fun x48 =>
 rtCons l47 fun x49 l50 =>
 rtBool x49 fun x51 =>
 rtCons l50 fun x52 l53 =>
 rtInt .i64 x52 fun x54 =>
 rtCons l53 fun x55 l56 =>
 rtInt .i64 x55 fun x57 =>
 rtNil l56 (
 ldK E s22 (H.next s2) 3 fun u58 =>
 slenK u58 fun n59 =>
 callK (D 111 [(V.agg [(V.bool x42), (V.bool x45), (V.bool x48), (V.bool x51), (V.int .i64 x54), (V.int .i64 x57)]), (V.int .i64 (Int.ofNat n59))] s22) fun u60 s61 =>
 rtBool u60 fun x62 =>
 k38 x62 s61))) (
 k26 false s22))))))
def S113_0 (v0 : V) (v1_0 : Int) (v1_1 : V) (v1_2 v1_3 v1_4 v1_5 : Bool) (v1_6 v1_7 : Int) (v1_8 v1_9 : V) (v1_10 : Int) (v1_11 : Bool) (v1_12 v2_0 v2_1 : Int) (v2_2 v2_3 : V) (v2_4 : Int) (v2_5 : V) (v3 : Int) (σ : H) : St := ⟨[(0, v0), (1, (V.agg [(V.int .i64 v1_0), v1_1, (V.bool v1_2), (V.bool v1_3), (V.bool v1_4), (V.bool v1_5), (V.int .i64 v1_6), (V.int .i64 v1_7), v1_8, v1_9, (V.int .i64 v1_10), (V.bool v1_11), (V.int .i64 v1_12)])), (2, (V.agg [(V.int .i64 v2_0), (V.int .i64 v2_1), v2_2, v2_3, (V.int .i64 v2_4), v2_5])), (3, (V.int .i64 v3))], [], [], σ⟩
theorem P113_0 (v0 : V) (v1_0 : Int) (v1_1 : V) (v1_2 v1_3 v1_4 v1_5 : Bool) (v1_6 v1_7 : Int) (v1_8 v1_9 : V) (v1_10 : Int) (v1_11 : Bool) (v1_12 v2_0 v2_1 : Int) (v2_2 v2_3 : V) (v2_4 : Int) (v2_5 : V) (v3 : Int) (σ : H) :
  denC E D W N (C113_0 ) (S113_0 v0 v1_0 v1_1 v1_2 v1_3 v1_4 v1_5 v1_6 v1_7 v1_8 v1_9 v1_10 v1_11 v1_12 v2_0 v2_1 v2_2 v2_3 v2_4 v2_5 v3 σ) (Fin113 E) (fun _ _ => none) (Fin113 E) =
  T113_0 E D W  v0 v1_0 v1_1 v1_2 v1_3 v1_4 v1_5 v1_6 v1_7 v1_8 v1_9 v1_10 v1_11 v1_12 v2_0 v2_1 v2_2 v2_3 v2_4 v2_5 v3 σ := by kernel_rfl
def J113_0 (E : List (Nat × Blk)) (D : Den) (W : DrawFn) (N : Nat) : V → Int → V → Bool → Bool → Bool → Bool → Int → Int → V → V → Int → Bool → Int → Int → Int → V → V → Int → V → Int → H → Ans := T113_0 E D W 
theorem JE113_0 (v0 : V) (v1_0 : Int) (v1_1 : V) (v1_2 v1_3 v1_4 v1_5 : Bool) (v1_6 v1_7 : Int) (v1_8 v1_9 : V) (v1_10 : Int) (v1_11 : Bool) (v1_12 v2_0 v2_1 : Int) (v2_2 v2_3 : V) (v2_4 : Int) (v2_5 : V) (v3 : Int) (σ : H) :
  denC E D W N C113_0 (S113_0 v0 v1_0 v1_1 v1_2 v1_3 v1_4 v1_5 v1_6 v1_7 v1_8 v1_9 v1_10 v1_11 v1_12 v2_0 v2_1 v2_2 v2_3 v2_4 v2_5 v3 σ) (Fin113 E) (fun _ _ => none) (Fin113 E) = J113_0 E D W N v0 v1_0 v1_1 v1_2 v1_3 v1_4 v1_5 v1_6 v1_7 v1_8 v1_9 v1_10 v1_11 v1_12 v2_0 v2_1 v2_2 v2_3 v2_4 v2_5 v3 σ := by
  refine (P113_0 E D W N   v0 v1_0 v1_1 v1_2 v1_3 v1_4 v1_5 v1_6 v1_7 v1_8 v1_9 v1_10 v1_11 v1_12 v2_0 v2_1 v2_2 v2_3 v2_4 v2_5 v3 σ).trans ?_
  kernel_rfl
def F113 (args : List V) (σ : H) : Ans :=
 rtCons args fun x1 l2 =>
 rtCons l2 fun x3 l4 =>
 rtAgg x3 fun l5 =>
 rtCons l5 fun x6 l7 =>
 rtInt .i64 x6 fun x8 =>
 rtCons l7 fun x9 l10 =>
 rtCons l10 fun x11 l12 =>
 rtBool x11 fun x13 =>
 rtCons l12 fun x14 l15 =>
 rtBool x14 fun x16 =>
 rtCons l15 fun x17 l18 =>
 rtBool x17 fun x19 =>
 rtCons l18 fun x20 l21 =>
 rtBool x20 fun x22 =>
 rtCons l21 fun x23 l24 =>
 rtInt .i64 x23 fun x25 =>
 rtCons l24 fun x26 l27 =>
 rtInt .i64 x26 fun x28 =>
 rtCons l27 fun x29 l30 =>
 rtCons l30 fun x31 l32 =>
 rtCons l32 fun x33 l34 =>
 rtInt .i64 x33 fun x35 =>
 rtCons l34 fun x36 l37 =>
 rtBool x36 fun x38 =>
 rtCons l37 fun x39 l40 =>
 rtInt .i64 x39 fun x41 =>
 rtNil l40 (
 rtCons l4 fun x42 l43 =>
 rtAgg x42 fun l44 =>
 rtCons l44 fun x45 l46 =>
 rtInt .i64 x45 fun x47 =>
 rtCons l46 fun x48 l49 =>
 rtInt .i64 x48 fun x50 =>
 rtCons l49 fun x51 l52 =>
 rtCons l52 fun x53 l54 =>
 rtCons l54 fun x55 l56 =>
 rtInt .i64 x55 fun x57 =>
 rtCons l56 fun x58 l59 =>
 rtNil l59 (
 rtCons l43 fun x60 l61 =>
 rtInt .i64 x60 fun x62 =>
 rtNil l61 (
 J113_0 E D W N x1 x8 x9 x13 x16 x19 x22 x25 x28 x29 x31 x35 x38 x41 x47 x50 x51 x53 x57 x58 x62 σ)))
def A113 : XFn := ⟨31, [.any, (.agg [.i, .any, .bool, .bool, .bool, .bool, .i, .i, .any, .any, .i, .bool, .i]), (.agg [.i, .i, .any, .any, .i, .any]), .i], [(.tmp 8)], C113_0⟩
theorem FE113 (args : List V) (σ : H) : runX E D W N A113 args σ = F113 E D W N args σ := by
  unfold F113
  simp only [← JE113_0]
  kernel_rfl
theorem AO113 : A113.body.ok = true := by kernel_rfl

/-! ### F114: __ogham_value.checker_.fields -/
def Fin114 (E : List (Nat × Blk)) : St → Ans := fun s => resK E s [(.tmp 8)] fun l => some (oneV l, s.σ)
def C114_0 (cc1 : XC) (cc2 : XC) : XC := (.seq (.ops (.p 6 [2] (.box 26 (.t 2))<|
.c 8 (V.bool false)<|
.nil))
 (.seq (.ops (.m 13 0<|
.n 14 13<|
.f 15 0 14<|
.f 16 0 15<|
.f 17 3 16<|
.l 18 .any 17<|
.m 19 1<|
.s 20 13 18 19<|
.op (some 21) (.agg [.i, .any, .bool, .bool, .bool, .bool, .i, .i, .any, .any, .i, .bool, .i]) [20] (.load (some 13) (.t 20))<|
.pal 9 [] 139 [(V.int .i64 (Int.ofNat 0)), V.nils, (V.bool false), (V.bool false), (V.bool false), (V.bool false), (V.int .i64 (Int.ofNat 0)), (V.int .i64 (Int.ofNat 0)), V.nils, V.nils, (V.int .i64 (Int.ofNat 0)), (V.bool false), (V.int .i64 (Int.ofNat 0))]<|
.op none (.agg [.i, .any, .bool, .bool, .bool, .bool, .i, .i, .any, .any, .i, .bool, .i]) [9, 21] (.store 13 (.t 9) (.t 21))<|
.nil))
 (.seq (.seq (.ops (.op (some 22) (.agg [.i, .i, .any, .any, .i, .any]) [6] (.load (some 6) (.t 6))<|
.k 23 .bool 110 [(.t 22), (.i 12)]<|
.p 24 [23] (.un .not (.t 23))<|
.m 25 24<|
.grp 25 false (.p 26 [6, 25] (.faddr 3 (.t 6))<|
.p 27 [26, 25] (.load none (.t 26))<|
.p 28 [27, 25] (.len false (.t 27))<|
.p 29 [9, 25] (.faddr 9 (.t 9))<|
.p 30 [29, 25] (.load none (.t 29))<|
.p 31 [30, 25] (.len false (.t 30))<|
.p 32 [28, 31, 25] (.bin .neq .none (.t 28) (.t 31))<|
.nil) 33 [25, 32] (.t 25) (.con (V.bool true)) (.t 32)<|
.m 34 33<|
.grp 34 false (.p 35 [0, 34] (.mov (.t 0))<|
.p 36 [1, 34] (.mov (.t 1))<|
.op (some 37) (.agg [.i, .i, .any, .any, .i, .any]) [6, 34] (.load (some 6) (.t 6))<|
.op (some 38) .bool [35, 36, 37, 34] (.call 161 [(.t 35), (.t 36), (.t 37)])<|
.p 39 [38, 34] (.un .not (.t 38))<|
.nil) 40 [34, 39] (.t 34) (.con (V.bool true)) (.t 39)<|
.nil))
 (.cond (.tmp 40) (.seq (.ops (.c 8 (V.bool false)<|
.nil))
 .ret)
 .skip))
 (.seq (.seq (.ops (.f 41 9 9<|
.l 42 .any 41<|
.u 43 42<|
.q 44 0<|
.nil))
 (.block 0 (.loop [(0, .ptr), (1, .i), (3, .i), (6, .ptr), (42, .any), (43, .i), (44, .i)] [9] [(9, [.i, .any, .bool, .bool, .bool, .bool, .i, .i, .any, .any, .i, .bool, .i])] cc2)))
 (.keep [(0, .ptr), (1, .i), (6, .ptr)] [] [] cc1)))))
def T114_0 (E : List (Nat × Blk)) (D : Den) (W : DrawFn) (K2 : Nat → Nat → Int → Int → Nat → Nat → V → Int → Int → Int → V → Bool → Bool → Bool → Bool → Int → Int → V → V → Int → Bool → Int → H → Ans) (v0b v0o : Nat) (v1 v2_0 v2_1 : Int) (v2_2 v2_3 : V) (v2_4 : Int) (v2_5 : V) (v3 : Int) (σ : H) : Ans :=
 chk (allOne (V.cells (V.agg [(V.int .i64 v2_0), (V.int .i64 v2_1), v2_2, v2_3, (V.int .i64 v2_4), v2_5]))) (
 let s1 := newB σ (.cells (V.cells (V.agg [(V.int .i64 v2_0), (V.int .i64 v2_1), v2_2, v2_3, (V.int .i64 v2_4), v2_5])));
 ldK E s1 v0b (Nat.add v0o 3) fun u2 =>
 iaddrSK 13 u2 v1 fun b3 o4 =>
 ldnK E s1 b3 o4 13 fun l5 =>
 rtCons l5 fun x6 l7 =>
 rtInt .i64 x6 fun x8 =>
 rtCons l7 fun x9 l10 =>
 rtCons l10 fun x11 l12 =>
 rtBool x11 fun x13 =>
 rtCons l12 fun x14 l15 =>
 rtBool x14 fun x16 =>
 rtCons l15 fun x17 l18 =>
 rtBool x17 fun x19 =>
 rtCons l18 fun x20 l21 =>
 rtBool x20 fun x22 =>
 rtCons l21 fun x23 l24 =>
 rtInt .i64 x23 fun x25 =>
 rtCons l24 fun x26 l27 =>
 rtInt .i64 x26 fun x28 =>
 rtCons l27 fun x29 l30 =>
 rtCons l30 fun x31 l32 =>
 rtCons l32 fun x33 l34 =>
 rtInt .i64 x33 fun x35 =>
 rtCons l34 fun x36 l37 =>
 rtBool x36 fun x38 =>
 rtCons l37 fun x39 l40 =>
 rtInt .i64 x39 fun x41 =>
 rtNil l40 (
 chk (allOne [(V.int .i64 x8), x9, (V.bool x13), (V.bool x16), (V.bool x19), (V.bool x22), (V.int .i64 x25), (V.int .i64 x28), x29, x31, (V.int .i64 x35), (V.bool x38), (V.int .i64 x41)]) (
 ldnK E s1 (H.next σ) 0 6 fun l42 =>
 rtCons l42 fun x43 l44 =>
 rtInt .i64 x43 fun x45 =>
 rtCons l44 fun x46 l47 =>
 rtInt .i64 x46 fun x48 =>
 rtCons l47 fun x49 l50 =>
 rtCons l50 fun x51 l52 =>
 rtCons l52 fun x53 l54 =>
 rtInt .i64 x53 fun x55 =>
 rtCons l54 fun x56 l57 =>
 rtNil l57 (
 callK (D 110 [(V.agg [(V.int .i64 x45), (V.int .i64 x48), x49, x51, (V.int .i64 x55), x56]), (V.int .i64 (Int.ofNat 12))] s1) fun u58 s59 =>
 rtBool u58 fun x60 =>
 joinB (fun c61 s62 =>
 joinB (fun c64 s65 =>
 condK c64 (
 some ((V.bool false), s65)) (
 slenK x31 fun n67 =>
 K2 v0b v0o v1 v3 (H.next σ) 0 x31 (Int.ofNat n67) (Int.ofNat 0) x8 x9 x13 x16 x19 x22 x25 x28 x29 x31 x35 x38 x41 s65)) fun k66 =>
 condK c61 (
 k66 true s62) (
 ldnK E s62 (H.next σ) 0 6 fun l68 =>
 rtCons l68 fun x69 l70 =>
 rtInt .i64 x69 fun x71 =>
 rtCons l70 fun x72 l73 =>
 rtInt .i64 x72 fun x74 =>
 rtCons l73 fun x75 l76 =>
 rtCons l76 fun x77 l78 =>
 rtCons l78 fun x79 l80 =>
 rtInt .i64 x79 fun x81 =>
 rtCons l80 fun x82 l83 =>
 rtNil l83 (
 callK (D 161 [(V.ptr v0b v0o), (V.int .i64 v1), (V.agg [(V.int .i64 x71), (V.int .i64 x74), x75, x77, (V.int .i64 x81), x82])] s62) fun u84 s85 =>
 rtBool u84 fun x86 =>
 k66 (not x86) s85))) fun k63 =>
 condK (not x60) (
 k63 true s59) (
 ldK E s59 (H.next σ) 3 fun u87 =>
 slenK u87 fun n88 =>
 slenK x31 fun n89 =>
 k63 (not (eqF (Int.ofNat n88) (Int.ofNat n89))) s59)))))
def C114_1 : XC := (.seq (.ops (.m 87 0<|
.m 88 1<|
.op (some 89) (.agg [.i, .i, .any, .any, .i, .any]) [6] (.load (some 6) (.t 6))<|
.k 90 .bool 164 [(.t 87), (.t 88), (.t 89)]<|
.m 8 90<|
.nil))
 .ret)
def T114_1 (E : List (Nat × Blk)) (D : Den) (W : DrawFn) (v0b v0o : Nat) (v1 : Int) (v6b v6o : Nat) (σ : H) : Ans :=
 ldnK E σ v6b v6o 6 fun l1 =>
 rtCons l1 fun x2 l3 =>
 rtInt .i64 x2 fun x4 =>
 rtCons l3 fun x5 l6 =>
 rtInt .i64 x5 fun x7 =>
 rtCons l6 fun x8 l9 =>
 rtCons l9 fun x10 l11 =>
 rtCons l11 fun x12 l13 =>
 rtInt .i64 x12 fun x14 =>
 rtCons l13 fun x15 l16 =>
 rtNil l16 (
 callK (D 164 [(V.ptr v0b v0o), (V.int .i64 v1), (V.agg [(V.int .i64 x4), (V.int .i64 x7), x8, x10, (V.int .i64 x14), x15])] σ) fun u17 s18 =>
 rtBool u17 fun x19 =>
 some ((V.bool x19), s18))
def C114_2 (cc3 : XC) : XC := (.seq (.ops (.b 45 .lss .none (.t 44) (.t 43)<|
.nil))
 (.seq (.cond (.tmp 45) .skip
 (.exit 0))
 (.seq (.block 1 (.seq (.ops (.m 46 44<|
.s 47 11 42 44<|
.op (some 48) (.agg [.str, .i, .bool, .bool, .i, .i, .any, .any, .i, .any, .i]) [47] (.load (some 11) (.t 47))<|
.pal 11 [] 142 [(V.str ⟨0, 0⟩), (V.int .i64 (Int.ofNat 0)), (V.bool false), (V.bool false), (V.int .i64 (Int.ofNat 0)), (V.int .i64 (Int.ofNat 0)), V.nils, V.nils, (V.int .i64 (Int.ofNat 0)), V.nils, (V.int .i64 (Int.ofNat 0))]<|
.m 10 46<|
.op none (.agg [.str, .i, .bool, .bool, .i, .i, .any, .any, .i, .any, .i]) [11, 48] (.store 11 (.t 11) (.t 48))<|
.nil))
 (.seq (.ops (.f 49 3 6<|
.l 50 .any 49<|
.m 51 10<|
.s 52 6 50 51<|
.op (some 53) (.agg [.i, .i, .any, .any, .i, .any]) [52] (.load (some 6) (.t 52))<|
.pal 12 [] 26 [(V.int .i64 (Int.ofNat 0)), (V.int .i64 (Int.ofNat 0)), V.nils, V.nils, (V.int .i64 (Int.ofNat 0)), V.nils]<|
.op none (.agg [.i, .i, .any, .any, .i, .any]) [12, 53] (.store 6 (.t 12) (.t 53))<|
.nil))
 (.block 2 (.seq (.ops (.f 55 0 12<|
.l 56 .i 55<|
.b 57 .eql .none (.t 56) (.i 0)<|
.m 54 57<|
.nil))
 (.cond (.tmp 54) (.seq (.ops (.op (some 58) (.agg [.i, .i, .any, .any, .i, .any]) [12] (.load (some 6) (.t 12))<|
.k 59 .bool 119 [(.t 58)]<|
.p 60 [59] (.un .not (.t 59))<|
.m 61 60<|
.grp 61 false (.op (some 62) (.agg [.i, .any, .bool, .bool, .bool, .bool, .i, .i, .any, .any, .i, .bool, .i]) [9, 61] (.load (some 13) (.t 9))<|
.p 63 [10, 61] (.mov (.t 10))<|
.op (some 64) .bool [62, 63, 61] (.call 162 [(.t 62), (.t 63)])<|
.p 65 [64, 61] (.un .not (.t 64))<|
.nil) 66 [61, 65] (.t 61) (.con (V.bool true)) (.t 65)<|
.nil))
 (.cond (.tmp 66) (.seq (.ops (.c 8 (V.bool false)<|
.nil))
 .ret)
 .skip))
 (.seq (.ops (.m 68 0<|
.f 69 1 11<|
.l 70 .i 69<|
.op (some 71) (.agg [.i, .i, .any, .any, .i, .any]) [12] (.load (some 6) (.t 12))<|
.m 72 3<|
.b 73 .add .none (.t 72) (.i 1)<|
.k 74 .bool 63 [(.t 68), (.t 70), (.t 71), (.t 73)]<|
.p 75 [74] (.un .not (.t 74))<|
.m 76 75<|
.grp 76 false (.p 77 [11, 76] (.faddr 3 (.t 11))<|
.op (some 78) .bool [77, 76] (.load none (.t 77))<|
.p 79 [78, 76] (.mov (.t 78))<|
.grp 79 true (.op (some 80) (.agg [.i, .i, .any, .any, .i, .any]) [12, 79] (.load (some 6) (.t 12))<|
.p 81 [11, 79] (.faddr 4 (.t 11))<|
.op (some 82) (.agg [.i, .i, .any, .any, .i, .any]) [81, 79] (.load (some 6) (.t 81))<|
.op (some 83) .bool [80, 82, 79] (.call 163 [(.t 80), (.t 82)])<|
.nil) 84 [79, 83, 76] (.t 79) (.t 83) (.con (V.bool false))<|
.nil) 85 [76, 84] (.t 76) (.con (V.bool true)) (.t 84)<|
.m 67 85<|
.nil))
 (.cond (.tmp 67) (.seq (.ops (.c 8 (V.bool false)<|
.nil))
 .ret)
 .skip))))))))
 (.keep [(0, .ptr), (1, .i), (3, .i), (6, .ptr), (42, .any), (43, .i), (44, .i)] [9] [(9, [.i, .any, .bool, .bool, .bool, .bool, .i, .i, .any, .any, .i, .bool, .i])] cc3))))
def T114_2 (E : List (Nat × Blk)) (D : Den) (W : DrawFn) (K1 : Nat → Nat → Int → Nat → Nat → H → Ans) (K3 : Nat → Nat → Int → Int → Nat → Nat → V → Int → Int → Int → V → Bool → Bool → Bool → Bool → Int → Int → V → V → Int → Bool → Int → H → Ans) (v0b v0o : Nat) (v1 v3 : Int) (v6b v6o : Nat) (v42 : V) (v43 v44 r9_0 : Int) (r9_1 : V) (r9_2 r9_3 r9_4 r9_5 : Bool) (r9_6 r9_7 : Int) (r9_8 r9_9 : V) (r9_10 : Int) (r9_11 : Bool) (r9_12 : Int) (σ : H) : Ans :=
 condK (ltF v44 v43) (
 iaddrSK 11 v42 v44 fun b1 o2 =>
 ldnK E σ b1 o2 11 fun l3 =>
 rtCons l3 fun x4 l5 =>
 rtStr x4 fun x6 =>
 rtCons l5 fun x7 l8 =>
 rtInt .i64 x7 fun x9 =>
 rtCons l8 fun x10 l11 =>
 rtBool x10 fun x12 =>
 rtCons l11 fun x13 l14 =>
 rtBool x13 fun x15 =>
 rtCons l14 fun x16 l17 =>
 rtInt .i64 x16 fun x18 =>
 rtCons l17 fun x19 l20 =>
 rtInt .i64 x19 fun x21 =>
 rtCons l20 fun x22 l23 =>
 rtCons l23 fun x24 l25 =>
 rtCons l25 fun x26 l27 =>
 rtInt .i64 x26 fun x28 =>
 rtCons l27 fun x29 l30 =>
 rtCons l30 fun x31 l32 =>
 rtInt .i64 x31 fun x33 =>
 rtNil l32 (
 chk (allOne [(V.str x6), (V.int .i64 x9), (V.bool x12), (V.bool x15), (V.int .i64 x18), (V.int .i64 x21), x22, x24, (V.int .i64 x28), x29, (V.int .i64 x33)]) (
 ldK E σ v6b (Nat.add v6o 3) fun u34 =>
 iaddrSK 6 u34 v44 fun b35 o36 =>
 ldnK E σ b35 o36 6 fun l37 =>
 rtCons l37 fun x38 l39 =>
 rtInt .i64 x38 fun x40 =>
 rtCons l39 fun x41 l42 =>
 rtInt .i64 x41 fun x43 =>
 rtCons l42 fun x44 l45 =>
 rtCons l45 fun x46 l47 =>
 rtCons l47 fun x48 l49 =>
 rtInt .i64 x48 fun x50 =>
 rtCons l49 fun x51 l52 =>
 rtNil l52 (
 chk (allOne [(V.int .i64 x40), (V.int .i64 x43), x44, x46, (V.int .i64 x50), x51]) (
 condK (eqF x40 (Int.ofNat 0)) (
 callK (D 119 [(V.agg [(V.int .i64 x40), (V.int .i64 x43), x44, x46, (V.int .i64 x50), x51])] σ) fun u53 s54 =>
 rtBool u53 fun x55 =>
 joinB (fun c56 s57 =>
 condK c56 (
 some ((V.bool false), s57)) (
 K3 v0b v0o v1 v3 v6b v6o v42 v43 v44 r9_0 r9_1 r9_2 r9_3 r9_4 r9_5 r9_6 r9_7 r9_8 r9_9 r9_10 r9_11 r9_12 s57)) fun k58 =>
 condK (not x55) (
 k58 true s54) (
 callK (D 162 [(V.agg [(V.int .i64 r9_0), r9_1, (V.bool r9_2), (V.bool r9_3), (V.bool r9_4), (V.bool r9_5), (V.int .i64 r9_6), (V.int .i64 r9_7), r9_8, r9_9, (V.int .i64 r9_10), (V.bool r9_11), (V.int .i64 r9_12)]), (V.int .i64 v44)] s54) fun u59 s60 =>
 rtBool u59 fun x61 =>
 k58 (not x61) s60)) (
 callK (D 63 [(V.ptr v0b v0o), (V.int .i64 x9), (V.agg [(V.int .i64 x40), (V.int .i64 x43), x44, x46, (V.int .i64 x50), x51]), (V.int .i64 (addF .i64 v3 (Int.ofNat 1)))] σ) fun u62 s63 =>
 rtBool u62 fun x64 =>
 joinB (fun c65 s66 =>
 condK c65 (
 some ((V.bool false), s66)) (
 K3 v0b v0o v1 v3 v6b v6o v42 v43 v44 r9_0 r9_1 r9_2 r9_3 r9_4 r9_5 r9_6 r9_7 r9_8 r9_9 r9_10 r9_11 r9_12 s66)) fun k67 =>
 condK (not x64) (
 k67 true s63) (
 joinB (fun c68 s69 =>
 k67 c68 s69) fun k70 =>
 condK x15 (
 callK (D 163 [(V.agg [(V.int .i64 x40), (V.int .i64 x43), x44, x46, (V.int .i64 x50), x51]), (V.agg [(V.int .i64 x18), (V.int .i64 x21), x22, x24, (V.int .i64 x28), x29])] s63) fun u71 s72 =>
 rtBool u71 fun x73 =>
 k70 x73 s72) (
 k70 false s63)))))))) (
 K1 v0b v0o v1 v6b v6o σ)
def C114_3 : XC := (.ops (.b 86 .add .none (.t 44) (.i 1)<|
.m 44 86<|
.nil))
def T114_3 (E : List (Nat × Blk)) (D : Den) (W : DrawFn) (R2 : Nat → Nat → Int → Int → Nat → Nat → V → Int → Int → Int → V → Bool → Bool → Bool → Bool → Int → Int → V → V → Int → Bool → Int → H → Ans) (v0b v0o : Nat) (v1 v3 : Int) (v6b v6o : Nat) (v42 : V) (v43 v44 r9_0 : Int) (r9_1 : V) (r9_2 r9_3 r9_4 r9_5 : Bool) (r9_6 r9_7 : Int) (r9_8 r9_9 : V) (r9_10 : Int) (r9_11 : Bool) (r9_12 : Int) (σ : H) : Ans :=
 R2 v0b v0o v1 v3 v6b v6o v42 v43 (addF .i64 v44 (Int.ofNat 1)) r9_0 r9_1 r9_2 r9_3 r9_4 r9_5 r9_6 r9_7 r9_8 r9_9 r9_10 r9_11 r9_12 σ
def S114_0 (v0b v0o : Nat) (v1 v2_0 v2_1 : Int) (v2_2 v2_3 : V) (v2_4 : Int) (v2_5 : V) (v3 : Int) (σ : H) : St := ⟨[(0, (V.ptr v0b v0o)), (1, (V.int .i64 v1)), (2, (V.agg [(V.int .i64 v2_0), (V.int .i64 v2_1), v2_2, v2_3, (V.int .i64 v2_4), v2_5])), (3, (V.int .i64 v3))], [], [], σ⟩
def S114_1 (v0b v0o : Nat) (v1 : Int) (v6b v6o : Nat) (σ : H) : St := ⟨[(0, (V.ptr v0b v0o)), (1, (V.int .i64 v1)), (6, (V.ptr v6b v6o))], [], [], σ⟩
def S114_2 (v0b v0o : Nat) (v1 v3 : Int) (v6b v6o : Nat) (v42 : V) (v43 v44 r9_0 : Int) (r9_1 : V) (r9_2 r9_3 r9_4 r9_5 : Bool) (r9_6 r9_7 : Int) (r9_8 r9_9 : V) (r9_10 : Int) (r9_11 : Bool) (r9_12 : Int) (σ : H) : St := ⟨[(0, (V.ptr v0b v0o)), (1, (V.int .i64 v1)), (3, (V.int .i64 v3)), (6, (V.ptr v6b v6o)), (42, v42), (43, (V.int .i64 v43)), (44, (V.int .i64 v44))], [(9, (9, 0))], [(9, [(V.int .i64 r9_0), r9_1, (V.bool r9_2), (V.bool r9_3), (V.bool r9_4), (V.bool r9_5), (V.int .i64 r9_6), (V.int .i64 r9_7), r9_8, r9_9, (V.int .i64 r9_10), (V.bool r9_11), (V.int .i64 r9_12)])], σ⟩
def S114_3 (v0b v0o : Nat) (v1 v3 : Int) (v6b v6o : Nat) (v42 : V) (v43 v44 r9_0 : Int) (r9_1 : V) (r9_2 r9_3 r9_4 r9_5 : Bool) (r9_6 r9_7 : Int) (r9_8 r9_9 : V) (r9_10 : Int) (r9_11 : Bool) (r9_12 : Int) (σ : H) : St := ⟨[(0, (V.ptr v0b v0o)), (1, (V.int .i64 v1)), (3, (V.int .i64 v3)), (6, (V.ptr v6b v6o)), (42, v42), (43, (V.int .i64 v43)), (44, (V.int .i64 v44))], [(9, (9, 0))], [(9, [(V.int .i64 r9_0), r9_1, (V.bool r9_2), (V.bool r9_3), (V.bool r9_4), (V.bool r9_5), (V.int .i64 r9_6), (V.int .i64 r9_7), r9_8, r9_9, (V.int .i64 r9_10), (V.bool r9_11), (V.int .i64 r9_12)])], σ⟩
theorem P114_0 (cc1 : XC) (cc2 : XC) (v0b v0o : Nat) (v1 v2_0 v2_1 : Int) (v2_2 v2_3 : V) (v2_4 : Int) (v2_5 : V) (v3 : Int) (σ : H) :
  denC E D W N (C114_0 cc1 cc2) (S114_0 v0b v0o v1 v2_0 v2_1 v2_2 v2_3 v2_4 v2_5 v3 σ) (Fin114 E) (fun _ _ => none) (Fin114 E) =
  T114_0 E D W (fun v0b v0o v1 v3 v6b v6o v42 v43 v44 r9_0 r9_1 r9_2 r9_3 r9_4 r9_5 r9_6 r9_7 r9_8 r9_9 r9_10 r9_11 r9_12 σ => iterK (fun rec s' => denC E D W N cc2 s' (fun s'' => keepS [(0, .ptr), (1, .i), (3, .i), (6, .ptr), (42, .any), (43, .i), (44, .i)] [9] [(9, [.i, .any, .bool, .bool, .bool, .bool, .i, .i, .any, .any, .i, .bool, .i])] s'' rec) (blkK 0 (fun s' => denC E D W N (.keep [(0, .ptr), (1, .i), (6, .ptr)] [] [] cc1) s' (Fin114 E) (fun _ _ => none) (Fin114 E)) (fun _ _ => none)) (Fin114 E)) N (S114_2 v0b v0o v1 v3 v6b v6o v42 v43 v44 r9_0 r9_1 r9_2 r9_3 r9_4 r9_5 r9_6 r9_7 r9_8 r9_9 r9_10 r9_11 r9_12 σ)) v0b v0o v1 v2_0 v2_1 v2_2 v2_3 v2_4 v2_5 v3 σ := by kernel_rfl
theorem P114_1 (v0b v0o : Nat) (v1 : Int) (v6b v6o : Nat) (σ : H) :
  denC E D W N (C114_1 ) (S114_1 v0b v0o v1 v6b v6o σ) (Fin114 E) (fun _ _ => none) (Fin114 E) =
  T114_1 E D W  v0b v0o v1 v6b v6o σ := by kernel_rfl
theorem P114_2 (cc1 : XC) (cc3 : XC) (li2 : St → Ans) (v0b v0o : Nat) (v1 v3 : Int) (v6b v6o : Nat) (v42 : V) (v43 v44 r9_0 : Int) (r9_1 : V) (r9_2 r9_3 r9_4 r9_5 : Bool) (r9_6 r9_7 : Int) (r9_8 r9_9 : V) (r9_10 : Int) (r9_11 : Bool) (r9_12 : Int) (σ : H) :
  denC E D W N (C114_2 cc3) (S114_2 v0b v0o v1 v3 v6b v6o v42 v43 v44 r9_0 r9_1 r9_2 r9_3 r9_4 r9_5 r9_6 r9_7 r9_8 r9_9 r9_10 r9_11 r9_12 σ) (fun s'' => keepS [(0, .ptr), (1, .i), (3, .i), (6, .ptr), (42, .any), (43, .i), (44, .i)] [9] [(9, [.i, .any, .bool, .bool, .bool, .bool, .i, .i, .any, .any, .i, .bool, .i])] s'' li2) (blkK 0 (fun s' => denC E D W N (.keep [(0, .ptr), (1, .i), (6, .ptr)] [] [] cc1) s' (Fin114 E) (fun _ _ => none) (Fin114 E)) (fun _ _ => none)) (Fin114 E) =
  T114_2 E D W (fun v0b v0o v1 v6b v6o σ => denC E D W N cc1 (S114_1 v0b v0o v1 v6b v6o σ) (Fin114 E) (fun _ _ => none) (Fin114 E)) (fun v0b v0o v1 v3 v6b v6o v42 v43 v44 r9_0 r9_1 r9_2 r9_3 r9_4 r9_5 r9_6 r9_7 r9_8 r9_9 r9_10 r9_11 r9_12 σ => denC E D W N cc3 (S114_3 v0b v0o v1 v3 v6b v6o v42 v43 v44 r9_0 r9_1 r9_2 r9_3 r9_4 r9_5 r9_6 r9_7 r9_8 r9_9 r9_10 r9_11 r9_12 σ) (fun s'' => keepS [(0, .ptr), (1, .i), (3, .i), (6, .ptr), (42, .any), (43, .i), (44, .i)] [9] [(9, [.i, .any, .bool, .bool, .bool, .bool, .i, .i, .any, .any, .i, .bool, .i])] s'' li2) (blkK 0 (fun s' => denC E D W N (.keep [(0, .ptr), (1, .i), (6, .ptr)] [] [] cc1) s' (Fin114 E) (fun _ _ => none) (Fin114 E)) (fun _ _ => none)) (Fin114 E)) v0b v0o v1 v3 v6b v6o v42 v43 v44 r9_0 r9_1 r9_2 r9_3 r9_4 r9_5 r9_6 r9_7 r9_8 r9_9 r9_10 r9_11 r9_12 σ := by kernel_rfl
theorem P114_3 (cc1 : XC) (li2 : St → Ans) (v0b v0o : Nat) (v1 v3 : Int) (v6b v6o : Nat) (v42 : V) (v43 v44 r9_0 : Int) (r9_1 : V) (r9_2 r9_3 r9_4 r9_5 : Bool) (r9_6 r9_7 : Int) (r9_8 r9_9 : V) (r9_10 : Int) (r9_11 : Bool) (r9_12 : Int) (σ : H) :
  denC E D W N (C114_3 ) (S114_3 v0b v0o v1 v3 v6b v6o v42 v43 v44 r9_0 r9_1 r9_2 r9_3 r9_4 r9_5 r9_6 r9_7 r9_8 r9_9 r9_10 r9_11 r9_12 σ) (fun s'' => keepS [(0, .ptr), (1, .i), (3, .i), (6, .ptr), (42, .any), (43, .i), (44, .i)] [9] [(9, [.i, .any, .bool, .bool, .bool, .bool, .i, .i, .any, .any, .i, .bool, .i])] s'' li2) (blkK 0 (fun s' => denC E D W N (.keep [(0, .ptr), (1, .i), (6, .ptr)] [] [] cc1) s' (Fin114 E) (fun _ _ => none) (Fin114 E)) (fun _ _ => none)) (Fin114 E) =
  T114_3 E D W (fun v0b v0o v1 v3 v6b v6o v42 v43 v44 r9_0 r9_1 r9_2 r9_3 r9_4 r9_5 r9_6 r9_7 r9_8 r9_9 r9_10 r9_11 r9_12 σ => li2 (S114_2 v0b v0o v1 v3 v6b v6o v42 v43 v44 r9_0 r9_1 r9_2 r9_3 r9_4 r9_5 r9_6 r9_7 r9_8 r9_9 r9_10 r9_11 r9_12 σ)) v0b v0o v1 v3 v6b v6o v42 v43 v44 r9_0 r9_1 r9_2 r9_3 r9_4 r9_5 r9_6 r9_7 r9_8 r9_9 r9_10 r9_11 r9_12 σ := by kernel_rfl
def J114_1 (E : List (Nat × Blk)) (D : Den) (W : DrawFn) (N : Nat) : Nat → Nat → Int → Nat → Nat → H → Ans := T114_1 E D W 
theorem JE114_1 (v0b v0o : Nat) (v1 : Int) (v6b v6o : Nat) (σ : H) :
  denC E D W N C114_1 (S114_1 v0b v0o v1 v6b v6o σ) (Fin114 E) (fun _ _ => none) (Fin114 E) = J114_1 E D W N v0b v0o v1 v6b v6o σ := by
  refine (P114_1 E D W N   v0b v0o v1 v6b v6o σ).trans ?_
  kernel_rfl
def J114_3 (E : List (Nat × Blk)) (D : Den) (W : DrawFn) (N : Nat) (R2 : Nat → Nat → Int → Int → Nat → Nat → V → Int → Int → Int → V → Bool → Bool → Bool → Bool → Int → Int → V → V → Int → Bool → Int → H → Ans) : Nat → Nat → Int → Int → Nat → Nat → V → Int → Int → Int → V → Bool → Bool → Bool → Bool → Int → Int → V → V → Int → Bool → Int → H → Ans := T114_3 E D W R2
theorem JE114_3 (li2 : St → Ans) (v0b v0o : Nat) (v1 v3 : Int) (v6b v6o : Nat) (v42 : V) (v43 v44 r9_0 : Int) (r9_1 : V) (r9_2 r9_3 r9_4 r9_5 : Bool) (r9_6 r9_7 : Int) (r9_8 r9_9 : V) (r9_10 : Int) (r9_11 : Bool) (r9_12 : Int) (σ : H) :
  denC E D W N C114_3 (S114_3 v0b v0o v1 v3 v6b v6o v42 v43 v44 r9_0 r9_1 r9_2 r9_3 r9_4 r9_5 r9_6 r9_7 r9_8 r9_9 r9_10 r9_11 r9_12 σ) (fun s'' => keepS [(0, .ptr), (1, .i), (3, .i), (6, .ptr), (42, .any), (43, .i), (44, .i)] [9] [(9, [.i, .any, .bool, .bool, .bool, .bool, .i, .i, .any, .any, .i, .bool, .i])] s'' li2) (blkK 0 (fun s' => denC E D W N (.keep [(0, .ptr), (1, .i), (6, .ptr)] [] [] C114_1) s' (Fin114 E) (fun _ _ => none) (Fin114 E)) (fun _ _ => none)) (Fin114 E) = J114_3 E D W N (fun v0b v0o v1 v3 v6b v6o v42 v43 v44 r9_0 r9_1 r9_2 r9_3 r9_4 r9_5 r9_6 r9_7 r9_8 r9_9 r9_10 r9_11 r9_12 σ => li2 (S114_2 v0b v0o v1 v3 v6b v6o v42 v43 v44 r9_0 r9_1 r9_2 r9_3 r9_4 r9_5 r9_6 r9_7 r9_8 r9_9 r9_10 r9_11 r9_12 σ)) v0b v0o v1 v3 v6b v6o v42 v43 v44 r9_0 r9_1 r9_2 r9_3 r9_4 r9_5 r9_6 r9_7 r9_8 r9_9 r9_10 r9_11 r9_12 σ := by
  refine (P114_3 E D W N C114_1 li2 v0b v0o v1 v3 v6b v6o v42 v43 v44 r9_0 r9_1 r9_2 r9_3 r9_4 r9_5 r9_6 r9_7 r9_8 r9_9 r9_10 r9_11 r9_12 σ).trans ?_
  kernel_rfl
def L114_2 (n : Nat) : Nat → Nat → Int → Int → Nat → Nat → V → Int → Int → Int → V → Bool → Bool → Bool → Bool → Int → Int → V → V → Int → Bool → Int → H → Ans :=
  Nat.rec (fun _ _ _ _ _ _ _ _ _ _ _ _ _ _ _ _ _ _ _ _ _ _ _ => none) (fun _ ih => T114_2 E D W (J114_1 E D W N ) (J114_3 E D W N ih)) n
theorem LE114_2 (n : Nat) : ∀ (v0b v0o : Nat) (v1 v3 : Int) (v6b v6o : Nat) (v42 : V) (v43 v44 r9_0 : Int) (r9_1 : V) (r9_2 r9_3 r9_4 r9_5 : Bool) (r9_6 r9_7 : Int) (r9_8 r9_9 : V) (r9_10 : Int) (r9_11 : Bool) (r9_12 : Int) (σ : H),
  iterK (fun rec s' => denC E D W N (C114_2 C114_3) s' (fun s'' => keepS [(0, .ptr), (1, .i), (3, .i), (6, .ptr), (42, .any), (43, .i), (44, .i)] [9] [(9, [.i, .any, .bool, .bool, .bool, .bool, .i, .i, .any, .any, .i, .bool, .i])] s'' rec) (blkK 0 (fun s' => denC E D W N (.keep [(0, .ptr), (1, .i), (6, .ptr)] [] [] C114_1) s' (Fin114 E) (fun _ _ => none) (Fin114 E)) (fun _ _ => none)) (Fin114 E)) n (S114_2 v0b v0o v1 v3 v6b v6o v42 v43 v44 r9_0 r9_1 r9_2 r9_3 r9_4 r9_5 r9_6 r9_7 r9_8 r9_9 r9_10 r9_11 r9_12 σ) = L114_2 E D W N n v0b v0o v1 v3 v6b v6o v42 v43 v44 r9_0 r9_1 r9_2 r9_3 r9_4 r9_5 r9_6 r9_7 r9_8 r9_9 r9_10 r9_11 r9_12 σ := by
  induction n with
  | zero => intro v0b v0o v1 v3 v6b v6o v42 v43 v44 r9_0 r9_1 r9_2 r9_3 r9_4 r9_5 r9_6 r9_7 r9_8 r9_9 r9_10 r9_11 r9_12 σ; rfl
  | succ n ihn =>
    intro v0b v0o v1 v3 v6b v6o v42 v43 v44 r9_0 r9_1 r9_2 r9_3 r9_4 r9_5 r9_6 r9_7 r9_8 r9_9 r9_10 r9_11 r9_12 σ
    rw [iterK_succ]
    refine (P114_2 E D W N C114_1 C114_3 (iterK (fun rec s' => denC E D W N (C114_2 C114_3) s' (fun s'' => keepS [(0, .ptr), (1, .i), (3, .i), (6, .ptr), (42, .any), (43, .i), (44, .i)] [9] [(9, [.i, .any, .bool, .bool, .bool, .bool, .i, .i, .any, .any, .i, .bool, .i])] s'' rec) (blkK 0 (fun s' => denC E D W N (.keep [(0, .ptr), (1, .i), (6, .ptr)] [] [] C114_1) s' (Fin114 E) (fun _ _ => none) (Fin114 E)) (fun _ _ => none)) (Fin114 E)) n) v0b v0o v1 v3 v6b v6o v42 v43 v44 r9_0 r9_1 r9_2 r9_3 r9_4 r9_5 r9_6 r9_7 r9_8 r9_9 r9_10 r9_11 r9_12 σ).trans ?_
    simp only [ihn, JE114_1, JE114_3]
    kernel_rfl
def J114_0 : Nat → Nat → Int → Int → Int → V → V → Int → V → Int → H → Ans := T114_0 E D W (L114_2 E D W N N)
theorem JE114_0 (v0b v0o : Nat) (v1 v2_0 v2_1 : Int) (v2_2 v2_3 : V) (v2_4 : Int) (v2_5 : V) (v3 : Int) (σ : H) :
  denC E D W N (C114_0 C114_1 (C114_2 C114_3)) (S114_0 v0b v0o v1 v2_0 v2_1 v2_2 v2_3 v2_4 v2_5 v3 σ) (Fin114 E) (fun _ _ => none) (Fin114 E) = J114_0 E D W N v0b v0o v1 v2_0 v2_1 v2_2 v2_3 v2_4 v2_5 v3 σ := by
  refine (P114_0 E D W N C114_1 (C114_2 C114_3)  v0b v0o v1 v2_0 v2_1 v2_2 v2_3 v2_4 v2_5 v3 σ).trans ?_
  simp only [LE114_2]
  kernel_rfl
def F114 (args : List V) (σ : H) : Ans :=
 rtCons args fun x1 l2 =>
 rtPtr x1 fun b3 o4 =>
 rtCons l2 fun x5 l6 =>
 rtInt .i64 x5 fun x7 =>
 rtCons l6 fun x8 l9 =>
 rtAgg x8 fun l10 =>
 rtCons l10 fun x11 l12 =>
 rtInt .i64 x11 fun x13 =>
 rtCons l12 fun x14 l15 =>
 rtInt .i64 x14 fun x16 =>
 rtCons l15 fun x17 l18 =>
 rtCons l18 fun x19 l20 =>
 rtCons l20 fun x21 l22 =>
 rtInt .i64 x21 fun x23 =>
 rtCons l22 fun x24 l25 =>
 rtNil l25 (
 rtCons l9 fun x26 l27 =>
 rtInt .i64 x26 fun x28 =>
 rtNil l27 (
 J114_0 E D W N b3 o4 x7 x13 x16 x17 x19 x23 x24 x28 σ))
def A114 : XFn := ⟨91, [.ptr, .i, (.agg [.i, .i, .any, .any, .i, .any]), .i], [(.tmp 8)], (C114_0 C114_1 (C114_2 C114_3))⟩
theorem FE114 (args : List V) (σ : H) : runX E D W N A114 args σ = F114 E D W N args σ := by
  unfold F114
  simp only [← JE114_0]
  kernel_rfl
theorem AO114 : A114.body.ok = true := by kernel_rfl

/-! ### F115: slices.IndexFunc___ogham_api.Value_ogham_api.Value_ -/
def Fin115 (E : List (Nat × Blk)) : St → Ans := fun s => resK E s [(.tmp 4)] fun l => some (oneV l, s.σ)
def C115_0 (cc1 : XC) (cc2 : XC) : XC := (.seq (.ops (.q 4 0<|
.nil))
 (.seq (.seq (.ops (.m 6 0<|
.u 7 6<|
.q 8 0<|
.nil))
 (.block 0 (.loop [(0, .any), (1, .any), (7, .i), (8, .i)] [] [] cc2)))
 (.keep [] [] [] cc1)))
def T115_0 (E : List (Nat × Blk)) (D : Den) (W : DrawFn) (K2 : V → V → Int → Int → H → Ans) (v0 v1 : V) (σ : H) : Ans :=
 slenK v0 fun n1 =>
 K2 v0 v1 (Int.ofNat n1) (Int.ofNat 0) σ
def C115_1 : XC := (.seq (.ops (.c 4 (V.int .i64 (Int.negSucc 0))<|
.nil))
 .ret)
def T115_1 (E : List (Nat × Blk)) (D : Den) (W : DrawFn) (σ : H) : Ans :=
 some ((V.int .i64 (Int.negSucc 0)), σ)
def C115_2 : XC := (.seq (.ops (.b 9 .lss .none (.t 8) (.t 7)<|
.nil))
 (.seq (.cond (.tmp 9) .skip
 (.exit 0))
 (.seq (.block 1 (.seq (.ops (.m 10 8<|
.m 5 10<|
.nil))
 (.seq (.ops (.m 11 1<|
.m 12 0<|
.m 13 5<|
.s 14 6 12 13<|
.op (some 15) (.agg [.i, .i, .any, .any, .i, .any]) [14] (.load (some 6) (.t 14))<|
.op (some 16) .bool [11, 15] (.callv (.t 11) [(.t 15)])<|
.nil))
 (.cond (.tmp 16) (.seq (.ops (.m 17 5<|
.m 4 17<|
.nil))
 .ret)
 .skip))))
 (.ops (.b 18 .add .none (.t 8) (.i 1)<|
.m 8 18<|
.nil)))))
def T115_2 (E : List (Nat × Blk)) (D : Den) (W : DrawFn) (K1 : H → Ans) (R2 : V → V → Int → Int → H → Ans) (v0 v1 : V) (v7 v8 : Int) (σ : H) : Ans :=
 condK (ltF v8 v7) (
 iaddrSK 6 v0 v8 fun b1 o2 =>
 ldnK E σ b1 o2 6 fun l3 =>
 rtCons l3 fun x4 l5 =>
 rtInt .i64 x4 fun x6 =>
 rtCons l5 fun x7 l8 =>
 rtInt .i64 x7 fun x9 =>
 rtCons l8 fun x10 l11 =>
 rtCons l11 fun x12 l13 =>
 rtCons l13 fun x14 l15 =>
 rtInt .i64 x14 fun x16 =>
 rtCons l15 fun x17 l18 =>
 rtNil l18 (
 callvK D v1 [(V.agg [(V.int .i64 x6), (V.int .i64 x9), x10, x12, (V.int .i64 x16), x17])] σ fun u19 s20 =>
 rtBool u19 fun x21 =>
 condK x21 (
 some ((V.int .i64 v8), s20)) (
 R2 v0 v1 v7 (addF .i64 v8 (Int.ofNat 1)) s20))) (
 K1 σ)
def S115_0 (v0 v1 : V) (σ : H) : St := ⟨[(0, v0), (1, v1)], [], [], σ⟩
def S115_1 (σ : H) : St := ⟨[], [], [], σ⟩
def S115_2 (v0 v1 : V) (v7 v8 : Int) (σ : H) : St := ⟨[(0, v0), (1, v1), (7, (V.int .i64 v7)), (8, (V.int .i64 v8))], [], [], σ⟩
theorem P115_0 (cc1 : XC) (cc2 : XC) (v0 v1 : V) (σ : H) :
  denC E D W N (C115_0 cc1 cc2) (S115_0 v0 v1 σ) (Fin115 E) (fun _ _ => none) (Fin115 E) =
  T115_0 E D W (fun v0 v1 v7 v8 σ => iterK (fun rec s' => denC E D W N cc2 s' (fun s'' => keepS [(0, .any), (1, .any), (7, .i), (8, .i)] [] [] s'' rec) (blkK 0 (fun s' => denC E D W N (.keep [] [] [] cc1) s' (Fin115 E) (fun _ _ => none) (Fin115 E)) (fun _ _ => none)) (Fin115 E)) N (S115_2 v0 v1 v7 v8 σ)) v0 v1 σ := by kernel_rfl
theorem P115_1 (σ : H) :
  denC E D W N (C115_1 ) (S115_1 σ) (Fin115 E) (fun _ _ => none) (Fin115 E) =
  T115_1 E D W   σ := by kernel_rfl
theorem P115_2 (cc1 : XC) (li2 : St → Ans) (v0 v1 : V) (v7 v8 : Int) (σ : H) :
  denC E D W N (C115_2 ) (S115_2 v0 v1 v7 v8 σ) (fun s'' => keepS [(0, .any), (1, .any), (7, .i), (8, .i)] [] [] s'' li2) (blkK 0 (fun s' => denC E D W N (.keep [] [] [] cc1) s' (Fin115 E) (fun _ _ => none) (Fin115 E)) (fun _ _ => none)) (Fin115 E) =
  T115_2 E D W (fun  σ => denC E D W N cc1 (S115_1 σ) (Fin115 E) (fun _ _ => none) (Fin115 E)) (fun v0 v1 v7 v8 σ => li2 (S115_2 v0 v1 v7 v8 σ)) v0 v1 v7 v8 σ := by kernel_rfl
def J115_1 (E : List (Nat × Blk)) (D : Den) (W : DrawFn) (N : Nat) : H → Ans := T115_1 E D W 
theorem JE115_1 (σ : H) :
  denC E D W N C115_1 (S115_1 σ) (Fin115 E) (fun _ _ => none) (Fin115 E) = J115_1 E D W N  σ := by
  refine (P115_1 E D W N    σ).trans ?_
  kernel_rfl
def L115_2 (n : Nat) : V → V → Int → Int → H → Ans :=
  Nat.rec (fun _ _ _ _ _ => none) (fun _ ih => T115_2 E D W (J115_1 E D W N ) ih) n
theorem LE115_2 (n : Nat) : ∀ (v0 v1 : V) (v7 v8 : Int) (σ : H),
  iterK (fun rec s' => denC E D W N C115_2 s' (fun s'' => keepS [(0, .any), (1, .any), (7, .i), (8, .i)] [] [] s'' rec) (blkK 0 (fun s' => denC E D W N (.keep [] [] [] C115_1) s' (Fin115 E) (fun _ _ => none) (Fin115 E)) (fun _ _ => none)) (Fin115 E)) n (S115_2 v0 v1 v7 v8 σ) = L115_2 E D W N n v0 v1 v7 v8 σ := by
  induction n with
  | zero => intro v0 v1 v7 v8 σ; rfl
  | succ n ihn =>
    intro v0 v1 v7 v8 σ
    rw [iterK_succ]
    refine (P115_2 E D W N C115_1 (iterK (fun rec s' => denC E D W N C115_2 s' (fun s'' => keepS [(0, .any), (1, .any), (7, .i), (8, .i)] [] [] s'' rec) (blkK 0 (fun s' => denC E D W N (.keep [] [] [] C115_1) s' (Fin115 E) (fun _ _ => none) (Fin115 E)) (fun _ _ => none)) (Fin115 E)) n) v0 v1 v7 v8 σ).trans ?_
    simp only [ihn, JE115_1]
    kernel_rfl
def J115_0 : V → V → H → Ans := T115_0 E D W (L115_2 E D W N N)
theorem JE115_0 (v0 v1 : V) (σ : H) :
  denC E D W N (C115_0 C115_1 C115_2) (S115_0 v0 v1 σ) (Fin115 E) (fun _ _ => none) (Fin115 E) = J115_0 E D W N v0 v1 σ := by
  refine (P115_0 E D W N C115_1 C115_2  v0 v1 σ).trans ?_
  simp only [LE115_2]
  kernel_rfl
def F115 (args : List V) (σ : H) : Ans :=
 rtCons args fun x1 l2 =>
 rtCons l2 fun x3 l4 =>
 rtNil l4 (
 J115_0 E D W N x1 x3 σ)
def A115 : XFn := ⟨19, [.any, .any], [(.tmp 4)], (C115_0 C115_1 C115_2)⟩
theorem FE115 (args : List V) (σ : H) : runX E D W N A115 args σ = F115 E D W N args σ := by
  unfold F115
  simp only [← JE115_0]
  kernel_rfl
theorem AO115 : A115.body.ok = true := by kernel_rfl

/-! ### F116: ogham_octets.Join -/
def Fin116 (E : List (Nat × Blk)) : St → Ans := fun s => resK E s [(.tmp 2)] fun l => some (oneV l, s.σ)
def C116_0 (cc1 : XC) (cc2 : XC) : XC := (.seq (.ops (.c 2 V.nils<|
.nil))
 (.seq (.ops (.c 3 V.nils<|
.nil))
 (.seq (.seq (.ops (.m 6 0<|
.u 7 6<|
.q 8 0<|
.nil))
 (.block 0 (.loop [(3, .any), (6, .any), (7, .i), (8, .i)] [] [] cc2)))
 (.keep [(3, .any)] [] [] cc1))))
def T116_0 (E : List (Nat × Blk)) (D : Den) (W : DrawFn) (K2 : V → V → Int → Int → H → Ans) (v0 : V) (σ : H) : Ans :=
 slenK v0 fun n1 =>
 K2 V.nils v0 (Int.ofNat n1) (Int.ofNat 0) σ
def C116_1 : XC := (.seq (.ops (.m 16 3<|
.m 2 16<|
.nil))
 .ret)
def T116_1 (E : List (Nat × Blk)) (D : Den) (W : DrawFn) (v3 : V) (σ : H) : Ans :=
 some (v3, σ)
def C116_2 : XC := (.seq (.ops (.b 9 .lss .none (.t 8) (.t 7)<|
.nil))
 (.seq (.cond (.tmp 9) .skip
 (.exit 0))
 (.seq (.block 1 (.seq (.ops (.s 10 1 6 8<|
.l 11 .any 10<|
.m 5 11<|
.nil))
 (.ops (.m 12 3<|
.m 13 5<|
.op (some 14) .one [12, 13] (.append 5 1 1 (.t 12) (.t 13))<|
.m 3 14<|
.nil))))
 (.ops (.b 15 .add .none (.t 8) (.i 1)<|
.m 8 15<|
.nil)))))
def T116_2 (E : List (Nat × Blk)) (D : Den) (W : DrawFn) (K1 : V → H → Ans) (R2 : V → V → Int → Int → H → Ans) (v3 v6 : V) (v7 v8 : Int) (σ : H) : Ans :=
 condK (ltF v8 v7) (
 iaddrSK 1 v6 v8 fun b1 o2 =>
 ldK E σ b1 o2 fun u3 =>
 appK E 1 1 v3 u3 σ fun u4 s5 =>
 rtOne u4 (
 R2 u4 v6 v7 (addF .i64 v8 (Int.ofNat 1)) s5)) (
 K1 v3 σ)
def S116_0 (v0 : V) (σ : H) : St := ⟨[(0, v0)], [], [], σ⟩
def S116_1 (v3 : V) (σ : H) : St := ⟨[(3, v3)], [], [], σ⟩
def S116_2 (v3 v6 : V) (v7 v8 : Int) (σ : H) : St := ⟨[(3, v3), (6, v6), (7, (V.int .i64 v7)), (8, (V.int .i64 v8))], [], [], σ⟩
theorem P116_0 (cc1 : XC) (cc2 : XC) (v0 : V) (σ : H) :
  denC E D W N (C116_0 cc1 cc2) (S116_0 v0 σ) (Fin116 E) (fun _ _ => none) (Fin116 E) =
  T116_0 E D W (fun v3 v6 v7 v8 σ => iterK (fun rec s' => denC E D W N cc2 s' (fun s'' => keepS [(3, .any), (6, .any), (7, .i), (8, .i)] [] [] s'' rec) (blkK 0 (fun s' => denC E D W N (.keep [(3, .any)] [] [] cc1) s' (Fin116 E) (fun _ _ => none) (Fin116 E)) (fun _ _ => none)) (Fin116 E)) N (S116_2 v3 v6 v7 v8 σ)) v0 σ := by kernel_rfl
theorem P116_1 (v3 : V) (σ : H) :
  denC E D W N (C116_1 ) (S116_1 v3 σ) (Fin116 E) (fun _ _ => none) (Fin116 E) =
  T116_1 E D W  v3 σ := by kernel_rfl
theorem P116_2 (cc1 : XC) (li2 : St → Ans) (v3 v6 : V) (v7 v8 : Int) (σ : H) :
  denC E D W N (C116_2 ) (S116_2 v3 v6 v7 v8 σ) (fun s'' => keepS [(3, .any), (6, .any), (7, .i), (8, .i)] [] [] s'' li2) (blkK 0 (fun s' => denC E D W N (.keep [(3, .any)] [] [] cc1) s' (Fin116 E) (fun _ _ => none) (Fin116 E)) (fun _ _ => none)) (Fin116 E) =
  T116_2 E D W (fun v3 σ => denC E D W N cc1 (S116_1 v3 σ) (Fin116 E) (fun _ _ => none) (Fin116 E)) (fun v3 v6 v7 v8 σ => li2 (S116_2 v3 v6 v7 v8 σ)) v3 v6 v7 v8 σ := by kernel_rfl
def J116_1 (E : List (Nat × Blk)) (D : Den) (W : DrawFn) (N : Nat) : V → H → Ans := T116_1 E D W 
theorem JE116_1 (v3 : V) (σ : H) :
  denC E D W N C116_1 (S116_1 v3 σ) (Fin116 E) (fun _ _ => none) (Fin116 E) = J116_1 E D W N v3 σ := by
  refine (P116_1 E D W N   v3 σ).trans ?_
  kernel_rfl
def L116_2 (n : Nat) : V → V → Int → Int → H → Ans :=
  Nat.rec (fun _ _ _ _ _ => none) (fun _ ih => T116_2 E D W (J116_1 E D W N ) ih) n
theorem LE116_2 (n : Nat) : ∀ (v3 v6 : V) (v7 v8 : Int) (σ : H),
  iterK (fun rec s' => denC E D W N C116_2 s' (fun s'' => keepS [(3, .any), (6, .any), (7, .i), (8, .i)] [] [] s'' rec) (blkK 0 (fun s' => denC E D W N (.keep [(3, .any)] [] [] C116_1) s' (Fin116 E) (fun _ _ => none) (Fin116 E)) (fun _ _ => none)) (Fin116 E)) n (S116_2 v3 v6 v7 v8 σ) = L116_2 E D W N n v3 v6 v7 v8 σ := by
  induction n with
  | zero => intro v3 v6 v7 v8 σ; rfl
  | succ n ihn =>
    intro v3 v6 v7 v8 σ
    rw [iterK_succ]
    refine (P116_2 E D W N C116_1 (iterK (fun rec s' => denC E D W N C116_2 s' (fun s'' => keepS [(3, .any), (6, .any), (7, .i), (8, .i)] [] [] s'' rec) (blkK 0 (fun s' => denC E D W N (.keep [(3, .any)] [] [] C116_1) s' (Fin116 E) (fun _ _ => none) (Fin116 E)) (fun _ _ => none)) (Fin116 E)) n) v3 v6 v7 v8 σ).trans ?_
    simp only [ihn, JE116_1]
    kernel_rfl
def J116_0 : V → H → Ans := T116_0 E D W (L116_2 E D W N N)
theorem JE116_0 (v0 : V) (σ : H) :
  denC E D W N (C116_0 C116_1 C116_2) (S116_0 v0 σ) (Fin116 E) (fun _ _ => none) (Fin116 E) = J116_0 E D W N v0 σ := by
  refine (P116_0 E D W N C116_1 C116_2  v0 σ).trans ?_
  simp only [LE116_2]
  kernel_rfl
def F116 (args : List V) (σ : H) : Ans :=
 rtCons args fun x1 l2 =>
 rtNil l2 (
 J116_0 E D W N x1 σ)
def A116 : XFn := ⟨17, [.any], [(.tmp 2)], (C116_0 C116_1 C116_2)⟩
theorem FE116 (args : List V) (σ : H) : runX E D W N A116 args σ = F116 E D W N args σ := by
  unfold F116
  simp only [← JE116_0]
  kernel_rfl
theorem AO116 : A116.body.ok = true := by kernel_rfl

/-! ### F117: ogham_tlv.Element -/
def Fin117 (E : List (Nat × Blk)) : St → Ans := fun s => resK E s [(.tmp 6)] fun l => some (oneV l, s.σ)
def C117_0 : XC := (.seq (.ops (.p 3 [0] (.box 45 (.t 0))<|
.c 6 V.nils<|
.nil))
 (.seq (.ops (.m 8 2<|
.k 9 .one 116 [(.t 8)]<|
.m 7 9<|
.nil))
 (.seq (.ops (.op (some 10) (.agg [.i, .i]) [3] (.load (some 2) (.t 3))<|
.m 11 1<|
.m 12 7<|
.u 13 12<|
.k 14 .one 165 [(.t 10), (.t 11), (.t 13)]<|
.m 15 7<|
.p 16 [14, 15] (.buildSlice 22 2 [V.nils, V.nils] [(0, 1, (.t 14)), (1, 1, (.t 15))])<|
.k 17 .one 116 [(.t 16)]<|
.m 6 17<|
.nil))
 .ret)))
def T117_0 (E : List (Nat × Blk)) (D : Den) (W : DrawFn) (v0_0 v0_1 : Int) (v1 : Bool) (v2 : V) (σ : H) : Ans :=
 chk (allOne (V.cells (V.agg [(V.int .i64 v0_0), (V.int .i64 v0_1)]))) (
 let s1 := newB σ (.cells (V.cells (V.agg [(V.int .i64 v0_0), (V.int .i64 v0_1)])));
 callK (D 116 [v2] s1) fun u2 s3 =>
 rtOne u2 (
 ldnK E s3 (H.next σ) 0 2 fun l4 =>
 rtCons l4 fun x5 l6 =>
 rtInt .i64 x5 fun x7 =>
 rtCons l6 fun x8 l9 =>
 rtInt .i64 x8 fun x10 =>
 rtNil l9 (
 slenK u2 fun n11 =>
 callK (D 165 [(V.agg [(V.int .i64 x7), (V.int .i64 x10)]), (V.bool v1), (V.int .i64 (Int.ofNat n11))] s3) fun u12 s13 =>
 rtOne u12 (
 fillK [(0, 1, u12), (1, 1, u2)] [V.nils, V.nils] fun l14 =>
 chk (allOne l14) (
 let s15 := newB s13 (.cells l14);
 callK (D 116 [(V.sl (H.next s13) 0 2 (.ex 2))] s15) fun u16 s17 =>
 rtOne u16 (
 some (u16, s17)))))))
def S117_0 (v0_0 v0_1 : Int) (v1 : Bool) (v2 : V) (σ : H) : St := ⟨[(0, (V.agg [(V.int .i64 v0_0), (V.int .i64 v0_1)])), (1, (V.bool v1)), (2, v2)], [], [], σ⟩
theorem P117_0 (v0_0 v0_1 : Int) (v1 : Bool) (v2 : V) (σ : H) :
  denC E D W N (C117_0 ) (S117_0 v0_0 v0_1 v1 v2 σ) (Fin117 E) (fun _ _ => none) (Fin117 E) =
  T117_0 E D W  v0_0 v0_1 v1 v2 σ := by kernel_rfl
def J117_0 (E : List (Nat × Blk)) (D : Den) (W : DrawFn) (N : Nat) : Int → Int → Bool → V → H → Ans := T117_0 E D W 
theorem JE117_0 (v0_0 v0_1 : Int) (v1 : Bool) (v2 : V) (σ : H) :
  denC E D W N C117_0 (S117_0 v0_0 v0_1 v1 v2 σ) (Fin117 E) (fun _ _ => none) (Fin117 E) = J117_0 E D W N v0_0 v0_1 v1 v2 σ := by
  refine (P117_0 E D W N   v0_0 v0_1 v1 v2 σ).trans ?_
  kernel_rfl
def F117 (args : List V) (σ : H) : Ans :=
 rtCons args fun x1 l2 =>
 rtAgg x1 fun l3 =>
 rtCons l3 fun x4 l5 =>
 rtInt .i64 x4 fun x6 =>
 rtCons l5 fun x7 l8 =>
 rtInt .i64 x7 fun x9 =>
 rtNil l8 (
 rtCons l2 fun x10 l11 =>
 rtBool x10 fun x12 =>
 rtCons l11 fun x13 l14 =>
 rtNil l14 (
 J117_0 E D W N x6 x9 x12 x13 σ))
def A117 : XFn := ⟨18, [(.agg [.i, .i]), .bool, .any], [(.tmp 6)], C117_0⟩
theorem FE117 (args : List V) (σ : H) : runX E D W N A117 args σ = F117 E D W N args σ := by
  unfold F117
  simp only [← JE117_0]
  kernel_rfl
theorem AO117 : A117.body.ok = true := by kernel_rfl

/-! ### F118: ogham_octets.octets -/
def Fin118 (E : List (Nat × Blk)) : St → Ans := fun s => resK E s [(.tmp 4)] fun l => some (oneV l, s.σ)
def C118_0 (cc1 : XC) (cc2 : XC) : XC := (.seq (.ops (.c 4 V.nils<|
.nil))
 (.seq (.ops (.m 7 1<|
.p 8 [7, 7] (.mkslice 5 1 1 [(V.int .u8 (Int.ofNat 0))] (.t 7) (.t 7))<|
.m 5 8<|
.nil))
 (.seq (.seq (.ops (.m 9 1<|
.q 10 0<|
.nil))
 (.block 0 (.loop [(0, (.int .u64)), (1, .i), (5, .any), (9, .i), (10, .i)] [] [] cc2)))
 (.keep [(5, .any)] [] [] cc1))))
def T118_0 (E : List (Nat × Blk)) (D : Den) (W : DrawFn) (K2 : Int → Int → V → Int → Int → H → Ans) (v0 v1 : Int) (σ : H) : Ans :=
 nnK v1 fun n1 =>
 nnK v1 fun n2 =>
 chk (Nat.ble n1 n2 && Nat.ble (n2 * 1) 281474976710656 && Nat.ble n2 1000000000000) (
 let s3 := newB σ (.cells (List.replicate n2 [(V.int .u8 (Int.ofNat 0))]).flatten);
 K2 v0 v1 (V.sl (H.next σ) 0 n1 (.ex n2)) v1 (Int.ofNat 0) s3)
def C118_1 : XC := (.seq (.ops (.m 25 5<|
.m 4 25<|
.nil))
 .ret)
def T118_1 (E : List (Nat × Blk)) (D : Den) (W : DrawFn) (v5 : V) (σ : H) : Ans :=
 some (v5, σ)
def C118_2 : XC := (.seq (.ops (.b 11 .lss .none (.t 10) (.t 9)<|
.nil))
 (.seq (.cond (.tmp 11) .skip
 (.exit 0))
 (.seq (.block 1 (.seq (.ops (.m 12 10<|
.m 6 12<|
.nil))
 (.ops (.m 13 5<|
.m 14 6<|
.m 15 0<|
.m 16 1<|
.b 17 .sub .none (.t 16) (.i 1)<|
.m 18 6<|
.b 19 .sub .none (.t 17) (.t 18)<|
.b 20 .mul .none (.i 8) (.t 19)<|
.b 21 .shr .none (.t 15) (.t 20)<|
.p 22 [21] (.conv (.toInt .u8) (.t 21))<|
.s 23 1 13 14<|
.w 1 23 22<|
.nil))))
 (.ops (.b 24 .add .none (.t 10) (.i 1)<|
.m 10 24<|
.nil)))))
def T118_2 (E : List (Nat × Blk)) (D : Den) (W : DrawFn) (K1 : V → H → Ans) (R2 : Int → Int → V → Int → Int → H → Ans) (v0 v1 : Int) (v5 : V) (v9 v10 : Int) (σ : H) : Ans :=
 condK (ltF v10 v9) (
 nnK (mulF .i64 (Int.ofNat 8) (subF .i64 (subF .i64 v1 (Int.ofNat 1)) v10)) fun n1 =>
 iaddrSK 1 v5 v10 fun b2 o3 =>
 stK 1 b2 o3 (V.int .u8 (wrapF .u8 (shrF .u64 v0 n1))) σ fun s4 =>
 R2 v0 v1 v5 v9 (addF .i64 v10 (Int.ofNat 1)) s4) (
 K1 v5 σ)
def S118_0 (v0 v1 : Int) (σ : H) : St := ⟨[(0, (V.int .u64 v0)), (1, (V.int .i64 v1))], [], [], σ⟩
def S118_1 (v5 : V) (σ : H) : St := ⟨[(5, v5)], [], [], σ⟩
def S118_2 (v0 v1 : Int) (v5 : V) (v9 v10 : Int) (σ : H) : St := ⟨[(0, (V.int .u64 v0)), (1, (V.int .i64 v1)), (5, v5), (9, (V.int .i64 v9)), (10, (V.int .i64 v10))], [], [], σ⟩
theorem P118_0 (cc1 : XC) (cc2 : XC) (v0 v1 : Int) (σ : H) :
  denC E D W N (C118_0 cc1 cc2) (S118_0 v0 v1 σ) (Fin118 E) (fun _ _ => none) (Fin118 E) =
  T118_0 E D W (fun v0 v1 v5 v9 v10 σ => iterK (fun rec s' => denC E D W N cc2 s' (fun s'' => keepS [(0, (.int .u64)), (1, .i), (5, .any), (9, .i), (10, .i)] [] [] s'' rec) (blkK 0 (fun s' => denC E D W N (.keep [(5, .any)] [] [] cc1) s' (Fin118 E) (fun _ _ => none) (Fin118 E)) (fun _ _ => none)) (Fin118 E)) N (S118_2 v0 v1 v5 v9 v10 σ)) v0 v1 σ := by kernel_rfl
theorem P118_1 (v5 : V) (σ : H) :
  denC E D W N (C118_1 ) (S118_1 v5 σ) (Fin118 E) (fun _ _ => none) (Fin118 E) =
  T118_1 E D W  v5 σ := by kernel_rfl
theorem P118_2 (cc1 : XC) (li2 : St → Ans) (v0 v1 : Int) (v5 : V) (v9 v10 : Int) (σ : H) :
  denC E D W N (C118_2 ) (S118_2 v0 v1 v5 v9 v10 σ) (fun s'' => keepS [(0, (.int .u64)), (1, .i), (5, .any), (9, .i), (10, .i)] [] [] s'' li2) (blkK 0 (fun s' => denC E D W N (.keep [(5, .any)] [] [] cc1) s' (Fin118 E) (fun _ _ => none) (Fin118 E)) (fun _ _ => none)) (Fin118 E) =
  T118_2 E D W (fun v5 σ => denC E D W N cc1 (S118_1 v5 σ) (Fin118 E) (fun _ _ => none) (Fin118 E)) (fun v0 v1 v5 v9 v10 σ => li2 (S118_2 v0 v1 v5 v9 v10 σ)) v0 v1 v5 v9 v10 σ := by kernel_rfl
def J118_1 (E : List (Nat × Blk)) (D : Den) (W : DrawFn) (N : Nat) : V → H → Ans := T118_1 E D W 
theorem JE118_1 (v5 : V) (σ : H) :
  denC E D W N C118_1 (S118_1 v5 σ) (Fin118 E) (fun _ _ => none) (Fin118 E) = J118_1 E D W N v5 σ := by
  refine (P118_1 E D W N   v5 σ).trans ?_
  kernel_rfl
def L118_2 (n : Nat) : Int → Int → V → Int → Int → H → Ans :=
  Nat.rec (fun _ _ _ _ _ _ => none) (fun _ ih => T118_2 E D W (J118_1 E D W N ) ih) n
theorem LE118_2 (n : Nat) : ∀ (v0 v1 : Int) (v5 : V) (v9 v10 : Int) (σ : H),
  iterK (fun rec s' => denC E D W N C118_2 s' (fun s'' => keepS [(0, (.int .u64)), (1, .i), (5, .any), (9, .i), (10, .i)] [] [] s'' rec) (blkK 0 (fun s' => denC E D W N (.keep [(5, .any)] [] [] C118_1) s' (Fin118 E) (fun _ _ => none) (Fin118 E)) (fun _ _ => none)) (Fin118 E)) n (S118_2 v0 v1 v5 v9 v10 σ) = L118_2 E D W N n v0 v1 v5 v9 v10 σ := by
  induction n with
  | zero => intro v0 v1 v5 v9 v10 σ; rfl
  | succ n ihn =>
    intro v0 v1 v5 v9 v10 σ
    rw [iterK_succ]
    refine (P118_2 E D W N C118_1 (iterK (fun rec s' => denC E D W N C118_2 s' (fun s'' => keepS [(0, (.int .u64)), (1, .i), (5, .any), (9, .i), (10, .i)] [] [] s'' rec) (blkK 0 (fun s' => denC E D W N (.keep [(5, .any)] [] [] C118_1) s' (Fin118 E) (fun _ _ => none) (Fin118 E)) (fun _ _ => none)) (Fin118 E)) n) v0 v1 v5 v9 v10 σ).trans ?_
    simp only [ihn, JE118_1]
    kernel_rfl
def J118_0 : Int → Int → H → Ans := T118_0 E D W (L118_2 E D W N N)
theorem JE118_0 (v0 v1 : Int) (σ : H) :
  denC E D W N (C118_0 C118_1 C118_2) (S118_0 v0 v1 σ) (Fin118 E) (fun _ _ => none) (Fin118 E) = J118_0 E D W N v0 v1 σ := by
  refine (P118_0 E D W N C118_1 C118_2  v0 v1 σ).trans ?_
  simp only [LE118_2]
  kernel_rfl
def F118 (args : List V) (σ : H) : Ans :=
 rtCons args fun x1 l2 =>
 rtInt .u64 x1 fun x3 =>
 rtCons l2 fun x4 l5 =>
 rtInt .i64 x4 fun x6 =>
 rtNil l5 (
 J118_0 E D W N x3 x6 σ)
def A118 : XFn := ⟨26, [(.int .u64), .i], [(.tmp 4)], (C118_0 C118_1 C118_2)⟩
theorem FE118 (args : List V) (σ : H) : runX E D W N A118 args σ = F118 E D W N args σ := by
  unfold F118
  simp only [← JE118_0]
  kernel_rfl
theorem AO118 : A118.body.ok = true := by kernel_rfl

/-! ### F119: ogham_value.Absent -/
def Fin119 (E : List (Nat × Blk)) : St → Ans := fun s => resK E s [(.tmp 2)] fun l => some (oneV l, s.σ)
def C119_0 : XC := (.seq (.ops (.p 1 [0] (.box 26 (.t 0))<|
.c 2 (V.bool false)<|
.nil))
 (.seq (.ops (.f 3 0 1<|
.l 4 .i 3<|
.b 5 .eql .none (.t 4) (.i 0)<|
.m 6 5<|
.grp 6 true (.op (some 7) (.agg [.i, .i, .any, .any, .i, .any]) [1, 6] (.load (some 6) (.t 1))<|
.op (some 8) .bool [7, 6] (.call 110 [(.t 7), (.i 0)])<|
.nil) 9 [6, 8] (.t 6) (.t 8) (.con (V.bool false))<|
.m 2 9<|
.nil))
 .ret))
def T119_0 (E : List (Nat × Blk)) (D : Den) (W : DrawFn) (v0_0 v0_1 : Int) (v0_2 v0_3 : V) (v0_4 : Int) (v0_5 : V) (σ : H) : Ans :=
 chk (allOne (V.cells (V.agg [(V.int .i64 v0_0), (V.int .i64 v0_1), v0_2, v0_3, (V.int .i64 v0_4), v0_5]))) (
 let s1 := newB σ (.cells (V.cells (V.agg [(V.int .i64 v0_0), (V.int .i64 v0_1), v0_2, v0_3, (V.int .i64 v0_4), v0_5])));
 ldK E s1 (H.next σ) 0 fun u2 =>
 rtInt .i64 u2 fun x3 =>
 joinB (fun c4 s5 =>
 some ((V.bool c4), s5)) fun k6 =>
 condK (eqF x3 (Int.ofNat 0)) (
 ldnK E s1 (H.next σ) 0 6 fun l7 =>
 rtCons l7 fun x8 l9 =>
 rtInt .i64 x8 fun x10 =>
 rtCons l9 fun x11 l12 =>
 rtInt .i64 x11 fun x13 =>
 rtCons l12 fun x14 l15 =>
 rtCons l15 fun x16 l17 =>
 rtCons l17 fun x18 l19 =>
 rtInt .i64 x18 fun x20 =>
 rtCons l19 fun x21 l22 =>
 rtNil l22 (
 callK (D 110 [(V.agg [(V.int .i64 x10), (V.int .i64 x13), x14, x16, (V.int .i64 x20), x21]), (V.int .i64 (Int.ofNat 0))] s1) fun u23 s24 =>
 rtBool u23 fun x25 =>
 k6 x25 s24)) (
 k6 false s1))
def S119_0 (v0_0 v0_1 : Int) (v0_2 v0_3 : V) (v0_4 : Int) (v0_5 : V) (σ : H) : St := ⟨[(0, (V.agg [(V.int .i64 v0_0), (V.int .i64 v0_1), v0_2, v0_3, (V.int .i64 v0_4), v0_5]))], [], [], σ⟩
theorem P119_0 (v0_0 v0_1 : Int) (v0_2 v0_3 : V) (v0_4 : Int) (v0_5 : V) (σ : H) :
  denC E D W N (C119_0 ) (S119_0 v0_0 v0_1 v0_2 v0_3 v0_4 v0_5 σ) (Fin119 E) (fun _ _ => none) (Fin119 E) =
  T119_0 E D W  v0_0 v0_1 v0_2 v0_3 v0_4 v0_5 σ := by kernel_rfl
def J119_0 (E : List (Nat × Blk)) (D : Den) (W : DrawFn) (N : Nat) : Int → Int → V → V → Int → V → H → Ans := T119_0 E D W 
theorem JE119_0 (v0_0 v0_1 : Int) (v0_2 v0_3 : V) (v0_4 : Int) (v0_5 : V) (σ : H) :
  denC E D W N C119_0 (S119_0 v0_0 v0_1 v0_2 v0_3 v0_4 v0_5 σ) (Fin119 E) (fun _ _ => none) (Fin119 E) = J119_0 E D W N v0_0 v0_1 v0_2 v0_3 v0_4 v0_5 σ := by
  refine (P119_0 E D W N   v0_0 v0_1 v0_2 v0_3 v0_4 v0_5 σ).trans ?_
  kernel_rfl
def F119 (args : List V) (σ : H) : Ans :=
 rtCons args fun x1 l2 =>
 rtAgg x1 fun l3 =>
 rtCons l3 fun x4 l5 =>
 rtInt .i64 x4 fun x6 =>
 rtCons l5 fun x7 l8 =>
 rtInt .i64 x7 fun x9 =>
 rtCons l8 fun x10 l11 =>
 rtCons l11 fun x12 l13 =>
 rtCons l13 fun x14 l15 =>
 rtInt .i64 x14 fun x16 =>
 rtCons l15 fun x17 l18 =>
 rtNil l18 (
 rtNil l2 (
 J119_0 E D W N x6 x9 x10 x12 x16 x17 σ))
def A119 : XFn := ⟨10, [(.agg [.i, .i, .any, .any, .i, .any])], [(.tmp 2)], C119_0⟩
theorem FE119 (args : List V) (σ : H) : runX E D W N A119 args σ = F119 E D W N args σ := by
  unfold F119
  simp only [← JE119_0]
  kernel_rfl
theorem AO119 : A119.body.ok = true := by kernel_rfl

def C138_0 : XC := (.seq (.ops (.c 4 (V.int .u8 (Int.ofNat 0))<|
.nil))
 (.seq (.seq (.ops (.m 5 1<|
.b 6 .lss .none (.t 5) (.i 0)<|
.m 7 6<|
.grp 7 false (.p 8 [1, 7] (.mov (.t 1))<|
.p 9 [0, 7] (.mov (.t 0))<|
.p 10 [9, 7] (.len true (.t 9))<|
.p 11 [8, 10, 7] (.bin .geq .none (.t 8) (.t 10))<|
.nil) 12 [7, 11] (.t 7) (.con (V.bool true)) (.t 11)<|
.nil))
 (.cond (.tmp 12) (.seq (.ops (.c 4 (V.int .u8 (Int.ofNat 0))<|
.nil))
 .ret)
 .skip))
 (.seq (.ops (.m 13 0<|
.m 14 1<|
.p 15 [13, 14] (.idxStr (.t 13) (.t 14))<|
.m 4 15<|
.nil))
 .ret)))
def A138 : XFn := ⟨16, [.str, .i], [(.tmp 4)], C138_0⟩
/-! ### F139: ogham_oghamref04.letter -/
def Fin139 (E : List (Nat × Blk)) : St → Ans := fun s => resK E s [(.tmp 2)] fun l => some (oneV l, s.σ)
def C139_0 : XC := (.seq (.ops (.c 2 (V.bool false)<|
.nil))
 (.seq (.ops (.m 3 0<|
.b 4 .geq .none (.t 3) (.con (V.int .u8 (Int.ofNat 97)))<|
.m 5 4<|
.grp 5 true (.p 6 [0, 5] (.mov (.t 0))<|
.p 7 [6, 5] (.bin .leq .none (.t 6) (.con (V.int .u8 (Int.ofNat 122))))<|
.nil) 8 [5, 7] (.t 5) (.t 7) (.con (V.bool false))<|
.m 9 8<|
.grp 9 false (.p 10 [0, 9] (.mov (.t 0))<|
.p 11 [10, 9] (.bin .geq .none (.t 10) (.con (V.int .u8 (Int.ofNat 65))))<|
.p 12 [11, 9] (.mov (.t 11))<|
.grp 12 true (.p 13 [0, 12] (.mov (.t 0))<|
.p 14 [13, 12] (.bin .leq .none (.t 13) (.con (V.int .u8 (Int.ofNat 90))))<|
.nil) 15 [12, 14, 9] (.t 12) (.t 14) (.con (V.bool false))<|
.nil) 16 [9, 15] (.t 9) (.con (V.bool true)) (.t 15)<|
.m 2 16<|
.nil))
 .ret))
def T139_0 (E : List (Nat × Blk)) (D : Den) (W : DrawFn) (v0 : Int) (σ : H) : Ans :=
 joinB (fun c1 s2 =>
 joinB (fun c4 s5 =>
 some ((V.bool c4), s5)) fun k6 =>
 condK c1 (
 k6 true s2) (
 joinB (fun c7 s8 =>
 k6 c7 s8) fun k9 =>
 condK (leF (Int.ofNat 65) v0) (
 k9 (leF v0 (Int.ofNat 90)) s2) (
 k9 false s2))) fun k3 =>
 condK (leF (Int.ofNat 97) v0) (
 k3 (leF v0 (Int.ofNat 122)) σ) (
 k3 false σ)
def S139_0 (v0 : Int) (σ : H) : St := ⟨[(0, (V.int .u8 v0))], [], [], σ⟩
theorem P139_0 (v0 : Int) (σ : H) :
  denC E D W N (C139_0 ) (S139_0 v0 σ) (Fin139 E) (fun _ _ => none) (Fin139 E) =
  T139_0 E D W  v0 σ := by kernel_rfl
def J139_0 (E : List (Nat × Blk)) (D : Den) (W : DrawFn) (N : Nat) : Int → H → Ans := T139_0 E D W 
theorem JE139_0 (v0 : Int) (σ : H) :
  denC E D W N C139_0 (S139_0 v0 σ) (Fin139 E) (fun _ _ => none) (Fin139 E) = J139_0 E D W N v0 σ := by
  refine (P139_0 E D W N   v0 σ).trans ?_
  kernel_rfl
def F139 (args : List V) (σ : H) : Ans :=
 rtCons args fun x1 l2 =>
 rtInt .u8 x1 fun x3 =>
 rtNil l2 (
 J139_0 E D W N x3 σ)
def A139 : XFn := ⟨17, [(.int .u8)], [(.tmp 2)], C139_0⟩
theorem FE139 (args : List V) (σ : H) : runX E D W N A139 args σ = F139 E D W N args σ := by
  unfold F139
  simp only [← JE139_0]
  kernel_rfl
theorem AO139 : A139.body.ok = true := by kernel_rfl

/-! ### F140: ogham_oghamref04.name -/
def Fin140 (E : List (Nat × Blk)) : St → Ans := fun s => resK E s [(.tmp 4)] fun l => some (oneV l, s.σ)
def C140_0 (cc1 : XC) (cc2 : XC) : XC := (.seq (.ops (.q 4 0<|
.nil))
 (.seq (.ops (.m 6 1<|
.m 5 6<|
.nil))
 (.seq (.block 0 (.loop [(0, .str), (1, .i), (5, .i)] [] [] cc2))
 (.keep [(0, .str), (1, .i), (5, .i)] [] [] cc1))))
def T140_0 (E : List (Nat × Blk)) (D : Den) (W : DrawFn) (K2 : BS → Int → Int → H → Ans) (v0 : BS) (v1 : Int) (σ : H) : Ans :=
 K2 v0 v1 v1 σ
def C140_1 : XC := (.seq (.seq (.ops (.m 38 0<|
.m 39 1<|
.b 40 .sub .none (.t 39) (.i 1)<|
.p 41 [38, 40] (.idxStr (.t 38) (.t 40))<|
.b 42 .eql .none (.t 41) (.con (V.int .u8 (Int.ofNat 45)))<|
.m 43 42<|
.grp 43 false (.p 44 [1, 43] (.mov (.t 1))<|
.p 45 [5, 43] (.mov (.t 5))<|
.p 46 [44, 45, 43] (.bin .sub .none (.t 44) (.t 45))<|
.p 47 [46, 43] (.bin .gtr .none (.t 46) (.i 60))<|
.nil) 48 [43, 47] (.t 43) (.con (V.bool true)) (.t 47)<|
.nil))
 (.cond (.tmp 48) (.seq (.ops (.c 4 (V.int .i64 (Int.negSucc 0))<|
.nil))
 .ret)
 .skip))
 (.seq (.ops (.m 49 1<|
.m 4 49<|
.nil))
 .ret))
def T140_1 (E : List (Nat × Blk)) (D : Den) (W : DrawFn) (v0 : BS) (v1 v5 : Int) (σ : H) : Ans :=
 idxStrX v0 (subF .i64 v1 (Int.ofNat 1)) fun x1 =>
 joinB (fun c2 s3 =>
 condK c2 (
 some ((V.int .i64 (Int.negSucc 0)), s3)) (
 some ((V.int .i64 v1), s3))) fun k4 =>
 condK (eqF x1 (Int.ofNat 45)) (
 k4 true σ) (
 k4 (ltF (Int.ofNat 60) (subF .i64 v1 v5)) σ)
def C140_2 : XC := (.seq (.seq (.ops (.m 7 1<|
.m 8 0<|
.p 9 [8] (.len true (.t 8))<|
.b 10 .lss .none (.t 7) (.t 9)<|
.m 11 10<|
.grp 11 true (.p 12 [0, 11] (.mov (.t 0))<|
.p 13 [1, 11] (.mov (.t 1))<|
.p 14 [12, 13, 11] (.idxStr (.t 12) (.t 13))<|
.op (some 15) .bool [14, 11] (.call 139 [(.t 14)])<|
.p 16 [15, 11] (.mov (.t 15))<|
.grp 16 false (.p 17 [0, 16] (.mov (.t 0))<|
.p 18 [1, 16] (.mov (.t 1))<|
.p 19 [17, 18, 16] (.idxStr (.t 17) (.t 18))<|
.op (some 20) .bool [19, 16] (.call 142 [(.t 19)])<|
.nil) 21 [16, 20, 11] (.t 16) (.con (V.bool true)) (.t 20)<|
.p 22 [21, 11] (.mov (.t 21))<|
.grp 22 false (.p 23 [0, 22] (.mov (.t 0))<|
.p 24 [1, 22] (.mov (.t 1))<|
.p 25 [23, 24, 22] (.idxStr (.t 23) (.t 24))<|
.p 26 [25, 22] (.bin .eql .none (.t 25) (.con (V.int .u8 (Int.ofNat 45))))<|
.p 27 [26, 22] (.mov (.t 26))<|
.grp 27 true (.p 28 [0, 27] (.mov (.t 0))<|
.p 29 [1, 27] (.mov (.t 1))<|
.p 30 [29, 27] (.bin .add .none (.t 29) (.i 1))<|
.op (some 31) (.int .u8) [28, 30, 27] (.call 138 [(.t 28), (.t 30)])<|
.p 32 [31, 27] (.bin .neq .none (.t 31) (.con (V.int .u8 (Int.ofNat 45))))<|
.nil) 33 [27, 32, 22] (.t 27) (.t 32) (.con (V.bool false))<|
.nil) 34 [22, 33, 11] (.t 22) (.con (V.bool true)) (.t 33)<|
.nil) 35 [11, 34] (.t 11) (.t 34) (.con (V.bool false))<|
.nil))
 (.cond (.tmp 35) .skip
 (.exit 0)))
 (.block 1 (.ops (.m 36 1<|
.b 37 .add .none (.t 36) (.i 1)<|
.m 1 37<|
.nil))))
def T140_2 (E : List (Nat × Blk)) (D : Den) (W : DrawFn) (K1 : BS → Int → Int → H → Ans) (R2 : BS → Int → Int → H → Ans) (v0 : BS) (v1 v5 : Int) (σ : H) : Ans :=
 joinB (fun c1 s2 =>
 condK c1 (
 R2 v0 (addF .i64 v1 (Int.ofNat 1)) v5 s2) (
 K1 v0 v1 v5 s2)) fun k3 =>
 condK (ltF v1 (Int.ofNat (BS.len v0))) (
 idxStrX v0 v1 fun x4 =>
 callK (D 139 [(V.int .u8 x4)] σ) fun u5 s6 =>
 rtBool u5 fun x7 =>
 joinB (fun c8 s9 =>
 joinB (fun c11 s12 =>
 k3 c11 s12) fun k13 =>
 condK c8 (
 k13 true s9) (
 idxStrX v0 v1 fun x14 =>
 joinB (fun c15 s16 =>
 k13 c15 s16) fun k17 =>
 condK (eqF x14 (Int.ofNat 45)) (
 callK (D 138 [(V.str v0), (V.int .i64 (addF .i64 v1 (Int.ofNat 1)))] s9) fun u18 s19 =>
 rtInt .u8 u18 fun x20 =>
 k17 (not (eqF x20 (Int.ofNat 45))) s19) (
 k17 false s9))) fun k10 =>
 condK x7 (
 k10 true s6) (
 idxStrX v0 v1 fun x21 =>
 callK (D 142 [(V.int .u8 x21)] s6) fun u22 s23 =>
 rtBool u22 fun x24 =>
 k10 x24 s23)) (
 k3 false σ)
def S140_0 (v0 : BS) (v1 : Int) (σ : H) : St := ⟨[(0, (V.str v0)), (1, (V.int .i64 v1))], [], [], σ⟩
def S140_1 (v0 : BS) (v1 v5 : Int) (σ : H) : St := ⟨[(0, (V.str v0)), (1, (V.int .i64 v1)), (5, (V.int .i64 v5))], [], [], σ⟩
def S140_2 (v0 : BS) (v1 v5 : Int) (σ : H) : St := ⟨[(0, (V.str v0)), (1, (V.int .i64 v1)), (5, (V.int .i64 v5))], [], [], σ⟩
theorem P140_0 (cc1 : XC) (cc2 : XC) (v0 : BS) (v1 : Int) (σ : H) :
  denC E D W N (C140_0 cc1 cc2) (S140_0 v0 v1 σ) (Fin140 E) (fun _ _ => none) (Fin140 E) =
  T140_0 E D W (fun v0 v1 v5 σ => iterK (fun rec s' => denC E D W N cc2 s' (fun s'' => keepS [(0, .str), (1, .i), (5, .i)] [] [] s'' rec) (blkK 0 (fun s' => denC E D W N (.keep [(0, .str), (1, .i), (5, .i)] [] [] cc1) s' (Fin140 E) (fun _ _ => none) (Fin140 E)) (fun _ _ => none)) (Fin140 E)) N (S140_2 v0 v1 v5 σ)) v0 v1 σ := by kernel_rfl
theorem P140_1 (v0 : BS) (v1 v5 : Int) (σ : H) :
  denC E D W N (C140_1 ) (S140_1 v0 v1 v5 σ) (Fin140 E) (fun _ _ => none) (Fin140 E) =
  T140_1 E D W  v0 v1 v5 σ := by kernel_rfl
theorem P140_2 (cc1 : XC) (li2 : St → Ans) (v0 : BS) (v1 v5 : Int) (σ : H) :
  denC E D W N (C140_2 ) (S140_2 v0 v1 v5 σ) (fun s'' => keepS [(0, .str), (1, .i), (5, .i)] [] [] s'' li2) (blkK 0 (fun s' => denC E D W N (.keep [(0, .str), (1, .i), (5, .i)] [] [] cc1) s' (Fin140 E) (fun _ _ => none) (Fin140 E)) (fun _ _ => none)) (Fin140 E) =
  T140_2 E D W (fun v0 v1 v5 σ => denC E D W N cc1 (S140_1 v0 v1 v5 σ) (Fin140 E) (fun _ _ => none) (Fin140 E)) (fun v0 v1 v5 σ => li2 (S140_2 v0 v1 v5 σ)) v0 v1 v5 σ := by kernel_rfl
def J140_1 (E : List (Nat × Blk)) (D : Den) (W : DrawFn) (N : Nat) : BS → Int → Int → H → Ans := T140_1 E D W 
theorem JE140_1 (v0 : BS) (v1 v5 : Int) (σ : H) :
  denC E D W N C140_1 (S140_1 v0 v1 v5 σ) (Fin140 E) (fun _ _ => none) (Fin140 E) = J140_1 E D W N v0 v1 v5 σ := by
  refine (P140_1 E D W N   v0 v1 v5 σ).trans ?_
  kernel_rfl
def L140_2 (n : Nat) : BS → Int → Int → H → Ans :=
  Nat.rec (fun _ _ _ _ => none) (fun _ ih => T140_2 E D W (J140_1 E D W N ) ih) n
theorem LE140_2 (n : Nat) : ∀ (v0 : BS) (v1 v5 : Int) (σ : H),
  iterK (fun rec s' => denC E D W N C140_2 s' (fun s'' => keepS [(0, .str), (1, .i), (5, .i)] [] [] s'' rec) (blkK 0 (fun s' => denC E D W N (.keep [(0, .str), (1, .i), (5, .i)] [] [] C140_1) s' (Fin140 E) (fun _ _ => none) (Fin140 E)) (fun _ _ => none)) (Fin140 E)) n (S140_2 v0 v1 v5 σ) = L140_2 E D W N n v0 v1 v5 σ := by
  induction n with
  | zero => intro v0 v1 v5 σ; rfl
  | succ n ihn =>
    intro v0 v1 v5 σ
    rw [iterK_succ]
    refine (P140_2 E D W N C140_1 (iterK (fun rec s' => denC E D W N C140_2 s' (fun s'' => keepS [(0, .str), (1, .i), (5, .i)] [] [] s'' rec) (blkK 0 (fun s' => denC E D W N (.keep [(0, .str), (1, .i), (5, .i)] [] [] C140_1) s' (Fin140 E) (fun _ _ => none) (Fin140 E)) (fun _ _ => none)) (Fin140 E)) n) v0 v1 v5 σ).trans ?_
    simp only [ihn, JE140_1]
    kernel_rfl
def J140_0 : BS → Int → H → Ans := T140_0 E D W (L140_2 E D W N N)
theorem JE140_0 (v0 : BS) (v1 : Int) (σ : H) :
  denC E D W N (C140_0 C140_1 C140_2) (S140_0 v0 v1 σ) (Fin140 E) (fun _ _ => none) (Fin140 E) = J140_0 E D W N v0 v1 σ := by
  refine (P140_0 E D W N C140_1 C140_2  v0 v1 σ).trans ?_
  simp only [LE140_2]
  kernel_rfl
def F140 (args : List V) (σ : H) : Ans :=
 rtCons args fun x1 l2 =>
 rtStr x1 fun x3 =>
 rtCons l2 fun x4 l5 =>
 rtInt .i64 x4 fun x6 =>
 rtNil l5 (
 J140_0 E D W N x3 x6 σ)
def A140 : XFn := ⟨50, [.str, .i], [(.tmp 4)], (C140_0 C140_1 C140_2)⟩
theorem FE140 (args : List V) (σ : H) : runX E D W N A140 args σ = F140 E D W N args σ := by
  unfold F140
  simp only [← JE140_0]
  kernel_rfl
theorem AO140 : A140.body.ok = true := by kernel_rfl

def C141_0 : XC := (.seq (.ops (.c 2 (V.bool false)<|
.nil))
 (.seq (.ops (.k 3 .one 178 []<|
.m 4 0<|
.k 5 .bool 102 [(.t 3), (.t 4)]<|
.m 2 5<|
.nil))
 .ret))
def A141 : XFn := ⟨6, [.str], [(.tmp 2)], C141_0⟩
def C142_0 : XC := (.seq (.ops (.c 2 (V.bool false)<|
.nil))
 (.seq (.ops (.m 3 0<|
.b 4 .geq .none (.t 3) (.con (V.int .u8 (Int.ofNat 48)))<|
.m 5 4<|
.grp 5 true (.p 6 [0, 5] (.mov (.t 0))<|
.p 7 [6, 5] (.bin .leq .none (.t 6) (.con (V.int .u8 (Int.ofNat 57))))<|
.nil) 8 [5, 7] (.t 5) (.t 7) (.con (V.bool false))<|
.m 2 8<|
.nil))
 .ret))
def A142 : XFn := ⟨9, [(.int .u8)], [(.tmp 2)], C142_0⟩
def C143_0 (cc1 : XC) : XC := (.seq (.ops (.q 4 0<|
.nil))
 (.seq (.ops (.m 9 0<|
.m 10 1<|
.p 11 [9, 10] (.idxStr (.t 9) (.t 10))<|
.b 12 .eql .none (.t 11) (.con (V.int .u8 (Int.ofNat 45)))<|
.m 5 12<|
.nil))
 (.seq (.seq (.ops (.m 13 5<|
.nil))
 (.cond (.tmp 13) (.ops (.m 14 1<|
.b 15 .add .none (.t 14) (.i 1)<|
.m 1 15<|
.nil))
 .skip))
 (.keep [(0, .str), (1, .i), (5, .bool)] [] [] cc1))))
def C143_1 (cc2 : XC) (cc3 : XC) : XC := (.seq (.ops (.m 16 1<|
.m 6 16<|
.nil))
 (.seq (.ops (.c 7 (V.int .u64 (Int.ofNat 0))<|
.nil))
 (.seq (.block 0 (.loop [(0, .str), (1, .i), (5, .bool), (6, .i), (7, (.int .u64))] [] [] cc3))
 (.keep [(0, .str), (1, .i), (5, .bool), (6, .i), (7, (.int .u64))] [] [] cc2))))
def C143_2 : XC := (.seq (.ops (.m 41 1<|
.m 42 6<|
.b 43 .sub .none (.t 41) (.t 42)<|
.m 8 43<|
.nil))
 (.seq (.seq (.ops (.m 44 8<|
.b 45 .lss .none (.t 44) (.i 1)<|
.m 46 45<|
.grp 46 false (.p 47 [8, 46] (.mov (.t 8))<|
.p 48 [47, 46] (.bin .gtr .none (.t 47) (.i 19))<|
.nil) 49 [46, 48] (.t 46) (.con (V.bool true)) (.t 48)<|
.m 50 49<|
.grp 50 false (.p 51 [8, 50] (.mov (.t 8))<|
.p 52 [51, 50] (.bin .gtr .none (.t 51) (.i 1))<|
.p 53 [52, 50] (.mov (.t 52))<|
.grp 53 true (.p 54 [0, 53] (.mov (.t 0))<|
.p 55 [6, 53] (.mov (.t 6))<|
.p 56 [54, 55, 53] (.idxStr (.t 54) (.t 55))<|
.p 57 [56, 53] (.bin .eql .none (.t 56) (.con (V.int .u8 (Int.ofNat 48))))<|
.nil) 58 [53, 57, 50] (.t 53) (.t 57) (.con (V.bool false))<|
.nil) 59 [50, 58] (.t 50) (.con (V.bool true)) (.t 58)<|
.m 60 59<|
.grp 60 false (.p 61 [5, 60] (.mov (.t 5))<|
.p 62 [61, 60] (.mov (.t 61))<|
.grp 62 true (.p 63 [0, 62] (.mov (.t 0))<|
.p 64 [6, 62] (.mov (.t 6))<|
.p 65 [63, 64, 62] (.idxStr (.t 63) (.t 64))<|
.p 66 [65, 62] (.bin .eql .none (.t 65) (.con (V.int .u8 (Int.ofNat 48))))<|
.nil) 67 [62, 66, 60] (.t 62) (.t 66) (.con (V.bool false))<|
.nil) 68 [60, 67] (.t 60) (.con (V.bool true)) (.t 67)<|
.m 69 68<|
.grp 69 false (.p 70 [0, 69] (.mov (.t 0))<|
.p 71 [1, 69] (.mov (.t 1))<|
.op (some 72) (.int .u8) [70, 71, 69] (.call 138 [(.t 70), (.t 71)])<|
.op (some 73) .bool [72, 69] (.call 139 [(.t 72)])<|
.nil) 74 [69, 73] (.t 69) (.con (V.bool true)) (.t 73)<|
.m 75 74<|
.grp 75 false (.p 76 [7, 75] (.mov (.t 7))<|
.p 77 [76, 75] (.bin .gtr .none (.t 76) (.con (V.int .u64 (Int.ofNat 9223372036854775808))))<|
.nil) 78 [75, 77] (.t 75) (.con (V.bool true)) (.t 77)<|
.m 79 78<|
.grp 79 false (.p 80 [5, 79] (.mov (.t 5))<|
.p 81 [80, 79] (.un .not (.t 80))<|
.p 82 [81, 79] (.mov (.t 81))<|
.grp 82 true (.p 83 [7, 82] (.mov (.t 7))<|
.p 84 [83, 82] (.bin .eql .none (.t 83) (.con (V.int .u64 (Int.ofNat 9223372036854775808))))<|
.nil) 85 [82, 84, 79] (.t 82) (.t 84) (.con (V.bool false))<|
.nil) 86 [79, 85] (.t 79) (.con (V.bool true)) (.t 85)<|
.nil))
 (.cond (.tmp 86) (.seq (.ops (.c 4 (V.int .i64 (Int.negSucc 0))<|
.nil))
 .ret)
 .skip))
 (.seq (.ops (.m 87 1<|
.m 4 87<|
.nil))
 .ret)))
def C143_3 (cc4 : XC) : XC := (.seq (.seq (.ops (.m 17 1<|
.m 18 0<|
.p 19 [18] (.len true (.t 18))<|
.b 20 .lss .none (.t 17) (.t 19)<|
.m 21 20<|
.grp 21 true (.p 22 [0, 21] (.mov (.t 0))<|
.p 23 [1, 21] (.mov (.t 1))<|
.p 24 [22, 23, 21] (.idxStr (.t 22) (.t 23))<|
.op (some 25) .bool [24, 21] (.call 142 [(.t 24)])<|
.nil) 26 [21, 25] (.t 21) (.t 25) (.con (V.bool false))<|
.nil))
 (.cond (.tmp 26) .skip
 (.exit 0)))
 (.block 1 (.seq (.seq (.ops (.m 27 1<|
.m 28 6<|
.b 29 .sub .none (.t 27) (.t 28)<|
.b 30 .lss .none (.t 29) (.i 19)<|
.nil))
 (.cond (.tmp 30) (.ops (.m 31 7<|
.b 32 .mul .none (.con (V.int .u64 (Int.ofNat 10))) (.t 31)<|
.m 33 0<|
.m 34 1<|
.p 35 [33, 34] (.idxStr (.t 33) (.t 34))<|
.b 36 .sub .none (.t 35) (.con (V.int .u8 (Int.ofNat 48)))<|
.p 37 [36] (.conv (.toInt .u64) (.t 36))<|
.b 38 .add .none (.t 32) (.t 37)<|
.m 7 38<|
.nil))
 .skip))
 (.keep [(0, .str), (1, .i), (5, .bool), (6, .i), (7, (.int .u64))] [] [] cc4))))
def C143_4 : XC := (.ops (.m 39 1<|
.b 40 .add .none (.t 39) (.i 1)<|
.m 1 40<|
.nil))
def A143 : XFn := ⟨88, [.str, .i], [(.tmp 4)], (C143_0 (C143_1 C143_2 (C143_3 C143_4)))⟩
/-! ### F146: ogham_oghamref04.sign -/
def Fin146 (E : List (Nat × Blk)) : St → Ans := fun s => resK E s [(.tmp 4)] fun l => some (oneV l, s.σ)
def C146_0 (cc1 : XC) (cc2 : XC) : XC := (.seq (.ops (.q 4 0<|
.nil))
 (.seq (.ops (.m 9 0<|
.m 10 1<|
.p 11 [9, 10] (.sliceStr (.t 9) (some (.t 10)) none)<|
.m 5 11<|
.nil))
 (.seq (.ops (.p 12 [] (.buildSlice 9 13 [(V.str ⟨0, 0⟩), (V.str ⟨0, 0⟩), (V.str ⟨0, 0⟩), (V.str ⟨0, 0⟩), (V.str ⟨0, 0⟩), (V.str ⟨0, 0⟩), (V.str ⟨0, 0⟩), (V.str ⟨0, 0⟩), (V.str ⟨0, 0⟩), (V.str ⟨0, 0⟩), (V.str ⟨0, 0⟩), (V.str ⟨0, 0⟩), (V.str ⟨0, 0⟩)] [(0, 1, (.con (V.str ⟨3, 4012602⟩))), (1, 1, (.con (V.str ⟨3, 3026478⟩))), (2, 1, (.con (V.str ⟨2, 11822⟩))), (3, 1, (.con (V.str ⟨2, 23387⟩))), (4, 1, (.con (V.str ⟨2, 23901⟩))), (5, 1, (.con (V.str ⟨1, 123⟩))), (6, 1, (.con (V.str ⟨1, 125⟩))), (7, 1, (.con (V.str ⟨1, 91⟩))), (8, 1, (.con (V.str ⟨1, 93⟩))), (9, 1, (.con (V.str ⟨1, 40⟩))), (10, 1, (.con (V.str ⟨1, 41⟩))), (11, 1, (.con (V.str ⟨1, 44⟩))), (12, 1, (.con (V.str ⟨1, 58⟩)))])<|
.m 6 12<|
.nil))
 (.seq (.seq (.ops (.q 7 0<|
.nil))
 (.block 0 (.loop [(5, .str), (6, .any), (7, .i)] [] [] cc2)))
 (.keep [] [] [] cc1)))))
def T146_0 (E : List (Nat × Blk)) (D : Den) (W : DrawFn) (K2 : BS → V → Int → H → Ans) (v0 : BS) (v1 : Int) (σ : H) : Ans :=
 sliceStrX v0 (some (V.int .i64 v1)) none fun t1 =>
 let s2 := newB σ (.cells [(V.str (BS.mk 3 4012602)), (V.str (BS.mk 3 3026478)), (V.str (BS.mk 2 11822)), (V.str (BS.mk 2 23387)), (V.str (BS.mk 2 23901)), (V.str (BS.mk 1 123)), (V.str (BS.mk 1 125)), (V.str (BS.mk 1 91)), (V.str (BS.mk 1 93)), (V.str (BS.mk 1 40)), (V.str (BS.mk 1 41)), (V.str (BS.mk 1 44)), (V.str (BS.mk 1 58))]);
 K2 t1 (V.sl (H.next σ) 0 13 (.ex 13)) (Int.ofNat 0) s2
def C146_1 : XC := (.seq (.ops (.q 4 0<|
.nil))
 .ret)
def T146_1 (E : List (Nat × Blk)) (D : Den) (W : DrawFn) (σ : H) : Ans :=
 some ((V.int .i64 (Int.ofNat 0)), σ)
def C146_2 : XC := (.seq (.seq (.ops (.m 13 7<|
.m 14 6<|
.u 15 14<|
.b 16 .lss .none (.t 13) (.t 15)<|
.nil))
 (.cond (.tmp 16) .skip
 (.exit 0)))
 (.seq (.block 1 (.seq (.ops (.m 19 6<|
.m 20 7<|
.s 21 1 19 20<|
.l 22 .str 21<|
.p 23 [22] (.len true (.t 22))<|
.m 8 23<|
.nil))
 (.seq (.draw (.m 24 5<|
.p 25 [24] (.len true (.t 24))<|
.m 26 8<|
.b 27 .geq .none (.t 25) (.t 26)<|
.m 28 27<|
.grp 28 true (.p 29 [5, 28] (.mov (.t 5))<|
.p 30 [8, 28] (.mov (.t 8))<|
.p 31 [29, 30, 28] (.sliceStr (.t 29) none (some (.t 30)))<|
.p 32 [6, 28] (.mov (.t 6))<|
.p 33 [7, 28] (.mov (.t 7))<|
.p 34 [32, 33, 28] (.iaddrS 1 (.t 32) (.t 33))<|
.op (some 35) .str [34, 28] (.load none (.t 34))<|
.p 36 [31, 35, 28] (.bin .eql .none (.t 31) (.t 35))<|
.nil) 37 [28, 36] (.t 28) (.t 36) (.con (V.bool false))<|
.nil) [0, 1, 0, 7, 15, 31, 31, 127, 31, 31, 799, 1823, 4095, 8191])
 (.cond (.tmp 37) (.seq (.ops (.m 38 8<|
.m 4 38<|
.nil))
 .ret)
 .skip))))
 (.ops (.m 17 7<|
.b 18 .add .none (.t 17) (.i 1)<|
.m 7 18<|
.nil))))
def T146_2 (E : List (Nat × Blk)) (D : Den) (W : DrawFn) (K1 : H → Ans) (R2 : BS → V → Int → H → Ans) (v5 : BS) (v6 : V) (v7 : Int) (σ : H) : Ans :=
 slenK v6 fun n1 =>
 condK (ltF v7 (Int.ofNat n1)) (
 iaddrSK 1 v6 v7 fun b2 o3 =>
 ldK E σ b2 o3 fun u4 =>
 rtStr u4 fun x5 =>
 joinB (fun c6 s7 =>
 condK c6 (
 some ((V.int .i64 (Int.ofNat (BS.len x5))), s7)) (
 R2 v5 v6 (addF .i64 v7 (Int.ofNat 1)) s7)) fun k8 =>
 condK (leF (Int.ofNat (BS.len x5)) (Int.ofNat (BS.len v5))) (
 sliceStrX v5 none (some (V.int .i64 (Int.ofNat (BS.len x5)))) fun t9 =>
 iaddrSK 1 v6 v7 fun b10 o11 =>
 ldK E σ b10 o11 fun u12 =>
 rtStr u12 fun x13 =>
 k8 (BS.beq t9 x13) σ) (
 k8 false σ)) (
 K1 σ)
def S146_0 (v0 : BS) (v1 : Int) (σ : H) : St := ⟨[(0, (V.str v0)), (1, (V.int .i64 v1))], [], [], σ⟩
def S146_1 (σ : H) : St := ⟨[], [], [], σ⟩
def S146_2 (v5 : BS) (v6 : V) (v7 : Int) (σ : H) : St := ⟨[(5, (V.str v5)), (6, v6), (7, (V.int .i64 v7))], [], [], σ⟩
theorem P146_0 (cc1 : XC) (cc2 : XC) (v0 : BS) (v1 : Int) (σ : H) :
  denC E D W N (C146_0 cc1 cc2) (S146_0 v0 v1 σ) (Fin146 E) (fun _ _ => none) (Fin146 E) =
  T146_0 E D W (fun v5 v6 v7 σ => iterK (fun rec s' => denC E D W N cc2 s' (fun s'' => keepS [(5, .str), (6, .any), (7, .i)] [] [] s'' rec) (blkK 0 (fun s' => denC E D W N (.keep [] [] [] cc1) s' (Fin146 E) (fun _ _ => none) (Fin146 E)) (fun _ _ => none)) (Fin146 E)) N (S146_2 v5 v6 v7 σ)) v0 v1 σ := by kernel_rfl
theorem P146_1 (σ : H) :
  denC E D W N (C146_1 ) (S146_1 σ) (Fin146 E) (fun _ _ => none) (Fin146 E) =
  T146_1 E D W   σ := by kernel_rfl
theorem P146_2 (cc1 : XC) (li2 : St → Ans) (v5 : BS) (v6 : V) (v7 : Int) (σ : H) :
  denC E D W N (C146_2 ) (S146_2 v5 v6 v7 σ) (fun s'' => keepS [(5, .str), (6, .any), (7, .i)] [] [] s'' li2) (blkK 0 (fun s' => denC E D W N (.keep [] [] [] cc1) s' (Fin146 E) (fun _ _ => none) (Fin146 E)) (fun _ _ => none)) (Fin146 E) =
  T146_2 E D W (fun  σ => denC E D W N cc1 (S146_1 σ) (Fin146 E) (fun _ _ => none) (Fin146 E)) (fun v5 v6 v7 σ => li2 (S146_2 v5 v6 v7 σ)) v5 v6 v7 σ := by kernel_rfl
def J146_1 (E : List (Nat × Blk)) (D : Den) (W : DrawFn) (N : Nat) : H → Ans := T146_1 E D W 
theorem JE146_1 (σ : H) :
  denC E D W N C146_1 (S146_1 σ) (Fin146 E) (fun _ _ => none) (Fin146 E) = J146_1 E D W N  σ := by
  refine (P146_1 E D W N    σ).trans ?_
  kernel_rfl
def L146_2 (n : Nat) : BS → V → Int → H → Ans :=
  Nat.rec (fun _ _ _ _ => none) (fun _ ih => T146_2 E D W (J146_1 E D W N ) ih) n
theorem LE146_2 (n : Nat) : ∀ (v5 : BS) (v6 : V) (v7 : Int) (σ : H),
  iterK (fun rec s' => denC E D W N C146_2 s' (fun s'' => keepS [(5, .str), (6, .any), (7, .i)] [] [] s'' rec) (blkK 0 (fun s' => denC E D W N (.keep [] [] [] C146_1) s' (Fin146 E) (fun _ _ => none) (Fin146 E)) (fun _ _ => none)) (Fin146 E)) n (S146_2 v5 v6 v7 σ) = L146_2 E D W N n v5 v6 v7 σ := by
  induction n with
  | zero => intro v5 v6 v7 σ; rfl
  | succ n ihn =>
    intro v5 v6 v7 σ
    rw [iterK_succ]
    refine (P146_2 E D W N C146_1 (iterK (fun rec s' => denC E D W N C146_2 s' (fun s'' => keepS [(5, .str), (6, .any), (7, .i)] [] [] s'' rec) (blkK 0 (fun s' => denC E D W N (.keep [] [] [] C146_1) s' (Fin146 E) (fun _ _ => none) (Fin146 E)) (fun _ _ => none)) (Fin146 E)) n) v5 v6 v7 σ).trans ?_
    simp only [ihn, JE146_1]
    kernel_rfl
def J146_0 : BS → Int → H → Ans := T146_0 E D W (L146_2 E D W N N)
theorem JE146_0 (v0 : BS) (v1 : Int) (σ : H) :
  denC E D W N (C146_0 C146_1 C146_2) (S146_0 v0 v1 σ) (Fin146 E) (fun _ _ => none) (Fin146 E) = J146_0 E D W N v0 v1 σ := by
  refine (P146_0 E D W N C146_1 C146_2  v0 v1 σ).trans ?_
  simp only [LE146_2]
  kernel_rfl
def F146 (args : List V) (σ : H) : Ans :=
 rtCons args fun x1 l2 =>
 rtStr x1 fun x3 =>
 rtCons l2 fun x4 l5 =>
 rtInt .i64 x4 fun x6 =>
 rtNil l5 (
 J146_0 E D W N x3 x6 σ)
def A146 : XFn := ⟨39, [.str, .i], [(.tmp 4)], (C146_0 C146_1 C146_2)⟩
theorem FE146 (args : List V) (σ : H) : runX E D W N A146 args σ = F146 E D W N args σ := by
  unfold F146
  simp only [← JE146_0]
  kernel_rfl
theorem AO146 : A146.body.ok = true := by kernel_rfl

def C147_0 (cc1 : XC) : XC := (.seq (.ops (.q 2 0<|
.nil))
 (.seq (.ops (.m 6 0<|
.p 7 [6] (.idxStr (.t 6) (.i 0))<|
.b 8 .eql .none (.t 7) (.con (V.int .u8 (Int.ofNat 45)))<|
.m 3 8<|
.nil))
 (.seq (.seq (.ops (.m 9 3<|
.nil))
 (.cond (.tmp 9) (.ops (.m 10 0<|
.p 11 [10] (.sliceStr (.t 10) (some (.i 1)) none)<|
.m 0 11<|
.nil))
 .skip))
 (.keep [(0, .str), (3, .bool)] [] [] cc1))))
def C147_1 (cc2 : XC) (cc3 : XC) : XC := (.seq (.ops (.c 4 (V.int .u64 (Int.ofNat 0))<|
.nil))
 (.seq (.seq (.ops (.q 5 0<|
.nil))
 (.block 0 (.loop [(0, .str), (3, .bool), (4, (.int .u64)), (5, .i)] [] [] cc3)))
 (.keep [(3, .bool), (4, (.int .u64))] [] [] cc2)))
def C147_2 : XC := (.seq (.seq (.ops (.m 26 3<|
.nil))
 (.cond (.tmp 26) (.seq (.ops (.m 27 4<|
.b 28 .sub .none (.t 27) (.con (V.int .u64 (Int.ofNat 1)))<|
.p 29 [28] (.conv (.toInt .i64) (.t 28))<|
.p 30 [29] (.un .neg (.t 29))<|
.b 31 .sub .none (.t 30) (.i 1)<|
.m 2 31<|
.nil))
 .ret)
 .skip))
 (.seq (.ops (.m 32 4<|
.p 33 [32] (.conv (.toInt .i64) (.t 32))<|
.m 2 33<|
.nil))
 .ret))
def C147_3 : XC := (.seq (.seq (.ops (.m 12 5<|
.m 13 0<|
.p 14 [13] (.len true (.t 13))<|
.b 15 .lss .none (.t 12) (.t 14)<|
.nil))
 (.cond (.tmp 15) .skip
 (.exit 0)))
 (.seq (.block 1 (.ops (.m 18 4<|
.b 19 .mul .none (.con (V.int .u64 (Int.ofNat 10))) (.t 18)<|
.m 20 0<|
.m 21 5<|
.p 22 [20, 21] (.idxStr (.t 20) (.t 21))<|
.b 23 .sub .none (.t 22) (.con (V.int .u8 (Int.ofNat 48)))<|
.p 24 [23] (.conv (.toInt .u64) (.t 23))<|
.b 25 .add .none (.t 19) (.t 24)<|
.m 4 25<|
.nil)))
 (.ops (.m 16 5<|
.b 17 .add .none (.t 16) (.i 1)<|
.m 5 17<|
.nil))))
def A147 : XFn := ⟨34, [.str], [(.tmp 2)], (C147_0 (C147_1 C147_2 C147_3))⟩
def C148_0 : XC := (.seq (.ops (.pal 2 [] 135 [(V.bool false), (V.bool false), (V.bool false), (V.bool false), (V.int .i64 (Int.ofNat 0)), (V.int .i64 (Int.ofNat 0))]<|
.nil))
 (.seq (.seq (.ops (.m 4 0<|
.k 5 .bool 57 [(.t 4), (.con (V.str ⟨1, 40⟩))]<|
.p 6 [5] (.un .not (.t 5))<|
.nil))
 (.cond (.tmp 6) (.seq (.ops (.op (some 7) (.agg [.bool, .bool, .bool, .bool, .i, .i]) [] (.build [(V.bool false), (V.bool false), (V.bool false), (V.bool false), (V.int .i64 (Int.ofNat 0)), (V.int .i64 (Int.ofNat 0))] [])<|
.op none (.agg [.bool, .bool, .bool, .bool, .i, .i]) [2, 7] (.store 6 (.t 2) (.t 7))<|
.nil))
 .ret)
 .skip))
 (.seq (.ops (.m 8 0<|
.k 9 (.tup []) 56 [(.t 8), (.con (V.str ⟨4, 1163544915⟩))]<|
.nil))
 (.seq (.ops (.m 10 0<|
.k 11 (.tup []) 56 [(.t 10), (.con (V.str ⟨1, 40⟩))]<|
.nil))
 (.seq (.ops (.m 12 0<|
.k 13 (.agg [.bool, .bool, .bool, .bool, .i, .i]) 149 [(.t 12)]<|
.pal 3 [] 135 [(V.bool false), (V.bool false), (V.bool false), (V.bool false), (V.int .i64 (Int.ofNat 0)), (V.int .i64 (Int.ofNat 0))]<|
.op none (.agg [.bool, .bool, .bool, .bool, .i, .i]) [3, 13] (.store 6 (.t 3) (.t 13))<|
.nil))
 (.seq (.ops (.m 14 0<|
.k 15 (.tup []) 56 [(.t 14), (.con (V.str ⟨1, 41⟩))]<|
.nil))
 (.seq (.ops (.m 16 0<|
.k 17 (.tup []) 56 [(.t 16), (.con (V.str ⟨1, 41⟩))]<|
.nil))
 (.seq (.ops (.op (some 18) (.agg [.bool, .bool, .bool, .bool, .i, .i]) [3] (.load (some 6) (.t 3))<|
.op none (.agg [.bool, .bool, .bool, .bool, .i, .i]) [2, 18] (.store 6 (.t 2) (.t 18))<|
.nil))
 .ret))))))))
def A148 : XFn := ⟨19, [.any], [(.cell 2 (some 6))], C148_0⟩
def C151_0 (cc1 : XC) (cc2 : XC) : XC := (.seq (.seq (.ops (.m 7 0<|
.k 8 .bool 57 [(.t 7), (.con (V.str ⟨1, 125⟩))]<|
.nil))
 (.cond (.tmp 8) .ret
 .skip))
 (.seq (.ops (.q 6 0<|
.nil))
 (.seq (.block 0 (.loop [(0, .ptr), (1, .ptr), (2, .i), (6, .i)] [] [] cc2))
 (.keep [(0, .ptr), (1, .ptr)] [] [] cc1))))
def C151_1 : XC := (.seq (.ops (.m 68 0<|
.k 69 (.tup []) 56 [(.t 68), (.con (V.str ⟨1, 125⟩))]<|
.nil))
 (.seq (.ops (.m 70 1<|
.n 71 70<|
.f 72 14 71<|
.l 73 .bool 72<|
.p 74 [73] (.un .not (.t 73))<|
.nil))
 (.cond (.tmp 74) (.ops (.m 75 1<|
.m 76 1<|
.n 77 76<|
.f 78 12 77<|
.l 79 .any 78<|
.u 80 79<|
.n 81 75<|
.f 82 13 81<|
.w 1 82 80<|
.nil))
 .skip)))
def C151_2 (cc3 : XC) (cc4 : XC) (cc5 : XC) : XC := (.seq (.seq (.ops (.m 9 0<|
.n 10 9<|
.f 11 7 10<|
.l 12 .i 11<|
.b 13 .eql .none (.t 12) (.i 0)<|
.nil))
 (.cond (.tmp 13) .skip
 (.exit 0)))
 (.block 1 (.seq (.block 2 (.seq (.ops (.m 19 1<|
.n 20 19<|
.f 21 14 20<|
.l 22 .bool 21<|
.p 23 [22] (.un .not (.t 22))<|
.m 24 23<|
.grp 24 true (.p 25 [0, 24] (.mov (.t 0))<|
.op (some 26) .bool [25, 24] (.call 57 [(.t 25), (.con (V.str ⟨3, 3026478⟩))])<|
.nil) 27 [24, 26] (.t 24) (.t 26) (.con (V.bool false))<|
.m 18 27<|
.nil))
 (.cond (.tmp 18) (.ops (.m 28 1<|
.m 29 1<|
.m 30 1<|
.n 31 30<|
.f 32 12 31<|
.l 33 .any 32<|
.u 34 33<|
.n 35 28<|
.f 36 14 35<|
.op none .any [36] (.store 1 (.t 36) (.con (V.bool true)))<|
.n 37 29<|
.f 38 13 37<|
.w 1 38 34<|
.nil))
 (.seq (.ops (.m 40 1<|
.n 41 40<|
.f 42 14 41<|
.l 43 .bool 42<|
.m 44 43<|
.grp 44 true (.p 45 [0, 44] (.mov (.t 0))<|
.op (some 46) .bool [45, 44] (.call 57 [(.t 45), (.con (V.str ⟨2, 23387⟩))])<|
.nil) 47 [44, 46] (.t 44) (.t 46) (.con (V.bool false))<|
.m 39 47<|
.nil))
 (.cond (.tmp 39) (.seq (.ops (.m 48 6<|
.b 49 .add .none (.t 48) (.i 1)<|
.m 6 49<|
.nil))
 (.seq (.block 3 (.loop [(0, .ptr), (1, .ptr), (2, .i), (6, .i)] [] [] cc5))
 (.keep [(0, .ptr), (1, .ptr), (2, .i), (6, .i)] [] [] cc4)))
 (.ops (.m 14 0<|
.m 15 1<|
.m 16 2<|
.k 17 (.tup []) 180 [(.t 14), (.t 15), (.t 16), (.i 0)]<|
.nil)))))))
 (.keep [(0, .ptr), (1, .ptr), (2, .i), (6, .i)] [] [] cc3))))
def C151_3 : XC := (.seq (.ops (.m 65 0<|
.k 66 .bool 57 [(.t 65), (.con (V.str ⟨1, 44⟩))]<|
.p 67 [66] (.un .not (.t 66))<|
.nil))
 (.cond (.tmp 67) (.exit 0)
 .skip))
def C151_4 : XC := (.ops (.m 63 0<|
.k 64 (.tup []) 56 [(.t 63), (.con (V.str ⟨2, 23901⟩))]<|
.nil))
def C151_5 : XC := (.seq (.seq (.ops (.m 50 0<|
.n 51 50<|
.f 52 7 51<|
.l 53 .i 52<|
.b 54 .eql .none (.t 53) (.i 0)<|
.nil))
 (.cond (.tmp 54) .skip
 (.exit 3)))
 (.block 4 (.seq (.ops (.m 55 0<|
.m 56 1<|
.m 57 2<|
.m 58 6<|
.k 59 (.tup []) 180 [(.t 55), (.t 56), (.t 57), (.t 58)]<|
.nil))
 (.seq (.ops (.m 60 0<|
.k 61 .bool 57 [(.t 60), (.con (V.str ⟨1, 44⟩))]<|
.p 62 [61] (.un .not (.t 61))<|
.nil))
 (.cond (.tmp 62) (.exit 3)
 .skip)))))
def A151 : XFn := ⟨83, [.ptr, .ptr, .i], [], (C151_0 C151_1 (C151_2 C151_3 C151_4 C151_5))⟩
def C153_0 (cc1 : XC) (cc2 : XC) : XC := (.seq (.ops (.pal 2 [] 45 [(V.int .i64 (Int.ofNat 0)), (V.int .i64 (Int.ofNat 0))]<|
.nil))
 (.seq (.seq (.ops (.m 3 0<|
.nil))
 (.block 0 (.seq (.ops (.b 5 .eql .none (.t 3) (.i 1)<|
.m 4 5<|
.nil))
 (.cond (.tmp 4) (.seq (.ops (.op (some 6) (.agg [.i, .i]) [] (.build [(V.int .i64 (Int.ofNat 0)), (V.int .i64 (Int.ofNat 0))] [(1, 1, (.i 1))])<|
.op none (.agg [.i, .i]) [2, 6] (.store 2 (.t 2) (.t 6))<|
.nil))
 .ret)
 (.seq (.ops (.b 8 .eql .none (.t 3) (.i 2)<|
.m 7 8<|
.nil))
 (.cond (.tmp 7) (.seq (.ops (.op (some 9) (.agg [.i, .i]) [] (.build [(V.int .i64 (Int.ofNat 0)), (V.int .i64 (Int.ofNat 0))] [(1, 1, (.i 2))])<|
.op none (.agg [.i, .i]) [2, 9] (.store 2 (.t 2) (.t 9))<|
.nil))
 .ret)
 (.seq (.ops (.b 11 .eql .none (.t 3) (.i 5)<|
.m 10 11<|
.nil))
 (.cond (.tmp 10) (.seq (.ops (.op (some 12) (.agg [.i, .i]) [] (.build [(V.int .i64 (Int.ofNat 0)), (V.int .i64 (Int.ofNat 0))] [(1, 1, (.i 4))])<|
.op none (.agg [.i, .i]) [2, 12] (.store 2 (.t 2) (.t 12))<|
.nil))
 .ret)
 (.seq (.ops (.b 14 .eql .none (.t 3) (.i 4)<|
.m 13 14<|
.nil))
 (.cond (.tmp 13) (.seq (.ops (.op (some 15) (.agg [.i, .i]) [] (.build [(V.int .i64 (Int.ofNat 0)), (V.int .i64 (Int.ofNat 0))] [(1, 1, (.i 5))])<|
.op none (.agg [.i, .i]) [2, 15] (.store 2 (.t 2) (.t 15))<|
.nil))
 .ret)
 (.seq (.ops (.b 17 .eql .none (.t 3) (.i 3)<|
.m 16 17<|
.nil))
 (.cond (.tmp 16) (.seq (.ops (.op (some 18) (.agg [.i, .i]) [] (.build [(V.int .i64 (Int.ofNat 0)), (V.int .i64 (Int.ofNat 0))] [(1, 1, (.i 10))])<|
.op none (.agg [.i, .i]) [2, 18] (.store 2 (.t 2) (.t 18))<|
.nil))
 .ret)
 (.seq (.ops (.b 20 .eql .none (.t 3) (.i 6)<|
.m 19 20<|
.nil))
 (.cond (.tmp 19) (.seq (.ops (.op (some 21) (.agg [.i, .i]) [] (.build [(V.int .i64 (Int.ofNat 0)), (V.int .i64 (Int.ofNat 0))] [(1, 1, (.i 12))])<|
.op none (.agg [.i, .i]) [2, 21] (.store 2 (.t 2) (.t 21))<|
.nil))
 .ret)
 (.seq (.seq (.ops (.b 23 .eql .none (.t 3) (.i 7)<|
.m 22 23<|
.nil))
 (.cond (.tmp 22) .skip
 (.ops (.b 24 .eql .none (.t 3) (.i 10)<|
.m 22 24<|
.nil))))
 (.keep [(3, .i), (22, .bool)] [2] [(2, [.i, .i])] cc2))))))))))))))))
 (.keep [] [2] [(2, [.i, .i])] cc1)))
def C153_1 : XC := (.seq (.ops (.op (some 29) (.agg [.i, .i]) [] (.build [(V.int .i64 (Int.ofNat 0)), (V.int .i64 (Int.ofNat 0))] [])<|
.op none (.agg [.i, .i]) [2, 29] (.store 2 (.t 2) (.t 29))<|
.nil))
 .ret)
def C153_2 : XC := (.cond (.tmp 22) (.seq (.ops (.op (some 25) (.agg [.i, .i]) [] (.build [(V.int .i64 (Int.ofNat 0)), (V.int .i64 (Int.ofNat 0))] [(1, 1, (.i 16))])<|
.op none (.agg [.i, .i]) [2, 25] (.store 2 (.t 2) (.t 25))<|
.nil))
 .ret)
 (.seq (.ops (.b 27 .eql .none (.t 3) (.i 8)<|
.m 26 27<|
.nil))
 (.cond (.tmp 26) (.seq (.ops (.op (some 28) (.agg [.i, .i]) [] (.build [(V.int .i64 (Int.ofNat 0)), (V.int .i64 (Int.ofNat 0))] [(1, 1, (.i 17))])<|
.op none (.agg [.i, .i]) [2, 28] (.store 2 (.t 2) (.t 28))<|
.nil))
 .ret)
 .skip)))
def A153 : XFn := ⟨30, [.i], [(.cell 2 (some 2))], (C153_0 C153_1 C153_2)⟩
def C154_0 : XC := (.seq (.ops (.p 2 [0] (.box 135 (.t 0))<|
.q 4 0<|
.nil))
 (.seq (.seq (.ops (.f 5 0 2<|
.l 6 .bool 5<|
.p 7 [6] (.un .not (.t 6))<|
.nil))
 (.cond (.tmp 7) (.seq (.ops (.q 4 0<|
.nil))
 .ret)
 .skip))
 (.seq (.seq (.ops (.f 8 1 2<|
.l 9 .bool 8<|
.m 10 9<|
.grp 10 true (.p 11 [2, 10] (.faddr 2 (.t 2))<|
.op (some 12) .bool [11, 10] (.load none (.t 11))<|
.nil) 13 [10, 12] (.t 10) (.t 12) (.con (V.bool false))<|
.m 14 13<|
.grp 14 true (.p 15 [2, 14] (.faddr 4 (.t 2))<|
.op (some 16) .i [15, 14] (.load none (.t 15))<|
.p 17 [2, 14] (.faddr 5 (.t 2))<|
.op (some 18) .i [17, 14] (.load none (.t 17))<|
.p 19 [16, 18, 14] (.bin .gtr .none (.t 16) (.t 18))<|
.nil) 20 [14, 19] (.t 14) (.t 19) (.con (V.bool false))<|
.nil))
 (.cond (.tmp 20) (.seq (.ops (.q 4 11<|
.nil))
 .ret)
 .skip))
 (.seq (.seq (.ops (.m 21 1<|
.m 22 21<|
.grp 22 true (.p 23 [2, 22] (.faddr 1 (.t 2))<|
.op (some 24) .bool [23, 22] (.load none (.t 23))<|
.p 25 [24, 22] (.un .not (.t 24))<|
.p 26 [25, 22] (.mov (.t 25))<|
.grp 26 false (.p 27 [2, 26] (.faddr 4 (.t 2))<|
.op (some 28) .i [27, 26] (.load none (.t 27))<|
.p 29 [28, 26] (.bin .lss .none (.t 28) (.i 0))<|
.nil) 30 [26, 29, 22] (.t 26) (.con (V.bool true)) (.t 29)<|
.p 31 [30, 22] (.mov (.t 30))<|
.grp 31 false (.p 32 [2, 31] (.faddr 4 (.t 2))<|
.op (some 33) .i [32, 31] (.load none (.t 32))<|
.p 34 [33, 31] (.bin .gtr .none (.t 33) (.i 70000))<|
.nil) 35 [31, 34, 22] (.t 31) (.con (V.bool true)) (.t 34)<|
.p 36 [35, 22] (.mov (.t 35))<|
.grp 36 false (.p 37 [2, 36] (.faddr 2 (.t 2))<|
.op (some 38) .bool [37, 36] (.load none (.t 37))<|
.p 39 [38, 36] (.mov (.t 38))<|
.grp 39 true (.p 40 [2, 39] (.faddr 5 (.t 2))<|
.op (some 41) .i [40, 39] (.load none (.t 40))<|
.p 42 [41, 39] (.bin .lss .none (.t 41) (.i 0))<|
.p 43 [42, 39] (.mov (.t 42))<|
.grp 43 false (.p 44 [2, 43] (.faddr 5 (.t 2))<|
.op (some 45) .i [44, 43] (.load none (.t 44))<|
.p 46 [45, 43] (.bin .gtr .none (.t 45) (.i 70000))<|
.nil) 47 [43, 46, 39] (.t 43) (.con (V.bool true)) (.t 46)<|
.nil) 48 [39, 47, 36] (.t 39) (.t 47) (.con (V.bool false))<|
.nil) 49 [36, 48, 22] (.t 36) (.con (V.bool true)) (.t 48)<|
.nil) 50 [22, 49] (.t 22) (.t 49) (.con (V.bool false))<|
.nil))
 (.cond (.tmp 50) (.seq (.ops (.q 4 11<|
.nil))
 .ret)
 .skip))
 (.seq (.ops (.q 4 0<|
.nil))
 .ret)))))
def A154 : XFn := ⟨51, [(.agg [.bool, .bool, .bool, .bool, .i, .i]), .bool], [(.tmp 4)], C154_0⟩
def G156_0 : List AOper := [⟨(some 130), .mov (.tmp 0), none⟩, ⟨(some 131), .faddr 1 (.tmp 13), none⟩, ⟨(some 132), .load none (.tmp 131), none⟩, ⟨(some 133), .mov (.tmp 12), none⟩, ⟨(some 134), .mov (.tmp 0), none⟩, ⟨(some 135), .faddr 1 (.tmp 13), none⟩, ⟨(some 136), .load none (.tmp 135), none⟩, ⟨(some 137), .call 107 [(.tmp 134), (.tmp 136)], none⟩, ⟨(some 138), .call 108 [(.tmp 130), (.tmp 132), (.tmp 133), (.tmp 137)], none⟩]
def H156_0 : List DP := [⟨0, [0]⟩, ⟨0, [13]⟩, ⟨2, [131]⟩, ⟨0, [12]⟩, ⟨0, [0]⟩, ⟨0, [13]⟩, ⟨32, [135]⟩, ⟨112, [134, 136]⟩, ⟨255, [130, 132, 133, 137]⟩]
def C156_0 (cc1 : XC) (cc2 : XC) : XC := (.seq (.ops (.p 6 [2] (.box 175 (.t 2))<|
.nil))
 (.seq (.ops (.m 15 0<|
.n 16 15<|
.f 17 0 16<|
.f 18 1 17<|
.l 19 .i 18<|
.b 20 .neq .none (.t 19) (.i 2)<|
.m 8 20<|
.nil))
 (.seq (.seq (.ops (.q 9 0<|
.nil))
 (.block 0 (.loop [(0, .ptr), (1, .i), (3, .i), (6, .ptr), (8, .bool), (9, .i)] [] [] cc2)))
 (.keep [(0, .ptr), (1, .i), (3, .i), (6, .ptr), (8, .bool)] [] [] cc1))))
def C156_1 (cc3 : XC) : XC := (.seq (.seq (.ops (.f 47 0 6<|
.l 48 .i 47<|
.b 49 .eql .none (.t 48) (.i 9)<|
.m 50 49<|
.grp 50 true (.p 51 [6, 50] (.faddr 12 (.t 6))<|
.p 52 [51, 50] (.load none (.t 51))<|
.p 53 [52, 50] (.len false (.t 52))<|
.p 54 [53, 50] (.bin .eql .none (.t 53) (.i 0))<|
.nil) 55 [50, 54] (.t 50) (.t 54) (.con (V.bool false))<|
.m 56 55<|
.grp 56 true (.p 57 [6, 56] (.faddr 14 (.t 6))<|
.op (some 58) .bool [57, 56] (.load none (.t 57))<|
.p 59 [58, 56] (.un .not (.t 58))<|
.nil) 60 [56, 59] (.t 56) (.t 59) (.con (V.bool false))<|
.nil))
 (.cond (.tmp 60) (.ops (.m 61 0<|
.k 62 (.tup []) 152 [(.t 61), (.i 11)]<|
.nil))
 .skip))
 (.keep [(0, .ptr), (1, .i), (3, .i), (6, .ptr), (8, .bool)] [] [] cc3))
def C156_2 : XC := (.seq (.seq (.ops (.m 21 9<|
.f 22 12 6<|
.l 23 .any 22<|
.u 24 23<|
.b 25 .lss .none (.t 21) (.t 24)<|
.nil))
 (.cond (.tmp 25) .skip
 (.exit 0)))
 (.seq (.block 1 (.seq (.ops (.f 28 12 6<|
.l 29 .any 28<|
.m 30 9<|
.s 31 11 29 30<|
.op (some 32) (.agg [.str, .i, .bool, .bool, .i, .i, .any, .any, .i, .any, .i]) [31] (.load (some 11) (.t 31))<|
.pal 10 [] 142 [(V.str ⟨0, 0⟩), (V.int .i64 (Int.ofNat 0)), (V.bool false), (V.bool false), (V.int .i64 (Int.ofNat 0)), (V.int .i64 (Int.ofNat 0)), V.nils, V.nils, (V.int .i64 (Int.ofNat 0)), V.nils, (V.int .i64 (Int.ofNat 0))]<|
.op none (.agg [.str, .i, .bool, .bool, .i, .i, .any, .any, .i, .any, .i]) [10, 32] (.store 11 (.t 10) (.t 32))<|
.nil))
 (.draw (.m 33 8<|
.m 34 33<|
.grp 34 false (.p 35 [0, 34] (.mov (.t 0))<|
.p 36 [35, 34] (.nilck (.t 35))<|
.p 37 [36, 34] (.faddr 0 (.t 36))<|
.p 38 [37, 34] (.faddr 4 (.t 37))<|
.p 39 [38, 34] (.load none (.t 38))<|
.p 40 [10, 34] (.faddr 1 (.t 10))<|
.op (some 41) .i [40, 34] (.load none (.t 40))<|
.p 42 [39, 41, 34] (.iaddrS 16 (.t 39) (.t 41))<|
.p 43 [42, 34] (.faddr 2 (.t 42))<|
.p 44 [43, 34] (.faddr 0 (.t 43))<|
.op (some 45) .bool [44, 34] (.load none (.t 44))<|
.nil) 46 [34, 45] (.t 34) (.con (V.bool true)) (.t 45)<|
.m 8 46<|
.nil) [0, 1, 3, 7, 15, 31, 63, 3, 131, 511, 1023, 2047, 4095, 8191, 16383])))
 (.ops (.m 26 9<|
.b 27 .add .none (.t 26) (.i 1)<|
.m 9 27<|
.nil))))
def C156_3 (cc4 : XC) (cc5 : XC) : XC := (.seq (.ops (.c 11 V.nils<|
.nil))
 (.seq (.seq (.ops (.q 12 0<|
.nil))
 (.block 2 (.loop [(0, .ptr), (1, .i), (3, .i), (6, .ptr), (8, .bool), (11, .any), (12, .i)] [] [] cc5)))
 (.keep [(0, .ptr), (1, .i), (11, .any)] [] [] cc4)))
def C156_4 : XC := (.seq (.ops (.m 143 0<|
.n 144 143<|
.f 145 6 144<|
.l 146 .i 145<|
.b 147 .eql .none (.t 146) (.i 0)<|
.nil))
 (.cond (.tmp 147) (.seq (.ops (.m 148 0<|
.n 149 148<|
.f 150 5 149<|
.l 151 .any 150<|
.m 152 1<|
.m 153 11<|
.s 154 13 151 152<|
.f 155 9 154<|
.w 1 155 153<|
.nil))
 (.seq (.ops (.m 156 0<|
.m 157 0<|
.n 158 157<|
.f 159 5 158<|
.l 160 .any 159<|
.m 161 1<|
.s 162 13 160 161<|
.op (some 163) (.agg [.i, .any, .bool, .bool, .bool, .bool, .i, .i, .any, .any, .i, .bool, .i]) [162] (.load (some 13) (.t 162))<|
.k 164 .bool 183 [(.t 156), (.t 163)]<|
.p 165 [164] (.un .not (.t 164))<|
.nil))
 (.cond (.tmp 165) (.ops (.m 166 0<|
.k 167 (.tup []) 152 [(.t 166), (.i 12)]<|
.nil))
 .skip)))
 .skip))
def C156_5 (cc6 : XC) (cc7 : XC) (cc8 : XC) : XC := (.seq (.seq (.ops (.m 63 12<|
.f 64 12 6<|
.l 65 .any 64<|
.u 66 65<|
.b 67 .lss .none (.t 63) (.t 66)<|
.m 68 67<|
.grp 68 true (.p 69 [0, 68] (.mov (.t 0))<|
.p 70 [69, 68] (.nilck (.t 69))<|
.p 71 [70, 68] (.faddr 6 (.t 70))<|
.op (some 72) .i [71, 68] (.load none (.t 71))<|
.p 73 [72, 68] (.bin .eql .none (.t 72) (.i 0))<|
.nil) 74 [68, 73] (.t 68) (.t 73) (.con (V.bool false))<|
.nil))
 (.cond (.tmp 74) .skip
 (.exit 2)))
 (.seq (.block 3 (.seq (.ops (.f 77 12 6<|
.l 78 .any 77<|
.m 79 12<|
.s 80 11 78 79<|
.op (some 81) (.agg [.str, .i, .bool, .bool, .i, .i, .any, .any, .i, .any, .i]) [80] (.load (some 11) (.t 80))<|
.p 13 [] (.alloc 142 [(V.str ⟨0, 0⟩), (V.int .i64 (Int.ofNat 0)), (V.bool false), (V.bool false), (V.int .i64 (Int.ofNat 0)), (V.int .i64 (Int.ofNat 0)), V.nils, V.nils, (V.int .i64 (Int.ofNat 0)), V.nils, (V.int .i64 (Int.ofNat 0))])<|
.op none (.agg [.str, .i, .bool, .bool, .i, .i, .any, .any, .i, .any, .i]) [13, 81] (.store 11 (.t 13) (.t 81))<|
.nil))
 (.seq (.seq (.ops (.q 14 0<|
.nil))
 (.block 4 (.loop [(0, .ptr), (1, .i), (3, .i), (6, .ptr), (8, .bool), (11, .any), (12, .i), (13, .ptr), (14, .i)] [] [] cc8)))
 (.keep [(0, .ptr), (1, .i), (3, .i), (6, .ptr), (8, .bool), (11, .any), (12, .i), (13, .ptr)] [] [] cc7))))
 (.keep [(0, .ptr), (1, .i), (3, .i), (6, .ptr), (8, .bool), (11, .any), (12, .i)] [] [] cc6)))
def C156_6 : XC := (.ops (.m 75 12<|
.b 76 .add .none (.t 75) (.i 1)<|
.m 12 76<|
.nil))
def C156_7 (cc10 : XC) : XC := (.seq (.ops (.m 98 0<|
.f 99 1 13<|
.l 100 .i 99<|
.m 101 3<|
.b 102 .add .none (.t 101) (.i 1)<|
.k 103 .i 62 [(.t 98), (.t 100), (.t 102)]<|
.f 104 1 13<|
.w 1 104 103<|
.nil))
 (.seq (.seq (.ops (.m 105 0<|
.n 106 105<|
.f 107 6 106<|
.l 108 .i 107<|
.b 109 .eql .none (.t 108) (.i 0)<|
.m 110 109<|
.grp 110 true (.p 111 [13, 110] (.faddr 3 (.t 13))<|
.op (some 112) .bool [111, 110] (.load none (.t 111))<|
.nil) 113 [110, 112] (.t 110) (.t 112) (.con (V.bool false))<|
.nil))
 (.cond (.tmp 113) (.ops (.m 114 0<|
.f 115 1 13<|
.l 116 .i 115<|
.f 117 4 13<|
.op (some 118) (.agg [.i, .i, .any, .any, .i, .any]) [117] (.load (some 6) (.t 117))<|
.k 119 (.agg [.i, .i, .any, .any, .i, .any]) 182 [(.t 114), (.t 116), (.t 118)]<|
.f 120 4 13<|
.op none (.agg [.i, .i, .any, .any, .i, .any]) [120, 119] (.store 6 (.t 120) (.t 119))<|
.nil))
 .skip))
 (.keep [(0, .ptr), (1, .i), (3, .i), (6, .ptr), (8, .bool), (11, .any), (12, .i), (13, .ptr)] [] [] cc10)))
def C156_8 (cc9 : XC) : XC := (.seq (.seq (.ops (.m 82 14<|
.m 83 12<|
.b 84 .lss .none (.t 82) (.t 83)<|
.nil))
 (.cond (.tmp 84) .skip
 (.exit 4)))
 (.seq (.block 5 (.seq (.draw (.f 87 12 6<|
.l 88 .any 87<|
.m 89 14<|
.s 90 11 88 89<|
.f 91 0 90<|
.l 92 .str 91<|
.f 93 0 13<|
.l 94 .str 93<|
.b 95 .eql .none (.t 92) (.t 94)<|
.nil) [0, 1, 0, 7, 15, 31, 0, 64, 255])
 (.cond (.tmp 95) (.ops (.m 96 0<|
.k 97 (.tup []) 152 [(.t 96), (.i 8)]<|
.nil))
 .skip)))
 (.keep [(0, .ptr), (1, .i), (3, .i), (6, .ptr), (8, .bool), (11, .any), (12, .i), (13, .ptr), (14, .i)] [] [] cc9)))
def C156_9 : XC := (.ops (.m 85 14<|
.b 86 .add .none (.t 85) (.i 1)<|
.m 14 86<|
.nil))
def C156_10 (cc11 : XC) : XC := (.seq (.seq (.ops (.m 121 0<|
.n 122 121<|
.f 123 6 122<|
.l 124 .i 123<|
.b 125 .eql .none (.t 124) (.i 0)<|
.m 126 125<|
.grp 126 true (.p 127 [8, 126] (.mov (.t 8))<|
.p 128 [127, 126] (.un .not (.t 127))<|
.nil) 129 [126, 128] (.t 126) (.t 128) (.con (V.bool false))<|
.nil))
 (.cond (.tmp 129) (.keep [(0, .ptr), (1, .i), (3, .i), (6, .ptr), (8, .bool), (11, .any), (12, .i), (13, .ptr)] [] [] (.gdraw G156_0 H156_0 [(0, .ptr), (1, .i), (3, .i), (6, .ptr), (8, .bool), (11, .any), (12, .i), (13, .ptr)]))
 .skip))
 (.keep [(0, .ptr), (1, .i), (3, .i), (6, .ptr), (8, .bool), (11, .any), (12, .i), (13, .ptr)] [] [] cc11))
def C156_11 : XC := (.ops (.m 139 11<|
.op (some 140) (.agg [.str, .i, .bool, .bool, .i, .i, .any, .any, .i, .any, .i]) [13] (.load (some 11) (.t 13))<|
.p 141 [140] (.buildSlice 142 1 [(V.str ⟨0, 0⟩), (V.int .i64 (Int.ofNat 0)), (V.bool false), (V.bool false), (V.int .i64 (Int.ofNat 0)), (V.int .i64 (Int.ofNat 0)), V.nils, V.nils, (V.int .i64 (Int.ofNat 0)), V.nils, (V.int .i64 (Int.ofNat 0))] [(0, 11, (.t 140))])<|
.op (some 142) .one [139, 141] (.append 142 11 136 (.t 139) (.t 141))<|
.m 11 142<|
.nil))
def A156 : XFn := ⟨168, [.ptr, .i, (.agg [.i, .str, .bool, .i, .i, .bool, .bool, .bool, .bool, .i, .i, .any, .any, .i, .bool, .i]), .i], [], (C156_0 (C156_1 (C156_3 C156_4 (C156_5 C156_6 (C156_7 (C156_10 C156_11)) (C156_8 C156_9)))) C156_2)⟩
def C157_0 : XC := (.seq (.ops (.c 6 V.nils<|
.q 7 0<|
.nil))
 (.seq (.seq (.ops (.m 9 1<|
.b 10 .lss .none (.t 9) (.i 0)<|
.m 11 10<|
.grp 11 false (.p 12 [1, 11] (.mov (.t 1))<|
.p 13 [12, 11] (.bin .gtr .none (.t 12) (.i 268435456))<|
.nil) 14 [11, 13] (.t 11) (.con (V.bool true)) (.t 13)<|
.m 15 14<|
.grp 15 false (.p 16 [2, 15] (.mov (.t 2))<|
.p 17 [16, 15] (.bin .eql .none (.t 16) (.i 1))<|
.p 18 [17, 15] (.mov (.t 17))<|
.grp 18 true (.p 19 [0, 18] (.mov (.t 0))<|
.p 20 [19, 18] (.len false (.t 19))<|
.p 21 [20, 18] (.bin .eql .none (.t 20) (.i 0))<|
.nil) 22 [18, 21, 15] (.t 18) (.t 21) (.con (V.bool false))<|
.nil) 23 [15, 22] (.t 15) (.con (V.bool true)) (.t 22)<|
.nil))
 (.cond (.tmp 23) (.seq (.ops (.c 6 V.nils<|
.q 7 12<|
.nil))
 .ret)
 .skip))
 (.seq (.ops (.m 24 1<|
.op (some 25) (.agg [.i, .i]) [24] (.build [(V.int .i64 (Int.ofNat 0)), (V.int .i64 (Int.ofNat 0))] [(0, 1, (.i 2)), (1, 1, (.t 24))])<|
.p 26 [25] (.buildSlice 45 1 [(V.int .i64 (Int.ofNat 0)), (V.int .i64 (Int.ofNat 0))] [(0, 2, (.t 25))])<|
.m 8 26<|
.nil))
 (.seq (.seq (.ops (.m 27 2<|
.b 28 .eql .none (.t 27) (.i 1)<|
.nil))
 (.cond (.tmp 28) (.seq (.ops (.m 29 8<|
.m 30 0<|
.p 31 [30] (.sliceSl 2 (.t 30) (some (.i 1)) none none)<|
.op (some 32) .one [29, 31] (.append 45 2 16 (.t 29) (.t 31))<|
.m 6 32<|
.q 7 0<|
.nil))
 .ret)
 .skip))
 (.seq (.ops (.m 33 8<|
.m 34 0<|
.op (some 35) .one [33, 34] (.append 45 2 16 (.t 33) (.t 34))<|
.m 6 35<|
.q 7 0<|
.nil))
 .ret)))))
def A157 : XFn := ⟨36, [.any, .i, .i], [(.tmp 6), (.tmp 7)], C157_0⟩
/-! ### F160: __ogham_value.checker_.list_1 -/
def Fin160 (E : List (Nat × Blk)) : St → Ans := fun s => resK E s [(.tmp 5)] fun l => some (oneV l, s.σ)
def C160_0 : XC := (.seq (.ops (.p 4 [0] (.box 26 (.t 0))<|
.c 5 (V.bool false)<|
.nil))
 (.seq (.ops (.l 6 .any 1<|
.f 7 12 2<|
.l 8 .i 7<|
.op (some 9) (.agg [.i, .i, .any, .any, .i, .any]) [4] (.load (some 6) (.t 4))<|
.l 10 .i 3<|
.b 11 .add .none (.t 10) (.i 1)<|
.k 12 .bool 63 [(.t 6), (.t 8), (.t 9), (.t 11)]<|
.p 13 [12] (.un .not (.t 12))<|
.m 5 13<|
.nil))
 .ret))
def T160_0 (E : List (Nat × Blk)) (D : Den) (W : DrawFn) (v0_0 v0_1 : Int) (v0_2 v0_3 : V) (v0_4 : Int) (v0_5 v1 v2 v3 : V) (σ : H) : Ans :=
 chk (allOne (V.cells (V.agg [(V.int .i64 v0_0), (V.int .i64 v0_1), v0_2, v0_3, (V.int .i64 v0_4), v0_5]))) (
 let s1 := newB σ (.cells (V.cells (V.agg [(V.int .i64 v0_0), (V.int .i64 v0_1), v0_2, v0_3, (V.int .i64 v0_4), v0_5])));
 rtPtr v1 fun b2 o3 =>
 ldK E s1 b2 o3 fun u4 =>
 rtPtr v2 fun b5 o6 =>
 ldK E s1 b5 (Nat.add o6 12) fun u7 =>
 rtInt .i64 u7 fun x8 =>
 ldnK E s1 (H.next σ) 0 6 fun l9 =>
 rtCons l9 fun x10 l11 =>
 rtInt .i64 x10 fun x12 =>
 rtCons l11 fun x13 l14 =>
 rtInt .i64 x13 fun x15 =>
 rtCons l14 fun x16 l17 =>
 rtCons l17 fun x18 l19 =>
 rtCons l19 fun x20 l21 =>
 rtInt .i64 x20 fun x22 =>
 rtCons l21 fun x23 l24 =>
 rtNil l24 (
 rtPtr v3 fun b25 o26 =>
 ldK E s1 b25 o26 fun u27 =>
 rtInt .i64 u27 fun x28 =>
 callK (D 63 [u4, (V.int .i64 x8), (V.agg [(V.int .i64 x12), (V.int .i64 x15), x16, x18, (V.int .i64 x22), x23]), (V.int .i64 (addF .i64 x28 (Int.ofNat 1)))] s1) fun u29 s30 =>
 rtBool u29 fun x31 =>
 some ((V.bool (not x31)), s30)))
def S160_0 (v0_0 v0_1 : Int) (v0_2 v0_3 : V) (v0_4 : Int) (v0_5 v1 v2 v3 : V) (σ : H) : St := ⟨[(0, (V.agg [(V.int .i64 v0_0), (V.int .i64 v0_1), v0_2, v0_3, (V.int .i64 v0_4), v0_5])), (1, v1), (2, v2), (3, v3)], [], [], σ⟩
theorem P160_0 (v0_0 v0_1 : Int) (v0_2 v0_3 : V) (v0_4 : Int) (v0_5 v1 v2 v3 : V) (σ : H) :
  denC E D W N (C160_0 ) (S160_0 v0_0 v0_1 v0_2 v0_3 v0_4 v0_5 v1 v2 v3 σ) (Fin160 E) (fun _ _ => none) (Fin160 E) =
  T160_0 E D W  v0_0 v0_1 v0_2 v0_3 v0_4 v0_5 v1 v2 v3 σ := by kernel_rfl
def J160_0 (E : List (Nat × Blk)) (D : Den) (W : DrawFn) (N : Nat) : Int → Int → V → V → Int → V → V → V → V → H → Ans := T160_0 E D W 
theorem JE160_0 (v0_0 v0_1 : Int) (v0_2 v0_3 : V) (v0_4 : Int) (v0_5 v1 v2 v3 : V) (σ : H) :
  denC E D W N C160_0 (S160_0 v0_0 v0_1 v0_2 v0_3 v0_4 v0_5 v1 v2 v3 σ) (Fin160 E) (fun _ _ => none) (Fin160 E) = J160_0 E D W N v0_0 v0_1 v0_2 v0_3 v0_4 v0_5 v1 v2 v3 σ := by
  refine (P160_0 E D W N   v0_0 v0_1 v0_2 v0_3 v0_4 v0_5 v1 v2 v3 σ).trans ?_
  kernel_rfl
def F160 (args : List V) (σ : H) : Ans :=
 rtCons args fun x1 l2 =>
 rtAgg x1 fun l3 =>
 rtCons l3 fun x4 l5 =>
 rtInt .i64 x4 fun x6 =>
 rtCons l5 fun x7 l8 =>
 rtInt .i64 x7 fun x9 =>
 rtCons l8 fun x10 l11 =>
 rtCons l11 fun x12 l13 =>
 rtCons l13 fun x14 l15 =>
 rtInt .i64 x14 fun x16 =>
 rtCons l15 fun x17 l18 =>
 rtNil l18 (
 rtCons l2 fun x19 l20 =>
 rtCons l20 fun x21 l22 =>
 rtCons l22 fun x23 l24 =>
 rtNil l24 (
 J160_0 E D W N x6 x9 x10 x12 x16 x17 x19 x21 x23 σ))
def A160 : XFn := ⟨14, [(.agg [.i, .i, .any, .any, .i, .any]), .any, .any, .any], [(.tmp 5)], C160_0⟩
theorem FE160 (args : List V) (σ : H) : runX E D W N A160 args σ = F160 E D W N args σ := by
  unfold F160
  simp only [← JE160_0]
  kernel_rfl
theorem AO160 : A160.body.ok = true := by kernel_rfl

/-! ### F161: __ogham_value.checker_.raws -/
def Fin161 (E : List (Nat × Blk)) : St → Ans := fun s => resK E s [(.tmp 6)] fun l => some (oneV l, s.σ)
def C161_0 (cc1 : XC) (cc2 : XC) : XC := (.seq (.ops (.p 5 [2] (.box 26 (.t 2))<|
.c 6 (V.bool false)<|
.nil))
 (.seq (.ops (.m 14 0<|
.n 15 14<|
.f 16 0 15<|
.f 17 0 16<|
.f 18 3 17<|
.l 19 .any 18<|
.m 20 1<|
.s 21 13 19 20<|
.op (some 22) (.agg [.i, .any, .bool, .bool, .bool, .bool, .i, .i, .any, .any, .i, .bool, .i]) [21] (.load (some 13) (.t 21))<|
.pal 7 [] 139 [(V.int .i64 (Int.ofNat 0)), V.nils, (V.bool false), (V.bool false), (V.bool false), (V.bool false), (V.int .i64 (Int.ofNat 0)), (V.int .i64 (Int.ofNat 0)), V.nils, V.nils, (V.int .i64 (Int.ofNat 0)), (V.bool false), (V.int .i64 (Int.ofNat 0))]<|
.op none (.agg [.i, .any, .bool, .bool, .bool, .bool, .i, .i, .any, .any, .i, .bool, .i]) [7, 22] (.store 13 (.t 7) (.t 22))<|
.nil))
 (.seq (.seq (.ops (.f 23 5 5<|
.l 24 .any 23<|
.u 25 24<|
.b 26 .eql .none (.t 25) (.i 0)<|
.nil))
 (.cond (.tmp 26) (.seq (.ops (.f 27 4 5<|
.l 28 .i 27<|
.b 29 .eql .none (.t 28) (.i 0)<|
.m 6 29<|
.nil))
 .ret)
 .skip))
 (.seq (.seq (.ops (.f 30 11 7<|
.l 31 .bool 30<|
.p 32 [31] (.un .not (.t 31))<|
.m 33 32<|
.grp 33 false (.p 34 [5, 33] (.faddr 4 (.t 5))<|
.op (some 35) .i [34, 33] (.load none (.t 34))<|
.p 36 [35, 33] (.bin .neq .none (.t 35) (.i 1))<|
.p 37 [36, 33] (.mov (.t 36))<|
.grp 37 true (.p 38 [5, 37] (.faddr 4 (.t 5))<|
.op (some 39) .i [38, 37] (.load none (.t 38))<|
.p 40 [39, 37] (.bin .neq .none (.t 39) (.i 2))<|
.nil) 41 [37, 40, 33] (.t 37) (.t 40) (.con (V.bool false))<|
.nil) 42 [33, 41] (.t 33) (.con (V.bool true)) (.t 41)<|
.nil))
 (.cond (.tmp 42) (.seq (.ops (.c 6 (V.bool false)<|
.nil))
 .ret)
 .skip))
 (.seq (.ops (.m 43 0<|
.n 44 43<|
.f 45 0 44<|
.f 46 0 45<|
.op (some 47) (.agg [.str, .any, .any, .any]) [46] (.load (some 4) (.t 46))<|
.m 48 1<|
.k 49 .one 187 [(.t 47), (.t 48)]<|
.u 50 49<|
.m 8 50<|
.nil))
 (.seq (.ops (.pal 9 [] 45 [(V.int .i64 (Int.ofNat 0)), (V.int .i64 (Int.ofNat 0))]<|
.nil))
 (.seq (.seq (.ops (.f 51 5 5<|
.l 52 .any 51<|
.u 53 52<|
.q 54 0<|
.nil))
 (.block 0 (.loop [(0, .ptr), (1, .i), (5, .ptr), (8, .i), (52, .any), (53, .i), (54, .i)] [7, 9] [(7, [.i, .any, .bool, .bool, .bool, .bool, .i, .i, .any, .any, .i, .bool, .i]), (9, [.i, .i])] cc2)))
 (.keep [] [] [] cc1))))))))
def T161_0 (E : List (Nat × Blk)) (D : Den) (W : DrawFn) (K2 : Nat → Nat → Int → Nat → Nat → Int → V → Int → Int → Int → V → Bool → Bool → Bool → Bool → Int → Int → V → V → Int → Bool → Int → Int → Int → H → Ans) (v0b v0o : Nat) (v1 v2_0 v2_1 : Int) (v2_2 v2_3 : V) (v2_4 : Int) (v2_5 : V) (σ : H) : Ans :=
 chk (allOne (V.cells (V.agg [(V.int .i64 v2_0), (V.int .i64 v2_1), v2_2, v2_3, (V.int .i64 v2_4), v2_5]))) (
 let s1 := newB σ (.cells (V.cells (V.agg [(V.int .i64 v2_0), (V.int .i64 v2_1), v2_2, v2_3, (V.int .i64 v2_4), v2_5])));
 ldK E s1 v0b (Nat.add v0o 3) fun u2 =>
 iaddrSK 13 u2 v1 fun b3 o4 =>
 ldnK E s1 b3 o4 13 fun l5 =>
 rtCons l5 fun x6 l7 =>
 rtInt .i64 x6 fun x8 =>
 rtCons l7 fun x9 l10 =>
 rtCons l10 fun x11 l12 =>
 rtBool x11 fun x13 =>
 rtCons l12 fun x14 l15 =>
 rtBool x14 fun x16 =>
 rtCons l15 fun x17 l18 =>
 rtBool x17 fun x19 =>
 rtCons l18 fun x20 l21 =>
 rtBool x20 fun x22 =>
 rtCons l21 fun x23 l24 =>
 rtInt .i64 x23 fun x25 =>
 rtCons l24 fun x26 l27 =>
 rtInt .i64 x26 fun x28 =>
 rtCons l27 fun x29 l30 =>
 rtCons l30 fun x31 l32 =>
 rtCons l32 fun x33 l34 =>
 rtInt .i64 x33 fun x35 =>
 rtCons l34 fun x36 l37 =>
 rtBool x36 fun x38 =>
 rtCons l37 fun x39 l40 =>
 rtInt .i64 x39 fun x41 =>
 rtNil l40 (
 chk (allOne [(V.int .i64 x8), x9, (V.bool x13), (V.bool x16), (V.bool x19), (V.bool x22), (V.int .i64 x25), (V.int .i64 x28), x29, x31, (V.int .i64 x35), (V.bool x38), (V.int .i64 x41)]) (
 ldK E s1 (H.next σ) 5 fun u42 =>
 slenK u42 fun n43 =>
 condK (eqF (Int.ofNat n43) (Int.ofNat 0)) (
 ldK E s1 (H.next σ) 4 fun u44 =>
 rtInt .i64 u44 fun x45 =>
 some ((V.bool (eqF x45 (Int.ofNat 0))), s1)) (
 joinB (fun c46 s47 =>
 condK c46 (
 some ((V.bool false), s47)) (
 ldnK E s47 v0b v0o 4 fun l49 =>
 rtCons l49 fun x50 l51 =>
 rtStr x50 fun x52 =>
 rtCons l51 fun x53 l54 =>
 rtCons l54 fun x55 l56 =>
 rtCons l56 fun x57 l58 =>
 rtNil l58 (
 callK (D 187 [(V.agg [(V.str x52), x53, x55, x57]), (V.int .i64 v1)] s47) fun u59 s60 =>
 rtOne u59 (
 slenK u59 fun n61 =>
 ldK E s60 (H.next σ) 5 fun u62 =>
 slenK u62 fun n63 =>
 K2 v0b v0o v1 (H.next σ) 0 (Int.ofNat n61) u62 (Int.ofNat n63) (Int.ofNat 0) x8 x9 x13 x16 x19 x22 x25 x28 x29 x31 x35 x38 x41 (Int.ofNat 0) (Int.ofNat 0) s60)))) fun k48 =>
 condK (not x38) (
 k48 true s1) (
 ldK E s1 (H.next σ) 4 fun u64 =>
 rtInt .i64 u64 fun x65 =>
 joinB (fun c66 s67 =>
 k48 c66 s67) fun k68 =>
 condK (not (eqF x65 (Int.ofNat 1))) (
 ldK E s1 (H.next σ) 4 fun u69 =>
 rtInt .i64 u69 fun x70 =>
 k68 (not (eqF x70 (Int.ofNat 2))) s1) (
 k68 false s1))))))
def C161_1 : XC := (.seq (.ops (.c 6 (V.bool true)<|
.nil))
 .ret)
def C161_2 (cc3 : XC) : XC := (.seq (.ops (.b 55 .lss .none (.t 54) (.t 53)<|
.nil))
 (.seq (.cond (.tmp 55) .skip
 (.exit 0))
 (.seq (.block 1 (.seq (.ops (.m 56 54<|
.s 57 2 52 54<|
.op (some 58) (.agg [.i, .any]) [57] (.load (some 2) (.t 57))<|
.pal 11 [] 73 [(V.int .i64 (Int.ofNat 0)), V.nils]<|
.m 10 56<|
.op none (.agg [.i, .any]) [11, 58] (.store 2 (.t 11) (.t 58))<|
.nil))
 (.seq (.seq (.ops (.f 59 4 5<|
.l 60 .i 59<|
.b 61 .eql .none (.t 60) (.i 2)<|
.nil))
 (.cond (.tmp 61) (.seq (.seq (.ops (.f 62 0 11<|
.l 63 .i 62<|
.m 64 8<|
.b 65 .lss .none (.t 63) (.t 64)<|
.m 66 65<|
.grp 66 false (.p 67 [11, 66] (.faddr 0 (.t 11))<|
.op (some 68) .i [67, 66] (.load none (.t 67))<|
.p 69 [68, 66] (.bin .geq .none (.t 68) (.i 1000))<|
.nil) 70 [66, 69] (.t 66) (.con (V.bool true)) (.t 69)<|
.m 71 70<|
.grp 71 false (.p 72 [11, 71] (.faddr 1 (.t 11))<|
.p 73 [72, 71] (.load none (.t 72))<|
.op (some 74) .bool [73, 71] (.call 159 [(.t 73)])<|
.p 75 [74, 71] (.un .not (.t 74))<|
.nil) 76 [71, 75] (.t 71) (.con (V.bool true)) (.t 75)<|
.nil))
 (.cond (.tmp 76) (.seq (.ops (.c 6 (V.bool false)<|
.nil))
 .ret)
 .skip))
 (.seq (.ops (.f 77 0 11<|
.l 78 .i 77<|
.b 79 .add .none (.t 78) (.i 1)<|
.m 8 79<|
.nil))
 (.exit 1)))
 .skip))
 (.seq (.ops (.m 81 0<|
.m 82 1<|
.f 83 1 11<|
.l 84 .any 83<|
.k 85 (.tup [(.agg [.i, .i]), .bool]) 158 [(.t 81), (.t 82), (.t 84)]<|
.m 80 85<|
.p 86 [80] (.extract 0 (.t 80))<|
.p 87 [80] (.extract 1 (.t 80))<|
.pal 12 [] 45 [(V.int .i64 (Int.ofNat 0)), (V.int .i64 (Int.ofNat 0))]<|
.op none (.agg [.i, .i]) [12, 86] (.store 2 (.t 12) (.t 86))<|
.m 13 87<|
.nil))
 (.seq (.seq (.ops (.m 88 13<|
.p 89 [88] (.un .not (.t 88))<|
.m 90 89<|
.grp 90 false (.p 91 [11, 90] (.faddr 0 (.t 11))<|
.op (some 92) .i [91, 90] (.load none (.t 91))<|
.p 93 [92, 90] (.bin .neq .none (.t 92) (.i 0))<|
.nil) 94 [90, 93] (.t 90) (.con (V.bool true)) (.t 93)<|
.m 95 94<|
.grp 95 false (.p 96 [7, 95] (.faddr 0 (.t 7))<|
.op (some 97) .i [96, 95] (.load none (.t 96))<|
.p 98 [97, 95] (.bin .eql .none (.t 97) (.i 8))<|
.p 99 [98, 95] (.mov (.t 98))<|
.grp 99 true (.p 100 [10, 99] (.mov (.t 10))<|
.p 101 [100, 99] (.bin .gtr .none (.t 100) (.i 0))<|
.nil) 102 [99, 101, 95] (.t 99) (.t 101) (.con (V.bool false))<|
.p 103 [102, 95] (.mov (.t 102))<|
.grp 103 true (.op (some 104) (.agg [.i, .i]) [9, 103] (.load (some 2) (.t 9))<|
.op (some 105) (.agg [.i, .i]) [12, 103] (.load (some 2) (.t 12))<|
.op (some 106) .bool [104, 105, 103] (.call 168 [(.t 104), (.t 105)])<|
.p 107 [106, 103] (.un .not (.t 106))<|
.nil) 108 [103, 107, 95] (.t 103) (.t 107) (.con (V.bool false))<|
.nil) 109 [95, 108] (.t 95) (.con (V.bool true)) (.t 108)<|
.nil))
 (.cond (.tmp 109) (.seq (.ops (.c 6 (V.bool false)<|
.nil))
 .ret)
 .skip))
 (.ops (.op (some 110) (.agg [.i, .i]) [12] (.load (some 2) (.t 12))<|
.op none (.agg [.i, .i]) [9, 110] (.store 2 (.t 9) (.t 110))<|
.nil)))))))
 (.keep [(0, .ptr), (1, .i), (5, .ptr), (8, .i), (52, .any), (53, .i), (54, .i)] [7, 9] [(7, [.i, .any, .bool, .bool, .bool, .bool, .i, .i, .any, .any, .i, .bool, .i]), (9, [.i, .i])] cc3))))
def C161_3 : XC := (.ops (.b 111 .add .none (.t 54) (.i 1)<|
.m 54 111<|
.nil))
def S161_0 (v0b v0o : Nat) (v1 v2_0 v2_1 : Int) (v2_2 v2_3 : V) (v2_4 : Int) (v2_5 : V) (σ : H) : St := ⟨[(0, (V.ptr v0b v0o)), (1, (V.int .i64 v1)), (2, (V.agg [(V.int .i64 v2_0), (V.int .i64 v2_1), v2_2, v2_3, (V.int .i64 v2_4), v2_5]))], [], [], σ⟩
def S161_2 (v0b v0o : Nat) (v1 : Int) (v5b v5o : Nat) (v8 : Int) (v52 : V) (v53 v54 r7_0 : Int) (r7_1 : V) (r7_2 r7_3 r7_4 r7_5 : Bool) (r7_6 r7_7 : Int) (r7_8 r7_9 : V) (r7_10 : Int) (r7_11 : Bool) (r7_12 r9_0 r9_1 : Int) (σ : H) : St := ⟨[(0, (V.ptr v0b v0o)), (1, (V.int .i64 v1)), (5, (V.ptr v5b v5o)), (8, (V.int .i64 v8)), (52, v52), (53, (V.int .i64 v53)), (54, (V.int .i64 v54))], [(7, (7, 0)), (9, (9, 0))], [(7, [(V.int .i64 r7_0), r7_1, (V.bool r7_2), (V.bool r7_3), (V.bool r7_4), (V.bool r7_5), (V.int .i64 r7_6), (V.int .i64 r7_7), r7_8, r7_9, (V.int .i64 r7_10), (V.bool r7_11), (V.int .i64 r7_12)]), (9, [(V.int .i64 r9_0), (V.int .i64 r9_1)])], σ⟩
theorem P161_0 (cc1 : XC) (cc2 : XC) (v0b v0o : Nat) (v1 v2_0 v2_1 : Int) (v2_2 v2_3 : V) (v2_4 : Int) (v2_5 : V) (σ : H) :
  denC E D W N (C161_0 cc1 cc2) (S161_0 v0b v0o v1 v2_0 v2_1 v2_2 v2_3 v2_4 v2_5 σ) (Fin161 E) (fun _ _ => none) (Fin161 E) =
  T161_0 E D W (fun v0b v0o v1 v5b v5o v8 v52 v53 v54 r7_0 r7_1 r7_2 r7_3 r7_4 r7_5 r7_6 r7_7 r7_8 r7_9 r7_10 r7_11 r7_12 r9_0 r9_1 σ => iterK (fun rec s' => denC E D W N cc2 s' (fun s'' => keepS [(0, .ptr), (1, .i), (5, .ptr), (8, .i), (52, .any), (53, .i), (54, .i)] [7, 9] [(7, [.i, .any, .bool, .bool, .bool, .bool, .i, .i, .any, .any, .i, .bool, .i]), (9, [.i, .i])] s'' rec) (blkK 0 (fun s' => denC E D W N (.keep [] [] [] cc1) s' (Fin161 E) (fun _ _ => none) (Fin161 E)) (fun _ _ => none)) (Fin161 E)) N (S161_2 v0b v0o v1 v5b v5o v8 v52 v53 v54 r7_0 r7_1 r7_2 r7_3 r7_4 r7_5 r7_6 r7_7 r7_8 r7_9 r7_10 r7_11 r7_12 r9_0 r9_1 σ)) v0b v0o v1 v2_0 v2_1 v2_2 v2_3 v2_4 v2_5 σ := by kernel_rfl
def L161_2 (n : Nat) (v0b v0o : Nat) (v1 : Int) (v5b v5o : Nat) (v8 : Int) (v52 : V) (v53 v54 r7_0 : Int) (r7_1 : V) (r7_2 r7_3 r7_4 r7_5 : Bool) (r7_6 r7_7 : Int) (r7_8 r7_9 : V) (r7_10 : Int) (r7_11 : Bool) (r7_12 r9_0 r9_1 : Int) (σ : H) : Ans := iterK (fun rec s' => denC E D W N (C161_2 C161_3) s' (fun s'' => keepS [(0, .ptr), (1, .i), (5, .ptr), (8, .i), (52, .any), (53, .i), (54, .i)] [7, 9] [(7, [.i, .any, .bool, .bool, .bool, .bool, .i, .i, .any, .any, .i, .bool, .i]), (9, [.i, .i])] s'' rec) (blkK 0 (fun s' => denC E D W N (.keep [] [] [] C161_1) s' (Fin161 E) (fun _ _ => none) (Fin161 E)) (fun _ _ => none)) (Fin161 E)) n (S161_2 v0b v0o v1 v5b v5o v8 v52 v53 v54 r7_0 r7_1 r7_2 r7_3 r7_4 r7_5 r7_6 r7_7 r7_8 r7_9 r7_10 r7_11 r7_12 r9_0 r9_1 σ)
theorem LE161_2 (n : Nat) (v0b v0o : Nat) (v1 : Int) (v5b v5o : Nat) (v8 : Int) (v52 : V) (v53 v54 r7_0 : Int) (r7_1 : V) (r7_2 r7_3 r7_4 r7_5 : Bool) (r7_6 r7_7 : Int) (r7_8 r7_9 : V) (r7_10 : Int) (r7_11 : Bool) (r7_12 r9_0 r9_1 : Int) (σ : H) : iterK (fun rec s' => denC E D W N (C161_2 C161_3) s' (fun s'' => keepS [(0, .ptr), (1, .i), (5, .ptr), (8, .i), (52, .any), (53, .i), (54, .i)] [7, 9] [(7, [.i, .any, .bool, .bool, .bool, .bool, .i, .i, .any, .any, .i, .bool, .i]), (9, [.i, .i])] s'' rec) (blkK 0 (fun s' => denC E D W N (.keep [] [] [] C161_1) s' (Fin161 E) (fun _ _ => none) (Fin161 E)) (fun _ _ => none)) (Fin161 E)) n (S161_2 v0b v0o v1 v5b v5o v8 v52 v53 v54 r7_0 r7_1 r7_2 r7_3 r7_4 r7_5 r7_6 r7_7 r7_8 r7_9 r7_10 r7_11 r7_12 r9_0 r9_1 σ) = L161_2 E D W N n v0b v0o v1 v5b v5o v8 v52 v53 v54 r7_0 r7_1 r7_2 r7_3 r7_4 r7_5 r7_6 r7_7 r7_8 r7_9 r7_10 r7_11 r7_12 r9_0 r9_1 σ := rfl
def J161_0 : Nat → Nat → Int → Int → Int → V → V → Int → V → H → Ans := T161_0 E D W (L161_2 E D W N N)
theorem JE161_0 (v0b v0o : Nat) (v1 v2_0 v2_1 : Int) (v2_2 v2_3 : V) (v2_4 : Int) (v2_5 : V) (σ : H) :
  denC E D W N (C161_0 C161_1 (C161_2 C161_3)) (S161_0 v0b v0o v1 v2_0 v2_1 v2_2 v2_3 v2_4 v2_5 σ) (Fin161 E) (fun _ _ => none) (Fin161 E) = J161_0 E D W N v0b v0o v1 v2_0 v2_1 v2_2 v2_3 v2_4 v2_5 σ := by
  refine (P161_0 E D W N C161_1 (C161_2 C161_3)  v0b v0o v1 v2_0 v2_1 v2_2 v2_3 v2_4 v2_5 σ).trans ?_
  simp only [LE161_2]
  kernel_rfl
def F161 (args : List V) (σ : H) : Ans :=
 rtCons args fun x1 l2 =>
 rtPtr x1 fun b3 o4 =>
 rtCons l2 fun x5 l6 =>
 rtInt .i64 x5 fun x7 =>
 rtCons l6 fun x8 l9 =>
 rtAgg x8 fun l10 =>
 rtCons l10 fun x11 l12 =>
 rtInt .i64 x11 fun x13 =>
 rtCons l12 fun x14 l15 =>
 rtInt .i64 x14 fun x16 =>
 rtCons l15 fun x17 l18 =>
 rtCons l18 fun x19 l20 =>
 rtCons l20 fun x21 l22 =>
 rtInt .i64 x21 fun x23 =>
 rtCons l22 fun x24 l25 =>
 rtNil l25 (
 rtNil l9 (
 J161_0 E D W N b3 o4 x7 x13 x16 x17 x19 x23 x24 σ))
def A161 : XFn := ⟨112, [.ptr, .i, (.agg [.i, .i, .any, .any, .i, .any])], [(.tmp 6)], (C161_0 C161_1 (C161_2 C161_3))⟩
theorem FE161 (args : List V) (σ : H) : runX E D W N A161 args σ = F161 E D W N args σ := by
  unfold F161
  simp only [← JE161_0]
  kernel_rfl
theorem AO161 : A161.body.ok = true := by kernel_rfl

/-! ### F162: ogham_table.Loose -/
def Fin162 (E : List (Nat × Blk)) : St → Ans := fun s => resK E s [(.tmp 4)] fun l => some (oneV l, s.σ)
def C162_0 : XC := (.seq (.ops (.p 2 [0] (.box 139 (.t 0))<|
.c 4 (V.bool false)<|
.nil))
 (.seq (.ops (.f 5 9 2<|
.l 6 .any 5<|
.m 7 1<|
.s 8 11 6 7<|
.f 9 2 8<|
.l 10 .bool 9<|
.m 11 10<|
.grp 11 false (.p 12 [2, 11] (.faddr 9 (.t 2))<|
.p 13 [12, 11] (.load none (.t 12))<|
.p 14 [1, 11] (.mov (.t 1))<|
.p 15 [13, 14, 11] (.iaddrS 11 (.t 13) (.t 14))<|
.p 16 [15, 11] (.faddr 3 (.t 15))<|
.op (some 17) .bool [16, 11] (.load none (.t 16))<|
.nil) 18 [11, 17] (.t 11) (.con (V.bool true)) (.t 17)<|
.m 19 18<|
.grp 19 false (.p 20 [1, 19] (.mov (.t 1))<|
.p 21 [2, 19] (.faddr 10 (.t 2))<|
.op (some 22) .i [21, 19] (.load none (.t 21))<|
.p 23 [20, 22, 19] (.bin .geq .none (.t 20) (.t 22))<|
.nil) 24 [19, 23] (.t 19) (.con (V.bool true)) (.t 23)<|
.m 4 24<|
.nil))
 .ret))
def T162_0 (E : List (Nat × Blk)) (D : Den) (W : DrawFn) (v0_0 : Int) (v0_1 : V) (v0_2 v0_3 v0_4 v0_5 : Bool) (v0_6 v0_7 : Int) (v0_8 v0_9 : V) (v0_10 : Int) (v0_11 : Bool) (v0_12 v1 : Int) (σ : H) : Ans :=
 chk (allOne (V.cells (V.agg [(V.int .i64 v0_0), v0_1, (V.bool v0_2), (V.bool v0_3), (V.bool v0_4), (V.bool v0_5), (V.int .i64 v0_6), (V.int .i64 v0_7), v0_8, v0_9, (V.int .i64 v0_10), (V.bool v0_11), (V.int .i64 v0_12)]))) (
 let s1 := newB σ (.cells (V.cells (V.agg [(V.int .i64 v0_0), v0_1, (V.bool v0_2), (V.bool v0_3), (V.bool v0_4), (V.bool v0_5), (V.int .i64 v0_6), (V.int .i64 v0_7), v0_8, v0_9, (V.int .i64 v0_10), (V.bool v0_11), (V.int .i64 v0_12)])));
 ldK E s1 (H.next σ) 9 fun u2 =>
 iaddrSK 11 u2 v1 fun b3 o4 =>
 ldK E s1 b3 (Nat.add o4 2) fun u5 =>
 rtBool u5 fun x6 =>
 joinB (fun c7 s8 =>
 joinB (fun c10 s11 =>
 some ((V.bool c10), s11)) fun k12 =>
 condK c7 (
 k12 true s8) (
 ldK E s8 (H.next σ) 10 fun u13 =>
 rtInt .i64 u13 fun x14 =>
 k12 (leF x14 v1) s8)) fun k9 =>
 condK x6 (
 k9 true s1) (
 ldK E s1 (H.next σ) 9 fun u15 =>
 iaddrSK 11 u15 v1 fun b16 o17 =>
 ldK E s1 b16 (Nat.add o17 3) fun u18 =>
 rtBool u18 fun x19 =>
 k9 x19 s1))
def S162_0 (v0_0 : Int) (v0_1 : V) (v0_2 v0_3 v0_4 v0_5 : Bool) (v0_6 v0_7 : Int) (v0_8 v0_9 : V) (v0_10 : Int) (v0_11 : Bool) (v0_12 v1 : Int) (σ : H) : St := ⟨[(0, (V.agg [(V.int .i64 v0_0), v0_1, (V.bool v0_2), (V.bool v0_3), (V.bool v0_4), (V.bool v0_5), (V.int .i64 v0_6), (V.int .i64 v0_7), v0_8, v0_9, (V.int .i64 v0_10), (V.bool v0_11), (V.int .i64 v0_12)])), (1, (V.int .i64 v1))], [], [], σ⟩
theorem P162_0 (v0_0 : Int) (v0_1 : V) (v0_2 v0_3 v0_4 v0_5 : Bool) (v0_6 v0_7 : Int) (v0_8 v0_9 : V) (v0_10 : Int) (v0_11 : Bool) (v0_12 v1 : Int) (σ : H) :
  denC E D W N (C162_0 ) (S162_0 v0_0 v0_1 v0_2 v0_3 v0_4 v0_5 v0_6 v0_7 v0_8 v0_9 v0_10 v0_11 v0_12 v1 σ) (Fin162 E) (fun _ _ => none) (Fin162 E) =
  T162_0 E D W  v0_0 v0_1 v0_2 v0_3 v0_4 v0_5 v0_6 v0_7 v0_8 v0_9 v0_10 v0_11 v0_12 v1 σ := by kernel_rfl
def J162_0 (E : List (Nat × Blk)) (D : Den) (W : DrawFn) (N : Nat) : Int → V → Bool → Bool → Bool → Bool → Int → Int → V → V → Int → Bool → Int → Int → H → Ans := T162_0 E D W 
theorem JE162_0 (v0_0 : Int) (v0_1 : V) (v0_2 v0_3 v0_4 v0_5 : Bool) (v0_6 v0_7 : Int) (v0_8 v0_9 : V) (v0_10 : Int) (v0_11 : Bool) (v0_12 v1 : Int) (σ : H) :
  denC E D W N C162_0 (S162_0 v0_0 v0_1 v0_2 v0_3 v0_4 v0_5 v0_6 v0_7 v0_8 v0_9 v0_10 v0_11 v0_12 v1 σ) (Fin162 E) (fun _ _ => none) (Fin162 E) = J162_0 E D W N v0_0 v0_1 v0_2 v0_3 v0_4 v0_5 v0_6 v0_7 v0_8 v0_9 v0_10 v0_11 v0_12 v1 σ := by
  refine (P162_0 E D W N   v0_0 v0_1 v0_2 v0_3 v0_4 v0_5 v0_6 v0_7 v0_8 v0_9 v0_10 v0_11 v0_12 v1 σ).trans ?_
  kernel_rfl
def F162 (args : List V) (σ : H) : Ans :=
 rtCons args fun x1 l2 =>
 rtAgg x1 fun l3 =>
 rtCons l3 fun x4 l5 =>
 rtInt .i64 x4 fun x6 =>
 rtCons l5 fun x7 l8 =>
 rtCons l8 fun x9 l10 =>
 rtBool x9 fun x11 =>
 rtCons l10 fun x12 l13 =>
 rtBool x12 fun x14 =>
 rtCons l13 fun x15 l16 =>
 rtBool x15 fun x17 =>
 rtCons l16 fun x18 l19 =>
 rtBool x18 fun x20 =>
 rtCons l19 fun x21 l22 =>
 rtInt .i64 x21 fun x23 =>
 rtCons l22 fun x24 l25 =>
 rtInt .i64 x24 fun x26 =>
 rtCons l25 fun x27 l28 =>
 rtCons l28 fun x29 l30 =>
 rtCons l30 fun x31 l32 =>
 rtInt .i64 x31 fun x33 =>
 rtCons l32 fun x34 l35 =>
 rtBool x34 fun x36 =>
 rtCons l35 fun x37 l38 =>
 rtInt .i64 x37 fun x39 =>
 rtNil l38 (
 rtCons l2 fun x40 l41 =>
 rtInt .i64 x40 fun x42 =>
 rtNil l41 (
 J162_0 E D W N x6 x7 x11 x14 x17 x20 x23 x26 x27 x29 x33 x36 x39 x42 σ))
def A162 : XFn := ⟨25, [(.agg [.i, .any, .bool, .bool, .bool, .bool, .i, .i, .any, .any, .i, .bool, .i]), .i], [(.tmp 4)], C162_0⟩
theorem FE162 (args : List V) (σ : H) : runX E D W N A162 args σ = F162 E D W N args σ := by
  unfold F162
  simp only [← JE162_0]
  kernel_rfl
theorem AO162 : A162.body.ok = true := by kernel_rfl

/-! ### F164: __ogham_value.checker_.groups -/
def Fin164 (E : List (Nat × Blk)) : St → Ans := fun s => resK E s [(.tmp 6)] fun l => some (oneV l, s.σ)
def C164_0 (cc1 : XC) (cc2 : XC) : XC := (.seq (.ops (.p 5 [2] (.box 26 (.t 2))<|
.c 6 (V.bool false)<|
.nil))
 (.seq (.ops (.m 15 0<|
.n 16 15<|
.f 17 0 16<|
.f 18 0 17<|
.f 19 3 18<|
.l 20 .any 19<|
.m 21 1<|
.s 22 13 20 21<|
.op (some 23) (.agg [.i, .any, .bool, .bool, .bool, .bool, .i, .i, .any, .any, .i, .bool, .i]) [22] (.load (some 13) (.t 22))<|
.pal 7 [] 139 [(V.int .i64 (Int.ofNat 0)), V.nils, (V.bool false), (V.bool false), (V.bool false), (V.bool false), (V.int .i64 (Int.ofNat 0)), (V.int .i64 (Int.ofNat 0)), V.nils, V.nils, (V.int .i64 (Int.ofNat 0)), (V.bool false), (V.int .i64 (Int.ofNat 0))]<|
.op none (.agg [.i, .any, .bool, .bool, .bool, .bool, .i, .i, .any, .any, .i, .bool, .i]) [7, 23] (.store 13 (.t 7) (.t 23))<|
.nil))
 (.seq (.seq (.ops (.m 24 0<|
.n 25 24<|
.f 26 0 25<|
.f 27 0 26<|
.op (some 28) (.agg [.str, .any, .any, .any]) [27] (.load (some 4) (.t 27))<|
.m 29 1<|
.k 30 .one 187 [(.t 28), (.t 29)]<|
.u 31 30<|
.q 32 0<|
.nil))
 (.block 0 (.loop [(5, .ptr), (30, .any), (31, .i), (32, .i)] [7] [(7, [.i, .any, .bool, .bool, .bool, .bool, .i, .i, .any, .any, .i, .bool, .i])] cc2)))
 (.keep [] [] [] cc1))))
def T164_0 (E : List (Nat × Blk)) (D : Den) (W : DrawFn) (K2 : Nat → Nat → V → Int → Int → Int → V → Bool → Bool → Bool → Bool → Int → Int → V → V → Int → Bool → Int → H → Ans) (v0b v0o : Nat) (v1 v2_0 v2_1 : Int) (v2_2 v2_3 : V) (v2_4 : Int) (v2_5 : V) (σ : H) : Ans :=
 chk (allOne (V.cells (V.agg [(V.int .i64 v2_0), (V.int .i64 v2_1), v2_2, v2_3, (V.int .i64 v2_4), v2_5]))) (
 let s1 := newB σ (.cells (V.cells (V.agg [(V.int .i64 v2_0), (V.int .i64 v2_1), v2_2, v2_3, (V.int .i64 v2_4), v2_5])));
 ldK E s1 v0b (Nat.add v0o 3) fun u2 =>
 iaddrSK 13 u2 v1 fun b3 o4 =>
 ldnK E s1 b3 o4 13 fun l5 =>
 rtCons l5 fun x6 l7 =>
 rtInt .i64 x6 fun x8 =>
 rtCons l7 fun x9 l10 =>
 rtCons l10 fun x11 l12 =>
 rtBool x11 fun x13 =>
 rtCons l12 fun x14 l15 =>
 rtBool x14 fun x16 =>
 rtCons l15 fun x17 l18 =>
 rtBool x17 fun x19 =>
 rtCons l18 fun x20 l21 =>
 rtBool x20 fun x22 =>
 rtCons l21 fun x23 l24 =>
 rtInt .i64 x23 fun x25 =>
 rtCons l24 fun x26 l27 =>
 rtInt .i64 x26 fun x28 =>
 rtCons l27 fun x29 l30 =>
 rtCons l30 fun x31 l32 =>
 rtCons l32 fun x33 l34 =>
 rtInt .i64 x33 fun x35 =>
 rtCons l34 fun x36 l37 =>
 rtBool x36 fun x38 =>
 rtCons l37 fun x39 l40 =>
 rtInt .i64 x39 fun x41 =>
 rtNil l40 (
 chk (allOne [(V.int .i64 x8), x9, (V.bool x13), (V.bool x16), (V.bool x19), (V.bool x22), (V.int .i64 x25), (V.int .i64 x28), x29, x31, (V.int .i64 x35), (V.bool x38), (V.int .i64 x41)]) (
 ldnK E s1 v0b v0o 4 fun l42 =>
 rtCons l42 fun x43 l44 =>
 rtStr x43 fun x45 =>
 rtCons l44 fun x46 l47 =>
 rtCons l47 fun x48 l49 =>
 rtCons l49 fun x50 l51 =>
 rtNil l51 (
 callK (D 187 [(V.agg [(V.str x45), x46, x48, x50]), (V.int .i64 v1)] s1) fun u52 s53 =>
 rtOne u52 (
 slenK u52 fun n54 =>
 K2 (H.next σ) 0 u52 (Int.ofNat n54) (Int.ofNat 0) x8 x9 x13 x16 x19 x22 x25 x28 x29 x31 x35 x38 x41 s53)))))
def C164_1 : XC := (.seq (.ops (.c 6 (V.bool true)<|
.nil))
 .ret)
def C164_2 (cc3 : XC) (cc4 : XC) (cc5 : XC) : XC := (.seq (.ops (.b 33 .lss .none (.t 32) (.t 31)<|
.nil))
 (.seq (.cond (.tmp 33) .skip
 (.exit 0))
 (.seq (.block 1 (.seq (.ops (.s 34 1 30 32<|
.l 35 .any 34<|
.m 9 35<|
.nil))
 (.seq (.seq (.draw (.f 36 9 7<|
.l 37 .any 36<|
.m 38 9<|
.p 39 [38] (.iaddrS 1 (.t 38) (.i 0))<|
.l 40 .i 39<|
.s 41 11 37 40<|
.f 42 10 41<|
.l 43 .i 42<|
.b 44 .eql .none (.t 43) (.i 0)<|
.nil) [0, 1, 0, 4, 12, 31, 63, 127, 255])
 (.cond (.tmp 44) (.exit 1)
 .skip))
 (.seq (.ops (.c 10 (V.bool false)<|
.c 11 (V.bool false)<|
.nil))
 (.seq (.seq (.ops (.m 45 9<|
.u 46 45<|
.q 47 0<|
.nil))
 (.block 2 (.loop [(5, .ptr), (10, .bool), (11, .bool), (30, .any), (31, .i), (32, .i), (45, .any), (46, .i), (47, .i)] [7] [(7, [.i, .any, .bool, .bool, .bool, .bool, .i, .i, .any, .any, .i, .bool, .i])] cc5)))
 (.keep [(5, .ptr), (10, .bool), (11, .bool), (30, .any), (31, .i), (32, .i)] [7] [(7, [.i, .any, .bool, .bool, .bool, .bool, .i, .i, .any, .any, .i, .bool, .i])] cc4))))))
 (.keep [(5, .ptr), (30, .any), (31, .i), (32, .i)] [7] [(7, [.i, .any, .bool, .bool, .bool, .bool, .i, .i, .any, .any, .i, .bool, .i])] cc3))))
def C164_3 : XC := (.ops (.b 90 .add .none (.t 32) (.i 1)<|
.m 32 90<|
.nil))
def C164_4 : XC := (.seq (.ops (.m 86 10<|
.m 87 86<|
.grp 87 true (.p 88 [11, 87] (.mov (.t 11))<|
.nil) 89 [87, 88] (.t 87) (.t 88) (.con (V.bool false))<|
.nil))
 (.cond (.tmp 89) (.seq (.ops (.c 6 (V.bool false)<|
.nil))
 .ret)
 .skip))
def C164_5 : XC := (.seq (.ops (.b 48 .lss .none (.t 47) (.t 46)<|
.nil))
 (.seq (.cond (.tmp 48) .skip
 (.exit 2))
 (.seq (.block 3 (.seq (.ops (.s 49 1 45 47<|
.l 50 .i 49<|
.m 13 50<|
.nil))
 (.seq (.ops (.f 51 3 5<|
.l 52 .any 51<|
.m 53 13<|
.s 54 6 52 53<|
.op (some 55) (.agg [.i, .i, .any, .any, .i, .any]) [54] (.load (some 6) (.t 54))<|
.k 56 .bool 119 [(.t 55)]<|
.p 57 [56] (.un .not (.t 56))<|
.m 14 57<|
.nil))
 (.seq (.ops (.m 58 10<|
.m 59 58<|
.grp 59 false (.p 60 [14, 59] (.mov (.t 14))<|
.nil) 61 [59, 60] (.t 59) (.con (V.bool true)) (.t 60)<|
.m 10 61<|
.nil))
 (.ops (.m 62 11<|
.m 63 62<|
.grp 63 false (.p 64 [14, 63] (.mov (.t 14))<|
.p 65 [64, 63] (.un .not (.t 64))<|
.p 66 [65, 63] (.mov (.t 65))<|
.grp 66 true (.p 67 [7, 66] (.faddr 9 (.t 7))<|
.p 68 [67, 66] (.load none (.t 67))<|
.p 69 [13, 66] (.mov (.t 13))<|
.p 70 [68, 69, 66] (.iaddrS 11 (.t 68) (.t 69))<|
.p 71 [70, 66] (.faddr 2 (.t 70))<|
.op (some 72) .bool [71, 66] (.load none (.t 71))<|
.p 73 [72, 66] (.un .not (.t 72))<|
.nil) 74 [66, 73, 63] (.t 66) (.t 73) (.con (V.bool false))<|
.p 75 [74, 63] (.mov (.t 74))<|
.grp 75 true (.p 76 [7, 75] (.faddr 9 (.t 7))<|
.p 77 [76, 75] (.load none (.t 76))<|
.p 78 [13, 75] (.mov (.t 13))<|
.p 79 [77, 78, 75] (.iaddrS 11 (.t 77) (.t 78))<|
.p 80 [79, 75] (.faddr 3 (.t 79))<|
.op (some 81) .bool [80, 75] (.load none (.t 80))<|
.p 82 [81, 75] (.un .not (.t 81))<|
.nil) 83 [75, 82, 63] (.t 75) (.t 82) (.con (V.bool false))<|
.nil) 84 [63, 83] (.t 63) (.con (V.bool true)) (.t 83)<|
.m 11 84<|
.nil))))))
 (.ops (.b 85 .add .none (.t 47) (.i 1)<|
.m 47 85<|
.nil)))))
def S164_0 (v0b v0o : Nat) (v1 v2_0 v2_1 : Int) (v2_2 v2_3 : V) (v2_4 : Int) (v2_5 : V) (σ : H) : St := ⟨[(0, (V.ptr v0b v0o)), (1, (V.int .i64 v1)), (2, (V.agg [(V.int .i64 v2_0), (V.int .i64 v2_1), v2_2, v2_3, (V.int .i64 v2_4), v2_5]))], [], [], σ⟩
def S164_2 (v5b v5o : Nat) (v30 : V) (v31 v32 r7_0 : Int) (r7_1 : V) (r7_2 r7_3 r7_4 r7_5 : Bool) (r7_6 r7_7 : Int) (r7_8 r7_9 : V) (r7_10 : Int) (r7_11 : Bool) (r7_12 : Int) (σ : H) : St := ⟨[(5, (V.ptr v5b v5o)), (30, v30), (31, (V.int .i64 v31)), (32, (V.int .i64 v32))], [(7, (7, 0))], [(7, [(V.int .i64 r7_0), r7_1, (V.bool r7_2), (V.bool r7_3), (V.bool r7_4), (V.bool r7_5), (V.int .i64 r7_6), (V.int .i64 r7_7), r7_8, r7_9, (V.int .i64 r7_10), (V.bool r7_11), (V.int .i64 r7_12)])], σ⟩
theorem P164_0 (cc1 : XC) (cc2 : XC) (v0b v0o : Nat) (v1 v2_0 v2_1 : Int) (v2_2 v2_3 : V) (v2_4 : Int) (v2_5 : V) (σ : H) :
  denC E D W N (C164_0 cc1 cc2) (S164_0 v0b v0o v1 v2_0 v2_1 v2_2 v2_3 v2_4 v2_5 σ) (Fin164 E) (fun _ _ => none) (Fin164 E) =
  T164_0 E D W (fun v5b v5o v30 v31 v32 r7_0 r7_1 r7_2 r7_3 r7_4 r7_5 r7_6 r7_7 r7_8 r7_9 r7_10 r7_11 r7_12 σ => iterK (fun rec s' => denC E D W N cc2 s' (fun s'' => keepS [(5, .ptr), (30, .any), (31, .i), (32, .i)] [7] [(7, [.i, .any, .bool, .bool, .bool, .bool, .i, .i, .any, .any, .i, .bool, .i])] s'' rec) (blkK 0 (fun s' => denC E D W N (.keep [] [] [] cc1) s' (Fin164 E) (fun _ _ => none) (Fin164 E)) (fun _ _ => none)) (Fin164 E)) N (S164_2 v5b v5o v30 v31 v32 r7_0 r7_1 r7_2 r7_3 r7_4 r7_5 r7_6 r7_7 r7_8 r7_9 r7_10 r7_11 r7_12 σ)) v0b v0o v1 v2_0 v2_1 v2_2 v2_3 v2_4 v2_5 σ := by kernel_rfl
def L164_2 (n : Nat) (v5b v5o : Nat) (v30 : V) (v31 v32 r7_0 : Int) (r7_1 : V) (r7_2 r7_3 r7_4 r7_5 : Bool) (r7_6 r7_7 : Int) (r7_8 r7_9 : V) (r7_10 : Int) (r7_11 : Bool) (r7_12 : Int) (σ : H) : Ans := iterK (fun rec s' => denC E D W N (C164_2 C164_3 C164_4 C164_5) s' (fun s'' => keepS [(5, .ptr), (30, .any), (31, .i), (32, .i)] [7] [(7, [.i, .any, .bool, .bool, .bool, .bool, .i, .i, .any, .any, .i, .bool, .i])] s'' rec) (blkK 0 (fun s' => denC E D W N (.keep [] [] [] C164_1) s' (Fin164 E) (fun _ _ => none) (Fin164 E)) (fun _ _ => none)) (Fin164 E)) n (S164_2 v5b v5o v30 v31 v32 r7_0 r7_1 r7_2 r7_3 r7_4 r7_5 r7_6 r7_7 r7_8 r7_9 r7_10 r7_11 r7_12 σ)
theorem LE164_2 (n : Nat) (v5b v5o : Nat) (v30 : V) (v31 v32 r7_0 : Int) (r7_1 : V) (r7_2 r7_3 r7_4 r7_5 : Bool) (r7_6 r7_7 : Int) (r7_8 r7_9 : V) (r7_10 : Int) (r7_11 : Bool) (r7_12 : Int) (σ : H) : iterK (fun rec s' => denC E D W N (C164_2 C164_3 C164_4 C164_5) s' (fun s'' => keepS [(5, .ptr), (30, .any), (31, .i), (32, .i)] [7] [(7, [.i, .any, .bool, .bool, .bool, .bool, .i, .i, .any, .any, .i, .bool, .i])] s'' rec) (blkK 0 (fun s' => denC E D W N (.keep [] [] [] C164_1) s' (Fin164 E) (fun _ _ => none) (Fin164 E)) (fun _ _ => none)) (Fin164 E)) n (S164_2 v5b v5o v30 v31 v32 r7_0 r7_1 r7_2 r7_3 r7_4 r7_5 r7_6 r7_7 r7_8 r7_9 r7_10 r7_11 r7_12 σ) = L164_2 E D W N n v5b v5o v30 v31 v32 r7_0 r7_1 r7_2 r7_3 r7_4 r7_5 r7_6 r7_7 r7_8 r7_9 r7_10 r7_11 r7_12 σ := rfl
def J164_0 : Nat → Nat → Int → Int → Int → V → V → Int → V → H → Ans := T164_0 E D W (L164_2 E D W N N)
theorem JE164_0 (v0b v0o : Nat) (v1 v2_0 v2_1 : Int) (v2_2 v2_3 : V) (v2_4 : Int) (v2_5 : V) (σ : H) :
  denC E D W N (C164_0 C164_1 (C164_2 C164_3 C164_4 C164_5)) (S164_0 v0b v0o v1 v2_0 v2_1 v2_2 v2_3 v2_4 v2_5 σ) (Fin164 E) (fun _ _ => none) (Fin164 E) = J164_0 E D W N v0b v0o v1 v2_0 v2_1 v2_2 v2_3 v2_4 v2_5 σ := by
  refine (P164_0 E D W N C164_1 (C164_2 C164_3 C164_4 C164_5)  v0b v0o v1 v2_0 v2_1 v2_2 v2_3 v2_4 v2_5 σ).trans ?_
  simp only [LE164_2]
  kernel_rfl
def F164 (args : List V) (σ : H) : Ans :=
 rtCons args fun x1 l2 =>
 rtPtr x1 fun b3 o4 =>
 rtCons l2 fun x5 l6 =>
 rtInt .i64 x5 fun x7 =>
 rtCons l6 fun x8 l9 =>
 rtAgg x8 fun l10 =>
 rtCons l10 fun x11 l12 =>
 rtInt .i64 x11 fun x13 =>
 rtCons l12 fun x14 l15 =>
 rtInt .i64 x14 fun x16 =>
 rtCons l15 fun x17 l18 =>
 rtCons l18 fun x19 l20 =>
 rtCons l20 fun x21 l22 =>
 rtInt .i64 x21 fun x23 =>
 rtCons l22 fun x24 l25 =>
 rtNil l25 (
 rtNil l9 (
 J164_0 E D W N b3 o4 x7 x13 x16 x17 x19 x23 x24 σ))
def A164 : XFn := ⟨91, [.ptr, .i, (.agg [.i, .i, .any, .any, .i, .any])], [(.tmp 6)], (C164_0 C164_1 (C164_2 C164_3 C164_4 C164_5))⟩
theorem FE164 (args : List V) (σ : H) : runX E D W N A164 args σ = F164 E D W N args σ := by
  unfold F164
  simp only [← JE164_0]
  kernel_rfl
theorem AO164 : A164.body.ok = true := by kernel_rfl

/-! ### F165: ogham_tlv.Head -/
def Fin165 (E : List (Nat × Blk)) : St → Ans := fun s => resK E s [(.tmp 6)] fun l => some (oneV l, s.σ)
def C165_0 (cc1 : XC) : XC := (.seq (.ops (.p 3 [0] (.box 45 (.t 0))<|
.c 6 V.nils<|
.nil))
 (.seq (.ops (.f 11 0 3<|
.l 12 .i 11<|
.b 13 .rem .none (.t 12) (.i 4)<|
.b 14 .add .none (.t 13) (.i 4)<|
.p 15 [14] (.conv (.toInt .u8) (.t 14))<|
.b 16 .rem .none (.t 15) (.con (V.int .u8 (Int.ofNat 4)))<|
.b 17 .shl .none (.t 16) (.con (V.int .u64 (Int.ofNat 6)))<|
.m 7 17<|
.nil))
 (.seq (.seq (.ops (.m 18 1<|
.nil))
 (.cond (.tmp 18) (.ops (.m 19 7<|
.b 20 .or .none (.t 19) (.con (V.int .u8 (Int.ofNat 32)))<|
.m 7 20<|
.nil))
 .skip))
 (.keep [(2, .i), (3, .ptr), (7, (.int .u8))] [] [] cc1))))
def T165_0 (E : List (Nat × Blk)) (D : Den) (W : DrawFn) (K1 : Int → Nat → Nat → Int → H → Ans) (v0_0 v0_1 : Int) (v1 : Bool) (v2 : Int) (σ : H) : Ans :=
 chk (allOne (V.cells (V.agg [(V.int .i64 v0_0), (V.int .i64 v0_1)]))) (
 let s1 := newB σ (.cells (V.cells (V.agg [(V.int .i64 v0_0), (V.int .i64 v0_1)])));
 ldK E s1 (H.next σ) 0 fun u2 =>
 rtInt .i64 u2 fun x3 =>
 condK v1 (
 K1 v2 (H.next σ) 0 (orF .u8 (shlF .u8 (Int.tmod (wrapF .u8 (addF .i64 (Int.tmod x3 (Int.ofNat 4)) (Int.ofNat 4))) (Int.ofNat 4)) 6) (Int.ofNat 32)) s1) (
 K1 v2 (H.next σ) 0 (shlF .u8 (Int.tmod (wrapF .u8 (addF .i64 (Int.tmod x3 (Int.ofNat 4)) (Int.ofNat 4))) (Int.ofNat 4)) 6) s1))
def C165_1 (cc2 : XC) : XC := (.seq (.ops (.f 21 1 3<|
.l 22 .i 21<|
.p 23 [22] (.max (.t 22) [(.i 0)])<|
.m 8 23<|
.nil))
 (.seq (.ops (.c 9 V.nils<|
.nil))
 (.seq (.seq (.ops (.m 24 8<|
.b 25 .lss .none (.t 24) (.i 31)<|
.nil))
 (.cond (.tmp 25) (.ops (.m 26 7<|
.m 27 8<|
.p 28 [27] (.conv (.toInt .u8) (.t 27))<|
.b 29 .or .none (.t 26) (.t 28)<|
.p 30 [29] (.buildSlice 5 1 [(V.int .u8 (Int.ofNat 0))] [(0, 1, (.t 29))])<|
.m 9 30<|
.nil))
 (.ops (.m 31 7<|
.b 32 .or .none (.t 31) (.con (V.int .u8 (Int.ofNat 31)))<|
.p 33 [32] (.buildSlice 5 1 [(V.int .u8 (Int.ofNat 0))] [(0, 1, (.t 32))])<|
.m 34 8<|
.p 35 [34] (.conv (.toInt .u64) (.t 34))<|
.k 36 .one 191 [(.t 35)]<|
.p 37 [33, 36] (.buildSlice 22 2 [V.nils, V.nils] [(0, 1, (.t 33)), (1, 1, (.t 36))])<|
.k 38 .one 116 [(.t 37)]<|
.m 9 38<|
.nil))))
 (.keep [(2, .i), (9, .any)] [] [] cc2))))
def T165_1 (E : List (Nat × Blk)) (D : Den) (W : DrawFn) (K2 : Int → V → H → Ans) (v2 : Int) (v3b v3o : Nat) (v7 : Int) (σ : H) : Ans :=
 ldK E σ v3b (Nat.add v3o 1) fun u1 =>
 rtInt .i64 u1 fun x2 =>
 condK (ltF (maxF x2 (Int.ofNat 0)) (Int.ofNat 31)) (
 let s3 := newB σ (.cells [(V.int .u8 (orF .u8 v7 (wrapF .u8 (maxF x2 (Int.ofNat 0)))))]);
 K2 v2 (V.sl (H.next σ) 0 1 (.ex 1)) s3) (
 let s4 := newB σ (.cells [(V.int .u8 (orF .u8 v7 (Int.ofNat 31)))]);
 callK (D 191 [(V.int .u64 (wrapF .u64 (maxF x2 (Int.ofNat 0))))] s4) fun u5 s6 =>
 rtOne u5 (
 fillK [(0, 1, (V.sl (H.next σ) 0 1 (.ex 1))), (1, 1, u5)] [V.nils, V.nils] fun l7 =>
 chk (allOne l7) (
 let s8 := newB s6 (.cells l7);
 callK (D 116 [(V.sl (H.next s6) 0 2 (.ex 2))] s8) fun u9 s10 =>
 rtOne u9 (
 K2 v2 u9 s10))))
def C165_2 : XC := (.seq (.ops (.m 39 2<|
.p 40 [39] (.max (.t 39) [(.i 0)])<|
.m 2 40<|
.nil))
 (.seq (.seq (.ops (.m 41 2<|
.b 42 .lss .none (.t 41) (.i 128)<|
.nil))
 (.cond (.tmp 42) (.seq (.ops (.m 43 9<|
.m 44 2<|
.p 45 [44] (.conv (.toInt .u8) (.t 44))<|
.p 46 [45] (.buildSlice 5 1 [(V.int .u8 (Int.ofNat 0))] [(0, 1, (.t 45))])<|
.op (some 47) .one [43, 46] (.append 5 1 1 (.t 43) (.t 46))<|
.m 6 47<|
.nil))
 .ret)
 .skip))
 (.seq (.ops (.m 48 2<|
.p 49 [48] (.conv (.toInt .u64) (.t 48))<|
.k 50 .one 192 [(.t 49)]<|
.m 10 50<|
.nil))
 (.seq (.ops (.m 51 9<|
.m 52 10<|
.u 53 52<|
.p 54 [53] (.conv (.toInt .u8) (.t 53))<|
.b 55 .or .none (.con (V.int .u8 (Int.ofNat 128))) (.t 54)<|
.p 56 [55] (.buildSlice 5 1 [(V.int .u8 (Int.ofNat 0))] [(0, 1, (.t 55))])<|
.m 57 10<|
.p 58 [51, 56, 57] (.buildSlice 22 3 [V.nils, V.nils, V.nils] [(0, 1, (.t 51)), (1, 1, (.t 56)), (2, 1, (.t 57))])<|
.k 59 .one 116 [(.t 58)]<|
.m 6 59<|
.nil))
 .ret))))
def T165_2 (E : List (Nat × Blk)) (D : Den) (W : DrawFn) (v2 : Int) (v9 : V) (σ : H) : Ans :=
 condK (ltF (maxF v2 (Int.ofNat 0)) (Int.ofNat 128)) (
 let s1 := newB σ (.cells [(V.int .u8 (wrapF .u8 (maxF v2 (Int.ofNat 0))))]);
 appK E 1 1 v9 (V.sl (H.next σ) 0 1 (.ex 1)) s1 fun u2 s3 =>
 rtOne u2 (
 some (u2, s3))) (
 callK (D 192 [(V.int .u64 (wrapF .u64 (maxF v2 (Int.ofNat 0))))] σ) fun u4 s5 =>
 rtOne u4 (
 slenK u4 fun n6 =>
 let s7 := newB s5 (.cells [(V.int .u8 (orF .u8 (Int.ofNat 128) (wrapF .u8 (Int.ofNat n6))))]);
 fillK [(0, 1, v9), (1, 1, (V.sl (H.next s5) 0 1 (.ex 1))), (2, 1, u4)] [V.nils, V.nils, V.nils] fun l8 =>
 chk (allOne l8) (
 let s9 := newB s7 (.cells l8);
 callK (D 116 [(V.sl (H.next s7) 0 3 (.ex 3))] s9) fun u10 s11 =>
 rtOne u10 (
 some (u10, s11)))))
def S165_0 (v0_0 v0_1 : Int) (v1 : Bool) (v2 : Int) (σ : H) : St := ⟨[(0, (V.agg [(V.int .i64 v0_0), (V.int .i64 v0_1)])), (1, (V.bool v1)), (2, (V.int .i64 v2))], [], [], σ⟩
def S165_1 (v2 : Int) (v3b v3o : Nat) (v7 : Int) (σ : H) : St := ⟨[(2, (V.int .i64 v2)), (3, (V.ptr v3b v3o)), (7, (V.int .u8 v7))], [], [], σ⟩
def S165_2 (v2 : Int) (v9 : V) (σ : H) : St := ⟨[(2, (V.int .i64 v2)), (9, v9)], [], [], σ⟩
theorem P165_0 (cc1 : XC) (v0_0 v0_1 : Int) (v1 : Bool) (v2 : Int) (σ : H) :
  denC E D W N (C165_0 cc1) (S165_0 v0_0 v0_1 v1 v2 σ) (Fin165 E) (fun _ _ => none) (Fin165 E) =
  T165_0 E D W (fun v2 v3b v3o v7 σ => denC E D W N cc1 (S165_1 v2 v3b v3o v7 σ) (Fin165 E) (fun _ _ => none) (Fin165 E)) v0_0 v0_1 v1 v2 σ := by kernel_rfl
theorem P165_1 (cc2 : XC) (v2 : Int) (v3b v3o : Nat) (v7 : Int) (σ : H) :
  denC E D W N (C165_1 cc2) (S165_1 v2 v3b v3o v7 σ) (Fin165 E) (fun _ _ => none) (Fin165 E) =
  T165_1 E D W (fun v2 v9 σ => denC E D W N cc2 (S165_2 v2 v9 σ) (Fin165 E) (fun _ _ => none) (Fin165 E)) v2 v3b v3o v7 σ := by kernel_rfl
theorem P165_2 (v2 : Int) (v9 : V) (σ : H) :
  denC E D W N (C165_2 ) (S165_2 v2 v9 σ) (Fin165 E) (fun _ _ => none) (Fin165 E) =
  T165_2 E D W  v2 v9 σ := by kernel_rfl
def J165_2 (E : List (Nat × Blk)) (D : Den) (W : DrawFn) (N : Nat) : Int → V → H → Ans := T165_2 E D W 
theorem JE165_2 (v2 : Int) (v9 : V) (σ : H) :
  denC E D W N C165_2 (S165_2 v2 v9 σ) (Fin165 E) (fun _ _ => none) (Fin165 E) = J165_2 E D W N v2 v9 σ := by
  refine (P165_2 E D W N   v2 v9 σ).trans ?_
  kernel_rfl
def J165_1 : Int → Nat → Nat → Int → H → Ans := T165_1 E D W (J165_2 E D W N )
theorem JE165_1 (v2 : Int) (v3b v3o : Nat) (v7 : Int) (σ : H) :
  denC E D W N (C165_1 C165_2) (S165_1 v2 v3b v3o v7 σ) (Fin165 E) (fun _ _ => none) (Fin165 E) = J165_1 E D W N v2 v3b v3o v7 σ := by
  refine (P165_1 E D W N C165_2  v2 v3b v3o v7 σ).trans ?_
  simp only [JE165_2]
  kernel_rfl
def J165_0 : Int → Int → Bool → Int → H → Ans := T165_0 E D W (J165_1 E D W N )
theorem JE165_0 (v0_0 v0_1 : Int) (v1 : Bool) (v2 : Int) (σ : H) :
  denC E D W N (C165_0 (C165_1 C165_2)) (S165_0 v0_0 v0_1 v1 v2 σ) (Fin165 E) (fun _ _ => none) (Fin165 E) = J165_0 E D W N v0_0 v0_1 v1 v2 σ := by
  refine (P165_0 E D W N (C165_1 C165_2)  v0_0 v0_1 v1 v2 σ).trans ?_
  simp only [JE165_1]
  kernel_rfl
def F165 (args : List V) (σ : H) : Ans :=
 rtCons args fun x1 l2 =>
 rtAgg x1 fun l3 =>
 rtCons l3 fun x4 l5 =>
 rtInt .i64 x4 fun x6 =>
 rtCons l5 fun x7 l8 =>
 rtInt .i64 x7 fun x9 =>
 rtNil l8 (
 rtCons l2 fun x10 l11 =>
 rtBool x10 fun x12 =>
 rtCons l11 fun x13 l14 =>
 rtInt .i64 x13 fun x15 =>
 rtNil l14 (
 J165_0 E D W N x6 x9 x12 x15 σ))
def A165 : XFn := ⟨60, [(.agg [.i, .i]), .bool, .i], [(.tmp 6)], (C165_0 (C165_1 C165_2))⟩
theorem FE165 (args : List V) (σ : H) : runX E D W N A165 args σ = F165 E D W N args σ := by
  unfold F165
  simp only [← JE165_0]
  kernel_rfl
theorem AO165 : A165.body.ok = true := by kernel_rfl

/-! ### F171: ogham_oghamhelp.In_ogham_api.Tag_ -/
def Fin171 (E : List (Nat × Blk)) : St → Ans := fun s => resK E s [(.tmp 4)] fun l => some (oneV l, s.σ)
def C171_0 (cc1 : XC) (cc2 : XC) : XC := (.seq (.ops (.p 3 [1] (.box 45 (.t 1))<|
.c 4 (V.bool false)<|
.nil))
 (.seq (.seq (.ops (.q 5 0<|
.nil))
 (.block 0 (.loop [(0, .any), (3, .ptr), (5, .i)] [] [] cc2)))
 (.keep [] [] [] cc1)))
def T171_0 (E : List (Nat × Blk)) (D : Den) (W : DrawFn) (K2 : V → Nat → Nat → Int → H → Ans) (v0 : V) (v1_0 v1_1 : Int) (σ : H) : Ans :=
 chk (allOne (V.cells (V.agg [(V.int .i64 v1_0), (V.int .i64 v1_1)]))) (
 let s1 := newB σ (.cells (V.cells (V.agg [(V.int .i64 v1_0), (V.int .i64 v1_1)])));
 K2 v0 (H.next σ) 0 (Int.ofNat 0) s1)
def C171_1 : XC := (.seq (.ops (.c 4 (V.bool false)<|
.nil))
 .ret)
def T171_1 (E : List (Nat × Blk)) (D : Den) (W : DrawFn) (σ : H) : Ans :=
 some ((V.bool false), σ)
def C171_2 : XC := (.seq (.seq (.ops (.m 6 5<|
.m 7 0<|
.u 8 7<|
.b 9 .lss .none (.t 6) (.t 8)<|
.nil))
 (.cond (.tmp 9) .skip
 (.exit 0)))
 (.seq (.block 1 (.seq (.draw (.m 12 0<|
.m 13 5<|
.s 14 2 12 13<|
.op (some 15) (.agg [.i, .i]) [14] (.load (some 2) (.t 14))<|
.op (some 16) (.agg [.i, .i]) [3] (.load (some 2) (.t 3))<|
.b 17 .eql (.flat [(0, .int), (1, .int)]) (.t 15) (.t 16)<|
.nil) [0, 0, 3, 7, 0, 31])
 (.cond (.tmp 17) (.seq (.ops (.c 4 (V.bool true)<|
.nil))
 .ret)
 .skip)))
 (.ops (.m 10 5<|
.b 11 .add .none (.t 10) (.i 1)<|
.m 5 11<|
.nil))))
def T171_2 (E : List (Nat × Blk)) (D : Den) (W : DrawFn) (K1 : H → Ans) (R2 : V → Nat → Nat → Int → H → Ans) (v0 : V) (v3b v3o : Nat) (v5 : Int) (σ : H) : Ans :=
 slenK v0 fun n1 =>
 condK (ltF v5 (Int.ofNat n1)) (
 iaddrSK 2 v0 v5 fun b2 o3 =>
 ldnK E σ b2 o3 2 fun l4 =>
 rtCons l4 fun x5 l6 =>
 rtInt .i64 x5 fun x7 =>
 rtCons l6 fun x8 l9 =>
 rtInt .i64 x8 fun x10 =>
 rtNil l9 (
 ldnK E σ v3b v3o 2 fun l11 =>
 rtCons l11 fun x12 l13 =>
 rtInt .i64 x12 fun x14 =>
 rtCons l13 fun x15 l16 =>
 rtInt .i64 x15 fun x17 =>
 rtNil l16 (
 eqK (.flat [(0, .int), (1, .int)]) (V.agg [(V.int .i64 x7), (V.int .i64 x10)]) (V.agg [(V.int .i64 x14), (V.int .i64 x17)]) fun c18 =>
 condK c18 (
 some ((V.bool true), σ)) (
 R2 v0 v3b v3o (addF .i64 v5 (Int.ofNat 1)) σ)))) (
 K1 σ)
def S171_0 (v0 : V) (v1_0 v1_1 : Int) (σ : H) : St := ⟨[(0, v0), (1, (V.agg [(V.int .i64 v1_0), (V.int .i64 v1_1)]))], [], [], σ⟩
def S171_1 (σ : H) : St := ⟨[], [], [], σ⟩
def S171_2 (v0 : V) (v3b v3o : Nat) (v5 : Int) (σ : H) : St := ⟨[(0, v0), (3, (V.ptr v3b v3o)), (5, (V.int .i64 v5))], [], [], σ⟩
theorem P171_0 (cc1 : XC) (cc2 : XC) (v0 : V) (v1_0 v1_1 : Int) (σ : H) :
  denC E D W N (C171_0 cc1 cc2) (S171_0 v0 v1_0 v1_1 σ) (Fin171 E) (fun _ _ => none) (Fin171 E) =
  T171_0 E D W (fun v0 v3b v3o v5 σ => iterK (fun rec s' => denC E D W N cc2 s' (fun s'' => keepS [(0, .any), (3, .ptr), (5, .i)] [] [] s'' rec) (blkK 0 (fun s' => denC E D W N (.keep [] [] [] cc1) s' (Fin171 E) (fun _ _ => none) (Fin171 E)) (fun _ _ => none)) (Fin171 E)) N (S171_2 v0 v3b v3o v5 σ)) v0 v1_0 v1_1 σ := by kernel_rfl
theorem P171_1 (σ : H) :
  denC E D W N (C171_1 ) (S171_1 σ) (Fin171 E) (fun _ _ => none) (Fin171 E) =
  T171_1 E D W   σ := by kernel_rfl
theorem P171_2 (cc1 : XC) (li2 : St → Ans) (v0 : V) (v3b v3o : Nat) (v5 : Int) (σ : H) :
  denC E D W N (C171_2 ) (S171_2 v0 v3b v3o v5 σ) (fun s'' => keepS [(0, .any), (3, .ptr), (5, .i)] [] [] s'' li2) (blkK 0 (fun s' => denC E D W N (.keep [] [] [] cc1) s' (Fin171 E) (fun _ _ => none) (Fin171 E)) (fun _ _ => none)) (Fin171 E) =
  T171_2 E D W (fun  σ => denC E D W N cc1 (S171_1 σ) (Fin171 E) (fun _ _ => none) (Fin171 E)) (fun v0 v3b v3o v5 σ => li2 (S171_2 v0 v3b v3o v5 σ)) v0 v3b v3o v5 σ := by kernel_rfl
def J171_1 (E : List (Nat × Blk)) (D : Den) (W : DrawFn) (N : Nat) : H → Ans := T171_1 E D W 
theorem JE171_1 (σ : H) :
  denC E D W N C171_1 (S171_1 σ) (Fin171 E) (fun _ _ => none) (Fin171 E) = J171_1 E D W N  σ := by
  refine (P171_1 E D W N    σ).trans ?_
  kernel_rfl
def L171_2 (n : Nat) : V → Nat → Nat → Int → H → Ans :=
  Nat.rec (fun _ _ _ _ _ => none) (fun _ ih => T171_2 E D W (J171_1 E D W N ) ih) n
theorem LE171_2 (n : Nat) : ∀ (v0 : V) (v3b v3o : Nat) (v5 : Int) (σ : H),
  iterK (fun rec s' => denC E D W N C171_2 s' (fun s'' => keepS [(0, .any), (3, .ptr), (5, .i)] [] [] s'' rec) (blkK 0 (fun s' => denC E D W N (.keep [] [] [] C171_1) s' (Fin171 E) (fun _ _ => none) (Fin171 E)) (fun _ _ => none)) (Fin171 E)) n (S171_2 v0 v3b v3o v5 σ) = L171_2 E D W N n v0 v3b v3o v5 σ := by
  induction n with
  | zero => intro v0 v3b v3o v5 σ; rfl
  | succ n ihn =>
    intro v0 v3b v3o v5 σ
    rw [iterK_succ]
    refine (P171_2 E D W N C171_1 (iterK (fun rec s' => denC E D W N C171_2 s' (fun s'' => keepS [(0, .any), (3, .ptr), (5, .i)] [] [] s'' rec) (blkK 0 (fun s' => denC E D W N (.keep [] [] [] C171_1) s' (Fin171 E) (fun _ _ => none) (Fin171 E)) (fun _ _ => none)) (Fin171 E)) n) v0 v3b v3o v5 σ).trans ?_
    simp only [ihn, JE171_1]
    kernel_rfl
def J171_0 : V → Int → Int → H → Ans := T171_0 E D W (L171_2 E D W N N)
theorem JE171_0 (v0 : V) (v1_0 v1_1 : Int) (σ : H) :
  denC E D W N (C171_0 C171_1 C171_2) (S171_0 v0 v1_0 v1_1 σ) (Fin171 E) (fun _ _ => none) (Fin171 E) = J171_0 E D W N v0 v1_0 v1_1 σ := by
  refine (P171_0 E D W N C171_1 C171_2  v0 v1_0 v1_1 σ).trans ?_
  simp only [LE171_2]
  kernel_rfl
def F171 (args : List V) (σ : H) : Ans :=
 rtCons args fun x1 l2 =>
 rtCons l2 fun x3 l4 =>
 rtAgg x3 fun l5 =>
 rtCons l5 fun x6 l7 =>
 rtInt .i64 x6 fun x8 =>
 rtCons l7 fun x9 l10 =>
 rtInt .i64 x9 fun x11 =>
 rtNil l10 (
 rtNil l4 (
 J171_0 E D W N x1 x8 x11 σ))
def A171 : XFn := ⟨18, [.any, (.agg [.i, .i])], [(.tmp 4)], (C171_0 C171_1 C171_2)⟩
theorem FE171 (args : List V) (σ : H) : runX E D W N A171 args σ = F171 E D W N args σ := by
  unfold F171
  simp only [← JE171_0]
  kernel_rfl
theorem AO171 : A171.body.ok = true := by kernel_rfl

def C178_0 : XC := (.seq (.ops (.c 0 V.nils<|
.nil))
 (.seq (.ops (.p 1 [] (.buildSlice 9 25 [(V.str ⟨0, 0⟩), (V.str ⟨0, 0⟩), (V.str ⟨0, 0⟩), (V.str ⟨0, 0⟩), (V.str ⟨0, 0⟩), (V.str ⟨0, 0⟩), (V.str ⟨0, 0⟩), (V.str ⟨0, 0⟩), (V.str ⟨0, 0⟩), (V.str ⟨0, 0⟩), (V.str ⟨0, 0⟩), (V.str ⟨0, 0⟩), (V.str ⟨0, 0⟩), (V.str ⟨0, 0⟩), (V.str ⟨0, 0⟩), (V.str ⟨0, 0⟩), (V.str ⟨0, 0⟩), (V.str ⟨0, 0⟩), (V.str ⟨0, 0⟩), (V.str ⟨0, 0⟩), (V.str ⟨0, 0⟩), (V.str ⟨0, 0⟩), (V.str ⟨0, 0⟩), (V.str ⟨0, 0⟩), (V.str ⟨0, 0⟩)] [(0, 1, (.con (V.str ⟨11, 100710650190388740279911748⟩))), (1, 1, (.con (V.str ⟨8, 6073459554577832005⟩))), (2, 1, (.con (V.str ⟨8, 6073459554577829193⟩))), (3, 1, (.con (V.str ⟨9, 1241215773001651606849⟩))), (4, 1, (.con (V.str ⟨4, 1397178708⟩))), (5, 1, (.con (V.str ⟨5, 336236856642⟩))), (6, 1, (.con (V.str ⟨3, 4476485⟩))), (7, 1, (.con (V.str ⟨7, 22026814072246082⟩))), (8, 1, (.con (V.str ⟨7, 23157120498421321⟩))), (9, 1, (.con (V.str ⟨10, 322399817400452109389381⟩))), (10, 1, (.con (V.str ⟨4, 1280070990⟩))), (11, 1, (.con (V.str ⟨5, 361940403023⟩))), (12, 1, (.con (V.str ⟨6, 78401563153491⟩))), (13, 1, (.con (V.str ⟨10, 488440487847103610377301⟩))), (14, 1, (.con (V.str ⟨8, 4990918871747741011⟩))), (15, 1, (.con (V.str ⟨3, 5522771⟩))), (16, 1, (.con (V.str ⟨6, 76155295057987⟩))), (17, 1, (.con (V.str ⟨2, 17999⟩))), (18, 1, (.con (V.str ⟨8, 5494759122808361039⟩))), (19, 1, (.con (V.str ⟨7, 23727827094750532⟩))), (20, 1, (.con (V.str ⟨4, 1163544915⟩))), (21, 1, (.con (V.str ⟨3, 5130573⟩))), (22, 1, (.con (V.str ⟨3, 5783885⟩))), (23, 1, (.con (V.str ⟨4, 1163219540⟩))), (24, 1, (.con (V.str ⟨5, 297750249798⟩)))])<|
.m 0 1<|
.nil))
 .ret))
def A178 : XFn := ⟨2, [], [(.tmp 0)], C178_0⟩
def G180_0 : List AOper := [⟨(some 35), .mov (.tmp 1), none⟩, ⟨(some 36), .mov (.tmp 1), none⟩, ⟨(some 37), .nilck (.tmp 36), none⟩, ⟨(some 38), .faddr 12 (.tmp 37), none⟩, ⟨(some 39), .load none (.tmp 38), none⟩, ⟨(some 40), .load (some 11) (.tmp 8), none⟩, ⟨(some 41), .buildSlice 142 1 [(V.str ⟨0, 0⟩), (V.int .i64 (Int.ofNat 0)), (V.bool false), (V.bool false), (V.int .i64 (Int.ofNat 0)), (V.int .i64 (Int.ofNat 0)), V.nils, V.nils, (V.int .i64 (Int.ofNat 0)), V.nils, (V.int .i64 (Int.ofNat 0))] [(0, 11, (.tmp 40))], none⟩, ⟨(some 42), .append 142 11 136 (.tmp 39) (.tmp 41), none⟩, ⟨(some 43), .nilck (.tmp 35), none⟩, ⟨(some 44), .faddr 12 (.tmp 43), none⟩, ⟨none, .store 1 (.tmp 44) (.tmp 42), none⟩]
def H180_0 : List DP := [⟨0, [1]⟩, ⟨0, [1]⟩, ⟨2, [36]⟩, ⟨6, [37]⟩, ⟨14, [38]⟩, ⟨0, [8]⟩, ⟨32, [40]⟩, ⟨126, [39, 41]⟩, ⟨255, [35]⟩, ⟨511, [43]⟩, ⟨1023, [44, 42]⟩]
def C180_0 (cc1 : XC) : XC := (.seq (.ops (.m 9 0<|
.k 10 .str 55 [(.t 9), (.i 2)]<|
.m 11 3<|
.op (some 12) (.agg [.str, .i, .bool, .bool, .i, .i, .any, .any, .i, .any, .i]) [10, 11] (.build [(V.str ⟨0, 0⟩), (V.int .i64 (Int.ofNat 0)), (V.bool false), (V.bool false), (V.int .i64 (Int.ofNat 0)), (V.int .i64 (Int.ofNat 0)), V.nils, V.nils, (V.int .i64 (Int.ofNat 0)), V.nils, (V.int .i64 (Int.ofNat 0))] [(0, 1, (.t 10)), (10, 1, (.t 11))])<|
.p 8 [] (.alloc 142 [(V.str ⟨0, 0⟩), (V.int .i64 (Int.ofNat 0)), (V.bool false), (V.bool false), (V.int .i64 (Int.ofNat 0)), (V.int .i64 (Int.ofNat 0)), V.nils, V.nils, (V.int .i64 (Int.ofNat 0)), V.nils, (V.int .i64 (Int.ofNat 0))])<|
.op none (.agg [.str, .i, .bool, .bool, .i, .i, .any, .any, .i, .any, .i]) [8, 12] (.store 11 (.t 8) (.t 12))<|
.nil))
 (.seq (.ops (.m 13 0<|
.m 14 2<|
.b 15 .add .none (.t 14) (.i 1)<|
.k 16 .i 60 [(.t 13), (.t 15)]<|
.f 17 1 8<|
.w 1 17 16<|
.nil))
 (.seq (.block 0 (.seq (.ops (.m 19 1<|
.n 20 19<|
.f 21 0 20<|
.l 22 .i 21<|
.b 23 .eql .none (.t 22) (.i 9)<|
.m 18 23<|
.nil))
 (.cond (.tmp 18) .skip
 (.seq (.ops (.m 25 0<|
.k 26 .bool 57 [(.t 25), (.con (V.str ⟨8, 5494759122808361039⟩))]<|
.m 24 26<|
.nil))
 (.cond (.tmp 24) (.ops (.f 27 2 8<|
.op none .any [27] (.store 1 (.t 27) (.con (V.bool true)))<|
.nil))
 (.seq (.ops (.m 29 0<|
.k 30 .bool 57 [(.t 29), (.con (V.str ⟨7, 23727827094750532⟩))]<|
.m 28 30<|
.nil))
 (.cond (.tmp 28) (.ops (.m 31 0<|
.k 32 (.agg [.i, .i, .any, .any, .i, .any]) 204 [(.t 31)]<|
.f 33 3 8<|
.op none .any [33] (.store 1 (.t 33) (.con (V.bool true)))<|
.f 34 4 8<|
.op none (.agg [.i, .i, .any, .any, .i, .any]) [34, 32] (.store 6 (.t 34) (.t 32))<|
.nil))
 .skip)))))))
 (.keep [(1, .ptr), (8, .ptr)] [] [] cc1))))
def C180_1 : XC := (.keep [(1, .ptr), (8, .ptr)] [] [] (.gdraw G180_0 H180_0 []))
def A180 : XFn := ⟨45, [.any, .ptr, .i, .i], [], (C180_0 C180_1)⟩
def G183_0 : List AOper := [⟨(some 59), .faddr 11 (.tmp 3), none⟩, ⟨(some 60), .load none (.tmp 59), none⟩, ⟨(some 61), .un .not (.tmp 60), none⟩, ⟨(some 62), .mov (.tmp 61), none⟩, ⟨(some 63), .mov (.tmp 0), (some (62, false))⟩, ⟨(some 64), .faddr 9 (.tmp 3), (some (62, false))⟩, ⟨(some 65), .load none (.tmp 64), (some (62, false))⟩, ⟨(some 66), .load (some 13) (.tmp 3), (some (62, false))⟩, ⟨(some 67), .call 170 [(.tmp 66)], (some (62, false))⟩, ⟨(some 68), .sliceSl 11 (.tmp 65) (some (.tmp 67)) none none, (some (62, false))⟩, ⟨(some 69), .call 205 [(.tmp 63), (.tmp 68), (.con (V.bool true))], (some (62, false))⟩, ⟨(some 70), .pick (.tmp 62) (.con (V.bool true)) (.tmp 69), none⟩, ⟨(some 4), .mov (.tmp 70), none⟩]
def H183_0 : List DP := [⟨0, [3]⟩, ⟨1, [59]⟩, ⟨3, [60]⟩, ⟨7, [61]⟩, ⟨15, [0, 62]⟩, ⟨15, [3, 62]⟩, ⟨47, [64, 62]⟩, ⟨15, [3, 62]⟩, ⟨143, [66, 62]⟩, ⟨495, [65, 67, 62]⟩, ⟨1023, [63, 68, 62]⟩, ⟨2047, [62, 69]⟩, ⟨4095, [70]⟩]
def C183_0 (cc1 : XC) (cc2 : XC) : XC := (.seq (.ops (.p 3 [1] (.box 139 (.t 1))<|
.c 4 (V.bool false)<|
.nil))
 (.seq (.seq (.ops (.f 8 0 3<|
.l 9 .i 8<|
.b 10 .neq .none (.t 9) (.i 7)<|
.nil))
 (.cond (.tmp 10) (.seq (.ops (.m 11 0<|
.f 12 9 3<|
.l 13 .any 12<|
.f 14 11 3<|
.l 15 .bool 14<|
.k 16 .bool 205 [(.t 11), (.t 13), (.t 15)]<|
.m 4 16<|
.nil))
 .ret)
 .skip))
 (.seq (.ops (.op (some 17) (.agg [.i, .any, .bool, .bool, .bool, .bool, .i, .i, .any, .any, .i, .bool, .i]) [3] (.load (some 13) (.t 3))<|
.k 18 .one 195 [(.t 17)]<|
.m 5 18<|
.nil))
 (.seq (.seq (.ops (.q 6 0<|
.nil))
 (.block 0 (.loop [(0, .any), (3, .ptr), (5, .any), (6, .i)] [] [] cc2)))
 (.keep [(0, .any), (3, .ptr)] [] [] cc1)))))
def C183_1 : XC := (.seq (.keep [(0, .any), (3, .ptr)] [] [] (.gdraw G183_0 H183_0 [(4, .bool)]))
 .ret)
def C183_2 (cc3 : XC) (cc4 : XC) (cc5 : XC) : XC := (.seq (.seq (.ops (.m 19 6<|
.f 20 9 3<|
.l 21 .any 20<|
.u 22 21<|
.b 23 .lss .none (.t 19) (.t 22)<|
.nil))
 (.cond (.tmp 23) .skip
 (.exit 0)))
 (.seq (.block 1 (.seq (.seq (.ops (.m 26 5<|
.m 27 6<|
.s 28 1 26 27<|
.l 29 .bool 28<|
.p 30 [29] (.un .not (.t 29))<|
.nil))
 (.cond (.tmp 30) (.exit 1)
 .skip))
 (.seq (.ops (.m 31 6<|
.b 32 .add .none (.t 31) (.i 1)<|
.m 7 32<|
.nil))
 (.seq (.block 2 (.loop [(0, .any), (3, .ptr), (5, .any), (6, .i), (7, .i)] [] [] cc5))
 (.keep [(0, .any), (3, .ptr), (5, .any), (6, .i), (7, .i)] [] [] cc4)))))
 (.keep [(0, .any), (3, .ptr), (5, .any), (6, .i)] [] [] cc3)))
def C183_3 : XC := (.ops (.m 24 6<|
.b 25 .add .none (.t 24) (.i 1)<|
.m 6 25<|
.nil))
def C183_4 : XC := (.seq (.ops (.m 46 0<|
.f 47 9 3<|
.l 48 .any 47<|
.m 49 6<|
.m 50 7<|
.b 51 .add .none (.t 50) (.i 1)<|
.f 52 9 3<|
.l 53 .any 52<|
.u 54 53<|
.p 55 [51, 54] (.min (.t 51) [(.t 54)])<|
.p 56 [48, 49, 55] (.sliceSl 11 (.t 48) (some (.t 49)) (some (.t 55)) none)<|
.k 57 .bool 205 [(.t 46), (.t 56), (.con (V.bool false))]<|
.p 58 [57] (.un .not (.t 57))<|
.nil))
 (.cond (.tmp 58) (.seq (.ops (.c 4 (V.bool false)<|
.nil))
 .ret)
 .skip))
def C183_5 : XC := (.seq (.seq (.ops (.m 33 7<|
.f 34 9 3<|
.l 35 .any 34<|
.u 36 35<|
.b 37 .lss .none (.t 33) (.t 36)<|
.m 38 37<|
.grp 38 true (.p 39 [5, 38] (.mov (.t 5))<|
.p 40 [7, 38] (.mov (.t 7))<|
.p 41 [39, 40, 38] (.iaddrS 1 (.t 39) (.t 40))<|
.op (some 42) .bool [41, 38] (.load none (.t 41))<|
.nil) 43 [38, 42] (.t 38) (.t 42) (.con (V.bool false))<|
.nil))
 (.cond (.tmp 43) .skip
 (.exit 2)))
 (.block 3 (.ops (.m 44 7<|
.b 45 .add .none (.t 44) (.i 1)<|
.m 7 45<|
.nil))))
def A183 : XFn := ⟨71, [.any, (.agg [.i, .any, .bool, .bool, .bool, .bool, .i, .i, .any, .any, .i, .bool, .i])], [(.tmp 4)], (C183_0 C183_1 (C183_2 C183_3 C183_4 C183_5))⟩
/-! ### F187: ogham_order.Slots -/
def Fin187 (E : List (Nat × Blk)) : St → Ans := fun s => resK E s [(.tmp 4)] fun l => some (oneV l, s.σ)
def C187_0 (cc1 : XC) (cc2 : XC) : XC := (.seq (.ops (.p 2 [0] (.box 31 (.t 0))<|
.c 4 V.nils<|
.nil))
 (.seq (.ops (.op (some 11) (.agg [.str, .any, .any, .any]) [2] (.load (some 4) (.t 2))<|
.m 12 1<|
.k 13 (.agg [.i, .any, .bool, .bool, .bool, .bool, .i, .i, .any, .any, .i, .bool, .i]) 207 [(.t 11), (.t 12)]<|
.pal 5 [] 139 [(V.int .i64 (Int.ofNat 0)), V.nils, (V.bool false), (V.bool false), (V.bool false), (V.bool false), (V.int .i64 (Int.ofNat 0)), (V.int .i64 (Int.ofNat 0)), V.nils, V.nils, (V.int .i64 (Int.ofNat 0)), (V.bool false), (V.int .i64 (Int.ofNat 0))]<|
.op none (.agg [.i, .any, .bool, .bool, .bool, .bool, .i, .i, .any, .any, .i, .bool, .i]) [5, 13] (.store 13 (.t 5) (.t 13))<|
.nil))
 (.seq (.seq (.ops (.f 14 0 5<|
.l 15 .i 14<|
.b 16 .neq .none (.t 15) (.i 7)<|
.m 17 16<|
.grp 17 true (.p 18 [5, 17] (.faddr 0 (.t 5))<|
.op (some 19) .i [18, 17] (.load none (.t 18))<|
.p 20 [19, 17] (.bin .neq .none (.t 19) (.i 8))<|
.nil) 21 [17, 20] (.t 17) (.t 20) (.con (V.bool false))<|
.m 22 21<|
.grp 22 true (.p 23 [5, 22] (.faddr 0 (.t 5))<|
.op (some 24) .i [23, 22] (.load none (.t 23))<|
.p 25 [24, 22] (.bin .neq .none (.t 24) (.i 9))<|
.nil) 26 [22, 25] (.t 22) (.t 25) (.con (V.bool false))<|
.nil))
 (.cond (.tmp 26) (.seq (.ops (.c 4 V.nils<|
.nil))
 .ret)
 .skip))
 (.seq (.ops (.c 6 V.nils<|
.nil))
 (.seq (.seq (.ops (.f 27 10 5<|
.l 28 .i 27<|
.p 29 [28] (.max (.t 28) [(.i 0)])<|
.f 30 9 5<|
.l 31 .any 30<|
.u 32 31<|
.k 33 .one 208 [(.t 29), (.t 32)]<|
.u 34 33<|
.q 35 0<|
.nil))
 (.block 0 (.loop [(6, .any), (33, .any), (34, .i), (35, .i)] [5] [(5, [.i, .any, .bool, .bool, .bool, .bool, .i, .i, .any, .any, .i, .bool, .i])] cc2)))
 (.keep [(6, .any)] [] [] cc1))))))
def T187_0 (E : List (Nat × Blk)) (D : Den) (W : DrawFn) (K2 : V → V → Int → Int → Int → V → Bool → Bool → Bool → Bool → Int → Int → V → V → Int → Bool → Int → H → Ans) (v0_0 : BS) (v0_1 v0_2 v0_3 : V) (v1 : Int) (σ : H) : Ans :=
 chk (allOne (V.cells (V.agg [(V.str v0_0), v0_1, v0_2, v0_3]))) (
 let s1 := newB σ (.cells (V.cells (V.agg [(V.str v0_0), v0_1, v0_2, v0_3])));
 ldnK E s1 (H.next σ) 0 4 fun l2 =>
 rtCons l2 fun x3 l4 =>
 rtStr x3 fun x5 =>
 rtCons l4 fun x6 l7 =>
 rtCons l7 fun x8 l9 =>
 rtCons l9 fun x10 l11 =>
 rtNil l11 (
 callK (D 207 [(V.agg [(V.str x5), x6, x8, x10]), (V.int .i64 v1)] s1) fun u12 s13 =>
 rtAgg u12 fun l14 =>
 rtCons l14 fun x15 l16 =>
 rtInt .i64 x15 fun x17 =>
 rtCons l16 fun x18 l19 =>
 rtCons l19 fun x20 l21 =>
 rtBool x20 fun x22 =>
 rtCons l21 fun x23 l24 =>
 rtBool x23 fun x25 =>
 rtCons l24 fun x26 l27 =>
 rtBool x26 fun x28 =>
 rtCons l27 fun x29 l30 =>
 rtBool x29 fun x31 =>
 rtCons l30 fun x32 l33 =>
 rtInt .i64 x32 fun x34 =>
 rtCons l33 fun x35 l36 =>
 rtInt .i64 x35 fun x37 =>
 rtCons l36 fun x38 l39 =>
 rtCons l39 fun x40 l41 =>
 rtCons l41 fun x42 l43 =>
 rtInt .i64 x42 fun x44 =>
 rtCons l43 fun x45 l46 =>
 rtBool x45 fun x47 =>
 rtCons l46 fun x48 l49 =>
 rtInt .i64 x48 fun x50 =>
 rtNil l49 (
 chk (allOne [(V.int .i64 x17), x18, (V.bool x22), (V.bool x25), (V.bool x28), (V.bool x31), (V.int .i64 x34), (V.int .i64 x37), x38, x40, (V.int .i64 x44), (V.bool x47), (V.int .i64 x50)]) (
 joinB (fun c51 s52 =>
 joinB (fun c54 s55 =>
 condK c54 (
 some (V.nils, s55)) (
 slenK x40 fun n57 =>
 callK (D 208 [(V.int .i64 (maxF x44 (Int.ofNat 0))), (V.int .i64 (Int.ofNat n57))] s55) fun u58 s59 =>
 rtOne u58 (
 slenK u58 fun n60 =>
 K2 V.nils u58 (Int.ofNat n60) (Int.ofNat 0) x17 x18 x22 x25 x28 x31 x34 x37 x38 x40 x44 x47 x50 s59))) fun k56 =>
 condK c51 (
 k56 (not (eqF x17 (Int.ofNat 9))) s52) (
 k56 false s52)) fun k53 =>
 condK (not (eqF x17 (Int.ofNat 7))) (
 k53 (not (eqF x17 (Int.ofNat 8))) s13) (
 k53 false s13)))))
def C187_1 : XC := (.seq (.ops (.m 86 6<|
.m 4 86<|
.nil))
 .ret)
def C187_2 (cc3 : XC) : XC := (.seq (.ops (.b 36 .lss .none (.t 35) (.t 34)<|
.nil))
 (.seq (.cond (.tmp 36) .skip
 (.exit 0))
 (.seq (.block 1 (.seq (.ops (.s 37 1 33 35<|
.l 38 .i 37<|
.m 8 38<|
.nil))
 (.seq (.ops (.m 39 6<|
.u 40 39<|
.b 41 .sub .none (.t 40) (.i 1)<|
.m 9 41<|
.nil))
 (.seq (.seq (.ops (.f 42 9 5<|
.l 43 .any 42<|
.m 44 8<|
.s 45 11 43 44<|
.f 46 10 45<|
.l 47 .i 46<|
.m 10 47<|
.nil))
 (.seq (.ops (.f 48 0 5<|
.l 49 .i 48<|
.b 50 .neq .none (.t 49) (.i 9)<|
.m 51 50<|
.grp 51 true (.p 52 [10, 51] (.mov (.t 10))<|
.p 53 [52, 51] (.bin .gtr .none (.t 52) (.i 0))<|
.nil) 54 [51, 53] (.t 51) (.t 53) (.con (V.bool false))<|
.m 55 54<|
.grp 55 true (.p 56 [9, 55] (.mov (.t 9))<|
.p 57 [56, 55] (.bin .geq .none (.t 56) (.i 0))<|
.nil) 58 [55, 57] (.t 55) (.t 57) (.con (V.bool false))<|
.m 59 58<|
.grp 59 true (.p 60 [5, 59] (.faddr 9 (.t 5))<|
.p 61 [60, 59] (.load none (.t 60))<|
.p 62 [8, 59] (.mov (.t 8))<|
.p 63 [62, 59] (.bin .sub .none (.t 62) (.i 1))<|
.p 64 [61, 63, 59] (.iaddrS 11 (.t 61) (.t 63))<|
.p 65 [64, 59] (.faddr 10 (.t 64))<|
.op (some 66) .i [65, 59] (.load none (.t 65))<|
.p 67 [10, 59] (.mov (.t 10))<|
.p 68 [66, 67, 59] (.bin .eql .none (.t 66) (.t 67))<|
.nil) 69 [59, 68] (.t 59) (.t 68) (.con (V.bool false))<|
.nil))
 (.cond (.tmp 69) (.seq (.ops (.m 70 6<|
.m 71 9<|
.m 72 6<|
.m 73 9<|
.s 74 1 72 73<|
.l 75 .any 74<|
.m 76 8<|
.p 77 [76] (.buildSlice 3 1 [(V.int .i64 (Int.ofNat 0))] [(0, 1, (.t 76))])<|
.op (some 78) .one [75, 77] (.append 3 1 8 (.t 75) (.t 77))<|
.s 79 1 70 71<|
.w 1 79 78<|
.nil))
 (.exit 1))
 .skip)))
 (.ops (.m 80 6<|
.m 81 8<|
.p 82 [81] (.buildSlice 3 1 [(V.int .i64 (Int.ofNat 0))] [(0, 1, (.t 81))])<|
.p 83 [82] (.buildSlice 28 1 [V.nils] [(0, 1, (.t 82))])<|
.op (some 84) .one [80, 83] (.append 28 1 24 (.t 80) (.t 83))<|
.m 6 84<|
.nil))))))
 (.keep [(6, .any), (33, .any), (34, .i), (35, .i)] [5] [(5, [.i, .any, .bool, .bool, .bool, .bool, .i, .i, .any, .any, .i, .bool, .i])] cc3))))
def C187_3 : XC := (.ops (.b 85 .add .none (.t 35) (.i 1)<|
.m 35 85<|
.nil))
def S187_0 (v0_0 : BS) (v0_1 v0_2 v0_3 : V) (v1 : Int) (σ : H) : St := ⟨[(0, (V.agg [(V.str v0_0), v0_1, v0_2, v0_3])), (1, (V.int .i64 v1))], [], [], σ⟩
def S187_2 (v6 v33 : V) (v34 v35 r5_0 : Int) (r5_1 : V) (r5_2 r5_3 r5_4 r5_5 : Bool) (r5_6 r5_7 : Int) (r5_8 r5_9 : V) (r5_10 : Int) (r5_11 : Bool) (r5_12 : Int) (σ : H) : St := ⟨[(6, v6), (33, v33), (34, (V.int .i64 v34)), (35, (V.int .i64 v35))], [(5, (5, 0))], [(5, [(V.int .i64 r5_0), r5_1, (V.bool r5_2), (V.bool r5_3), (V.bool r5_4), (V.bool r5_5), (V.int .i64 r5_6), (V.int .i64 r5_7), r5_8, r5_9, (V.int .i64 r5_10), (V.bool r5_11), (V.int .i64 r5_12)])], σ⟩
theorem P187_0 (cc1 : XC) (cc2 : XC) (v0_0 : BS) (v0_1 v0_2 v0_3 : V) (v1 : Int) (σ : H) :
  denC E D W N (C187_0 cc1 cc2) (S187_0 v0_0 v0_1 v0_2 v0_3 v1 σ) (Fin187 E) (fun _ _ => none) (Fin187 E) =
  T187_0 E D W (fun v6 v33 v34 v35 r5_0 r5_1 r5_2 r5_3 r5_4 r5_5 r5_6 r5_7 r5_8 r5_9 r5_10 r5_11 r5_12 σ => iterK (fun rec s' => denC E D W N cc2 s' (fun s'' => keepS [(6, .any), (33, .any), (34, .i), (35, .i)] [5] [(5, [.i, .any, .bool, .bool, .bool, .bool, .i, .i, .any, .any, .i, .bool, .i])] s'' rec) (blkK 0 (fun s' => denC E D W N (.keep [(6, .any)] [] [] cc1) s' (Fin187 E) (fun _ _ => none) (Fin187 E)) (fun _ _ => none)) (Fin187 E)) N (S187_2 v6 v33 v34 v35 r5_0 r5_1 r5_2 r5_3 r5_4 r5_5 r5_6 r5_7 r5_8 r5_9 r5_10 r5_11 r5_12 σ)) v0_0 v0_1 v0_2 v0_3 v1 σ := by kernel_rfl
def L187_2 (n : Nat) (v6 v33 : V) (v34 v35 r5_0 : Int) (r5_1 : V) (r5_2 r5_3 r5_4 r5_5 : Bool) (r5_6 r5_7 : Int) (r5_8 r5_9 : V) (r5_10 : Int) (r5_11 : Bool) (r5_12 : Int) (σ : H) : Ans := iterK (fun rec s' => denC E D W N (C187_2 C187_3) s' (fun s'' => keepS [(6, .any), (33, .any), (34, .i), (35, .i)] [5] [(5, [.i, .any, .bool, .bool, .bool, .bool, .i, .i, .any, .any, .i, .bool, .i])] s'' rec) (blkK 0 (fun s' => denC E D W N (.keep [(6, .any)] [] [] C187_1) s' (Fin187 E) (fun _ _ => none) (Fin187 E)) (fun _ _ => none)) (Fin187 E)) n (S187_2 v6 v33 v34 v35 r5_0 r5_1 r5_2 r5_3 r5_4 r5_5 r5_6 r5_7 r5_8 r5_9 r5_10 r5_11 r5_12 σ)
theorem LE187_2 (n : Nat) (v6 v33 : V) (v34 v35 r5_0 : Int) (r5_1 : V) (r5_2 r5_3 r5_4 r5_5 : Bool) (r5_6 r5_7 : Int) (r5_8 r5_9 : V) (r5_10 : Int) (r5_11 : Bool) (r5_12 : Int) (σ : H) : iterK (fun rec s' => denC E D W N (C187_2 C187_3) s' (fun s'' => keepS [(6, .any), (33, .any), (34, .i), (35, .i)] [5] [(5, [.i, .any, .bool, .bool, .bool, .bool, .i, .i, .any, .any, .i, .bool, .i])] s'' rec) (blkK 0 (fun s' => denC E D W N (.keep [(6, .any)] [] [] C187_1) s' (Fin187 E) (fun _ _ => none) (Fin187 E)) (fun _ _ => none)) (Fin187 E)) n (S187_2 v6 v33 v34 v35 r5_0 r5_1 r5_2 r5_3 r5_4 r5_5 r5_6 r5_7 r5_8 r5_9 r5_10 r5_11 r5_12 σ) = L187_2 E D W N n v6 v33 v34 v35 r5_0 r5_1 r5_2 r5_3 r5_4 r5_5 r5_6 r5_7 r5_8 r5_9 r5_10 r5_11 r5_12 σ := rfl
def J187_0 : BS → V → V → V → Int → H → Ans := T187_0 E D W (L187_2 E D W N N)
theorem JE187_0 (v0_0 : BS) (v0_1 v0_2 v0_3 : V) (v1 : Int) (σ : H) :
  denC E D W N (C187_0 C187_1 (C187_2 C187_3)) (S187_0 v0_0 v0_1 v0_2 v0_3 v1 σ) (Fin187 E) (fun _ _ => none) (Fin187 E) = J187_0 E D W N v0_0 v0_1 v0_2 v0_3 v1 σ := by
  refine (P187_0 E D W N C187_1 (C187_2 C187_3)  v0_0 v0_1 v0_2 v0_3 v1 σ).trans ?_
  simp only [LE187_2]
  kernel_rfl
def F187 (args : List V) (σ : H) : Ans :=
 rtCons args fun x1 l2 =>
 rtAgg x1 fun l3 =>
 rtCons l3 fun x4 l5 =>
 rtStr x4 fun x6 =>
 rtCons l5 fun x7 l8 =>
 rtCons l8 fun x9 l10 =>
 rtCons l10 fun x11 l12 =>
 rtNil l12 (
 rtCons l2 fun x13 l14 =>
 rtInt .i64 x13 fun x15 =>
 rtNil l14 (
 J187_0 E D W N x6 x7 x9 x11 x15 σ))
def A187 : XFn := ⟨87, [(.agg [.str, .any, .any, .any]), .i], [(.tmp 4)], (C187_0 C187_1 (C187_2 C187_3))⟩
theorem FE187 (args : List V) (σ : H) : runX E D W N A187 args σ = F187 E D W N args σ := by
  unfold F187
  simp only [← JE187_0]
  kernel_rfl
theorem AO187 : A187.body.ok = true := by kernel_rfl

def C195_0 (cc1 : XC) (cc2 : XC) : XC := (.seq (.ops (.p 1 [0] (.box 139 (.t 0))<|
.c 2 V.nils<|
.nil))
 (.seq (.ops (.c 3 V.nils<|
.nil))
 (.seq (.seq (.ops (.q 4 0<|
.nil))
 (.block 0 (.loop [(1, .ptr), (3, .any), (4, .i)] [] [] cc2)))
 (.keep [(3, .any)] [] [] cc1))))
def C195_1 : XC := (.seq (.ops (.m 35 3<|
.m 2 35<|
.nil))
 .ret)
def C195_2 : XC := (.seq (.seq (.ops (.m 5 4<|
.f 6 9 1<|
.l 7 .any 6<|
.u 8 7<|
.b 9 .lss .none (.t 5) (.t 8)<|
.nil))
 (.cond (.tmp 9) .skip
 (.exit 0)))
 (.seq (.block 1 (.ops (.m 12 3<|
.f 13 9 1<|
.l 14 .any 13<|
.m 15 4<|
.s 16 11 14 15<|
.f 17 2 16<|
.l 18 .bool 17<|
.m 19 18<|
.grp 19 false (.p 20 [1, 19] (.faddr 9 (.t 1))<|
.p 21 [20, 19] (.load none (.t 20))<|
.p 22 [4, 19] (.mov (.t 4))<|
.p 23 [21, 22, 19] (.iaddrS 11 (.t 21) (.t 22))<|
.p 24 [23, 19] (.faddr 3 (.t 23))<|
.op (some 25) .bool [24, 19] (.load none (.t 24))<|
.nil) 26 [19, 25] (.t 19) (.con (V.bool true)) (.t 25)<|
.m 27 26<|
.grp 27 false (.p 28 [4, 27] (.mov (.t 4))<|
.p 29 [1, 27] (.faddr 10 (.t 1))<|
.op (some 30) .i [29, 27] (.load none (.t 29))<|
.p 31 [28, 30, 27] (.bin .geq .none (.t 28) (.t 30))<|
.nil) 32 [27, 31] (.t 27) (.con (V.bool true)) (.t 31)<|
.p 33 [32] (.buildSlice 4 1 [(V.bool false)] [(0, 1, (.t 32))])<|
.op (some 34) .one [12, 33] (.append 4 1 1 (.t 12) (.t 33))<|
.m 3 34<|
.nil)))
 (.ops (.m 10 4<|
.b 11 .add .none (.t 10) (.i 1)<|
.m 4 11<|
.nil))))
def A195 : XFn := ⟨36, [(.agg [.i, .any, .bool, .bool, .bool, .bool, .i, .i, .any, .any, .i, .bool, .i])], [(.tmp 2)], (C195_0 C195_1 C195_2)⟩
def C196_0 (cc1 : XC) (cc2 : XC) : XC := (.seq (.ops (.c 4 V.nils<|
.nil))
 (.seq (.seq (.ops (.m 7 0<|
.m 8 1<|
.s 9 13 7 8<|
.f 10 1 9<|
.l 11 .any 10<|
.u 12 11<|
.b 13 .gtr .none (.t 12) (.i 0)<|
.nil))
 (.cond (.tmp 13) (.seq (.ops (.m 14 0<|
.m 15 1<|
.s 16 13 14 15<|
.f 17 1 16<|
.l 18 .any 17<|
.p 19 [18] (.sliceSl 2 (.t 18) none (some (.i 1)) none)<|
.m 4 19<|
.nil))
 .ret)
 .skip))
 (.seq (.ops (.c 5 V.nils<|
.nil))
 (.seq (.seq (.ops (.q 6 0<|
.nil))
 (.block 0 (.loop [(0, .any), (1, .i), (5, .any), (6, .i)] [] [] cc2)))
 (.keep [(5, .any)] [] [] cc1)))))
def C196_1 : XC := (.seq (.ops (.m 43 5<|
.m 4 43<|
.nil))
 .ret)
def C196_2 : XC := (.seq (.seq (.ops (.m 20 6<|
.m 21 0<|
.m 22 1<|
.s 23 13 21 22<|
.f 24 9 23<|
.l 25 .any 24<|
.u 26 25<|
.b 27 .lss .none (.t 20) (.t 26)<|
.nil))
 (.cond (.tmp 27) .skip
 (.exit 0)))
 (.seq (.block 1 (.ops (.m 30 5<|
.m 31 0<|
.m 32 0<|
.m 33 1<|
.s 34 13 32 33<|
.f 35 9 34<|
.l 36 .any 35<|
.m 37 6<|
.s 38 11 36 37<|
.f 39 1 38<|
.l 40 .i 39<|
.k 41 .one 196 [(.t 31), (.t 40)]<|
.op (some 42) .one [30, 41] (.append 45 2 16 (.t 30) (.t 41))<|
.m 5 42<|
.nil)))
 (.ops (.m 28 6<|
.b 29 .add .none (.t 28) (.i 1)<|
.m 6 29<|
.nil))))
def A196 : XFn := ⟨44, [.any, .i], [(.tmp 4)], (C196_0 C196_1 C196_2)⟩
def C202_0 (cc1 : XC) (cc2 : XC) : XC := (.seq (.ops (.c 4 (V.bool false)<|
.nil))
 (.seq (.seq (.ops (.m 7 0<|
.m 8 1<|
.s 9 13 7 8<|
.f 10 0 9<|
.l 11 .i 10<|
.b 12 .neq .none (.t 11) (.i 9)<|
.m 13 12<|
.grp 13 false (.p 14 [0, 13] (.mov (.t 0))<|
.p 15 [1, 13] (.mov (.t 1))<|
.p 16 [14, 15, 13] (.iaddrS 13 (.t 14) (.t 15))<|
.p 17 [16, 13] (.faddr 1 (.t 16))<|
.p 18 [17, 13] (.load none (.t 17))<|
.p 19 [18, 13] (.len false (.t 18))<|
.p 20 [19, 13] (.bin .gtr .none (.t 19) (.i 0))<|
.nil) 21 [13, 20] (.t 13) (.con (V.bool true)) (.t 20)<|
.nil))
 (.cond (.tmp 21) (.seq (.ops (.c 4 (V.bool false)<|
.nil))
 .ret)
 .skip))
 (.seq (.ops (.m 22 0<|
.m 23 1<|
.s 24 13 22 23<|
.f 25 11 24<|
.l 26 .bool 25<|
.m 5 26<|
.nil))
 (.seq (.seq (.ops (.q 6 0<|
.nil))
 (.block 0 (.loop [(0, .any), (1, .i), (5, .bool), (6, .i)] [] [] cc2)))
 (.keep [(5, .bool)] [] [] cc1)))))
def C202_1 : XC := (.seq (.ops (.m 51 5<|
.m 4 51<|
.nil))
 .ret)
def C202_2 : XC := (.seq (.seq (.ops (.m 27 6<|
.m 28 0<|
.m 29 1<|
.s 30 13 28 29<|
.f 31 9 30<|
.l 32 .any 31<|
.u 33 32<|
.b 34 .lss .none (.t 27) (.t 33)<|
.nil))
 (.cond (.tmp 34) .skip
 (.exit 0)))
 (.seq (.block 1 (.ops (.m 37 5<|
.m 38 37<|
.grp 38 false (.p 39 [0, 38] (.mov (.t 0))<|
.p 40 [0, 38] (.mov (.t 0))<|
.p 41 [1, 38] (.mov (.t 1))<|
.p 42 [40, 41, 38] (.iaddrS 13 (.t 40) (.t 41))<|
.p 43 [42, 38] (.faddr 9 (.t 42))<|
.p 44 [43, 38] (.load none (.t 43))<|
.p 45 [6, 38] (.mov (.t 6))<|
.p 46 [44, 45, 38] (.iaddrS 11 (.t 44) (.t 45))<|
.p 47 [46, 38] (.faddr 1 (.t 46))<|
.op (some 48) .i [47, 38] (.load none (.t 47))<|
.op (some 49) .bool [39, 48, 38] (.call 202 [(.t 39), (.t 48)])<|
.nil) 50 [38, 49] (.t 38) (.con (V.bool true)) (.t 49)<|
.m 5 50<|
.nil)))
 (.ops (.m 35 6<|
.b 36 .add .none (.t 35) (.i 1)<|
.m 6 36<|
.nil))))
def A202 : XFn := ⟨52, [.any, .i], [(.tmp 4)], (C202_0 C202_1 C202_2)⟩
/-! ### F205: __ogham_oghamref10.maker_.told -/
def G205_0 : List AOper := [⟨(some 33), .mov (.tmp 7), none⟩, ⟨(some 34), .mov (.tmp 0), none⟩, ⟨(some 35), .nilck (.tmp 34), none⟩, ⟨(some 36), .faddr 5 (.tmp 35), none⟩, ⟨(some 37), .load none (.tmp 36), none⟩, ⟨(some 38), .mov (.tmp 1), none⟩, ⟨(some 39), .mov (.tmp 8), none⟩, ⟨(some 40), .iaddrS 11 (.tmp 38) (.tmp 39), none⟩, ⟨(some 41), .faddr 1 (.tmp 40), none⟩, ⟨(some 42), .load none (.tmp 41), none⟩, ⟨(some 43), .call 196 [(.tmp 37), (.tmp 42)], none⟩, ⟨(some 44), .buildSlice 133 1 [V.nils] [(0, 1, (.tmp 43))], none⟩, ⟨(some 45), .append 133 1 24 (.tmp 33) (.tmp 44), none⟩, ⟨(some 7), .mov (.tmp 45), none⟩]
def H205_0 : List DP := [⟨0, [7]⟩, ⟨0, [0]⟩, ⟨2, [34]⟩, ⟨6, [35]⟩, ⟨14, [36]⟩, ⟨0, [1]⟩, ⟨0, [8]⟩, ⟨96, [38, 39]⟩, ⟨224, [40]⟩, ⟨480, [41]⟩, ⟨1022, [37, 42]⟩, ⟨2046, [43]⟩, ⟨4095, [33, 44]⟩, ⟨8191, [45]⟩]
def Fin205 (E : List (Nat × Blk)) : St → Ans := fun s => resK E s [(.tmp 6)] fun l => some (oneV l, s.σ)
def C205_0 (cc1 : XC) (cc2 : XC) : XC := (.seq (.ops (.c 6 (V.bool false)<|
.nil))
 (.seq (.ops (.c 7 V.nils<|
.nil))
 (.seq (.seq (.ops (.q 8 0<|
.nil))
 (.block 0 (.loop [(0, .ptr), (1, .any), (2, .bool), (7, .any), (8, .i)] [] [] cc2)))
 (.keep [(7, .any)] [] [] cc1))))
def T205_0 (E : List (Nat × Blk)) (D : Den) (W : DrawFn) (K2 : Nat → Nat → V → Bool → V → Int → H → Ans) (v0b v0o : Nat) (v1 : V) (v2 : Bool) (σ : H) : Ans :=
 K2 v0b v0o v1 v2 V.nils (Int.ofNat 0) σ
def C205_1 : XC := (.seq (.ops (.m 46 7<|
.k 47 .bool 216 [(.t 46)]<|
.m 6 47<|
.nil))
 .ret)
def T205_1 (E : List (Nat × Blk)) (D : Den) (W : DrawFn) (v7 : V) (σ : H) : Ans :=
 callK (D 216 [v7] σ) fun u1 s2 =>
 rtBool u1 fun x3 =>
 some ((V.bool x3), s2)
def C205_2 : XC := (.seq (.seq (.ops (.m 9 8<|
.m 10 1<|
.u 11 10<|
.b 12 .lss .none (.t 9) (.t 11)<|
.nil))
 (.cond (.tmp 12) .skip
 (.exit 0)))
 (.seq (.block 1 (.seq (.seq (.draw (.m 15 0<|
.n 16 15<|
.f 17 5 16<|
.l 18 .any 17<|
.m 19 1<|
.m 20 8<|
.s 21 11 19 20<|
.f 22 1 21<|
.l 23 .i 22<|
.k 24 .bool 202 [(.t 18), (.t 23)]<|
.m 25 24<|
.grp 25 true (.p 26 [2, 25] (.mov (.t 2))<|
.p 27 [26, 25] (.mov (.t 26))<|
.grp 27 false (.p 28 [1, 27] (.mov (.t 1))<|
.p 29 [28, 27] (.len false (.t 28))<|
.p 30 [29, 27] (.bin .gtr .none (.t 29) (.i 1))<|
.nil) 31 [27, 30, 25] (.t 27) (.con (V.bool true)) (.t 30)<|
.nil) 32 [25, 31] (.t 25) (.t 31) (.con (V.bool false))<|
.nil) [0, 1, 3, 7, 0, 0, 48, 112, 240, 511, 1023, 2047, 4095, 8191, 16383, 32767, 65535, 131071])
 (.cond (.tmp 32) (.seq (.ops (.c 6 (V.bool false)<|
.nil))
 .ret)
 .skip))
 (.keep [(0, .ptr), (1, .any), (2, .bool), (7, .any), (8, .i)] [] [] (.gdraw G205_0 H205_0 [(0, .ptr), (1, .any), (2, .bool), (7, .any), (8, .i)]))))
 (.ops (.m 13 8<|
.b 14 .add .none (.t 13) (.i 1)<|
.m 8 14<|
.nil))))
def T205_2 (K1 : V → H → Ans) (R2 : Nat → Nat → V → Bool → V → Int → H → Ans) (v0b v0o : Nat) (v1 : V) (v2 : Bool) (v7 : V) (v8 : Int) (σ : H) : Ans :=
 slenK v1 fun n1 =>
 condK (ltF v8 (Int.ofNat n1)) (
 ldK E σ v0b (Nat.add v0o 5) fun u2 =>
 iaddrSK 11 v1 v8 fun b3 o4 =>
 ldK E σ b3 (Nat.add o4 1) fun u5 =>
 rtInt .i64 u5 fun x6 =>
 callK (D 202 [u2, (V.int .i64 x6)] σ) fun u7 s8 =>
 rtBool u7 fun x9 =>
 joinB (fun c10 s11 =>
 condK c10 (
 some ((V.bool false), s11)) (
 gdrawK (W G205_0 H205_0 [(0, (V.ptr v0b v0o)), (1, v1), (2, (V.bool v2)), (7, v7), (8, (V.int .i64 v8))] s11) fun e13 s14 =>
 getL e13 0 fun u15 =>
 rtPtr u15 fun b16 o17 =>
 getL e13 1 fun u18 =>
 getL e13 2 fun u19 =>
 rtBool u19 fun x20 =>
 getL e13 7 fun u21 =>
 getL e13 8 fun u22 =>
 rtInt .i64 u22 fun x23 =>
 R2 b16 o17 u18 x20 u21 (addF .i64 x23 (Int.ofNat 1)) s14)) fun k12 =>
 condK x9 (
 joinB (fun c24 s25 =>
 k12 c24 s25) fun k26 =>
 condK v2 (
 k26 true s8) (
 slenK v1 fun n27 =>
 k26 (ltF (Int.ofNat 1) (Int.ofNat n27)) s8)) (
 k12 false s8)) (
 K1 v7 σ)
def S205_0 (v0b v0o : Nat) (v1 : V) (v2 : Bool) (σ : H) : St := ⟨[(0, (V.ptr v0b v0o)), (1, v1), (2, (V.bool v2))], [], [], σ⟩
def S205_1 (v7 : V) (σ : H) : St := ⟨[(7, v7)], [], [], σ⟩
def S205_2 (v0b v0o : Nat) (v1 : V) (v2 : Bool) (v7 : V) (v8 : Int) (σ : H) : St := ⟨[(0, (V.ptr v0b v0o)), (1, v1), (2, (V.bool v2)), (7, v7), (8, (V.int .i64 v8))], [], [], σ⟩
theorem P205_0 (cc1 : XC) (cc2 : XC) (v0b v0o : Nat) (v1 : V) (v2 : Bool) (σ : H) :
  denC E D W N (C205_0 cc1 cc2) (S205_0 v0b v0o v1 v2 σ) (Fin205 E) (fun _ _ => none) (Fin205 E) =
  T205_0 E D W (fun v0b v0o v1 v2 v7 v8 σ => iterK (fun rec s' => denC E D W N cc2 s' (fun s'' => keepS [(0, .ptr), (1, .any), (2, .bool), (7, .any), (8, .i)] [] [] s'' rec) (blkK 0 (fun s' => denC E D W N (.keep [(7, .any)] [] [] cc1) s' (Fin205 E) (fun _ _ => none) (Fin205 E)) (fun _ _ => none)) (Fin205 E)) N (S205_2 v0b v0o v1 v2 v7 v8 σ)) v0b v0o v1 v2 σ := by kernel_rfl
theorem P205_1 (v7 : V) (σ : H) :
  denC E D W N (C205_1 ) (S205_1 v7 σ) (Fin205 E) (fun _ _ => none) (Fin205 E) =
  T205_1 E D W  v7 σ := by kernel_rfl
theorem P205_2 (cc1 : XC) (li2 : St → Ans) (v0b v0o : Nat) (v1 : V) (v2 : Bool) (v7 : V) (v8 : Int) (σ : H) :
  denC E D W N (C205_2 ) (S205_2 v0b v0o v1 v2 v7 v8 σ) (fun s'' => keepS [(0, .ptr), (1, .any), (2, .bool), (7, .any), (8, .i)] [] [] s'' li2) (blkK 0 (fun s' => denC E D W N (.keep [(7, .any)] [] [] cc1) s' (Fin205 E) (fun _ _ => none) (Fin205 E)) (fun _ _ => none)) (Fin205 E) =
  T205_2 E D W (fun v7 σ => denC E D W N cc1 (S205_1 v7 σ) (Fin205 E) (fun _ _ => none) (Fin205 E)) (fun v0b v0o v1 v2 v7 v8 σ => li2 (S205_2 v0b v0o v1 v2 v7 v8 σ)) v0b v0o v1 v2 v7 v8 σ := by kernel_rfl
def J205_1 (E : List (Nat × Blk)) (D : Den) (W : DrawFn) (N : Nat) : V → H → Ans := T205_1 E D W 
theorem JE205_1 (v7 : V) (σ : H) :
  denC E D W N C205_1 (S205_1 v7 σ) (Fin205 E) (fun _ _ => none) (Fin205 E) = J205_1 E D W N v7 σ := by
  refine (P205_1 E D W N   v7 σ).trans ?_
  kernel_rfl
def L205_2 (n : Nat) : Nat → Nat → V → Bool → V → Int → H → Ans :=
  Nat.rec (fun _ _ _ _ _ _ _ => none) (fun _ ih => T205_2 E D W (J205_1 E D W N ) ih) n
theorem LE205_2 (n : Nat) : ∀ (v0b v0o : Nat) (v1 : V) (v2 : Bool) (v7 : V) (v8 : Int) (σ : H),
  iterK (fun rec s' => denC E D W N C205_2 s' (fun s'' => keepS [(0, .ptr), (1, .any), (2, .bool), (7, .any), (8, .i)] [] [] s'' rec) (blkK 0 (fun s' => denC E D W N (.keep [(7, .any)] [] [] C205_1) s' (Fin205 E) (fun _ _ => none) (Fin205 E)) (fun _ _ => none)) (Fin205 E)) n (S205_2 v0b v0o v1 v2 v7 v8 σ) = L205_2 E D W N n v0b v0o v1 v2 v7 v8 σ := by
  induction n with
  | zero => intro v0b v0o v1 v2 v7 v8 σ; rfl
  | succ n ihn =>
    intro v0b v0o v1 v2 v7 v8 σ
    rw [iterK_succ]
    refine (P205_2 E D W N C205_1 (iterK (fun rec s' => denC E D W N C205_2 s' (fun s'' => keepS [(0, .ptr), (1, .any), (2, .bool), (7, .any), (8, .i)] [] [] s'' rec) (blkK 0 (fun s' => denC E D W N (.keep [(7, .any)] [] [] C205_1) s' (Fin205 E) (fun _ _ => none) (Fin205 E)) (fun _ _ => none)) (Fin205 E)) n) v0b v0o v1 v2 v7 v8 σ).trans ?_
    simp only [ihn, JE205_1]
    kernel_rfl
def J205_0 : Nat → Nat → V → Bool → H → Ans := T205_0 E D W (L205_2 E D W N N)
theorem JE205_0 (v0b v0o : Nat) (v1 : V) (v2 : Bool) (σ : H) :
  denC E D W N (C205_0 C205_1 C205_2) (S205_0 v0b v0o v1 v2 σ) (Fin205 E) (fun _ _ => none) (Fin205 E) = J205_0 E D W N v0b v0o v1 v2 σ := by
  refine (P205_0 E D W N C205_1 C205_2  v0b v0o v1 v2 σ).trans ?_
  simp only [LE205_2]
  kernel_rfl
def F205 (args : List V) (σ : H) : Ans :=
 rtCons args fun x1 l2 =>
 rtPtr x1 fun b3 o4 =>
 rtCons l2 fun x5 l6 =>
 rtCons l6 fun x7 l8 =>
 rtBool x7 fun x9 =>
 rtNil l8 (
 J205_0 E D W N b3 o4 x5 x9 σ)
def A205 : XFn := ⟨48, [.ptr, .any, .bool], [(.tmp 6)], (C205_0 C205_1 C205_2)⟩
theorem FE205 (args : List V) (σ : H) : runX E D W N A205 args σ = F205 E D W N args σ := by
  unfold F205
  simp only [← JE205_0]
  kernel_rfl
theorem AO205 : A205.body.ok = true := by kernel_rfl

/-! ### F207: ogham_order.there -/
def Fin207 (E : List (Nat × Blk)) : St → Ans := fun s => resK E s [(.cell 4 (some 13))] fun l => some (oneV l, s.σ)
def C207_0 : XC := (.seq (.ops (.p 2 [0] (.box 31 (.t 0))<|
.pal 4 [] 139 [(V.int .i64 (Int.ofNat 0)), V.nils, (V.bool false), (V.bool false), (V.bool false), (V.bool false), (V.int .i64 (Int.ofNat 0)), (V.int .i64 (Int.ofNat 0)), V.nils, V.nils, (V.int .i64 (Int.ofNat 0)), (V.bool false), (V.int .i64 (Int.ofNat 0))]<|
.nil))
 (.seq (.seq (.ops (.m 5 1<|
.b 6 .lss .none (.t 5) (.i 0)<|
.m 7 6<|
.grp 7 false (.p 8 [1, 7] (.mov (.t 1))<|
.p 9 [2, 7] (.faddr 3 (.t 2))<|
.p 10 [9, 7] (.load none (.t 9))<|
.p 11 [10, 7] (.len false (.t 10))<|
.p 12 [8, 11, 7] (.bin .geq .none (.t 8) (.t 11))<|
.nil) 13 [7, 12] (.t 7) (.con (V.bool true)) (.t 12)<|
.nil))
 (.cond (.tmp 13) (.seq (.ops (.op (some 14) (.agg [.i, .any, .bool, .bool, .bool, .bool, .i, .i, .any, .any, .i, .bool, .i]) [] (.build [(V.int .i64 (Int.ofNat 0)), V.nils, (V.bool false), (V.bool false), (V.bool false), (V.bool false), (V.int .i64 (Int.ofNat 0)), (V.int .i64 (Int.ofNat 0)), V.nils, V.nils, (V.int .i64 (Int.ofNat 0)), (V.bool false), (V.int .i64 (Int.ofNat 0))] [])<|
.op none (.agg [.i, .any, .bool, .bool, .bool, .bool, .i, .i, .any, .any, .i, .bool, .i]) [4, 14] (.store 13 (.t 4) (.t 14))<|
.nil))
 .ret)
 .skip))
 (.seq (.ops (.f 15 3 2<|
.l 16 .any 15<|
.m 17 1<|
.s 18 13 16 17<|
.op (some 19) (.agg [.i, .any, .bool, .bool, .bool, .bool, .i, .i, .any, .any, .i, .bool, .i]) [18] (.load (some 13) (.t 18))<|
.op none (.agg [.i, .any, .bool, .bool, .bool, .bool, .i, .i, .any, .any, .i, .bool, .i]) [4, 19] (.store 13 (.t 4) (.t 19))<|
.nil))
 .ret)))
def T207_0 (E : List (Nat × Blk)) (D : Den) (W : DrawFn) (v0_0 : BS) (v0_1 v0_2 v0_3 : V) (v1 : Int) (σ : H) : Ans :=
 chk (allOne (V.cells (V.agg [(V.str v0_0), v0_1, v0_2, v0_3]))) (
 let s1 := newB σ (.cells (V.cells (V.agg [(V.str v0_0), v0_1, v0_2, v0_3])));
 joinB (fun c2 s3 =>
 condK c2 (
 some ((V.agg [(V.int .i64 (Int.ofNat 0)), V.nils, (V.bool false), (V.bool false), (V.bool false), (V.bool false), (V.int .i64 (Int.ofNat 0)), (V.int .i64 (Int.ofNat 0)), V.nils, V.nils, (V.int .i64 (Int.ofNat 0)), (V.bool false), (V.int .i64 (Int.ofNat 0))]), s3)) (
 ldK E s3 (H.next σ) 3 fun u5 =>
 iaddrSK 13 u5 v1 fun b6 o7 =>
 ldnK E s3 b6 o7 13 fun l8 =>
 rtCons l8 fun x9 l10 =>
 rtInt .i64 x9 fun x11 =>
 rtCons l10 fun x12 l13 =>
 rtCons l13 fun x14 l15 =>
 rtBool x14 fun x16 =>
 rtCons l15 fun x17 l18 =>
 rtBool x17 fun x19 =>
 rtCons l18 fun x20 l21 =>
 rtBool x20 fun x22 =>
 rtCons l21 fun x23 l24 =>
 rtBool x23 fun x25 =>
 rtCons l24 fun x26 l27 =>
 rtInt .i64 x26 fun x28 =>
 rtCons l27 fun x29 l30 =>
 rtInt .i64 x29 fun x31 =>
 rtCons l30 fun x32 l33 =>
 rtCons l33 fun x34 l35 =>
 rtCons l35 fun x36 l37 =>
 rtInt .i64 x36 fun x38 =>
 rtCons l37 fun x39 l40 =>
 rtBool x39 fun x41 =>
 rtCons l40 fun x42 l43 =>
 rtInt .i64 x42 fun x44 =>
 rtNil l43 (
 chk (allOne [(V.int .i64 x11), x12, (V.bool x16), (V.bool x19), (V.bool x22), (V.bool x25), (V.int .i64 x28), (V.int .i64 x31), x32, x34, (V.int .i64 x38), (V.bool x41), (V.int .i64 x44)]) (
 some ((V.agg [(V.int .i64 x11), x12, (V.bool x16), (V.bool x19), (V.bool x22), (V.bool x25), (V.int .i64 x28), (V.int .i64 x31), x32, x34, (V.int .i64 x38), (V.bool x41), (V.int .i64 x44)]), s3))))) fun k4 =>
 condK (ltF v1 (Int.ofNat 0)) (
 k4 true s1) (
 ldK E s1 (H.next σ) 3 fun u45 =>
 slenK u45 fun n46 =>
 k4 (leF (Int.ofNat n46) v1) s1))
def S207_0 (v0_0 : BS) (v0_1 v0_2 v0_3 : V) (v1 : Int) (σ : H) : St := ⟨[(0, (V.agg [(V.str v0_0), v0_1, v0_2, v0_3])), (1, (V.int .i64 v1))], [], [], σ⟩
theorem P207_0 (v0_0 : BS) (v0_1 v0_2 v0_3 : V) (v1 : Int) (σ : H) :
  denC E D W N (C207_0 ) (S207_0 v0_0 v0_1 v0_2 v0_3 v1 σ) (Fin207 E) (fun _ _ => none) (Fin207 E) =
  T207_0 E D W  v0_0 v0_1 v0_2 v0_3 v1 σ := by kernel_rfl
def J207_0 (E : List (Nat × Blk)) (D : Den) (W : DrawFn) (N : Nat) : BS → V → V → V → Int → H → Ans := T207_0 E D W 
theorem JE207_0 (v0_0 : BS) (v0_1 v0_2 v0_3 : V) (v1 : Int) (σ : H) :
  denC E D W N C207_0 (S207_0 v0_0 v0_1 v0_2 v0_3 v1 σ) (Fin207 E) (fun _ _ => none) (Fin207 E) = J207_0 E D W N v0_0 v0_1 v0_2 v0_3 v1 σ := by
  refine (P207_0 E D W N   v0_0 v0_1 v0_2 v0_3 v1 σ).trans ?_
  kernel_rfl
def F207 (args : List V) (σ : H) : Ans :=
 rtCons args fun x1 l2 =>
 rtAgg x1 fun l3 =>
 rtCons l3 fun x4 l5 =>
 rtStr x4 fun x6 =>
 rtCons l5 fun x7 l8 =>
 rtCons l8 fun x9 l10 =>
 rtCons l10 fun x11 l12 =>
 rtNil l12 (
 rtCons l2 fun x13 l14 =>
 rtInt .i64 x13 fun x15 =>
 rtNil l14 (
 J207_0 E D W N x6 x7 x9 x11 x15 σ))
def A207 : XFn := ⟨20, [(.agg [.str, .any, .any, .any]), .i], [(.cell 4 (some 13))], C207_0⟩
theorem FE207 (args : List V) (σ : H) : runX E D W N A207 args σ = F207 E D W N args σ := by
  unfold F207
  simp only [← JE207_0]
  kernel_rfl
theorem AO207 : A207.body.ok = true := by kernel_rfl

/-! ### F208: ogham_order.places -/
def Fin208 (E : List (Nat × Blk)) : St → Ans := fun s => resK E s [(.tmp 4)] fun l => some (oneV l, s.σ)
def C208_0 (cc1 : XC) (cc2 : XC) : XC := (.seq (.ops (.c 4 V.nils<|
.nil))
 (.seq (.ops (.c 5 V.nils<|
.nil))
 (.seq (.seq (.ops (.m 7 0<|
.m 6 7<|
.nil))
 (.block 0 (.loop [(1, .i), (5, .any), (6, .i)] [] [] cc2)))
 (.keep [(5, .any)] [] [] cc1))))
def T208_0 (E : List (Nat × Blk)) (D : Den) (W : DrawFn) (K2 : Int → V → Int → H → Ans) (v0 v1 : Int) (σ : H) : Ans :=
 K2 v1 V.nils v0 σ
def C208_1 : XC := (.seq (.ops (.m 17 5<|
.m 4 17<|
.nil))
 .ret)
def T208_1 (E : List (Nat × Blk)) (D : Den) (W : DrawFn) (v5 : V) (σ : H) : Ans :=
 some (v5, σ)
def C208_2 : XC := (.seq (.seq (.ops (.m 8 6<|
.m 9 1<|
.b 10 .lss .none (.t 8) (.t 9)<|
.nil))
 (.cond (.tmp 10) .skip
 (.exit 0)))
 (.seq (.block 1 (.ops (.m 13 5<|
.m 14 6<|
.p 15 [14] (.buildSlice 3 1 [(V.int .i64 (Int.ofNat 0))] [(0, 1, (.t 14))])<|
.op (some 16) .one [13, 15] (.append 3 1 8 (.t 13) (.t 15))<|
.m 5 16<|
.nil)))
 (.ops (.m 11 6<|
.b 12 .add .none (.t 11) (.i 1)<|
.m 6 12<|
.nil))))
def T208_2 (E : List (Nat × Blk)) (D : Den) (W : DrawFn) (K1 : V → H → Ans) (R2 : Int → V → Int → H → Ans) (v1 : Int) (v5 : V) (v6 : Int) (σ : H) : Ans :=
 condK (ltF v6 v1) (
 let s1 := newB σ (.cells [(V.int .i64 v6)]);
 appK E 1 8 v5 (V.sl (H.next σ) 0 1 (.ex 1)) s1 fun u2 s3 =>
 rtOne u2 (
 R2 v1 u2 (addF .i64 v6 (Int.ofNat 1)) s3)) (
 K1 v5 σ)
def S208_0 (v0 v1 : Int) (σ : H) : St := ⟨[(0, (V.int .i64 v0)), (1, (V.int .i64 v1))], [], [], σ⟩
def S208_1 (v5 : V) (σ : H) : St := ⟨[(5, v5)], [], [], σ⟩
def S208_2 (v1 : Int) (v5 : V) (v6 : Int) (σ : H) : St := ⟨[(1, (V.int .i64 v1)), (5, v5), (6, (V.int .i64 v6))], [], [], σ⟩
theorem P208_0 (cc1 : XC) (cc2 : XC) (v0 v1 : Int) (σ : H) :
  denC E D W N (C208_0 cc1 cc2) (S208_0 v0 v1 σ) (Fin208 E) (fun _ _ => none) (Fin208 E) =
  T208_0 E D W (fun v1 v5 v6 σ => iterK (fun rec s' => denC E D W N cc2 s' (fun s'' => keepS [(1, .i), (5, .any), (6, .i)] [] [] s'' rec) (blkK 0 (fun s' => denC E D W N (.keep [(5, .any)] [] [] cc1) s' (Fin208 E) (fun _ _ => none) (Fin208 E)) (fun _ _ => none)) (Fin208 E)) N (S208_2 v1 v5 v6 σ)) v0 v1 σ := by kernel_rfl
theorem P208_1 (v5 : V) (σ : H) :
  denC E D W N (C208_1 ) (S208_1 v5 σ) (Fin208 E) (fun _ _ => none) (Fin208 E) =
  T208_1 E D W  v5 σ := by kernel_rfl
theorem P208_2 (cc1 : XC) (li2 : St → Ans) (v1 : Int) (v5 : V) (v6 : Int) (σ : H) :
  denC E D W N (C208_2 ) (S208_2 v1 v5 v6 σ) (fun s'' => keepS [(1, .i), (5, .any), (6, .i)] [] [] s'' li2) (blkK 0 (fun s' => denC E D W N (.keep [(5, .any)] [] [] cc1) s' (Fin208 E) (fun _ _ => none) (Fin208 E)) (fun _ _ => none)) (Fin208 E) =
  T208_2 E D W (fun v5 σ => denC E D W N cc1 (S208_1 v5 σ) (Fin208 E) (fun _ _ => none) (Fin208 E)) (fun v1 v5 v6 σ => li2 (S208_2 v1 v5 v6 σ)) v1 v5 v6 σ := by kernel_rfl
def J208_1 (E : List (Nat × Blk)) (D : Den) (W : DrawFn) (N : Nat) : V → H → Ans := T208_1 E D W 
theorem JE208_1 (v5 : V) (σ : H) :
  denC E D W N C208_1 (S208_1 v5 σ) (Fin208 E) (fun _ _ => none) (Fin208 E) = J208_1 E D W N v5 σ := by
  refine (P208_1 E D W N   v5 σ).trans ?_
  kernel_rfl
def L208_2 (n : Nat) : Int → V → Int → H → Ans :=
  Nat.rec (fun _ _ _ _ => none) (fun _ ih => T208_2 E D W (J208_1 E D W N ) ih) n
theorem LE208_2 (n : Nat) : ∀ (v1 : Int) (v5 : V) (v6 : Int) (σ : H),
  iterK (fun rec s' => denC E D W N C208_2 s' (fun s'' => keepS [(1, .i), (5, .any), (6, .i)] [] [] s'' rec) (blkK 0 (fun s' => denC E D W N (.keep [(5, .any)] [] [] C208_1) s' (Fin208 E) (fun _ _ => none) (Fin208 E)) (fun _ _ => none)) (Fin208 E)) n (S208_2 v1 v5 v6 σ) = L208_2 E D W N n v1 v5 v6 σ := by
  induction n with
  | zero => intro v1 v5 v6 σ; rfl
  | succ n ihn =>
    intro v1 v5 v6 σ
    rw [iterK_succ]
    refine (P208_2 E D W N C208_1 (iterK (fun rec s' => denC E D W N C208_2 s' (fun s'' => keepS [(1, .i), (5, .any), (6, .i)] [] [] s'' rec) (blkK 0 (fun s' => denC E D W N (.keep [(5, .any)] [] [] C208_1) s' (Fin208 E) (fun _ _ => none) (Fin208 E)) (fun _ _ => none)) (Fin208 E)) n) v1 v5 v6 σ).trans ?_
    simp only [ihn, JE208_1]
    kernel_rfl
def J208_0 : Int → Int → H → Ans := T208_0 E D W (L208_2 E D W N N)
theorem JE208_0 (v0 v1 : Int) (σ : H) :
  denC E D W N (C208_0 C208_1 C208_2) (S208_0 v0 v1 σ) (Fin208 E) (fun _ _ => none) (Fin208 E) = J208_0 E D W N v0 v1 σ := by
  refine (P208_0 E D W N C208_1 C208_2  v0 v1 σ).trans ?_
  simp only [LE208_2]
  kernel_rfl
def F208 (args : List V) (σ : H) : Ans :=
 rtCons args fun x1 l2 =>
 rtInt .i64 x1 fun x3 =>
 rtCons l2 fun x4 l5 =>
 rtInt .i64 x4 fun x6 =>
 rtNil l5 (
 J208_0 E D W N x3 x6 σ)
def A208 : XFn := ⟨18, [.i, .i], [(.tmp 4)], (C208_0 C208_1 C208_2)⟩
theorem FE208 (args : List V) (σ : H) : runX E D W N A208 args σ = F208 E D W N args σ := by
  unfold F208
  simp only [← JE208_0]
  kernel_rfl
theorem AO208 : A208.body.ok = true := by kernel_rfl

/-! ### F216: ogham_oghamref09.Distinct -/
def Fin216 (E : List (Nat × Blk)) : St → Ans := fun s => resK E s [(.tmp 2)] fun l => some (oneV l, s.σ)
def C216_0 (cc1 : XC) (cc2 : XC) : XC := (.seq (.ops (.c 2 (V.bool false)<|
.nil))
 (.seq (.ops (.c 3 V.nils<|
.nil))
 (.seq (.seq (.ops (.q 4 0<|
.nil))
 (.block 0 (.loop [(0, .any), (3, .any), (4, .i)] [] [] cc2)))
 (.keep [] [] [] cc1))))
def T216_0 (E : List (Nat × Blk)) (D : Den) (W : DrawFn) (K2 : V → V → Int → H → Ans) (v0 : V) (σ : H) : Ans :=
 K2 v0 V.nils (Int.ofNat 0) σ
def C216_1 : XC := (.seq (.ops (.c 2 (V.bool true)<|
.nil))
 .ret)
def T216_1 (E : List (Nat × Blk)) (D : Den) (W : DrawFn) (σ : H) : Ans :=
 some ((V.bool true), σ)
def C216_2 (cc3 : XC) (cc4 : XC) : XC := (.seq (.seq (.ops (.m 6 4<|
.m 7 0<|
.u 8 7<|
.b 9 .lss .none (.t 6) (.t 8)<|
.nil))
 (.cond (.tmp 9) .skip
 (.exit 0)))
 (.seq (.block 1 (.seq (.ops (.q 5 0<|
.nil))
 (.block 2 (.loop [(0, .any), (3, .any), (4, .i), (5, .i)] [] [] cc4))))
 (.keep [(0, .any), (3, .any), (4, .i)] [] [] cc3)))
def T216_2 (E : List (Nat × Blk)) (D : Den) (W : DrawFn) (K1 : H → Ans) (K4 : V → V → Int → Int → H → Ans) (v0 v3 : V) (v4 : Int) (σ : H) : Ans :=
 slenK v0 fun n1 =>
 condK (ltF v4 (Int.ofNat n1)) (
 K4 v0 v3 v4 (Int.ofNat 0) σ) (
 K1 σ)
def C216_3 : XC := (.ops (.m 10 4<|
.b 11 .add .none (.t 10) (.i 1)<|
.m 4 11<|
.nil))
def T216_3 (E : List (Nat × Blk)) (D : Den) (W : DrawFn) (R2 : V → V → Int → H → Ans) (v0 v3 : V) (v4 : Int) (σ : H) : Ans :=
 R2 v0 v3 (addF .i64 v4 (Int.ofNat 1)) σ
def C216_4 : XC := (.seq (.seq (.ops (.m 12 5<|
.m 13 0<|
.m 14 4<|
.s 15 1 13 14<|
.l 16 .any 15<|
.u 17 16<|
.b 18 .lss .none (.t 12) (.t 17)<|
.nil))
 (.cond (.tmp 18) .skip
 (.exit 2)))
 (.seq (.block 3 (.seq (.seq (.ops (.m 21 3<|
.m 22 0<|
.m 23 4<|
.s 24 1 22 23<|
.l 25 .any 24<|
.m 26 5<|
.s 27 2 25 26<|
.op (some 28) (.agg [.i, .i]) [27] (.load (some 2) (.t 27))<|
.k 29 .bool 171 [(.t 21), (.t 28)]<|
.nil))
 (.cond (.tmp 29) (.seq (.ops (.c 2 (V.bool false)<|
.nil))
 .ret)
 .skip))
 (.ops (.m 30 3<|
.m 31 0<|
.m 32 4<|
.s 33 1 31 32<|
.l 34 .any 33<|
.m 35 5<|
.s 36 2 34 35<|
.op (some 37) (.agg [.i, .i]) [36] (.load (some 2) (.t 36))<|
.p 38 [37] (.buildSlice 45 1 [(V.int .i64 (Int.ofNat 0)), (V.int .i64 (Int.ofNat 0))] [(0, 2, (.t 37))])<|
.op (some 39) .one [30, 38] (.append 45 2 16 (.t 30) (.t 38))<|
.m 3 39<|
.nil))))
 (.ops (.m 19 5<|
.b 20 .add .none (.t 19) (.i 1)<|
.m 5 20<|
.nil))))
def T216_4 (E : List (Nat × Blk)) (D : Den) (W : DrawFn) (K3 : V → V → Int → H → Ans) (R4 : V → V → Int → Int → H → Ans) (v0 v3 : V) (v4 v5 : Int) (σ : H) : Ans :=
 iaddrSK 1 v0 v4 fun b1 o2 =>
 ldK E σ b1 o2 fun u3 =>
 slenK u3 fun n4 =>
 condK (ltF v5 (Int.ofNat n4)) (
 iaddrSK 1 v0 v4 fun b5 o6 =>
 ldK E σ b5 o6 fun u7 =>
 iaddrSK 2 u7 v5 fun b8 o9 =>
 ldnK E σ b8 o9 2 fun l10 =>
 rtCons l10 fun x11 l12 =>
 rtInt .i64 x11 fun x13 =>
 rtCons l12 fun x14 l15 =>
 rtInt .i64 x14 fun x16 =>
 rtNil l15 (
 callK (D 171 [v3, (V.agg [(V.int .i64 x13), (V.int .i64 x16)])] σ) fun u17 s18 =>
 rtBool u17 fun x19 =>
 condK x19 (
 some ((V.bool false), s18)) (
 iaddrSK 1 v0 v4 fun b20 o21 =>
 ldK E s18 b20 o21 fun u22 =>
 iaddrSK 2 u22 v5 fun b23 o24 =>
 ldnK E s18 b23 o24 2 fun l25 =>
 rtCons l25 fun x26 l27 =>
 rtInt .i64 x26 fun x28 =>
 rtCons l27 fun x29 l30 =>
 rtInt .i64 x29 fun x31 =>
 rtNil l30 (
 let s32 := newB s18 (.cells [(V.int .i64 x28), (V.int .i64 x31)]);
 appK E 2 16 v3 (V.sl (H.next s18) 0 1 (.ex 1)) s32 fun u33 s34 =>
 rtOne u33 (
 R4 v0 u33 v4 (addF .i64 v5 (Int.ofNat 1)) s34))))) (
 K3 v0 v3 v4 σ)
def S216_0 (v0 : V) (σ : H) : St := ⟨[(0, v0)], [], [], σ⟩
def S216_1 (σ : H) : St := ⟨[], [], [], σ⟩
def S216_2 (v0 v3 : V) (v4 : Int) (σ : H) : St := ⟨[(0, v0), (3, v3), (4, (V.int .i64 v4))], [], [], σ⟩
def S216_3 (v0 v3 : V) (v4 : Int) (σ : H) : St := ⟨[(0, v0), (3, v3), (4, (V.int .i64 v4))], [], [], σ⟩
def S216_4 (v0 v3 : V) (v4 v5 : Int) (σ : H) : St := ⟨[(0, v0), (3, v3), (4, (V.int .i64 v4)), (5, (V.int .i64 v5))], [], [], σ⟩
theorem P216_0 (cc1 : XC) (cc2 : XC) (v0 : V) (σ : H) :
  denC E D W N (C216_0 cc1 cc2) (S216_0 v0 σ) (Fin216 E) (fun _ _ => none) (Fin216 E) =
  T216_0 E D W (fun v0 v3 v4 σ => iterK (fun rec s' => denC E D W N cc2 s' (fun s'' => keepS [(0, .any), (3, .any), (4, .i)] [] [] s'' rec) (blkK 0 (fun s' => denC E D W N (.keep [] [] [] cc1) s' (Fin216 E) (fun _ _ => none) (Fin216 E)) (fun _ _ => none)) (Fin216 E)) N (S216_2 v0 v3 v4 σ)) v0 σ := by kernel_rfl
theorem P216_1 (σ : H) :
  denC E D W N (C216_1 ) (S216_1 σ) (Fin216 E) (fun _ _ => none) (Fin216 E) =
  T216_1 E D W   σ := by kernel_rfl
theorem P216_2 (cc1 : XC) (cc3 : XC) (cc4 : XC) (li2 : St → Ans) (v0 v3 : V) (v4 : Int) (σ : H) :
  denC E D W N (C216_2 cc3 cc4) (S216_2 v0 v3 v4 σ) (fun s'' => keepS [(0, .any), (3, .any), (4, .i)] [] [] s'' li2) (blkK 0 (fun s' => denC E D W N (.keep [] [] [] cc1) s' (Fin216 E) (fun _ _ => none) (Fin216 E)) (fun _ _ => none)) (Fin216 E) =
  T216_2 E D W (fun  σ => denC E D W N cc1 (S216_1 σ) (Fin216 E) (fun _ _ => none) (Fin216 E)) (fun v0 v3 v4 v5 σ => iterK (fun rec s' => denC E D W N cc4 s' (fun s'' => keepS [(0, .any), (3, .any), (4, .i), (5, .i)] [] [] s'' rec) (blkK 2 (fun s' => denC E D W N (.keep [(0, .any), (3, .any), (4, .i)] [] [] cc3) s' (fun s'' => keepS [(0, .any), (3, .any), (4, .i)] [] [] s'' li2) (blkK 0 (fun s' => denC E D W N (.keep [] [] [] cc1) s' (Fin216 E) (fun _ _ => none) (Fin216 E)) (fun _ _ => none)) (Fin216 E)) (blkK 1 (fun s' => denC E D W N (.keep [(0, .any), (3, .any), (4, .i)] [] [] cc3) s' (fun s'' => keepS [(0, .any), (3, .any), (4, .i)] [] [] s'' li2) (blkK 0 (fun s' => denC E D W N (.keep [] [] [] cc1) s' (Fin216 E) (fun _ _ => none) (Fin216 E)) (fun _ _ => none)) (Fin216 E)) (blkK 0 (fun s' => denC E D W N (.keep [] [] [] cc1) s' (Fin216 E) (fun _ _ => none) (Fin216 E)) (fun _ _ => none)))) (Fin216 E)) N (S216_4 v0 v3 v4 v5 σ)) v0 v3 v4 σ := by kernel_rfl
theorem P216_3 (cc1 : XC) (li2 : St → Ans) (v0 v3 : V) (v4 : Int) (σ : H) :
  denC E D W N (C216_3 ) (S216_3 v0 v3 v4 σ) (fun s'' => keepS [(0, .any), (3, .any), (4, .i)] [] [] s'' li2) (blkK 0 (fun s' => denC E D W N (.keep [] [] [] cc1) s' (Fin216 E) (fun _ _ => none) (Fin216 E)) (fun _ _ => none)) (Fin216 E) =
  T216_3 E D W (fun v0 v3 v4 σ => li2 (S216_2 v0 v3 v4 σ)) v0 v3 v4 σ := by kernel_rfl
theorem P216_4 (cc1 : XC) (cc3 : XC) (li2 : St → Ans) (li4 : St → Ans) (v0 v3 : V) (v4 v5 : Int) (σ : H) :
  denC E D W N (C216_4 ) (S216_4 v0 v3 v4 v5 σ) (fun s'' => keepS [(0, .any), (3, .any), (4, .i), (5, .i)] [] [] s'' li4) (blkK 2 (fun s' => denC E D W N (.keep [(0, .any), (3, .any), (4, .i)] [] [] cc3) s' (fun s'' => keepS [(0, .any), (3, .any), (4, .i)] [] [] s'' li2) (blkK 0 (fun s' => denC E D W N (.keep [] [] [] cc1) s' (Fin216 E) (fun _ _ => none) (Fin216 E)) (fun _ _ => none)) (Fin216 E)) (blkK 1 (fun s' => denC E D W N (.keep [(0, .any), (3, .any), (4, .i)] [] [] cc3) s' (fun s'' => keepS [(0, .any), (3, .any), (4, .i)] [] [] s'' li2) (blkK 0 (fun s' => denC E D W N (.keep [] [] [] cc1) s' (Fin216 E) (fun _ _ => none) (Fin216 E)) (fun _ _ => none)) (Fin216 E)) (blkK 0 (fun s' => denC E D W N (.keep [] [] [] cc1) s' (Fin216 E) (fun _ _ => none) (Fin216 E)) (fun _ _ => none)))) (Fin216 E) =
  T216_4 E D W (fun v0 v3 v4 σ => denC E D W N cc3 (S216_3 v0 v3 v4 σ) (fun s'' => keepS [(0, .any), (3, .any), (4, .i)] [] [] s'' li2) (blkK 0 (fun s' => denC E D W N (.keep [] [] [] cc1) s' (Fin216 E) (fun _ _ => none) (Fin216 E)) (fun _ _ => none)) (Fin216 E)) (fun v0 v3 v4 v5 σ => li4 (S216_4 v0 v3 v4 v5 σ)) v0 v3 v4 v5 σ := by kernel_rfl
def J216_1 (E : List (Nat × Blk)) (D : Den) (W : DrawFn) (N : Nat) : H → Ans := T216_1 E D W 
theorem JE216_1 (σ : H) :
  denC E D W N C216_1 (S216_1 σ) (Fin216 E) (fun _ _ => none) (Fin216 E) = J216_1 E D W N  σ := by
  refine (P216_1 E D W N    σ).trans ?_
  kernel_rfl
def J216_3 (E : List (Nat × Blk)) (D : Den) (W : DrawFn) (N : Nat) (R2 : V → V → Int → H → Ans) : V → V → Int → H → Ans := T216_3 E D W R2
theorem JE216_3 (li2 : St → Ans) (v0 v3 : V) (v4 : Int) (σ : H) :
  denC E D W N C216_3 (S216_3 v0 v3 v4 σ) (fun s'' => keepS [(0, .any), (3, .any), (4, .i)] [] [] s'' li2) (blkK 0 (fun s' => denC E D W N (.keep [] [] [] C216_1) s' (Fin216 E) (fun _ _ => none) (Fin216 E)) (fun _ _ => none)) (Fin216 E) = J216_3 E D W N (fun v0 v3 v4 σ => li2 (S216_2 v0 v3 v4 σ)) v0 v3 v4 σ := by
  refine (P216_3 E D W N C216_1 li2 v0 v3 v4 σ).trans ?_
  kernel_rfl
def L216_4 (R2 : V → V → Int → H → Ans) (n : Nat) : V → V → Int → Int → H → Ans :=
  Nat.rec (fun _ _ _ _ _ => none) (fun _ ih => T216_4 E D W (J216_3 E D W N R2) ih) n
theorem LE216_4 (li2 : St → Ans) (n : Nat) : ∀ (v0 v3 : V) (v4 v5 : Int) (σ : H),
  iterK (fun rec s' => denC E D W N C216_4 s' (fun s'' => keepS [(0, .any), (3, .any), (4, .i), (5, .i)] [] [] s'' rec) (blkK 2 (fun s' => denC E D W N (.keep [(0, .any), (3, .any), (4, .i)] [] [] C216_3) s' (fun s'' => keepS [(0, .any), (3, .any), (4, .i)] [] [] s'' li2) (blkK 0 (fun s' => denC E D W N (.keep [] [] [] C216_1) s' (Fin216 E) (fun _ _ => none) (Fin216 E)) (fun _ _ => none)) (Fin216 E)) (blkK 1 (fun s' => denC E D W N (.keep [(0, .any), (3, .any), (4, .i)] [] [] C216_3) s' (fun s'' => keepS [(0, .any), (3, .any), (4, .i)] [] [] s'' li2) (blkK 0 (fun s' => denC E D W N (.keep [] [] [] C216_1) s' (Fin216 E) (fun _ _ => none) (Fin216 E)) (fun _ _ => none)) (Fin216 E)) (blkK 0 (fun s' => denC E D W N (.keep [] [] [] C216_1) s' (Fin216 E) (fun _ _ => none) (Fin216 E)) (fun _ _ => none)))) (Fin216 E)) n (S216_4 v0 v3 v4 v5 σ) = L216_4 E D W N (fun v0 v3 v4 σ => li2 (S216_2 v0 v3 v4 σ)) n v0 v3 v4 v5 σ := by
  induction n with
  | zero => intro v0 v3 v4 v5 σ; rfl
  | succ n ihn =>
    intro v0 v3 v4 v5 σ
    rw [iterK_succ]
    refine (P216_4 E D W N C216_1 C216_3 li2 (iterK (fun rec s' => denC E D W N C216_4 s' (fun s'' => keepS [(0, .any), (3, .any), (4, .i), (5, .i)] [] [] s'' rec) (blkK 2 (fun s' => denC E D W N (.keep [(0, .any), (3, .any), (4, .i)] [] [] C216_3) s' (fun s'' => keepS [(0, .any), (3, .any), (4, .i)] [] [] s'' li2) (blkK 0 (fun s' => denC E D W N (.keep [] [] [] C216_1) s' (Fin216 E) (fun _ _ => none) (Fin216 E)) (fun _ _ => none)) (Fin216 E)) (blkK 1 (fun s' => denC E D W N (.keep [(0, .any), (3, .any), (4, .i)] [] [] C216_3) s' (fun s'' => keepS [(0, .any), (3, .any), (4, .i)] [] [] s'' li2) (blkK 0 (fun s' => denC E D W N (.keep [] [] [] C216_1) s' (Fin216 E) (fun _ _ => none) (Fin216 E)) (fun _ _ => none)) (Fin216 E)) (blkK 0 (fun s' => denC E D W N (.keep [] [] [] C216_1) s' (Fin216 E) (fun _ _ => none) (Fin216 E)) (fun _ _ => none)))) (Fin216 E)) n) v0 v3 v4 v5 σ).trans ?_
    simp only [ihn, JE216_3]
    kernel_rfl
def L216_2 (n : Nat) : V → V → Int → H → Ans :=
  Nat.rec (fun _ _ _ _ => none) (fun _ ih => T216_2 E D W (J216_1 E D W N ) (L216_4 E D W N ih N)) n
theorem LE216_2 (n : Nat) : ∀ (v0 v3 : V) (v4 : Int) (σ : H),
  iterK (fun rec s' => denC E D W N (C216_2 C216_3 C216_4) s' (fun s'' => keepS [(0, .any), (3, .any), (4, .i)] [] [] s'' rec) (blkK 0 (fun s' => denC E D W N (.keep [] [] [] C216_1) s' (Fin216 E) (fun _ _ => none) (Fin216 E)) (fun _ _ => none)) (Fin216 E)) n (S216_2 v0 v3 v4 σ) = L216_2 E D W N n v0 v3 v4 σ := by
  induction n with
  | zero => intro v0 v3 v4 σ; rfl
  | succ n ihn =>
    intro v0 v3 v4 σ
    rw [iterK_succ]
    refine (P216_2 E D W N C216_1 C216_3 C216_4 (iterK (fun rec s' => denC E D W N (C216_2 C216_3 C216_4) s' (fun s'' => keepS [(0, .any), (3, .any), (4, .i)] [] [] s'' rec) (blkK 0 (fun s' => denC E D W N (.keep [] [] [] C216_1) s' (Fin216 E) (fun _ _ => none) (Fin216 E)) (fun _ _ => none)) (Fin216 E)) n) v0 v3 v4 σ).trans ?_
    simp only [ihn, JE216_1, LE216_4]
    kernel_rfl
def J216_0 : V → H → Ans := T216_0 E D W (L216_2 E D W N N)
theorem JE216_0 (v0 : V) (σ : H) :
  denC E D W N (C216_0 C216_1 (C216_2 C216_3 C216_4)) (S216_0 v0 σ) (Fin216 E) (fun _ _ => none) (Fin216 E) = J216_0 E D W N v0 σ := by
  refine (P216_0 E D W N C216_1 (C216_2 C216_3 C216_4)  v0 σ).trans ?_
  simp only [LE216_2]
  kernel_rfl
def F216 (args : List V) (σ : H) : Ans :=
 rtCons args fun x1 l2 =>
 rtNil l2 (
 J216_0 E D W N x1 σ)
def A216 : XFn := ⟨40, [.any], [(.tmp 2)], (C216_0 C216_1 (C216_2 C216_3 C216_4))⟩
theorem FE216 (args : List V) (σ : H) : runX E D W N A216 args σ = F216 E D W N args σ := by
  unfold F216
  simp only [← JE216_0]
  kernel_rfl
theorem AO216 : A216.body.ok = true := by kernel_rfl

end
end Go.Proofs.YtpbdnlclihogfaaGreatDoor
set_option linter.all false
set_option maxRecDepth 100000
set_option maxHeartbeats 0
namespace Go.Proofs.YtpbdnlclihogfaaGreatDoor
open Go Go.Og
noncomputable section
def glob : Nat → Bool := fun g => Nat.blt g 2
theorem follows : Tryz.prog.follows .mixedOrders = true := by kernel_rfl
def Is (f : Nat) (A : XFn) : Prop := ∃ fn, Tryz.prog.funcs[f]? = some fn ∧ compF Tryz.prog glob fn = some A.strip ∧ A.body.ok = true ∧ callOk Tryz.prog f = true
theorem Is.sound {f : Nat} {A : XFn} (h : Is f A) (E : List (Nat × Blk)) (D : Den) (hD : ∀ f, SoundFn Tryz.prog E glob f (D f)) (N : Nat) : SoundFn Tryz.prog E glob f (runX E D (drawW E D) N A) :=
  let ⟨_, h1, h2, h3, h4⟩ := h
  runX_ok hD (drawW_ok hD follows) follows N h1 h2 rfl h3 h4
def tab : List (Nat × XFn) := [(14, A14), (17, A17), (24, A24), (35, A35), (36, A36), (55, A55), (56, A56), (60, A60), (61, A61), (62, A62), (99, A99), (100, A100), (101, A101), (103, A103), (104, A104), (106, A106), (107, A107), (108, A108), (138, A138), (141, A141), (142, A142), (143, A143), (147, A147), (148, A148), (151, A151), (153, A153), (154, A154), (156, A156), (157, A157), (178, A178), (180, A180), (183, A183), (195, A195), (196, A196), (202, A202)]
theorem tab_is : ∀ p ∈ tab, Is p.1 p.2 := by
  unfold tab
  simp only [List.forall_mem_cons]
  exact ⟨⟨_, Tryz.func14, by kernel_rfl, by kernel_rfl, by kernel_rfl⟩,
    ⟨_, Tryz.func17, by kernel_rfl, by kernel_rfl, by kernel_rfl⟩,
    ⟨_, Tryz.func24, by kernel_rfl, by kernel_rfl, by kernel_rfl⟩,
    ⟨_, Tryz.func35, by kernel_rfl, by kernel_rfl, by kernel_rfl⟩,
    ⟨_, Tryz.func36, by kernel_rfl, by kernel_rfl, by kernel_rfl⟩,
    ⟨_, Tryz.func55, by kernel_rfl, by kernel_rfl, by kernel_rfl⟩,
    ⟨_, Tryz.func56, by kernel_rfl, by kernel_rfl, by kernel_rfl⟩,
    ⟨_, Tryz.func60, by kernel_rfl, by kernel_rfl, by kernel_rfl⟩,
    ⟨_, Tryz.func61, by kernel_rfl, by kernel_rfl, by kernel_rfl⟩,
    ⟨_, Tryz.func62, by kernel_rfl, by kernel_rfl, by kernel_rfl⟩,
    ⟨_, Tryz.func99, by kernel_rfl, by kernel_rfl, by kernel_rfl⟩,
    ⟨_, Tryz.func100, by kernel_rfl, by kernel_rfl, by kernel_rfl⟩,
    ⟨_, Tryz.func101, by kernel_rfl, by kernel_rfl, by kernel_rfl⟩,
    ⟨_, Tryz.func103, by kernel_rfl, by kernel_rfl, by kernel_rfl⟩,
    ⟨_, Tryz.func104, by kernel_rfl, by kernel_rfl, by kernel_rfl⟩,
    ⟨_, Tryz.func106, by kernel_rfl, by kernel_rfl, by kernel_rfl⟩,
    ⟨_, Tryz.func107, by kernel_rfl, by kernel_rfl, by kernel_rfl⟩,
    ⟨_, Tryz.func108, by kernel_rfl, by kernel_rfl, by kernel_rfl⟩,
    ⟨_, Tryz.func138, by kernel_rfl, by kernel_rfl, by kernel_rfl⟩,
    ⟨_, Tryz.func141, by kernel_rfl, by kernel_rfl, by kernel_rfl⟩,
    ⟨_, Tryz.func142, by kernel_rfl, by kernel_rfl, by kernel_rfl⟩,
    ⟨_, Tryz.func143, by kernel_rfl, by kernel_rfl, by kernel_rfl⟩,
    ⟨_, Tryz.func147, by kernel_rfl, by kernel_rfl, by kernel_rfl⟩,
    ⟨_, Tryz.func148, by kernel_rfl, by kernel_rfl, by kernel_rfl⟩,
    ⟨_, Tryz.func151, by kernel_rfl, by kernel_rfl, by kernel_rfl⟩,
    ⟨_, Tryz.func153, by kernel_rfl, by kernel_rfl, by kernel_rfl⟩,
    ⟨_, Tryz.func154, by kernel_rfl, by kernel_rfl, by kernel_rfl⟩,
    ⟨_, Tryz.func156, by kernel_rfl, by kernel_rfl, by kernel_rfl⟩,
    ⟨_, Tryz.func157, by kernel_rfl, by kernel_rfl, by kernel_rfl⟩,
    ⟨_, Tryz.func178, by kernel_rfl, by kernel_rfl, by kernel_rfl⟩,
    ⟨_, Tryz.func180, by kernel_rfl, by kernel_rfl, by kernel_rfl⟩,
    ⟨_, Tryz.func183, by kernel_rfl, by kernel_rfl, by kernel_rfl⟩,
    ⟨_, Tryz.func195, by kernel_rfl, by kernel_rfl, by kernel_rfl⟩,
    ⟨_, Tryz.func196, by kernel_rfl, by kernel_rfl, by kernel_rfl⟩,
    ⟨_, Tryz.func202, by kernel_rfl, by kernel_rfl, by kernel_rfl⟩, fun _ h => by cases h⟩
def lookA : List (Nat × XFn) → Nat → Option XFn := fun l n => List.rec none (fun p _ ih => match Nat.beq p.1 n with | true => some p.2 | false => ih) l
theorem lookA_mem : ∀ (l : List (Nat × XFn)) (n : Nat) (g : XFn), lookA l n = some g → (n, g) ∈ l
  | [], n, g, h => by cases h
  | p :: l, n, g, h => by
    have h' : (match Nat.beq p.1 n with | true => some p.2 | false => lookA l n) = some g := h
    cases hb : Nat.beq p.1 n with
    | true =>
      rw [hb] at h'
      simp only [Option.some.injEq] at h'
      have := Nat.eq_of_beq_eq_true hb
      subst this; subst h'
      exact List.mem_cons_self
    | false =>
      rw [hb] at h'
      exact List.mem_cons_of_mem _ (lookA_mem l n g h')
theorem CF7 : compF Tryz.prog glob Tryz.f7 = some A7.strip := by kernel_rfl
theorem CO7 : callOk Tryz.prog 7 = true := by kernel_rfl
theorem SF7 (E : List (Nat × Blk)) (D : Den) (hD : ∀ f, SoundFn Tryz.prog E glob f (D f)) (N : Nat) : SoundFn Tryz.prog E glob 7 (F7 E D (drawW E D) N) := by
  have h := runX_ok hD (drawW_ok hD follows) follows N Tryz.func7 (xf := A7) CF7 rfl AO7 CO7
  have he : runX E D (drawW E D) N A7 = F7 E D (drawW E D) N := by funext args σ; exact FE7 E D (drawW E D) N args σ
  rw [he] at h; exact h
theorem CF110 : compF Tryz.prog glob Tryz.f110 = some A110.strip := by kernel_rfl
theorem CO110 : callOk Tryz.prog 110 = true := by kernel_rfl
theorem SF110 (E : List (Nat × Blk)) (D : Den) (hD : ∀ f, SoundFn Tryz.prog E glob f (D f)) (N : Nat) : SoundFn Tryz.prog E glob 110 (F110 E D (drawW E D) N) := by
  have h := runX_ok hD (drawW_ok hD follows) follows N Tryz.func110 (xf := A110) CF110 rfl AO110 CO110
  have he : runX E D (drawW E D) N A110 = F110 E D (drawW E D) N := by funext args σ; exact FE110 E D (drawW E D) N args σ
  rw [he] at h; exact h
theorem CF65 : compF Tryz.prog glob Tryz.f65 = some A65.strip := by kernel_rfl
theorem CO65 : callOk Tryz.prog 65 = true := by kernel_rfl
theorem SF65 (E : List (Nat × Blk)) (D : Den) (hD : ∀ f, SoundFn Tryz.prog E glob f (D f)) (N : Nat) : SoundFn Tryz.prog E glob 65 (F65 E D (drawW E D) N) := by
  have h := runX_ok hD (drawW_ok hD follows) follows N Tryz.func65 (xf := A65) CF65 rfl AO65 CO65
  have he : runX E D (drawW E D) N A65 = F65 E D (drawW E D) N := by funext args σ; exact FE65 E D (drawW E D) N args σ
  rw [he] at h; exact h
theorem CF115 : compF Tryz.prog glob Tryz.f115 = some A115.strip := by kernel_rfl
theorem CO115 : callOk Tryz.prog 115 = true := by kernel_rfl
theorem SF115 (E : List (Nat × Blk)) (D : Den) (hD : ∀ f, SoundFn Tryz.prog E glob f (D f)) (N : Nat) : SoundFn Tryz.prog E glob 115 (F115 E D (drawW E D) N) := by
  have h := runX_ok hD (drawW_ok hD follows) follows N Tryz.func115 (xf := A115) CF115 rfl AO115 CO115
  have he : runX E D (drawW E D) N A115 = F115 E D (drawW E D) N := by funext args σ; exact FE115 E D (drawW E D) N args σ
  rw [he] at h; exact h
theorem CF64 : compF Tryz.prog glob Tryz.f64 = some A64.strip := by kernel_rfl
theorem CO64 : callOk Tryz.prog 64 = true := by kernel_rfl
theorem SF64 (E : List (Nat × Blk)) (D : Den) (hD : ∀ f, SoundFn Tryz.prog E glob f (D f)) (N : Nat) : SoundFn Tryz.prog E glob 64 (F64 E D (drawW E D) N) := by
  have h := runX_ok hD (drawW_ok hD follows) follows N Tryz.func64 (xf := A64) CF64 rfl AO64 CO64
  have he : runX E D (drawW E D) N A64 = F64 E D (drawW E D) N := by funext args σ; exact FE64 E D (drawW E D) N args σ
  rw [he] at h; exact h
theorem CF39 : compF Tryz.prog glob Tryz.f39 = some A39.strip := by kernel_rfl
theorem CO39 : callOk Tryz.prog 39 = true := by kernel_rfl
theorem SF39 (E : List (Nat × Blk)) (D : Den) (hD : ∀ f, SoundFn Tryz.prog E glob f (D f)) (N : Nat) : SoundFn Tryz.prog E glob 39 (F39 E D (drawW E D) N) := by
  have h := runX_ok hD (drawW_ok hD follows) follows N Tryz.func39 (xf := A39) CF39 rfl AO39 CO39
  have he : runX E D (drawW E D) N A39 = F39 E D (drawW E D) N := by funext args σ; exact FE39 E D (drawW E D) N args σ
  rw [he] at h; exact h
theorem CF66 : compF Tryz.prog glob Tryz.f66 = some A66.strip := by kernel_rfl
theorem CO66 : callOk Tryz.prog 66 = true := by kernel_rfl
theorem SF66 (E : List (Nat × Blk)) (D : Den) (hD : ∀ f, SoundFn Tryz.prog E glob f (D f)) (N : Nat) : SoundFn Tryz.prog E glob 66 (F66 E D (drawW E D) N) := by
  have h := runX_ok hD (drawW_ok hD follows) follows N Tryz.func66 (xf := A66) CF66 rfl AO66 CO66
  have he : runX E D (drawW E D) N A66 = F66 E D (drawW E D) N := by funext args σ; exact FE66 E D (drawW E D) N args σ
  rw [he] at h; exact h
theorem CF63 : compF Tryz.prog glob Tryz.f63 = some A63.strip := by kernel_rfl
theorem CO63 : callOk Tryz.prog 63 = true := by kernel_rfl
theorem SF63 (E : List (Nat × Blk)) (D : Den) (hD : ∀ f, SoundFn Tryz.prog E glob f (D f)) (N : Nat) : SoundFn Tryz.prog E glob 63 (F63 E D (drawW E D) N) := by
  have h := runX_ok hD (drawW_ok hD follows) follows N Tryz.func63 (xf := A63) CF63 rfl AO63 CO63
  have he : runX E D (drawW E D) N A63 = F63 E D (drawW E D) N := by funext args σ; exact FE63 E D (drawW E D) N args σ
  rw [he] at h; exact h
theorem CF40 : compF Tryz.prog glob Tryz.f40 = some A40.strip := by kernel_rfl
theorem CO40 : callOk Tryz.prog 40 = true := by kernel_rfl
theorem SF40 (E : List (Nat × Blk)) (D : Den) (hD : ∀ f, SoundFn Tryz.prog E glob f (D f)) (N : Nat) : SoundFn Tryz.prog E glob 40 (F40 E D (drawW E D) N) := by
  have h := runX_ok hD (drawW_ok hD follows) follows N Tryz.func40 (xf := A40) CF40 rfl AO40 CO40
  have he : runX E D (drawW E D) N A40 = F40 E D (drawW E D) N := by funext args σ; exact FE40 E D (drawW E D) N args σ
  rw [he] at h; exact h
theorem CF67 : compF Tryz.prog glob Tryz.f67 = some A67.strip := by kernel_rfl
theorem CO67 : callOk Tryz.prog 67 = true := by kernel_rfl
theorem SF67 (E : List (Nat × Blk)) (D : Den) (hD : ∀ f, SoundFn Tryz.prog E glob f (D f)) (N : Nat) : SoundFn Tryz.prog E glob 67 (F67 E D (drawW E D) N) := by
  have h := runX_ok hD (drawW_ok hD follows) follows N Tryz.func67 (xf := A67) CF67 rfl AO67 CO67
  have he : runX E D (drawW E D) N A67 = F67 E D (drawW E D) N := by funext args σ; exact FE67 E D (drawW E D) N args σ
  rw [he] at h; exact h
theorem CF117 : compF Tryz.prog glob Tryz.f117 = some A117.strip := by kernel_rfl
theorem CO117 : callOk Tryz.prog 117 = true := by kernel_rfl
theorem SF117 (E : List (Nat × Blk)) (D : Den) (hD : ∀ f, SoundFn Tryz.prog E glob f (D f)) (N : Nat) : SoundFn Tryz.prog E glob 117 (F117 E D (drawW E D) N) := by
  have h := runX_ok hD (drawW_ok hD follows) follows N Tryz.func117 (xf := A117) CF117 rfl AO117 CO117
  have he : runX E D (drawW E D) N A117 = F117 E D (drawW E D) N := by funext args σ; exact FE117 E D (drawW E D) N args σ
  rw [he] at h; exact h
theorem CF165 : compF Tryz.prog glob Tryz.f165 = some A165.strip := by kernel_rfl
theorem CO165 : callOk Tryz.prog 165 = true := by kernel_rfl
theorem SF165 (E : List (Nat × Blk)) (D : Den) (hD : ∀ f, SoundFn Tryz.prog E glob f (D f)) (N : Nat) : SoundFn Tryz.prog E glob 165 (F165 E D (drawW E D) N) := by
  have h := runX_ok hD (drawW_ok hD follows) follows N Tryz.func165 (xf := A165) CF165 rfl AO165 CO165
  have he : runX E D (drawW E D) N A165 = F165 E D (drawW E D) N := by funext args σ; exact FE165 E D (drawW E D) N args σ
  rw [he] at h; exact h
theorem CF27 : compF Tryz.prog glob Tryz.f27 = some A27.strip := by kernel_rfl
theorem CO27 : callOk Tryz.prog 27 = true := by kernel_rfl
theorem SF27 (E : List (Nat × Blk)) (D : Den) (hD : ∀ f, SoundFn Tryz.prog E glob f (D f)) (N : Nat) : SoundFn Tryz.prog E glob 27 (F27 E D (drawW E D) N) := by
  have h := runX_ok hD (drawW_ok hD follows) follows N Tryz.func27 (xf := A27) CF27 rfl AO27 CO27
  have he : runX E D (drawW E D) N A27 = F27 E D (drawW E D) N := by funext args σ; exact FE27 E D (drawW E D) N args σ
  rw [he] at h; exact h
theorem CF49 : compF Tryz.prog glob Tryz.f49 = some A49.strip := by kernel_rfl
theorem CO49 : callOk Tryz.prog 49 = true := by kernel_rfl
theorem SF49 (E : List (Nat × Blk)) (D : Den) (hD : ∀ f, SoundFn Tryz.prog E glob f (D f)) (N : Nat) : SoundFn Tryz.prog E glob 49 (F49 E D (drawW E D) N) := by
  have h := runX_ok hD (drawW_ok hD follows) follows N Tryz.func49 (xf := A49) CF49 rfl AO49 CO49
  have he : runX E D (drawW E D) N A49 = F49 E D (drawW E D) N := by funext args σ; exact FE49 E D (drawW E D) N args σ
  rw [he] at h; exact h
theorem CF111 : compF Tryz.prog glob Tryz.f111 = some A111.strip := by kernel_rfl
theorem CO111 : callOk Tryz.prog 111 = true := by kernel_rfl
theorem SF111 (E : List (Nat × Blk)) (D : Den) (hD : ∀ f, SoundFn Tryz.prog E glob f (D f)) (N : Nat) : SoundFn Tryz.prog E glob 111 (F111 E D (drawW E D) N) := by
  have h := runX_ok hD (drawW_ok hD follows) follows N Tryz.func111 (xf := A111) CF111 rfl AO111 CO111
  have he : runX E D (drawW E D) N A111 = F111 E D (drawW E D) N := by funext args σ; exact FE111 E D (drawW E D) N args σ
  rw [he] at h; exact h
theorem CF68 : compF Tryz.prog glob Tryz.f68 = some A68.strip := by kernel_rfl
theorem CO68 : callOk Tryz.prog 68 = true := by kernel_rfl
theorem SF68 (E : List (Nat × Blk)) (D : Den) (hD : ∀ f, SoundFn Tryz.prog E glob f (D f)) (N : Nat) : SoundFn Tryz.prog E glob 68 (F68 E D (drawW E D) N) := by
  have h := runX_ok hD (drawW_ok hD follows) follows N Tryz.func68 (xf := A68) CF68 rfl AO68 CO68
  have he : runX E D (drawW E D) N A68 = F68 E D (drawW E D) N := by funext args σ; exact FE68 E D (drawW E D) N args σ
  rw [he] at h; exact h
theorem CF118 : compF Tryz.prog glob Tryz.f118 = some A118.strip := by kernel_rfl
theorem CO118 : callOk Tryz.prog 118 = true := by kernel_rfl
theorem SF118 (E : List (Nat × Blk)) (D : Den) (hD : ∀ f, SoundFn Tryz.prog E glob f (D f)) (N : Nat) : SoundFn Tryz.prog E glob 118 (F118 E D (drawW E D) N) := by
  have h := runX_ok hD (drawW_ok hD follows) follows N Tryz.func118 (xf := A118) CF118 rfl AO118 CO118
  have he : runX E D (drawW E D) N A118 = F118 E D (drawW E D) N := by funext args σ; exact FE118 E D (drawW E D) N args σ
  rw [he] at h; exact h
theorem CF26 : compF Tryz.prog glob Tryz.f26 = some A26.strip := by kernel_rfl
theorem CO26 : callOk Tryz.prog 26 = true := by kernel_rfl
theorem SF26 (E : List (Nat × Blk)) (D : Den) (hD : ∀ f, SoundFn Tryz.prog E glob f (D f)) (N : Nat) : SoundFn Tryz.prog E glob 26 (F26 E D (drawW E D) N) := by
  have h := runX_ok hD (drawW_ok hD follows) follows N Tryz.func26 (xf := A26) CF26 rfl AO26 CO26
  have he : runX E D (drawW E D) N A26 = F26 E D (drawW E D) N := by funext args σ; exact FE26 E D (drawW E D) N args σ
  rw [he] at h; exact h
theorem CF119 : compF Tryz.prog glob Tryz.f119 = some A119.strip := by kernel_rfl
theorem CO119 : callOk Tryz.prog 119 = true := by kernel_rfl
theorem SF119 (E : List (Nat × Blk)) (D : Den) (hD : ∀ f, SoundFn Tryz.prog E glob f (D f)) (N : Nat) : SoundFn Tryz.prog E glob 119 (F119 E D (drawW E D) N) := by
  have h := runX_ok hD (drawW_ok hD follows) follows N Tryz.func119 (xf := A119) CF119 rfl AO119 CO119
  have he : runX E D (drawW E D) N A119 = F119 E D (drawW E D) N := by funext args σ; exact FE119 E D (drawW E D) N args σ
  rw [he] at h; exact h
theorem CF160 : compF Tryz.prog glob Tryz.f160 = some A160.strip := by kernel_rfl
theorem CO160 : callOk Tryz.prog 160 = true := by kernel_rfl
theorem SF160 (E : List (Nat × Blk)) (D : Den) (hD : ∀ f, SoundFn Tryz.prog E glob f (D f)) (N : Nat) : SoundFn Tryz.prog E glob 160 (F160 E D (drawW E D) N) := by
  have h := runX_ok hD (drawW_ok hD follows) follows N Tryz.func160 (xf := A160) CF160 rfl AO160 CO160
  have he : runX E D (drawW E D) N A160 = F160 E D (drawW E D) N := by funext args σ; exact FE160 E D (drawW E D) N args σ
  rw [he] at h; exact h
theorem CF18 : compF Tryz.prog glob Tryz.f18 = some A18.strip := by kernel_rfl
theorem CO18 : callOk Tryz.prog 18 = true := by kernel_rfl
theorem SF18 (E : List (Nat × Blk)) (D : Den) (hD : ∀ f, SoundFn Tryz.prog E glob f (D f)) (N : Nat) : SoundFn Tryz.prog E glob 18 (F18 E D (drawW E D) N) := by
  have h := runX_ok hD (drawW_ok hD follows) follows N Tryz.func18 (xf := A18) CF18 rfl AO18 CO18
  have he : runX E D (drawW E D) N A18 = F18 E D (drawW E D) N := by funext args σ; exact FE18 E D (drawW E D) N args σ
  rw [he] at h; exact h
theorem CF38 : compF Tryz.prog glob Tryz.f38 = some A38.strip := by kernel_rfl
theorem CO38 : callOk Tryz.prog 38 = true := by kernel_rfl
theorem SF38 (E : List (Nat × Blk)) (D : Den) (hD : ∀ f, SoundFn Tryz.prog E glob f (D f)) (N : Nat) : SoundFn Tryz.prog E glob 38 (F38 E D (drawW E D) N) := by
  have h := runX_ok hD (drawW_ok hD follows) follows N Tryz.func38 (xf := A38) CF38 rfl AO38 CO38
  have he : runX E D (drawW E D) N A38 = F38 E D (drawW E D) N := by funext args σ; exact FE38 E D (drawW E D) N args σ
  rw [he] at h; exact h
theorem CF162 : compF Tryz.prog glob Tryz.f162 = some A162.strip := by kernel_rfl
theorem CO162 : callOk Tryz.prog 162 = true := by kernel_rfl
theorem SF162 (E : List (Nat × Blk)) (D : Den) (hD : ∀ f, SoundFn Tryz.prog E glob f (D f)) (N : Nat) : SoundFn Tryz.prog E glob 162 (F162 E D (drawW E D) N) := by
  have h := runX_ok hD (drawW_ok hD follows) follows N Tryz.func162 (xf := A162) CF162 rfl AO162 CO162
  have he : runX E D (drawW E D) N A162 = F162 E D (drawW E D) N := by funext args σ; exact FE162 E D (drawW E D) N args σ
  rw [he] at h; exact h
theorem CF20 : compF Tryz.prog glob Tryz.f20 = some A20.strip := by kernel_rfl
theorem CO20 : callOk Tryz.prog 20 = true := by kernel_rfl
theorem SF20 (E : List (Nat × Blk)) (D : Den) (hD : ∀ f, SoundFn Tryz.prog E glob f (D f)) (N : Nat) : SoundFn Tryz.prog E glob 20 (F20 E D (drawW E D) N) := by
  have h := runX_ok hD (drawW_ok hD follows) follows N Tryz.func20 (xf := A20) CF20 rfl AO20 CO20
  have he : runX E D (drawW E D) N A20 = F20 E D (drawW E D) N := by funext args σ; exact FE20 E D (drawW E D) N args σ
  rw [he] at h; exact h
theorem CF114 : compF Tryz.prog glob Tryz.f114 = some A114.strip := by kernel_rfl
theorem CO114 : callOk Tryz.prog 114 = true := by kernel_rfl
theorem SF114 (E : List (Nat × Blk)) (D : Den) (hD : ∀ f, SoundFn Tryz.prog E glob f (D f)) (N : Nat) : SoundFn Tryz.prog E glob 114 (F114 E D (drawW E D) N) := by
  have h := runX_ok hD (drawW_ok hD follows) follows N Tryz.func114 (xf := A114) CF114 rfl AO114 CO114
  have he : runX E D (drawW E D) N A114 = F114 E D (drawW E D) N := by funext args σ; exact FE114 E D (drawW E D) N args σ
  rw [he] at h; exact h
theorem CF161 : compF Tryz.prog glob Tryz.f161 = some A161.strip := by kernel_rfl
theorem CO161 : callOk Tryz.prog 161 = true := by kernel_rfl
theorem SF161 (E : List (Nat × Blk)) (D : Den) (hD : ∀ f, SoundFn Tryz.prog E glob f (D f)) (N : Nat) : SoundFn Tryz.prog E glob 161 (F161 E D (drawW E D) N) := by
  have h := runX_ok hD (drawW_ok hD follows) follows N Tryz.func161 (xf := A161) CF161 rfl AO161 CO161
  have he : runX E D (drawW E D) N A161 = F161 E D (drawW E D) N := by funext args σ; exact FE161 E D (drawW E D) N args σ
  rw [he] at h; exact h
theorem CF164 : compF Tryz.prog glob Tryz.f164 = some A164.strip := by kernel_rfl
theorem CO164 : callOk Tryz.prog 164 = true := by kernel_rfl
theorem SF164 (E : List (Nat × Blk)) (D : Den) (hD : ∀ f, SoundFn Tryz.prog E glob f (D f)) (N : Nat) : SoundFn Tryz.prog E glob 164 (F164 E D (drawW E D) N) := by
  have h := runX_ok hD (drawW_ok hD follows) follows N Tryz.func164 (xf := A164) CF164 rfl AO164 CO164
  have he : runX E D (drawW E D) N A164 = F164 E D (drawW E D) N := by funext args σ; exact FE164 E D (drawW E D) N args σ
  rw [he] at h; exact h
theorem CF187 : compF Tryz.prog glob Tryz.f187 = some A187.strip := by kernel_rfl
theorem CO187 : callOk Tryz.prog 187 = true := by kernel_rfl
theorem SF187 (E : List (Nat × Blk)) (D : Den) (hD : ∀ f, SoundFn Tryz.prog E glob f (D f)) (N : Nat) : SoundFn Tryz.prog E glob 187 (F187 E D (drawW E D) N) := by
  have h := runX_ok hD (drawW_ok hD follows) follows N Tryz.func187 (xf := A187) CF187 rfl AO187 CO187
  have he : runX E D (drawW E D) N A187 = F187 E D (drawW E D) N := by funext args σ; exact FE187 E D (drawW E D) N args σ
  rw [he] at h; exact h
theorem CF207 : compF Tryz.prog glob Tryz.f207 = some A207.strip := by kernel_rfl
theorem CO207 : callOk Tryz.prog 207 = true := by kernel_rfl
theorem SF207 (E : List (Nat × Blk)) (D : Den) (hD : ∀ f, SoundFn Tryz.prog E glob f (D f)) (N : Nat) : SoundFn Tryz.prog E glob 207 (F207 E D (drawW E D) N) := by
  have h := runX_ok hD (drawW_ok hD follows) follows N Tryz.func207 (xf := A207) CF207 rfl AO207 CO207
  have he : runX E D (drawW E D) N A207 = F207 E D (drawW E D) N := by funext args σ; exact FE207 E D (drawW E D) N args σ
  rw [he] at h; exact h
theorem CF208 : compF Tryz.prog glob Tryz.f208 = some A208.strip := by kernel_rfl
theorem CO208 : callOk Tryz.prog 208 = true := by kernel_rfl
theorem SF208 (E : List (Nat × Blk)) (D : Den) (hD : ∀ f, SoundFn Tryz.prog E glob f (D f)) (N : Nat) : SoundFn Tryz.prog E glob 208 (F208 E D (drawW E D) N) := by
  have h := runX_ok hD (drawW_ok hD follows) follows N Tryz.func208 (xf := A208) CF208 rfl AO208 CO208
  have he : runX E D (drawW E D) N A208 = F208 E D (drawW E D) N := by funext args σ; exact FE208 E D (drawW E D) N args σ
  rw [he] at h; exact h
theorem CF69 : compF Tryz.prog glob Tryz.f69 = some A69.strip := by kernel_rfl
theorem CO69 : callOk Tryz.prog 69 = true := by kernel_rfl
theorem SF69 (E : List (Nat × Blk)) (D : Den) (hD : ∀ f, SoundFn Tryz.prog E glob f (D f)) (N : Nat) : SoundFn Tryz.prog E glob 69 (F69 E D (drawW E D) N) := by
  have h := runX_ok hD (drawW_ok hD follows) follows N Tryz.func69 (xf := A69) CF69 rfl AO69 CO69
  have he : runX E D (drawW E D) N A69 = F69 E D (drawW E D) N := by funext args σ; exact FE69 E D (drawW E D) N args σ
  rw [he] at h; exact h
theorem CF113 : compF Tryz.prog glob Tryz.f113 = some A113.strip := by kernel_rfl
theorem CO113 : callOk Tryz.prog 113 = true := by kernel_rfl
theorem SF113 (E : List (Nat × Blk)) (D : Den) (hD : ∀ f, SoundFn Tryz.prog E glob f (D f)) (N : Nat) : SoundFn Tryz.prog E glob 113 (F113 E D (drawW E D) N) := by
  have h := runX_ok hD (drawW_ok hD follows) follows N Tryz.func113 (xf := A113) CF113 rfl AO113 CO113
  have he : runX E D (drawW E D) N A113 = F113 E D (drawW E D) N := by funext args σ; exact FE113 E D (drawW E D) N args σ
  rw [he] at h; exact h
theorem CF116 : compF Tryz.prog glob Tryz.f116 = some A116.strip := by kernel_rfl
theorem CO116 : callOk Tryz.prog 116 = true := by kernel_rfl
theorem SF116 (E : List (Nat × Blk)) (D : Den) (hD : ∀ f, SoundFn Tryz.prog E glob f (D f)) (N : Nat) : SoundFn Tryz.prog E glob 116 (F116 E D (drawW E D) N) := by
  have h := runX_ok hD (drawW_ok hD follows) follows N Tryz.func116 (xf := A116) CF116 rfl AO116 CO116
  have he : runX E D (drawW E D) N A116 = F116 E D (drawW E D) N := by funext args σ; exact FE116 E D (drawW E D) N args σ
  rw [he] at h; exact h
theorem CF25 : compF Tryz.prog glob Tryz.f25 = some A25.strip := by kernel_rfl
theorem CO25 : callOk Tryz.prog 25 = true := by kernel_rfl
theorem SF25 (E : List (Nat × Blk)) (D : Den) (hD : ∀ f, SoundFn Tryz.prog E glob f (D f)) (N : Nat) : SoundFn Tryz.prog E glob 25 (F25 E D (drawW E D) N) := by
  have h := runX_ok hD (drawW_ok hD follows) follows N Tryz.func25 (xf := A25) CF25 rfl AO25 CO25
  have he : runX E D (drawW E D) N A25 = F25 E D (drawW E D) N := by funext args σ; exact FE25 E D (drawW E D) N args σ
  rw [he] at h; exact h
theorem CF102 : compF Tryz.prog glob Tryz.f102 = some A102.strip := by kernel_rfl
theorem CO102 : callOk Tryz.prog 102 = true := by kernel_rfl
theorem SF102 (E : List (Nat × Blk)) (D : Den) (hD : ∀ f, SoundFn Tryz.prog E glob f (D f)) (N : Nat) : SoundFn Tryz.prog E glob 102 (F102 E D (drawW E D) N) := by
  have h := runX_ok hD (drawW_ok hD follows) follows N Tryz.func102 (xf := A102) CF102 rfl AO102 CO102
  have he : runX E D (drawW E D) N A102 = F102 E D (drawW E D) N := by funext args σ; exact FE102 E D (drawW E D) N args σ
  rw [he] at h; exact h
theorem CF146 : compF Tryz.prog glob Tryz.f146 = some A146.strip := by kernel_rfl
theorem CO146 : callOk Tryz.prog 146 = true := by kernel_rfl
theorem SF146 (E : List (Nat × Blk)) (D : Den) (hD : ∀ f, SoundFn Tryz.prog E glob f (D f)) (N : Nat) : SoundFn Tryz.prog E glob 146 (F146 E D (drawW E D) N) := by
  have h := runX_ok hD (drawW_ok hD follows) follows N Tryz.func146 (xf := A146) CF146 rfl AO146 CO146
  have he : runX E D (drawW E D) N A146 = F146 E D (drawW E D) N := by funext args σ; exact FE146 E D (drawW E D) N args σ
  rw [he] at h; exact h
theorem CF140 : compF Tryz.prog glob Tryz.f140 = some A140.strip := by kernel_rfl
theorem CO140 : callOk Tryz.prog 140 = true := by kernel_rfl
theorem SF140 (E : List (Nat × Blk)) (D : Den) (hD : ∀ f, SoundFn Tryz.prog E glob f (D f)) (N : Nat) : SoundFn Tryz.prog E glob 140 (F140 E D (drawW E D) N) := by
  have h := runX_ok hD (drawW_ok hD follows) follows N Tryz.func140 (xf := A140) CF140 rfl AO140 CO140
  have he : runX E D (drawW E D) N A140 = F140 E D (drawW E D) N := by funext args σ; exact FE140 E D (drawW E D) N args σ
  rw [he] at h; exact h
theorem CF139 : compF Tryz.prog glob Tryz.f139 = some A139.strip := by kernel_rfl
theorem CO139 : callOk Tryz.prog 139 = true := by kernel_rfl
theorem SF139 (E : List (Nat × Blk)) (D : Den) (hD : ∀ f, SoundFn Tryz.prog E glob f (D f)) (N : Nat) : SoundFn Tryz.prog E glob 139 (F139 E D (drawW E D) N) := by
  have h := runX_ok hD (drawW_ok hD follows) follows N Tryz.func139 (xf := A139) CF139 rfl AO139 CO139
  have he : runX E D (drawW E D) N A139 = F139 E D (drawW E D) N := by funext args σ; exact FE139 E D (drawW E D) N args σ
  rw [he] at h; exact h
theorem CF57 : compF Tryz.prog glob Tryz.f57 = some A57.strip := by kernel_rfl
theorem CO57 : callOk Tryz.prog 57 = true := by kernel_rfl
theorem SF57 (E : List (Nat × Blk)) (D : Den) (hD : ∀ f, SoundFn Tryz.prog E glob f (D f)) (N : Nat) : SoundFn Tryz.prog E glob 57 (F57 E D (drawW E D) N) := by
  have h := runX_ok hD (drawW_ok hD follows) follows N Tryz.func57 (xf := A57) CF57 rfl AO57 CO57
  have he : runX E D (drawW E D) N A57 = F57 E D (drawW E D) N := by funext args σ; exact FE57 E D (drawW E D) N args σ
  rw [he] at h; exact h
theorem CF98 : compF Tryz.prog glob Tryz.f98 = some A98.strip := by kernel_rfl
theorem CO98 : callOk Tryz.prog 98 = true := by kernel_rfl
theorem SF98 (E : List (Nat × Blk)) (D : Den) (hD : ∀ f, SoundFn Tryz.prog E glob f (D f)) (N : Nat) : SoundFn Tryz.prog E glob 98 (F98 E D (drawW E D) N) := by
  have h := runX_ok hD (drawW_ok hD follows) follows N Tryz.func98 (xf := A98) CF98 rfl AO98 CO98
  have he : runX E D (drawW E D) N A98 = F98 E D (drawW E D) N := by funext args σ; exact FE98 E D (drawW E D) N args σ
  rw [he] at h; exact h
theorem CF171 : compF Tryz.prog glob Tryz.f171 = some A171.strip := by kernel_rfl
theorem CO171 : callOk Tryz.prog 171 = true := by kernel_rfl
theorem SF171 (E : List (Nat × Blk)) (D : Den) (hD : ∀ f, SoundFn Tryz.prog E glob f (D f)) (N : Nat) : SoundFn Tryz.prog E glob 171 (F171 E D (drawW E D) N) := by
  have h := runX_ok hD (drawW_ok hD follows) follows N Tryz.func171 (xf := A171) CF171 rfl AO171 CO171
  have he : runX E D (drawW E D) N A171 = F171 E D (drawW E D) N := by funext args σ; exact FE171 E D (drawW E D) N args σ
  rw [he] at h; exact h
theorem CF58 : compF Tryz.prog glob Tryz.f58 = some A58.strip := by kernel_rfl
theorem CO58 : callOk Tryz.prog 58 = true := by kernel_rfl
theorem SF58 (E : List (Nat × Blk)) (D : Den) (hD : ∀ f, SoundFn Tryz.prog E glob f (D f)) (N : Nat) : SoundFn Tryz.prog E glob 58 (F58 E D (drawW E D) N) := by
  have h := runX_ok hD (drawW_ok hD follows) follows N Tryz.func58 (xf := A58) CF58 rfl AO58 CO58
  have he : runX E D (drawW E D) N A58 = F58 E D (drawW E D) N := by funext args σ; exact FE58 E D (drawW E D) N args σ
  rw [he] at h; exact h
theorem CF54 : compF Tryz.prog glob Tryz.f54 = some A54.strip := by kernel_rfl
theorem CO54 : callOk Tryz.prog 54 = true := by kernel_rfl
theorem SF54 (E : List (Nat × Blk)) (D : Den) (hD : ∀ f, SoundFn Tryz.prog E glob f (D f)) (N : Nat) : SoundFn Tryz.prog E glob 54 (F54 E D (drawW E D) N) := by
  have h := runX_ok hD (drawW_ok hD follows) follows N Tryz.func54 (xf := A54) CF54 rfl AO54 CO54
  have he : runX E D (drawW E D) N A54 = F54 E D (drawW E D) N := by funext args σ; exact FE54 E D (drawW E D) N args σ
  rw [he] at h; exact h
theorem CF97 : compF Tryz.prog glob Tryz.f97 = some A97.strip := by kernel_rfl
theorem CO97 : callOk Tryz.prog 97 = true := by kernel_rfl
theorem SF97 (E : List (Nat × Blk)) (D : Den) (hD : ∀ f, SoundFn Tryz.prog E glob f (D f)) (N : Nat) : SoundFn Tryz.prog E glob 97 (F97 E D (drawW E D) N) := by
  have h := runX_ok hD (drawW_ok hD follows) follows N Tryz.func97 (xf := A97) CF97 rfl AO97 CO97
  have he : runX E D (drawW E D) N A97 = F97 E D (drawW E D) N := by funext args σ; exact FE97 E D (drawW E D) N args σ
  rw [he] at h; exact h
theorem CF96 : compF Tryz.prog glob Tryz.f96 = some A96.strip := by kernel_rfl
theorem CO96 : callOk Tryz.prog 96 = true := by kernel_rfl
theorem SF96 (E : List (Nat × Blk)) (D : Den) (hD : ∀ f, SoundFn Tryz.prog E glob f (D f)) (N : Nat) : SoundFn Tryz.prog E glob 96 (F96 E D (drawW E D) N) := by
  have h := runX_ok hD (drawW_ok hD follows) follows N Tryz.func96 (xf := A96) CF96 rfl AO96 CO96
  have he : runX E D (drawW E D) N A96 = F96 E D (drawW E D) N := by funext args σ; exact FE96 E D (drawW E D) N args σ
  rw [he] at h; exact h
theorem CF216 : compF Tryz.prog glob Tryz.f216 = some A216.strip := by kernel_rfl
theorem CO216 : callOk Tryz.prog 216 = true := by kernel_rfl
theorem SF216 (E : List (Nat × Blk)) (D : Den) (hD : ∀ f, SoundFn Tryz.prog E glob f (D f)) (N : Nat) : SoundFn Tryz.prog E glob 216 (F216 E D (drawW E D) N) := by
  have h := runX_ok hD (drawW_ok hD follows) follows N Tryz.func216 (xf := A216) CF216 rfl AO216 CO216
  have he : runX E D (drawW E D) N A216 = F216 E D (drawW E D) N := by funext args σ; exact FE216 E D (drawW E D) N args σ
  rw [he] at h; exact h
theorem CF205 : compF Tryz.prog glob Tryz.f205 = some A205.strip := by kernel_rfl
theorem CO205 : callOk Tryz.prog 205 = true := by kernel_rfl
theorem SF205 (E : List (Nat × Blk)) (D : Den) (hD : ∀ f, SoundFn Tryz.prog E glob f (D f)) (N : Nat) : SoundFn Tryz.prog E glob 205 (F205 E D (drawW E D) N) := by
  have h := runX_ok hD (drawW_ok hD follows) follows N Tryz.func205 (xf := A205) CF205 rfl AO205 CO205
  have he : runX E D (drawW E D) N A205 = F205 E D (drawW E D) N := by funext args σ; exact FE205 E D (drawW E D) N args σ
  rw [he] at h; exact h
def ftab (E : List (Nat × Blk)) (N : Nat) (D : Den) : List (Nat × (List V → H → Ans)) := [(7, F7 E D (drawW E D) N), (110, F110 E D (drawW E D) N), (65, F65 E D (drawW E D) N), (115, F115 E D (drawW E D) N), (64, F64 E D (drawW E D) N), (39, F39 E D (drawW E D) N), (66, F66 E D (drawW E D) N), (63, F63 E D (drawW E D) N), (40, F40 E D (drawW E D) N), (67, F67 E D (drawW E D) N), (117, F117 E D (drawW E D) N), (165, F165 E D (drawW E D) N), (27, F27 E D (drawW E D) N), (49, F49 E D (drawW E D) N), (111, F111 E D (drawW E D) N), (68, F68 E D (drawW E D) N), (118, F118 E D (drawW E D) N), (26, F26 E D (drawW E D) N), (119, F119 E D (drawW E D) N), (160, F160 E D (drawW E D) N), (18, F18 E D (drawW E D) N), (38, F38 E D (drawW E D) N), (162, F162 E D (drawW E D) N), (20, F20 E D (drawW E D) N), (114, F114 E D (drawW E D) N), (161, F161 E D (drawW E D) N), (164, F164 E D (drawW E D) N), (187, F187 E D (drawW E D) N), (207, F207 E D (drawW E D) N), (208, F208 E D (drawW E D) N), (69, F69 E D (drawW E D) N), (113, F113 E D (drawW E D) N), (116, F116 E D (drawW E D) N), (25, F25 E D (drawW E D) N), (102, F102 E D (drawW E D) N), (146, F146 E D (drawW E D) N), (140, F140 E D (drawW E D) N), (139, F139 E D (drawW E D) N), (57, F57 E D (drawW E D) N), (98, F98 E D (drawW E D) N), (171, F171 E D (drawW E D) N), (58, F58 E D (drawW E D) N), (54, F54 E D (drawW E D) N), (97, F97 E D (drawW E D) N), (96, F96 E D (drawW E D) N), (216, F216 E D (drawW E D) N), (205, F205 E D (drawW E D) N)]
def BD (E : List (Nat × Blk)) (N : Nat) (D : Den) : Den := fun f => match lookF (ftab E N D) f with
  | some g => g
  | none => match lookA tab f with
    | some g => runX E D (drawW E D) N g
    | none => fun _ _ => none
theorem BD_ok (E : List (Nat × Blk)) (N : Nat) (D : Den) (hD : ∀ f, SoundFn Tryz.prog E glob f (D f)) (f : FuncId) : SoundFn Tryz.prog E glob f (BD E N D f) := by
  have hall : ∀ p ∈ ftab E N D, SoundFn Tryz.prog E glob p.1 p.2 := by
    unfold ftab
    simp only [List.forall_mem_cons]
    exact ⟨SF7 E _ hD N, SF110 E _ hD N, SF65 E _ hD N, SF115 E _ hD N, SF64 E _ hD N, SF39 E _ hD N, SF66 E _ hD N, SF63 E _ hD N, SF40 E _ hD N, SF67 E _ hD N, SF117 E _ hD N, SF165 E _ hD N, SF27 E _ hD N, SF49 E _ hD N, SF111 E _ hD N, SF68 E _ hD N, SF118 E _ hD N, SF26 E _ hD N, SF119 E _ hD N, SF160 E _ hD N, SF18 E _ hD N, SF38 E _ hD N, SF162 E _ hD N, SF20 E _ hD N, SF114 E _ hD N, SF161 E _ hD N, SF164 E _ hD N, SF187 E _ hD N, SF207 E _ hD N, SF208 E _ hD N, SF69 E _ hD N, SF113 E _ hD N, SF116 E _ hD N, SF25 E _ hD N, SF102 E _ hD N, SF146 E _ hD N, SF140 E _ hD N, SF139 E _ hD N, SF57 E _ hD N, SF98 E _ hD N, SF171 E _ hD N, SF58 E _ hD N, SF54 E _ hD N, SF97 E _ hD N, SF96 E _ hD N, SF216 E _ hD N, SF205 E _ hD N, fun _ h => by cases h⟩
  unfold BD
  split
  · rename_i g hg
    rw [lookF_eq] at hg
    exact hall _ (look_mem hg)
  · split
    · rename_i g hg
      exact (tab_is _ (lookA_mem _ _ _ hg)).sound E _ hD N
    · intro C _ _ R σ w args xs v σ' h; cases h
def DT (E : List (Nat × Blk)) (N : Nat) (d : Nat) : Den := Nat.rec (fun _ _ _ => none) (fun _ ih => BD E N ih) d
theorem DT_ok (E : List (Nat × Blk)) (N : Nat) : ∀ (d : Nat) (f : FuncId), SoundFn Tryz.prog E glob f (DT E N d f) := by
  intro d
  induction d with
  | zero => intro f C _ _ R σ w args xs v σ' h; cases h
  | succ d ih => exact BD_ok E N _ ih
theorem globLt : ∀ g, glob g = true → g < 2 := fun g hg => by simpa [glob] using hg
end
end Go.Proofs.YtpbdnlclihogfaaGreatDoor
set_option linter.all false
namespace Go.Og
noncomputable section

theorem ble_of {a b : Nat} (h : a ≤ b) : Nat.ble a b = true := by rw [Nat.ble_eq]; exact h
/-- The block b holds these cells. -/
def Atc (σ : H) (b : Nat) (l : List V) : Prop := lookF σ.bl b = some (.cells l)
/-- No block beyond the next number. -/
def Tidy (σ : H) : Prop := ∀ b, σ.next ≤ b → lookF σ.bl b = none
/-- What was there is as it was, but for the blocks of S. -/
structure Fr (S : Nat → Prop) (σ σ' : H) : Prop where
  tidy : Tidy σ'
  le : σ.next ≤ σ'.next
  same : ∀ b, b < σ.next → ¬ S b → lookF σ'.bl b = lookF σ.bl b
def Nowhere : Nat → Prop := fun _ => False
/-- The block that a slice lies in. -/
def Names (v : V) (b : Nat) : Prop := match v with
  | .sl b' _ _ _ => b = b'
  | _ => False

section
variable {E : List (Nat × Blk)} {σ σ' σ'' : H} {b b' : Nat} {l m : List V} {S T : Nat → Prop}
theorem Atc.lt (h : Atc σ b l) (ht : Tidy σ) : b < σ.next := by
  rcases Nat.lt_or_ge b σ.next with hl | hl
  · exact hl
  · have := ht b hl; rw [show lookF σ.bl b = some (.cells l) from h] at this; cases this
theorem Fr.refl (ht : Tidy σ) : Fr S σ σ := ⟨ht, Nat.le_refl _, fun _ _ _ => rfl⟩
theorem Fr.mono (h : Fr S σ σ') (hs : ∀ b, b < σ.next → S b → T b) : Fr T σ σ' := ⟨h.tidy, h.le, fun b hb hn => h.same b hb fun hS => hn (hs b hb hS)⟩
theorem Fr.trans (h : Fr S σ σ') (k : Fr T σ' σ'') (hT : ∀ b, b < σ.next → T b → S b) : Fr S σ σ'' :=
  ⟨k.tidy, Nat.le_trans h.le k.le, fun b hb hn => (k.same b (Nat.lt_of_lt_of_le hb h.le) fun hT' => hn (hT b hb hT')).trans (h.same b hb hn)⟩
theorem Fr.at_ (h : Fr S σ σ') (ha : Atc σ b l) (ht : Tidy σ) (hn : ¬ S b) : Atc σ' b l := (h.same b (ha.lt ht) hn).trans ha
theorem lookF_setF (c : Blk) (k : Nat) : lookF (setF σ b c).bl k = if b = k then some c else lookF σ.bl k := by
  rw [lookF_eq, lookF_eq]; exact look_setF σ b c k
theorem Atc_setF (m : List V) : Atc (setF σ b (.cells m)) b m := by
  show lookF _ _ = _
  rw [lookF_setF, if_pos rfl]
theorem Fr.set (ht : Tidy σ) (hb : b < σ.next) (c : Blk) : Fr (fun k => k = b) σ (setF σ b c) := by
  refine ⟨fun k hk => ?_, Nat.le_refl _, fun k hk hn => ?_⟩
  · have hk' : σ.next ≤ k := hk
    rw [lookF_setF, if_neg (by omega)]; exact ht k hk'
  · rw [lookF_setF, if_neg (fun h => hn h.symm)]
theorem Atc_newB (l : List V) : Atc (newB σ (.cells l)) σ.next l := by
  show lookF ((σ.next, Blk.cells l) :: σ.bl) _ = _
  rw [lookF_cons, if_pos rfl]
theorem Fr.new (ht : Tidy σ) (c : Blk) : Fr S σ (newB σ c) := by
  refine ⟨fun k hk => ?_, Nat.le_succ _, fun k hk hn => ?_⟩
  · have hk' : σ.next + 1 ≤ k := hk
    show lookF ((σ.next, c) :: σ.bl) _ = _
    rw [lookF_cons, if_neg (by omega)]; exact ht k (by omega)
  · show lookF ((σ.next, c) :: σ.bl) _ = _
    rw [lookF_cons, if_neg (by omega)]
/-! ### what is read and written -/
theorem rdK_at {κ : List V → Ans} (h : Atc σ b l) : rdK E σ b κ = κ l := by unfold rdK; rw [show lookF σ.bl b = some (.cells l) from h]
theorem nthK_of {κ : V → Ans} {o : Nat} {v : V} (h : nthF l o = some v) : nthK l o κ = κ v := by unfold nthK; rw [h]
theorem subK_of {κ : List V → Ans} {o n : Nat} (h : o + n ≤ l.length) : subK l o n κ = κ ((l.drop o).take n) := by
  unfold subK; rw [show Nat.ble (Nat.add o n) l.length = true from ble_of h]
theorem chk_true {c : Bool} {a : Ans} (h : c = true) : chk c a = a := by rw [h]; rfl
theorem stK_at {κ : H → Ans} {n o : Nat} {v : V} (h : Atc σ b l) (hc : (Nat.beq v.cells.length n && Nat.ble (Nat.add o n) l.length && allOne v.cells) = true) : stK n b o v σ κ = κ (setF σ b (.cells (spl l o v.cells))) := by
  unfold stK; rw [show lookF σ.bl b = some (.cells l) from h]; exact chk_true hc
/-! ### numbers -/
theorem ltF_nat (m n : Nat) : ltF (Int.ofNat m) (Int.ofNat n) = decide (m < n) := by
  rw [ltF_eq]; simp
theorem leF_nat (m n : Nat) : leF (Int.ofNat m) (Int.ofNat n) = decide (m ≤ n) := by
  rw [leF_eq]; simp
theorem eqF_nat (m n : Nat) : eqF (Int.ofNat m) (Int.ofNat n) = decide (m = n) := by
  rw [eqF_eq]; rw [Bool.eq_iff_iff]; simp only [beq_iff_eq, decide_eq_true_eq]; exact ⟨fun h => Int.ofNat.inj h, fun h => by rw [h]⟩
theorem wrapF_nat {k : IntKind} {m : Nat} (h : m ≤ maxN k) : wrapF k (Int.ofNat m) = Int.ofNat m :=
  (wrapF_eq _ _).trans (wrap_in (show Nat.ble m (maxN k) = true from ble_of h))
theorem addF_nat {m n : Nat} (h : m + n ≤ 9223372036854775807) : addF .i64 (Int.ofNat m) (Int.ofNat n) = Int.ofNat (m + n) := by
  exact wrapF_nat (k := .i64) (m := m + n) h
theorem subF_nat {m n : Nat} (h : n ≤ m) (hm : m ≤ 9223372036854775807) : subF .i64 (Int.ofNat m) (Int.ofNat n) = Int.ofNat (m - n) := by
  have e : Int.sub (Int.ofNat m) (Int.ofNat n) = Int.ofNat (m - n) := by
    show (m : Int) - (n : Int) = ((m - n : Nat) : Int)
    omega
  show wrapF .i64 (Int.sub (Int.ofNat m) (Int.ofNat n)) = _
  rw [e]
  exact wrapF_nat (k := .i64) (show m - n ≤ 9223372036854775807 by omega)
/-! ### slices that grow -/
/-- A slice of k elements that grows by append. -/
def Sl (σ : H) (esz k : Nat) (v : V) (l : List V) : Prop := (k = 0 ∧ v = .nils ∧ l = []) ∨ (∃ b, v = .sl b 0 k (.op esz) ∧ Atc σ b l ∧ 0 < k ∧ l.length = k * esz)
theorem Sl.nil (σ : H) (esz : Nat) : Sl σ esz 0 .nils [] := .inl ⟨rfl, rfl, rfl⟩
theorem Sl.length {esz k : Nat} {v : V} (h : Sl σ esz k v l) : l.length = k * esz := by
  rcases h with ⟨rfl, _, rfl⟩ | ⟨b, _, _, _, h⟩
  · simp
  · exact h
theorem Sl.fr {esz k : Nat} {v : V} (h : Sl σ esz k v l) (f : Fr S σ σ') (ht : Tidy σ) (hn : ∀ b, Names v b → ¬ S b) : Sl σ' esz k v l := by
  rcases h with h | ⟨b, rfl, ha, hk, hl⟩
  · exact .inl h
  · exact .inr ⟨b, rfl, f.at_ ha ht (hn b rfl), hk, hl⟩
theorem Sl.one {esz k : Nat} {v : V} (h : Sl σ esz k v l) : v.one = true := by
  rcases h with ⟨_, rfl, _⟩ | ⟨b, rfl, _⟩ <;> rfl
theorem Sl.slen {esz k : Nat} {v : V} {κ : Nat → Ans} (h : Sl σ esz k v l) : slenK v κ = κ k := by
  rcases h with ⟨rfl, rfl, _⟩ | ⟨b, rfl, _⟩ <;> rfl
theorem Sl.lt {esz k : Nat} {v : V} (h : Sl σ esz k v l) (ht : Tidy σ) (hb : Names v b) : b < σ.next := by
  rcases h with ⟨_, rfl, _⟩ | ⟨c, rfl, ha, _⟩
  · exact hb.elim
  · cases hb; exact ha.lt ht
theorem srcK_ex {esz n xb xo : Nat} {c' : Cap} {κ : Nat → List V → Ans} (h : Atc σ xb m) (hl : xo + n * esz ≤ m.length) : srcK E σ esz (.sl xb xo n c') κ = κ n ((m.drop xo).take (n * esz)) :=
  (rdK_at h).trans (subK_of hl)
theorem rtOne_sl {b o n : Nat} {c : Cap} {a : Ans} : rtOne (.sl b o n c) a = a := rfl
theorem iaddrSK_lt {esz b o n i : Nat} {c : Cap} {κ : Nat → Nat → Ans} (h : i < n) : iaddrSK esz (.sl b o n c) (Int.ofNat i) κ = κ b (Nat.add o (Nat.mul i esz)) := by
  show chk (Nat.blt i n) _ = _
  exact chk_true (by simpa [Nat.blt_eq] using h)
theorem lookF_drop (l : List (Nat × Blk)) (id id' : Nat) : lookF (drop l id) id' = if id = id' then none else lookF l id' := by
  rw [lookF_eq, lookF_eq]; exact look_drop l id id'
end
/-! ### texts as lists of numbers -/
theorem rtInt_int (k : IntKind) (n : Int) (κ : Int → Ans) : rtInt k (.int k n) κ = κ n := by simp [rtInt]
theorem rtBool_bool (b : Bool) (κ : Bool → Ans) : rtBool (.bool b) κ = κ b := rfl
theorem rtStr_str (s : BS) (κ : BS → Ans) : rtStr (.str s) κ = κ s := rfl
theorem rtPtr_ptr (b o : Nat) (κ : Nat → Nat → Ans) : rtPtr (.ptr b o) κ = κ b o := rfl
theorem rtAgg_agg (l : List V) (κ : List V → Ans) : rtAgg (.agg l) κ = κ l := rfl
theorem rtTup_tup (l : List V) (κ : List V → Ans) : rtTup (.tup l) κ = κ l := rfl
theorem rtCons_cons (v : V) (l : List V) (κ : V → List V → Ans) : rtCons (v :: l) κ = κ v l := rfl
theorem rtNil_nil (a : Ans) : rtNil [] a = a := rfl
theorem callK_some_ (v : V) (σ : H) (κ : V → H → Ans) : callK (some (v, σ)) κ = κ v σ := rfl
theorem joinB_ (f : Bool → H → Ans) (g : (Bool → H → Ans) → Ans) : joinB f g = g f := rfl

def BS.nats (s : BS) : List Nat := s.toList.map UInt8.toNat
theorem BS.length_nats (s : BS) : s.nats.length = s.len := by simp [BS.nats, BS.length_toList]
theorem BS.nats_get {s : BS} {i : Nat} (h : i < s.len) : s.nats[i]? = some (s.get i) := by
  simp only [BS.nats, List.getElem?_map, BS.getElem?_toList, if_pos h, Option.map_some, UInt8.toNat_ofNat']
  rw [Nat.mod_eq_of_lt (s.get_lt i)]
theorem BS.nats_lt (s : BS) : ∀ c ∈ s.nats, c < 256 := by
  intro c hc
  simp only [BS.nats, List.mem_map] at hc
  obtain ⟨u, _, rfl⟩ := hc
  exact u.toNat_lt
theorem BS.nats_cat (a b : BS) : (a.cat b).nats = a.nats ++ b.nats := by simp [BS.nats, BS.toList_cat]
theorem BS.nats_sub {s : BS} {lo hi : Nat} (h : hi ≤ s.len) : (s.sub lo hi).nats = (s.nats.drop lo).take (hi - lo) := by
  simp [BS.nats, BS.toList_sub h]
theorem nats_inj {l m : List UInt8} (h : l.map UInt8.toNat = m.map UInt8.toNat) : l = m := by
  have hm := congrArg (List.map UInt8.ofNat) h
  simpa [List.map_map, Function.comp_def] using hm
theorem BS.beq_nats (a b : BS) : a.beq b = decide (a.nats = b.nats) := by
  rw [BS.beq_eq]
  rw [Bool.eq_iff_iff]
  simp only [decide_eq_true_eq]
  exact ⟨fun h => by rw [BS.nats, h, ← BS.nats], fun h => nats_inj h⟩
def BS.canon (s : BS) : Prop := s.val < 2 ^ (8 * s.len)
theorem BS.canon_low {s : BS} (h : s.canon) : s.low = s.val := Nat.mod_eq_of_lt h
theorem BS.canon_ext {a b : BS} (ha : a.canon) (hb : b.canon) (h : a.nats = b.nats) : a = b := by
  have ht := nats_inj h
  obtain ⟨hl, hg⟩ := BS.get_eq ht
  have := (BS.low_eq hl).2 hg
  rw [BS.canon_low ha, BS.canon_low hb] at this
  cases a; cases b
  simp only [] at hl this
  subst hl; subst this; rfl
theorem BS.sub_canon (s : BS) (lo hi : Nat) : (s.sub lo hi).canon := Nat.mod_lt _ (Nat.pow_pos (by decide))
def ofN : List Nat → BS
  | [] => ⟨0, 0⟩
  | c :: l => ⟨Nat.succ (ofN l).len, Nat.add c (Nat.mul 256 (ofN l).val)⟩
theorem ofN_eq : ∀ {l : List Nat}, (∀ c ∈ l, c < 256) → ofN l = BS.ofList (l.map UInt8.ofNat)
  | [], _ => rfl
  | c :: l, h => by
    have hc : (UInt8.ofNat c).toNat = c := by simp only [UInt8.toNat_ofNat']; exact Nat.mod_eq_of_lt (h c (by simp))
    have ih := ofN_eq (l := l) (fun d hd => h d (List.mem_cons_of_mem _ hd))
    show BS.mk (Nat.succ (ofN l).len) (Nat.add c (Nat.mul 256 (ofN l).val)) = BS.mk (Nat.succ (BS.ofList (l.map UInt8.ofNat)).len) (Nat.add (UInt8.ofNat c).toNat (Nat.mul 256 (BS.ofList (l.map UInt8.ofNat)).val))
    rw [ih, hc]
theorem ofN_nats {l : List Nat} (h : ∀ c ∈ l, c < 256) : (ofN l).nats = l := by
  rw [ofN_eq h]
  apply List.ext_getElem?
  intro i
  by_cases hi : i < l.length
  · have hl : (BS.ofList (l.map UInt8.ofNat)).len = l.length := by rw [BS.len_ofList, List.length_map]
    rw [BS.nats_get (by omega)]
    have hc : (l.map UInt8.ofNat)[i]? = some (UInt8.ofNat l[i]) := by simp [hi]
    rw [BS.get_ofList _ _ _ hc]
    simp only [UInt8.toNat_ofNat', List.getElem?_eq_getElem hi]
    rw [Nat.mod_eq_of_lt (h _ (List.getElem_mem hi))]
  · rw [List.getElem?_eq_none (by rw [BS.length_nats, BS.len_ofList, List.length_map]; omega), List.getElem?_eq_none (by omega)]
theorem ofN_canon : ∀ {l : List Nat}, (∀ c ∈ l, c < 256) → (ofN l).canon
  | [], _ => by show 0 < 2 ^ (8 * 0); decide
  | c :: l, h => by
    have ih : (ofN l).val < 2 ^ (8 * (ofN l).len) := ofN_canon (fun d hd => h d (by simp [hd]))
    have hc := h c (by simp)
    show c + 256 * (ofN l).val < 2 ^ (8 * ((ofN l).len + 1))
    have e : 2 ^ (8 * ((ofN l).len + 1)) = 256 * 2 ^ (8 * (ofN l).len) := by
      rw [Nat.mul_add, Nat.pow_add]; simp [Nat.mul_comm]
    rw [e]; omega
theorem sub_ofN {s : BS} {lo hi : Nat} (h : hi ≤ s.len) : s.sub lo hi = ofN ((s.nats.drop lo).take (hi - lo)) := by
  have hb : ∀ c ∈ (s.nats.drop lo).take (hi - lo), c < 256 := fun c hc => s.nats_lt c (List.mem_of_mem_drop (List.mem_of_mem_take hc))
  exact BS.canon_ext (s.sub_canon lo hi) (ofN_canon hb) (by rw [BS.nats_sub h, ofN_nats hb])

/-- From the place i on the text reads r. -/
def Rst (s : BS) (i : Nat) (r : List Nat) : Prop := i ≤ s.len ∧ s.nats.drop i = r
section
variable {s : BS} {i : Nat} {r : List Nat}
theorem Rst.start (s : BS) : Rst s 0 s.nats := ⟨Nat.zero_le _, rfl⟩
theorem Rst.len (h : Rst s i r) : i + r.length = s.len := by
  have := congrArg List.length h.2
  rw [List.length_drop, BS.length_nats] at this
  have := h.1; omega
theorem Rst.drop (h : Rst s i r) {k : Nat} (hk : k ≤ r.length) : Rst s (i + k) (r.drop k) := by
  refine ⟨by have := h.len; omega, ?_⟩
  rw [← h.2, List.drop_drop]
theorem Rst.tail {c : Nat} (h : Rst s i (c :: r)) : Rst s (i + 1) r := h.drop (k := 1) (by simp)
theorem Rst.sub (h : Rst s i r) {k : Nat} (hk : k ≤ r.length) : s.sub i (i + k) = ofN (r.take k) := by
  have := h.len
  rw [sub_ofN (by omega), h.2, Nat.add_sub_cancel_left]
end
end
end Go.Og
