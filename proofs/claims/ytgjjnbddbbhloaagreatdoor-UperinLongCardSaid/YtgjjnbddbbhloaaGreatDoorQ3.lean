/- What the last text leans on, part 4 of 6: merged out of smaller texts. No condition. -/
import Derived.KernelRfl
import Derived.Test.YtgjjnbddbbhloaaGreatDoorProg
import Derived.Test.YtgjjnbddbbhloaaGreatDoorQ2
set_option linter.all false
set_option maxRecDepth 100000
set_option maxHeartbeats 0
namespace Go.Proofs.YtgjjnbddbbhloaaGreatDoor
open Go Go.Og
noncomputable section
variable (E : List (Nat × Blk)) (D : Den) (W : DrawFn) (N : Nat)
def G104_0 : List AOper := [⟨(some 29), .faddr 4 (.tmp 3), none⟩, ⟨(some 30), .load none (.tmp 29), none⟩, ⟨(some 31), .conv (.toInt .u64) (.tmp 30), none⟩, ⟨(some 32), .mov (.tmp 0), none⟩, ⟨(some 33), .nilck (.tmp 32), none⟩, ⟨(some 34), .faddr 0 (.tmp 33), none⟩, ⟨(some 35), .load none (.tmp 34), none⟩, ⟨(some 36), .mov (.tmp 6), none⟩, ⟨(some 37), .call 185 [(.tmp 35), (.tmp 36)], none⟩, ⟨(some 38), .bin .add .none (.tmp 31) (.tmp 37), none⟩, ⟨(some 39), .conv (.toInt .i64) (.tmp 38), none⟩, ⟨(some 4), .mov (.tmp 39), none⟩]
def H104_0 : List DP := [⟨0, [3]⟩, ⟨1, [29]⟩, ⟨3, [30]⟩, ⟨0, [0]⟩, ⟨8, [32]⟩, ⟨24, [33]⟩, ⟨56, [34]⟩, ⟨0, [6]⟩, ⟨248, [35, 36]⟩, ⟨511, [31, 37]⟩, ⟨1023, [38]⟩, ⟨2047, [39]⟩]
def C104_0 : XC := (.z (.P 3 (.box 141 (.t 1))<|
.q 4 0<|
.nil)
 (.z (.f 12 3 3<|
.l 13 .bool 12<|
.m 14 13<|
.gA 14 true (.p 15 [0, 14] y13<|
.op (some 16) .bool [15, 14] (.call 184 [(.t 15)])<|
.nil) 17 14 16<|
.m 5 17<|
.nil)
 (.z (.O 19 y4 (.load (some 6) (.t 3))<|
.k 20 y37 140 [(.t 19)]<|
.m 18 20<|
.P 21 (.extract 0 (.t 18))<|
.P 22 (.extract 1 (.t 18))<|
.m 6 21<|
.m 7 22<|
.nil)
 (.seq (.block 0 (.z (.m 24 5<|
.P 25 (.un .not (.t 24))<|
.m 26 25<|
.gA 26 true (.p 27 [7, 26] (.mov (.t 7))<|
.nil) 28 26 27<|
.m 23 28<|
.nil)
 (.cond (.tmp 23) (.seq (.keep [(0, .ptr), (3, .ptr), (6, (.int .u64))] [] [] (.gdraw G104_0 H104_0 [(4, .i)]))
 .ret)
 (.z (.m 41 5<|
.P 42 (.un .not (.t 41))<|
.m 43 42<|
.gA 43 true (.p 44 [3, 43] (.faddr 0 (.t 3))<|
.op (some 45) .bool [44, 43] (.load none (.t 44))<|
.nil) 46 43 45<|
.m 47 46<|
.gA 47 true (.p 48 [3, 47] (.faddr 1 (.t 3))<|
.op (some 49) .bool [48, 47] (.load none (.t 48))<|
.nil) 50 47 49<|
.m 40 50<|
.nil)
 (.cond (.tmp 40) (.z (.m 52 0<|
.n 53 52<|
.f 54 0 53<|
.l 55 .any 54<|
.k 56 .one 106 [(.t 55), (.i 8)]<|
.k 57 (.tup [(.int .u64), .i]) 186 [(.t 56)]<|
.m 51 57<|
.P 58 (.extract 0 (.t 51))<|
.P 59 (.extract 1 (.t 51))<|
.m 8 58<|
.m 9 59<|
.nil)
 (.z (.m 60 0<|
.m 61 9<|
.b 62 .neq .none (.t 61) (.i 0)<|
.m 63 62<|
.gO 63 false (.p 64 [8, 63] y28<|
.p 65 [3, 63] (.faddr 4 (.t 3))<|
.op (some 66) .i [65, 63] (.load none (.t 65))<|
.p 67 [66, 63] (.conv (.toInt .u64) (.t 66))<|
.p 68 [67, 63] (.bin .sub .none (.con (V.int .u64 (Int.ofNat 9223372036854775807))) (.t 67))<|
.p 69 [64, 68, 63] (.bin .gtr .none (.t 64) (.t 68))<|
.nil) 70 63 69<|
.k 71 y10 100 [(.t 60), (.t 70)]<|
.nil)
 (.z (.f 72 4 3<|
.l 73 .i 72<|
.P 74 (.conv (.toInt .u64) (.t 73))<|
.m 75 8<|
.b 76 .add .none (.t 74) (.t 75)<|
.P 77 (.conv (.toInt .i64) (.t 76))<|
.m 4 77<|
.nil)
 .ret)))
 .skip)))))
 (.z (.m 79 0<|
.n 80 79<|
.f 81 0 80<|
.l 82 .any 81<|
.k 83 .one 106 [(.t 82), (.i 8)]<|
.k 84 (.tup [.i, .i]) 187 [(.t 83)]<|
.m 78 84<|
.P 85 (.extract 0 (.t 78))<|
.P 86 (.extract 1 (.t 78))<|
.m 10 85<|
.m 11 86<|
.nil)
 (.z (.m 87 0<|
.m 88 11<|
.b 89 .neq .none (.t 88) (.i 0)<|
.m 90 89<|
.gO 90 false (.op (some 91) y4 [3, 90] (.load (some 6) (.t 3))<|
.p 92 [10, 90] (.mov (.t 10))<|
.op (some 93) .bool [91, 92, 90] (.call 132 [(.t 91), (.t 92)])<|
.p 94 [5, 90] y48<|
.p 95 [93, 94, 90] (.bin .eql .bool (.t 93) (.t 94))<|
.nil) 96 90 95<|
.k 97 y10 100 [(.t 87), (.t 96)]<|
.nil)
 (.z (.m 98 10<|
.m 4 98<|
.nil)
 .ret)))))))
def A104 : XFn := ⟨99, [.ptr, y4], [(.tmp 4)], C104_0⟩
def Fin106 (E : List (Nat × Blk)) : St → Ans := fun s => resK E s [(.tmp 4)] fun l => some (oneV l, s.σ)
def C106_0 : XC := (.z (.P 2 (.box 99 (.t 0))<|
.c 4 V.nils<|
.nil)
 (.z (.p 5 [] (.alloc 34 [V.nils])<|
.nil)
 (.z (.l 6 .any 2<|
.m 7 1<|
.p 8 [5, 2] (.mkfn 190 [] [(.t 5), (.t 2)])<|
.k 9 .i 189 [(.t 6), (.t 7), (.t 8)]<|
.nil)
 (.seq (.z (.l 10 .any 2<|
.k 11 .i 114 [(.t 10)]<|
.b 12 .neq .none (.t 11) (.i 0)<|
.nil)
 (.cond (.tmp 12) (.z (.c 4 V.nils<|
.nil)
 .ret)
 .skip))
 (.z (.l 13 .any 5<|
.m 4 13<|
.nil)
 .ret)))))
def T106_0 (E : List (Nat × Blk)) (D : Den) (W : DrawFn) (a : V) (b : Int) (σ : H) : Ans :=
 nbK (V.cells a) σ fun s1 =>
 let s2 := newB s1 (.cells [V.nils]);
 ldK E s2 (H.next σ) 0 fun u3 =>
 callK (D 189 [u3, (V.int .i64 b), (V.fn 190 [] [(V.ptr (H.next s1) 0), (V.ptr (H.next σ) 0)])] s2) fun u4 s5 =>
 rtInt .i64 u4 fun x6 =>
 ldK E s5 (H.next σ) 0 fun u7 =>
 callK (D 114 [u7] s5) fun u8 s9 =>
 rtInt .i64 u8 fun x10 =>
 condK (not (eqF x10 (Int.ofNat 0))) (
 some (V.nils, s9)) (
 ldK E s9 (H.next s1) 0 fun u11 =>
 some (u11, s9))
def S106_0 (a : V) (b : Int) (σ : H) : St := ⟨[(0, a), (1, (V.int .i64 b))], [], [], σ⟩
theorem P106_0 (a : V) (b : Int) (σ : H) :
 denC E D W N (C106_0 ) (S106_0 a b σ) (Fin106 E) nX (Fin106 E) =
 T106_0 E D W  a b σ := by kernel_rfl
def J106_0 (E : List (Nat × Blk)) (D : Den) (W : DrawFn) (N : Nat) := T106_0 E D W
theorem JE106_0 (a : V) (b : Int) (σ : H) :
 denC E D W N C106_0 (S106_0 a b σ) (Fin106 E) nX (Fin106 E) = J106_0 E D W N a b σ := by
 refine (P106_0 E D W N   a b σ).trans ?_
 kernel_rfl
def F106 (args : List V) (σ : H) : Ans :=
 rtCons args fun x1 l2 =>
 xcI .i64 l2 fun x5 l4 =>
 rtNil l4 (
 J106_0 E D W N x1 x5 σ)
def A106 : XFn := ⟨14, y44, [(.tmp 4)], C106_0⟩
theorem FE106 (args : List V) (σ : H) : runX E D W N A106 args σ = F106 E D W N args σ := by
 unfold F106
 simp only [← JE106_0]
 kernel_rfl
def G107_0 : List AOper := [⟨(some 27), .mov (.tmp 2), none⟩, ⟨(some 28), .faddr 4 (.tmp 5), none⟩, ⟨(some 29), .load none (.tmp 28), none⟩, ⟨(some 30), .conv (.toInt .u64) (.tmp 29), none⟩, ⟨(some 31), .mov (.tmp 0), none⟩, ⟨(some 32), .nilck (.tmp 31), none⟩, ⟨(some 33), .faddr 0 (.tmp 32), none⟩, ⟨(some 34), .load none (.tmp 33), none⟩, ⟨(some 35), .mov (.tmp 9), none⟩, ⟨(some 36), .call 185 [(.tmp 34), (.tmp 35)], none⟩, ⟨(some 37), .bin .add .none (.tmp 30) (.tmp 36), none⟩, ⟨(some 38), .conv (.toInt .i64) (.tmp 37), none⟩, ⟨(some 39), .callv (.tmp 27) [(.tmp 38)], none⟩]
def H107_0 : List DP := [⟨0, [2]⟩, ⟨0, [5]⟩, ⟨2, [28]⟩, ⟨6, [29]⟩, ⟨0, [0]⟩, ⟨16, [31]⟩, ⟨48, [32]⟩, ⟨112, [33]⟩, ⟨0, [9]⟩, ⟨496, [34, 35]⟩, ⟨1022, [30, 36]⟩, ⟨2046, [37]⟩, ⟨4095, [27, 38]⟩]
def G107_1 : List AOper := [⟨(some 40), .mov (.tmp 0), none⟩, ⟨(some 41), .load (some 6) (.tmp 5), none⟩, ⟨(some 42), .mov (.tmp 3), none⟩, ⟨(some 43), .callv (.tmp 42) [], none⟩, ⟨(some 44), .call 132 [(.tmp 41), (.tmp 43)], none⟩, ⟨(some 45), .mov (.tmp 8), none⟩, ⟨(some 46), .bin .eql .bool (.tmp 44) (.tmp 45), none⟩, ⟨(some 47), .call 100 [(.tmp 40), (.tmp 46)], none⟩]
def H107_1 : List DP := [⟨0, [0]⟩, ⟨0, [5]⟩, ⟨0, [3]⟩, ⟨4, [42]⟩, ⟨14, [41, 43]⟩, ⟨0, [8]⟩, ⟨62, [44, 45]⟩, ⟨127, [40, 46]⟩]
def Fin107 (E : List (Nat × Blk)) : St → Ans := fun s => resK E s [] fun l => some (oneV l, s.σ)
def C107_0 : XC := (.z (.P 5 (.box 141 (.t 1))<|
.nil)
 (.z (.f 11 3 5<|
.l 12 .bool 11<|
.m 13 12<|
.gA 13 true (.p 14 [0, 13] y13<|
.op (some 15) .bool [14, 13] (.call 184 [(.t 14)])<|
.nil) 16 13 15<|
.m 8 16<|
.nil)
 (.seq (.z (.O 18 y4 (.load (some 6) (.t 5))<|
.k 19 y37 150 [(.t 18)]<|
.m 17 19<|
.P 20 (.extract 0 (.t 17))<|
.P 21 (.extract 1 (.t 17))<|
.m 9 20<|
.m 10 21<|
.nil)
 (.z (.m 22 10<|
.m 23 22<|
.gA 23 true (.p 24 [8, 23] y28<|
.p 25 [24, 23] (.un .not (.t 24))<|
.nil) 26 23 25<|
.nil)
 (.cond (.tmp 26) (.seq (.keep [(0, .ptr), (2, .any), (5, .ptr), (9, (.int .u64))] [] [] (.gdraw G107_0 H107_0 []))
 .ret)
 .skip)))
 (.keep [(0, .ptr), (3, .any), (5, .ptr), (8, .bool)] [] [] (.gdraw G107_1 H107_1 [])))))
def T107_0 (a b : Nat) (c d e f : Bool) (g h : Int) (i j : V) (σ : H) : Ans :=
 nbK [(V.bool c), (V.bool d), (V.bool e), (V.bool f), (V.int .i64 g), (V.int .i64 h)] σ fun s1 =>
 ldK E s1 (H.next σ) 3 fun u2 =>
 rtBool u2 fun x3 =>
 joinB (fun c4 s5 =>
 ldnK E s5 (H.next σ) 0 6 fun l7 =>
 xcB l7 fun x10 l9 =>
 xcB l9 fun x13 l12 =>
 xcB l12 fun x16 l15 =>
 xcB l15 fun x19 l18 =>
 xcI .i64 l18 fun x22 l21 =>
 xcI .i64 l21 fun x25 l24 =>
 rtNil l24 (
 callK (D 150 [(V.agg [(V.bool x10), (V.bool x13), (V.bool x16), (V.bool x19), (V.int .i64 x22), (V.int .i64 x25)])] s5) fun u26 s27 =>
 rtTup u26 fun l28 =>
 xcI .u64 l28 fun x31 l30 =>
 xcB l30 fun x34 l33 =>
 rtNil l33 (
 joinB (fun c35 s36 =>
 condK c35 (
 gdrawK (W G107_0 H107_0 [(0, (V.ptr a b)), (2, i), (5, (V.ptr (H.next σ) 0)), (9, (V.int .u64 x31))] s36) fun e38 s39 =>
 some ((V.tup []), s39)) (
 gdrawK (W G107_1 H107_1 [(0, (V.ptr a b)), (3, j), (5, (V.ptr (H.next σ) 0)), (8, (V.bool c4))] s36) fun e40 s41 =>
 some ((V.tup []), s41))) fun k37 =>
 condK x34 (
 k37 (not c4) s27) (
 k37 false s27)))) fun k6 =>
 condK x3 (
 callK (D 184 [(V.ptr a b)] s1) fun u42 s43 =>
 rtBool u42 fun x44 =>
 k6 x44 s43) (
 k6 false s1)
def S107_0 (a b : Nat) (c d e f : Bool) (g h : Int) (i j : V) (σ : H) : St := ⟨[(0, (V.ptr a b)), (1, (V.agg [(V.bool c), (V.bool d), (V.bool e), (V.bool f), (V.int .i64 g), (V.int .i64 h)])), (2, i), (3, j)], [], [], σ⟩
theorem P107_0 (a b : Nat) (c d e f : Bool) (g h : Int) (i j : V) (σ : H) :
 denC E D W N (C107_0 ) (S107_0 a b c d e f g h i j σ) (Fin107 E) nX (Fin107 E) =
 T107_0 E D W  a b c d e f g h i j σ := by kernel_rfl
def J107_0 (E : List (Nat × Blk)) (D : Den) (W : DrawFn) (N : Nat) := T107_0 E D W
theorem JE107_0 (a b : Nat) (c d e f : Bool) (g h : Int) (i j : V) (σ : H) :
 denC E D W N C107_0 (S107_0 a b c d e f g h i j σ) (Fin107 E) nX (Fin107 E) = J107_0 E D W N a b c d e f g h i j σ := by
 refine (P107_0 E D W N   a b c d e f g h i j σ).trans ?_
 kernel_rfl
def F107 (args : List V) (σ : H) : Ans :=
 rtCons args fun x1 l2 =>
 rtPtr x1 fun b3 o4 =>
 rtCons l2 fun x5 l6 =>
 rtAgg x5 fun l7 =>
 xcB l7 fun x10 l9 =>
 xcB l9 fun x13 l12 =>
 xcB l12 fun x16 l15 =>
 xcB l15 fun x19 l18 =>
 xcI .i64 l18 fun x22 l21 =>
 xcI .i64 l21 fun x25 l24 =>
 rtNil l24 (
 rtCons l6 fun x26 l27 =>
 rtCons l27 fun x28 l29 =>
 rtNil l29 (
 J107_0 E D W N b3 o4 x10 x13 x16 x19 x22 x25 x26 x28 σ))
def A107 : XFn := ⟨48, [.ptr, y4, .any, .any], [], C107_0⟩
theorem FE107 (args : List V) (σ : H) : runX E D W N A107 args σ = F107 E D W N args σ := by
 unfold F107
 simp only [← JE107_0]
 kernel_rfl
def Fin109 (E : List (Nat × Blk)) : St → Ans := fun s => resK E s [(.tmp 4)] fun l => some (oneV l, s.σ)
def C109_0 : XC := (.z (.c 4 V.nils<|
.nil)
 (.seq (.z (.m 5 0<|
.k 6 .i 114 [(.t 5)]<|
.b 7 .neq .none (.t 6) (.i 0)<|
.nil)
 (.cond (.tmp 7) (.z (.c 4 V.nils<|
.nil)
 .ret)
 .skip))
 (.z (.m 8 0<|
.n 9 8<|
.f 10 0 9<|
.l 11 .any 10<|
.m 12 1<|
.k 13 .one 191 [(.t 11), (.t 12)]<|
.m 4 13<|
.nil)
 .ret)))
def T109_0 (E : List (Nat × Blk)) (D : Den) (W : DrawFn) (a b : Nat) (c : Int) (σ : H) : Ans :=
 callK (D 114 [(V.ptr a b)] σ) fun u1 s2 =>
 rtInt .i64 u1 fun x3 =>
 condK (not (eqF x3 (Int.ofNat 0))) (
 some (V.nils, s2)) (
 ldK E s2 a b fun u4 =>
 callK (D 191 [u4, (V.int .i64 c)] s2) fun u5 s6 =>
 rtOne u5 (
 some (u5, s6)))
def S109_0 (a b : Nat) (c : Int) (σ : H) : St := ⟨[(0, (V.ptr a b)), (1, (V.int .i64 c))], [], [], σ⟩
theorem P109_0 (a b : Nat) (c : Int) (σ : H) :
 denC E D W N (C109_0 ) (S109_0 a b c σ) (Fin109 E) nX (Fin109 E) =
 T109_0 E D W  a b c σ := by kernel_rfl
def J109_0 (E : List (Nat × Blk)) (D : Den) (W : DrawFn) (N : Nat) := T109_0 E D W
theorem JE109_0 (a b : Nat) (c : Int) (σ : H) :
 denC E D W N C109_0 (S109_0 a b c σ) (Fin109 E) nX (Fin109 E) = J109_0 E D W N a b c σ := by
 refine (P109_0 E D W N   a b c σ).trans ?_
 kernel_rfl
def F109 (args : List V) (σ : H) : Ans :=
 rtCons args fun x1 l2 =>
 rtPtr x1 fun b3 o4 =>
 xcI .i64 l2 fun x7 l6 =>
 rtNil l6 (
 J109_0 E D W N b3 o4 x7 σ)
def A109 : XFn := ⟨14, [.ptr, .i], [(.tmp 4)], C109_0⟩
theorem FE109 (args : List V) (σ : H) : runX E D W N A109 args σ = F109 E D W N args σ := by
 unfold F109
 simp only [← JE109_0]
 kernel_rfl
def Fin110 (E : List (Nat × Blk)) : St → Ans := fun s => resK E s [(.tmp 2)] fun l => some (oneV l, s.σ)
def C110_0 : XC := (.z (.q 2 0<|
.nil)
 (.z (.l 3 .any 0<|
.n 4 3<|
.f 5 0 4<|
.l 6 .any 5<|
.k 7 .one 106 [(.t 6), (.i 70000)]<|
.f 8 2 1<|
.w 1 8 7<|
.nil)
 (.z (.f 9 2 1<|
.l 10 .any 9<|
.u 11 10<|
.m 2 11<|
.nil)
 .ret)))
def T110_0 (E : List (Nat × Blk)) (D : Den) (W : DrawFn) (a b : V) (σ : H) : Ans :=
 rtPtr a fun b1 o2 =>
 ldK E σ b1 o2 fun u3 =>
 rtPtr u3 fun b4 o5 =>
 ldK E σ b4 o5 fun u6 =>
 callK (D 106 [u6, (V.int .i64 (Int.ofNat 70000))] σ) fun u7 s8 =>
 rtOne u7 (
 rtPtr b fun b9 o10 =>
 stK 1 b9 (Nat.add o10 2) u7 s8 fun s11 =>
 rtPtr b fun b12 o13 =>
 ldK E s11 b12 (Nat.add o13 2) fun u14 =>
 slenK u14 fun n15 =>
 some ((V.int .i64 (Int.ofNat n15)), s11))
def S110_0 (a b : V) (σ : H) : St := ⟨[(0, a), (1, b)], [], [], σ⟩
theorem P110_0 (a b : V) (σ : H) :
 denC E D W N (C110_0 ) (S110_0 a b σ) (Fin110 E) nX (Fin110 E) =
 T110_0 E D W  a b σ := by kernel_rfl
def J110_0 (E : List (Nat × Blk)) (D : Den) (W : DrawFn) (N : Nat) := T110_0 E D W
theorem JE110_0 (a b : V) (σ : H) :
 denC E D W N C110_0 (S110_0 a b σ) (Fin110 E) nX (Fin110 E) = J110_0 E D W N a b σ := by
 refine (P110_0 E D W N   a b σ).trans ?_
 kernel_rfl
def F110 (args : List V) (σ : H) : Ans :=
 rtCons args fun x1 l2 =>
 rtCons l2 fun x3 l4 =>
 rtNil l4 (
 J110_0 E D W N x1 x3 σ)
def A110 : XFn := ⟨12, y38, [(.tmp 2)], C110_0⟩
theorem FE110 (args : List V) (σ : H) : runX E D W N A110 args σ = F110 E D W N args σ := by
 unfold F110
 simp only [← JE110_0]
 kernel_rfl
def G113_0 : List AOper := [⟨(some 18), .faddr 0 (.tmp 7), none⟩, ⟨(some 19), .load none (.tmp 18), none⟩, ⟨(some 20), .faddr 9 (.tmp 7), none⟩, ⟨(some 21), .load none (.tmp 20), none⟩, ⟨(some 22), .len false (.tmp 21), none⟩, ⟨(some 23), .mkslice 38 6 96 [(V.int .i64 (Int.ofNat 0)), (V.int .i64 (Int.ofNat 0)), V.nils, V.nils, (V.int .i64 (Int.ofNat 0)), V.nils] (.tmp 22) (.tmp 22), none⟩, ⟨(some 24), .build [(V.int .i64 (Int.ofNat 0)), (V.int .i64 (Int.ofNat 0)), V.nils, V.nils, (V.int .i64 (Int.ofNat 0)), V.nils] [(0, 1, (.tmp 19)), (3, 1, (.tmp 23))], none⟩, ⟨(some 8), .alloc 38 [(V.int .i64 (Int.ofNat 0)), (V.int .i64 (Int.ofNat 0)), V.nils, V.nils, (V.int .i64 (Int.ofNat 0)), V.nils], none⟩, ⟨none, .store 6 (.tmp 8) (.tmp 24), none⟩]
def H113_0 : List DP := [⟨0, [7]⟩, ⟨1, [18]⟩, ⟨0, [7]⟩, ⟨4, [20]⟩, ⟨12, [21]⟩, ⟨28, [22, 22]⟩, ⟨63, [19, 23]⟩, ⟨0, []⟩, ⟨255, [8, 24]⟩]
def G113_1 : List AOper := [⟨(some 42), .mov (.tmp 0), none⟩, ⟨(some 43), .load (some 13) (.tmp 7), none⟩, ⟨(some 44), .mov (.tmp 0), none⟩, ⟨(some 45), .nilck (.tmp 44), none⟩, ⟨(some 46), .faddr 1 (.tmp 45), none⟩, ⟨(some 47), .load (some 4) (.tmp 46), none⟩, ⟨(some 48), .mov (.tmp 1), none⟩, ⟨(some 49), .call 154 [(.tmp 47), (.tmp 48)], none⟩, ⟨(some 50), .faddr 10 (.tmp 7), none⟩, ⟨(some 51), .load none (.tmp 50), none⟩, ⟨(some 52), .sliceSl 1 (.tmp 49) none (some (.tmp 51)) none, none⟩, ⟨(some 53), .mov (.tmp 2), none⟩, ⟨(some 54), .call 199 [(.tmp 42), (.tmp 43), (.tmp 8), (.tmp 52), (.tmp 53)], none⟩]
def H113_1 : List DP := [⟨0, [0]⟩, ⟨0, [7]⟩, ⟨0, [0]⟩, ⟨4, [44]⟩, ⟨12, [45]⟩, ⟨28, [46]⟩, ⟨0, [1]⟩, ⟨124, [47, 48]⟩, ⟨0, [7]⟩, ⟨256, [50]⟩, ⟨1020, [49, 51]⟩, ⟨0, [2]⟩, ⟨4095, [42, 43, 8, 52, 53]⟩]
def C113_0 (cc1 : XC) : XC := (.z (.p 6 [] y27<|
.nil)
 (.z (.m 10 0<|
.n 11 10<|
.f 12 1 11<|
.f 13 3 12<|
.l 14 .any 13<|
.m 15 1<|
.s 16 13 14 15<|
.O 17 y1 (.load (some 13) (.t 16))<|
.p 7 [] y17<|
.op none y1 [7, 17] (.store 13 (.t 7) (.t 17))<|
.nil)
 (.seq (.keep [(0, .ptr), (1, .i), (2, .i), (6, .ptr), (7, .ptr)] [] [] (.gdraw G113_0 H113_0 [(0, .ptr), (1, .i), (2, .i), (6, .ptr), (7, .ptr), (8, .ptr)]))
 (.seq (.draw (.m 25 0<|
.m 26 0<|
.n 27 26<|
.f 28 5 27<|
.l 29 .any 28<|
.f 30 9 7<|
.l 31 .any 30<|
.u 32 31<|
.k 33 .bool 101 [(.t 29), (.t 32)]<|
.P 34 (.un .not (.t 33))<|
.k 35 y10 100 [(.t 25), (.t 34)]<|
.nil) [0, 0, 2, 6, 14, 0, 32, 96, 254, 510, 1023])
 (.z (.f 36 11 7<|
.l 37 .bool 36<|
.m 38 37<|
.gA 38 true (.p 39 [0, 38] y13<|
.op (some 40) .bool [39, 38] (.call 184 [(.t 39)])<|
.nil) 41 38 40<|
.m 9 41<|
.nil)
 (.seq (.keep [(0, .ptr), (1, .i), (2, .i), (6, .ptr), (7, .ptr), (8, .ptr), (9, .bool)] [] [] (.gdraw G113_1 H113_1 [(0, .ptr), (1, .i), (2, .i), (6, .ptr), (8, .ptr), (9, .bool)]))
 (.seq (.z (.m 55 9<|
.m 56 55<|
.gA 56 true (.p 57 [0, 56] y13<|
.op (some 58) .bool [57, 56] (.call 102 [(.t 57)])<|
.nil) 59 56 58<|
.nil)
 (.cond (.tmp 59) (.ops (.m 60 0<|
.m 61 1<|
.m 62 2<|
.k 63 y10 200 [(.t 60), (.t 61), (.t 8), (.t 62)]<|
.nil))
 .skip))
 (.keep [(6, .ptr), (8, .ptr)] [] [] cc1))))))))
def C113_1 : XC := (.z (.O 64 y2 (.load (some 6) (.t 8))<|
.op none y2 [6, 64] (.store 6 (.t 6) (.t 64))<|
.nil)
 .ret)
def A113 : XFn := ⟨65, [.ptr, .i, .i], [(.cell 6 (some 6))], (C113_0 C113_1)⟩
def Fin114 (E : List (Nat × Blk)) : St → Ans := fun s => resK E s [(.tmp 2)] fun l => some (oneV l, s.σ)
def C114_0 : XC := (.z (.q 2 0<|
.nil)
 (.seq (.block 0 (.z (.m 4 0<|
.b 5 .eql .ptr (.t 4) y34<|
.m 3 5<|
.nil)
 (.cond (.tmp 3) (.z (.q 2 2<|
.nil)
 .ret)
 (.z (.m 7 0<|
.n 8 7<|
.f 9 1 8<|
.l 10 .i 9<|
.b 11 .neq .none (.t 10) (.i 0)<|
.m 6 11<|
.nil)
 (.cond (.tmp 6) (.z (.m 12 0<|
.n 13 12<|
.f 14 1 13<|
.l 15 .i 14<|
.m 2 15<|
.nil)
 .ret)
 .skip)))))
 (.z (.m 16 0<|
.n 17 16<|
.f 18 0 17<|
.l 19 .any 18<|
.k 20 .i 201 [(.t 19)]<|
.m 2 20<|
.nil)
 .ret)))
def T114_0 (E : List (Nat × Blk)) (D : Den) (W : DrawFn) (a : V) (σ : H) : Ans :=
 eqK .ptr a V.nilp fun c1 =>
 condK c1 (
 some ((V.int .i64 (Int.ofNat 2)), σ)) (
 rtPtr a fun b2 o3 =>
 ldK E σ b2 (Nat.add o3 1) fun u4 =>
 rtInt .i64 u4 fun x5 =>
 condK (not (eqF x5 (Int.ofNat 0))) (
 rtPtr a fun b6 o7 =>
 ldK E σ b6 (Nat.add o7 1) fun u8 =>
 rtInt .i64 u8 fun x9 =>
 some ((V.int .i64 x9), σ)) (
 rtPtr a fun b10 o11 =>
 ldK E σ b10 o11 fun u12 =>
 callK (D 201 [u12] σ) fun u13 s14 =>
 rtInt .i64 u13 fun x15 =>
 some ((V.int .i64 x15), s14)))
def S114_0 (a : V) (σ : H) : St := ⟨[(0, a)], [], [], σ⟩
theorem P114_0 (a : V) (σ : H) :
 denC E D W N (C114_0 ) (S114_0 a σ) (Fin114 E) nX (Fin114 E) =
 T114_0 E D W  a σ := by kernel_rfl
def J114_0 (E : List (Nat × Blk)) (D : Den) (W : DrawFn) (N : Nat) := T114_0 E D W
theorem JE114_0 (a : V) (σ : H) :
 denC E D W N C114_0 (S114_0 a σ) (Fin114 E) nX (Fin114 E) = J114_0 E D W N a σ := by
 refine (P114_0 E D W N   a σ).trans ?_
 kernel_rfl
def F114 (args : List V) (σ : H) : Ans :=
 rtCons args fun x1 l2 =>
 rtNil l2 (
 J114_0 E D W N x1 σ)
def A114 : XFn := ⟨21, [.any], [(.tmp 2)], C114_0⟩
theorem FE114 (args : List V) (σ : H) : runX E D W N A114 args σ = F114 E D W N args σ := by
 unfold F114
 simp only [← JE114_0]
 kernel_rfl
def Fin115 (E : List (Nat × Blk)) : St → Ans := fun s => resK E s [(.tmp 2)] fun l => some (oneV l, s.σ)
def C115_0 : XC := (.z (.q 2 0<|
.nil)
 (.seq (.z (.m 3 0<|
.b 4 .eql .ptr (.t 3) y34<|
.nil)
 y25)
 (.z (.m 5 0<|
.n 6 5<|
.f 7 0 6<|
.l 8 .any 7<|
.k 9 .i 202 [(.t 8)]<|
.m 2 9<|
.nil)
 .ret)))
def T115_0 (E : List (Nat × Blk)) (D : Den) (W : DrawFn) (a : V) (σ : H) : Ans :=
 eqK .ptr a V.nilp fun c1 =>
 condK c1 (
 some ((V.int .i64 (Int.ofNat 0)), σ)) (
 rtPtr a fun b2 o3 =>
 ldK E σ b2 o3 fun u4 =>
 callK (D 202 [u4] σ) fun u5 s6 =>
 rtInt .i64 u5 fun x7 =>
 some ((V.int .i64 x7), s6))
def S115_0 (a : V) (σ : H) : St := ⟨[(0, a)], [], [], σ⟩
theorem P115_0 (a : V) (σ : H) :
 denC E D W N (C115_0 ) (S115_0 a σ) (Fin115 E) nX (Fin115 E) =
 T115_0 E D W  a σ := by kernel_rfl
def J115_0 (E : List (Nat × Blk)) (D : Den) (W : DrawFn) (N : Nat) := T115_0 E D W
theorem JE115_0 (a : V) (σ : H) :
 denC E D W N C115_0 (S115_0 a σ) (Fin115 E) nX (Fin115 E) = J115_0 E D W N a σ := by
 refine (P115_0 E D W N   a σ).trans ?_
 kernel_rfl
def F115 (args : List V) (σ : H) : Ans :=
 rtCons args fun x1 l2 =>
 rtNil l2 (
 J115_0 E D W N x1 σ)
def A115 : XFn := ⟨10, [.any], [(.tmp 2)], C115_0⟩
theorem FE115 (args : List V) (σ : H) : runX E D W N A115 args σ = F115 E D W N args σ := by
 unfold F115
 simp only [← JE115_0]
 kernel_rfl
def q116a : List (Nat × List XTy) := [(10, [.i, .str, .bool, .i, .i, .bool, .bool, .bool, .bool, .i, .i, .any, .any, .i, .bool, .i])]
def Fin116 (E : List (Nat × Blk)) : St → Ans := fun s => resK E s [(.tmp 2)] fun l => some (oneV l, s.σ)
def C116_0 : XC := (.z (.q 2 0<|
.nil)
 (.seq (.z (.m 6 0<|
.k 7 .i 201 [(.t 6)]<|
.m 3 7<|
.nil)
 (.z (.m 8 3<|
.b 9 .neq .none (.t 8) (.i 0)<|
.nil)
 (.cond (.tmp 9) (.z (.m 10 3<|
.m 2 10<|
.nil)
 .ret)
 .skip)))
 (.z (.m 11 0<|
.n 12 11<|
.f 13 0 12<|
.O 14 (.agg y44) (.load (some 2) (.t 13))<|
.p 4 [] (.alloc 226 [V.nils, y0])<|
.op none (.agg y44) [4, 14] (.store 2 (.t 4) (.t 14))<|
.nil)
 (.seq (.z (.k 15 .i 203 [(.t 4)]<|
.m 5 15<|
.nil)
 (.z (.m 16 5<|
.b 17 .geq .none (.t 16) (.i 8)<|
.m 18 17<|
.gO 18 false (.p 19 [5, 18] y48<|
.op (some 20) (.int .u32) [4, 19, 18] (.call 204 [(.t 4), (.t 19)])<|
.p 21 [20, 18] (.bin .neq .none (.t 20) (.con y39))<|
.nil) 22 18 21<|
.nil)
 (.cond (.tmp 22) (.z (.q 2 4<|
.nil)
 .ret)
 .skip)))
 (.z (.q 2 0<|
.nil)
 .ret)))))
def T116_0 (E : List (Nat × Blk)) (D : Den) (W : DrawFn) (a b : Nat) (σ : H) : Ans :=
 callK (D 201 [(V.ptr a b)] σ) fun u1 s2 =>
 rtInt .i64 u1 fun x3 =>
 condK (not (eqF x3 (Int.ofNat 0))) (
 some ((V.int .i64 x3), s2)) (
 ldnK E s2 a b 2 fun l4 =>
 rtCons l4 fun x5 l6 =>
 xcI .i64 l6 fun x9 l8 =>
 rtNil l8 (
 let s10 := newB s2 (.cells [V.nils, (V.int .i64 (Int.ofNat 0))]);
 stK 2 (H.next s2) 0 (V.agg [x5, (V.int .i64 x9)]) s10 fun s11 =>
 callK (D 203 [(V.ptr (H.next s2) 0)] s11) fun u12 s13 =>
 rtInt .i64 u12 fun x14 =>
 joinB (fun c15 s16 =>
 condK c15 (
 some ((V.int .i64 (Int.ofNat 4)), s16)) (
 some ((V.int .i64 (Int.ofNat 0)), s16))) fun k17 =>
 condK (leF (Int.ofNat 8) x14) (
 k17 true s13) (
 callK (D 204 [(V.ptr (H.next s2) 0), (V.int .i64 x14)] s13) fun u18 s19 =>
 rtInt .u32 u18 fun x20 =>
 k17 (not (eqF x20 (Int.ofNat 0))) s19)))
def S116_0 (a b : Nat) (σ : H) : St := ⟨[(0, (V.ptr a b))], [], [], σ⟩
theorem P116_0 (a b : Nat) (σ : H) :
 denC E D W N (C116_0 ) (S116_0 a b σ) (Fin116 E) nX (Fin116 E) =
 T116_0 E D W  a b σ := by kernel_rfl
def J116_0 (E : List (Nat × Blk)) (D : Den) (W : DrawFn) (N : Nat) := T116_0 E D W
theorem JE116_0 (a b : Nat) (σ : H) :
 denC E D W N C116_0 (S116_0 a b σ) (Fin116 E) nX (Fin116 E) = J116_0 E D W N a b σ := by
 refine (P116_0 E D W N   a b σ).trans ?_
 kernel_rfl
def F116 (args : List V) (σ : H) : Ans :=
 rtCons args fun x1 l2 =>
 rtPtr x1 fun b3 o4 =>
 rtNil l2 (
 J116_0 E D W N b3 o4 σ)
def A116 : XFn := ⟨23, [.ptr], [(.tmp 2)], C116_0⟩
theorem FE116 (args : List V) (σ : H) : runX E D W N A116 args σ = F116 E D W N args σ := by
 unfold F116
 simp only [← JE116_0]
 kernel_rfl
def C117_0 (cc1 : XC) (cc2 : XC) : XC := (.z (.q 4 0<|
.nil)
 (.seq (.block 0 (.loop [(0, .str), (1, .i)] [] [] cc2))
 (.keep [(1, .i)] [] [] cc1)))
def C117_1 : XC := (.z (.m 74 1<|
.m 4 74<|
.nil)
 .ret)
def C117_2 (cc3 : XC) : XC := (.seq (.z (.m 5 1<|
.m 6 0<|
.P 7 (.len true (.t 6))<|
.b 8 .lss .none (.t 5) (.t 7)<|
.nil)
 y52)
 (.block 1 (.block 2 (.z (.m 11 0<|
.m 12 1<|
.P 13 (.idxStr (.t 11) (.t 12))<|
.b 14 .eql .none (.t 13) (.con (V.int .u8 (Int.ofNat 32)))<|
.m 15 14<|
.gO 15 false (.p 16 [0, 15] y13<|
.p 17 [1, 15] y16<|
.p 18 [16, 17, 15] (.idxStr (.t 16) (.t 17))<|
.p 19 [18, 15] (.bin .eql .none (.t 18) (.con (V.int .u8 (Int.ofNat 9))))<|
.nil) 20 15 19<|
.m 21 20<|
.gO 21 false (.p 22 [0, 21] y13<|
.p 23 [1, 21] y16<|
.p 24 [22, 23, 21] (.idxStr (.t 22) (.t 23))<|
.p 25 [24, 21] (.bin .eql .none (.t 24) (.con (V.int .u8 (Int.ofNat 10))))<|
.nil) 26 21 25<|
.m 27 26<|
.gO 27 false (.p 28 [0, 27] y13<|
.p 29 [1, 27] y16<|
.p 30 [28, 29, 27] (.idxStr (.t 28) (.t 29))<|
.p 31 [30, 27] (.bin .eql .none (.t 30) (.con (V.int .u8 (Int.ofNat 13))))<|
.nil) 32 27 31<|
.m 10 32<|
.nil)
 (.cond (.tmp 10) (.ops (.m 33 1<|
.b 34 .add .none (.t 33) (.i 1)<|
.m 1 34<|
.nil))
 (.z (.m 36 0<|
.m 37 1<|
.P 38 (.idxStr (.t 36) (.t 37))<|
.b 39 .eql .none (.t 38) y19<|
.m 40 39<|
.gA 40 true (.p 41 [0, 40] y13<|
.p 42 [1, 40] y16<|
.p 43 [42, 40] (.bin .add .none (.t 42) (.i 1))<|
.op (some 44) (.int .u8) [41, 43, 40] (.call 205 [(.t 41), (.t 43)])<|
.p 45 [44, 40] (.bin .eql .none (.t 44) y19)<|
.nil) 46 40 45<|
.m 35 46<|
.nil)
 (.cond (.tmp 35) (.z (.m 47 1<|
.b 48 .add .none (.t 47) (.i 2)<|
.m 1 48<|
.nil)
 (.block 3 (.loop [(0, .str), (1, .i)] [] [] cc3)))
 (.z (.m 9 1<|
.m 4 9<|
.nil)
 .ret))))))))
def C117_3 : XC := (.seq (.z (.m 49 1<|
.m 50 0<|
.P 51 (.len true (.t 50))<|
.b 52 .lss .none (.t 49) (.t 51)<|
.m 53 52<|
.gA 53 true (.p 54 [0, 53] y13<|
.p 55 [1, 53] y16<|
.p 56 [54, 55, 53] (.idxStr (.t 54) (.t 55))<|
.p 57 [56, 53] (.bin .neq .none (.t 56) (.con (V.int .u8 (Int.ofNat 10))))<|
.nil) 58 53 57<|
.nil)
 (.cond (.tmp 58) .skip
 (.exit 3)))
 (.block 4 (.seq (.z (.m 59 0<|
.m 60 1<|
.P 61 (.idxStr (.t 59) (.t 60))<|
.b 62 .eql .none (.t 61) y19<|
.m 63 62<|
.gA 63 true (.p 64 [0, 63] y13<|
.p 65 [1, 63] y16<|
.p 66 [65, 63] (.bin .add .none (.t 65) (.i 1))<|
.op (some 67) (.int .u8) [64, 66, 63] (.call 205 [(.t 64), (.t 66)])<|
.p 68 [67, 63] (.bin .eql .none (.t 67) y19)<|
.nil) 69 63 68<|
.nil)
 (.cond (.tmp 69) (.z (.m 70 1<|
.b 71 .add .none (.t 70) (.i 2)<|
.m 1 71<|
.nil)
 (.exit 3))
 .skip))
 (.ops (.m 72 1<|
.b 73 .add .none (.t 72) (.i 1)<|
.m 1 73<|
.nil)))))
def A117 : XFn := ⟨75, [.str, .i], [(.tmp 4)], (C117_0 C117_1 (C117_2 C117_3))⟩
def C118_0 (cc1 : XC) (cc2 : XC) : XC := (.z (.pal 4 [] 121 [y0, y7, y0]<|
.q 5 0<|
.nil)
 (.z (.m 10 1<|
.op (some 11) y8 [10] (.build [y0, y7, y0] [(2, 1, (.t 10))])<|
.pal 6 [] 121 [y0, y7, y0]<|
.op none y8 [6, 11] (.store 3 (.t 6) (.t 11))<|
.nil)
 (.z (.m 12 0<|
.m 13 1<|
.P 14 (.idxStr (.t 12) (.t 13))<|
.m 7 14<|
.nil)
 (.z (.c 8 y21<|
.nil)
 (.seq (.block 0 (.z (.m 32 7<|
.k 33 .bool 206 [(.t 32)]<|
.m 31 33<|
.nil)
 (.cond (.tmp 31) (.z (.m 34 0<|
.m 35 1<|
.k 36 .i 207 [(.t 34), (.t 35)]<|
.m 8 36<|
.nil)
 (.seq (.z (.m 37 8<|
.b 38 .lss .none (.t 37) (.i 0)<|
.nil)
 (.cond (.tmp 38) (.z (.O 39 y8 (.load (some 3) (.t 6))<|
.op none y8 [4, 39] (.store 3 (.t 4) (.t 39))<|
.c 5 y21<|
.nil)
 .ret)
 .skip))
 (.seq (.draw (.m 40 0<|
.m 41 1<|
.m 42 8<|
.p 43 [40, 41, 42] (.sliceStr (.t 40) (some (.t 41)) (some (.t 42)))<|
.f 44 0 6<|
.op none .any [44] (.store 1 (.t 44) (.i 2))<|
.f 45 1 6<|
.w 1 45 43<|
.nil) [0, 0, 0, 7, 0, 16, 63, 127])
 (.seq (.z (.m 46 7<|
.b 47 .leq .none (.t 46) (.con (V.int .u8 (Int.ofNat 90)))<|
.nil)
 (.cond (.tmp 47) (.ops (.f 48 0 6<|
.op none .any [48] (.store 1 (.t 48) (.i 1))<|
.nil))
 .skip))
 (.keep [(8, .i)] [4, 6] [(4, [.i, .str, .i]), (6, [.i, .str, .i])] cc2)))))
 (.z (.m 54 7<|
.k 55 .bool 209 [(.t 54)]<|
.m 56 55<|
.gO 56 false (.p 57 [7, 56] (.mov (.t 7))<|
.p 58 [57, 56] (.bin .eql .none (.t 57) y19)<|
.p 59 [58, 56] (.mov (.t 58))<|
.grp 59 true (.p 60 [0, 59] y13<|
.p 61 [1, 59] y16<|
.p 62 [61, 59] (.bin .add .none (.t 61) (.i 1))<|
.op (some 63) (.int .u8) [60, 62, 59] (.call 205 [(.t 60), (.t 62)])<|
.op (some 64) .bool [63, 59] (.call 209 [(.t 63)])<|
.nil) 65 [59, 64, 56] (.t 59) (.t 64) y43<|
.nil) 66 56 65<|
.m 53 66<|
.nil)
 (.cond (.tmp 53) (.z (.m 67 0<|
.m 68 1<|
.k 69 .i 210 [(.t 67), (.t 68)]<|
.m 8 69<|
.nil)
 (.seq (.z (.m 70 8<|
.b 71 .lss .none (.t 70) (.i 0)<|
.nil)
 (.cond (.tmp 71) (.z (.O 72 y8 (.load (some 3) (.t 6))<|
.op none y8 [4, 72] (.store 3 (.t 4) (.t 72))<|
.c 5 y21<|
.nil)
 .ret)
 .skip))
 (.draw (.m 73 0<|
.m 74 1<|
.m 75 8<|
.p 76 [73, 74, 75] (.sliceStr (.t 73) (some (.t 74)) (some (.t 75)))<|
.f 77 0 6<|
.op none .any [77] (.store 1 (.t 77) (.i 3))<|
.f 78 1 6<|
.w 1 78 76<|
.nil) [0, 0, 0, 7, 0, 16, 63, 127])))
 (.z (.m 80 7<|
.b 81 .eql .none (.t 80) (.con (V.int .u8 (Int.ofNat 39)))<|
.m 79 81<|
.nil)
 (.cond (.tmp 79) (.z (.f 82 0 6<|
.op none .any [82] (.store 1 (.t 82) (.i 4))<|
.nil)
 (.ops (.m 84 0<|
.m 85 1<|
.k 86 (.tup [.i, .str]) 211 [(.t 84), (.t 85)]<|
.m 83 86<|
.P 87 (.extract 0 (.t 83))<|
.P 88 (.extract 1 (.t 83))<|
.m 8 87<|
.f 89 1 6<|
.w 1 89 88<|
.nil)))
 (.z (.m 91 7<|
.b 92 .eql .none (.t 91) (.con (V.int .u8 (Int.ofNat 34)))<|
.m 90 92<|
.nil)
 (.cond (.tmp 90) (.z (.f 93 0 6<|
.op none .any [93] (.store 1 (.t 93) (.i 7))<|
.nil)
 (.ops (.m 95 0<|
.m 96 1<|
.k 97 (.tup [.i, .str]) 212 [(.t 95), (.t 96)]<|
.m 94 97<|
.P 98 (.extract 0 (.t 94))<|
.P 99 (.extract 1 (.t 94))<|
.m 8 98<|
.f 100 1 6<|
.w 1 100 99<|
.nil)))
 (.z (.m 15 0<|
.m 16 1<|
.k 17 .i 213 [(.t 15), (.t 16)]<|
.m 9 17<|
.nil)
 (.z (.m 18 9<|
.b 19 .gtr .none (.t 18) (.i 0)<|
.nil)
 (.cond (.tmp 19) (.draw (.m 20 0<|
.m 21 1<|
.m 22 1<|
.m 23 9<|
.b 24 .add .none (.t 22) (.t 23)<|
.p 25 [20, 21, 24] (.sliceStr (.t 20) (some (.t 21)) (some (.t 24)))<|
.m 26 1<|
.m 27 9<|
.b 28 .add .none (.t 26) (.t 27)<|
.f 29 0 6<|
.op none .any [29] (.store 1 (.t 29) (.i 6))<|
.f 30 1 6<|
.w 1 30 25<|
.m 8 28<|
.nil) [0, 0, 0, 0, 12, 31, 0, 0, 192, 0, 512, 1599, 3647, 8191])
 .skip))))))))))))
 (.keep [(8, .i)] [4, 6] [(4, [.i, .str, .i]), (6, [.i, .str, .i])] cc1))))))
def C118_1 : XC := (.z (.O 101 y8 (.load (some 3) (.t 6))<|
.m 102 8<|
.op none y8 [4, 101] (.store 3 (.t 4) (.t 101))<|
.m 5 102<|
.nil)
 .ret)
def C118_2 : XC := (.z (.f 49 1 6<|
.l 50 .str 49<|
.k 51 .bool 208 [(.t 50)]<|
.nil)
 (.cond (.tmp 51) (.ops (.f 52 0 6<|
.op none .any [52] (.store 1 (.t 52) (.i 5))<|
.nil))
 .skip))
def A118 : XFn := ⟨103, [.str, .i], [(.cell 4 (some 3)), (.tmp 5)], (C118_0 C118_1 C118_2)⟩
def C119_0 (cc1 : XC) : XC := (.z (.pal 2 [] 121 [y0, y7, y0]<|
.nil)
 (.seq (.draw (.m 4 0<|
.n 5 4<|
.f 6 0 5<|
.l 7 .any 6<|
.m 8 0<|
.n 9 8<|
.f 10 1 9<|
.l 11 .i 10<|
.s 12 3 7 11<|
.O 13 y8 (.load (some 3) (.t 12))<|
.pal 3 [] 121 [y0, y7, y0]<|
.op none y8 [3, 13] (.store 3 (.t 3) (.t 13))<|
.nil) [0, 1, 3, 7, 0, 16, 48, 112, 255, 511, 0, 2047])
 (.seq (.seq (.draw (.m 14 0<|
.n 15 14<|
.f 16 1 15<|
.l 17 .i 16<|
.b 18 .add .none (.t 17) (.i 1)<|
.m 19 0<|
.n 20 19<|
.f 21 0 20<|
.l 22 .any 21<|
.u 23 22<|
.b 24 .lss .none (.t 18) (.t 23)<|
.nil) [0, 1, 3, 7, 15, 0, 32, 96, 224, 480, 1023])
 (.cond (.tmp 24) (.ops (.m 25 0<|
.n 26 25<|
.f 27 1 26<|
.l 28 .i 27<|
.b 29 .add .none (.t 28) (.i 1)<|
.n 30 25<|
.f 31 1 30<|
.w 1 31 29<|
.nil))
 .skip))
 (.keep [] [2, 3] [(2, [.i, .str, .i]), (3, [.i, .str, .i])] cc1))))
def C119_1 : XC := (.z (.O 32 y8 (.load (some 3) (.t 3))<|
.op none y8 [2, 32] (.store 3 (.t 2) (.t 32))<|
.nil)
 .ret)
def A119 : XFn := ⟨33, [.ptr], [(.cell 2 (some 3))], (C119_0 C119_1)⟩
def C120_0 (cc1 : XC) (cc2 : XC) : XC := (.z (.P 1 (.box 121 (.t 0))<|
.c 2 y3<|
.nil)
 (.z (.p 5 [] (.buildSlice 9 10 [y7, y7, y7, y7, y7, y7, y7, y7, y7, y7] [(0, 1, (.con (V.str ⟨1, 91⟩))), (1, 1, (.con (V.str ⟨7, 22026814072246082⟩))), (2, 1, (.con (V.str ⟨4, 1280070990⟩))), (3, 1, y40), (4, 1, (.con (V.str ⟨7, 23157120498421321⟩))), (5, 1, (.con (V.str ⟨5, 361940403023⟩))), (6, 1, y41), (7, 1, (.con (V.str ⟨3, 5522771⟩))), (8, 1, (.con (V.str ⟨6, 76155295057987⟩))), (9, 1, y51)])<|
.m 3 5<|
.nil)
 (.seq (.z (.q 4 0<|
.nil)
 (.block 0 (.loop [(1, .ptr), (3, .any), (4, .i)] [] [] cc2)))
 (.keep [(1, .ptr)] [] [] cc1))))
def C120_1 : XC := (.z (.f 29 0 1<|
.l 30 .i 29<|
.b 31 .eql .none (.t 30) (.i 1)<|
.m 2 31<|
.nil)
 .ret)
def C120_2 : XC := (.seq (.z (.m 6 4<|
.m 7 3<|
.u 8 7<|
.b 9 .lss .none (.t 6) (.t 8)<|
.nil)
 y18)
 (.seq (.block 1 (.seq (.draw (.m 12 3<|
.m 13 4<|
.s 14 1 12 13<|
.l 15 .str 14<|
.f 16 1 1<|
.l 17 .str 16<|
.b 18 .eql .none (.t 15) (.t 17)<|
.m 19 18<|
.gA 19 true (.p 20 [1, 19] (.faddr 0 (.t 1))<|
.op (some 21) .i [20, 19] (.load none (.t 20))<|
.p 22 [21, 19] (.bin .eql .none (.t 21) (.i 5))<|
.p 23 [22, 19] (.mov (.t 22))<|
.grp 23 false (.p 24 [1, 23] (.faddr 0 (.t 1))<|
.op (some 25) .i [24, 23] (.load none (.t 24))<|
.p 26 [25, 23] (.bin .eql .none (.t 25) (.i 6))<|
.nil) 27 [23, 26, 19] (.t 23) y12 (.t 26)<|
.nil) 28 19 27<|
.nil) [0, 0, 3, 7, 0, 16, 63, 127, 255, 511, 1023, 2047, 4095, 8191, 16383, 32767, 65535])
 (.cond (.tmp 28) (.z (.c 2 y26<|
.nil)
 .ret)
 .skip)))
 y22))
def A120 : XFn := ⟨32, [y8], [(.tmp 2)], (C120_0 C120_1 C120_2)⟩
def C121_0 : XC := (.z (.q 2 0<|
.nil)
 (.z (.m 4 0<|
.k 5 .str 57 [(.t 4), (.i 3)]<|
.m 3 5<|
.nil)
 (.seq (.z (.m 6 3<|
.b 7 .eql .none (.t 6) (.con y7)<|
.nil)
 (.cond (.tmp 7) (.z (.q 2 0<|
.nil)
 .ret)
 .skip))
 (.z (.m 8 3<|
.k 9 .i 214 [(.t 8)]<|
.m 2 9<|
.nil)
 .ret))))
def A121 : XFn := ⟨10, [.any], [(.tmp 2)], C121_0⟩
def G122_0 : List AOper := [⟨(some 139), .mov (.tmp 1), none⟩, ⟨(some 140), .mov (.tmp 1), none⟩, ⟨(some 141), .faddr 1 (.tmp 6), none⟩, ⟨(some 142), .load none (.tmp 141), none⟩, ⟨(some 143), .nilck (.tmp 139), none⟩, ⟨(some 144), .faddr 0 (.tmp 143), none⟩, ⟨none, .store 1 (.tmp 144) (.con (V.int .i64 (Int.ofNat 11))), none⟩, ⟨(some 145), .nilck (.tmp 140), none⟩, ⟨(some 146), .faddr 1 (.tmp 145), none⟩, ⟨none, .store 1 (.tmp 146) (.tmp 142), none⟩]
def H122_0 : List DP := [⟨0, [1]⟩, ⟨0, [1]⟩, ⟨0, [6]⟩, ⟨4, [141]⟩, ⟨1, [139]⟩, ⟨17, [143]⟩, ⟨49, [144]⟩, ⟨127, [140]⟩, ⟨255, [145]⟩, ⟨511, [146, 142]⟩]
def C122_0 : XC := (.z (.m 7 0<|
.k 8 y8 60 [(.t 7)]<|
.p 6 [] (.alloc 121 [y0, y7, y0])<|
.op none y8 [6, 8] (.store 3 (.t 6) (.t 8))<|
.nil)
 (.block 0 (.z (.m 13 0<|
.n 14 13<|
.f 15 7 14<|
.l 16 .i 15<|
.b 17 .neq .none (.t 16) (.i 0)<|
.m 12 17<|
.nil)
 (.cond (.tmp 12) .skip
 (.z (.m 19 0<|
.k 20 .bool 59 [(.t 19), (.con (V.str ⟨7, 22026814072246082⟩))]<|
.m 18 20<|
.nil)
 (.cond (.tmp 18) (.ops (.m 21 1<|
.n 22 21<|
.f 23 0 22<|
.op none .any [23] (.store 1 (.t 23) (.i 1))<|
.nil))
 (.z (.m 25 0<|
.k 26 .bool 59 [(.t 25), (.con (V.str ⟨4, 1280070990⟩))]<|
.m 24 26<|
.nil)
 (.cond (.tmp 24) (.ops (.m 27 1<|
.n 28 27<|
.f 29 0 28<|
.op none .any [29] (.store 1 (.t 29) (.i 4))<|
.nil))
 (.z (.m 31 0<|
.k 32 .bool 59 [(.t 31), y40]<|
.m 30 32<|
.nil)
 (.cond (.tmp 30) (.z (.m 33 1<|
.n 34 33<|
.f 35 0 34<|
.op none .any [35] (.store 1 (.t 35) (.i 6))<|
.nil)
 (.ops (.m 36 1<|
.m 37 0<|
.k 38 y4 215 [(.t 37)]<|
.n 39 36<|
.f 40 5 39<|
.op none y4 [40, 38] (.store 6 (.t 40) (.t 38))<|
.nil)))
 (.z (.m 42 0<|
.k 43 .bool 59 [(.t 42), (.con (V.str ⟨7, 23157120498421321⟩))]<|
.m 41 43<|
.nil)
 (.cond (.tmp 41) (.z (.m 44 1<|
.n 45 44<|
.f 46 0 45<|
.op none .any [46] (.store 1 (.t 46) (.i 2))<|
.nil)
 (.z (.m 47 0<|
.k 48 .bool 59 [(.t 47), (.con (V.str ⟨1, 40⟩))]<|
.nil)
 (.cond (.tmp 48) (.z (.m 49 1<|
.m 50 0<|
.k 51 y4 216 [(.t 50)]<|
.n 52 49<|
.f 53 5 52<|
.op none y4 [53, 51] (.store 6 (.t 53) (.t 51))<|
.nil)
 (.ops (.m 54 0<|
.k 55 y10 58 [(.t 54), (.con (V.str ⟨1, 41⟩))]<|
.nil)))
 .skip)))
 (.z (.m 57 0<|
.k 58 .bool 59 [(.t 57), (.con (V.str ⟨5, 361940403023⟩))]<|
.m 56 58<|
.nil)
 (.cond (.tmp 56) (.z (.m 59 0<|
.k 60 y10 58 [(.t 59), (.con (V.str ⟨6, 78401563153491⟩))]<|
.nil)
 (.z (.m 61 1<|
.n 62 61<|
.f 63 0 62<|
.op none .any [63] (.store 1 (.t 63) (.i 5))<|
.nil)
 (.ops (.m 64 1<|
.m 65 0<|
.k 66 y4 215 [(.t 65)]<|
.n 67 64<|
.f 68 5 67<|
.op none y4 [68, 66] (.store 6 (.t 68) (.t 66))<|
.nil))))
 (.z (.m 70 0<|
.k 71 .bool 59 [(.t 70), y41]<|
.m 69 71<|
.nil)
 (.cond (.tmp 69) (.z (.m 72 1<|
.n 73 72<|
.f 74 0 73<|
.op none .any [74] (.store 1 (.t 74) (.i 3))<|
.nil)
 (.z (.m 75 0<|
.k 76 y10 58 [(.t 75), y47]<|
.nil)
 (.z (.m 77 0<|
.m 78 1<|
.k 79 y10 217 [(.t 77), (.t 78)]<|
.nil)
 (.ops (.m 80 0<|
.k 81 y10 58 [(.t 80), (.con (V.str ⟨1, 125⟩))]<|
.nil)))))
 (.z (.m 83 0<|
.k 84 .bool 59 [(.t 83), (.con (V.str ⟨3, 5522771⟩))]<|
.m 82 84<|
.nil)
 (.cond (.tmp 82) (.z (.m 85 1<|
.n 86 85<|
.f 87 0 86<|
.op none .any [87] (.store 1 (.t 87) (.i 8))<|
.nil)
 (.z (.m 88 0<|
.k 89 y10 58 [(.t 88), y47]<|
.nil)
 (.ops (.m 90 0<|
.m 91 1<|
.m 92 2<|
.k 93 y10 218 [(.t 90), (.t 91), (.t 92)]<|
.nil))))
 (.z (.m 95 0<|
.k 96 .bool 59 [(.t 95), (.con (V.str ⟨6, 76155295057987⟩))]<|
.m 94 96<|
.nil)
 (.cond (.tmp 94) (.z (.m 97 1<|
.n 98 97<|
.f 99 0 98<|
.op none .any [99] (.store 1 (.t 99) (.i 9))<|
.nil)
 (.z (.m 100 0<|
.k 101 y10 58 [(.t 100), y47]<|
.nil)
 (.ops (.m 102 0<|
.m 103 1<|
.m 104 2<|
.k 105 y10 218 [(.t 102), (.t 103), (.t 104)]<|
.nil))))
 (.z (.m 107 0<|
.k 108 .bool 59 [(.t 107), y51]<|
.m 106 108<|
.nil)
 (.cond (.tmp 106) (.seq (.z (.m 109 0<|
.k 110 .bool 59 [(.t 109), y47]<|
.nil)
 (.cond (.tmp 110) (.z (.m 111 1<|
.n 112 111<|
.f 113 0 112<|
.op none .any [113] (.store 1 (.t 113) (.i 7))<|
.nil)
 (.z (.m 114 0<|
.m 115 1<|
.m 116 2<|
.k 117 y10 218 [(.t 114), (.t 115), (.t 116)]<|
.nil)
 .ret))
 .skip))
 (.z (.m 118 1<|
.n 119 118<|
.f 120 0 119<|
.op none .any [120] (.store 1 (.t 120) (.i 10))<|
.nil)
 (.z (.m 121 1<|
.m 122 0<|
.k 123 y4 215 [(.t 122)]<|
.n 124 121<|
.f 125 5 124<|
.op none y4 [125, 123] (.store 6 (.t 125) (.t 123))<|
.nil)
 (.z (.m 126 0<|
.k 127 y10 58 [(.t 126), (.con (V.str ⟨2, 17999⟩))]<|
.nil)
 (.ops (.m 128 1<|
.m 129 0<|
.m 130 2<|
.b 131 .add .none (.t 130) (.i 1)<|
.k 132 .i 62 [(.t 129), (.t 131)]<|
.n 133 128<|
.f 134 15 133<|
.w 1 134 132<|
.nil))))))
 (.z (.f 136 0 6<|
.l 137 .i 136<|
.b 138 .eql .none (.t 137) (.i 1)<|
.m 135 138<|
.nil)
 (.cond (.tmp 135) (.seq (.keep [(0, .ptr), (1, .ptr), (6, .ptr)] [] [] (.gdraw G122_0 H122_0 [(0, .ptr)]))
 (.ops (.m 147 0<|
.k 148 y8 119 [(.t 147)]<|
.nil)))
 (.ops (.m 9 0<|
.O 10 y8 (.load (some 3) (.t 6))<|
.k 11 y10 61 [(.t 9), (.i 7), (.t 10)]<|
.nil))))))))))))))))))))))))))
def A122 : XFn := ⟨149, [.ptr, .ptr, .i], [], C122_0⟩
def C123_0 (cc1 : XC) (cc2 : XC) : XC := (.z (.c 4 y3<|
.nil)
 (.seq (.z (.q 5 0<|
.nil)
 (.block 0 (.loop [(0, .any), (1, .str), (5, .i)] [] [] cc2)))
 (.keep [] [] [] cc1)))
def C123_1 : XC := (.z (.c 4 y3<|
.nil)
 .ret)
def C123_2 : XC := (.seq (.z (.m 6 5<|
.m 7 0<|
.u 8 7<|
.b 9 .lss .none (.t 6) (.t 8)<|
.nil)
 y18)
 (.seq (.block 1 (.z (.m 12 0<|
.m 13 5<|
.s 14 1 12 13<|
.l 15 .str 14<|
.m 16 1<|
.b 17 .eql .none (.t 15) (.t 16)<|
.nil)
 y36))
 y29))
def A123 : XFn := ⟨18, [.any, .str], [(.tmp 4)], (C123_0 C123_1 C123_2)⟩
def C124_0 (cc1 : XC) (cc2 : XC) : XC := (.z (.P 4 (.box 76 (.t 0))<|
.c 8 V.nils<|
.c 9 y3<|
.nil)
 (.seq (.z (.m 16 1<|
.b 17 .lss .none (.t 16) (.i 0)<|
.m 18 17<|
.gO 18 false (.p 19 [1, 18] y16<|
.p 20 [4, 18] (.faddr 4 (.t 4))<|
.p 21 [20, 18] (.load none (.t 20))<|
.p 22 [21, 18] (.len false (.t 21))<|
.p 23 [19, 22, 18] (.bin .geq .none (.t 19) (.t 22))<|
.nil) 24 18 23<|
.m 25 24<|
.gO 25 false (.p 26 [2, 25] (.mov (.t 2))<|
.p 27 [26, 25] (.bin .gtr .none (.t 26) (.i 16))<|
.nil) 28 25 27<|
.nil)
 (.cond (.tmp 28) (.z (.m 29 3<|
.m 8 29<|
.c 9 y3<|
.nil)
 .ret)
 .skip))
 (.z (.f 30 4 4<|
.l 31 .any 30<|
.m 32 1<|
.s 33 16 31 32<|
.O 34 y5 (.load (some 16) (.t 33))<|
.pal 10 [] 183 [y0, y7, y3, y0, y0, y3, y3, y3, y3, y0, y0, V.nils, V.nils, y0, y3, y0]<|
.op none y5 [10, 34] (.store 16 (.t 10) (.t 34))<|
.nil)
 (.seq (.z (.f 35 0 10<|
.l 36 .i 35<|
.b 37 .eql .none (.t 36) (.i 11)<|
.nil)
 (.cond (.tmp 37) (.z (.O 38 y11 (.load (some 5) (.t 4))<|
.f 39 1 10<|
.l 40 .str 39<|
.k 41 .i 126 [(.t 38), (.t 40)]<|
.m 11 41<|
.nil)
 (.seq (.z (.m 42 11<|
.b 43 .lss .none (.t 42) (.i 0)<|
.nil)
 (.cond (.tmp 43) (.z (.m 44 3<|
.m 8 44<|
.c 9 y26<|
.nil)
 .ret)
 .skip))
 (.seq (.z (.m 45 3<|
.m 46 11<|
.k 47 .bool 29 [(.t 45), (.t 46)]<|
.P 48 (.un .not (.t 47))<|
.nil)
 (.cond (.tmp 48) (.ops (.m 49 3<|
.m 50 11<|
.p 51 [50] (.buildSlice 3 1 [y0] [(0, 1, (.t 50))])<|
.O 52 .one (.append 3 1 8 (.t 49) (.t 51))<|
.m 3 52<|
.nil))
 .skip))
 (.keep [(3, .any)] [] [] cc2))))
 .skip))
 (.keep [(2, .i), (3, .any), (4, .ptr)] [10] q116a cc1)))))
def C124_1 (cc3 : XC) (cc4 : XC) : XC := (.z (.c 12 y3<|
.nil)
 (.seq (.z (.q 13 0<|
.nil)
 (.block 0 (.loop [(2, .i), (3, .any), (4, .ptr), (12, .bool), (13, .i)] [10] q116a cc4)))
 (.keep [(2, .i), (3, .any), (4, .ptr), (12, .bool)] [10] q116a cc3)))
def C124_2 : XC := (.z (.m 53 3<|
.m 8 53<|
.c 9 y3<|
.nil)
 .ret)
def C124_3 (cc5 : XC) : XC := (.seq (.z (.f 79 0 10<|
.l 80 .i 79<|
.b 81 .eql .none (.t 80) (.i 10)<|
.nil)
 (.cond (.tmp 81) (.z (.c 15 y3<|
.nil)
 (.z (.O 83 y11 (.load (some 5) (.t 4))<|
.f 84 15 10<|
.l 85 .i 84<|
.m 86 2<|
.b 87 .add .none (.t 86) (.i 1)<|
.m 88 3<|
.k 89 (.tup [.any, .bool]) 124 [(.t 83), (.t 85), (.t 87), (.t 88)]<|
.m 82 89<|
.P 90 (.extract 0 (.t 82))<|
.P 91 (.extract 1 (.t 82))<|
.m 3 90<|
.m 15 91<|
.nil)
 (.ops (.m 92 12<|
.m 93 92<|
.gO 93 false (.p 94 [15, 93] (.mov (.t 15))<|
.nil) 95 93 94<|
.m 12 95<|
.nil))))
 .skip))
 (.keep [(3, .any), (12, .bool)] [] [] cc5))
def C124_4 : XC := (.seq (.z (.m 54 13<|
.f 55 12 10<|
.l 56 .any 55<|
.u 57 56<|
.b 58 .lss .none (.t 54) (.t 57)<|
.nil)
 (.cond (.tmp 58) .skip
 y23))
 (.seq (.block 1 (.z (.c 14 y3<|
.nil)
 (.seq (.draw (.O 62 y11 (.load (some 5) (.t 4))<|
.f 63 12 10<|
.l 64 .any 63<|
.m 65 13<|
.s 66 11 64 65<|
.f 67 1 66<|
.l 68 .i 67<|
.m 69 2<|
.b 70 .add .none (.t 69) (.i 1)<|
.m 71 3<|
.k 72 (.tup [.any, .bool]) 124 [(.t 62), (.t 68), (.t 70), (.t 71)]<|
.m 61 72<|
.P 73 (.extract 0 (.t 61))<|
.P 74 (.extract 1 (.t 61))<|
.m 3 73<|
.m 14 74<|
.nil) [0, 0, 2, 0, 14, 30, 62, 0, 128, 0, 1023, 2047, 4095, 4095, 8191, 32767])
 (.ops (.m 75 12<|
.m 76 75<|
.gO 76 false (.p 77 [14, 76] (.mov (.t 14))<|
.nil) 78 76 77<|
.m 12 78<|
.nil)))))
 (.ops (.m 59 13<|
.b 60 .add .none (.t 59) (.i 1)<|
.m 13 60<|
.nil))))
def C124_5 : XC := (.z (.m 96 3<|
.m 97 12<|
.m 8 96<|
.m 9 97<|
.nil)
 .ret)
def A124 : XFn := ⟨98, [y11, .i, .i, .any], [(.tmp 8), (.tmp 9)], (C124_0 (C124_1 (C124_3 C124_5) C124_4) C124_2)⟩
def C125_0 (cc1 : XC) (cc2 : XC) : XC := (.z (.c 6 y3<|
.nil)
 (.z (.p 10 [] (.buildSlice 3 0 [] [])<|
.m 7 10<|
.nil)
 (.z (.m 11 0<|
.m 12 1<|
.s 13 1 11 12<|
.l 14 .any 13<|
.O 15 .one (.append 3 1 8 (.con V.nils) (.t 14))<|
.m 8 15<|
.nil)
 (.seq (.block 0 (.loop [(0, .any), (2, .i), (7, .any), (8, .any)] [] [] cc2))
 (.keep [] [] [] cc1)))))
def C125_1 : XC := (.z (.c 6 y3<|
.nil)
 .ret)
def C125_2 : XC := (.seq (.z (.m 16 8<|
.u 17 16<|
.b 18 .gtr .none (.t 17) (.i 0)<|
.nil)
 (.cond (.tmp 18) .skip
 y23))
 (.block 1 (.z (.m 19 8<|
.P 20 (.iaddrS 1 (.t 19) (.i 0))<|
.l 21 .i 20<|
.m 9 21<|
.nil)
 (.z (.m 22 8<|
.p 23 [22] (.sliceSl 1 (.t 22) (some (.i 1)) none none)<|
.m 8 23<|
.nil)
 (.seq (.z (.m 24 9<|
.m 25 2<|
.b 26 .eql .none (.t 24) (.t 25)<|
.nil)
 (.cond (.tmp 26) (.z (.c 6 y26<|
.nil)
 .ret)
 .skip))
 (.z (.m 27 7<|
.m 28 9<|
.k 29 .bool 29 [(.t 27), (.t 28)]<|
.P 30 (.un .not (.t 29))<|
.nil)
 (.cond (.tmp 30) (.z (.m 31 7<|
.m 32 9<|
.p 33 [32] (.buildSlice 3 1 [y0] [(0, 1, (.t 32))])<|
.O 34 .one (.append 3 1 8 (.t 31) (.t 33))<|
.m 7 34<|
.nil)
 (.ops (.m 35 8<|
.m 36 0<|
.m 37 9<|
.s 38 1 36 37<|
.l 39 .any 38<|
.O 40 .one (.append 3 1 8 (.t 35) (.t 39))<|
.m 8 40<|
.nil)))
 .skip)))))))
def A125 : XFn := ⟨41, y42, [(.tmp 6)], (C125_0 C125_1 C125_2)⟩
def G127_0 : List AOper := [⟨(some 45), .mov (.tmp 0), none⟩, ⟨(some 46), .mov (.tmp 0), none⟩, ⟨(some 47), .nilck (.tmp 46), none⟩, ⟨(some 48), .faddr 5 (.tmp 47), none⟩, ⟨(some 49), .load none (.tmp 48), none⟩, ⟨(some 50), .load (some 13) (.tmp 8), none⟩, ⟨(some 51), .buildSlice 145 1 [(V.int .i64 (Int.ofNat 0)), V.nils, (V.bool false), (V.bool false), (V.bool false), (V.bool false), (V.int .i64 (Int.ofNat 0)), (V.int .i64 (Int.ofNat 0)), V.nils, V.nils, (V.int .i64 (Int.ofNat 0)), (V.bool false), (V.int .i64 (Int.ofNat 0))] [(0, 13, (.tmp 50))], none⟩, ⟨(some 52), .append 145 13 128 (.tmp 49) (.tmp 51), none⟩, ⟨(some 53), .nilck (.tmp 45), none⟩, ⟨(some 54), .faddr 5 (.tmp 53), none⟩, ⟨none, .store 1 (.tmp 54) (.tmp 52), none⟩]
def H127_0 : List DP := [⟨0, [0]⟩, ⟨0, [0]⟩, ⟨2, [46]⟩, ⟨6, [47]⟩, ⟨14, [48]⟩, ⟨0, [8]⟩, ⟨32, [50]⟩, ⟨126, [49, 51]⟩, ⟨255, [45]⟩, ⟨511, [53]⟩, ⟨1023, [54, 52]⟩]
def G127_1 : List AOper := [⟨(some 97), .mov (.tmp 0), none⟩, ⟨(some 98), .nilck (.tmp 97), none⟩, ⟨(some 99), .faddr 5 (.tmp 98), none⟩, ⟨(some 100), .load none (.tmp 99), none⟩, ⟨(some 101), .mov (.tmp 7), none⟩, ⟨(some 102), .mov (.tmp 0), none⟩, ⟨(some 103), .load (some 16) (.tmp 4), none⟩, ⟨(some 104), .call 222 [(.tmp 102), (.tmp 103)], none⟩, ⟨(some 105), .iaddrS 13 (.tmp 100) (.tmp 101), none⟩, ⟨(some 106), .faddr 8 (.tmp 105), none⟩, ⟨none, .store 1 (.tmp 106) (.tmp 104), none⟩]
def H127_1 : List DP := [⟨0, [0]⟩, ⟨1, [97]⟩, ⟨3, [98]⟩, ⟨7, [99]⟩, ⟨0, [7]⟩, ⟨0, [0]⟩, ⟨0, [4]⟩, ⟨96, [102, 103]⟩, ⟨255, [100, 101]⟩, ⟨511, [105]⟩, ⟨1023, [106, 104]⟩]
def C127_0 (cc1 : XC) : XC := (.z (.P 4 (.box 183 (.t 1))<|
.q 6 0<|
.nil)
 (.seq (.z (.m 11 2<|
.b 12 .gtr .none (.t 11) (.i 16)<|
.m 13 12<|
.gO 13 false (.p 14 [0, 13] y13<|
.p 15 [14, 13] (.nilck (.t 14))<|
.p 16 [15, 13] (.faddr 5 (.t 15))<|
.p 17 [16, 13] (.load none (.t 16))<|
.p 18 [17, 13] (.len false (.t 17))<|
.p 19 [18, 13] (.bin .geq .none (.t 18) (.i 300))<|
.nil) 20 13 19<|
.nil)
 (.cond (.tmp 20) (.z (.m 21 0<|
.k 22 y10 219 [(.t 21), (.i 5)]<|
.nil)
 (.z (.q 6 0<|
.nil)
 .ret))
 .skip))
 (.z (.m 23 0<|
.n 24 23<|
.f 25 5 24<|
.l 26 .any 25<|
.u 27 26<|
.m 7 27<|
.nil)
 (.z (.f 28 0 4<|
.l 29 .i 28<|
.f 30 5 4<|
.O 31 y4 (.load (some 6) (.t 30))<|
.f 32 13 4<|
.l 33 .i 32<|
.f 34 14 4<|
.l 35 .bool 34<|
.op (some 36) y1 [29, 31, 33, 35] (.build [y0, V.nils, y3, y3, y3, y3, y0, y0, V.nils, V.nils, y0, y3, y0] [(0, 1, (.t 29)), (2, 6, (.t 31)), (10, 1, (.t 33)), (11, 1, (.t 35))])<|
.p 8 [] y17<|
.op none y1 [8, 36] (.store 13 (.t 8) (.t 36))<|
.nil)
 (.seq (.z (.f 37 0 4<|
.l 38 .i 37<|
.b 39 .neq .none (.t 38) (.i 9)<|
.nil)
 (.cond (.tmp 39) (.ops (.f 40 0 4<|
.l 41 .i 40<|
.k 42 y15 220 [(.t 41)]<|
.p 43 [42] (.buildSlice 253 1 [y0, y0] [(0, 2, (.t 42))])<|
.f 44 1 8<|
.w 1 44 43<|
.nil))
 .skip))
 (.keep [(0, .ptr), (2, .i), (4, .ptr), (7, .i), (8, .ptr)] [] [] cc1))))))
def C127_1 (cc2 : XC) (cc3 : XC) : XC := (.seq (.keep [(0, .ptr), (2, .i), (4, .ptr), (7, .i), (8, .ptr)] [] [] (.gdraw G127_0 H127_0 [(0, .ptr), (2, .i), (4, .ptr), (7, .i)]))
 (.seq (.z (.f 55 0 4<|
.l 56 .i 55<|
.nil)
 (.block 0 (.seq (.z (.b 58 .eql .none (.t 56) (.i 2)<|
.m 57 58<|
.nil)
 (.cond (.tmp 57) .skip
 (.z (.b 59 .eql .none (.t 56) (.i 5)<|
.m 57 59<|
.nil)
 (.cond (.tmp 57) .skip
 (.z (.b 60 .eql .none (.t 56) (.i 6)<|
.m 57 60<|
.nil)
 (.cond (.tmp 57) .skip
 (.ops (.b 61 .eql .none (.t 56) (.i 10)<|
.m 57 61<|
.nil))))))))
 (.keep [(0, .ptr), (2, .i), (4, .ptr), (7, .i), (56, .i), (57, .bool)] [] [] cc3))))
 (.keep [(7, .i)] [] [] cc2)))
def C127_2 : XC := (.z (.m 116 7<|
.m 6 116<|
.nil)
 .ret)
def C127_3 (cc4 : XC) (cc5 : XC) : XC := (.cond (.tmp 57) (.z (.f 62 5 4<|
.O 63 y4 (.load (some 6) (.t 62))<|
.f 64 0 4<|
.l 65 .i 64<|
.b 66 .neq .none (.t 65) (.i 2)<|
.k 67 .i 221 [(.t 63), (.t 66)]<|
.m 9 67<|
.nil)
 (.seq (.z (.m 68 9<|
.b 69 .neq .none (.t 68) (.i 0)<|
.nil)
 (.cond (.tmp 69) (.ops (.m 70 0<|
.m 71 9<|
.k 72 y10 219 [(.t 70), (.t 71)]<|
.nil))
 .skip))
 (.keep [(0, .ptr), (2, .i), (4, .ptr), (7, .i)] [] [] cc4)))
 (.z (.b 96 .eql .none (.t 56) (.i 3)<|
.m 95 96<|
.nil)
 (.cond (.tmp 95) (.keep [(0, .ptr), (4, .ptr), (7, .i)] [] [] (.gdraw G127_1 H127_1 [(7, .i)]))
 (.seq (.z (.b 108 .eql .none (.t 56) (.i 7)<|
.m 107 108<|
.nil)
 (.cond (.tmp 107) .skip
 (.z (.b 109 .eql .none (.t 56) (.i 8)<|
.m 107 109<|
.nil)
 (.cond (.tmp 107) .skip
 (.ops (.b 110 .eql .none (.t 56) (.i 9)<|
.m 107 110<|
.nil))))))
 (.keep [(0, .ptr), (2, .i), (4, .ptr), (7, .i), (107, .bool)] [] [] cc5)))))
def C127_4 : XC := (.z (.f 73 0 4<|
.l 74 .i 73<|
.b 75 .eql .none (.t 74) (.i 10)<|
.nil)
 (.cond (.tmp 75) (.z (.m 76 0<|
.f 77 15 4<|
.l 78 .i 77<|
.m 79 2<|
.b 80 .add .none (.t 79) (.i 1)<|
.k 81 .i 64 [(.t 76), (.t 78), (.t 80)]<|
.m 10 81<|
.nil)
 (.z (.m 82 0<|
.n 83 82<|
.f 84 6 83<|
.l 85 .i 84<|
.b 86 .eql .none (.t 85) (.i 0)<|
.nil)
 (.cond (.tmp 86) (.ops (.m 87 0<|
.n 88 87<|
.f 89 5 88<|
.l 90 .any 89<|
.m 91 7<|
.m 92 10<|
.s 93 13 90 91<|
.f 94 12 93<|
.w 1 94 92<|
.nil))
 .skip)))
 .skip))
def C127_5 : XC := (.cond (.tmp 107) (.ops (.m 111 0<|
.m 112 7<|
.O 113 y5 (.load (some 16) (.t 4))<|
.m 114 2<|
.k 115 y10 223 [(.t 111), (.t 112), (.t 113), (.t 114)]<|
.nil))
 .skip)
def A127 : XFn := ⟨117, [.ptr, y5, .i], [(.tmp 6)], (C127_0 (C127_1 C127_2 (C127_3 C127_4 C127_5)))⟩
def Fin131 (E : List (Nat × Blk)) : St → Ans := fun s => resK E s [(.tmp 4)] fun l => some (oneV l, s.σ)
def C131_0 : XC := (.z (.P 2 (.box 38 (.t 0))<|
.c 4 y3<|
.nil)
 (.z (.m 5 1<|
.b 6 .and .none (.t 5) (.i 1)<|
.b 7 .neq .none (.t 6) (.i 0)<|
.m 8 7<|
.gO 8 false (.p 9 [2, 8] (.faddr 1 (.t 2))<|
.op (some 10) .i [9, 8] (.load none (.t 9))<|
.p 11 [10, 8] (.bin .eql .none (.t 10) (.i 0))<|
.nil) 12 8 11<|
.m 13 12<|
.gA 13 true (.p 14 [1, 13] y16<|
.p 15 [14, 13] (.bin .and .none (.t 14) (.i 2))<|
.p 16 [15, 13] (.bin .neq .none (.t 15) (.i 0))<|
.p 17 [16, 13] (.mov (.t 16))<|
.grp 17 false (.p 18 [2, 17] (.faddr 2 (.t 2))<|
.p 19 [18, 17] (.load none (.t 18))<|
.p 20 [19, 17] (.len false (.t 19))<|
.p 21 [20, 17] (.bin .eql .none (.t 20) (.i 0))<|
.nil) 22 [17, 21, 13] (.t 17) y12 (.t 21)<|
.nil) 23 13 22<|
.m 24 23<|
.gA 24 true (.p 25 [1, 24] y16<|
.p 26 [25, 24] (.bin .and .none (.t 25) (.i 4))<|
.p 27 [26, 24] (.bin .neq .none (.t 26) (.i 0))<|
.p 28 [27, 24] (.mov (.t 27))<|
.grp 28 false (.p 29 [2, 28] (.faddr 3 (.t 2))<|
.p 30 [29, 28] (.load none (.t 29))<|
.p 31 [30, 28] (.len false (.t 30))<|
.p 32 [31, 28] (.bin .eql .none (.t 31) (.i 0))<|
.nil) 33 [28, 32, 24] (.t 28) y12 (.t 32)<|
.nil) 34 24 33<|
.m 35 34<|
.gA 35 true (.p 36 [1, 35] y16<|
.p 37 [36, 35] (.bin .and .none (.t 36) (.i 8))<|
.p 38 [37, 35] (.bin .neq .none (.t 37) (.i 0))<|
.p 39 [38, 35] (.mov (.t 38))<|
.grp 39 false (.p 40 [2, 39] (.faddr 4 (.t 2))<|
.op (some 41) .i [40, 39] (.load none (.t 40))<|
.p 42 [41, 39] (.bin .eql .none (.t 41) (.i 0))<|
.p 43 [42, 39] (.mov (.t 42))<|
.grp 43 true (.p 44 [2, 43] (.faddr 5 (.t 2))<|
.p 45 [44, 43] (.load none (.t 44))<|
.p 46 [45, 43] (.len false (.t 45))<|
.p 47 [46, 43] (.bin .eql .none (.t 46) (.i 0))<|
.nil) 48 [43, 47, 39] (.t 43) (.t 47) y43<|
.nil) 49 [39, 48, 35] (.t 39) y12 (.t 48)<|
.nil) 50 35 49<|
.m 4 50<|
.nil)
 .ret))
def T131_0 (E : List (Nat × Blk)) (D : Den) (W : DrawFn) (a b : Int) (c d : V) (e : Int) (f : V) (g : Int) (σ : H) : Ans :=
 nbK [(V.int .i64 a), (V.int .i64 b), c, d, (V.int .i64 e), f] σ fun s1 =>
 joinB (fun c2 s3 =>
 joinB (fun c5 s6 =>
 joinB (fun c8 s9 =>
 joinB (fun c11 s12 =>
 some ((V.bool c11), s12)) fun k13 =>
 condK c8 (
 joinB (fun c14 s15 =>
 k13 c14 s15) fun k16 =>
 condK (not (eqF (andF .i64 g (Int.ofNat 8)) (Int.ofNat 0))) (
 k16 true s9) (
 ldK E s9 (H.next σ) 4 fun u17 =>
 rtInt .i64 u17 fun x18 =>
 joinB (fun c19 s20 =>
 k16 c19 s20) fun k21 =>
 condK (eqF x18 (Int.ofNat 0)) (
 ldK E s9 (H.next σ) 5 fun u22 =>
 slenK u22 fun n23 =>
 k21 (eqF (Int.ofNat n23) (Int.ofNat 0)) s9) (
 k21 false s9))) (
 k13 false s9)) fun k10 =>
 condK c5 (
 joinB (fun c24 s25 =>
 k10 c24 s25) fun k26 =>
 condK (not (eqF (andF .i64 g (Int.ofNat 4)) (Int.ofNat 0))) (
 k26 true s6) (
 ldK E s6 (H.next σ) 3 fun u27 =>
 slenK u27 fun n28 =>
 k26 (eqF (Int.ofNat n28) (Int.ofNat 0)) s6)) (
 k10 false s6)) fun k7 =>
 condK c2 (
 joinB (fun c29 s30 =>
 k7 c29 s30) fun k31 =>
 condK (not (eqF (andF .i64 g (Int.ofNat 2)) (Int.ofNat 0))) (
 k31 true s3) (
 ldK E s3 (H.next σ) 2 fun u32 =>
 slenK u32 fun n33 =>
 k31 (eqF (Int.ofNat n33) (Int.ofNat 0)) s3)) (
 k7 false s3)) fun k4 =>
 condK (not (eqF (andF .i64 g (Int.ofNat 1)) (Int.ofNat 0))) (
 k4 true s1) (
 ldK E s1 (H.next σ) 1 fun u34 =>
 rtInt .i64 u34 fun x35 =>
 k4 (eqF x35 (Int.ofNat 0)) s1)
def S131_0 (a b : Int) (c d : V) (e : Int) (f : V) (g : Int) (σ : H) : St := ⟨[(0, (V.agg [(V.int .i64 a), (V.int .i64 b), c, d, (V.int .i64 e), f])), (1, (V.int .i64 g))], [], [], σ⟩
theorem P131_0 (a b : Int) (c d : V) (e : Int) (f : V) (g : Int) (σ : H) :
 denC E D W N (C131_0 ) (S131_0 a b c d e f g σ) (Fin131 E) nX (Fin131 E) =
 T131_0 E D W  a b c d e f g σ := by kernel_rfl
def J131_0 (E : List (Nat × Blk)) (D : Den) (W : DrawFn) (N : Nat) := T131_0 E D W
theorem JE131_0 (a b : Int) (c d : V) (e : Int) (f : V) (g : Int) (σ : H) :
 denC E D W N C131_0 (S131_0 a b c d e f g σ) (Fin131 E) nX (Fin131 E) = J131_0 E D W N a b c d e f g σ := by
 refine (P131_0 E D W N   a b c d e f g σ).trans ?_
 kernel_rfl
def F131 (args : List V) (σ : H) : Ans :=
 rtCons args fun x1 l2 =>
 rtAgg x1 fun l3 =>
 xcI .i64 l3 fun x6 l5 =>
 xcI .i64 l5 fun x9 l8 =>
 rtCons l8 fun x10 l11 =>
 rtCons l11 fun x12 l13 =>
 xcI .i64 l13 fun x16 l15 =>
 rtCons l15 fun x17 l18 =>
 rtNil l18 (
 xcI .i64 l2 fun x21 l20 =>
 rtNil l20 (
 J131_0 E D W N x6 x9 x10 x12 x16 x17 x21 σ))
def A131 : XFn := ⟨51, [y2, .i], [(.tmp 4)], C131_0⟩
theorem FE131 (args : List V) (σ : H) : runX E D W N A131 args σ = F131 E D W N args σ := by
 unfold F131
 simp only [← JE131_0]
 kernel_rfl
def Fin132 (E : List (Nat × Blk)) : St → Ans := fun s => resK E s [(.tmp 4)] fun l => some (oneV l, s.σ)
def C132_0 : XC := (.z (.P 2 (.box 141 (.t 0))<|
.c 4 y3<|
.nil)
 (.z (.f 5 0 2<|
.l 6 .bool 5<|
.P 7 (.un .not (.t 6))<|
.m 8 7<|
.gO 8 false (.p 9 [2, 8] (.faddr 1 (.t 2))<|
.op (some 10) .bool [9, 8] (.load none (.t 9))<|
.p 11 [10, 8] (.un .not (.t 10))<|
.p 12 [11, 8] (.mov (.t 11))<|
.grp 12 false (.p 13 [1, 12] y16<|
.p 14 [2, 12] (.faddr 4 (.t 2))<|
.op (some 15) .i [14, 12] (.load none (.t 14))<|
.p 16 [13, 15, 12] (.bin .geq .none (.t 13) (.t 15))<|
.nil) 17 [12, 16, 8] (.t 12) y12 (.t 16)<|
.p 18 [17, 8] (.mov (.t 17))<|
.grp 18 true (.p 19 [2, 18] (.faddr 2 (.t 2))<|
.op (some 20) .bool [19, 18] (.load none (.t 19))<|
.p 21 [20, 18] (.un .not (.t 20))<|
.p 22 [21, 18] (.mov (.t 21))<|
.grp 22 false (.p 23 [1, 22] y16<|
.p 24 [2, 22] (.faddr 5 (.t 2))<|
.op (some 25) .i [24, 22] (.load none (.t 24))<|
.p 26 [23, 25, 22] (.bin .leq .none (.t 23) (.t 25))<|
.nil) 27 [22, 26, 18] (.t 22) y12 (.t 26)<|
.nil) 28 [18, 27, 8] (.t 18) (.t 27) y43<|
.nil) 29 8 28<|
.m 4 29<|
.nil)
 .ret))
def T132_0 (E : List (Nat × Blk)) (D : Den) (W : DrawFn) (a b c d : Bool) (e f g : Int) (σ : H) : Ans :=
 nbK [(V.bool a), (V.bool b), (V.bool c), (V.bool d), (V.int .i64 e), (V.int .i64 f)] σ fun s1 =>
 ldK E s1 (H.next σ) 0 fun u2 =>
 rtBool u2 fun x3 =>
 joinB (fun c4 s5 =>
 some ((V.bool c4), s5)) fun k6 =>
 condK (not x3) (
 k6 true s1) (
 ldK E s1 (H.next σ) 1 fun u7 =>
 rtBool u7 fun x8 =>
 joinB (fun c9 s10 =>
 joinB (fun c12 s13 =>
 k6 c12 s13) fun k14 =>
 condK c9 (
 ldK E s10 (H.next σ) 2 fun u15 =>
 rtBool u15 fun x16 =>
 joinB (fun c17 s18 =>
 k14 c17 s18) fun k19 =>
 condK (not x16) (
 k19 true s10) (
 ldK E s10 (H.next σ) 5 fun u20 =>
 rtInt .i64 u20 fun x21 =>
 k19 (leF g x21) s10)) (
 k14 false s10)) fun k11 =>
 condK (not x8) (
 k11 true s1) (
 ldK E s1 (H.next σ) 4 fun u22 =>
 rtInt .i64 u22 fun x23 =>
 k11 (leF x23 g) s1))
def S132_0 (a b c d : Bool) (e f g : Int) (σ : H) : St := ⟨[(0, (V.agg [(V.bool a), (V.bool b), (V.bool c), (V.bool d), (V.int .i64 e), (V.int .i64 f)])), (1, (V.int .i64 g))], [], [], σ⟩
theorem P132_0 (a b c d : Bool) (e f g : Int) (σ : H) :
 denC E D W N (C132_0 ) (S132_0 a b c d e f g σ) (Fin132 E) nX (Fin132 E) =
 T132_0 E D W  a b c d e f g σ := by kernel_rfl
def J132_0 (E : List (Nat × Blk)) (D : Den) (W : DrawFn) (N : Nat) := T132_0 E D W
theorem JE132_0 (a b c d : Bool) (e f g : Int) (σ : H) :
 denC E D W N C132_0 (S132_0 a b c d e f g σ) (Fin132 E) nX (Fin132 E) = J132_0 E D W N a b c d e f g σ := by
 refine (P132_0 E D W N   a b c d e f g σ).trans ?_
 kernel_rfl
def F132 (args : List V) (σ : H) : Ans :=
 rtCons args fun x1 l2 =>
 rtAgg x1 fun l3 =>
 xcB l3 fun x6 l5 =>
 xcB l5 fun x9 l8 =>
 xcB l8 fun x12 l11 =>
 xcB l11 fun x15 l14 =>
 xcI .i64 l14 fun x18 l17 =>
 xcI .i64 l17 fun x21 l20 =>
 rtNil l20 (
 xcI .i64 l2 fun x24 l23 =>
 rtNil l23 (
 J132_0 E D W N x6 x9 x12 x15 x18 x21 x24 σ))
def A132 : XFn := ⟨30, [y4, .i], [(.tmp 4)], C132_0⟩
theorem FE132 (args : List V) (σ : H) : runX E D W N A132 args σ = F132 E D W N args σ := by
 unfold F132
 simp only [← JE132_0]
 kernel_rfl
def q134a : List (Nat × List XTy) := [(9, [.i, .any, .bool, .bool, .bool, .bool, .i, .i, .any, .any, .i, .bool, .i])]
def Fin134 (E : List (Nat × Blk)) : St → Ans := fun s => resK E s [(.tmp 6)] fun l => some (oneV l, s.σ)
def C134_0 : XC := (.z (.P 4 (.box 145 (.t 1))<|
.P 5 (.box 38 (.t 2))<|
.c 6 y3<|
.nil)
 (.z (.O 7 y2 (.load (some 6) (.t 5))<|
.k 8 .bool 131 [(.t 7), (.i 2)]<|
.m 9 8<|
.gA 9 true (.p 10 [5, 9] (.faddr 2 (.t 5))<|
.p 11 [10, 9] (.load none (.t 10))<|
.p 12 [11, 9] (.len false (.t 11))<|
.p 13 [12, 9] (.bin .leq .none (.t 12) (.i 70000))<|
.nil) 14 9 13<|
.m 15 14<|
.gA 15 true (.p 16 [4, 15] (.faddr 2 (.t 4))<|
.p 17 [16, 15] (.faddr 3 (.t 16))<|
.op (some 18) .bool [17, 15] (.load none (.t 17))<|
.p 19 [18, 15] (.mov (.t 18))<|
.grp 19 false (.p 20 [4, 19] (.faddr 2 (.t 4))<|
.op (some 21) y4 [20, 19] (.load (some 6) (.t 20))<|
.p 22 [5, 19] (.faddr 2 (.t 5))<|
.p 23 [22, 19] (.load none (.t 22))<|
.p 24 [23, 19] (.len false (.t 23))<|
.op (some 25) .bool [21, 24, 19] (.call 132 [(.t 21), (.t 24)])<|
.nil) 26 [19, 25, 15] (.t 19) y12 (.t 25)<|
.nil) 27 15 26<|
.m 28 27<|
.gA 28 true (.p 29 [4, 28] (.faddr 0 (.t 4))<|
.op (some 30) .i [29, 28] (.load none (.t 29))<|
.p 31 [30, 28] (.bin .eql .none (.t 30) (.i 5))<|
.p 32 [31, 28] (.mov (.t 31))<|
.grp 32 false (.p 33 [5, 32] (.faddr 2 (.t 5))<|
.p 34 [33, 32] (.load none (.t 33))<|
.op (some 35) .bool [34, 32] (.call 167 [(.t 34)])<|
.nil) 36 [32, 35, 28] (.t 32) y12 (.t 35)<|
.nil) 37 28 36<|
.m 6 37<|
.nil)
 .ret))
def T134_0 (E : List (Nat × Blk)) (D : Den) (W : DrawFn) (a : V) (b : Int) (c : V) (d e f g : Bool) (h i : Int) (j k : V) (l : Int) (m : Bool) (o p q : Int) (r s : V) (t : Int) (u : V) (σ : H) : Ans :=
 nbK [(V.int .i64 b), c, (V.bool d), (V.bool e), (V.bool f), (V.bool g), (V.int .i64 h), (V.int .i64 i), j, k, (V.int .i64 l), (V.bool m), (V.int .i64 o)] σ fun s1 =>
 nbK [(V.int .i64 p), (V.int .i64 q), r, s, (V.int .i64 t), u] s1 fun s2 =>
 ldnK E s2 (H.next s1) 0 6 fun l3 =>
 xcI .i64 l3 fun x6 l5 =>
 xcI .i64 l5 fun x9 l8 =>
 rtCons l8 fun x10 l11 =>
 rtCons l11 fun x12 l13 =>
 xcI .i64 l13 fun x16 l15 =>
 rtCons l15 fun x17 l18 =>
 rtNil l18 (
 callK (D 131 [(V.agg [(V.int .i64 x6), (V.int .i64 x9), x10, x12, (V.int .i64 x16), x17]), (V.int .i64 (Int.ofNat 2))] s2) fun u19 s20 =>
 rtBool u19 fun x21 =>
 joinB (fun c22 s23 =>
 joinB (fun c25 s26 =>
 joinB (fun c28 s29 =>
 some ((V.bool c28), s29)) fun k30 =>
 condK c25 (
 ldK E s26 (H.next σ) 0 fun u31 =>
 rtInt .i64 u31 fun x32 =>
 joinB (fun c33 s34 =>
 k30 c33 s34) fun k35 =>
 condK (eqF x32 (Int.ofNat 5)) (
 k35 true s26) (
 ldK E s26 (H.next s1) 2 fun u36 =>
 callK (D 167 [u36] s26) fun u37 s38 =>
 rtBool u37 fun x39 =>
 k35 x39 s38)) (
 k30 false s26)) fun k27 =>
 condK c22 (
 ldK E s23 (H.next σ) 5 fun u40 =>
 rtBool u40 fun x41 =>
 joinB (fun c42 s43 =>
 k27 c42 s43) fun k44 =>
 condK x41 (
 k44 true s23) (
 ldnK E s23 (H.next σ) 2 6 fun l45 =>
 xcB l45 fun x48 l47 =>
 xcB l47 fun x51 l50 =>
 xcB l50 fun x54 l53 =>
 xcB l53 fun x57 l56 =>
 xcI .i64 l56 fun x60 l59 =>
 xcI .i64 l59 fun x63 l62 =>
 rtNil l62 (
 ldK E s23 (H.next s1) 2 fun u64 =>
 slenK u64 fun n65 =>
 callK (D 132 [(V.agg [(V.bool x48), (V.bool x51), (V.bool x54), (V.bool x57), (V.int .i64 x60), (V.int .i64 x63)]), (V.int .i64 (Int.ofNat n65))] s23) fun u66 s67 =>
 rtBool u66 fun x68 =>
 k44 x68 s67))) (
 k27 false s23)) fun k24 =>
 condK x21 (
 ldK E s20 (H.next s1) 2 fun u69 =>
 slenK u69 fun n70 =>
 k24 (leF (Int.ofNat n70) (Int.ofNat 70000)) s20) (
 k24 false s20))
def S134_0 (a : V) (b : Int) (c : V) (d e f g : Bool) (h i : Int) (j k : V) (l : Int) (m : Bool) (o p q : Int) (r s : V) (t : Int) (u : V) (σ : H) : St := ⟨[(0, a), (1, (V.agg [(V.int .i64 b), c, (V.bool d), (V.bool e), (V.bool f), (V.bool g), (V.int .i64 h), (V.int .i64 i), j, k, (V.int .i64 l), (V.bool m), (V.int .i64 o)])), (2, (V.agg [(V.int .i64 p), (V.int .i64 q), r, s, (V.int .i64 t), u]))], [], [], σ⟩
theorem P134_0 (a : V) (b : Int) (c : V) (d e f g : Bool) (h i : Int) (j k : V) (l : Int) (m : Bool) (o p q : Int) (r s : V) (t : Int) (u : V) (σ : H) :
 denC E D W N (C134_0 ) (S134_0 a b c d e f g h i j k l m o p q r s t u σ) (Fin134 E) nX (Fin134 E) =
 T134_0 E D W  a b c d e f g h i j k l m o p q r s t u σ := by kernel_rfl
def J134_0 (E : List (Nat × Blk)) (D : Den) (W : DrawFn) (N : Nat) := T134_0 E D W
theorem JE134_0 (a : V) (b : Int) (c : V) (d e f g : Bool) (h i : Int) (j k : V) (l : Int) (m : Bool) (o p q : Int) (r s : V) (t : Int) (u : V) (σ : H) :
 denC E D W N C134_0 (S134_0 a b c d e f g h i j k l m o p q r s t u σ) (Fin134 E) nX (Fin134 E) = J134_0 E D W N a b c d e f g h i j k l m o p q r s t u σ := by
 refine (P134_0 E D W N   a b c d e f g h i j k l m o p q r s t u σ).trans ?_
 kernel_rfl
def F134 (args : List V) (σ : H) : Ans :=
 rtCons args fun x1 l2 =>
 rtCons l2 fun x3 l4 =>
 rtAgg x3 fun l5 =>
 xcI .i64 l5 fun x8 l7 =>
 rtCons l7 fun x9 l10 =>
 xcB l10 fun x13 l12 =>
 xcB l12 fun x16 l15 =>
 xcB l15 fun x19 l18 =>
 xcB l18 fun x22 l21 =>
 xcI .i64 l21 fun x25 l24 =>
 xcI .i64 l24 fun x28 l27 =>
 rtCons l27 fun x29 l30 =>
 rtCons l30 fun x31 l32 =>
 xcI .i64 l32 fun x35 l34 =>
 xcB l34 fun x38 l37 =>
 xcI .i64 l37 fun x41 l40 =>
 rtNil l40 (
 rtCons l4 fun x42 l43 =>
 rtAgg x42 fun l44 =>
 xcI .i64 l44 fun x47 l46 =>
 xcI .i64 l46 fun x50 l49 =>
 rtCons l49 fun x51 l52 =>
 rtCons l52 fun x53 l54 =>
 xcI .i64 l54 fun x57 l56 =>
 rtCons l56 fun x58 l59 =>
 rtNil l59 (
 rtNil l43 (
 J134_0 E D W N x1 x8 x9 x13 x16 x19 x22 x25 x28 x29 x31 x35 x38 x41 x47 x50 x51 x53 x57 x58 σ)))
def A134 : XFn := ⟨38, [.any, y1, y2], [(.tmp 6)], C134_0⟩
theorem FE134 (args : List V) (σ : H) : runX E D W N A134 args σ = F134 E D W N args σ := by
 unfold F134
 simp only [← JE134_0]
 kernel_rfl
def C136_0 (cc1 : XC) (cc2 : XC) : XC := (.z (.P 6 (.box 38 (.t 2))<|
.c 8 y3<|
.nil)
 (.z (.m 13 0<|
.n 14 13<|
.f 15 0 14<|
.f 16 0 15<|
.f 17 3 16<|
.l 18 .any 17<|
.m 19 1<|
.s 20 13 18 19<|
.O 21 y1 (.load (some 13) (.t 20))<|
.pal 9 [] 145 [y0, V.nils, y3, y3, y3, y3, y0, y0, V.nils, V.nils, y0, y3, y0]<|
.op none y1 [9, 21] (.store 13 (.t 9) (.t 21))<|
.nil)
 (.seq (.z (.O 22 y2 (.load (some 6) (.t 6))<|
.k 23 .bool 131 [(.t 22), (.i 12)]<|
.P 24 (.un .not (.t 23))<|
.m 25 24<|
.gO 25 false (.p 26 [6, 25] (.faddr 3 (.t 6))<|
.p 27 [26, 25] (.load none (.t 26))<|
.p 28 [27, 25] (.len false (.t 27))<|
.p 29 [9, 25] (.faddr 9 (.t 9))<|
.p 30 [29, 25] (.load none (.t 29))<|
.p 31 [30, 25] (.len false (.t 30))<|
.p 32 [28, 31, 25] (.bin .neq .none (.t 28) (.t 31))<|
.nil) 33 25 32<|
.m 34 33<|
.gO 34 false (.p 35 [0, 34] y13<|
.p 36 [1, 34] y16<|
.op (some 37) y2 [6, 34] (.load (some 6) (.t 6))<|
.op (some 38) .bool [35, 36, 37, 34] (.call 230 [(.t 35), (.t 36), (.t 37)])<|
.p 39 [38, 34] (.un .not (.t 38))<|
.nil) 40 34 39<|
.nil)
 (.cond (.tmp 40) (.z (.c 8 y3<|
.nil)
 .ret)
 .skip))
 (.seq (.z (.f 41 9 9<|
.l 42 .any 41<|
.u 43 42<|
.q 44 0<|
.nil)
 (.block 0 (.loop [(0, .ptr), (1, .i), (3, .i), (6, .ptr), (42, .any), (43, .i), (44, .i)] [9] q134a cc2)))
 (.keep [(0, .ptr), (1, .i), (6, .ptr)] [] [] cc1)))))
def C136_1 : XC := (.z (.m 87 0<|
.m 88 1<|
.O 89 y2 (.load (some 6) (.t 6))<|
.k 90 .bool 233 [(.t 87), (.t 88), (.t 89)]<|
.m 8 90<|
.nil)
 .ret)
def C136_2 (cc3 : XC) : XC := (.z (.b 45 .lss .none (.t 44) (.t 43)<|
.nil)
 (.seq (.cond (.tmp 45) .skip
 y23)
 (.seq (.block 1 (.z (.m 46 44<|
.s 47 11 42 44<|
.O 48 y9 (.load (some 11) (.t 47))<|
.pal 11 [] 200 [y7, y0, y3, y3, y0, y0, V.nils, V.nils, y0, V.nils, y0]<|
.m 10 46<|
.op none y9 [11, 48] (.store 11 (.t 11) (.t 48))<|
.nil)
 (.z (.f 49 3 6<|
.l 50 .any 49<|
.m 51 10<|
.s 52 6 50 51<|
.O 53 y2 (.load (some 6) (.t 52))<|
.pal 12 [] 38 [y0, y0, V.nils, V.nils, y0, V.nils]<|
.op none y2 [12, 53] (.store 6 (.t 12) (.t 53))<|
.nil)
 (.block 2 (.z (.f 55 0 12<|
.l 56 .i 55<|
.b 57 .eql .none (.t 56) (.i 0)<|
.m 54 57<|
.nil)
 (.cond (.tmp 54) (.z (.O 58 y2 (.load (some 6) (.t 12))<|
.k 59 .bool 158 [(.t 58)]<|
.P 60 (.un .not (.t 59))<|
.m 61 60<|
.gO 61 false (.op (some 62) y1 [9, 61] (.load (some 13) (.t 9))<|
.p 63 [10, 61] (.mov (.t 10))<|
.op (some 64) .bool [62, 63, 61] (.call 231 [(.t 62), (.t 63)])<|
.p 65 [64, 61] (.un .not (.t 64))<|
.nil) 66 61 65<|
.nil)
 (.cond (.tmp 66) (.z (.c 8 y3<|
.nil)
 .ret)
 .skip))
 (.z (.m 68 0<|
.f 69 1 11<|
.l 70 .i 69<|
.O 71 y2 (.load (some 6) (.t 12))<|
.m 72 3<|
.b 73 .add .none (.t 72) (.i 1)<|
.k 74 .bool 65 [(.t 68), (.t 70), (.t 71), (.t 73)]<|
.P 75 (.un .not (.t 74))<|
.m 76 75<|
.gO 76 false (.p 77 [11, 76] (.faddr 3 (.t 11))<|
.op (some 78) .bool [77, 76] (.load none (.t 77))<|
.p 79 [78, 76] (.mov (.t 78))<|
.grp 79 true (.op (some 80) y2 [12, 79] (.load (some 6) (.t 12))<|
.p 81 [11, 79] (.faddr 4 (.t 11))<|
.op (some 82) y2 [81, 79] (.load (some 6) (.t 81))<|
.op (some 83) .bool [80, 82, 79] (.call 232 [(.t 80), (.t 82)])<|
.nil) 84 [79, 83, 76] (.t 79) (.t 83) y43<|
.nil) 85 76 84<|
.m 67 85<|
.nil)
 (.cond (.tmp 67) (.z (.c 8 y3<|
.nil)
 .ret)
 .skip))))))))
 (.keep [(0, .ptr), (1, .i), (3, .i), (6, .ptr), (42, .any), (43, .i), (44, .i)] [9] q134a cc3))))
def C136_3 : XC := (.ops (.b 86 .add .none (.t 44) (.i 1)<|
.m 44 86<|
.nil))
def A136 : XFn := ⟨91, [.ptr, .i, y2, .i], [(.tmp 8)], (C136_0 C136_1 (C136_2 C136_3))⟩
def C137_0 (cc1 : XC) (cc2 : XC) : XC := (.z (.q 4 0<|
.nil)
 (.seq (.z (.m 6 0<|
.u 7 6<|
.q 8 0<|
.nil)
 (.block 0 (.loop [(0, .any), (1, .any), (7, .i), (8, .i)] [] [] cc2)))
 (.keep [] [] [] cc1)))
def C137_1 : XC := (.z (.c 4 y21<|
.nil)
 .ret)
def C137_2 : XC := (.z (.b 9 .lss .none (.t 8) (.t 7)<|
.nil)
 (.seq y18
 (.seq (.block 1 (.z (.m 10 8<|
.m 5 10<|
.nil)
 (.z (.m 11 1<|
.m 12 0<|
.m 13 5<|
.s 14 13 12 13<|
.O 15 y1 (.load (some 13) (.t 14))<|
.O 16 .bool (.callv (.t 11) [(.t 15)])<|
.nil)
 y31)))
 y35)))
def A137 : XFn := ⟨19, y38, [(.tmp 4)], (C137_0 C137_1 C137_2)⟩
def q138a : List (Nat × XTy) := [(0, .any), (1, .any), (7, .i), (8, .i)]
def Fin138 (E : List (Nat × Blk)) : St → Ans := fun s => resK E s [(.tmp 4)] fun l => some (oneV l, s.σ)
def b138a (c0 : XC) : Nat → St → Ans := blkK 0 (dX E D W N (.keep [] [] [] c0) (Fin138 E) nX (Fin138 E)) nX
def C138_0 (cc1 : XC) (cc2 : XC) : XC := (.z (.q 4 0<|
.nil)
 (.seq (.z (.m 6 0<|
.u 7 6<|
.q 8 0<|
.nil)
 (.block 0 (.loop q138a [] [] cc2)))
 (.keep [] [] [] cc1)))
def T138_0 (E : List (Nat × Blk)) (D : Den) (W : DrawFn) (K2 : V → V → Int → Int → H → Ans) (a b : V) (σ : H) : Ans :=
 slenK a fun n1 =>
 K2 a b (Int.ofNat n1) (Int.ofNat 0) σ
def C138_1 : XC := (.z (.c 4 y21<|
.nil)
 .ret)
def T138_1 (E : List (Nat × Blk)) (D : Den) (W : DrawFn) (σ : H) : Ans :=
 some ((V.int .i64 (Int.negSucc 0)), σ)
def C138_2 : XC := (.z (.b 9 .lss .none (.t 8) (.t 7)<|
.nil)
 (.seq y18
 (.seq (.block 1 (.z (.m 10 8<|
.m 5 10<|
.nil)
 (.z (.m 11 1<|
.m 12 0<|
.m 13 5<|
.s 14 6 12 13<|
.O 15 y2 (.load (some 6) (.t 14))<|
.O 16 .bool (.callv (.t 11) [(.t 15)])<|
.nil)
 y31)))
 y35)))
def T138_2 (E : List (Nat × Blk)) (D : Den) (W : DrawFn) (K1 : H → Ans) (R2 : V → V → Int → Int → H → Ans) (a b : V) (c d : Int) (σ : H) : Ans :=
 condK (ltF d c) (
 iaddrSK 6 a d fun b1 o2 =>
 ldnK E σ b1 o2 6 fun l3 =>
 xcI .i64 l3 fun x6 l5 =>
 xcI .i64 l5 fun x9 l8 =>
 rtCons l8 fun x10 l11 =>
 rtCons l11 fun x12 l13 =>
 xcI .i64 l13 fun x16 l15 =>
 rtCons l15 fun x17 l18 =>
 rtNil l18 (
 callvK D b [(V.agg [(V.int .i64 x6), (V.int .i64 x9), x10, x12, (V.int .i64 x16), x17])] σ fun u19 s20 =>
 rtBool u19 fun x21 =>
 condK x21 (
 some ((V.int .i64 d), s20)) (
 R2 a b c (addF .i64 d (Int.ofNat 1)) s20))) (
 K1 σ)
def S138_0 (a b : V) (σ : H) : St := ⟨[(0, a), (1, b)], [], [], σ⟩
def S138_1 (σ : H) : St := ⟨[], [], [], σ⟩
def S138_2 (a b : V) (c d : Int) (σ : H) : St := ⟨[(0, a), (1, b), (7, (V.int .i64 c)), (8, (V.int .i64 d))], [], [], σ⟩
theorem P138_0 (cc1 : XC) (cc2 : XC) (a b : V) (σ : H) :
 denC E D W N (C138_0 cc1 cc2) (S138_0 a b σ) (Fin138 E) nX (Fin138 E) =
 T138_0 E D W (fun a b c d σ => iterK (fun rec s' => denC E D W N cc2 s' (kX q138a [] [] rec) (b138a E D W N cc1) (Fin138 E)) N (S138_2 a b c d σ)) a b σ := by kernel_rfl
theorem P138_1 (σ : H) :
 denC E D W N (C138_1 ) (S138_1 σ) (Fin138 E) nX (Fin138 E) =
 T138_1 E D W   σ := by kernel_rfl
theorem P138_2 (cc1 : XC) (li2 : St → Ans) (a b : V) (c d : Int) (σ : H) :
 denC E D W N (C138_2 ) (S138_2 a b c d σ) (kX q138a [] [] li2) (b138a E D W N cc1) (Fin138 E) =
 T138_2 E D W (fun  σ => denC E D W N cc1 (S138_1 σ) (Fin138 E) nX (Fin138 E)) (fun a b c d σ => li2 (S138_2 a b c d σ)) a b c d σ := by kernel_rfl
def J138_1 (E : List (Nat × Blk)) (D : Den) (W : DrawFn) (N : Nat) := T138_1 E D W
theorem JE138_1 (σ : H) :
 denC E D W N C138_1 (S138_1 σ) (Fin138 E) nX (Fin138 E) = J138_1 E D W N  σ := by
 refine (P138_1 E D W N    σ).trans ?_
 kernel_rfl
def L138_2 (n : Nat) : V → V → Int → Int → H → Ans :=
 Nat.rec (fun _ _ _ _ _ => none) (fun _ ih => T138_2 E D W (J138_1 E D W N ) ih) n
theorem LE138_2 (n : Nat) : ∀ (a b : V) (c d : Int) (σ : H),
 iterK (fun rec s' => denC E D W N C138_2 s' (kX q138a [] [] rec) (b138a E D W N C138_1) (Fin138 E)) n (S138_2 a b c d σ) = L138_2 E D W N n a b c d σ := by
 induction n with
 | zero => intro a b c d σ; rfl
 | succ n ihn =>
  intro a b c d σ
  rw [iterK_succ]
  refine (P138_2 E D W N C138_1 (iterK (fun rec s' => denC E D W N C138_2 s' (kX q138a [] [] rec) (b138a E D W N C138_1) (Fin138 E)) n) a b c d σ).trans ?_
  simp only [ihn, JE138_1]
  kernel_rfl
def J138_0 := T138_0 E D W (L138_2 E D W N N)
theorem JE138_0 (a b : V) (σ : H) :
 denC E D W N (C138_0 C138_1 C138_2) (S138_0 a b σ) (Fin138 E) nX (Fin138 E) = J138_0 E D W N a b σ := by
 refine (P138_0 E D W N C138_1 C138_2  a b σ).trans ?_
 simp only [LE138_2]
 kernel_rfl
def F138 (args : List V) (σ : H) : Ans :=
 rtCons args fun x1 l2 =>
 rtCons l2 fun x3 l4 =>
 rtNil l4 (
 J138_0 E D W N x1 x3 σ)
def A138 : XFn := ⟨19, y38, [(.tmp 4)], (C138_0 C138_1 C138_2)⟩
theorem FE138 (args : List V) (σ : H) : runX E D W N A138 args σ = F138 E D W N args σ := by
 unfold F138
 simp only [← JE138_0]
 kernel_rfl
def Fin139 (E : List (Nat × Blk)) : St → Ans := fun s => resK E s [] fun l => some (oneV l, s.σ)
def C139_0 : XC := (.seq (.z (.m 6 0<|
.b 7 .eql .ptr (.t 6) y34<|
.nil)
 (.cond (.tmp 7) .ret
 .skip))
 (.z (.m 8 2<|
.k 9 .i 182 [(.t 8)]<|
.m 2 9<|
.nil)
 (.z (.m 10 0<|
.n 11 10<|
.f 12 0 11<|
.m 13 1<|
.b 14 .shr .none (.t 13) (.con (V.int .u64 (Int.ofNat 32)))<|
.P 15 (.conv (.toInt .u32) (.t 14))<|
.m 16 2<|
.b 17 .sub .none (.t 16) (.i 32)<|
.k 18 y10 234 [(.t 12), (.t 15), (.t 17)]<|
.nil)
 (.ops (.m 19 0<|
.n 20 19<|
.f 21 0 20<|
.m 22 1<|
.P 23 (.conv (.toInt .u32) (.t 22))<|
.m 24 2<|
.p 25 [24] (.min (.t 24) [(.i 32)])<|
.k 26 y10 234 [(.t 21), (.t 23), (.t 25)]<|
.nil)))))
def T139_0 (E : List (Nat × Blk)) (D : Den) (W : DrawFn) (a : V) (b c : Int) (σ : H) : Ans :=
 eqK .ptr a V.nilp fun c1 =>
 condK c1 (
 some ((V.tup []), σ)) (
 callK (D 182 [(V.int .i64 c)] σ) fun u2 s3 =>
 rtInt .i64 u2 fun x4 =>
 rtPtr a fun b5 o6 =>
 callK (D 234 [(V.ptr b5 o6), (V.int .u32 (wrapF .u32 (shrF .u64 b 32))), (V.int .i64 (subF .i64 x4 (Int.ofNat 32)))] s3) fun u7 s8 =>
 rtTup u7 fun l9 =>
 rtNil l9 (
 rtPtr a fun b10 o11 =>
 callK (D 234 [(V.ptr b10 o11), (V.int .u32 (wrapF .u32 b)), (V.int .i64 (minF x4 (Int.ofNat 32)))] s8) fun u12 s13 =>
 rtTup u12 fun l14 =>
 rtNil l14 (
 some ((V.tup []), s13))))
def S139_0 (a : V) (b c : Int) (σ : H) : St := ⟨[(0, a), (1, (V.int .u64 b)), (2, (V.int .i64 c))], [], [], σ⟩
theorem P139_0 (a : V) (b c : Int) (σ : H) :
 denC E D W N (C139_0 ) (S139_0 a b c σ) (Fin139 E) nX (Fin139 E) =
 T139_0 E D W  a b c σ := by kernel_rfl
def J139_0 (E : List (Nat × Blk)) (D : Den) (W : DrawFn) (N : Nat) := T139_0 E D W
theorem JE139_0 (a : V) (b c : Int) (σ : H) :
 denC E D W N C139_0 (S139_0 a b c σ) (Fin139 E) nX (Fin139 E) = J139_0 E D W N a b c σ := by
 refine (P139_0 E D W N   a b c σ).trans ?_
 kernel_rfl
def F139 (args : List V) (σ : H) : Ans :=
 rtCons args fun x1 l2 =>
 xcI .u64 l2 fun x5 l4 =>
 xcI .i64 l4 fun x8 l7 =>
 rtNil l7 (
 J139_0 E D W N x1 x5 x8 σ)
def A139 : XFn := ⟨27, [.any, (.int .u64), .i], [], C139_0⟩
theorem FE139 (args : List V) (σ : H) : runX E D W N A139 args σ = F139 E D W N args σ := by
 unfold F139
 simp only [← JE139_0]
 kernel_rfl
def C140_0 : XC := (.z (.P 1 (.box 141 (.t 0))<|
.c 2 y20<|
.c 3 y3<|
.nil)
 (.z (.O 5 y4 (.load (some 6) (.t 1))<|
.op (some 6) y4 [5] (.build [y3, y3, y3, y3, y0, y0] [(0, 6, (.t 5))])<|
.pal 4 [] 266 [y3, y3, y3, y3, y0, y0]<|
.op none y4 [4, 6] (.store 6 (.t 4) (.t 6))<|
.nil)
 (.seq (.z (.O 7 y4 (.load (some 6) (.t 4))<|
.k 8 .bool 235 [(.t 7)]<|
.P 9 (.un .not (.t 8))<|
.m 10 9<|
.gO 10 false (.op (some 11) y4 [4, 10] (.load (some 6) (.t 4))<|
.op (some 12) .bool [11, 10] (.call 236 [(.t 11)])<|
.nil) 13 10 12<|
.nil)
 (.cond (.tmp 13) (.z (.c 2 y20<|
.c 3 y3<|
.nil)
 .ret)
 .skip))
 (.z (.f 14 0 4<|
.f 15 5 14<|
.l 16 .i 15<|
.P 17 (.conv (.toInt .u64) (.t 16))<|
.f 18 0 4<|
.f 19 4 18<|
.l 20 .i 19<|
.P 21 (.conv (.toInt .u64) (.t 20))<|
.b 22 .sub .none (.t 17) (.t 21)<|
.m 2 22<|
.c 3 y26<|
.nil)
 .ret))))
def A140 : XFn := ⟨23, [y4], [(.tmp 2), (.tmp 3)], C140_0⟩
def C141_0 : XC := (.ops (.m 6 0<|
.m 7 1<|
.m 8 2<|
.p 9 [7, 8] (.min (.t 7) [(.t 8)])<|
.m 10 2<|
.k 11 .i 237 [(.t 10)]<|
.k 12 y10 139 [(.t 6), (.t 9), (.t 11)]<|
.nil))
def A141 : XFn := ⟨13, [.any, (.int .u64), (.int .u64)], [], C141_0⟩
def q147a : List (Nat × XTy) := [(3, .any), (6, .any), (7, .i), (8, .i)]
def Fin147 (E : List (Nat × Blk)) : St → Ans := fun s => resK E s [(.tmp 2)] fun l => some (oneV l, s.σ)
def b147a (c0 : XC) : Nat → St → Ans := blkK 0 (dX E D W N (.keep [(3, .any)] [] [] c0) (Fin147 E) nX (Fin147 E)) nX
def C147_0 (cc1 : XC) (cc2 : XC) : XC := (.z (.c 2 V.nils<|
.nil)
 (.z (.c 3 V.nils<|
.nil)
 (.seq (.z (.m 6 0<|
.u 7 6<|
.q 8 0<|
.nil)
 (.block 0 (.loop q147a [] [] cc2)))
 (.keep [(3, .any)] [] [] cc1))))
def T147_0 (E : List (Nat × Blk)) (D : Den) (W : DrawFn) (K2 : V → V → Int → Int → H → Ans) (a : V) (σ : H) : Ans :=
 slenK a fun n1 =>
 K2 V.nils a (Int.ofNat n1) (Int.ofNat 0) σ
def C147_1 : XC := (.z (.m 16 3<|
.m 2 16<|
.nil)
 .ret)
def T147_1 (E : List (Nat × Blk)) (D : Den) (W : DrawFn) (a : V) (σ : H) : Ans :=
 some (a, σ)
def C147_2 : XC := (.z (.b 9 .lss .none (.t 8) (.t 7)<|
.nil)
 (.seq y18
 (.seq (.block 1 (.z (.s 10 1 6 8<|
.l 11 .any 10<|
.m 5 11<|
.nil)
 (.ops (.m 12 3<|
.m 13 5<|
.O 14 .one (.append 5 1 1 (.t 12) (.t 13))<|
.m 3 14<|
.nil))))
 (.ops (.b 15 .add .none (.t 8) (.i 1)<|
.m 8 15<|
.nil)))))
def T147_2 (E : List (Nat × Blk)) (D : Den) (W : DrawFn) (K1 : V → H → Ans) (R2 : V → V → Int → Int → H → Ans) (a b : V) (c d : Int) (σ : H) : Ans :=
 condK (ltF d c) (
 iaddrSK 1 b d fun b1 o2 =>
 ldK E σ b1 o2 fun u3 =>
 appK E 1 1 a u3 σ fun u4 s5 =>
 rtOne u4 (
 R2 u4 b c (addF .i64 d (Int.ofNat 1)) s5)) (
 K1 a σ)
def S147_0 (a : V) (σ : H) : St := ⟨[(0, a)], [], [], σ⟩
def S147_1 (a : V) (σ : H) : St := ⟨[(3, a)], [], [], σ⟩
def S147_2 (a b : V) (c d : Int) (σ : H) : St := ⟨[(3, a), (6, b), (7, (V.int .i64 c)), (8, (V.int .i64 d))], [], [], σ⟩
theorem P147_0 (cc1 : XC) (cc2 : XC) (a : V) (σ : H) :
 denC E D W N (C147_0 cc1 cc2) (S147_0 a σ) (Fin147 E) nX (Fin147 E) =
 T147_0 E D W (fun b c d e σ => iterK (fun rec s' => denC E D W N cc2 s' (kX q147a [] [] rec) (b147a E D W N cc1) (Fin147 E)) N (S147_2 b c d e σ)) a σ := by kernel_rfl
theorem P147_1 (a : V) (σ : H) :
 denC E D W N (C147_1 ) (S147_1 a σ) (Fin147 E) nX (Fin147 E) =
 T147_1 E D W  a σ := by kernel_rfl
theorem P147_2 (cc1 : XC) (li2 : St → Ans) (a b : V) (c d : Int) (σ : H) :
 denC E D W N (C147_2 ) (S147_2 a b c d σ) (kX q147a [] [] li2) (b147a E D W N cc1) (Fin147 E) =
 T147_2 E D W (fun a σ => denC E D W N cc1 (S147_1 a σ) (Fin147 E) nX (Fin147 E)) (fun a b c d σ => li2 (S147_2 a b c d σ)) a b c d σ := by kernel_rfl
def J147_1 (E : List (Nat × Blk)) (D : Den) (W : DrawFn) (N : Nat) := T147_1 E D W
theorem JE147_1 (a : V) (σ : H) :
 denC E D W N C147_1 (S147_1 a σ) (Fin147 E) nX (Fin147 E) = J147_1 E D W N a σ := by
 refine (P147_1 E D W N   a σ).trans ?_
 kernel_rfl
def L147_2 (n : Nat) : V → V → Int → Int → H → Ans :=
 Nat.rec (fun _ _ _ _ _ => none) (fun _ ih => T147_2 E D W (J147_1 E D W N ) ih) n
theorem LE147_2 (n : Nat) : ∀ (a b : V) (c d : Int) (σ : H),
 iterK (fun rec s' => denC E D W N C147_2 s' (kX q147a [] [] rec) (b147a E D W N C147_1) (Fin147 E)) n (S147_2 a b c d σ) = L147_2 E D W N n a b c d σ := by
 induction n with
 | zero => intro a b c d σ; rfl
 | succ n ihn =>
  intro a b c d σ
  rw [iterK_succ]
  refine (P147_2 E D W N C147_1 (iterK (fun rec s' => denC E D W N C147_2 s' (kX q147a [] [] rec) (b147a E D W N C147_1) (Fin147 E)) n) a b c d σ).trans ?_
  simp only [ihn, JE147_1]
  kernel_rfl
def J147_0 := T147_0 E D W (L147_2 E D W N N)
theorem JE147_0 (a : V) (σ : H) :
 denC E D W N (C147_0 C147_1 C147_2) (S147_0 a σ) (Fin147 E) nX (Fin147 E) = J147_0 E D W N a σ := by
 refine (P147_0 E D W N C147_1 C147_2  a σ).trans ?_
 simp only [LE147_2]
 kernel_rfl
def F147 (args : List V) (σ : H) : Ans :=
 rtCons args fun x1 l2 =>
 rtNil l2 (
 J147_0 E D W N x1 σ)
def A147 : XFn := ⟨17, [.any], [(.tmp 2)], (C147_0 C147_1 C147_2)⟩
theorem FE147 (args : List V) (σ : H) : runX E D W N A147 args σ = F147 E D W N args σ := by
 unfold F147
 simp only [← JE147_0]
 kernel_rfl
def q148a : List (Nat × XTy) := [(0, .i), (3, .any), (4, .bool)]
def Fin148 (E : List (Nat × Blk)) : St → Ans := fun s => resK E s [(.tmp 2)] fun l => some (oneV l, s.σ)
def b148a (c0 : XC) : Nat → St → Ans := blkK 0 (dX E D W N (.keep [(3, .any)] [] [] c0) (Fin148 E) nX (Fin148 E)) nX
def C148_0 (cc1 : XC) (cc2 : XC) : XC := (.z (.c 2 V.nils<|
.nil)
 (.z (.m 6 0<|
.p 7 [6] (.max (.t 6) [(.i 0)])<|
.m 0 7<|
.nil)
 (.z (.c 3 V.nils<|
.nil)
 (.seq (.z (.c 4 y26<|
.nil)
 (.block 0 (.loop q148a [] [] cc2)))
 (.keep [(3, .any)] [] [] cc1)))))
def T148_0 (E : List (Nat × Blk)) (D : Den) (W : DrawFn) (K2 : Int → V → Bool → H → Ans) (a : Int) (σ : H) : Ans :=
 K2 (maxF a (Int.ofNat 0)) V.nils true σ
def C148_1 : XC := (.z (.m 21 3<|
.m 2 21<|
.nil)
 .ret)
def T148_1 (E : List (Nat × Blk)) (D : Den) (W : DrawFn) (a : V) (σ : H) : Ans :=
 some (a, σ)
def C148_2 : XC := (.seq (.z (.m 8 4<|
.nil)
 y52)
 (.block 1 (.z (.q 5 0<|
.nil)
 (.z (.m 10 0<|
.k 11 (.tup [.i, .bool]) 244 [(.t 10)]<|
.m 9 11<|
.P 12 (.extract 0 (.t 9))<|
.P 13 (.extract 1 (.t 9))<|
.m 5 12<|
.m 4 13<|
.nil)
 (.ops (.m 14 3<|
.m 15 5<|
.p 16 [15] (.buildSlice 3 1 [y0] [(0, 1, (.t 15))])<|
.O 17 .one (.append 3 1 8 (.t 14) (.t 16))<|
.m 18 0<|
.m 19 5<|
.b 20 .sub .none (.t 18) (.t 19)<|
.m 3 17<|
.m 0 20<|
.nil))))))
def T148_2 (E : List (Nat × Blk)) (D : Den) (W : DrawFn) (K1 : V → H → Ans) (R2 : Int → V → Bool → H → Ans) (a : Int) (b : V) (c : Bool) (σ : H) : Ans :=
 condK c (
 callK (D 244 [(V.int .i64 a)] σ) fun u1 s2 =>
 rtTup u1 fun l3 =>
 xcI .i64 l3 fun x6 l5 =>
 xcB l5 fun x9 l8 =>
 rtNil l8 (
 let s10 := newB s2 (.cells [(V.int .i64 x6)]);
 appK E 1 8 b (V.sl (H.next s2) 0 1 (.ex 1)) s10 fun u11 s12 =>
 rtOne u11 (
 R2 (subF .i64 a x6) u11 x9 s12))) (
 K1 b σ)
def S148_0 (a : Int) (σ : H) : St := ⟨[(0, (V.int .i64 a))], [], [], σ⟩
def S148_1 (a : V) (σ : H) : St := ⟨[(3, a)], [], [], σ⟩
def S148_2 (a : Int) (b : V) (c : Bool) (σ : H) : St := ⟨[(0, (V.int .i64 a)), (3, b), (4, (V.bool c))], [], [], σ⟩
theorem P148_0 (cc1 : XC) (cc2 : XC) (a : Int) (σ : H) :
 denC E D W N (C148_0 cc1 cc2) (S148_0 a σ) (Fin148 E) nX (Fin148 E) =
 T148_0 E D W (fun a b c σ => iterK (fun rec s' => denC E D W N cc2 s' (kX q148a [] [] rec) (b148a E D W N cc1) (Fin148 E)) N (S148_2 a b c σ)) a σ := by kernel_rfl
theorem P148_1 (a : V) (σ : H) :
 denC E D W N (C148_1 ) (S148_1 a σ) (Fin148 E) nX (Fin148 E) =
 T148_1 E D W  a σ := by kernel_rfl
theorem P148_2 (cc1 : XC) (li2 : St → Ans) (a : Int) (b : V) (c : Bool) (σ : H) :
 denC E D W N (C148_2 ) (S148_2 a b c σ) (kX q148a [] [] li2) (b148a E D W N cc1) (Fin148 E) =
 T148_2 E D W (fun b σ => denC E D W N cc1 (S148_1 b σ) (Fin148 E) nX (Fin148 E)) (fun a b c σ => li2 (S148_2 a b c σ)) a b c σ := by kernel_rfl
def J148_1 (E : List (Nat × Blk)) (D : Den) (W : DrawFn) (N : Nat) := T148_1 E D W
theorem JE148_1 (a : V) (σ : H) :
 denC E D W N C148_1 (S148_1 a σ) (Fin148 E) nX (Fin148 E) = J148_1 E D W N a σ := by
 refine (P148_1 E D W N   a σ).trans ?_
 kernel_rfl
def L148_2 (n : Nat) : Int → V → Bool → H → Ans :=
 Nat.rec (fun _ _ _ _ => none) (fun _ ih => T148_2 E D W (J148_1 E D W N ) ih) n
theorem LE148_2 (n : Nat) : ∀ (a : Int) (b : V) (c : Bool) (σ : H),
 iterK (fun rec s' => denC E D W N C148_2 s' (kX q148a [] [] rec) (b148a E D W N C148_1) (Fin148 E)) n (S148_2 a b c σ) = L148_2 E D W N n a b c σ := by
 induction n with
 | zero => intro a b c σ; rfl
 | succ n ihn =>
  intro a b c σ
  rw [iterK_succ]
  refine (P148_2 E D W N C148_1 (iterK (fun rec s' => denC E D W N C148_2 s' (kX q148a [] [] rec) (b148a E D W N C148_1) (Fin148 E)) n) a b c σ).trans ?_
  simp only [ihn, JE148_1]
  kernel_rfl
def J148_0 := T148_0 E D W (L148_2 E D W N N)
theorem JE148_0 (a : Int) (σ : H) :
 denC E D W N (C148_0 C148_1 C148_2) (S148_0 a σ) (Fin148 E) nX (Fin148 E) = J148_0 E D W N a σ := by
 refine (P148_0 E D W N C148_1 C148_2  a σ).trans ?_
 simp only [LE148_2]
 kernel_rfl
def F148 (args : List V) (σ : H) : Ans :=
 xcI .i64 args fun x3 l2 =>
 rtNil l2 (
 J148_0 E D W N x3 σ)
def A148 : XFn := ⟨22, [.i], [(.tmp 2)], (C148_0 C148_1 C148_2)⟩
theorem FE148 (args : List V) (σ : H) : runX E D W N A148 args σ = F148 E D W N args σ := by
 unfold F148
 simp only [← JE148_0]
 kernel_rfl
def Fin149 (E : List (Nat × Blk)) : St → Ans := fun s => resK E s [] fun l => some (oneV l, s.σ)
def C149_0 : XC := (.block 0 (.z (.m 13 2<|
.m 12 13<|
.nil)
 (.cond (.tmp 12) (.z (.m 14 0<|
.k 15 y10 139 [(.t 14), (.con (V.int .u64 (Int.ofNat 3))), (.i 2)]<|
.nil)
 (.ops (.m 16 0<|
.m 17 1<|
.b 18 .quo .none (.t 17) (.i 16384)<|
.P 19 (.conv (.toInt .u64) (.t 18))<|
.k 20 y10 139 [(.t 16), (.t 19), (.i 6)]<|
.nil)))
 (.z (.m 22 1<|
.b 23 .lss .none (.t 22) (.i 128)<|
.m 21 23<|
.nil)
 (.cond (.tmp 21) (.ops (.m 24 0<|
.m 25 1<|
.P 26 (.conv (.toInt .u64) (.t 25))<|
.k 27 y10 139 [(.t 24), (.t 26), (.i 8)]<|
.nil))
 (.z (.m 6 0<|
.k 7 y10 139 [(.t 6), (.con (V.int .u64 (Int.ofNat 2))), (.i 2)]<|
.nil)
 (.ops (.m 8 0<|
.m 9 1<|
.P 10 (.conv (.toInt .u64) (.t 9))<|
.k 11 y10 139 [(.t 8), (.t 10), (.i 14)]<|
.nil))))))))
def T149_0 (E : List (Nat × Blk)) (D : Den) (W : DrawFn) (a : V) (b : Int) (c : Bool) (σ : H) : Ans :=
 condK c (
 callK (D 139 [a, (V.int .u64 (Int.ofNat 3)), (V.int .i64 (Int.ofNat 2))] σ) fun u1 s2 =>
 rtTup u1 fun l3 =>
 rtNil l3 (
 callK (D 139 [a, (V.int .u64 (wrapF .u64 (quoF .i64 b (Int.ofNat 16384)))), (V.int .i64 (Int.ofNat 6))] s2) fun u4 s5 =>
 rtTup u4 fun l6 =>
 rtNil l6 (
 some ((V.tup []), s5)))) (
 condK (ltF b (Int.ofNat 128)) (
 callK (D 139 [a, (V.int .u64 (wrapF .u64 b)), (V.int .i64 (Int.ofNat 8))] σ) fun u7 s8 =>
 rtTup u7 fun l9 =>
 rtNil l9 (
 some ((V.tup []), s8))) (
 callK (D 139 [a, (V.int .u64 (Int.ofNat 2)), (V.int .i64 (Int.ofNat 2))] σ) fun u10 s11 =>
 rtTup u10 fun l12 =>
 rtNil l12 (
 callK (D 139 [a, (V.int .u64 (wrapF .u64 b)), (V.int .i64 (Int.ofNat 14))] s11) fun u13 s14 =>
 rtTup u13 fun l15 =>
 rtNil l15 (
 some ((V.tup []), s14)))))
def S149_0 (a : V) (b : Int) (c : Bool) (σ : H) : St := ⟨[(0, a), (1, (V.int .i64 b)), (2, (V.bool c))], [], [], σ⟩
theorem P149_0 (a : V) (b : Int) (c : Bool) (σ : H) :
 denC E D W N (C149_0 ) (S149_0 a b c σ) (Fin149 E) nX (Fin149 E) =
 T149_0 E D W  a b c σ := by kernel_rfl
def J149_0 (E : List (Nat × Blk)) (D : Den) (W : DrawFn) (N : Nat) := T149_0 E D W
theorem JE149_0 (a : V) (b : Int) (c : Bool) (σ : H) :
 denC E D W N C149_0 (S149_0 a b c σ) (Fin149 E) nX (Fin149 E) = J149_0 E D W N a b c σ := by
 refine (P149_0 E D W N   a b c σ).trans ?_
 kernel_rfl
def F149 (args : List V) (σ : H) : Ans :=
 rtCons args fun x1 l2 =>
 xcI .i64 l2 fun x5 l4 =>
 xcB l4 fun x8 l7 =>
 rtNil l7 (
 J149_0 E D W N x1 x5 x8 σ)
def A149 : XFn := ⟨28, [.any, .i, .bool], [], C149_0⟩
theorem FE149 (args : List V) (σ : H) : runX E D W N A149 args σ = F149 E D W N args σ := by
 unfold F149
 simp only [← JE149_0]
 kernel_rfl
def C150_0 : XC := (.z (.P 1 (.box 141 (.t 0))<|
.c 2 y20<|
.c 3 y3<|
.nil)
 (.z (.O 7 y4 (.load (some 6) (.t 1))<|
.k 8 y37 140 [(.t 7)]<|
.m 6 8<|
.P 9 (.extract 0 (.t 6))<|
.P 10 (.extract 1 (.t 6))<|
.m 4 9<|
.m 5 10<|
.nil)
 (.seq (.draw (.m 11 4<|
.m 12 5<|
.m 13 12<|
.gA 13 true (.p 14 [1, 13] (.faddr 5 (.t 1))<|
.op (some 15) .i [14, 13] (.load none (.t 14))<|
.p 16 [15, 13] (.bin .lss .none (.t 15) (.i 65536))<|
.nil) 17 13 16<|
.m 2 11<|
.m 3 17<|
.nil) [0, 0, 2, 6, 14, 30, 62, 7, 255])
 .ret)))
def A150 : XFn := ⟨18, [y4], [(.tmp 2), (.tmp 3)], C150_0⟩
def q151a : List (Nat × List XTy) := [(5, [.i, .any, .bool, .bool, .bool, .bool, .i, .i, .any, .any, .i, .bool, .i])]
def q151b : List (Nat × XTy) := [(0, .any), (3, .any), (5, .ptr), (6, .ptr), (12, .any), (13, .i), (14, .i)]
def q151c : List (Nat × XTy) := [(0, .any), (8, .any), (9, .i), (10, .i), (14, .any), (15, .i), (16, .i)]
def q151d : List (Nat × XTy) := [(0, .any), (8, .any), (9, .i), (10, .i)]
def Fin151 (E : List (Nat × Blk)) : St → Ans := fun s => resK E s [] fun l => some (oneV l, s.σ)
def b151a (c0 : XC) (l0 : St → Ans) : Nat → St → Ans := blkK 2 (dX E D W N (.keep q151d [] [] c0) (kX q151d [] [] l0) (blkK 0 (Fin151 E) nX) (Fin151 E)) (blkK 1 (dX E D W N (.keep q151d [] [] c0) (kX q151d [] [] l0) (blkK 0 (Fin151 E) nX) (Fin151 E)) (blkK 0 (Fin151 E) nX))
def C151_0 (cc1 : XC) : XC := (.z (.m 8 1<|
.u 9 8<|
.q 10 0<|
.nil)
 (.block 0 (.loop q151d [] [] cc1)))
def T151_0 (E : List (Nat × Blk)) (D : Den) (W : DrawFn) (K1 : V → V → Int → Int → H → Ans) (a b : V) (σ : H) : Ans :=
 slenK b fun n1 =>
 K1 a b (Int.ofNat n1) (Int.ofNat 0) σ
def C151_1 (cc2 : XC) (cc3 : XC) : XC := (.z (.b 11 .lss .none (.t 10) (.t 9)<|
.nil)
 (.seq (.cond (.tmp 11) .skip
 y23)
 (.seq (.block 1 (.z (.s 12 1 8 10<|
.l 13 .any 12<|
.m 5 13<|
.nil)
 (.z (.m 14 5<|
.u 15 14<|
.q 16 0<|
.nil)
 (.block 2 (.loop q151c [] [] cc3)))))
 (.keep q151d [] [] cc2))))
def T151_1 (E : List (Nat × Blk)) (D : Den) (W : DrawFn) (K3 : V → V → Int → Int → V → Int → Int → H → Ans) (a b : V) (c d : Int) (σ : H) : Ans :=
 condK (ltF d c) (
 iaddrSK 1 b d fun b1 o2 =>
 ldK E σ b1 o2 fun u3 =>
 slenK u3 fun n4 =>
 K3 a b c d u3 (Int.ofNat n4) (Int.ofNat 0) σ) (
 some ((V.tup []), σ))
def C151_2 : XC := (.ops (.b 25 .add .none (.t 10) (.i 1)<|
.m 10 25<|
.nil))
def T151_2 (E : List (Nat × Blk)) (D : Den) (W : DrawFn) (R1 : V → V → Int → Int → H → Ans) (a b : V) (c d : Int) (σ : H) : Ans :=
 R1 a b c (addF .i64 d (Int.ofNat 1)) σ
def C151_3 : XC := (.z (.b 17 .lss .none (.t 16) (.t 15)<|
.nil)
 (.seq (.cond (.tmp 17) .skip
 (.exit 2))
 (.seq (.block 3 (.z (.s 18 1 14 16<|
.l 19 (.int .u8) 18<|
.m 7 19<|
.nil)
 (.ops (.m 20 0<|
.m 21 7<|
.P 22 (.conv (.toInt .u32) (.t 21))<|
.k 23 y10 234 [(.t 20), (.t 22), (.i 8)]<|
.nil))))
 (.ops (.b 24 .add .none (.t 16) (.i 1)<|
.m 16 24<|
.nil)))))
def T151_3 (E : List (Nat × Blk)) (D : Den) (W : DrawFn) (K2 : V → V → Int → Int → H → Ans) (R3 : V → V → Int → Int → V → Int → Int → H → Ans) (a b : V) (c d : Int) (e : V) (f g : Int) (σ : H) : Ans :=
 condK (ltF g f) (
 iaddrSK 1 e g fun b1 o2 =>
 ldK E σ b1 o2 fun u3 =>
 rtInt .u8 u3 fun x4 =>
 callK (D 234 [a, (V.int .u32 (wrapF .u32 x4)), (V.int .i64 (Int.ofNat 8))] σ) fun u5 s6 =>
 rtTup u5 fun l7 =>
 rtNil l7 (
 R3 a b c d e f (addF .i64 g (Int.ofNat 1)) s6)) (
 K2 a b c d σ)
def S151_0 (a b : V) (σ : H) : St := ⟨[(0, a), (1, b)], [], [], σ⟩
def S151_1 (a b : V) (c d : Int) (σ : H) : St := ⟨[(0, a), (8, b), (9, (V.int .i64 c)), (10, (V.int .i64 d))], [], [], σ⟩
def S151_2 (a b : V) (c d : Int) (σ : H) : St := ⟨[(0, a), (8, b), (9, (V.int .i64 c)), (10, (V.int .i64 d))], [], [], σ⟩
def S151_3 (a b : V) (c d : Int) (e : V) (f g : Int) (σ : H) : St := ⟨[(0, a), (8, b), (9, (V.int .i64 c)), (10, (V.int .i64 d)), (14, e), (15, (V.int .i64 f)), (16, (V.int .i64 g))], [], [], σ⟩
theorem P151_0 (cc1 : XC) (a b : V) (σ : H) :
 denC E D W N (C151_0 cc1) (S151_0 a b σ) (Fin151 E) nX (Fin151 E) =
 T151_0 E D W (fun a c d e σ => iterK (fun rec s' => denC E D W N cc1 s' (kX q151d [] [] rec) (blkK 0 (Fin151 E) nX) (Fin151 E)) N (S151_1 a c d e σ)) a b σ := by kernel_rfl
theorem P151_1 (cc2 : XC) (cc3 : XC) (li1 : St → Ans) (a b : V) (c d : Int) (σ : H) :
 denC E D W N (C151_1 cc2 cc3) (S151_1 a b c d σ) (kX q151d [] [] li1) (blkK 0 (Fin151 E) nX) (Fin151 E) =
 T151_1 E D W (fun a b c d e f g σ => iterK (fun rec s' => denC E D W N cc3 s' (kX q151c [] [] rec) (b151a E D W N cc2 li1) (Fin151 E)) N (S151_3 a b c d e f g σ)) a b c d σ := by kernel_rfl
theorem P151_2 (li1 : St → Ans) (a b : V) (c d : Int) (σ : H) :
 denC E D W N (C151_2 ) (S151_2 a b c d σ) (kX q151d [] [] li1) (blkK 0 (Fin151 E) nX) (Fin151 E) =
 T151_2 E D W (fun a b c d σ => li1 (S151_1 a b c d σ)) a b c d σ := by kernel_rfl
theorem P151_3 (cc2 : XC) (li1 : St → Ans) (li3 : St → Ans) (a b : V) (c d : Int) (e : V) (f g : Int) (σ : H) :
 denC E D W N (C151_3 ) (S151_3 a b c d e f g σ) (kX q151c [] [] li3) (b151a E D W N cc2 li1) (Fin151 E) =
 T151_3 E D W (fun a b c d σ => denC E D W N cc2 (S151_2 a b c d σ) (kX q151d [] [] li1) (blkK 0 (Fin151 E) nX) (Fin151 E)) (fun a b c d e f g σ => li3 (S151_3 a b c d e f g σ)) a b c d e f g σ := by kernel_rfl
def J151_2 (E : List (Nat × Blk)) (D : Den) (W : DrawFn) (N : Nat) (R1 : V → V → Int → Int → H → Ans) := T151_2 E D W R1
theorem JE151_2 (li1 : St → Ans) (a b : V) (c d : Int) (σ : H) :
 denC E D W N C151_2 (S151_2 a b c d σ) (kX q151d [] [] li1) (blkK 0 (Fin151 E) nX) (Fin151 E) = J151_2 E D W N (fun a b c d σ => li1 (S151_1 a b c d σ)) a b c d σ := by
 refine (P151_2 E D W N  li1 a b c d σ).trans ?_
 kernel_rfl
def L151_3 (R1 : V → V → Int → Int → H → Ans) (n : Nat) : V → V → Int → Int → V → Int → Int → H → Ans :=
 Nat.rec (fun _ _ _ _ _ _ _ _ => none) (fun _ ih => T151_3 E D W (J151_2 E D W N R1) ih) n
theorem LE151_3 (li1 : St → Ans) (n : Nat) : ∀ (a b : V) (c d : Int) (e : V) (f g : Int) (σ : H),
 iterK (fun rec s' => denC E D W N C151_3 s' (kX q151c [] [] rec) (b151a E D W N C151_2 li1) (Fin151 E)) n (S151_3 a b c d e f g σ) = L151_3 E D W N (fun a b c d σ => li1 (S151_1 a b c d σ)) n a b c d e f g σ := by
 induction n with
 | zero => intro a b c d e f g σ; rfl
 | succ n ihn =>
  intro a b c d e f g σ
  rw [iterK_succ]
  refine (P151_3 E D W N C151_2 li1 (iterK (fun rec s' => denC E D W N C151_3 s' (kX q151c [] [] rec) (b151a E D W N C151_2 li1) (Fin151 E)) n) a b c d e f g σ).trans ?_
  simp only [ihn, JE151_2]
  kernel_rfl
def L151_1 (n : Nat) : V → V → Int → Int → H → Ans :=
 Nat.rec (fun _ _ _ _ _ => none) (fun _ ih => T151_1 E D W (L151_3 E D W N ih N)) n
theorem LE151_1 (n : Nat) : ∀ (a b : V) (c d : Int) (σ : H),
 iterK (fun rec s' => denC E D W N (C151_1 C151_2 C151_3) s' (kX q151d [] [] rec) (blkK 0 (Fin151 E) nX) (Fin151 E)) n (S151_1 a b c d σ) = L151_1 E D W N n a b c d σ := by
 induction n with
 | zero => intro a b c d σ; rfl
 | succ n ihn =>
  intro a b c d σ
  rw [iterK_succ]
  refine (P151_1 E D W N C151_2 C151_3 (iterK (fun rec s' => denC E D W N (C151_1 C151_2 C151_3) s' (kX q151d [] [] rec) (blkK 0 (Fin151 E) nX) (Fin151 E)) n) a b c d σ).trans ?_
  simp only [ihn, LE151_3]
  kernel_rfl
def J151_0 := T151_0 E D W (L151_1 E D W N N)
theorem JE151_0 (a b : V) (σ : H) :
 denC E D W N (C151_0 (C151_1 C151_2 C151_3)) (S151_0 a b σ) (Fin151 E) nX (Fin151 E) = J151_0 E D W N a b σ := by
 refine (P151_0 E D W N (C151_1 C151_2 C151_3)  a b σ).trans ?_
 simp only [LE151_1]
 kernel_rfl
def F151 (args : List V) (σ : H) : Ans :=
 rtCons args fun x1 l2 =>
 rtCons l2 fun x3 l4 =>
 rtNil l4 (
 J151_0 E D W N x1 x3 σ)
def A151 : XFn := ⟨26, y38, [], (C151_0 (C151_1 C151_2 C151_3))⟩
theorem FE151 (args : List V) (σ : H) : runX E D W N A151 args σ = F151 E D W N args σ := by
 unfold F151
 simp only [← JE151_0]
 kernel_rfl
def C154_0 (cc1 : XC) (cc2 : XC) : XC := (.z (.P 2 (.box 30 (.t 0))<|
.c 4 V.nils<|
.nil)
 (.z (.O 8 y6 (.load (some 4) (.t 2))<|
.m 9 1<|
.k 10 y1 239 [(.t 8), (.t 9)]<|
.p 5 [] y17<|
.op none y1 [5, 10] (.store 13 (.t 5) (.t 10))<|
.nil)
 (.z (.f 11 9 5<|
.l 12 .any 11<|
.u 13 12<|
.m 6 13<|
.nil)
 (.seq (.z (.f 14 0 5<|
.l 15 .i 14<|
.nil)
 (.block 0 (.z (.b 17 .eql .none (.t 15) (.i 7)<|
.m 16 17<|
.nil)
 (.cond (.tmp 16) (.z (.m 18 6<|
.k 19 .one 243 [(.i 0), (.t 18)]<|
.m 4 19<|
.nil)
 .ret)
 (.seq (.z (.b 21 .eql .none (.t 15) (.i 8)<|
.m 20 21<|
.nil)
 (.cond (.tmp 20) .skip
 (.ops (.b 22 .eql .none (.t 15) (.i 9)<|
.m 20 22<|
.nil))))
 (.keep [(2, .ptr), (5, .ptr), (6, .i), (20, .bool)] [] [] cc2))))))
 (.keep [] [] [] cc1)))))
def C154_1 : XC := (.z (.c 4 V.nils<|
.nil)
 .ret)
def C154_2 : XC := (.cond (.tmp 20) (.z (.f 23 10 5<|
.l 24 .i 23<|
.p 25 [24] (.max (.t 24) [(.i 0)])<|
.m 26 6<|
.p 27 [25, 26] (.min (.t 25) [(.t 26)])<|
.m 7 27<|
.nil)
 (.z (.p 28 [2, 5] (.mkfn 245 [] [(.t 2), (.t 5)])<|
.m 29 7<|
.k 30 .one 243 [(.i 0), (.t 29)]<|
.m 31 7<|
.m 32 6<|
.k 33 .one 243 [(.t 31), (.t 32)]<|
.k 34 .one 240 [(.t 28), (.t 30), (.t 33)]<|
.m 4 34<|
.nil)
 .ret))
 .skip)
def A154 : XFn := ⟨35, [y6, .i], [(.tmp 4)], (C154_0 C154_1 C154_2)⟩
def C155_0 (cc1 : XC) (cc2 : XC) : XC := (.z (.P 2 (.box 30 (.t 0))<|
.c 4 V.nils<|
.nil)
 (.z (.O 11 y6 (.load (some 4) (.t 2))<|
.m 12 1<|
.k 13 y1 239 [(.t 11), (.t 12)]<|
.pal 5 [] 145 [y0, V.nils, y3, y3, y3, y3, y0, y0, V.nils, V.nils, y0, y3, y0]<|
.op none y1 [5, 13] (.store 13 (.t 5) (.t 13))<|
.nil)
 (.seq (.z (.f 14 0 5<|
.l 15 .i 14<|
.b 16 .neq .none (.t 15) (.i 7)<|
.m 17 16<|
.gA 17 true (.p 18 [5, 17] (.faddr 0 (.t 5))<|
.op (some 19) .i [18, 17] (.load none (.t 18))<|
.p 20 [19, 17] (.bin .neq .none (.t 19) (.i 8))<|
.nil) 21 17 20<|
.m 22 21<|
.gA 22 true (.p 23 [5, 22] (.faddr 0 (.t 5))<|
.op (some 24) .i [23, 22] (.load none (.t 23))<|
.p 25 [24, 22] (.bin .neq .none (.t 24) (.i 9))<|
.nil) 26 22 25<|
.nil)
 (.cond (.tmp 26) (.z (.c 4 V.nils<|
.nil)
 .ret)
 .skip))
 (.z (.c 6 V.nils<|
.nil)
 (.seq (.z (.f 27 10 5<|
.l 28 .i 27<|
.p 29 [28] (.max (.t 28) [(.i 0)])<|
.f 30 9 5<|
.l 31 .any 30<|
.u 32 31<|
.k 33 .one 243 [(.t 29), (.t 32)]<|
.u 34 33<|
.q 35 0<|
.nil)
 (.block 0 (.loop [(6, .any), (33, .any), (34, .i), (35, .i)] [5] q151a cc2)))
 (.keep [(6, .any)] [] [] cc1))))))
def C155_1 : XC := (.z (.m 86 6<|
.m 4 86<|
.nil)
 .ret)
def C155_2 (cc3 : XC) : XC := (.z (.b 36 .lss .none (.t 35) (.t 34)<|
.nil)
 (.seq (.cond (.tmp 36) .skip
 y23)
 (.seq (.block 1 (.z (.s 37 1 33 35<|
.l 38 .i 37<|
.m 8 38<|
.nil)
 (.z (.m 39 6<|
.u 40 39<|
.b 41 .sub .none (.t 40) (.i 1)<|
.m 9 41<|
.nil)
 (.seq (.z (.f 42 9 5<|
.l 43 .any 42<|
.m 44 8<|
.s 45 11 43 44<|
.f 46 10 45<|
.l 47 .i 46<|
.m 10 47<|
.nil)
 (.z (.f 48 0 5<|
.l 49 .i 48<|
.b 50 .neq .none (.t 49) (.i 9)<|
.m 51 50<|
.gA 51 true (.p 52 [10, 51] (.mov (.t 10))<|
.p 53 [52, 51] (.bin .gtr .none (.t 52) (.i 0))<|
.nil) 54 51 53<|
.m 55 54<|
.gA 55 true (.p 56 [9, 55] (.mov (.t 9))<|
.p 57 [56, 55] (.bin .geq .none (.t 56) (.i 0))<|
.nil) 58 55 57<|
.m 59 58<|
.gA 59 true (.p 60 [5, 59] (.faddr 9 (.t 5))<|
.p 61 [60, 59] (.load none (.t 60))<|
.p 62 [8, 59] y28<|
.p 63 [62, 59] (.bin .sub .none (.t 62) (.i 1))<|
.p 64 [61, 63, 59] (.iaddrS 11 (.t 61) (.t 63))<|
.p 65 [64, 59] (.faddr 10 (.t 64))<|
.op (some 66) .i [65, 59] (.load none (.t 65))<|
.p 67 [10, 59] (.mov (.t 10))<|
.p 68 [66, 67, 59] (.bin .eql .none (.t 66) (.t 67))<|
.nil) 69 59 68<|
.nil)
 (.cond (.tmp 69) (.z (.m 70 6<|
.m 71 9<|
.m 72 6<|
.m 73 9<|
.s 74 1 72 73<|
.l 75 .any 74<|
.m 76 8<|
.p 77 [76] (.buildSlice 3 1 [y0] [(0, 1, (.t 76))])<|
.O 78 .one (.append 3 1 8 (.t 75) (.t 77))<|
.s 79 1 70 71<|
.w 1 79 78<|
.nil)
 (.exit 1))
 .skip)))
 (.ops (.m 80 6<|
.m 81 8<|
.p 82 [81] (.buildSlice 3 1 [y0] [(0, 1, (.t 81))])<|
.p 83 [82] (.buildSlice 22 1 [V.nils] [(0, 1, (.t 82))])<|
.O 84 .one (.append 22 1 24 (.t 80) (.t 83))<|
.m 6 84<|
.nil))))))
 (.keep [(6, .any), (33, .any), (34, .i), (35, .i)] [5] q151a cc3))))
def C155_3 : XC := (.ops (.b 85 .add .none (.t 35) (.i 1)<|
.m 35 85<|
.nil))
def A155 : XFn := ⟨87, [y6, .i], [(.tmp 4)], (C155_0 C155_1 (C155_2 C155_3))⟩
def C158_0 : XC := (.z (.P 1 (.box 38 (.t 0))<|
.c 2 y3<|
.nil)
 (.z (.f 3 0 1<|
.l 4 .i 3<|
.b 5 .eql .none (.t 4) (.i 0)<|
.m 6 5<|
.gA 6 true (.op (some 7) y2 [1, 6] (.load (some 6) (.t 1))<|
.op (some 8) .bool [7, 6] (.call 131 [(.t 7), (.i 0)])<|
.nil) 9 6 8<|
.m 2 9<|
.nil)
 .ret))
def A158 : XFn := ⟨10, [y2], [(.tmp 2)], C158_0⟩
def C159_0 : XC := (.z (.c 4 y3<|
.nil)
 (.z (.m 5 0<|
.m 6 1<|
.k 7 .i 249 [(.t 5), (.t 6)]<|
.b 8 .geq .none (.t 7) (.i 0)<|
.m 4 8<|
.nil)
 .ret))
def A159 : XFn := ⟨9, [.any, .bool], [(.tmp 4)], C159_0⟩
def C160_0 (cc1 : XC) (cc2 : XC) : XC := (.z (.P 5 (.box 145 (.t 1))<|
.P 6 (.box 38 (.t 2))<|
.nil)
 (.seq (.z (.m 12 3<|
.u 13 12<|
.q 14 0<|
.nil)
 (.block 0 (.loop q151b [] [] cc2)))
 (.keep [(0, .any), (3, .any), (5, .ptr), (6, .ptr)] [] [] cc1)))
def C160_1 (cc4 : XC) : XC := (.z (.m 42 3<|
.u 43 42<|
.q 44 0<|
.nil)
 (.block 2 (.loop [(0, .any), (5, .ptr), (6, .ptr), (42, .any), (43, .i), (44, .i)] [] [] cc4)))
def C160_2 (cc3 : XC) : XC := (.z (.b 15 .lss .none (.t 14) (.t 13)<|
.nil)
 (.seq (.cond (.tmp 15) .skip
 y23)
 (.seq (.block 1 (.z (.s 16 1 12 14<|
.l 17 .i 16<|
.m 9 17<|
.nil)
 (.z (.f 18 9 5<|
.l 19 .any 18<|
.m 20 9<|
.s 21 11 19 20<|
.f 22 2 21<|
.l 23 .bool 22<|
.m 24 23<|
.gO 24 false (.p 25 [5, 24] (.faddr 9 (.t 5))<|
.p 26 [25, 24] (.load none (.t 25))<|
.p 27 [9, 24] (.mov (.t 9))<|
.p 28 [26, 27, 24] (.iaddrS 11 (.t 26) (.t 27))<|
.p 29 [28, 24] (.faddr 3 (.t 28))<|
.op (some 30) .bool [29, 24] (.load none (.t 29))<|
.nil) 31 24 30<|
.nil)
 (.cond (.tmp 31) (.ops (.m 32 0<|
.f 33 3 6<|
.l 34 .any 33<|
.m 35 9<|
.s 36 6 34 35<|
.O 37 y2 (.load (some 6) (.t 36))<|
.k 38 .bool 158 [(.t 37)]<|
.P 39 (.un .not (.t 38))<|
.k 40 y10 71 [(.t 32), (.t 39)]<|
.nil))
 .skip))))
 (.keep q151b [] [] cc3))))
def C160_3 : XC := (.ops (.b 41 .add .none (.t 14) (.i 1)<|
.m 14 41<|
.nil))
def C160_4 (cc5 : XC) : XC := (.z (.b 45 .lss .none (.t 44) (.t 43)<|
.nil)
 (.seq (.cond (.tmp 45) .skip
 (.exit 2))
 (.seq (.block 3 (.z (.s 46 1 42 44<|
.l 47 .i 46<|
.m 11 47<|
.nil)
 (.z (.f 48 3 6<|
.l 49 .any 48<|
.m 50 11<|
.s 51 6 49 50<|
.O 52 y2 (.load (some 6) (.t 51))<|
.k 53 .bool 158 [(.t 52)]<|
.P 54 (.un .not (.t 53))<|
.nil)
 (.cond (.tmp 54) (.draw (.m 55 0<|
.f 56 9 5<|
.l 57 .any 56<|
.m 58 11<|
.s 59 11 57 58<|
.f 60 1 59<|
.l 61 .i 60<|
.f 62 3 6<|
.l 63 .any 62<|
.m 64 11<|
.s 65 6 63 64<|
.O 66 y2 (.load (some 6) (.t 65))<|
.k 67 y10 39 [(.t 55), (.t 61), (.t 66)]<|
.nil) [0, 0, 2, 0, 14, 30, 62, 0, 128, 0, 896, 1920, 4095])
 .skip))))
 (.keep [(0, .any), (5, .ptr), (6, .ptr), (42, .any), (43, .i), (44, .i)] [] [] cc5))))
def C160_5 : XC := (.ops (.b 68 .add .none (.t 44) (.i 1)<|
.m 44 68<|
.nil))
def A160 : XFn := ⟨69, [.any, y1, y2, .any], [], (C160_0 (C160_1 (C160_4 C160_5)) (C160_2 C160_3))⟩
def Fin162 (E : List (Nat × Blk)) : St → Ans := fun s => resK E s [(.tmp 2)] fun l => some (oneV l, s.σ)
def C162_0 : XC := (.z (.q 2 0<|
.nil)
 (.seq (.z (.m 3 0<|
.b 4 .eql .ptr (.t 3) y34<|
.nil)
 y25)
 (.z (.m 5 0<|
.n 6 5<|
.f 7 1 6<|
.l 8 .i 7<|
.m 2 8<|
.nil)
 .ret)))
def T162_0 (E : List (Nat × Blk)) (D : Den) (W : DrawFn) (a : V) (σ : H) : Ans :=
 eqK .ptr a V.nilp fun c1 =>
 condK c1 (
 some ((V.int .i64 (Int.ofNat 0)), σ)) (
 rtPtr a fun b2 o3 =>
 ldK E σ b2 (Nat.add o3 1) fun u4 =>
 rtInt .i64 u4 fun x5 =>
 some ((V.int .i64 x5), σ))
def S162_0 (a : V) (σ : H) : St := ⟨[(0, a)], [], [], σ⟩
theorem P162_0 (a : V) (σ : H) :
 denC E D W N (C162_0 ) (S162_0 a σ) (Fin162 E) nX (Fin162 E) =
 T162_0 E D W  a σ := by kernel_rfl
def J162_0 (E : List (Nat × Blk)) (D : Den) (W : DrawFn) (N : Nat) := T162_0 E D W
theorem JE162_0 (a : V) (σ : H) :
 denC E D W N C162_0 (S162_0 a σ) (Fin162 E) nX (Fin162 E) = J162_0 E D W N a σ := by
 refine (P162_0 E D W N   a σ).trans ?_
 kernel_rfl
def F162 (args : List V) (σ : H) : Ans :=
 rtCons args fun x1 l2 =>
 rtNil l2 (
 J162_0 E D W N x1 σ)
def A162 : XFn := ⟨9, [.any], [(.tmp 2)], C162_0⟩
theorem FE162 (args : List V) (σ : H) : runX E D W N A162 args σ = F162 E D W N args σ := by
 unfold F162
 simp only [← JE162_0]
 kernel_rfl
def q163a : List (Nat × XTy) := [(0, .ptr), (1, (.int .u32)), (6, .i)]
def Fin163 (E : List (Nat × Blk)) : St → Ans := fun s => resK E s [] fun l => some (oneV l, s.σ)
def C163_0 (cc1 : XC) : XC := (.z (.m 7 2<|
.p 8 [7] (.min (.t 7) [(.i 32)])<|
.p 9 [8] (.max (.i 0) [(.t 8)])<|
.m 2 9<|
.nil)
 (.z (.m 10 2<|
.b 11 .sub .none (.t 10) (.i 1)<|
.m 6 11<|
.nil)
 (.block 0 (.loop q163a [] [] cc1))))
def T163_0 (E : List (Nat × Blk)) (D : Den) (W : DrawFn) (K1 : Nat → Nat → Int → Int → H → Ans) (a b : Nat) (c d : Int) (σ : H) : Ans :=
 K1 a b c (subF .i64 (maxF (Int.ofNat 0) (minF d (Int.ofNat 32))) (Int.ofNat 1)) σ
def C163_1 : XC := (.seq (.z (.m 12 6<|
.b 13 .geq .none (.t 12) (.i 0)<|
.nil)
 (.cond (.tmp 13) .skip
 y23))
 (.seq (.block 1 (.ops (.m 16 0<|
.m 17 0<|
.n 18 17<|
.f 19 0 18<|
.l 20 .any 19<|
.m 21 1<|
.m 22 6<|
.P 23 (.conv (.toInt .u64) (.t 22))<|
.b 24 .shr .none (.t 21) (.t 23)<|
.b 25 .and .none (.t 24) (.con (V.int .u32 (Int.ofNat 1)))<|
.P 26 (.conv (.toInt .u8) (.t 25))<|
.p 27 [26] (.buildSlice 5 1 [y14] [(0, 1, (.t 26))])<|
.O 28 .one (.append 5 1 1 (.t 20) (.t 27))<|
.n 29 16<|
.f 30 0 29<|
.w 1 30 28<|
.nil)))
 (.ops (.m 14 6<|
.b 15 .sub .none (.t 14) (.i 1)<|
.m 6 15<|
.nil))))
def T163_1 (E : List (Nat × Blk)) (D : Den) (W : DrawFn) (R1 : Nat → Nat → Int → Int → H → Ans) (a b : Nat) (c d : Int) (σ : H) : Ans :=
 condK (leF (Int.ofNat 0) d) (
 ldK E σ a b fun u1 =>
 nnK (wrapF .u64 d) fun n2 =>
 let s3 := newB σ (.cells [(V.int .u8 (wrapF .u8 (andF .u32 (shrF .u32 c n2) (Int.ofNat 1))))]);
 appK E 1 1 u1 (V.sl (H.next σ) 0 1 (.ex 1)) s3 fun u4 s5 =>
 rtOne u4 (
 stK 1 a b u4 s5 fun s6 =>
 R1 a b c (subF .i64 d (Int.ofNat 1)) s6)) (
 some ((V.tup []), σ))
def S163_0 (a b : Nat) (c d : Int) (σ : H) : St := ⟨[(0, (V.ptr a b)), (1, (V.int .u32 c)), (2, (V.int .i64 d))], [], [], σ⟩
def S163_1 (a b : Nat) (c d : Int) (σ : H) : St := ⟨[(0, (V.ptr a b)), (1, (V.int .u32 c)), (6, (V.int .i64 d))], [], [], σ⟩
theorem P163_0 (cc1 : XC) (a b : Nat) (c d : Int) (σ : H) :
 denC E D W N (C163_0 cc1) (S163_0 a b c d σ) (Fin163 E) nX (Fin163 E) =
 T163_0 E D W (fun a b c e σ => iterK (fun rec s' => denC E D W N cc1 s' (kX q163a [] [] rec) (blkK 0 (Fin163 E) nX) (Fin163 E)) N (S163_1 a b c e σ)) a b c d σ := by kernel_rfl
theorem P163_1 (li1 : St → Ans) (a b : Nat) (c d : Int) (σ : H) :
 denC E D W N (C163_1 ) (S163_1 a b c d σ) (kX q163a [] [] li1) (blkK 0 (Fin163 E) nX) (Fin163 E) =
 T163_1 E D W (fun a b c d σ => li1 (S163_1 a b c d σ)) a b c d σ := by kernel_rfl
def L163_1 (E : List (Nat × Blk)) (D : Den) (W : DrawFn) (N : Nat) (n : Nat) : Nat → Nat → Int → Int → H → Ans :=
 Nat.rec (fun _ _ _ _ _ => none) (fun _ ih => T163_1 E D W ih) n
theorem LE163_1 (n : Nat) : ∀ (a b : Nat) (c d : Int) (σ : H),
 iterK (fun rec s' => denC E D W N C163_1 s' (kX q163a [] [] rec) (blkK 0 (Fin163 E) nX) (Fin163 E)) n (S163_1 a b c d σ) = L163_1 E D W N n a b c d σ := by
 induction n with
 | zero => intro a b c d σ; rfl
 | succ n ihn =>
  intro a b c d σ
  rw [iterK_succ]
  refine (P163_1 E D W N  (iterK (fun rec s' => denC E D W N C163_1 s' (kX q163a [] [] rec) (blkK 0 (Fin163 E) nX) (Fin163 E)) n) a b c d σ).trans ?_
  simp only [ihn]
  kernel_rfl
def J163_0 := T163_0 E D W (L163_1 E D W N N)
theorem JE163_0 (a b : Nat) (c d : Int) (σ : H) :
 denC E D W N (C163_0 C163_1) (S163_0 a b c d σ) (Fin163 E) nX (Fin163 E) = J163_0 E D W N a b c d σ := by
 refine (P163_0 E D W N C163_1  a b c d σ).trans ?_
 simp only [LE163_1]
 kernel_rfl
def F163 (args : List V) (σ : H) : Ans :=
 rtCons args fun x1 l2 =>
 rtPtr x1 fun b3 o4 =>
 xcI .u32 l2 fun x7 l6 =>
 xcI .i64 l6 fun x10 l9 =>
 rtNil l9 (
 J163_0 E D W N b3 o4 x7 x10 σ)
def A163 : XFn := ⟨31, [.ptr, (.int .u32), .i], [], (C163_0 C163_1)⟩
theorem FE163 (args : List V) (σ : H) : runX E D W N A163 args σ = F163 E D W N args σ := by
 unfold F163
 simp only [← JE163_0]
 kernel_rfl
def Fin182 (E : List (Nat × Blk)) : St → Ans := fun s => resK E s [(.tmp 2)] fun l => some (oneV l, s.σ)
def C182_0 : XC := (.z (.q 2 0<|
.nil)
 (.z (.m 3 0<|
.p 4 [3] (.min (.t 3) [(.i 64)])<|
.p 5 [4] (.max (.i 0) [(.t 4)])<|
.m 2 5<|
.nil)
 .ret))
def T182_0 (E : List (Nat × Blk)) (D : Den) (W : DrawFn) (a : Int) (σ : H) : Ans :=
 some ((V.int .i64 (maxF (Int.ofNat 0) (minF a (Int.ofNat 64)))), σ)
def S182_0 (a : Int) (σ : H) : St := ⟨[(0, (V.int .i64 a))], [], [], σ⟩
theorem P182_0 (a : Int) (σ : H) :
 denC E D W N (C182_0 ) (S182_0 a σ) (Fin182 E) nX (Fin182 E) =
 T182_0 E D W  a σ := by kernel_rfl
def J182_0 (E : List (Nat × Blk)) (D : Den) (W : DrawFn) (N : Nat) := T182_0 E D W
theorem JE182_0 (a : Int) (σ : H) :
 denC E D W N C182_0 (S182_0 a σ) (Fin182 E) nX (Fin182 E) = J182_0 E D W N a σ := by
 refine (P182_0 E D W N   a σ).trans ?_
 kernel_rfl
def F182 (args : List V) (σ : H) : Ans :=
 xcI .i64 args fun x3 l2 =>
 rtNil l2 (
 J182_0 E D W N x3 σ)
def A182 : XFn := ⟨6, [.i], [(.tmp 2)], C182_0⟩
theorem FE182 (args : List V) (σ : H) : runX E D W N A182 args σ = F182 E D W N args σ := by
 unfold F182
 simp only [← JE182_0]
 kernel_rfl
def Fin183 (E : List (Nat × Blk)) : St → Ans := fun s => resK E s [(.tmp 4)] fun l => some (oneV l, s.σ)
def C183_0 : XC := (.z (.c 4 y39<|
.nil)
 (.z (.m 5 1<|
.k 6 .i 260 [(.t 5)]<|
.m 1 6<|
.nil)
 (.seq (.z (.m 7 0<|
.m 8 1<|
.k 9 .bool 261 [(.t 7), (.t 8)]<|
.P 10 (.un .not (.t 9))<|
.nil)
 (.cond (.tmp 10) (.z (.c 4 y39<|
.nil)
 .ret)
 .skip))
 (.z (.m 11 0<|
.n 12 11<|
.f 13 0 12<|
.m 14 1<|
.k 15 (.int .u32) 204 [(.t 13), (.t 14)]<|
.m 4 15<|
.nil)
 .ret))))
def T183_0 (E : List (Nat × Blk)) (D : Den) (W : DrawFn) (a b : Nat) (c : Int) (σ : H) : Ans :=
 callK (D 260 [(V.int .i64 c)] σ) fun u1 s2 =>
 rtInt .i64 u1 fun x3 =>
 callK (D 261 [(V.ptr a b), (V.int .i64 x3)] s2) fun u4 s5 =>
 rtBool u4 fun x6 =>
 condK (not x6) (
 some ((V.int .u32 (Int.ofNat 0)), s5)) (
 callK (D 204 [(V.ptr a b), (V.int .i64 x3)] s5) fun u7 s8 =>
 rtInt .u32 u7 fun x9 =>
 some ((V.int .u32 x9), s8))
def S183_0 (a b : Nat) (c : Int) (σ : H) : St := ⟨[(0, (V.ptr a b)), (1, (V.int .i64 c))], [], [], σ⟩
theorem P183_0 (a b : Nat) (c : Int) (σ : H) :
 denC E D W N (C183_0 ) (S183_0 a b c σ) (Fin183 E) nX (Fin183 E) =
 T183_0 E D W  a b c σ := by kernel_rfl
def J183_0 (E : List (Nat × Blk)) (D : Den) (W : DrawFn) (N : Nat) := T183_0 E D W
theorem JE183_0 (a b : Nat) (c : Int) (σ : H) :
 denC E D W N C183_0 (S183_0 a b c σ) (Fin183 E) nX (Fin183 E) = J183_0 E D W N a b c σ := by
 refine (P183_0 E D W N   a b c σ).trans ?_
 kernel_rfl
def F183 (args : List V) (σ : H) : Ans :=
 rtCons args fun x1 l2 =>
 rtPtr x1 fun b3 o4 =>
 xcI .i64 l2 fun x7 l6 =>
 rtNil l6 (
 J183_0 E D W N b3 o4 x7 σ)
def A183 : XFn := ⟨16, [.ptr, .i], [(.tmp 4)], C183_0⟩
theorem FE183 (args : List V) (σ : H) : runX E D W N A183 args σ = F183 E D W N args σ := by
 unfold F183
 simp only [← JE183_0]
 kernel_rfl
def C184_0 : XC := (.z (.c 2 y3<|
.nil)
 (.z (.m 3 0<|
.n 4 3<|
.f 5 0 4<|
.l 6 .any 5<|
.k 7 (.int .u64) 103 [(.t 6), (.i 1)]<|
.b 8 .eql .none (.t 7) y30<|
.m 2 8<|
.nil)
 .ret))
def A184 : XFn := ⟨9, [.ptr], [(.tmp 2)], C184_0⟩
def C185_0 : XC := (.z (.P 2 (.box 99 (.t 0))<|
.P 3 (.box 26 (.t 1))<|
.c 4 y20<|
.nil)
 (.z (.p 5 [] (.alloc 26 [y20])<|
.nil)
 (.z (.l 7 .any 2<|
.p 8 [2, 3, 5] (.mkfn 263 [] [(.t 2), (.t 3), (.t 5)])<|
.k 9 .bool 262 [(.t 7), (.t 8)]<|
.m 6 9<|
.nil)
 (.seq (.z (.m 10 6<|
.P 11 (.un .not (.t 10))<|
.nil)
 (.cond (.tmp 11) (.z (.c 4 y20<|
.nil)
 .ret)
 .skip))
 (.z (.l 12 (.int .u64) 5<|
.m 4 12<|
.nil)
 .ret)))))
def A185 : XFn := ⟨13, [.any, (.int .u64)], [(.tmp 4)], C185_0⟩
def q189a : List (Nat × XTy) := [(0, .any), (1, .i), (2, .any), (7, .i), (8, .bool)]
def Fin189 (E : List (Nat × Blk)) : St → Ans := fun s => resK E s [(.tmp 6)] fun l => some (oneV l, s.σ)
def C189_0 (cc1 : XC) : XC := (.z (.q 6 0<|
.nil)
 (.z (.q 7 0<|
.nil)
 (.z (.c 8 y3<|
.nil)
 (.block 0 (.loop q189a [] [] cc1)))))
def T189_0 (E : List (Nat × Blk)) (D : Den) (W : DrawFn) (K1 : V → Int → V → Int → Bool → H → Ans) (a : V) (b : Int) (c : V) (σ : H) : Ans :=
 K1 a b c (Int.ofNat 0) false σ
def C189_1 (cc2 : XC) : XC := (.block 1 (.z (.m 12 0<|
.m 13 8<|
.k 14 (.tup [.i, .bool]) 268 [(.t 12), (.t 13)]<|
.m 11 14<|
.P 15 (.extract 0 (.t 11))<|
.P 16 (.extract 1 (.t 11))<|
.m 9 15<|
.m 10 16<|
.nil)
 (.seq (.z (.m 17 9<|
.m 18 1<|
.p 19 [18] (.max (.t 18) [(.i 0)])<|
.m 20 7<|
.b 21 .sub .none (.t 19) (.t 20)<|
.b 22 .gtr .none (.t 17) (.t 21)<|
.nil)
 (.cond (.tmp 22) (.ops (.m 23 0<|
.k 24 y10 181 [(.t 23), (.i 5)]<|
.nil))
 .skip))
 (.keep [(0, .any), (1, .i), (2, .any), (7, .i), (9, .i), (10, .bool)] [] [] cc2))))
def T189_1 (E : List (Nat × Blk)) (D : Den) (W : DrawFn) (K2 : V → Int → V → Int → Int → Bool → H → Ans) (a : V) (b : Int) (c : V) (d : Int) (e : Bool) (σ : H) : Ans :=
 callK (D 268 [a, (V.bool e)] σ) fun u1 s2 =>
 rtTup u1 fun l3 =>
 xcI .i64 l3 fun x6 l5 =>
 xcB l5 fun x9 l8 =>
 rtNil l8 (
 condK (ltF (subF .i64 (maxF b (Int.ofNat 0)) d) x6) (
 callK (D 181 [a, (V.int .i64 (Int.ofNat 5))] s2) fun u10 s11 =>
 rtTup u10 fun l12 =>
 rtNil l12 (
 K2 a b c d x6 x9 s11)) (
 K2 a b c d x6 x9 s2))
def C189_2 : XC := (.seq (.z (.m 25 0<|
.k 26 .i 114 [(.t 25)]<|
.b 27 .neq .none (.t 26) (.i 0)<|
.m 28 27<|
.gO 28 false (.p 29 [2, 28] (.mov (.t 2))<|
.p 30 [9, 28] (.mov (.t 9))<|
.op (some 31) .bool [29, 30, 28] (.callv (.t 29) [(.t 30)])<|
.p 32 [31, 28] (.un .not (.t 31))<|
.nil) 33 28 32<|
.m 34 33<|
.gO 34 false (.p 35 [0, 34] y13<|
.op (some 36) .i [35, 34] (.call 114 [(.t 35)])<|
.p 37 [36, 34] (.bin .neq .none (.t 36) (.i 0))<|
.nil) 38 34 37<|
.nil)
 (.cond (.tmp 38) (.z (.q 6 0<|
.nil)
 .ret)
 .skip))
 (.z (.m 39 7<|
.m 40 9<|
.b 41 .add .none (.t 39) (.t 40)<|
.m 7 41<|
.nil)
 (.seq (.z (.m 42 10<|
.P 43 (.un .not (.t 42))<|
.nil)
 (.cond (.tmp 43) (.z (.m 44 7<|
.m 6 44<|
.nil)
 .ret)
 .skip))
 (.ops (.m 45 9<|
.b 46 .lss .none (.t 45) (.i 65536)<|
.m 8 46<|
.nil)))))
def T189_2 (E : List (Nat × Blk)) (D : Den) (W : DrawFn) (R1 : V → Int → V → Int → Bool → H → Ans) (a : V) (b : Int) (c : V) (d e : Int) (f : Bool) (σ : H) : Ans :=
 callK (D 114 [a] σ) fun u1 s2 =>
 rtInt .i64 u1 fun x3 =>
 joinB (fun c4 s5 =>
 joinB (fun c7 s8 =>
 condK c7 (
 some ((V.int .i64 (Int.ofNat 0)), s8)) (
 condK (not f) (
 some ((V.int .i64 (addF .i64 d e)), s8)) (
 R1 a b c (addF .i64 d e) (ltF e (Int.ofNat 65536)) s8))) fun k9 =>
 condK c4 (
 k9 true s5) (
 callK (D 114 [a] s5) fun u10 s11 =>
 rtInt .i64 u10 fun x12 =>
 k9 (not (eqF x12 (Int.ofNat 0))) s11)) fun k6 =>
 condK (not (eqF x3 (Int.ofNat 0))) (
 k6 true s2) (
 callvK D c [(V.int .i64 e)] s2 fun u13 s14 =>
 rtBool u13 fun x15 =>
 k6 (not x15) s14)
def S189_0 (a : V) (b : Int) (c : V) (σ : H) : St := ⟨[(0, a), (1, (V.int .i64 b)), (2, c)], [], [], σ⟩
def S189_1 (a : V) (b : Int) (c : V) (d : Int) (e : Bool) (σ : H) : St := ⟨[(0, a), (1, (V.int .i64 b)), (2, c), (7, (V.int .i64 d)), (8, (V.bool e))], [], [], σ⟩
def S189_2 (a : V) (b : Int) (c : V) (d e : Int) (f : Bool) (σ : H) : St := ⟨[(0, a), (1, (V.int .i64 b)), (2, c), (7, (V.int .i64 d)), (9, (V.int .i64 e)), (10, (V.bool f))], [], [], σ⟩
theorem P189_0 (cc1 : XC) (a : V) (b : Int) (c : V) (σ : H) :
 denC E D W N (C189_0 cc1) (S189_0 a b c σ) (Fin189 E) nX (Fin189 E) =
 T189_0 E D W (fun a b c d e σ => iterK (fun rec s' => denC E D W N cc1 s' (kX q189a [] [] rec) (blkK 0 (Fin189 E) nX) (Fin189 E)) N (S189_1 a b c d e σ)) a b c σ := by kernel_rfl
theorem P189_1 (cc2 : XC) (li1 : St → Ans) (a : V) (b : Int) (c : V) (d : Int) (e : Bool) (σ : H) :
 denC E D W N (C189_1 cc2) (S189_1 a b c d e σ) (kX q189a [] [] li1) (blkK 0 (Fin189 E) nX) (Fin189 E) =
 T189_1 E D W (fun a b c d f g σ => denC E D W N cc2 (S189_2 a b c d f g σ) (kX q189a [] [] li1) (blkK 1 (kX q189a [] [] li1) (blkK 0 (Fin189 E) nX)) (Fin189 E)) a b c d e σ := by kernel_rfl
theorem P189_2 (li1 : St → Ans) (a : V) (b : Int) (c : V) (d e : Int) (f : Bool) (σ : H) :
 denC E D W N (C189_2 ) (S189_2 a b c d e f σ) (kX q189a [] [] li1) (blkK 1 (kX q189a [] [] li1) (blkK 0 (Fin189 E) nX)) (Fin189 E) =
 T189_2 E D W (fun a b c d g σ => li1 (S189_1 a b c d g σ)) a b c d e f σ := by kernel_rfl
def J189_2 (E : List (Nat × Blk)) (D : Den) (W : DrawFn) (N : Nat) (R1 : V → Int → V → Int → Bool → H → Ans) := T189_2 E D W R1
theorem JE189_2 (li1 : St → Ans) (a : V) (b : Int) (c : V) (d e : Int) (f : Bool) (σ : H) :
 denC E D W N C189_2 (S189_2 a b c d e f σ) (kX q189a [] [] li1) (blkK 1 (kX q189a [] [] li1) (blkK 0 (Fin189 E) nX)) (Fin189 E) = J189_2 E D W N (fun a b c d g σ => li1 (S189_1 a b c d g σ)) a b c d e f σ := by
 refine (P189_2 E D W N  li1 a b c d e f σ).trans ?_
 kernel_rfl
def L189_1 (n : Nat) : V → Int → V → Int → Bool → H → Ans :=
 Nat.rec (fun _ _ _ _ _ _ => none) (fun _ ih => T189_1 E D W (J189_2 E D W N ih)) n
theorem LE189_1 (n : Nat) : ∀ (a : V) (b : Int) (c : V) (d : Int) (e : Bool) (σ : H),
 iterK (fun rec s' => denC E D W N (C189_1 C189_2) s' (kX q189a [] [] rec) (blkK 0 (Fin189 E) nX) (Fin189 E)) n (S189_1 a b c d e σ) = L189_1 E D W N n a b c d e σ := by
 induction n with
 | zero => intro a b c d e σ; rfl
 | succ n ihn =>
  intro a b c d e σ
  rw [iterK_succ]
  refine (P189_1 E D W N C189_2 (iterK (fun rec s' => denC E D W N (C189_1 C189_2) s' (kX q189a [] [] rec) (blkK 0 (Fin189 E) nX) (Fin189 E)) n) a b c d e σ).trans ?_
  simp only [ihn, JE189_2]
  kernel_rfl
def J189_0 := T189_0 E D W (L189_1 E D W N N)
theorem JE189_0 (a : V) (b : Int) (c : V) (σ : H) :
 denC E D W N (C189_0 (C189_1 C189_2)) (S189_0 a b c σ) (Fin189 E) nX (Fin189 E) = J189_0 E D W N a b c σ := by
 refine (P189_0 E D W N (C189_1 C189_2)  a b c σ).trans ?_
 simp only [LE189_1]
 kernel_rfl
def F189 (args : List V) (σ : H) : Ans :=
 rtCons args fun x1 l2 =>
 xcI .i64 l2 fun x5 l4 =>
 rtCons l4 fun x6 l7 =>
 rtNil l7 (
 J189_0 E D W N x1 x5 x6 σ)
def A189 : XFn := ⟨47, [.any, .i, .any], [(.tmp 6)], (C189_0 (C189_1 C189_2))⟩
theorem FE189 (args : List V) (σ : H) : runX E D W N A189 args σ = F189 E D W N args σ := by
 unfold F189
 simp only [← JE189_0]
 kernel_rfl
def G190_0 : List AOper := [⟨(some 5), .load none (.tmp 1), none⟩, ⟨(some 6), .load none (.tmp 2), none⟩, ⟨(some 7), .mov (.tmp 0), none⟩, ⟨(some 8), .call 109 [(.tmp 6), (.tmp 7)], none⟩, ⟨(some 9), .append 5 1 1 (.tmp 5) (.tmp 8), none⟩, ⟨none, .store 1 (.tmp 1) (.tmp 9), none⟩]
def H190_0 : List DP := [⟨0, [1]⟩, ⟨0, [2]⟩, ⟨0, [0]⟩, ⟨6, [6, 7]⟩, ⟨15, [5, 8]⟩, ⟨31, [1, 9]⟩]
def Fin190 (E : List (Nat × Blk)) : St → Ans := fun s => resK E s [(.tmp 4)] fun l => some (oneV l, s.σ)
def C190_0 : XC := (.z (.c 4 y3<|
.nil)
 (.seq (.keep [(0, .i), (1, .any), (2, .any)] [] [] (.gdraw G190_0 H190_0 []))
 (.z (.c 4 y26<|
.nil)
 .ret)))
def T190_0 (E : List (Nat × Blk)) (D : Den) (W : DrawFn) (a : Int) (b c : V) (σ : H) : Ans :=
 gdrawK (W G190_0 H190_0 [(0, (V.int .i64 a)), (1, b), (2, c)] σ) fun e1 s2 =>
 some ((V.bool true), s2)
def S190_0 (a : Int) (b c : V) (σ : H) : St := ⟨[(0, (V.int .i64 a)), (1, b), (2, c)], [], [], σ⟩
theorem P190_0 (a : Int) (b c : V) (σ : H) :
 denC E D W N (C190_0 ) (S190_0 a b c σ) (Fin190 E) nX (Fin190 E) =
 T190_0 E D W  a b c σ := by kernel_rfl
def J190_0 (E : List (Nat × Blk)) (D : Den) (W : DrawFn) (N : Nat) := T190_0 E D W
theorem JE190_0 (a : Int) (b c : V) (σ : H) :
 denC E D W N C190_0 (S190_0 a b c σ) (Fin190 E) nX (Fin190 E) = J190_0 E D W N a b c σ := by
 refine (P190_0 E D W N   a b c σ).trans ?_
 kernel_rfl
def F190 (args : List V) (σ : H) : Ans :=
 xcI .i64 args fun x3 l2 =>
 rtCons l2 fun x4 l5 =>
 rtCons l5 fun x6 l7 =>
 rtNil l7 (
 J190_0 E D W N x3 x4 x6 σ)
def A190 : XFn := ⟨10, [.i, .any, .any], [(.tmp 4)], C190_0⟩
theorem FE190 (args : List V) (σ : H) : runX E D W N A190 args σ = F190 E D W N args σ := by
 unfold F190
 simp only [← JE190_0]
 kernel_rfl
def q191a : List (Nat × XTy) := [(0, .ptr), (2, .ptr), (4, .i), (6, .ptr), (11, .any), (17, .any), (18, .i), (19, .i)]
def q191b : List (Nat × XTy) := [(0, .ptr), (2, .ptr), (4, .i), (6, .ptr), (11, .any), (45, .any), (46, .i), (47, .i)]
def q191c : List (Nat × XTy) := [(0, .any), (5, .any), (32, .i), (33, .i)]
def Fin191 (E : List (Nat × Blk)) : St → Ans := fun s => resK E s [(.tmp 4)] fun l => some (oneV l, s.σ)
def b191a (c0 : XC) : Nat → St → Ans := blkK 0 (dX E D W N (.keep [(5, .any)] [] [] c0) (Fin191 E) nX (Fin191 E)) nX
def C191_0 (cc1 : XC) : XC := (.z (.c 4 V.nils<|
.nil)
 (.z (.m 6 1<|
.p 7 [6] (.max (.t 6) [(.i 0)])<|
.m 1 7<|
.nil)
 (.seq (.z (.m 8 0<|
.b 9 .neq .ptr (.t 8) y34<|
.m 10 9<|
.gA 10 true (.p 11 [1, 10] y16<|
.p 12 [0, 10] y13<|
.p 13 [12, 10] (.nilck (.t 12))<|
.p 14 [13, 10] (.faddr 0 (.t 13))<|
.p 15 [14, 10] (.faddr 0 (.t 14))<|
.p 16 [15, 10] (.load none (.t 15))<|
.p 17 [16, 10] (.len false (.t 16))<|
.p 18 [11, 17, 10] (.bin .gtr .none (.t 11) (.t 17))<|
.nil) 19 10 18<|
.nil)
 (.cond (.tmp 19) (.ops (.m 20 0<|
.n 21 20<|
.f 22 0 21<|
.f 23 0 22<|
.l 24 .any 23<|
.u 25 24<|
.b 26 .add .none (.t 25) (.i 1)<|
.m 1 26<|
.nil))
 .skip))
 (.keep [(0, .any), (1, .i)] [] [] cc1))))
def T191_0 (E : List (Nat × Blk)) (D : Den) (W : DrawFn) (K1 : V → Int → H → Ans) (a : V) (b : Int) (σ : H) : Ans :=
 eqK .ptr a V.nilp fun c1 =>
 joinB (fun c2 s3 =>
 condK c2 (
 rtPtr a fun b5 o6 =>
 ldK E s3 b5 o6 fun u7 =>
 slenK u7 fun n8 =>
 K1 a (addF .i64 (Int.ofNat n8) (Int.ofNat 1)) s3) (
 K1 a (maxF b (Int.ofNat 0)) s3)) fun k4 =>
 condK (not c1) (
 rtPtr a fun b9 o10 =>
 ldK E σ b9 o10 fun u11 =>
 slenK u11 fun n12 =>
 k4 (ltF (Int.ofNat n12) (maxF b (Int.ofNat 0))) σ) (
 k4 false σ)
def C191_1 (cc2 : XC) (cc3 : XC) : XC := (.seq (.z (.m 27 0<|
.m 28 1<|
.b 29 .mul .none (.i 8) (.t 28)<|
.k 30 .bool 261 [(.t 27), (.t 29)]<|
.P 31 (.un .not (.t 30))<|
.nil)
 (.cond (.tmp 31) (.z (.c 4 V.nils<|
.nil)
 .ret)
 .skip))
 (.z (.c 5 V.nils<|
.nil)
 (.seq (.z (.m 32 1<|
.q 33 0<|
.nil)
 (.block 0 (.loop q191c [] [] cc3)))
 (.keep [(5, .any)] [] [] cc2))))
def T191_1 (E : List (Nat × Blk)) (D : Den) (W : DrawFn) (K3 : V → V → Int → Int → H → Ans) (a : V) (b : Int) (σ : H) : Ans :=
 callK (D 261 [a, (V.int .i64 (mulF .i64 (Int.ofNat 8) b))] σ) fun u1 s2 =>
 rtBool u1 fun x3 =>
 condK (not x3) (
 some (V.nils, s2)) (
 K3 a V.nils b (Int.ofNat 0) s2)
def C191_2 : XC := (.z (.m 44 5<|
.m 4 44<|
.nil)
 .ret)
def T191_2 (E : List (Nat × Blk)) (D : Den) (W : DrawFn) (a : V) (σ : H) : Ans :=
 some (a, σ)
def C191_3 : XC := (.z (.b 34 .lss .none (.t 33) (.t 32)<|
.nil)
 (.seq (.cond (.tmp 34) .skip
 y23)
 (.seq (.block 1 (.ops (.m 35 5<|
.m 36 0<|
.n 37 36<|
.f 38 0 37<|
.k 39 (.int .u32) 204 [(.t 38), (.i 8)]<|
.P 40 (.conv (.toInt .u8) (.t 39))<|
.p 41 [40] (.buildSlice 5 1 [y14] [(0, 1, (.t 40))])<|
.O 42 .one (.append 5 1 1 (.t 35) (.t 41))<|
.m 5 42<|
.nil)))
 (.ops (.b 43 .add .none (.t 33) (.i 1)<|
.m 33 43<|
.nil)))))
def T191_3 (E : List (Nat × Blk)) (D : Den) (W : DrawFn) (K2 : V → H → Ans) (R3 : V → V → Int → Int → H → Ans) (a b : V) (c d : Int) (σ : H) : Ans :=
 condK (ltF d c) (
 rtPtr a fun b1 o2 =>
 callK (D 204 [(V.ptr b1 o2), (V.int .i64 (Int.ofNat 8))] σ) fun u3 s4 =>
 rtInt .u32 u3 fun x5 =>
 let s6 := newB s4 (.cells [(V.int .u8 (wrapF .u8 x5))]);
 appK E 1 1 b (V.sl (H.next s4) 0 1 (.ex 1)) s6 fun u7 s8 =>
 rtOne u7 (
 R3 a u7 c (addF .i64 d (Int.ofNat 1)) s8)) (
 K2 b σ)
def S191_0 (a : V) (b : Int) (σ : H) : St := ⟨[(0, a), (1, (V.int .i64 b))], [], [], σ⟩
def S191_1 (a : V) (b : Int) (σ : H) : St := ⟨[(0, a), (1, (V.int .i64 b))], [], [], σ⟩
def S191_2 (a : V) (σ : H) : St := ⟨[(5, a)], [], [], σ⟩
def S191_3 (a b : V) (c d : Int) (σ : H) : St := ⟨[(0, a), (5, b), (32, (V.int .i64 c)), (33, (V.int .i64 d))], [], [], σ⟩
theorem P191_0 (cc1 : XC) (a : V) (b : Int) (σ : H) :
 denC E D W N (C191_0 cc1) (S191_0 a b σ) (Fin191 E) nX (Fin191 E) =
 T191_0 E D W (fun a b σ => denC E D W N cc1 (S191_1 a b σ) (Fin191 E) nX (Fin191 E)) a b σ := by kernel_rfl
theorem P191_1 (cc2 : XC) (cc3 : XC) (a : V) (b : Int) (σ : H) :
 denC E D W N (C191_1 cc2 cc3) (S191_1 a b σ) (Fin191 E) nX (Fin191 E) =
 T191_1 E D W (fun a c d e σ => iterK (fun rec s' => denC E D W N cc3 s' (kX q191c [] [] rec) (b191a E D W N cc2) (Fin191 E)) N (S191_3 a c d e σ)) a b σ := by kernel_rfl
theorem P191_2 (a : V) (σ : H) :
 denC E D W N (C191_2 ) (S191_2 a σ) (Fin191 E) nX (Fin191 E) =
 T191_2 E D W  a σ := by kernel_rfl
theorem P191_3 (cc2 : XC) (li3 : St → Ans) (a b : V) (c d : Int) (σ : H) :
 denC E D W N (C191_3 ) (S191_3 a b c d σ) (kX q191c [] [] li3) (b191a E D W N cc2) (Fin191 E) =
 T191_3 E D W (fun b σ => denC E D W N cc2 (S191_2 b σ) (Fin191 E) nX (Fin191 E)) (fun a b c d σ => li3 (S191_3 a b c d σ)) a b c d σ := by kernel_rfl
def J191_2 (E : List (Nat × Blk)) (D : Den) (W : DrawFn) (N : Nat) := T191_2 E D W
theorem JE191_2 (a : V) (σ : H) :
 denC E D W N C191_2 (S191_2 a σ) (Fin191 E) nX (Fin191 E) = J191_2 E D W N a σ := by
 refine (P191_2 E D W N   a σ).trans ?_
 kernel_rfl
def L191_3 (n : Nat) : V → V → Int → Int → H → Ans :=
 Nat.rec (fun _ _ _ _ _ => none) (fun _ ih => T191_3 E D W (J191_2 E D W N ) ih) n
theorem LE191_3 (n : Nat) : ∀ (a b : V) (c d : Int) (σ : H),
 iterK (fun rec s' => denC E D W N C191_3 s' (kX q191c [] [] rec) (b191a E D W N C191_2) (Fin191 E)) n (S191_3 a b c d σ) = L191_3 E D W N n a b c d σ := by
 induction n with
 | zero => intro a b c d σ; rfl
 | succ n ihn =>
  intro a b c d σ
  rw [iterK_succ]
  refine (P191_3 E D W N C191_2 (iterK (fun rec s' => denC E D W N C191_3 s' (kX q191c [] [] rec) (b191a E D W N C191_2) (Fin191 E)) n) a b c d σ).trans ?_
  simp only [ihn, JE191_2]
  kernel_rfl
def J191_1 := T191_1 E D W (L191_3 E D W N N)
theorem JE191_1 (a : V) (b : Int) (σ : H) :
 denC E D W N (C191_1 C191_2 C191_3) (S191_1 a b σ) (Fin191 E) nX (Fin191 E) = J191_1 E D W N a b σ := by
 refine (P191_1 E D W N C191_2 C191_3  a b σ).trans ?_
 simp only [LE191_3]
 kernel_rfl
def J191_0 := T191_0 E D W (J191_1 E D W N )
theorem JE191_0 (a : V) (b : Int) (σ : H) :
 denC E D W N (C191_0 (C191_1 C191_2 C191_3)) (S191_0 a b σ) (Fin191 E) nX (Fin191 E) = J191_0 E D W N a b σ := by
 refine (P191_0 E D W N (C191_1 C191_2 C191_3)  a b σ).trans ?_
 simp only [JE191_1]
 kernel_rfl
def F191 (args : List V) (σ : H) : Ans :=
 rtCons args fun x1 l2 =>
 xcI .i64 l2 fun x5 l4 =>
 rtNil l4 (
 J191_0 E D W N x1 x5 σ)
def A191 : XFn := ⟨45, y44, [(.tmp 4)], (C191_0 (C191_1 C191_2 C191_3))⟩
theorem FE191 (args : List V) (σ : H) : runX E D W N A191 args σ = F191 E D W N args σ := by
 unfold F191
 simp only [← JE191_0]
 kernel_rfl
def G199_0 : List AOper := [⟨(some 58), .mov (.tmp 2), none⟩, ⟨(some 59), .nilck (.tmp 58), none⟩, ⟨(some 60), .faddr 3 (.tmp 59), none⟩, ⟨(some 61), .load none (.tmp 60), none⟩, ⟨(some 62), .mov (.tmp 16), none⟩, ⟨(some 63), .mov (.tmp 0), none⟩, ⟨(some 64), .faddr 9 (.tmp 6), none⟩, ⟨(some 65), .load none (.tmp 64), none⟩, ⟨(some 66), .mov (.tmp 16), none⟩, ⟨(some 67), .iaddrS 11 (.tmp 65) (.tmp 66), none⟩, ⟨(some 68), .faddr 1 (.tmp 67), none⟩, ⟨(some 69), .load none (.tmp 68), none⟩, ⟨(some 70), .mov (.tmp 4), none⟩, ⟨(some 71), .bin .add .none (.tmp 70) (.con (V.int .i64 (Int.ofNat 1))), none⟩, ⟨(some 72), .call 51 [(.tmp 63), (.tmp 69), (.tmp 71)], none⟩, ⟨(some 73), .iaddrS 6 (.tmp 61) (.tmp 62), none⟩, ⟨none, .store 6 (.tmp 73) (.tmp 72), none⟩]
def H199_0 : List DP := [⟨0, [2]⟩, ⟨1, [58]⟩, ⟨3, [59]⟩, ⟨7, [60]⟩, ⟨0, [16]⟩, ⟨0, [0]⟩, ⟨0, [6]⟩, ⟨64, [64]⟩, ⟨0, [16]⟩, ⟨448, [65, 66]⟩, ⟨960, [67]⟩, ⟨1984, [68]⟩, ⟨0, [4]⟩, ⟨4096, [70]⟩, ⟨16352, [63, 69, 71]⟩, ⟨32767, [61, 62]⟩, ⟨65535, [73, 72]⟩]
def C199_0 (cc1 : XC) (cc2 : XC) : XC := (.z (.P 6 (.box 145 (.t 1))<|
.c 10 y3<|
.nil)
 (.z (.c 11 V.nils<|
.nil)
 (.seq (.z (.m 17 3<|
.u 18 17<|
.q 19 0<|
.nil)
 (.block 0 (.loop q191a [] [] cc2)))
 (.keep [(0, .ptr), (2, .ptr), (4, .i), (6, .ptr), (11, .any)] [] [] cc1))))
def C199_1 (cc4 : XC) (cc5 : XC) : XC := (.seq (.z (.m 45 11<|
.u 46 45<|
.q 47 0<|
.nil)
 (.block 2 (.loop q191b [] [] cc5)))
 (.keep [(11, .any)] [] [] cc4))
def C199_2 (cc3 : XC) : XC := (.z (.b 20 .lss .none (.t 19) (.t 18)<|
.nil)
 (.seq (.cond (.tmp 20) .skip
 y23)
 (.seq (.block 1 (.z (.s 21 1 17 19<|
.l 22 .i 21<|
.m 13 22<|
.nil)
 (.z (.f 23 9 6<|
.l 24 .any 23<|
.m 25 13<|
.s 26 11 24 25<|
.O 27 y9 (.load (some 11) (.t 26))<|
.pal 14 [] 200 [y7, y0, y3, y3, y0, y0, V.nils, V.nils, y0, V.nils, y0]<|
.op none y9 [14, 27] (.store 11 (.t 14) (.t 27))<|
.nil)
 (.z (.f 28 2 14<|
.l 29 .bool 28<|
.P 30 (.un .not (.t 29))<|
.m 31 30<|
.gA 31 true (.p 32 [14, 31] (.faddr 3 (.t 14))<|
.op (some 33) .bool [32, 31] (.load none (.t 32))<|
.p 34 [33, 31] (.un .not (.t 33))<|
.nil) 35 31 34<|
.m 36 35<|
.gO 36 false (.p 37 [0, 36] y13<|
.op (some 38) .bool [37, 36] (.call 184 [(.t 37)])<|
.nil) 39 36 38<|
.nil)
 (.cond (.tmp 39) (.ops (.m 40 11<|
.m 41 13<|
.p 42 [41] (.buildSlice 3 1 [y0] [(0, 1, (.t 41))])<|
.O 43 .one (.append 3 1 8 (.t 40) (.t 42))<|
.m 11 43<|
.nil))
 .skip)))))
 (.keep q191a [] [] cc3))))
def C199_3 : XC := (.ops (.b 44 .add .none (.t 19) (.i 1)<|
.m 19 44<|
.nil))
def C199_4 : XC := (.z (.m 75 11<|
.u 76 75<|
.b 77 .gtr .none (.t 76) (.i 0)<|
.m 10 77<|
.nil)
 .ret)
def C199_5 (cc6 : XC) : XC := (.z (.b 48 .lss .none (.t 47) (.t 46)<|
.nil)
 (.seq (.cond (.tmp 48) .skip
 (.exit 2))
 (.seq (.block 3 (.z (.s 49 1 45 47<|
.l 50 .i 49<|
.m 16 50<|
.nil)
 (.z (.m 51 0<|
.k 52 .bool 102 [(.t 51)]<|
.nil)
 (.cond (.tmp 52) (.z (.m 53 0<|
.n 54 53<|
.f 55 5 54<|
.l 56 .any 55<|
.k 57 .bool 101 [(.t 56), (.con y21)]<|
.nil)
 (.keep [(0, .ptr), (2, .ptr), (4, .i), (6, .ptr), (11, .any), (16, .i), (45, .any), (46, .i), (47, .i)] [] [] (.gdraw G199_0 H199_0 q191b)))
 .skip))))
 (.keep q191b [] [] cc6))))
def C199_6 : XC := (.ops (.b 74 .add .none (.t 47) (.i 1)<|
.m 47 74<|
.nil))
def A199 : XFn := ⟨78, [.ptr, y1, .ptr, .any, .i], [(.tmp 10)], (C199_0 (C199_1 C199_4 (C199_5 C199_6)) (C199_2 C199_3))⟩
def Fin201 (E : List (Nat × Blk)) : St → Ans := fun s => resK E s [(.tmp 2)] fun l => some (oneV l, s.σ)
def C201_0 : XC := (.z (.q 2 0<|
.nil)
 (.seq (.z (.m 3 0<|
.b 4 .eql .ptr (.t 3) y34<|
.nil)
 (.cond (.tmp 4) (.z (.q 2 2<|
.nil)
 .ret)
 .skip))
 (.z (.m 5 0<|
.n 6 5<|
.f 7 2 6<|
.l 8 .i 7<|
.m 2 8<|
.nil)
 .ret)))
def T201_0 (E : List (Nat × Blk)) (D : Den) (W : DrawFn) (a : V) (σ : H) : Ans :=
 eqK .ptr a V.nilp fun c1 =>
 condK c1 (
 some ((V.int .i64 (Int.ofNat 2)), σ)) (
 rtPtr a fun b2 o3 =>
 ldK E σ b2 (Nat.add o3 2) fun u4 =>
 rtInt .i64 u4 fun x5 =>
 some ((V.int .i64 x5), σ))
def S201_0 (a : V) (σ : H) : St := ⟨[(0, a)], [], [], σ⟩
theorem P201_0 (a : V) (σ : H) :
 denC E D W N (C201_0 ) (S201_0 a σ) (Fin201 E) nX (Fin201 E) =
 T201_0 E D W  a σ := by kernel_rfl
def J201_0 (E : List (Nat × Blk)) (D : Den) (W : DrawFn) (N : Nat) := T201_0 E D W
theorem JE201_0 (a : V) (σ : H) :
 denC E D W N C201_0 (S201_0 a σ) (Fin201 E) nX (Fin201 E) = J201_0 E D W N a σ := by
 refine (P201_0 E D W N   a σ).trans ?_
 kernel_rfl
def F201 (args : List V) (σ : H) : Ans :=
 rtCons args fun x1 l2 =>
 rtNil l2 (
 J201_0 E D W N x1 σ)
def A201 : XFn := ⟨9, [.any], [(.tmp 2)], C201_0⟩
theorem FE201 (args : List V) (σ : H) : runX E D W N A201 args σ = F201 E D W N args σ := by
 unfold F201
 simp only [← JE201_0]
 kernel_rfl
def Fin202 (E : List (Nat × Blk)) : St → Ans := fun s => resK E s [(.tmp 2)] fun l => some (oneV l, s.σ)
def C202_0 : XC := (.z (.q 2 0<|
.nil)
 (.seq (.z (.m 3 0<|
.b 4 .eql .ptr (.t 3) y34<|
.nil)
 y25)
 (.z (.m 5 0<|
.n 6 5<|
.f 7 0 6<|
.k 8 .i 203 [(.t 7)]<|
.m 2 8<|
.nil)
 .ret)))
def T202_0 (E : List (Nat × Blk)) (D : Den) (W : DrawFn) (a : V) (σ : H) : Ans :=
 eqK .ptr a V.nilp fun c1 =>
 condK c1 (
 some ((V.int .i64 (Int.ofNat 0)), σ)) (
 rtPtr a fun b2 o3 =>
 callK (D 203 [(V.ptr b2 o3)] σ) fun u4 s5 =>
 rtInt .i64 u4 fun x6 =>
 some ((V.int .i64 x6), s5))
def S202_0 (a : V) (σ : H) : St := ⟨[(0, a)], [], [], σ⟩
theorem P202_0 (a : V) (σ : H) :
 denC E D W N (C202_0 ) (S202_0 a σ) (Fin202 E) nX (Fin202 E) =
 T202_0 E D W  a σ := by kernel_rfl
def J202_0 (E : List (Nat × Blk)) (D : Den) (W : DrawFn) (N : Nat) := T202_0 E D W
theorem JE202_0 (a : V) (σ : H) :
 denC E D W N C202_0 (S202_0 a σ) (Fin202 E) nX (Fin202 E) = J202_0 E D W N a σ := by
 refine (P202_0 E D W N   a σ).trans ?_
 kernel_rfl
def F202 (args : List V) (σ : H) : Ans :=
 rtCons args fun x1 l2 =>
 rtNil l2 (
 J202_0 E D W N x1 σ)
def A202 : XFn := ⟨9, [.any], [(.tmp 2)], C202_0⟩
theorem FE202 (args : List V) (σ : H) : runX E D W N A202 args σ = F202 E D W N args σ := by
 unfold F202
 simp only [← JE202_0]
 kernel_rfl
def Fin203 (E : List (Nat × Blk)) : St → Ans := fun s => resK E s [(.tmp 2)] fun l => some (oneV l, s.σ)
def C203_0 : XC := (.z (.q 2 0<|
.nil)
 (.seq (.draw (.m 3 0<|
.n 4 3<|
.f 5 0 4<|
.l 6 .any 5<|
.u 7 6<|
.b 8 .mul .none (.i 8) (.t 7)<|
.m 9 0<|
.n 10 9<|
.f 11 1 10<|
.l 12 .i 11<|
.b 13 .sub .none (.t 8) (.t 12)<|
.m 2 13<|
.nil) [0, 1, 3, 7, 15, 31, 0, 64, 192, 448, 1023, 2047])
 .ret))
def T203_0 (E : List (Nat × Blk)) (D : Den) (W : DrawFn) (a b : Nat) (σ : H) : Ans :=
 ldK E σ a b fun u1 =>
 slenK u1 fun n2 =>
 ldK E σ a (Nat.add b 1) fun u3 =>
 rtInt .i64 u3 fun x4 =>
 some ((V.int .i64 (subF .i64 (mulF .i64 (Int.ofNat 8) (Int.ofNat n2)) x4)), σ)
def S203_0 (a b : Nat) (σ : H) : St := ⟨[(0, (V.ptr a b))], [], [], σ⟩
theorem P203_0 (a b : Nat) (σ : H) :
 denC E D W N (C203_0 ) (S203_0 a b σ) (Fin203 E) nX (Fin203 E) =
 T203_0 E D W  a b σ := by kernel_rfl
def J203_0 (E : List (Nat × Blk)) (D : Den) (W : DrawFn) (N : Nat) := T203_0 E D W
theorem JE203_0 (a b : Nat) (σ : H) :
 denC E D W N C203_0 (S203_0 a b σ) (Fin203 E) nX (Fin203 E) = J203_0 E D W N a b σ := by
 refine (P203_0 E D W N   a b σ).trans ?_
 kernel_rfl
def F203 (args : List V) (σ : H) : Ans :=
 rtCons args fun x1 l2 =>
 rtPtr x1 fun b3 o4 =>
 rtNil l2 (
 J203_0 E D W N b3 o4 σ)
def A203 : XFn := ⟨14, [.ptr], [(.tmp 2)], C203_0⟩
theorem FE203 (args : List V) (σ : H) : runX E D W N A203 args σ = F203 E D W N args σ := by
 unfold F203
 simp only [← JE203_0]
 kernel_rfl
def q204a : List (Nat × XTy) := [(0, .ptr), (1, .i), (3, .i), (6, .ptr), (8, .bool), (11, .any), (12, .i), (13, .ptr), (14, .i)]
def q204b : List (Nat × List XTy) := [(7, [.i, .any, .bool, .bool, .bool, .bool, .i, .i, .any, .any, .i, .bool, .i]), (9, [.i, .i])]
def q204c : List (Nat × List XTy) := [(2, [.bool, .bool, .bool, .bool, .i, .i]), (3, [.bool, .bool, .bool, .bool, .i, .i])]
def q204d : List (Nat × XTy) := [(0, .ptr), (1, .i), (3, .i), (6, .ptr), (8, .bool), (11, .any), (12, .i), (13, .ptr)]
def q204e : List (Nat × List XTy) := [(7, [.i, .any, .bool, .bool, .bool, .bool, .i, .i, .any, .any, .i, .bool, .i])]
def q204f : List (Nat × XTy) := [(0, .str), (1, .i), (5, .bool), (6, .i), (7, (.int .u64))]
def q204g : List (Nat × XTy) := [(0, .any), (5, (.int .u32)), (6, .i), (7, .i)]
def q204h : List (Nat × XTy) := [(0, .ptr), (1, .ptr), (2, .i), (6, .i)]
def Fin204 (E : List (Nat × Blk)) : St → Ans := fun s => resK E s [(.tmp 4)] fun l => some (oneV l, s.σ)
def b204a (c0 : XC) : Nat → St → Ans := blkK 0 (dX E D W N (.keep [(5, (.int .u32))] [] [] c0) (Fin204 E) nX (Fin204 E)) nX
def C204_0 (cc1 : XC) (cc2 : XC) : XC := (.z (.c 4 y39<|
.nil)
 (.z (.c 5 y39<|
.nil)
 (.seq (.z (.m 6 1<|
.q 7 0<|
.nil)
 (.block 0 (.loop q204g [] [] cc2)))
 (.keep [(5, (.int .u32))] [] [] cc1))))
def T204_0 (E : List (Nat × Blk)) (D : Den) (W : DrawFn) (K2 : V → Int → Int → Int → H → Ans) (a : V) (b : Int) (σ : H) : Ans :=
 K2 a (Int.ofNat 0) b (Int.ofNat 0) σ
def C204_1 : XC := (.z (.m 16 5<|
.m 4 16<|
.nil)
 .ret)
def T204_1 (E : List (Nat × Blk)) (D : Den) (W : DrawFn) (a : Int) (σ : H) : Ans :=
 some ((V.int .u32 a), σ)
def C204_2 : XC := (.z (.b 8 .lss .none (.t 7) (.t 6)<|
.nil)
 (.seq y52
 (.seq (.block 1 (.ops (.m 9 5<|
.b 10 .shl .none (.t 9) y30<|
.m 11 0<|
.k 12 .i 273 [(.t 11)]<|
.P 13 (.conv (.toInt .u32) (.t 12))<|
.b 14 .or .none (.t 10) (.t 13)<|
.m 5 14<|
.nil)))
 (.ops (.b 15 .add .none (.t 7) (.i 1)<|
.m 7 15<|
.nil)))))
def T204_2 (E : List (Nat × Blk)) (D : Den) (W : DrawFn) (K1 : Int → H → Ans) (R2 : V → Int → Int → Int → H → Ans) (a : V) (b c d : Int) (σ : H) : Ans :=
 condK (ltF d c) (
 callK (D 273 [a] σ) fun u1 s2 =>
 rtInt .i64 u1 fun x3 =>
 R2 a (orF .u32 (shlF .u32 b 1) (wrapF .u32 x3)) c (addF .i64 d (Int.ofNat 1)) s2) (
 K1 b σ)
def S204_0 (a : V) (b : Int) (σ : H) : St := ⟨[(0, a), (1, (V.int .i64 b))], [], [], σ⟩
def S204_1 (a : Int) (σ : H) : St := ⟨[(5, (V.int .u32 a))], [], [], σ⟩
def S204_2 (a : V) (b c d : Int) (σ : H) : St := ⟨[(0, a), (5, (V.int .u32 b)), (6, (V.int .i64 c)), (7, (V.int .i64 d))], [], [], σ⟩
theorem P204_0 (cc1 : XC) (cc2 : XC) (a : V) (b : Int) (σ : H) :
 denC E D W N (C204_0 cc1 cc2) (S204_0 a b σ) (Fin204 E) nX (Fin204 E) =
 T204_0 E D W (fun a c d e σ => iterK (fun rec s' => denC E D W N cc2 s' (kX q204g [] [] rec) (b204a E D W N cc1) (Fin204 E)) N (S204_2 a c d e σ)) a b σ := by kernel_rfl
theorem P204_1 (a : Int) (σ : H) :
 denC E D W N (C204_1 ) (S204_1 a σ) (Fin204 E) nX (Fin204 E) =
 T204_1 E D W  a σ := by kernel_rfl
theorem P204_2 (cc1 : XC) (li2 : St → Ans) (a : V) (b c d : Int) (σ : H) :
 denC E D W N (C204_2 ) (S204_2 a b c d σ) (kX q204g [] [] li2) (b204a E D W N cc1) (Fin204 E) =
 T204_2 E D W (fun b σ => denC E D W N cc1 (S204_1 b σ) (Fin204 E) nX (Fin204 E)) (fun a b c d σ => li2 (S204_2 a b c d σ)) a b c d σ := by kernel_rfl
def J204_1 (E : List (Nat × Blk)) (D : Den) (W : DrawFn) (N : Nat) := T204_1 E D W
theorem JE204_1 (a : Int) (σ : H) :
 denC E D W N C204_1 (S204_1 a σ) (Fin204 E) nX (Fin204 E) = J204_1 E D W N a σ := by
 refine (P204_1 E D W N   a σ).trans ?_
 kernel_rfl
def L204_2 (n : Nat) : V → Int → Int → Int → H → Ans :=
 Nat.rec (fun _ _ _ _ _ => none) (fun _ ih => T204_2 E D W (J204_1 E D W N ) ih) n
theorem LE204_2 (n : Nat) : ∀ (a : V) (b c d : Int) (σ : H),
 iterK (fun rec s' => denC E D W N C204_2 s' (kX q204g [] [] rec) (b204a E D W N C204_1) (Fin204 E)) n (S204_2 a b c d σ) = L204_2 E D W N n a b c d σ := by
 induction n with
 | zero => intro a b c d σ; rfl
 | succ n ihn =>
  intro a b c d σ
  rw [iterK_succ]
  refine (P204_2 E D W N C204_1 (iterK (fun rec s' => denC E D W N C204_2 s' (kX q204g [] [] rec) (b204a E D W N C204_1) (Fin204 E)) n) a b c d σ).trans ?_
  simp only [ihn, JE204_1]
  kernel_rfl
def J204_0 := T204_0 E D W (L204_2 E D W N N)
theorem JE204_0 (a : V) (b : Int) (σ : H) :
 denC E D W N (C204_0 C204_1 C204_2) (S204_0 a b σ) (Fin204 E) nX (Fin204 E) = J204_0 E D W N a b σ := by
 refine (P204_0 E D W N C204_1 C204_2  a b σ).trans ?_
 simp only [LE204_2]
 kernel_rfl
def F204 (args : List V) (σ : H) : Ans :=
 rtCons args fun x1 l2 =>
 xcI .i64 l2 fun x5 l4 =>
 rtNil l4 (
 J204_0 E D W N x1 x5 σ)
def A204 : XFn := ⟨17, y44, [(.tmp 4)], (C204_0 C204_1 C204_2)⟩
theorem FE204 (args : List V) (σ : H) : runX E D W N A204 args σ = F204 E D W N args σ := by
 unfold F204
 simp only [← JE204_0]
 kernel_rfl
def C205_0 : XC := (.z (.c 4 y14<|
.nil)
 (.seq (.z (.m 5 1<|
.b 6 .lss .none (.t 5) (.i 0)<|
.m 7 6<|
.gO 7 false (.p 8 [1, 7] y16<|
.p 9 [0, 7] y13<|
.p 10 [9, 7] (.len true (.t 9))<|
.p 11 [8, 10, 7] (.bin .geq .none (.t 8) (.t 10))<|
.nil) 12 7 11<|
.nil)
 (.cond (.tmp 12) (.z (.c 4 y14<|
.nil)
 .ret)
 .skip))
 (.z (.m 13 0<|
.m 14 1<|
.P 15 (.idxStr (.t 13) (.t 14))<|
.m 4 15<|
.nil)
 .ret)))
def A205 : XFn := ⟨16, [.str, .i], [(.tmp 4)], C205_0⟩
def C206_0 : XC := (.z (.c 2 y3<|
.nil)
 (.z (.m 3 0<|
.b 4 .geq .none (.t 3) (.con (V.int .u8 (Int.ofNat 97)))<|
.m 5 4<|
.gA 5 true (.p 6 [0, 5] y13<|
.p 7 [6, 5] (.bin .leq .none (.t 6) (.con (V.int .u8 (Int.ofNat 122))))<|
.nil) 8 5 7<|
.m 9 8<|
.gO 9 false (.p 10 [0, 9] y13<|
.p 11 [10, 9] (.bin .geq .none (.t 10) (.con (V.int .u8 (Int.ofNat 65))))<|
.p 12 [11, 9] (.mov (.t 11))<|
.grp 12 true (.p 13 [0, 12] y13<|
.p 14 [13, 12] (.bin .leq .none (.t 13) (.con (V.int .u8 (Int.ofNat 90))))<|
.nil) 15 [12, 14, 9] (.t 12) (.t 14) y43<|
.nil) 16 9 15<|
.m 2 16<|
.nil)
 .ret))
def A206 : XFn := ⟨17, [(.int .u8)], [(.tmp 2)], C206_0⟩
def C207_0 (cc1 : XC) (cc2 : XC) : XC := (.z (.q 4 0<|
.nil)
 (.z (.m 6 1<|
.m 5 6<|
.nil)
 (.seq (.block 0 (.loop [(0, .str), (1, .i), (5, .i)] [] [] cc2))
 (.keep [(0, .str), (1, .i), (5, .i)] [] [] cc1))))
def C207_1 : XC := (.seq (.z (.m 38 0<|
.m 39 1<|
.b 40 .sub .none (.t 39) (.i 1)<|
.P 41 (.idxStr (.t 38) (.t 40))<|
.b 42 .eql .none (.t 41) y19<|
.m 43 42<|
.gO 43 false (.p 44 [1, 43] y16<|
.p 45 [5, 43] y48<|
.p 46 [44, 45, 43] (.bin .sub .none (.t 44) (.t 45))<|
.p 47 [46, 43] (.bin .gtr .none (.t 46) (.i 60))<|
.nil) 48 43 47<|
.nil)
 (.cond (.tmp 48) (.z (.c 4 y21<|
.nil)
 .ret)
 .skip))
 (.z (.m 49 1<|
.m 4 49<|
.nil)
 .ret))
def C207_2 : XC := (.seq (.z (.m 7 1<|
.m 8 0<|
.P 9 (.len true (.t 8))<|
.b 10 .lss .none (.t 7) (.t 9)<|
.m 11 10<|
.gA 11 true (.p 12 [0, 11] y13<|
.p 13 [1, 11] y16<|
.p 14 [12, 13, 11] (.idxStr (.t 12) (.t 13))<|
.op (some 15) .bool [14, 11] (.call 206 [(.t 14)])<|
.p 16 [15, 11] (.mov (.t 15))<|
.grp 16 false (.p 17 [0, 16] y13<|
.p 18 [1, 16] y16<|
.p 19 [17, 18, 16] (.idxStr (.t 17) (.t 18))<|
.op (some 20) .bool [19, 16] (.call 209 [(.t 19)])<|
.nil) 21 [16, 20, 11] (.t 16) y12 (.t 20)<|
.p 22 [21, 11] (.mov (.t 21))<|
.grp 22 false (.p 23 [0, 22] y13<|
.p 24 [1, 22] y16<|
.p 25 [23, 24, 22] (.idxStr (.t 23) (.t 24))<|
.p 26 [25, 22] (.bin .eql .none (.t 25) y19)<|
.p 27 [26, 22] (.mov (.t 26))<|
.grp 27 true (.p 28 [0, 27] y13<|
.p 29 [1, 27] y16<|
.p 30 [29, 27] (.bin .add .none (.t 29) (.i 1))<|
.op (some 31) (.int .u8) [28, 30, 27] (.call 205 [(.t 28), (.t 30)])<|
.p 32 [31, 27] (.bin .neq .none (.t 31) y19)<|
.nil) 33 [27, 32, 22] (.t 27) (.t 32) y43<|
.nil) 34 [22, 33, 11] (.t 22) y12 (.t 33)<|
.nil) 35 11 34<|
.nil)
 (.cond (.tmp 35) .skip
 y23))
 (.block 1 (.ops (.m 36 1<|
.b 37 .add .none (.t 36) (.i 1)<|
.m 1 37<|
.nil))))
def A207 : XFn := ⟨50, [.str, .i], [(.tmp 4)], (C207_0 C207_1 C207_2)⟩
def C208_0 : XC := (.z (.c 2 y3<|
.nil)
 (.z (.k 3 .one 274 []<|
.m 4 0<|
.k 5 .bool 123 [(.t 3), (.t 4)]<|
.m 2 5<|
.nil)
 .ret))
def A208 : XFn := ⟨6, [.str], [(.tmp 2)], C208_0⟩
def C209_0 : XC := (.z (.c 2 y3<|
.nil)
 (.z (.m 3 0<|
.b 4 .geq .none (.t 3) y32<|
.m 5 4<|
.gA 5 true (.p 6 [0, 5] y13<|
.p 7 [6, 5] (.bin .leq .none (.t 6) (.con (V.int .u8 (Int.ofNat 57))))<|
.nil) 8 5 7<|
.m 2 8<|
.nil)
 .ret))
def A209 : XFn := ⟨9, [(.int .u8)], [(.tmp 2)], C209_0⟩
def C210_0 (cc1 : XC) : XC := (.z (.q 4 0<|
.nil)
 (.z (.m 9 0<|
.m 10 1<|
.P 11 (.idxStr (.t 9) (.t 10))<|
.b 12 .eql .none (.t 11) y19<|
.m 5 12<|
.nil)
 (.seq (.z (.m 13 5<|
.nil)
 (.cond (.tmp 13) (.ops (.m 14 1<|
.b 15 .add .none (.t 14) (.i 1)<|
.m 1 15<|
.nil))
 .skip))
 (.keep [(0, .str), (1, .i), (5, .bool)] [] [] cc1))))
def C210_1 (cc2 : XC) (cc3 : XC) : XC := (.z (.m 16 1<|
.m 6 16<|
.nil)
 (.z (.c 7 y20<|
.nil)
 (.seq (.block 0 (.loop q204f [] [] cc3))
 (.keep q204f [] [] cc2))))
def C210_2 : XC := (.z (.m 41 1<|
.m 42 6<|
.b 43 .sub .none (.t 41) (.t 42)<|
.m 8 43<|
.nil)
 (.seq (.z (.m 44 8<|
.b 45 .lss .none (.t 44) (.i 1)<|
.m 46 45<|
.gO 46 false (.p 47 [8, 46] y28<|
.p 48 [47, 46] (.bin .gtr .none (.t 47) (.i 19))<|
.nil) 49 46 48<|
.m 50 49<|
.gO 50 false (.p 51 [8, 50] y28<|
.p 52 [51, 50] (.bin .gtr .none (.t 51) (.i 1))<|
.p 53 [52, 50] (.mov (.t 52))<|
.grp 53 true (.p 54 [0, 53] y13<|
.p 55 [6, 53] (.mov (.t 6))<|
.p 56 [54, 55, 53] (.idxStr (.t 54) (.t 55))<|
.p 57 [56, 53] (.bin .eql .none (.t 56) y32)<|
.nil) 58 [53, 57, 50] (.t 53) (.t 57) y43<|
.nil) 59 50 58<|
.m 60 59<|
.gO 60 false (.p 61 [5, 60] y48<|
.p 62 [61, 60] (.mov (.t 61))<|
.grp 62 true (.p 63 [0, 62] y13<|
.p 64 [6, 62] (.mov (.t 6))<|
.p 65 [63, 64, 62] (.idxStr (.t 63) (.t 64))<|
.p 66 [65, 62] (.bin .eql .none (.t 65) y32)<|
.nil) 67 [62, 66, 60] (.t 62) (.t 66) y43<|
.nil) 68 60 67<|
.m 69 68<|
.gO 69 false (.p 70 [0, 69] y13<|
.p 71 [1, 69] y16<|
.op (some 72) (.int .u8) [70, 71, 69] (.call 205 [(.t 70), (.t 71)])<|
.op (some 73) .bool [72, 69] (.call 206 [(.t 72)])<|
.nil) 74 69 73<|
.m 75 74<|
.gO 75 false (.p 76 [7, 75] (.mov (.t 7))<|
.p 77 [76, 75] (.bin .gtr .none (.t 76) (.con (V.int .u64 (Int.ofNat 9223372036854775808))))<|
.nil) 78 75 77<|
.m 79 78<|
.gO 79 false (.p 80 [5, 79] y48<|
.p 81 [80, 79] (.un .not (.t 80))<|
.p 82 [81, 79] (.mov (.t 81))<|
.grp 82 true (.p 83 [7, 82] (.mov (.t 7))<|
.p 84 [83, 82] (.bin .eql .none (.t 83) (.con (V.int .u64 (Int.ofNat 9223372036854775808))))<|
.nil) 85 [82, 84, 79] (.t 82) (.t 84) y43<|
.nil) 86 79 85<|
.nil)
 (.cond (.tmp 86) (.z (.c 4 y21<|
.nil)
 .ret)
 .skip))
 (.z (.m 87 1<|
.m 4 87<|
.nil)
 .ret)))
def C210_3 (cc4 : XC) : XC := (.seq (.z (.m 17 1<|
.m 18 0<|
.P 19 (.len true (.t 18))<|
.b 20 .lss .none (.t 17) (.t 19)<|
.m 21 20<|
.gA 21 true (.p 22 [0, 21] y13<|
.p 23 [1, 21] y16<|
.p 24 [22, 23, 21] (.idxStr (.t 22) (.t 23))<|
.op (some 25) .bool [24, 21] (.call 209 [(.t 24)])<|
.nil) 26 21 25<|
.nil)
 (.cond (.tmp 26) .skip
 y23))
 (.block 1 (.seq (.z (.m 27 1<|
.m 28 6<|
.b 29 .sub .none (.t 27) (.t 28)<|
.b 30 .lss .none (.t 29) (.i 19)<|
.nil)
 (.cond (.tmp 30) (.ops (.m 31 7<|
.b 32 .mul .none (.con (V.int .u64 (Int.ofNat 10))) (.t 31)<|
.m 33 0<|
.m 34 1<|
.P 35 (.idxStr (.t 33) (.t 34))<|
.b 36 .sub .none (.t 35) y32<|
.P 37 (.conv (.toInt .u64) (.t 36))<|
.b 38 .add .none (.t 32) (.t 37)<|
.m 7 38<|
.nil))
 .skip))
 (.keep q204f [] [] cc4))))
def C210_4 : XC := (.ops (.m 39 1<|
.b 40 .add .none (.t 39) (.i 1)<|
.m 1 40<|
.nil))
def A210 : XFn := ⟨88, [.str, .i], [(.tmp 4)], (C210_0 (C210_1 C210_2 (C210_3 C210_4)))⟩
def C213_0 (cc1 : XC) (cc2 : XC) : XC := (.z (.q 4 0<|
.nil)
 (.z (.m 9 0<|
.m 10 1<|
.p 11 [9, 10] (.sliceStr (.t 9) (some (.t 10)) none)<|
.m 5 11<|
.nil)
 (.z (.p 12 [] (.buildSlice 9 13 [y7, y7, y7, y7, y7, y7, y7, y7, y7, y7, y7, y7, y7] [(0, 1, (.con (V.str ⟨3, 4012602⟩))), (1, 1, (.con (V.str ⟨3, 3026478⟩))), (2, 1, (.con (V.str ⟨2, 11822⟩))), (3, 1, (.con (V.str ⟨2, 23387⟩))), (4, 1, (.con (V.str ⟨2, 23901⟩))), (5, 1, y47), (6, 1, (.con (V.str ⟨1, 125⟩))), (7, 1, (.con (V.str ⟨1, 91⟩))), (8, 1, (.con (V.str ⟨1, 93⟩))), (9, 1, (.con (V.str ⟨1, 40⟩))), (10, 1, (.con (V.str ⟨1, 41⟩))), (11, 1, (.con (V.str ⟨1, 44⟩))), (12, 1, (.con (V.str ⟨1, 58⟩)))])<|
.m 6 12<|
.nil)
 (.seq (.z (.q 7 0<|
.nil)
 (.block 0 (.loop [(5, .str), (6, .any), (7, .i)] [] [] cc2)))
 (.keep [] [] [] cc1)))))
def C213_1 : XC := (.z (.q 4 0<|
.nil)
 .ret)
def C213_2 : XC := (.seq (.z (.m 13 7<|
.m 14 6<|
.u 15 14<|
.b 16 .lss .none (.t 13) (.t 15)<|
.nil)
 (.cond (.tmp 16) .skip
 y23))
 (.seq (.block 1 (.z (.m 19 6<|
.m 20 7<|
.s 21 1 19 20<|
.l 22 .str 21<|
.P 23 (.len true (.t 22))<|
.m 8 23<|
.nil)
 (.seq (.draw (.m 24 5<|
.P 25 (.len true (.t 24))<|
.m 26 8<|
.b 27 .geq .none (.t 25) (.t 26)<|
.m 28 27<|
.gA 28 true (.p 29 [5, 28] y48<|
.p 30 [8, 28] y28<|
.p 31 [29, 30, 28] (.sliceStr (.t 29) none (some (.t 30)))<|
.p 32 [6, 28] (.mov (.t 6))<|
.p 33 [7, 28] (.mov (.t 7))<|
.p 34 [32, 33, 28] (.iaddrS 1 (.t 32) (.t 33))<|
.op (some 35) .str [34, 28] (.load none (.t 34))<|
.p 36 [31, 35, 28] (.bin .eql .none (.t 31) (.t 35))<|
.nil) 37 28 36<|
.nil) [0, 1, 0, 7, 15, 31, 31, 127, 31, 31, 799, 1823, 4095, 8191])
 (.cond (.tmp 37) (.z (.m 38 8<|
.m 4 38<|
.nil)
 .ret)
 .skip))))
 (.ops (.m 17 7<|
.b 18 .add .none (.t 17) (.i 1)<|
.m 7 18<|
.nil))))
def A213 : XFn := ⟨39, [.str, .i], [(.tmp 4)], (C213_0 C213_1 C213_2)⟩
def C214_0 (cc1 : XC) : XC := (.z (.q 2 0<|
.nil)
 (.z (.m 6 0<|
.P 7 (.idxStr (.t 6) (.i 0))<|
.b 8 .eql .none (.t 7) y19<|
.m 3 8<|
.nil)
 (.seq (.z (.m 9 3<|
.nil)
 (.cond (.tmp 9) (.ops (.m 10 0<|
.p 11 [10] (.sliceStr (.t 10) (some (.i 1)) none)<|
.m 0 11<|
.nil))
 .skip))
 (.keep [(0, .str), (3, .bool)] [] [] cc1))))
def C214_1 (cc2 : XC) (cc3 : XC) : XC := (.z (.c 4 y20<|
.nil)
 (.seq (.z (.q 5 0<|
.nil)
 (.block 0 (.loop [(0, .str), (3, .bool), (4, (.int .u64)), (5, .i)] [] [] cc3)))
 (.keep [(3, .bool), (4, (.int .u64))] [] [] cc2)))
def C214_2 : XC := (.seq (.z (.m 26 3<|
.nil)
 (.cond (.tmp 26) (.z (.m 27 4<|
.b 28 .sub .none (.t 27) y30<|
.P 29 (.conv (.toInt .i64) (.t 28))<|
.P 30 (.un .neg (.t 29))<|
.b 31 .sub .none (.t 30) (.i 1)<|
.m 2 31<|
.nil)
 .ret)
 .skip))
 (.z (.m 32 4<|
.P 33 (.conv (.toInt .i64) (.t 32))<|
.m 2 33<|
.nil)
 .ret))
def C214_3 : XC := (.seq (.z (.m 12 5<|
.m 13 0<|
.P 14 (.len true (.t 13))<|
.b 15 .lss .none (.t 12) (.t 14)<|
.nil)
 (.cond (.tmp 15) .skip
 y23))
 (.seq (.block 1 (.ops (.m 18 4<|
.b 19 .mul .none (.con (V.int .u64 (Int.ofNat 10))) (.t 18)<|
.m 20 0<|
.m 21 5<|
.P 22 (.idxStr (.t 20) (.t 21))<|
.b 23 .sub .none (.t 22) y32<|
.P 24 (.conv (.toInt .u64) (.t 23))<|
.b 25 .add .none (.t 19) (.t 24)<|
.m 4 25<|
.nil)))
 (.ops (.m 16 5<|
.b 17 .add .none (.t 16) (.i 1)<|
.m 5 17<|
.nil))))
def A214 : XFn := ⟨34, [.str], [(.tmp 2)], (C214_0 (C214_1 C214_2 C214_3))⟩
def C215_0 : XC := (.z (.pal 2 [] 141 [y3, y3, y3, y3, y0, y0]<|
.nil)
 (.seq (.z (.m 4 0<|
.k 5 .bool 59 [(.t 4), (.con (V.str ⟨1, 40⟩))]<|
.P 6 (.un .not (.t 5))<|
.nil)
 (.cond (.tmp 6) (.z (.op (some 7) y4 [] (.build [y3, y3, y3, y3, y0, y0] [])<|
.op none y4 [2, 7] (.store 6 (.t 2) (.t 7))<|
.nil)
 .ret)
 .skip))
 (.z (.m 8 0<|
.k 9 y10 58 [(.t 8), (.con (V.str ⟨4, 1163544915⟩))]<|
.nil)
 (.z (.m 10 0<|
.k 11 y10 58 [(.t 10), (.con (V.str ⟨1, 40⟩))]<|
.nil)
 (.z (.m 12 0<|
.k 13 y4 216 [(.t 12)]<|
.pal 3 [] 141 [y3, y3, y3, y3, y0, y0]<|
.op none y4 [3, 13] (.store 6 (.t 3) (.t 13))<|
.nil)
 (.z (.m 14 0<|
.k 15 y10 58 [(.t 14), (.con (V.str ⟨1, 41⟩))]<|
.nil)
 (.z (.m 16 0<|
.k 17 y10 58 [(.t 16), (.con (V.str ⟨1, 41⟩))]<|
.nil)
 (.z (.O 18 y4 (.load (some 6) (.t 3))<|
.op none y4 [2, 18] (.store 6 (.t 2) (.t 18))<|
.nil)
 .ret))))))))
def A215 : XFn := ⟨19, [.any], [(.cell 2 (some 6))], C215_0⟩
def C216_0 (cc1 : XC) : XC := (.z (.pal 2 [] 141 [y3, y3, y3, y3, y0, y0]<|
.nil)
 (.z (.op (some 4) y4 [] (.build [y3, y3, y3, y3, y0, y0] [(0, 1, y12)])<|
.pal 3 [] 141 [y3, y3, y3, y3, y0, y0]<|
.op none y4 [3, 4] (.store 6 (.t 3) (.t 4))<|
.nil)
 (.seq (.z (.m 5 0<|
.k 6 .bool 59 [(.t 5), (.con (V.str ⟨3, 5130573⟩))]<|
.P 7 (.un .not (.t 6))<|
.nil)
 (.cond (.tmp 7) (.ops (.m 8 0<|
.k 9 .i 121 [(.t 8)]<|
.f 10 1 3<|
.op none .any [10] (.store 1 (.t 10) y12)<|
.f 11 4 3<|
.w 1 11 9<|
.nil))
 .skip))
 (.keep [(0, .any)] [2, 3] q204c cc1))))
def C216_1 (cc2 : XC) : XC := (.seq (.block 0 (.z (.m 13 0<|
.k 14 .bool 59 [(.t 13), (.con (V.str ⟨2, 11822⟩))]<|
.m 12 14<|
.nil)
 (.cond (.tmp 12) (.z (.m 15 0<|
.k 16 .bool 59 [(.t 15), (.con (V.str ⟨3, 5783885⟩))]<|
.P 17 (.un .not (.t 16))<|
.nil)
 (.cond (.tmp 17) (.ops (.m 18 0<|
.k 19 .i 121 [(.t 18)]<|
.f 20 2 3<|
.op none .any [20] (.store 1 (.t 20) y12)<|
.f 21 5 3<|
.w 1 21 19<|
.nil))
 .skip))
 (.z (.f 23 1 3<|
.l 24 .bool 23<|
.m 22 24<|
.nil)
 (.cond (.tmp 22) (.ops (.f 25 4 3<|
.l 26 .i 25<|
.f 27 2 3<|
.op none .any [27] (.store 1 (.t 27) y12)<|
.f 28 5 3<|
.w 1 28 26<|
.nil))
 .skip)))))
 (.keep [(0, .any)] [2, 3] q204c cc2))
def C216_2 (cc3 : XC) : XC := (.seq (.z (.m 29 0<|
.k 30 .bool 59 [(.t 29), (.con (V.str ⟨1, 44⟩))]<|
.nil)
 (.cond (.tmp 30) (.z (.m 31 0<|
.k 32 y10 58 [(.t 31), (.con (V.str ⟨3, 3026478⟩))]<|
.nil)
 (.ops (.f 33 3 3<|
.op none .any [33] (.store 1 (.t 33) y12)<|
.nil)))
 .skip))
 (.keep [] [2, 3] q204c cc3))
def C216_3 : XC := (.z (.O 34 y4 (.load (some 6) (.t 3))<|
.op none y4 [2, 34] (.store 6 (.t 2) (.t 34))<|
.nil)
 .ret)
def A216 : XFn := ⟨35, [.any], [(.cell 2 (some 6))], (C216_0 (C216_1 (C216_2 C216_3)))⟩
def C218_0 (cc1 : XC) (cc2 : XC) : XC := (.seq (.z (.m 7 0<|
.k 8 .bool 59 [(.t 7), (.con (V.str ⟨1, 125⟩))]<|
.nil)
 (.cond (.tmp 8) .ret
 .skip))
 (.z (.q 6 0<|
.nil)
 (.seq (.block 0 (.loop q204h [] [] cc2))
 (.keep [(0, .ptr), (1, .ptr)] [] [] cc1))))
def C218_1 : XC := (.z (.m 68 0<|
.k 69 y10 58 [(.t 68), (.con (V.str ⟨1, 125⟩))]<|
.nil)
 (.z (.m 70 1<|
.n 71 70<|
.f 72 14 71<|
.l 73 .bool 72<|
.P 74 (.un .not (.t 73))<|
.nil)
 (.cond (.tmp 74) (.ops (.m 75 1<|
.m 76 1<|
.n 77 76<|
.f 78 12 77<|
.l 79 .any 78<|
.u 80 79<|
.n 81 75<|
.f 82 13 81<|
.w 1 82 80<|
.nil))
 .skip)))
def C218_2 (cc3 : XC) (cc4 : XC) (cc5 : XC) : XC := (.seq (.z (.m 9 0<|
.n 10 9<|
.f 11 7 10<|
.l 12 .i 11<|
.b 13 .eql .none (.t 12) (.i 0)<|
.nil)
 (.cond (.tmp 13) .skip
 y23))
 (.block 1 (.seq (.block 2 (.z (.m 19 1<|
.n 20 19<|
.f 21 14 20<|
.l 22 .bool 21<|
.P 23 (.un .not (.t 22))<|
.m 24 23<|
.gA 24 true (.p 25 [0, 24] y13<|
.op (some 26) .bool [25, 24] (.call 59 [(.t 25), (.con (V.str ⟨3, 3026478⟩))])<|
.nil) 27 24 26<|
.m 18 27<|
.nil)
 (.cond (.tmp 18) (.ops (.m 28 1<|
.m 29 1<|
.m 30 1<|
.n 31 30<|
.f 32 12 31<|
.l 33 .any 32<|
.u 34 33<|
.n 35 28<|
.f 36 14 35<|
.op none .any [36] (.store 1 (.t 36) y12)<|
.n 37 29<|
.f 38 13 37<|
.w 1 38 34<|
.nil))
 (.z (.m 40 1<|
.n 41 40<|
.f 42 14 41<|
.l 43 .bool 42<|
.m 44 43<|
.gA 44 true (.p 45 [0, 44] y13<|
.op (some 46) .bool [45, 44] (.call 59 [(.t 45), (.con (V.str ⟨2, 23387⟩))])<|
.nil) 47 44 46<|
.m 39 47<|
.nil)
 (.cond (.tmp 39) (.z (.m 48 6<|
.b 49 .add .none (.t 48) (.i 1)<|
.m 6 49<|
.nil)
 (.seq (.block 3 (.loop q204h [] [] cc5))
 (.keep q204h [] [] cc4)))
 (.ops (.m 14 0<|
.m 15 1<|
.m 16 2<|
.k 17 y10 276 [(.t 14), (.t 15), (.t 16), (.i 0)]<|
.nil)))))))
 (.keep q204h [] [] cc3))))
def C218_3 : XC := (.z (.m 65 0<|
.k 66 .bool 59 [(.t 65), (.con (V.str ⟨1, 44⟩))]<|
.P 67 (.un .not (.t 66))<|
.nil)
 (.cond (.tmp 67) y23
 .skip))
def C218_4 : XC := (.ops (.m 63 0<|
.k 64 y10 58 [(.t 63), (.con (V.str ⟨2, 23901⟩))]<|
.nil))
def C218_5 : XC := (.seq (.z (.m 50 0<|
.n 51 50<|
.f 52 7 51<|
.l 53 .i 52<|
.b 54 .eql .none (.t 53) (.i 0)<|
.nil)
 (.cond (.tmp 54) .skip
 (.exit 3)))
 (.block 4 (.z (.m 55 0<|
.m 56 1<|
.m 57 2<|
.m 58 6<|
.k 59 y10 276 [(.t 55), (.t 56), (.t 57), (.t 58)]<|
.nil)
 (.z (.m 60 0<|
.k 61 .bool 59 [(.t 60), (.con (V.str ⟨1, 44⟩))]<|
.P 62 (.un .not (.t 61))<|
.nil)
 (.cond (.tmp 62) (.exit 3)
 .skip)))))
def A218 : XFn := ⟨83, [.ptr, .ptr, .i], [], (C218_0 C218_1 (C218_2 C218_3 C218_4 C218_5))⟩
def C220_0 (cc1 : XC) (cc2 : XC) : XC := (.z (.pal 2 [] 253 [y0, y0]<|
.nil)
 (.seq (.z (.m 3 0<|
.nil)
 (.block 0 (.z (.b 5 .eql .none (.t 3) (.i 1)<|
.m 4 5<|
.nil)
 (.cond (.tmp 4) (.z (.op (some 6) y15 [] (.build [y0, y0] [(1, 1, (.i 1))])<|
.op none y15 [2, 6] (.store 2 (.t 2) (.t 6))<|
.nil)
 .ret)
 (.z (.b 8 .eql .none (.t 3) (.i 2)<|
.m 7 8<|
.nil)
 (.cond (.tmp 7) (.z (.op (some 9) y15 [] (.build [y0, y0] [(1, 1, (.i 2))])<|
.op none y15 [2, 9] (.store 2 (.t 2) (.t 9))<|
.nil)
 .ret)
 (.z (.b 11 .eql .none (.t 3) (.i 5)<|
.m 10 11<|
.nil)
 (.cond (.tmp 10) (.z (.op (some 12) y15 [] (.build [y0, y0] [(1, 1, (.i 4))])<|
.op none y15 [2, 12] (.store 2 (.t 2) (.t 12))<|
.nil)
 .ret)
 (.z (.b 14 .eql .none (.t 3) (.i 4)<|
.m 13 14<|
.nil)
 (.cond (.tmp 13) (.z (.op (some 15) y15 [] (.build [y0, y0] [(1, 1, (.i 5))])<|
.op none y15 [2, 15] (.store 2 (.t 2) (.t 15))<|
.nil)
 .ret)
 (.z (.b 17 .eql .none (.t 3) (.i 3)<|
.m 16 17<|
.nil)
 (.cond (.tmp 16) (.z (.op (some 18) y15 [] (.build [y0, y0] [(1, 1, (.i 10))])<|
.op none y15 [2, 18] (.store 2 (.t 2) (.t 18))<|
.nil)
 .ret)
 (.z (.b 20 .eql .none (.t 3) (.i 6)<|
.m 19 20<|
.nil)
 (.cond (.tmp 19) (.z (.op (some 21) y15 [] (.build [y0, y0] [(1, 1, (.i 12))])<|
.op none y15 [2, 21] (.store 2 (.t 2) (.t 21))<|
.nil)
 .ret)
 (.seq (.z (.b 23 .eql .none (.t 3) (.i 7)<|
.m 22 23<|
.nil)
 (.cond (.tmp 22) .skip
 (.ops (.b 24 .eql .none (.t 3) (.i 10)<|
.m 22 24<|
.nil))))
 (.keep [(3, .i), (22, .bool)] [2] [(2, [.i, .i])] cc2))))))))))))))))
 (.keep [] [2] [(2, [.i, .i])] cc1)))
def C220_1 : XC := (.z (.op (some 29) y15 [] (.build [y0, y0] [])<|
.op none y15 [2, 29] (.store 2 (.t 2) (.t 29))<|
.nil)
 .ret)
def C220_2 : XC := (.cond (.tmp 22) (.z (.op (some 25) y15 [] (.build [y0, y0] [(1, 1, (.i 16))])<|
.op none y15 [2, 25] (.store 2 (.t 2) (.t 25))<|
.nil)
 .ret)
 (.z (.b 27 .eql .none (.t 3) (.i 8)<|
.m 26 27<|
.nil)
 (.cond (.tmp 26) (.z (.op (some 28) y15 [] (.build [y0, y0] [(1, 1, (.i 17))])<|
.op none y15 [2, 28] (.store 2 (.t 2) (.t 28))<|
.nil)
 .ret)
 .skip)))
def A220 : XFn := ⟨30, [.i], [(.cell 2 (some 2))], (C220_0 C220_1 C220_2)⟩
def C221_0 : XC := (.z (.P 2 (.box 141 (.t 0))<|
.q 4 0<|
.nil)
 (.seq (.z (.f 5 0 2<|
.l 6 .bool 5<|
.P 7 (.un .not (.t 6))<|
.nil)
 (.cond (.tmp 7) (.z (.q 4 0<|
.nil)
 .ret)
 .skip))
 (.seq (.z (.f 8 1 2<|
.l 9 .bool 8<|
.m 10 9<|
.gA 10 true (.p 11 [2, 10] (.faddr 2 (.t 2))<|
.op (some 12) .bool [11, 10] (.load none (.t 11))<|
.nil) 13 10 12<|
.m 14 13<|
.gA 14 true (.p 15 [2, 14] (.faddr 4 (.t 2))<|
.op (some 16) .i [15, 14] (.load none (.t 15))<|
.p 17 [2, 14] (.faddr 5 (.t 2))<|
.op (some 18) .i [17, 14] (.load none (.t 17))<|
.p 19 [16, 18, 14] (.bin .gtr .none (.t 16) (.t 18))<|
.nil) 20 14 19<|
.nil)
 (.cond (.tmp 20) (.z (.q 4 11<|
.nil)
 .ret)
 .skip))
 (.seq (.z (.m 21 1<|
.m 22 21<|
.gA 22 true (.p 23 [2, 22] (.faddr 1 (.t 2))<|
.op (some 24) .bool [23, 22] (.load none (.t 23))<|
.p 25 [24, 22] (.un .not (.t 24))<|
.p 26 [25, 22] (.mov (.t 25))<|
.grp 26 false (.p 27 [2, 26] (.faddr 4 (.t 2))<|
.op (some 28) .i [27, 26] (.load none (.t 27))<|
.p 29 [28, 26] (.bin .lss .none (.t 28) (.i 0))<|
.nil) 30 [26, 29, 22] (.t 26) y12 (.t 29)<|
.p 31 [30, 22] (.mov (.t 30))<|
.grp 31 false (.p 32 [2, 31] (.faddr 4 (.t 2))<|
.op (some 33) .i [32, 31] (.load none (.t 32))<|
.p 34 [33, 31] (.bin .gtr .none (.t 33) (.i 70000))<|
.nil) 35 [31, 34, 22] (.t 31) y12 (.t 34)<|
.p 36 [35, 22] (.mov (.t 35))<|
.grp 36 false (.p 37 [2, 36] (.faddr 2 (.t 2))<|
.op (some 38) .bool [37, 36] (.load none (.t 37))<|
.p 39 [38, 36] (.mov (.t 38))<|
.grp 39 true (.p 40 [2, 39] (.faddr 5 (.t 2))<|
.op (some 41) .i [40, 39] (.load none (.t 40))<|
.p 42 [41, 39] (.bin .lss .none (.t 41) (.i 0))<|
.p 43 [42, 39] (.mov (.t 42))<|
.grp 43 false (.p 44 [2, 43] (.faddr 5 (.t 2))<|
.op (some 45) .i [44, 43] (.load none (.t 44))<|
.p 46 [45, 43] (.bin .gtr .none (.t 45) (.i 70000))<|
.nil) 47 [43, 46, 39] (.t 43) y12 (.t 46)<|
.nil) 48 [39, 47, 36] (.t 39) (.t 47) y43<|
.nil) 49 [36, 48, 22] (.t 36) y12 (.t 48)<|
.nil) 50 22 49<|
.nil)
 (.cond (.tmp 50) (.z (.q 4 11<|
.nil)
 .ret)
 .skip))
 (.z (.q 4 0<|
.nil)
 .ret)))))
def A221 : XFn := ⟨51, [y4, .bool], [(.tmp 4)], C221_0⟩
def G223_0 : List AOper := [⟨(some 130), .mov (.tmp 0), none⟩, ⟨(some 131), .faddr 1 (.tmp 13), none⟩, ⟨(some 132), .load none (.tmp 131), none⟩, ⟨(some 133), .mov (.tmp 12), none⟩, ⟨(some 134), .mov (.tmp 0), none⟩, ⟨(some 135), .faddr 1 (.tmp 13), none⟩, ⟨(some 136), .load none (.tmp 135), none⟩, ⟨(some 137), .call 128 [(.tmp 134), (.tmp 136)], none⟩, ⟨(some 138), .call 129 [(.tmp 130), (.tmp 132), (.tmp 133), (.tmp 137)], none⟩]
def H223_0 : List DP := [⟨0, [0]⟩, ⟨0, [13]⟩, ⟨2, [131]⟩, ⟨0, [12]⟩, ⟨0, [0]⟩, ⟨0, [13]⟩, ⟨32, [135]⟩, ⟨112, [134, 136]⟩, ⟨255, [130, 132, 133, 137]⟩]
def C223_0 (cc1 : XC) (cc2 : XC) : XC := (.z (.P 6 (.box 183 (.t 2))<|
.nil)
 (.z (.m 15 0<|
.n 16 15<|
.f 17 0 16<|
.f 18 1 17<|
.l 19 .i 18<|
.b 20 .neq .none (.t 19) (.i 2)<|
.m 8 20<|
.nil)
 (.seq (.z (.q 9 0<|
.nil)
 (.block 0 (.loop [(0, .ptr), (1, .i), (3, .i), (6, .ptr), (8, .bool), (9, .i)] [] [] cc2)))
 (.keep [(0, .ptr), (1, .i), (3, .i), (6, .ptr), (8, .bool)] [] [] cc1))))
def C223_1 (cc3 : XC) : XC := (.seq (.z (.f 47 0 6<|
.l 48 .i 47<|
.b 49 .eql .none (.t 48) (.i 9)<|
.m 50 49<|
.gA 50 true (.p 51 [6, 50] (.faddr 12 (.t 6))<|
.p 52 [51, 50] (.load none (.t 51))<|
.p 53 [52, 50] (.len false (.t 52))<|
.p 54 [53, 50] (.bin .eql .none (.t 53) (.i 0))<|
.nil) 55 50 54<|
.m 56 55<|
.gA 56 true (.p 57 [6, 56] (.faddr 14 (.t 6))<|
.op (some 58) .bool [57, 56] (.load none (.t 57))<|
.p 59 [58, 56] (.un .not (.t 58))<|
.nil) 60 56 59<|
.nil)
 (.cond (.tmp 60) (.ops (.m 61 0<|
.k 62 y10 219 [(.t 61), (.i 11)]<|
.nil))
 .skip))
 (.keep [(0, .ptr), (1, .i), (3, .i), (6, .ptr), (8, .bool)] [] [] cc3))
def C223_2 : XC := (.seq (.z (.m 21 9<|
.f 22 12 6<|
.l 23 .any 22<|
.u 24 23<|
.b 25 .lss .none (.t 21) (.t 24)<|
.nil)
 (.cond (.tmp 25) .skip
 y23))
 (.seq (.block 1 (.z (.f 28 12 6<|
.l 29 .any 28<|
.m 30 9<|
.s 31 11 29 30<|
.O 32 y9 (.load (some 11) (.t 31))<|
.pal 10 [] 200 [y7, y0, y3, y3, y0, y0, V.nils, V.nils, y0, V.nils, y0]<|
.op none y9 [10, 32] (.store 11 (.t 10) (.t 32))<|
.nil)
 (.draw (.m 33 8<|
.m 34 33<|
.gO 34 false (.p 35 [0, 34] y13<|
.p 36 [35, 34] (.nilck (.t 35))<|
.p 37 [36, 34] (.faddr 0 (.t 36))<|
.p 38 [37, 34] (.faddr 4 (.t 37))<|
.p 39 [38, 34] (.load none (.t 38))<|
.p 40 [10, 34] (.faddr 1 (.t 10))<|
.op (some 41) .i [40, 34] (.load none (.t 40))<|
.p 42 [39, 41, 34] (.iaddrS 16 (.t 39) (.t 41))<|
.p 43 [42, 34] (.faddr 2 (.t 42))<|
.p 44 [43, 34] (.faddr 0 (.t 43))<|
.op (some 45) .bool [44, 34] (.load none (.t 44))<|
.nil) 46 34 45<|
.m 8 46<|
.nil) [0, 1, 3, 7, 15, 31, 63, 3, 131, 511, 1023, 2047, 4095, 8191, 16383])))
 (.ops (.m 26 9<|
.b 27 .add .none (.t 26) (.i 1)<|
.m 9 27<|
.nil))))
def C223_3 (cc4 : XC) (cc5 : XC) : XC := (.z (.c 11 V.nils<|
.nil)
 (.seq (.z (.q 12 0<|
.nil)
 (.block 2 (.loop [(0, .ptr), (1, .i), (3, .i), (6, .ptr), (8, .bool), (11, .any), (12, .i)] [] [] cc5)))
 (.keep [(0, .ptr), (1, .i), (11, .any)] [] [] cc4)))
def C223_4 : XC := (.z (.m 143 0<|
.n 144 143<|
.f 145 6 144<|
.l 146 .i 145<|
.b 147 .eql .none (.t 146) (.i 0)<|
.nil)
 (.cond (.tmp 147) (.z (.m 148 0<|
.n 149 148<|
.f 150 5 149<|
.l 151 .any 150<|
.m 152 1<|
.m 153 11<|
.s 154 13 151 152<|
.f 155 9 154<|
.w 1 155 153<|
.nil)
 (.z (.m 156 0<|
.m 157 0<|
.n 158 157<|
.f 159 5 158<|
.l 160 .any 159<|
.m 161 1<|
.s 162 13 160 161<|
.O 163 y1 (.load (some 13) (.t 162))<|
.k 164 .bool 279 [(.t 156), (.t 163)]<|
.P 165 (.un .not (.t 164))<|
.nil)
 (.cond (.tmp 165) (.ops (.m 166 0<|
.k 167 y10 219 [(.t 166), (.i 12)]<|
.nil))
 .skip)))
 .skip))
def C223_5 (cc6 : XC) (cc7 : XC) (cc8 : XC) : XC := (.seq (.z (.m 63 12<|
.f 64 12 6<|
.l 65 .any 64<|
.u 66 65<|
.b 67 .lss .none (.t 63) (.t 66)<|
.m 68 67<|
.gA 68 true (.p 69 [0, 68] y13<|
.p 70 [69, 68] (.nilck (.t 69))<|
.p 71 [70, 68] (.faddr 6 (.t 70))<|
.op (some 72) .i [71, 68] (.load none (.t 71))<|
.p 73 [72, 68] (.bin .eql .none (.t 72) (.i 0))<|
.nil) 74 68 73<|
.nil)
 (.cond (.tmp 74) .skip
 (.exit 2)))
 (.seq (.block 3 (.z (.f 77 12 6<|
.l 78 .any 77<|
.m 79 12<|
.s 80 11 78 79<|
.O 81 y9 (.load (some 11) (.t 80))<|
.p 13 [] (.alloc 200 [y7, y0, y3, y3, y0, y0, V.nils, V.nils, y0, V.nils, y0])<|
.op none y9 [13, 81] (.store 11 (.t 13) (.t 81))<|
.nil)
 (.seq (.z (.q 14 0<|
.nil)
 (.block 4 (.loop q204a [] [] cc8)))
 (.keep q204d [] [] cc7))))
 (.keep [(0, .ptr), (1, .i), (3, .i), (6, .ptr), (8, .bool), (11, .any), (12, .i)] [] [] cc6)))
def C223_6 : XC := (.ops (.m 75 12<|
.b 76 .add .none (.t 75) (.i 1)<|
.m 12 76<|
.nil))
def C223_7 (cc10 : XC) : XC := (.z (.m 98 0<|
.f 99 1 13<|
.l 100 .i 99<|
.m 101 3<|
.b 102 .add .none (.t 101) (.i 1)<|
.k 103 .i 64 [(.t 98), (.t 100), (.t 102)]<|
.f 104 1 13<|
.w 1 104 103<|
.nil)
 (.seq (.z (.m 105 0<|
.n 106 105<|
.f 107 6 106<|
.l 108 .i 107<|
.b 109 .eql .none (.t 108) (.i 0)<|
.m 110 109<|
.gA 110 true (.p 111 [13, 110] (.faddr 3 (.t 13))<|
.op (some 112) .bool [111, 110] (.load none (.t 111))<|
.nil) 113 110 112<|
.nil)
 (.cond (.tmp 113) (.ops (.m 114 0<|
.f 115 1 13<|
.l 116 .i 115<|
.f 117 4 13<|
.O 118 y2 (.load (some 6) (.t 117))<|
.k 119 y2 278 [(.t 114), (.t 116), (.t 118)]<|
.f 120 4 13<|
.op none y2 [120, 119] (.store 6 (.t 120) (.t 119))<|
.nil))
 .skip))
 (.keep q204d [] [] cc10)))
def C223_8 (cc9 : XC) : XC := (.seq (.z (.m 82 14<|
.m 83 12<|
.b 84 .lss .none (.t 82) (.t 83)<|
.nil)
 (.cond (.tmp 84) .skip
 (.exit 4)))
 (.seq (.block 5 (.seq (.draw (.f 87 12 6<|
.l 88 .any 87<|
.m 89 14<|
.s 90 11 88 89<|
.f 91 0 90<|
.l 92 .str 91<|
.f 93 0 13<|
.l 94 .str 93<|
.b 95 .eql .none (.t 92) (.t 94)<|
.nil) [0, 1, 0, 7, 15, 31, 0, 64, 255])
 (.cond (.tmp 95) (.ops (.m 96 0<|
.k 97 y10 219 [(.t 96), (.i 8)]<|
.nil))
 .skip)))
 (.keep q204a [] [] cc9)))
def C223_9 : XC := (.ops (.m 85 14<|
.b 86 .add .none (.t 85) (.i 1)<|
.m 14 86<|
.nil))
def C223_10 (cc11 : XC) : XC := (.seq (.z (.m 121 0<|
.n 122 121<|
.f 123 6 122<|
.l 124 .i 123<|
.b 125 .eql .none (.t 124) (.i 0)<|
.m 126 125<|
.gA 126 true (.p 127 [8, 126] y28<|
.p 128 [127, 126] (.un .not (.t 127))<|
.nil) 129 126 128<|
.nil)
 (.cond (.tmp 129) (.keep q204d [] [] (.gdraw G223_0 H223_0 q204d))
 .skip))
 (.keep q204d [] [] cc11))
def C223_11 : XC := (.ops (.m 139 11<|
.O 140 y9 (.load (some 11) (.t 13))<|
.p 141 [140] (.buildSlice 200 1 [y7, y0, y3, y3, y0, y0, V.nils, V.nils, y0, V.nils, y0] [(0, 11, (.t 140))])<|
.O 142 .one (.append 200 11 136 (.t 139) (.t 141))<|
.m 11 142<|
.nil))
def A223 : XFn := ⟨168, [.ptr, .i, y5, .i], [], (C223_0 (C223_1 (C223_3 C223_4 (C223_5 C223_6 (C223_7 (C223_10 C223_11)) (C223_8 C223_9)))) C223_2)⟩
def C230_0 (cc1 : XC) (cc2 : XC) : XC := (.z (.P 5 (.box 38 (.t 2))<|
.c 6 y3<|
.nil)
 (.z (.m 14 0<|
.n 15 14<|
.f 16 0 15<|
.f 17 0 16<|
.f 18 3 17<|
.l 19 .any 18<|
.m 20 1<|
.s 21 13 19 20<|
.O 22 y1 (.load (some 13) (.t 21))<|
.pal 7 [] 145 [y0, V.nils, y3, y3, y3, y3, y0, y0, V.nils, V.nils, y0, y3, y0]<|
.op none y1 [7, 22] (.store 13 (.t 7) (.t 22))<|
.nil)
 (.seq (.z (.f 23 5 5<|
.l 24 .any 23<|
.u 25 24<|
.b 26 .eql .none (.t 25) (.i 0)<|
.nil)
 (.cond (.tmp 26) (.z (.f 27 4 5<|
.l 28 .i 27<|
.b 29 .eql .none (.t 28) (.i 0)<|
.m 6 29<|
.nil)
 .ret)
 .skip))
 (.seq (.z (.f 30 11 7<|
.l 31 .bool 30<|
.P 32 (.un .not (.t 31))<|
.m 33 32<|
.gO 33 false (.p 34 [5, 33] (.faddr 4 (.t 5))<|
.op (some 35) .i [34, 33] (.load none (.t 34))<|
.p 36 [35, 33] (.bin .neq .none (.t 35) (.i 1))<|
.p 37 [36, 33] (.mov (.t 36))<|
.grp 37 true (.p 38 [5, 37] (.faddr 4 (.t 5))<|
.op (some 39) .i [38, 37] (.load none (.t 38))<|
.p 40 [39, 37] (.bin .neq .none (.t 39) (.i 2))<|
.nil) 41 [37, 40, 33] (.t 37) (.t 40) y43<|
.nil) 42 33 41<|
.nil)
 (.cond (.tmp 42) (.z (.c 6 y3<|
.nil)
 .ret)
 .skip))
 (.z (.m 43 0<|
.n 44 43<|
.f 45 0 44<|
.f 46 0 45<|
.O 47 y6 (.load (some 4) (.t 46))<|
.m 48 1<|
.k 49 .one 155 [(.t 47), (.t 48)]<|
.u 50 49<|
.m 8 50<|
.nil)
 (.z (.pal 9 [] 253 [y0, y0]<|
.nil)
 (.seq (.z (.f 51 5 5<|
.l 52 .any 51<|
.u 53 52<|
.q 54 0<|
.nil)
 (.block 0 (.loop [(0, .ptr), (1, .i), (5, .ptr), (8, .i), (52, .any), (53, .i), (54, .i)] [7, 9] q204b cc2)))
 (.keep [] [] [] cc1))))))))
def C230_1 : XC := (.z (.c 6 y26<|
.nil)
 .ret)
def C230_2 (cc3 : XC) : XC := (.z (.b 55 .lss .none (.t 54) (.t 53)<|
.nil)
 (.seq (.cond (.tmp 55) .skip
 y23)
 (.seq (.block 1 (.z (.m 56 54<|
.s 57 2 52 54<|
.O 58 (.agg [.i, .any]) (.load (some 2) (.t 57))<|
.pal 11 [] 70 [y0, V.nils]<|
.m 10 56<|
.op none (.agg [.i, .any]) [11, 58] (.store 2 (.t 11) (.t 58))<|
.nil)
 (.seq (.z (.f 59 4 5<|
.l 60 .i 59<|
.b 61 .eql .none (.t 60) (.i 2)<|
.nil)
 (.cond (.tmp 61) (.seq (.z (.f 62 0 11<|
.l 63 .i 62<|
.m 64 8<|
.b 65 .lss .none (.t 63) (.t 64)<|
.m 66 65<|
.gO 66 false (.p 67 [11, 66] (.faddr 0 (.t 11))<|
.op (some 68) .i [67, 66] (.load none (.t 67))<|
.p 69 [68, 66] (.bin .geq .none (.t 68) (.i 1000))<|
.nil) 70 66 69<|
.m 71 70<|
.gO 71 false (.p 72 [11, 71] (.faddr 1 (.t 11))<|
.p 73 [72, 71] (.load none (.t 72))<|
.op (some 74) .bool [73, 71] (.call 226 [(.t 73)])<|
.p 75 [74, 71] (.un .not (.t 74))<|
.nil) 76 71 75<|
.nil)
 (.cond (.tmp 76) (.z (.c 6 y3<|
.nil)
 .ret)
 .skip))
 (.z (.f 77 0 11<|
.l 78 .i 77<|
.b 79 .add .none (.t 78) (.i 1)<|
.m 8 79<|
.nil)
 (.exit 1)))
 .skip))
 (.z (.m 81 0<|
.m 82 1<|
.f 83 1 11<|
.l 84 .any 83<|
.k 85 (.tup [y15, .bool]) 225 [(.t 81), (.t 82), (.t 84)]<|
.m 80 85<|
.P 86 (.extract 0 (.t 80))<|
.P 87 (.extract 1 (.t 80))<|
.pal 12 [] 253 [y0, y0]<|
.op none y15 [12, 86] (.store 2 (.t 12) (.t 86))<|
.m 13 87<|
.nil)
 (.seq (.z (.m 88 13<|
.P 89 (.un .not (.t 88))<|
.m 90 89<|
.gO 90 false (.p 91 [11, 90] (.faddr 0 (.t 11))<|
.op (some 92) .i [91, 90] (.load none (.t 91))<|
.p 93 [92, 90] (.bin .neq .none (.t 92) (.i 0))<|
.nil) 94 90 93<|
.m 95 94<|
.gO 95 false (.p 96 [7, 95] (.faddr 0 (.t 7))<|
.op (some 97) .i [96, 95] (.load none (.t 96))<|
.p 98 [97, 95] (.bin .eql .none (.t 97) (.i 8))<|
.p 99 [98, 95] (.mov (.t 98))<|
.grp 99 true (.p 100 [10, 99] (.mov (.t 10))<|
.p 101 [100, 99] (.bin .gtr .none (.t 100) (.i 0))<|
.nil) 102 [99, 101, 95] (.t 99) (.t 101) y43<|
.p 103 [102, 95] (.mov (.t 102))<|
.grp 103 true (.op (some 104) y15 [9, 103] (.load (some 2) (.t 9))<|
.op (some 105) y15 [12, 103] (.load (some 2) (.t 12))<|
.op (some 106) .bool [104, 105, 103] (.call 247 [(.t 104), (.t 105)])<|
.p 107 [106, 103] (.un .not (.t 106))<|
.nil) 108 [103, 107, 95] (.t 103) (.t 107) y43<|
.nil) 109 95 108<|
.nil)
 (.cond (.tmp 109) (.z (.c 6 y3<|
.nil)
 .ret)
 .skip))
 (.ops (.O 110 y15 (.load (some 2) (.t 12))<|
.op none y15 [9, 110] (.store 2 (.t 9) (.t 110))<|
.nil)))))))
 (.keep [(0, .ptr), (1, .i), (5, .ptr), (8, .i), (52, .any), (53, .i), (54, .i)] [7, 9] q204b cc3))))
def C230_3 : XC := (.ops (.b 111 .add .none (.t 54) (.i 1)<|
.m 54 111<|
.nil))
def A230 : XFn := ⟨112, [.ptr, .i, y2], [(.tmp 6)], (C230_0 C230_1 (C230_2 C230_3))⟩
def C231_0 : XC := (.z (.P 2 (.box 145 (.t 0))<|
.c 4 y3<|
.nil)
 (.z (.f 5 9 2<|
.l 6 .any 5<|
.m 7 1<|
.s 8 11 6 7<|
.f 9 2 8<|
.l 10 .bool 9<|
.m 11 10<|
.gO 11 false (.p 12 [2, 11] (.faddr 9 (.t 2))<|
.p 13 [12, 11] (.load none (.t 12))<|
.p 14 [1, 11] y16<|
.p 15 [13, 14, 11] (.iaddrS 11 (.t 13) (.t 14))<|
.p 16 [15, 11] (.faddr 3 (.t 15))<|
.op (some 17) .bool [16, 11] (.load none (.t 16))<|
.nil) 18 11 17<|
.m 19 18<|
.gO 19 false (.p 20 [1, 19] y16<|
.p 21 [2, 19] (.faddr 10 (.t 2))<|
.op (some 22) .i [21, 19] (.load none (.t 21))<|
.p 23 [20, 22, 19] (.bin .geq .none (.t 20) (.t 22))<|
.nil) 24 19 23<|
.m 4 24<|
.nil)
 .ret))
def A231 : XFn := ⟨25, [y1, .i], [(.tmp 4)], C231_0⟩
def C233_0 (cc1 : XC) (cc2 : XC) : XC := (.z (.P 5 (.box 38 (.t 2))<|
.c 6 y3<|
.nil)
 (.z (.m 15 0<|
.n 16 15<|
.f 17 0 16<|
.f 18 0 17<|
.f 19 3 18<|
.l 20 .any 19<|
.m 21 1<|
.s 22 13 20 21<|
.O 23 y1 (.load (some 13) (.t 22))<|
.pal 7 [] 145 [y0, V.nils, y3, y3, y3, y3, y0, y0, V.nils, V.nils, y0, y3, y0]<|
.op none y1 [7, 23] (.store 13 (.t 7) (.t 23))<|
.nil)
 (.seq (.z (.m 24 0<|
.n 25 24<|
.f 26 0 25<|
.f 27 0 26<|
.O 28 y6 (.load (some 4) (.t 27))<|
.m 29 1<|
.k 30 .one 155 [(.t 28), (.t 29)]<|
.u 31 30<|
.q 32 0<|
.nil)
 (.block 0 (.loop [(5, .ptr), (30, .any), (31, .i), (32, .i)] [7] q204e cc2)))
 (.keep [] [] [] cc1))))
def C233_1 : XC := (.z (.c 6 y26<|
.nil)
 .ret)
def C233_2 (cc3 : XC) (cc4 : XC) (cc5 : XC) : XC := (.z (.b 33 .lss .none (.t 32) (.t 31)<|
.nil)
 (.seq (.cond (.tmp 33) .skip
 y23)
 (.seq (.block 1 (.z (.s 34 1 30 32<|
.l 35 .any 34<|
.m 9 35<|
.nil)
 (.seq (.seq (.draw (.f 36 9 7<|
.l 37 .any 36<|
.m 38 9<|
.P 39 (.iaddrS 1 (.t 38) (.i 0))<|
.l 40 .i 39<|
.s 41 11 37 40<|
.f 42 10 41<|
.l 43 .i 42<|
.b 44 .eql .none (.t 43) (.i 0)<|
.nil) [0, 1, 0, 4, 12, 31, 63, 127, 255])
 (.cond (.tmp 44) (.exit 1)
 .skip))
 (.z (.c 10 y3<|
.c 11 y3<|
.nil)
 (.seq (.z (.m 45 9<|
.u 46 45<|
.q 47 0<|
.nil)
 (.block 2 (.loop [(5, .ptr), (10, .bool), (11, .bool), (30, .any), (31, .i), (32, .i), (45, .any), (46, .i), (47, .i)] [7] q204e cc5)))
 (.keep [(5, .ptr), (10, .bool), (11, .bool), (30, .any), (31, .i), (32, .i)] [7] q204e cc4))))))
 (.keep [(5, .ptr), (30, .any), (31, .i), (32, .i)] [7] q204e cc3))))
def C233_3 : XC := (.ops (.b 90 .add .none (.t 32) (.i 1)<|
.m 32 90<|
.nil))
def C233_4 : XC := (.z (.m 86 10<|
.m 87 86<|
.gA 87 true (.p 88 [11, 87] (.mov (.t 11))<|
.nil) 89 87 88<|
.nil)
 (.cond (.tmp 89) (.z (.c 6 y3<|
.nil)
 .ret)
 .skip))
def C233_5 : XC := (.z (.b 48 .lss .none (.t 47) (.t 46)<|
.nil)
 (.seq (.cond (.tmp 48) .skip
 (.exit 2))
 (.seq (.block 3 (.z (.s 49 1 45 47<|
.l 50 .i 49<|
.m 13 50<|
.nil)
 (.z (.f 51 3 5<|
.l 52 .any 51<|
.m 53 13<|
.s 54 6 52 53<|
.O 55 y2 (.load (some 6) (.t 54))<|
.k 56 .bool 158 [(.t 55)]<|
.P 57 (.un .not (.t 56))<|
.m 14 57<|
.nil)
 (.z (.m 58 10<|
.m 59 58<|
.gO 59 false (.p 60 [14, 59] (.mov (.t 14))<|
.nil) 61 59 60<|
.m 10 61<|
.nil)
 (.ops (.m 62 11<|
.m 63 62<|
.gO 63 false (.p 64 [14, 63] (.mov (.t 14))<|
.p 65 [64, 63] (.un .not (.t 64))<|
.p 66 [65, 63] (.mov (.t 65))<|
.grp 66 true (.p 67 [7, 66] (.faddr 9 (.t 7))<|
.p 68 [67, 66] (.load none (.t 67))<|
.p 69 [13, 66] (.mov (.t 13))<|
.p 70 [68, 69, 66] (.iaddrS 11 (.t 68) (.t 69))<|
.p 71 [70, 66] (.faddr 2 (.t 70))<|
.op (some 72) .bool [71, 66] (.load none (.t 71))<|
.p 73 [72, 66] (.un .not (.t 72))<|
.nil) 74 [66, 73, 63] (.t 66) (.t 73) y43<|
.p 75 [74, 63] (.mov (.t 74))<|
.grp 75 true (.p 76 [7, 75] (.faddr 9 (.t 7))<|
.p 77 [76, 75] (.load none (.t 76))<|
.p 78 [13, 75] (.mov (.t 13))<|
.p 79 [77, 78, 75] (.iaddrS 11 (.t 77) (.t 78))<|
.p 80 [79, 75] (.faddr 3 (.t 79))<|
.op (some 81) .bool [80, 75] (.load none (.t 80))<|
.p 82 [81, 75] (.un .not (.t 81))<|
.nil) 83 [75, 82, 63] (.t 75) (.t 82) y43<|
.nil) 84 63 83<|
.m 11 84<|
.nil))))))
 (.ops (.b 85 .add .none (.t 47) (.i 1)<|
.m 47 85<|
.nil)))))
def A233 : XFn := ⟨91, [.ptr, .i, y2], [(.tmp 6)], (C233_0 C233_1 (C233_2 C233_3 C233_4 C233_5))⟩
def q234a : List (Nat × XTy) := [(0, .any), (1, (.int .u32)), (6, .i)]
def Fin234 (E : List (Nat × Blk)) : St → Ans := fun s => resK E s [] fun l => some (oneV l, s.σ)
def C234_0 (cc1 : XC) : XC := (.z (.m 7 2<|
.k 8 .i 260 [(.t 7)]<|
.b 9 .sub .none (.t 8) (.i 1)<|
.m 6 9<|
.nil)
 (.block 0 (.loop q234a [] [] cc1)))
def T234_0 (E : List (Nat × Blk)) (D : Den) (W : DrawFn) (K1 : V → Int → Int → H → Ans) (a : V) (b c : Int) (σ : H) : Ans :=
 callK (D 260 [(V.int .i64 c)] σ) fun u1 s2 =>
 rtInt .i64 u1 fun x3 =>
 K1 a b (subF .i64 x3 (Int.ofNat 1)) s2
def C234_1 : XC := (.seq (.z (.m 10 6<|
.b 11 .geq .none (.t 10) (.i 0)<|
.nil)
 (.cond (.tmp 11) .skip
 y23))
 (.seq (.block 1 (.ops (.m 14 0<|
.m 15 1<|
.m 16 6<|
.b 17 .shr .none (.t 15) (.t 16)<|
.b 18 .and .none (.t 17) (.con (V.int .u32 (Int.ofNat 1)))<|
.P 19 (.conv (.toInt .i64) (.t 18))<|
.k 20 y10 289 [(.t 14), (.t 19)]<|
.nil)))
 (.ops (.m 12 6<|
.b 13 .sub .none (.t 12) (.i 1)<|
.m 6 13<|
.nil))))
def T234_1 (E : List (Nat × Blk)) (D : Den) (W : DrawFn) (R1 : V → Int → Int → H → Ans) (a : V) (b c : Int) (σ : H) : Ans :=
 condK (leF (Int.ofNat 0) c) (
 nnK c fun n1 =>
 callK (D 289 [a, (V.int .i64 (wrapF .i64 (andF .u32 (shrF .u32 b n1) (Int.ofNat 1))))] σ) fun u2 s3 =>
 rtTup u2 fun l4 =>
 rtNil l4 (
 R1 a b (subF .i64 c (Int.ofNat 1)) s3)) (
 some ((V.tup []), σ))
def S234_0 (a : V) (b c : Int) (σ : H) : St := ⟨[(0, a), (1, (V.int .u32 b)), (2, (V.int .i64 c))], [], [], σ⟩
def S234_1 (a : V) (b c : Int) (σ : H) : St := ⟨[(0, a), (1, (V.int .u32 b)), (6, (V.int .i64 c))], [], [], σ⟩
theorem P234_0 (cc1 : XC) (a : V) (b c : Int) (σ : H) :
 denC E D W N (C234_0 cc1) (S234_0 a b c σ) (Fin234 E) nX (Fin234 E) =
 T234_0 E D W (fun a b d σ => iterK (fun rec s' => denC E D W N cc1 s' (kX q234a [] [] rec) (blkK 0 (Fin234 E) nX) (Fin234 E)) N (S234_1 a b d σ)) a b c σ := by kernel_rfl
theorem P234_1 (li1 : St → Ans) (a : V) (b c : Int) (σ : H) :
 denC E D W N (C234_1 ) (S234_1 a b c σ) (kX q234a [] [] li1) (blkK 0 (Fin234 E) nX) (Fin234 E) =
 T234_1 E D W (fun a b c σ => li1 (S234_1 a b c σ)) a b c σ := by kernel_rfl
def L234_1 (E : List (Nat × Blk)) (D : Den) (W : DrawFn) (N : Nat) (n : Nat) : V → Int → Int → H → Ans :=
 Nat.rec (fun _ _ _ _ => none) (fun _ ih => T234_1 E D W ih) n
theorem LE234_1 (n : Nat) : ∀ (a : V) (b c : Int) (σ : H),
 iterK (fun rec s' => denC E D W N C234_1 s' (kX q234a [] [] rec) (blkK 0 (Fin234 E) nX) (Fin234 E)) n (S234_1 a b c σ) = L234_1 E D W N n a b c σ := by
 induction n with
 | zero => intro a b c σ; rfl
 | succ n ihn =>
  intro a b c σ
  rw [iterK_succ]
  refine (P234_1 E D W N  (iterK (fun rec s' => denC E D W N C234_1 s' (kX q234a [] [] rec) (blkK 0 (Fin234 E) nX) (Fin234 E)) n) a b c σ).trans ?_
  simp only [ihn]
  kernel_rfl
def J234_0 := T234_0 E D W (L234_1 E D W N N)
theorem JE234_0 (a : V) (b c : Int) (σ : H) :
 denC E D W N (C234_0 C234_1) (S234_0 a b c σ) (Fin234 E) nX (Fin234 E) = J234_0 E D W N a b c σ := by
 refine (P234_0 E D W N C234_1  a b c σ).trans ?_
 simp only [LE234_1]
 kernel_rfl
def F234 (args : List V) (σ : H) : Ans :=
 rtCons args fun x1 l2 =>
 xcI .u32 l2 fun x5 l4 =>
 xcI .i64 l4 fun x8 l7 =>
 rtNil l7 (
 J234_0 E D W N x1 x5 x8 σ)
def A234 : XFn := ⟨21, [.any, (.int .u32), .i], [], (C234_0 C234_1)⟩
theorem FE234 (args : List V) (σ : H) : runX E D W N A234 args σ = F234 E D W N args σ := by
 unfold F234
 simp only [← JE234_0]
 kernel_rfl
def C235_0 : XC := (.z (.P 1 (.box 266 (.t 0))<|
.c 2 y3<|
.nil)
 (.z (.f 3 0 1<|
.f 4 0 3<|
.l 5 .bool 4<|
.m 6 5<|
.gA 6 true (.p 7 [1, 6] (.faddr 0 (.t 1))<|
.p 8 [7, 6] (.faddr 1 (.t 7))<|
.op (some 9) .bool [8, 6] (.load none (.t 8))<|
.nil) 10 6 9<|
.m 11 10<|
.gA 11 true (.p 12 [1, 11] (.faddr 0 (.t 1))<|
.p 13 [12, 11] (.faddr 2 (.t 12))<|
.op (some 14) .bool [13, 11] (.load none (.t 13))<|
.nil) 15 11 14<|
.m 2 15<|
.nil)
 .ret))
def A235 : XFn := ⟨16, [y4], [(.tmp 2)], C235_0⟩
def C236_0 : XC := (.z (.P 1 (.box 266 (.t 0))<|
.c 2 y3<|
.nil)
 (.z (.O 3 y4 (.load (some 6) (.t 1))<|
.k 4 .bool 235 [(.t 3)]<|
.m 5 4<|
.gA 5 true (.p 6 [1, 5] (.faddr 0 (.t 1))<|
.p 7 [6, 5] (.faddr 4 (.t 6))<|
.op (some 8) .i [7, 5] (.load none (.t 7))<|
.p 9 [1, 5] (.faddr 0 (.t 1))<|
.p 10 [9, 5] (.faddr 5 (.t 9))<|
.op (some 11) .i [10, 5] (.load none (.t 10))<|
.p 12 [8, 11, 5] (.bin .gtr .none (.t 8) (.t 11))<|
.nil) 13 5 12<|
.m 2 13<|
.nil)
 .ret))
def A236 : XFn := ⟨14, [y4], [(.tmp 2)], C236_0⟩
def C237_0 : XC := (.z (.q 2 0<|
.nil)
 (.z (.m 3 0<|
.k 4 .i 290 [(.t 3)]<|
.m 2 4<|
.nil)
 .ret))
def A237 : XFn := ⟨5, [(.int .u64)], [(.tmp 2)], C237_0⟩
def C239_0 : XC := (.z (.P 2 (.box 30 (.t 0))<|
.pal 4 [] 145 [y0, V.nils, y3, y3, y3, y3, y0, y0, V.nils, V.nils, y0, y3, y0]<|
.nil)
 (.seq (.z (.m 5 1<|
.b 6 .lss .none (.t 5) (.i 0)<|
.m 7 6<|
.gO 7 false (.p 8 [1, 7] y16<|
.p 9 [2, 7] (.faddr 3 (.t 2))<|
.p 10 [9, 7] (.load none (.t 9))<|
.p 11 [10, 7] (.len false (.t 10))<|
.p 12 [8, 11, 7] (.bin .geq .none (.t 8) (.t 11))<|
.nil) 13 7 12<|
.nil)
 (.cond (.tmp 13) (.z (.op (some 14) y1 [] (.build [y0, V.nils, y3, y3, y3, y3, y0, y0, V.nils, V.nils, y0, y3, y0] [])<|
.op none y1 [4, 14] (.store 13 (.t 4) (.t 14))<|
.nil)
 .ret)
 .skip))
 (.z (.f 15 3 2<|
.l 16 .any 15<|
.m 17 1<|
.s 18 13 16 17<|
.O 19 y1 (.load (some 13) (.t 18))<|
.op none y1 [4, 19] (.store 13 (.t 4) (.t 19))<|
.nil)
 .ret)))
def A239 : XFn := ⟨20, [y6, .i], [(.cell 4 (some 13))], C239_0⟩
def C243_0 (cc1 : XC) (cc2 : XC) : XC := (.z (.c 4 V.nils<|
.nil)
 (.z (.c 5 V.nils<|
.nil)
 (.seq (.z (.m 7 0<|
.m 6 7<|
.nil)
 (.block 0 (.loop [(1, .i), (5, .any), (6, .i)] [] [] cc2)))
 (.keep [(5, .any)] [] [] cc1))))
def C243_1 : XC := (.z (.m 17 5<|
.m 4 17<|
.nil)
 .ret)
def C243_2 : XC := (.seq (.z (.m 8 6<|
.m 9 1<|
.b 10 .lss .none (.t 8) (.t 9)<|
.nil)
 (.cond (.tmp 10) .skip
 y23))
 (.seq (.block 1 (.ops (.m 13 5<|
.m 14 6<|
.p 15 [14] (.buildSlice 3 1 [y0] [(0, 1, (.t 14))])<|
.O 16 .one (.append 3 1 8 (.t 13) (.t 15))<|
.m 5 16<|
.nil)))
 (.ops (.m 11 6<|
.b 12 .add .none (.t 11) (.i 1)<|
.m 6 12<|
.nil))))
def A243 : XFn := ⟨18, [.i, .i], [(.tmp 4)], (C243_0 C243_1 C243_2)⟩
def Fin244 (E : List (Nat × Blk)) : St → Ans := fun s => resK E s [(.tmp 2), (.tmp 3)] fun l => some (oneV l, s.σ)
def C244_0 : XC := (.z (.q 2 0<|
.c 3 y3<|
.nil)
 (.seq (.z (.m 4 0<|
.b 5 .lss .none (.t 4) (.i 16384)<|
.nil)
 (.cond (.tmp 5) (.z (.m 6 0<|
.m 2 6<|
.c 3 y3<|
.nil)
 .ret)
 .skip))
 (.z (.m 7 0<|
.b 8 .quo .none (.t 7) (.i 16384)<|
.p 9 [8] (.min (.t 8) [(.i 4)])<|
.b 10 .mul .none (.t 9) (.i 16384)<|
.m 2 10<|
.c 3 y26<|
.nil)
 .ret)))
def T244_0 (E : List (Nat × Blk)) (D : Den) (W : DrawFn) (a : Int) (σ : H) : Ans :=
 condK (ltF a (Int.ofNat 16384)) (
 some ((V.tup [(V.int .i64 a), (V.bool false)]), σ)) (
 some ((V.tup [(V.int .i64 (mulF .i64 (minF (quoF .i64 a (Int.ofNat 16384)) (Int.ofNat 4)) (Int.ofNat 16384))), (V.bool true)]), σ))
def S244_0 (a : Int) (σ : H) : St := ⟨[(0, (V.int .i64 a))], [], [], σ⟩
theorem P244_0 (a : Int) (σ : H) :
 denC E D W N (C244_0 ) (S244_0 a σ) (Fin244 E) nX (Fin244 E) =
 T244_0 E D W  a σ := by kernel_rfl
def J244_0 (E : List (Nat × Blk)) (D : Den) (W : DrawFn) (N : Nat) := T244_0 E D W
theorem JE244_0 (a : Int) (σ : H) :
 denC E D W N C244_0 (S244_0 a σ) (Fin244 E) nX (Fin244 E) = J244_0 E D W N a σ := by
 refine (P244_0 E D W N   a σ).trans ?_
 kernel_rfl
def F244 (args : List V) (σ : H) : Ans :=
 xcI .i64 args fun x3 l2 =>
 rtNil l2 (
 J244_0 E D W N x3 σ)
def A244 : XFn := ⟨11, [.i], [(.tmp 2), (.tmp 3)], C244_0⟩
theorem FE244 (args : List V) (σ : H) : runX E D W N A244 args σ = F244 E D W N args σ := by
 unfold F244
 simp only [← JE244_0]
 kernel_rfl
def C249_0 (cc1 : XC) (cc2 : XC) : XC := (.z (.q 4 0<|
.nil)
 (.seq (.z (.m 6 0<|
.u 7 6<|
.q 8 0<|
.nil)
 (.block 0 (.loop [(0, .any), (1, .bool), (7, .i), (8, .i)] [] [] cc2)))
 (.keep [] [] [] cc1)))
def C249_1 : XC := (.z (.c 4 y21<|
.nil)
 .ret)
def C249_2 : XC := (.z (.b 9 .lss .none (.t 8) (.t 7)<|
.nil)
 (.seq y18
 (.seq (.block 1 (.z (.m 10 8<|
.m 5 10<|
.nil)
 (.z (.m 11 1<|
.m 12 0<|
.m 13 5<|
.s 14 1 12 13<|
.l 15 .bool 14<|
.b 16 .eql .bool (.t 11) (.t 15)<|
.nil)
 y31)))
 y35)))
def A249 : XFn := ⟨19, [.any, .bool], [(.tmp 4)], (C249_0 C249_1 C249_2)⟩
def Fin260 (E : List (Nat × Blk)) : St → Ans := fun s => resK E s [(.tmp 2)] fun l => some (oneV l, s.σ)
def C260_0 : XC := (.z (.q 2 0<|
.nil)
 (.z (.m 3 0<|
.p 4 [3] (.min (.t 3) [(.i 32)])<|
.p 5 [4] (.max (.i 0) [(.t 4)])<|
.m 2 5<|
.nil)
 .ret))
def T260_0 (E : List (Nat × Blk)) (D : Den) (W : DrawFn) (a : Int) (σ : H) : Ans :=
 some ((V.int .i64 (maxF (Int.ofNat 0) (minF a (Int.ofNat 32)))), σ)
def S260_0 (a : Int) (σ : H) : St := ⟨[(0, (V.int .i64 a))], [], [], σ⟩
theorem P260_0 (a : Int) (σ : H) :
 denC E D W N (C260_0 ) (S260_0 a σ) (Fin260 E) nX (Fin260 E) =
 T260_0 E D W  a σ := by kernel_rfl
def J260_0 (E : List (Nat × Blk)) (D : Den) (W : DrawFn) (N : Nat) := T260_0 E D W
theorem JE260_0 (a : Int) (σ : H) :
 denC E D W N C260_0 (S260_0 a σ) (Fin260 E) nX (Fin260 E) = J260_0 E D W N a σ := by
 refine (P260_0 E D W N   a σ).trans ?_
 kernel_rfl
def F260 (args : List V) (σ : H) : Ans :=
 xcI .i64 args fun x3 l2 =>
 rtNil l2 (
 J260_0 E D W N x3 σ)
def A260 : XFn := ⟨6, [.i], [(.tmp 2)], C260_0⟩
theorem FE260 (args : List V) (σ : H) : runX E D W N A260 args σ = F260 E D W N args σ := by
 unfold F260
 simp only [← JE260_0]
 kernel_rfl
def Fin261 (E : List (Nat × Blk)) : St → Ans := fun s => resK E s [(.tmp 4)] fun l => some (oneV l, s.σ)
def C261_0 : XC := (.z (.c 4 y3<|
.nil)
 (.seq (.z (.m 5 0<|
.b 6 .eql .ptr (.t 5) y34<|
.m 7 6<|
.gO 7 false (.p 8 [0, 7] y13<|
.p 9 [8, 7] (.nilck (.t 8))<|
.p 10 [9, 7] (.faddr 2 (.t 9))<|
.op (some 11) .i [10, 7] (.load none (.t 10))<|
.p 12 [11, 7] (.bin .neq .none (.t 11) (.i 0))<|
.nil) 13 7 12<|
.nil)
 (.cond (.tmp 13) (.z (.c 4 y3<|
.nil)
 .ret)
 .skip))
 (.seq (.z (.m 14 1<|
.m 15 0<|
.n 16 15<|
.f 17 0 16<|
.k 18 .i 203 [(.t 17)]<|
.b 19 .gtr .none (.t 14) (.t 18)<|
.nil)
 (.cond (.tmp 19) (.z (.m 20 0<|
.n 21 20<|
.f 22 2 21<|
.op none .any [22] (.store 1 (.t 22) (.i 3))<|
.nil)
 (.z (.c 4 y3<|
.nil)
 .ret))
 .skip))
 (.z (.c 4 y26<|
.nil)
 .ret))))
def T261_0 (E : List (Nat × Blk)) (D : Den) (W : DrawFn) (a : V) (b : Int) (σ : H) : Ans :=
 eqK .ptr a V.nilp fun c1 =>
 joinB (fun c2 s3 =>
 condK c2 (
 some ((V.bool false), s3)) (
 rtPtr a fun b5 o6 =>
 callK (D 203 [(V.ptr b5 o6)] s3) fun u7 s8 =>
 rtInt .i64 u7 fun x9 =>
 condK (ltF x9 b) (
 rtPtr a fun b10 o11 =>
 stK 1 b10 (Nat.add o11 2) (V.int .i64 (Int.ofNat 3)) s8 fun s12 =>
 some ((V.bool false), s12)) (
 some ((V.bool true), s8)))) fun k4 =>
 condK c1 (
 k4 true σ) (
 rtPtr a fun b13 o14 =>
 ldK E σ b13 (Nat.add o14 2) fun u15 =>
 rtInt .i64 u15 fun x16 =>
 k4 (not (eqF x16 (Int.ofNat 0))) σ)
def S261_0 (a : V) (b : Int) (σ : H) : St := ⟨[(0, a), (1, (V.int .i64 b))], [], [], σ⟩
theorem P261_0 (a : V) (b : Int) (σ : H) :
 denC E D W N (C261_0 ) (S261_0 a b σ) (Fin261 E) nX (Fin261 E) =
 T261_0 E D W  a b σ := by kernel_rfl
def J261_0 (E : List (Nat × Blk)) (D : Den) (W : DrawFn) (N : Nat) := T261_0 E D W
theorem JE261_0 (a : V) (b : Int) (σ : H) :
 denC E D W N C261_0 (S261_0 a b σ) (Fin261 E) nX (Fin261 E) = J261_0 E D W N a b σ := by
 refine (P261_0 E D W N   a b σ).trans ?_
 kernel_rfl
def F261 (args : List V) (σ : H) : Ans :=
 rtCons args fun x1 l2 =>
 xcI .i64 l2 fun x5 l4 =>
 rtNil l4 (
 J261_0 E D W N x1 x5 σ)
def A261 : XFn := ⟨23, y44, [(.tmp 4)], C261_0⟩
theorem FE261 (args : List V) (σ : H) : runX E D W N A261 args σ = F261 E D W N args σ := by
 unfold F261
 simp only [← JE261_0]
 kernel_rfl
def Fin262 (E : List (Nat × Blk)) : St → Ans := fun s => resK E s [(.tmp 4)] fun l => some (oneV l, s.σ)
def C262_0 : XC := (.z (.c 4 y3<|
.nil)
 (.seq (.z (.m 7 0<|
.k 8 .i 114 [(.t 7)]<|
.b 9 .neq .none (.t 8) (.i 0)<|
.nil)
 (.cond (.tmp 9) (.z (.c 4 y3<|
.nil)
 .ret)
 .skip))
 (.z (.m 10 0<|
.n 11 10<|
.f 12 0 11<|
.l 13 .any 12<|
.n 14 13<|
.O 15 (.agg y42) (.load (some 3) (.t 14))<|
.pal 5 [] 228 [V.nils, y0, y0]<|
.op none (.agg y42) [5, 15] (.store 3 (.t 5) (.t 15))<|
.nil)
 (.z (.m 16 1<|
.O 17 y10 (.callv (.t 16) [])<|
.nil)
 (.seq (.z (.m 18 0<|
.k 19 .i 114 [(.t 18)]<|
.m 6 19<|
.nil)
 (.z (.m 20 6<|
.b 21 .neq .none (.t 20) (.i 0)<|
.nil)
 (.cond (.tmp 21) (.seq (.draw (.m 22 0<|
.n 23 22<|
.f 24 0 23<|
.l 25 .any 24<|
.m 26 0<|
.O 27 (.agg y42) (.load (some 3) (.t 5))<|
.m 28 6<|
.n 29 25<|
.op none (.agg y42) [29, 27] (.store 3 (.t 29) (.t 27))<|
.n 30 26<|
.f 31 1 30<|
.w 1 31 28<|
.nil) [0, 1, 3, 7, 0, 0, 0, 47, 175, 511, 1023, 2047])
 (.z (.c 4 y3<|
.nil)
 .ret))
 .skip)))
 (.z (.c 4 y26<|
.nil)
 .ret))))))
def T262_0 (E : List (Nat × Blk)) (D : Den) (W : DrawFn) (a b : Nat) (c : V) (σ : H) : Ans :=
 callK (D 114 [(V.ptr a b)] σ) fun u1 s2 =>
 rtInt .i64 u1 fun x3 =>
 condK (not (eqF x3 (Int.ofNat 0))) (
 some ((V.bool false), s2)) (
 ldK E s2 a b fun u4 =>
 rtPtr u4 fun b5 o6 =>
 ldnK E s2 b5 o6 3 fun l7 =>
 rtCons l7 fun x8 l9 =>
 xcI .i64 l9 fun x12 l11 =>
 xcI .i64 l11 fun x15 l14 =>
 rtNil l14 (
 chk (allOne [x8, (V.int .i64 x12), (V.int .i64 x15)]) (
 callvK D c [] s2 fun u16 s17 =>
 rtTup u16 fun l18 =>
 rtNil l18 (
 callK (D 114 [(V.ptr a b)] s17) fun u19 s20 =>
 rtInt .i64 u19 fun x21 =>
 condK (not (eqF x21 (Int.ofNat 0))) (
 ldK E s20 a b fun u22 =>
 rtPtr u22 fun b23 o24 =>
 stK 3 b23 o24 (V.agg [x8, (V.int .i64 x12), (V.int .i64 x15)]) s20 fun s25 =>
 stK 1 a (Nat.add b 1) (V.int .i64 x21) s25 fun s26 =>
 some ((V.bool false), s26)) (
 some ((V.bool true), s20))))))
def S262_0 (a b : Nat) (c : V) (σ : H) : St := ⟨[(0, (V.ptr a b)), (1, c)], [], [], σ⟩
theorem P262_0 (a b : Nat) (c : V) (σ : H) :
 denC E D W N (C262_0 ) (S262_0 a b c σ) (Fin262 E) nX (Fin262 E) =
 T262_0 E D W  a b c σ := by kernel_rfl
def J262_0 (E : List (Nat × Blk)) (D : Den) (W : DrawFn) (N : Nat) := T262_0 E D W
theorem JE262_0 (a b : Nat) (c : V) (σ : H) :
 denC E D W N C262_0 (S262_0 a b c σ) (Fin262 E) nX (Fin262 E) = J262_0 E D W N a b c σ := by
 refine (P262_0 E D W N   a b c σ).trans ?_
 kernel_rfl
def F262 (args : List V) (σ : H) : Ans :=
 rtCons args fun x1 l2 =>
 rtPtr x1 fun b3 o4 =>
 rtCons l2 fun x5 l6 =>
 rtNil l6 (
 J262_0 E D W N b3 o4 x5 σ)
def A262 : XFn := ⟨32, [.ptr, .any], [(.tmp 4)], C262_0⟩
theorem FE262 (args : List V) (σ : H) : runX E D W N A262 args σ = F262 E D W N args σ := by
 unfold F262
 simp only [← JE262_0]
 kernel_rfl
def G263_0 : List AOper := [⟨(some 3), .load none (.tmp 0), none⟩, ⟨(some 4), .load none (.tmp 1), none⟩, ⟨(some 5), .call 237 [(.tmp 4)], none⟩, ⟨(some 6), .call 103 [(.tmp 3), (.tmp 5)], none⟩, ⟨none, .store 1 (.tmp 2) (.tmp 6), none⟩]
def H263_0 : List DP := [⟨0, [0]⟩, ⟨0, [1]⟩, ⟨2, [4]⟩, ⟨7, [3, 5]⟩, ⟨15, [2, 6]⟩]
def C263_0 : XC := (.seq (.keep [(0, .any), (1, .any), (2, .any)] [] [] (.gdraw G263_0 H263_0 [(0, .any), (1, .any), (2, .any)]))
 (.z (.l 7 (.int .u64) 2<|
.l 8 (.int .u64) 1<|
.b 9 .gtr .none (.t 7) (.t 8)<|
.nil)
 (.cond (.tmp 9) (.ops (.l 10 .any 0<|
.k 11 y10 181 [(.t 10), (.i 4)]<|
.nil))
 .skip)))
def A263 : XFn := ⟨12, [.any, .any, .any], [], C263_0⟩
def Fin268 (E : List (Nat × Blk)) : St → Ans := fun s => resK E s [(.tmp 4), (.tmp 5)] fun l => some (oneV l, s.σ)
def C268_0 : XC := (.z (.P 2 (.box 99 (.t 0))<|
.P 3 (.box 4 (.t 1))<|
.q 4 0<|
.c 5 y3<|
.nil)
 (.z (.p 6 [] (.alloc 3 [y0])<|
.p 7 [] (.alloc 4 [y3])<|
.op none .any [6] (.store 1 (.t 6) (.i 0))<|
.op none .any [7] (.store 1 (.t 7) y43)<|
.nil)
 (.z (.l 8 .any 2<|
.p 9 [2, 6, 7, 3] (.mkfn 297 [] [(.t 2), (.t 6), (.t 7), (.t 3)])<|
.k 10 .bool 262 [(.t 8), (.t 9)]<|
.nil)
 (.seq (.draw (.l 11 .i 6<|
.l 12 .bool 7<|
.m 4 11<|
.m 5 12<|
.nil) [0, 0, 1, 7])
 .ret))))
def T268_0 (E : List (Nat × Blk)) (D : Den) (W : DrawFn) (a : V) (b : Bool) (σ : H) : Ans :=
 nbK (V.cells a) σ fun s1 =>
 nbK (V.cells (V.bool b)) s1 fun s2 =>
 let s3 := newB s2 (.cells [(V.int .i64 (Int.ofNat 0))]);
 let s4 := newB s3 (.cells [(V.bool false)]);
 stK 1 (H.next s2) 0 (V.int .i64 (Int.ofNat 0)) s4 fun s5 =>
 stK 1 (H.next s3) 0 (V.bool false) s5 fun s6 =>
 ldK E s6 (H.next σ) 0 fun u7 =>
 callK (D 262 [u7, (V.fn 297 [] [(V.ptr (H.next σ) 0), (V.ptr (H.next s2) 0), (V.ptr (H.next s3) 0), (V.ptr (H.next s1) 0)])] s6) fun u8 s9 =>
 rtBool u8 fun x10 =>
 ldK E s9 (H.next s2) 0 fun u11 =>
 rtInt .i64 u11 fun x12 =>
 ldK E s9 (H.next s3) 0 fun u13 =>
 rtBool u13 fun x14 =>
 some ((V.tup [(V.int .i64 x12), (V.bool x14)]), s9)
def S268_0 (a : V) (b : Bool) (σ : H) : St := ⟨[(0, a), (1, (V.bool b))], [], [], σ⟩
theorem P268_0 (a : V) (b : Bool) (σ : H) :
 denC E D W N (C268_0 ) (S268_0 a b σ) (Fin268 E) nX (Fin268 E) =
 T268_0 E D W  a b σ := by kernel_rfl
def J268_0 (E : List (Nat × Blk)) (D : Den) (W : DrawFn) (N : Nat) := T268_0 E D W
theorem JE268_0 (a : V) (b : Bool) (σ : H) :
 denC E D W N C268_0 (S268_0 a b σ) (Fin268 E) nX (Fin268 E) = J268_0 E D W N a b σ := by
 refine (P268_0 E D W N   a b σ).trans ?_
 kernel_rfl
def F268 (args : List V) (σ : H) : Ans :=
 rtCons args fun x1 l2 =>
 xcB l2 fun x5 l4 =>
 rtNil l4 (
 J268_0 E D W N x1 x5 σ)
def A268 : XFn := ⟨13, [.any, .bool], [(.tmp 4), (.tmp 5)], C268_0⟩
theorem FE268 (args : List V) (σ : H) : runX E D W N A268 args σ = F268 E D W N args σ := by
 unfold F268
 simp only [← JE268_0]
 kernel_rfl
def Fin273 (E : List (Nat × Blk)) : St → Ans := fun s => resK E s [(.tmp 2)] fun l => some (oneV l, s.σ)
def C273_0 : XC := (.z (.q 2 0<|
.nil)
 (.seq (.draw (.m 4 0<|
.n 5 4<|
.f 6 0 5<|
.l 7 .any 6<|
.m 8 0<|
.n 9 8<|
.f 10 1 9<|
.l 11 .i 10<|
.b 12 .quo .none (.t 11) (.i 8)<|
.s 13 1 7 12<|
.l 14 (.int .u8) 13<|
.m 15 0<|
.n 16 15<|
.f 17 1 16<|
.l 18 .i 17<|
.b 19 .rem .none (.t 18) (.i 8)<|
.b 20 .sub .none (.i 7) (.t 19)<|
.b 21 .shr .none (.t 14) (.t 20)<|
.b 22 .and .none (.t 21) (.con (V.int .u8 (Int.ofNat 1)))<|
.P 23 (.conv (.toInt .i64) (.t 22))<|
.m 3 23<|
.nil) [0, 1, 3, 7, 0, 16, 48, 112, 240, 511, 1023, 0, 2048, 6144, 14336, 30720, 63488, 131071, 262143, 524287, 1048575])
 (.z (.m 24 0<|
.n 25 24<|
.f 26 1 25<|
.l 27 .i 26<|
.b 28 .add .none (.t 27) (.i 1)<|
.n 29 24<|
.f 30 1 29<|
.w 1 30 28<|
.nil)
 (.z (.m 31 3<|
.m 2 31<|
.nil)
 .ret))))
def T273_0 (E : List (Nat × Blk)) (D : Den) (W : DrawFn) (a b : Nat) (σ : H) : Ans :=
 ldK E σ a b fun u1 =>
 ldK E σ a (Nat.add b 1) fun u2 =>
 rtInt .i64 u2 fun x3 =>
 iaddrSK 1 u1 (quoF .i64 x3 (Int.ofNat 8)) fun b4 o5 =>
 ldK E σ b4 o5 fun u6 =>
 rtInt .u8 u6 fun x7 =>
 ldK E σ a (Nat.add b 1) fun u8 =>
 rtInt .i64 u8 fun x9 =>
 nnK (subF .i64 (Int.ofNat 7) (Int.tmod x9 (Int.ofNat 8))) fun n10 =>
 ldK E σ a (Nat.add b 1) fun u11 =>
 rtInt .i64 u11 fun x12 =>
 stK 1 a (Nat.add b 1) (V.int .i64 (addF .i64 x12 (Int.ofNat 1))) σ fun s13 =>
 some ((V.int .i64 (wrapF .i64 (andF .u8 (shrF .u8 x7 n10) (Int.ofNat 1)))), s13)
def S273_0 (a b : Nat) (σ : H) : St := ⟨[(0, (V.ptr a b))], [], [], σ⟩
theorem P273_0 (a b : Nat) (σ : H) :
 denC E D W N (C273_0 ) (S273_0 a b σ) (Fin273 E) nX (Fin273 E) =
 T273_0 E D W  a b σ := by kernel_rfl
def J273_0 (E : List (Nat × Blk)) (D : Den) (W : DrawFn) (N : Nat) := T273_0 E D W
theorem JE273_0 (a b : Nat) (σ : H) :
 denC E D W N C273_0 (S273_0 a b σ) (Fin273 E) nX (Fin273 E) = J273_0 E D W N a b σ := by
 refine (P273_0 E D W N   a b σ).trans ?_
 kernel_rfl
def F273 (args : List V) (σ : H) : Ans :=
 rtCons args fun x1 l2 =>
 rtPtr x1 fun b3 o4 =>
 rtNil l2 (
 J273_0 E D W N b3 o4 σ)
def A273 : XFn := ⟨32, [.ptr], [(.tmp 2)], C273_0⟩
theorem FE273 (args : List V) (σ : H) : runX E D W N A273 args σ = F273 E D W N args σ := by
 unfold F273
 simp only [← JE273_0]
 kernel_rfl
end
noncomputable section
variable (E : List (Nat × Blk)) (D : Den) (W : DrawFn) (N : Nat)
def C274_0 : XC := (.z (.c 0 V.nils<|
.nil)
 (.z (.p 1 [] (.buildSlice 9 25 [y7, y7, y7, y7, y7, y7, y7, y7, y7, y7, y7, y7, y7, y7, y7, y7, y7, y7, y7, y7, y7, y7, y7, y7, y7] [(0, 1, (.con (V.str ⟨11, 100710650190388740279911748⟩))), (1, 1, y49), (2, 1, y50), (3, 1, (.con (V.str ⟨9, 1241215773001651606849⟩))), (4, 1, y45), (5, 1, (.con (V.str ⟨5, 336236856642⟩))), (6, 1, (.con (V.str ⟨3, 4476485⟩))), (7, 1, (.con (V.str ⟨7, 22026814072246082⟩))), (8, 1, (.con (V.str ⟨7, 23157120498421321⟩))), (9, 1, y41), (10, 1, (.con (V.str ⟨4, 1280070990⟩))), (11, 1, (.con (V.str ⟨5, 361940403023⟩))), (12, 1, (.con (V.str ⟨6, 78401563153491⟩))), (13, 1, y40), (14, 1, y51), (15, 1, (.con (V.str ⟨3, 5522771⟩))), (16, 1, (.con (V.str ⟨6, 76155295057987⟩))), (17, 1, (.con (V.str ⟨2, 17999⟩))), (18, 1, (.con (V.str ⟨8, 5494759122808361039⟩))), (19, 1, (.con (V.str ⟨7, 23727827094750532⟩))), (20, 1, (.con (V.str ⟨4, 1163544915⟩))), (21, 1, (.con (V.str ⟨3, 5130573⟩))), (22, 1, (.con (V.str ⟨3, 5783885⟩))), (23, 1, (.con (V.str ⟨4, 1163219540⟩))), (24, 1, (.con (V.str ⟨5, 297750249798⟩)))])<|
.m 0 1<|
.nil)
 .ret))
def A274 : XFn := ⟨2, [], [(.tmp 0)], C274_0⟩
def G276_0 : List AOper := [⟨(some 35), .mov (.tmp 1), none⟩, ⟨(some 36), .mov (.tmp 1), none⟩, ⟨(some 37), .nilck (.tmp 36), none⟩, ⟨(some 38), .faddr 12 (.tmp 37), none⟩, ⟨(some 39), .load none (.tmp 38), none⟩, ⟨(some 40), .load (some 11) (.tmp 8), none⟩, ⟨(some 41), .buildSlice 200 1 [(V.str ⟨0, 0⟩), (V.int .i64 (Int.ofNat 0)), (V.bool false), (V.bool false), (V.int .i64 (Int.ofNat 0)), (V.int .i64 (Int.ofNat 0)), V.nils, V.nils, (V.int .i64 (Int.ofNat 0)), V.nils, (V.int .i64 (Int.ofNat 0))] [(0, 11, (.tmp 40))], none⟩, ⟨(some 42), .append 200 11 136 (.tmp 39) (.tmp 41), none⟩, ⟨(some 43), .nilck (.tmp 35), none⟩, ⟨(some 44), .faddr 12 (.tmp 43), none⟩, ⟨none, .store 1 (.tmp 44) (.tmp 42), none⟩]
def H276_0 : List DP := [⟨0, [1]⟩, ⟨0, [1]⟩, ⟨2, [36]⟩, ⟨6, [37]⟩, ⟨14, [38]⟩, ⟨0, [8]⟩, ⟨32, [40]⟩, ⟨126, [39, 41]⟩, ⟨255, [35]⟩, ⟨511, [43]⟩, ⟨1023, [44, 42]⟩]
def C276_0 (cc1 : XC) : XC := (.z (.m 9 0<|
.k 10 .str 57 [(.t 9), (.i 2)]<|
.m 11 3<|
.op (some 12) y9 [10, 11] (.build [y7, y0, y3, y3, y0, y0, V.nils, V.nils, y0, V.nils, y0] [(0, 1, (.t 10)), (10, 1, (.t 11))])<|
.p 8 [] (.alloc 200 [y7, y0, y3, y3, y0, y0, V.nils, V.nils, y0, V.nils, y0])<|
.op none y9 [8, 12] (.store 11 (.t 8) (.t 12))<|
.nil)
 (.z (.m 13 0<|
.m 14 2<|
.b 15 .add .none (.t 14) (.i 1)<|
.k 16 .i 62 [(.t 13), (.t 15)]<|
.f 17 1 8<|
.w 1 17 16<|
.nil)
 (.seq (.block 0 (.z (.m 19 1<|
.n 20 19<|
.f 21 0 20<|
.l 22 .i 21<|
.b 23 .eql .none (.t 22) (.i 9)<|
.m 18 23<|
.nil)
 (.cond (.tmp 18) .skip
 (.z (.m 25 0<|
.k 26 .bool 59 [(.t 25), (.con (V.str ⟨8, 5494759122808361039⟩))]<|
.m 24 26<|
.nil)
 (.cond (.tmp 24) (.ops (.f 27 2 8<|
.op none .any [27] (.store 1 (.t 27) y12)<|
.nil))
 (.z (.m 29 0<|
.k 30 .bool 59 [(.t 29), (.con (V.str ⟨7, 23727827094750532⟩))]<|
.m 28 30<|
.nil)
 (.cond (.tmp 28) (.ops (.m 31 0<|
.k 32 y2 300 [(.t 31)]<|
.f 33 3 8<|
.op none .any [33] (.store 1 (.t 33) y12)<|
.f 34 4 8<|
.op none y2 [34, 32] (.store 6 (.t 34) (.t 32))<|
.nil))
 .skip)))))))
 (.keep [(1, .ptr), (8, .ptr)] [] [] cc1))))
def C276_1 : XC := (.keep [(1, .ptr), (8, .ptr)] [] [] (.gdraw G276_0 H276_0 []))
def A276 : XFn := ⟨45, [.any, .ptr, .i, .i], [], (C276_0 C276_1)⟩
def G279_0 : List AOper := [⟨(some 59), .faddr 11 (.tmp 3), none⟩, ⟨(some 60), .load none (.tmp 59), none⟩, ⟨(some 61), .un .not (.tmp 60), none⟩, ⟨(some 62), .mov (.tmp 61), none⟩, ⟨(some 63), .mov (.tmp 0), (some (62, false))⟩, ⟨(some 64), .faddr 9 (.tmp 3), (some (62, false))⟩, ⟨(some 65), .load none (.tmp 64), (some (62, false))⟩, ⟨(some 66), .load (some 13) (.tmp 3), (some (62, false))⟩, ⟨(some 67), .call 294 [(.tmp 66)], (some (62, false))⟩, ⟨(some 68), .sliceSl 11 (.tmp 65) (some (.tmp 67)) none none, (some (62, false))⟩, ⟨(some 69), .call 301 [(.tmp 63), (.tmp 68), (.con (V.bool true))], (some (62, false))⟩, ⟨(some 70), .pick (.tmp 62) (.con (V.bool true)) (.tmp 69), none⟩, ⟨(some 4), .mov (.tmp 70), none⟩]
def H279_0 : List DP := [⟨0, [3]⟩, ⟨1, [59]⟩, ⟨3, [60]⟩, ⟨7, [61]⟩, ⟨15, [0, 62]⟩, ⟨15, [3, 62]⟩, ⟨47, [64, 62]⟩, ⟨15, [3, 62]⟩, ⟨143, [66, 62]⟩, ⟨495, [65, 67, 62]⟩, ⟨1023, [63, 68, 62]⟩, ⟨2047, [62, 69]⟩, ⟨4095, [70]⟩]
def C279_0 (cc1 : XC) (cc2 : XC) : XC := (.z (.P 3 (.box 145 (.t 1))<|
.c 4 y3<|
.nil)
 (.seq (.z (.f 8 0 3<|
.l 9 .i 8<|
.b 10 .neq .none (.t 9) (.i 7)<|
.nil)
 (.cond (.tmp 10) (.z (.m 11 0<|
.f 12 9 3<|
.l 13 .any 12<|
.f 14 11 3<|
.l 15 .bool 14<|
.k 16 .bool 301 [(.t 11), (.t 13), (.t 15)]<|
.m 4 16<|
.nil)
 .ret)
 .skip))
 (.z (.O 17 y1 (.load (some 13) (.t 3))<|
.k 18 .one 302 [(.t 17)]<|
.m 5 18<|
.nil)
 (.seq (.z (.q 6 0<|
.nil)
 (.block 0 (.loop [(0, .any), (3, .ptr), (5, .any), (6, .i)] [] [] cc2)))
 (.keep [(0, .any), (3, .ptr)] [] [] cc1)))))
def C279_1 : XC := (.seq (.keep [(0, .any), (3, .ptr)] [] [] (.gdraw G279_0 H279_0 [(4, .bool)]))
 .ret)
def C279_2 (cc3 : XC) (cc4 : XC) (cc5 : XC) : XC := (.seq (.z (.m 19 6<|
.f 20 9 3<|
.l 21 .any 20<|
.u 22 21<|
.b 23 .lss .none (.t 19) (.t 22)<|
.nil)
 (.cond (.tmp 23) .skip
 y23))
 (.seq (.block 1 (.seq (.z (.m 26 5<|
.m 27 6<|
.s 28 1 26 27<|
.l 29 .bool 28<|
.P 30 (.un .not (.t 29))<|
.nil)
 (.cond (.tmp 30) (.exit 1)
 .skip))
 (.z (.m 31 6<|
.b 32 .add .none (.t 31) (.i 1)<|
.m 7 32<|
.nil)
 (.seq (.block 2 (.loop [(0, .any), (3, .ptr), (5, .any), (6, .i), (7, .i)] [] [] cc5))
 (.keep [(0, .any), (3, .ptr), (5, .any), (6, .i), (7, .i)] [] [] cc4)))))
 (.keep [(0, .any), (3, .ptr), (5, .any), (6, .i)] [] [] cc3)))
def C279_3 : XC := (.ops (.m 24 6<|
.b 25 .add .none (.t 24) (.i 1)<|
.m 6 25<|
.nil))
def C279_4 : XC := (.z (.m 46 0<|
.f 47 9 3<|
.l 48 .any 47<|
.m 49 6<|
.m 50 7<|
.b 51 .add .none (.t 50) (.i 1)<|
.f 52 9 3<|
.l 53 .any 52<|
.u 54 53<|
.p 55 [51, 54] (.min (.t 51) [(.t 54)])<|
.p 56 [48, 49, 55] (.sliceSl 11 (.t 48) (some (.t 49)) (some (.t 55)) none)<|
.k 57 .bool 301 [(.t 46), (.t 56), y43]<|
.P 58 (.un .not (.t 57))<|
.nil)
 (.cond (.tmp 58) (.z (.c 4 y3<|
.nil)
 .ret)
 .skip))
def C279_5 : XC := (.seq (.z (.m 33 7<|
.f 34 9 3<|
.l 35 .any 34<|
.u 36 35<|
.b 37 .lss .none (.t 33) (.t 36)<|
.m 38 37<|
.gA 38 true (.p 39 [5, 38] y48<|
.p 40 [7, 38] (.mov (.t 7))<|
.p 41 [39, 40, 38] (.iaddrS 1 (.t 39) (.t 40))<|
.op (some 42) .bool [41, 38] (.load none (.t 41))<|
.nil) 43 38 42<|
.nil)
 (.cond (.tmp 43) .skip
 (.exit 2)))
 (.block 3 (.ops (.m 44 7<|
.b 45 .add .none (.t 44) (.i 1)<|
.m 7 45<|
.nil))))
def A279 : XFn := ⟨71, [.any, y1], [(.tmp 4)], (C279_0 C279_1 (C279_2 C279_3 C279_4 C279_5))⟩
def Fin289 (E : List (Nat × Blk)) : St → Ans := fun s => resK E s [] fun l => some (oneV l, s.σ)
def C289_0 (cc1 : XC) : XC := (.seq (.z (.m 4 0<|
.b 5 .eql .ptr (.t 4) y34<|
.nil)
 (.cond (.tmp 5) .ret
 .skip))
 (.seq (.z (.m 6 0<|
.n 7 6<|
.f 8 1 7<|
.l 9 .i 8<|
.b 10 .rem .none (.t 9) (.i 8)<|
.b 11 .eql .none (.t 10) (.i 0)<|
.nil)
 (.cond (.tmp 11) (.ops (.m 12 0<|
.m 13 0<|
.n 14 13<|
.f 15 0 14<|
.l 16 .any 15<|
.p 17 [] y24<|
.O 18 .one (.append 5 1 1 (.t 16) (.t 17))<|
.n 19 12<|
.f 20 0 19<|
.w 1 20 18<|
.nil))
 .skip))
 (.keep [(0, .any), (1, .i)] [] [] cc1)))
def T289_0 (E : List (Nat × Blk)) (D : Den) (W : DrawFn) (K1 : V → Int → H → Ans) (a : V) (b : Int) (σ : H) : Ans :=
 eqK .ptr a V.nilp fun c1 =>
 condK c1 (
 some ((V.tup []), σ)) (
 rtPtr a fun b2 o3 =>
 ldK E σ b2 (Nat.add o3 1) fun u4 =>
 rtInt .i64 u4 fun x5 =>
 condK (eqF (Int.tmod x5 (Int.ofNat 8)) (Int.ofNat 0)) (
 rtPtr a fun b6 o7 =>
 ldK E σ b6 o7 fun u8 =>
 let s9 := newB σ (.cells [(V.int .u8 (Int.ofNat 0))]);
 appK E 1 1 u8 (V.sl (H.next σ) 0 1 (.ex 1)) s9 fun u10 s11 =>
 rtOne u10 (
 rtPtr a fun b12 o13 =>
 stK 1 b12 o13 u10 s11 fun s14 =>
 K1 a b s14)) (
 K1 a b σ))
def C289_1 (cc2 : XC) : XC := (.seq (.z (.m 21 1<|
.b 22 .neq .none (.t 21) (.i 0)<|
.nil)
 (.cond (.tmp 22) (.draw (.m 23 0<|
.n 24 23<|
.f 25 0 24<|
.l 26 .any 25<|
.m 27 0<|
.n 28 27<|
.f 29 1 28<|
.l 30 .i 29<|
.b 31 .quo .none (.t 30) (.i 8)<|
.s 32 1 26 31<|
.l 33 (.int .u8) 32<|
.m 34 0<|
.n 35 34<|
.f 36 1 35<|
.l 37 .i 36<|
.b 38 .rem .none (.t 37) (.i 8)<|
.b 39 .shr .none (.con (V.int .u8 (Int.ofNat 128))) (.t 38)<|
.b 40 .or .none (.t 33) (.t 39)<|
.s 41 1 26 31<|
.w 1 41 40<|
.nil) [0, 1, 3, 7, 0, 16, 48, 112, 240, 511, 1023, 0, 2048, 6144, 14336, 30720, 63488, 131071, 262143, 524287])
 .skip))
 (.keep [(0, .any)] [] [] cc2))
def T289_1 (E : List (Nat × Blk)) (D : Den) (W : DrawFn) (K2 : V → H → Ans) (a : V) (b : Int) (σ : H) : Ans :=
 condK (not (eqF b (Int.ofNat 0))) (
 rtPtr a fun b1 o2 =>
 ldK E σ b1 o2 fun u3 =>
 rtPtr a fun b4 o5 =>
 ldK E σ b4 (Nat.add o5 1) fun u6 =>
 rtInt .i64 u6 fun x7 =>
 iaddrSK 1 u3 (quoF .i64 x7 (Int.ofNat 8)) fun b8 o9 =>
 ldK E σ b8 o9 fun u10 =>
 rtInt .u8 u10 fun x11 =>
 rtPtr a fun b12 o13 =>
 ldK E σ b12 (Nat.add o13 1) fun u14 =>
 rtInt .i64 u14 fun x15 =>
 nnK (Int.tmod x15 (Int.ofNat 8)) fun n16 =>
 iaddrSK 1 u3 (quoF .i64 x7 (Int.ofNat 8)) fun b17 o18 =>
 stK 1 b17 o18 (V.int .u8 (orF .u8 x11 (shrF .u8 (Int.ofNat 128) n16))) σ fun s19 =>
 K2 a s19) (
 K2 a σ)
def C289_2 : XC := (.ops (.m 42 0<|
.n 43 42<|
.f 44 1 43<|
.l 45 .i 44<|
.b 46 .add .none (.t 45) (.i 1)<|
.n 47 42<|
.f 48 1 47<|
.w 1 48 46<|
.nil))
def T289_2 (E : List (Nat × Blk)) (D : Den) (W : DrawFn) (a : V) (σ : H) : Ans :=
 rtPtr a fun b1 o2 =>
 ldK E σ b1 (Nat.add o2 1) fun u3 =>
 rtInt .i64 u3 fun x4 =>
 rtPtr a fun b5 o6 =>
 stK 1 b5 (Nat.add o6 1) (V.int .i64 (addF .i64 x4 (Int.ofNat 1))) σ fun s7 =>
 some ((V.tup []), s7)
def S289_0 (a : V) (b : Int) (σ : H) : St := ⟨[(0, a), (1, (V.int .i64 b))], [], [], σ⟩
def S289_1 (a : V) (b : Int) (σ : H) : St := ⟨[(0, a), (1, (V.int .i64 b))], [], [], σ⟩
def S289_2 (a : V) (σ : H) : St := ⟨[(0, a)], [], [], σ⟩
theorem P289_0 (cc1 : XC) (a : V) (b : Int) (σ : H) :
 denC E D W N (C289_0 cc1) (S289_0 a b σ) (Fin289 E) nX (Fin289 E) =
 T289_0 E D W (fun a b σ => denC E D W N cc1 (S289_1 a b σ) (Fin289 E) nX (Fin289 E)) a b σ := by kernel_rfl
theorem P289_1 (cc2 : XC) (a : V) (b : Int) (σ : H) :
 denC E D W N (C289_1 cc2) (S289_1 a b σ) (Fin289 E) nX (Fin289 E) =
 T289_1 E D W (fun a σ => denC E D W N cc2 (S289_2 a σ) (Fin289 E) nX (Fin289 E)) a b σ := by kernel_rfl
theorem P289_2 (a : V) (σ : H) :
 denC E D W N (C289_2 ) (S289_2 a σ) (Fin289 E) nX (Fin289 E) =
 T289_2 E D W  a σ := by kernel_rfl
def J289_2 (E : List (Nat × Blk)) (D : Den) (W : DrawFn) (N : Nat) := T289_2 E D W
theorem JE289_2 (a : V) (σ : H) :
 denC E D W N C289_2 (S289_2 a σ) (Fin289 E) nX (Fin289 E) = J289_2 E D W N a σ := by
 refine (P289_2 E D W N   a σ).trans ?_
 kernel_rfl
def J289_1 := T289_1 E D W (J289_2 E D W N )
theorem JE289_1 (a : V) (b : Int) (σ : H) :
 denC E D W N (C289_1 C289_2) (S289_1 a b σ) (Fin289 E) nX (Fin289 E) = J289_1 E D W N a b σ := by
 refine (P289_1 E D W N C289_2  a b σ).trans ?_
 simp only [JE289_2]
 kernel_rfl
def J289_0 := T289_0 E D W (J289_1 E D W N )
theorem JE289_0 (a : V) (b : Int) (σ : H) :
 denC E D W N (C289_0 (C289_1 C289_2)) (S289_0 a b σ) (Fin289 E) nX (Fin289 E) = J289_0 E D W N a b σ := by
 refine (P289_0 E D W N (C289_1 C289_2)  a b σ).trans ?_
 simp only [JE289_1]
 kernel_rfl
def F289 (args : List V) (σ : H) : Ans :=
 rtCons args fun x1 l2 =>
 xcI .i64 l2 fun x5 l4 =>
 rtNil l4 (
 J289_0 E D W N x1 x5 σ)
def A289 : XFn := ⟨49, y44, [], (C289_0 (C289_1 C289_2))⟩
theorem FE289 (args : List V) (σ : H) : runX E D W N A289 args σ = F289 E D W N args σ := by
 unfold F289
 simp only [← JE289_0]
 kernel_rfl
def C290_0 (cc1 : XC) : XC := (.z (.q 2 0<|
.nil)
 (.seq (.z (.m 3 0<|
.b 4 .geq .none (.t 3) (.con (V.int .u64 (Int.ofNat 4294967296)))<|
.nil)
 (.cond (.tmp 4) (.z (.m 5 0<|
.b 6 .shr .none (.t 5) (.con (V.int .u64 (Int.ofNat 32)))<|
.m 0 6<|
.nil)
 (.ops (.q 2 32<|
.nil)))
 .skip))
 (.keep [(0, (.int .u64)), (2, .i)] [] [] cc1)))
def C290_1 (cc2 : XC) : XC := (.seq (.z (.m 7 0<|
.b 8 .geq .none (.t 7) (.con (V.int .u64 (Int.ofNat 65536)))<|
.nil)
 (.cond (.tmp 8) (.z (.m 9 0<|
.b 10 .shr .none (.t 9) (.con (V.int .u64 (Int.ofNat 16)))<|
.m 0 10<|
.nil)
 (.ops (.m 11 2<|
.b 12 .add .none (.t 11) (.i 16)<|
.m 2 12<|
.nil)))
 .skip))
 (.keep [(0, (.int .u64)), (2, .i)] [] [] cc2))
def C290_2 (cc3 : XC) : XC := (.seq (.z (.m 13 0<|
.b 14 .geq .none (.t 13) (.con (V.int .u64 (Int.ofNat 256)))<|
.nil)
 (.cond (.tmp 14) (.z (.m 15 0<|
.b 16 .shr .none (.t 15) (.con (V.int .u64 (Int.ofNat 8)))<|
.m 0 16<|
.nil)
 (.ops (.m 17 2<|
.b 18 .add .none (.t 17) (.i 8)<|
.m 2 18<|
.nil)))
 .skip))
 (.keep [(0, (.int .u64)), (2, .i)] [] [] cc3))
def C290_3 : XC := (.z (.m 19 2<|
.m 20 0<|
.P 21 (.conv (.toInt .u8) (.t 20))<|
.P 22 (.idxStr (.con (V.str ⟨256, 1013866857139168856493015739252390649739422828853819106890363778118420553376247557433637691341895324351018602695588957474325319502760499485336098898398377509666851054660423406800006203933793007272033180812049178612605246075062580585469430410618860250057463399279570354286669047577758927328864388992123306212451509403152394148136105363817402562688186708175358218852349079190158732807302672745370040257219644697201681238697346923541678507645485296520536209706771857694240900605172937619415410180424934769249448772944216470541052485265558808433676546390051204254346932932316488017972311616136051587427851453983453479168⟩)) (.t 21))<|
.P 23 (.conv (.toInt .i64) (.t 22))<|
.b 24 .add .none (.t 19) (.t 23)<|
.m 2 24<|
.nil)
 .ret)
def A290 : XFn := ⟨25, [(.int .u64)], [(.tmp 2)], (C290_0 (C290_1 (C290_2 C290_3)))⟩
def C295_0 (cc1 : XC) (cc2 : XC) : XC := (.z (.P 3 (.box 253 (.t 1))<|
.c 4 y3<|
.nil)
 (.seq (.z (.q 5 0<|
.nil)
 (.block 0 (.loop [(0, .any), (3, .ptr), (5, .i)] [] [] cc2)))
 (.keep [] [] [] cc1)))
def C295_1 : XC := (.z (.c 4 y3<|
.nil)
 .ret)
def C295_2 : XC := (.seq (.z (.m 6 5<|
.m 7 0<|
.u 8 7<|
.b 9 .lss .none (.t 6) (.t 8)<|
.nil)
 y18)
 (.seq (.block 1 (.seq (.draw (.m 12 0<|
.m 13 5<|
.s 14 2 12 13<|
.O 15 y15 (.load (some 2) (.t 14))<|
.O 16 y15 (.load (some 2) (.t 3))<|
.b 17 .eql (.flat [(0, .int), (1, .int)]) (.t 15) (.t 16)<|
.nil) [0, 0, 3, 7, 0, 31])
 y36))
 y29))
def A295 : XFn := ⟨18, [.any, y15], [(.tmp 4)], (C295_0 C295_1 C295_2)⟩
def q297a : List (Nat × XTy) := [(0, .ptr), (1, .any), (2, .bool), (7, .any), (8, .i)]
def Fin297 (E : List (Nat × Blk)) : St → Ans := fun s => resK E s [] fun l => some (oneV l, s.σ)
def C297_0 : XC := (.z (.l 5 .any 0<|
.k 6 (.int .u64) 103 [(.t 5), (.i 8)]<|
.P 7 (.conv (.toInt .i64) (.t 6))<|
.m 4 7<|
.nil)
 (.block 0 (.z (.m 23 4<|
.b 24 .lss .none (.t 23) (.i 128)<|
.m 22 24<|
.nil)
 (.cond (.tmp 22) (.ops (.m 25 4<|
.w 1 1 25<|
.nil))
 (.z (.m 27 4<|
.b 28 .lss .none (.t 27) (.i 192)<|
.m 26 28<|
.nil)
 (.cond (.tmp 26) (.z (.m 29 4<|
.b 30 .andNot .none (.t 29) (.i 128)<|
.b 31 .shl .none (.t 30) (.con (V.int .u64 (Int.ofNat 8)))<|
.l 32 .any 0<|
.k 33 (.int .u64) 103 [(.t 32), (.i 8)]<|
.P 34 (.conv (.toInt .i64) (.t 33))<|
.b 35 .or .none (.t 31) (.t 34)<|
.w 1 1 35<|
.nil)
 (.z (.l 36 .i 1<|
.b 37 .lss .none (.t 36) (.i 128)<|
.nil)
 (.cond (.tmp 37) (.ops (.l 38 .any 0<|
.k 39 y10 181 [(.t 38), (.i 4)]<|
.nil))
 .skip)))
 (.z (.m 8 4<|
.b 9 .sub .none (.t 8) (.i 192)<|
.b 10 .mul .none (.t 9) (.i 16384)<|
.w 1 1 10<|
.op none .any [2] (.store 1 (.t 2) y12)<|
.nil)
 (.z (.l 11 .bool 3<|
.m 12 11<|
.gO 12 false (.op (some 13) .i [1, 12] (.load none (.t 1))<|
.p 14 [13, 12] (.bin .lss .none (.t 13) (.i 16384))<|
.nil) 15 12 14<|
.m 16 15<|
.gO 16 false (.op (some 17) .i [1, 16] (.load none (.t 1))<|
.p 18 [17, 16] (.bin .gtr .none (.t 17) (.i 65536))<|
.nil) 19 16 18<|
.nil)
 (.cond (.tmp 19) (.ops (.l 20 .any 0<|
.k 21 y10 181 [(.t 20), (.i 4)]<|
.nil))
 .skip)))))))))
def T297_0 (E : List (Nat × Blk)) (D : Den) (W : DrawFn) (a b c d : V) (σ : H) : Ans :=
 rtPtr a fun b1 o2 =>
 ldK E σ b1 o2 fun u3 =>
 callK (D 103 [u3, (V.int .i64 (Int.ofNat 8))] σ) fun u4 s5 =>
 rtInt .u64 u4 fun x6 =>
 condK (ltF (wrapF .i64 x6) (Int.ofNat 128)) (
 rtPtr b fun b7 o8 =>
 stK 1 b7 o8 (V.int .i64 (wrapF .i64 x6)) s5 fun s9 =>
 some ((V.tup []), s9)) (
 condK (ltF (wrapF .i64 x6) (Int.ofNat 192)) (
 rtPtr a fun b10 o11 =>
 ldK E s5 b10 o11 fun u12 =>
 callK (D 103 [u12, (V.int .i64 (Int.ofNat 8))] s5) fun u13 s14 =>
 rtInt .u64 u13 fun x15 =>
 rtPtr b fun b16 o17 =>
 stK 1 b16 o17 (V.int .i64 (orF .i64 (shlF .i64 (andNotF .i64 (wrapF .i64 x6) (Int.ofNat 128)) 8) (wrapF .i64 x15))) s14 fun s18 =>
 rtPtr b fun b19 o20 =>
 ldK E s18 b19 o20 fun u21 =>
 rtInt .i64 u21 fun x22 =>
 condK (ltF x22 (Int.ofNat 128)) (
 rtPtr a fun b23 o24 =>
 ldK E s18 b23 o24 fun u25 =>
 callK (D 181 [u25, (V.int .i64 (Int.ofNat 4))] s18) fun u26 s27 =>
 rtTup u26 fun l28 =>
 rtNil l28 (
 some ((V.tup []), s27))) (
 some ((V.tup []), s18))) (
 rtPtr b fun b29 o30 =>
 stK 1 b29 o30 (V.int .i64 (mulF .i64 (subF .i64 (wrapF .i64 x6) (Int.ofNat 192)) (Int.ofNat 16384))) s5 fun s31 =>
 rtPtr c fun b32 o33 =>
 stK 1 b32 o33 (V.bool true) s31 fun s34 =>
 rtPtr d fun b35 o36 =>
 ldK E s34 b35 o36 fun u37 =>
 rtBool u37 fun x38 =>
 joinB (fun c39 s40 =>
 joinB (fun c42 s43 =>
 condK c42 (
 rtPtr a fun b45 o46 =>
 ldK E s43 b45 o46 fun u47 =>
 callK (D 181 [u47, (V.int .i64 (Int.ofNat 4))] s43) fun u48 s49 =>
 rtTup u48 fun l50 =>
 rtNil l50 (
 some ((V.tup []), s49))) (
 some ((V.tup []), s43))) fun k44 =>
 condK c39 (
 k44 true s40) (
 rtPtr b fun b51 o52 =>
 ldK E s40 b51 o52 fun u53 =>
 rtInt .i64 u53 fun x54 =>
 k44 (ltF (Int.ofNat 65536) x54) s40)) fun k41 =>
 condK x38 (
 k41 true s34) (
 rtPtr b fun b55 o56 =>
 ldK E s34 b55 o56 fun u57 =>
 rtInt .i64 u57 fun x58 =>
 k41 (ltF x58 (Int.ofNat 16384)) s34)))
def S297_0 (a b c d : V) (σ : H) : St := ⟨[(0, a), (1, b), (2, c), (3, d)], [], [], σ⟩
theorem P297_0 (a b c d : V) (σ : H) :
 denC E D W N (C297_0 ) (S297_0 a b c d σ) (Fin297 E) nX (Fin297 E) =
 T297_0 E D W  a b c d σ := by kernel_rfl
def J297_0 (E : List (Nat × Blk)) (D : Den) (W : DrawFn) (N : Nat) := T297_0 E D W
theorem JE297_0 (a b c d : V) (σ : H) :
 denC E D W N C297_0 (S297_0 a b c d σ) (Fin297 E) nX (Fin297 E) = J297_0 E D W N a b c d σ := by
 refine (P297_0 E D W N   a b c d σ).trans ?_
 kernel_rfl
def F297 (args : List V) (σ : H) : Ans :=
 rtCons args fun x1 l2 =>
 rtCons l2 fun x3 l4 =>
 rtCons l4 fun x5 l6 =>
 rtCons l6 fun x7 l8 =>
 rtNil l8 (
 J297_0 E D W N x1 x3 x5 x7 σ)
def A297 : XFn := ⟨40, [.any, .any, .any, .any], [], C297_0⟩
theorem FE297 (args : List V) (σ : H) : runX E D W N A297 args σ = F297 E D W N args σ := by
 unfold F297
 simp only [← JE297_0]
 kernel_rfl
def G301_0 : List AOper := [⟨(some 33), .mov (.tmp 7), none⟩, ⟨(some 34), .mov (.tmp 0), none⟩, ⟨(some 35), .nilck (.tmp 34), none⟩, ⟨(some 36), .faddr 5 (.tmp 35), none⟩, ⟨(some 37), .load none (.tmp 36), none⟩, ⟨(some 38), .mov (.tmp 1), none⟩, ⟨(some 39), .mov (.tmp 8), none⟩, ⟨(some 40), .iaddrS 11 (.tmp 38) (.tmp 39), none⟩, ⟨(some 41), .faddr 1 (.tmp 40), none⟩, ⟨(some 42), .load none (.tmp 41), none⟩, ⟨(some 43), .call 310 [(.tmp 37), (.tmp 42)], none⟩, ⟨(some 44), .buildSlice 139 1 [V.nils] [(0, 1, (.tmp 43))], none⟩, ⟨(some 45), .append 139 1 24 (.tmp 33) (.tmp 44), none⟩, ⟨(some 7), .mov (.tmp 45), none⟩]
def H301_0 : List DP := [⟨0, [7]⟩, ⟨0, [0]⟩, ⟨2, [34]⟩, ⟨6, [35]⟩, ⟨14, [36]⟩, ⟨0, [1]⟩, ⟨0, [8]⟩, ⟨96, [38, 39]⟩, ⟨224, [40]⟩, ⟨480, [41]⟩, ⟨1022, [37, 42]⟩, ⟨2046, [43]⟩, ⟨4095, [33, 44]⟩, ⟨8191, [45]⟩]
def C301_0 (cc1 : XC) (cc2 : XC) : XC := (.z (.c 6 y3<|
.nil)
 (.z (.c 7 V.nils<|
.nil)
 (.seq (.z (.q 8 0<|
.nil)
 (.block 0 (.loop q297a [] [] cc2)))
 (.keep [(7, .any)] [] [] cc1))))
def C301_1 : XC := (.z (.m 46 7<|
.k 47 .bool 313 [(.t 46)]<|
.m 6 47<|
.nil)
 .ret)
def C301_2 : XC := (.seq (.z (.m 9 8<|
.m 10 1<|
.u 11 10<|
.b 12 .lss .none (.t 9) (.t 11)<|
.nil)
 (.cond (.tmp 12) .skip
 y23))
 (.seq (.block 1 (.seq (.seq (.draw (.m 15 0<|
.n 16 15<|
.f 17 5 16<|
.l 18 .any 17<|
.m 19 1<|
.m 20 8<|
.s 21 11 19 20<|
.f 22 1 21<|
.l 23 .i 22<|
.k 24 .bool 312 [(.t 18), (.t 23)]<|
.m 25 24<|
.gA 25 true (.p 26 [2, 25] (.mov (.t 2))<|
.p 27 [26, 25] (.mov (.t 26))<|
.grp 27 false (.p 28 [1, 27] y16<|
.p 29 [28, 27] (.len false (.t 28))<|
.p 30 [29, 27] (.bin .gtr .none (.t 29) (.i 1))<|
.nil) 31 [27, 30, 25] (.t 27) y12 (.t 30)<|
.nil) 32 25 31<|
.nil) [0, 1, 3, 7, 0, 0, 48, 112, 240, 511, 1023, 2047, 4095, 8191, 16383, 32767, 65535, 131071])
 (.cond (.tmp 32) (.z (.c 6 y3<|
.nil)
 .ret)
 .skip))
 (.keep q297a [] [] (.gdraw G301_0 H301_0 q297a))))
 (.ops (.m 13 8<|
.b 14 .add .none (.t 13) (.i 1)<|
.m 8 14<|
.nil))))
def A301 : XFn := ⟨48, [.ptr, .any, .bool], [(.tmp 6)], (C301_0 C301_1 C301_2)⟩
def C302_0 (cc1 : XC) (cc2 : XC) : XC := (.z (.P 1 (.box 145 (.t 0))<|
.c 2 V.nils<|
.nil)
 (.z (.c 3 V.nils<|
.nil)
 (.seq (.z (.q 4 0<|
.nil)
 (.block 0 (.loop [(1, .ptr), (3, .any), (4, .i)] [] [] cc2)))
 (.keep [(3, .any)] [] [] cc1))))
def C302_1 : XC := (.z (.m 35 3<|
.m 2 35<|
.nil)
 .ret)
def C302_2 : XC := (.seq (.z (.m 5 4<|
.f 6 9 1<|
.l 7 .any 6<|
.u 8 7<|
.b 9 .lss .none (.t 5) (.t 8)<|
.nil)
 y18)
 (.seq (.block 1 (.ops (.m 12 3<|
.f 13 9 1<|
.l 14 .any 13<|
.m 15 4<|
.s 16 11 14 15<|
.f 17 2 16<|
.l 18 .bool 17<|
.m 19 18<|
.gO 19 false (.p 20 [1, 19] (.faddr 9 (.t 1))<|
.p 21 [20, 19] (.load none (.t 20))<|
.p 22 [4, 19] (.mov (.t 4))<|
.p 23 [21, 22, 19] (.iaddrS 11 (.t 21) (.t 22))<|
.p 24 [23, 19] (.faddr 3 (.t 23))<|
.op (some 25) .bool [24, 19] (.load none (.t 24))<|
.nil) 26 19 25<|
.m 27 26<|
.gO 27 false (.p 28 [4, 27] (.mov (.t 4))<|
.p 29 [1, 27] (.faddr 10 (.t 1))<|
.op (some 30) .i [29, 27] (.load none (.t 29))<|
.p 31 [28, 30, 27] (.bin .geq .none (.t 28) (.t 30))<|
.nil) 32 27 31<|
.p 33 [32] (.buildSlice 4 1 [y3] [(0, 1, (.t 32))])<|
.O 34 .one (.append 4 1 1 (.t 12) (.t 33))<|
.m 3 34<|
.nil)))
 y22))
def A302 : XFn := ⟨36, [y1], [(.tmp 2)], (C302_0 C302_1 C302_2)⟩
def C310_0 (cc1 : XC) (cc2 : XC) : XC := (.z (.c 4 V.nils<|
.nil)
 (.seq (.z (.m 7 0<|
.m 8 1<|
.s 9 13 7 8<|
.f 10 1 9<|
.l 11 .any 10<|
.u 12 11<|
.b 13 .gtr .none (.t 12) (.i 0)<|
.nil)
 (.cond (.tmp 13) (.z (.m 14 0<|
.m 15 1<|
.s 16 13 14 15<|
.f 17 1 16<|
.l 18 .any 17<|
.p 19 [18] (.sliceSl 2 (.t 18) none (some (.i 1)) none)<|
.m 4 19<|
.nil)
 .ret)
 .skip))
 (.z (.c 5 V.nils<|
.nil)
 (.seq (.z (.q 6 0<|
.nil)
 (.block 0 (.loop [(0, .any), (1, .i), (5, .any), (6, .i)] [] [] cc2)))
 (.keep [(5, .any)] [] [] cc1)))))
def C310_1 : XC := (.z (.m 43 5<|
.m 4 43<|
.nil)
 .ret)
def C310_2 : XC := (.seq (.z (.m 20 6<|
.m 21 0<|
.m 22 1<|
.s 23 13 21 22<|
.f 24 9 23<|
.l 25 .any 24<|
.u 26 25<|
.b 27 .lss .none (.t 20) (.t 26)<|
.nil)
 (.cond (.tmp 27) .skip
 y23))
 (.seq (.block 1 (.ops (.m 30 5<|
.m 31 0<|
.m 32 0<|
.m 33 1<|
.s 34 13 32 33<|
.f 35 9 34<|
.l 36 .any 35<|
.m 37 6<|
.s 38 11 36 37<|
.f 39 1 38<|
.l 40 .i 39<|
.k 41 .one 310 [(.t 31), (.t 40)]<|
.O 42 .one (.append 253 2 16 (.t 30) (.t 41))<|
.m 5 42<|
.nil)))
 (.ops (.m 28 6<|
.b 29 .add .none (.t 28) (.i 1)<|
.m 6 29<|
.nil))))
def A310 : XFn := ⟨44, y44, [(.tmp 4)], (C310_0 C310_1 C310_2)⟩
def C312_0 (cc1 : XC) (cc2 : XC) : XC := (.z (.c 4 y3<|
.nil)
 (.seq (.z (.m 7 0<|
.m 8 1<|
.s 9 13 7 8<|
.f 10 0 9<|
.l 11 .i 10<|
.b 12 .neq .none (.t 11) (.i 9)<|
.m 13 12<|
.gO 13 false (.p 14 [0, 13] y13<|
.p 15 [1, 13] y16<|
.p 16 [14, 15, 13] (.iaddrS 13 (.t 14) (.t 15))<|
.p 17 [16, 13] (.faddr 1 (.t 16))<|
.p 18 [17, 13] (.load none (.t 17))<|
.p 19 [18, 13] (.len false (.t 18))<|
.p 20 [19, 13] (.bin .gtr .none (.t 19) (.i 0))<|
.nil) 21 13 20<|
.nil)
 (.cond (.tmp 21) (.z (.c 4 y3<|
.nil)
 .ret)
 .skip))
 (.z (.m 22 0<|
.m 23 1<|
.s 24 13 22 23<|
.f 25 11 24<|
.l 26 .bool 25<|
.m 5 26<|
.nil)
 (.seq (.z (.q 6 0<|
.nil)
 (.block 0 (.loop [(0, .any), (1, .i), (5, .bool), (6, .i)] [] [] cc2)))
 (.keep [(5, .bool)] [] [] cc1)))))
def C312_1 : XC := (.z (.m 51 5<|
.m 4 51<|
.nil)
 .ret)
def C312_2 : XC := (.seq (.z (.m 27 6<|
.m 28 0<|
.m 29 1<|
.s 30 13 28 29<|
.f 31 9 30<|
.l 32 .any 31<|
.u 33 32<|
.b 34 .lss .none (.t 27) (.t 33)<|
.nil)
 (.cond (.tmp 34) .skip
 y23))
 (.seq (.block 1 (.ops (.m 37 5<|
.m 38 37<|
.gO 38 false (.p 39 [0, 38] y13<|
.p 40 [0, 38] y13<|
.p 41 [1, 38] y16<|
.p 42 [40, 41, 38] (.iaddrS 13 (.t 40) (.t 41))<|
.p 43 [42, 38] (.faddr 9 (.t 42))<|
.p 44 [43, 38] (.load none (.t 43))<|
.p 45 [6, 38] (.mov (.t 6))<|
.p 46 [44, 45, 38] (.iaddrS 11 (.t 44) (.t 45))<|
.p 47 [46, 38] (.faddr 1 (.t 46))<|
.op (some 48) .i [47, 38] (.load none (.t 47))<|
.op (some 49) .bool [39, 48, 38] (.call 312 [(.t 39), (.t 48)])<|
.nil) 50 38 49<|
.m 5 50<|
.nil)))
 (.ops (.m 35 6<|
.b 36 .add .none (.t 35) (.i 1)<|
.m 6 36<|
.nil))))
def A312 : XFn := ⟨52, y44, [(.tmp 4)], (C312_0 C312_1 C312_2)⟩
def C313_0 (cc1 : XC) (cc2 : XC) : XC := (.z (.c 2 y3<|
.nil)
 (.z (.c 3 V.nils<|
.nil)
 (.seq (.z (.q 4 0<|
.nil)
 (.block 0 (.loop [(0, .any), (3, .any), (4, .i)] [] [] cc2)))
 (.keep [] [] [] cc1))))
def C313_1 : XC := (.z (.c 2 y26<|
.nil)
 .ret)
def C313_2 (cc3 : XC) (cc4 : XC) : XC := (.seq (.z (.m 6 4<|
.m 7 0<|
.u 8 7<|
.b 9 .lss .none (.t 6) (.t 8)<|
.nil)
 y18)
 (.seq (.block 1 (.z (.q 5 0<|
.nil)
 (.block 2 (.loop [(0, .any), (3, .any), (4, .i), (5, .i)] [] [] cc4))))
 (.keep [(0, .any), (3, .any), (4, .i)] [] [] cc3)))
def C313_3 : XC := y22
def C313_4 : XC := (.seq (.z (.m 12 5<|
.m 13 0<|
.m 14 4<|
.s 15 1 13 14<|
.l 16 .any 15<|
.u 17 16<|
.b 18 .lss .none (.t 12) (.t 17)<|
.nil)
 (.cond (.tmp 18) .skip
 (.exit 2)))
 (.seq (.block 3 (.seq (.z (.m 21 3<|
.m 22 0<|
.m 23 4<|
.s 24 1 22 23<|
.l 25 .any 24<|
.m 26 5<|
.s 27 2 25 26<|
.O 28 y15 (.load (some 2) (.t 27))<|
.k 29 .bool 295 [(.t 21), (.t 28)]<|
.nil)
 (.cond (.tmp 29) (.z (.c 2 y3<|
.nil)
 .ret)
 .skip))
 (.ops (.m 30 3<|
.m 31 0<|
.m 32 4<|
.s 33 1 31 32<|
.l 34 .any 33<|
.m 35 5<|
.s 36 2 34 35<|
.O 37 y15 (.load (some 2) (.t 36))<|
.p 38 [37] (.buildSlice 253 1 [y0, y0] [(0, 2, (.t 37))])<|
.O 39 .one (.append 253 2 16 (.t 30) (.t 38))<|
.m 3 39<|
.nil))))
 (.ops (.m 19 5<|
.b 20 .add .none (.t 19) (.i 1)<|
.m 5 20<|
.nil))))
def A313 : XFn := ⟨40, [.any], [(.tmp 2)], (C313_0 C313_1 (C313_2 C313_3 C313_4))⟩
end
noncomputable section
def glob : Nat → Bool := fun g => Nat.blt g 2
theorem follows : Tryz.prog.follows .mixedOrders = true := by kernel_rfl
def Is (f : Nat) (A : XFn) : Prop := ∃ fn, Tryz.prog.funcs[f]? = some fn ∧ compF Tryz.prog glob fn = some A.strip ∧ A.body.ok = true ∧ callOk Tryz.prog f = true
theorem Is.sound {f : Nat} {A : XFn} (h : Is f A) (E : List (Nat × Blk)) (D : Den) (hD : ∀ f, SoundFn Tryz.prog E glob f (D f)) (N : Nat) : SoundFn Tryz.prog E glob f (runX E D (drawW E D) N A) :=
 let ⟨_, h1, h2, h3, h4⟩ := h
 runX_ok hD (drawW_ok hD follows) follows N h1 h2 rfl h3 h4
theorem Is.sf {f : Nat} {A : XFn} (h : Is f A) {E : List (Nat × Blk)} {D : Den} (hD : ∀ f, SoundFn Tryz.prog E glob f (D f)) {N : Nat} {F : List V → H → Ans} (he : ∀ args σ, runX E D (drawW E D) N A args σ = F args σ) : SoundFn Tryz.prog E glob f F := by
 have h1 := h.sound E D hD N
 rwa [show runX E D (drawW E D) N A = F from funext fun a => funext fun s => he a s] at h1
abbrev Snd (f : Nat) (F : List (Nat × Blk) → Den → DrawFn → Nat → List V → H → Ans) : Prop := ∀ (E : List (Nat × Blk)) (D : Den), (∀ f, SoundFn Tryz.prog E glob f (D f)) → ∀ N, SoundFn Tryz.prog E glob f (F E D (drawW E D) N)
def tab : List (Nat × XFn) := [(13, A13), (29, A29), (31, A31), (34, A34), (35, A35), (37, A37), (49, A49), (56, A56), (57, A57), (58, A58), (59, A59), (60, A60), (62, A62), (63, A63), (64, A64), (67, A67), (68, A68), (71, A71), (72, A72), (84, A84), (98, A98), (104, A104), (113, A113), (117, A117), (118, A118), (119, A119), (120, A120), (121, A121), (122, A122), (123, A123), (124, A124), (125, A125), (127, A127), (136, A136), (137, A137), (140, A140), (141, A141), (150, A150), (154, A154), (155, A155), (158, A158), (159, A159), (160, A160), (184, A184), (185, A185), (199, A199), (205, A205), (206, A206), (207, A207), (208, A208), (209, A209), (210, A210), (213, A213), (214, A214), (215, A215), (216, A216), (218, A218), (220, A220), (221, A221), (223, A223), (230, A230), (231, A231), (233, A233), (235, A235), (236, A236), (237, A237), (239, A239), (243, A243), (249, A249), (263, A263), (274, A274), (276, A276), (279, A279), (290, A290), (295, A295), (301, A301), (302, A302), (310, A310), (312, A312), (313, A313)]
theorem tab_is : ∀ p ∈ tab, Is p.1 p.2 := by
 unfold tab
 simp only [List.forall_mem_cons]
 exact ⟨⟨_, Tryz.func13, by kernel_rfl, by kernel_rfl, by kernel_rfl⟩,
  ⟨_, Tryz.func29, by kernel_rfl, by kernel_rfl, by kernel_rfl⟩,
  ⟨_, Tryz.func31, by kernel_rfl, by kernel_rfl, by kernel_rfl⟩,
  ⟨_, Tryz.func34, by kernel_rfl, by kernel_rfl, by kernel_rfl⟩,
  ⟨_, Tryz.func35, by kernel_rfl, by kernel_rfl, by kernel_rfl⟩,
  ⟨_, Tryz.func37, by kernel_rfl, by kernel_rfl, by kernel_rfl⟩,
  ⟨_, Tryz.func49, by kernel_rfl, by kernel_rfl, by kernel_rfl⟩,
  ⟨_, Tryz.func56, by kernel_rfl, by kernel_rfl, by kernel_rfl⟩,
  ⟨_, Tryz.func57, by kernel_rfl, by kernel_rfl, by kernel_rfl⟩,
  ⟨_, Tryz.func58, by kernel_rfl, by kernel_rfl, by kernel_rfl⟩,
  ⟨_, Tryz.func59, by kernel_rfl, by kernel_rfl, by kernel_rfl⟩,
  ⟨_, Tryz.func60, by kernel_rfl, by kernel_rfl, by kernel_rfl⟩,
  ⟨_, Tryz.func62, by kernel_rfl, by kernel_rfl, by kernel_rfl⟩,
  ⟨_, Tryz.func63, by kernel_rfl, by kernel_rfl, by kernel_rfl⟩,
  ⟨_, Tryz.func64, by kernel_rfl, by kernel_rfl, by kernel_rfl⟩,
  ⟨_, Tryz.func67, by kernel_rfl, by kernel_rfl, by kernel_rfl⟩,
  ⟨_, Tryz.func68, by kernel_rfl, by kernel_rfl, by kernel_rfl⟩,
  ⟨_, Tryz.func71, by kernel_rfl, by kernel_rfl, by kernel_rfl⟩,
  ⟨_, Tryz.func72, by kernel_rfl, by kernel_rfl, by kernel_rfl⟩,
  ⟨_, Tryz.func84, by kernel_rfl, by kernel_rfl, by kernel_rfl⟩,
  ⟨_, Tryz.func98, by kernel_rfl, by kernel_rfl, by kernel_rfl⟩,
  ⟨_, Tryz.func104, by kernel_rfl, by kernel_rfl, by kernel_rfl⟩,
  ⟨_, Tryz.func113, by kernel_rfl, by kernel_rfl, by kernel_rfl⟩,
  ⟨_, Tryz.func117, by kernel_rfl, by kernel_rfl, by kernel_rfl⟩,
  ⟨_, Tryz.func118, by kernel_rfl, by kernel_rfl, by kernel_rfl⟩,
  ⟨_, Tryz.func119, by kernel_rfl, by kernel_rfl, by kernel_rfl⟩,
  ⟨_, Tryz.func120, by kernel_rfl, by kernel_rfl, by kernel_rfl⟩,
  ⟨_, Tryz.func121, by kernel_rfl, by kernel_rfl, by kernel_rfl⟩,
  ⟨_, Tryz.func122, by kernel_rfl, by kernel_rfl, by kernel_rfl⟩,
  ⟨_, Tryz.func123, by kernel_rfl, by kernel_rfl, by kernel_rfl⟩,
  ⟨_, Tryz.func124, by kernel_rfl, by kernel_rfl, by kernel_rfl⟩,
  ⟨_, Tryz.func125, by kernel_rfl, by kernel_rfl, by kernel_rfl⟩,
  ⟨_, Tryz.func127, by kernel_rfl, by kernel_rfl, by kernel_rfl⟩,
  ⟨_, Tryz.func136, by kernel_rfl, by kernel_rfl, by kernel_rfl⟩,
  ⟨_, Tryz.func137, by kernel_rfl, by kernel_rfl, by kernel_rfl⟩,
  ⟨_, Tryz.func140, by kernel_rfl, by kernel_rfl, by kernel_rfl⟩,
  ⟨_, Tryz.func141, by kernel_rfl, by kernel_rfl, by kernel_rfl⟩,
  ⟨_, Tryz.func150, by kernel_rfl, by kernel_rfl, by kernel_rfl⟩,
  ⟨_, Tryz.func154, by kernel_rfl, by kernel_rfl, by kernel_rfl⟩,
  ⟨_, Tryz.func155, by kernel_rfl, by kernel_rfl, by kernel_rfl⟩,
  ⟨_, Tryz.func158, by kernel_rfl, by kernel_rfl, by kernel_rfl⟩,
  ⟨_, Tryz.func159, by kernel_rfl, by kernel_rfl, by kernel_rfl⟩,
  ⟨_, Tryz.func160, by kernel_rfl, by kernel_rfl, by kernel_rfl⟩,
  ⟨_, Tryz.func184, by kernel_rfl, by kernel_rfl, by kernel_rfl⟩,
  ⟨_, Tryz.func185, by kernel_rfl, by kernel_rfl, by kernel_rfl⟩,
  ⟨_, Tryz.func199, by kernel_rfl, by kernel_rfl, by kernel_rfl⟩,
  ⟨_, Tryz.func205, by kernel_rfl, by kernel_rfl, by kernel_rfl⟩,
  ⟨_, Tryz.func206, by kernel_rfl, by kernel_rfl, by kernel_rfl⟩,
  ⟨_, Tryz.func207, by kernel_rfl, by kernel_rfl, by kernel_rfl⟩,
  ⟨_, Tryz.func208, by kernel_rfl, by kernel_rfl, by kernel_rfl⟩,
  ⟨_, Tryz.func209, by kernel_rfl, by kernel_rfl, by kernel_rfl⟩,
  ⟨_, Tryz.func210, by kernel_rfl, by kernel_rfl, by kernel_rfl⟩,
  ⟨_, Tryz.func213, by kernel_rfl, by kernel_rfl, by kernel_rfl⟩,
  ⟨_, Tryz.func214, by kernel_rfl, by kernel_rfl, by kernel_rfl⟩,
  ⟨_, Tryz.func215, by kernel_rfl, by kernel_rfl, by kernel_rfl⟩,
  ⟨_, Tryz.func216, by kernel_rfl, by kernel_rfl, by kernel_rfl⟩,
  ⟨_, Tryz.func218, by kernel_rfl, by kernel_rfl, by kernel_rfl⟩,
  ⟨_, Tryz.func220, by kernel_rfl, by kernel_rfl, by kernel_rfl⟩,
  ⟨_, Tryz.func221, by kernel_rfl, by kernel_rfl, by kernel_rfl⟩,
  ⟨_, Tryz.func223, by kernel_rfl, by kernel_rfl, by kernel_rfl⟩,
  ⟨_, Tryz.func230, by kernel_rfl, by kernel_rfl, by kernel_rfl⟩,
  ⟨_, Tryz.func231, by kernel_rfl, by kernel_rfl, by kernel_rfl⟩,
  ⟨_, Tryz.func233, by kernel_rfl, by kernel_rfl, by kernel_rfl⟩,
  ⟨_, Tryz.func235, by kernel_rfl, by kernel_rfl, by kernel_rfl⟩,
  ⟨_, Tryz.func236, by kernel_rfl, by kernel_rfl, by kernel_rfl⟩,
  ⟨_, Tryz.func237, by kernel_rfl, by kernel_rfl, by kernel_rfl⟩,
  ⟨_, Tryz.func239, by kernel_rfl, by kernel_rfl, by kernel_rfl⟩,
  ⟨_, Tryz.func243, by kernel_rfl, by kernel_rfl, by kernel_rfl⟩,
  ⟨_, Tryz.func249, by kernel_rfl, by kernel_rfl, by kernel_rfl⟩,
  ⟨_, Tryz.func263, by kernel_rfl, by kernel_rfl, by kernel_rfl⟩,
  ⟨_, Tryz.func274, by kernel_rfl, by kernel_rfl, by kernel_rfl⟩,
  ⟨_, Tryz.func276, by kernel_rfl, by kernel_rfl, by kernel_rfl⟩,
  ⟨_, Tryz.func279, by kernel_rfl, by kernel_rfl, by kernel_rfl⟩,
  ⟨_, Tryz.func290, by kernel_rfl, by kernel_rfl, by kernel_rfl⟩,
  ⟨_, Tryz.func295, by kernel_rfl, by kernel_rfl, by kernel_rfl⟩,
  ⟨_, Tryz.func301, by kernel_rfl, by kernel_rfl, by kernel_rfl⟩,
  ⟨_, Tryz.func302, by kernel_rfl, by kernel_rfl, by kernel_rfl⟩,
  ⟨_, Tryz.func310, by kernel_rfl, by kernel_rfl, by kernel_rfl⟩,
  ⟨_, Tryz.func312, by kernel_rfl, by kernel_rfl, by kernel_rfl⟩,
  ⟨_, Tryz.func313, by kernel_rfl, by kernel_rfl, by kernel_rfl⟩, fun _ h => by cases h⟩
def lookA : List (Nat × XFn) → Nat → Option XFn := fun l n => List.rec none (fun p _ ih => match Nat.beq p.1 n with | true => some p.2 | false => ih) l
theorem lookA_mem : ∀ (l : List (Nat × XFn)) (n : Nat) (g : XFn), lookA l n = some g → (n, g) ∈ l
 | [], n, g, h => by cases h
 | p :: l, n, g, h => by
  have h' : (match Nat.beq p.1 n with | true => some p.2 | false => lookA l n) = some g := h
  cases hb : Nat.beq p.1 n with
  | true =>
   rw [hb] at h'
   simp only [Option.some.injEq] at h'
   have := Nat.eq_of_beq_eq_true hb
   subst this; subst h'
   exact List.mem_cons_self
  | false =>
   rw [hb] at h'
   exact List.mem_cons_of_mem _ (lookA_mem l n g h')
theorem SF10 : Snd 10 F10 := fun E D hD N => Is.sf ⟨_, Tryz.func10, by kernel_rfl, by kernel_rfl, by kernel_rfl⟩ hD (FE10 E D (drawW E D) N)
theorem SF15 : Snd 15 F15 := fun E D hD N => Is.sf ⟨_, Tryz.func15, by kernel_rfl, by kernel_rfl, by kernel_rfl⟩ hD (FE15 E D (drawW E D) N)
theorem SF20 : Snd 20 F20 := fun E D hD N => Is.sf ⟨_, Tryz.func20, by kernel_rfl, by kernel_rfl, by kernel_rfl⟩ hD (FE20 E D (drawW E D) N)
theorem SF21 : Snd 21 F21 := fun E D hD N => Is.sf ⟨_, Tryz.func21, by kernel_rfl, by kernel_rfl, by kernel_rfl⟩ hD (FE21 E D (drawW E D) N)
theorem SF22 : Snd 22 F22 := fun E D hD N => Is.sf ⟨_, Tryz.func22, by kernel_rfl, by kernel_rfl, by kernel_rfl⟩ hD (FE22 E D (drawW E D) N)
theorem SF23 : Snd 23 F23 := fun E D hD N => Is.sf ⟨_, Tryz.func23, by kernel_rfl, by kernel_rfl, by kernel_rfl⟩ hD (FE23 E D (drawW E D) N)
theorem SF32 : Snd 32 F32 := fun E D hD N => Is.sf ⟨_, Tryz.func32, by kernel_rfl, by kernel_rfl, by kernel_rfl⟩ hD (FE32 E D (drawW E D) N)
theorem SF36 : Snd 36 F36 := fun E D hD N => Is.sf ⟨_, Tryz.func36, by kernel_rfl, by kernel_rfl, by kernel_rfl⟩ hD (FE36 E D (drawW E D) N)
theorem SF38 : Snd 38 F38 := fun E D hD N => Is.sf ⟨_, Tryz.func38, by kernel_rfl, by kernel_rfl, by kernel_rfl⟩ hD (FE38 E D (drawW E D) N)
theorem SF39 : Snd 39 F39 := fun E D hD N => Is.sf ⟨_, Tryz.func39, by kernel_rfl, by kernel_rfl, by kernel_rfl⟩ hD (FE39 E D (drawW E D) N)
theorem SF40 : Snd 40 F40 := fun E D hD N => Is.sf ⟨_, Tryz.func40, by kernel_rfl, by kernel_rfl, by kernel_rfl⟩ hD (FE40 E D (drawW E D) N)
theorem SF41 : Snd 41 F41 := fun E D hD N => Is.sf ⟨_, Tryz.func41, by kernel_rfl, by kernel_rfl, by kernel_rfl⟩ hD (FE41 E D (drawW E D) N)
theorem SF42 : Snd 42 F42 := fun E D hD N => Is.sf ⟨_, Tryz.func42, by kernel_rfl, by kernel_rfl, by kernel_rfl⟩ hD (FE42 E D (drawW E D) N)
theorem SF43 : Snd 43 F43 := fun E D hD N => Is.sf ⟨_, Tryz.func43, by kernel_rfl, by kernel_rfl, by kernel_rfl⟩ hD (FE43 E D (drawW E D) N)
theorem SF44 : Snd 44 F44 := fun E D hD N => Is.sf ⟨_, Tryz.func44, by kernel_rfl, by kernel_rfl, by kernel_rfl⟩ hD (FE44 E D (drawW E D) N)
theorem SF45 : Snd 45 F45 := fun E D hD N => Is.sf ⟨_, Tryz.func45, by kernel_rfl, by kernel_rfl, by kernel_rfl⟩ hD (FE45 E D (drawW E D) N)
theorem SF50 : Snd 50 F50 := fun E D hD N => Is.sf ⟨_, Tryz.func50, by kernel_rfl, by kernel_rfl, by kernel_rfl⟩ hD (FE50 E D (drawW E D) N)
theorem SF51 : Snd 51 F51 := fun E D hD N => Is.sf ⟨_, Tryz.func51, by kernel_rfl, by kernel_rfl, by kernel_rfl⟩ hD (FE51 E D (drawW E D) N)
theorem SF52 : Snd 52 F52 := fun E D hD N => Is.sf ⟨_, Tryz.func52, by kernel_rfl, by kernel_rfl, by kernel_rfl⟩ hD (FE52 E D (drawW E D) N)
theorem SF65 : Snd 65 F65 := fun E D hD N => Is.sf ⟨_, Tryz.func65, by kernel_rfl, by kernel_rfl, by kernel_rfl⟩ hD (FE65 E D (drawW E D) N)
theorem SF66 : Snd 66 F66 := fun E D hD N => Is.sf ⟨_, Tryz.func66, by kernel_rfl, by kernel_rfl, by kernel_rfl⟩ hD (FE66 E D (drawW E D) N)
theorem SF69 : Snd 69 F69 := fun E D hD N => Is.sf ⟨_, Tryz.func69, by kernel_rfl, by kernel_rfl, by kernel_rfl⟩ hD (FE69 E D (drawW E D) N)
theorem SF70 : Snd 70 F70 := fun E D hD N => Is.sf ⟨_, Tryz.func70, by kernel_rfl, by kernel_rfl, by kernel_rfl⟩ hD (FE70 E D (drawW E D) N)
theorem SF74 : Snd 74 F74 := fun E D hD N => Is.sf ⟨_, Tryz.func74, by kernel_rfl, by kernel_rfl, by kernel_rfl⟩ hD (FE74 E D (drawW E D) N)
theorem SF75 : Snd 75 F75 := fun E D hD N => Is.sf ⟨_, Tryz.func75, by kernel_rfl, by kernel_rfl, by kernel_rfl⟩ hD (FE75 E D (drawW E D) N)
theorem SF77 : Snd 77 F77 := fun E D hD N => Is.sf ⟨_, Tryz.func77, by kernel_rfl, by kernel_rfl, by kernel_rfl⟩ hD (FE77 E D (drawW E D) N)
theorem SF78 : Snd 78 F78 := fun E D hD N => Is.sf ⟨_, Tryz.func78, by kernel_rfl, by kernel_rfl, by kernel_rfl⟩ hD (FE78 E D (drawW E D) N)
theorem SF85 : Snd 85 F85 := fun E D hD N => Is.sf ⟨_, Tryz.func85, by kernel_rfl, by kernel_rfl, by kernel_rfl⟩ hD (FE85 E D (drawW E D) N)
theorem SF86 : Snd 86 F86 := fun E D hD N => Is.sf ⟨_, Tryz.func86, by kernel_rfl, by kernel_rfl, by kernel_rfl⟩ hD (FE86 E D (drawW E D) N)
theorem SF87 : Snd 87 F87 := fun E D hD N => Is.sf ⟨_, Tryz.func87, by kernel_rfl, by kernel_rfl, by kernel_rfl⟩ hD (FE87 E D (drawW E D) N)
theorem SF99 : Snd 99 F99 := fun E D hD N => Is.sf ⟨_, Tryz.func99, by kernel_rfl, by kernel_rfl, by kernel_rfl⟩ hD (FE99 E D (drawW E D) N)
theorem SF100 : Snd 100 F100 := fun E D hD N => Is.sf ⟨_, Tryz.func100, by kernel_rfl, by kernel_rfl, by kernel_rfl⟩ hD (FE100 E D (drawW E D) N)
theorem SF101 : Snd 101 F101 := fun E D hD N => Is.sf ⟨_, Tryz.func101, by kernel_rfl, by kernel_rfl, by kernel_rfl⟩ hD (FE101 E D (drawW E D) N)
theorem SF102 : Snd 102 F102 := fun E D hD N => Is.sf ⟨_, Tryz.func102, by kernel_rfl, by kernel_rfl, by kernel_rfl⟩ hD (FE102 E D (drawW E D) N)
theorem SF103 : Snd 103 F103 := fun E D hD N => Is.sf ⟨_, Tryz.func103, by kernel_rfl, by kernel_rfl, by kernel_rfl⟩ hD (FE103 E D (drawW E D) N)
theorem SF106 : Snd 106 F106 := fun E D hD N => Is.sf ⟨_, Tryz.func106, by kernel_rfl, by kernel_rfl, by kernel_rfl⟩ hD (FE106 E D (drawW E D) N)
theorem SF107 : Snd 107 F107 := fun E D hD N => Is.sf ⟨_, Tryz.func107, by kernel_rfl, by kernel_rfl, by kernel_rfl⟩ hD (FE107 E D (drawW E D) N)
theorem SF109 : Snd 109 F109 := fun E D hD N => Is.sf ⟨_, Tryz.func109, by kernel_rfl, by kernel_rfl, by kernel_rfl⟩ hD (FE109 E D (drawW E D) N)
theorem SF110 : Snd 110 F110 := fun E D hD N => Is.sf ⟨_, Tryz.func110, by kernel_rfl, by kernel_rfl, by kernel_rfl⟩ hD (FE110 E D (drawW E D) N)
theorem SF114 : Snd 114 F114 := fun E D hD N => Is.sf ⟨_, Tryz.func114, by kernel_rfl, by kernel_rfl, by kernel_rfl⟩ hD (FE114 E D (drawW E D) N)
theorem SF115 : Snd 115 F115 := fun E D hD N => Is.sf ⟨_, Tryz.func115, by kernel_rfl, by kernel_rfl, by kernel_rfl⟩ hD (FE115 E D (drawW E D) N)
theorem SF116 : Snd 116 F116 := fun E D hD N => Is.sf ⟨_, Tryz.func116, by kernel_rfl, by kernel_rfl, by kernel_rfl⟩ hD (FE116 E D (drawW E D) N)
theorem SF131 : Snd 131 F131 := fun E D hD N => Is.sf ⟨_, Tryz.func131, by kernel_rfl, by kernel_rfl, by kernel_rfl⟩ hD (FE131 E D (drawW E D) N)
theorem SF132 : Snd 132 F132 := fun E D hD N => Is.sf ⟨_, Tryz.func132, by kernel_rfl, by kernel_rfl, by kernel_rfl⟩ hD (FE132 E D (drawW E D) N)
theorem SF134 : Snd 134 F134 := fun E D hD N => Is.sf ⟨_, Tryz.func134, by kernel_rfl, by kernel_rfl, by kernel_rfl⟩ hD (FE134 E D (drawW E D) N)
theorem SF138 : Snd 138 F138 := fun E D hD N => Is.sf ⟨_, Tryz.func138, by kernel_rfl, by kernel_rfl, by kernel_rfl⟩ hD (FE138 E D (drawW E D) N)
theorem SF139 : Snd 139 F139 := fun E D hD N => Is.sf ⟨_, Tryz.func139, by kernel_rfl, by kernel_rfl, by kernel_rfl⟩ hD (FE139 E D (drawW E D) N)
theorem SF147 : Snd 147 F147 := fun E D hD N => Is.sf ⟨_, Tryz.func147, by kernel_rfl, by kernel_rfl, by kernel_rfl⟩ hD (FE147 E D (drawW E D) N)
theorem SF148 : Snd 148 F148 := fun E D hD N => Is.sf ⟨_, Tryz.func148, by kernel_rfl, by kernel_rfl, by kernel_rfl⟩ hD (FE148 E D (drawW E D) N)
theorem SF149 : Snd 149 F149 := fun E D hD N => Is.sf ⟨_, Tryz.func149, by kernel_rfl, by kernel_rfl, by kernel_rfl⟩ hD (FE149 E D (drawW E D) N)
theorem SF151 : Snd 151 F151 := fun E D hD N => Is.sf ⟨_, Tryz.func151, by kernel_rfl, by kernel_rfl, by kernel_rfl⟩ hD (FE151 E D (drawW E D) N)
theorem SF162 : Snd 162 F162 := fun E D hD N => Is.sf ⟨_, Tryz.func162, by kernel_rfl, by kernel_rfl, by kernel_rfl⟩ hD (FE162 E D (drawW E D) N)
theorem SF163 : Snd 163 F163 := fun E D hD N => Is.sf ⟨_, Tryz.func163, by kernel_rfl, by kernel_rfl, by kernel_rfl⟩ hD (FE163 E D (drawW E D) N)
theorem SF182 : Snd 182 F182 := fun E D hD N => Is.sf ⟨_, Tryz.func182, by kernel_rfl, by kernel_rfl, by kernel_rfl⟩ hD (FE182 E D (drawW E D) N)
theorem SF183 : Snd 183 F183 := fun E D hD N => Is.sf ⟨_, Tryz.func183, by kernel_rfl, by kernel_rfl, by kernel_rfl⟩ hD (FE183 E D (drawW E D) N)
theorem SF189 : Snd 189 F189 := fun E D hD N => Is.sf ⟨_, Tryz.func189, by kernel_rfl, by kernel_rfl, by kernel_rfl⟩ hD (FE189 E D (drawW E D) N)
theorem SF190 : Snd 190 F190 := fun E D hD N => Is.sf ⟨_, Tryz.func190, by kernel_rfl, by kernel_rfl, by kernel_rfl⟩ hD (FE190 E D (drawW E D) N)
theorem SF191 : Snd 191 F191 := fun E D hD N => Is.sf ⟨_, Tryz.func191, by kernel_rfl, by kernel_rfl, by kernel_rfl⟩ hD (FE191 E D (drawW E D) N)
theorem SF201 : Snd 201 F201 := fun E D hD N => Is.sf ⟨_, Tryz.func201, by kernel_rfl, by kernel_rfl, by kernel_rfl⟩ hD (FE201 E D (drawW E D) N)
theorem SF202 : Snd 202 F202 := fun E D hD N => Is.sf ⟨_, Tryz.func202, by kernel_rfl, by kernel_rfl, by kernel_rfl⟩ hD (FE202 E D (drawW E D) N)
theorem SF203 : Snd 203 F203 := fun E D hD N => Is.sf ⟨_, Tryz.func203, by kernel_rfl, by kernel_rfl, by kernel_rfl⟩ hD (FE203 E D (drawW E D) N)
theorem SF204 : Snd 204 F204 := fun E D hD N => Is.sf ⟨_, Tryz.func204, by kernel_rfl, by kernel_rfl, by kernel_rfl⟩ hD (FE204 E D (drawW E D) N)
theorem SF234 : Snd 234 F234 := fun E D hD N => Is.sf ⟨_, Tryz.func234, by kernel_rfl, by kernel_rfl, by kernel_rfl⟩ hD (FE234 E D (drawW E D) N)
theorem SF244 : Snd 244 F244 := fun E D hD N => Is.sf ⟨_, Tryz.func244, by kernel_rfl, by kernel_rfl, by kernel_rfl⟩ hD (FE244 E D (drawW E D) N)
theorem SF260 : Snd 260 F260 := fun E D hD N => Is.sf ⟨_, Tryz.func260, by kernel_rfl, by kernel_rfl, by kernel_rfl⟩ hD (FE260 E D (drawW E D) N)
theorem SF261 : Snd 261 F261 := fun E D hD N => Is.sf ⟨_, Tryz.func261, by kernel_rfl, by kernel_rfl, by kernel_rfl⟩ hD (FE261 E D (drawW E D) N)
theorem SF262 : Snd 262 F262 := fun E D hD N => Is.sf ⟨_, Tryz.func262, by kernel_rfl, by kernel_rfl, by kernel_rfl⟩ hD (FE262 E D (drawW E D) N)
theorem SF268 : Snd 268 F268 := fun E D hD N => Is.sf ⟨_, Tryz.func268, by kernel_rfl, by kernel_rfl, by kernel_rfl⟩ hD (FE268 E D (drawW E D) N)
theorem SF273 : Snd 273 F273 := fun E D hD N => Is.sf ⟨_, Tryz.func273, by kernel_rfl, by kernel_rfl, by kernel_rfl⟩ hD (FE273 E D (drawW E D) N)
theorem SF289 : Snd 289 F289 := fun E D hD N => Is.sf ⟨_, Tryz.func289, by kernel_rfl, by kernel_rfl, by kernel_rfl⟩ hD (FE289 E D (drawW E D) N)
theorem SF297 : Snd 297 F297 := fun E D hD N => Is.sf ⟨_, Tryz.func297, by kernel_rfl, by kernel_rfl, by kernel_rfl⟩ hD (FE297 E D (drawW E D) N)
def ftab (E : List (Nat × Blk)) (N : Nat) (D : Den) : List (Nat × (List V → H → Ans)) := [(10, F10 E D (drawW E D) N), (15, F15 E D (drawW E D) N), (20, F20 E D (drawW E D) N), (21, F21 E D (drawW E D) N), (22, F22 E D (drawW E D) N), (23, F23 E D (drawW E D) N), (32, F32 E D (drawW E D) N), (36, F36 E D (drawW E D) N), (38, F38 E D (drawW E D) N), (39, F39 E D (drawW E D) N), (40, F40 E D (drawW E D) N), (41, F41 E D (drawW E D) N), (42, F42 E D (drawW E D) N), (43, F43 E D (drawW E D) N), (44, F44 E D (drawW E D) N), (45, F45 E D (drawW E D) N), (50, F50 E D (drawW E D) N), (51, F51 E D (drawW E D) N), (52, F52 E D (drawW E D) N), (65, F65 E D (drawW E D) N), (66, F66 E D (drawW E D) N), (69, F69 E D (drawW E D) N), (70, F70 E D (drawW E D) N), (74, F74 E D (drawW E D) N), (75, F75 E D (drawW E D) N), (77, F77 E D (drawW E D) N), (78, F78 E D (drawW E D) N), (85, F85 E D (drawW E D) N), (86, F86 E D (drawW E D) N), (87, F87 E D (drawW E D) N), (99, F99 E D (drawW E D) N), (100, F100 E D (drawW E D) N), (101, F101 E D (drawW E D) N), (102, F102 E D (drawW E D) N), (103, F103 E D (drawW E D) N), (106, F106 E D (drawW E D) N), (107, F107 E D (drawW E D) N), (109, F109 E D (drawW E D) N), (110, F110 E D (drawW E D) N), (114, F114 E D (drawW E D) N), (115, F115 E D (drawW E D) N), (116, F116 E D (drawW E D) N), (131, F131 E D (drawW E D) N), (132, F132 E D (drawW E D) N), (134, F134 E D (drawW E D) N), (138, F138 E D (drawW E D) N), (139, F139 E D (drawW E D) N), (147, F147 E D (drawW E D) N), (148, F148 E D (drawW E D) N), (149, F149 E D (drawW E D) N), (151, F151 E D (drawW E D) N), (162, F162 E D (drawW E D) N), (163, F163 E D (drawW E D) N), (182, F182 E D (drawW E D) N), (183, F183 E D (drawW E D) N), (189, F189 E D (drawW E D) N), (190, F190 E D (drawW E D) N), (191, F191 E D (drawW E D) N), (201, F201 E D (drawW E D) N), (202, F202 E D (drawW E D) N), (203, F203 E D (drawW E D) N), (204, F204 E D (drawW E D) N), (234, F234 E D (drawW E D) N), (244, F244 E D (drawW E D) N), (260, F260 E D (drawW E D) N), (261, F261 E D (drawW E D) N), (262, F262 E D (drawW E D) N), (268, F268 E D (drawW E D) N), (273, F273 E D (drawW E D) N), (289, F289 E D (drawW E D) N), (297, F297 E D (drawW E D) N)]
def BD (E : List (Nat × Blk)) (N : Nat) (D : Den) : Den := fun f => match lookF (ftab E N D) f with
 | some g => g
 | none => match lookA tab f with
  | some g => runX E D (drawW E D) N g
  | none => fun _ _ => none
theorem BD_ok (E : List (Nat × Blk)) (N : Nat) (D : Den) (hD : ∀ f, SoundFn Tryz.prog E glob f (D f)) (f : FuncId) : SoundFn Tryz.prog E glob f (BD E N D f) := by
 have hall : ∀ p ∈ ftab E N D, SoundFn Tryz.prog E glob p.1 p.2 := by
  unfold ftab
  simp only [List.forall_mem_cons]
  exact ⟨SF10 E _ hD N, SF15 E _ hD N, SF20 E _ hD N, SF21 E _ hD N, SF22 E _ hD N, SF23 E _ hD N, SF32 E _ hD N, SF36 E _ hD N, SF38 E _ hD N, SF39 E _ hD N, SF40 E _ hD N, SF41 E _ hD N, SF42 E _ hD N, SF43 E _ hD N, SF44 E _ hD N, SF45 E _ hD N, SF50 E _ hD N, SF51 E _ hD N, SF52 E _ hD N, SF65 E _ hD N, SF66 E _ hD N, SF69 E _ hD N, SF70 E _ hD N, SF74 E _ hD N, SF75 E _ hD N, SF77 E _ hD N, SF78 E _ hD N, SF85 E _ hD N, SF86 E _ hD N, SF87 E _ hD N, SF99 E _ hD N, SF100 E _ hD N, SF101 E _ hD N, SF102 E _ hD N, SF103 E _ hD N, SF106 E _ hD N, SF107 E _ hD N, SF109 E _ hD N, SF110 E _ hD N, SF114 E _ hD N, SF115 E _ hD N, SF116 E _ hD N, SF131 E _ hD N, SF132 E _ hD N, SF134 E _ hD N, SF138 E _ hD N, SF139 E _ hD N, SF147 E _ hD N, SF148 E _ hD N, SF149 E _ hD N, SF151 E _ hD N, SF162 E _ hD N, SF163 E _ hD N, SF182 E _ hD N, SF183 E _ hD N, SF189 E _ hD N, SF190 E _ hD N, SF191 E _ hD N, SF201 E _ hD N, SF202 E _ hD N, SF203 E _ hD N, SF204 E _ hD N, SF234 E _ hD N, SF244 E _ hD N, SF260 E _ hD N, SF261 E _ hD N, SF262 E _ hD N, SF268 E _ hD N, SF273 E _ hD N, SF289 E _ hD N, SF297 E _ hD N, fun _ h => by cases h⟩
 unfold BD
 split
 ·rename_i g hg
  rw [lookF_eq] at hg
  exact hall _ (look_mem hg)
 ·split
  ·rename_i g hg
   exact (tab_is _ (lookA_mem _ _ _ hg)).sound E _ hD N
  ·intro C _ _ R σ w args xs v σ' h; cases h
def DT (E : List (Nat × Blk)) (N : Nat) (d : Nat) : Den := Nat.rec (fun _ _ _ => none) (fun _ ih => BD E N ih) d
theorem DT_ok (E : List (Nat × Blk)) (N : Nat) : ∀ (d : Nat) (f : FuncId), SoundFn Tryz.prog E glob f (DT E N d f) := by
 intro d
 induction d with
 | zero => intro f C _ _ R σ w args xs v σ' h; cases h
 | succ d ih => exact BD_ok E N _ ih
theorem globLt : ∀ g, glob g = true → g < 2 := fun g hg => by simpa [glob] using hg
end
end Go.Proofs.YtgjjnbddbbhloaaGreatDoor
set_option linter.all false
namespace Go.Og
noncomputable section
theorem ble_of {a b : Nat} (h : a ≤ b) : Nat.ble a b = true := by rw [Nat.ble_eq]; exact h
def Atc (σ : H) (b : Nat) (l : List V) : Prop := lookF σ.bl b = some (.cells l)
def Tidy (σ : H) : Prop := ∀ b, σ.next ≤ b → lookF σ.bl b = none
structure Fr (S : Nat → Prop) (σ σ' : H) : Prop where
 tidy : Tidy σ'
 le : σ.next ≤ σ'.next
 same : ∀ b, b < σ.next → ¬ S b → lookF σ'.bl b = lookF σ.bl b
def Nowhere : Nat → Prop := fun _ => False
def Names (v : V) (b : Nat) : Prop := match v with
 | .sl b' _ _ _ => b = b'
 | _ => False
section
variable {E : List (Nat × Blk)} {σ σ' σ'' : H} {b b' : Nat} {l m : List V} {S T : Nat → Prop}
theorem Atc.lt (h : Atc σ b l) (ht : Tidy σ) : b < σ.next := by
 rcases Nat.lt_or_ge b σ.next with hl | hl
 ·exact hl
 ·have := ht b hl; rw [show lookF σ.bl b = some (.cells l) from h] at this; cases this
theorem Fr.refl (ht : Tidy σ) : Fr S σ σ := ⟨ht, Nat.le_refl _, fun _ _ _ => rfl⟩
theorem Fr.mono (h : Fr S σ σ') (hs : ∀ b, b < σ.next → S b → T b) : Fr T σ σ' := ⟨h.tidy, h.le, fun b hb hn => h.same b hb fun hS => hn (hs b hb hS)⟩
theorem Fr.trans (h : Fr S σ σ') (k : Fr T σ' σ'') (hT : ∀ b, b < σ.next → T b → S b) : Fr S σ σ'' :=
 ⟨k.tidy, Nat.le_trans h.le k.le, fun b hb hn => (k.same b (Nat.lt_of_lt_of_le hb h.le) fun hT' => hn (hT b hb hT')).trans (h.same b hb hn)⟩
theorem Fr.at_ (h : Fr S σ σ') (ha : Atc σ b l) (ht : Tidy σ) (hn : ¬ S b) : Atc σ' b l := (h.same b (ha.lt ht) hn).trans ha
theorem lookF_setF (c : Blk) (k : Nat) : lookF (setF σ b c).bl k = if b = k then some c else lookF σ.bl k := by
 rw [lookF_eq, lookF_eq]; exact look_setF σ b c k
theorem Atc_setF (m : List V) : Atc (setF σ b (.cells m)) b m := by
 show lookF _ _ = _
 rw [lookF_setF, if_pos rfl]
theorem Fr.set (ht : Tidy σ) (hb : b < σ.next) (c : Blk) : Fr (fun k => k = b) σ (setF σ b c) := by
 refine ⟨fun k hk => ?_, Nat.le_refl _, fun k hk hn => ?_⟩
 ·have hk' : σ.next ≤ k := hk
  rw [lookF_setF, if_neg (by omega)]; exact ht k hk'
 ·rw [lookF_setF, if_neg (fun h => hn h.symm)]
theorem Atc_newB (l : List V) : Atc (newB σ (.cells l)) σ.next l := by
 show lookF ((σ.next, Blk.cells l) :: σ.bl) _ = _
 rw [lookF_cons, if_pos rfl]
theorem Fr.new (ht : Tidy σ) (c : Blk) : Fr S σ (newB σ c) := by
 refine ⟨fun k hk => ?_, Nat.le_succ _, fun k hk hn => ?_⟩
 ·have hk' : σ.next + 1 ≤ k := hk
  show lookF ((σ.next, c) :: σ.bl) _ = _
  rw [lookF_cons, if_neg (by omega)]; exact ht k (by omega)
 ·show lookF ((σ.next, c) :: σ.bl) _ = _
  rw [lookF_cons, if_neg (by omega)]
theorem rdK_at {κ : List V → Ans} (h : Atc σ b l) : rdK E σ b κ = κ l := by unfold rdK; rw [show lookF σ.bl b = some (.cells l) from h]
theorem nthK_of {κ : V → Ans} {o : Nat} {v : V} (h : nthF l o = some v) : nthK l o κ = κ v := by unfold nthK; rw [h]
theorem ldK_at {κ : V → Ans} {o : Nat} {v : V} (h : Atc σ b l) (hv : nthF l o = some v) : ldK E σ b o κ = κ v := (rdK_at h).trans (nthK_of hv)
theorem ldK_get {κ : V → Ans} {o : Nat} {v : V} (h : Atc σ b l) (hv : l[o]? = some v) : ldK E σ b o κ = κ v := ldK_at h (by rw [nthF_eq]; exact hv)
theorem subK_of {κ : List V → Ans} {o n : Nat} (h : o + n ≤ l.length) : subK l o n κ = κ ((l.drop o).take n) := by
 unfold subK; rw [show Nat.ble (Nat.add o n) l.length = true from ble_of h]
theorem chk_true {c : Bool} {a : Ans} (h : c = true) : chk c a = a := by rw [h]; rfl
theorem stK_at {κ : H → Ans} {n o : Nat} {v : V} (h : Atc σ b l) (hc : (Nat.beq v.cells.length n && Nat.ble (Nat.add o n) l.length && allOne v.cells) = true) : stK n b o v σ κ = κ (setF σ b (.cells (spl l o v.cells))) := by
 unfold stK; rw [show lookF σ.bl b = some (.cells l) from h]; exact chk_true hc
theorem ltF_nat (m n : Nat) : ltF (Int.ofNat m) (Int.ofNat n) = decide (m < n) := by
 rw [ltF_eq]; simp
theorem leF_nat (m n : Nat) : leF (Int.ofNat m) (Int.ofNat n) = decide (m ≤ n) := by
 rw [leF_eq]; simp
theorem eqF_nat (m n : Nat) : eqF (Int.ofNat m) (Int.ofNat n) = decide (m = n) := by
 rw [eqF_eq]; rw [Bool.eq_iff_iff]; simp only [beq_iff_eq, decide_eq_true_eq]; exact ⟨fun h => Int.ofNat.inj h, fun h => by rw [h]⟩
theorem wrapF_nat {k : IntKind} {m : Nat} (h : m ≤ maxN k) : wrapF k (Int.ofNat m) = Int.ofNat m :=
 (wrapF_eq _ _).trans (wrap_in (show Nat.ble m (maxN k) = true from ble_of h))
theorem addF_nat {m n : Nat} (h : m + n ≤ 9223372036854775807) : addF .i64 (Int.ofNat m) (Int.ofNat n) = Int.ofNat (m + n) := by
 exact wrapF_nat (k := .i64) (m := m + n) h
theorem subF_nat {m n : Nat} (h : n ≤ m) (hm : m ≤ 9223372036854775807) : subF .i64 (Int.ofNat m) (Int.ofNat n) = Int.ofNat (m - n) := by
 have e : Int.sub (Int.ofNat m) (Int.ofNat n) = Int.ofNat (m - n) := by
  show (m : Int) - (n : Int) = ((m - n : Nat) : Int)
  omega
 show wrapF .i64 (Int.sub (Int.ofNat m) (Int.ofNat n)) = _
 rw [e]
 exact wrapF_nat (k := .i64) (show m - n ≤ 9223372036854775807 by omega)
def Sl (σ : H) (esz k : Nat) (v : V) (l : List V) : Prop := (k = 0 ∧ v = .nils ∧ l = []) ∨ (∃ b, v = .sl b 0 k (.op esz) ∧ Atc σ b l ∧ 0 < k ∧ l.length = k * esz)
theorem Sl.nil (σ : H) (esz : Nat) : Sl σ esz 0 .nils [] := .inl ⟨rfl, rfl, rfl⟩
theorem Sl.length {esz k : Nat} {v : V} (h : Sl σ esz k v l) : l.length = k * esz := by
 rcases h with ⟨rfl, _, rfl⟩ | ⟨b, _, _, _, h⟩
 ·simp
 ·exact h
theorem Sl.fr {esz k : Nat} {v : V} (h : Sl σ esz k v l) (f : Fr S σ σ') (ht : Tidy σ) (hn : ∀ b, Names v b → ¬ S b) : Sl σ' esz k v l := by
 rcases h with h | ⟨b, rfl, ha, hk, hl⟩
 ·exact .inl h
 ·exact .inr ⟨b, rfl, f.at_ ha ht (hn b rfl), hk, hl⟩
theorem Sl.one {esz k : Nat} {v : V} (h : Sl σ esz k v l) : v.one = true := by
 rcases h with ⟨_, rfl, _⟩ | ⟨b, rfl, _⟩ <;> rfl
theorem Sl.slen {esz k : Nat} {v : V} {κ : Nat → Ans} (h : Sl σ esz k v l) : slenK v κ = κ k := by
 rcases h with ⟨rfl, rfl, _⟩ | ⟨b, rfl, _⟩ <;> rfl
theorem Sl.lt {esz k : Nat} {v : V} (h : Sl σ esz k v l) (ht : Tidy σ) (hb : Names v b) : b < σ.next := by
 rcases h with ⟨_, rfl, _⟩ | ⟨c, rfl, ha, _⟩
 ·exact hb.elim
 ·cases hb; exact ha.lt ht
theorem srcK_ex {esz n xb xo : Nat} {c' : Cap} {κ : Nat → List V → Ans} (h : Atc σ xb m) (hl : xo + n * esz ≤ m.length) : srcK E σ esz (.sl xb xo n c') κ = κ n ((m.drop xo).take (n * esz)) :=
 (rdK_at h).trans (subK_of hl)
theorem rtOne_sl {b o n : Nat} {c : Cap} {a : Ans} : rtOne (.sl b o n c) a = a := rfl
theorem iaddrSK_lt {esz b o n i : Nat} {c : Cap} {κ : Nat → Nat → Ans} (h : i < n) : iaddrSK esz (.sl b o n c) (Int.ofNat i) κ = κ b (Nat.add o (Nat.mul i esz)) := by
 show chk (Nat.blt i n) _ = _
 exact chk_true (by simpa [Nat.blt_eq] using h)
theorem lookF_drop (l : List (Nat × Blk)) (id id' : Nat) : lookF (drop l id) id' = if id = id' then none else lookF l id' := by
 rw [lookF_eq, lookF_eq]; exact look_drop l id id'
end
theorem rtInt_int (k : IntKind) (n : Int) (κ : Int → Ans) : rtInt k (.int k n) κ = κ n := by simp [rtInt]
theorem rtBool_bool (b : Bool) (κ : Bool → Ans) : rtBool (.bool b) κ = κ b := rfl
theorem rtStr_str (s : BS) (κ : BS → Ans) : rtStr (.str s) κ = κ s := rfl
theorem rtPtr_ptr (b o : Nat) (κ : Nat → Nat → Ans) : rtPtr (.ptr b o) κ = κ b o := rfl
theorem rtAgg_agg (l : List V) (κ : List V → Ans) : rtAgg (.agg l) κ = κ l := rfl
theorem rtTup_tup (l : List V) (κ : List V → Ans) : rtTup (.tup l) κ = κ l := rfl
theorem rtCons_cons (v : V) (l : List V) (κ : V → List V → Ans) : rtCons (v :: l) κ = κ v l := rfl
theorem rtNil_nil (a : Ans) : rtNil [] a = a := rfl
theorem callK_some_ (v : V) (σ : H) (κ : V → H → Ans) : callK (some (v, σ)) κ = κ v σ := rfl
theorem joinB_ (f : Bool → H → Ans) (g : (Bool → H → Ans) → Ans) : joinB f g = g f := rfl
def BS.nats (s : BS) : List Nat := s.toList.map UInt8.toNat
theorem BS.length_nats (s : BS) : s.nats.length = s.len := by simp [BS.nats, BS.length_toList]
theorem BS.nats_get {s : BS} {i : Nat} (h : i < s.len) : s.nats[i]? = some (s.get i) := by
 simp only [BS.nats, List.getElem?_map, BS.getElem?_toList, if_pos h, Option.map_some, UInt8.toNat_ofNat']
 rw [Nat.mod_eq_of_lt (s.get_lt i)]
theorem BS.nats_lt (s : BS) : ∀ c ∈ s.nats, c < 256 := by
 intro c hc
 simp only [BS.nats, List.mem_map] at hc
 obtain ⟨u, _, rfl⟩ := hc
 exact u.toNat_lt
theorem BS.nats_sub {s : BS} {lo hi : Nat} (h : hi ≤ s.len) : (s.sub lo hi).nats = (s.nats.drop lo).take (hi - lo) := by
 simp [BS.nats, BS.toList_sub h]
theorem nats_inj {l m : List UInt8} (h : l.map UInt8.toNat = m.map UInt8.toNat) : l = m := by
 have hm := congrArg (List.map UInt8.ofNat) h
 simpa [List.map_map, Function.comp_def] using hm
theorem BS.beq_nats (a b : BS) : a.beq b = decide (a.nats = b.nats) := by
 rw [BS.beq_eq]
 rw [Bool.eq_iff_iff]
 simp only [decide_eq_true_eq]
 exact ⟨fun h => by rw [BS.nats, h, ← BS.nats], fun h => nats_inj h⟩
def BS.canon (s : BS) : Prop := s.val < 2 ^ (8 * s.len)
theorem BS.canon_low {s : BS} (h : s.canon) : s.low = s.val := Nat.mod_eq_of_lt h
theorem BS.canon_ext {a b : BS} (ha : a.canon) (hb : b.canon) (h : a.nats = b.nats) : a = b := by
 have ht := nats_inj h
 obtain ⟨hl, hg⟩ := BS.get_eq ht
 have := (BS.low_eq hl).2 hg
 rw [BS.canon_low ha, BS.canon_low hb] at this
 cases a; cases b
 simp only [] at hl this
 subst hl; subst this; rfl
theorem BS.sub_canon (s : BS) (lo hi : Nat) : (s.sub lo hi).canon := Nat.mod_lt _ (Nat.pow_pos (by decide))
def ofN : List Nat → BS
 | [] => ⟨0, 0⟩
 | c :: l => ⟨Nat.succ (ofN l).len, Nat.add c (Nat.mul 256 (ofN l).val)⟩
theorem ofN_eq : ∀ {l : List Nat}, (∀ c ∈ l, c < 256) → ofN l = BS.ofList (l.map UInt8.ofNat)
 | [], _ => rfl
 | c :: l, h => by
  have hc : (UInt8.ofNat c).toNat = c := by simp only [UInt8.toNat_ofNat']; exact Nat.mod_eq_of_lt (h c (by simp))
  have ih := ofN_eq (l := l) (fun d hd => h d (List.mem_cons_of_mem _ hd))
  show BS.mk (Nat.succ (ofN l).len) (Nat.add c (Nat.mul 256 (ofN l).val)) = BS.mk (Nat.succ (BS.ofList (l.map UInt8.ofNat)).len) (Nat.add (UInt8.ofNat c).toNat (Nat.mul 256 (BS.ofList (l.map UInt8.ofNat)).val))
  rw [ih, hc]
theorem ofN_nats {l : List Nat} (h : ∀ c ∈ l, c < 256) : (ofN l).nats = l := by
 rw [ofN_eq h]
 apply List.ext_getElem?
 intro i
 by_cases hi : i < l.length
 ·have hl : (BS.ofList (l.map UInt8.ofNat)).len = l.length := by rw [BS.len_ofList, List.length_map]
  rw [BS.nats_get (by omega)]
  have hc : (l.map UInt8.ofNat)[i]? = some (UInt8.ofNat l[i]) := by simp [hi]
  rw [BS.get_ofList _ _ _ hc]
  simp only [UInt8.toNat_ofNat', List.getElem?_eq_getElem hi]
  rw [Nat.mod_eq_of_lt (h _ (List.getElem_mem hi))]
 ·rw [List.getElem?_eq_none (by rw [BS.length_nats, BS.len_ofList, List.length_map]; omega), List.getElem?_eq_none (by omega)]
theorem ofN_canon : ∀ {l : List Nat}, (∀ c ∈ l, c < 256) → (ofN l).canon
 | [], _ => by show 0 < 2 ^ (8 * 0); decide
 | c :: l, h => by
  have ih : (ofN l).val < 2 ^ (8 * (ofN l).len) := ofN_canon (fun d hd => h d (by simp [hd]))
  have hc := h c (by simp)
  show c + 256 * (ofN l).val < 2 ^ (8 * ((ofN l).len + 1))
  have e : 2 ^ (8 * ((ofN l).len + 1)) = 256 * 2 ^ (8 * (ofN l).len) := by
   rw [Nat.mul_add, Nat.pow_add]; simp [Nat.mul_comm]
  rw [e]; omega
theorem sub_ofN {s : BS} {lo hi : Nat} (h : hi ≤ s.len) : s.sub lo hi = ofN ((s.nats.drop lo).take (hi - lo)) := by
 have hb : ∀ c ∈ (s.nats.drop lo).take (hi - lo), c < 256 := fun c hc => s.nats_lt c (List.mem_of_mem_drop (List.mem_of_mem_take hc))
 exact BS.canon_ext (s.sub_canon lo hi) (ofN_canon hb) (by rw [BS.nats_sub h, ofN_nats hb])
def Rst (s : BS) (i : Nat) (r : List Nat) : Prop := i ≤ s.len ∧ s.nats.drop i = r
section
variable {s : BS} {i : Nat} {r : List Nat}
theorem Rst.start (s : BS) : Rst s 0 s.nats := ⟨Nat.zero_le _, rfl⟩
theorem Rst.len (h : Rst s i r) : i + r.length = s.len := by
 have := congrArg List.length h.2
 rw [List.length_drop, BS.length_nats] at this
 have := h.1; omega
theorem Rst.bd (h : Rst s i r) : ∀ c ∈ r, c < 256 := fun c hc => s.nats_lt c (List.mem_of_mem_drop (h.2 ▸ hc))
theorem Rst.drop (h : Rst s i r) {k : Nat} (hk : k ≤ r.length) : Rst s (i + k) (r.drop k) := by
 refine ⟨by have := h.len; omega, ?_⟩
 rw [← h.2, List.drop_drop]
theorem Rst.sub (h : Rst s i r) {k : Nat} (hk : k ≤ r.length) : s.sub i (i + k) = ofN (r.take k) := by
 have := h.len
 rw [sub_ofN (by omega), h.2, Nat.add_sub_cancel_left]
end
end
end Go.Og
set_option linter.all false
namespace Go.Og
noncomputable section
section
variable {E : List (Nat × Blk)} {D : Den} {n0 n i : Nat} {o : AOper} {l : List AOper} {p : DP} {pl : List DP} {s : DS} {v : V}
theorem dsteps_p (hg : o.guard = none) (hc : o.op.cls = .p) (hv : aopP o.op (restr p.looks s.e) = some v) :
  dsteps E D n0 n i (o :: l) (p :: pl) s = dsteps E D n0 n (i + 1) l pl { s with e := putE s.e o.dst v } := by
 have h : dstep E D n0 n i o p s = some { s with e := putE s.e o.dst v } := by unfold dstep; rw [hg]; simp only [wantedA, hc, hv]
 show (match dstep E D n0 n i o p s with | none => none | some s' => dsteps E D n0 n (i + 1) l pl s') = _
 rw [h]
theorem dsteps_l {h : List (Nat × Blk)} {ss : List (List (Nat × Blk))} (hg : o.guard = none) (hc : o.op.cls = .l) (hs : s.ss = h :: ss) (hv : aopL E o.op (restr p.looks s.e) ⟨s.nx, hideB n0 n (visK p.anc s.am) h⟩ = some v) :
  dsteps E D n0 n i (o :: l) (p :: pl) s = dsteps E D n0 n (i + 1) l pl { s with e := putE s.e o.dst v, ls := (i, o.op, restr p.looks s.e, v) :: s.ls } := by
 have h : dstep E D n0 n i o p s = some { s with e := putE s.e o.dst v, ls := (i, o.op, restr p.looks s.e, v) :: s.ls } := by unfold dstep; rw [hg]; simp only [wantedA, hc, hs, hv]
 show (match dstep E D n0 n i o p s with | none => none | some s' => dsteps E D n0 n (i + 1) l pl s') = _
 rw [h]
theorem dsteps_a {b : Blk} (hg : o.guard = none) (hc : o.op.cls = .a) (hv : aopA o.op (restr p.looks s.e) (n0 + i) = some (v, b)) :
  dsteps E D n0 n i (o :: l) (p :: pl) s = dsteps E D n0 n (i + 1) l pl { s with e := putE s.e o.dst v, ss := s.ss.map ((n0 + i, b) :: ·), am := s.am ||| 2 ^ i } := by
 have h : dstep E D n0 n i o p s = some { s with e := putE s.e o.dst v, ss := s.ss.map ((n0 + i, b) :: ·), am := s.am ||| 2 ^ i } := by unfold dstep; rw [hg]; simp only [wantedA, hc, hv]
 show (match dstep E D n0 n i o p s with | none => none | some s' => dsteps E D n0 n (i + 1) l pl s') = _
 rw [h]
theorem dsteps_a' {b : Blk} {id am' : Nat} (hg : o.guard = none) (hc : o.op.cls = .a) (hid : n0 + i = id) (ham : s.am ||| 2 ^ i = am') (hv : aopA o.op (restr p.looks s.e) id = some (v, b)) :
  dsteps E D n0 n i (o :: l) (p :: pl) s = dsteps E D n0 n (i + 1) l pl { s with e := putE s.e o.dst v, ss := s.ss.map ((id, b) :: ·), am := am' } := by
 subst hid; subst ham
 exact dsteps_a hg hc hv
theorem dsteps_k {h : List (Nat × Blk)} {ss : List (List (Nat × Blk))} {σ' : H} (hg : o.guard = none) (hc : o.op.cls = .k) (hs : s.ss = h :: ss) (hv : den1 E D o.op (restr p.looks s.e) ⟨s.nx, hideB n0 n (visK p.anc s.am) h⟩ = some (v, σ')) :
  dsteps E D n0 n i (o :: l) (p :: pl) s = dsteps E D n0 n (i + 1) l pl { s with e := putE s.e o.dst v, nx := σ'.next, ss := (keepB n0 n (visK p.anc s.am) h ++ σ'.bl) :: s.ss, ks := i :: s.ks } := by
 have h : dstep E D n0 n i o p s = some { s with e := putE s.e o.dst v, nx := σ'.next, ss := (keepB n0 n (visK p.anc s.am) h ++ σ'.bl) :: s.ss, ks := i :: s.ks } := by unfold dstep; rw [hg]; simp only [wantedA, hc, hs, hv]
 show (match dstep E D n0 n i o p s with | none => none | some s' => dsteps E D n0 n (i + 1) l pl s') = _
 rw [h]
theorem dsteps_nil : dsteps E D n0 n i [] pl s = some s := by cases pl <;> rfl
theorem drawW_of {ops : List AOper} {e : Env} {σ : H} {h : List (Nat × Blk)} {ss : List (List (Nat × Blk))} (hd : dsteps E D σ.next ops.length 0 ops pl ⟨e, σ.next + ops.length, [σ.bl], [], 0, []⟩ = some s)
  (hl : s.ls.all (fun (j, op, em, v) => checkL E σ.next ops.length pl s.am j op em v s.ss s.ks []) = true) (hs : s.ss = h :: ss) :
  drawW E D ops pl e σ = some (s.e, ⟨s.nx, hideB σ.next ops.length (fun k => s.am.testBit k) h⟩) := by
 unfold drawW
 rw [hd]
 show (if s.ls.all (fun (j, op, em, v) => checkL E σ.next ops.length pl s.am j op em v s.ss s.ks []) = true then _ else none) = _
 rw [if_pos hl, hs]
end
section
variable {E : List (Nat × Blk)} {n0 n am j : Nat} {pl : List DP} {op : AOp} {em : Env} {v : V} {h : List (Nat × Blk)} {ss : List (List (Nat × Blk))} {k : Nat} {ks more : List Nat}
theorem check_skip (hl : legal pl j (k :: ks) more = false) : checkL E n0 n pl am j op em v (h :: ss) (k :: ks) more = checkL E n0 n pl am j op em v ss ks (k :: more) := by
 show ((!legal pl j (k :: ks) more || _) && checkL E n0 n pl am j op em v ss ks (k :: more)) = _
 rw [hl]; rfl
end
section
variable {n0 n : Nat} {p : Nat → Bool} {l : List (Nat × Blk)}
theorem hide_keep : ∀ {l : List (Nat × Blk)}, (∀ i, i < n → p i = false → look l (n0 + i) = none) → hideB n0 n p l = l ∧ keepB n0 n p l = []
 | [], _ => ⟨rfl, rfl⟩
 | (k, b) :: l, h => by
  have hc : (Nat.ble n0 k && Nat.blt k (n0 + n) && !p (k - n0)) = false := by
   cases hb : (Nat.ble n0 k && Nat.blt k (n0 + n) && !p (k - n0)) with
   | false => rfl
   | true =>
    exfalso
    simp only [Bool.and_eq_true, Nat.ble_eq, Nat.blt_eq, Bool.not_eq_true'] at hb
    have := h (k - n0) (by omega) hb.2
    rw [show n0 + (k - n0) = k by omega] at this
    simp [look] at this
  have ih := hide_keep (l := l) (fun i hi hp => by
   have := h i hi hp
   simp only [look] at this
   split at this
   ·cases this
   ·exact this)
  unfold hideB keepB
  rw [hc]
  simp only [Bool.false_eq_true, if_false]
  exact ⟨by rw [ih.1], ih.2⟩
theorem Tidy.gap {σ : H} (h : Tidy σ) (n : Nat) : ∀ id, σ.next ≤ id → id < σ.next + n → look σ.bl id = none := fun id h1 _ => by
 have := h id h1; rwa [lookF_eq] at this
theorem Tidy.wide {σ : H} (h : Tidy σ) (n : Nat) : Tidy ⟨σ.next + n, σ.bl⟩ := fun b hb => h b (by have : σ.next + n ≤ b := hb; omega)
theorem Fr.wide {S : Nat → Prop} {σ σ' : H} {n : Nat} (f : Fr S ⟨σ.next + n, σ.bl⟩ σ') : Fr S σ σ' :=
 ⟨f.tidy, by have : σ.next + n ≤ σ'.next := f.le; omega, fun b hb hn => f.same b (show b < σ.next + n by omega) hn⟩
theorem Fr.gap {S : Nat → Prop} {σ σ' : H} {n : Nat} (f : Fr S ⟨σ.next + n, σ.bl⟩ σ') (ht : Tidy σ) (hS : ∀ b, S b → b < σ.next) : ∀ id, σ.next ≤ id → id < σ.next + n → look σ'.bl id = none := fun id h1 h2 => by
 have := f.same id h2 (fun hs => by have := hS id hs; omega)
 rw [← lookF_eq, this]
 exact ht id h1
theorem look_hide_old {id : Nat} (h : id < n0) : look (hideB n0 n p l) id = look l id := by
 rw [look_hideB, if_neg (by omega)]
theorem look_cons_ne {α : Type} {k id : Nat} {b : α} {l : List (Nat × α)} (h : k ≠ id) : look ((k, b) :: l) id = look l id := by simp [look, h]
theorem load_of {E : List (Nat × Blk)} {x : AO} {e : Env} {b off nx : Nat} {h : List (Nat × Blk)} {c : List V} {v : V} (hx : opv e x = .ptr b off) (hl : look h b = some (.cells c)) (hv : c[off]? = some v) :
  aopL E (.load none x) e ⟨nx, h⟩ = some v := by
 unfold aopL
 simp only [hx, rd, hl, hv]
end
section
variable {E : List (Nat × Blk)} {D : Den} {n0 n i : Nat} {d : Option Nat} {o : AOp} {l : List AOper} {anc : Nat} {lk : List Nat} {pl : List DP} {e : Env} {nx am : Nat} {ss : List (List (Nat × Blk))} {h : List (Nat × Blk)} {ks : List Nat} {ls : List (Nat × AOp × Env × V)}
theorem dp (v : V) (hc : o.cls = .p) (hv : aopP o (restr lk e) = some v) : dsteps E D n0 n i (⟨d, o, none⟩ :: l) (⟨anc, lk⟩ :: pl) ⟨e, nx, ss, ks, am, ls⟩ = dsteps E D n0 n (i + 1) l pl ⟨putE e d v, nx, ss, ks, am, ls⟩ :=
 dsteps_p rfl hc hv
theorem dl (v : V) (hc : o.cls = .l) (hv : aopL E o (restr lk e) ⟨nx, hideB n0 n (visK anc am) h⟩ = some v) : dsteps E D n0 n i (⟨d, o, none⟩ :: l) (⟨anc, lk⟩ :: pl) ⟨e, nx, h :: ss, ks, am, ls⟩ = dsteps E D n0 n (i + 1) l pl ⟨putE e d v, nx, h :: ss, ks, am, (i, o, restr lk e, v) :: ls⟩ :=
 dsteps_l rfl hc rfl hv
theorem da (v : V) (b : Blk) (id am' : Nat) (hc : o.cls = .a) (hid : n0 + i = id) (ham : am ||| 2 ^ i = am') (hv : aopA o (restr lk e) id = some (v, b)) : dsteps E D n0 n i (⟨d, o, none⟩ :: l) (⟨anc, lk⟩ :: pl) ⟨e, nx, ss, ks, am, ls⟩ = dsteps E D n0 n (i + 1) l pl ⟨putE e d v, nx, ss.map ((id, b) :: ·), ks, am', ls⟩ :=
 dsteps_a' rfl hc hid ham hv
theorem dk (v : V) (nx' : Nat) (bl' : List (Nat × Blk)) (hc : o.cls = .k) (hk : hideB n0 n (visK anc am) h = h ∧ keepB n0 n (visK anc am) h = []) (hv : den1 E D o (restr lk e) ⟨nx, h⟩ = some (v, ⟨nx', bl'⟩)) : dsteps E D n0 n i (⟨d, o, none⟩ :: l) (⟨anc, lk⟩ :: pl) ⟨e, nx, h :: ss, ks, am, ls⟩ = dsteps E D n0 n (i + 1) l pl ⟨putE e d v, nx', bl' :: h :: ss, i :: ks, am, ls⟩ := by
 have := dsteps_k (E := E) (D := D) (n0 := n0) (n := n) (i := i) (o := ⟨d, o, none⟩) (l := l) (p := ⟨anc, lk⟩) (pl := pl) (s := ⟨e, nx, h :: ss, ks, am, ls⟩) (v := v) (σ' := ⟨nx', bl'⟩) rfl hc rfl (by show den1 E D o (restr lk e) ⟨nx, hideB n0 n (visK anc am) h⟩ = _; rw [hk.1]; exact hv)
 rw [this]
 show dsteps E D n0 n (i + 1) l pl ⟨putE e d v, nx', (keepB n0 n (visK anc am) h ++ bl') :: h :: ss, i :: ks, am, ls⟩ = _
 rw [hk.2]; rfl
end
end
end Go.Og
set_option linter.all false
namespace Go.Og
noncomputable section
mutual
def V.rn (ρ : Nat → Nat) : V → V
 | .ptr b o => .ptr (ρ b) o
 | .sl b o n c => .sl (ρ b) o n c
 | .sle b o k e => .sle (ρ b) o k e
 | .mp b => .mp (ρ b)
 | .fn f a c => .fn f (rns ρ a) (rns ρ c)
 | .ifc t v => .ifc t (V.rn ρ v)
 | .agg l => .agg (rns ρ l)
 | .tup l => .tup (rns ρ l)
 | v => v
def rns (ρ : Nat → Nat) : List V → List V
 | [] => []
 | v :: l => V.rn ρ v :: rns ρ l
end
mutual
def V.inn (p : Nat → Bool) : V → Bool
 | .dead => false
 | .ptr b _ => p b
 | .sl b _ _ _ => p b
 | .sle b _ _ _ => p b
 | .mp b => p b
 | .fn _ a c => inns p a && inns p c
 | .ifc _ v => V.inn p v
 | .agg l => inns p l
 | .tup l => inns p l
 | _ => true
def inns (p : Nat → Bool) : List V → Bool
 | [] => true
 | v :: l => V.inn p v && inns p l
end
section
variable {R S : Ren} {p : Nat → Bool} {ρ : Nat → Nat}
mutual
theorem conc_rn (h : ∀ b, p b = true → S (ρ b) = R b) : ∀ v : V, V.inn p v = true → conc S (V.rn ρ v) = conc R v
 | .dead, hc => by simp [V.inn] at hc
 | .ptr b o, hc => by
  simp only [V.inn] at hc
  simp only [V.rn, conc, h b hc]
 | .sl b o n (.ex c), hc => by
  simp only [V.inn] at hc
  simp only [V.rn, conc, h b hc]
 | .sl b o n (.op c), hc => by
  simp only [V.inn] at hc
  simp only [V.rn, conc, h b hc]
 | .sle b o k e, hc => by
  simp only [V.inn] at hc
  simp only [V.rn, conc, h b hc]
 | .mp b, hc => by
  simp only [V.inn] at hc
  simp only [V.rn, conc, h b hc]
 | .bool _, _ => rfl
 | .int _ _, _ => rfl
 | .str _, _ => rfl
 | .nilp, _ => rfl
 | .nils, _ => rfl
 | .nilm, _ => rfl
 | .nilf, _ => rfl
 | .nili, _ => rfl
 | .fn f a c, hc => by
  simp only [V.inn, Bool.and_eq_true] at hc
  simp only [V.rn, conc, concs_rn h a hc.1, concs_rn h c hc.2]
 | .ifc t v, hc => by
  simp only [V.inn] at hc
  simp only [V.rn, conc, conc_rn h v hc]
 | .agg l, hc => by
  simp only [V.inn] at hc
  simp only [V.rn, conc, concs_rn h l hc]
 | .tup l, hc => by
  simp only [V.inn] at hc
  simp only [V.rn, conc, concs_rn h l hc]
theorem concs_rn (h : ∀ b, p b = true → S (ρ b) = R b) : ∀ l : List V, inns p l = true → concs S (rns ρ l) = concs R l
 | [], _ => rfl
 | v :: l, hc => by
  simp only [inns, Bool.and_eq_true] at hc
  simp only [rns, concs, conc_rn h v hc.1, concs_rn h l hc.2]
end
theorem rns_get : ∀ (l : List V) (k : Nat), (rns ρ l)[k]? = (l[k]?).map (V.rn ρ)
 | [], k => by simp [rns]
 | v :: l, 0 => by simp [rns]
 | v :: l, k + 1 => by simpa [rns] using rns_get l k
theorem rns_length : ∀ (l : List V), (rns ρ l).length = l.length
 | [] => rfl
 | v :: l => by simp [rns, rns_length l]
theorem inns_get : ∀ {l : List V} {k : Nat} {v : V}, inns p l = true → l[k]? = some v → V.inn p v = true
 | [], k, v, _, h => by simp at h
 | u :: l, 0, v, hc, h => by
  simp only [inns, Bool.and_eq_true] at hc
  simp at h; subst h; exact hc.1
 | u :: l, k + 1, v, hc, h => by
  simp only [inns, Bool.and_eq_true] at hc
  exact inns_get hc.2 (by simpa using h)
def rnp (ρ : Nat → Nat) : List (V × V) → List (V × V)
 | [] => []
 | q :: l => (V.rn ρ q.1, V.rn ρ q.2) :: rnp ρ l
def innp (p : Nat → Bool) : List (V × V) → Bool
 | [] => true
 | q :: l => V.inn p q.1 && V.inn p q.2 && innp p l
def Blk.rn (ρ : Nat → Nat) : Blk → Blk
 | .cells l => .cells (rns ρ l)
 | .map l => .map (rnp ρ l)
 | .siter s q => .siter s q
 | .unit t => .unit t
def Blk.inn (p : Nat → Bool) : Blk → Bool
 | .cells l => inns p l
 | .map l => innp p l
 | .siter _ _ => true
 | .unit _ => true
theorem MapHolds.rn (h : ∀ b, p b = true → S (ρ b) = R b) : ∀ {l : List (V × V)} {es : List MapEntry}, innp p l = true → (MapHolds S (rnp ρ l) es ↔ MapHolds R l es)
 | [], [], _ => Iff.rfl
 | (a, b) :: l, e :: es, hc => by
  simp only [innp, Bool.and_eq_true] at hc
  simp only [rnp, MapHolds, conc_rn h a hc.1.1, conc_rn h b hc.1.2, MapHolds.rn h hc.2]
 | [], _ :: _, _ => Iff.rfl
 | _ :: _, [], _ => Iff.rfl
theorem Holds.rn (h : ∀ b, p b = true → S (ρ b) = R b) {s : Nat} {l : List V} {arr : Array Value} (hc : inns p l = true) : Holds S s (rns ρ l) arr ↔ Holds R s l arr := by
 constructor
 ·intro hh k v hk
  obtain ⟨a, ha, h1, h2⟩ := hh k (V.rn ρ v) (by rw [rns_get, hk]; rfl)
  exact ⟨a, (conc_rn h v (inns_get hc hk)).symm.trans ha, h1, h2⟩
 ·intro hh k v hk
  rw [rns_get, Option.map_eq_some_iff] at hk
  obtain ⟨u, hu, rfl⟩ := hk
  obtain ⟨a, ha, h1, h2⟩ := hh k u hu
  exact ⟨a, (conc_rn h u (inns_get hc hu)).trans ha, h1, h2⟩
theorem OwnOk.rn (h : ∀ b, p b = true → S (ρ b) = R b) {i : BI} {b : Blk} {w : World} (hc : b.inn p = true) : OwnOk S i (b.rn ρ) w ↔ OwnOk R i b w := by
 cases b with
 | cells l =>
  have e := @Holds.rn R S p ρ h i.shift l
  constructor
  ·rintro ⟨arr, el, lo, hi, h1, h2, h3, h4, h5⟩
   exact ⟨arr, el, lo, hi, h1, (e hc).1 h2, h3, by rw [rns_length] at h4; exact h4, h5⟩
  ·rintro ⟨arr, el, lo, hi, h1, h2, h3, h4, h5⟩
   exact ⟨arr, el, lo, hi, h1, (e hc).2 h2, h3, by rw [rns_length]; exact h4, h5⟩
 | map l =>
  constructor
  ·rintro ⟨es, clock, h1, h2⟩
   exact ⟨es, clock, h1, (MapHolds.rn h hc).1 h2⟩
  ·rintro ⟨es, clock, h1, h2⟩
   exact ⟨es, clock, h1, (MapHolds.rn h hc).2 h2⟩
 | siter s q => exact Iff.rfl
 | unit t => exact Iff.rfl
end
structure Few where
 n0 : Nat
 args : List V
 bl0 : List (Nat × Blk)
 v : V
 n1 : Nat
 bl1 : List (Nat × Blk)
def domB (l : List (Nat × Blk)) (b : Nat) : Bool := match lookF l b with
 | some _ => true
 | none => false
def allIds (l : List (Nat × Blk)) (q : Nat → Bool) : Bool := l.all fun x => q x.1
def allBl (l : List (Nat × Blk)) (q : Nat → Bool) : Bool := l.all fun x => x.2.inn q
def Few.right (ng : Nat) (F : List V → H → Ans) (e : Few) : Bool := match F e.args ⟨e.n0, e.bl0⟩ with
 | some (v, σ) => V.beq v e.v && (inBl e.bl1 σ.bl && (Nat.beq σ.next e.n1 && (Nat.ble e.n0 e.n1 && (Nat.ble ng e.n0 && (allIds e.bl0 (fun b => Nat.ble ng b && Nat.blt b e.n0) && (allBl e.bl0 (domB e.bl0) && (inns (domB e.bl0) e.args &&
   (allIds e.bl1 (fun b => Nat.ble e.n0 b || domB e.bl0 b) && (allBl e.bl1 (domB e.bl1) && V.inn (domB e.bl1) e.v)))))))))
 | none => false
def Few.to (e : Few) (ρ : Nat → Nat) (σ : H) (id : Nat) : Nat := if id < e.n0 then ρ id else id - e.n0 + σ.next
def rnBl (ρ : Nat → Nat) (l : List (Nat × Blk)) : List (Nat × Blk) := l.map fun x => (ρ x.1, x.2.rn ρ)
def Few.old (e : Few) (ρ : Nat → Nat) (id : Nat) : Bool := e.bl0.any fun x => Nat.beq (ρ x.1) id
def Few.ans (e : Few) (ρ : Nat → Nat) (σ : H) : V × H := (e.v.rn (e.to ρ σ), ⟨σ.next + (e.n1 - e.n0), rnBl (e.to ρ σ) e.bl1 ++ σ.bl.filter fun x => !e.old ρ x.1⟩)
structure Few.Fits (e : Few) (ρ : Nat → Nat) (args : List V) (σ : H) : Prop where
 args : args = rns ρ e.args
 bl : ∀ id b, look e.bl0 id = some b → look σ.bl (ρ id) = some (b.rn ρ)
 inj : ∀ id id', domB e.bl0 id = true → domB e.bl0 id' = true → ρ id = ρ id' → id = id'
theorem domB_iff {l : List (Nat × Blk)} {b : Nat} : domB l b = true ↔ ∃ c, look l b = some c := by
 unfold domB; rw [lookF_eq]
 cases look l b <;> simp
theorem allIds_look {l : List (Nat × Blk)} {q : Nat → Bool} (h : allIds l q = true) {id : Nat} {b : Blk} (hb : look l id = some b) : q id = true := by
 have := List.all_eq_true.1 h (id, b) (look_mem hb)
 exact this
theorem allBl_look {l : List (Nat × Blk)} {q : Nat → Bool} (h : allBl l q = true) {id : Nat} {b : Blk} (hb : look l id = some b) : b.inn q = true := by
 have := List.all_eq_true.1 h (id, b) (look_mem hb)
 exact this
theorem look_rnBl {ρ : Nat → Nat} : ∀ {l : List (Nat × Blk)} {id : Nat} {b : Blk}, look (rnBl ρ l) id = some b → ∃ k c, (k, c) ∈ l ∧ id = ρ k ∧ b = c.rn ρ
 | [], id, b, h => by cases h
 | (k, c) :: l, id, b, h => by
  simp only [rnBl, List.map_cons, look] at h
  split at h
  ·rename_i he
   have he := Nat.eq_of_beq_eq_true he
   simp only [Option.some.injEq] at h
   exact ⟨k, c, List.mem_cons_self, he.symm, h.symm⟩
  ·obtain ⟨k', c', h1, h2, h3⟩ := look_rnBl (l := l) h
   exact ⟨k', c', List.mem_cons_of_mem _ h1, h2, h3⟩
theorem look_filter {q : Nat → Bool} : ∀ (l : List (Nat × Blk)) (id : Nat), look (l.filter fun x => q x.1) id = if q id = true then look l id else none
 | [], id => by simp [look]
 | (k, c) :: l, id => by
  by_cases hq : q k = true
  ·rw [List.filter_cons_of_pos (by exact hq)]
   simp only [look, look_filter l id]
   by_cases hk : Nat.beq k id = true
   ·have := Nat.eq_of_beq_eq_true hk; subst this
    simp [hq]
   ·simp [hk]
  ·rw [List.filter_cons_of_neg (by exact hq), look_filter l id]
   simp only [look]
   by_cases hk : Nat.beq k id = true
   ·have := Nat.eq_of_beq_eq_true hk; subst this
    simp [hq]
   ·simp [hk]
theorem old_iff {e : Few} {ρ : Nat → Nat} {id : Nat} : e.old ρ id = true ↔ ∃ k c, (k, c) ∈ e.bl0 ∧ ρ k = id := by
 unfold Few.old
 rw [List.any_eq_true]
 constructor
 ·rintro ⟨⟨k, c⟩, h1, h2⟩; exact ⟨k, c, h1, Nat.eq_of_beq_eq_true h2⟩
 ·rintro ⟨k, c, h1, h2⟩; exact ⟨(k, c), h1, by subst h2; exact Nat.beq_refl _⟩
theorem dom_of_mem : ∀ {l : List (Nat × Blk)} {k : Nat} {c : Blk}, (k, c) ∈ l → ∃ d, look l k = some d
 | (j, d) :: l, k, c, h => by
  simp only [look]
  by_cases hk : Nat.beq j k = true
  ·exact ⟨d, by simp [hk]⟩
  ·simp only [hk]
   rcases List.mem_cons.1 h with h | h
   ·cases h; exact (hk (Nat.beq_refl _)).elim
   ·simpa using dom_of_mem h
theorem loc_ok {P : Program} {G : Nat → Bool} {f : FuncId} {F : List V → H → Ans} (hS : SoundFn P [] G f F) {ng : Nat} (hG : ∀ g, G g = true → g < ng) {e : Few} (h : e.right ng F = true)
  {C : Cx} (hGC : C.G = G) {R : Ren} {σ : H} {w : World} {args : List V} {xs : List Value} {ρ : Nat → Nat} (hm : e.Fits ρ args σ) (hrel : Rel C R σ w) (hxs : concs R args = some xs) :
  callOk P f = true ∧ Calls P f xs.toArray w fun en w' => ∃ R' x, Ext σ.next R R' ∧ σ.next ≤ (e.ans ρ σ).2.next ∧ Rel C R' (e.ans ρ σ).2 w' ∧ conc R' (e.ans ρ σ).1 = some x ∧ en = .returned x := by
 unfold Few.right at h
 cases hr : F e.args ⟨e.n0, e.bl0⟩ with
 | none => rw [hr] at h; cases h
 | some q =>
  obtain ⟨v, σ1⟩ := q
  rw [hr] at h
  simp only [Bool.and_eq_true, Nat.ble_eq] at h
  obtain ⟨hv, hin, hnx, hn01, hng, hi0, hb0, ha0, hi1, hb1, hv1⟩ := h
  have hv := beq_ok _ _ hv
  subst hv
  have hin := inBl_ok hin
  have hnx := Nat.eq_of_beq_eq_true hnx
  let R0 : Ren := fun id => match domB e.bl0 id with
   | true => R (ρ id)
   | false => if id < ng then some ⟨id, 0, 0⟩ else none
  have hR0 : ∀ b, domB e.bl0 b = true → R (ρ b) = R0 b := fun b hb => by
   show R (ρ b) = (match domB e.bl0 b with | true => R (ρ b) | false => _)
   rw [hb]
  have hlt0 : ∀ {id b}, look e.bl0 id = some b → ng ≤ id ∧ id < e.n0 := fun hb => by
   have := allIds_look hi0 hb
   simpa [Nat.blt_eq] using this
  have hxs0 : concs R0 e.args = some xs := by
   rw [hm.args, concs_rn hR0 _ ha0] at hxs; exact hxs
  have own0 : ∀ id b, look e.bl0 id = some b → ∃ i, R (ρ id) = some i ∧ R0 id = some i ∧ C.O i.blk ∧ OwnOk R0 i b w := fun id b hb => by
   obtain ⟨i, hi, hO, hok⟩ := hrel.own _ _ (hm.bl id b hb)
   exact ⟨i, hi, (hR0 id (domB_iff.2 ⟨_, hb⟩)).symm.trans hi, hO, (OwnOk.rn hR0 (allBl_look hb0 hb)).1 hok⟩
  let O0 : Nat → Prop := fun blk => (∃ id b i, look e.bl0 id = some b ∧ R (ρ id) = some i ∧ i.blk = blk) ∨ w.heap.size ≤ blk
  have hrel0 : Rel ⟨O0, w, [], G⟩ R0 ⟨e.n0, e.bl0⟩ w := by
   refine ⟨?_, ?_, ?_, fun id b hb => by simp [look] at hb, ?_, fun _ _ => rfl, Nat.le_refl _, fun blk hb => .inr hb, rfl, rfl, rfl⟩
   ·intro id hid
    have hid' : e.n0 ≤ id := hid
    have hd : domB e.bl0 id = false := by
     cases hc : domB e.bl0 id with
     | false => rfl
     | true =>
      obtain ⟨b, hb⟩ := domB_iff.1 hc
      have := (hlt0 hb).2; omega
    show (match domB e.bl0 id with | true => R (ρ id) | false => _) = none
    rw [hd]
    exact if_neg (by omega)
   ·intro id b hb
    obtain ⟨i, hi, hi0', _, hok⟩ := own0 id b hb
    exact ⟨i, hi0', .inl ⟨id, b, i, hb, hi, rfl⟩, hok⟩
   ·intro id id' b b' i i' hb hb' hi hi' hbl
    obtain ⟨j, hj, hj0, _, _⟩ := own0 id b hb
    obtain ⟨j', hj', hj0', _, _⟩ := own0 id' b' hb'
    rw [hj0] at hi; cases hi
    rw [hj0'] at hi'; cases hi'
    exact hm.inj id id' (domB_iff.2 ⟨_, hb⟩) (domB_iff.2 ⟨_, hb'⟩) (hrel.inj _ _ _ _ _ _ (hm.bl _ _ hb) (hm.bl _ _ hb') hj hj' hbl)
   ·intro g hg
    have hgn := hG g hg
    refine ⟨⟨g, 0, 0⟩, ?_, rfl, rfl⟩
    have hd : domB e.bl0 g = false := by
     cases hc : domB e.bl0 g with
     | false => rfl
     | true =>
      obtain ⟨b, hb⟩ := domB_iff.1 hc
      have := (hlt0 hb).1; omega
    show (match domB e.bl0 g with | true => R (ρ g) | false => _) = _
    rw [hd]
    exact if_pos hgn
  obtain ⟨hok, hc⟩ := hS ⟨O0, w, [], G⟩ rfl rfl R0 ⟨e.n0, e.bl0⟩ w e.args xs _ σ1 hr hrel0 hxs0
  refine ⟨hok, hc.mono ?_⟩
  rintro en w' ⟨R1, x, hE1, _, h3, h4, rfl⟩
  have hE1 : ∀ id, id < e.n0 → R1 id = R0 id := hE1
  have keep : ∀ blk, ¬ O0 blk → w'.heap[blk]? = w.heap[blk]? := fun blk hb => h3.fr blk hb
  let R' : Ren := fun id => if id < σ.next then R id else R1 (id - σ.next + e.n0)
  have hext : Ext σ.next R R' := fun id hid => by show (if id < σ.next then _ else _) = _; rw [if_pos hid]
  have hle : Le R R' := hext.le hrel.fresh
  have hto : ∀ b, domB e.bl1 b = true → R' (e.to ρ σ b) = R1 b := fun b hb => by
   obtain ⟨c, hc1⟩ := domB_iff.1 hb
   have hid := allIds_look hi1 hc1
   unfold Few.to
   by_cases hl : b < e.n0
   ·rw [if_pos hl]
    have hd : domB e.bl0 b = true := by
     simp only [Bool.or_eq_true, Nat.ble_eq] at hid
     rcases hid with h | h
     ·omega
     ·exact h
    obtain ⟨c0, hc0⟩ := domB_iff.1 hd
    have hlt := hrel.next_of_own (hm.bl b c0 hc0)
    rw [hext _ hlt, hE1 b hl, hR0 b hd]
   ·rw [if_neg hl]
    show (if b - e.n0 + σ.next < σ.next then _ else R1 (b - e.n0 + σ.next - σ.next + e.n0)) = _
    rw [if_neg (by omega)]
    congr 1; omega
  have hnew : ∀ {id b}, look (rnBl (e.to ρ σ) e.bl1) id = some b → ∃ k c i, id = e.to ρ σ k ∧ look σ1.bl k = some c ∧ R1 k = some i ∧ R' id = some i ∧ O0 i.blk ∧ C.O i.blk ∧ OwnOk R' i b w' := fun {id b} hb => by
   obtain ⟨k, c, hk, rfl, rfl⟩ := look_rnBl hb
   have hl1 := hin (k, c) hk
   obtain ⟨d, hd⟩ := dom_of_mem hk
   have hdb : domB e.bl1 k = true := domB_iff.2 ⟨_, hd⟩
   obtain ⟨i, hi, hO, hok'⟩ := h3.own k c hl1
   have hcin : c.inn (domB e.bl1) = true := List.all_eq_true.1 hb1 (k, c) hk
   refine ⟨k, c, i, rfl, hl1, hi, (hto k hdb).trans hi, hO, ?_, (OwnOk.rn hto hcin).2 hok'⟩
   rcases hO with ⟨id', b', i', hb', hi', heq⟩ | hO
   ·obtain ⟨j, hj, _, hOj, _⟩ := own0 id' b' hb'
    rw [hj] at hi'; cases hi'
    rw [← heq]; exact hOj
   ·exact hrel.new _ (Nat.le_trans hrel.size hO)
  have hrest : ∀ {id b}, look (σ.bl.filter fun x => !e.old ρ x.1) id = some b → id < σ.next ∧ look σ.bl id = some b ∧ e.old ρ id = false := fun {id b} hb => by
   rw [look_filter (q := fun k => !e.old ρ k)] at hb
   split at hb
   ·rename_i hq
    exact ⟨hrel.next_of_own hb, hb, by simpa using hq⟩
   ·cases hb
  have hkeep : ∀ {id b i}, look σ.bl id = some b → e.old ρ id = false → R id = some i → ¬ O0 i.blk := fun {id b i} hb ho hi hO => by
   obtain ⟨j, hj, _, hok'⟩ := hrel.own id b hb
   rw [hi] at hj; cases hj
   rcases hO with ⟨id', b', i', hb', hi', heq⟩ | hO
   ·have := hrel.inj _ _ _ _ _ _ hb (hm.bl id' b' hb') hi hi' heq.symm
    have : e.old ρ id = true := old_iff.2 ⟨id', b', look_mem hb', this.symm⟩
    rw [this] at ho; cases ho
   ·have := hok'.lt; omega
  have hsplit : ∀ {id b}, look (rnBl (e.to ρ σ) e.bl1 ++ σ.bl.filter fun x => !e.old ρ x.1) id = some b → look (rnBl (e.to ρ σ) e.bl1) id = some b ∨ (id < σ.next ∧ look σ.bl id = some b ∧ e.old ρ id = false) := fun {id b} hb => by
   rw [look_app] at hb
   cases hs : look (rnBl (e.to ρ σ) e.bl1) id with
   | some c => rw [hs] at hb; exact .inl hb
   | none => rw [hs] at hb; exact .inr (hrest hb)
  refine ⟨R', x, hext, Nat.le_add_right _ _, ⟨?_, ?_, ?_, ?_, ?_, ?_, Nat.le_trans hrel.size h3.size, hrel.new, h3.os.trans hrel.os, h3.tape.trans hrel.tape, h3.output.trans hrel.output⟩, (conc_rn hto _ hv1).trans h4, rfl⟩
  ·intro id hid
   have hid' : σ.next + (e.n1 - e.n0) ≤ id := hid
   show (if id < σ.next then _ else R1 (id - σ.next + e.n0)) = none
   rw [if_neg (by omega)]
   exact h3.fresh _ (by rw [hnx]; omega)
  ·intro id b hb
   rcases hsplit hb with hb | ⟨hl, hb, ho⟩
   ·obtain ⟨k, c, i, _, _, _, hi, _, hO, hok'⟩ := hnew hb
    exact ⟨i, hi, hO, hok'⟩
   ·obtain ⟨i, hi, hO, hok'⟩ := hrel.own id b hb
    exact ⟨i, hle _ _ hi, hO, hok'.mono hle (keep _ (hkeep hb ho hi))⟩
  ·intro id id' b b' i i' hb hb' hi hi' hbl
   have olds : ∀ {id b i}, look σ.bl id = some b → R' id = some i → R id = some i := fun {id b i} hb hi => by
    obtain ⟨j, hj, _, _⟩ := hrel.own id b hb
    have := hle _ _ hj
    rw [hi] at this; cases this
    exact hj
   rcases hsplit hb with hb | ⟨hl, hb, ho⟩ <;> rcases hsplit hb' with hb' | ⟨hl', hb', ho'⟩
   ·obtain ⟨k, c, j, h1, h5, h6, h7, _⟩ := hnew hb
    obtain ⟨k', c', j', h1', h5', h6', h7', _⟩ := hnew hb'
    rw [h7] at hi; cases hi
    rw [h7'] at hi'; cases hi'
    have := h3.inj k k' c c' _ _ h5 h5' h6 h6' hbl
    rw [h1, h1', this]
   ·obtain ⟨k, c, j, h1, h5, h6, h7, h8, _⟩ := hnew hb
    rw [h7] at hi; cases hi
    have hR := olds hb' hi'
    exact (hkeep hb' ho' hR (hbl ▸ h8)).elim
   ·obtain ⟨k, c, j, h1, h5, h6, h7, h8, _⟩ := hnew hb'
    rw [h7] at hi'; cases hi'
    have hR := olds hb hi
    exact (hkeep hb ho hR (hbl ▸ h8)).elim
   ·exact hrel.inj id id' b b' i i' hb hb' (olds hb hi) (olds hb' hi') hbl
  ·intro id b hb
   obtain ⟨i, hi, hO, hok'⟩ := hrel.ext id b hb
   refine ⟨i, hle _ _ hi, hO, hok'.mono hle (keep _ ?_)⟩
   rintro (⟨id', b', i', hb', hi', heq⟩ | hn)
   ·obtain ⟨j, hj, _, hOj, _⟩ := own0 id' b' hb'
    rw [hj] at hi'; cases hi'
    exact hO (heq ▸ hOj)
   ·have := hok'.lt; omega
  ·intro g hg
   obtain ⟨i, hi, hb⟩ := hrel.glob g hg
   exact ⟨i, hle _ _ hi, hb⟩
  ·intro blk hn
   rw [← hrel.fr blk hn]
   refine keep blk ?_
   rintro (⟨id', b', i', hb', hi', heq⟩ | hn')
   ·obtain ⟨j, hj, _, hOj, _⟩ := own0 id' b' hb'
    rw [hj] at hi'; cases hi'
    exact hn (heq ▸ hOj)
   ·exact hn (hrel.new _ (Nat.le_trans hrel.size hn'))
def locF (l : List Few) (F : List V → H → Ans) : List V → H → Ans := fun args σ => by
 classical
 exact if h : ∃ q : Few × (Nat → Nat), q.1 ∈ l ∧ q.1.Fits q.2 args σ then some ((Classical.choose h).1.ans (Classical.choose h).2 σ) else F args σ
theorem locF_hit {l : List Few} {F : List V → H → Ans} {args : List V} {σ : H} {e : Few} {ρ : Nat → Nat} (he : e ∈ l) (hm : e.Fits ρ args σ) :
  ∃ e' ρ', e' ∈ l ∧ e'.Fits ρ' args σ ∧ locF l F args σ = some (e'.ans ρ' σ) := by
 have h : ∃ q : Few × (Nat → Nat), q.1 ∈ l ∧ q.1.Fits q.2 args σ := ⟨(e, ρ), he, hm⟩
 refine ⟨(Classical.choose h).1, (Classical.choose h).2, (Classical.choose_spec h).1, (Classical.choose_spec h).2, ?_⟩
 unfold locF
 exact dif_pos h
theorem locF_ok {P : Program} {G : Nat → Bool} {f : FuncId} {F F' : List V → H → Ans} {E : List (Nat × Blk)} (hF : SoundFn P E G f F) (hF' : SoundFn P [] G f F') {ng : Nat} (hG : ∀ g, G g = true → g < ng) {l : List Few} (hl : ∀ e ∈ l, e.right ng F' = true) : SoundFn P E G f (locF l F) := by
 intro C hE hGC R σ w args xs v σ' hr hrel hxs
 unfold locF at hr
 split at hr
 ·rename_i h
  simp only [Option.some.injEq] at hr
  have := loc_ok hF' hG (hl _ (Classical.choose_spec h).1) hGC (Classical.choose_spec h).2 hrel hxs
  rw [hr] at this
  exact this
 ·exact hF C hE hGC R σ w args xs v σ' hr hrel hxs
end
end Go.Og
