/- What the last text leans on, part 4 of 7: merged out of smaller texts. No condition. -/
import Derived.KernelRfl
import Derived.Test.YtgjjnbddbbhloaaGreatDoorQ2
set_option linter.all false
set_option maxRecDepth 100000
set_option maxHeartbeats 0
namespace Go.Proofs.YtgjjnbddbbhloaaGreatDoor
open Go Go.Og
noncomputable section
variable (E : List (Nat × Blk)) (D : Den) (W : DrawFn) (N : Nat)
def G9_0 : List AOper := [⟨(some 28), .load (some 4) (.tmp 3), none⟩, ⟨(some 29), .mov (.tmp 5), none⟩, ⟨(some 30), .call 23 [(.tmp 29)], none⟩, ⟨(some 31), .call 32 [(.tmp 28), (.con (V.int .i64 (Int.ofNat 0))), (.tmp 30)], none⟩, ⟨(some 27), .mov (.tmp 31), none⟩, ⟨(some 32), .extract 0 (.tmp 27), none⟩, ⟨(some 33), .extract 1 (.tmp 27), none⟩, ⟨(some 6), .alloc 38 [(V.int .i64 (Int.ofNat 0)), (V.int .i64 (Int.ofNat 0)), V.nils, V.nils, (V.int .i64 (Int.ofNat 0)), V.nils], none⟩, ⟨none, .store 6 (.tmp 6) (.tmp 32), none⟩, ⟨(some 7), .mov (.tmp 33), none⟩]
def H9_0 : List DP := [⟨0, [3]⟩, ⟨0, [5]⟩, ⟨2, [29]⟩, ⟨7, [28, 30]⟩, ⟨15, [31]⟩, ⟨31, [27]⟩, ⟨31, [27]⟩, ⟨0, []⟩, ⟨191, [6, 32]⟩, ⟨511, [33]⟩]
def G9_1 : List AOper := [⟨(some 57), .call 31 [], none⟩, ⟨(some 58), .mov (.tmp 57), none⟩, ⟨(some 59), .mov (.tmp 4), (some (58, true))⟩, ⟨(some 60), .pick (.tmp 58) (.tmp 59) (.con (V.bool false)), none⟩, ⟨(some 61), .mov (.tmp 60), none⟩, ⟨(some 62), .mov (.tmp 7), (some (61, true))⟩, ⟨(some 63), .bin .eql .none (.tmp 62) (.con (V.int .i64 (Int.ofNat 0))), (some (61, true))⟩, ⟨(some 64), .pick (.tmp 61) (.tmp 63) (.con (V.bool false)), none⟩, ⟨(some 65), .mov (.tmp 64), none⟩, ⟨(some 66), .load (some 6) (.tmp 6), (some (65, true))⟩, ⟨(some 67), .mov (.tmp 0), (some (65, true))⟩, ⟨(some 68), .iaddrS 1 (.tmp 67) (.con (V.int .i64 (Int.ofNat 0))), (some (65, true))⟩, ⟨(some 69), .load none (.tmp 68), (some (65, true))⟩, ⟨(some 70), .bin .shr .none (.tmp 69) (.con (V.int .u64 (Int.ofNat 7))), (some (65, true))⟩, ⟨(some 71), .conv (.toInt .i64) (.tmp 70), (some (65, true))⟩, ⟨(some 72), .build [(V.int .i64 (Int.ofNat 0)), (V.int .i64 (Int.ofNat 0)), V.nils, V.nils, (V.int .i64 (Int.ofNat 0)), V.nils] [(0, 1, (.con (V.int .i64 (Int.ofNat 1)))), (1, 1, (.tmp 71))], (some (65, true))⟩, ⟨(some 73), .buildSlice 38 1 [(V.int .i64 (Int.ofNat 0)), (V.int .i64 (Int.ofNat 0)), V.nils, V.nils, (V.int .i64 (Int.ofNat 0)), V.nils] [(0, 6, (.tmp 72))], (some (65, true))⟩, ⟨(some 74), .build [(V.int .i64 (Int.ofNat 0)), (V.int .i64 (Int.ofNat 0)), V.nils, V.nils, (V.int .i64 (Int.ofNat 0)), V.nils] [(0, 1, (.con (V.int .i64 (Int.ofNat 7)))), (3, 1, (.tmp 73))], (some (65, true))⟩, ⟨(some 75), .call 33 [(.tmp 66), (.tmp 74)], (some (65, true))⟩, ⟨(some 76), .pick (.tmp 65) (.tmp 75) (.con (V.bool false)), none⟩, ⟨(some 2), .mov (.tmp 76), none⟩]
def H9_1 : List DP := [⟨0, []⟩, ⟨1, [57]⟩, ⟨3, [4, 58]⟩, ⟨7, [58, 59]⟩, ⟨15, [60]⟩, ⟨31, [7, 61]⟩, ⟨63, [62, 61]⟩, ⟨127, [61, 63]⟩, ⟨255, [64]⟩, ⟨511, [6, 65]⟩, ⟨511, [0, 65]⟩, ⟨1535, [67, 65]⟩, ⟨3583, [68, 65]⟩, ⟨7679, [69, 65]⟩, ⟨15871, [70, 65]⟩, ⟨32255, [71, 65]⟩, ⟨65023, [72, 65]⟩, ⟨130559, [73, 65]⟩, ⟨262143, [66, 74, 65]⟩, ⟨524287, [65, 75]⟩, ⟨1048575, [76]⟩]
def Fin9 (E : List (Nat × Blk)) : St → Ans := fun s => resK E s [(.tmp 2)] fun l => some (oneV l, s.σ)
def C9_0 : XC := (.seq (.ops (.c 2 (V.bool false)<|
.nil))
 (.seq (.seq (.ops (.m 8 0<|
.u 9 8<|
.b 10 .gtr .none (.t 9) (.i 60)<|
.nil))
 (.cond (.tmp 10) (.seq (.ops (.k 11 .bool 31 []<|
.m 2 11<|
.nil))
 .ret)
 .skip))
 (.seq (.ops (.k 13 (.tup [(.agg [.str, .any, .any, .any]), .bool]) 13 [(.con (V.str ⟨79, 4755262650361405670094815234103870469654946843813472808568420579859915973184956481920989803364272080594043728514490500893829530383246735795238271962579292060936406028983171296324242307817549⟩))]<|
.m 12 13<|
.p 14 [12] (.extract 0 (.t 12))<|
.p 15 [12] (.extract 1 (.t 12))<|
.p 3 [] (.alloc 30 [(V.str ⟨0, 0⟩), V.nils, V.nils, V.nils])<|
.op none (.agg [.str, .any, .any, .any]) [3, 14] (.store 4 (.t 3) (.t 14))<|
.m 4 15<|
.nil))
 (.seq (.ops (.op (some 16) (.agg [.any]) [] (.build [V.nils] [])<|
.p 17 [16] (.box 52 (.t 16))<|
.m 5 17<|
.nil))
 (.seq (.ops (.m 18 5<|
.k 19 (.tup []) 20 [(.t 18), (.con (V.int .u64 (Int.ofNat 1))), (.i 1)]<|
.nil))
 (.seq (.ops (.m 20 5<|
.k 21 (.tup []) 20 [(.t 20), (.con (V.int .u64 (Int.ofNat 0))), (.i 7)]<|
.nil))
 (.seq (.ops (.m 22 5<|
.k 23 (.tup []) 20 [(.t 22), (.con (V.int .u64 (Int.ofNat 1))), (.i 1)]<|
.nil))
 (.seq (.ops (.m 24 5<|
.m 25 0<|
.k 26 (.tup []) 21 [(.t 24), (.t 25)]<|
.nil))
 (.seq (.keep [(0, .any), (3, .ptr), (4, .bool), (5, .ptr)] [] [] (.gdraw G9_0 H9_0 [(0, .any), (4, .bool), (6, .ptr), (7, .i)]))
 (.seq (.seq (.ops (.m 34 0<|
.u 35 34<|
.b 36 .neq .none (.t 35) (.i 1)<|
.m 37 36<|
.grp 37 false (.p 38 [0, 37] (.mov (.t 0))<|
.p 39 [38, 37] (.iaddrS 1 (.t 38) (.i 0))<|
.op (some 40) (.int .u8) [39, 37] (.load none (.t 39))<|
.p 41 [40, 37] (.bin .and .none (.t 40) (.con (V.int .u8 (Int.ofNat 127))))<|
.p 42 [41, 37] (.bin .neq .none (.t 41) (.con (V.int .u8 (Int.ofNat 0))))<|
.nil) 43 [37, 42] (.t 37) (.con (V.bool true)) (.t 42)<|
.nil))
 (.cond (.tmp 43) (.seq (.ops (.k 44 .bool 31 []<|
.m 45 44<|
.grp 45 true (.p 46 [4, 45] (.mov (.t 4))<|
.nil) 47 [45, 46] (.t 45) (.t 46) (.con (V.bool false))<|
.m 48 47<|
.grp 48 true (.p 49 [7, 48] (.mov (.t 7))<|
.p 50 [49, 48] (.bin .eql .none (.t 49) (.i 4))<|
.nil) 51 [48, 50] (.t 48) (.t 50) (.con (V.bool false))<|
.m 52 51<|
.grp 52 true (.op (some 53) (.agg [.i, .i, .any, .any, .i, .any]) [6, 52] (.load (some 6) (.t 6))<|
.op (some 54) (.agg [.i, .i, .any, .any, .i, .any]) [52] (.build [(V.int .i64 (Int.ofNat 0)), (V.int .i64 (Int.ofNat 0)), V.nils, V.nils, (V.int .i64 (Int.ofNat 0)), V.nils] [])<|
.op (some 55) .bool [53, 54, 52] (.call 33 [(.t 53), (.t 54)])<|
.nil) 56 [52, 55] (.t 52) (.t 55) (.con (V.bool false))<|
.m 2 56<|
.nil))
 .ret)
 .skip))
 (.seq (.keep [(0, .any), (4, .bool), (6, .ptr), (7, .i)] [] [] (.gdraw G9_1 H9_1 [(2, .bool)]))
 .ret)))))))))))
def T9_0 (v0 : V) (σ : H) : Ans :=
 slenK v0 fun n1 =>
 condK (ltF (Int.ofNat 60) (Int.ofNat n1)) (
 callK (D 31 [] σ) fun u2 s3 =>
 rtBool u2 fun x4 =>
 some ((V.bool x4), s3)) (
 callK (D 13 [(V.str (BS.mk 79 4755262650361405670094815234103870469654946843813472808568420579859915973184956481920989803364272080594043728514490500893829530383246735795238271962579292060936406028983171296324242307817549))] σ) fun u5 s6 =>
 rtTup u5 fun l7 =>
 rtCons l7 fun x8 l9 =>
 rtAgg x8 fun l10 =>
 rtCons l10 fun x11 l12 =>
 rtStr x11 fun x13 =>
 rtCons l12 fun x14 l15 =>
 rtCons l15 fun x16 l17 =>
 rtCons l17 fun x18 l19 =>
 rtNil l19 (
 rtCons l9 fun x20 l21 =>
 rtBool x20 fun x22 =>
 rtNil l21 (
 let s23 := newB s6 (.cells [(V.str ⟨0, 0⟩), V.nils, V.nils, V.nils]);
 stK 4 (H.next s6) 0 (V.agg [(V.str x13), x14, x16, x18]) s23 fun s24 =>
 chk (allOne (V.cells (V.agg [V.nils]))) (
 let s25 := newB s24 (.cells (V.cells (V.agg [V.nils])));
 callK (D 20 [(V.ptr (H.next s24) 0), (V.int .u64 (Int.ofNat 1)), (V.int .i64 (Int.ofNat 1))] s25) fun u26 s27 =>
 rtTup u26 fun l28 =>
 rtNil l28 (
 callK (D 20 [(V.ptr (H.next s24) 0), (V.int .u64 (Int.ofNat 0)), (V.int .i64 (Int.ofNat 7))] s27) fun u29 s30 =>
 rtTup u29 fun l31 =>
 rtNil l31 (
 callK (D 20 [(V.ptr (H.next s24) 0), (V.int .u64 (Int.ofNat 1)), (V.int .i64 (Int.ofNat 1))] s30) fun u32 s33 =>
 rtTup u32 fun l34 =>
 rtNil l34 (
 callK (D 21 [(V.ptr (H.next s24) 0), v0] s33) fun u35 s36 =>
 rtTup u35 fun l37 =>
 rtNil l37 (
 gdrawK (W G9_0 H9_0 [(0, v0), (3, (V.ptr (H.next s6) 0)), (4, (V.bool x22)), (5, (V.ptr (H.next s24) 0))] s36) fun e38 s39 =>
 getL e38 0 fun u40 =>
 getL e38 4 fun u41 =>
 rtBool u41 fun x42 =>
 getL e38 6 fun u43 =>
 rtPtr u43 fun b44 o45 =>
 getL e38 7 fun u46 =>
 rtInt .i64 u46 fun x47 =>
 slenK u40 fun n48 =>
 joinB (fun c49 s50 =>
 condK c49 (
 callK (D 31 [] s50) fun u52 s53 =>
 rtBool u52 fun x54 =>
 joinB (fun c55 s56 =>
 joinB (fun c58 s59 =>
 joinB (fun c61 s62 =>
 some ((V.bool c61), s62)) fun k63 =>
 condK c58 (
 ldnK E s59 b44 o45 6 fun l64 =>
 rtCons l64 fun x65 l66 =>
 rtInt .i64 x65 fun x67 =>
 rtCons l66 fun x68 l69 =>
 rtInt .i64 x68 fun x70 =>
 rtCons l69 fun x71 l72 =>
 rtCons l72 fun x73 l74 =>
 rtCons l74 fun x75 l76 =>
 rtInt .i64 x75 fun x77 =>
 rtCons l76 fun x78 l79 =>
 rtNil l79 (
 callK (D 33 [(V.agg [(V.int .i64 x67), (V.int .i64 x70), x71, x73, (V.int .i64 x77), x78]), (V.agg [(V.int .i64 (Int.ofNat 0)), (V.int .i64 (Int.ofNat 0)), V.nils, V.nils, (V.int .i64 (Int.ofNat 0)), V.nils])] s59) fun u80 s81 =>
 rtBool u80 fun x82 =>
 k63 x82 s81)) (
 k63 false s59)) fun k60 =>
 condK c55 (
 k60 (eqF x47 (Int.ofNat 4)) s56) (
 k60 false s56)) fun k57 =>
 condK x54 (
 k57 x42 s53) (
 k57 false s53)) (
 gdrawK (W G9_1 H9_1 [(0, u40), (4, (V.bool x42)), (6, (V.ptr b44 o45)), (7, (V.int .i64 x47))] s50) fun e83 s84 =>
 getL e83 2 fun u85 =>
 rtBool u85 fun x86 =>
 some ((V.bool x86), s84))) fun k51 =>
 condK (not (eqF (Int.ofNat n48) (Int.ofNat 1))) (
 k51 true s39) (
 iaddrSK 1 u40 (Int.ofNat 0) fun b87 o88 =>
 ldK E s39 b87 o88 fun u89 =>
 rtInt .u8 u89 fun x90 =>
 k51 (not (eqF (andF .u8 x90 (Int.ofNat 127)) (Int.ofNat 0))) s39)))))))))
def S9_0 (v0 : V) (σ : H) : St := ⟨[(0, v0)], [], [], σ⟩
theorem P9_0 (v0 : V) (σ : H) :
 denC E D W N (C9_0 ) (S9_0 v0 σ) (Fin9 E) (fun _ _ => none) (Fin9 E) =
 T9_0 E D W  v0 σ := by kernel_rfl
def J9_0 (E : List (Nat × Blk)) (D : Den) (W : DrawFn) (N : Nat) : V → H → Ans := T9_0 E D W
theorem JE9_0 (v0 : V) (σ : H) :
 denC E D W N C9_0 (S9_0 v0 σ) (Fin9 E) (fun _ _ => none) (Fin9 E) = J9_0 E D W N v0 σ := by
 refine (P9_0 E D W N   v0 σ).trans ?_
 kernel_rfl
def F9 (args : List V) (σ : H) : Ans :=
 rtCons args fun x1 l2 =>
 rtNil l2 (
 J9_0 E D W N x1 σ)
def A9 : XFn := ⟨77, [.any], [(.tmp 2)], C9_0⟩
theorem FE9 (args : List V) (σ : H) : runX E D W N A9 args σ = F9 E D W N args σ := by
 unfold F9
 simp only [← JE9_0]
 kernel_rfl
theorem AO9 : A9.body.ok = true := by kernel_rfl
def G13_0 : List AOper := [⟨(some 29), .load (some 4) (.tmp 7), none⟩, ⟨(some 30), .mov (.tmp 9), none⟩, ⟨(some 31), .bin .eql .none (.tmp 30) (.con (V.int .i64 (Int.ofNat 0))), none⟩, ⟨(some 32), .mov (.tmp 31), none⟩, ⟨(some 33), .faddr 3 (.tmp 7), (some (32, true))⟩, ⟨(some 34), .load none (.tmp 33), (some (32, true))⟩, ⟨(some 35), .len false (.tmp 34), (some (32, true))⟩, ⟨(some 36), .bin .leq .none (.tmp 35) (.con (V.int .i64 (Int.ofNat 120))), (some (32, true))⟩, ⟨(some 37), .pick (.tmp 32) (.tmp 36) (.con (V.bool false)), none⟩, ⟨none, .store 4 (.tmp 2) (.tmp 29), none⟩, ⟨(some 3), .mov (.tmp 37), none⟩]
def H13_0 : List DP := [⟨0, [7]⟩, ⟨0, [9]⟩, ⟨2, [30]⟩, ⟨6, [31]⟩, ⟨14, [7, 32]⟩, ⟨30, [33, 32]⟩, ⟨62, [34, 32]⟩, ⟨126, [35, 32]⟩, ⟨254, [32, 36]⟩, ⟨15, [2, 29]⟩, ⟨1023, [37]⟩]
def C13_0 : XC := (.seq (.ops (.p 2 [] (.alloc 30 [(V.str ⟨0, 0⟩), V.nils, V.nils, V.nils])<|
.c 3 (V.bool false)<|
.nil))
 (.seq (.seq (.ops (.m 10 0<|
.p 11 [10] (.len true (.t 10))<|
.b 12 .gtr .none (.t 11) (.i 3000)<|
.nil))
 (.cond (.tmp 12) (.seq (.ops (.op (some 13) (.agg [.str, .any, .any, .any]) [] (.build [(V.str ⟨0, 0⟩), V.nils, V.nils, V.nils] [])<|
.op none (.agg [.str, .any, .any, .any]) [2, 13] (.store 4 (.t 2) (.t 13))<|
.c 3 (V.bool false)<|
.nil))
 .ret)
 .skip))
 (.seq (.ops (.m 15 0<|
.k 16 (.tup [(.agg [.str, .i, .any, .any, .any]), .i, .i]) 34 [(.t 15)]<|
.m 14 16<|
.p 17 [14] (.extract 0 (.t 14))<|
.p 18 [14] (.extract 1 (.t 14))<|
.p 19 [14] (.extract 2 (.t 14))<|
.pal 4 [] 76 [(V.str ⟨0, 0⟩), (V.int .i64 (Int.ofNat 0)), V.nils, V.nils, V.nils]<|
.op none (.agg [.str, .i, .any, .any, .any]) [4, 17] (.store 5 (.t 4) (.t 17))<|
.m 5 18<|
.m 6 19<|
.nil))
 (.seq (.seq (.ops (.m 20 6<|
.b 21 .neq .none (.t 20) (.i 0)<|
.nil))
 (.cond (.tmp 21) (.seq (.ops (.op (some 22) (.agg [.str, .any, .any, .any]) [] (.build [(V.str ⟨0, 0⟩), V.nils, V.nils, V.nils] [])<|
.op none (.agg [.str, .any, .any, .any]) [2, 22] (.store 4 (.t 2) (.t 22))<|
.c 3 (V.bool false)<|
.nil))
 .ret)
 .skip))
 (.seq (.ops (.op (some 24) (.agg [.str, .i, .any, .any, .any]) [4] (.load (some 5) (.t 4))<|
.k 25 (.tup [(.agg [.str, .any, .any, .any]), .i, .i]) 35 [(.t 24)]<|
.m 23 25<|
.p 26 [23] (.extract 0 (.t 23))<|
.p 27 [23] (.extract 1 (.t 23))<|
.p 28 [23] (.extract 2 (.t 23))<|
.p 7 [] (.alloc 30 [(V.str ⟨0, 0⟩), V.nils, V.nils, V.nils])<|
.op none (.agg [.str, .any, .any, .any]) [7, 26] (.store 4 (.t 7) (.t 26))<|
.m 8 27<|
.m 9 28<|
.nil))
 (.seq (.keep [(2, .ptr), (7, .ptr), (9, .i)] [] [] (.gdraw G13_0 H13_0 [(2, .ptr), (3, .bool)]))
 .ret))))))
def A13 : XFn := ⟨38, [.str], [(.cell 2 (some 4)), (.tmp 3)], C13_0⟩
def C15_0 : XC := (.seq (.ops (.p 3 [0] (.box 30 (.t 0))<|
.p 5 [2] (.box 38 (.t 2))<|
.c 6 V.nils<|
.q 7 0<|
.nil))
 (.seq (.block 0 (.seq (.ops (.op (some 11) (.agg [.str, .any, .any, .any]) [3] (.load (some 4) (.t 3))<|
.m 12 1<|
.op (some 13) (.agg [.i, .i, .any, .any, .i, .any]) [5] (.load (some 6) (.t 5))<|
.k 14 .bool 36 [(.t 11), (.t 12), (.t 13)]<|
.p 15 [14] (.un .not (.t 14))<|
.m 16 15<|
.grp 16 false (.op (some 17) (.agg [.str, .any, .any, .any]) [3, 16] (.load (some 4) (.t 3))<|
.op (some 18) .bool [17, 16] (.call 37 [(.t 17)])<|
.p 19 [18, 16] (.un .not (.t 18))<|
.nil) 20 [16, 19] (.t 16) (.con (V.bool true)) (.t 19)<|
.m 10 20<|
.nil))
 (.cond (.tmp 10) (.seq (.ops (.c 6 V.nils<|
.q 7 13<|
.nil))
 .ret)
 (.seq (.ops (.op (some 22) (.agg [.i, .i, .any, .any, .i, .any]) [5] (.load (some 6) (.t 5))<|
.k 23 .bool 38 [(.t 22), (.i 2)]<|
.p 24 [23] (.un .not (.t 23))<|
.m 21 24<|
.nil))
 (.cond (.tmp 21) (.seq (.ops (.c 6 V.nils<|
.q 7 16<|
.nil))
 .ret)
 .skip)))))
 (.seq (.ops (.op (some 25) (.agg [.any, .i]) [] (.build [V.nils, (V.int .i64 (Int.ofNat 0))] [])<|
.p 26 [25] (.box 89 (.t 25))<|
.op (some 27) (.agg [.str, .any, .any, .any]) [3] (.load (some 4) (.t 3))<|
.op (some 28) (.agg [.any, .str, .any, .any, .any]) [26, 27] (.build [V.nilp, (V.str ⟨0, 0⟩), V.nils, V.nils, V.nils] [(0, 1, (.t 26)), (1, 4, (.t 27))])<|
.p 29 [28] (.box 91 (.t 28))<|
.m 8 29<|
.nil))
 (.seq (.ops (.m 30 8<|
.m 31 1<|
.op (some 32) (.agg [.i, .i, .any, .any, .i, .any]) [5] (.load (some 6) (.t 5))<|
.k 33 (.tup []) 39 [(.t 30), (.t 31), (.t 32)]<|
.nil))
 (.seq (.ops (.m 34 8<|
.n 35 34<|
.f 36 0 35<|
.l 37 .any 36<|
.k 38 .one 40 [(.t 37)]<|
.m 9 38<|
.nil))
 (.seq (.seq (.ops (.m 39 9<|
.u 40 39<|
.b 41 .gtr .none (.t 40) (.i 70000)<|
.nil))
 (.cond (.tmp 41) (.seq (.ops (.c 6 V.nils<|
.q 7 5<|
.nil))
 .ret)
 .skip))
 (.seq (.ops (.m 42 9<|
.m 6 42<|
.q 7 0<|
.nil))
 .ret)))))))
def A15 : XFn := ⟨43, [(.agg [.str, .any, .any, .any]), .i, (.agg [.i, .i, .any, .any, .i, .any])], [(.tmp 6), (.tmp 7)], C15_0⟩
def Fin20 (E : List (Nat × Blk)) : St → Ans := fun s => resK E s [] fun l => some (oneV l, s.σ)
def C20_0 (cc1 : XC) : XC := (.seq (.ops (.m 7 2<|
.p 8 [7] (.min (.t 7) [(.i 64)])<|
.p 9 [8] (.max (.i 0) [(.t 8)])<|
.m 2 9<|
.nil))
 (.seq (.ops (.m 10 2<|
.b 11 .sub .none (.t 10) (.i 1)<|
.m 6 11<|
.nil))
 (.block 0 (.loop [(0, .ptr), (1, (.int .u64)), (6, .i)] [] [] cc1))))
def T20_0 (E : List (Nat × Blk)) (D : Den) (W : DrawFn) (K1 : Nat → Nat → Int → Int → H → Ans) (v0b v0o : Nat) (v1 v2 : Int) (σ : H) : Ans :=
 K1 v0b v0o v1 (subF .i64 (maxF (Int.ofNat 0) (minF v2 (Int.ofNat 64))) (Int.ofNat 1)) σ
def C20_1 : XC := (.seq (.seq (.ops (.m 12 6<|
.b 13 .geq .none (.t 12) (.i 0)<|
.nil))
 (.cond (.tmp 13) .skip
 (.exit 0)))
 (.seq (.block 1 (.ops (.m 16 0<|
.n 17 16<|
.f 18 0 17<|
.m 19 1<|
.m 20 6<|
.p 21 [20] (.conv (.toInt .u64) (.t 20))<|
.b 22 .shr .none (.t 19) (.t 21)<|
.b 23 .and .none (.t 22) (.con (V.int .u64 (Int.ofNat 1)))<|
.p 24 [23] (.conv (.toInt .i64) (.t 23))<|
.k 25 (.tup []) 41 [(.t 18), (.t 24)]<|
.nil)))
 (.ops (.m 14 6<|
.b 15 .sub .none (.t 14) (.i 1)<|
.m 6 15<|
.nil))))
def T20_1 (E : List (Nat × Blk)) (D : Den) (W : DrawFn) (R1 : Nat → Nat → Int → Int → H → Ans) (v0b v0o : Nat) (v1 v6 : Int) (σ : H) : Ans :=
 condK (leF (Int.ofNat 0) v6) (
 nnK (wrapF .u64 v6) fun n1 =>
 callK (D 41 [(V.ptr v0b v0o), (V.int .i64 (wrapF .i64 (andF .u64 (shrF .u64 v1 n1) (Int.ofNat 1))))] σ) fun u2 s3 =>
 rtTup u2 fun l4 =>
 rtNil l4 (
 R1 v0b v0o v1 (subF .i64 v6 (Int.ofNat 1)) s3)) (
 some ((V.tup []), σ))
def S20_0 (v0b v0o : Nat) (v1 v2 : Int) (σ : H) : St := ⟨[(0, (V.ptr v0b v0o)), (1, (V.int .u64 v1)), (2, (V.int .i64 v2))], [], [], σ⟩
def S20_1 (v0b v0o : Nat) (v1 v6 : Int) (σ : H) : St := ⟨[(0, (V.ptr v0b v0o)), (1, (V.int .u64 v1)), (6, (V.int .i64 v6))], [], [], σ⟩
theorem P20_0 (cc1 : XC) (v0b v0o : Nat) (v1 v2 : Int) (σ : H) :
 denC E D W N (C20_0 cc1) (S20_0 v0b v0o v1 v2 σ) (Fin20 E) (fun _ _ => none) (Fin20 E) =
 T20_0 E D W (fun v0b v0o v1 v6 σ => iterK (fun rec s' => denC E D W N cc1 s' (fun s'' => keepS [(0, .ptr), (1, (.int .u64)), (6, .i)] [] [] s'' rec) (blkK 0 (Fin20 E) (fun _ _ => none)) (Fin20 E)) N (S20_1 v0b v0o v1 v6 σ)) v0b v0o v1 v2 σ := by kernel_rfl
theorem P20_1 (li1 : St → Ans) (v0b v0o : Nat) (v1 v6 : Int) (σ : H) :
 denC E D W N (C20_1 ) (S20_1 v0b v0o v1 v6 σ) (fun s'' => keepS [(0, .ptr), (1, (.int .u64)), (6, .i)] [] [] s'' li1) (blkK 0 (Fin20 E) (fun _ _ => none)) (Fin20 E) =
 T20_1 E D W (fun v0b v0o v1 v6 σ => li1 (S20_1 v0b v0o v1 v6 σ)) v0b v0o v1 v6 σ := by kernel_rfl
def L20_1 (E : List (Nat × Blk)) (D : Den) (W : DrawFn) (N : Nat) (n : Nat) : Nat → Nat → Int → Int → H → Ans :=
 Nat.rec (fun _ _ _ _ _ => none) (fun _ ih => T20_1 E D W ih) n
theorem LE20_1 (n : Nat) : ∀ (v0b v0o : Nat) (v1 v6 : Int) (σ : H),
 iterK (fun rec s' => denC E D W N C20_1 s' (fun s'' => keepS [(0, .ptr), (1, (.int .u64)), (6, .i)] [] [] s'' rec) (blkK 0 (Fin20 E) (fun _ _ => none)) (Fin20 E)) n (S20_1 v0b v0o v1 v6 σ) = L20_1 E D W N n v0b v0o v1 v6 σ := by
 induction n with
 | zero => intro v0b v0o v1 v6 σ; rfl
 | succ n ihn =>
  intro v0b v0o v1 v6 σ
  rw [iterK_succ]
  refine (P20_1 E D W N  (iterK (fun rec s' => denC E D W N C20_1 s' (fun s'' => keepS [(0, .ptr), (1, (.int .u64)), (6, .i)] [] [] s'' rec) (blkK 0 (Fin20 E) (fun _ _ => none)) (Fin20 E)) n) v0b v0o v1 v6 σ).trans ?_
  simp only [ihn]
  kernel_rfl
def J20_0 : Nat → Nat → Int → Int → H → Ans := T20_0 E D W (L20_1 E D W N N)
theorem JE20_0 (v0b v0o : Nat) (v1 v2 : Int) (σ : H) :
 denC E D W N (C20_0 C20_1) (S20_0 v0b v0o v1 v2 σ) (Fin20 E) (fun _ _ => none) (Fin20 E) = J20_0 E D W N v0b v0o v1 v2 σ := by
 refine (P20_0 E D W N C20_1  v0b v0o v1 v2 σ).trans ?_
 simp only [LE20_1]
 kernel_rfl
def F20 (args : List V) (σ : H) : Ans :=
 rtCons args fun x1 l2 =>
 rtPtr x1 fun b3 o4 =>
 rtCons l2 fun x5 l6 =>
 rtInt .u64 x5 fun x7 =>
 rtCons l6 fun x8 l9 =>
 rtInt .i64 x8 fun x10 =>
 rtNil l9 (
 J20_0 E D W N b3 o4 x7 x10 σ)
def A20 : XFn := ⟨26, [.ptr, (.int .u64), .i], [], (C20_0 C20_1)⟩
theorem FE20 (args : List V) (σ : H) : runX E D W N A20 args σ = F20 E D W N args σ := by
 unfold F20
 simp only [← JE20_0]
 kernel_rfl
theorem AO20 : A20.body.ok = true := by kernel_rfl
def Fin21 (E : List (Nat × Blk)) : St → Ans := fun s => resK E s [] fun l => some (oneV l, s.σ)
def C21_0 (cc1 : XC) : XC := (.seq (.ops (.m 6 1<|
.u 7 6<|
.k 8 .one 42 [(.t 7)]<|
.m 4 8<|
.nil))
 (.seq (.ops (.q 5 0<|
.nil))
 (.block 0 (.loop [(0, .any), (1, .any), (4, .any), (5, .i)] [] [] cc1))))
def T21_0 (E : List (Nat × Blk)) (D : Den) (W : DrawFn) (K1 : V → V → V → Int → H → Ans) (v0 v1 : V) (σ : H) : Ans :=
 slenK v1 fun n1 =>
 callK (D 42 [(V.int .i64 (Int.ofNat n1))] σ) fun u2 s3 =>
 rtOne u2 (
 K1 v0 v1 u2 (Int.ofNat 0) s3)
def C21_1 : XC := (.seq (.seq (.ops (.m 9 5<|
.m 10 4<|
.u 11 10<|
.b 12 .lss .none (.t 9) (.t 11)<|
.nil))
 (.cond (.tmp 12) .skip
 (.exit 0)))
 (.seq (.block 1 (.seq (.ops (.m 15 0<|
.m 16 4<|
.m 17 5<|
.s 18 1 16 17<|
.l 19 .i 18<|
.k 20 (.tup []) 43 [(.t 15), (.t 19)]<|
.nil))
 (.seq (.ops (.m 21 0<|
.m 22 1<|
.m 23 4<|
.m 24 5<|
.s 25 1 23 24<|
.l 26 .i 25<|
.p 27 [22, 26] (.sliceSl 1 (.t 22) none (some (.t 26)) none)<|
.k 28 (.tup []) 44 [(.t 21), (.t 27)]<|
.nil))
 (.ops (.m 29 1<|
.m 30 4<|
.m 31 5<|
.s 32 1 30 31<|
.l 33 .i 32<|
.p 34 [29, 33] (.sliceSl 1 (.t 29) (some (.t 33)) none none)<|
.m 1 34<|
.nil)))))
 (.ops (.m 13 5<|
.b 14 .add .none (.t 13) (.i 1)<|
.m 5 14<|
.nil))))
def T21_1 (E : List (Nat × Blk)) (D : Den) (W : DrawFn) (R1 : V → V → V → Int → H → Ans) (v0 v1 v4 : V) (v5 : Int) (σ : H) : Ans :=
 slenK v4 fun n1 =>
 condK (ltF v5 (Int.ofNat n1)) (
 iaddrSK 1 v4 v5 fun b2 o3 =>
 ldK E σ b2 o3 fun u4 =>
 rtInt .i64 u4 fun x5 =>
 callK (D 43 [v0, (V.int .i64 x5)] σ) fun u6 s7 =>
 rtTup u6 fun l8 =>
 rtNil l8 (
 iaddrSK 1 v4 v5 fun b9 o10 =>
 ldK E s7 b9 o10 fun u11 =>
 rtInt .i64 u11 fun x12 =>
 gK (sliceV 1 v1 none (some (V.int .i64 x12)) none) fun u13 =>
 callK (D 44 [v0, u13] s7) fun u14 s15 =>
 rtTup u14 fun l16 =>
 rtNil l16 (
 iaddrSK 1 v4 v5 fun b17 o18 =>
 ldK E s15 b17 o18 fun u19 =>
 rtInt .i64 u19 fun x20 =>
 gK (sliceV 1 v1 (some (V.int .i64 x20)) none none) fun u21 =>
 R1 v0 u21 v4 (addF .i64 v5 (Int.ofNat 1)) s15))) (
 some ((V.tup []), σ))
def S21_0 (v0 v1 : V) (σ : H) : St := ⟨[(0, v0), (1, v1)], [], [], σ⟩
def S21_1 (v0 v1 v4 : V) (v5 : Int) (σ : H) : St := ⟨[(0, v0), (1, v1), (4, v4), (5, (V.int .i64 v5))], [], [], σ⟩
theorem P21_0 (cc1 : XC) (v0 v1 : V) (σ : H) :
 denC E D W N (C21_0 cc1) (S21_0 v0 v1 σ) (Fin21 E) (fun _ _ => none) (Fin21 E) =
 T21_0 E D W (fun v0 v1 v4 v5 σ => iterK (fun rec s' => denC E D W N cc1 s' (fun s'' => keepS [(0, .any), (1, .any), (4, .any), (5, .i)] [] [] s'' rec) (blkK 0 (Fin21 E) (fun _ _ => none)) (Fin21 E)) N (S21_1 v0 v1 v4 v5 σ)) v0 v1 σ := by kernel_rfl
theorem P21_1 (li1 : St → Ans) (v0 v1 v4 : V) (v5 : Int) (σ : H) :
 denC E D W N (C21_1 ) (S21_1 v0 v1 v4 v5 σ) (fun s'' => keepS [(0, .any), (1, .any), (4, .any), (5, .i)] [] [] s'' li1) (blkK 0 (Fin21 E) (fun _ _ => none)) (Fin21 E) =
 T21_1 E D W (fun v0 v1 v4 v5 σ => li1 (S21_1 v0 v1 v4 v5 σ)) v0 v1 v4 v5 σ := by kernel_rfl
def L21_1 (E : List (Nat × Blk)) (D : Den) (W : DrawFn) (N : Nat) (n : Nat) : V → V → V → Int → H → Ans :=
 Nat.rec (fun _ _ _ _ _ => none) (fun _ ih => T21_1 E D W ih) n
theorem LE21_1 (n : Nat) : ∀ (v0 v1 v4 : V) (v5 : Int) (σ : H),
 iterK (fun rec s' => denC E D W N C21_1 s' (fun s'' => keepS [(0, .any), (1, .any), (4, .any), (5, .i)] [] [] s'' rec) (blkK 0 (Fin21 E) (fun _ _ => none)) (Fin21 E)) n (S21_1 v0 v1 v4 v5 σ) = L21_1 E D W N n v0 v1 v4 v5 σ := by
 induction n with
 | zero => intro v0 v1 v4 v5 σ; rfl
 | succ n ihn =>
  intro v0 v1 v4 v5 σ
  rw [iterK_succ]
  refine (P21_1 E D W N  (iterK (fun rec s' => denC E D W N C21_1 s' (fun s'' => keepS [(0, .any), (1, .any), (4, .any), (5, .i)] [] [] s'' rec) (blkK 0 (Fin21 E) (fun _ _ => none)) (Fin21 E)) n) v0 v1 v4 v5 σ).trans ?_
  simp only [ihn]
  kernel_rfl
def J21_0 : V → V → H → Ans := T21_0 E D W (L21_1 E D W N N)
theorem JE21_0 (v0 v1 : V) (σ : H) :
 denC E D W N (C21_0 C21_1) (S21_0 v0 v1 σ) (Fin21 E) (fun _ _ => none) (Fin21 E) = J21_0 E D W N v0 v1 σ := by
 refine (P21_0 E D W N C21_1  v0 v1 σ).trans ?_
 simp only [LE21_1]
 kernel_rfl
def F21 (args : List V) (σ : H) : Ans :=
 rtCons args fun x1 l2 =>
 rtCons l2 fun x3 l4 =>
 rtNil l4 (
 J21_0 E D W N x1 x3 σ)
def A21 : XFn := ⟨35, [.any, .any], [], (C21_0 C21_1)⟩
theorem FE21 (args : List V) (σ : H) : runX E D W N A21 args σ = F21 E D W N args σ := by
 unfold F21
 simp only [← JE21_0]
 kernel_rfl
theorem AO21 : A21.body.ok = true := by kernel_rfl
def C22_0 : XC := (.seq (.ops (.c 4 (V.bool false)<|
.nil))
 (.seq (.ops (.m 5 0<|
.p 6 [5] (.conv .toStr (.t 5))<|
.m 7 1<|
.p 8 [7] (.conv .toStr (.t 7))<|
.b 9 .eql .none (.t 6) (.t 8)<|
.m 4 9<|
.nil))
 .ret))
def A22 : XFn := ⟨10, [.any, .any], [(.tmp 4)], C22_0⟩
def Fin23 (E : List (Nat × Blk)) : St → Ans := fun s => resK E s [(.tmp 2)] fun l => some (oneV l, s.σ)
def C23_0 : XC := (.seq (.ops (.c 2 V.nils<|
.nil))
 (.seq (.ops (.m 4 0<|
.n 5 4<|
.f 6 0 5<|
.k 7 .one 45 [(.t 6)]<|
.m 3 7<|
.nil))
 (.seq (.seq (.ops (.m 8 3<|
.u 9 8<|
.b 10 .eql .none (.t 9) (.i 0)<|
.nil))
 (.cond (.tmp 10) (.seq (.ops (.p 11 [] (.buildSlice 5 1 [(V.int .u8 (Int.ofNat 0))] [(0, 1, (.con (V.int .u8 (Int.ofNat 0))))])<|
.m 2 11<|
.nil))
 .ret)
 .skip))
 (.seq (.ops (.m 12 3<|
.m 2 12<|
.nil))
 .ret))))
def T23_0 (E : List (Nat × Blk)) (D : Den) (W : DrawFn) (v0b v0o : Nat) (σ : H) : Ans :=
 callK (D 45 [(V.ptr v0b v0o)] σ) fun u1 s2 =>
 rtOne u1 (
 slenK u1 fun n3 =>
 condK (eqF (Int.ofNat n3) (Int.ofNat 0)) (
 let s4 := newB s2 (.cells [(V.int .u8 (Int.ofNat 0))]);
 some ((V.sl (H.next s2) 0 1 (.ex 1)), s4)) (
 some (u1, s2)))
def S23_0 (v0b v0o : Nat) (σ : H) : St := ⟨[(0, (V.ptr v0b v0o))], [], [], σ⟩
theorem P23_0 (v0b v0o : Nat) (σ : H) :
 denC E D W N (C23_0 ) (S23_0 v0b v0o σ) (Fin23 E) (fun _ _ => none) (Fin23 E) =
 T23_0 E D W  v0b v0o σ := by kernel_rfl
def J23_0 (E : List (Nat × Blk)) (D : Den) (W : DrawFn) (N : Nat) : Nat → Nat → H → Ans := T23_0 E D W
theorem JE23_0 (v0b v0o : Nat) (σ : H) :
 denC E D W N C23_0 (S23_0 v0b v0o σ) (Fin23 E) (fun _ _ => none) (Fin23 E) = J23_0 E D W N v0b v0o σ := by
 refine (P23_0 E D W N   v0b v0o σ).trans ?_
 kernel_rfl
def F23 (args : List V) (σ : H) : Ans :=
 rtCons args fun x1 l2 =>
 rtPtr x1 fun b3 o4 =>
 rtNil l2 (
 J23_0 E D W N b3 o4 σ)
def A23 : XFn := ⟨13, [.ptr], [(.tmp 2)], C23_0⟩
theorem FE23 (args : List V) (σ : H) : runX E D W N A23 args σ = F23 E D W N args σ := by
 unfold F23
 simp only [← JE23_0]
 kernel_rfl
theorem AO23 : A23.body.ok = true := by kernel_rfl
def C29_0 (cc1 : XC) (cc2 : XC) : XC := (.seq (.ops (.c 4 (V.bool false)<|
.nil))
 (.seq (.seq (.ops (.q 5 0<|
.nil))
 (.block 0 (.loop [(0, .any), (1, .i), (5, .i)] [] [] cc2)))
 (.keep [] [] [] cc1)))
def C29_1 : XC := (.seq (.ops (.c 4 (V.bool false)<|
.nil))
 .ret)
def C29_2 : XC := (.seq (.seq (.ops (.m 6 5<|
.m 7 0<|
.u 8 7<|
.b 9 .lss .none (.t 6) (.t 8)<|
.nil))
 (.cond (.tmp 9) .skip
 (.exit 0)))
 (.seq (.block 1 (.seq (.ops (.m 12 0<|
.m 13 5<|
.s 14 1 12 13<|
.l 15 .i 14<|
.m 16 1<|
.b 17 .eql .none (.t 15) (.t 16)<|
.nil))
 (.cond (.tmp 17) (.seq (.ops (.c 4 (V.bool true)<|
.nil))
 .ret)
 .skip)))
 (.ops (.m 10 5<|
.b 11 .add .none (.t 10) (.i 1)<|
.m 5 11<|
.nil))))
def A29 : XFn := ⟨18, [.any, .i], [(.tmp 4)], (C29_0 C29_1 C29_2)⟩
def C31_0 : XC := (.seq (.ops (.c 0 (V.bool false)<|
.nil))
 (.seq (.ops (.k 8 (.tup [(.agg [.str, .any, .any, .any]), .bool]) 13 [(.con (V.str ⟨83, 20423697567192517809240295259938904437794754005995551713174354563332778189752168395854124233507746754796681342499881594283041075820211926963132556663497257407511126993131317963984917325184787110174797⟩))]<|
.m 7 8<|
.p 9 [7] (.extract 0 (.t 7))<|
.p 10 [7] (.extract 1 (.t 7))<|
.pal 1 [] 30 [(V.str ⟨0, 0⟩), V.nils, V.nils, V.nils]<|
.op none (.agg [.str, .any, .any, .any]) [1, 9] (.store 4 (.t 1) (.t 9))<|
.m 2 10<|
.nil))
 (.seq (.ops (.op (some 12) (.agg [.str, .any, .any, .any]) [1] (.load (some 4) (.t 1))<|
.p 13 [] (.buildSlice 5 1 [(V.int .u8 (Int.ofNat 0))] [(0, 1, (.con (V.int .u8 (Int.ofNat 80))))])<|
.k 14 (.tup [(.agg [.i, .i, .any, .any, .i, .any]), .i]) 32 [(.t 12), (.i 0), (.t 13)]<|
.m 11 14<|
.p 15 [11] (.extract 0 (.t 11))<|
.p 16 [11] (.extract 1 (.t 11))<|
.pal 3 [] 38 [(V.int .i64 (Int.ofNat 0)), (V.int .i64 (Int.ofNat 0)), V.nils, V.nils, (V.int .i64 (Int.ofNat 0)), V.nils]<|
.op none (.agg [.i, .i, .any, .any, .i, .any]) [3, 15] (.store 6 (.t 3) (.t 15))<|
.m 4 16<|
.nil))
 (.seq (.ops (.op (some 18) (.agg [.str, .any, .any, .any]) [1] (.load (some 4) (.t 1))<|
.p 19 [] (.buildSlice 5 1 [(V.int .u8 (Int.ofNat 0))] [(0, 1, (.con (V.int .u8 (Int.ofNat 88))))])<|
.k 20 (.tup [(.agg [.i, .i, .any, .any, .i, .any]), .i]) 32 [(.t 18), (.i 0), (.t 19)]<|
.m 17 20<|
.p 21 [17] (.extract 0 (.t 17))<|
.p 22 [17] (.extract 1 (.t 17))<|
.pal 5 [] 38 [(V.int .i64 (Int.ofNat 0)), (V.int .i64 (Int.ofNat 0)), V.nils, V.nils, (V.int .i64 (Int.ofNat 0)), V.nils]<|
.op none (.agg [.i, .i, .any, .any, .i, .any]) [5, 21] (.store 6 (.t 5) (.t 21))<|
.m 6 22<|
.nil))
 (.seq (.ops (.m 23 2<|
.m 24 23<|
.grp 24 true (.p 25 [4, 24] (.mov (.t 4))<|
.p 26 [25, 24] (.bin .eql .none (.t 25) (.i 0))<|
.nil) 27 [24, 26] (.t 24) (.t 26) (.con (V.bool false))<|
.m 28 27<|
.grp 28 true (.p 29 [3, 28] (.faddr 3 (.t 3))<|
.p 30 [29, 28] (.load none (.t 29))<|
.p 31 [30, 28] (.len false (.t 30))<|
.p 32 [31, 28] (.bin .eql .none (.t 31) (.i 2))<|
.nil) 33 [28, 32] (.t 28) (.t 32) (.con (V.bool false))<|
.m 34 33<|
.grp 34 true (.p 35 [3, 34] (.faddr 3 (.t 3))<|
.p 36 [35, 34] (.load none (.t 35))<|
.p 37 [36, 34] (.iaddrS 6 (.t 36) (.i 0))<|
.p 38 [37, 34] (.faddr 1 (.t 37))<|
.op (some 39) .i [38, 34] (.load none (.t 38))<|
.p 40 [39, 34] (.bin .eql .none (.t 39) (.i 5))<|
.nil) 41 [34, 40] (.t 34) (.t 40) (.con (V.bool false))<|
.m 42 41<|
.grp 42 true (.p 43 [6, 42] (.mov (.t 6))<|
.p 44 [43, 42] (.bin .eql .none (.t 43) (.i 4))<|
.nil) 45 [42, 44] (.t 42) (.t 44) (.con (V.bool false))<|
.m 0 45<|
.nil))
 .ret)))))
def A31 : XFn := ⟨46, [], [(.tmp 0)], C31_0⟩
def G32_0 : List AOper := [⟨(some 38), .mov (.tmp 2), none⟩, ⟨(some 39), .call 50 [(.tmp 38)], none⟩, ⟨(some 40), .load (some 4) (.tmp 3), none⟩, ⟨(some 41), .build [(V.int .i64 (Int.ofNat 0))] [], none⟩, ⟨(some 42), .box 103 (.tmp 41), none⟩, ⟨(some 43), .build [V.nilp, (V.str ⟨0, 0⟩), V.nils, V.nils, V.nils, V.nilp] [(0, 1, (.tmp 39)), (1, 4, (.tmp 40)), (5, 1, (.tmp 42))], none⟩, ⟨(some 44), .box 105 (.tmp 43), none⟩, ⟨(some 8), .mov (.tmp 44), none⟩]
def H32_0 : List DP := [⟨0, [2]⟩, ⟨1, [38]⟩, ⟨0, [3]⟩, ⟨0, []⟩, ⟨8, [41]⟩, ⟨31, [39, 40, 42]⟩, ⟨63, [43]⟩, ⟨127, [44]⟩]
def Fin32 (E : List (Nat × Blk)) : St → Ans := fun s => resK E s [(.cell 6 (some 6)), (.tmp 7)] fun l => some (oneV l, s.σ)
def C32_0 : XC := (.seq (.ops (.p 3 [0] (.box 30 (.t 0))<|
.p 6 [] (.alloc 38 [(V.int .i64 (Int.ofNat 0)), (V.int .i64 (Int.ofNat 0)), V.nils, V.nils, (V.int .i64 (Int.ofNat 0)), V.nils])<|
.q 7 0<|
.nil))
 (.seq (.block 0 (.seq (.ops (.m 13 1<|
.b 14 .lss .none (.t 13) (.i 0)<|
.m 15 14<|
.grp 15 false (.p 16 [1, 15] (.mov (.t 1))<|
.p 17 [3, 15] (.faddr 3 (.t 3))<|
.p 18 [17, 15] (.load none (.t 17))<|
.p 19 [18, 15] (.len false (.t 18))<|
.p 20 [16, 19, 15] (.bin .geq .none (.t 16) (.t 19))<|
.nil) 21 [15, 20] (.t 15) (.con (V.bool true)) (.t 20)<|
.m 12 21<|
.nil))
 (.cond (.tmp 12) (.seq (.ops (.op (some 22) (.agg [.i, .i, .any, .any, .i, .any]) [] (.build [(V.int .i64 (Int.ofNat 0)), (V.int .i64 (Int.ofNat 0)), V.nils, V.nils, (V.int .i64 (Int.ofNat 0)), V.nils] [])<|
.op none (.agg [.i, .i, .any, .any, .i, .any]) [6, 22] (.store 6 (.t 6) (.t 22))<|
.q 7 9<|
.nil))
 .ret)
 (.seq (.ops (.m 24 2<|
.u 25 24<|
.b 26 .gtr .none (.t 25) (.i 70000)<|
.m 23 26<|
.nil))
 (.cond (.tmp 23) (.seq (.ops (.op (some 27) (.agg [.i, .i, .any, .any, .i, .any]) [] (.build [(V.int .i64 (Int.ofNat 0)), (V.int .i64 (Int.ofNat 0)), V.nils, V.nils, (V.int .i64 (Int.ofNat 0)), V.nils] [])<|
.op none (.agg [.i, .i, .any, .any, .i, .any]) [6, 27] (.store 6 (.t 6) (.t 27))<|
.q 7 5<|
.nil))
 .ret)
 (.seq (.ops (.m 29 2<|
.u 30 29<|
.b 31 .eql .none (.t 30) (.i 0)<|
.m 32 31<|
.grp 32 false (.op (some 33) (.agg [.str, .any, .any, .any]) [3, 32] (.load (some 4) (.t 3))<|
.op (some 34) .bool [33, 32] (.call 49 [(.t 33)])<|
.p 35 [34, 32] (.un .not (.t 34))<|
.nil) 36 [32, 35] (.t 32) (.con (V.bool true)) (.t 35)<|
.m 28 36<|
.nil))
 (.cond (.tmp 28) (.seq (.ops (.op (some 37) (.agg [.i, .i, .any, .any, .i, .any]) [] (.build [(V.int .i64 (Int.ofNat 0)), (V.int .i64 (Int.ofNat 0)), V.nils, V.nils, (V.int .i64 (Int.ofNat 0)), V.nils] [])<|
.op none (.agg [.i, .i, .any, .any, .i, .any]) [6, 37] (.store 6 (.t 6) (.t 37))<|
.q 7 4<|
.nil))
 .ret)
 .skip)))))))
 (.seq (.keep [(1, .i), (2, .any), (3, .ptr), (6, .ptr)] [] [] (.gdraw G32_0 H32_0 [(1, .i), (3, .ptr), (6, .ptr), (8, .ptr)]))
 (.seq (.ops (.m 45 8<|
.m 46 1<|
.k 47 (.agg [.i, .i, .any, .any, .i, .any]) 51 [(.t 45), (.t 46), (.i 1)]<|
.pal 9 [] 38 [(V.int .i64 (Int.ofNat 0)), (V.int .i64 (Int.ofNat 0)), V.nils, V.nils, (V.int .i64 (Int.ofNat 0)), V.nils]<|
.op none (.agg [.i, .i, .any, .any, .i, .any]) [9, 47] (.store 6 (.t 9) (.t 47))<|
.nil))
 (.seq (.seq (.ops (.m 48 8<|
.n 49 48<|
.f 50 0 49<|
.l 51 .any 50<|
.k 52 .i 52 [(.t 51)]<|
.b 53 .neq .none (.t 52) (.i 0)<|
.m 54 53<|
.grp 54 false (.op (some 55) (.agg [.str, .any, .any, .any]) [3, 54] (.load (some 4) (.t 3))<|
.p 56 [1, 54] (.mov (.t 1))<|
.op (some 57) (.agg [.i, .i, .any, .any, .i, .any]) [9, 54] (.load (some 6) (.t 9))<|
.op (some 58) .bool [55, 56, 57, 54] (.call 36 [(.t 55), (.t 56), (.t 57)])<|
.p 59 [58, 54] (.un .not (.t 58))<|
.nil) 60 [54, 59] (.t 54) (.con (V.bool true)) (.t 59)<|
.nil))
 (.cond (.tmp 60) (.seq (.ops (.op (some 61) (.agg [.i, .i, .any, .any, .i, .any]) [] (.build [(V.int .i64 (Int.ofNat 0)), (V.int .i64 (Int.ofNat 0)), V.nils, V.nils, (V.int .i64 (Int.ofNat 0)), V.nils] [])<|
.op none (.agg [.i, .i, .any, .any, .i, .any]) [6, 61] (.store 6 (.t 6) (.t 61))<|
.q 7 4<|
.nil))
 .ret)
 .skip))
 (.seq (.seq (.ops (.op (some 63) (.agg [.str, .any, .any, .any]) [3] (.load (some 4) (.t 3))<|
.m 64 1<|
.op (some 65) (.agg [.i, .i, .any, .any, .i, .any]) [9] (.load (some 6) (.t 9))<|
.k 66 (.tup [.any, .i]) 15 [(.t 63), (.t 64), (.t 65)]<|
.m 62 66<|
.p 67 [62] (.extract 0 (.t 62))<|
.p 68 [62] (.extract 1 (.t 62))<|
.m 10 67<|
.m 11 68<|
.nil))
 (.seq (.ops (.m 69 11<|
.b 70 .neq .none (.t 69) (.i 0)<|
.nil))
 (.cond (.tmp 70) (.seq (.ops (.op (some 71) (.agg [.i, .i, .any, .any, .i, .any]) [] (.build [(V.int .i64 (Int.ofNat 0)), (V.int .i64 (Int.ofNat 0)), V.nils, V.nils, (V.int .i64 (Int.ofNat 0)), V.nils] [])<|
.op none (.agg [.i, .i, .any, .any, .i, .any]) [6, 71] (.store 6 (.t 6) (.t 71))<|
.q 7 4<|
.nil))
 .ret)
 .skip)))
 (.seq (.ops (.op (some 72) (.agg [.i, .i, .any, .any, .i, .any]) [9] (.load (some 6) (.t 9))<|
.op none (.agg [.i, .i, .any, .any, .i, .any]) [6, 72] (.store 6 (.t 6) (.t 72))<|
.q 7 0<|
.nil))
 .ret)))))))
def T32_0 (v0_0 : BS) (v0_1 v0_2 v0_3 : V) (v1 : Int) (v2 : V) (σ : H) : Ans :=
 chk (allOne (V.cells (V.agg [(V.str v0_0), v0_1, v0_2, v0_3]))) (
 let s1 := newB σ (.cells (V.cells (V.agg [(V.str v0_0), v0_1, v0_2, v0_3])));
 let s2 := newB s1 (.cells [(V.int .i64 (Int.ofNat 0)), (V.int .i64 (Int.ofNat 0)), V.nils, V.nils, (V.int .i64 (Int.ofNat 0)), V.nils]);
 joinB (fun c3 s4 =>
 condK c3 (
 stK 6 (H.next s1) 0 (V.agg [(V.int .i64 (Int.ofNat 0)), (V.int .i64 (Int.ofNat 0)), V.nils, V.nils, (V.int .i64 (Int.ofNat 0)), V.nils]) s4 fun s6 =>
 ldnK E s6 (H.next s1) 0 6 fun u7 =>
 some ((V.tup [(V.agg u7), (V.int .i64 (Int.ofNat 9))]), s6)) (
 slenK v2 fun n8 =>
 condK (ltF (Int.ofNat 70000) (Int.ofNat n8)) (
 stK 6 (H.next s1) 0 (V.agg [(V.int .i64 (Int.ofNat 0)), (V.int .i64 (Int.ofNat 0)), V.nils, V.nils, (V.int .i64 (Int.ofNat 0)), V.nils]) s4 fun s9 =>
 ldnK E s9 (H.next s1) 0 6 fun u10 =>
 some ((V.tup [(V.agg u10), (V.int .i64 (Int.ofNat 5))]), s9)) (
 slenK v2 fun n11 =>
 joinB (fun c12 s13 =>
 condK c12 (
 stK 6 (H.next s1) 0 (V.agg [(V.int .i64 (Int.ofNat 0)), (V.int .i64 (Int.ofNat 0)), V.nils, V.nils, (V.int .i64 (Int.ofNat 0)), V.nils]) s13 fun s15 =>
 ldnK E s15 (H.next s1) 0 6 fun u16 =>
 some ((V.tup [(V.agg u16), (V.int .i64 (Int.ofNat 4))]), s15)) (
 gdrawK (W G32_0 H32_0 [(1, (V.int .i64 v1)), (2, v2), (3, (V.ptr (H.next σ) 0)), (6, (V.ptr (H.next s1) 0))] s13) fun e17 s18 =>
 getL e17 1 fun u19 =>
 rtInt .i64 u19 fun x20 =>
 getL e17 3 fun u21 =>
 rtPtr u21 fun b22 o23 =>
 getL e17 6 fun u24 =>
 rtPtr u24 fun b25 o26 =>
 getL e17 8 fun u27 =>
 rtPtr u27 fun b28 o29 =>
 callK (D 51 [(V.ptr b28 o29), (V.int .i64 x20), (V.int .i64 (Int.ofNat 1))] s18) fun u30 s31 =>
 rtAgg u30 fun l32 =>
 rtCons l32 fun x33 l34 =>
 rtInt .i64 x33 fun x35 =>
 rtCons l34 fun x36 l37 =>
 rtInt .i64 x36 fun x38 =>
 rtCons l37 fun x39 l40 =>
 rtCons l40 fun x41 l42 =>
 rtCons l42 fun x43 l44 =>
 rtInt .i64 x43 fun x45 =>
 rtCons l44 fun x46 l47 =>
 rtNil l47 (
 chk (allOne [(V.int .i64 x35), (V.int .i64 x38), x39, x41, (V.int .i64 x45), x46]) (
 ldK E s31 b28 o29 fun u48 =>
 callK (D 52 [u48] s31) fun u49 s50 =>
 rtInt .i64 u49 fun x51 =>
 joinB (fun c52 s53 =>
 condK c52 (
 stK 6 b25 o26 (V.agg [(V.int .i64 (Int.ofNat 0)), (V.int .i64 (Int.ofNat 0)), V.nils, V.nils, (V.int .i64 (Int.ofNat 0)), V.nils]) s53 fun s55 =>
 ldnK E s55 b25 o26 6 fun u56 =>
 some ((V.tup [(V.agg u56), (V.int .i64 (Int.ofNat 4))]), s55)) (
 ldnK E s53 b22 o23 4 fun l57 =>
 rtCons l57 fun x58 l59 =>
 rtStr x58 fun x60 =>
 rtCons l59 fun x61 l62 =>
 rtCons l62 fun x63 l64 =>
 rtCons l64 fun x65 l66 =>
 rtNil l66 (
 callK (D 15 [(V.agg [(V.str x60), x61, x63, x65]), (V.int .i64 x20), (V.agg [(V.int .i64 x35), (V.int .i64 x38), x39, x41, (V.int .i64 x45), x46])] s53) fun u67 s68 =>
 rtTup u67 fun l69 =>
 rtCons l69 fun x70 l71 =>
 rtCons l71 fun x72 l73 =>
 rtInt .i64 x72 fun x74 =>
 rtNil l73 (
 condK (not (eqF x74 (Int.ofNat 0))) (
 stK 6 b25 o26 (V.agg [(V.int .i64 (Int.ofNat 0)), (V.int .i64 (Int.ofNat 0)), V.nils, V.nils, (V.int .i64 (Int.ofNat 0)), V.nils]) s68 fun s75 =>
 ldnK E s75 b25 o26 6 fun u76 =>
 some ((V.tup [(V.agg u76), (V.int .i64 (Int.ofNat 4))]), s75)) (
 stK 6 b25 o26 (V.agg [(V.int .i64 x35), (V.int .i64 x38), x39, x41, (V.int .i64 x45), x46]) s68 fun s77 =>
 ldnK E s77 b25 o26 6 fun u78 =>
 some ((V.tup [(V.agg u78), (V.int .i64 (Int.ofNat 0))]), s77)))))) fun k54 =>
 condK (not (eqF x51 (Int.ofNat 0))) (
 k54 true s50) (
 ldnK E s50 b22 o23 4 fun l79 =>
 rtCons l79 fun x80 l81 =>
 rtStr x80 fun x82 =>
 rtCons l81 fun x83 l84 =>
 rtCons l84 fun x85 l86 =>
 rtCons l86 fun x87 l88 =>
 rtNil l88 (
 callK (D 36 [(V.agg [(V.str x82), x83, x85, x87]), (V.int .i64 x20), (V.agg [(V.int .i64 x35), (V.int .i64 x38), x39, x41, (V.int .i64 x45), x46])] s50) fun u89 s90 =>
 rtBool u89 fun x91 =>
 k54 (not x91) s90)))))) fun k14 =>
 condK (eqF (Int.ofNat n11) (Int.ofNat 0)) (
 k14 true s4) (
 ldnK E s4 (H.next σ) 0 4 fun l92 =>
 rtCons l92 fun x93 l94 =>
 rtStr x93 fun x95 =>
 rtCons l94 fun x96 l97 =>
 rtCons l97 fun x98 l99 =>
 rtCons l99 fun x100 l101 =>
 rtNil l101 (
 callK (D 49 [(V.agg [(V.str x95), x96, x98, x100])] s4) fun u102 s103 =>
 rtBool u102 fun x104 =>
 k14 (not x104) s103))))) fun k5 =>
 condK (ltF v1 (Int.ofNat 0)) (
 k5 true s2) (
 ldK E s2 (H.next σ) 3 fun u105 =>
 slenK u105 fun n106 =>
 k5 (leF (Int.ofNat n106) v1) s2))
def S32_0 (v0_0 : BS) (v0_1 v0_2 v0_3 : V) (v1 : Int) (v2 : V) (σ : H) : St := ⟨[(0, (V.agg [(V.str v0_0), v0_1, v0_2, v0_3])), (1, (V.int .i64 v1)), (2, v2)], [], [], σ⟩
theorem P32_0 (v0_0 : BS) (v0_1 v0_2 v0_3 : V) (v1 : Int) (v2 : V) (σ : H) :
 denC E D W N (C32_0 ) (S32_0 v0_0 v0_1 v0_2 v0_3 v1 v2 σ) (Fin32 E) (fun _ _ => none) (Fin32 E) =
 T32_0 E D W  v0_0 v0_1 v0_2 v0_3 v1 v2 σ := by kernel_rfl
def J32_0 (E : List (Nat × Blk)) (D : Den) (W : DrawFn) (N : Nat) : BS → V → V → V → Int → V → H → Ans := T32_0 E D W
theorem JE32_0 (v0_0 : BS) (v0_1 v0_2 v0_3 : V) (v1 : Int) (v2 : V) (σ : H) :
 denC E D W N C32_0 (S32_0 v0_0 v0_1 v0_2 v0_3 v1 v2 σ) (Fin32 E) (fun _ _ => none) (Fin32 E) = J32_0 E D W N v0_0 v0_1 v0_2 v0_3 v1 v2 σ := by
 refine (P32_0 E D W N   v0_0 v0_1 v0_2 v0_3 v1 v2 σ).trans ?_
 kernel_rfl
def F32 (args : List V) (σ : H) : Ans :=
 rtCons args fun x1 l2 =>
 rtAgg x1 fun l3 =>
 rtCons l3 fun x4 l5 =>
 rtStr x4 fun x6 =>
 rtCons l5 fun x7 l8 =>
 rtCons l8 fun x9 l10 =>
 rtCons l10 fun x11 l12 =>
 rtNil l12 (
 rtCons l2 fun x13 l14 =>
 rtInt .i64 x13 fun x15 =>
 rtCons l14 fun x16 l17 =>
 rtNil l17 (
 J32_0 E D W N x6 x7 x9 x11 x15 x16 σ))
def A32 : XFn := ⟨73, [(.agg [.str, .any, .any, .any]), .i, .any], [(.cell 6 (some 6)), (.tmp 7)], C32_0⟩
theorem FE32 (args : List V) (σ : H) : runX E D W N A32 args σ = F32 E D W N args σ := by
 unfold F32
 simp only [← JE32_0]
 kernel_rfl
theorem AO32 : A32.body.ok = true := by kernel_rfl
def C33_0 : XC := (.seq (.ops (.p 2 [0] (.box 38 (.t 0))<|
.p 3 [1] (.box 38 (.t 1))<|
.c 4 (V.bool false)<|
.nil))
 (.seq (.ops (.f 5 0 2<|
.l 6 .i 5<|
.f 7 0 3<|
.l 8 .i 7<|
.b 9 .eql .none (.t 6) (.t 8)<|
.m 10 9<|
.grp 10 true (.p 11 [2, 10] (.faddr 1 (.t 2))<|
.op (some 12) .i [11, 10] (.load none (.t 11))<|
.p 13 [3, 10] (.faddr 1 (.t 3))<|
.op (some 14) .i [13, 10] (.load none (.t 13))<|
.p 15 [12, 14, 10] (.bin .eql .none (.t 12) (.t 14))<|
.nil) 16 [10, 15] (.t 10) (.t 15) (.con (V.bool false))<|
.m 17 16<|
.grp 17 true (.p 18 [2, 17] (.faddr 2 (.t 2))<|
.p 19 [18, 17] (.load none (.t 18))<|
.p 20 [3, 17] (.faddr 2 (.t 3))<|
.p 21 [20, 17] (.load none (.t 20))<|
.op (some 22) .bool [19, 21, 17] (.call 22 [(.t 19), (.t 21)])<|
.nil) 23 [17, 22] (.t 17) (.t 22) (.con (V.bool false))<|
.m 24 23<|
.grp 24 true (.p 25 [2, 24] (.faddr 3 (.t 2))<|
.p 26 [25, 24] (.load none (.t 25))<|
.p 27 [3, 24] (.faddr 3 (.t 3))<|
.p 28 [27, 24] (.load none (.t 27))<|
.op (some 29) .bool [26, 28, 24] (.call 53 [(.t 26), (.t 28), (.con (V.fn 33 [] []))])<|
.nil) 30 [24, 29] (.t 24) (.t 29) (.con (V.bool false))<|
.m 31 30<|
.grp 31 true (.p 32 [2, 31] (.faddr 4 (.t 2))<|
.op (some 33) .i [32, 31] (.load none (.t 32))<|
.p 34 [3, 31] (.faddr 4 (.t 3))<|
.op (some 35) .i [34, 31] (.load none (.t 34))<|
.p 36 [33, 35, 31] (.bin .eql .none (.t 33) (.t 35))<|
.nil) 37 [31, 36] (.t 31) (.t 36) (.con (V.bool false))<|
.m 38 37<|
.grp 38 true (.p 39 [2, 38] (.faddr 5 (.t 2))<|
.p 40 [39, 38] (.load none (.t 39))<|
.p 41 [3, 38] (.faddr 5 (.t 3))<|
.p 42 [41, 38] (.load none (.t 41))<|
.op (some 43) .bool [40, 42, 38] (.call 54 [(.t 40), (.t 42), (.con (V.fn 55 [] []))])<|
.nil) 44 [38, 43] (.t 38) (.t 43) (.con (V.bool false))<|
.m 4 44<|
.nil))
 .ret))
def A33 : XFn := ⟨45, [(.agg [.i, .i, .any, .any, .i, .any]), (.agg [.i, .i, .any, .any, .i, .any])], [(.tmp 4)], C33_0⟩
def G34_0 : List AOper := [⟨(some 140), .build [(V.str ⟨0, 0⟩), (V.int .i64 (Int.ofNat 0)), V.nils, V.nils, V.nils] [], none⟩, ⟨(some 141), .mov (.tmp 8), none⟩, ⟨(some 142), .nilck (.tmp 141), none⟩, ⟨(some 143), .faddr 8 (.tmp 142), none⟩, ⟨(some 144), .load none (.tmp 143), none⟩, ⟨(some 145), .mov (.tmp 8), none⟩, ⟨(some 146), .nilck (.tmp 145), none⟩, ⟨(some 147), .faddr 7 (.tmp 146), none⟩, ⟨(some 148), .load none (.tmp 147), none⟩, ⟨none, .store 5 (.tmp 2) (.tmp 140), none⟩, ⟨(some 3), .mov (.tmp 144), none⟩, ⟨(some 4), .mov (.tmp 148), none⟩]
def H34_0 : List DP := [⟨0, []⟩, ⟨0, [8]⟩, ⟨2, [141]⟩, ⟨6, [142]⟩, ⟨14, [143]⟩, ⟨0, [8]⟩, ⟨32, [145]⟩, ⟨96, [146]⟩, ⟨224, [147]⟩, ⟨1, [2, 140]⟩, ⟨543, [144]⟩, ⟨2047, [148]⟩]
def C34_0 (cc1 : XC) : XC := (.seq (.ops (.p 2 [] (.alloc 76 [(V.str ⟨0, 0⟩), (V.int .i64 (Int.ofNat 0)), V.nils, V.nils, V.nils])<|
.q 3 0<|
.q 4 0<|
.nil))
 (.seq (.ops (.m 13 0<|
.k 14 (.tup [.any, .i, .i]) 56 [(.t 13)]<|
.m 12 14<|
.p 15 [12] (.extract 0 (.t 12))<|
.p 16 [12] (.extract 1 (.t 12))<|
.p 17 [12] (.extract 2 (.t 12))<|
.m 5 15<|
.m 6 16<|
.m 7 17<|
.nil))
 (.seq (.seq (.ops (.m 18 7<|
.b 19 .neq .none (.t 18) (.i 0)<|
.nil))
 (.cond (.tmp 19) (.seq (.ops (.op (some 20) (.agg [.str, .i, .any, .any, .any]) [] (.build [(V.str ⟨0, 0⟩), (V.int .i64 (Int.ofNat 0)), V.nils, V.nils, V.nils] [])<|
.m 21 6<|
.m 22 7<|
.op none (.agg [.str, .i, .any, .any, .any]) [2, 20] (.store 5 (.t 2) (.t 20))<|
.m 3 21<|
.m 4 22<|
.nil))
 .ret)
 .skip))
 (.seq (.ops (.m 23 5<|
.op (some 24) (.agg [.any, .i, .str, .i, .any, .any, .any, .i, .i]) [23] (.build [V.nils, (V.int .i64 (Int.ofNat 0)), (V.str ⟨0, 0⟩), (V.int .i64 (Int.ofNat 0)), V.nils, V.nils, V.nils, (V.int .i64 (Int.ofNat 0)), (V.int .i64 (Int.ofNat 0))] [(0, 1, (.t 23))])<|
.p 25 [24] (.box 116 (.t 24))<|
.m 8 25<|
.nil))
 (.seq (.ops (.m 26 8<|
.m 27 8<|
.k 28 .str 57 [(.t 27), (.i 1)]<|
.n 29 26<|
.f 30 2 29<|
.f 31 0 30<|
.w 1 31 28<|
.nil))
 (.seq (.ops (.m 32 8<|
.k 33 (.tup []) 58 [(.t 32), (.con (V.str ⟨11, 100710650190388740279911748⟩))]<|
.nil))
 (.seq (.block 0 (.seq (.ops (.m 35 8<|
.k 36 .bool 59 [(.t 35), (.con (V.str ⟨8, 6073459554577832005⟩))]<|
.m 34 36<|
.nil))
 (.cond (.tmp 34) (.ops (.m 37 8<|
.k 38 (.tup []) 58 [(.t 37), (.con (V.str ⟨4, 1397178708⟩))]<|
.nil))
 (.seq (.ops (.m 40 8<|
.k 41 .bool 59 [(.t 40), (.con (V.str ⟨8, 6073459554577829193⟩))]<|
.m 39 41<|
.nil))
 (.cond (.tmp 39) (.seq (.ops (.m 42 8<|
.n 43 42<|
.f 44 2 43<|
.f 45 1 44<|
.op none .any [45] (.store 1 (.t 45) (.i 1))<|
.nil))
 (.ops (.m 46 8<|
.k 47 (.tup []) 58 [(.t 46), (.con (V.str ⟨4, 1397178708⟩))]<|
.nil)))
 (.seq (.ops (.m 49 8<|
.k 50 .bool 59 [(.t 49), (.con (V.str ⟨9, 1241215773001651606849⟩))]<|
.m 48 50<|
.nil))
 (.cond (.tmp 48) (.seq (.ops (.m 51 8<|
.n 52 51<|
.f 53 2 52<|
.f 54 1 53<|
.op none .any [54] (.store 1 (.t 54) (.i 2))<|
.nil))
 (.ops (.m 55 8<|
.k 56 (.tup []) 58 [(.t 55), (.con (V.str ⟨4, 1397178708⟩))]<|
.nil)))
 .skip)))))))
 (.keep [(2, .ptr), (8, .ptr)] [] [] cc1))))))))
def C34_1 (cc2 : XC) (cc3 : XC) : XC := (.seq (.ops (.m 57 8<|
.k 58 (.tup []) 58 [(.t 57), (.con (V.str ⟨3, 4012602⟩))]<|
.nil))
 (.seq (.ops (.m 59 8<|
.k 60 (.tup []) 58 [(.t 59), (.con (V.str ⟨5, 336236856642⟩))]<|
.nil))
 (.seq (.block 1 (.loop [(2, .ptr), (8, .ptr)] [] [] cc3))
 (.keep [(2, .ptr), (8, .ptr)] [] [] cc2))))
def C34_2 (cc5 : XC) : XC := (.seq (.seq (.ops (.m 120 8<|
.n 121 120<|
.f 122 7 121<|
.l 123 .i 122<|
.b 124 .eql .none (.t 123) (.i 0)<|
.m 125 124<|
.grp 125 true (.p 126 [8, 125] (.mov (.t 8))<|
.op (some 127) (.agg [.i, .str, .i]) [126, 125] (.call 60 [(.t 126)])<|
.op (some 128) .i [127, 125] (.field 0 none (.t 127))<|
.p 129 [128, 125] (.bin .neq .none (.t 128) (.i 0))<|
.nil) 130 [125, 129] (.t 125) (.t 129) (.con (V.bool false))<|
.nil))
 (.cond (.tmp 130) (.ops (.m 131 8<|
.m 132 8<|
.k 133 (.agg [.i, .str, .i]) 60 [(.t 132)]<|
.k 134 (.tup []) 61 [(.t 131), (.i 7), (.t 133)]<|
.nil))
 .skip))
 (.keep [(2, .ptr), (8, .ptr)] [] [] cc5))
def C34_3 (cc4 : XC) : XC := (.seq (.seq (.ops (.m 61 8<|
.n 62 61<|
.f 63 7 62<|
.l 64 .i 63<|
.b 65 .eql .none (.t 64) (.i 0)<|
.m 66 65<|
.grp 66 true (.p 67 [8, 66] (.mov (.t 8))<|
.op (some 68) .bool [67, 66] (.call 59 [(.t 67), (.con (V.str ⟨3, 4476485⟩))])<|
.p 69 [68, 66] (.un .not (.t 68))<|
.nil) 70 [66, 69] (.t 66) (.t 69) (.con (V.bool false))<|
.nil))
 (.cond (.tmp 70) .skip
 (.exit 1)))
 (.block 2 (.seq (.ops (.m 71 8<|
.k 72 (.agg [.i, .str, .i]) 60 [(.t 71)]<|
.pal 9 [] 121 [(V.int .i64 (Int.ofNat 0)), (V.str ⟨0, 0⟩), (V.int .i64 (Int.ofNat 0))]<|
.op none (.agg [.i, .str, .i]) [9, 72] (.store 3 (.t 9) (.t 72))<|
.nil))
 (.seq (.ops (.m 73 8<|
.k 74 .str 57 [(.t 73), (.i 1)]<|
.m 10 74<|
.nil))
 (.seq (.seq (.ops (.m 75 8<|
.n 76 75<|
.f 77 7 76<|
.l 78 .i 77<|
.b 79 .eql .none (.t 78) (.i 0)<|
.m 80 79<|
.grp 80 true (.p 81 [8, 80] (.mov (.t 8))<|
.p 82 [81, 80] (.nilck (.t 81))<|
.p 83 [82, 80] (.faddr 2 (.t 82))<|
.p 84 [83, 80] (.faddr 2 (.t 83))<|
.p 85 [84, 80] (.load none (.t 84))<|
.p 86 [85, 80] (.len false (.t 85))<|
.p 87 [86, 80] (.bin .geq .none (.t 86) (.i 40))<|
.nil) 88 [80, 87] (.t 80) (.t 87) (.con (V.bool false))<|
.nil))
 (.cond (.tmp 88) (.ops (.m 89 8<|
.op (some 90) (.agg [.i, .str, .i]) [9] (.load (some 3) (.t 9))<|
.k 91 (.tup []) 61 [(.t 89), (.i 5), (.t 90)]<|
.nil))
 .skip))
 (.keep [(2, .ptr), (8, .ptr), (10, .str)] [] [] cc4))))))
def C34_4 : XC := (.seq (.ops (.m 92 8<|
.k 93 (.tup []) 58 [(.t 92), (.con (V.str ⟨3, 4012602⟩))]<|
.nil))
 (.seq (.ops (.m 94 8<|
.k 95 .i 62 [(.t 94), (.i 0)]<|
.m 11 95<|
.nil))
 (.seq (.ops (.m 96 8<|
.m 97 8<|
.n 98 97<|
.f 99 2 98<|
.f 100 2 99<|
.l 101 .any 100<|
.m 102 10<|
.p 103 [102] (.buildSlice 9 1 [(V.str ⟨0, 0⟩)] [(0, 1, (.t 102))])<|
.op (some 104) .one [101, 103] (.append 9 1 16 (.t 101) (.t 103))<|
.n 105 96<|
.f 106 2 105<|
.f 107 2 106<|
.w 1 107 104<|
.nil))
 (.ops (.m 108 8<|
.m 109 8<|
.n 110 109<|
.f 111 2 110<|
.f 112 3 111<|
.l 113 .any 112<|
.m 114 11<|
.p 115 [114] (.buildSlice 3 1 [(V.int .i64 (Int.ofNat 0))] [(0, 1, (.t 114))])<|
.op (some 116) .one [113, 115] (.append 3 1 8 (.t 113) (.t 115))<|
.n 117 108<|
.f 118 2 117<|
.f 119 3 118<|
.w 1 119 116<|
.nil)))))
def C34_5 : XC := (.seq (.seq (.ops (.m 135 8<|
.n 136 135<|
.f 137 7 136<|
.l 138 .i 137<|
.b 139 .neq .none (.t 138) (.i 0)<|
.nil))
 (.cond (.tmp 139) (.seq (.keep [(2, .ptr), (8, .ptr)] [] [] (.gdraw G34_0 H34_0 [(2, .ptr), (3, .i), (4, .i)]))
 .ret)
 .skip))
 (.seq (.ops (.m 149 8<|
.n 150 149<|
.f 151 2 150<|
.op (some 152) (.agg [.str, .i, .any, .any, .any]) [151] (.load (some 5) (.t 151))<|
.op none (.agg [.str, .i, .any, .any, .any]) [2, 152] (.store 5 (.t 2) (.t 152))<|
.q 3 0<|
.q 4 0<|
.nil))
 .ret))
def A34 : XFn := ⟨153, [.str], [(.cell 2 (some 5)), (.tmp 3), (.tmp 4)], (C34_0 (C34_1 (C34_2 C34_5) (C34_3 C34_4)))⟩
def G35_0 : List AOper := [⟨(some 25), .faddr 0 (.tmp 1), none⟩, ⟨(some 26), .load none (.tmp 25), none⟩, ⟨(some 27), .faddr 2 (.tmp 1), none⟩, ⟨(some 28), .load none (.tmp 27), none⟩, ⟨(some 29), .append 9 1 16 (.con V.nils) (.tmp 28), none⟩, ⟨(some 30), .build [(V.str ⟨0, 0⟩), V.nils, V.nils, V.nils] [(0, 1, (.tmp 26)), (1, 1, (.tmp 29))], none⟩, ⟨(some 9), .alloc 30 [(V.str ⟨0, 0⟩), V.nils, V.nils, V.nils], none⟩, ⟨none, .store 4 (.tmp 9) (.tmp 30), none⟩]
def H35_0 : List DP := [⟨0, [1]⟩, ⟨1, [25]⟩, ⟨0, [1]⟩, ⟨4, [27]⟩, ⟨12, [28]⟩, ⟨31, [26, 29]⟩, ⟨0, []⟩, ⟨127, [9, 30]⟩]
def G35_1 : List AOper := [⟨(some 38), .faddr 2 (.tmp 9), none⟩, ⟨(some 39), .load none (.tmp 38), none⟩, ⟨(some 40), .mov (.tmp 8), none⟩, ⟨(some 41), .faddr 3 (.tmp 1), none⟩, ⟨(some 42), .load none (.tmp 41), none⟩, ⟨(some 43), .mov (.tmp 10), none⟩, ⟨(some 44), .iaddrS 1 (.tmp 42) (.tmp 43), none⟩, ⟨(some 45), .load none (.tmp 44), none⟩, ⟨(some 46), .call 64 [(.tmp 40), (.tmp 45), (.con (V.int .i64 (Int.ofNat 0)))], none⟩, ⟨(some 47), .buildSlice 3 1 [(V.int .i64 (Int.ofNat 0))] [(0, 1, (.tmp 46))], none⟩, ⟨(some 48), .append 3 1 8 (.tmp 39) (.tmp 47), none⟩, ⟨(some 49), .faddr 2 (.tmp 9), none⟩, ⟨none, .store 1 (.tmp 49) (.tmp 48), none⟩]
def H35_1 : List DP := [⟨0, [9]⟩, ⟨1, [38]⟩, ⟨0, [8]⟩, ⟨0, [1]⟩, ⟨8, [41]⟩, ⟨0, [10]⟩, ⟨56, [42, 43]⟩, ⟨120, [44]⟩, ⟨252, [40, 45]⟩, ⟨508, [46]⟩, ⟨1023, [39, 47]⟩, ⟨2047, [9]⟩, ⟨4095, [49, 48]⟩]
def G35_2 : List AOper := [⟨(some 55), .build [(V.str ⟨0, 0⟩), V.nils, V.nils, V.nils] [], none⟩, ⟨(some 56), .mov (.tmp 10), none⟩, ⟨(some 57), .mov (.tmp 8), none⟩, ⟨(some 58), .nilck (.tmp 57), none⟩, ⟨(some 59), .faddr 6 (.tmp 58), none⟩, ⟨(some 60), .load none (.tmp 59), none⟩, ⟨none, .store 4 (.tmp 2) (.tmp 55), none⟩, ⟨(some 3), .mov (.tmp 56), none⟩, ⟨(some 4), .mov (.tmp 60), none⟩]
def H35_2 : List DP := [⟨0, []⟩, ⟨0, [10]⟩, ⟨0, [8]⟩, ⟨4, [57]⟩, ⟨12, [58]⟩, ⟨28, [59]⟩, ⟨1, [2, 55]⟩, ⟨67, [56]⟩, ⟨255, [60]⟩]
def C35_0 (cc1 : XC) (cc2 : XC) : XC := (.seq (.ops (.p 1 [0] (.box 76 (.t 0))<|
.p 2 [] (.alloc 30 [(V.str ⟨0, 0⟩), V.nils, V.nils, V.nils])<|
.q 3 0<|
.q 4 0<|
.nil))
 (.seq (.ops (.op (some 12) (.agg [.str, .i, .any, .any, .any]) [1] (.load (some 5) (.t 1))<|
.k 13 (.tup [.any, .i, .i]) 63 [(.t 12)]<|
.m 11 13<|
.p 14 [11] (.extract 0 (.t 11))<|
.p 15 [11] (.extract 1 (.t 11))<|
.p 16 [11] (.extract 2 (.t 11))<|
.m 5 14<|
.m 6 15<|
.m 7 16<|
.nil))
 (.seq (.seq (.ops (.m 17 7<|
.b 18 .neq .none (.t 17) (.i 0)<|
.nil))
 (.cond (.tmp 18) (.seq (.ops (.op (some 19) (.agg [.str, .any, .any, .any]) [] (.build [(V.str ⟨0, 0⟩), V.nils, V.nils, V.nils] [])<|
.m 20 6<|
.m 21 7<|
.op none (.agg [.str, .any, .any, .any]) [2, 19] (.store 4 (.t 2) (.t 19))<|
.m 3 20<|
.m 4 21<|
.nil))
 .ret)
 .skip))
 (.seq (.ops (.op (some 22) (.agg [.str, .i, .any, .any, .any]) [1] (.load (some 5) (.t 1))<|
.op (some 23) (.agg [.str, .i, .any, .any, .any, .any, .i]) [22] (.build [(V.str ⟨0, 0⟩), (V.int .i64 (Int.ofNat 0)), V.nils, V.nils, V.nils, V.nils, (V.int .i64 (Int.ofNat 0))] [(0, 5, (.t 22))])<|
.p 24 [23] (.box 129 (.t 23))<|
.m 8 24<|
.nil))
 (.seq (.keep [(1, .ptr), (2, .ptr), (8, .ptr)] [] [] (.gdraw G35_0 H35_0 [(1, .ptr), (2, .ptr), (8, .ptr), (9, .ptr)]))
 (.seq (.seq (.ops (.q 10 0<|
.nil))
 (.block 0 (.loop [(1, .ptr), (2, .ptr), (8, .ptr), (9, .ptr), (10, .i)] [] [] cc2)))
 (.keep [(2, .ptr), (8, .ptr), (9, .ptr)] [] [] cc1)))))))
def C35_1 : XC := (.seq (.ops (.m 61 8<|
.n 62 61<|
.f 63 5 62<|
.l 64 .any 63<|
.f 65 3 9<|
.w 1 65 64<|
.nil))
 (.seq (.ops (.op (some 66) (.agg [.str, .any, .any, .any]) [9] (.load (some 4) (.t 9))<|
.op none (.agg [.str, .any, .any, .any]) [2, 66] (.store 4 (.t 2) (.t 66))<|
.q 3 0<|
.q 4 0<|
.nil))
 .ret))
def C35_2 : XC := (.seq (.seq (.ops (.m 31 10<|
.f 32 2 1<|
.l 33 .any 32<|
.u 34 33<|
.b 35 .lss .none (.t 31) (.t 34)<|
.nil))
 (.cond (.tmp 35) .skip
 (.exit 0)))
 (.seq (.block 1 (.seq (.keep [(1, .ptr), (2, .ptr), (8, .ptr), (9, .ptr), (10, .i)] [] [] (.gdraw G35_1 H35_1 [(1, .ptr), (2, .ptr), (8, .ptr), (9, .ptr), (10, .i)]))
 (.seq (.ops (.m 50 8<|
.n 51 50<|
.f 52 6 51<|
.l 53 .i 52<|
.b 54 .neq .none (.t 53) (.i 0)<|
.nil))
 (.cond (.tmp 54) (.seq (.keep [(2, .ptr), (8, .ptr), (10, .i)] [] [] (.gdraw G35_2 H35_2 [(2, .ptr), (3, .i), (4, .i)]))
 .ret)
 .skip))))
 (.ops (.m 36 10<|
.b 37 .add .none (.t 36) (.i 1)<|
.m 10 37<|
.nil))))
def A35 : XFn := ⟨67, [(.agg [.str, .i, .any, .any, .any])], [(.cell 2 (some 4)), (.tmp 3), (.tmp 4)], (C35_0 C35_1 C35_2)⟩
def C36_0 : XC := (.seq (.ops (.p 3 [0] (.box 30 (.t 0))<|
.p 5 [2] (.box 38 (.t 2))<|
.c 6 (V.bool false)<|
.nil))
 (.seq (.ops (.op (some 8) (.agg [.str, .any, .any, .any]) [3] (.load (some 4) (.t 3))<|
.op (some 9) (.agg [.str, .any, .any, .any]) [8] (.build [(V.str ⟨0, 0⟩), V.nils, V.nils, V.nils] [(0, 4, (.t 8))])<|
.op (some 10) (.agg [.str, .any, .any, .any, .bool]) [9] (.build [(V.str ⟨0, 0⟩), V.nils, V.nils, V.nils, (V.bool false)] [(0, 4, (.t 9))])<|
.p 11 [10] (.box 135 (.t 10))<|
.m 7 11<|
.nil))
 (.seq (.ops (.m 12 7<|
.m 13 1<|
.op (some 14) (.agg [.i, .i, .any, .any, .i, .any]) [5] (.load (some 6) (.t 5))<|
.k 15 .bool 65 [(.t 12), (.t 13), (.t 14), (.i 1)]<|
.m 16 15<|
.grp 16 true (.op (some 17) (.agg [.i, .i, .any, .any, .i, .any]) [5, 16] (.load (some 6) (.t 5))<|
.op (some 18) .i [17, 16] (.call 66 [(.t 17)])<|
.p 19 [18, 16] (.bin .leq .none (.t 18) (.i 5000))<|
.nil) 20 [16, 19] (.t 16) (.t 19) (.con (V.bool false))<|
.m 6 20<|
.nil))
 .ret)))
def A36 : XFn := ⟨21, [(.agg [.str, .any, .any, .any]), .i, (.agg [.i, .i, .any, .any, .i, .any])], [(.tmp 6)], C36_0⟩
def C37_0 : XC := (.seq (.ops (.p 1 [0] (.box 30 (.t 0))<|
.c 2 (V.bool false)<|
.nil))
 (.seq (.ops (.f 3 3 1<|
.l 4 .any 3<|
.k 5 .bool 67 [(.t 4), (.con (V.fn 68 [] []))]<|
.p 6 [5] (.un .not (.t 5))<|
.m 2 6<|
.nil))
 .ret))
def A37 : XFn := ⟨7, [(.agg [.str, .any, .any, .any])], [(.tmp 2)], C37_0⟩
def C38_0 : XC := (.seq (.ops (.p 2 [0] (.box 38 (.t 0))<|
.p 3 [1] (.box 3 (.t 1))<|
.c 4 (V.bool false)<|
.nil))
 (.seq (.ops (.f 5 4 2<|
.l 6 .i 5<|
.b 7 .eql .none (.t 6) (.i 0)<|
.m 8 7<|
.grp 8 false (.p 9 [2, 8] (.faddr 4 (.t 2))<|
.op (some 10) .i [9, 8] (.load none (.t 9))<|
.op (some 11) .i [3, 8] (.load none (.t 3))<|
.p 12 [10, 11, 8] (.bin .eql .none (.t 10) (.t 11))<|
.nil) 13 [8, 12] (.t 8) (.con (V.bool true)) (.t 12)<|
.m 14 13<|
.grp 14 true (.p 15 [2, 14] (.faddr 3 (.t 2))<|
.p 16 [15, 14] (.load none (.t 15))<|
.p 17 [3, 14] (.mkfn 70 [] [(.t 3)])<|
.op (some 18) .bool [16, 17, 14] (.call 69 [(.t 16), (.t 17)])<|
.p 19 [18, 14] (.un .not (.t 18))<|
.nil) 20 [14, 19] (.t 14) (.t 19) (.con (V.bool false))<|
.m 4 20<|
.nil))
 .ret))
def A38 : XFn := ⟨21, [(.agg [.i, .i, .any, .any, .i, .any]), .i], [(.tmp 4)], C38_0⟩
def G39_0 : List AOper := [⟨(some 40), .load none (.tmp 3), none⟩, ⟨(some 41), .nilck (.tmp 40), none⟩, ⟨(some 42), .faddr 0 (.tmp 41), none⟩, ⟨(some 43), .load none (.tmp 42), none⟩, ⟨(some 44), .faddr 2 (.tmp 5), none⟩, ⟨(some 45), .load none (.tmp 44), none⟩, ⟨(some 46), .buildSlice 34 1 [V.nils] [(0, 1, (.tmp 45))], none⟩, ⟨(some 47), .call 74 [(.tmp 43), (.tmp 46)], none⟩]
def H39_0 : List DP := [⟨0, [3]⟩, ⟨1, [40]⟩, ⟨3, [41]⟩, ⟨7, [42]⟩, ⟨0, [5]⟩, ⟨16, [44]⟩, ⟨48, [45]⟩, ⟨127, [43, 46]⟩]
def C39_0 (cc1 : XC) : XC := (.seq (.ops (.p 3 [0] (.box 84 (.t 0))<|
.p 5 [2] (.box 38 (.t 2))<|
.nil))
 (.seq (.ops (.l 7 .any 3<|
.n 8 7<|
.f 9 1 8<|
.f 10 3 9<|
.l 11 .any 10<|
.m 12 1<|
.s 13 13 11 12<|
.op (some 14) (.agg [.i, .any, .bool, .bool, .bool, .bool, .i, .i, .any, .any, .i, .bool, .i]) [13] (.load (some 13) (.t 13))<|
.p 6 [] (.alloc 145 [(V.int .i64 (Int.ofNat 0)), V.nils, (V.bool false), (V.bool false), (V.bool false), (V.bool false), (V.int .i64 (Int.ofNat 0)), (V.int .i64 (Int.ofNat 0)), V.nils, V.nils, (V.int .i64 (Int.ofNat 0)), (V.bool false), (V.int .i64 (Int.ofNat 0))])<|
.op none (.agg [.i, .any, .bool, .bool, .bool, .bool, .i, .i, .any, .any, .i, .bool, .i]) [6, 14] (.store 13 (.t 6) (.t 14))<|
.nil))
 (.seq (.ops (.f 15 0 6<|
.l 16 .i 15<|
.nil))
 (.block 0 (.seq (.ops (.b 18 .eql .none (.t 16) (.i 1)<|
.m 17 18<|
.nil))
 (.cond (.tmp 17) (.ops (.l 19 .any 3<|
.f 20 1 5<|
.l 21 .i 20<|
.b 22 .eql .none (.t 21) (.i 1)<|
.k 23 (.tup []) 71 [(.t 19), (.t 22)]<|
.nil))
 (.seq (.ops (.b 25 .eql .none (.t 16) (.i 2)<|
.m 24 25<|
.nil))
 (.cond (.tmp 24) (.ops (.l 26 .any 3<|
.f 27 2 6<|
.op (some 28) (.agg [.bool, .bool, .bool, .bool, .i, .i]) [27] (.load (some 6) (.t 27))<|
.f 29 1 5<|
.l 30 .i 29<|
.k 31 (.tup []) 72 [(.t 26), (.t 28), (.t 30)]<|
.nil))
 (.seq (.ops (.b 33 .eql .none (.t 16) (.i 3)<|
.m 32 33<|
.nil))
 (.cond (.tmp 32) (.ops (.l 34 .any 3<|
.m 35 1<|
.op (some 36) (.agg [.i, .i, .any, .any, .i, .any]) [5] (.load (some 6) (.t 5))<|
.k 37 (.tup []) 73 [(.t 34), (.t 35), (.t 36)]<|
.nil))
 (.seq (.ops (.b 39 .eql .none (.t 16) (.i 6)<|
.m 38 39<|
.nil))
 (.cond (.tmp 38) (.keep [(3, .ptr), (5, .ptr)] [] [] (.gdraw G39_0 H39_0 []))
 (.seq (.ops (.b 49 .eql .none (.t 16) (.i 5)<|
.m 48 49<|
.nil))
 (.cond (.tmp 48) (.ops (.l 50 .any 3<|
.f 51 2 6<|
.op (some 52) (.agg [.bool, .bool, .bool, .bool, .i, .i]) [51] (.load (some 6) (.t 51))<|
.f 53 2 5<|
.l 54 .any 53<|
.u 55 54<|
.p 56 [3, 5] (.mkfn 76 [] [(.t 3), (.t 5)])<|
.p 57 [3, 5] (.mkfn 78 [] [(.t 3), (.t 5)])<|
.k 58 (.tup []) 75 [(.t 50), (.t 52), (.t 55), (.t 56), (.t 57)]<|
.nil))
 (.seq (.ops (.b 60 .eql .none (.t 16) (.i 10)<|
.m 59 60<|
.nil))
 (.cond (.tmp 59) (.ops (.l 61 .any 3<|
.f 62 2 6<|
.op (some 63) (.agg [.bool, .bool, .bool, .bool, .i, .i]) [62] (.load (some 6) (.t 62))<|
.f 64 3 5<|
.l 65 .any 64<|
.u 66 65<|
.p 67 [5, 3, 6] (.mkfn 79 [] [(.t 5), (.t 3), (.t 6)])<|
.p 68 [3, 5, 6] (.mkfn 80 [] [(.t 3), (.t 5), (.t 6)])<|
.k 69 (.tup []) 75 [(.t 61), (.t 63), (.t 66), (.t 67), (.t 68)]<|
.nil))
 (.seq (.ops (.b 71 .eql .none (.t 16) (.i 9)<|
.m 70 71<|
.nil))
 (.cond (.tmp 70) (.ops (.l 72 .any 3<|
.m 73 1<|
.op (some 74) (.agg [.i, .i, .any, .any, .i, .any]) [5] (.load (some 6) (.t 5))<|
.k 75 (.tup []) 83 [(.t 72), (.t 73), (.t 74)]<|
.nil))
 (.seq (.seq (.ops (.b 77 .eql .none (.t 16) (.i 7)<|
.m 76 77<|
.nil))
 (.cond (.tmp 76) .skip
 (.ops (.b 78 .eql .none (.t 16) (.i 8)<|
.m 76 78<|
.nil))))
 (.keep [(1, .i), (3, .ptr), (5, .ptr), (76, .bool)] [] [] cc1))))))))))))))))))))
def C39_1 : XC := (.cond (.tmp 76) (.ops (.l 79 .any 3<|
.m 80 1<|
.op (some 81) (.agg [.i, .i, .any, .any, .i, .any]) [5] (.load (some 6) (.t 5))<|
.k 82 (.tup []) 84 [(.t 79), (.t 80), (.t 81)]<|
.nil))
 .skip)
def A39 : XFn := ⟨83, [.any, .i, (.agg [.i, .i, .any, .any, .i, .any])], [], (C39_0 C39_1)⟩
def C40_0 : XC := (.seq (.ops (.c 2 V.nils<|
.nil))
 (.seq (.seq (.ops (.m 3 0<|
.b 4 .eql .ptr (.t 3) (.con V.nilp)<|
.nil))
 (.cond (.tmp 4) (.seq (.ops (.c 2 V.nils<|
.nil))
 .ret)
 .skip))
 (.seq (.seq (.ops (.m 5 0<|
.k 6 .i 85 [(.t 5)]<|
.b 7 .eql .none (.t 6) (.i 0)<|
.nil))
 (.cond (.tmp 7) (.seq (.ops (.p 8 [] (.buildSlice 5 1 [(V.int .u8 (Int.ofNat 0))] [(0, 1, (.con (V.int .u8 (Int.ofNat 0))))])<|
.m 2 8<|
.nil))
 .ret)
 .skip))
 (.seq (.ops (.m 9 0<|
.n 10 9<|
.f 11 0 10<|
.k 12 .one 86 [(.t 11)]<|
.m 2 12<|
.nil))
 .ret))))
def A40 : XFn := ⟨13, [.any], [(.tmp 2)], C40_0⟩
def Fin41 (E : List (Nat × Blk)) : St → Ans := fun s => resK E s [] fun l => some (oneV l, s.σ)
def C41_0 : XC := (.seq (.ops (.m 4 1<|
.b 5 .neq .none (.t 4) (.i 0)<|
.nil))
 (.cond (.tmp 5) (.ops (.m 6 0<|
.m 7 0<|
.n 8 7<|
.f 9 0 8<|
.l 10 .any 9<|
.p 11 [] (.buildSlice 5 1 [(V.int .u8 (Int.ofNat 0))] [(0, 1, (.con (V.int .u8 (Int.ofNat 1))))])<|
.op (some 12) .one [10, 11] (.append 5 1 1 (.t 10) (.t 11))<|
.n 13 6<|
.f 14 0 13<|
.w 1 14 12<|
.nil))
 (.ops (.m 15 0<|
.m 16 0<|
.n 17 16<|
.f 18 0 17<|
.l 19 .any 18<|
.p 20 [] (.buildSlice 5 1 [(V.int .u8 (Int.ofNat 0))] [(0, 1, (.con (V.int .u8 (Int.ofNat 0))))])<|
.op (some 21) .one [19, 20] (.append 5 1 1 (.t 19) (.t 20))<|
.n 22 15<|
.f 23 0 22<|
.w 1 23 21<|
.nil))))
def T41_0 (E : List (Nat × Blk)) (D : Den) (W : DrawFn) (v0b v0o : Nat) (v1 : Int) (σ : H) : Ans :=
 condK (not (eqF v1 (Int.ofNat 0))) (
 ldK E σ v0b v0o fun u1 =>
 let s2 := newB σ (.cells [(V.int .u8 (Int.ofNat 1))]);
 appK E 1 1 u1 (V.sl (H.next σ) 0 1 (.ex 1)) s2 fun u3 s4 =>
 rtOne u3 (
 stK 1 v0b v0o u3 s4 fun s5 =>
 some ((V.tup []), s5))) (
 ldK E σ v0b v0o fun u6 =>
 let s7 := newB σ (.cells [(V.int .u8 (Int.ofNat 0))]);
 appK E 1 1 u6 (V.sl (H.next σ) 0 1 (.ex 1)) s7 fun u8 s9 =>
 rtOne u8 (
 stK 1 v0b v0o u8 s9 fun s10 =>
 some ((V.tup []), s10)))
def S41_0 (v0b v0o : Nat) (v1 : Int) (σ : H) : St := ⟨[(0, (V.ptr v0b v0o)), (1, (V.int .i64 v1))], [], [], σ⟩
theorem P41_0 (v0b v0o : Nat) (v1 : Int) (σ : H) :
 denC E D W N (C41_0 ) (S41_0 v0b v0o v1 σ) (Fin41 E) (fun _ _ => none) (Fin41 E) =
 T41_0 E D W  v0b v0o v1 σ := by kernel_rfl
def J41_0 (E : List (Nat × Blk)) (D : Den) (W : DrawFn) (N : Nat) : Nat → Nat → Int → H → Ans := T41_0 E D W
theorem JE41_0 (v0b v0o : Nat) (v1 : Int) (σ : H) :
 denC E D W N C41_0 (S41_0 v0b v0o v1 σ) (Fin41 E) (fun _ _ => none) (Fin41 E) = J41_0 E D W N v0b v0o v1 σ := by
 refine (P41_0 E D W N   v0b v0o v1 σ).trans ?_
 kernel_rfl
def F41 (args : List V) (σ : H) : Ans :=
 rtCons args fun x1 l2 =>
 rtPtr x1 fun b3 o4 =>
 rtCons l2 fun x5 l6 =>
 rtInt .i64 x5 fun x7 =>
 rtNil l6 (
 J41_0 E D W N b3 o4 x7 σ)
def A41 : XFn := ⟨24, [.ptr, .i], [], C41_0⟩
theorem FE41 (args : List V) (σ : H) : runX E D W N A41 args σ = F41 E D W N args σ := by
 unfold F41
 simp only [← JE41_0]
 kernel_rfl
theorem AO41 : A41.body.ok = true := by kernel_rfl
def Fin42 (E : List (Nat × Blk)) : St → Ans := fun s => resK E s [(.tmp 2)] fun l => some (oneV l, s.σ)
def C42_0 (cc1 : XC) (cc2 : XC) : XC := (.seq (.ops (.c 2 V.nils<|
.nil))
 (.seq (.ops (.m 5 0<|
.p 6 [5] (.max (.i 0) [(.t 5)])<|
.m 0 6<|
.nil))
 (.seq (.ops (.c 3 V.nils<|
.nil))
 (.seq (.block 0 (.loop [(0, .i), (3, .any)] [] [] cc2))
 (.keep [(0, .i), (3, .any)] [] [] cc1)))))
def T42_0 (E : List (Nat × Blk)) (D : Den) (W : DrawFn) (K2 : Int → V → H → Ans) (v0 : Int) (σ : H) : Ans :=
 K2 (maxF (Int.ofNat 0) v0) V.nils σ
def C42_1 : XC := (.seq (.ops (.m 21 3<|
.m 22 0<|
.p 23 [22] (.buildSlice 3 1 [(V.int .i64 (Int.ofNat 0))] [(0, 1, (.t 22))])<|
.op (some 24) .one [21, 23] (.append 3 1 8 (.t 21) (.t 23))<|
.m 2 24<|
.nil))
 .ret)
def T42_1 (E : List (Nat × Blk)) (D : Den) (W : DrawFn) (v0 : Int) (v3 : V) (σ : H) : Ans :=
 let s1 := newB σ (.cells [(V.int .i64 v0)]);
 appK E 1 8 v3 (V.sl (H.next σ) 0 1 (.ex 1)) s1 fun u2 s3 =>
 rtOne u2 (
 some (u2, s3))
def C42_2 : XC := (.seq (.seq (.ops (.m 7 0<|
.b 8 .geq .none (.t 7) (.i 16384)<|
.nil))
 (.cond (.tmp 8) .skip
 (.exit 0)))
 (.block 1 (.seq (.ops (.m 9 0<|
.b 10 .quo .none (.t 9) (.i 16384)<|
.p 11 [10] (.min (.t 10) [(.i 4)])<|
.m 4 11<|
.nil))
 (.seq (.ops (.m 12 3<|
.m 13 4<|
.b 14 .mul .none (.t 13) (.i 16384)<|
.p 15 [14] (.buildSlice 3 1 [(V.int .i64 (Int.ofNat 0))] [(0, 1, (.t 14))])<|
.op (some 16) .one [12, 15] (.append 3 1 8 (.t 12) (.t 15))<|
.m 3 16<|
.nil))
 (.ops (.m 17 0<|
.m 18 4<|
.b 19 .mul .none (.t 18) (.i 16384)<|
.b 20 .sub .none (.t 17) (.t 19)<|
.m 0 20<|
.nil))))))
def T42_2 (E : List (Nat × Blk)) (D : Den) (W : DrawFn) (K1 : Int → V → H → Ans) (R2 : Int → V → H → Ans) (v0 : Int) (v3 : V) (σ : H) : Ans :=
 condK (leF (Int.ofNat 16384) v0) (
 let s1 := newB σ (.cells [(V.int .i64 (mulF .i64 (minF (quoF .i64 v0 (Int.ofNat 16384)) (Int.ofNat 4)) (Int.ofNat 16384)))]);
 appK E 1 8 v3 (V.sl (H.next σ) 0 1 (.ex 1)) s1 fun u2 s3 =>
 rtOne u2 (
 R2 (subF .i64 v0 (mulF .i64 (minF (quoF .i64 v0 (Int.ofNat 16384)) (Int.ofNat 4)) (Int.ofNat 16384))) u2 s3)) (
 K1 v0 v3 σ)
def S42_0 (v0 : Int) (σ : H) : St := ⟨[(0, (V.int .i64 v0))], [], [], σ⟩
def S42_1 (v0 : Int) (v3 : V) (σ : H) : St := ⟨[(0, (V.int .i64 v0)), (3, v3)], [], [], σ⟩
def S42_2 (v0 : Int) (v3 : V) (σ : H) : St := ⟨[(0, (V.int .i64 v0)), (3, v3)], [], [], σ⟩
theorem P42_0 (cc1 : XC) (cc2 : XC) (v0 : Int) (σ : H) :
 denC E D W N (C42_0 cc1 cc2) (S42_0 v0 σ) (Fin42 E) (fun _ _ => none) (Fin42 E) =
 T42_0 E D W (fun v0 v3 σ => iterK (fun rec s' => denC E D W N cc2 s' (fun s'' => keepS [(0, .i), (3, .any)] [] [] s'' rec) (blkK 0 (fun s' => denC E D W N (.keep [(0, .i), (3, .any)] [] [] cc1) s' (Fin42 E) (fun _ _ => none) (Fin42 E)) (fun _ _ => none)) (Fin42 E)) N (S42_2 v0 v3 σ)) v0 σ := by kernel_rfl
theorem P42_1 (v0 : Int) (v3 : V) (σ : H) :
 denC E D W N (C42_1 ) (S42_1 v0 v3 σ) (Fin42 E) (fun _ _ => none) (Fin42 E) =
 T42_1 E D W  v0 v3 σ := by kernel_rfl
theorem P42_2 (cc1 : XC) (li2 : St → Ans) (v0 : Int) (v3 : V) (σ : H) :
 denC E D W N (C42_2 ) (S42_2 v0 v3 σ) (fun s'' => keepS [(0, .i), (3, .any)] [] [] s'' li2) (blkK 0 (fun s' => denC E D W N (.keep [(0, .i), (3, .any)] [] [] cc1) s' (Fin42 E) (fun _ _ => none) (Fin42 E)) (fun _ _ => none)) (Fin42 E) =
 T42_2 E D W (fun v0 v3 σ => denC E D W N cc1 (S42_1 v0 v3 σ) (Fin42 E) (fun _ _ => none) (Fin42 E)) (fun v0 v3 σ => li2 (S42_2 v0 v3 σ)) v0 v3 σ := by kernel_rfl
def J42_1 (E : List (Nat × Blk)) (D : Den) (W : DrawFn) (N : Nat) : Int → V → H → Ans := T42_1 E D W
theorem JE42_1 (v0 : Int) (v3 : V) (σ : H) :
 denC E D W N C42_1 (S42_1 v0 v3 σ) (Fin42 E) (fun _ _ => none) (Fin42 E) = J42_1 E D W N v0 v3 σ := by
 refine (P42_1 E D W N   v0 v3 σ).trans ?_
 kernel_rfl
def L42_2 (n : Nat) : Int → V → H → Ans :=
 Nat.rec (fun _ _ _ => none) (fun _ ih => T42_2 E D W (J42_1 E D W N ) ih) n
theorem LE42_2 (n : Nat) : ∀ (v0 : Int) (v3 : V) (σ : H),
 iterK (fun rec s' => denC E D W N C42_2 s' (fun s'' => keepS [(0, .i), (3, .any)] [] [] s'' rec) (blkK 0 (fun s' => denC E D W N (.keep [(0, .i), (3, .any)] [] [] C42_1) s' (Fin42 E) (fun _ _ => none) (Fin42 E)) (fun _ _ => none)) (Fin42 E)) n (S42_2 v0 v3 σ) = L42_2 E D W N n v0 v3 σ := by
 induction n with
 | zero => intro v0 v3 σ; rfl
 | succ n ihn =>
  intro v0 v3 σ
  rw [iterK_succ]
  refine (P42_2 E D W N C42_1 (iterK (fun rec s' => denC E D W N C42_2 s' (fun s'' => keepS [(0, .i), (3, .any)] [] [] s'' rec) (blkK 0 (fun s' => denC E D W N (.keep [(0, .i), (3, .any)] [] [] C42_1) s' (Fin42 E) (fun _ _ => none) (Fin42 E)) (fun _ _ => none)) (Fin42 E)) n) v0 v3 σ).trans ?_
  simp only [ihn, JE42_1]
  kernel_rfl
def J42_0 : Int → H → Ans := T42_0 E D W (L42_2 E D W N N)
theorem JE42_0 (v0 : Int) (σ : H) :
 denC E D W N (C42_0 C42_1 C42_2) (S42_0 v0 σ) (Fin42 E) (fun _ _ => none) (Fin42 E) = J42_0 E D W N v0 σ := by
 refine (P42_0 E D W N C42_1 C42_2  v0 σ).trans ?_
 simp only [LE42_2]
 kernel_rfl
def F42 (args : List V) (σ : H) : Ans :=
 rtCons args fun x1 l2 =>
 rtInt .i64 x1 fun x3 =>
 rtNil l2 (
 J42_0 E D W N x3 σ)
def A42 : XFn := ⟨25, [.i], [(.tmp 2)], (C42_0 C42_1 C42_2)⟩
theorem FE42 (args : List V) (σ : H) : runX E D W N A42 args σ = F42 E D W N args σ := by
 unfold F42
 simp only [← JE42_0]
 kernel_rfl
theorem AO42 : A42.body.ok = true := by kernel_rfl
def Fin43 (E : List (Nat × Blk)) : St → Ans := fun s => resK E s [] fun l => some (oneV l, s.σ)
def C43_0 : XC := (.block 0 (.seq (.ops (.m 11 1<|
.b 12 .lss .none (.t 11) (.i 128)<|
.m 10 12<|
.nil))
 (.cond (.tmp 10) (.ops (.m 13 0<|
.m 14 1<|
.p 15 [14] (.conv (.toInt .u64) (.t 14))<|
.k 16 (.tup []) 20 [(.t 13), (.t 15), (.i 8)]<|
.nil))
 (.seq (.ops (.m 18 1<|
.b 19 .lss .none (.t 18) (.i 16384)<|
.m 17 19<|
.nil))
 (.cond (.tmp 17) (.ops (.m 20 0<|
.m 21 1<|
.b 22 .add .none (.i 32768) (.t 21)<|
.p 23 [22] (.conv (.toInt .u64) (.t 22))<|
.k 24 (.tup []) 20 [(.t 20), (.t 23), (.i 16)]<|
.nil))
 (.ops (.m 4 0<|
.m 5 1<|
.b 6 .quo .none (.t 5) (.i 16384)<|
.b 7 .add .none (.i 192) (.t 6)<|
.p 8 [7] (.conv (.toInt .u64) (.t 7))<|
.k 9 (.tup []) 20 [(.t 4), (.t 8), (.i 8)]<|
.nil)))))))
def T43_0 (E : List (Nat × Blk)) (D : Den) (W : DrawFn) (v0 : V) (v1 : Int) (σ : H) : Ans :=
 condK (ltF v1 (Int.ofNat 128)) (
 callK (D 20 [v0, (V.int .u64 (wrapF .u64 v1)), (V.int .i64 (Int.ofNat 8))] σ) fun u1 s2 =>
 rtTup u1 fun l3 =>
 rtNil l3 (
 some ((V.tup []), s2))) (
 condK (ltF v1 (Int.ofNat 16384)) (
 callK (D 20 [v0, (V.int .u64 (wrapF .u64 (addF .i64 (Int.ofNat 32768) v1))), (V.int .i64 (Int.ofNat 16))] σ) fun u4 s5 =>
 rtTup u4 fun l6 =>
 rtNil l6 (
 some ((V.tup []), s5))) (
 callK (D 20 [v0, (V.int .u64 (wrapF .u64 (addF .i64 (Int.ofNat 192) (quoF .i64 v1 (Int.ofNat 16384))))), (V.int .i64 (Int.ofNat 8))] σ) fun u7 s8 =>
 rtTup u7 fun l9 =>
 rtNil l9 (
 some ((V.tup []), s8))))
def S43_0 (v0 : V) (v1 : Int) (σ : H) : St := ⟨[(0, v0), (1, (V.int .i64 v1))], [], [], σ⟩
theorem P43_0 (v0 : V) (v1 : Int) (σ : H) :
 denC E D W N (C43_0 ) (S43_0 v0 v1 σ) (Fin43 E) (fun _ _ => none) (Fin43 E) =
 T43_0 E D W  v0 v1 σ := by kernel_rfl
def J43_0 (E : List (Nat × Blk)) (D : Den) (W : DrawFn) (N : Nat) : V → Int → H → Ans := T43_0 E D W
theorem JE43_0 (v0 : V) (v1 : Int) (σ : H) :
 denC E D W N C43_0 (S43_0 v0 v1 σ) (Fin43 E) (fun _ _ => none) (Fin43 E) = J43_0 E D W N v0 v1 σ := by
 refine (P43_0 E D W N   v0 v1 σ).trans ?_
 kernel_rfl
def F43 (args : List V) (σ : H) : Ans :=
 rtCons args fun x1 l2 =>
 rtCons l2 fun x3 l4 =>
 rtInt .i64 x3 fun x5 =>
 rtNil l4 (
 J43_0 E D W N x1 x5 σ)
def A43 : XFn := ⟨25, [.any, .i], [], C43_0⟩
theorem FE43 (args : List V) (σ : H) : runX E D W N A43 args σ = F43 E D W N args σ := by
 unfold F43
 simp only [← JE43_0]
 kernel_rfl
theorem AO43 : A43.body.ok = true := by kernel_rfl
def Fin44 (E : List (Nat × Blk)) : St → Ans := fun s => resK E s [] fun l => some (oneV l, s.σ)
def C44_0 : XC := (.ops (.m 4 0<|
.n 5 4<|
.f 6 0 5<|
.m 7 1<|
.p 8 [7] (.buildSlice 34 1 [V.nils] [(0, 1, (.t 7))])<|
.k 9 (.tup []) 87 [(.t 6), (.t 8)]<|
.nil))
def T44_0 (E : List (Nat × Blk)) (D : Den) (W : DrawFn) (v0b v0o : Nat) (v1 : V) (σ : H) : Ans :=
 fillK [(0, 1, v1)] [V.nils] fun l1 =>
 chk (allOne l1) (
 let s2 := newB σ (.cells l1);
 callK (D 87 [(V.ptr v0b v0o), (V.sl (H.next σ) 0 1 (.ex 1))] s2) fun u3 s4 =>
 rtTup u3 fun l5 =>
 rtNil l5 (
 some ((V.tup []), s4)))
def S44_0 (v0b v0o : Nat) (v1 : V) (σ : H) : St := ⟨[(0, (V.ptr v0b v0o)), (1, v1)], [], [], σ⟩
theorem P44_0 (v0b v0o : Nat) (v1 : V) (σ : H) :
 denC E D W N (C44_0 ) (S44_0 v0b v0o v1 σ) (Fin44 E) (fun _ _ => none) (Fin44 E) =
 T44_0 E D W  v0b v0o v1 σ := by kernel_rfl
def J44_0 (E : List (Nat × Blk)) (D : Den) (W : DrawFn) (N : Nat) : Nat → Nat → V → H → Ans := T44_0 E D W
theorem JE44_0 (v0b v0o : Nat) (v1 : V) (σ : H) :
 denC E D W N C44_0 (S44_0 v0b v0o v1 σ) (Fin44 E) (fun _ _ => none) (Fin44 E) = J44_0 E D W N v0b v0o v1 σ := by
 refine (P44_0 E D W N   v0b v0o v1 σ).trans ?_
 kernel_rfl
def F44 (args : List V) (σ : H) : Ans :=
 rtCons args fun x1 l2 =>
 rtPtr x1 fun b3 o4 =>
 rtCons l2 fun x5 l6 =>
 rtNil l6 (
 J44_0 E D W N b3 o4 x5 σ)
def A44 : XFn := ⟨10, [.ptr, .any], [], C44_0⟩
theorem FE44 (args : List V) (σ : H) : runX E D W N A44 args σ = F44 E D W N args σ := by
 unfold F44
 simp only [← JE44_0]
 kernel_rfl
theorem AO44 : A44.body.ok = true := by kernel_rfl
def Fin45 (E : List (Nat × Blk)) : St → Ans := fun s => resK E s [(.tmp 2)] fun l => some (oneV l, s.σ)
def C45_0 (cc1 : XC) (cc2 : XC) : XC := (.seq (.ops (.c 2 V.nils<|
.nil))
 (.seq (.ops (.c 3 V.nils<|
.nil))
 (.seq (.seq (.ops (.q 4 0<|
.nil))
 (.block 0 (.loop [(0, .ptr), (3, .any), (4, .i)] [] [] cc2)))
 (.keep [(3, .any)] [] [] cc1))))
def T45_0 (E : List (Nat × Blk)) (D : Den) (W : DrawFn) (K2 : Nat → Nat → V → Int → H → Ans) (v0b v0o : Nat) (σ : H) : Ans :=
 K2 v0b v0o V.nils (Int.ofNat 0) σ
def C45_1 : XC := (.seq (.ops (.m 42 3<|
.m 2 42<|
.nil))
 .ret)
def T45_1 (E : List (Nat × Blk)) (D : Den) (W : DrawFn) (v3 : V) (σ : H) : Ans :=
 some (v3, σ)
def C45_2 (cc3 : XC) (cc4 : XC) : XC := (.seq (.seq (.ops (.m 5 4<|
.m 6 0<|
.n 7 6<|
.f 8 0 7<|
.l 9 .any 8<|
.u 10 9<|
.b 11 .lss .none (.t 5) (.t 10)<|
.nil))
 (.cond (.tmp 11) .skip
 (.exit 0)))
 (.seq (.block 1 (.seq (.seq (.ops (.m 14 4<|
.b 15 .rem .none (.t 14) (.i 8)<|
.b 16 .eql .none (.t 15) (.i 0)<|
.nil))
 (.cond (.tmp 16) (.ops (.m 17 3<|
.p 18 [] (.buildSlice 5 1 [(V.int .u8 (Int.ofNat 0))] [(0, 1, (.con (V.int .u8 (Int.ofNat 0))))])<|
.op (some 19) .one [17, 18] (.append 5 1 1 (.t 17) (.t 18))<|
.m 3 19<|
.nil))
 .skip))
 (.keep [(0, .ptr), (3, .any), (4, .i)] [] [] cc4)))
 (.keep [(0, .ptr), (3, .any), (4, .i)] [] [] cc3)))
def T45_2 (E : List (Nat × Blk)) (D : Den) (W : DrawFn) (K1 : V → H → Ans) (K4 : Nat → Nat → V → Int → H → Ans) (v0b v0o : Nat) (v3 : V) (v4 : Int) (σ : H) : Ans :=
 ldK E σ v0b v0o fun u1 =>
 slenK u1 fun n2 =>
 condK (ltF v4 (Int.ofNat n2)) (
 condK (eqF (Int.tmod v4 (Int.ofNat 8)) (Int.ofNat 0)) (
 let s3 := newB σ (.cells [(V.int .u8 (Int.ofNat 0))]);
 appK E 1 1 v3 (V.sl (H.next σ) 0 1 (.ex 1)) s3 fun u4 s5 =>
 rtOne u4 (
 K4 v0b v0o u4 v4 s5)) (
 K4 v0b v0o v3 v4 σ)) (
 K1 v3 σ)
def C45_3 : XC := (.ops (.m 12 4<|
.b 13 .add .none (.t 12) (.i 1)<|
.m 4 13<|
.nil))
def T45_3 (E : List (Nat × Blk)) (D : Den) (W : DrawFn) (R2 : Nat → Nat → V → Int → H → Ans) (v0b v0o : Nat) (v3 : V) (v4 : Int) (σ : H) : Ans :=
 R2 v0b v0o v3 (addF .i64 v4 (Int.ofNat 1)) σ
def C45_4 : XC := (.draw (.m 20 3<|
.m 21 4<|
.b 22 .quo .none (.t 21) (.i 8)<|
.m 23 3<|
.m 24 4<|
.b 25 .quo .none (.t 24) (.i 8)<|
.s 26 1 23 25<|
.l 27 (.int .u8) 26<|
.m 28 0<|
.n 29 28<|
.f 30 0 29<|
.l 31 .any 30<|
.m 32 4<|
.s 33 1 31 32<|
.l 34 (.int .u8) 33<|
.m 35 4<|
.b 36 .rem .none (.t 35) (.i 8)<|
.b 37 .sub .none (.i 7) (.t 36)<|
.p 38 [37] (.conv (.toInt .u64) (.t 37))<|
.b 39 .shl .none (.t 34) (.t 38)<|
.b 40 .or .none (.t 27) (.t 39)<|
.s 41 1 20 22<|
.w 1 41 40<|
.nil) [0, 0, 2, 0, 0, 16, 56, 120, 0, 256, 768, 1792, 0, 7936, 16128, 0, 32768, 98304, 229376, 524032, 1048568, 2097151, 4194303])
def T45_4 (E : List (Nat × Blk)) (D : Den) (W : DrawFn) (K3 : Nat → Nat → V → Int → H → Ans) (v0b v0o : Nat) (v3 : V) (v4 : Int) (σ : H) : Ans :=
 iaddrSK 1 v3 (quoF .i64 v4 (Int.ofNat 8)) fun b1 o2 =>
 ldK E σ b1 o2 fun u3 =>
 rtInt .u8 u3 fun x4 =>
 ldK E σ v0b v0o fun u5 =>
 iaddrSK 1 u5 v4 fun b6 o7 =>
 ldK E σ b6 o7 fun u8 =>
 rtInt .u8 u8 fun x9 =>
 nnK (wrapF .u64 (subF .i64 (Int.ofNat 7) (Int.tmod v4 (Int.ofNat 8)))) fun n10 =>
 iaddrSK 1 v3 (quoF .i64 v4 (Int.ofNat 8)) fun b11 o12 =>
 stK 1 b11 o12 (V.int .u8 (orF .u8 x4 (shlF .u8 x9 n10))) σ fun s13 =>
 K3 v0b v0o v3 v4 s13
def S45_0 (v0b v0o : Nat) (σ : H) : St := ⟨[(0, (V.ptr v0b v0o))], [], [], σ⟩
def S45_1 (v3 : V) (σ : H) : St := ⟨[(3, v3)], [], [], σ⟩
def S45_2 (v0b v0o : Nat) (v3 : V) (v4 : Int) (σ : H) : St := ⟨[(0, (V.ptr v0b v0o)), (3, v3), (4, (V.int .i64 v4))], [], [], σ⟩
def S45_3 (v0b v0o : Nat) (v3 : V) (v4 : Int) (σ : H) : St := ⟨[(0, (V.ptr v0b v0o)), (3, v3), (4, (V.int .i64 v4))], [], [], σ⟩
def S45_4 (v0b v0o : Nat) (v3 : V) (v4 : Int) (σ : H) : St := ⟨[(0, (V.ptr v0b v0o)), (3, v3), (4, (V.int .i64 v4))], [], [], σ⟩
theorem P45_0 (cc1 : XC) (cc2 : XC) (v0b v0o : Nat) (σ : H) :
 denC E D W N (C45_0 cc1 cc2) (S45_0 v0b v0o σ) (Fin45 E) (fun _ _ => none) (Fin45 E) =
 T45_0 E D W (fun v0b v0o v3 v4 σ => iterK (fun rec s' => denC E D W N cc2 s' (fun s'' => keepS [(0, .ptr), (3, .any), (4, .i)] [] [] s'' rec) (blkK 0 (fun s' => denC E D W N (.keep [(3, .any)] [] [] cc1) s' (Fin45 E) (fun _ _ => none) (Fin45 E)) (fun _ _ => none)) (Fin45 E)) N (S45_2 v0b v0o v3 v4 σ)) v0b v0o σ := by kernel_rfl
theorem P45_1 (v3 : V) (σ : H) :
 denC E D W N (C45_1 ) (S45_1 v3 σ) (Fin45 E) (fun _ _ => none) (Fin45 E) =
 T45_1 E D W  v3 σ := by kernel_rfl
theorem P45_2 (cc1 : XC) (cc3 : XC) (cc4 : XC) (li2 : St → Ans) (v0b v0o : Nat) (v3 : V) (v4 : Int) (σ : H) :
 denC E D W N (C45_2 cc3 cc4) (S45_2 v0b v0o v3 v4 σ) (fun s'' => keepS [(0, .ptr), (3, .any), (4, .i)] [] [] s'' li2) (blkK 0 (fun s' => denC E D W N (.keep [(3, .any)] [] [] cc1) s' (Fin45 E) (fun _ _ => none) (Fin45 E)) (fun _ _ => none)) (Fin45 E) =
 T45_2 E D W (fun v3 σ => denC E D W N cc1 (S45_1 v3 σ) (Fin45 E) (fun _ _ => none) (Fin45 E)) (fun v0b v0o v3 v4 σ => denC E D W N cc4 (S45_4 v0b v0o v3 v4 σ) (fun s' => denC E D W N (.keep [(0, .ptr), (3, .any), (4, .i)] [] [] cc3) s' (fun s'' => keepS [(0, .ptr), (3, .any), (4, .i)] [] [] s'' li2) (blkK 0 (fun s' => denC E D W N (.keep [(3, .any)] [] [] cc1) s' (Fin45 E) (fun _ _ => none) (Fin45 E)) (fun _ _ => none)) (Fin45 E)) (blkK 1 (fun s' => denC E D W N (.keep [(0, .ptr), (3, .any), (4, .i)] [] [] cc3) s' (fun s'' => keepS [(0, .ptr), (3, .any), (4, .i)] [] [] s'' li2) (blkK 0 (fun s' => denC E D W N (.keep [(3, .any)] [] [] cc1) s' (Fin45 E) (fun _ _ => none) (Fin45 E)) (fun _ _ => none)) (Fin45 E)) (blkK 0 (fun s' => denC E D W N (.keep [(3, .any)] [] [] cc1) s' (Fin45 E) (fun _ _ => none) (Fin45 E)) (fun _ _ => none))) (Fin45 E)) v0b v0o v3 v4 σ := by kernel_rfl
theorem P45_3 (cc1 : XC) (li2 : St → Ans) (v0b v0o : Nat) (v3 : V) (v4 : Int) (σ : H) :
 denC E D W N (C45_3 ) (S45_3 v0b v0o v3 v4 σ) (fun s'' => keepS [(0, .ptr), (3, .any), (4, .i)] [] [] s'' li2) (blkK 0 (fun s' => denC E D W N (.keep [(3, .any)] [] [] cc1) s' (Fin45 E) (fun _ _ => none) (Fin45 E)) (fun _ _ => none)) (Fin45 E) =
 T45_3 E D W (fun v0b v0o v3 v4 σ => li2 (S45_2 v0b v0o v3 v4 σ)) v0b v0o v3 v4 σ := by kernel_rfl
theorem P45_4 (cc1 : XC) (cc3 : XC) (li2 : St → Ans) (v0b v0o : Nat) (v3 : V) (v4 : Int) (σ : H) :
 denC E D W N (C45_4 ) (S45_4 v0b v0o v3 v4 σ) (fun s' => denC E D W N (.keep [(0, .ptr), (3, .any), (4, .i)] [] [] cc3) s' (fun s'' => keepS [(0, .ptr), (3, .any), (4, .i)] [] [] s'' li2) (blkK 0 (fun s' => denC E D W N (.keep [(3, .any)] [] [] cc1) s' (Fin45 E) (fun _ _ => none) (Fin45 E)) (fun _ _ => none)) (Fin45 E)) (blkK 1 (fun s' => denC E D W N (.keep [(0, .ptr), (3, .any), (4, .i)] [] [] cc3) s' (fun s'' => keepS [(0, .ptr), (3, .any), (4, .i)] [] [] s'' li2) (blkK 0 (fun s' => denC E D W N (.keep [(3, .any)] [] [] cc1) s' (Fin45 E) (fun _ _ => none) (Fin45 E)) (fun _ _ => none)) (Fin45 E)) (blkK 0 (fun s' => denC E D W N (.keep [(3, .any)] [] [] cc1) s' (Fin45 E) (fun _ _ => none) (Fin45 E)) (fun _ _ => none))) (Fin45 E) =
 T45_4 E D W (fun v0b v0o v3 v4 σ => denC E D W N cc3 (S45_3 v0b v0o v3 v4 σ) (fun s'' => keepS [(0, .ptr), (3, .any), (4, .i)] [] [] s'' li2) (blkK 0 (fun s' => denC E D W N (.keep [(3, .any)] [] [] cc1) s' (Fin45 E) (fun _ _ => none) (Fin45 E)) (fun _ _ => none)) (Fin45 E)) v0b v0o v3 v4 σ := by kernel_rfl
def J45_1 (E : List (Nat × Blk)) (D : Den) (W : DrawFn) (N : Nat) : V → H → Ans := T45_1 E D W
theorem JE45_1 (v3 : V) (σ : H) :
 denC E D W N C45_1 (S45_1 v3 σ) (Fin45 E) (fun _ _ => none) (Fin45 E) = J45_1 E D W N v3 σ := by
 refine (P45_1 E D W N   v3 σ).trans ?_
 kernel_rfl
def J45_3 (E : List (Nat × Blk)) (D : Den) (W : DrawFn) (N : Nat) (R2 : Nat → Nat → V → Int → H → Ans) : Nat → Nat → V → Int → H → Ans := T45_3 E D W R2
theorem JE45_3 (li2 : St → Ans) (v0b v0o : Nat) (v3 : V) (v4 : Int) (σ : H) :
 denC E D W N C45_3 (S45_3 v0b v0o v3 v4 σ) (fun s'' => keepS [(0, .ptr), (3, .any), (4, .i)] [] [] s'' li2) (blkK 0 (fun s' => denC E D W N (.keep [(3, .any)] [] [] C45_1) s' (Fin45 E) (fun _ _ => none) (Fin45 E)) (fun _ _ => none)) (Fin45 E) = J45_3 E D W N (fun v0b v0o v3 v4 σ => li2 (S45_2 v0b v0o v3 v4 σ)) v0b v0o v3 v4 σ := by
 refine (P45_3 E D W N C45_1 li2 v0b v0o v3 v4 σ).trans ?_
 kernel_rfl
def J45_4 (R2 : Nat → Nat → V → Int → H → Ans) : Nat → Nat → V → Int → H → Ans := T45_4 E D W (J45_3 E D W N R2)
theorem JE45_4 (li2 : St → Ans) (v0b v0o : Nat) (v3 : V) (v4 : Int) (σ : H) :
 denC E D W N C45_4 (S45_4 v0b v0o v3 v4 σ) (fun s' => denC E D W N (.keep [(0, .ptr), (3, .any), (4, .i)] [] [] C45_3) s' (fun s'' => keepS [(0, .ptr), (3, .any), (4, .i)] [] [] s'' li2) (blkK 0 (fun s' => denC E D W N (.keep [(3, .any)] [] [] C45_1) s' (Fin45 E) (fun _ _ => none) (Fin45 E)) (fun _ _ => none)) (Fin45 E)) (blkK 1 (fun s' => denC E D W N (.keep [(0, .ptr), (3, .any), (4, .i)] [] [] C45_3) s' (fun s'' => keepS [(0, .ptr), (3, .any), (4, .i)] [] [] s'' li2) (blkK 0 (fun s' => denC E D W N (.keep [(3, .any)] [] [] C45_1) s' (Fin45 E) (fun _ _ => none) (Fin45 E)) (fun _ _ => none)) (Fin45 E)) (blkK 0 (fun s' => denC E D W N (.keep [(3, .any)] [] [] C45_1) s' (Fin45 E) (fun _ _ => none) (Fin45 E)) (fun _ _ => none))) (Fin45 E) = J45_4 E D W N (fun v0b v0o v3 v4 σ => li2 (S45_2 v0b v0o v3 v4 σ)) v0b v0o v3 v4 σ := by
 refine (P45_4 E D W N C45_1 C45_3 li2 v0b v0o v3 v4 σ).trans ?_
 simp only [JE45_3]
 kernel_rfl
def L45_2 (n : Nat) : Nat → Nat → V → Int → H → Ans :=
 Nat.rec (fun _ _ _ _ _ => none) (fun _ ih => T45_2 E D W (J45_1 E D W N ) (J45_4 E D W N ih)) n
theorem LE45_2 (n : Nat) : ∀ (v0b v0o : Nat) (v3 : V) (v4 : Int) (σ : H),
 iterK (fun rec s' => denC E D W N (C45_2 C45_3 C45_4) s' (fun s'' => keepS [(0, .ptr), (3, .any), (4, .i)] [] [] s'' rec) (blkK 0 (fun s' => denC E D W N (.keep [(3, .any)] [] [] C45_1) s' (Fin45 E) (fun _ _ => none) (Fin45 E)) (fun _ _ => none)) (Fin45 E)) n (S45_2 v0b v0o v3 v4 σ) = L45_2 E D W N n v0b v0o v3 v4 σ := by
 induction n with
 | zero => intro v0b v0o v3 v4 σ; rfl
 | succ n ihn =>
  intro v0b v0o v3 v4 σ
  rw [iterK_succ]
  refine (P45_2 E D W N C45_1 C45_3 C45_4 (iterK (fun rec s' => denC E D W N (C45_2 C45_3 C45_4) s' (fun s'' => keepS [(0, .ptr), (3, .any), (4, .i)] [] [] s'' rec) (blkK 0 (fun s' => denC E D W N (.keep [(3, .any)] [] [] C45_1) s' (Fin45 E) (fun _ _ => none) (Fin45 E)) (fun _ _ => none)) (Fin45 E)) n) v0b v0o v3 v4 σ).trans ?_
  simp only [ihn, JE45_1, JE45_4]
  kernel_rfl
def J45_0 : Nat → Nat → H → Ans := T45_0 E D W (L45_2 E D W N N)
theorem JE45_0 (v0b v0o : Nat) (σ : H) :
 denC E D W N (C45_0 C45_1 (C45_2 C45_3 C45_4)) (S45_0 v0b v0o σ) (Fin45 E) (fun _ _ => none) (Fin45 E) = J45_0 E D W N v0b v0o σ := by
 refine (P45_0 E D W N C45_1 (C45_2 C45_3 C45_4)  v0b v0o σ).trans ?_
 simp only [LE45_2]
 kernel_rfl
def F45 (args : List V) (σ : H) : Ans :=
 rtCons args fun x1 l2 =>
 rtPtr x1 fun b3 o4 =>
 rtNil l2 (
 J45_0 E D W N b3 o4 σ)
def A45 : XFn := ⟨43, [.ptr], [(.tmp 2)], (C45_0 C45_1 (C45_2 C45_3 C45_4))⟩
theorem FE45 (args : List V) (σ : H) : runX E D W N A45 args σ = F45 E D W N args σ := by
 unfold F45
 simp only [← JE45_0]
 kernel_rfl
theorem AO45 : A45.body.ok = true := by kernel_rfl
def C49_0 : XC := (.seq (.ops (.p 1 [0] (.box 30 (.t 0))<|
.c 2 (V.bool false)<|
.nil))
 (.seq (.ops (.op (some 3) (.agg [.str, .any, .any, .any]) [1] (.load (some 4) (.t 1))<|
.k 4 .bool 37 [(.t 3)]<|
.m 5 4<|
.grp 5 true (.p 6 [1, 5] (.faddr 3 (.t 1))<|
.p 7 [6, 5] (.load none (.t 6))<|
.op (some 8) .bool [7, 5] (.call 67 [(.t 7), (.con (V.fn 98 [] []))])<|
.p 9 [8, 5] (.un .not (.t 8))<|
.nil) 10 [5, 9] (.t 5) (.t 9) (.con (V.bool false))<|
.m 2 10<|
.nil))
 .ret))
def A49 : XFn := ⟨11, [(.agg [.str, .any, .any, .any])], [(.tmp 2)], C49_0⟩
def Fin50 (E : List (Nat × Blk)) : St → Ans := fun s => resK E s [(.tmp 2)] fun l => some (oneV l, s.σ)
def C50_0 : XC := (.seq (.ops (.c 2 V.nilp<|
.nil))
 (.seq (.ops (.m 3 0<|
.k 4 .one 99 [(.t 3)]<|
.m 5 0<|
.u 6 5<|
.b 7 .eql .none (.t 6) (.i 1)<|
.m 8 7<|
.grp 8 true (.p 9 [0, 8] (.mov (.t 0))<|
.p 10 [9, 8] (.iaddrS 1 (.t 9) (.i 0))<|
.op (some 11) (.int .u8) [10, 8] (.load none (.t 10))<|
.p 12 [11, 8] (.bin .eql .none (.t 11) (.con (V.int .u8 (Int.ofNat 0))))<|
.nil) 13 [8, 12] (.t 8) (.t 12) (.con (V.bool false))<|
.op (some 14) (.agg [.any, .i, .bool]) [4, 13] (.build [V.nilp, (V.int .i64 (Int.ofNat 0)), (V.bool false)] [(0, 1, (.t 4)), (2, 1, (.t 13))])<|
.p 15 [14] (.box 168 (.t 14))<|
.m 2 15<|
.nil))
 .ret))
def T50_0 (E : List (Nat × Blk)) (D : Den) (W : DrawFn) (v0 : V) (σ : H) : Ans :=
 callK (D 99 [v0] σ) fun u1 s2 =>
 rtOne u1 (
 slenK v0 fun n3 =>
 joinB (fun c4 s5 =>
 fillK [(0, 1, u1), (2, 1, (V.bool c4))] [V.nilp, (V.int .i64 (Int.ofNat 0)), (V.bool false)] fun l7 =>
 rtCons l7 fun x8 l9 =>
 rtCons l9 fun x10 l11 =>
 rtInt .i64 x10 fun x12 =>
 rtCons l11 fun x13 l14 =>
 rtBool x13 fun x15 =>
 rtNil l14 (
 chk (allOne (V.cells (V.agg [x8, (V.int .i64 x12), (V.bool x15)]))) (
 let s16 := newB s5 (.cells (V.cells (V.agg [x8, (V.int .i64 x12), (V.bool x15)])));
 some ((V.ptr (H.next s5) 0), s16)))) fun k6 =>
 condK (eqF (Int.ofNat n3) (Int.ofNat 1)) (
 iaddrSK 1 v0 (Int.ofNat 0) fun b17 o18 =>
 ldK E s2 b17 o18 fun u19 =>
 rtInt .u8 u19 fun x20 =>
 k6 (eqF x20 (Int.ofNat 0)) s2) (
 k6 false s2))
def S50_0 (v0 : V) (σ : H) : St := ⟨[(0, v0)], [], [], σ⟩
theorem P50_0 (v0 : V) (σ : H) :
 denC E D W N (C50_0 ) (S50_0 v0 σ) (Fin50 E) (fun _ _ => none) (Fin50 E) =
 T50_0 E D W  v0 σ := by kernel_rfl
def J50_0 (E : List (Nat × Blk)) (D : Den) (W : DrawFn) (N : Nat) : V → H → Ans := T50_0 E D W
theorem JE50_0 (v0 : V) (σ : H) :
 denC E D W N C50_0 (S50_0 v0 σ) (Fin50 E) (fun _ _ => none) (Fin50 E) = J50_0 E D W N v0 σ := by
 refine (P50_0 E D W N   v0 σ).trans ?_
 kernel_rfl
def F50 (args : List V) (σ : H) : Ans :=
 rtCons args fun x1 l2 =>
 rtNil l2 (
 J50_0 E D W N x1 σ)
def A50 : XFn := ⟨16, [.any], [(.tmp 2)], C50_0⟩
theorem FE50 (args : List V) (σ : H) : runX E D W N A50 args σ = F50 E D W N args σ := by
 unfold F50
 simp only [← JE50_0]
 kernel_rfl
theorem AO50 : A50.body.ok = true := by kernel_rfl
def G51_0 : List AOper := [⟨(some 9), .load none (.tmp 3), none⟩, ⟨(some 10), .load none (.tmp 3), none⟩, ⟨(some 11), .nilck (.tmp 10), none⟩, ⟨(some 12), .faddr 5 (.tmp 11), none⟩, ⟨(some 13), .load none (.tmp 12), none⟩, ⟨(some 14), .call 101 [(.tmp 13), (.con (V.int .i64 (Int.ofNat 1)))], none⟩, ⟨(some 15), .un .not (.tmp 14), none⟩, ⟨(some 16), .mov (.tmp 15), none⟩, ⟨(some 17), .mov (.tmp 1), (some (16, false))⟩, ⟨(some 18), .bin .lss .none (.tmp 17) (.con (V.int .i64 (Int.ofNat 0))), (some (16, false))⟩, ⟨(some 19), .pick (.tmp 16) (.con (V.bool true)) (.tmp 18), none⟩, ⟨(some 20), .mov (.tmp 19), none⟩, ⟨(some 21), .mov (.tmp 1), (some (20, false))⟩, ⟨(some 22), .load none (.tmp 3), (some (20, false))⟩, ⟨(some 23), .nilck (.tmp 22), (some (20, false))⟩, ⟨(some 24), .faddr 1 (.tmp 23), (some (20, false))⟩, ⟨(some 25), .faddr 3 (.tmp 24), (some (20, false))⟩, ⟨(some 26), .load none (.tmp 25), (some (20, false))⟩, ⟨(some 27), .len false (.tmp 26), (some (20, false))⟩, ⟨(some 28), .bin .geq .none (.tmp 21) (.tmp 27), (some (20, false))⟩, ⟨(some 29), .pick (.tmp 20) (.con (V.bool true)) (.tmp 28), none⟩, ⟨(some 30), .mov (.tmp 29), none⟩, ⟨(some 31), .mov (.tmp 2), (some (30, false))⟩, ⟨(some 32), .bin .gtr .none (.tmp 31) (.con (V.int .i64 (Int.ofNat 17))), (some (30, false))⟩, ⟨(some 33), .pick (.tmp 30) (.con (V.bool true)) (.tmp 32), none⟩, ⟨(some 34), .call 100 [(.tmp 9), (.tmp 33)], none⟩]
def H51_0 : List DP := [⟨0, [3]⟩, ⟨0, [3]⟩, ⟨2, [10]⟩, ⟨6, [11]⟩, ⟨14, [12]⟩, ⟨30, [13]⟩, ⟨62, [14]⟩, ⟨126, [15]⟩, ⟨254, [1, 16]⟩, ⟨510, [17, 16]⟩, ⟨1022, [16, 18]⟩, ⟨2046, [19]⟩, ⟨4094, [1, 20]⟩, ⟨4094, [3, 20]⟩, ⟨12286, [22, 20]⟩, ⟨28670, [23, 20]⟩, ⟨61438, [24, 20]⟩, ⟨126974, [25, 20]⟩, ⟨258046, [26, 20]⟩, ⟨524286, [21, 27, 20]⟩, ⟨1048574, [20, 28]⟩, ⟨2097150, [29]⟩, ⟨4194302, [2, 30]⟩, ⟨8388606, [31, 30]⟩, ⟨16777214, [30, 32]⟩, ⟨33554431, [9, 33]⟩]
def Fin51 (E : List (Nat × Blk)) : St → Ans := fun s => resK E s [(.cell 6 (some 6))] fun l => some (oneV l, s.σ)
def C51_0 (cc1 : XC) (cc2 : XC) : XC := (.seq (.ops (.p 3 [0] (.box 98 (.t 0))<|
.p 6 [] (.alloc 38 [(V.int .i64 (Int.ofNat 0)), (V.int .i64 (Int.ofNat 0)), V.nils, V.nils, (V.int .i64 (Int.ofNat 0)), V.nils])<|
.nil))
 (.seq (.seq (.keep [(1, .i), (2, .i), (3, .ptr), (6, .ptr)] [] [] (.gdraw G51_0 H51_0 [(1, .i), (2, .i), (3, .ptr), (6, .ptr)]))
 (.seq (.ops (.l 35 .any 3<|
.k 36 .bool 102 [(.t 35)]<|
.p 37 [36] (.un .not (.t 36))<|
.nil))
 (.cond (.tmp 37) (.seq (.ops (.op (some 38) (.agg [.i, .i, .any, .any, .i, .any]) [] (.build [(V.int .i64 (Int.ofNat 0)), (V.int .i64 (Int.ofNat 0)), V.nils, V.nils, (V.int .i64 (Int.ofNat 0)), V.nils] [])<|
.op none (.agg [.i, .i, .any, .any, .i, .any]) [6, 38] (.store 6 (.t 6) (.t 38))<|
.nil))
 .ret)
 .skip)))
 (.seq (.ops (.l 39 .any 3<|
.n 40 39<|
.f 41 1 40<|
.f 42 3 41<|
.l 43 .any 42<|
.m 44 1<|
.s 45 13 43 44<|
.op (some 46) (.agg [.i, .any, .bool, .bool, .bool, .bool, .i, .i, .any, .any, .i, .bool, .i]) [45] (.load (some 13) (.t 45))<|
.pal 7 [] 145 [(V.int .i64 (Int.ofNat 0)), V.nils, (V.bool false), (V.bool false), (V.bool false), (V.bool false), (V.int .i64 (Int.ofNat 0)), (V.int .i64 (Int.ofNat 0)), V.nils, V.nils, (V.int .i64 (Int.ofNat 0)), (V.bool false), (V.int .i64 (Int.ofNat 0))]<|
.op none (.agg [.i, .any, .bool, .bool, .bool, .bool, .i, .i, .any, .any, .i, .bool, .i]) [7, 46] (.store 13 (.t 7) (.t 46))<|
.nil))
 (.seq (.ops (.f 47 0 7<|
.l 48 .i 47<|
.op (some 49) (.agg [.i, .i, .any, .any, .i, .any]) [48] (.build [(V.int .i64 (Int.ofNat 0)), (V.int .i64 (Int.ofNat 0)), V.nils, V.nils, (V.int .i64 (Int.ofNat 0)), V.nils] [(0, 1, (.t 48))])<|
.p 8 [] (.alloc 38 [(V.int .i64 (Int.ofNat 0)), (V.int .i64 (Int.ofNat 0)), V.nils, V.nils, (V.int .i64 (Int.ofNat 0)), V.nils])<|
.op none (.agg [.i, .i, .any, .any, .i, .any]) [8, 49] (.store 6 (.t 8) (.t 49))<|
.nil))
 (.seq (.seq (.ops (.f 50 0 7<|
.l 51 .i 50<|
.nil))
 (.block 0 (.seq (.ops (.b 53 .eql .none (.t 51) (.i 1)<|
.m 52 53<|
.nil))
 (.cond (.tmp 52) (.ops (.l 54 .any 3<|
.n 55 54<|
.f 56 0 55<|
.l 57 .any 56<|
.k 58 (.int .u64) 103 [(.t 57), (.i 1)]<|
.p 59 [58] (.conv (.toInt .i64) (.t 58))<|
.f 60 1 8<|
.w 1 60 59<|
.nil))
 (.seq (.ops (.b 62 .eql .none (.t 51) (.i 2)<|
.m 61 62<|
.nil))
 (.cond (.tmp 61) (.ops (.l 63 .any 3<|
.f 64 2 7<|
.op (some 65) (.agg [.bool, .bool, .bool, .bool, .i, .i]) [64] (.load (some 6) (.t 64))<|
.k 66 .i 104 [(.t 63), (.t 65)]<|
.f 67 1 8<|
.w 1 67 66<|
.nil))
 (.seq (.ops (.b 69 .eql .none (.t 51) (.i 3)<|
.m 68 69<|
.nil))
 (.cond (.tmp 68) (.seq (.ops (.l 70 .any 3<|
.m 71 1<|
.k 72 (.agg [.i, .i, .any, .any, .i, .any]) 105 [(.t 70), (.t 71)]<|
.op none (.agg [.i, .i, .any, .any, .i, .any]) [6, 72] (.store 6 (.t 6) (.t 72))<|
.nil))
 .ret)
 (.seq (.ops (.b 74 .eql .none (.t 51) (.i 6)<|
.m 73 74<|
.nil))
 (.cond (.tmp 73) (.ops (.l 75 .any 3<|
.n 76 75<|
.f 77 0 76<|
.l 78 .any 77<|
.k 79 .one 106 [(.t 78), (.i 70000)]<|
.f 80 2 8<|
.w 1 80 79<|
.nil))
 (.seq (.ops (.b 82 .eql .none (.t 51) (.i 5)<|
.m 81 82<|
.nil))
 (.cond (.tmp 81) (.ops (.l 83 .any 3<|
.f 84 2 7<|
.op (some 85) (.agg [.bool, .bool, .bool, .bool, .i, .i]) [84] (.load (some 6) (.t 84))<|
.p 86 [3, 8] (.mkfn 108 [] [(.t 3), (.t 8)])<|
.p 87 [3, 8] (.mkfn 110 [] [(.t 3), (.t 8)])<|
.k 88 (.tup []) 107 [(.t 83), (.t 85), (.t 86), (.t 87)]<|
.nil))
 (.seq (.ops (.b 90 .eql .none (.t 51) (.i 10)<|
.m 89 90<|
.nil))
 (.cond (.tmp 89) (.ops (.l 91 .any 3<|
.op (some 92) (.agg [.i, .any, .bool, .bool, .bool, .bool, .i, .i, .any, .any, .i, .bool, .i]) [7] (.load (some 13) (.t 7))<|
.m 93 2<|
.k 94 (.tup []) 111 [(.t 91), (.t 92), (.t 8), (.t 93)]<|
.nil))
 (.seq (.ops (.b 96 .eql .none (.t 51) (.i 9)<|
.m 95 96<|
.nil))
 (.cond (.tmp 95) (.seq (.ops (.l 97 .any 3<|
.m 98 1<|
.m 99 2<|
.k 100 (.agg [.i, .i, .any, .any, .i, .any]) 112 [(.t 97), (.t 98), (.t 99)]<|
.op none (.agg [.i, .i, .any, .any, .i, .any]) [6, 100] (.store 6 (.t 6) (.t 100))<|
.nil))
 .ret)
 (.seq (.seq (.ops (.b 102 .eql .none (.t 51) (.i 7)<|
.m 101 102<|
.nil))
 (.cond (.tmp 101) .skip
 (.ops (.b 103 .eql .none (.t 51) (.i 8)<|
.m 101 103<|
.nil))))
 (.keep [(1, .i), (2, .i), (3, .ptr), (6, .ptr), (8, .ptr), (101, .bool)] [] [] cc2))))))))))))))))))
 (.keep [(6, .ptr), (8, .ptr)] [] [] cc1))))))
def T51_0 (K1 : Nat → Nat → Nat → Nat → H → Ans) (K2 : Int → Int → Nat → Nat → Nat → Nat → Nat → Nat → Bool → H → Ans) (v0 : V) (v1 v2 : Int) (σ : H) : Ans :=
 chk (allOne (V.cells v0)) (
 let s1 := newB σ (.cells (V.cells v0));
 let s2 := newB s1 (.cells [(V.int .i64 (Int.ofNat 0)), (V.int .i64 (Int.ofNat 0)), V.nils, V.nils, (V.int .i64 (Int.ofNat 0)), V.nils]);
 gdrawK (W G51_0 H51_0 [(1, (V.int .i64 v1)), (2, (V.int .i64 v2)), (3, (V.ptr (H.next σ) 0)), (6, (V.ptr (H.next s1) 0))] s2) fun e3 s4 =>
 getL e3 1 fun u5 =>
 rtInt .i64 u5 fun x6 =>
 getL e3 2 fun u7 =>
 rtInt .i64 u7 fun x8 =>
 getL e3 3 fun u9 =>
 rtPtr u9 fun b10 o11 =>
 getL e3 6 fun u12 =>
 rtPtr u12 fun b13 o14 =>
 ldK E s4 b10 o11 fun u15 =>
 callK (D 102 [u15] s4) fun u16 s17 =>
 rtBool u16 fun x18 =>
 condK (not x18) (
 stK 6 b13 o14 (V.agg [(V.int .i64 (Int.ofNat 0)), (V.int .i64 (Int.ofNat 0)), V.nils, V.nils, (V.int .i64 (Int.ofNat 0)), V.nils]) s17 fun s19 =>
 ldnK E s19 b13 o14 6 fun u20 =>
 some ((V.agg u20), s19)) (
 ldK E s17 b10 o11 fun u21 =>
 rtPtr u21 fun b22 o23 =>
 ldK E s17 b22 (Nat.add (Nat.add o23 1) 3) fun u24 =>
 iaddrSK 13 u24 x6 fun b25 o26 =>
 ldnK E s17 b25 o26 13 fun l27 =>
 rtCons l27 fun x28 l29 =>
 rtInt .i64 x28 fun x30 =>
 rtCons l29 fun x31 l32 =>
 rtCons l32 fun x33 l34 =>
 rtBool x33 fun x35 =>
 rtCons l34 fun x36 l37 =>
 rtBool x36 fun x38 =>
 rtCons l37 fun x39 l40 =>
 rtBool x39 fun x41 =>
 rtCons l40 fun x42 l43 =>
 rtBool x42 fun x44 =>
 rtCons l43 fun x45 l46 =>
 rtInt .i64 x45 fun x47 =>
 rtCons l46 fun x48 l49 =>
 rtInt .i64 x48 fun x50 =>
 rtCons l49 fun x51 l52 =>
 rtCons l52 fun x53 l54 =>
 rtCons l54 fun x55 l56 =>
 rtInt .i64 x55 fun x57 =>
 rtCons l56 fun x58 l59 =>
 rtBool x58 fun x60 =>
 rtCons l59 fun x61 l62 =>
 rtInt .i64 x61 fun x63 =>
 rtNil l62 (
 chk (allOne [(V.int .i64 x30), x31, (V.bool x35), (V.bool x38), (V.bool x41), (V.bool x44), (V.int .i64 x47), (V.int .i64 x50), x51, x53, (V.int .i64 x57), (V.bool x60), (V.int .i64 x63)]) (
 let s64 := newB s17 (.cells [(V.int .i64 (Int.ofNat 0)), (V.int .i64 (Int.ofNat 0)), V.nils, V.nils, (V.int .i64 (Int.ofNat 0)), V.nils]);
 stK 6 (H.next s17) 0 (V.agg [(V.int .i64 x30), (V.int .i64 (Int.ofNat 0)), V.nils, V.nils, (V.int .i64 (Int.ofNat 0)), V.nils]) s64 fun s65 =>
 condK (eqF x30 (Int.ofNat 1)) (
 ldK E s65 b10 o11 fun u66 =>
 rtPtr u66 fun b67 o68 =>
 ldK E s65 b67 o68 fun u69 =>
 callK (D 103 [u69, (V.int .i64 (Int.ofNat 1))] s65) fun u70 s71 =>
 rtInt .u64 u70 fun x72 =>
 stK 1 (H.next s17) 1 (V.int .i64 (wrapF .i64 x72)) s71 fun s73 =>
 K1 b13 o14 (H.next s17) 0 s73) (
 condK (eqF x30 (Int.ofNat 2)) (
 ldK E s65 b10 o11 fun u74 =>
 callK (D 104 [u74, (V.agg [(V.bool x35), (V.bool x38), (V.bool x41), (V.bool x44), (V.int .i64 x47), (V.int .i64 x50)])] s65) fun u75 s76 =>
 rtInt .i64 u75 fun x77 =>
 stK 1 (H.next s17) 1 (V.int .i64 x77) s76 fun s78 =>
 K1 b13 o14 (H.next s17) 0 s78) (
 condK (eqF x30 (Int.ofNat 3)) (
 ldK E s65 b10 o11 fun u79 =>
 callK (D 105 [u79, (V.int .i64 x6)] s65) fun u80 s81 =>
 rtAgg u80 fun l82 =>
 rtCons l82 fun x83 l84 =>
 rtInt .i64 x83 fun x85 =>
 rtCons l84 fun x86 l87 =>
 rtInt .i64 x86 fun x88 =>
 rtCons l87 fun x89 l90 =>
 rtCons l90 fun x91 l92 =>
 rtCons l92 fun x93 l94 =>
 rtInt .i64 x93 fun x95 =>
 rtCons l94 fun x96 l97 =>
 rtNil l97 (
 stK 6 b13 o14 (V.agg [(V.int .i64 x85), (V.int .i64 x88), x89, x91, (V.int .i64 x95), x96]) s81 fun s98 =>
 ldnK E s98 b13 o14 6 fun u99 =>
 some ((V.agg u99), s98))) (
 condK (eqF x30 (Int.ofNat 6)) (
 ldK E s65 b10 o11 fun u100 =>
 rtPtr u100 fun b101 o102 =>
 ldK E s65 b101 o102 fun u103 =>
 callK (D 106 [u103, (V.int .i64 (Int.ofNat 70000))] s65) fun u104 s105 =>
 rtOne u104 (
 stK 1 (H.next s17) 2 u104 s105 fun s106 =>
 K1 b13 o14 (H.next s17) 0 s106)) (
 condK (eqF x30 (Int.ofNat 5)) (
 ldK E s65 b10 o11 fun u107 =>
 callK (D 107 [u107, (V.agg [(V.bool x35), (V.bool x38), (V.bool x41), (V.bool x44), (V.int .i64 x47), (V.int .i64 x50)]), (V.fn 108 [] [(V.ptr b10 o11), (V.ptr (H.next s17) 0)]), (V.fn 110 [] [(V.ptr b10 o11), (V.ptr (H.next s17) 0)])] s65) fun u108 s109 =>
 rtTup u108 fun l110 =>
 rtNil l110 (
 K1 b13 o14 (H.next s17) 0 s109)) (
 condK (eqF x30 (Int.ofNat 10)) (
 ldK E s65 b10 o11 fun u111 =>
 callK (D 111 [u111, (V.agg [(V.int .i64 x30), x31, (V.bool x35), (V.bool x38), (V.bool x41), (V.bool x44), (V.int .i64 x47), (V.int .i64 x50), x51, x53, (V.int .i64 x57), (V.bool x60), (V.int .i64 x63)]), (V.ptr (H.next s17) 0), (V.int .i64 x8)] s65) fun u112 s113 =>
 rtTup u112 fun l114 =>
 rtNil l114 (
 K1 b13 o14 (H.next s17) 0 s113)) (
 condK (eqF x30 (Int.ofNat 9)) (
 ldK E s65 b10 o11 fun u115 =>
 callK (D 112 [u115, (V.int .i64 x6), (V.int .i64 x8)] s65) fun u116 s117 =>
 rtAgg u116 fun l118 =>
 rtCons l118 fun x119 l120 =>
 rtInt .i64 x119 fun x121 =>
 rtCons l120 fun x122 l123 =>
 rtInt .i64 x122 fun x124 =>
 rtCons l123 fun x125 l126 =>
 rtCons l126 fun x127 l128 =>
 rtCons l128 fun x129 l130 =>
 rtInt .i64 x129 fun x131 =>
 rtCons l130 fun x132 l133 =>
 rtNil l133 (
 stK 6 b13 o14 (V.agg [(V.int .i64 x121), (V.int .i64 x124), x125, x127, (V.int .i64 x131), x132]) s117 fun s134 =>
 ldnK E s134 b13 o14 6 fun u135 =>
 some ((V.agg u135), s134))) (
 condK (eqF x30 (Int.ofNat 7)) (
 K2 x6 x8 b10 o11 b13 o14 (H.next s17) 0 (eqF x30 (Int.ofNat 7)) s65) (
 K2 x6 x8 b10 o11 b13 o14 (H.next s17) 0 (eqF x30 (Int.ofNat 8)) s65))))))))))))
def C51_1 : XC := (.seq (.ops (.op (some 108) (.agg [.i, .i, .any, .any, .i, .any]) [8] (.load (some 6) (.t 8))<|
.op none (.agg [.i, .i, .any, .any, .i, .any]) [6, 108] (.store 6 (.t 6) (.t 108))<|
.nil))
 .ret)
def T51_1 (E : List (Nat × Blk)) (D : Den) (W : DrawFn) (v6b v6o v8b v8o : Nat) (σ : H) : Ans :=
 ldnK E σ v8b v8o 6 fun l1 =>
 rtCons l1 fun x2 l3 =>
 rtInt .i64 x2 fun x4 =>
 rtCons l3 fun x5 l6 =>
 rtInt .i64 x5 fun x7 =>
 rtCons l6 fun x8 l9 =>
 rtCons l9 fun x10 l11 =>
 rtCons l11 fun x12 l13 =>
 rtInt .i64 x12 fun x14 =>
 rtCons l13 fun x15 l16 =>
 rtNil l16 (
 stK 6 v6b v6o (V.agg [(V.int .i64 x4), (V.int .i64 x7), x8, x10, (V.int .i64 x14), x15]) σ fun s17 =>
 ldnK E s17 v6b v6o 6 fun u18 =>
 some ((V.agg u18), s17))
def C51_2 : XC := (.cond (.tmp 101) (.seq (.ops (.l 104 .any 3<|
.m 105 1<|
.m 106 2<|
.k 107 (.agg [.i, .i, .any, .any, .i, .any]) 113 [(.t 104), (.t 105), (.t 106)]<|
.op none (.agg [.i, .i, .any, .any, .i, .any]) [6, 107] (.store 6 (.t 6) (.t 107))<|
.nil))
 .ret)
 .skip)
def T51_2 (E : List (Nat × Blk)) (D : Den) (W : DrawFn) (K1 : Nat → Nat → Nat → Nat → H → Ans) (v1 v2 : Int) (v3b v3o v6b v6o v8b v8o : Nat) (v101 : Bool) (σ : H) : Ans :=
 condK v101 (
 ldK E σ v3b v3o fun u1 =>
 callK (D 113 [u1, (V.int .i64 v1), (V.int .i64 v2)] σ) fun u2 s3 =>
 rtAgg u2 fun l4 =>
 rtCons l4 fun x5 l6 =>
 rtInt .i64 x5 fun x7 =>
 rtCons l6 fun x8 l9 =>
 rtInt .i64 x8 fun x10 =>
 rtCons l9 fun x11 l12 =>
 rtCons l12 fun x13 l14 =>
 rtCons l14 fun x15 l16 =>
 rtInt .i64 x15 fun x17 =>
 rtCons l16 fun x18 l19 =>
 rtNil l19 (
 stK 6 v6b v6o (V.agg [(V.int .i64 x7), (V.int .i64 x10), x11, x13, (V.int .i64 x17), x18]) s3 fun s20 =>
 ldnK E s20 v6b v6o 6 fun u21 =>
 some ((V.agg u21), s20))) (
 K1 v6b v6o v8b v8o σ)
def S51_0 (v0 : V) (v1 v2 : Int) (σ : H) : St := ⟨[(0, v0), (1, (V.int .i64 v1)), (2, (V.int .i64 v2))], [], [], σ⟩
def S51_1 (v6b v6o v8b v8o : Nat) (σ : H) : St := ⟨[(6, (V.ptr v6b v6o)), (8, (V.ptr v8b v8o))], [], [], σ⟩
def S51_2 (v1 v2 : Int) (v3b v3o v6b v6o v8b v8o : Nat) (v101 : Bool) (σ : H) : St := ⟨[(1, (V.int .i64 v1)), (2, (V.int .i64 v2)), (3, (V.ptr v3b v3o)), (6, (V.ptr v6b v6o)), (8, (V.ptr v8b v8o)), (101, (V.bool v101))], [], [], σ⟩
theorem P51_0 (cc1 : XC) (cc2 : XC) (v0 : V) (v1 v2 : Int) (σ : H) :
 denC E D W N (C51_0 cc1 cc2) (S51_0 v0 v1 v2 σ) (Fin51 E) (fun _ _ => none) (Fin51 E) =
 T51_0 E D W (fun v6b v6o v8b v8o σ => denC E D W N cc1 (S51_1 v6b v6o v8b v8o σ) (Fin51 E) (fun _ _ => none) (Fin51 E)) (fun v1 v2 v3b v3o v6b v6o v8b v8o v101 σ => denC E D W N cc2 (S51_2 v1 v2 v3b v3o v6b v6o v8b v8o v101 σ) (fun s' => denC E D W N (.keep [(6, .ptr), (8, .ptr)] [] [] cc1) s' (Fin51 E) (fun _ _ => none) (Fin51 E)) (blkK 0 (fun s' => denC E D W N (.keep [(6, .ptr), (8, .ptr)] [] [] cc1) s' (Fin51 E) (fun _ _ => none) (Fin51 E)) (fun _ _ => none)) (Fin51 E)) v0 v1 v2 σ := by kernel_rfl
theorem P51_1 (v6b v6o v8b v8o : Nat) (σ : H) :
 denC E D W N (C51_1 ) (S51_1 v6b v6o v8b v8o σ) (Fin51 E) (fun _ _ => none) (Fin51 E) =
 T51_1 E D W  v6b v6o v8b v8o σ := by kernel_rfl
theorem P51_2 (cc1 : XC) (v1 v2 : Int) (v3b v3o v6b v6o v8b v8o : Nat) (v101 : Bool) (σ : H) :
 denC E D W N (C51_2 ) (S51_2 v1 v2 v3b v3o v6b v6o v8b v8o v101 σ) (fun s' => denC E D W N (.keep [(6, .ptr), (8, .ptr)] [] [] cc1) s' (Fin51 E) (fun _ _ => none) (Fin51 E)) (blkK 0 (fun s' => denC E D W N (.keep [(6, .ptr), (8, .ptr)] [] [] cc1) s' (Fin51 E) (fun _ _ => none) (Fin51 E)) (fun _ _ => none)) (Fin51 E) =
 T51_2 E D W (fun v6b v6o v8b v8o σ => denC E D W N cc1 (S51_1 v6b v6o v8b v8o σ) (Fin51 E) (fun _ _ => none) (Fin51 E)) v1 v2 v3b v3o v6b v6o v8b v8o v101 σ := by kernel_rfl
def J51_1 (E : List (Nat × Blk)) (D : Den) (W : DrawFn) (N : Nat) : Nat → Nat → Nat → Nat → H → Ans := T51_1 E D W
theorem JE51_1 (v6b v6o v8b v8o : Nat) (σ : H) :
 denC E D W N C51_1 (S51_1 v6b v6o v8b v8o σ) (Fin51 E) (fun _ _ => none) (Fin51 E) = J51_1 E D W N v6b v6o v8b v8o σ := by
 refine (P51_1 E D W N   v6b v6o v8b v8o σ).trans ?_
 kernel_rfl
def J51_2 : Int → Int → Nat → Nat → Nat → Nat → Nat → Nat → Bool → H → Ans := T51_2 E D W (J51_1 E D W N )
theorem JE51_2 (v1 v2 : Int) (v3b v3o v6b v6o v8b v8o : Nat) (v101 : Bool) (σ : H) :
 denC E D W N C51_2 (S51_2 v1 v2 v3b v3o v6b v6o v8b v8o v101 σ) (fun s' => denC E D W N (.keep [(6, .ptr), (8, .ptr)] [] [] C51_1) s' (Fin51 E) (fun _ _ => none) (Fin51 E)) (blkK 0 (fun s' => denC E D W N (.keep [(6, .ptr), (8, .ptr)] [] [] C51_1) s' (Fin51 E) (fun _ _ => none) (Fin51 E)) (fun _ _ => none)) (Fin51 E) = J51_2 E D W N v1 v2 v3b v3o v6b v6o v8b v8o v101 σ := by
 refine (P51_2 E D W N C51_1  v1 v2 v3b v3o v6b v6o v8b v8o v101 σ).trans ?_
 simp only [JE51_1]
 kernel_rfl
def J51_0 : V → Int → Int → H → Ans := T51_0 E D W (J51_1 E D W N ) (J51_2 E D W N )
theorem JE51_0 (v0 : V) (v1 v2 : Int) (σ : H) :
 denC E D W N (C51_0 C51_1 C51_2) (S51_0 v0 v1 v2 σ) (Fin51 E) (fun _ _ => none) (Fin51 E) = J51_0 E D W N v0 v1 v2 σ := by
 refine (P51_0 E D W N C51_1 C51_2  v0 v1 v2 σ).trans ?_
 simp only [JE51_1, JE51_2]
 kernel_rfl
def F51 (args : List V) (σ : H) : Ans :=
 rtCons args fun x1 l2 =>
 rtCons l2 fun x3 l4 =>
 rtInt .i64 x3 fun x5 =>
 rtCons l4 fun x6 l7 =>
 rtInt .i64 x6 fun x8 =>
 rtNil l7 (
 J51_0 E D W N x1 x5 x8 σ)
def A51 : XFn := ⟨109, [.any, .i, .i], [(.cell 6 (some 6))], (C51_0 C51_1 C51_2)⟩
theorem FE51 (args : List V) (σ : H) : runX E D W N A51 args σ = F51 E D W N args σ := by
 unfold F51
 simp only [← JE51_0]
 kernel_rfl
theorem AO51 : A51.body.ok = true := by kernel_rfl
def Fin52 (E : List (Nat × Blk)) : St → Ans := fun s => resK E s [(.tmp 2)] fun l => some (oneV l, s.σ)
def C52_0 : XC := (.seq (.ops (.q 2 0<|
.nil))
 (.seq (.seq (.ops (.m 4 0<|
.k 5 .i 114 [(.t 4)]<|
.m 3 5<|
.nil))
 (.block 0 (.seq (.ops (.m 7 3<|
.b 8 .neq .none (.t 7) (.i 0)<|
.m 6 8<|
.nil))
 (.cond (.tmp 6) (.seq (.ops (.m 9 3<|
.m 2 9<|
.nil))
 .ret)
 (.seq (.ops (.m 11 0<|
.n 12 11<|
.f 13 2 12<|
.l 14 .bool 13<|
.m 15 14<|
.grp 15 true (.p 16 [0, 15] (.mov (.t 0))<|
.op (some 17) .i [16, 15] (.call 115 [(.t 16)])<|
.p 18 [17, 15] (.bin .eql .none (.t 17) (.i 8))<|
.nil) 19 [15, 18] (.t 15) (.t 18) (.con (V.bool false))<|
.m 10 19<|
.nil))
 (.cond (.tmp 10) (.seq (.ops (.q 2 0<|
.nil))
 .ret)
 .skip))))))
 (.seq (.ops (.m 20 0<|
.n 21 20<|
.f 22 0 21<|
.l 23 .any 22<|
.k 24 .i 116 [(.t 23)]<|
.m 2 24<|
.nil))
 .ret)))
def T52_0 (E : List (Nat × Blk)) (D : Den) (W : DrawFn) (v0b v0o : Nat) (σ : H) : Ans :=
 callK (D 114 [(V.ptr v0b v0o)] σ) fun u1 s2 =>
 rtInt .i64 u1 fun x3 =>
 condK (not (eqF x3 (Int.ofNat 0))) (
 some ((V.int .i64 x3), s2)) (
 ldK E s2 v0b (Nat.add v0o 2) fun u4 =>
 rtBool u4 fun x5 =>
 joinB (fun c6 s7 =>
 condK c6 (
 some ((V.int .i64 (Int.ofNat 0)), s7)) (
 ldK E s7 v0b v0o fun u9 =>
 callK (D 116 [u9] s7) fun u10 s11 =>
 rtInt .i64 u10 fun x12 =>
 some ((V.int .i64 x12), s11))) fun k8 =>
 condK x5 (
 callK (D 115 [(V.ptr v0b v0o)] s2) fun u13 s14 =>
 rtInt .i64 u13 fun x15 =>
 k8 (eqF x15 (Int.ofNat 8)) s14) (
 k8 false s2))
def S52_0 (v0b v0o : Nat) (σ : H) : St := ⟨[(0, (V.ptr v0b v0o))], [], [], σ⟩
theorem P52_0 (v0b v0o : Nat) (σ : H) :
 denC E D W N (C52_0 ) (S52_0 v0b v0o σ) (Fin52 E) (fun _ _ => none) (Fin52 E) =
 T52_0 E D W  v0b v0o σ := by kernel_rfl
def J52_0 (E : List (Nat × Blk)) (D : Den) (W : DrawFn) (N : Nat) : Nat → Nat → H → Ans := T52_0 E D W
theorem JE52_0 (v0b v0o : Nat) (σ : H) :
 denC E D W N C52_0 (S52_0 v0b v0o σ) (Fin52 E) (fun _ _ => none) (Fin52 E) = J52_0 E D W N v0b v0o σ := by
 refine (P52_0 E D W N   v0b v0o σ).trans ?_
 kernel_rfl
def F52 (args : List V) (σ : H) : Ans :=
 rtCons args fun x1 l2 =>
 rtPtr x1 fun b3 o4 =>
 rtNil l2 (
 J52_0 E D W N b3 o4 σ)
def A52 : XFn := ⟨25, [.ptr], [(.tmp 2)], C52_0⟩
theorem FE52 (args : List V) (σ : H) : runX E D W N A52 args σ = F52 E D W N args σ := by
 unfold F52
 simp only [← JE52_0]
 kernel_rfl
theorem AO52 : A52.body.ok = true := by kernel_rfl
def C53_0 (cc1 : XC) (cc2 : XC) : XC := (.seq (.ops (.c 6 (V.bool false)<|
.nil))
 (.seq (.seq (.ops (.m 8 0<|
.u 9 8<|
.m 10 1<|
.u 11 10<|
.b 12 .neq .none (.t 9) (.t 11)<|
.nil))
 (.cond (.tmp 12) (.seq (.ops (.c 6 (V.bool false)<|
.nil))
 .ret)
 .skip))
 (.seq (.seq (.ops (.q 7 0<|
.nil))
 (.block 0 (.loop [(0, .any), (1, .any), (2, .any), (7, .i)] [] [] cc2)))
 (.keep [] [] [] cc1))))
def C53_1 : XC := (.seq (.ops (.c 6 (V.bool true)<|
.nil))
 .ret)
def C53_2 : XC := (.seq (.seq (.ops (.m 13 7<|
.m 14 0<|
.u 15 14<|
.b 16 .lss .none (.t 13) (.t 15)<|
.nil))
 (.cond (.tmp 16) .skip
 (.exit 0)))
 (.seq (.block 1 (.seq (.draw (.m 19 2<|
.m 20 0<|
.m 21 7<|
.s 22 6 20 21<|
.op (some 23) (.agg [.i, .i, .any, .any, .i, .any]) [22] (.load (some 6) (.t 22))<|
.m 24 1<|
.m 25 7<|
.s 26 6 24 25<|
.op (some 27) (.agg [.i, .i, .any, .any, .i, .any]) [26] (.load (some 6) (.t 26))<|
.op (some 28) .bool [19, 23, 27] (.callv (.t 19) [(.t 23), (.t 27)])<|
.p 29 [28] (.un .not (.t 28))<|
.nil) [0, 0, 0, 6, 14, 0, 0, 96, 224, 511, 1023])
 (.cond (.tmp 29) (.seq (.ops (.c 6 (V.bool false)<|
.nil))
 .ret)
 .skip)))
 (.ops (.m 17 7<|
.b 18 .add .none (.t 17) (.i 1)<|
.m 7 18<|
.nil))))
def A53 : XFn := ⟨30, [.any, .any, .any], [(.tmp 6)], (C53_0 C53_1 C53_2)⟩
def C54_0 (cc1 : XC) (cc2 : XC) : XC := (.seq (.ops (.c 6 (V.bool false)<|
.nil))
 (.seq (.seq (.ops (.m 8 0<|
.u 9 8<|
.m 10 1<|
.u 11 10<|
.b 12 .neq .none (.t 9) (.t 11)<|
.nil))
 (.cond (.tmp 12) (.seq (.ops (.c 6 (V.bool false)<|
.nil))
 .ret)
 .skip))
 (.seq (.seq (.ops (.q 7 0<|
.nil))
 (.block 0 (.loop [(0, .any), (1, .any), (2, .any), (7, .i)] [] [] cc2)))
 (.keep [] [] [] cc1))))
def C54_1 : XC := (.seq (.ops (.c 6 (V.bool true)<|
.nil))
 .ret)
def C54_2 : XC := (.seq (.seq (.ops (.m 13 7<|
.m 14 0<|
.u 15 14<|
.b 16 .lss .none (.t 13) (.t 15)<|
.nil))
 (.cond (.tmp 16) .skip
 (.exit 0)))
 (.seq (.block 1 (.seq (.draw (.m 19 2<|
.m 20 0<|
.m 21 7<|
.s 22 2 20 21<|
.op (some 23) (.agg [.i, .any]) [22] (.load (some 2) (.t 22))<|
.m 24 1<|
.m 25 7<|
.s 26 2 24 25<|
.op (some 27) (.agg [.i, .any]) [26] (.load (some 2) (.t 26))<|
.op (some 28) .bool [19, 23, 27] (.callv (.t 19) [(.t 23), (.t 27)])<|
.p 29 [28] (.un .not (.t 28))<|
.nil) [0, 0, 0, 6, 14, 0, 0, 96, 224, 511, 1023])
 (.cond (.tmp 29) (.seq (.ops (.c 6 (V.bool false)<|
.nil))
 .ret)
 .skip)))
 (.ops (.m 17 7<|
.b 18 .add .none (.t 17) (.i 1)<|
.m 7 18<|
.nil))))
def A54 : XFn := ⟨30, [.any, .any, .any], [(.tmp 6)], (C54_0 C54_1 C54_2)⟩
def C56_0 (cc1 : XC) : XC := (.seq (.ops (.c 2 V.nils<|
.q 3 0<|
.q 4 0<|
.nil))
 (.seq (.seq (.ops (.m 9 0<|
.p 10 [9] (.len true (.t 9))<|
.b 11 .gtr .none (.t 10) (.i 8000)<|
.nil))
 (.cond (.tmp 11) (.seq (.ops (.c 2 V.nils<|
.q 3 0<|
.q 4 5<|
.nil))
 .ret)
 .skip))
 (.seq (.ops (.c 5 V.nils<|
.nil))
 (.seq (.ops (.q 6 0<|
.nil))
 (.block 0 (.loop [(0, .str), (5, .any), (6, .i)] [] [] cc1))))))
def C56_1 : XC := (.block 1 (.seq (.ops (.m 12 0<|
.m 13 6<|
.k 14 .i 117 [(.t 12), (.t 13)]<|
.m 6 14<|
.nil))
 (.seq (.seq (.ops (.m 15 6<|
.m 16 0<|
.p 17 [16] (.len true (.t 16))<|
.b 18 .geq .none (.t 15) (.t 17)<|
.nil))
 (.cond (.tmp 18) (.seq (.ops (.m 19 5<|
.m 20 0<|
.p 21 [20] (.len true (.t 20))<|
.op (some 22) (.agg [.i, .str, .i]) [21] (.build [(V.int .i64 (Int.ofNat 0)), (V.str ⟨0, 0⟩), (V.int .i64 (Int.ofNat 0))] [(2, 1, (.t 21))])<|
.p 23 [22] (.buildSlice 121 1 [(V.int .i64 (Int.ofNat 0)), (V.str ⟨0, 0⟩), (V.int .i64 (Int.ofNat 0))] [(0, 3, (.t 22))])<|
.op (some 24) .one [19, 23] (.append 121 3 32 (.t 19) (.t 23))<|
.m 2 24<|
.q 3 0<|
.q 4 0<|
.nil))
 .ret)
 .skip))
 (.seq (.ops (.m 26 0<|
.m 27 6<|
.k 28 (.tup [(.agg [.i, .str, .i]), .i]) 118 [(.t 26), (.t 27)]<|
.m 25 28<|
.p 29 [25] (.extract 0 (.t 25))<|
.p 30 [25] (.extract 1 (.t 25))<|
.pal 7 [] 121 [(V.int .i64 (Int.ofNat 0)), (V.str ⟨0, 0⟩), (V.int .i64 (Int.ofNat 0))]<|
.op none (.agg [.i, .str, .i]) [7, 29] (.store 3 (.t 7) (.t 29))<|
.m 8 30<|
.nil))
 (.seq (.seq (.ops (.m 31 8<|
.b 32 .lss .none (.t 31) (.i 0)<|
.nil))
 (.cond (.tmp 32) (.seq (.ops (.m 33 6<|
.c 2 V.nils<|
.m 3 33<|
.q 4 6<|
.nil))
 .ret)
 .skip))
 (.seq (.ops (.m 34 5<|
.op (some 35) (.agg [.i, .str, .i]) [7] (.load (some 3) (.t 7))<|
.p 36 [35] (.buildSlice 121 1 [(V.int .i64 (Int.ofNat 0)), (V.str ⟨0, 0⟩), (V.int .i64 (Int.ofNat 0))] [(0, 3, (.t 35))])<|
.op (some 37) .one [34, 36] (.append 121 3 32 (.t 34) (.t 36))<|
.m 5 37<|
.nil))
 (.ops (.m 38 8<|
.m 6 38<|
.nil))))))))
def A56 : XFn := ⟨39, [.str], [(.tmp 2), (.tmp 3), (.tmp 4)], (C56_0 C56_1)⟩
def C57_0 : XC := (.seq (.ops (.c 4 (V.str ⟨0, 0⟩)<|
.nil))
 (.seq (.ops (.m 6 0<|
.k 7 (.agg [.i, .str, .i]) 60 [(.t 6)]<|
.pal 5 [] 121 [(V.int .i64 (Int.ofNat 0)), (V.str ⟨0, 0⟩), (V.int .i64 (Int.ofNat 0))]<|
.op none (.agg [.i, .str, .i]) [5, 7] (.store 3 (.t 5) (.t 7))<|
.nil))
 (.seq (.seq (.ops (.m 8 0<|
.n 9 8<|
.f 10 7 9<|
.l 11 .i 10<|
.b 12 .neq .none (.t 11) (.i 0)<|
.m 13 12<|
.grp 13 false (.p 14 [5, 13] (.faddr 0 (.t 5))<|
.op (some 15) .i [14, 13] (.load none (.t 14))<|
.p 16 [1, 13] (.mov (.t 1))<|
.p 17 [15, 16, 13] (.bin .neq .none (.t 15) (.t 16))<|
.nil) 18 [13, 17] (.t 13) (.con (V.bool true)) (.t 17)<|
.nil))
 (.cond (.tmp 18) (.seq (.ops (.m 19 0<|
.op (some 20) (.agg [.i, .str, .i]) [5] (.load (some 3) (.t 5))<|
.k 21 (.tup []) 61 [(.t 19), (.i 7), (.t 20)]<|
.nil))
 (.seq (.ops (.c 4 (V.str ⟨0, 0⟩)<|
.nil))
 .ret))
 .skip))
 (.seq (.ops (.m 22 0<|
.k 23 (.agg [.i, .str, .i]) 119 [(.t 22)]<|
.op (some 24) .str [23] (.field 1 none (.t 23))<|
.m 4 24<|
.nil))
 .ret))))
def A57 : XFn := ⟨25, [.ptr, .i], [(.tmp 4)], C57_0⟩
def C58_0 : XC := (.seq (.ops (.m 4 0<|
.n 5 4<|
.f 6 7 5<|
.l 7 .i 6<|
.b 8 .eql .none (.t 7) (.i 0)<|
.m 9 8<|
.grp 9 true (.p 10 [0, 9] (.mov (.t 0))<|
.p 11 [1, 9] (.mov (.t 1))<|
.op (some 12) .bool [10, 11, 9] (.call 59 [(.t 10), (.t 11)])<|
.p 13 [12, 9] (.un .not (.t 12))<|
.nil) 14 [9, 13] (.t 9) (.t 13) (.con (V.bool false))<|
.nil))
 (.cond (.tmp 14) (.ops (.m 15 0<|
.m 16 0<|
.k 17 (.agg [.i, .str, .i]) 60 [(.t 16)]<|
.k 18 (.tup []) 61 [(.t 15), (.i 7), (.t 17)]<|
.nil))
 .skip))
def A58 : XFn := ⟨19, [.ptr, .str], [], C58_0⟩
def C59_0 : XC := (.seq (.ops (.c 4 (V.bool false)<|
.nil))
 (.seq (.ops (.m 6 0<|
.k 7 (.agg [.i, .str, .i]) 60 [(.t 6)]<|
.pal 5 [] 121 [(V.int .i64 (Int.ofNat 0)), (V.str ⟨0, 0⟩), (V.int .i64 (Int.ofNat 0))]<|
.op none (.agg [.i, .str, .i]) [5, 7] (.store 3 (.t 5) (.t 7))<|
.nil))
 (.seq (.seq (.ops (.m 8 0<|
.n 9 8<|
.f 10 7 9<|
.l 11 .i 10<|
.b 12 .eql .none (.t 11) (.i 0)<|
.m 13 12<|
.grp 13 true (.p 14 [5, 13] (.faddr 0 (.t 5))<|
.op (some 15) .i [14, 13] (.load none (.t 14))<|
.p 16 [15, 13] (.bin .eql .none (.t 15) (.i 5))<|
.p 17 [16, 13] (.mov (.t 16))<|
.grp 17 false (.p 18 [5, 17] (.faddr 0 (.t 5))<|
.op (some 19) .i [18, 17] (.load none (.t 18))<|
.p 20 [19, 17] (.bin .eql .none (.t 19) (.i 6))<|
.nil) 21 [17, 20, 13] (.t 17) (.con (V.bool true)) (.t 20)<|
.nil) 22 [13, 21] (.t 13) (.t 21) (.con (V.bool false))<|
.m 23 22<|
.grp 23 true (.p 24 [5, 23] (.faddr 1 (.t 5))<|
.op (some 25) .str [24, 23] (.load none (.t 24))<|
.p 26 [1, 23] (.mov (.t 1))<|
.p 27 [25, 26, 23] (.bin .eql .none (.t 25) (.t 26))<|
.nil) 28 [23, 27] (.t 23) (.t 27) (.con (V.bool false))<|
.nil))
 (.cond (.tmp 28) (.seq (.ops (.m 29 0<|
.k 30 (.agg [.i, .str, .i]) 119 [(.t 29)]<|
.nil))
 (.seq (.ops (.c 4 (V.bool true)<|
.nil))
 .ret))
 .skip))
 (.seq (.ops (.c 4 (V.bool false)<|
.nil))
 .ret))))
def A59 : XFn := ⟨31, [.ptr, .str], [(.tmp 4)], C59_0⟩
def C60_0 : XC := (.seq (.ops (.pal 2 [] 121 [(V.int .i64 (Int.ofNat 0)), (V.str ⟨0, 0⟩), (V.int .i64 (Int.ofNat 0))]<|
.nil))
 (.seq (.draw (.m 3 0<|
.n 4 3<|
.f 5 0 4<|
.l 6 .any 5<|
.m 7 0<|
.n 8 7<|
.f 9 1 8<|
.l 10 .i 9<|
.s 11 3 6 10<|
.op (some 12) (.agg [.i, .str, .i]) [11] (.load (some 3) (.t 11))<|
.op none (.agg [.i, .str, .i]) [2, 12] (.store 3 (.t 2) (.t 12))<|
.nil) [0, 1, 3, 7, 0, 16, 48, 112, 255, 511, 1023])
 .ret))
def A60 : XFn := ⟨13, [.ptr], [(.cell 2 (some 3))], C60_0⟩
def C62_0 (cc1 : XC) (cc2 : XC) : XC := (.seq (.ops (.q 4 0<|
.nil))
 (.seq (.seq (.ops (.m 9 0<|
.n 10 9<|
.f 11 7 10<|
.l 12 .i 11<|
.b 13 .neq .none (.t 12) (.i 0)<|
.nil))
 (.cond (.tmp 13) (.seq (.ops (.q 4 0<|
.nil))
 .ret)
 .skip))
 (.seq (.seq (.ops (.m 14 0<|
.k 15 (.agg [.i, .str, .i]) 60 [(.t 14)]<|
.k 16 .bool 120 [(.t 15)]<|
.p 17 [16] (.un .not (.t 16))<|
.nil))
 (.cond (.tmp 17) (.seq (.ops (.m 18 0<|
.m 19 0<|
.k 20 (.agg [.i, .str, .i]) 60 [(.t 19)]<|
.k 21 (.tup []) 61 [(.t 18), (.i 7), (.t 20)]<|
.nil))
 (.seq (.ops (.q 4 0<|
.nil))
 .ret))
 .skip))
 (.seq (.seq (.ops (.m 22 1<|
.b 23 .gtr .none (.t 22) (.i 16)<|
.m 24 23<|
.grp 24 false (.p 25 [0, 24] (.mov (.t 0))<|
.p 26 [25, 24] (.nilck (.t 25))<|
.p 27 [26, 24] (.faddr 2 (.t 26))<|
.p 28 [27, 24] (.faddr 4 (.t 27))<|
.p 29 [28, 24] (.load none (.t 28))<|
.p 30 [29, 24] (.len false (.t 29))<|
.p 31 [30, 24] (.bin .geq .none (.t 30) (.i 300))<|
.nil) 32 [24, 31] (.t 24) (.con (V.bool true)) (.t 31)<|
.nil))
 (.cond (.tmp 32) (.seq (.ops (.m 33 0<|
.m 34 0<|
.k 35 (.agg [.i, .str, .i]) 60 [(.t 34)]<|
.k 36 (.tup []) 61 [(.t 33), (.i 5), (.t 35)]<|
.nil))
 (.seq (.ops (.q 4 0<|
.nil))
 .ret))
 .skip))
 (.seq (.ops (.m 37 0<|
.n 38 37<|
.f 39 2 38<|
.f 40 4 39<|
.l 41 .any 40<|
.u 42 41<|
.m 5 42<|
.nil))
 (.seq (.ops (.m 43 0<|
.m 44 0<|
.n 45 44<|
.f 46 2 45<|
.f 47 4 46<|
.l 48 .any 47<|
.op (some 49) (.agg [.i, .str, .bool, .i, .i, .bool, .bool, .bool, .bool, .i, .i, .any, .any, .i, .bool, .i]) [] (.build [(V.int .i64 (Int.ofNat 0)), (V.str ⟨0, 0⟩), (V.bool false), (V.int .i64 (Int.ofNat 0)), (V.int .i64 (Int.ofNat 0)), (V.bool false), (V.bool false), (V.bool false), (V.bool false), (V.int .i64 (Int.ofNat 0)), (V.int .i64 (Int.ofNat 0)), V.nils, V.nils, (V.int .i64 (Int.ofNat 0)), (V.bool false), (V.int .i64 (Int.ofNat 0))] [])<|
.p 50 [49] (.buildSlice 183 1 [(V.int .i64 (Int.ofNat 0)), (V.str ⟨0, 0⟩), (V.bool false), (V.int .i64 (Int.ofNat 0)), (V.int .i64 (Int.ofNat 0)), (V.bool false), (V.bool false), (V.bool false), (V.bool false), (V.int .i64 (Int.ofNat 0)), (V.int .i64 (Int.ofNat 0)), V.nils, V.nils, (V.int .i64 (Int.ofNat 0)), (V.bool false), (V.int .i64 (Int.ofNat 0))] [(0, 16, (.t 49))])<|
.op (some 51) .one [48, 50] (.append 183 16 144 (.t 48) (.t 50))<|
.n 52 43<|
.f 53 2 52<|
.f 54 4 53<|
.w 1 54 51<|
.nil))
 (.seq (.ops (.op (some 55) (.agg [.i, .str, .bool, .i, .i, .bool, .bool, .bool, .bool, .i, .i, .any, .any, .i, .bool, .i]) [] (.build [(V.int .i64 (Int.ofNat 0)), (V.str ⟨0, 0⟩), (V.bool false), (V.int .i64 (Int.ofNat 0)), (V.int .i64 (Int.ofNat 0)), (V.bool false), (V.bool false), (V.bool false), (V.bool false), (V.int .i64 (Int.ofNat 0)), (V.int .i64 (Int.ofNat 0)), V.nils, V.nils, (V.int .i64 (Int.ofNat 0)), (V.bool false), (V.int .i64 (Int.ofNat 0))] [])<|
.p 6 [] (.alloc 183 [(V.int .i64 (Int.ofNat 0)), (V.str ⟨0, 0⟩), (V.bool false), (V.int .i64 (Int.ofNat 0)), (V.int .i64 (Int.ofNat 0)), (V.bool false), (V.bool false), (V.bool false), (V.bool false), (V.int .i64 (Int.ofNat 0)), (V.int .i64 (Int.ofNat 0)), V.nils, V.nils, (V.int .i64 (Int.ofNat 0)), (V.bool false), (V.int .i64 (Int.ofNat 0))])<|
.op none (.agg [.i, .str, .bool, .i, .i, .bool, .bool, .bool, .bool, .i, .i, .any, .any, .i, .bool, .i]) [6, 55] (.store 16 (.t 6) (.t 55))<|
.nil))
 (.seq (.seq (.ops (.m 56 0<|
.k 57 .bool 59 [(.t 56), (.con (V.str ⟨1, 91⟩))]<|
.nil))
 (.cond (.tmp 57) (.seq (.ops (.m 58 0<|
.k 59 (.agg [.i, .str, .i]) 60 [(.t 58)]<|
.pal 7 [] 121 [(V.int .i64 (Int.ofNat 0)), (V.str ⟨0, 0⟩), (V.int .i64 (Int.ofNat 0))]<|
.op none (.agg [.i, .str, .i]) [7, 59] (.store 3 (.t 7) (.t 59))<|
.nil))
 (.seq (.ops (.m 60 0<|
.k 61 .i 121 [(.t 60)]<|
.m 8 61<|
.nil))
 (.seq (.seq (.ops (.m 62 0<|
.n 63 62<|
.f 64 7 63<|
.l 65 .i 64<|
.b 66 .eql .none (.t 65) (.i 0)<|
.m 67 66<|
.grp 67 true (.p 68 [8, 67] (.mov (.t 8))<|
.p 69 [68, 67] (.bin .lss .none (.t 68) (.i 0))<|
.p 70 [69, 67] (.mov (.t 69))<|
.grp 70 false (.p 71 [8, 70] (.mov (.t 8))<|
.p 72 [71, 70] (.bin .gtr .none (.t 71) (.i 268435456))<|
.nil) 73 [70, 72, 67] (.t 70) (.con (V.bool true)) (.t 72)<|
.nil) 74 [67, 73] (.t 67) (.t 73) (.con (V.bool false))<|
.nil))
 (.cond (.tmp 74) (.ops (.m 75 0<|
.op (some 76) (.agg [.i, .str, .i]) [7] (.load (some 3) (.t 7))<|
.k 77 (.tup []) 61 [(.t 75), (.i 12), (.t 76)]<|
.nil))
 .skip))
 (.keep [(0, .ptr), (1, .i), (5, .i), (6, .ptr), (8, .i)] [] [] cc2))))
 .skip))
 (.keep [(0, .ptr), (1, .i), (5, .i), (6, .ptr)] [] [] cc1)))))))))
def C62_1 : XC := (.seq (.ops (.m 91 0<|
.m 92 1<|
.k 93 (.tup []) 122 [(.t 91), (.t 6), (.t 92)]<|
.nil))
 (.seq (.seq (.ops (.m 94 0<|
.n 95 94<|
.f 96 7 95<|
.l 97 .i 96<|
.b 98 .neq .none (.t 97) (.i 0)<|
.nil))
 (.cond (.tmp 98) (.seq (.ops (.q 4 0<|
.nil))
 .ret)
 .skip))
 (.seq (.draw (.m 99 0<|
.n 100 99<|
.f 101 2 100<|
.f 102 4 101<|
.l 103 .any 102<|
.m 104 5<|
.op (some 105) (.agg [.i, .str, .bool, .i, .i, .bool, .bool, .bool, .bool, .i, .i, .any, .any, .i, .bool, .i]) [6] (.load (some 16) (.t 6))<|
.s 106 16 103 104<|
.op none (.agg [.i, .str, .bool, .i, .i, .bool, .bool, .bool, .bool, .i, .i, .any, .any, .i, .bool, .i]) [106, 105] (.store 16 (.t 106) (.t 105))<|
.nil) [0, 1, 3, 7, 15, 0, 0, 127, 255])
 (.seq (.ops (.m 107 5<|
.m 4 107<|
.nil))
 .ret))))
def C62_2 : XC := (.seq (.ops (.m 78 0<|
.k 79 (.tup []) 58 [(.t 78), (.con (V.str ⟨1, 93⟩))]<|
.nil))
 (.seq (.ops (.m 80 8<|
.op (some 81) (.agg [.bool, .i, .i]) [80] (.build [(V.bool false), (V.int .i64 (Int.ofNat 0)), (V.int .i64 (Int.ofNat 0))] [(0, 1, (.con (V.bool true))), (1, 1, (.t 80))])<|
.f 82 2 6<|
.op none (.agg [.bool, .i, .i]) [82, 81] (.store 3 (.t 82) (.t 81))<|
.nil))
 (.seq (.ops (.m 83 0<|
.k 84 .bool 59 [(.t 83), (.con (V.str ⟨8, 6073459554577832005⟩))]<|
.nil))
 (.cond (.tmp 84) (.ops (.f 85 2 6<|
.f 86 2 85<|
.op none .any [86] (.store 1 (.t 86) (.i 1))<|
.nil))
 (.seq (.ops (.m 87 0<|
.k 88 .bool 59 [(.t 87), (.con (V.str ⟨8, 6073459554577829193⟩))]<|
.nil))
 (.cond (.tmp 88) (.ops (.f 89 2 6<|
.f 90 2 89<|
.op none .any [90] (.store 1 (.t 90) (.i 2))<|
.nil))
 .skip))))))
def A62 : XFn := ⟨108, [.ptr, .i], [(.tmp 4)], (C62_0 C62_1 C62_2)⟩
def C63_0 (cc1 : XC) (cc2 : XC) : XC := (.seq (.ops (.p 1 [0] (.box 76 (.t 0))<|
.c 2 V.nils<|
.q 3 0<|
.q 4 0<|
.nil))
 (.seq (.ops (.c 5 V.nils<|
.nil))
 (.seq (.ops (.c 6 (V.int .i64 (Int.negSucc 0))<|
.nil))
 (.seq (.seq (.ops (.q 7 0<|
.nil))
 (.block 0 (.loop [(1, .ptr), (5, .any), (6, .i), (7, .i)] [] [] cc2)))
 (.keep [(1, .ptr), (5, .any), (6, .i)] [] [] cc1)))))
def C63_1 (cc3 : XC) (cc4 : XC) : XC := (.seq (.seq (.ops (.q 8 0<|
.nil))
 (.block 2 (.loop [(1, .ptr), (5, .any), (6, .i), (8, .i)] [] [] cc4)))
 (.keep [(1, .ptr), (5, .any), (6, .i)] [] [] cc3))
def C63_2 : XC := (.seq (.seq (.ops (.m 16 7<|
.f 17 2 1<|
.l 18 .any 17<|
.u 19 18<|
.b 20 .lss .none (.t 16) (.t 19)<|
.nil))
 (.cond (.tmp 20) .skip
 (.exit 0)))
 (.seq (.block 1 (.seq (.draw (.f 23 2 1<|
.l 24 .any 23<|
.m 25 7<|
.p 26 [24, 25] (.sliceSl 1 (.t 24) none (some (.t 25)) none)<|
.f 27 2 1<|
.l 28 .any 27<|
.m 29 7<|
.s 30 1 28 29<|
.l 31 .str 30<|
.k 32 .bool 123 [(.t 26), (.t 31)]<|
.nil) [0, 1, 0, 7, 0, 16, 0, 112, 240, 511])
 (.cond (.tmp 32) (.seq (.ops (.m 33 7<|
.c 2 V.nils<|
.m 3 33<|
.q 4 8<|
.nil))
 .ret)
 .skip)))
 (.ops (.m 21 7<|
.b 22 .add .none (.t 21) (.i 1)<|
.m 7 22<|
.nil))))
def C63_3 (cc6 : XC) (cc7 : XC) : XC := (.seq (.seq (.ops (.m 61 6<|
.b 62 .geq .none (.t 61) (.i 0)<|
.nil))
 (.cond (.tmp 62) (.seq (.ops (.m 63 6<|
.c 2 V.nils<|
.m 3 63<|
.q 4 9<|
.nil))
 .ret)
 .skip))
 (.seq (.seq (.ops (.q 11 0<|
.nil))
 (.block 4 (.loop [(1, .ptr), (5, .any), (11, .i)] [] [] cc7)))
 (.keep [(1, .ptr), (5, .any)] [] [] cc6)))
def C63_4 (cc5 : XC) : XC := (.seq (.seq (.ops (.m 34 8<|
.f 35 2 1<|
.l 36 .any 35<|
.u 37 36<|
.b 38 .lss .none (.t 34) (.t 37)<|
.nil))
 (.cond (.tmp 38) .skip
 (.exit 2)))
 (.seq (.block 3 (.seq (.draw (.op (some 42) (.agg [.str, .i, .any, .any, .any]) [1] (.load (some 5) (.t 1))<|
.f 43 3 1<|
.l 44 .any 43<|
.m 45 8<|
.s 46 1 44 45<|
.l 47 .i 46<|
.k 48 (.tup [.any, .bool]) 124 [(.t 42), (.t 47), (.i 0), (.con V.nils)]<|
.m 41 48<|
.p 49 [41] (.extract 0 (.t 41))<|
.p 50 [41] (.extract 1 (.t 41))<|
.m 9 49<|
.m 10 50<|
.nil) [0, 0, 2, 0, 14, 30, 63, 127, 255, 255, 511, 2047])
 (.seq (.ops (.m 51 5<|
.m 52 9<|
.p 53 [52] (.buildSlice 22 1 [V.nils] [(0, 1, (.t 52))])<|
.op (some 54) .one [51, 53] (.append 22 1 24 (.t 51) (.t 53))<|
.m 5 54<|
.nil))
 (.seq (.ops (.m 55 10<|
.m 56 55<|
.grp 56 true (.p 57 [6, 56] (.mov (.t 6))<|
.p 58 [57, 56] (.bin .lss .none (.t 57) (.i 0))<|
.nil) 59 [56, 58] (.t 56) (.t 58) (.con (V.bool false))<|
.nil))
 (.cond (.tmp 59) (.ops (.m 60 8<|
.m 6 60<|
.nil))
 .skip)))))
 (.keep [(1, .ptr), (5, .any), (6, .i), (8, .i)] [] [] cc5)))
def C63_5 : XC := (.ops (.m 39 8<|
.b 40 .add .none (.t 39) (.i 1)<|
.m 8 40<|
.nil))
def C63_6 (cc8 : XC) (cc9 : XC) : XC := (.seq (.ops (.c 12 V.nils<|
.nil))
 (.seq (.block 6 (.loop [(1, .ptr), (5, .any), (12, .any)] [] [] cc9))
 (.keep [(12, .any)] [] [] cc8)))
def C63_7 : XC := (.seq (.seq (.ops (.m 64 11<|
.f 65 2 1<|
.l 66 .any 65<|
.u 67 66<|
.b 68 .lss .none (.t 64) (.t 67)<|
.nil))
 (.cond (.tmp 68) .skip
 (.exit 4)))
 (.seq (.block 5 (.seq (.ops (.m 71 5<|
.m 72 11<|
.m 73 11<|
.k 74 .bool 125 [(.t 71), (.t 72), (.t 73)]<|
.nil))
 (.cond (.tmp 74) (.seq (.ops (.m 75 11<|
.c 2 V.nils<|
.m 3 75<|
.q 4 10<|
.nil))
 .ret)
 .skip)))
 (.ops (.m 69 11<|
.b 70 .add .none (.t 69) (.i 1)<|
.m 11 70<|
.nil))))
def C63_8 : XC := (.seq (.ops (.m 119 12<|
.m 2 119<|
.q 3 0<|
.q 4 0<|
.nil))
 .ret)
def C63_9 (cc10 : XC) : XC := (.seq (.seq (.ops (.m 76 12<|
.u 77 76<|
.f 78 2 1<|
.l 79 .any 78<|
.u 80 79<|
.b 81 .lss .none (.t 77) (.t 80)<|
.nil))
 (.cond (.tmp 81) .skip
 (.exit 6)))
 (.block 7 (.seq (.ops (.q 13 0<|
.nil))
 (.block 8 (.loop [(1, .ptr), (5, .any), (12, .any), (13, .i)] [] [] cc10)))))
def C63_10 (cc11 : XC) (cc12 : XC) (cc13 : XC) : XC := (.seq (.seq (.ops (.m 82 13<|
.f 83 2 1<|
.l 84 .any 83<|
.u 85 84<|
.b 86 .lss .none (.t 82) (.t 85)<|
.nil))
 (.cond (.tmp 86) .skip
 (.exit 8)))
 (.seq (.block 9 (.seq (.ops (.m 89 12<|
.m 90 13<|
.k 91 .bool 29 [(.t 89), (.t 90)]<|
.p 92 [91] (.un .not (.t 91))<|
.m 14 92<|
.nil))
 (.seq (.seq (.ops (.q 15 0<|
.nil))
 (.block 10 (.loop [(1, .ptr), (5, .any), (12, .any), (13, .i), (14, .bool), (15, .i)] [] [] cc13)))
 (.keep [(1, .ptr), (5, .any), (12, .any), (13, .i), (14, .bool)] [] [] cc12))))
 (.keep [(1, .ptr), (5, .any), (12, .any), (13, .i)] [] [] cc11)))
def C63_11 : XC := (.ops (.m 87 13<|
.b 88 .add .none (.t 87) (.i 1)<|
.m 13 88<|
.nil))
def C63_12 : XC := (.seq (.ops (.m 114 14<|
.nil))
 (.cond (.tmp 114) (.seq (.ops (.m 115 12<|
.m 116 13<|
.p 117 [116] (.buildSlice 3 1 [(V.int .i64 (Int.ofNat 0))] [(0, 1, (.t 116))])<|
.op (some 118) .one [115, 117] (.append 3 1 8 (.t 115) (.t 117))<|
.m 12 118<|
.nil))
 (.exit 8))
 .skip))
def C63_13 : XC := (.seq (.seq (.ops (.m 93 15<|
.m 94 5<|
.m 95 13<|
.s 96 1 94 95<|
.l 97 .any 96<|
.u 98 97<|
.b 99 .lss .none (.t 93) (.t 98)<|
.nil))
 (.cond (.tmp 99) .skip
 (.exit 10)))
 (.seq (.block 11 (.ops (.m 102 14<|
.m 103 102<|
.grp 103 true (.p 104 [12, 103] (.mov (.t 12))<|
.p 105 [5, 103] (.mov (.t 5))<|
.p 106 [13, 103] (.mov (.t 13))<|
.p 107 [105, 106, 103] (.iaddrS 1 (.t 105) (.t 106))<|
.p 108 [107, 103] (.load none (.t 107))<|
.p 109 [15, 103] (.mov (.t 15))<|
.p 110 [108, 109, 103] (.iaddrS 1 (.t 108) (.t 109))<|
.op (some 111) .i [110, 103] (.load none (.t 110))<|
.op (some 112) .bool [104, 111, 103] (.call 29 [(.t 104), (.t 111)])<|
.nil) 113 [103, 112] (.t 103) (.t 112) (.con (V.bool false))<|
.m 14 113<|
.nil)))
 (.ops (.m 100 15<|
.b 101 .add .none (.t 100) (.i 1)<|
.m 15 101<|
.nil))))
def A63 : XFn := ⟨120, [(.agg [.str, .i, .any, .any, .any])], [(.tmp 2), (.tmp 3), (.tmp 4)], (C63_0 (C63_1 (C63_3 (C63_6 C63_8 (C63_9 (C63_10 C63_11 C63_12 C63_13))) C63_7) (C63_4 C63_5)) C63_2)⟩
def G64_0 : List AOper := [⟨(some 26), .mov (.tmp 0), none⟩, ⟨(some 27), .mov (.tmp 0), none⟩, ⟨(some 28), .nilck (.tmp 27), none⟩, ⟨(some 29), .faddr 0 (.tmp 28), none⟩, ⟨(some 30), .faddr 3 (.tmp 29), none⟩, ⟨(some 31), .load none (.tmp 30), none⟩, ⟨(some 32), .mov (.tmp 0), none⟩, ⟨(some 33), .nilck (.tmp 32), none⟩, ⟨(some 34), .faddr 0 (.tmp 33), none⟩, ⟨(some 35), .load (some 5) (.tmp 34), none⟩, ⟨(some 36), .faddr 1 (.tmp 7), none⟩, ⟨(some 37), .load none (.tmp 36), none⟩, ⟨(some 38), .call 126 [(.tmp 35), (.tmp 37)], none⟩, ⟨(some 39), .iaddrS 1 (.tmp 31) (.tmp 38), none⟩, ⟨(some 40), .load none (.tmp 39), none⟩, ⟨(some 41), .mov (.tmp 2), none⟩, ⟨(some 42), .call 64 [(.tmp 26), (.tmp 40), (.tmp 41)], none⟩, ⟨(some 8), .mov (.tmp 42), none⟩]
def H64_0 : List DP := [⟨0, [0]⟩, ⟨0, [0]⟩, ⟨2, [27]⟩, ⟨6, [28]⟩, ⟨14, [29]⟩, ⟨30, [30]⟩, ⟨0, [0]⟩, ⟨64, [32]⟩, ⟨192, [33]⟩, ⟨448, [34]⟩, ⟨0, [7]⟩, ⟨1024, [36]⟩, ⟨4032, [35, 37]⟩, ⟨8190, [31, 38]⟩, ⟨16382, [39]⟩, ⟨0, [2]⟩, ⟨65535, [26, 40, 41]⟩, ⟨131071, [42]⟩]
def C64_0 (cc1 : XC) : XC := (.seq (.ops (.q 6 0<|
.nil))
 (.seq (.seq (.ops (.m 10 0<|
.n 11 10<|
.f 12 6 11<|
.l 13 .i 12<|
.b 14 .neq .none (.t 13) (.i 0)<|
.nil))
 (.cond (.tmp 14) (.seq (.ops (.q 6 0<|
.nil))
 .ret)
 .skip))
 (.seq (.ops (.m 15 0<|
.n 16 15<|
.f 17 0 16<|
.f 18 4 17<|
.l 19 .any 18<|
.m 20 1<|
.s 21 16 19 20<|
.op (some 22) (.agg [.i, .str, .bool, .i, .i, .bool, .bool, .bool, .bool, .i, .i, .any, .any, .i, .bool, .i]) [21] (.load (some 16) (.t 21))<|
.p 7 [] (.alloc 183 [(V.int .i64 (Int.ofNat 0)), (V.str ⟨0, 0⟩), (V.bool false), (V.int .i64 (Int.ofNat 0)), (V.int .i64 (Int.ofNat 0)), (V.bool false), (V.bool false), (V.bool false), (V.bool false), (V.int .i64 (Int.ofNat 0)), (V.int .i64 (Int.ofNat 0)), V.nils, V.nils, (V.int .i64 (Int.ofNat 0)), (V.bool false), (V.int .i64 (Int.ofNat 0))])<|
.op none (.agg [.i, .str, .bool, .i, .i, .bool, .bool, .bool, .bool, .i, .i, .any, .any, .i, .bool, .i]) [7, 22] (.store 16 (.t 7) (.t 22))<|
.nil))
 (.seq (.ops (.q 8 0<|
.nil))
 (.seq (.seq (.ops (.f 23 0 7<|
.l 24 .i 23<|
.b 25 .eql .none (.t 24) (.i 11)<|
.nil))
 (.cond (.tmp 25) (.keep [(0, .ptr), (2, .i), (7, .ptr)] [] [] (.gdraw G64_0 H64_0 [(0, .ptr), (7, .ptr), (8, .i)]))
 (.ops (.m 43 0<|
.op (some 44) (.agg [.i, .str, .bool, .i, .i, .bool, .bool, .bool, .bool, .i, .i, .any, .any, .i, .bool, .i]) [7] (.load (some 16) (.t 7))<|
.m 45 2<|
.k 46 .i 127 [(.t 43), (.t 44), (.t 45)]<|
.m 8 46<|
.nil))))
 (.keep [(0, .ptr), (7, .ptr), (8, .i)] [] [] cc1))))))
def C64_1 (cc2 : XC) (cc3 : XC) : XC := (.seq (.seq (.ops (.m 47 0<|
.n 48 47<|
.f 49 6 48<|
.l 50 .i 49<|
.b 51 .eql .none (.t 50) (.i 0)<|
.m 52 51<|
.grp 52 true (.p 53 [7, 52] (.faddr 2 (.t 7))<|
.p 54 [53, 52] (.faddr 0 (.t 53))<|
.op (some 55) .bool [54, 52] (.load none (.t 54))<|
.nil) 56 [52, 55] (.t 52) (.t 55) (.con (V.bool false))<|
.nil))
 (.cond (.tmp 56) (.seq (.ops (.q 9 0<|
.nil))
 (.seq (.block 0 (.seq (.ops (.f 58 2 7<|
.f 59 2 58<|
.l 60 .i 59<|
.b 61 .eql .none (.t 60) (.i 2)<|
.m 57 61<|
.nil))
 (.cond (.tmp 57) (.ops (.q 9 1<|
.nil))
 (.seq (.ops (.f 63 2 7<|
.f 64 2 63<|
.l 65 .i 64<|
.b 66 .eql .none (.t 65) (.i 0)<|
.m 67 66<|
.grp 67 true (.p 68 [0, 67] (.mov (.t 0))<|
.p 69 [68, 67] (.nilck (.t 68))<|
.p 70 [69, 67] (.faddr 0 (.t 69))<|
.p 71 [70, 67] (.faddr 1 (.t 70))<|
.op (some 72) .i [71, 67] (.load none (.t 71))<|
.p 73 [72, 67] (.bin .neq .none (.t 72) (.i 0))<|
.nil) 74 [67, 73] (.t 67) (.t 73) (.con (V.bool false))<|
.m 62 74<|
.nil))
 (.cond (.tmp 62) (.ops (.m 75 0<|
.m 76 8<|
.k 77 .i 128 [(.t 75), (.t 76)]<|
.m 9 77<|
.nil))
 .skip)))))
 (.keep [(0, .ptr), (7, .ptr), (8, .i), (9, .i)] [] [] cc3)))
 .skip))
 (.keep [(8, .i)] [] [] cc2))
def C64_2 : XC := (.seq (.ops (.m 85 8<|
.m 6 85<|
.nil))
 .ret)
def C64_3 : XC := (.ops (.m 78 0<|
.m 79 8<|
.f 80 2 7<|
.f 81 1 80<|
.l 82 .i 81<|
.m 83 9<|
.k 84 (.tup []) 129 [(.t 78), (.t 79), (.t 82), (.t 83)]<|
.nil))
def A64 : XFn := ⟨86, [.ptr, .i, .i], [(.tmp 6)], (C64_0 (C64_1 C64_2 C64_3))⟩
def C65_0 (cc1 : XC) (cc2 : XC) : XC := (.seq (.ops (.p 6 [2] (.box 38 (.t 2))<|
.c 8 (V.bool false)<|
.nil))
 (.seq (.seq (.ops (.m 10 1<|
.b 11 .lss .none (.t 10) (.i 0)<|
.m 12 11<|
.grp 12 false (.p 13 [1, 12] (.mov (.t 1))<|
.p 14 [0, 12] (.mov (.t 0))<|
.p 15 [14, 12] (.nilck (.t 14))<|
.p 16 [15, 12] (.faddr 0 (.t 15))<|
.p 17 [16, 12] (.faddr 0 (.t 16))<|
.p 18 [17, 12] (.faddr 3 (.t 17))<|
.p 19 [18, 12] (.load none (.t 18))<|
.p 20 [19, 12] (.len false (.t 19))<|
.p 21 [13, 20, 12] (.bin .geq .none (.t 13) (.t 20))<|
.nil) 22 [12, 21] (.t 12) (.con (V.bool true)) (.t 21)<|
.m 23 22<|
.grp 23 false (.p 24 [3, 23] (.mov (.t 3))<|
.p 25 [24, 23] (.bin .gtr .none (.t 24) (.i 17))<|
.nil) 26 [23, 25] (.t 23) (.con (V.bool true)) (.t 25)<|
.nil))
 (.cond (.tmp 26) (.seq (.ops (.c 8 (V.bool false)<|
.nil))
 .ret)
 .skip))
 (.seq (.ops (.m 27 0<|
.n 28 27<|
.f 29 0 28<|
.f 30 0 29<|
.f 31 3 30<|
.l 32 .any 31<|
.m 33 1<|
.s 34 13 32 33<|
.op (some 35) (.agg [.i, .any, .bool, .bool, .bool, .bool, .i, .i, .any, .any, .i, .bool, .i]) [34] (.load (some 13) (.t 34))<|
.pal 9 [] 145 [(V.int .i64 (Int.ofNat 0)), V.nils, (V.bool false), (V.bool false), (V.bool false), (V.bool false), (V.int .i64 (Int.ofNat 0)), (V.int .i64 (Int.ofNat 0)), V.nils, V.nils, (V.int .i64 (Int.ofNat 0)), (V.bool false), (V.int .i64 (Int.ofNat 0))]<|
.op none (.agg [.i, .any, .bool, .bool, .bool, .bool, .i, .i, .any, .any, .i, .bool, .i]) [9, 35] (.store 13 (.t 9) (.t 35))<|
.nil))
 (.seq (.seq (.ops (.f 36 0 6<|
.l 37 .i 36<|
.b 38 .eql .none (.t 37) (.i 12)<|
.nil))
 (.cond (.tmp 38) (.seq (.ops (.m 39 0<|
.m 40 1<|
.op (some 41) (.agg [.i, .i, .any, .any, .i, .any]) [6] (.load (some 6) (.t 6))<|
.k 42 .bool 130 [(.t 39), (.t 40), (.t 41)]<|
.m 8 42<|
.nil))
 .ret)
 .skip))
 (.seq (.seq (.ops (.f 43 0 6<|
.l 44 .i 43<|
.f 45 0 9<|
.l 46 .i 45<|
.b 47 .neq .none (.t 44) (.t 46)<|
.nil))
 (.cond (.tmp 47) (.seq (.ops (.c 8 (V.bool false)<|
.nil))
 .ret)
 .skip))
 (.seq (.seq (.ops (.f 48 0 9<|
.l 49 .i 48<|
.nil))
 (.block 0 (.seq (.ops (.b 51 .eql .none (.t 49) (.i 1)<|
.m 50 51<|
.nil))
 (.cond (.tmp 50) (.seq (.ops (.op (some 52) (.agg [.i, .i, .any, .any, .i, .any]) [6] (.load (some 6) (.t 6))<|
.k 53 .bool 131 [(.t 52), (.i 1)]<|
.m 54 53<|
.grp 54 true (.p 55 [6, 54] (.faddr 1 (.t 6))<|
.op (some 56) .i [55, 54] (.load none (.t 55))<|
.p 57 [56, 54] (.bin .eql .none (.t 56) (.i 0))<|
.p 58 [57, 54] (.mov (.t 57))<|
.grp 58 false (.p 59 [6, 58] (.faddr 1 (.t 6))<|
.op (some 60) .i [59, 58] (.load none (.t 59))<|
.p 61 [60, 58] (.bin .eql .none (.t 60) (.i 1))<|
.nil) 62 [58, 61, 54] (.t 58) (.con (V.bool true)) (.t 61)<|
.nil) 63 [54, 62] (.t 54) (.t 62) (.con (V.bool false))<|
.m 8 63<|
.nil))
 .ret)
 (.seq (.ops (.b 65 .eql .none (.t 49) (.i 2)<|
.m 64 65<|
.nil))
 (.cond (.tmp 64) (.seq (.ops (.op (some 66) (.agg [.i, .i, .any, .any, .i, .any]) [6] (.load (some 6) (.t 6))<|
.k 67 .bool 131 [(.t 66), (.i 1)]<|
.m 68 67<|
.grp 68 true (.p 69 [9, 68] (.faddr 2 (.t 9))<|
.p 70 [69, 68] (.faddr 3 (.t 69))<|
.op (some 71) .bool [70, 68] (.load none (.t 70))<|
.p 72 [71, 68] (.mov (.t 71))<|
.grp 72 false (.p 73 [9, 72] (.faddr 2 (.t 9))<|
.op (some 74) (.agg [.bool, .bool, .bool, .bool, .i, .i]) [73, 72] (.load (some 6) (.t 73))<|
.p 75 [6, 72] (.faddr 1 (.t 6))<|
.op (some 76) .i [75, 72] (.load none (.t 75))<|
.op (some 77) .bool [74, 76, 72] (.call 132 [(.t 74), (.t 76)])<|
.nil) 78 [72, 77, 68] (.t 72) (.con (V.bool true)) (.t 77)<|
.nil) 79 [68, 78] (.t 68) (.t 78) (.con (V.bool false))<|
.m 8 79<|
.nil))
 .ret)
 (.seq (.ops (.b 81 .eql .none (.t 49) (.i 3)<|
.m 80 81<|
.nil))
 (.cond (.tmp 80) (.seq (.ops (.op (some 82) (.agg [.i, .i, .any, .any, .i, .any]) [6] (.load (some 6) (.t 6))<|
.k 83 .bool 131 [(.t 82), (.i 1)]<|
.m 84 83<|
.grp 84 true (.op (some 85) (.agg [.i, .any, .bool, .bool, .bool, .bool, .i, .i, .any, .any, .i, .bool, .i]) [9, 84] (.load (some 13) (.t 9))<|
.p 86 [6, 84] (.faddr 1 (.t 6))<|
.op (some 87) .i [86, 84] (.load none (.t 86))<|
.op (some 88) .i [85, 87, 84] (.call 133 [(.t 85), (.t 87)])<|
.p 89 [88, 84] (.bin .geq .none (.t 88) (.i 0))<|
.nil) 90 [84, 89] (.t 84) (.t 89) (.con (V.bool false))<|
.m 8 90<|
.nil))
 .ret)
 (.seq (.ops (.b 92 .eql .none (.t 49) (.i 4)<|
.m 91 92<|
.nil))
 (.cond (.tmp 91) (.seq (.ops (.op (some 93) (.agg [.i, .i, .any, .any, .i, .any]) [6] (.load (some 6) (.t 6))<|
.k 94 .bool 131 [(.t 93), (.i 0)]<|
.m 8 94<|
.nil))
 .ret)
 (.seq (.seq (.ops (.b 96 .eql .none (.t 49) (.i 5)<|
.m 95 96<|
.nil))
 (.cond (.tmp 95) .skip
 (.ops (.b 97 .eql .none (.t 49) (.i 6)<|
.m 95 97<|
.nil))))
 (.keep [(0, .ptr), (1, .i), (3, .i), (6, .ptr), (49, .i), (95, .bool)] [9] [(9, [.i, .any, .bool, .bool, .bool, .bool, .i, .i, .any, .any, .i, .bool, .i])] cc2))))))))))))
 (.keep [] [] [] cc1)))))))
def C65_1 : XC := (.seq (.ops (.c 8 (V.bool false)<|
.nil))
 .ret)
def C65_2 (cc3 : XC) : XC := (.cond (.tmp 95) (.seq (.ops (.m 98 0<|
.op (some 99) (.agg [.i, .any, .bool, .bool, .bool, .bool, .i, .i, .any, .any, .i, .bool, .i]) [9] (.load (some 13) (.t 9))<|
.op (some 100) (.agg [.i, .i, .any, .any, .i, .any]) [6] (.load (some 6) (.t 6))<|
.k 101 .bool 134 [(.t 98), (.t 99), (.t 100)]<|
.m 8 101<|
.nil))
 .ret)
 (.seq (.ops (.b 103 .eql .none (.t 49) (.i 10)<|
.m 102 103<|
.nil))
 (.cond (.tmp 102) (.seq (.ops (.m 104 0<|
.op (some 105) (.agg [.i, .any, .bool, .bool, .bool, .bool, .i, .i, .any, .any, .i, .bool, .i]) [9] (.load (some 13) (.t 9))<|
.op (some 106) (.agg [.i, .i, .any, .any, .i, .any]) [6] (.load (some 6) (.t 6))<|
.m 107 3<|
.k 108 .bool 135 [(.t 104), (.t 105), (.t 106), (.t 107)]<|
.m 8 108<|
.nil))
 .ret)
 (.seq (.ops (.b 110 .eql .none (.t 49) (.i 9)<|
.m 109 110<|
.nil))
 (.cond (.tmp 109) (.seq (.draw (.op (some 111) (.agg [.i, .i, .any, .any, .i, .any]) [6] (.load (some 6) (.t 6))<|
.k 112 .bool 131 [(.t 111), (.i 5)]<|
.m 113 112<|
.grp 113 true (.p 114 [6, 113] (.faddr 1 (.t 6))<|
.op (some 115) .i [114, 113] (.load none (.t 114))<|
.p 116 [115, 113] (.bin .geq .none (.t 115) (.i 0))<|
.nil) 117 [113, 116] (.t 113) (.t 116) (.con (V.bool false))<|
.m 118 117<|
.grp 118 true (.p 119 [6, 118] (.faddr 1 (.t 6))<|
.op (some 120) .i [119, 118] (.load none (.t 119))<|
.p 121 [9, 118] (.faddr 9 (.t 9))<|
.p 122 [121, 118] (.load none (.t 121))<|
.p 123 [122, 118] (.len false (.t 122))<|
.p 124 [120, 123, 118] (.bin .lss .none (.t 120) (.t 123))<|
.nil) 125 [118, 124] (.t 118) (.t 124) (.con (V.bool false))<|
.m 126 125<|
.grp 126 true (.p 127 [6, 126] (.faddr 3 (.t 6))<|
.p 128 [127, 126] (.load none (.t 127))<|
.p 129 [128, 126] (.len false (.t 128))<|
.p 130 [129, 126] (.bin .eql .none (.t 129) (.i 1))<|
.nil) 131 [126, 130] (.t 126) (.t 130) (.con (V.bool false))<|
.m 132 131<|
.grp 132 true (.p 133 [0, 132] (.mov (.t 0))<|
.p 134 [9, 132] (.faddr 9 (.t 9))<|
.p 135 [134, 132] (.load none (.t 134))<|
.p 136 [6, 132] (.faddr 1 (.t 6))<|
.op (some 137) .i [136, 132] (.load none (.t 136))<|
.p 138 [135, 137, 132] (.iaddrS 11 (.t 135) (.t 137))<|
.p 139 [138, 132] (.faddr 1 (.t 138))<|
.op (some 140) .i [139, 132] (.load none (.t 139))<|
.p 141 [6, 132] (.faddr 3 (.t 6))<|
.p 142 [141, 132] (.load none (.t 141))<|
.p 143 [142, 132] (.iaddrS 6 (.t 142) (.i 0))<|
.op (some 144) (.agg [.i, .i, .any, .any, .i, .any]) [143, 132] (.load (some 6) (.t 143))<|
.p 145 [3, 132] (.mov (.t 3))<|
.p 146 [145, 132] (.bin .add .none (.t 145) (.i 1))<|
.op (some 147) .bool [133, 140, 144, 146, 132] (.call 65 [(.t 133), (.t 140), (.t 144), (.t 146)])<|
.nil) 148 [132, 147] (.t 132) (.t 147) (.con (V.bool false))<|
.m 8 148<|
.nil) [0, 1, 3, 7, 15, 31, 63, 127, 255, 511, 255, 1279, 3327, 8191, 16383, 32767, 65535, 131071, 262143, 524287, 1048575, 2097151, 4194303, 4194303, 12582911, 4194303, 37748735, 130023423, 264241151, 532676607, 4194303, 1077936127, 3225419775, 7520387071, 4194303, 17184063487, 68719476735, 137438953471, 274877906943])
 .ret)
 (.seq (.seq (.ops (.b 150 .eql .none (.t 49) (.i 7)<|
.m 149 150<|
.nil))
 (.cond (.tmp 149) .skip
 (.ops (.b 151 .eql .none (.t 49) (.i 8)<|
.m 149 151<|
.nil))))
 (.keep [(0, .ptr), (1, .i), (3, .i), (6, .ptr), (149, .bool)] [] [] cc3)))))))
def C65_3 : XC := (.cond (.tmp 149) (.seq (.ops (.m 152 0<|
.m 153 1<|
.op (some 154) (.agg [.i, .i, .any, .any, .i, .any]) [6] (.load (some 6) (.t 6))<|
.m 155 3<|
.k 156 .bool 136 [(.t 152), (.t 153), (.t 154), (.t 155)]<|
.m 8 156<|
.nil))
 .ret)
 .skip)
def A65 : XFn := ⟨157, [.ptr, .i, (.agg [.i, .i, .any, .any, .i, .any]), .i], [(.tmp 8)], (C65_0 C65_1 (C65_2 C65_3))⟩
def C66_0 (cc1 : XC) (cc2 : XC) : XC := (.seq (.ops (.p 1 [0] (.box 38 (.t 0))<|
.q 2 0<|
.nil))
 (.seq (.ops (.q 3 1<|
.nil))
 (.seq (.seq (.ops (.f 6 3 1<|
.l 7 .any 6<|
.u 8 7<|
.q 9 0<|
.nil))
 (.block 0 (.loop [(3, .i), (7, .any), (8, .i), (9, .i)] [] [] cc2)))
 (.keep [(3, .i)] [] [] cc1))))
def C66_1 : XC := (.seq (.ops (.m 18 3<|
.m 2 18<|
.nil))
 .ret)
def C66_2 : XC := (.seq (.ops (.b 10 .lss .none (.t 9) (.t 8)<|
.nil))
 (.seq (.cond (.tmp 10) .skip
 (.exit 0))
 (.seq (.block 1 (.seq (.ops (.s 11 6 7 9<|
.op (some 12) (.agg [.i, .i, .any, .any, .i, .any]) [11] (.load (some 6) (.t 11))<|
.pal 5 [] 38 [(V.int .i64 (Int.ofNat 0)), (V.int .i64 (Int.ofNat 0)), V.nils, V.nils, (V.int .i64 (Int.ofNat 0)), V.nils]<|
.op none (.agg [.i, .i, .any, .any, .i, .any]) [5, 12] (.store 6 (.t 5) (.t 12))<|
.nil))
 (.ops (.m 13 3<|
.op (some 14) (.agg [.i, .i, .any, .any, .i, .any]) [5] (.load (some 6) (.t 5))<|
.k 15 .i 66 [(.t 14)]<|
.b 16 .add .none (.t 13) (.t 15)<|
.m 3 16<|
.nil))))
 (.ops (.b 17 .add .none (.t 9) (.i 1)<|
.m 9 17<|
.nil)))))
def A66 : XFn := ⟨19, [(.agg [.i, .i, .any, .any, .i, .any])], [(.tmp 2)], (C66_0 C66_1 C66_2)⟩
def C67_0 : XC := (.seq (.ops (.c 4 (V.bool false)<|
.nil))
 (.seq (.ops (.m 5 0<|
.m 6 1<|
.k 7 .i 137 [(.t 5), (.t 6)]<|
.b 8 .geq .none (.t 7) (.i 0)<|
.m 4 8<|
.nil))
 .ret))
def A67 : XFn := ⟨9, [.any, .any], [(.tmp 4)], C67_0⟩
def C68_0 : XC := (.seq (.ops (.p 1 [0] (.box 145 (.t 0))<|
.c 2 (V.bool false)<|
.nil))
 (.seq (.ops (.f 3 10 1<|
.l 4 .i 3<|
.b 5 .lss .none (.t 4) (.i 0)<|
.m 6 5<|
.grp 6 false (.p 7 [1, 6] (.faddr 10 (.t 1))<|
.op (some 8) .i [7, 6] (.load none (.t 7))<|
.p 9 [1, 6] (.faddr 9 (.t 1))<|
.p 10 [9, 6] (.load none (.t 9))<|
.p 11 [10, 6] (.len false (.t 10))<|
.p 12 [1, 6] (.faddr 8 (.t 1))<|
.p 13 [12, 6] (.load none (.t 12))<|
.p 14 [13, 6] (.len false (.t 13))<|
.p 15 [11, 14, 6] (.bin .add .none (.t 11) (.t 14))<|
.p 16 [8, 15, 6] (.bin .gtr .none (.t 8) (.t 15))<|
.nil) 17 [6, 16] (.t 6) (.con (V.bool true)) (.t 16)<|
.m 2 17<|
.nil))
 .ret))
def A68 : XFn := ⟨18, [(.agg [.i, .any, .bool, .bool, .bool, .bool, .i, .i, .any, .any, .i, .bool, .i])], [(.tmp 2)], C68_0⟩
def C69_0 : XC := (.seq (.ops (.c 4 (V.bool false)<|
.nil))
 (.seq (.ops (.m 5 0<|
.m 6 1<|
.k 7 .i 138 [(.t 5), (.t 6)]<|
.b 8 .geq .none (.t 7) (.i 0)<|
.m 4 8<|
.nil))
 .ret))
def A69 : XFn := ⟨9, [.any, .any], [(.tmp 4)], C69_0⟩
def C70_0 : XC := (.seq (.ops (.p 2 [0] (.box 38 (.t 0))<|
.c 3 (V.bool false)<|
.nil))
 (.seq (.ops (.op (some 4) (.agg [.i, .i, .any, .any, .i, .any]) [2] (.load (some 6) (.t 2))<|
.l 5 .i 1<|
.k 6 .bool 38 [(.t 4), (.t 5)]<|
.p 7 [6] (.un .not (.t 6))<|
.m 3 7<|
.nil))
 .ret))
def A70 : XFn := ⟨8, [(.agg [.i, .i, .any, .any, .i, .any]), .any], [(.tmp 3)], C70_0⟩
def C71_0 : XC := (.seq (.ops (.m 4 1<|
.nil))
 (.cond (.tmp 4) (.ops (.m 5 0<|
.n 6 5<|
.f 7 0 6<|
.l 8 .any 7<|
.k 9 (.tup []) 139 [(.t 8), (.con (V.int .u64 (Int.ofNat 1))), (.i 1)]<|
.nil))
 (.ops (.m 10 0<|
.n 11 10<|
.f 12 0 11<|
.l 13 .any 12<|
.k 14 (.tup []) 139 [(.t 13), (.con (V.int .u64 (Int.ofNat 0))), (.i 1)]<|
.nil))))
def A71 : XFn := ⟨15, [.ptr, .bool], [], C71_0⟩
def G72_0 : List AOper := [⟨(some 58), .mov (.tmp 0), none⟩, ⟨(some 59), .nilck (.tmp 58), none⟩, ⟨(some 60), .faddr 0 (.tmp 59), none⟩, ⟨(some 61), .load none (.tmp 60), none⟩, ⟨(some 62), .mov (.tmp 2), none⟩, ⟨(some 63), .conv (.toInt .u64) (.tmp 62), none⟩, ⟨(some 64), .faddr 4 (.tmp 4), none⟩, ⟨(some 65), .load none (.tmp 64), none⟩, ⟨(some 66), .conv (.toInt .u64) (.tmp 65), none⟩, ⟨(some 67), .bin .sub .none (.tmp 63) (.tmp 66), none⟩, ⟨(some 68), .call 142 [(.tmp 67)], none⟩, ⟨(some 69), .buildSlice 34 1 [V.nils] [(0, 1, (.tmp 68))], none⟩, ⟨(some 70), .call 74 [(.tmp 61), (.tmp 69)], none⟩]
def H72_0 : List DP := [⟨0, [0]⟩, ⟨1, [58]⟩, ⟨3, [59]⟩, ⟨7, [60]⟩, ⟨0, [2]⟩, ⟨16, [62]⟩, ⟨0, [4]⟩, ⟨64, [64]⟩, ⟨192, [65]⟩, ⟨496, [63, 66]⟩, ⟨1008, [67]⟩, ⟨2032, [68]⟩, ⟨4095, [61, 69]⟩]
def G72_1 : List AOper := [⟨(some 23), .mov (.tmp 0), none⟩, ⟨(some 24), .nilck (.tmp 23), none⟩, ⟨(some 25), .faddr 0 (.tmp 24), none⟩, ⟨(some 26), .load none (.tmp 25), none⟩, ⟨(some 27), .mov (.tmp 2), none⟩, ⟨(some 28), .call 143 [(.tmp 27)], none⟩, ⟨(some 29), .buildSlice 34 1 [V.nils] [(0, 1, (.tmp 28))], none⟩, ⟨(some 30), .call 74 [(.tmp 26), (.tmp 29)], none⟩]
def H72_1 : List DP := [⟨0, [0]⟩, ⟨1, [23]⟩, ⟨3, [24]⟩, ⟨7, [25]⟩, ⟨0, [2]⟩, ⟨16, [27]⟩, ⟨48, [28]⟩, ⟨127, [26, 29]⟩]
def C72_0 (cc1 : XC) : XC := (.seq (.ops (.p 4 [1] (.box 141 (.t 1))<|
.nil))
 (.seq (.ops (.op (some 9) (.agg [.bool, .bool, .bool, .bool, .i, .i]) [4] (.load (some 6) (.t 4))<|
.m 10 2<|
.k 11 .bool 132 [(.t 9), (.t 10)]<|
.m 6 11<|
.nil))
 (.seq (.seq (.ops (.f 12 3 4<|
.l 13 .bool 12<|
.nil))
 (.cond (.tmp 13) (.ops (.m 14 0<|
.m 15 6<|
.p 16 [15] (.un .not (.t 15))<|
.k 17 (.tup []) 71 [(.t 14), (.t 16)]<|
.nil))
 .skip))
 (.keep [(0, .ptr), (2, .i), (4, .ptr), (6, .bool)] [] [] cc1))))
def C72_1 : XC := (.seq (.ops (.op (some 19) (.agg [.bool, .bool, .bool, .bool, .i, .i]) [4] (.load (some 6) (.t 4))<|
.k 20 (.tup [(.int .u64), .bool]) 140 [(.t 19)]<|
.m 18 20<|
.p 21 [18] (.extract 0 (.t 18))<|
.p 22 [18] (.extract 1 (.t 18))<|
.m 7 21<|
.m 8 22<|
.nil))
 (.block 0 (.seq (.ops (.m 32 6<|
.m 33 32<|
.grp 33 true (.p 34 [8, 33] (.mov (.t 8))<|
.nil) 35 [33, 34] (.t 33) (.t 34) (.con (V.bool false))<|
.m 31 35<|
.nil))
 (.cond (.tmp 31) (.draw (.m 36 0<|
.n 37 36<|
.f 38 0 37<|
.l 39 .any 38<|
.m 40 2<|
.p 41 [40] (.conv (.toInt .u64) (.t 40))<|
.f 42 4 4<|
.l 43 .i 42<|
.p 44 [43] (.conv (.toInt .u64) (.t 43))<|
.b 45 .sub .none (.t 41) (.t 44)<|
.m 46 7<|
.k 47 (.tup []) 141 [(.t 39), (.t 45), (.t 46)]<|
.nil) [0, 1, 3, 7, 0, 16, 0, 64, 192, 496, 0, 2047])
 (.seq (.ops (.m 49 6<|
.m 50 49<|
.grp 50 true (.p 51 [4, 50] (.faddr 0 (.t 4))<|
.op (some 52) .bool [51, 50] (.load none (.t 51))<|
.nil) 53 [50, 52] (.t 50) (.t 52) (.con (V.bool false))<|
.m 54 53<|
.grp 54 true (.p 55 [4, 54] (.faddr 1 (.t 4))<|
.op (some 56) .bool [55, 54] (.load none (.t 55))<|
.nil) 57 [54, 56] (.t 54) (.t 56) (.con (V.bool false))<|
.m 48 57<|
.nil))
 (.cond (.tmp 48) (.keep [(0, .ptr), (2, .i), (4, .ptr)] [] [] (.gdraw G72_0 H72_0 []))
 (.keep [(0, .ptr), (2, .i)] [] [] (.gdraw G72_1 H72_1 []))))))))
def A72 : XFn := ⟨71, [.ptr, (.agg [.bool, .bool, .bool, .bool, .i, .i]), .i], [], (C72_0 C72_1)⟩
def C74_0 (cc1 : XC) : XC := (.seq (.ops (.m 7 1<|
.k 8 .one 147 [(.t 7)]<|
.m 4 8<|
.nil))
 (.seq (.ops (.m 9 4<|
.u 10 9<|
.k 11 .one 148 [(.t 10)]<|
.u 12 11<|
.q 13 0<|
.nil))
 (.block 0 (.loop [(0, .any), (4, .any), (11, .any), (12, .i), (13, .i)] [] [] cc1))))
def C74_1 : XC := (.seq (.ops (.b 14 .lss .none (.t 13) (.t 12)<|
.nil))
 (.seq (.cond (.tmp 14) .skip
 (.exit 0))
 (.seq (.block 1 (.seq (.ops (.s 15 1 11 13<|
.l 16 .i 15<|
.m 6 16<|
.nil))
 (.seq (.ops (.m 17 0<|
.m 18 6<|
.m 19 6<|
.b 20 .geq .none (.t 19) (.i 16384)<|
.k 21 (.tup []) 149 [(.t 17), (.t 18), (.t 20)]<|
.nil))
 (.seq (.ops (.m 22 0<|
.m 23 4<|
.m 24 6<|
.p 25 [23, 24] (.sliceSl 1 (.t 23) none (some (.t 24)) none)<|
.k 26 (.tup []) 77 [(.t 22), (.t 25)]<|
.nil))
 (.ops (.m 27 4<|
.m 28 6<|
.p 29 [27, 28] (.sliceSl 1 (.t 27) (some (.t 28)) none none)<|
.m 4 29<|
.nil))))))
 (.ops (.b 30 .add .none (.t 13) (.i 1)<|
.m 13 30<|
.nil)))))
def A74 : XFn := ⟨31, [.any, .any], [], (C74_0 C74_1)⟩
def C77_0 : XC := (.seq (.ops (.m 4 0<|
.b 5 .neq .ptr (.t 4) (.con V.nilp)<|
.nil))
 (.cond (.tmp 5) (.ops (.m 6 0<|
.n 7 6<|
.f 8 0 7<|
.m 9 1<|
.p 10 [9] (.buildSlice 34 1 [V.nils] [(0, 1, (.t 9))])<|
.k 11 (.tup []) 151 [(.t 8), (.t 10)]<|
.nil))
 .skip))
def A77 : XFn := ⟨12, [.any, .any], [], C77_0⟩
def G84_0 : List AOper := [⟨(some 52), .mov (.tmp 0), none⟩, ⟨(some 53), .load (some 13) (.tmp 6), none⟩, ⟨(some 54), .load (some 6) (.tmp 5), none⟩, ⟨(some 55), .mov (.tmp 0), none⟩, ⟨(some 56), .nilck (.tmp 55), none⟩, ⟨(some 57), .faddr 1 (.tmp 56), none⟩, ⟨(some 58), .load (some 4) (.tmp 57), none⟩, ⟨(some 59), .mov (.tmp 1), none⟩, ⟨(some 60), .call 154 [(.tmp 58), (.tmp 59)], none⟩, ⟨(some 61), .faddr 10 (.tmp 6), none⟩, ⟨(some 62), .load none (.tmp 61), none⟩, ⟨(some 63), .sliceSl 1 (.tmp 60) none (some (.tmp 62)) none, none⟩, ⟨(some 64), .call 160 [(.tmp 52), (.tmp 53), (.tmp 54), (.tmp 63)], none⟩]
def H84_0 : List DP := [⟨0, [0]⟩, ⟨0, [6]⟩, ⟨0, [5]⟩, ⟨0, [0]⟩, ⟨8, [55]⟩, ⟨24, [56]⟩, ⟨56, [57]⟩, ⟨0, [1]⟩, ⟨248, [58, 59]⟩, ⟨0, [6]⟩, ⟨512, [61]⟩, ⟨2040, [60, 62]⟩, ⟨4095, [52, 53, 54, 63]⟩]
def C84_0 (cc1 : XC) (cc2 : XC) : XC := (.seq (.ops (.p 5 [2] (.box 38 (.t 2))<|
.nil))
 (.seq (.ops (.m 12 0<|
.n 13 12<|
.f 14 1 13<|
.f 15 3 14<|
.l 16 .any 15<|
.m 17 1<|
.s 18 13 16 17<|
.op (some 19) (.agg [.i, .any, .bool, .bool, .bool, .bool, .i, .i, .any, .any, .i, .bool, .i]) [18] (.load (some 13) (.t 18))<|
.p 6 [] (.alloc 145 [(V.int .i64 (Int.ofNat 0)), V.nils, (V.bool false), (V.bool false), (V.bool false), (V.bool false), (V.int .i64 (Int.ofNat 0)), (V.int .i64 (Int.ofNat 0)), V.nils, V.nils, (V.int .i64 (Int.ofNat 0)), (V.bool false), (V.int .i64 (Int.ofNat 0))])<|
.op none (.agg [.i, .any, .bool, .bool, .bool, .bool, .i, .i, .any, .any, .i, .bool, .i]) [6, 19] (.store 13 (.t 6) (.t 19))<|
.nil))
 (.seq (.ops (.m 20 0<|
.n 21 20<|
.f 22 1 21<|
.op (some 23) (.agg [.str, .any, .any, .any]) [22] (.load (some 4) (.t 22))<|
.m 24 1<|
.k 25 .one 155 [(.t 23), (.t 24)]<|
.m 7 25<|
.nil))
 (.seq (.ops (.c 8 V.nils<|
.nil))
 (.seq (.seq (.ops (.m 26 7<|
.u 27 26<|
.q 28 0<|
.nil))
 (.block 0 (.loop [(0, .ptr), (1, .i), (5, .ptr), (6, .ptr), (7, .any), (8, .any), (26, .any), (27, .i), (28, .i)] [] [] cc2)))
 (.keep [(0, .ptr), (1, .i), (5, .ptr), (6, .ptr), (7, .any), (8, .any)] [] [] cc1))))))
def C84_1 (cc3 : XC) : XC := (.seq (.ops (.f 39 5 5<|
.l 40 .any 39<|
.u 41 40<|
.b 42 .gtr .none (.t 41) (.i 0)<|
.m 43 42<|
.grp 43 false (.p 44 [8, 43] (.mov (.t 8))<|
.op (some 45) .bool [44, 43] (.call 159 [(.t 44), (.con (V.bool true))])<|
.nil) 46 [43, 45] (.t 43) (.con (V.bool true)) (.t 45)<|
.m 11 46<|
.nil))
 (.seq (.seq (.ops (.f 47 11 6<|
.l 48 .bool 47<|
.nil))
 (.cond (.tmp 48) (.ops (.m 49 0<|
.m 50 11<|
.k 51 (.tup []) 71 [(.t 49), (.t 50)]<|
.nil))
 .skip))
 (.keep [(0, .ptr), (1, .i), (5, .ptr), (6, .ptr), (7, .any), (8, .any), (11, .bool)] [] [] cc3)))
def C84_2 : XC := (.seq (.ops (.b 29 .lss .none (.t 28) (.t 27)<|
.nil))
 (.seq (.cond (.tmp 29) .skip
 (.exit 0))
 (.seq (.block 1 (.seq (.ops (.s 30 1 26 28<|
.l 31 .any 30<|
.m 10 31<|
.nil))
 (.ops (.m 32 8<|
.m 33 10<|
.p 34 [5] (.mkfn 157 [] [(.t 5)])<|
.k 35 .bool 156 [(.t 33), (.t 34)]<|
.p 36 [35] (.buildSlice 4 1 [(V.bool false)] [(0, 1, (.t 35))])<|
.op (some 37) .one [32, 36] (.append 4 1 1 (.t 32) (.t 36))<|
.m 8 37<|
.nil))))
 (.ops (.b 38 .add .none (.t 28) (.i 1)<|
.m 28 38<|
.nil)))))
def C84_3 : XC := (.seq (.keep [(0, .ptr), (1, .i), (5, .ptr), (6, .ptr), (7, .any), (8, .any), (11, .bool)] [] [] (.gdraw G84_0 H84_0 [(0, .ptr), (5, .ptr), (6, .ptr), (7, .any), (8, .any), (11, .bool)]))
 (.seq (.ops (.m 65 11<|
.nil))
 (.cond (.tmp 65) (.ops (.m 66 0<|
.op (some 67) (.agg [.i, .any, .bool, .bool, .bool, .bool, .i, .i, .any, .any, .i, .bool, .i]) [6] (.load (some 13) (.t 6))<|
.op (some 68) (.agg [.i, .i, .any, .any, .i, .any]) [5] (.load (some 6) (.t 5))<|
.m 69 7<|
.m 70 8<|
.k 71 (.tup []) 161 [(.t 66), (.t 67), (.t 68), (.t 69), (.t 70)]<|
.nil))
 .skip)))
def A84 : XFn := ⟨72, [.ptr, .i, (.agg [.i, .i, .any, .any, .i, .any])], [], (C84_0 (C84_1 C84_3) C84_2)⟩
def C85_0 : XC := (.seq (.ops (.q 2 0<|
.nil))
 (.seq (.seq (.ops (.m 3 0<|
.b 4 .eql .ptr (.t 3) (.con V.nilp)<|
.nil))
 (.cond (.tmp 4) (.seq (.ops (.q 2 0<|
.nil))
 .ret)
 .skip))
 (.seq (.ops (.m 5 0<|
.n 6 5<|
.f 7 0 6<|
.k 8 .i 162 [(.t 7)]<|
.m 2 8<|
.nil))
 .ret)))
def A85 : XFn := ⟨9, [.any], [(.tmp 2)], C85_0⟩
def C86_0 : XC := (.seq (.ops (.c 2 V.nils<|
.nil))
 (.seq (.seq (.ops (.m 3 0<|
.b 4 .eql .ptr (.t 3) (.con V.nilp)<|
.nil))
 (.cond (.tmp 4) (.seq (.ops (.c 2 V.nils<|
.nil))
 .ret)
 .skip))
 (.seq (.ops (.m 5 0<|
.n 6 5<|
.f 7 0 6<|
.l 8 .any 7<|
.op (some 9) .one [8] (.append 5 1 1 (.con V.nils) (.t 8))<|
.m 2 9<|
.nil))
 .ret)))
def A86 : XFn := ⟨10, [.any], [(.tmp 2)], C86_0⟩
def Fin87 (E : List (Nat × Blk)) : St → Ans := fun s => resK E s [] fun l => some (oneV l, s.σ)
def C87_0 (cc1 : XC) : XC := (.seq (.ops (.q 4 0<|
.nil))
 (.block 0 (.loop [(0, .any), (1, .any), (4, .i)] [] [] cc1)))
def T87_0 (E : List (Nat × Blk)) (D : Den) (W : DrawFn) (K1 : V → V → Int → H → Ans) (v0 v1 : V) (σ : H) : Ans :=
 K1 v0 v1 (Int.ofNat 0) σ
def C87_1 (cc2 : XC) (cc3 : XC) : XC := (.seq (.seq (.ops (.m 6 4<|
.m 7 1<|
.u 8 7<|
.b 9 .lss .none (.t 6) (.t 8)<|
.nil))
 (.cond (.tmp 9) .skip
 (.exit 0)))
 (.seq (.block 1 (.seq (.ops (.q 5 0<|
.nil))
 (.block 2 (.loop [(0, .any), (1, .any), (4, .i), (5, .i)] [] [] cc3))))
 (.keep [(0, .any), (1, .any), (4, .i)] [] [] cc2)))
def T87_1 (E : List (Nat × Blk)) (D : Den) (W : DrawFn) (K3 : V → V → Int → Int → H → Ans) (v0 v1 : V) (v4 : Int) (σ : H) : Ans :=
 slenK v1 fun n1 =>
 condK (ltF v4 (Int.ofNat n1)) (
 K3 v0 v1 v4 (Int.ofNat 0) σ) (
 some ((V.tup []), σ))
def C87_2 : XC := (.ops (.m 10 4<|
.b 11 .add .none (.t 10) (.i 1)<|
.m 4 11<|
.nil))
def T87_2 (E : List (Nat × Blk)) (D : Den) (W : DrawFn) (R1 : V → V → Int → H → Ans) (v0 v1 : V) (v4 : Int) (σ : H) : Ans :=
 R1 v0 v1 (addF .i64 v4 (Int.ofNat 1)) σ
def C87_3 : XC := (.seq (.seq (.ops (.m 12 5<|
.m 13 1<|
.m 14 4<|
.s 15 1 13 14<|
.l 16 .any 15<|
.u 17 16<|
.b 18 .lss .none (.t 12) (.t 17)<|
.nil))
 (.cond (.tmp 18) .skip
 (.exit 2)))
 (.seq (.block 3 (.ops (.m 21 0<|
.m 22 1<|
.m 23 4<|
.s 24 1 22 23<|
.l 25 .any 24<|
.m 26 5<|
.s 27 1 25 26<|
.l 28 (.int .u8) 27<|
.p 29 [28] (.conv (.toInt .u32) (.t 28))<|
.k 30 (.tup []) 163 [(.t 21), (.t 29), (.i 8)]<|
.nil)))
 (.ops (.m 19 5<|
.b 20 .add .none (.t 19) (.i 1)<|
.m 5 20<|
.nil))))
def T87_3 (E : List (Nat × Blk)) (D : Den) (W : DrawFn) (K2 : V → V → Int → H → Ans) (R3 : V → V → Int → Int → H → Ans) (v0 v1 : V) (v4 v5 : Int) (σ : H) : Ans :=
 iaddrSK 1 v1 v4 fun b1 o2 =>
 ldK E σ b1 o2 fun u3 =>
 slenK u3 fun n4 =>
 condK (ltF v5 (Int.ofNat n4)) (
 iaddrSK 1 v1 v4 fun b5 o6 =>
 ldK E σ b5 o6 fun u7 =>
 iaddrSK 1 u7 v5 fun b8 o9 =>
 ldK E σ b8 o9 fun u10 =>
 rtInt .u8 u10 fun x11 =>
 callK (D 163 [v0, (V.int .u32 (wrapF .u32 x11)), (V.int .i64 (Int.ofNat 8))] σ) fun u12 s13 =>
 rtTup u12 fun l14 =>
 rtNil l14 (
 R3 v0 v1 v4 (addF .i64 v5 (Int.ofNat 1)) s13)) (
 K2 v0 v1 v4 σ)
def S87_0 (v0 v1 : V) (σ : H) : St := ⟨[(0, v0), (1, v1)], [], [], σ⟩
def S87_1 (v0 v1 : V) (v4 : Int) (σ : H) : St := ⟨[(0, v0), (1, v1), (4, (V.int .i64 v4))], [], [], σ⟩
def S87_2 (v0 v1 : V) (v4 : Int) (σ : H) : St := ⟨[(0, v0), (1, v1), (4, (V.int .i64 v4))], [], [], σ⟩
def S87_3 (v0 v1 : V) (v4 v5 : Int) (σ : H) : St := ⟨[(0, v0), (1, v1), (4, (V.int .i64 v4)), (5, (V.int .i64 v5))], [], [], σ⟩
theorem P87_0 (cc1 : XC) (v0 v1 : V) (σ : H) :
 denC E D W N (C87_0 cc1) (S87_0 v0 v1 σ) (Fin87 E) (fun _ _ => none) (Fin87 E) =
 T87_0 E D W (fun v0 v1 v4 σ => iterK (fun rec s' => denC E D W N cc1 s' (fun s'' => keepS [(0, .any), (1, .any), (4, .i)] [] [] s'' rec) (blkK 0 (Fin87 E) (fun _ _ => none)) (Fin87 E)) N (S87_1 v0 v1 v4 σ)) v0 v1 σ := by kernel_rfl
theorem P87_1 (cc2 : XC) (cc3 : XC) (li1 : St → Ans) (v0 v1 : V) (v4 : Int) (σ : H) :
 denC E D W N (C87_1 cc2 cc3) (S87_1 v0 v1 v4 σ) (fun s'' => keepS [(0, .any), (1, .any), (4, .i)] [] [] s'' li1) (blkK 0 (Fin87 E) (fun _ _ => none)) (Fin87 E) =
 T87_1 E D W (fun v0 v1 v4 v5 σ => iterK (fun rec s' => denC E D W N cc3 s' (fun s'' => keepS [(0, .any), (1, .any), (4, .i), (5, .i)] [] [] s'' rec) (blkK 2 (fun s' => denC E D W N (.keep [(0, .any), (1, .any), (4, .i)] [] [] cc2) s' (fun s'' => keepS [(0, .any), (1, .any), (4, .i)] [] [] s'' li1) (blkK 0 (Fin87 E) (fun _ _ => none)) (Fin87 E)) (blkK 1 (fun s' => denC E D W N (.keep [(0, .any), (1, .any), (4, .i)] [] [] cc2) s' (fun s'' => keepS [(0, .any), (1, .any), (4, .i)] [] [] s'' li1) (blkK 0 (Fin87 E) (fun _ _ => none)) (Fin87 E)) (blkK 0 (Fin87 E) (fun _ _ => none)))) (Fin87 E)) N (S87_3 v0 v1 v4 v5 σ)) v0 v1 v4 σ := by kernel_rfl
theorem P87_2 (li1 : St → Ans) (v0 v1 : V) (v4 : Int) (σ : H) :
 denC E D W N (C87_2 ) (S87_2 v0 v1 v4 σ) (fun s'' => keepS [(0, .any), (1, .any), (4, .i)] [] [] s'' li1) (blkK 0 (Fin87 E) (fun _ _ => none)) (Fin87 E) =
 T87_2 E D W (fun v0 v1 v4 σ => li1 (S87_1 v0 v1 v4 σ)) v0 v1 v4 σ := by kernel_rfl
theorem P87_3 (cc2 : XC) (li1 : St → Ans) (li3 : St → Ans) (v0 v1 : V) (v4 v5 : Int) (σ : H) :
 denC E D W N (C87_3 ) (S87_3 v0 v1 v4 v5 σ) (fun s'' => keepS [(0, .any), (1, .any), (4, .i), (5, .i)] [] [] s'' li3) (blkK 2 (fun s' => denC E D W N (.keep [(0, .any), (1, .any), (4, .i)] [] [] cc2) s' (fun s'' => keepS [(0, .any), (1, .any), (4, .i)] [] [] s'' li1) (blkK 0 (Fin87 E) (fun _ _ => none)) (Fin87 E)) (blkK 1 (fun s' => denC E D W N (.keep [(0, .any), (1, .any), (4, .i)] [] [] cc2) s' (fun s'' => keepS [(0, .any), (1, .any), (4, .i)] [] [] s'' li1) (blkK 0 (Fin87 E) (fun _ _ => none)) (Fin87 E)) (blkK 0 (Fin87 E) (fun _ _ => none)))) (Fin87 E) =
 T87_3 E D W (fun v0 v1 v4 σ => denC E D W N cc2 (S87_2 v0 v1 v4 σ) (fun s'' => keepS [(0, .any), (1, .any), (4, .i)] [] [] s'' li1) (blkK 0 (Fin87 E) (fun _ _ => none)) (Fin87 E)) (fun v0 v1 v4 v5 σ => li3 (S87_3 v0 v1 v4 v5 σ)) v0 v1 v4 v5 σ := by kernel_rfl
def J87_2 (E : List (Nat × Blk)) (D : Den) (W : DrawFn) (N : Nat) (R1 : V → V → Int → H → Ans) : V → V → Int → H → Ans := T87_2 E D W R1
theorem JE87_2 (li1 : St → Ans) (v0 v1 : V) (v4 : Int) (σ : H) :
 denC E D W N C87_2 (S87_2 v0 v1 v4 σ) (fun s'' => keepS [(0, .any), (1, .any), (4, .i)] [] [] s'' li1) (blkK 0 (Fin87 E) (fun _ _ => none)) (Fin87 E) = J87_2 E D W N (fun v0 v1 v4 σ => li1 (S87_1 v0 v1 v4 σ)) v0 v1 v4 σ := by
 refine (P87_2 E D W N  li1 v0 v1 v4 σ).trans ?_
 kernel_rfl
def L87_3 (R1 : V → V → Int → H → Ans) (n : Nat) : V → V → Int → Int → H → Ans :=
 Nat.rec (fun _ _ _ _ _ => none) (fun _ ih => T87_3 E D W (J87_2 E D W N R1) ih) n
theorem LE87_3 (li1 : St → Ans) (n : Nat) : ∀ (v0 v1 : V) (v4 v5 : Int) (σ : H),
 iterK (fun rec s' => denC E D W N C87_3 s' (fun s'' => keepS [(0, .any), (1, .any), (4, .i), (5, .i)] [] [] s'' rec) (blkK 2 (fun s' => denC E D W N (.keep [(0, .any), (1, .any), (4, .i)] [] [] C87_2) s' (fun s'' => keepS [(0, .any), (1, .any), (4, .i)] [] [] s'' li1) (blkK 0 (Fin87 E) (fun _ _ => none)) (Fin87 E)) (blkK 1 (fun s' => denC E D W N (.keep [(0, .any), (1, .any), (4, .i)] [] [] C87_2) s' (fun s'' => keepS [(0, .any), (1, .any), (4, .i)] [] [] s'' li1) (blkK 0 (Fin87 E) (fun _ _ => none)) (Fin87 E)) (blkK 0 (Fin87 E) (fun _ _ => none)))) (Fin87 E)) n (S87_3 v0 v1 v4 v5 σ) = L87_3 E D W N (fun v0 v1 v4 σ => li1 (S87_1 v0 v1 v4 σ)) n v0 v1 v4 v5 σ := by
 induction n with
 | zero => intro v0 v1 v4 v5 σ; rfl
 | succ n ihn =>
  intro v0 v1 v4 v5 σ
  rw [iterK_succ]
  refine (P87_3 E D W N C87_2 li1 (iterK (fun rec s' => denC E D W N C87_3 s' (fun s'' => keepS [(0, .any), (1, .any), (4, .i), (5, .i)] [] [] s'' rec) (blkK 2 (fun s' => denC E D W N (.keep [(0, .any), (1, .any), (4, .i)] [] [] C87_2) s' (fun s'' => keepS [(0, .any), (1, .any), (4, .i)] [] [] s'' li1) (blkK 0 (Fin87 E) (fun _ _ => none)) (Fin87 E)) (blkK 1 (fun s' => denC E D W N (.keep [(0, .any), (1, .any), (4, .i)] [] [] C87_2) s' (fun s'' => keepS [(0, .any), (1, .any), (4, .i)] [] [] s'' li1) (blkK 0 (Fin87 E) (fun _ _ => none)) (Fin87 E)) (blkK 0 (Fin87 E) (fun _ _ => none)))) (Fin87 E)) n) v0 v1 v4 v5 σ).trans ?_
  simp only [ihn, JE87_2]
  kernel_rfl
def L87_1 (n : Nat) : V → V → Int → H → Ans :=
 Nat.rec (fun _ _ _ _ => none) (fun _ ih => T87_1 E D W (L87_3 E D W N ih N)) n
theorem LE87_1 (n : Nat) : ∀ (v0 v1 : V) (v4 : Int) (σ : H),
 iterK (fun rec s' => denC E D W N (C87_1 C87_2 C87_3) s' (fun s'' => keepS [(0, .any), (1, .any), (4, .i)] [] [] s'' rec) (blkK 0 (Fin87 E) (fun _ _ => none)) (Fin87 E)) n (S87_1 v0 v1 v4 σ) = L87_1 E D W N n v0 v1 v4 σ := by
 induction n with
 | zero => intro v0 v1 v4 σ; rfl
 | succ n ihn =>
  intro v0 v1 v4 σ
  rw [iterK_succ]
  refine (P87_1 E D W N C87_2 C87_3 (iterK (fun rec s' => denC E D W N (C87_1 C87_2 C87_3) s' (fun s'' => keepS [(0, .any), (1, .any), (4, .i)] [] [] s'' rec) (blkK 0 (Fin87 E) (fun _ _ => none)) (Fin87 E)) n) v0 v1 v4 σ).trans ?_
  simp only [ihn, LE87_3]
  kernel_rfl
def J87_0 : V → V → H → Ans := T87_0 E D W (L87_1 E D W N N)
theorem JE87_0 (v0 v1 : V) (σ : H) :
 denC E D W N (C87_0 (C87_1 C87_2 C87_3)) (S87_0 v0 v1 σ) (Fin87 E) (fun _ _ => none) (Fin87 E) = J87_0 E D W N v0 v1 σ := by
 refine (P87_0 E D W N (C87_1 C87_2 C87_3)  v0 v1 σ).trans ?_
 simp only [LE87_1]
 kernel_rfl
def F87 (args : List V) (σ : H) : Ans :=
 rtCons args fun x1 l2 =>
 rtCons l2 fun x3 l4 =>
 rtNil l4 (
 J87_0 E D W N x1 x3 σ)
def A87 : XFn := ⟨31, [.any, .any], [], (C87_0 (C87_1 C87_2 C87_3))⟩
theorem FE87 (args : List V) (σ : H) : runX E D W N A87 args σ = F87 E D W N args σ := by
 unfold F87
 simp only [← JE87_0]
 kernel_rfl
theorem AO87 : A87.body.ok = true := by kernel_rfl
def C98_0 : XC := (.seq (.ops (.p 1 [0] (.box 145 (.t 0))<|
.c 2 (V.bool false)<|
.nil))
 (.seq (.ops (.f 3 0 1<|
.l 4 .i 3<|
.b 5 .eql .none (.t 4) (.i 3)<|
.m 6 5<|
.grp 6 true (.p 7 [1, 6] (.faddr 10 (.t 1))<|
.op (some 8) .i [7, 6] (.load none (.t 7))<|
.p 9 [8, 6] (.bin .eql .none (.t 8) (.i 0))<|
.nil) 10 [6, 9] (.t 6) (.t 9) (.con (V.bool false))<|
.m 2 10<|
.nil))
 .ret))
def A98 : XFn := ⟨11, [(.agg [.i, .any, .bool, .bool, .bool, .bool, .i, .i, .any, .any, .i, .bool, .i])], [(.tmp 2)], C98_0⟩
def Fin99 (E : List (Nat × Blk)) : St → Ans := fun s => resK E s [(.tmp 2)] fun l => some (oneV l, s.σ)
def C99_0 : XC := (.seq (.ops (.c 2 V.nilp<|
.nil))
 (.seq (.ops (.m 3 0<|
.op (some 4) .one [3] (.append 5 1 1 (.con V.nils) (.t 3))<|
.op (some 5) (.agg [.any, .i]) [4] (.build [V.nils, (V.int .i64 (Int.ofNat 0))] [(0, 1, (.t 4))])<|
.op (some 6) (.agg [.any, .i, .i]) [5] (.build [V.nils, (V.int .i64 (Int.ofNat 0)), (V.int .i64 (Int.ofNat 0))] [(0, 2, (.t 5))])<|
.p 7 [6] (.box 228 (.t 6))<|
.m 2 7<|
.nil))
 .ret))
def T99_0 (E : List (Nat × Blk)) (D : Den) (W : DrawFn) (v0 : V) (σ : H) : Ans :=
 appK E 1 1 V.nils v0 σ fun u1 s2 =>
 rtOne u1 (
 fillK [(0, 1, u1)] [V.nils, (V.int .i64 (Int.ofNat 0))] fun l3 =>
 rtCons l3 fun x4 l5 =>
 rtCons l5 fun x6 l7 =>
 rtInt .i64 x6 fun x8 =>
 rtNil l7 (
 chk (allOne (V.cells (V.agg [x4, (V.int .i64 x8), (V.int .i64 (Int.ofNat 0))]))) (
 let s9 := newB s2 (.cells (V.cells (V.agg [x4, (V.int .i64 x8), (V.int .i64 (Int.ofNat 0))])));
 some ((V.ptr (H.next s2) 0), s9))))
def S99_0 (v0 : V) (σ : H) : St := ⟨[(0, v0)], [], [], σ⟩
theorem P99_0 (v0 : V) (σ : H) :
 denC E D W N (C99_0 ) (S99_0 v0 σ) (Fin99 E) (fun _ _ => none) (Fin99 E) =
 T99_0 E D W  v0 σ := by kernel_rfl
def J99_0 (E : List (Nat × Blk)) (D : Den) (W : DrawFn) (N : Nat) : V → H → Ans := T99_0 E D W
theorem JE99_0 (v0 : V) (σ : H) :
 denC E D W N C99_0 (S99_0 v0 σ) (Fin99 E) (fun _ _ => none) (Fin99 E) = J99_0 E D W N v0 σ := by
 refine (P99_0 E D W N   v0 σ).trans ?_
 kernel_rfl
def F99 (args : List V) (σ : H) : Ans :=
 rtCons args fun x1 l2 =>
 rtNil l2 (
 J99_0 E D W N x1 σ)
def A99 : XFn := ⟨8, [.any], [(.tmp 2)], C99_0⟩
theorem FE99 (args : List V) (σ : H) : runX E D W N A99 args σ = F99 E D W N args σ := by
 unfold F99
 simp only [← JE99_0]
 kernel_rfl
theorem AO99 : A99.body.ok = true := by kernel_rfl
def Fin100 (E : List (Nat × Blk)) : St → Ans := fun s => resK E s [] fun l => some (oneV l, s.σ)
def C100_0 : XC := (.seq (.ops (.m 4 1<|
.nil))
 (.cond (.tmp 4) (.ops (.m 5 0<|
.n 6 5<|
.f 7 0 6<|
.l 8 .any 7<|
.k 9 (.tup []) 181 [(.t 8), (.i 4)]<|
.nil))
 .skip))
def T100_0 (E : List (Nat × Blk)) (D : Den) (W : DrawFn) (v0b v0o : Nat) (v1 : Bool) (σ : H) : Ans :=
 condK v1 (
 ldK E σ v0b v0o fun u1 =>
 callK (D 181 [u1, (V.int .i64 (Int.ofNat 4))] σ) fun u2 s3 =>
 rtTup u2 fun l4 =>
 rtNil l4 (
 some ((V.tup []), s3))) (
 some ((V.tup []), σ))
def S100_0 (v0b v0o : Nat) (v1 : Bool) (σ : H) : St := ⟨[(0, (V.ptr v0b v0o)), (1, (V.bool v1))], [], [], σ⟩
theorem P100_0 (v0b v0o : Nat) (v1 : Bool) (σ : H) :
 denC E D W N (C100_0 ) (S100_0 v0b v0o v1 σ) (Fin100 E) (fun _ _ => none) (Fin100 E) =
 T100_0 E D W  v0b v0o v1 σ := by kernel_rfl
def J100_0 (E : List (Nat × Blk)) (D : Den) (W : DrawFn) (N : Nat) : Nat → Nat → Bool → H → Ans := T100_0 E D W
theorem JE100_0 (v0b v0o : Nat) (v1 : Bool) (σ : H) :
 denC E D W N C100_0 (S100_0 v0b v0o v1 σ) (Fin100 E) (fun _ _ => none) (Fin100 E) = J100_0 E D W N v0b v0o v1 σ := by
 refine (P100_0 E D W N   v0b v0o v1 σ).trans ?_
 kernel_rfl
def F100 (args : List V) (σ : H) : Ans :=
 rtCons args fun x1 l2 =>
 rtPtr x1 fun b3 o4 =>
 rtCons l2 fun x5 l6 =>
 rtBool x5 fun x7 =>
 rtNil l6 (
 J100_0 E D W N b3 o4 x7 σ)
def A100 : XFn := ⟨10, [.ptr, .bool], [], C100_0⟩
theorem FE100 (args : List V) (σ : H) : runX E D W N A100 args σ = F100 E D W N args σ := by
 unfold F100
 simp only [← JE100_0]
 kernel_rfl
theorem AO100 : A100.body.ok = true := by kernel_rfl
def Fin101 (E : List (Nat × Blk)) : St → Ans := fun s => resK E s [(.tmp 4)] fun l => some (oneV l, s.σ)
def C101_0 : XC := (.seq (.ops (.c 4 (V.bool false)<|
.nil))
 (.seq (.ops (.m 5 0<|
.n 6 5<|
.f 7 0 6<|
.l 8 .i 7<|
.m 9 1<|
.b 10 .add .none (.t 8) (.t 9)<|
.n 11 5<|
.f 12 0 11<|
.w 1 12 10<|
.nil))
 (.seq (.ops (.m 13 0<|
.n 14 13<|
.f 15 0 14<|
.l 16 .i 15<|
.b 17 .leq .none (.t 16) (.i 5000)<|
.m 4 17<|
.nil))
 .ret)))
def T101_0 (E : List (Nat × Blk)) (D : Den) (W : DrawFn) (v0b v0o : Nat) (v1 : Int) (σ : H) : Ans :=
 ldK E σ v0b v0o fun u1 =>
 rtInt .i64 u1 fun x2 =>
 stK 1 v0b v0o (V.int .i64 (addF .i64 x2 v1)) σ fun s3 =>
 ldK E s3 v0b v0o fun u4 =>
 rtInt .i64 u4 fun x5 =>
 some ((V.bool (leF x5 (Int.ofNat 5000))), s3)
def S101_0 (v0b v0o : Nat) (v1 : Int) (σ : H) : St := ⟨[(0, (V.ptr v0b v0o)), (1, (V.int .i64 v1))], [], [], σ⟩
theorem P101_0 (v0b v0o : Nat) (v1 : Int) (σ : H) :
 denC E D W N (C101_0 ) (S101_0 v0b v0o v1 σ) (Fin101 E) (fun _ _ => none) (Fin101 E) =
 T101_0 E D W  v0b v0o v1 σ := by kernel_rfl
def J101_0 (E : List (Nat × Blk)) (D : Den) (W : DrawFn) (N : Nat) : Nat → Nat → Int → H → Ans := T101_0 E D W
theorem JE101_0 (v0b v0o : Nat) (v1 : Int) (σ : H) :
 denC E D W N C101_0 (S101_0 v0b v0o v1 σ) (Fin101 E) (fun _ _ => none) (Fin101 E) = J101_0 E D W N v0b v0o v1 σ := by
 refine (P101_0 E D W N   v0b v0o v1 σ).trans ?_
 kernel_rfl
def F101 (args : List V) (σ : H) : Ans :=
 rtCons args fun x1 l2 =>
 rtPtr x1 fun b3 o4 =>
 rtCons l2 fun x5 l6 =>
 rtInt .i64 x5 fun x7 =>
 rtNil l6 (
 J101_0 E D W N b3 o4 x7 σ)
def A101 : XFn := ⟨18, [.ptr, .i], [(.tmp 4)], C101_0⟩
theorem FE101 (args : List V) (σ : H) : runX E D W N A101 args σ = F101 E D W N args σ := by
 unfold F101
 simp only [← JE101_0]
 kernel_rfl
theorem AO101 : A101.body.ok = true := by kernel_rfl
def Fin102 (E : List (Nat × Blk)) : St → Ans := fun s => resK E s [(.tmp 2)] fun l => some (oneV l, s.σ)
def C102_0 : XC := (.seq (.ops (.c 2 (V.bool false)<|
.nil))
 (.seq (.ops (.m 3 0<|
.n 4 3<|
.f 5 0 4<|
.l 6 .any 5<|
.k 7 .i 114 [(.t 6)]<|
.b 8 .eql .none (.t 7) (.i 0)<|
.m 2 8<|
.nil))
 .ret))
def T102_0 (E : List (Nat × Blk)) (D : Den) (W : DrawFn) (v0b v0o : Nat) (σ : H) : Ans :=
 ldK E σ v0b v0o fun u1 =>
 callK (D 114 [u1] σ) fun u2 s3 =>
 rtInt .i64 u2 fun x4 =>
 some ((V.bool (eqF x4 (Int.ofNat 0))), s3)
def S102_0 (v0b v0o : Nat) (σ : H) : St := ⟨[(0, (V.ptr v0b v0o))], [], [], σ⟩
theorem P102_0 (v0b v0o : Nat) (σ : H) :
 denC E D W N (C102_0 ) (S102_0 v0b v0o σ) (Fin102 E) (fun _ _ => none) (Fin102 E) =
 T102_0 E D W  v0b v0o σ := by kernel_rfl
def J102_0 (E : List (Nat × Blk)) (D : Den) (W : DrawFn) (N : Nat) : Nat → Nat → H → Ans := T102_0 E D W
theorem JE102_0 (v0b v0o : Nat) (σ : H) :
 denC E D W N C102_0 (S102_0 v0b v0o σ) (Fin102 E) (fun _ _ => none) (Fin102 E) = J102_0 E D W N v0b v0o σ := by
 refine (P102_0 E D W N   v0b v0o σ).trans ?_
 kernel_rfl
def F102 (args : List V) (σ : H) : Ans :=
 rtCons args fun x1 l2 =>
 rtPtr x1 fun b3 o4 =>
 rtNil l2 (
 J102_0 E D W N b3 o4 σ)
def A102 : XFn := ⟨9, [.ptr], [(.tmp 2)], C102_0⟩
theorem FE102 (args : List V) (σ : H) : runX E D W N A102 args σ = F102 E D W N args σ := by
 unfold F102
 simp only [← JE102_0]
 kernel_rfl
theorem AO102 : A102.body.ok = true := by kernel_rfl
def Fin103 (E : List (Nat × Blk)) : St → Ans := fun s => resK E s [(.tmp 4)] fun l => some (oneV l, s.σ)
def C103_0 : XC := (.seq (.ops (.c 4 (V.int .u64 (Int.ofNat 0))<|
.nil))
 (.seq (.ops (.m 6 1<|
.k 7 .i 182 [(.t 6)]<|
.m 1 7<|
.nil))
 (.seq (.seq (.ops (.m 8 0<|
.k 9 .i 114 [(.t 8)]<|
.b 10 .neq .none (.t 9) (.i 0)<|
.nil))
 (.cond (.tmp 10) (.seq (.ops (.c 4 (V.int .u64 (Int.ofNat 0))<|
.nil))
 .ret)
 .skip))
 (.seq (.seq (.ops (.m 11 1<|
.m 12 0<|
.k 13 .i 115 [(.t 12)]<|
.b 14 .gtr .none (.t 11) (.t 13)<|
.nil))
 (.cond (.tmp 14) (.seq (.ops (.m 15 0<|
.k 16 (.tup []) 181 [(.t 15), (.i 3)]<|
.nil))
 (.seq (.ops (.c 4 (V.int .u64 (Int.ofNat 0))<|
.nil))
 .ret))
 .skip))
 (.seq (.ops (.m 17 0<|
.n 18 17<|
.f 19 0 18<|
.l 20 .any 19<|
.m 21 1<|
.b 22 .sub .none (.t 21) (.i 32)<|
.k 23 (.int .u32) 183 [(.t 20), (.t 22)]<|
.p 24 [23] (.conv (.toInt .u64) (.t 23))<|
.m 5 24<|
.nil))
 (.seq (.draw (.m 25 5<|
.m 26 1<|
.p 27 [26] (.min (.t 26) [(.i 32)])<|
.b 28 .shl .none (.t 25) (.t 27)<|
.m 29 0<|
.n 30 29<|
.f 31 0 30<|
.l 32 .any 31<|
.m 33 1<|
.p 34 [33] (.min (.t 33) [(.i 32)])<|
.k 35 (.int .u32) 183 [(.t 32), (.t 34)]<|
.p 36 [35] (.conv (.toInt .u64) (.t 35))<|
.b 37 .or .none (.t 28) (.t 36)<|
.m 4 37<|
.nil) [0, 0, 2, 7, 0, 16, 48, 112, 0, 256, 1008, 2032, 4095, 8191])
 .ret))))))
def T103_0 (E : List (Nat × Blk)) (D : Den) (W : DrawFn) (v0b v0o : Nat) (v1 : Int) (σ : H) : Ans :=
 callK (D 182 [(V.int .i64 v1)] σ) fun u1 s2 =>
 rtInt .i64 u1 fun x3 =>
 callK (D 114 [(V.ptr v0b v0o)] s2) fun u4 s5 =>
 rtInt .i64 u4 fun x6 =>
 condK (not (eqF x6 (Int.ofNat 0))) (
 some ((V.int .u64 (Int.ofNat 0)), s5)) (
 callK (D 115 [(V.ptr v0b v0o)] s5) fun u7 s8 =>
 rtInt .i64 u7 fun x9 =>
 condK (ltF x9 x3) (
 callK (D 181 [(V.ptr v0b v0o), (V.int .i64 (Int.ofNat 3))] s8) fun u10 s11 =>
 rtTup u10 fun l12 =>
 rtNil l12 (
 some ((V.int .u64 (Int.ofNat 0)), s11))) (
 ldK E s8 v0b v0o fun u13 =>
 callK (D 183 [u13, (V.int .i64 (subF .i64 x3 (Int.ofNat 32)))] s8) fun u14 s15 =>
 rtInt .u32 u14 fun x16 =>
 nnK (minF x3 (Int.ofNat 32)) fun n17 =>
 ldK E s15 v0b v0o fun u18 =>
 callK (D 183 [u18, (V.int .i64 (minF x3 (Int.ofNat 32)))] s15) fun u19 s20 =>
 rtInt .u32 u19 fun x21 =>
 some ((V.int .u64 (orF .u64 (shlF .u64 (wrapF .u64 x16) n17) (wrapF .u64 x21))), s20)))
def S103_0 (v0b v0o : Nat) (v1 : Int) (σ : H) : St := ⟨[(0, (V.ptr v0b v0o)), (1, (V.int .i64 v1))], [], [], σ⟩
theorem P103_0 (v0b v0o : Nat) (v1 : Int) (σ : H) :
 denC E D W N (C103_0 ) (S103_0 v0b v0o v1 σ) (Fin103 E) (fun _ _ => none) (Fin103 E) =
 T103_0 E D W  v0b v0o v1 σ := by kernel_rfl
def J103_0 (E : List (Nat × Blk)) (D : Den) (W : DrawFn) (N : Nat) : Nat → Nat → Int → H → Ans := T103_0 E D W
theorem JE103_0 (v0b v0o : Nat) (v1 : Int) (σ : H) :
 denC E D W N C103_0 (S103_0 v0b v0o v1 σ) (Fin103 E) (fun _ _ => none) (Fin103 E) = J103_0 E D W N v0b v0o v1 σ := by
 refine (P103_0 E D W N   v0b v0o v1 σ).trans ?_
 kernel_rfl
def F103 (args : List V) (σ : H) : Ans :=
 rtCons args fun x1 l2 =>
 rtPtr x1 fun b3 o4 =>
 rtCons l2 fun x5 l6 =>
 rtInt .i64 x5 fun x7 =>
 rtNil l6 (
 J103_0 E D W N b3 o4 x7 σ)
def A103 : XFn := ⟨38, [.ptr, .i], [(.tmp 4)], C103_0⟩
theorem FE103 (args : List V) (σ : H) : runX E D W N A103 args σ = F103 E D W N args σ := by
 unfold F103
 simp only [← JE103_0]
 kernel_rfl
theorem AO103 : A103.body.ok = true := by kernel_rfl
def G104_0 : List AOper := [⟨(some 29), .faddr 4 (.tmp 3), none⟩, ⟨(some 30), .load none (.tmp 29), none⟩, ⟨(some 31), .conv (.toInt .u64) (.tmp 30), none⟩, ⟨(some 32), .mov (.tmp 0), none⟩, ⟨(some 33), .nilck (.tmp 32), none⟩, ⟨(some 34), .faddr 0 (.tmp 33), none⟩, ⟨(some 35), .load none (.tmp 34), none⟩, ⟨(some 36), .mov (.tmp 6), none⟩, ⟨(some 37), .call 185 [(.tmp 35), (.tmp 36)], none⟩, ⟨(some 38), .bin .add .none (.tmp 31) (.tmp 37), none⟩, ⟨(some 39), .conv (.toInt .i64) (.tmp 38), none⟩, ⟨(some 4), .mov (.tmp 39), none⟩]
def H104_0 : List DP := [⟨0, [3]⟩, ⟨1, [29]⟩, ⟨3, [30]⟩, ⟨0, [0]⟩, ⟨8, [32]⟩, ⟨24, [33]⟩, ⟨56, [34]⟩, ⟨0, [6]⟩, ⟨248, [35, 36]⟩, ⟨511, [31, 37]⟩, ⟨1023, [38]⟩, ⟨2047, [39]⟩]
def C104_0 : XC := (.seq (.ops (.p 3 [1] (.box 141 (.t 1))<|
.q 4 0<|
.nil))
 (.seq (.ops (.f 12 3 3<|
.l 13 .bool 12<|
.m 14 13<|
.grp 14 true (.p 15 [0, 14] (.mov (.t 0))<|
.op (some 16) .bool [15, 14] (.call 184 [(.t 15)])<|
.nil) 17 [14, 16] (.t 14) (.t 16) (.con (V.bool false))<|
.m 5 17<|
.nil))
 (.seq (.ops (.op (some 19) (.agg [.bool, .bool, .bool, .bool, .i, .i]) [3] (.load (some 6) (.t 3))<|
.k 20 (.tup [(.int .u64), .bool]) 140 [(.t 19)]<|
.m 18 20<|
.p 21 [18] (.extract 0 (.t 18))<|
.p 22 [18] (.extract 1 (.t 18))<|
.m 6 21<|
.m 7 22<|
.nil))
 (.seq (.block 0 (.seq (.ops (.m 24 5<|
.p 25 [24] (.un .not (.t 24))<|
.m 26 25<|
.grp 26 true (.p 27 [7, 26] (.mov (.t 7))<|
.nil) 28 [26, 27] (.t 26) (.t 27) (.con (V.bool false))<|
.m 23 28<|
.nil))
 (.cond (.tmp 23) (.seq (.keep [(0, .ptr), (3, .ptr), (6, (.int .u64))] [] [] (.gdraw G104_0 H104_0 [(4, .i)]))
 .ret)
 (.seq (.ops (.m 41 5<|
.p 42 [41] (.un .not (.t 41))<|
.m 43 42<|
.grp 43 true (.p 44 [3, 43] (.faddr 0 (.t 3))<|
.op (some 45) .bool [44, 43] (.load none (.t 44))<|
.nil) 46 [43, 45] (.t 43) (.t 45) (.con (V.bool false))<|
.m 47 46<|
.grp 47 true (.p 48 [3, 47] (.faddr 1 (.t 3))<|
.op (some 49) .bool [48, 47] (.load none (.t 48))<|
.nil) 50 [47, 49] (.t 47) (.t 49) (.con (V.bool false))<|
.m 40 50<|
.nil))
 (.cond (.tmp 40) (.seq (.ops (.m 52 0<|
.n 53 52<|
.f 54 0 53<|
.l 55 .any 54<|
.k 56 .one 106 [(.t 55), (.i 8)]<|
.k 57 (.tup [(.int .u64), .i]) 186 [(.t 56)]<|
.m 51 57<|
.p 58 [51] (.extract 0 (.t 51))<|
.p 59 [51] (.extract 1 (.t 51))<|
.m 8 58<|
.m 9 59<|
.nil))
 (.seq (.ops (.m 60 0<|
.m 61 9<|
.b 62 .neq .none (.t 61) (.i 0)<|
.m 63 62<|
.grp 63 false (.p 64 [8, 63] (.mov (.t 8))<|
.p 65 [3, 63] (.faddr 4 (.t 3))<|
.op (some 66) .i [65, 63] (.load none (.t 65))<|
.p 67 [66, 63] (.conv (.toInt .u64) (.t 66))<|
.p 68 [67, 63] (.bin .sub .none (.con (V.int .u64 (Int.ofNat 9223372036854775807))) (.t 67))<|
.p 69 [64, 68, 63] (.bin .gtr .none (.t 64) (.t 68))<|
.nil) 70 [63, 69] (.t 63) (.con (V.bool true)) (.t 69)<|
.k 71 (.tup []) 100 [(.t 60), (.t 70)]<|
.nil))
 (.seq (.ops (.f 72 4 3<|
.l 73 .i 72<|
.p 74 [73] (.conv (.toInt .u64) (.t 73))<|
.m 75 8<|
.b 76 .add .none (.t 74) (.t 75)<|
.p 77 [76] (.conv (.toInt .i64) (.t 76))<|
.m 4 77<|
.nil))
 .ret)))
 .skip)))))
 (.seq (.ops (.m 79 0<|
.n 80 79<|
.f 81 0 80<|
.l 82 .any 81<|
.k 83 .one 106 [(.t 82), (.i 8)]<|
.k 84 (.tup [.i, .i]) 187 [(.t 83)]<|
.m 78 84<|
.p 85 [78] (.extract 0 (.t 78))<|
.p 86 [78] (.extract 1 (.t 78))<|
.m 10 85<|
.m 11 86<|
.nil))
 (.seq (.ops (.m 87 0<|
.m 88 11<|
.b 89 .neq .none (.t 88) (.i 0)<|
.m 90 89<|
.grp 90 false (.op (some 91) (.agg [.bool, .bool, .bool, .bool, .i, .i]) [3, 90] (.load (some 6) (.t 3))<|
.p 92 [10, 90] (.mov (.t 10))<|
.op (some 93) .bool [91, 92, 90] (.call 132 [(.t 91), (.t 92)])<|
.p 94 [5, 90] (.mov (.t 5))<|
.p 95 [93, 94, 90] (.bin .eql .bool (.t 93) (.t 94))<|
.nil) 96 [90, 95] (.t 90) (.con (V.bool true)) (.t 95)<|
.k 97 (.tup []) 100 [(.t 87), (.t 96)]<|
.nil))
 (.seq (.ops (.m 98 10<|
.m 4 98<|
.nil))
 .ret)))))))
def A104 : XFn := ⟨99, [.ptr, (.agg [.bool, .bool, .bool, .bool, .i, .i])], [(.tmp 4)], C104_0⟩
def Fin106 (E : List (Nat × Blk)) : St → Ans := fun s => resK E s [(.tmp 4)] fun l => some (oneV l, s.σ)
def C106_0 : XC := (.seq (.ops (.p 2 [0] (.box 99 (.t 0))<|
.c 4 V.nils<|
.nil))
 (.seq (.ops (.p 5 [] (.alloc 34 [V.nils])<|
.nil))
 (.seq (.ops (.l 6 .any 2<|
.m 7 1<|
.p 8 [5, 2] (.mkfn 190 [] [(.t 5), (.t 2)])<|
.k 9 .i 189 [(.t 6), (.t 7), (.t 8)]<|
.nil))
 (.seq (.seq (.ops (.l 10 .any 2<|
.k 11 .i 114 [(.t 10)]<|
.b 12 .neq .none (.t 11) (.i 0)<|
.nil))
 (.cond (.tmp 12) (.seq (.ops (.c 4 V.nils<|
.nil))
 .ret)
 .skip))
 (.seq (.ops (.l 13 .any 5<|
.m 4 13<|
.nil))
 .ret)))))
def T106_0 (E : List (Nat × Blk)) (D : Den) (W : DrawFn) (v0 : V) (v1 : Int) (σ : H) : Ans :=
 chk (allOne (V.cells v0)) (
 let s1 := newB σ (.cells (V.cells v0));
 let s2 := newB s1 (.cells [V.nils]);
 ldK E s2 (H.next σ) 0 fun u3 =>
 callK (D 189 [u3, (V.int .i64 v1), (V.fn 190 [] [(V.ptr (H.next s1) 0), (V.ptr (H.next σ) 0)])] s2) fun u4 s5 =>
 rtInt .i64 u4 fun x6 =>
 ldK E s5 (H.next σ) 0 fun u7 =>
 callK (D 114 [u7] s5) fun u8 s9 =>
 rtInt .i64 u8 fun x10 =>
 condK (not (eqF x10 (Int.ofNat 0))) (
 some (V.nils, s9)) (
 ldK E s9 (H.next s1) 0 fun u11 =>
 some (u11, s9)))
def S106_0 (v0 : V) (v1 : Int) (σ : H) : St := ⟨[(0, v0), (1, (V.int .i64 v1))], [], [], σ⟩
theorem P106_0 (v0 : V) (v1 : Int) (σ : H) :
 denC E D W N (C106_0 ) (S106_0 v0 v1 σ) (Fin106 E) (fun _ _ => none) (Fin106 E) =
 T106_0 E D W  v0 v1 σ := by kernel_rfl
def J106_0 (E : List (Nat × Blk)) (D : Den) (W : DrawFn) (N : Nat) : V → Int → H → Ans := T106_0 E D W
theorem JE106_0 (v0 : V) (v1 : Int) (σ : H) :
 denC E D W N C106_0 (S106_0 v0 v1 σ) (Fin106 E) (fun _ _ => none) (Fin106 E) = J106_0 E D W N v0 v1 σ := by
 refine (P106_0 E D W N   v0 v1 σ).trans ?_
 kernel_rfl
def F106 (args : List V) (σ : H) : Ans :=
 rtCons args fun x1 l2 =>
 rtCons l2 fun x3 l4 =>
 rtInt .i64 x3 fun x5 =>
 rtNil l4 (
 J106_0 E D W N x1 x5 σ)
def A106 : XFn := ⟨14, [.any, .i], [(.tmp 4)], C106_0⟩
theorem FE106 (args : List V) (σ : H) : runX E D W N A106 args σ = F106 E D W N args σ := by
 unfold F106
 simp only [← JE106_0]
 kernel_rfl
theorem AO106 : A106.body.ok = true := by kernel_rfl
def Fin109 (E : List (Nat × Blk)) : St → Ans := fun s => resK E s [(.tmp 4)] fun l => some (oneV l, s.σ)
def C109_0 : XC := (.seq (.ops (.c 4 V.nils<|
.nil))
 (.seq (.seq (.ops (.m 5 0<|
.k 6 .i 114 [(.t 5)]<|
.b 7 .neq .none (.t 6) (.i 0)<|
.nil))
 (.cond (.tmp 7) (.seq (.ops (.c 4 V.nils<|
.nil))
 .ret)
 .skip))
 (.seq (.ops (.m 8 0<|
.n 9 8<|
.f 10 0 9<|
.l 11 .any 10<|
.m 12 1<|
.k 13 .one 191 [(.t 11), (.t 12)]<|
.m 4 13<|
.nil))
 .ret)))
def T109_0 (E : List (Nat × Blk)) (D : Den) (W : DrawFn) (v0b v0o : Nat) (v1 : Int) (σ : H) : Ans :=
 callK (D 114 [(V.ptr v0b v0o)] σ) fun u1 s2 =>
 rtInt .i64 u1 fun x3 =>
 condK (not (eqF x3 (Int.ofNat 0))) (
 some (V.nils, s2)) (
 ldK E s2 v0b v0o fun u4 =>
 callK (D 191 [u4, (V.int .i64 v1)] s2) fun u5 s6 =>
 rtOne u5 (
 some (u5, s6)))
def S109_0 (v0b v0o : Nat) (v1 : Int) (σ : H) : St := ⟨[(0, (V.ptr v0b v0o)), (1, (V.int .i64 v1))], [], [], σ⟩
theorem P109_0 (v0b v0o : Nat) (v1 : Int) (σ : H) :
 denC E D W N (C109_0 ) (S109_0 v0b v0o v1 σ) (Fin109 E) (fun _ _ => none) (Fin109 E) =
 T109_0 E D W  v0b v0o v1 σ := by kernel_rfl
def J109_0 (E : List (Nat × Blk)) (D : Den) (W : DrawFn) (N : Nat) : Nat → Nat → Int → H → Ans := T109_0 E D W
theorem JE109_0 (v0b v0o : Nat) (v1 : Int) (σ : H) :
 denC E D W N C109_0 (S109_0 v0b v0o v1 σ) (Fin109 E) (fun _ _ => none) (Fin109 E) = J109_0 E D W N v0b v0o v1 σ := by
 refine (P109_0 E D W N   v0b v0o v1 σ).trans ?_
 kernel_rfl
def F109 (args : List V) (σ : H) : Ans :=
 rtCons args fun x1 l2 =>
 rtPtr x1 fun b3 o4 =>
 rtCons l2 fun x5 l6 =>
 rtInt .i64 x5 fun x7 =>
 rtNil l6 (
 J109_0 E D W N b3 o4 x7 σ)
def A109 : XFn := ⟨14, [.ptr, .i], [(.tmp 4)], C109_0⟩
theorem FE109 (args : List V) (σ : H) : runX E D W N A109 args σ = F109 E D W N args σ := by
 unfold F109
 simp only [← JE109_0]
 kernel_rfl
theorem AO109 : A109.body.ok = true := by kernel_rfl
def G113_0 : List AOper := [⟨(some 18), .faddr 0 (.tmp 7), none⟩, ⟨(some 19), .load none (.tmp 18), none⟩, ⟨(some 20), .faddr 9 (.tmp 7), none⟩, ⟨(some 21), .load none (.tmp 20), none⟩, ⟨(some 22), .len false (.tmp 21), none⟩, ⟨(some 23), .mkslice 38 6 96 [(V.int .i64 (Int.ofNat 0)), (V.int .i64 (Int.ofNat 0)), V.nils, V.nils, (V.int .i64 (Int.ofNat 0)), V.nils] (.tmp 22) (.tmp 22), none⟩, ⟨(some 24), .build [(V.int .i64 (Int.ofNat 0)), (V.int .i64 (Int.ofNat 0)), V.nils, V.nils, (V.int .i64 (Int.ofNat 0)), V.nils] [(0, 1, (.tmp 19)), (3, 1, (.tmp 23))], none⟩, ⟨(some 8), .alloc 38 [(V.int .i64 (Int.ofNat 0)), (V.int .i64 (Int.ofNat 0)), V.nils, V.nils, (V.int .i64 (Int.ofNat 0)), V.nils], none⟩, ⟨none, .store 6 (.tmp 8) (.tmp 24), none⟩]
def H113_0 : List DP := [⟨0, [7]⟩, ⟨1, [18]⟩, ⟨0, [7]⟩, ⟨4, [20]⟩, ⟨12, [21]⟩, ⟨28, [22, 22]⟩, ⟨63, [19, 23]⟩, ⟨0, []⟩, ⟨255, [8, 24]⟩]
def G113_1 : List AOper := [⟨(some 42), .mov (.tmp 0), none⟩, ⟨(some 43), .load (some 13) (.tmp 7), none⟩, ⟨(some 44), .mov (.tmp 0), none⟩, ⟨(some 45), .nilck (.tmp 44), none⟩, ⟨(some 46), .faddr 1 (.tmp 45), none⟩, ⟨(some 47), .load (some 4) (.tmp 46), none⟩, ⟨(some 48), .mov (.tmp 1), none⟩, ⟨(some 49), .call 154 [(.tmp 47), (.tmp 48)], none⟩, ⟨(some 50), .faddr 10 (.tmp 7), none⟩, ⟨(some 51), .load none (.tmp 50), none⟩, ⟨(some 52), .sliceSl 1 (.tmp 49) none (some (.tmp 51)) none, none⟩, ⟨(some 53), .mov (.tmp 2), none⟩, ⟨(some 54), .call 199 [(.tmp 42), (.tmp 43), (.tmp 8), (.tmp 52), (.tmp 53)], none⟩]
def H113_1 : List DP := [⟨0, [0]⟩, ⟨0, [7]⟩, ⟨0, [0]⟩, ⟨4, [44]⟩, ⟨12, [45]⟩, ⟨28, [46]⟩, ⟨0, [1]⟩, ⟨124, [47, 48]⟩, ⟨0, [7]⟩, ⟨256, [50]⟩, ⟨1020, [49, 51]⟩, ⟨0, [2]⟩, ⟨4095, [42, 43, 8, 52, 53]⟩]
def Fin113 (E : List (Nat × Blk)) : St → Ans := fun s => resK E s [(.cell 6 (some 6))] fun l => some (oneV l, s.σ)
def C113_0 (cc1 : XC) : XC := (.seq (.ops (.p 6 [] (.alloc 38 [(V.int .i64 (Int.ofNat 0)), (V.int .i64 (Int.ofNat 0)), V.nils, V.nils, (V.int .i64 (Int.ofNat 0)), V.nils])<|
.nil))
 (.seq (.ops (.m 10 0<|
.n 11 10<|
.f 12 1 11<|
.f 13 3 12<|
.l 14 .any 13<|
.m 15 1<|
.s 16 13 14 15<|
.op (some 17) (.agg [.i, .any, .bool, .bool, .bool, .bool, .i, .i, .any, .any, .i, .bool, .i]) [16] (.load (some 13) (.t 16))<|
.p 7 [] (.alloc 145 [(V.int .i64 (Int.ofNat 0)), V.nils, (V.bool false), (V.bool false), (V.bool false), (V.bool false), (V.int .i64 (Int.ofNat 0)), (V.int .i64 (Int.ofNat 0)), V.nils, V.nils, (V.int .i64 (Int.ofNat 0)), (V.bool false), (V.int .i64 (Int.ofNat 0))])<|
.op none (.agg [.i, .any, .bool, .bool, .bool, .bool, .i, .i, .any, .any, .i, .bool, .i]) [7, 17] (.store 13 (.t 7) (.t 17))<|
.nil))
 (.seq (.keep [(0, .ptr), (1, .i), (2, .i), (6, .ptr), (7, .ptr)] [] [] (.gdraw G113_0 H113_0 [(0, .ptr), (1, .i), (2, .i), (6, .ptr), (7, .ptr), (8, .ptr)]))
 (.seq (.draw (.m 25 0<|
.m 26 0<|
.n 27 26<|
.f 28 5 27<|
.l 29 .any 28<|
.f 30 9 7<|
.l 31 .any 30<|
.u 32 31<|
.k 33 .bool 101 [(.t 29), (.t 32)]<|
.p 34 [33] (.un .not (.t 33))<|
.k 35 (.tup []) 100 [(.t 25), (.t 34)]<|
.nil) [0, 0, 2, 6, 14, 0, 32, 96, 254, 510, 1023])
 (.seq (.ops (.f 36 11 7<|
.l 37 .bool 36<|
.m 38 37<|
.grp 38 true (.p 39 [0, 38] (.mov (.t 0))<|
.op (some 40) .bool [39, 38] (.call 184 [(.t 39)])<|
.nil) 41 [38, 40] (.t 38) (.t 40) (.con (V.bool false))<|
.m 9 41<|
.nil))
 (.seq (.keep [(0, .ptr), (1, .i), (2, .i), (6, .ptr), (7, .ptr), (8, .ptr), (9, .bool)] [] [] (.gdraw G113_1 H113_1 [(0, .ptr), (1, .i), (2, .i), (6, .ptr), (8, .ptr), (9, .bool)]))
 (.seq (.seq (.ops (.m 55 9<|
.m 56 55<|
.grp 56 true (.p 57 [0, 56] (.mov (.t 0))<|
.op (some 58) .bool [57, 56] (.call 102 [(.t 57)])<|
.nil) 59 [56, 58] (.t 56) (.t 58) (.con (V.bool false))<|
.nil))
 (.cond (.tmp 59) (.ops (.m 60 0<|
.m 61 1<|
.m 62 2<|
.k 63 (.tup []) 200 [(.t 60), (.t 61), (.t 8), (.t 62)]<|
.nil))
 .skip))
 (.keep [(6, .ptr), (8, .ptr)] [] [] cc1))))))))
def T113_0 (K1 : Nat → Nat → Nat → Nat → H → Ans) (v0b v0o : Nat) (v1 v2 : Int) (σ : H) : Ans :=
 let s1 := newB σ (.cells [(V.int .i64 (Int.ofNat 0)), (V.int .i64 (Int.ofNat 0)), V.nils, V.nils, (V.int .i64 (Int.ofNat 0)), V.nils]);
 ldK E s1 v0b (Nat.add (Nat.add v0o 1) 3) fun u2 =>
 iaddrSK 13 u2 v1 fun b3 o4 =>
 ldnK E s1 b3 o4 13 fun l5 =>
 rtCons l5 fun x6 l7 =>
 rtInt .i64 x6 fun x8 =>
 rtCons l7 fun x9 l10 =>
 rtCons l10 fun x11 l12 =>
 rtBool x11 fun x13 =>
 rtCons l12 fun x14 l15 =>
 rtBool x14 fun x16 =>
 rtCons l15 fun x17 l18 =>
 rtBool x17 fun x19 =>
 rtCons l18 fun x20 l21 =>
 rtBool x20 fun x22 =>
 rtCons l21 fun x23 l24 =>
 rtInt .i64 x23 fun x25 =>
 rtCons l24 fun x26 l27 =>
 rtInt .i64 x26 fun x28 =>
 rtCons l27 fun x29 l30 =>
 rtCons l30 fun x31 l32 =>
 rtCons l32 fun x33 l34 =>
 rtInt .i64 x33 fun x35 =>
 rtCons l34 fun x36 l37 =>
 rtBool x36 fun x38 =>
 rtCons l37 fun x39 l40 =>
 rtInt .i64 x39 fun x41 =>
 rtNil l40 (
 let s42 := newB s1 (.cells [(V.int .i64 (Int.ofNat 0)), V.nils, (V.bool false), (V.bool false), (V.bool false), (V.bool false), (V.int .i64 (Int.ofNat 0)), (V.int .i64 (Int.ofNat 0)), V.nils, V.nils, (V.int .i64 (Int.ofNat 0)), (V.bool false), (V.int .i64 (Int.ofNat 0))]);
 stK 13 (H.next s1) 0 (V.agg [(V.int .i64 x8), x9, (V.bool x13), (V.bool x16), (V.bool x19), (V.bool x22), (V.int .i64 x25), (V.int .i64 x28), x29, x31, (V.int .i64 x35), (V.bool x38), (V.int .i64 x41)]) s42 fun s43 =>
 gdrawK (W G113_0 H113_0 [(0, (V.ptr v0b v0o)), (1, (V.int .i64 v1)), (2, (V.int .i64 v2)), (6, (V.ptr (H.next σ) 0)), (7, (V.ptr (H.next s1) 0))] s43) fun e44 s45 =>
 getL e44 0 fun u46 =>
 rtPtr u46 fun b47 o48 =>
 getL e44 1 fun u49 =>
 rtInt .i64 u49 fun x50 =>
 getL e44 2 fun u51 =>
 rtInt .i64 u51 fun x52 =>
 getL e44 6 fun u53 =>
 rtPtr u53 fun b54 o55 =>
 getL e44 7 fun u56 =>
 rtPtr u56 fun b57 o58 =>
 getL e44 8 fun u59 =>
 rtPtr u59 fun b60 o61 =>
 ldK E s45 b47 (Nat.add o48 5) fun u62 =>
 ldK E s45 b57 (Nat.add o58 9) fun u63 =>
 slenK u63 fun n64 =>
 callK (D 101 [u62, (V.int .i64 (Int.ofNat n64))] s45) fun u65 s66 =>
 rtBool u65 fun x67 =>
 callK (D 100 [(V.ptr b47 o48), (V.bool (not x67))] s66) fun u68 s69 =>
 rtTup u68 fun l70 =>
 rtNil l70 (
 ldK E s69 b57 (Nat.add o58 11) fun u71 =>
 rtBool u71 fun x72 =>
 joinB (fun c73 s74 =>
 gdrawK (W G113_1 H113_1 [(0, (V.ptr b47 o48)), (1, (V.int .i64 x50)), (2, (V.int .i64 x52)), (6, (V.ptr b54 o55)), (7, (V.ptr b57 o58)), (8, (V.ptr b60 o61)), (9, (V.bool c73))] s74) fun e76 s77 =>
 getL e76 0 fun u78 =>
 rtPtr u78 fun b79 o80 =>
 getL e76 1 fun u81 =>
 rtInt .i64 u81 fun x82 =>
 getL e76 2 fun u83 =>
 rtInt .i64 u83 fun x84 =>
 getL e76 6 fun u85 =>
 rtPtr u85 fun b86 o87 =>
 getL e76 8 fun u88 =>
 rtPtr u88 fun b89 o90 =>
 getL e76 9 fun u91 =>
 rtBool u91 fun x92 =>
 joinB (fun c93 s94 =>
 condK c93 (
 callK (D 200 [(V.ptr b79 o80), (V.int .i64 x82), (V.ptr b89 o90), (V.int .i64 x84)] s94) fun u96 s97 =>
 rtTup u96 fun l98 =>
 rtNil l98 (
 K1 b86 o87 b89 o90 s97)) (
 K1 b86 o87 b89 o90 s94)) fun k95 =>
 condK x92 (
 callK (D 102 [(V.ptr b79 o80)] s77) fun u99 s100 =>
 rtBool u99 fun x101 =>
 k95 x101 s100) (
 k95 false s77)) fun k75 =>
 condK x72 (
 callK (D 184 [(V.ptr b47 o48)] s69) fun u102 s103 =>
 rtBool u102 fun x104 =>
 k75 x104 s103) (
 k75 false s69)))
def C113_1 : XC := (.seq (.ops (.op (some 64) (.agg [.i, .i, .any, .any, .i, .any]) [8] (.load (some 6) (.t 8))<|
.op none (.agg [.i, .i, .any, .any, .i, .any]) [6, 64] (.store 6 (.t 6) (.t 64))<|
.nil))
 .ret)
def T113_1 (E : List (Nat × Blk)) (D : Den) (W : DrawFn) (v6b v6o v8b v8o : Nat) (σ : H) : Ans :=
 ldnK E σ v8b v8o 6 fun l1 =>
 rtCons l1 fun x2 l3 =>
 rtInt .i64 x2 fun x4 =>
 rtCons l3 fun x5 l6 =>
 rtInt .i64 x5 fun x7 =>
 rtCons l6 fun x8 l9 =>
 rtCons l9 fun x10 l11 =>
 rtCons l11 fun x12 l13 =>
 rtInt .i64 x12 fun x14 =>
 rtCons l13 fun x15 l16 =>
 rtNil l16 (
 stK 6 v6b v6o (V.agg [(V.int .i64 x4), (V.int .i64 x7), x8, x10, (V.int .i64 x14), x15]) σ fun s17 =>
 ldnK E s17 v6b v6o 6 fun u18 =>
 some ((V.agg u18), s17))
def S113_0 (v0b v0o : Nat) (v1 v2 : Int) (σ : H) : St := ⟨[(0, (V.ptr v0b v0o)), (1, (V.int .i64 v1)), (2, (V.int .i64 v2))], [], [], σ⟩
def S113_1 (v6b v6o v8b v8o : Nat) (σ : H) : St := ⟨[(6, (V.ptr v6b v6o)), (8, (V.ptr v8b v8o))], [], [], σ⟩
theorem P113_0 (cc1 : XC) (v0b v0o : Nat) (v1 v2 : Int) (σ : H) :
 denC E D W N (C113_0 cc1) (S113_0 v0b v0o v1 v2 σ) (Fin113 E) (fun _ _ => none) (Fin113 E) =
 T113_0 E D W (fun v6b v6o v8b v8o σ => denC E D W N cc1 (S113_1 v6b v6o v8b v8o σ) (Fin113 E) (fun _ _ => none) (Fin113 E)) v0b v0o v1 v2 σ := by kernel_rfl
theorem P113_1 (v6b v6o v8b v8o : Nat) (σ : H) :
 denC E D W N (C113_1 ) (S113_1 v6b v6o v8b v8o σ) (Fin113 E) (fun _ _ => none) (Fin113 E) =
 T113_1 E D W  v6b v6o v8b v8o σ := by kernel_rfl
def J113_1 (E : List (Nat × Blk)) (D : Den) (W : DrawFn) (N : Nat) : Nat → Nat → Nat → Nat → H → Ans := T113_1 E D W
theorem JE113_1 (v6b v6o v8b v8o : Nat) (σ : H) :
 denC E D W N C113_1 (S113_1 v6b v6o v8b v8o σ) (Fin113 E) (fun _ _ => none) (Fin113 E) = J113_1 E D W N v6b v6o v8b v8o σ := by
 refine (P113_1 E D W N   v6b v6o v8b v8o σ).trans ?_
 kernel_rfl
def J113_0 : Nat → Nat → Int → Int → H → Ans := T113_0 E D W (J113_1 E D W N )
theorem JE113_0 (v0b v0o : Nat) (v1 v2 : Int) (σ : H) :
 denC E D W N (C113_0 C113_1) (S113_0 v0b v0o v1 v2 σ) (Fin113 E) (fun _ _ => none) (Fin113 E) = J113_0 E D W N v0b v0o v1 v2 σ := by
 refine (P113_0 E D W N C113_1  v0b v0o v1 v2 σ).trans ?_
 simp only [JE113_1]
 kernel_rfl
def F113 (args : List V) (σ : H) : Ans :=
 rtCons args fun x1 l2 =>
 rtPtr x1 fun b3 o4 =>
 rtCons l2 fun x5 l6 =>
 rtInt .i64 x5 fun x7 =>
 rtCons l6 fun x8 l9 =>
 rtInt .i64 x8 fun x10 =>
 rtNil l9 (
 J113_0 E D W N b3 o4 x7 x10 σ)
def A113 : XFn := ⟨65, [.ptr, .i, .i], [(.cell 6 (some 6))], (C113_0 C113_1)⟩
theorem FE113 (args : List V) (σ : H) : runX E D W N A113 args σ = F113 E D W N args σ := by
 unfold F113
 simp only [← JE113_0]
 kernel_rfl
theorem AO113 : A113.body.ok = true := by kernel_rfl
def Fin114 (E : List (Nat × Blk)) : St → Ans := fun s => resK E s [(.tmp 2)] fun l => some (oneV l, s.σ)
def C114_0 : XC := (.seq (.ops (.q 2 0<|
.nil))
 (.seq (.block 0 (.seq (.ops (.m 4 0<|
.b 5 .eql .ptr (.t 4) (.con V.nilp)<|
.m 3 5<|
.nil))
 (.cond (.tmp 3) (.seq (.ops (.q 2 2<|
.nil))
 .ret)
 (.seq (.ops (.m 7 0<|
.n 8 7<|
.f 9 1 8<|
.l 10 .i 9<|
.b 11 .neq .none (.t 10) (.i 0)<|
.m 6 11<|
.nil))
 (.cond (.tmp 6) (.seq (.ops (.m 12 0<|
.n 13 12<|
.f 14 1 13<|
.l 15 .i 14<|
.m 2 15<|
.nil))
 .ret)
 .skip)))))
 (.seq (.ops (.m 16 0<|
.n 17 16<|
.f 18 0 17<|
.l 19 .any 18<|
.k 20 .i 201 [(.t 19)]<|
.m 2 20<|
.nil))
 .ret)))
def T114_0 (E : List (Nat × Blk)) (D : Den) (W : DrawFn) (v0 : V) (σ : H) : Ans :=
 eqK .ptr v0 V.nilp fun c1 =>
 condK c1 (
 some ((V.int .i64 (Int.ofNat 2)), σ)) (
 rtPtr v0 fun b2 o3 =>
 ldK E σ b2 (Nat.add o3 1) fun u4 =>
 rtInt .i64 u4 fun x5 =>
 condK (not (eqF x5 (Int.ofNat 0))) (
 rtPtr v0 fun b6 o7 =>
 ldK E σ b6 (Nat.add o7 1) fun u8 =>
 rtInt .i64 u8 fun x9 =>
 some ((V.int .i64 x9), σ)) (
 rtPtr v0 fun b10 o11 =>
 ldK E σ b10 o11 fun u12 =>
 callK (D 201 [u12] σ) fun u13 s14 =>
 rtInt .i64 u13 fun x15 =>
 some ((V.int .i64 x15), s14)))
def S114_0 (v0 : V) (σ : H) : St := ⟨[(0, v0)], [], [], σ⟩
theorem P114_0 (v0 : V) (σ : H) :
 denC E D W N (C114_0 ) (S114_0 v0 σ) (Fin114 E) (fun _ _ => none) (Fin114 E) =
 T114_0 E D W  v0 σ := by kernel_rfl
def J114_0 (E : List (Nat × Blk)) (D : Den) (W : DrawFn) (N : Nat) : V → H → Ans := T114_0 E D W
theorem JE114_0 (v0 : V) (σ : H) :
 denC E D W N C114_0 (S114_0 v0 σ) (Fin114 E) (fun _ _ => none) (Fin114 E) = J114_0 E D W N v0 σ := by
 refine (P114_0 E D W N   v0 σ).trans ?_
 kernel_rfl
def F114 (args : List V) (σ : H) : Ans :=
 rtCons args fun x1 l2 =>
 rtNil l2 (
 J114_0 E D W N x1 σ)
def A114 : XFn := ⟨21, [.any], [(.tmp 2)], C114_0⟩
theorem FE114 (args : List V) (σ : H) : runX E D W N A114 args σ = F114 E D W N args σ := by
 unfold F114
 simp only [← JE114_0]
 kernel_rfl
theorem AO114 : A114.body.ok = true := by kernel_rfl
def Fin115 (E : List (Nat × Blk)) : St → Ans := fun s => resK E s [(.tmp 2)] fun l => some (oneV l, s.σ)
def C115_0 : XC := (.seq (.ops (.q 2 0<|
.nil))
 (.seq (.seq (.ops (.m 3 0<|
.b 4 .eql .ptr (.t 3) (.con V.nilp)<|
.nil))
 (.cond (.tmp 4) (.seq (.ops (.q 2 0<|
.nil))
 .ret)
 .skip))
 (.seq (.ops (.m 5 0<|
.n 6 5<|
.f 7 0 6<|
.l 8 .any 7<|
.k 9 .i 202 [(.t 8)]<|
.m 2 9<|
.nil))
 .ret)))
def T115_0 (E : List (Nat × Blk)) (D : Den) (W : DrawFn) (v0 : V) (σ : H) : Ans :=
 eqK .ptr v0 V.nilp fun c1 =>
 condK c1 (
 some ((V.int .i64 (Int.ofNat 0)), σ)) (
 rtPtr v0 fun b2 o3 =>
 ldK E σ b2 o3 fun u4 =>
 callK (D 202 [u4] σ) fun u5 s6 =>
 rtInt .i64 u5 fun x7 =>
 some ((V.int .i64 x7), s6))
def S115_0 (v0 : V) (σ : H) : St := ⟨[(0, v0)], [], [], σ⟩
theorem P115_0 (v0 : V) (σ : H) :
 denC E D W N (C115_0 ) (S115_0 v0 σ) (Fin115 E) (fun _ _ => none) (Fin115 E) =
 T115_0 E D W  v0 σ := by kernel_rfl
def J115_0 (E : List (Nat × Blk)) (D : Den) (W : DrawFn) (N : Nat) : V → H → Ans := T115_0 E D W
theorem JE115_0 (v0 : V) (σ : H) :
 denC E D W N C115_0 (S115_0 v0 σ) (Fin115 E) (fun _ _ => none) (Fin115 E) = J115_0 E D W N v0 σ := by
 refine (P115_0 E D W N   v0 σ).trans ?_
 kernel_rfl
def F115 (args : List V) (σ : H) : Ans :=
 rtCons args fun x1 l2 =>
 rtNil l2 (
 J115_0 E D W N x1 σ)
def A115 : XFn := ⟨10, [.any], [(.tmp 2)], C115_0⟩
theorem FE115 (args : List V) (σ : H) : runX E D W N A115 args σ = F115 E D W N args σ := by
 unfold F115
 simp only [← JE115_0]
 kernel_rfl
theorem AO115 : A115.body.ok = true := by kernel_rfl
def Fin116 (E : List (Nat × Blk)) : St → Ans := fun s => resK E s [(.tmp 2)] fun l => some (oneV l, s.σ)
def C116_0 : XC := (.seq (.ops (.q 2 0<|
.nil))
 (.seq (.seq (.ops (.m 6 0<|
.k 7 .i 201 [(.t 6)]<|
.m 3 7<|
.nil))
 (.seq (.ops (.m 8 3<|
.b 9 .neq .none (.t 8) (.i 0)<|
.nil))
 (.cond (.tmp 9) (.seq (.ops (.m 10 3<|
.m 2 10<|
.nil))
 .ret)
 .skip)))
 (.seq (.ops (.m 11 0<|
.n 12 11<|
.f 13 0 12<|
.op (some 14) (.agg [.any, .i]) [13] (.load (some 2) (.t 13))<|
.p 4 [] (.alloc 226 [V.nils, (V.int .i64 (Int.ofNat 0))])<|
.op none (.agg [.any, .i]) [4, 14] (.store 2 (.t 4) (.t 14))<|
.nil))
 (.seq (.seq (.ops (.k 15 .i 203 [(.t 4)]<|
.m 5 15<|
.nil))
 (.seq (.ops (.m 16 5<|
.b 17 .geq .none (.t 16) (.i 8)<|
.m 18 17<|
.grp 18 false (.p 19 [5, 18] (.mov (.t 5))<|
.op (some 20) (.int .u32) [4, 19, 18] (.call 204 [(.t 4), (.t 19)])<|
.p 21 [20, 18] (.bin .neq .none (.t 20) (.con (V.int .u32 (Int.ofNat 0))))<|
.nil) 22 [18, 21] (.t 18) (.con (V.bool true)) (.t 21)<|
.nil))
 (.cond (.tmp 22) (.seq (.ops (.q 2 4<|
.nil))
 .ret)
 .skip)))
 (.seq (.ops (.q 2 0<|
.nil))
 .ret)))))
def T116_0 (E : List (Nat × Blk)) (D : Den) (W : DrawFn) (v0b v0o : Nat) (σ : H) : Ans :=
 callK (D 201 [(V.ptr v0b v0o)] σ) fun u1 s2 =>
 rtInt .i64 u1 fun x3 =>
 condK (not (eqF x3 (Int.ofNat 0))) (
 some ((V.int .i64 x3), s2)) (
 ldnK E s2 v0b v0o 2 fun l4 =>
 rtCons l4 fun x5 l6 =>
 rtCons l6 fun x7 l8 =>
 rtInt .i64 x7 fun x9 =>
 rtNil l8 (
 let s10 := newB s2 (.cells [V.nils, (V.int .i64 (Int.ofNat 0))]);
 stK 2 (H.next s2) 0 (V.agg [x5, (V.int .i64 x9)]) s10 fun s11 =>
 callK (D 203 [(V.ptr (H.next s2) 0)] s11) fun u12 s13 =>
 rtInt .i64 u12 fun x14 =>
 joinB (fun c15 s16 =>
 condK c15 (
 some ((V.int .i64 (Int.ofNat 4)), s16)) (
 some ((V.int .i64 (Int.ofNat 0)), s16))) fun k17 =>
 condK (leF (Int.ofNat 8) x14) (
 k17 true s13) (
 callK (D 204 [(V.ptr (H.next s2) 0), (V.int .i64 x14)] s13) fun u18 s19 =>
 rtInt .u32 u18 fun x20 =>
 k17 (not (eqF x20 (Int.ofNat 0))) s19)))
def S116_0 (v0b v0o : Nat) (σ : H) : St := ⟨[(0, (V.ptr v0b v0o))], [], [], σ⟩
theorem P116_0 (v0b v0o : Nat) (σ : H) :
 denC E D W N (C116_0 ) (S116_0 v0b v0o σ) (Fin116 E) (fun _ _ => none) (Fin116 E) =
 T116_0 E D W  v0b v0o σ := by kernel_rfl
def J116_0 (E : List (Nat × Blk)) (D : Den) (W : DrawFn) (N : Nat) : Nat → Nat → H → Ans := T116_0 E D W
theorem JE116_0 (v0b v0o : Nat) (σ : H) :
 denC E D W N C116_0 (S116_0 v0b v0o σ) (Fin116 E) (fun _ _ => none) (Fin116 E) = J116_0 E D W N v0b v0o σ := by
 refine (P116_0 E D W N   v0b v0o σ).trans ?_
 kernel_rfl
def F116 (args : List V) (σ : H) : Ans :=
 rtCons args fun x1 l2 =>
 rtPtr x1 fun b3 o4 =>
 rtNil l2 (
 J116_0 E D W N b3 o4 σ)
def A116 : XFn := ⟨23, [.ptr], [(.tmp 2)], C116_0⟩
theorem FE116 (args : List V) (σ : H) : runX E D W N A116 args σ = F116 E D W N args σ := by
 unfold F116
 simp only [← JE116_0]
 kernel_rfl
theorem AO116 : A116.body.ok = true := by kernel_rfl
def C117_0 (cc1 : XC) (cc2 : XC) : XC := (.seq (.ops (.q 4 0<|
.nil))
 (.seq (.block 0 (.loop [(0, .str), (1, .i)] [] [] cc2))
 (.keep [(1, .i)] [] [] cc1)))
def C117_1 : XC := (.seq (.ops (.m 74 1<|
.m 4 74<|
.nil))
 .ret)
def C117_2 (cc3 : XC) : XC := (.seq (.seq (.ops (.m 5 1<|
.m 6 0<|
.p 7 [6] (.len true (.t 6))<|
.b 8 .lss .none (.t 5) (.t 7)<|
.nil))
 (.cond (.tmp 8) .skip
 (.exit 0)))
 (.block 1 (.block 2 (.seq (.ops (.m 11 0<|
.m 12 1<|
.p 13 [11, 12] (.idxStr (.t 11) (.t 12))<|
.b 14 .eql .none (.t 13) (.con (V.int .u8 (Int.ofNat 32)))<|
.m 15 14<|
.grp 15 false (.p 16 [0, 15] (.mov (.t 0))<|
.p 17 [1, 15] (.mov (.t 1))<|
.p 18 [16, 17, 15] (.idxStr (.t 16) (.t 17))<|
.p 19 [18, 15] (.bin .eql .none (.t 18) (.con (V.int .u8 (Int.ofNat 9))))<|
.nil) 20 [15, 19] (.t 15) (.con (V.bool true)) (.t 19)<|
.m 21 20<|
.grp 21 false (.p 22 [0, 21] (.mov (.t 0))<|
.p 23 [1, 21] (.mov (.t 1))<|
.p 24 [22, 23, 21] (.idxStr (.t 22) (.t 23))<|
.p 25 [24, 21] (.bin .eql .none (.t 24) (.con (V.int .u8 (Int.ofNat 10))))<|
.nil) 26 [21, 25] (.t 21) (.con (V.bool true)) (.t 25)<|
.m 27 26<|
.grp 27 false (.p 28 [0, 27] (.mov (.t 0))<|
.p 29 [1, 27] (.mov (.t 1))<|
.p 30 [28, 29, 27] (.idxStr (.t 28) (.t 29))<|
.p 31 [30, 27] (.bin .eql .none (.t 30) (.con (V.int .u8 (Int.ofNat 13))))<|
.nil) 32 [27, 31] (.t 27) (.con (V.bool true)) (.t 31)<|
.m 10 32<|
.nil))
 (.cond (.tmp 10) (.ops (.m 33 1<|
.b 34 .add .none (.t 33) (.i 1)<|
.m 1 34<|
.nil))
 (.seq (.ops (.m 36 0<|
.m 37 1<|
.p 38 [36, 37] (.idxStr (.t 36) (.t 37))<|
.b 39 .eql .none (.t 38) (.con (V.int .u8 (Int.ofNat 45)))<|
.m 40 39<|
.grp 40 true (.p 41 [0, 40] (.mov (.t 0))<|
.p 42 [1, 40] (.mov (.t 1))<|
.p 43 [42, 40] (.bin .add .none (.t 42) (.i 1))<|
.op (some 44) (.int .u8) [41, 43, 40] (.call 205 [(.t 41), (.t 43)])<|
.p 45 [44, 40] (.bin .eql .none (.t 44) (.con (V.int .u8 (Int.ofNat 45))))<|
.nil) 46 [40, 45] (.t 40) (.t 45) (.con (V.bool false))<|
.m 35 46<|
.nil))
 (.cond (.tmp 35) (.seq (.ops (.m 47 1<|
.b 48 .add .none (.t 47) (.i 2)<|
.m 1 48<|
.nil))
 (.block 3 (.loop [(0, .str), (1, .i)] [] [] cc3)))
 (.seq (.ops (.m 9 1<|
.m 4 9<|
.nil))
 .ret))))))))
def C117_3 : XC := (.seq (.seq (.ops (.m 49 1<|
.m 50 0<|
.p 51 [50] (.len true (.t 50))<|
.b 52 .lss .none (.t 49) (.t 51)<|
.m 53 52<|
.grp 53 true (.p 54 [0, 53] (.mov (.t 0))<|
.p 55 [1, 53] (.mov (.t 1))<|
.p 56 [54, 55, 53] (.idxStr (.t 54) (.t 55))<|
.p 57 [56, 53] (.bin .neq .none (.t 56) (.con (V.int .u8 (Int.ofNat 10))))<|
.nil) 58 [53, 57] (.t 53) (.t 57) (.con (V.bool false))<|
.nil))
 (.cond (.tmp 58) .skip
 (.exit 3)))
 (.block 4 (.seq (.seq (.ops (.m 59 0<|
.m 60 1<|
.p 61 [59, 60] (.idxStr (.t 59) (.t 60))<|
.b 62 .eql .none (.t 61) (.con (V.int .u8 (Int.ofNat 45)))<|
.m 63 62<|
.grp 63 true (.p 64 [0, 63] (.mov (.t 0))<|
.p 65 [1, 63] (.mov (.t 1))<|
.p 66 [65, 63] (.bin .add .none (.t 65) (.i 1))<|
.op (some 67) (.int .u8) [64, 66, 63] (.call 205 [(.t 64), (.t 66)])<|
.p 68 [67, 63] (.bin .eql .none (.t 67) (.con (V.int .u8 (Int.ofNat 45))))<|
.nil) 69 [63, 68] (.t 63) (.t 68) (.con (V.bool false))<|
.nil))
 (.cond (.tmp 69) (.seq (.ops (.m 70 1<|
.b 71 .add .none (.t 70) (.i 2)<|
.m 1 71<|
.nil))
 (.exit 3))
 .skip))
 (.ops (.m 72 1<|
.b 73 .add .none (.t 72) (.i 1)<|
.m 1 73<|
.nil)))))
def A117 : XFn := ⟨75, [.str, .i], [(.tmp 4)], (C117_0 C117_1 (C117_2 C117_3))⟩
def C118_0 (cc1 : XC) (cc2 : XC) : XC := (.seq (.ops (.pal 4 [] 121 [(V.int .i64 (Int.ofNat 0)), (V.str ⟨0, 0⟩), (V.int .i64 (Int.ofNat 0))]<|
.q 5 0<|
.nil))
 (.seq (.ops (.m 10 1<|
.op (some 11) (.agg [.i, .str, .i]) [10] (.build [(V.int .i64 (Int.ofNat 0)), (V.str ⟨0, 0⟩), (V.int .i64 (Int.ofNat 0))] [(2, 1, (.t 10))])<|
.pal 6 [] 121 [(V.int .i64 (Int.ofNat 0)), (V.str ⟨0, 0⟩), (V.int .i64 (Int.ofNat 0))]<|
.op none (.agg [.i, .str, .i]) [6, 11] (.store 3 (.t 6) (.t 11))<|
.nil))
 (.seq (.ops (.m 12 0<|
.m 13 1<|
.p 14 [12, 13] (.idxStr (.t 12) (.t 13))<|
.m 7 14<|
.nil))
 (.seq (.ops (.c 8 (V.int .i64 (Int.negSucc 0))<|
.nil))
 (.seq (.block 0 (.seq (.ops (.m 32 7<|
.k 33 .bool 206 [(.t 32)]<|
.m 31 33<|
.nil))
 (.cond (.tmp 31) (.seq (.ops (.m 34 0<|
.m 35 1<|
.k 36 .i 207 [(.t 34), (.t 35)]<|
.m 8 36<|
.nil))
 (.seq (.seq (.ops (.m 37 8<|
.b 38 .lss .none (.t 37) (.i 0)<|
.nil))
 (.cond (.tmp 38) (.seq (.ops (.op (some 39) (.agg [.i, .str, .i]) [6] (.load (some 3) (.t 6))<|
.op none (.agg [.i, .str, .i]) [4, 39] (.store 3 (.t 4) (.t 39))<|
.c 5 (V.int .i64 (Int.negSucc 0))<|
.nil))
 .ret)
 .skip))
 (.seq (.draw (.m 40 0<|
.m 41 1<|
.m 42 8<|
.p 43 [40, 41, 42] (.sliceStr (.t 40) (some (.t 41)) (some (.t 42)))<|
.f 44 0 6<|
.op none .any [44] (.store 1 (.t 44) (.i 2))<|
.f 45 1 6<|
.w 1 45 43<|
.nil) [0, 0, 0, 7, 0, 16, 63, 127])
 (.seq (.seq (.ops (.m 46 7<|
.b 47 .leq .none (.t 46) (.con (V.int .u8 (Int.ofNat 90)))<|
.nil))
 (.cond (.tmp 47) (.ops (.f 48 0 6<|
.op none .any [48] (.store 1 (.t 48) (.i 1))<|
.nil))
 .skip))
 (.keep [(8, .i)] [4, 6] [(4, [.i, .str, .i]), (6, [.i, .str, .i])] cc2)))))
 (.seq (.ops (.m 54 7<|
.k 55 .bool 209 [(.t 54)]<|
.m 56 55<|
.grp 56 false (.p 57 [7, 56] (.mov (.t 7))<|
.p 58 [57, 56] (.bin .eql .none (.t 57) (.con (V.int .u8 (Int.ofNat 45))))<|
.p 59 [58, 56] (.mov (.t 58))<|
.grp 59 true (.p 60 [0, 59] (.mov (.t 0))<|
.p 61 [1, 59] (.mov (.t 1))<|
.p 62 [61, 59] (.bin .add .none (.t 61) (.i 1))<|
.op (some 63) (.int .u8) [60, 62, 59] (.call 205 [(.t 60), (.t 62)])<|
.op (some 64) .bool [63, 59] (.call 209 [(.t 63)])<|
.nil) 65 [59, 64, 56] (.t 59) (.t 64) (.con (V.bool false))<|
.nil) 66 [56, 65] (.t 56) (.con (V.bool true)) (.t 65)<|
.m 53 66<|
.nil))
 (.cond (.tmp 53) (.seq (.ops (.m 67 0<|
.m 68 1<|
.k 69 .i 210 [(.t 67), (.t 68)]<|
.m 8 69<|
.nil))
 (.seq (.seq (.ops (.m 70 8<|
.b 71 .lss .none (.t 70) (.i 0)<|
.nil))
 (.cond (.tmp 71) (.seq (.ops (.op (some 72) (.agg [.i, .str, .i]) [6] (.load (some 3) (.t 6))<|
.op none (.agg [.i, .str, .i]) [4, 72] (.store 3 (.t 4) (.t 72))<|
.c 5 (V.int .i64 (Int.negSucc 0))<|
.nil))
 .ret)
 .skip))
 (.draw (.m 73 0<|
.m 74 1<|
.m 75 8<|
.p 76 [73, 74, 75] (.sliceStr (.t 73) (some (.t 74)) (some (.t 75)))<|
.f 77 0 6<|
.op none .any [77] (.store 1 (.t 77) (.i 3))<|
.f 78 1 6<|
.w 1 78 76<|
.nil) [0, 0, 0, 7, 0, 16, 63, 127])))
 (.seq (.ops (.m 80 7<|
.b 81 .eql .none (.t 80) (.con (V.int .u8 (Int.ofNat 39)))<|
.m 79 81<|
.nil))
 (.cond (.tmp 79) (.seq (.ops (.f 82 0 6<|
.op none .any [82] (.store 1 (.t 82) (.i 4))<|
.nil))
 (.ops (.m 84 0<|
.m 85 1<|
.k 86 (.tup [.i, .str]) 211 [(.t 84), (.t 85)]<|
.m 83 86<|
.p 87 [83] (.extract 0 (.t 83))<|
.p 88 [83] (.extract 1 (.t 83))<|
.m 8 87<|
.f 89 1 6<|
.w 1 89 88<|
.nil)))
 (.seq (.ops (.m 91 7<|
.b 92 .eql .none (.t 91) (.con (V.int .u8 (Int.ofNat 34)))<|
.m 90 92<|
.nil))
 (.cond (.tmp 90) (.seq (.ops (.f 93 0 6<|
.op none .any [93] (.store 1 (.t 93) (.i 7))<|
.nil))
 (.ops (.m 95 0<|
.m 96 1<|
.k 97 (.tup [.i, .str]) 212 [(.t 95), (.t 96)]<|
.m 94 97<|
.p 98 [94] (.extract 0 (.t 94))<|
.p 99 [94] (.extract 1 (.t 94))<|
.m 8 98<|
.f 100 1 6<|
.w 1 100 99<|
.nil)))
 (.seq (.ops (.m 15 0<|
.m 16 1<|
.k 17 .i 213 [(.t 15), (.t 16)]<|
.m 9 17<|
.nil))
 (.seq (.ops (.m 18 9<|
.b 19 .gtr .none (.t 18) (.i 0)<|
.nil))
 (.cond (.tmp 19) (.draw (.m 20 0<|
.m 21 1<|
.m 22 1<|
.m 23 9<|
.b 24 .add .none (.t 22) (.t 23)<|
.p 25 [20, 21, 24] (.sliceStr (.t 20) (some (.t 21)) (some (.t 24)))<|
.m 26 1<|
.m 27 9<|
.b 28 .add .none (.t 26) (.t 27)<|
.f 29 0 6<|
.op none .any [29] (.store 1 (.t 29) (.i 6))<|
.f 30 1 6<|
.w 1 30 25<|
.m 8 28<|
.nil) [0, 0, 0, 0, 12, 31, 0, 0, 192, 0, 512, 1599, 3647, 8191])
 .skip))))))))))))
 (.keep [(8, .i)] [4, 6] [(4, [.i, .str, .i]), (6, [.i, .str, .i])] cc1))))))
def C118_1 : XC := (.seq (.ops (.op (some 101) (.agg [.i, .str, .i]) [6] (.load (some 3) (.t 6))<|
.m 102 8<|
.op none (.agg [.i, .str, .i]) [4, 101] (.store 3 (.t 4) (.t 101))<|
.m 5 102<|
.nil))
 .ret)
def C118_2 : XC := (.seq (.ops (.f 49 1 6<|
.l 50 .str 49<|
.k 51 .bool 208 [(.t 50)]<|
.nil))
 (.cond (.tmp 51) (.ops (.f 52 0 6<|
.op none .any [52] (.store 1 (.t 52) (.i 5))<|
.nil))
 .skip))
def A118 : XFn := ⟨103, [.str, .i], [(.cell 4 (some 3)), (.tmp 5)], (C118_0 C118_1 C118_2)⟩
def C119_0 (cc1 : XC) : XC := (.seq (.ops (.pal 2 [] 121 [(V.int .i64 (Int.ofNat 0)), (V.str ⟨0, 0⟩), (V.int .i64 (Int.ofNat 0))]<|
.nil))
 (.seq (.draw (.m 4 0<|
.n 5 4<|
.f 6 0 5<|
.l 7 .any 6<|
.m 8 0<|
.n 9 8<|
.f 10 1 9<|
.l 11 .i 10<|
.s 12 3 7 11<|
.op (some 13) (.agg [.i, .str, .i]) [12] (.load (some 3) (.t 12))<|
.pal 3 [] 121 [(V.int .i64 (Int.ofNat 0)), (V.str ⟨0, 0⟩), (V.int .i64 (Int.ofNat 0))]<|
.op none (.agg [.i, .str, .i]) [3, 13] (.store 3 (.t 3) (.t 13))<|
.nil) [0, 1, 3, 7, 0, 16, 48, 112, 255, 511, 0, 2047])
 (.seq (.seq (.draw (.m 14 0<|
.n 15 14<|
.f 16 1 15<|
.l 17 .i 16<|
.b 18 .add .none (.t 17) (.i 1)<|
.m 19 0<|
.n 20 19<|
.f 21 0 20<|
.l 22 .any 21<|
.u 23 22<|
.b 24 .lss .none (.t 18) (.t 23)<|
.nil) [0, 1, 3, 7, 15, 0, 32, 96, 224, 480, 1023])
 (.cond (.tmp 24) (.ops (.m 25 0<|
.n 26 25<|
.f 27 1 26<|
.l 28 .i 27<|
.b 29 .add .none (.t 28) (.i 1)<|
.n 30 25<|
.f 31 1 30<|
.w 1 31 29<|
.nil))
 .skip))
 (.keep [] [2, 3] [(2, [.i, .str, .i]), (3, [.i, .str, .i])] cc1))))
def C119_1 : XC := (.seq (.ops (.op (some 32) (.agg [.i, .str, .i]) [3] (.load (some 3) (.t 3))<|
.op none (.agg [.i, .str, .i]) [2, 32] (.store 3 (.t 2) (.t 32))<|
.nil))
 .ret)
def A119 : XFn := ⟨33, [.ptr], [(.cell 2 (some 3))], (C119_0 C119_1)⟩
def C120_0 (cc1 : XC) (cc2 : XC) : XC := (.seq (.ops (.p 1 [0] (.box 121 (.t 0))<|
.c 2 (V.bool false)<|
.nil))
 (.seq (.ops (.p 5 [] (.buildSlice 9 10 [(V.str ⟨0, 0⟩), (V.str ⟨0, 0⟩), (V.str ⟨0, 0⟩), (V.str ⟨0, 0⟩), (V.str ⟨0, 0⟩), (V.str ⟨0, 0⟩), (V.str ⟨0, 0⟩), (V.str ⟨0, 0⟩), (V.str ⟨0, 0⟩), (V.str ⟨0, 0⟩)] [(0, 1, (.con (V.str ⟨1, 91⟩))), (1, 1, (.con (V.str ⟨7, 22026814072246082⟩))), (2, 1, (.con (V.str ⟨4, 1280070990⟩))), (3, 1, (.con (V.str ⟨10, 488440487847103610377301⟩))), (4, 1, (.con (V.str ⟨7, 23157120498421321⟩))), (5, 1, (.con (V.str ⟨5, 361940403023⟩))), (6, 1, (.con (V.str ⟨10, 322399817400452109389381⟩))), (7, 1, (.con (V.str ⟨3, 5522771⟩))), (8, 1, (.con (V.str ⟨6, 76155295057987⟩))), (9, 1, (.con (V.str ⟨8, 4990918871747741011⟩)))])<|
.m 3 5<|
.nil))
 (.seq (.seq (.ops (.q 4 0<|
.nil))
 (.block 0 (.loop [(1, .ptr), (3, .any), (4, .i)] [] [] cc2)))
 (.keep [(1, .ptr)] [] [] cc1))))
def C120_1 : XC := (.seq (.ops (.f 29 0 1<|
.l 30 .i 29<|
.b 31 .eql .none (.t 30) (.i 1)<|
.m 2 31<|
.nil))
 .ret)
def C120_2 : XC := (.seq (.seq (.ops (.m 6 4<|
.m 7 3<|
.u 8 7<|
.b 9 .lss .none (.t 6) (.t 8)<|
.nil))
 (.cond (.tmp 9) .skip
 (.exit 0)))
 (.seq (.block 1 (.seq (.draw (.m 12 3<|
.m 13 4<|
.s 14 1 12 13<|
.l 15 .str 14<|
.f 16 1 1<|
.l 17 .str 16<|
.b 18 .eql .none (.t 15) (.t 17)<|
.m 19 18<|
.grp 19 true (.p 20 [1, 19] (.faddr 0 (.t 1))<|
.op (some 21) .i [20, 19] (.load none (.t 20))<|
.p 22 [21, 19] (.bin .eql .none (.t 21) (.i 5))<|
.p 23 [22, 19] (.mov (.t 22))<|
.grp 23 false (.p 24 [1, 23] (.faddr 0 (.t 1))<|
.op (some 25) .i [24, 23] (.load none (.t 24))<|
.p 26 [25, 23] (.bin .eql .none (.t 25) (.i 6))<|
.nil) 27 [23, 26, 19] (.t 23) (.con (V.bool true)) (.t 26)<|
.nil) 28 [19, 27] (.t 19) (.t 27) (.con (V.bool false))<|
.nil) [0, 0, 3, 7, 0, 16, 63, 127, 255, 511, 1023, 2047, 4095, 8191, 16383, 32767, 65535])
 (.cond (.tmp 28) (.seq (.ops (.c 2 (V.bool true)<|
.nil))
 .ret)
 .skip)))
 (.ops (.m 10 4<|
.b 11 .add .none (.t 10) (.i 1)<|
.m 4 11<|
.nil))))
def A120 : XFn := ⟨32, [(.agg [.i, .str, .i])], [(.tmp 2)], (C120_0 C120_1 C120_2)⟩
def C121_0 : XC := (.seq (.ops (.q 2 0<|
.nil))
 (.seq (.ops (.m 4 0<|
.k 5 .str 57 [(.t 4), (.i 3)]<|
.m 3 5<|
.nil))
 (.seq (.seq (.ops (.m 6 3<|
.b 7 .eql .none (.t 6) (.con (V.str ⟨0, 0⟩))<|
.nil))
 (.cond (.tmp 7) (.seq (.ops (.q 2 0<|
.nil))
 .ret)
 .skip))
 (.seq (.ops (.m 8 3<|
.k 9 .i 214 [(.t 8)]<|
.m 2 9<|
.nil))
 .ret))))
def A121 : XFn := ⟨10, [.any], [(.tmp 2)], C121_0⟩
def G122_0 : List AOper := [⟨(some 139), .mov (.tmp 1), none⟩, ⟨(some 140), .mov (.tmp 1), none⟩, ⟨(some 141), .faddr 1 (.tmp 6), none⟩, ⟨(some 142), .load none (.tmp 141), none⟩, ⟨(some 143), .nilck (.tmp 139), none⟩, ⟨(some 144), .faddr 0 (.tmp 143), none⟩, ⟨none, .store 1 (.tmp 144) (.con (V.int .i64 (Int.ofNat 11))), none⟩, ⟨(some 145), .nilck (.tmp 140), none⟩, ⟨(some 146), .faddr 1 (.tmp 145), none⟩, ⟨none, .store 1 (.tmp 146) (.tmp 142), none⟩]
def H122_0 : List DP := [⟨0, [1]⟩, ⟨0, [1]⟩, ⟨0, [6]⟩, ⟨4, [141]⟩, ⟨1, [139]⟩, ⟨17, [143]⟩, ⟨49, [144]⟩, ⟨127, [140]⟩, ⟨255, [145]⟩, ⟨511, [146, 142]⟩]
def C122_0 : XC := (.seq (.ops (.m 7 0<|
.k 8 (.agg [.i, .str, .i]) 60 [(.t 7)]<|
.p 6 [] (.alloc 121 [(V.int .i64 (Int.ofNat 0)), (V.str ⟨0, 0⟩), (V.int .i64 (Int.ofNat 0))])<|
.op none (.agg [.i, .str, .i]) [6, 8] (.store 3 (.t 6) (.t 8))<|
.nil))
 (.block 0 (.seq (.ops (.m 13 0<|
.n 14 13<|
.f 15 7 14<|
.l 16 .i 15<|
.b 17 .neq .none (.t 16) (.i 0)<|
.m 12 17<|
.nil))
 (.cond (.tmp 12) .skip
 (.seq (.ops (.m 19 0<|
.k 20 .bool 59 [(.t 19), (.con (V.str ⟨7, 22026814072246082⟩))]<|
.m 18 20<|
.nil))
 (.cond (.tmp 18) (.ops (.m 21 1<|
.n 22 21<|
.f 23 0 22<|
.op none .any [23] (.store 1 (.t 23) (.i 1))<|
.nil))
 (.seq (.ops (.m 25 0<|
.k 26 .bool 59 [(.t 25), (.con (V.str ⟨4, 1280070990⟩))]<|
.m 24 26<|
.nil))
 (.cond (.tmp 24) (.ops (.m 27 1<|
.n 28 27<|
.f 29 0 28<|
.op none .any [29] (.store 1 (.t 29) (.i 4))<|
.nil))
 (.seq (.ops (.m 31 0<|
.k 32 .bool 59 [(.t 31), (.con (V.str ⟨10, 488440487847103610377301⟩))]<|
.m 30 32<|
.nil))
 (.cond (.tmp 30) (.seq (.ops (.m 33 1<|
.n 34 33<|
.f 35 0 34<|
.op none .any [35] (.store 1 (.t 35) (.i 6))<|
.nil))
 (.ops (.m 36 1<|
.m 37 0<|
.k 38 (.agg [.bool, .bool, .bool, .bool, .i, .i]) 215 [(.t 37)]<|
.n 39 36<|
.f 40 5 39<|
.op none (.agg [.bool, .bool, .bool, .bool, .i, .i]) [40, 38] (.store 6 (.t 40) (.t 38))<|
.nil)))
 (.seq (.ops (.m 42 0<|
.k 43 .bool 59 [(.t 42), (.con (V.str ⟨7, 23157120498421321⟩))]<|
.m 41 43<|
.nil))
 (.cond (.tmp 41) (.seq (.ops (.m 44 1<|
.n 45 44<|
.f 46 0 45<|
.op none .any [46] (.store 1 (.t 46) (.i 2))<|
.nil))
 (.seq (.ops (.m 47 0<|
.k 48 .bool 59 [(.t 47), (.con (V.str ⟨1, 40⟩))]<|
.nil))
 (.cond (.tmp 48) (.seq (.ops (.m 49 1<|
.m 50 0<|
.k 51 (.agg [.bool, .bool, .bool, .bool, .i, .i]) 216 [(.t 50)]<|
.n 52 49<|
.f 53 5 52<|
.op none (.agg [.bool, .bool, .bool, .bool, .i, .i]) [53, 51] (.store 6 (.t 53) (.t 51))<|
.nil))
 (.ops (.m 54 0<|
.k 55 (.tup []) 58 [(.t 54), (.con (V.str ⟨1, 41⟩))]<|
.nil)))
 .skip)))
 (.seq (.ops (.m 57 0<|
.k 58 .bool 59 [(.t 57), (.con (V.str ⟨5, 361940403023⟩))]<|
.m 56 58<|
.nil))
 (.cond (.tmp 56) (.seq (.ops (.m 59 0<|
.k 60 (.tup []) 58 [(.t 59), (.con (V.str ⟨6, 78401563153491⟩))]<|
.nil))
 (.seq (.ops (.m 61 1<|
.n 62 61<|
.f 63 0 62<|
.op none .any [63] (.store 1 (.t 63) (.i 5))<|
.nil))
 (.ops (.m 64 1<|
.m 65 0<|
.k 66 (.agg [.bool, .bool, .bool, .bool, .i, .i]) 215 [(.t 65)]<|
.n 67 64<|
.f 68 5 67<|
.op none (.agg [.bool, .bool, .bool, .bool, .i, .i]) [68, 66] (.store 6 (.t 68) (.t 66))<|
.nil))))
 (.seq (.ops (.m 70 0<|
.k 71 .bool 59 [(.t 70), (.con (V.str ⟨10, 322399817400452109389381⟩))]<|
.m 69 71<|
.nil))
 (.cond (.tmp 69) (.seq (.ops (.m 72 1<|
.n 73 72<|
.f 74 0 73<|
.op none .any [74] (.store 1 (.t 74) (.i 3))<|
.nil))
 (.seq (.ops (.m 75 0<|
.k 76 (.tup []) 58 [(.t 75), (.con (V.str ⟨1, 123⟩))]<|
.nil))
 (.seq (.ops (.m 77 0<|
.m 78 1<|
.k 79 (.tup []) 217 [(.t 77), (.t 78)]<|
.nil))
 (.ops (.m 80 0<|
.k 81 (.tup []) 58 [(.t 80), (.con (V.str ⟨1, 125⟩))]<|
.nil)))))
 (.seq (.ops (.m 83 0<|
.k 84 .bool 59 [(.t 83), (.con (V.str ⟨3, 5522771⟩))]<|
.m 82 84<|
.nil))
 (.cond (.tmp 82) (.seq (.ops (.m 85 1<|
.n 86 85<|
.f 87 0 86<|
.op none .any [87] (.store 1 (.t 87) (.i 8))<|
.nil))
 (.seq (.ops (.m 88 0<|
.k 89 (.tup []) 58 [(.t 88), (.con (V.str ⟨1, 123⟩))]<|
.nil))
 (.ops (.m 90 0<|
.m 91 1<|
.m 92 2<|
.k 93 (.tup []) 218 [(.t 90), (.t 91), (.t 92)]<|
.nil))))
 (.seq (.ops (.m 95 0<|
.k 96 .bool 59 [(.t 95), (.con (V.str ⟨6, 76155295057987⟩))]<|
.m 94 96<|
.nil))
 (.cond (.tmp 94) (.seq (.ops (.m 97 1<|
.n 98 97<|
.f 99 0 98<|
.op none .any [99] (.store 1 (.t 99) (.i 9))<|
.nil))
 (.seq (.ops (.m 100 0<|
.k 101 (.tup []) 58 [(.t 100), (.con (V.str ⟨1, 123⟩))]<|
.nil))
 (.ops (.m 102 0<|
.m 103 1<|
.m 104 2<|
.k 105 (.tup []) 218 [(.t 102), (.t 103), (.t 104)]<|
.nil))))
 (.seq (.ops (.m 107 0<|
.k 108 .bool 59 [(.t 107), (.con (V.str ⟨8, 4990918871747741011⟩))]<|
.m 106 108<|
.nil))
 (.cond (.tmp 106) (.seq (.seq (.ops (.m 109 0<|
.k 110 .bool 59 [(.t 109), (.con (V.str ⟨1, 123⟩))]<|
.nil))
 (.cond (.tmp 110) (.seq (.ops (.m 111 1<|
.n 112 111<|
.f 113 0 112<|
.op none .any [113] (.store 1 (.t 113) (.i 7))<|
.nil))
 (.seq (.ops (.m 114 0<|
.m 115 1<|
.m 116 2<|
.k 117 (.tup []) 218 [(.t 114), (.t 115), (.t 116)]<|
.nil))
 .ret))
 .skip))
 (.seq (.ops (.m 118 1<|
.n 119 118<|
.f 120 0 119<|
.op none .any [120] (.store 1 (.t 120) (.i 10))<|
.nil))
 (.seq (.ops (.m 121 1<|
.m 122 0<|
.k 123 (.agg [.bool, .bool, .bool, .bool, .i, .i]) 215 [(.t 122)]<|
.n 124 121<|
.f 125 5 124<|
.op none (.agg [.bool, .bool, .bool, .bool, .i, .i]) [125, 123] (.store 6 (.t 125) (.t 123))<|
.nil))
 (.seq (.ops (.m 126 0<|
.k 127 (.tup []) 58 [(.t 126), (.con (V.str ⟨2, 17999⟩))]<|
.nil))
 (.ops (.m 128 1<|
.m 129 0<|
.m 130 2<|
.b 131 .add .none (.t 130) (.i 1)<|
.k 132 .i 62 [(.t 129), (.t 131)]<|
.n 133 128<|
.f 134 15 133<|
.w 1 134 132<|
.nil))))))
 (.seq (.ops (.f 136 0 6<|
.l 137 .i 136<|
.b 138 .eql .none (.t 137) (.i 1)<|
.m 135 138<|
.nil))
 (.cond (.tmp 135) (.seq (.keep [(0, .ptr), (1, .ptr), (6, .ptr)] [] [] (.gdraw G122_0 H122_0 [(0, .ptr)]))
 (.ops (.m 147 0<|
.k 148 (.agg [.i, .str, .i]) 119 [(.t 147)]<|
.nil)))
 (.ops (.m 9 0<|
.op (some 10) (.agg [.i, .str, .i]) [6] (.load (some 3) (.t 6))<|
.k 11 (.tup []) 61 [(.t 9), (.i 7), (.t 10)]<|
.nil))))))))))))))))))))))))))
def A122 : XFn := ⟨149, [.ptr, .ptr, .i], [], C122_0⟩
def C123_0 (cc1 : XC) (cc2 : XC) : XC := (.seq (.ops (.c 4 (V.bool false)<|
.nil))
 (.seq (.seq (.ops (.q 5 0<|
.nil))
 (.block 0 (.loop [(0, .any), (1, .str), (5, .i)] [] [] cc2)))
 (.keep [] [] [] cc1)))
def C123_1 : XC := (.seq (.ops (.c 4 (V.bool false)<|
.nil))
 .ret)
def C123_2 : XC := (.seq (.seq (.ops (.m 6 5<|
.m 7 0<|
.u 8 7<|
.b 9 .lss .none (.t 6) (.t 8)<|
.nil))
 (.cond (.tmp 9) .skip
 (.exit 0)))
 (.seq (.block 1 (.seq (.ops (.m 12 0<|
.m 13 5<|
.s 14 1 12 13<|
.l 15 .str 14<|
.m 16 1<|
.b 17 .eql .none (.t 15) (.t 16)<|
.nil))
 (.cond (.tmp 17) (.seq (.ops (.c 4 (V.bool true)<|
.nil))
 .ret)
 .skip)))
 (.ops (.m 10 5<|
.b 11 .add .none (.t 10) (.i 1)<|
.m 5 11<|
.nil))))
def A123 : XFn := ⟨18, [.any, .str], [(.tmp 4)], (C123_0 C123_1 C123_2)⟩
def C124_0 (cc1 : XC) (cc2 : XC) : XC := (.seq (.ops (.p 4 [0] (.box 76 (.t 0))<|
.c 8 V.nils<|
.c 9 (V.bool false)<|
.nil))
 (.seq (.seq (.ops (.m 16 1<|
.b 17 .lss .none (.t 16) (.i 0)<|
.m 18 17<|
.grp 18 false (.p 19 [1, 18] (.mov (.t 1))<|
.p 20 [4, 18] (.faddr 4 (.t 4))<|
.p 21 [20, 18] (.load none (.t 20))<|
.p 22 [21, 18] (.len false (.t 21))<|
.p 23 [19, 22, 18] (.bin .geq .none (.t 19) (.t 22))<|
.nil) 24 [18, 23] (.t 18) (.con (V.bool true)) (.t 23)<|
.m 25 24<|
.grp 25 false (.p 26 [2, 25] (.mov (.t 2))<|
.p 27 [26, 25] (.bin .gtr .none (.t 26) (.i 16))<|
.nil) 28 [25, 27] (.t 25) (.con (V.bool true)) (.t 27)<|
.nil))
 (.cond (.tmp 28) (.seq (.ops (.m 29 3<|
.m 8 29<|
.c 9 (V.bool false)<|
.nil))
 .ret)
 .skip))
 (.seq (.ops (.f 30 4 4<|
.l 31 .any 30<|
.m 32 1<|
.s 33 16 31 32<|
.op (some 34) (.agg [.i, .str, .bool, .i, .i, .bool, .bool, .bool, .bool, .i, .i, .any, .any, .i, .bool, .i]) [33] (.load (some 16) (.t 33))<|
.pal 10 [] 183 [(V.int .i64 (Int.ofNat 0)), (V.str ⟨0, 0⟩), (V.bool false), (V.int .i64 (Int.ofNat 0)), (V.int .i64 (Int.ofNat 0)), (V.bool false), (V.bool false), (V.bool false), (V.bool false), (V.int .i64 (Int.ofNat 0)), (V.int .i64 (Int.ofNat 0)), V.nils, V.nils, (V.int .i64 (Int.ofNat 0)), (V.bool false), (V.int .i64 (Int.ofNat 0))]<|
.op none (.agg [.i, .str, .bool, .i, .i, .bool, .bool, .bool, .bool, .i, .i, .any, .any, .i, .bool, .i]) [10, 34] (.store 16 (.t 10) (.t 34))<|
.nil))
 (.seq (.seq (.ops (.f 35 0 10<|
.l 36 .i 35<|
.b 37 .eql .none (.t 36) (.i 11)<|
.nil))
 (.cond (.tmp 37) (.seq (.ops (.op (some 38) (.agg [.str, .i, .any, .any, .any]) [4] (.load (some 5) (.t 4))<|
.f 39 1 10<|
.l 40 .str 39<|
.k 41 .i 126 [(.t 38), (.t 40)]<|
.m 11 41<|
.nil))
 (.seq (.seq (.ops (.m 42 11<|
.b 43 .lss .none (.t 42) (.i 0)<|
.nil))
 (.cond (.tmp 43) (.seq (.ops (.m 44 3<|
.m 8 44<|
.c 9 (V.bool true)<|
.nil))
 .ret)
 .skip))
 (.seq (.seq (.ops (.m 45 3<|
.m 46 11<|
.k 47 .bool 29 [(.t 45), (.t 46)]<|
.p 48 [47] (.un .not (.t 47))<|
.nil))
 (.cond (.tmp 48) (.ops (.m 49 3<|
.m 50 11<|
.p 51 [50] (.buildSlice 3 1 [(V.int .i64 (Int.ofNat 0))] [(0, 1, (.t 50))])<|
.op (some 52) .one [49, 51] (.append 3 1 8 (.t 49) (.t 51))<|
.m 3 52<|
.nil))
 .skip))
 (.keep [(3, .any)] [] [] cc2))))
 .skip))
 (.keep [(2, .i), (3, .any), (4, .ptr)] [10] [(10, [.i, .str, .bool, .i, .i, .bool, .bool, .bool, .bool, .i, .i, .any, .any, .i, .bool, .i])] cc1)))))
def C124_1 (cc3 : XC) (cc4 : XC) : XC := (.seq (.ops (.c 12 (V.bool false)<|
.nil))
 (.seq (.seq (.ops (.q 13 0<|
.nil))
 (.block 0 (.loop [(2, .i), (3, .any), (4, .ptr), (12, .bool), (13, .i)] [10] [(10, [.i, .str, .bool, .i, .i, .bool, .bool, .bool, .bool, .i, .i, .any, .any, .i, .bool, .i])] cc4)))
 (.keep [(2, .i), (3, .any), (4, .ptr), (12, .bool)] [10] [(10, [.i, .str, .bool, .i, .i, .bool, .bool, .bool, .bool, .i, .i, .any, .any, .i, .bool, .i])] cc3)))
def C124_2 : XC := (.seq (.ops (.m 53 3<|
.m 8 53<|
.c 9 (V.bool false)<|
.nil))
 .ret)
def C124_3 (cc5 : XC) : XC := (.seq (.seq (.ops (.f 79 0 10<|
.l 80 .i 79<|
.b 81 .eql .none (.t 80) (.i 10)<|
.nil))
 (.cond (.tmp 81) (.seq (.ops (.c 15 (V.bool false)<|
.nil))
 (.seq (.ops (.op (some 83) (.agg [.str, .i, .any, .any, .any]) [4] (.load (some 5) (.t 4))<|
.f 84 15 10<|
.l 85 .i 84<|
.m 86 2<|
.b 87 .add .none (.t 86) (.i 1)<|
.m 88 3<|
.k 89 (.tup [.any, .bool]) 124 [(.t 83), (.t 85), (.t 87), (.t 88)]<|
.m 82 89<|
.p 90 [82] (.extract 0 (.t 82))<|
.p 91 [82] (.extract 1 (.t 82))<|
.m 3 90<|
.m 15 91<|
.nil))
 (.ops (.m 92 12<|
.m 93 92<|
.grp 93 false (.p 94 [15, 93] (.mov (.t 15))<|
.nil) 95 [93, 94] (.t 93) (.con (V.bool true)) (.t 94)<|
.m 12 95<|
.nil))))
 .skip))
 (.keep [(3, .any), (12, .bool)] [] [] cc5))
def C124_4 : XC := (.seq (.seq (.ops (.m 54 13<|
.f 55 12 10<|
.l 56 .any 55<|
.u 57 56<|
.b 58 .lss .none (.t 54) (.t 57)<|
.nil))
 (.cond (.tmp 58) .skip
 (.exit 0)))
 (.seq (.block 1 (.seq (.ops (.c 14 (V.bool false)<|
.nil))
 (.seq (.draw (.op (some 62) (.agg [.str, .i, .any, .any, .any]) [4] (.load (some 5) (.t 4))<|
.f 63 12 10<|
.l 64 .any 63<|
.m 65 13<|
.s 66 11 64 65<|
.f 67 1 66<|
.l 68 .i 67<|
.m 69 2<|
.b 70 .add .none (.t 69) (.i 1)<|
.m 71 3<|
.k 72 (.tup [.any, .bool]) 124 [(.t 62), (.t 68), (.t 70), (.t 71)]<|
.m 61 72<|
.p 73 [61] (.extract 0 (.t 61))<|
.p 74 [61] (.extract 1 (.t 61))<|
.m 3 73<|
.m 14 74<|
.nil) [0, 0, 2, 0, 14, 30, 62, 0, 128, 0, 1023, 2047, 4095, 4095, 8191, 32767])
 (.ops (.m 75 12<|
.m 76 75<|
.grp 76 false (.p 77 [14, 76] (.mov (.t 14))<|
.nil) 78 [76, 77] (.t 76) (.con (V.bool true)) (.t 77)<|
.m 12 78<|
.nil)))))
 (.ops (.m 59 13<|
.b 60 .add .none (.t 59) (.i 1)<|
.m 13 60<|
.nil))))
def C124_5 : XC := (.seq (.ops (.m 96 3<|
.m 97 12<|
.m 8 96<|
.m 9 97<|
.nil))
 .ret)
def A124 : XFn := ⟨98, [(.agg [.str, .i, .any, .any, .any]), .i, .i, .any], [(.tmp 8), (.tmp 9)], (C124_0 (C124_1 (C124_3 C124_5) C124_4) C124_2)⟩
def C125_0 (cc1 : XC) (cc2 : XC) : XC := (.seq (.ops (.c 6 (V.bool false)<|
.nil))
 (.seq (.ops (.p 10 [] (.buildSlice 3 0 [] [])<|
.m 7 10<|
.nil))
 (.seq (.ops (.m 11 0<|
.m 12 1<|
.s 13 1 11 12<|
.l 14 .any 13<|
.op (some 15) .one [14] (.append 3 1 8 (.con V.nils) (.t 14))<|
.m 8 15<|
.nil))
 (.seq (.block 0 (.loop [(0, .any), (2, .i), (7, .any), (8, .any)] [] [] cc2))
 (.keep [] [] [] cc1)))))
def C125_1 : XC := (.seq (.ops (.c 6 (V.bool false)<|
.nil))
 .ret)
def C125_2 : XC := (.seq (.seq (.ops (.m 16 8<|
.u 17 16<|
.b 18 .gtr .none (.t 17) (.i 0)<|
.nil))
 (.cond (.tmp 18) .skip
 (.exit 0)))
 (.block 1 (.seq (.ops (.m 19 8<|
.p 20 [19] (.iaddrS 1 (.t 19) (.i 0))<|
.l 21 .i 20<|
.m 9 21<|
.nil))
 (.seq (.ops (.m 22 8<|
.p 23 [22] (.sliceSl 1 (.t 22) (some (.i 1)) none none)<|
.m 8 23<|
.nil))
 (.seq (.seq (.ops (.m 24 9<|
.m 25 2<|
.b 26 .eql .none (.t 24) (.t 25)<|
.nil))
 (.cond (.tmp 26) (.seq (.ops (.c 6 (V.bool true)<|
.nil))
 .ret)
 .skip))
 (.seq (.ops (.m 27 7<|
.m 28 9<|
.k 29 .bool 29 [(.t 27), (.t 28)]<|
.p 30 [29] (.un .not (.t 29))<|
.nil))
 (.cond (.tmp 30) (.seq (.ops (.m 31 7<|
.m 32 9<|
.p 33 [32] (.buildSlice 3 1 [(V.int .i64 (Int.ofNat 0))] [(0, 1, (.t 32))])<|
.op (some 34) .one [31, 33] (.append 3 1 8 (.t 31) (.t 33))<|
.m 7 34<|
.nil))
 (.ops (.m 35 8<|
.m 36 0<|
.m 37 9<|
.s 38 1 36 37<|
.l 39 .any 38<|
.op (some 40) .one [35, 39] (.append 3 1 8 (.t 35) (.t 39))<|
.m 8 40<|
.nil)))
 .skip)))))))
def A125 : XFn := ⟨41, [.any, .i, .i], [(.tmp 6)], (C125_0 C125_1 C125_2)⟩
def G127_0 : List AOper := [⟨(some 45), .mov (.tmp 0), none⟩, ⟨(some 46), .mov (.tmp 0), none⟩, ⟨(some 47), .nilck (.tmp 46), none⟩, ⟨(some 48), .faddr 5 (.tmp 47), none⟩, ⟨(some 49), .load none (.tmp 48), none⟩, ⟨(some 50), .load (some 13) (.tmp 8), none⟩, ⟨(some 51), .buildSlice 145 1 [(V.int .i64 (Int.ofNat 0)), V.nils, (V.bool false), (V.bool false), (V.bool false), (V.bool false), (V.int .i64 (Int.ofNat 0)), (V.int .i64 (Int.ofNat 0)), V.nils, V.nils, (V.int .i64 (Int.ofNat 0)), (V.bool false), (V.int .i64 (Int.ofNat 0))] [(0, 13, (.tmp 50))], none⟩, ⟨(some 52), .append 145 13 128 (.tmp 49) (.tmp 51), none⟩, ⟨(some 53), .nilck (.tmp 45), none⟩, ⟨(some 54), .faddr 5 (.tmp 53), none⟩, ⟨none, .store 1 (.tmp 54) (.tmp 52), none⟩]
def H127_0 : List DP := [⟨0, [0]⟩, ⟨0, [0]⟩, ⟨2, [46]⟩, ⟨6, [47]⟩, ⟨14, [48]⟩, ⟨0, [8]⟩, ⟨32, [50]⟩, ⟨126, [49, 51]⟩, ⟨255, [45]⟩, ⟨511, [53]⟩, ⟨1023, [54, 52]⟩]
def G127_1 : List AOper := [⟨(some 97), .mov (.tmp 0), none⟩, ⟨(some 98), .nilck (.tmp 97), none⟩, ⟨(some 99), .faddr 5 (.tmp 98), none⟩, ⟨(some 100), .load none (.tmp 99), none⟩, ⟨(some 101), .mov (.tmp 7), none⟩, ⟨(some 102), .mov (.tmp 0), none⟩, ⟨(some 103), .load (some 16) (.tmp 4), none⟩, ⟨(some 104), .call 222 [(.tmp 102), (.tmp 103)], none⟩, ⟨(some 105), .iaddrS 13 (.tmp 100) (.tmp 101), none⟩, ⟨(some 106), .faddr 8 (.tmp 105), none⟩, ⟨none, .store 1 (.tmp 106) (.tmp 104), none⟩]
def H127_1 : List DP := [⟨0, [0]⟩, ⟨1, [97]⟩, ⟨3, [98]⟩, ⟨7, [99]⟩, ⟨0, [7]⟩, ⟨0, [0]⟩, ⟨0, [4]⟩, ⟨96, [102, 103]⟩, ⟨255, [100, 101]⟩, ⟨511, [105]⟩, ⟨1023, [106, 104]⟩]
def C127_0 (cc1 : XC) : XC := (.seq (.ops (.p 4 [1] (.box 183 (.t 1))<|
.q 6 0<|
.nil))
 (.seq (.seq (.ops (.m 11 2<|
.b 12 .gtr .none (.t 11) (.i 16)<|
.m 13 12<|
.grp 13 false (.p 14 [0, 13] (.mov (.t 0))<|
.p 15 [14, 13] (.nilck (.t 14))<|
.p 16 [15, 13] (.faddr 5 (.t 15))<|
.p 17 [16, 13] (.load none (.t 16))<|
.p 18 [17, 13] (.len false (.t 17))<|
.p 19 [18, 13] (.bin .geq .none (.t 18) (.i 300))<|
.nil) 20 [13, 19] (.t 13) (.con (V.bool true)) (.t 19)<|
.nil))
 (.cond (.tmp 20) (.seq (.ops (.m 21 0<|
.k 22 (.tup []) 219 [(.t 21), (.i 5)]<|
.nil))
 (.seq (.ops (.q 6 0<|
.nil))
 .ret))
 .skip))
 (.seq (.ops (.m 23 0<|
.n 24 23<|
.f 25 5 24<|
.l 26 .any 25<|
.u 27 26<|
.m 7 27<|
.nil))
 (.seq (.ops (.f 28 0 4<|
.l 29 .i 28<|
.f 30 5 4<|
.op (some 31) (.agg [.bool, .bool, .bool, .bool, .i, .i]) [30] (.load (some 6) (.t 30))<|
.f 32 13 4<|
.l 33 .i 32<|
.f 34 14 4<|
.l 35 .bool 34<|
.op (some 36) (.agg [.i, .any, .bool, .bool, .bool, .bool, .i, .i, .any, .any, .i, .bool, .i]) [29, 31, 33, 35] (.build [(V.int .i64 (Int.ofNat 0)), V.nils, (V.bool false), (V.bool false), (V.bool false), (V.bool false), (V.int .i64 (Int.ofNat 0)), (V.int .i64 (Int.ofNat 0)), V.nils, V.nils, (V.int .i64 (Int.ofNat 0)), (V.bool false), (V.int .i64 (Int.ofNat 0))] [(0, 1, (.t 29)), (2, 6, (.t 31)), (10, 1, (.t 33)), (11, 1, (.t 35))])<|
.p 8 [] (.alloc 145 [(V.int .i64 (Int.ofNat 0)), V.nils, (V.bool false), (V.bool false), (V.bool false), (V.bool false), (V.int .i64 (Int.ofNat 0)), (V.int .i64 (Int.ofNat 0)), V.nils, V.nils, (V.int .i64 (Int.ofNat 0)), (V.bool false), (V.int .i64 (Int.ofNat 0))])<|
.op none (.agg [.i, .any, .bool, .bool, .bool, .bool, .i, .i, .any, .any, .i, .bool, .i]) [8, 36] (.store 13 (.t 8) (.t 36))<|
.nil))
 (.seq (.seq (.ops (.f 37 0 4<|
.l 38 .i 37<|
.b 39 .neq .none (.t 38) (.i 9)<|
.nil))
 (.cond (.tmp 39) (.ops (.f 40 0 4<|
.l 41 .i 40<|
.k 42 (.agg [.i, .i]) 220 [(.t 41)]<|
.p 43 [42] (.buildSlice 253 1 [(V.int .i64 (Int.ofNat 0)), (V.int .i64 (Int.ofNat 0))] [(0, 2, (.t 42))])<|
.f 44 1 8<|
.w 1 44 43<|
.nil))
 .skip))
 (.keep [(0, .ptr), (2, .i), (4, .ptr), (7, .i), (8, .ptr)] [] [] cc1))))))
def C127_1 (cc2 : XC) (cc3 : XC) : XC := (.seq (.keep [(0, .ptr), (2, .i), (4, .ptr), (7, .i), (8, .ptr)] [] [] (.gdraw G127_0 H127_0 [(0, .ptr), (2, .i), (4, .ptr), (7, .i)]))
 (.seq (.seq (.ops (.f 55 0 4<|
.l 56 .i 55<|
.nil))
 (.block 0 (.seq (.seq (.ops (.b 58 .eql .none (.t 56) (.i 2)<|
.m 57 58<|
.nil))
 (.cond (.tmp 57) .skip
 (.seq (.ops (.b 59 .eql .none (.t 56) (.i 5)<|
.m 57 59<|
.nil))
 (.cond (.tmp 57) .skip
 (.seq (.ops (.b 60 .eql .none (.t 56) (.i 6)<|
.m 57 60<|
.nil))
 (.cond (.tmp 57) .skip
 (.ops (.b 61 .eql .none (.t 56) (.i 10)<|
.m 57 61<|
.nil))))))))
 (.keep [(0, .ptr), (2, .i), (4, .ptr), (7, .i), (56, .i), (57, .bool)] [] [] cc3))))
 (.keep [(7, .i)] [] [] cc2)))
def C127_2 : XC := (.seq (.ops (.m 116 7<|
.m 6 116<|
.nil))
 .ret)
def C127_3 (cc4 : XC) (cc5 : XC) : XC := (.cond (.tmp 57) (.seq (.ops (.f 62 5 4<|
.op (some 63) (.agg [.bool, .bool, .bool, .bool, .i, .i]) [62] (.load (some 6) (.t 62))<|
.f 64 0 4<|
.l 65 .i 64<|
.b 66 .neq .none (.t 65) (.i 2)<|
.k 67 .i 221 [(.t 63), (.t 66)]<|
.m 9 67<|
.nil))
 (.seq (.seq (.ops (.m 68 9<|
.b 69 .neq .none (.t 68) (.i 0)<|
.nil))
 (.cond (.tmp 69) (.ops (.m 70 0<|
.m 71 9<|
.k 72 (.tup []) 219 [(.t 70), (.t 71)]<|
.nil))
 .skip))
 (.keep [(0, .ptr), (2, .i), (4, .ptr), (7, .i)] [] [] cc4)))
 (.seq (.ops (.b 96 .eql .none (.t 56) (.i 3)<|
.m 95 96<|
.nil))
 (.cond (.tmp 95) (.keep [(0, .ptr), (4, .ptr), (7, .i)] [] [] (.gdraw G127_1 H127_1 [(7, .i)]))
 (.seq (.seq (.ops (.b 108 .eql .none (.t 56) (.i 7)<|
.m 107 108<|
.nil))
 (.cond (.tmp 107) .skip
 (.seq (.ops (.b 109 .eql .none (.t 56) (.i 8)<|
.m 107 109<|
.nil))
 (.cond (.tmp 107) .skip
 (.ops (.b 110 .eql .none (.t 56) (.i 9)<|
.m 107 110<|
.nil))))))
 (.keep [(0, .ptr), (2, .i), (4, .ptr), (7, .i), (107, .bool)] [] [] cc5)))))
def C127_4 : XC := (.seq (.ops (.f 73 0 4<|
.l 74 .i 73<|
.b 75 .eql .none (.t 74) (.i 10)<|
.nil))
 (.cond (.tmp 75) (.seq (.ops (.m 76 0<|
.f 77 15 4<|
.l 78 .i 77<|
.m 79 2<|
.b 80 .add .none (.t 79) (.i 1)<|
.k 81 .i 64 [(.t 76), (.t 78), (.t 80)]<|
.m 10 81<|
.nil))
 (.seq (.ops (.m 82 0<|
.n 83 82<|
.f 84 6 83<|
.l 85 .i 84<|
.b 86 .eql .none (.t 85) (.i 0)<|
.nil))
 (.cond (.tmp 86) (.ops (.m 87 0<|
.n 88 87<|
.f 89 5 88<|
.l 90 .any 89<|
.m 91 7<|
.m 92 10<|
.s 93 13 90 91<|
.f 94 12 93<|
.w 1 94 92<|
.nil))
 .skip)))
 .skip))
def C127_5 : XC := (.cond (.tmp 107) (.ops (.m 111 0<|
.m 112 7<|
.op (some 113) (.agg [.i, .str, .bool, .i, .i, .bool, .bool, .bool, .bool, .i, .i, .any, .any, .i, .bool, .i]) [4] (.load (some 16) (.t 4))<|
.m 114 2<|
.k 115 (.tup []) 223 [(.t 111), (.t 112), (.t 113), (.t 114)]<|
.nil))
 .skip)
def A127 : XFn := ⟨117, [.ptr, (.agg [.i, .str, .bool, .i, .i, .bool, .bool, .bool, .bool, .i, .i, .any, .any, .i, .bool, .i]), .i], [(.tmp 6)], (C127_0 (C127_1 C127_2 (C127_3 C127_4 C127_5)))⟩
def C128_0 : XC := (.seq (.ops (.q 4 0<|
.nil))
 (.seq (.seq (.ops (.m 5 0<|
.n 6 5<|
.f 7 5 6<|
.l 8 .any 7<|
.m 9 1<|
.s 10 13 8 9<|
.f 11 1 10<|
.l 12 .any 11<|
.u 13 12<|
.b 14 .gtr .none (.t 13) (.i 0)<|
.nil))
 (.cond (.tmp 14) (.seq (.ops (.q 4 1<|
.nil))
 .ret)
 .skip))
 (.seq (.ops (.q 4 0<|
.nil))
 .ret)))
def A128 : XFn := ⟨15, [.ptr, .i], [(.tmp 4)], C128_0⟩
def C129_0 : XC := (.seq (.seq (.ops (.m 10 0<|
.n 11 10<|
.f 12 6 11<|
.l 13 .i 12<|
.b 14 .neq .none (.t 13) (.i 0)<|
.nil))
 (.cond (.tmp 14) .ret
 .skip))
 (.seq (.ops (.m 16 0<|
.n 17 16<|
.f 18 5 17<|
.l 19 .any 18<|
.m 20 1<|
.s 21 13 19 20<|
.f 22 1 21<|
.l 23 .any 22<|
.m 24 2<|
.m 25 3<|
.k 26 (.tup [.any, .i]) 224 [(.t 23), (.t 24), (.t 25)]<|
.m 15 26<|
.p 27 [15] (.extract 0 (.t 15))<|
.p 28 [15] (.extract 1 (.t 15))<|
.m 8 27<|
.m 9 28<|
.nil))
 (.seq (.seq (.ops (.m 29 9<|
.b 30 .neq .none (.t 29) (.i 0)<|
.nil))
 (.cond (.tmp 30) (.seq (.ops (.m 31 0<|
.m 32 9<|
.k 33 (.tup []) 219 [(.t 31), (.t 32)]<|
.nil))
 .ret)
 .skip))
 (.ops (.m 34 0<|
.n 35 34<|
.f 36 5 35<|
.l 37 .any 36<|
.m 38 1<|
.m 39 8<|
.s 40 13 37 38<|
.f 41 1 40<|
.w 1 41 39<|
.nil)))))
def A129 : XFn := ⟨42, [.ptr, .i, .i, .i], [], C129_0⟩
def C131_0 : XC := (.seq (.ops (.p 2 [0] (.box 38 (.t 0))<|
.c 4 (V.bool false)<|
.nil))
 (.seq (.ops (.m 5 1<|
.b 6 .and .none (.t 5) (.i 1)<|
.b 7 .neq .none (.t 6) (.i 0)<|
.m 8 7<|
.grp 8 false (.p 9 [2, 8] (.faddr 1 (.t 2))<|
.op (some 10) .i [9, 8] (.load none (.t 9))<|
.p 11 [10, 8] (.bin .eql .none (.t 10) (.i 0))<|
.nil) 12 [8, 11] (.t 8) (.con (V.bool true)) (.t 11)<|
.m 13 12<|
.grp 13 true (.p 14 [1, 13] (.mov (.t 1))<|
.p 15 [14, 13] (.bin .and .none (.t 14) (.i 2))<|
.p 16 [15, 13] (.bin .neq .none (.t 15) (.i 0))<|
.p 17 [16, 13] (.mov (.t 16))<|
.grp 17 false (.p 18 [2, 17] (.faddr 2 (.t 2))<|
.p 19 [18, 17] (.load none (.t 18))<|
.p 20 [19, 17] (.len false (.t 19))<|
.p 21 [20, 17] (.bin .eql .none (.t 20) (.i 0))<|
.nil) 22 [17, 21, 13] (.t 17) (.con (V.bool true)) (.t 21)<|
.nil) 23 [13, 22] (.t 13) (.t 22) (.con (V.bool false))<|
.m 24 23<|
.grp 24 true (.p 25 [1, 24] (.mov (.t 1))<|
.p 26 [25, 24] (.bin .and .none (.t 25) (.i 4))<|
.p 27 [26, 24] (.bin .neq .none (.t 26) (.i 0))<|
.p 28 [27, 24] (.mov (.t 27))<|
.grp 28 false (.p 29 [2, 28] (.faddr 3 (.t 2))<|
.p 30 [29, 28] (.load none (.t 29))<|
.p 31 [30, 28] (.len false (.t 30))<|
.p 32 [31, 28] (.bin .eql .none (.t 31) (.i 0))<|
.nil) 33 [28, 32, 24] (.t 28) (.con (V.bool true)) (.t 32)<|
.nil) 34 [24, 33] (.t 24) (.t 33) (.con (V.bool false))<|
.m 35 34<|
.grp 35 true (.p 36 [1, 35] (.mov (.t 1))<|
.p 37 [36, 35] (.bin .and .none (.t 36) (.i 8))<|
.p 38 [37, 35] (.bin .neq .none (.t 37) (.i 0))<|
.p 39 [38, 35] (.mov (.t 38))<|
.grp 39 false (.p 40 [2, 39] (.faddr 4 (.t 2))<|
.op (some 41) .i [40, 39] (.load none (.t 40))<|
.p 42 [41, 39] (.bin .eql .none (.t 41) (.i 0))<|
.p 43 [42, 39] (.mov (.t 42))<|
.grp 43 true (.p 44 [2, 43] (.faddr 5 (.t 2))<|
.p 45 [44, 43] (.load none (.t 44))<|
.p 46 [45, 43] (.len false (.t 45))<|
.p 47 [46, 43] (.bin .eql .none (.t 46) (.i 0))<|
.nil) 48 [43, 47, 39] (.t 43) (.t 47) (.con (V.bool false))<|
.nil) 49 [39, 48, 35] (.t 39) (.con (V.bool true)) (.t 48)<|
.nil) 50 [35, 49] (.t 35) (.t 49) (.con (V.bool false))<|
.m 4 50<|
.nil))
 .ret))
def A131 : XFn := ⟨51, [(.agg [.i, .i, .any, .any, .i, .any]), .i], [(.tmp 4)], C131_0⟩
def C132_0 : XC := (.seq (.ops (.p 2 [0] (.box 141 (.t 0))<|
.c 4 (V.bool false)<|
.nil))
 (.seq (.ops (.f 5 0 2<|
.l 6 .bool 5<|
.p 7 [6] (.un .not (.t 6))<|
.m 8 7<|
.grp 8 false (.p 9 [2, 8] (.faddr 1 (.t 2))<|
.op (some 10) .bool [9, 8] (.load none (.t 9))<|
.p 11 [10, 8] (.un .not (.t 10))<|
.p 12 [11, 8] (.mov (.t 11))<|
.grp 12 false (.p 13 [1, 12] (.mov (.t 1))<|
.p 14 [2, 12] (.faddr 4 (.t 2))<|
.op (some 15) .i [14, 12] (.load none (.t 14))<|
.p 16 [13, 15, 12] (.bin .geq .none (.t 13) (.t 15))<|
.nil) 17 [12, 16, 8] (.t 12) (.con (V.bool true)) (.t 16)<|
.p 18 [17, 8] (.mov (.t 17))<|
.grp 18 true (.p 19 [2, 18] (.faddr 2 (.t 2))<|
.op (some 20) .bool [19, 18] (.load none (.t 19))<|
.p 21 [20, 18] (.un .not (.t 20))<|
.p 22 [21, 18] (.mov (.t 21))<|
.grp 22 false (.p 23 [1, 22] (.mov (.t 1))<|
.p 24 [2, 22] (.faddr 5 (.t 2))<|
.op (some 25) .i [24, 22] (.load none (.t 24))<|
.p 26 [23, 25, 22] (.bin .leq .none (.t 23) (.t 25))<|
.nil) 27 [22, 26, 18] (.t 22) (.con (V.bool true)) (.t 26)<|
.nil) 28 [18, 27, 8] (.t 18) (.t 27) (.con (V.bool false))<|
.nil) 29 [8, 28] (.t 8) (.con (V.bool true)) (.t 28)<|
.m 4 29<|
.nil))
 .ret))
def A132 : XFn := ⟨30, [(.agg [.bool, .bool, .bool, .bool, .i, .i]), .i], [(.tmp 4)], C132_0⟩
def C136_0 (cc1 : XC) (cc2 : XC) : XC := (.seq (.ops (.p 6 [2] (.box 38 (.t 2))<|
.c 8 (V.bool false)<|
.nil))
 (.seq (.ops (.m 13 0<|
.n 14 13<|
.f 15 0 14<|
.f 16 0 15<|
.f 17 3 16<|
.l 18 .any 17<|
.m 19 1<|
.s 20 13 18 19<|
.op (some 21) (.agg [.i, .any, .bool, .bool, .bool, .bool, .i, .i, .any, .any, .i, .bool, .i]) [20] (.load (some 13) (.t 20))<|
.pal 9 [] 145 [(V.int .i64 (Int.ofNat 0)), V.nils, (V.bool false), (V.bool false), (V.bool false), (V.bool false), (V.int .i64 (Int.ofNat 0)), (V.int .i64 (Int.ofNat 0)), V.nils, V.nils, (V.int .i64 (Int.ofNat 0)), (V.bool false), (V.int .i64 (Int.ofNat 0))]<|
.op none (.agg [.i, .any, .bool, .bool, .bool, .bool, .i, .i, .any, .any, .i, .bool, .i]) [9, 21] (.store 13 (.t 9) (.t 21))<|
.nil))
 (.seq (.seq (.ops (.op (some 22) (.agg [.i, .i, .any, .any, .i, .any]) [6] (.load (some 6) (.t 6))<|
.k 23 .bool 131 [(.t 22), (.i 12)]<|
.p 24 [23] (.un .not (.t 23))<|
.m 25 24<|
.grp 25 false (.p 26 [6, 25] (.faddr 3 (.t 6))<|
.p 27 [26, 25] (.load none (.t 26))<|
.p 28 [27, 25] (.len false (.t 27))<|
.p 29 [9, 25] (.faddr 9 (.t 9))<|
.p 30 [29, 25] (.load none (.t 29))<|
.p 31 [30, 25] (.len false (.t 30))<|
.p 32 [28, 31, 25] (.bin .neq .none (.t 28) (.t 31))<|
.nil) 33 [25, 32] (.t 25) (.con (V.bool true)) (.t 32)<|
.m 34 33<|
.grp 34 false (.p 35 [0, 34] (.mov (.t 0))<|
.p 36 [1, 34] (.mov (.t 1))<|
.op (some 37) (.agg [.i, .i, .any, .any, .i, .any]) [6, 34] (.load (some 6) (.t 6))<|
.op (some 38) .bool [35, 36, 37, 34] (.call 230 [(.t 35), (.t 36), (.t 37)])<|
.p 39 [38, 34] (.un .not (.t 38))<|
.nil) 40 [34, 39] (.t 34) (.con (V.bool true)) (.t 39)<|
.nil))
 (.cond (.tmp 40) (.seq (.ops (.c 8 (V.bool false)<|
.nil))
 .ret)
 .skip))
 (.seq (.seq (.ops (.f 41 9 9<|
.l 42 .any 41<|
.u 43 42<|
.q 44 0<|
.nil))
 (.block 0 (.loop [(0, .ptr), (1, .i), (3, .i), (6, .ptr), (42, .any), (43, .i), (44, .i)] [9] [(9, [.i, .any, .bool, .bool, .bool, .bool, .i, .i, .any, .any, .i, .bool, .i])] cc2)))
 (.keep [(0, .ptr), (1, .i), (6, .ptr)] [] [] cc1)))))
def C136_1 : XC := (.seq (.ops (.m 87 0<|
.m 88 1<|
.op (some 89) (.agg [.i, .i, .any, .any, .i, .any]) [6] (.load (some 6) (.t 6))<|
.k 90 .bool 233 [(.t 87), (.t 88), (.t 89)]<|
.m 8 90<|
.nil))
 .ret)
def C136_2 (cc3 : XC) : XC := (.seq (.ops (.b 45 .lss .none (.t 44) (.t 43)<|
.nil))
 (.seq (.cond (.tmp 45) .skip
 (.exit 0))
 (.seq (.block 1 (.seq (.ops (.m 46 44<|
.s 47 11 42 44<|
.op (some 48) (.agg [.str, .i, .bool, .bool, .i, .i, .any, .any, .i, .any, .i]) [47] (.load (some 11) (.t 47))<|
.pal 11 [] 200 [(V.str ⟨0, 0⟩), (V.int .i64 (Int.ofNat 0)), (V.bool false), (V.bool false), (V.int .i64 (Int.ofNat 0)), (V.int .i64 (Int.ofNat 0)), V.nils, V.nils, (V.int .i64 (Int.ofNat 0)), V.nils, (V.int .i64 (Int.ofNat 0))]<|
.m 10 46<|
.op none (.agg [.str, .i, .bool, .bool, .i, .i, .any, .any, .i, .any, .i]) [11, 48] (.store 11 (.t 11) (.t 48))<|
.nil))
 (.seq (.ops (.f 49 3 6<|
.l 50 .any 49<|
.m 51 10<|
.s 52 6 50 51<|
.op (some 53) (.agg [.i, .i, .any, .any, .i, .any]) [52] (.load (some 6) (.t 52))<|
.pal 12 [] 38 [(V.int .i64 (Int.ofNat 0)), (V.int .i64 (Int.ofNat 0)), V.nils, V.nils, (V.int .i64 (Int.ofNat 0)), V.nils]<|
.op none (.agg [.i, .i, .any, .any, .i, .any]) [12, 53] (.store 6 (.t 12) (.t 53))<|
.nil))
 (.block 2 (.seq (.ops (.f 55 0 12<|
.l 56 .i 55<|
.b 57 .eql .none (.t 56) (.i 0)<|
.m 54 57<|
.nil))
 (.cond (.tmp 54) (.seq (.ops (.op (some 58) (.agg [.i, .i, .any, .any, .i, .any]) [12] (.load (some 6) (.t 12))<|
.k 59 .bool 158 [(.t 58)]<|
.p 60 [59] (.un .not (.t 59))<|
.m 61 60<|
.grp 61 false (.op (some 62) (.agg [.i, .any, .bool, .bool, .bool, .bool, .i, .i, .any, .any, .i, .bool, .i]) [9, 61] (.load (some 13) (.t 9))<|
.p 63 [10, 61] (.mov (.t 10))<|
.op (some 64) .bool [62, 63, 61] (.call 231 [(.t 62), (.t 63)])<|
.p 65 [64, 61] (.un .not (.t 64))<|
.nil) 66 [61, 65] (.t 61) (.con (V.bool true)) (.t 65)<|
.nil))
 (.cond (.tmp 66) (.seq (.ops (.c 8 (V.bool false)<|
.nil))
 .ret)
 .skip))
 (.seq (.ops (.m 68 0<|
.f 69 1 11<|
.l 70 .i 69<|
.op (some 71) (.agg [.i, .i, .any, .any, .i, .any]) [12] (.load (some 6) (.t 12))<|
.m 72 3<|
.b 73 .add .none (.t 72) (.i 1)<|
.k 74 .bool 65 [(.t 68), (.t 70), (.t 71), (.t 73)]<|
.p 75 [74] (.un .not (.t 74))<|
.m 76 75<|
.grp 76 false (.p 77 [11, 76] (.faddr 3 (.t 11))<|
.op (some 78) .bool [77, 76] (.load none (.t 77))<|
.p 79 [78, 76] (.mov (.t 78))<|
.grp 79 true (.op (some 80) (.agg [.i, .i, .any, .any, .i, .any]) [12, 79] (.load (some 6) (.t 12))<|
.p 81 [11, 79] (.faddr 4 (.t 11))<|
.op (some 82) (.agg [.i, .i, .any, .any, .i, .any]) [81, 79] (.load (some 6) (.t 81))<|
.op (some 83) .bool [80, 82, 79] (.call 232 [(.t 80), (.t 82)])<|
.nil) 84 [79, 83, 76] (.t 79) (.t 83) (.con (V.bool false))<|
.nil) 85 [76, 84] (.t 76) (.con (V.bool true)) (.t 84)<|
.m 67 85<|
.nil))
 (.cond (.tmp 67) (.seq (.ops (.c 8 (V.bool false)<|
.nil))
 .ret)
 .skip))))))))
 (.keep [(0, .ptr), (1, .i), (3, .i), (6, .ptr), (42, .any), (43, .i), (44, .i)] [9] [(9, [.i, .any, .bool, .bool, .bool, .bool, .i, .i, .any, .any, .i, .bool, .i])] cc3))))
def C136_3 : XC := (.ops (.b 86 .add .none (.t 44) (.i 1)<|
.m 44 86<|
.nil))
def A136 : XFn := ⟨91, [.ptr, .i, (.agg [.i, .i, .any, .any, .i, .any]), .i], [(.tmp 8)], (C136_0 C136_1 (C136_2 C136_3))⟩
end
end Go.Proofs.YtgjjnbddbbhloaaGreatDoor
