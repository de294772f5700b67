/- What the last text leans on, part 5 of 7: merged out of smaller texts. No condition. -/
import Derived.KernelRfl
import Derived.Test.YtgjjnbddbbhloaaGreatDoorProg
import Derived.Test.YtgjjnbddbbhloaaGreatDoorQ3
set_option linter.all false
set_option maxRecDepth 100000
set_option maxHeartbeats 0
namespace Go.Proofs.YtgjjnbddbbhloaaGreatDoor
open Go Go.Og
noncomputable section
variable (E : List (Nat × Blk)) (D : Den) (W : DrawFn) (N : Nat)
def C137_0 (cc1 : XC) (cc2 : XC) : XC := (.seq (.ops (.q 4 0<|
.nil))
 (.seq (.seq (.ops (.m 6 0<|
.u 7 6<|
.q 8 0<|
.nil))
 (.block 0 (.loop [(0, .any), (1, .any), (7, .i), (8, .i)] [] [] cc2)))
 (.keep [] [] [] cc1)))
def C137_1 : XC := (.seq (.ops (.c 4 (V.int .i64 (Int.negSucc 0))<|
.nil))
 .ret)
def C137_2 : XC := (.seq (.ops (.b 9 .lss .none (.t 8) (.t 7)<|
.nil))
 (.seq (.cond (.tmp 9) .skip
 (.exit 0))
 (.seq (.block 1 (.seq (.ops (.m 10 8<|
.m 5 10<|
.nil))
 (.seq (.ops (.m 11 1<|
.m 12 0<|
.m 13 5<|
.s 14 13 12 13<|
.op (some 15) (.agg [.i, .any, .bool, .bool, .bool, .bool, .i, .i, .any, .any, .i, .bool, .i]) [14] (.load (some 13) (.t 14))<|
.op (some 16) .bool [11, 15] (.callv (.t 11) [(.t 15)])<|
.nil))
 (.cond (.tmp 16) (.seq (.ops (.m 17 5<|
.m 4 17<|
.nil))
 .ret)
 .skip))))
 (.ops (.b 18 .add .none (.t 8) (.i 1)<|
.m 8 18<|
.nil)))))
def A137 : XFn := ⟨19, [.any, .any], [(.tmp 4)], (C137_0 C137_1 C137_2)⟩
def C138_0 (cc1 : XC) (cc2 : XC) : XC := (.seq (.ops (.q 4 0<|
.nil))
 (.seq (.seq (.ops (.m 6 0<|
.u 7 6<|
.q 8 0<|
.nil))
 (.block 0 (.loop [(0, .any), (1, .any), (7, .i), (8, .i)] [] [] cc2)))
 (.keep [] [] [] cc1)))
def C138_1 : XC := (.seq (.ops (.c 4 (V.int .i64 (Int.negSucc 0))<|
.nil))
 .ret)
def C138_2 : XC := (.seq (.ops (.b 9 .lss .none (.t 8) (.t 7)<|
.nil))
 (.seq (.cond (.tmp 9) .skip
 (.exit 0))
 (.seq (.block 1 (.seq (.ops (.m 10 8<|
.m 5 10<|
.nil))
 (.seq (.ops (.m 11 1<|
.m 12 0<|
.m 13 5<|
.s 14 6 12 13<|
.op (some 15) (.agg [.i, .i, .any, .any, .i, .any]) [14] (.load (some 6) (.t 14))<|
.op (some 16) .bool [11, 15] (.callv (.t 11) [(.t 15)])<|
.nil))
 (.cond (.tmp 16) (.seq (.ops (.m 17 5<|
.m 4 17<|
.nil))
 .ret)
 .skip))))
 (.ops (.b 18 .add .none (.t 8) (.i 1)<|
.m 8 18<|
.nil)))))
def A138 : XFn := ⟨19, [.any, .any], [(.tmp 4)], (C138_0 C138_1 C138_2)⟩
def C139_0 : XC := (.seq (.seq (.ops (.m 6 0<|
.b 7 .eql .ptr (.t 6) (.con V.nilp)<|
.nil))
 (.cond (.tmp 7) .ret
 .skip))
 (.seq (.ops (.m 8 2<|
.k 9 .i 182 [(.t 8)]<|
.m 2 9<|
.nil))
 (.seq (.ops (.m 10 0<|
.n 11 10<|
.f 12 0 11<|
.m 13 1<|
.b 14 .shr .none (.t 13) (.con (V.int .u64 (Int.ofNat 32)))<|
.p 15 [14] (.conv (.toInt .u32) (.t 14))<|
.m 16 2<|
.b 17 .sub .none (.t 16) (.i 32)<|
.k 18 (.tup []) 234 [(.t 12), (.t 15), (.t 17)]<|
.nil))
 (.ops (.m 19 0<|
.n 20 19<|
.f 21 0 20<|
.m 22 1<|
.p 23 [22] (.conv (.toInt .u32) (.t 22))<|
.m 24 2<|
.p 25 [24] (.min (.t 24) [(.i 32)])<|
.k 26 (.tup []) 234 [(.t 21), (.t 23), (.t 25)]<|
.nil)))))
def A139 : XFn := ⟨27, [.any, (.int .u64), .i], [], C139_0⟩
def C140_0 : XC := (.seq (.ops (.p 1 [0] (.box 141 (.t 0))<|
.c 2 (V.int .u64 (Int.ofNat 0))<|
.c 3 (V.bool false)<|
.nil))
 (.seq (.ops (.op (some 5) (.agg [.bool, .bool, .bool, .bool, .i, .i]) [1] (.load (some 6) (.t 1))<|
.op (some 6) (.agg [.bool, .bool, .bool, .bool, .i, .i]) [5] (.build [(V.bool false), (V.bool false), (V.bool false), (V.bool false), (V.int .i64 (Int.ofNat 0)), (V.int .i64 (Int.ofNat 0))] [(0, 6, (.t 5))])<|
.pal 4 [] 266 [(V.bool false), (V.bool false), (V.bool false), (V.bool false), (V.int .i64 (Int.ofNat 0)), (V.int .i64 (Int.ofNat 0))]<|
.op none (.agg [.bool, .bool, .bool, .bool, .i, .i]) [4, 6] (.store 6 (.t 4) (.t 6))<|
.nil))
 (.seq (.seq (.ops (.op (some 7) (.agg [.bool, .bool, .bool, .bool, .i, .i]) [4] (.load (some 6) (.t 4))<|
.k 8 .bool 235 [(.t 7)]<|
.p 9 [8] (.un .not (.t 8))<|
.m 10 9<|
.grp 10 false (.op (some 11) (.agg [.bool, .bool, .bool, .bool, .i, .i]) [4, 10] (.load (some 6) (.t 4))<|
.op (some 12) .bool [11, 10] (.call 236 [(.t 11)])<|
.nil) 13 [10, 12] (.t 10) (.con (V.bool true)) (.t 12)<|
.nil))
 (.cond (.tmp 13) (.seq (.ops (.c 2 (V.int .u64 (Int.ofNat 0))<|
.c 3 (V.bool false)<|
.nil))
 .ret)
 .skip))
 (.seq (.ops (.f 14 0 4<|
.f 15 5 14<|
.l 16 .i 15<|
.p 17 [16] (.conv (.toInt .u64) (.t 16))<|
.f 18 0 4<|
.f 19 4 18<|
.l 20 .i 19<|
.p 21 [20] (.conv (.toInt .u64) (.t 20))<|
.b 22 .sub .none (.t 17) (.t 21)<|
.m 2 22<|
.c 3 (V.bool true)<|
.nil))
 .ret))))
def A140 : XFn := ⟨23, [(.agg [.bool, .bool, .bool, .bool, .i, .i])], [(.tmp 2), (.tmp 3)], C140_0⟩
def C141_0 : XC := (.ops (.m 6 0<|
.m 7 1<|
.m 8 2<|
.p 9 [7, 8] (.min (.t 7) [(.t 8)])<|
.m 10 2<|
.k 11 .i 237 [(.t 10)]<|
.k 12 (.tup []) 139 [(.t 6), (.t 9), (.t 11)]<|
.nil))
def A141 : XFn := ⟨13, [.any, (.int .u64), (.int .u64)], [], C141_0⟩
def C147_0 (cc1 : XC) (cc2 : XC) : XC := (.seq (.ops (.c 2 V.nils<|
.nil))
 (.seq (.ops (.c 3 V.nils<|
.nil))
 (.seq (.seq (.ops (.m 6 0<|
.u 7 6<|
.q 8 0<|
.nil))
 (.block 0 (.loop [(3, .any), (6, .any), (7, .i), (8, .i)] [] [] cc2)))
 (.keep [(3, .any)] [] [] cc1))))
def C147_1 : XC := (.seq (.ops (.m 16 3<|
.m 2 16<|
.nil))
 .ret)
def C147_2 : XC := (.seq (.ops (.b 9 .lss .none (.t 8) (.t 7)<|
.nil))
 (.seq (.cond (.tmp 9) .skip
 (.exit 0))
 (.seq (.block 1 (.seq (.ops (.s 10 1 6 8<|
.l 11 .any 10<|
.m 5 11<|
.nil))
 (.ops (.m 12 3<|
.m 13 5<|
.op (some 14) .one [12, 13] (.append 5 1 1 (.t 12) (.t 13))<|
.m 3 14<|
.nil))))
 (.ops (.b 15 .add .none (.t 8) (.i 1)<|
.m 8 15<|
.nil)))))
def A147 : XFn := ⟨17, [.any], [(.tmp 2)], (C147_0 C147_1 C147_2)⟩
def C148_0 (cc1 : XC) (cc2 : XC) : XC := (.seq (.ops (.c 2 V.nils<|
.nil))
 (.seq (.ops (.m 6 0<|
.p 7 [6] (.max (.t 6) [(.i 0)])<|
.m 0 7<|
.nil))
 (.seq (.ops (.c 3 V.nils<|
.nil))
 (.seq (.seq (.ops (.c 4 (V.bool true)<|
.nil))
 (.block 0 (.loop [(0, .i), (3, .any), (4, .bool)] [] [] cc2)))
 (.keep [(3, .any)] [] [] cc1)))))
def C148_1 : XC := (.seq (.ops (.m 21 3<|
.m 2 21<|
.nil))
 .ret)
def C148_2 : XC := (.seq (.seq (.ops (.m 8 4<|
.nil))
 (.cond (.tmp 8) .skip
 (.exit 0)))
 (.block 1 (.seq (.ops (.q 5 0<|
.nil))
 (.seq (.ops (.m 10 0<|
.k 11 (.tup [.i, .bool]) 244 [(.t 10)]<|
.m 9 11<|
.p 12 [9] (.extract 0 (.t 9))<|
.p 13 [9] (.extract 1 (.t 9))<|
.m 5 12<|
.m 4 13<|
.nil))
 (.ops (.m 14 3<|
.m 15 5<|
.p 16 [15] (.buildSlice 3 1 [(V.int .i64 (Int.ofNat 0))] [(0, 1, (.t 15))])<|
.op (some 17) .one [14, 16] (.append 3 1 8 (.t 14) (.t 16))<|
.m 18 0<|
.m 19 5<|
.b 20 .sub .none (.t 18) (.t 19)<|
.m 3 17<|
.m 0 20<|
.nil))))))
def A148 : XFn := ⟨22, [.i], [(.tmp 2)], (C148_0 C148_1 C148_2)⟩
def C149_0 : XC := (.block 0 (.seq (.ops (.m 13 2<|
.m 12 13<|
.nil))
 (.cond (.tmp 12) (.seq (.ops (.m 14 0<|
.k 15 (.tup []) 139 [(.t 14), (.con (V.int .u64 (Int.ofNat 3))), (.i 2)]<|
.nil))
 (.ops (.m 16 0<|
.m 17 1<|
.b 18 .quo .none (.t 17) (.i 16384)<|
.p 19 [18] (.conv (.toInt .u64) (.t 18))<|
.k 20 (.tup []) 139 [(.t 16), (.t 19), (.i 6)]<|
.nil)))
 (.seq (.ops (.m 22 1<|
.b 23 .lss .none (.t 22) (.i 128)<|
.m 21 23<|
.nil))
 (.cond (.tmp 21) (.ops (.m 24 0<|
.m 25 1<|
.p 26 [25] (.conv (.toInt .u64) (.t 25))<|
.k 27 (.tup []) 139 [(.t 24), (.t 26), (.i 8)]<|
.nil))
 (.seq (.ops (.m 6 0<|
.k 7 (.tup []) 139 [(.t 6), (.con (V.int .u64 (Int.ofNat 2))), (.i 2)]<|
.nil))
 (.ops (.m 8 0<|
.m 9 1<|
.p 10 [9] (.conv (.toInt .u64) (.t 9))<|
.k 11 (.tup []) 139 [(.t 8), (.t 10), (.i 14)]<|
.nil))))))))
def A149 : XFn := ⟨28, [.any, .i, .bool], [], C149_0⟩
def C151_0 (cc1 : XC) : XC := (.seq (.ops (.m 8 1<|
.u 9 8<|
.q 10 0<|
.nil))
 (.block 0 (.loop [(0, .any), (8, .any), (9, .i), (10, .i)] [] [] cc1)))
def C151_1 (cc2 : XC) (cc3 : XC) : XC := (.seq (.ops (.b 11 .lss .none (.t 10) (.t 9)<|
.nil))
 (.seq (.cond (.tmp 11) .skip
 (.exit 0))
 (.seq (.block 1 (.seq (.ops (.s 12 1 8 10<|
.l 13 .any 12<|
.m 5 13<|
.nil))
 (.seq (.ops (.m 14 5<|
.u 15 14<|
.q 16 0<|
.nil))
 (.block 2 (.loop [(0, .any), (8, .any), (9, .i), (10, .i), (14, .any), (15, .i), (16, .i)] [] [] cc3)))))
 (.keep [(0, .any), (8, .any), (9, .i), (10, .i)] [] [] cc2))))
def C151_2 : XC := (.ops (.b 25 .add .none (.t 10) (.i 1)<|
.m 10 25<|
.nil))
def C151_3 : XC := (.seq (.ops (.b 17 .lss .none (.t 16) (.t 15)<|
.nil))
 (.seq (.cond (.tmp 17) .skip
 (.exit 2))
 (.seq (.block 3 (.seq (.ops (.s 18 1 14 16<|
.l 19 (.int .u8) 18<|
.m 7 19<|
.nil))
 (.ops (.m 20 0<|
.m 21 7<|
.p 22 [21] (.conv (.toInt .u32) (.t 21))<|
.k 23 (.tup []) 234 [(.t 20), (.t 22), (.i 8)]<|
.nil))))
 (.ops (.b 24 .add .none (.t 16) (.i 1)<|
.m 16 24<|
.nil)))))
def A151 : XFn := ⟨26, [.any, .any], [], (C151_0 (C151_1 C151_2 C151_3))⟩
def G152_0 : List AOper := [⟨(some 16), .mov (.tmp 0), none⟩, ⟨(some 17), .nilck (.tmp 16), none⟩, ⟨(some 18), .faddr 0 (.tmp 17), none⟩, ⟨(some 19), .load none (.tmp 18), none⟩, ⟨(some 20), .mov (.tmp 4), none⟩, ⟨(some 21), .nilck (.tmp 20), none⟩, ⟨(some 22), .faddr 0 (.tmp 21), none⟩, ⟨(some 23), .load none (.tmp 22), none⟩, ⟨(some 24), .call 40 [(.tmp 23)], none⟩, ⟨(some 25), .buildSlice 34 1 [V.nils] [(0, 1, (.tmp 24))], none⟩, ⟨(some 26), .call 74 [(.tmp 19), (.tmp 25)], none⟩]
def H152_0 : List DP := [⟨0, [0]⟩, ⟨1, [16]⟩, ⟨3, [17]⟩, ⟨7, [18]⟩, ⟨0, [4]⟩, ⟨16, [20]⟩, ⟨48, [21]⟩, ⟨112, [22]⟩, ⟨240, [23]⟩, ⟨496, [24]⟩, ⟨1023, [19, 25]⟩]
def C152_0 : XC := (.seq (.ops (.op (some 5) (.agg [.any, .i]) [] (.build [V.nils, (V.int .i64 (Int.ofNat 0))] [])<|
.p 6 [5] (.box 89 (.t 5))<|
.m 7 0<|
.n 8 7<|
.f 9 1 8<|
.op (some 10) (.agg [.str, .any, .any, .any]) [9] (.load (some 4) (.t 9))<|
.op (some 11) (.agg [.any, .str, .any, .any, .any]) [6, 10] (.build [V.nilp, (V.str ⟨0, 0⟩), V.nils, V.nils, V.nils] [(0, 1, (.t 6)), (1, 4, (.t 10))])<|
.p 12 [11] (.box 91 (.t 11))<|
.m 4 12<|
.nil))
 (.seq (.ops (.m 13 1<|
.m 14 4<|
.op (some 15) (.tup []) [13, 14] (.callv (.t 13) [(.t 14)])<|
.nil))
 (.keep [(0, .ptr), (4, .ptr)] [] [] (.gdraw G152_0 H152_0 []))))
def A152 : XFn := ⟨27, [.ptr, .any], [], C152_0⟩
def C154_0 (cc1 : XC) (cc2 : XC) : XC := (.seq (.ops (.p 2 [0] (.box 30 (.t 0))<|
.c 4 V.nils<|
.nil))
 (.seq (.ops (.op (some 8) (.agg [.str, .any, .any, .any]) [2] (.load (some 4) (.t 2))<|
.m 9 1<|
.k 10 (.agg [.i, .any, .bool, .bool, .bool, .bool, .i, .i, .any, .any, .i, .bool, .i]) 239 [(.t 8), (.t 9)]<|
.p 5 [] (.alloc 145 [(V.int .i64 (Int.ofNat 0)), V.nils, (V.bool false), (V.bool false), (V.bool false), (V.bool false), (V.int .i64 (Int.ofNat 0)), (V.int .i64 (Int.ofNat 0)), V.nils, V.nils, (V.int .i64 (Int.ofNat 0)), (V.bool false), (V.int .i64 (Int.ofNat 0))])<|
.op none (.agg [.i, .any, .bool, .bool, .bool, .bool, .i, .i, .any, .any, .i, .bool, .i]) [5, 10] (.store 13 (.t 5) (.t 10))<|
.nil))
 (.seq (.ops (.f 11 9 5<|
.l 12 .any 11<|
.u 13 12<|
.m 6 13<|
.nil))
 (.seq (.seq (.ops (.f 14 0 5<|
.l 15 .i 14<|
.nil))
 (.block 0 (.seq (.ops (.b 17 .eql .none (.t 15) (.i 7)<|
.m 16 17<|
.nil))
 (.cond (.tmp 16) (.seq (.ops (.m 18 6<|
.k 19 .one 243 [(.i 0), (.t 18)]<|
.m 4 19<|
.nil))
 .ret)
 (.seq (.seq (.ops (.b 21 .eql .none (.t 15) (.i 8)<|
.m 20 21<|
.nil))
 (.cond (.tmp 20) .skip
 (.ops (.b 22 .eql .none (.t 15) (.i 9)<|
.m 20 22<|
.nil))))
 (.keep [(2, .ptr), (5, .ptr), (6, .i), (20, .bool)] [] [] cc2))))))
 (.keep [] [] [] cc1)))))
def C154_1 : XC := (.seq (.ops (.c 4 V.nils<|
.nil))
 .ret)
def C154_2 : XC := (.cond (.tmp 20) (.seq (.ops (.f 23 10 5<|
.l 24 .i 23<|
.p 25 [24] (.max (.t 24) [(.i 0)])<|
.m 26 6<|
.p 27 [25, 26] (.min (.t 25) [(.t 26)])<|
.m 7 27<|
.nil))
 (.seq (.ops (.p 28 [2, 5] (.mkfn 245 [] [(.t 2), (.t 5)])<|
.m 29 7<|
.k 30 .one 243 [(.i 0), (.t 29)]<|
.m 31 7<|
.m 32 6<|
.k 33 .one 243 [(.t 31), (.t 32)]<|
.k 34 .one 240 [(.t 28), (.t 30), (.t 33)]<|
.m 4 34<|
.nil))
 .ret))
 .skip)
def A154 : XFn := ⟨35, [(.agg [.str, .any, .any, .any]), .i], [(.tmp 4)], (C154_0 C154_1 C154_2)⟩
def C155_0 (cc1 : XC) (cc2 : XC) : XC := (.seq (.ops (.p 2 [0] (.box 30 (.t 0))<|
.c 4 V.nils<|
.nil))
 (.seq (.ops (.op (some 11) (.agg [.str, .any, .any, .any]) [2] (.load (some 4) (.t 2))<|
.m 12 1<|
.k 13 (.agg [.i, .any, .bool, .bool, .bool, .bool, .i, .i, .any, .any, .i, .bool, .i]) 239 [(.t 11), (.t 12)]<|
.pal 5 [] 145 [(V.int .i64 (Int.ofNat 0)), V.nils, (V.bool false), (V.bool false), (V.bool false), (V.bool false), (V.int .i64 (Int.ofNat 0)), (V.int .i64 (Int.ofNat 0)), V.nils, V.nils, (V.int .i64 (Int.ofNat 0)), (V.bool false), (V.int .i64 (Int.ofNat 0))]<|
.op none (.agg [.i, .any, .bool, .bool, .bool, .bool, .i, .i, .any, .any, .i, .bool, .i]) [5, 13] (.store 13 (.t 5) (.t 13))<|
.nil))
 (.seq (.seq (.ops (.f 14 0 5<|
.l 15 .i 14<|
.b 16 .neq .none (.t 15) (.i 7)<|
.m 17 16<|
.grp 17 true (.p 18 [5, 17] (.faddr 0 (.t 5))<|
.op (some 19) .i [18, 17] (.load none (.t 18))<|
.p 20 [19, 17] (.bin .neq .none (.t 19) (.i 8))<|
.nil) 21 [17, 20] (.t 17) (.t 20) (.con (V.bool false))<|
.m 22 21<|
.grp 22 true (.p 23 [5, 22] (.faddr 0 (.t 5))<|
.op (some 24) .i [23, 22] (.load none (.t 23))<|
.p 25 [24, 22] (.bin .neq .none (.t 24) (.i 9))<|
.nil) 26 [22, 25] (.t 22) (.t 25) (.con (V.bool false))<|
.nil))
 (.cond (.tmp 26) (.seq (.ops (.c 4 V.nils<|
.nil))
 .ret)
 .skip))
 (.seq (.ops (.c 6 V.nils<|
.nil))
 (.seq (.seq (.ops (.f 27 10 5<|
.l 28 .i 27<|
.p 29 [28] (.max (.t 28) [(.i 0)])<|
.f 30 9 5<|
.l 31 .any 30<|
.u 32 31<|
.k 33 .one 243 [(.t 29), (.t 32)]<|
.u 34 33<|
.q 35 0<|
.nil))
 (.block 0 (.loop [(6, .any), (33, .any), (34, .i), (35, .i)] [5] [(5, [.i, .any, .bool, .bool, .bool, .bool, .i, .i, .any, .any, .i, .bool, .i])] cc2)))
 (.keep [(6, .any)] [] [] cc1))))))
def C155_1 : XC := (.seq (.ops (.m 86 6<|
.m 4 86<|
.nil))
 .ret)
def C155_2 (cc3 : XC) : XC := (.seq (.ops (.b 36 .lss .none (.t 35) (.t 34)<|
.nil))
 (.seq (.cond (.tmp 36) .skip
 (.exit 0))
 (.seq (.block 1 (.seq (.ops (.s 37 1 33 35<|
.l 38 .i 37<|
.m 8 38<|
.nil))
 (.seq (.ops (.m 39 6<|
.u 40 39<|
.b 41 .sub .none (.t 40) (.i 1)<|
.m 9 41<|
.nil))
 (.seq (.seq (.ops (.f 42 9 5<|
.l 43 .any 42<|
.m 44 8<|
.s 45 11 43 44<|
.f 46 10 45<|
.l 47 .i 46<|
.m 10 47<|
.nil))
 (.seq (.ops (.f 48 0 5<|
.l 49 .i 48<|
.b 50 .neq .none (.t 49) (.i 9)<|
.m 51 50<|
.grp 51 true (.p 52 [10, 51] (.mov (.t 10))<|
.p 53 [52, 51] (.bin .gtr .none (.t 52) (.i 0))<|
.nil) 54 [51, 53] (.t 51) (.t 53) (.con (V.bool false))<|
.m 55 54<|
.grp 55 true (.p 56 [9, 55] (.mov (.t 9))<|
.p 57 [56, 55] (.bin .geq .none (.t 56) (.i 0))<|
.nil) 58 [55, 57] (.t 55) (.t 57) (.con (V.bool false))<|
.m 59 58<|
.grp 59 true (.p 60 [5, 59] (.faddr 9 (.t 5))<|
.p 61 [60, 59] (.load none (.t 60))<|
.p 62 [8, 59] (.mov (.t 8))<|
.p 63 [62, 59] (.bin .sub .none (.t 62) (.i 1))<|
.p 64 [61, 63, 59] (.iaddrS 11 (.t 61) (.t 63))<|
.p 65 [64, 59] (.faddr 10 (.t 64))<|
.op (some 66) .i [65, 59] (.load none (.t 65))<|
.p 67 [10, 59] (.mov (.t 10))<|
.p 68 [66, 67, 59] (.bin .eql .none (.t 66) (.t 67))<|
.nil) 69 [59, 68] (.t 59) (.t 68) (.con (V.bool false))<|
.nil))
 (.cond (.tmp 69) (.seq (.ops (.m 70 6<|
.m 71 9<|
.m 72 6<|
.m 73 9<|
.s 74 1 72 73<|
.l 75 .any 74<|
.m 76 8<|
.p 77 [76] (.buildSlice 3 1 [(V.int .i64 (Int.ofNat 0))] [(0, 1, (.t 76))])<|
.op (some 78) .one [75, 77] (.append 3 1 8 (.t 75) (.t 77))<|
.s 79 1 70 71<|
.w 1 79 78<|
.nil))
 (.exit 1))
 .skip)))
 (.ops (.m 80 6<|
.m 81 8<|
.p 82 [81] (.buildSlice 3 1 [(V.int .i64 (Int.ofNat 0))] [(0, 1, (.t 81))])<|
.p 83 [82] (.buildSlice 22 1 [V.nils] [(0, 1, (.t 82))])<|
.op (some 84) .one [80, 83] (.append 22 1 24 (.t 80) (.t 83))<|
.m 6 84<|
.nil))))))
 (.keep [(6, .any), (33, .any), (34, .i), (35, .i)] [5] [(5, [.i, .any, .bool, .bool, .bool, .bool, .i, .i, .any, .any, .i, .bool, .i])] cc3))))
def C155_3 : XC := (.ops (.b 85 .add .none (.t 35) (.i 1)<|
.m 35 85<|
.nil))
def A155 : XFn := ⟨87, [(.agg [.str, .any, .any, .any]), .i], [(.tmp 4)], (C155_0 C155_1 (C155_2 C155_3))⟩
def C156_0 : XC := (.seq (.ops (.c 4 (V.bool false)<|
.nil))
 (.seq (.ops (.m 5 0<|
.m 6 1<|
.k 7 .i 248 [(.t 5), (.t 6)]<|
.b 8 .geq .none (.t 7) (.i 0)<|
.m 4 8<|
.nil))
 .ret))
def A156 : XFn := ⟨9, [.any, .any], [(.tmp 4)], C156_0⟩
def C157_0 : XC := (.seq (.ops (.c 3 (V.bool false)<|
.nil))
 (.seq (.ops (.f 4 3 1<|
.l 5 .any 4<|
.m 6 0<|
.s 7 6 5 6<|
.op (some 8) (.agg [.i, .i, .any, .any, .i, .any]) [7] (.load (some 6) (.t 7))<|
.k 9 .bool 158 [(.t 8)]<|
.p 10 [9] (.un .not (.t 9))<|
.m 3 10<|
.nil))
 .ret))
def A157 : XFn := ⟨11, [.i, .any], [(.tmp 3)], C157_0⟩
def C158_0 : XC := (.seq (.ops (.p 1 [0] (.box 38 (.t 0))<|
.c 2 (V.bool false)<|
.nil))
 (.seq (.ops (.f 3 0 1<|
.l 4 .i 3<|
.b 5 .eql .none (.t 4) (.i 0)<|
.m 6 5<|
.grp 6 true (.op (some 7) (.agg [.i, .i, .any, .any, .i, .any]) [1, 6] (.load (some 6) (.t 1))<|
.op (some 8) .bool [7, 6] (.call 131 [(.t 7), (.i 0)])<|
.nil) 9 [6, 8] (.t 6) (.t 8) (.con (V.bool false))<|
.m 2 9<|
.nil))
 .ret))
def A158 : XFn := ⟨10, [(.agg [.i, .i, .any, .any, .i, .any])], [(.tmp 2)], C158_0⟩
def C159_0 : XC := (.seq (.ops (.c 4 (V.bool false)<|
.nil))
 (.seq (.ops (.m 5 0<|
.m 6 1<|
.k 7 .i 249 [(.t 5), (.t 6)]<|
.b 8 .geq .none (.t 7) (.i 0)<|
.m 4 8<|
.nil))
 .ret))
def A159 : XFn := ⟨9, [.any, .bool], [(.tmp 4)], C159_0⟩
def C160_0 (cc1 : XC) (cc2 : XC) : XC := (.seq (.ops (.p 5 [1] (.box 145 (.t 1))<|
.p 6 [2] (.box 38 (.t 2))<|
.nil))
 (.seq (.seq (.ops (.m 12 3<|
.u 13 12<|
.q 14 0<|
.nil))
 (.block 0 (.loop [(0, .any), (3, .any), (5, .ptr), (6, .ptr), (12, .any), (13, .i), (14, .i)] [] [] cc2)))
 (.keep [(0, .any), (3, .any), (5, .ptr), (6, .ptr)] [] [] cc1)))
def C160_1 (cc4 : XC) : XC := (.seq (.ops (.m 42 3<|
.u 43 42<|
.q 44 0<|
.nil))
 (.block 2 (.loop [(0, .any), (5, .ptr), (6, .ptr), (42, .any), (43, .i), (44, .i)] [] [] cc4)))
def C160_2 (cc3 : XC) : XC := (.seq (.ops (.b 15 .lss .none (.t 14) (.t 13)<|
.nil))
 (.seq (.cond (.tmp 15) .skip
 (.exit 0))
 (.seq (.block 1 (.seq (.ops (.s 16 1 12 14<|
.l 17 .i 16<|
.m 9 17<|
.nil))
 (.seq (.ops (.f 18 9 5<|
.l 19 .any 18<|
.m 20 9<|
.s 21 11 19 20<|
.f 22 2 21<|
.l 23 .bool 22<|
.m 24 23<|
.grp 24 false (.p 25 [5, 24] (.faddr 9 (.t 5))<|
.p 26 [25, 24] (.load none (.t 25))<|
.p 27 [9, 24] (.mov (.t 9))<|
.p 28 [26, 27, 24] (.iaddrS 11 (.t 26) (.t 27))<|
.p 29 [28, 24] (.faddr 3 (.t 28))<|
.op (some 30) .bool [29, 24] (.load none (.t 29))<|
.nil) 31 [24, 30] (.t 24) (.con (V.bool true)) (.t 30)<|
.nil))
 (.cond (.tmp 31) (.ops (.m 32 0<|
.f 33 3 6<|
.l 34 .any 33<|
.m 35 9<|
.s 36 6 34 35<|
.op (some 37) (.agg [.i, .i, .any, .any, .i, .any]) [36] (.load (some 6) (.t 36))<|
.k 38 .bool 158 [(.t 37)]<|
.p 39 [38] (.un .not (.t 38))<|
.k 40 (.tup []) 71 [(.t 32), (.t 39)]<|
.nil))
 .skip))))
 (.keep [(0, .any), (3, .any), (5, .ptr), (6, .ptr), (12, .any), (13, .i), (14, .i)] [] [] cc3))))
def C160_3 : XC := (.ops (.b 41 .add .none (.t 14) (.i 1)<|
.m 14 41<|
.nil))
def C160_4 (cc5 : XC) : XC := (.seq (.ops (.b 45 .lss .none (.t 44) (.t 43)<|
.nil))
 (.seq (.cond (.tmp 45) .skip
 (.exit 2))
 (.seq (.block 3 (.seq (.ops (.s 46 1 42 44<|
.l 47 .i 46<|
.m 11 47<|
.nil))
 (.seq (.ops (.f 48 3 6<|
.l 49 .any 48<|
.m 50 11<|
.s 51 6 49 50<|
.op (some 52) (.agg [.i, .i, .any, .any, .i, .any]) [51] (.load (some 6) (.t 51))<|
.k 53 .bool 158 [(.t 52)]<|
.p 54 [53] (.un .not (.t 53))<|
.nil))
 (.cond (.tmp 54) (.draw (.m 55 0<|
.f 56 9 5<|
.l 57 .any 56<|
.m 58 11<|
.s 59 11 57 58<|
.f 60 1 59<|
.l 61 .i 60<|
.f 62 3 6<|
.l 63 .any 62<|
.m 64 11<|
.s 65 6 63 64<|
.op (some 66) (.agg [.i, .i, .any, .any, .i, .any]) [65] (.load (some 6) (.t 65))<|
.k 67 (.tup []) 39 [(.t 55), (.t 61), (.t 66)]<|
.nil) [0, 0, 2, 0, 14, 30, 62, 0, 128, 0, 896, 1920, 4095])
 .skip))))
 (.keep [(0, .any), (5, .ptr), (6, .ptr), (42, .any), (43, .i), (44, .i)] [] [] cc5))))
def C160_5 : XC := (.ops (.b 68 .add .none (.t 44) (.i 1)<|
.m 44 68<|
.nil))
def A160 : XFn := ⟨69, [.any, (.agg [.i, .any, .bool, .bool, .bool, .bool, .i, .i, .any, .any, .i, .bool, .i]), (.agg [.i, .i, .any, .any, .i, .any]), .any], [], (C160_0 (C160_1 (C160_4 C160_5)) (C160_2 C160_3))⟩
def G161_0 : List AOper := [⟨(some 76), .faddr 9 (.tmp 6), none⟩, ⟨(some 77), .load none (.tmp 76), none⟩, ⟨(some 78), .load none (.tmp 16), none⟩, ⟨(some 79), .iaddrS 1 (.tmp 78) (.con (V.int .i64 (Int.ofNat 0))), none⟩, ⟨(some 80), .load none (.tmp 79), none⟩, ⟨(some 81), .iaddrS 11 (.tmp 77) (.tmp 80), none⟩, ⟨(some 82), .load (some 11) (.tmp 81), none⟩, ⟨(some 17), .alloc 200 [(V.str ⟨0, 0⟩), (V.int .i64 (Int.ofNat 0)), (V.bool false), (V.bool false), (V.int .i64 (Int.ofNat 0)), (V.int .i64 (Int.ofNat 0)), V.nils, V.nils, (V.int .i64 (Int.ofNat 0)), V.nils, (V.int .i64 (Int.ofNat 0))], none⟩, ⟨none, .store 11 (.tmp 17) (.tmp 82), none⟩]
def H161_0 : List DP := [⟨0, [6]⟩, ⟨1, [76]⟩, ⟨0, [16]⟩, ⟨4, [78]⟩, ⟨12, [79]⟩, ⟨31, [77, 80]⟩, ⟨63, [81]⟩, ⟨0, []⟩, ⟨255, [17, 82]⟩]
def G161_1 : List AOper := [⟨(some 107), .mov (.tmp 0), none⟩, ⟨(some 108), .nilck (.tmp 107), none⟩, ⟨(some 109), .faddr 0 (.tmp 108), none⟩, ⟨(some 110), .load none (.tmp 109), none⟩, ⟨(some 111), .faddr 1 (.tmp 19), none⟩, ⟨(some 112), .load none (.tmp 111), none⟩, ⟨(some 113), .buildSlice 34 1 [V.nils] [(0, 1, (.tmp 112))], none⟩, ⟨(some 114), .call 74 [(.tmp 110), (.tmp 113)], none⟩]
def H161_1 : List DP := [⟨0, [0]⟩, ⟨1, [107]⟩, ⟨3, [108]⟩, ⟨7, [109]⟩, ⟨0, [19]⟩, ⟨16, [111]⟩, ⟨48, [112]⟩, ⟨127, [110, 113]⟩]
def C161_0 (cc1 : XC) (cc2 : XC) : XC := (.seq (.ops (.p 6 [1] (.box 145 (.t 1))<|
.p 7 [2] (.box 38 (.t 2))<|
.nil))
 (.seq (.seq (.ops (.f 20 5 7<|
.l 21 .any 20<|
.u 22 21<|
.q 23 0<|
.nil))
 (.block 0 (.loop [(0, .ptr), (3, .any), (4, .any), (6, .ptr), (7, .ptr), (21, .any), (22, .i), (23, .i)] [] [] cc2)))
 (.keep [(0, .ptr), (3, .any), (4, .any), (6, .ptr), (7, .ptr)] [] [] cc1)))
def C161_1 (cc6 : XC) : XC := (.seq (.seq (.ops (.m 39 4<|
.u 40 39<|
.m 12 40<|
.nil))
 (.seq (.ops (.m 41 12<|
.b 42 .leq .none (.t 41) (.i 64)<|
.nil))
 (.cond (.tmp 42) (.ops (.m 43 0<|
.n 44 43<|
.f 45 0 44<|
.l 46 .any 45<|
.m 47 12<|
.b 48 .sub .none (.t 47) (.i 1)<|
.p 49 [48] (.conv (.toInt .u64) (.t 48))<|
.k 50 (.tup []) 139 [(.t 46), (.t 49), (.i 7)]<|
.nil))
 (.seq (.ops (.m 51 0<|
.k 52 (.tup []) 71 [(.t 51), (.con (V.bool true))]<|
.nil))
 (.ops (.m 53 0<|
.n 54 53<|
.f 55 0 54<|
.l 56 .any 55<|
.m 57 12<|
.k 58 (.tup []) 250 [(.t 56), (.t 57)]<|
.nil))))))
 (.keep [(0, .ptr), (3, .any), (4, .any), (6, .ptr), (7, .ptr)] [] [] cc6))
def C161_2 (cc3 : XC) (cc4 : XC) (cc5 : XC) : XC := (.seq (.ops (.b 24 .lss .none (.t 23) (.t 22)<|
.nil))
 (.seq (.cond (.tmp 24) .skip
 (.exit 0))
 (.seq (.block 1 (.seq (.ops (.s 25 2 21 23<|
.op (some 26) (.agg [.i, .any]) [25] (.load (some 2) (.t 25))<|
.pal 11 [] 70 [(V.int .i64 (Int.ofNat 0)), V.nils]<|
.op none (.agg [.i, .any]) [11, 26] (.store 2 (.t 11) (.t 26))<|
.nil))
 (.seq (.block 2 (.loop [(0, .ptr), (3, .any), (4, .any), (6, .ptr), (7, .ptr), (21, .any), (22, .i), (23, .i)] [11] [(11, [.i, .any])] cc5))
 (.keep [(0, .ptr), (3, .any), (4, .any), (6, .ptr), (7, .ptr), (21, .any), (22, .i), (23, .i)] [] [] cc4))))
 (.keep [(0, .ptr), (3, .any), (4, .any), (6, .ptr), (7, .ptr), (21, .any), (22, .i), (23, .i)] [] [] cc3))))
def C161_3 : XC := (.ops (.b 38 .add .none (.t 23) (.i 1)<|
.m 23 38<|
.nil))
def C161_4 : XC := (.ops (.m 35 4<|
.p 36 [] (.buildSlice 4 1 [(V.bool false)] [(0, 1, (.con (V.bool true)))])<|
.op (some 37) .one [35, 36] (.append 4 1 1 (.t 35) (.t 36))<|
.m 4 37<|
.nil))
def C161_5 : XC := (.seq (.seq (.ops (.m 27 4<|
.u 28 27<|
.f 29 0 11<|
.l 30 .i 29<|
.b 31 .lss .none (.t 28) (.t 30)<|
.nil))
 (.cond (.tmp 31) .skip
 (.exit 2)))
 (.block 3 (.ops (.m 32 4<|
.p 33 [] (.buildSlice 4 1 [(V.bool false)] [(0, 1, (.con (V.bool false)))])<|
.op (some 34) .one [32, 33] (.append 4 1 1 (.t 32) (.t 33))<|
.m 4 34<|
.nil))))
def C161_6 (cc7 : XC) (cc8 : XC) : XC := (.seq (.seq (.ops (.m 59 4<|
.u 60 59<|
.q 61 0<|
.nil))
 (.block 4 (.loop [(0, .ptr), (3, .any), (4, .any), (6, .ptr), (7, .ptr), (59, .any), (60, .i), (61, .i)] [] [] cc8)))
 (.keep [(0, .ptr), (3, .any), (4, .any), (6, .ptr), (7, .ptr)] [] [] cc7))
def C161_7 (cc9 : XC) (cc10 : XC) : XC := (.seq (.seq (.ops (.m 69 3<|
.u 70 69<|
.q 71 0<|
.nil))
 (.block 6 (.loop [(0, .ptr), (4, .any), (6, .ptr), (7, .ptr), (69, .any), (70, .i), (71, .i)] [] [] cc10)))
 (.keep [(0, .ptr), (7, .ptr)] [] [] cc9))
def C161_8 : XC := (.seq (.ops (.b 62 .lss .none (.t 61) (.t 60)<|
.nil))
 (.seq (.cond (.tmp 62) .skip
 (.exit 4))
 (.seq (.block 5 (.seq (.ops (.s 63 1 59 61<|
.l 64 .bool 63<|
.m 14 64<|
.nil))
 (.ops (.m 65 0<|
.m 66 14<|
.k 67 (.tup []) 71 [(.t 65), (.t 66)]<|
.nil))))
 (.ops (.b 68 .add .none (.t 61) (.i 1)<|
.m 61 68<|
.nil)))))
def C161_9 (cc12 : XC) : XC := (.seq (.ops (.f 100 5 7<|
.l 101 .any 100<|
.u 102 101<|
.q 103 0<|
.nil))
 (.block 9 (.loop [(0, .ptr), (101, .any), (102, .i), (103, .i)] [] [] cc12)))
def C161_10 (cc11 : XC) : XC := (.seq (.ops (.b 72 .lss .none (.t 71) (.t 70)<|
.nil))
 (.seq (.cond (.tmp 72) .skip
 (.exit 6))
 (.seq (.block 7 (.seq (.ops (.m 73 71<|
.s 74 1 69 71<|
.l 75 .any 74<|
.p 16 [] (.alloc 22 [V.nils])<|
.m 15 73<|
.w 1 16 75<|
.nil))
 (.seq (.keep [(0, .ptr), (4, .any), (6, .ptr), (7, .ptr), (15, .i), (16, .ptr), (69, .any), (70, .i), (71, .i)] [] [] (.gdraw G161_0 H161_0 [(0, .ptr), (4, .any), (6, .ptr), (7, .ptr), (15, .i), (16, .ptr), (17, .ptr), (69, .any), (70, .i), (71, .i)]))
 (.block 8 (.seq (.ops (.m 87 4<|
.m 88 15<|
.s 89 1 87 88<|
.l 90 .bool 89<|
.p 91 [90] (.un .not (.t 90))<|
.m 86 91<|
.nil))
 (.cond (.tmp 86) .skip
 (.seq (.ops (.f 93 10 17<|
.l 94 .i 93<|
.b 95 .gtr .none (.t 94) (.i 0)<|
.m 92 95<|
.nil))
 (.cond (.tmp 92) (.ops (.m 96 0<|
.p 97 [6, 7, 16] (.mkfn 251 [] [(.t 6), (.t 7), (.t 16)])<|
.k 98 (.tup []) 152 [(.t 96), (.t 97)]<|
.nil))
 (.ops (.m 83 0<|
.p 84 [17, 7, 16] (.mkfn 252 [] [(.t 17), (.t 7), (.t 16)])<|
.k 85 (.tup []) 152 [(.t 83), (.t 84)]<|
.nil))))))))))
 (.keep [(0, .ptr), (4, .any), (6, .ptr), (7, .ptr), (69, .any), (70, .i), (71, .i)] [] [] cc11))))
def C161_11 : XC := (.ops (.b 99 .add .none (.t 71) (.i 1)<|
.m 71 99<|
.nil))
def C161_12 : XC := (.seq (.ops (.b 104 .lss .none (.t 103) (.t 102)<|
.nil))
 (.seq (.cond (.tmp 104) .skip
 (.exit 9))
 (.seq (.block 10 (.seq (.ops (.s 105 2 101 103<|
.op (some 106) (.agg [.i, .any]) [105] (.load (some 2) (.t 105))<|
.p 19 [] (.alloc 70 [(V.int .i64 (Int.ofNat 0)), V.nils])<|
.op none (.agg [.i, .any]) [19, 106] (.store 2 (.t 19) (.t 106))<|
.nil))
 (.keep [(0, .ptr), (19, .ptr), (101, .any), (102, .i), (103, .i)] [] [] (.gdraw G161_1 H161_1 [(0, .ptr), (101, .any), (102, .i), (103, .i)]))))
 (.ops (.b 115 .add .none (.t 103) (.i 1)<|
.m 103 115<|
.nil)))))
def A161 : XFn := ⟨116, [.ptr, (.agg [.i, .any, .bool, .bool, .bool, .bool, .i, .i, .any, .any, .i, .bool, .i]), (.agg [.i, .i, .any, .any, .i, .any]), .any, .any], [], (C161_0 (C161_1 (C161_6 (C161_7 (C161_9 C161_12) (C161_10 C161_11)) C161_8)) (C161_2 C161_3 C161_4 C161_5))⟩
def C162_0 : XC := (.seq (.ops (.q 2 0<|
.nil))
 (.seq (.seq (.ops (.m 3 0<|
.b 4 .eql .ptr (.t 3) (.con V.nilp)<|
.nil))
 (.cond (.tmp 4) (.seq (.ops (.q 2 0<|
.nil))
 .ret)
 .skip))
 (.seq (.ops (.m 5 0<|
.n 6 5<|
.f 7 1 6<|
.l 8 .i 7<|
.m 2 8<|
.nil))
 .ret)))
def A162 : XFn := ⟨9, [.any], [(.tmp 2)], C162_0⟩
def Fin163 (E : List (Nat × Blk)) : St → Ans := fun s => resK E s [] fun l => some (oneV l, s.σ)
def C163_0 (cc1 : XC) : XC := (.seq (.ops (.m 7 2<|
.p 8 [7] (.min (.t 7) [(.i 32)])<|
.p 9 [8] (.max (.i 0) [(.t 8)])<|
.m 2 9<|
.nil))
 (.seq (.ops (.m 10 2<|
.b 11 .sub .none (.t 10) (.i 1)<|
.m 6 11<|
.nil))
 (.block 0 (.loop [(0, .ptr), (1, (.int .u32)), (6, .i)] [] [] cc1))))
def T163_0 (E : List (Nat × Blk)) (D : Den) (W : DrawFn) (K1 : Nat → Nat → Int → Int → H → Ans) (v0b v0o : Nat) (v1 v2 : Int) (σ : H) : Ans :=
 K1 v0b v0o v1 (subF .i64 (maxF (Int.ofNat 0) (minF v2 (Int.ofNat 32))) (Int.ofNat 1)) σ
def C163_1 : XC := (.seq (.seq (.ops (.m 12 6<|
.b 13 .geq .none (.t 12) (.i 0)<|
.nil))
 (.cond (.tmp 13) .skip
 (.exit 0)))
 (.seq (.block 1 (.ops (.m 16 0<|
.m 17 0<|
.n 18 17<|
.f 19 0 18<|
.l 20 .any 19<|
.m 21 1<|
.m 22 6<|
.p 23 [22] (.conv (.toInt .u64) (.t 22))<|
.b 24 .shr .none (.t 21) (.t 23)<|
.b 25 .and .none (.t 24) (.con (V.int .u32 (Int.ofNat 1)))<|
.p 26 [25] (.conv (.toInt .u8) (.t 25))<|
.p 27 [26] (.buildSlice 5 1 [(V.int .u8 (Int.ofNat 0))] [(0, 1, (.t 26))])<|
.op (some 28) .one [20, 27] (.append 5 1 1 (.t 20) (.t 27))<|
.n 29 16<|
.f 30 0 29<|
.w 1 30 28<|
.nil)))
 (.ops (.m 14 6<|
.b 15 .sub .none (.t 14) (.i 1)<|
.m 6 15<|
.nil))))
def T163_1 (E : List (Nat × Blk)) (D : Den) (W : DrawFn) (R1 : Nat → Nat → Int → Int → H → Ans) (v0b v0o : Nat) (v1 v6 : Int) (σ : H) : Ans :=
 condK (leF (Int.ofNat 0) v6) (
 ldK E σ v0b v0o fun u1 =>
 nnK (wrapF .u64 v6) fun n2 =>
 let s3 := newB σ (.cells [(V.int .u8 (wrapF .u8 (andF .u32 (shrF .u32 v1 n2) (Int.ofNat 1))))]);
 appK E 1 1 u1 (V.sl (H.next σ) 0 1 (.ex 1)) s3 fun u4 s5 =>
 rtOne u4 (
 stK 1 v0b v0o u4 s5 fun s6 =>
 R1 v0b v0o v1 (subF .i64 v6 (Int.ofNat 1)) s6)) (
 some ((V.tup []), σ))
def S163_0 (v0b v0o : Nat) (v1 v2 : Int) (σ : H) : St := ⟨[(0, (V.ptr v0b v0o)), (1, (V.int .u32 v1)), (2, (V.int .i64 v2))], [], [], σ⟩
def S163_1 (v0b v0o : Nat) (v1 v6 : Int) (σ : H) : St := ⟨[(0, (V.ptr v0b v0o)), (1, (V.int .u32 v1)), (6, (V.int .i64 v6))], [], [], σ⟩
theorem P163_0 (cc1 : XC) (v0b v0o : Nat) (v1 v2 : Int) (σ : H) :
 denC E D W N (C163_0 cc1) (S163_0 v0b v0o v1 v2 σ) (Fin163 E) (fun _ _ => none) (Fin163 E) =
 T163_0 E D W (fun v0b v0o v1 v6 σ => iterK (fun rec s' => denC E D W N cc1 s' (fun s'' => keepS [(0, .ptr), (1, (.int .u32)), (6, .i)] [] [] s'' rec) (blkK 0 (Fin163 E) (fun _ _ => none)) (Fin163 E)) N (S163_1 v0b v0o v1 v6 σ)) v0b v0o v1 v2 σ := by kernel_rfl
theorem P163_1 (li1 : St → Ans) (v0b v0o : Nat) (v1 v6 : Int) (σ : H) :
 denC E D W N (C163_1 ) (S163_1 v0b v0o v1 v6 σ) (fun s'' => keepS [(0, .ptr), (1, (.int .u32)), (6, .i)] [] [] s'' li1) (blkK 0 (Fin163 E) (fun _ _ => none)) (Fin163 E) =
 T163_1 E D W (fun v0b v0o v1 v6 σ => li1 (S163_1 v0b v0o v1 v6 σ)) v0b v0o v1 v6 σ := by kernel_rfl
def L163_1 (E : List (Nat × Blk)) (D : Den) (W : DrawFn) (N : Nat) (n : Nat) : Nat → Nat → Int → Int → H → Ans :=
 Nat.rec (fun _ _ _ _ _ => none) (fun _ ih => T163_1 E D W ih) n
theorem LE163_1 (n : Nat) : ∀ (v0b v0o : Nat) (v1 v6 : Int) (σ : H),
 iterK (fun rec s' => denC E D W N C163_1 s' (fun s'' => keepS [(0, .ptr), (1, (.int .u32)), (6, .i)] [] [] s'' rec) (blkK 0 (Fin163 E) (fun _ _ => none)) (Fin163 E)) n (S163_1 v0b v0o v1 v6 σ) = L163_1 E D W N n v0b v0o v1 v6 σ := by
 induction n with
 | zero => intro v0b v0o v1 v6 σ; rfl
 | succ n ihn =>
  intro v0b v0o v1 v6 σ
  rw [iterK_succ]
  refine (P163_1 E D W N  (iterK (fun rec s' => denC E D W N C163_1 s' (fun s'' => keepS [(0, .ptr), (1, (.int .u32)), (6, .i)] [] [] s'' rec) (blkK 0 (Fin163 E) (fun _ _ => none)) (Fin163 E)) n) v0b v0o v1 v6 σ).trans ?_
  simp only [ihn]
  kernel_rfl
def J163_0 : Nat → Nat → Int → Int → H → Ans := T163_0 E D W (L163_1 E D W N N)
theorem JE163_0 (v0b v0o : Nat) (v1 v2 : Int) (σ : H) :
 denC E D W N (C163_0 C163_1) (S163_0 v0b v0o v1 v2 σ) (Fin163 E) (fun _ _ => none) (Fin163 E) = J163_0 E D W N v0b v0o v1 v2 σ := by
 refine (P163_0 E D W N C163_1  v0b v0o v1 v2 σ).trans ?_
 simp only [LE163_1]
 kernel_rfl
def F163 (args : List V) (σ : H) : Ans :=
 rtCons args fun x1 l2 =>
 rtPtr x1 fun b3 o4 =>
 rtCons l2 fun x5 l6 =>
 rtInt .u32 x5 fun x7 =>
 rtCons l6 fun x8 l9 =>
 rtInt .i64 x8 fun x10 =>
 rtNil l9 (
 J163_0 E D W N b3 o4 x7 x10 σ)
def A163 : XFn := ⟨31, [.ptr, (.int .u32), .i], [], (C163_0 C163_1)⟩
theorem FE163 (args : List V) (σ : H) : runX E D W N A163 args σ = F163 E D W N args σ := by
 unfold F163
 simp only [← JE163_0]
 kernel_rfl
theorem AO163 : A163.body.ok = true := by kernel_rfl
def Fin181 (E : List (Nat × Blk)) : St → Ans := fun s => resK E s [] fun l => some (oneV l, s.σ)
def C181_0 : XC := (.seq (.ops (.m 4 0<|
.k 5 .i 114 [(.t 4)]<|
.b 6 .eql .none (.t 5) (.i 0)<|
.nil))
 (.cond (.tmp 6) (.ops (.m 7 0<|
.m 8 1<|
.n 9 7<|
.f 10 1 9<|
.w 1 10 8<|
.nil))
 .skip))
def T181_0 (E : List (Nat × Blk)) (D : Den) (W : DrawFn) (v0b v0o : Nat) (v1 : Int) (σ : H) : Ans :=
 callK (D 114 [(V.ptr v0b v0o)] σ) fun u1 s2 =>
 rtInt .i64 u1 fun x3 =>
 condK (eqF x3 (Int.ofNat 0)) (
 stK 1 v0b (Nat.add v0o 1) (V.int .i64 v1) s2 fun s4 =>
 some ((V.tup []), s4)) (
 some ((V.tup []), s2))
def S181_0 (v0b v0o : Nat) (v1 : Int) (σ : H) : St := ⟨[(0, (V.ptr v0b v0o)), (1, (V.int .i64 v1))], [], [], σ⟩
theorem P181_0 (v0b v0o : Nat) (v1 : Int) (σ : H) :
 denC E D W N (C181_0 ) (S181_0 v0b v0o v1 σ) (Fin181 E) (fun _ _ => none) (Fin181 E) =
 T181_0 E D W  v0b v0o v1 σ := by kernel_rfl
def J181_0 (E : List (Nat × Blk)) (D : Den) (W : DrawFn) (N : Nat) : Nat → Nat → Int → H → Ans := T181_0 E D W
theorem JE181_0 (v0b v0o : Nat) (v1 : Int) (σ : H) :
 denC E D W N C181_0 (S181_0 v0b v0o v1 σ) (Fin181 E) (fun _ _ => none) (Fin181 E) = J181_0 E D W N v0b v0o v1 σ := by
 refine (P181_0 E D W N   v0b v0o v1 σ).trans ?_
 kernel_rfl
def F181 (args : List V) (σ : H) : Ans :=
 rtCons args fun x1 l2 =>
 rtPtr x1 fun b3 o4 =>
 rtCons l2 fun x5 l6 =>
 rtInt .i64 x5 fun x7 =>
 rtNil l6 (
 J181_0 E D W N b3 o4 x7 σ)
def A181 : XFn := ⟨11, [.ptr, .i], [], C181_0⟩
theorem FE181 (args : List V) (σ : H) : runX E D W N A181 args σ = F181 E D W N args σ := by
 unfold F181
 simp only [← JE181_0]
 kernel_rfl
theorem AO181 : A181.body.ok = true := by kernel_rfl
def Fin182 (E : List (Nat × Blk)) : St → Ans := fun s => resK E s [(.tmp 2)] fun l => some (oneV l, s.σ)
def C182_0 : XC := (.seq (.ops (.q 2 0<|
.nil))
 (.seq (.ops (.m 3 0<|
.p 4 [3] (.min (.t 3) [(.i 64)])<|
.p 5 [4] (.max (.i 0) [(.t 4)])<|
.m 2 5<|
.nil))
 .ret))
def T182_0 (E : List (Nat × Blk)) (D : Den) (W : DrawFn) (v0 : Int) (σ : H) : Ans :=
 some ((V.int .i64 (maxF (Int.ofNat 0) (minF v0 (Int.ofNat 64)))), σ)
def S182_0 (v0 : Int) (σ : H) : St := ⟨[(0, (V.int .i64 v0))], [], [], σ⟩
theorem P182_0 (v0 : Int) (σ : H) :
 denC E D W N (C182_0 ) (S182_0 v0 σ) (Fin182 E) (fun _ _ => none) (Fin182 E) =
 T182_0 E D W  v0 σ := by kernel_rfl
def J182_0 (E : List (Nat × Blk)) (D : Den) (W : DrawFn) (N : Nat) : Int → H → Ans := T182_0 E D W
theorem JE182_0 (v0 : Int) (σ : H) :
 denC E D W N C182_0 (S182_0 v0 σ) (Fin182 E) (fun _ _ => none) (Fin182 E) = J182_0 E D W N v0 σ := by
 refine (P182_0 E D W N   v0 σ).trans ?_
 kernel_rfl
def F182 (args : List V) (σ : H) : Ans :=
 rtCons args fun x1 l2 =>
 rtInt .i64 x1 fun x3 =>
 rtNil l2 (
 J182_0 E D W N x3 σ)
def A182 : XFn := ⟨6, [.i], [(.tmp 2)], C182_0⟩
theorem FE182 (args : List V) (σ : H) : runX E D W N A182 args σ = F182 E D W N args σ := by
 unfold F182
 simp only [← JE182_0]
 kernel_rfl
theorem AO182 : A182.body.ok = true := by kernel_rfl
def Fin183 (E : List (Nat × Blk)) : St → Ans := fun s => resK E s [(.tmp 4)] fun l => some (oneV l, s.σ)
def C183_0 : XC := (.seq (.ops (.c 4 (V.int .u32 (Int.ofNat 0))<|
.nil))
 (.seq (.ops (.m 5 1<|
.k 6 .i 260 [(.t 5)]<|
.m 1 6<|
.nil))
 (.seq (.seq (.ops (.m 7 0<|
.m 8 1<|
.k 9 .bool 261 [(.t 7), (.t 8)]<|
.p 10 [9] (.un .not (.t 9))<|
.nil))
 (.cond (.tmp 10) (.seq (.ops (.c 4 (V.int .u32 (Int.ofNat 0))<|
.nil))
 .ret)
 .skip))
 (.seq (.ops (.m 11 0<|
.n 12 11<|
.f 13 0 12<|
.m 14 1<|
.k 15 (.int .u32) 204 [(.t 13), (.t 14)]<|
.m 4 15<|
.nil))
 .ret))))
def T183_0 (E : List (Nat × Blk)) (D : Den) (W : DrawFn) (v0b v0o : Nat) (v1 : Int) (σ : H) : Ans :=
 callK (D 260 [(V.int .i64 v1)] σ) fun u1 s2 =>
 rtInt .i64 u1 fun x3 =>
 callK (D 261 [(V.ptr v0b v0o), (V.int .i64 x3)] s2) fun u4 s5 =>
 rtBool u4 fun x6 =>
 condK (not x6) (
 some ((V.int .u32 (Int.ofNat 0)), s5)) (
 callK (D 204 [(V.ptr v0b v0o), (V.int .i64 x3)] s5) fun u7 s8 =>
 rtInt .u32 u7 fun x9 =>
 some ((V.int .u32 x9), s8))
def S183_0 (v0b v0o : Nat) (v1 : Int) (σ : H) : St := ⟨[(0, (V.ptr v0b v0o)), (1, (V.int .i64 v1))], [], [], σ⟩
theorem P183_0 (v0b v0o : Nat) (v1 : Int) (σ : H) :
 denC E D W N (C183_0 ) (S183_0 v0b v0o v1 σ) (Fin183 E) (fun _ _ => none) (Fin183 E) =
 T183_0 E D W  v0b v0o v1 σ := by kernel_rfl
def J183_0 (E : List (Nat × Blk)) (D : Den) (W : DrawFn) (N : Nat) : Nat → Nat → Int → H → Ans := T183_0 E D W
theorem JE183_0 (v0b v0o : Nat) (v1 : Int) (σ : H) :
 denC E D W N C183_0 (S183_0 v0b v0o v1 σ) (Fin183 E) (fun _ _ => none) (Fin183 E) = J183_0 E D W N v0b v0o v1 σ := by
 refine (P183_0 E D W N   v0b v0o v1 σ).trans ?_
 kernel_rfl
def F183 (args : List V) (σ : H) : Ans :=
 rtCons args fun x1 l2 =>
 rtPtr x1 fun b3 o4 =>
 rtCons l2 fun x5 l6 =>
 rtInt .i64 x5 fun x7 =>
 rtNil l6 (
 J183_0 E D W N b3 o4 x7 σ)
def A183 : XFn := ⟨16, [.ptr, .i], [(.tmp 4)], C183_0⟩
theorem FE183 (args : List V) (σ : H) : runX E D W N A183 args σ = F183 E D W N args σ := by
 unfold F183
 simp only [← JE183_0]
 kernel_rfl
theorem AO183 : A183.body.ok = true := by kernel_rfl
def Fin184 (E : List (Nat × Blk)) : St → Ans := fun s => resK E s [(.tmp 2)] fun l => some (oneV l, s.σ)
def C184_0 : XC := (.seq (.ops (.c 2 (V.bool false)<|
.nil))
 (.seq (.ops (.m 3 0<|
.n 4 3<|
.f 5 0 4<|
.l 6 .any 5<|
.k 7 (.int .u64) 103 [(.t 6), (.i 1)]<|
.b 8 .eql .none (.t 7) (.con (V.int .u64 (Int.ofNat 1)))<|
.m 2 8<|
.nil))
 .ret))
def T184_0 (E : List (Nat × Blk)) (D : Den) (W : DrawFn) (v0b v0o : Nat) (σ : H) : Ans :=
 ldK E σ v0b v0o fun u1 =>
 callK (D 103 [u1, (V.int .i64 (Int.ofNat 1))] σ) fun u2 s3 =>
 rtInt .u64 u2 fun x4 =>
 some ((V.bool (eqF x4 (Int.ofNat 1))), s3)
def S184_0 (v0b v0o : Nat) (σ : H) : St := ⟨[(0, (V.ptr v0b v0o))], [], [], σ⟩
theorem P184_0 (v0b v0o : Nat) (σ : H) :
 denC E D W N (C184_0 ) (S184_0 v0b v0o σ) (Fin184 E) (fun _ _ => none) (Fin184 E) =
 T184_0 E D W  v0b v0o σ := by kernel_rfl
def J184_0 (E : List (Nat × Blk)) (D : Den) (W : DrawFn) (N : Nat) : Nat → Nat → H → Ans := T184_0 E D W
theorem JE184_0 (v0b v0o : Nat) (σ : H) :
 denC E D W N C184_0 (S184_0 v0b v0o σ) (Fin184 E) (fun _ _ => none) (Fin184 E) = J184_0 E D W N v0b v0o σ := by
 refine (P184_0 E D W N   v0b v0o σ).trans ?_
 kernel_rfl
def F184 (args : List V) (σ : H) : Ans :=
 rtCons args fun x1 l2 =>
 rtPtr x1 fun b3 o4 =>
 rtNil l2 (
 J184_0 E D W N b3 o4 σ)
def A184 : XFn := ⟨9, [.ptr], [(.tmp 2)], C184_0⟩
theorem FE184 (args : List V) (σ : H) : runX E D W N A184 args σ = F184 E D W N args σ := by
 unfold F184
 simp only [← JE184_0]
 kernel_rfl
theorem AO184 : A184.body.ok = true := by kernel_rfl
def C185_0 : XC := (.seq (.ops (.p 2 [0] (.box 99 (.t 0))<|
.p 3 [1] (.box 26 (.t 1))<|
.c 4 (V.int .u64 (Int.ofNat 0))<|
.nil))
 (.seq (.ops (.p 5 [] (.alloc 26 [(V.int .u64 (Int.ofNat 0))])<|
.nil))
 (.seq (.ops (.l 7 .any 2<|
.p 8 [2, 3, 5] (.mkfn 263 [] [(.t 2), (.t 3), (.t 5)])<|
.k 9 .bool 262 [(.t 7), (.t 8)]<|
.m 6 9<|
.nil))
 (.seq (.seq (.ops (.m 10 6<|
.p 11 [10] (.un .not (.t 10))<|
.nil))
 (.cond (.tmp 11) (.seq (.ops (.c 4 (V.int .u64 (Int.ofNat 0))<|
.nil))
 .ret)
 .skip))
 (.seq (.ops (.l 12 (.int .u64) 5<|
.m 4 12<|
.nil))
 .ret)))))
def A185 : XFn := ⟨13, [.any, (.int .u64)], [(.tmp 4)], C185_0⟩
def Fin189 (E : List (Nat × Blk)) : St → Ans := fun s => resK E s [(.tmp 6)] fun l => some (oneV l, s.σ)
def C189_0 (cc1 : XC) : XC := (.seq (.ops (.q 6 0<|
.nil))
 (.seq (.ops (.q 7 0<|
.nil))
 (.seq (.ops (.c 8 (V.bool false)<|
.nil))
 (.block 0 (.loop [(0, .any), (1, .i), (2, .any), (7, .i), (8, .bool)] [] [] cc1)))))
def T189_0 (E : List (Nat × Blk)) (D : Den) (W : DrawFn) (K1 : V → Int → V → Int → Bool → H → Ans) (v0 : V) (v1 : Int) (v2 : V) (σ : H) : Ans :=
 K1 v0 v1 v2 (Int.ofNat 0) false σ
def C189_1 (cc2 : XC) : XC := (.block 1 (.seq (.ops (.m 12 0<|
.m 13 8<|
.k 14 (.tup [.i, .bool]) 268 [(.t 12), (.t 13)]<|
.m 11 14<|
.p 15 [11] (.extract 0 (.t 11))<|
.p 16 [11] (.extract 1 (.t 11))<|
.m 9 15<|
.m 10 16<|
.nil))
 (.seq (.seq (.ops (.m 17 9<|
.m 18 1<|
.p 19 [18] (.max (.t 18) [(.i 0)])<|
.m 20 7<|
.b 21 .sub .none (.t 19) (.t 20)<|
.b 22 .gtr .none (.t 17) (.t 21)<|
.nil))
 (.cond (.tmp 22) (.ops (.m 23 0<|
.k 24 (.tup []) 181 [(.t 23), (.i 5)]<|
.nil))
 .skip))
 (.keep [(0, .any), (1, .i), (2, .any), (7, .i), (9, .i), (10, .bool)] [] [] cc2))))
def T189_1 (E : List (Nat × Blk)) (D : Den) (W : DrawFn) (K2 : V → Int → V → Int → Int → Bool → H → Ans) (v0 : V) (v1 : Int) (v2 : V) (v7 : Int) (v8 : Bool) (σ : H) : Ans :=
 callK (D 268 [v0, (V.bool v8)] σ) fun u1 s2 =>
 rtTup u1 fun l3 =>
 rtCons l3 fun x4 l5 =>
 rtInt .i64 x4 fun x6 =>
 rtCons l5 fun x7 l8 =>
 rtBool x7 fun x9 =>
 rtNil l8 (
 condK (ltF (subF .i64 (maxF v1 (Int.ofNat 0)) v7) x6) (
 callK (D 181 [v0, (V.int .i64 (Int.ofNat 5))] s2) fun u10 s11 =>
 rtTup u10 fun l12 =>
 rtNil l12 (
 K2 v0 v1 v2 v7 x6 x9 s11)) (
 K2 v0 v1 v2 v7 x6 x9 s2))
def C189_2 : XC := (.seq (.seq (.ops (.m 25 0<|
.k 26 .i 114 [(.t 25)]<|
.b 27 .neq .none (.t 26) (.i 0)<|
.m 28 27<|
.grp 28 false (.p 29 [2, 28] (.mov (.t 2))<|
.p 30 [9, 28] (.mov (.t 9))<|
.op (some 31) .bool [29, 30, 28] (.callv (.t 29) [(.t 30)])<|
.p 32 [31, 28] (.un .not (.t 31))<|
.nil) 33 [28, 32] (.t 28) (.con (V.bool true)) (.t 32)<|
.m 34 33<|
.grp 34 false (.p 35 [0, 34] (.mov (.t 0))<|
.op (some 36) .i [35, 34] (.call 114 [(.t 35)])<|
.p 37 [36, 34] (.bin .neq .none (.t 36) (.i 0))<|
.nil) 38 [34, 37] (.t 34) (.con (V.bool true)) (.t 37)<|
.nil))
 (.cond (.tmp 38) (.seq (.ops (.q 6 0<|
.nil))
 .ret)
 .skip))
 (.seq (.ops (.m 39 7<|
.m 40 9<|
.b 41 .add .none (.t 39) (.t 40)<|
.m 7 41<|
.nil))
 (.seq (.seq (.ops (.m 42 10<|
.p 43 [42] (.un .not (.t 42))<|
.nil))
 (.cond (.tmp 43) (.seq (.ops (.m 44 7<|
.m 6 44<|
.nil))
 .ret)
 .skip))
 (.ops (.m 45 9<|
.b 46 .lss .none (.t 45) (.i 65536)<|
.m 8 46<|
.nil)))))
def T189_2 (E : List (Nat × Blk)) (D : Den) (W : DrawFn) (R1 : V → Int → V → Int → Bool → H → Ans) (v0 : V) (v1 : Int) (v2 : V) (v7 v9 : Int) (v10 : Bool) (σ : H) : Ans :=
 callK (D 114 [v0] σ) fun u1 s2 =>
 rtInt .i64 u1 fun x3 =>
 joinB (fun c4 s5 =>
 joinB (fun c7 s8 =>
 condK c7 (
 some ((V.int .i64 (Int.ofNat 0)), s8)) (
 condK (not v10) (
 some ((V.int .i64 (addF .i64 v7 v9)), s8)) (
 R1 v0 v1 v2 (addF .i64 v7 v9) (ltF v9 (Int.ofNat 65536)) s8))) fun k9 =>
 condK c4 (
 k9 true s5) (
 callK (D 114 [v0] s5) fun u10 s11 =>
 rtInt .i64 u10 fun x12 =>
 k9 (not (eqF x12 (Int.ofNat 0))) s11)) fun k6 =>
 condK (not (eqF x3 (Int.ofNat 0))) (
 k6 true s2) (
 callvK D v2 [(V.int .i64 v9)] s2 fun u13 s14 =>
 rtBool u13 fun x15 =>
 k6 (not x15) s14)
def S189_0 (v0 : V) (v1 : Int) (v2 : V) (σ : H) : St := ⟨[(0, v0), (1, (V.int .i64 v1)), (2, v2)], [], [], σ⟩
def S189_1 (v0 : V) (v1 : Int) (v2 : V) (v7 : Int) (v8 : Bool) (σ : H) : St := ⟨[(0, v0), (1, (V.int .i64 v1)), (2, v2), (7, (V.int .i64 v7)), (8, (V.bool v8))], [], [], σ⟩
def S189_2 (v0 : V) (v1 : Int) (v2 : V) (v7 v9 : Int) (v10 : Bool) (σ : H) : St := ⟨[(0, v0), (1, (V.int .i64 v1)), (2, v2), (7, (V.int .i64 v7)), (9, (V.int .i64 v9)), (10, (V.bool v10))], [], [], σ⟩
theorem P189_0 (cc1 : XC) (v0 : V) (v1 : Int) (v2 : V) (σ : H) :
 denC E D W N (C189_0 cc1) (S189_0 v0 v1 v2 σ) (Fin189 E) (fun _ _ => none) (Fin189 E) =
 T189_0 E D W (fun v0 v1 v2 v7 v8 σ => iterK (fun rec s' => denC E D W N cc1 s' (fun s'' => keepS [(0, .any), (1, .i), (2, .any), (7, .i), (8, .bool)] [] [] s'' rec) (blkK 0 (Fin189 E) (fun _ _ => none)) (Fin189 E)) N (S189_1 v0 v1 v2 v7 v8 σ)) v0 v1 v2 σ := by kernel_rfl
theorem P189_1 (cc2 : XC) (li1 : St → Ans) (v0 : V) (v1 : Int) (v2 : V) (v7 : Int) (v8 : Bool) (σ : H) :
 denC E D W N (C189_1 cc2) (S189_1 v0 v1 v2 v7 v8 σ) (fun s'' => keepS [(0, .any), (1, .i), (2, .any), (7, .i), (8, .bool)] [] [] s'' li1) (blkK 0 (Fin189 E) (fun _ _ => none)) (Fin189 E) =
 T189_1 E D W (fun v0 v1 v2 v7 v9 v10 σ => denC E D W N cc2 (S189_2 v0 v1 v2 v7 v9 v10 σ) (fun s'' => keepS [(0, .any), (1, .i), (2, .any), (7, .i), (8, .bool)] [] [] s'' li1) (blkK 1 (fun s'' => keepS [(0, .any), (1, .i), (2, .any), (7, .i), (8, .bool)] [] [] s'' li1) (blkK 0 (Fin189 E) (fun _ _ => none))) (Fin189 E)) v0 v1 v2 v7 v8 σ := by kernel_rfl
theorem P189_2 (li1 : St → Ans) (v0 : V) (v1 : Int) (v2 : V) (v7 v9 : Int) (v10 : Bool) (σ : H) :
 denC E D W N (C189_2 ) (S189_2 v0 v1 v2 v7 v9 v10 σ) (fun s'' => keepS [(0, .any), (1, .i), (2, .any), (7, .i), (8, .bool)] [] [] s'' li1) (blkK 1 (fun s'' => keepS [(0, .any), (1, .i), (2, .any), (7, .i), (8, .bool)] [] [] s'' li1) (blkK 0 (Fin189 E) (fun _ _ => none))) (Fin189 E) =
 T189_2 E D W (fun v0 v1 v2 v7 v8 σ => li1 (S189_1 v0 v1 v2 v7 v8 σ)) v0 v1 v2 v7 v9 v10 σ := by kernel_rfl
def J189_2 (E : List (Nat × Blk)) (D : Den) (W : DrawFn) (N : Nat) (R1 : V → Int → V → Int → Bool → H → Ans) : V → Int → V → Int → Int → Bool → H → Ans := T189_2 E D W R1
theorem JE189_2 (li1 : St → Ans) (v0 : V) (v1 : Int) (v2 : V) (v7 v9 : Int) (v10 : Bool) (σ : H) :
 denC E D W N C189_2 (S189_2 v0 v1 v2 v7 v9 v10 σ) (fun s'' => keepS [(0, .any), (1, .i), (2, .any), (7, .i), (8, .bool)] [] [] s'' li1) (blkK 1 (fun s'' => keepS [(0, .any), (1, .i), (2, .any), (7, .i), (8, .bool)] [] [] s'' li1) (blkK 0 (Fin189 E) (fun _ _ => none))) (Fin189 E) = J189_2 E D W N (fun v0 v1 v2 v7 v8 σ => li1 (S189_1 v0 v1 v2 v7 v8 σ)) v0 v1 v2 v7 v9 v10 σ := by
 refine (P189_2 E D W N  li1 v0 v1 v2 v7 v9 v10 σ).trans ?_
 kernel_rfl
def L189_1 (n : Nat) : V → Int → V → Int → Bool → H → Ans :=
 Nat.rec (fun _ _ _ _ _ _ => none) (fun _ ih => T189_1 E D W (J189_2 E D W N ih)) n
theorem LE189_1 (n : Nat) : ∀ (v0 : V) (v1 : Int) (v2 : V) (v7 : Int) (v8 : Bool) (σ : H),
 iterK (fun rec s' => denC E D W N (C189_1 C189_2) s' (fun s'' => keepS [(0, .any), (1, .i), (2, .any), (7, .i), (8, .bool)] [] [] s'' rec) (blkK 0 (Fin189 E) (fun _ _ => none)) (Fin189 E)) n (S189_1 v0 v1 v2 v7 v8 σ) = L189_1 E D W N n v0 v1 v2 v7 v8 σ := by
 induction n with
 | zero => intro v0 v1 v2 v7 v8 σ; rfl
 | succ n ihn =>
  intro v0 v1 v2 v7 v8 σ
  rw [iterK_succ]
  refine (P189_1 E D W N C189_2 (iterK (fun rec s' => denC E D W N (C189_1 C189_2) s' (fun s'' => keepS [(0, .any), (1, .i), (2, .any), (7, .i), (8, .bool)] [] [] s'' rec) (blkK 0 (Fin189 E) (fun _ _ => none)) (Fin189 E)) n) v0 v1 v2 v7 v8 σ).trans ?_
  simp only [ihn, JE189_2]
  kernel_rfl
def J189_0 : V → Int → V → H → Ans := T189_0 E D W (L189_1 E D W N N)
theorem JE189_0 (v0 : V) (v1 : Int) (v2 : V) (σ : H) :
 denC E D W N (C189_0 (C189_1 C189_2)) (S189_0 v0 v1 v2 σ) (Fin189 E) (fun _ _ => none) (Fin189 E) = J189_0 E D W N v0 v1 v2 σ := by
 refine (P189_0 E D W N (C189_1 C189_2)  v0 v1 v2 σ).trans ?_
 simp only [LE189_1]
 kernel_rfl
def F189 (args : List V) (σ : H) : Ans :=
 rtCons args fun x1 l2 =>
 rtCons l2 fun x3 l4 =>
 rtInt .i64 x3 fun x5 =>
 rtCons l4 fun x6 l7 =>
 rtNil l7 (
 J189_0 E D W N x1 x5 x6 σ)
def A189 : XFn := ⟨47, [.any, .i, .any], [(.tmp 6)], (C189_0 (C189_1 C189_2))⟩
theorem FE189 (args : List V) (σ : H) : runX E D W N A189 args σ = F189 E D W N args σ := by
 unfold F189
 simp only [← JE189_0]
 kernel_rfl
theorem AO189 : A189.body.ok = true := by kernel_rfl
def G190_0 : List AOper := [⟨(some 5), .load none (.tmp 1), none⟩, ⟨(some 6), .load none (.tmp 2), none⟩, ⟨(some 7), .mov (.tmp 0), none⟩, ⟨(some 8), .call 109 [(.tmp 6), (.tmp 7)], none⟩, ⟨(some 9), .append 5 1 1 (.tmp 5) (.tmp 8), none⟩, ⟨none, .store 1 (.tmp 1) (.tmp 9), none⟩]
def H190_0 : List DP := [⟨0, [1]⟩, ⟨0, [2]⟩, ⟨0, [0]⟩, ⟨6, [6, 7]⟩, ⟨15, [5, 8]⟩, ⟨31, [1, 9]⟩]
def Fin190 (E : List (Nat × Blk)) : St → Ans := fun s => resK E s [(.tmp 4)] fun l => some (oneV l, s.σ)
def C190_0 : XC := (.seq (.ops (.c 4 (V.bool false)<|
.nil))
 (.seq (.keep [(0, .i), (1, .any), (2, .any)] [] [] (.gdraw G190_0 H190_0 []))
 (.seq (.ops (.c 4 (V.bool true)<|
.nil))
 .ret)))
def T190_0 (E : List (Nat × Blk)) (D : Den) (W : DrawFn) (v0 : Int) (v1 v2 : V) (σ : H) : Ans :=
 gdrawK (W G190_0 H190_0 [(0, (V.int .i64 v0)), (1, v1), (2, v2)] σ) fun e1 s2 =>
 some ((V.bool true), s2)
def S190_0 (v0 : Int) (v1 v2 : V) (σ : H) : St := ⟨[(0, (V.int .i64 v0)), (1, v1), (2, v2)], [], [], σ⟩
theorem P190_0 (v0 : Int) (v1 v2 : V) (σ : H) :
 denC E D W N (C190_0 ) (S190_0 v0 v1 v2 σ) (Fin190 E) (fun _ _ => none) (Fin190 E) =
 T190_0 E D W  v0 v1 v2 σ := by kernel_rfl
def J190_0 (E : List (Nat × Blk)) (D : Den) (W : DrawFn) (N : Nat) : Int → V → V → H → Ans := T190_0 E D W
theorem JE190_0 (v0 : Int) (v1 v2 : V) (σ : H) :
 denC E D W N C190_0 (S190_0 v0 v1 v2 σ) (Fin190 E) (fun _ _ => none) (Fin190 E) = J190_0 E D W N v0 v1 v2 σ := by
 refine (P190_0 E D W N   v0 v1 v2 σ).trans ?_
 kernel_rfl
def F190 (args : List V) (σ : H) : Ans :=
 rtCons args fun x1 l2 =>
 rtInt .i64 x1 fun x3 =>
 rtCons l2 fun x4 l5 =>
 rtCons l5 fun x6 l7 =>
 rtNil l7 (
 J190_0 E D W N x3 x4 x6 σ)
def A190 : XFn := ⟨10, [.i, .any, .any], [(.tmp 4)], C190_0⟩
theorem FE190 (args : List V) (σ : H) : runX E D W N A190 args σ = F190 E D W N args σ := by
 unfold F190
 simp only [← JE190_0]
 kernel_rfl
theorem AO190 : A190.body.ok = true := by kernel_rfl
def Fin191 (E : List (Nat × Blk)) : St → Ans := fun s => resK E s [(.tmp 4)] fun l => some (oneV l, s.σ)
def C191_0 (cc1 : XC) : XC := (.seq (.ops (.c 4 V.nils<|
.nil))
 (.seq (.ops (.m 6 1<|
.p 7 [6] (.max (.t 6) [(.i 0)])<|
.m 1 7<|
.nil))
 (.seq (.seq (.ops (.m 8 0<|
.b 9 .neq .ptr (.t 8) (.con V.nilp)<|
.m 10 9<|
.grp 10 true (.p 11 [1, 10] (.mov (.t 1))<|
.p 12 [0, 10] (.mov (.t 0))<|
.p 13 [12, 10] (.nilck (.t 12))<|
.p 14 [13, 10] (.faddr 0 (.t 13))<|
.p 15 [14, 10] (.faddr 0 (.t 14))<|
.p 16 [15, 10] (.load none (.t 15))<|
.p 17 [16, 10] (.len false (.t 16))<|
.p 18 [11, 17, 10] (.bin .gtr .none (.t 11) (.t 17))<|
.nil) 19 [10, 18] (.t 10) (.t 18) (.con (V.bool false))<|
.nil))
 (.cond (.tmp 19) (.ops (.m 20 0<|
.n 21 20<|
.f 22 0 21<|
.f 23 0 22<|
.l 24 .any 23<|
.u 25 24<|
.b 26 .add .none (.t 25) (.i 1)<|
.m 1 26<|
.nil))
 .skip))
 (.keep [(0, .any), (1, .i)] [] [] cc1))))
def T191_0 (E : List (Nat × Blk)) (D : Den) (W : DrawFn) (K1 : V → Int → H → Ans) (v0 : V) (v1 : Int) (σ : H) : Ans :=
 eqK .ptr v0 V.nilp fun c1 =>
 joinB (fun c2 s3 =>
 condK c2 (
 rtPtr v0 fun b5 o6 =>
 ldK E s3 b5 o6 fun u7 =>
 slenK u7 fun n8 =>
 K1 v0 (addF .i64 (Int.ofNat n8) (Int.ofNat 1)) s3) (
 K1 v0 (maxF v1 (Int.ofNat 0)) s3)) fun k4 =>
 condK (not c1) (
 rtPtr v0 fun b9 o10 =>
 ldK E σ b9 o10 fun u11 =>
 slenK u11 fun n12 =>
 k4 (ltF (Int.ofNat n12) (maxF v1 (Int.ofNat 0))) σ) (
 k4 false σ)
def C191_1 (cc2 : XC) (cc3 : XC) : XC := (.seq (.seq (.ops (.m 27 0<|
.m 28 1<|
.b 29 .mul .none (.i 8) (.t 28)<|
.k 30 .bool 261 [(.t 27), (.t 29)]<|
.p 31 [30] (.un .not (.t 30))<|
.nil))
 (.cond (.tmp 31) (.seq (.ops (.c 4 V.nils<|
.nil))
 .ret)
 .skip))
 (.seq (.ops (.c 5 V.nils<|
.nil))
 (.seq (.seq (.ops (.m 32 1<|
.q 33 0<|
.nil))
 (.block 0 (.loop [(0, .any), (5, .any), (32, .i), (33, .i)] [] [] cc3)))
 (.keep [(5, .any)] [] [] cc2))))
def T191_1 (E : List (Nat × Blk)) (D : Den) (W : DrawFn) (K3 : V → V → Int → Int → H → Ans) (v0 : V) (v1 : Int) (σ : H) : Ans :=
 callK (D 261 [v0, (V.int .i64 (mulF .i64 (Int.ofNat 8) v1))] σ) fun u1 s2 =>
 rtBool u1 fun x3 =>
 condK (not x3) (
 some (V.nils, s2)) (
 K3 v0 V.nils v1 (Int.ofNat 0) s2)
def C191_2 : XC := (.seq (.ops (.m 44 5<|
.m 4 44<|
.nil))
 .ret)
def T191_2 (E : List (Nat × Blk)) (D : Den) (W : DrawFn) (v5 : V) (σ : H) : Ans :=
 some (v5, σ)
def C191_3 : XC := (.seq (.ops (.b 34 .lss .none (.t 33) (.t 32)<|
.nil))
 (.seq (.cond (.tmp 34) .skip
 (.exit 0))
 (.seq (.block 1 (.ops (.m 35 5<|
.m 36 0<|
.n 37 36<|
.f 38 0 37<|
.k 39 (.int .u32) 204 [(.t 38), (.i 8)]<|
.p 40 [39] (.conv (.toInt .u8) (.t 39))<|
.p 41 [40] (.buildSlice 5 1 [(V.int .u8 (Int.ofNat 0))] [(0, 1, (.t 40))])<|
.op (some 42) .one [35, 41] (.append 5 1 1 (.t 35) (.t 41))<|
.m 5 42<|
.nil)))
 (.ops (.b 43 .add .none (.t 33) (.i 1)<|
.m 33 43<|
.nil)))))
def T191_3 (E : List (Nat × Blk)) (D : Den) (W : DrawFn) (K2 : V → H → Ans) (R3 : V → V → Int → Int → H → Ans) (v0 v5 : V) (v32 v33 : Int) (σ : H) : Ans :=
 condK (ltF v33 v32) (
 rtPtr v0 fun b1 o2 =>
 callK (D 204 [(V.ptr b1 o2), (V.int .i64 (Int.ofNat 8))] σ) fun u3 s4 =>
 rtInt .u32 u3 fun x5 =>
 let s6 := newB s4 (.cells [(V.int .u8 (wrapF .u8 x5))]);
 appK E 1 1 v5 (V.sl (H.next s4) 0 1 (.ex 1)) s6 fun u7 s8 =>
 rtOne u7 (
 R3 v0 u7 v32 (addF .i64 v33 (Int.ofNat 1)) s8)) (
 K2 v5 σ)
def S191_0 (v0 : V) (v1 : Int) (σ : H) : St := ⟨[(0, v0), (1, (V.int .i64 v1))], [], [], σ⟩
def S191_1 (v0 : V) (v1 : Int) (σ : H) : St := ⟨[(0, v0), (1, (V.int .i64 v1))], [], [], σ⟩
def S191_2 (v5 : V) (σ : H) : St := ⟨[(5, v5)], [], [], σ⟩
def S191_3 (v0 v5 : V) (v32 v33 : Int) (σ : H) : St := ⟨[(0, v0), (5, v5), (32, (V.int .i64 v32)), (33, (V.int .i64 v33))], [], [], σ⟩
theorem P191_0 (cc1 : XC) (v0 : V) (v1 : Int) (σ : H) :
 denC E D W N (C191_0 cc1) (S191_0 v0 v1 σ) (Fin191 E) (fun _ _ => none) (Fin191 E) =
 T191_0 E D W (fun v0 v1 σ => denC E D W N cc1 (S191_1 v0 v1 σ) (Fin191 E) (fun _ _ => none) (Fin191 E)) v0 v1 σ := by kernel_rfl
theorem P191_1 (cc2 : XC) (cc3 : XC) (v0 : V) (v1 : Int) (σ : H) :
 denC E D W N (C191_1 cc2 cc3) (S191_1 v0 v1 σ) (Fin191 E) (fun _ _ => none) (Fin191 E) =
 T191_1 E D W (fun v0 v5 v32 v33 σ => iterK (fun rec s' => denC E D W N cc3 s' (fun s'' => keepS [(0, .any), (5, .any), (32, .i), (33, .i)] [] [] s'' rec) (blkK 0 (fun s' => denC E D W N (.keep [(5, .any)] [] [] cc2) s' (Fin191 E) (fun _ _ => none) (Fin191 E)) (fun _ _ => none)) (Fin191 E)) N (S191_3 v0 v5 v32 v33 σ)) v0 v1 σ := by kernel_rfl
theorem P191_2 (v5 : V) (σ : H) :
 denC E D W N (C191_2 ) (S191_2 v5 σ) (Fin191 E) (fun _ _ => none) (Fin191 E) =
 T191_2 E D W  v5 σ := by kernel_rfl
theorem P191_3 (cc2 : XC) (li3 : St → Ans) (v0 v5 : V) (v32 v33 : Int) (σ : H) :
 denC E D W N (C191_3 ) (S191_3 v0 v5 v32 v33 σ) (fun s'' => keepS [(0, .any), (5, .any), (32, .i), (33, .i)] [] [] s'' li3) (blkK 0 (fun s' => denC E D W N (.keep [(5, .any)] [] [] cc2) s' (Fin191 E) (fun _ _ => none) (Fin191 E)) (fun _ _ => none)) (Fin191 E) =
 T191_3 E D W (fun v5 σ => denC E D W N cc2 (S191_2 v5 σ) (Fin191 E) (fun _ _ => none) (Fin191 E)) (fun v0 v5 v32 v33 σ => li3 (S191_3 v0 v5 v32 v33 σ)) v0 v5 v32 v33 σ := by kernel_rfl
def J191_2 (E : List (Nat × Blk)) (D : Den) (W : DrawFn) (N : Nat) : V → H → Ans := T191_2 E D W
theorem JE191_2 (v5 : V) (σ : H) :
 denC E D W N C191_2 (S191_2 v5 σ) (Fin191 E) (fun _ _ => none) (Fin191 E) = J191_2 E D W N v5 σ := by
 refine (P191_2 E D W N   v5 σ).trans ?_
 kernel_rfl
def L191_3 (n : Nat) : V → V → Int → Int → H → Ans :=
 Nat.rec (fun _ _ _ _ _ => none) (fun _ ih => T191_3 E D W (J191_2 E D W N ) ih) n
theorem LE191_3 (n : Nat) : ∀ (v0 v5 : V) (v32 v33 : Int) (σ : H),
 iterK (fun rec s' => denC E D W N C191_3 s' (fun s'' => keepS [(0, .any), (5, .any), (32, .i), (33, .i)] [] [] s'' rec) (blkK 0 (fun s' => denC E D W N (.keep [(5, .any)] [] [] C191_2) s' (Fin191 E) (fun _ _ => none) (Fin191 E)) (fun _ _ => none)) (Fin191 E)) n (S191_3 v0 v5 v32 v33 σ) = L191_3 E D W N n v0 v5 v32 v33 σ := by
 induction n with
 | zero => intro v0 v5 v32 v33 σ; rfl
 | succ n ihn =>
  intro v0 v5 v32 v33 σ
  rw [iterK_succ]
  refine (P191_3 E D W N C191_2 (iterK (fun rec s' => denC E D W N C191_3 s' (fun s'' => keepS [(0, .any), (5, .any), (32, .i), (33, .i)] [] [] s'' rec) (blkK 0 (fun s' => denC E D W N (.keep [(5, .any)] [] [] C191_2) s' (Fin191 E) (fun _ _ => none) (Fin191 E)) (fun _ _ => none)) (Fin191 E)) n) v0 v5 v32 v33 σ).trans ?_
  simp only [ihn, JE191_2]
  kernel_rfl
def J191_1 : V → Int → H → Ans := T191_1 E D W (L191_3 E D W N N)
theorem JE191_1 (v0 : V) (v1 : Int) (σ : H) :
 denC E D W N (C191_1 C191_2 C191_3) (S191_1 v0 v1 σ) (Fin191 E) (fun _ _ => none) (Fin191 E) = J191_1 E D W N v0 v1 σ := by
 refine (P191_1 E D W N C191_2 C191_3  v0 v1 σ).trans ?_
 simp only [LE191_3]
 kernel_rfl
def J191_0 : V → Int → H → Ans := T191_0 E D W (J191_1 E D W N )
theorem JE191_0 (v0 : V) (v1 : Int) (σ : H) :
 denC E D W N (C191_0 (C191_1 C191_2 C191_3)) (S191_0 v0 v1 σ) (Fin191 E) (fun _ _ => none) (Fin191 E) = J191_0 E D W N v0 v1 σ := by
 refine (P191_0 E D W N (C191_1 C191_2 C191_3)  v0 v1 σ).trans ?_
 simp only [JE191_1]
 kernel_rfl
def F191 (args : List V) (σ : H) : Ans :=
 rtCons args fun x1 l2 =>
 rtCons l2 fun x3 l4 =>
 rtInt .i64 x3 fun x5 =>
 rtNil l4 (
 J191_0 E D W N x1 x5 σ)
def A191 : XFn := ⟨45, [.any, .i], [(.tmp 4)], (C191_0 (C191_1 C191_2 C191_3))⟩
theorem FE191 (args : List V) (σ : H) : runX E D W N A191 args σ = F191 E D W N args σ := by
 unfold F191
 simp only [← JE191_0]
 kernel_rfl
theorem AO191 : A191.body.ok = true := by kernel_rfl
def G197_0 : List AOper := [⟨(some 19), .mov (.tmp 4), none⟩, ⟨(some 20), .call 50 [(.tmp 19)], none⟩, ⟨(some 21), .mov (.tmp 0), none⟩, ⟨(some 22), .nilck (.tmp 21), none⟩, ⟨(some 23), .faddr 1 (.tmp 22), none⟩, ⟨(some 24), .load (some 4) (.tmp 23), none⟩, ⟨(some 25), .mov (.tmp 0), none⟩, ⟨(some 26), .nilck (.tmp 25), none⟩, ⟨(some 27), .faddr 5 (.tmp 26), none⟩, ⟨(some 28), .load none (.tmp 27), none⟩, ⟨(some 29), .build [V.nilp, (V.str ⟨0, 0⟩), V.nils, V.nils, V.nils, V.nilp] [(0, 1, (.tmp 20)), (1, 4, (.tmp 24)), (5, 1, (.tmp 28))], none⟩, ⟨(some 30), .box 105 (.tmp 29), none⟩, ⟨(some 5), .mov (.tmp 30), none⟩]
def H197_0 : List DP := [⟨0, [4]⟩, ⟨1, [19]⟩, ⟨0, [0]⟩, ⟨4, [21]⟩, ⟨12, [22]⟩, ⟨28, [23]⟩, ⟨0, [0]⟩, ⟨64, [25]⟩, ⟨192, [26]⟩, ⟨448, [27]⟩, ⟨1023, [20, 24, 28]⟩, ⟨2047, [29]⟩, ⟨4095, [30]⟩]
def Fin197 (E : List (Nat × Blk)) : St → Ans := fun s => resK E s [] fun l => some (oneV l, s.σ)
def C197_0 : XC := (.seq (.ops (.m 6 0<|
.n 7 6<|
.f 8 0 7<|
.l 9 .any 8<|
.k 10 .one 106 [(.t 9), (.i 70000)]<|
.m 4 10<|
.nil))
 (.seq (.seq (.ops (.m 11 0<|
.m 12 4<|
.u 13 12<|
.b 14 .eql .none (.t 13) (.i 0)<|
.k 15 (.tup []) 100 [(.t 11), (.t 14)]<|
.nil))
 (.seq (.ops (.m 16 0<|
.k 17 .bool 102 [(.t 16)]<|
.p 18 [17] (.un .not (.t 17))<|
.nil))
 (.cond (.tmp 18) .ret
 .skip)))
 (.seq (.keep [(0, .ptr), (1, .any), (4, .any)] [] [] (.gdraw G197_0 H197_0 [(0, .ptr), (1, .any), (5, .ptr)]))
 (.seq (.ops (.m 31 1<|
.m 32 5<|
.op (some 33) (.tup []) [31, 32] (.callv (.t 31) [(.t 32)])<|
.nil))
 (.ops (.m 34 0<|
.m 35 5<|
.n 36 35<|
.f 37 0 36<|
.l 38 .any 37<|
.k 39 .i 52 [(.t 38)]<|
.b 40 .neq .none (.t 39) (.i 0)<|
.k 41 (.tup []) 100 [(.t 34), (.t 40)]<|
.nil))))))
def T197_0 (v0b v0o : Nat) (v1 : V) (σ : H) : Ans :=
 ldK E σ v0b v0o fun u1 =>
 callK (D 106 [u1, (V.int .i64 (Int.ofNat 70000))] σ) fun u2 s3 =>
 rtOne u2 (
 slenK u2 fun n4 =>
 callK (D 100 [(V.ptr v0b v0o), (V.bool (eqF (Int.ofNat n4) (Int.ofNat 0)))] s3) fun u5 s6 =>
 rtTup u5 fun l7 =>
 rtNil l7 (
 callK (D 102 [(V.ptr v0b v0o)] s6) fun u8 s9 =>
 rtBool u8 fun x10 =>
 condK (not x10) (
 some ((V.tup []), s9)) (
 gdrawK (W G197_0 H197_0 [(0, (V.ptr v0b v0o)), (1, v1), (4, u2)] s9) fun e11 s12 =>
 getL e11 0 fun u13 =>
 rtPtr u13 fun b14 o15 =>
 getL e11 1 fun u16 =>
 getL e11 5 fun u17 =>
 rtPtr u17 fun b18 o19 =>
 callvK D u16 [(V.ptr b18 o19)] s12 fun u20 s21 =>
 rtTup u20 fun l22 =>
 rtNil l22 (
 ldK E s21 b18 o19 fun u23 =>
 callK (D 52 [u23] s21) fun u24 s25 =>
 rtInt .i64 u24 fun x26 =>
 callK (D 100 [(V.ptr b14 o15), (V.bool (not (eqF x26 (Int.ofNat 0))))] s25) fun u27 s28 =>
 rtTup u27 fun l29 =>
 rtNil l29 (
 some ((V.tup []), s28))))))
def S197_0 (v0b v0o : Nat) (v1 : V) (σ : H) : St := ⟨[(0, (V.ptr v0b v0o)), (1, v1)], [], [], σ⟩
theorem P197_0 (v0b v0o : Nat) (v1 : V) (σ : H) :
 denC E D W N (C197_0 ) (S197_0 v0b v0o v1 σ) (Fin197 E) (fun _ _ => none) (Fin197 E) =
 T197_0 E D W  v0b v0o v1 σ := by kernel_rfl
def J197_0 (E : List (Nat × Blk)) (D : Den) (W : DrawFn) (N : Nat) : Nat → Nat → V → H → Ans := T197_0 E D W
theorem JE197_0 (v0b v0o : Nat) (v1 : V) (σ : H) :
 denC E D W N C197_0 (S197_0 v0b v0o v1 σ) (Fin197 E) (fun _ _ => none) (Fin197 E) = J197_0 E D W N v0b v0o v1 σ := by
 refine (P197_0 E D W N   v0b v0o v1 σ).trans ?_
 kernel_rfl
def F197 (args : List V) (σ : H) : Ans :=
 rtCons args fun x1 l2 =>
 rtPtr x1 fun b3 o4 =>
 rtCons l2 fun x5 l6 =>
 rtNil l6 (
 J197_0 E D W N b3 o4 x5 σ)
def A197 : XFn := ⟨42, [.ptr, .any], [], C197_0⟩
theorem FE197 (args : List V) (σ : H) : runX E D W N A197 args σ = F197 E D W N args σ := by
 unfold F197
 simp only [← JE197_0]
 kernel_rfl
theorem AO197 : A197.body.ok = true := by kernel_rfl
def G199_0 : List AOper := [⟨(some 58), .mov (.tmp 2), none⟩, ⟨(some 59), .nilck (.tmp 58), none⟩, ⟨(some 60), .faddr 3 (.tmp 59), none⟩, ⟨(some 61), .load none (.tmp 60), none⟩, ⟨(some 62), .mov (.tmp 16), none⟩, ⟨(some 63), .mov (.tmp 0), none⟩, ⟨(some 64), .faddr 9 (.tmp 6), none⟩, ⟨(some 65), .load none (.tmp 64), none⟩, ⟨(some 66), .mov (.tmp 16), none⟩, ⟨(some 67), .iaddrS 11 (.tmp 65) (.tmp 66), none⟩, ⟨(some 68), .faddr 1 (.tmp 67), none⟩, ⟨(some 69), .load none (.tmp 68), none⟩, ⟨(some 70), .mov (.tmp 4), none⟩, ⟨(some 71), .bin .add .none (.tmp 70) (.con (V.int .i64 (Int.ofNat 1))), none⟩, ⟨(some 72), .call 51 [(.tmp 63), (.tmp 69), (.tmp 71)], none⟩, ⟨(some 73), .iaddrS 6 (.tmp 61) (.tmp 62), none⟩, ⟨none, .store 6 (.tmp 73) (.tmp 72), none⟩]
def H199_0 : List DP := [⟨0, [2]⟩, ⟨1, [58]⟩, ⟨3, [59]⟩, ⟨7, [60]⟩, ⟨0, [16]⟩, ⟨0, [0]⟩, ⟨0, [6]⟩, ⟨64, [64]⟩, ⟨0, [16]⟩, ⟨448, [65, 66]⟩, ⟨960, [67]⟩, ⟨1984, [68]⟩, ⟨0, [4]⟩, ⟨4096, [70]⟩, ⟨16352, [63, 69, 71]⟩, ⟨32767, [61, 62]⟩, ⟨65535, [73, 72]⟩]
def Fin199 (E : List (Nat × Blk)) : St → Ans := fun s => resK E s [(.tmp 10)] fun l => some (oneV l, s.σ)
def C199_0 (cc1 : XC) (cc2 : XC) : XC := (.seq (.ops (.p 6 [1] (.box 145 (.t 1))<|
.c 10 (V.bool false)<|
.nil))
 (.seq (.ops (.c 11 V.nils<|
.nil))
 (.seq (.seq (.ops (.m 17 3<|
.u 18 17<|
.q 19 0<|
.nil))
 (.block 0 (.loop [(0, .ptr), (2, .ptr), (4, .i), (6, .ptr), (11, .any), (17, .any), (18, .i), (19, .i)] [] [] cc2)))
 (.keep [(0, .ptr), (2, .ptr), (4, .i), (6, .ptr), (11, .any)] [] [] cc1))))
def T199_0 (E : List (Nat × Blk)) (D : Den) (W : DrawFn) (K2 : Nat → Nat → Nat → Nat → Int → Nat → Nat → V → V → Int → Int → H → Ans) (v0b v0o : Nat) (v1_0 : Int) (v1_1 : V) (v1_2 v1_3 v1_4 v1_5 : Bool) (v1_6 v1_7 : Int) (v1_8 v1_9 : V) (v1_10 : Int) (v1_11 : Bool) (v1_12 : Int) (v2b v2o : Nat) (v3 : V) (v4 : Int) (σ : H) : Ans :=
 chk (allOne (V.cells (V.agg [(V.int .i64 v1_0), v1_1, (V.bool v1_2), (V.bool v1_3), (V.bool v1_4), (V.bool v1_5), (V.int .i64 v1_6), (V.int .i64 v1_7), v1_8, v1_9, (V.int .i64 v1_10), (V.bool v1_11), (V.int .i64 v1_12)]))) (
 let s1 := newB σ (.cells (V.cells (V.agg [(V.int .i64 v1_0), v1_1, (V.bool v1_2), (V.bool v1_3), (V.bool v1_4), (V.bool v1_5), (V.int .i64 v1_6), (V.int .i64 v1_7), v1_8, v1_9, (V.int .i64 v1_10), (V.bool v1_11), (V.int .i64 v1_12)])));
 slenK v3 fun n2 =>
 K2 v0b v0o v2b v2o v4 (H.next σ) 0 V.nils v3 (Int.ofNat n2) (Int.ofNat 0) s1)
def C199_1 (cc4 : XC) (cc5 : XC) : XC := (.seq (.seq (.ops (.m 45 11<|
.u 46 45<|
.q 47 0<|
.nil))
 (.block 2 (.loop [(0, .ptr), (2, .ptr), (4, .i), (6, .ptr), (11, .any), (45, .any), (46, .i), (47, .i)] [] [] cc5)))
 (.keep [(11, .any)] [] [] cc4))
def T199_1 (E : List (Nat × Blk)) (D : Den) (W : DrawFn) (K5 : Nat → Nat → Nat → Nat → Int → Nat → Nat → V → V → Int → Int → H → Ans) (v0b v0o v2b v2o : Nat) (v4 : Int) (v6b v6o : Nat) (v11 : V) (σ : H) : Ans :=
 slenK v11 fun n1 =>
 K5 v0b v0o v2b v2o v4 v6b v6o v11 v11 (Int.ofNat n1) (Int.ofNat 0) σ
def C199_2 (cc3 : XC) : XC := (.seq (.ops (.b 20 .lss .none (.t 19) (.t 18)<|
.nil))
 (.seq (.cond (.tmp 20) .skip
 (.exit 0))
 (.seq (.block 1 (.seq (.ops (.s 21 1 17 19<|
.l 22 .i 21<|
.m 13 22<|
.nil))
 (.seq (.ops (.f 23 9 6<|
.l 24 .any 23<|
.m 25 13<|
.s 26 11 24 25<|
.op (some 27) (.agg [.str, .i, .bool, .bool, .i, .i, .any, .any, .i, .any, .i]) [26] (.load (some 11) (.t 26))<|
.pal 14 [] 200 [(V.str ⟨0, 0⟩), (V.int .i64 (Int.ofNat 0)), (V.bool false), (V.bool false), (V.int .i64 (Int.ofNat 0)), (V.int .i64 (Int.ofNat 0)), V.nils, V.nils, (V.int .i64 (Int.ofNat 0)), V.nils, (V.int .i64 (Int.ofNat 0))]<|
.op none (.agg [.str, .i, .bool, .bool, .i, .i, .any, .any, .i, .any, .i]) [14, 27] (.store 11 (.t 14) (.t 27))<|
.nil))
 (.seq (.ops (.f 28 2 14<|
.l 29 .bool 28<|
.p 30 [29] (.un .not (.t 29))<|
.m 31 30<|
.grp 31 true (.p 32 [14, 31] (.faddr 3 (.t 14))<|
.op (some 33) .bool [32, 31] (.load none (.t 32))<|
.p 34 [33, 31] (.un .not (.t 33))<|
.nil) 35 [31, 34] (.t 31) (.t 34) (.con (V.bool false))<|
.m 36 35<|
.grp 36 false (.p 37 [0, 36] (.mov (.t 0))<|
.op (some 38) .bool [37, 36] (.call 184 [(.t 37)])<|
.nil) 39 [36, 38] (.t 36) (.con (V.bool true)) (.t 38)<|
.nil))
 (.cond (.tmp 39) (.ops (.m 40 11<|
.m 41 13<|
.p 42 [41] (.buildSlice 3 1 [(V.int .i64 (Int.ofNat 0))] [(0, 1, (.t 41))])<|
.op (some 43) .one [40, 42] (.append 3 1 8 (.t 40) (.t 42))<|
.m 11 43<|
.nil))
 .skip)))))
 (.keep [(0, .ptr), (2, .ptr), (4, .i), (6, .ptr), (11, .any), (17, .any), (18, .i), (19, .i)] [] [] cc3))))
def T199_2 (E : List (Nat × Blk)) (D : Den) (W : DrawFn) (K1 : Nat → Nat → Nat → Nat → Int → Nat → Nat → V → H → Ans) (K3 : Nat → Nat → Nat → Nat → Int → Nat → Nat → V → V → Int → Int → H → Ans) (v0b v0o v2b v2o : Nat) (v4 : Int) (v6b v6o : Nat) (v11 v17 : V) (v18 v19 : Int) (σ : H) : Ans :=
 condK (ltF v19 v18) (
 iaddrSK 1 v17 v19 fun b1 o2 =>
 ldK E σ b1 o2 fun u3 =>
 rtInt .i64 u3 fun x4 =>
 ldK E σ v6b (Nat.add v6o 9) fun u5 =>
 iaddrSK 11 u5 x4 fun b6 o7 =>
 ldnK E σ b6 o7 11 fun l8 =>
 rtCons l8 fun x9 l10 =>
 rtStr x9 fun x11 =>
 rtCons l10 fun x12 l13 =>
 rtInt .i64 x12 fun x14 =>
 rtCons l13 fun x15 l16 =>
 rtBool x15 fun x17 =>
 rtCons l16 fun x18 l19 =>
 rtBool x18 fun x20 =>
 rtCons l19 fun x21 l22 =>
 rtInt .i64 x21 fun x23 =>
 rtCons l22 fun x24 l25 =>
 rtInt .i64 x24 fun x26 =>
 rtCons l25 fun x27 l28 =>
 rtCons l28 fun x29 l30 =>
 rtCons l30 fun x31 l32 =>
 rtInt .i64 x31 fun x33 =>
 rtCons l32 fun x34 l35 =>
 rtCons l35 fun x36 l37 =>
 rtInt .i64 x36 fun x38 =>
 rtNil l37 (
 chk (allOne [(V.str x11), (V.int .i64 x14), (V.bool x17), (V.bool x20), (V.int .i64 x23), (V.int .i64 x26), x27, x29, (V.int .i64 x33), x34, (V.int .i64 x38)]) (
 joinB (fun c39 s40 =>
 joinB (fun c42 s43 =>
 condK c42 (
 let s45 := newB s43 (.cells [(V.int .i64 x4)]);
 appK E 1 8 v11 (V.sl (H.next s43) 0 1 (.ex 1)) s45 fun u46 s47 =>
 rtOne u46 (
 K3 v0b v0o v2b v2o v4 v6b v6o u46 v17 v18 v19 s47)) (
 K3 v0b v0o v2b v2o v4 v6b v6o v11 v17 v18 v19 s43)) fun k44 =>
 condK c39 (
 k44 true s40) (
 callK (D 184 [(V.ptr v0b v0o)] s40) fun u48 s49 =>
 rtBool u48 fun x50 =>
 k44 x50 s49)) fun k41 =>
 condK (not x17) (
 k41 (not x20) σ) (
 k41 false σ)))) (
 K1 v0b v0o v2b v2o v4 v6b v6o v11 σ)
def C199_3 : XC := (.ops (.b 44 .add .none (.t 19) (.i 1)<|
.m 19 44<|
.nil))
def T199_3 (E : List (Nat × Blk)) (D : Den) (W : DrawFn) (R2 : Nat → Nat → Nat → Nat → Int → Nat → Nat → V → V → Int → Int → H → Ans) (v0b v0o v2b v2o : Nat) (v4 : Int) (v6b v6o : Nat) (v11 v17 : V) (v18 v19 : Int) (σ : H) : Ans :=
 R2 v0b v0o v2b v2o v4 v6b v6o v11 v17 v18 (addF .i64 v19 (Int.ofNat 1)) σ
def C199_4 : XC := (.seq (.ops (.m 75 11<|
.u 76 75<|
.b 77 .gtr .none (.t 76) (.i 0)<|
.m 10 77<|
.nil))
 .ret)
def T199_4 (E : List (Nat × Blk)) (D : Den) (W : DrawFn) (v11 : V) (σ : H) : Ans :=
 slenK v11 fun n1 =>
 some ((V.bool (ltF (Int.ofNat 0) (Int.ofNat n1))), σ)
def C199_5 (cc6 : XC) : XC := (.seq (.ops (.b 48 .lss .none (.t 47) (.t 46)<|
.nil))
 (.seq (.cond (.tmp 48) .skip
 (.exit 2))
 (.seq (.block 3 (.seq (.ops (.s 49 1 45 47<|
.l 50 .i 49<|
.m 16 50<|
.nil))
 (.seq (.ops (.m 51 0<|
.k 52 .bool 102 [(.t 51)]<|
.nil))
 (.cond (.tmp 52) (.seq (.ops (.m 53 0<|
.n 54 53<|
.f 55 5 54<|
.l 56 .any 55<|
.k 57 .bool 101 [(.t 56), (.con (V.int .i64 (Int.negSucc 0)))]<|
.nil))
 (.keep [(0, .ptr), (2, .ptr), (4, .i), (6, .ptr), (11, .any), (16, .i), (45, .any), (46, .i), (47, .i)] [] [] (.gdraw G199_0 H199_0 [(0, .ptr), (2, .ptr), (4, .i), (6, .ptr), (11, .any), (45, .any), (46, .i), (47, .i)])))
 .skip))))
 (.keep [(0, .ptr), (2, .ptr), (4, .i), (6, .ptr), (11, .any), (45, .any), (46, .i), (47, .i)] [] [] cc6))))
def T199_5 (K4 : V → H → Ans) (K6 : Nat → Nat → Nat → Nat → Int → Nat → Nat → V → V → Int → Int → H → Ans) (v0b v0o v2b v2o : Nat) (v4 : Int) (v6b v6o : Nat) (v11 v45 : V) (v46 v47 : Int) (σ : H) : Ans :=
 condK (ltF v47 v46) (
 iaddrSK 1 v45 v47 fun b1 o2 =>
 ldK E σ b1 o2 fun u3 =>
 rtInt .i64 u3 fun x4 =>
 callK (D 102 [(V.ptr v0b v0o)] σ) fun u5 s6 =>
 rtBool u5 fun x7 =>
 condK x7 (
 ldK E s6 v0b (Nat.add v0o 5) fun u8 =>
 callK (D 101 [u8, (V.int .i64 (Int.negSucc 0))] s6) fun u9 s10 =>
 rtBool u9 fun x11 =>
 gdrawK (W G199_0 H199_0 [(0, (V.ptr v0b v0o)), (2, (V.ptr v2b v2o)), (4, (V.int .i64 v4)), (6, (V.ptr v6b v6o)), (11, v11), (16, (V.int .i64 x4)), (45, v45), (46, (V.int .i64 v46)), (47, (V.int .i64 v47))] s10) fun e12 s13 =>
 getL e12 0 fun u14 =>
 rtPtr u14 fun b15 o16 =>
 getL e12 2 fun u17 =>
 rtPtr u17 fun b18 o19 =>
 getL e12 4 fun u20 =>
 rtInt .i64 u20 fun x21 =>
 getL e12 6 fun u22 =>
 rtPtr u22 fun b23 o24 =>
 getL e12 11 fun u25 =>
 getL e12 45 fun u26 =>
 getL e12 46 fun u27 =>
 rtInt .i64 u27 fun x28 =>
 getL e12 47 fun u29 =>
 rtInt .i64 u29 fun x30 =>
 K6 b15 o16 b18 o19 x21 b23 o24 u25 u26 x28 x30 s13) (
 K6 v0b v0o v2b v2o v4 v6b v6o v11 v45 v46 v47 s6)) (
 K4 v11 σ)
def C199_6 : XC := (.ops (.b 74 .add .none (.t 47) (.i 1)<|
.m 47 74<|
.nil))
def T199_6 (E : List (Nat × Blk)) (D : Den) (W : DrawFn) (R5 : Nat → Nat → Nat → Nat → Int → Nat → Nat → V → V → Int → Int → H → Ans) (v0b v0o v2b v2o : Nat) (v4 : Int) (v6b v6o : Nat) (v11 v45 : V) (v46 v47 : Int) (σ : H) : Ans :=
 R5 v0b v0o v2b v2o v4 v6b v6o v11 v45 v46 (addF .i64 v47 (Int.ofNat 1)) σ
def S199_0 (v0b v0o : Nat) (v1_0 : Int) (v1_1 : V) (v1_2 v1_3 v1_4 v1_5 : Bool) (v1_6 v1_7 : Int) (v1_8 v1_9 : V) (v1_10 : Int) (v1_11 : Bool) (v1_12 : Int) (v2b v2o : Nat) (v3 : V) (v4 : Int) (σ : H) : St := ⟨[(0, (V.ptr v0b v0o)), (1, (V.agg [(V.int .i64 v1_0), v1_1, (V.bool v1_2), (V.bool v1_3), (V.bool v1_4), (V.bool v1_5), (V.int .i64 v1_6), (V.int .i64 v1_7), v1_8, v1_9, (V.int .i64 v1_10), (V.bool v1_11), (V.int .i64 v1_12)])), (2, (V.ptr v2b v2o)), (3, v3), (4, (V.int .i64 v4))], [], [], σ⟩
def S199_1 (v0b v0o v2b v2o : Nat) (v4 : Int) (v6b v6o : Nat) (v11 : V) (σ : H) : St := ⟨[(0, (V.ptr v0b v0o)), (2, (V.ptr v2b v2o)), (4, (V.int .i64 v4)), (6, (V.ptr v6b v6o)), (11, v11)], [], [], σ⟩
def S199_2 (v0b v0o v2b v2o : Nat) (v4 : Int) (v6b v6o : Nat) (v11 v17 : V) (v18 v19 : Int) (σ : H) : St := ⟨[(0, (V.ptr v0b v0o)), (2, (V.ptr v2b v2o)), (4, (V.int .i64 v4)), (6, (V.ptr v6b v6o)), (11, v11), (17, v17), (18, (V.int .i64 v18)), (19, (V.int .i64 v19))], [], [], σ⟩
def S199_3 (v0b v0o v2b v2o : Nat) (v4 : Int) (v6b v6o : Nat) (v11 v17 : V) (v18 v19 : Int) (σ : H) : St := ⟨[(0, (V.ptr v0b v0o)), (2, (V.ptr v2b v2o)), (4, (V.int .i64 v4)), (6, (V.ptr v6b v6o)), (11, v11), (17, v17), (18, (V.int .i64 v18)), (19, (V.int .i64 v19))], [], [], σ⟩
def S199_4 (v11 : V) (σ : H) : St := ⟨[(11, v11)], [], [], σ⟩
def S199_5 (v0b v0o v2b v2o : Nat) (v4 : Int) (v6b v6o : Nat) (v11 v45 : V) (v46 v47 : Int) (σ : H) : St := ⟨[(0, (V.ptr v0b v0o)), (2, (V.ptr v2b v2o)), (4, (V.int .i64 v4)), (6, (V.ptr v6b v6o)), (11, v11), (45, v45), (46, (V.int .i64 v46)), (47, (V.int .i64 v47))], [], [], σ⟩
def S199_6 (v0b v0o v2b v2o : Nat) (v4 : Int) (v6b v6o : Nat) (v11 v45 : V) (v46 v47 : Int) (σ : H) : St := ⟨[(0, (V.ptr v0b v0o)), (2, (V.ptr v2b v2o)), (4, (V.int .i64 v4)), (6, (V.ptr v6b v6o)), (11, v11), (45, v45), (46, (V.int .i64 v46)), (47, (V.int .i64 v47))], [], [], σ⟩
theorem P199_0 (cc1 : XC) (cc2 : XC) (v0b v0o : Nat) (v1_0 : Int) (v1_1 : V) (v1_2 v1_3 v1_4 v1_5 : Bool) (v1_6 v1_7 : Int) (v1_8 v1_9 : V) (v1_10 : Int) (v1_11 : Bool) (v1_12 : Int) (v2b v2o : Nat) (v3 : V) (v4 : Int) (σ : H) :
 denC E D W N (C199_0 cc1 cc2) (S199_0 v0b v0o v1_0 v1_1 v1_2 v1_3 v1_4 v1_5 v1_6 v1_7 v1_8 v1_9 v1_10 v1_11 v1_12 v2b v2o v3 v4 σ) (Fin199 E) (fun _ _ => none) (Fin199 E) =
 T199_0 E D W (fun v0b v0o v2b v2o v4 v6b v6o v11 v17 v18 v19 σ => iterK (fun rec s' => denC E D W N cc2 s' (fun s'' => keepS [(0, .ptr), (2, .ptr), (4, .i), (6, .ptr), (11, .any), (17, .any), (18, .i), (19, .i)] [] [] s'' rec) (blkK 0 (fun s' => denC E D W N (.keep [(0, .ptr), (2, .ptr), (4, .i), (6, .ptr), (11, .any)] [] [] cc1) s' (Fin199 E) (fun _ _ => none) (Fin199 E)) (fun _ _ => none)) (Fin199 E)) N (S199_2 v0b v0o v2b v2o v4 v6b v6o v11 v17 v18 v19 σ)) v0b v0o v1_0 v1_1 v1_2 v1_3 v1_4 v1_5 v1_6 v1_7 v1_8 v1_9 v1_10 v1_11 v1_12 v2b v2o v3 v4 σ := by kernel_rfl
theorem P199_1 (cc4 : XC) (cc5 : XC) (v0b v0o v2b v2o : Nat) (v4 : Int) (v6b v6o : Nat) (v11 : V) (σ : H) :
 denC E D W N (C199_1 cc4 cc5) (S199_1 v0b v0o v2b v2o v4 v6b v6o v11 σ) (Fin199 E) (fun _ _ => none) (Fin199 E) =
 T199_1 E D W (fun v0b v0o v2b v2o v4 v6b v6o v11 v45 v46 v47 σ => iterK (fun rec s' => denC E D W N cc5 s' (fun s'' => keepS [(0, .ptr), (2, .ptr), (4, .i), (6, .ptr), (11, .any), (45, .any), (46, .i), (47, .i)] [] [] s'' rec) (blkK 2 (fun s' => denC E D W N (.keep [(11, .any)] [] [] cc4) s' (Fin199 E) (fun _ _ => none) (Fin199 E)) (fun _ _ => none)) (Fin199 E)) N (S199_5 v0b v0o v2b v2o v4 v6b v6o v11 v45 v46 v47 σ)) v0b v0o v2b v2o v4 v6b v6o v11 σ := by kernel_rfl
theorem P199_2 (cc1 : XC) (cc3 : XC) (li2 : St → Ans) (v0b v0o v2b v2o : Nat) (v4 : Int) (v6b v6o : Nat) (v11 v17 : V) (v18 v19 : Int) (σ : H) :
 denC E D W N (C199_2 cc3) (S199_2 v0b v0o v2b v2o v4 v6b v6o v11 v17 v18 v19 σ) (fun s'' => keepS [(0, .ptr), (2, .ptr), (4, .i), (6, .ptr), (11, .any), (17, .any), (18, .i), (19, .i)] [] [] s'' li2) (blkK 0 (fun s' => denC E D W N (.keep [(0, .ptr), (2, .ptr), (4, .i), (6, .ptr), (11, .any)] [] [] cc1) s' (Fin199 E) (fun _ _ => none) (Fin199 E)) (fun _ _ => none)) (Fin199 E) =
 T199_2 E D W (fun v0b v0o v2b v2o v4 v6b v6o v11 σ => denC E D W N cc1 (S199_1 v0b v0o v2b v2o v4 v6b v6o v11 σ) (Fin199 E) (fun _ _ => none) (Fin199 E)) (fun v0b v0o v2b v2o v4 v6b v6o v11 v17 v18 v19 σ => denC E D W N cc3 (S199_3 v0b v0o v2b v2o v4 v6b v6o v11 v17 v18 v19 σ) (fun s'' => keepS [(0, .ptr), (2, .ptr), (4, .i), (6, .ptr), (11, .any), (17, .any), (18, .i), (19, .i)] [] [] s'' li2) (blkK 0 (fun s' => denC E D W N (.keep [(0, .ptr), (2, .ptr), (4, .i), (6, .ptr), (11, .any)] [] [] cc1) s' (Fin199 E) (fun _ _ => none) (Fin199 E)) (fun _ _ => none)) (Fin199 E)) v0b v0o v2b v2o v4 v6b v6o v11 v17 v18 v19 σ := by kernel_rfl
theorem P199_3 (cc1 : XC) (li2 : St → Ans) (v0b v0o v2b v2o : Nat) (v4 : Int) (v6b v6o : Nat) (v11 v17 : V) (v18 v19 : Int) (σ : H) :
 denC E D W N (C199_3 ) (S199_3 v0b v0o v2b v2o v4 v6b v6o v11 v17 v18 v19 σ) (fun s'' => keepS [(0, .ptr), (2, .ptr), (4, .i), (6, .ptr), (11, .any), (17, .any), (18, .i), (19, .i)] [] [] s'' li2) (blkK 0 (fun s' => denC E D W N (.keep [(0, .ptr), (2, .ptr), (4, .i), (6, .ptr), (11, .any)] [] [] cc1) s' (Fin199 E) (fun _ _ => none) (Fin199 E)) (fun _ _ => none)) (Fin199 E) =
 T199_3 E D W (fun v0b v0o v2b v2o v4 v6b v6o v11 v17 v18 v19 σ => li2 (S199_2 v0b v0o v2b v2o v4 v6b v6o v11 v17 v18 v19 σ)) v0b v0o v2b v2o v4 v6b v6o v11 v17 v18 v19 σ := by kernel_rfl
theorem P199_4 (v11 : V) (σ : H) :
 denC E D W N (C199_4 ) (S199_4 v11 σ) (Fin199 E) (fun _ _ => none) (Fin199 E) =
 T199_4 E D W  v11 σ := by kernel_rfl
theorem P199_5 (cc4 : XC) (cc6 : XC) (li5 : St → Ans) (v0b v0o v2b v2o : Nat) (v4 : Int) (v6b v6o : Nat) (v11 v45 : V) (v46 v47 : Int) (σ : H) :
 denC E D W N (C199_5 cc6) (S199_5 v0b v0o v2b v2o v4 v6b v6o v11 v45 v46 v47 σ) (fun s'' => keepS [(0, .ptr), (2, .ptr), (4, .i), (6, .ptr), (11, .any), (45, .any), (46, .i), (47, .i)] [] [] s'' li5) (blkK 2 (fun s' => denC E D W N (.keep [(11, .any)] [] [] cc4) s' (Fin199 E) (fun _ _ => none) (Fin199 E)) (fun _ _ => none)) (Fin199 E) =
 T199_5 E D W (fun v11 σ => denC E D W N cc4 (S199_4 v11 σ) (Fin199 E) (fun _ _ => none) (Fin199 E)) (fun v0b v0o v2b v2o v4 v6b v6o v11 v45 v46 v47 σ => denC E D W N cc6 (S199_6 v0b v0o v2b v2o v4 v6b v6o v11 v45 v46 v47 σ) (fun s'' => keepS [(0, .ptr), (2, .ptr), (4, .i), (6, .ptr), (11, .any), (45, .any), (46, .i), (47, .i)] [] [] s'' li5) (blkK 2 (fun s' => denC E D W N (.keep [(11, .any)] [] [] cc4) s' (Fin199 E) (fun _ _ => none) (Fin199 E)) (fun _ _ => none)) (Fin199 E)) v0b v0o v2b v2o v4 v6b v6o v11 v45 v46 v47 σ := by kernel_rfl
theorem P199_6 (cc4 : XC) (li5 : St → Ans) (v0b v0o v2b v2o : Nat) (v4 : Int) (v6b v6o : Nat) (v11 v45 : V) (v46 v47 : Int) (σ : H) :
 denC E D W N (C199_6 ) (S199_6 v0b v0o v2b v2o v4 v6b v6o v11 v45 v46 v47 σ) (fun s'' => keepS [(0, .ptr), (2, .ptr), (4, .i), (6, .ptr), (11, .any), (45, .any), (46, .i), (47, .i)] [] [] s'' li5) (blkK 2 (fun s' => denC E D W N (.keep [(11, .any)] [] [] cc4) s' (Fin199 E) (fun _ _ => none) (Fin199 E)) (fun _ _ => none)) (Fin199 E) =
 T199_6 E D W (fun v0b v0o v2b v2o v4 v6b v6o v11 v45 v46 v47 σ => li5 (S199_5 v0b v0o v2b v2o v4 v6b v6o v11 v45 v46 v47 σ)) v0b v0o v2b v2o v4 v6b v6o v11 v45 v46 v47 σ := by kernel_rfl
def J199_4 (E : List (Nat × Blk)) (D : Den) (W : DrawFn) (N : Nat) : V → H → Ans := T199_4 E D W
theorem JE199_4 (v11 : V) (σ : H) :
 denC E D W N C199_4 (S199_4 v11 σ) (Fin199 E) (fun _ _ => none) (Fin199 E) = J199_4 E D W N v11 σ := by
 refine (P199_4 E D W N   v11 σ).trans ?_
 kernel_rfl
def J199_6 (E : List (Nat × Blk)) (D : Den) (W : DrawFn) (N : Nat) (R5 : Nat → Nat → Nat → Nat → Int → Nat → Nat → V → V → Int → Int → H → Ans) : Nat → Nat → Nat → Nat → Int → Nat → Nat → V → V → Int → Int → H → Ans := T199_6 E D W R5
theorem JE199_6 (li5 : St → Ans) (v0b v0o v2b v2o : Nat) (v4 : Int) (v6b v6o : Nat) (v11 v45 : V) (v46 v47 : Int) (σ : H) :
 denC E D W N C199_6 (S199_6 v0b v0o v2b v2o v4 v6b v6o v11 v45 v46 v47 σ) (fun s'' => keepS [(0, .ptr), (2, .ptr), (4, .i), (6, .ptr), (11, .any), (45, .any), (46, .i), (47, .i)] [] [] s'' li5) (blkK 2 (fun s' => denC E D W N (.keep [(11, .any)] [] [] C199_4) s' (Fin199 E) (fun _ _ => none) (Fin199 E)) (fun _ _ => none)) (Fin199 E) = J199_6 E D W N (fun v0b v0o v2b v2o v4 v6b v6o v11 v45 v46 v47 σ => li5 (S199_5 v0b v0o v2b v2o v4 v6b v6o v11 v45 v46 v47 σ)) v0b v0o v2b v2o v4 v6b v6o v11 v45 v46 v47 σ := by
 refine (P199_6 E D W N C199_4 li5 v0b v0o v2b v2o v4 v6b v6o v11 v45 v46 v47 σ).trans ?_
 kernel_rfl
def L199_5 (n : Nat) : Nat → Nat → Nat → Nat → Int → Nat → Nat → V → V → Int → Int → H → Ans :=
 Nat.rec (fun _ _ _ _ _ _ _ _ _ _ _ _ => none) (fun _ ih => T199_5 E D W (J199_4 E D W N ) (J199_6 E D W N ih)) n
theorem LE199_5 (n : Nat) : ∀ (v0b v0o v2b v2o : Nat) (v4 : Int) (v6b v6o : Nat) (v11 v45 : V) (v46 v47 : Int) (σ : H),
 iterK (fun rec s' => denC E D W N (C199_5 C199_6) s' (fun s'' => keepS [(0, .ptr), (2, .ptr), (4, .i), (6, .ptr), (11, .any), (45, .any), (46, .i), (47, .i)] [] [] s'' rec) (blkK 2 (fun s' => denC E D W N (.keep [(11, .any)] [] [] C199_4) s' (Fin199 E) (fun _ _ => none) (Fin199 E)) (fun _ _ => none)) (Fin199 E)) n (S199_5 v0b v0o v2b v2o v4 v6b v6o v11 v45 v46 v47 σ) = L199_5 E D W N n v0b v0o v2b v2o v4 v6b v6o v11 v45 v46 v47 σ := by
 induction n with
 | zero => intro v0b v0o v2b v2o v4 v6b v6o v11 v45 v46 v47 σ; rfl
 | succ n ihn =>
  intro v0b v0o v2b v2o v4 v6b v6o v11 v45 v46 v47 σ
  rw [iterK_succ]
  refine (P199_5 E D W N C199_4 C199_6 (iterK (fun rec s' => denC E D W N (C199_5 C199_6) s' (fun s'' => keepS [(0, .ptr), (2, .ptr), (4, .i), (6, .ptr), (11, .any), (45, .any), (46, .i), (47, .i)] [] [] s'' rec) (blkK 2 (fun s' => denC E D W N (.keep [(11, .any)] [] [] C199_4) s' (Fin199 E) (fun _ _ => none) (Fin199 E)) (fun _ _ => none)) (Fin199 E)) n) v0b v0o v2b v2o v4 v6b v6o v11 v45 v46 v47 σ).trans ?_
  simp only [ihn, JE199_4, JE199_6]
  kernel_rfl
def J199_1 : Nat → Nat → Nat → Nat → Int → Nat → Nat → V → H → Ans := T199_1 E D W (L199_5 E D W N N)
theorem JE199_1 (v0b v0o v2b v2o : Nat) (v4 : Int) (v6b v6o : Nat) (v11 : V) (σ : H) :
 denC E D W N (C199_1 C199_4 (C199_5 C199_6)) (S199_1 v0b v0o v2b v2o v4 v6b v6o v11 σ) (Fin199 E) (fun _ _ => none) (Fin199 E) = J199_1 E D W N v0b v0o v2b v2o v4 v6b v6o v11 σ := by
 refine (P199_1 E D W N C199_4 (C199_5 C199_6)  v0b v0o v2b v2o v4 v6b v6o v11 σ).trans ?_
 simp only [LE199_5]
 kernel_rfl
def J199_3 (E : List (Nat × Blk)) (D : Den) (W : DrawFn) (N : Nat) (R2 : Nat → Nat → Nat → Nat → Int → Nat → Nat → V → V → Int → Int → H → Ans) : Nat → Nat → Nat → Nat → Int → Nat → Nat → V → V → Int → Int → H → Ans := T199_3 E D W R2
theorem JE199_3 (li2 : St → Ans) (v0b v0o v2b v2o : Nat) (v4 : Int) (v6b v6o : Nat) (v11 v17 : V) (v18 v19 : Int) (σ : H) :
 denC E D W N C199_3 (S199_3 v0b v0o v2b v2o v4 v6b v6o v11 v17 v18 v19 σ) (fun s'' => keepS [(0, .ptr), (2, .ptr), (4, .i), (6, .ptr), (11, .any), (17, .any), (18, .i), (19, .i)] [] [] s'' li2) (blkK 0 (fun s' => denC E D W N (.keep [(0, .ptr), (2, .ptr), (4, .i), (6, .ptr), (11, .any)] [] [] (C199_1 C199_4 (C199_5 C199_6))) s' (Fin199 E) (fun _ _ => none) (Fin199 E)) (fun _ _ => none)) (Fin199 E) = J199_3 E D W N (fun v0b v0o v2b v2o v4 v6b v6o v11 v17 v18 v19 σ => li2 (S199_2 v0b v0o v2b v2o v4 v6b v6o v11 v17 v18 v19 σ)) v0b v0o v2b v2o v4 v6b v6o v11 v17 v18 v19 σ := by
 refine (P199_3 E D W N (C199_1 C199_4 (C199_5 C199_6)) li2 v0b v0o v2b v2o v4 v6b v6o v11 v17 v18 v19 σ).trans ?_
 kernel_rfl
def L199_2 (n : Nat) : Nat → Nat → Nat → Nat → Int → Nat → Nat → V → V → Int → Int → H → Ans :=
 Nat.rec (fun _ _ _ _ _ _ _ _ _ _ _ _ => none) (fun _ ih => T199_2 E D W (J199_1 E D W N ) (J199_3 E D W N ih)) n
theorem LE199_2 (n : Nat) : ∀ (v0b v0o v2b v2o : Nat) (v4 : Int) (v6b v6o : Nat) (v11 v17 : V) (v18 v19 : Int) (σ : H),
 iterK (fun rec s' => denC E D W N (C199_2 C199_3) s' (fun s'' => keepS [(0, .ptr), (2, .ptr), (4, .i), (6, .ptr), (11, .any), (17, .any), (18, .i), (19, .i)] [] [] s'' rec) (blkK 0 (fun s' => denC E D W N (.keep [(0, .ptr), (2, .ptr), (4, .i), (6, .ptr), (11, .any)] [] [] (C199_1 C199_4 (C199_5 C199_6))) s' (Fin199 E) (fun _ _ => none) (Fin199 E)) (fun _ _ => none)) (Fin199 E)) n (S199_2 v0b v0o v2b v2o v4 v6b v6o v11 v17 v18 v19 σ) = L199_2 E D W N n v0b v0o v2b v2o v4 v6b v6o v11 v17 v18 v19 σ := by
 induction n with
 | zero => intro v0b v0o v2b v2o v4 v6b v6o v11 v17 v18 v19 σ; rfl
 | succ n ihn =>
  intro v0b v0o v2b v2o v4 v6b v6o v11 v17 v18 v19 σ
  rw [iterK_succ]
  refine (P199_2 E D W N (C199_1 C199_4 (C199_5 C199_6)) C199_3 (iterK (fun rec s' => denC E D W N (C199_2 C199_3) s' (fun s'' => keepS [(0, .ptr), (2, .ptr), (4, .i), (6, .ptr), (11, .any), (17, .any), (18, .i), (19, .i)] [] [] s'' rec) (blkK 0 (fun s' => denC E D W N (.keep [(0, .ptr), (2, .ptr), (4, .i), (6, .ptr), (11, .any)] [] [] (C199_1 C199_4 (C199_5 C199_6))) s' (Fin199 E) (fun _ _ => none) (Fin199 E)) (fun _ _ => none)) (Fin199 E)) n) v0b v0o v2b v2o v4 v6b v6o v11 v17 v18 v19 σ).trans ?_
  simp only [ihn, JE199_1, JE199_3]
  kernel_rfl
def J199_0 : Nat → Nat → Int → V → Bool → Bool → Bool → Bool → Int → Int → V → V → Int → Bool → Int → Nat → Nat → V → Int → H → Ans := T199_0 E D W (L199_2 E D W N N)
theorem JE199_0 (v0b v0o : Nat) (v1_0 : Int) (v1_1 : V) (v1_2 v1_3 v1_4 v1_5 : Bool) (v1_6 v1_7 : Int) (v1_8 v1_9 : V) (v1_10 : Int) (v1_11 : Bool) (v1_12 : Int) (v2b v2o : Nat) (v3 : V) (v4 : Int) (σ : H) :
 denC E D W N (C199_0 (C199_1 C199_4 (C199_5 C199_6)) (C199_2 C199_3)) (S199_0 v0b v0o v1_0 v1_1 v1_2 v1_3 v1_4 v1_5 v1_6 v1_7 v1_8 v1_9 v1_10 v1_11 v1_12 v2b v2o v3 v4 σ) (Fin199 E) (fun _ _ => none) (Fin199 E) = J199_0 E D W N v0b v0o v1_0 v1_1 v1_2 v1_3 v1_4 v1_5 v1_6 v1_7 v1_8 v1_9 v1_10 v1_11 v1_12 v2b v2o v3 v4 σ := by
 refine (P199_0 E D W N (C199_1 C199_4 (C199_5 C199_6)) (C199_2 C199_3)  v0b v0o v1_0 v1_1 v1_2 v1_3 v1_4 v1_5 v1_6 v1_7 v1_8 v1_9 v1_10 v1_11 v1_12 v2b v2o v3 v4 σ).trans ?_
 simp only [LE199_2]
 kernel_rfl
def F199 (args : List V) (σ : H) : Ans :=
 rtCons args fun x1 l2 =>
 rtPtr x1 fun b3 o4 =>
 rtCons l2 fun x5 l6 =>
 rtAgg x5 fun l7 =>
 rtCons l7 fun x8 l9 =>
 rtInt .i64 x8 fun x10 =>
 rtCons l9 fun x11 l12 =>
 rtCons l12 fun x13 l14 =>
 rtBool x13 fun x15 =>
 rtCons l14 fun x16 l17 =>
 rtBool x16 fun x18 =>
 rtCons l17 fun x19 l20 =>
 rtBool x19 fun x21 =>
 rtCons l20 fun x22 l23 =>
 rtBool x22 fun x24 =>
 rtCons l23 fun x25 l26 =>
 rtInt .i64 x25 fun x27 =>
 rtCons l26 fun x28 l29 =>
 rtInt .i64 x28 fun x30 =>
 rtCons l29 fun x31 l32 =>
 rtCons l32 fun x33 l34 =>
 rtCons l34 fun x35 l36 =>
 rtInt .i64 x35 fun x37 =>
 rtCons l36 fun x38 l39 =>
 rtBool x38 fun x40 =>
 rtCons l39 fun x41 l42 =>
 rtInt .i64 x41 fun x43 =>
 rtNil l42 (
 rtCons l6 fun x44 l45 =>
 rtPtr x44 fun b46 o47 =>
 rtCons l45 fun x48 l49 =>
 rtCons l49 fun x50 l51 =>
 rtInt .i64 x50 fun x52 =>
 rtNil l51 (
 J199_0 E D W N b3 o4 x10 x11 x15 x18 x21 x24 x27 x30 x31 x33 x37 x40 x43 b46 o47 x48 x52 σ))
def A199 : XFn := ⟨78, [.ptr, (.agg [.i, .any, .bool, .bool, .bool, .bool, .i, .i, .any, .any, .i, .bool, .i]), .ptr, .any, .i], [(.tmp 10)], (C199_0 (C199_1 C199_4 (C199_5 C199_6)) (C199_2 C199_3))⟩
theorem FE199 (args : List V) (σ : H) : runX E D W N A199 args σ = F199 E D W N args σ := by
 unfold F199
 simp only [← JE199_0]
 kernel_rfl
theorem AO199 : A199.body.ok = true := by kernel_rfl
def G200_0 : List AOper := [⟨(some 60), .load none (.tmp 6), none⟩, ⟨(some 61), .load none (.tmp 6), none⟩, ⟨(some 62), .nilck (.tmp 61), none⟩, ⟨(some 63), .faddr 5 (.tmp 62), none⟩, ⟨(some 64), .load none (.tmp 63), none⟩, ⟨(some 65), .load none (.tmp 11), none⟩, ⟨(some 66), .mov (.tmp 0), none⟩, ⟨(some 67), .nilck (.tmp 66), none⟩, ⟨(some 68), .faddr 0 (.tmp 67), none⟩, ⟨(some 69), .load none (.tmp 68), none⟩, ⟨(some 70), .call 106 [(.tmp 69), (.con (V.int .i64 (Int.ofNat 70000)))], none⟩, ⟨(some 71), .build [(V.int .i64 (Int.ofNat 0)), V.nils] [(0, 1, (.tmp 65)), (1, 1, (.tmp 70))], none⟩, ⟨(some 72), .buildSlice 70 1 [(V.int .i64 (Int.ofNat 0)), V.nils] [(0, 2, (.tmp 71))], none⟩, ⟨(some 73), .append 70 2 32 (.tmp 64) (.tmp 72), none⟩, ⟨(some 74), .nilck (.tmp 60), none⟩, ⟨(some 75), .faddr 5 (.tmp 74), none⟩, ⟨none, .store 1 (.tmp 75) (.tmp 73), none⟩]
def H200_0 : List DP := [⟨0, [6]⟩, ⟨0, [6]⟩, ⟨2, [61]⟩, ⟨6, [62]⟩, ⟨14, [63]⟩, ⟨0, [11]⟩, ⟨0, [0]⟩, ⟨64, [66]⟩, ⟨192, [67]⟩, ⟨448, [68]⟩, ⟨960, [69]⟩, ⟨2016, [65, 70]⟩, ⟨4064, [71]⟩, ⟨8190, [64, 72]⟩, ⟨16383, [60]⟩, ⟨32767, [74]⟩, ⟨65535, [75, 73]⟩]
def Fin200 (E : List (Nat × Blk)) : St → Ans := fun s => resK E s [] fun l => some (oneV l, s.σ)
def C200_0 (cc1 : XC) : XC := (.seq (.ops (.p 6 [2] (.box 175 (.t 2))<|
.p 7 [3] (.box 3 (.t 3))<|
.nil))
 (.seq (.ops (.m 13 0<|
.n 14 13<|
.f 15 1 14<|
.f 16 3 15<|
.l 17 .any 16<|
.m 18 1<|
.s 19 13 17 18<|
.op (some 20) (.agg [.i, .any, .bool, .bool, .bool, .bool, .i, .i, .any, .any, .i, .bool, .i]) [19] (.load (some 13) (.t 19))<|
.p 8 [] (.alloc 145 [(V.int .i64 (Int.ofNat 0)), V.nils, (V.bool false), (V.bool false), (V.bool false), (V.bool false), (V.int .i64 (Int.ofNat 0)), (V.int .i64 (Int.ofNat 0)), V.nils, V.nils, (V.int .i64 (Int.ofNat 0)), (V.bool false), (V.int .i64 (Int.ofNat 0))])<|
.op none (.agg [.i, .any, .bool, .bool, .bool, .bool, .i, .i, .any, .any, .i, .bool, .i]) [8, 20] (.store 13 (.t 8) (.t 20))<|
.nil))
 (.seq (.ops (.m 21 0<|
.n 22 21<|
.f 23 1 22<|
.op (some 24) (.agg [.str, .any, .any, .any]) [23] (.load (some 4) (.t 23))<|
.m 25 1<|
.k 26 .one 155 [(.t 24), (.t 25)]<|
.p 9 [] (.alloc 187 [V.nils])<|
.w 1 9 26<|
.nil))
 (.seq (.ops (.m 27 0<|
.k 28 .one 270 [(.t 27)]<|
.u 29 28<|
.q 30 0<|
.nil))
 (.block 0 (.loop [(0, .ptr), (6, .ptr), (7, .ptr), (8, .ptr), (9, .ptr), (28, .any), (29, .i), (30, .i)] [] [] cc1))))))
def T200_0 (E : List (Nat × Blk)) (D : Den) (W : DrawFn) (K1 : Nat → Nat → Nat → Nat → Nat → Nat → Nat → Nat → Nat → Nat → V → Int → Int → H → Ans) (v0b v0o : Nat) (v1 : Int) (v2 : V) (v3 : Int) (σ : H) : Ans :=
 chk (allOne (V.cells v2)) (
 let s1 := newB σ (.cells (V.cells v2));
 chk (allOne (V.cells (V.int .i64 v3))) (
 let s2 := newB s1 (.cells (V.cells (V.int .i64 v3)));
 ldK E s2 v0b (Nat.add (Nat.add v0o 1) 3) fun u3 =>
 iaddrSK 13 u3 v1 fun b4 o5 =>
 ldnK E s2 b4 o5 13 fun l6 =>
 rtCons l6 fun x7 l8 =>
 rtInt .i64 x7 fun x9 =>
 rtCons l8 fun x10 l11 =>
 rtCons l11 fun x12 l13 =>
 rtBool x12 fun x14 =>
 rtCons l13 fun x15 l16 =>
 rtBool x15 fun x17 =>
 rtCons l16 fun x18 l19 =>
 rtBool x18 fun x20 =>
 rtCons l19 fun x21 l22 =>
 rtBool x21 fun x23 =>
 rtCons l22 fun x24 l25 =>
 rtInt .i64 x24 fun x26 =>
 rtCons l25 fun x27 l28 =>
 rtInt .i64 x27 fun x29 =>
 rtCons l28 fun x30 l31 =>
 rtCons l31 fun x32 l33 =>
 rtCons l33 fun x34 l35 =>
 rtInt .i64 x34 fun x36 =>
 rtCons l35 fun x37 l38 =>
 rtBool x37 fun x39 =>
 rtCons l38 fun x40 l41 =>
 rtInt .i64 x40 fun x42 =>
 rtNil l41 (
 let s43 := newB s2 (.cells [(V.int .i64 (Int.ofNat 0)), V.nils, (V.bool false), (V.bool false), (V.bool false), (V.bool false), (V.int .i64 (Int.ofNat 0)), (V.int .i64 (Int.ofNat 0)), V.nils, V.nils, (V.int .i64 (Int.ofNat 0)), (V.bool false), (V.int .i64 (Int.ofNat 0))]);
 stK 13 (H.next s2) 0 (V.agg [(V.int .i64 x9), x10, (V.bool x14), (V.bool x17), (V.bool x20), (V.bool x23), (V.int .i64 x26), (V.int .i64 x29), x30, x32, (V.int .i64 x36), (V.bool x39), (V.int .i64 x42)]) s43 fun s44 =>
 ldnK E s44 v0b (Nat.add v0o 1) 4 fun l45 =>
 rtCons l45 fun x46 l47 =>
 rtStr x46 fun x48 =>
 rtCons l47 fun x49 l50 =>
 rtCons l50 fun x51 l52 =>
 rtCons l52 fun x53 l54 =>
 rtNil l54 (
 callK (D 155 [(V.agg [(V.str x48), x49, x51, x53]), (V.int .i64 v1)] s44) fun u55 s56 =>
 rtOne u55 (
 let s57 := newB s56 (.cells [V.nils]);
 stK 1 (H.next s56) 0 u55 s57 fun s58 =>
 callK (D 270 [(V.ptr v0b v0o)] s58) fun u59 s60 =>
 rtOne u59 (
 slenK u59 fun n61 =>
 K1 v0b v0o (H.next σ) 0 (H.next s1) 0 (H.next s2) 0 (H.next s56) 0 u59 (Int.ofNat n61) (Int.ofNat 0) s60))))))
def C200_1 (cc2 : XC) : XC := (.seq (.ops (.b 31 .lss .none (.t 30) (.t 29)<|
.nil))
 (.seq (.cond (.tmp 31) .skip
 (.exit 0))
 (.seq (.block 1 (.seq (.ops (.s 32 1 28 30<|
.l 33 .i 32<|
.p 11 [] (.alloc 3 [(V.int .i64 (Int.ofNat 0))])<|
.w 1 11 33<|
.nil))
 (.block 2 (.seq (.ops (.m 49 0<|
.k 50 .bool 102 [(.t 49)]<|
.p 51 [50] (.un .not (.t 50))<|
.m 48 51<|
.nil))
 (.cond (.tmp 48) .ret
 (.seq (.ops (.l 53 .i 11<|
.l 54 .any 9<|
.u 55 54<|
.b 56 .geq .none (.t 53) (.t 55)<|
.m 52 56<|
.nil))
 (.cond (.tmp 52) (.seq (.ops (.l 57 .any 6<|
.n 58 57<|
.f 59 4 58<|
.op none .any [59] (.store 1 (.t 59) (.i 2))<|
.nil))
 (.keep [(0, .ptr), (6, .ptr), (7, .ptr), (8, .ptr), (9, .ptr), (11, .ptr), (28, .any), (29, .i), (30, .i)] [] [] (.gdraw G200_0 H200_0 [(0, .ptr), (6, .ptr), (7, .ptr), (8, .ptr), (9, .ptr), (28, .any), (29, .i), (30, .i)])))
 (.seq (.draw (.f 77 9 8<|
.l 78 .any 77<|
.l 79 .any 9<|
.l 80 .i 11<|
.s 81 1 79 80<|
.l 82 .any 81<|
.p 83 [82] (.iaddrS 1 (.t 82) (.i 0))<|
.l 84 .i 83<|
.s 85 11 78 84<|
.f 86 10 85<|
.l 87 .i 86<|
.b 88 .gtr .none (.t 87) (.i 0)<|
.m 76 88<|
.nil) [0, 1, 0, 0, 12, 28, 60, 124, 255, 511, 1023, 2047, 4095])
 (.cond (.tmp 76) (.ops (.m 89 0<|
.p 90 [8, 6, 9, 11, 7] (.mkfn 271 [] [(.t 8), (.t 6), (.t 9), (.t 11), (.t 7)])<|
.k 91 (.tup []) 197 [(.t 89), (.t 90)]<|
.nil))
 (.seq (.ops (.l 34 .any 9<|
.l 35 .i 11<|
.s 36 1 34 35<|
.l 37 .any 36<|
.p 38 [37] (.iaddrS 1 (.t 37) (.i 0))<|
.l 39 .i 38<|
.p 12 [] (.alloc 3 [(V.int .i64 (Int.ofNat 0))])<|
.w 1 12 39<|
.nil))
 (.seq (.ops (.m 40 0<|
.n 41 40<|
.f 42 5 41<|
.l 43 .any 42<|
.k 44 .bool 101 [(.t 43), (.con (V.int .i64 (Int.negSucc 0)))]<|
.nil))
 (.ops (.m 45 0<|
.p 46 [8, 12, 7, 6] (.mkfn 272 [] [(.t 8), (.t 12), (.t 7), (.t 6)])<|
.k 47 (.tup []) 197 [(.t 45), (.t 46)]<|
.nil)))))))))))))
 (.keep [(0, .ptr), (6, .ptr), (7, .ptr), (8, .ptr), (9, .ptr), (28, .any), (29, .i), (30, .i)] [] [] cc2))))
def T200_1 (K2 : Nat → Nat → Nat → Nat → Nat → Nat → Nat → Nat → Nat → Nat → V → Int → Int → H → Ans) (v0b v0o v6b v6o v7b v7o v8b v8o v9b v9o : Nat) (v28 : V) (v29 v30 : Int) (σ : H) : Ans :=
 condK (ltF v30 v29) (
 iaddrSK 1 v28 v30 fun b1 o2 =>
 ldK E σ b1 o2 fun u3 =>
 rtInt .i64 u3 fun x4 =>
 let s5 := newB σ (.cells [(V.int .i64 (Int.ofNat 0))]);
 stK 1 (H.next σ) 0 (V.int .i64 x4) s5 fun s6 =>
 callK (D 102 [(V.ptr v0b v0o)] s6) fun u7 s8 =>
 rtBool u7 fun x9 =>
 condK (not x9) (
 some ((V.tup []), s8)) (
 ldK E s8 (H.next σ) 0 fun u10 =>
 rtInt .i64 u10 fun x11 =>
 ldK E s8 v9b v9o fun u12 =>
 slenK u12 fun n13 =>
 condK (leF (Int.ofNat n13) x11) (
 ldK E s8 v6b v6o fun u14 =>
 rtPtr u14 fun b15 o16 =>
 stK 1 b15 (Nat.add o16 4) (V.int .i64 (Int.ofNat 2)) s8 fun s17 =>
 gdrawK (W G200_0 H200_0 [(0, (V.ptr v0b v0o)), (6, (V.ptr v6b v6o)), (7, (V.ptr v7b v7o)), (8, (V.ptr v8b v8o)), (9, (V.ptr v9b v9o)), (11, (V.ptr (H.next σ) 0)), (28, v28), (29, (V.int .i64 v29)), (30, (V.int .i64 v30))] s17) fun e18 s19 =>
 getL e18 0 fun u20 =>
 rtPtr u20 fun b21 o22 =>
 getL e18 6 fun u23 =>
 rtPtr u23 fun b24 o25 =>
 getL e18 7 fun u26 =>
 rtPtr u26 fun b27 o28 =>
 getL e18 8 fun u29 =>
 rtPtr u29 fun b30 o31 =>
 getL e18 9 fun u32 =>
 rtPtr u32 fun b33 o34 =>
 getL e18 28 fun u35 =>
 getL e18 29 fun u36 =>
 rtInt .i64 u36 fun x37 =>
 getL e18 30 fun u38 =>
 rtInt .i64 u38 fun x39 =>
 K2 b21 o22 b24 o25 b27 o28 b30 o31 b33 o34 u35 x37 x39 s19) (
 ldK E s8 v8b (Nat.add v8o 9) fun u40 =>
 ldK E s8 v9b v9o fun u41 =>
 ldK E s8 (H.next σ) 0 fun u42 =>
 rtInt .i64 u42 fun x43 =>
 iaddrSK 1 u41 x43 fun b44 o45 =>
 ldK E s8 b44 o45 fun u46 =>
 iaddrSK 1 u46 (Int.ofNat 0) fun b47 o48 =>
 ldK E s8 b47 o48 fun u49 =>
 rtInt .i64 u49 fun x50 =>
 iaddrSK 11 u40 x50 fun b51 o52 =>
 ldK E s8 b51 (Nat.add o52 10) fun u53 =>
 rtInt .i64 u53 fun x54 =>
 condK (ltF (Int.ofNat 0) x54) (
 callK (D 197 [(V.ptr v0b v0o), (V.fn 271 [] [(V.ptr v8b v8o), (V.ptr v6b v6o), (V.ptr v9b v9o), (V.ptr (H.next σ) 0), (V.ptr v7b v7o)])] s8) fun u55 s56 =>
 rtTup u55 fun l57 =>
 rtNil l57 (
 K2 v0b v0o v6b v6o v7b v7o v8b v8o v9b v9o v28 v29 v30 s56)) (
 ldK E s8 v9b v9o fun u58 =>
 ldK E s8 (H.next σ) 0 fun u59 =>
 rtInt .i64 u59 fun x60 =>
 iaddrSK 1 u58 x60 fun b61 o62 =>
 ldK E s8 b61 o62 fun u63 =>
 iaddrSK 1 u63 (Int.ofNat 0) fun b64 o65 =>
 ldK E s8 b64 o65 fun u66 =>
 rtInt .i64 u66 fun x67 =>
 let s68 := newB s8 (.cells [(V.int .i64 (Int.ofNat 0))]);
 stK 1 (H.next s8) 0 (V.int .i64 x67) s68 fun s69 =>
 ldK E s69 v0b (Nat.add v0o 5) fun u70 =>
 callK (D 101 [u70, (V.int .i64 (Int.negSucc 0))] s69) fun u71 s72 =>
 rtBool u71 fun x73 =>
 callK (D 197 [(V.ptr v0b v0o), (V.fn 272 [] [(V.ptr v8b v8o), (V.ptr (H.next s8) 0), (V.ptr v7b v7o), (V.ptr v6b v6o)])] s72) fun u74 s75 =>
 rtTup u74 fun l76 =>
 rtNil l76 (
 K2 v0b v0o v6b v6o v7b v7o v8b v8o v9b v9o v28 v29 v30 s75))))) (
 some ((V.tup []), σ))
def C200_2 : XC := (.ops (.b 92 .add .none (.t 30) (.i 1)<|
.m 30 92<|
.nil))
def T200_2 (E : List (Nat × Blk)) (D : Den) (W : DrawFn) (R1 : Nat → Nat → Nat → Nat → Nat → Nat → Nat → Nat → Nat → Nat → V → Int → Int → H → Ans) (v0b v0o v6b v6o v7b v7o v8b v8o v9b v9o : Nat) (v28 : V) (v29 v30 : Int) (σ : H) : Ans :=
 R1 v0b v0o v6b v6o v7b v7o v8b v8o v9b v9o v28 v29 (addF .i64 v30 (Int.ofNat 1)) σ
def S200_0 (v0b v0o : Nat) (v1 : Int) (v2 : V) (v3 : Int) (σ : H) : St := ⟨[(0, (V.ptr v0b v0o)), (1, (V.int .i64 v1)), (2, v2), (3, (V.int .i64 v3))], [], [], σ⟩
def S200_1 (v0b v0o v6b v6o v7b v7o v8b v8o v9b v9o : Nat) (v28 : V) (v29 v30 : Int) (σ : H) : St := ⟨[(0, (V.ptr v0b v0o)), (6, (V.ptr v6b v6o)), (7, (V.ptr v7b v7o)), (8, (V.ptr v8b v8o)), (9, (V.ptr v9b v9o)), (28, v28), (29, (V.int .i64 v29)), (30, (V.int .i64 v30))], [], [], σ⟩
def S200_2 (v0b v0o v6b v6o v7b v7o v8b v8o v9b v9o : Nat) (v28 : V) (v29 v30 : Int) (σ : H) : St := ⟨[(0, (V.ptr v0b v0o)), (6, (V.ptr v6b v6o)), (7, (V.ptr v7b v7o)), (8, (V.ptr v8b v8o)), (9, (V.ptr v9b v9o)), (28, v28), (29, (V.int .i64 v29)), (30, (V.int .i64 v30))], [], [], σ⟩
theorem P200_0 (cc1 : XC) (v0b v0o : Nat) (v1 : Int) (v2 : V) (v3 : Int) (σ : H) :
 denC E D W N (C200_0 cc1) (S200_0 v0b v0o v1 v2 v3 σ) (Fin200 E) (fun _ _ => none) (Fin200 E) =
 T200_0 E D W (fun v0b v0o v6b v6o v7b v7o v8b v8o v9b v9o v28 v29 v30 σ => iterK (fun rec s' => denC E D W N cc1 s' (fun s'' => keepS [(0, .ptr), (6, .ptr), (7, .ptr), (8, .ptr), (9, .ptr), (28, .any), (29, .i), (30, .i)] [] [] s'' rec) (blkK 0 (Fin200 E) (fun _ _ => none)) (Fin200 E)) N (S200_1 v0b v0o v6b v6o v7b v7o v8b v8o v9b v9o v28 v29 v30 σ)) v0b v0o v1 v2 v3 σ := by kernel_rfl
theorem P200_1 (cc2 : XC) (li1 : St → Ans) (v0b v0o v6b v6o v7b v7o v8b v8o v9b v9o : Nat) (v28 : V) (v29 v30 : Int) (σ : H) :
 denC E D W N (C200_1 cc2) (S200_1 v0b v0o v6b v6o v7b v7o v8b v8o v9b v9o v28 v29 v30 σ) (fun s'' => keepS [(0, .ptr), (6, .ptr), (7, .ptr), (8, .ptr), (9, .ptr), (28, .any), (29, .i), (30, .i)] [] [] s'' li1) (blkK 0 (Fin200 E) (fun _ _ => none)) (Fin200 E) =
 T200_1 E D W (fun v0b v0o v6b v6o v7b v7o v8b v8o v9b v9o v28 v29 v30 σ => denC E D W N cc2 (S200_2 v0b v0o v6b v6o v7b v7o v8b v8o v9b v9o v28 v29 v30 σ) (fun s'' => keepS [(0, .ptr), (6, .ptr), (7, .ptr), (8, .ptr), (9, .ptr), (28, .any), (29, .i), (30, .i)] [] [] s'' li1) (blkK 0 (Fin200 E) (fun _ _ => none)) (Fin200 E)) v0b v0o v6b v6o v7b v7o v8b v8o v9b v9o v28 v29 v30 σ := by kernel_rfl
theorem P200_2 (li1 : St → Ans) (v0b v0o v6b v6o v7b v7o v8b v8o v9b v9o : Nat) (v28 : V) (v29 v30 : Int) (σ : H) :
 denC E D W N (C200_2 ) (S200_2 v0b v0o v6b v6o v7b v7o v8b v8o v9b v9o v28 v29 v30 σ) (fun s'' => keepS [(0, .ptr), (6, .ptr), (7, .ptr), (8, .ptr), (9, .ptr), (28, .any), (29, .i), (30, .i)] [] [] s'' li1) (blkK 0 (Fin200 E) (fun _ _ => none)) (Fin200 E) =
 T200_2 E D W (fun v0b v0o v6b v6o v7b v7o v8b v8o v9b v9o v28 v29 v30 σ => li1 (S200_1 v0b v0o v6b v6o v7b v7o v8b v8o v9b v9o v28 v29 v30 σ)) v0b v0o v6b v6o v7b v7o v8b v8o v9b v9o v28 v29 v30 σ := by kernel_rfl
def J200_2 (E : List (Nat × Blk)) (D : Den) (W : DrawFn) (N : Nat) (R1 : Nat → Nat → Nat → Nat → Nat → Nat → Nat → Nat → Nat → Nat → V → Int → Int → H → Ans) : Nat → Nat → Nat → Nat → Nat → Nat → Nat → Nat → Nat → Nat → V → Int → Int → H → Ans := T200_2 E D W R1
theorem JE200_2 (li1 : St → Ans) (v0b v0o v6b v6o v7b v7o v8b v8o v9b v9o : Nat) (v28 : V) (v29 v30 : Int) (σ : H) :
 denC E D W N C200_2 (S200_2 v0b v0o v6b v6o v7b v7o v8b v8o v9b v9o v28 v29 v30 σ) (fun s'' => keepS [(0, .ptr), (6, .ptr), (7, .ptr), (8, .ptr), (9, .ptr), (28, .any), (29, .i), (30, .i)] [] [] s'' li1) (blkK 0 (Fin200 E) (fun _ _ => none)) (Fin200 E) = J200_2 E D W N (fun v0b v0o v6b v6o v7b v7o v8b v8o v9b v9o v28 v29 v30 σ => li1 (S200_1 v0b v0o v6b v6o v7b v7o v8b v8o v9b v9o v28 v29 v30 σ)) v0b v0o v6b v6o v7b v7o v8b v8o v9b v9o v28 v29 v30 σ := by
 refine (P200_2 E D W N  li1 v0b v0o v6b v6o v7b v7o v8b v8o v9b v9o v28 v29 v30 σ).trans ?_
 kernel_rfl
def L200_1 (n : Nat) : Nat → Nat → Nat → Nat → Nat → Nat → Nat → Nat → Nat → Nat → V → Int → Int → H → Ans :=
 Nat.rec (fun _ _ _ _ _ _ _ _ _ _ _ _ _ _ => none) (fun _ ih => T200_1 E D W (J200_2 E D W N ih)) n
theorem LE200_1 (n : Nat) : ∀ (v0b v0o v6b v6o v7b v7o v8b v8o v9b v9o : Nat) (v28 : V) (v29 v30 : Int) (σ : H),
 iterK (fun rec s' => denC E D W N (C200_1 C200_2) s' (fun s'' => keepS [(0, .ptr), (6, .ptr), (7, .ptr), (8, .ptr), (9, .ptr), (28, .any), (29, .i), (30, .i)] [] [] s'' rec) (blkK 0 (Fin200 E) (fun _ _ => none)) (Fin200 E)) n (S200_1 v0b v0o v6b v6o v7b v7o v8b v8o v9b v9o v28 v29 v30 σ) = L200_1 E D W N n v0b v0o v6b v6o v7b v7o v8b v8o v9b v9o v28 v29 v30 σ := by
 induction n with
 | zero => intro v0b v0o v6b v6o v7b v7o v8b v8o v9b v9o v28 v29 v30 σ; rfl
 | succ n ihn =>
  intro v0b v0o v6b v6o v7b v7o v8b v8o v9b v9o v28 v29 v30 σ
  rw [iterK_succ]
  refine (P200_1 E D W N C200_2 (iterK (fun rec s' => denC E D W N (C200_1 C200_2) s' (fun s'' => keepS [(0, .ptr), (6, .ptr), (7, .ptr), (8, .ptr), (9, .ptr), (28, .any), (29, .i), (30, .i)] [] [] s'' rec) (blkK 0 (Fin200 E) (fun _ _ => none)) (Fin200 E)) n) v0b v0o v6b v6o v7b v7o v8b v8o v9b v9o v28 v29 v30 σ).trans ?_
  simp only [ihn, JE200_2]
  kernel_rfl
def J200_0 : Nat → Nat → Int → V → Int → H → Ans := T200_0 E D W (L200_1 E D W N N)
theorem JE200_0 (v0b v0o : Nat) (v1 : Int) (v2 : V) (v3 : Int) (σ : H) :
 denC E D W N (C200_0 (C200_1 C200_2)) (S200_0 v0b v0o v1 v2 v3 σ) (Fin200 E) (fun _ _ => none) (Fin200 E) = J200_0 E D W N v0b v0o v1 v2 v3 σ := by
 refine (P200_0 E D W N (C200_1 C200_2)  v0b v0o v1 v2 v3 σ).trans ?_
 simp only [LE200_1]
 kernel_rfl
def F200 (args : List V) (σ : H) : Ans :=
 rtCons args fun x1 l2 =>
 rtPtr x1 fun b3 o4 =>
 rtCons l2 fun x5 l6 =>
 rtInt .i64 x5 fun x7 =>
 rtCons l6 fun x8 l9 =>
 rtCons l9 fun x10 l11 =>
 rtInt .i64 x10 fun x12 =>
 rtNil l11 (
 J200_0 E D W N b3 o4 x7 x8 x12 σ)
def A200 : XFn := ⟨93, [.ptr, .i, .any, .i], [], (C200_0 (C200_1 C200_2))⟩
theorem FE200 (args : List V) (σ : H) : runX E D W N A200 args σ = F200 E D W N args σ := by
 unfold F200
 simp only [← JE200_0]
 kernel_rfl
theorem AO200 : A200.body.ok = true := by kernel_rfl
def Fin201 (E : List (Nat × Blk)) : St → Ans := fun s => resK E s [(.tmp 2)] fun l => some (oneV l, s.σ)
def C201_0 : XC := (.seq (.ops (.q 2 0<|
.nil))
 (.seq (.seq (.ops (.m 3 0<|
.b 4 .eql .ptr (.t 3) (.con V.nilp)<|
.nil))
 (.cond (.tmp 4) (.seq (.ops (.q 2 2<|
.nil))
 .ret)
 .skip))
 (.seq (.ops (.m 5 0<|
.n 6 5<|
.f 7 2 6<|
.l 8 .i 7<|
.m 2 8<|
.nil))
 .ret)))
def T201_0 (E : List (Nat × Blk)) (D : Den) (W : DrawFn) (v0 : V) (σ : H) : Ans :=
 eqK .ptr v0 V.nilp fun c1 =>
 condK c1 (
 some ((V.int .i64 (Int.ofNat 2)), σ)) (
 rtPtr v0 fun b2 o3 =>
 ldK E σ b2 (Nat.add o3 2) fun u4 =>
 rtInt .i64 u4 fun x5 =>
 some ((V.int .i64 x5), σ))
def S201_0 (v0 : V) (σ : H) : St := ⟨[(0, v0)], [], [], σ⟩
theorem P201_0 (v0 : V) (σ : H) :
 denC E D W N (C201_0 ) (S201_0 v0 σ) (Fin201 E) (fun _ _ => none) (Fin201 E) =
 T201_0 E D W  v0 σ := by kernel_rfl
def J201_0 (E : List (Nat × Blk)) (D : Den) (W : DrawFn) (N : Nat) : V → H → Ans := T201_0 E D W
theorem JE201_0 (v0 : V) (σ : H) :
 denC E D W N C201_0 (S201_0 v0 σ) (Fin201 E) (fun _ _ => none) (Fin201 E) = J201_0 E D W N v0 σ := by
 refine (P201_0 E D W N   v0 σ).trans ?_
 kernel_rfl
def F201 (args : List V) (σ : H) : Ans :=
 rtCons args fun x1 l2 =>
 rtNil l2 (
 J201_0 E D W N x1 σ)
def A201 : XFn := ⟨9, [.any], [(.tmp 2)], C201_0⟩
theorem FE201 (args : List V) (σ : H) : runX E D W N A201 args σ = F201 E D W N args σ := by
 unfold F201
 simp only [← JE201_0]
 kernel_rfl
theorem AO201 : A201.body.ok = true := by kernel_rfl
def Fin202 (E : List (Nat × Blk)) : St → Ans := fun s => resK E s [(.tmp 2)] fun l => some (oneV l, s.σ)
def C202_0 : XC := (.seq (.ops (.q 2 0<|
.nil))
 (.seq (.seq (.ops (.m 3 0<|
.b 4 .eql .ptr (.t 3) (.con V.nilp)<|
.nil))
 (.cond (.tmp 4) (.seq (.ops (.q 2 0<|
.nil))
 .ret)
 .skip))
 (.seq (.ops (.m 5 0<|
.n 6 5<|
.f 7 0 6<|
.k 8 .i 203 [(.t 7)]<|
.m 2 8<|
.nil))
 .ret)))
def T202_0 (E : List (Nat × Blk)) (D : Den) (W : DrawFn) (v0 : V) (σ : H) : Ans :=
 eqK .ptr v0 V.nilp fun c1 =>
 condK c1 (
 some ((V.int .i64 (Int.ofNat 0)), σ)) (
 rtPtr v0 fun b2 o3 =>
 callK (D 203 [(V.ptr b2 o3)] σ) fun u4 s5 =>
 rtInt .i64 u4 fun x6 =>
 some ((V.int .i64 x6), s5))
def S202_0 (v0 : V) (σ : H) : St := ⟨[(0, v0)], [], [], σ⟩
theorem P202_0 (v0 : V) (σ : H) :
 denC E D W N (C202_0 ) (S202_0 v0 σ) (Fin202 E) (fun _ _ => none) (Fin202 E) =
 T202_0 E D W  v0 σ := by kernel_rfl
def J202_0 (E : List (Nat × Blk)) (D : Den) (W : DrawFn) (N : Nat) : V → H → Ans := T202_0 E D W
theorem JE202_0 (v0 : V) (σ : H) :
 denC E D W N C202_0 (S202_0 v0 σ) (Fin202 E) (fun _ _ => none) (Fin202 E) = J202_0 E D W N v0 σ := by
 refine (P202_0 E D W N   v0 σ).trans ?_
 kernel_rfl
def F202 (args : List V) (σ : H) : Ans :=
 rtCons args fun x1 l2 =>
 rtNil l2 (
 J202_0 E D W N x1 σ)
def A202 : XFn := ⟨9, [.any], [(.tmp 2)], C202_0⟩
theorem FE202 (args : List V) (σ : H) : runX E D W N A202 args σ = F202 E D W N args σ := by
 unfold F202
 simp only [← JE202_0]
 kernel_rfl
theorem AO202 : A202.body.ok = true := by kernel_rfl
def Fin203 (E : List (Nat × Blk)) : St → Ans := fun s => resK E s [(.tmp 2)] fun l => some (oneV l, s.σ)
def C203_0 : XC := (.seq (.ops (.q 2 0<|
.nil))
 (.seq (.draw (.m 3 0<|
.n 4 3<|
.f 5 0 4<|
.l 6 .any 5<|
.u 7 6<|
.b 8 .mul .none (.i 8) (.t 7)<|
.m 9 0<|
.n 10 9<|
.f 11 1 10<|
.l 12 .i 11<|
.b 13 .sub .none (.t 8) (.t 12)<|
.m 2 13<|
.nil) [0, 1, 3, 7, 15, 31, 0, 64, 192, 448, 1023, 2047])
 .ret))
def T203_0 (E : List (Nat × Blk)) (D : Den) (W : DrawFn) (v0b v0o : Nat) (σ : H) : Ans :=
 ldK E σ v0b v0o fun u1 =>
 slenK u1 fun n2 =>
 ldK E σ v0b (Nat.add v0o 1) fun u3 =>
 rtInt .i64 u3 fun x4 =>
 some ((V.int .i64 (subF .i64 (mulF .i64 (Int.ofNat 8) (Int.ofNat n2)) x4)), σ)
def S203_0 (v0b v0o : Nat) (σ : H) : St := ⟨[(0, (V.ptr v0b v0o))], [], [], σ⟩
theorem P203_0 (v0b v0o : Nat) (σ : H) :
 denC E D W N (C203_0 ) (S203_0 v0b v0o σ) (Fin203 E) (fun _ _ => none) (Fin203 E) =
 T203_0 E D W  v0b v0o σ := by kernel_rfl
def J203_0 (E : List (Nat × Blk)) (D : Den) (W : DrawFn) (N : Nat) : Nat → Nat → H → Ans := T203_0 E D W
theorem JE203_0 (v0b v0o : Nat) (σ : H) :
 denC E D W N C203_0 (S203_0 v0b v0o σ) (Fin203 E) (fun _ _ => none) (Fin203 E) = J203_0 E D W N v0b v0o σ := by
 refine (P203_0 E D W N   v0b v0o σ).trans ?_
 kernel_rfl
def F203 (args : List V) (σ : H) : Ans :=
 rtCons args fun x1 l2 =>
 rtPtr x1 fun b3 o4 =>
 rtNil l2 (
 J203_0 E D W N b3 o4 σ)
def A203 : XFn := ⟨14, [.ptr], [(.tmp 2)], C203_0⟩
theorem FE203 (args : List V) (σ : H) : runX E D W N A203 args σ = F203 E D W N args σ := by
 unfold F203
 simp only [← JE203_0]
 kernel_rfl
theorem AO203 : A203.body.ok = true := by kernel_rfl
def Fin204 (E : List (Nat × Blk)) : St → Ans := fun s => resK E s [(.tmp 4)] fun l => some (oneV l, s.σ)
def C204_0 (cc1 : XC) (cc2 : XC) : XC := (.seq (.ops (.c 4 (V.int .u32 (Int.ofNat 0))<|
.nil))
 (.seq (.ops (.c 5 (V.int .u32 (Int.ofNat 0))<|
.nil))
 (.seq (.seq (.ops (.m 6 1<|
.q 7 0<|
.nil))
 (.block 0 (.loop [(0, .any), (5, (.int .u32)), (6, .i), (7, .i)] [] [] cc2)))
 (.keep [(5, (.int .u32))] [] [] cc1))))
def T204_0 (E : List (Nat × Blk)) (D : Den) (W : DrawFn) (K2 : V → Int → Int → Int → H → Ans) (v0 : V) (v1 : Int) (σ : H) : Ans :=
 K2 v0 (Int.ofNat 0) v1 (Int.ofNat 0) σ
def C204_1 : XC := (.seq (.ops (.m 16 5<|
.m 4 16<|
.nil))
 .ret)
def T204_1 (E : List (Nat × Blk)) (D : Den) (W : DrawFn) (v5 : Int) (σ : H) : Ans :=
 some ((V.int .u32 v5), σ)
def C204_2 : XC := (.seq (.ops (.b 8 .lss .none (.t 7) (.t 6)<|
.nil))
 (.seq (.cond (.tmp 8) .skip
 (.exit 0))
 (.seq (.block 1 (.ops (.m 9 5<|
.b 10 .shl .none (.t 9) (.con (V.int .u64 (Int.ofNat 1)))<|
.m 11 0<|
.k 12 .i 273 [(.t 11)]<|
.p 13 [12] (.conv (.toInt .u32) (.t 12))<|
.b 14 .or .none (.t 10) (.t 13)<|
.m 5 14<|
.nil)))
 (.ops (.b 15 .add .none (.t 7) (.i 1)<|
.m 7 15<|
.nil)))))
def T204_2 (E : List (Nat × Blk)) (D : Den) (W : DrawFn) (K1 : Int → H → Ans) (R2 : V → Int → Int → Int → H → Ans) (v0 : V) (v5 v6 v7 : Int) (σ : H) : Ans :=
 condK (ltF v7 v6) (
 callK (D 273 [v0] σ) fun u1 s2 =>
 rtInt .i64 u1 fun x3 =>
 R2 v0 (orF .u32 (shlF .u32 v5 1) (wrapF .u32 x3)) v6 (addF .i64 v7 (Int.ofNat 1)) s2) (
 K1 v5 σ)
def S204_0 (v0 : V) (v1 : Int) (σ : H) : St := ⟨[(0, v0), (1, (V.int .i64 v1))], [], [], σ⟩
def S204_1 (v5 : Int) (σ : H) : St := ⟨[(5, (V.int .u32 v5))], [], [], σ⟩
def S204_2 (v0 : V) (v5 v6 v7 : Int) (σ : H) : St := ⟨[(0, v0), (5, (V.int .u32 v5)), (6, (V.int .i64 v6)), (7, (V.int .i64 v7))], [], [], σ⟩
theorem P204_0 (cc1 : XC) (cc2 : XC) (v0 : V) (v1 : Int) (σ : H) :
 denC E D W N (C204_0 cc1 cc2) (S204_0 v0 v1 σ) (Fin204 E) (fun _ _ => none) (Fin204 E) =
 T204_0 E D W (fun v0 v5 v6 v7 σ => iterK (fun rec s' => denC E D W N cc2 s' (fun s'' => keepS [(0, .any), (5, (.int .u32)), (6, .i), (7, .i)] [] [] s'' rec) (blkK 0 (fun s' => denC E D W N (.keep [(5, (.int .u32))] [] [] cc1) s' (Fin204 E) (fun _ _ => none) (Fin204 E)) (fun _ _ => none)) (Fin204 E)) N (S204_2 v0 v5 v6 v7 σ)) v0 v1 σ := by kernel_rfl
theorem P204_1 (v5 : Int) (σ : H) :
 denC E D W N (C204_1 ) (S204_1 v5 σ) (Fin204 E) (fun _ _ => none) (Fin204 E) =
 T204_1 E D W  v5 σ := by kernel_rfl
theorem P204_2 (cc1 : XC) (li2 : St → Ans) (v0 : V) (v5 v6 v7 : Int) (σ : H) :
 denC E D W N (C204_2 ) (S204_2 v0 v5 v6 v7 σ) (fun s'' => keepS [(0, .any), (5, (.int .u32)), (6, .i), (7, .i)] [] [] s'' li2) (blkK 0 (fun s' => denC E D W N (.keep [(5, (.int .u32))] [] [] cc1) s' (Fin204 E) (fun _ _ => none) (Fin204 E)) (fun _ _ => none)) (Fin204 E) =
 T204_2 E D W (fun v5 σ => denC E D W N cc1 (S204_1 v5 σ) (Fin204 E) (fun _ _ => none) (Fin204 E)) (fun v0 v5 v6 v7 σ => li2 (S204_2 v0 v5 v6 v7 σ)) v0 v5 v6 v7 σ := by kernel_rfl
def J204_1 (E : List (Nat × Blk)) (D : Den) (W : DrawFn) (N : Nat) : Int → H → Ans := T204_1 E D W
theorem JE204_1 (v5 : Int) (σ : H) :
 denC E D W N C204_1 (S204_1 v5 σ) (Fin204 E) (fun _ _ => none) (Fin204 E) = J204_1 E D W N v5 σ := by
 refine (P204_1 E D W N   v5 σ).trans ?_
 kernel_rfl
def L204_2 (n : Nat) : V → Int → Int → Int → H → Ans :=
 Nat.rec (fun _ _ _ _ _ => none) (fun _ ih => T204_2 E D W (J204_1 E D W N ) ih) n
theorem LE204_2 (n : Nat) : ∀ (v0 : V) (v5 v6 v7 : Int) (σ : H),
 iterK (fun rec s' => denC E D W N C204_2 s' (fun s'' => keepS [(0, .any), (5, (.int .u32)), (6, .i), (7, .i)] [] [] s'' rec) (blkK 0 (fun s' => denC E D W N (.keep [(5, (.int .u32))] [] [] C204_1) s' (Fin204 E) (fun _ _ => none) (Fin204 E)) (fun _ _ => none)) (Fin204 E)) n (S204_2 v0 v5 v6 v7 σ) = L204_2 E D W N n v0 v5 v6 v7 σ := by
 induction n with
 | zero => intro v0 v5 v6 v7 σ; rfl
 | succ n ihn =>
  intro v0 v5 v6 v7 σ
  rw [iterK_succ]
  refine (P204_2 E D W N C204_1 (iterK (fun rec s' => denC E D W N C204_2 s' (fun s'' => keepS [(0, .any), (5, (.int .u32)), (6, .i), (7, .i)] [] [] s'' rec) (blkK 0 (fun s' => denC E D W N (.keep [(5, (.int .u32))] [] [] C204_1) s' (Fin204 E) (fun _ _ => none) (Fin204 E)) (fun _ _ => none)) (Fin204 E)) n) v0 v5 v6 v7 σ).trans ?_
  simp only [ihn, JE204_1]
  kernel_rfl
def J204_0 : V → Int → H → Ans := T204_0 E D W (L204_2 E D W N N)
theorem JE204_0 (v0 : V) (v1 : Int) (σ : H) :
 denC E D W N (C204_0 C204_1 C204_2) (S204_0 v0 v1 σ) (Fin204 E) (fun _ _ => none) (Fin204 E) = J204_0 E D W N v0 v1 σ := by
 refine (P204_0 E D W N C204_1 C204_2  v0 v1 σ).trans ?_
 simp only [LE204_2]
 kernel_rfl
def F204 (args : List V) (σ : H) : Ans :=
 rtCons args fun x1 l2 =>
 rtCons l2 fun x3 l4 =>
 rtInt .i64 x3 fun x5 =>
 rtNil l4 (
 J204_0 E D W N x1 x5 σ)
def A204 : XFn := ⟨17, [.any, .i], [(.tmp 4)], (C204_0 C204_1 C204_2)⟩
theorem FE204 (args : List V) (σ : H) : runX E D W N A204 args σ = F204 E D W N args σ := by
 unfold F204
 simp only [← JE204_0]
 kernel_rfl
theorem AO204 : A204.body.ok = true := by kernel_rfl
def C205_0 : XC := (.seq (.ops (.c 4 (V.int .u8 (Int.ofNat 0))<|
.nil))
 (.seq (.seq (.ops (.m 5 1<|
.b 6 .lss .none (.t 5) (.i 0)<|
.m 7 6<|
.grp 7 false (.p 8 [1, 7] (.mov (.t 1))<|
.p 9 [0, 7] (.mov (.t 0))<|
.p 10 [9, 7] (.len true (.t 9))<|
.p 11 [8, 10, 7] (.bin .geq .none (.t 8) (.t 10))<|
.nil) 12 [7, 11] (.t 7) (.con (V.bool true)) (.t 11)<|
.nil))
 (.cond (.tmp 12) (.seq (.ops (.c 4 (V.int .u8 (Int.ofNat 0))<|
.nil))
 .ret)
 .skip))
 (.seq (.ops (.m 13 0<|
.m 14 1<|
.p 15 [13, 14] (.idxStr (.t 13) (.t 14))<|
.m 4 15<|
.nil))
 .ret)))
def A205 : XFn := ⟨16, [.str, .i], [(.tmp 4)], C205_0⟩
def C206_0 : XC := (.seq (.ops (.c 2 (V.bool false)<|
.nil))
 (.seq (.ops (.m 3 0<|
.b 4 .geq .none (.t 3) (.con (V.int .u8 (Int.ofNat 97)))<|
.m 5 4<|
.grp 5 true (.p 6 [0, 5] (.mov (.t 0))<|
.p 7 [6, 5] (.bin .leq .none (.t 6) (.con (V.int .u8 (Int.ofNat 122))))<|
.nil) 8 [5, 7] (.t 5) (.t 7) (.con (V.bool false))<|
.m 9 8<|
.grp 9 false (.p 10 [0, 9] (.mov (.t 0))<|
.p 11 [10, 9] (.bin .geq .none (.t 10) (.con (V.int .u8 (Int.ofNat 65))))<|
.p 12 [11, 9] (.mov (.t 11))<|
.grp 12 true (.p 13 [0, 12] (.mov (.t 0))<|
.p 14 [13, 12] (.bin .leq .none (.t 13) (.con (V.int .u8 (Int.ofNat 90))))<|
.nil) 15 [12, 14, 9] (.t 12) (.t 14) (.con (V.bool false))<|
.nil) 16 [9, 15] (.t 9) (.con (V.bool true)) (.t 15)<|
.m 2 16<|
.nil))
 .ret))
def A206 : XFn := ⟨17, [(.int .u8)], [(.tmp 2)], C206_0⟩
def C207_0 (cc1 : XC) (cc2 : XC) : XC := (.seq (.ops (.q 4 0<|
.nil))
 (.seq (.ops (.m 6 1<|
.m 5 6<|
.nil))
 (.seq (.block 0 (.loop [(0, .str), (1, .i), (5, .i)] [] [] cc2))
 (.keep [(0, .str), (1, .i), (5, .i)] [] [] cc1))))
def C207_1 : XC := (.seq (.seq (.ops (.m 38 0<|
.m 39 1<|
.b 40 .sub .none (.t 39) (.i 1)<|
.p 41 [38, 40] (.idxStr (.t 38) (.t 40))<|
.b 42 .eql .none (.t 41) (.con (V.int .u8 (Int.ofNat 45)))<|
.m 43 42<|
.grp 43 false (.p 44 [1, 43] (.mov (.t 1))<|
.p 45 [5, 43] (.mov (.t 5))<|
.p 46 [44, 45, 43] (.bin .sub .none (.t 44) (.t 45))<|
.p 47 [46, 43] (.bin .gtr .none (.t 46) (.i 60))<|
.nil) 48 [43, 47] (.t 43) (.con (V.bool true)) (.t 47)<|
.nil))
 (.cond (.tmp 48) (.seq (.ops (.c 4 (V.int .i64 (Int.negSucc 0))<|
.nil))
 .ret)
 .skip))
 (.seq (.ops (.m 49 1<|
.m 4 49<|
.nil))
 .ret))
def C207_2 : XC := (.seq (.seq (.ops (.m 7 1<|
.m 8 0<|
.p 9 [8] (.len true (.t 8))<|
.b 10 .lss .none (.t 7) (.t 9)<|
.m 11 10<|
.grp 11 true (.p 12 [0, 11] (.mov (.t 0))<|
.p 13 [1, 11] (.mov (.t 1))<|
.p 14 [12, 13, 11] (.idxStr (.t 12) (.t 13))<|
.op (some 15) .bool [14, 11] (.call 206 [(.t 14)])<|
.p 16 [15, 11] (.mov (.t 15))<|
.grp 16 false (.p 17 [0, 16] (.mov (.t 0))<|
.p 18 [1, 16] (.mov (.t 1))<|
.p 19 [17, 18, 16] (.idxStr (.t 17) (.t 18))<|
.op (some 20) .bool [19, 16] (.call 209 [(.t 19)])<|
.nil) 21 [16, 20, 11] (.t 16) (.con (V.bool true)) (.t 20)<|
.p 22 [21, 11] (.mov (.t 21))<|
.grp 22 false (.p 23 [0, 22] (.mov (.t 0))<|
.p 24 [1, 22] (.mov (.t 1))<|
.p 25 [23, 24, 22] (.idxStr (.t 23) (.t 24))<|
.p 26 [25, 22] (.bin .eql .none (.t 25) (.con (V.int .u8 (Int.ofNat 45))))<|
.p 27 [26, 22] (.mov (.t 26))<|
.grp 27 true (.p 28 [0, 27] (.mov (.t 0))<|
.p 29 [1, 27] (.mov (.t 1))<|
.p 30 [29, 27] (.bin .add .none (.t 29) (.i 1))<|
.op (some 31) (.int .u8) [28, 30, 27] (.call 205 [(.t 28), (.t 30)])<|
.p 32 [31, 27] (.bin .neq .none (.t 31) (.con (V.int .u8 (Int.ofNat 45))))<|
.nil) 33 [27, 32, 22] (.t 27) (.t 32) (.con (V.bool false))<|
.nil) 34 [22, 33, 11] (.t 22) (.con (V.bool true)) (.t 33)<|
.nil) 35 [11, 34] (.t 11) (.t 34) (.con (V.bool false))<|
.nil))
 (.cond (.tmp 35) .skip
 (.exit 0)))
 (.block 1 (.ops (.m 36 1<|
.b 37 .add .none (.t 36) (.i 1)<|
.m 1 37<|
.nil))))
def A207 : XFn := ⟨50, [.str, .i], [(.tmp 4)], (C207_0 C207_1 C207_2)⟩
def C208_0 : XC := (.seq (.ops (.c 2 (V.bool false)<|
.nil))
 (.seq (.ops (.k 3 .one 274 []<|
.m 4 0<|
.k 5 .bool 123 [(.t 3), (.t 4)]<|
.m 2 5<|
.nil))
 .ret))
def A208 : XFn := ⟨6, [.str], [(.tmp 2)], C208_0⟩
def C209_0 : XC := (.seq (.ops (.c 2 (V.bool false)<|
.nil))
 (.seq (.ops (.m 3 0<|
.b 4 .geq .none (.t 3) (.con (V.int .u8 (Int.ofNat 48)))<|
.m 5 4<|
.grp 5 true (.p 6 [0, 5] (.mov (.t 0))<|
.p 7 [6, 5] (.bin .leq .none (.t 6) (.con (V.int .u8 (Int.ofNat 57))))<|
.nil) 8 [5, 7] (.t 5) (.t 7) (.con (V.bool false))<|
.m 2 8<|
.nil))
 .ret))
def A209 : XFn := ⟨9, [(.int .u8)], [(.tmp 2)], C209_0⟩
def C210_0 (cc1 : XC) : XC := (.seq (.ops (.q 4 0<|
.nil))
 (.seq (.ops (.m 9 0<|
.m 10 1<|
.p 11 [9, 10] (.idxStr (.t 9) (.t 10))<|
.b 12 .eql .none (.t 11) (.con (V.int .u8 (Int.ofNat 45)))<|
.m 5 12<|
.nil))
 (.seq (.seq (.ops (.m 13 5<|
.nil))
 (.cond (.tmp 13) (.ops (.m 14 1<|
.b 15 .add .none (.t 14) (.i 1)<|
.m 1 15<|
.nil))
 .skip))
 (.keep [(0, .str), (1, .i), (5, .bool)] [] [] cc1))))
def C210_1 (cc2 : XC) (cc3 : XC) : XC := (.seq (.ops (.m 16 1<|
.m 6 16<|
.nil))
 (.seq (.ops (.c 7 (V.int .u64 (Int.ofNat 0))<|
.nil))
 (.seq (.block 0 (.loop [(0, .str), (1, .i), (5, .bool), (6, .i), (7, (.int .u64))] [] [] cc3))
 (.keep [(0, .str), (1, .i), (5, .bool), (6, .i), (7, (.int .u64))] [] [] cc2))))
def C210_2 : XC := (.seq (.ops (.m 41 1<|
.m 42 6<|
.b 43 .sub .none (.t 41) (.t 42)<|
.m 8 43<|
.nil))
 (.seq (.seq (.ops (.m 44 8<|
.b 45 .lss .none (.t 44) (.i 1)<|
.m 46 45<|
.grp 46 false (.p 47 [8, 46] (.mov (.t 8))<|
.p 48 [47, 46] (.bin .gtr .none (.t 47) (.i 19))<|
.nil) 49 [46, 48] (.t 46) (.con (V.bool true)) (.t 48)<|
.m 50 49<|
.grp 50 false (.p 51 [8, 50] (.mov (.t 8))<|
.p 52 [51, 50] (.bin .gtr .none (.t 51) (.i 1))<|
.p 53 [52, 50] (.mov (.t 52))<|
.grp 53 true (.p 54 [0, 53] (.mov (.t 0))<|
.p 55 [6, 53] (.mov (.t 6))<|
.p 56 [54, 55, 53] (.idxStr (.t 54) (.t 55))<|
.p 57 [56, 53] (.bin .eql .none (.t 56) (.con (V.int .u8 (Int.ofNat 48))))<|
.nil) 58 [53, 57, 50] (.t 53) (.t 57) (.con (V.bool false))<|
.nil) 59 [50, 58] (.t 50) (.con (V.bool true)) (.t 58)<|
.m 60 59<|
.grp 60 false (.p 61 [5, 60] (.mov (.t 5))<|
.p 62 [61, 60] (.mov (.t 61))<|
.grp 62 true (.p 63 [0, 62] (.mov (.t 0))<|
.p 64 [6, 62] (.mov (.t 6))<|
.p 65 [63, 64, 62] (.idxStr (.t 63) (.t 64))<|
.p 66 [65, 62] (.bin .eql .none (.t 65) (.con (V.int .u8 (Int.ofNat 48))))<|
.nil) 67 [62, 66, 60] (.t 62) (.t 66) (.con (V.bool false))<|
.nil) 68 [60, 67] (.t 60) (.con (V.bool true)) (.t 67)<|
.m 69 68<|
.grp 69 false (.p 70 [0, 69] (.mov (.t 0))<|
.p 71 [1, 69] (.mov (.t 1))<|
.op (some 72) (.int .u8) [70, 71, 69] (.call 205 [(.t 70), (.t 71)])<|
.op (some 73) .bool [72, 69] (.call 206 [(.t 72)])<|
.nil) 74 [69, 73] (.t 69) (.con (V.bool true)) (.t 73)<|
.m 75 74<|
.grp 75 false (.p 76 [7, 75] (.mov (.t 7))<|
.p 77 [76, 75] (.bin .gtr .none (.t 76) (.con (V.int .u64 (Int.ofNat 9223372036854775808))))<|
.nil) 78 [75, 77] (.t 75) (.con (V.bool true)) (.t 77)<|
.m 79 78<|
.grp 79 false (.p 80 [5, 79] (.mov (.t 5))<|
.p 81 [80, 79] (.un .not (.t 80))<|
.p 82 [81, 79] (.mov (.t 81))<|
.grp 82 true (.p 83 [7, 82] (.mov (.t 7))<|
.p 84 [83, 82] (.bin .eql .none (.t 83) (.con (V.int .u64 (Int.ofNat 9223372036854775808))))<|
.nil) 85 [82, 84, 79] (.t 82) (.t 84) (.con (V.bool false))<|
.nil) 86 [79, 85] (.t 79) (.con (V.bool true)) (.t 85)<|
.nil))
 (.cond (.tmp 86) (.seq (.ops (.c 4 (V.int .i64 (Int.negSucc 0))<|
.nil))
 .ret)
 .skip))
 (.seq (.ops (.m 87 1<|
.m 4 87<|
.nil))
 .ret)))
def C210_3 (cc4 : XC) : XC := (.seq (.seq (.ops (.m 17 1<|
.m 18 0<|
.p 19 [18] (.len true (.t 18))<|
.b 20 .lss .none (.t 17) (.t 19)<|
.m 21 20<|
.grp 21 true (.p 22 [0, 21] (.mov (.t 0))<|
.p 23 [1, 21] (.mov (.t 1))<|
.p 24 [22, 23, 21] (.idxStr (.t 22) (.t 23))<|
.op (some 25) .bool [24, 21] (.call 209 [(.t 24)])<|
.nil) 26 [21, 25] (.t 21) (.t 25) (.con (V.bool false))<|
.nil))
 (.cond (.tmp 26) .skip
 (.exit 0)))
 (.block 1 (.seq (.seq (.ops (.m 27 1<|
.m 28 6<|
.b 29 .sub .none (.t 27) (.t 28)<|
.b 30 .lss .none (.t 29) (.i 19)<|
.nil))
 (.cond (.tmp 30) (.ops (.m 31 7<|
.b 32 .mul .none (.con (V.int .u64 (Int.ofNat 10))) (.t 31)<|
.m 33 0<|
.m 34 1<|
.p 35 [33, 34] (.idxStr (.t 33) (.t 34))<|
.b 36 .sub .none (.t 35) (.con (V.int .u8 (Int.ofNat 48)))<|
.p 37 [36] (.conv (.toInt .u64) (.t 36))<|
.b 38 .add .none (.t 32) (.t 37)<|
.m 7 38<|
.nil))
 .skip))
 (.keep [(0, .str), (1, .i), (5, .bool), (6, .i), (7, (.int .u64))] [] [] cc4))))
def C210_4 : XC := (.ops (.m 39 1<|
.b 40 .add .none (.t 39) (.i 1)<|
.m 1 40<|
.nil))
def A210 : XFn := ⟨88, [.str, .i], [(.tmp 4)], (C210_0 (C210_1 C210_2 (C210_3 C210_4)))⟩
def C213_0 (cc1 : XC) (cc2 : XC) : XC := (.seq (.ops (.q 4 0<|
.nil))
 (.seq (.ops (.m 9 0<|
.m 10 1<|
.p 11 [9, 10] (.sliceStr (.t 9) (some (.t 10)) none)<|
.m 5 11<|
.nil))
 (.seq (.ops (.p 12 [] (.buildSlice 9 13 [(V.str ⟨0, 0⟩), (V.str ⟨0, 0⟩), (V.str ⟨0, 0⟩), (V.str ⟨0, 0⟩), (V.str ⟨0, 0⟩), (V.str ⟨0, 0⟩), (V.str ⟨0, 0⟩), (V.str ⟨0, 0⟩), (V.str ⟨0, 0⟩), (V.str ⟨0, 0⟩), (V.str ⟨0, 0⟩), (V.str ⟨0, 0⟩), (V.str ⟨0, 0⟩)] [(0, 1, (.con (V.str ⟨3, 4012602⟩))), (1, 1, (.con (V.str ⟨3, 3026478⟩))), (2, 1, (.con (V.str ⟨2, 11822⟩))), (3, 1, (.con (V.str ⟨2, 23387⟩))), (4, 1, (.con (V.str ⟨2, 23901⟩))), (5, 1, (.con (V.str ⟨1, 123⟩))), (6, 1, (.con (V.str ⟨1, 125⟩))), (7, 1, (.con (V.str ⟨1, 91⟩))), (8, 1, (.con (V.str ⟨1, 93⟩))), (9, 1, (.con (V.str ⟨1, 40⟩))), (10, 1, (.con (V.str ⟨1, 41⟩))), (11, 1, (.con (V.str ⟨1, 44⟩))), (12, 1, (.con (V.str ⟨1, 58⟩)))])<|
.m 6 12<|
.nil))
 (.seq (.seq (.ops (.q 7 0<|
.nil))
 (.block 0 (.loop [(5, .str), (6, .any), (7, .i)] [] [] cc2)))
 (.keep [] [] [] cc1)))))
def C213_1 : XC := (.seq (.ops (.q 4 0<|
.nil))
 .ret)
def C213_2 : XC := (.seq (.seq (.ops (.m 13 7<|
.m 14 6<|
.u 15 14<|
.b 16 .lss .none (.t 13) (.t 15)<|
.nil))
 (.cond (.tmp 16) .skip
 (.exit 0)))
 (.seq (.block 1 (.seq (.ops (.m 19 6<|
.m 20 7<|
.s 21 1 19 20<|
.l 22 .str 21<|
.p 23 [22] (.len true (.t 22))<|
.m 8 23<|
.nil))
 (.seq (.draw (.m 24 5<|
.p 25 [24] (.len true (.t 24))<|
.m 26 8<|
.b 27 .geq .none (.t 25) (.t 26)<|
.m 28 27<|
.grp 28 true (.p 29 [5, 28] (.mov (.t 5))<|
.p 30 [8, 28] (.mov (.t 8))<|
.p 31 [29, 30, 28] (.sliceStr (.t 29) none (some (.t 30)))<|
.p 32 [6, 28] (.mov (.t 6))<|
.p 33 [7, 28] (.mov (.t 7))<|
.p 34 [32, 33, 28] (.iaddrS 1 (.t 32) (.t 33))<|
.op (some 35) .str [34, 28] (.load none (.t 34))<|
.p 36 [31, 35, 28] (.bin .eql .none (.t 31) (.t 35))<|
.nil) 37 [28, 36] (.t 28) (.t 36) (.con (V.bool false))<|
.nil) [0, 1, 0, 7, 15, 31, 31, 127, 31, 31, 799, 1823, 4095, 8191])
 (.cond (.tmp 37) (.seq (.ops (.m 38 8<|
.m 4 38<|
.nil))
 .ret)
 .skip))))
 (.ops (.m 17 7<|
.b 18 .add .none (.t 17) (.i 1)<|
.m 7 18<|
.nil))))
def A213 : XFn := ⟨39, [.str, .i], [(.tmp 4)], (C213_0 C213_1 C213_2)⟩
def C214_0 (cc1 : XC) : XC := (.seq (.ops (.q 2 0<|
.nil))
 (.seq (.ops (.m 6 0<|
.p 7 [6] (.idxStr (.t 6) (.i 0))<|
.b 8 .eql .none (.t 7) (.con (V.int .u8 (Int.ofNat 45)))<|
.m 3 8<|
.nil))
 (.seq (.seq (.ops (.m 9 3<|
.nil))
 (.cond (.tmp 9) (.ops (.m 10 0<|
.p 11 [10] (.sliceStr (.t 10) (some (.i 1)) none)<|
.m 0 11<|
.nil))
 .skip))
 (.keep [(0, .str), (3, .bool)] [] [] cc1))))
def C214_1 (cc2 : XC) (cc3 : XC) : XC := (.seq (.ops (.c 4 (V.int .u64 (Int.ofNat 0))<|
.nil))
 (.seq (.seq (.ops (.q 5 0<|
.nil))
 (.block 0 (.loop [(0, .str), (3, .bool), (4, (.int .u64)), (5, .i)] [] [] cc3)))
 (.keep [(3, .bool), (4, (.int .u64))] [] [] cc2)))
def C214_2 : XC := (.seq (.seq (.ops (.m 26 3<|
.nil))
 (.cond (.tmp 26) (.seq (.ops (.m 27 4<|
.b 28 .sub .none (.t 27) (.con (V.int .u64 (Int.ofNat 1)))<|
.p 29 [28] (.conv (.toInt .i64) (.t 28))<|
.p 30 [29] (.un .neg (.t 29))<|
.b 31 .sub .none (.t 30) (.i 1)<|
.m 2 31<|
.nil))
 .ret)
 .skip))
 (.seq (.ops (.m 32 4<|
.p 33 [32] (.conv (.toInt .i64) (.t 32))<|
.m 2 33<|
.nil))
 .ret))
def C214_3 : XC := (.seq (.seq (.ops (.m 12 5<|
.m 13 0<|
.p 14 [13] (.len true (.t 13))<|
.b 15 .lss .none (.t 12) (.t 14)<|
.nil))
 (.cond (.tmp 15) .skip
 (.exit 0)))
 (.seq (.block 1 (.ops (.m 18 4<|
.b 19 .mul .none (.con (V.int .u64 (Int.ofNat 10))) (.t 18)<|
.m 20 0<|
.m 21 5<|
.p 22 [20, 21] (.idxStr (.t 20) (.t 21))<|
.b 23 .sub .none (.t 22) (.con (V.int .u8 (Int.ofNat 48)))<|
.p 24 [23] (.conv (.toInt .u64) (.t 23))<|
.b 25 .add .none (.t 19) (.t 24)<|
.m 4 25<|
.nil)))
 (.ops (.m 16 5<|
.b 17 .add .none (.t 16) (.i 1)<|
.m 5 17<|
.nil))))
def A214 : XFn := ⟨34, [.str], [(.tmp 2)], (C214_0 (C214_1 C214_2 C214_3))⟩
def C216_0 (cc1 : XC) : XC := (.seq (.ops (.pal 2 [] 141 [(V.bool false), (V.bool false), (V.bool false), (V.bool false), (V.int .i64 (Int.ofNat 0)), (V.int .i64 (Int.ofNat 0))]<|
.nil))
 (.seq (.ops (.op (some 4) (.agg [.bool, .bool, .bool, .bool, .i, .i]) [] (.build [(V.bool false), (V.bool false), (V.bool false), (V.bool false), (V.int .i64 (Int.ofNat 0)), (V.int .i64 (Int.ofNat 0))] [(0, 1, (.con (V.bool true)))])<|
.pal 3 [] 141 [(V.bool false), (V.bool false), (V.bool false), (V.bool false), (V.int .i64 (Int.ofNat 0)), (V.int .i64 (Int.ofNat 0))]<|
.op none (.agg [.bool, .bool, .bool, .bool, .i, .i]) [3, 4] (.store 6 (.t 3) (.t 4))<|
.nil))
 (.seq (.seq (.ops (.m 5 0<|
.k 6 .bool 59 [(.t 5), (.con (V.str ⟨3, 5130573⟩))]<|
.p 7 [6] (.un .not (.t 6))<|
.nil))
 (.cond (.tmp 7) (.ops (.m 8 0<|
.k 9 .i 121 [(.t 8)]<|
.f 10 1 3<|
.op none .any [10] (.store 1 (.t 10) (.con (V.bool true)))<|
.f 11 4 3<|
.w 1 11 9<|
.nil))
 .skip))
 (.keep [(0, .any)] [2, 3] [(2, [.bool, .bool, .bool, .bool, .i, .i]), (3, [.bool, .bool, .bool, .bool, .i, .i])] cc1))))
def C216_1 (cc2 : XC) : XC := (.seq (.block 0 (.seq (.ops (.m 13 0<|
.k 14 .bool 59 [(.t 13), (.con (V.str ⟨2, 11822⟩))]<|
.m 12 14<|
.nil))
 (.cond (.tmp 12) (.seq (.ops (.m 15 0<|
.k 16 .bool 59 [(.t 15), (.con (V.str ⟨3, 5783885⟩))]<|
.p 17 [16] (.un .not (.t 16))<|
.nil))
 (.cond (.tmp 17) (.ops (.m 18 0<|
.k 19 .i 121 [(.t 18)]<|
.f 20 2 3<|
.op none .any [20] (.store 1 (.t 20) (.con (V.bool true)))<|
.f 21 5 3<|
.w 1 21 19<|
.nil))
 .skip))
 (.seq (.ops (.f 23 1 3<|
.l 24 .bool 23<|
.m 22 24<|
.nil))
 (.cond (.tmp 22) (.ops (.f 25 4 3<|
.l 26 .i 25<|
.f 27 2 3<|
.op none .any [27] (.store 1 (.t 27) (.con (V.bool true)))<|
.f 28 5 3<|
.w 1 28 26<|
.nil))
 .skip)))))
 (.keep [(0, .any)] [2, 3] [(2, [.bool, .bool, .bool, .bool, .i, .i]), (3, [.bool, .bool, .bool, .bool, .i, .i])] cc2))
def C216_2 (cc3 : XC) : XC := (.seq (.seq (.ops (.m 29 0<|
.k 30 .bool 59 [(.t 29), (.con (V.str ⟨1, 44⟩))]<|
.nil))
 (.cond (.tmp 30) (.seq (.ops (.m 31 0<|
.k 32 (.tup []) 58 [(.t 31), (.con (V.str ⟨3, 3026478⟩))]<|
.nil))
 (.ops (.f 33 3 3<|
.op none .any [33] (.store 1 (.t 33) (.con (V.bool true)))<|
.nil)))
 .skip))
 (.keep [] [2, 3] [(2, [.bool, .bool, .bool, .bool, .i, .i]), (3, [.bool, .bool, .bool, .bool, .i, .i])] cc3))
def C216_3 : XC := (.seq (.ops (.op (some 34) (.agg [.bool, .bool, .bool, .bool, .i, .i]) [3] (.load (some 6) (.t 3))<|
.op none (.agg [.bool, .bool, .bool, .bool, .i, .i]) [2, 34] (.store 6 (.t 2) (.t 34))<|
.nil))
 .ret)
def A216 : XFn := ⟨35, [.any], [(.cell 2 (some 6))], (C216_0 (C216_1 (C216_2 C216_3)))⟩
def C218_0 (cc1 : XC) (cc2 : XC) : XC := (.seq (.seq (.ops (.m 7 0<|
.k 8 .bool 59 [(.t 7), (.con (V.str ⟨1, 125⟩))]<|
.nil))
 (.cond (.tmp 8) .ret
 .skip))
 (.seq (.ops (.q 6 0<|
.nil))
 (.seq (.block 0 (.loop [(0, .ptr), (1, .ptr), (2, .i), (6, .i)] [] [] cc2))
 (.keep [(0, .ptr), (1, .ptr)] [] [] cc1))))
def C218_1 : XC := (.seq (.ops (.m 68 0<|
.k 69 (.tup []) 58 [(.t 68), (.con (V.str ⟨1, 125⟩))]<|
.nil))
 (.seq (.ops (.m 70 1<|
.n 71 70<|
.f 72 14 71<|
.l 73 .bool 72<|
.p 74 [73] (.un .not (.t 73))<|
.nil))
 (.cond (.tmp 74) (.ops (.m 75 1<|
.m 76 1<|
.n 77 76<|
.f 78 12 77<|
.l 79 .any 78<|
.u 80 79<|
.n 81 75<|
.f 82 13 81<|
.w 1 82 80<|
.nil))
 .skip)))
def C218_2 (cc3 : XC) (cc4 : XC) (cc5 : XC) : XC := (.seq (.seq (.ops (.m 9 0<|
.n 10 9<|
.f 11 7 10<|
.l 12 .i 11<|
.b 13 .eql .none (.t 12) (.i 0)<|
.nil))
 (.cond (.tmp 13) .skip
 (.exit 0)))
 (.block 1 (.seq (.block 2 (.seq (.ops (.m 19 1<|
.n 20 19<|
.f 21 14 20<|
.l 22 .bool 21<|
.p 23 [22] (.un .not (.t 22))<|
.m 24 23<|
.grp 24 true (.p 25 [0, 24] (.mov (.t 0))<|
.op (some 26) .bool [25, 24] (.call 59 [(.t 25), (.con (V.str ⟨3, 3026478⟩))])<|
.nil) 27 [24, 26] (.t 24) (.t 26) (.con (V.bool false))<|
.m 18 27<|
.nil))
 (.cond (.tmp 18) (.ops (.m 28 1<|
.m 29 1<|
.m 30 1<|
.n 31 30<|
.f 32 12 31<|
.l 33 .any 32<|
.u 34 33<|
.n 35 28<|
.f 36 14 35<|
.op none .any [36] (.store 1 (.t 36) (.con (V.bool true)))<|
.n 37 29<|
.f 38 13 37<|
.w 1 38 34<|
.nil))
 (.seq (.ops (.m 40 1<|
.n 41 40<|
.f 42 14 41<|
.l 43 .bool 42<|
.m 44 43<|
.grp 44 true (.p 45 [0, 44] (.mov (.t 0))<|
.op (some 46) .bool [45, 44] (.call 59 [(.t 45), (.con (V.str ⟨2, 23387⟩))])<|
.nil) 47 [44, 46] (.t 44) (.t 46) (.con (V.bool false))<|
.m 39 47<|
.nil))
 (.cond (.tmp 39) (.seq (.ops (.m 48 6<|
.b 49 .add .none (.t 48) (.i 1)<|
.m 6 49<|
.nil))
 (.seq (.block 3 (.loop [(0, .ptr), (1, .ptr), (2, .i), (6, .i)] [] [] cc5))
 (.keep [(0, .ptr), (1, .ptr), (2, .i), (6, .i)] [] [] cc4)))
 (.ops (.m 14 0<|
.m 15 1<|
.m 16 2<|
.k 17 (.tup []) 276 [(.t 14), (.t 15), (.t 16), (.i 0)]<|
.nil)))))))
 (.keep [(0, .ptr), (1, .ptr), (2, .i), (6, .i)] [] [] cc3))))
def C218_3 : XC := (.seq (.ops (.m 65 0<|
.k 66 .bool 59 [(.t 65), (.con (V.str ⟨1, 44⟩))]<|
.p 67 [66] (.un .not (.t 66))<|
.nil))
 (.cond (.tmp 67) (.exit 0)
 .skip))
def C218_4 : XC := (.ops (.m 63 0<|
.k 64 (.tup []) 58 [(.t 63), (.con (V.str ⟨2, 23901⟩))]<|
.nil))
def C218_5 : XC := (.seq (.seq (.ops (.m 50 0<|
.n 51 50<|
.f 52 7 51<|
.l 53 .i 52<|
.b 54 .eql .none (.t 53) (.i 0)<|
.nil))
 (.cond (.tmp 54) .skip
 (.exit 3)))
 (.block 4 (.seq (.ops (.m 55 0<|
.m 56 1<|
.m 57 2<|
.m 58 6<|
.k 59 (.tup []) 276 [(.t 55), (.t 56), (.t 57), (.t 58)]<|
.nil))
 (.seq (.ops (.m 60 0<|
.k 61 .bool 59 [(.t 60), (.con (V.str ⟨1, 44⟩))]<|
.p 62 [61] (.un .not (.t 61))<|
.nil))
 (.cond (.tmp 62) (.exit 3)
 .skip)))))
def A218 : XFn := ⟨83, [.ptr, .ptr, .i], [], (C218_0 C218_1 (C218_2 C218_3 C218_4 C218_5))⟩
def C220_0 (cc1 : XC) (cc2 : XC) : XC := (.seq (.ops (.pal 2 [] 253 [(V.int .i64 (Int.ofNat 0)), (V.int .i64 (Int.ofNat 0))]<|
.nil))
 (.seq (.seq (.ops (.m 3 0<|
.nil))
 (.block 0 (.seq (.ops (.b 5 .eql .none (.t 3) (.i 1)<|
.m 4 5<|
.nil))
 (.cond (.tmp 4) (.seq (.ops (.op (some 6) (.agg [.i, .i]) [] (.build [(V.int .i64 (Int.ofNat 0)), (V.int .i64 (Int.ofNat 0))] [(1, 1, (.i 1))])<|
.op none (.agg [.i, .i]) [2, 6] (.store 2 (.t 2) (.t 6))<|
.nil))
 .ret)
 (.seq (.ops (.b 8 .eql .none (.t 3) (.i 2)<|
.m 7 8<|
.nil))
 (.cond (.tmp 7) (.seq (.ops (.op (some 9) (.agg [.i, .i]) [] (.build [(V.int .i64 (Int.ofNat 0)), (V.int .i64 (Int.ofNat 0))] [(1, 1, (.i 2))])<|
.op none (.agg [.i, .i]) [2, 9] (.store 2 (.t 2) (.t 9))<|
.nil))
 .ret)
 (.seq (.ops (.b 11 .eql .none (.t 3) (.i 5)<|
.m 10 11<|
.nil))
 (.cond (.tmp 10) (.seq (.ops (.op (some 12) (.agg [.i, .i]) [] (.build [(V.int .i64 (Int.ofNat 0)), (V.int .i64 (Int.ofNat 0))] [(1, 1, (.i 4))])<|
.op none (.agg [.i, .i]) [2, 12] (.store 2 (.t 2) (.t 12))<|
.nil))
 .ret)
 (.seq (.ops (.b 14 .eql .none (.t 3) (.i 4)<|
.m 13 14<|
.nil))
 (.cond (.tmp 13) (.seq (.ops (.op (some 15) (.agg [.i, .i]) [] (.build [(V.int .i64 (Int.ofNat 0)), (V.int .i64 (Int.ofNat 0))] [(1, 1, (.i 5))])<|
.op none (.agg [.i, .i]) [2, 15] (.store 2 (.t 2) (.t 15))<|
.nil))
 .ret)
 (.seq (.ops (.b 17 .eql .none (.t 3) (.i 3)<|
.m 16 17<|
.nil))
 (.cond (.tmp 16) (.seq (.ops (.op (some 18) (.agg [.i, .i]) [] (.build [(V.int .i64 (Int.ofNat 0)), (V.int .i64 (Int.ofNat 0))] [(1, 1, (.i 10))])<|
.op none (.agg [.i, .i]) [2, 18] (.store 2 (.t 2) (.t 18))<|
.nil))
 .ret)
 (.seq (.ops (.b 20 .eql .none (.t 3) (.i 6)<|
.m 19 20<|
.nil))
 (.cond (.tmp 19) (.seq (.ops (.op (some 21) (.agg [.i, .i]) [] (.build [(V.int .i64 (Int.ofNat 0)), (V.int .i64 (Int.ofNat 0))] [(1, 1, (.i 12))])<|
.op none (.agg [.i, .i]) [2, 21] (.store 2 (.t 2) (.t 21))<|
.nil))
 .ret)
 (.seq (.seq (.ops (.b 23 .eql .none (.t 3) (.i 7)<|
.m 22 23<|
.nil))
 (.cond (.tmp 22) .skip
 (.ops (.b 24 .eql .none (.t 3) (.i 10)<|
.m 22 24<|
.nil))))
 (.keep [(3, .i), (22, .bool)] [2] [(2, [.i, .i])] cc2))))))))))))))))
 (.keep [] [2] [(2, [.i, .i])] cc1)))
def C220_1 : XC := (.seq (.ops (.op (some 29) (.agg [.i, .i]) [] (.build [(V.int .i64 (Int.ofNat 0)), (V.int .i64 (Int.ofNat 0))] [])<|
.op none (.agg [.i, .i]) [2, 29] (.store 2 (.t 2) (.t 29))<|
.nil))
 .ret)
def C220_2 : XC := (.cond (.tmp 22) (.seq (.ops (.op (some 25) (.agg [.i, .i]) [] (.build [(V.int .i64 (Int.ofNat 0)), (V.int .i64 (Int.ofNat 0))] [(1, 1, (.i 16))])<|
.op none (.agg [.i, .i]) [2, 25] (.store 2 (.t 2) (.t 25))<|
.nil))
 .ret)
 (.seq (.ops (.b 27 .eql .none (.t 3) (.i 8)<|
.m 26 27<|
.nil))
 (.cond (.tmp 26) (.seq (.ops (.op (some 28) (.agg [.i, .i]) [] (.build [(V.int .i64 (Int.ofNat 0)), (V.int .i64 (Int.ofNat 0))] [(1, 1, (.i 17))])<|
.op none (.agg [.i, .i]) [2, 28] (.store 2 (.t 2) (.t 28))<|
.nil))
 .ret)
 .skip)))
def A220 : XFn := ⟨30, [.i], [(.cell 2 (some 2))], (C220_0 C220_1 C220_2)⟩
def C221_0 : XC := (.seq (.ops (.p 2 [0] (.box 141 (.t 0))<|
.q 4 0<|
.nil))
 (.seq (.seq (.ops (.f 5 0 2<|
.l 6 .bool 5<|
.p 7 [6] (.un .not (.t 6))<|
.nil))
 (.cond (.tmp 7) (.seq (.ops (.q 4 0<|
.nil))
 .ret)
 .skip))
 (.seq (.seq (.ops (.f 8 1 2<|
.l 9 .bool 8<|
.m 10 9<|
.grp 10 true (.p 11 [2, 10] (.faddr 2 (.t 2))<|
.op (some 12) .bool [11, 10] (.load none (.t 11))<|
.nil) 13 [10, 12] (.t 10) (.t 12) (.con (V.bool false))<|
.m 14 13<|
.grp 14 true (.p 15 [2, 14] (.faddr 4 (.t 2))<|
.op (some 16) .i [15, 14] (.load none (.t 15))<|
.p 17 [2, 14] (.faddr 5 (.t 2))<|
.op (some 18) .i [17, 14] (.load none (.t 17))<|
.p 19 [16, 18, 14] (.bin .gtr .none (.t 16) (.t 18))<|
.nil) 20 [14, 19] (.t 14) (.t 19) (.con (V.bool false))<|
.nil))
 (.cond (.tmp 20) (.seq (.ops (.q 4 11<|
.nil))
 .ret)
 .skip))
 (.seq (.seq (.ops (.m 21 1<|
.m 22 21<|
.grp 22 true (.p 23 [2, 22] (.faddr 1 (.t 2))<|
.op (some 24) .bool [23, 22] (.load none (.t 23))<|
.p 25 [24, 22] (.un .not (.t 24))<|
.p 26 [25, 22] (.mov (.t 25))<|
.grp 26 false (.p 27 [2, 26] (.faddr 4 (.t 2))<|
.op (some 28) .i [27, 26] (.load none (.t 27))<|
.p 29 [28, 26] (.bin .lss .none (.t 28) (.i 0))<|
.nil) 30 [26, 29, 22] (.t 26) (.con (V.bool true)) (.t 29)<|
.p 31 [30, 22] (.mov (.t 30))<|
.grp 31 false (.p 32 [2, 31] (.faddr 4 (.t 2))<|
.op (some 33) .i [32, 31] (.load none (.t 32))<|
.p 34 [33, 31] (.bin .gtr .none (.t 33) (.i 70000))<|
.nil) 35 [31, 34, 22] (.t 31) (.con (V.bool true)) (.t 34)<|
.p 36 [35, 22] (.mov (.t 35))<|
.grp 36 false (.p 37 [2, 36] (.faddr 2 (.t 2))<|
.op (some 38) .bool [37, 36] (.load none (.t 37))<|
.p 39 [38, 36] (.mov (.t 38))<|
.grp 39 true (.p 40 [2, 39] (.faddr 5 (.t 2))<|
.op (some 41) .i [40, 39] (.load none (.t 40))<|
.p 42 [41, 39] (.bin .lss .none (.t 41) (.i 0))<|
.p 43 [42, 39] (.mov (.t 42))<|
.grp 43 false (.p 44 [2, 43] (.faddr 5 (.t 2))<|
.op (some 45) .i [44, 43] (.load none (.t 44))<|
.p 46 [45, 43] (.bin .gtr .none (.t 45) (.i 70000))<|
.nil) 47 [43, 46, 39] (.t 43) (.con (V.bool true)) (.t 46)<|
.nil) 48 [39, 47, 36] (.t 39) (.t 47) (.con (V.bool false))<|
.nil) 49 [36, 48, 22] (.t 36) (.con (V.bool true)) (.t 48)<|
.nil) 50 [22, 49] (.t 22) (.t 49) (.con (V.bool false))<|
.nil))
 (.cond (.tmp 50) (.seq (.ops (.q 4 11<|
.nil))
 .ret)
 .skip))
 (.seq (.ops (.q 4 0<|
.nil))
 .ret)))))
def A221 : XFn := ⟨51, [(.agg [.bool, .bool, .bool, .bool, .i, .i]), .bool], [(.tmp 4)], C221_0⟩
def G223_0 : List AOper := [⟨(some 130), .mov (.tmp 0), none⟩, ⟨(some 131), .faddr 1 (.tmp 13), none⟩, ⟨(some 132), .load none (.tmp 131), none⟩, ⟨(some 133), .mov (.tmp 12), none⟩, ⟨(some 134), .mov (.tmp 0), none⟩, ⟨(some 135), .faddr 1 (.tmp 13), none⟩, ⟨(some 136), .load none (.tmp 135), none⟩, ⟨(some 137), .call 128 [(.tmp 134), (.tmp 136)], none⟩, ⟨(some 138), .call 129 [(.tmp 130), (.tmp 132), (.tmp 133), (.tmp 137)], none⟩]
def H223_0 : List DP := [⟨0, [0]⟩, ⟨0, [13]⟩, ⟨2, [131]⟩, ⟨0, [12]⟩, ⟨0, [0]⟩, ⟨0, [13]⟩, ⟨32, [135]⟩, ⟨112, [134, 136]⟩, ⟨255, [130, 132, 133, 137]⟩]
def C223_0 (cc1 : XC) (cc2 : XC) : XC := (.seq (.ops (.p 6 [2] (.box 183 (.t 2))<|
.nil))
 (.seq (.ops (.m 15 0<|
.n 16 15<|
.f 17 0 16<|
.f 18 1 17<|
.l 19 .i 18<|
.b 20 .neq .none (.t 19) (.i 2)<|
.m 8 20<|
.nil))
 (.seq (.seq (.ops (.q 9 0<|
.nil))
 (.block 0 (.loop [(0, .ptr), (1, .i), (3, .i), (6, .ptr), (8, .bool), (9, .i)] [] [] cc2)))
 (.keep [(0, .ptr), (1, .i), (3, .i), (6, .ptr), (8, .bool)] [] [] cc1))))
def C223_1 (cc3 : XC) : XC := (.seq (.seq (.ops (.f 47 0 6<|
.l 48 .i 47<|
.b 49 .eql .none (.t 48) (.i 9)<|
.m 50 49<|
.grp 50 true (.p 51 [6, 50] (.faddr 12 (.t 6))<|
.p 52 [51, 50] (.load none (.t 51))<|
.p 53 [52, 50] (.len false (.t 52))<|
.p 54 [53, 50] (.bin .eql .none (.t 53) (.i 0))<|
.nil) 55 [50, 54] (.t 50) (.t 54) (.con (V.bool false))<|
.m 56 55<|
.grp 56 true (.p 57 [6, 56] (.faddr 14 (.t 6))<|
.op (some 58) .bool [57, 56] (.load none (.t 57))<|
.p 59 [58, 56] (.un .not (.t 58))<|
.nil) 60 [56, 59] (.t 56) (.t 59) (.con (V.bool false))<|
.nil))
 (.cond (.tmp 60) (.ops (.m 61 0<|
.k 62 (.tup []) 219 [(.t 61), (.i 11)]<|
.nil))
 .skip))
 (.keep [(0, .ptr), (1, .i), (3, .i), (6, .ptr), (8, .bool)] [] [] cc3))
def C223_2 : XC := (.seq (.seq (.ops (.m 21 9<|
.f 22 12 6<|
.l 23 .any 22<|
.u 24 23<|
.b 25 .lss .none (.t 21) (.t 24)<|
.nil))
 (.cond (.tmp 25) .skip
 (.exit 0)))
 (.seq (.block 1 (.seq (.ops (.f 28 12 6<|
.l 29 .any 28<|
.m 30 9<|
.s 31 11 29 30<|
.op (some 32) (.agg [.str, .i, .bool, .bool, .i, .i, .any, .any, .i, .any, .i]) [31] (.load (some 11) (.t 31))<|
.pal 10 [] 200 [(V.str ⟨0, 0⟩), (V.int .i64 (Int.ofNat 0)), (V.bool false), (V.bool false), (V.int .i64 (Int.ofNat 0)), (V.int .i64 (Int.ofNat 0)), V.nils, V.nils, (V.int .i64 (Int.ofNat 0)), V.nils, (V.int .i64 (Int.ofNat 0))]<|
.op none (.agg [.str, .i, .bool, .bool, .i, .i, .any, .any, .i, .any, .i]) [10, 32] (.store 11 (.t 10) (.t 32))<|
.nil))
 (.draw (.m 33 8<|
.m 34 33<|
.grp 34 false (.p 35 [0, 34] (.mov (.t 0))<|
.p 36 [35, 34] (.nilck (.t 35))<|
.p 37 [36, 34] (.faddr 0 (.t 36))<|
.p 38 [37, 34] (.faddr 4 (.t 37))<|
.p 39 [38, 34] (.load none (.t 38))<|
.p 40 [10, 34] (.faddr 1 (.t 10))<|
.op (some 41) .i [40, 34] (.load none (.t 40))<|
.p 42 [39, 41, 34] (.iaddrS 16 (.t 39) (.t 41))<|
.p 43 [42, 34] (.faddr 2 (.t 42))<|
.p 44 [43, 34] (.faddr 0 (.t 43))<|
.op (some 45) .bool [44, 34] (.load none (.t 44))<|
.nil) 46 [34, 45] (.t 34) (.con (V.bool true)) (.t 45)<|
.m 8 46<|
.nil) [0, 1, 3, 7, 15, 31, 63, 3, 131, 511, 1023, 2047, 4095, 8191, 16383])))
 (.ops (.m 26 9<|
.b 27 .add .none (.t 26) (.i 1)<|
.m 9 27<|
.nil))))
def C223_3 (cc4 : XC) (cc5 : XC) : XC := (.seq (.ops (.c 11 V.nils<|
.nil))
 (.seq (.seq (.ops (.q 12 0<|
.nil))
 (.block 2 (.loop [(0, .ptr), (1, .i), (3, .i), (6, .ptr), (8, .bool), (11, .any), (12, .i)] [] [] cc5)))
 (.keep [(0, .ptr), (1, .i), (11, .any)] [] [] cc4)))
def C223_4 : XC := (.seq (.ops (.m 143 0<|
.n 144 143<|
.f 145 6 144<|
.l 146 .i 145<|
.b 147 .eql .none (.t 146) (.i 0)<|
.nil))
 (.cond (.tmp 147) (.seq (.ops (.m 148 0<|
.n 149 148<|
.f 150 5 149<|
.l 151 .any 150<|
.m 152 1<|
.m 153 11<|
.s 154 13 151 152<|
.f 155 9 154<|
.w 1 155 153<|
.nil))
 (.seq (.ops (.m 156 0<|
.m 157 0<|
.n 158 157<|
.f 159 5 158<|
.l 160 .any 159<|
.m 161 1<|
.s 162 13 160 161<|
.op (some 163) (.agg [.i, .any, .bool, .bool, .bool, .bool, .i, .i, .any, .any, .i, .bool, .i]) [162] (.load (some 13) (.t 162))<|
.k 164 .bool 279 [(.t 156), (.t 163)]<|
.p 165 [164] (.un .not (.t 164))<|
.nil))
 (.cond (.tmp 165) (.ops (.m 166 0<|
.k 167 (.tup []) 219 [(.t 166), (.i 12)]<|
.nil))
 .skip)))
 .skip))
def C223_5 (cc6 : XC) (cc7 : XC) (cc8 : XC) : XC := (.seq (.seq (.ops (.m 63 12<|
.f 64 12 6<|
.l 65 .any 64<|
.u 66 65<|
.b 67 .lss .none (.t 63) (.t 66)<|
.m 68 67<|
.grp 68 true (.p 69 [0, 68] (.mov (.t 0))<|
.p 70 [69, 68] (.nilck (.t 69))<|
.p 71 [70, 68] (.faddr 6 (.t 70))<|
.op (some 72) .i [71, 68] (.load none (.t 71))<|
.p 73 [72, 68] (.bin .eql .none (.t 72) (.i 0))<|
.nil) 74 [68, 73] (.t 68) (.t 73) (.con (V.bool false))<|
.nil))
 (.cond (.tmp 74) .skip
 (.exit 2)))
 (.seq (.block 3 (.seq (.ops (.f 77 12 6<|
.l 78 .any 77<|
.m 79 12<|
.s 80 11 78 79<|
.op (some 81) (.agg [.str, .i, .bool, .bool, .i, .i, .any, .any, .i, .any, .i]) [80] (.load (some 11) (.t 80))<|
.p 13 [] (.alloc 200 [(V.str ⟨0, 0⟩), (V.int .i64 (Int.ofNat 0)), (V.bool false), (V.bool false), (V.int .i64 (Int.ofNat 0)), (V.int .i64 (Int.ofNat 0)), V.nils, V.nils, (V.int .i64 (Int.ofNat 0)), V.nils, (V.int .i64 (Int.ofNat 0))])<|
.op none (.agg [.str, .i, .bool, .bool, .i, .i, .any, .any, .i, .any, .i]) [13, 81] (.store 11 (.t 13) (.t 81))<|
.nil))
 (.seq (.seq (.ops (.q 14 0<|
.nil))
 (.block 4 (.loop [(0, .ptr), (1, .i), (3, .i), (6, .ptr), (8, .bool), (11, .any), (12, .i), (13, .ptr), (14, .i)] [] [] cc8)))
 (.keep [(0, .ptr), (1, .i), (3, .i), (6, .ptr), (8, .bool), (11, .any), (12, .i), (13, .ptr)] [] [] cc7))))
 (.keep [(0, .ptr), (1, .i), (3, .i), (6, .ptr), (8, .bool), (11, .any), (12, .i)] [] [] cc6)))
def C223_6 : XC := (.ops (.m 75 12<|
.b 76 .add .none (.t 75) (.i 1)<|
.m 12 76<|
.nil))
def C223_7 (cc10 : XC) : XC := (.seq (.ops (.m 98 0<|
.f 99 1 13<|
.l 100 .i 99<|
.m 101 3<|
.b 102 .add .none (.t 101) (.i 1)<|
.k 103 .i 64 [(.t 98), (.t 100), (.t 102)]<|
.f 104 1 13<|
.w 1 104 103<|
.nil))
 (.seq (.seq (.ops (.m 105 0<|
.n 106 105<|
.f 107 6 106<|
.l 108 .i 107<|
.b 109 .eql .none (.t 108) (.i 0)<|
.m 110 109<|
.grp 110 true (.p 111 [13, 110] (.faddr 3 (.t 13))<|
.op (some 112) .bool [111, 110] (.load none (.t 111))<|
.nil) 113 [110, 112] (.t 110) (.t 112) (.con (V.bool false))<|
.nil))
 (.cond (.tmp 113) (.ops (.m 114 0<|
.f 115 1 13<|
.l 116 .i 115<|
.f 117 4 13<|
.op (some 118) (.agg [.i, .i, .any, .any, .i, .any]) [117] (.load (some 6) (.t 117))<|
.k 119 (.agg [.i, .i, .any, .any, .i, .any]) 278 [(.t 114), (.t 116), (.t 118)]<|
.f 120 4 13<|
.op none (.agg [.i, .i, .any, .any, .i, .any]) [120, 119] (.store 6 (.t 120) (.t 119))<|
.nil))
 .skip))
 (.keep [(0, .ptr), (1, .i), (3, .i), (6, .ptr), (8, .bool), (11, .any), (12, .i), (13, .ptr)] [] [] cc10)))
def C223_8 (cc9 : XC) : XC := (.seq (.seq (.ops (.m 82 14<|
.m 83 12<|
.b 84 .lss .none (.t 82) (.t 83)<|
.nil))
 (.cond (.tmp 84) .skip
 (.exit 4)))
 (.seq (.block 5 (.seq (.draw (.f 87 12 6<|
.l 88 .any 87<|
.m 89 14<|
.s 90 11 88 89<|
.f 91 0 90<|
.l 92 .str 91<|
.f 93 0 13<|
.l 94 .str 93<|
.b 95 .eql .none (.t 92) (.t 94)<|
.nil) [0, 1, 0, 7, 15, 31, 0, 64, 255])
 (.cond (.tmp 95) (.ops (.m 96 0<|
.k 97 (.tup []) 219 [(.t 96), (.i 8)]<|
.nil))
 .skip)))
 (.keep [(0, .ptr), (1, .i), (3, .i), (6, .ptr), (8, .bool), (11, .any), (12, .i), (13, .ptr), (14, .i)] [] [] cc9)))
def C223_9 : XC := (.ops (.m 85 14<|
.b 86 .add .none (.t 85) (.i 1)<|
.m 14 86<|
.nil))
def C223_10 (cc11 : XC) : XC := (.seq (.seq (.ops (.m 121 0<|
.n 122 121<|
.f 123 6 122<|
.l 124 .i 123<|
.b 125 .eql .none (.t 124) (.i 0)<|
.m 126 125<|
.grp 126 true (.p 127 [8, 126] (.mov (.t 8))<|
.p 128 [127, 126] (.un .not (.t 127))<|
.nil) 129 [126, 128] (.t 126) (.t 128) (.con (V.bool false))<|
.nil))
 (.cond (.tmp 129) (.keep [(0, .ptr), (1, .i), (3, .i), (6, .ptr), (8, .bool), (11, .any), (12, .i), (13, .ptr)] [] [] (.gdraw G223_0 H223_0 [(0, .ptr), (1, .i), (3, .i), (6, .ptr), (8, .bool), (11, .any), (12, .i), (13, .ptr)]))
 .skip))
 (.keep [(0, .ptr), (1, .i), (3, .i), (6, .ptr), (8, .bool), (11, .any), (12, .i), (13, .ptr)] [] [] cc11))
def C223_11 : XC := (.ops (.m 139 11<|
.op (some 140) (.agg [.str, .i, .bool, .bool, .i, .i, .any, .any, .i, .any, .i]) [13] (.load (some 11) (.t 13))<|
.p 141 [140] (.buildSlice 200 1 [(V.str ⟨0, 0⟩), (V.int .i64 (Int.ofNat 0)), (V.bool false), (V.bool false), (V.int .i64 (Int.ofNat 0)), (V.int .i64 (Int.ofNat 0)), V.nils, V.nils, (V.int .i64 (Int.ofNat 0)), V.nils, (V.int .i64 (Int.ofNat 0))] [(0, 11, (.t 140))])<|
.op (some 142) .one [139, 141] (.append 200 11 136 (.t 139) (.t 141))<|
.m 11 142<|
.nil))
def A223 : XFn := ⟨168, [.ptr, .i, (.agg [.i, .str, .bool, .i, .i, .bool, .bool, .bool, .bool, .i, .i, .any, .any, .i, .bool, .i]), .i], [], (C223_0 (C223_1 (C223_3 C223_4 (C223_5 C223_6 (C223_7 (C223_10 C223_11)) (C223_8 C223_9)))) C223_2)⟩
def C224_0 : XC := (.seq (.ops (.c 6 V.nils<|
.q 7 0<|
.nil))
 (.seq (.seq (.ops (.m 9 1<|
.b 10 .lss .none (.t 9) (.i 0)<|
.m 11 10<|
.grp 11 false (.p 12 [1, 11] (.mov (.t 1))<|
.p 13 [12, 11] (.bin .gtr .none (.t 12) (.i 268435456))<|
.nil) 14 [11, 13] (.t 11) (.con (V.bool true)) (.t 13)<|
.m 15 14<|
.grp 15 false (.p 16 [2, 15] (.mov (.t 2))<|
.p 17 [16, 15] (.bin .eql .none (.t 16) (.i 1))<|
.p 18 [17, 15] (.mov (.t 17))<|
.grp 18 true (.p 19 [0, 18] (.mov (.t 0))<|
.p 20 [19, 18] (.len false (.t 19))<|
.p 21 [20, 18] (.bin .eql .none (.t 20) (.i 0))<|
.nil) 22 [18, 21, 15] (.t 18) (.t 21) (.con (V.bool false))<|
.nil) 23 [15, 22] (.t 15) (.con (V.bool true)) (.t 22)<|
.nil))
 (.cond (.tmp 23) (.seq (.ops (.c 6 V.nils<|
.q 7 12<|
.nil))
 .ret)
 .skip))
 (.seq (.ops (.m 24 1<|
.op (some 25) (.agg [.i, .i]) [24] (.build [(V.int .i64 (Int.ofNat 0)), (V.int .i64 (Int.ofNat 0))] [(0, 1, (.i 2)), (1, 1, (.t 24))])<|
.p 26 [25] (.buildSlice 253 1 [(V.int .i64 (Int.ofNat 0)), (V.int .i64 (Int.ofNat 0))] [(0, 2, (.t 25))])<|
.m 8 26<|
.nil))
 (.seq (.seq (.ops (.m 27 2<|
.b 28 .eql .none (.t 27) (.i 1)<|
.nil))
 (.cond (.tmp 28) (.seq (.ops (.m 29 8<|
.m 30 0<|
.p 31 [30] (.sliceSl 2 (.t 30) (some (.i 1)) none none)<|
.op (some 32) .one [29, 31] (.append 253 2 16 (.t 29) (.t 31))<|
.m 6 32<|
.q 7 0<|
.nil))
 .ret)
 .skip))
 (.seq (.ops (.m 33 8<|
.m 34 0<|
.op (some 35) .one [33, 34] (.append 253 2 16 (.t 33) (.t 34))<|
.m 6 35<|
.q 7 0<|
.nil))
 .ret)))))
def A224 : XFn := ⟨36, [.any, .i, .i], [(.tmp 6), (.tmp 7)], C224_0⟩
def C230_0 (cc1 : XC) (cc2 : XC) : XC := (.seq (.ops (.p 5 [2] (.box 38 (.t 2))<|
.c 6 (V.bool false)<|
.nil))
 (.seq (.ops (.m 14 0<|
.n 15 14<|
.f 16 0 15<|
.f 17 0 16<|
.f 18 3 17<|
.l 19 .any 18<|
.m 20 1<|
.s 21 13 19 20<|
.op (some 22) (.agg [.i, .any, .bool, .bool, .bool, .bool, .i, .i, .any, .any, .i, .bool, .i]) [21] (.load (some 13) (.t 21))<|
.pal 7 [] 145 [(V.int .i64 (Int.ofNat 0)), V.nils, (V.bool false), (V.bool false), (V.bool false), (V.bool false), (V.int .i64 (Int.ofNat 0)), (V.int .i64 (Int.ofNat 0)), V.nils, V.nils, (V.int .i64 (Int.ofNat 0)), (V.bool false), (V.int .i64 (Int.ofNat 0))]<|
.op none (.agg [.i, .any, .bool, .bool, .bool, .bool, .i, .i, .any, .any, .i, .bool, .i]) [7, 22] (.store 13 (.t 7) (.t 22))<|
.nil))
 (.seq (.seq (.ops (.f 23 5 5<|
.l 24 .any 23<|
.u 25 24<|
.b 26 .eql .none (.t 25) (.i 0)<|
.nil))
 (.cond (.tmp 26) (.seq (.ops (.f 27 4 5<|
.l 28 .i 27<|
.b 29 .eql .none (.t 28) (.i 0)<|
.m 6 29<|
.nil))
 .ret)
 .skip))
 (.seq (.seq (.ops (.f 30 11 7<|
.l 31 .bool 30<|
.p 32 [31] (.un .not (.t 31))<|
.m 33 32<|
.grp 33 false (.p 34 [5, 33] (.faddr 4 (.t 5))<|
.op (some 35) .i [34, 33] (.load none (.t 34))<|
.p 36 [35, 33] (.bin .neq .none (.t 35) (.i 1))<|
.p 37 [36, 33] (.mov (.t 36))<|
.grp 37 true (.p 38 [5, 37] (.faddr 4 (.t 5))<|
.op (some 39) .i [38, 37] (.load none (.t 38))<|
.p 40 [39, 37] (.bin .neq .none (.t 39) (.i 2))<|
.nil) 41 [37, 40, 33] (.t 37) (.t 40) (.con (V.bool false))<|
.nil) 42 [33, 41] (.t 33) (.con (V.bool true)) (.t 41)<|
.nil))
 (.cond (.tmp 42) (.seq (.ops (.c 6 (V.bool false)<|
.nil))
 .ret)
 .skip))
 (.seq (.ops (.m 43 0<|
.n 44 43<|
.f 45 0 44<|
.f 46 0 45<|
.op (some 47) (.agg [.str, .any, .any, .any]) [46] (.load (some 4) (.t 46))<|
.m 48 1<|
.k 49 .one 155 [(.t 47), (.t 48)]<|
.u 50 49<|
.m 8 50<|
.nil))
 (.seq (.ops (.pal 9 [] 253 [(V.int .i64 (Int.ofNat 0)), (V.int .i64 (Int.ofNat 0))]<|
.nil))
 (.seq (.seq (.ops (.f 51 5 5<|
.l 52 .any 51<|
.u 53 52<|
.q 54 0<|
.nil))
 (.block 0 (.loop [(0, .ptr), (1, .i), (5, .ptr), (8, .i), (52, .any), (53, .i), (54, .i)] [7, 9] [(7, [.i, .any, .bool, .bool, .bool, .bool, .i, .i, .any, .any, .i, .bool, .i]), (9, [.i, .i])] cc2)))
 (.keep [] [] [] cc1))))))))
def C230_1 : XC := (.seq (.ops (.c 6 (V.bool true)<|
.nil))
 .ret)
def C230_2 (cc3 : XC) : XC := (.seq (.ops (.b 55 .lss .none (.t 54) (.t 53)<|
.nil))
 (.seq (.cond (.tmp 55) .skip
 (.exit 0))
 (.seq (.block 1 (.seq (.ops (.m 56 54<|
.s 57 2 52 54<|
.op (some 58) (.agg [.i, .any]) [57] (.load (some 2) (.t 57))<|
.pal 11 [] 70 [(V.int .i64 (Int.ofNat 0)), V.nils]<|
.m 10 56<|
.op none (.agg [.i, .any]) [11, 58] (.store 2 (.t 11) (.t 58))<|
.nil))
 (.seq (.seq (.ops (.f 59 4 5<|
.l 60 .i 59<|
.b 61 .eql .none (.t 60) (.i 2)<|
.nil))
 (.cond (.tmp 61) (.seq (.seq (.ops (.f 62 0 11<|
.l 63 .i 62<|
.m 64 8<|
.b 65 .lss .none (.t 63) (.t 64)<|
.m 66 65<|
.grp 66 false (.p 67 [11, 66] (.faddr 0 (.t 11))<|
.op (some 68) .i [67, 66] (.load none (.t 67))<|
.p 69 [68, 66] (.bin .geq .none (.t 68) (.i 1000))<|
.nil) 70 [66, 69] (.t 66) (.con (V.bool true)) (.t 69)<|
.m 71 70<|
.grp 71 false (.p 72 [11, 71] (.faddr 1 (.t 11))<|
.p 73 [72, 71] (.load none (.t 72))<|
.op (some 74) .bool [73, 71] (.call 226 [(.t 73)])<|
.p 75 [74, 71] (.un .not (.t 74))<|
.nil) 76 [71, 75] (.t 71) (.con (V.bool true)) (.t 75)<|
.nil))
 (.cond (.tmp 76) (.seq (.ops (.c 6 (V.bool false)<|
.nil))
 .ret)
 .skip))
 (.seq (.ops (.f 77 0 11<|
.l 78 .i 77<|
.b 79 .add .none (.t 78) (.i 1)<|
.m 8 79<|
.nil))
 (.exit 1)))
 .skip))
 (.seq (.ops (.m 81 0<|
.m 82 1<|
.f 83 1 11<|
.l 84 .any 83<|
.k 85 (.tup [(.agg [.i, .i]), .bool]) 225 [(.t 81), (.t 82), (.t 84)]<|
.m 80 85<|
.p 86 [80] (.extract 0 (.t 80))<|
.p 87 [80] (.extract 1 (.t 80))<|
.pal 12 [] 253 [(V.int .i64 (Int.ofNat 0)), (V.int .i64 (Int.ofNat 0))]<|
.op none (.agg [.i, .i]) [12, 86] (.store 2 (.t 12) (.t 86))<|
.m 13 87<|
.nil))
 (.seq (.seq (.ops (.m 88 13<|
.p 89 [88] (.un .not (.t 88))<|
.m 90 89<|
.grp 90 false (.p 91 [11, 90] (.faddr 0 (.t 11))<|
.op (some 92) .i [91, 90] (.load none (.t 91))<|
.p 93 [92, 90] (.bin .neq .none (.t 92) (.i 0))<|
.nil) 94 [90, 93] (.t 90) (.con (V.bool true)) (.t 93)<|
.m 95 94<|
.grp 95 false (.p 96 [7, 95] (.faddr 0 (.t 7))<|
.op (some 97) .i [96, 95] (.load none (.t 96))<|
.p 98 [97, 95] (.bin .eql .none (.t 97) (.i 8))<|
.p 99 [98, 95] (.mov (.t 98))<|
.grp 99 true (.p 100 [10, 99] (.mov (.t 10))<|
.p 101 [100, 99] (.bin .gtr .none (.t 100) (.i 0))<|
.nil) 102 [99, 101, 95] (.t 99) (.t 101) (.con (V.bool false))<|
.p 103 [102, 95] (.mov (.t 102))<|
.grp 103 true (.op (some 104) (.agg [.i, .i]) [9, 103] (.load (some 2) (.t 9))<|
.op (some 105) (.agg [.i, .i]) [12, 103] (.load (some 2) (.t 12))<|
.op (some 106) .bool [104, 105, 103] (.call 247 [(.t 104), (.t 105)])<|
.p 107 [106, 103] (.un .not (.t 106))<|
.nil) 108 [103, 107, 95] (.t 103) (.t 107) (.con (V.bool false))<|
.nil) 109 [95, 108] (.t 95) (.con (V.bool true)) (.t 108)<|
.nil))
 (.cond (.tmp 109) (.seq (.ops (.c 6 (V.bool false)<|
.nil))
 .ret)
 .skip))
 (.ops (.op (some 110) (.agg [.i, .i]) [12] (.load (some 2) (.t 12))<|
.op none (.agg [.i, .i]) [9, 110] (.store 2 (.t 9) (.t 110))<|
.nil)))))))
 (.keep [(0, .ptr), (1, .i), (5, .ptr), (8, .i), (52, .any), (53, .i), (54, .i)] [7, 9] [(7, [.i, .any, .bool, .bool, .bool, .bool, .i, .i, .any, .any, .i, .bool, .i]), (9, [.i, .i])] cc3))))
def C230_3 : XC := (.ops (.b 111 .add .none (.t 54) (.i 1)<|
.m 54 111<|
.nil))
def A230 : XFn := ⟨112, [.ptr, .i, (.agg [.i, .i, .any, .any, .i, .any])], [(.tmp 6)], (C230_0 C230_1 (C230_2 C230_3))⟩
def C231_0 : XC := (.seq (.ops (.p 2 [0] (.box 145 (.t 0))<|
.c 4 (V.bool false)<|
.nil))
 (.seq (.ops (.f 5 9 2<|
.l 6 .any 5<|
.m 7 1<|
.s 8 11 6 7<|
.f 9 2 8<|
.l 10 .bool 9<|
.m 11 10<|
.grp 11 false (.p 12 [2, 11] (.faddr 9 (.t 2))<|
.p 13 [12, 11] (.load none (.t 12))<|
.p 14 [1, 11] (.mov (.t 1))<|
.p 15 [13, 14, 11] (.iaddrS 11 (.t 13) (.t 14))<|
.p 16 [15, 11] (.faddr 3 (.t 15))<|
.op (some 17) .bool [16, 11] (.load none (.t 16))<|
.nil) 18 [11, 17] (.t 11) (.con (V.bool true)) (.t 17)<|
.m 19 18<|
.grp 19 false (.p 20 [1, 19] (.mov (.t 1))<|
.p 21 [2, 19] (.faddr 10 (.t 2))<|
.op (some 22) .i [21, 19] (.load none (.t 21))<|
.p 23 [20, 22, 19] (.bin .geq .none (.t 20) (.t 22))<|
.nil) 24 [19, 23] (.t 19) (.con (V.bool true)) (.t 23)<|
.m 4 24<|
.nil))
 .ret))
def A231 : XFn := ⟨25, [(.agg [.i, .any, .bool, .bool, .bool, .bool, .i, .i, .any, .any, .i, .bool, .i]), .i], [(.tmp 4)], C231_0⟩
def C233_0 (cc1 : XC) (cc2 : XC) : XC := (.seq (.ops (.p 5 [2] (.box 38 (.t 2))<|
.c 6 (V.bool false)<|
.nil))
 (.seq (.ops (.m 15 0<|
.n 16 15<|
.f 17 0 16<|
.f 18 0 17<|
.f 19 3 18<|
.l 20 .any 19<|
.m 21 1<|
.s 22 13 20 21<|
.op (some 23) (.agg [.i, .any, .bool, .bool, .bool, .bool, .i, .i, .any, .any, .i, .bool, .i]) [22] (.load (some 13) (.t 22))<|
.pal 7 [] 145 [(V.int .i64 (Int.ofNat 0)), V.nils, (V.bool false), (V.bool false), (V.bool false), (V.bool false), (V.int .i64 (Int.ofNat 0)), (V.int .i64 (Int.ofNat 0)), V.nils, V.nils, (V.int .i64 (Int.ofNat 0)), (V.bool false), (V.int .i64 (Int.ofNat 0))]<|
.op none (.agg [.i, .any, .bool, .bool, .bool, .bool, .i, .i, .any, .any, .i, .bool, .i]) [7, 23] (.store 13 (.t 7) (.t 23))<|
.nil))
 (.seq (.seq (.ops (.m 24 0<|
.n 25 24<|
.f 26 0 25<|
.f 27 0 26<|
.op (some 28) (.agg [.str, .any, .any, .any]) [27] (.load (some 4) (.t 27))<|
.m 29 1<|
.k 30 .one 155 [(.t 28), (.t 29)]<|
.u 31 30<|
.q 32 0<|
.nil))
 (.block 0 (.loop [(5, .ptr), (30, .any), (31, .i), (32, .i)] [7] [(7, [.i, .any, .bool, .bool, .bool, .bool, .i, .i, .any, .any, .i, .bool, .i])] cc2)))
 (.keep [] [] [] cc1))))
def C233_1 : XC := (.seq (.ops (.c 6 (V.bool true)<|
.nil))
 .ret)
def C233_2 (cc3 : XC) (cc4 : XC) (cc5 : XC) : XC := (.seq (.ops (.b 33 .lss .none (.t 32) (.t 31)<|
.nil))
 (.seq (.cond (.tmp 33) .skip
 (.exit 0))
 (.seq (.block 1 (.seq (.ops (.s 34 1 30 32<|
.l 35 .any 34<|
.m 9 35<|
.nil))
 (.seq (.seq (.draw (.f 36 9 7<|
.l 37 .any 36<|
.m 38 9<|
.p 39 [38] (.iaddrS 1 (.t 38) (.i 0))<|
.l 40 .i 39<|
.s 41 11 37 40<|
.f 42 10 41<|
.l 43 .i 42<|
.b 44 .eql .none (.t 43) (.i 0)<|
.nil) [0, 1, 0, 4, 12, 31, 63, 127, 255])
 (.cond (.tmp 44) (.exit 1)
 .skip))
 (.seq (.ops (.c 10 (V.bool false)<|
.c 11 (V.bool false)<|
.nil))
 (.seq (.seq (.ops (.m 45 9<|
.u 46 45<|
.q 47 0<|
.nil))
 (.block 2 (.loop [(5, .ptr), (10, .bool), (11, .bool), (30, .any), (31, .i), (32, .i), (45, .any), (46, .i), (47, .i)] [7] [(7, [.i, .any, .bool, .bool, .bool, .bool, .i, .i, .any, .any, .i, .bool, .i])] cc5)))
 (.keep [(5, .ptr), (10, .bool), (11, .bool), (30, .any), (31, .i), (32, .i)] [7] [(7, [.i, .any, .bool, .bool, .bool, .bool, .i, .i, .any, .any, .i, .bool, .i])] cc4))))))
 (.keep [(5, .ptr), (30, .any), (31, .i), (32, .i)] [7] [(7, [.i, .any, .bool, .bool, .bool, .bool, .i, .i, .any, .any, .i, .bool, .i])] cc3))))
def C233_3 : XC := (.ops (.b 90 .add .none (.t 32) (.i 1)<|
.m 32 90<|
.nil))
def C233_4 : XC := (.seq (.ops (.m 86 10<|
.m 87 86<|
.grp 87 true (.p 88 [11, 87] (.mov (.t 11))<|
.nil) 89 [87, 88] (.t 87) (.t 88) (.con (V.bool false))<|
.nil))
 (.cond (.tmp 89) (.seq (.ops (.c 6 (V.bool false)<|
.nil))
 .ret)
 .skip))
def C233_5 : XC := (.seq (.ops (.b 48 .lss .none (.t 47) (.t 46)<|
.nil))
 (.seq (.cond (.tmp 48) .skip
 (.exit 2))
 (.seq (.block 3 (.seq (.ops (.s 49 1 45 47<|
.l 50 .i 49<|
.m 13 50<|
.nil))
 (.seq (.ops (.f 51 3 5<|
.l 52 .any 51<|
.m 53 13<|
.s 54 6 52 53<|
.op (some 55) (.agg [.i, .i, .any, .any, .i, .any]) [54] (.load (some 6) (.t 54))<|
.k 56 .bool 158 [(.t 55)]<|
.p 57 [56] (.un .not (.t 56))<|
.m 14 57<|
.nil))
 (.seq (.ops (.m 58 10<|
.m 59 58<|
.grp 59 false (.p 60 [14, 59] (.mov (.t 14))<|
.nil) 61 [59, 60] (.t 59) (.con (V.bool true)) (.t 60)<|
.m 10 61<|
.nil))
 (.ops (.m 62 11<|
.m 63 62<|
.grp 63 false (.p 64 [14, 63] (.mov (.t 14))<|
.p 65 [64, 63] (.un .not (.t 64))<|
.p 66 [65, 63] (.mov (.t 65))<|
.grp 66 true (.p 67 [7, 66] (.faddr 9 (.t 7))<|
.p 68 [67, 66] (.load none (.t 67))<|
.p 69 [13, 66] (.mov (.t 13))<|
.p 70 [68, 69, 66] (.iaddrS 11 (.t 68) (.t 69))<|
.p 71 [70, 66] (.faddr 2 (.t 70))<|
.op (some 72) .bool [71, 66] (.load none (.t 71))<|
.p 73 [72, 66] (.un .not (.t 72))<|
.nil) 74 [66, 73, 63] (.t 66) (.t 73) (.con (V.bool false))<|
.p 75 [74, 63] (.mov (.t 74))<|
.grp 75 true (.p 76 [7, 75] (.faddr 9 (.t 7))<|
.p 77 [76, 75] (.load none (.t 76))<|
.p 78 [13, 75] (.mov (.t 13))<|
.p 79 [77, 78, 75] (.iaddrS 11 (.t 77) (.t 78))<|
.p 80 [79, 75] (.faddr 3 (.t 79))<|
.op (some 81) .bool [80, 75] (.load none (.t 80))<|
.p 82 [81, 75] (.un .not (.t 81))<|
.nil) 83 [75, 82, 63] (.t 75) (.t 82) (.con (V.bool false))<|
.nil) 84 [63, 83] (.t 63) (.con (V.bool true)) (.t 83)<|
.m 11 84<|
.nil))))))
 (.ops (.b 85 .add .none (.t 47) (.i 1)<|
.m 47 85<|
.nil)))))
def A233 : XFn := ⟨91, [.ptr, .i, (.agg [.i, .i, .any, .any, .i, .any])], [(.tmp 6)], (C233_0 C233_1 (C233_2 C233_3 C233_4 C233_5))⟩
def C234_0 (cc1 : XC) : XC := (.seq (.ops (.m 7 2<|
.k 8 .i 260 [(.t 7)]<|
.b 9 .sub .none (.t 8) (.i 1)<|
.m 6 9<|
.nil))
 (.block 0 (.loop [(0, .any), (1, (.int .u32)), (6, .i)] [] [] cc1)))
def C234_1 : XC := (.seq (.seq (.ops (.m 10 6<|
.b 11 .geq .none (.t 10) (.i 0)<|
.nil))
 (.cond (.tmp 11) .skip
 (.exit 0)))
 (.seq (.block 1 (.ops (.m 14 0<|
.m 15 1<|
.m 16 6<|
.b 17 .shr .none (.t 15) (.t 16)<|
.b 18 .and .none (.t 17) (.con (V.int .u32 (Int.ofNat 1)))<|
.p 19 [18] (.conv (.toInt .i64) (.t 18))<|
.k 20 (.tup []) 289 [(.t 14), (.t 19)]<|
.nil)))
 (.ops (.m 12 6<|
.b 13 .sub .none (.t 12) (.i 1)<|
.m 6 13<|
.nil))))
def A234 : XFn := ⟨21, [.any, (.int .u32), .i], [], (C234_0 C234_1)⟩
def C235_0 : XC := (.seq (.ops (.p 1 [0] (.box 266 (.t 0))<|
.c 2 (V.bool false)<|
.nil))
 (.seq (.ops (.f 3 0 1<|
.f 4 0 3<|
.l 5 .bool 4<|
.m 6 5<|
.grp 6 true (.p 7 [1, 6] (.faddr 0 (.t 1))<|
.p 8 [7, 6] (.faddr 1 (.t 7))<|
.op (some 9) .bool [8, 6] (.load none (.t 8))<|
.nil) 10 [6, 9] (.t 6) (.t 9) (.con (V.bool false))<|
.m 11 10<|
.grp 11 true (.p 12 [1, 11] (.faddr 0 (.t 1))<|
.p 13 [12, 11] (.faddr 2 (.t 12))<|
.op (some 14) .bool [13, 11] (.load none (.t 13))<|
.nil) 15 [11, 14] (.t 11) (.t 14) (.con (V.bool false))<|
.m 2 15<|
.nil))
 .ret))
def A235 : XFn := ⟨16, [(.agg [.bool, .bool, .bool, .bool, .i, .i])], [(.tmp 2)], C235_0⟩
def C236_0 : XC := (.seq (.ops (.p 1 [0] (.box 266 (.t 0))<|
.c 2 (V.bool false)<|
.nil))
 (.seq (.ops (.op (some 3) (.agg [.bool, .bool, .bool, .bool, .i, .i]) [1] (.load (some 6) (.t 1))<|
.k 4 .bool 235 [(.t 3)]<|
.m 5 4<|
.grp 5 true (.p 6 [1, 5] (.faddr 0 (.t 1))<|
.p 7 [6, 5] (.faddr 4 (.t 6))<|
.op (some 8) .i [7, 5] (.load none (.t 7))<|
.p 9 [1, 5] (.faddr 0 (.t 1))<|
.p 10 [9, 5] (.faddr 5 (.t 9))<|
.op (some 11) .i [10, 5] (.load none (.t 10))<|
.p 12 [8, 11, 5] (.bin .gtr .none (.t 8) (.t 11))<|
.nil) 13 [5, 12] (.t 5) (.t 12) (.con (V.bool false))<|
.m 2 13<|
.nil))
 .ret))
def A236 : XFn := ⟨14, [(.agg [.bool, .bool, .bool, .bool, .i, .i])], [(.tmp 2)], C236_0⟩
def C237_0 : XC := (.seq (.ops (.q 2 0<|
.nil))
 (.seq (.ops (.m 3 0<|
.k 4 .i 290 [(.t 3)]<|
.m 2 4<|
.nil))
 .ret))
def A237 : XFn := ⟨5, [(.int .u64)], [(.tmp 2)], C237_0⟩
def C239_0 : XC := (.seq (.ops (.p 2 [0] (.box 30 (.t 0))<|
.pal 4 [] 145 [(V.int .i64 (Int.ofNat 0)), V.nils, (V.bool false), (V.bool false), (V.bool false), (V.bool false), (V.int .i64 (Int.ofNat 0)), (V.int .i64 (Int.ofNat 0)), V.nils, V.nils, (V.int .i64 (Int.ofNat 0)), (V.bool false), (V.int .i64 (Int.ofNat 0))]<|
.nil))
 (.seq (.seq (.ops (.m 5 1<|
.b 6 .lss .none (.t 5) (.i 0)<|
.m 7 6<|
.grp 7 false (.p 8 [1, 7] (.mov (.t 1))<|
.p 9 [2, 7] (.faddr 3 (.t 2))<|
.p 10 [9, 7] (.load none (.t 9))<|
.p 11 [10, 7] (.len false (.t 10))<|
.p 12 [8, 11, 7] (.bin .geq .none (.t 8) (.t 11))<|
.nil) 13 [7, 12] (.t 7) (.con (V.bool true)) (.t 12)<|
.nil))
 (.cond (.tmp 13) (.seq (.ops (.op (some 14) (.agg [.i, .any, .bool, .bool, .bool, .bool, .i, .i, .any, .any, .i, .bool, .i]) [] (.build [(V.int .i64 (Int.ofNat 0)), V.nils, (V.bool false), (V.bool false), (V.bool false), (V.bool false), (V.int .i64 (Int.ofNat 0)), (V.int .i64 (Int.ofNat 0)), V.nils, V.nils, (V.int .i64 (Int.ofNat 0)), (V.bool false), (V.int .i64 (Int.ofNat 0))] [])<|
.op none (.agg [.i, .any, .bool, .bool, .bool, .bool, .i, .i, .any, .any, .i, .bool, .i]) [4, 14] (.store 13 (.t 4) (.t 14))<|
.nil))
 .ret)
 .skip))
 (.seq (.ops (.f 15 3 2<|
.l 16 .any 15<|
.m 17 1<|
.s 18 13 16 17<|
.op (some 19) (.agg [.i, .any, .bool, .bool, .bool, .bool, .i, .i, .any, .any, .i, .bool, .i]) [18] (.load (some 13) (.t 18))<|
.op none (.agg [.i, .any, .bool, .bool, .bool, .bool, .i, .i, .any, .any, .i, .bool, .i]) [4, 19] (.store 13 (.t 4) (.t 19))<|
.nil))
 .ret)))
def A239 : XFn := ⟨20, [(.agg [.str, .any, .any, .any]), .i], [(.cell 4 (some 13))], C239_0⟩
def C243_0 (cc1 : XC) (cc2 : XC) : XC := (.seq (.ops (.c 4 V.nils<|
.nil))
 (.seq (.ops (.c 5 V.nils<|
.nil))
 (.seq (.seq (.ops (.m 7 0<|
.m 6 7<|
.nil))
 (.block 0 (.loop [(1, .i), (5, .any), (6, .i)] [] [] cc2)))
 (.keep [(5, .any)] [] [] cc1))))
def C243_1 : XC := (.seq (.ops (.m 17 5<|
.m 4 17<|
.nil))
 .ret)
def C243_2 : XC := (.seq (.seq (.ops (.m 8 6<|
.m 9 1<|
.b 10 .lss .none (.t 8) (.t 9)<|
.nil))
 (.cond (.tmp 10) .skip
 (.exit 0)))
 (.seq (.block 1 (.ops (.m 13 5<|
.m 14 6<|
.p 15 [14] (.buildSlice 3 1 [(V.int .i64 (Int.ofNat 0))] [(0, 1, (.t 14))])<|
.op (some 16) .one [13, 15] (.append 3 1 8 (.t 13) (.t 15))<|
.m 5 16<|
.nil)))
 (.ops (.m 11 6<|
.b 12 .add .none (.t 11) (.i 1)<|
.m 6 12<|
.nil))))
def A243 : XFn := ⟨18, [.i, .i], [(.tmp 4)], (C243_0 C243_1 C243_2)⟩
def C244_0 : XC := (.seq (.ops (.q 2 0<|
.c 3 (V.bool false)<|
.nil))
 (.seq (.seq (.ops (.m 4 0<|
.b 5 .lss .none (.t 4) (.i 16384)<|
.nil))
 (.cond (.tmp 5) (.seq (.ops (.m 6 0<|
.m 2 6<|
.c 3 (V.bool false)<|
.nil))
 .ret)
 .skip))
 (.seq (.ops (.m 7 0<|
.b 8 .quo .none (.t 7) (.i 16384)<|
.p 9 [8] (.min (.t 8) [(.i 4)])<|
.b 10 .mul .none (.t 9) (.i 16384)<|
.m 2 10<|
.c 3 (V.bool true)<|
.nil))
 .ret)))
def A244 : XFn := ⟨11, [.i], [(.tmp 2), (.tmp 3)], C244_0⟩
def C248_0 (cc1 : XC) (cc2 : XC) : XC := (.seq (.ops (.q 4 0<|
.nil))
 (.seq (.seq (.ops (.m 6 0<|
.u 7 6<|
.q 8 0<|
.nil))
 (.block 0 (.loop [(0, .any), (1, .any), (7, .i), (8, .i)] [] [] cc2)))
 (.keep [] [] [] cc1)))
def C248_1 : XC := (.seq (.ops (.c 4 (V.int .i64 (Int.negSucc 0))<|
.nil))
 .ret)
def C248_2 : XC := (.seq (.ops (.b 9 .lss .none (.t 8) (.t 7)<|
.nil))
 (.seq (.cond (.tmp 9) .skip
 (.exit 0))
 (.seq (.block 1 (.seq (.ops (.m 10 8<|
.m 5 10<|
.nil))
 (.seq (.ops (.m 11 1<|
.m 12 0<|
.m 13 5<|
.s 14 1 12 13<|
.l 15 .i 14<|
.op (some 16) .bool [11, 15] (.callv (.t 11) [(.t 15)])<|
.nil))
 (.cond (.tmp 16) (.seq (.ops (.m 17 5<|
.m 4 17<|
.nil))
 .ret)
 .skip))))
 (.ops (.b 18 .add .none (.t 8) (.i 1)<|
.m 8 18<|
.nil)))))
def A248 : XFn := ⟨19, [.any, .any], [(.tmp 4)], (C248_0 C248_1 C248_2)⟩
def C249_0 (cc1 : XC) (cc2 : XC) : XC := (.seq (.ops (.q 4 0<|
.nil))
 (.seq (.seq (.ops (.m 6 0<|
.u 7 6<|
.q 8 0<|
.nil))
 (.block 0 (.loop [(0, .any), (1, .bool), (7, .i), (8, .i)] [] [] cc2)))
 (.keep [] [] [] cc1)))
def C249_1 : XC := (.seq (.ops (.c 4 (V.int .i64 (Int.negSucc 0))<|
.nil))
 .ret)
def C249_2 : XC := (.seq (.ops (.b 9 .lss .none (.t 8) (.t 7)<|
.nil))
 (.seq (.cond (.tmp 9) .skip
 (.exit 0))
 (.seq (.block 1 (.seq (.ops (.m 10 8<|
.m 5 10<|
.nil))
 (.seq (.ops (.m 11 1<|
.m 12 0<|
.m 13 5<|
.s 14 1 12 13<|
.l 15 .bool 14<|
.b 16 .eql .bool (.t 11) (.t 15)<|
.nil))
 (.cond (.tmp 16) (.seq (.ops (.m 17 5<|
.m 4 17<|
.nil))
 .ret)
 .skip))))
 (.ops (.b 18 .add .none (.t 8) (.i 1)<|
.m 8 18<|
.nil)))))
def A249 : XFn := ⟨19, [.any, .bool], [(.tmp 4)], (C249_0 C249_1 C249_2)⟩
def C252_0 : XC := (.draw (.m 5 0<|
.f 6 1 1<|
.l 7 .i 6<|
.f 8 3 2<|
.l 9 .any 8<|
.l 10 .any 3<|
.p 11 [10] (.iaddrS 1 (.t 10) (.i 0))<|
.l 12 .i 11<|
.s 13 6 9 12<|
.op (some 14) (.agg [.i, .i, .any, .any, .i, .any]) [13] (.load (some 6) (.t 13))<|
.k 15 (.tup []) 39 [(.t 5), (.t 7), (.t 14)]<|
.nil) [0, 0, 2, 0, 8, 0, 32, 96, 248, 504, 1023])
def A252 : XFn := ⟨16, [.any, .any, .any, .any], [], C252_0⟩
def Fin260 (E : List (Nat × Blk)) : St → Ans := fun s => resK E s [(.tmp 2)] fun l => some (oneV l, s.σ)
def C260_0 : XC := (.seq (.ops (.q 2 0<|
.nil))
 (.seq (.ops (.m 3 0<|
.p 4 [3] (.min (.t 3) [(.i 32)])<|
.p 5 [4] (.max (.i 0) [(.t 4)])<|
.m 2 5<|
.nil))
 .ret))
def T260_0 (E : List (Nat × Blk)) (D : Den) (W : DrawFn) (v0 : Int) (σ : H) : Ans :=
 some ((V.int .i64 (maxF (Int.ofNat 0) (minF v0 (Int.ofNat 32)))), σ)
def S260_0 (v0 : Int) (σ : H) : St := ⟨[(0, (V.int .i64 v0))], [], [], σ⟩
theorem P260_0 (v0 : Int) (σ : H) :
 denC E D W N (C260_0 ) (S260_0 v0 σ) (Fin260 E) (fun _ _ => none) (Fin260 E) =
 T260_0 E D W  v0 σ := by kernel_rfl
def J260_0 (E : List (Nat × Blk)) (D : Den) (W : DrawFn) (N : Nat) : Int → H → Ans := T260_0 E D W
theorem JE260_0 (v0 : Int) (σ : H) :
 denC E D W N C260_0 (S260_0 v0 σ) (Fin260 E) (fun _ _ => none) (Fin260 E) = J260_0 E D W N v0 σ := by
 refine (P260_0 E D W N   v0 σ).trans ?_
 kernel_rfl
def F260 (args : List V) (σ : H) : Ans :=
 rtCons args fun x1 l2 =>
 rtInt .i64 x1 fun x3 =>
 rtNil l2 (
 J260_0 E D W N x3 σ)
def A260 : XFn := ⟨6, [.i], [(.tmp 2)], C260_0⟩
theorem FE260 (args : List V) (σ : H) : runX E D W N A260 args σ = F260 E D W N args σ := by
 unfold F260
 simp only [← JE260_0]
 kernel_rfl
theorem AO260 : A260.body.ok = true := by kernel_rfl
def Fin261 (E : List (Nat × Blk)) : St → Ans := fun s => resK E s [(.tmp 4)] fun l => some (oneV l, s.σ)
def C261_0 : XC := (.seq (.ops (.c 4 (V.bool false)<|
.nil))
 (.seq (.seq (.ops (.m 5 0<|
.b 6 .eql .ptr (.t 5) (.con V.nilp)<|
.m 7 6<|
.grp 7 false (.p 8 [0, 7] (.mov (.t 0))<|
.p 9 [8, 7] (.nilck (.t 8))<|
.p 10 [9, 7] (.faddr 2 (.t 9))<|
.op (some 11) .i [10, 7] (.load none (.t 10))<|
.p 12 [11, 7] (.bin .neq .none (.t 11) (.i 0))<|
.nil) 13 [7, 12] (.t 7) (.con (V.bool true)) (.t 12)<|
.nil))
 (.cond (.tmp 13) (.seq (.ops (.c 4 (V.bool false)<|
.nil))
 .ret)
 .skip))
 (.seq (.seq (.ops (.m 14 1<|
.m 15 0<|
.n 16 15<|
.f 17 0 16<|
.k 18 .i 203 [(.t 17)]<|
.b 19 .gtr .none (.t 14) (.t 18)<|
.nil))
 (.cond (.tmp 19) (.seq (.ops (.m 20 0<|
.n 21 20<|
.f 22 2 21<|
.op none .any [22] (.store 1 (.t 22) (.i 3))<|
.nil))
 (.seq (.ops (.c 4 (V.bool false)<|
.nil))
 .ret))
 .skip))
 (.seq (.ops (.c 4 (V.bool true)<|
.nil))
 .ret))))
def T261_0 (E : List (Nat × Blk)) (D : Den) (W : DrawFn) (v0 : V) (v1 : Int) (σ : H) : Ans :=
 eqK .ptr v0 V.nilp fun c1 =>
 joinB (fun c2 s3 =>
 condK c2 (
 some ((V.bool false), s3)) (
 rtPtr v0 fun b5 o6 =>
 callK (D 203 [(V.ptr b5 o6)] s3) fun u7 s8 =>
 rtInt .i64 u7 fun x9 =>
 condK (ltF x9 v1) (
 rtPtr v0 fun b10 o11 =>
 stK 1 b10 (Nat.add o11 2) (V.int .i64 (Int.ofNat 3)) s8 fun s12 =>
 some ((V.bool false), s12)) (
 some ((V.bool true), s8)))) fun k4 =>
 condK c1 (
 k4 true σ) (
 rtPtr v0 fun b13 o14 =>
 ldK E σ b13 (Nat.add o14 2) fun u15 =>
 rtInt .i64 u15 fun x16 =>
 k4 (not (eqF x16 (Int.ofNat 0))) σ)
def S261_0 (v0 : V) (v1 : Int) (σ : H) : St := ⟨[(0, v0), (1, (V.int .i64 v1))], [], [], σ⟩
theorem P261_0 (v0 : V) (v1 : Int) (σ : H) :
 denC E D W N (C261_0 ) (S261_0 v0 v1 σ) (Fin261 E) (fun _ _ => none) (Fin261 E) =
 T261_0 E D W  v0 v1 σ := by kernel_rfl
def J261_0 (E : List (Nat × Blk)) (D : Den) (W : DrawFn) (N : Nat) : V → Int → H → Ans := T261_0 E D W
theorem JE261_0 (v0 : V) (v1 : Int) (σ : H) :
 denC E D W N C261_0 (S261_0 v0 v1 σ) (Fin261 E) (fun _ _ => none) (Fin261 E) = J261_0 E D W N v0 v1 σ := by
 refine (P261_0 E D W N   v0 v1 σ).trans ?_
 kernel_rfl
def F261 (args : List V) (σ : H) : Ans :=
 rtCons args fun x1 l2 =>
 rtCons l2 fun x3 l4 =>
 rtInt .i64 x3 fun x5 =>
 rtNil l4 (
 J261_0 E D W N x1 x5 σ)
def A261 : XFn := ⟨23, [.any, .i], [(.tmp 4)], C261_0⟩
theorem FE261 (args : List V) (σ : H) : runX E D W N A261 args σ = F261 E D W N args σ := by
 unfold F261
 simp only [← JE261_0]
 kernel_rfl
theorem AO261 : A261.body.ok = true := by kernel_rfl
def Fin262 (E : List (Nat × Blk)) : St → Ans := fun s => resK E s [(.tmp 4)] fun l => some (oneV l, s.σ)
def C262_0 : XC := (.seq (.ops (.c 4 (V.bool false)<|
.nil))
 (.seq (.seq (.ops (.m 7 0<|
.k 8 .i 114 [(.t 7)]<|
.b 9 .neq .none (.t 8) (.i 0)<|
.nil))
 (.cond (.tmp 9) (.seq (.ops (.c 4 (V.bool false)<|
.nil))
 .ret)
 .skip))
 (.seq (.ops (.m 10 0<|
.n 11 10<|
.f 12 0 11<|
.l 13 .any 12<|
.n 14 13<|
.op (some 15) (.agg [.any, .i, .i]) [14] (.load (some 3) (.t 14))<|
.pal 5 [] 228 [V.nils, (V.int .i64 (Int.ofNat 0)), (V.int .i64 (Int.ofNat 0))]<|
.op none (.agg [.any, .i, .i]) [5, 15] (.store 3 (.t 5) (.t 15))<|
.nil))
 (.seq (.ops (.m 16 1<|
.op (some 17) (.tup []) [16] (.callv (.t 16) [])<|
.nil))
 (.seq (.seq (.ops (.m 18 0<|
.k 19 .i 114 [(.t 18)]<|
.m 6 19<|
.nil))
 (.seq (.ops (.m 20 6<|
.b 21 .neq .none (.t 20) (.i 0)<|
.nil))
 (.cond (.tmp 21) (.seq (.draw (.m 22 0<|
.n 23 22<|
.f 24 0 23<|
.l 25 .any 24<|
.m 26 0<|
.op (some 27) (.agg [.any, .i, .i]) [5] (.load (some 3) (.t 5))<|
.m 28 6<|
.n 29 25<|
.op none (.agg [.any, .i, .i]) [29, 27] (.store 3 (.t 29) (.t 27))<|
.n 30 26<|
.f 31 1 30<|
.w 1 31 28<|
.nil) [0, 1, 3, 7, 0, 0, 0, 47, 175, 511, 1023, 2047])
 (.seq (.ops (.c 4 (V.bool false)<|
.nil))
 .ret))
 .skip)))
 (.seq (.ops (.c 4 (V.bool true)<|
.nil))
 .ret))))))
def T262_0 (E : List (Nat × Blk)) (D : Den) (W : DrawFn) (v0b v0o : Nat) (v1 : V) (σ : H) : Ans :=
 callK (D 114 [(V.ptr v0b v0o)] σ) fun u1 s2 =>
 rtInt .i64 u1 fun x3 =>
 condK (not (eqF x3 (Int.ofNat 0))) (
 some ((V.bool false), s2)) (
 ldK E s2 v0b v0o fun u4 =>
 rtPtr u4 fun b5 o6 =>
 ldnK E s2 b5 o6 3 fun l7 =>
 rtCons l7 fun x8 l9 =>
 rtCons l9 fun x10 l11 =>
 rtInt .i64 x10 fun x12 =>
 rtCons l11 fun x13 l14 =>
 rtInt .i64 x13 fun x15 =>
 rtNil l14 (
 chk (allOne [x8, (V.int .i64 x12), (V.int .i64 x15)]) (
 callvK D v1 [] s2 fun u16 s17 =>
 rtTup u16 fun l18 =>
 rtNil l18 (
 callK (D 114 [(V.ptr v0b v0o)] s17) fun u19 s20 =>
 rtInt .i64 u19 fun x21 =>
 condK (not (eqF x21 (Int.ofNat 0))) (
 ldK E s20 v0b v0o fun u22 =>
 rtPtr u22 fun b23 o24 =>
 stK 3 b23 o24 (V.agg [x8, (V.int .i64 x12), (V.int .i64 x15)]) s20 fun s25 =>
 stK 1 v0b (Nat.add v0o 1) (V.int .i64 x21) s25 fun s26 =>
 some ((V.bool false), s26)) (
 some ((V.bool true), s20))))))
def S262_0 (v0b v0o : Nat) (v1 : V) (σ : H) : St := ⟨[(0, (V.ptr v0b v0o)), (1, v1)], [], [], σ⟩
theorem P262_0 (v0b v0o : Nat) (v1 : V) (σ : H) :
 denC E D W N (C262_0 ) (S262_0 v0b v0o v1 σ) (Fin262 E) (fun _ _ => none) (Fin262 E) =
 T262_0 E D W  v0b v0o v1 σ := by kernel_rfl
def J262_0 (E : List (Nat × Blk)) (D : Den) (W : DrawFn) (N : Nat) : Nat → Nat → V → H → Ans := T262_0 E D W
theorem JE262_0 (v0b v0o : Nat) (v1 : V) (σ : H) :
 denC E D W N C262_0 (S262_0 v0b v0o v1 σ) (Fin262 E) (fun _ _ => none) (Fin262 E) = J262_0 E D W N v0b v0o v1 σ := by
 refine (P262_0 E D W N   v0b v0o v1 σ).trans ?_
 kernel_rfl
def F262 (args : List V) (σ : H) : Ans :=
 rtCons args fun x1 l2 =>
 rtPtr x1 fun b3 o4 =>
 rtCons l2 fun x5 l6 =>
 rtNil l6 (
 J262_0 E D W N b3 o4 x5 σ)
def A262 : XFn := ⟨32, [.ptr, .any], [(.tmp 4)], C262_0⟩
theorem FE262 (args : List V) (σ : H) : runX E D W N A262 args σ = F262 E D W N args σ := by
 unfold F262
 simp only [← JE262_0]
 kernel_rfl
theorem AO262 : A262.body.ok = true := by kernel_rfl
def G263_0 : List AOper := [⟨(some 3), .load none (.tmp 0), none⟩, ⟨(some 4), .load none (.tmp 1), none⟩, ⟨(some 5), .call 237 [(.tmp 4)], none⟩, ⟨(some 6), .call 103 [(.tmp 3), (.tmp 5)], none⟩, ⟨none, .store 1 (.tmp 2) (.tmp 6), none⟩]
def H263_0 : List DP := [⟨0, [0]⟩, ⟨0, [1]⟩, ⟨2, [4]⟩, ⟨7, [3, 5]⟩, ⟨15, [2, 6]⟩]
def C263_0 : XC := (.seq (.keep [(0, .any), (1, .any), (2, .any)] [] [] (.gdraw G263_0 H263_0 [(0, .any), (1, .any), (2, .any)]))
 (.seq (.ops (.l 7 (.int .u64) 2<|
.l 8 (.int .u64) 1<|
.b 9 .gtr .none (.t 7) (.t 8)<|
.nil))
 (.cond (.tmp 9) (.ops (.l 10 .any 0<|
.k 11 (.tup []) 181 [(.t 10), (.i 4)]<|
.nil))
 .skip)))
def A263 : XFn := ⟨12, [.any, .any, .any], [], C263_0⟩
def Fin268 (E : List (Nat × Blk)) : St → Ans := fun s => resK E s [(.tmp 4), (.tmp 5)] fun l => some (oneV l, s.σ)
def C268_0 : XC := (.seq (.ops (.p 2 [0] (.box 99 (.t 0))<|
.p 3 [1] (.box 4 (.t 1))<|
.q 4 0<|
.c 5 (V.bool false)<|
.nil))
 (.seq (.ops (.p 6 [] (.alloc 3 [(V.int .i64 (Int.ofNat 0))])<|
.p 7 [] (.alloc 4 [(V.bool false)])<|
.op none .any [6] (.store 1 (.t 6) (.i 0))<|
.op none .any [7] (.store 1 (.t 7) (.con (V.bool false)))<|
.nil))
 (.seq (.ops (.l 8 .any 2<|
.p 9 [2, 6, 7, 3] (.mkfn 297 [] [(.t 2), (.t 6), (.t 7), (.t 3)])<|
.k 10 .bool 262 [(.t 8), (.t 9)]<|
.nil))
 (.seq (.draw (.l 11 .i 6<|
.l 12 .bool 7<|
.m 4 11<|
.m 5 12<|
.nil) [0, 0, 1, 7])
 .ret))))
def T268_0 (E : List (Nat × Blk)) (D : Den) (W : DrawFn) (v0 : V) (v1 : Bool) (σ : H) : Ans :=
 chk (allOne (V.cells v0)) (
 let s1 := newB σ (.cells (V.cells v0));
 chk (allOne (V.cells (V.bool v1))) (
 let s2 := newB s1 (.cells (V.cells (V.bool v1)));
 let s3 := newB s2 (.cells [(V.int .i64 (Int.ofNat 0))]);
 let s4 := newB s3 (.cells [(V.bool false)]);
 stK 1 (H.next s2) 0 (V.int .i64 (Int.ofNat 0)) s4 fun s5 =>
 stK 1 (H.next s3) 0 (V.bool false) s5 fun s6 =>
 ldK E s6 (H.next σ) 0 fun u7 =>
 callK (D 262 [u7, (V.fn 297 [] [(V.ptr (H.next σ) 0), (V.ptr (H.next s2) 0), (V.ptr (H.next s3) 0), (V.ptr (H.next s1) 0)])] s6) fun u8 s9 =>
 rtBool u8 fun x10 =>
 ldK E s9 (H.next s2) 0 fun u11 =>
 rtInt .i64 u11 fun x12 =>
 ldK E s9 (H.next s3) 0 fun u13 =>
 rtBool u13 fun x14 =>
 some ((V.tup [(V.int .i64 x12), (V.bool x14)]), s9)))
def S268_0 (v0 : V) (v1 : Bool) (σ : H) : St := ⟨[(0, v0), (1, (V.bool v1))], [], [], σ⟩
theorem P268_0 (v0 : V) (v1 : Bool) (σ : H) :
 denC E D W N (C268_0 ) (S268_0 v0 v1 σ) (Fin268 E) (fun _ _ => none) (Fin268 E) =
 T268_0 E D W  v0 v1 σ := by kernel_rfl
def J268_0 (E : List (Nat × Blk)) (D : Den) (W : DrawFn) (N : Nat) : V → Bool → H → Ans := T268_0 E D W
theorem JE268_0 (v0 : V) (v1 : Bool) (σ : H) :
 denC E D W N C268_0 (S268_0 v0 v1 σ) (Fin268 E) (fun _ _ => none) (Fin268 E) = J268_0 E D W N v0 v1 σ := by
 refine (P268_0 E D W N   v0 v1 σ).trans ?_
 kernel_rfl
def F268 (args : List V) (σ : H) : Ans :=
 rtCons args fun x1 l2 =>
 rtCons l2 fun x3 l4 =>
 rtBool x3 fun x5 =>
 rtNil l4 (
 J268_0 E D W N x1 x5 σ)
def A268 : XFn := ⟨13, [.any, .bool], [(.tmp 4), (.tmp 5)], C268_0⟩
theorem FE268 (args : List V) (σ : H) : runX E D W N A268 args σ = F268 E D W N args σ := by
 unfold F268
 simp only [← JE268_0]
 kernel_rfl
theorem AO268 : A268.body.ok = true := by kernel_rfl
def Fin270 (E : List (Nat × Blk)) : St → Ans := fun s => resK E s [(.tmp 2)] fun l => some (oneV l, s.σ)
def C270_0 (cc1 : XC) : XC := (.seq (.ops (.c 2 V.nils<|
.nil))
 (.seq (.ops (.q 3 0<|
.nil))
 (.seq (.seq (.ops (.m 6 0<|
.k 7 .bool 184 [(.t 6)]<|
.nil))
 (.cond (.tmp 7) (.seq (.ops (.m 8 0<|
.n 9 8<|
.f 10 0 9<|
.l 11 .any 10<|
.k 12 .i 298 [(.t 11)]<|
.m 3 12<|
.nil))
 (.ops (.m 13 0<|
.m 14 3<|
.b 15 .leq .none (.t 14) (.i 64)<|
.m 16 15<|
.grp 16 false (.p 17 [3, 16] (.mov (.t 3))<|
.p 18 [17, 16] (.bin .gtr .none (.t 17) (.i 1000))<|
.nil) 19 [16, 18] (.t 16) (.con (V.bool true)) (.t 18)<|
.k 20 (.tup []) 100 [(.t 13), (.t 19)]<|
.nil)))
 (.ops (.m 21 0<|
.n 22 21<|
.f 23 0 22<|
.l 24 .any 23<|
.k 25 (.int .u64) 103 [(.t 24), (.i 6)]<|
.p 26 [25] (.conv (.toInt .i64) (.t 25))<|
.b 27 .add .none (.t 26) (.i 1)<|
.m 3 27<|
.nil))))
 (.keep [(0, .ptr), (3, .i)] [] [] cc1))))
def T270_0 (E : List (Nat × Blk)) (D : Den) (W : DrawFn) (K1 : Nat → Nat → Int → H → Ans) (v0b v0o : Nat) (σ : H) : Ans :=
 callK (D 184 [(V.ptr v0b v0o)] σ) fun u1 s2 =>
 rtBool u1 fun x3 =>
 condK x3 (
 ldK E s2 v0b v0o fun u4 =>
 callK (D 298 [u4] s2) fun u5 s6 =>
 rtInt .i64 u5 fun x7 =>
 joinB (fun c8 s9 =>
 callK (D 100 [(V.ptr v0b v0o), (V.bool c8)] s9) fun u11 s12 =>
 rtTup u11 fun l13 =>
 rtNil l13 (
 K1 v0b v0o x7 s12)) fun k10 =>
 condK (leF x7 (Int.ofNat 64)) (
 k10 true s6) (
 k10 (ltF (Int.ofNat 1000) x7) s6)) (
 ldK E s2 v0b v0o fun u14 =>
 callK (D 103 [u14, (V.int .i64 (Int.ofNat 6))] s2) fun u15 s16 =>
 rtInt .u64 u15 fun x17 =>
 K1 v0b v0o (addF .i64 (wrapF .i64 x17) (Int.ofNat 1)) s16)
def C270_1 (cc2 : XC) (cc3 : XC) : XC := (.seq (.ops (.c 4 V.nils<|
.nil))
 (.seq (.seq (.ops (.q 5 0<|
.nil))
 (.block 0 (.loop [(0, .ptr), (3, .i), (4, .any), (5, .i)] [] [] cc3)))
 (.keep [(0, .ptr), (4, .any)] [] [] cc2)))
def T270_1 (E : List (Nat × Blk)) (D : Den) (W : DrawFn) (K3 : Nat → Nat → Int → V → Int → H → Ans) (v0b v0o : Nat) (v3 : Int) (σ : H) : Ans :=
 K3 v0b v0o v3 V.nils (Int.ofNat 0) σ
def C270_2 : XC := (.seq (.ops (.m 43 0<|
.m 44 4<|
.u 45 44<|
.b 46 .eql .none (.t 45) (.i 0)<|
.k 47 (.tup []) 100 [(.t 43), (.t 46)]<|
.nil))
 (.seq (.ops (.m 48 4<|
.m 2 48<|
.nil))
 .ret))
def T270_2 (E : List (Nat × Blk)) (D : Den) (W : DrawFn) (v0b v0o : Nat) (v4 : V) (σ : H) : Ans :=
 slenK v4 fun n1 =>
 callK (D 100 [(V.ptr v0b v0o), (V.bool (eqF (Int.ofNat n1) (Int.ofNat 0)))] σ) fun u2 s3 =>
 rtTup u2 fun l4 =>
 rtNil l4 (
 some (v4, s3))
def C270_3 (cc4 : XC) : XC := (.seq (.seq (.ops (.m 28 5<|
.m 29 3<|
.b 30 .lss .none (.t 28) (.t 29)<|
.m 31 30<|
.grp 31 true (.p 32 [0, 31] (.mov (.t 0))<|
.op (some 33) .bool [32, 31] (.call 102 [(.t 32)])<|
.nil) 34 [31, 33] (.t 31) (.t 33) (.con (V.bool false))<|
.nil))
 (.cond (.tmp 34) .skip
 (.exit 0)))
 (.seq (.block 1 (.seq (.ops (.m 37 0<|
.k 38 .bool 184 [(.t 37)]<|
.nil))
 (.cond (.tmp 38) (.ops (.m 39 4<|
.m 40 5<|
.p 41 [40] (.buildSlice 3 1 [(V.int .i64 (Int.ofNat 0))] [(0, 1, (.t 40))])<|
.op (some 42) .one [39, 41] (.append 3 1 8 (.t 39) (.t 41))<|
.m 4 42<|
.nil))
 .skip)))
 (.keep [(0, .ptr), (3, .i), (4, .any), (5, .i)] [] [] cc4)))
def T270_3 (E : List (Nat × Blk)) (D : Den) (W : DrawFn) (K2 : Nat → Nat → V → H → Ans) (K4 : Nat → Nat → Int → V → Int → H → Ans) (v0b v0o : Nat) (v3 : Int) (v4 : V) (v5 : Int) (σ : H) : Ans :=
 joinB (fun c1 s2 =>
 condK c1 (
 callK (D 184 [(V.ptr v0b v0o)] s2) fun u4 s5 =>
 rtBool u4 fun x6 =>
 condK x6 (
 let s7 := newB s5 (.cells [(V.int .i64 v5)]);
 appK E 1 8 v4 (V.sl (H.next s5) 0 1 (.ex 1)) s7 fun u8 s9 =>
 rtOne u8 (
 K4 v0b v0o v3 u8 v5 s9)) (
 K4 v0b v0o v3 v4 v5 s5)) (
 K2 v0b v0o v4 s2)) fun k3 =>
 condK (ltF v5 v3) (
 callK (D 102 [(V.ptr v0b v0o)] σ) fun u10 s11 =>
 rtBool u10 fun x12 =>
 k3 x12 s11) (
 k3 false σ)
def C270_4 : XC := (.ops (.m 35 5<|
.b 36 .add .none (.t 35) (.i 1)<|
.m 5 36<|
.nil))
def T270_4 (E : List (Nat × Blk)) (D : Den) (W : DrawFn) (R3 : Nat → Nat → Int → V → Int → H → Ans) (v0b v0o : Nat) (v3 : Int) (v4 : V) (v5 : Int) (σ : H) : Ans :=
 R3 v0b v0o v3 v4 (addF .i64 v5 (Int.ofNat 1)) σ
def S270_0 (v0b v0o : Nat) (σ : H) : St := ⟨[(0, (V.ptr v0b v0o))], [], [], σ⟩
def S270_1 (v0b v0o : Nat) (v3 : Int) (σ : H) : St := ⟨[(0, (V.ptr v0b v0o)), (3, (V.int .i64 v3))], [], [], σ⟩
def S270_2 (v0b v0o : Nat) (v4 : V) (σ : H) : St := ⟨[(0, (V.ptr v0b v0o)), (4, v4)], [], [], σ⟩
def S270_3 (v0b v0o : Nat) (v3 : Int) (v4 : V) (v5 : Int) (σ : H) : St := ⟨[(0, (V.ptr v0b v0o)), (3, (V.int .i64 v3)), (4, v4), (5, (V.int .i64 v5))], [], [], σ⟩
def S270_4 (v0b v0o : Nat) (v3 : Int) (v4 : V) (v5 : Int) (σ : H) : St := ⟨[(0, (V.ptr v0b v0o)), (3, (V.int .i64 v3)), (4, v4), (5, (V.int .i64 v5))], [], [], σ⟩
theorem P270_0 (cc1 : XC) (v0b v0o : Nat) (σ : H) :
 denC E D W N (C270_0 cc1) (S270_0 v0b v0o σ) (Fin270 E) (fun _ _ => none) (Fin270 E) =
 T270_0 E D W (fun v0b v0o v3 σ => denC E D W N cc1 (S270_1 v0b v0o v3 σ) (Fin270 E) (fun _ _ => none) (Fin270 E)) v0b v0o σ := by kernel_rfl
theorem P270_1 (cc2 : XC) (cc3 : XC) (v0b v0o : Nat) (v3 : Int) (σ : H) :
 denC E D W N (C270_1 cc2 cc3) (S270_1 v0b v0o v3 σ) (Fin270 E) (fun _ _ => none) (Fin270 E) =
 T270_1 E D W (fun v0b v0o v3 v4 v5 σ => iterK (fun rec s' => denC E D W N cc3 s' (fun s'' => keepS [(0, .ptr), (3, .i), (4, .any), (5, .i)] [] [] s'' rec) (blkK 0 (fun s' => denC E D W N (.keep [(0, .ptr), (4, .any)] [] [] cc2) s' (Fin270 E) (fun _ _ => none) (Fin270 E)) (fun _ _ => none)) (Fin270 E)) N (S270_3 v0b v0o v3 v4 v5 σ)) v0b v0o v3 σ := by kernel_rfl
theorem P270_2 (v0b v0o : Nat) (v4 : V) (σ : H) :
 denC E D W N (C270_2 ) (S270_2 v0b v0o v4 σ) (Fin270 E) (fun _ _ => none) (Fin270 E) =
 T270_2 E D W  v0b v0o v4 σ := by kernel_rfl
theorem P270_3 (cc2 : XC) (cc4 : XC) (li3 : St → Ans) (v0b v0o : Nat) (v3 : Int) (v4 : V) (v5 : Int) (σ : H) :
 denC E D W N (C270_3 cc4) (S270_3 v0b v0o v3 v4 v5 σ) (fun s'' => keepS [(0, .ptr), (3, .i), (4, .any), (5, .i)] [] [] s'' li3) (blkK 0 (fun s' => denC E D W N (.keep [(0, .ptr), (4, .any)] [] [] cc2) s' (Fin270 E) (fun _ _ => none) (Fin270 E)) (fun _ _ => none)) (Fin270 E) =
 T270_3 E D W (fun v0b v0o v4 σ => denC E D W N cc2 (S270_2 v0b v0o v4 σ) (Fin270 E) (fun _ _ => none) (Fin270 E)) (fun v0b v0o v3 v4 v5 σ => denC E D W N cc4 (S270_4 v0b v0o v3 v4 v5 σ) (fun s'' => keepS [(0, .ptr), (3, .i), (4, .any), (5, .i)] [] [] s'' li3) (blkK 0 (fun s' => denC E D W N (.keep [(0, .ptr), (4, .any)] [] [] cc2) s' (Fin270 E) (fun _ _ => none) (Fin270 E)) (fun _ _ => none)) (Fin270 E)) v0b v0o v3 v4 v5 σ := by kernel_rfl
theorem P270_4 (cc2 : XC) (li3 : St → Ans) (v0b v0o : Nat) (v3 : Int) (v4 : V) (v5 : Int) (σ : H) :
 denC E D W N (C270_4 ) (S270_4 v0b v0o v3 v4 v5 σ) (fun s'' => keepS [(0, .ptr), (3, .i), (4, .any), (5, .i)] [] [] s'' li3) (blkK 0 (fun s' => denC E D W N (.keep [(0, .ptr), (4, .any)] [] [] cc2) s' (Fin270 E) (fun _ _ => none) (Fin270 E)) (fun _ _ => none)) (Fin270 E) =
 T270_4 E D W (fun v0b v0o v3 v4 v5 σ => li3 (S270_3 v0b v0o v3 v4 v5 σ)) v0b v0o v3 v4 v5 σ := by kernel_rfl
def J270_2 (E : List (Nat × Blk)) (D : Den) (W : DrawFn) (N : Nat) : Nat → Nat → V → H → Ans := T270_2 E D W
theorem JE270_2 (v0b v0o : Nat) (v4 : V) (σ : H) :
 denC E D W N C270_2 (S270_2 v0b v0o v4 σ) (Fin270 E) (fun _ _ => none) (Fin270 E) = J270_2 E D W N v0b v0o v4 σ := by
 refine (P270_2 E D W N   v0b v0o v4 σ).trans ?_
 kernel_rfl
def J270_4 (E : List (Nat × Blk)) (D : Den) (W : DrawFn) (N : Nat) (R3 : Nat → Nat → Int → V → Int → H → Ans) : Nat → Nat → Int → V → Int → H → Ans := T270_4 E D W R3
theorem JE270_4 (li3 : St → Ans) (v0b v0o : Nat) (v3 : Int) (v4 : V) (v5 : Int) (σ : H) :
 denC E D W N C270_4 (S270_4 v0b v0o v3 v4 v5 σ) (fun s'' => keepS [(0, .ptr), (3, .i), (4, .any), (5, .i)] [] [] s'' li3) (blkK 0 (fun s' => denC E D W N (.keep [(0, .ptr), (4, .any)] [] [] C270_2) s' (Fin270 E) (fun _ _ => none) (Fin270 E)) (fun _ _ => none)) (Fin270 E) = J270_4 E D W N (fun v0b v0o v3 v4 v5 σ => li3 (S270_3 v0b v0o v3 v4 v5 σ)) v0b v0o v3 v4 v5 σ := by
 refine (P270_4 E D W N C270_2 li3 v0b v0o v3 v4 v5 σ).trans ?_
 kernel_rfl
def L270_3 (n : Nat) : Nat → Nat → Int → V → Int → H → Ans :=
 Nat.rec (fun _ _ _ _ _ _ => none) (fun _ ih => T270_3 E D W (J270_2 E D W N ) (J270_4 E D W N ih)) n
theorem LE270_3 (n : Nat) : ∀ (v0b v0o : Nat) (v3 : Int) (v4 : V) (v5 : Int) (σ : H),
 iterK (fun rec s' => denC E D W N (C270_3 C270_4) s' (fun s'' => keepS [(0, .ptr), (3, .i), (4, .any), (5, .i)] [] [] s'' rec) (blkK 0 (fun s' => denC E D W N (.keep [(0, .ptr), (4, .any)] [] [] C270_2) s' (Fin270 E) (fun _ _ => none) (Fin270 E)) (fun _ _ => none)) (Fin270 E)) n (S270_3 v0b v0o v3 v4 v5 σ) = L270_3 E D W N n v0b v0o v3 v4 v5 σ := by
 induction n with
 | zero => intro v0b v0o v3 v4 v5 σ; rfl
 | succ n ihn =>
  intro v0b v0o v3 v4 v5 σ
  rw [iterK_succ]
  refine (P270_3 E D W N C270_2 C270_4 (iterK (fun rec s' => denC E D W N (C270_3 C270_4) s' (fun s'' => keepS [(0, .ptr), (3, .i), (4, .any), (5, .i)] [] [] s'' rec) (blkK 0 (fun s' => denC E D W N (.keep [(0, .ptr), (4, .any)] [] [] C270_2) s' (Fin270 E) (fun _ _ => none) (Fin270 E)) (fun _ _ => none)) (Fin270 E)) n) v0b v0o v3 v4 v5 σ).trans ?_
  simp only [ihn, JE270_2, JE270_4]
  kernel_rfl
def J270_1 : Nat → Nat → Int → H → Ans := T270_1 E D W (L270_3 E D W N N)
theorem JE270_1 (v0b v0o : Nat) (v3 : Int) (σ : H) :
 denC E D W N (C270_1 C270_2 (C270_3 C270_4)) (S270_1 v0b v0o v3 σ) (Fin270 E) (fun _ _ => none) (Fin270 E) = J270_1 E D W N v0b v0o v3 σ := by
 refine (P270_1 E D W N C270_2 (C270_3 C270_4)  v0b v0o v3 σ).trans ?_
 simp only [LE270_3]
 kernel_rfl
def J270_0 : Nat → Nat → H → Ans := T270_0 E D W (J270_1 E D W N )
theorem JE270_0 (v0b v0o : Nat) (σ : H) :
 denC E D W N (C270_0 (C270_1 C270_2 (C270_3 C270_4))) (S270_0 v0b v0o σ) (Fin270 E) (fun _ _ => none) (Fin270 E) = J270_0 E D W N v0b v0o σ := by
 refine (P270_0 E D W N (C270_1 C270_2 (C270_3 C270_4))  v0b v0o σ).trans ?_
 simp only [JE270_1]
 kernel_rfl
def F270 (args : List V) (σ : H) : Ans :=
 rtCons args fun x1 l2 =>
 rtPtr x1 fun b3 o4 =>
 rtNil l2 (
 J270_0 E D W N b3 o4 σ)
def A270 : XFn := ⟨49, [.ptr], [(.tmp 2)], (C270_0 (C270_1 C270_2 (C270_3 C270_4)))⟩
theorem FE270 (args : List V) (σ : H) : runX E D W N A270 args σ = F270 E D W N args σ := by
 unfold F270
 simp only [← JE270_0]
 kernel_rfl
theorem AO270 : A270.body.ok = true := by kernel_rfl
def G272_0 : List AOper := [⟨(some 6), .load none (.tmp 4), none⟩, ⟨(some 7), .nilck (.tmp 6), none⟩, ⟨(some 8), .faddr 3 (.tmp 7), none⟩, ⟨(some 9), .load none (.tmp 8), none⟩, ⟨(some 10), .load none (.tmp 2), none⟩, ⟨(some 11), .mov (.tmp 0), none⟩, ⟨(some 12), .faddr 9 (.tmp 1), none⟩, ⟨(some 13), .load none (.tmp 12), none⟩, ⟨(some 14), .load none (.tmp 2), none⟩, ⟨(some 15), .iaddrS 11 (.tmp 13) (.tmp 14), none⟩, ⟨(some 16), .faddr 1 (.tmp 15), none⟩, ⟨(some 17), .load none (.tmp 16), none⟩, ⟨(some 18), .load none (.tmp 3), none⟩, ⟨(some 19), .bin .add .none (.tmp 18) (.con (V.int .i64 (Int.ofNat 1))), none⟩, ⟨(some 20), .call 51 [(.tmp 11), (.tmp 17), (.tmp 19)], none⟩, ⟨(some 21), .iaddrS 6 (.tmp 9) (.tmp 10), none⟩, ⟨none, .store 6 (.tmp 21) (.tmp 20), none⟩]
def H272_0 : List DP := [⟨0, [4]⟩, ⟨1, [6]⟩, ⟨3, [7]⟩, ⟨7, [8]⟩, ⟨0, [2]⟩, ⟨0, [0]⟩, ⟨0, [1]⟩, ⟨64, [12]⟩, ⟨0, [2]⟩, ⟨448, [13, 14]⟩, ⟨960, [15]⟩, ⟨1984, [16]⟩, ⟨0, [3]⟩, ⟨4096, [18]⟩, ⟨16352, [11, 17, 19]⟩, ⟨32767, [9, 10]⟩, ⟨65535, [21, 20]⟩]
def Fin272 (E : List (Nat × Blk)) : St → Ans := fun s => resK E s [] fun l => some (oneV l, s.σ)
def C272_0 : XC := (.keep [(0, .any), (1, .any), (2, .any), (3, .any), (4, .any)] [] [] (.gdraw G272_0 H272_0 []))
def T272_0 (E : List (Nat × Blk)) (D : Den) (W : DrawFn) (v0 v1 v2 v3 v4 : V) (σ : H) : Ans :=
 gdrawK (W G272_0 H272_0 [(0, v0), (1, v1), (2, v2), (3, v3), (4, v4)] σ) fun e1 s2 =>
 some ((V.tup []), s2)
def S272_0 (v0 v1 v2 v3 v4 : V) (σ : H) : St := ⟨[(0, v0), (1, v1), (2, v2), (3, v3), (4, v4)], [], [], σ⟩
theorem P272_0 (v0 v1 v2 v3 v4 : V) (σ : H) :
 denC E D W N (C272_0 ) (S272_0 v0 v1 v2 v3 v4 σ) (Fin272 E) (fun _ _ => none) (Fin272 E) =
 T272_0 E D W  v0 v1 v2 v3 v4 σ := by kernel_rfl
def J272_0 (E : List (Nat × Blk)) (D : Den) (W : DrawFn) (N : Nat) : V → V → V → V → V → H → Ans := T272_0 E D W
theorem JE272_0 (v0 v1 v2 v3 v4 : V) (σ : H) :
 denC E D W N C272_0 (S272_0 v0 v1 v2 v3 v4 σ) (Fin272 E) (fun _ _ => none) (Fin272 E) = J272_0 E D W N v0 v1 v2 v3 v4 σ := by
 refine (P272_0 E D W N   v0 v1 v2 v3 v4 σ).trans ?_
 kernel_rfl
def F272 (args : List V) (σ : H) : Ans :=
 rtCons args fun x1 l2 =>
 rtCons l2 fun x3 l4 =>
 rtCons l4 fun x5 l6 =>
 rtCons l6 fun x7 l8 =>
 rtCons l8 fun x9 l10 =>
 rtNil l10 (
 J272_0 E D W N x1 x3 x5 x7 x9 σ)
def A272 : XFn := ⟨22, [.any, .any, .any, .any, .any], [], C272_0⟩
theorem FE272 (args : List V) (σ : H) : runX E D W N A272 args σ = F272 E D W N args σ := by
 unfold F272
 simp only [← JE272_0]
 kernel_rfl
theorem AO272 : A272.body.ok = true := by kernel_rfl
def Fin273 (E : List (Nat × Blk)) : St → Ans := fun s => resK E s [(.tmp 2)] fun l => some (oneV l, s.σ)
def C273_0 : XC := (.seq (.ops (.q 2 0<|
.nil))
 (.seq (.draw (.m 4 0<|
.n 5 4<|
.f 6 0 5<|
.l 7 .any 6<|
.m 8 0<|
.n 9 8<|
.f 10 1 9<|
.l 11 .i 10<|
.b 12 .quo .none (.t 11) (.i 8)<|
.s 13 1 7 12<|
.l 14 (.int .u8) 13<|
.m 15 0<|
.n 16 15<|
.f 17 1 16<|
.l 18 .i 17<|
.b 19 .rem .none (.t 18) (.i 8)<|
.b 20 .sub .none (.i 7) (.t 19)<|
.b 21 .shr .none (.t 14) (.t 20)<|
.b 22 .and .none (.t 21) (.con (V.int .u8 (Int.ofNat 1)))<|
.p 23 [22] (.conv (.toInt .i64) (.t 22))<|
.m 3 23<|
.nil) [0, 1, 3, 7, 0, 16, 48, 112, 240, 511, 1023, 0, 2048, 6144, 14336, 30720, 63488, 131071, 262143, 524287, 1048575])
 (.seq (.ops (.m 24 0<|
.n 25 24<|
.f 26 1 25<|
.l 27 .i 26<|
.b 28 .add .none (.t 27) (.i 1)<|
.n 29 24<|
.f 30 1 29<|
.w 1 30 28<|
.nil))
 (.seq (.ops (.m 31 3<|
.m 2 31<|
.nil))
 .ret))))
def T273_0 (E : List (Nat × Blk)) (D : Den) (W : DrawFn) (v0b v0o : Nat) (σ : H) : Ans :=
 ldK E σ v0b v0o fun u1 =>
 ldK E σ v0b (Nat.add v0o 1) fun u2 =>
 rtInt .i64 u2 fun x3 =>
 iaddrSK 1 u1 (quoF .i64 x3 (Int.ofNat 8)) fun b4 o5 =>
 ldK E σ b4 o5 fun u6 =>
 rtInt .u8 u6 fun x7 =>
 ldK E σ v0b (Nat.add v0o 1) fun u8 =>
 rtInt .i64 u8 fun x9 =>
 nnK (subF .i64 (Int.ofNat 7) (Int.tmod x9 (Int.ofNat 8))) fun n10 =>
 ldK E σ v0b (Nat.add v0o 1) fun u11 =>
 rtInt .i64 u11 fun x12 =>
 stK 1 v0b (Nat.add v0o 1) (V.int .i64 (addF .i64 x12 (Int.ofNat 1))) σ fun s13 =>
 some ((V.int .i64 (wrapF .i64 (andF .u8 (shrF .u8 x7 n10) (Int.ofNat 1)))), s13)
def S273_0 (v0b v0o : Nat) (σ : H) : St := ⟨[(0, (V.ptr v0b v0o))], [], [], σ⟩
theorem P273_0 (v0b v0o : Nat) (σ : H) :
 denC E D W N (C273_0 ) (S273_0 v0b v0o σ) (Fin273 E) (fun _ _ => none) (Fin273 E) =
 T273_0 E D W  v0b v0o σ := by kernel_rfl
def J273_0 (E : List (Nat × Blk)) (D : Den) (W : DrawFn) (N : Nat) : Nat → Nat → H → Ans := T273_0 E D W
theorem JE273_0 (v0b v0o : Nat) (σ : H) :
 denC E D W N C273_0 (S273_0 v0b v0o σ) (Fin273 E) (fun _ _ => none) (Fin273 E) = J273_0 E D W N v0b v0o σ := by
 refine (P273_0 E D W N   v0b v0o σ).trans ?_
 kernel_rfl
def F273 (args : List V) (σ : H) : Ans :=
 rtCons args fun x1 l2 =>
 rtPtr x1 fun b3 o4 =>
 rtNil l2 (
 J273_0 E D W N b3 o4 σ)
def A273 : XFn := ⟨32, [.ptr], [(.tmp 2)], C273_0⟩
theorem FE273 (args : List V) (σ : H) : runX E D W N A273 args σ = F273 E D W N args σ := by
 unfold F273
 simp only [← JE273_0]
 kernel_rfl
theorem AO273 : A273.body.ok = true := by kernel_rfl
def C274_0 : XC := (.seq (.ops (.c 0 V.nils<|
.nil))
 (.seq (.ops (.p 1 [] (.buildSlice 9 25 [(V.str ⟨0, 0⟩), (V.str ⟨0, 0⟩), (V.str ⟨0, 0⟩), (V.str ⟨0, 0⟩), (V.str ⟨0, 0⟩), (V.str ⟨0, 0⟩), (V.str ⟨0, 0⟩), (V.str ⟨0, 0⟩), (V.str ⟨0, 0⟩), (V.str ⟨0, 0⟩), (V.str ⟨0, 0⟩), (V.str ⟨0, 0⟩), (V.str ⟨0, 0⟩), (V.str ⟨0, 0⟩), (V.str ⟨0, 0⟩), (V.str ⟨0, 0⟩), (V.str ⟨0, 0⟩), (V.str ⟨0, 0⟩), (V.str ⟨0, 0⟩), (V.str ⟨0, 0⟩), (V.str ⟨0, 0⟩), (V.str ⟨0, 0⟩), (V.str ⟨0, 0⟩), (V.str ⟨0, 0⟩), (V.str ⟨0, 0⟩)] [(0, 1, (.con (V.str ⟨11, 100710650190388740279911748⟩))), (1, 1, (.con (V.str ⟨8, 6073459554577832005⟩))), (2, 1, (.con (V.str ⟨8, 6073459554577829193⟩))), (3, 1, (.con (V.str ⟨9, 1241215773001651606849⟩))), (4, 1, (.con (V.str ⟨4, 1397178708⟩))), (5, 1, (.con (V.str ⟨5, 336236856642⟩))), (6, 1, (.con (V.str ⟨3, 4476485⟩))), (7, 1, (.con (V.str ⟨7, 22026814072246082⟩))), (8, 1, (.con (V.str ⟨7, 23157120498421321⟩))), (9, 1, (.con (V.str ⟨10, 322399817400452109389381⟩))), (10, 1, (.con (V.str ⟨4, 1280070990⟩))), (11, 1, (.con (V.str ⟨5, 361940403023⟩))), (12, 1, (.con (V.str ⟨6, 78401563153491⟩))), (13, 1, (.con (V.str ⟨10, 488440487847103610377301⟩))), (14, 1, (.con (V.str ⟨8, 4990918871747741011⟩))), (15, 1, (.con (V.str ⟨3, 5522771⟩))), (16, 1, (.con (V.str ⟨6, 76155295057987⟩))), (17, 1, (.con (V.str ⟨2, 17999⟩))), (18, 1, (.con (V.str ⟨8, 5494759122808361039⟩))), (19, 1, (.con (V.str ⟨7, 23727827094750532⟩))), (20, 1, (.con (V.str ⟨4, 1163544915⟩))), (21, 1, (.con (V.str ⟨3, 5130573⟩))), (22, 1, (.con (V.str ⟨3, 5783885⟩))), (23, 1, (.con (V.str ⟨4, 1163219540⟩))), (24, 1, (.con (V.str ⟨5, 297750249798⟩)))])<|
.m 0 1<|
.nil))
 .ret))
def A274 : XFn := ⟨2, [], [(.tmp 0)], C274_0⟩
def G276_0 : List AOper := [⟨(some 35), .mov (.tmp 1), none⟩, ⟨(some 36), .mov (.tmp 1), none⟩, ⟨(some 37), .nilck (.tmp 36), none⟩, ⟨(some 38), .faddr 12 (.tmp 37), none⟩, ⟨(some 39), .load none (.tmp 38), none⟩, ⟨(some 40), .load (some 11) (.tmp 8), none⟩, ⟨(some 41), .buildSlice 200 1 [(V.str ⟨0, 0⟩), (V.int .i64 (Int.ofNat 0)), (V.bool false), (V.bool false), (V.int .i64 (Int.ofNat 0)), (V.int .i64 (Int.ofNat 0)), V.nils, V.nils, (V.int .i64 (Int.ofNat 0)), V.nils, (V.int .i64 (Int.ofNat 0))] [(0, 11, (.tmp 40))], none⟩, ⟨(some 42), .append 200 11 136 (.tmp 39) (.tmp 41), none⟩, ⟨(some 43), .nilck (.tmp 35), none⟩, ⟨(some 44), .faddr 12 (.tmp 43), none⟩, ⟨none, .store 1 (.tmp 44) (.tmp 42), none⟩]
def H276_0 : List DP := [⟨0, [1]⟩, ⟨0, [1]⟩, ⟨2, [36]⟩, ⟨6, [37]⟩, ⟨14, [38]⟩, ⟨0, [8]⟩, ⟨32, [40]⟩, ⟨126, [39, 41]⟩, ⟨255, [35]⟩, ⟨511, [43]⟩, ⟨1023, [44, 42]⟩]
def C276_0 (cc1 : XC) : XC := (.seq (.ops (.m 9 0<|
.k 10 .str 57 [(.t 9), (.i 2)]<|
.m 11 3<|
.op (some 12) (.agg [.str, .i, .bool, .bool, .i, .i, .any, .any, .i, .any, .i]) [10, 11] (.build [(V.str ⟨0, 0⟩), (V.int .i64 (Int.ofNat 0)), (V.bool false), (V.bool false), (V.int .i64 (Int.ofNat 0)), (V.int .i64 (Int.ofNat 0)), V.nils, V.nils, (V.int .i64 (Int.ofNat 0)), V.nils, (V.int .i64 (Int.ofNat 0))] [(0, 1, (.t 10)), (10, 1, (.t 11))])<|
.p 8 [] (.alloc 200 [(V.str ⟨0, 0⟩), (V.int .i64 (Int.ofNat 0)), (V.bool false), (V.bool false), (V.int .i64 (Int.ofNat 0)), (V.int .i64 (Int.ofNat 0)), V.nils, V.nils, (V.int .i64 (Int.ofNat 0)), V.nils, (V.int .i64 (Int.ofNat 0))])<|
.op none (.agg [.str, .i, .bool, .bool, .i, .i, .any, .any, .i, .any, .i]) [8, 12] (.store 11 (.t 8) (.t 12))<|
.nil))
 (.seq (.ops (.m 13 0<|
.m 14 2<|
.b 15 .add .none (.t 14) (.i 1)<|
.k 16 .i 62 [(.t 13), (.t 15)]<|
.f 17 1 8<|
.w 1 17 16<|
.nil))
 (.seq (.block 0 (.seq (.ops (.m 19 1<|
.n 20 19<|
.f 21 0 20<|
.l 22 .i 21<|
.b 23 .eql .none (.t 22) (.i 9)<|
.m 18 23<|
.nil))
 (.cond (.tmp 18) .skip
 (.seq (.ops (.m 25 0<|
.k 26 .bool 59 [(.t 25), (.con (V.str ⟨8, 5494759122808361039⟩))]<|
.m 24 26<|
.nil))
 (.cond (.tmp 24) (.ops (.f 27 2 8<|
.op none .any [27] (.store 1 (.t 27) (.con (V.bool true)))<|
.nil))
 (.seq (.ops (.m 29 0<|
.k 30 .bool 59 [(.t 29), (.con (V.str ⟨7, 23727827094750532⟩))]<|
.m 28 30<|
.nil))
 (.cond (.tmp 28) (.ops (.m 31 0<|
.k 32 (.agg [.i, .i, .any, .any, .i, .any]) 300 [(.t 31)]<|
.f 33 3 8<|
.op none .any [33] (.store 1 (.t 33) (.con (V.bool true)))<|
.f 34 4 8<|
.op none (.agg [.i, .i, .any, .any, .i, .any]) [34, 32] (.store 6 (.t 34) (.t 32))<|
.nil))
 .skip)))))))
 (.keep [(1, .ptr), (8, .ptr)] [] [] cc1))))
def C276_1 : XC := (.keep [(1, .ptr), (8, .ptr)] [] [] (.gdraw G276_0 H276_0 []))
def A276 : XFn := ⟨45, [.any, .ptr, .i, .i], [], (C276_0 C276_1)⟩
def G279_0 : List AOper := [⟨(some 59), .faddr 11 (.tmp 3), none⟩, ⟨(some 60), .load none (.tmp 59), none⟩, ⟨(some 61), .un .not (.tmp 60), none⟩, ⟨(some 62), .mov (.tmp 61), none⟩, ⟨(some 63), .mov (.tmp 0), (some (62, false))⟩, ⟨(some 64), .faddr 9 (.tmp 3), (some (62, false))⟩, ⟨(some 65), .load none (.tmp 64), (some (62, false))⟩, ⟨(some 66), .load (some 13) (.tmp 3), (some (62, false))⟩, ⟨(some 67), .call 294 [(.tmp 66)], (some (62, false))⟩, ⟨(some 68), .sliceSl 11 (.tmp 65) (some (.tmp 67)) none none, (some (62, false))⟩, ⟨(some 69), .call 301 [(.tmp 63), (.tmp 68), (.con (V.bool true))], (some (62, false))⟩, ⟨(some 70), .pick (.tmp 62) (.con (V.bool true)) (.tmp 69), none⟩, ⟨(some 4), .mov (.tmp 70), none⟩]
def H279_0 : List DP := [⟨0, [3]⟩, ⟨1, [59]⟩, ⟨3, [60]⟩, ⟨7, [61]⟩, ⟨15, [0, 62]⟩, ⟨15, [3, 62]⟩, ⟨47, [64, 62]⟩, ⟨15, [3, 62]⟩, ⟨143, [66, 62]⟩, ⟨495, [65, 67, 62]⟩, ⟨1023, [63, 68, 62]⟩, ⟨2047, [62, 69]⟩, ⟨4095, [70]⟩]
def C279_0 (cc1 : XC) (cc2 : XC) : XC := (.seq (.ops (.p 3 [1] (.box 145 (.t 1))<|
.c 4 (V.bool false)<|
.nil))
 (.seq (.seq (.ops (.f 8 0 3<|
.l 9 .i 8<|
.b 10 .neq .none (.t 9) (.i 7)<|
.nil))
 (.cond (.tmp 10) (.seq (.ops (.m 11 0<|
.f 12 9 3<|
.l 13 .any 12<|
.f 14 11 3<|
.l 15 .bool 14<|
.k 16 .bool 301 [(.t 11), (.t 13), (.t 15)]<|
.m 4 16<|
.nil))
 .ret)
 .skip))
 (.seq (.ops (.op (some 17) (.agg [.i, .any, .bool, .bool, .bool, .bool, .i, .i, .any, .any, .i, .bool, .i]) [3] (.load (some 13) (.t 3))<|
.k 18 .one 302 [(.t 17)]<|
.m 5 18<|
.nil))
 (.seq (.seq (.ops (.q 6 0<|
.nil))
 (.block 0 (.loop [(0, .any), (3, .ptr), (5, .any), (6, .i)] [] [] cc2)))
 (.keep [(0, .any), (3, .ptr)] [] [] cc1)))))
def C279_1 : XC := (.seq (.keep [(0, .any), (3, .ptr)] [] [] (.gdraw G279_0 H279_0 [(4, .bool)]))
 .ret)
def C279_2 (cc3 : XC) (cc4 : XC) (cc5 : XC) : XC := (.seq (.seq (.ops (.m 19 6<|
.f 20 9 3<|
.l 21 .any 20<|
.u 22 21<|
.b 23 .lss .none (.t 19) (.t 22)<|
.nil))
 (.cond (.tmp 23) .skip
 (.exit 0)))
 (.seq (.block 1 (.seq (.seq (.ops (.m 26 5<|
.m 27 6<|
.s 28 1 26 27<|
.l 29 .bool 28<|
.p 30 [29] (.un .not (.t 29))<|
.nil))
 (.cond (.tmp 30) (.exit 1)
 .skip))
 (.seq (.ops (.m 31 6<|
.b 32 .add .none (.t 31) (.i 1)<|
.m 7 32<|
.nil))
 (.seq (.block 2 (.loop [(0, .any), (3, .ptr), (5, .any), (6, .i), (7, .i)] [] [] cc5))
 (.keep [(0, .any), (3, .ptr), (5, .any), (6, .i), (7, .i)] [] [] cc4)))))
 (.keep [(0, .any), (3, .ptr), (5, .any), (6, .i)] [] [] cc3)))
def C279_3 : XC := (.ops (.m 24 6<|
.b 25 .add .none (.t 24) (.i 1)<|
.m 6 25<|
.nil))
def C279_4 : XC := (.seq (.ops (.m 46 0<|
.f 47 9 3<|
.l 48 .any 47<|
.m 49 6<|
.m 50 7<|
.b 51 .add .none (.t 50) (.i 1)<|
.f 52 9 3<|
.l 53 .any 52<|
.u 54 53<|
.p 55 [51, 54] (.min (.t 51) [(.t 54)])<|
.p 56 [48, 49, 55] (.sliceSl 11 (.t 48) (some (.t 49)) (some (.t 55)) none)<|
.k 57 .bool 301 [(.t 46), (.t 56), (.con (V.bool false))]<|
.p 58 [57] (.un .not (.t 57))<|
.nil))
 (.cond (.tmp 58) (.seq (.ops (.c 4 (V.bool false)<|
.nil))
 .ret)
 .skip))
def C279_5 : XC := (.seq (.seq (.ops (.m 33 7<|
.f 34 9 3<|
.l 35 .any 34<|
.u 36 35<|
.b 37 .lss .none (.t 33) (.t 36)<|
.m 38 37<|
.grp 38 true (.p 39 [5, 38] (.mov (.t 5))<|
.p 40 [7, 38] (.mov (.t 7))<|
.p 41 [39, 40, 38] (.iaddrS 1 (.t 39) (.t 40))<|
.op (some 42) .bool [41, 38] (.load none (.t 41))<|
.nil) 43 [38, 42] (.t 38) (.t 42) (.con (V.bool false))<|
.nil))
 (.cond (.tmp 43) .skip
 (.exit 2)))
 (.block 3 (.ops (.m 44 7<|
.b 45 .add .none (.t 44) (.i 1)<|
.m 7 45<|
.nil))))
def A279 : XFn := ⟨71, [.any, (.agg [.i, .any, .bool, .bool, .bool, .bool, .i, .i, .any, .any, .i, .bool, .i])], [(.tmp 4)], (C279_0 C279_1 (C279_2 C279_3 C279_4 C279_5))⟩
def C289_0 (cc1 : XC) : XC := (.seq (.seq (.ops (.m 4 0<|
.b 5 .eql .ptr (.t 4) (.con V.nilp)<|
.nil))
 (.cond (.tmp 5) .ret
 .skip))
 (.seq (.seq (.ops (.m 6 0<|
.n 7 6<|
.f 8 1 7<|
.l 9 .i 8<|
.b 10 .rem .none (.t 9) (.i 8)<|
.b 11 .eql .none (.t 10) (.i 0)<|
.nil))
 (.cond (.tmp 11) (.ops (.m 12 0<|
.m 13 0<|
.n 14 13<|
.f 15 0 14<|
.l 16 .any 15<|
.p 17 [] (.buildSlice 5 1 [(V.int .u8 (Int.ofNat 0))] [(0, 1, (.con (V.int .u8 (Int.ofNat 0))))])<|
.op (some 18) .one [16, 17] (.append 5 1 1 (.t 16) (.t 17))<|
.n 19 12<|
.f 20 0 19<|
.w 1 20 18<|
.nil))
 .skip))
 (.keep [(0, .any), (1, .i)] [] [] cc1)))
def C289_1 (cc2 : XC) : XC := (.seq (.seq (.ops (.m 21 1<|
.b 22 .neq .none (.t 21) (.i 0)<|
.nil))
 (.cond (.tmp 22) (.draw (.m 23 0<|
.n 24 23<|
.f 25 0 24<|
.l 26 .any 25<|
.m 27 0<|
.n 28 27<|
.f 29 1 28<|
.l 30 .i 29<|
.b 31 .quo .none (.t 30) (.i 8)<|
.s 32 1 26 31<|
.l 33 (.int .u8) 32<|
.m 34 0<|
.n 35 34<|
.f 36 1 35<|
.l 37 .i 36<|
.b 38 .rem .none (.t 37) (.i 8)<|
.b 39 .shr .none (.con (V.int .u8 (Int.ofNat 128))) (.t 38)<|
.b 40 .or .none (.t 33) (.t 39)<|
.s 41 1 26 31<|
.w 1 41 40<|
.nil) [0, 1, 3, 7, 0, 16, 48, 112, 240, 511, 1023, 0, 2048, 6144, 14336, 30720, 63488, 131071, 262143, 524287])
 .skip))
 (.keep [(0, .any)] [] [] cc2))
def C289_2 : XC := (.ops (.m 42 0<|
.n 43 42<|
.f 44 1 43<|
.l 45 .i 44<|
.b 46 .add .none (.t 45) (.i 1)<|
.n 47 42<|
.f 48 1 47<|
.w 1 48 46<|
.nil))
def A289 : XFn := ⟨49, [.any, .i], [], (C289_0 (C289_1 C289_2))⟩
def C290_0 (cc1 : XC) : XC := (.seq (.ops (.q 2 0<|
.nil))
 (.seq (.seq (.ops (.m 3 0<|
.b 4 .geq .none (.t 3) (.con (V.int .u64 (Int.ofNat 4294967296)))<|
.nil))
 (.cond (.tmp 4) (.seq (.ops (.m 5 0<|
.b 6 .shr .none (.t 5) (.con (V.int .u64 (Int.ofNat 32)))<|
.m 0 6<|
.nil))
 (.ops (.q 2 32<|
.nil)))
 .skip))
 (.keep [(0, (.int .u64)), (2, .i)] [] [] cc1)))
def C290_1 (cc2 : XC) : XC := (.seq (.seq (.ops (.m 7 0<|
.b 8 .geq .none (.t 7) (.con (V.int .u64 (Int.ofNat 65536)))<|
.nil))
 (.cond (.tmp 8) (.seq (.ops (.m 9 0<|
.b 10 .shr .none (.t 9) (.con (V.int .u64 (Int.ofNat 16)))<|
.m 0 10<|
.nil))
 (.ops (.m 11 2<|
.b 12 .add .none (.t 11) (.i 16)<|
.m 2 12<|
.nil)))
 .skip))
 (.keep [(0, (.int .u64)), (2, .i)] [] [] cc2))
def C290_2 (cc3 : XC) : XC := (.seq (.seq (.ops (.m 13 0<|
.b 14 .geq .none (.t 13) (.con (V.int .u64 (Int.ofNat 256)))<|
.nil))
 (.cond (.tmp 14) (.seq (.ops (.m 15 0<|
.b 16 .shr .none (.t 15) (.con (V.int .u64 (Int.ofNat 8)))<|
.m 0 16<|
.nil))
 (.ops (.m 17 2<|
.b 18 .add .none (.t 17) (.i 8)<|
.m 2 18<|
.nil)))
 .skip))
 (.keep [(0, (.int .u64)), (2, .i)] [] [] cc3))
def C290_3 : XC := (.seq (.ops (.m 19 2<|
.m 20 0<|
.p 21 [20] (.conv (.toInt .u8) (.t 20))<|
.p 22 [21] (.idxStr (.con (V.str ⟨256, 1013866857139168856493015739252390649739422828853819106890363778118420553376247557433637691341895324351018602695588957474325319502760499485336098898398377509666851054660423406800006203933793007272033180812049178612605246075062580585469430410618860250057463399279570354286669047577758927328864388992123306212451509403152394148136105363817402562688186708175358218852349079190158732807302672745370040257219644697201681238697346923541678507645485296520536209706771857694240900605172937619415410180424934769249448772944216470541052485265558808433676546390051204254346932932316488017972311616136051587427851453983453479168⟩)) (.t 21))<|
.p 23 [22] (.conv (.toInt .i64) (.t 22))<|
.b 24 .add .none (.t 19) (.t 23)<|
.m 2 24<|
.nil))
 .ret)
def A290 : XFn := ⟨25, [(.int .u64)], [(.tmp 2)], (C290_0 (C290_1 (C290_2 C290_3)))⟩
def C294_0 (cc1 : XC) (cc2 : XC) : XC := (.seq (.ops (.p 1 [0] (.box 145 (.t 0))<|
.q 2 0<|
.nil))
 (.seq (.ops (.op (some 5) (.agg [.i, .any, .bool, .bool, .bool, .bool, .i, .i, .any, .any, .i, .bool, .i]) [1] (.load (some 13) (.t 1))<|
.k 6 .one 302 [(.t 5)]<|
.m 3 6<|
.nil))
 (.seq (.ops (.f 7 10 1<|
.l 8 .i 7<|
.m 4 8<|
.nil))
 (.seq (.block 0 (.loop [(3, .any), (4, .i)] [] [] cc2))
 (.keep [(4, .i)] [] [] cc1)))))
def C294_1 : XC := (.seq (.ops (.m 20 4<|
.m 2 20<|
.nil))
 .ret)
def C294_2 : XC := (.seq (.seq (.ops (.m 9 4<|
.b 10 .gtr .none (.t 9) (.i 0)<|
.m 11 10<|
.grp 11 true (.p 12 [3, 11] (.mov (.t 3))<|
.p 13 [4, 11] (.mov (.t 4))<|
.p 14 [13, 11] (.bin .sub .none (.t 13) (.i 1))<|
.p 15 [12, 14, 11] (.iaddrS 1 (.t 12) (.t 14))<|
.op (some 16) .bool [15, 11] (.load none (.t 15))<|
.nil) 17 [11, 16] (.t 11) (.t 16) (.con (V.bool false))<|
.nil))
 (.cond (.tmp 17) .skip
 (.exit 0)))
 (.block 1 (.ops (.m 18 4<|
.b 19 .sub .none (.t 18) (.i 1)<|
.m 4 19<|
.nil))))
def A294 : XFn := ⟨21, [(.agg [.i, .any, .bool, .bool, .bool, .bool, .i, .i, .any, .any, .i, .bool, .i])], [(.tmp 2)], (C294_0 C294_1 C294_2)⟩
def C295_0 (cc1 : XC) (cc2 : XC) : XC := (.seq (.ops (.p 3 [1] (.box 253 (.t 1))<|
.c 4 (V.bool false)<|
.nil))
 (.seq (.seq (.ops (.q 5 0<|
.nil))
 (.block 0 (.loop [(0, .any), (3, .ptr), (5, .i)] [] [] cc2)))
 (.keep [] [] [] cc1)))
def C295_1 : XC := (.seq (.ops (.c 4 (V.bool false)<|
.nil))
 .ret)
def C295_2 : XC := (.seq (.seq (.ops (.m 6 5<|
.m 7 0<|
.u 8 7<|
.b 9 .lss .none (.t 6) (.t 8)<|
.nil))
 (.cond (.tmp 9) .skip
 (.exit 0)))
 (.seq (.block 1 (.seq (.draw (.m 12 0<|
.m 13 5<|
.s 14 2 12 13<|
.op (some 15) (.agg [.i, .i]) [14] (.load (some 2) (.t 14))<|
.op (some 16) (.agg [.i, .i]) [3] (.load (some 2) (.t 3))<|
.b 17 .eql (.flat [(0, .int), (1, .int)]) (.t 15) (.t 16)<|
.nil) [0, 0, 3, 7, 0, 31])
 (.cond (.tmp 17) (.seq (.ops (.c 4 (V.bool true)<|
.nil))
 .ret)
 .skip)))
 (.ops (.m 10 5<|
.b 11 .add .none (.t 10) (.i 1)<|
.m 5 11<|
.nil))))
def A295 : XFn := ⟨18, [.any, (.agg [.i, .i])], [(.tmp 4)], (C295_0 C295_1 C295_2)⟩
def Fin297 (E : List (Nat × Blk)) : St → Ans := fun s => resK E s [] fun l => some (oneV l, s.σ)
def C297_0 : XC := (.seq (.ops (.l 5 .any 0<|
.k 6 (.int .u64) 103 [(.t 5), (.i 8)]<|
.p 7 [6] (.conv (.toInt .i64) (.t 6))<|
.m 4 7<|
.nil))
 (.block 0 (.seq (.ops (.m 23 4<|
.b 24 .lss .none (.t 23) (.i 128)<|
.m 22 24<|
.nil))
 (.cond (.tmp 22) (.ops (.m 25 4<|
.w 1 1 25<|
.nil))
 (.seq (.ops (.m 27 4<|
.b 28 .lss .none (.t 27) (.i 192)<|
.m 26 28<|
.nil))
 (.cond (.tmp 26) (.seq (.ops (.m 29 4<|
.b 30 .andNot .none (.t 29) (.i 128)<|
.b 31 .shl .none (.t 30) (.con (V.int .u64 (Int.ofNat 8)))<|
.l 32 .any 0<|
.k 33 (.int .u64) 103 [(.t 32), (.i 8)]<|
.p 34 [33] (.conv (.toInt .i64) (.t 33))<|
.b 35 .or .none (.t 31) (.t 34)<|
.w 1 1 35<|
.nil))
 (.seq (.ops (.l 36 .i 1<|
.b 37 .lss .none (.t 36) (.i 128)<|
.nil))
 (.cond (.tmp 37) (.ops (.l 38 .any 0<|
.k 39 (.tup []) 181 [(.t 38), (.i 4)]<|
.nil))
 .skip)))
 (.seq (.ops (.m 8 4<|
.b 9 .sub .none (.t 8) (.i 192)<|
.b 10 .mul .none (.t 9) (.i 16384)<|
.w 1 1 10<|
.op none .any [2] (.store 1 (.t 2) (.con (V.bool true)))<|
.nil))
 (.seq (.ops (.l 11 .bool 3<|
.m 12 11<|
.grp 12 false (.op (some 13) .i [1, 12] (.load none (.t 1))<|
.p 14 [13, 12] (.bin .lss .none (.t 13) (.i 16384))<|
.nil) 15 [12, 14] (.t 12) (.con (V.bool true)) (.t 14)<|
.m 16 15<|
.grp 16 false (.op (some 17) .i [1, 16] (.load none (.t 1))<|
.p 18 [17, 16] (.bin .gtr .none (.t 17) (.i 65536))<|
.nil) 19 [16, 18] (.t 16) (.con (V.bool true)) (.t 18)<|
.nil))
 (.cond (.tmp 19) (.ops (.l 20 .any 0<|
.k 21 (.tup []) 181 [(.t 20), (.i 4)]<|
.nil))
 .skip)))))))))
def T297_0 (E : List (Nat × Blk)) (D : Den) (W : DrawFn) (v0 v1 v2 v3 : V) (σ : H) : Ans :=
 rtPtr v0 fun b1 o2 =>
 ldK E σ b1 o2 fun u3 =>
 callK (D 103 [u3, (V.int .i64 (Int.ofNat 8))] σ) fun u4 s5 =>
 rtInt .u64 u4 fun x6 =>
 condK (ltF (wrapF .i64 x6) (Int.ofNat 128)) (
 rtPtr v1 fun b7 o8 =>
 stK 1 b7 o8 (V.int .i64 (wrapF .i64 x6)) s5 fun s9 =>
 some ((V.tup []), s9)) (
 condK (ltF (wrapF .i64 x6) (Int.ofNat 192)) (
 rtPtr v0 fun b10 o11 =>
 ldK E s5 b10 o11 fun u12 =>
 callK (D 103 [u12, (V.int .i64 (Int.ofNat 8))] s5) fun u13 s14 =>
 rtInt .u64 u13 fun x15 =>
 rtPtr v1 fun b16 o17 =>
 stK 1 b16 o17 (V.int .i64 (orF .i64 (shlF .i64 (andNotF .i64 (wrapF .i64 x6) (Int.ofNat 128)) 8) (wrapF .i64 x15))) s14 fun s18 =>
 rtPtr v1 fun b19 o20 =>
 ldK E s18 b19 o20 fun u21 =>
 rtInt .i64 u21 fun x22 =>
 condK (ltF x22 (Int.ofNat 128)) (
 rtPtr v0 fun b23 o24 =>
 ldK E s18 b23 o24 fun u25 =>
 callK (D 181 [u25, (V.int .i64 (Int.ofNat 4))] s18) fun u26 s27 =>
 rtTup u26 fun l28 =>
 rtNil l28 (
 some ((V.tup []), s27))) (
 some ((V.tup []), s18))) (
 rtPtr v1 fun b29 o30 =>
 stK 1 b29 o30 (V.int .i64 (mulF .i64 (subF .i64 (wrapF .i64 x6) (Int.ofNat 192)) (Int.ofNat 16384))) s5 fun s31 =>
 rtPtr v2 fun b32 o33 =>
 stK 1 b32 o33 (V.bool true) s31 fun s34 =>
 rtPtr v3 fun b35 o36 =>
 ldK E s34 b35 o36 fun u37 =>
 rtBool u37 fun x38 =>
 joinB (fun c39 s40 =>
 joinB (fun c42 s43 =>
 condK c42 (
 rtPtr v0 fun b45 o46 =>
 ldK E s43 b45 o46 fun u47 =>
 callK (D 181 [u47, (V.int .i64 (Int.ofNat 4))] s43) fun u48 s49 =>
 rtTup u48 fun l50 =>
 rtNil l50 (
 some ((V.tup []), s49))) (
 some ((V.tup []), s43))) fun k44 =>
 condK c39 (
 k44 true s40) (
 rtPtr v1 fun b51 o52 =>
 ldK E s40 b51 o52 fun u53 =>
 rtInt .i64 u53 fun x54 =>
 k44 (ltF (Int.ofNat 65536) x54) s40)) fun k41 =>
 condK x38 (
 k41 true s34) (
 rtPtr v1 fun b55 o56 =>
 ldK E s34 b55 o56 fun u57 =>
 rtInt .i64 u57 fun x58 =>
 k41 (ltF x58 (Int.ofNat 16384)) s34)))
def S297_0 (v0 v1 v2 v3 : V) (σ : H) : St := ⟨[(0, v0), (1, v1), (2, v2), (3, v3)], [], [], σ⟩
theorem P297_0 (v0 v1 v2 v3 : V) (σ : H) :
 denC E D W N (C297_0 ) (S297_0 v0 v1 v2 v3 σ) (Fin297 E) (fun _ _ => none) (Fin297 E) =
 T297_0 E D W  v0 v1 v2 v3 σ := by kernel_rfl
def J297_0 (E : List (Nat × Blk)) (D : Den) (W : DrawFn) (N : Nat) : V → V → V → V → H → Ans := T297_0 E D W
theorem JE297_0 (v0 v1 v2 v3 : V) (σ : H) :
 denC E D W N C297_0 (S297_0 v0 v1 v2 v3 σ) (Fin297 E) (fun _ _ => none) (Fin297 E) = J297_0 E D W N v0 v1 v2 v3 σ := by
 refine (P297_0 E D W N   v0 v1 v2 v3 σ).trans ?_
 kernel_rfl
def F297 (args : List V) (σ : H) : Ans :=
 rtCons args fun x1 l2 =>
 rtCons l2 fun x3 l4 =>
 rtCons l4 fun x5 l6 =>
 rtCons l6 fun x7 l8 =>
 rtNil l8 (
 J297_0 E D W N x1 x3 x5 x7 σ)
def A297 : XFn := ⟨40, [.any, .any, .any, .any], [], C297_0⟩
theorem FE297 (args : List V) (σ : H) : runX E D W N A297 args σ = F297 E D W N args σ := by
 unfold F297
 simp only [← JE297_0]
 kernel_rfl
theorem AO297 : A297.body.ok = true := by kernel_rfl
def G301_0 : List AOper := [⟨(some 33), .mov (.tmp 7), none⟩, ⟨(some 34), .mov (.tmp 0), none⟩, ⟨(some 35), .nilck (.tmp 34), none⟩, ⟨(some 36), .faddr 5 (.tmp 35), none⟩, ⟨(some 37), .load none (.tmp 36), none⟩, ⟨(some 38), .mov (.tmp 1), none⟩, ⟨(some 39), .mov (.tmp 8), none⟩, ⟨(some 40), .iaddrS 11 (.tmp 38) (.tmp 39), none⟩, ⟨(some 41), .faddr 1 (.tmp 40), none⟩, ⟨(some 42), .load none (.tmp 41), none⟩, ⟨(some 43), .call 310 [(.tmp 37), (.tmp 42)], none⟩, ⟨(some 44), .buildSlice 139 1 [V.nils] [(0, 1, (.tmp 43))], none⟩, ⟨(some 45), .append 139 1 24 (.tmp 33) (.tmp 44), none⟩, ⟨(some 7), .mov (.tmp 45), none⟩]
def H301_0 : List DP := [⟨0, [7]⟩, ⟨0, [0]⟩, ⟨2, [34]⟩, ⟨6, [35]⟩, ⟨14, [36]⟩, ⟨0, [1]⟩, ⟨0, [8]⟩, ⟨96, [38, 39]⟩, ⟨224, [40]⟩, ⟨480, [41]⟩, ⟨1022, [37, 42]⟩, ⟨2046, [43]⟩, ⟨4095, [33, 44]⟩, ⟨8191, [45]⟩]
def C301_0 (cc1 : XC) (cc2 : XC) : XC := (.seq (.ops (.c 6 (V.bool false)<|
.nil))
 (.seq (.ops (.c 7 V.nils<|
.nil))
 (.seq (.seq (.ops (.q 8 0<|
.nil))
 (.block 0 (.loop [(0, .ptr), (1, .any), (2, .bool), (7, .any), (8, .i)] [] [] cc2)))
 (.keep [(7, .any)] [] [] cc1))))
def C301_1 : XC := (.seq (.ops (.m 46 7<|
.k 47 .bool 313 [(.t 46)]<|
.m 6 47<|
.nil))
 .ret)
def C301_2 : XC := (.seq (.seq (.ops (.m 9 8<|
.m 10 1<|
.u 11 10<|
.b 12 .lss .none (.t 9) (.t 11)<|
.nil))
 (.cond (.tmp 12) .skip
 (.exit 0)))
 (.seq (.block 1 (.seq (.seq (.draw (.m 15 0<|
.n 16 15<|
.f 17 5 16<|
.l 18 .any 17<|
.m 19 1<|
.m 20 8<|
.s 21 11 19 20<|
.f 22 1 21<|
.l 23 .i 22<|
.k 24 .bool 312 [(.t 18), (.t 23)]<|
.m 25 24<|
.grp 25 true (.p 26 [2, 25] (.mov (.t 2))<|
.p 27 [26, 25] (.mov (.t 26))<|
.grp 27 false (.p 28 [1, 27] (.mov (.t 1))<|
.p 29 [28, 27] (.len false (.t 28))<|
.p 30 [29, 27] (.bin .gtr .none (.t 29) (.i 1))<|
.nil) 31 [27, 30, 25] (.t 27) (.con (V.bool true)) (.t 30)<|
.nil) 32 [25, 31] (.t 25) (.t 31) (.con (V.bool false))<|
.nil) [0, 1, 3, 7, 0, 0, 48, 112, 240, 511, 1023, 2047, 4095, 8191, 16383, 32767, 65535, 131071])
 (.cond (.tmp 32) (.seq (.ops (.c 6 (V.bool false)<|
.nil))
 .ret)
 .skip))
 (.keep [(0, .ptr), (1, .any), (2, .bool), (7, .any), (8, .i)] [] [] (.gdraw G301_0 H301_0 [(0, .ptr), (1, .any), (2, .bool), (7, .any), (8, .i)]))))
 (.ops (.m 13 8<|
.b 14 .add .none (.t 13) (.i 1)<|
.m 8 14<|
.nil))))
def A301 : XFn := ⟨48, [.ptr, .any, .bool], [(.tmp 6)], (C301_0 C301_1 C301_2)⟩
def C302_0 (cc1 : XC) (cc2 : XC) : XC := (.seq (.ops (.p 1 [0] (.box 145 (.t 0))<|
.c 2 V.nils<|
.nil))
 (.seq (.ops (.c 3 V.nils<|
.nil))
 (.seq (.seq (.ops (.q 4 0<|
.nil))
 (.block 0 (.loop [(1, .ptr), (3, .any), (4, .i)] [] [] cc2)))
 (.keep [(3, .any)] [] [] cc1))))
def C302_1 : XC := (.seq (.ops (.m 35 3<|
.m 2 35<|
.nil))
 .ret)
def C302_2 : XC := (.seq (.seq (.ops (.m 5 4<|
.f 6 9 1<|
.l 7 .any 6<|
.u 8 7<|
.b 9 .lss .none (.t 5) (.t 8)<|
.nil))
 (.cond (.tmp 9) .skip
 (.exit 0)))
 (.seq (.block 1 (.ops (.m 12 3<|
.f 13 9 1<|
.l 14 .any 13<|
.m 15 4<|
.s 16 11 14 15<|
.f 17 2 16<|
.l 18 .bool 17<|
.m 19 18<|
.grp 19 false (.p 20 [1, 19] (.faddr 9 (.t 1))<|
.p 21 [20, 19] (.load none (.t 20))<|
.p 22 [4, 19] (.mov (.t 4))<|
.p 23 [21, 22, 19] (.iaddrS 11 (.t 21) (.t 22))<|
.p 24 [23, 19] (.faddr 3 (.t 23))<|
.op (some 25) .bool [24, 19] (.load none (.t 24))<|
.nil) 26 [19, 25] (.t 19) (.con (V.bool true)) (.t 25)<|
.m 27 26<|
.grp 27 false (.p 28 [4, 27] (.mov (.t 4))<|
.p 29 [1, 27] (.faddr 10 (.t 1))<|
.op (some 30) .i [29, 27] (.load none (.t 29))<|
.p 31 [28, 30, 27] (.bin .geq .none (.t 28) (.t 30))<|
.nil) 32 [27, 31] (.t 27) (.con (V.bool true)) (.t 31)<|
.p 33 [32] (.buildSlice 4 1 [(V.bool false)] [(0, 1, (.t 32))])<|
.op (some 34) .one [12, 33] (.append 4 1 1 (.t 12) (.t 33))<|
.m 3 34<|
.nil)))
 (.ops (.m 10 4<|
.b 11 .add .none (.t 10) (.i 1)<|
.m 4 11<|
.nil))))
def A302 : XFn := ⟨36, [(.agg [.i, .any, .bool, .bool, .bool, .bool, .i, .i, .any, .any, .i, .bool, .i])], [(.tmp 2)], (C302_0 C302_1 C302_2)⟩
def C310_0 (cc1 : XC) (cc2 : XC) : XC := (.seq (.ops (.c 4 V.nils<|
.nil))
 (.seq (.seq (.ops (.m 7 0<|
.m 8 1<|
.s 9 13 7 8<|
.f 10 1 9<|
.l 11 .any 10<|
.u 12 11<|
.b 13 .gtr .none (.t 12) (.i 0)<|
.nil))
 (.cond (.tmp 13) (.seq (.ops (.m 14 0<|
.m 15 1<|
.s 16 13 14 15<|
.f 17 1 16<|
.l 18 .any 17<|
.p 19 [18] (.sliceSl 2 (.t 18) none (some (.i 1)) none)<|
.m 4 19<|
.nil))
 .ret)
 .skip))
 (.seq (.ops (.c 5 V.nils<|
.nil))
 (.seq (.seq (.ops (.q 6 0<|
.nil))
 (.block 0 (.loop [(0, .any), (1, .i), (5, .any), (6, .i)] [] [] cc2)))
 (.keep [(5, .any)] [] [] cc1)))))
def C310_1 : XC := (.seq (.ops (.m 43 5<|
.m 4 43<|
.nil))
 .ret)
def C310_2 : XC := (.seq (.seq (.ops (.m 20 6<|
.m 21 0<|
.m 22 1<|
.s 23 13 21 22<|
.f 24 9 23<|
.l 25 .any 24<|
.u 26 25<|
.b 27 .lss .none (.t 20) (.t 26)<|
.nil))
 (.cond (.tmp 27) .skip
 (.exit 0)))
 (.seq (.block 1 (.ops (.m 30 5<|
.m 31 0<|
.m 32 0<|
.m 33 1<|
.s 34 13 32 33<|
.f 35 9 34<|
.l 36 .any 35<|
.m 37 6<|
.s 38 11 36 37<|
.f 39 1 38<|
.l 40 .i 39<|
.k 41 .one 310 [(.t 31), (.t 40)]<|
.op (some 42) .one [30, 41] (.append 253 2 16 (.t 30) (.t 41))<|
.m 5 42<|
.nil)))
 (.ops (.m 28 6<|
.b 29 .add .none (.t 28) (.i 1)<|
.m 6 29<|
.nil))))
def A310 : XFn := ⟨44, [.any, .i], [(.tmp 4)], (C310_0 C310_1 C310_2)⟩
def C312_0 (cc1 : XC) (cc2 : XC) : XC := (.seq (.ops (.c 4 (V.bool false)<|
.nil))
 (.seq (.seq (.ops (.m 7 0<|
.m 8 1<|
.s 9 13 7 8<|
.f 10 0 9<|
.l 11 .i 10<|
.b 12 .neq .none (.t 11) (.i 9)<|
.m 13 12<|
.grp 13 false (.p 14 [0, 13] (.mov (.t 0))<|
.p 15 [1, 13] (.mov (.t 1))<|
.p 16 [14, 15, 13] (.iaddrS 13 (.t 14) (.t 15))<|
.p 17 [16, 13] (.faddr 1 (.t 16))<|
.p 18 [17, 13] (.load none (.t 17))<|
.p 19 [18, 13] (.len false (.t 18))<|
.p 20 [19, 13] (.bin .gtr .none (.t 19) (.i 0))<|
.nil) 21 [13, 20] (.t 13) (.con (V.bool true)) (.t 20)<|
.nil))
 (.cond (.tmp 21) (.seq (.ops (.c 4 (V.bool false)<|
.nil))
 .ret)
 .skip))
 (.seq (.ops (.m 22 0<|
.m 23 1<|
.s 24 13 22 23<|
.f 25 11 24<|
.l 26 .bool 25<|
.m 5 26<|
.nil))
 (.seq (.seq (.ops (.q 6 0<|
.nil))
 (.block 0 (.loop [(0, .any), (1, .i), (5, .bool), (6, .i)] [] [] cc2)))
 (.keep [(5, .bool)] [] [] cc1)))))
def C312_1 : XC := (.seq (.ops (.m 51 5<|
.m 4 51<|
.nil))
 .ret)
def C312_2 : XC := (.seq (.seq (.ops (.m 27 6<|
.m 28 0<|
.m 29 1<|
.s 30 13 28 29<|
.f 31 9 30<|
.l 32 .any 31<|
.u 33 32<|
.b 34 .lss .none (.t 27) (.t 33)<|
.nil))
 (.cond (.tmp 34) .skip
 (.exit 0)))
 (.seq (.block 1 (.ops (.m 37 5<|
.m 38 37<|
.grp 38 false (.p 39 [0, 38] (.mov (.t 0))<|
.p 40 [0, 38] (.mov (.t 0))<|
.p 41 [1, 38] (.mov (.t 1))<|
.p 42 [40, 41, 38] (.iaddrS 13 (.t 40) (.t 41))<|
.p 43 [42, 38] (.faddr 9 (.t 42))<|
.p 44 [43, 38] (.load none (.t 43))<|
.p 45 [6, 38] (.mov (.t 6))<|
.p 46 [44, 45, 38] (.iaddrS 11 (.t 44) (.t 45))<|
.p 47 [46, 38] (.faddr 1 (.t 46))<|
.op (some 48) .i [47, 38] (.load none (.t 47))<|
.op (some 49) .bool [39, 48, 38] (.call 312 [(.t 39), (.t 48)])<|
.nil) 50 [38, 49] (.t 38) (.con (V.bool true)) (.t 49)<|
.m 5 50<|
.nil)))
 (.ops (.m 35 6<|
.b 36 .add .none (.t 35) (.i 1)<|
.m 6 36<|
.nil))))
def A312 : XFn := ⟨52, [.any, .i], [(.tmp 4)], (C312_0 C312_1 C312_2)⟩
def C313_0 (cc1 : XC) (cc2 : XC) : XC := (.seq (.ops (.c 2 (V.bool false)<|
.nil))
 (.seq (.ops (.c 3 V.nils<|
.nil))
 (.seq (.seq (.ops (.q 4 0<|
.nil))
 (.block 0 (.loop [(0, .any), (3, .any), (4, .i)] [] [] cc2)))
 (.keep [] [] [] cc1))))
def C313_1 : XC := (.seq (.ops (.c 2 (V.bool true)<|
.nil))
 .ret)
def C313_2 (cc3 : XC) (cc4 : XC) : XC := (.seq (.seq (.ops (.m 6 4<|
.m 7 0<|
.u 8 7<|
.b 9 .lss .none (.t 6) (.t 8)<|
.nil))
 (.cond (.tmp 9) .skip
 (.exit 0)))
 (.seq (.block 1 (.seq (.ops (.q 5 0<|
.nil))
 (.block 2 (.loop [(0, .any), (3, .any), (4, .i), (5, .i)] [] [] cc4))))
 (.keep [(0, .any), (3, .any), (4, .i)] [] [] cc3)))
def C313_3 : XC := (.ops (.m 10 4<|
.b 11 .add .none (.t 10) (.i 1)<|
.m 4 11<|
.nil))
def C313_4 : XC := (.seq (.seq (.ops (.m 12 5<|
.m 13 0<|
.m 14 4<|
.s 15 1 13 14<|
.l 16 .any 15<|
.u 17 16<|
.b 18 .lss .none (.t 12) (.t 17)<|
.nil))
 (.cond (.tmp 18) .skip
 (.exit 2)))
 (.seq (.block 3 (.seq (.seq (.ops (.m 21 3<|
.m 22 0<|
.m 23 4<|
.s 24 1 22 23<|
.l 25 .any 24<|
.m 26 5<|
.s 27 2 25 26<|
.op (some 28) (.agg [.i, .i]) [27] (.load (some 2) (.t 27))<|
.k 29 .bool 295 [(.t 21), (.t 28)]<|
.nil))
 (.cond (.tmp 29) (.seq (.ops (.c 2 (V.bool false)<|
.nil))
 .ret)
 .skip))
 (.ops (.m 30 3<|
.m 31 0<|
.m 32 4<|
.s 33 1 31 32<|
.l 34 .any 33<|
.m 35 5<|
.s 36 2 34 35<|
.op (some 37) (.agg [.i, .i]) [36] (.load (some 2) (.t 36))<|
.p 38 [37] (.buildSlice 253 1 [(V.int .i64 (Int.ofNat 0)), (V.int .i64 (Int.ofNat 0))] [(0, 2, (.t 37))])<|
.op (some 39) .one [30, 38] (.append 253 2 16 (.t 30) (.t 38))<|
.m 3 39<|
.nil))))
 (.ops (.m 19 5<|
.b 20 .add .none (.t 19) (.i 1)<|
.m 5 20<|
.nil))))
def A313 : XFn := ⟨40, [.any], [(.tmp 2)], (C313_0 C313_1 (C313_2 C313_3 C313_4))⟩
end
end Go.Proofs.YtgjjnbddbbhloaaGreatDoor
set_option linter.all false
set_option maxRecDepth 100000
set_option maxHeartbeats 0
namespace Go.Proofs.YtgjjnbddbbhloaaGreatDoor
open Go Go.Og
noncomputable section
def glob : Nat → Bool := fun g => Nat.blt g 2
theorem follows : Tryz.prog.follows .mixedOrders = true := by kernel_rfl
def Is (f : Nat) (A : XFn) : Prop := ∃ fn, Tryz.prog.funcs[f]? = some fn ∧ compF Tryz.prog glob fn = some A.strip ∧ A.body.ok = true ∧ callOk Tryz.prog f = true
theorem Is.sound {f : Nat} {A : XFn} (h : Is f A) (E : List (Nat × Blk)) (D : Den) (hD : ∀ f, SoundFn Tryz.prog E glob f (D f)) (N : Nat) : SoundFn Tryz.prog E glob f (runX E D (drawW E D) N A) :=
 let ⟨_, h1, h2, h3, h4⟩ := h
 runX_ok hD (drawW_ok hD follows) follows N h1 h2 rfl h3 h4
def tab : List (Nat × XFn) := [(13, A13), (15, A15), (22, A22), (29, A29), (31, A31), (33, A33), (34, A34), (35, A35), (36, A36), (37, A37), (38, A38), (39, A39), (40, A40), (49, A49), (53, A53), (54, A54), (56, A56), (57, A57), (58, A58), (59, A59), (60, A60), (62, A62), (63, A63), (64, A64), (65, A65), (66, A66), (67, A67), (68, A68), (69, A69), (70, A70), (71, A71), (72, A72), (74, A74), (77, A77), (84, A84), (85, A85), (86, A86), (98, A98), (104, A104), (117, A117), (118, A118), (119, A119), (120, A120), (121, A121), (122, A122), (123, A123), (124, A124), (125, A125), (127, A127), (128, A128), (129, A129), (131, A131), (132, A132), (136, A136), (137, A137), (138, A138), (139, A139), (140, A140), (141, A141), (147, A147), (148, A148), (149, A149), (151, A151), (152, A152), (154, A154), (155, A155), (156, A156), (157, A157), (158, A158), (159, A159), (160, A160), (161, A161), (162, A162), (185, A185), (205, A205), (206, A206), (207, A207), (208, A208), (209, A209), (210, A210), (213, A213), (214, A214), (216, A216), (218, A218), (220, A220), (221, A221), (223, A223), (224, A224), (230, A230), (231, A231), (233, A233), (234, A234), (235, A235), (236, A236), (237, A237), (239, A239), (243, A243), (244, A244), (248, A248), (249, A249), (252, A252), (263, A263), (274, A274), (276, A276), (279, A279), (289, A289), (290, A290), (294, A294), (295, A295), (301, A301), (302, A302), (310, A310), (312, A312), (313, A313)]
theorem tab_is : ∀ p ∈ tab, Is p.1 p.2 := by
 unfold tab
 simp only [List.forall_mem_cons]
 exact ⟨⟨_, Tryz.func13, by kernel_rfl, by kernel_rfl, by kernel_rfl⟩,
  ⟨_, Tryz.func15, by kernel_rfl, by kernel_rfl, by kernel_rfl⟩,
  ⟨_, Tryz.func22, by kernel_rfl, by kernel_rfl, by kernel_rfl⟩,
  ⟨_, Tryz.func29, by kernel_rfl, by kernel_rfl, by kernel_rfl⟩,
  ⟨_, Tryz.func31, by kernel_rfl, by kernel_rfl, by kernel_rfl⟩,
  ⟨_, Tryz.func33, by kernel_rfl, by kernel_rfl, by kernel_rfl⟩,
  ⟨_, Tryz.func34, by kernel_rfl, by kernel_rfl, by kernel_rfl⟩,
  ⟨_, Tryz.func35, by kernel_rfl, by kernel_rfl, by kernel_rfl⟩,
  ⟨_, Tryz.func36, by kernel_rfl, by kernel_rfl, by kernel_rfl⟩,
  ⟨_, Tryz.func37, by kernel_rfl, by kernel_rfl, by kernel_rfl⟩,
  ⟨_, Tryz.func38, by kernel_rfl, by kernel_rfl, by kernel_rfl⟩,
  ⟨_, Tryz.func39, by kernel_rfl, by kernel_rfl, by kernel_rfl⟩,
  ⟨_, Tryz.func40, by kernel_rfl, by kernel_rfl, by kernel_rfl⟩,
  ⟨_, Tryz.func49, by kernel_rfl, by kernel_rfl, by kernel_rfl⟩,
  ⟨_, Tryz.func53, by kernel_rfl, by kernel_rfl, by kernel_rfl⟩,
  ⟨_, Tryz.func54, by kernel_rfl, by kernel_rfl, by kernel_rfl⟩,
  ⟨_, Tryz.func56, by kernel_rfl, by kernel_rfl, by kernel_rfl⟩,
  ⟨_, Tryz.func57, by kernel_rfl, by kernel_rfl, by kernel_rfl⟩,
  ⟨_, Tryz.func58, by kernel_rfl, by kernel_rfl, by kernel_rfl⟩,
  ⟨_, Tryz.func59, by kernel_rfl, by kernel_rfl, by kernel_rfl⟩,
  ⟨_, Tryz.func60, by kernel_rfl, by kernel_rfl, by kernel_rfl⟩,
  ⟨_, Tryz.func62, by kernel_rfl, by kernel_rfl, by kernel_rfl⟩,
  ⟨_, Tryz.func63, by kernel_rfl, by kernel_rfl, by kernel_rfl⟩,
  ⟨_, Tryz.func64, by kernel_rfl, by kernel_rfl, by kernel_rfl⟩,
  ⟨_, Tryz.func65, by kernel_rfl, by kernel_rfl, by kernel_rfl⟩,
  ⟨_, Tryz.func66, by kernel_rfl, by kernel_rfl, by kernel_rfl⟩,
  ⟨_, Tryz.func67, by kernel_rfl, by kernel_rfl, by kernel_rfl⟩,
  ⟨_, Tryz.func68, by kernel_rfl, by kernel_rfl, by kernel_rfl⟩,
  ⟨_, Tryz.func69, by kernel_rfl, by kernel_rfl, by kernel_rfl⟩,
  ⟨_, Tryz.func70, by kernel_rfl, by kernel_rfl, by kernel_rfl⟩,
  ⟨_, Tryz.func71, by kernel_rfl, by kernel_rfl, by kernel_rfl⟩,
  ⟨_, Tryz.func72, by kernel_rfl, by kernel_rfl, by kernel_rfl⟩,
  ⟨_, Tryz.func74, by kernel_rfl, by kernel_rfl, by kernel_rfl⟩,
  ⟨_, Tryz.func77, by kernel_rfl, by kernel_rfl, by kernel_rfl⟩,
  ⟨_, Tryz.func84, by kernel_rfl, by kernel_rfl, by kernel_rfl⟩,
  ⟨_, Tryz.func85, by kernel_rfl, by kernel_rfl, by kernel_rfl⟩,
  ⟨_, Tryz.func86, by kernel_rfl, by kernel_rfl, by kernel_rfl⟩,
  ⟨_, Tryz.func98, by kernel_rfl, by kernel_rfl, by kernel_rfl⟩,
  ⟨_, Tryz.func104, by kernel_rfl, by kernel_rfl, by kernel_rfl⟩,
  ⟨_, Tryz.func117, by kernel_rfl, by kernel_rfl, by kernel_rfl⟩,
  ⟨_, Tryz.func118, by kernel_rfl, by kernel_rfl, by kernel_rfl⟩,
  ⟨_, Tryz.func119, by kernel_rfl, by kernel_rfl, by kernel_rfl⟩,
  ⟨_, Tryz.func120, by kernel_rfl, by kernel_rfl, by kernel_rfl⟩,
  ⟨_, Tryz.func121, by kernel_rfl, by kernel_rfl, by kernel_rfl⟩,
  ⟨_, Tryz.func122, by kernel_rfl, by kernel_rfl, by kernel_rfl⟩,
  ⟨_, Tryz.func123, by kernel_rfl, by kernel_rfl, by kernel_rfl⟩,
  ⟨_, Tryz.func124, by kernel_rfl, by kernel_rfl, by kernel_rfl⟩,
  ⟨_, Tryz.func125, by kernel_rfl, by kernel_rfl, by kernel_rfl⟩,
  ⟨_, Tryz.func127, by kernel_rfl, by kernel_rfl, by kernel_rfl⟩,
  ⟨_, Tryz.func128, by kernel_rfl, by kernel_rfl, by kernel_rfl⟩,
  ⟨_, Tryz.func129, by kernel_rfl, by kernel_rfl, by kernel_rfl⟩,
  ⟨_, Tryz.func131, by kernel_rfl, by kernel_rfl, by kernel_rfl⟩,
  ⟨_, Tryz.func132, by kernel_rfl, by kernel_rfl, by kernel_rfl⟩,
  ⟨_, Tryz.func136, by kernel_rfl, by kernel_rfl, by kernel_rfl⟩,
  ⟨_, Tryz.func137, by kernel_rfl, by kernel_rfl, by kernel_rfl⟩,
  ⟨_, Tryz.func138, by kernel_rfl, by kernel_rfl, by kernel_rfl⟩,
  ⟨_, Tryz.func139, by kernel_rfl, by kernel_rfl, by kernel_rfl⟩,
  ⟨_, Tryz.func140, by kernel_rfl, by kernel_rfl, by kernel_rfl⟩,
  ⟨_, Tryz.func141, by kernel_rfl, by kernel_rfl, by kernel_rfl⟩,
  ⟨_, Tryz.func147, by kernel_rfl, by kernel_rfl, by kernel_rfl⟩,
  ⟨_, Tryz.func148, by kernel_rfl, by kernel_rfl, by kernel_rfl⟩,
  ⟨_, Tryz.func149, by kernel_rfl, by kernel_rfl, by kernel_rfl⟩,
  ⟨_, Tryz.func151, by kernel_rfl, by kernel_rfl, by kernel_rfl⟩,
  ⟨_, Tryz.func152, by kernel_rfl, by kernel_rfl, by kernel_rfl⟩,
  ⟨_, Tryz.func154, by kernel_rfl, by kernel_rfl, by kernel_rfl⟩,
  ⟨_, Tryz.func155, by kernel_rfl, by kernel_rfl, by kernel_rfl⟩,
  ⟨_, Tryz.func156, by kernel_rfl, by kernel_rfl, by kernel_rfl⟩,
  ⟨_, Tryz.func157, by kernel_rfl, by kernel_rfl, by kernel_rfl⟩,
  ⟨_, Tryz.func158, by kernel_rfl, by kernel_rfl, by kernel_rfl⟩,
  ⟨_, Tryz.func159, by kernel_rfl, by kernel_rfl, by kernel_rfl⟩,
  ⟨_, Tryz.func160, by kernel_rfl, by kernel_rfl, by kernel_rfl⟩,
  ⟨_, Tryz.func161, by kernel_rfl, by kernel_rfl, by kernel_rfl⟩,
  ⟨_, Tryz.func162, by kernel_rfl, by kernel_rfl, by kernel_rfl⟩,
  ⟨_, Tryz.func185, by kernel_rfl, by kernel_rfl, by kernel_rfl⟩,
  ⟨_, Tryz.func205, by kernel_rfl, by kernel_rfl, by kernel_rfl⟩,
  ⟨_, Tryz.func206, by kernel_rfl, by kernel_rfl, by kernel_rfl⟩,
  ⟨_, Tryz.func207, by kernel_rfl, by kernel_rfl, by kernel_rfl⟩,
  ⟨_, Tryz.func208, by kernel_rfl, by kernel_rfl, by kernel_rfl⟩,
  ⟨_, Tryz.func209, by kernel_rfl, by kernel_rfl, by kernel_rfl⟩,
  ⟨_, Tryz.func210, by kernel_rfl, by kernel_rfl, by kernel_rfl⟩,
  ⟨_, Tryz.func213, by kernel_rfl, by kernel_rfl, by kernel_rfl⟩,
  ⟨_, Tryz.func214, by kernel_rfl, by kernel_rfl, by kernel_rfl⟩,
  ⟨_, Tryz.func216, by kernel_rfl, by kernel_rfl, by kernel_rfl⟩,
  ⟨_, Tryz.func218, by kernel_rfl, by kernel_rfl, by kernel_rfl⟩,
  ⟨_, Tryz.func220, by kernel_rfl, by kernel_rfl, by kernel_rfl⟩,
  ⟨_, Tryz.func221, by kernel_rfl, by kernel_rfl, by kernel_rfl⟩,
  ⟨_, Tryz.func223, by kernel_rfl, by kernel_rfl, by kernel_rfl⟩,
  ⟨_, Tryz.func224, by kernel_rfl, by kernel_rfl, by kernel_rfl⟩,
  ⟨_, Tryz.func230, by kernel_rfl, by kernel_rfl, by kernel_rfl⟩,
  ⟨_, Tryz.func231, by kernel_rfl, by kernel_rfl, by kernel_rfl⟩,
  ⟨_, Tryz.func233, by kernel_rfl, by kernel_rfl, by kernel_rfl⟩,
  ⟨_, Tryz.func234, by kernel_rfl, by kernel_rfl, by kernel_rfl⟩,
  ⟨_, Tryz.func235, by kernel_rfl, by kernel_rfl, by kernel_rfl⟩,
  ⟨_, Tryz.func236, by kernel_rfl, by kernel_rfl, by kernel_rfl⟩,
  ⟨_, Tryz.func237, by kernel_rfl, by kernel_rfl, by kernel_rfl⟩,
  ⟨_, Tryz.func239, by kernel_rfl, by kernel_rfl, by kernel_rfl⟩,
  ⟨_, Tryz.func243, by kernel_rfl, by kernel_rfl, by kernel_rfl⟩,
  ⟨_, Tryz.func244, by kernel_rfl, by kernel_rfl, by kernel_rfl⟩,
  ⟨_, Tryz.func248, by kernel_rfl, by kernel_rfl, by kernel_rfl⟩,
  ⟨_, Tryz.func249, by kernel_rfl, by kernel_rfl, by kernel_rfl⟩,
  ⟨_, Tryz.func252, by kernel_rfl, by kernel_rfl, by kernel_rfl⟩,
  ⟨_, Tryz.func263, by kernel_rfl, by kernel_rfl, by kernel_rfl⟩,
  ⟨_, Tryz.func274, by kernel_rfl, by kernel_rfl, by kernel_rfl⟩,
  ⟨_, Tryz.func276, by kernel_rfl, by kernel_rfl, by kernel_rfl⟩,
  ⟨_, Tryz.func279, by kernel_rfl, by kernel_rfl, by kernel_rfl⟩,
  ⟨_, Tryz.func289, by kernel_rfl, by kernel_rfl, by kernel_rfl⟩,
  ⟨_, Tryz.func290, by kernel_rfl, by kernel_rfl, by kernel_rfl⟩,
  ⟨_, Tryz.func294, by kernel_rfl, by kernel_rfl, by kernel_rfl⟩,
  ⟨_, Tryz.func295, by kernel_rfl, by kernel_rfl, by kernel_rfl⟩,
  ⟨_, Tryz.func301, by kernel_rfl, by kernel_rfl, by kernel_rfl⟩,
  ⟨_, Tryz.func302, by kernel_rfl, by kernel_rfl, by kernel_rfl⟩,
  ⟨_, Tryz.func310, by kernel_rfl, by kernel_rfl, by kernel_rfl⟩,
  ⟨_, Tryz.func312, by kernel_rfl, by kernel_rfl, by kernel_rfl⟩,
  ⟨_, Tryz.func313, by kernel_rfl, by kernel_rfl, by kernel_rfl⟩, fun _ h => by cases h⟩
def lookA : List (Nat × XFn) → Nat → Option XFn := fun l n => List.rec none (fun p _ ih => match Nat.beq p.1 n with | true => some p.2 | false => ih) l
theorem lookA_mem : ∀ (l : List (Nat × XFn)) (n : Nat) (g : XFn), lookA l n = some g → (n, g) ∈ l
 | [], n, g, h => by cases h
 | p :: l, n, g, h => by
  have h' : (match Nat.beq p.1 n with | true => some p.2 | false => lookA l n) = some g := h
  cases hb : Nat.beq p.1 n with
  | true =>
   rw [hb] at h'
   simp only [Option.some.injEq] at h'
   have := Nat.eq_of_beq_eq_true hb
   subst this; subst h'
   exact List.mem_cons_self
  | false =>
   rw [hb] at h'
   exact List.mem_cons_of_mem _ (lookA_mem l n g h')
theorem CF9 : compF Tryz.prog glob Tryz.f9 = some A9.strip := by kernel_rfl
theorem CO9 : callOk Tryz.prog 9 = true := by kernel_rfl
theorem SF9 (E : List (Nat × Blk)) (D : Den) (hD : ∀ f, SoundFn Tryz.prog E glob f (D f)) (N : Nat) : SoundFn Tryz.prog E glob 9 (F9 E D (drawW E D) N) := by
 have h := runX_ok hD (drawW_ok hD follows) follows N Tryz.func9 (xf := A9) CF9 rfl AO9 CO9
 have he : runX E D (drawW E D) N A9 = F9 E D (drawW E D) N := by funext args σ; exact FE9 E D (drawW E D) N args σ
 rw [he] at h; exact h
theorem CF20 : compF Tryz.prog glob Tryz.f20 = some A20.strip := by kernel_rfl
theorem CO20 : callOk Tryz.prog 20 = true := by kernel_rfl
theorem SF20 (E : List (Nat × Blk)) (D : Den) (hD : ∀ f, SoundFn Tryz.prog E glob f (D f)) (N : Nat) : SoundFn Tryz.prog E glob 20 (F20 E D (drawW E D) N) := by
 have h := runX_ok hD (drawW_ok hD follows) follows N Tryz.func20 (xf := A20) CF20 rfl AO20 CO20
 have he : runX E D (drawW E D) N A20 = F20 E D (drawW E D) N := by funext args σ; exact FE20 E D (drawW E D) N args σ
 rw [he] at h; exact h
theorem CF21 : compF Tryz.prog glob Tryz.f21 = some A21.strip := by kernel_rfl
theorem CO21 : callOk Tryz.prog 21 = true := by kernel_rfl
theorem SF21 (E : List (Nat × Blk)) (D : Den) (hD : ∀ f, SoundFn Tryz.prog E glob f (D f)) (N : Nat) : SoundFn Tryz.prog E glob 21 (F21 E D (drawW E D) N) := by
 have h := runX_ok hD (drawW_ok hD follows) follows N Tryz.func21 (xf := A21) CF21 rfl AO21 CO21
 have he : runX E D (drawW E D) N A21 = F21 E D (drawW E D) N := by funext args σ; exact FE21 E D (drawW E D) N args σ
 rw [he] at h; exact h
theorem CF23 : compF Tryz.prog glob Tryz.f23 = some A23.strip := by kernel_rfl
theorem CO23 : callOk Tryz.prog 23 = true := by kernel_rfl
theorem SF23 (E : List (Nat × Blk)) (D : Den) (hD : ∀ f, SoundFn Tryz.prog E glob f (D f)) (N : Nat) : SoundFn Tryz.prog E glob 23 (F23 E D (drawW E D) N) := by
 have h := runX_ok hD (drawW_ok hD follows) follows N Tryz.func23 (xf := A23) CF23 rfl AO23 CO23
 have he : runX E D (drawW E D) N A23 = F23 E D (drawW E D) N := by funext args σ; exact FE23 E D (drawW E D) N args σ
 rw [he] at h; exact h
theorem CF32 : compF Tryz.prog glob Tryz.f32 = some A32.strip := by kernel_rfl
theorem CO32 : callOk Tryz.prog 32 = true := by kernel_rfl
theorem SF32 (E : List (Nat × Blk)) (D : Den) (hD : ∀ f, SoundFn Tryz.prog E glob f (D f)) (N : Nat) : SoundFn Tryz.prog E glob 32 (F32 E D (drawW E D) N) := by
 have h := runX_ok hD (drawW_ok hD follows) follows N Tryz.func32 (xf := A32) CF32 rfl AO32 CO32
 have he : runX E D (drawW E D) N A32 = F32 E D (drawW E D) N := by funext args σ; exact FE32 E D (drawW E D) N args σ
 rw [he] at h; exact h
theorem CF41 : compF Tryz.prog glob Tryz.f41 = some A41.strip := by kernel_rfl
theorem CO41 : callOk Tryz.prog 41 = true := by kernel_rfl
theorem SF41 (E : List (Nat × Blk)) (D : Den) (hD : ∀ f, SoundFn Tryz.prog E glob f (D f)) (N : Nat) : SoundFn Tryz.prog E glob 41 (F41 E D (drawW E D) N) := by
 have h := runX_ok hD (drawW_ok hD follows) follows N Tryz.func41 (xf := A41) CF41 rfl AO41 CO41
 have he : runX E D (drawW E D) N A41 = F41 E D (drawW E D) N := by funext args σ; exact FE41 E D (drawW E D) N args σ
 rw [he] at h; exact h
theorem CF42 : compF Tryz.prog glob Tryz.f42 = some A42.strip := by kernel_rfl
theorem CO42 : callOk Tryz.prog 42 = true := by kernel_rfl
theorem SF42 (E : List (Nat × Blk)) (D : Den) (hD : ∀ f, SoundFn Tryz.prog E glob f (D f)) (N : Nat) : SoundFn Tryz.prog E glob 42 (F42 E D (drawW E D) N) := by
 have h := runX_ok hD (drawW_ok hD follows) follows N Tryz.func42 (xf := A42) CF42 rfl AO42 CO42
 have he : runX E D (drawW E D) N A42 = F42 E D (drawW E D) N := by funext args σ; exact FE42 E D (drawW E D) N args σ
 rw [he] at h; exact h
theorem CF43 : compF Tryz.prog glob Tryz.f43 = some A43.strip := by kernel_rfl
theorem CO43 : callOk Tryz.prog 43 = true := by kernel_rfl
theorem SF43 (E : List (Nat × Blk)) (D : Den) (hD : ∀ f, SoundFn Tryz.prog E glob f (D f)) (N : Nat) : SoundFn Tryz.prog E glob 43 (F43 E D (drawW E D) N) := by
 have h := runX_ok hD (drawW_ok hD follows) follows N Tryz.func43 (xf := A43) CF43 rfl AO43 CO43
 have he : runX E D (drawW E D) N A43 = F43 E D (drawW E D) N := by funext args σ; exact FE43 E D (drawW E D) N args σ
 rw [he] at h; exact h
theorem CF44 : compF Tryz.prog glob Tryz.f44 = some A44.strip := by kernel_rfl
theorem CO44 : callOk Tryz.prog 44 = true := by kernel_rfl
theorem SF44 (E : List (Nat × Blk)) (D : Den) (hD : ∀ f, SoundFn Tryz.prog E glob f (D f)) (N : Nat) : SoundFn Tryz.prog E glob 44 (F44 E D (drawW E D) N) := by
 have h := runX_ok hD (drawW_ok hD follows) follows N Tryz.func44 (xf := A44) CF44 rfl AO44 CO44
 have he : runX E D (drawW E D) N A44 = F44 E D (drawW E D) N := by funext args σ; exact FE44 E D (drawW E D) N args σ
 rw [he] at h; exact h
theorem CF45 : compF Tryz.prog glob Tryz.f45 = some A45.strip := by kernel_rfl
theorem CO45 : callOk Tryz.prog 45 = true := by kernel_rfl
theorem SF45 (E : List (Nat × Blk)) (D : Den) (hD : ∀ f, SoundFn Tryz.prog E glob f (D f)) (N : Nat) : SoundFn Tryz.prog E glob 45 (F45 E D (drawW E D) N) := by
 have h := runX_ok hD (drawW_ok hD follows) follows N Tryz.func45 (xf := A45) CF45 rfl AO45 CO45
 have he : runX E D (drawW E D) N A45 = F45 E D (drawW E D) N := by funext args σ; exact FE45 E D (drawW E D) N args σ
 rw [he] at h; exact h
theorem CF50 : compF Tryz.prog glob Tryz.f50 = some A50.strip := by kernel_rfl
theorem CO50 : callOk Tryz.prog 50 = true := by kernel_rfl
theorem SF50 (E : List (Nat × Blk)) (D : Den) (hD : ∀ f, SoundFn Tryz.prog E glob f (D f)) (N : Nat) : SoundFn Tryz.prog E glob 50 (F50 E D (drawW E D) N) := by
 have h := runX_ok hD (drawW_ok hD follows) follows N Tryz.func50 (xf := A50) CF50 rfl AO50 CO50
 have he : runX E D (drawW E D) N A50 = F50 E D (drawW E D) N := by funext args σ; exact FE50 E D (drawW E D) N args σ
 rw [he] at h; exact h
theorem CF51 : compF Tryz.prog glob Tryz.f51 = some A51.strip := by kernel_rfl
theorem CO51 : callOk Tryz.prog 51 = true := by kernel_rfl
theorem SF51 (E : List (Nat × Blk)) (D : Den) (hD : ∀ f, SoundFn Tryz.prog E glob f (D f)) (N : Nat) : SoundFn Tryz.prog E glob 51 (F51 E D (drawW E D) N) := by
 have h := runX_ok hD (drawW_ok hD follows) follows N Tryz.func51 (xf := A51) CF51 rfl AO51 CO51
 have he : runX E D (drawW E D) N A51 = F51 E D (drawW E D) N := by funext args σ; exact FE51 E D (drawW E D) N args σ
 rw [he] at h; exact h
theorem CF52 : compF Tryz.prog glob Tryz.f52 = some A52.strip := by kernel_rfl
theorem CO52 : callOk Tryz.prog 52 = true := by kernel_rfl
theorem SF52 (E : List (Nat × Blk)) (D : Den) (hD : ∀ f, SoundFn Tryz.prog E glob f (D f)) (N : Nat) : SoundFn Tryz.prog E glob 52 (F52 E D (drawW E D) N) := by
 have h := runX_ok hD (drawW_ok hD follows) follows N Tryz.func52 (xf := A52) CF52 rfl AO52 CO52
 have he : runX E D (drawW E D) N A52 = F52 E D (drawW E D) N := by funext args σ; exact FE52 E D (drawW E D) N args σ
 rw [he] at h; exact h
theorem CF87 : compF Tryz.prog glob Tryz.f87 = some A87.strip := by kernel_rfl
theorem CO87 : callOk Tryz.prog 87 = true := by kernel_rfl
theorem SF87 (E : List (Nat × Blk)) (D : Den) (hD : ∀ f, SoundFn Tryz.prog E glob f (D f)) (N : Nat) : SoundFn Tryz.prog E glob 87 (F87 E D (drawW E D) N) := by
 have h := runX_ok hD (drawW_ok hD follows) follows N Tryz.func87 (xf := A87) CF87 rfl AO87 CO87
 have he : runX E D (drawW E D) N A87 = F87 E D (drawW E D) N := by funext args σ; exact FE87 E D (drawW E D) N args σ
 rw [he] at h; exact h
theorem CF99 : compF Tryz.prog glob Tryz.f99 = some A99.strip := by kernel_rfl
theorem CO99 : callOk Tryz.prog 99 = true := by kernel_rfl
theorem SF99 (E : List (Nat × Blk)) (D : Den) (hD : ∀ f, SoundFn Tryz.prog E glob f (D f)) (N : Nat) : SoundFn Tryz.prog E glob 99 (F99 E D (drawW E D) N) := by
 have h := runX_ok hD (drawW_ok hD follows) follows N Tryz.func99 (xf := A99) CF99 rfl AO99 CO99
 have he : runX E D (drawW E D) N A99 = F99 E D (drawW E D) N := by funext args σ; exact FE99 E D (drawW E D) N args σ
 rw [he] at h; exact h
theorem CF100 : compF Tryz.prog glob Tryz.f100 = some A100.strip := by kernel_rfl
theorem CO100 : callOk Tryz.prog 100 = true := by kernel_rfl
theorem SF100 (E : List (Nat × Blk)) (D : Den) (hD : ∀ f, SoundFn Tryz.prog E glob f (D f)) (N : Nat) : SoundFn Tryz.prog E glob 100 (F100 E D (drawW E D) N) := by
 have h := runX_ok hD (drawW_ok hD follows) follows N Tryz.func100 (xf := A100) CF100 rfl AO100 CO100
 have he : runX E D (drawW E D) N A100 = F100 E D (drawW E D) N := by funext args σ; exact FE100 E D (drawW E D) N args σ
 rw [he] at h; exact h
theorem CF101 : compF Tryz.prog glob Tryz.f101 = some A101.strip := by kernel_rfl
theorem CO101 : callOk Tryz.prog 101 = true := by kernel_rfl
theorem SF101 (E : List (Nat × Blk)) (D : Den) (hD : ∀ f, SoundFn Tryz.prog E glob f (D f)) (N : Nat) : SoundFn Tryz.prog E glob 101 (F101 E D (drawW E D) N) := by
 have h := runX_ok hD (drawW_ok hD follows) follows N Tryz.func101 (xf := A101) CF101 rfl AO101 CO101
 have he : runX E D (drawW E D) N A101 = F101 E D (drawW E D) N := by funext args σ; exact FE101 E D (drawW E D) N args σ
 rw [he] at h; exact h
theorem CF102 : compF Tryz.prog glob Tryz.f102 = some A102.strip := by kernel_rfl
theorem CO102 : callOk Tryz.prog 102 = true := by kernel_rfl
theorem SF102 (E : List (Nat × Blk)) (D : Den) (hD : ∀ f, SoundFn Tryz.prog E glob f (D f)) (N : Nat) : SoundFn Tryz.prog E glob 102 (F102 E D (drawW E D) N) := by
 have h := runX_ok hD (drawW_ok hD follows) follows N Tryz.func102 (xf := A102) CF102 rfl AO102 CO102
 have he : runX E D (drawW E D) N A102 = F102 E D (drawW E D) N := by funext args σ; exact FE102 E D (drawW E D) N args σ
 rw [he] at h; exact h
theorem CF103 : compF Tryz.prog glob Tryz.f103 = some A103.strip := by kernel_rfl
theorem CO103 : callOk Tryz.prog 103 = true := by kernel_rfl
theorem SF103 (E : List (Nat × Blk)) (D : Den) (hD : ∀ f, SoundFn Tryz.prog E glob f (D f)) (N : Nat) : SoundFn Tryz.prog E glob 103 (F103 E D (drawW E D) N) := by
 have h := runX_ok hD (drawW_ok hD follows) follows N Tryz.func103 (xf := A103) CF103 rfl AO103 CO103
 have he : runX E D (drawW E D) N A103 = F103 E D (drawW E D) N := by funext args σ; exact FE103 E D (drawW E D) N args σ
 rw [he] at h; exact h
theorem CF106 : compF Tryz.prog glob Tryz.f106 = some A106.strip := by kernel_rfl
theorem CO106 : callOk Tryz.prog 106 = true := by kernel_rfl
theorem SF106 (E : List (Nat × Blk)) (D : Den) (hD : ∀ f, SoundFn Tryz.prog E glob f (D f)) (N : Nat) : SoundFn Tryz.prog E glob 106 (F106 E D (drawW E D) N) := by
 have h := runX_ok hD (drawW_ok hD follows) follows N Tryz.func106 (xf := A106) CF106 rfl AO106 CO106
 have he : runX E D (drawW E D) N A106 = F106 E D (drawW E D) N := by funext args σ; exact FE106 E D (drawW E D) N args σ
 rw [he] at h; exact h
theorem CF109 : compF Tryz.prog glob Tryz.f109 = some A109.strip := by kernel_rfl
theorem CO109 : callOk Tryz.prog 109 = true := by kernel_rfl
theorem SF109 (E : List (Nat × Blk)) (D : Den) (hD : ∀ f, SoundFn Tryz.prog E glob f (D f)) (N : Nat) : SoundFn Tryz.prog E glob 109 (F109 E D (drawW E D) N) := by
 have h := runX_ok hD (drawW_ok hD follows) follows N Tryz.func109 (xf := A109) CF109 rfl AO109 CO109
 have he : runX E D (drawW E D) N A109 = F109 E D (drawW E D) N := by funext args σ; exact FE109 E D (drawW E D) N args σ
 rw [he] at h; exact h
theorem CF113 : compF Tryz.prog glob Tryz.f113 = some A113.strip := by kernel_rfl
theorem CO113 : callOk Tryz.prog 113 = true := by kernel_rfl
theorem SF113 (E : List (Nat × Blk)) (D : Den) (hD : ∀ f, SoundFn Tryz.prog E glob f (D f)) (N : Nat) : SoundFn Tryz.prog E glob 113 (F113 E D (drawW E D) N) := by
 have h := runX_ok hD (drawW_ok hD follows) follows N Tryz.func113 (xf := A113) CF113 rfl AO113 CO113
 have he : runX E D (drawW E D) N A113 = F113 E D (drawW E D) N := by funext args σ; exact FE113 E D (drawW E D) N args σ
 rw [he] at h; exact h
theorem CF114 : compF Tryz.prog glob Tryz.f114 = some A114.strip := by kernel_rfl
theorem CO114 : callOk Tryz.prog 114 = true := by kernel_rfl
theorem SF114 (E : List (Nat × Blk)) (D : Den) (hD : ∀ f, SoundFn Tryz.prog E glob f (D f)) (N : Nat) : SoundFn Tryz.prog E glob 114 (F114 E D (drawW E D) N) := by
 have h := runX_ok hD (drawW_ok hD follows) follows N Tryz.func114 (xf := A114) CF114 rfl AO114 CO114
 have he : runX E D (drawW E D) N A114 = F114 E D (drawW E D) N := by funext args σ; exact FE114 E D (drawW E D) N args σ
 rw [he] at h; exact h
theorem CF115 : compF Tryz.prog glob Tryz.f115 = some A115.strip := by kernel_rfl
theorem CO115 : callOk Tryz.prog 115 = true := by kernel_rfl
theorem SF115 (E : List (Nat × Blk)) (D : Den) (hD : ∀ f, SoundFn Tryz.prog E glob f (D f)) (N : Nat) : SoundFn Tryz.prog E glob 115 (F115 E D (drawW E D) N) := by
 have h := runX_ok hD (drawW_ok hD follows) follows N Tryz.func115 (xf := A115) CF115 rfl AO115 CO115
 have he : runX E D (drawW E D) N A115 = F115 E D (drawW E D) N := by funext args σ; exact FE115 E D (drawW E D) N args σ
 rw [he] at h; exact h
theorem CF116 : compF Tryz.prog glob Tryz.f116 = some A116.strip := by kernel_rfl
theorem CO116 : callOk Tryz.prog 116 = true := by kernel_rfl
theorem SF116 (E : List (Nat × Blk)) (D : Den) (hD : ∀ f, SoundFn Tryz.prog E glob f (D f)) (N : Nat) : SoundFn Tryz.prog E glob 116 (F116 E D (drawW E D) N) := by
 have h := runX_ok hD (drawW_ok hD follows) follows N Tryz.func116 (xf := A116) CF116 rfl AO116 CO116
 have he : runX E D (drawW E D) N A116 = F116 E D (drawW E D) N := by funext args σ; exact FE116 E D (drawW E D) N args σ
 rw [he] at h; exact h
theorem CF163 : compF Tryz.prog glob Tryz.f163 = some A163.strip := by kernel_rfl
theorem CO163 : callOk Tryz.prog 163 = true := by kernel_rfl
theorem SF163 (E : List (Nat × Blk)) (D : Den) (hD : ∀ f, SoundFn Tryz.prog E glob f (D f)) (N : Nat) : SoundFn Tryz.prog E glob 163 (F163 E D (drawW E D) N) := by
 have h := runX_ok hD (drawW_ok hD follows) follows N Tryz.func163 (xf := A163) CF163 rfl AO163 CO163
 have he : runX E D (drawW E D) N A163 = F163 E D (drawW E D) N := by funext args σ; exact FE163 E D (drawW E D) N args σ
 rw [he] at h; exact h
theorem CF181 : compF Tryz.prog glob Tryz.f181 = some A181.strip := by kernel_rfl
theorem CO181 : callOk Tryz.prog 181 = true := by kernel_rfl
theorem SF181 (E : List (Nat × Blk)) (D : Den) (hD : ∀ f, SoundFn Tryz.prog E glob f (D f)) (N : Nat) : SoundFn Tryz.prog E glob 181 (F181 E D (drawW E D) N) := by
 have h := runX_ok hD (drawW_ok hD follows) follows N Tryz.func181 (xf := A181) CF181 rfl AO181 CO181
 have he : runX E D (drawW E D) N A181 = F181 E D (drawW E D) N := by funext args σ; exact FE181 E D (drawW E D) N args σ
 rw [he] at h; exact h
theorem CF182 : compF Tryz.prog glob Tryz.f182 = some A182.strip := by kernel_rfl
theorem CO182 : callOk Tryz.prog 182 = true := by kernel_rfl
theorem SF182 (E : List (Nat × Blk)) (D : Den) (hD : ∀ f, SoundFn Tryz.prog E glob f (D f)) (N : Nat) : SoundFn Tryz.prog E glob 182 (F182 E D (drawW E D) N) := by
 have h := runX_ok hD (drawW_ok hD follows) follows N Tryz.func182 (xf := A182) CF182 rfl AO182 CO182
 have he : runX E D (drawW E D) N A182 = F182 E D (drawW E D) N := by funext args σ; exact FE182 E D (drawW E D) N args σ
 rw [he] at h; exact h
theorem CF183 : compF Tryz.prog glob Tryz.f183 = some A183.strip := by kernel_rfl
theorem CO183 : callOk Tryz.prog 183 = true := by kernel_rfl
theorem SF183 (E : List (Nat × Blk)) (D : Den) (hD : ∀ f, SoundFn Tryz.prog E glob f (D f)) (N : Nat) : SoundFn Tryz.prog E glob 183 (F183 E D (drawW E D) N) := by
 have h := runX_ok hD (drawW_ok hD follows) follows N Tryz.func183 (xf := A183) CF183 rfl AO183 CO183
 have he : runX E D (drawW E D) N A183 = F183 E D (drawW E D) N := by funext args σ; exact FE183 E D (drawW E D) N args σ
 rw [he] at h; exact h
theorem CF184 : compF Tryz.prog glob Tryz.f184 = some A184.strip := by kernel_rfl
theorem CO184 : callOk Tryz.prog 184 = true := by kernel_rfl
theorem SF184 (E : List (Nat × Blk)) (D : Den) (hD : ∀ f, SoundFn Tryz.prog E glob f (D f)) (N : Nat) : SoundFn Tryz.prog E glob 184 (F184 E D (drawW E D) N) := by
 have h := runX_ok hD (drawW_ok hD follows) follows N Tryz.func184 (xf := A184) CF184 rfl AO184 CO184
 have he : runX E D (drawW E D) N A184 = F184 E D (drawW E D) N := by funext args σ; exact FE184 E D (drawW E D) N args σ
 rw [he] at h; exact h
theorem CF189 : compF Tryz.prog glob Tryz.f189 = some A189.strip := by kernel_rfl
theorem CO189 : callOk Tryz.prog 189 = true := by kernel_rfl
theorem SF189 (E : List (Nat × Blk)) (D : Den) (hD : ∀ f, SoundFn Tryz.prog E glob f (D f)) (N : Nat) : SoundFn Tryz.prog E glob 189 (F189 E D (drawW E D) N) := by
 have h := runX_ok hD (drawW_ok hD follows) follows N Tryz.func189 (xf := A189) CF189 rfl AO189 CO189
 have he : runX E D (drawW E D) N A189 = F189 E D (drawW E D) N := by funext args σ; exact FE189 E D (drawW E D) N args σ
 rw [he] at h; exact h
theorem CF190 : compF Tryz.prog glob Tryz.f190 = some A190.strip := by kernel_rfl
theorem CO190 : callOk Tryz.prog 190 = true := by kernel_rfl
theorem SF190 (E : List (Nat × Blk)) (D : Den) (hD : ∀ f, SoundFn Tryz.prog E glob f (D f)) (N : Nat) : SoundFn Tryz.prog E glob 190 (F190 E D (drawW E D) N) := by
 have h := runX_ok hD (drawW_ok hD follows) follows N Tryz.func190 (xf := A190) CF190 rfl AO190 CO190
 have he : runX E D (drawW E D) N A190 = F190 E D (drawW E D) N := by funext args σ; exact FE190 E D (drawW E D) N args σ
 rw [he] at h; exact h
theorem CF191 : compF Tryz.prog glob Tryz.f191 = some A191.strip := by kernel_rfl
theorem CO191 : callOk Tryz.prog 191 = true := by kernel_rfl
theorem SF191 (E : List (Nat × Blk)) (D : Den) (hD : ∀ f, SoundFn Tryz.prog E glob f (D f)) (N : Nat) : SoundFn Tryz.prog E glob 191 (F191 E D (drawW E D) N) := by
 have h := runX_ok hD (drawW_ok hD follows) follows N Tryz.func191 (xf := A191) CF191 rfl AO191 CO191
 have he : runX E D (drawW E D) N A191 = F191 E D (drawW E D) N := by funext args σ; exact FE191 E D (drawW E D) N args σ
 rw [he] at h; exact h
theorem CF197 : compF Tryz.prog glob Tryz.f197 = some A197.strip := by kernel_rfl
theorem CO197 : callOk Tryz.prog 197 = true := by kernel_rfl
theorem SF197 (E : List (Nat × Blk)) (D : Den) (hD : ∀ f, SoundFn Tryz.prog E glob f (D f)) (N : Nat) : SoundFn Tryz.prog E glob 197 (F197 E D (drawW E D) N) := by
 have h := runX_ok hD (drawW_ok hD follows) follows N Tryz.func197 (xf := A197) CF197 rfl AO197 CO197
 have he : runX E D (drawW E D) N A197 = F197 E D (drawW E D) N := by funext args σ; exact FE197 E D (drawW E D) N args σ
 rw [he] at h; exact h
theorem CF199 : compF Tryz.prog glob Tryz.f199 = some A199.strip := by kernel_rfl
theorem CO199 : callOk Tryz.prog 199 = true := by kernel_rfl
theorem SF199 (E : List (Nat × Blk)) (D : Den) (hD : ∀ f, SoundFn Tryz.prog E glob f (D f)) (N : Nat) : SoundFn Tryz.prog E glob 199 (F199 E D (drawW E D) N) := by
 have h := runX_ok hD (drawW_ok hD follows) follows N Tryz.func199 (xf := A199) CF199 rfl AO199 CO199
 have he : runX E D (drawW E D) N A199 = F199 E D (drawW E D) N := by funext args σ; exact FE199 E D (drawW E D) N args σ
 rw [he] at h; exact h
theorem CF200 : compF Tryz.prog glob Tryz.f200 = some A200.strip := by kernel_rfl
theorem CO200 : callOk Tryz.prog 200 = true := by kernel_rfl
theorem SF200 (E : List (Nat × Blk)) (D : Den) (hD : ∀ f, SoundFn Tryz.prog E glob f (D f)) (N : Nat) : SoundFn Tryz.prog E glob 200 (F200 E D (drawW E D) N) := by
 have h := runX_ok hD (drawW_ok hD follows) follows N Tryz.func200 (xf := A200) CF200 rfl AO200 CO200
 have he : runX E D (drawW E D) N A200 = F200 E D (drawW E D) N := by funext args σ; exact FE200 E D (drawW E D) N args σ
 rw [he] at h; exact h
theorem CF201 : compF Tryz.prog glob Tryz.f201 = some A201.strip := by kernel_rfl
theorem CO201 : callOk Tryz.prog 201 = true := by kernel_rfl
theorem SF201 (E : List (Nat × Blk)) (D : Den) (hD : ∀ f, SoundFn Tryz.prog E glob f (D f)) (N : Nat) : SoundFn Tryz.prog E glob 201 (F201 E D (drawW E D) N) := by
 have h := runX_ok hD (drawW_ok hD follows) follows N Tryz.func201 (xf := A201) CF201 rfl AO201 CO201
 have he : runX E D (drawW E D) N A201 = F201 E D (drawW E D) N := by funext args σ; exact FE201 E D (drawW E D) N args σ
 rw [he] at h; exact h
theorem CF202 : compF Tryz.prog glob Tryz.f202 = some A202.strip := by kernel_rfl
theorem CO202 : callOk Tryz.prog 202 = true := by kernel_rfl
theorem SF202 (E : List (Nat × Blk)) (D : Den) (hD : ∀ f, SoundFn Tryz.prog E glob f (D f)) (N : Nat) : SoundFn Tryz.prog E glob 202 (F202 E D (drawW E D) N) := by
 have h := runX_ok hD (drawW_ok hD follows) follows N Tryz.func202 (xf := A202) CF202 rfl AO202 CO202
 have he : runX E D (drawW E D) N A202 = F202 E D (drawW E D) N := by funext args σ; exact FE202 E D (drawW E D) N args σ
 rw [he] at h; exact h
theorem CF203 : compF Tryz.prog glob Tryz.f203 = some A203.strip := by kernel_rfl
theorem CO203 : callOk Tryz.prog 203 = true := by kernel_rfl
theorem SF203 (E : List (Nat × Blk)) (D : Den) (hD : ∀ f, SoundFn Tryz.prog E glob f (D f)) (N : Nat) : SoundFn Tryz.prog E glob 203 (F203 E D (drawW E D) N) := by
 have h := runX_ok hD (drawW_ok hD follows) follows N Tryz.func203 (xf := A203) CF203 rfl AO203 CO203
 have he : runX E D (drawW E D) N A203 = F203 E D (drawW E D) N := by funext args σ; exact FE203 E D (drawW E D) N args σ
 rw [he] at h; exact h
theorem CF204 : compF Tryz.prog glob Tryz.f204 = some A204.strip := by kernel_rfl
theorem CO204 : callOk Tryz.prog 204 = true := by kernel_rfl
theorem SF204 (E : List (Nat × Blk)) (D : Den) (hD : ∀ f, SoundFn Tryz.prog E glob f (D f)) (N : Nat) : SoundFn Tryz.prog E glob 204 (F204 E D (drawW E D) N) := by
 have h := runX_ok hD (drawW_ok hD follows) follows N Tryz.func204 (xf := A204) CF204 rfl AO204 CO204
 have he : runX E D (drawW E D) N A204 = F204 E D (drawW E D) N := by funext args σ; exact FE204 E D (drawW E D) N args σ
 rw [he] at h; exact h
theorem CF260 : compF Tryz.prog glob Tryz.f260 = some A260.strip := by kernel_rfl
theorem CO260 : callOk Tryz.prog 260 = true := by kernel_rfl
theorem SF260 (E : List (Nat × Blk)) (D : Den) (hD : ∀ f, SoundFn Tryz.prog E glob f (D f)) (N : Nat) : SoundFn Tryz.prog E glob 260 (F260 E D (drawW E D) N) := by
 have h := runX_ok hD (drawW_ok hD follows) follows N Tryz.func260 (xf := A260) CF260 rfl AO260 CO260
 have he : runX E D (drawW E D) N A260 = F260 E D (drawW E D) N := by funext args σ; exact FE260 E D (drawW E D) N args σ
 rw [he] at h; exact h
theorem CF261 : compF Tryz.prog glob Tryz.f261 = some A261.strip := by kernel_rfl
theorem CO261 : callOk Tryz.prog 261 = true := by kernel_rfl
theorem SF261 (E : List (Nat × Blk)) (D : Den) (hD : ∀ f, SoundFn Tryz.prog E glob f (D f)) (N : Nat) : SoundFn Tryz.prog E glob 261 (F261 E D (drawW E D) N) := by
 have h := runX_ok hD (drawW_ok hD follows) follows N Tryz.func261 (xf := A261) CF261 rfl AO261 CO261
 have he : runX E D (drawW E D) N A261 = F261 E D (drawW E D) N := by funext args σ; exact FE261 E D (drawW E D) N args σ
 rw [he] at h; exact h
theorem CF262 : compF Tryz.prog glob Tryz.f262 = some A262.strip := by kernel_rfl
theorem CO262 : callOk Tryz.prog 262 = true := by kernel_rfl
theorem SF262 (E : List (Nat × Blk)) (D : Den) (hD : ∀ f, SoundFn Tryz.prog E glob f (D f)) (N : Nat) : SoundFn Tryz.prog E glob 262 (F262 E D (drawW E D) N) := by
 have h := runX_ok hD (drawW_ok hD follows) follows N Tryz.func262 (xf := A262) CF262 rfl AO262 CO262
 have he : runX E D (drawW E D) N A262 = F262 E D (drawW E D) N := by funext args σ; exact FE262 E D (drawW E D) N args σ
 rw [he] at h; exact h
theorem CF268 : compF Tryz.prog glob Tryz.f268 = some A268.strip := by kernel_rfl
theorem CO268 : callOk Tryz.prog 268 = true := by kernel_rfl
theorem SF268 (E : List (Nat × Blk)) (D : Den) (hD : ∀ f, SoundFn Tryz.prog E glob f (D f)) (N : Nat) : SoundFn Tryz.prog E glob 268 (F268 E D (drawW E D) N) := by
 have h := runX_ok hD (drawW_ok hD follows) follows N Tryz.func268 (xf := A268) CF268 rfl AO268 CO268
 have he : runX E D (drawW E D) N A268 = F268 E D (drawW E D) N := by funext args σ; exact FE268 E D (drawW E D) N args σ
 rw [he] at h; exact h
theorem CF270 : compF Tryz.prog glob Tryz.f270 = some A270.strip := by kernel_rfl
theorem CO270 : callOk Tryz.prog 270 = true := by kernel_rfl
theorem SF270 (E : List (Nat × Blk)) (D : Den) (hD : ∀ f, SoundFn Tryz.prog E glob f (D f)) (N : Nat) : SoundFn Tryz.prog E glob 270 (F270 E D (drawW E D) N) := by
 have h := runX_ok hD (drawW_ok hD follows) follows N Tryz.func270 (xf := A270) CF270 rfl AO270 CO270
 have he : runX E D (drawW E D) N A270 = F270 E D (drawW E D) N := by funext args σ; exact FE270 E D (drawW E D) N args σ
 rw [he] at h; exact h
theorem CF272 : compF Tryz.prog glob Tryz.f272 = some A272.strip := by kernel_rfl
theorem CO272 : callOk Tryz.prog 272 = true := by kernel_rfl
theorem SF272 (E : List (Nat × Blk)) (D : Den) (hD : ∀ f, SoundFn Tryz.prog E glob f (D f)) (N : Nat) : SoundFn Tryz.prog E glob 272 (F272 E D (drawW E D) N) := by
 have h := runX_ok hD (drawW_ok hD follows) follows N Tryz.func272 (xf := A272) CF272 rfl AO272 CO272
 have he : runX E D (drawW E D) N A272 = F272 E D (drawW E D) N := by funext args σ; exact FE272 E D (drawW E D) N args σ
 rw [he] at h; exact h
theorem CF273 : compF Tryz.prog glob Tryz.f273 = some A273.strip := by kernel_rfl
theorem CO273 : callOk Tryz.prog 273 = true := by kernel_rfl
theorem SF273 (E : List (Nat × Blk)) (D : Den) (hD : ∀ f, SoundFn Tryz.prog E glob f (D f)) (N : Nat) : SoundFn Tryz.prog E glob 273 (F273 E D (drawW E D) N) := by
 have h := runX_ok hD (drawW_ok hD follows) follows N Tryz.func273 (xf := A273) CF273 rfl AO273 CO273
 have he : runX E D (drawW E D) N A273 = F273 E D (drawW E D) N := by funext args σ; exact FE273 E D (drawW E D) N args σ
 rw [he] at h; exact h
theorem CF297 : compF Tryz.prog glob Tryz.f297 = some A297.strip := by kernel_rfl
theorem CO297 : callOk Tryz.prog 297 = true := by kernel_rfl
theorem SF297 (E : List (Nat × Blk)) (D : Den) (hD : ∀ f, SoundFn Tryz.prog E glob f (D f)) (N : Nat) : SoundFn Tryz.prog E glob 297 (F297 E D (drawW E D) N) := by
 have h := runX_ok hD (drawW_ok hD follows) follows N Tryz.func297 (xf := A297) CF297 rfl AO297 CO297
 have he : runX E D (drawW E D) N A297 = F297 E D (drawW E D) N := by funext args σ; exact FE297 E D (drawW E D) N args σ
 rw [he] at h; exact h
def ftab (E : List (Nat × Blk)) (N : Nat) (D : Den) : List (Nat × (List V → H → Ans)) := [(9, F9 E D (drawW E D) N), (20, F20 E D (drawW E D) N), (21, F21 E D (drawW E D) N), (23, F23 E D (drawW E D) N), (32, F32 E D (drawW E D) N), (41, F41 E D (drawW E D) N), (42, F42 E D (drawW E D) N), (43, F43 E D (drawW E D) N), (44, F44 E D (drawW E D) N), (45, F45 E D (drawW E D) N), (50, F50 E D (drawW E D) N), (51, F51 E D (drawW E D) N), (52, F52 E D (drawW E D) N), (87, F87 E D (drawW E D) N), (99, F99 E D (drawW E D) N), (100, F100 E D (drawW E D) N), (101, F101 E D (drawW E D) N), (102, F102 E D (drawW E D) N), (103, F103 E D (drawW E D) N), (106, F106 E D (drawW E D) N), (109, F109 E D (drawW E D) N), (113, F113 E D (drawW E D) N), (114, F114 E D (drawW E D) N), (115, F115 E D (drawW E D) N), (116, F116 E D (drawW E D) N), (163, F163 E D (drawW E D) N), (181, F181 E D (drawW E D) N), (182, F182 E D (drawW E D) N), (183, F183 E D (drawW E D) N), (184, F184 E D (drawW E D) N), (189, F189 E D (drawW E D) N), (190, F190 E D (drawW E D) N), (191, F191 E D (drawW E D) N), (197, F197 E D (drawW E D) N), (199, F199 E D (drawW E D) N), (200, F200 E D (drawW E D) N), (201, F201 E D (drawW E D) N), (202, F202 E D (drawW E D) N), (203, F203 E D (drawW E D) N), (204, F204 E D (drawW E D) N), (260, F260 E D (drawW E D) N), (261, F261 E D (drawW E D) N), (262, F262 E D (drawW E D) N), (268, F268 E D (drawW E D) N), (270, F270 E D (drawW E D) N), (272, F272 E D (drawW E D) N), (273, F273 E D (drawW E D) N), (297, F297 E D (drawW E D) N)]
def BD (E : List (Nat × Blk)) (N : Nat) (D : Den) : Den := fun f => match lookF (ftab E N D) f with
 | some g => g
 | none => match lookA tab f with
  | some g => runX E D (drawW E D) N g
  | none => fun _ _ => none
theorem BD_ok (E : List (Nat × Blk)) (N : Nat) (D : Den) (hD : ∀ f, SoundFn Tryz.prog E glob f (D f)) (f : FuncId) : SoundFn Tryz.prog E glob f (BD E N D f) := by
 have hall : ∀ p ∈ ftab E N D, SoundFn Tryz.prog E glob p.1 p.2 := by
  unfold ftab
  simp only [List.forall_mem_cons]
  exact ⟨SF9 E _ hD N, SF20 E _ hD N, SF21 E _ hD N, SF23 E _ hD N, SF32 E _ hD N, SF41 E _ hD N, SF42 E _ hD N, SF43 E _ hD N, SF44 E _ hD N, SF45 E _ hD N, SF50 E _ hD N, SF51 E _ hD N, SF52 E _ hD N, SF87 E _ hD N, SF99 E _ hD N, SF100 E _ hD N, SF101 E _ hD N, SF102 E _ hD N, SF103 E _ hD N, SF106 E _ hD N, SF109 E _ hD N, SF113 E _ hD N, SF114 E _ hD N, SF115 E _ hD N, SF116 E _ hD N, SF163 E _ hD N, SF181 E _ hD N, SF182 E _ hD N, SF183 E _ hD N, SF184 E _ hD N, SF189 E _ hD N, SF190 E _ hD N, SF191 E _ hD N, SF197 E _ hD N, SF199 E _ hD N, SF200 E _ hD N, SF201 E _ hD N, SF202 E _ hD N, SF203 E _ hD N, SF204 E _ hD N, SF260 E _ hD N, SF261 E _ hD N, SF262 E _ hD N, SF268 E _ hD N, SF270 E _ hD N, SF272 E _ hD N, SF273 E _ hD N, SF297 E _ hD N, fun _ h => by cases h⟩
 unfold BD
 split
 ·rename_i g hg
  rw [lookF_eq] at hg
  exact hall _ (look_mem hg)
 ·split
  ·rename_i g hg
   exact (tab_is _ (lookA_mem _ _ _ hg)).sound E _ hD N
  ·intro C _ _ R σ w args xs v σ' h; cases h
def DT (E : List (Nat × Blk)) (N : Nat) (d : Nat) : Den := Nat.rec (fun _ _ _ => none) (fun _ ih => BD E N ih) d
theorem DT_ok (E : List (Nat × Blk)) (N : Nat) : ∀ (d : Nat) (f : FuncId), SoundFn Tryz.prog E glob f (DT E N d f) := by
 intro d
 induction d with
 | zero => intro f C _ _ R σ w args xs v σ' h; cases h
 | succ d ih => exact BD_ok E N _ ih
theorem globLt : ∀ g, glob g = true → g < 2 := fun g hg => by simpa [glob] using hg
end
end Go.Proofs.YtgjjnbddbbhloaaGreatDoor
set_option linter.all false
namespace Go.Og
noncomputable section
theorem ble_of {a b : Nat} (h : a ≤ b) : Nat.ble a b = true := by rw [Nat.ble_eq]; exact h
def Atc (σ : H) (b : Nat) (l : List V) : Prop := lookF σ.bl b = some (.cells l)
def Tidy (σ : H) : Prop := ∀ b, σ.next ≤ b → lookF σ.bl b = none
structure Fr (S : Nat → Prop) (σ σ' : H) : Prop where
 tidy : Tidy σ'
 le : σ.next ≤ σ'.next
 same : ∀ b, b < σ.next → ¬ S b → lookF σ'.bl b = lookF σ.bl b
def Nowhere : Nat → Prop := fun _ => False
def Names (v : V) (b : Nat) : Prop := match v with
 | .sl b' _ _ _ => b = b'
 | _ => False
section
variable {E : List (Nat × Blk)} {σ σ' σ'' : H} {b b' : Nat} {l m : List V} {S T : Nat → Prop}
theorem Atc.lt (h : Atc σ b l) (ht : Tidy σ) : b < σ.next := by
 rcases Nat.lt_or_ge b σ.next with hl | hl
 ·exact hl
 ·have := ht b hl; rw [show lookF σ.bl b = some (.cells l) from h] at this; cases this
theorem Fr.refl (ht : Tidy σ) : Fr S σ σ := ⟨ht, Nat.le_refl _, fun _ _ _ => rfl⟩
theorem Fr.mono (h : Fr S σ σ') (hs : ∀ b, b < σ.next → S b → T b) : Fr T σ σ' := ⟨h.tidy, h.le, fun b hb hn => h.same b hb fun hS => hn (hs b hb hS)⟩
theorem Fr.trans (h : Fr S σ σ') (k : Fr T σ' σ'') (hT : ∀ b, b < σ.next → T b → S b) : Fr S σ σ'' :=
 ⟨k.tidy, Nat.le_trans h.le k.le, fun b hb hn => (k.same b (Nat.lt_of_lt_of_le hb h.le) fun hT' => hn (hT b hb hT')).trans (h.same b hb hn)⟩
theorem Fr.at_ (h : Fr S σ σ') (ha : Atc σ b l) (ht : Tidy σ) (hn : ¬ S b) : Atc σ' b l := (h.same b (ha.lt ht) hn).trans ha
theorem lookF_setF (c : Blk) (k : Nat) : lookF (setF σ b c).bl k = if b = k then some c else lookF σ.bl k := by
 rw [lookF_eq, lookF_eq]; exact look_setF σ b c k
theorem Atc_setF (m : List V) : Atc (setF σ b (.cells m)) b m := by
 show lookF _ _ = _
 rw [lookF_setF, if_pos rfl]
theorem Fr.set (ht : Tidy σ) (hb : b < σ.next) (c : Blk) : Fr (fun k => k = b) σ (setF σ b c) := by
 refine ⟨fun k hk => ?_, Nat.le_refl _, fun k hk hn => ?_⟩
 ·have hk' : σ.next ≤ k := hk
  rw [lookF_setF, if_neg (by omega)]; exact ht k hk'
 ·rw [lookF_setF, if_neg (fun h => hn h.symm)]
theorem Atc_newB (l : List V) : Atc (newB σ (.cells l)) σ.next l := by
 show lookF ((σ.next, Blk.cells l) :: σ.bl) _ = _
 rw [lookF_cons, if_pos rfl]
theorem Fr.new (ht : Tidy σ) (c : Blk) : Fr S σ (newB σ c) := by
 refine ⟨fun k hk => ?_, Nat.le_succ _, fun k hk hn => ?_⟩
 ·have hk' : σ.next + 1 ≤ k := hk
  show lookF ((σ.next, c) :: σ.bl) _ = _
  rw [lookF_cons, if_neg (by omega)]; exact ht k (by omega)
 ·show lookF ((σ.next, c) :: σ.bl) _ = _
  rw [lookF_cons, if_neg (by omega)]
theorem rdK_at {κ : List V → Ans} (h : Atc σ b l) : rdK E σ b κ = κ l := by unfold rdK; rw [show lookF σ.bl b = some (.cells l) from h]
theorem nthK_of {κ : V → Ans} {o : Nat} {v : V} (h : nthF l o = some v) : nthK l o κ = κ v := by unfold nthK; rw [h]
theorem ldK_at {κ : V → Ans} {o : Nat} {v : V} (h : Atc σ b l) (hv : nthF l o = some v) : ldK E σ b o κ = κ v := (rdK_at h).trans (nthK_of hv)
theorem ldK_get {κ : V → Ans} {o : Nat} {v : V} (h : Atc σ b l) (hv : l[o]? = some v) : ldK E σ b o κ = κ v := ldK_at h (by rw [nthF_eq]; exact hv)
theorem subK_of {κ : List V → Ans} {o n : Nat} (h : o + n ≤ l.length) : subK l o n κ = κ ((l.drop o).take n) := by
 unfold subK; rw [show Nat.ble (Nat.add o n) l.length = true from ble_of h]
theorem chk_true {c : Bool} {a : Ans} (h : c = true) : chk c a = a := by rw [h]; rfl
theorem stK_at {κ : H → Ans} {n o : Nat} {v : V} (h : Atc σ b l) (hc : (Nat.beq v.cells.length n && Nat.ble (Nat.add o n) l.length && allOne v.cells) = true) : stK n b o v σ κ = κ (setF σ b (.cells (spl l o v.cells))) := by
 unfold stK; rw [show lookF σ.bl b = some (.cells l) from h]; exact chk_true hc
theorem ltF_nat (m n : Nat) : ltF (Int.ofNat m) (Int.ofNat n) = decide (m < n) := by
 rw [ltF_eq]; simp
theorem leF_nat (m n : Nat) : leF (Int.ofNat m) (Int.ofNat n) = decide (m ≤ n) := by
 rw [leF_eq]; simp
theorem eqF_nat (m n : Nat) : eqF (Int.ofNat m) (Int.ofNat n) = decide (m = n) := by
 rw [eqF_eq]; rw [Bool.eq_iff_iff]; simp only [beq_iff_eq, decide_eq_true_eq]; exact ⟨fun h => Int.ofNat.inj h, fun h => by rw [h]⟩
theorem wrapF_nat {k : IntKind} {m : Nat} (h : m ≤ maxN k) : wrapF k (Int.ofNat m) = Int.ofNat m :=
 (wrapF_eq _ _).trans (wrap_in (show Nat.ble m (maxN k) = true from ble_of h))
theorem addF_nat {m n : Nat} (h : m + n ≤ 9223372036854775807) : addF .i64 (Int.ofNat m) (Int.ofNat n) = Int.ofNat (m + n) := by
 exact wrapF_nat (k := .i64) (m := m + n) h
theorem subF_nat {m n : Nat} (h : n ≤ m) (hm : m ≤ 9223372036854775807) : subF .i64 (Int.ofNat m) (Int.ofNat n) = Int.ofNat (m - n) := by
 have e : Int.sub (Int.ofNat m) (Int.ofNat n) = Int.ofNat (m - n) := by
  show (m : Int) - (n : Int) = ((m - n : Nat) : Int)
  omega
 show wrapF .i64 (Int.sub (Int.ofNat m) (Int.ofNat n)) = _
 rw [e]
 exact wrapF_nat (k := .i64) (show m - n ≤ 9223372036854775807 by omega)
def Sl (σ : H) (esz k : Nat) (v : V) (l : List V) : Prop := (k = 0 ∧ v = .nils ∧ l = []) ∨ (∃ b, v = .sl b 0 k (.op esz) ∧ Atc σ b l ∧ 0 < k ∧ l.length = k * esz)
theorem Sl.nil (σ : H) (esz : Nat) : Sl σ esz 0 .nils [] := .inl ⟨rfl, rfl, rfl⟩
theorem Sl.length {esz k : Nat} {v : V} (h : Sl σ esz k v l) : l.length = k * esz := by
 rcases h with ⟨rfl, _, rfl⟩ | ⟨b, _, _, _, h⟩
 ·simp
 ·exact h
theorem Sl.fr {esz k : Nat} {v : V} (h : Sl σ esz k v l) (f : Fr S σ σ') (ht : Tidy σ) (hn : ∀ b, Names v b → ¬ S b) : Sl σ' esz k v l := by
 rcases h with h | ⟨b, rfl, ha, hk, hl⟩
 ·exact .inl h
 ·exact .inr ⟨b, rfl, f.at_ ha ht (hn b rfl), hk, hl⟩
theorem Sl.one {esz k : Nat} {v : V} (h : Sl σ esz k v l) : v.one = true := by
 rcases h with ⟨_, rfl, _⟩ | ⟨b, rfl, _⟩ <;> rfl
theorem Sl.slen {esz k : Nat} {v : V} {κ : Nat → Ans} (h : Sl σ esz k v l) : slenK v κ = κ k := by
 rcases h with ⟨rfl, rfl, _⟩ | ⟨b, rfl, _⟩ <;> rfl
theorem Sl.lt {esz k : Nat} {v : V} (h : Sl σ esz k v l) (ht : Tidy σ) (hb : Names v b) : b < σ.next := by
 rcases h with ⟨_, rfl, _⟩ | ⟨c, rfl, ha, _⟩
 ·exact hb.elim
 ·cases hb; exact ha.lt ht
theorem srcK_ex {esz n xb xo : Nat} {c' : Cap} {κ : Nat → List V → Ans} (h : Atc σ xb m) (hl : xo + n * esz ≤ m.length) : srcK E σ esz (.sl xb xo n c') κ = κ n ((m.drop xo).take (n * esz)) :=
 (rdK_at h).trans (subK_of hl)
theorem rtOne_sl {b o n : Nat} {c : Cap} {a : Ans} : rtOne (.sl b o n c) a = a := rfl
theorem iaddrSK_lt {esz b o n i : Nat} {c : Cap} {κ : Nat → Nat → Ans} (h : i < n) : iaddrSK esz (.sl b o n c) (Int.ofNat i) κ = κ b (Nat.add o (Nat.mul i esz)) := by
 show chk (Nat.blt i n) _ = _
 exact chk_true (by simpa [Nat.blt_eq] using h)
theorem lookF_drop (l : List (Nat × Blk)) (id id' : Nat) : lookF (drop l id) id' = if id = id' then none else lookF l id' := by
 rw [lookF_eq, lookF_eq]; exact look_drop l id id'
end
theorem rtInt_int (k : IntKind) (n : Int) (κ : Int → Ans) : rtInt k (.int k n) κ = κ n := by simp [rtInt]
theorem rtBool_bool (b : Bool) (κ : Bool → Ans) : rtBool (.bool b) κ = κ b := rfl
theorem rtStr_str (s : BS) (κ : BS → Ans) : rtStr (.str s) κ = κ s := rfl
theorem rtPtr_ptr (b o : Nat) (κ : Nat → Nat → Ans) : rtPtr (.ptr b o) κ = κ b o := rfl
theorem rtAgg_agg (l : List V) (κ : List V → Ans) : rtAgg (.agg l) κ = κ l := rfl
theorem rtTup_tup (l : List V) (κ : List V → Ans) : rtTup (.tup l) κ = κ l := rfl
theorem rtCons_cons (v : V) (l : List V) (κ : V → List V → Ans) : rtCons (v :: l) κ = κ v l := rfl
theorem rtNil_nil (a : Ans) : rtNil [] a = a := rfl
theorem callK_some_ (v : V) (σ : H) (κ : V → H → Ans) : callK (some (v, σ)) κ = κ v σ := rfl
theorem joinB_ (f : Bool → H → Ans) (g : (Bool → H → Ans) → Ans) : joinB f g = g f := rfl
def BS.nats (s : BS) : List Nat := s.toList.map UInt8.toNat
theorem BS.length_nats (s : BS) : s.nats.length = s.len := by simp [BS.nats, BS.length_toList]
theorem BS.nats_get {s : BS} {i : Nat} (h : i < s.len) : s.nats[i]? = some (s.get i) := by
 simp only [BS.nats, List.getElem?_map, BS.getElem?_toList, if_pos h, Option.map_some, UInt8.toNat_ofNat']
 rw [Nat.mod_eq_of_lt (s.get_lt i)]
theorem BS.nats_lt (s : BS) : ∀ c ∈ s.nats, c < 256 := by
 intro c hc
 simp only [BS.nats, List.mem_map] at hc
 obtain ⟨u, _, rfl⟩ := hc
 exact u.toNat_lt
theorem BS.nats_sub {s : BS} {lo hi : Nat} (h : hi ≤ s.len) : (s.sub lo hi).nats = (s.nats.drop lo).take (hi - lo) := by
 simp [BS.nats, BS.toList_sub h]
theorem nats_inj {l m : List UInt8} (h : l.map UInt8.toNat = m.map UInt8.toNat) : l = m := by
 have hm := congrArg (List.map UInt8.ofNat) h
 simpa [List.map_map, Function.comp_def] using hm
def BS.canon (s : BS) : Prop := s.val < 2 ^ (8 * s.len)
theorem BS.canon_low {s : BS} (h : s.canon) : s.low = s.val := Nat.mod_eq_of_lt h
theorem BS.canon_ext {a b : BS} (ha : a.canon) (hb : b.canon) (h : a.nats = b.nats) : a = b := by
 have ht := nats_inj h
 obtain ⟨hl, hg⟩ := BS.get_eq ht
 have := (BS.low_eq hl).2 hg
 rw [BS.canon_low ha, BS.canon_low hb] at this
 cases a; cases b
 simp only [] at hl this
 subst hl; subst this; rfl
theorem BS.sub_canon (s : BS) (lo hi : Nat) : (s.sub lo hi).canon := Nat.mod_lt _ (Nat.pow_pos (by decide))
def ofN : List Nat → BS
 | [] => ⟨0, 0⟩
 | c :: l => ⟨Nat.succ (ofN l).len, Nat.add c (Nat.mul 256 (ofN l).val)⟩
theorem ofN_eq : ∀ {l : List Nat}, (∀ c ∈ l, c < 256) → ofN l = BS.ofList (l.map UInt8.ofNat)
 | [], _ => rfl
 | c :: l, h => by
  have hc : (UInt8.ofNat c).toNat = c := by simp only [UInt8.toNat_ofNat']; exact Nat.mod_eq_of_lt (h c (by simp))
  have ih := ofN_eq (l := l) (fun d hd => h d (List.mem_cons_of_mem _ hd))
  show BS.mk (Nat.succ (ofN l).len) (Nat.add c (Nat.mul 256 (ofN l).val)) = BS.mk (Nat.succ (BS.ofList (l.map UInt8.ofNat)).len) (Nat.add (UInt8.ofNat c).toNat (Nat.mul 256 (BS.ofList (l.map UInt8.ofNat)).val))
  rw [ih, hc]
theorem ofN_nats {l : List Nat} (h : ∀ c ∈ l, c < 256) : (ofN l).nats = l := by
 rw [ofN_eq h]
 apply List.ext_getElem?
 intro i
 by_cases hi : i < l.length
 ·have hl : (BS.ofList (l.map UInt8.ofNat)).len = l.length := by rw [BS.len_ofList, List.length_map]
  rw [BS.nats_get (by omega)]
  have hc : (l.map UInt8.ofNat)[i]? = some (UInt8.ofNat l[i]) := by simp [hi]
  rw [BS.get_ofList _ _ _ hc]
  simp only [UInt8.toNat_ofNat', List.getElem?_eq_getElem hi]
  rw [Nat.mod_eq_of_lt (h _ (List.getElem_mem hi))]
 ·rw [List.getElem?_eq_none (by rw [BS.length_nats, BS.len_ofList, List.length_map]; omega), List.getElem?_eq_none (by omega)]
theorem ofN_canon : ∀ {l : List Nat}, (∀ c ∈ l, c < 256) → (ofN l).canon
 | [], _ => by show 0 < 2 ^ (8 * 0); decide
 | c :: l, h => by
  have ih : (ofN l).val < 2 ^ (8 * (ofN l).len) := ofN_canon (fun d hd => h d (by simp [hd]))
  have hc := h c (by simp)
  show c + 256 * (ofN l).val < 2 ^ (8 * ((ofN l).len + 1))
  have e : 2 ^ (8 * ((ofN l).len + 1)) = 256 * 2 ^ (8 * (ofN l).len) := by
   rw [Nat.mul_add, Nat.pow_add]; simp [Nat.mul_comm]
  rw [e]; omega
theorem sub_ofN {s : BS} {lo hi : Nat} (h : hi ≤ s.len) : s.sub lo hi = ofN ((s.nats.drop lo).take (hi - lo)) := by
 have hb : ∀ c ∈ (s.nats.drop lo).take (hi - lo), c < 256 := fun c hc => s.nats_lt c (List.mem_of_mem_drop (List.mem_of_mem_take hc))
 exact BS.canon_ext (s.sub_canon lo hi) (ofN_canon hb) (by rw [BS.nats_sub h, ofN_nats hb])
def Rst (s : BS) (i : Nat) (r : List Nat) : Prop := i ≤ s.len ∧ s.nats.drop i = r
section
variable {s : BS} {i : Nat} {r : List Nat}
theorem Rst.start (s : BS) : Rst s 0 s.nats := ⟨Nat.zero_le _, rfl⟩
theorem Rst.len (h : Rst s i r) : i + r.length = s.len := by
 have := congrArg List.length h.2
 rw [List.length_drop, BS.length_nats] at this
 have := h.1; omega
theorem Rst.bd (h : Rst s i r) : ∀ c ∈ r, c < 256 := fun c hc => s.nats_lt c (List.mem_of_mem_drop (h.2 ▸ hc))
theorem Rst.drop (h : Rst s i r) {k : Nat} (hk : k ≤ r.length) : Rst s (i + k) (r.drop k) := by
 refine ⟨by have := h.len; omega, ?_⟩
 rw [← h.2, List.drop_drop]
theorem Rst.sub (h : Rst s i r) {k : Nat} (hk : k ≤ r.length) : s.sub i (i + k) = ofN (r.take k) := by
 have := h.len
 rw [sub_ofN (by omega), h.2, Nat.add_sub_cancel_left]
end
end
end Go.Og
set_option linter.all false
namespace Go.Og
noncomputable section
section
variable {E : List (Nat × Blk)} {D : Den} {n0 n i : Nat} {o : AOper} {l : List AOper} {p : DP} {pl : List DP} {s : DS} {v : V}
theorem dsteps_p (hg : o.guard = none) (hc : o.op.cls = .p) (hv : aopP o.op (restr p.looks s.e) = some v) :
  dsteps E D n0 n i (o :: l) (p :: pl) s = dsteps E D n0 n (i + 1) l pl { s with e := putE s.e o.dst v } := by
 have h : dstep E D n0 n i o p s = some { s with e := putE s.e o.dst v } := by unfold dstep; rw [hg]; simp only [wantedA, hc, hv]
 show (match dstep E D n0 n i o p s with | none => none | some s' => dsteps E D n0 n (i + 1) l pl s') = _
 rw [h]
theorem dsteps_l {h : List (Nat × Blk)} {ss : List (List (Nat × Blk))} (hg : o.guard = none) (hc : o.op.cls = .l) (hs : s.ss = h :: ss) (hv : aopL E o.op (restr p.looks s.e) ⟨s.nx, hideB n0 n (visK p.anc s.am) h⟩ = some v) :
  dsteps E D n0 n i (o :: l) (p :: pl) s = dsteps E D n0 n (i + 1) l pl { s with e := putE s.e o.dst v, ls := (i, o.op, restr p.looks s.e, v) :: s.ls } := by
 have h : dstep E D n0 n i o p s = some { s with e := putE s.e o.dst v, ls := (i, o.op, restr p.looks s.e, v) :: s.ls } := by unfold dstep; rw [hg]; simp only [wantedA, hc, hs, hv]
 show (match dstep E D n0 n i o p s with | none => none | some s' => dsteps E D n0 n (i + 1) l pl s') = _
 rw [h]
theorem dsteps_a {b : Blk} (hg : o.guard = none) (hc : o.op.cls = .a) (hv : aopA o.op (restr p.looks s.e) (n0 + i) = some (v, b)) :
  dsteps E D n0 n i (o :: l) (p :: pl) s = dsteps E D n0 n (i + 1) l pl { s with e := putE s.e o.dst v, ss := s.ss.map ((n0 + i, b) :: ·), am := s.am ||| 2 ^ i } := by
 have h : dstep E D n0 n i o p s = some { s with e := putE s.e o.dst v, ss := s.ss.map ((n0 + i, b) :: ·), am := s.am ||| 2 ^ i } := by unfold dstep; rw [hg]; simp only [wantedA, hc, hv]
 show (match dstep E D n0 n i o p s with | none => none | some s' => dsteps E D n0 n (i + 1) l pl s') = _
 rw [h]
theorem dsteps_a' {b : Blk} {id am' : Nat} (hg : o.guard = none) (hc : o.op.cls = .a) (hid : n0 + i = id) (ham : s.am ||| 2 ^ i = am') (hv : aopA o.op (restr p.looks s.e) id = some (v, b)) :
  dsteps E D n0 n i (o :: l) (p :: pl) s = dsteps E D n0 n (i + 1) l pl { s with e := putE s.e o.dst v, ss := s.ss.map ((id, b) :: ·), am := am' } := by
 subst hid; subst ham
 exact dsteps_a hg hc hv
theorem dsteps_k {h : List (Nat × Blk)} {ss : List (List (Nat × Blk))} {σ' : H} (hg : o.guard = none) (hc : o.op.cls = .k) (hs : s.ss = h :: ss) (hv : den1 E D o.op (restr p.looks s.e) ⟨s.nx, hideB n0 n (visK p.anc s.am) h⟩ = some (v, σ')) :
  dsteps E D n0 n i (o :: l) (p :: pl) s = dsteps E D n0 n (i + 1) l pl { s with e := putE s.e o.dst v, nx := σ'.next, ss := (keepB n0 n (visK p.anc s.am) h ++ σ'.bl) :: s.ss, ks := i :: s.ks } := by
 have h : dstep E D n0 n i o p s = some { s with e := putE s.e o.dst v, nx := σ'.next, ss := (keepB n0 n (visK p.anc s.am) h ++ σ'.bl) :: s.ss, ks := i :: s.ks } := by unfold dstep; rw [hg]; simp only [wantedA, hc, hs, hv]
 show (match dstep E D n0 n i o p s with | none => none | some s' => dsteps E D n0 n (i + 1) l pl s') = _
 rw [h]
theorem dsteps_nil : dsteps E D n0 n i [] pl s = some s := by cases pl <;> rfl
theorem drawW_of {ops : List AOper} {e : Env} {σ : H} {h : List (Nat × Blk)} {ss : List (List (Nat × Blk))} (hd : dsteps E D σ.next ops.length 0 ops pl ⟨e, σ.next + ops.length, [σ.bl], [], 0, []⟩ = some s)
  (hl : s.ls.all (fun (j, op, em, v) => checkL E σ.next ops.length pl s.am j op em v s.ss s.ks []) = true) (hs : s.ss = h :: ss) :
  drawW E D ops pl e σ = some (s.e, ⟨s.nx, hideB σ.next ops.length (fun k => s.am.testBit k) h⟩) := by
 unfold drawW
 rw [hd]
 show (if s.ls.all (fun (j, op, em, v) => checkL E σ.next ops.length pl s.am j op em v s.ss s.ks []) = true then _ else none) = _
 rw [if_pos hl, hs]
end
section
variable {E : List (Nat × Blk)} {n0 n am j : Nat} {pl : List DP} {op : AOp} {em : Env} {v : V} {h : List (Nat × Blk)} {ss : List (List (Nat × Blk))} {k : Nat} {ks more : List Nat}
theorem check_skip (hl : legal pl j (k :: ks) more = false) : checkL E n0 n pl am j op em v (h :: ss) (k :: ks) more = checkL E n0 n pl am j op em v ss ks (k :: more) := by
 show ((!legal pl j (k :: ks) more || _) && checkL E n0 n pl am j op em v ss ks (k :: more)) = _
 rw [hl]; rfl
end
section
variable {n0 n : Nat} {p : Nat → Bool} {l : List (Nat × Blk)}
theorem hide_keep : ∀ {l : List (Nat × Blk)}, (∀ i, i < n → p i = false → look l (n0 + i) = none) → hideB n0 n p l = l ∧ keepB n0 n p l = []
 | [], _ => ⟨rfl, rfl⟩
 | (k, b) :: l, h => by
  have hc : (Nat.ble n0 k && Nat.blt k (n0 + n) && !p (k - n0)) = false := by
   cases hb : (Nat.ble n0 k && Nat.blt k (n0 + n) && !p (k - n0)) with
   | false => rfl
   | true =>
    exfalso
    simp only [Bool.and_eq_true, Nat.ble_eq, Nat.blt_eq, Bool.not_eq_true'] at hb
    have := h (k - n0) (by omega) hb.2
    rw [show n0 + (k - n0) = k by omega] at this
    simp [look] at this
  have ih := hide_keep (l := l) (fun i hi hp => by
   have := h i hi hp
   simp only [look] at this
   split at this
   ·cases this
   ·exact this)
  unfold hideB keepB
  rw [hc]
  simp only [Bool.false_eq_true, if_false]
  exact ⟨by rw [ih.1], ih.2⟩
theorem Tidy.gap {σ : H} (h : Tidy σ) (n : Nat) : ∀ id, σ.next ≤ id → id < σ.next + n → look σ.bl id = none := fun id h1 _ => by
 have := h id h1; rwa [lookF_eq] at this
theorem Tidy.wide {σ : H} (h : Tidy σ) (n : Nat) : Tidy ⟨σ.next + n, σ.bl⟩ := fun b hb => h b (by have : σ.next + n ≤ b := hb; omega)
theorem Fr.wide {S : Nat → Prop} {σ σ' : H} {n : Nat} (f : Fr S ⟨σ.next + n, σ.bl⟩ σ') : Fr S σ σ' :=
 ⟨f.tidy, by have : σ.next + n ≤ σ'.next := f.le; omega, fun b hb hn => f.same b (show b < σ.next + n by omega) hn⟩
theorem Fr.gap {S : Nat → Prop} {σ σ' : H} {n : Nat} (f : Fr S ⟨σ.next + n, σ.bl⟩ σ') (ht : Tidy σ) (hS : ∀ b, S b → b < σ.next) : ∀ id, σ.next ≤ id → id < σ.next + n → look σ'.bl id = none := fun id h1 h2 => by
 have := f.same id h2 (fun hs => by have := hS id hs; omega)
 rw [← lookF_eq, this]
 exact ht id h1
theorem look_hide_old {id : Nat} (h : id < n0) : look (hideB n0 n p l) id = look l id := by
 rw [look_hideB, if_neg (by omega)]
theorem look_cons_ne {α : Type} {k id : Nat} {b : α} {l : List (Nat × α)} (h : k ≠ id) : look ((k, b) :: l) id = look l id := by simp [look, h]
theorem load_of {E : List (Nat × Blk)} {x : AO} {e : Env} {b off nx : Nat} {h : List (Nat × Blk)} {c : List V} {v : V} (hx : opv e x = .ptr b off) (hl : look h b = some (.cells c)) (hv : c[off]? = some v) :
  aopL E (.load none x) e ⟨nx, h⟩ = some v := by
 unfold aopL
 simp only [hx, rd, hl, hv]
end
section
variable {E : List (Nat × Blk)} {D : Den} {n0 n i : Nat} {d : Option Nat} {o : AOp} {l : List AOper} {anc : Nat} {lk : List Nat} {pl : List DP} {e : Env} {nx am : Nat} {ss : List (List (Nat × Blk))} {h : List (Nat × Blk)} {ks : List Nat} {ls : List (Nat × AOp × Env × V)}
theorem dp (v : V) (hc : o.cls = .p) (hv : aopP o (restr lk e) = some v) : dsteps E D n0 n i (⟨d, o, none⟩ :: l) (⟨anc, lk⟩ :: pl) ⟨e, nx, ss, ks, am, ls⟩ = dsteps E D n0 n (i + 1) l pl ⟨putE e d v, nx, ss, ks, am, ls⟩ :=
 dsteps_p rfl hc hv
theorem dl (v : V) (hc : o.cls = .l) (hv : aopL E o (restr lk e) ⟨nx, hideB n0 n (visK anc am) h⟩ = some v) : dsteps E D n0 n i (⟨d, o, none⟩ :: l) (⟨anc, lk⟩ :: pl) ⟨e, nx, h :: ss, ks, am, ls⟩ = dsteps E D n0 n (i + 1) l pl ⟨putE e d v, nx, h :: ss, ks, am, (i, o, restr lk e, v) :: ls⟩ :=
 dsteps_l rfl hc rfl hv
theorem da (v : V) (b : Blk) (id am' : Nat) (hc : o.cls = .a) (hid : n0 + i = id) (ham : am ||| 2 ^ i = am') (hv : aopA o (restr lk e) id = some (v, b)) : dsteps E D n0 n i (⟨d, o, none⟩ :: l) (⟨anc, lk⟩ :: pl) ⟨e, nx, ss, ks, am, ls⟩ = dsteps E D n0 n (i + 1) l pl ⟨putE e d v, nx, ss.map ((id, b) :: ·), ks, am', ls⟩ :=
 dsteps_a' rfl hc hid ham hv
theorem dk (v : V) (nx' : Nat) (bl' : List (Nat × Blk)) (hc : o.cls = .k) (hk : hideB n0 n (visK anc am) h = h ∧ keepB n0 n (visK anc am) h = []) (hv : den1 E D o (restr lk e) ⟨nx, h⟩ = some (v, ⟨nx', bl'⟩)) : dsteps E D n0 n i (⟨d, o, none⟩ :: l) (⟨anc, lk⟩ :: pl) ⟨e, nx, h :: ss, ks, am, ls⟩ = dsteps E D n0 n (i + 1) l pl ⟨putE e d v, nx', bl' :: h :: ss, i :: ks, am, ls⟩ := by
 have := dsteps_k (E := E) (D := D) (n0 := n0) (n := n) (i := i) (o := ⟨d, o, none⟩) (l := l) (p := ⟨anc, lk⟩) (pl := pl) (s := ⟨e, nx, h :: ss, ks, am, ls⟩) (v := v) (σ' := ⟨nx', bl'⟩) rfl hc rfl (by show den1 E D o (restr lk e) ⟨nx, hideB n0 n (visK anc am) h⟩ = _; rw [hk.1]; exact hv)
 rw [this]
 show dsteps E D n0 n (i + 1) l pl ⟨putE e d v, nx', (keepB n0 n (visK anc am) h ++ bl') :: h :: ss, i :: ks, am, ls⟩ = _
 rw [hk.2]; rfl
end
end
end Go.Og
