/- What the last text leans on, part 4 of 7: merged out of smaller texts. No condition. -/
import Derived.KernelRfl
import Derived.Test.YtpbdnlclihogfaaGreatDoorQ2
set_option linter.all false
set_option maxRecDepth 100000
set_option maxHeartbeats 0
namespace Go.Proofs.YtpbdnlclihogfaaGreatDoor
open Go Go.Og
noncomputable section
variable (E : List (Nat × Blk)) (D : Den) (W : DrawFn) (N : Nat)
/-! ### F7: ogham_oghamlaw15.DerFields -/
def Fin7 (E : List (Nat × Blk)) : St → Ans := fun s => resK E s [(.tmp 4)] fun l => some (oneV l, s.σ)
def C7_0 (cc1 : XC) (cc2 : XC) : XC := (.seq (.ops (.c 4 (V.bool false)<|
.nil))
 (.seq (.seq (.ops (.m 18 0<|
.u 19 18<|
.b 20 .gtr .none (.t 19) (.i 10)<|
.nil))
 (.cond (.tmp 20) (.seq (.ops (.k 21 .bool 17 []<|
.m 4 21<|
.nil))
 .ret)
 .skip))
 (.seq (.ops (.c 5 (V.str ⟨0, 0⟩)<|
.nil))
 (.seq (.ops (.op (some 22) (.agg [.i, .i, .any, .any, .i, .any]) [] (.build [(V.int .i64 (Int.ofNat 0)), (V.int .i64 (Int.ofNat 0)), V.nils, V.nils, (V.int .i64 (Int.ofNat 0)), V.nils] [(0, 1, (.i 7))])<|
.pal 6 [] 26 [(V.int .i64 (Int.ofNat 0)), (V.int .i64 (Int.ofNat 0)), V.nils, V.nils, (V.int .i64 (Int.ofNat 0)), V.nils]<|
.op none (.agg [.i, .i, .any, .any, .i, .any]) [6, 22] (.store 6 (.t 6) (.t 22))<|
.nil))
 (.seq (.ops (.op (some 23) (.agg [.i, .i, .any, .any, .i, .any]) [] (.build [(V.int .i64 (Int.ofNat 0)), (V.int .i64 (Int.ofNat 0)), V.nils, V.nils, (V.int .i64 (Int.ofNat 0)), V.nils] [(0, 1, (.i 10))])<|
.pal 7 [] 26 [(V.int .i64 (Int.ofNat 0)), (V.int .i64 (Int.ofNat 0)), V.nils, V.nils, (V.int .i64 (Int.ofNat 0)), V.nils]<|
.op none (.agg [.i, .i, .any, .any, .i, .any]) [7, 23] (.store 6 (.t 7) (.t 23))<|
.nil))
 (.seq (.ops (.c 8 V.nils<|
.c 9 V.nils<|
.nil))
 (.seq (.seq (.ops (.q 10 0<|
.nil))
 (.block 0 (.loop [(0, .any), (1, .any), (5, .str), (8, .any), (9, .any), (10, .i)] [6, 7] [(6, [.i, .i, .any, .any, .i, .any]), (7, [.i, .i, .any, .any, .i, .any])] cc2)))
 (.keep [(5, .str), (8, .any), (9, .any)] [6, 7] [(6, [.i, .i, .any, .any, .i, .any]), (7, [.i, .i, .any, .any, .i, .any])] cc1))))))))
def T7_0 (E : List (Nat × Blk)) (D : Den) (W : DrawFn) (K2 : V → V → BS → V → V → Int → Int → Int → V → V → Int → V → Int → Int → V → V → Int → V → H → Ans) (v0 v1 : V) (σ : H) : Ans :=
 slenK v0 fun n1 =>
 condK (ltF (Int.ofNat 10) (Int.ofNat n1)) (
 callK (D 17 [] σ) fun u2 s3 =>
 rtBool u2 fun x4 =>
 some ((V.bool x4), s3)) (
 K2 v0 v1 (BS.mk 0 0) V.nils V.nils (Int.ofNat 0) (Int.ofNat 7) (Int.ofNat 0) V.nils V.nils (Int.ofNat 0) V.nils (Int.ofNat 10) (Int.ofNat 0) V.nils V.nils (Int.ofNat 0) V.nils σ)
def C7_1 : XC := (.seq (.ops (.m 99 5<|
.b 100 .add .none (.con (V.str ⟨55, 360235906573011172289504814717822090483128856987751006770268722682284364058230054312310295327768909848561703507675267151331556859981⟩)) (.t 99)<|
.b 101 .add .none (.t 100) (.con (V.str ⟨32, 30895564866595157683039161051334161331893094894051839636631723362949860982048⟩))<|
.k 102 (.tup [(.agg [.str, .any, .any, .any]), .bool]) 14 [(.t 101)]<|
.m 98 102<|
.p 103 [98] (.extract 0 (.t 98))<|
.p 104 [98] (.extract 1 (.t 98))<|
.pal 12 [] 31 [(V.str ⟨0, 0⟩), V.nils, V.nils, V.nils]<|
.op none (.agg [.str, .any, .any, .any]) [12, 103] (.store 4 (.t 12) (.t 103))<|
.m 13 104<|
.nil))
 (.seq (.seq (.ops (.m 105 13<|
.p 106 [105] (.un .not (.t 105))<|
.m 107 106<|
.grp 107 false (.p 108 [12, 107] (.faddr 2 (.t 12))<|
.p 109 [108, 107] (.load none (.t 108))<|
.p 110 [109, 107] (.len false (.t 109))<|
.p 111 [110, 107] (.bin .neq .none (.t 110) (.i 2))<|
.nil) 112 [107, 111] (.t 107) (.con (V.bool true)) (.t 111)<|
.nil))
 (.cond (.tmp 112) (.seq (.ops (.c 4 (V.bool false)<|
.nil))
 .ret)
 .skip))
 (.seq (.draw (.op (some 114) (.agg [.str, .any, .any, .any]) [12] (.load (some 4) (.t 12))<|
.f 115 2 12<|
.l 116 .any 115<|
.p 117 [116] (.iaddrS 1 (.t 116) (.i 0))<|
.l 118 .i 117<|
.op (some 119) (.agg [.i, .i, .any, .any, .i, .any]) [6] (.load (some 6) (.t 6))<|
.k 120 (.tup [.any, .i]) 18 [(.t 114), (.t 118), (.t 119)]<|
.m 113 120<|
.p 121 [113] (.extract 0 (.t 113))<|
.p 122 [113] (.extract 1 (.t 113))<|
.m 14 121<|
.m 15 122<|
.nil) [0, 0, 2, 6, 14, 0, 63, 127, 255, 255, 511, 2047])
 (.seq (.draw (.op (some 124) (.agg [.str, .any, .any, .any]) [12] (.load (some 4) (.t 12))<|
.f 125 2 12<|
.l 126 .any 125<|
.p 127 [126] (.iaddrS 1 (.t 126) (.i 1))<|
.l 128 .i 127<|
.op (some 129) (.agg [.i, .i, .any, .any, .i, .any]) [7] (.load (some 6) (.t 7))<|
.k 130 (.tup [.any, .i]) 18 [(.t 124), (.t 128), (.t 129)]<|
.m 123 130<|
.p 131 [123] (.extract 0 (.t 123))<|
.p 132 [123] (.extract 1 (.t 123))<|
.m 16 131<|
.m 17 132<|
.nil) [0, 0, 2, 6, 14, 0, 63, 127, 255, 255, 511, 2047])
 (.seq (.ops (.k 133 .bool 17 []<|
.m 134 133<|
.grp 134 true (.p 135 [15, 134] (.mov (.t 15))<|
.p 136 [135, 134] (.bin .eql .none (.t 135) (.i 0))<|
.nil) 137 [134, 136] (.t 134) (.t 136) (.con (V.bool false))<|
.m 138 137<|
.grp 138 true (.p 139 [17, 138] (.mov (.t 17))<|
.p 140 [139, 138] (.bin .eql .none (.t 139) (.i 0))<|
.nil) 141 [138, 140] (.t 138) (.t 140) (.con (V.bool false))<|
.m 142 141<|
.grp 142 true (.p 143 [14, 142] (.mov (.t 14))<|
.op (some 144) (.agg [.i, .i]) [142] (.build [(V.int .i64 (Int.ofNat 0)), (V.int .i64 (Int.ofNat 0))] [(1, 1, (.i 16))])<|
.p 145 [8, 142] (.mov (.t 8))<|
.op (some 146) .one [144, 145, 142] (.call 27 [(.t 144), (.con (V.bool true)), (.t 145)])<|
.op (some 147) .bool [143, 146, 142] (.call 20 [(.t 143), (.t 146)])<|
.nil) 148 [142, 147] (.t 142) (.t 147) (.con (V.bool false))<|
.m 149 148<|
.grp 149 true (.p 150 [16, 149] (.mov (.t 16))<|
.op (some 151) (.agg [.i, .i]) [149] (.build [(V.int .i64 (Int.ofNat 0)), (V.int .i64 (Int.ofNat 0))] [(1, 1, (.i 16))])<|
.p 152 [9, 149] (.mov (.t 9))<|
.op (some 153) .one [151, 152, 149] (.call 27 [(.t 151), (.con (V.bool true)), (.t 152)])<|
.op (some 154) .bool [150, 153, 149] (.call 20 [(.t 150), (.t 153)])<|
.nil) 155 [149, 154] (.t 149) (.t 154) (.con (V.bool false))<|
.m 4 155<|
.nil))
 .ret)))))
def T7_1 (E : List (Nat × Blk)) (D : Den) (W : DrawFn) (v5 : BS) (v8 v9 : V) (r6_0 r6_1 : Int) (r6_2 r6_3 : V) (r6_4 : Int) (r6_5 : V) (r7_0 r7_1 : Int) (r7_2 r7_3 : V) (r7_4 : Int) (r7_5 : V) (σ : H) : Ans :=
 catK (BS.mk 55 360235906573011172289504814717822090483128856987751006770268722682284364058230054312310295327768909848561703507675267151331556859981) v5 fun t1 =>
 catK t1 (BS.mk 32 30895564866595157683039161051334161331893094894051839636631723362949860982048) fun t2 =>
 callK (D 14 [(V.str t2)] σ) fun u3 s4 =>
 rtTup u3 fun l5 =>
 rtCons l5 fun x6 l7 =>
 rtAgg x6 fun l8 =>
 rtCons l8 fun x9 l10 =>
 rtStr x9 fun x11 =>
 rtCons l10 fun x12 l13 =>
 rtCons l13 fun x14 l15 =>
 rtCons l15 fun x16 l17 =>
 rtNil l17 (
 rtCons l7 fun x18 l19 =>
 rtBool x18 fun x20 =>
 rtNil l19 (
 chk (allOne [(V.str x11), x12, x14, x16]) (
 joinB (fun c21 s22 =>
 condK c21 (
 some ((V.bool false), s22)) (
 iaddrSK 1 x14 (Int.ofNat 0) fun b24 o25 =>
 ldK E s22 b24 o25 fun u26 =>
 rtInt .i64 u26 fun x27 =>
 callK (D 18 [(V.agg [(V.str x11), x12, x14, x16]), (V.int .i64 x27), (V.agg [(V.int .i64 r6_0), (V.int .i64 r6_1), r6_2, r6_3, (V.int .i64 r6_4), r6_5])] s22) fun u28 s29 =>
 rtTup u28 fun l30 =>
 rtCons l30 fun x31 l32 =>
 rtCons l32 fun x33 l34 =>
 rtInt .i64 x33 fun x35 =>
 rtNil l34 (
 iaddrSK 1 x14 (Int.ofNat 1) fun b36 o37 =>
 ldK E s29 b36 o37 fun u38 =>
 rtInt .i64 u38 fun x39 =>
 callK (D 18 [(V.agg [(V.str x11), x12, x14, x16]), (V.int .i64 x39), (V.agg [(V.int .i64 r7_0), (V.int .i64 r7_1), r7_2, r7_3, (V.int .i64 r7_4), r7_5])] s29) fun u40 s41 =>
 rtTup u40 fun l42 =>
 rtCons l42 fun x43 l44 =>
 rtCons l44 fun x45 l46 =>
 rtInt .i64 x45 fun x47 =>
 rtNil l46 (
 callK (D 17 [] s41) fun u48 s49 =>
 rtBool u48 fun x50 =>
 joinB (fun c51 s52 =>
 joinB (fun c54 s55 =>
 joinB (fun c57 s58 =>
 joinB (fun c60 s61 =>
 some ((V.bool c60), s61)) fun k62 =>
 condK c57 (
 callK (D 27 [(V.agg [(V.int .i64 (Int.ofNat 0)), (V.int .i64 (Int.ofNat 16))]), (V.bool true), v9] s58) fun u63 s64 =>
 rtOne u63 (
 callK (D 20 [x43, u63] s64) fun u65 s66 =>
 rtBool u65 fun x67 =>
 k62 x67 s66)) (
 k62 false s58)) fun k59 =>
 condK c54 (
 callK (D 27 [(V.agg [(V.int .i64 (Int.ofNat 0)), (V.int .i64 (Int.ofNat 16))]), (V.bool true), v8] s55) fun u68 s69 =>
 rtOne u68 (
 callK (D 20 [x31, u68] s69) fun u70 s71 =>
 rtBool u70 fun x72 =>
 k59 x72 s71)) (
 k59 false s55)) fun k56 =>
 condK c51 (
 k56 (eqF x47 (Int.ofNat 0)) s52) (
 k56 false s52)) fun k53 =>
 condK x50 (
 k53 (eqF x35 (Int.ofNat 0)) s49) (
 k53 false s49))))) fun k23 =>
 condK (not x20) (
 k23 true s4) (
 slenK x14 fun n73 =>
 k23 (not (eqF (Int.ofNat n73) (Int.ofNat 2))) s4))))
def C7_2 (cc3 : XC) (cc4 : XC) : XC := (.seq (.seq (.ops (.m 24 10<|
.m 25 0<|
.u 26 25<|
.b 27 .lss .none (.t 24) (.t 26)<|
.nil))
 (.cond (.tmp 27) .skip
 (.exit 0)))
 (.seq (.block 1 (.seq (.seq (.ops (.m 30 10<|
.b 31 .gtr .none (.t 30) (.i 0)<|
.nil))
 (.cond (.tmp 31) (.ops (.m 32 5<|
.b 33 .add .none (.t 32) (.con (V.str ⟨2, 8236⟩))<|
.m 5 33<|
.nil))
 .skip))
 (.keep [(0, .any), (1, .any), (5, .str), (8, .any), (9, .any), (10, .i)] [6, 7] [(6, [.i, .i, .any, .any, .i, .any]), (7, [.i, .i, .any, .any, .i, .any])] cc4)))
 (.keep [(0, .any), (1, .any), (5, .str), (8, .any), (9, .any), (10, .i)] [6, 7] [(6, [.i, .i, .any, .any, .i, .any]), (7, [.i, .i, .any, .any, .i, .any])] cc3)))
def T7_2 (E : List (Nat × Blk)) (D : Den) (W : DrawFn) (K1 : BS → V → V → Int → Int → V → V → Int → V → Int → Int → V → V → Int → V → H → Ans) (K4 : V → V → BS → V → V → Int → Int → Int → V → V → Int → V → Int → Int → V → V → Int → V → H → Ans) (v0 v1 : V) (v5 : BS) (v8 v9 : V) (v10 r6_0 r6_1 : Int) (r6_2 r6_3 : V) (r6_4 : Int) (r6_5 : V) (r7_0 r7_1 : Int) (r7_2 r7_3 : V) (r7_4 : Int) (r7_5 : V) (σ : H) : Ans :=
 slenK v0 fun n1 =>
 condK (ltF v10 (Int.ofNat n1)) (
 condK (ltF (Int.ofNat 0) v10) (
 catK v5 (BS.mk 2 8236) fun t2 =>
 K4 v0 v1 t2 v8 v9 v10 r6_0 r6_1 r6_2 r6_3 r6_4 r6_5 r7_0 r7_1 r7_2 r7_3 r7_4 r7_5 σ) (
 K4 v0 v1 v5 v8 v9 v10 r6_0 r6_1 r6_2 r6_3 r6_4 r6_5 r7_0 r7_1 r7_2 r7_3 r7_4 r7_5 σ)) (
 K1 v5 v8 v9 r6_0 r6_1 r6_2 r6_3 r6_4 r6_5 r7_0 r7_1 r7_2 r7_3 r7_4 r7_5 σ)
def C7_3 : XC := (.ops (.m 28 10<|
.b 29 .add .none (.t 28) (.i 1)<|
.m 10 29<|
.nil))
def T7_3 (E : List (Nat × Blk)) (D : Den) (W : DrawFn) (R2 : V → V → BS → V → V → Int → Int → Int → V → V → Int → V → Int → Int → V → V → Int → V → H → Ans) (v0 v1 : V) (v5 : BS) (v8 v9 : V) (v10 r6_0 r6_1 : Int) (r6_2 r6_3 : V) (r6_4 : Int) (r6_5 : V) (r7_0 r7_1 : Int) (r7_2 r7_3 : V) (r7_4 : Int) (r7_5 : V) (σ : H) : Ans :=
 R2 v0 v1 v5 v8 v9 (addF .i64 v10 (Int.ofNat 1)) r6_0 r6_1 r6_2 r6_3 r6_4 r6_5 r7_0 r7_1 r7_2 r7_3 r7_4 r7_5 σ
def C7_4 : XC := (.seq (.ops (.m 34 5<|
.b 35 .add .none (.t 34) (.con (V.str ⟨1, 102⟩))<|
.m 36 10<|
.p 37 [36] (.conv (.toInt .u64) (.t 36))<|
.k 38 .str 25 [(.t 37)]<|
.b 39 .add .none (.t 35) (.t 38)<|
.b 40 .add .none (.t 39) (.con (V.str ⟨2, 23328⟩))<|
.m 41 10<|
.p 42 [41] (.conv (.toInt .u64) (.t 41))<|
.k 43 .str 25 [(.t 42)]<|
.b 44 .add .none (.t 40) (.t 43)<|
.b 45 .add .none (.t 44) (.con (V.str ⟨18, 6642756176126058714134333817503482137616477⟩))<|
.m 5 45<|
.nil))
 (.seq (.ops (.m 46 0<|
.m 47 10<|
.s 48 1 46 47<|
.l 49 .i 48<|
.op (some 50) (.agg [.i, .i, .any, .any, .i, .any]) [49] (.build [(V.int .i64 (Int.ofNat 0)), (V.int .i64 (Int.ofNat 0)), V.nils, V.nils, (V.int .i64 (Int.ofNat 0)), V.nils] [(0, 1, (.i 2)), (1, 1, (.t 49))])<|
.pal 11 [] 26 [(V.int .i64 (Int.ofNat 0)), (V.int .i64 (Int.ofNat 0)), V.nils, V.nils, (V.int .i64 (Int.ofNat 0)), V.nils]<|
.op none (.agg [.i, .i, .any, .any, .i, .any]) [11, 50] (.store 6 (.t 11) (.t 50))<|
.nil))
 (.seq (.ops (.f 51 3 7<|
.l 52 .any 51<|
.op (some 53) (.agg [.i, .i, .any, .any, .i, .any]) [11] (.load (some 6) (.t 11))<|
.p 54 [53] (.buildSlice 26 1 [(V.int .i64 (Int.ofNat 0)), (V.int .i64 (Int.ofNat 0)), V.nils, V.nils, (V.int .i64 (Int.ofNat 0)), V.nils] [(0, 6, (.t 53))])<|
.op (some 55) .one [52, 54] (.append 26 6 96 (.t 52) (.t 54))<|
.f 56 3 7<|
.w 1 56 55<|
.nil))
 (.seq (.ops (.m 57 9<|
.op (some 58) (.agg [.i, .i]) [] (.build [(V.int .i64 (Int.ofNat 0)), (V.int .i64 (Int.ofNat 0))] [(1, 1, (.i 2))])<|
.m 59 0<|
.m 60 10<|
.s 61 1 59 60<|
.l 62 .i 61<|
.k 63 .one 26 [(.t 62)]<|
.k 64 .one 27 [(.t 58), (.con (V.bool false)), (.t 63)]<|
.op (some 65) .one [57, 64] (.append 5 1 1 (.t 57) (.t 64))<|
.m 9 65<|
.nil))
 (.seq (.ops (.m 66 10<|
.m 67 1<|
.u 68 67<|
.b 69 .lss .none (.t 66) (.t 68)<|
.m 70 69<|
.grp 70 true (.p 71 [1, 70] (.mov (.t 1))<|
.p 72 [10, 70] (.mov (.t 10))<|
.p 73 [71, 72, 70] (.iaddrS 1 (.t 71) (.t 72))<|
.op (some 74) .bool [73, 70] (.load none (.t 73))<|
.nil) 75 [70, 74] (.t 70) (.t 74) (.con (V.bool false))<|
.nil))
 (.cond (.tmp 75) (.seq (.ops (.f 76 3 6<|
.l 77 .any 76<|
.op (some 78) (.agg [.i, .i, .any, .any, .i, .any]) [11] (.load (some 6) (.t 11))<|
.p 79 [78] (.buildSlice 26 1 [(V.int .i64 (Int.ofNat 0)), (V.int .i64 (Int.ofNat 0)), V.nils, V.nils, (V.int .i64 (Int.ofNat 0)), V.nils] [(0, 6, (.t 78))])<|
.op (some 80) .one [77, 79] (.append 26 6 96 (.t 77) (.t 79))<|
.f 81 3 6<|
.w 1 81 80<|
.nil))
 (.ops (.m 82 8<|
.m 83 10<|
.op (some 84) (.agg [.i, .i]) [83] (.build [(V.int .i64 (Int.ofNat 0)), (V.int .i64 (Int.ofNat 0))] [(0, 1, (.i 2)), (1, 1, (.t 83))])<|
.m 85 0<|
.m 86 10<|
.s 87 1 85 86<|
.l 88 .i 87<|
.k 89 .one 26 [(.t 88)]<|
.k 90 .one 27 [(.t 84), (.con (V.bool false)), (.t 89)]<|
.op (some 91) .one [82, 90] (.append 5 1 1 (.t 82) (.t 90))<|
.m 8 91<|
.nil)))
 (.ops (.f 92 3 6<|
.l 93 .any 92<|
.op (some 94) (.agg [.i, .i, .any, .any, .i, .any]) [] (.build [(V.int .i64 (Int.ofNat 0)), (V.int .i64 (Int.ofNat 0)), V.nils, V.nils, (V.int .i64 (Int.ofNat 0)), V.nils] [])<|
.p 95 [94] (.buildSlice 26 1 [(V.int .i64 (Int.ofNat 0)), (V.int .i64 (Int.ofNat 0)), V.nils, V.nils, (V.int .i64 (Int.ofNat 0)), V.nils] [(0, 6, (.t 94))])<|
.op (some 96) .one [93, 95] (.append 26 6 96 (.t 93) (.t 95))<|
.f 97 3 6<|
.w 1 97 96<|
.nil))))))))
def T7_4 (E : List (Nat × Blk)) (D : Den) (W : DrawFn) (K3 : V → V → BS → V → V → Int → Int → Int → V → V → Int → V → Int → Int → V → V → Int → V → H → Ans) (v0 v1 : V) (v5 : BS) (v8 v9 : V) (v10 r6_0 r6_1 : Int) (r6_2 r6_3 : V) (r6_4 : Int) (r6_5 : V) (r7_0 r7_1 : Int) (r7_2 r7_3 : V) (r7_4 : Int) (r7_5 : V) (σ : H) : Ans :=
 catK v5 (BS.mk 1 102) fun t1 =>
 callK (D 25 [(V.int .u64 (wrapF .u64 v10))] σ) fun u2 s3 =>
 rtStr u2 fun x4 =>
 catK t1 x4 fun t5 =>
 catK t5 (BS.mk 2 23328) fun t6 =>
 callK (D 25 [(V.int .u64 (wrapF .u64 v10))] s3) fun u7 s8 =>
 rtStr u7 fun x9 =>
 catK t6 x9 fun t10 =>
 catK t10 (BS.mk 18 6642756176126058714134333817503482137616477) fun t11 =>
 iaddrSK 1 v0 v10 fun b12 o13 =>
 ldK E s8 b12 o13 fun u14 =>
 rtInt .i64 u14 fun x15 =>
 let s16 := newB s8 (.cells [(V.int .i64 (Int.ofNat 2)), (V.int .i64 x15), V.nils, V.nils, (V.int .i64 (Int.ofNat 0)), V.nils]);
 appK E 6 96 r7_3 (V.sl (H.next s8) 0 1 (.ex 1)) s16 fun u17 s18 =>
 rtOne u17 (
 rtOne u17 (
 iaddrSK 1 v0 v10 fun b19 o20 =>
 ldK E s18 b19 o20 fun u21 =>
 rtInt .i64 u21 fun x22 =>
 callK (D 26 [(V.int .i64 x22)] s18) fun u23 s24 =>
 rtOne u23 (
 callK (D 27 [(V.agg [(V.int .i64 (Int.ofNat 0)), (V.int .i64 (Int.ofNat 2))]), (V.bool false), u23] s24) fun u25 s26 =>
 rtOne u25 (
 appK E 1 1 v9 u25 s26 fun u27 s28 =>
 rtOne u27 (
 slenK v1 fun n29 =>
 joinB (fun c30 s31 =>
 condK c30 (
 let s33 := newB s31 (.cells [(V.int .i64 (Int.ofNat 2)), (V.int .i64 x15), V.nils, V.nils, (V.int .i64 (Int.ofNat 0)), V.nils]);
 appK E 6 96 r6_3 (V.sl (H.next s31) 0 1 (.ex 1)) s33 fun u34 s35 =>
 rtOne u34 (
 rtOne u34 (
 iaddrSK 1 v0 v10 fun b36 o37 =>
 ldK E s35 b36 o37 fun u38 =>
 rtInt .i64 u38 fun x39 =>
 callK (D 26 [(V.int .i64 x39)] s35) fun u40 s41 =>
 rtOne u40 (
 callK (D 27 [(V.agg [(V.int .i64 (Int.ofNat 2)), (V.int .i64 v10)]), (V.bool false), u40] s41) fun u42 s43 =>
 rtOne u42 (
 appK E 1 1 v8 u42 s43 fun u44 s45 =>
 rtOne u44 (
 K3 v0 v1 t11 u44 u27 v10 r6_0 r6_1 r6_2 u34 r6_4 r6_5 r7_0 r7_1 r7_2 u17 r7_4 r7_5 s45)))))) (
 let s46 := newB s31 (.cells [(V.int .i64 (Int.ofNat 0)), (V.int .i64 (Int.ofNat 0)), V.nils, V.nils, (V.int .i64 (Int.ofNat 0)), V.nils]);
 appK E 6 96 r6_3 (V.sl (H.next s31) 0 1 (.ex 1)) s46 fun u47 s48 =>
 rtOne u47 (
 rtOne u47 (
 K3 v0 v1 t11 v8 u27 v10 r6_0 r6_1 r6_2 u47 r6_4 r6_5 r7_0 r7_1 r7_2 u17 r7_4 r7_5 s48)))) fun k32 =>
 condK (ltF v10 (Int.ofNat n29)) (
 iaddrSK 1 v1 v10 fun b49 o50 =>
 ldK E s28 b49 o50 fun u51 =>
 rtBool u51 fun x52 =>
 k32 x52 s28) (
 k32 false s28))))))
def S7_0 (v0 v1 : V) (σ : H) : St := ⟨[(0, v0), (1, v1)], [], [], σ⟩
def S7_1 (v5 : BS) (v8 v9 : V) (r6_0 r6_1 : Int) (r6_2 r6_3 : V) (r6_4 : Int) (r6_5 : V) (r7_0 r7_1 : Int) (r7_2 r7_3 : V) (r7_4 : Int) (r7_5 : V) (σ : H) : St := ⟨[(5, (V.str v5)), (8, v8), (9, v9)], [(6, (6, 0)), (7, (7, 0))], [(6, [(V.int .i64 r6_0), (V.int .i64 r6_1), r6_2, r6_3, (V.int .i64 r6_4), r6_5]), (7, [(V.int .i64 r7_0), (V.int .i64 r7_1), r7_2, r7_3, (V.int .i64 r7_4), r7_5])], σ⟩
def S7_2 (v0 v1 : V) (v5 : BS) (v8 v9 : V) (v10 r6_0 r6_1 : Int) (r6_2 r6_3 : V) (r6_4 : Int) (r6_5 : V) (r7_0 r7_1 : Int) (r7_2 r7_3 : V) (r7_4 : Int) (r7_5 : V) (σ : H) : St := ⟨[(0, v0), (1, v1), (5, (V.str v5)), (8, v8), (9, v9), (10, (V.int .i64 v10))], [(6, (6, 0)), (7, (7, 0))], [(6, [(V.int .i64 r6_0), (V.int .i64 r6_1), r6_2, r6_3, (V.int .i64 r6_4), r6_5]), (7, [(V.int .i64 r7_0), (V.int .i64 r7_1), r7_2, r7_3, (V.int .i64 r7_4), r7_5])], σ⟩
def S7_3 (v0 v1 : V) (v5 : BS) (v8 v9 : V) (v10 r6_0 r6_1 : Int) (r6_2 r6_3 : V) (r6_4 : Int) (r6_5 : V) (r7_0 r7_1 : Int) (r7_2 r7_3 : V) (r7_4 : Int) (r7_5 : V) (σ : H) : St := ⟨[(0, v0), (1, v1), (5, (V.str v5)), (8, v8), (9, v9), (10, (V.int .i64 v10))], [(6, (6, 0)), (7, (7, 0))], [(6, [(V.int .i64 r6_0), (V.int .i64 r6_1), r6_2, r6_3, (V.int .i64 r6_4), r6_5]), (7, [(V.int .i64 r7_0), (V.int .i64 r7_1), r7_2, r7_3, (V.int .i64 r7_4), r7_5])], σ⟩
def S7_4 (v0 v1 : V) (v5 : BS) (v8 v9 : V) (v10 r6_0 r6_1 : Int) (r6_2 r6_3 : V) (r6_4 : Int) (r6_5 : V) (r7_0 r7_1 : Int) (r7_2 r7_3 : V) (r7_4 : Int) (r7_5 : V) (σ : H) : St := ⟨[(0, v0), (1, v1), (5, (V.str v5)), (8, v8), (9, v9), (10, (V.int .i64 v10))], [(6, (6, 0)), (7, (7, 0))], [(6, [(V.int .i64 r6_0), (V.int .i64 r6_1), r6_2, r6_3, (V.int .i64 r6_4), r6_5]), (7, [(V.int .i64 r7_0), (V.int .i64 r7_1), r7_2, r7_3, (V.int .i64 r7_4), r7_5])], σ⟩
theorem P7_0 (cc1 : XC) (cc2 : XC) (v0 v1 : V) (σ : H) :
  denC E D W N (C7_0 cc1 cc2) (S7_0 v0 v1 σ) (Fin7 E) (fun _ _ => none) (Fin7 E) =
  T7_0 E D W (fun v0 v1 v5 v8 v9 v10 r6_0 r6_1 r6_2 r6_3 r6_4 r6_5 r7_0 r7_1 r7_2 r7_3 r7_4 r7_5 σ => iterK (fun rec s' => denC E D W N cc2 s' (fun s'' => keepS [(0, .any), (1, .any), (5, .str), (8, .any), (9, .any), (10, .i)] [6, 7] [(6, [.i, .i, .any, .any, .i, .any]), (7, [.i, .i, .any, .any, .i, .any])] s'' rec) (blkK 0 (fun s' => denC E D W N (.keep [(5, .str), (8, .any), (9, .any)] [6, 7] [(6, [.i, .i, .any, .any, .i, .any]), (7, [.i, .i, .any, .any, .i, .any])] cc1) s' (Fin7 E) (fun _ _ => none) (Fin7 E)) (fun _ _ => none)) (Fin7 E)) N (S7_2 v0 v1 v5 v8 v9 v10 r6_0 r6_1 r6_2 r6_3 r6_4 r6_5 r7_0 r7_1 r7_2 r7_3 r7_4 r7_5 σ)) v0 v1 σ := by kernel_rfl
theorem P7_1 (v5 : BS) (v8 v9 : V) (r6_0 r6_1 : Int) (r6_2 r6_3 : V) (r6_4 : Int) (r6_5 : V) (r7_0 r7_1 : Int) (r7_2 r7_3 : V) (r7_4 : Int) (r7_5 : V) (σ : H) :
  denC E D W N (C7_1 ) (S7_1 v5 v8 v9 r6_0 r6_1 r6_2 r6_3 r6_4 r6_5 r7_0 r7_1 r7_2 r7_3 r7_4 r7_5 σ) (Fin7 E) (fun _ _ => none) (Fin7 E) =
  T7_1 E D W  v5 v8 v9 r6_0 r6_1 r6_2 r6_3 r6_4 r6_5 r7_0 r7_1 r7_2 r7_3 r7_4 r7_5 σ := by kernel_rfl
theorem P7_2 (cc1 : XC) (cc3 : XC) (cc4 : XC) (li2 : St → Ans) (v0 v1 : V) (v5 : BS) (v8 v9 : V) (v10 r6_0 r6_1 : Int) (r6_2 r6_3 : V) (r6_4 : Int) (r6_5 : V) (r7_0 r7_1 : Int) (r7_2 r7_3 : V) (r7_4 : Int) (r7_5 : V) (σ : H) :
  denC E D W N (C7_2 cc3 cc4) (S7_2 v0 v1 v5 v8 v9 v10 r6_0 r6_1 r6_2 r6_3 r6_4 r6_5 r7_0 r7_1 r7_2 r7_3 r7_4 r7_5 σ) (fun s'' => keepS [(0, .any), (1, .any), (5, .str), (8, .any), (9, .any), (10, .i)] [6, 7] [(6, [.i, .i, .any, .any, .i, .any]), (7, [.i, .i, .any, .any, .i, .any])] s'' li2) (blkK 0 (fun s' => denC E D W N (.keep [(5, .str), (8, .any), (9, .any)] [6, 7] [(6, [.i, .i, .any, .any, .i, .any]), (7, [.i, .i, .any, .any, .i, .any])] cc1) s' (Fin7 E) (fun _ _ => none) (Fin7 E)) (fun _ _ => none)) (Fin7 E) =
  T7_2 E D W (fun v5 v8 v9 r6_0 r6_1 r6_2 r6_3 r6_4 r6_5 r7_0 r7_1 r7_2 r7_3 r7_4 r7_5 σ => denC E D W N cc1 (S7_1 v5 v8 v9 r6_0 r6_1 r6_2 r6_3 r6_4 r6_5 r7_0 r7_1 r7_2 r7_3 r7_4 r7_5 σ) (Fin7 E) (fun _ _ => none) (Fin7 E)) (fun v0 v1 v5 v8 v9 v10 r6_0 r6_1 r6_2 r6_3 r6_4 r6_5 r7_0 r7_1 r7_2 r7_3 r7_4 r7_5 σ => denC E D W N cc4 (S7_4 v0 v1 v5 v8 v9 v10 r6_0 r6_1 r6_2 r6_3 r6_4 r6_5 r7_0 r7_1 r7_2 r7_3 r7_4 r7_5 σ) (fun s' => denC E D W N (.keep [(0, .any), (1, .any), (5, .str), (8, .any), (9, .any), (10, .i)] [6, 7] [(6, [.i, .i, .any, .any, .i, .any]), (7, [.i, .i, .any, .any, .i, .any])] cc3) s' (fun s'' => keepS [(0, .any), (1, .any), (5, .str), (8, .any), (9, .any), (10, .i)] [6, 7] [(6, [.i, .i, .any, .any, .i, .any]), (7, [.i, .i, .any, .any, .i, .any])] s'' li2) (blkK 0 (fun s' => denC E D W N (.keep [(5, .str), (8, .any), (9, .any)] [6, 7] [(6, [.i, .i, .any, .any, .i, .any]), (7, [.i, .i, .any, .any, .i, .any])] cc1) s' (Fin7 E) (fun _ _ => none) (Fin7 E)) (fun _ _ => none)) (Fin7 E)) (blkK 1 (fun s' => denC E D W N (.keep [(0, .any), (1, .any), (5, .str), (8, .any), (9, .any), (10, .i)] [6, 7] [(6, [.i, .i, .any, .any, .i, .any]), (7, [.i, .i, .any, .any, .i, .any])] cc3) s' (fun s'' => keepS [(0, .any), (1, .any), (5, .str), (8, .any), (9, .any), (10, .i)] [6, 7] [(6, [.i, .i, .any, .any, .i, .any]), (7, [.i, .i, .any, .any, .i, .any])] s'' li2) (blkK 0 (fun s' => denC E D W N (.keep [(5, .str), (8, .any), (9, .any)] [6, 7] [(6, [.i, .i, .any, .any, .i, .any]), (7, [.i, .i, .any, .any, .i, .any])] cc1) s' (Fin7 E) (fun _ _ => none) (Fin7 E)) (fun _ _ => none)) (Fin7 E)) (blkK 0 (fun s' => denC E D W N (.keep [(5, .str), (8, .any), (9, .any)] [6, 7] [(6, [.i, .i, .any, .any, .i, .any]), (7, [.i, .i, .any, .any, .i, .any])] cc1) s' (Fin7 E) (fun _ _ => none) (Fin7 E)) (fun _ _ => none))) (Fin7 E)) v0 v1 v5 v8 v9 v10 r6_0 r6_1 r6_2 r6_3 r6_4 r6_5 r7_0 r7_1 r7_2 r7_3 r7_4 r7_5 σ := by kernel_rfl
theorem P7_3 (cc1 : XC) (li2 : St → Ans) (v0 v1 : V) (v5 : BS) (v8 v9 : V) (v10 r6_0 r6_1 : Int) (r6_2 r6_3 : V) (r6_4 : Int) (r6_5 : V) (r7_0 r7_1 : Int) (r7_2 r7_3 : V) (r7_4 : Int) (r7_5 : V) (σ : H) :
  denC E D W N (C7_3 ) (S7_3 v0 v1 v5 v8 v9 v10 r6_0 r6_1 r6_2 r6_3 r6_4 r6_5 r7_0 r7_1 r7_2 r7_3 r7_4 r7_5 σ) (fun s'' => keepS [(0, .any), (1, .any), (5, .str), (8, .any), (9, .any), (10, .i)] [6, 7] [(6, [.i, .i, .any, .any, .i, .any]), (7, [.i, .i, .any, .any, .i, .any])] s'' li2) (blkK 0 (fun s' => denC E D W N (.keep [(5, .str), (8, .any), (9, .any)] [6, 7] [(6, [.i, .i, .any, .any, .i, .any]), (7, [.i, .i, .any, .any, .i, .any])] cc1) s' (Fin7 E) (fun _ _ => none) (Fin7 E)) (fun _ _ => none)) (Fin7 E) =
  T7_3 E D W (fun v0 v1 v5 v8 v9 v10 r6_0 r6_1 r6_2 r6_3 r6_4 r6_5 r7_0 r7_1 r7_2 r7_3 r7_4 r7_5 σ => li2 (S7_2 v0 v1 v5 v8 v9 v10 r6_0 r6_1 r6_2 r6_3 r6_4 r6_5 r7_0 r7_1 r7_2 r7_3 r7_4 r7_5 σ)) v0 v1 v5 v8 v9 v10 r6_0 r6_1 r6_2 r6_3 r6_4 r6_5 r7_0 r7_1 r7_2 r7_3 r7_4 r7_5 σ := by kernel_rfl
theorem P7_4 (cc1 : XC) (cc3 : XC) (li2 : St → Ans) (v0 v1 : V) (v5 : BS) (v8 v9 : V) (v10 r6_0 r6_1 : Int) (r6_2 r6_3 : V) (r6_4 : Int) (r6_5 : V) (r7_0 r7_1 : Int) (r7_2 r7_3 : V) (r7_4 : Int) (r7_5 : V) (σ : H) :
  denC E D W N (C7_4 ) (S7_4 v0 v1 v5 v8 v9 v10 r6_0 r6_1 r6_2 r6_3 r6_4 r6_5 r7_0 r7_1 r7_2 r7_3 r7_4 r7_5 σ) (fun s' => denC E D W N (.keep [(0, .any), (1, .any), (5, .str), (8, .any), (9, .any), (10, .i)] [6, 7] [(6, [.i, .i, .any, .any, .i, .any]), (7, [.i, .i, .any, .any, .i, .any])] cc3) s' (fun s'' => keepS [(0, .any), (1, .any), (5, .str), (8, .any), (9, .any), (10, .i)] [6, 7] [(6, [.i, .i, .any, .any, .i, .any]), (7, [.i, .i, .any, .any, .i, .any])] s'' li2) (blkK 0 (fun s' => denC E D W N (.keep [(5, .str), (8, .any), (9, .any)] [6, 7] [(6, [.i, .i, .any, .any, .i, .any]), (7, [.i, .i, .any, .any, .i, .any])] cc1) s' (Fin7 E) (fun _ _ => none) (Fin7 E)) (fun _ _ => none)) (Fin7 E)) (blkK 1 (fun s' => denC E D W N (.keep [(0, .any), (1, .any), (5, .str), (8, .any), (9, .any), (10, .i)] [6, 7] [(6, [.i, .i, .any, .any, .i, .any]), (7, [.i, .i, .any, .any, .i, .any])] cc3) s' (fun s'' => keepS [(0, .any), (1, .any), (5, .str), (8, .any), (9, .any), (10, .i)] [6, 7] [(6, [.i, .i, .any, .any, .i, .any]), (7, [.i, .i, .any, .any, .i, .any])] s'' li2) (blkK 0 (fun s' => denC E D W N (.keep [(5, .str), (8, .any), (9, .any)] [6, 7] [(6, [.i, .i, .any, .any, .i, .any]), (7, [.i, .i, .any, .any, .i, .any])] cc1) s' (Fin7 E) (fun _ _ => none) (Fin7 E)) (fun _ _ => none)) (Fin7 E)) (blkK 0 (fun s' => denC E D W N (.keep [(5, .str), (8, .any), (9, .any)] [6, 7] [(6, [.i, .i, .any, .any, .i, .any]), (7, [.i, .i, .any, .any, .i, .any])] cc1) s' (Fin7 E) (fun _ _ => none) (Fin7 E)) (fun _ _ => none))) (Fin7 E) =
  T7_4 E D W (fun v0 v1 v5 v8 v9 v10 r6_0 r6_1 r6_2 r6_3 r6_4 r6_5 r7_0 r7_1 r7_2 r7_3 r7_4 r7_5 σ => denC E D W N cc3 (S7_3 v0 v1 v5 v8 v9 v10 r6_0 r6_1 r6_2 r6_3 r6_4 r6_5 r7_0 r7_1 r7_2 r7_3 r7_4 r7_5 σ) (fun s'' => keepS [(0, .any), (1, .any), (5, .str), (8, .any), (9, .any), (10, .i)] [6, 7] [(6, [.i, .i, .any, .any, .i, .any]), (7, [.i, .i, .any, .any, .i, .any])] s'' li2) (blkK 0 (fun s' => denC E D W N (.keep [(5, .str), (8, .any), (9, .any)] [6, 7] [(6, [.i, .i, .any, .any, .i, .any]), (7, [.i, .i, .any, .any, .i, .any])] cc1) s' (Fin7 E) (fun _ _ => none) (Fin7 E)) (fun _ _ => none)) (Fin7 E)) v0 v1 v5 v8 v9 v10 r6_0 r6_1 r6_2 r6_3 r6_4 r6_5 r7_0 r7_1 r7_2 r7_3 r7_4 r7_5 σ := by kernel_rfl
def J7_1 (E : List (Nat × Blk)) (D : Den) (W : DrawFn) (N : Nat) : BS → V → V → Int → Int → V → V → Int → V → Int → Int → V → V → Int → V → H → Ans := T7_1 E D W 
theorem JE7_1 (v5 : BS) (v8 v9 : V) (r6_0 r6_1 : Int) (r6_2 r6_3 : V) (r6_4 : Int) (r6_5 : V) (r7_0 r7_1 : Int) (r7_2 r7_3 : V) (r7_4 : Int) (r7_5 : V) (σ : H) :
  denC E D W N C7_1 (S7_1 v5 v8 v9 r6_0 r6_1 r6_2 r6_3 r6_4 r6_5 r7_0 r7_1 r7_2 r7_3 r7_4 r7_5 σ) (Fin7 E) (fun _ _ => none) (Fin7 E) = J7_1 E D W N v5 v8 v9 r6_0 r6_1 r6_2 r6_3 r6_4 r6_5 r7_0 r7_1 r7_2 r7_3 r7_4 r7_5 σ := by
  refine (P7_1 E D W N   v5 v8 v9 r6_0 r6_1 r6_2 r6_3 r6_4 r6_5 r7_0 r7_1 r7_2 r7_3 r7_4 r7_5 σ).trans ?_
  kernel_rfl
def J7_3 (E : List (Nat × Blk)) (D : Den) (W : DrawFn) (N : Nat) (R2 : V → V → BS → V → V → Int → Int → Int → V → V → Int → V → Int → Int → V → V → Int → V → H → Ans) : V → V → BS → V → V → Int → Int → Int → V → V → Int → V → Int → Int → V → V → Int → V → H → Ans := T7_3 E D W R2
theorem JE7_3 (li2 : St → Ans) (v0 v1 : V) (v5 : BS) (v8 v9 : V) (v10 r6_0 r6_1 : Int) (r6_2 r6_3 : V) (r6_4 : Int) (r6_5 : V) (r7_0 r7_1 : Int) (r7_2 r7_3 : V) (r7_4 : Int) (r7_5 : V) (σ : H) :
  denC E D W N C7_3 (S7_3 v0 v1 v5 v8 v9 v10 r6_0 r6_1 r6_2 r6_3 r6_4 r6_5 r7_0 r7_1 r7_2 r7_3 r7_4 r7_5 σ) (fun s'' => keepS [(0, .any), (1, .any), (5, .str), (8, .any), (9, .any), (10, .i)] [6, 7] [(6, [.i, .i, .any, .any, .i, .any]), (7, [.i, .i, .any, .any, .i, .any])] s'' li2) (blkK 0 (fun s' => denC E D W N (.keep [(5, .str), (8, .any), (9, .any)] [6, 7] [(6, [.i, .i, .any, .any, .i, .any]), (7, [.i, .i, .any, .any, .i, .any])] C7_1) s' (Fin7 E) (fun _ _ => none) (Fin7 E)) (fun _ _ => none)) (Fin7 E) = J7_3 E D W N (fun v0 v1 v5 v8 v9 v10 r6_0 r6_1 r6_2 r6_3 r6_4 r6_5 r7_0 r7_1 r7_2 r7_3 r7_4 r7_5 σ => li2 (S7_2 v0 v1 v5 v8 v9 v10 r6_0 r6_1 r6_2 r6_3 r6_4 r6_5 r7_0 r7_1 r7_2 r7_3 r7_4 r7_5 σ)) v0 v1 v5 v8 v9 v10 r6_0 r6_1 r6_2 r6_3 r6_4 r6_5 r7_0 r7_1 r7_2 r7_3 r7_4 r7_5 σ := by
  refine (P7_3 E D W N C7_1 li2 v0 v1 v5 v8 v9 v10 r6_0 r6_1 r6_2 r6_3 r6_4 r6_5 r7_0 r7_1 r7_2 r7_3 r7_4 r7_5 σ).trans ?_
  kernel_rfl
def J7_4 (R2 : V → V → BS → V → V → Int → Int → Int → V → V → Int → V → Int → Int → V → V → Int → V → H → Ans) : V → V → BS → V → V → Int → Int → Int → V → V → Int → V → Int → Int → V → V → Int → V → H → Ans := T7_4 E D W (J7_3 E D W N R2)
theorem JE7_4 (li2 : St → Ans) (v0 v1 : V) (v5 : BS) (v8 v9 : V) (v10 r6_0 r6_1 : Int) (r6_2 r6_3 : V) (r6_4 : Int) (r6_5 : V) (r7_0 r7_1 : Int) (r7_2 r7_3 : V) (r7_4 : Int) (r7_5 : V) (σ : H) :
  denC E D W N C7_4 (S7_4 v0 v1 v5 v8 v9 v10 r6_0 r6_1 r6_2 r6_3 r6_4 r6_5 r7_0 r7_1 r7_2 r7_3 r7_4 r7_5 σ) (fun s' => denC E D W N (.keep [(0, .any), (1, .any), (5, .str), (8, .any), (9, .any), (10, .i)] [6, 7] [(6, [.i, .i, .any, .any, .i, .any]), (7, [.i, .i, .any, .any, .i, .any])] C7_3) s' (fun s'' => keepS [(0, .any), (1, .any), (5, .str), (8, .any), (9, .any), (10, .i)] [6, 7] [(6, [.i, .i, .any, .any, .i, .any]), (7, [.i, .i, .any, .any, .i, .any])] s'' li2) (blkK 0 (fun s' => denC E D W N (.keep [(5, .str), (8, .any), (9, .any)] [6, 7] [(6, [.i, .i, .any, .any, .i, .any]), (7, [.i, .i, .any, .any, .i, .any])] C7_1) s' (Fin7 E) (fun _ _ => none) (Fin7 E)) (fun _ _ => none)) (Fin7 E)) (blkK 1 (fun s' => denC E D W N (.keep [(0, .any), (1, .any), (5, .str), (8, .any), (9, .any), (10, .i)] [6, 7] [(6, [.i, .i, .any, .any, .i, .any]), (7, [.i, .i, .any, .any, .i, .any])] C7_3) s' (fun s'' => keepS [(0, .any), (1, .any), (5, .str), (8, .any), (9, .any), (10, .i)] [6, 7] [(6, [.i, .i, .any, .any, .i, .any]), (7, [.i, .i, .any, .any, .i, .any])] s'' li2) (blkK 0 (fun s' => denC E D W N (.keep [(5, .str), (8, .any), (9, .any)] [6, 7] [(6, [.i, .i, .any, .any, .i, .any]), (7, [.i, .i, .any, .any, .i, .any])] C7_1) s' (Fin7 E) (fun _ _ => none) (Fin7 E)) (fun _ _ => none)) (Fin7 E)) (blkK 0 (fun s' => denC E D W N (.keep [(5, .str), (8, .any), (9, .any)] [6, 7] [(6, [.i, .i, .any, .any, .i, .any]), (7, [.i, .i, .any, .any, .i, .any])] C7_1) s' (Fin7 E) (fun _ _ => none) (Fin7 E)) (fun _ _ => none))) (Fin7 E) = J7_4 E D W N (fun v0 v1 v5 v8 v9 v10 r6_0 r6_1 r6_2 r6_3 r6_4 r6_5 r7_0 r7_1 r7_2 r7_3 r7_4 r7_5 σ => li2 (S7_2 v0 v1 v5 v8 v9 v10 r6_0 r6_1 r6_2 r6_3 r6_4 r6_5 r7_0 r7_1 r7_2 r7_3 r7_4 r7_5 σ)) v0 v1 v5 v8 v9 v10 r6_0 r6_1 r6_2 r6_3 r6_4 r6_5 r7_0 r7_1 r7_2 r7_3 r7_4 r7_5 σ := by
  refine (P7_4 E D W N C7_1 C7_3 li2 v0 v1 v5 v8 v9 v10 r6_0 r6_1 r6_2 r6_3 r6_4 r6_5 r7_0 r7_1 r7_2 r7_3 r7_4 r7_5 σ).trans ?_
  simp only [JE7_3]
  kernel_rfl
def L7_2 (n : Nat) : V → V → BS → V → V → Int → Int → Int → V → V → Int → V → Int → Int → V → V → Int → V → H → Ans :=
  Nat.rec (fun _ _ _ _ _ _ _ _ _ _ _ _ _ _ _ _ _ _ _ => none) (fun _ ih => T7_2 E D W (J7_1 E D W N ) (J7_4 E D W N ih)) n
theorem LE7_2 (n : Nat) : ∀ (v0 v1 : V) (v5 : BS) (v8 v9 : V) (v10 r6_0 r6_1 : Int) (r6_2 r6_3 : V) (r6_4 : Int) (r6_5 : V) (r7_0 r7_1 : Int) (r7_2 r7_3 : V) (r7_4 : Int) (r7_5 : V) (σ : H),
  iterK (fun rec s' => denC E D W N (C7_2 C7_3 C7_4) s' (fun s'' => keepS [(0, .any), (1, .any), (5, .str), (8, .any), (9, .any), (10, .i)] [6, 7] [(6, [.i, .i, .any, .any, .i, .any]), (7, [.i, .i, .any, .any, .i, .any])] s'' rec) (blkK 0 (fun s' => denC E D W N (.keep [(5, .str), (8, .any), (9, .any)] [6, 7] [(6, [.i, .i, .any, .any, .i, .any]), (7, [.i, .i, .any, .any, .i, .any])] C7_1) s' (Fin7 E) (fun _ _ => none) (Fin7 E)) (fun _ _ => none)) (Fin7 E)) n (S7_2 v0 v1 v5 v8 v9 v10 r6_0 r6_1 r6_2 r6_3 r6_4 r6_5 r7_0 r7_1 r7_2 r7_3 r7_4 r7_5 σ) = L7_2 E D W N n v0 v1 v5 v8 v9 v10 r6_0 r6_1 r6_2 r6_3 r6_4 r6_5 r7_0 r7_1 r7_2 r7_3 r7_4 r7_5 σ := by
  induction n with
  | zero => intro v0 v1 v5 v8 v9 v10 r6_0 r6_1 r6_2 r6_3 r6_4 r6_5 r7_0 r7_1 r7_2 r7_3 r7_4 r7_5 σ; rfl
  | succ n ihn =>
    intro v0 v1 v5 v8 v9 v10 r6_0 r6_1 r6_2 r6_3 r6_4 r6_5 r7_0 r7_1 r7_2 r7_3 r7_4 r7_5 σ
    rw [iterK_succ]
    refine (P7_2 E D W N C7_1 C7_3 C7_4 (iterK (fun rec s' => denC E D W N (C7_2 C7_3 C7_4) s' (fun s'' => keepS [(0, .any), (1, .any), (5, .str), (8, .any), (9, .any), (10, .i)] [6, 7] [(6, [.i, .i, .any, .any, .i, .any]), (7, [.i, .i, .any, .any, .i, .any])] s'' rec) (blkK 0 (fun s' => denC E D W N (.keep [(5, .str), (8, .any), (9, .any)] [6, 7] [(6, [.i, .i, .any, .any, .i, .any]), (7, [.i, .i, .any, .any, .i, .any])] C7_1) s' (Fin7 E) (fun _ _ => none) (Fin7 E)) (fun _ _ => none)) (Fin7 E)) n) v0 v1 v5 v8 v9 v10 r6_0 r6_1 r6_2 r6_3 r6_4 r6_5 r7_0 r7_1 r7_2 r7_3 r7_4 r7_5 σ).trans ?_
    simp only [ihn, JE7_1, JE7_4]
    kernel_rfl
def J7_0 : V → V → H → Ans := T7_0 E D W (L7_2 E D W N N)
theorem JE7_0 (v0 v1 : V) (σ : H) :
  denC E D W N (C7_0 C7_1 (C7_2 C7_3 C7_4)) (S7_0 v0 v1 σ) (Fin7 E) (fun _ _ => none) (Fin7 E) = J7_0 E D W N v0 v1 σ := by
  refine (P7_0 E D W N C7_1 (C7_2 C7_3 C7_4)  v0 v1 σ).trans ?_
  simp only [LE7_2]
  kernel_rfl
def F7 (args : List V) (σ : H) : Ans :=
 rtCons args fun x1 l2 =>
 rtCons l2 fun x3 l4 =>
 rtNil l4 (
 J7_0 E D W N x1 x3 σ)
def A7 : XFn := ⟨156, [.any, .any], [(.tmp 4)], (C7_0 C7_1 (C7_2 C7_3 C7_4))⟩
theorem FE7 (args : List V) (σ : H) : runX E D W N A7 args σ = F7 E D W N args σ := by
  unfold F7
  simp only [← JE7_0]
  kernel_rfl
theorem AO7 : A7.body.ok = true := by kernel_rfl

def G14_0 : List AOper := [⟨(some 29), .load (some 4) (.tmp 7), none⟩, ⟨(some 30), .mov (.tmp 9), none⟩, ⟨(some 31), .bin .eql .none (.tmp 30) (.con (V.int .i64 (Int.ofNat 0))), none⟩, ⟨(some 32), .mov (.tmp 31), none⟩, ⟨(some 33), .faddr 3 (.tmp 7), (some (32, true))⟩, ⟨(some 34), .load none (.tmp 33), (some (32, true))⟩, ⟨(some 35), .len false (.tmp 34), (some (32, true))⟩, ⟨(some 36), .bin .leq .none (.tmp 35) (.con (V.int .i64 (Int.ofNat 120))), (some (32, true))⟩, ⟨(some 37), .pick (.tmp 32) (.tmp 36) (.con (V.bool false)), none⟩, ⟨none, .store 4 (.tmp 2) (.tmp 29), none⟩, ⟨(some 3), .mov (.tmp 37), none⟩]
def H14_0 : List DP := [⟨0, [7]⟩, ⟨0, [9]⟩, ⟨2, [30]⟩, ⟨6, [31]⟩, ⟨14, [7, 32]⟩, ⟨30, [33, 32]⟩, ⟨62, [34, 32]⟩, ⟨126, [35, 32]⟩, ⟨254, [32, 36]⟩, ⟨15, [2, 29]⟩, ⟨1023, [37]⟩]
def C14_0 : XC := (.seq (.ops (.p 2 [] (.alloc 31 [(V.str ⟨0, 0⟩), V.nils, V.nils, V.nils])<|
.c 3 (V.bool false)<|
.nil))
 (.seq (.seq (.ops (.m 10 0<|
.p 11 [10] (.len true (.t 10))<|
.b 12 .gtr .none (.t 11) (.i 3000)<|
.nil))
 (.cond (.tmp 12) (.seq (.ops (.op (some 13) (.agg [.str, .any, .any, .any]) [] (.build [(V.str ⟨0, 0⟩), V.nils, V.nils, V.nils] [])<|
.op none (.agg [.str, .any, .any, .any]) [2, 13] (.store 4 (.t 2) (.t 13))<|
.c 3 (V.bool false)<|
.nil))
 .ret)
 .skip))
 (.seq (.ops (.m 15 0<|
.k 16 (.tup [(.agg [.str, .i, .any, .any, .any]), .i, .i]) 35 [(.t 15)]<|
.m 14 16<|
.p 17 [14] (.extract 0 (.t 14))<|
.p 18 [14] (.extract 1 (.t 14))<|
.p 19 [14] (.extract 2 (.t 14))<|
.pal 4 [] 77 [(V.str ⟨0, 0⟩), (V.int .i64 (Int.ofNat 0)), V.nils, V.nils, V.nils]<|
.op none (.agg [.str, .i, .any, .any, .any]) [4, 17] (.store 5 (.t 4) (.t 17))<|
.m 5 18<|
.m 6 19<|
.nil))
 (.seq (.seq (.ops (.m 20 6<|
.b 21 .neq .none (.t 20) (.i 0)<|
.nil))
 (.cond (.tmp 21) (.seq (.ops (.op (some 22) (.agg [.str, .any, .any, .any]) [] (.build [(V.str ⟨0, 0⟩), V.nils, V.nils, V.nils] [])<|
.op none (.agg [.str, .any, .any, .any]) [2, 22] (.store 4 (.t 2) (.t 22))<|
.c 3 (V.bool false)<|
.nil))
 .ret)
 .skip))
 (.seq (.ops (.op (some 24) (.agg [.str, .i, .any, .any, .any]) [4] (.load (some 5) (.t 4))<|
.k 25 (.tup [(.agg [.str, .any, .any, .any]), .i, .i]) 36 [(.t 24)]<|
.m 23 25<|
.p 26 [23] (.extract 0 (.t 23))<|
.p 27 [23] (.extract 1 (.t 23))<|
.p 28 [23] (.extract 2 (.t 23))<|
.p 7 [] (.alloc 31 [(V.str ⟨0, 0⟩), V.nils, V.nils, V.nils])<|
.op none (.agg [.str, .any, .any, .any]) [7, 26] (.store 4 (.t 7) (.t 26))<|
.m 8 27<|
.m 9 28<|
.nil))
 (.seq (.keep [(2, .ptr), (7, .ptr), (9, .i)] [] [] (.gdraw G14_0 H14_0 [(2, .ptr), (3, .bool)]))
 .ret))))))
def A14 : XFn := ⟨38, [.str], [(.cell 2 (some 4)), (.tmp 3)], C14_0⟩
def C17_0 : XC := (.seq (.ops (.c 0 (V.bool false)<|
.nil))
 (.seq (.ops (.k 6 (.tup [(.agg [.str, .any, .any, .any]), .bool]) 14 [(.con (V.str ⟨41, 145900179995333954216557689677160891860716323920814376213684332133593913010240256891377436263194701⟩))]<|
.m 5 6<|
.p 7 [5] (.extract 0 (.t 5))<|
.p 8 [5] (.extract 1 (.t 5))<|
.pal 1 [] 31 [(V.str ⟨0, 0⟩), V.nils, V.nils, V.nils]<|
.op none (.agg [.str, .any, .any, .any]) [1, 7] (.store 4 (.t 1) (.t 7))<|
.m 2 8<|
.nil))
 (.seq (.ops (.op (some 10) (.agg [.str, .any, .any, .any]) [1] (.load (some 4) (.t 1))<|
.op (some 11) (.agg [.i, .i, .any, .any, .i, .any]) [] (.build [(V.int .i64 (Int.ofNat 0)), (V.int .i64 (Int.ofNat 0)), V.nils, V.nils, (V.int .i64 (Int.ofNat 0)), V.nils] [(0, 1, (.i 2)), (1, 1, (.i 5))])<|
.k 12 (.tup [.any, .i]) 18 [(.t 10), (.i 0), (.t 11)]<|
.m 9 12<|
.p 13 [9] (.extract 0 (.t 9))<|
.p 14 [9] (.extract 1 (.t 9))<|
.m 3 13<|
.m 4 14<|
.nil))
 (.seq (.ops (.m 15 2<|
.m 16 15<|
.grp 16 true (.p 17 [4, 16] (.mov (.t 4))<|
.p 18 [17, 16] (.bin .eql .none (.t 17) (.i 0))<|
.nil) 19 [16, 18] (.t 16) (.t 18) (.con (V.bool false))<|
.m 20 19<|
.grp 20 true (.p 21 [3, 20] (.mov (.t 3))<|
.p 22 [21, 20] (.len false (.t 21))<|
.p 23 [22, 20] (.bin .eql .none (.t 22) (.i 3))<|
.nil) 24 [20, 23] (.t 20) (.t 23) (.con (V.bool false))<|
.m 25 24<|
.grp 25 true (.p 26 [3, 25] (.mov (.t 3))<|
.p 27 [26, 25] (.iaddrS 1 (.t 26) (.i 0))<|
.op (some 28) (.int .u8) [27, 25] (.load none (.t 27))<|
.p 29 [28, 25] (.bin .eql .none (.t 28) (.con (V.int .u8 (Int.ofNat 2))))<|
.nil) 30 [25, 29] (.t 25) (.t 29) (.con (V.bool false))<|
.m 31 30<|
.grp 31 true (.p 32 [3, 31] (.mov (.t 3))<|
.p 33 [32, 31] (.iaddrS 1 (.t 32) (.i 1))<|
.op (some 34) (.int .u8) [33, 31] (.load none (.t 33))<|
.p 35 [34, 31] (.bin .eql .none (.t 34) (.con (V.int .u8 (Int.ofNat 1))))<|
.nil) 36 [31, 35] (.t 31) (.t 35) (.con (V.bool false))<|
.m 37 36<|
.grp 37 true (.p 38 [3, 37] (.mov (.t 3))<|
.p 39 [38, 37] (.iaddrS 1 (.t 38) (.i 2))<|
.op (some 40) (.int .u8) [39, 37] (.load none (.t 39))<|
.p 41 [40, 37] (.bin .eql .none (.t 40) (.con (V.int .u8 (Int.ofNat 5))))<|
.nil) 42 [37, 41] (.t 37) (.t 41) (.con (V.bool false))<|
.m 0 42<|
.nil))
 .ret))))
def A17 : XFn := ⟨43, [], [(.tmp 0)], C17_0⟩
/-! ### F18: ogham_der.Encode -/
def Fin18 (E : List (Nat × Blk)) : St → Ans := fun s => resK E s [(.tmp 6), (.tmp 7)] fun l => some (oneV l, s.σ)
def C18_0 : XC := (.seq (.ops (.p 3 [0] (.box 31 (.t 0))<|
.p 5 [2] (.box 26 (.t 2))<|
.c 6 V.nils<|
.q 7 0<|
.nil))
 (.seq (.block 0 (.seq (.ops (.op (some 11) (.agg [.str, .any, .any, .any]) [3] (.load (some 4) (.t 3))<|
.m 12 1<|
.op (some 13) (.agg [.i, .i, .any, .any, .i, .any]) [5] (.load (some 6) (.t 5))<|
.k 14 .bool 38 [(.t 11), (.t 12), (.t 13)]<|
.p 15 [14] (.un .not (.t 14))<|
.m 10 15<|
.nil))
 (.cond (.tmp 10) (.seq (.ops (.c 6 V.nils<|
.q 7 13<|
.nil))
 .ret)
 (.seq (.ops (.op (some 17) (.agg [.i, .i, .any, .any, .i, .any]) [5] (.load (some 6) (.t 5))<|
.k 18 .bool 39 [(.t 17), (.i 1)]<|
.p 19 [18] (.un .not (.t 18))<|
.m 16 19<|
.nil))
 (.cond (.tmp 16) (.seq (.ops (.c 6 V.nils<|
.q 7 16<|
.nil))
 .ret)
 .skip)))))
 (.seq (.ops (.op (some 20) (.agg [.str, .any, .any, .any]) [3] (.load (some 4) (.t 3))<|
.op (some 21) (.agg [.str, .any, .any, .any]) [20] (.build [(V.str ⟨0, 0⟩), V.nils, V.nils, V.nils] [(0, 4, (.t 20))])<|
.p 22 [21] (.box 86 (.t 21))<|
.m 8 22<|
.nil))
 (.seq (.ops (.m 23 8<|
.m 24 1<|
.op (some 25) (.agg [.i, .i, .any, .any, .i, .any]) [5] (.load (some 6) (.t 5))<|
.k 26 .one 40 [(.t 23), (.t 24), (.t 25)]<|
.m 9 26<|
.nil))
 (.seq (.seq (.ops (.m 27 9<|
.u 28 27<|
.b 29 .gtr .none (.t 28) (.i 70000)<|
.nil))
 (.cond (.tmp 29) (.seq (.ops (.c 6 V.nils<|
.q 7 5<|
.nil))
 .ret)
 .skip))
 (.seq (.ops (.m 30 9<|
.m 6 30<|
.q 7 0<|
.nil))
 .ret))))))
def T18_0 (E : List (Nat × Blk)) (D : Den) (W : DrawFn) (v0_0 : BS) (v0_1 v0_2 v0_3 : V) (v1 v2_0 v2_1 : Int) (v2_2 v2_3 : V) (v2_4 : Int) (v2_5 : V) (σ : H) : Ans :=
 chk (allOne (V.cells (V.agg [(V.str v0_0), v0_1, v0_2, v0_3]))) (
 let s1 := newB σ (.cells (V.cells (V.agg [(V.str v0_0), v0_1, v0_2, v0_3])));
 chk (allOne (V.cells (V.agg [(V.int .i64 v2_0), (V.int .i64 v2_1), v2_2, v2_3, (V.int .i64 v2_4), v2_5]))) (
 let s2 := newB s1 (.cells (V.cells (V.agg [(V.int .i64 v2_0), (V.int .i64 v2_1), v2_2, v2_3, (V.int .i64 v2_4), v2_5])));
 ldnK E s2 (H.next σ) 0 4 fun l3 =>
 rtCons l3 fun x4 l5 =>
 rtStr x4 fun x6 =>
 rtCons l5 fun x7 l8 =>
 rtCons l8 fun x9 l10 =>
 rtCons l10 fun x11 l12 =>
 rtNil l12 (
 ldnK E s2 (H.next s1) 0 6 fun l13 =>
 rtCons l13 fun x14 l15 =>
 rtInt .i64 x14 fun x16 =>
 rtCons l15 fun x17 l18 =>
 rtInt .i64 x17 fun x19 =>
 rtCons l18 fun x20 l21 =>
 rtCons l21 fun x22 l23 =>
 rtCons l23 fun x24 l25 =>
 rtInt .i64 x24 fun x26 =>
 rtCons l25 fun x27 l28 =>
 rtNil l28 (
 callK (D 38 [(V.agg [(V.str x6), x7, x9, x11]), (V.int .i64 v1), (V.agg [(V.int .i64 x16), (V.int .i64 x19), x20, x22, (V.int .i64 x26), x27])] s2) fun u29 s30 =>
 rtBool u29 fun x31 =>
 condK (not x31) (
 some ((V.tup [V.nils, (V.int .i64 (Int.ofNat 13))]), s30)) (
 ldnK E s30 (H.next s1) 0 6 fun l32 =>
 rtCons l32 fun x33 l34 =>
 rtInt .i64 x33 fun x35 =>
 rtCons l34 fun x36 l37 =>
 rtInt .i64 x36 fun x38 =>
 rtCons l37 fun x39 l40 =>
 rtCons l40 fun x41 l42 =>
 rtCons l42 fun x43 l44 =>
 rtInt .i64 x43 fun x45 =>
 rtCons l44 fun x46 l47 =>
 rtNil l47 (
 callK (D 39 [(V.agg [(V.int .i64 x35), (V.int .i64 x38), x39, x41, (V.int .i64 x45), x46]), (V.int .i64 (Int.ofNat 1))] s30) fun u48 s49 =>
 rtBool u48 fun x50 =>
 condK (not x50) (
 some ((V.tup [V.nils, (V.int .i64 (Int.ofNat 16))]), s49)) (
 ldnK E s49 (H.next σ) 0 4 fun l51 =>
 rtCons l51 fun x52 l53 =>
 rtStr x52 fun x54 =>
 rtCons l53 fun x55 l56 =>
 rtCons l56 fun x57 l58 =>
 rtCons l58 fun x59 l60 =>
 rtNil l60 (
 chk (allOne (V.cells (V.agg [(V.str x54), x55, x57, x59]))) (
 let s61 := newB s49 (.cells (V.cells (V.agg [(V.str x54), x55, x57, x59])));
 ldnK E s61 (H.next s1) 0 6 fun l62 =>
 rtCons l62 fun x63 l64 =>
 rtInt .i64 x63 fun x65 =>
 rtCons l64 fun x66 l67 =>
 rtInt .i64 x66 fun x68 =>
 rtCons l67 fun x69 l70 =>
 rtCons l70 fun x71 l72 =>
 rtCons l72 fun x73 l74 =>
 rtInt .i64 x73 fun x75 =>
 rtCons l74 fun x76 l77 =>
 rtNil l77 (
 callK (D 40 [(V.ptr (H.next s49) 0), (V.int .i64 v1), (V.agg [(V.int .i64 x65), (V.int .i64 x68), x69, x71, (V.int .i64 x75), x76])] s61) fun u78 s79 =>
 rtOne u78 (
 slenK u78 fun n80 =>
 condK (ltF (Int.ofNat 70000) (Int.ofNat n80)) (
 some ((V.tup [V.nils, (V.int .i64 (Int.ofNat 5))]), s79)) (
 some ((V.tup [u78, (V.int .i64 (Int.ofNat 0))]), s79)))))))))))))
def S18_0 (v0_0 : BS) (v0_1 v0_2 v0_3 : V) (v1 v2_0 v2_1 : Int) (v2_2 v2_3 : V) (v2_4 : Int) (v2_5 : V) (σ : H) : St := ⟨[(0, (V.agg [(V.str v0_0), v0_1, v0_2, v0_3])), (1, (V.int .i64 v1)), (2, (V.agg [(V.int .i64 v2_0), (V.int .i64 v2_1), v2_2, v2_3, (V.int .i64 v2_4), v2_5]))], [], [], σ⟩
theorem P18_0 (v0_0 : BS) (v0_1 v0_2 v0_3 : V) (v1 v2_0 v2_1 : Int) (v2_2 v2_3 : V) (v2_4 : Int) (v2_5 : V) (σ : H) :
  denC E D W N (C18_0 ) (S18_0 v0_0 v0_1 v0_2 v0_3 v1 v2_0 v2_1 v2_2 v2_3 v2_4 v2_5 σ) (Fin18 E) (fun _ _ => none) (Fin18 E) =
  T18_0 E D W  v0_0 v0_1 v0_2 v0_3 v1 v2_0 v2_1 v2_2 v2_3 v2_4 v2_5 σ := by kernel_rfl
def J18_0 (E : List (Nat × Blk)) (D : Den) (W : DrawFn) (N : Nat) : BS → V → V → V → Int → Int → Int → V → V → Int → V → H → Ans := T18_0 E D W 
theorem JE18_0 (v0_0 : BS) (v0_1 v0_2 v0_3 : V) (v1 v2_0 v2_1 : Int) (v2_2 v2_3 : V) (v2_4 : Int) (v2_5 : V) (σ : H) :
  denC E D W N C18_0 (S18_0 v0_0 v0_1 v0_2 v0_3 v1 v2_0 v2_1 v2_2 v2_3 v2_4 v2_5 σ) (Fin18 E) (fun _ _ => none) (Fin18 E) = J18_0 E D W N v0_0 v0_1 v0_2 v0_3 v1 v2_0 v2_1 v2_2 v2_3 v2_4 v2_5 σ := by
  refine (P18_0 E D W N   v0_0 v0_1 v0_2 v0_3 v1 v2_0 v2_1 v2_2 v2_3 v2_4 v2_5 σ).trans ?_
  kernel_rfl
def F18 (args : List V) (σ : H) : Ans :=
 rtCons args fun x1 l2 =>
 rtAgg x1 fun l3 =>
 rtCons l3 fun x4 l5 =>
 rtStr x4 fun x6 =>
 rtCons l5 fun x7 l8 =>
 rtCons l8 fun x9 l10 =>
 rtCons l10 fun x11 l12 =>
 rtNil l12 (
 rtCons l2 fun x13 l14 =>
 rtInt .i64 x13 fun x15 =>
 rtCons l14 fun x16 l17 =>
 rtAgg x16 fun l18 =>
 rtCons l18 fun x19 l20 =>
 rtInt .i64 x19 fun x21 =>
 rtCons l20 fun x22 l23 =>
 rtInt .i64 x22 fun x24 =>
 rtCons l23 fun x25 l26 =>
 rtCons l26 fun x27 l28 =>
 rtCons l28 fun x29 l30 =>
 rtInt .i64 x29 fun x31 =>
 rtCons l30 fun x32 l33 =>
 rtNil l33 (
 rtNil l17 (
 J18_0 E D W N x6 x7 x9 x11 x15 x21 x24 x25 x27 x31 x32 σ)))
def A18 : XFn := ⟨31, [(.agg [.str, .any, .any, .any]), .i, (.agg [.i, .i, .any, .any, .i, .any])], [(.tmp 6), (.tmp 7)], C18_0⟩
theorem FE18 (args : List V) (σ : H) : runX E D W N A18 args σ = F18 E D W N args σ := by
  unfold F18
  simp only [← JE18_0]
  kernel_rfl
theorem AO18 : A18.body.ok = true := by kernel_rfl

/-! ### F20: ogham_oghamhelp.Bytes -/
def Fin20 (E : List (Nat × Blk)) : St → Ans := fun s => resK E s [(.tmp 4)] fun l => some (oneV l, s.σ)
def C20_0 : XC := (.seq (.ops (.c 4 (V.bool false)<|
.nil))
 (.seq (.ops (.m 5 0<|
.p 6 [5] (.conv .toStr (.t 5))<|
.m 7 1<|
.p 8 [7] (.conv .toStr (.t 7))<|
.b 9 .eql .none (.t 6) (.t 8)<|
.m 4 9<|
.nil))
 .ret))
def T20_0 (E : List (Nat × Blk)) (D : Den) (W : DrawFn) (v0 v1 : V) (σ : H) : Ans :=
 toStrK E σ v0 fun t1 =>
 toStrK E σ v1 fun t2 =>
 some ((V.bool (BS.beq t1 t2)), σ)
def S20_0 (v0 v1 : V) (σ : H) : St := ⟨[(0, v0), (1, v1)], [], [], σ⟩
theorem P20_0 (v0 v1 : V) (σ : H) :
  denC E D W N (C20_0 ) (S20_0 v0 v1 σ) (Fin20 E) (fun _ _ => none) (Fin20 E) =
  T20_0 E D W  v0 v1 σ := by kernel_rfl
def J20_0 (E : List (Nat × Blk)) (D : Den) (W : DrawFn) (N : Nat) : V → V → H → Ans := T20_0 E D W 
theorem JE20_0 (v0 v1 : V) (σ : H) :
  denC E D W N C20_0 (S20_0 v0 v1 σ) (Fin20 E) (fun _ _ => none) (Fin20 E) = J20_0 E D W N v0 v1 σ := by
  refine (P20_0 E D W N   v0 v1 σ).trans ?_
  kernel_rfl
def F20 (args : List V) (σ : H) : Ans :=
 rtCons args fun x1 l2 =>
 rtCons l2 fun x3 l4 =>
 rtNil l4 (
 J20_0 E D W N x1 x3 σ)
def A20 : XFn := ⟨10, [.any, .any], [(.tmp 4)], C20_0⟩
theorem FE20 (args : List V) (σ : H) : runX E D W N A20 args σ = F20 E D W N args σ := by
  unfold F20
  simp only [← JE20_0]
  kernel_rfl
theorem AO20 : A20.body.ok = true := by kernel_rfl

def C24_0 (cc1 : XC) (cc2 : XC) : XC := (.seq (.ops (.c 4 (V.bool false)<|
.nil))
 (.seq (.seq (.ops (.q 5 0<|
.nil))
 (.block 0 (.loop [(0, .any), (1, .i), (5, .i)] [] [] cc2)))
 (.keep [] [] [] cc1)))
def C24_1 : XC := (.seq (.ops (.c 4 (V.bool false)<|
.nil))
 .ret)
def C24_2 : XC := (.seq (.seq (.ops (.m 6 5<|
.m 7 0<|
.u 8 7<|
.b 9 .lss .none (.t 6) (.t 8)<|
.nil))
 (.cond (.tmp 9) .skip
 (.exit 0)))
 (.seq (.block 1 (.seq (.ops (.m 12 0<|
.m 13 5<|
.s 14 1 12 13<|
.l 15 .i 14<|
.m 16 1<|
.b 17 .eql .none (.t 15) (.t 16)<|
.nil))
 (.cond (.tmp 17) (.seq (.ops (.c 4 (V.bool true)<|
.nil))
 .ret)
 .skip)))
 (.ops (.m 10 5<|
.b 11 .add .none (.t 10) (.i 1)<|
.m 5 11<|
.nil))))
def A24 : XFn := ⟨18, [.any, .i], [(.tmp 4)], (C24_0 C24_1 C24_2)⟩
/-! ### F25: ogham_oghamhelp.Digits -/
def G25_0 : List AOper := [⟨(some 10), .mov (.tmp 0), none⟩, ⟨(some 11), .bin .quo .none (.tmp 10) (.con (V.int .u64 (Int.ofNat 10))), none⟩, ⟨(some 12), .call 25 [(.tmp 11)], none⟩, ⟨(some 13), .mov (.tmp 0), none⟩, ⟨(some 14), .bin .rem .none (.tmp 13) (.con (V.int .u64 (Int.ofNat 10))), none⟩, ⟨(some 15), .bin .add .none (.con (V.int .u64 (Int.ofNat 48))) (.tmp 14), none⟩, ⟨(some 16), .conv (.toInt .u8) (.tmp 15), none⟩, ⟨(some 17), .buildSlice 5 1 [(V.int .u8 (Int.ofNat 0))] [(0, 1, (.tmp 16))], none⟩, ⟨(some 18), .conv .toStr (.tmp 17), none⟩, ⟨(some 19), .bin .add .none (.tmp 12) (.tmp 18), none⟩, ⟨(some 2), .mov (.tmp 19), none⟩]
def H25_0 : List DP := [⟨0, [0]⟩, ⟨1, [10]⟩, ⟨3, [11]⟩, ⟨0, [0]⟩, ⟨8, [13]⟩, ⟨24, [14]⟩, ⟨56, [15]⟩, ⟨120, [16]⟩, ⟨248, [17]⟩, ⟨511, [12, 18]⟩, ⟨1023, [19]⟩]
def Fin25 (E : List (Nat × Blk)) : St → Ans := fun s => resK E s [(.tmp 2)] fun l => some (oneV l, s.σ)
def C25_0 : XC := (.seq (.ops (.c 2 (V.str ⟨0, 0⟩)<|
.nil))
 (.seq (.seq (.ops (.m 3 0<|
.b 4 .lss .none (.t 3) (.con (V.int .u64 (Int.ofNat 10)))<|
.nil))
 (.cond (.tmp 4) (.seq (.ops (.m 5 0<|
.b 6 .add .none (.con (V.int .u64 (Int.ofNat 48))) (.t 5)<|
.p 7 [6] (.conv (.toInt .u8) (.t 6))<|
.p 8 [7] (.buildSlice 5 1 [(V.int .u8 (Int.ofNat 0))] [(0, 1, (.t 7))])<|
.p 9 [8] (.conv .toStr (.t 8))<|
.m 2 9<|
.nil))
 .ret)
 .skip))
 (.seq (.keep [(0, (.int .u64))] [] [] (.gdraw G25_0 H25_0 [(2, .str)]))
 .ret)))
def T25_0 (E : List (Nat × Blk)) (D : Den) (W : DrawFn) (v0 : Int) (σ : H) : Ans :=
 condK (ltF v0 (Int.ofNat 10)) (
 let s1 := newB σ (.cells [(V.int .u8 (wrapF .u8 (addF .u64 (Int.ofNat 48) v0)))]);
 toStrK E s1 (V.sl (H.next σ) 0 1 (.ex 1)) fun t2 =>
 some ((V.str t2), s1)) (
 gdrawK (W G25_0 H25_0 [(0, (V.int .u64 v0))] σ) fun e3 s4 =>
 getL e3 2 fun u5 =>
 rtStr u5 fun x6 =>
 some ((V.str x6), s4))
def S25_0 (v0 : Int) (σ : H) : St := ⟨[(0, (V.int .u64 v0))], [], [], σ⟩
theorem P25_0 (v0 : Int) (σ : H) :
  denC E D W N (C25_0 ) (S25_0 v0 σ) (Fin25 E) (fun _ _ => none) (Fin25 E) =
  T25_0 E D W  v0 σ := by kernel_rfl
def J25_0 (E : List (Nat × Blk)) (D : Den) (W : DrawFn) (N : Nat) : Int → H → Ans := T25_0 E D W 
theorem JE25_0 (v0 : Int) (σ : H) :
  denC E D W N C25_0 (S25_0 v0 σ) (Fin25 E) (fun _ _ => none) (Fin25 E) = J25_0 E D W N v0 σ := by
  refine (P25_0 E D W N   v0 σ).trans ?_
  kernel_rfl
def F25 (args : List V) (σ : H) : Ans :=
 rtCons args fun x1 l2 =>
 rtInt .u64 x1 fun x3 =>
 rtNil l2 (
 J25_0 E D W N x3 σ)
def A25 : XFn := ⟨20, [(.int .u64)], [(.tmp 2)], C25_0⟩
theorem FE25 (args : List V) (σ : H) : runX E D W N A25 args σ = F25 E D W N args σ := by
  unfold F25
  simp only [← JE25_0]
  kernel_rfl
theorem AO25 : A25.body.ok = true := by kernel_rfl

/-! ### F26: ogham_oghamref02.Signed -/
def Fin26 (E : List (Nat × Blk)) : St → Ans := fun s => resK E s [(.tmp 2)] fun l => some (oneV l, s.σ)
def C26_0 (cc1 : XC) (cc2 : XC) : XC := (.seq (.ops (.c 2 V.nils<|
.nil))
 (.seq (.ops (.m 4 0<|
.p 5 [4] (.conv (.toInt .u8) (.t 4))<|
.p 6 [5] (.buildSlice 5 1 [(V.int .u8 (Int.ofNat 0))] [(0, 1, (.t 5))])<|
.m 3 6<|
.nil))
 (.seq (.block 0 (.loop [(0, .i), (3, .any)] [] [] cc2))
 (.keep [(3, .any)] [] [] cc1))))
def T26_0 (E : List (Nat × Blk)) (D : Den) (W : DrawFn) (K2 : Int → V → H → Ans) (v0 : Int) (σ : H) : Ans :=
 let s1 := newB σ (.cells [(V.int .u8 (wrapF .u8 v0))]);
 K2 v0 (V.sl (H.next σ) 0 1 (.ex 1)) s1
def C26_1 : XC := (.seq (.ops (.m 20 3<|
.m 2 20<|
.nil))
 .ret)
def T26_1 (E : List (Nat × Blk)) (D : Den) (W : DrawFn) (v3 : V) (σ : H) : Ans :=
 some (v3, σ)
def C26_2 : XC := (.seq (.seq (.ops (.m 7 0<|
.b 8 .lss .none (.t 7) (.con (V.int .i64 (Int.negSucc 127)))<|
.m 9 8<|
.grp 9 false (.p 10 [0, 9] (.mov (.t 0))<|
.p 11 [10, 9] (.bin .gtr .none (.t 10) (.i 127))<|
.nil) 12 [9, 11] (.t 9) (.con (V.bool true)) (.t 11)<|
.nil))
 (.cond (.tmp 12) .skip
 (.exit 0)))
 (.block 1 (.seq (.ops (.m 13 0<|
.b 14 .shr .none (.t 13) (.con (V.int .u64 (Int.ofNat 8)))<|
.m 0 14<|
.nil))
 (.ops (.m 15 0<|
.p 16 [15] (.conv (.toInt .u8) (.t 15))<|
.p 17 [16] (.buildSlice 5 1 [(V.int .u8 (Int.ofNat 0))] [(0, 1, (.t 16))])<|
.m 18 3<|
.op (some 19) .one [17, 18] (.append 5 1 1 (.t 17) (.t 18))<|
.m 3 19<|
.nil)))))
def T26_2 (E : List (Nat × Blk)) (D : Den) (W : DrawFn) (K1 : V → H → Ans) (R2 : Int → V → H → Ans) (v0 : Int) (v3 : V) (σ : H) : Ans :=
 joinB (fun c1 s2 =>
 condK c1 (
 let s4 := newB s2 (.cells [(V.int .u8 (wrapF .u8 (shrF .i64 v0 8)))]);
 appK E 1 1 (V.sl (H.next s2) 0 1 (.ex 1)) v3 s4 fun u5 s6 =>
 rtOne u5 (
 R2 (shrF .i64 v0 8) u5 s6)) (
 K1 v3 s2)) fun k3 =>
 condK (ltF v0 (Int.negSucc 127)) (
 k3 true σ) (
 k3 (ltF (Int.ofNat 127) v0) σ)
def S26_0 (v0 : Int) (σ : H) : St := ⟨[(0, (V.int .i64 v0))], [], [], σ⟩
def S26_1 (v3 : V) (σ : H) : St := ⟨[(3, v3)], [], [], σ⟩
def S26_2 (v0 : Int) (v3 : V) (σ : H) : St := ⟨[(0, (V.int .i64 v0)), (3, v3)], [], [], σ⟩
theorem P26_0 (cc1 : XC) (cc2 : XC) (v0 : Int) (σ : H) :
  denC E D W N (C26_0 cc1 cc2) (S26_0 v0 σ) (Fin26 E) (fun _ _ => none) (Fin26 E) =
  T26_0 E D W (fun v0 v3 σ => iterK (fun rec s' => denC E D W N cc2 s' (fun s'' => keepS [(0, .i), (3, .any)] [] [] s'' rec) (blkK 0 (fun s' => denC E D W N (.keep [(3, .any)] [] [] cc1) s' (Fin26 E) (fun _ _ => none) (Fin26 E)) (fun _ _ => none)) (Fin26 E)) N (S26_2 v0 v3 σ)) v0 σ := by kernel_rfl
theorem P26_1 (v3 : V) (σ : H) :
  denC E D W N (C26_1 ) (S26_1 v3 σ) (Fin26 E) (fun _ _ => none) (Fin26 E) =
  T26_1 E D W  v3 σ := by kernel_rfl
theorem P26_2 (cc1 : XC) (li2 : St → Ans) (v0 : Int) (v3 : V) (σ : H) :
  denC E D W N (C26_2 ) (S26_2 v0 v3 σ) (fun s'' => keepS [(0, .i), (3, .any)] [] [] s'' li2) (blkK 0 (fun s' => denC E D W N (.keep [(3, .any)] [] [] cc1) s' (Fin26 E) (fun _ _ => none) (Fin26 E)) (fun _ _ => none)) (Fin26 E) =
  T26_2 E D W (fun v3 σ => denC E D W N cc1 (S26_1 v3 σ) (Fin26 E) (fun _ _ => none) (Fin26 E)) (fun v0 v3 σ => li2 (S26_2 v0 v3 σ)) v0 v3 σ := by kernel_rfl
def J26_1 (E : List (Nat × Blk)) (D : Den) (W : DrawFn) (N : Nat) : V → H → Ans := T26_1 E D W 
theorem JE26_1 (v3 : V) (σ : H) :
  denC E D W N C26_1 (S26_1 v3 σ) (Fin26 E) (fun _ _ => none) (Fin26 E) = J26_1 E D W N v3 σ := by
  refine (P26_1 E D W N   v3 σ).trans ?_
  kernel_rfl
def L26_2 (n : Nat) : Int → V → H → Ans :=
  Nat.rec (fun _ _ _ => none) (fun _ ih => T26_2 E D W (J26_1 E D W N ) ih) n
theorem LE26_2 (n : Nat) : ∀ (v0 : Int) (v3 : V) (σ : H),
  iterK (fun rec s' => denC E D W N C26_2 s' (fun s'' => keepS [(0, .i), (3, .any)] [] [] s'' rec) (blkK 0 (fun s' => denC E D W N (.keep [(3, .any)] [] [] C26_1) s' (Fin26 E) (fun _ _ => none) (Fin26 E)) (fun _ _ => none)) (Fin26 E)) n (S26_2 v0 v3 σ) = L26_2 E D W N n v0 v3 σ := by
  induction n with
  | zero => intro v0 v3 σ; rfl
  | succ n ihn =>
    intro v0 v3 σ
    rw [iterK_succ]
    refine (P26_2 E D W N C26_1 (iterK (fun rec s' => denC E D W N C26_2 s' (fun s'' => keepS [(0, .i), (3, .any)] [] [] s'' rec) (blkK 0 (fun s' => denC E D W N (.keep [(3, .any)] [] [] C26_1) s' (Fin26 E) (fun _ _ => none) (Fin26 E)) (fun _ _ => none)) (Fin26 E)) n) v0 v3 σ).trans ?_
    simp only [ihn, JE26_1]
    kernel_rfl
def J26_0 : Int → H → Ans := T26_0 E D W (L26_2 E D W N N)
theorem JE26_0 (v0 : Int) (σ : H) :
  denC E D W N (C26_0 C26_1 C26_2) (S26_0 v0 σ) (Fin26 E) (fun _ _ => none) (Fin26 E) = J26_0 E D W N v0 σ := by
  refine (P26_0 E D W N C26_1 C26_2  v0 σ).trans ?_
  simp only [LE26_2]
  kernel_rfl
def F26 (args : List V) (σ : H) : Ans :=
 rtCons args fun x1 l2 =>
 rtInt .i64 x1 fun x3 =>
 rtNil l2 (
 J26_0 E D W N x3 σ)
def A26 : XFn := ⟨21, [.i], [(.tmp 2)], (C26_0 C26_1 C26_2)⟩
theorem FE26 (args : List V) (σ : H) : runX E D W N A26 args σ = F26 E D W N args σ := by
  unfold F26
  simp only [← JE26_0]
  kernel_rfl
theorem AO26 : A26.body.ok = true := by kernel_rfl

/-! ### F27: ogham_oghamref03.Element -/
def Fin27 (E : List (Nat × Blk)) : St → Ans := fun s => resK E s [(.tmp 6)] fun l => some (oneV l, s.σ)
def C27_0 : XC := (.seq (.ops (.p 3 [0] (.box 45 (.t 0))<|
.c 6 V.nils<|
.nil))
 (.seq (.ops (.op (some 7) (.agg [.i, .i]) [3] (.load (some 2) (.t 3))<|
.m 8 1<|
.m 9 2<|
.u 10 9<|
.k 11 .one 49 [(.t 7), (.t 8), (.t 10)]<|
.m 12 2<|
.op (some 13) .one [11, 12] (.append 5 1 1 (.t 11) (.t 12))<|
.m 6 13<|
.nil))
 .ret))
def T27_0 (E : List (Nat × Blk)) (D : Den) (W : DrawFn) (v0_0 v0_1 : Int) (v1 : Bool) (v2 : V) (σ : H) : Ans :=
 chk (allOne (V.cells (V.agg [(V.int .i64 v0_0), (V.int .i64 v0_1)]))) (
 let s1 := newB σ (.cells (V.cells (V.agg [(V.int .i64 v0_0), (V.int .i64 v0_1)])));
 ldnK E s1 (H.next σ) 0 2 fun l2 =>
 rtCons l2 fun x3 l4 =>
 rtInt .i64 x3 fun x5 =>
 rtCons l4 fun x6 l7 =>
 rtInt .i64 x6 fun x8 =>
 rtNil l7 (
 slenK v2 fun n9 =>
 callK (D 49 [(V.agg [(V.int .i64 x5), (V.int .i64 x8)]), (V.bool v1), (V.int .i64 (Int.ofNat n9))] s1) fun u10 s11 =>
 rtOne u10 (
 appK E 1 1 u10 v2 s11 fun u12 s13 =>
 rtOne u12 (
 some (u12, s13)))))
def S27_0 (v0_0 v0_1 : Int) (v1 : Bool) (v2 : V) (σ : H) : St := ⟨[(0, (V.agg [(V.int .i64 v0_0), (V.int .i64 v0_1)])), (1, (V.bool v1)), (2, v2)], [], [], σ⟩
theorem P27_0 (v0_0 v0_1 : Int) (v1 : Bool) (v2 : V) (σ : H) :
  denC E D W N (C27_0 ) (S27_0 v0_0 v0_1 v1 v2 σ) (Fin27 E) (fun _ _ => none) (Fin27 E) =
  T27_0 E D W  v0_0 v0_1 v1 v2 σ := by kernel_rfl
def J27_0 (E : List (Nat × Blk)) (D : Den) (W : DrawFn) (N : Nat) : Int → Int → Bool → V → H → Ans := T27_0 E D W 
theorem JE27_0 (v0_0 v0_1 : Int) (v1 : Bool) (v2 : V) (σ : H) :
  denC E D W N C27_0 (S27_0 v0_0 v0_1 v1 v2 σ) (Fin27 E) (fun _ _ => none) (Fin27 E) = J27_0 E D W N v0_0 v0_1 v1 v2 σ := by
  refine (P27_0 E D W N   v0_0 v0_1 v1 v2 σ).trans ?_
  kernel_rfl
def F27 (args : List V) (σ : H) : Ans :=
 rtCons args fun x1 l2 =>
 rtAgg x1 fun l3 =>
 rtCons l3 fun x4 l5 =>
 rtInt .i64 x4 fun x6 =>
 rtCons l5 fun x7 l8 =>
 rtInt .i64 x7 fun x9 =>
 rtNil l8 (
 rtCons l2 fun x10 l11 =>
 rtBool x10 fun x12 =>
 rtCons l11 fun x13 l14 =>
 rtNil l14 (
 J27_0 E D W N x6 x9 x12 x13 σ))
def A27 : XFn := ⟨14, [(.agg [.i, .i]), .bool, .any], [(.tmp 6)], C27_0⟩
theorem FE27 (args : List V) (σ : H) : runX E D W N A27 args σ = F27 E D W N args σ := by
  unfold F27
  simp only [← JE27_0]
  kernel_rfl
theorem AO27 : A27.body.ok = true := by kernel_rfl

def G35_0 : List AOper := [⟨(some 140), .build [(V.str ⟨0, 0⟩), (V.int .i64 (Int.ofNat 0)), V.nils, V.nils, V.nils] [], none⟩, ⟨(some 141), .mov (.tmp 8), none⟩, ⟨(some 142), .nilck (.tmp 141), none⟩, ⟨(some 143), .faddr 8 (.tmp 142), none⟩, ⟨(some 144), .load none (.tmp 143), none⟩, ⟨(some 145), .mov (.tmp 8), none⟩, ⟨(some 146), .nilck (.tmp 145), none⟩, ⟨(some 147), .faddr 7 (.tmp 146), none⟩, ⟨(some 148), .load none (.tmp 147), none⟩, ⟨none, .store 5 (.tmp 2) (.tmp 140), none⟩, ⟨(some 3), .mov (.tmp 144), none⟩, ⟨(some 4), .mov (.tmp 148), none⟩]
def H35_0 : List DP := [⟨0, []⟩, ⟨0, [8]⟩, ⟨2, [141]⟩, ⟨6, [142]⟩, ⟨14, [143]⟩, ⟨0, [8]⟩, ⟨32, [145]⟩, ⟨96, [146]⟩, ⟨224, [147]⟩, ⟨1, [2, 140]⟩, ⟨543, [144]⟩, ⟨2047, [148]⟩]
def C35_0 (cc1 : XC) : XC := (.seq (.ops (.p 2 [] (.alloc 77 [(V.str ⟨0, 0⟩), (V.int .i64 (Int.ofNat 0)), V.nils, V.nils, V.nils])<|
.q 3 0<|
.q 4 0<|
.nil))
 (.seq (.ops (.m 13 0<|
.k 14 (.tup [.any, .i, .i]) 54 [(.t 13)]<|
.m 12 14<|
.p 15 [12] (.extract 0 (.t 12))<|
.p 16 [12] (.extract 1 (.t 12))<|
.p 17 [12] (.extract 2 (.t 12))<|
.m 5 15<|
.m 6 16<|
.m 7 17<|
.nil))
 (.seq (.seq (.ops (.m 18 7<|
.b 19 .neq .none (.t 18) (.i 0)<|
.nil))
 (.cond (.tmp 19) (.seq (.ops (.op (some 20) (.agg [.str, .i, .any, .any, .any]) [] (.build [(V.str ⟨0, 0⟩), (V.int .i64 (Int.ofNat 0)), V.nils, V.nils, V.nils] [])<|
.m 21 6<|
.m 22 7<|
.op none (.agg [.str, .i, .any, .any, .any]) [2, 20] (.store 5 (.t 2) (.t 20))<|
.m 3 21<|
.m 4 22<|
.nil))
 .ret)
 .skip))
 (.seq (.ops (.m 23 5<|
.op (some 24) (.agg [.any, .i, .str, .i, .any, .any, .any, .i, .i]) [23] (.build [V.nils, (V.int .i64 (Int.ofNat 0)), (V.str ⟨0, 0⟩), (V.int .i64 (Int.ofNat 0)), V.nils, V.nils, V.nils, (V.int .i64 (Int.ofNat 0)), (V.int .i64 (Int.ofNat 0))] [(0, 1, (.t 23))])<|
.p 25 [24] (.box 110 (.t 24))<|
.m 8 25<|
.nil))
 (.seq (.ops (.m 26 8<|
.m 27 8<|
.k 28 .str 55 [(.t 27), (.i 1)]<|
.n 29 26<|
.f 30 2 29<|
.f 31 0 30<|
.w 1 31 28<|
.nil))
 (.seq (.ops (.m 32 8<|
.k 33 (.tup []) 56 [(.t 32), (.con (V.str ⟨11, 100710650190388740279911748⟩))]<|
.nil))
 (.seq (.block 0 (.seq (.ops (.m 35 8<|
.k 36 .bool 57 [(.t 35), (.con (V.str ⟨8, 6073459554577832005⟩))]<|
.m 34 36<|
.nil))
 (.cond (.tmp 34) (.ops (.m 37 8<|
.k 38 (.tup []) 56 [(.t 37), (.con (V.str ⟨4, 1397178708⟩))]<|
.nil))
 (.seq (.ops (.m 40 8<|
.k 41 .bool 57 [(.t 40), (.con (V.str ⟨8, 6073459554577829193⟩))]<|
.m 39 41<|
.nil))
 (.cond (.tmp 39) (.seq (.ops (.m 42 8<|
.n 43 42<|
.f 44 2 43<|
.f 45 1 44<|
.op none .any [45] (.store 1 (.t 45) (.i 1))<|
.nil))
 (.ops (.m 46 8<|
.k 47 (.tup []) 56 [(.t 46), (.con (V.str ⟨4, 1397178708⟩))]<|
.nil)))
 (.seq (.ops (.m 49 8<|
.k 50 .bool 57 [(.t 49), (.con (V.str ⟨9, 1241215773001651606849⟩))]<|
.m 48 50<|
.nil))
 (.cond (.tmp 48) (.seq (.ops (.m 51 8<|
.n 52 51<|
.f 53 2 52<|
.f 54 1 53<|
.op none .any [54] (.store 1 (.t 54) (.i 2))<|
.nil))
 (.ops (.m 55 8<|
.k 56 (.tup []) 56 [(.t 55), (.con (V.str ⟨4, 1397178708⟩))]<|
.nil)))
 .skip)))))))
 (.keep [(2, .ptr), (8, .ptr)] [] [] cc1))))))))
def C35_1 (cc2 : XC) (cc3 : XC) : XC := (.seq (.ops (.m 57 8<|
.k 58 (.tup []) 56 [(.t 57), (.con (V.str ⟨3, 4012602⟩))]<|
.nil))
 (.seq (.ops (.m 59 8<|
.k 60 (.tup []) 56 [(.t 59), (.con (V.str ⟨5, 336236856642⟩))]<|
.nil))
 (.seq (.block 1 (.loop [(2, .ptr), (8, .ptr)] [] [] cc3))
 (.keep [(2, .ptr), (8, .ptr)] [] [] cc2))))
def C35_2 (cc5 : XC) : XC := (.seq (.seq (.ops (.m 120 8<|
.n 121 120<|
.f 122 7 121<|
.l 123 .i 122<|
.b 124 .eql .none (.t 123) (.i 0)<|
.m 125 124<|
.grp 125 true (.p 126 [8, 125] (.mov (.t 8))<|
.op (some 127) (.agg [.i, .str, .i]) [126, 125] (.call 58 [(.t 126)])<|
.op (some 128) .i [127, 125] (.field 0 none (.t 127))<|
.p 129 [128, 125] (.bin .neq .none (.t 128) (.i 0))<|
.nil) 130 [125, 129] (.t 125) (.t 129) (.con (V.bool false))<|
.nil))
 (.cond (.tmp 130) (.ops (.m 131 8<|
.m 132 8<|
.k 133 (.agg [.i, .str, .i]) 58 [(.t 132)]<|
.k 134 (.tup []) 59 [(.t 131), (.i 7), (.t 133)]<|
.nil))
 .skip))
 (.keep [(2, .ptr), (8, .ptr)] [] [] cc5))
def C35_3 (cc4 : XC) : XC := (.seq (.seq (.ops (.m 61 8<|
.n 62 61<|
.f 63 7 62<|
.l 64 .i 63<|
.b 65 .eql .none (.t 64) (.i 0)<|
.m 66 65<|
.grp 66 true (.p 67 [8, 66] (.mov (.t 8))<|
.op (some 68) .bool [67, 66] (.call 57 [(.t 67), (.con (V.str ⟨3, 4476485⟩))])<|
.p 69 [68, 66] (.un .not (.t 68))<|
.nil) 70 [66, 69] (.t 66) (.t 69) (.con (V.bool false))<|
.nil))
 (.cond (.tmp 70) .skip
 (.exit 1)))
 (.block 2 (.seq (.ops (.m 71 8<|
.k 72 (.agg [.i, .str, .i]) 58 [(.t 71)]<|
.pal 9 [] 115 [(V.int .i64 (Int.ofNat 0)), (V.str ⟨0, 0⟩), (V.int .i64 (Int.ofNat 0))]<|
.op none (.agg [.i, .str, .i]) [9, 72] (.store 3 (.t 9) (.t 72))<|
.nil))
 (.seq (.ops (.m 73 8<|
.k 74 .str 55 [(.t 73), (.i 1)]<|
.m 10 74<|
.nil))
 (.seq (.seq (.ops (.m 75 8<|
.n 76 75<|
.f 77 7 76<|
.l 78 .i 77<|
.b 79 .eql .none (.t 78) (.i 0)<|
.m 80 79<|
.grp 80 true (.p 81 [8, 80] (.mov (.t 8))<|
.p 82 [81, 80] (.nilck (.t 81))<|
.p 83 [82, 80] (.faddr 2 (.t 82))<|
.p 84 [83, 80] (.faddr 2 (.t 83))<|
.p 85 [84, 80] (.load none (.t 84))<|
.p 86 [85, 80] (.len false (.t 85))<|
.p 87 [86, 80] (.bin .geq .none (.t 86) (.i 40))<|
.nil) 88 [80, 87] (.t 80) (.t 87) (.con (V.bool false))<|
.nil))
 (.cond (.tmp 88) (.ops (.m 89 8<|
.op (some 90) (.agg [.i, .str, .i]) [9] (.load (some 3) (.t 9))<|
.k 91 (.tup []) 59 [(.t 89), (.i 5), (.t 90)]<|
.nil))
 .skip))
 (.keep [(2, .ptr), (8, .ptr), (10, .str)] [] [] cc4))))))
def C35_4 : XC := (.seq (.ops (.m 92 8<|
.k 93 (.tup []) 56 [(.t 92), (.con (V.str ⟨3, 4012602⟩))]<|
.nil))
 (.seq (.ops (.m 94 8<|
.k 95 .i 60 [(.t 94), (.i 0)]<|
.m 11 95<|
.nil))
 (.seq (.ops (.m 96 8<|
.m 97 8<|
.n 98 97<|
.f 99 2 98<|
.f 100 2 99<|
.l 101 .any 100<|
.m 102 10<|
.p 103 [102] (.buildSlice 9 1 [(V.str ⟨0, 0⟩)] [(0, 1, (.t 102))])<|
.op (some 104) .one [101, 103] (.append 9 1 16 (.t 101) (.t 103))<|
.n 105 96<|
.f 106 2 105<|
.f 107 2 106<|
.w 1 107 104<|
.nil))
 (.ops (.m 108 8<|
.m 109 8<|
.n 110 109<|
.f 111 2 110<|
.f 112 3 111<|
.l 113 .any 112<|
.m 114 11<|
.p 115 [114] (.buildSlice 3 1 [(V.int .i64 (Int.ofNat 0))] [(0, 1, (.t 114))])<|
.op (some 116) .one [113, 115] (.append 3 1 8 (.t 113) (.t 115))<|
.n 117 108<|
.f 118 2 117<|
.f 119 3 118<|
.w 1 119 116<|
.nil)))))
def C35_5 : XC := (.seq (.seq (.ops (.m 135 8<|
.n 136 135<|
.f 137 7 136<|
.l 138 .i 137<|
.b 139 .neq .none (.t 138) (.i 0)<|
.nil))
 (.cond (.tmp 139) (.seq (.keep [(2, .ptr), (8, .ptr)] [] [] (.gdraw G35_0 H35_0 [(2, .ptr), (3, .i), (4, .i)]))
 .ret)
 .skip))
 (.seq (.ops (.m 149 8<|
.n 150 149<|
.f 151 2 150<|
.op (some 152) (.agg [.str, .i, .any, .any, .any]) [151] (.load (some 5) (.t 151))<|
.op none (.agg [.str, .i, .any, .any, .any]) [2, 152] (.store 5 (.t 2) (.t 152))<|
.q 3 0<|
.q 4 0<|
.nil))
 .ret))
def A35 : XFn := ⟨153, [.str], [(.cell 2 (some 5)), (.tmp 3), (.tmp 4)], (C35_0 (C35_1 (C35_2 C35_5) (C35_3 C35_4)))⟩
def G36_0 : List AOper := [⟨(some 25), .faddr 0 (.tmp 1), none⟩, ⟨(some 26), .load none (.tmp 25), none⟩, ⟨(some 27), .faddr 2 (.tmp 1), none⟩, ⟨(some 28), .load none (.tmp 27), none⟩, ⟨(some 29), .append 9 1 16 (.con V.nils) (.tmp 28), none⟩, ⟨(some 30), .build [(V.str ⟨0, 0⟩), V.nils, V.nils, V.nils] [(0, 1, (.tmp 26)), (1, 1, (.tmp 29))], none⟩, ⟨(some 9), .alloc 31 [(V.str ⟨0, 0⟩), V.nils, V.nils, V.nils], none⟩, ⟨none, .store 4 (.tmp 9) (.tmp 30), none⟩]
def H36_0 : List DP := [⟨0, [1]⟩, ⟨1, [25]⟩, ⟨0, [1]⟩, ⟨4, [27]⟩, ⟨12, [28]⟩, ⟨31, [26, 29]⟩, ⟨0, []⟩, ⟨127, [9, 30]⟩]
def G36_1 : List AOper := [⟨(some 38), .faddr 2 (.tmp 9), none⟩, ⟨(some 39), .load none (.tmp 38), none⟩, ⟨(some 40), .mov (.tmp 8), none⟩, ⟨(some 41), .faddr 3 (.tmp 1), none⟩, ⟨(some 42), .load none (.tmp 41), none⟩, ⟨(some 43), .mov (.tmp 10), none⟩, ⟨(some 44), .iaddrS 1 (.tmp 42) (.tmp 43), none⟩, ⟨(some 45), .load none (.tmp 44), none⟩, ⟨(some 46), .call 62 [(.tmp 40), (.tmp 45), (.con (V.int .i64 (Int.ofNat 0)))], none⟩, ⟨(some 47), .buildSlice 3 1 [(V.int .i64 (Int.ofNat 0))] [(0, 1, (.tmp 46))], none⟩, ⟨(some 48), .append 3 1 8 (.tmp 39) (.tmp 47), none⟩, ⟨(some 49), .faddr 2 (.tmp 9), none⟩, ⟨none, .store 1 (.tmp 49) (.tmp 48), none⟩]
def H36_1 : List DP := [⟨0, [9]⟩, ⟨1, [38]⟩, ⟨0, [8]⟩, ⟨0, [1]⟩, ⟨8, [41]⟩, ⟨0, [10]⟩, ⟨56, [42, 43]⟩, ⟨120, [44]⟩, ⟨252, [40, 45]⟩, ⟨508, [46]⟩, ⟨1023, [39, 47]⟩, ⟨2047, [9]⟩, ⟨4095, [49, 48]⟩]
def G36_2 : List AOper := [⟨(some 55), .build [(V.str ⟨0, 0⟩), V.nils, V.nils, V.nils] [], none⟩, ⟨(some 56), .mov (.tmp 10), none⟩, ⟨(some 57), .mov (.tmp 8), none⟩, ⟨(some 58), .nilck (.tmp 57), none⟩, ⟨(some 59), .faddr 6 (.tmp 58), none⟩, ⟨(some 60), .load none (.tmp 59), none⟩, ⟨none, .store 4 (.tmp 2) (.tmp 55), none⟩, ⟨(some 3), .mov (.tmp 56), none⟩, ⟨(some 4), .mov (.tmp 60), none⟩]
def H36_2 : List DP := [⟨0, []⟩, ⟨0, [10]⟩, ⟨0, [8]⟩, ⟨4, [57]⟩, ⟨12, [58]⟩, ⟨28, [59]⟩, ⟨1, [2, 55]⟩, ⟨67, [56]⟩, ⟨255, [60]⟩]
def C36_0 (cc1 : XC) (cc2 : XC) : XC := (.seq (.ops (.p 1 [0] (.box 77 (.t 0))<|
.p 2 [] (.alloc 31 [(V.str ⟨0, 0⟩), V.nils, V.nils, V.nils])<|
.q 3 0<|
.q 4 0<|
.nil))
 (.seq (.ops (.op (some 12) (.agg [.str, .i, .any, .any, .any]) [1] (.load (some 5) (.t 1))<|
.k 13 (.tup [.any, .i, .i]) 61 [(.t 12)]<|
.m 11 13<|
.p 14 [11] (.extract 0 (.t 11))<|
.p 15 [11] (.extract 1 (.t 11))<|
.p 16 [11] (.extract 2 (.t 11))<|
.m 5 14<|
.m 6 15<|
.m 7 16<|
.nil))
 (.seq (.seq (.ops (.m 17 7<|
.b 18 .neq .none (.t 17) (.i 0)<|
.nil))
 (.cond (.tmp 18) (.seq (.ops (.op (some 19) (.agg [.str, .any, .any, .any]) [] (.build [(V.str ⟨0, 0⟩), V.nils, V.nils, V.nils] [])<|
.m 20 6<|
.m 21 7<|
.op none (.agg [.str, .any, .any, .any]) [2, 19] (.store 4 (.t 2) (.t 19))<|
.m 3 20<|
.m 4 21<|
.nil))
 .ret)
 .skip))
 (.seq (.ops (.op (some 22) (.agg [.str, .i, .any, .any, .any]) [1] (.load (some 5) (.t 1))<|
.op (some 23) (.agg [.str, .i, .any, .any, .any, .any, .i]) [22] (.build [(V.str ⟨0, 0⟩), (V.int .i64 (Int.ofNat 0)), V.nils, V.nils, V.nils, V.nils, (V.int .i64 (Int.ofNat 0))] [(0, 5, (.t 22))])<|
.p 24 [23] (.box 123 (.t 23))<|
.m 8 24<|
.nil))
 (.seq (.keep [(1, .ptr), (2, .ptr), (8, .ptr)] [] [] (.gdraw G36_0 H36_0 [(1, .ptr), (2, .ptr), (8, .ptr), (9, .ptr)]))
 (.seq (.seq (.ops (.q 10 0<|
.nil))
 (.block 0 (.loop [(1, .ptr), (2, .ptr), (8, .ptr), (9, .ptr), (10, .i)] [] [] cc2)))
 (.keep [(2, .ptr), (8, .ptr), (9, .ptr)] [] [] cc1)))))))
def C36_1 : XC := (.seq (.ops (.m 61 8<|
.n 62 61<|
.f 63 5 62<|
.l 64 .any 63<|
.f 65 3 9<|
.w 1 65 64<|
.nil))
 (.seq (.ops (.op (some 66) (.agg [.str, .any, .any, .any]) [9] (.load (some 4) (.t 9))<|
.op none (.agg [.str, .any, .any, .any]) [2, 66] (.store 4 (.t 2) (.t 66))<|
.q 3 0<|
.q 4 0<|
.nil))
 .ret))
def C36_2 : XC := (.seq (.seq (.ops (.m 31 10<|
.f 32 2 1<|
.l 33 .any 32<|
.u 34 33<|
.b 35 .lss .none (.t 31) (.t 34)<|
.nil))
 (.cond (.tmp 35) .skip
 (.exit 0)))
 (.seq (.block 1 (.seq (.keep [(1, .ptr), (2, .ptr), (8, .ptr), (9, .ptr), (10, .i)] [] [] (.gdraw G36_1 H36_1 [(1, .ptr), (2, .ptr), (8, .ptr), (9, .ptr), (10, .i)]))
 (.seq (.ops (.m 50 8<|
.n 51 50<|
.f 52 6 51<|
.l 53 .i 52<|
.b 54 .neq .none (.t 53) (.i 0)<|
.nil))
 (.cond (.tmp 54) (.seq (.keep [(2, .ptr), (8, .ptr), (10, .i)] [] [] (.gdraw G36_2 H36_2 [(2, .ptr), (3, .i), (4, .i)]))
 .ret)
 .skip))))
 (.ops (.m 36 10<|
.b 37 .add .none (.t 36) (.i 1)<|
.m 10 37<|
.nil))))
def A36 : XFn := ⟨67, [(.agg [.str, .i, .any, .any, .any])], [(.cell 2 (some 4)), (.tmp 3), (.tmp 4)], (C36_0 C36_1 C36_2)⟩
/-! ### F38: ogham_value.Fits -/
def Fin38 (E : List (Nat × Blk)) : St → Ans := fun s => resK E s [(.tmp 6)] fun l => some (oneV l, s.σ)
def C38_0 : XC := (.seq (.ops (.p 3 [0] (.box 31 (.t 0))<|
.p 5 [2] (.box 26 (.t 2))<|
.c 6 (V.bool false)<|
.nil))
 (.seq (.ops (.op (some 8) (.agg [.str, .any, .any, .any]) [3] (.load (some 4) (.t 3))<|
.op (some 9) (.agg [.str, .any, .any, .any]) [8] (.build [(V.str ⟨0, 0⟩), V.nils, V.nils, V.nils] [(0, 4, (.t 8))])<|
.op (some 10) (.agg [.str, .any, .any, .any, .bool]) [9] (.build [(V.str ⟨0, 0⟩), V.nils, V.nils, V.nils, (V.bool false)] [(0, 4, (.t 9))])<|
.p 11 [10] (.box 129 (.t 10))<|
.m 7 11<|
.nil))
 (.seq (.ops (.m 12 7<|
.m 13 1<|
.op (some 14) (.agg [.i, .i, .any, .any, .i, .any]) [5] (.load (some 6) (.t 5))<|
.k 15 .bool 63 [(.t 12), (.t 13), (.t 14), (.i 1)]<|
.m 16 15<|
.grp 16 true (.op (some 17) (.agg [.i, .i, .any, .any, .i, .any]) [5, 16] (.load (some 6) (.t 5))<|
.op (some 18) .i [17, 16] (.call 64 [(.t 17)])<|
.p 19 [18, 16] (.bin .leq .none (.t 18) (.i 5000))<|
.nil) 20 [16, 19] (.t 16) (.t 19) (.con (V.bool false))<|
.m 6 20<|
.nil))
 .ret)))
def T38_0 (E : List (Nat × Blk)) (D : Den) (W : DrawFn) (v0_0 : BS) (v0_1 v0_2 v0_3 : V) (v1 v2_0 v2_1 : Int) (v2_2 v2_3 : V) (v2_4 : Int) (v2_5 : V) (σ : H) : Ans :=
 chk (allOne (V.cells (V.agg [(V.str v0_0), v0_1, v0_2, v0_3]))) (
 let s1 := newB σ (.cells (V.cells (V.agg [(V.str v0_0), v0_1, v0_2, v0_3])));
 chk (allOne (V.cells (V.agg [(V.int .i64 v2_0), (V.int .i64 v2_1), v2_2, v2_3, (V.int .i64 v2_4), v2_5]))) (
 let s2 := newB s1 (.cells (V.cells (V.agg [(V.int .i64 v2_0), (V.int .i64 v2_1), v2_2, v2_3, (V.int .i64 v2_4), v2_5])));
 ldnK E s2 (H.next σ) 0 4 fun l3 =>
 rtCons l3 fun x4 l5 =>
 rtStr x4 fun x6 =>
 rtCons l5 fun x7 l8 =>
 rtCons l8 fun x9 l10 =>
 rtCons l10 fun x11 l12 =>
 rtNil l12 (
 chk (allOne (V.cells (V.agg [(V.str x6), x7, x9, x11, (V.bool false)]))) (
 let s13 := newB s2 (.cells (V.cells (V.agg [(V.str x6), x7, x9, x11, (V.bool false)])));
 ldnK E s13 (H.next s1) 0 6 fun l14 =>
 rtCons l14 fun x15 l16 =>
 rtInt .i64 x15 fun x17 =>
 rtCons l16 fun x18 l19 =>
 rtInt .i64 x18 fun x20 =>
 rtCons l19 fun x21 l22 =>
 rtCons l22 fun x23 l24 =>
 rtCons l24 fun x25 l26 =>
 rtInt .i64 x25 fun x27 =>
 rtCons l26 fun x28 l29 =>
 rtNil l29 (
 callK (D 63 [(V.ptr (H.next s2) 0), (V.int .i64 v1), (V.agg [(V.int .i64 x17), (V.int .i64 x20), x21, x23, (V.int .i64 x27), x28]), (V.int .i64 (Int.ofNat 1))] s13) fun u30 s31 =>
 rtBool u30 fun x32 =>
 joinB (fun c33 s34 =>
 some ((V.bool c33), s34)) fun k35 =>
 condK x32 (
 ldnK E s31 (H.next s1) 0 6 fun l36 =>
 rtCons l36 fun x37 l38 =>
 rtInt .i64 x37 fun x39 =>
 rtCons l38 fun x40 l41 =>
 rtInt .i64 x40 fun x42 =>
 rtCons l41 fun x43 l44 =>
 rtCons l44 fun x45 l46 =>
 rtCons l46 fun x47 l48 =>
 rtInt .i64 x47 fun x49 =>
 rtCons l48 fun x50 l51 =>
 rtNil l51 (
 callK (D 64 [(V.agg [(V.int .i64 x39), (V.int .i64 x42), x43, x45, (V.int .i64 x49), x50])] s31) fun u52 s53 =>
 rtInt .i64 u52 fun x54 =>
 k35 (leF x54 (Int.ofNat 5000)) s53)) (
 k35 false s31))))))
def S38_0 (v0_0 : BS) (v0_1 v0_2 v0_3 : V) (v1 v2_0 v2_1 : Int) (v2_2 v2_3 : V) (v2_4 : Int) (v2_5 : V) (σ : H) : St := ⟨[(0, (V.agg [(V.str v0_0), v0_1, v0_2, v0_3])), (1, (V.int .i64 v1)), (2, (V.agg [(V.int .i64 v2_0), (V.int .i64 v2_1), v2_2, v2_3, (V.int .i64 v2_4), v2_5]))], [], [], σ⟩
theorem P38_0 (v0_0 : BS) (v0_1 v0_2 v0_3 : V) (v1 v2_0 v2_1 : Int) (v2_2 v2_3 : V) (v2_4 : Int) (v2_5 : V) (σ : H) :
  denC E D W N (C38_0 ) (S38_0 v0_0 v0_1 v0_2 v0_3 v1 v2_0 v2_1 v2_2 v2_3 v2_4 v2_5 σ) (Fin38 E) (fun _ _ => none) (Fin38 E) =
  T38_0 E D W  v0_0 v0_1 v0_2 v0_3 v1 v2_0 v2_1 v2_2 v2_3 v2_4 v2_5 σ := by kernel_rfl
def J38_0 (E : List (Nat × Blk)) (D : Den) (W : DrawFn) (N : Nat) : BS → V → V → V → Int → Int → Int → V → V → Int → V → H → Ans := T38_0 E D W 
theorem JE38_0 (v0_0 : BS) (v0_1 v0_2 v0_3 : V) (v1 v2_0 v2_1 : Int) (v2_2 v2_3 : V) (v2_4 : Int) (v2_5 : V) (σ : H) :
  denC E D W N C38_0 (S38_0 v0_0 v0_1 v0_2 v0_3 v1 v2_0 v2_1 v2_2 v2_3 v2_4 v2_5 σ) (Fin38 E) (fun _ _ => none) (Fin38 E) = J38_0 E D W N v0_0 v0_1 v0_2 v0_3 v1 v2_0 v2_1 v2_2 v2_3 v2_4 v2_5 σ := by
  refine (P38_0 E D W N   v0_0 v0_1 v0_2 v0_3 v1 v2_0 v2_1 v2_2 v2_3 v2_4 v2_5 σ).trans ?_
  kernel_rfl
def F38 (args : List V) (σ : H) : Ans :=
 rtCons args fun x1 l2 =>
 rtAgg x1 fun l3 =>
 rtCons l3 fun x4 l5 =>
 rtStr x4 fun x6 =>
 rtCons l5 fun x7 l8 =>
 rtCons l8 fun x9 l10 =>
 rtCons l10 fun x11 l12 =>
 rtNil l12 (
 rtCons l2 fun x13 l14 =>
 rtInt .i64 x13 fun x15 =>
 rtCons l14 fun x16 l17 =>
 rtAgg x16 fun l18 =>
 rtCons l18 fun x19 l20 =>
 rtInt .i64 x19 fun x21 =>
 rtCons l20 fun x22 l23 =>
 rtInt .i64 x22 fun x24 =>
 rtCons l23 fun x25 l26 =>
 rtCons l26 fun x27 l28 =>
 rtCons l28 fun x29 l30 =>
 rtInt .i64 x29 fun x31 =>
 rtCons l30 fun x32 l33 =>
 rtNil l33 (
 rtNil l17 (
 J38_0 E D W N x6 x7 x9 x11 x15 x21 x24 x25 x27 x31 x32 σ)))
def A38 : XFn := ⟨21, [(.agg [.str, .any, .any, .any]), .i, (.agg [.i, .i, .any, .any, .i, .any])], [(.tmp 6)], C38_0⟩
theorem FE38 (args : List V) (σ : H) : runX E D W N A38 args σ = F38 E D W N args σ := by
  unfold F38
  simp only [← JE38_0]
  kernel_rfl
theorem AO38 : A38.body.ok = true := by kernel_rfl

/-! ### F39: ogham_value.Rules -/
def Fin39 (E : List (Nat × Blk)) : St → Ans := fun s => resK E s [(.tmp 4)] fun l => some (oneV l, s.σ)
def C39_0 : XC := (.seq (.ops (.p 2 [0] (.box 26 (.t 0))<|
.p 3 [1] (.box 3 (.t 1))<|
.c 4 (V.bool false)<|
.nil))
 (.seq (.ops (.f 5 4 2<|
.l 6 .i 5<|
.b 7 .eql .none (.t 6) (.i 0)<|
.m 8 7<|
.grp 8 false (.p 9 [2, 8] (.faddr 4 (.t 2))<|
.op (some 10) .i [9, 8] (.load none (.t 9))<|
.op (some 11) .i [3, 8] (.load none (.t 3))<|
.p 12 [10, 11, 8] (.bin .eql .none (.t 10) (.t 11))<|
.nil) 13 [8, 12] (.t 8) (.con (V.bool true)) (.t 12)<|
.m 14 13<|
.grp 14 true (.p 15 [2, 14] (.faddr 3 (.t 2))<|
.p 16 [15, 14] (.load none (.t 15))<|
.p 17 [3, 14] (.mkfn 66 [] [(.t 3)])<|
.op (some 18) .bool [16, 17, 14] (.call 65 [(.t 16), (.t 17)])<|
.p 19 [18, 14] (.un .not (.t 18))<|
.nil) 20 [14, 19] (.t 14) (.t 19) (.con (V.bool false))<|
.m 4 20<|
.nil))
 .ret))
def T39_0 (E : List (Nat × Blk)) (D : Den) (W : DrawFn) (v0_0 v0_1 : Int) (v0_2 v0_3 : V) (v0_4 : Int) (v0_5 : V) (v1 : Int) (σ : H) : Ans :=
 chk (allOne (V.cells (V.agg [(V.int .i64 v0_0), (V.int .i64 v0_1), v0_2, v0_3, (V.int .i64 v0_4), v0_5]))) (
 let s1 := newB σ (.cells (V.cells (V.agg [(V.int .i64 v0_0), (V.int .i64 v0_1), v0_2, v0_3, (V.int .i64 v0_4), v0_5])));
 chk (allOne (V.cells (V.int .i64 v1))) (
 let s2 := newB s1 (.cells (V.cells (V.int .i64 v1)));
 ldK E s2 (H.next σ) 4 fun u3 =>
 rtInt .i64 u3 fun x4 =>
 joinB (fun c5 s6 =>
 joinB (fun c8 s9 =>
 some ((V.bool c8), s9)) fun k10 =>
 condK c5 (
 ldK E s6 (H.next σ) 3 fun u11 =>
 callK (D 65 [u11, (V.fn 66 [] [(V.ptr (H.next s1) 0)])] s6) fun u12 s13 =>
 rtBool u12 fun x14 =>
 k10 (not x14) s13) (
 k10 false s6)) fun k7 =>
 condK (eqF x4 (Int.ofNat 0)) (
 k7 true s2) (
 ldK E s2 (H.next σ) 4 fun u15 =>
 rtInt .i64 u15 fun x16 =>
 ldK E s2 (H.next s1) 0 fun u17 =>
 rtInt .i64 u17 fun x18 =>
 k7 (eqF x16 x18) s2)))
def S39_0 (v0_0 v0_1 : Int) (v0_2 v0_3 : V) (v0_4 : Int) (v0_5 : V) (v1 : Int) (σ : H) : St := ⟨[(0, (V.agg [(V.int .i64 v0_0), (V.int .i64 v0_1), v0_2, v0_3, (V.int .i64 v0_4), v0_5])), (1, (V.int .i64 v1))], [], [], σ⟩
theorem P39_0 (v0_0 v0_1 : Int) (v0_2 v0_3 : V) (v0_4 : Int) (v0_5 : V) (v1 : Int) (σ : H) :
  denC E D W N (C39_0 ) (S39_0 v0_0 v0_1 v0_2 v0_3 v0_4 v0_5 v1 σ) (Fin39 E) (fun _ _ => none) (Fin39 E) =
  T39_0 E D W  v0_0 v0_1 v0_2 v0_3 v0_4 v0_5 v1 σ := by kernel_rfl
def J39_0 (E : List (Nat × Blk)) (D : Den) (W : DrawFn) (N : Nat) : Int → Int → V → V → Int → V → Int → H → Ans := T39_0 E D W 
theorem JE39_0 (v0_0 v0_1 : Int) (v0_2 v0_3 : V) (v0_4 : Int) (v0_5 : V) (v1 : Int) (σ : H) :
  denC E D W N C39_0 (S39_0 v0_0 v0_1 v0_2 v0_3 v0_4 v0_5 v1 σ) (Fin39 E) (fun _ _ => none) (Fin39 E) = J39_0 E D W N v0_0 v0_1 v0_2 v0_3 v0_4 v0_5 v1 σ := by
  refine (P39_0 E D W N   v0_0 v0_1 v0_2 v0_3 v0_4 v0_5 v1 σ).trans ?_
  kernel_rfl
def F39 (args : List V) (σ : H) : Ans :=
 rtCons args fun x1 l2 =>
 rtAgg x1 fun l3 =>
 rtCons l3 fun x4 l5 =>
 rtInt .i64 x4 fun x6 =>
 rtCons l5 fun x7 l8 =>
 rtInt .i64 x7 fun x9 =>
 rtCons l8 fun x10 l11 =>
 rtCons l11 fun x12 l13 =>
 rtCons l13 fun x14 l15 =>
 rtInt .i64 x14 fun x16 =>
 rtCons l15 fun x17 l18 =>
 rtNil l18 (
 rtCons l2 fun x19 l20 =>
 rtInt .i64 x19 fun x21 =>
 rtNil l20 (
 J39_0 E D W N x6 x9 x10 x12 x16 x17 x21 σ))
def A39 : XFn := ⟨21, [(.agg [.i, .i, .any, .any, .i, .any]), .i], [(.tmp 4)], C39_0⟩
theorem FE39 (args : List V) (σ : H) : runX E D W N A39 args σ = F39 E D W N args σ := by
  unfold F39
  simp only [← JE39_0]
  kernel_rfl
theorem AO39 : A39.body.ok = true := by kernel_rfl

/-! ### F40: __ogham_der.encoder_.element -/
def G40_0 : List AOper := [⟨(some 39), .faddr 1 (.tmp 7), none⟩, ⟨(some 40), .load none (.tmp 39), none⟩, ⟨(some 41), .faddr 1 (.tmp 5), none⟩, ⟨(some 42), .load none (.tmp 41), none⟩, ⟨(some 43), .call 68 [(.tmp 42)], none⟩, ⟨(some 44), .buildSlice 22 1 [V.nils] [(0, 1, (.tmp 43))], none⟩, ⟨(some 45), .call 67 [(.tmp 40), (.con (V.bool false)), (.tmp 44)], none⟩, ⟨(some 6), .mov (.tmp 45), none⟩]
def H40_0 : List DP := [⟨0, [7]⟩, ⟨1, [39]⟩, ⟨0, [5]⟩, ⟨4, [41]⟩, ⟨12, [42]⟩, ⟨28, [43]⟩, ⟨63, [40, 44]⟩, ⟨127, [45]⟩]
def G40_1 : List AOper := [⟨(some 79), .faddr 1 (.tmp 7), none⟩, ⟨(some 80), .load none (.tmp 79), none⟩, ⟨(some 81), .mov (.tmp 0), none⟩, ⟨(some 82), .faddr 9 (.tmp 7), none⟩, ⟨(some 83), .load none (.tmp 82), none⟩, ⟨(some 84), .faddr 1 (.tmp 5), none⟩, ⟨(some 85), .load none (.tmp 84), none⟩, ⟨(some 86), .iaddrS 11 (.tmp 83) (.tmp 85), none⟩, ⟨(some 87), .faddr 1 (.tmp 86), none⟩, ⟨(some 88), .load none (.tmp 87), none⟩, ⟨(some 89), .faddr 3 (.tmp 5), none⟩, ⟨(some 90), .load none (.tmp 89), none⟩, ⟨(some 91), .iaddrS 6 (.tmp 90) (.con (V.int .i64 (Int.ofNat 0))), none⟩, ⟨(some 92), .load (some 6) (.tmp 91), none⟩, ⟨(some 93), .call 40 [(.tmp 81), (.tmp 88), (.tmp 92)], none⟩, ⟨(some 94), .buildSlice 22 1 [V.nils] [(0, 1, (.tmp 93))], none⟩, ⟨(some 95), .call 67 [(.tmp 80), (.con (V.bool true)), (.tmp 94)], none⟩, ⟨(some 6), .mov (.tmp 95), none⟩]
def H40_1 : List DP := [⟨0, [7]⟩, ⟨1, [79]⟩, ⟨0, [0]⟩, ⟨0, [7]⟩, ⟨8, [82]⟩, ⟨0, [5]⟩, ⟨32, [84]⟩, ⟨120, [83, 85]⟩, ⟨248, [86]⟩, ⟨504, [87]⟩, ⟨0, [5]⟩, ⟨1024, [89]⟩, ⟨3072, [90]⟩, ⟨7168, [91]⟩, ⟨16380, [81, 88, 92]⟩, ⟨32764, [93]⟩, ⟨65535, [80, 94]⟩, ⟨131071, [95]⟩]
def G40_2 : List AOper := [⟨(some 99), .faddr 1 (.tmp 7), none⟩, ⟨(some 100), .load none (.tmp 99), none⟩, ⟨(some 101), .mov (.tmp 0), none⟩, ⟨(some 102), .load (some 13) (.tmp 7), none⟩, ⟨(some 103), .load (some 6) (.tmp 5), none⟩, ⟨(some 104), .call 69 [(.tmp 101), (.tmp 102), (.tmp 103)], none⟩, ⟨(some 105), .call 67 [(.tmp 100), (.con (V.bool true)), (.tmp 104)], none⟩, ⟨(some 6), .mov (.tmp 105), none⟩]
def H40_2 : List DP := [⟨0, [7]⟩, ⟨1, [99]⟩, ⟨0, [0]⟩, ⟨0, [7]⟩, ⟨0, [5]⟩, ⟨28, [101, 102, 103]⟩, ⟨63, [100, 104]⟩, ⟨127, [105]⟩]
def Fin40 (E : List (Nat × Blk)) : St → Ans := fun s => resK E s [(.tmp 6)] fun l => some (oneV l, s.σ)
def C40_0 (cc1 : XC) (cc2 : XC) : XC := (.seq (.ops (.p 5 [2] (.box 26 (.t 2))<|
.c 6 V.nils<|
.nil))
 (.seq (.ops (.m 11 0<|
.n 12 11<|
.f 13 0 12<|
.f 14 3 13<|
.l 15 .any 14<|
.m 16 1<|
.s 17 13 15 16<|
.op (some 18) (.agg [.i, .any, .bool, .bool, .bool, .bool, .i, .i, .any, .any, .i, .bool, .i]) [17] (.load (some 13) (.t 17))<|
.p 7 [] (.alloc 139 [(V.int .i64 (Int.ofNat 0)), V.nils, (V.bool false), (V.bool false), (V.bool false), (V.bool false), (V.int .i64 (Int.ofNat 0)), (V.int .i64 (Int.ofNat 0)), V.nils, V.nils, (V.int .i64 (Int.ofNat 0)), (V.bool false), (V.int .i64 (Int.ofNat 0))])<|
.op none (.agg [.i, .any, .bool, .bool, .bool, .bool, .i, .i, .any, .any, .i, .bool, .i]) [7, 18] (.store 13 (.t 7) (.t 18))<|
.nil))
 (.seq (.seq (.ops (.f 19 0 7<|
.l 20 .i 19<|
.nil))
 (.block 0 (.seq (.ops (.b 22 .eql .none (.t 20) (.i 1)<|
.m 21 22<|
.nil))
 (.cond (.tmp 21) (.seq (.seq (.ops (.f 23 1 5<|
.l 24 .i 23<|
.b 25 .eql .none (.t 24) (.i 1)<|
.nil))
 (.cond (.tmp 25) (.seq (.ops (.f 26 1 7<|
.l 27 .any 26<|
.p 28 [] (.buildSlice 5 1 [(V.int .u8 (Int.ofNat 0))] [(0, 1, (.con (V.int .u8 (Int.ofNat 255))))])<|
.p 29 [28] (.buildSlice 22 1 [V.nils] [(0, 1, (.t 28))])<|
.k 30 .one 67 [(.t 27), (.con (V.bool false)), (.t 29)]<|
.m 6 30<|
.nil))
 .ret)
 .skip))
 (.seq (.ops (.f 31 1 7<|
.l 32 .any 31<|
.p 33 [] (.buildSlice 5 1 [(V.int .u8 (Int.ofNat 0))] [(0, 1, (.con (V.int .u8 (Int.ofNat 0))))])<|
.p 34 [33] (.buildSlice 22 1 [V.nils] [(0, 1, (.t 33))])<|
.k 35 .one 67 [(.t 32), (.con (V.bool false)), (.t 34)]<|
.m 6 35<|
.nil))
 .ret))
 (.seq (.seq (.ops (.b 37 .eql .none (.t 20) (.i 2)<|
.m 36 37<|
.nil))
 (.cond (.tmp 36) .skip
 (.ops (.b 38 .eql .none (.t 20) (.i 3)<|
.m 36 38<|
.nil))))
 (.keep [(0, .ptr), (5, .ptr), (7, .ptr), (20, .i), (36, .bool)] [] [] cc2))))))
 (.keep [(5, .ptr), (7, .ptr)] [] [] cc1))))
def T40_0 (E : List (Nat × Blk)) (D : Den) (W : DrawFn) (K2 : Nat → Nat → Nat → Nat → Nat → Nat → Int → Bool → H → Ans) (v0b v0o : Nat) (v1 v2_0 v2_1 : Int) (v2_2 v2_3 : V) (v2_4 : Int) (v2_5 : V) (σ : H) : Ans :=
 chk (allOne (V.cells (V.agg [(V.int .i64 v2_0), (V.int .i64 v2_1), v2_2, v2_3, (V.int .i64 v2_4), v2_5]))) (
 let s1 := newB σ (.cells (V.cells (V.agg [(V.int .i64 v2_0), (V.int .i64 v2_1), v2_2, v2_3, (V.int .i64 v2_4), v2_5])));
 ldK E s1 v0b (Nat.add v0o 3) fun u2 =>
 iaddrSK 13 u2 v1 fun b3 o4 =>
 ldnK E s1 b3 o4 13 fun l5 =>
 rtCons l5 fun x6 l7 =>
 rtInt .i64 x6 fun x8 =>
 rtCons l7 fun x9 l10 =>
 rtCons l10 fun x11 l12 =>
 rtBool x11 fun x13 =>
 rtCons l12 fun x14 l15 =>
 rtBool x14 fun x16 =>
 rtCons l15 fun x17 l18 =>
 rtBool x17 fun x19 =>
 rtCons l18 fun x20 l21 =>
 rtBool x20 fun x22 =>
 rtCons l21 fun x23 l24 =>
 rtInt .i64 x23 fun x25 =>
 rtCons l24 fun x26 l27 =>
 rtInt .i64 x26 fun x28 =>
 rtCons l27 fun x29 l30 =>
 rtCons l30 fun x31 l32 =>
 rtCons l32 fun x33 l34 =>
 rtInt .i64 x33 fun x35 =>
 rtCons l34 fun x36 l37 =>
 rtBool x36 fun x38 =>
 rtCons l37 fun x39 l40 =>
 rtInt .i64 x39 fun x41 =>
 rtNil l40 (
 let s42 := newB s1 (.cells [(V.int .i64 (Int.ofNat 0)), V.nils, (V.bool false), (V.bool false), (V.bool false), (V.bool false), (V.int .i64 (Int.ofNat 0)), (V.int .i64 (Int.ofNat 0)), V.nils, V.nils, (V.int .i64 (Int.ofNat 0)), (V.bool false), (V.int .i64 (Int.ofNat 0))]);
 stK 13 (H.next s1) 0 (V.agg [(V.int .i64 x8), x9, (V.bool x13), (V.bool x16), (V.bool x19), (V.bool x22), (V.int .i64 x25), (V.int .i64 x28), x29, x31, (V.int .i64 x35), (V.bool x38), (V.int .i64 x41)]) s42 fun s43 =>
 ldK E s43 (H.next s1) 0 fun u44 =>
 rtInt .i64 u44 fun x45 =>
 condK (eqF x45 (Int.ofNat 1)) (
 ldK E s43 (H.next σ) 1 fun u46 =>
 rtInt .i64 u46 fun x47 =>
 condK (eqF x47 (Int.ofNat 1)) (
 ldK E s43 (H.next s1) 1 fun u48 =>
 let s49 := newB s43 (.cells [(V.int .u8 (Int.ofNat 255))]);
 let s50 := newB s49 (.cells [(V.sl (H.next s43) 0 1 (.ex 1))]);
 callK (D 67 [u48, (V.bool false), (V.sl (H.next s49) 0 1 (.ex 1))] s50) fun u51 s52 =>
 rtOne u51 (
 some (u51, s52))) (
 ldK E s43 (H.next s1) 1 fun u53 =>
 let s54 := newB s43 (.cells [(V.int .u8 (Int.ofNat 0))]);
 let s55 := newB s54 (.cells [(V.sl (H.next s43) 0 1 (.ex 1))]);
 callK (D 67 [u53, (V.bool false), (V.sl (H.next s54) 0 1 (.ex 1))] s55) fun u56 s57 =>
 rtOne u56 (
 some (u56, s57)))) (
 condK (eqF x45 (Int.ofNat 2)) (
 K2 v0b v0o (H.next σ) 0 (H.next s1) 0 x45 (eqF x45 (Int.ofNat 2)) s43) (
 K2 v0b v0o (H.next σ) 0 (H.next s1) 0 x45 (eqF x45 (Int.ofNat 3)) s43))))
def C40_1 : XC := (.seq (.ops (.f 106 1 7<|
.l 107 .any 106<|
.f 108 2 5<|
.l 109 .any 108<|
.p 110 [109] (.buildSlice 22 1 [V.nils] [(0, 1, (.t 109))])<|
.k 111 .one 67 [(.t 107), (.con (V.bool false)), (.t 110)]<|
.m 6 111<|
.nil))
 .ret)
def T40_1 (E : List (Nat × Blk)) (D : Den) (W : DrawFn) (v5b v5o v7b v7o : Nat) (σ : H) : Ans :=
 ldK E σ v7b (Nat.add v7o 1) fun u1 =>
 ldK E σ v5b (Nat.add v5o 2) fun u2 =>
 fillK [(0, 1, u2)] [V.nils] fun l3 =>
 chk (allOne l3) (
 let s4 := newB σ (.cells l3);
 callK (D 67 [u1, (V.bool false), (V.sl (H.next σ) 0 1 (.ex 1))] s4) fun u5 s6 =>
 rtOne u5 (
 some (u5, s6)))
def C40_2 (cc3 : XC) (cc4 : XC) (cc5 : XC) : XC := (.cond (.tmp 36) (.seq (.keep [(5, .ptr), (7, .ptr)] [] [] (.gdraw G40_0 H40_0 [(6, .any)]))
 .ret)
 (.seq (.ops (.b 47 .eql .none (.t 20) (.i 10)<|
.m 46 47<|
.nil))
 (.cond (.tmp 46) (.seq (.ops (.c 8 V.nils<|
.nil))
 (.seq (.seq (.ops (.f 48 3 5<|
.l 49 .any 48<|
.u 50 49<|
.q 51 0<|
.nil))
 (.block 1 (.loop [(0, .ptr), (7, .ptr), (8, .any), (49, .any), (50, .i), (51, .i)] [] [] cc4)))
 (.keep [(7, .ptr), (8, .any)] [] [] cc3)))
 (.seq (.ops (.b 69 .eql .none (.t 20) (.i 9)<|
.m 68 69<|
.nil))
 (.cond (.tmp 68) (.seq (.seq (.ops (.f 70 0 5<|
.l 71 .i 70<|
.b 72 .eql .none (.t 71) (.i 12)<|
.nil))
 (.cond (.tmp 72) (.seq (.ops (.f 73 1 7<|
.l 74 .any 73<|
.f 75 2 5<|
.l 76 .any 75<|
.p 77 [76] (.buildSlice 22 1 [V.nils] [(0, 1, (.t 76))])<|
.k 78 .one 67 [(.t 74), (.con (V.bool true)), (.t 77)]<|
.m 6 78<|
.nil))
 .ret)
 .skip))
 (.seq (.keep [(0, .ptr), (5, .ptr), (7, .ptr)] [] [] (.gdraw G40_1 H40_1 [(6, .any)]))
 .ret))
 (.seq (.seq (.ops (.b 97 .eql .none (.t 20) (.i 7)<|
.m 96 97<|
.nil))
 (.cond (.tmp 96) .skip
 (.ops (.b 98 .eql .none (.t 20) (.i 8)<|
.m 96 98<|
.nil))))
 (.keep [(0, .ptr), (5, .ptr), (7, .ptr), (96, .bool)] [] [] cc5)))))))
def T40_2 (K4 : Nat → Nat → Nat → Nat → V → V → Int → Int → H → Ans) (K5 : Nat → Nat → Nat → Nat → Nat → Nat → Bool → H → Ans) (v0b v0o v5b v5o v7b v7o : Nat) (v20 : Int) (v36 : Bool) (σ : H) : Ans :=
 condK v36 (
 gdrawK (W G40_0 H40_0 [(5, (V.ptr v5b v5o)), (7, (V.ptr v7b v7o))] σ) fun e1 s2 =>
 getL e1 6 fun u3 =>
 some (u3, s2)) (
 condK (eqF v20 (Int.ofNat 10)) (
 ldK E σ v5b (Nat.add v5o 3) fun u4 =>
 slenK u4 fun n5 =>
 K4 v0b v0o v7b v7o V.nils u4 (Int.ofNat n5) (Int.ofNat 0) σ) (
 condK (eqF v20 (Int.ofNat 9)) (
 ldK E σ v5b v5o fun u6 =>
 rtInt .i64 u6 fun x7 =>
 condK (eqF x7 (Int.ofNat 12)) (
 ldK E σ v7b (Nat.add v7o 1) fun u8 =>
 ldK E σ v5b (Nat.add v5o 2) fun u9 =>
 fillK [(0, 1, u9)] [V.nils] fun l10 =>
 chk (allOne l10) (
 let s11 := newB σ (.cells l10);
 callK (D 67 [u8, (V.bool true), (V.sl (H.next σ) 0 1 (.ex 1))] s11) fun u12 s13 =>
 rtOne u12 (
 some (u12, s13)))) (
 gdrawK (W G40_1 H40_1 [(0, (V.ptr v0b v0o)), (5, (V.ptr v5b v5o)), (7, (V.ptr v7b v7o))] σ) fun e14 s15 =>
 getL e14 6 fun u16 =>
 some (u16, s15))) (
 condK (eqF v20 (Int.ofNat 7)) (
 K5 v0b v0o v5b v5o v7b v7o (eqF v20 (Int.ofNat 7)) σ) (
 K5 v0b v0o v5b v5o v7b v7o (eqF v20 (Int.ofNat 8)) σ))))
def C40_3 : XC := (.seq (.ops (.f 64 1 7<|
.l 65 .any 64<|
.m 66 8<|
.k 67 .one 67 [(.t 65), (.con (V.bool true)), (.t 66)]<|
.m 6 67<|
.nil))
 .ret)
def T40_3 (E : List (Nat × Blk)) (D : Den) (W : DrawFn) (v7b v7o : Nat) (v8 : V) (σ : H) : Ans :=
 ldK E σ v7b (Nat.add v7o 1) fun u1 =>
 callK (D 67 [u1, (V.bool true), v8] σ) fun u2 s3 =>
 rtOne u2 (
 some (u2, s3))
def C40_4 : XC := (.seq (.ops (.b 52 .lss .none (.t 51) (.t 50)<|
.nil))
 (.seq (.cond (.tmp 52) .skip
 (.exit 1))
 (.seq (.block 2 (.seq (.ops (.s 53 6 49 51<|
.op (some 54) (.agg [.i, .i, .any, .any, .i, .any]) [53] (.load (some 6) (.t 53))<|
.pal 10 [] 26 [(V.int .i64 (Int.ofNat 0)), (V.int .i64 (Int.ofNat 0)), V.nils, V.nils, (V.int .i64 (Int.ofNat 0)), V.nils]<|
.op none (.agg [.i, .i, .any, .any, .i, .any]) [10, 54] (.store 6 (.t 10) (.t 54))<|
.nil))
 (.ops (.m 55 8<|
.m 56 0<|
.f 57 12 7<|
.l 58 .i 57<|
.op (some 59) (.agg [.i, .i, .any, .any, .i, .any]) [10] (.load (some 6) (.t 10))<|
.k 60 .one 40 [(.t 56), (.t 58), (.t 59)]<|
.p 61 [60] (.buildSlice 22 1 [V.nils] [(0, 1, (.t 60))])<|
.op (some 62) .one [55, 61] (.append 22 1 24 (.t 55) (.t 61))<|
.m 8 62<|
.nil))))
 (.ops (.b 63 .add .none (.t 51) (.i 1)<|
.m 51 63<|
.nil)))))
def T40_4 (E : List (Nat × Blk)) (D : Den) (W : DrawFn) (K3 : Nat → Nat → V → H → Ans) (R4 : Nat → Nat → Nat → Nat → V → V → Int → Int → H → Ans) (v0b v0o v7b v7o : Nat) (v8 v49 : V) (v50 v51 : Int) (σ : H) : Ans :=
 condK (ltF v51 v50) (
 iaddrSK 6 v49 v51 fun b1 o2 =>
 ldnK E σ b1 o2 6 fun l3 =>
 rtCons l3 fun x4 l5 =>
 rtInt .i64 x4 fun x6 =>
 rtCons l5 fun x7 l8 =>
 rtInt .i64 x7 fun x9 =>
 rtCons l8 fun x10 l11 =>
 rtCons l11 fun x12 l13 =>
 rtCons l13 fun x14 l15 =>
 rtInt .i64 x14 fun x16 =>
 rtCons l15 fun x17 l18 =>
 rtNil l18 (
 chk (allOne [(V.int .i64 x6), (V.int .i64 x9), x10, x12, (V.int .i64 x16), x17]) (
 ldK E σ v7b (Nat.add v7o 12) fun u19 =>
 rtInt .i64 u19 fun x20 =>
 callK (D 40 [(V.ptr v0b v0o), (V.int .i64 x20), (V.agg [(V.int .i64 x6), (V.int .i64 x9), x10, x12, (V.int .i64 x16), x17])] σ) fun u21 s22 =>
 rtOne u21 (
 fillK [(0, 1, u21)] [V.nils] fun l23 =>
 chk (allOne l23) (
 let s24 := newB s22 (.cells l23);
 appK E 1 24 v8 (V.sl (H.next s22) 0 1 (.ex 1)) s24 fun u25 s26 =>
 rtOne u25 (
 R4 v0b v0o v7b v7o u25 v49 v50 (addF .i64 v51 (Int.ofNat 1)) s26)))))) (
 K3 v7b v7o v8 σ)
def C40_5 : XC := (.cond (.tmp 96) (.seq (.keep [(0, .ptr), (5, .ptr), (7, .ptr)] [] [] (.gdraw G40_2 H40_2 [(6, .any)]))
 .ret)
 .skip)
def T40_5 (E : List (Nat × Blk)) (D : Den) (W : DrawFn) (K1 : Nat → Nat → Nat → Nat → H → Ans) (v0b v0o v5b v5o v7b v7o : Nat) (v96 : Bool) (σ : H) : Ans :=
 condK v96 (
 gdrawK (W G40_2 H40_2 [(0, (V.ptr v0b v0o)), (5, (V.ptr v5b v5o)), (7, (V.ptr v7b v7o))] σ) fun e1 s2 =>
 getL e1 6 fun u3 =>
 some (u3, s2)) (
 K1 v5b v5o v7b v7o σ)
def S40_0 (v0b v0o : Nat) (v1 v2_0 v2_1 : Int) (v2_2 v2_3 : V) (v2_4 : Int) (v2_5 : V) (σ : H) : St := ⟨[(0, (V.ptr v0b v0o)), (1, (V.int .i64 v1)), (2, (V.agg [(V.int .i64 v2_0), (V.int .i64 v2_1), v2_2, v2_3, (V.int .i64 v2_4), v2_5]))], [], [], σ⟩
def S40_1 (v5b v5o v7b v7o : Nat) (σ : H) : St := ⟨[(5, (V.ptr v5b v5o)), (7, (V.ptr v7b v7o))], [], [], σ⟩
def S40_2 (v0b v0o v5b v5o v7b v7o : Nat) (v20 : Int) (v36 : Bool) (σ : H) : St := ⟨[(0, (V.ptr v0b v0o)), (5, (V.ptr v5b v5o)), (7, (V.ptr v7b v7o)), (20, (V.int .i64 v20)), (36, (V.bool v36))], [], [], σ⟩
def S40_3 (v7b v7o : Nat) (v8 : V) (σ : H) : St := ⟨[(7, (V.ptr v7b v7o)), (8, v8)], [], [], σ⟩
def S40_4 (v0b v0o v7b v7o : Nat) (v8 v49 : V) (v50 v51 : Int) (σ : H) : St := ⟨[(0, (V.ptr v0b v0o)), (7, (V.ptr v7b v7o)), (8, v8), (49, v49), (50, (V.int .i64 v50)), (51, (V.int .i64 v51))], [], [], σ⟩
def S40_5 (v0b v0o v5b v5o v7b v7o : Nat) (v96 : Bool) (σ : H) : St := ⟨[(0, (V.ptr v0b v0o)), (5, (V.ptr v5b v5o)), (7, (V.ptr v7b v7o)), (96, (V.bool v96))], [], [], σ⟩
theorem P40_0 (cc1 : XC) (cc2 : XC) (v0b v0o : Nat) (v1 v2_0 v2_1 : Int) (v2_2 v2_3 : V) (v2_4 : Int) (v2_5 : V) (σ : H) :
  denC E D W N (C40_0 cc1 cc2) (S40_0 v0b v0o v1 v2_0 v2_1 v2_2 v2_3 v2_4 v2_5 σ) (Fin40 E) (fun _ _ => none) (Fin40 E) =
  T40_0 E D W (fun v0b v0o v5b v5o v7b v7o v20 v36 σ => denC E D W N cc2 (S40_2 v0b v0o v5b v5o v7b v7o v20 v36 σ) (fun s' => denC E D W N (.keep [(5, .ptr), (7, .ptr)] [] [] cc1) s' (Fin40 E) (fun _ _ => none) (Fin40 E)) (blkK 0 (fun s' => denC E D W N (.keep [(5, .ptr), (7, .ptr)] [] [] cc1) s' (Fin40 E) (fun _ _ => none) (Fin40 E)) (fun _ _ => none)) (Fin40 E)) v0b v0o v1 v2_0 v2_1 v2_2 v2_3 v2_4 v2_5 σ := by kernel_rfl
theorem P40_1 (v5b v5o v7b v7o : Nat) (σ : H) :
  denC E D W N (C40_1 ) (S40_1 v5b v5o v7b v7o σ) (Fin40 E) (fun _ _ => none) (Fin40 E) =
  T40_1 E D W  v5b v5o v7b v7o σ := by kernel_rfl
theorem P40_2 (cc1 : XC) (cc3 : XC) (cc4 : XC) (cc5 : XC) (v0b v0o v5b v5o v7b v7o : Nat) (v20 : Int) (v36 : Bool) (σ : H) :
  denC E D W N (C40_2 cc3 cc4 cc5) (S40_2 v0b v0o v5b v5o v7b v7o v20 v36 σ) (fun s' => denC E D W N (.keep [(5, .ptr), (7, .ptr)] [] [] cc1) s' (Fin40 E) (fun _ _ => none) (Fin40 E)) (blkK 0 (fun s' => denC E D W N (.keep [(5, .ptr), (7, .ptr)] [] [] cc1) s' (Fin40 E) (fun _ _ => none) (Fin40 E)) (fun _ _ => none)) (Fin40 E) =
  T40_2 E D W (fun v0b v0o v7b v7o v8 v49 v50 v51 σ => iterK (fun rec s' => denC E D W N cc4 s' (fun s'' => keepS [(0, .ptr), (7, .ptr), (8, .any), (49, .any), (50, .i), (51, .i)] [] [] s'' rec) (blkK 1 (fun s' => denC E D W N (.keep [(7, .ptr), (8, .any)] [] [] cc3) s' (fun s' => denC E D W N (.keep [(5, .ptr), (7, .ptr)] [] [] cc1) s' (Fin40 E) (fun _ _ => none) (Fin40 E)) (blkK 0 (fun s' => denC E D W N (.keep [(5, .ptr), (7, .ptr)] [] [] cc1) s' (Fin40 E) (fun _ _ => none) (Fin40 E)) (fun _ _ => none)) (Fin40 E)) (blkK 0 (fun s' => denC E D W N (.keep [(5, .ptr), (7, .ptr)] [] [] cc1) s' (Fin40 E) (fun _ _ => none) (Fin40 E)) (fun _ _ => none))) (Fin40 E)) N (S40_4 v0b v0o v7b v7o v8 v49 v50 v51 σ)) (fun v0b v0o v5b v5o v7b v7o v96 σ => denC E D W N cc5 (S40_5 v0b v0o v5b v5o v7b v7o v96 σ) (fun s' => denC E D W N (.keep [(5, .ptr), (7, .ptr)] [] [] cc1) s' (Fin40 E) (fun _ _ => none) (Fin40 E)) (blkK 0 (fun s' => denC E D W N (.keep [(5, .ptr), (7, .ptr)] [] [] cc1) s' (Fin40 E) (fun _ _ => none) (Fin40 E)) (fun _ _ => none)) (Fin40 E)) v0b v0o v5b v5o v7b v7o v20 v36 σ := by kernel_rfl
theorem P40_3 (cc1 : XC) (v7b v7o : Nat) (v8 : V) (σ : H) :
  denC E D W N (C40_3 ) (S40_3 v7b v7o v8 σ) (fun s' => denC E D W N (.keep [(5, .ptr), (7, .ptr)] [] [] cc1) s' (Fin40 E) (fun _ _ => none) (Fin40 E)) (blkK 0 (fun s' => denC E D W N (.keep [(5, .ptr), (7, .ptr)] [] [] cc1) s' (Fin40 E) (fun _ _ => none) (Fin40 E)) (fun _ _ => none)) (Fin40 E) =
  T40_3 E D W  v7b v7o v8 σ := by kernel_rfl
theorem P40_4 (cc1 : XC) (cc3 : XC) (li4 : St → Ans) (v0b v0o v7b v7o : Nat) (v8 v49 : V) (v50 v51 : Int) (σ : H) :
  denC E D W N (C40_4 ) (S40_4 v0b v0o v7b v7o v8 v49 v50 v51 σ) (fun s'' => keepS [(0, .ptr), (7, .ptr), (8, .any), (49, .any), (50, .i), (51, .i)] [] [] s'' li4) (blkK 1 (fun s' => denC E D W N (.keep [(7, .ptr), (8, .any)] [] [] cc3) s' (fun s' => denC E D W N (.keep [(5, .ptr), (7, .ptr)] [] [] cc1) s' (Fin40 E) (fun _ _ => none) (Fin40 E)) (blkK 0 (fun s' => denC E D W N (.keep [(5, .ptr), (7, .ptr)] [] [] cc1) s' (Fin40 E) (fun _ _ => none) (Fin40 E)) (fun _ _ => none)) (Fin40 E)) (blkK 0 (fun s' => denC E D W N (.keep [(5, .ptr), (7, .ptr)] [] [] cc1) s' (Fin40 E) (fun _ _ => none) (Fin40 E)) (fun _ _ => none))) (Fin40 E) =
  T40_4 E D W (fun v7b v7o v8 σ => denC E D W N cc3 (S40_3 v7b v7o v8 σ) (fun s' => denC E D W N (.keep [(5, .ptr), (7, .ptr)] [] [] cc1) s' (Fin40 E) (fun _ _ => none) (Fin40 E)) (blkK 0 (fun s' => denC E D W N (.keep [(5, .ptr), (7, .ptr)] [] [] cc1) s' (Fin40 E) (fun _ _ => none) (Fin40 E)) (fun _ _ => none)) (Fin40 E)) (fun v0b v0o v7b v7o v8 v49 v50 v51 σ => li4 (S40_4 v0b v0o v7b v7o v8 v49 v50 v51 σ)) v0b v0o v7b v7o v8 v49 v50 v51 σ := by kernel_rfl
theorem P40_5 (cc1 : XC) (v0b v0o v5b v5o v7b v7o : Nat) (v96 : Bool) (σ : H) :
  denC E D W N (C40_5 ) (S40_5 v0b v0o v5b v5o v7b v7o v96 σ) (fun s' => denC E D W N (.keep [(5, .ptr), (7, .ptr)] [] [] cc1) s' (Fin40 E) (fun _ _ => none) (Fin40 E)) (blkK 0 (fun s' => denC E D W N (.keep [(5, .ptr), (7, .ptr)] [] [] cc1) s' (Fin40 E) (fun _ _ => none) (Fin40 E)) (fun _ _ => none)) (Fin40 E) =
  T40_5 E D W (fun v5b v5o v7b v7o σ => denC E D W N cc1 (S40_1 v5b v5o v7b v7o σ) (Fin40 E) (fun _ _ => none) (Fin40 E)) v0b v0o v5b v5o v7b v7o v96 σ := by kernel_rfl
def J40_3 (E : List (Nat × Blk)) (D : Den) (W : DrawFn) (N : Nat) : Nat → Nat → V → H → Ans := T40_3 E D W 
theorem JE40_3 (v7b v7o : Nat) (v8 : V) (σ : H) :
  denC E D W N C40_3 (S40_3 v7b v7o v8 σ) (fun s' => denC E D W N (.keep [(5, .ptr), (7, .ptr)] [] [] C40_1) s' (Fin40 E) (fun _ _ => none) (Fin40 E)) (blkK 0 (fun s' => denC E D W N (.keep [(5, .ptr), (7, .ptr)] [] [] C40_1) s' (Fin40 E) (fun _ _ => none) (Fin40 E)) (fun _ _ => none)) (Fin40 E) = J40_3 E D W N v7b v7o v8 σ := by
  refine (P40_3 E D W N C40_1  v7b v7o v8 σ).trans ?_
  kernel_rfl
def L40_4 (n : Nat) : Nat → Nat → Nat → Nat → V → V → Int → Int → H → Ans :=
  Nat.rec (fun _ _ _ _ _ _ _ _ _ => none) (fun _ ih => T40_4 E D W (J40_3 E D W N ) ih) n
theorem LE40_4 (n : Nat) : ∀ (v0b v0o v7b v7o : Nat) (v8 v49 : V) (v50 v51 : Int) (σ : H),
  iterK (fun rec s' => denC E D W N C40_4 s' (fun s'' => keepS [(0, .ptr), (7, .ptr), (8, .any), (49, .any), (50, .i), (51, .i)] [] [] s'' rec) (blkK 1 (fun s' => denC E D W N (.keep [(7, .ptr), (8, .any)] [] [] C40_3) s' (fun s' => denC E D W N (.keep [(5, .ptr), (7, .ptr)] [] [] C40_1) s' (Fin40 E) (fun _ _ => none) (Fin40 E)) (blkK 0 (fun s' => denC E D W N (.keep [(5, .ptr), (7, .ptr)] [] [] C40_1) s' (Fin40 E) (fun _ _ => none) (Fin40 E)) (fun _ _ => none)) (Fin40 E)) (blkK 0 (fun s' => denC E D W N (.keep [(5, .ptr), (7, .ptr)] [] [] C40_1) s' (Fin40 E) (fun _ _ => none) (Fin40 E)) (fun _ _ => none))) (Fin40 E)) n (S40_4 v0b v0o v7b v7o v8 v49 v50 v51 σ) = L40_4 E D W N n v0b v0o v7b v7o v8 v49 v50 v51 σ := by
  induction n with
  | zero => intro v0b v0o v7b v7o v8 v49 v50 v51 σ; rfl
  | succ n ihn =>
    intro v0b v0o v7b v7o v8 v49 v50 v51 σ
    rw [iterK_succ]
    refine (P40_4 E D W N C40_1 C40_3 (iterK (fun rec s' => denC E D W N C40_4 s' (fun s'' => keepS [(0, .ptr), (7, .ptr), (8, .any), (49, .any), (50, .i), (51, .i)] [] [] s'' rec) (blkK 1 (fun s' => denC E D W N (.keep [(7, .ptr), (8, .any)] [] [] C40_3) s' (fun s' => denC E D W N (.keep [(5, .ptr), (7, .ptr)] [] [] C40_1) s' (Fin40 E) (fun _ _ => none) (Fin40 E)) (blkK 0 (fun s' => denC E D W N (.keep [(5, .ptr), (7, .ptr)] [] [] C40_1) s' (Fin40 E) (fun _ _ => none) (Fin40 E)) (fun _ _ => none)) (Fin40 E)) (blkK 0 (fun s' => denC E D W N (.keep [(5, .ptr), (7, .ptr)] [] [] C40_1) s' (Fin40 E) (fun _ _ => none) (Fin40 E)) (fun _ _ => none))) (Fin40 E)) n) v0b v0o v7b v7o v8 v49 v50 v51 σ).trans ?_
    simp only [ihn, JE40_3]
    kernel_rfl
def J40_1 (E : List (Nat × Blk)) (D : Den) (W : DrawFn) (N : Nat) : Nat → Nat → Nat → Nat → H → Ans := T40_1 E D W 
theorem JE40_1 (v5b v5o v7b v7o : Nat) (σ : H) :
  denC E D W N C40_1 (S40_1 v5b v5o v7b v7o σ) (Fin40 E) (fun _ _ => none) (Fin40 E) = J40_1 E D W N v5b v5o v7b v7o σ := by
  refine (P40_1 E D W N   v5b v5o v7b v7o σ).trans ?_
  kernel_rfl
def J40_5 : Nat → Nat → Nat → Nat → Nat → Nat → Bool → H → Ans := T40_5 E D W (J40_1 E D W N )
theorem JE40_5 (v0b v0o v5b v5o v7b v7o : Nat) (v96 : Bool) (σ : H) :
  denC E D W N C40_5 (S40_5 v0b v0o v5b v5o v7b v7o v96 σ) (fun s' => denC E D W N (.keep [(5, .ptr), (7, .ptr)] [] [] C40_1) s' (Fin40 E) (fun _ _ => none) (Fin40 E)) (blkK 0 (fun s' => denC E D W N (.keep [(5, .ptr), (7, .ptr)] [] [] C40_1) s' (Fin40 E) (fun _ _ => none) (Fin40 E)) (fun _ _ => none)) (Fin40 E) = J40_5 E D W N v0b v0o v5b v5o v7b v7o v96 σ := by
  refine (P40_5 E D W N C40_1  v0b v0o v5b v5o v7b v7o v96 σ).trans ?_
  simp only [JE40_1]
  kernel_rfl
def J40_2 : Nat → Nat → Nat → Nat → Nat → Nat → Int → Bool → H → Ans := T40_2 E D W (L40_4 E D W N N) (J40_5 E D W N )
theorem JE40_2 (v0b v0o v5b v5o v7b v7o : Nat) (v20 : Int) (v36 : Bool) (σ : H) :
  denC E D W N (C40_2 C40_3 C40_4 C40_5) (S40_2 v0b v0o v5b v5o v7b v7o v20 v36 σ) (fun s' => denC E D W N (.keep [(5, .ptr), (7, .ptr)] [] [] C40_1) s' (Fin40 E) (fun _ _ => none) (Fin40 E)) (blkK 0 (fun s' => denC E D W N (.keep [(5, .ptr), (7, .ptr)] [] [] C40_1) s' (Fin40 E) (fun _ _ => none) (Fin40 E)) (fun _ _ => none)) (Fin40 E) = J40_2 E D W N v0b v0o v5b v5o v7b v7o v20 v36 σ := by
  refine (P40_2 E D W N C40_1 C40_3 C40_4 C40_5  v0b v0o v5b v5o v7b v7o v20 v36 σ).trans ?_
  simp only [LE40_4, JE40_5]
  kernel_rfl
def J40_0 : Nat → Nat → Int → Int → Int → V → V → Int → V → H → Ans := T40_0 E D W (J40_2 E D W N )
theorem JE40_0 (v0b v0o : Nat) (v1 v2_0 v2_1 : Int) (v2_2 v2_3 : V) (v2_4 : Int) (v2_5 : V) (σ : H) :
  denC E D W N (C40_0 C40_1 (C40_2 C40_3 C40_4 C40_5)) (S40_0 v0b v0o v1 v2_0 v2_1 v2_2 v2_3 v2_4 v2_5 σ) (Fin40 E) (fun _ _ => none) (Fin40 E) = J40_0 E D W N v0b v0o v1 v2_0 v2_1 v2_2 v2_3 v2_4 v2_5 σ := by
  refine (P40_0 E D W N C40_1 (C40_2 C40_3 C40_4 C40_5)  v0b v0o v1 v2_0 v2_1 v2_2 v2_3 v2_4 v2_5 σ).trans ?_
  simp only [JE40_2]
  kernel_rfl
def F40 (args : List V) (σ : H) : Ans :=
 rtCons args fun x1 l2 =>
 rtPtr x1 fun b3 o4 =>
 rtCons l2 fun x5 l6 =>
 rtInt .i64 x5 fun x7 =>
 rtCons l6 fun x8 l9 =>
 rtAgg x8 fun l10 =>
 rtCons l10 fun x11 l12 =>
 rtInt .i64 x11 fun x13 =>
 rtCons l12 fun x14 l15 =>
 rtInt .i64 x14 fun x16 =>
 rtCons l15 fun x17 l18 =>
 rtCons l18 fun x19 l20 =>
 rtCons l20 fun x21 l22 =>
 rtInt .i64 x21 fun x23 =>
 rtCons l22 fun x24 l25 =>
 rtNil l25 (
 rtNil l9 (
 J40_0 E D W N b3 o4 x7 x13 x16 x17 x19 x23 x24 σ))
def A40 : XFn := ⟨112, [.ptr, .i, (.agg [.i, .i, .any, .any, .i, .any])], [(.tmp 6)], (C40_0 C40_1 (C40_2 C40_3 C40_4 C40_5))⟩
theorem FE40 (args : List V) (σ : H) : runX E D W N A40 args σ = F40 E D W N args σ := by
  unfold F40
  simp only [← JE40_0]
  kernel_rfl
theorem AO40 : A40.body.ok = true := by kernel_rfl

/-! ### F49: ogham_oghamref03.Head -/
def Fin49 (E : List (Nat × Blk)) : St → Ans := fun s => resK E s [(.tmp 6)] fun l => some (oneV l, s.σ)
def C49_0 (cc1 : XC) : XC := (.seq (.ops (.p 3 [0] (.box 45 (.t 0))<|
.c 6 V.nils<|
.nil))
 (.seq (.ops (.f 12 0 3<|
.l 13 .i 12<|
.b 14 .and .none (.t 13) (.i 3)<|
.p 15 [14] (.conv (.toInt .u8) (.t 14))<|
.b 16 .shl .none (.t 15) (.con (V.int .u64 (Int.ofNat 6)))<|
.m 7 16<|
.nil))
 (.seq (.seq (.ops (.m 17 1<|
.nil))
 (.cond (.tmp 17) (.ops (.m 18 7<|
.b 19 .or .none (.t 18) (.con (V.int .u8 (Int.ofNat 32)))<|
.m 7 19<|
.nil))
 .skip))
 (.keep [(2, .i), (3, .ptr), (7, (.int .u8))] [] [] cc1))))
def T49_0 (E : List (Nat × Blk)) (D : Den) (W : DrawFn) (K1 : Int → Nat → Nat → Int → H → Ans) (v0_0 v0_1 : Int) (v1 : Bool) (v2 : Int) (σ : H) : Ans :=
 chk (allOne (V.cells (V.agg [(V.int .i64 v0_0), (V.int .i64 v0_1)]))) (
 let s1 := newB σ (.cells (V.cells (V.agg [(V.int .i64 v0_0), (V.int .i64 v0_1)])));
 ldK E s1 (H.next σ) 0 fun u2 =>
 rtInt .i64 u2 fun x3 =>
 condK v1 (
 K1 v2 (H.next σ) 0 (orF .u8 (shlF .u8 (wrapF .u8 (andF .i64 x3 (Int.ofNat 3))) 6) (Int.ofNat 32)) s1) (
 K1 v2 (H.next σ) 0 (shlF .u8 (wrapF .u8 (andF .i64 x3 (Int.ofNat 3))) 6) s1))
def C49_1 (cc2 : XC) : XC := (.seq (.ops (.f 20 1 3<|
.l 21 .i 20<|
.p 22 [21] (.max (.i 0) [(.t 21)])<|
.m 8 22<|
.nil))
 (.seq (.ops (.c 9 V.nils<|
.nil))
 (.seq (.seq (.ops (.m 23 8<|
.b 24 .lss .none (.t 23) (.i 31)<|
.nil))
 (.cond (.tmp 24) (.ops (.m 25 7<|
.m 26 8<|
.p 27 [26] (.conv (.toInt .u8) (.t 26))<|
.b 28 .or .none (.t 25) (.t 27)<|
.p 29 [28] (.buildSlice 5 1 [(V.int .u8 (Int.ofNat 0))] [(0, 1, (.t 28))])<|
.m 9 29<|
.nil))
 (.ops (.m 30 7<|
.b 31 .or .none (.t 30) (.con (V.int .u8 (Int.ofNat 31)))<|
.p 32 [31] (.buildSlice 5 1 [(V.int .u8 (Int.ofNat 0))] [(0, 1, (.t 31))])<|
.m 33 8<|
.p 34 [33] (.conv (.toInt .u64) (.t 33))<|
.k 35 .one 80 [(.t 34)]<|
.op (some 36) .one [32, 35] (.append 5 1 1 (.t 32) (.t 35))<|
.m 9 36<|
.nil))))
 (.keep [(2, .i), (9, .any)] [] [] cc2))))
def T49_1 (E : List (Nat × Blk)) (D : Den) (W : DrawFn) (K2 : Int → V → H → Ans) (v2 : Int) (v3b v3o : Nat) (v7 : Int) (σ : H) : Ans :=
 ldK E σ v3b (Nat.add v3o 1) fun u1 =>
 rtInt .i64 u1 fun x2 =>
 condK (ltF (maxF (Int.ofNat 0) x2) (Int.ofNat 31)) (
 let s3 := newB σ (.cells [(V.int .u8 (orF .u8 v7 (wrapF .u8 (maxF (Int.ofNat 0) x2))))]);
 K2 v2 (V.sl (H.next σ) 0 1 (.ex 1)) s3) (
 let s4 := newB σ (.cells [(V.int .u8 (orF .u8 v7 (Int.ofNat 31)))]);
 callK (D 80 [(V.int .u64 (wrapF .u64 (maxF (Int.ofNat 0) x2)))] s4) fun u5 s6 =>
 rtOne u5 (
 appK E 1 1 (V.sl (H.next σ) 0 1 (.ex 1)) u5 s6 fun u7 s8 =>
 rtOne u7 (
 K2 v2 u7 s8)))
def C49_2 : XC := (.seq (.ops (.m 37 2<|
.p 38 [37] (.max (.i 0) [(.t 37)])<|
.m 10 38<|
.nil))
 (.seq (.seq (.ops (.m 39 10<|
.b 40 .lss .none (.t 39) (.i 128)<|
.nil))
 (.cond (.tmp 40) (.seq (.ops (.m 41 9<|
.m 42 10<|
.p 43 [42] (.conv (.toInt .u8) (.t 42))<|
.p 44 [43] (.buildSlice 5 1 [(V.int .u8 (Int.ofNat 0))] [(0, 1, (.t 43))])<|
.op (some 45) .one [41, 44] (.append 5 1 1 (.t 41) (.t 44))<|
.m 6 45<|
.nil))
 .ret)
 .skip))
 (.seq (.ops (.m 46 10<|
.p 47 [46] (.conv (.toInt .u64) (.t 46))<|
.k 48 .one 81 [(.t 47)]<|
.m 11 48<|
.nil))
 (.seq (.ops (.m 49 9<|
.m 50 11<|
.u 51 50<|
.p 52 [51] (.conv (.toInt .u8) (.t 51))<|
.b 53 .or .none (.con (V.int .u8 (Int.ofNat 128))) (.t 52)<|
.p 54 [53] (.buildSlice 5 1 [(V.int .u8 (Int.ofNat 0))] [(0, 1, (.t 53))])<|
.op (some 55) .one [49, 54] (.append 5 1 1 (.t 49) (.t 54))<|
.m 9 55<|
.nil))
 (.seq (.ops (.m 56 9<|
.m 57 11<|
.op (some 58) .one [56, 57] (.append 5 1 1 (.t 56) (.t 57))<|
.m 6 58<|
.nil))
 .ret)))))
def T49_2 (E : List (Nat × Blk)) (D : Den) (W : DrawFn) (v2 : Int) (v9 : V) (σ : H) : Ans :=
 condK (ltF (maxF (Int.ofNat 0) v2) (Int.ofNat 128)) (
 let s1 := newB σ (.cells [(V.int .u8 (wrapF .u8 (maxF (Int.ofNat 0) v2)))]);
 appK E 1 1 v9 (V.sl (H.next σ) 0 1 (.ex 1)) s1 fun u2 s3 =>
 rtOne u2 (
 some (u2, s3))) (
 callK (D 81 [(V.int .u64 (wrapF .u64 (maxF (Int.ofNat 0) v2)))] σ) fun u4 s5 =>
 rtOne u4 (
 slenK u4 fun n6 =>
 let s7 := newB s5 (.cells [(V.int .u8 (orF .u8 (Int.ofNat 128) (wrapF .u8 (Int.ofNat n6))))]);
 appK E 1 1 v9 (V.sl (H.next s5) 0 1 (.ex 1)) s7 fun u8 s9 =>
 rtOne u8 (
 appK E 1 1 u8 u4 s9 fun u10 s11 =>
 rtOne u10 (
 some (u10, s11)))))
def S49_0 (v0_0 v0_1 : Int) (v1 : Bool) (v2 : Int) (σ : H) : St := ⟨[(0, (V.agg [(V.int .i64 v0_0), (V.int .i64 v0_1)])), (1, (V.bool v1)), (2, (V.int .i64 v2))], [], [], σ⟩
def S49_1 (v2 : Int) (v3b v3o : Nat) (v7 : Int) (σ : H) : St := ⟨[(2, (V.int .i64 v2)), (3, (V.ptr v3b v3o)), (7, (V.int .u8 v7))], [], [], σ⟩
def S49_2 (v2 : Int) (v9 : V) (σ : H) : St := ⟨[(2, (V.int .i64 v2)), (9, v9)], [], [], σ⟩
theorem P49_0 (cc1 : XC) (v0_0 v0_1 : Int) (v1 : Bool) (v2 : Int) (σ : H) :
  denC E D W N (C49_0 cc1) (S49_0 v0_0 v0_1 v1 v2 σ) (Fin49 E) (fun _ _ => none) (Fin49 E) =
  T49_0 E D W (fun v2 v3b v3o v7 σ => denC E D W N cc1 (S49_1 v2 v3b v3o v7 σ) (Fin49 E) (fun _ _ => none) (Fin49 E)) v0_0 v0_1 v1 v2 σ := by kernel_rfl
theorem P49_1 (cc2 : XC) (v2 : Int) (v3b v3o : Nat) (v7 : Int) (σ : H) :
  denC E D W N (C49_1 cc2) (S49_1 v2 v3b v3o v7 σ) (Fin49 E) (fun _ _ => none) (Fin49 E) =
  T49_1 E D W (fun v2 v9 σ => denC E D W N cc2 (S49_2 v2 v9 σ) (Fin49 E) (fun _ _ => none) (Fin49 E)) v2 v3b v3o v7 σ := by kernel_rfl
theorem P49_2 (v2 : Int) (v9 : V) (σ : H) :
  denC E D W N (C49_2 ) (S49_2 v2 v9 σ) (Fin49 E) (fun _ _ => none) (Fin49 E) =
  T49_2 E D W  v2 v9 σ := by kernel_rfl
def J49_2 (E : List (Nat × Blk)) (D : Den) (W : DrawFn) (N : Nat) : Int → V → H → Ans := T49_2 E D W 
theorem JE49_2 (v2 : Int) (v9 : V) (σ : H) :
  denC E D W N C49_2 (S49_2 v2 v9 σ) (Fin49 E) (fun _ _ => none) (Fin49 E) = J49_2 E D W N v2 v9 σ := by
  refine (P49_2 E D W N   v2 v9 σ).trans ?_
  kernel_rfl
def J49_1 : Int → Nat → Nat → Int → H → Ans := T49_1 E D W (J49_2 E D W N )
theorem JE49_1 (v2 : Int) (v3b v3o : Nat) (v7 : Int) (σ : H) :
  denC E D W N (C49_1 C49_2) (S49_1 v2 v3b v3o v7 σ) (Fin49 E) (fun _ _ => none) (Fin49 E) = J49_1 E D W N v2 v3b v3o v7 σ := by
  refine (P49_1 E D W N C49_2  v2 v3b v3o v7 σ).trans ?_
  simp only [JE49_2]
  kernel_rfl
def J49_0 : Int → Int → Bool → Int → H → Ans := T49_0 E D W (J49_1 E D W N )
theorem JE49_0 (v0_0 v0_1 : Int) (v1 : Bool) (v2 : Int) (σ : H) :
  denC E D W N (C49_0 (C49_1 C49_2)) (S49_0 v0_0 v0_1 v1 v2 σ) (Fin49 E) (fun _ _ => none) (Fin49 E) = J49_0 E D W N v0_0 v0_1 v1 v2 σ := by
  refine (P49_0 E D W N (C49_1 C49_2)  v0_0 v0_1 v1 v2 σ).trans ?_
  simp only [JE49_1]
  kernel_rfl
def F49 (args : List V) (σ : H) : Ans :=
 rtCons args fun x1 l2 =>
 rtAgg x1 fun l3 =>
 rtCons l3 fun x4 l5 =>
 rtInt .i64 x4 fun x6 =>
 rtCons l5 fun x7 l8 =>
 rtInt .i64 x7 fun x9 =>
 rtNil l8 (
 rtCons l2 fun x10 l11 =>
 rtBool x10 fun x12 =>
 rtCons l11 fun x13 l14 =>
 rtInt .i64 x13 fun x15 =>
 rtNil l14 (
 J49_0 E D W N x6 x9 x12 x15 σ))
def A49 : XFn := ⟨59, [(.agg [.i, .i]), .bool, .i], [(.tmp 6)], (C49_0 (C49_1 C49_2))⟩
theorem FE49 (args : List V) (σ : H) : runX E D W N A49 args σ = F49 E D W N args σ := by
  unfold F49
  simp only [← JE49_0]
  kernel_rfl
theorem AO49 : A49.body.ok = true := by kernel_rfl

/-! ### F54: ogham_oghamref04.Tokens -/
def Fin54 (E : List (Nat × Blk)) : St → Ans := fun s => resK E s [(.tmp 2), (.tmp 3), (.tmp 4)] fun l => some (oneV l, s.σ)
def C54_0 (cc1 : XC) : XC := (.seq (.ops (.c 2 V.nils<|
.q 3 0<|
.q 4 0<|
.nil))
 (.seq (.seq (.ops (.m 9 0<|
.p 10 [9] (.len true (.t 9))<|
.b 11 .gtr .none (.t 10) (.i 8000)<|
.nil))
 (.cond (.tmp 11) (.seq (.ops (.c 2 V.nils<|
.q 3 0<|
.q 4 5<|
.nil))
 .ret)
 .skip))
 (.seq (.ops (.c 5 V.nils<|
.nil))
 (.seq (.ops (.q 6 0<|
.nil))
 (.block 0 (.loop [(0, .str), (5, .any), (6, .i)] [] [] cc1))))))
def T54_0 (E : List (Nat × Blk)) (D : Den) (W : DrawFn) (K1 : BS → V → Int → H → Ans) (v0 : BS) (σ : H) : Ans :=
 condK (ltF (Int.ofNat 8000) (Int.ofNat (BS.len v0))) (
 some ((V.tup [V.nils, (V.int .i64 (Int.ofNat 0)), (V.int .i64 (Int.ofNat 5))]), σ)) (
 K1 v0 V.nils (Int.ofNat 0) σ)
def C54_1 : XC := (.block 1 (.seq (.ops (.m 12 0<|
.m 13 6<|
.k 14 .i 96 [(.t 12), (.t 13)]<|
.m 6 14<|
.nil))
 (.seq (.seq (.ops (.m 15 6<|
.m 16 0<|
.p 17 [16] (.len true (.t 16))<|
.b 18 .geq .none (.t 15) (.t 17)<|
.nil))
 (.cond (.tmp 18) (.seq (.ops (.m 19 5<|
.m 20 0<|
.p 21 [20] (.len true (.t 20))<|
.op (some 22) (.agg [.i, .str, .i]) [21] (.build [(V.int .i64 (Int.ofNat 0)), (V.str ⟨0, 0⟩), (V.int .i64 (Int.ofNat 0))] [(2, 1, (.t 21))])<|
.p 23 [22] (.buildSlice 115 1 [(V.int .i64 (Int.ofNat 0)), (V.str ⟨0, 0⟩), (V.int .i64 (Int.ofNat 0))] [(0, 3, (.t 22))])<|
.op (some 24) .one [19, 23] (.append 115 3 32 (.t 19) (.t 23))<|
.m 2 24<|
.q 3 0<|
.q 4 0<|
.nil))
 .ret)
 .skip))
 (.seq (.ops (.m 26 0<|
.m 27 6<|
.k 28 (.tup [(.agg [.i, .str, .i]), .i]) 97 [(.t 26), (.t 27)]<|
.m 25 28<|
.p 29 [25] (.extract 0 (.t 25))<|
.p 30 [25] (.extract 1 (.t 25))<|
.pal 7 [] 115 [(V.int .i64 (Int.ofNat 0)), (V.str ⟨0, 0⟩), (V.int .i64 (Int.ofNat 0))]<|
.op none (.agg [.i, .str, .i]) [7, 29] (.store 3 (.t 7) (.t 29))<|
.m 8 30<|
.nil))
 (.seq (.seq (.ops (.m 31 8<|
.b 32 .lss .none (.t 31) (.i 0)<|
.nil))
 (.cond (.tmp 32) (.seq (.ops (.m 33 6<|
.c 2 V.nils<|
.m 3 33<|
.q 4 6<|
.nil))
 .ret)
 .skip))
 (.seq (.ops (.m 34 5<|
.op (some 35) (.agg [.i, .str, .i]) [7] (.load (some 3) (.t 7))<|
.p 36 [35] (.buildSlice 115 1 [(V.int .i64 (Int.ofNat 0)), (V.str ⟨0, 0⟩), (V.int .i64 (Int.ofNat 0))] [(0, 3, (.t 35))])<|
.op (some 37) .one [34, 36] (.append 115 3 32 (.t 34) (.t 36))<|
.m 5 37<|
.nil))
 (.ops (.m 38 8<|
.m 6 38<|
.nil))))))))
def T54_1 (E : List (Nat × Blk)) (D : Den) (W : DrawFn) (R1 : BS → V → Int → H → Ans) (v0 : BS) (v5 : V) (v6 : Int) (σ : H) : Ans :=
 callK (D 96 [(V.str v0), (V.int .i64 v6)] σ) fun u1 s2 =>
 rtInt .i64 u1 fun x3 =>
 condK (leF (Int.ofNat (BS.len v0)) x3) (
 let s4 := newB s2 (.cells [(V.int .i64 (Int.ofNat 0)), (V.str (BS.mk 0 0)), (V.int .i64 (Int.ofNat (BS.len v0)))]);
 appK E 3 32 v5 (V.sl (H.next s2) 0 1 (.ex 1)) s4 fun u5 s6 =>
 rtOne u5 (
 some ((V.tup [u5, (V.int .i64 (Int.ofNat 0)), (V.int .i64 (Int.ofNat 0))]), s6))) (
 callK (D 97 [(V.str v0), (V.int .i64 x3)] s2) fun u7 s8 =>
 rtTup u7 fun l9 =>
 rtCons l9 fun x10 l11 =>
 rtAgg x10 fun l12 =>
 rtCons l12 fun x13 l14 =>
 rtInt .i64 x13 fun x15 =>
 rtCons l14 fun x16 l17 =>
 rtStr x16 fun x18 =>
 rtCons l17 fun x19 l20 =>
 rtInt .i64 x19 fun x21 =>
 rtNil l20 (
 rtCons l11 fun x22 l23 =>
 rtInt .i64 x22 fun x24 =>
 rtNil l23 (
 condK (ltF x24 (Int.ofNat 0)) (
 some ((V.tup [V.nils, (V.int .i64 x3), (V.int .i64 (Int.ofNat 6))]), s8)) (
 let s25 := newB s8 (.cells [(V.int .i64 x15), (V.str x18), (V.int .i64 x21)]);
 appK E 3 32 v5 (V.sl (H.next s8) 0 1 (.ex 1)) s25 fun u26 s27 =>
 rtOne u26 (
 R1 v0 u26 x24 s27)))))
def S54_0 (v0 : BS) (σ : H) : St := ⟨[(0, (V.str v0))], [], [], σ⟩
def S54_1 (v0 : BS) (v5 : V) (v6 : Int) (σ : H) : St := ⟨[(0, (V.str v0)), (5, v5), (6, (V.int .i64 v6))], [], [], σ⟩
theorem P54_0 (cc1 : XC) (v0 : BS) (σ : H) :
  denC E D W N (C54_0 cc1) (S54_0 v0 σ) (Fin54 E) (fun _ _ => none) (Fin54 E) =
  T54_0 E D W (fun v0 v5 v6 σ => iterK (fun rec s' => denC E D W N cc1 s' (fun s'' => keepS [(0, .str), (5, .any), (6, .i)] [] [] s'' rec) (blkK 0 (Fin54 E) (fun _ _ => none)) (Fin54 E)) N (S54_1 v0 v5 v6 σ)) v0 σ := by kernel_rfl
theorem P54_1 (li1 : St → Ans) (v0 : BS) (v5 : V) (v6 : Int) (σ : H) :
  denC E D W N (C54_1 ) (S54_1 v0 v5 v6 σ) (fun s'' => keepS [(0, .str), (5, .any), (6, .i)] [] [] s'' li1) (blkK 0 (Fin54 E) (fun _ _ => none)) (Fin54 E) =
  T54_1 E D W (fun v0 v5 v6 σ => li1 (S54_1 v0 v5 v6 σ)) v0 v5 v6 σ := by kernel_rfl
def L54_1 (E : List (Nat × Blk)) (D : Den) (W : DrawFn) (N : Nat) (n : Nat) : BS → V → Int → H → Ans :=
  Nat.rec (fun _ _ _ _ => none) (fun _ ih => T54_1 E D W ih) n
theorem LE54_1 (n : Nat) : ∀ (v0 : BS) (v5 : V) (v6 : Int) (σ : H),
  iterK (fun rec s' => denC E D W N C54_1 s' (fun s'' => keepS [(0, .str), (5, .any), (6, .i)] [] [] s'' rec) (blkK 0 (Fin54 E) (fun _ _ => none)) (Fin54 E)) n (S54_1 v0 v5 v6 σ) = L54_1 E D W N n v0 v5 v6 σ := by
  induction n with
  | zero => intro v0 v5 v6 σ; rfl
  | succ n ihn =>
    intro v0 v5 v6 σ
    rw [iterK_succ]
    refine (P54_1 E D W N  (iterK (fun rec s' => denC E D W N C54_1 s' (fun s'' => keepS [(0, .str), (5, .any), (6, .i)] [] [] s'' rec) (blkK 0 (Fin54 E) (fun _ _ => none)) (Fin54 E)) n) v0 v5 v6 σ).trans ?_
    simp only [ihn]
    kernel_rfl
def J54_0 : BS → H → Ans := T54_0 E D W (L54_1 E D W N N)
theorem JE54_0 (v0 : BS) (σ : H) :
  denC E D W N (C54_0 C54_1) (S54_0 v0 σ) (Fin54 E) (fun _ _ => none) (Fin54 E) = J54_0 E D W N v0 σ := by
  refine (P54_0 E D W N C54_1  v0 σ).trans ?_
  simp only [LE54_1]
  kernel_rfl
def F54 (args : List V) (σ : H) : Ans :=
 rtCons args fun x1 l2 =>
 rtStr x1 fun x3 =>
 rtNil l2 (
 J54_0 E D W N x3 σ)
def A54 : XFn := ⟨39, [.str], [(.tmp 2), (.tmp 3), (.tmp 4)], (C54_0 C54_1)⟩
theorem FE54 (args : List V) (σ : H) : runX E D W N A54 args σ = F54 E D W N args σ := by
  unfold F54
  simp only [← JE54_0]
  kernel_rfl
theorem AO54 : A54.body.ok = true := by kernel_rfl

def C55_0 : XC := (.seq (.ops (.c 4 (V.str ⟨0, 0⟩)<|
.nil))
 (.seq (.ops (.m 6 0<|
.k 7 (.agg [.i, .str, .i]) 58 [(.t 6)]<|
.pal 5 [] 115 [(V.int .i64 (Int.ofNat 0)), (V.str ⟨0, 0⟩), (V.int .i64 (Int.ofNat 0))]<|
.op none (.agg [.i, .str, .i]) [5, 7] (.store 3 (.t 5) (.t 7))<|
.nil))
 (.seq (.seq (.ops (.m 8 0<|
.n 9 8<|
.f 10 7 9<|
.l 11 .i 10<|
.b 12 .neq .none (.t 11) (.i 0)<|
.m 13 12<|
.grp 13 false (.p 14 [5, 13] (.faddr 0 (.t 5))<|
.op (some 15) .i [14, 13] (.load none (.t 14))<|
.p 16 [1, 13] (.mov (.t 1))<|
.p 17 [15, 16, 13] (.bin .neq .none (.t 15) (.t 16))<|
.nil) 18 [13, 17] (.t 13) (.con (V.bool true)) (.t 17)<|
.nil))
 (.cond (.tmp 18) (.seq (.ops (.m 19 0<|
.op (some 20) (.agg [.i, .str, .i]) [5] (.load (some 3) (.t 5))<|
.k 21 (.tup []) 59 [(.t 19), (.i 7), (.t 20)]<|
.nil))
 (.seq (.ops (.c 4 (V.str ⟨0, 0⟩)<|
.nil))
 .ret))
 .skip))
 (.seq (.ops (.m 22 0<|
.k 23 (.agg [.i, .str, .i]) 98 [(.t 22)]<|
.op (some 24) .str [23] (.field 1 none (.t 23))<|
.m 4 24<|
.nil))
 .ret))))
def A55 : XFn := ⟨25, [.ptr, .i], [(.tmp 4)], C55_0⟩
def C56_0 : XC := (.seq (.ops (.m 4 0<|
.n 5 4<|
.f 6 7 5<|
.l 7 .i 6<|
.b 8 .eql .none (.t 7) (.i 0)<|
.m 9 8<|
.grp 9 true (.p 10 [0, 9] (.mov (.t 0))<|
.p 11 [1, 9] (.mov (.t 1))<|
.op (some 12) .bool [10, 11, 9] (.call 57 [(.t 10), (.t 11)])<|
.p 13 [12, 9] (.un .not (.t 12))<|
.nil) 14 [9, 13] (.t 9) (.t 13) (.con (V.bool false))<|
.nil))
 (.cond (.tmp 14) (.ops (.m 15 0<|
.m 16 0<|
.k 17 (.agg [.i, .str, .i]) 58 [(.t 16)]<|
.k 18 (.tup []) 59 [(.t 15), (.i 7), (.t 17)]<|
.nil))
 .skip))
def A56 : XFn := ⟨19, [.ptr, .str], [], C56_0⟩
/-! ### F57: __ogham_oghamref05.parser_.is -/
def Fin57 (E : List (Nat × Blk)) : St → Ans := fun s => resK E s [(.tmp 4)] fun l => some (oneV l, s.σ)
def C57_0 : XC := (.seq (.ops (.c 4 (V.bool false)<|
.nil))
 (.seq (.ops (.m 6 0<|
.k 7 (.agg [.i, .str, .i]) 58 [(.t 6)]<|
.pal 5 [] 115 [(V.int .i64 (Int.ofNat 0)), (V.str ⟨0, 0⟩), (V.int .i64 (Int.ofNat 0))]<|
.op none (.agg [.i, .str, .i]) [5, 7] (.store 3 (.t 5) (.t 7))<|
.nil))
 (.seq (.seq (.ops (.m 8 0<|
.n 9 8<|
.f 10 7 9<|
.l 11 .i 10<|
.b 12 .eql .none (.t 11) (.i 0)<|
.m 13 12<|
.grp 13 true (.p 14 [5, 13] (.faddr 0 (.t 5))<|
.op (some 15) .i [14, 13] (.load none (.t 14))<|
.p 16 [15, 13] (.bin .eql .none (.t 15) (.i 5))<|
.p 17 [16, 13] (.mov (.t 16))<|
.grp 17 false (.p 18 [5, 17] (.faddr 0 (.t 5))<|
.op (some 19) .i [18, 17] (.load none (.t 18))<|
.p 20 [19, 17] (.bin .eql .none (.t 19) (.i 6))<|
.nil) 21 [17, 20, 13] (.t 17) (.con (V.bool true)) (.t 20)<|
.nil) 22 [13, 21] (.t 13) (.t 21) (.con (V.bool false))<|
.m 23 22<|
.grp 23 true (.p 24 [5, 23] (.faddr 1 (.t 5))<|
.op (some 25) .str [24, 23] (.load none (.t 24))<|
.p 26 [1, 23] (.mov (.t 1))<|
.p 27 [25, 26, 23] (.bin .eql .none (.t 25) (.t 26))<|
.nil) 28 [23, 27] (.t 23) (.t 27) (.con (V.bool false))<|
.nil))
 (.cond (.tmp 28) (.seq (.ops (.m 29 0<|
.k 30 (.agg [.i, .str, .i]) 98 [(.t 29)]<|
.nil))
 (.seq (.ops (.c 4 (V.bool true)<|
.nil))
 .ret))
 .skip))
 (.seq (.ops (.c 4 (V.bool false)<|
.nil))
 .ret))))
def T57_0 (E : List (Nat × Blk)) (D : Den) (W : DrawFn) (v0b v0o : Nat) (v1 : BS) (σ : H) : Ans :=
 callK (D 58 [(V.ptr v0b v0o)] σ) fun u1 s2 =>
 rtAgg u1 fun l3 =>
 rtCons l3 fun x4 l5 =>
 rtInt .i64 x4 fun x6 =>
 rtCons l5 fun x7 l8 =>
 rtStr x7 fun x9 =>
 rtCons l8 fun x10 l11 =>
 rtInt .i64 x10 fun x12 =>
 rtNil l11 (
 ldK E s2 v0b (Nat.add v0o 7) fun u13 =>
 rtInt .i64 u13 fun x14 =>
 joinB (fun c15 s16 =>
 joinB (fun c18 s19 =>
 condK c18 (
 callK (D 98 [(V.ptr v0b v0o)] s19) fun u21 s22 =>
 rtAgg u21 fun l23 =>
 rtCons l23 fun x24 l25 =>
 rtInt .i64 x24 fun x26 =>
 rtCons l25 fun x27 l28 =>
 rtStr x27 fun x29 =>
 rtCons l28 fun x30 l31 =>
 rtInt .i64 x30 fun x32 =>
 rtNil l31 (
 some ((V.bool true), s22))) (
 some ((V.bool false), s19))) fun k20 =>
 condK c15 (
 k20 (BS.beq x9 v1) s16) (
 k20 false s16)) fun k17 =>
 condK (eqF x14 (Int.ofNat 0)) (
 joinB (fun c33 s34 =>
 k17 c33 s34) fun k35 =>
 condK (eqF x6 (Int.ofNat 5)) (
 k35 true s2) (
 k35 (eqF x6 (Int.ofNat 6)) s2)) (
 k17 false s2))
def S57_0 (v0b v0o : Nat) (v1 : BS) (σ : H) : St := ⟨[(0, (V.ptr v0b v0o)), (1, (V.str v1))], [], [], σ⟩
theorem P57_0 (v0b v0o : Nat) (v1 : BS) (σ : H) :
  denC E D W N (C57_0 ) (S57_0 v0b v0o v1 σ) (Fin57 E) (fun _ _ => none) (Fin57 E) =
  T57_0 E D W  v0b v0o v1 σ := by kernel_rfl
def J57_0 (E : List (Nat × Blk)) (D : Den) (W : DrawFn) (N : Nat) : Nat → Nat → BS → H → Ans := T57_0 E D W 
theorem JE57_0 (v0b v0o : Nat) (v1 : BS) (σ : H) :
  denC E D W N C57_0 (S57_0 v0b v0o v1 σ) (Fin57 E) (fun _ _ => none) (Fin57 E) = J57_0 E D W N v0b v0o v1 σ := by
  refine (P57_0 E D W N   v0b v0o v1 σ).trans ?_
  kernel_rfl
def F57 (args : List V) (σ : H) : Ans :=
 rtCons args fun x1 l2 =>
 rtPtr x1 fun b3 o4 =>
 rtCons l2 fun x5 l6 =>
 rtStr x5 fun x7 =>
 rtNil l6 (
 J57_0 E D W N b3 o4 x7 σ)
def A57 : XFn := ⟨31, [.ptr, .str], [(.tmp 4)], C57_0⟩
theorem FE57 (args : List V) (σ : H) : runX E D W N A57 args σ = F57 E D W N args σ := by
  unfold F57
  simp only [← JE57_0]
  kernel_rfl
theorem AO57 : A57.body.ok = true := by kernel_rfl

/-! ### F58: __ogham_oghamref05.parser_.now -/
def Fin58 (E : List (Nat × Blk)) : St → Ans := fun s => resK E s [(.cell 2 (some 3))] fun l => some (oneV l, s.σ)
def C58_0 : XC := (.seq (.ops (.pal 2 [] 115 [(V.int .i64 (Int.ofNat 0)), (V.str ⟨0, 0⟩), (V.int .i64 (Int.ofNat 0))]<|
.nil))
 (.seq (.draw (.m 3 0<|
.n 4 3<|
.f 5 0 4<|
.l 6 .any 5<|
.m 7 0<|
.n 8 7<|
.f 9 1 8<|
.l 10 .i 9<|
.s 11 3 6 10<|
.op (some 12) (.agg [.i, .str, .i]) [11] (.load (some 3) (.t 11))<|
.op none (.agg [.i, .str, .i]) [2, 12] (.store 3 (.t 2) (.t 12))<|
.nil) [0, 1, 3, 7, 0, 16, 48, 112, 255, 511, 1023])
 .ret))
def T58_0 (E : List (Nat × Blk)) (D : Den) (W : DrawFn) (v0b v0o : Nat) (σ : H) : Ans :=
 ldK E σ v0b v0o fun u1 =>
 ldK E σ v0b (Nat.add v0o 1) fun u2 =>
 rtInt .i64 u2 fun x3 =>
 iaddrSK 3 u1 x3 fun b4 o5 =>
 ldnK E σ b4 o5 3 fun l6 =>
 rtCons l6 fun x7 l8 =>
 rtInt .i64 x7 fun x9 =>
 rtCons l8 fun x10 l11 =>
 rtStr x10 fun x12 =>
 rtCons l11 fun x13 l14 =>
 rtInt .i64 x13 fun x15 =>
 rtNil l14 (
 some ((V.agg [(V.int .i64 x9), (V.str x12), (V.int .i64 x15)]), σ))
def S58_0 (v0b v0o : Nat) (σ : H) : St := ⟨[(0, (V.ptr v0b v0o))], [], [], σ⟩
theorem P58_0 (v0b v0o : Nat) (σ : H) :
  denC E D W N (C58_0 ) (S58_0 v0b v0o σ) (Fin58 E) (fun _ _ => none) (Fin58 E) =
  T58_0 E D W  v0b v0o σ := by kernel_rfl
def J58_0 (E : List (Nat × Blk)) (D : Den) (W : DrawFn) (N : Nat) : Nat → Nat → H → Ans := T58_0 E D W 
theorem JE58_0 (v0b v0o : Nat) (σ : H) :
  denC E D W N C58_0 (S58_0 v0b v0o σ) (Fin58 E) (fun _ _ => none) (Fin58 E) = J58_0 E D W N v0b v0o σ := by
  refine (P58_0 E D W N   v0b v0o σ).trans ?_
  kernel_rfl
def F58 (args : List V) (σ : H) : Ans :=
 rtCons args fun x1 l2 =>
 rtPtr x1 fun b3 o4 =>
 rtNil l2 (
 J58_0 E D W N b3 o4 σ)
def A58 : XFn := ⟨13, [.ptr], [(.cell 2 (some 3))], C58_0⟩
theorem FE58 (args : List V) (σ : H) : runX E D W N A58 args σ = F58 E D W N args σ := by
  unfold F58
  simp only [← JE58_0]
  kernel_rfl
theorem AO58 : A58.body.ok = true := by kernel_rfl

def C60_0 (cc1 : XC) (cc2 : XC) : XC := (.seq (.ops (.q 4 0<|
.nil))
 (.seq (.seq (.ops (.m 9 0<|
.n 10 9<|
.f 11 7 10<|
.l 12 .i 11<|
.b 13 .neq .none (.t 12) (.i 0)<|
.nil))
 (.cond (.tmp 13) (.seq (.ops (.q 4 0<|
.nil))
 .ret)
 .skip))
 (.seq (.seq (.ops (.m 14 0<|
.k 15 (.agg [.i, .str, .i]) 58 [(.t 14)]<|
.k 16 .bool 99 [(.t 15)]<|
.p 17 [16] (.un .not (.t 16))<|
.nil))
 (.cond (.tmp 17) (.seq (.ops (.m 18 0<|
.m 19 0<|
.k 20 (.agg [.i, .str, .i]) 58 [(.t 19)]<|
.k 21 (.tup []) 59 [(.t 18), (.i 7), (.t 20)]<|
.nil))
 (.seq (.ops (.q 4 0<|
.nil))
 .ret))
 .skip))
 (.seq (.seq (.ops (.m 22 1<|
.b 23 .gtr .none (.t 22) (.i 16)<|
.m 24 23<|
.grp 24 false (.p 25 [0, 24] (.mov (.t 0))<|
.p 26 [25, 24] (.nilck (.t 25))<|
.p 27 [26, 24] (.faddr 2 (.t 26))<|
.p 28 [27, 24] (.faddr 4 (.t 27))<|
.p 29 [28, 24] (.load none (.t 28))<|
.p 30 [29, 24] (.len false (.t 29))<|
.p 31 [30, 24] (.bin .geq .none (.t 30) (.i 300))<|
.nil) 32 [24, 31] (.t 24) (.con (V.bool true)) (.t 31)<|
.nil))
 (.cond (.tmp 32) (.seq (.ops (.m 33 0<|
.m 34 0<|
.k 35 (.agg [.i, .str, .i]) 58 [(.t 34)]<|
.k 36 (.tup []) 59 [(.t 33), (.i 5), (.t 35)]<|
.nil))
 (.seq (.ops (.q 4 0<|
.nil))
 .ret))
 .skip))
 (.seq (.ops (.m 37 0<|
.n 38 37<|
.f 39 2 38<|
.f 40 4 39<|
.l 41 .any 40<|
.u 42 41<|
.m 5 42<|
.nil))
 (.seq (.ops (.m 43 0<|
.m 44 0<|
.n 45 44<|
.f 46 2 45<|
.f 47 4 46<|
.l 48 .any 47<|
.op (some 49) (.agg [.i, .str, .bool, .i, .i, .bool, .bool, .bool, .bool, .i, .i, .any, .any, .i, .bool, .i]) [] (.build [(V.int .i64 (Int.ofNat 0)), (V.str ⟨0, 0⟩), (V.bool false), (V.int .i64 (Int.ofNat 0)), (V.int .i64 (Int.ofNat 0)), (V.bool false), (V.bool false), (V.bool false), (V.bool false), (V.int .i64 (Int.ofNat 0)), (V.int .i64 (Int.ofNat 0)), V.nils, V.nils, (V.int .i64 (Int.ofNat 0)), (V.bool false), (V.int .i64 (Int.ofNat 0))] [])<|
.p 50 [49] (.buildSlice 175 1 [(V.int .i64 (Int.ofNat 0)), (V.str ⟨0, 0⟩), (V.bool false), (V.int .i64 (Int.ofNat 0)), (V.int .i64 (Int.ofNat 0)), (V.bool false), (V.bool false), (V.bool false), (V.bool false), (V.int .i64 (Int.ofNat 0)), (V.int .i64 (Int.ofNat 0)), V.nils, V.nils, (V.int .i64 (Int.ofNat 0)), (V.bool false), (V.int .i64 (Int.ofNat 0))] [(0, 16, (.t 49))])<|
.op (some 51) .one [48, 50] (.append 175 16 144 (.t 48) (.t 50))<|
.n 52 43<|
.f 53 2 52<|
.f 54 4 53<|
.w 1 54 51<|
.nil))
 (.seq (.ops (.op (some 55) (.agg [.i, .str, .bool, .i, .i, .bool, .bool, .bool, .bool, .i, .i, .any, .any, .i, .bool, .i]) [] (.build [(V.int .i64 (Int.ofNat 0)), (V.str ⟨0, 0⟩), (V.bool false), (V.int .i64 (Int.ofNat 0)), (V.int .i64 (Int.ofNat 0)), (V.bool false), (V.bool false), (V.bool false), (V.bool false), (V.int .i64 (Int.ofNat 0)), (V.int .i64 (Int.ofNat 0)), V.nils, V.nils, (V.int .i64 (Int.ofNat 0)), (V.bool false), (V.int .i64 (Int.ofNat 0))] [])<|
.p 6 [] (.alloc 175 [(V.int .i64 (Int.ofNat 0)), (V.str ⟨0, 0⟩), (V.bool false), (V.int .i64 (Int.ofNat 0)), (V.int .i64 (Int.ofNat 0)), (V.bool false), (V.bool false), (V.bool false), (V.bool false), (V.int .i64 (Int.ofNat 0)), (V.int .i64 (Int.ofNat 0)), V.nils, V.nils, (V.int .i64 (Int.ofNat 0)), (V.bool false), (V.int .i64 (Int.ofNat 0))])<|
.op none (.agg [.i, .str, .bool, .i, .i, .bool, .bool, .bool, .bool, .i, .i, .any, .any, .i, .bool, .i]) [6, 55] (.store 16 (.t 6) (.t 55))<|
.nil))
 (.seq (.seq (.ops (.m 56 0<|
.k 57 .bool 57 [(.t 56), (.con (V.str ⟨1, 91⟩))]<|
.nil))
 (.cond (.tmp 57) (.seq (.ops (.m 58 0<|
.k 59 (.agg [.i, .str, .i]) 58 [(.t 58)]<|
.pal 7 [] 115 [(V.int .i64 (Int.ofNat 0)), (V.str ⟨0, 0⟩), (V.int .i64 (Int.ofNat 0))]<|
.op none (.agg [.i, .str, .i]) [7, 59] (.store 3 (.t 7) (.t 59))<|
.nil))
 (.seq (.ops (.m 60 0<|
.k 61 .i 100 [(.t 60)]<|
.m 8 61<|
.nil))
 (.seq (.seq (.ops (.m 62 0<|
.n 63 62<|
.f 64 7 63<|
.l 65 .i 64<|
.b 66 .eql .none (.t 65) (.i 0)<|
.m 67 66<|
.grp 67 true (.p 68 [8, 67] (.mov (.t 8))<|
.p 69 [68, 67] (.bin .lss .none (.t 68) (.i 0))<|
.p 70 [69, 67] (.mov (.t 69))<|
.grp 70 false (.p 71 [8, 70] (.mov (.t 8))<|
.p 72 [71, 70] (.bin .gtr .none (.t 71) (.i 268435456))<|
.nil) 73 [70, 72, 67] (.t 70) (.con (V.bool true)) (.t 72)<|
.nil) 74 [67, 73] (.t 67) (.t 73) (.con (V.bool false))<|
.nil))
 (.cond (.tmp 74) (.ops (.m 75 0<|
.op (some 76) (.agg [.i, .str, .i]) [7] (.load (some 3) (.t 7))<|
.k 77 (.tup []) 59 [(.t 75), (.i 12), (.t 76)]<|
.nil))
 .skip))
 (.keep [(0, .ptr), (1, .i), (5, .i), (6, .ptr), (8, .i)] [] [] cc2))))
 .skip))
 (.keep [(0, .ptr), (1, .i), (5, .i), (6, .ptr)] [] [] cc1)))))))))
def C60_1 : XC := (.seq (.ops (.m 91 0<|
.m 92 1<|
.k 93 (.tup []) 101 [(.t 91), (.t 6), (.t 92)]<|
.nil))
 (.seq (.seq (.ops (.m 94 0<|
.n 95 94<|
.f 96 7 95<|
.l 97 .i 96<|
.b 98 .neq .none (.t 97) (.i 0)<|
.nil))
 (.cond (.tmp 98) (.seq (.ops (.q 4 0<|
.nil))
 .ret)
 .skip))
 (.seq (.draw (.m 99 0<|
.n 100 99<|
.f 101 2 100<|
.f 102 4 101<|
.l 103 .any 102<|
.m 104 5<|
.op (some 105) (.agg [.i, .str, .bool, .i, .i, .bool, .bool, .bool, .bool, .i, .i, .any, .any, .i, .bool, .i]) [6] (.load (some 16) (.t 6))<|
.s 106 16 103 104<|
.op none (.agg [.i, .str, .bool, .i, .i, .bool, .bool, .bool, .bool, .i, .i, .any, .any, .i, .bool, .i]) [106, 105] (.store 16 (.t 106) (.t 105))<|
.nil) [0, 1, 3, 7, 15, 0, 0, 127, 255])
 (.seq (.ops (.m 107 5<|
.m 4 107<|
.nil))
 .ret))))
def C60_2 : XC := (.seq (.ops (.m 78 0<|
.k 79 (.tup []) 56 [(.t 78), (.con (V.str ⟨1, 93⟩))]<|
.nil))
 (.seq (.ops (.m 80 8<|
.op (some 81) (.agg [.bool, .i, .i]) [80] (.build [(V.bool false), (V.int .i64 (Int.ofNat 0)), (V.int .i64 (Int.ofNat 0))] [(0, 1, (.con (V.bool true))), (1, 1, (.t 80))])<|
.f 82 2 6<|
.op none (.agg [.bool, .i, .i]) [82, 81] (.store 3 (.t 82) (.t 81))<|
.nil))
 (.seq (.ops (.m 83 0<|
.k 84 .bool 57 [(.t 83), (.con (V.str ⟨8, 6073459554577832005⟩))]<|
.nil))
 (.cond (.tmp 84) (.ops (.f 85 2 6<|
.f 86 2 85<|
.op none .any [86] (.store 1 (.t 86) (.i 1))<|
.nil))
 (.seq (.ops (.m 87 0<|
.k 88 .bool 57 [(.t 87), (.con (V.str ⟨8, 6073459554577829193⟩))]<|
.nil))
 (.cond (.tmp 88) (.ops (.f 89 2 6<|
.f 90 2 89<|
.op none .any [90] (.store 1 (.t 90) (.i 2))<|
.nil))
 .skip))))))
def A60 : XFn := ⟨108, [.ptr, .i], [(.tmp 4)], (C60_0 C60_1 C60_2)⟩
def C61_0 (cc1 : XC) (cc2 : XC) : XC := (.seq (.ops (.p 1 [0] (.box 77 (.t 0))<|
.c 2 V.nils<|
.q 3 0<|
.q 4 0<|
.nil))
 (.seq (.ops (.c 5 V.nils<|
.nil))
 (.seq (.ops (.c 6 (V.int .i64 (Int.negSucc 0))<|
.nil))
 (.seq (.seq (.ops (.q 7 0<|
.nil))
 (.block 0 (.loop [(1, .ptr), (5, .any), (6, .i), (7, .i)] [] [] cc2)))
 (.keep [(1, .ptr), (5, .any), (6, .i)] [] [] cc1)))))
def C61_1 (cc3 : XC) (cc4 : XC) : XC := (.seq (.seq (.ops (.q 8 0<|
.nil))
 (.block 2 (.loop [(1, .ptr), (5, .any), (6, .i), (8, .i)] [] [] cc4)))
 (.keep [(1, .ptr), (5, .any), (6, .i)] [] [] cc3))
def C61_2 : XC := (.seq (.seq (.ops (.m 16 7<|
.f 17 2 1<|
.l 18 .any 17<|
.u 19 18<|
.b 20 .lss .none (.t 16) (.t 19)<|
.nil))
 (.cond (.tmp 20) .skip
 (.exit 0)))
 (.seq (.block 1 (.seq (.draw (.f 23 2 1<|
.l 24 .any 23<|
.m 25 7<|
.p 26 [24, 25] (.sliceSl 1 (.t 24) none (some (.t 25)) none)<|
.f 27 2 1<|
.l 28 .any 27<|
.m 29 7<|
.s 30 1 28 29<|
.l 31 .str 30<|
.k 32 .bool 102 [(.t 26), (.t 31)]<|
.nil) [0, 1, 0, 7, 0, 16, 0, 112, 240, 511])
 (.cond (.tmp 32) (.seq (.ops (.m 33 7<|
.c 2 V.nils<|
.m 3 33<|
.q 4 8<|
.nil))
 .ret)
 .skip)))
 (.ops (.m 21 7<|
.b 22 .add .none (.t 21) (.i 1)<|
.m 7 22<|
.nil))))
def C61_3 (cc6 : XC) (cc7 : XC) : XC := (.seq (.seq (.ops (.m 61 6<|
.b 62 .geq .none (.t 61) (.i 0)<|
.nil))
 (.cond (.tmp 62) (.seq (.ops (.m 63 6<|
.c 2 V.nils<|
.m 3 63<|
.q 4 9<|
.nil))
 .ret)
 .skip))
 (.seq (.seq (.ops (.q 11 0<|
.nil))
 (.block 4 (.loop [(1, .ptr), (5, .any), (11, .i)] [] [] cc7)))
 (.keep [(1, .ptr), (5, .any)] [] [] cc6)))
def C61_4 (cc5 : XC) : XC := (.seq (.seq (.ops (.m 34 8<|
.f 35 2 1<|
.l 36 .any 35<|
.u 37 36<|
.b 38 .lss .none (.t 34) (.t 37)<|
.nil))
 (.cond (.tmp 38) .skip
 (.exit 2)))
 (.seq (.block 3 (.seq (.draw (.op (some 42) (.agg [.str, .i, .any, .any, .any]) [1] (.load (some 5) (.t 1))<|
.f 43 3 1<|
.l 44 .any 43<|
.m 45 8<|
.s 46 1 44 45<|
.l 47 .i 46<|
.k 48 (.tup [.any, .bool]) 103 [(.t 42), (.t 47), (.i 0), (.con V.nils)]<|
.m 41 48<|
.p 49 [41] (.extract 0 (.t 41))<|
.p 50 [41] (.extract 1 (.t 41))<|
.m 9 49<|
.m 10 50<|
.nil) [0, 0, 2, 0, 14, 30, 63, 127, 255, 255, 511, 2047])
 (.seq (.ops (.m 51 5<|
.m 52 9<|
.p 53 [52] (.buildSlice 28 1 [V.nils] [(0, 1, (.t 52))])<|
.op (some 54) .one [51, 53] (.append 28 1 24 (.t 51) (.t 53))<|
.m 5 54<|
.nil))
 (.seq (.ops (.m 55 10<|
.m 56 55<|
.grp 56 true (.p 57 [6, 56] (.mov (.t 6))<|
.p 58 [57, 56] (.bin .lss .none (.t 57) (.i 0))<|
.nil) 59 [56, 58] (.t 56) (.t 58) (.con (V.bool false))<|
.nil))
 (.cond (.tmp 59) (.ops (.m 60 8<|
.m 6 60<|
.nil))
 .skip)))))
 (.keep [(1, .ptr), (5, .any), (6, .i), (8, .i)] [] [] cc5)))
def C61_5 : XC := (.ops (.m 39 8<|
.b 40 .add .none (.t 39) (.i 1)<|
.m 8 40<|
.nil))
def C61_6 (cc8 : XC) (cc9 : XC) : XC := (.seq (.ops (.c 12 V.nils<|
.nil))
 (.seq (.block 6 (.loop [(1, .ptr), (5, .any), (12, .any)] [] [] cc9))
 (.keep [(12, .any)] [] [] cc8)))
def C61_7 : XC := (.seq (.seq (.ops (.m 64 11<|
.f 65 2 1<|
.l 66 .any 65<|
.u 67 66<|
.b 68 .lss .none (.t 64) (.t 67)<|
.nil))
 (.cond (.tmp 68) .skip
 (.exit 4)))
 (.seq (.block 5 (.seq (.ops (.m 71 5<|
.m 72 11<|
.m 73 11<|
.k 74 .bool 104 [(.t 71), (.t 72), (.t 73)]<|
.nil))
 (.cond (.tmp 74) (.seq (.ops (.m 75 11<|
.c 2 V.nils<|
.m 3 75<|
.q 4 10<|
.nil))
 .ret)
 .skip)))
 (.ops (.m 69 11<|
.b 70 .add .none (.t 69) (.i 1)<|
.m 11 70<|
.nil))))
def C61_8 : XC := (.seq (.ops (.m 119 12<|
.m 2 119<|
.q 3 0<|
.q 4 0<|
.nil))
 .ret)
def C61_9 (cc10 : XC) : XC := (.seq (.seq (.ops (.m 76 12<|
.u 77 76<|
.f 78 2 1<|
.l 79 .any 78<|
.u 80 79<|
.b 81 .lss .none (.t 77) (.t 80)<|
.nil))
 (.cond (.tmp 81) .skip
 (.exit 6)))
 (.block 7 (.seq (.ops (.q 13 0<|
.nil))
 (.block 8 (.loop [(1, .ptr), (5, .any), (12, .any), (13, .i)] [] [] cc10)))))
def C61_10 (cc11 : XC) (cc12 : XC) (cc13 : XC) : XC := (.seq (.seq (.ops (.m 82 13<|
.f 83 2 1<|
.l 84 .any 83<|
.u 85 84<|
.b 86 .lss .none (.t 82) (.t 85)<|
.nil))
 (.cond (.tmp 86) .skip
 (.exit 8)))
 (.seq (.block 9 (.seq (.ops (.m 89 12<|
.m 90 13<|
.k 91 .bool 24 [(.t 89), (.t 90)]<|
.p 92 [91] (.un .not (.t 91))<|
.m 14 92<|
.nil))
 (.seq (.seq (.ops (.q 15 0<|
.nil))
 (.block 10 (.loop [(1, .ptr), (5, .any), (12, .any), (13, .i), (14, .bool), (15, .i)] [] [] cc13)))
 (.keep [(1, .ptr), (5, .any), (12, .any), (13, .i), (14, .bool)] [] [] cc12))))
 (.keep [(1, .ptr), (5, .any), (12, .any), (13, .i)] [] [] cc11)))
def C61_11 : XC := (.ops (.m 87 13<|
.b 88 .add .none (.t 87) (.i 1)<|
.m 13 88<|
.nil))
def C61_12 : XC := (.seq (.ops (.m 114 14<|
.nil))
 (.cond (.tmp 114) (.seq (.ops (.m 115 12<|
.m 116 13<|
.p 117 [116] (.buildSlice 3 1 [(V.int .i64 (Int.ofNat 0))] [(0, 1, (.t 116))])<|
.op (some 118) .one [115, 117] (.append 3 1 8 (.t 115) (.t 117))<|
.m 12 118<|
.nil))
 (.exit 8))
 .skip))
def C61_13 : XC := (.seq (.seq (.ops (.m 93 15<|
.m 94 5<|
.m 95 13<|
.s 96 1 94 95<|
.l 97 .any 96<|
.u 98 97<|
.b 99 .lss .none (.t 93) (.t 98)<|
.nil))
 (.cond (.tmp 99) .skip
 (.exit 10)))
 (.seq (.block 11 (.ops (.m 102 14<|
.m 103 102<|
.grp 103 true (.p 104 [12, 103] (.mov (.t 12))<|
.p 105 [5, 103] (.mov (.t 5))<|
.p 106 [13, 103] (.mov (.t 13))<|
.p 107 [105, 106, 103] (.iaddrS 1 (.t 105) (.t 106))<|
.p 108 [107, 103] (.load none (.t 107))<|
.p 109 [15, 103] (.mov (.t 15))<|
.p 110 [108, 109, 103] (.iaddrS 1 (.t 108) (.t 109))<|
.op (some 111) .i [110, 103] (.load none (.t 110))<|
.op (some 112) .bool [104, 111, 103] (.call 24 [(.t 104), (.t 111)])<|
.nil) 113 [103, 112] (.t 103) (.t 112) (.con (V.bool false))<|
.m 14 113<|
.nil)))
 (.ops (.m 100 15<|
.b 101 .add .none (.t 100) (.i 1)<|
.m 15 101<|
.nil))))
def A61 : XFn := ⟨120, [(.agg [.str, .i, .any, .any, .any])], [(.tmp 2), (.tmp 3), (.tmp 4)], (C61_0 (C61_1 (C61_3 (C61_6 C61_8 (C61_9 (C61_10 C61_11 C61_12 C61_13))) C61_7) (C61_4 C61_5)) C61_2)⟩
def G62_0 : List AOper := [⟨(some 26), .mov (.tmp 0), none⟩, ⟨(some 27), .mov (.tmp 0), none⟩, ⟨(some 28), .nilck (.tmp 27), none⟩, ⟨(some 29), .faddr 0 (.tmp 28), none⟩, ⟨(some 30), .faddr 3 (.tmp 29), none⟩, ⟨(some 31), .load none (.tmp 30), none⟩, ⟨(some 32), .mov (.tmp 0), none⟩, ⟨(some 33), .nilck (.tmp 32), none⟩, ⟨(some 34), .faddr 0 (.tmp 33), none⟩, ⟨(some 35), .load (some 5) (.tmp 34), none⟩, ⟨(some 36), .faddr 1 (.tmp 7), none⟩, ⟨(some 37), .load none (.tmp 36), none⟩, ⟨(some 38), .call 105 [(.tmp 35), (.tmp 37)], none⟩, ⟨(some 39), .iaddrS 1 (.tmp 31) (.tmp 38), none⟩, ⟨(some 40), .load none (.tmp 39), none⟩, ⟨(some 41), .mov (.tmp 2), none⟩, ⟨(some 42), .call 62 [(.tmp 26), (.tmp 40), (.tmp 41)], none⟩, ⟨(some 8), .mov (.tmp 42), none⟩]
def H62_0 : List DP := [⟨0, [0]⟩, ⟨0, [0]⟩, ⟨2, [27]⟩, ⟨6, [28]⟩, ⟨14, [29]⟩, ⟨30, [30]⟩, ⟨0, [0]⟩, ⟨64, [32]⟩, ⟨192, [33]⟩, ⟨448, [34]⟩, ⟨0, [7]⟩, ⟨1024, [36]⟩, ⟨4032, [35, 37]⟩, ⟨8190, [31, 38]⟩, ⟨16382, [39]⟩, ⟨0, [2]⟩, ⟨65535, [26, 40, 41]⟩, ⟨131071, [42]⟩]
def C62_0 (cc1 : XC) : XC := (.seq (.ops (.q 6 0<|
.nil))
 (.seq (.seq (.ops (.m 10 0<|
.n 11 10<|
.f 12 6 11<|
.l 13 .i 12<|
.b 14 .neq .none (.t 13) (.i 0)<|
.nil))
 (.cond (.tmp 14) (.seq (.ops (.q 6 0<|
.nil))
 .ret)
 .skip))
 (.seq (.ops (.m 15 0<|
.n 16 15<|
.f 17 0 16<|
.f 18 4 17<|
.l 19 .any 18<|
.m 20 1<|
.s 21 16 19 20<|
.op (some 22) (.agg [.i, .str, .bool, .i, .i, .bool, .bool, .bool, .bool, .i, .i, .any, .any, .i, .bool, .i]) [21] (.load (some 16) (.t 21))<|
.p 7 [] (.alloc 175 [(V.int .i64 (Int.ofNat 0)), (V.str ⟨0, 0⟩), (V.bool false), (V.int .i64 (Int.ofNat 0)), (V.int .i64 (Int.ofNat 0)), (V.bool false), (V.bool false), (V.bool false), (V.bool false), (V.int .i64 (Int.ofNat 0)), (V.int .i64 (Int.ofNat 0)), V.nils, V.nils, (V.int .i64 (Int.ofNat 0)), (V.bool false), (V.int .i64 (Int.ofNat 0))])<|
.op none (.agg [.i, .str, .bool, .i, .i, .bool, .bool, .bool, .bool, .i, .i, .any, .any, .i, .bool, .i]) [7, 22] (.store 16 (.t 7) (.t 22))<|
.nil))
 (.seq (.ops (.q 8 0<|
.nil))
 (.seq (.seq (.ops (.f 23 0 7<|
.l 24 .i 23<|
.b 25 .eql .none (.t 24) (.i 11)<|
.nil))
 (.cond (.tmp 25) (.keep [(0, .ptr), (2, .i), (7, .ptr)] [] [] (.gdraw G62_0 H62_0 [(0, .ptr), (7, .ptr), (8, .i)]))
 (.ops (.m 43 0<|
.op (some 44) (.agg [.i, .str, .bool, .i, .i, .bool, .bool, .bool, .bool, .i, .i, .any, .any, .i, .bool, .i]) [7] (.load (some 16) (.t 7))<|
.m 45 2<|
.k 46 .i 106 [(.t 43), (.t 44), (.t 45)]<|
.m 8 46<|
.nil))))
 (.keep [(0, .ptr), (7, .ptr), (8, .i)] [] [] cc1))))))
def C62_1 (cc2 : XC) (cc3 : XC) : XC := (.seq (.seq (.ops (.m 47 0<|
.n 48 47<|
.f 49 6 48<|
.l 50 .i 49<|
.b 51 .eql .none (.t 50) (.i 0)<|
.m 52 51<|
.grp 52 true (.p 53 [7, 52] (.faddr 2 (.t 7))<|
.p 54 [53, 52] (.faddr 0 (.t 53))<|
.op (some 55) .bool [54, 52] (.load none (.t 54))<|
.nil) 56 [52, 55] (.t 52) (.t 55) (.con (V.bool false))<|
.nil))
 (.cond (.tmp 56) (.seq (.ops (.q 9 0<|
.nil))
 (.seq (.block 0 (.seq (.ops (.f 58 2 7<|
.f 59 2 58<|
.l 60 .i 59<|
.b 61 .eql .none (.t 60) (.i 2)<|
.m 57 61<|
.nil))
 (.cond (.tmp 57) (.ops (.q 9 1<|
.nil))
 (.seq (.ops (.f 63 2 7<|
.f 64 2 63<|
.l 65 .i 64<|
.b 66 .eql .none (.t 65) (.i 0)<|
.m 67 66<|
.grp 67 true (.p 68 [0, 67] (.mov (.t 0))<|
.p 69 [68, 67] (.nilck (.t 68))<|
.p 70 [69, 67] (.faddr 0 (.t 69))<|
.p 71 [70, 67] (.faddr 1 (.t 70))<|
.op (some 72) .i [71, 67] (.load none (.t 71))<|
.p 73 [72, 67] (.bin .neq .none (.t 72) (.i 0))<|
.nil) 74 [67, 73] (.t 67) (.t 73) (.con (V.bool false))<|
.m 62 74<|
.nil))
 (.cond (.tmp 62) (.ops (.m 75 0<|
.m 76 8<|
.k 77 .i 107 [(.t 75), (.t 76)]<|
.m 9 77<|
.nil))
 .skip)))))
 (.keep [(0, .ptr), (7, .ptr), (8, .i), (9, .i)] [] [] cc3)))
 .skip))
 (.keep [(8, .i)] [] [] cc2))
def C62_2 : XC := (.seq (.ops (.m 85 8<|
.m 6 85<|
.nil))
 .ret)
def C62_3 : XC := (.ops (.m 78 0<|
.m 79 8<|
.f 80 2 7<|
.f 81 1 80<|
.l 82 .i 81<|
.m 83 9<|
.k 84 (.tup []) 108 [(.t 78), (.t 79), (.t 82), (.t 83)]<|
.nil))
def A62 : XFn := ⟨86, [.ptr, .i, .i], [(.tmp 6)], (C62_0 (C62_1 C62_2 C62_3))⟩
/-! ### F63: __ogham_value.checker_.fits -/
def Fin63 (E : List (Nat × Blk)) : St → Ans := fun s => resK E s [(.tmp 8)] fun l => some (oneV l, s.σ)
def C63_0 (cc1 : XC) (cc2 : XC) : XC := (.seq (.ops (.p 6 [2] (.box 26 (.t 2))<|
.c 8 (V.bool false)<|
.nil))
 (.seq (.seq (.ops (.m 10 1<|
.b 11 .lss .none (.t 10) (.i 0)<|
.m 12 11<|
.grp 12 false (.p 13 [1, 12] (.mov (.t 1))<|
.p 14 [0, 12] (.mov (.t 0))<|
.p 15 [14, 12] (.nilck (.t 14))<|
.p 16 [15, 12] (.faddr 0 (.t 15))<|
.p 17 [16, 12] (.faddr 0 (.t 16))<|
.p 18 [17, 12] (.faddr 3 (.t 17))<|
.p 19 [18, 12] (.load none (.t 18))<|
.p 20 [19, 12] (.len false (.t 19))<|
.p 21 [13, 20, 12] (.bin .geq .none (.t 13) (.t 20))<|
.nil) 22 [12, 21] (.t 12) (.con (V.bool true)) (.t 21)<|
.m 23 22<|
.grp 23 false (.p 24 [3, 23] (.mov (.t 3))<|
.p 25 [24, 23] (.bin .gtr .none (.t 24) (.i 17))<|
.nil) 26 [23, 25] (.t 23) (.con (V.bool true)) (.t 25)<|
.nil))
 (.cond (.tmp 26) (.seq (.ops (.c 8 (V.bool false)<|
.nil))
 .ret)
 .skip))
 (.seq (.ops (.m 27 0<|
.n 28 27<|
.f 29 0 28<|
.f 30 0 29<|
.f 31 3 30<|
.l 32 .any 31<|
.m 33 1<|
.s 34 13 32 33<|
.op (some 35) (.agg [.i, .any, .bool, .bool, .bool, .bool, .i, .i, .any, .any, .i, .bool, .i]) [34] (.load (some 13) (.t 34))<|
.pal 9 [] 139 [(V.int .i64 (Int.ofNat 0)), V.nils, (V.bool false), (V.bool false), (V.bool false), (V.bool false), (V.int .i64 (Int.ofNat 0)), (V.int .i64 (Int.ofNat 0)), V.nils, V.nils, (V.int .i64 (Int.ofNat 0)), (V.bool false), (V.int .i64 (Int.ofNat 0))]<|
.op none (.agg [.i, .any, .bool, .bool, .bool, .bool, .i, .i, .any, .any, .i, .bool, .i]) [9, 35] (.store 13 (.t 9) (.t 35))<|
.nil))
 (.seq (.seq (.ops (.f 36 0 6<|
.l 37 .i 36<|
.b 38 .eql .none (.t 37) (.i 12)<|
.nil))
 (.cond (.tmp 38) (.seq (.ops (.m 39 0<|
.m 40 1<|
.op (some 41) (.agg [.i, .i, .any, .any, .i, .any]) [6] (.load (some 6) (.t 6))<|
.k 42 .bool 109 [(.t 39), (.t 40), (.t 41)]<|
.m 8 42<|
.nil))
 .ret)
 .skip))
 (.seq (.seq (.ops (.f 43 0 6<|
.l 44 .i 43<|
.f 45 0 9<|
.l 46 .i 45<|
.b 47 .neq .none (.t 44) (.t 46)<|
.nil))
 (.cond (.tmp 47) (.seq (.ops (.c 8 (V.bool false)<|
.nil))
 .ret)
 .skip))
 (.seq (.seq (.ops (.f 48 0 9<|
.l 49 .i 48<|
.nil))
 (.block 0 (.seq (.ops (.b 51 .eql .none (.t 49) (.i 1)<|
.m 50 51<|
.nil))
 (.cond (.tmp 50) (.seq (.ops (.op (some 52) (.agg [.i, .i, .any, .any, .i, .any]) [6] (.load (some 6) (.t 6))<|
.k 53 .bool 110 [(.t 52), (.i 1)]<|
.m 54 53<|
.grp 54 true (.p 55 [6, 54] (.faddr 1 (.t 6))<|
.op (some 56) .i [55, 54] (.load none (.t 55))<|
.p 57 [56, 54] (.bin .eql .none (.t 56) (.i 0))<|
.p 58 [57, 54] (.mov (.t 57))<|
.grp 58 false (.p 59 [6, 58] (.faddr 1 (.t 6))<|
.op (some 60) .i [59, 58] (.load none (.t 59))<|
.p 61 [60, 58] (.bin .eql .none (.t 60) (.i 1))<|
.nil) 62 [58, 61, 54] (.t 58) (.con (V.bool true)) (.t 61)<|
.nil) 63 [54, 62] (.t 54) (.t 62) (.con (V.bool false))<|
.m 8 63<|
.nil))
 .ret)
 (.seq (.ops (.b 65 .eql .none (.t 49) (.i 2)<|
.m 64 65<|
.nil))
 (.cond (.tmp 64) (.seq (.ops (.op (some 66) (.agg [.i, .i, .any, .any, .i, .any]) [6] (.load (some 6) (.t 6))<|
.k 67 .bool 110 [(.t 66), (.i 1)]<|
.m 68 67<|
.grp 68 true (.p 69 [9, 68] (.faddr 2 (.t 9))<|
.p 70 [69, 68] (.faddr 3 (.t 69))<|
.op (some 71) .bool [70, 68] (.load none (.t 70))<|
.p 72 [71, 68] (.mov (.t 71))<|
.grp 72 false (.p 73 [9, 72] (.faddr 2 (.t 9))<|
.op (some 74) (.agg [.bool, .bool, .bool, .bool, .i, .i]) [73, 72] (.load (some 6) (.t 73))<|
.p 75 [6, 72] (.faddr 1 (.t 6))<|
.op (some 76) .i [75, 72] (.load none (.t 75))<|
.op (some 77) .bool [74, 76, 72] (.call 111 [(.t 74), (.t 76)])<|
.nil) 78 [72, 77, 68] (.t 72) (.con (V.bool true)) (.t 77)<|
.nil) 79 [68, 78] (.t 68) (.t 78) (.con (V.bool false))<|
.m 8 79<|
.nil))
 .ret)
 (.seq (.ops (.b 81 .eql .none (.t 49) (.i 3)<|
.m 80 81<|
.nil))
 (.cond (.tmp 80) (.seq (.ops (.op (some 82) (.agg [.i, .i, .any, .any, .i, .any]) [6] (.load (some 6) (.t 6))<|
.k 83 .bool 110 [(.t 82), (.i 1)]<|
.m 84 83<|
.grp 84 true (.op (some 85) (.agg [.i, .any, .bool, .bool, .bool, .bool, .i, .i, .any, .any, .i, .bool, .i]) [9, 84] (.load (some 13) (.t 9))<|
.p 86 [6, 84] (.faddr 1 (.t 6))<|
.op (some 87) .i [86, 84] (.load none (.t 86))<|
.op (some 88) .i [85, 87, 84] (.call 84 [(.t 85), (.t 87)])<|
.p 89 [88, 84] (.bin .geq .none (.t 88) (.i 0))<|
.nil) 90 [84, 89] (.t 84) (.t 89) (.con (V.bool false))<|
.m 8 90<|
.nil))
 .ret)
 (.seq (.ops (.b 92 .eql .none (.t 49) (.i 4)<|
.m 91 92<|
.nil))
 (.cond (.tmp 91) (.seq (.ops (.op (some 93) (.agg [.i, .i, .any, .any, .i, .any]) [6] (.load (some 6) (.t 6))<|
.k 94 .bool 110 [(.t 93), (.i 0)]<|
.m 8 94<|
.nil))
 .ret)
 (.seq (.seq (.ops (.b 96 .eql .none (.t 49) (.i 5)<|
.m 95 96<|
.nil))
 (.cond (.tmp 95) .skip
 (.ops (.b 97 .eql .none (.t 49) (.i 6)<|
.m 95 97<|
.nil))))
 (.keep [(0, .ptr), (1, .i), (3, .i), (6, .ptr), (49, .i), (95, .bool)] [9] [(9, [.i, .any, .bool, .bool, .bool, .bool, .i, .i, .any, .any, .i, .bool, .i])] cc2))))))))))))
 (.keep [] [] [] cc1)))))))
def T63_0 (E : List (Nat × Blk)) (D : Den) (W : DrawFn) (K2 : Nat → Nat → Int → Int → Nat → Nat → Int → Bool → Int → V → Bool → Bool → Bool → Bool → Int → Int → V → V → Int → Bool → Int → H → Ans) (v0b v0o : Nat) (v1 v2_0 v2_1 : Int) (v2_2 v2_3 : V) (v2_4 : Int) (v2_5 : V) (v3 : Int) (σ : H) : Ans :=
 chk (allOne (V.cells (V.agg [(V.int .i64 v2_0), (V.int .i64 v2_1), v2_2, v2_3, (V.int .i64 v2_4), v2_5]))) (
 let s1 := newB σ (.cells (V.cells (V.agg [(V.int .i64 v2_0), (V.int .i64 v2_1), v2_2, v2_3, (V.int .i64 v2_4), v2_5])));
 joinB (fun c2 s3 =>
 joinB (fun c5 s6 =>
 condK c5 (
 some ((V.bool false), s6)) (
 ldK E s6 v0b (Nat.add v0o 3) fun u8 =>
 iaddrSK 13 u8 v1 fun b9 o10 =>
 ldnK E s6 b9 o10 13 fun l11 =>
 rtCons l11 fun x12 l13 =>
 rtInt .i64 x12 fun x14 =>
 rtCons l13 fun x15 l16 =>
 rtCons l16 fun x17 l18 =>
 rtBool x17 fun x19 =>
 rtCons l18 fun x20 l21 =>
 rtBool x20 fun x22 =>
 rtCons l21 fun x23 l24 =>
 rtBool x23 fun x25 =>
 rtCons l24 fun x26 l27 =>
 rtBool x26 fun x28 =>
 rtCons l27 fun x29 l30 =>
 rtInt .i64 x29 fun x31 =>
 rtCons l30 fun x32 l33 =>
 rtInt .i64 x32 fun x34 =>
 rtCons l33 fun x35 l36 =>
 rtCons l36 fun x37 l38 =>
 rtCons l38 fun x39 l40 =>
 rtInt .i64 x39 fun x41 =>
 rtCons l40 fun x42 l43 =>
 rtBool x42 fun x44 =>
 rtCons l43 fun x45 l46 =>
 rtInt .i64 x45 fun x47 =>
 rtNil l46 (
 chk (allOne [(V.int .i64 x14), x15, (V.bool x19), (V.bool x22), (V.bool x25), (V.bool x28), (V.int .i64 x31), (V.int .i64 x34), x35, x37, (V.int .i64 x41), (V.bool x44), (V.int .i64 x47)]) (
 ldK E s6 (H.next σ) 0 fun u48 =>
 rtInt .i64 u48 fun x49 =>
 condK (eqF x49 (Int.ofNat 12)) (
 ldnK E s6 (H.next σ) 0 6 fun l50 =>
 rtCons l50 fun x51 l52 =>
 rtInt .i64 x51 fun x53 =>
 rtCons l52 fun x54 l55 =>
 rtInt .i64 x54 fun x56 =>
 rtCons l55 fun x57 l58 =>
 rtCons l58 fun x59 l60 =>
 rtCons l60 fun x61 l62 =>
 rtInt .i64 x61 fun x63 =>
 rtCons l62 fun x64 l65 =>
 rtNil l65 (
 callK (D 109 [(V.ptr v0b v0o), (V.int .i64 v1), (V.agg [(V.int .i64 x53), (V.int .i64 x56), x57, x59, (V.int .i64 x63), x64])] s6) fun u66 s67 =>
 rtBool u66 fun x68 =>
 some ((V.bool x68), s67))) (
 ldK E s6 (H.next σ) 0 fun u69 =>
 rtInt .i64 u69 fun x70 =>
 condK (not (eqF x70 x14)) (
 some ((V.bool false), s6)) (
 condK (eqF x14 (Int.ofNat 1)) (
 ldnK E s6 (H.next σ) 0 6 fun l71 =>
 rtCons l71 fun x72 l73 =>
 rtInt .i64 x72 fun x74 =>
 rtCons l73 fun x75 l76 =>
 rtInt .i64 x75 fun x77 =>
 rtCons l76 fun x78 l79 =>
 rtCons l79 fun x80 l81 =>
 rtCons l81 fun x82 l83 =>
 rtInt .i64 x82 fun x84 =>
 rtCons l83 fun x85 l86 =>
 rtNil l86 (
 callK (D 110 [(V.agg [(V.int .i64 x74), (V.int .i64 x77), x78, x80, (V.int .i64 x84), x85]), (V.int .i64 (Int.ofNat 1))] s6) fun u87 s88 =>
 rtBool u87 fun x89 =>
 joinB (fun c90 s91 =>
 some ((V.bool c90), s91)) fun k92 =>
 condK x89 (
 ldK E s88 (H.next σ) 1 fun u93 =>
 rtInt .i64 u93 fun x94 =>
 joinB (fun c95 s96 =>
 k92 c95 s96) fun k97 =>
 condK (eqF x94 (Int.ofNat 0)) (
 k97 true s88) (
 ldK E s88 (H.next σ) 1 fun u98 =>
 rtInt .i64 u98 fun x99 =>
 k97 (eqF x99 (Int.ofNat 1)) s88)) (
 k92 false s88))) (
 condK (eqF x14 (Int.ofNat 2)) (
 ldnK E s6 (H.next σ) 0 6 fun l100 =>
 rtCons l100 fun x101 l102 =>
 rtInt .i64 x101 fun x103 =>
 rtCons l102 fun x104 l105 =>
 rtInt .i64 x104 fun x106 =>
 rtCons l105 fun x107 l108 =>
 rtCons l108 fun x109 l110 =>
 rtCons l110 fun x111 l112 =>
 rtInt .i64 x111 fun x113 =>
 rtCons l112 fun x114 l115 =>
 rtNil l115 (
 callK (D 110 [(V.agg [(V.int .i64 x103), (V.int .i64 x106), x107, x109, (V.int .i64 x113), x114]), (V.int .i64 (Int.ofNat 1))] s6) fun u116 s117 =>
 rtBool u116 fun x118 =>
 joinB (fun c119 s120 =>
 some ((V.bool c119), s120)) fun k121 =>
 condK x118 (
 joinB (fun c122 s123 =>
 k121 c122 s123) fun k124 =>
 condK x28 (
 k124 true s117) (
 ldK E s117 (H.next σ) 1 fun u125 =>
 rtInt .i64 u125 fun x126 =>
 callK (D 111 [(V.agg [(V.bool x19), (V.bool x22), (V.bool x25), (V.bool x28), (V.int .i64 x31), (V.int .i64 x34)]), (V.int .i64 x126)] s117) fun u127 s128 =>
 rtBool u127 fun x129 =>
 k124 x129 s128)) (
 k121 false s117))) (
 condK (eqF x14 (Int.ofNat 3)) (
 ldnK E s6 (H.next σ) 0 6 fun l130 =>
 rtCons l130 fun x131 l132 =>
 rtInt .i64 x131 fun x133 =>
 rtCons l132 fun x134 l135 =>
 rtInt .i64 x134 fun x136 =>
 rtCons l135 fun x137 l138 =>
 rtCons l138 fun x139 l140 =>
 rtCons l140 fun x141 l142 =>
 rtInt .i64 x141 fun x143 =>
 rtCons l142 fun x144 l145 =>
 rtNil l145 (
 callK (D 110 [(V.agg [(V.int .i64 x133), (V.int .i64 x136), x137, x139, (V.int .i64 x143), x144]), (V.int .i64 (Int.ofNat 1))] s6) fun u146 s147 =>
 rtBool u146 fun x148 =>
 joinB (fun c149 s150 =>
 some ((V.bool c149), s150)) fun k151 =>
 condK x148 (
 ldK E s147 (H.next σ) 1 fun u152 =>
 rtInt .i64 u152 fun x153 =>
 callK (D 84 [(V.agg [(V.int .i64 x14), x15, (V.bool x19), (V.bool x22), (V.bool x25), (V.bool x28), (V.int .i64 x31), (V.int .i64 x34), x35, x37, (V.int .i64 x41), (V.bool x44), (V.int .i64 x47)]), (V.int .i64 x153)] s147) fun u154 s155 =>
 rtInt .i64 u154 fun x156 =>
 k151 (leF (Int.ofNat 0) x156) s155) (
 k151 false s147))) (
 condK (eqF x14 (Int.ofNat 4)) (
 ldnK E s6 (H.next σ) 0 6 fun l157 =>
 rtCons l157 fun x158 l159 =>
 rtInt .i64 x158 fun x160 =>
 rtCons l159 fun x161 l162 =>
 rtInt .i64 x161 fun x163 =>
 rtCons l162 fun x164 l165 =>
 rtCons l165 fun x166 l167 =>
 rtCons l167 fun x168 l169 =>
 rtInt .i64 x168 fun x170 =>
 rtCons l169 fun x171 l172 =>
 rtNil l172 (
 callK (D 110 [(V.agg [(V.int .i64 x160), (V.int .i64 x163), x164, x166, (V.int .i64 x170), x171]), (V.int .i64 (Int.ofNat 0))] s6) fun u173 s174 =>
 rtBool u173 fun x175 =>
 some ((V.bool x175), s174))) (
 condK (eqF x14 (Int.ofNat 5)) (
 K2 v0b v0o v1 v3 (H.next σ) 0 x14 (eqF x14 (Int.ofNat 5)) x14 x15 x19 x22 x25 x28 x31 x34 x35 x37 x41 x44 x47 s6) (
 K2 v0b v0o v1 v3 (H.next σ) 0 x14 (eqF x14 (Int.ofNat 6)) x14 x15 x19 x22 x25 x28 x31 x34 x35 x37 x41 x44 x47 s6))))))))))) fun k7 =>
 condK c2 (
 k7 true s3) (
 k7 (ltF (Int.ofNat 17) v3) s3)) fun k4 =>
 condK (ltF v1 (Int.ofNat 0)) (
 k4 true s1) (
 ldK E s1 v0b (Nat.add v0o 3) fun u176 =>
 slenK u176 fun n177 =>
 k4 (leF (Int.ofNat n177) v1) s1))
def C63_1 : XC := (.seq (.ops (.c 8 (V.bool false)<|
.nil))
 .ret)
def T63_1 (E : List (Nat × Blk)) (D : Den) (W : DrawFn) (σ : H) : Ans :=
 some ((V.bool false), σ)
def C63_2 (cc3 : XC) : XC := (.cond (.tmp 95) (.seq (.ops (.m 98 0<|
.op (some 99) (.agg [.i, .any, .bool, .bool, .bool, .bool, .i, .i, .any, .any, .i, .bool, .i]) [9] (.load (some 13) (.t 9))<|
.op (some 100) (.agg [.i, .i, .any, .any, .i, .any]) [6] (.load (some 6) (.t 6))<|
.k 101 .bool 112 [(.t 98), (.t 99), (.t 100)]<|
.m 8 101<|
.nil))
 .ret)
 (.seq (.ops (.b 103 .eql .none (.t 49) (.i 10)<|
.m 102 103<|
.nil))
 (.cond (.tmp 102) (.seq (.ops (.m 104 0<|
.op (some 105) (.agg [.i, .any, .bool, .bool, .bool, .bool, .i, .i, .any, .any, .i, .bool, .i]) [9] (.load (some 13) (.t 9))<|
.op (some 106) (.agg [.i, .i, .any, .any, .i, .any]) [6] (.load (some 6) (.t 6))<|
.m 107 3<|
.k 108 .bool 113 [(.t 104), (.t 105), (.t 106), (.t 107)]<|
.m 8 108<|
.nil))
 .ret)
 (.seq (.ops (.b 110 .eql .none (.t 49) (.i 9)<|
.m 109 110<|
.nil))
 (.cond (.tmp 109) (.seq (.draw (.op (some 111) (.agg [.i, .i, .any, .any, .i, .any]) [6] (.load (some 6) (.t 6))<|
.k 112 .bool 110 [(.t 111), (.i 5)]<|
.m 113 112<|
.grp 113 true (.p 114 [6, 113] (.faddr 1 (.t 6))<|
.op (some 115) .i [114, 113] (.load none (.t 114))<|
.p 116 [115, 113] (.bin .geq .none (.t 115) (.i 0))<|
.nil) 117 [113, 116] (.t 113) (.t 116) (.con (V.bool false))<|
.m 118 117<|
.grp 118 true (.p 119 [6, 118] (.faddr 1 (.t 6))<|
.op (some 120) .i [119, 118] (.load none (.t 119))<|
.p 121 [9, 118] (.faddr 9 (.t 9))<|
.p 122 [121, 118] (.load none (.t 121))<|
.p 123 [122, 118] (.len false (.t 122))<|
.p 124 [120, 123, 118] (.bin .lss .none (.t 120) (.t 123))<|
.nil) 125 [118, 124] (.t 118) (.t 124) (.con (V.bool false))<|
.m 126 125<|
.grp 126 true (.p 127 [6, 126] (.faddr 3 (.t 6))<|
.p 128 [127, 126] (.load none (.t 127))<|
.p 129 [128, 126] (.len false (.t 128))<|
.p 130 [129, 126] (.bin .eql .none (.t 129) (.i 1))<|
.nil) 131 [126, 130] (.t 126) (.t 130) (.con (V.bool false))<|
.m 132 131<|
.grp 132 true (.p 133 [0, 132] (.mov (.t 0))<|
.p 134 [9, 132] (.faddr 9 (.t 9))<|
.p 135 [134, 132] (.load none (.t 134))<|
.p 136 [6, 132] (.faddr 1 (.t 6))<|
.op (some 137) .i [136, 132] (.load none (.t 136))<|
.p 138 [135, 137, 132] (.iaddrS 11 (.t 135) (.t 137))<|
.p 139 [138, 132] (.faddr 1 (.t 138))<|
.op (some 140) .i [139, 132] (.load none (.t 139))<|
.p 141 [6, 132] (.faddr 3 (.t 6))<|
.p 142 [141, 132] (.load none (.t 141))<|
.p 143 [142, 132] (.iaddrS 6 (.t 142) (.i 0))<|
.op (some 144) (.agg [.i, .i, .any, .any, .i, .any]) [143, 132] (.load (some 6) (.t 143))<|
.p 145 [3, 132] (.mov (.t 3))<|
.p 146 [145, 132] (.bin .add .none (.t 145) (.i 1))<|
.op (some 147) .bool [133, 140, 144, 146, 132] (.call 63 [(.t 133), (.t 140), (.t 144), (.t 146)])<|
.nil) 148 [132, 147] (.t 132) (.t 147) (.con (V.bool false))<|
.m 8 148<|
.nil) [0, 1, 3, 7, 15, 31, 63, 127, 255, 511, 255, 1279, 3327, 8191, 16383, 32767, 65535, 131071, 262143, 524287, 1048575, 2097151, 4194303, 4194303, 12582911, 4194303, 37748735, 130023423, 264241151, 532676607, 4194303, 1077936127, 3225419775, 7520387071, 4194303, 17184063487, 68719476735, 137438953471, 274877906943])
 .ret)
 (.seq (.seq (.ops (.b 150 .eql .none (.t 49) (.i 7)<|
.m 149 150<|
.nil))
 (.cond (.tmp 149) .skip
 (.ops (.b 151 .eql .none (.t 49) (.i 8)<|
.m 149 151<|
.nil))))
 (.keep [(0, .ptr), (1, .i), (3, .i), (6, .ptr), (149, .bool)] [] [] cc3)))))))
def T63_2 (E : List (Nat × Blk)) (D : Den) (W : DrawFn) (K3 : Nat → Nat → Int → Int → Nat → Nat → Bool → H → Ans) (v0b v0o : Nat) (v1 v3 : Int) (v6b v6o : Nat) (v49 : Int) (v95 : Bool) (r9_0 : Int) (r9_1 : V) (r9_2 r9_3 r9_4 r9_5 : Bool) (r9_6 r9_7 : Int) (r9_8 r9_9 : V) (r9_10 : Int) (r9_11 : Bool) (r9_12 : Int) (σ : H) : Ans :=
 condK v95 (
 ldnK E σ v6b v6o 6 fun l1 =>
 rtCons l1 fun x2 l3 =>
 rtInt .i64 x2 fun x4 =>
 rtCons l3 fun x5 l6 =>
 rtInt .i64 x5 fun x7 =>
 rtCons l6 fun x8 l9 =>
 rtCons l9 fun x10 l11 =>
 rtCons l11 fun x12 l13 =>
 rtInt .i64 x12 fun x14 =>
 rtCons l13 fun x15 l16 =>
 rtNil l16 (
 callK (D 112 [(V.ptr v0b v0o), (V.agg [(V.int .i64 r9_0), r9_1, (V.bool r9_2), (V.bool r9_3), (V.bool r9_4), (V.bool r9_5), (V.int .i64 r9_6), (V.int .i64 r9_7), r9_8, r9_9, (V.int .i64 r9_10), (V.bool r9_11), (V.int .i64 r9_12)]), (V.agg [(V.int .i64 x4), (V.int .i64 x7), x8, x10, (V.int .i64 x14), x15])] σ) fun u17 s18 =>
 rtBool u17 fun x19 =>
 some ((V.bool x19), s18))) (
 condK (eqF v49 (Int.ofNat 10)) (
 ldnK E σ v6b v6o 6 fun l20 =>
 rtCons l20 fun x21 l22 =>
 rtInt .i64 x21 fun x23 =>
 rtCons l22 fun x24 l25 =>
 rtInt .i64 x24 fun x26 =>
 rtCons l25 fun x27 l28 =>
 rtCons l28 fun x29 l30 =>
 rtCons l30 fun x31 l32 =>
 rtInt .i64 x31 fun x33 =>
 rtCons l32 fun x34 l35 =>
 rtNil l35 (
 callK (D 113 [(V.ptr v0b v0o), (V.agg [(V.int .i64 r9_0), r9_1, (V.bool r9_2), (V.bool r9_3), (V.bool r9_4), (V.bool r9_5), (V.int .i64 r9_6), (V.int .i64 r9_7), r9_8, r9_9, (V.int .i64 r9_10), (V.bool r9_11), (V.int .i64 r9_12)]), (V.agg [(V.int .i64 x23), (V.int .i64 x26), x27, x29, (V.int .i64 x33), x34]), (V.int .i64 v3)] σ) fun u36 s37 =>
 rtBool u36 fun x38 =>
 some ((V.bool x38), s37))) (
 condK (eqF v49 (Int.ofNat 9)) (
 ldnK E σ v6b v6o 6 fun l39 =>
 rtCons l39 fun x40 l41 =>
 rtInt .i64 x40 fun x42 =>
 rtCons l41 fun x43 l44 =>
 rtInt .i64 x43 fun x45 =>
 rtCons l44 fun x46 l47 =>
 rtCons l47 fun x48 l49 =>
 rtCons l49 fun x50 l51 =>
 rtInt .i64 x50 fun x52 =>
 rtCons l51 fun x53 l54 =>
 rtNil l54 (
 callK (D 110 [(V.agg [(V.int .i64 x42), (V.int .i64 x45), x46, x48, (V.int .i64 x52), x53]), (V.int .i64 (Int.ofNat 5))] σ) fun u55 s56 =>
 rtBool u55 fun x57 =>
 joinB (fun c58 s59 =>
 joinB (fun c61 s62 =>
 joinB (fun c64 s65 =>
 joinB (fun c67 s68 =>
 some ((V.bool c67), s68)) fun k69 =>
 condK c64 (
 ldK E s65 v6b (Nat.add v6o 1) fun u70 =>
 rtInt .i64 u70 fun x71 =>
 iaddrSK 11 r9_9 x71 fun b72 o73 =>
 ldK E s65 b72 (Nat.add o73 1) fun u74 =>
 rtInt .i64 u74 fun x75 =>
 ldK E s65 v6b (Nat.add v6o 3) fun u76 =>
 iaddrSK 6 u76 (Int.ofNat 0) fun b77 o78 =>
 ldnK E s65 b77 o78 6 fun l79 =>
 rtCons l79 fun x80 l81 =>
 rtInt .i64 x80 fun x82 =>
 rtCons l81 fun x83 l84 =>
 rtInt .i64 x83 fun x85 =>
 rtCons l84 fun x86 l87 =>
 rtCons l87 fun x88 l89 =>
 rtCons l89 fun x90 l91 =>
 rtInt .i64 x90 fun x92 =>
 rtCons l91 fun x93 l94 =>
 rtNil l94 (
 callK (D 63 [(V.ptr v0b v0o), (V.int .i64 x75), (V.agg [(V.int .i64 x82), (V.int .i64 x85), x86, x88, (V.int .i64 x92), x93]), (V.int .i64 (addF .i64 v3 (Int.ofNat 1)))] s65) fun u95 s96 =>
 rtBool u95 fun x97 =>
 k69 x97 s96)) (
 k69 false s65)) fun k66 =>
 condK c61 (
 ldK E s62 v6b (Nat.add v6o 3) fun u98 =>
 slenK u98 fun n99 =>
 k66 (eqF (Int.ofNat n99) (Int.ofNat 1)) s62) (
 k66 false s62)) fun k63 =>
 condK c58 (
 ldK E s59 v6b (Nat.add v6o 1) fun u100 =>
 rtInt .i64 u100 fun x101 =>
 slenK r9_9 fun n102 =>
 k63 (ltF x101 (Int.ofNat n102)) s59) (
 k63 false s59)) fun k60 =>
 condK x57 (
 ldK E s56 v6b (Nat.add v6o 1) fun u103 =>
 rtInt .i64 u103 fun x104 =>
 k60 (leF (Int.ofNat 0) x104) s56) (
 k60 false s56))) (
 condK (eqF v49 (Int.ofNat 7)) (
 K3 v0b v0o v1 v3 v6b v6o (eqF v49 (Int.ofNat 7)) σ) (
 K3 v0b v0o v1 v3 v6b v6o (eqF v49 (Int.ofNat 8)) σ))))
def C63_3 : XC := (.cond (.tmp 149) (.seq (.ops (.m 152 0<|
.m 153 1<|
.op (some 154) (.agg [.i, .i, .any, .any, .i, .any]) [6] (.load (some 6) (.t 6))<|
.m 155 3<|
.k 156 .bool 114 [(.t 152), (.t 153), (.t 154), (.t 155)]<|
.m 8 156<|
.nil))
 .ret)
 .skip)
def T63_3 (E : List (Nat × Blk)) (D : Den) (W : DrawFn) (K1 : H → Ans) (v0b v0o : Nat) (v1 v3 : Int) (v6b v6o : Nat) (v149 : Bool) (σ : H) : Ans :=
 condK v149 (
 ldnK E σ v6b v6o 6 fun l1 =>
 rtCons l1 fun x2 l3 =>
 rtInt .i64 x2 fun x4 =>
 rtCons l3 fun x5 l6 =>
 rtInt .i64 x5 fun x7 =>
 rtCons l6 fun x8 l9 =>
 rtCons l9 fun x10 l11 =>
 rtCons l11 fun x12 l13 =>
 rtInt .i64 x12 fun x14 =>
 rtCons l13 fun x15 l16 =>
 rtNil l16 (
 callK (D 114 [(V.ptr v0b v0o), (V.int .i64 v1), (V.agg [(V.int .i64 x4), (V.int .i64 x7), x8, x10, (V.int .i64 x14), x15]), (V.int .i64 v3)] σ) fun u17 s18 =>
 rtBool u17 fun x19 =>
 some ((V.bool x19), s18))) (
 K1 σ)
def S63_0 (v0b v0o : Nat) (v1 v2_0 v2_1 : Int) (v2_2 v2_3 : V) (v2_4 : Int) (v2_5 : V) (v3 : Int) (σ : H) : St := ⟨[(0, (V.ptr v0b v0o)), (1, (V.int .i64 v1)), (2, (V.agg [(V.int .i64 v2_0), (V.int .i64 v2_1), v2_2, v2_3, (V.int .i64 v2_4), v2_5])), (3, (V.int .i64 v3))], [], [], σ⟩
def S63_1 (σ : H) : St := ⟨[], [], [], σ⟩
def S63_2 (v0b v0o : Nat) (v1 v3 : Int) (v6b v6o : Nat) (v49 : Int) (v95 : Bool) (r9_0 : Int) (r9_1 : V) (r9_2 r9_3 r9_4 r9_5 : Bool) (r9_6 r9_7 : Int) (r9_8 r9_9 : V) (r9_10 : Int) (r9_11 : Bool) (r9_12 : Int) (σ : H) : St := ⟨[(0, (V.ptr v0b v0o)), (1, (V.int .i64 v1)), (3, (V.int .i64 v3)), (6, (V.ptr v6b v6o)), (49, (V.int .i64 v49)), (95, (V.bool v95))], [(9, (9, 0))], [(9, [(V.int .i64 r9_0), r9_1, (V.bool r9_2), (V.bool r9_3), (V.bool r9_4), (V.bool r9_5), (V.int .i64 r9_6), (V.int .i64 r9_7), r9_8, r9_9, (V.int .i64 r9_10), (V.bool r9_11), (V.int .i64 r9_12)])], σ⟩
def S63_3 (v0b v0o : Nat) (v1 v3 : Int) (v6b v6o : Nat) (v149 : Bool) (σ : H) : St := ⟨[(0, (V.ptr v0b v0o)), (1, (V.int .i64 v1)), (3, (V.int .i64 v3)), (6, (V.ptr v6b v6o)), (149, (V.bool v149))], [], [], σ⟩
theorem P63_0 (cc1 : XC) (cc2 : XC) (v0b v0o : Nat) (v1 v2_0 v2_1 : Int) (v2_2 v2_3 : V) (v2_4 : Int) (v2_5 : V) (v3 : Int) (σ : H) :
  denC E D W N (C63_0 cc1 cc2) (S63_0 v0b v0o v1 v2_0 v2_1 v2_2 v2_3 v2_4 v2_5 v3 σ) (Fin63 E) (fun _ _ => none) (Fin63 E) =
  T63_0 E D W (fun v0b v0o v1 v3 v6b v6o v49 v95 r9_0 r9_1 r9_2 r9_3 r9_4 r9_5 r9_6 r9_7 r9_8 r9_9 r9_10 r9_11 r9_12 σ => denC E D W N cc2 (S63_2 v0b v0o v1 v3 v6b v6o v49 v95 r9_0 r9_1 r9_2 r9_3 r9_4 r9_5 r9_6 r9_7 r9_8 r9_9 r9_10 r9_11 r9_12 σ) (fun s' => denC E D W N (.keep [] [] [] cc1) s' (Fin63 E) (fun _ _ => none) (Fin63 E)) (blkK 0 (fun s' => denC E D W N (.keep [] [] [] cc1) s' (Fin63 E) (fun _ _ => none) (Fin63 E)) (fun _ _ => none)) (Fin63 E)) v0b v0o v1 v2_0 v2_1 v2_2 v2_3 v2_4 v2_5 v3 σ := by kernel_rfl
theorem P63_1 (σ : H) :
  denC E D W N (C63_1 ) (S63_1 σ) (Fin63 E) (fun _ _ => none) (Fin63 E) =
  T63_1 E D W   σ := by kernel_rfl
theorem P63_2 (cc1 : XC) (cc3 : XC) (v0b v0o : Nat) (v1 v3 : Int) (v6b v6o : Nat) (v49 : Int) (v95 : Bool) (r9_0 : Int) (r9_1 : V) (r9_2 r9_3 r9_4 r9_5 : Bool) (r9_6 r9_7 : Int) (r9_8 r9_9 : V) (r9_10 : Int) (r9_11 : Bool) (r9_12 : Int) (σ : H) :
  denC E D W N (C63_2 cc3) (S63_2 v0b v0o v1 v3 v6b v6o v49 v95 r9_0 r9_1 r9_2 r9_3 r9_4 r9_5 r9_6 r9_7 r9_8 r9_9 r9_10 r9_11 r9_12 σ) (fun s' => denC E D W N (.keep [] [] [] cc1) s' (Fin63 E) (fun _ _ => none) (Fin63 E)) (blkK 0 (fun s' => denC E D W N (.keep [] [] [] cc1) s' (Fin63 E) (fun _ _ => none) (Fin63 E)) (fun _ _ => none)) (Fin63 E) =
  T63_2 E D W (fun v0b v0o v1 v3 v6b v6o v149 σ => denC E D W N cc3 (S63_3 v0b v0o v1 v3 v6b v6o v149 σ) (fun s' => denC E D W N (.keep [] [] [] cc1) s' (Fin63 E) (fun _ _ => none) (Fin63 E)) (blkK 0 (fun s' => denC E D W N (.keep [] [] [] cc1) s' (Fin63 E) (fun _ _ => none) (Fin63 E)) (fun _ _ => none)) (Fin63 E)) v0b v0o v1 v3 v6b v6o v49 v95 r9_0 r9_1 r9_2 r9_3 r9_4 r9_5 r9_6 r9_7 r9_8 r9_9 r9_10 r9_11 r9_12 σ := by kernel_rfl
theorem P63_3 (cc1 : XC) (v0b v0o : Nat) (v1 v3 : Int) (v6b v6o : Nat) (v149 : Bool) (σ : H) :
  denC E D W N (C63_3 ) (S63_3 v0b v0o v1 v3 v6b v6o v149 σ) (fun s' => denC E D W N (.keep [] [] [] cc1) s' (Fin63 E) (fun _ _ => none) (Fin63 E)) (blkK 0 (fun s' => denC E D W N (.keep [] [] [] cc1) s' (Fin63 E) (fun _ _ => none) (Fin63 E)) (fun _ _ => none)) (Fin63 E) =
  T63_3 E D W (fun  σ => denC E D W N cc1 (S63_1 σ) (Fin63 E) (fun _ _ => none) (Fin63 E)) v0b v0o v1 v3 v6b v6o v149 σ := by kernel_rfl
def J63_1 (E : List (Nat × Blk)) (D : Den) (W : DrawFn) (N : Nat) : H → Ans := T63_1 E D W 
theorem JE63_1 (σ : H) :
  denC E D W N C63_1 (S63_1 σ) (Fin63 E) (fun _ _ => none) (Fin63 E) = J63_1 E D W N  σ := by
  refine (P63_1 E D W N    σ).trans ?_
  kernel_rfl
def J63_3 : Nat → Nat → Int → Int → Nat → Nat → Bool → H → Ans := T63_3 E D W (J63_1 E D W N )
theorem JE63_3 (v0b v0o : Nat) (v1 v3 : Int) (v6b v6o : Nat) (v149 : Bool) (σ : H) :
  denC E D W N C63_3 (S63_3 v0b v0o v1 v3 v6b v6o v149 σ) (fun s' => denC E D W N (.keep [] [] [] C63_1) s' (Fin63 E) (fun _ _ => none) (Fin63 E)) (blkK 0 (fun s' => denC E D W N (.keep [] [] [] C63_1) s' (Fin63 E) (fun _ _ => none) (Fin63 E)) (fun _ _ => none)) (Fin63 E) = J63_3 E D W N v0b v0o v1 v3 v6b v6o v149 σ := by
  refine (P63_3 E D W N C63_1  v0b v0o v1 v3 v6b v6o v149 σ).trans ?_
  simp only [JE63_1]
  kernel_rfl
def J63_2 : Nat → Nat → Int → Int → Nat → Nat → Int → Bool → Int → V → Bool → Bool → Bool → Bool → Int → Int → V → V → Int → Bool → Int → H → Ans := T63_2 E D W (J63_3 E D W N )
theorem JE63_2 (v0b v0o : Nat) (v1 v3 : Int) (v6b v6o : Nat) (v49 : Int) (v95 : Bool) (r9_0 : Int) (r9_1 : V) (r9_2 r9_3 r9_4 r9_5 : Bool) (r9_6 r9_7 : Int) (r9_8 r9_9 : V) (r9_10 : Int) (r9_11 : Bool) (r9_12 : Int) (σ : H) :
  denC E D W N (C63_2 C63_3) (S63_2 v0b v0o v1 v3 v6b v6o v49 v95 r9_0 r9_1 r9_2 r9_3 r9_4 r9_5 r9_6 r9_7 r9_8 r9_9 r9_10 r9_11 r9_12 σ) (fun s' => denC E D W N (.keep [] [] [] C63_1) s' (Fin63 E) (fun _ _ => none) (Fin63 E)) (blkK 0 (fun s' => denC E D W N (.keep [] [] [] C63_1) s' (Fin63 E) (fun _ _ => none) (Fin63 E)) (fun _ _ => none)) (Fin63 E) = J63_2 E D W N v0b v0o v1 v3 v6b v6o v49 v95 r9_0 r9_1 r9_2 r9_3 r9_4 r9_5 r9_6 r9_7 r9_8 r9_9 r9_10 r9_11 r9_12 σ := by
  refine (P63_2 E D W N C63_1 C63_3  v0b v0o v1 v3 v6b v6o v49 v95 r9_0 r9_1 r9_2 r9_3 r9_4 r9_5 r9_6 r9_7 r9_8 r9_9 r9_10 r9_11 r9_12 σ).trans ?_
  simp only [JE63_3]
  kernel_rfl
def J63_0 : Nat → Nat → Int → Int → Int → V → V → Int → V → Int → H → Ans := T63_0 E D W (J63_2 E D W N )
theorem JE63_0 (v0b v0o : Nat) (v1 v2_0 v2_1 : Int) (v2_2 v2_3 : V) (v2_4 : Int) (v2_5 : V) (v3 : Int) (σ : H) :
  denC E D W N (C63_0 C63_1 (C63_2 C63_3)) (S63_0 v0b v0o v1 v2_0 v2_1 v2_2 v2_3 v2_4 v2_5 v3 σ) (Fin63 E) (fun _ _ => none) (Fin63 E) = J63_0 E D W N v0b v0o v1 v2_0 v2_1 v2_2 v2_3 v2_4 v2_5 v3 σ := by
  refine (P63_0 E D W N C63_1 (C63_2 C63_3)  v0b v0o v1 v2_0 v2_1 v2_2 v2_3 v2_4 v2_5 v3 σ).trans ?_
  simp only [JE63_2]
  kernel_rfl
def F63 (args : List V) (σ : H) : Ans :=
 rtCons args fun x1 l2 =>
 rtPtr x1 fun b3 o4 =>
 rtCons l2 fun x5 l6 =>
 rtInt .i64 x5 fun x7 =>
 rtCons l6 fun x8 l9 =>
 rtAgg x8 fun l10 =>
 rtCons l10 fun x11 l12 =>
 rtInt .i64 x11 fun x13 =>
 rtCons l12 fun x14 l15 =>
 rtInt .i64 x14 fun x16 =>
 rtCons l15 fun x17 l18 =>
 rtCons l18 fun x19 l20 =>
 rtCons l20 fun x21 l22 =>
 rtInt .i64 x21 fun x23 =>
 rtCons l22 fun x24 l25 =>
 rtNil l25 (
 rtCons l9 fun x26 l27 =>
 rtInt .i64 x26 fun x28 =>
 rtNil l27 (
 J63_0 E D W N b3 o4 x7 x13 x16 x17 x19 x23 x24 x28 σ))
def A63 : XFn := ⟨157, [.ptr, .i, (.agg [.i, .i, .any, .any, .i, .any]), .i], [(.tmp 8)], (C63_0 C63_1 (C63_2 C63_3))⟩
theorem FE63 (args : List V) (σ : H) : runX E D W N A63 args σ = F63 E D W N args σ := by
  unfold F63
  simp only [← JE63_0]
  kernel_rfl
theorem AO63 : A63.body.ok = true := by kernel_rfl

/-! ### F64: ogham_value.Count -/
def Fin64 (E : List (Nat × Blk)) : St → Ans := fun s => resK E s [(.tmp 2)] fun l => some (oneV l, s.σ)
def C64_0 (cc1 : XC) (cc2 : XC) : XC := (.seq (.ops (.p 1 [0] (.box 26 (.t 0))<|
.q 2 0<|
.nil))
 (.seq (.ops (.q 3 1<|
.nil))
 (.seq (.seq (.ops (.f 6 3 1<|
.l 7 .any 6<|
.u 8 7<|
.q 9 0<|
.nil))
 (.block 0 (.loop [(3, .i), (7, .any), (8, .i), (9, .i)] [] [] cc2)))
 (.keep [(3, .i)] [] [] cc1))))
def T64_0 (E : List (Nat × Blk)) (D : Den) (W : DrawFn) (K2 : Int → V → Int → Int → H → Ans) (v0_0 v0_1 : Int) (v0_2 v0_3 : V) (v0_4 : Int) (v0_5 : V) (σ : H) : Ans :=
 chk (allOne (V.cells (V.agg [(V.int .i64 v0_0), (V.int .i64 v0_1), v0_2, v0_3, (V.int .i64 v0_4), v0_5]))) (
 let s1 := newB σ (.cells (V.cells (V.agg [(V.int .i64 v0_0), (V.int .i64 v0_1), v0_2, v0_3, (V.int .i64 v0_4), v0_5])));
 ldK E s1 (H.next σ) 3 fun u2 =>
 slenK u2 fun n3 =>
 K2 (Int.ofNat 1) u2 (Int.ofNat n3) (Int.ofNat 0) s1)
def C64_1 : XC := (.seq (.ops (.m 18 3<|
.m 2 18<|
.nil))
 .ret)
def T64_1 (E : List (Nat × Blk)) (D : Den) (W : DrawFn) (v3 : Int) (σ : H) : Ans :=
 some ((V.int .i64 v3), σ)
def C64_2 : XC := (.seq (.ops (.b 10 .lss .none (.t 9) (.t 8)<|
.nil))
 (.seq (.cond (.tmp 10) .skip
 (.exit 0))
 (.seq (.block 1 (.seq (.ops (.s 11 6 7 9<|
.op (some 12) (.agg [.i, .i, .any, .any, .i, .any]) [11] (.load (some 6) (.t 11))<|
.pal 5 [] 26 [(V.int .i64 (Int.ofNat 0)), (V.int .i64 (Int.ofNat 0)), V.nils, V.nils, (V.int .i64 (Int.ofNat 0)), V.nils]<|
.op none (.agg [.i, .i, .any, .any, .i, .any]) [5, 12] (.store 6 (.t 5) (.t 12))<|
.nil))
 (.ops (.m 13 3<|
.op (some 14) (.agg [.i, .i, .any, .any, .i, .any]) [5] (.load (some 6) (.t 5))<|
.k 15 .i 64 [(.t 14)]<|
.b 16 .add .none (.t 13) (.t 15)<|
.m 3 16<|
.nil))))
 (.ops (.b 17 .add .none (.t 9) (.i 1)<|
.m 9 17<|
.nil)))))
def T64_2 (E : List (Nat × Blk)) (D : Den) (W : DrawFn) (K1 : Int → H → Ans) (R2 : Int → V → Int → Int → H → Ans) (v3 : Int) (v7 : V) (v8 v9 : Int) (σ : H) : Ans :=
 condK (ltF v9 v8) (
 iaddrSK 6 v7 v9 fun b1 o2 =>
 ldnK E σ b1 o2 6 fun l3 =>
 rtCons l3 fun x4 l5 =>
 rtInt .i64 x4 fun x6 =>
 rtCons l5 fun x7 l8 =>
 rtInt .i64 x7 fun x9 =>
 rtCons l8 fun x10 l11 =>
 rtCons l11 fun x12 l13 =>
 rtCons l13 fun x14 l15 =>
 rtInt .i64 x14 fun x16 =>
 rtCons l15 fun x17 l18 =>
 rtNil l18 (
 chk (allOne [(V.int .i64 x6), (V.int .i64 x9), x10, x12, (V.int .i64 x16), x17]) (
 callK (D 64 [(V.agg [(V.int .i64 x6), (V.int .i64 x9), x10, x12, (V.int .i64 x16), x17])] σ) fun u19 s20 =>
 rtInt .i64 u19 fun x21 =>
 R2 (addF .i64 v3 x21) v7 v8 (addF .i64 v9 (Int.ofNat 1)) s20))) (
 K1 v3 σ)
def S64_0 (v0_0 v0_1 : Int) (v0_2 v0_3 : V) (v0_4 : Int) (v0_5 : V) (σ : H) : St := ⟨[(0, (V.agg [(V.int .i64 v0_0), (V.int .i64 v0_1), v0_2, v0_3, (V.int .i64 v0_4), v0_5]))], [], [], σ⟩
def S64_1 (v3 : Int) (σ : H) : St := ⟨[(3, (V.int .i64 v3))], [], [], σ⟩
def S64_2 (v3 : Int) (v7 : V) (v8 v9 : Int) (σ : H) : St := ⟨[(3, (V.int .i64 v3)), (7, v7), (8, (V.int .i64 v8)), (9, (V.int .i64 v9))], [], [], σ⟩
theorem P64_0 (cc1 : XC) (cc2 : XC) (v0_0 v0_1 : Int) (v0_2 v0_3 : V) (v0_4 : Int) (v0_5 : V) (σ : H) :
  denC E D W N (C64_0 cc1 cc2) (S64_0 v0_0 v0_1 v0_2 v0_3 v0_4 v0_5 σ) (Fin64 E) (fun _ _ => none) (Fin64 E) =
  T64_0 E D W (fun v3 v7 v8 v9 σ => iterK (fun rec s' => denC E D W N cc2 s' (fun s'' => keepS [(3, .i), (7, .any), (8, .i), (9, .i)] [] [] s'' rec) (blkK 0 (fun s' => denC E D W N (.keep [(3, .i)] [] [] cc1) s' (Fin64 E) (fun _ _ => none) (Fin64 E)) (fun _ _ => none)) (Fin64 E)) N (S64_2 v3 v7 v8 v9 σ)) v0_0 v0_1 v0_2 v0_3 v0_4 v0_5 σ := by kernel_rfl
theorem P64_1 (v3 : Int) (σ : H) :
  denC E D W N (C64_1 ) (S64_1 v3 σ) (Fin64 E) (fun _ _ => none) (Fin64 E) =
  T64_1 E D W  v3 σ := by kernel_rfl
theorem P64_2 (cc1 : XC) (li2 : St → Ans) (v3 : Int) (v7 : V) (v8 v9 : Int) (σ : H) :
  denC E D W N (C64_2 ) (S64_2 v3 v7 v8 v9 σ) (fun s'' => keepS [(3, .i), (7, .any), (8, .i), (9, .i)] [] [] s'' li2) (blkK 0 (fun s' => denC E D W N (.keep [(3, .i)] [] [] cc1) s' (Fin64 E) (fun _ _ => none) (Fin64 E)) (fun _ _ => none)) (Fin64 E) =
  T64_2 E D W (fun v3 σ => denC E D W N cc1 (S64_1 v3 σ) (Fin64 E) (fun _ _ => none) (Fin64 E)) (fun v3 v7 v8 v9 σ => li2 (S64_2 v3 v7 v8 v9 σ)) v3 v7 v8 v9 σ := by kernel_rfl
def J64_1 (E : List (Nat × Blk)) (D : Den) (W : DrawFn) (N : Nat) : Int → H → Ans := T64_1 E D W 
theorem JE64_1 (v3 : Int) (σ : H) :
  denC E D W N C64_1 (S64_1 v3 σ) (Fin64 E) (fun _ _ => none) (Fin64 E) = J64_1 E D W N v3 σ := by
  refine (P64_1 E D W N   v3 σ).trans ?_
  kernel_rfl
def L64_2 (n : Nat) : Int → V → Int → Int → H → Ans :=
  Nat.rec (fun _ _ _ _ _ => none) (fun _ ih => T64_2 E D W (J64_1 E D W N ) ih) n
theorem LE64_2 (n : Nat) : ∀ (v3 : Int) (v7 : V) (v8 v9 : Int) (σ : H),
  iterK (fun rec s' => denC E D W N C64_2 s' (fun s'' => keepS [(3, .i), (7, .any), (8, .i), (9, .i)] [] [] s'' rec) (blkK 0 (fun s' => denC E D W N (.keep [(3, .i)] [] [] C64_1) s' (Fin64 E) (fun _ _ => none) (Fin64 E)) (fun _ _ => none)) (Fin64 E)) n (S64_2 v3 v7 v8 v9 σ) = L64_2 E D W N n v3 v7 v8 v9 σ := by
  induction n with
  | zero => intro v3 v7 v8 v9 σ; rfl
  | succ n ihn =>
    intro v3 v7 v8 v9 σ
    rw [iterK_succ]
    refine (P64_2 E D W N C64_1 (iterK (fun rec s' => denC E D W N C64_2 s' (fun s'' => keepS [(3, .i), (7, .any), (8, .i), (9, .i)] [] [] s'' rec) (blkK 0 (fun s' => denC E D W N (.keep [(3, .i)] [] [] C64_1) s' (Fin64 E) (fun _ _ => none) (Fin64 E)) (fun _ _ => none)) (Fin64 E)) n) v3 v7 v8 v9 σ).trans ?_
    simp only [ihn, JE64_1]
    kernel_rfl
def J64_0 : Int → Int → V → V → Int → V → H → Ans := T64_0 E D W (L64_2 E D W N N)
theorem JE64_0 (v0_0 v0_1 : Int) (v0_2 v0_3 : V) (v0_4 : Int) (v0_5 : V) (σ : H) :
  denC E D W N (C64_0 C64_1 C64_2) (S64_0 v0_0 v0_1 v0_2 v0_3 v0_4 v0_5 σ) (Fin64 E) (fun _ _ => none) (Fin64 E) = J64_0 E D W N v0_0 v0_1 v0_2 v0_3 v0_4 v0_5 σ := by
  refine (P64_0 E D W N C64_1 C64_2  v0_0 v0_1 v0_2 v0_3 v0_4 v0_5 σ).trans ?_
  simp only [LE64_2]
  kernel_rfl
def F64 (args : List V) (σ : H) : Ans :=
 rtCons args fun x1 l2 =>
 rtAgg x1 fun l3 =>
 rtCons l3 fun x4 l5 =>
 rtInt .i64 x4 fun x6 =>
 rtCons l5 fun x7 l8 =>
 rtInt .i64 x7 fun x9 =>
 rtCons l8 fun x10 l11 =>
 rtCons l11 fun x12 l13 =>
 rtCons l13 fun x14 l15 =>
 rtInt .i64 x14 fun x16 =>
 rtCons l15 fun x17 l18 =>
 rtNil l18 (
 rtNil l2 (
 J64_0 E D W N x6 x9 x10 x12 x16 x17 σ))
def A64 : XFn := ⟨19, [(.agg [.i, .i, .any, .any, .i, .any])], [(.tmp 2)], (C64_0 C64_1 C64_2)⟩
theorem FE64 (args : List V) (σ : H) : runX E D W N A64 args σ = F64 E D W N args σ := by
  unfold F64
  simp only [← JE64_0]
  kernel_rfl
theorem AO64 : A64.body.ok = true := by kernel_rfl

/-! ### F65: slices.ContainsFunc___ogham_api.Value_ogham_api.Value_ -/
def Fin65 (E : List (Nat × Blk)) : St → Ans := fun s => resK E s [(.tmp 4)] fun l => some (oneV l, s.σ)
def C65_0 : XC := (.seq (.ops (.c 4 (V.bool false)<|
.nil))
 (.seq (.ops (.m 5 0<|
.m 6 1<|
.k 7 .i 115 [(.t 5), (.t 6)]<|
.b 8 .geq .none (.t 7) (.i 0)<|
.m 4 8<|
.nil))
 .ret))
def T65_0 (E : List (Nat × Blk)) (D : Den) (W : DrawFn) (v0 v1 : V) (σ : H) : Ans :=
 callK (D 115 [v0, v1] σ) fun u1 s2 =>
 rtInt .i64 u1 fun x3 =>
 some ((V.bool (leF (Int.ofNat 0) x3)), s2)
def S65_0 (v0 v1 : V) (σ : H) : St := ⟨[(0, v0), (1, v1)], [], [], σ⟩
theorem P65_0 (v0 v1 : V) (σ : H) :
  denC E D W N (C65_0 ) (S65_0 v0 v1 σ) (Fin65 E) (fun _ _ => none) (Fin65 E) =
  T65_0 E D W  v0 v1 σ := by kernel_rfl
def J65_0 (E : List (Nat × Blk)) (D : Den) (W : DrawFn) (N : Nat) : V → V → H → Ans := T65_0 E D W 
theorem JE65_0 (v0 v1 : V) (σ : H) :
  denC E D W N C65_0 (S65_0 v0 v1 σ) (Fin65 E) (fun _ _ => none) (Fin65 E) = J65_0 E D W N v0 v1 σ := by
  refine (P65_0 E D W N   v0 v1 σ).trans ?_
  kernel_rfl
def F65 (args : List V) (σ : H) : Ans :=
 rtCons args fun x1 l2 =>
 rtCons l2 fun x3 l4 =>
 rtNil l4 (
 J65_0 E D W N x1 x3 σ)
def A65 : XFn := ⟨9, [.any, .any], [(.tmp 4)], C65_0⟩
theorem FE65 (args : List V) (σ : H) : runX E D W N A65 args σ = F65 E D W N args σ := by
  unfold F65
  simp only [← JE65_0]
  kernel_rfl
theorem AO65 : A65.body.ok = true := by kernel_rfl

/-! ### F66: ogham_value.Rules_1 -/
def Fin66 (E : List (Nat × Blk)) : St → Ans := fun s => resK E s [(.tmp 3)] fun l => some (oneV l, s.σ)
def C66_0 : XC := (.seq (.ops (.p 2 [0] (.box 26 (.t 0))<|
.c 3 (V.bool false)<|
.nil))
 (.seq (.ops (.op (some 4) (.agg [.i, .i, .any, .any, .i, .any]) [2] (.load (some 6) (.t 2))<|
.l 5 .i 1<|
.k 6 .bool 39 [(.t 4), (.t 5)]<|
.p 7 [6] (.un .not (.t 6))<|
.m 3 7<|
.nil))
 .ret))
def T66_0 (E : List (Nat × Blk)) (D : Den) (W : DrawFn) (v0_0 v0_1 : Int) (v0_2 v0_3 : V) (v0_4 : Int) (v0_5 v1 : V) (σ : H) : Ans :=
 chk (allOne (V.cells (V.agg [(V.int .i64 v0_0), (V.int .i64 v0_1), v0_2, v0_3, (V.int .i64 v0_4), v0_5]))) (
 let s1 := newB σ (.cells (V.cells (V.agg [(V.int .i64 v0_0), (V.int .i64 v0_1), v0_2, v0_3, (V.int .i64 v0_4), v0_5])));
 ldnK E s1 (H.next σ) 0 6 fun l2 =>
 rtCons l2 fun x3 l4 =>
 rtInt .i64 x3 fun x5 =>
 rtCons l4 fun x6 l7 =>
 rtInt .i64 x6 fun x8 =>
 rtCons l7 fun x9 l10 =>
 rtCons l10 fun x11 l12 =>
 rtCons l12 fun x13 l14 =>
 rtInt .i64 x13 fun x15 =>
 rtCons l14 fun x16 l17 =>
 rtNil l17 (
 rtPtr v1 fun b18 o19 =>
 ldK E s1 b18 o19 fun u20 =>
 rtInt .i64 u20 fun x21 =>
 callK (D 39 [(V.agg [(V.int .i64 x5), (V.int .i64 x8), x9, x11, (V.int .i64 x15), x16]), (V.int .i64 x21)] s1) fun u22 s23 =>
 rtBool u22 fun x24 =>
 some ((V.bool (not x24)), s23)))
def S66_0 (v0_0 v0_1 : Int) (v0_2 v0_3 : V) (v0_4 : Int) (v0_5 v1 : V) (σ : H) : St := ⟨[(0, (V.agg [(V.int .i64 v0_0), (V.int .i64 v0_1), v0_2, v0_3, (V.int .i64 v0_4), v0_5])), (1, v1)], [], [], σ⟩
theorem P66_0 (v0_0 v0_1 : Int) (v0_2 v0_3 : V) (v0_4 : Int) (v0_5 v1 : V) (σ : H) :
  denC E D W N (C66_0 ) (S66_0 v0_0 v0_1 v0_2 v0_3 v0_4 v0_5 v1 σ) (Fin66 E) (fun _ _ => none) (Fin66 E) =
  T66_0 E D W  v0_0 v0_1 v0_2 v0_3 v0_4 v0_5 v1 σ := by kernel_rfl
def J66_0 (E : List (Nat × Blk)) (D : Den) (W : DrawFn) (N : Nat) : Int → Int → V → V → Int → V → V → H → Ans := T66_0 E D W 
theorem JE66_0 (v0_0 v0_1 : Int) (v0_2 v0_3 : V) (v0_4 : Int) (v0_5 v1 : V) (σ : H) :
  denC E D W N C66_0 (S66_0 v0_0 v0_1 v0_2 v0_3 v0_4 v0_5 v1 σ) (Fin66 E) (fun _ _ => none) (Fin66 E) = J66_0 E D W N v0_0 v0_1 v0_2 v0_3 v0_4 v0_5 v1 σ := by
  refine (P66_0 E D W N   v0_0 v0_1 v0_2 v0_3 v0_4 v0_5 v1 σ).trans ?_
  kernel_rfl
def F66 (args : List V) (σ : H) : Ans :=
 rtCons args fun x1 l2 =>
 rtAgg x1 fun l3 =>
 rtCons l3 fun x4 l5 =>
 rtInt .i64 x4 fun x6 =>
 rtCons l5 fun x7 l8 =>
 rtInt .i64 x7 fun x9 =>
 rtCons l8 fun x10 l11 =>
 rtCons l11 fun x12 l13 =>
 rtCons l13 fun x14 l15 =>
 rtInt .i64 x14 fun x16 =>
 rtCons l15 fun x17 l18 =>
 rtNil l18 (
 rtCons l2 fun x19 l20 =>
 rtNil l20 (
 J66_0 E D W N x6 x9 x10 x12 x16 x17 x19 σ))
def A66 : XFn := ⟨8, [(.agg [.i, .i, .any, .any, .i, .any]), .any], [(.tmp 3)], C66_0⟩
theorem FE66 (args : List V) (σ : H) : runX E D W N A66 args σ = F66 E D W N args σ := by
  unfold F66
  simp only [← JE66_0]
  kernel_rfl
theorem AO66 : A66.body.ok = true := by kernel_rfl

/-! ### F67: ogham_der.within -/
def Fin67 (E : List (Nat × Blk)) : St → Ans := fun s => resK E s [(.tmp 6)] fun l => some (oneV l, s.σ)
def C67_0 (cc1 : XC) (cc2 : XC) : XC := (.seq (.ops (.c 6 V.nils<|
.nil))
 (.seq (.ops (.m 9 2<|
.k 10 .one 116 [(.t 9)]<|
.m 7 10<|
.nil))
 (.seq (.seq (.ops (.m 11 0<|
.u 12 11<|
.b 13 .sub .none (.t 12) (.i 1)<|
.m 8 13<|
.nil))
 (.block 0 (.loop [(0, .any), (1, .bool), (7, .any), (8, .i)] [] [] cc2)))
 (.keep [(7, .any)] [] [] cc1))))
def T67_0 (E : List (Nat × Blk)) (D : Den) (W : DrawFn) (K2 : V → Bool → V → Int → H → Ans) (v0 : V) (v1 : Bool) (v2 : V) (σ : H) : Ans :=
 callK (D 116 [v2] σ) fun u1 s2 =>
 rtOne u1 (
 slenK v0 fun n3 =>
 K2 v0 v1 u1 (subF .i64 (Int.ofNat n3) (Int.ofNat 1)) s2)
def C67_1 : XC := (.seq (.ops (.m 33 7<|
.m 6 33<|
.nil))
 .ret)
def T67_1 (E : List (Nat × Blk)) (D : Den) (W : DrawFn) (v7 : V) (σ : H) : Ans :=
 some (v7, σ)
def C67_2 : XC := (.seq (.seq (.ops (.m 14 8<|
.b 15 .geq .none (.t 14) (.i 0)<|
.nil))
 (.cond (.tmp 15) .skip
 (.exit 0)))
 (.seq (.block 1 (.ops (.m 18 0<|
.m 19 8<|
.s 20 2 18 19<|
.op (some 21) (.agg [.i, .i]) [20] (.load (some 2) (.t 20))<|
.m 22 1<|
.m 23 22<|
.grp 23 false (.p 24 [8, 23] (.mov (.t 8))<|
.p 25 [0, 23] (.mov (.t 0))<|
.p 26 [25, 23] (.len false (.t 25))<|
.p 27 [26, 23] (.bin .sub .none (.t 26) (.i 1))<|
.p 28 [24, 27, 23] (.bin .lss .none (.t 24) (.t 27))<|
.nil) 29 [23, 28] (.t 23) (.con (V.bool true)) (.t 28)<|
.m 30 7<|
.p 31 [30] (.buildSlice 22 1 [V.nils] [(0, 1, (.t 30))])<|
.k 32 .one 117 [(.t 21), (.t 29), (.t 31)]<|
.m 7 32<|
.nil)))
 (.ops (.m 16 8<|
.b 17 .sub .none (.t 16) (.i 1)<|
.m 8 17<|
.nil))))
def T67_2 (E : List (Nat × Blk)) (D : Den) (W : DrawFn) (K1 : V → H → Ans) (R2 : V → Bool → V → Int → H → Ans) (v0 : V) (v1 : Bool) (v7 : V) (v8 : Int) (σ : H) : Ans :=
 condK (leF (Int.ofNat 0) v8) (
 iaddrSK 2 v0 v8 fun b1 o2 =>
 ldnK E σ b1 o2 2 fun l3 =>
 rtCons l3 fun x4 l5 =>
 rtInt .i64 x4 fun x6 =>
 rtCons l5 fun x7 l8 =>
 rtInt .i64 x7 fun x9 =>
 rtNil l8 (
 joinB (fun c10 s11 =>
 fillK [(0, 1, v7)] [V.nils] fun l13 =>
 chk (allOne l13) (
 let s14 := newB s11 (.cells l13);
 callK (D 117 [(V.agg [(V.int .i64 x6), (V.int .i64 x9)]), (V.bool c10), (V.sl (H.next s11) 0 1 (.ex 1))] s14) fun u15 s16 =>
 rtOne u15 (
 R2 v0 v1 u15 (subF .i64 v8 (Int.ofNat 1)) s16))) fun k12 =>
 condK v1 (
 k12 true σ) (
 slenK v0 fun n17 =>
 k12 (ltF v8 (subF .i64 (Int.ofNat n17) (Int.ofNat 1))) σ))) (
 K1 v7 σ)
def S67_0 (v0 : V) (v1 : Bool) (v2 : V) (σ : H) : St := ⟨[(0, v0), (1, (V.bool v1)), (2, v2)], [], [], σ⟩
def S67_1 (v7 : V) (σ : H) : St := ⟨[(7, v7)], [], [], σ⟩
def S67_2 (v0 : V) (v1 : Bool) (v7 : V) (v8 : Int) (σ : H) : St := ⟨[(0, v0), (1, (V.bool v1)), (7, v7), (8, (V.int .i64 v8))], [], [], σ⟩
theorem P67_0 (cc1 : XC) (cc2 : XC) (v0 : V) (v1 : Bool) (v2 : V) (σ : H) :
  denC E D W N (C67_0 cc1 cc2) (S67_0 v0 v1 v2 σ) (Fin67 E) (fun _ _ => none) (Fin67 E) =
  T67_0 E D W (fun v0 v1 v7 v8 σ => iterK (fun rec s' => denC E D W N cc2 s' (fun s'' => keepS [(0, .any), (1, .bool), (7, .any), (8, .i)] [] [] s'' rec) (blkK 0 (fun s' => denC E D W N (.keep [(7, .any)] [] [] cc1) s' (Fin67 E) (fun _ _ => none) (Fin67 E)) (fun _ _ => none)) (Fin67 E)) N (S67_2 v0 v1 v7 v8 σ)) v0 v1 v2 σ := by kernel_rfl
theorem P67_1 (v7 : V) (σ : H) :
  denC E D W N (C67_1 ) (S67_1 v7 σ) (Fin67 E) (fun _ _ => none) (Fin67 E) =
  T67_1 E D W  v7 σ := by kernel_rfl
theorem P67_2 (cc1 : XC) (li2 : St → Ans) (v0 : V) (v1 : Bool) (v7 : V) (v8 : Int) (σ : H) :
  denC E D W N (C67_2 ) (S67_2 v0 v1 v7 v8 σ) (fun s'' => keepS [(0, .any), (1, .bool), (7, .any), (8, .i)] [] [] s'' li2) (blkK 0 (fun s' => denC E D W N (.keep [(7, .any)] [] [] cc1) s' (Fin67 E) (fun _ _ => none) (Fin67 E)) (fun _ _ => none)) (Fin67 E) =
  T67_2 E D W (fun v7 σ => denC E D W N cc1 (S67_1 v7 σ) (Fin67 E) (fun _ _ => none) (Fin67 E)) (fun v0 v1 v7 v8 σ => li2 (S67_2 v0 v1 v7 v8 σ)) v0 v1 v7 v8 σ := by kernel_rfl
def J67_1 (E : List (Nat × Blk)) (D : Den) (W : DrawFn) (N : Nat) : V → H → Ans := T67_1 E D W 
theorem JE67_1 (v7 : V) (σ : H) :
  denC E D W N C67_1 (S67_1 v7 σ) (Fin67 E) (fun _ _ => none) (Fin67 E) = J67_1 E D W N v7 σ := by
  refine (P67_1 E D W N   v7 σ).trans ?_
  kernel_rfl
def L67_2 (n : Nat) : V → Bool → V → Int → H → Ans :=
  Nat.rec (fun _ _ _ _ _ => none) (fun _ ih => T67_2 E D W (J67_1 E D W N ) ih) n
theorem LE67_2 (n : Nat) : ∀ (v0 : V) (v1 : Bool) (v7 : V) (v8 : Int) (σ : H),
  iterK (fun rec s' => denC E D W N C67_2 s' (fun s'' => keepS [(0, .any), (1, .bool), (7, .any), (8, .i)] [] [] s'' rec) (blkK 0 (fun s' => denC E D W N (.keep [(7, .any)] [] [] C67_1) s' (Fin67 E) (fun _ _ => none) (Fin67 E)) (fun _ _ => none)) (Fin67 E)) n (S67_2 v0 v1 v7 v8 σ) = L67_2 E D W N n v0 v1 v7 v8 σ := by
  induction n with
  | zero => intro v0 v1 v7 v8 σ; rfl
  | succ n ihn =>
    intro v0 v1 v7 v8 σ
    rw [iterK_succ]
    refine (P67_2 E D W N C67_1 (iterK (fun rec s' => denC E D W N C67_2 s' (fun s'' => keepS [(0, .any), (1, .bool), (7, .any), (8, .i)] [] [] s'' rec) (blkK 0 (fun s' => denC E D W N (.keep [(7, .any)] [] [] C67_1) s' (Fin67 E) (fun _ _ => none) (Fin67 E)) (fun _ _ => none)) (Fin67 E)) n) v0 v1 v7 v8 σ).trans ?_
    simp only [ihn, JE67_1]
    kernel_rfl
def J67_0 : V → Bool → V → H → Ans := T67_0 E D W (L67_2 E D W N N)
theorem JE67_0 (v0 : V) (v1 : Bool) (v2 : V) (σ : H) :
  denC E D W N (C67_0 C67_1 C67_2) (S67_0 v0 v1 v2 σ) (Fin67 E) (fun _ _ => none) (Fin67 E) = J67_0 E D W N v0 v1 v2 σ := by
  refine (P67_0 E D W N C67_1 C67_2  v0 v1 v2 σ).trans ?_
  simp only [LE67_2]
  kernel_rfl
def F67 (args : List V) (σ : H) : Ans :=
 rtCons args fun x1 l2 =>
 rtCons l2 fun x3 l4 =>
 rtBool x3 fun x5 =>
 rtCons l4 fun x6 l7 =>
 rtNil l7 (
 J67_0 E D W N x1 x5 x6 σ)
def A67 : XFn := ⟨34, [.any, .bool, .any], [(.tmp 6)], (C67_0 C67_1 C67_2)⟩
theorem FE67 (args : List V) (σ : H) : runX E D W N A67 args σ = F67 E D W N args σ := by
  unfold F67
  simp only [← JE67_0]
  kernel_rfl
theorem AO67 : A67.body.ok = true := by kernel_rfl

/-! ### F68: ogham_octets.Signed -/
def Fin68 (E : List (Nat × Blk)) : St → Ans := fun s => resK E s [(.tmp 2)] fun l => some (oneV l, s.σ)
def C68_0 (cc1 : XC) (cc2 : XC) : XC := (.seq (.ops (.c 2 V.nils<|
.nil))
 (.seq (.ops (.q 3 1<|
.nil))
 (.seq (.block 0 (.loop [(0, .i), (3, .i)] [] [] cc2))
 (.keep [(0, .i), (3, .i)] [] [] cc1))))
def T68_0 (E : List (Nat × Blk)) (D : Den) (W : DrawFn) (K2 : Int → Int → H → Ans) (v0 : Int) (σ : H) : Ans :=
 K2 v0 (Int.ofNat 1) σ
def C68_1 : XC := (.seq (.ops (.m 24 0<|
.p 25 [24] (.conv (.toInt .u64) (.t 24))<|
.m 26 3<|
.k 27 .one 118 [(.t 25), (.t 26)]<|
.m 2 27<|
.nil))
 .ret)
def T68_1 (E : List (Nat × Blk)) (D : Den) (W : DrawFn) (v0 v3 : Int) (σ : H) : Ans :=
 callK (D 118 [(V.int .u64 (wrapF .u64 v0)), (V.int .i64 v3)] σ) fun u1 s2 =>
 rtOne u1 (
 some (u1, s2))
def C68_2 : XC := (.seq (.seq (.ops (.m 4 3<|
.b 5 .lss .none (.t 4) (.i 8)<|
.m 6 5<|
.grp 6 true (.p 7 [0, 6] (.mov (.t 0))<|
.p 8 [3, 6] (.mov (.t 3))<|
.p 9 [8, 6] (.bin .mul .none (.i 8) (.t 8))<|
.p 10 [9, 6] (.bin .sub .none (.t 9) (.i 1))<|
.p 11 [7, 10, 6] (.bin .shr .none (.t 7) (.t 10))<|
.p 12 [11, 6] (.bin .neq .none (.t 11) (.i 0))<|
.nil) 13 [6, 12] (.t 6) (.t 12) (.con (V.bool false))<|
.m 14 13<|
.grp 14 true (.p 15 [0, 14] (.mov (.t 0))<|
.p 16 [3, 14] (.mov (.t 3))<|
.p 17 [16, 14] (.bin .mul .none (.i 8) (.t 16))<|
.p 18 [17, 14] (.bin .sub .none (.t 17) (.i 1))<|
.p 19 [15, 18, 14] (.bin .shr .none (.t 15) (.t 18))<|
.p 20 [19, 14] (.bin .neq .none (.t 19) (.con (V.int .i64 (Int.negSucc 0))))<|
.nil) 21 [14, 20] (.t 14) (.t 20) (.con (V.bool false))<|
.nil))
 (.cond (.tmp 21) .skip
 (.exit 0)))
 (.block 1 (.ops (.m 22 3<|
.b 23 .add .none (.t 22) (.i 1)<|
.m 3 23<|
.nil))))
def T68_2 (E : List (Nat × Blk)) (D : Den) (W : DrawFn) (K1 : Int → Int → H → Ans) (R2 : Int → Int → H → Ans) (v0 v3 : Int) (σ : H) : Ans :=
 joinB (fun c1 s2 =>
 joinB (fun c4 s5 =>
 condK c4 (
 R2 v0 (addF .i64 v3 (Int.ofNat 1)) s5) (
 K1 v0 v3 s5)) fun k6 =>
 condK c1 (
 nnK (subF .i64 (mulF .i64 (Int.ofNat 8) v3) (Int.ofNat 1)) fun n7 =>
 k6 (not (eqF (shrF .i64 v0 n7) (Int.negSucc 0))) s2) (
 k6 false s2)) fun k3 =>
 condK (ltF v3 (Int.ofNat 8)) (
 nnK (subF .i64 (mulF .i64 (Int.ofNat 8) v3) (Int.ofNat 1)) fun n8 =>
 k3 (not (eqF (shrF .i64 v0 n8) (Int.ofNat 0))) σ) (
 k3 false σ)
def S68_0 (v0 : Int) (σ : H) : St := ⟨[(0, (V.int .i64 v0))], [], [], σ⟩
def S68_1 (v0 v3 : Int) (σ : H) : St := ⟨[(0, (V.int .i64 v0)), (3, (V.int .i64 v3))], [], [], σ⟩
def S68_2 (v0 v3 : Int) (σ : H) : St := ⟨[(0, (V.int .i64 v0)), (3, (V.int .i64 v3))], [], [], σ⟩
theorem P68_0 (cc1 : XC) (cc2 : XC) (v0 : Int) (σ : H) :
  denC E D W N (C68_0 cc1 cc2) (S68_0 v0 σ) (Fin68 E) (fun _ _ => none) (Fin68 E) =
  T68_0 E D W (fun v0 v3 σ => iterK (fun rec s' => denC E D W N cc2 s' (fun s'' => keepS [(0, .i), (3, .i)] [] [] s'' rec) (blkK 0 (fun s' => denC E D W N (.keep [(0, .i), (3, .i)] [] [] cc1) s' (Fin68 E) (fun _ _ => none) (Fin68 E)) (fun _ _ => none)) (Fin68 E)) N (S68_2 v0 v3 σ)) v0 σ := by kernel_rfl
theorem P68_1 (v0 v3 : Int) (σ : H) :
  denC E D W N (C68_1 ) (S68_1 v0 v3 σ) (Fin68 E) (fun _ _ => none) (Fin68 E) =
  T68_1 E D W  v0 v3 σ := by kernel_rfl
theorem P68_2 (cc1 : XC) (li2 : St → Ans) (v0 v3 : Int) (σ : H) :
  denC E D W N (C68_2 ) (S68_2 v0 v3 σ) (fun s'' => keepS [(0, .i), (3, .i)] [] [] s'' li2) (blkK 0 (fun s' => denC E D W N (.keep [(0, .i), (3, .i)] [] [] cc1) s' (Fin68 E) (fun _ _ => none) (Fin68 E)) (fun _ _ => none)) (Fin68 E) =
  T68_2 E D W (fun v0 v3 σ => denC E D W N cc1 (S68_1 v0 v3 σ) (Fin68 E) (fun _ _ => none) (Fin68 E)) (fun v0 v3 σ => li2 (S68_2 v0 v3 σ)) v0 v3 σ := by kernel_rfl
def J68_1 (E : List (Nat × Blk)) (D : Den) (W : DrawFn) (N : Nat) : Int → Int → H → Ans := T68_1 E D W 
theorem JE68_1 (v0 v3 : Int) (σ : H) :
  denC E D W N C68_1 (S68_1 v0 v3 σ) (Fin68 E) (fun _ _ => none) (Fin68 E) = J68_1 E D W N v0 v3 σ := by
  refine (P68_1 E D W N   v0 v3 σ).trans ?_
  kernel_rfl
def L68_2 (n : Nat) : Int → Int → H → Ans :=
  Nat.rec (fun _ _ _ => none) (fun _ ih => T68_2 E D W (J68_1 E D W N ) ih) n
theorem LE68_2 (n : Nat) : ∀ (v0 v3 : Int) (σ : H),
  iterK (fun rec s' => denC E D W N C68_2 s' (fun s'' => keepS [(0, .i), (3, .i)] [] [] s'' rec) (blkK 0 (fun s' => denC E D W N (.keep [(0, .i), (3, .i)] [] [] C68_1) s' (Fin68 E) (fun _ _ => none) (Fin68 E)) (fun _ _ => none)) (Fin68 E)) n (S68_2 v0 v3 σ) = L68_2 E D W N n v0 v3 σ := by
  induction n with
  | zero => intro v0 v3 σ; rfl
  | succ n ihn =>
    intro v0 v3 σ
    rw [iterK_succ]
    refine (P68_2 E D W N C68_1 (iterK (fun rec s' => denC E D W N C68_2 s' (fun s'' => keepS [(0, .i), (3, .i)] [] [] s'' rec) (blkK 0 (fun s' => denC E D W N (.keep [(0, .i), (3, .i)] [] [] C68_1) s' (Fin68 E) (fun _ _ => none) (Fin68 E)) (fun _ _ => none)) (Fin68 E)) n) v0 v3 σ).trans ?_
    simp only [ihn, JE68_1]
    kernel_rfl
def J68_0 : Int → H → Ans := T68_0 E D W (L68_2 E D W N N)
theorem JE68_0 (v0 : Int) (σ : H) :
  denC E D W N (C68_0 C68_1 C68_2) (S68_0 v0 σ) (Fin68 E) (fun _ _ => none) (Fin68 E) = J68_0 E D W N v0 σ := by
  refine (P68_0 E D W N C68_1 C68_2  v0 σ).trans ?_
  simp only [LE68_2]
  kernel_rfl
def F68 (args : List V) (σ : H) : Ans :=
 rtCons args fun x1 l2 =>
 rtInt .i64 x1 fun x3 =>
 rtNil l2 (
 J68_0 E D W N x3 σ)
def A68 : XFn := ⟨28, [.i], [(.tmp 2)], (C68_0 C68_1 C68_2)⟩
theorem FE68 (args : List V) (σ : H) : runX E D W N A68 args σ = F68 E D W N args σ := by
  unfold F68
  simp only [← JE68_0]
  kernel_rfl
theorem AO68 : A68.body.ok = true := by kernel_rfl

/-! ### F69: __ogham_der.encoder_.fields -/
def G69_0 : List AOper := [⟨(some 23), .mov (.tmp 7), none⟩, ⟨(some 24), .mov (.tmp 0), none⟩, ⟨(some 25), .faddr 9 (.tmp 4), none⟩, ⟨(some 26), .load none (.tmp 25), none⟩, ⟨(some 27), .mov (.tmp 8), none⟩, ⟨(some 28), .iaddrS 11 (.tmp 26) (.tmp 27), none⟩, ⟨(some 29), .faddr 1 (.tmp 28), none⟩, ⟨(some 30), .load none (.tmp 29), none⟩, ⟨(some 31), .load (some 6) (.tmp 9), none⟩, ⟨(some 32), .call 40 [(.tmp 24), (.tmp 30), (.tmp 31)], none⟩, ⟨(some 33), .buildSlice 22 1 [V.nils] [(0, 1, (.tmp 32))], none⟩, ⟨(some 34), .append 22 1 24 (.tmp 23) (.tmp 33), none⟩, ⟨(some 7), .mov (.tmp 34), none⟩]
def H69_0 : List DP := [⟨0, [7]⟩, ⟨0, [0]⟩, ⟨0, [4]⟩, ⟨4, [25]⟩, ⟨0, [8]⟩, ⟨28, [26, 27]⟩, ⟨60, [28]⟩, ⟨124, [29]⟩, ⟨0, [9]⟩, ⟨510, [24, 30, 31]⟩, ⟨1022, [32]⟩, ⟨2047, [23, 33]⟩, ⟨4095, [34]⟩]
def Fin69 (E : List (Nat × Blk)) : St → Ans := fun s => resK E s [(.tmp 6)] fun l => some (oneV l, s.σ)
def C69_0 (cc1 : XC) (cc2 : XC) : XC := (.seq (.ops (.p 4 [1] (.box 139 (.t 1))<|
.p 5 [2] (.box 26 (.t 2))<|
.c 6 V.nils<|
.nil))
 (.seq (.ops (.c 7 V.nils<|
.nil))
 (.seq (.seq (.ops (.f 12 3 5<|
.l 13 .any 12<|
.u 14 13<|
.q 15 0<|
.nil))
 (.block 0 (.loop [(0, .any), (4, .ptr), (5, .ptr), (7, .any), (13, .any), (14, .i), (15, .i)] [] [] cc2)))
 (.keep [(4, .ptr), (5, .ptr), (7, .any)] [] [] cc1))))
def T69_0 (E : List (Nat × Blk)) (D : Den) (W : DrawFn) (K2 : V → Nat → Nat → Nat → Nat → V → V → Int → Int → H → Ans) (v0 : V) (v1_0 : Int) (v1_1 : V) (v1_2 v1_3 v1_4 v1_5 : Bool) (v1_6 v1_7 : Int) (v1_8 v1_9 : V) (v1_10 : Int) (v1_11 : Bool) (v1_12 v2_0 v2_1 : Int) (v2_2 v2_3 : V) (v2_4 : Int) (v2_5 : V) (σ : H) : Ans :=
 chk (allOne (V.cells (V.agg [(V.int .i64 v1_0), v1_1, (V.bool v1_2), (V.bool v1_3), (V.bool v1_4), (V.bool v1_5), (V.int .i64 v1_6), (V.int .i64 v1_7), v1_8, v1_9, (V.int .i64 v1_10), (V.bool v1_11), (V.int .i64 v1_12)]))) (
 let s1 := newB σ (.cells (V.cells (V.agg [(V.int .i64 v1_0), v1_1, (V.bool v1_2), (V.bool v1_3), (V.bool v1_4), (V.bool v1_5), (V.int .i64 v1_6), (V.int .i64 v1_7), v1_8, v1_9, (V.int .i64 v1_10), (V.bool v1_11), (V.int .i64 v1_12)])));
 chk (allOne (V.cells (V.agg [(V.int .i64 v2_0), (V.int .i64 v2_1), v2_2, v2_3, (V.int .i64 v2_4), v2_5]))) (
 let s2 := newB s1 (.cells (V.cells (V.agg [(V.int .i64 v2_0), (V.int .i64 v2_1), v2_2, v2_3, (V.int .i64 v2_4), v2_5])));
 ldK E s2 (H.next s1) 3 fun u3 =>
 slenK u3 fun n4 =>
 K2 v0 (H.next σ) 0 (H.next s1) 0 V.nils u3 (Int.ofNat n4) (Int.ofNat 0) s2))
def C69_1 (cc4 : XC) (cc5 : XC) : XC := (.seq (.seq (.ops (.f 36 5 5<|
.l 37 .any 36<|
.u 38 37<|
.q 39 0<|
.nil))
 (.block 2 (.loop [(4, .ptr), (7, .any), (37, .any), (38, .i), (39, .i)] [] [] cc5)))
 (.keep [(4, .ptr), (7, .any)] [] [] cc4))
def T69_1 (E : List (Nat × Blk)) (D : Den) (W : DrawFn) (K5 : Nat → Nat → V → V → Int → Int → H → Ans) (v4b v4o v5b v5o : Nat) (v7 : V) (σ : H) : Ans :=
 ldK E σ v5b (Nat.add v5o 5) fun u1 =>
 slenK u1 fun n2 =>
 K5 v4b v4o v7 u1 (Int.ofNat n2) (Int.ofNat 0) σ
def C69_2 (cc3 : XC) : XC := (.seq (.ops (.b 16 .lss .none (.t 15) (.t 14)<|
.nil))
 (.seq (.cond (.tmp 16) .skip
 (.exit 0))
 (.seq (.block 1 (.seq (.ops (.m 17 15<|
.s 18 6 13 15<|
.op (some 19) (.agg [.i, .i, .any, .any, .i, .any]) [18] (.load (some 6) (.t 18))<|
.p 9 [] (.alloc 26 [(V.int .i64 (Int.ofNat 0)), (V.int .i64 (Int.ofNat 0)), V.nils, V.nils, (V.int .i64 (Int.ofNat 0)), V.nils])<|
.m 8 17<|
.op none (.agg [.i, .i, .any, .any, .i, .any]) [9, 19] (.store 6 (.t 9) (.t 19))<|
.nil))
 (.seq (.ops (.op (some 20) (.agg [.i, .i, .any, .any, .i, .any]) [9] (.load (some 6) (.t 9))<|
.k 21 .bool 119 [(.t 20)]<|
.p 22 [21] (.un .not (.t 21))<|
.nil))
 (.cond (.tmp 22) (.keep [(0, .any), (4, .ptr), (5, .ptr), (7, .any), (8, .i), (9, .ptr), (13, .any), (14, .i), (15, .i)] [] [] (.gdraw G69_0 H69_0 [(0, .any), (4, .ptr), (5, .ptr), (7, .any), (13, .any), (14, .i), (15, .i)]))
 .skip))))
 (.keep [(0, .any), (4, .ptr), (5, .ptr), (7, .any), (13, .any), (14, .i), (15, .i)] [] [] cc3))))
def T69_2 (K1 : Nat → Nat → Nat → Nat → V → H → Ans) (K3 : V → Nat → Nat → Nat → Nat → V → V → Int → Int → H → Ans) (v0 : V) (v4b v4o v5b v5o : Nat) (v7 v13 : V) (v14 v15 : Int) (σ : H) : Ans :=
 condK (ltF v15 v14) (
 iaddrSK 6 v13 v15 fun b1 o2 =>
 ldnK E σ b1 o2 6 fun l3 =>
 rtCons l3 fun x4 l5 =>
 rtInt .i64 x4 fun x6 =>
 rtCons l5 fun x7 l8 =>
 rtInt .i64 x7 fun x9 =>
 rtCons l8 fun x10 l11 =>
 rtCons l11 fun x12 l13 =>
 rtCons l13 fun x14 l15 =>
 rtInt .i64 x14 fun x16 =>
 rtCons l15 fun x17 l18 =>
 rtNil l18 (
 let s19 := newB σ (.cells [(V.int .i64 (Int.ofNat 0)), (V.int .i64 (Int.ofNat 0)), V.nils, V.nils, (V.int .i64 (Int.ofNat 0)), V.nils]);
 stK 6 (H.next σ) 0 (V.agg [(V.int .i64 x6), (V.int .i64 x9), x10, x12, (V.int .i64 x16), x17]) s19 fun s20 =>
 ldnK E s20 (H.next σ) 0 6 fun l21 =>
 rtCons l21 fun x22 l23 =>
 rtInt .i64 x22 fun x24 =>
 rtCons l23 fun x25 l26 =>
 rtInt .i64 x25 fun x27 =>
 rtCons l26 fun x28 l29 =>
 rtCons l29 fun x30 l31 =>
 rtCons l31 fun x32 l33 =>
 rtInt .i64 x32 fun x34 =>
 rtCons l33 fun x35 l36 =>
 rtNil l36 (
 callK (D 119 [(V.agg [(V.int .i64 x24), (V.int .i64 x27), x28, x30, (V.int .i64 x34), x35])] s20) fun u37 s38 =>
 rtBool u37 fun x39 =>
 condK (not x39) (
 gdrawK (W G69_0 H69_0 [(0, v0), (4, (V.ptr v4b v4o)), (5, (V.ptr v5b v5o)), (7, v7), (8, (V.int .i64 v15)), (9, (V.ptr (H.next σ) 0)), (13, v13), (14, (V.int .i64 v14)), (15, (V.int .i64 v15))] s38) fun e40 s41 =>
 getL e40 0 fun u42 =>
 getL e40 4 fun u43 =>
 rtPtr u43 fun b44 o45 =>
 getL e40 5 fun u46 =>
 rtPtr u46 fun b47 o48 =>
 getL e40 7 fun u49 =>
 getL e40 13 fun u50 =>
 getL e40 14 fun u51 =>
 rtInt .i64 u51 fun x52 =>
 getL e40 15 fun u53 =>
 rtInt .i64 u53 fun x54 =>
 K3 u42 b44 o45 b47 o48 u49 u50 x52 x54 s41) (
 K3 v0 v4b v4o v5b v5o v7 v13 v14 v15 s38)))) (
 K1 v4b v4o v5b v5o v7 σ)
def C69_3 : XC := (.ops (.b 35 .add .none (.t 15) (.i 1)<|
.m 15 35<|
.nil))
def T69_3 (E : List (Nat × Blk)) (D : Den) (W : DrawFn) (R2 : V → Nat → Nat → Nat → Nat → V → V → Int → Int → H → Ans) (v0 : V) (v4b v4o v5b v5o : Nat) (v7 v13 : V) (v14 v15 : Int) (σ : H) : Ans :=
 R2 v0 v4b v4o v5b v5o v7 v13 v14 (addF .i64 v15 (Int.ofNat 1)) σ
def C69_4 (cc6 : XC) : XC := (.seq (.seq (.ops (.f 49 0 4<|
.l 50 .i 49<|
.b 51 .eql .none (.t 50) (.i 8)<|
.nil))
 (.cond (.tmp 51) (.ops (.m 52 7<|
.k 53 (.tup []) 120 [(.t 52), (.con (V.fn 121 [] []))]<|
.nil))
 .skip))
 (.keep [(7, .any)] [] [] cc6))
def T69_4 (E : List (Nat × Blk)) (D : Den) (W : DrawFn) (K6 : V → H → Ans) (v4b v4o : Nat) (v7 : V) (σ : H) : Ans :=
 ldK E σ v4b v4o fun u1 =>
 rtInt .i64 u1 fun x2 =>
 condK (eqF x2 (Int.ofNat 8)) (
 callK (D 120 [v7, (V.fn 121 [] [])] σ) fun u3 s4 =>
 rtTup u3 fun l5 =>
 rtNil l5 (
 K6 v7 s4)) (
 K6 v7 σ)
def C69_5 : XC := (.seq (.ops (.b 40 .lss .none (.t 39) (.t 38)<|
.nil))
 (.seq (.cond (.tmp 40) .skip
 (.exit 2))
 (.seq (.block 3 (.seq (.ops (.s 41 2 37 39<|
.op (some 42) (.agg [.i, .any]) [41] (.load (some 2) (.t 41))<|
.pal 11 [] 73 [(V.int .i64 (Int.ofNat 0)), V.nils]<|
.op none (.agg [.i, .any]) [11, 42] (.store 2 (.t 11) (.t 42))<|
.nil))
 (.ops (.m 43 7<|
.f 44 1 11<|
.l 45 .any 44<|
.p 46 [45] (.buildSlice 22 1 [V.nils] [(0, 1, (.t 45))])<|
.op (some 47) .one [43, 46] (.append 22 1 24 (.t 43) (.t 46))<|
.m 7 47<|
.nil))))
 (.ops (.b 48 .add .none (.t 39) (.i 1)<|
.m 39 48<|
.nil)))))
def T69_5 (E : List (Nat × Blk)) (D : Den) (W : DrawFn) (K4 : Nat → Nat → V → H → Ans) (R5 : Nat → Nat → V → V → Int → Int → H → Ans) (v4b v4o : Nat) (v7 v37 : V) (v38 v39 : Int) (σ : H) : Ans :=
 condK (ltF v39 v38) (
 iaddrSK 2 v37 v39 fun b1 o2 =>
 ldnK E σ b1 o2 2 fun l3 =>
 rtCons l3 fun x4 l5 =>
 rtInt .i64 x4 fun x6 =>
 rtCons l5 fun x7 l8 =>
 rtNil l8 (
 chk (allOne [(V.int .i64 x6), x7]) (
 fillK [(0, 1, x7)] [V.nils] fun l9 =>
 chk (allOne l9) (
 let s10 := newB σ (.cells l9);
 appK E 1 24 v7 (V.sl (H.next σ) 0 1 (.ex 1)) s10 fun u11 s12 =>
 rtOne u11 (
 R5 v4b v4o u11 v37 v38 (addF .i64 v39 (Int.ofNat 1)) s12))))) (
 K4 v4b v4o v7 σ)
def C69_6 : XC := (.seq (.ops (.m 54 7<|
.m 6 54<|
.nil))
 .ret)
def T69_6 (E : List (Nat × Blk)) (D : Den) (W : DrawFn) (v7 : V) (σ : H) : Ans :=
 some (v7, σ)
def S69_0 (v0 : V) (v1_0 : Int) (v1_1 : V) (v1_2 v1_3 v1_4 v1_5 : Bool) (v1_6 v1_7 : Int) (v1_8 v1_9 : V) (v1_10 : Int) (v1_11 : Bool) (v1_12 v2_0 v2_1 : Int) (v2_2 v2_3 : V) (v2_4 : Int) (v2_5 : V) (σ : H) : St := ⟨[(0, v0), (1, (V.agg [(V.int .i64 v1_0), v1_1, (V.bool v1_2), (V.bool v1_3), (V.bool v1_4), (V.bool v1_5), (V.int .i64 v1_6), (V.int .i64 v1_7), v1_8, v1_9, (V.int .i64 v1_10), (V.bool v1_11), (V.int .i64 v1_12)])), (2, (V.agg [(V.int .i64 v2_0), (V.int .i64 v2_1), v2_2, v2_3, (V.int .i64 v2_4), v2_5]))], [], [], σ⟩
def S69_1 (v4b v4o v5b v5o : Nat) (v7 : V) (σ : H) : St := ⟨[(4, (V.ptr v4b v4o)), (5, (V.ptr v5b v5o)), (7, v7)], [], [], σ⟩
def S69_2 (v0 : V) (v4b v4o v5b v5o : Nat) (v7 v13 : V) (v14 v15 : Int) (σ : H) : St := ⟨[(0, v0), (4, (V.ptr v4b v4o)), (5, (V.ptr v5b v5o)), (7, v7), (13, v13), (14, (V.int .i64 v14)), (15, (V.int .i64 v15))], [], [], σ⟩
def S69_3 (v0 : V) (v4b v4o v5b v5o : Nat) (v7 v13 : V) (v14 v15 : Int) (σ : H) : St := ⟨[(0, v0), (4, (V.ptr v4b v4o)), (5, (V.ptr v5b v5o)), (7, v7), (13, v13), (14, (V.int .i64 v14)), (15, (V.int .i64 v15))], [], [], σ⟩
def S69_4 (v4b v4o : Nat) (v7 : V) (σ : H) : St := ⟨[(4, (V.ptr v4b v4o)), (7, v7)], [], [], σ⟩
def S69_5 (v4b v4o : Nat) (v7 v37 : V) (v38 v39 : Int) (σ : H) : St := ⟨[(4, (V.ptr v4b v4o)), (7, v7), (37, v37), (38, (V.int .i64 v38)), (39, (V.int .i64 v39))], [], [], σ⟩
def S69_6 (v7 : V) (σ : H) : St := ⟨[(7, v7)], [], [], σ⟩
theorem P69_0 (cc1 : XC) (cc2 : XC) (v0 : V) (v1_0 : Int) (v1_1 : V) (v1_2 v1_3 v1_4 v1_5 : Bool) (v1_6 v1_7 : Int) (v1_8 v1_9 : V) (v1_10 : Int) (v1_11 : Bool) (v1_12 v2_0 v2_1 : Int) (v2_2 v2_3 : V) (v2_4 : Int) (v2_5 : V) (σ : H) :
  denC E D W N (C69_0 cc1 cc2) (S69_0 v0 v1_0 v1_1 v1_2 v1_3 v1_4 v1_5 v1_6 v1_7 v1_8 v1_9 v1_10 v1_11 v1_12 v2_0 v2_1 v2_2 v2_3 v2_4 v2_5 σ) (Fin69 E) (fun _ _ => none) (Fin69 E) =
  T69_0 E D W (fun v0 v4b v4o v5b v5o v7 v13 v14 v15 σ => iterK (fun rec s' => denC E D W N cc2 s' (fun s'' => keepS [(0, .any), (4, .ptr), (5, .ptr), (7, .any), (13, .any), (14, .i), (15, .i)] [] [] s'' rec) (blkK 0 (fun s' => denC E D W N (.keep [(4, .ptr), (5, .ptr), (7, .any)] [] [] cc1) s' (Fin69 E) (fun _ _ => none) (Fin69 E)) (fun _ _ => none)) (Fin69 E)) N (S69_2 v0 v4b v4o v5b v5o v7 v13 v14 v15 σ)) v0 v1_0 v1_1 v1_2 v1_3 v1_4 v1_5 v1_6 v1_7 v1_8 v1_9 v1_10 v1_11 v1_12 v2_0 v2_1 v2_2 v2_3 v2_4 v2_5 σ := by kernel_rfl
theorem P69_1 (cc4 : XC) (cc5 : XC) (v4b v4o v5b v5o : Nat) (v7 : V) (σ : H) :
  denC E D W N (C69_1 cc4 cc5) (S69_1 v4b v4o v5b v5o v7 σ) (Fin69 E) (fun _ _ => none) (Fin69 E) =
  T69_1 E D W (fun v4b v4o v7 v37 v38 v39 σ => iterK (fun rec s' => denC E D W N cc5 s' (fun s'' => keepS [(4, .ptr), (7, .any), (37, .any), (38, .i), (39, .i)] [] [] s'' rec) (blkK 2 (fun s' => denC E D W N (.keep [(4, .ptr), (7, .any)] [] [] cc4) s' (Fin69 E) (fun _ _ => none) (Fin69 E)) (fun _ _ => none)) (Fin69 E)) N (S69_5 v4b v4o v7 v37 v38 v39 σ)) v4b v4o v5b v5o v7 σ := by kernel_rfl
theorem P69_2 (cc1 : XC) (cc3 : XC) (li2 : St → Ans) (v0 : V) (v4b v4o v5b v5o : Nat) (v7 v13 : V) (v14 v15 : Int) (σ : H) :
  denC E D W N (C69_2 cc3) (S69_2 v0 v4b v4o v5b v5o v7 v13 v14 v15 σ) (fun s'' => keepS [(0, .any), (4, .ptr), (5, .ptr), (7, .any), (13, .any), (14, .i), (15, .i)] [] [] s'' li2) (blkK 0 (fun s' => denC E D W N (.keep [(4, .ptr), (5, .ptr), (7, .any)] [] [] cc1) s' (Fin69 E) (fun _ _ => none) (Fin69 E)) (fun _ _ => none)) (Fin69 E) =
  T69_2 E D W (fun v4b v4o v5b v5o v7 σ => denC E D W N cc1 (S69_1 v4b v4o v5b v5o v7 σ) (Fin69 E) (fun _ _ => none) (Fin69 E)) (fun v0 v4b v4o v5b v5o v7 v13 v14 v15 σ => denC E D W N cc3 (S69_3 v0 v4b v4o v5b v5o v7 v13 v14 v15 σ) (fun s'' => keepS [(0, .any), (4, .ptr), (5, .ptr), (7, .any), (13, .any), (14, .i), (15, .i)] [] [] s'' li2) (blkK 0 (fun s' => denC E D W N (.keep [(4, .ptr), (5, .ptr), (7, .any)] [] [] cc1) s' (Fin69 E) (fun _ _ => none) (Fin69 E)) (fun _ _ => none)) (Fin69 E)) v0 v4b v4o v5b v5o v7 v13 v14 v15 σ := by kernel_rfl
theorem P69_3 (cc1 : XC) (li2 : St → Ans) (v0 : V) (v4b v4o v5b v5o : Nat) (v7 v13 : V) (v14 v15 : Int) (σ : H) :
  denC E D W N (C69_3 ) (S69_3 v0 v4b v4o v5b v5o v7 v13 v14 v15 σ) (fun s'' => keepS [(0, .any), (4, .ptr), (5, .ptr), (7, .any), (13, .any), (14, .i), (15, .i)] [] [] s'' li2) (blkK 0 (fun s' => denC E D W N (.keep [(4, .ptr), (5, .ptr), (7, .any)] [] [] cc1) s' (Fin69 E) (fun _ _ => none) (Fin69 E)) (fun _ _ => none)) (Fin69 E) =
  T69_3 E D W (fun v0 v4b v4o v5b v5o v7 v13 v14 v15 σ => li2 (S69_2 v0 v4b v4o v5b v5o v7 v13 v14 v15 σ)) v0 v4b v4o v5b v5o v7 v13 v14 v15 σ := by kernel_rfl
theorem P69_4 (cc6 : XC) (v4b v4o : Nat) (v7 : V) (σ : H) :
  denC E D W N (C69_4 cc6) (S69_4 v4b v4o v7 σ) (Fin69 E) (fun _ _ => none) (Fin69 E) =
  T69_4 E D W (fun v7 σ => denC E D W N cc6 (S69_6 v7 σ) (Fin69 E) (fun _ _ => none) (Fin69 E)) v4b v4o v7 σ := by kernel_rfl
theorem P69_5 (cc4 : XC) (li5 : St → Ans) (v4b v4o : Nat) (v7 v37 : V) (v38 v39 : Int) (σ : H) :
  denC E D W N (C69_5 ) (S69_5 v4b v4o v7 v37 v38 v39 σ) (fun s'' => keepS [(4, .ptr), (7, .any), (37, .any), (38, .i), (39, .i)] [] [] s'' li5) (blkK 2 (fun s' => denC E D W N (.keep [(4, .ptr), (7, .any)] [] [] cc4) s' (Fin69 E) (fun _ _ => none) (Fin69 E)) (fun _ _ => none)) (Fin69 E) =
  T69_5 E D W (fun v4b v4o v7 σ => denC E D W N cc4 (S69_4 v4b v4o v7 σ) (Fin69 E) (fun _ _ => none) (Fin69 E)) (fun v4b v4o v7 v37 v38 v39 σ => li5 (S69_5 v4b v4o v7 v37 v38 v39 σ)) v4b v4o v7 v37 v38 v39 σ := by kernel_rfl
theorem P69_6 (v7 : V) (σ : H) :
  denC E D W N (C69_6 ) (S69_6 v7 σ) (Fin69 E) (fun _ _ => none) (Fin69 E) =
  T69_6 E D W  v7 σ := by kernel_rfl
def J69_6 (E : List (Nat × Blk)) (D : Den) (W : DrawFn) (N : Nat) : V → H → Ans := T69_6 E D W 
theorem JE69_6 (v7 : V) (σ : H) :
  denC E D W N C69_6 (S69_6 v7 σ) (Fin69 E) (fun _ _ => none) (Fin69 E) = J69_6 E D W N v7 σ := by
  refine (P69_6 E D W N   v7 σ).trans ?_
  kernel_rfl
def J69_4 : Nat → Nat → V → H → Ans := T69_4 E D W (J69_6 E D W N )
theorem JE69_4 (v4b v4o : Nat) (v7 : V) (σ : H) :
  denC E D W N (C69_4 C69_6) (S69_4 v4b v4o v7 σ) (Fin69 E) (fun _ _ => none) (Fin69 E) = J69_4 E D W N v4b v4o v7 σ := by
  refine (P69_4 E D W N C69_6  v4b v4o v7 σ).trans ?_
  simp only [JE69_6]
  kernel_rfl
def L69_5 (n : Nat) : Nat → Nat → V → V → Int → Int → H → Ans :=
  Nat.rec (fun _ _ _ _ _ _ _ => none) (fun _ ih => T69_5 E D W (J69_4 E D W N ) ih) n
theorem LE69_5 (n : Nat) : ∀ (v4b v4o : Nat) (v7 v37 : V) (v38 v39 : Int) (σ : H),
  iterK (fun rec s' => denC E D W N C69_5 s' (fun s'' => keepS [(4, .ptr), (7, .any), (37, .any), (38, .i), (39, .i)] [] [] s'' rec) (blkK 2 (fun s' => denC E D W N (.keep [(4, .ptr), (7, .any)] [] [] (C69_4 C69_6)) s' (Fin69 E) (fun _ _ => none) (Fin69 E)) (fun _ _ => none)) (Fin69 E)) n (S69_5 v4b v4o v7 v37 v38 v39 σ) = L69_5 E D W N n v4b v4o v7 v37 v38 v39 σ := by
  induction n with
  | zero => intro v4b v4o v7 v37 v38 v39 σ; rfl
  | succ n ihn =>
    intro v4b v4o v7 v37 v38 v39 σ
    rw [iterK_succ]
    refine (P69_5 E D W N (C69_4 C69_6) (iterK (fun rec s' => denC E D W N C69_5 s' (fun s'' => keepS [(4, .ptr), (7, .any), (37, .any), (38, .i), (39, .i)] [] [] s'' rec) (blkK 2 (fun s' => denC E D W N (.keep [(4, .ptr), (7, .any)] [] [] (C69_4 C69_6)) s' (Fin69 E) (fun _ _ => none) (Fin69 E)) (fun _ _ => none)) (Fin69 E)) n) v4b v4o v7 v37 v38 v39 σ).trans ?_
    simp only [ihn, JE69_4]
    kernel_rfl
def J69_1 : Nat → Nat → Nat → Nat → V → H → Ans := T69_1 E D W (L69_5 E D W N N)
theorem JE69_1 (v4b v4o v5b v5o : Nat) (v7 : V) (σ : H) :
  denC E D W N (C69_1 (C69_4 C69_6) C69_5) (S69_1 v4b v4o v5b v5o v7 σ) (Fin69 E) (fun _ _ => none) (Fin69 E) = J69_1 E D W N v4b v4o v5b v5o v7 σ := by
  refine (P69_1 E D W N (C69_4 C69_6) C69_5  v4b v4o v5b v5o v7 σ).trans ?_
  simp only [LE69_5]
  kernel_rfl
def J69_3 (E : List (Nat × Blk)) (D : Den) (W : DrawFn) (N : Nat) (R2 : V → Nat → Nat → Nat → Nat → V → V → Int → Int → H → Ans) : V → Nat → Nat → Nat → Nat → V → V → Int → Int → H → Ans := T69_3 E D W R2
theorem JE69_3 (li2 : St → Ans) (v0 : V) (v4b v4o v5b v5o : Nat) (v7 v13 : V) (v14 v15 : Int) (σ : H) :
  denC E D W N C69_3 (S69_3 v0 v4b v4o v5b v5o v7 v13 v14 v15 σ) (fun s'' => keepS [(0, .any), (4, .ptr), (5, .ptr), (7, .any), (13, .any), (14, .i), (15, .i)] [] [] s'' li2) (blkK 0 (fun s' => denC E D W N (.keep [(4, .ptr), (5, .ptr), (7, .any)] [] [] (C69_1 (C69_4 C69_6) C69_5)) s' (Fin69 E) (fun _ _ => none) (Fin69 E)) (fun _ _ => none)) (Fin69 E) = J69_3 E D W N (fun v0 v4b v4o v5b v5o v7 v13 v14 v15 σ => li2 (S69_2 v0 v4b v4o v5b v5o v7 v13 v14 v15 σ)) v0 v4b v4o v5b v5o v7 v13 v14 v15 σ := by
  refine (P69_3 E D W N (C69_1 (C69_4 C69_6) C69_5) li2 v0 v4b v4o v5b v5o v7 v13 v14 v15 σ).trans ?_
  kernel_rfl
def L69_2 (n : Nat) : V → Nat → Nat → Nat → Nat → V → V → Int → Int → H → Ans :=
  Nat.rec (fun _ _ _ _ _ _ _ _ _ _ => none) (fun _ ih => T69_2 E D W (J69_1 E D W N ) (J69_3 E D W N ih)) n
theorem LE69_2 (n : Nat) : ∀ (v0 : V) (v4b v4o v5b v5o : Nat) (v7 v13 : V) (v14 v15 : Int) (σ : H),
  iterK (fun rec s' => denC E D W N (C69_2 C69_3) s' (fun s'' => keepS [(0, .any), (4, .ptr), (5, .ptr), (7, .any), (13, .any), (14, .i), (15, .i)] [] [] s'' rec) (blkK 0 (fun s' => denC E D W N (.keep [(4, .ptr), (5, .ptr), (7, .any)] [] [] (C69_1 (C69_4 C69_6) C69_5)) s' (Fin69 E) (fun _ _ => none) (Fin69 E)) (fun _ _ => none)) (Fin69 E)) n (S69_2 v0 v4b v4o v5b v5o v7 v13 v14 v15 σ) = L69_2 E D W N n v0 v4b v4o v5b v5o v7 v13 v14 v15 σ := by
  induction n with
  | zero => intro v0 v4b v4o v5b v5o v7 v13 v14 v15 σ; rfl
  | succ n ihn =>
    intro v0 v4b v4o v5b v5o v7 v13 v14 v15 σ
    rw [iterK_succ]
    refine (P69_2 E D W N (C69_1 (C69_4 C69_6) C69_5) C69_3 (iterK (fun rec s' => denC E D W N (C69_2 C69_3) s' (fun s'' => keepS [(0, .any), (4, .ptr), (5, .ptr), (7, .any), (13, .any), (14, .i), (15, .i)] [] [] s'' rec) (blkK 0 (fun s' => denC E D W N (.keep [(4, .ptr), (5, .ptr), (7, .any)] [] [] (C69_1 (C69_4 C69_6) C69_5)) s' (Fin69 E) (fun _ _ => none) (Fin69 E)) (fun _ _ => none)) (Fin69 E)) n) v0 v4b v4o v5b v5o v7 v13 v14 v15 σ).trans ?_
    simp only [ihn, JE69_1, JE69_3]
    kernel_rfl
def J69_0 : V → Int → V → Bool → Bool → Bool → Bool → Int → Int → V → V → Int → Bool → Int → Int → Int → V → V → Int → V → H → Ans := T69_0 E D W (L69_2 E D W N N)
theorem JE69_0 (v0 : V) (v1_0 : Int) (v1_1 : V) (v1_2 v1_3 v1_4 v1_5 : Bool) (v1_6 v1_7 : Int) (v1_8 v1_9 : V) (v1_10 : Int) (v1_11 : Bool) (v1_12 v2_0 v2_1 : Int) (v2_2 v2_3 : V) (v2_4 : Int) (v2_5 : V) (σ : H) :
  denC E D W N (C69_0 (C69_1 (C69_4 C69_6) C69_5) (C69_2 C69_3)) (S69_0 v0 v1_0 v1_1 v1_2 v1_3 v1_4 v1_5 v1_6 v1_7 v1_8 v1_9 v1_10 v1_11 v1_12 v2_0 v2_1 v2_2 v2_3 v2_4 v2_5 σ) (Fin69 E) (fun _ _ => none) (Fin69 E) = J69_0 E D W N v0 v1_0 v1_1 v1_2 v1_3 v1_4 v1_5 v1_6 v1_7 v1_8 v1_9 v1_10 v1_11 v1_12 v2_0 v2_1 v2_2 v2_3 v2_4 v2_5 σ := by
  refine (P69_0 E D W N (C69_1 (C69_4 C69_6) C69_5) (C69_2 C69_3)  v0 v1_0 v1_1 v1_2 v1_3 v1_4 v1_5 v1_6 v1_7 v1_8 v1_9 v1_10 v1_11 v1_12 v2_0 v2_1 v2_2 v2_3 v2_4 v2_5 σ).trans ?_
  simp only [LE69_2]
  kernel_rfl
def F69 (args : List V) (σ : H) : Ans :=
 rtCons args fun x1 l2 =>
 rtCons l2 fun x3 l4 =>
 rtAgg x3 fun l5 =>
 rtCons l5 fun x6 l7 =>
 rtInt .i64 x6 fun x8 =>
 rtCons l7 fun x9 l10 =>
 rtCons l10 fun x11 l12 =>
 rtBool x11 fun x13 =>
 rtCons l12 fun x14 l15 =>
 rtBool x14 fun x16 =>
 rtCons l15 fun x17 l18 =>
 rtBool x17 fun x19 =>
 rtCons l18 fun x20 l21 =>
 rtBool x20 fun x22 =>
 rtCons l21 fun x23 l24 =>
 rtInt .i64 x23 fun x25 =>
 rtCons l24 fun x26 l27 =>
 rtInt .i64 x26 fun x28 =>
 rtCons l27 fun x29 l30 =>
 rtCons l30 fun x31 l32 =>
 rtCons l32 fun x33 l34 =>
 rtInt .i64 x33 fun x35 =>
 rtCons l34 fun x36 l37 =>
 rtBool x36 fun x38 =>
 rtCons l37 fun x39 l40 =>
 rtInt .i64 x39 fun x41 =>
 rtNil l40 (
 rtCons l4 fun x42 l43 =>
 rtAgg x42 fun l44 =>
 rtCons l44 fun x45 l46 =>
 rtInt .i64 x45 fun x47 =>
 rtCons l46 fun x48 l49 =>
 rtInt .i64 x48 fun x50 =>
 rtCons l49 fun x51 l52 =>
 rtCons l52 fun x53 l54 =>
 rtCons l54 fun x55 l56 =>
 rtInt .i64 x55 fun x57 =>
 rtCons l56 fun x58 l59 =>
 rtNil l59 (
 rtNil l43 (
 J69_0 E D W N x1 x8 x9 x13 x16 x19 x22 x25 x28 x29 x31 x35 x38 x41 x47 x50 x51 x53 x57 x58 σ)))
def A69 : XFn := ⟨55, [.any, (.agg [.i, .any, .bool, .bool, .bool, .bool, .i, .i, .any, .any, .i, .bool, .i]), (.agg [.i, .i, .any, .any, .i, .any])], [(.tmp 6)], (C69_0 (C69_1 (C69_4 C69_6) C69_5) (C69_2 C69_3))⟩
theorem FE69 (args : List V) (σ : H) : runX E D W N A69 args σ = F69 E D W N args σ := by
  unfold F69
  simp only [← JE69_0]
  kernel_rfl
theorem AO69 : A69.body.ok = true := by kernel_rfl

/-! ### F96: ogham_oghamref04.white -/
def Fin96 (E : List (Nat × Blk)) : St → Ans := fun s => resK E s [(.tmp 4)] fun l => some (oneV l, s.σ)
def C96_0 (cc1 : XC) (cc2 : XC) : XC := (.seq (.ops (.q 4 0<|
.nil))
 (.seq (.block 0 (.loop [(0, .str), (1, .i)] [] [] cc2))
 (.keep [(1, .i)] [] [] cc1)))
def T96_0 (E : List (Nat × Blk)) (D : Den) (W : DrawFn) (K2 : BS → Int → H → Ans) (v0 : BS) (v1 : Int) (σ : H) : Ans :=
 K2 v0 v1 σ
def C96_1 : XC := (.seq (.ops (.m 74 1<|
.m 4 74<|
.nil))
 .ret)
def T96_1 (E : List (Nat × Blk)) (D : Den) (W : DrawFn) (v1 : Int) (σ : H) : Ans :=
 some ((V.int .i64 v1), σ)
def C96_2 (cc3 : XC) : XC := (.seq (.seq (.ops (.m 5 1<|
.m 6 0<|
.p 7 [6] (.len true (.t 6))<|
.b 8 .lss .none (.t 5) (.t 7)<|
.nil))
 (.cond (.tmp 8) .skip
 (.exit 0)))
 (.block 1 (.block 2 (.seq (.ops (.m 11 0<|
.m 12 1<|
.p 13 [11, 12] (.idxStr (.t 11) (.t 12))<|
.b 14 .eql .none (.t 13) (.con (V.int .u8 (Int.ofNat 32)))<|
.m 15 14<|
.grp 15 false (.p 16 [0, 15] (.mov (.t 0))<|
.p 17 [1, 15] (.mov (.t 1))<|
.p 18 [16, 17, 15] (.idxStr (.t 16) (.t 17))<|
.p 19 [18, 15] (.bin .eql .none (.t 18) (.con (V.int .u8 (Int.ofNat 9))))<|
.nil) 20 [15, 19] (.t 15) (.con (V.bool true)) (.t 19)<|
.m 21 20<|
.grp 21 false (.p 22 [0, 21] (.mov (.t 0))<|
.p 23 [1, 21] (.mov (.t 1))<|
.p 24 [22, 23, 21] (.idxStr (.t 22) (.t 23))<|
.p 25 [24, 21] (.bin .eql .none (.t 24) (.con (V.int .u8 (Int.ofNat 10))))<|
.nil) 26 [21, 25] (.t 21) (.con (V.bool true)) (.t 25)<|
.m 27 26<|
.grp 27 false (.p 28 [0, 27] (.mov (.t 0))<|
.p 29 [1, 27] (.mov (.t 1))<|
.p 30 [28, 29, 27] (.idxStr (.t 28) (.t 29))<|
.p 31 [30, 27] (.bin .eql .none (.t 30) (.con (V.int .u8 (Int.ofNat 13))))<|
.nil) 32 [27, 31] (.t 27) (.con (V.bool true)) (.t 31)<|
.m 10 32<|
.nil))
 (.cond (.tmp 10) (.ops (.m 33 1<|
.b 34 .add .none (.t 33) (.i 1)<|
.m 1 34<|
.nil))
 (.seq (.ops (.m 36 0<|
.m 37 1<|
.p 38 [36, 37] (.idxStr (.t 36) (.t 37))<|
.b 39 .eql .none (.t 38) (.con (V.int .u8 (Int.ofNat 45)))<|
.m 40 39<|
.grp 40 true (.p 41 [0, 40] (.mov (.t 0))<|
.p 42 [1, 40] (.mov (.t 1))<|
.p 43 [42, 40] (.bin .add .none (.t 42) (.i 1))<|
.op (some 44) (.int .u8) [41, 43, 40] (.call 138 [(.t 41), (.t 43)])<|
.p 45 [44, 40] (.bin .eql .none (.t 44) (.con (V.int .u8 (Int.ofNat 45))))<|
.nil) 46 [40, 45] (.t 40) (.t 45) (.con (V.bool false))<|
.m 35 46<|
.nil))
 (.cond (.tmp 35) (.seq (.ops (.m 47 1<|
.b 48 .add .none (.t 47) (.i 2)<|
.m 1 48<|
.nil))
 (.block 3 (.loop [(0, .str), (1, .i)] [] [] cc3)))
 (.seq (.ops (.m 9 1<|
.m 4 9<|
.nil))
 .ret))))))))
def T96_2 (E : List (Nat × Blk)) (D : Den) (W : DrawFn) (K1 : Int → H → Ans) (K3 : BS → Int → H → Ans) (R2 : BS → Int → H → Ans) (v0 : BS) (v1 : Int) (σ : H) : Ans :=
 condK (ltF v1 (Int.ofNat (BS.len v0))) (
 idxStrX v0 v1 fun x1 =>
 joinB (fun c2 s3 =>
 joinB (fun c5 s6 =>
 joinB (fun c8 s9 =>
 condK c8 (
 R2 v0 (addF .i64 v1 (Int.ofNat 1)) s9) (
 idxStrX v0 v1 fun x11 =>
 joinB (fun c12 s13 =>
 condK c12 (
 K3 v0 (addF .i64 v1 (Int.ofNat 2)) s13) (
 some ((V.int .i64 v1), s13))) fun k14 =>
 condK (eqF x11 (Int.ofNat 45)) (
 callK (D 138 [(V.str v0), (V.int .i64 (addF .i64 v1 (Int.ofNat 1)))] s9) fun u15 s16 =>
 rtInt .u8 u15 fun x17 =>
 k14 (eqF x17 (Int.ofNat 45)) s16) (
 k14 false s9))) fun k10 =>
 condK c5 (
 k10 true s6) (
 idxStrX v0 v1 fun x18 =>
 k10 (eqF x18 (Int.ofNat 13)) s6)) fun k7 =>
 condK c2 (
 k7 true s3) (
 idxStrX v0 v1 fun x19 =>
 k7 (eqF x19 (Int.ofNat 10)) s3)) fun k4 =>
 condK (eqF x1 (Int.ofNat 32)) (
 k4 true σ) (
 idxStrX v0 v1 fun x20 =>
 k4 (eqF x20 (Int.ofNat 9)) σ)) (
 K1 v1 σ)
def C96_3 : XC := (.seq (.seq (.ops (.m 49 1<|
.m 50 0<|
.p 51 [50] (.len true (.t 50))<|
.b 52 .lss .none (.t 49) (.t 51)<|
.m 53 52<|
.grp 53 true (.p 54 [0, 53] (.mov (.t 0))<|
.p 55 [1, 53] (.mov (.t 1))<|
.p 56 [54, 55, 53] (.idxStr (.t 54) (.t 55))<|
.p 57 [56, 53] (.bin .neq .none (.t 56) (.con (V.int .u8 (Int.ofNat 10))))<|
.nil) 58 [53, 57] (.t 53) (.t 57) (.con (V.bool false))<|
.nil))
 (.cond (.tmp 58) .skip
 (.exit 3)))
 (.block 4 (.seq (.seq (.ops (.m 59 0<|
.m 60 1<|
.p 61 [59, 60] (.idxStr (.t 59) (.t 60))<|
.b 62 .eql .none (.t 61) (.con (V.int .u8 (Int.ofNat 45)))<|
.m 63 62<|
.grp 63 true (.p 64 [0, 63] (.mov (.t 0))<|
.p 65 [1, 63] (.mov (.t 1))<|
.p 66 [65, 63] (.bin .add .none (.t 65) (.i 1))<|
.op (some 67) (.int .u8) [64, 66, 63] (.call 138 [(.t 64), (.t 66)])<|
.p 68 [67, 63] (.bin .eql .none (.t 67) (.con (V.int .u8 (Int.ofNat 45))))<|
.nil) 69 [63, 68] (.t 63) (.t 68) (.con (V.bool false))<|
.nil))
 (.cond (.tmp 69) (.seq (.ops (.m 70 1<|
.b 71 .add .none (.t 70) (.i 2)<|
.m 1 71<|
.nil))
 (.exit 3))
 .skip))
 (.ops (.m 72 1<|
.b 73 .add .none (.t 72) (.i 1)<|
.m 1 73<|
.nil)))))
def T96_3 (E : List (Nat × Blk)) (D : Den) (W : DrawFn) (R2 : BS → Int → H → Ans) (R3 : BS → Int → H → Ans) (v0 : BS) (v1 : Int) (σ : H) : Ans :=
 joinB (fun c1 s2 =>
 condK c1 (
 idxStrX v0 v1 fun x4 =>
 joinB (fun c5 s6 =>
 condK c5 (
 R2 v0 (addF .i64 v1 (Int.ofNat 2)) s6) (
 R3 v0 (addF .i64 v1 (Int.ofNat 1)) s6)) fun k7 =>
 condK (eqF x4 (Int.ofNat 45)) (
 callK (D 138 [(V.str v0), (V.int .i64 (addF .i64 v1 (Int.ofNat 1)))] s2) fun u8 s9 =>
 rtInt .u8 u8 fun x10 =>
 k7 (eqF x10 (Int.ofNat 45)) s9) (
 k7 false s2)) (
 R2 v0 v1 s2)) fun k3 =>
 condK (ltF v1 (Int.ofNat (BS.len v0))) (
 idxStrX v0 v1 fun x11 =>
 k3 (not (eqF x11 (Int.ofNat 10))) σ) (
 k3 false σ)
def S96_0 (v0 : BS) (v1 : Int) (σ : H) : St := ⟨[(0, (V.str v0)), (1, (V.int .i64 v1))], [], [], σ⟩
def S96_1 (v1 : Int) (σ : H) : St := ⟨[(1, (V.int .i64 v1))], [], [], σ⟩
def S96_2 (v0 : BS) (v1 : Int) (σ : H) : St := ⟨[(0, (V.str v0)), (1, (V.int .i64 v1))], [], [], σ⟩
def S96_3 (v0 : BS) (v1 : Int) (σ : H) : St := ⟨[(0, (V.str v0)), (1, (V.int .i64 v1))], [], [], σ⟩
theorem P96_0 (cc1 : XC) (cc2 : XC) (v0 : BS) (v1 : Int) (σ : H) :
  denC E D W N (C96_0 cc1 cc2) (S96_0 v0 v1 σ) (Fin96 E) (fun _ _ => none) (Fin96 E) =
  T96_0 E D W (fun v0 v1 σ => iterK (fun rec s' => denC E D W N cc2 s' (fun s'' => keepS [(0, .str), (1, .i)] [] [] s'' rec) (blkK 0 (fun s' => denC E D W N (.keep [(1, .i)] [] [] cc1) s' (Fin96 E) (fun _ _ => none) (Fin96 E)) (fun _ _ => none)) (Fin96 E)) N (S96_2 v0 v1 σ)) v0 v1 σ := by kernel_rfl
theorem P96_1 (v1 : Int) (σ : H) :
  denC E D W N (C96_1 ) (S96_1 v1 σ) (Fin96 E) (fun _ _ => none) (Fin96 E) =
  T96_1 E D W  v1 σ := by kernel_rfl
theorem P96_2 (cc1 : XC) (cc3 : XC) (li2 : St → Ans) (v0 : BS) (v1 : Int) (σ : H) :
  denC E D W N (C96_2 cc3) (S96_2 v0 v1 σ) (fun s'' => keepS [(0, .str), (1, .i)] [] [] s'' li2) (blkK 0 (fun s' => denC E D W N (.keep [(1, .i)] [] [] cc1) s' (Fin96 E) (fun _ _ => none) (Fin96 E)) (fun _ _ => none)) (Fin96 E) =
  T96_2 E D W (fun v1 σ => denC E D W N cc1 (S96_1 v1 σ) (Fin96 E) (fun _ _ => none) (Fin96 E)) (fun v0 v1 σ => iterK (fun rec s' => denC E D W N cc3 s' (fun s'' => keepS [(0, .str), (1, .i)] [] [] s'' rec) (blkK 3 (fun s'' => keepS [(0, .str), (1, .i)] [] [] s'' li2) (blkK 2 (fun s'' => keepS [(0, .str), (1, .i)] [] [] s'' li2) (blkK 1 (fun s'' => keepS [(0, .str), (1, .i)] [] [] s'' li2) (blkK 0 (fun s' => denC E D W N (.keep [(1, .i)] [] [] cc1) s' (Fin96 E) (fun _ _ => none) (Fin96 E)) (fun _ _ => none))))) (Fin96 E)) N (S96_3 v0 v1 σ)) (fun v0 v1 σ => li2 (S96_2 v0 v1 σ)) v0 v1 σ := by kernel_rfl
theorem P96_3 (cc1 : XC) (li2 : St → Ans) (li3 : St → Ans) (v0 : BS) (v1 : Int) (σ : H) :
  denC E D W N (C96_3 ) (S96_3 v0 v1 σ) (fun s'' => keepS [(0, .str), (1, .i)] [] [] s'' li3) (blkK 3 (fun s'' => keepS [(0, .str), (1, .i)] [] [] s'' li2) (blkK 2 (fun s'' => keepS [(0, .str), (1, .i)] [] [] s'' li2) (blkK 1 (fun s'' => keepS [(0, .str), (1, .i)] [] [] s'' li2) (blkK 0 (fun s' => denC E D W N (.keep [(1, .i)] [] [] cc1) s' (Fin96 E) (fun _ _ => none) (Fin96 E)) (fun _ _ => none))))) (Fin96 E) =
  T96_3 E D W (fun v0 v1 σ => li2 (S96_2 v0 v1 σ)) (fun v0 v1 σ => li3 (S96_3 v0 v1 σ)) v0 v1 σ := by kernel_rfl
def J96_1 (E : List (Nat × Blk)) (D : Den) (W : DrawFn) (N : Nat) : Int → H → Ans := T96_1 E D W 
theorem JE96_1 (v1 : Int) (σ : H) :
  denC E D W N C96_1 (S96_1 v1 σ) (Fin96 E) (fun _ _ => none) (Fin96 E) = J96_1 E D W N v1 σ := by
  refine (P96_1 E D W N   v1 σ).trans ?_
  kernel_rfl
def L96_3 (E : List (Nat × Blk)) (D : Den) (W : DrawFn) (N : Nat) (R2 : BS → Int → H → Ans) (n : Nat) : BS → Int → H → Ans :=
  Nat.rec (fun _ _ _ => none) (fun _ ih => T96_3 E D W R2 ih) n
theorem LE96_3 (li2 : St → Ans) (n : Nat) : ∀ (v0 : BS) (v1 : Int) (σ : H),
  iterK (fun rec s' => denC E D W N C96_3 s' (fun s'' => keepS [(0, .str), (1, .i)] [] [] s'' rec) (blkK 3 (fun s'' => keepS [(0, .str), (1, .i)] [] [] s'' li2) (blkK 2 (fun s'' => keepS [(0, .str), (1, .i)] [] [] s'' li2) (blkK 1 (fun s'' => keepS [(0, .str), (1, .i)] [] [] s'' li2) (blkK 0 (fun s' => denC E D W N (.keep [(1, .i)] [] [] C96_1) s' (Fin96 E) (fun _ _ => none) (Fin96 E)) (fun _ _ => none))))) (Fin96 E)) n (S96_3 v0 v1 σ) = L96_3 E D W N (fun v0 v1 σ => li2 (S96_2 v0 v1 σ)) n v0 v1 σ := by
  induction n with
  | zero => intro v0 v1 σ; rfl
  | succ n ihn =>
    intro v0 v1 σ
    rw [iterK_succ]
    refine (P96_3 E D W N C96_1 li2 (iterK (fun rec s' => denC E D W N C96_3 s' (fun s'' => keepS [(0, .str), (1, .i)] [] [] s'' rec) (blkK 3 (fun s'' => keepS [(0, .str), (1, .i)] [] [] s'' li2) (blkK 2 (fun s'' => keepS [(0, .str), (1, .i)] [] [] s'' li2) (blkK 1 (fun s'' => keepS [(0, .str), (1, .i)] [] [] s'' li2) (blkK 0 (fun s' => denC E D W N (.keep [(1, .i)] [] [] C96_1) s' (Fin96 E) (fun _ _ => none) (Fin96 E)) (fun _ _ => none))))) (Fin96 E)) n) v0 v1 σ).trans ?_
    simp only [ihn]
    kernel_rfl
def L96_2 (n : Nat) : BS → Int → H → Ans :=
  Nat.rec (fun _ _ _ => none) (fun _ ih => T96_2 E D W (J96_1 E D W N ) (L96_3 E D W N ih N) ih) n
theorem LE96_2 (n : Nat) : ∀ (v0 : BS) (v1 : Int) (σ : H),
  iterK (fun rec s' => denC E D W N (C96_2 C96_3) s' (fun s'' => keepS [(0, .str), (1, .i)] [] [] s'' rec) (blkK 0 (fun s' => denC E D W N (.keep [(1, .i)] [] [] C96_1) s' (Fin96 E) (fun _ _ => none) (Fin96 E)) (fun _ _ => none)) (Fin96 E)) n (S96_2 v0 v1 σ) = L96_2 E D W N n v0 v1 σ := by
  induction n with
  | zero => intro v0 v1 σ; rfl
  | succ n ihn =>
    intro v0 v1 σ
    rw [iterK_succ]
    refine (P96_2 E D W N C96_1 C96_3 (iterK (fun rec s' => denC E D W N (C96_2 C96_3) s' (fun s'' => keepS [(0, .str), (1, .i)] [] [] s'' rec) (blkK 0 (fun s' => denC E D W N (.keep [(1, .i)] [] [] C96_1) s' (Fin96 E) (fun _ _ => none) (Fin96 E)) (fun _ _ => none)) (Fin96 E)) n) v0 v1 σ).trans ?_
    simp only [ihn, JE96_1, LE96_3]
    kernel_rfl
def J96_0 : BS → Int → H → Ans := T96_0 E D W (L96_2 E D W N N)
theorem JE96_0 (v0 : BS) (v1 : Int) (σ : H) :
  denC E D W N (C96_0 C96_1 (C96_2 C96_3)) (S96_0 v0 v1 σ) (Fin96 E) (fun _ _ => none) (Fin96 E) = J96_0 E D W N v0 v1 σ := by
  refine (P96_0 E D W N C96_1 (C96_2 C96_3)  v0 v1 σ).trans ?_
  simp only [LE96_2]
  kernel_rfl
def F96 (args : List V) (σ : H) : Ans :=
 rtCons args fun x1 l2 =>
 rtStr x1 fun x3 =>
 rtCons l2 fun x4 l5 =>
 rtInt .i64 x4 fun x6 =>
 rtNil l5 (
 J96_0 E D W N x3 x6 σ)
def A96 : XFn := ⟨75, [.str, .i], [(.tmp 4)], (C96_0 C96_1 (C96_2 C96_3))⟩
theorem FE96 (args : List V) (σ : H) : runX E D W N A96 args σ = F96 E D W N args σ := by
  unfold F96
  simp only [← JE96_0]
  kernel_rfl
theorem AO96 : A96.body.ok = true := by kernel_rfl

/-! ### F97: ogham_oghamref04.one -/
def Fin97 (E : List (Nat × Blk)) : St → Ans := fun s => resK E s [(.cell 4 (some 3)), (.tmp 5)] fun l => some (oneV l, s.σ)
def C97_0 (cc1 : XC) (cc2 : XC) : XC := (.seq (.ops (.pal 4 [] 115 [(V.int .i64 (Int.ofNat 0)), (V.str ⟨0, 0⟩), (V.int .i64 (Int.ofNat 0))]<|
.q 5 0<|
.nil))
 (.seq (.ops (.m 10 1<|
.op (some 11) (.agg [.i, .str, .i]) [10] (.build [(V.int .i64 (Int.ofNat 0)), (V.str ⟨0, 0⟩), (V.int .i64 (Int.ofNat 0))] [(2, 1, (.t 10))])<|
.pal 6 [] 115 [(V.int .i64 (Int.ofNat 0)), (V.str ⟨0, 0⟩), (V.int .i64 (Int.ofNat 0))]<|
.op none (.agg [.i, .str, .i]) [6, 11] (.store 3 (.t 6) (.t 11))<|
.nil))
 (.seq (.ops (.m 12 0<|
.m 13 1<|
.p 14 [12, 13] (.idxStr (.t 12) (.t 13))<|
.m 7 14<|
.nil))
 (.seq (.ops (.c 8 (V.int .i64 (Int.negSucc 0))<|
.nil))
 (.seq (.block 0 (.seq (.ops (.m 32 7<|
.k 33 .bool 139 [(.t 32)]<|
.m 31 33<|
.nil))
 (.cond (.tmp 31) (.seq (.ops (.m 34 0<|
.m 35 1<|
.k 36 .i 140 [(.t 34), (.t 35)]<|
.m 8 36<|
.nil))
 (.seq (.seq (.ops (.m 37 8<|
.b 38 .lss .none (.t 37) (.i 0)<|
.nil))
 (.cond (.tmp 38) (.seq (.ops (.op (some 39) (.agg [.i, .str, .i]) [6] (.load (some 3) (.t 6))<|
.op none (.agg [.i, .str, .i]) [4, 39] (.store 3 (.t 4) (.t 39))<|
.c 5 (V.int .i64 (Int.negSucc 0))<|
.nil))
 .ret)
 .skip))
 (.seq (.draw (.m 40 0<|
.m 41 1<|
.m 42 8<|
.p 43 [40, 41, 42] (.sliceStr (.t 40) (some (.t 41)) (some (.t 42)))<|
.f 44 0 6<|
.op none .any [44] (.store 1 (.t 44) (.i 2))<|
.f 45 1 6<|
.w 1 45 43<|
.nil) [0, 0, 0, 7, 0, 16, 63, 127])
 (.seq (.seq (.ops (.m 46 7<|
.b 47 .leq .none (.t 46) (.con (V.int .u8 (Int.ofNat 90)))<|
.nil))
 (.cond (.tmp 47) (.ops (.f 48 0 6<|
.op none .any [48] (.store 1 (.t 48) (.i 1))<|
.nil))
 .skip))
 (.keep [(8, .i)] [4, 6] [(4, [.i, .str, .i]), (6, [.i, .str, .i])] cc2)))))
 (.seq (.ops (.m 54 7<|
.k 55 .bool 142 [(.t 54)]<|
.m 56 55<|
.grp 56 false (.p 57 [7, 56] (.mov (.t 7))<|
.p 58 [57, 56] (.bin .eql .none (.t 57) (.con (V.int .u8 (Int.ofNat 45))))<|
.p 59 [58, 56] (.mov (.t 58))<|
.grp 59 true (.p 60 [0, 59] (.mov (.t 0))<|
.p 61 [1, 59] (.mov (.t 1))<|
.p 62 [61, 59] (.bin .add .none (.t 61) (.i 1))<|
.op (some 63) (.int .u8) [60, 62, 59] (.call 138 [(.t 60), (.t 62)])<|
.op (some 64) .bool [63, 59] (.call 142 [(.t 63)])<|
.nil) 65 [59, 64, 56] (.t 59) (.t 64) (.con (V.bool false))<|
.nil) 66 [56, 65] (.t 56) (.con (V.bool true)) (.t 65)<|
.m 53 66<|
.nil))
 (.cond (.tmp 53) (.seq (.ops (.m 67 0<|
.m 68 1<|
.k 69 .i 143 [(.t 67), (.t 68)]<|
.m 8 69<|
.nil))
 (.seq (.seq (.ops (.m 70 8<|
.b 71 .lss .none (.t 70) (.i 0)<|
.nil))
 (.cond (.tmp 71) (.seq (.ops (.op (some 72) (.agg [.i, .str, .i]) [6] (.load (some 3) (.t 6))<|
.op none (.agg [.i, .str, .i]) [4, 72] (.store 3 (.t 4) (.t 72))<|
.c 5 (V.int .i64 (Int.negSucc 0))<|
.nil))
 .ret)
 .skip))
 (.draw (.m 73 0<|
.m 74 1<|
.m 75 8<|
.p 76 [73, 74, 75] (.sliceStr (.t 73) (some (.t 74)) (some (.t 75)))<|
.f 77 0 6<|
.op none .any [77] (.store 1 (.t 77) (.i 3))<|
.f 78 1 6<|
.w 1 78 76<|
.nil) [0, 0, 0, 7, 0, 16, 63, 127])))
 (.seq (.ops (.m 80 7<|
.b 81 .eql .none (.t 80) (.con (V.int .u8 (Int.ofNat 39)))<|
.m 79 81<|
.nil))
 (.cond (.tmp 79) (.seq (.ops (.f 82 0 6<|
.op none .any [82] (.store 1 (.t 82) (.i 4))<|
.nil))
 (.ops (.m 84 0<|
.m 85 1<|
.k 86 (.tup [.i, .str]) 144 [(.t 84), (.t 85)]<|
.m 83 86<|
.p 87 [83] (.extract 0 (.t 83))<|
.p 88 [83] (.extract 1 (.t 83))<|
.m 8 87<|
.f 89 1 6<|
.w 1 89 88<|
.nil)))
 (.seq (.ops (.m 91 7<|
.b 92 .eql .none (.t 91) (.con (V.int .u8 (Int.ofNat 34)))<|
.m 90 92<|
.nil))
 (.cond (.tmp 90) (.seq (.ops (.f 93 0 6<|
.op none .any [93] (.store 1 (.t 93) (.i 7))<|
.nil))
 (.ops (.m 95 0<|
.m 96 1<|
.k 97 (.tup [.i, .str]) 145 [(.t 95), (.t 96)]<|
.m 94 97<|
.p 98 [94] (.extract 0 (.t 94))<|
.p 99 [94] (.extract 1 (.t 94))<|
.m 8 98<|
.f 100 1 6<|
.w 1 100 99<|
.nil)))
 (.seq (.ops (.m 15 0<|
.m 16 1<|
.k 17 .i 146 [(.t 15), (.t 16)]<|
.m 9 17<|
.nil))
 (.seq (.ops (.m 18 9<|
.b 19 .gtr .none (.t 18) (.i 0)<|
.nil))
 (.cond (.tmp 19) (.draw (.m 20 0<|
.m 21 1<|
.m 22 1<|
.m 23 9<|
.b 24 .add .none (.t 22) (.t 23)<|
.p 25 [20, 21, 24] (.sliceStr (.t 20) (some (.t 21)) (some (.t 24)))<|
.m 26 1<|
.m 27 9<|
.b 28 .add .none (.t 26) (.t 27)<|
.f 29 0 6<|
.op none .any [29] (.store 1 (.t 29) (.i 6))<|
.f 30 1 6<|
.w 1 30 25<|
.m 8 28<|
.nil) [0, 0, 0, 0, 12, 31, 0, 0, 192, 0, 512, 1599, 3647, 8191])
 .skip))))))))))))
 (.keep [(8, .i)] [4, 6] [(4, [.i, .str, .i]), (6, [.i, .str, .i])] cc1))))))
def T97_0 (E : List (Nat × Blk)) (D : Den) (W : DrawFn) (K1 : Int → Int → BS → Int → Int → BS → Int → H → Ans) (K2 : Int → Int → BS → Int → Int → BS → Int → H → Ans) (v0 : BS) (v1 : Int) (σ : H) : Ans :=
 idxStrX v0 v1 fun x1 =>
 callK (D 139 [(V.int .u8 x1)] σ) fun u2 s3 =>
 rtBool u2 fun x4 =>
 condK x4 (
 callK (D 140 [(V.str v0), (V.int .i64 v1)] s3) fun u5 s6 =>
 rtInt .i64 u5 fun x7 =>
 condK (ltF x7 (Int.ofNat 0)) (
 some ((V.tup [(V.agg [(V.int .i64 (Int.ofNat 0)), (V.str (BS.mk 0 0)), (V.int .i64 v1)]), (V.int .i64 (Int.negSucc 0))]), s6)) (
 sliceStrX v0 (some (V.int .i64 v1)) (some (V.int .i64 x7)) fun t8 =>
 condK (leF x1 (Int.ofNat 90)) (
 K2 x7 (Int.ofNat 0) (BS.mk 0 0) (Int.ofNat 0) (Int.ofNat 1) t8 v1 s6) (
 K2 x7 (Int.ofNat 0) (BS.mk 0 0) (Int.ofNat 0) (Int.ofNat 2) t8 v1 s6))) (
 callK (D 142 [(V.int .u8 x1)] s3) fun u9 s10 =>
 rtBool u9 fun x11 =>
 joinB (fun c12 s13 =>
 condK c12 (
 callK (D 143 [(V.str v0), (V.int .i64 v1)] s13) fun u15 s16 =>
 rtInt .i64 u15 fun x17 =>
 condK (ltF x17 (Int.ofNat 0)) (
 some ((V.tup [(V.agg [(V.int .i64 (Int.ofNat 0)), (V.str (BS.mk 0 0)), (V.int .i64 v1)]), (V.int .i64 (Int.negSucc 0))]), s16)) (
 sliceStrX v0 (some (V.int .i64 v1)) (some (V.int .i64 x17)) fun t18 =>
 K1 x17 (Int.ofNat 0) (BS.mk 0 0) (Int.ofNat 0) (Int.ofNat 3) t18 v1 s16)) (
 condK (eqF x1 (Int.ofNat 39)) (
 callK (D 144 [(V.str v0), (V.int .i64 v1)] s13) fun u19 s20 =>
 rtTup u19 fun l21 =>
 rtCons l21 fun x22 l23 =>
 rtInt .i64 x22 fun x24 =>
 rtCons l23 fun x25 l26 =>
 rtStr x25 fun x27 =>
 rtNil l26 (
 K1 x24 (Int.ofNat 0) (BS.mk 0 0) (Int.ofNat 0) (Int.ofNat 4) x27 v1 s20)) (
 condK (eqF x1 (Int.ofNat 34)) (
 callK (D 145 [(V.str v0), (V.int .i64 v1)] s13) fun u28 s29 =>
 rtTup u28 fun l30 =>
 rtCons l30 fun x31 l32 =>
 rtInt .i64 x31 fun x33 =>
 rtCons l32 fun x34 l35 =>
 rtStr x34 fun x36 =>
 rtNil l35 (
 K1 x33 (Int.ofNat 0) (BS.mk 0 0) (Int.ofNat 0) (Int.ofNat 7) x36 v1 s29)) (
 callK (D 146 [(V.str v0), (V.int .i64 v1)] s13) fun u37 s38 =>
 rtInt .i64 u37 fun x39 =>
 condK (ltF (Int.ofNat 0) x39) (
 sliceStrX v0 (some (V.int .i64 v1)) (some (V.int .i64 (addF .i64 v1 x39))) fun t40 =>
 K1 (addF .i64 v1 x39) (Int.ofNat 0) (BS.mk 0 0) (Int.ofNat 0) (Int.ofNat 6) t40 v1 s38) (
 K1 (Int.negSucc 0) (Int.ofNat 0) (BS.mk 0 0) (Int.ofNat 0) (Int.ofNat 0) (BS.mk 0 0) v1 s38))))) fun k14 =>
 condK x11 (
 k14 true s10) (
 joinB (fun c41 s42 =>
 k14 c41 s42) fun k43 =>
 condK (eqF x1 (Int.ofNat 45)) (
 callK (D 138 [(V.str v0), (V.int .i64 (addF .i64 v1 (Int.ofNat 1)))] s10) fun u44 s45 =>
 rtInt .u8 u44 fun x46 =>
 callK (D 142 [(V.int .u8 x46)] s45) fun u47 s48 =>
 rtBool u47 fun x49 =>
 k43 x49 s48) (
 k43 false s10)))
def C97_1 : XC := (.seq (.ops (.op (some 101) (.agg [.i, .str, .i]) [6] (.load (some 3) (.t 6))<|
.m 102 8<|
.op none (.agg [.i, .str, .i]) [4, 101] (.store 3 (.t 4) (.t 101))<|
.m 5 102<|
.nil))
 .ret)
def T97_1 (E : List (Nat × Blk)) (D : Den) (W : DrawFn) (v8 r4_0 : Int) (r4_1 : BS) (r4_2 r6_0 : Int) (r6_1 : BS) (r6_2 : Int) (σ : H) : Ans :=
 some ((V.tup [(V.agg [(V.int .i64 r6_0), (V.str r6_1), (V.int .i64 r6_2)]), (V.int .i64 v8)]), σ)
def C97_2 : XC := (.seq (.ops (.f 49 1 6<|
.l 50 .str 49<|
.k 51 .bool 141 [(.t 50)]<|
.nil))
 (.cond (.tmp 51) (.ops (.f 52 0 6<|
.op none .any [52] (.store 1 (.t 52) (.i 5))<|
.nil))
 .skip))
def T97_2 (E : List (Nat × Blk)) (D : Den) (W : DrawFn) (K1 : Int → Int → BS → Int → Int → BS → Int → H → Ans) (v8 r4_0 : Int) (r4_1 : BS) (r4_2 r6_0 : Int) (r6_1 : BS) (r6_2 : Int) (σ : H) : Ans :=
 callK (D 141 [(V.str r6_1)] σ) fun u1 s2 =>
 rtBool u1 fun x3 =>
 condK x3 (
 K1 v8 r4_0 r4_1 r4_2 (Int.ofNat 5) r6_1 r6_2 s2) (
 K1 v8 r4_0 r4_1 r4_2 r6_0 r6_1 r6_2 s2)
def S97_0 (v0 : BS) (v1 : Int) (σ : H) : St := ⟨[(0, (V.str v0)), (1, (V.int .i64 v1))], [], [], σ⟩
def S97_1 (v8 r4_0 : Int) (r4_1 : BS) (r4_2 r6_0 : Int) (r6_1 : BS) (r6_2 : Int) (σ : H) : St := ⟨[(8, (V.int .i64 v8))], [(4, (4, 0)), (6, (6, 0))], [(4, [(V.int .i64 r4_0), (V.str r4_1), (V.int .i64 r4_2)]), (6, [(V.int .i64 r6_0), (V.str r6_1), (V.int .i64 r6_2)])], σ⟩
def S97_2 (v8 r4_0 : Int) (r4_1 : BS) (r4_2 r6_0 : Int) (r6_1 : BS) (r6_2 : Int) (σ : H) : St := ⟨[(8, (V.int .i64 v8))], [(4, (4, 0)), (6, (6, 0))], [(4, [(V.int .i64 r4_0), (V.str r4_1), (V.int .i64 r4_2)]), (6, [(V.int .i64 r6_0), (V.str r6_1), (V.int .i64 r6_2)])], σ⟩
theorem P97_0 (cc1 : XC) (cc2 : XC) (v0 : BS) (v1 : Int) (σ : H) :
  denC E D W N (C97_0 cc1 cc2) (S97_0 v0 v1 σ) (Fin97 E) (fun _ _ => none) (Fin97 E) =
  T97_0 E D W (fun v8 r4_0 r4_1 r4_2 r6_0 r6_1 r6_2 σ => denC E D W N cc1 (S97_1 v8 r4_0 r4_1 r4_2 r6_0 r6_1 r6_2 σ) (Fin97 E) (fun _ _ => none) (Fin97 E)) (fun v8 r4_0 r4_1 r4_2 r6_0 r6_1 r6_2 σ => denC E D W N cc2 (S97_2 v8 r4_0 r4_1 r4_2 r6_0 r6_1 r6_2 σ) (fun s' => denC E D W N (.keep [(8, .i)] [4, 6] [(4, [.i, .str, .i]), (6, [.i, .str, .i])] cc1) s' (Fin97 E) (fun _ _ => none) (Fin97 E)) (blkK 0 (fun s' => denC E D W N (.keep [(8, .i)] [4, 6] [(4, [.i, .str, .i]), (6, [.i, .str, .i])] cc1) s' (Fin97 E) (fun _ _ => none) (Fin97 E)) (fun _ _ => none)) (Fin97 E)) v0 v1 σ := by kernel_rfl
theorem P97_1 (v8 r4_0 : Int) (r4_1 : BS) (r4_2 r6_0 : Int) (r6_1 : BS) (r6_2 : Int) (σ : H) :
  denC E D W N (C97_1 ) (S97_1 v8 r4_0 r4_1 r4_2 r6_0 r6_1 r6_2 σ) (Fin97 E) (fun _ _ => none) (Fin97 E) =
  T97_1 E D W  v8 r4_0 r4_1 r4_2 r6_0 r6_1 r6_2 σ := by kernel_rfl
theorem P97_2 (cc1 : XC) (v8 r4_0 : Int) (r4_1 : BS) (r4_2 r6_0 : Int) (r6_1 : BS) (r6_2 : Int) (σ : H) :
  denC E D W N (C97_2 ) (S97_2 v8 r4_0 r4_1 r4_2 r6_0 r6_1 r6_2 σ) (fun s' => denC E D W N (.keep [(8, .i)] [4, 6] [(4, [.i, .str, .i]), (6, [.i, .str, .i])] cc1) s' (Fin97 E) (fun _ _ => none) (Fin97 E)) (blkK 0 (fun s' => denC E D W N (.keep [(8, .i)] [4, 6] [(4, [.i, .str, .i]), (6, [.i, .str, .i])] cc1) s' (Fin97 E) (fun _ _ => none) (Fin97 E)) (fun _ _ => none)) (Fin97 E) =
  T97_2 E D W (fun v8 r4_0 r4_1 r4_2 r6_0 r6_1 r6_2 σ => denC E D W N cc1 (S97_1 v8 r4_0 r4_1 r4_2 r6_0 r6_1 r6_2 σ) (Fin97 E) (fun _ _ => none) (Fin97 E)) v8 r4_0 r4_1 r4_2 r6_0 r6_1 r6_2 σ := by kernel_rfl
def J97_1 (E : List (Nat × Blk)) (D : Den) (W : DrawFn) (N : Nat) : Int → Int → BS → Int → Int → BS → Int → H → Ans := T97_1 E D W 
theorem JE97_1 (v8 r4_0 : Int) (r4_1 : BS) (r4_2 r6_0 : Int) (r6_1 : BS) (r6_2 : Int) (σ : H) :
  denC E D W N C97_1 (S97_1 v8 r4_0 r4_1 r4_2 r6_0 r6_1 r6_2 σ) (Fin97 E) (fun _ _ => none) (Fin97 E) = J97_1 E D W N v8 r4_0 r4_1 r4_2 r6_0 r6_1 r6_2 σ := by
  refine (P97_1 E D W N   v8 r4_0 r4_1 r4_2 r6_0 r6_1 r6_2 σ).trans ?_
  kernel_rfl
def J97_2 : Int → Int → BS → Int → Int → BS → Int → H → Ans := T97_2 E D W (J97_1 E D W N )
theorem JE97_2 (v8 r4_0 : Int) (r4_1 : BS) (r4_2 r6_0 : Int) (r6_1 : BS) (r6_2 : Int) (σ : H) :
  denC E D W N C97_2 (S97_2 v8 r4_0 r4_1 r4_2 r6_0 r6_1 r6_2 σ) (fun s' => denC E D W N (.keep [(8, .i)] [4, 6] [(4, [.i, .str, .i]), (6, [.i, .str, .i])] C97_1) s' (Fin97 E) (fun _ _ => none) (Fin97 E)) (blkK 0 (fun s' => denC E D W N (.keep [(8, .i)] [4, 6] [(4, [.i, .str, .i]), (6, [.i, .str, .i])] C97_1) s' (Fin97 E) (fun _ _ => none) (Fin97 E)) (fun _ _ => none)) (Fin97 E) = J97_2 E D W N v8 r4_0 r4_1 r4_2 r6_0 r6_1 r6_2 σ := by
  refine (P97_2 E D W N C97_1  v8 r4_0 r4_1 r4_2 r6_0 r6_1 r6_2 σ).trans ?_
  simp only [JE97_1]
  kernel_rfl
def J97_0 : BS → Int → H → Ans := T97_0 E D W (J97_1 E D W N ) (J97_2 E D W N )
theorem JE97_0 (v0 : BS) (v1 : Int) (σ : H) :
  denC E D W N (C97_0 C97_1 C97_2) (S97_0 v0 v1 σ) (Fin97 E) (fun _ _ => none) (Fin97 E) = J97_0 E D W N v0 v1 σ := by
  refine (P97_0 E D W N C97_1 C97_2  v0 v1 σ).trans ?_
  simp only [JE97_1, JE97_2]
  kernel_rfl
def F97 (args : List V) (σ : H) : Ans :=
 rtCons args fun x1 l2 =>
 rtStr x1 fun x3 =>
 rtCons l2 fun x4 l5 =>
 rtInt .i64 x4 fun x6 =>
 rtNil l5 (
 J97_0 E D W N x3 x6 σ)
def A97 : XFn := ⟨103, [.str, .i], [(.cell 4 (some 3)), (.tmp 5)], (C97_0 C97_1 C97_2)⟩
theorem FE97 (args : List V) (σ : H) : runX E D W N A97 args σ = F97 E D W N args σ := by
  unfold F97
  simp only [← JE97_0]
  kernel_rfl
theorem AO97 : A97.body.ok = true := by kernel_rfl

/-! ### F98: __ogham_oghamref05.parser_.next -/
def Fin98 (E : List (Nat × Blk)) : St → Ans := fun s => resK E s [(.cell 2 (some 3))] fun l => some (oneV l, s.σ)
def C98_0 (cc1 : XC) : XC := (.seq (.ops (.pal 2 [] 115 [(V.int .i64 (Int.ofNat 0)), (V.str ⟨0, 0⟩), (V.int .i64 (Int.ofNat 0))]<|
.nil))
 (.seq (.draw (.m 4 0<|
.n 5 4<|
.f 6 0 5<|
.l 7 .any 6<|
.m 8 0<|
.n 9 8<|
.f 10 1 9<|
.l 11 .i 10<|
.s 12 3 7 11<|
.op (some 13) (.agg [.i, .str, .i]) [12] (.load (some 3) (.t 12))<|
.pal 3 [] 115 [(V.int .i64 (Int.ofNat 0)), (V.str ⟨0, 0⟩), (V.int .i64 (Int.ofNat 0))]<|
.op none (.agg [.i, .str, .i]) [3, 13] (.store 3 (.t 3) (.t 13))<|
.nil) [0, 1, 3, 7, 0, 16, 48, 112, 255, 511, 0, 2047])
 (.seq (.seq (.draw (.m 14 0<|
.n 15 14<|
.f 16 1 15<|
.l 17 .i 16<|
.b 18 .add .none (.t 17) (.i 1)<|
.m 19 0<|
.n 20 19<|
.f 21 0 20<|
.l 22 .any 21<|
.u 23 22<|
.b 24 .lss .none (.t 18) (.t 23)<|
.nil) [0, 1, 3, 7, 15, 0, 32, 96, 224, 480, 1023])
 (.cond (.tmp 24) (.ops (.m 25 0<|
.n 26 25<|
.f 27 1 26<|
.l 28 .i 27<|
.b 29 .add .none (.t 28) (.i 1)<|
.n 30 25<|
.f 31 1 30<|
.w 1 31 29<|
.nil))
 .skip))
 (.keep [] [2, 3] [(2, [.i, .str, .i]), (3, [.i, .str, .i])] cc1))))
def T98_0 (E : List (Nat × Blk)) (D : Den) (W : DrawFn) (K1 : Int → BS → Int → Int → BS → Int → H → Ans) (v0b v0o : Nat) (σ : H) : Ans :=
 ldK E σ v0b v0o fun u1 =>
 ldK E σ v0b (Nat.add v0o 1) fun u2 =>
 rtInt .i64 u2 fun x3 =>
 iaddrSK 3 u1 x3 fun b4 o5 =>
 ldnK E σ b4 o5 3 fun l6 =>
 rtCons l6 fun x7 l8 =>
 rtInt .i64 x7 fun x9 =>
 rtCons l8 fun x10 l11 =>
 rtStr x10 fun x12 =>
 rtCons l11 fun x13 l14 =>
 rtInt .i64 x13 fun x15 =>
 rtNil l14 (
 ldK E σ v0b (Nat.add v0o 1) fun u16 =>
 rtInt .i64 u16 fun x17 =>
 ldK E σ v0b v0o fun u18 =>
 slenK u18 fun n19 =>
 condK (ltF (addF .i64 x17 (Int.ofNat 1)) (Int.ofNat n19)) (
 ldK E σ v0b (Nat.add v0o 1) fun u20 =>
 rtInt .i64 u20 fun x21 =>
 stK 1 v0b (Nat.add v0o 1) (V.int .i64 (addF .i64 x21 (Int.ofNat 1))) σ fun s22 =>
 K1 (Int.ofNat 0) (BS.mk 0 0) (Int.ofNat 0) x9 x12 x15 s22) (
 K1 (Int.ofNat 0) (BS.mk 0 0) (Int.ofNat 0) x9 x12 x15 σ))
def C98_1 : XC := (.seq (.ops (.op (some 32) (.agg [.i, .str, .i]) [3] (.load (some 3) (.t 3))<|
.op none (.agg [.i, .str, .i]) [2, 32] (.store 3 (.t 2) (.t 32))<|
.nil))
 .ret)
def T98_1 (E : List (Nat × Blk)) (D : Den) (W : DrawFn) (r2_0 : Int) (r2_1 : BS) (r2_2 r3_0 : Int) (r3_1 : BS) (r3_2 : Int) (σ : H) : Ans :=
 some ((V.agg [(V.int .i64 r3_0), (V.str r3_1), (V.int .i64 r3_2)]), σ)
def S98_0 (v0b v0o : Nat) (σ : H) : St := ⟨[(0, (V.ptr v0b v0o))], [], [], σ⟩
def S98_1 (r2_0 : Int) (r2_1 : BS) (r2_2 r3_0 : Int) (r3_1 : BS) (r3_2 : Int) (σ : H) : St := ⟨[], [(2, (2, 0)), (3, (3, 0))], [(2, [(V.int .i64 r2_0), (V.str r2_1), (V.int .i64 r2_2)]), (3, [(V.int .i64 r3_0), (V.str r3_1), (V.int .i64 r3_2)])], σ⟩
theorem P98_0 (cc1 : XC) (v0b v0o : Nat) (σ : H) :
  denC E D W N (C98_0 cc1) (S98_0 v0b v0o σ) (Fin98 E) (fun _ _ => none) (Fin98 E) =
  T98_0 E D W (fun r2_0 r2_1 r2_2 r3_0 r3_1 r3_2 σ => denC E D W N cc1 (S98_1 r2_0 r2_1 r2_2 r3_0 r3_1 r3_2 σ) (Fin98 E) (fun _ _ => none) (Fin98 E)) v0b v0o σ := by kernel_rfl
theorem P98_1 (r2_0 : Int) (r2_1 : BS) (r2_2 r3_0 : Int) (r3_1 : BS) (r3_2 : Int) (σ : H) :
  denC E D W N (C98_1 ) (S98_1 r2_0 r2_1 r2_2 r3_0 r3_1 r3_2 σ) (Fin98 E) (fun _ _ => none) (Fin98 E) =
  T98_1 E D W  r2_0 r2_1 r2_2 r3_0 r3_1 r3_2 σ := by kernel_rfl
def J98_1 (E : List (Nat × Blk)) (D : Den) (W : DrawFn) (N : Nat) : Int → BS → Int → Int → BS → Int → H → Ans := T98_1 E D W 
theorem JE98_1 (r2_0 : Int) (r2_1 : BS) (r2_2 r3_0 : Int) (r3_1 : BS) (r3_2 : Int) (σ : H) :
  denC E D W N C98_1 (S98_1 r2_0 r2_1 r2_2 r3_0 r3_1 r3_2 σ) (Fin98 E) (fun _ _ => none) (Fin98 E) = J98_1 E D W N r2_0 r2_1 r2_2 r3_0 r3_1 r3_2 σ := by
  refine (P98_1 E D W N   r2_0 r2_1 r2_2 r3_0 r3_1 r3_2 σ).trans ?_
  kernel_rfl
def J98_0 : Nat → Nat → H → Ans := T98_0 E D W (J98_1 E D W N )
theorem JE98_0 (v0b v0o : Nat) (σ : H) :
  denC E D W N (C98_0 C98_1) (S98_0 v0b v0o σ) (Fin98 E) (fun _ _ => none) (Fin98 E) = J98_0 E D W N v0b v0o σ := by
  refine (P98_0 E D W N C98_1  v0b v0o σ).trans ?_
  simp only [JE98_1]
  kernel_rfl
def F98 (args : List V) (σ : H) : Ans :=
 rtCons args fun x1 l2 =>
 rtPtr x1 fun b3 o4 =>
 rtNil l2 (
 J98_0 E D W N b3 o4 σ)
def A98 : XFn := ⟨33, [.ptr], [(.cell 2 (some 3))], (C98_0 C98_1)⟩
theorem FE98 (args : List V) (σ : H) : runX E D W N A98 args σ = F98 E D W N args σ := by
  unfold F98
  simp only [← JE98_0]
  kernel_rfl
theorem AO98 : A98.body.ok = true := by kernel_rfl

end
end Go.Proofs.YtpbdnlclihogfaaGreatDoor
