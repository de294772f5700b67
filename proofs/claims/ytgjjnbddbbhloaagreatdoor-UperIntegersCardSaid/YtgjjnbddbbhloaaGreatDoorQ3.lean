/- What the last text leans on, part 4 of 7: merged out of smaller texts. No condition. -/
import Derived.KernelRfl
import Derived.Test.YtgjjnbddbbhloaaGreatDoorProg
import Derived.Test.YtgjjnbddbbhloaaGreatDoorQ2
set_option linter.all false
set_option maxRecDepth 100000
set_option maxHeartbeats 0
namespace Go.Proofs.YtgjjnbddbbhloaaGreatDoor
open Go Go.Og
noncomputable section
variable (E:List (Nat × Blk)) (D:Den) (W:DrawFn) (N:Nat)
def Fin65 (E:List (Nat × Blk)):St→Ans:=fun s=>resK E s [(.tmp 8)] fun l=>some (oneV l,s.σ)
def b65a (c0:XC):St→Ans:=dX E D W N (.keep [] [] [] c0) (Fin65 E) nX (Fin65 E)
def C65_0 (cc1:XC) (cc2:XC):XC:=(.z (.P 6 (.box 38 (.t 2))<|
.c 8 y1<|
.nil)
 (.seq (.z (.m 10 1<|
.b 11 .lss .none (.t 10) (.i 0)<|
.m 12 11<|
.gO 12 false (.p 13 [1,12] y15<|
.p 14 [0,12] y13<|
.p 15 [14,12] (.nilck (.t 14))<|
.p 16 [15,12] (.faddr 0 (.t 15))<|
.p 17 [16,12] (.faddr 0 (.t 16))<|
.p 18 [17,12] (.faddr 3 (.t 17))<|
.p 19 [18,12] (.load none (.t 18))<|
.p 20 [19,12] (.len false (.t 19))<|
.p 21 [13,20,12] (.bin .geq .none (.t 13) (.t 20))<|
.nil) 22 12 21<|
.m 23 22<|
.gO 23 false (.p 24 [3,23] (.mov (.t 3))<|
.p 25 [24,23] (.bin .gtr .none (.t 24) (.i 17))<|
.nil) 26 23 25<|
.nil)
 (.cond (.tmp 26) (.z (.c 8 y1<|
.nil)
 .ret)
 .skip))
 (.z (.m 27 0<|
.n 28 27<|
.f 29 0 28<|
.f 30 0 29<|
.f 31 3 30<|
.l 32 .any 31<|
.m 33 1<|
.s 34 13 32 33<|
.O 35 y6 (.load (some 13) (.t 34))<|
.pal 9 [] 145 [y0,V.nils,y1,y1,y1,y1,y0,y0,V.nils,V.nils,y0,y1,y0]<|
.op none y6 [9,35] (.store 13 (.t 9) (.t 35))<|
.nil)
 (.seq (.z (.f 36 0 6<|
.l 37 .i 36<|
.b 38 .eql .none (.t 37) (.i 12)<|
.nil)
 (.cond (.tmp 38) (.z (.m 39 0<|
.m 40 1<|
.O 41 y3 (.load (some 6) (.t 6))<|
.k 42 .bool 130 [(.t 39),(.t 40),(.t 41)]<|
.m 8 42<|
.nil)
 .ret)
 .skip))
 (.seq (.z (.f 43 0 6<|
.l 44 .i 43<|
.f 45 0 9<|
.l 46 .i 45<|
.b 47 .neq .none (.t 44) (.t 46)<|
.nil)
 (.cond (.tmp 47) (.z (.c 8 y1<|
.nil)
 .ret)
 .skip))
 (.seq (.z (.f 48 0 9<|
.l 49 .i 48<|
.nil)
 (.block 0 (.z (.b 51 .eql .none (.t 49) (.i 1)<|
.m 50 51<|
.nil)
 (.cond (.tmp 50) (.z (.O 52 y3 (.load (some 6) (.t 6))<|
.k 53 .bool 131 [(.t 52),(.i 1)]<|
.m 54 53<|
.gA 54 true (.p 55 [6,54] y28<|
.op (some 56) .i [55,54] (.load none (.t 55))<|
.p 57 [56,54] (.bin .eql .none (.t 56) (.i 0))<|
.p 58 [57,54] (.mov (.t 57))<|
.grp 58 false (.p 59 [6,58] y28<|
.op (some 60) .i [59,58] (.load none (.t 59))<|
.p 61 [60,58] (.bin .eql .none (.t 60) (.i 1))<|
.nil) 62 [58,61,54] (.t 58) y12 (.t 61)<|
.nil) 63 54 62<|
.m 8 63<|
.nil)
 .ret)
 (.z (.b 65 .eql .none (.t 49) (.i 2)<|
.m 64 65<|
.nil)
 (.cond (.tmp 64) (.z (.O 66 y3 (.load (some 6) (.t 6))<|
.k 67 .bool 131 [(.t 66),(.i 1)]<|
.m 68 67<|
.gA 68 true (.p 69 [9,68] (.faddr 2 (.t 9))<|
.p 70 [69,68] (.faddr 3 (.t 69))<|
.op (some 71) .bool [70,68] (.load none (.t 70))<|
.p 72 [71,68] (.mov (.t 71))<|
.grp 72 false (.p 73 [9,72] (.faddr 2 (.t 9))<|
.op (some 74) y2 [73,72] (.load (some 6) (.t 73))<|
.p 75 [6,72] y28<|
.op (some 76) .i [75,72] (.load none (.t 75))<|
.op (some 77) .bool [74,76,72] (.call 132 [(.t 74),(.t 76)])<|
.nil) 78 [72,77,68] (.t 72) y12 (.t 77)<|
.nil) 79 68 78<|
.m 8 79<|
.nil)
 .ret)
 (.z (.b 81 .eql .none (.t 49) (.i 3)<|
.m 80 81<|
.nil)
 (.cond (.tmp 80) (.z (.O 82 y3 (.load (some 6) (.t 6))<|
.k 83 .bool 131 [(.t 82),(.i 1)]<|
.m 84 83<|
.gA 84 true (.op (some 85) y6 [9,84] (.load (some 13) (.t 9))<|
.p 86 [6,84] y28<|
.op (some 87) .i [86,84] (.load none (.t 86))<|
.op (some 88) .i [85,87,84] (.call 133 [(.t 85),(.t 87)])<|
.p 89 [88,84] (.bin .geq .none (.t 88) (.i 0))<|
.nil) 90 84 89<|
.m 8 90<|
.nil)
 .ret)
 (.z (.b 92 .eql .none (.t 49) (.i 4)<|
.m 91 92<|
.nil)
 (.cond (.tmp 91) (.z (.O 93 y3 (.load (some 6) (.t 6))<|
.k 94 .bool 131 [(.t 93),(.i 0)]<|
.m 8 94<|
.nil)
 .ret)
 (.seq (.z (.b 96 .eql .none (.t 49) (.i 5)<|
.m 95 96<|
.nil)
 (.cond (.tmp 95) .skip
 (.ops (.b 97 .eql .none (.t 49) (.i 6)<|
.m 95 97<|
.nil))))
 (.keep [(0,.ptr),(1,.i),(3,.i),(6,.ptr),(49,.i),(95,.bool)] [9] [(9,[.i,.any,.bool,.bool,.bool,.bool,.i,.i,.any,.any,.i,.bool,.i])] cc2))))))))))))
 (.keep [] [] [] cc1)))))))
def T65_0 (E:List (Nat × Blk)) (D:Den) (W:DrawFn) (K2:Nat→Nat→Int→Int→Nat→Nat→Int→Bool→Int→V→Bool→Bool→Bool→Bool→Int→Int→V→V→Int→Bool→Int→H→Ans) (a b:Nat) (c d e:Int) (f g:V) (h:Int) (i:V) (j:Int) (σ:H):Ans:=
 nbK [.int .i64 d,.int .i64 e,f,g,.int .i64 h,i] σ fun s1=>
 joinB (fun c2 s3=>
 joinB (fun c5 s6=>
 condK c5 (
 some ((V.bool false),s6)) (
 ldK E s6 a (Nat.add b 3) fun u8=>
 iaddrSK 13 u8 c fun b9 o10=>
 ldnK E s6 b9 o10 13 fun l11=>
 xcI .i64 l11 fun x14 l13=>
 rtCons l13 fun x15 l16=>
 xcB l16 fun x19 l18=>
 xcB l18 fun x22 l21=>
 xcB l21 fun x25 l24=>
 xcB l24 fun x28 l27=>
 xcI .i64 l27 fun x31 l30=>
 xcI .i64 l30 fun x34 l33=>
 rtCons l33 fun x35 l36=>
 rtCons l36 fun x37 l38=>
 xcI .i64 l38 fun x41 l40=>
 xcB l40 fun x44 l43=>
 xcI .i64 l43 fun x47 l46=>
 rtNil l46 (
 chk (allOne [.int .i64 x14,x15,.bool x19,.bool x22,.bool x25,.bool x28,.int .i64 x31,.int .i64 x34,x35,x37,.int .i64 x41,.bool x44,.int .i64 x47]) (
 ldK E s6 (H.next σ) 0 fun u48=>
 rtInt .i64 u48 fun x49=>
 condK (eqF x49 (Int.ofNat 12)) (
 ldnK E s6 (H.next σ) 0 6 fun l50=>
 xcI .i64 l50 fun x53 l52=>
 xcI .i64 l52 fun x56 l55=>
 rtCons l55 fun x57 l58=>
 rtCons l58 fun x59 l60=>
 xcI .i64 l60 fun x63 l62=>
 rtCons l62 fun x64 l65=>
 rtNil l65 (
 callK (D 130 [.ptr a b,.int .i64 c,.agg [.int .i64 x53,.int .i64 x56,x57,x59,.int .i64 x63,x64]] s6) fun u66 s67=>
 rtBool u66 fun x68=>
 some ((V.bool x68),s67))) (
 ldK E s6 (H.next σ) 0 fun u69=>
 rtInt .i64 u69 fun x70=>
 condK (not (eqF x70 x14)) (
 some ((V.bool false),s6)) (
 condK (eqF x14 (Int.ofNat 1)) (
 ldnK E s6 (H.next σ) 0 6 fun l71=>
 xcI .i64 l71 fun x74 l73=>
 xcI .i64 l73 fun x77 l76=>
 rtCons l76 fun x78 l79=>
 rtCons l79 fun x80 l81=>
 xcI .i64 l81 fun x84 l83=>
 rtCons l83 fun x85 l86=>
 rtNil l86 (
 callK (D 131 [.agg [.int .i64 x74,.int .i64 x77,x78,x80,.int .i64 x84,x85],.int .i64 (Int.ofNat 1)] s6) fun u87 s88=>
 rtBool u87 fun x89=>
 joinB (fun c90 s91=>
 some ((V.bool c90),s91)) fun k92=>
 condK x89 (
 ldK E s88 (H.next σ) 1 fun u93=>
 rtInt .i64 u93 fun x94=>
 joinB (fun c95 s96=>
 k92 c95 s96) fun k97=>
 condK (eqF x94 (Int.ofNat 0)) (
 k97 true s88) (
 ldK E s88 (H.next σ) 1 fun u98=>
 rtInt .i64 u98 fun x99=>
 k97 (eqF x99 (Int.ofNat 1)) s88)) (
 k92 false s88))) (
 condK (eqF x14 (Int.ofNat 2)) (
 ldnK E s6 (H.next σ) 0 6 fun l100=>
 xcI .i64 l100 fun x103 l102=>
 xcI .i64 l102 fun x106 l105=>
 rtCons l105 fun x107 l108=>
 rtCons l108 fun x109 l110=>
 xcI .i64 l110 fun x113 l112=>
 rtCons l112 fun x114 l115=>
 rtNil l115 (
 callK (D 131 [.agg [.int .i64 x103,.int .i64 x106,x107,x109,.int .i64 x113,x114],.int .i64 (Int.ofNat 1)] s6) fun u116 s117=>
 rtBool u116 fun x118=>
 joinB (fun c119 s120=>
 some ((V.bool c119),s120)) fun k121=>
 condK x118 (
 joinB (fun c122 s123=>
 k121 c122 s123) fun k124=>
 condK x28 (
 k124 true s117) (
 ldK E s117 (H.next σ) 1 fun u125=>
 rtInt .i64 u125 fun x126=>
 callK (D 132 [.agg [.bool x19,.bool x22,.bool x25,.bool x28,.int .i64 x31,.int .i64 x34],.int .i64 x126] s117) fun u127 s128=>
 rtBool u127 fun x129=>
 k124 x129 s128)) (
 k121 false s117))) (
 condK (eqF x14 (Int.ofNat 3)) (
 ldnK E s6 (H.next σ) 0 6 fun l130=>
 xcI .i64 l130 fun x133 l132=>
 xcI .i64 l132 fun x136 l135=>
 rtCons l135 fun x137 l138=>
 rtCons l138 fun x139 l140=>
 xcI .i64 l140 fun x143 l142=>
 rtCons l142 fun x144 l145=>
 rtNil l145 (
 callK (D 131 [.agg [.int .i64 x133,.int .i64 x136,x137,x139,.int .i64 x143,x144],.int .i64 (Int.ofNat 1)] s6) fun u146 s147=>
 rtBool u146 fun x148=>
 joinB (fun c149 s150=>
 some ((V.bool c149),s150)) fun k151=>
 condK x148 (
 ldK E s147 (H.next σ) 1 fun u152=>
 rtInt .i64 u152 fun x153=>
 callK (D 133 [.agg [.int .i64 x14,x15,.bool x19,.bool x22,.bool x25,.bool x28,.int .i64 x31,.int .i64 x34,x35,x37,.int .i64 x41,.bool x44,.int .i64 x47],.int .i64 x153] s147) fun u154 s155=>
 rtInt .i64 u154 fun x156=>
 k151 (leF (Int.ofNat 0) x156) s155) (
 k151 false s147))) (
 condK (eqF x14 (Int.ofNat 4)) (
 ldnK E s6 (H.next σ) 0 6 fun l157=>
 xcI .i64 l157 fun x160 l159=>
 xcI .i64 l159 fun x163 l162=>
 rtCons l162 fun x164 l165=>
 rtCons l165 fun x166 l167=>
 xcI .i64 l167 fun x170 l169=>
 rtCons l169 fun x171 l172=>
 rtNil l172 (
 callK (D 131 [.agg [.int .i64 x160,.int .i64 x163,x164,x166,.int .i64 x170,x171],.int .i64 (Int.ofNat 0)] s6) fun u173 s174=>
 rtBool u173 fun x175=>
 some ((V.bool x175),s174))) (
 condK (eqF x14 (Int.ofNat 5)) (
 K2 a b c j (H.next σ) 0 x14 (eqF x14 (Int.ofNat 5)) x14 x15 x19 x22 x25 x28 x31 x34 x35 x37 x41 x44 x47 s6) (
 K2 a b c j (H.next σ) 0 x14 (eqF x14 (Int.ofNat 6)) x14 x15 x19 x22 x25 x28 x31 x34 x35 x37 x41 x44 x47 s6))))))))))) fun k7=>
 condK c2 (
 k7 true s3) (
 k7 (ltF (Int.ofNat 17) j) s3)) fun k4=>
 condK (ltF c (Int.ofNat 0)) (
 k4 true s1) (
 ldK E s1 a (Nat.add b 3) fun u176=>
 slenK u176 fun n177=>
 k4 (leF (Int.ofNat n177) c) s1)
def C65_1:XC:=(.z (.c 8 y1<|
.nil)
 .ret)
def C65_2 (cc3:XC):XC:=(.cond (.tmp 95) (.z (.m 98 0<|
.O 99 y6 (.load (some 13) (.t 9))<|
.O 100 y3 (.load (some 6) (.t 6))<|
.k 101 .bool 134 [(.t 98),(.t 99),(.t 100)]<|
.m 8 101<|
.nil)
 .ret)
 (.z (.b 103 .eql .none (.t 49) (.i 10)<|
.m 102 103<|
.nil)
 (.cond (.tmp 102) (.z (.m 104 0<|
.O 105 y6 (.load (some 13) (.t 9))<|
.O 106 y3 (.load (some 6) (.t 6))<|
.m 107 3<|
.k 108 .bool 135 [(.t 104),(.t 105),(.t 106),(.t 107)]<|
.m 8 108<|
.nil)
 .ret)
 (.z (.b 110 .eql .none (.t 49) (.i 9)<|
.m 109 110<|
.nil)
 (.cond (.tmp 109) (.seq (.draw (.O 111 y3 (.load (some 6) (.t 6))<|
.k 112 .bool 131 [(.t 111),(.i 5)]<|
.m 113 112<|
.gA 113 true (.p 114 [6,113] y28<|
.op (some 115) .i [114,113] (.load none (.t 114))<|
.p 116 [115,113] (.bin .geq .none (.t 115) (.i 0))<|
.nil) 117 113 116<|
.m 118 117<|
.gA 118 true (.p 119 [6,118] y28<|
.op (some 120) .i [119,118] (.load none (.t 119))<|
.p 121 [9,118] (.faddr 9 (.t 9))<|
.p 122 [121,118] (.load none (.t 121))<|
.p 123 [122,118] (.len false (.t 122))<|
.p 124 [120,123,118] (.bin .lss .none (.t 120) (.t 123))<|
.nil) 125 118 124<|
.m 126 125<|
.gA 126 true (.p 127 [6,126] (.faddr 3 (.t 6))<|
.p 128 [127,126] (.load none (.t 127))<|
.p 129 [128,126] (.len false (.t 128))<|
.p 130 [129,126] (.bin .eql .none (.t 129) (.i 1))<|
.nil) 131 126 130<|
.m 132 131<|
.gA 132 true (.p 133 [0,132] y13<|
.p 134 [9,132] (.faddr 9 (.t 9))<|
.p 135 [134,132] (.load none (.t 134))<|
.p 136 [6,132] y28<|
.op (some 137) .i [136,132] (.load none (.t 136))<|
.p 138 [135,137,132] (.iaddrS 11 (.t 135) (.t 137))<|
.p 139 [138,132] (.faddr 1 (.t 138))<|
.op (some 140) .i [139,132] (.load none (.t 139))<|
.p 141 [6,132] (.faddr 3 (.t 6))<|
.p 142 [141,132] (.load none (.t 141))<|
.p 143 [142,132] (.iaddrS 6 (.t 142) (.i 0))<|
.op (some 144) y3 [143,132] (.load (some 6) (.t 143))<|
.p 145 [3,132] (.mov (.t 3))<|
.p 146 [145,132] (.bin .add .none (.t 145) (.i 1))<|
.op (some 147) .bool [133,140,144,146,132] (.call 65 [(.t 133),(.t 140),(.t 144),(.t 146)])<|
.nil) 148 132 147<|
.m 8 148<|
.nil) [0,1,3,7,15,31,63,127,255,511,255,1279,3327,8191,16383,32767,65535,131071,262143,524287,1048575,2097151,4194303,4194303,12582911,4194303,37748735,130023423,264241151,532676607,4194303,1077936127,3225419775,7520387071,4194303,17184063487,68719476735,137438953471,274877906943])
 .ret)
 (.seq (.z (.b 150 .eql .none (.t 49) (.i 7)<|
.m 149 150<|
.nil)
 (.cond (.tmp 149) .skip
 (.ops (.b 151 .eql .none (.t 49) (.i 8)<|
.m 149 151<|
.nil))))
 (.keep [(0,.ptr),(1,.i),(3,.i),(6,.ptr),(149,.bool)] [] [] cc3)))))))
def C65_3:XC:=(.cond (.tmp 149) (.z (.m 152 0<|
.m 153 1<|
.O 154 y3 (.load (some 6) (.t 6))<|
.m 155 3<|
.k 156 .bool 136 [(.t 152),(.t 153),(.t 154),(.t 155)]<|
.m 8 156<|
.nil)
 .ret)
 .skip)
def S65_2 (a b:Nat) (c d:Int) (e f:Nat) (g:Int) (h:Bool) (i:Int) (j:V) (k l m o:Bool) (p q:Int) (r s:V) (t:Int) (u:Bool) (v:Int) (σ:H):St:=⟨[(0,.ptr a b),(1,.int .i64 c),(3,.int .i64 d),(6,.ptr e f),(49,.int .i64 g),(95,.bool h)],[(9,(9,0))],[(9,[.int .i64 i,j,.bool k,.bool l,.bool m,.bool o,.int .i64 p,.int .i64 q,r,s,.int .i64 t,.bool u,.int .i64 v])],σ⟩
def J65_2 (a b:Nat) (c d:Int) (e f:Nat) (g:Int) (h:Bool) (i:Int) (j:V) (k l m o:Bool) (p q:Int) (r s:V) (t:Int) (u:Bool) (v:Int) (σ:H):Ans:=denC E D W N (C65_2 C65_3) (S65_2 a b c d e f g h i j k l m o p q r s t u v σ) (b65a E D W N C65_1) (blkK 0 (b65a E D W N C65_1) nX) (Fin65 E)
def F65 (args:List V) (σ:H):Ans:=
 rtCons args fun x1 l2=>
 rtPtr x1 fun b3 o4=>
 xcI .i64 l2 fun x7 l6=>
 rtCons l6 fun x8 l9=>
 rtAgg x8 fun l10=>
 xcI .i64 l10 fun x13 l12=>
 xcI .i64 l12 fun x16 l15=>
 rtCons l15 fun x17 l18=>
 rtCons l18 fun x19 l20=>
 xcI .i64 l20 fun x23 l22=>
 rtCons l22 fun x24 l25=>
 rtNil l25 (
 xcI .i64 l9 fun x28 l27=>
 rtNil l27 (
 T65_0 E D W (J65_2 E D W N ) b3 o4 x7 x13 x16 x17 x19 x23 x24 x28 σ))
def A65:XFn:=⟨157,[.ptr,.i,y3,.i],[(.tmp 8)],(C65_0 C65_1 (C65_2 C65_3))⟩
theorem FE65 (args:List V) (σ:H):runX E D W N A65 args σ=F65 E D W N args σ:=by kernel_rfl
def q66a:List (Nat × XTy):=[(3,.i),(7,.any),(8,.i),(9,.i)]
def Fin66 (E:List (Nat × Blk)):St→Ans:=fun s=>resK E s [(.tmp 2)] fun l=>some (oneV l,s.σ)
def b66a (c0:XC):Nat→St→Ans:=blkK 0 (dX E D W N (.keep [(3,.i)] [] [] c0) (Fin66 E) nX (Fin66 E)) nX
def C66_0 (cc1:XC) (cc2:XC):XC:=(.z (.P 1 (.box 38 (.t 0))<|
.q 2 0<|
.nil)
 (.z (.q 3 1<|
.nil)
 (.seq (.z (.f 6 3 1<|
.l 7 .any 6<|
.u 8 7<|
.q 9 0<|
.nil)
 (.block 0 (.loop q66a [] [] cc2)))
 (.keep [(3,.i)] [] [] cc1))))
def T66_0 (E:List (Nat × Blk)) (D:Den) (W:DrawFn) (K2:Int→V→Int→Int→H→Ans) (a b:Int) (c d:V) (e:Int) (f:V) (σ:H):Ans:=
 nbK [.int .i64 a,.int .i64 b,c,d,.int .i64 e,f] σ fun s1=>
 ldK E s1 (H.next σ) 3 fun u2=>
 slenK u2 fun n3=>
 K2 (Int.ofNat 1) u2 (Int.ofNat n3) (Int.ofNat 0) s1
def C66_1:XC:=(.z (.m 18 3<|
.m 2 18<|
.nil)
 .ret)
def T66_1 (E:List (Nat × Blk)) (D:Den) (W:DrawFn) (a:Int) (σ:H):Ans:=
 some ((V.int .i64 a),σ)
def C66_2:XC:=(.z (.b 10 .lss .none (.t 9) (.t 8)<|
.nil)
 (.seq (.cond (.tmp 10) .skip
 y22)
 (.seq (.block 1 (.z (.s 11 6 7 9<|
.O 12 y3 (.load (some 6) (.t 11))<|
.pal 5 [] 38 [y0,y0,V.nils,V.nils,y0,V.nils]<|
.op none y3 [5,12] (.store 6 (.t 5) (.t 12))<|
.nil)
 (.ops (.m 13 3<|
.O 14 y3 (.load (some 6) (.t 5))<|
.k 15 .i 66 [(.t 14)]<|
.b 16 .add .none (.t 13) (.t 15)<|
.m 3 16<|
.nil))))
 (.ops (.b 17 .add .none (.t 9) (.i 1)<|
.m 9 17<|
.nil)))))
def T66_2 (E:List (Nat × Blk)) (D:Den) (W:DrawFn) (K1:Int→H→Ans) (R2:Int→V→Int→Int→H→Ans) (a:Int) (b:V) (c d:Int) (σ:H):Ans:=
 condK (ltF d c) (
 iaddrSK 6 b d fun b1 o2=>
 ldnK E σ b1 o2 6 fun l3=>
 xcI .i64 l3 fun x6 l5=>
 xcI .i64 l5 fun x9 l8=>
 rtCons l8 fun x10 l11=>
 rtCons l11 fun x12 l13=>
 xcI .i64 l13 fun x16 l15=>
 rtCons l15 fun x17 l18=>
 rtNil l18 (
 chk (allOne [.int .i64 x6,.int .i64 x9,x10,x12,.int .i64 x16,x17]) (
 callK (D 66 [.agg [.int .i64 x6,.int .i64 x9,x10,x12,.int .i64 x16,x17]] σ) fun u19 s20=>
 rtInt .i64 u19 fun x21=>
 R2 (addF .i64 a x21) b c (addF .i64 d (Int.ofNat 1)) s20))) (
 K1 a σ)
def S66_0 (a b:Int) (c d:V) (e:Int) (f:V) (σ:H):St:=⟨[(0,.agg [.int .i64 a,.int .i64 b,c,d,.int .i64 e,f])],[],[],σ⟩
def S66_1 (a:Int) (σ:H):St:=⟨[(3,.int .i64 a)],[],[],σ⟩
def S66_2 (a:Int) (b:V) (c d:Int) (σ:H):St:=⟨[(3,.int .i64 a),(7,b),(8,.int .i64 c),(9,.int .i64 d)],[],[],σ⟩
theorem P66_0 (cc1:XC) (cc2:XC) (a b:Int) (c d:V) (e:Int) (f:V) (σ:H) :
 denC E D W N (C66_0 cc1 cc2) (S66_0 a b c d e f σ) (Fin66 E) nX (Fin66 E) =
 T66_0 E D W (fun g h i j σ=>iterK (fun rec s'=>denC E D W N cc2 s' (kX q66a [] [] rec) (b66a E D W N cc1) (Fin66 E)) N (S66_2 g h i j σ)) a b c d e f σ:=by kernel_rfl
theorem P66_2 (cc1:XC) (li2:St→Ans) (a:Int) (b:V) (c d:Int) (σ:H) :
 denC E D W N (C66_2 ) (S66_2 a b c d σ) (kX q66a [] [] li2) (b66a E D W N cc1) (Fin66 E) =
 T66_2 E D W (fun a σ=>denC E D W N cc1 (S66_1 a σ) (Fin66 E) nX (Fin66 E)) (fun a b c d σ=>li2 (S66_2 a b c d σ)) a b c d σ:=by kernel_rfl
def J66_1 (E:List (Nat × Blk)) (D:Den) (W:DrawFn) (N:Nat):=T66_1 E D W
theorem JE66_1 (a:Int) (σ:H) :
 denC E D W N C66_1 (S66_1 a σ) (Fin66 E) nX (Fin66 E)=J66_1 E D W N a σ:=by kernel_rfl
def L66_2 (n:Nat):Int→V→Int→Int→H→Ans:=
 Nat.rec (fun _ _ _ _ _=>none) (fun _ ih=>T66_2 E D W (J66_1 E D W N ) ih) n
theorem LE66_2 (n:Nat):∀(a:Int) (b:V) (c d:Int) (σ:H),
 iterK (fun rec s'=>denC E D W N C66_2 s' (kX q66a [] [] rec) (b66a E D W N C66_1) (Fin66 E)) n (S66_2 a b c d σ)=L66_2 E D W N n a b c d σ:=by
 induction n with
 | zero=>intro a b c d σ;rfl
 | succ n ihn=>
  intro a b c d σ
  rw[iterK_succ]
  refine(P66_2 E D W N C66_1 (iterK (fun rec s'=>denC E D W N C66_2 s' (kX q66a [] [] rec) (b66a E D W N C66_1) (Fin66 E)) n) a b c d σ).trans ?_
  simp only[ihn,JE66_1]
  kernel_rfl
def J66_0:=T66_0 E D W (L66_2 E D W N N)
theorem JE66_0 (a b:Int) (c d:V) (e:Int) (f:V) (σ:H) :
 denC E D W N (C66_0 C66_1 C66_2) (S66_0 a b c d e f σ) (Fin66 E) nX (Fin66 E)=J66_0 E D W N a b c d e f σ:=by
 refine(P66_0 E D W N C66_1 C66_2  a b c d e f σ).trans ?_
 simp only[LE66_2]
 kernel_rfl
def F66 (args:List V) (σ:H):Ans:=
 rtCons args fun x1 l2=>
 rtAgg x1 fun l3=>
 xcI .i64 l3 fun x6 l5=>
 xcI .i64 l5 fun x9 l8=>
 rtCons l8 fun x10 l11=>
 rtCons l11 fun x12 l13=>
 xcI .i64 l13 fun x16 l15=>
 rtCons l15 fun x17 l18=>
 rtNil l18 (
 rtNil l2 (
 J66_0 E D W N x6 x9 x10 x12 x16 x17 σ))
def A66:XFn:=⟨19,[y3],[(.tmp 2)],(C66_0 C66_1 C66_2)⟩
theorem FE66 (args:List V) (σ:H):runX E D W N A66 args σ=F66 E D W N args σ:=by
 unfold F66
 simp only[←JE66_0]
 kernel_rfl
def C67_0:XC:=(.z (.c 4 y1<|
.nil)
 (.z (.m 5 0<|
.m 6 1<|
.k 7 .i 137 [(.t 5),(.t 6)]<|
.b 8 .geq .none (.t 7) (.i 0)<|
.m 4 8<|
.nil)
 .ret))
def T67_0 (E:List (Nat × Blk)) (D:Den) (W:DrawFn) (a b:V) (σ:H):Ans:=
 callK (D 137 [a,b] σ) fun u1 s2=>
 rtInt .i64 u1 fun x3=>
 some ((V.bool (leF (Int.ofNat 0) x3)),s2)
def F67 (N:Nat) (args:List V) (σ:H):Ans:=
 rtCons args fun x1 l2=>
 rtCons l2 fun x3 l4=>
 rtNil l4 (
 T67_0 E D W x1 x3 σ)
def A67:XFn:=⟨9,[.any,.any],[(.tmp 4)],C67_0⟩
theorem FE67 (args:List V) (σ:H):runX E D W N A67 args σ=F67 E D W N args σ:=by kernel_rfl
def C68_0:XC:=(.z (.P 1 (.box 145 (.t 0))<|
.c 2 y1<|
.nil)
 (.z (.f 3 10 1<|
.l 4 .i 3<|
.b 5 .lss .none (.t 4) (.i 0)<|
.m 6 5<|
.gO 6 false (.p 7 [1,6] (.faddr 10 (.t 1))<|
.op (some 8) .i [7,6] (.load none (.t 7))<|
.p 9 [1,6] (.faddr 9 (.t 1))<|
.p 10 [9,6] (.load none (.t 9))<|
.p 11 [10,6] (.len false (.t 10))<|
.p 12 [1,6] (.faddr 8 (.t 1))<|
.p 13 [12,6] (.load none (.t 12))<|
.p 14 [13,6] (.len false (.t 13))<|
.p 15 [11,14,6] (.bin .add .none (.t 11) (.t 14))<|
.p 16 [8,15,6] (.bin .gtr .none (.t 8) (.t 15))<|
.nil) 17 6 16<|
.m 2 17<|
.nil)
 .ret))
def T68_0 (E:List (Nat × Blk)) (D:Den) (W:DrawFn) (a:Int) (b:V) (c d e f:Bool) (g h:Int) (i j:V) (k:Int) (l:Bool) (m:Int) (σ:H):Ans:=
 nbK [.int .i64 a,b,.bool c,.bool d,.bool e,.bool f,.int .i64 g,.int .i64 h,i,j,.int .i64 k,.bool l,.int .i64 m] σ fun s1=>
 ldK E s1 (H.next σ) 10 fun u2=>
 rtInt .i64 u2 fun x3=>
 joinB (fun c4 s5=>
 some ((V.bool c4),s5)) fun k6=>
 condK (ltF x3 (Int.ofNat 0)) (
 k6 true s1) (
 ldK E s1 (H.next σ) 10 fun u7=>
 rtInt .i64 u7 fun x8=>
 ldK E s1 (H.next σ) 9 fun u9=>
 slenK u9 fun n10=>
 ldK E s1 (H.next σ) 8 fun u11=>
 slenK u11 fun n12=>
 k6 (ltF (addF .i64 (Int.ofNat n10) (Int.ofNat n12)) x8) s1)
def F68 (N:Nat) (args:List V) (σ:H):Ans:=
 rtCons args fun x1 l2=>
 rtAgg x1 fun l3=>
 xcI .i64 l3 fun x6 l5=>
 rtCons l5 fun x7 l8=>
 xcB l8 fun x11 l10=>
 xcB l10 fun x14 l13=>
 xcB l13 fun x17 l16=>
 xcB l16 fun x20 l19=>
 xcI .i64 l19 fun x23 l22=>
 xcI .i64 l22 fun x26 l25=>
 rtCons l25 fun x27 l28=>
 rtCons l28 fun x29 l30=>
 xcI .i64 l30 fun x33 l32=>
 xcB l32 fun x36 l35=>
 xcI .i64 l35 fun x39 l38=>
 rtNil l38 (
 rtNil l2 (
 T68_0 E D W x6 x7 x11 x14 x17 x20 x23 x26 x27 x29 x33 x36 x39 σ))
def A68:XFn:=⟨18,[y6],[(.tmp 2)],C68_0⟩
theorem FE68 (args:List V) (σ:H):runX E D W N A68 args σ=F68 E D W N args σ:=by kernel_rfl
def C69_0:XC:=(.z (.c 4 y1<|
.nil)
 (.z (.m 5 0<|
.m 6 1<|
.k 7 .i 138 [(.t 5),(.t 6)]<|
.b 8 .geq .none (.t 7) (.i 0)<|
.m 4 8<|
.nil)
 .ret))
def T69_0 (E:List (Nat × Blk)) (D:Den) (W:DrawFn) (a b:V) (σ:H):Ans:=
 callK (D 138 [a,b] σ) fun u1 s2=>
 rtInt .i64 u1 fun x3=>
 some ((V.bool (leF (Int.ofNat 0) x3)),s2)
def F69 (N:Nat) (args:List V) (σ:H):Ans:=
 rtCons args fun x1 l2=>
 rtCons l2 fun x3 l4=>
 rtNil l4 (
 T69_0 E D W x1 x3 σ)
def A69:XFn:=⟨9,[.any,.any],[(.tmp 4)],C69_0⟩
theorem FE69 (args:List V) (σ:H):runX E D W N A69 args σ=F69 E D W N args σ:=by kernel_rfl
def C71_0:XC:=(.z (.m 4 1<|
.nil)
 (.cond (.tmp 4) (.ops (.m 5 0<|
.n 6 5<|
.f 7 0 6<|
.l 8 .any 7<|
.k 9 y10 139 [(.t 8),y20,(.i 1)]<|
.nil))
 (.ops (.m 10 0<|
.n 11 10<|
.f 12 0 11<|
.l 13 .any 12<|
.k 14 y10 139 [(.t 13),(.con y16),(.i 1)]<|
.nil))))
def T71_0 (E:List (Nat × Blk)) (D:Den) (W:DrawFn) (a b:Nat) (c:Bool) (σ:H):Ans:=
 condK c (
 ldK E σ a b fun u1=>
 callK (D 139 [u1,.int .u64 (Int.ofNat 1),.int .i64 (Int.ofNat 1)] σ) fun u2 s3=>
 rtTup u2 fun l4=>
 rtNil l4 (
 some ((V.tup []),s3))) (
 ldK E σ a b fun u5=>
 callK (D 139 [u5,.int .u64 (Int.ofNat 0),.int .i64 (Int.ofNat 1)] σ) fun u6 s7=>
 rtTup u6 fun l8=>
 rtNil l8 (
 some ((V.tup []),s7)))
def F71 (N:Nat) (args:List V) (σ:H):Ans:=
 rtCons args fun x1 l2=>
 rtPtr x1 fun b3 o4=>
 xcB l2 fun x7 l6=>
 rtNil l6 (
 T71_0 E D W b3 o4 x7 σ)
def A71:XFn:=⟨15,[.ptr,.bool],[],C71_0⟩
theorem FE71 (args:List V) (σ:H):runX E D W N A71 args σ=F71 E D W N args σ:=by kernel_rfl
def G72_0:List AOper:=[⟨(some 58),.mov (.tmp 0),none⟩,⟨(some 59),.nilck (.tmp 58),none⟩,⟨(some 60),.faddr 0 (.tmp 59),none⟩,⟨(some 61),.load none (.tmp 60),none⟩,⟨(some 62),.mov (.tmp 2),none⟩,⟨(some 63),.conv (.toInt .u64) (.tmp 62),none⟩,⟨(some 64),.faddr 4 (.tmp 4),none⟩,⟨(some 65),.load none (.tmp 64),none⟩,⟨(some 66),.conv (.toInt .u64) (.tmp 65),none⟩,⟨(some 67),.bin .sub .none (.tmp 63) (.tmp 66),none⟩,⟨(some 68),.call 142 [(.tmp 67)],none⟩,⟨(some 69),.buildSlice 34 1 [V.nils] [(0,1,(.tmp 68))],none⟩,⟨(some 70),.call 74 [(.tmp 61),(.tmp 69)],none⟩]
def H72_0:List DP:=[⟨0,[0]⟩,⟨1,[58]⟩,⟨3,[59]⟩,⟨7,[60]⟩,⟨0,[2]⟩,⟨16,[62]⟩,⟨0,[4]⟩,⟨64,[64]⟩,⟨192,[65]⟩,⟨496,[63,66]⟩,⟨1008,[67]⟩,⟨2032,[68]⟩,⟨4095,[61,69]⟩]
def G72_1:List AOper:=[⟨(some 23),.mov (.tmp 0),none⟩,⟨(some 24),.nilck (.tmp 23),none⟩,⟨(some 25),.faddr 0 (.tmp 24),none⟩,⟨(some 26),.load none (.tmp 25),none⟩,⟨(some 27),.mov (.tmp 2),none⟩,⟨(some 28),.call 143 [(.tmp 27)],none⟩,⟨(some 29),.buildSlice 34 1 [V.nils] [(0,1,(.tmp 28))],none⟩,⟨(some 30),.call 74 [(.tmp 26),(.tmp 29)],none⟩]
def H72_1:List DP:=[⟨0,[0]⟩,⟨1,[23]⟩,⟨3,[24]⟩,⟨7,[25]⟩,⟨0,[2]⟩,⟨16,[27]⟩,⟨48,[28]⟩,⟨127,[26,29]⟩]
def C72_0 (cc1:XC):XC:=(.z (.P 4 (.box 141 (.t 1))<|
.nil)
 (.z (.O 9 y2 (.load (some 6) (.t 4))<|
.m 10 2<|
.k 11 .bool 132 [(.t 9),(.t 10)]<|
.m 6 11<|
.nil)
 (.seq (.z (.f 12 3 4<|
.l 13 .bool 12<|
.nil)
 (.cond (.tmp 13) (.ops (.m 14 0<|
.m 15 6<|
.P 16 (.un .not (.t 15))<|
.k 17 y10 71 [(.t 14),(.t 16)]<|
.nil))
 .skip))
 (.keep [(0,.ptr),(2,.i),(4,.ptr),(6,.bool)] [] [] cc1))))
def T72_0 (E:List (Nat × Blk)) (D:Den) (W:DrawFn) (K1:Nat→Nat→Int→Nat→Nat→Bool→H→Ans) (a b:Nat) (c d e f:Bool) (g h i:Int) (σ:H):Ans:=
 nbK [.bool c,.bool d,.bool e,.bool f,.int .i64 g,.int .i64 h] σ fun s1=>
 ldnK E s1 (H.next σ) 0 6 fun l2=>
 xcB l2 fun x5 l4=>
 xcB l4 fun x8 l7=>
 xcB l7 fun x11 l10=>
 xcB l10 fun x14 l13=>
 xcI .i64 l13 fun x17 l16=>
 xcI .i64 l16 fun x20 l19=>
 rtNil l19 (
 callK (D 132 [.agg [.bool x5,.bool x8,.bool x11,.bool x14,.int .i64 x17,.int .i64 x20],.int .i64 i] s1) fun u21 s22=>
 rtBool u21 fun x23=>
 ldK E s22 (H.next σ) 3 fun u24=>
 rtBool u24 fun x25=>
 condK x25 (
 callK (D 71 [.ptr a b,.bool (not x23)] s22) fun u26 s27=>
 rtTup u26 fun l28=>
 rtNil l28 (
 K1 a b i (H.next σ) 0 x23 s27)) (
 K1 a b i (H.next σ) 0 x23 s22))
def C72_1:XC:=(.z (.O 19 y2 (.load (some 6) (.t 4))<|
.k 20 (.tup [(.int .u64),.bool]) 140 [(.t 19)]<|
.m 18 20<|
.P 21 (.extract 0 (.t 18))<|
.P 22 (.extract 1 (.t 18))<|
.m 7 21<|
.m 8 22<|
.nil)
 (.block 0 (.z (.m 32 6<|
.m 33 32<|
.gA 33 true (.p 34 [8,33] y32<|
.nil) 35 33 34<|
.m 31 35<|
.nil)
 (.cond (.tmp 31) (.draw (.m 36 0<|
.n 37 36<|
.f 38 0 37<|
.l 39 .any 38<|
.m 40 2<|
.P 41 (.conv (.toInt .u64) (.t 40))<|
.f 42 4 4<|
.l 43 .i 42<|
.P 44 (.conv (.toInt .u64) (.t 43))<|
.b 45 .sub .none (.t 41) (.t 44)<|
.m 46 7<|
.k 47 y10 141 [(.t 39),(.t 45),(.t 46)]<|
.nil) [0,1,3,7,0,16,0,64,192,496,0,2047])
 (.z (.m 49 6<|
.m 50 49<|
.gA 50 true (.p 51 [4,50] (.faddr 0 (.t 4))<|
.op (some 52) .bool [51,50] (.load none (.t 51))<|
.nil) 53 50 52<|
.m 54 53<|
.gA 54 true (.p 55 [4,54] (.faddr 1 (.t 4))<|
.op (some 56) .bool [55,54] (.load none (.t 55))<|
.nil) 57 54 56<|
.m 48 57<|
.nil)
 (.cond (.tmp 48) (.keep [(0,.ptr),(2,.i),(4,.ptr)] [] [] (.gdraw G72_0 H72_0 []))
 (.keep [(0,.ptr),(2,.i)] [] [] (.gdraw G72_1 H72_1 []))))))))
def T72_1 (a b:Nat) (c:Int) (d e:Nat) (f:Bool) (σ:H):Ans:=
 ldnK E σ d e 6 fun l1=>
 xcB l1 fun x4 l3=>
 xcB l3 fun x7 l6=>
 xcB l6 fun x10 l9=>
 xcB l9 fun x13 l12=>
 xcI .i64 l12 fun x16 l15=>
 xcI .i64 l15 fun x19 l18=>
 rtNil l18 (
 callK (D 140 [.agg [.bool x4,.bool x7,.bool x10,.bool x13,.int .i64 x16,.int .i64 x19]] σ) fun u20 s21=>
 rtTup u20 fun l22=>
 xcI .u64 l22 fun x25 l24=>
 xcB l24 fun x28 l27=>
 rtNil l27 (
 joinB (fun c29 s30=>
 condK c29 (
 ldK E s30 a b fun u32=>
 ldK E s30 d (Nat.add e 4) fun u33=>
 rtInt .i64 u33 fun x34=>
 callK (D 141 [u32,.int .u64 (subF .u64 (wrapF .u64 c) (wrapF .u64 x34)),.int .u64 x25] s30) fun u35 s36=>
 rtTup u35 fun l37=>
 rtNil l37 (
 some ((V.tup []),s36))) (
 joinB (fun c38 s39=>
 joinB (fun c41 s42=>
 condK c41 (
 gdrawK (W G72_0 H72_0 [(0,.ptr a b),(2,.int .i64 c),(4,.ptr d e)] s42) fun e44 s45=>
 some ((V.tup []),s45)) (
 gdrawK (W G72_1 H72_1 [(0,.ptr a b),(2,.int .i64 c)] s42) fun e46 s47=>
 some ((V.tup []),s47))) fun k43=>
 condK c38 (
 ldK E s39 d (Nat.add e 1) fun u48=>
 rtBool u48 fun x49=>
 k43 x49 s39) (
 k43 false s39)) fun k40=>
 condK f (
 ldK E s30 d e fun u50=>
 rtBool u50 fun x51=>
 k40 x51 s30) (
 k40 false s30))) fun k31=>
 condK f (
 k31 x28 s21) (
 k31 false s21)))
def J72_1 (E:List (Nat × Blk)) (D:Den) (W:DrawFn) (N:Nat):=T72_1 E D W
def F72 (args:List V) (σ:H):Ans:=
 rtCons args fun x1 l2=>
 rtPtr x1 fun b3 o4=>
 rtCons l2 fun x5 l6=>
 rtAgg x5 fun l7=>
 xcB l7 fun x10 l9=>
 xcB l9 fun x13 l12=>
 xcB l12 fun x16 l15=>
 xcB l15 fun x19 l18=>
 xcI .i64 l18 fun x22 l21=>
 xcI .i64 l21 fun x25 l24=>
 rtNil l24 (
 xcI .i64 l6 fun x28 l27=>
 rtNil l27 (
 T72_0 E D W (J72_1 E D W N ) b3 o4 x10 x13 x16 x19 x22 x25 x28 σ))
def A72:XFn:=⟨71,[.ptr,y2,.i],[],(C72_0 C72_1)⟩
theorem FE72 (args:List V) (σ:H):runX E D W N A72 args σ=F72 E D W N args σ:=by kernel_rfl
def q74a:List (Nat × XTy):=[(0,.any),(4,.any),(11,.any),(12,.i),(13,.i)]
def Fin74 (E:List (Nat × Blk)):St→Ans:=fun s=>resK E s [] fun l=>some (oneV l,s.σ)
def C74_0 (cc1:XC):XC:=(.z (.m 7 1<|
.k 8 .one 147 [(.t 7)]<|
.m 4 8<|
.nil)
 (.z (.m 9 4<|
.u 10 9<|
.k 11 .one 148 [(.t 10)]<|
.u 12 11<|
.q 13 0<|
.nil)
 (.block 0 (.loop q74a [] [] cc1))))
def T74_0 (E:List (Nat × Blk)) (D:Den) (W:DrawFn) (K1:V→V→V→Int→Int→H→Ans) (a b:V) (σ:H):Ans:=
 callK (D 147 [b] σ) fun u1 s2=>
 rtOne u1 (
 slenK u1 fun n3=>
 callK (D 148 [.int .i64 (Int.ofNat n3)] s2) fun u4 s5=>
 rtOne u4 (
 slenK u4 fun n6=>
 K1 a u1 u4 (Int.ofNat n6) (Int.ofNat 0) s5))
def C74_1:XC:=(.z (.b 14 .lss .none (.t 13) (.t 12)<|
.nil)
 (.seq (.cond (.tmp 14) .skip
 y22)
 (.seq (.block 1 (.z (.s 15 1 11 13<|
.l 16 .i 15<|
.m 6 16<|
.nil)
 (.z (.m 17 0<|
.m 18 6<|
.m 19 6<|
.b 20 .geq .none (.t 19) (.i 16384)<|
.k 21 y10 149 [(.t 17),(.t 18),(.t 20)]<|
.nil)
 (.z (.m 22 0<|
.m 23 4<|
.m 24 6<|
.p 25 [23,24] (.sliceSl 1 (.t 23) none (some (.t 24)) none)<|
.k 26 y10 77 [(.t 22),(.t 25)]<|
.nil)
 (.ops (.m 27 4<|
.m 28 6<|
.p 29 [27,28] (.sliceSl 1 (.t 27) (some (.t 28)) none none)<|
.m 4 29<|
.nil))))))
 (.ops (.b 30 .add .none (.t 13) (.i 1)<|
.m 13 30<|
.nil)))))
def T74_1 (E:List (Nat × Blk)) (D:Den) (W:DrawFn) (R1:V→V→V→Int→Int→H→Ans) (a b c:V) (d e:Int) (σ:H):Ans:=
 condK (ltF e d) (
 iaddrSK 1 c e fun b1 o2=>
 ldK E σ b1 o2 fun u3=>
 rtInt .i64 u3 fun x4=>
 callK (D 149 [a,.int .i64 x4,.bool (leF (Int.ofNat 16384) x4)] σ) fun u5 s6=>
 rtTup u5 fun l7=>
 rtNil l7 (
 gK (sliceV 1 b none (some (V.int .i64 x4)) none) fun u8=>
 callK (D 77 [a,u8] s6) fun u9 s10=>
 rtTup u9 fun l11=>
 rtNil l11 (
 gK (sliceV 1 b (some (V.int .i64 x4)) none none) fun u12=>
 R1 a u12 c d (addF .i64 e (Int.ofNat 1)) s10))) (
 some ((V.tup []),σ))
def S74_0 (a b:V) (σ:H):St:=⟨[(0,a),(1,b)],[],[],σ⟩
def S74_1 (a b c:V) (d e:Int) (σ:H):St:=⟨[(0,a),(4,b),(11,c),(12,.int .i64 d),(13,.int .i64 e)],[],[],σ⟩
theorem P74_0 (cc1:XC) (a b:V) (σ:H) :
 denC E D W N (C74_0 cc1) (S74_0 a b σ) (Fin74 E) nX (Fin74 E) =
 T74_0 E D W (fun a c d e f σ=>iterK (fun rec s'=>denC E D W N cc1 s' (kX q74a [] [] rec) (blkK 0 (Fin74 E) nX) (Fin74 E)) N (S74_1 a c d e f σ)) a b σ:=by kernel_rfl
theorem P74_1 (li1:St→Ans) (a b c:V) (d e:Int) (σ:H) :
 denC E D W N (C74_1 ) (S74_1 a b c d e σ) (kX q74a [] [] li1) (blkK 0 (Fin74 E) nX) (Fin74 E) =
 T74_1 E D W (fun a b c d e σ=>li1 (S74_1 a b c d e σ)) a b c d e σ:=by kernel_rfl
def L74_1 (E:List (Nat × Blk)) (D:Den) (W:DrawFn) (N:Nat) (n:Nat):V→V→V→Int→Int→H→Ans:=
 Nat.rec (fun _ _ _ _ _ _=>none) (fun _ ih=>T74_1 E D W ih) n
theorem LE74_1 (n:Nat):∀(a b c:V) (d e:Int) (σ:H),
 iterK (fun rec s'=>denC E D W N C74_1 s' (kX q74a [] [] rec) (blkK 0 (Fin74 E) nX) (Fin74 E)) n (S74_1 a b c d e σ)=L74_1 E D W N n a b c d e σ:=by
 induction n with
 | zero=>intro a b c d e σ;rfl
 | succ n ihn=>
  intro a b c d e σ
  rw[iterK_succ]
  refine(P74_1 E D W N  (iterK (fun rec s'=>denC E D W N C74_1 s' (kX q74a [] [] rec) (blkK 0 (Fin74 E) nX) (Fin74 E)) n) a b c d e σ).trans ?_
  simp only[ihn]
  kernel_rfl
def J74_0:=T74_0 E D W (L74_1 E D W N N)
theorem JE74_0 (a b:V) (σ:H) :
 denC E D W N (C74_0 C74_1) (S74_0 a b σ) (Fin74 E) nX (Fin74 E)=J74_0 E D W N a b σ:=by
 refine(P74_0 E D W N C74_1  a b σ).trans ?_
 simp only[LE74_1]
 kernel_rfl
def F74 (args:List V) (σ:H):Ans:=
 rtCons args fun x1 l2=>
 rtCons l2 fun x3 l4=>
 rtNil l4 (
 J74_0 E D W N x1 x3 σ)
def A74:XFn:=⟨31,[.any,.any],[],(C74_0 C74_1)⟩
theorem FE74 (args:List V) (σ:H):runX E D W N A74 args σ=F74 E D W N args σ:=by
 unfold F74
 simp only[←JE74_0]
 kernel_rfl
def C77_0:XC:=(.z (.m 4 0<|
.b 5 .neq .ptr (.t 4) (.con V.nilp)<|
.nil)
 (.cond (.tmp 5) (.ops (.m 6 0<|
.n 7 6<|
.f 8 0 7<|
.m 9 1<|
.p 10 [9] (.buildSlice 34 1 [V.nils] [(0,1,(.t 9))])<|
.k 11 y10 151 [(.t 8),(.t 10)]<|
.nil))
 .skip))
def T77_0 (E:List (Nat × Blk)) (D:Den) (W:DrawFn) (a b:V) (σ:H):Ans:=
 eqK .ptr a V.nilp fun c1=>
 condK (not c1) (
 rtPtr a fun b2 o3=>
 fillK [(0,1,b)] [V.nils] fun l4=>
 chk (allOne l4) (
 let s5:=newB σ (.cells l4);
 callK (D 151 [.ptr b2 o3,.sl (H.next σ) 0 1 (.ex 1)] s5) fun u6 s7=>
 rtTup u6 fun l8=>
 rtNil l8 (
 some ((V.tup []),s7)))) (
 some ((V.tup []),σ))
def F77 (N:Nat) (args:List V) (σ:H):Ans:=
 rtCons args fun x1 l2=>
 rtCons l2 fun x3 l4=>
 rtNil l4 (
 T77_0 E D W x1 x3 σ)
def A77:XFn:=⟨12,[.any,.any],[],C77_0⟩
theorem FE77 (args:List V) (σ:H):runX E D W N A77 args σ=F77 E D W N args σ:=by kernel_rfl
def C85_0:XC:=(.z (.q 2 0<|
.nil)
 (.seq (.z (.m 3 0<|
.b 4 .eql .ptr (.t 3) (.con V.nilp)<|
.nil)
 (.cond (.tmp 4) (.z (.q 2 0<|
.nil)
 .ret)
 .skip))
 (.z (.m 5 0<|
.n 6 5<|
.f 7 0 6<|
.k 8 .i 162 [(.t 7)]<|
.m 2 8<|
.nil)
 .ret)))
def T85_0 (E:List (Nat × Blk)) (D:Den) (W:DrawFn) (a:V) (σ:H):Ans:=
 eqK .ptr a V.nilp fun c1=>
 condK c1 (
 some ((V.int .i64 (Int.ofNat 0)),σ)) (
 rtPtr a fun b2 o3=>
 callK (D 162 [.ptr b2 o3] σ) fun u4 s5=>
 rtInt .i64 u4 fun x6=>
 some ((V.int .i64 x6),s5))
def F85 (N:Nat) (args:List V) (σ:H):Ans:=
 rtCons args fun x1 l2=>
 rtNil l2 (
 T85_0 E D W x1 σ)
def A85:XFn:=⟨9,[.any],[(.tmp 2)],C85_0⟩
theorem FE85 (args:List V) (σ:H):runX E D W N A85 args σ=F85 E D W N args σ:=by kernel_rfl
def C86_0:XC:=(.z (.c 2 V.nils<|
.nil)
 (.seq (.z (.m 3 0<|
.b 4 .eql .ptr (.t 3) (.con V.nilp)<|
.nil)
 (.cond (.tmp 4) (.z (.c 2 V.nils<|
.nil)
 .ret)
 .skip))
 (.z (.m 5 0<|
.n 6 5<|
.f 7 0 6<|
.l 8 .any 7<|
.O 9 .one (.append 5 1 1 (.con V.nils) (.t 8))<|
.m 2 9<|
.nil)
 .ret)))
def T86_0 (E:List (Nat × Blk)) (D:Den) (W:DrawFn) (a:V) (σ:H):Ans:=
 eqK .ptr a V.nilp fun c1=>
 condK c1 (
 some (V.nils,σ)) (
 rtPtr a fun b2 o3=>
 ldK E σ b2 o3 fun u4=>
 appK E 1 1 V.nils u4 σ fun u5 s6=>
 rtOne u5 (
 some (u5,s6)))
def F86 (N:Nat) (args:List V) (σ:H):Ans:=
 rtCons args fun x1 l2=>
 rtNil l2 (
 T86_0 E D W x1 σ)
def A86:XFn:=⟨10,[.any],[(.tmp 2)],C86_0⟩
theorem FE86 (args:List V) (σ:H):runX E D W N A86 args σ=F86 E D W N args σ:=by kernel_rfl
def q117a:List (Nat × XTy):=[(0,.str),(1,.i)]
def Fin117 (E:List (Nat × Blk)):St→Ans:=fun s=>resK E s [(.tmp 4)] fun l=>some (oneV l,s.σ)
def b117a (c0:XC):Nat→St→Ans:=blkK 0 (dX E D W N (.keep [(1,.i)] [] [] c0) (Fin117 E) nX (Fin117 E)) nX
def b117b (c0:XC) (l0:St→Ans):Nat→St→Ans:=blkK 3 (kX q117a [] [] l0) (blkK 2 (kX q117a [] [] l0) (blkK 1 (kX q117a [] [] l0) (b117a E D W N c0)))
def C117_0 (cc1:XC) (cc2:XC):XC:=(.z (.q 4 0<|
.nil)
 (.seq (.block 0 (.loop q117a [] [] cc2))
 (.keep [(1,.i)] [] [] cc1)))
def T117_0 (E:List (Nat × Blk)) (D:Den) (W:DrawFn) (K2:BS→Int→H→Ans) (a:BS) (b:Int) (σ:H):Ans:=
 K2 a b σ
def C117_1:XC:=(.z (.m 74 1<|
.m 4 74<|
.nil)
 .ret)
def T117_1 (E:List (Nat × Blk)) (D:Den) (W:DrawFn) (a:Int) (σ:H):Ans:=
 some ((V.int .i64 a),σ)
def C117_2 (cc3:XC):XC:=(.seq (.z (.m 5 1<|
.m 6 0<|
.P 7 (.len true (.t 6))<|
.b 8 .lss .none (.t 5) (.t 7)<|
.nil)
 (.cond (.tmp 8) .skip
 y22))
 (.block 1 (.block 2 (.z (.m 11 0<|
.m 12 1<|
.P 13 (.idxStr (.t 11) (.t 12))<|
.b 14 .eql .none (.t 13) (.con (V.int .u8 (Int.ofNat 32)))<|
.m 15 14<|
.gO 15 false (.p 16 [0,15] y13<|
.p 17 [1,15] y15<|
.p 18 [16,17,15] (.idxStr (.t 16) (.t 17))<|
.p 19 [18,15] (.bin .eql .none (.t 18) (.con (V.int .u8 (Int.ofNat 9))))<|
.nil) 20 15 19<|
.m 21 20<|
.gO 21 false (.p 22 [0,21] y13<|
.p 23 [1,21] y15<|
.p 24 [22,23,21] (.idxStr (.t 22) (.t 23))<|
.p 25 [24,21] (.bin .eql .none (.t 24) (.con (V.int .u8 (Int.ofNat 10))))<|
.nil) 26 21 25<|
.m 27 26<|
.gO 27 false (.p 28 [0,27] y13<|
.p 29 [1,27] y15<|
.p 30 [28,29,27] (.idxStr (.t 28) (.t 29))<|
.p 31 [30,27] (.bin .eql .none (.t 30) (.con (V.int .u8 (Int.ofNat 13))))<|
.nil) 32 27 31<|
.m 10 32<|
.nil)
 (.cond (.tmp 10) (.ops (.m 33 1<|
.b 34 .add .none (.t 33) (.i 1)<|
.m 1 34<|
.nil))
 (.z (.m 36 0<|
.m 37 1<|
.P 38 (.idxStr (.t 36) (.t 37))<|
.b 39 .eql .none (.t 38) y14<|
.m 40 39<|
.gA 40 true (.p 41 [0,40] y13<|
.p 42 [1,40] y15<|
.p 43 [42,40] (.bin .add .none (.t 42) (.i 1))<|
.op (some 44) (.int .u8) [41,43,40] (.call 205 [(.t 41),(.t 43)])<|
.p 45 [44,40] (.bin .eql .none (.t 44) y14)<|
.nil) 46 40 45<|
.m 35 46<|
.nil)
 (.cond (.tmp 35) (.z (.m 47 1<|
.b 48 .add .none (.t 47) (.i 2)<|
.m 1 48<|
.nil)
 (.block 3 (.loop q117a [] [] cc3)))
 (.z (.m 9 1<|
.m 4 9<|
.nil)
 .ret))))))))
def T117_2 (E:List (Nat × Blk)) (D:Den) (W:DrawFn) (K1:Int→H→Ans) (K3:BS→Int→H→Ans) (R2:BS→Int→H→Ans) (a:BS) (b:Int) (σ:H):Ans:=
 condK (ltF b (Int.ofNat (BS.len a))) (
 idxStrX a b fun x1=>
 joinB (fun c2 s3=>
 joinB (fun c5 s6=>
 joinB (fun c8 s9=>
 condK c8 (
 R2 a (addF .i64 b (Int.ofNat 1)) s9) (
 idxStrX a b fun x11=>
 joinB (fun c12 s13=>
 condK c12 (
 K3 a (addF .i64 b (Int.ofNat 2)) s13) (
 some ((V.int .i64 b),s13))) fun k14=>
 condK (eqF x11 (Int.ofNat 45)) (
 callK (D 205 [.str a,.int .i64 (addF .i64 b (Int.ofNat 1))] s9) fun u15 s16=>
 rtInt .u8 u15 fun x17=>
 k14 (eqF x17 (Int.ofNat 45)) s16) (
 k14 false s9))) fun k10=>
 condK c5 (
 k10 true s6) (
 idxStrX a b fun x18=>
 k10 (eqF x18 (Int.ofNat 13)) s6)) fun k7=>
 condK c2 (
 k7 true s3) (
 idxStrX a b fun x19=>
 k7 (eqF x19 (Int.ofNat 10)) s3)) fun k4=>
 condK (eqF x1 (Int.ofNat 32)) (
 k4 true σ) (
 idxStrX a b fun x20=>
 k4 (eqF x20 (Int.ofNat 9)) σ)) (
 K1 b σ)
def C117_3:XC:=(.seq (.z (.m 49 1<|
.m 50 0<|
.P 51 (.len true (.t 50))<|
.b 52 .lss .none (.t 49) (.t 51)<|
.m 53 52<|
.gA 53 true (.p 54 [0,53] y13<|
.p 55 [1,53] y15<|
.p 56 [54,55,53] (.idxStr (.t 54) (.t 55))<|
.p 57 [56,53] (.bin .neq .none (.t 56) (.con (V.int .u8 (Int.ofNat 10))))<|
.nil) 58 53 57<|
.nil)
 (.cond (.tmp 58) .skip
 (.exit 3)))
 (.block 4 (.seq (.z (.m 59 0<|
.m 60 1<|
.P 61 (.idxStr (.t 59) (.t 60))<|
.b 62 .eql .none (.t 61) y14<|
.m 63 62<|
.gA 63 true (.p 64 [0,63] y13<|
.p 65 [1,63] y15<|
.p 66 [65,63] (.bin .add .none (.t 65) (.i 1))<|
.op (some 67) (.int .u8) [64,66,63] (.call 205 [(.t 64),(.t 66)])<|
.p 68 [67,63] (.bin .eql .none (.t 67) y14)<|
.nil) 69 63 68<|
.nil)
 (.cond (.tmp 69) (.z (.m 70 1<|
.b 71 .add .none (.t 70) (.i 2)<|
.m 1 71<|
.nil)
 (.exit 3))
 .skip))
 (.ops (.m 72 1<|
.b 73 .add .none (.t 72) (.i 1)<|
.m 1 73<|
.nil)))))
def T117_3 (E:List (Nat × Blk)) (D:Den) (W:DrawFn) (R2:BS→Int→H→Ans) (R3:BS→Int→H→Ans) (a:BS) (b:Int) (σ:H):Ans:=
 joinB (fun c1 s2=>
 condK c1 (
 idxStrX a b fun x4=>
 joinB (fun c5 s6=>
 condK c5 (
 R2 a (addF .i64 b (Int.ofNat 2)) s6) (
 R3 a (addF .i64 b (Int.ofNat 1)) s6)) fun k7=>
 condK (eqF x4 (Int.ofNat 45)) (
 callK (D 205 [.str a,.int .i64 (addF .i64 b (Int.ofNat 1))] s2) fun u8 s9=>
 rtInt .u8 u8 fun x10=>
 k7 (eqF x10 (Int.ofNat 45)) s9) (
 k7 false s2)) (
 R2 a b s2)) fun k3=>
 condK (ltF b (Int.ofNat (BS.len a))) (
 idxStrX a b fun x11=>
 k3 (not (eqF x11 (Int.ofNat 10))) σ) (
 k3 false σ)
def S117_0 (a:BS) (b:Int) (σ:H):St:=⟨[(0,.str a),(1,.int .i64 b)],[],[],σ⟩
def S117_1 (a:Int) (σ:H):St:=⟨[(1,.int .i64 a)],[],[],σ⟩
theorem P117_0 (cc1:XC) (cc2:XC) (a:BS) (b:Int) (σ:H) :
 denC E D W N (C117_0 cc1 cc2) (S117_0 a b σ) (Fin117 E) nX (Fin117 E) =
 T117_0 E D W (fun a b σ=>iterK (fun rec s'=>denC E D W N cc2 s' (kX q117a [] [] rec) (b117a E D W N cc1) (Fin117 E)) N (S117_0 a b σ)) a b σ:=by kernel_rfl
theorem P117_2 (cc1:XC) (cc3:XC) (li2:St→Ans) (a:BS) (b:Int) (σ:H) :
 denC E D W N (C117_2 cc3) (S117_0 a b σ) (kX q117a [] [] li2) (b117a E D W N cc1) (Fin117 E) =
 T117_2 E D W (fun b σ=>denC E D W N cc1 (S117_1 b σ) (Fin117 E) nX (Fin117 E)) (fun a b σ=>iterK (fun rec s'=>denC E D W N cc3 s' (kX q117a [] [] rec) (b117b E D W N cc1 li2) (Fin117 E)) N (S117_0 a b σ)) (fun a b σ=>li2 (S117_0 a b σ)) a b σ:=by kernel_rfl
theorem P117_3 (cc1:XC) (li2:St→Ans) (li3:St→Ans) (a:BS) (b:Int) (σ:H) :
 denC E D W N (C117_3 ) (S117_0 a b σ) (kX q117a [] [] li3) (b117b E D W N cc1 li2) (Fin117 E) =
 T117_3 E D W (fun a b σ=>li2 (S117_0 a b σ)) (fun a b σ=>li3 (S117_0 a b σ)) a b σ:=by kernel_rfl
def J117_1 (E:List (Nat × Blk)) (D:Den) (W:DrawFn) (N:Nat):=T117_1 E D W
theorem JE117_1 (a:Int) (σ:H) :
 denC E D W N C117_1 (S117_1 a σ) (Fin117 E) nX (Fin117 E)=J117_1 E D W N a σ:=by kernel_rfl
def L117_3 (E:List (Nat × Blk)) (D:Den) (W:DrawFn) (N:Nat) (R2:BS→Int→H→Ans) (n:Nat):BS→Int→H→Ans:=
 Nat.rec (fun _ _ _=>none) (fun _ ih=>T117_3 E D W R2 ih) n
theorem LE117_3 (li2:St→Ans) (n:Nat):∀(a:BS) (b:Int) (σ:H),
 iterK (fun rec s'=>denC E D W N C117_3 s' (kX q117a [] [] rec) (b117b E D W N C117_1 li2) (Fin117 E)) n (S117_0 a b σ)=L117_3 E D W N (fun a b σ=>li2 (S117_0 a b σ)) n a b σ:=by
 induction n with
 | zero=>intro a b σ;rfl
 | succ n ihn=>
  intro a b σ
  rw[iterK_succ]
  refine(P117_3 E D W N C117_1 li2 (iterK (fun rec s'=>denC E D W N C117_3 s' (kX q117a [] [] rec) (b117b E D W N C117_1 li2) (Fin117 E)) n) a b σ).trans ?_
  simp only[ihn]
  kernel_rfl
def L117_2 (n:Nat):BS→Int→H→Ans:=
 Nat.rec (fun _ _ _=>none) (fun _ ih=>T117_2 E D W (J117_1 E D W N ) (L117_3 E D W N ih N) ih) n
theorem LE117_2 (n:Nat):∀(a:BS) (b:Int) (σ:H),
 iterK (fun rec s'=>denC E D W N (C117_2 C117_3) s' (kX q117a [] [] rec) (b117a E D W N C117_1) (Fin117 E)) n (S117_0 a b σ)=L117_2 E D W N n a b σ:=by
 induction n with
 | zero=>intro a b σ;rfl
 | succ n ihn=>
  intro a b σ
  rw[iterK_succ]
  refine(P117_2 E D W N C117_1 C117_3 (iterK (fun rec s'=>denC E D W N (C117_2 C117_3) s' (kX q117a [] [] rec) (b117a E D W N C117_1) (Fin117 E)) n) a b σ).trans ?_
  simp only[ihn,JE117_1,LE117_3]
  kernel_rfl
def J117_0:=T117_0 E D W (L117_2 E D W N N)
theorem JE117_0 (a:BS) (b:Int) (σ:H) :
 denC E D W N (C117_0 C117_1 (C117_2 C117_3)) (S117_0 a b σ) (Fin117 E) nX (Fin117 E)=J117_0 E D W N a b σ:=by
 refine(P117_0 E D W N C117_1 (C117_2 C117_3)  a b σ).trans ?_
 simp only[LE117_2]
 kernel_rfl
def F117 (args:List V) (σ:H):Ans:=
 xcS args fun x3 l2=>
 xcI .i64 l2 fun x6 l5=>
 rtNil l5 (
 J117_0 E D W N x3 x6 σ)
def A117:XFn:=⟨75,[.str,.i],[(.tmp 4)],(C117_0 C117_1 (C117_2 C117_3))⟩
theorem FE117 (args:List V) (σ:H):runX E D W N A117 args σ=F117 E D W N args σ:=by
 unfold F117
 simp only[←JE117_0]
 kernel_rfl
def q118a:List (Nat × List XTy):=[(4,[.i,.str,.i]),(6,[.i,.str,.i])]
def C118_0 (cc1:XC) (cc2:XC):XC:=(.z (.pal 4 [] 121 [y0,y5,y0]<|
.q 5 0<|
.nil)
 (.z (.m 10 1<|
.op (some 11) y7 [10] (.build [y0,y5,y0] [(2,1,(.t 10))])<|
.pal 6 [] 121 [y0,y5,y0]<|
.op none y7 [6,11] (.store 3 (.t 6) (.t 11))<|
.nil)
 (.z (.m 12 0<|
.m 13 1<|
.P 14 (.idxStr (.t 12) (.t 13))<|
.m 7 14<|
.nil)
 (.z (.c 8 y18<|
.nil)
 (.seq (.block 0 (.z (.m 32 7<|
.k 33 .bool 206 [(.t 32)]<|
.m 31 33<|
.nil)
 (.cond (.tmp 31) (.z (.m 34 0<|
.m 35 1<|
.k 36 .i 207 [(.t 34),(.t 35)]<|
.m 8 36<|
.nil)
 (.seq (.z (.m 37 8<|
.b 38 .lss .none (.t 37) (.i 0)<|
.nil)
 (.cond (.tmp 38) (.z (.O 39 y7 (.load (some 3) (.t 6))<|
.op none y7 [4,39] (.store 3 (.t 4) (.t 39))<|
.c 5 y18<|
.nil)
 .ret)
 .skip))
 (.seq (.draw (.m 40 0<|
.m 41 1<|
.m 42 8<|
.p 43 [40,41,42] (.sliceStr (.t 40) (some (.t 41)) (some (.t 42)))<|
.f 44 0 6<|
.op none .any [44] (.store 1 (.t 44) (.i 2))<|
.f 45 1 6<|
.w 1 45 43<|
.nil) [0,0,0,7,0,16,63,127])
 (.seq (.z (.m 46 7<|
.b 47 .leq .none (.t 46) (.con (V.int .u8 (Int.ofNat 90)))<|
.nil)
 (.cond (.tmp 47) (.ops (.f 48 0 6<|
.op none .any [48] (.store 1 (.t 48) (.i 1))<|
.nil))
 .skip))
 (.keep [(8,.i)] [4,6] q118a cc2)))))
 (.z (.m 54 7<|
.k 55 .bool 209 [(.t 54)]<|
.m 56 55<|
.gO 56 false (.p 57 [7,56] (.mov (.t 7))<|
.p 58 [57,56] (.bin .eql .none (.t 57) y14)<|
.p 59 [58,56] (.mov (.t 58))<|
.grp 59 true (.p 60 [0,59] y13<|
.p 61 [1,59] y15<|
.p 62 [61,59] (.bin .add .none (.t 61) (.i 1))<|
.op (some 63) (.int .u8) [60,62,59] (.call 205 [(.t 60),(.t 62)])<|
.op (some 64) .bool [63,59] (.call 209 [(.t 63)])<|
.nil) 65 [59,64,56] (.t 59) (.t 64) (.con y1)<|
.nil) 66 56 65<|
.m 53 66<|
.nil)
 (.cond (.tmp 53) (.z (.m 67 0<|
.m 68 1<|
.k 69 .i 210 [(.t 67),(.t 68)]<|
.m 8 69<|
.nil)
 (.seq (.z (.m 70 8<|
.b 71 .lss .none (.t 70) (.i 0)<|
.nil)
 (.cond (.tmp 71) (.z (.O 72 y7 (.load (some 3) (.t 6))<|
.op none y7 [4,72] (.store 3 (.t 4) (.t 72))<|
.c 5 y18<|
.nil)
 .ret)
 .skip))
 (.draw (.m 73 0<|
.m 74 1<|
.m 75 8<|
.p 76 [73,74,75] (.sliceStr (.t 73) (some (.t 74)) (some (.t 75)))<|
.f 77 0 6<|
.op none .any [77] (.store 1 (.t 77) (.i 3))<|
.f 78 1 6<|
.w 1 78 76<|
.nil) [0,0,0,7,0,16,63,127])))
 (.z (.m 80 7<|
.b 81 .eql .none (.t 80) (.con (V.int .u8 (Int.ofNat 39)))<|
.m 79 81<|
.nil)
 (.cond (.tmp 79) (.z (.f 82 0 6<|
.op none .any [82] (.store 1 (.t 82) (.i 4))<|
.nil)
 (.ops (.m 84 0<|
.m 85 1<|
.k 86 (.tup [.i,.str]) 211 [(.t 84),(.t 85)]<|
.m 83 86<|
.P 87 (.extract 0 (.t 83))<|
.P 88 (.extract 1 (.t 83))<|
.m 8 87<|
.f 89 1 6<|
.w 1 89 88<|
.nil)))
 (.z (.m 91 7<|
.b 92 .eql .none (.t 91) (.con (V.int .u8 (Int.ofNat 34)))<|
.m 90 92<|
.nil)
 (.cond (.tmp 90) (.z (.f 93 0 6<|
.op none .any [93] (.store 1 (.t 93) (.i 7))<|
.nil)
 (.ops (.m 95 0<|
.m 96 1<|
.k 97 (.tup [.i,.str]) 212 [(.t 95),(.t 96)]<|
.m 94 97<|
.P 98 (.extract 0 (.t 94))<|
.P 99 (.extract 1 (.t 94))<|
.m 8 98<|
.f 100 1 6<|
.w 1 100 99<|
.nil)))
 (.z (.m 15 0<|
.m 16 1<|
.k 17 .i 213 [(.t 15),(.t 16)]<|
.m 9 17<|
.nil)
 (.z (.m 18 9<|
.b 19 .gtr .none (.t 18) (.i 0)<|
.nil)
 (.cond (.tmp 19) (.draw (.m 20 0<|
.m 21 1<|
.m 22 1<|
.m 23 9<|
.b 24 .add .none (.t 22) (.t 23)<|
.p 25 [20,21,24] (.sliceStr (.t 20) (some (.t 21)) (some (.t 24)))<|
.m 26 1<|
.m 27 9<|
.b 28 .add .none (.t 26) (.t 27)<|
.f 29 0 6<|
.op none .any [29] (.store 1 (.t 29) (.i 6))<|
.f 30 1 6<|
.w 1 30 25<|
.m 8 28<|
.nil) [0,0,0,0,12,31,0,0,192,0,512,1599,3647,8191])
 .skip))))))))))))
 (.keep [(8,.i)] [4,6] q118a cc1))))))
def T118_0 (E:List (Nat × Blk)) (D:Den) (W:DrawFn) (K1:Int→Int→BS→Int→Int→BS→Int→H→Ans) (K2:Int→Int→BS→Int→Int→BS→Int→H→Ans) (a:BS) (b:Int) (σ:H):Ans:=
 idxStrX a b fun x1=>
 callK (D 206 [.int .u8 x1] σ) fun u2 s3=>
 rtBool u2 fun x4=>
 condK x4 (
 callK (D 207 [.str a,.int .i64 b] s3) fun u5 s6=>
 rtInt .i64 u5 fun x7=>
 condK (ltF x7 (Int.ofNat 0)) (
 some ((V.tup [.agg [.int .i64 (Int.ofNat 0),.str (BS.mk 0 0),.int .i64 b],.int .i64 (Int.negSucc 0)]),s6)) (
 sliceStrX a (some (V.int .i64 b)) (some (V.int .i64 x7)) fun t8=>
 condK (leF x1 (Int.ofNat 90)) (
 K2 x7 (Int.ofNat 0) (BS.mk 0 0) (Int.ofNat 0) (Int.ofNat 1) t8 b s6) (
 K2 x7 (Int.ofNat 0) (BS.mk 0 0) (Int.ofNat 0) (Int.ofNat 2) t8 b s6))) (
 callK (D 209 [.int .u8 x1] s3) fun u9 s10=>
 rtBool u9 fun x11=>
 joinB (fun c12 s13=>
 condK c12 (
 callK (D 210 [.str a,.int .i64 b] s13) fun u15 s16=>
 rtInt .i64 u15 fun x17=>
 condK (ltF x17 (Int.ofNat 0)) (
 some ((V.tup [.agg [.int .i64 (Int.ofNat 0),.str (BS.mk 0 0),.int .i64 b],.int .i64 (Int.negSucc 0)]),s16)) (
 sliceStrX a (some (V.int .i64 b)) (some (V.int .i64 x17)) fun t18=>
 K1 x17 (Int.ofNat 0) (BS.mk 0 0) (Int.ofNat 0) (Int.ofNat 3) t18 b s16)) (
 condK (eqF x1 (Int.ofNat 39)) (
 callK (D 211 [.str a,.int .i64 b] s13) fun u19 s20=>
 rtTup u19 fun l21=>
 xcI .i64 l21 fun x24 l23=>
 xcS l23 fun x27 l26=>
 rtNil l26 (
 K1 x24 (Int.ofNat 0) (BS.mk 0 0) (Int.ofNat 0) (Int.ofNat 4) x27 b s20)) (
 condK (eqF x1 (Int.ofNat 34)) (
 callK (D 212 [.str a,.int .i64 b] s13) fun u28 s29=>
 rtTup u28 fun l30=>
 xcI .i64 l30 fun x33 l32=>
 xcS l32 fun x36 l35=>
 rtNil l35 (
 K1 x33 (Int.ofNat 0) (BS.mk 0 0) (Int.ofNat 0) (Int.ofNat 7) x36 b s29)) (
 callK (D 213 [.str a,.int .i64 b] s13) fun u37 s38=>
 rtInt .i64 u37 fun x39=>
 condK (ltF (Int.ofNat 0) x39) (
 sliceStrX a (some (V.int .i64 b)) (some (V.int .i64 (addF .i64 b x39))) fun t40=>
 K1 (addF .i64 b x39) (Int.ofNat 0) (BS.mk 0 0) (Int.ofNat 0) (Int.ofNat 6) t40 b s38) (
 K1 (Int.negSucc 0) (Int.ofNat 0) (BS.mk 0 0) (Int.ofNat 0) (Int.ofNat 0) (BS.mk 0 0) b s38))))) fun k14=>
 condK x11 (
 k14 true s10) (
 joinB (fun c41 s42=>
 k14 c41 s42) fun k43=>
 condK (eqF x1 (Int.ofNat 45)) (
 callK (D 205 [.str a,.int .i64 (addF .i64 b (Int.ofNat 1))] s10) fun u44 s45=>
 rtInt .u8 u44 fun x46=>
 callK (D 209 [.int .u8 x46] s45) fun u47 s48=>
 rtBool u47 fun x49=>
 k43 x49 s48) (
 k43 false s10)))
def C118_1:XC:=(.z (.O 101 y7 (.load (some 3) (.t 6))<|
.m 102 8<|
.op none y7 [4,101] (.store 3 (.t 4) (.t 101))<|
.m 5 102<|
.nil)
 .ret)
def T118_1 (E:List (Nat × Blk)) (D:Den) (W:DrawFn) (a b:Int) (c:BS) (d e:Int) (f:BS) (g:Int) (σ:H):Ans:=
 some ((V.tup [.agg [.int .i64 e,.str f,.int .i64 g],.int .i64 a]),σ)
def C118_2:XC:=(.z (.f 49 1 6<|
.l 50 .str 49<|
.k 51 .bool 208 [(.t 50)]<|
.nil)
 (.cond (.tmp 51) (.ops (.f 52 0 6<|
.op none .any [52] (.store 1 (.t 52) (.i 5))<|
.nil))
 .skip))
def T118_2 (E:List (Nat × Blk)) (D:Den) (W:DrawFn) (K1:Int→Int→BS→Int→Int→BS→Int→H→Ans) (a b:Int) (c:BS) (d e:Int) (f:BS) (g:Int) (σ:H):Ans:=
 callK (D 208 [.str f] σ) fun u1 s2=>
 rtBool u1 fun x3=>
 condK x3 (
 K1 a b c d (Int.ofNat 5) f g s2) (
 K1 a b c d e f g s2)
def J118_1 (E:List (Nat × Blk)) (D:Den) (W:DrawFn) (N:Nat):=T118_1 E D W
def J118_2:=T118_2 E D W (J118_1 E D W N )
def F118 (args:List V) (σ:H):Ans:=
 xcS args fun x3 l2=>
 xcI .i64 l2 fun x6 l5=>
 rtNil l5 (
 T118_0 E D W (J118_1 E D W N ) (J118_2 E D W N ) x3 x6 σ)
def A118:XFn:=⟨103,[.str,.i],[(.cell 4 (some 3)),(.tmp 5)],(C118_0 C118_1 C118_2)⟩
theorem FE118 (args:List V) (σ:H):runX E D W N A118 args σ=F118 E D W N args σ:=by kernel_rfl
def C119_0 (cc1:XC):XC:=(.z (.pal 2 [] 121 [y0,y5,y0]<|
.nil)
 (.seq (.draw (.m 4 0<|
.n 5 4<|
.f 6 0 5<|
.l 7 .any 6<|
.m 8 0<|
.n 9 8<|
.f 10 1 9<|
.l 11 .i 10<|
.s 12 3 7 11<|
.O 13 y7 (.load (some 3) (.t 12))<|
.pal 3 [] 121 [y0,y5,y0]<|
.op none y7 [3,13] (.store 3 (.t 3) (.t 13))<|
.nil) [0,1,3,7,0,16,48,112,255,511,0,2047])
 (.seq (.seq (.draw (.m 14 0<|
.n 15 14<|
.f 16 1 15<|
.l 17 .i 16<|
.b 18 .add .none (.t 17) (.i 1)<|
.m 19 0<|
.n 20 19<|
.f 21 0 20<|
.l 22 .any 21<|
.u 23 22<|
.b 24 .lss .none (.t 18) (.t 23)<|
.nil) [0,1,3,7,15,0,32,96,224,480,1023])
 (.cond (.tmp 24) (.ops (.m 25 0<|
.n 26 25<|
.f 27 1 26<|
.l 28 .i 27<|
.b 29 .add .none (.t 28) (.i 1)<|
.n 30 25<|
.f 31 1 30<|
.w 1 31 29<|
.nil))
 .skip))
 (.keep [] [2,3] [(2,[.i,.str,.i]),(3,[.i,.str,.i])] cc1))))
def T119_0 (E:List (Nat × Blk)) (D:Den) (W:DrawFn) (K1:Int→BS→Int→Int→BS→Int→H→Ans) (a b:Nat) (σ:H):Ans:=
 ldK E σ a b fun u1=>
 ldK E σ a (Nat.add b 1) fun u2=>
 rtInt .i64 u2 fun x3=>
 iaddrSK 3 u1 x3 fun b4 o5=>
 ldnK E σ b4 o5 3 fun l6=>
 xcI .i64 l6 fun x9 l8=>
 xcS l8 fun x12 l11=>
 xcI .i64 l11 fun x15 l14=>
 rtNil l14 (
 ldK E σ a (Nat.add b 1) fun u16=>
 rtInt .i64 u16 fun x17=>
 ldK E σ a b fun u18=>
 slenK u18 fun n19=>
 condK (ltF (addF .i64 x17 (Int.ofNat 1)) (Int.ofNat n19)) (
 ldK E σ a (Nat.add b 1) fun u20=>
 rtInt .i64 u20 fun x21=>
 stK 1 a (Nat.add b 1) (V.int .i64 (addF .i64 x21 (Int.ofNat 1))) σ fun s22=>
 K1 (Int.ofNat 0) (BS.mk 0 0) (Int.ofNat 0) x9 x12 x15 s22) (
 K1 (Int.ofNat 0) (BS.mk 0 0) (Int.ofNat 0) x9 x12 x15 σ))
def C119_1:XC:=(.z (.O 32 y7 (.load (some 3) (.t 3))<|
.op none y7 [2,32] (.store 3 (.t 2) (.t 32))<|
.nil)
 .ret)
def T119_1 (E:List (Nat × Blk)) (D:Den) (W:DrawFn) (a:Int) (b:BS) (c d:Int) (e:BS) (f:Int) (σ:H):Ans:=
 some ((V.agg [.int .i64 d,.str e,.int .i64 f]),σ)
def J119_1 (E:List (Nat × Blk)) (D:Den) (W:DrawFn) (N:Nat):=T119_1 E D W
def F119 (args:List V) (σ:H):Ans:=
 rtCons args fun x1 l2=>
 rtPtr x1 fun b3 o4=>
 rtNil l2 (
 T119_0 E D W (J119_1 E D W N ) b3 o4 σ)
def A119:XFn:=⟨33,[.ptr],[(.cell 2 (some 3))],(C119_0 C119_1)⟩
theorem FE119 (args:List V) (σ:H):runX E D W N A119 args σ=F119 E D W N args σ:=by kernel_rfl
def q120a:List (Nat × XTy):=[(1,.ptr),(3,.any),(4,.i)]
def Fin120 (E:List (Nat × Blk)):St→Ans:=fun s=>resK E s [(.tmp 2)] fun l=>some (oneV l,s.σ)
def b120a (c0:XC):Nat→St→Ans:=blkK 0 (dX E D W N (.keep [(1,.ptr)] [] [] c0) (Fin120 E) nX (Fin120 E)) nX
def C120_0 (cc1:XC) (cc2:XC):XC:=(.z (.P 1 (.box 121 (.t 0))<|
.c 2 y1<|
.nil)
 (.z (.p 5 [] (.buildSlice 9 10 [y5,y5,y5,y5,y5,y5,y5,y5,y5,y5] [(0,1,(.con (V.str ⟨1,91⟩))),(1,1,(.con (V.str ⟨7,22026814072246082⟩))),(2,1,(.con (V.str ⟨4,1280070990⟩))),(3,1,y25),(4,1,(.con (V.str ⟨7,23157120498421321⟩))),(5,1,(.con (V.str ⟨5,361940403023⟩))),(6,1,y26),(7,1,(.con (V.str ⟨3,5522771⟩))),(8,1,(.con (V.str ⟨6,76155295057987⟩))),(9,1,y36)])<|
.m 3 5<|
.nil)
 (.seq (.z (.q 4 0<|
.nil)
 (.block 0 (.loop q120a [] [] cc2)))
 (.keep [(1,.ptr)] [] [] cc1))))
def T120_0 (E:List (Nat × Blk)) (D:Den) (W:DrawFn) (K2:Nat→Nat→V→Int→H→Ans) (a:Int) (b:BS) (c:Int) (σ:H):Ans:=
 nbK [.int .i64 a,.str b,.int .i64 c] σ fun s1=>
 let s2:=newB s1 (.cells [.str (BS.mk 1 91),.str (BS.mk 7 22026814072246082),.str (BS.mk 4 1280070990),.str (BS.mk 10 488440487847103610377301),.str (BS.mk 7 23157120498421321),.str (BS.mk 5 361940403023),.str (BS.mk 10 322399817400452109389381),.str (BS.mk 3 5522771),.str (BS.mk 6 76155295057987),.str (BS.mk 8 4990918871747741011)]);
 K2 (H.next σ) 0 (V.sl (H.next s1) 0 10 (.ex 10)) (Int.ofNat 0) s2
def C120_1:XC:=(.z (.f 29 0 1<|
.l 30 .i 29<|
.b 31 .eql .none (.t 30) (.i 1)<|
.m 2 31<|
.nil)
 .ret)
def T120_1 (E:List (Nat × Blk)) (D:Den) (W:DrawFn) (a b:Nat) (σ:H):Ans:=
 ldK E σ a b fun u1=>
 rtInt .i64 u1 fun x2=>
 some ((V.bool (eqF x2 (Int.ofNat 1))),σ)
def C120_2:XC:=(.seq (.z (.m 6 4<|
.m 7 3<|
.u 8 7<|
.b 9 .lss .none (.t 6) (.t 8)<|
.nil)
 y19)
 (.seq (.block 1 (.seq (.draw (.m 12 3<|
.m 13 4<|
.s 14 1 12 13<|
.l 15 .str 14<|
.f 16 1 1<|
.l 17 .str 16<|
.b 18 .eql .none (.t 15) (.t 17)<|
.m 19 18<|
.gA 19 true (.p 20 [1,19] (.faddr 0 (.t 1))<|
.op (some 21) .i [20,19] (.load none (.t 20))<|
.p 22 [21,19] (.bin .eql .none (.t 21) (.i 5))<|
.p 23 [22,19] (.mov (.t 22))<|
.grp 23 false (.p 24 [1,23] (.faddr 0 (.t 1))<|
.op (some 25) .i [24,23] (.load none (.t 24))<|
.p 26 [25,23] (.bin .eql .none (.t 25) (.i 6))<|
.nil) 27 [23,26,19] (.t 23) y12 (.t 26)<|
.nil) 28 19 27<|
.nil) [0,0,3,7,0,16,63,127,255,511,1023,2047,4095,8191,16383,32767,65535])
 (.cond (.tmp 28) (.z (.c 2 y31<|
.nil)
 .ret)
 .skip)))
 (.ops (.m 10 4<|
.b 11 .add .none (.t 10) (.i 1)<|
.m 4 11<|
.nil))))
def T120_2 (E:List (Nat × Blk)) (D:Den) (W:DrawFn) (K1:Nat→Nat→H→Ans) (R2:Nat→Nat→V→Int→H→Ans) (a b:Nat) (c:V) (d:Int) (σ:H):Ans:=
 slenK c fun n1=>
 condK (ltF d (Int.ofNat n1)) (
 iaddrSK 1 c d fun b2 o3=>
 ldK E σ b2 o3 fun u4=>
 rtStr u4 fun x5=>
 ldK E σ a (Nat.add b 1) fun u6=>
 rtStr u6 fun x7=>
 joinB (fun c8 s9=>
 condK c8 (
 some ((V.bool true),s9)) (
 R2 a b c (addF .i64 d (Int.ofNat 1)) s9)) fun k10=>
 condK (BS.beq x5 x7) (
 ldK E σ a b fun u11=>
 rtInt .i64 u11 fun x12=>
 joinB (fun c13 s14=>
 k10 c13 s14) fun k15=>
 condK (eqF x12 (Int.ofNat 5)) (
 k15 true σ) (
 ldK E σ a b fun u16=>
 rtInt .i64 u16 fun x17=>
 k15 (eqF x17 (Int.ofNat 6)) σ)) (
 k10 false σ)) (
 K1 a b σ)
def S120_0 (a:Int) (b:BS) (c:Int) (σ:H):St:=⟨[(0,.agg [.int .i64 a,.str b,.int .i64 c])],[],[],σ⟩
def S120_1 (a b:Nat) (σ:H):St:=⟨[(1,.ptr a b)],[],[],σ⟩
def S120_2 (a b:Nat) (c:V) (d:Int) (σ:H):St:=⟨[(1,.ptr a b),(3,c),(4,.int .i64 d)],[],[],σ⟩
theorem P120_0 (cc1:XC) (cc2:XC) (a:Int) (b:BS) (c:Int) (σ:H) :
 denC E D W N (C120_0 cc1 cc2) (S120_0 a b c σ) (Fin120 E) nX (Fin120 E) =
 T120_0 E D W (fun d e f g σ=>iterK (fun rec s'=>denC E D W N cc2 s' (kX q120a [] [] rec) (b120a E D W N cc1) (Fin120 E)) N (S120_2 d e f g σ)) a b c σ:=by kernel_rfl
theorem P120_2 (cc1:XC) (li2:St→Ans) (a b:Nat) (c:V) (d:Int) (σ:H) :
 denC E D W N (C120_2 ) (S120_2 a b c d σ) (kX q120a [] [] li2) (b120a E D W N cc1) (Fin120 E) =
 T120_2 E D W (fun a b σ=>denC E D W N cc1 (S120_1 a b σ) (Fin120 E) nX (Fin120 E)) (fun a b c d σ=>li2 (S120_2 a b c d σ)) a b c d σ:=by kernel_rfl
def J120_1 (E:List (Nat × Blk)) (D:Den) (W:DrawFn) (N:Nat):=T120_1 E D W
theorem JE120_1 (a b:Nat) (σ:H) :
 denC E D W N C120_1 (S120_1 a b σ) (Fin120 E) nX (Fin120 E)=J120_1 E D W N a b σ:=by kernel_rfl
def L120_2 (n:Nat):Nat→Nat→V→Int→H→Ans:=
 Nat.rec (fun _ _ _ _ _=>none) (fun _ ih=>T120_2 E D W (J120_1 E D W N ) ih) n
theorem LE120_2 (n:Nat):∀(a b:Nat) (c:V) (d:Int) (σ:H),
 iterK (fun rec s'=>denC E D W N C120_2 s' (kX q120a [] [] rec) (b120a E D W N C120_1) (Fin120 E)) n (S120_2 a b c d σ)=L120_2 E D W N n a b c d σ:=by
 induction n with
 | zero=>intro a b c d σ;rfl
 | succ n ihn=>
  intro a b c d σ
  rw[iterK_succ]
  refine(P120_2 E D W N C120_1 (iterK (fun rec s'=>denC E D W N C120_2 s' (kX q120a [] [] rec) (b120a E D W N C120_1) (Fin120 E)) n) a b c d σ).trans ?_
  simp only[ihn,JE120_1]
  kernel_rfl
def J120_0:=T120_0 E D W (L120_2 E D W N N)
theorem JE120_0 (a:Int) (b:BS) (c:Int) (σ:H) :
 denC E D W N (C120_0 C120_1 C120_2) (S120_0 a b c σ) (Fin120 E) nX (Fin120 E)=J120_0 E D W N a b c σ:=by
 refine(P120_0 E D W N C120_1 C120_2  a b c σ).trans ?_
 simp only[LE120_2]
 kernel_rfl
def F120 (args:List V) (σ:H):Ans:=
 rtCons args fun x1 l2=>
 rtAgg x1 fun l3=>
 xcI .i64 l3 fun x6 l5=>
 xcS l5 fun x9 l8=>
 xcI .i64 l8 fun x12 l11=>
 rtNil l11 (
 rtNil l2 (
 J120_0 E D W N x6 x9 x12 σ))
def A120:XFn:=⟨32,[y7],[(.tmp 2)],(C120_0 C120_1 C120_2)⟩
theorem FE120 (args:List V) (σ:H):runX E D W N A120 args σ=F120 E D W N args σ:=by
 unfold F120
 simp only[←JE120_0]
 kernel_rfl
def C121_0:XC:=(.z (.q 2 0<|
.nil)
 (.z (.m 4 0<|
.k 5 .str 57 [(.t 4),(.i 3)]<|
.m 3 5<|
.nil)
 (.seq (.z (.m 6 3<|
.b 7 .eql .none (.t 6) (.con y5)<|
.nil)
 (.cond (.tmp 7) (.z (.q 2 0<|
.nil)
 .ret)
 .skip))
 (.z (.m 8 3<|
.k 9 .i 214 [(.t 8)]<|
.m 2 9<|
.nil)
 .ret))))
def T121_0 (E:List (Nat × Blk)) (D:Den) (W:DrawFn) (a:V) (σ:H):Ans:=
 callK (D 57 [a,.int .i64 (Int.ofNat 3)] σ) fun u1 s2=>
 rtStr u1 fun x3=>
 condK (BS.beq x3 (BS.mk 0 0)) (
 some ((V.int .i64 (Int.ofNat 0)),s2)) (
 callK (D 214 [.str x3] s2) fun u4 s5=>
 rtInt .i64 u4 fun x6=>
 some ((V.int .i64 x6),s5))
def F121 (N:Nat) (args:List V) (σ:H):Ans:=
 rtCons args fun x1 l2=>
 rtNil l2 (
 T121_0 E D W x1 σ)
def A121:XFn:=⟨10,[.any],[(.tmp 2)],C121_0⟩
theorem FE121 (args:List V) (σ:H):runX E D W N A121 args σ=F121 E D W N args σ:=by kernel_rfl
def G122_0:List AOper:=[⟨(some 139),.mov (.tmp 1),none⟩,⟨(some 140),.mov (.tmp 1),none⟩,⟨(some 141),.faddr 1 (.tmp 6),none⟩,⟨(some 142),.load none (.tmp 141),none⟩,⟨(some 143),.nilck (.tmp 139),none⟩,⟨(some 144),.faddr 0 (.tmp 143),none⟩,⟨none,.store 1 (.tmp 144) (.con (V.int .i64 (Int.ofNat 11))),none⟩,⟨(some 145),.nilck (.tmp 140),none⟩,⟨(some 146),.faddr 1 (.tmp 145),none⟩,⟨none,.store 1 (.tmp 146) (.tmp 142),none⟩]
def H122_0:List DP:=[⟨0,[1]⟩,⟨0,[1]⟩,⟨0,[6]⟩,⟨4,[141]⟩,⟨1,[139]⟩,⟨17,[143]⟩,⟨49,[144]⟩,⟨127,[140]⟩,⟨255,[145]⟩,⟨511,[146,142]⟩]
def C122_0:XC:=(.z (.m 7 0<|
.k 8 y7 60 [(.t 7)]<|
.p 6 [] (.alloc 121 [y0,y5,y0])<|
.op none y7 [6,8] (.store 3 (.t 6) (.t 8))<|
.nil)
 (.block 0 (.z (.m 13 0<|
.n 14 13<|
.f 15 7 14<|
.l 16 .i 15<|
.b 17 .neq .none (.t 16) (.i 0)<|
.m 12 17<|
.nil)
 (.cond (.tmp 12) .skip
 (.z (.m 19 0<|
.k 20 .bool 59 [(.t 19),(.con (V.str ⟨7,22026814072246082⟩))]<|
.m 18 20<|
.nil)
 (.cond (.tmp 18) (.ops (.m 21 1<|
.n 22 21<|
.f 23 0 22<|
.op none .any [23] (.store 1 (.t 23) (.i 1))<|
.nil))
 (.z (.m 25 0<|
.k 26 .bool 59 [(.t 25),(.con (V.str ⟨4,1280070990⟩))]<|
.m 24 26<|
.nil)
 (.cond (.tmp 24) (.ops (.m 27 1<|
.n 28 27<|
.f 29 0 28<|
.op none .any [29] (.store 1 (.t 29) (.i 4))<|
.nil))
 (.z (.m 31 0<|
.k 32 .bool 59 [(.t 31),y25]<|
.m 30 32<|
.nil)
 (.cond (.tmp 30) (.z (.m 33 1<|
.n 34 33<|
.f 35 0 34<|
.op none .any [35] (.store 1 (.t 35) (.i 6))<|
.nil)
 (.ops (.m 36 1<|
.m 37 0<|
.k 38 y2 215 [(.t 37)]<|
.n 39 36<|
.f 40 5 39<|
.op none y2 [40,38] (.store 6 (.t 40) (.t 38))<|
.nil)))
 (.z (.m 42 0<|
.k 43 .bool 59 [(.t 42),(.con (V.str ⟨7,23157120498421321⟩))]<|
.m 41 43<|
.nil)
 (.cond (.tmp 41) (.z (.m 44 1<|
.n 45 44<|
.f 46 0 45<|
.op none .any [46] (.store 1 (.t 46) (.i 2))<|
.nil)
 (.z (.m 47 0<|
.k 48 .bool 59 [(.t 47),(.con (V.str ⟨1,40⟩))]<|
.nil)
 (.cond (.tmp 48) (.z (.m 49 1<|
.m 50 0<|
.k 51 y2 216 [(.t 50)]<|
.n 52 49<|
.f 53 5 52<|
.op none y2 [53,51] (.store 6 (.t 53) (.t 51))<|
.nil)
 (.ops (.m 54 0<|
.k 55 y10 58 [(.t 54),(.con (V.str ⟨1,41⟩))]<|
.nil)))
 .skip)))
 (.z (.m 57 0<|
.k 58 .bool 59 [(.t 57),(.con (V.str ⟨5,361940403023⟩))]<|
.m 56 58<|
.nil)
 (.cond (.tmp 56) (.z (.m 59 0<|
.k 60 y10 58 [(.t 59),(.con (V.str ⟨6,78401563153491⟩))]<|
.nil)
 (.z (.m 61 1<|
.n 62 61<|
.f 63 0 62<|
.op none .any [63] (.store 1 (.t 63) (.i 5))<|
.nil)
 (.ops (.m 64 1<|
.m 65 0<|
.k 66 y2 215 [(.t 65)]<|
.n 67 64<|
.f 68 5 67<|
.op none y2 [68,66] (.store 6 (.t 68) (.t 66))<|
.nil))))
 (.z (.m 70 0<|
.k 71 .bool 59 [(.t 70),y26]<|
.m 69 71<|
.nil)
 (.cond (.tmp 69) (.z (.m 72 1<|
.n 73 72<|
.f 74 0 73<|
.op none .any [74] (.store 1 (.t 74) (.i 3))<|
.nil)
 (.z (.m 75 0<|
.k 76 y10 58 [(.t 75),y29]<|
.nil)
 (.z (.m 77 0<|
.m 78 1<|
.k 79 y10 217 [(.t 77),(.t 78)]<|
.nil)
 (.ops (.m 80 0<|
.k 81 y10 58 [(.t 80),(.con (V.str ⟨1,125⟩))]<|
.nil)))))
 (.z (.m 83 0<|
.k 84 .bool 59 [(.t 83),(.con (V.str ⟨3,5522771⟩))]<|
.m 82 84<|
.nil)
 (.cond (.tmp 82) (.z (.m 85 1<|
.n 86 85<|
.f 87 0 86<|
.op none .any [87] (.store 1 (.t 87) (.i 8))<|
.nil)
 (.z (.m 88 0<|
.k 89 y10 58 [(.t 88),y29]<|
.nil)
 (.ops (.m 90 0<|
.m 91 1<|
.m 92 2<|
.k 93 y10 218 [(.t 90),(.t 91),(.t 92)]<|
.nil))))
 (.z (.m 95 0<|
.k 96 .bool 59 [(.t 95),(.con (V.str ⟨6,76155295057987⟩))]<|
.m 94 96<|
.nil)
 (.cond (.tmp 94) (.z (.m 97 1<|
.n 98 97<|
.f 99 0 98<|
.op none .any [99] (.store 1 (.t 99) (.i 9))<|
.nil)
 (.z (.m 100 0<|
.k 101 y10 58 [(.t 100),y29]<|
.nil)
 (.ops (.m 102 0<|
.m 103 1<|
.m 104 2<|
.k 105 y10 218 [(.t 102),(.t 103),(.t 104)]<|
.nil))))
 (.z (.m 107 0<|
.k 108 .bool 59 [(.t 107),y36]<|
.m 106 108<|
.nil)
 (.cond (.tmp 106) (.seq (.z (.m 109 0<|
.k 110 .bool 59 [(.t 109),y29]<|
.nil)
 (.cond (.tmp 110) (.z (.m 111 1<|
.n 112 111<|
.f 113 0 112<|
.op none .any [113] (.store 1 (.t 113) (.i 7))<|
.nil)
 (.z (.m 114 0<|
.m 115 1<|
.m 116 2<|
.k 117 y10 218 [(.t 114),(.t 115),(.t 116)]<|
.nil)
 .ret))
 .skip))
 (.z (.m 118 1<|
.n 119 118<|
.f 120 0 119<|
.op none .any [120] (.store 1 (.t 120) (.i 10))<|
.nil)
 (.z (.m 121 1<|
.m 122 0<|
.k 123 y2 215 [(.t 122)]<|
.n 124 121<|
.f 125 5 124<|
.op none y2 [125,123] (.store 6 (.t 125) (.t 123))<|
.nil)
 (.z (.m 126 0<|
.k 127 y10 58 [(.t 126),(.con (V.str ⟨2,17999⟩))]<|
.nil)
 (.ops (.m 128 1<|
.m 129 0<|
.m 130 2<|
.b 131 .add .none (.t 130) (.i 1)<|
.k 132 .i 62 [(.t 129),(.t 131)]<|
.n 133 128<|
.f 134 15 133<|
.w 1 134 132<|
.nil))))))
 (.z (.f 136 0 6<|
.l 137 .i 136<|
.b 138 .eql .none (.t 137) (.i 1)<|
.m 135 138<|
.nil)
 (.cond (.tmp 135) (.seq (.keep [(0,.ptr),(1,.ptr),(6,.ptr)] [] [] (.gdraw G122_0 H122_0 [(0,.ptr)]))
 (.ops (.m 147 0<|
.k 148 y7 119 [(.t 147)]<|
.nil)))
 (.ops (.m 9 0<|
.O 10 y7 (.load (some 3) (.t 6))<|
.k 11 y10 61 [(.t 9),(.i 7),(.t 10)]<|
.nil))))))))))))))))))))))))))
def T122_0 (a b c d:Nat) (e:Int) (σ:H):Ans:=
 callK (D 60 [.ptr a b] σ) fun u1 s2=>
 rtAgg u1 fun l3=>
 xcI .i64 l3 fun x6 l5=>
 xcS l5 fun x9 l8=>
 xcI .i64 l8 fun x12 l11=>
 rtNil l11 (
 let s13:=newB s2 (.cells [.int .i64 (Int.ofNat 0),.str ⟨0,0⟩,.int .i64 (Int.ofNat 0)]);
 stK 3 (H.next s2) 0 (V.agg [.int .i64 x6,.str x9,.int .i64 x12]) s13 fun s14=>
 ldK E s14 a (Nat.add b 7) fun u15=>
 rtInt .i64 u15 fun x16=>
 condK (not (eqF x16 (Int.ofNat 0))) (
 some ((V.tup []),s14)) (
 callK (D 59 [.ptr a b,.str (BS.mk 7 22026814072246082)] s14) fun u17 s18=>
 rtBool u17 fun x19=>
 condK x19 (
 stK 1 c d (V.int .i64 (Int.ofNat 1)) s18 fun s20=>
 some ((V.tup []),s20)) (
 callK (D 59 [.ptr a b,.str (BS.mk 4 1280070990)] s18) fun u21 s22=>
 rtBool u21 fun x23=>
 condK x23 (
 stK 1 c d (V.int .i64 (Int.ofNat 4)) s22 fun s24=>
 some ((V.tup []),s24)) (
 callK (D 59 [.ptr a b,.str (BS.mk 10 488440487847103610377301)] s22) fun u25 s26=>
 rtBool u25 fun x27=>
 condK x27 (
 stK 1 c d (V.int .i64 (Int.ofNat 6)) s26 fun s28=>
 callK (D 215 [.ptr a b] s28) fun u29 s30=>
 rtAgg u29 fun l31=>
 xcB l31 fun x34 l33=>
 xcB l33 fun x37 l36=>
 xcB l36 fun x40 l39=>
 xcB l39 fun x43 l42=>
 xcI .i64 l42 fun x46 l45=>
 xcI .i64 l45 fun x49 l48=>
 rtNil l48 (
 stK 6 c (Nat.add d 5) (V.agg [.bool x34,.bool x37,.bool x40,.bool x43,.int .i64 x46,.int .i64 x49]) s30 fun s50=>
 some ((V.tup []),s50))) (
 callK (D 59 [.ptr a b,.str (BS.mk 7 23157120498421321)] s26) fun u51 s52=>
 rtBool u51 fun x53=>
 condK x53 (
 stK 1 c d (V.int .i64 (Int.ofNat 2)) s52 fun s54=>
 callK (D 59 [.ptr a b,.str (BS.mk 1 40)] s54) fun u55 s56=>
 rtBool u55 fun x57=>
 condK x57 (
 callK (D 216 [.ptr a b] s56) fun u58 s59=>
 rtAgg u58 fun l60=>
 xcB l60 fun x63 l62=>
 xcB l62 fun x66 l65=>
 xcB l65 fun x69 l68=>
 xcB l68 fun x72 l71=>
 xcI .i64 l71 fun x75 l74=>
 xcI .i64 l74 fun x78 l77=>
 rtNil l77 (
 stK 6 c (Nat.add d 5) (V.agg [.bool x63,.bool x66,.bool x69,.bool x72,.int .i64 x75,.int .i64 x78]) s59 fun s79=>
 callK (D 58 [.ptr a b,.str (BS.mk 1 41)] s79) fun u80 s81=>
 rtTup u80 fun l82=>
 rtNil l82 (
 some ((V.tup []),s81)))) (
 some ((V.tup []),s56))) (
 callK (D 59 [.ptr a b,.str (BS.mk 5 361940403023)] s52) fun u83 s84=>
 rtBool u83 fun x85=>
 condK x85 (
 callK (D 58 [.ptr a b,.str (BS.mk 6 78401563153491)] s84) fun u86 s87=>
 rtTup u86 fun l88=>
 rtNil l88 (
 stK 1 c d (V.int .i64 (Int.ofNat 5)) s87 fun s89=>
 callK (D 215 [.ptr a b] s89) fun u90 s91=>
 rtAgg u90 fun l92=>
 xcB l92 fun x95 l94=>
 xcB l94 fun x98 l97=>
 xcB l97 fun x101 l100=>
 xcB l100 fun x104 l103=>
 xcI .i64 l103 fun x107 l106=>
 xcI .i64 l106 fun x110 l109=>
 rtNil l109 (
 stK 6 c (Nat.add d 5) (V.agg [.bool x95,.bool x98,.bool x101,.bool x104,.int .i64 x107,.int .i64 x110]) s91 fun s111=>
 some ((V.tup []),s111)))) (
 callK (D 59 [.ptr a b,.str (BS.mk 10 322399817400452109389381)] s84) fun u112 s113=>
 rtBool u112 fun x114=>
 condK x114 (
 stK 1 c d (V.int .i64 (Int.ofNat 3)) s113 fun s115=>
 callK (D 58 [.ptr a b,.str (BS.mk 1 123)] s115) fun u116 s117=>
 rtTup u116 fun l118=>
 rtNil l118 (
 callK (D 217 [.ptr a b,.ptr c d] s117) fun u119 s120=>
 rtTup u119 fun l121=>
 rtNil l121 (
 callK (D 58 [.ptr a b,.str (BS.mk 1 125)] s120) fun u122 s123=>
 rtTup u122 fun l124=>
 rtNil l124 (
 some ((V.tup []),s123))))) (
 callK (D 59 [.ptr a b,.str (BS.mk 3 5522771)] s113) fun u125 s126=>
 rtBool u125 fun x127=>
 condK x127 (
 stK 1 c d (V.int .i64 (Int.ofNat 8)) s126 fun s128=>
 callK (D 58 [.ptr a b,.str (BS.mk 1 123)] s128) fun u129 s130=>
 rtTup u129 fun l131=>
 rtNil l131 (
 callK (D 218 [.ptr a b,.ptr c d,.int .i64 e] s130) fun u132 s133=>
 rtTup u132 fun l134=>
 rtNil l134 (
 some ((V.tup []),s133)))) (
 callK (D 59 [.ptr a b,.str (BS.mk 6 76155295057987)] s126) fun u135 s136=>
 rtBool u135 fun x137=>
 condK x137 (
 stK 1 c d (V.int .i64 (Int.ofNat 9)) s136 fun s138=>
 callK (D 58 [.ptr a b,.str (BS.mk 1 123)] s138) fun u139 s140=>
 rtTup u139 fun l141=>
 rtNil l141 (
 callK (D 218 [.ptr a b,.ptr c d,.int .i64 e] s140) fun u142 s143=>
 rtTup u142 fun l144=>
 rtNil l144 (
 some ((V.tup []),s143)))) (
 callK (D 59 [.ptr a b,.str (BS.mk 8 4990918871747741011)] s136) fun u145 s146=>
 rtBool u145 fun x147=>
 condK x147 (
 callK (D 59 [.ptr a b,.str (BS.mk 1 123)] s146) fun u148 s149=>
 rtBool u148 fun x150=>
 condK x150 (
 stK 1 c d (V.int .i64 (Int.ofNat 7)) s149 fun s151=>
 callK (D 218 [.ptr a b,.ptr c d,.int .i64 e] s151) fun u152 s153=>
 rtTup u152 fun l154=>
 rtNil l154 (
 some ((V.tup []),s153))) (
 stK 1 c d (V.int .i64 (Int.ofNat 10)) s149 fun s155=>
 callK (D 215 [.ptr a b] s155) fun u156 s157=>
 rtAgg u156 fun l158=>
 xcB l158 fun x161 l160=>
 xcB l160 fun x164 l163=>
 xcB l163 fun x167 l166=>
 xcB l166 fun x170 l169=>
 xcI .i64 l169 fun x173 l172=>
 xcI .i64 l172 fun x176 l175=>
 rtNil l175 (
 stK 6 c (Nat.add d 5) (V.agg [.bool x161,.bool x164,.bool x167,.bool x170,.int .i64 x173,.int .i64 x176]) s157 fun s177=>
 callK (D 58 [.ptr a b,.str (BS.mk 2 17999)] s177) fun u178 s179=>
 rtTup u178 fun l180=>
 rtNil l180 (
 callK (D 62 [.ptr a b,.int .i64 (addF .i64 e (Int.ofNat 1))] s179) fun u181 s182=>
 rtInt .i64 u181 fun x183=>
 stK 1 c (Nat.add d 15) (V.int .i64 x183) s182 fun s184=>
 some ((V.tup []),s184))))) (
 ldK E s146 (H.next s2) 0 fun u185=>
 rtInt .i64 u185 fun x186=>
 condK (eqF x186 (Int.ofNat 1)) (
 gdrawK (W G122_0 H122_0 [(0,.ptr a b),(1,.ptr c d),(6,.ptr (H.next s2) 0)] s146) fun e187 s188=>
 getL e187 0 fun u189=>
 rtPtr u189 fun b190 o191=>
 callK (D 119 [.ptr b190 o191] s188) fun u192 s193=>
 rtAgg u192 fun l194=>
 xcI .i64 l194 fun x197 l196=>
 xcS l196 fun x200 l199=>
 xcI .i64 l199 fun x203 l202=>
 rtNil l202 (
 some ((V.tup []),s193))) (
 ldnK E s146 (H.next s2) 0 3 fun l204=>
 xcI .i64 l204 fun x207 l206=>
 xcS l206 fun x210 l209=>
 xcI .i64 l209 fun x213 l212=>
 rtNil l212 (
 callK (D 61 [.ptr a b,.int .i64 (Int.ofNat 7),.agg [.int .i64 x207,.str x210,.int .i64 x213]] s146) fun u214 s215=>
 rtTup u214 fun l216=>
 rtNil l216 (
 some ((V.tup []),s215)))))))))))))))
def F122 (N:Nat) (args:List V) (σ:H):Ans:=
 rtCons args fun x1 l2=>
 rtPtr x1 fun b3 o4=>
 rtCons l2 fun x5 l6=>
 rtPtr x5 fun b7 o8=>
 xcI .i64 l6 fun x11 l10=>
 rtNil l10 (
 T122_0 E D W b3 o4 b7 o8 x11 σ)
def A122:XFn:=⟨149,[.ptr,.ptr,.i],[],C122_0⟩
theorem FE122 (args:List V) (σ:H):runX E D W N A122 args σ=F122 E D W N args σ:=by kernel_rfl
def q123a:List (Nat × XTy):=[(0,.any),(1,.str),(5,.i)]
def Fin123 (E:List (Nat × Blk)):St→Ans:=fun s=>resK E s [(.tmp 4)] fun l=>some (oneV l,s.σ)
def b123a (c0:XC):Nat→St→Ans:=blkK 0 (dX E D W N (.keep [] [] [] c0) (Fin123 E) nX (Fin123 E)) nX
def C123_0 (cc1:XC) (cc2:XC):XC:=(.z (.c 4 y1<|
.nil)
 (.seq (.z (.q 5 0<|
.nil)
 (.block 0 (.loop q123a [] [] cc2)))
 (.keep [] [] [] cc1)))
def T123_0 (E:List (Nat × Blk)) (D:Den) (W:DrawFn) (K2:V→BS→Int→H→Ans) (a:V) (b:BS) (σ:H):Ans:=
 K2 a b (Int.ofNat 0) σ
def C123_1:XC:=(.z (.c 4 y1<|
.nil)
 .ret)
def T123_1 (E:List (Nat × Blk)) (D:Den) (W:DrawFn) (σ:H):Ans:=
 some ((V.bool false),σ)
def C123_2:XC:=(.seq (.z (.m 6 5<|
.m 7 0<|
.u 8 7<|
.b 9 .lss .none (.t 6) (.t 8)<|
.nil)
 y19)
 (.seq (.block 1 (.z (.m 12 0<|
.m 13 5<|
.s 14 1 12 13<|
.l 15 .str 14<|
.m 16 1<|
.b 17 .eql .none (.t 15) (.t 16)<|
.nil)
 (.cond (.tmp 17) (.z (.c 4 y31<|
.nil)
 .ret)
 .skip)))
 (.ops (.m 10 5<|
.b 11 .add .none (.t 10) (.i 1)<|
.m 5 11<|
.nil))))
def T123_2 (E:List (Nat × Blk)) (D:Den) (W:DrawFn) (K1:H→Ans) (R2:V→BS→Int→H→Ans) (a:V) (b:BS) (c:Int) (σ:H):Ans:=
 slenK a fun n1=>
 condK (ltF c (Int.ofNat n1)) (
 iaddrSK 1 a c fun b2 o3=>
 ldK E σ b2 o3 fun u4=>
 rtStr u4 fun x5=>
 condK (BS.beq x5 b) (
 some ((V.bool true),σ)) (
 R2 a b (addF .i64 c (Int.ofNat 1)) σ)) (
 K1 σ)
def S123_0 (a:V) (b:BS) (σ:H):St:=⟨[(0,a),(1,.str b)],[],[],σ⟩
def S123_1 (σ:H):St:=⟨[],[],[],σ⟩
def S123_2 (a:V) (b:BS) (c:Int) (σ:H):St:=⟨[(0,a),(1,.str b),(5,.int .i64 c)],[],[],σ⟩
theorem P123_0 (cc1:XC) (cc2:XC) (a:V) (b:BS) (σ:H) :
 denC E D W N (C123_0 cc1 cc2) (S123_0 a b σ) (Fin123 E) nX (Fin123 E) =
 T123_0 E D W (fun a b c σ=>iterK (fun rec s'=>denC E D W N cc2 s' (kX q123a [] [] rec) (b123a E D W N cc1) (Fin123 E)) N (S123_2 a b c σ)) a b σ:=by kernel_rfl
theorem P123_2 (cc1:XC) (li2:St→Ans) (a:V) (b:BS) (c:Int) (σ:H) :
 denC E D W N (C123_2 ) (S123_2 a b c σ) (kX q123a [] [] li2) (b123a E D W N cc1) (Fin123 E) =
 T123_2 E D W (fun  σ=>denC E D W N cc1 (S123_1 σ) (Fin123 E) nX (Fin123 E)) (fun a b c σ=>li2 (S123_2 a b c σ)) a b c σ:=by kernel_rfl
def J123_1 (E:List (Nat × Blk)) (D:Den) (W:DrawFn) (N:Nat):=T123_1 E D W
theorem JE123_1 (σ:H) :
 denC E D W N C123_1 (S123_1 σ) (Fin123 E) nX (Fin123 E)=J123_1 E D W N  σ:=by kernel_rfl
def L123_2 (n:Nat):V→BS→Int→H→Ans:=
 Nat.rec (fun _ _ _ _=>none) (fun _ ih=>T123_2 E D W (J123_1 E D W N ) ih) n
theorem LE123_2 (n:Nat):∀(a:V) (b:BS) (c:Int) (σ:H),
 iterK (fun rec s'=>denC E D W N C123_2 s' (kX q123a [] [] rec) (b123a E D W N C123_1) (Fin123 E)) n (S123_2 a b c σ)=L123_2 E D W N n a b c σ:=by
 induction n with
 | zero=>intro a b c σ;rfl
 | succ n ihn=>
  intro a b c σ
  rw[iterK_succ]
  refine(P123_2 E D W N C123_1 (iterK (fun rec s'=>denC E D W N C123_2 s' (kX q123a [] [] rec) (b123a E D W N C123_1) (Fin123 E)) n) a b c σ).trans ?_
  simp only[ihn,JE123_1]
  kernel_rfl
def J123_0:=T123_0 E D W (L123_2 E D W N N)
theorem JE123_0 (a:V) (b:BS) (σ:H) :
 denC E D W N (C123_0 C123_1 C123_2) (S123_0 a b σ) (Fin123 E) nX (Fin123 E)=J123_0 E D W N a b σ:=by
 refine(P123_0 E D W N C123_1 C123_2  a b σ).trans ?_
 simp only[LE123_2]
 kernel_rfl
def F123 (args:List V) (σ:H):Ans:=
 rtCons args fun x1 l2=>
 xcS l2 fun x5 l4=>
 rtNil l4 (
 J123_0 E D W N x1 x5 σ)
def A123:XFn:=⟨18,[.any,.str],[(.tmp 4)],(C123_0 C123_1 C123_2)⟩
theorem FE123 (args:List V) (σ:H):runX E D W N A123 args σ=F123 E D W N args σ:=by
 unfold F123
 simp only[←JE123_0]
 kernel_rfl
def q124a:List (Nat × List XTy):=[(10,[.i,.str,.bool,.i,.i,.bool,.bool,.bool,.bool,.i,.i,.any,.any,.i,.bool,.i])]
def q124b:List (Nat × XTy):=[(2,.i),(3,.any),(4,.ptr),(12,.bool),(13,.i)]
def q124c:List (Nat × XTy):=[(2,.i),(3,.any),(4,.ptr),(12,.bool)]
def q124d:List (Nat × XTy):=[(2,.i),(3,.any),(4,.ptr)]
def Fin124 (E:List (Nat × Blk)):St→Ans:=fun s=>resK E s [(.tmp 8),(.tmp 9)] fun l=>some (oneV l,s.σ)
def b124a (c0:XC):Nat→St→Ans:=blkK 0 (dX E D W N (.keep q124c [10] q124a c0) (Fin124 E) nX (Fin124 E)) nX
def C124_0 (cc1:XC) (cc2:XC):XC:=(.z (.P 4 (.box 76 (.t 0))<|
.c 8 V.nils<|
.c 9 y1<|
.nil)
 (.seq (.z (.m 16 1<|
.b 17 .lss .none (.t 16) (.i 0)<|
.m 18 17<|
.gO 18 false (.p 19 [1,18] y15<|
.p 20 [4,18] (.faddr 4 (.t 4))<|
.p 21 [20,18] (.load none (.t 20))<|
.p 22 [21,18] (.len false (.t 21))<|
.p 23 [19,22,18] (.bin .geq .none (.t 19) (.t 22))<|
.nil) 24 18 23<|
.m 25 24<|
.gO 25 false (.p 26 [2,25] (.mov (.t 2))<|
.p 27 [26,25] (.bin .gtr .none (.t 26) (.i 16))<|
.nil) 28 25 27<|
.nil)
 (.cond (.tmp 28) (.z (.m 29 3<|
.m 8 29<|
.c 9 y1<|
.nil)
 .ret)
 .skip))
 (.z (.f 30 4 4<|
.l 31 .any 30<|
.m 32 1<|
.s 33 16 31 32<|
.O 34 y4 (.load (some 16) (.t 33))<|
.pal 10 [] 183 [y0,y5,y1,y0,y0,y1,y1,y1,y1,y0,y0,V.nils,V.nils,y0,y1,y0]<|
.op none y4 [10,34] (.store 16 (.t 10) (.t 34))<|
.nil)
 (.seq (.z (.f 35 0 10<|
.l 36 .i 35<|
.b 37 .eql .none (.t 36) (.i 11)<|
.nil)
 (.cond (.tmp 37) (.z (.O 38 y9 (.load (some 5) (.t 4))<|
.f 39 1 10<|
.l 40 .str 39<|
.k 41 .i 126 [(.t 38),(.t 40)]<|
.m 11 41<|
.nil)
 (.seq (.z (.m 42 11<|
.b 43 .lss .none (.t 42) (.i 0)<|
.nil)
 (.cond (.tmp 43) (.z (.m 44 3<|
.m 8 44<|
.c 9 y31<|
.nil)
 .ret)
 .skip))
 (.seq (.z (.m 45 3<|
.m 46 11<|
.k 47 .bool 29 [(.t 45),(.t 46)]<|
.P 48 (.un .not (.t 47))<|
.nil)
 (.cond (.tmp 48) (.ops (.m 49 3<|
.m 50 11<|
.p 51 [50] (.buildSlice 3 1 [y0] [(0,1,(.t 50))])<|
.O 52 .one (.append 3 1 8 (.t 49) (.t 51))<|
.m 3 52<|
.nil))
 .skip))
 (.keep [(3,.any)] [] [] cc2))))
 .skip))
 (.keep q124d [10] q124a cc1)))))
def T124_0 (E:List (Nat × Blk)) (D:Den) (W:DrawFn) (K1:Int→V→Nat→Nat→Int→BS→Bool→Int→Int→Bool→Bool→Bool→Bool→Int→Int→V→V→Int→Bool→Int→H→Ans) (K2:V→H→Ans) (a:BS) (b:Int) (c d e:V) (f g:Int) (h:V) (σ:H):Ans:=
 nbK [.str a,.int .i64 b,c,d,e] σ fun s1=>
 joinB (fun c2 s3=>
 joinB (fun c5 s6=>
 condK c5 (
 some ((V.tup [h,.bool false]),s6)) (
 ldK E s6 (H.next σ) 4 fun u8=>
 iaddrSK 16 u8 f fun b9 o10=>
 ldnK E s6 b9 o10 16 fun l11=>
 xcI .i64 l11 fun x14 l13=>
 xcS l13 fun x17 l16=>
 xcB l16 fun x20 l19=>
 xcI .i64 l19 fun x23 l22=>
 xcI .i64 l22 fun x26 l25=>
 xcB l25 fun x29 l28=>
 xcB l28 fun x32 l31=>
 xcB l31 fun x35 l34=>
 xcB l34 fun x38 l37=>
 xcI .i64 l37 fun x41 l40=>
 xcI .i64 l40 fun x44 l43=>
 rtCons l43 fun x45 l46=>
 rtCons l46 fun x47 l48=>
 xcI .i64 l48 fun x51 l50=>
 xcB l50 fun x54 l53=>
 xcI .i64 l53 fun x57 l56=>
 rtNil l56 (
 chk (allOne [.int .i64 x14,.str x17,.bool x20,.int .i64 x23,.int .i64 x26,.bool x29,.bool x32,.bool x35,.bool x38,.int .i64 x41,.int .i64 x44,x45,x47,.int .i64 x51,.bool x54,.int .i64 x57]) (
 condK (eqF x14 (Int.ofNat 11)) (
 ldnK E s6 (H.next σ) 0 5 fun l58=>
 xcS l58 fun x61 l60=>
 xcI .i64 l60 fun x64 l63=>
 rtCons l63 fun x65 l66=>
 rtCons l66 fun x67 l68=>
 rtCons l68 fun x69 l70=>
 rtNil l70 (
 callK (D 126 [.agg [.str x61,.int .i64 x64,x65,x67,x69],.str x17] s6) fun u71 s72=>
 rtInt .i64 u71 fun x73=>
 condK (ltF x73 (Int.ofNat 0)) (
 some ((V.tup [h,.bool true]),s72)) (
 callK (D 29 [h,.int .i64 x73] s72) fun u74 s75=>
 rtBool u74 fun x76=>
 condK (not x76) (
 let s77:=newB s75 (.cells [.int .i64 x73]);
 appK E 1 8 h (V.sl (H.next s75) 0 1 (.ex 1)) s77 fun u78 s79=>
 rtOne u78 (
 K2 u78 s79)) (
 K2 h s75)))) (
 K1 g h (H.next σ) 0 x14 x17 x20 x23 x26 x29 x32 x35 x38 x41 x44 x45 x47 x51 x54 x57 s6))))) fun k7=>
 condK c2 (
 k7 true s3) (
 k7 (ltF (Int.ofNat 16) g) s3)) fun k4=>
 condK (ltF f (Int.ofNat 0)) (
 k4 true s1) (
 ldK E s1 (H.next σ) 4 fun u80=>
 slenK u80 fun n81=>
 k4 (leF (Int.ofNat n81) f) s1)
def C124_1 (cc3:XC) (cc4:XC):XC:=(.z (.c 12 y1<|
.nil)
 (.seq (.z (.q 13 0<|
.nil)
 (.block 0 (.loop q124b [10] q124a cc4)))
 (.keep q124c [10] q124a cc3)))
def T124_1 (E:List (Nat × Blk)) (D:Den) (W:DrawFn) (K4:Int→V→Nat→Nat→Bool→Int→Int→BS→Bool→Int→Int→Bool→Bool→Bool→Bool→Int→Int→V→V→Int→Bool→Int→H→Ans) (a:Int) (b:V) (c d:Nat) (e:Int) (f:BS) (g:Bool) (h i:Int) (j k l m:Bool) (o p:Int) (q r:V) (s:Int) (t:Bool) (u:Int) (σ:H):Ans:=
 K4 a b c d false (Int.ofNat 0) e f g h i j k l m o p q r s t u σ
def C124_2:XC:=(.z (.m 53 3<|
.m 8 53<|
.c 9 y1<|
.nil)
 .ret)
def T124_2 (E:List (Nat × Blk)) (D:Den) (W:DrawFn) (a:V) (σ:H):Ans:=
 some ((V.tup [a,.bool false]),σ)
def C124_3 (cc5:XC):XC:=(.seq (.z (.f 79 0 10<|
.l 80 .i 79<|
.b 81 .eql .none (.t 80) (.i 10)<|
.nil)
 (.cond (.tmp 81) (.z (.c 15 y1<|
.nil)
 (.z (.O 83 y9 (.load (some 5) (.t 4))<|
.f 84 15 10<|
.l 85 .i 84<|
.m 86 2<|
.b 87 .add .none (.t 86) (.i 1)<|
.m 88 3<|
.k 89 (.tup [.any,.bool]) 124 [(.t 83),(.t 85),(.t 87),(.t 88)]<|
.m 82 89<|
.P 90 (.extract 0 (.t 82))<|
.P 91 (.extract 1 (.t 82))<|
.m 3 90<|
.m 15 91<|
.nil)
 (.ops (.m 92 12<|
.m 93 92<|
.gO 93 false (.p 94 [15,93] (.mov (.t 15))<|
.nil) 95 93 94<|
.m 12 95<|
.nil))))
 .skip))
 (.keep [(3,.any),(12,.bool)] [] [] cc5))
def T124_3 (E:List (Nat × Blk)) (D:Den) (W:DrawFn) (K5:V→Bool→H→Ans) (a:Int) (b:V) (c d:Nat) (e:Bool) (f:Int) (g:BS) (h:Bool) (i j:Int) (k l m o:Bool) (p q:Int) (r s:V) (t:Int) (u:Bool) (v:Int) (σ:H):Ans:=
 condK (eqF f (Int.ofNat 10)) (
 ldnK E σ c d 5 fun l1=>
 xcS l1 fun x4 l3=>
 xcI .i64 l3 fun x7 l6=>
 rtCons l6 fun x8 l9=>
 rtCons l9 fun x10 l11=>
 rtCons l11 fun x12 l13=>
 rtNil l13 (
 callK (D 124 [.agg [.str x4,.int .i64 x7,x8,x10,x12],.int .i64 v,.int .i64 (addF .i64 a (Int.ofNat 1)),b] σ) fun u14 s15=>
 rtTup u14 fun l16=>
 rtCons l16 fun x17 l18=>
 xcB l18 fun x21 l20=>
 rtNil l20 (
 joinB (fun c22 s23=>
 K5 x17 c22 s23) fun k24=>
 condK e (
 k24 true s15) (
 k24 x21 s15)))) (
 K5 b e σ)
def C124_4:XC:=(.seq (.z (.m 54 13<|
.f 55 12 10<|
.l 56 .any 55<|
.u 57 56<|
.b 58 .lss .none (.t 54) (.t 57)<|
.nil)
 (.cond (.tmp 58) .skip
 y22))
 (.seq (.block 1 (.z (.c 14 y1<|
.nil)
 (.seq (.draw (.O 62 y9 (.load (some 5) (.t 4))<|
.f 63 12 10<|
.l 64 .any 63<|
.m 65 13<|
.s 66 11 64 65<|
.f 67 1 66<|
.l 68 .i 67<|
.m 69 2<|
.b 70 .add .none (.t 69) (.i 1)<|
.m 71 3<|
.k 72 (.tup [.any,.bool]) 124 [(.t 62),(.t 68),(.t 70),(.t 71)]<|
.m 61 72<|
.P 73 (.extract 0 (.t 61))<|
.P 74 (.extract 1 (.t 61))<|
.m 3 73<|
.m 14 74<|
.nil) [0,0,2,0,14,30,62,0,128,0,1023,2047,4095,4095,8191,32767])
 (.ops (.m 75 12<|
.m 76 75<|
.gO 76 false (.p 77 [14,76] (.mov (.t 14))<|
.nil) 78 76 77<|
.m 12 78<|
.nil)))))
 (.ops (.m 59 13<|
.b 60 .add .none (.t 59) (.i 1)<|
.m 13 60<|
.nil))))
def T124_4 (E:List (Nat × Blk)) (D:Den) (W:DrawFn) (K3:Int→V→Nat→Nat→Bool→Int→BS→Bool→Int→Int→Bool→Bool→Bool→Bool→Int→Int→V→V→Int→Bool→Int→H→Ans) (R4:Int→V→Nat→Nat→Bool→Int→Int→BS→Bool→Int→Int→Bool→Bool→Bool→Bool→Int→Int→V→V→Int→Bool→Int→H→Ans) (a:Int) (b:V) (c d:Nat) (e:Bool) (f g:Int) (h:BS) (i:Bool) (j k:Int) (l m o p:Bool) (q r:Int) (s t:V) (u:Int) (v:Bool) (w:Int) (σ:H):Ans:=
 slenK t fun n1=>
 condK (ltF f (Int.ofNat n1)) (
 ldnK E σ c d 5 fun l2=>
 xcS l2 fun x5 l4=>
 xcI .i64 l4 fun x8 l7=>
 rtCons l7 fun x9 l10=>
 rtCons l10 fun x11 l12=>
 rtCons l12 fun x13 l14=>
 rtNil l14 (
 iaddrSK 11 t f fun b15 o16=>
 ldK E σ b15 (Nat.add o16 1) fun u17=>
 rtInt .i64 u17 fun x18=>
 callK (D 124 [.agg [.str x5,.int .i64 x8,x9,x11,x13],.int .i64 x18,.int .i64 (addF .i64 a (Int.ofNat 1)),b] σ) fun u19 s20=>
 rtTup u19 fun l21=>
 rtCons l21 fun x22 l23=>
 xcB l23 fun x26 l25=>
 rtNil l25 (
 joinB (fun c27 s28=>
 R4 a x22 c d c27 (addF .i64 f (Int.ofNat 1)) g h i j k l m o p q r s t u v w s28) fun k29=>
 condK e (
 k29 true s20) (
 k29 x26 s20)))) (
 K3 a b c d e g h i j k l m o p q r s t u v w σ)
def C124_5:XC:=(.z (.m 96 3<|
.m 97 12<|
.m 8 96<|
.m 9 97<|
.nil)
 .ret)
def T124_5 (E:List (Nat × Blk)) (D:Den) (W:DrawFn) (a:V) (b:Bool) (σ:H):Ans:=
 some ((V.tup [a,.bool b]),σ)
def S124_0 (a:BS) (b:Int) (c d e:V) (f g:Int) (h:V) (σ:H):St:=⟨[(0,.agg [.str a,.int .i64 b,c,d,e]),(1,.int .i64 f),(2,.int .i64 g),(3,h)],[],[],σ⟩
def S124_1 (a:Int) (b:V) (c d:Nat) (e:Int) (f:BS) (g:Bool) (h i:Int) (j k l m:Bool) (o p:Int) (q r:V) (s:Int) (t:Bool) (u:Int) (σ:H):St:=⟨[(2,.int .i64 a),(3,b),(4,.ptr c d)],[(10,(10,0))],[(10,[.int .i64 e,.str f,.bool g,.int .i64 h,.int .i64 i,.bool j,.bool k,.bool l,.bool m,.int .i64 o,.int .i64 p,q,r,.int .i64 s,.bool t,.int .i64 u])],σ⟩
def S124_2 (a:V) (σ:H):St:=⟨[(3,a)],[],[],σ⟩
def S124_3 (a:Int) (b:V) (c d:Nat) (e:Bool) (f:Int) (g:BS) (h:Bool) (i j:Int) (k l m o:Bool) (p q:Int) (r s:V) (t:Int) (u:Bool) (v:Int) (σ:H):St:=⟨[(2,.int .i64 a),(3,b),(4,.ptr c d),(12,.bool e)],[(10,(10,0))],[(10,[.int .i64 f,.str g,.bool h,.int .i64 i,.int .i64 j,.bool k,.bool l,.bool m,.bool o,.int .i64 p,.int .i64 q,r,s,.int .i64 t,.bool u,.int .i64 v])],σ⟩
def S124_4 (a:Int) (b:V) (c d:Nat) (e:Bool) (f g:Int) (h:BS) (i:Bool) (j k:Int) (l m o p:Bool) (q r:Int) (s t:V) (u:Int) (v:Bool) (w:Int) (σ:H):St:=⟨[(2,.int .i64 a),(3,b),(4,.ptr c d),(12,.bool e),(13,.int .i64 f)],[(10,(10,0))],[(10,[.int .i64 g,.str h,.bool i,.int .i64 j,.int .i64 k,.bool l,.bool m,.bool o,.bool p,.int .i64 q,.int .i64 r,s,t,.int .i64 u,.bool v,.int .i64 w])],σ⟩
def S124_5 (a:V) (b:Bool) (σ:H):St:=⟨[(3,a),(12,.bool b)],[],[],σ⟩
theorem P124_0 (cc1:XC) (cc2:XC) (a:BS) (b:Int) (c d e:V) (f g:Int) (h:V) (σ:H) :
 denC E D W N (C124_0 cc1 cc2) (S124_0 a b c d e f g h σ) (Fin124 E) nX (Fin124 E) =
 T124_0 E D W (fun g h i j k l m o p q r s t u v w x y z B σ=>denC E D W N cc1 (S124_1 g h i j k l m o p q r s t u v w x y z B σ) (Fin124 E) nX (Fin124 E)) (fun h σ=>denC E D W N cc2 (S124_2 h σ) (dX E D W N (.keep q124d [10] q124a cc1) (Fin124 E) nX (Fin124 E)) nX (Fin124 E)) a b c d e f g h σ:=by kernel_rfl
theorem P124_1 (cc3:XC) (cc4:XC) (a:Int) (b:V) (c d:Nat) (e:Int) (f:BS) (g:Bool) (h i:Int) (j k l m:Bool) (o p:Int) (q r:V) (s:Int) (t:Bool) (u:Int) (σ:H) :
 denC E D W N (C124_1 cc3 cc4) (S124_1 a b c d e f g h i j k l m o p q r s t u σ) (Fin124 E) nX (Fin124 E) =
 T124_1 E D W (fun a b c d v w e f g h i j k l m o p q r s t u σ=>iterK (fun rec s'=>denC E D W N cc4 s' (kX q124b [10] q124a rec) (b124a E D W N cc3) (Fin124 E)) N (S124_4 a b c d v w e f g h i j k l m o p q r s t u σ)) a b c d e f g h i j k l m o p q r s t u σ:=by kernel_rfl
theorem P124_2 (cc1:XC) (a:V) (σ:H) :
 denC E D W N (C124_2 ) (S124_2 a σ) (dX E D W N (.keep q124d [10] q124a cc1) (Fin124 E) nX (Fin124 E)) nX (Fin124 E) =
 T124_2 E D W  a σ:=by kernel_rfl
theorem P124_3 (cc5:XC) (a:Int) (b:V) (c d:Nat) (e:Bool) (f:Int) (g:BS) (h:Bool) (i j:Int) (k l m o:Bool) (p q:Int) (r s:V) (t:Int) (u:Bool) (v:Int) (σ:H) :
 denC E D W N (C124_3 cc5) (S124_3 a b c d e f g h i j k l m o p q r s t u v σ) (Fin124 E) nX (Fin124 E) =
 T124_3 E D W (fun b e σ=>denC E D W N cc5 (S124_5 b e σ) (Fin124 E) nX (Fin124 E)) a b c d e f g h i j k l m o p q r s t u v σ:=by kernel_rfl
theorem P124_4 (cc3:XC) (li4:St→Ans) (a:Int) (b:V) (c d:Nat) (e:Bool) (f g:Int) (h:BS) (i:Bool) (j k:Int) (l m o p:Bool) (q r:Int) (s t:V) (u:Int) (v:Bool) (w:Int) (σ:H) :
 denC E D W N (C124_4 ) (S124_4 a b c d e f g h i j k l m o p q r s t u v w σ) (kX q124b [10] q124a li4) (b124a E D W N cc3) (Fin124 E) =
 T124_4 E D W (fun a b c d e g h i j k l m o p q r s t u v w σ=>denC E D W N cc3 (S124_3 a b c d e g h i j k l m o p q r s t u v w σ) (Fin124 E) nX (Fin124 E)) (fun a b c d e f g h i j k l m o p q r s t u v w σ=>li4 (S124_4 a b c d e f g h i j k l m o p q r s t u v w σ)) a b c d e f g h i j k l m o p q r s t u v w σ:=by kernel_rfl
def J124_5 (E:List (Nat × Blk)) (D:Den) (W:DrawFn) (N:Nat):=T124_5 E D W
theorem JE124_5 (a:V) (b:Bool) (σ:H) :
 denC E D W N C124_5 (S124_5 a b σ) (Fin124 E) nX (Fin124 E)=J124_5 E D W N a b σ:=by kernel_rfl
def J124_3:=T124_3 E D W (J124_5 E D W N )
theorem JE124_3 (a:Int) (b:V) (c d:Nat) (e:Bool) (f:Int) (g:BS) (h:Bool) (i j:Int) (k l m o:Bool) (p q:Int) (r s:V) (t:Int) (u:Bool) (v:Int) (σ:H) :
 denC E D W N (C124_3 C124_5) (S124_3 a b c d e f g h i j k l m o p q r s t u v σ) (Fin124 E) nX (Fin124 E)=J124_3 E D W N a b c d e f g h i j k l m o p q r s t u v σ:=by
 refine(P124_3 E D W N C124_5  a b c d e f g h i j k l m o p q r s t u v σ).trans ?_
 simp only[JE124_5]
 kernel_rfl
def L124_4 (n:Nat):Int→V→Nat→Nat→Bool→Int→Int→BS→Bool→Int→Int→Bool→Bool→Bool→Bool→Int→Int→V→V→Int→Bool→Int→H→Ans:=
 Nat.rec (fun _ _ _ _ _ _ _ _ _ _ _ _ _ _ _ _ _ _ _ _ _ _ _=>none) (fun _ ih=>T124_4 E D W (J124_3 E D W N ) ih) n
theorem LE124_4 (n:Nat):∀(a:Int) (b:V) (c d:Nat) (e:Bool) (f g:Int) (h:BS) (i:Bool) (j k:Int) (l m o p:Bool) (q r:Int) (s t:V) (u:Int) (v:Bool) (w:Int) (σ:H),
 iterK (fun rec s'=>denC E D W N C124_4 s' (kX q124b [10] q124a rec) (b124a E D W N (C124_3 C124_5)) (Fin124 E)) n (S124_4 a b c d e f g h i j k l m o p q r s t u v w σ)=L124_4 E D W N n a b c d e f g h i j k l m o p q r s t u v w σ:=by
 induction n with
 | zero=>intro a b c d e f g h i j k l m o p q r s t u v w σ;rfl
 | succ n ihn=>
  intro a b c d e f g h i j k l m o p q r s t u v w σ
  rw[iterK_succ]
  refine(P124_4 E D W N (C124_3 C124_5) (iterK (fun rec s'=>denC E D W N C124_4 s' (kX q124b [10] q124a rec) (b124a E D W N (C124_3 C124_5)) (Fin124 E)) n) a b c d e f g h i j k l m o p q r s t u v w σ).trans ?_
  simp only[ihn,JE124_3]
  kernel_rfl
def J124_1:=T124_1 E D W (L124_4 E D W N N)
theorem JE124_1 (a:Int) (b:V) (c d:Nat) (e:Int) (f:BS) (g:Bool) (h i:Int) (j k l m:Bool) (o p:Int) (q r:V) (s:Int) (t:Bool) (u:Int) (σ:H) :
 denC E D W N (C124_1 (C124_3 C124_5) C124_4) (S124_1 a b c d e f g h i j k l m o p q r s t u σ) (Fin124 E) nX (Fin124 E)=J124_1 E D W N a b c d e f g h i j k l m o p q r s t u σ:=by
 refine(P124_1 E D W N (C124_3 C124_5) C124_4  a b c d e f g h i j k l m o p q r s t u σ).trans ?_
 simp only[LE124_4]
 kernel_rfl
def J124_2 (E:List (Nat × Blk)) (D:Den) (W:DrawFn) (N:Nat):=T124_2 E D W
theorem JE124_2 (a:V) (σ:H) :
 denC E D W N C124_2 (S124_2 a σ) (dX E D W N (.keep q124d [10] q124a (C124_1 (C124_3 C124_5) C124_4)) (Fin124 E) nX (Fin124 E)) nX (Fin124 E)=J124_2 E D W N a σ:=by
 refine(P124_2 E D W N (C124_1 (C124_3 C124_5) C124_4)  a σ).trans ?_
 kernel_rfl
def J124_0:=T124_0 E D W (J124_1 E D W N ) (J124_2 E D W N )
theorem JE124_0 (a:BS) (b:Int) (c d e:V) (f g:Int) (h:V) (σ:H) :
 denC E D W N (C124_0 (C124_1 (C124_3 C124_5) C124_4) C124_2) (S124_0 a b c d e f g h σ) (Fin124 E) nX (Fin124 E)=J124_0 E D W N a b c d e f g h σ:=by
 refine(P124_0 E D W N (C124_1 (C124_3 C124_5) C124_4) C124_2  a b c d e f g h σ).trans ?_
 simp only[JE124_1,JE124_2]
 kernel_rfl
def F124 (args:List V) (σ:H):Ans:=
 rtCons args fun x1 l2=>
 rtAgg x1 fun l3=>
 xcS l3 fun x6 l5=>
 xcI .i64 l5 fun x9 l8=>
 rtCons l8 fun x10 l11=>
 rtCons l11 fun x12 l13=>
 rtCons l13 fun x14 l15=>
 rtNil l15 (
 xcI .i64 l2 fun x18 l17=>
 xcI .i64 l17 fun x21 l20=>
 rtCons l20 fun x22 l23=>
 rtNil l23 (
 J124_0 E D W N x6 x9 x10 x12 x14 x18 x21 x22 σ))
def A124:XFn:=⟨98,[y9,.i,.i,.any],[(.tmp 8),(.tmp 9)],(C124_0 (C124_1 (C124_3 C124_5) C124_4) C124_2)⟩
theorem FE124 (args:List V) (σ:H):runX E D W N A124 args σ=F124 E D W N args σ:=by
 unfold F124
 simp only[←JE124_0]
 kernel_rfl
def q125a:List (Nat × XTy):=[(0,.any),(2,.i),(7,.any),(8,.any)]
def Fin125 (E:List (Nat × Blk)):St→Ans:=fun s=>resK E s [(.tmp 6)] fun l=>some (oneV l,s.σ)
def b125a (c0:XC):Nat→St→Ans:=blkK 0 (dX E D W N (.keep [] [] [] c0) (Fin125 E) nX (Fin125 E)) nX
def C125_0 (cc1:XC) (cc2:XC):XC:=(.z (.c 6 y1<|
.nil)
 (.z (.p 10 [] (.buildSlice 3 0 [] [])<|
.m 7 10<|
.nil)
 (.z (.m 11 0<|
.m 12 1<|
.s 13 1 11 12<|
.l 14 .any 13<|
.O 15 .one (.append 3 1 8 (.con V.nils) (.t 14))<|
.m 8 15<|
.nil)
 (.seq (.block 0 (.loop q125a [] [] cc2))
 (.keep [] [] [] cc1)))))
def T125_0 (E:List (Nat × Blk)) (D:Den) (W:DrawFn) (K2:V→Int→V→V→H→Ans) (a:V) (b c:Int) (σ:H):Ans:=
 let s1:=newB σ (.cells []);
 iaddrSK 1 a b fun b2 o3=>
 ldK E s1 b2 o3 fun u4=>
 appK E 1 8 V.nils u4 s1 fun u5 s6=>
 rtOne u5 (
 K2 a c (V.sl (H.next σ) 0 0 (.ex 0)) u5 s6)
def C125_1:XC:=(.z (.c 6 y1<|
.nil)
 .ret)
def T125_1 (E:List (Nat × Blk)) (D:Den) (W:DrawFn) (σ:H):Ans:=
 some ((V.bool false),σ)
def C125_2:XC:=(.seq (.z (.m 16 8<|
.u 17 16<|
.b 18 .gtr .none (.t 17) (.i 0)<|
.nil)
 (.cond (.tmp 18) .skip
 y22))
 (.block 1 (.z (.m 19 8<|
.P 20 (.iaddrS 1 (.t 19) (.i 0))<|
.l 21 .i 20<|
.m 9 21<|
.nil)
 (.z (.m 22 8<|
.p 23 [22] (.sliceSl 1 (.t 22) (some (.i 1)) none none)<|
.m 8 23<|
.nil)
 (.seq (.z (.m 24 9<|
.m 25 2<|
.b 26 .eql .none (.t 24) (.t 25)<|
.nil)
 (.cond (.tmp 26) (.z (.c 6 y31<|
.nil)
 .ret)
 .skip))
 (.z (.m 27 7<|
.m 28 9<|
.k 29 .bool 29 [(.t 27),(.t 28)]<|
.P 30 (.un .not (.t 29))<|
.nil)
 (.cond (.tmp 30) (.z (.m 31 7<|
.m 32 9<|
.p 33 [32] (.buildSlice 3 1 [y0] [(0,1,(.t 32))])<|
.O 34 .one (.append 3 1 8 (.t 31) (.t 33))<|
.m 7 34<|
.nil)
 (.ops (.m 35 8<|
.m 36 0<|
.m 37 9<|
.s 38 1 36 37<|
.l 39 .any 38<|
.O 40 .one (.append 3 1 8 (.t 35) (.t 39))<|
.m 8 40<|
.nil)))
 .skip)))))))
def T125_2 (E:List (Nat × Blk)) (D:Den) (W:DrawFn) (K1:H→Ans) (R2:V→Int→V→V→H→Ans) (a:V) (b:Int) (c d:V) (σ:H):Ans:=
 slenK d fun n1=>
 condK (ltF (Int.ofNat 0) (Int.ofNat n1)) (
 iaddrSK 1 d (Int.ofNat 0) fun b2 o3=>
 ldK E σ b2 o3 fun u4=>
 rtInt .i64 u4 fun x5=>
 gK (sliceV 1 d (some (V.int .i64 (Int.ofNat 1))) none none) fun u6=>
 condK (eqF x5 b) (
 some ((V.bool true),σ)) (
 callK (D 29 [c,.int .i64 x5] σ) fun u7 s8=>
 rtBool u7 fun x9=>
 condK (not x9) (
 let s10:=newB s8 (.cells [.int .i64 x5]);
 appK E 1 8 c (V.sl (H.next s8) 0 1 (.ex 1)) s10 fun u11 s12=>
 rtOne u11 (
 iaddrSK 1 a x5 fun b13 o14=>
 ldK E s12 b13 o14 fun u15=>
 appK E 1 8 u6 u15 s12 fun u16 s17=>
 rtOne u16 (
 R2 a b u11 u16 s17))) (
 R2 a b c u6 s8))) (
 K1 σ)
def S125_0 (a:V) (b c:Int) (σ:H):St:=⟨[(0,a),(1,.int .i64 b),(2,.int .i64 c)],[],[],σ⟩
def S125_1 (σ:H):St:=⟨[],[],[],σ⟩
def S125_2 (a:V) (b:Int) (c d:V) (σ:H):St:=⟨[(0,a),(2,.int .i64 b),(7,c),(8,d)],[],[],σ⟩
theorem P125_0 (cc1:XC) (cc2:XC) (a:V) (b c:Int) (σ:H) :
 denC E D W N (C125_0 cc1 cc2) (S125_0 a b c σ) (Fin125 E) nX (Fin125 E) =
 T125_0 E D W (fun a c d e σ=>iterK (fun rec s'=>denC E D W N cc2 s' (kX q125a [] [] rec) (b125a E D W N cc1) (Fin125 E)) N (S125_2 a c d e σ)) a b c σ:=by kernel_rfl
theorem P125_2 (cc1:XC) (li2:St→Ans) (a:V) (b:Int) (c d:V) (σ:H) :
 denC E D W N (C125_2 ) (S125_2 a b c d σ) (kX q125a [] [] li2) (b125a E D W N cc1) (Fin125 E) =
 T125_2 E D W (fun  σ=>denC E D W N cc1 (S125_1 σ) (Fin125 E) nX (Fin125 E)) (fun a b c d σ=>li2 (S125_2 a b c d σ)) a b c d σ:=by kernel_rfl
def J125_1 (E:List (Nat × Blk)) (D:Den) (W:DrawFn) (N:Nat):=T125_1 E D W
theorem JE125_1 (σ:H) :
 denC E D W N C125_1 (S125_1 σ) (Fin125 E) nX (Fin125 E)=J125_1 E D W N  σ:=by kernel_rfl
def L125_2 (n:Nat):V→Int→V→V→H→Ans:=
 Nat.rec (fun _ _ _ _ _=>none) (fun _ ih=>T125_2 E D W (J125_1 E D W N ) ih) n
theorem LE125_2 (n:Nat):∀(a:V) (b:Int) (c d:V) (σ:H),
 iterK (fun rec s'=>denC E D W N C125_2 s' (kX q125a [] [] rec) (b125a E D W N C125_1) (Fin125 E)) n (S125_2 a b c d σ)=L125_2 E D W N n a b c d σ:=by
 induction n with
 | zero=>intro a b c d σ;rfl
 | succ n ihn=>
  intro a b c d σ
  rw[iterK_succ]
  refine(P125_2 E D W N C125_1 (iterK (fun rec s'=>denC E D W N C125_2 s' (kX q125a [] [] rec) (b125a E D W N C125_1) (Fin125 E)) n) a b c d σ).trans ?_
  simp only[ihn,JE125_1]
  kernel_rfl
def J125_0:=T125_0 E D W (L125_2 E D W N N)
theorem JE125_0 (a:V) (b c:Int) (σ:H) :
 denC E D W N (C125_0 C125_1 C125_2) (S125_0 a b c σ) (Fin125 E) nX (Fin125 E)=J125_0 E D W N a b c σ:=by
 refine(P125_0 E D W N C125_1 C125_2  a b c σ).trans ?_
 simp only[LE125_2]
 kernel_rfl
def F125 (args:List V) (σ:H):Ans:=
 rtCons args fun x1 l2=>
 xcI .i64 l2 fun x5 l4=>
 xcI .i64 l4 fun x8 l7=>
 rtNil l7 (
 J125_0 E D W N x1 x5 x8 σ)
def A125:XFn:=⟨41,[.any,.i,.i],[(.tmp 6)],(C125_0 C125_1 C125_2)⟩
theorem FE125 (args:List V) (σ:H):runX E D W N A125 args σ=F125 E D W N args σ:=by
 unfold F125
 simp only[←JE125_0]
 kernel_rfl
def G127_0:List AOper:=[⟨(some 45),.mov (.tmp 0),none⟩,⟨(some 46),.mov (.tmp 0),none⟩,⟨(some 47),.nilck (.tmp 46),none⟩,⟨(some 48),.faddr 5 (.tmp 47),none⟩,⟨(some 49),.load none (.tmp 48),none⟩,⟨(some 50),.load (some 13) (.tmp 8),none⟩,⟨(some 51),.buildSlice 145 1 [(V.int .i64 (Int.ofNat 0)),V.nils,(V.bool false),(V.bool false),(V.bool false),(V.bool false),(V.int .i64 (Int.ofNat 0)),(V.int .i64 (Int.ofNat 0)),V.nils,V.nils,(V.int .i64 (Int.ofNat 0)),(V.bool false),(V.int .i64 (Int.ofNat 0))] [(0,13,(.tmp 50))],none⟩,⟨(some 52),.append 145 13 128 (.tmp 49) (.tmp 51),none⟩,⟨(some 53),.nilck (.tmp 45),none⟩,⟨(some 54),.faddr 5 (.tmp 53),none⟩,⟨none,.store 1 (.tmp 54) (.tmp 52),none⟩]
def H127_0:List DP:=[⟨0,[0]⟩,⟨0,[0]⟩,⟨2,[46]⟩,⟨6,[47]⟩,⟨14,[48]⟩,⟨0,[8]⟩,⟨32,[50]⟩,⟨126,[49,51]⟩,⟨255,[45]⟩,⟨511,[53]⟩,⟨1023,[54,52]⟩]
def G127_1:List AOper:=[⟨(some 97),.mov (.tmp 0),none⟩,⟨(some 98),.nilck (.tmp 97),none⟩,⟨(some 99),.faddr 5 (.tmp 98),none⟩,⟨(some 100),.load none (.tmp 99),none⟩,⟨(some 101),.mov (.tmp 7),none⟩,⟨(some 102),.mov (.tmp 0),none⟩,⟨(some 103),.load (some 16) (.tmp 4),none⟩,⟨(some 104),.call 222 [(.tmp 102),(.tmp 103)],none⟩,⟨(some 105),.iaddrS 13 (.tmp 100) (.tmp 101),none⟩,⟨(some 106),.faddr 8 (.tmp 105),none⟩,⟨none,.store 1 (.tmp 106) (.tmp 104),none⟩]
def H127_1:List DP:=[⟨0,[0]⟩,⟨1,[97]⟩,⟨3,[98]⟩,⟨7,[99]⟩,⟨0,[7]⟩,⟨0,[0]⟩,⟨0,[4]⟩,⟨96,[102,103]⟩,⟨255,[100,101]⟩,⟨511,[105]⟩,⟨1023,[106,104]⟩]
def C127_0 (cc1:XC):XC:=(.z (.P 4 (.box 183 (.t 1))<|
.q 6 0<|
.nil)
 (.seq (.z (.m 11 2<|
.b 12 .gtr .none (.t 11) (.i 16)<|
.m 13 12<|
.gO 13 false (.p 14 [0,13] y13<|
.p 15 [14,13] (.nilck (.t 14))<|
.p 16 [15,13] (.faddr 5 (.t 15))<|
.p 17 [16,13] (.load none (.t 16))<|
.p 18 [17,13] (.len false (.t 17))<|
.p 19 [18,13] (.bin .geq .none (.t 18) (.i 300))<|
.nil) 20 13 19<|
.nil)
 (.cond (.tmp 20) (.z (.m 21 0<|
.k 22 y10 219 [(.t 21),(.i 5)]<|
.nil)
 (.z (.q 6 0<|
.nil)
 .ret))
 .skip))
 (.z (.m 23 0<|
.n 24 23<|
.f 25 5 24<|
.l 26 .any 25<|
.u 27 26<|
.m 7 27<|
.nil)
 (.z (.f 28 0 4<|
.l 29 .i 28<|
.f 30 5 4<|
.O 31 y2 (.load (some 6) (.t 30))<|
.f 32 13 4<|
.l 33 .i 32<|
.f 34 14 4<|
.l 35 .bool 34<|
.op (some 36) y6 [29,31,33,35] (.build [y0,V.nils,y1,y1,y1,y1,y0,y0,V.nils,V.nils,y0,y1,y0] [(0,1,(.t 29)),(2,6,(.t 31)),(10,1,(.t 33)),(11,1,(.t 35))])<|
.p 8 [] (.alloc 145 [y0,V.nils,y1,y1,y1,y1,y0,y0,V.nils,V.nils,y0,y1,y0])<|
.op none y6 [8,36] (.store 13 (.t 8) (.t 36))<|
.nil)
 (.seq (.z (.f 37 0 4<|
.l 38 .i 37<|
.b 39 .neq .none (.t 38) (.i 9)<|
.nil)
 (.cond (.tmp 39) (.ops (.f 40 0 4<|
.l 41 .i 40<|
.k 42 y17 220 [(.t 41)]<|
.p 43 [42] (.buildSlice 253 1 [y0,y0] [(0,2,(.t 42))])<|
.f 44 1 8<|
.w 1 44 43<|
.nil))
 .skip))
 (.keep [(0,.ptr),(2,.i),(4,.ptr),(7,.i),(8,.ptr)] [] [] cc1))))))
def T127_0 (E:List (Nat × Blk)) (D:Den) (W:DrawFn) (K1:Nat→Nat→Int→Nat→Nat→Int→Nat→Nat→H→Ans) (a b:Nat) (c:Int) (d:BS) (e:Bool) (f g:Int) (h i j k:Bool) (l m:Int) (o p:V) (q:Int) (r:Bool) (s t:Int) (σ:H):Ans:=
 nbK [.int .i64 c,.str d,.bool e,.int .i64 f,.int .i64 g,.bool h,.bool i,.bool j,.bool k,.int .i64 l,.int .i64 m,o,p,.int .i64 q,.bool r,.int .i64 s] σ fun s1=>
 joinB (fun c2 s3=>
 condK c2 (
 callK (D 219 [.ptr a b,.int .i64 (Int.ofNat 5)] s3) fun u5 s6=>
 rtTup u5 fun l7=>
 rtNil l7 (
 some ((V.int .i64 (Int.ofNat 0)),s6))) (
 ldK E s3 a (Nat.add b 5) fun u8=>
 slenK u8 fun n9=>
 ldK E s3 (H.next σ) 0 fun u10=>
 rtInt .i64 u10 fun x11=>
 ldnK E s3 (H.next σ) 5 6 fun l12=>
 xcB l12 fun x15 l14=>
 xcB l14 fun x18 l17=>
 xcB l17 fun x21 l20=>
 xcB l20 fun x24 l23=>
 xcI .i64 l23 fun x27 l26=>
 xcI .i64 l26 fun x30 l29=>
 rtNil l29 (
 ldK E s3 (H.next σ) 13 fun u31=>
 rtInt .i64 u31 fun x32=>
 ldK E s3 (H.next σ) 14 fun u33=>
 rtBool u33 fun x34=>
 let s35:=newB s3 (.cells [.int .i64 (Int.ofNat 0),V.nils,.bool false,.bool false,.bool false,.bool false,.int .i64 (Int.ofNat 0),.int .i64 (Int.ofNat 0),V.nils,V.nils,.int .i64 (Int.ofNat 0),.bool false,.int .i64 (Int.ofNat 0)]);
 stK 13 (H.next s3) 0 (V.agg [.int .i64 x11,V.nils,.bool x15,.bool x18,.bool x21,.bool x24,.int .i64 x27,.int .i64 x30,V.nils,V.nils,.int .i64 x32,.bool x34,.int .i64 (Int.ofNat 0)]) s35 fun s36=>
 ldK E s36 (H.next σ) 0 fun u37=>
 rtInt .i64 u37 fun x38=>
 condK (not (eqF x38 (Int.ofNat 9))) (
 ldK E s36 (H.next σ) 0 fun u39=>
 rtInt .i64 u39 fun x40=>
 callK (D 220 [.int .i64 x40] s36) fun u41 s42=>
 rtAgg u41 fun l43=>
 xcI .i64 l43 fun x46 l45=>
 xcI .i64 l45 fun x49 l48=>
 rtNil l48 (
 let s50:=newB s42 (.cells [.int .i64 x46,.int .i64 x49]);
 stK 1 (H.next s3) 1 (V.sl (H.next s42) 0 1 (.ex 1)) s50 fun s51=>
 K1 a b t (H.next σ) 0 (Int.ofNat n9) (H.next s3) 0 s51)) (
 K1 a b t (H.next σ) 0 (Int.ofNat n9) (H.next s3) 0 s36)))) fun k4=>
 condK (ltF (Int.ofNat 16) t) (
 k4 true s1) (
 ldK E s1 a (Nat.add b 5) fun u52=>
 slenK u52 fun n53=>
 k4 (leF (Int.ofNat 300) (Int.ofNat n53)) s1)
def C127_1 (cc2:XC) (cc3:XC):XC:=(.seq (.keep [(0,.ptr),(2,.i),(4,.ptr),(7,.i),(8,.ptr)] [] [] (.gdraw G127_0 H127_0 [(0,.ptr),(2,.i),(4,.ptr),(7,.i)]))
 (.seq (.z (.f 55 0 4<|
.l 56 .i 55<|
.nil)
 (.block 0 (.seq (.z (.b 58 .eql .none (.t 56) (.i 2)<|
.m 57 58<|
.nil)
 (.cond (.tmp 57) .skip
 (.z (.b 59 .eql .none (.t 56) (.i 5)<|
.m 57 59<|
.nil)
 (.cond (.tmp 57) .skip
 (.z (.b 60 .eql .none (.t 56) (.i 6)<|
.m 57 60<|
.nil)
 (.cond (.tmp 57) .skip
 (.ops (.b 61 .eql .none (.t 56) (.i 10)<|
.m 57 61<|
.nil))))))))
 (.keep [(0,.ptr),(2,.i),(4,.ptr),(7,.i),(56,.i),(57,.bool)] [] [] cc3))))
 (.keep [(7,.i)] [] [] cc2)))
def T127_1 (E:List (Nat × Blk)) (D:Den) (W:DrawFn) (K3:Nat→Nat→Int→Nat→Nat→Int→Int→Bool→H→Ans) (a b:Nat) (c:Int) (d e:Nat) (f:Int) (g h:Nat) (σ:H):Ans:=
 gdrawK (W G127_0 H127_0 [(0,.ptr a b),(2,.int .i64 c),(4,.ptr d e),(7,.int .i64 f),(8,.ptr g h)] σ) fun e1 s2=>
 getL e1 0 fun u3=>
 rtPtr u3 fun b4 o5=>
 getL e1 2 fun u6=>
 rtInt .i64 u6 fun x7=>
 getL e1 4 fun u8=>
 rtPtr u8 fun b9 o10=>
 getL e1 7 fun u11=>
 rtInt .i64 u11 fun x12=>
 ldK E s2 b9 o10 fun u13=>
 rtInt .i64 u13 fun x14=>
 condK (eqF x14 (Int.ofNat 2)) (
 K3 b4 o5 x7 b9 o10 x12 x14 (eqF x14 (Int.ofNat 2)) s2) (
 condK (eqF x14 (Int.ofNat 5)) (
 K3 b4 o5 x7 b9 o10 x12 x14 (eqF x14 (Int.ofNat 5)) s2) (
 condK (eqF x14 (Int.ofNat 6)) (
 K3 b4 o5 x7 b9 o10 x12 x14 (eqF x14 (Int.ofNat 6)) s2) (
 K3 b4 o5 x7 b9 o10 x12 x14 (eqF x14 (Int.ofNat 10)) s2)))
def C127_2:XC:=(.z (.m 116 7<|
.m 6 116<|
.nil)
 .ret)
def T127_2 (E:List (Nat × Blk)) (D:Den) (W:DrawFn) (a:Int) (σ:H):Ans:=
 some ((V.int .i64 a),σ)
def C127_3 (cc4:XC) (cc5:XC):XC:=(.cond (.tmp 57) (.z (.f 62 5 4<|
.O 63 y2 (.load (some 6) (.t 62))<|
.f 64 0 4<|
.l 65 .i 64<|
.b 66 .neq .none (.t 65) (.i 2)<|
.k 67 .i 221 [(.t 63),(.t 66)]<|
.m 9 67<|
.nil)
 (.seq (.z (.m 68 9<|
.b 69 .neq .none (.t 68) (.i 0)<|
.nil)
 (.cond (.tmp 69) (.ops (.m 70 0<|
.m 71 9<|
.k 72 y10 219 [(.t 70),(.t 71)]<|
.nil))
 .skip))
 (.keep [(0,.ptr),(2,.i),(4,.ptr),(7,.i)] [] [] cc4)))
 (.z (.b 96 .eql .none (.t 56) (.i 3)<|
.m 95 96<|
.nil)
 (.cond (.tmp 95) (.keep [(0,.ptr),(4,.ptr),(7,.i)] [] [] (.gdraw G127_1 H127_1 [(7,.i)]))
 (.seq (.z (.b 108 .eql .none (.t 56) (.i 7)<|
.m 107 108<|
.nil)
 (.cond (.tmp 107) .skip
 (.z (.b 109 .eql .none (.t 56) (.i 8)<|
.m 107 109<|
.nil)
 (.cond (.tmp 107) .skip
 (.ops (.b 110 .eql .none (.t 56) (.i 9)<|
.m 107 110<|
.nil))))))
 (.keep [(0,.ptr),(2,.i),(4,.ptr),(7,.i),(107,.bool)] [] [] cc5)))))
def T127_3 (K2:Int→H→Ans) (K4:Nat→Nat→Int→Nat→Nat→Int→H→Ans) (K5:Nat→Nat→Int→Nat→Nat→Int→Bool→H→Ans) (a b:Nat) (c:Int) (d e:Nat) (f g:Int) (h:Bool) (σ:H):Ans:=
 condK h (
 ldnK E σ d (Nat.add e 5) 6 fun l1=>
 xcB l1 fun x4 l3=>
 xcB l3 fun x7 l6=>
 xcB l6 fun x10 l9=>
 xcB l9 fun x13 l12=>
 xcI .i64 l12 fun x16 l15=>
 xcI .i64 l15 fun x19 l18=>
 rtNil l18 (
 ldK E σ d e fun u20=>
 rtInt .i64 u20 fun x21=>
 callK (D 221 [.agg [.bool x4,.bool x7,.bool x10,.bool x13,.int .i64 x16,.int .i64 x19],.bool (not (eqF x21 (Int.ofNat 2)))] σ) fun u22 s23=>
 rtInt .i64 u22 fun x24=>
 condK (not (eqF x24 (Int.ofNat 0))) (
 callK (D 219 [.ptr a b,.int .i64 x24] s23) fun u25 s26=>
 rtTup u25 fun l27=>
 rtNil l27 (
 K4 a b c d e f s26)) (
 K4 a b c d e f s23))) (
 condK (eqF g (Int.ofNat 3)) (
 gdrawK (W G127_1 H127_1 [(0,.ptr a b),(4,.ptr d e),(7,.int .i64 f)] σ) fun e28 s29=>
 getL e28 7 fun u30=>
 rtInt .i64 u30 fun x31=>
 K2 x31 s29) (
 condK (eqF g (Int.ofNat 7)) (
 K5 a b c d e f (eqF g (Int.ofNat 7)) σ) (
 condK (eqF g (Int.ofNat 8)) (
 K5 a b c d e f (eqF g (Int.ofNat 8)) σ) (
 K5 a b c d e f (eqF g (Int.ofNat 9)) σ))))
def C127_4:XC:=(.z (.f 73 0 4<|
.l 74 .i 73<|
.b 75 .eql .none (.t 74) (.i 10)<|
.nil)
 (.cond (.tmp 75) (.z (.m 76 0<|
.f 77 15 4<|
.l 78 .i 77<|
.m 79 2<|
.b 80 .add .none (.t 79) (.i 1)<|
.k 81 .i 64 [(.t 76),(.t 78),(.t 80)]<|
.m 10 81<|
.nil)
 (.z (.m 82 0<|
.n 83 82<|
.f 84 6 83<|
.l 85 .i 84<|
.b 86 .eql .none (.t 85) (.i 0)<|
.nil)
 (.cond (.tmp 86) (.ops (.m 87 0<|
.n 88 87<|
.f 89 5 88<|
.l 90 .any 89<|
.m 91 7<|
.m 92 10<|
.s 93 13 90 91<|
.f 94 12 93<|
.w 1 94 92<|
.nil))
 .skip)))
 .skip))
def T127_4 (E:List (Nat × Blk)) (D:Den) (W:DrawFn) (K2:Int→H→Ans) (a b:Nat) (c:Int) (d e:Nat) (f:Int) (σ:H):Ans:=
 ldK E σ d e fun u1=>
 rtInt .i64 u1 fun x2=>
 condK (eqF x2 (Int.ofNat 10)) (
 ldK E σ d (Nat.add e 15) fun u3=>
 rtInt .i64 u3 fun x4=>
 callK (D 64 [.ptr a b,.int .i64 x4,.int .i64 (addF .i64 c (Int.ofNat 1))] σ) fun u5 s6=>
 rtInt .i64 u5 fun x7=>
 ldK E s6 a (Nat.add b 6) fun u8=>
 rtInt .i64 u8 fun x9=>
 condK (eqF x9 (Int.ofNat 0)) (
 ldK E s6 a (Nat.add b 5) fun u10=>
 iaddrSK 13 u10 f fun b11 o12=>
 stK 1 b11 (Nat.add o12 12) (V.int .i64 x7) s6 fun s13=>
 K2 f s13) (
 K2 f s6)) (
 K2 f σ)
def C127_5:XC:=(.cond (.tmp 107) (.ops (.m 111 0<|
.m 112 7<|
.O 113 y4 (.load (some 16) (.t 4))<|
.m 114 2<|
.k 115 y10 223 [(.t 111),(.t 112),(.t 113),(.t 114)]<|
.nil))
 .skip)
def T127_5 (E:List (Nat × Blk)) (D:Den) (W:DrawFn) (K2:Int→H→Ans) (a b:Nat) (c:Int) (d e:Nat) (f:Int) (g:Bool) (σ:H):Ans:=
 condK g (
 ldnK E σ d e 16 fun l1=>
 xcI .i64 l1 fun x4 l3=>
 xcS l3 fun x7 l6=>
 xcB l6 fun x10 l9=>
 xcI .i64 l9 fun x13 l12=>
 xcI .i64 l12 fun x16 l15=>
 xcB l15 fun x19 l18=>
 xcB l18 fun x22 l21=>
 xcB l21 fun x25 l24=>
 xcB l24 fun x28 l27=>
 xcI .i64 l27 fun x31 l30=>
 xcI .i64 l30 fun x34 l33=>
 rtCons l33 fun x35 l36=>
 rtCons l36 fun x37 l38=>
 xcI .i64 l38 fun x41 l40=>
 xcB l40 fun x44 l43=>
 xcI .i64 l43 fun x47 l46=>
 rtNil l46 (
 callK (D 223 [.ptr a b,.int .i64 f,.agg [.int .i64 x4,.str x7,.bool x10,.int .i64 x13,.int .i64 x16,.bool x19,.bool x22,.bool x25,.bool x28,.int .i64 x31,.int .i64 x34,x35,x37,.int .i64 x41,.bool x44,.int .i64 x47],.int .i64 c] σ) fun u48 s49=>
 rtTup u48 fun l50=>
 rtNil l50 (
 K2 f s49))) (
 K2 f σ)
def J127_2 (E:List (Nat × Blk)) (D:Den) (W:DrawFn) (N:Nat):=T127_2 E D W
def J127_4:=T127_4 E D W (J127_2 E D W N )
def J127_5:=T127_5 E D W (J127_2 E D W N )
def J127_3:=T127_3 E D W (J127_2 E D W N ) (J127_4 E D W N ) (J127_5 E D W N )
def J127_1:=T127_1 E D W (J127_3 E D W N )
def F127 (args:List V) (σ:H):Ans:=
 rtCons args fun x1 l2=>
 rtPtr x1 fun b3 o4=>
 rtCons l2 fun x5 l6=>
 rtAgg x5 fun l7=>
 xcI .i64 l7 fun x10 l9=>
 xcS l9 fun x13 l12=>
 xcB l12 fun x16 l15=>
 xcI .i64 l15 fun x19 l18=>
 xcI .i64 l18 fun x22 l21=>
 xcB l21 fun x25 l24=>
 xcB l24 fun x28 l27=>
 xcB l27 fun x31 l30=>
 xcB l30 fun x34 l33=>
 xcI .i64 l33 fun x37 l36=>
 xcI .i64 l36 fun x40 l39=>
 rtCons l39 fun x41 l42=>
 rtCons l42 fun x43 l44=>
 xcI .i64 l44 fun x47 l46=>
 xcB l46 fun x50 l49=>
 xcI .i64 l49 fun x53 l52=>
 rtNil l52 (
 xcI .i64 l6 fun x56 l55=>
 rtNil l55 (
 T127_0 E D W (J127_1 E D W N ) b3 o4 x10 x13 x16 x19 x22 x25 x28 x31 x34 x37 x40 x41 x43 x47 x50 x53 x56 σ))
def A127:XFn:=⟨117,[.ptr,y4,.i],[(.tmp 6)],(C127_0 (C127_1 C127_2 (C127_3 C127_4 C127_5)))⟩
theorem FE127 (args:List V) (σ:H):runX E D W N A127 args σ=F127 E D W N args σ:=by kernel_rfl
def C131_0:XC:=(.z (.P 2 (.box 38 (.t 0))<|
.c 4 y1<|
.nil)
 (.z (.m 5 1<|
.b 6 .and .none (.t 5) (.i 1)<|
.b 7 .neq .none (.t 6) (.i 0)<|
.m 8 7<|
.gO 8 false (.p 9 [2,8] (.faddr 1 (.t 2))<|
.op (some 10) .i [9,8] (.load none (.t 9))<|
.p 11 [10,8] (.bin .eql .none (.t 10) (.i 0))<|
.nil) 12 8 11<|
.m 13 12<|
.gA 13 true (.p 14 [1,13] y15<|
.p 15 [14,13] (.bin .and .none (.t 14) (.i 2))<|
.p 16 [15,13] (.bin .neq .none (.t 15) (.i 0))<|
.p 17 [16,13] (.mov (.t 16))<|
.grp 17 false (.p 18 [2,17] (.faddr 2 (.t 2))<|
.p 19 [18,17] (.load none (.t 18))<|
.p 20 [19,17] (.len false (.t 19))<|
.p 21 [20,17] (.bin .eql .none (.t 20) (.i 0))<|
.nil) 22 [17,21,13] (.t 17) y12 (.t 21)<|
.nil) 23 13 22<|
.m 24 23<|
.gA 24 true (.p 25 [1,24] y15<|
.p 26 [25,24] (.bin .and .none (.t 25) (.i 4))<|
.p 27 [26,24] (.bin .neq .none (.t 26) (.i 0))<|
.p 28 [27,24] (.mov (.t 27))<|
.grp 28 false (.p 29 [2,28] (.faddr 3 (.t 2))<|
.p 30 [29,28] (.load none (.t 29))<|
.p 31 [30,28] (.len false (.t 30))<|
.p 32 [31,28] (.bin .eql .none (.t 31) (.i 0))<|
.nil) 33 [28,32,24] (.t 28) y12 (.t 32)<|
.nil) 34 24 33<|
.m 35 34<|
.gA 35 true (.p 36 [1,35] y15<|
.p 37 [36,35] (.bin .and .none (.t 36) (.i 8))<|
.p 38 [37,35] (.bin .neq .none (.t 37) (.i 0))<|
.p 39 [38,35] (.mov (.t 38))<|
.grp 39 false (.p 40 [2,39] (.faddr 4 (.t 2))<|
.op (some 41) .i [40,39] (.load none (.t 40))<|
.p 42 [41,39] (.bin .eql .none (.t 41) (.i 0))<|
.p 43 [42,39] (.mov (.t 42))<|
.grp 43 true (.p 44 [2,43] (.faddr 5 (.t 2))<|
.p 45 [44,43] (.load none (.t 44))<|
.p 46 [45,43] (.len false (.t 45))<|
.p 47 [46,43] (.bin .eql .none (.t 46) (.i 0))<|
.nil) 48 [43,47,39] (.t 43) (.t 47) (.con y1)<|
.nil) 49 [39,48,35] (.t 39) y12 (.t 48)<|
.nil) 50 35 49<|
.m 4 50<|
.nil)
 .ret))
def T131_0 (E:List (Nat × Blk)) (D:Den) (W:DrawFn) (a b:Int) (c d:V) (e:Int) (f:V) (g:Int) (σ:H):Ans:=
 nbK [.int .i64 a,.int .i64 b,c,d,.int .i64 e,f] σ fun s1=>
 joinB (fun c2 s3=>
 joinB (fun c5 s6=>
 joinB (fun c8 s9=>
 joinB (fun c11 s12=>
 some ((V.bool c11),s12)) fun k13=>
 condK c8 (
 joinB (fun c14 s15=>
 k13 c14 s15) fun k16=>
 condK (not (eqF (andF .i64 g (Int.ofNat 8)) (Int.ofNat 0))) (
 k16 true s9) (
 ldK E s9 (H.next σ) 4 fun u17=>
 rtInt .i64 u17 fun x18=>
 joinB (fun c19 s20=>
 k16 c19 s20) fun k21=>
 condK (eqF x18 (Int.ofNat 0)) (
 ldK E s9 (H.next σ) 5 fun u22=>
 slenK u22 fun n23=>
 k21 (eqF (Int.ofNat n23) (Int.ofNat 0)) s9) (
 k21 false s9))) (
 k13 false s9)) fun k10=>
 condK c5 (
 joinB (fun c24 s25=>
 k10 c24 s25) fun k26=>
 condK (not (eqF (andF .i64 g (Int.ofNat 4)) (Int.ofNat 0))) (
 k26 true s6) (
 ldK E s6 (H.next σ) 3 fun u27=>
 slenK u27 fun n28=>
 k26 (eqF (Int.ofNat n28) (Int.ofNat 0)) s6)) (
 k10 false s6)) fun k7=>
 condK c2 (
 joinB (fun c29 s30=>
 k7 c29 s30) fun k31=>
 condK (not (eqF (andF .i64 g (Int.ofNat 2)) (Int.ofNat 0))) (
 k31 true s3) (
 ldK E s3 (H.next σ) 2 fun u32=>
 slenK u32 fun n33=>
 k31 (eqF (Int.ofNat n33) (Int.ofNat 0)) s3)) (
 k7 false s3)) fun k4=>
 condK (not (eqF (andF .i64 g (Int.ofNat 1)) (Int.ofNat 0))) (
 k4 true s1) (
 ldK E s1 (H.next σ) 1 fun u34=>
 rtInt .i64 u34 fun x35=>
 k4 (eqF x35 (Int.ofNat 0)) s1)
def F131 (N:Nat) (args:List V) (σ:H):Ans:=
 rtCons args fun x1 l2=>
 rtAgg x1 fun l3=>
 xcI .i64 l3 fun x6 l5=>
 xcI .i64 l5 fun x9 l8=>
 rtCons l8 fun x10 l11=>
 rtCons l11 fun x12 l13=>
 xcI .i64 l13 fun x16 l15=>
 rtCons l15 fun x17 l18=>
 rtNil l18 (
 xcI .i64 l2 fun x21 l20=>
 rtNil l20 (
 T131_0 E D W x6 x9 x10 x12 x16 x17 x21 σ))
def A131:XFn:=⟨51,[y3,.i],[(.tmp 4)],C131_0⟩
theorem FE131 (args:List V) (σ:H):runX E D W N A131 args σ=F131 E D W N args σ:=by kernel_rfl
def C132_0:XC:=(.z (.P 2 (.box 141 (.t 0))<|
.c 4 y1<|
.nil)
 (.z (.f 5 0 2<|
.l 6 .bool 5<|
.P 7 (.un .not (.t 6))<|
.m 8 7<|
.gO 8 false (.p 9 [2,8] (.faddr 1 (.t 2))<|
.op (some 10) .bool [9,8] (.load none (.t 9))<|
.p 11 [10,8] (.un .not (.t 10))<|
.p 12 [11,8] (.mov (.t 11))<|
.grp 12 false (.p 13 [1,12] y15<|
.p 14 [2,12] (.faddr 4 (.t 2))<|
.op (some 15) .i [14,12] (.load none (.t 14))<|
.p 16 [13,15,12] (.bin .geq .none (.t 13) (.t 15))<|
.nil) 17 [12,16,8] (.t 12) y12 (.t 16)<|
.p 18 [17,8] (.mov (.t 17))<|
.grp 18 true (.p 19 [2,18] (.faddr 2 (.t 2))<|
.op (some 20) .bool [19,18] (.load none (.t 19))<|
.p 21 [20,18] (.un .not (.t 20))<|
.p 22 [21,18] (.mov (.t 21))<|
.grp 22 false (.p 23 [1,22] y15<|
.p 24 [2,22] (.faddr 5 (.t 2))<|
.op (some 25) .i [24,22] (.load none (.t 24))<|
.p 26 [23,25,22] (.bin .leq .none (.t 23) (.t 25))<|
.nil) 27 [22,26,18] (.t 22) y12 (.t 26)<|
.nil) 28 [18,27,8] (.t 18) (.t 27) (.con y1)<|
.nil) 29 8 28<|
.m 4 29<|
.nil)
 .ret))
def T132_0 (E:List (Nat × Blk)) (D:Den) (W:DrawFn) (a b c d:Bool) (e f g:Int) (σ:H):Ans:=
 nbK [.bool a,.bool b,.bool c,.bool d,.int .i64 e,.int .i64 f] σ fun s1=>
 ldK E s1 (H.next σ) 0 fun u2=>
 rtBool u2 fun x3=>
 joinB (fun c4 s5=>
 some ((V.bool c4),s5)) fun k6=>
 condK (not x3) (
 k6 true s1) (
 ldK E s1 (H.next σ) 1 fun u7=>
 rtBool u7 fun x8=>
 joinB (fun c9 s10=>
 joinB (fun c12 s13=>
 k6 c12 s13) fun k14=>
 condK c9 (
 ldK E s10 (H.next σ) 2 fun u15=>
 rtBool u15 fun x16=>
 joinB (fun c17 s18=>
 k14 c17 s18) fun k19=>
 condK (not x16) (
 k19 true s10) (
 ldK E s10 (H.next σ) 5 fun u20=>
 rtInt .i64 u20 fun x21=>
 k19 (leF g x21) s10)) (
 k14 false s10)) fun k11=>
 condK (not x8) (
 k11 true s1) (
 ldK E s1 (H.next σ) 4 fun u22=>
 rtInt .i64 u22 fun x23=>
 k11 (leF x23 g) s1))
def F132 (N:Nat) (args:List V) (σ:H):Ans:=
 rtCons args fun x1 l2=>
 rtAgg x1 fun l3=>
 xcB l3 fun x6 l5=>
 xcB l5 fun x9 l8=>
 xcB l8 fun x12 l11=>
 xcB l11 fun x15 l14=>
 xcI .i64 l14 fun x18 l17=>
 xcI .i64 l17 fun x21 l20=>
 rtNil l20 (
 xcI .i64 l2 fun x24 l23=>
 rtNil l23 (
 T132_0 E D W x6 x9 x12 x15 x18 x21 x24 σ))
def A132:XFn:=⟨30,[y2,.i],[(.tmp 4)],C132_0⟩
theorem FE132 (args:List V) (σ:H):runX E D W N A132 args σ=F132 E D W N args σ:=by kernel_rfl
def q137a:List (Nat × XTy):=[(0,.any),(1,.any),(7,.i),(8,.i)]
def Fin137 (E:List (Nat × Blk)):St→Ans:=fun s=>resK E s [(.tmp 4)] fun l=>some (oneV l,s.σ)
def b137a (c0:XC):Nat→St→Ans:=blkK 0 (dX E D W N (.keep [] [] [] c0) (Fin137 E) nX (Fin137 E)) nX
def C137_0 (cc1:XC) (cc2:XC):XC:=(.z (.q 4 0<|
.nil)
 (.seq (.z (.m 6 0<|
.u 7 6<|
.q 8 0<|
.nil)
 (.block 0 (.loop q137a [] [] cc2)))
 (.keep [] [] [] cc1)))
def T137_0 (E:List (Nat × Blk)) (D:Den) (W:DrawFn) (K2:V→V→Int→Int→H→Ans) (a b:V) (σ:H):Ans:=
 slenK a fun n1=>
 K2 a b (Int.ofNat n1) (Int.ofNat 0) σ
def C137_1:XC:=(.z (.c 4 y18<|
.nil)
 .ret)
def T137_1 (E:List (Nat × Blk)) (D:Den) (W:DrawFn) (σ:H):Ans:=
 some ((V.int .i64 (Int.negSucc 0)),σ)
def C137_2:XC:=(.z (.b 9 .lss .none (.t 8) (.t 7)<|
.nil)
 (.seq y19
 (.seq (.block 1 (.z (.m 10 8<|
.m 5 10<|
.nil)
 (.z (.m 11 1<|
.m 12 0<|
.m 13 5<|
.s 14 13 12 13<|
.O 15 y6 (.load (some 13) (.t 14))<|
.O 16 .bool (.callv (.t 11) [(.t 15)])<|
.nil)
 (.cond (.tmp 16) (.z (.m 17 5<|
.m 4 17<|
.nil)
 .ret)
 .skip))))
 (.ops (.b 18 .add .none (.t 8) (.i 1)<|
.m 8 18<|
.nil)))))
def T137_2 (E:List (Nat × Blk)) (D:Den) (W:DrawFn) (K1:H→Ans) (R2:V→V→Int→Int→H→Ans) (a b:V) (c d:Int) (σ:H):Ans:=
 condK (ltF d c) (
 iaddrSK 13 a d fun b1 o2=>
 ldnK E σ b1 o2 13 fun l3=>
 xcI .i64 l3 fun x6 l5=>
 rtCons l5 fun x7 l8=>
 xcB l8 fun x11 l10=>
 xcB l10 fun x14 l13=>
 xcB l13 fun x17 l16=>
 xcB l16 fun x20 l19=>
 xcI .i64 l19 fun x23 l22=>
 xcI .i64 l22 fun x26 l25=>
 rtCons l25 fun x27 l28=>
 rtCons l28 fun x29 l30=>
 xcI .i64 l30 fun x33 l32=>
 xcB l32 fun x36 l35=>
 xcI .i64 l35 fun x39 l38=>
 rtNil l38 (
 callvK D b [.agg [.int .i64 x6,x7,.bool x11,.bool x14,.bool x17,.bool x20,.int .i64 x23,.int .i64 x26,x27,x29,.int .i64 x33,.bool x36,.int .i64 x39]] σ fun u40 s41=>
 rtBool u40 fun x42=>
 condK x42 (
 some ((V.int .i64 d),s41)) (
 R2 a b c (addF .i64 d (Int.ofNat 1)) s41))) (
 K1 σ)
def S137_0 (a b:V) (σ:H):St:=⟨[(0,a),(1,b)],[],[],σ⟩
def S137_1 (σ:H):St:=⟨[],[],[],σ⟩
def S137_2 (a b:V) (c d:Int) (σ:H):St:=⟨[(0,a),(1,b),(7,.int .i64 c),(8,.int .i64 d)],[],[],σ⟩
theorem P137_0 (cc1:XC) (cc2:XC) (a b:V) (σ:H) :
 denC E D W N (C137_0 cc1 cc2) (S137_0 a b σ) (Fin137 E) nX (Fin137 E) =
 T137_0 E D W (fun a b c d σ=>iterK (fun rec s'=>denC E D W N cc2 s' (kX q137a [] [] rec) (b137a E D W N cc1) (Fin137 E)) N (S137_2 a b c d σ)) a b σ:=by kernel_rfl
theorem P137_2 (cc1:XC) (li2:St→Ans) (a b:V) (c d:Int) (σ:H) :
 denC E D W N (C137_2 ) (S137_2 a b c d σ) (kX q137a [] [] li2) (b137a E D W N cc1) (Fin137 E) =
 T137_2 E D W (fun  σ=>denC E D W N cc1 (S137_1 σ) (Fin137 E) nX (Fin137 E)) (fun a b c d σ=>li2 (S137_2 a b c d σ)) a b c d σ:=by kernel_rfl
def J137_1 (E:List (Nat × Blk)) (D:Den) (W:DrawFn) (N:Nat):=T137_1 E D W
theorem JE137_1 (σ:H) :
 denC E D W N C137_1 (S137_1 σ) (Fin137 E) nX (Fin137 E)=J137_1 E D W N  σ:=by kernel_rfl
def L137_2 (n:Nat):V→V→Int→Int→H→Ans:=
 Nat.rec (fun _ _ _ _ _=>none) (fun _ ih=>T137_2 E D W (J137_1 E D W N ) ih) n
theorem LE137_2 (n:Nat):∀(a b:V) (c d:Int) (σ:H),
 iterK (fun rec s'=>denC E D W N C137_2 s' (kX q137a [] [] rec) (b137a E D W N C137_1) (Fin137 E)) n (S137_2 a b c d σ)=L137_2 E D W N n a b c d σ:=by
 induction n with
 | zero=>intro a b c d σ;rfl
 | succ n ihn=>
  intro a b c d σ
  rw[iterK_succ]
  refine(P137_2 E D W N C137_1 (iterK (fun rec s'=>denC E D W N C137_2 s' (kX q137a [] [] rec) (b137a E D W N C137_1) (Fin137 E)) n) a b c d σ).trans ?_
  simp only[ihn,JE137_1]
  kernel_rfl
def J137_0:=T137_0 E D W (L137_2 E D W N N)
theorem JE137_0 (a b:V) (σ:H) :
 denC E D W N (C137_0 C137_1 C137_2) (S137_0 a b σ) (Fin137 E) nX (Fin137 E)=J137_0 E D W N a b σ:=by
 refine(P137_0 E D W N C137_1 C137_2  a b σ).trans ?_
 simp only[LE137_2]
 kernel_rfl
def F137 (args:List V) (σ:H):Ans:=
 rtCons args fun x1 l2=>
 rtCons l2 fun x3 l4=>
 rtNil l4 (
 J137_0 E D W N x1 x3 σ)
def A137:XFn:=⟨19,[.any,.any],[(.tmp 4)],(C137_0 C137_1 C137_2)⟩
theorem FE137 (args:List V) (σ:H):runX E D W N A137 args σ=F137 E D W N args σ:=by
 unfold F137
 simp only[←JE137_0]
 kernel_rfl
def q138a:List (Nat × XTy):=[(0,.any),(1,.any),(7,.i),(8,.i)]
def Fin138 (E:List (Nat × Blk)):St→Ans:=fun s=>resK E s [(.tmp 4)] fun l=>some (oneV l,s.σ)
def b138a (c0:XC):Nat→St→Ans:=blkK 0 (dX E D W N (.keep [] [] [] c0) (Fin138 E) nX (Fin138 E)) nX
def C138_0 (cc1:XC) (cc2:XC):XC:=(.z (.q 4 0<|
.nil)
 (.seq (.z (.m 6 0<|
.u 7 6<|
.q 8 0<|
.nil)
 (.block 0 (.loop q138a [] [] cc2)))
 (.keep [] [] [] cc1)))
def T138_0 (E:List (Nat × Blk)) (D:Den) (W:DrawFn) (K2:V→V→Int→Int→H→Ans) (a b:V) (σ:H):Ans:=
 slenK a fun n1=>
 K2 a b (Int.ofNat n1) (Int.ofNat 0) σ
def C138_1:XC:=(.z (.c 4 y18<|
.nil)
 .ret)
def T138_1 (E:List (Nat × Blk)) (D:Den) (W:DrawFn) (σ:H):Ans:=
 some ((V.int .i64 (Int.negSucc 0)),σ)
def C138_2:XC:=(.z (.b 9 .lss .none (.t 8) (.t 7)<|
.nil)
 (.seq y19
 (.seq (.block 1 (.z (.m 10 8<|
.m 5 10<|
.nil)
 (.z (.m 11 1<|
.m 12 0<|
.m 13 5<|
.s 14 6 12 13<|
.O 15 y3 (.load (some 6) (.t 14))<|
.O 16 .bool (.callv (.t 11) [(.t 15)])<|
.nil)
 (.cond (.tmp 16) (.z (.m 17 5<|
.m 4 17<|
.nil)
 .ret)
 .skip))))
 (.ops (.b 18 .add .none (.t 8) (.i 1)<|
.m 8 18<|
.nil)))))
def T138_2 (E:List (Nat × Blk)) (D:Den) (W:DrawFn) (K1:H→Ans) (R2:V→V→Int→Int→H→Ans) (a b:V) (c d:Int) (σ:H):Ans:=
 condK (ltF d c) (
 iaddrSK 6 a d fun b1 o2=>
 ldnK E σ b1 o2 6 fun l3=>
 xcI .i64 l3 fun x6 l5=>
 xcI .i64 l5 fun x9 l8=>
 rtCons l8 fun x10 l11=>
 rtCons l11 fun x12 l13=>
 xcI .i64 l13 fun x16 l15=>
 rtCons l15 fun x17 l18=>
 rtNil l18 (
 callvK D b [.agg [.int .i64 x6,.int .i64 x9,x10,x12,.int .i64 x16,x17]] σ fun u19 s20=>
 rtBool u19 fun x21=>
 condK x21 (
 some ((V.int .i64 d),s20)) (
 R2 a b c (addF .i64 d (Int.ofNat 1)) s20))) (
 K1 σ)
def S138_0 (a b:V) (σ:H):St:=⟨[(0,a),(1,b)],[],[],σ⟩
def S138_1 (σ:H):St:=⟨[],[],[],σ⟩
def S138_2 (a b:V) (c d:Int) (σ:H):St:=⟨[(0,a),(1,b),(7,.int .i64 c),(8,.int .i64 d)],[],[],σ⟩
theorem P138_0 (cc1:XC) (cc2:XC) (a b:V) (σ:H) :
 denC E D W N (C138_0 cc1 cc2) (S138_0 a b σ) (Fin138 E) nX (Fin138 E) =
 T138_0 E D W (fun a b c d σ=>iterK (fun rec s'=>denC E D W N cc2 s' (kX q138a [] [] rec) (b138a E D W N cc1) (Fin138 E)) N (S138_2 a b c d σ)) a b σ:=by kernel_rfl
theorem P138_2 (cc1:XC) (li2:St→Ans) (a b:V) (c d:Int) (σ:H) :
 denC E D W N (C138_2 ) (S138_2 a b c d σ) (kX q138a [] [] li2) (b138a E D W N cc1) (Fin138 E) =
 T138_2 E D W (fun  σ=>denC E D W N cc1 (S138_1 σ) (Fin138 E) nX (Fin138 E)) (fun a b c d σ=>li2 (S138_2 a b c d σ)) a b c d σ:=by kernel_rfl
def J138_1 (E:List (Nat × Blk)) (D:Den) (W:DrawFn) (N:Nat):=T138_1 E D W
theorem JE138_1 (σ:H) :
 denC E D W N C138_1 (S138_1 σ) (Fin138 E) nX (Fin138 E)=J138_1 E D W N  σ:=by kernel_rfl
def L138_2 (n:Nat):V→V→Int→Int→H→Ans:=
 Nat.rec (fun _ _ _ _ _=>none) (fun _ ih=>T138_2 E D W (J138_1 E D W N ) ih) n
theorem LE138_2 (n:Nat):∀(a b:V) (c d:Int) (σ:H),
 iterK (fun rec s'=>denC E D W N C138_2 s' (kX q138a [] [] rec) (b138a E D W N C138_1) (Fin138 E)) n (S138_2 a b c d σ)=L138_2 E D W N n a b c d σ:=by
 induction n with
 | zero=>intro a b c d σ;rfl
 | succ n ihn=>
  intro a b c d σ
  rw[iterK_succ]
  refine(P138_2 E D W N C138_1 (iterK (fun rec s'=>denC E D W N C138_2 s' (kX q138a [] [] rec) (b138a E D W N C138_1) (Fin138 E)) n) a b c d σ).trans ?_
  simp only[ihn,JE138_1]
  kernel_rfl
def J138_0:=T138_0 E D W (L138_2 E D W N N)
theorem JE138_0 (a b:V) (σ:H) :
 denC E D W N (C138_0 C138_1 C138_2) (S138_0 a b σ) (Fin138 E) nX (Fin138 E)=J138_0 E D W N a b σ:=by
 refine(P138_0 E D W N C138_1 C138_2  a b σ).trans ?_
 simp only[LE138_2]
 kernel_rfl
def F138 (args:List V) (σ:H):Ans:=
 rtCons args fun x1 l2=>
 rtCons l2 fun x3 l4=>
 rtNil l4 (
 J138_0 E D W N x1 x3 σ)
def A138:XFn:=⟨19,[.any,.any],[(.tmp 4)],(C138_0 C138_1 C138_2)⟩
theorem FE138 (args:List V) (σ:H):runX E D W N A138 args σ=F138 E D W N args σ:=by
 unfold F138
 simp only[←JE138_0]
 kernel_rfl
def C139_0:XC:=(.seq (.z (.m 6 0<|
.b 7 .eql .ptr (.t 6) (.con V.nilp)<|
.nil)
 (.cond (.tmp 7) .ret
 .skip))
 (.z (.m 8 2<|
.k 9 .i 182 [(.t 8)]<|
.m 2 9<|
.nil)
 (.z (.m 10 0<|
.n 11 10<|
.f 12 0 11<|
.m 13 1<|
.b 14 .shr .none (.t 13) (.con (V.int .u64 (Int.ofNat 32)))<|
.P 15 (.conv (.toInt .u32) (.t 14))<|
.m 16 2<|
.b 17 .sub .none (.t 16) (.i 32)<|
.k 18 y10 234 [(.t 12),(.t 15),(.t 17)]<|
.nil)
 (.ops (.m 19 0<|
.n 20 19<|
.f 21 0 20<|
.m 22 1<|
.P 23 (.conv (.toInt .u32) (.t 22))<|
.m 24 2<|
.p 25 [24] (.min (.t 24) [(.i 32)])<|
.k 26 y10 234 [(.t 21),(.t 23),(.t 25)]<|
.nil)))))
def T139_0 (E:List (Nat × Blk)) (D:Den) (W:DrawFn) (a:V) (b c:Int) (σ:H):Ans:=
 eqK .ptr a V.nilp fun c1=>
 condK c1 (
 some ((V.tup []),σ)) (
 callK (D 182 [.int .i64 c] σ) fun u2 s3=>
 rtInt .i64 u2 fun x4=>
 rtPtr a fun b5 o6=>
 callK (D 234 [.ptr b5 o6,.int .u32 (wrapF .u32 (shrF .u64 b 32)),.int .i64 (subF .i64 x4 (Int.ofNat 32))] s3) fun u7 s8=>
 rtTup u7 fun l9=>
 rtNil l9 (
 rtPtr a fun b10 o11=>
 callK (D 234 [.ptr b10 o11,.int .u32 (wrapF .u32 b),.int .i64 (minF x4 (Int.ofNat 32))] s8) fun u12 s13=>
 rtTup u12 fun l14=>
 rtNil l14 (
 some ((V.tup []),s13))))
def F139 (N:Nat) (args:List V) (σ:H):Ans:=
 rtCons args fun x1 l2=>
 xcI .u64 l2 fun x5 l4=>
 xcI .i64 l4 fun x8 l7=>
 rtNil l7 (
 T139_0 E D W x1 x5 x8 σ)
def A139:XFn:=⟨27,[.any,(.int .u64),.i],[],C139_0⟩
theorem FE139 (args:List V) (σ:H):runX E D W N A139 args σ=F139 E D W N args σ:=by kernel_rfl
def C140_0:XC:=(.z (.P 1 (.box 141 (.t 0))<|
.c 2 y16<|
.c 3 y1<|
.nil)
 (.z (.O 5 y2 (.load (some 6) (.t 1))<|
.op (some 6) y2 [5] (.build [y1,y1,y1,y1,y0,y0] [(0,6,(.t 5))])<|
.pal 4 [] 266 [y1,y1,y1,y1,y0,y0]<|
.op none y2 [4,6] (.store 6 (.t 4) (.t 6))<|
.nil)
 (.seq (.z (.O 7 y2 (.load (some 6) (.t 4))<|
.k 8 .bool 235 [(.t 7)]<|
.P 9 (.un .not (.t 8))<|
.m 10 9<|
.gO 10 false (.op (some 11) y2 [4,10] (.load (some 6) (.t 4))<|
.op (some 12) .bool [11,10] (.call 236 [(.t 11)])<|
.nil) 13 10 12<|
.nil)
 (.cond (.tmp 13) (.z (.c 2 y16<|
.c 3 y1<|
.nil)
 .ret)
 .skip))
 (.z (.f 14 0 4<|
.f 15 5 14<|
.l 16 .i 15<|
.P 17 (.conv (.toInt .u64) (.t 16))<|
.f 18 0 4<|
.f 19 4 18<|
.l 20 .i 19<|
.P 21 (.conv (.toInt .u64) (.t 20))<|
.b 22 .sub .none (.t 17) (.t 21)<|
.m 2 22<|
.c 3 y31<|
.nil)
 .ret))))
def T140_0 (E:List (Nat × Blk)) (D:Den) (W:DrawFn) (a b c d:Bool) (e f:Int) (σ:H):Ans:=
 nbK [.bool a,.bool b,.bool c,.bool d,.int .i64 e,.int .i64 f] σ fun s1=>
 ldnK E s1 (H.next σ) 0 6 fun l2=>
 xcB l2 fun x5 l4=>
 xcB l4 fun x8 l7=>
 xcB l7 fun x11 l10=>
 xcB l10 fun x14 l13=>
 xcI .i64 l13 fun x17 l16=>
 xcI .i64 l16 fun x20 l19=>
 rtNil l19 (
 callK (D 235 [.agg [.bool x5,.bool x8,.bool x11,.bool x14,.int .i64 x17,.int .i64 x20]] s1) fun u21 s22=>
 rtBool u21 fun x23=>
 joinB (fun c24 s25=>
 condK c24 (
 some ((V.tup [.int .u64 (Int.ofNat 0),.bool false]),s25)) (
 some ((V.tup [.int .u64 (subF .u64 (wrapF .u64 x20) (wrapF .u64 x17)),.bool true]),s25))) fun k26=>
 condK (not x23) (
 k26 true s22) (
 callK (D 236 [.agg [.bool x5,.bool x8,.bool x11,.bool x14,.int .i64 x17,.int .i64 x20]] s22) fun u27 s28=>
 rtBool u27 fun x29=>
 k26 x29 s28))
def F140 (N:Nat) (args:List V) (σ:H):Ans:=
 rtCons args fun x1 l2=>
 rtAgg x1 fun l3=>
 xcB l3 fun x6 l5=>
 xcB l5 fun x9 l8=>
 xcB l8 fun x12 l11=>
 xcB l11 fun x15 l14=>
 xcI .i64 l14 fun x18 l17=>
 xcI .i64 l17 fun x21 l20=>
 rtNil l20 (
 rtNil l2 (
 T140_0 E D W x6 x9 x12 x15 x18 x21 σ))
def A140:XFn:=⟨23,[y2],[(.tmp 2),(.tmp 3)],C140_0⟩
theorem FE140 (args:List V) (σ:H):runX E D W N A140 args σ=F140 E D W N args σ:=by kernel_rfl
def C141_0:XC:=(.ops (.m 6 0<|
.m 7 1<|
.m 8 2<|
.p 9 [7,8] (.min (.t 7) [(.t 8)])<|
.m 10 2<|
.k 11 .i 237 [(.t 10)]<|
.k 12 y10 139 [(.t 6),(.t 9),(.t 11)]<|
.nil))
def T141_0 (E:List (Nat × Blk)) (D:Den) (W:DrawFn) (a:V) (b c:Int) (σ:H):Ans:=
 callK (D 237 [.int .u64 c] σ) fun u1 s2=>
 rtInt .i64 u1 fun x3=>
 callK (D 139 [a,.int .u64 (minF b c),.int .i64 x3] s2) fun u4 s5=>
 rtTup u4 fun l6=>
 rtNil l6 (
 some ((V.tup []),s5))
def F141 (N:Nat) (args:List V) (σ:H):Ans:=
 rtCons args fun x1 l2=>
 xcI .u64 l2 fun x5 l4=>
 xcI .u64 l4 fun x8 l7=>
 rtNil l7 (
 T141_0 E D W x1 x5 x8 σ)
def A141:XFn:=⟨13,[.any,(.int .u64),(.int .u64)],[],C141_0⟩
theorem FE141 (args:List V) (σ:H):runX E D W N A141 args σ=F141 E D W N args σ:=by kernel_rfl
def q142a:List (Nat × XTy):=[(0,(.int .u64)),(3,.i)]
def Fin142 (E:List (Nat × Blk)):St→Ans:=fun s=>resK E s [(.tmp 2)] fun l=>some (oneV l,s.σ)
def b142a (c0:XC):Nat→St→Ans:=blkK 0 (dX E D W N (.keep q142a [] [] c0) (Fin142 E) nX (Fin142 E)) nX
def C142_0 (cc1:XC) (cc2:XC):XC:=(.z (.c 2 V.nils<|
.nil)
 (.z (.q 3 1<|
.nil)
 (.seq (.block 0 (.loop q142a [] [] cc2))
 (.keep q142a [] [] cc1))))
def T142_0 (E:List (Nat × Blk)) (D:Den) (W:DrawFn) (K2:Int→Int→H→Ans) (a:Int) (σ:H):Ans:=
 K2 a (Int.ofNat 1) σ
def C142_1:XC:=(.z (.m 15 0<|
.m 16 3<|
.k 17 .one 238 [(.t 15),(.t 16)]<|
.m 2 17<|
.nil)
 .ret)
def T142_1 (E:List (Nat × Blk)) (D:Den) (W:DrawFn) (a b:Int) (σ:H):Ans:=
 callK (D 238 [.int .u64 a,.int .i64 b] σ) fun u1 s2=>
 rtOne u1 (
 some (u1,s2))
def C142_2:XC:=(.seq (.z (.m 4 3<|
.b 5 .lss .none (.t 4) (.i 8)<|
.m 6 5<|
.gA 6 true (.p 7 [0,6] y13<|
.p 8 [3,6] (.mov (.t 3))<|
.p 9 [8,6] (.bin .mul .none (.i 8) (.t 8))<|
.p 10 [7,9,6] (.bin .shr .none (.t 7) (.t 9))<|
.p 11 [10,6] (.bin .neq .none (.t 10) (.con y16))<|
.nil) 12 6 11<|
.nil)
 (.cond (.tmp 12) .skip
 y22))
 (.block 1 (.ops (.m 13 3<|
.b 14 .add .none (.t 13) (.i 1)<|
.m 3 14<|
.nil))))
def T142_2 (E:List (Nat × Blk)) (D:Den) (W:DrawFn) (K1:Int→Int→H→Ans) (R2:Int→Int→H→Ans) (a b:Int) (σ:H):Ans:=
 joinB (fun c1 s2=>
 condK c1 (
 R2 a (addF .i64 b (Int.ofNat 1)) s2) (
 K1 a b s2)) fun k3=>
 condK (ltF b (Int.ofNat 8)) (
 nnK (mulF .i64 (Int.ofNat 8) b) fun n4=>
 k3 (not (eqF (shrF .u64 a n4) (Int.ofNat 0))) σ) (
 k3 false σ)
def S142_0 (a:Int) (σ:H):St:=⟨[(0,.int .u64 a)],[],[],σ⟩
def S142_1 (a b:Int) (σ:H):St:=⟨[(0,.int .u64 a),(3,.int .i64 b)],[],[],σ⟩
theorem P142_0 (cc1:XC) (cc2:XC) (a:Int) (σ:H) :
 denC E D W N (C142_0 cc1 cc2) (S142_0 a σ) (Fin142 E) nX (Fin142 E) =
 T142_0 E D W (fun a b σ=>iterK (fun rec s'=>denC E D W N cc2 s' (kX q142a [] [] rec) (b142a E D W N cc1) (Fin142 E)) N (S142_1 a b σ)) a σ:=by kernel_rfl
theorem P142_2 (cc1:XC) (li2:St→Ans) (a b:Int) (σ:H) :
 denC E D W N (C142_2 ) (S142_1 a b σ) (kX q142a [] [] li2) (b142a E D W N cc1) (Fin142 E) =
 T142_2 E D W (fun a b σ=>denC E D W N cc1 (S142_1 a b σ) (Fin142 E) nX (Fin142 E)) (fun a b σ=>li2 (S142_1 a b σ)) a b σ:=by kernel_rfl
def J142_1 (E:List (Nat × Blk)) (D:Den) (W:DrawFn) (N:Nat):=T142_1 E D W
theorem JE142_1 (a b:Int) (σ:H) :
 denC E D W N C142_1 (S142_1 a b σ) (Fin142 E) nX (Fin142 E)=J142_1 E D W N a b σ:=by kernel_rfl
def L142_2 (n:Nat):Int→Int→H→Ans:=
 Nat.rec (fun _ _ _=>none) (fun _ ih=>T142_2 E D W (J142_1 E D W N ) ih) n
theorem LE142_2 (n:Nat):∀(a b:Int) (σ:H),
 iterK (fun rec s'=>denC E D W N C142_2 s' (kX q142a [] [] rec) (b142a E D W N C142_1) (Fin142 E)) n (S142_1 a b σ)=L142_2 E D W N n a b σ:=by
 induction n with
 | zero=>intro a b σ;rfl
 | succ n ihn=>
  intro a b σ
  rw[iterK_succ]
  refine(P142_2 E D W N C142_1 (iterK (fun rec s'=>denC E D W N C142_2 s' (kX q142a [] [] rec) (b142a E D W N C142_1) (Fin142 E)) n) a b σ).trans ?_
  simp only[ihn,JE142_1]
  kernel_rfl
def J142_0:=T142_0 E D W (L142_2 E D W N N)
theorem JE142_0 (a:Int) (σ:H) :
 denC E D W N (C142_0 C142_1 C142_2) (S142_0 a σ) (Fin142 E) nX (Fin142 E)=J142_0 E D W N a σ:=by
 refine(P142_0 E D W N C142_1 C142_2  a σ).trans ?_
 simp only[LE142_2]
 kernel_rfl
def F142 (args:List V) (σ:H):Ans:=
 xcI .u64 args fun x3 l2=>
 rtNil l2 (
 J142_0 E D W N x3 σ)
def A142:XFn:=⟨18,[(.int .u64)],[(.tmp 2)],(C142_0 C142_1 C142_2)⟩
theorem FE142 (args:List V) (σ:H):runX E D W N A142 args σ=F142 E D W N args σ:=by
 unfold F142
 simp only[←JE142_0]
 kernel_rfl
def q143a:List (Nat × XTy):=[(0,.i),(3,.i)]
def Fin143 (E:List (Nat × Blk)):St→Ans:=fun s=>resK E s [(.tmp 2)] fun l=>some (oneV l,s.σ)
def b143a (c0:XC):Nat→St→Ans:=blkK 0 (dX E D W N (.keep q143a [] [] c0) (Fin143 E) nX (Fin143 E)) nX
def C143_0 (cc1:XC) (cc2:XC):XC:=(.z (.c 2 V.nils<|
.nil)
 (.z (.q 3 1<|
.nil)
 (.seq (.block 0 (.loop q143a [] [] cc2))
 (.keep q143a [] [] cc1))))
def T143_0 (E:List (Nat × Blk)) (D:Den) (W:DrawFn) (K2:Int→Int→H→Ans) (a:Int) (σ:H):Ans:=
 K2 a (Int.ofNat 1) σ
def C143_1:XC:=(.z (.m 24 0<|
.P 25 (.conv (.toInt .u64) (.t 24))<|
.m 26 3<|
.k 27 .one 238 [(.t 25),(.t 26)]<|
.m 2 27<|
.nil)
 .ret)
def T143_1 (E:List (Nat × Blk)) (D:Den) (W:DrawFn) (a b:Int) (σ:H):Ans:=
 callK (D 238 [.int .u64 (wrapF .u64 a),.int .i64 b] σ) fun u1 s2=>
 rtOne u1 (
 some (u1,s2))
def C143_2:XC:=(.seq (.z (.m 4 3<|
.b 5 .lss .none (.t 4) (.i 8)<|
.m 6 5<|
.gA 6 true (.p 7 [0,6] y13<|
.p 8 [3,6] (.mov (.t 3))<|
.p 9 [8,6] (.bin .mul .none (.i 8) (.t 8))<|
.p 10 [9,6] (.bin .sub .none (.t 9) (.i 1))<|
.p 11 [7,10,6] (.bin .shr .none (.t 7) (.t 10))<|
.p 12 [11,6] (.bin .neq .none (.t 11) (.i 0))<|
.nil) 13 6 12<|
.m 14 13<|
.gA 14 true (.p 15 [0,14] y13<|
.p 16 [3,14] (.mov (.t 3))<|
.p 17 [16,14] (.bin .mul .none (.i 8) (.t 16))<|
.p 18 [17,14] (.bin .sub .none (.t 17) (.i 1))<|
.p 19 [15,18,14] (.bin .shr .none (.t 15) (.t 18))<|
.p 20 [19,14] (.bin .neq .none (.t 19) (.con y18))<|
.nil) 21 14 20<|
.nil)
 (.cond (.tmp 21) .skip
 y22))
 (.block 1 (.ops (.m 22 3<|
.b 23 .add .none (.t 22) (.i 1)<|
.m 3 23<|
.nil))))
def T143_2 (E:List (Nat × Blk)) (D:Den) (W:DrawFn) (K1:Int→Int→H→Ans) (R2:Int→Int→H→Ans) (a b:Int) (σ:H):Ans:=
 joinB (fun c1 s2=>
 joinB (fun c4 s5=>
 condK c4 (
 R2 a (addF .i64 b (Int.ofNat 1)) s5) (
 K1 a b s5)) fun k6=>
 condK c1 (
 nnK (subF .i64 (mulF .i64 (Int.ofNat 8) b) (Int.ofNat 1)) fun n7=>
 k6 (not (eqF (shrF .i64 a n7) (Int.negSucc 0))) s2) (
 k6 false s2)) fun k3=>
 condK (ltF b (Int.ofNat 8)) (
 nnK (subF .i64 (mulF .i64 (Int.ofNat 8) b) (Int.ofNat 1)) fun n8=>
 k3 (not (eqF (shrF .i64 a n8) (Int.ofNat 0))) σ) (
 k3 false σ)
def S143_0 (a:Int) (σ:H):St:=⟨[(0,.int .i64 a)],[],[],σ⟩
def S143_1 (a b:Int) (σ:H):St:=⟨[(0,.int .i64 a),(3,.int .i64 b)],[],[],σ⟩
theorem P143_0 (cc1:XC) (cc2:XC) (a:Int) (σ:H) :
 denC E D W N (C143_0 cc1 cc2) (S143_0 a σ) (Fin143 E) nX (Fin143 E) =
 T143_0 E D W (fun a b σ=>iterK (fun rec s'=>denC E D W N cc2 s' (kX q143a [] [] rec) (b143a E D W N cc1) (Fin143 E)) N (S143_1 a b σ)) a σ:=by kernel_rfl
theorem P143_2 (cc1:XC) (li2:St→Ans) (a b:Int) (σ:H) :
 denC E D W N (C143_2 ) (S143_1 a b σ) (kX q143a [] [] li2) (b143a E D W N cc1) (Fin143 E) =
 T143_2 E D W (fun a b σ=>denC E D W N cc1 (S143_1 a b σ) (Fin143 E) nX (Fin143 E)) (fun a b σ=>li2 (S143_1 a b σ)) a b σ:=by kernel_rfl
def J143_1 (E:List (Nat × Blk)) (D:Den) (W:DrawFn) (N:Nat):=T143_1 E D W
theorem JE143_1 (a b:Int) (σ:H) :
 denC E D W N C143_1 (S143_1 a b σ) (Fin143 E) nX (Fin143 E)=J143_1 E D W N a b σ:=by kernel_rfl
def L143_2 (n:Nat):Int→Int→H→Ans:=
 Nat.rec (fun _ _ _=>none) (fun _ ih=>T143_2 E D W (J143_1 E D W N ) ih) n
theorem LE143_2 (n:Nat):∀(a b:Int) (σ:H),
 iterK (fun rec s'=>denC E D W N C143_2 s' (kX q143a [] [] rec) (b143a E D W N C143_1) (Fin143 E)) n (S143_1 a b σ)=L143_2 E D W N n a b σ:=by
 induction n with
 | zero=>intro a b σ;rfl
 | succ n ihn=>
  intro a b σ
  rw[iterK_succ]
  refine(P143_2 E D W N C143_1 (iterK (fun rec s'=>denC E D W N C143_2 s' (kX q143a [] [] rec) (b143a E D W N C143_1) (Fin143 E)) n) a b σ).trans ?_
  simp only[ihn,JE143_1]
  kernel_rfl
def J143_0:=T143_0 E D W (L143_2 E D W N N)
theorem JE143_0 (a:Int) (σ:H) :
 denC E D W N (C143_0 C143_1 C143_2) (S143_0 a σ) (Fin143 E) nX (Fin143 E)=J143_0 E D W N a σ:=by
 refine(P143_0 E D W N C143_1 C143_2  a σ).trans ?_
 simp only[LE143_2]
 kernel_rfl
def F143 (args:List V) (σ:H):Ans:=
 xcI .i64 args fun x3 l2=>
 rtNil l2 (
 J143_0 E D W N x3 σ)
def A143:XFn:=⟨28,[.i],[(.tmp 2)],(C143_0 C143_1 C143_2)⟩
theorem FE143 (args:List V) (σ:H):runX E D W N A143 args σ=F143 E D W N args σ:=by
 unfold F143
 simp only[←JE143_0]
 kernel_rfl
def q147a:List (Nat × XTy):=[(3,.any),(6,.any),(7,.i),(8,.i)]
def Fin147 (E:List (Nat × Blk)):St→Ans:=fun s=>resK E s [(.tmp 2)] fun l=>some (oneV l,s.σ)
def b147a (c0:XC):Nat→St→Ans:=blkK 0 (dX E D W N (.keep [(3,.any)] [] [] c0) (Fin147 E) nX (Fin147 E)) nX
def C147_0 (cc1:XC) (cc2:XC):XC:=(.z (.c 2 V.nils<|
.nil)
 (.z (.c 3 V.nils<|
.nil)
 (.seq (.z (.m 6 0<|
.u 7 6<|
.q 8 0<|
.nil)
 (.block 0 (.loop q147a [] [] cc2)))
 (.keep [(3,.any)] [] [] cc1))))
def T147_0 (E:List (Nat × Blk)) (D:Den) (W:DrawFn) (K2:V→V→Int→Int→H→Ans) (a:V) (σ:H):Ans:=
 slenK a fun n1=>
 K2 V.nils a (Int.ofNat n1) (Int.ofNat 0) σ
def C147_1:XC:=(.z (.m 16 3<|
.m 2 16<|
.nil)
 .ret)
def T147_1 (E:List (Nat × Blk)) (D:Den) (W:DrawFn) (a:V) (σ:H):Ans:=
 some (a,σ)
def C147_2:XC:=(.z (.b 9 .lss .none (.t 8) (.t 7)<|
.nil)
 (.seq y19
 (.seq (.block 1 (.z (.s 10 1 6 8<|
.l 11 .any 10<|
.m 5 11<|
.nil)
 (.ops (.m 12 3<|
.m 13 5<|
.O 14 .one (.append 5 1 1 (.t 12) (.t 13))<|
.m 3 14<|
.nil))))
 (.ops (.b 15 .add .none (.t 8) (.i 1)<|
.m 8 15<|
.nil)))))
def T147_2 (E:List (Nat × Blk)) (D:Den) (W:DrawFn) (K1:V→H→Ans) (R2:V→V→Int→Int→H→Ans) (a b:V) (c d:Int) (σ:H):Ans:=
 condK (ltF d c) (
 iaddrSK 1 b d fun b1 o2=>
 ldK E σ b1 o2 fun u3=>
 appK E 1 1 a u3 σ fun u4 s5=>
 rtOne u4 (
 R2 u4 b c (addF .i64 d (Int.ofNat 1)) s5)) (
 K1 a σ)
def S147_0 (a:V) (σ:H):St:=⟨[(0,a)],[],[],σ⟩
def S147_1 (a:V) (σ:H):St:=⟨[(3,a)],[],[],σ⟩
def S147_2 (a b:V) (c d:Int) (σ:H):St:=⟨[(3,a),(6,b),(7,.int .i64 c),(8,.int .i64 d)],[],[],σ⟩
theorem P147_0 (cc1:XC) (cc2:XC) (a:V) (σ:H) :
 denC E D W N (C147_0 cc1 cc2) (S147_0 a σ) (Fin147 E) nX (Fin147 E) =
 T147_0 E D W (fun b c d e σ=>iterK (fun rec s'=>denC E D W N cc2 s' (kX q147a [] [] rec) (b147a E D W N cc1) (Fin147 E)) N (S147_2 b c d e σ)) a σ:=by kernel_rfl
theorem P147_2 (cc1:XC) (li2:St→Ans) (a b:V) (c d:Int) (σ:H) :
 denC E D W N (C147_2 ) (S147_2 a b c d σ) (kX q147a [] [] li2) (b147a E D W N cc1) (Fin147 E) =
 T147_2 E D W (fun a σ=>denC E D W N cc1 (S147_1 a σ) (Fin147 E) nX (Fin147 E)) (fun a b c d σ=>li2 (S147_2 a b c d σ)) a b c d σ:=by kernel_rfl
def J147_1 (E:List (Nat × Blk)) (D:Den) (W:DrawFn) (N:Nat):=T147_1 E D W
theorem JE147_1 (a:V) (σ:H) :
 denC E D W N C147_1 (S147_1 a σ) (Fin147 E) nX (Fin147 E)=J147_1 E D W N a σ:=by kernel_rfl
def L147_2 (n:Nat):V→V→Int→Int→H→Ans:=
 Nat.rec (fun _ _ _ _ _=>none) (fun _ ih=>T147_2 E D W (J147_1 E D W N ) ih) n
theorem LE147_2 (n:Nat):∀(a b:V) (c d:Int) (σ:H),
 iterK (fun rec s'=>denC E D W N C147_2 s' (kX q147a [] [] rec) (b147a E D W N C147_1) (Fin147 E)) n (S147_2 a b c d σ)=L147_2 E D W N n a b c d σ:=by
 induction n with
 | zero=>intro a b c d σ;rfl
 | succ n ihn=>
  intro a b c d σ
  rw[iterK_succ]
  refine(P147_2 E D W N C147_1 (iterK (fun rec s'=>denC E D W N C147_2 s' (kX q147a [] [] rec) (b147a E D W N C147_1) (Fin147 E)) n) a b c d σ).trans ?_
  simp only[ihn,JE147_1]
  kernel_rfl
def J147_0:=T147_0 E D W (L147_2 E D W N N)
theorem JE147_0 (a:V) (σ:H) :
 denC E D W N (C147_0 C147_1 C147_2) (S147_0 a σ) (Fin147 E) nX (Fin147 E)=J147_0 E D W N a σ:=by
 refine(P147_0 E D W N C147_1 C147_2  a σ).trans ?_
 simp only[LE147_2]
 kernel_rfl
def F147 (args:List V) (σ:H):Ans:=
 rtCons args fun x1 l2=>
 rtNil l2 (
 J147_0 E D W N x1 σ)
def A147:XFn:=⟨17,[.any],[(.tmp 2)],(C147_0 C147_1 C147_2)⟩
theorem FE147 (args:List V) (σ:H):runX E D W N A147 args σ=F147 E D W N args σ:=by
 unfold F147
 simp only[←JE147_0]
 kernel_rfl
def q148a:List (Nat × XTy):=[(0,.i),(3,.any),(4,.bool)]
def Fin148 (E:List (Nat × Blk)):St→Ans:=fun s=>resK E s [(.tmp 2)] fun l=>some (oneV l,s.σ)
def b148a (c0:XC):Nat→St→Ans:=blkK 0 (dX E D W N (.keep [(3,.any)] [] [] c0) (Fin148 E) nX (Fin148 E)) nX
def C148_0 (cc1:XC) (cc2:XC):XC:=(.z (.c 2 V.nils<|
.nil)
 (.z (.m 6 0<|
.p 7 [6] (.max (.t 6) [(.i 0)])<|
.m 0 7<|
.nil)
 (.z (.c 3 V.nils<|
.nil)
 (.seq (.z (.c 4 y31<|
.nil)
 (.block 0 (.loop q148a [] [] cc2)))
 (.keep [(3,.any)] [] [] cc1)))))
def T148_0 (E:List (Nat × Blk)) (D:Den) (W:DrawFn) (K2:Int→V→Bool→H→Ans) (a:Int) (σ:H):Ans:=
 K2 (maxF a (Int.ofNat 0)) V.nils true σ
def C148_1:XC:=(.z (.m 21 3<|
.m 2 21<|
.nil)
 .ret)
def T148_1 (E:List (Nat × Blk)) (D:Den) (W:DrawFn) (a:V) (σ:H):Ans:=
 some (a,σ)
def C148_2:XC:=(.seq (.z (.m 8 4<|
.nil)
 (.cond (.tmp 8) .skip
 y22))
 (.block 1 (.z (.q 5 0<|
.nil)
 (.z (.m 10 0<|
.k 11 (.tup [.i,.bool]) 244 [(.t 10)]<|
.m 9 11<|
.P 12 (.extract 0 (.t 9))<|
.P 13 (.extract 1 (.t 9))<|
.m 5 12<|
.m 4 13<|
.nil)
 (.ops (.m 14 3<|
.m 15 5<|
.p 16 [15] (.buildSlice 3 1 [y0] [(0,1,(.t 15))])<|
.O 17 .one (.append 3 1 8 (.t 14) (.t 16))<|
.m 18 0<|
.m 19 5<|
.b 20 .sub .none (.t 18) (.t 19)<|
.m 3 17<|
.m 0 20<|
.nil))))))
def T148_2 (E:List (Nat × Blk)) (D:Den) (W:DrawFn) (K1:V→H→Ans) (R2:Int→V→Bool→H→Ans) (a:Int) (b:V) (c:Bool) (σ:H):Ans:=
 condK c (
 callK (D 244 [.int .i64 a] σ) fun u1 s2=>
 rtTup u1 fun l3=>
 xcI .i64 l3 fun x6 l5=>
 xcB l5 fun x9 l8=>
 rtNil l8 (
 let s10:=newB s2 (.cells [.int .i64 x6]);
 appK E 1 8 b (V.sl (H.next s2) 0 1 (.ex 1)) s10 fun u11 s12=>
 rtOne u11 (
 R2 (subF .i64 a x6) u11 x9 s12))) (
 K1 b σ)
def S148_0 (a:Int) (σ:H):St:=⟨[(0,.int .i64 a)],[],[],σ⟩
def S148_1 (a:V) (σ:H):St:=⟨[(3,a)],[],[],σ⟩
def S148_2 (a:Int) (b:V) (c:Bool) (σ:H):St:=⟨[(0,.int .i64 a),(3,b),(4,.bool c)],[],[],σ⟩
theorem P148_0 (cc1:XC) (cc2:XC) (a:Int) (σ:H) :
 denC E D W N (C148_0 cc1 cc2) (S148_0 a σ) (Fin148 E) nX (Fin148 E) =
 T148_0 E D W (fun a b c σ=>iterK (fun rec s'=>denC E D W N cc2 s' (kX q148a [] [] rec) (b148a E D W N cc1) (Fin148 E)) N (S148_2 a b c σ)) a σ:=by kernel_rfl
theorem P148_2 (cc1:XC) (li2:St→Ans) (a:Int) (b:V) (c:Bool) (σ:H) :
 denC E D W N (C148_2 ) (S148_2 a b c σ) (kX q148a [] [] li2) (b148a E D W N cc1) (Fin148 E) =
 T148_2 E D W (fun b σ=>denC E D W N cc1 (S148_1 b σ) (Fin148 E) nX (Fin148 E)) (fun a b c σ=>li2 (S148_2 a b c σ)) a b c σ:=by kernel_rfl
def J148_1 (E:List (Nat × Blk)) (D:Den) (W:DrawFn) (N:Nat):=T148_1 E D W
theorem JE148_1 (a:V) (σ:H) :
 denC E D W N C148_1 (S148_1 a σ) (Fin148 E) nX (Fin148 E)=J148_1 E D W N a σ:=by kernel_rfl
def L148_2 (n:Nat):Int→V→Bool→H→Ans:=
 Nat.rec (fun _ _ _ _=>none) (fun _ ih=>T148_2 E D W (J148_1 E D W N ) ih) n
theorem LE148_2 (n:Nat):∀(a:Int) (b:V) (c:Bool) (σ:H),
 iterK (fun rec s'=>denC E D W N C148_2 s' (kX q148a [] [] rec) (b148a E D W N C148_1) (Fin148 E)) n (S148_2 a b c σ)=L148_2 E D W N n a b c σ:=by
 induction n with
 | zero=>intro a b c σ;rfl
 | succ n ihn=>
  intro a b c σ
  rw[iterK_succ]
  refine(P148_2 E D W N C148_1 (iterK (fun rec s'=>denC E D W N C148_2 s' (kX q148a [] [] rec) (b148a E D W N C148_1) (Fin148 E)) n) a b c σ).trans ?_
  simp only[ihn,JE148_1]
  kernel_rfl
def J148_0:=T148_0 E D W (L148_2 E D W N N)
theorem JE148_0 (a:Int) (σ:H) :
 denC E D W N (C148_0 C148_1 C148_2) (S148_0 a σ) (Fin148 E) nX (Fin148 E)=J148_0 E D W N a σ:=by
 refine(P148_0 E D W N C148_1 C148_2  a σ).trans ?_
 simp only[LE148_2]
 kernel_rfl
def F148 (args:List V) (σ:H):Ans:=
 xcI .i64 args fun x3 l2=>
 rtNil l2 (
 J148_0 E D W N x3 σ)
def A148:XFn:=⟨22,[.i],[(.tmp 2)],(C148_0 C148_1 C148_2)⟩
theorem FE148 (args:List V) (σ:H):runX E D W N A148 args σ=F148 E D W N args σ:=by
 unfold F148
 simp only[←JE148_0]
 kernel_rfl
def C149_0:XC:=(.block 0 (.z (.m 13 2<|
.m 12 13<|
.nil)
 (.cond (.tmp 12) (.z (.m 14 0<|
.k 15 y10 139 [(.t 14),(.con (V.int .u64 (Int.ofNat 3))),(.i 2)]<|
.nil)
 (.ops (.m 16 0<|
.m 17 1<|
.b 18 .quo .none (.t 17) (.i 16384)<|
.P 19 (.conv (.toInt .u64) (.t 18))<|
.k 20 y10 139 [(.t 16),(.t 19),(.i 6)]<|
.nil)))
 (.z (.m 22 1<|
.b 23 .lss .none (.t 22) (.i 128)<|
.m 21 23<|
.nil)
 (.cond (.tmp 21) (.ops (.m 24 0<|
.m 25 1<|
.P 26 (.conv (.toInt .u64) (.t 25))<|
.k 27 y10 139 [(.t 24),(.t 26),(.i 8)]<|
.nil))
 (.z (.m 6 0<|
.k 7 y10 139 [(.t 6),(.con (V.int .u64 (Int.ofNat 2))),(.i 2)]<|
.nil)
 (.ops (.m 8 0<|
.m 9 1<|
.P 10 (.conv (.toInt .u64) (.t 9))<|
.k 11 y10 139 [(.t 8),(.t 10),(.i 14)]<|
.nil))))))))
def T149_0 (E:List (Nat × Blk)) (D:Den) (W:DrawFn) (a:V) (b:Int) (c:Bool) (σ:H):Ans:=
 condK c (
 callK (D 139 [a,.int .u64 (Int.ofNat 3),.int .i64 (Int.ofNat 2)] σ) fun u1 s2=>
 rtTup u1 fun l3=>
 rtNil l3 (
 callK (D 139 [a,.int .u64 (wrapF .u64 (quoF .i64 b (Int.ofNat 16384))),.int .i64 (Int.ofNat 6)] s2) fun u4 s5=>
 rtTup u4 fun l6=>
 rtNil l6 (
 some ((V.tup []),s5)))) (
 condK (ltF b (Int.ofNat 128)) (
 callK (D 139 [a,.int .u64 (wrapF .u64 b),.int .i64 (Int.ofNat 8)] σ) fun u7 s8=>
 rtTup u7 fun l9=>
 rtNil l9 (
 some ((V.tup []),s8))) (
 callK (D 139 [a,.int .u64 (Int.ofNat 2),.int .i64 (Int.ofNat 2)] σ) fun u10 s11=>
 rtTup u10 fun l12=>
 rtNil l12 (
 callK (D 139 [a,.int .u64 (wrapF .u64 b),.int .i64 (Int.ofNat 14)] s11) fun u13 s14=>
 rtTup u13 fun l15=>
 rtNil l15 (
 some ((V.tup []),s14)))))
def F149 (N:Nat) (args:List V) (σ:H):Ans:=
 rtCons args fun x1 l2=>
 xcI .i64 l2 fun x5 l4=>
 xcB l4 fun x8 l7=>
 rtNil l7 (
 T149_0 E D W x1 x5 x8 σ)
def A149:XFn:=⟨28,[.any,.i,.bool],[],C149_0⟩
theorem FE149 (args:List V) (σ:H):runX E D W N A149 args σ=F149 E D W N args σ:=by kernel_rfl
def q151a:List (Nat × XTy):=[(0,.any),(8,.any),(9,.i),(10,.i),(14,.any),(15,.i),(16,.i)]
def q151b:List (Nat × XTy):=[(0,.any),(8,.any),(9,.i),(10,.i)]
def Fin151 (E:List (Nat × Blk)):St→Ans:=fun s=>resK E s [] fun l=>some (oneV l,s.σ)
def b151a (c0:XC) (l0:St→Ans):Nat→St→Ans:=blkK 2 (dX E D W N (.keep q151b [] [] c0) (kX q151b [] [] l0) (blkK 0 (Fin151 E) nX) (Fin151 E)) (blkK 1 (dX E D W N (.keep q151b [] [] c0) (kX q151b [] [] l0) (blkK 0 (Fin151 E) nX) (Fin151 E)) (blkK 0 (Fin151 E) nX))
def C151_0 (cc1:XC):XC:=(.z (.m 8 1<|
.u 9 8<|
.q 10 0<|
.nil)
 (.block 0 (.loop q151b [] [] cc1)))
def T151_0 (E:List (Nat × Blk)) (D:Den) (W:DrawFn) (K1:V→V→Int→Int→H→Ans) (a b:V) (σ:H):Ans:=
 slenK b fun n1=>
 K1 a b (Int.ofNat n1) (Int.ofNat 0) σ
def C151_1 (cc2:XC) (cc3:XC):XC:=(.z (.b 11 .lss .none (.t 10) (.t 9)<|
.nil)
 (.seq y33
 (.seq (.block 1 (.z (.s 12 1 8 10<|
.l 13 .any 12<|
.m 5 13<|
.nil)
 (.z (.m 14 5<|
.u 15 14<|
.q 16 0<|
.nil)
 (.block 2 (.loop q151a [] [] cc3)))))
 (.keep q151b [] [] cc2))))
def T151_1 (E:List (Nat × Blk)) (D:Den) (W:DrawFn) (K3:V→V→Int→Int→V→Int→Int→H→Ans) (a b:V) (c d:Int) (σ:H):Ans:=
 condK (ltF d c) (
 iaddrSK 1 b d fun b1 o2=>
 ldK E σ b1 o2 fun u3=>
 slenK u3 fun n4=>
 K3 a b c d u3 (Int.ofNat n4) (Int.ofNat 0) σ) (
 some ((V.tup []),σ))
def C151_2:XC:=(.ops (.b 25 .add .none (.t 10) (.i 1)<|
.m 10 25<|
.nil))
def T151_2 (E:List (Nat × Blk)) (D:Den) (W:DrawFn) (R1:V→V→Int→Int→H→Ans) (a b:V) (c d:Int) (σ:H):Ans:=
 R1 a b c (addF .i64 d (Int.ofNat 1)) σ
def C151_3:XC:=(.z (.b 17 .lss .none (.t 16) (.t 15)<|
.nil)
 (.seq (.cond (.tmp 17) .skip
 (.exit 2))
 (.seq (.block 3 (.z (.s 18 1 14 16<|
.l 19 (.int .u8) 18<|
.m 7 19<|
.nil)
 (.ops (.m 20 0<|
.m 21 7<|
.P 22 (.conv (.toInt .u32) (.t 21))<|
.k 23 y10 234 [(.t 20),(.t 22),(.i 8)]<|
.nil))))
 (.ops (.b 24 .add .none (.t 16) (.i 1)<|
.m 16 24<|
.nil)))))
def T151_3 (E:List (Nat × Blk)) (D:Den) (W:DrawFn) (K2:V→V→Int→Int→H→Ans) (R3:V→V→Int→Int→V→Int→Int→H→Ans) (a b:V) (c d:Int) (e:V) (f g:Int) (σ:H):Ans:=
 condK (ltF g f) (
 iaddrSK 1 e g fun b1 o2=>
 ldK E σ b1 o2 fun u3=>
 rtInt .u8 u3 fun x4=>
 callK (D 234 [a,.int .u32 (wrapF .u32 x4),.int .i64 (Int.ofNat 8)] σ) fun u5 s6=>
 rtTup u5 fun l7=>
 rtNil l7 (
 R3 a b c d e f (addF .i64 g (Int.ofNat 1)) s6)) (
 K2 a b c d σ)
def S151_0 (a b:V) (σ:H):St:=⟨[(0,a),(1,b)],[],[],σ⟩
def S151_1 (a b:V) (c d:Int) (σ:H):St:=⟨[(0,a),(8,b),(9,.int .i64 c),(10,.int .i64 d)],[],[],σ⟩
def S151_3 (a b:V) (c d:Int) (e:V) (f g:Int) (σ:H):St:=⟨[(0,a),(8,b),(9,.int .i64 c),(10,.int .i64 d),(14,e),(15,.int .i64 f),(16,.int .i64 g)],[],[],σ⟩
theorem P151_0 (cc1:XC) (a b:V) (σ:H) :
 denC E D W N (C151_0 cc1) (S151_0 a b σ) (Fin151 E) nX (Fin151 E) =
 T151_0 E D W (fun a c d e σ=>iterK (fun rec s'=>denC E D W N cc1 s' (kX q151b [] [] rec) (blkK 0 (Fin151 E) nX) (Fin151 E)) N (S151_1 a c d e σ)) a b σ:=by kernel_rfl
theorem P151_1 (cc2:XC) (cc3:XC) (li1:St→Ans) (a b:V) (c d:Int) (σ:H) :
 denC E D W N (C151_1 cc2 cc3) (S151_1 a b c d σ) (kX q151b [] [] li1) (blkK 0 (Fin151 E) nX) (Fin151 E) =
 T151_1 E D W (fun a b c d e f g σ=>iterK (fun rec s'=>denC E D W N cc3 s' (kX q151a [] [] rec) (b151a E D W N cc2 li1) (Fin151 E)) N (S151_3 a b c d e f g σ)) a b c d σ:=by kernel_rfl
theorem P151_3 (cc2:XC) (li1:St→Ans) (li3:St→Ans) (a b:V) (c d:Int) (e:V) (f g:Int) (σ:H) :
 denC E D W N (C151_3 ) (S151_3 a b c d e f g σ) (kX q151a [] [] li3) (b151a E D W N cc2 li1) (Fin151 E) =
 T151_3 E D W (fun a b c d σ=>denC E D W N cc2 (S151_1 a b c d σ) (kX q151b [] [] li1) (blkK 0 (Fin151 E) nX) (Fin151 E)) (fun a b c d e f g σ=>li3 (S151_3 a b c d e f g σ)) a b c d e f g σ:=by kernel_rfl
def J151_2 (E:List (Nat × Blk)) (D:Den) (W:DrawFn) (N:Nat) (R1:V→V→Int→Int→H→Ans):=T151_2 E D W R1
theorem JE151_2 (li1:St→Ans) (a b:V) (c d:Int) (σ:H) :
 denC E D W N C151_2 (S151_1 a b c d σ) (kX q151b [] [] li1) (blkK 0 (Fin151 E) nX) (Fin151 E)=J151_2 E D W N (fun a b c d σ=>li1 (S151_1 a b c d σ)) a b c d σ:=by kernel_rfl
def L151_3 (R1:V→V→Int→Int→H→Ans) (n:Nat):V→V→Int→Int→V→Int→Int→H→Ans:=
 Nat.rec (fun _ _ _ _ _ _ _ _=>none) (fun _ ih=>T151_3 E D W (J151_2 E D W N R1) ih) n
theorem LE151_3 (li1:St→Ans) (n:Nat):∀(a b:V) (c d:Int) (e:V) (f g:Int) (σ:H),
 iterK (fun rec s'=>denC E D W N C151_3 s' (kX q151a [] [] rec) (b151a E D W N C151_2 li1) (Fin151 E)) n (S151_3 a b c d e f g σ)=L151_3 E D W N (fun a b c d σ=>li1 (S151_1 a b c d σ)) n a b c d e f g σ:=by
 induction n with
 | zero=>intro a b c d e f g σ;rfl
 | succ n ihn=>
  intro a b c d e f g σ
  rw[iterK_succ]
  refine(P151_3 E D W N C151_2 li1 (iterK (fun rec s'=>denC E D W N C151_3 s' (kX q151a [] [] rec) (b151a E D W N C151_2 li1) (Fin151 E)) n) a b c d e f g σ).trans ?_
  simp only[ihn,JE151_2]
  kernel_rfl
def L151_1 (n:Nat):V→V→Int→Int→H→Ans:=
 Nat.rec (fun _ _ _ _ _=>none) (fun _ ih=>T151_1 E D W (L151_3 E D W N ih N)) n
theorem LE151_1 (n:Nat):∀(a b:V) (c d:Int) (σ:H),
 iterK (fun rec s'=>denC E D W N (C151_1 C151_2 C151_3) s' (kX q151b [] [] rec) (blkK 0 (Fin151 E) nX) (Fin151 E)) n (S151_1 a b c d σ)=L151_1 E D W N n a b c d σ:=by
 induction n with
 | zero=>intro a b c d σ;rfl
 | succ n ihn=>
  intro a b c d σ
  rw[iterK_succ]
  refine(P151_1 E D W N C151_2 C151_3 (iterK (fun rec s'=>denC E D W N (C151_1 C151_2 C151_3) s' (kX q151b [] [] rec) (blkK 0 (Fin151 E) nX) (Fin151 E)) n) a b c d σ).trans ?_
  simp only[ihn,LE151_3]
  kernel_rfl
def J151_0:=T151_0 E D W (L151_1 E D W N N)
theorem JE151_0 (a b:V) (σ:H) :
 denC E D W N (C151_0 (C151_1 C151_2 C151_3)) (S151_0 a b σ) (Fin151 E) nX (Fin151 E)=J151_0 E D W N a b σ:=by
 refine(P151_0 E D W N (C151_1 C151_2 C151_3)  a b σ).trans ?_
 simp only[LE151_1]
 kernel_rfl
def F151 (args:List V) (σ:H):Ans:=
 rtCons args fun x1 l2=>
 rtCons l2 fun x3 l4=>
 rtNil l4 (
 J151_0 E D W N x1 x3 σ)
def A151:XFn:=⟨26,[.any,.any],[],(C151_0 (C151_1 C151_2 C151_3))⟩
theorem FE151 (args:List V) (σ:H):runX E D W N A151 args σ=F151 E D W N args σ:=by
 unfold F151
 simp only[←JE151_0]
 kernel_rfl
def C162_0:XC:=(.z (.q 2 0<|
.nil)
 (.seq (.z (.m 3 0<|
.b 4 .eql .ptr (.t 3) (.con V.nilp)<|
.nil)
 (.cond (.tmp 4) (.z (.q 2 0<|
.nil)
 .ret)
 .skip))
 (.z (.m 5 0<|
.n 6 5<|
.f 7 1 6<|
.l 8 .i 7<|
.m 2 8<|
.nil)
 .ret)))
def T162_0 (E:List (Nat × Blk)) (D:Den) (W:DrawFn) (a:V) (σ:H):Ans:=
 eqK .ptr a V.nilp fun c1=>
 condK c1 (
 some ((V.int .i64 (Int.ofNat 0)),σ)) (
 rtPtr a fun b2 o3=>
 ldK E σ b2 (Nat.add o3 1) fun u4=>
 rtInt .i64 u4 fun x5=>
 some ((V.int .i64 x5),σ))
def F162 (N:Nat) (args:List V) (σ:H):Ans:=
 rtCons args fun x1 l2=>
 rtNil l2 (
 T162_0 E D W x1 σ)
def A162:XFn:=⟨9,[.any],[(.tmp 2)],C162_0⟩
theorem FE162 (args:List V) (σ:H):runX E D W N A162 args σ=F162 E D W N args σ:=by kernel_rfl
def C182_0:XC:=(.z (.q 2 0<|
.nil)
 (.z (.m 3 0<|
.p 4 [3] (.min (.t 3) [(.i 64)])<|
.p 5 [4] (.max (.i 0) [(.t 4)])<|
.m 2 5<|
.nil)
 .ret))
def T182_0 (E:List (Nat × Blk)) (D:Den) (W:DrawFn) (a:Int) (σ:H):Ans:=
 some ((V.int .i64 (maxF (Int.ofNat 0) (minF a (Int.ofNat 64)))),σ)
def F182 (N:Nat) (args:List V) (σ:H):Ans:=
 xcI .i64 args fun x3 l2=>
 rtNil l2 (
 T182_0 E D W x3 σ)
def A182:XFn:=⟨6,[.i],[(.tmp 2)],C182_0⟩
theorem FE182 (args:List V) (σ:H):runX E D W N A182 args σ=F182 E D W N args σ:=by kernel_rfl
def C205_0:XC:=(.z (.c 4 y24<|
.nil)
 (.seq (.z (.m 5 1<|
.b 6 .lss .none (.t 5) (.i 0)<|
.m 7 6<|
.gO 7 false (.p 8 [1,7] y15<|
.p 9 [0,7] y13<|
.p 10 [9,7] (.len true (.t 9))<|
.p 11 [8,10,7] (.bin .geq .none (.t 8) (.t 10))<|
.nil) 12 7 11<|
.nil)
 (.cond (.tmp 12) (.z (.c 4 y24<|
.nil)
 .ret)
 .skip))
 (.z (.m 13 0<|
.m 14 1<|
.P 15 (.idxStr (.t 13) (.t 14))<|
.m 4 15<|
.nil)
 .ret)))
def T205_0 (E:List (Nat × Blk)) (D:Den) (W:DrawFn) (a:BS) (b:Int) (σ:H):Ans:=
 joinB (fun c1 s2=>
 condK c1 (
 some ((V.int .u8 (Int.ofNat 0)),s2)) (
 idxStrX a b fun x4=>
 some ((V.int .u8 x4),s2))) fun k3=>
 condK (ltF b (Int.ofNat 0)) (
 k3 true σ) (
 k3 (leF (Int.ofNat (BS.len a)) b) σ)
def F205 (N:Nat) (args:List V) (σ:H):Ans:=
 xcS args fun x3 l2=>
 xcI .i64 l2 fun x6 l5=>
 rtNil l5 (
 T205_0 E D W x3 x6 σ)
def A205:XFn:=⟨16,[.str,.i],[(.tmp 4)],C205_0⟩
theorem FE205 (args:List V) (σ:H):runX E D W N A205 args σ=F205 E D W N args σ:=by kernel_rfl
def C206_0:XC:=(.z (.c 2 y1<|
.nil)
 (.z (.m 3 0<|
.b 4 .geq .none (.t 3) (.con (V.int .u8 (Int.ofNat 97)))<|
.m 5 4<|
.gA 5 true (.p 6 [0,5] y13<|
.p 7 [6,5] (.bin .leq .none (.t 6) (.con (V.int .u8 (Int.ofNat 122))))<|
.nil) 8 5 7<|
.m 9 8<|
.gO 9 false (.p 10 [0,9] y13<|
.p 11 [10,9] (.bin .geq .none (.t 10) (.con (V.int .u8 (Int.ofNat 65))))<|
.p 12 [11,9] (.mov (.t 11))<|
.grp 12 true (.p 13 [0,12] y13<|
.p 14 [13,12] (.bin .leq .none (.t 13) (.con (V.int .u8 (Int.ofNat 90))))<|
.nil) 15 [12,14,9] (.t 12) (.t 14) (.con y1)<|
.nil) 16 9 15<|
.m 2 16<|
.nil)
 .ret))
def T206_0 (E:List (Nat × Blk)) (D:Den) (W:DrawFn) (a:Int) (σ:H):Ans:=
 joinB (fun c1 s2=>
 joinB (fun c4 s5=>
 some ((V.bool c4),s5)) fun k6=>
 condK c1 (
 k6 true s2) (
 joinB (fun c7 s8=>
 k6 c7 s8) fun k9=>
 condK (leF (Int.ofNat 65) a) (
 k9 (leF a (Int.ofNat 90)) s2) (
 k9 false s2))) fun k3=>
 condK (leF (Int.ofNat 97) a) (
 k3 (leF a (Int.ofNat 122)) σ) (
 k3 false σ)
def F206 (N:Nat) (args:List V) (σ:H):Ans:=
 xcI .u8 args fun x3 l2=>
 rtNil l2 (
 T206_0 E D W x3 σ)
def A206:XFn:=⟨17,[(.int .u8)],[(.tmp 2)],C206_0⟩
theorem FE206 (args:List V) (σ:H):runX E D W N A206 args σ=F206 E D W N args σ:=by kernel_rfl
end
noncomputable section
variable (E:List (Nat × Blk)) (D:Den) (W:DrawFn) (N:Nat)
def q207a:List (Nat × XTy):=[(0,.str),(1,.i),(5,.i)]
def Fin207 (E:List (Nat × Blk)):St→Ans:=fun s=>resK E s [(.tmp 4)] fun l=>some (oneV l,s.σ)
def b207a (c0:XC):Nat→St→Ans:=blkK 0 (dX E D W N (.keep q207a [] [] c0) (Fin207 E) nX (Fin207 E)) nX
def C207_0 (cc1:XC) (cc2:XC):XC:=(.z (.q 4 0<|
.nil)
 (.z (.m 6 1<|
.m 5 6<|
.nil)
 (.seq (.block 0 (.loop q207a [] [] cc2))
 (.keep q207a [] [] cc1))))
def T207_0 (E:List (Nat × Blk)) (D:Den) (W:DrawFn) (K2:BS→Int→Int→H→Ans) (a:BS) (b:Int) (σ:H):Ans:=
 K2 a b b σ
def C207_1:XC:=(.seq (.z (.m 38 0<|
.m 39 1<|
.b 40 .sub .none (.t 39) (.i 1)<|
.P 41 (.idxStr (.t 38) (.t 40))<|
.b 42 .eql .none (.t 41) y14<|
.m 43 42<|
.gO 43 false (.p 44 [1,43] y15<|
.p 45 [5,43] (.mov (.t 5))<|
.p 46 [44,45,43] (.bin .sub .none (.t 44) (.t 45))<|
.p 47 [46,43] (.bin .gtr .none (.t 46) (.i 60))<|
.nil) 48 43 47<|
.nil)
 (.cond (.tmp 48) (.z (.c 4 y18<|
.nil)
 .ret)
 .skip))
 (.z (.m 49 1<|
.m 4 49<|
.nil)
 .ret))
def T207_1 (E:List (Nat × Blk)) (D:Den) (W:DrawFn) (a:BS) (b c:Int) (σ:H):Ans:=
 idxStrX a (subF .i64 b (Int.ofNat 1)) fun x1=>
 joinB (fun c2 s3=>
 condK c2 (
 some ((V.int .i64 (Int.negSucc 0)),s3)) (
 some ((V.int .i64 b),s3))) fun k4=>
 condK (eqF x1 (Int.ofNat 45)) (
 k4 true σ) (
 k4 (ltF (Int.ofNat 60) (subF .i64 b c)) σ)
def C207_2:XC:=(.seq (.z (.m 7 1<|
.m 8 0<|
.P 9 (.len true (.t 8))<|
.b 10 .lss .none (.t 7) (.t 9)<|
.m 11 10<|
.gA 11 true (.p 12 [0,11] y13<|
.p 13 [1,11] y15<|
.p 14 [12,13,11] (.idxStr (.t 12) (.t 13))<|
.op (some 15) .bool [14,11] (.call 206 [(.t 14)])<|
.p 16 [15,11] (.mov (.t 15))<|
.grp 16 false (.p 17 [0,16] y13<|
.p 18 [1,16] y15<|
.p 19 [17,18,16] (.idxStr (.t 17) (.t 18))<|
.op (some 20) .bool [19,16] (.call 209 [(.t 19)])<|
.nil) 21 [16,20,11] (.t 16) y12 (.t 20)<|
.p 22 [21,11] (.mov (.t 21))<|
.grp 22 false (.p 23 [0,22] y13<|
.p 24 [1,22] y15<|
.p 25 [23,24,22] (.idxStr (.t 23) (.t 24))<|
.p 26 [25,22] (.bin .eql .none (.t 25) y14)<|
.p 27 [26,22] (.mov (.t 26))<|
.grp 27 true (.p 28 [0,27] y13<|
.p 29 [1,27] y15<|
.p 30 [29,27] (.bin .add .none (.t 29) (.i 1))<|
.op (some 31) (.int .u8) [28,30,27] (.call 205 [(.t 28),(.t 30)])<|
.p 32 [31,27] (.bin .neq .none (.t 31) y14)<|
.nil) 33 [27,32,22] (.t 27) (.t 32) (.con y1)<|
.nil) 34 [22,33,11] (.t 22) y12 (.t 33)<|
.nil) 35 11 34<|
.nil)
 (.cond (.tmp 35) .skip
 y22))
 (.block 1 (.ops (.m 36 1<|
.b 37 .add .none (.t 36) (.i 1)<|
.m 1 37<|
.nil))))
def T207_2 (E:List (Nat × Blk)) (D:Den) (W:DrawFn) (K1:BS→Int→Int→H→Ans) (R2:BS→Int→Int→H→Ans) (a:BS) (b c:Int) (σ:H):Ans:=
 joinB (fun c1 s2=>
 condK c1 (
 R2 a (addF .i64 b (Int.ofNat 1)) c s2) (
 K1 a b c s2)) fun k3=>
 condK (ltF b (Int.ofNat (BS.len a))) (
 idxStrX a b fun x4=>
 callK (D 206 [.int .u8 x4] σ) fun u5 s6=>
 rtBool u5 fun x7=>
 joinB (fun c8 s9=>
 joinB (fun c11 s12=>
 k3 c11 s12) fun k13=>
 condK c8 (
 k13 true s9) (
 idxStrX a b fun x14=>
 joinB (fun c15 s16=>
 k13 c15 s16) fun k17=>
 condK (eqF x14 (Int.ofNat 45)) (
 callK (D 205 [.str a,.int .i64 (addF .i64 b (Int.ofNat 1))] s9) fun u18 s19=>
 rtInt .u8 u18 fun x20=>
 k17 (not (eqF x20 (Int.ofNat 45))) s19) (
 k17 false s9))) fun k10=>
 condK x7 (
 k10 true s6) (
 idxStrX a b fun x21=>
 callK (D 209 [.int .u8 x21] s6) fun u22 s23=>
 rtBool u22 fun x24=>
 k10 x24 s23)) (
 k3 false σ)
def S207_0 (a:BS) (b:Int) (σ:H):St:=⟨[(0,.str a),(1,.int .i64 b)],[],[],σ⟩
def S207_1 (a:BS) (b c:Int) (σ:H):St:=⟨[(0,.str a),(1,.int .i64 b),(5,.int .i64 c)],[],[],σ⟩
theorem P207_0 (cc1:XC) (cc2:XC) (a:BS) (b:Int) (σ:H) :
 denC E D W N (C207_0 cc1 cc2) (S207_0 a b σ) (Fin207 E) nX (Fin207 E) =
 T207_0 E D W (fun a b c σ=>iterK (fun rec s'=>denC E D W N cc2 s' (kX q207a [] [] rec) (b207a E D W N cc1) (Fin207 E)) N (S207_1 a b c σ)) a b σ:=by kernel_rfl
theorem P207_2 (cc1:XC) (li2:St→Ans) (a:BS) (b c:Int) (σ:H) :
 denC E D W N (C207_2 ) (S207_1 a b c σ) (kX q207a [] [] li2) (b207a E D W N cc1) (Fin207 E) =
 T207_2 E D W (fun a b c σ=>denC E D W N cc1 (S207_1 a b c σ) (Fin207 E) nX (Fin207 E)) (fun a b c σ=>li2 (S207_1 a b c σ)) a b c σ:=by kernel_rfl
def J207_1 (E:List (Nat × Blk)) (D:Den) (W:DrawFn) (N:Nat):=T207_1 E D W
theorem JE207_1 (a:BS) (b c:Int) (σ:H) :
 denC E D W N C207_1 (S207_1 a b c σ) (Fin207 E) nX (Fin207 E)=J207_1 E D W N a b c σ:=by kernel_rfl
def L207_2 (n:Nat):BS→Int→Int→H→Ans:=
 Nat.rec (fun _ _ _ _=>none) (fun _ ih=>T207_2 E D W (J207_1 E D W N ) ih) n
theorem LE207_2 (n:Nat):∀(a:BS) (b c:Int) (σ:H),
 iterK (fun rec s'=>denC E D W N C207_2 s' (kX q207a [] [] rec) (b207a E D W N C207_1) (Fin207 E)) n (S207_1 a b c σ)=L207_2 E D W N n a b c σ:=by
 induction n with
 | zero=>intro a b c σ;rfl
 | succ n ihn=>
  intro a b c σ
  rw[iterK_succ]
  refine(P207_2 E D W N C207_1 (iterK (fun rec s'=>denC E D W N C207_2 s' (kX q207a [] [] rec) (b207a E D W N C207_1) (Fin207 E)) n) a b c σ).trans ?_
  simp only[ihn,JE207_1]
  kernel_rfl
def J207_0:=T207_0 E D W (L207_2 E D W N N)
theorem JE207_0 (a:BS) (b:Int) (σ:H) :
 denC E D W N (C207_0 C207_1 C207_2) (S207_0 a b σ) (Fin207 E) nX (Fin207 E)=J207_0 E D W N a b σ:=by
 refine(P207_0 E D W N C207_1 C207_2  a b σ).trans ?_
 simp only[LE207_2]
 kernel_rfl
def F207 (args:List V) (σ:H):Ans:=
 xcS args fun x3 l2=>
 xcI .i64 l2 fun x6 l5=>
 rtNil l5 (
 J207_0 E D W N x3 x6 σ)
def A207:XFn:=⟨50,[.str,.i],[(.tmp 4)],(C207_0 C207_1 C207_2)⟩
theorem FE207 (args:List V) (σ:H):runX E D W N A207 args σ=F207 E D W N args σ:=by
 unfold F207
 simp only[←JE207_0]
 kernel_rfl
def C208_0:XC:=(.z (.c 2 y1<|
.nil)
 (.z (.k 3 .one 274 []<|
.m 4 0<|
.k 5 .bool 123 [(.t 3),(.t 4)]<|
.m 2 5<|
.nil)
 .ret))
def T208_0 (E:List (Nat × Blk)) (D:Den) (W:DrawFn) (a:BS) (σ:H):Ans:=
 callK (D 274 [] σ) fun u1 s2=>
 rtOne u1 (
 callK (D 123 [u1,.str a] s2) fun u3 s4=>
 rtBool u3 fun x5=>
 some ((V.bool x5),s4))
def F208 (N:Nat) (args:List V) (σ:H):Ans:=
 xcS args fun x3 l2=>
 rtNil l2 (
 T208_0 E D W x3 σ)
def A208:XFn:=⟨6,[.str],[(.tmp 2)],C208_0⟩
theorem FE208 (args:List V) (σ:H):runX E D W N A208 args σ=F208 E D W N args σ:=by kernel_rfl
def C209_0:XC:=(.z (.c 2 y1<|
.nil)
 (.z (.m 3 0<|
.b 4 .geq .none (.t 3) y21<|
.m 5 4<|
.gA 5 true (.p 6 [0,5] y13<|
.p 7 [6,5] (.bin .leq .none (.t 6) (.con (V.int .u8 (Int.ofNat 57))))<|
.nil) 8 5 7<|
.m 2 8<|
.nil)
 .ret))
def T209_0 (E:List (Nat × Blk)) (D:Den) (W:DrawFn) (a:Int) (σ:H):Ans:=
 joinB (fun c1 s2=>
 some ((V.bool c1),s2)) fun k3=>
 condK (leF (Int.ofNat 48) a) (
 k3 (leF a (Int.ofNat 57)) σ) (
 k3 false σ)
def F209 (N:Nat) (args:List V) (σ:H):Ans:=
 xcI .u8 args fun x3 l2=>
 rtNil l2 (
 T209_0 E D W x3 σ)
def A209:XFn:=⟨9,[(.int .u8)],[(.tmp 2)],C209_0⟩
theorem FE209 (args:List V) (σ:H):runX E D W N A209 args σ=F209 E D W N args σ:=by kernel_rfl
def q210a:List (Nat × XTy):=[(0,.str),(1,.i),(5,.bool),(6,.i),(7,(.int .u64))]
def Fin210 (E:List (Nat × Blk)):St→Ans:=fun s=>resK E s [(.tmp 4)] fun l=>some (oneV l,s.σ)
def b210a (c0:XC):Nat→St→Ans:=blkK 0 (dX E D W N (.keep q210a [] [] c0) (Fin210 E) nX (Fin210 E)) nX
def C210_0 (cc1:XC):XC:=(.z (.q 4 0<|
.nil)
 (.z (.m 9 0<|
.m 10 1<|
.P 11 (.idxStr (.t 9) (.t 10))<|
.b 12 .eql .none (.t 11) y14<|
.m 5 12<|
.nil)
 (.seq (.z (.m 13 5<|
.nil)
 (.cond (.tmp 13) (.ops (.m 14 1<|
.b 15 .add .none (.t 14) (.i 1)<|
.m 1 15<|
.nil))
 .skip))
 (.keep [(0,.str),(1,.i),(5,.bool)] [] [] cc1))))
def T210_0 (E:List (Nat × Blk)) (D:Den) (W:DrawFn) (K1:BS→Int→Bool→H→Ans) (a:BS) (b:Int) (σ:H):Ans:=
 idxStrX a b fun x1=>
 condK (eqF x1 (Int.ofNat 45)) (
 K1 a (addF .i64 b (Int.ofNat 1)) (eqF x1 (Int.ofNat 45)) σ) (
 K1 a b (eqF x1 (Int.ofNat 45)) σ)
def C210_1 (cc2:XC) (cc3:XC):XC:=(.z (.m 16 1<|
.m 6 16<|
.nil)
 (.z (.c 7 y16<|
.nil)
 (.seq (.block 0 (.loop q210a [] [] cc3))
 (.keep q210a [] [] cc2))))
def T210_1 (E:List (Nat × Blk)) (D:Den) (W:DrawFn) (K3:BS→Int→Bool→Int→Int→H→Ans) (a:BS) (b:Int) (c:Bool) (σ:H):Ans:=
 K3 a b c b (Int.ofNat 0) σ
def C210_2:XC:=(.z (.m 41 1<|
.m 42 6<|
.b 43 .sub .none (.t 41) (.t 42)<|
.m 8 43<|
.nil)
 (.seq (.z (.m 44 8<|
.b 45 .lss .none (.t 44) (.i 1)<|
.m 46 45<|
.gO 46 false (.p 47 [8,46] y32<|
.p 48 [47,46] (.bin .gtr .none (.t 47) (.i 19))<|
.nil) 49 46 48<|
.m 50 49<|
.gO 50 false (.p 51 [8,50] y32<|
.p 52 [51,50] (.bin .gtr .none (.t 51) (.i 1))<|
.p 53 [52,50] (.mov (.t 52))<|
.grp 53 true (.p 54 [0,53] y13<|
.p 55 [6,53] (.mov (.t 6))<|
.p 56 [54,55,53] (.idxStr (.t 54) (.t 55))<|
.p 57 [56,53] (.bin .eql .none (.t 56) y21)<|
.nil) 58 [53,57,50] (.t 53) (.t 57) (.con y1)<|
.nil) 59 50 58<|
.m 60 59<|
.gO 60 false (.p 61 [5,60] (.mov (.t 5))<|
.p 62 [61,60] (.mov (.t 61))<|
.grp 62 true (.p 63 [0,62] y13<|
.p 64 [6,62] (.mov (.t 6))<|
.p 65 [63,64,62] (.idxStr (.t 63) (.t 64))<|
.p 66 [65,62] (.bin .eql .none (.t 65) y21)<|
.nil) 67 [62,66,60] (.t 62) (.t 66) (.con y1)<|
.nil) 68 60 67<|
.m 69 68<|
.gO 69 false (.p 70 [0,69] y13<|
.p 71 [1,69] y15<|
.op (some 72) (.int .u8) [70,71,69] (.call 205 [(.t 70),(.t 71)])<|
.op (some 73) .bool [72,69] (.call 206 [(.t 72)])<|
.nil) 74 69 73<|
.m 75 74<|
.gO 75 false (.p 76 [7,75] (.mov (.t 7))<|
.p 77 [76,75] (.bin .gtr .none (.t 76) (.con (V.int .u64 (Int.ofNat 9223372036854775808))))<|
.nil) 78 75 77<|
.m 79 78<|
.gO 79 false (.p 80 [5,79] (.mov (.t 5))<|
.p 81 [80,79] (.un .not (.t 80))<|
.p 82 [81,79] (.mov (.t 81))<|
.grp 82 true (.p 83 [7,82] (.mov (.t 7))<|
.p 84 [83,82] (.bin .eql .none (.t 83) (.con (V.int .u64 (Int.ofNat 9223372036854775808))))<|
.nil) 85 [82,84,79] (.t 82) (.t 84) (.con y1)<|
.nil) 86 79 85<|
.nil)
 (.cond (.tmp 86) (.z (.c 4 y18<|
.nil)
 .ret)
 .skip))
 (.z (.m 87 1<|
.m 4 87<|
.nil)
 .ret)))
def T210_2 (E:List (Nat × Blk)) (D:Den) (W:DrawFn) (a:BS) (b:Int) (c:Bool) (d e:Int) (σ:H):Ans:=
 joinB (fun c1 s2=>
 joinB (fun c4 s5=>
 joinB (fun c7 s8=>
 joinB (fun c10 s11=>
 joinB (fun c13 s14=>
 joinB (fun c16 s17=>
 condK c16 (
 some ((V.int .i64 (Int.negSucc 0)),s17)) (
 some ((V.int .i64 b),s17))) fun k18=>
 condK c13 (
 k18 true s14) (
 joinB (fun c19 s20=>
 k18 c19 s20) fun k21=>
 condK (not c) (
 k21 (eqF e (Int.ofNat 9223372036854775808)) s14) (
 k21 false s14))) fun k15=>
 condK c10 (
 k15 true s11) (
 k15 (ltF (Int.ofNat 9223372036854775808) e) s11)) fun k12=>
 condK c7 (
 k12 true s8) (
 callK (D 205 [.str a,.int .i64 b] s8) fun u22 s23=>
 rtInt .u8 u22 fun x24=>
 callK (D 206 [.int .u8 x24] s23) fun u25 s26=>
 rtBool u25 fun x27=>
 k12 x27 s26)) fun k9=>
 condK c4 (
 k9 true s5) (
 joinB (fun c28 s29=>
 k9 c28 s29) fun k30=>
 condK c (
 idxStrX a d fun x31=>
 k30 (eqF x31 (Int.ofNat 48)) s5) (
 k30 false s5))) fun k6=>
 condK c1 (
 k6 true s2) (
 joinB (fun c32 s33=>
 k6 c32 s33) fun k34=>
 condK (ltF (Int.ofNat 1) (subF .i64 b d)) (
 idxStrX a d fun x35=>
 k34 (eqF x35 (Int.ofNat 48)) s2) (
 k34 false s2))) fun k3=>
 condK (ltF (subF .i64 b d) (Int.ofNat 1)) (
 k3 true σ) (
 k3 (ltF (Int.ofNat 19) (subF .i64 b d)) σ)
def C210_3 (cc4:XC):XC:=(.seq (.z (.m 17 1<|
.m 18 0<|
.P 19 (.len true (.t 18))<|
.b 20 .lss .none (.t 17) (.t 19)<|
.m 21 20<|
.gA 21 true (.p 22 [0,21] y13<|
.p 23 [1,21] y15<|
.p 24 [22,23,21] (.idxStr (.t 22) (.t 23))<|
.op (some 25) .bool [24,21] (.call 209 [(.t 24)])<|
.nil) 26 21 25<|
.nil)
 (.cond (.tmp 26) .skip
 y22))
 (.block 1 (.seq (.z (.m 27 1<|
.m 28 6<|
.b 29 .sub .none (.t 27) (.t 28)<|
.b 30 .lss .none (.t 29) (.i 19)<|
.nil)
 (.cond (.tmp 30) (.ops (.m 31 7<|
.b 32 .mul .none (.con (V.int .u64 (Int.ofNat 10))) (.t 31)<|
.m 33 0<|
.m 34 1<|
.P 35 (.idxStr (.t 33) (.t 34))<|
.b 36 .sub .none (.t 35) y21<|
.P 37 (.conv (.toInt .u64) (.t 36))<|
.b 38 .add .none (.t 32) (.t 37)<|
.m 7 38<|
.nil))
 .skip))
 (.keep q210a [] [] cc4))))
def T210_3 (E:List (Nat × Blk)) (D:Den) (W:DrawFn) (K2:BS→Int→Bool→Int→Int→H→Ans) (K4:BS→Int→Bool→Int→Int→H→Ans) (a:BS) (b:Int) (c:Bool) (d e:Int) (σ:H):Ans:=
 joinB (fun c1 s2=>
 condK c1 (
 condK (ltF (subF .i64 b d) (Int.ofNat 19)) (
 idxStrX a b fun x4=>
 K4 a b c d (addF .u64 (mulF .u64 (Int.ofNat 10) e) (wrapF .u64 (subF .u8 x4 (Int.ofNat 48)))) s2) (
 K4 a b c d e s2)) (
 K2 a b c d e s2)) fun k3=>
 condK (ltF b (Int.ofNat (BS.len a))) (
 idxStrX a b fun x5=>
 callK (D 209 [.int .u8 x5] σ) fun u6 s7=>
 rtBool u6 fun x8=>
 k3 x8 s7) (
 k3 false σ)
def C210_4:XC:=(.ops (.m 39 1<|
.b 40 .add .none (.t 39) (.i 1)<|
.m 1 40<|
.nil))
def T210_4 (E:List (Nat × Blk)) (D:Den) (W:DrawFn) (R3:BS→Int→Bool→Int→Int→H→Ans) (a:BS) (b:Int) (c:Bool) (d e:Int) (σ:H):Ans:=
 R3 a (addF .i64 b (Int.ofNat 1)) c d e σ
def S210_0 (a:BS) (b:Int) (σ:H):St:=⟨[(0,.str a),(1,.int .i64 b)],[],[],σ⟩
def S210_1 (a:BS) (b:Int) (c:Bool) (σ:H):St:=⟨[(0,.str a),(1,.int .i64 b),(5,.bool c)],[],[],σ⟩
def S210_2 (a:BS) (b:Int) (c:Bool) (d e:Int) (σ:H):St:=⟨[(0,.str a),(1,.int .i64 b),(5,.bool c),(6,.int .i64 d),(7,.int .u64 e)],[],[],σ⟩
theorem P210_0 (cc1:XC) (a:BS) (b:Int) (σ:H) :
 denC E D W N (C210_0 cc1) (S210_0 a b σ) (Fin210 E) nX (Fin210 E) =
 T210_0 E D W (fun a b c σ=>denC E D W N cc1 (S210_1 a b c σ) (Fin210 E) nX (Fin210 E)) a b σ:=by kernel_rfl
theorem P210_1 (cc2:XC) (cc3:XC) (a:BS) (b:Int) (c:Bool) (σ:H) :
 denC E D W N (C210_1 cc2 cc3) (S210_1 a b c σ) (Fin210 E) nX (Fin210 E) =
 T210_1 E D W (fun a b c d e σ=>iterK (fun rec s'=>denC E D W N cc3 s' (kX q210a [] [] rec) (b210a E D W N cc2) (Fin210 E)) N (S210_2 a b c d e σ)) a b c σ:=by kernel_rfl
theorem P210_3 (cc2:XC) (cc4:XC) (li3:St→Ans) (a:BS) (b:Int) (c:Bool) (d e:Int) (σ:H) :
 denC E D W N (C210_3 cc4) (S210_2 a b c d e σ) (kX q210a [] [] li3) (b210a E D W N cc2) (Fin210 E) =
 T210_3 E D W (fun a b c d e σ=>denC E D W N cc2 (S210_2 a b c d e σ) (Fin210 E) nX (Fin210 E)) (fun a b c d e σ=>denC E D W N cc4 (S210_2 a b c d e σ) (kX q210a [] [] li3) (blkK 1 (kX q210a [] [] li3) (b210a E D W N cc2)) (Fin210 E)) a b c d e σ:=by kernel_rfl
theorem P210_4 (cc2:XC) (li3:St→Ans) (a:BS) (b:Int) (c:Bool) (d e:Int) (σ:H) :
 denC E D W N (C210_4 ) (S210_2 a b c d e σ) (kX q210a [] [] li3) (blkK 1 (kX q210a [] [] li3) (b210a E D W N cc2)) (Fin210 E) =
 T210_4 E D W (fun a b c d e σ=>li3 (S210_2 a b c d e σ)) a b c d e σ:=by kernel_rfl
def J210_2 (E:List (Nat × Blk)) (D:Den) (W:DrawFn) (N:Nat):=T210_2 E D W
theorem JE210_2 (a:BS) (b:Int) (c:Bool) (d e:Int) (σ:H) :
 denC E D W N C210_2 (S210_2 a b c d e σ) (Fin210 E) nX (Fin210 E)=J210_2 E D W N a b c d e σ:=by kernel_rfl
def J210_4 (E:List (Nat × Blk)) (D:Den) (W:DrawFn) (N:Nat) (R3:BS→Int→Bool→Int→Int→H→Ans):=T210_4 E D W R3
theorem JE210_4 (li3:St→Ans) (a:BS) (b:Int) (c:Bool) (d e:Int) (σ:H) :
 denC E D W N C210_4 (S210_2 a b c d e σ) (kX q210a [] [] li3) (blkK 1 (kX q210a [] [] li3) (b210a E D W N C210_2)) (Fin210 E)=J210_4 E D W N (fun a b c d e σ=>li3 (S210_2 a b c d e σ)) a b c d e σ:=by
 refine(P210_4 E D W N C210_2 li3 a b c d e σ).trans ?_
 kernel_rfl
def L210_3 (n:Nat):BS→Int→Bool→Int→Int→H→Ans:=
 Nat.rec (fun _ _ _ _ _ _=>none) (fun _ ih=>T210_3 E D W (J210_2 E D W N ) (J210_4 E D W N ih)) n
theorem LE210_3 (n:Nat):∀(a:BS) (b:Int) (c:Bool) (d e:Int) (σ:H),
 iterK (fun rec s'=>denC E D W N (C210_3 C210_4) s' (kX q210a [] [] rec) (b210a E D W N C210_2) (Fin210 E)) n (S210_2 a b c d e σ)=L210_3 E D W N n a b c d e σ:=by
 induction n with
 | zero=>intro a b c d e σ;rfl
 | succ n ihn=>
  intro a b c d e σ
  rw[iterK_succ]
  refine(P210_3 E D W N C210_2 C210_4 (iterK (fun rec s'=>denC E D W N (C210_3 C210_4) s' (kX q210a [] [] rec) (b210a E D W N C210_2) (Fin210 E)) n) a b c d e σ).trans ?_
  simp only[ihn,JE210_2,JE210_4]
  kernel_rfl
def J210_1:=T210_1 E D W (L210_3 E D W N N)
theorem JE210_1 (a:BS) (b:Int) (c:Bool) (σ:H) :
 denC E D W N (C210_1 C210_2 (C210_3 C210_4)) (S210_1 a b c σ) (Fin210 E) nX (Fin210 E)=J210_1 E D W N a b c σ:=by
 refine(P210_1 E D W N C210_2 (C210_3 C210_4)  a b c σ).trans ?_
 simp only[LE210_3]
 kernel_rfl
def J210_0:=T210_0 E D W (J210_1 E D W N )
theorem JE210_0 (a:BS) (b:Int) (σ:H) :
 denC E D W N (C210_0 (C210_1 C210_2 (C210_3 C210_4))) (S210_0 a b σ) (Fin210 E) nX (Fin210 E)=J210_0 E D W N a b σ:=by
 refine(P210_0 E D W N (C210_1 C210_2 (C210_3 C210_4))  a b σ).trans ?_
 simp only[JE210_1]
 kernel_rfl
def F210 (args:List V) (σ:H):Ans:=
 xcS args fun x3 l2=>
 xcI .i64 l2 fun x6 l5=>
 rtNil l5 (
 J210_0 E D W N x3 x6 σ)
def A210:XFn:=⟨88,[.str,.i],[(.tmp 4)],(C210_0 (C210_1 C210_2 (C210_3 C210_4)))⟩
theorem FE210 (args:List V) (σ:H):runX E D W N A210 args σ=F210 E D W N args σ:=by
 unfold F210
 simp only[←JE210_0]
 kernel_rfl
def q213a:List (Nat × XTy):=[(5,.str),(6,.any),(7,.i)]
def Fin213 (E:List (Nat × Blk)):St→Ans:=fun s=>resK E s [(.tmp 4)] fun l=>some (oneV l,s.σ)
def b213a (c0:XC):Nat→St→Ans:=blkK 0 (dX E D W N (.keep [] [] [] c0) (Fin213 E) nX (Fin213 E)) nX
def C213_0 (cc1:XC) (cc2:XC):XC:=(.z (.q 4 0<|
.nil)
 (.z (.m 9 0<|
.m 10 1<|
.p 11 [9,10] (.sliceStr (.t 9) (some (.t 10)) none)<|
.m 5 11<|
.nil)
 (.z (.p 12 [] (.buildSlice 9 13 [y5,y5,y5,y5,y5,y5,y5,y5,y5,y5,y5,y5,y5] [(0,1,(.con (V.str ⟨3,4012602⟩))),(1,1,(.con (V.str ⟨3,3026478⟩))),(2,1,(.con (V.str ⟨2,11822⟩))),(3,1,(.con (V.str ⟨2,23387⟩))),(4,1,(.con (V.str ⟨2,23901⟩))),(5,1,y29),(6,1,(.con (V.str ⟨1,125⟩))),(7,1,(.con (V.str ⟨1,91⟩))),(8,1,(.con (V.str ⟨1,93⟩))),(9,1,(.con (V.str ⟨1,40⟩))),(10,1,(.con (V.str ⟨1,41⟩))),(11,1,(.con (V.str ⟨1,44⟩))),(12,1,(.con (V.str ⟨1,58⟩)))])<|
.m 6 12<|
.nil)
 (.seq (.z (.q 7 0<|
.nil)
 (.block 0 (.loop q213a [] [] cc2)))
 (.keep [] [] [] cc1)))))
def T213_0 (E:List (Nat × Blk)) (D:Den) (W:DrawFn) (K2:BS→V→Int→H→Ans) (a:BS) (b:Int) (σ:H):Ans:=
 sliceStrX a (some (V.int .i64 b)) none fun t1=>
 let s2:=newB σ (.cells [.str (BS.mk 3 4012602),.str (BS.mk 3 3026478),.str (BS.mk 2 11822),.str (BS.mk 2 23387),.str (BS.mk 2 23901),.str (BS.mk 1 123),.str (BS.mk 1 125),.str (BS.mk 1 91),.str (BS.mk 1 93),.str (BS.mk 1 40),.str (BS.mk 1 41),.str (BS.mk 1 44),.str (BS.mk 1 58)]);
 K2 t1 (V.sl (H.next σ) 0 13 (.ex 13)) (Int.ofNat 0) s2
def C213_1:XC:=(.z (.q 4 0<|
.nil)
 .ret)
def T213_1 (E:List (Nat × Blk)) (D:Den) (W:DrawFn) (σ:H):Ans:=
 some ((V.int .i64 (Int.ofNat 0)),σ)
def C213_2:XC:=(.seq (.z (.m 13 7<|
.m 14 6<|
.u 15 14<|
.b 16 .lss .none (.t 13) (.t 15)<|
.nil)
 (.cond (.tmp 16) .skip
 y22))
 (.seq (.block 1 (.z (.m 19 6<|
.m 20 7<|
.s 21 1 19 20<|
.l 22 .str 21<|
.P 23 (.len true (.t 22))<|
.m 8 23<|
.nil)
 (.seq (.draw (.m 24 5<|
.P 25 (.len true (.t 24))<|
.m 26 8<|
.b 27 .geq .none (.t 25) (.t 26)<|
.m 28 27<|
.gA 28 true (.p 29 [5,28] (.mov (.t 5))<|
.p 30 [8,28] y32<|
.p 31 [29,30,28] (.sliceStr (.t 29) none (some (.t 30)))<|
.p 32 [6,28] (.mov (.t 6))<|
.p 33 [7,28] (.mov (.t 7))<|
.p 34 [32,33,28] (.iaddrS 1 (.t 32) (.t 33))<|
.op (some 35) .str [34,28] (.load none (.t 34))<|
.p 36 [31,35,28] (.bin .eql .none (.t 31) (.t 35))<|
.nil) 37 28 36<|
.nil) [0,1,0,7,15,31,31,127,31,31,799,1823,4095,8191])
 (.cond (.tmp 37) (.z (.m 38 8<|
.m 4 38<|
.nil)
 .ret)
 .skip))))
 (.ops (.m 17 7<|
.b 18 .add .none (.t 17) (.i 1)<|
.m 7 18<|
.nil))))
def T213_2 (E:List (Nat × Blk)) (D:Den) (W:DrawFn) (K1:H→Ans) (R2:BS→V→Int→H→Ans) (a:BS) (b:V) (c:Int) (σ:H):Ans:=
 slenK b fun n1=>
 condK (ltF c (Int.ofNat n1)) (
 iaddrSK 1 b c fun b2 o3=>
 ldK E σ b2 o3 fun u4=>
 rtStr u4 fun x5=>
 joinB (fun c6 s7=>
 condK c6 (
 some ((V.int .i64 (Int.ofNat (BS.len x5))),s7)) (
 R2 a b (addF .i64 c (Int.ofNat 1)) s7)) fun k8=>
 condK (leF (Int.ofNat (BS.len x5)) (Int.ofNat (BS.len a))) (
 sliceStrX a none (some (V.int .i64 (Int.ofNat (BS.len x5)))) fun t9=>
 iaddrSK 1 b c fun b10 o11=>
 ldK E σ b10 o11 fun u12=>
 rtStr u12 fun x13=>
 k8 (BS.beq t9 x13) σ) (
 k8 false σ)) (
 K1 σ)
def S213_0 (a:BS) (b:Int) (σ:H):St:=⟨[(0,.str a),(1,.int .i64 b)],[],[],σ⟩
def S213_1 (σ:H):St:=⟨[],[],[],σ⟩
def S213_2 (a:BS) (b:V) (c:Int) (σ:H):St:=⟨[(5,.str a),(6,b),(7,.int .i64 c)],[],[],σ⟩
theorem P213_0 (cc1:XC) (cc2:XC) (a:BS) (b:Int) (σ:H) :
 denC E D W N (C213_0 cc1 cc2) (S213_0 a b σ) (Fin213 E) nX (Fin213 E) =
 T213_0 E D W (fun c d e σ=>iterK (fun rec s'=>denC E D W N cc2 s' (kX q213a [] [] rec) (b213a E D W N cc1) (Fin213 E)) N (S213_2 c d e σ)) a b σ:=by kernel_rfl
theorem P213_2 (cc1:XC) (li2:St→Ans) (a:BS) (b:V) (c:Int) (σ:H) :
 denC E D W N (C213_2 ) (S213_2 a b c σ) (kX q213a [] [] li2) (b213a E D W N cc1) (Fin213 E) =
 T213_2 E D W (fun  σ=>denC E D W N cc1 (S213_1 σ) (Fin213 E) nX (Fin213 E)) (fun a b c σ=>li2 (S213_2 a b c σ)) a b c σ:=by kernel_rfl
def J213_1 (E:List (Nat × Blk)) (D:Den) (W:DrawFn) (N:Nat):=T213_1 E D W
theorem JE213_1 (σ:H) :
 denC E D W N C213_1 (S213_1 σ) (Fin213 E) nX (Fin213 E)=J213_1 E D W N  σ:=by kernel_rfl
def L213_2 (n:Nat):BS→V→Int→H→Ans:=
 Nat.rec (fun _ _ _ _=>none) (fun _ ih=>T213_2 E D W (J213_1 E D W N ) ih) n
theorem LE213_2 (n:Nat):∀(a:BS) (b:V) (c:Int) (σ:H),
 iterK (fun rec s'=>denC E D W N C213_2 s' (kX q213a [] [] rec) (b213a E D W N C213_1) (Fin213 E)) n (S213_2 a b c σ)=L213_2 E D W N n a b c σ:=by
 induction n with
 | zero=>intro a b c σ;rfl
 | succ n ihn=>
  intro a b c σ
  rw[iterK_succ]
  refine(P213_2 E D W N C213_1 (iterK (fun rec s'=>denC E D W N C213_2 s' (kX q213a [] [] rec) (b213a E D W N C213_1) (Fin213 E)) n) a b c σ).trans ?_
  simp only[ihn,JE213_1]
  kernel_rfl
def J213_0:=T213_0 E D W (L213_2 E D W N N)
theorem JE213_0 (a:BS) (b:Int) (σ:H) :
 denC E D W N (C213_0 C213_1 C213_2) (S213_0 a b σ) (Fin213 E) nX (Fin213 E)=J213_0 E D W N a b σ:=by
 refine(P213_0 E D W N C213_1 C213_2  a b σ).trans ?_
 simp only[LE213_2]
 kernel_rfl
def F213 (args:List V) (σ:H):Ans:=
 xcS args fun x3 l2=>
 xcI .i64 l2 fun x6 l5=>
 rtNil l5 (
 J213_0 E D W N x3 x6 σ)
def A213:XFn:=⟨39,[.str,.i],[(.tmp 4)],(C213_0 C213_1 C213_2)⟩
theorem FE213 (args:List V) (σ:H):runX E D W N A213 args σ=F213 E D W N args σ:=by
 unfold F213
 simp only[←JE213_0]
 kernel_rfl
def q214a:List (Nat × XTy):=[(0,.str),(3,.bool),(4,(.int .u64)),(5,.i)]
def q214b:List (Nat × XTy):=[(3,.bool),(4,(.int .u64))]
def Fin214 (E:List (Nat × Blk)):St→Ans:=fun s=>resK E s [(.tmp 2)] fun l=>some (oneV l,s.σ)
def b214a (c0:XC):Nat→St→Ans:=blkK 0 (dX E D W N (.keep q214b [] [] c0) (Fin214 E) nX (Fin214 E)) nX
def C214_0 (cc1:XC):XC:=(.z (.q 2 0<|
.nil)
 (.z (.m 6 0<|
.P 7 (.idxStr (.t 6) (.i 0))<|
.b 8 .eql .none (.t 7) y14<|
.m 3 8<|
.nil)
 (.seq (.z (.m 9 3<|
.nil)
 (.cond (.tmp 9) (.ops (.m 10 0<|
.p 11 [10] (.sliceStr (.t 10) (some (.i 1)) none)<|
.m 0 11<|
.nil))
 .skip))
 (.keep [(0,.str),(3,.bool)] [] [] cc1))))
def T214_0 (E:List (Nat × Blk)) (D:Den) (W:DrawFn) (K1:BS→Bool→H→Ans) (a:BS) (σ:H):Ans:=
 idxStrX a (Int.ofNat 0) fun x1=>
 condK (eqF x1 (Int.ofNat 45)) (
 sliceStrX a (some (V.int .i64 (Int.ofNat 1))) none fun t2=>
 K1 t2 (eqF x1 (Int.ofNat 45)) σ) (
 K1 a (eqF x1 (Int.ofNat 45)) σ)
def C214_1 (cc2:XC) (cc3:XC):XC:=(.z (.c 4 y16<|
.nil)
 (.seq (.z (.q 5 0<|
.nil)
 (.block 0 (.loop q214a [] [] cc3)))
 (.keep q214b [] [] cc2)))
def T214_1 (E:List (Nat × Blk)) (D:Den) (W:DrawFn) (K3:BS→Bool→Int→Int→H→Ans) (a:BS) (b:Bool) (σ:H):Ans:=
 K3 a b (Int.ofNat 0) (Int.ofNat 0) σ
def C214_2:XC:=(.seq (.z (.m 26 3<|
.nil)
 (.cond (.tmp 26) (.z (.m 27 4<|
.b 28 .sub .none (.t 27) y20<|
.P 29 (.conv (.toInt .i64) (.t 28))<|
.P 30 (.un .neg (.t 29))<|
.b 31 .sub .none (.t 30) (.i 1)<|
.m 2 31<|
.nil)
 .ret)
 .skip))
 (.z (.m 32 4<|
.P 33 (.conv (.toInt .i64) (.t 32))<|
.m 2 33<|
.nil)
 .ret))
def T214_2 (E:List (Nat × Blk)) (D:Den) (W:DrawFn) (a:Bool) (b:Int) (σ:H):Ans:=
 condK a (
 some ((V.int .i64 (subF .i64 (negF .i64 (wrapF .i64 (subF .u64 b (Int.ofNat 1)))) (Int.ofNat 1))),σ)) (
 some ((V.int .i64 (wrapF .i64 b)),σ))
def C214_3:XC:=(.seq (.z (.m 12 5<|
.m 13 0<|
.P 14 (.len true (.t 13))<|
.b 15 .lss .none (.t 12) (.t 14)<|
.nil)
 (.cond (.tmp 15) .skip
 y22))
 (.seq (.block 1 (.ops (.m 18 4<|
.b 19 .mul .none (.con (V.int .u64 (Int.ofNat 10))) (.t 18)<|
.m 20 0<|
.m 21 5<|
.P 22 (.idxStr (.t 20) (.t 21))<|
.b 23 .sub .none (.t 22) y21<|
.P 24 (.conv (.toInt .u64) (.t 23))<|
.b 25 .add .none (.t 19) (.t 24)<|
.m 4 25<|
.nil)))
 (.ops (.m 16 5<|
.b 17 .add .none (.t 16) (.i 1)<|
.m 5 17<|
.nil))))
def T214_3 (E:List (Nat × Blk)) (D:Den) (W:DrawFn) (K2:Bool→Int→H→Ans) (R3:BS→Bool→Int→Int→H→Ans) (a:BS) (b:Bool) (c d:Int) (σ:H):Ans:=
 condK (ltF d (Int.ofNat (BS.len a))) (
 idxStrX a d fun x1=>
 R3 a b (addF .u64 (mulF .u64 (Int.ofNat 10) c) (wrapF .u64 (subF .u8 x1 (Int.ofNat 48)))) (addF .i64 d (Int.ofNat 1)) σ) (
 K2 b c σ)
def S214_0 (a:BS) (σ:H):St:=⟨[(0,.str a)],[],[],σ⟩
def S214_1 (a:BS) (b:Bool) (σ:H):St:=⟨[(0,.str a),(3,.bool b)],[],[],σ⟩
def S214_2 (a:Bool) (b:Int) (σ:H):St:=⟨[(3,.bool a),(4,.int .u64 b)],[],[],σ⟩
def S214_3 (a:BS) (b:Bool) (c d:Int) (σ:H):St:=⟨[(0,.str a),(3,.bool b),(4,.int .u64 c),(5,.int .i64 d)],[],[],σ⟩
theorem P214_0 (cc1:XC) (a:BS) (σ:H) :
 denC E D W N (C214_0 cc1) (S214_0 a σ) (Fin214 E) nX (Fin214 E) =
 T214_0 E D W (fun a b σ=>denC E D W N cc1 (S214_1 a b σ) (Fin214 E) nX (Fin214 E)) a σ:=by kernel_rfl
theorem P214_1 (cc2:XC) (cc3:XC) (a:BS) (b:Bool) (σ:H) :
 denC E D W N (C214_1 cc2 cc3) (S214_1 a b σ) (Fin214 E) nX (Fin214 E) =
 T214_1 E D W (fun a b c d σ=>iterK (fun rec s'=>denC E D W N cc3 s' (kX q214a [] [] rec) (b214a E D W N cc2) (Fin214 E)) N (S214_3 a b c d σ)) a b σ:=by kernel_rfl
theorem P214_3 (cc2:XC) (li3:St→Ans) (a:BS) (b:Bool) (c d:Int) (σ:H) :
 denC E D W N (C214_3 ) (S214_3 a b c d σ) (kX q214a [] [] li3) (b214a E D W N cc2) (Fin214 E) =
 T214_3 E D W (fun b c σ=>denC E D W N cc2 (S214_2 b c σ) (Fin214 E) nX (Fin214 E)) (fun a b c d σ=>li3 (S214_3 a b c d σ)) a b c d σ:=by kernel_rfl
def J214_2 (E:List (Nat × Blk)) (D:Den) (W:DrawFn) (N:Nat):=T214_2 E D W
theorem JE214_2 (a:Bool) (b:Int) (σ:H) :
 denC E D W N C214_2 (S214_2 a b σ) (Fin214 E) nX (Fin214 E)=J214_2 E D W N a b σ:=by kernel_rfl
def L214_3 (n:Nat):BS→Bool→Int→Int→H→Ans:=
 Nat.rec (fun _ _ _ _ _=>none) (fun _ ih=>T214_3 E D W (J214_2 E D W N ) ih) n
theorem LE214_3 (n:Nat):∀(a:BS) (b:Bool) (c d:Int) (σ:H),
 iterK (fun rec s'=>denC E D W N C214_3 s' (kX q214a [] [] rec) (b214a E D W N C214_2) (Fin214 E)) n (S214_3 a b c d σ)=L214_3 E D W N n a b c d σ:=by
 induction n with
 | zero=>intro a b c d σ;rfl
 | succ n ihn=>
  intro a b c d σ
  rw[iterK_succ]
  refine(P214_3 E D W N C214_2 (iterK (fun rec s'=>denC E D W N C214_3 s' (kX q214a [] [] rec) (b214a E D W N C214_2) (Fin214 E)) n) a b c d σ).trans ?_
  simp only[ihn,JE214_2]
  kernel_rfl
def J214_1:=T214_1 E D W (L214_3 E D W N N)
theorem JE214_1 (a:BS) (b:Bool) (σ:H) :
 denC E D W N (C214_1 C214_2 C214_3) (S214_1 a b σ) (Fin214 E) nX (Fin214 E)=J214_1 E D W N a b σ:=by
 refine(P214_1 E D W N C214_2 C214_3  a b σ).trans ?_
 simp only[LE214_3]
 kernel_rfl
def J214_0:=T214_0 E D W (J214_1 E D W N )
theorem JE214_0 (a:BS) (σ:H) :
 denC E D W N (C214_0 (C214_1 C214_2 C214_3)) (S214_0 a σ) (Fin214 E) nX (Fin214 E)=J214_0 E D W N a σ:=by
 refine(P214_0 E D W N (C214_1 C214_2 C214_3)  a σ).trans ?_
 simp only[JE214_1]
 kernel_rfl
def F214 (args:List V) (σ:H):Ans:=
 xcS args fun x3 l2=>
 rtNil l2 (
 J214_0 E D W N x3 σ)
def A214:XFn:=⟨34,[.str],[(.tmp 2)],(C214_0 (C214_1 C214_2 C214_3))⟩
theorem FE214 (args:List V) (σ:H):runX E D W N A214 args σ=F214 E D W N args σ:=by
 unfold F214
 simp only[←JE214_0]
 kernel_rfl
def q216a:List (Nat × List XTy):=[(2,[.bool,.bool,.bool,.bool,.i,.i]),(3,[.bool,.bool,.bool,.bool,.i,.i])]
def C216_0 (cc1:XC):XC:=(.z (.pal 2 [] 141 [y1,y1,y1,y1,y0,y0]<|
.nil)
 (.z (.op (some 4) y2 [] (.build [y1,y1,y1,y1,y0,y0] [(0,1,y12)])<|
.pal 3 [] 141 [y1,y1,y1,y1,y0,y0]<|
.op none y2 [3,4] (.store 6 (.t 3) (.t 4))<|
.nil)
 (.seq (.z (.m 5 0<|
.k 6 .bool 59 [(.t 5),(.con (V.str ⟨3,5130573⟩))]<|
.P 7 (.un .not (.t 6))<|
.nil)
 (.cond (.tmp 7) (.ops (.m 8 0<|
.k 9 .i 121 [(.t 8)]<|
.f 10 1 3<|
.op none .any [10] (.store 1 (.t 10) y12)<|
.f 11 4 3<|
.w 1 11 9<|
.nil))
 .skip))
 (.keep [(0,.any)] [2,3] q216a cc1))))
def T216_0 (E:List (Nat × Blk)) (D:Den) (W:DrawFn) (K1:V→Bool→Bool→Bool→Bool→Int→Int→Bool→Bool→Bool→Bool→Int→Int→H→Ans) (a:V) (σ:H):Ans:=
 callK (D 59 [a,.str (BS.mk 3 5130573)] σ) fun u1 s2=>
 rtBool u1 fun x3=>
 condK (not x3) (
 callK (D 121 [a] s2) fun u4 s5=>
 rtInt .i64 u4 fun x6=>
 K1 a false false false false (Int.ofNat 0) (Int.ofNat 0) true true false false x6 (Int.ofNat 0) s5) (
 K1 a false false false false (Int.ofNat 0) (Int.ofNat 0) true false false false (Int.ofNat 0) (Int.ofNat 0) s2)
def C216_1 (cc2:XC):XC:=(.seq (.block 0 (.z (.m 13 0<|
.k 14 .bool 59 [(.t 13),(.con (V.str ⟨2,11822⟩))]<|
.m 12 14<|
.nil)
 (.cond (.tmp 12) (.z (.m 15 0<|
.k 16 .bool 59 [(.t 15),(.con (V.str ⟨3,5783885⟩))]<|
.P 17 (.un .not (.t 16))<|
.nil)
 (.cond (.tmp 17) (.ops (.m 18 0<|
.k 19 .i 121 [(.t 18)]<|
.f 20 2 3<|
.op none .any [20] (.store 1 (.t 20) y12)<|
.f 21 5 3<|
.w 1 21 19<|
.nil))
 .skip))
 (.z (.f 23 1 3<|
.l 24 .bool 23<|
.m 22 24<|
.nil)
 (.cond (.tmp 22) (.ops (.f 25 4 3<|
.l 26 .i 25<|
.f 27 2 3<|
.op none .any [27] (.store 1 (.t 27) y12)<|
.f 28 5 3<|
.w 1 28 26<|
.nil))
 .skip)))))
 (.keep [(0,.any)] [2,3] q216a cc2))
def T216_1 (E:List (Nat × Blk)) (D:Den) (W:DrawFn) (K2:V→Bool→Bool→Bool→Bool→Int→Int→Bool→Bool→Bool→Bool→Int→Int→H→Ans) (a:V) (b c d e:Bool) (f g:Int) (h i j k:Bool) (l m:Int) (σ:H):Ans:=
 callK (D 59 [a,.str (BS.mk 2 11822)] σ) fun u1 s2=>
 rtBool u1 fun x3=>
 condK x3 (
 callK (D 59 [a,.str (BS.mk 3 5783885)] s2) fun u4 s5=>
 rtBool u4 fun x6=>
 condK (not x6) (
 callK (D 121 [a] s5) fun u7 s8=>
 rtInt .i64 u7 fun x9=>
 K2 a b c d e f g h i true k l x9 s8) (
 K2 a b c d e f g h i j k l m s5)) (
 condK i (
 K2 a b c d e f g h i true k l l s2) (
 K2 a b c d e f g h i j k l m s2))
def C216_2 (cc3:XC):XC:=(.seq (.z (.m 29 0<|
.k 30 .bool 59 [(.t 29),(.con (V.str ⟨1,44⟩))]<|
.nil)
 (.cond (.tmp 30) (.z (.m 31 0<|
.k 32 y10 58 [(.t 31),(.con (V.str ⟨3,3026478⟩))]<|
.nil)
 (.ops (.f 33 3 3<|
.op none .any [33] (.store 1 (.t 33) y12)<|
.nil)))
 .skip))
 (.keep [] [2,3] q216a cc3))
def T216_2 (E:List (Nat × Blk)) (D:Den) (W:DrawFn) (K3:Bool→Bool→Bool→Bool→Int→Int→Bool→Bool→Bool→Bool→Int→Int→H→Ans) (a:V) (b c d e:Bool) (f g:Int) (h i j k:Bool) (l m:Int) (σ:H):Ans:=
 callK (D 59 [a,.str (BS.mk 1 44)] σ) fun u1 s2=>
 rtBool u1 fun x3=>
 condK x3 (
 callK (D 58 [a,.str (BS.mk 3 3026478)] s2) fun u4 s5=>
 rtTup u4 fun l6=>
 rtNil l6 (
 K3 b c d e f g h i j true l m s5)) (
 K3 b c d e f g h i j k l m s2)
def C216_3:XC:=(.z (.O 34 y2 (.load (some 6) (.t 3))<|
.op none y2 [2,34] (.store 6 (.t 2) (.t 34))<|
.nil)
 .ret)
def T216_3 (E:List (Nat × Blk)) (D:Den) (W:DrawFn) (a b c d:Bool) (e f:Int) (g h i j:Bool) (k l:Int) (σ:H):Ans:=
 some ((V.agg [.bool g,.bool h,.bool i,.bool j,.int .i64 k,.int .i64 l]),σ)
def J216_3 (E:List (Nat × Blk)) (D:Den) (W:DrawFn) (N:Nat):=T216_3 E D W
def J216_2:=T216_2 E D W (J216_3 E D W N )
def J216_1:=T216_1 E D W (J216_2 E D W N )
def F216 (args:List V) (σ:H):Ans:=
 rtCons args fun x1 l2=>
 rtNil l2 (
 T216_0 E D W (J216_1 E D W N ) x1 σ)
def A216:XFn:=⟨35,[.any],[(.cell 2 (some 6))],(C216_0 (C216_1 (C216_2 C216_3)))⟩
theorem FE216 (args:List V) (σ:H):runX E D W N A216 args σ=F216 E D W N args σ:=by kernel_rfl
def C220_0 (cc1:XC) (cc2:XC):XC:=(.z (.pal 2 [] 253 [y0,y0]<|
.nil)
 (.seq (.z (.m 3 0<|
.nil)
 (.block 0 (.z (.b 5 .eql .none (.t 3) (.i 1)<|
.m 4 5<|
.nil)
 (.cond (.tmp 4) (.z (.op (some 6) y17 [] (.build [y0,y0] [(1,1,(.i 1))])<|
.op none y17 [2,6] (.store 2 (.t 2) (.t 6))<|
.nil)
 .ret)
 (.z (.b 8 .eql .none (.t 3) (.i 2)<|
.m 7 8<|
.nil)
 (.cond (.tmp 7) (.z (.op (some 9) y17 [] (.build [y0,y0] [(1,1,(.i 2))])<|
.op none y17 [2,9] (.store 2 (.t 2) (.t 9))<|
.nil)
 .ret)
 (.z (.b 11 .eql .none (.t 3) (.i 5)<|
.m 10 11<|
.nil)
 (.cond (.tmp 10) (.z (.op (some 12) y17 [] (.build [y0,y0] [(1,1,(.i 4))])<|
.op none y17 [2,12] (.store 2 (.t 2) (.t 12))<|
.nil)
 .ret)
 (.z (.b 14 .eql .none (.t 3) (.i 4)<|
.m 13 14<|
.nil)
 (.cond (.tmp 13) (.z (.op (some 15) y17 [] (.build [y0,y0] [(1,1,(.i 5))])<|
.op none y17 [2,15] (.store 2 (.t 2) (.t 15))<|
.nil)
 .ret)
 (.z (.b 17 .eql .none (.t 3) (.i 3)<|
.m 16 17<|
.nil)
 (.cond (.tmp 16) (.z (.op (some 18) y17 [] (.build [y0,y0] [(1,1,(.i 10))])<|
.op none y17 [2,18] (.store 2 (.t 2) (.t 18))<|
.nil)
 .ret)
 (.z (.b 20 .eql .none (.t 3) (.i 6)<|
.m 19 20<|
.nil)
 (.cond (.tmp 19) (.z (.op (some 21) y17 [] (.build [y0,y0] [(1,1,(.i 12))])<|
.op none y17 [2,21] (.store 2 (.t 2) (.t 21))<|
.nil)
 .ret)
 (.seq (.z (.b 23 .eql .none (.t 3) (.i 7)<|
.m 22 23<|
.nil)
 (.cond (.tmp 22) .skip
 (.ops (.b 24 .eql .none (.t 3) (.i 10)<|
.m 22 24<|
.nil))))
 (.keep [(3,.i),(22,.bool)] [2] [(2,[.i,.i])] cc2))))))))))))))))
 (.keep [] [2] [(2,[.i,.i])] cc1)))
def T220_0 (E:List (Nat × Blk)) (D:Den) (W:DrawFn) (K2:Int→Bool→Int→Int→H→Ans) (a:Int) (σ:H):Ans:=
 condK (eqF a (Int.ofNat 1)) (
 some ((V.agg [.int .i64 (Int.ofNat 0),.int .i64 (Int.ofNat 1)]),σ)) (
 condK (eqF a (Int.ofNat 2)) (
 some ((V.agg [.int .i64 (Int.ofNat 0),.int .i64 (Int.ofNat 2)]),σ)) (
 condK (eqF a (Int.ofNat 5)) (
 some ((V.agg [.int .i64 (Int.ofNat 0),.int .i64 (Int.ofNat 4)]),σ)) (
 condK (eqF a (Int.ofNat 4)) (
 some ((V.agg [.int .i64 (Int.ofNat 0),.int .i64 (Int.ofNat 5)]),σ)) (
 condK (eqF a (Int.ofNat 3)) (
 some ((V.agg [.int .i64 (Int.ofNat 0),.int .i64 (Int.ofNat 10)]),σ)) (
 condK (eqF a (Int.ofNat 6)) (
 some ((V.agg [.int .i64 (Int.ofNat 0),.int .i64 (Int.ofNat 12)]),σ)) (
 condK (eqF a (Int.ofNat 7)) (
 K2 a (eqF a (Int.ofNat 7)) (Int.ofNat 0) (Int.ofNat 0) σ) (
 K2 a (eqF a (Int.ofNat 10)) (Int.ofNat 0) (Int.ofNat 0) σ)))))))
def C220_1:XC:=(.z (.op (some 29) y17 [] (.build [y0,y0] [])<|
.op none y17 [2,29] (.store 2 (.t 2) (.t 29))<|
.nil)
 .ret)
def T220_1 (E:List (Nat × Blk)) (D:Den) (W:DrawFn) (a b:Int) (σ:H):Ans:=
 some ((V.agg [.int .i64 (Int.ofNat 0),.int .i64 (Int.ofNat 0)]),σ)
def C220_2:XC:=(.cond (.tmp 22) (.z (.op (some 25) y17 [] (.build [y0,y0] [(1,1,(.i 16))])<|
.op none y17 [2,25] (.store 2 (.t 2) (.t 25))<|
.nil)
 .ret)
 (.z (.b 27 .eql .none (.t 3) (.i 8)<|
.m 26 27<|
.nil)
 (.cond (.tmp 26) (.z (.op (some 28) y17 [] (.build [y0,y0] [(1,1,(.i 17))])<|
.op none y17 [2,28] (.store 2 (.t 2) (.t 28))<|
.nil)
 .ret)
 .skip)))
def T220_2 (E:List (Nat × Blk)) (D:Den) (W:DrawFn) (K1:Int→Int→H→Ans) (a:Int) (b:Bool) (c d:Int) (σ:H):Ans:=
 condK b (
 some ((V.agg [.int .i64 (Int.ofNat 0),.int .i64 (Int.ofNat 16)]),σ)) (
 condK (eqF a (Int.ofNat 8)) (
 some ((V.agg [.int .i64 (Int.ofNat 0),.int .i64 (Int.ofNat 17)]),σ)) (
 K1 c d σ))
def J220_1 (E:List (Nat × Blk)) (D:Den) (W:DrawFn) (N:Nat):=T220_1 E D W
def J220_2:=T220_2 E D W (J220_1 E D W N )
def F220 (args:List V) (σ:H):Ans:=
 xcI .i64 args fun x3 l2=>
 rtNil l2 (
 T220_0 E D W (J220_2 E D W N ) x3 σ)
def A220:XFn:=⟨30,[.i],[(.cell 2 (some 2))],(C220_0 C220_1 C220_2)⟩
theorem FE220 (args:List V) (σ:H):runX E D W N A220 args σ=F220 E D W N args σ:=by kernel_rfl
def C221_0:XC:=(.z (.P 2 (.box 141 (.t 0))<|
.q 4 0<|
.nil)
 (.seq (.z (.f 5 0 2<|
.l 6 .bool 5<|
.P 7 (.un .not (.t 6))<|
.nil)
 (.cond (.tmp 7) (.z (.q 4 0<|
.nil)
 .ret)
 .skip))
 (.seq (.z (.f 8 1 2<|
.l 9 .bool 8<|
.m 10 9<|
.gA 10 true (.p 11 [2,10] (.faddr 2 (.t 2))<|
.op (some 12) .bool [11,10] (.load none (.t 11))<|
.nil) 13 10 12<|
.m 14 13<|
.gA 14 true (.p 15 [2,14] (.faddr 4 (.t 2))<|
.op (some 16) .i [15,14] (.load none (.t 15))<|
.p 17 [2,14] (.faddr 5 (.t 2))<|
.op (some 18) .i [17,14] (.load none (.t 17))<|
.p 19 [16,18,14] (.bin .gtr .none (.t 16) (.t 18))<|
.nil) 20 14 19<|
.nil)
 (.cond (.tmp 20) (.z (.q 4 11<|
.nil)
 .ret)
 .skip))
 (.seq (.z (.m 21 1<|
.m 22 21<|
.gA 22 true (.p 23 [2,22] (.faddr 1 (.t 2))<|
.op (some 24) .bool [23,22] (.load none (.t 23))<|
.p 25 [24,22] (.un .not (.t 24))<|
.p 26 [25,22] (.mov (.t 25))<|
.grp 26 false (.p 27 [2,26] (.faddr 4 (.t 2))<|
.op (some 28) .i [27,26] (.load none (.t 27))<|
.p 29 [28,26] (.bin .lss .none (.t 28) (.i 0))<|
.nil) 30 [26,29,22] (.t 26) y12 (.t 29)<|
.p 31 [30,22] (.mov (.t 30))<|
.grp 31 false (.p 32 [2,31] (.faddr 4 (.t 2))<|
.op (some 33) .i [32,31] (.load none (.t 32))<|
.p 34 [33,31] (.bin .gtr .none (.t 33) (.i 70000))<|
.nil) 35 [31,34,22] (.t 31) y12 (.t 34)<|
.p 36 [35,22] (.mov (.t 35))<|
.grp 36 false (.p 37 [2,36] (.faddr 2 (.t 2))<|
.op (some 38) .bool [37,36] (.load none (.t 37))<|
.p 39 [38,36] (.mov (.t 38))<|
.grp 39 true (.p 40 [2,39] (.faddr 5 (.t 2))<|
.op (some 41) .i [40,39] (.load none (.t 40))<|
.p 42 [41,39] (.bin .lss .none (.t 41) (.i 0))<|
.p 43 [42,39] (.mov (.t 42))<|
.grp 43 false (.p 44 [2,43] (.faddr 5 (.t 2))<|
.op (some 45) .i [44,43] (.load none (.t 44))<|
.p 46 [45,43] (.bin .gtr .none (.t 45) (.i 70000))<|
.nil) 47 [43,46,39] (.t 43) y12 (.t 46)<|
.nil) 48 [39,47,36] (.t 39) (.t 47) (.con y1)<|
.nil) 49 [36,48,22] (.t 36) y12 (.t 48)<|
.nil) 50 22 49<|
.nil)
 (.cond (.tmp 50) (.z (.q 4 11<|
.nil)
 .ret)
 .skip))
 (.z (.q 4 0<|
.nil)
 .ret)))))
def T221_0 (E:List (Nat × Blk)) (D:Den) (W:DrawFn) (a b c d:Bool) (e f:Int) (g:Bool) (σ:H):Ans:=
 nbK [.bool a,.bool b,.bool c,.bool d,.int .i64 e,.int .i64 f] σ fun s1=>
 ldK E s1 (H.next σ) 0 fun u2=>
 rtBool u2 fun x3=>
 condK (not x3) (
 some ((V.int .i64 (Int.ofNat 0)),s1)) (
 ldK E s1 (H.next σ) 1 fun u4=>
 rtBool u4 fun x5=>
 joinB (fun c6 s7=>
 joinB (fun c9 s10=>
 condK c9 (
 some ((V.int .i64 (Int.ofNat 11)),s10)) (
 joinB (fun c12 s13=>
 condK c12 (
 some ((V.int .i64 (Int.ofNat 11)),s13)) (
 some ((V.int .i64 (Int.ofNat 0)),s13))) fun k14=>
 condK g (
 ldK E s10 (H.next σ) 1 fun u15=>
 rtBool u15 fun x16=>
 joinB (fun c17 s18=>
 joinB (fun c20 s21=>
 joinB (fun c23 s24=>
 k14 c23 s24) fun k25=>
 condK c20 (
 k25 true s21) (
 ldK E s21 (H.next σ) 2 fun u26=>
 rtBool u26 fun x27=>
 joinB (fun c28 s29=>
 k25 c28 s29) fun k30=>
 condK x27 (
 ldK E s21 (H.next σ) 5 fun u31=>
 rtInt .i64 u31 fun x32=>
 joinB (fun c33 s34=>
 k30 c33 s34) fun k35=>
 condK (ltF x32 (Int.ofNat 0)) (
 k35 true s21) (
 ldK E s21 (H.next σ) 5 fun u36=>
 rtInt .i64 u36 fun x37=>
 k35 (ltF (Int.ofNat 70000) x37) s21)) (
 k30 false s21))) fun k22=>
 condK c17 (
 k22 true s18) (
 ldK E s18 (H.next σ) 4 fun u38=>
 rtInt .i64 u38 fun x39=>
 k22 (ltF (Int.ofNat 70000) x39) s18)) fun k19=>
 condK (not x16) (
 k19 true s10) (
 ldK E s10 (H.next σ) 4 fun u40=>
 rtInt .i64 u40 fun x41=>
 k19 (ltF x41 (Int.ofNat 0)) s10)) (
 k14 false s10))) fun k11=>
 condK c6 (
 ldK E s7 (H.next σ) 4 fun u42=>
 rtInt .i64 u42 fun x43=>
 ldK E s7 (H.next σ) 5 fun u44=>
 rtInt .i64 u44 fun x45=>
 k11 (ltF x45 x43) s7) (
 k11 false s7)) fun k8=>
 condK x5 (
 ldK E s1 (H.next σ) 2 fun u46=>
 rtBool u46 fun x47=>
 k8 x47 s1) (
 k8 false s1))
def F221 (N:Nat) (args:List V) (σ:H):Ans:=
 rtCons args fun x1 l2=>
 rtAgg x1 fun l3=>
 xcB l3 fun x6 l5=>
 xcB l5 fun x9 l8=>
 xcB l8 fun x12 l11=>
 xcB l11 fun x15 l14=>
 xcI .i64 l14 fun x18 l17=>
 xcI .i64 l17 fun x21 l20=>
 rtNil l20 (
 xcB l2 fun x24 l23=>
 rtNil l23 (
 T221_0 E D W x6 x9 x12 x15 x18 x21 x24 σ))
def A221:XFn:=⟨51,[y2,.bool],[(.tmp 4)],C221_0⟩
theorem FE221 (args:List V) (σ:H):runX E D W N A221 args σ=F221 E D W N args σ:=by kernel_rfl
def q234a:List (Nat × XTy):=[(0,.any),(1,(.int .u32)),(6,.i)]
def Fin234 (E:List (Nat × Blk)):St→Ans:=fun s=>resK E s [] fun l=>some (oneV l,s.σ)
def C234_0 (cc1:XC):XC:=(.z (.m 7 2<|
.k 8 .i 260 [(.t 7)]<|
.b 9 .sub .none (.t 8) (.i 1)<|
.m 6 9<|
.nil)
 (.block 0 (.loop q234a [] [] cc1)))
def T234_0 (E:List (Nat × Blk)) (D:Den) (W:DrawFn) (K1:V→Int→Int→H→Ans) (a:V) (b c:Int) (σ:H):Ans:=
 callK (D 260 [.int .i64 c] σ) fun u1 s2=>
 rtInt .i64 u1 fun x3=>
 K1 a b (subF .i64 x3 (Int.ofNat 1)) s2
def C234_1:XC:=(.seq (.z (.m 10 6<|
.b 11 .geq .none (.t 10) (.i 0)<|
.nil)
 y33)
 (.seq (.block 1 (.ops (.m 14 0<|
.m 15 1<|
.m 16 6<|
.b 17 .shr .none (.t 15) (.t 16)<|
.b 18 .and .none (.t 17) (.con (V.int .u32 (Int.ofNat 1)))<|
.P 19 (.conv (.toInt .i64) (.t 18))<|
.k 20 y10 289 [(.t 14),(.t 19)]<|
.nil)))
 (.ops (.m 12 6<|
.b 13 .sub .none (.t 12) (.i 1)<|
.m 6 13<|
.nil))))
def T234_1 (E:List (Nat × Blk)) (D:Den) (W:DrawFn) (R1:V→Int→Int→H→Ans) (a:V) (b c:Int) (σ:H):Ans:=
 condK (leF (Int.ofNat 0) c) (
 nnK c fun n1=>
 callK (D 289 [a,.int .i64 (wrapF .i64 (andF .u32 (shrF .u32 b n1) (Int.ofNat 1)))] σ) fun u2 s3=>
 rtTup u2 fun l4=>
 rtNil l4 (
 R1 a b (subF .i64 c (Int.ofNat 1)) s3)) (
 some ((V.tup []),σ))
def S234_0 (a:V) (b c:Int) (σ:H):St:=⟨[(0,a),(1,.int .u32 b),(2,.int .i64 c)],[],[],σ⟩
def S234_1 (a:V) (b c:Int) (σ:H):St:=⟨[(0,a),(1,.int .u32 b),(6,.int .i64 c)],[],[],σ⟩
theorem P234_0 (cc1:XC) (a:V) (b c:Int) (σ:H) :
 denC E D W N (C234_0 cc1) (S234_0 a b c σ) (Fin234 E) nX (Fin234 E) =
 T234_0 E D W (fun a b d σ=>iterK (fun rec s'=>denC E D W N cc1 s' (kX q234a [] [] rec) (blkK 0 (Fin234 E) nX) (Fin234 E)) N (S234_1 a b d σ)) a b c σ:=by kernel_rfl
theorem P234_1 (li1:St→Ans) (a:V) (b c:Int) (σ:H) :
 denC E D W N (C234_1 ) (S234_1 a b c σ) (kX q234a [] [] li1) (blkK 0 (Fin234 E) nX) (Fin234 E) =
 T234_1 E D W (fun a b c σ=>li1 (S234_1 a b c σ)) a b c σ:=by kernel_rfl
def L234_1 (E:List (Nat × Blk)) (D:Den) (W:DrawFn) (N:Nat) (n:Nat):V→Int→Int→H→Ans:=
 Nat.rec (fun _ _ _ _=>none) (fun _ ih=>T234_1 E D W ih) n
theorem LE234_1 (n:Nat):∀(a:V) (b c:Int) (σ:H),
 iterK (fun rec s'=>denC E D W N C234_1 s' (kX q234a [] [] rec) (blkK 0 (Fin234 E) nX) (Fin234 E)) n (S234_1 a b c σ)=L234_1 E D W N n a b c σ:=by
 induction n with
 | zero=>intro a b c σ;rfl
 | succ n ihn=>
  intro a b c σ
  rw[iterK_succ]
  refine(P234_1 E D W N  (iterK (fun rec s'=>denC E D W N C234_1 s' (kX q234a [] [] rec) (blkK 0 (Fin234 E) nX) (Fin234 E)) n) a b c σ).trans ?_
  simp only[ihn]
  kernel_rfl
def J234_0:=T234_0 E D W (L234_1 E D W N N)
theorem JE234_0 (a:V) (b c:Int) (σ:H) :
 denC E D W N (C234_0 C234_1) (S234_0 a b c σ) (Fin234 E) nX (Fin234 E)=J234_0 E D W N a b c σ:=by
 refine(P234_0 E D W N C234_1  a b c σ).trans ?_
 simp only[LE234_1]
 kernel_rfl
def F234 (args:List V) (σ:H):Ans:=
 rtCons args fun x1 l2=>
 xcI .u32 l2 fun x5 l4=>
 xcI .i64 l4 fun x8 l7=>
 rtNil l7 (
 J234_0 E D W N x1 x5 x8 σ)
def A234:XFn:=⟨21,[.any,(.int .u32),.i],[],(C234_0 C234_1)⟩
theorem FE234 (args:List V) (σ:H):runX E D W N A234 args σ=F234 E D W N args σ:=by
 unfold F234
 simp only[←JE234_0]
 kernel_rfl
def C235_0:XC:=(.z (.P 1 (.box 266 (.t 0))<|
.c 2 y1<|
.nil)
 (.z (.f 3 0 1<|
.f 4 0 3<|
.l 5 .bool 4<|
.m 6 5<|
.gA 6 true (.p 7 [1,6] (.faddr 0 (.t 1))<|
.p 8 [7,6] (.faddr 1 (.t 7))<|
.op (some 9) .bool [8,6] (.load none (.t 8))<|
.nil) 10 6 9<|
.m 11 10<|
.gA 11 true (.p 12 [1,11] (.faddr 0 (.t 1))<|
.p 13 [12,11] (.faddr 2 (.t 12))<|
.op (some 14) .bool [13,11] (.load none (.t 13))<|
.nil) 15 11 14<|
.m 2 15<|
.nil)
 .ret))
def T235_0 (E:List (Nat × Blk)) (D:Den) (W:DrawFn) (a b c d:Bool) (e f:Int) (σ:H):Ans:=
 nbK [.bool a,.bool b,.bool c,.bool d,.int .i64 e,.int .i64 f] σ fun s1=>
 ldK E s1 (H.next σ) 0 fun u2=>
 rtBool u2 fun x3=>
 joinB (fun c4 s5=>
 joinB (fun c7 s8=>
 some ((V.bool c7),s8)) fun k9=>
 condK c4 (
 ldK E s5 (H.next σ) 2 fun u10=>
 rtBool u10 fun x11=>
 k9 x11 s5) (
 k9 false s5)) fun k6=>
 condK x3 (
 ldK E s1 (H.next σ) 1 fun u12=>
 rtBool u12 fun x13=>
 k6 x13 s1) (
 k6 false s1)
def F235 (N:Nat) (args:List V) (σ:H):Ans:=
 rtCons args fun x1 l2=>
 rtAgg x1 fun l3=>
 xcB l3 fun x6 l5=>
 xcB l5 fun x9 l8=>
 xcB l8 fun x12 l11=>
 xcB l11 fun x15 l14=>
 xcI .i64 l14 fun x18 l17=>
 xcI .i64 l17 fun x21 l20=>
 rtNil l20 (
 rtNil l2 (
 T235_0 E D W x6 x9 x12 x15 x18 x21 σ))
def A235:XFn:=⟨16,[y2],[(.tmp 2)],C235_0⟩
theorem FE235 (args:List V) (σ:H):runX E D W N A235 args σ=F235 E D W N args σ:=by kernel_rfl
def C236_0:XC:=(.z (.P 1 (.box 266 (.t 0))<|
.c 2 y1<|
.nil)
 (.z (.O 3 y2 (.load (some 6) (.t 1))<|
.k 4 .bool 235 [(.t 3)]<|
.m 5 4<|
.gA 5 true (.p 6 [1,5] (.faddr 0 (.t 1))<|
.p 7 [6,5] (.faddr 4 (.t 6))<|
.op (some 8) .i [7,5] (.load none (.t 7))<|
.p 9 [1,5] (.faddr 0 (.t 1))<|
.p 10 [9,5] (.faddr 5 (.t 9))<|
.op (some 11) .i [10,5] (.load none (.t 10))<|
.p 12 [8,11,5] (.bin .gtr .none (.t 8) (.t 11))<|
.nil) 13 5 12<|
.m 2 13<|
.nil)
 .ret))
def T236_0 (E:List (Nat × Blk)) (D:Den) (W:DrawFn) (a b c d:Bool) (e f:Int) (σ:H):Ans:=
 nbK [.bool a,.bool b,.bool c,.bool d,.int .i64 e,.int .i64 f] σ fun s1=>
 ldnK E s1 (H.next σ) 0 6 fun l2=>
 xcB l2 fun x5 l4=>
 xcB l4 fun x8 l7=>
 xcB l7 fun x11 l10=>
 xcB l10 fun x14 l13=>
 xcI .i64 l13 fun x17 l16=>
 xcI .i64 l16 fun x20 l19=>
 rtNil l19 (
 callK (D 235 [.agg [.bool x5,.bool x8,.bool x11,.bool x14,.int .i64 x17,.int .i64 x20]] s1) fun u21 s22=>
 rtBool u21 fun x23=>
 joinB (fun c24 s25=>
 some ((V.bool c24),s25)) fun k26=>
 condK x23 (
 ldK E s22 (H.next σ) 4 fun u27=>
 rtInt .i64 u27 fun x28=>
 ldK E s22 (H.next σ) 5 fun u29=>
 rtInt .i64 u29 fun x30=>
 k26 (ltF x30 x28) s22) (
 k26 false s22))
def F236 (N:Nat) (args:List V) (σ:H):Ans:=
 rtCons args fun x1 l2=>
 rtAgg x1 fun l3=>
 xcB l3 fun x6 l5=>
 xcB l5 fun x9 l8=>
 xcB l8 fun x12 l11=>
 xcB l11 fun x15 l14=>
 xcI .i64 l14 fun x18 l17=>
 xcI .i64 l17 fun x21 l20=>
 rtNil l20 (
 rtNil l2 (
 T236_0 E D W x6 x9 x12 x15 x18 x21 σ))
def A236:XFn:=⟨14,[y2],[(.tmp 2)],C236_0⟩
theorem FE236 (args:List V) (σ:H):runX E D W N A236 args σ=F236 E D W N args σ:=by kernel_rfl
def C237_0:XC:=(.z (.q 2 0<|
.nil)
 (.z (.m 3 0<|
.k 4 .i 290 [(.t 3)]<|
.m 2 4<|
.nil)
 .ret))
def T237_0 (E:List (Nat × Blk)) (D:Den) (W:DrawFn) (a:Int) (σ:H):Ans:=
 callK (D 290 [.int .u64 a] σ) fun u1 s2=>
 rtInt .i64 u1 fun x3=>
 some ((V.int .i64 x3),s2)
def F237 (N:Nat) (args:List V) (σ:H):Ans:=
 xcI .u64 args fun x3 l2=>
 rtNil l2 (
 T237_0 E D W x3 σ)
def A237:XFn:=⟨5,[(.int .u64)],[(.tmp 2)],C237_0⟩
theorem FE237 (args:List V) (σ:H):runX E D W N A237 args σ=F237 E D W N args σ:=by kernel_rfl
def q238a:List (Nat × XTy):=[(0,(.int .u64)),(1,.i),(5,.any),(9,.i),(10,.i)]
def Fin238 (E:List (Nat × Blk)):St→Ans:=fun s=>resK E s [(.tmp 4)] fun l=>some (oneV l,s.σ)
def b238a (c0:XC):Nat→St→Ans:=blkK 0 (dX E D W N (.keep [(5,.any)] [] [] c0) (Fin238 E) nX (Fin238 E)) nX
def C238_0 (cc1:XC) (cc2:XC):XC:=(.z (.c 4 V.nils<|
.nil)
 (.z (.m 7 1<|
.P 8 (.mkslice 5 1 1 [y24] (.t 7) (.t 7))<|
.m 5 8<|
.nil)
 (.seq (.z (.m 9 1<|
.q 10 0<|
.nil)
 (.block 0 (.loop q238a [] [] cc2)))
 (.keep [(5,.any)] [] [] cc1))))
def T238_0 (E:List (Nat × Blk)) (D:Den) (W:DrawFn) (K2:Int→Int→V→Int→Int→H→Ans) (a b:Int) (σ:H):Ans:=
 nnK b fun n1=>
 nnK b fun n2=>
 chk (Nat.ble n1 n2&&Nat.ble (n2*1) 281474976710656&&Nat.ble n2 1000000000000) (
 let s3:=newB σ (.cells (List.replicate n2 [.int .u8 (Int.ofNat 0)]).flatten);
 K2 a b (V.sl (H.next σ) 0 n1 (.ex n2)) b (Int.ofNat 0) s3)
def C238_1:XC:=(.z (.m 25 5<|
.m 4 25<|
.nil)
 .ret)
def T238_1 (E:List (Nat × Blk)) (D:Den) (W:DrawFn) (a:V) (σ:H):Ans:=
 some (a,σ)
def C238_2:XC:=(.z (.b 11 .lss .none (.t 10) (.t 9)<|
.nil)
 (.seq y33
 (.seq (.block 1 (.z (.m 12 10<|
.m 6 12<|
.nil)
 (.ops (.m 13 5<|
.m 14 6<|
.m 15 0<|
.m 16 1<|
.b 17 .sub .none (.t 16) (.i 1)<|
.m 18 6<|
.b 19 .sub .none (.t 17) (.t 18)<|
.b 20 .mul .none (.i 8) (.t 19)<|
.b 21 .shr .none (.t 15) (.t 20)<|
.P 22 (.conv (.toInt .u8) (.t 21))<|
.s 23 1 13 14<|
.w 1 23 22<|
.nil))))
 (.ops (.b 24 .add .none (.t 10) (.i 1)<|
.m 10 24<|
.nil)))))
def T238_2 (E:List (Nat × Blk)) (D:Den) (W:DrawFn) (K1:V→H→Ans) (R2:Int→Int→V→Int→Int→H→Ans) (a b:Int) (c:V) (d e:Int) (σ:H):Ans:=
 condK (ltF e d) (
 nnK (mulF .i64 (Int.ofNat 8) (subF .i64 (subF .i64 b (Int.ofNat 1)) e)) fun n1=>
 iaddrSK 1 c e fun b2 o3=>
 stK 1 b2 o3 (V.int .u8 (wrapF .u8 (shrF .u64 a n1))) σ fun s4=>
 R2 a b c d (addF .i64 e (Int.ofNat 1)) s4) (
 K1 c σ)
def S238_0 (a b:Int) (σ:H):St:=⟨[(0,.int .u64 a),(1,.int .i64 b)],[],[],σ⟩
def S238_1 (a:V) (σ:H):St:=⟨[(5,a)],[],[],σ⟩
def S238_2 (a b:Int) (c:V) (d e:Int) (σ:H):St:=⟨[(0,.int .u64 a),(1,.int .i64 b),(5,c),(9,.int .i64 d),(10,.int .i64 e)],[],[],σ⟩
theorem P238_0 (cc1:XC) (cc2:XC) (a b:Int) (σ:H) :
 denC E D W N (C238_0 cc1 cc2) (S238_0 a b σ) (Fin238 E) nX (Fin238 E) =
 T238_0 E D W (fun a b c d e σ=>iterK (fun rec s'=>denC E D W N cc2 s' (kX q238a [] [] rec) (b238a E D W N cc1) (Fin238 E)) N (S238_2 a b c d e σ)) a b σ:=by kernel_rfl
theorem P238_2 (cc1:XC) (li2:St→Ans) (a b:Int) (c:V) (d e:Int) (σ:H) :
 denC E D W N (C238_2 ) (S238_2 a b c d e σ) (kX q238a [] [] li2) (b238a E D W N cc1) (Fin238 E) =
 T238_2 E D W (fun c σ=>denC E D W N cc1 (S238_1 c σ) (Fin238 E) nX (Fin238 E)) (fun a b c d e σ=>li2 (S238_2 a b c d e σ)) a b c d e σ:=by kernel_rfl
def J238_1 (E:List (Nat × Blk)) (D:Den) (W:DrawFn) (N:Nat):=T238_1 E D W
theorem JE238_1 (a:V) (σ:H) :
 denC E D W N C238_1 (S238_1 a σ) (Fin238 E) nX (Fin238 E)=J238_1 E D W N a σ:=by kernel_rfl
def L238_2 (n:Nat):Int→Int→V→Int→Int→H→Ans:=
 Nat.rec (fun _ _ _ _ _ _=>none) (fun _ ih=>T238_2 E D W (J238_1 E D W N ) ih) n
theorem LE238_2 (n:Nat):∀(a b:Int) (c:V) (d e:Int) (σ:H),
 iterK (fun rec s'=>denC E D W N C238_2 s' (kX q238a [] [] rec) (b238a E D W N C238_1) (Fin238 E)) n (S238_2 a b c d e σ)=L238_2 E D W N n a b c d e σ:=by
 induction n with
 | zero=>intro a b c d e σ;rfl
 | succ n ihn=>
  intro a b c d e σ
  rw[iterK_succ]
  refine(P238_2 E D W N C238_1 (iterK (fun rec s'=>denC E D W N C238_2 s' (kX q238a [] [] rec) (b238a E D W N C238_1) (Fin238 E)) n) a b c d e σ).trans ?_
  simp only[ihn,JE238_1]
  kernel_rfl
def J238_0:=T238_0 E D W (L238_2 E D W N N)
theorem JE238_0 (a b:Int) (σ:H) :
 denC E D W N (C238_0 C238_1 C238_2) (S238_0 a b σ) (Fin238 E) nX (Fin238 E)=J238_0 E D W N a b σ:=by
 refine(P238_0 E D W N C238_1 C238_2  a b σ).trans ?_
 simp only[LE238_2]
 kernel_rfl
def F238 (args:List V) (σ:H):Ans:=
 xcI .u64 args fun x3 l2=>
 xcI .i64 l2 fun x6 l5=>
 rtNil l5 (
 J238_0 E D W N x3 x6 σ)
def A238:XFn:=⟨26,[(.int .u64),.i],[(.tmp 4)],(C238_0 C238_1 C238_2)⟩
theorem FE238 (args:List V) (σ:H):runX E D W N A238 args σ=F238 E D W N args σ:=by
 unfold F238
 simp only[←JE238_0]
 kernel_rfl
def C244_0:XC:=(.z (.q 2 0<|
.c 3 y1<|
.nil)
 (.seq (.z (.m 4 0<|
.b 5 .lss .none (.t 4) (.i 16384)<|
.nil)
 (.cond (.tmp 5) (.z (.m 6 0<|
.m 2 6<|
.c 3 y1<|
.nil)
 .ret)
 .skip))
 (.z (.m 7 0<|
.b 8 .quo .none (.t 7) (.i 16384)<|
.p 9 [8] (.min (.t 8) [(.i 4)])<|
.b 10 .mul .none (.t 9) (.i 16384)<|
.m 2 10<|
.c 3 y31<|
.nil)
 .ret)))
def T244_0 (E:List (Nat × Blk)) (D:Den) (W:DrawFn) (a:Int) (σ:H):Ans:=
 condK (ltF a (Int.ofNat 16384)) (
 some ((V.tup [.int .i64 a,.bool false]),σ)) (
 some ((V.tup [.int .i64 (mulF .i64 (minF (quoF .i64 a (Int.ofNat 16384)) (Int.ofNat 4)) (Int.ofNat 16384)),.bool true]),σ))
def F244 (N:Nat) (args:List V) (σ:H):Ans:=
 xcI .i64 args fun x3 l2=>
 rtNil l2 (
 T244_0 E D W x3 σ)
def A244:XFn:=⟨11,[.i],[(.tmp 2),(.tmp 3)],C244_0⟩
theorem FE244 (args:List V) (σ:H):runX E D W N A244 args σ=F244 E D W N args σ:=by kernel_rfl
def C260_0:XC:=(.z (.q 2 0<|
.nil)
 (.z (.m 3 0<|
.p 4 [3] (.min (.t 3) [(.i 32)])<|
.p 5 [4] (.max (.i 0) [(.t 4)])<|
.m 2 5<|
.nil)
 .ret))
def T260_0 (E:List (Nat × Blk)) (D:Den) (W:DrawFn) (a:Int) (σ:H):Ans:=
 some ((V.int .i64 (maxF (Int.ofNat 0) (minF a (Int.ofNat 32)))),σ)
def F260 (N:Nat) (args:List V) (σ:H):Ans:=
 xcI .i64 args fun x3 l2=>
 rtNil l2 (
 T260_0 E D W x3 σ)
def A260:XFn:=⟨6,[.i],[(.tmp 2)],C260_0⟩
theorem FE260 (args:List V) (σ:H):runX E D W N A260 args σ=F260 E D W N args σ:=by kernel_rfl
def C274_0:XC:=(.z (.c 0 V.nils<|
.nil)
 (.z (.p 1 [] (.buildSlice 9 25 [y5,y5,y5,y5,y5,y5,y5,y5,y5,y5,y5,y5,y5,y5,y5,y5,y5,y5,y5,y5,y5,y5,y5,y5,y5] [(0,1,(.con (V.str ⟨11,100710650190388740279911748⟩))),(1,1,y34),(2,1,y35),(3,1,(.con (V.str ⟨9,1241215773001651606849⟩))),(4,1,y27),(5,1,(.con (V.str ⟨5,336236856642⟩))),(6,1,(.con (V.str ⟨3,4476485⟩))),(7,1,(.con (V.str ⟨7,22026814072246082⟩))),(8,1,(.con (V.str ⟨7,23157120498421321⟩))),(9,1,y26),(10,1,(.con (V.str ⟨4,1280070990⟩))),(11,1,(.con (V.str ⟨5,361940403023⟩))),(12,1,(.con (V.str ⟨6,78401563153491⟩))),(13,1,y25),(14,1,y36),(15,1,(.con (V.str ⟨3,5522771⟩))),(16,1,(.con (V.str ⟨6,76155295057987⟩))),(17,1,(.con (V.str ⟨2,17999⟩))),(18,1,(.con (V.str ⟨8,5494759122808361039⟩))),(19,1,(.con (V.str ⟨7,23727827094750532⟩))),(20,1,(.con (V.str ⟨4,1163544915⟩))),(21,1,(.con (V.str ⟨3,5130573⟩))),(22,1,(.con (V.str ⟨3,5783885⟩))),(23,1,(.con (V.str ⟨4,1163219540⟩))),(24,1,(.con (V.str ⟨5,297750249798⟩)))])<|
.m 0 1<|
.nil)
 .ret))
def T274_0 (E:List (Nat × Blk)) (D:Den) (W:DrawFn) (σ:H):Ans:=
 let s1:=newB σ (.cells [.str (BS.mk 11 100710650190388740279911748),.str (BS.mk 8 6073459554577832005),.str (BS.mk 8 6073459554577829193),.str (BS.mk 9 1241215773001651606849),.str (BS.mk 4 1397178708),.str (BS.mk 5 336236856642),.str (BS.mk 3 4476485),.str (BS.mk 7 22026814072246082),.str (BS.mk 7 23157120498421321),.str (BS.mk 10 322399817400452109389381),.str (BS.mk 4 1280070990),.str (BS.mk 5 361940403023),.str (BS.mk 6 78401563153491),.str (BS.mk 10 488440487847103610377301),.str (BS.mk 8 4990918871747741011),.str (BS.mk 3 5522771),.str (BS.mk 6 76155295057987),.str (BS.mk 2 17999),.str (BS.mk 8 5494759122808361039),.str (BS.mk 7 23727827094750532),.str (BS.mk 4 1163544915),.str (BS.mk 3 5130573),.str (BS.mk 3 5783885),.str (BS.mk 4 1163219540),.str (BS.mk 5 297750249798)]);
 some ((V.sl (H.next σ) 0 25 (.ex 25)),s1)
def F274 (N:Nat) (args:List V) (σ:H):Ans:=
 rtNil args (
 T274_0 E D W  σ)
def A274:XFn:=⟨2,[],[(.tmp 0)],C274_0⟩
theorem FE274 (args:List V) (σ:H):runX E D W N A274 args σ=F274 E D W N args σ:=by kernel_rfl
def C289_0 (cc1:XC):XC:=(.seq (.z (.m 4 0<|
.b 5 .eql .ptr (.t 4) (.con V.nilp)<|
.nil)
 (.cond (.tmp 5) .ret
 .skip))
 (.seq (.z (.m 6 0<|
.n 7 6<|
.f 8 1 7<|
.l 9 .i 8<|
.b 10 .rem .none (.t 9) (.i 8)<|
.b 11 .eql .none (.t 10) (.i 0)<|
.nil)
 (.cond (.tmp 11) (.ops (.m 12 0<|
.m 13 0<|
.n 14 13<|
.f 15 0 14<|
.l 16 .any 15<|
.p 17 [] y11<|
.O 18 .one (.append 5 1 1 (.t 16) (.t 17))<|
.n 19 12<|
.f 20 0 19<|
.w 1 20 18<|
.nil))
 .skip))
 (.keep [(0,.any),(1,.i)] [] [] cc1)))
def T289_0 (E:List (Nat × Blk)) (D:Den) (W:DrawFn) (K1:V→Int→H→Ans) (a:V) (b:Int) (σ:H):Ans:=
 eqK .ptr a V.nilp fun c1=>
 condK c1 (
 some ((V.tup []),σ)) (
 rtPtr a fun b2 o3=>
 ldK E σ b2 (Nat.add o3 1) fun u4=>
 rtInt .i64 u4 fun x5=>
 condK (eqF (Int.tmod x5 (Int.ofNat 8)) (Int.ofNat 0)) (
 rtPtr a fun b6 o7=>
 ldK E σ b6 o7 fun u8=>
 let s9:=newB σ (.cells [.int .u8 (Int.ofNat 0)]);
 appK E 1 1 u8 (V.sl (H.next σ) 0 1 (.ex 1)) s9 fun u10 s11=>
 rtOne u10 (
 rtPtr a fun b12 o13=>
 stK 1 b12 o13 u10 s11 fun s14=>
 K1 a b s14)) (
 K1 a b σ))
def C289_1 (cc2:XC):XC:=(.seq (.z (.m 21 1<|
.b 22 .neq .none (.t 21) (.i 0)<|
.nil)
 (.cond (.tmp 22) (.draw (.m 23 0<|
.n 24 23<|
.f 25 0 24<|
.l 26 .any 25<|
.m 27 0<|
.n 28 27<|
.f 29 1 28<|
.l 30 .i 29<|
.b 31 .quo .none (.t 30) (.i 8)<|
.s 32 1 26 31<|
.l 33 (.int .u8) 32<|
.m 34 0<|
.n 35 34<|
.f 36 1 35<|
.l 37 .i 36<|
.b 38 .rem .none (.t 37) (.i 8)<|
.b 39 .shr .none (.con (V.int .u8 (Int.ofNat 128))) (.t 38)<|
.b 40 .or .none (.t 33) (.t 39)<|
.s 41 1 26 31<|
.w 1 41 40<|
.nil) [0,1,3,7,0,16,48,112,240,511,1023,0,2048,6144,14336,30720,63488,131071,262143,524287])
 .skip))
 (.keep [(0,.any)] [] [] cc2))
def T289_1 (E:List (Nat × Blk)) (D:Den) (W:DrawFn) (K2:V→H→Ans) (a:V) (b:Int) (σ:H):Ans:=
 condK (not (eqF b (Int.ofNat 0))) (
 rtPtr a fun b1 o2=>
 ldK E σ b1 o2 fun u3=>
 rtPtr a fun b4 o5=>
 ldK E σ b4 (Nat.add o5 1) fun u6=>
 rtInt .i64 u6 fun x7=>
 iaddrSK 1 u3 (quoF .i64 x7 (Int.ofNat 8)) fun b8 o9=>
 ldK E σ b8 o9 fun u10=>
 rtInt .u8 u10 fun x11=>
 rtPtr a fun b12 o13=>
 ldK E σ b12 (Nat.add o13 1) fun u14=>
 rtInt .i64 u14 fun x15=>
 nnK (Int.tmod x15 (Int.ofNat 8)) fun n16=>
 iaddrSK 1 u3 (quoF .i64 x7 (Int.ofNat 8)) fun b17 o18=>
 stK 1 b17 o18 (V.int .u8 (orF .u8 x11 (shrF .u8 (Int.ofNat 128) n16))) σ fun s19=>
 K2 a s19) (
 K2 a σ)
def C289_2:XC:=(.ops (.m 42 0<|
.n 43 42<|
.f 44 1 43<|
.l 45 .i 44<|
.b 46 .add .none (.t 45) (.i 1)<|
.n 47 42<|
.f 48 1 47<|
.w 1 48 46<|
.nil))
def T289_2 (E:List (Nat × Blk)) (D:Den) (W:DrawFn) (a:V) (σ:H):Ans:=
 rtPtr a fun b1 o2=>
 ldK E σ b1 (Nat.add o2 1) fun u3=>
 rtInt .i64 u3 fun x4=>
 rtPtr a fun b5 o6=>
 stK 1 b5 (Nat.add o6 1) (V.int .i64 (addF .i64 x4 (Int.ofNat 1))) σ fun s7=>
 some ((V.tup []),s7)
def J289_2 (E:List (Nat × Blk)) (D:Den) (W:DrawFn) (N:Nat):=T289_2 E D W
def J289_1:=T289_1 E D W (J289_2 E D W N )
def F289 (args:List V) (σ:H):Ans:=
 rtCons args fun x1 l2=>
 xcI .i64 l2 fun x5 l4=>
 rtNil l4 (
 T289_0 E D W (J289_1 E D W N ) x1 x5 σ)
def A289:XFn:=⟨49,[.any,.i],[],(C289_0 (C289_1 C289_2))⟩
theorem FE289 (args:List V) (σ:H):runX E D W N A289 args σ=F289 E D W N args σ:=by kernel_rfl
def C290_0 (cc1:XC):XC:=(.z (.q 2 0<|
.nil)
 (.seq (.z (.m 3 0<|
.b 4 .geq .none (.t 3) (.con (V.int .u64 (Int.ofNat 4294967296)))<|
.nil)
 (.cond (.tmp 4) (.z (.m 5 0<|
.b 6 .shr .none (.t 5) (.con (V.int .u64 (Int.ofNat 32)))<|
.m 0 6<|
.nil)
 (.ops (.q 2 32<|
.nil)))
 .skip))
 (.keep [(0,(.int .u64)),(2,.i)] [] [] cc1)))
def T290_0 (E:List (Nat × Blk)) (D:Den) (W:DrawFn) (K1:Int→Int→H→Ans) (a:Int) (σ:H):Ans:=
 condK (leF (Int.ofNat 4294967296) a) (
 K1 (shrF .u64 a 32) (Int.ofNat 32) σ) (
 K1 a (Int.ofNat 0) σ)
def C290_1 (cc2:XC):XC:=(.seq (.z (.m 7 0<|
.b 8 .geq .none (.t 7) (.con (V.int .u64 (Int.ofNat 65536)))<|
.nil)
 (.cond (.tmp 8) (.z (.m 9 0<|
.b 10 .shr .none (.t 9) (.con (V.int .u64 (Int.ofNat 16)))<|
.m 0 10<|
.nil)
 (.ops (.m 11 2<|
.b 12 .add .none (.t 11) (.i 16)<|
.m 2 12<|
.nil)))
 .skip))
 (.keep [(0,(.int .u64)),(2,.i)] [] [] cc2))
def T290_1 (E:List (Nat × Blk)) (D:Den) (W:DrawFn) (K2:Int→Int→H→Ans) (a b:Int) (σ:H):Ans:=
 condK (leF (Int.ofNat 65536) a) (
 K2 (shrF .u64 a 16) (addF .i64 b (Int.ofNat 16)) σ) (
 K2 a b σ)
def C290_2 (cc3:XC):XC:=(.seq (.z (.m 13 0<|
.b 14 .geq .none (.t 13) (.con (V.int .u64 (Int.ofNat 256)))<|
.nil)
 (.cond (.tmp 14) (.z (.m 15 0<|
.b 16 .shr .none (.t 15) y23<|
.m 0 16<|
.nil)
 (.ops (.m 17 2<|
.b 18 .add .none (.t 17) (.i 8)<|
.m 2 18<|
.nil)))
 .skip))
 (.keep [(0,(.int .u64)),(2,.i)] [] [] cc3))
def T290_2 (E:List (Nat × Blk)) (D:Den) (W:DrawFn) (K3:Int→Int→H→Ans) (a b:Int) (σ:H):Ans:=
 condK (leF (Int.ofNat 256) a) (
 K3 (shrF .u64 a 8) (addF .i64 b (Int.ofNat 8)) σ) (
 K3 a b σ)
def C290_3:XC:=(.z (.m 19 2<|
.m 20 0<|
.P 21 (.conv (.toInt .u8) (.t 20))<|
.P 22 (.idxStr (.con (V.str ⟨256,1013866857139168856493015739252390649739422828853819106890363778118420553376247557433637691341895324351018602695588957474325319502760499485336098898398377509666851054660423406800006203933793007272033180812049178612605246075062580585469430410618860250057463399279570354286669047577758927328864388992123306212451509403152394148136105363817402562688186708175358218852349079190158732807302672745370040257219644697201681238697346923541678507645485296520536209706771857694240900605172937619415410180424934769249448772944216470541052485265558808433676546390051204254346932932316488017972311616136051587427851453983453479168⟩)) (.t 21))<|
.P 23 (.conv (.toInt .i64) (.t 22))<|
.b 24 .add .none (.t 19) (.t 23)<|
.m 2 24<|
.nil)
 .ret)
def T290_3 (E:List (Nat × Blk)) (D:Den) (W:DrawFn) (a b:Int) (σ:H):Ans:=
 idxStrX (BS.mk 256 1013866857139168856493015739252390649739422828853819106890363778118420553376247557433637691341895324351018602695588957474325319502760499485336098898398377509666851054660423406800006203933793007272033180812049178612605246075062580585469430410618860250057463399279570354286669047577758927328864388992123306212451509403152394148136105363817402562688186708175358218852349079190158732807302672745370040257219644697201681238697346923541678507645485296520536209706771857694240900605172937619415410180424934769249448772944216470541052485265558808433676546390051204254346932932316488017972311616136051587427851453983453479168) (wrapF .u8 a) fun x1=>
 some ((V.int .i64 (addF .i64 b (wrapF .i64 x1))),σ)
def J290_3 (E:List (Nat × Blk)) (D:Den) (W:DrawFn) (N:Nat):=T290_3 E D W
def J290_2:=T290_2 E D W (J290_3 E D W N )
def J290_1:=T290_1 E D W (J290_2 E D W N )
def F290 (args:List V) (σ:H):Ans:=
 xcI .u64 args fun x3 l2=>
 rtNil l2 (
 T290_0 E D W (J290_1 E D W N ) x3 σ)
def A290:XFn:=⟨25,[(.int .u64)],[(.tmp 2)],(C290_0 (C290_1 (C290_2 C290_3)))⟩
theorem FE290 (args:List V) (σ:H):runX E D W N A290 args σ=F290 E D W N args σ:=by kernel_rfl
end
noncomputable section
def glob:Nat→Bool:=fun g=>Nat.blt g 2
theorem follows:Tryz.prog.follows .mixedOrders=true:=by kernel_rfl
def Is (f:Nat) (A:XFn):Prop:=∃fn,Tryz.prog.funcs[f]? = some fn∧compF Tryz.prog glob fn=some A.strip∧A.body.ok=true∧callOk Tryz.prog f=true
theorem Is.sound {f:Nat} {A:XFn} (h:Is f A) (E:List (Nat × Blk)) (D:Den) (hD:∀f,SoundFn Tryz.prog E glob f (D f)) (N:Nat):SoundFn Tryz.prog E glob f (runX E D (drawW E D) N A):=
 let ⟨_,h1,h2,h3,h4⟩:=h
 runX_ok hD (drawW_ok hD follows) follows N h1 h2 rfl h3 h4
theorem Is.sf {f:Nat} {A:XFn} (h:Is f A) {E:List (Nat × Blk)} {D:Den} (hD:∀f,SoundFn Tryz.prog E glob f (D f)) {N:Nat} {F:List V→H→Ans} (he:∀args σ,runX E D (drawW E D) N A args σ=F args σ):SoundFn Tryz.prog E glob f F:=by
 have h1:=h.sound E D hD N
 rwa [show runX E D (drawW E D) N A=F from funext fun a=>funext fun s=>he a s]at h1
abbrev Snd (f:Nat) (F:List (Nat × Blk)→Den→DrawFn→Nat→List V→H→Ans):Prop:=∀(E:List (Nat × Blk)) (D:Den),(∀f,SoundFn Tryz.prog E glob f (D f))→∀N,SoundFn Tryz.prog E glob f (F E D (drawW E D) N)
noncomputable def tab:List (Nat × Func):=[(11,Tryz.f11),(70,Tryz.f70),(84,Tryz.f84),(136,Tryz.f136),(154,Tryz.f154),(155,Tryz.f155),(158,Tryz.f158),(159,Tryz.f159),(160,Tryz.f160),(218,Tryz.f218),(223,Tryz.f223),(230,Tryz.f230),(231,Tryz.f231),(233,Tryz.f233),(239,Tryz.f239),(243,Tryz.f243),(249,Tryz.f249),(276,Tryz.f276),(279,Tryz.f279),(295,Tryz.f295),(301,Tryz.f301),(302,Tryz.f302),(310,Tryz.f310),(312,Tryz.f312),(313,Tryz.f313)]
theorem tab_is:∀p∈tab,Tryz.prog.funcs[p.1]? = some p.2∧callOk Tryz.prog p.1=true:=by
 unfold tab
 simp only[List.forall_mem_cons]
 exact⟨⟨Tryz.func11,by kernel_rfl⟩,
  ⟨Tryz.func70,by kernel_rfl⟩,
  ⟨Tryz.func84,by kernel_rfl⟩,
  ⟨Tryz.func136,by kernel_rfl⟩,
  ⟨Tryz.func154,by kernel_rfl⟩,
  ⟨Tryz.func155,by kernel_rfl⟩,
  ⟨Tryz.func158,by kernel_rfl⟩,
  ⟨Tryz.func159,by kernel_rfl⟩,
  ⟨Tryz.func160,by kernel_rfl⟩,
  ⟨Tryz.func218,by kernel_rfl⟩,
  ⟨Tryz.func223,by kernel_rfl⟩,
  ⟨Tryz.func230,by kernel_rfl⟩,
  ⟨Tryz.func231,by kernel_rfl⟩,
  ⟨Tryz.func233,by kernel_rfl⟩,
  ⟨Tryz.func239,by kernel_rfl⟩,
  ⟨Tryz.func243,by kernel_rfl⟩,
  ⟨Tryz.func249,by kernel_rfl⟩,
  ⟨Tryz.func276,by kernel_rfl⟩,
  ⟨Tryz.func279,by kernel_rfl⟩,
  ⟨Tryz.func295,by kernel_rfl⟩,
  ⟨Tryz.func301,by kernel_rfl⟩,
  ⟨Tryz.func302,by kernel_rfl⟩,
  ⟨Tryz.func310,by kernel_rfl⟩,
  ⟨Tryz.func312,by kernel_rfl⟩,
  ⟨Tryz.func313,by kernel_rfl⟩,fun _ h=>by cases h⟩
def lookA:List (Nat × Func)→Nat→Option Func:=fun l n=>List.rec none (fun p _ ih=>match Nat.beq p.1 n with | true=>some p.2 | false=>ih) l
theorem lookA_mem:∀(l:List (Nat × Func)) (n:Nat) (g:Func),lookA l n=some g→(n,g)∈l
 | [],n,g,h=>by cases h
 | p::l,n,g,h=>by
  have h':(match Nat.beq p.1 n with | true=>some p.2 | false=>lookA l n)=some g:=h
  cases hb:Nat.beq p.1 n with
  | true=>
   rw[hb]at h'
   simp only[Option.some.injEq]at h'
   have:=Nat.eq_of_beq_eq_true hb
   subst this;subst h'
   exact List.mem_cons_self
  | false=>
   rw[hb]at h'
   exact List.mem_cons_of_mem _ (lookA_mem l n g h')
theorem compC_strip (P:Program) (G:Nat→Bool) (n:Nat) (c:Code):(compC P G n c).strip=compC P G n c:=by
 fun_induction compC P G n c<;>simp_all[AC.strip]
theorem compF_strip {P:Program} {G:Nat→Bool} {fn:Func} {a:AFn} (h:compF P G fn=some a):a.strip=a:=by
 unfold compF at h
 split at h
 ·cases h
  unfold AFn.strip
  rw[compC_strip]
 ·cases h
theorem mkSF {f:Nat} {fn:Func} {A:XFn} {F:List (Nat × Blk)→Den→DrawFn→Nat→List V→H→Ans} (h1:Tryz.prog.funcs[f]? = some fn) (h2:compF Tryz.prog glob fn=some A.strip) (h3:(A.body.ok&&callOk Tryz.prog f)=true) (he:∀E D W N args σ,runX E D W N A args σ=F E D W N args σ):Snd f F:=fun E D hD N=>by
 rw[Bool.and_eq_true]at h3
 exact Is.sf (A:=A) ⟨fn,h1,h2,h3.1,h3.2⟩ hD (he E D (drawW E D) N)
theorem SF5:Snd 5 F5:=mkSF Tryz.func5 (by kernel_rfl) (by kernel_rfl) FE5
theorem SF12:Snd 12 F12:=mkSF Tryz.func12 (by kernel_rfl) (by kernel_rfl) FE12
theorem SF13:Snd 13 F13:=mkSF Tryz.func13 (by kernel_rfl) (by kernel_rfl) FE13
theorem SF14:Snd 14 F14:=mkSF Tryz.func14 (by kernel_rfl) (by kernel_rfl) FE14
theorem SF15:Snd 15 F15:=mkSF Tryz.func15 (by kernel_rfl) (by kernel_rfl) FE15
theorem SF16:Snd 16 F16:=mkSF Tryz.func16 (by kernel_rfl) (by kernel_rfl) FE16
theorem SF20:Snd 20 F20:=mkSF Tryz.func20 (by kernel_rfl) (by kernel_rfl) FE20
theorem SF22:Snd 22 F22:=mkSF Tryz.func22 (by kernel_rfl) (by kernel_rfl) FE22
theorem SF23:Snd 23 F23:=mkSF Tryz.func23 (by kernel_rfl) (by kernel_rfl) FE23
theorem SF24:Snd 24 F24:=mkSF Tryz.func24 (by kernel_rfl) (by kernel_rfl) FE24
theorem SF25:Snd 25 F25:=mkSF Tryz.func25 (by kernel_rfl) (by kernel_rfl) FE25
theorem SF26:Snd 26 F26:=mkSF Tryz.func26 (by kernel_rfl) (by kernel_rfl) FE26
theorem SF27:Snd 27 F27:=mkSF Tryz.func27 (by kernel_rfl) (by kernel_rfl) FE27
theorem SF28:Snd 28 F28:=mkSF Tryz.func28 (by kernel_rfl) (by kernel_rfl) FE28
theorem SF29:Snd 29 F29:=mkSF Tryz.func29 (by kernel_rfl) (by kernel_rfl) FE29
theorem SF34:Snd 34 F34:=mkSF Tryz.func34 (by kernel_rfl) (by kernel_rfl) FE34
theorem SF35:Snd 35 F35:=mkSF Tryz.func35 (by kernel_rfl) (by kernel_rfl) FE35
theorem SF36:Snd 36 F36:=mkSF Tryz.func36 (by kernel_rfl) (by kernel_rfl) FE36
theorem SF37:Snd 37 F37:=mkSF Tryz.func37 (by kernel_rfl) (by kernel_rfl) FE37
theorem SF38:Snd 38 F38:=mkSF Tryz.func38 (by kernel_rfl) (by kernel_rfl) FE38
theorem SF39:Snd 39 F39:=mkSF Tryz.func39 (by kernel_rfl) (by kernel_rfl) FE39
theorem SF40:Snd 40 F40:=mkSF Tryz.func40 (by kernel_rfl) (by kernel_rfl) FE40
theorem SF41:Snd 41 F41:=mkSF Tryz.func41 (by kernel_rfl) (by kernel_rfl) FE41
theorem SF45:Snd 45 F45:=mkSF Tryz.func45 (by kernel_rfl) (by kernel_rfl) FE45
theorem SF56:Snd 56 F56:=mkSF Tryz.func56 (by kernel_rfl) (by kernel_rfl) FE56
theorem SF57:Snd 57 F57:=mkSF Tryz.func57 (by kernel_rfl) (by kernel_rfl) FE57
theorem SF58:Snd 58 F58:=mkSF Tryz.func58 (by kernel_rfl) (by kernel_rfl) FE58
theorem SF59:Snd 59 F59:=mkSF Tryz.func59 (by kernel_rfl) (by kernel_rfl) FE59
theorem SF60:Snd 60 F60:=mkSF Tryz.func60 (by kernel_rfl) (by kernel_rfl) FE60
theorem SF62:Snd 62 F62:=mkSF Tryz.func62 (by kernel_rfl) (by kernel_rfl) FE62
theorem SF63:Snd 63 F63:=mkSF Tryz.func63 (by kernel_rfl) (by kernel_rfl) FE63
theorem SF64:Snd 64 F64:=mkSF Tryz.func64 (by kernel_rfl) (by kernel_rfl) FE64
theorem SF65:Snd 65 F65:=mkSF Tryz.func65 (by kernel_rfl) (by kernel_rfl) FE65
theorem SF66:Snd 66 F66:=mkSF Tryz.func66 (by kernel_rfl) (by kernel_rfl) FE66
theorem SF67:Snd 67 F67:=mkSF Tryz.func67 (by kernel_rfl) (by kernel_rfl) FE67
theorem SF68:Snd 68 F68:=mkSF Tryz.func68 (by kernel_rfl) (by kernel_rfl) FE68
theorem SF69:Snd 69 F69:=mkSF Tryz.func69 (by kernel_rfl) (by kernel_rfl) FE69
theorem SF71:Snd 71 F71:=mkSF Tryz.func71 (by kernel_rfl) (by kernel_rfl) FE71
theorem SF72:Snd 72 F72:=mkSF Tryz.func72 (by kernel_rfl) (by kernel_rfl) FE72
theorem SF74:Snd 74 F74:=mkSF Tryz.func74 (by kernel_rfl) (by kernel_rfl) FE74
theorem SF77:Snd 77 F77:=mkSF Tryz.func77 (by kernel_rfl) (by kernel_rfl) FE77
theorem SF85:Snd 85 F85:=mkSF Tryz.func85 (by kernel_rfl) (by kernel_rfl) FE85
theorem SF86:Snd 86 F86:=mkSF Tryz.func86 (by kernel_rfl) (by kernel_rfl) FE86
theorem SF117:Snd 117 F117:=mkSF Tryz.func117 (by kernel_rfl) (by kernel_rfl) FE117
theorem SF118:Snd 118 F118:=mkSF Tryz.func118 (by kernel_rfl) (by kernel_rfl) FE118
theorem SF119:Snd 119 F119:=mkSF Tryz.func119 (by kernel_rfl) (by kernel_rfl) FE119
theorem SF120:Snd 120 F120:=mkSF Tryz.func120 (by kernel_rfl) (by kernel_rfl) FE120
theorem SF121:Snd 121 F121:=mkSF Tryz.func121 (by kernel_rfl) (by kernel_rfl) FE121
theorem SF122:Snd 122 F122:=mkSF Tryz.func122 (by kernel_rfl) (by kernel_rfl) FE122
theorem SF123:Snd 123 F123:=mkSF Tryz.func123 (by kernel_rfl) (by kernel_rfl) FE123
theorem SF124:Snd 124 F124:=mkSF Tryz.func124 (by kernel_rfl) (by kernel_rfl) FE124
theorem SF125:Snd 125 F125:=mkSF Tryz.func125 (by kernel_rfl) (by kernel_rfl) FE125
theorem SF127:Snd 127 F127:=mkSF Tryz.func127 (by kernel_rfl) (by kernel_rfl) FE127
theorem SF131:Snd 131 F131:=mkSF Tryz.func131 (by kernel_rfl) (by kernel_rfl) FE131
theorem SF132:Snd 132 F132:=mkSF Tryz.func132 (by kernel_rfl) (by kernel_rfl) FE132
theorem SF137:Snd 137 F137:=mkSF Tryz.func137 (by kernel_rfl) (by kernel_rfl) FE137
theorem SF138:Snd 138 F138:=mkSF Tryz.func138 (by kernel_rfl) (by kernel_rfl) FE138
theorem SF139:Snd 139 F139:=mkSF Tryz.func139 (by kernel_rfl) (by kernel_rfl) FE139
theorem SF140:Snd 140 F140:=mkSF Tryz.func140 (by kernel_rfl) (by kernel_rfl) FE140
theorem SF141:Snd 141 F141:=mkSF Tryz.func141 (by kernel_rfl) (by kernel_rfl) FE141
theorem SF142:Snd 142 F142:=mkSF Tryz.func142 (by kernel_rfl) (by kernel_rfl) FE142
theorem SF143:Snd 143 F143:=mkSF Tryz.func143 (by kernel_rfl) (by kernel_rfl) FE143
theorem SF147:Snd 147 F147:=mkSF Tryz.func147 (by kernel_rfl) (by kernel_rfl) FE147
theorem SF148:Snd 148 F148:=mkSF Tryz.func148 (by kernel_rfl) (by kernel_rfl) FE148
theorem SF149:Snd 149 F149:=mkSF Tryz.func149 (by kernel_rfl) (by kernel_rfl) FE149
theorem SF151:Snd 151 F151:=mkSF Tryz.func151 (by kernel_rfl) (by kernel_rfl) FE151
theorem SF162:Snd 162 F162:=mkSF Tryz.func162 (by kernel_rfl) (by kernel_rfl) FE162
theorem SF182:Snd 182 F182:=mkSF Tryz.func182 (by kernel_rfl) (by kernel_rfl) FE182
theorem SF205:Snd 205 F205:=mkSF Tryz.func205 (by kernel_rfl) (by kernel_rfl) FE205
theorem SF206:Snd 206 F206:=mkSF Tryz.func206 (by kernel_rfl) (by kernel_rfl) FE206
theorem SF207:Snd 207 F207:=mkSF Tryz.func207 (by kernel_rfl) (by kernel_rfl) FE207
theorem SF208:Snd 208 F208:=mkSF Tryz.func208 (by kernel_rfl) (by kernel_rfl) FE208
theorem SF209:Snd 209 F209:=mkSF Tryz.func209 (by kernel_rfl) (by kernel_rfl) FE209
theorem SF210:Snd 210 F210:=mkSF Tryz.func210 (by kernel_rfl) (by kernel_rfl) FE210
theorem SF213:Snd 213 F213:=mkSF Tryz.func213 (by kernel_rfl) (by kernel_rfl) FE213
theorem SF214:Snd 214 F214:=mkSF Tryz.func214 (by kernel_rfl) (by kernel_rfl) FE214
theorem SF216:Snd 216 F216:=mkSF Tryz.func216 (by kernel_rfl) (by kernel_rfl) FE216
theorem SF220:Snd 220 F220:=mkSF Tryz.func220 (by kernel_rfl) (by kernel_rfl) FE220
theorem SF221:Snd 221 F221:=mkSF Tryz.func221 (by kernel_rfl) (by kernel_rfl) FE221
theorem SF234:Snd 234 F234:=mkSF Tryz.func234 (by kernel_rfl) (by kernel_rfl) FE234
theorem SF235:Snd 235 F235:=mkSF Tryz.func235 (by kernel_rfl) (by kernel_rfl) FE235
theorem SF236:Snd 236 F236:=mkSF Tryz.func236 (by kernel_rfl) (by kernel_rfl) FE236
theorem SF237:Snd 237 F237:=mkSF Tryz.func237 (by kernel_rfl) (by kernel_rfl) FE237
theorem SF238:Snd 238 F238:=mkSF Tryz.func238 (by kernel_rfl) (by kernel_rfl) FE238
theorem SF244:Snd 244 F244:=mkSF Tryz.func244 (by kernel_rfl) (by kernel_rfl) FE244
theorem SF260:Snd 260 F260:=mkSF Tryz.func260 (by kernel_rfl) (by kernel_rfl) FE260
theorem SF274:Snd 274 F274:=mkSF Tryz.func274 (by kernel_rfl) (by kernel_rfl) FE274
theorem SF289:Snd 289 F289:=mkSF Tryz.func289 (by kernel_rfl) (by kernel_rfl) FE289
theorem SF290:Snd 290 F290:=mkSF Tryz.func290 (by kernel_rfl) (by kernel_rfl) FE290
noncomputable def ftab:List (Nat × (List (Nat × Blk)→Den→DrawFn→Nat→List V→H→Ans)):=[(5,F5),(12,F12),(13,F13),(14,F14),(15,F15),(16,F16),(20,F20),(22,F22),(23,F23),(24,F24),(25,F25),(26,F26),(27,F27),(28,F28),(29,F29),(34,F34),(35,F35),(36,F36),(37,F37),(38,F38),(39,F39),(40,F40),(41,F41),(45,F45),(56,F56),(57,F57),(58,F58),(59,F59),(60,F60),(62,F62),(63,F63),(64,F64),(65,F65),(66,F66),(67,F67),(68,F68),(69,F69),(71,F71),(72,F72),(74,F74),(77,F77),(85,F85),(86,F86),(117,F117),(118,F118),(119,F119),(120,F120),(121,F121),(122,F122),(123,F123),(124,F124),(125,F125),(127,F127),(131,F131),(132,F132),(137,F137),(138,F138),(139,F139),(140,F140),(141,F141),(142,F142),(143,F143),(147,F147),(148,F148),(149,F149),(151,F151),(162,F162),(182,F182),(205,F205),(206,F206),(207,F207),(208,F208),(209,F209),(210,F210),(213,F213),(214,F214),(216,F216),(220,F220),(221,F221),(234,F234),(235,F235),(236,F236),(237,F237),(238,F238),(244,F244),(260,F260),(274,F274),(289,F289),(290,F290)]
noncomputable def BD (E:List (Nat × Blk)) (N:Nat) (D:Den):Den:=fun f=>match lookF ftab f with
 | some g=>g E D (drawW E D) N
 | none=>match lookA tab f with
  | some g=>(match compF Tryz.prog glob g with | some a=>runFn E D (drawW E D) N a | none=>fun _ _=>none)
  | none=>fun _ _=>none
theorem BD_ok (E:List (Nat × Blk)) (N:Nat) (D:Den) (hD:∀f,SoundFn Tryz.prog E glob f (D f)) (f:FuncId):SoundFn Tryz.prog E glob f (BD E N D f):=by
 have hall:∀p∈ftab,Snd p.1 p.2:=by
  unfold ftab
  simp only[List.forall_mem_cons]
  exact⟨SF5,SF12,SF13,SF14,SF15,SF16,SF20,SF22,SF23,SF24,SF25,SF26,SF27,SF28,SF29,SF34,SF35,SF36,SF37,SF38,SF39,SF40,SF41,SF45,SF56,SF57,SF58,SF59,SF60,SF62,SF63,SF64,SF65,SF66,SF67,SF68,SF69,SF71,SF72,SF74,SF77,SF85,SF86,SF117,SF118,SF119,SF120,SF121,SF122,SF123,SF124,SF125,SF127,SF131,SF132,SF137,SF138,SF139,SF140,SF141,SF142,SF143,SF147,SF148,SF149,SF151,SF162,SF182,SF205,SF206,SF207,SF208,SF209,SF210,SF213,SF214,SF216,SF220,SF221,SF234,SF235,SF236,SF237,SF238,SF244,SF260,SF274,SF289,SF290,fun _ h=>by cases h⟩
 unfold BD
 split
 ·rename_i g hg
  rw[lookF_eq]at hg
  exact hall _ (look_mem hg) E _ hD N
 ·split
  ·rename_i g hg
   have hq:=tab_is _ (lookA_mem _ _ _ hg)
   split
   ·rename_i a ha
    exact runFn_ok hD (drawW_ok hD follows) N hq.1 ha (compF_strip ha) hq.2
   ·intro C _ _ R σ w args xs v σ' h;cases h
  ·intro C _ _ R σ w args xs v σ' h;cases h
def DT (E:List (Nat × Blk)) (N:Nat) (d:Nat):Den:=Nat.rec (fun _ _ _=>none) (fun _ ih=>BD E N ih) d
theorem DT_ok (E:List (Nat × Blk)) (N:Nat):∀(d:Nat) (f:FuncId),SoundFn Tryz.prog E glob f (DT E N d f):=by
 intro d
 induction d with
 | zero=>intro f C _ _ R σ w args xs v σ' h;cases h
 | succ d ih=>exact BD_ok E N _ ih
theorem globLt:∀g,glob g=true→g<2:=fun g hg=>by simpa[glob]using hg
end
end Go.Proofs.YtgjjnbddbbhloaaGreatDoor
namespace Go.Og
noncomputable section
theorem ble_of {a b:Nat} (h:a≤b):Nat.ble a b=true:=by rw[Nat.ble_eq];exact h
def Atc (σ:H) (b:Nat) (l:List V):Prop:=lookF σ.bl b=some (.cells l)
def Tidy (σ:H):Prop:=∀b,σ.next≤b→lookF σ.bl b=none
structure Fr (S:Nat→Prop) (σ σ':H):Prop where
 tidy:Tidy σ'
 le:σ.next≤σ'.next
 same:∀b,b<σ.next→¬S b→lookF σ'.bl b=lookF σ.bl b
def Nowhere:Nat→Prop:=fun _=>False
def Names (v:V) (b:Nat):Prop:=match v with
 | .sl b' _ _ _=>b=b'
 | _=>False
section
variable {E:List (Nat × Blk)} {σ σ' σ'':H} {b b':Nat} {l m:List V} {S T:Nat→Prop}
theorem Atc.lt (h:Atc σ b l) (ht:Tidy σ):b<σ.next:=by
 rcases Nat.lt_or_ge b σ.next with hl|hl
 ·exact hl
 ·have:=ht b hl;rw[show lookF σ.bl b=some (.cells l)from h]at this;cases this
theorem Fr.refl (ht:Tidy σ):Fr S σ σ:=⟨ht,Nat.le_refl _,fun _ _ _=>rfl⟩
theorem Fr.mono (h:Fr S σ σ') (hs:∀b,b<σ.next→S b→T b):Fr T σ σ':=⟨h.tidy,h.le,fun b hb hn=>h.same b hb fun hS=>hn (hs b hb hS)⟩
theorem Fr.trans (h:Fr S σ σ') (k:Fr T σ' σ'') (hT:∀b,b<σ.next→T b→S b):Fr S σ σ'':=
 ⟨k.tidy,Nat.le_trans h.le k.le,fun b hb hn=>(k.same b (Nat.lt_of_lt_of_le hb h.le) fun hT'=>hn (hT b hb hT')).trans (h.same b hb hn)⟩
theorem Fr.at_ (h:Fr S σ σ') (ha:Atc σ b l) (ht:Tidy σ) (hn:¬S b):Atc σ' b l:=(h.same b (ha.lt ht) hn).trans ha
theorem lookF_setF (c:Blk) (k:Nat):lookF (setF σ b c).bl k=if b=k then some c else lookF σ.bl k:=by
 rw[lookF_eq,lookF_eq];exact look_setF σ b c k
theorem Atc_setF (m:List V):Atc (setF σ b (.cells m)) b m:=by
 show lookF _ _=_
 rw[lookF_setF,if_pos rfl]
theorem Fr.set (ht:Tidy σ) (hb:b<σ.next) (c:Blk):Fr (fun k=>k=b) σ (setF σ b c):=by
 refine⟨fun k hk=>?_,Nat.le_refl _,fun k hk hn=>?_⟩
 ·have hk':σ.next≤k:=hk
  rw[lookF_setF,if_neg (by omega)];exact ht k hk'
 ·rw[lookF_setF,if_neg (fun h=>hn h.symm)]
theorem Atc_newB (l:List V):Atc (newB σ (.cells l)) σ.next l:=by
 show lookF ((σ.next,Blk.cells l)::σ.bl) _=_
 rw[lookF_cons,if_pos rfl]
theorem Fr.new (ht:Tidy σ) (c:Blk):Fr S σ (newB σ c):=by
 refine⟨fun k hk=>?_,Nat.le_succ _,fun k hk hn=>?_⟩
 ·have hk':σ.next+1≤k:=hk
  show lookF ((σ.next,c)::σ.bl) _=_
  rw[lookF_cons,if_neg (by omega)];exact ht k (by omega)
 ·show lookF ((σ.next,c)::σ.bl) _=_
  rw[lookF_cons,if_neg (by omega)]
theorem rdK_at {κ:List V→Ans} (h:Atc σ b l):rdK E σ b κ=κ l:=by unfold rdK;rw[show lookF σ.bl b=some (.cells l)from h]
theorem nthK_of {κ:V→Ans} {o:Nat} {v:V} (h:nthF l o=some v):nthK l o κ=κ v:=by unfold nthK;rw[h]
theorem ldK_at {κ:V→Ans} {o:Nat} {v:V} (h:Atc σ b l) (hv:nthF l o=some v):ldK E σ b o κ=κ v:=(rdK_at h).trans (nthK_of hv)
theorem ldK_get {κ:V→Ans} {o:Nat} {v:V} (h:Atc σ b l) (hv:l[o]? = some v):ldK E σ b o κ=κ v:=ldK_at h (by rw[nthF_eq];exact hv)
theorem subK_of {κ:List V→Ans} {o n:Nat} (h:o+n≤l.length):subK l o n κ=κ ((l.drop o).take n):=by
 unfold subK;rw[show Nat.ble (Nat.add o n) l.length=true from ble_of h]
theorem chk_true {c:Bool} {a:Ans} (h:c=true):chk c a=a:=by rw[h];rfl
theorem stK_at {κ:H→Ans} {n o:Nat} {v:V} (h:Atc σ b l) (hc:(Nat.beq v.cells.length n&&Nat.ble (Nat.add o n) l.length&&allOne v.cells)=true):stK n b o v σ κ=κ (setF σ b (.cells (spl l o v.cells))):=by
 unfold stK;rw[show lookF σ.bl b=some (.cells l)from h];exact chk_true hc
theorem ltF_nat (m n:Nat):ltF (Int.ofNat m) (Int.ofNat n)=decide (m<n):=by
 rw[ltF_eq];simp
theorem leF_nat (m n:Nat):leF (Int.ofNat m) (Int.ofNat n)=decide (m≤n):=by
 rw[leF_eq];simp
theorem eqF_nat (m n:Nat):eqF (Int.ofNat m) (Int.ofNat n)=decide (m=n):=by
 rw[eqF_eq];rw[Bool.eq_iff_iff];simp only[beq_iff_eq,decide_eq_true_eq];exact⟨fun h=>Int.ofNat.inj h,fun h=>by rw[h]⟩
theorem wrapF_nat {k:IntKind} {m:Nat} (h:m≤maxN k):wrapF k (Int.ofNat m)=Int.ofNat m:=
 (wrapF_eq _ _).trans (wrap_in (show Nat.ble m (maxN k)=true from ble_of h))
theorem addF_nat {m n:Nat} (h:m+n≤9223372036854775807):addF .i64 (Int.ofNat m) (Int.ofNat n)=Int.ofNat (m+n):=by
 exact wrapF_nat (k := .i64) (m:=m+n) h
theorem subF_nat {m n:Nat} (h:n≤m) (hm:m≤9223372036854775807):subF .i64 (Int.ofNat m) (Int.ofNat n)=Int.ofNat (m-n):=by
 have e:Int.sub (Int.ofNat m) (Int.ofNat n)=Int.ofNat (m-n):=by
  show (m:Int)-(n:Int)=((m-n:Nat):Int)
  omega
 show wrapF .i64 (Int.sub (Int.ofNat m) (Int.ofNat n))=_
 rw[e]
 exact wrapF_nat (k := .i64) (show m-n≤9223372036854775807 by omega)
theorem idxStrX_nat {s:BS} {i:Nat} {κ:Int→Ans} (h:i<s.len):idxStrX s (Int.ofNat i) κ=κ (Int.ofNat (s.get i)):=by
 show chk (Nat.blt i s.len) _=_
 exact chk_true (by simpa[Nat.blt_eq]using h)
theorem sliceStrX_from {s:BS} {i:Nat} {κ:BS→Ans} (h:i≤s.len):sliceStrX s (some (.int .i64 (Int.ofNat i))) none κ=κ (s.sub i s.len):=by
 show chk (Nat.ble i s.len&&Nat.ble s.len s.len) _=_
 exact chk_true (by simp[Nat.ble_eq,h])
theorem sliceStrX_to {s:BS} {i:Nat} {κ:BS→Ans} (h:i≤s.len):sliceStrX s none (some (.int .i64 (Int.ofNat i))) κ=κ (s.sub 0 i):=by
 show chk (Nat.ble 0 i&&Nat.ble i s.len) _=_
 exact chk_true (by simp[Nat.ble_eq,h])
theorem sliceStrX_both {s:BS} {i j:Nat} {κ:BS→Ans} (h:i≤j) (hj:j≤s.len):sliceStrX s (some (.int .i64 (Int.ofNat i))) (some (.int .i64 (Int.ofNat j))) κ=κ (s.sub i j):=by
 show chk (Nat.ble i j&&Nat.ble j s.len) _=_
 exact chk_true (by simp[Nat.ble_eq,h,hj])
def Sl (σ:H) (esz k:Nat) (v:V) (l:List V):Prop:=(k=0∧v = .nils∧l=[])∨(∃b,v = .sl b 0 k (.op esz)∧Atc σ b l∧0<k∧l.length=k*esz)
theorem Sl.nil (σ:H) (esz:Nat):Sl σ esz 0 .nils [] := .inl ⟨rfl,rfl,rfl⟩
theorem Sl.length {esz k:Nat} {v:V} (h:Sl σ esz k v l):l.length=k*esz:=by
 rcases h with ⟨rfl,_,rfl⟩|⟨b,_,_,_,h⟩
 ·simp
 ·exact h
theorem Sl.fr {esz k:Nat} {v:V} (h:Sl σ esz k v l) (f:Fr S σ σ') (ht:Tidy σ) (hn:∀b,Names v b→¬S b):Sl σ' esz k v l:=by
 rcases h with h|⟨b,rfl,ha,hk,hl⟩
 ·exact .inl h
 ·exact .inr ⟨b,rfl,f.at_ ha ht (hn b rfl),hk,hl⟩
theorem Sl.one {esz k:Nat} {v:V} (h:Sl σ esz k v l):v.one=true:=by
 rcases h with ⟨_,rfl,_⟩|⟨b,rfl,_⟩<;>rfl
theorem Sl.slen {esz k:Nat} {v:V} {κ:Nat→Ans} (h:Sl σ esz k v l):slenK v κ=κ k:=by
 rcases h with ⟨rfl,rfl,_⟩|⟨b,rfl,_⟩<;>rfl
theorem Sl.lt {esz k:Nat} {v:V} (h:Sl σ esz k v l) (ht:Tidy σ) (hb:Names v b):b<σ.next:=by
 rcases h with ⟨_,rfl,_⟩|⟨c,rfl,ha,_⟩
 ·exact hb.elim
 ·cases hb;exact ha.lt ht
theorem srcK_ex {esz n xb xo:Nat} {c':Cap} {κ:Nat→List V→Ans} (h:Atc σ xb m) (hl:xo+n*esz≤m.length):srcK E σ esz (.sl xb xo n c') κ=κ n ((m.drop xo).take (n*esz)):=
 (rdK_at h).trans (subK_of hl)
theorem toStrK_sl {b o n:Nat} {c:Cap} {κ:BS→Ans}:toStrK E σ (.sl b o n c) κ=srcK E σ 1 (.sl b o n c) fun _ l=>match bytesOf l with | some s=>κ (BS.ofList s) | none=>none:=rfl
theorem rtOne_sl {b o n:Nat} {c:Cap} {a:Ans}:rtOne (.sl b o n c) a=a:=rfl
theorem iaddrSK_lt {esz b o n i:Nat} {c:Cap} {κ:Nat→Nat→Ans} (h:i<n):iaddrSK esz (.sl b o n c) (Int.ofNat i) κ=κ b (Nat.add o (Nat.mul i esz)):=by
 show chk (Nat.blt i n) _=_
 exact chk_true (by simpa[Nat.blt_eq]using h)
theorem lookF_drop (l:List (Nat × Blk)) (id id':Nat):lookF (drop l id) id'=if id=id' then none else lookF l id':=by
 rw[lookF_eq,lookF_eq];exact look_drop l id id'
end
theorem rtInt_int (k:IntKind) (n:Int) (κ:Int→Ans):rtInt k (.int k n) κ=κ n:=by simp[rtInt]
theorem rtBool_bool (b:Bool) (κ:Bool→Ans):rtBool (.bool b) κ=κ b:=rfl
theorem rtStr_str (s:BS) (κ:BS→Ans):rtStr (.str s) κ=κ s:=rfl
theorem rtPtr_ptr (b o:Nat) (κ:Nat→Nat→Ans):rtPtr (.ptr b o) κ=κ b o:=rfl
theorem rtAgg_agg (l:List V) (κ:List V→Ans):rtAgg (.agg l) κ=κ l:=rfl
theorem rtTup_tup (l:List V) (κ:List V→Ans):rtTup (.tup l) κ=κ l:=rfl
theorem rtCons_cons (v:V) (l:List V) (κ:V→List V→Ans):rtCons (v::l) κ=κ v l:=rfl
theorem rtNil_nil (a:Ans):rtNil [] a=a:=rfl
theorem callK_some_ (v:V) (σ:H) (κ:V→H→Ans):callK (some (v,σ)) κ=κ v σ:=rfl
def BS.nats (s:BS):List Nat:=s.toList.map UInt8.toNat
theorem BS.length_nats (s:BS):s.nats.length=s.len:=by simp[BS.nats,BS.length_toList]
theorem BS.nats_get {s:BS} {i:Nat} (h:i<s.len):s.nats[i]? = some (s.get i):=by
 simp only[BS.nats,List.getElem?_map,BS.getElem?_toList,if_pos h,Option.map_some,UInt8.toNat_ofNat']
 rw[Nat.mod_eq_of_lt (s.get_lt i)]
theorem BS.nats_lt (s:BS):∀c∈s.nats,c<256:=by
 intro c hc
 simp only[BS.nats,List.mem_map]at hc
 obtain⟨u,_,rfl⟩:=hc
 exact u.toNat_lt
theorem BS.nats_cat (a b:BS):(a.cat b).nats=a.nats++b.nats:=by simp[BS.nats,BS.toList_cat]
theorem BS.nats_sub {s:BS} {lo hi:Nat} (h:hi≤s.len):(s.sub lo hi).nats=(s.nats.drop lo).take (hi-lo):=by
 simp[BS.nats,BS.toList_sub h]
theorem nats_inj {l m:List UInt8} (h:l.map UInt8.toNat=m.map UInt8.toNat):l=m:=by
 have hm:=congrArg (List.map UInt8.ofNat) h
 simpa[List.map_map,Function.comp_def]using hm
theorem BS.beq_nats (a b:BS):a.beq b=decide (a.nats=b.nats):=by
 rw[BS.beq_eq]
 rw[Bool.eq_iff_iff]
 simp only[decide_eq_true_eq]
 exact⟨fun h=>by rw[BS.nats,h,←BS.nats],fun h=>nats_inj h⟩
def BS.canon (s:BS):Prop:=s.val<2 ^ (8*s.len)
theorem BS.canon_low {s:BS} (h:s.canon):s.low=s.val:=Nat.mod_eq_of_lt h
theorem BS.canon_ext {a b:BS} (ha:a.canon) (hb:b.canon) (h:a.nats=b.nats):a=b:=by
 have ht:=nats_inj h
 obtain⟨hl,hg⟩:=BS.get_eq ht
 have:=(BS.low_eq hl).2 hg
 rw[BS.canon_low ha,BS.canon_low hb]at this
 cases a;cases b
 simp only[]at hl this
 subst hl;subst this;rfl
theorem BS.sub_canon (s:BS) (lo hi:Nat):(s.sub lo hi).canon:=Nat.mod_lt _ (Nat.pow_pos (by decide))
def ofN:List Nat→BS
 | []=>⟨0,0⟩
 | c::l=>⟨Nat.succ (ofN l).len,Nat.add c (Nat.mul 256 (ofN l).val)⟩
theorem ofN_eq:∀{l:List Nat},(∀c∈l,c<256)→ofN l=BS.ofList (l.map UInt8.ofNat)
 | [],_=>rfl
 | c::l,h=>by
  have hc:(UInt8.ofNat c).toNat=c:=by simp only[UInt8.toNat_ofNat'];exact Nat.mod_eq_of_lt (h c (by simp))
  have ih:=ofN_eq (l:=l) (fun d hd=>h d (List.mem_cons_of_mem _ hd))
  show BS.mk (Nat.succ (ofN l).len) (Nat.add c (Nat.mul 256 (ofN l).val))=BS.mk (Nat.succ (BS.ofList (l.map UInt8.ofNat)).len) (Nat.add (UInt8.ofNat c).toNat (Nat.mul 256 (BS.ofList (l.map UInt8.ofNat)).val))
  rw[ih,hc]
theorem ofN_len:∀l:List Nat,(ofN l).len=l.length
 | []=>rfl
 | c::l=>by simp[ofN,ofN_len l]
theorem ofN_nats {l:List Nat} (h:∀c∈l,c<256):(ofN l).nats=l:=by
 rw[ofN_eq h]
 apply List.ext_getElem?
 intro i
 by_cases hi:i<l.length
 ·have hl:(BS.ofList (l.map UInt8.ofNat)).len=l.length:=by rw[BS.len_ofList,List.length_map]
  rw[BS.nats_get (by omega)]
  have hc:(l.map UInt8.ofNat)[i]? = some (UInt8.ofNat l[i]):=by simp[hi]
  rw[BS.get_ofList _ _ _ hc]
  simp only[UInt8.toNat_ofNat',List.getElem?_eq_getElem hi]
  rw[Nat.mod_eq_of_lt (h _ (List.getElem_mem hi))]
 ·rw[List.getElem?_eq_none (by rw[BS.length_nats,BS.len_ofList,List.length_map];omega),List.getElem?_eq_none (by omega)]
theorem ofN_canon:∀{l:List Nat},(∀c∈l,c<256)→(ofN l).canon
 | [],_=>by show 0<2 ^ (8*0);decide
 | c::l,h=>by
  have ih:(ofN l).val<2 ^ (8*(ofN l).len):=ofN_canon (fun d hd=>h d (by simp[hd]))
  have hc:=h c (by simp)
  show c+256*(ofN l).val<2 ^ (8*((ofN l).len+1))
  have e:2 ^ (8*((ofN l).len+1))=256*2 ^ (8*(ofN l).len):=by
   rw[Nat.mul_add,Nat.pow_add];simp[Nat.mul_comm]
  rw[e];omega
theorem sub_ofN {s:BS} {lo hi:Nat} (h:hi≤s.len):s.sub lo hi=ofN ((s.nats.drop lo).take (hi-lo)):=by
 have hb:∀c∈(s.nats.drop lo).take (hi-lo),c<256:=fun c hc=>s.nats_lt c (List.mem_of_mem_drop (List.mem_of_mem_take hc))
 exact BS.canon_ext (s.sub_canon lo hi) (ofN_canon hb) (by rw[BS.nats_sub h,ofN_nats hb])
def Rst (s:BS) (i:Nat) (r:List Nat):Prop:=i≤s.len∧s.nats.drop i=r
section
variable {s:BS} {i:Nat} {r:List Nat}
theorem Rst.start (s:BS):Rst s 0 s.nats:=⟨Nat.zero_le _,rfl⟩
theorem Rst.len (h:Rst s i r):i+r.length=s.len:=by
 have:=congrArg List.length h.2
 rw[List.length_drop,BS.length_nats]at this
 have:=h.1;omega
theorem Rst.bd (h:Rst s i r):∀c∈r,c<256:=fun c hc=>s.nats_lt c (List.mem_of_mem_drop (h.2 ▸ hc))
theorem Rst.drop (h:Rst s i r) {k:Nat} (hk:k≤r.length):Rst s (i+k) (r.drop k):=by
 refine⟨by have:=h.len;omega,?_⟩
 rw[←h.2,List.drop_drop]
theorem Rst.tail {c:Nat} (h:Rst s i (c::r)):Rst s (i+1) r:=h.drop (k:=1) (by simp)
theorem Rst.get? (h:Rst s i r) (k:Nat):r[k]? = if i+k<s.len then some (s.get (i+k))else none:=by
 rw[←h.2,List.getElem?_drop]
 by_cases hk:i+k<s.len
 ·rw[if_pos hk,BS.nats_get hk]
 ·rw[if_neg hk,List.getElem?_eq_none (by rw[BS.length_nats];omega)]
theorem Rst.getD_lt (h:Rst s i r) {k:Nat} (hk:i+k<s.len):r.getD k 0=s.get (i+k):=by
 rw[List.getD_eq_getElem?_getD,h.get?,if_pos hk];rfl
theorem Rst.sub (h:Rst s i r) {k:Nat} (hk:k≤r.length):s.sub i (i+k)=ofN (r.take k):=by
 have:=h.len
 rw[sub_ofN (by omega),h.2,Nat.add_sub_cancel_left]
theorem Rst.subAll (h:Rst s i r):s.sub i s.len=ofN r:=by
 have:=h.len
 rw[show s.len=i+r.length by omega,h.sub (Nat.le_refl _),List.take_length]
end
end
end Go.Og
namespace Go.Og
noncomputable section
section
variable {E:List (Nat × Blk)} {D:Den} {n0 n i:Nat} {o:AOper} {l:List AOper} {p:DP} {pl:List DP} {s:DS} {v:V}
theorem dsteps_p (hg:o.guard=none) (hc:o.op.cls = .p) (hv:aopP o.op (restr p.looks s.e)=some v) :
  dsteps E D n0 n i (o::l) (p::pl) s=dsteps E D n0 n (i+1) l pl { s with e:=putE s.e o.dst v }:=by
 have h:dstep E D n0 n i o p s=some { s with e:=putE s.e o.dst v }:=by unfold dstep;rw[hg];simp only[wantedA,hc,hv]
 show (match dstep E D n0 n i o p s with | none=>none | some s'=>dsteps E D n0 n (i+1) l pl s')=_
 rw[h]
theorem dsteps_l {h:List (Nat × Blk)} {ss:List (List (Nat × Blk))} (hg:o.guard=none) (hc:o.op.cls = .l) (hs:s.ss=h::ss) (hv:aopL E o.op (restr p.looks s.e) ⟨s.nx,hideB n0 n (visK p.anc s.am) h⟩=some v) :
  dsteps E D n0 n i (o::l) (p::pl) s=dsteps E D n0 n (i+1) l pl { s with e:=putE s.e o.dst v,ls:=(i,o.op,restr p.looks s.e,v)::s.ls }:=by
 have h:dstep E D n0 n i o p s=some { s with e:=putE s.e o.dst v,ls:=(i,o.op,restr p.looks s.e,v)::s.ls }:=by unfold dstep;rw[hg];simp only[wantedA,hc,hs,hv]
 show (match dstep E D n0 n i o p s with | none=>none | some s'=>dsteps E D n0 n (i+1) l pl s')=_
 rw[h]
theorem dsteps_a {b:Blk} (hg:o.guard=none) (hc:o.op.cls = .a) (hv:aopA o.op (restr p.looks s.e) (n0+i)=some (v,b)) :
  dsteps E D n0 n i (o::l) (p::pl) s=dsteps E D n0 n (i+1) l pl { s with e:=putE s.e o.dst v,ss:=s.ss.map ((n0+i,b)::·),am:=s.am ||| 2 ^ i }:=by
 have h:dstep E D n0 n i o p s=some { s with e:=putE s.e o.dst v,ss:=s.ss.map ((n0+i,b)::·),am:=s.am ||| 2 ^ i }:=by unfold dstep;rw[hg];simp only[wantedA,hc,hv]
 show (match dstep E D n0 n i o p s with | none=>none | some s'=>dsteps E D n0 n (i+1) l pl s')=_
 rw[h]
theorem dsteps_a' {b:Blk} {id am':Nat} (hg:o.guard=none) (hc:o.op.cls = .a) (hid:n0+i=id) (ham:s.am ||| 2 ^ i=am') (hv:aopA o.op (restr p.looks s.e) id=some (v,b)) :
  dsteps E D n0 n i (o::l) (p::pl) s=dsteps E D n0 n (i+1) l pl { s with e:=putE s.e o.dst v,ss:=s.ss.map ((id,b)::·),am:=am' }:=by
 subst hid;subst ham
 exact dsteps_a hg hc hv
theorem dsteps_k {h:List (Nat × Blk)} {ss:List (List (Nat × Blk))} {σ':H} (hg:o.guard=none) (hc:o.op.cls = .k) (hs:s.ss=h::ss) (hv:den1 E D o.op (restr p.looks s.e) ⟨s.nx,hideB n0 n (visK p.anc s.am) h⟩=some (v,σ')) :
  dsteps E D n0 n i (o::l) (p::pl) s=dsteps E D n0 n (i+1) l pl { s with e:=putE s.e o.dst v,nx:=σ'.next,ss:=(keepB n0 n (visK p.anc s.am) h++σ'.bl)::s.ss,ks:=i::s.ks }:=by
 have h:dstep E D n0 n i o p s=some { s with e:=putE s.e o.dst v,nx:=σ'.next,ss:=(keepB n0 n (visK p.anc s.am) h++σ'.bl)::s.ss,ks:=i::s.ks }:=by unfold dstep;rw[hg];simp only[wantedA,hc,hs,hv]
 show (match dstep E D n0 n i o p s with | none=>none | some s'=>dsteps E D n0 n (i+1) l pl s')=_
 rw[h]
theorem dsteps_nil:dsteps E D n0 n i [] pl s=some s:=by cases pl<;>rfl
theorem drawW_of {ops:List AOper} {e:Env} {σ:H} {h:List (Nat × Blk)} {ss:List (List (Nat × Blk))} (hd:dsteps E D σ.next ops.length 0 ops pl ⟨e,σ.next+ops.length,[σ.bl],[],0,[]⟩=some s)
  (hl:s.ls.all (fun(j,op,em,v)=>checkL E σ.next ops.length pl s.am j op em v s.ss s.ks [])=true) (hs:s.ss=h::ss) :
  drawW E D ops pl e σ=some (s.e,⟨s.nx,hideB σ.next ops.length (fun k=>s.am.testBit k) h⟩):=by
 unfold drawW
 rw[hd]
 show (if s.ls.all (fun(j,op,em,v)=>checkL E σ.next ops.length pl s.am j op em v s.ss s.ks [])=true then _ else none)=_
 rw[if_pos hl,hs]
end
section
variable {E:List (Nat × Blk)} {n0 n am j:Nat} {pl:List DP} {op:AOp} {em:Env} {v:V} {h:List (Nat × Blk)} {ss:List (List (Nat × Blk))} {k:Nat} {ks more:List Nat}
theorem check_skip (hl:legal pl j (k::ks) more=false):checkL E n0 n pl am j op em v (h::ss) (k::ks) more=checkL E n0 n pl am j op em v ss ks (k::more):=by
 show ((!legal pl j (k::ks) more || _)&&checkL E n0 n pl am j op em v ss ks (k::more))=_
 rw[hl];rfl
end
section
variable {n0 n:Nat} {p:Nat→Bool} {l:List (Nat × Blk)}
theorem hideB_id:∀{l:List (Nat × Blk)},(∀id,n0≤id→id<n0+n→look l id=none)→hideB n0 n p l=l
 | [],_=>rfl
 | (k,b)::l,h=>by
  have hk:¬(n0≤k∧k<n0+n):=fun⟨h1,h2⟩=>by
   have:=h k h1 h2
   simp[look]at this
  have hc:(Nat.ble n0 k&&Nat.blt k (n0+n) && !p (k-n0))=false:=by
   cases hb:(Nat.ble n0 k&&Nat.blt k (n0+n) && !p (k-n0))with
   | false=>rfl
   | true=>simp only[Bool.and_eq_true,Nat.ble_eq,Nat.blt_eq]at hb;exact(hk hb.1).elim
  unfold hideB
  rw[hc]
  simp only[Bool.false_eq_true,if_false]
  rw[hideB_id]
  intro id h1 h2
  have:=h id h1 h2
  simp only[look]at this
  split at this
  ·cases this
  ·exact this
theorem keepB_id:∀{l:List (Nat × Blk)},(∀id,n0≤id→id<n0+n→look l id=none)→keepB n0 n p l=[]
 | [],_=>rfl
 | (k,b)::l,h=>by
  have hk:¬(n0≤k∧k<n0+n):=fun⟨h1,h2⟩=>by
   have:=h k h1 h2
   simp[look]at this
  have hc:(Nat.ble n0 k&&Nat.blt k (n0+n) && !p (k-n0))=false:=by
   cases hb:(Nat.ble n0 k&&Nat.blt k (n0+n) && !p (k-n0))with
   | false=>rfl
   | true=>simp only[Bool.and_eq_true,Nat.ble_eq,Nat.blt_eq]at hb;exact(hk hb.1).elim
  unfold keepB
  rw[hc]
  simp only[Bool.false_eq_true,if_false]
  rw[keepB_id]
  intro id h1 h2
  have:=h id h1 h2
  simp only[look]at this
  split at this
  ·cases this
  ·exact this
theorem hide_keep:∀{l:List (Nat × Blk)},(∀i,i<n→p i=false→look l (n0+i)=none)→hideB n0 n p l=l∧keepB n0 n p l=[]
 | [],_=>⟨rfl,rfl⟩
 | (k,b)::l,h=>by
  have hc:(Nat.ble n0 k&&Nat.blt k (n0+n) && !p (k-n0))=false:=by
   cases hb:(Nat.ble n0 k&&Nat.blt k (n0+n) && !p (k-n0))with
   | false=>rfl
   | true=>
    exfalso
    simp only[Bool.and_eq_true,Nat.ble_eq,Nat.blt_eq,Bool.not_eq_true']at hb
    have:=h (k-n0) (by omega) hb.2
    rw[show n0+(k-n0)=k by omega]at this
    simp[look]at this
  have ih:=hide_keep (l:=l) (fun i hi hp=>by
   have:=h i hi hp
   simp only[look]at this
   split at this
   ·cases this
   ·exact this)
  unfold hideB keepB
  rw[hc]
  simp only[Bool.false_eq_true,if_false]
  exact⟨by rw[ih.1],ih.2⟩
theorem Tidy.gap {σ:H} (h:Tidy σ) (n:Nat):∀id,σ.next≤id→id<σ.next+n→look σ.bl id=none:=fun id h1 _=>by
 have:=h id h1;rwa [lookF_eq]at this
theorem Tidy.wide {σ:H} (h:Tidy σ) (n:Nat):Tidy ⟨σ.next+n,σ.bl⟩:=fun b hb=>h b (by have:σ.next+n≤b:=hb;omega)
theorem Fr.wide {S:Nat→Prop} {σ σ':H} {n:Nat} (f:Fr S ⟨σ.next+n,σ.bl⟩ σ'):Fr S σ σ':=
 ⟨f.tidy,by have:σ.next+n≤σ'.next:=f.le;omega,fun b hb hn=>f.same b (show b<σ.next+n by omega) hn⟩
theorem Fr.gap {S:Nat→Prop} {σ σ':H} {n:Nat} (f:Fr S ⟨σ.next+n,σ.bl⟩ σ') (ht:Tidy σ) (hS:∀b,S b→b<σ.next):∀id,σ.next≤id→id<σ.next+n→look σ'.bl id=none:=fun id h1 h2=>by
 have:=f.same id h2 (fun hs=>by have:=hS id hs;omega)
 rw[←lookF_eq,this]
 exact ht id h1
theorem look_hide_old {id:Nat} (h:id<n0):look (hideB n0 n p l) id=look l id:=by
 rw[look_hideB,if_neg (by omega)]
theorem look_hide_kept {i:Nat} (h:p i=true):look (hideB n0 n p l) (n0+i)=look l (n0+i):=by
 rw[look_hideB,if_neg]
 rintro⟨_,_,h2⟩
 rw[Nat.add_sub_cancel_left,h]at h2
 cases h2
theorem look_hide_new {id:Nat} (h:n0+n≤id):look (hideB n0 n p l) id=look l id:=by
 rw[look_hideB,if_neg (by omega)]
theorem look_cons_ne {α:Type} {k id:Nat} {b:α} {l:List (Nat × α)} (h:k≠id):look ((k,b)::l) id=look l id:=by simp[look,h]
theorem look_cons_eq {α:Type} {k:Nat} {b:α} {l:List (Nat × α)}:look ((k,b)::l) k=some b:=by simp[look]
theorem load_of {E:List (Nat × Blk)} {x:AO} {e:Env} {b off nx:Nat} {h:List (Nat × Blk)} {c:List V} {v:V} (hx:opv e x = .ptr b off) (hl:look h b=some (.cells c)) (hv:c[off]? = some v) :
  aopL E (.load none x) e ⟨nx,h⟩=some v:=by
 unfold aopL
 simp only[hx,rd,hl,hv]
end
section
variable {E:List (Nat × Blk)} {D:Den} {n0 n i:Nat} {d:Option Nat} {o:AOp} {l:List AOper} {anc:Nat} {lk:List Nat} {pl:List DP} {e:Env} {nx am:Nat} {ss:List (List (Nat × Blk))} {h:List (Nat × Blk)} {ks:List Nat} {ls:List (Nat × AOp × Env × V)}
theorem dp (v:V) (hc:o.cls = .p) (hv:aopP o (restr lk e)=some v):dsteps E D n0 n i (⟨d,o,none⟩::l) (⟨anc,lk⟩::pl) ⟨e,nx,ss,ks,am,ls⟩=dsteps E D n0 n (i+1) l pl ⟨putE e d v,nx,ss,ks,am,ls⟩:=
 dsteps_p rfl hc hv
theorem dl (v:V) (hc:o.cls = .l) (hv:aopL E o (restr lk e) ⟨nx,hideB n0 n (visK anc am) h⟩=some v):dsteps E D n0 n i (⟨d,o,none⟩::l) (⟨anc,lk⟩::pl) ⟨e,nx,h::ss,ks,am,ls⟩=dsteps E D n0 n (i+1) l pl ⟨putE e d v,nx,h::ss,ks,am,(i,o,restr lk e,v)::ls⟩:=
 dsteps_l rfl hc rfl hv
theorem da (v:V) (b:Blk) (id am':Nat) (hc:o.cls = .a) (hid:n0+i=id) (ham:am ||| 2 ^ i=am') (hv:aopA o (restr lk e) id=some (v,b)):dsteps E D n0 n i (⟨d,o,none⟩::l) (⟨anc,lk⟩::pl) ⟨e,nx,ss,ks,am,ls⟩=dsteps E D n0 n (i+1) l pl ⟨putE e d v,nx,ss.map ((id,b)::·),ks,am',ls⟩:=
 dsteps_a' rfl hc hid ham hv
theorem dk (v:V) (nx':Nat) (bl':List (Nat × Blk)) (hc:o.cls = .k) (hk:hideB n0 n (visK anc am) h=h∧keepB n0 n (visK anc am) h=[]) (hv:den1 E D o (restr lk e) ⟨nx,h⟩=some (v,⟨nx',bl'⟩)):dsteps E D n0 n i (⟨d,o,none⟩::l) (⟨anc,lk⟩::pl) ⟨e,nx,h::ss,ks,am,ls⟩=dsteps E D n0 n (i+1) l pl ⟨putE e d v,nx',bl'::h::ss,i::ks,am,ls⟩:=by
 have:=dsteps_k (E:=E) (D:=D) (n0:=n0) (n:=n) (i:=i) (o:=⟨d,o,none⟩) (l:=l) (p:=⟨anc,lk⟩) (pl:=pl) (s:=⟨e,nx,h::ss,ks,am,ls⟩) (v:=v) (σ':=⟨nx',bl'⟩) rfl hc rfl (by show den1 E D o (restr lk e) ⟨nx,hideB n0 n (visK anc am) h⟩=_;rw[hk.1];exact hv)
 rw[this]
 show dsteps E D n0 n (i+1) l pl ⟨putE e d v,nx',(keepB n0 n (visK anc am) h++bl')::h::ss,i::ks,am,ls⟩=_
 rw[hk.2];rfl
end
end
end Go.Og
