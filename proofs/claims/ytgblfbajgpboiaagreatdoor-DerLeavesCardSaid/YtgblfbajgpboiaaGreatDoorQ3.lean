/- What the last text leans on, part 4 of 6: merged out of smaller texts. No condition. -/
import Derived.KernelRfl
import Derived.Test.YtgblfbajgpboiaaGreatDoorProg
import Derived.Test.YtgblfbajgpboiaaGreatDoorQ2
set_option linter.all false
set_option maxRecDepth 100000
set_option maxHeartbeats 0
namespace Go.Proofs.YtgblfbajgpboiaaGreatDoor
open Go Go.Og
noncomputable section
variable (E:List (Nat × Blk)) (D:Den) (W:DrawFn) (N:Nat)
def C30_0 (cc1:XC) (cc2:XC):XC:=(.z (.P 6 (.box 37 (.t 2))<|
.c 8 y1<|
.nil)
 (.seq (.z (.m 10 1<|
.b 11 .lss .none (.t 10) (.i 0)<|
.m 12 11<|
.gO 12 false (.p 13 [1,12] y15<|
.p 14 [0,12] y13<|
.p 15 [14,12] (.nilck (.t 14))<|
.p 16 [15,12] (.faddr 0 (.t 15))<|
.p 17 [16,12] (.faddr 0 (.t 16))<|
.p 18 [17,12] (.faddr 3 (.t 17))<|
.p 19 [18,12] (.load none (.t 18))<|
.p 20 [19,12] (.len false (.t 19))<|
.p 21 [13,20,12] (.bin .geq .none (.t 13) (.t 20))<|
.nil) 22 12 21<|
.m 23 22<|
.gO 23 false (.p 24 [3,23] (.mov (.t 3))<|
.p 25 [24,23] (.bin .gtr .none (.t 24) (.i 17))<|
.nil) 26 23 25<|
.nil)
 (.cond (.tmp 26) (.z (.c 8 y1<|
.nil)
 .ret)
 .skip))
 (.z (.m 27 0<|
.n 28 27<|
.f 29 0 28<|
.f 30 0 29<|
.f 31 3 30<|
.l 32 .any 31<|
.m 33 1<|
.s 34 13 32 33<|
.O 35 (.agg y7) (.load (some 13) (.t 34))<|
.pal 9 [] 99 [y0,V.nils,y1,y1,y1,y1,y0,y0,V.nils,V.nils,y0,y1,y0]<|
.op none (.agg y7) [9,35] (.store 13 (.t 9) (.t 35))<|
.nil)
 (.seq (.z (.f 36 0 6<|
.l 37 .i 36<|
.b 38 .eql .none (.t 37) (.i 12)<|
.nil)
 (.cond (.tmp 38) (.z (.m 39 0<|
.m 40 1<|
.O 41 y2 (.load (some 6) (.t 6))<|
.k 42 .bool 50 [(.t 39),(.t 40),(.t 41)]<|
.m 8 42<|
.nil)
 .ret)
 .skip))
 (.seq (.z (.f 43 0 6<|
.l 44 .i 43<|
.f 45 0 9<|
.l 46 .i 45<|
.b 47 .neq .none (.t 44) (.t 46)<|
.nil)
 (.cond (.tmp 47) (.z (.c 8 y1<|
.nil)
 .ret)
 .skip))
 (.seq (.z (.f 48 0 9<|
.l 49 .i 48<|
.nil)
 (.block 0 (.z (.b 51 .eql .none (.t 49) (.i 1)<|
.m 50 51<|
.nil)
 (.cond (.tmp 50) (.z (.O 52 y2 (.load (some 6) (.t 6))<|
.k 53 .bool 51 [(.t 52),(.i 1)]<|
.m 54 53<|
.gA 54 true (.p 55 [6,54] y25<|
.op (some 56) .i [55,54] (.load none (.t 55))<|
.p 57 [56,54] (.bin .eql .none (.t 56) (.i 0))<|
.p 58 [57,54] (.mov (.t 57))<|
.grp 58 false (.p 59 [6,58] y25<|
.op (some 60) .i [59,58] (.load none (.t 59))<|
.p 61 [60,58] (.bin .eql .none (.t 60) (.i 1))<|
.nil) 62 [58,61,54] (.t 58) y11 (.t 61)<|
.nil) 63 54 62<|
.m 8 63<|
.nil)
 .ret)
 (.z (.b 65 .eql .none (.t 49) (.i 2)<|
.m 64 65<|
.nil)
 (.cond (.tmp 64) (.z (.O 66 y2 (.load (some 6) (.t 6))<|
.k 67 .bool 51 [(.t 66),(.i 1)]<|
.m 68 67<|
.gA 68 true (.p 69 [9,68] (.faddr 2 (.t 9))<|
.p 70 [69,68] (.faddr 3 (.t 69))<|
.op (some 71) .bool [70,68] (.load none (.t 70))<|
.p 72 [71,68] (.mov (.t 71))<|
.grp 72 false (.p 73 [9,72] (.faddr 2 (.t 9))<|
.op (some 74) y4 [73,72] (.load (some 6) (.t 73))<|
.p 75 [6,72] y25<|
.op (some 76) .i [75,72] (.load none (.t 75))<|
.op (some 77) .bool [74,76,72] (.call 52 [(.t 74),(.t 76)])<|
.nil) 78 [72,77,68] (.t 72) y11 (.t 77)<|
.nil) 79 68 78<|
.m 8 79<|
.nil)
 .ret)
 (.z (.b 81 .eql .none (.t 49) (.i 3)<|
.m 80 81<|
.nil)
 (.cond (.tmp 80) (.z (.O 82 y2 (.load (some 6) (.t 6))<|
.k 83 .bool 51 [(.t 82),(.i 1)]<|
.m 84 83<|
.gA 84 true (.op (some 85) (.agg y7) [9,84] (.load (some 13) (.t 9))<|
.p 86 [6,84] y25<|
.op (some 87) .i [86,84] (.load none (.t 86))<|
.op (some 88) .i [85,87,84] (.call 53 [(.t 85),(.t 87)])<|
.p 89 [88,84] (.bin .geq .none (.t 88) (.i 0))<|
.nil) 90 84 89<|
.m 8 90<|
.nil)
 .ret)
 (.z (.b 92 .eql .none (.t 49) (.i 4)<|
.m 91 92<|
.nil)
 (.cond (.tmp 91) (.z (.O 93 y2 (.load (some 6) (.t 6))<|
.k 94 .bool 51 [(.t 93),(.i 0)]<|
.m 8 94<|
.nil)
 .ret)
 (.seq (.z (.b 96 .eql .none (.t 49) (.i 5)<|
.m 95 96<|
.nil)
 (.cond (.tmp 95) .skip
 (.ops (.b 97 .eql .none (.t 49) (.i 6)<|
.m 95 97<|
.nil))))
 (.keep [(0,.ptr),(1,.i),(3,.i),(6,.ptr),(49,.i),(95,.bool)] [9] [(9,y7)] cc2))))))))))))
 (.keep [] [] [] cc1)))))))
def T30_0 (E:List (Nat × Blk)) (D:Den) (W:DrawFn) (K2:Nat→Nat→Int→Int→Nat→Nat→Int→Bool→Int→V→Bool→Bool→Bool→Bool→Int→Int→V→V→Int→Bool→Int→H→Ans) (a b:Nat) (c d e:Int) (f g:V) (h:Int) (i:V) (j:Int) (σ:H):Ans:=
 nbK [.int .i64 d,.int .i64 e,f,g,.int .i64 h,i] σ fun s1=>
 joinB (fun c2 s3=>
 joinB (fun c5 s6=>
 condK c5 (
 some ((V.bool false),s6)) (
 ldK E s6 a (Nat.add b 3) fun u8=>
 iaddrSK 13 u8 c fun b9 o10=>
 ldnK E s6 b9 o10 13 fun l11=>
 xcI .i64 l11 fun x14 l13=>
 rtCons l13 fun x15 l16=>
 xcB l16 fun x19 l18=>
 xcB l18 fun x22 l21=>
 xcB l21 fun x25 l24=>
 xcB l24 fun x28 l27=>
 xcI .i64 l27 fun x31 l30=>
 xcI .i64 l30 fun x34 l33=>
 rtCons l33 fun x35 l36=>
 rtCons l36 fun x37 l38=>
 xcI .i64 l38 fun x41 l40=>
 xcB l40 fun x44 l43=>
 xcI .i64 l43 fun x47 l46=>
 rtNil l46 (
 chk (allOne [.int .i64 x14,x15,.bool x19,.bool x22,.bool x25,.bool x28,.int .i64 x31,.int .i64 x34,x35,x37,.int .i64 x41,.bool x44,.int .i64 x47]) (
 ldK E s6 (H.next σ) 0 fun u48=>
 rtInt .i64 u48 fun x49=>
 condK (eqF x49 (Int.ofNat 12)) (
 ldnK E s6 (H.next σ) 0 6 fun l50=>
 xcI .i64 l50 fun x53 l52=>
 xcI .i64 l52 fun x56 l55=>
 rtCons l55 fun x57 l58=>
 rtCons l58 fun x59 l60=>
 xcI .i64 l60 fun x63 l62=>
 rtCons l62 fun x64 l65=>
 rtNil l65 (
 callK (D 50 [.ptr a b,.int .i64 c,.agg [.int .i64 x53,.int .i64 x56,x57,x59,.int .i64 x63,x64]] s6) fun u66 s67=>
 rtBool u66 fun x68=>
 some ((V.bool x68),s67))) (
 ldK E s6 (H.next σ) 0 fun u69=>
 rtInt .i64 u69 fun x70=>
 condK (not (eqF x70 x14)) (
 some ((V.bool false),s6)) (
 condK (eqF x14 (Int.ofNat 1)) (
 ldnK E s6 (H.next σ) 0 6 fun l71=>
 xcI .i64 l71 fun x74 l73=>
 xcI .i64 l73 fun x77 l76=>
 rtCons l76 fun x78 l79=>
 rtCons l79 fun x80 l81=>
 xcI .i64 l81 fun x84 l83=>
 rtCons l83 fun x85 l86=>
 rtNil l86 (
 callK (D 51 [.agg [.int .i64 x74,.int .i64 x77,x78,x80,.int .i64 x84,x85],.int .i64 (Int.ofNat 1)] s6) fun u87 s88=>
 rtBool u87 fun x89=>
 joinB (fun c90 s91=>
 some ((V.bool c90),s91)) fun k92=>
 condK x89 (
 ldK E s88 (H.next σ) 1 fun u93=>
 rtInt .i64 u93 fun x94=>
 joinB (fun c95 s96=>
 k92 c95 s96) fun k97=>
 condK (eqF x94 (Int.ofNat 0)) (
 k97 true s88) (
 ldK E s88 (H.next σ) 1 fun u98=>
 rtInt .i64 u98 fun x99=>
 k97 (eqF x99 (Int.ofNat 1)) s88)) (
 k92 false s88))) (
 condK (eqF x14 (Int.ofNat 2)) (
 ldnK E s6 (H.next σ) 0 6 fun l100=>
 xcI .i64 l100 fun x103 l102=>
 xcI .i64 l102 fun x106 l105=>
 rtCons l105 fun x107 l108=>
 rtCons l108 fun x109 l110=>
 xcI .i64 l110 fun x113 l112=>
 rtCons l112 fun x114 l115=>
 rtNil l115 (
 callK (D 51 [.agg [.int .i64 x103,.int .i64 x106,x107,x109,.int .i64 x113,x114],.int .i64 (Int.ofNat 1)] s6) fun u116 s117=>
 rtBool u116 fun x118=>
 joinB (fun c119 s120=>
 some ((V.bool c119),s120)) fun k121=>
 condK x118 (
 joinB (fun c122 s123=>
 k121 c122 s123) fun k124=>
 condK x28 (
 k124 true s117) (
 ldK E s117 (H.next σ) 1 fun u125=>
 rtInt .i64 u125 fun x126=>
 callK (D 52 [.agg [.bool x19,.bool x22,.bool x25,.bool x28,.int .i64 x31,.int .i64 x34],.int .i64 x126] s117) fun u127 s128=>
 rtBool u127 fun x129=>
 k124 x129 s128)) (
 k121 false s117))) (
 condK (eqF x14 (Int.ofNat 3)) (
 ldnK E s6 (H.next σ) 0 6 fun l130=>
 xcI .i64 l130 fun x133 l132=>
 xcI .i64 l132 fun x136 l135=>
 rtCons l135 fun x137 l138=>
 rtCons l138 fun x139 l140=>
 xcI .i64 l140 fun x143 l142=>
 rtCons l142 fun x144 l145=>
 rtNil l145 (
 callK (D 51 [.agg [.int .i64 x133,.int .i64 x136,x137,x139,.int .i64 x143,x144],.int .i64 (Int.ofNat 1)] s6) fun u146 s147=>
 rtBool u146 fun x148=>
 joinB (fun c149 s150=>
 some ((V.bool c149),s150)) fun k151=>
 condK x148 (
 ldK E s147 (H.next σ) 1 fun u152=>
 rtInt .i64 u152 fun x153=>
 callK (D 53 [.agg [.int .i64 x14,x15,.bool x19,.bool x22,.bool x25,.bool x28,.int .i64 x31,.int .i64 x34,x35,x37,.int .i64 x41,.bool x44,.int .i64 x47],.int .i64 x153] s147) fun u154 s155=>
 rtInt .i64 u154 fun x156=>
 k151 (leF (Int.ofNat 0) x156) s155) (
 k151 false s147))) (
 condK (eqF x14 (Int.ofNat 4)) (
 ldnK E s6 (H.next σ) 0 6 fun l157=>
 xcI .i64 l157 fun x160 l159=>
 xcI .i64 l159 fun x163 l162=>
 rtCons l162 fun x164 l165=>
 rtCons l165 fun x166 l167=>
 xcI .i64 l167 fun x170 l169=>
 rtCons l169 fun x171 l172=>
 rtNil l172 (
 callK (D 51 [.agg [.int .i64 x160,.int .i64 x163,x164,x166,.int .i64 x170,x171],.int .i64 (Int.ofNat 0)] s6) fun u173 s174=>
 rtBool u173 fun x175=>
 some ((V.bool x175),s174))) (
 condK (eqF x14 (Int.ofNat 5)) (
 K2 a b c j (H.next σ) 0 x14 (eqF x14 (Int.ofNat 5)) x14 x15 x19 x22 x25 x28 x31 x34 x35 x37 x41 x44 x47 s6) (
 K2 a b c j (H.next σ) 0 x14 (eqF x14 (Int.ofNat 6)) x14 x15 x19 x22 x25 x28 x31 x34 x35 x37 x41 x44 x47 s6))))))))))) fun k7=>
 condK c2 (
 k7 true s3) (
 k7 (ltF (Int.ofNat 17) j) s3)) fun k4=>
 condK (ltF c (Int.ofNat 0)) (
 k4 true s1) (
 ldK E s1 a (Nat.add b 3) fun u176=>
 slenK u176 fun n177=>
 k4 (leF (Int.ofNat n177) c) s1)
def C30_1:XC:=(.z (.c 8 y1<|
.nil)
 .ret)
def T30_1 (E:List (Nat × Blk)) (D:Den) (W:DrawFn) (σ:H):Ans:=
 some ((V.bool false),σ)
def C30_2 (cc3:XC):XC:=(.cond (.tmp 95) (.z (.m 98 0<|
.O 99 (.agg y7) (.load (some 13) (.t 9))<|
.O 100 y2 (.load (some 6) (.t 6))<|
.k 101 .bool 54 [(.t 98),(.t 99),(.t 100)]<|
.m 8 101<|
.nil)
 .ret)
 (.z (.b 103 .eql .none (.t 49) (.i 10)<|
.m 102 103<|
.nil)
 (.cond (.tmp 102) (.z (.m 104 0<|
.O 105 (.agg y7) (.load (some 13) (.t 9))<|
.O 106 y2 (.load (some 6) (.t 6))<|
.m 107 3<|
.k 108 .bool 55 [(.t 104),(.t 105),(.t 106),(.t 107)]<|
.m 8 108<|
.nil)
 .ret)
 (.z (.b 110 .eql .none (.t 49) (.i 9)<|
.m 109 110<|
.nil)
 (.cond (.tmp 109) (.seq (.draw (.O 111 y2 (.load (some 6) (.t 6))<|
.k 112 .bool 51 [(.t 111),(.i 5)]<|
.m 113 112<|
.gA 113 true (.p 114 [6,113] y25<|
.op (some 115) .i [114,113] (.load none (.t 114))<|
.p 116 [115,113] (.bin .geq .none (.t 115) (.i 0))<|
.nil) 117 113 116<|
.m 118 117<|
.gA 118 true (.p 119 [6,118] y25<|
.op (some 120) .i [119,118] (.load none (.t 119))<|
.p 121 [9,118] (.faddr 9 (.t 9))<|
.p 122 [121,118] (.load none (.t 121))<|
.p 123 [122,118] (.len false (.t 122))<|
.p 124 [120,123,118] (.bin .lss .none (.t 120) (.t 123))<|
.nil) 125 118 124<|
.m 126 125<|
.gA 126 true (.p 127 [6,126] (.faddr 3 (.t 6))<|
.p 128 [127,126] (.load none (.t 127))<|
.p 129 [128,126] (.len false (.t 128))<|
.p 130 [129,126] (.bin .eql .none (.t 129) (.i 1))<|
.nil) 131 126 130<|
.m 132 131<|
.gA 132 true (.p 133 [0,132] y13<|
.p 134 [9,132] (.faddr 9 (.t 9))<|
.p 135 [134,132] (.load none (.t 134))<|
.p 136 [6,132] y25<|
.op (some 137) .i [136,132] (.load none (.t 136))<|
.p 138 [135,137,132] (.iaddrS 11 (.t 135) (.t 137))<|
.p 139 [138,132] (.faddr 1 (.t 138))<|
.op (some 140) .i [139,132] (.load none (.t 139))<|
.p 141 [6,132] (.faddr 3 (.t 6))<|
.p 142 [141,132] (.load none (.t 141))<|
.p 143 [142,132] (.iaddrS 6 (.t 142) (.i 0))<|
.op (some 144) y2 [143,132] (.load (some 6) (.t 143))<|
.p 145 [3,132] (.mov (.t 3))<|
.p 146 [145,132] (.bin .add .none (.t 145) (.i 1))<|
.op (some 147) .bool [133,140,144,146,132] (.call 30 [(.t 133),(.t 140),(.t 144),(.t 146)])<|
.nil) 148 132 147<|
.m 8 148<|
.nil) [0,1,3,7,15,31,63,127,255,511,255,1279,3327,8191,16383,32767,65535,131071,262143,524287,1048575,2097151,4194303,4194303,12582911,4194303,37748735,130023423,264241151,532676607,4194303,1077936127,3225419775,7520387071,4194303,17184063487,68719476735,137438953471,274877906943])
 .ret)
 (.seq (.z (.b 150 .eql .none (.t 49) (.i 7)<|
.m 149 150<|
.nil)
 (.cond (.tmp 149) .skip
 (.ops (.b 151 .eql .none (.t 49) (.i 8)<|
.m 149 151<|
.nil))))
 (.keep [(0,.ptr),(1,.i),(3,.i),(6,.ptr),(149,.bool)] [] [] cc3)))))))
def T30_2 (E:List (Nat × Blk)) (D:Den) (W:DrawFn) (K3:Nat→Nat→Int→Int→Nat→Nat→Bool→H→Ans) (a b:Nat) (c d:Int) (e f:Nat) (g:Int) (h:Bool) (i:Int) (j:V) (k l m o:Bool) (p q:Int) (r s:V) (t:Int) (u:Bool) (v:Int) (σ:H):Ans:=
 condK h (
 ldnK E σ e f 6 fun l1=>
 xcI .i64 l1 fun x4 l3=>
 xcI .i64 l3 fun x7 l6=>
 rtCons l6 fun x8 l9=>
 rtCons l9 fun x10 l11=>
 xcI .i64 l11 fun x14 l13=>
 rtCons l13 fun x15 l16=>
 rtNil l16 (
 callK (D 54 [.ptr a b,.agg [.int .i64 i,j,.bool k,.bool l,.bool m,.bool o,.int .i64 p,.int .i64 q,r,s,.int .i64 t,.bool u,.int .i64 v],.agg [.int .i64 x4,.int .i64 x7,x8,x10,.int .i64 x14,x15]] σ) fun u17 s18=>
 rtBool u17 fun x19=>
 some ((V.bool x19),s18))) (
 condK (eqF g (Int.ofNat 10)) (
 ldnK E σ e f 6 fun l20=>
 xcI .i64 l20 fun x23 l22=>
 xcI .i64 l22 fun x26 l25=>
 rtCons l25 fun x27 l28=>
 rtCons l28 fun x29 l30=>
 xcI .i64 l30 fun x33 l32=>
 rtCons l32 fun x34 l35=>
 rtNil l35 (
 callK (D 55 [.ptr a b,.agg [.int .i64 i,j,.bool k,.bool l,.bool m,.bool o,.int .i64 p,.int .i64 q,r,s,.int .i64 t,.bool u,.int .i64 v],.agg [.int .i64 x23,.int .i64 x26,x27,x29,.int .i64 x33,x34],.int .i64 d] σ) fun u36 s37=>
 rtBool u36 fun x38=>
 some ((V.bool x38),s37))) (
 condK (eqF g (Int.ofNat 9)) (
 ldnK E σ e f 6 fun l39=>
 xcI .i64 l39 fun x42 l41=>
 xcI .i64 l41 fun x45 l44=>
 rtCons l44 fun x46 l47=>
 rtCons l47 fun x48 l49=>
 xcI .i64 l49 fun x52 l51=>
 rtCons l51 fun x53 l54=>
 rtNil l54 (
 callK (D 51 [.agg [.int .i64 x42,.int .i64 x45,x46,x48,.int .i64 x52,x53],.int .i64 (Int.ofNat 5)] σ) fun u55 s56=>
 rtBool u55 fun x57=>
 joinB (fun c58 s59=>
 joinB (fun c61 s62=>
 joinB (fun c64 s65=>
 joinB (fun c67 s68=>
 some ((V.bool c67),s68)) fun k69=>
 condK c64 (
 ldK E s65 e (Nat.add f 1) fun u70=>
 rtInt .i64 u70 fun x71=>
 iaddrSK 11 s x71 fun b72 o73=>
 ldK E s65 b72 (Nat.add o73 1) fun u74=>
 rtInt .i64 u74 fun x75=>
 ldK E s65 e (Nat.add f 3) fun u76=>
 iaddrSK 6 u76 (Int.ofNat 0) fun b77 o78=>
 ldnK E s65 b77 o78 6 fun l79=>
 xcI .i64 l79 fun x82 l81=>
 xcI .i64 l81 fun x85 l84=>
 rtCons l84 fun x86 l87=>
 rtCons l87 fun x88 l89=>
 xcI .i64 l89 fun x92 l91=>
 rtCons l91 fun x93 l94=>
 rtNil l94 (
 callK (D 30 [.ptr a b,.int .i64 x75,.agg [.int .i64 x82,.int .i64 x85,x86,x88,.int .i64 x92,x93],.int .i64 (addF .i64 d (Int.ofNat 1))] s65) fun u95 s96=>
 rtBool u95 fun x97=>
 k69 x97 s96)) (
 k69 false s65)) fun k66=>
 condK c61 (
 ldK E s62 e (Nat.add f 3) fun u98=>
 slenK u98 fun n99=>
 k66 (eqF (Int.ofNat n99) (Int.ofNat 1)) s62) (
 k66 false s62)) fun k63=>
 condK c58 (
 ldK E s59 e (Nat.add f 1) fun u100=>
 rtInt .i64 u100 fun x101=>
 slenK s fun n102=>
 k63 (ltF x101 (Int.ofNat n102)) s59) (
 k63 false s59)) fun k60=>
 condK x57 (
 ldK E s56 e (Nat.add f 1) fun u103=>
 rtInt .i64 u103 fun x104=>
 k60 (leF (Int.ofNat 0) x104) s56) (
 k60 false s56))) (
 condK (eqF g (Int.ofNat 7)) (
 K3 a b c d e f (eqF g (Int.ofNat 7)) σ) (
 K3 a b c d e f (eqF g (Int.ofNat 8)) σ))))
def C30_3:XC:=(.cond (.tmp 149) (.z (.m 152 0<|
.m 153 1<|
.O 154 y2 (.load (some 6) (.t 6))<|
.m 155 3<|
.k 156 .bool 56 [(.t 152),(.t 153),(.t 154),(.t 155)]<|
.m 8 156<|
.nil)
 .ret)
 .skip)
def T30_3 (E:List (Nat × Blk)) (D:Den) (W:DrawFn) (K1:H→Ans) (a b:Nat) (c d:Int) (e f:Nat) (g:Bool) (σ:H):Ans:=
 condK g (
 ldnK E σ e f 6 fun l1=>
 xcI .i64 l1 fun x4 l3=>
 xcI .i64 l3 fun x7 l6=>
 rtCons l6 fun x8 l9=>
 rtCons l9 fun x10 l11=>
 xcI .i64 l11 fun x14 l13=>
 rtCons l13 fun x15 l16=>
 rtNil l16 (
 callK (D 56 [.ptr a b,.int .i64 c,.agg [.int .i64 x4,.int .i64 x7,x8,x10,.int .i64 x14,x15],.int .i64 d] σ) fun u17 s18=>
 rtBool u17 fun x19=>
 some ((V.bool x19),s18))) (
 K1 σ)
def J30_1 (E:List (Nat × Blk)) (D:Den) (W:DrawFn) (N:Nat):=T30_1 E D W
def J30_3:=T30_3 E D W (J30_1 E D W N )
def J30_2:=T30_2 E D W (J30_3 E D W N )
def F30 (args:List V) (σ:H):Ans:=
 rtCons args fun x1 l2=>
 rtPtr x1 fun b3 o4=>
 xcI .i64 l2 fun x7 l6=>
 rtCons l6 fun x8 l9=>
 rtAgg x8 fun l10=>
 xcI .i64 l10 fun x13 l12=>
 xcI .i64 l12 fun x16 l15=>
 rtCons l15 fun x17 l18=>
 rtCons l18 fun x19 l20=>
 xcI .i64 l20 fun x23 l22=>
 rtCons l22 fun x24 l25=>
 rtNil l25 (
 xcI .i64 l9 fun x28 l27=>
 rtNil l27 (
 T30_0 E D W (J30_2 E D W N ) b3 o4 x7 x13 x16 x17 x19 x23 x24 x28 σ))
def A30:XFn:=⟨157,[.ptr,.i,y2,.i],[(.tmp 8)],(C30_0 C30_1 (C30_2 C30_3))⟩
theorem FE30 (args:List V) (σ:H):runX E D W N A30 args σ=F30 E D W N args σ:=by kernel_rfl
def q31a:List (Nat × XTy):=[(3,.i),(7,.any),(8,.i),(9,.i)]
def Fin31 (E:List (Nat × Blk)):St→Ans:=fun s=>resK E s [(.tmp 2)] fun l=>some (oneV l,s.σ)
def b31a (c0:XC):Nat→St→Ans:=blkK 0 (dX E D W N (.keep [(3,.i)] [] [] c0) (Fin31 E) nX (Fin31 E)) nX
def C31_0 (cc1:XC) (cc2:XC):XC:=(.z (.P 1 (.box 37 (.t 0))<|
.q 2 0<|
.nil)
 (.z (.q 3 1<|
.nil)
 (.seq (.z (.f 6 3 1<|
.l 7 .any 6<|
.u 8 7<|
.q 9 0<|
.nil)
 (.block 0 (.loop q31a [] [] cc2)))
 (.keep [(3,.i)] [] [] cc1))))
def T31_0 (E:List (Nat × Blk)) (D:Den) (W:DrawFn) (K2:Int→V→Int→Int→H→Ans) (a b:Int) (c d:V) (e:Int) (f:V) (σ:H):Ans:=
 nbK [.int .i64 a,.int .i64 b,c,d,.int .i64 e,f] σ fun s1=>
 ldK E s1 (H.next σ) 3 fun u2=>
 slenK u2 fun n3=>
 K2 (Int.ofNat 1) u2 (Int.ofNat n3) (Int.ofNat 0) s1
def C31_1:XC:=(.z (.m 18 3<|
.m 2 18<|
.nil)
 .ret)
def T31_1 (E:List (Nat × Blk)) (D:Den) (W:DrawFn) (a:Int) (σ:H):Ans:=
 some ((V.int .i64 a),σ)
def C31_2:XC:=(.z (.b 10 .lss .none (.t 9) (.t 8)<|
.nil)
 (.seq (.cond (.tmp 10) .skip
 y21)
 (.seq (.block 1 (.z (.s 11 6 7 9<|
.O 12 y2 (.load (some 6) (.t 11))<|
.pal 5 [] 37 [y0,y0,V.nils,V.nils,y0,V.nils]<|
.op none y2 [5,12] (.store 6 (.t 5) (.t 12))<|
.nil)
 (.ops (.m 13 3<|
.O 14 y2 (.load (some 6) (.t 5))<|
.k 15 .i 31 [(.t 14)]<|
.b 16 .add .none (.t 13) (.t 15)<|
.m 3 16<|
.nil))))
 (.ops (.b 17 .add .none (.t 9) (.i 1)<|
.m 9 17<|
.nil)))))
def T31_2 (E:List (Nat × Blk)) (D:Den) (W:DrawFn) (K1:Int→H→Ans) (R2:Int→V→Int→Int→H→Ans) (a:Int) (b:V) (c d:Int) (σ:H):Ans:=
 condK (ltF d c) (
 iaddrSK 6 b d fun b1 o2=>
 ldnK E σ b1 o2 6 fun l3=>
 xcI .i64 l3 fun x6 l5=>
 xcI .i64 l5 fun x9 l8=>
 rtCons l8 fun x10 l11=>
 rtCons l11 fun x12 l13=>
 xcI .i64 l13 fun x16 l15=>
 rtCons l15 fun x17 l18=>
 rtNil l18 (
 chk (allOne [.int .i64 x6,.int .i64 x9,x10,x12,.int .i64 x16,x17]) (
 callK (D 31 [.agg [.int .i64 x6,.int .i64 x9,x10,x12,.int .i64 x16,x17]] σ) fun u19 s20=>
 rtInt .i64 u19 fun x21=>
 R2 (addF .i64 a x21) b c (addF .i64 d (Int.ofNat 1)) s20))) (
 K1 a σ)
def S31_0 (a b:Int) (c d:V) (e:Int) (f:V) (σ:H):St:=⟨[(0,.agg [.int .i64 a,.int .i64 b,c,d,.int .i64 e,f])],[],[],σ⟩
def S31_1 (a:Int) (σ:H):St:=⟨[(3,.int .i64 a)],[],[],σ⟩
def S31_2 (a:Int) (b:V) (c d:Int) (σ:H):St:=⟨[(3,.int .i64 a),(7,b),(8,.int .i64 c),(9,.int .i64 d)],[],[],σ⟩
theorem P31_0 (cc1:XC) (cc2:XC) (a b:Int) (c d:V) (e:Int) (f:V) (σ:H) :
 denC E D W N (C31_0 cc1 cc2) (S31_0 a b c d e f σ) (Fin31 E) nX (Fin31 E) =
 T31_0 E D W (fun g h i j σ=>iterK (fun rec s'=>denC E D W N cc2 s' (kX q31a [] [] rec) (b31a E D W N cc1) (Fin31 E)) N (S31_2 g h i j σ)) a b c d e f σ:=by kernel_rfl
theorem P31_2 (cc1:XC) (li2:St→Ans) (a:Int) (b:V) (c d:Int) (σ:H) :
 denC E D W N (C31_2 ) (S31_2 a b c d σ) (kX q31a [] [] li2) (b31a E D W N cc1) (Fin31 E) =
 T31_2 E D W (fun a σ=>denC E D W N cc1 (S31_1 a σ) (Fin31 E) nX (Fin31 E)) (fun a b c d σ=>li2 (S31_2 a b c d σ)) a b c d σ:=by kernel_rfl
def J31_1 (E:List (Nat × Blk)) (D:Den) (W:DrawFn) (N:Nat):=T31_1 E D W
theorem JE31_1 (a:Int) (σ:H) :
 denC E D W N C31_1 (S31_1 a σ) (Fin31 E) nX (Fin31 E)=J31_1 E D W N a σ:=by kernel_rfl
def L31_2 (n:Nat):Int→V→Int→Int→H→Ans:=
 Nat.rec (fun _ _ _ _ _=>none) (fun _ ih=>T31_2 E D W (J31_1 E D W N ) ih) n
theorem LE31_2 (n:Nat):∀(a:Int) (b:V) (c d:Int) (σ:H),
 iterK (fun rec s'=>denC E D W N C31_2 s' (kX q31a [] [] rec) (b31a E D W N C31_1) (Fin31 E)) n (S31_2 a b c d σ)=L31_2 E D W N n a b c d σ:=by
 induction n with
 | zero=>intro a b c d σ;rfl
 | succ n ihn=>
  intro a b c d σ
  rw[iterK_succ]
  refine(P31_2 E D W N C31_1 (iterK (fun rec s'=>denC E D W N C31_2 s' (kX q31a [] [] rec) (b31a E D W N C31_1) (Fin31 E)) n) a b c d σ).trans ?_
  simp only[ihn,JE31_1]
  kernel_rfl
def J31_0:=T31_0 E D W (L31_2 E D W N N)
theorem JE31_0 (a b:Int) (c d:V) (e:Int) (f:V) (σ:H) :
 denC E D W N (C31_0 C31_1 C31_2) (S31_0 a b c d e f σ) (Fin31 E) nX (Fin31 E)=J31_0 E D W N a b c d e f σ:=by
 refine(P31_0 E D W N C31_1 C31_2  a b c d e f σ).trans ?_
 simp only[LE31_2]
 kernel_rfl
def F31 (args:List V) (σ:H):Ans:=
 rtCons args fun x1 l2=>
 rtAgg x1 fun l3=>
 xcI .i64 l3 fun x6 l5=>
 xcI .i64 l5 fun x9 l8=>
 rtCons l8 fun x10 l11=>
 rtCons l11 fun x12 l13=>
 xcI .i64 l13 fun x16 l15=>
 rtCons l15 fun x17 l18=>
 rtNil l18 (
 rtNil l2 (
 J31_0 E D W N x6 x9 x10 x12 x16 x17 σ))
def A31:XFn:=⟨19,[y2],[(.tmp 2)],(C31_0 C31_1 C31_2)⟩
theorem FE31 (args:List V) (σ:H):runX E D W N A31 args σ=F31 E D W N args σ:=by
 unfold F31
 simp only[←JE31_0]
 kernel_rfl
def C32_0:XC:=(.z (.c 4 y1<|
.nil)
 (.z (.m 5 0<|
.m 6 1<|
.k 7 .i 57 [(.t 5),(.t 6)]<|
.b 8 .geq .none (.t 7) (.i 0)<|
.m 4 8<|
.nil)
 .ret))
def T32_0 (E:List (Nat × Blk)) (D:Den) (W:DrawFn) (a b:V) (σ:H):Ans:=
 callK (D 57 [a,b] σ) fun u1 s2=>
 rtInt .i64 u1 fun x3=>
 some ((V.bool (leF (Int.ofNat 0) x3)),s2)
def F32 (N:Nat) (args:List V) (σ:H):Ans:=
 rtCons args fun x1 l2=>
 rtCons l2 fun x3 l4=>
 rtNil l4 (
 T32_0 E D W x1 x3 σ)
def A32:XFn:=⟨9,[.any,.any],[(.tmp 4)],C32_0⟩
theorem FE32 (args:List V) (σ:H):runX E D W N A32 args σ=F32 E D W N args σ:=by kernel_rfl
def q34a:List (Nat × XTy):=[(0,.any),(1,.bool),(7,.any),(8,.i)]
def Fin34 (E:List (Nat × Blk)):St→Ans:=fun s=>resK E s [(.tmp 6)] fun l=>some (oneV l,s.σ)
def b34a (c0:XC):Nat→St→Ans:=blkK 0 (dX E D W N (.keep [(7,.any)] [] [] c0) (Fin34 E) nX (Fin34 E)) nX
def C34_0 (cc1:XC) (cc2:XC):XC:=(.z (.c 6 V.nils<|
.nil)
 (.z (.m 9 2<|
.k 10 .one 58 [(.t 9)]<|
.m 7 10<|
.nil)
 (.seq (.z (.m 11 0<|
.u 12 11<|
.b 13 .sub .none (.t 12) (.i 1)<|
.m 8 13<|
.nil)
 (.block 0 (.loop q34a [] [] cc2)))
 (.keep [(7,.any)] [] [] cc1))))
def T34_0 (E:List (Nat × Blk)) (D:Den) (W:DrawFn) (K2:V→Bool→V→Int→H→Ans) (a:V) (b:Bool) (c:V) (σ:H):Ans:=
 callK (D 58 [c] σ) fun u1 s2=>
 rtOne u1 (
 slenK a fun n3=>
 K2 a b u1 (subF .i64 (Int.ofNat n3) (Int.ofNat 1)) s2)
def C34_1:XC:=(.z (.m 33 7<|
.m 6 33<|
.nil)
 .ret)
def T34_1 (E:List (Nat × Blk)) (D:Den) (W:DrawFn) (a:V) (σ:H):Ans:=
 some (a,σ)
def C34_2:XC:=(.seq (.z (.m 14 8<|
.b 15 .geq .none (.t 14) (.i 0)<|
.nil)
 (.cond (.tmp 15) .skip
 y21))
 (.seq (.block 1 (.ops (.m 18 0<|
.m 19 8<|
.s 20 2 18 19<|
.O 21 y12 (.load (some 2) (.t 20))<|
.m 22 1<|
.m 23 22<|
.gO 23 false (.p 24 [8,23] y28<|
.p 25 [0,23] y13<|
.p 26 [25,23] (.len false (.t 25))<|
.p 27 [26,23] (.bin .sub .none (.t 26) (.i 1))<|
.p 28 [24,27,23] (.bin .lss .none (.t 24) (.t 27))<|
.nil) 29 23 28<|
.m 30 7<|
.p 31 [30] (.buildSlice 22 1 [V.nils] [(0,1,(.t 30))])<|
.k 32 .one 59 [(.t 21),(.t 29),(.t 31)]<|
.m 7 32<|
.nil)))
 (.ops (.m 16 8<|
.b 17 .sub .none (.t 16) (.i 1)<|
.m 8 17<|
.nil))))
def T34_2 (E:List (Nat × Blk)) (D:Den) (W:DrawFn) (K1:V→H→Ans) (R2:V→Bool→V→Int→H→Ans) (a:V) (b:Bool) (c:V) (d:Int) (σ:H):Ans:=
 condK (leF (Int.ofNat 0) d) (
 iaddrSK 2 a d fun b1 o2=>
 ldnK E σ b1 o2 2 fun l3=>
 xcI .i64 l3 fun x6 l5=>
 xcI .i64 l5 fun x9 l8=>
 rtNil l8 (
 joinB (fun c10 s11=>
 fillK [(0,1,c)] [V.nils] fun l13=>
 chk (allOne l13) (
 let s14:=newB s11 (.cells l13);
 callK (D 59 [.agg [.int .i64 x6,.int .i64 x9],.bool c10,.sl (H.next s11) 0 1 (.ex 1)] s14) fun u15 s16=>
 rtOne u15 (
 R2 a b u15 (subF .i64 d (Int.ofNat 1)) s16))) fun k12=>
 condK b (
 k12 true σ) (
 slenK a fun n17=>
 k12 (ltF d (subF .i64 (Int.ofNat n17) (Int.ofNat 1))) σ))) (
 K1 c σ)
def S34_0 (a:V) (b:Bool) (c:V) (σ:H):St:=⟨[(0,a),(1,.bool b),(2,c)],[],[],σ⟩
def S34_1 (a:V) (σ:H):St:=⟨[(7,a)],[],[],σ⟩
def S34_2 (a:V) (b:Bool) (c:V) (d:Int) (σ:H):St:=⟨[(0,a),(1,.bool b),(7,c),(8,.int .i64 d)],[],[],σ⟩
theorem P34_0 (cc1:XC) (cc2:XC) (a:V) (b:Bool) (c:V) (σ:H) :
 denC E D W N (C34_0 cc1 cc2) (S34_0 a b c σ) (Fin34 E) nX (Fin34 E) =
 T34_0 E D W (fun a b d e σ=>iterK (fun rec s'=>denC E D W N cc2 s' (kX q34a [] [] rec) (b34a E D W N cc1) (Fin34 E)) N (S34_2 a b d e σ)) a b c σ:=by kernel_rfl
theorem P34_2 (cc1:XC) (li2:St→Ans) (a:V) (b:Bool) (c:V) (d:Int) (σ:H) :
 denC E D W N (C34_2 ) (S34_2 a b c d σ) (kX q34a [] [] li2) (b34a E D W N cc1) (Fin34 E) =
 T34_2 E D W (fun c σ=>denC E D W N cc1 (S34_1 c σ) (Fin34 E) nX (Fin34 E)) (fun a b c d σ=>li2 (S34_2 a b c d σ)) a b c d σ:=by kernel_rfl
def J34_1 (E:List (Nat × Blk)) (D:Den) (W:DrawFn) (N:Nat):=T34_1 E D W
theorem JE34_1 (a:V) (σ:H) :
 denC E D W N C34_1 (S34_1 a σ) (Fin34 E) nX (Fin34 E)=J34_1 E D W N a σ:=by kernel_rfl
def L34_2 (n:Nat):V→Bool→V→Int→H→Ans:=
 Nat.rec (fun _ _ _ _ _=>none) (fun _ ih=>T34_2 E D W (J34_1 E D W N ) ih) n
theorem LE34_2 (n:Nat):∀(a:V) (b:Bool) (c:V) (d:Int) (σ:H),
 iterK (fun rec s'=>denC E D W N C34_2 s' (kX q34a [] [] rec) (b34a E D W N C34_1) (Fin34 E)) n (S34_2 a b c d σ)=L34_2 E D W N n a b c d σ:=by
 induction n with
 | zero=>intro a b c d σ;rfl
 | succ n ihn=>
  intro a b c d σ
  rw[iterK_succ]
  refine(P34_2 E D W N C34_1 (iterK (fun rec s'=>denC E D W N C34_2 s' (kX q34a [] [] rec) (b34a E D W N C34_1) (Fin34 E)) n) a b c d σ).trans ?_
  simp only[ihn,JE34_1]
  kernel_rfl
def J34_0:=T34_0 E D W (L34_2 E D W N N)
theorem JE34_0 (a:V) (b:Bool) (c:V) (σ:H) :
 denC E D W N (C34_0 C34_1 C34_2) (S34_0 a b c σ) (Fin34 E) nX (Fin34 E)=J34_0 E D W N a b c σ:=by
 refine(P34_0 E D W N C34_1 C34_2  a b c σ).trans ?_
 simp only[LE34_2]
 kernel_rfl
def F34 (args:List V) (σ:H):Ans:=
 rtCons args fun x1 l2=>
 xcB l2 fun x5 l4=>
 rtCons l4 fun x6 l7=>
 rtNil l7 (
 J34_0 E D W N x1 x5 x6 σ)
def A34:XFn:=⟨34,[.any,.bool,.any],[(.tmp 6)],(C34_0 C34_1 C34_2)⟩
theorem FE34 (args:List V) (σ:H):runX E D W N A34 args σ=F34 E D W N args σ:=by
 unfold F34
 simp only[←JE34_0]
 kernel_rfl
def q35a:List (Nat × XTy):=[(0,.i),(3,.i)]
def Fin35 (E:List (Nat × Blk)):St→Ans:=fun s=>resK E s [(.tmp 2)] fun l=>some (oneV l,s.σ)
def b35a (c0:XC):Nat→St→Ans:=blkK 0 (dX E D W N (.keep q35a [] [] c0) (Fin35 E) nX (Fin35 E)) nX
def C35_0 (cc1:XC) (cc2:XC):XC:=(.z (.c 2 V.nils<|
.nil)
 (.z (.q 3 1<|
.nil)
 (.seq (.block 0 (.loop q35a [] [] cc2))
 (.keep q35a [] [] cc1))))
def T35_0 (E:List (Nat × Blk)) (D:Den) (W:DrawFn) (K2:Int→Int→H→Ans) (a:Int) (σ:H):Ans:=
 K2 a (Int.ofNat 1) σ
def C35_1:XC:=(.z (.m 24 0<|
.P 25 (.conv (.toInt .u64) (.t 24))<|
.m 26 3<|
.k 27 .one 60 [(.t 25),(.t 26)]<|
.m 2 27<|
.nil)
 .ret)
def T35_1 (E:List (Nat × Blk)) (D:Den) (W:DrawFn) (a b:Int) (σ:H):Ans:=
 callK (D 60 [.int .u64 (wrapF .u64 a),.int .i64 b] σ) fun u1 s2=>
 rtOne u1 (
 some (u1,s2))
def C35_2:XC:=(.seq (.z (.m 4 3<|
.b 5 .lss .none (.t 4) (.i 8)<|
.m 6 5<|
.gA 6 true (.p 7 [0,6] y13<|
.p 8 [3,6] (.mov (.t 3))<|
.p 9 [8,6] (.bin .mul .none (.i 8) (.t 8))<|
.p 10 [9,6] (.bin .sub .none (.t 9) (.i 1))<|
.p 11 [7,10,6] (.bin .shr .none (.t 7) (.t 10))<|
.p 12 [11,6] (.bin .neq .none (.t 11) (.i 0))<|
.nil) 13 6 12<|
.m 14 13<|
.gA 14 true (.p 15 [0,14] y13<|
.p 16 [3,14] (.mov (.t 3))<|
.p 17 [16,14] (.bin .mul .none (.i 8) (.t 16))<|
.p 18 [17,14] (.bin .sub .none (.t 17) (.i 1))<|
.p 19 [15,18,14] (.bin .shr .none (.t 15) (.t 18))<|
.p 20 [19,14] (.bin .neq .none (.t 19) (.con y17))<|
.nil) 21 14 20<|
.nil)
 (.cond (.tmp 21) .skip
 y21))
 (.block 1 (.ops (.m 22 3<|
.b 23 .add .none (.t 22) (.i 1)<|
.m 3 23<|
.nil))))
def T35_2 (E:List (Nat × Blk)) (D:Den) (W:DrawFn) (K1:Int→Int→H→Ans) (R2:Int→Int→H→Ans) (a b:Int) (σ:H):Ans:=
 joinB (fun c1 s2=>
 joinB (fun c4 s5=>
 condK c4 (
 R2 a (addF .i64 b (Int.ofNat 1)) s5) (
 K1 a b s5)) fun k6=>
 condK c1 (
 nnK (subF .i64 (mulF .i64 (Int.ofNat 8) b) (Int.ofNat 1)) fun n7=>
 k6 (not (eqF (shrF .i64 a n7) (Int.negSucc 0))) s2) (
 k6 false s2)) fun k3=>
 condK (ltF b (Int.ofNat 8)) (
 nnK (subF .i64 (mulF .i64 (Int.ofNat 8) b) (Int.ofNat 1)) fun n8=>
 k3 (not (eqF (shrF .i64 a n8) (Int.ofNat 0))) σ) (
 k3 false σ)
def S35_0 (a:Int) (σ:H):St:=⟨[(0,.int .i64 a)],[],[],σ⟩
def S35_1 (a b:Int) (σ:H):St:=⟨[(0,.int .i64 a),(3,.int .i64 b)],[],[],σ⟩
theorem P35_0 (cc1:XC) (cc2:XC) (a:Int) (σ:H) :
 denC E D W N (C35_0 cc1 cc2) (S35_0 a σ) (Fin35 E) nX (Fin35 E) =
 T35_0 E D W (fun a b σ=>iterK (fun rec s'=>denC E D W N cc2 s' (kX q35a [] [] rec) (b35a E D W N cc1) (Fin35 E)) N (S35_1 a b σ)) a σ:=by kernel_rfl
theorem P35_2 (cc1:XC) (li2:St→Ans) (a b:Int) (σ:H) :
 denC E D W N (C35_2 ) (S35_1 a b σ) (kX q35a [] [] li2) (b35a E D W N cc1) (Fin35 E) =
 T35_2 E D W (fun a b σ=>denC E D W N cc1 (S35_1 a b σ) (Fin35 E) nX (Fin35 E)) (fun a b σ=>li2 (S35_1 a b σ)) a b σ:=by kernel_rfl
def J35_1 (E:List (Nat × Blk)) (D:Den) (W:DrawFn) (N:Nat):=T35_1 E D W
theorem JE35_1 (a b:Int) (σ:H) :
 denC E D W N C35_1 (S35_1 a b σ) (Fin35 E) nX (Fin35 E)=J35_1 E D W N a b σ:=by kernel_rfl
def L35_2 (n:Nat):Int→Int→H→Ans:=
 Nat.rec (fun _ _ _=>none) (fun _ ih=>T35_2 E D W (J35_1 E D W N ) ih) n
theorem LE35_2 (n:Nat):∀(a b:Int) (σ:H),
 iterK (fun rec s'=>denC E D W N C35_2 s' (kX q35a [] [] rec) (b35a E D W N C35_1) (Fin35 E)) n (S35_1 a b σ)=L35_2 E D W N n a b σ:=by
 induction n with
 | zero=>intro a b σ;rfl
 | succ n ihn=>
  intro a b σ
  rw[iterK_succ]
  refine(P35_2 E D W N C35_1 (iterK (fun rec s'=>denC E D W N C35_2 s' (kX q35a [] [] rec) (b35a E D W N C35_1) (Fin35 E)) n) a b σ).trans ?_
  simp only[ihn,JE35_1]
  kernel_rfl
def J35_0:=T35_0 E D W (L35_2 E D W N N)
theorem JE35_0 (a:Int) (σ:H) :
 denC E D W N (C35_0 C35_1 C35_2) (S35_0 a σ) (Fin35 E) nX (Fin35 E)=J35_0 E D W N a σ:=by
 refine(P35_0 E D W N C35_1 C35_2  a σ).trans ?_
 simp only[LE35_2]
 kernel_rfl
def F35 (args:List V) (σ:H):Ans:=
 xcI .i64 args fun x3 l2=>
 rtNil l2 (
 J35_0 E D W N x3 σ)
def A35:XFn:=⟨28,[.i],[(.tmp 2)],(C35_0 C35_1 C35_2)⟩
theorem FE35 (args:List V) (σ:H):runX E D W N A35 args σ=F35 E D W N args σ:=by
 unfold F35
 simp only[←JE35_0]
 kernel_rfl
def q37a:List (Nat × XTy):=[(0,.str),(1,.i)]
def Fin37 (E:List (Nat × Blk)):St→Ans:=fun s=>resK E s [(.tmp 4)] fun l=>some (oneV l,s.σ)
def b37a (c0:XC):Nat→St→Ans:=blkK 0 (dX E D W N (.keep [(1,.i)] [] [] c0) (Fin37 E) nX (Fin37 E)) nX
def b37b (c0:XC) (l0:St→Ans):Nat→St→Ans:=blkK 3 (kX q37a [] [] l0) (blkK 2 (kX q37a [] [] l0) (blkK 1 (kX q37a [] [] l0) (b37a E D W N c0)))
def C37_0 (cc1:XC) (cc2:XC):XC:=(.z (.q 4 0<|
.nil)
 (.seq (.block 0 (.loop q37a [] [] cc2))
 (.keep [(1,.i)] [] [] cc1)))
def T37_0 (E:List (Nat × Blk)) (D:Den) (W:DrawFn) (K2:BS→Int→H→Ans) (a:BS) (b:Int) (σ:H):Ans:=
 K2 a b σ
def C37_1:XC:=(.z (.m 74 1<|
.m 4 74<|
.nil)
 .ret)
def T37_1 (E:List (Nat × Blk)) (D:Den) (W:DrawFn) (a:Int) (σ:H):Ans:=
 some ((V.int .i64 a),σ)
def C37_2 (cc3:XC):XC:=(.seq (.z (.m 5 1<|
.m 6 0<|
.P 7 (.len true (.t 6))<|
.b 8 .lss .none (.t 5) (.t 7)<|
.nil)
 (.cond (.tmp 8) .skip
 y21))
 (.block 1 (.block 2 (.z (.m 11 0<|
.m 12 1<|
.P 13 (.idxStr (.t 11) (.t 12))<|
.b 14 .eql .none (.t 13) (.con (V.int .u8 (Int.ofNat 32)))<|
.m 15 14<|
.gO 15 false (.p 16 [0,15] y13<|
.p 17 [1,15] y15<|
.p 18 [16,17,15] (.idxStr (.t 16) (.t 17))<|
.p 19 [18,15] (.bin .eql .none (.t 18) (.con (V.int .u8 (Int.ofNat 9))))<|
.nil) 20 15 19<|
.m 21 20<|
.gO 21 false (.p 22 [0,21] y13<|
.p 23 [1,21] y15<|
.p 24 [22,23,21] (.idxStr (.t 22) (.t 23))<|
.p 25 [24,21] (.bin .eql .none (.t 24) (.con (V.int .u8 (Int.ofNat 10))))<|
.nil) 26 21 25<|
.m 27 26<|
.gO 27 false (.p 28 [0,27] y13<|
.p 29 [1,27] y15<|
.p 30 [28,29,27] (.idxStr (.t 28) (.t 29))<|
.p 31 [30,27] (.bin .eql .none (.t 30) (.con (V.int .u8 (Int.ofNat 13))))<|
.nil) 32 27 31<|
.m 10 32<|
.nil)
 (.cond (.tmp 10) (.ops (.m 33 1<|
.b 34 .add .none (.t 33) (.i 1)<|
.m 1 34<|
.nil))
 (.z (.m 36 0<|
.m 37 1<|
.P 38 (.idxStr (.t 36) (.t 37))<|
.b 39 .eql .none (.t 38) y14<|
.m 40 39<|
.gA 40 true (.p 41 [0,40] y13<|
.p 42 [1,40] y15<|
.p 43 [42,40] (.bin .add .none (.t 42) (.i 1))<|
.op (some 44) (.int .u8) [41,43,40] (.call 64 [(.t 41),(.t 43)])<|
.p 45 [44,40] (.bin .eql .none (.t 44) y14)<|
.nil) 46 40 45<|
.m 35 46<|
.nil)
 (.cond (.tmp 35) (.z (.m 47 1<|
.b 48 .add .none (.t 47) (.i 2)<|
.m 1 48<|
.nil)
 (.block 3 (.loop q37a [] [] cc3)))
 (.z (.m 9 1<|
.m 4 9<|
.nil)
 .ret))))))))
def T37_2 (E:List (Nat × Blk)) (D:Den) (W:DrawFn) (K1:Int→H→Ans) (K3:BS→Int→H→Ans) (R2:BS→Int→H→Ans) (a:BS) (b:Int) (σ:H):Ans:=
 condK (ltF b (Int.ofNat (BS.len a))) (
 idxStrX a b fun x1=>
 joinB (fun c2 s3=>
 joinB (fun c5 s6=>
 joinB (fun c8 s9=>
 condK c8 (
 R2 a (addF .i64 b (Int.ofNat 1)) s9) (
 idxStrX a b fun x11=>
 joinB (fun c12 s13=>
 condK c12 (
 K3 a (addF .i64 b (Int.ofNat 2)) s13) (
 some ((V.int .i64 b),s13))) fun k14=>
 condK (eqF x11 (Int.ofNat 45)) (
 callK (D 64 [.str a,.int .i64 (addF .i64 b (Int.ofNat 1))] s9) fun u15 s16=>
 rtInt .u8 u15 fun x17=>
 k14 (eqF x17 (Int.ofNat 45)) s16) (
 k14 false s9))) fun k10=>
 condK c5 (
 k10 true s6) (
 idxStrX a b fun x18=>
 k10 (eqF x18 (Int.ofNat 13)) s6)) fun k7=>
 condK c2 (
 k7 true s3) (
 idxStrX a b fun x19=>
 k7 (eqF x19 (Int.ofNat 10)) s3)) fun k4=>
 condK (eqF x1 (Int.ofNat 32)) (
 k4 true σ) (
 idxStrX a b fun x20=>
 k4 (eqF x20 (Int.ofNat 9)) σ)) (
 K1 b σ)
def C37_3:XC:=(.seq (.z (.m 49 1<|
.m 50 0<|
.P 51 (.len true (.t 50))<|
.b 52 .lss .none (.t 49) (.t 51)<|
.m 53 52<|
.gA 53 true (.p 54 [0,53] y13<|
.p 55 [1,53] y15<|
.p 56 [54,55,53] (.idxStr (.t 54) (.t 55))<|
.p 57 [56,53] (.bin .neq .none (.t 56) (.con (V.int .u8 (Int.ofNat 10))))<|
.nil) 58 53 57<|
.nil)
 (.cond (.tmp 58) .skip
 (.exit 3)))
 (.block 4 (.seq (.z (.m 59 0<|
.m 60 1<|
.P 61 (.idxStr (.t 59) (.t 60))<|
.b 62 .eql .none (.t 61) y14<|
.m 63 62<|
.gA 63 true (.p 64 [0,63] y13<|
.p 65 [1,63] y15<|
.p 66 [65,63] (.bin .add .none (.t 65) (.i 1))<|
.op (some 67) (.int .u8) [64,66,63] (.call 64 [(.t 64),(.t 66)])<|
.p 68 [67,63] (.bin .eql .none (.t 67) y14)<|
.nil) 69 63 68<|
.nil)
 (.cond (.tmp 69) (.z (.m 70 1<|
.b 71 .add .none (.t 70) (.i 2)<|
.m 1 71<|
.nil)
 (.exit 3))
 .skip))
 (.ops (.m 72 1<|
.b 73 .add .none (.t 72) (.i 1)<|
.m 1 73<|
.nil)))))
def T37_3 (E:List (Nat × Blk)) (D:Den) (W:DrawFn) (R2:BS→Int→H→Ans) (R3:BS→Int→H→Ans) (a:BS) (b:Int) (σ:H):Ans:=
 joinB (fun c1 s2=>
 condK c1 (
 idxStrX a b fun x4=>
 joinB (fun c5 s6=>
 condK c5 (
 R2 a (addF .i64 b (Int.ofNat 2)) s6) (
 R3 a (addF .i64 b (Int.ofNat 1)) s6)) fun k7=>
 condK (eqF x4 (Int.ofNat 45)) (
 callK (D 64 [.str a,.int .i64 (addF .i64 b (Int.ofNat 1))] s2) fun u8 s9=>
 rtInt .u8 u8 fun x10=>
 k7 (eqF x10 (Int.ofNat 45)) s9) (
 k7 false s2)) (
 R2 a b s2)) fun k3=>
 condK (ltF b (Int.ofNat (BS.len a))) (
 idxStrX a b fun x11=>
 k3 (not (eqF x11 (Int.ofNat 10))) σ) (
 k3 false σ)
def S37_0 (a:BS) (b:Int) (σ:H):St:=⟨[(0,.str a),(1,.int .i64 b)],[],[],σ⟩
def S37_1 (a:Int) (σ:H):St:=⟨[(1,.int .i64 a)],[],[],σ⟩
theorem P37_0 (cc1:XC) (cc2:XC) (a:BS) (b:Int) (σ:H) :
 denC E D W N (C37_0 cc1 cc2) (S37_0 a b σ) (Fin37 E) nX (Fin37 E) =
 T37_0 E D W (fun a b σ=>iterK (fun rec s'=>denC E D W N cc2 s' (kX q37a [] [] rec) (b37a E D W N cc1) (Fin37 E)) N (S37_0 a b σ)) a b σ:=by kernel_rfl
theorem P37_2 (cc1:XC) (cc3:XC) (li2:St→Ans) (a:BS) (b:Int) (σ:H) :
 denC E D W N (C37_2 cc3) (S37_0 a b σ) (kX q37a [] [] li2) (b37a E D W N cc1) (Fin37 E) =
 T37_2 E D W (fun b σ=>denC E D W N cc1 (S37_1 b σ) (Fin37 E) nX (Fin37 E)) (fun a b σ=>iterK (fun rec s'=>denC E D W N cc3 s' (kX q37a [] [] rec) (b37b E D W N cc1 li2) (Fin37 E)) N (S37_0 a b σ)) (fun a b σ=>li2 (S37_0 a b σ)) a b σ:=by kernel_rfl
theorem P37_3 (cc1:XC) (li2:St→Ans) (li3:St→Ans) (a:BS) (b:Int) (σ:H) :
 denC E D W N (C37_3 ) (S37_0 a b σ) (kX q37a [] [] li3) (b37b E D W N cc1 li2) (Fin37 E) =
 T37_3 E D W (fun a b σ=>li2 (S37_0 a b σ)) (fun a b σ=>li3 (S37_0 a b σ)) a b σ:=by kernel_rfl
def J37_1 (E:List (Nat × Blk)) (D:Den) (W:DrawFn) (N:Nat):=T37_1 E D W
theorem JE37_1 (a:Int) (σ:H) :
 denC E D W N C37_1 (S37_1 a σ) (Fin37 E) nX (Fin37 E)=J37_1 E D W N a σ:=by kernel_rfl
def L37_3 (E:List (Nat × Blk)) (D:Den) (W:DrawFn) (N:Nat) (R2:BS→Int→H→Ans) (n:Nat):BS→Int→H→Ans:=
 Nat.rec (fun _ _ _=>none) (fun _ ih=>T37_3 E D W R2 ih) n
theorem LE37_3 (li2:St→Ans) (n:Nat):∀(a:BS) (b:Int) (σ:H),
 iterK (fun rec s'=>denC E D W N C37_3 s' (kX q37a [] [] rec) (b37b E D W N C37_1 li2) (Fin37 E)) n (S37_0 a b σ)=L37_3 E D W N (fun a b σ=>li2 (S37_0 a b σ)) n a b σ:=by
 induction n with
 | zero=>intro a b σ;rfl
 | succ n ihn=>
  intro a b σ
  rw[iterK_succ]
  refine(P37_3 E D W N C37_1 li2 (iterK (fun rec s'=>denC E D W N C37_3 s' (kX q37a [] [] rec) (b37b E D W N C37_1 li2) (Fin37 E)) n) a b σ).trans ?_
  simp only[ihn]
  kernel_rfl
def L37_2 (n:Nat):BS→Int→H→Ans:=
 Nat.rec (fun _ _ _=>none) (fun _ ih=>T37_2 E D W (J37_1 E D W N ) (L37_3 E D W N ih N) ih) n
theorem LE37_2 (n:Nat):∀(a:BS) (b:Int) (σ:H),
 iterK (fun rec s'=>denC E D W N (C37_2 C37_3) s' (kX q37a [] [] rec) (b37a E D W N C37_1) (Fin37 E)) n (S37_0 a b σ)=L37_2 E D W N n a b σ:=by
 induction n with
 | zero=>intro a b σ;rfl
 | succ n ihn=>
  intro a b σ
  rw[iterK_succ]
  refine(P37_2 E D W N C37_1 C37_3 (iterK (fun rec s'=>denC E D W N (C37_2 C37_3) s' (kX q37a [] [] rec) (b37a E D W N C37_1) (Fin37 E)) n) a b σ).trans ?_
  simp only[ihn,JE37_1,LE37_3]
  kernel_rfl
def J37_0:=T37_0 E D W (L37_2 E D W N N)
theorem JE37_0 (a:BS) (b:Int) (σ:H) :
 denC E D W N (C37_0 C37_1 (C37_2 C37_3)) (S37_0 a b σ) (Fin37 E) nX (Fin37 E)=J37_0 E D W N a b σ:=by
 refine(P37_0 E D W N C37_1 (C37_2 C37_3)  a b σ).trans ?_
 simp only[LE37_2]
 kernel_rfl
def F37 (args:List V) (σ:H):Ans:=
 xcS args fun x3 l2=>
 xcI .i64 l2 fun x6 l5=>
 rtNil l5 (
 J37_0 E D W N x3 x6 σ)
def A37:XFn:=⟨75,[.str,.i],[(.tmp 4)],(C37_0 C37_1 (C37_2 C37_3))⟩
theorem FE37 (args:List V) (σ:H):runX E D W N A37 args σ=F37 E D W N args σ:=by
 unfold F37
 simp only[←JE37_0]
 kernel_rfl
def q38a:List (Nat × List XTy):=[(4,[.i,.str,.i]),(6,[.i,.str,.i])]
def C38_0 (cc1:XC) (cc2:XC):XC:=(.z (.pal 4 [] 73 [y0,y5,y0]<|
.q 5 0<|
.nil)
 (.z (.m 10 1<|
.op (some 11) y6 [10] (.build [y0,y5,y0] [(2,1,(.t 10))])<|
.pal 6 [] 73 [y0,y5,y0]<|
.op none y6 [6,11] (.store 3 (.t 6) (.t 11))<|
.nil)
 (.z (.m 12 0<|
.m 13 1<|
.P 14 (.idxStr (.t 12) (.t 13))<|
.m 7 14<|
.nil)
 (.z (.c 8 y17<|
.nil)
 (.seq (.block 0 (.z (.m 32 7<|
.k 33 .bool 65 [(.t 32)]<|
.m 31 33<|
.nil)
 (.cond (.tmp 31) (.z (.m 34 0<|
.m 35 1<|
.k 36 .i 66 [(.t 34),(.t 35)]<|
.m 8 36<|
.nil)
 (.seq (.z (.m 37 8<|
.b 38 .lss .none (.t 37) (.i 0)<|
.nil)
 (.cond (.tmp 38) (.z (.O 39 y6 (.load (some 3) (.t 6))<|
.op none y6 [4,39] (.store 3 (.t 4) (.t 39))<|
.c 5 y17<|
.nil)
 .ret)
 .skip))
 (.seq (.draw (.m 40 0<|
.m 41 1<|
.m 42 8<|
.p 43 [40,41,42] (.sliceStr (.t 40) (some (.t 41)) (some (.t 42)))<|
.f 44 0 6<|
.op none .any [44] (.store 1 (.t 44) (.i 2))<|
.f 45 1 6<|
.w 1 45 43<|
.nil) [0,0,0,7,0,16,63,127])
 (.seq (.z (.m 46 7<|
.b 47 .leq .none (.t 46) (.con (V.int .u8 (Int.ofNat 90)))<|
.nil)
 (.cond (.tmp 47) (.ops (.f 48 0 6<|
.op none .any [48] (.store 1 (.t 48) (.i 1))<|
.nil))
 .skip))
 (.keep [(8,.i)] [4,6] q38a cc2)))))
 (.z (.m 54 7<|
.k 55 .bool 68 [(.t 54)]<|
.m 56 55<|
.gO 56 false (.p 57 [7,56] (.mov (.t 7))<|
.p 58 [57,56] (.bin .eql .none (.t 57) y14)<|
.p 59 [58,56] (.mov (.t 58))<|
.grp 59 true (.p 60 [0,59] y13<|
.p 61 [1,59] y15<|
.p 62 [61,59] (.bin .add .none (.t 61) (.i 1))<|
.op (some 63) (.int .u8) [60,62,59] (.call 64 [(.t 60),(.t 62)])<|
.op (some 64) .bool [63,59] (.call 68 [(.t 63)])<|
.nil) 65 [59,64,56] (.t 59) (.t 64) y29<|
.nil) 66 56 65<|
.m 53 66<|
.nil)
 (.cond (.tmp 53) (.z (.m 67 0<|
.m 68 1<|
.k 69 .i 69 [(.t 67),(.t 68)]<|
.m 8 69<|
.nil)
 (.seq (.z (.m 70 8<|
.b 71 .lss .none (.t 70) (.i 0)<|
.nil)
 (.cond (.tmp 71) (.z (.O 72 y6 (.load (some 3) (.t 6))<|
.op none y6 [4,72] (.store 3 (.t 4) (.t 72))<|
.c 5 y17<|
.nil)
 .ret)
 .skip))
 (.draw (.m 73 0<|
.m 74 1<|
.m 75 8<|
.p 76 [73,74,75] (.sliceStr (.t 73) (some (.t 74)) (some (.t 75)))<|
.f 77 0 6<|
.op none .any [77] (.store 1 (.t 77) (.i 3))<|
.f 78 1 6<|
.w 1 78 76<|
.nil) [0,0,0,7,0,16,63,127])))
 (.z (.m 80 7<|
.b 81 .eql .none (.t 80) (.con (V.int .u8 (Int.ofNat 39)))<|
.m 79 81<|
.nil)
 (.cond (.tmp 79) (.z (.f 82 0 6<|
.op none .any [82] (.store 1 (.t 82) (.i 4))<|
.nil)
 (.ops (.m 84 0<|
.m 85 1<|
.k 86 (.tup [.i,.str]) 70 [(.t 84),(.t 85)]<|
.m 83 86<|
.P 87 (.extract 0 (.t 83))<|
.P 88 (.extract 1 (.t 83))<|
.m 8 87<|
.f 89 1 6<|
.w 1 89 88<|
.nil)))
 (.z (.m 91 7<|
.b 92 .eql .none (.t 91) (.con (V.int .u8 (Int.ofNat 34)))<|
.m 90 92<|
.nil)
 (.cond (.tmp 90) (.z (.f 93 0 6<|
.op none .any [93] (.store 1 (.t 93) (.i 7))<|
.nil)
 (.ops (.m 95 0<|
.m 96 1<|
.k 97 (.tup [.i,.str]) 71 [(.t 95),(.t 96)]<|
.m 94 97<|
.P 98 (.extract 0 (.t 94))<|
.P 99 (.extract 1 (.t 94))<|
.m 8 98<|
.f 100 1 6<|
.w 1 100 99<|
.nil)))
 (.z (.m 15 0<|
.m 16 1<|
.k 17 .i 72 [(.t 15),(.t 16)]<|
.m 9 17<|
.nil)
 (.z (.m 18 9<|
.b 19 .gtr .none (.t 18) (.i 0)<|
.nil)
 (.cond (.tmp 19) (.draw (.m 20 0<|
.m 21 1<|
.m 22 1<|
.m 23 9<|
.b 24 .add .none (.t 22) (.t 23)<|
.p 25 [20,21,24] (.sliceStr (.t 20) (some (.t 21)) (some (.t 24)))<|
.m 26 1<|
.m 27 9<|
.b 28 .add .none (.t 26) (.t 27)<|
.f 29 0 6<|
.op none .any [29] (.store 1 (.t 29) (.i 6))<|
.f 30 1 6<|
.w 1 30 25<|
.m 8 28<|
.nil) [0,0,0,0,12,31,0,0,192,0,512,1599,3647,8191])
 .skip))))))))))))
 (.keep [(8,.i)] [4,6] q38a cc1))))))
def T38_0 (E:List (Nat × Blk)) (D:Den) (W:DrawFn) (K1:Int→Int→BS→Int→Int→BS→Int→H→Ans) (K2:Int→Int→BS→Int→Int→BS→Int→H→Ans) (a:BS) (b:Int) (σ:H):Ans:=
 idxStrX a b fun x1=>
 callK (D 65 [.int .u8 x1] σ) fun u2 s3=>
 rtBool u2 fun x4=>
 condK x4 (
 callK (D 66 [.str a,.int .i64 b] s3) fun u5 s6=>
 rtInt .i64 u5 fun x7=>
 condK (ltF x7 (Int.ofNat 0)) (
 some ((V.tup [.agg [.int .i64 (Int.ofNat 0),.str (BS.mk 0 0),.int .i64 b],.int .i64 (Int.negSucc 0)]),s6)) (
 sliceStrX a (some (V.int .i64 b)) (some (V.int .i64 x7)) fun t8=>
 condK (leF x1 (Int.ofNat 90)) (
 K2 x7 (Int.ofNat 0) (BS.mk 0 0) (Int.ofNat 0) (Int.ofNat 1) t8 b s6) (
 K2 x7 (Int.ofNat 0) (BS.mk 0 0) (Int.ofNat 0) (Int.ofNat 2) t8 b s6))) (
 callK (D 68 [.int .u8 x1] s3) fun u9 s10=>
 rtBool u9 fun x11=>
 joinB (fun c12 s13=>
 condK c12 (
 callK (D 69 [.str a,.int .i64 b] s13) fun u15 s16=>
 rtInt .i64 u15 fun x17=>
 condK (ltF x17 (Int.ofNat 0)) (
 some ((V.tup [.agg [.int .i64 (Int.ofNat 0),.str (BS.mk 0 0),.int .i64 b],.int .i64 (Int.negSucc 0)]),s16)) (
 sliceStrX a (some (V.int .i64 b)) (some (V.int .i64 x17)) fun t18=>
 K1 x17 (Int.ofNat 0) (BS.mk 0 0) (Int.ofNat 0) (Int.ofNat 3) t18 b s16)) (
 condK (eqF x1 (Int.ofNat 39)) (
 callK (D 70 [.str a,.int .i64 b] s13) fun u19 s20=>
 rtTup u19 fun l21=>
 xcI .i64 l21 fun x24 l23=>
 xcS l23 fun x27 l26=>
 rtNil l26 (
 K1 x24 (Int.ofNat 0) (BS.mk 0 0) (Int.ofNat 0) (Int.ofNat 4) x27 b s20)) (
 condK (eqF x1 (Int.ofNat 34)) (
 callK (D 71 [.str a,.int .i64 b] s13) fun u28 s29=>
 rtTup u28 fun l30=>
 xcI .i64 l30 fun x33 l32=>
 xcS l32 fun x36 l35=>
 rtNil l35 (
 K1 x33 (Int.ofNat 0) (BS.mk 0 0) (Int.ofNat 0) (Int.ofNat 7) x36 b s29)) (
 callK (D 72 [.str a,.int .i64 b] s13) fun u37 s38=>
 rtInt .i64 u37 fun x39=>
 condK (ltF (Int.ofNat 0) x39) (
 sliceStrX a (some (V.int .i64 b)) (some (V.int .i64 (addF .i64 b x39))) fun t40=>
 K1 (addF .i64 b x39) (Int.ofNat 0) (BS.mk 0 0) (Int.ofNat 0) (Int.ofNat 6) t40 b s38) (
 K1 (Int.negSucc 0) (Int.ofNat 0) (BS.mk 0 0) (Int.ofNat 0) (Int.ofNat 0) (BS.mk 0 0) b s38))))) fun k14=>
 condK x11 (
 k14 true s10) (
 joinB (fun c41 s42=>
 k14 c41 s42) fun k43=>
 condK (eqF x1 (Int.ofNat 45)) (
 callK (D 64 [.str a,.int .i64 (addF .i64 b (Int.ofNat 1))] s10) fun u44 s45=>
 rtInt .u8 u44 fun x46=>
 callK (D 68 [.int .u8 x46] s45) fun u47 s48=>
 rtBool u47 fun x49=>
 k43 x49 s48) (
 k43 false s10)))
def C38_1:XC:=(.z (.O 101 y6 (.load (some 3) (.t 6))<|
.m 102 8<|
.op none y6 [4,101] (.store 3 (.t 4) (.t 101))<|
.m 5 102<|
.nil)
 .ret)
def T38_1 (E:List (Nat × Blk)) (D:Den) (W:DrawFn) (a b:Int) (c:BS) (d e:Int) (f:BS) (g:Int) (σ:H):Ans:=
 some ((V.tup [.agg [.int .i64 e,.str f,.int .i64 g],.int .i64 a]),σ)
def C38_2:XC:=(.z (.f 49 1 6<|
.l 50 .str 49<|
.k 51 .bool 67 [(.t 50)]<|
.nil)
 (.cond (.tmp 51) (.ops (.f 52 0 6<|
.op none .any [52] (.store 1 (.t 52) (.i 5))<|
.nil))
 .skip))
def T38_2 (E:List (Nat × Blk)) (D:Den) (W:DrawFn) (K1:Int→Int→BS→Int→Int→BS→Int→H→Ans) (a b:Int) (c:BS) (d e:Int) (f:BS) (g:Int) (σ:H):Ans:=
 callK (D 67 [.str f] σ) fun u1 s2=>
 rtBool u1 fun x3=>
 condK x3 (
 K1 a b c d (Int.ofNat 5) f g s2) (
 K1 a b c d e f g s2)
def J38_1 (E:List (Nat × Blk)) (D:Den) (W:DrawFn) (N:Nat):=T38_1 E D W
def J38_2:=T38_2 E D W (J38_1 E D W N )
def F38 (args:List V) (σ:H):Ans:=
 xcS args fun x3 l2=>
 xcI .i64 l2 fun x6 l5=>
 rtNil l5 (
 T38_0 E D W (J38_1 E D W N ) (J38_2 E D W N ) x3 x6 σ)
def A38:XFn:=⟨103,[.str,.i],[(.cell 4 (some 3)),(.tmp 5)],(C38_0 C38_1 C38_2)⟩
theorem FE38 (args:List V) (σ:H):runX E D W N A38 args σ=F38 E D W N args σ:=by kernel_rfl
def C39_0 (cc1:XC):XC:=(.z (.pal 2 [] 73 [y0,y5,y0]<|
.nil)
 (.seq (.draw (.m 4 0<|
.n 5 4<|
.f 6 0 5<|
.l 7 .any 6<|
.m 8 0<|
.n 9 8<|
.f 10 1 9<|
.l 11 .i 10<|
.s 12 3 7 11<|
.O 13 y6 (.load (some 3) (.t 12))<|
.pal 3 [] 73 [y0,y5,y0]<|
.op none y6 [3,13] (.store 3 (.t 3) (.t 13))<|
.nil) [0,1,3,7,0,16,48,112,255,511,0,2047])
 (.seq (.seq (.draw (.m 14 0<|
.n 15 14<|
.f 16 1 15<|
.l 17 .i 16<|
.b 18 .add .none (.t 17) (.i 1)<|
.m 19 0<|
.n 20 19<|
.f 21 0 20<|
.l 22 .any 21<|
.u 23 22<|
.b 24 .lss .none (.t 18) (.t 23)<|
.nil) [0,1,3,7,15,0,32,96,224,480,1023])
 (.cond (.tmp 24) (.ops (.m 25 0<|
.n 26 25<|
.f 27 1 26<|
.l 28 .i 27<|
.b 29 .add .none (.t 28) (.i 1)<|
.n 30 25<|
.f 31 1 30<|
.w 1 31 29<|
.nil))
 .skip))
 (.keep [] [2,3] [(2,[.i,.str,.i]),(3,[.i,.str,.i])] cc1))))
def T39_0 (E:List (Nat × Blk)) (D:Den) (W:DrawFn) (K1:Int→BS→Int→Int→BS→Int→H→Ans) (a b:Nat) (σ:H):Ans:=
 ldK E σ a b fun u1=>
 ldK E σ a (Nat.add b 1) fun u2=>
 rtInt .i64 u2 fun x3=>
 iaddrSK 3 u1 x3 fun b4 o5=>
 ldnK E σ b4 o5 3 fun l6=>
 xcI .i64 l6 fun x9 l8=>
 xcS l8 fun x12 l11=>
 xcI .i64 l11 fun x15 l14=>
 rtNil l14 (
 ldK E σ a (Nat.add b 1) fun u16=>
 rtInt .i64 u16 fun x17=>
 ldK E σ a b fun u18=>
 slenK u18 fun n19=>
 condK (ltF (addF .i64 x17 (Int.ofNat 1)) (Int.ofNat n19)) (
 ldK E σ a (Nat.add b 1) fun u20=>
 rtInt .i64 u20 fun x21=>
 stK 1 a (Nat.add b 1) (V.int .i64 (addF .i64 x21 (Int.ofNat 1))) σ fun s22=>
 K1 (Int.ofNat 0) (BS.mk 0 0) (Int.ofNat 0) x9 x12 x15 s22) (
 K1 (Int.ofNat 0) (BS.mk 0 0) (Int.ofNat 0) x9 x12 x15 σ))
def C39_1:XC:=(.z (.O 32 y6 (.load (some 3) (.t 3))<|
.op none y6 [2,32] (.store 3 (.t 2) (.t 32))<|
.nil)
 .ret)
def T39_1 (E:List (Nat × Blk)) (D:Den) (W:DrawFn) (a:Int) (b:BS) (c d:Int) (e:BS) (f:Int) (σ:H):Ans:=
 some ((V.agg [.int .i64 d,.str e,.int .i64 f]),σ)
def J39_1 (E:List (Nat × Blk)) (D:Den) (W:DrawFn) (N:Nat):=T39_1 E D W
def F39 (args:List V) (σ:H):Ans:=
 rtCons args fun x1 l2=>
 rtPtr x1 fun b3 o4=>
 rtNil l2 (
 T39_0 E D W (J39_1 E D W N ) b3 o4 σ)
def A39:XFn:=⟨33,[.ptr],[(.cell 2 (some 3))],(C39_0 C39_1)⟩
theorem FE39 (args:List V) (σ:H):runX E D W N A39 args σ=F39 E D W N args σ:=by kernel_rfl
def q40a:List (Nat × XTy):=[(1,.ptr),(3,.any),(4,.i)]
def Fin40 (E:List (Nat × Blk)):St→Ans:=fun s=>resK E s [(.tmp 2)] fun l=>some (oneV l,s.σ)
def b40a (c0:XC):Nat→St→Ans:=blkK 0 (dX E D W N (.keep [(1,.ptr)] [] [] c0) (Fin40 E) nX (Fin40 E)) nX
def C40_0 (cc1:XC) (cc2:XC):XC:=(.z (.P 1 (.box 73 (.t 0))<|
.c 2 y1<|
.nil)
 (.z (.p 5 [] (.buildSlice 9 10 [y5,y5,y5,y5,y5,y5,y5,y5,y5,y5] [(0,1,(.con (V.str ⟨1,91⟩))),(1,1,(.con (V.str ⟨7,22026814072246082⟩))),(2,1,(.con (V.str ⟨4,1280070990⟩))),(3,1,y22),(4,1,(.con (V.str ⟨7,23157120498421321⟩))),(5,1,(.con (V.str ⟨5,361940403023⟩))),(6,1,y23),(7,1,(.con (V.str ⟨3,5522771⟩))),(8,1,(.con (V.str ⟨6,76155295057987⟩))),(9,1,y32)])<|
.m 3 5<|
.nil)
 (.seq (.z (.q 4 0<|
.nil)
 (.block 0 (.loop q40a [] [] cc2)))
 (.keep [(1,.ptr)] [] [] cc1))))
def T40_0 (E:List (Nat × Blk)) (D:Den) (W:DrawFn) (K2:Nat→Nat→V→Int→H→Ans) (a:Int) (b:BS) (c:Int) (σ:H):Ans:=
 nbK [.int .i64 a,.str b,.int .i64 c] σ fun s1=>
 let s2:=newB s1 (.cells [.str (BS.mk 1 91),.str (BS.mk 7 22026814072246082),.str (BS.mk 4 1280070990),.str (BS.mk 10 488440487847103610377301),.str (BS.mk 7 23157120498421321),.str (BS.mk 5 361940403023),.str (BS.mk 10 322399817400452109389381),.str (BS.mk 3 5522771),.str (BS.mk 6 76155295057987),.str (BS.mk 8 4990918871747741011)]);
 K2 (H.next σ) 0 (V.sl (H.next s1) 0 10 (.ex 10)) (Int.ofNat 0) s2
def C40_1:XC:=(.z (.f 29 0 1<|
.l 30 .i 29<|
.b 31 .eql .none (.t 30) (.i 1)<|
.m 2 31<|
.nil)
 .ret)
def T40_1 (E:List (Nat × Blk)) (D:Den) (W:DrawFn) (a b:Nat) (σ:H):Ans:=
 ldK E σ a b fun u1=>
 rtInt .i64 u1 fun x2=>
 some ((V.bool (eqF x2 (Int.ofNat 1))),σ)
def C40_2:XC:=(.seq (.z (.m 6 4<|
.m 7 3<|
.u 8 7<|
.b 9 .lss .none (.t 6) (.t 8)<|
.nil)
 y18)
 (.seq (.block 1 (.seq (.draw (.m 12 3<|
.m 13 4<|
.s 14 1 12 13<|
.l 15 .str 14<|
.f 16 1 1<|
.l 17 .str 16<|
.b 18 .eql .none (.t 15) (.t 17)<|
.m 19 18<|
.gA 19 true (.p 20 [1,19] (.faddr 0 (.t 1))<|
.op (some 21) .i [20,19] (.load none (.t 20))<|
.p 22 [21,19] (.bin .eql .none (.t 21) (.i 5))<|
.p 23 [22,19] (.mov (.t 22))<|
.grp 23 false (.p 24 [1,23] (.faddr 0 (.t 1))<|
.op (some 25) .i [24,23] (.load none (.t 24))<|
.p 26 [25,23] (.bin .eql .none (.t 25) (.i 6))<|
.nil) 27 [23,26,19] (.t 23) y11 (.t 26)<|
.nil) 28 19 27<|
.nil) [0,0,3,7,0,16,63,127,255,511,1023,2047,4095,8191,16383,32767,65535])
 (.cond (.tmp 28) (.z (.c 2 (V.bool true)<|
.nil)
 .ret)
 .skip)))
 (.ops (.m 10 4<|
.b 11 .add .none (.t 10) (.i 1)<|
.m 4 11<|
.nil))))
def T40_2 (E:List (Nat × Blk)) (D:Den) (W:DrawFn) (K1:Nat→Nat→H→Ans) (R2:Nat→Nat→V→Int→H→Ans) (a b:Nat) (c:V) (d:Int) (σ:H):Ans:=
 slenK c fun n1=>
 condK (ltF d (Int.ofNat n1)) (
 iaddrSK 1 c d fun b2 o3=>
 ldK E σ b2 o3 fun u4=>
 rtStr u4 fun x5=>
 ldK E σ a (Nat.add b 1) fun u6=>
 rtStr u6 fun x7=>
 joinB (fun c8 s9=>
 condK c8 (
 some ((V.bool true),s9)) (
 R2 a b c (addF .i64 d (Int.ofNat 1)) s9)) fun k10=>
 condK (BS.beq x5 x7) (
 ldK E σ a b fun u11=>
 rtInt .i64 u11 fun x12=>
 joinB (fun c13 s14=>
 k10 c13 s14) fun k15=>
 condK (eqF x12 (Int.ofNat 5)) (
 k15 true σ) (
 ldK E σ a b fun u16=>
 rtInt .i64 u16 fun x17=>
 k15 (eqF x17 (Int.ofNat 6)) σ)) (
 k10 false σ)) (
 K1 a b σ)
def S40_0 (a:Int) (b:BS) (c:Int) (σ:H):St:=⟨[(0,.agg [.int .i64 a,.str b,.int .i64 c])],[],[],σ⟩
def S40_1 (a b:Nat) (σ:H):St:=⟨[(1,.ptr a b)],[],[],σ⟩
def S40_2 (a b:Nat) (c:V) (d:Int) (σ:H):St:=⟨[(1,.ptr a b),(3,c),(4,.int .i64 d)],[],[],σ⟩
theorem P40_0 (cc1:XC) (cc2:XC) (a:Int) (b:BS) (c:Int) (σ:H) :
 denC E D W N (C40_0 cc1 cc2) (S40_0 a b c σ) (Fin40 E) nX (Fin40 E) =
 T40_0 E D W (fun d e f g σ=>iterK (fun rec s'=>denC E D W N cc2 s' (kX q40a [] [] rec) (b40a E D W N cc1) (Fin40 E)) N (S40_2 d e f g σ)) a b c σ:=by kernel_rfl
theorem P40_2 (cc1:XC) (li2:St→Ans) (a b:Nat) (c:V) (d:Int) (σ:H) :
 denC E D W N (C40_2 ) (S40_2 a b c d σ) (kX q40a [] [] li2) (b40a E D W N cc1) (Fin40 E) =
 T40_2 E D W (fun a b σ=>denC E D W N cc1 (S40_1 a b σ) (Fin40 E) nX (Fin40 E)) (fun a b c d σ=>li2 (S40_2 a b c d σ)) a b c d σ:=by kernel_rfl
def J40_1 (E:List (Nat × Blk)) (D:Den) (W:DrawFn) (N:Nat):=T40_1 E D W
theorem JE40_1 (a b:Nat) (σ:H) :
 denC E D W N C40_1 (S40_1 a b σ) (Fin40 E) nX (Fin40 E)=J40_1 E D W N a b σ:=by kernel_rfl
def L40_2 (n:Nat):Nat→Nat→V→Int→H→Ans:=
 Nat.rec (fun _ _ _ _ _=>none) (fun _ ih=>T40_2 E D W (J40_1 E D W N ) ih) n
theorem LE40_2 (n:Nat):∀(a b:Nat) (c:V) (d:Int) (σ:H),
 iterK (fun rec s'=>denC E D W N C40_2 s' (kX q40a [] [] rec) (b40a E D W N C40_1) (Fin40 E)) n (S40_2 a b c d σ)=L40_2 E D W N n a b c d σ:=by
 induction n with
 | zero=>intro a b c d σ;rfl
 | succ n ihn=>
  intro a b c d σ
  rw[iterK_succ]
  refine(P40_2 E D W N C40_1 (iterK (fun rec s'=>denC E D W N C40_2 s' (kX q40a [] [] rec) (b40a E D W N C40_1) (Fin40 E)) n) a b c d σ).trans ?_
  simp only[ihn,JE40_1]
  kernel_rfl
def J40_0:=T40_0 E D W (L40_2 E D W N N)
theorem JE40_0 (a:Int) (b:BS) (c:Int) (σ:H) :
 denC E D W N (C40_0 C40_1 C40_2) (S40_0 a b c σ) (Fin40 E) nX (Fin40 E)=J40_0 E D W N a b c σ:=by
 refine(P40_0 E D W N C40_1 C40_2  a b c σ).trans ?_
 simp only[LE40_2]
 kernel_rfl
def F40 (args:List V) (σ:H):Ans:=
 rtCons args fun x1 l2=>
 rtAgg x1 fun l3=>
 xcI .i64 l3 fun x6 l5=>
 xcS l5 fun x9 l8=>
 xcI .i64 l8 fun x12 l11=>
 rtNil l11 (
 rtNil l2 (
 J40_0 E D W N x6 x9 x12 σ))
def A40:XFn:=⟨32,[y6],[(.tmp 2)],(C40_0 C40_1 C40_2)⟩
theorem FE40 (args:List V) (σ:H):runX E D W N A40 args σ=F40 E D W N args σ:=by
 unfold F40
 simp only[←JE40_0]
 kernel_rfl
def C41_0:XC:=(.z (.q 2 0<|
.nil)
 (.z (.m 4 0<|
.k 5 .str 20 [(.t 4),(.i 3)]<|
.m 3 5<|
.nil)
 (.seq (.z (.m 6 3<|
.b 7 .eql .none (.t 6) (.con y5)<|
.nil)
 (.cond (.tmp 7) (.z (.q 2 0<|
.nil)
 .ret)
 .skip))
 (.z (.m 8 3<|
.k 9 .i 73 [(.t 8)]<|
.m 2 9<|
.nil)
 .ret))))
def T41_0 (E:List (Nat × Blk)) (D:Den) (W:DrawFn) (a:V) (σ:H):Ans:=
 callK (D 20 [a,.int .i64 (Int.ofNat 3)] σ) fun u1 s2=>
 rtStr u1 fun x3=>
 condK (BS.beq x3 (BS.mk 0 0)) (
 some ((V.int .i64 (Int.ofNat 0)),s2)) (
 callK (D 73 [.str x3] s2) fun u4 s5=>
 rtInt .i64 u4 fun x6=>
 some ((V.int .i64 x6),s5))
def F41 (N:Nat) (args:List V) (σ:H):Ans:=
 rtCons args fun x1 l2=>
 rtNil l2 (
 T41_0 E D W x1 σ)
def A41:XFn:=⟨10,[.any],[(.tmp 2)],C41_0⟩
theorem FE41 (args:List V) (σ:H):runX E D W N A41 args σ=F41 E D W N args σ:=by kernel_rfl
def G42_0:List AOper:=[⟨(some 139),.mov (.tmp 1),none⟩,⟨(some 140),.mov (.tmp 1),none⟩,⟨(some 141),.faddr 1 (.tmp 6),none⟩,⟨(some 142),.load none (.tmp 141),none⟩,⟨(some 143),.nilck (.tmp 139),none⟩,⟨(some 144),.faddr 0 (.tmp 143),none⟩,⟨none,.store 1 (.tmp 144) (.con (V.int .i64 (Int.ofNat 11))),none⟩,⟨(some 145),.nilck (.tmp 140),none⟩,⟨(some 146),.faddr 1 (.tmp 145),none⟩,⟨none,.store 1 (.tmp 146) (.tmp 142),none⟩]
def H42_0:List DP:=[⟨0,[1]⟩,⟨0,[1]⟩,⟨0,[6]⟩,⟨4,[141]⟩,⟨1,[139]⟩,⟨17,[143]⟩,⟨49,[144]⟩,⟨127,[140]⟩,⟨255,[145]⟩,⟨511,[146,142]⟩]
def C42_0:XC:=(.z (.m 7 0<|
.k 8 y6 23 [(.t 7)]<|
.p 6 [] (.alloc 73 [y0,y5,y0])<|
.op none y6 [6,8] (.store 3 (.t 6) (.t 8))<|
.nil)
 (.block 0 (.z (.m 13 0<|
.n 14 13<|
.f 15 7 14<|
.l 16 .i 15<|
.b 17 .neq .none (.t 16) (.i 0)<|
.m 12 17<|
.nil)
 (.cond (.tmp 12) .skip
 (.z (.m 19 0<|
.k 20 .bool 22 [(.t 19),(.con (V.str ⟨7,22026814072246082⟩))]<|
.m 18 20<|
.nil)
 (.cond (.tmp 18) (.ops (.m 21 1<|
.n 22 21<|
.f 23 0 22<|
.op none .any [23] (.store 1 (.t 23) (.i 1))<|
.nil))
 (.z (.m 25 0<|
.k 26 .bool 22 [(.t 25),(.con (V.str ⟨4,1280070990⟩))]<|
.m 24 26<|
.nil)
 (.cond (.tmp 24) (.ops (.m 27 1<|
.n 28 27<|
.f 29 0 28<|
.op none .any [29] (.store 1 (.t 29) (.i 4))<|
.nil))
 (.z (.m 31 0<|
.k 32 .bool 22 [(.t 31),y22]<|
.m 30 32<|
.nil)
 (.cond (.tmp 30) (.z (.m 33 1<|
.n 34 33<|
.f 35 0 34<|
.op none .any [35] (.store 1 (.t 35) (.i 6))<|
.nil)
 (.ops (.m 36 1<|
.m 37 0<|
.k 38 y4 74 [(.t 37)]<|
.n 39 36<|
.f 40 5 39<|
.op none y4 [40,38] (.store 6 (.t 40) (.t 38))<|
.nil)))
 (.z (.m 42 0<|
.k 43 .bool 22 [(.t 42),(.con (V.str ⟨7,23157120498421321⟩))]<|
.m 41 43<|
.nil)
 (.cond (.tmp 41) (.z (.m 44 1<|
.n 45 44<|
.f 46 0 45<|
.op none .any [46] (.store 1 (.t 46) (.i 2))<|
.nil)
 (.z (.m 47 0<|
.k 48 .bool 22 [(.t 47),(.con (V.str ⟨1,40⟩))]<|
.nil)
 (.cond (.tmp 48) (.z (.m 49 1<|
.m 50 0<|
.k 51 y4 75 [(.t 50)]<|
.n 52 49<|
.f 53 5 52<|
.op none y4 [53,51] (.store 6 (.t 53) (.t 51))<|
.nil)
 (.ops (.m 54 0<|
.k 55 y16 21 [(.t 54),(.con (V.str ⟨1,41⟩))]<|
.nil)))
 .skip)))
 (.z (.m 57 0<|
.k 58 .bool 22 [(.t 57),(.con (V.str ⟨5,361940403023⟩))]<|
.m 56 58<|
.nil)
 (.cond (.tmp 56) (.z (.m 59 0<|
.k 60 y16 21 [(.t 59),(.con (V.str ⟨6,78401563153491⟩))]<|
.nil)
 (.z (.m 61 1<|
.n 62 61<|
.f 63 0 62<|
.op none .any [63] (.store 1 (.t 63) (.i 5))<|
.nil)
 (.ops (.m 64 1<|
.m 65 0<|
.k 66 y4 74 [(.t 65)]<|
.n 67 64<|
.f 68 5 67<|
.op none y4 [68,66] (.store 6 (.t 68) (.t 66))<|
.nil))))
 (.z (.m 70 0<|
.k 71 .bool 22 [(.t 70),y23]<|
.m 69 71<|
.nil)
 (.cond (.tmp 69) (.z (.m 72 1<|
.n 73 72<|
.f 74 0 73<|
.op none .any [74] (.store 1 (.t 74) (.i 3))<|
.nil)
 (.z (.m 75 0<|
.k 76 y16 21 [(.t 75),y26]<|
.nil)
 (.z (.m 77 0<|
.m 78 1<|
.k 79 y16 76 [(.t 77),(.t 78)]<|
.nil)
 (.ops (.m 80 0<|
.k 81 y16 21 [(.t 80),(.con (V.str ⟨1,125⟩))]<|
.nil)))))
 (.z (.m 83 0<|
.k 84 .bool 22 [(.t 83),(.con (V.str ⟨3,5522771⟩))]<|
.m 82 84<|
.nil)
 (.cond (.tmp 82) (.z (.m 85 1<|
.n 86 85<|
.f 87 0 86<|
.op none .any [87] (.store 1 (.t 87) (.i 8))<|
.nil)
 (.z (.m 88 0<|
.k 89 y16 21 [(.t 88),y26]<|
.nil)
 (.ops (.m 90 0<|
.m 91 1<|
.m 92 2<|
.k 93 y16 77 [(.t 90),(.t 91),(.t 92)]<|
.nil))))
 (.z (.m 95 0<|
.k 96 .bool 22 [(.t 95),(.con (V.str ⟨6,76155295057987⟩))]<|
.m 94 96<|
.nil)
 (.cond (.tmp 94) (.z (.m 97 1<|
.n 98 97<|
.f 99 0 98<|
.op none .any [99] (.store 1 (.t 99) (.i 9))<|
.nil)
 (.z (.m 100 0<|
.k 101 y16 21 [(.t 100),y26]<|
.nil)
 (.ops (.m 102 0<|
.m 103 1<|
.m 104 2<|
.k 105 y16 77 [(.t 102),(.t 103),(.t 104)]<|
.nil))))
 (.z (.m 107 0<|
.k 108 .bool 22 [(.t 107),y32]<|
.m 106 108<|
.nil)
 (.cond (.tmp 106) (.seq (.z (.m 109 0<|
.k 110 .bool 22 [(.t 109),y26]<|
.nil)
 (.cond (.tmp 110) (.z (.m 111 1<|
.n 112 111<|
.f 113 0 112<|
.op none .any [113] (.store 1 (.t 113) (.i 7))<|
.nil)
 (.z (.m 114 0<|
.m 115 1<|
.m 116 2<|
.k 117 y16 77 [(.t 114),(.t 115),(.t 116)]<|
.nil)
 .ret))
 .skip))
 (.z (.m 118 1<|
.n 119 118<|
.f 120 0 119<|
.op none .any [120] (.store 1 (.t 120) (.i 10))<|
.nil)
 (.z (.m 121 1<|
.m 122 0<|
.k 123 y4 74 [(.t 122)]<|
.n 124 121<|
.f 125 5 124<|
.op none y4 [125,123] (.store 6 (.t 125) (.t 123))<|
.nil)
 (.z (.m 126 0<|
.k 127 y16 21 [(.t 126),(.con (V.str ⟨2,17999⟩))]<|
.nil)
 (.ops (.m 128 1<|
.m 129 0<|
.m 130 2<|
.b 131 .add .none (.t 130) (.i 1)<|
.k 132 .i 25 [(.t 129),(.t 131)]<|
.n 133 128<|
.f 134 15 133<|
.w 1 134 132<|
.nil))))))
 (.z (.f 136 0 6<|
.l 137 .i 136<|
.b 138 .eql .none (.t 137) (.i 1)<|
.m 135 138<|
.nil)
 (.cond (.tmp 135) (.seq (.keep [(0,.ptr),(1,.ptr),(6,.ptr)] [] [] (.gdraw G42_0 H42_0 [(0,.ptr)]))
 (.ops (.m 147 0<|
.k 148 y6 39 [(.t 147)]<|
.nil)))
 (.ops (.m 9 0<|
.O 10 y6 (.load (some 3) (.t 6))<|
.k 11 y16 24 [(.t 9),(.i 7),(.t 10)]<|
.nil))))))))))))))))))))))))))
def T42_0 (a b c d:Nat) (e:Int) (σ:H):Ans:=
 callK (D 23 [.ptr a b] σ) fun u1 s2=>
 rtAgg u1 fun l3=>
 xcI .i64 l3 fun x6 l5=>
 xcS l5 fun x9 l8=>
 xcI .i64 l8 fun x12 l11=>
 rtNil l11 (
 let s13:=newB s2 (.cells [.int .i64 (Int.ofNat 0),.str ⟨0,0⟩,.int .i64 (Int.ofNat 0)]);
 stK 3 (H.next s2) 0 (V.agg [.int .i64 x6,.str x9,.int .i64 x12]) s13 fun s14=>
 ldK E s14 a (Nat.add b 7) fun u15=>
 rtInt .i64 u15 fun x16=>
 condK (not (eqF x16 (Int.ofNat 0))) (
 some ((V.tup []),s14)) (
 callK (D 22 [.ptr a b,.str (BS.mk 7 22026814072246082)] s14) fun u17 s18=>
 rtBool u17 fun x19=>
 condK x19 (
 stK 1 c d (V.int .i64 (Int.ofNat 1)) s18 fun s20=>
 some ((V.tup []),s20)) (
 callK (D 22 [.ptr a b,.str (BS.mk 4 1280070990)] s18) fun u21 s22=>
 rtBool u21 fun x23=>
 condK x23 (
 stK 1 c d (V.int .i64 (Int.ofNat 4)) s22 fun s24=>
 some ((V.tup []),s24)) (
 callK (D 22 [.ptr a b,.str (BS.mk 10 488440487847103610377301)] s22) fun u25 s26=>
 rtBool u25 fun x27=>
 condK x27 (
 stK 1 c d (V.int .i64 (Int.ofNat 6)) s26 fun s28=>
 callK (D 74 [.ptr a b] s28) fun u29 s30=>
 rtAgg u29 fun l31=>
 xcB l31 fun x34 l33=>
 xcB l33 fun x37 l36=>
 xcB l36 fun x40 l39=>
 xcB l39 fun x43 l42=>
 xcI .i64 l42 fun x46 l45=>
 xcI .i64 l45 fun x49 l48=>
 rtNil l48 (
 stK 6 c (Nat.add d 5) (V.agg [.bool x34,.bool x37,.bool x40,.bool x43,.int .i64 x46,.int .i64 x49]) s30 fun s50=>
 some ((V.tup []),s50))) (
 callK (D 22 [.ptr a b,.str (BS.mk 7 23157120498421321)] s26) fun u51 s52=>
 rtBool u51 fun x53=>
 condK x53 (
 stK 1 c d (V.int .i64 (Int.ofNat 2)) s52 fun s54=>
 callK (D 22 [.ptr a b,.str (BS.mk 1 40)] s54) fun u55 s56=>
 rtBool u55 fun x57=>
 condK x57 (
 callK (D 75 [.ptr a b] s56) fun u58 s59=>
 rtAgg u58 fun l60=>
 xcB l60 fun x63 l62=>
 xcB l62 fun x66 l65=>
 xcB l65 fun x69 l68=>
 xcB l68 fun x72 l71=>
 xcI .i64 l71 fun x75 l74=>
 xcI .i64 l74 fun x78 l77=>
 rtNil l77 (
 stK 6 c (Nat.add d 5) (V.agg [.bool x63,.bool x66,.bool x69,.bool x72,.int .i64 x75,.int .i64 x78]) s59 fun s79=>
 callK (D 21 [.ptr a b,.str (BS.mk 1 41)] s79) fun u80 s81=>
 rtTup u80 fun l82=>
 rtNil l82 (
 some ((V.tup []),s81)))) (
 some ((V.tup []),s56))) (
 callK (D 22 [.ptr a b,.str (BS.mk 5 361940403023)] s52) fun u83 s84=>
 rtBool u83 fun x85=>
 condK x85 (
 callK (D 21 [.ptr a b,.str (BS.mk 6 78401563153491)] s84) fun u86 s87=>
 rtTup u86 fun l88=>
 rtNil l88 (
 stK 1 c d (V.int .i64 (Int.ofNat 5)) s87 fun s89=>
 callK (D 74 [.ptr a b] s89) fun u90 s91=>
 rtAgg u90 fun l92=>
 xcB l92 fun x95 l94=>
 xcB l94 fun x98 l97=>
 xcB l97 fun x101 l100=>
 xcB l100 fun x104 l103=>
 xcI .i64 l103 fun x107 l106=>
 xcI .i64 l106 fun x110 l109=>
 rtNil l109 (
 stK 6 c (Nat.add d 5) (V.agg [.bool x95,.bool x98,.bool x101,.bool x104,.int .i64 x107,.int .i64 x110]) s91 fun s111=>
 some ((V.tup []),s111)))) (
 callK (D 22 [.ptr a b,.str (BS.mk 10 322399817400452109389381)] s84) fun u112 s113=>
 rtBool u112 fun x114=>
 condK x114 (
 stK 1 c d (V.int .i64 (Int.ofNat 3)) s113 fun s115=>
 callK (D 21 [.ptr a b,.str (BS.mk 1 123)] s115) fun u116 s117=>
 rtTup u116 fun l118=>
 rtNil l118 (
 callK (D 76 [.ptr a b,.ptr c d] s117) fun u119 s120=>
 rtTup u119 fun l121=>
 rtNil l121 (
 callK (D 21 [.ptr a b,.str (BS.mk 1 125)] s120) fun u122 s123=>
 rtTup u122 fun l124=>
 rtNil l124 (
 some ((V.tup []),s123))))) (
 callK (D 22 [.ptr a b,.str (BS.mk 3 5522771)] s113) fun u125 s126=>
 rtBool u125 fun x127=>
 condK x127 (
 stK 1 c d (V.int .i64 (Int.ofNat 8)) s126 fun s128=>
 callK (D 21 [.ptr a b,.str (BS.mk 1 123)] s128) fun u129 s130=>
 rtTup u129 fun l131=>
 rtNil l131 (
 callK (D 77 [.ptr a b,.ptr c d,.int .i64 e] s130) fun u132 s133=>
 rtTup u132 fun l134=>
 rtNil l134 (
 some ((V.tup []),s133)))) (
 callK (D 22 [.ptr a b,.str (BS.mk 6 76155295057987)] s126) fun u135 s136=>
 rtBool u135 fun x137=>
 condK x137 (
 stK 1 c d (V.int .i64 (Int.ofNat 9)) s136 fun s138=>
 callK (D 21 [.ptr a b,.str (BS.mk 1 123)] s138) fun u139 s140=>
 rtTup u139 fun l141=>
 rtNil l141 (
 callK (D 77 [.ptr a b,.ptr c d,.int .i64 e] s140) fun u142 s143=>
 rtTup u142 fun l144=>
 rtNil l144 (
 some ((V.tup []),s143)))) (
 callK (D 22 [.ptr a b,.str (BS.mk 8 4990918871747741011)] s136) fun u145 s146=>
 rtBool u145 fun x147=>
 condK x147 (
 callK (D 22 [.ptr a b,.str (BS.mk 1 123)] s146) fun u148 s149=>
 rtBool u148 fun x150=>
 condK x150 (
 stK 1 c d (V.int .i64 (Int.ofNat 7)) s149 fun s151=>
 callK (D 77 [.ptr a b,.ptr c d,.int .i64 e] s151) fun u152 s153=>
 rtTup u152 fun l154=>
 rtNil l154 (
 some ((V.tup []),s153))) (
 stK 1 c d (V.int .i64 (Int.ofNat 10)) s149 fun s155=>
 callK (D 74 [.ptr a b] s155) fun u156 s157=>
 rtAgg u156 fun l158=>
 xcB l158 fun x161 l160=>
 xcB l160 fun x164 l163=>
 xcB l163 fun x167 l166=>
 xcB l166 fun x170 l169=>
 xcI .i64 l169 fun x173 l172=>
 xcI .i64 l172 fun x176 l175=>
 rtNil l175 (
 stK 6 c (Nat.add d 5) (V.agg [.bool x161,.bool x164,.bool x167,.bool x170,.int .i64 x173,.int .i64 x176]) s157 fun s177=>
 callK (D 21 [.ptr a b,.str (BS.mk 2 17999)] s177) fun u178 s179=>
 rtTup u178 fun l180=>
 rtNil l180 (
 callK (D 25 [.ptr a b,.int .i64 (addF .i64 e (Int.ofNat 1))] s179) fun u181 s182=>
 rtInt .i64 u181 fun x183=>
 stK 1 c (Nat.add d 15) (V.int .i64 x183) s182 fun s184=>
 some ((V.tup []),s184))))) (
 ldK E s146 (H.next s2) 0 fun u185=>
 rtInt .i64 u185 fun x186=>
 condK (eqF x186 (Int.ofNat 1)) (
 gdrawK (W G42_0 H42_0 [(0,.ptr a b),(1,.ptr c d),(6,.ptr (H.next s2) 0)] s146) fun e187 s188=>
 getL e187 0 fun u189=>
 rtPtr u189 fun b190 o191=>
 callK (D 39 [.ptr b190 o191] s188) fun u192 s193=>
 rtAgg u192 fun l194=>
 xcI .i64 l194 fun x197 l196=>
 xcS l196 fun x200 l199=>
 xcI .i64 l199 fun x203 l202=>
 rtNil l202 (
 some ((V.tup []),s193))) (
 ldnK E s146 (H.next s2) 0 3 fun l204=>
 xcI .i64 l204 fun x207 l206=>
 xcS l206 fun x210 l209=>
 xcI .i64 l209 fun x213 l212=>
 rtNil l212 (
 callK (D 24 [.ptr a b,.int .i64 (Int.ofNat 7),.agg [.int .i64 x207,.str x210,.int .i64 x213]] s146) fun u214 s215=>
 rtTup u214 fun l216=>
 rtNil l216 (
 some ((V.tup []),s215)))))))))))))))
def F42 (N:Nat) (args:List V) (σ:H):Ans:=
 rtCons args fun x1 l2=>
 rtPtr x1 fun b3 o4=>
 rtCons l2 fun x5 l6=>
 rtPtr x5 fun b7 o8=>
 xcI .i64 l6 fun x11 l10=>
 rtNil l10 (
 T42_0 E D W b3 o4 b7 o8 x11 σ)
def A42:XFn:=⟨149,[.ptr,.ptr,.i],[],C42_0⟩
theorem FE42 (args:List V) (σ:H):runX E D W N A42 args σ=F42 E D W N args σ:=by kernel_rfl
def q43a:List (Nat × XTy):=[(0,.any),(1,.str),(5,.i)]
def Fin43 (E:List (Nat × Blk)):St→Ans:=fun s=>resK E s [(.tmp 4)] fun l=>some (oneV l,s.σ)
def b43a (c0:XC):Nat→St→Ans:=blkK 0 (dX E D W N (.keep [] [] [] c0) (Fin43 E) nX (Fin43 E)) nX
def C43_0 (cc1:XC) (cc2:XC):XC:=(.z (.c 4 y1<|
.nil)
 (.seq (.z (.q 5 0<|
.nil)
 (.block 0 (.loop q43a [] [] cc2)))
 (.keep [] [] [] cc1)))
def T43_0 (E:List (Nat × Blk)) (D:Den) (W:DrawFn) (K2:V→BS→Int→H→Ans) (a:V) (b:BS) (σ:H):Ans:=
 K2 a b (Int.ofNat 0) σ
def C43_1:XC:=(.z (.c 4 y1<|
.nil)
 .ret)
def T43_1 (E:List (Nat × Blk)) (D:Den) (W:DrawFn) (σ:H):Ans:=
 some ((V.bool false),σ)
def C43_2:XC:=(.seq (.z (.m 6 5<|
.m 7 0<|
.u 8 7<|
.b 9 .lss .none (.t 6) (.t 8)<|
.nil)
 y18)
 (.seq (.block 1 (.z (.m 12 0<|
.m 13 5<|
.s 14 1 12 13<|
.l 15 .str 14<|
.m 16 1<|
.b 17 .eql .none (.t 15) (.t 16)<|
.nil)
 (.cond (.tmp 17) (.z (.c 4 (V.bool true)<|
.nil)
 .ret)
 .skip)))
 (.ops (.m 10 5<|
.b 11 .add .none (.t 10) (.i 1)<|
.m 5 11<|
.nil))))
def T43_2 (E:List (Nat × Blk)) (D:Den) (W:DrawFn) (K1:H→Ans) (R2:V→BS→Int→H→Ans) (a:V) (b:BS) (c:Int) (σ:H):Ans:=
 slenK a fun n1=>
 condK (ltF c (Int.ofNat n1)) (
 iaddrSK 1 a c fun b2 o3=>
 ldK E σ b2 o3 fun u4=>
 rtStr u4 fun x5=>
 condK (BS.beq x5 b) (
 some ((V.bool true),σ)) (
 R2 a b (addF .i64 c (Int.ofNat 1)) σ)) (
 K1 σ)
def S43_0 (a:V) (b:BS) (σ:H):St:=⟨[(0,a),(1,.str b)],[],[],σ⟩
def S43_1 (σ:H):St:=⟨[],[],[],σ⟩
def S43_2 (a:V) (b:BS) (c:Int) (σ:H):St:=⟨[(0,a),(1,.str b),(5,.int .i64 c)],[],[],σ⟩
theorem P43_0 (cc1:XC) (cc2:XC) (a:V) (b:BS) (σ:H) :
 denC E D W N (C43_0 cc1 cc2) (S43_0 a b σ) (Fin43 E) nX (Fin43 E) =
 T43_0 E D W (fun a b c σ=>iterK (fun rec s'=>denC E D W N cc2 s' (kX q43a [] [] rec) (b43a E D W N cc1) (Fin43 E)) N (S43_2 a b c σ)) a b σ:=by kernel_rfl
theorem P43_2 (cc1:XC) (li2:St→Ans) (a:V) (b:BS) (c:Int) (σ:H) :
 denC E D W N (C43_2 ) (S43_2 a b c σ) (kX q43a [] [] li2) (b43a E D W N cc1) (Fin43 E) =
 T43_2 E D W (fun  σ=>denC E D W N cc1 (S43_1 σ) (Fin43 E) nX (Fin43 E)) (fun a b c σ=>li2 (S43_2 a b c σ)) a b c σ:=by kernel_rfl
def J43_1 (E:List (Nat × Blk)) (D:Den) (W:DrawFn) (N:Nat):=T43_1 E D W
theorem JE43_1 (σ:H) :
 denC E D W N C43_1 (S43_1 σ) (Fin43 E) nX (Fin43 E)=J43_1 E D W N  σ:=by kernel_rfl
def L43_2 (n:Nat):V→BS→Int→H→Ans:=
 Nat.rec (fun _ _ _ _=>none) (fun _ ih=>T43_2 E D W (J43_1 E D W N ) ih) n
theorem LE43_2 (n:Nat):∀(a:V) (b:BS) (c:Int) (σ:H),
 iterK (fun rec s'=>denC E D W N C43_2 s' (kX q43a [] [] rec) (b43a E D W N C43_1) (Fin43 E)) n (S43_2 a b c σ)=L43_2 E D W N n a b c σ:=by
 induction n with
 | zero=>intro a b c σ;rfl
 | succ n ihn=>
  intro a b c σ
  rw[iterK_succ]
  refine(P43_2 E D W N C43_1 (iterK (fun rec s'=>denC E D W N C43_2 s' (kX q43a [] [] rec) (b43a E D W N C43_1) (Fin43 E)) n) a b c σ).trans ?_
  simp only[ihn,JE43_1]
  kernel_rfl
def J43_0:=T43_0 E D W (L43_2 E D W N N)
theorem JE43_0 (a:V) (b:BS) (σ:H) :
 denC E D W N (C43_0 C43_1 C43_2) (S43_0 a b σ) (Fin43 E) nX (Fin43 E)=J43_0 E D W N a b σ:=by
 refine(P43_0 E D W N C43_1 C43_2  a b σ).trans ?_
 simp only[LE43_2]
 kernel_rfl
def F43 (args:List V) (σ:H):Ans:=
 rtCons args fun x1 l2=>
 xcS l2 fun x5 l4=>
 rtNil l4 (
 J43_0 E D W N x1 x5 σ)
def A43:XFn:=⟨18,[.any,.str],[(.tmp 4)],(C43_0 C43_1 C43_2)⟩
theorem FE43 (args:List V) (σ:H):runX E D W N A43 args σ=F43 E D W N args σ:=by
 unfold F43
 simp only[←JE43_0]
 kernel_rfl
def q44a:List (Nat × List XTy):=[(10,[.i,.str,.bool,.i,.i,.bool,.bool,.bool,.bool,.i,.i,.any,.any,.i,.bool,.i])]
def q44b:List (Nat × XTy):=[(2,.i),(3,.any),(4,.ptr),(12,.bool),(13,.i)]
def q44c:List (Nat × XTy):=[(2,.i),(3,.any),(4,.ptr),(12,.bool)]
def q44d:List (Nat × XTy):=[(2,.i),(3,.any),(4,.ptr)]
def Fin44 (E:List (Nat × Blk)):St→Ans:=fun s=>resK E s [(.tmp 8),(.tmp 9)] fun l=>some (oneV l,s.σ)
def b44a (c0:XC):Nat→St→Ans:=blkK 0 (dX E D W N (.keep q44c [10] q44a c0) (Fin44 E) nX (Fin44 E)) nX
def C44_0 (cc1:XC) (cc2:XC):XC:=(.z (.P 4 (.box 51 (.t 0))<|
.c 8 V.nils<|
.c 9 y1<|
.nil)
 (.seq (.z (.m 16 1<|
.b 17 .lss .none (.t 16) (.i 0)<|
.m 18 17<|
.gO 18 false (.p 19 [1,18] y15<|
.p 20 [4,18] (.faddr 4 (.t 4))<|
.p 21 [20,18] (.load none (.t 20))<|
.p 22 [21,18] (.len false (.t 21))<|
.p 23 [19,22,18] (.bin .geq .none (.t 19) (.t 22))<|
.nil) 24 18 23<|
.m 25 24<|
.gO 25 false (.p 26 [2,25] (.mov (.t 2))<|
.p 27 [26,25] (.bin .gtr .none (.t 26) (.i 16))<|
.nil) 28 25 27<|
.nil)
 (.cond (.tmp 28) (.z (.m 29 3<|
.m 8 29<|
.c 9 y1<|
.nil)
 .ret)
 .skip))
 (.z (.f 30 4 4<|
.l 31 .any 30<|
.m 32 1<|
.s 33 16 31 32<|
.O 34 y3 (.load (some 16) (.t 33))<|
.pal 10 [] 111 [y0,y5,y1,y0,y0,y1,y1,y1,y1,y0,y0,V.nils,V.nils,y0,y1,y0]<|
.op none y3 [10,34] (.store 16 (.t 10) (.t 34))<|
.nil)
 (.seq (.z (.f 35 0 10<|
.l 36 .i 35<|
.b 37 .eql .none (.t 36) (.i 11)<|
.nil)
 (.cond (.tmp 37) (.z (.O 38 y10 (.load (some 5) (.t 4))<|
.f 39 1 10<|
.l 40 .str 39<|
.k 41 .i 46 [(.t 38),(.t 40)]<|
.m 11 41<|
.nil)
 (.seq (.z (.m 42 11<|
.b 43 .lss .none (.t 42) (.i 0)<|
.nil)
 (.cond (.tmp 43) (.z (.m 44 3<|
.m 8 44<|
.c 9 (V.bool true)<|
.nil)
 .ret)
 .skip))
 (.seq (.z (.m 45 3<|
.m 46 11<|
.k 47 .bool 12 [(.t 45),(.t 46)]<|
.P 48 (.un .not (.t 47))<|
.nil)
 (.cond (.tmp 48) (.ops (.m 49 3<|
.m 50 11<|
.p 51 [50] (.buildSlice 3 1 [y0] [(0,1,(.t 50))])<|
.O 52 .one (.append 3 1 8 (.t 49) (.t 51))<|
.m 3 52<|
.nil))
 .skip))
 (.keep [(3,.any)] [] [] cc2))))
 .skip))
 (.keep q44d [10] q44a cc1)))))
def T44_0 (E:List (Nat × Blk)) (D:Den) (W:DrawFn) (K1:Int→V→Nat→Nat→Int→BS→Bool→Int→Int→Bool→Bool→Bool→Bool→Int→Int→V→V→Int→Bool→Int→H→Ans) (K2:V→H→Ans) (a:BS) (b:Int) (c d e:V) (f g:Int) (h:V) (σ:H):Ans:=
 nbK [.str a,.int .i64 b,c,d,e] σ fun s1=>
 joinB (fun c2 s3=>
 joinB (fun c5 s6=>
 condK c5 (
 some ((V.tup [h,.bool false]),s6)) (
 ldK E s6 (H.next σ) 4 fun u8=>
 iaddrSK 16 u8 f fun b9 o10=>
 ldnK E s6 b9 o10 16 fun l11=>
 xcI .i64 l11 fun x14 l13=>
 xcS l13 fun x17 l16=>
 xcB l16 fun x20 l19=>
 xcI .i64 l19 fun x23 l22=>
 xcI .i64 l22 fun x26 l25=>
 xcB l25 fun x29 l28=>
 xcB l28 fun x32 l31=>
 xcB l31 fun x35 l34=>
 xcB l34 fun x38 l37=>
 xcI .i64 l37 fun x41 l40=>
 xcI .i64 l40 fun x44 l43=>
 rtCons l43 fun x45 l46=>
 rtCons l46 fun x47 l48=>
 xcI .i64 l48 fun x51 l50=>
 xcB l50 fun x54 l53=>
 xcI .i64 l53 fun x57 l56=>
 rtNil l56 (
 chk (allOne [.int .i64 x14,.str x17,.bool x20,.int .i64 x23,.int .i64 x26,.bool x29,.bool x32,.bool x35,.bool x38,.int .i64 x41,.int .i64 x44,x45,x47,.int .i64 x51,.bool x54,.int .i64 x57]) (
 condK (eqF x14 (Int.ofNat 11)) (
 ldnK E s6 (H.next σ) 0 5 fun l58=>
 xcS l58 fun x61 l60=>
 xcI .i64 l60 fun x64 l63=>
 rtCons l63 fun x65 l66=>
 rtCons l66 fun x67 l68=>
 rtCons l68 fun x69 l70=>
 rtNil l70 (
 callK (D 46 [.agg [.str x61,.int .i64 x64,x65,x67,x69],.str x17] s6) fun u71 s72=>
 rtInt .i64 u71 fun x73=>
 condK (ltF x73 (Int.ofNat 0)) (
 some ((V.tup [h,.bool true]),s72)) (
 callK (D 12 [h,.int .i64 x73] s72) fun u74 s75=>
 rtBool u74 fun x76=>
 condK (not x76) (
 let s77:=newB s75 (.cells [.int .i64 x73]);
 appK E 1 8 h (V.sl (H.next s75) 0 1 (.ex 1)) s77 fun u78 s79=>
 rtOne u78 (
 K2 u78 s79)) (
 K2 h s75)))) (
 K1 g h (H.next σ) 0 x14 x17 x20 x23 x26 x29 x32 x35 x38 x41 x44 x45 x47 x51 x54 x57 s6))))) fun k7=>
 condK c2 (
 k7 true s3) (
 k7 (ltF (Int.ofNat 16) g) s3)) fun k4=>
 condK (ltF f (Int.ofNat 0)) (
 k4 true s1) (
 ldK E s1 (H.next σ) 4 fun u80=>
 slenK u80 fun n81=>
 k4 (leF (Int.ofNat n81) f) s1)
def C44_1 (cc3:XC) (cc4:XC):XC:=(.z (.c 12 y1<|
.nil)
 (.seq (.z (.q 13 0<|
.nil)
 (.block 0 (.loop q44b [10] q44a cc4)))
 (.keep q44c [10] q44a cc3)))
def T44_1 (E:List (Nat × Blk)) (D:Den) (W:DrawFn) (K4:Int→V→Nat→Nat→Bool→Int→Int→BS→Bool→Int→Int→Bool→Bool→Bool→Bool→Int→Int→V→V→Int→Bool→Int→H→Ans) (a:Int) (b:V) (c d:Nat) (e:Int) (f:BS) (g:Bool) (h i:Int) (j k l m:Bool) (o p:Int) (q r:V) (s:Int) (t:Bool) (u:Int) (σ:H):Ans:=
 K4 a b c d false (Int.ofNat 0) e f g h i j k l m o p q r s t u σ
def C44_2:XC:=(.z (.m 53 3<|
.m 8 53<|
.c 9 y1<|
.nil)
 .ret)
def T44_2 (E:List (Nat × Blk)) (D:Den) (W:DrawFn) (a:V) (σ:H):Ans:=
 some ((V.tup [a,.bool false]),σ)
def C44_3 (cc5:XC):XC:=(.seq (.z (.f 79 0 10<|
.l 80 .i 79<|
.b 81 .eql .none (.t 80) (.i 10)<|
.nil)
 (.cond (.tmp 81) (.z (.c 15 y1<|
.nil)
 (.z (.O 83 y10 (.load (some 5) (.t 4))<|
.f 84 15 10<|
.l 85 .i 84<|
.m 86 2<|
.b 87 .add .none (.t 86) (.i 1)<|
.m 88 3<|
.k 89 (.tup [.any,.bool]) 44 [(.t 83),(.t 85),(.t 87),(.t 88)]<|
.m 82 89<|
.P 90 (.extract 0 (.t 82))<|
.P 91 (.extract 1 (.t 82))<|
.m 3 90<|
.m 15 91<|
.nil)
 (.ops (.m 92 12<|
.m 93 92<|
.gO 93 false (.p 94 [15,93] (.mov (.t 15))<|
.nil) 95 93 94<|
.m 12 95<|
.nil))))
 .skip))
 (.keep [(3,.any),(12,.bool)] [] [] cc5))
def T44_3 (E:List (Nat × Blk)) (D:Den) (W:DrawFn) (K5:V→Bool→H→Ans) (a:Int) (b:V) (c d:Nat) (e:Bool) (f:Int) (g:BS) (h:Bool) (i j:Int) (k l m o:Bool) (p q:Int) (r s:V) (t:Int) (u:Bool) (v:Int) (σ:H):Ans:=
 condK (eqF f (Int.ofNat 10)) (
 ldnK E σ c d 5 fun l1=>
 xcS l1 fun x4 l3=>
 xcI .i64 l3 fun x7 l6=>
 rtCons l6 fun x8 l9=>
 rtCons l9 fun x10 l11=>
 rtCons l11 fun x12 l13=>
 rtNil l13 (
 callK (D 44 [.agg [.str x4,.int .i64 x7,x8,x10,x12],.int .i64 v,.int .i64 (addF .i64 a (Int.ofNat 1)),b] σ) fun u14 s15=>
 rtTup u14 fun l16=>
 rtCons l16 fun x17 l18=>
 xcB l18 fun x21 l20=>
 rtNil l20 (
 joinB (fun c22 s23=>
 K5 x17 c22 s23) fun k24=>
 condK e (
 k24 true s15) (
 k24 x21 s15)))) (
 K5 b e σ)
def C44_4:XC:=(.seq (.z (.m 54 13<|
.f 55 12 10<|
.l 56 .any 55<|
.u 57 56<|
.b 58 .lss .none (.t 54) (.t 57)<|
.nil)
 (.cond (.tmp 58) .skip
 y21))
 (.seq (.block 1 (.z (.c 14 y1<|
.nil)
 (.seq (.draw (.O 62 y10 (.load (some 5) (.t 4))<|
.f 63 12 10<|
.l 64 .any 63<|
.m 65 13<|
.s 66 11 64 65<|
.f 67 1 66<|
.l 68 .i 67<|
.m 69 2<|
.b 70 .add .none (.t 69) (.i 1)<|
.m 71 3<|
.k 72 (.tup [.any,.bool]) 44 [(.t 62),(.t 68),(.t 70),(.t 71)]<|
.m 61 72<|
.P 73 (.extract 0 (.t 61))<|
.P 74 (.extract 1 (.t 61))<|
.m 3 73<|
.m 14 74<|
.nil) [0,0,2,0,14,30,62,0,128,0,1023,2047,4095,4095,8191,32767])
 (.ops (.m 75 12<|
.m 76 75<|
.gO 76 false (.p 77 [14,76] (.mov (.t 14))<|
.nil) 78 76 77<|
.m 12 78<|
.nil)))))
 (.ops (.m 59 13<|
.b 60 .add .none (.t 59) (.i 1)<|
.m 13 60<|
.nil))))
def T44_4 (E:List (Nat × Blk)) (D:Den) (W:DrawFn) (K3:Int→V→Nat→Nat→Bool→Int→BS→Bool→Int→Int→Bool→Bool→Bool→Bool→Int→Int→V→V→Int→Bool→Int→H→Ans) (R4:Int→V→Nat→Nat→Bool→Int→Int→BS→Bool→Int→Int→Bool→Bool→Bool→Bool→Int→Int→V→V→Int→Bool→Int→H→Ans) (a:Int) (b:V) (c d:Nat) (e:Bool) (f g:Int) (h:BS) (i:Bool) (j k:Int) (l m o p:Bool) (q r:Int) (s t:V) (u:Int) (v:Bool) (w:Int) (σ:H):Ans:=
 slenK t fun n1=>
 condK (ltF f (Int.ofNat n1)) (
 ldnK E σ c d 5 fun l2=>
 xcS l2 fun x5 l4=>
 xcI .i64 l4 fun x8 l7=>
 rtCons l7 fun x9 l10=>
 rtCons l10 fun x11 l12=>
 rtCons l12 fun x13 l14=>
 rtNil l14 (
 iaddrSK 11 t f fun b15 o16=>
 ldK E σ b15 (Nat.add o16 1) fun u17=>
 rtInt .i64 u17 fun x18=>
 callK (D 44 [.agg [.str x5,.int .i64 x8,x9,x11,x13],.int .i64 x18,.int .i64 (addF .i64 a (Int.ofNat 1)),b] σ) fun u19 s20=>
 rtTup u19 fun l21=>
 rtCons l21 fun x22 l23=>
 xcB l23 fun x26 l25=>
 rtNil l25 (
 joinB (fun c27 s28=>
 R4 a x22 c d c27 (addF .i64 f (Int.ofNat 1)) g h i j k l m o p q r s t u v w s28) fun k29=>
 condK e (
 k29 true s20) (
 k29 x26 s20)))) (
 K3 a b c d e g h i j k l m o p q r s t u v w σ)
def C44_5:XC:=(.z (.m 96 3<|
.m 97 12<|
.m 8 96<|
.m 9 97<|
.nil)
 .ret)
def T44_5 (E:List (Nat × Blk)) (D:Den) (W:DrawFn) (a:V) (b:Bool) (σ:H):Ans:=
 some ((V.tup [a,.bool b]),σ)
def S44_0 (a:BS) (b:Int) (c d e:V) (f g:Int) (h:V) (σ:H):St:=⟨[(0,.agg [.str a,.int .i64 b,c,d,e]),(1,.int .i64 f),(2,.int .i64 g),(3,h)],[],[],σ⟩
def S44_1 (a:Int) (b:V) (c d:Nat) (e:Int) (f:BS) (g:Bool) (h i:Int) (j k l m:Bool) (o p:Int) (q r:V) (s:Int) (t:Bool) (u:Int) (σ:H):St:=⟨[(2,.int .i64 a),(3,b),(4,.ptr c d)],[(10,(10,0))],[(10,[.int .i64 e,.str f,.bool g,.int .i64 h,.int .i64 i,.bool j,.bool k,.bool l,.bool m,.int .i64 o,.int .i64 p,q,r,.int .i64 s,.bool t,.int .i64 u])],σ⟩
def S44_2 (a:V) (σ:H):St:=⟨[(3,a)],[],[],σ⟩
def S44_3 (a:Int) (b:V) (c d:Nat) (e:Bool) (f:Int) (g:BS) (h:Bool) (i j:Int) (k l m o:Bool) (p q:Int) (r s:V) (t:Int) (u:Bool) (v:Int) (σ:H):St:=⟨[(2,.int .i64 a),(3,b),(4,.ptr c d),(12,.bool e)],[(10,(10,0))],[(10,[.int .i64 f,.str g,.bool h,.int .i64 i,.int .i64 j,.bool k,.bool l,.bool m,.bool o,.int .i64 p,.int .i64 q,r,s,.int .i64 t,.bool u,.int .i64 v])],σ⟩
def S44_4 (a:Int) (b:V) (c d:Nat) (e:Bool) (f g:Int) (h:BS) (i:Bool) (j k:Int) (l m o p:Bool) (q r:Int) (s t:V) (u:Int) (v:Bool) (w:Int) (σ:H):St:=⟨[(2,.int .i64 a),(3,b),(4,.ptr c d),(12,.bool e),(13,.int .i64 f)],[(10,(10,0))],[(10,[.int .i64 g,.str h,.bool i,.int .i64 j,.int .i64 k,.bool l,.bool m,.bool o,.bool p,.int .i64 q,.int .i64 r,s,t,.int .i64 u,.bool v,.int .i64 w])],σ⟩
def S44_5 (a:V) (b:Bool) (σ:H):St:=⟨[(3,a),(12,.bool b)],[],[],σ⟩
theorem P44_0 (cc1:XC) (cc2:XC) (a:BS) (b:Int) (c d e:V) (f g:Int) (h:V) (σ:H) :
 denC E D W N (C44_0 cc1 cc2) (S44_0 a b c d e f g h σ) (Fin44 E) nX (Fin44 E) =
 T44_0 E D W (fun g h i j k l m o p q r s t u v w x y z B σ=>denC E D W N cc1 (S44_1 g h i j k l m o p q r s t u v w x y z B σ) (Fin44 E) nX (Fin44 E)) (fun h σ=>denC E D W N cc2 (S44_2 h σ) (dX E D W N (.keep q44d [10] q44a cc1) (Fin44 E) nX (Fin44 E)) nX (Fin44 E)) a b c d e f g h σ:=by kernel_rfl
theorem P44_1 (cc3:XC) (cc4:XC) (a:Int) (b:V) (c d:Nat) (e:Int) (f:BS) (g:Bool) (h i:Int) (j k l m:Bool) (o p:Int) (q r:V) (s:Int) (t:Bool) (u:Int) (σ:H) :
 denC E D W N (C44_1 cc3 cc4) (S44_1 a b c d e f g h i j k l m o p q r s t u σ) (Fin44 E) nX (Fin44 E) =
 T44_1 E D W (fun a b c d v w e f g h i j k l m o p q r s t u σ=>iterK (fun rec s'=>denC E D W N cc4 s' (kX q44b [10] q44a rec) (b44a E D W N cc3) (Fin44 E)) N (S44_4 a b c d v w e f g h i j k l m o p q r s t u σ)) a b c d e f g h i j k l m o p q r s t u σ:=by kernel_rfl
theorem P44_2 (cc1:XC) (a:V) (σ:H) :
 denC E D W N (C44_2 ) (S44_2 a σ) (dX E D W N (.keep q44d [10] q44a cc1) (Fin44 E) nX (Fin44 E)) nX (Fin44 E) =
 T44_2 E D W  a σ:=by kernel_rfl
theorem P44_3 (cc5:XC) (a:Int) (b:V) (c d:Nat) (e:Bool) (f:Int) (g:BS) (h:Bool) (i j:Int) (k l m o:Bool) (p q:Int) (r s:V) (t:Int) (u:Bool) (v:Int) (σ:H) :
 denC E D W N (C44_3 cc5) (S44_3 a b c d e f g h i j k l m o p q r s t u v σ) (Fin44 E) nX (Fin44 E) =
 T44_3 E D W (fun b e σ=>denC E D W N cc5 (S44_5 b e σ) (Fin44 E) nX (Fin44 E)) a b c d e f g h i j k l m o p q r s t u v σ:=by kernel_rfl
theorem P44_4 (cc3:XC) (li4:St→Ans) (a:Int) (b:V) (c d:Nat) (e:Bool) (f g:Int) (h:BS) (i:Bool) (j k:Int) (l m o p:Bool) (q r:Int) (s t:V) (u:Int) (v:Bool) (w:Int) (σ:H) :
 denC E D W N (C44_4 ) (S44_4 a b c d e f g h i j k l m o p q r s t u v w σ) (kX q44b [10] q44a li4) (b44a E D W N cc3) (Fin44 E) =
 T44_4 E D W (fun a b c d e g h i j k l m o p q r s t u v w σ=>denC E D W N cc3 (S44_3 a b c d e g h i j k l m o p q r s t u v w σ) (Fin44 E) nX (Fin44 E)) (fun a b c d e f g h i j k l m o p q r s t u v w σ=>li4 (S44_4 a b c d e f g h i j k l m o p q r s t u v w σ)) a b c d e f g h i j k l m o p q r s t u v w σ:=by kernel_rfl
def J44_5 (E:List (Nat × Blk)) (D:Den) (W:DrawFn) (N:Nat):=T44_5 E D W
theorem JE44_5 (a:V) (b:Bool) (σ:H) :
 denC E D W N C44_5 (S44_5 a b σ) (Fin44 E) nX (Fin44 E)=J44_5 E D W N a b σ:=by kernel_rfl
def J44_3:=T44_3 E D W (J44_5 E D W N )
theorem JE44_3 (a:Int) (b:V) (c d:Nat) (e:Bool) (f:Int) (g:BS) (h:Bool) (i j:Int) (k l m o:Bool) (p q:Int) (r s:V) (t:Int) (u:Bool) (v:Int) (σ:H) :
 denC E D W N (C44_3 C44_5) (S44_3 a b c d e f g h i j k l m o p q r s t u v σ) (Fin44 E) nX (Fin44 E)=J44_3 E D W N a b c d e f g h i j k l m o p q r s t u v σ:=by
 refine(P44_3 E D W N C44_5  a b c d e f g h i j k l m o p q r s t u v σ).trans ?_
 simp only[JE44_5]
 kernel_rfl
def L44_4 (n:Nat):Int→V→Nat→Nat→Bool→Int→Int→BS→Bool→Int→Int→Bool→Bool→Bool→Bool→Int→Int→V→V→Int→Bool→Int→H→Ans:=
 Nat.rec (fun _ _ _ _ _ _ _ _ _ _ _ _ _ _ _ _ _ _ _ _ _ _ _=>none) (fun _ ih=>T44_4 E D W (J44_3 E D W N ) ih) n
theorem LE44_4 (n:Nat):∀(a:Int) (b:V) (c d:Nat) (e:Bool) (f g:Int) (h:BS) (i:Bool) (j k:Int) (l m o p:Bool) (q r:Int) (s t:V) (u:Int) (v:Bool) (w:Int) (σ:H),
 iterK (fun rec s'=>denC E D W N C44_4 s' (kX q44b [10] q44a rec) (b44a E D W N (C44_3 C44_5)) (Fin44 E)) n (S44_4 a b c d e f g h i j k l m o p q r s t u v w σ)=L44_4 E D W N n a b c d e f g h i j k l m o p q r s t u v w σ:=by
 induction n with
 | zero=>intro a b c d e f g h i j k l m o p q r s t u v w σ;rfl
 | succ n ihn=>
  intro a b c d e f g h i j k l m o p q r s t u v w σ
  rw[iterK_succ]
  refine(P44_4 E D W N (C44_3 C44_5) (iterK (fun rec s'=>denC E D W N C44_4 s' (kX q44b [10] q44a rec) (b44a E D W N (C44_3 C44_5)) (Fin44 E)) n) a b c d e f g h i j k l m o p q r s t u v w σ).trans ?_
  simp only[ihn,JE44_3]
  kernel_rfl
def J44_1:=T44_1 E D W (L44_4 E D W N N)
theorem JE44_1 (a:Int) (b:V) (c d:Nat) (e:Int) (f:BS) (g:Bool) (h i:Int) (j k l m:Bool) (o p:Int) (q r:V) (s:Int) (t:Bool) (u:Int) (σ:H) :
 denC E D W N (C44_1 (C44_3 C44_5) C44_4) (S44_1 a b c d e f g h i j k l m o p q r s t u σ) (Fin44 E) nX (Fin44 E)=J44_1 E D W N a b c d e f g h i j k l m o p q r s t u σ:=by
 refine(P44_1 E D W N (C44_3 C44_5) C44_4  a b c d e f g h i j k l m o p q r s t u σ).trans ?_
 simp only[LE44_4]
 kernel_rfl
def J44_2 (E:List (Nat × Blk)) (D:Den) (W:DrawFn) (N:Nat):=T44_2 E D W
theorem JE44_2 (a:V) (σ:H) :
 denC E D W N C44_2 (S44_2 a σ) (dX E D W N (.keep q44d [10] q44a (C44_1 (C44_3 C44_5) C44_4)) (Fin44 E) nX (Fin44 E)) nX (Fin44 E)=J44_2 E D W N a σ:=by
 refine(P44_2 E D W N (C44_1 (C44_3 C44_5) C44_4)  a σ).trans ?_
 kernel_rfl
def J44_0:=T44_0 E D W (J44_1 E D W N ) (J44_2 E D W N )
theorem JE44_0 (a:BS) (b:Int) (c d e:V) (f g:Int) (h:V) (σ:H) :
 denC E D W N (C44_0 (C44_1 (C44_3 C44_5) C44_4) C44_2) (S44_0 a b c d e f g h σ) (Fin44 E) nX (Fin44 E)=J44_0 E D W N a b c d e f g h σ:=by
 refine(P44_0 E D W N (C44_1 (C44_3 C44_5) C44_4) C44_2  a b c d e f g h σ).trans ?_
 simp only[JE44_1,JE44_2]
 kernel_rfl
def F44 (args:List V) (σ:H):Ans:=
 rtCons args fun x1 l2=>
 rtAgg x1 fun l3=>
 xcS l3 fun x6 l5=>
 xcI .i64 l5 fun x9 l8=>
 rtCons l8 fun x10 l11=>
 rtCons l11 fun x12 l13=>
 rtCons l13 fun x14 l15=>
 rtNil l15 (
 xcI .i64 l2 fun x18 l17=>
 xcI .i64 l17 fun x21 l20=>
 rtCons l20 fun x22 l23=>
 rtNil l23 (
 J44_0 E D W N x6 x9 x10 x12 x14 x18 x21 x22 σ))
def A44:XFn:=⟨98,[y10,.i,.i,.any],[(.tmp 8),(.tmp 9)],(C44_0 (C44_1 (C44_3 C44_5) C44_4) C44_2)⟩
theorem FE44 (args:List V) (σ:H):runX E D W N A44 args σ=F44 E D W N args σ:=by
 unfold F44
 simp only[←JE44_0]
 kernel_rfl
def q45a:List (Nat × XTy):=[(0,.any),(2,.i),(7,.any),(8,.any)]
def Fin45 (E:List (Nat × Blk)):St→Ans:=fun s=>resK E s [(.tmp 6)] fun l=>some (oneV l,s.σ)
def b45a (c0:XC):Nat→St→Ans:=blkK 0 (dX E D W N (.keep [] [] [] c0) (Fin45 E) nX (Fin45 E)) nX
def C45_0 (cc1:XC) (cc2:XC):XC:=(.z (.c 6 y1<|
.nil)
 (.z (.p 10 [] (.buildSlice 3 0 [] [])<|
.m 7 10<|
.nil)
 (.z (.m 11 0<|
.m 12 1<|
.s 13 1 11 12<|
.l 14 .any 13<|
.O 15 .one (.append 3 1 8 (.con V.nils) (.t 14))<|
.m 8 15<|
.nil)
 (.seq (.block 0 (.loop q45a [] [] cc2))
 (.keep [] [] [] cc1)))))
def T45_0 (E:List (Nat × Blk)) (D:Den) (W:DrawFn) (K2:V→Int→V→V→H→Ans) (a:V) (b c:Int) (σ:H):Ans:=
 let s1:=newB σ (.cells []);
 iaddrSK 1 a b fun b2 o3=>
 ldK E s1 b2 o3 fun u4=>
 appK E 1 8 V.nils u4 s1 fun u5 s6=>
 rtOne u5 (
 K2 a c (V.sl (H.next σ) 0 0 (.ex 0)) u5 s6)
def C45_1:XC:=(.z (.c 6 y1<|
.nil)
 .ret)
def T45_1 (E:List (Nat × Blk)) (D:Den) (W:DrawFn) (σ:H):Ans:=
 some ((V.bool false),σ)
def C45_2:XC:=(.seq (.z (.m 16 8<|
.u 17 16<|
.b 18 .gtr .none (.t 17) (.i 0)<|
.nil)
 (.cond (.tmp 18) .skip
 y21))
 (.block 1 (.z (.m 19 8<|
.P 20 (.iaddrS 1 (.t 19) (.i 0))<|
.l 21 .i 20<|
.m 9 21<|
.nil)
 (.z (.m 22 8<|
.p 23 [22] (.sliceSl 1 (.t 22) (some (.i 1)) none none)<|
.m 8 23<|
.nil)
 (.seq (.z (.m 24 9<|
.m 25 2<|
.b 26 .eql .none (.t 24) (.t 25)<|
.nil)
 (.cond (.tmp 26) (.z (.c 6 (V.bool true)<|
.nil)
 .ret)
 .skip))
 (.z (.m 27 7<|
.m 28 9<|
.k 29 .bool 12 [(.t 27),(.t 28)]<|
.P 30 (.un .not (.t 29))<|
.nil)
 (.cond (.tmp 30) (.z (.m 31 7<|
.m 32 9<|
.p 33 [32] (.buildSlice 3 1 [y0] [(0,1,(.t 32))])<|
.O 34 .one (.append 3 1 8 (.t 31) (.t 33))<|
.m 7 34<|
.nil)
 (.ops (.m 35 8<|
.m 36 0<|
.m 37 9<|
.s 38 1 36 37<|
.l 39 .any 38<|
.O 40 .one (.append 3 1 8 (.t 35) (.t 39))<|
.m 8 40<|
.nil)))
 .skip)))))))
def T45_2 (E:List (Nat × Blk)) (D:Den) (W:DrawFn) (K1:H→Ans) (R2:V→Int→V→V→H→Ans) (a:V) (b:Int) (c d:V) (σ:H):Ans:=
 slenK d fun n1=>
 condK (ltF (Int.ofNat 0) (Int.ofNat n1)) (
 iaddrSK 1 d (Int.ofNat 0) fun b2 o3=>
 ldK E σ b2 o3 fun u4=>
 rtInt .i64 u4 fun x5=>
 gK (sliceV 1 d (some (V.int .i64 (Int.ofNat 1))) none none) fun u6=>
 condK (eqF x5 b) (
 some ((V.bool true),σ)) (
 callK (D 12 [c,.int .i64 x5] σ) fun u7 s8=>
 rtBool u7 fun x9=>
 condK (not x9) (
 let s10:=newB s8 (.cells [.int .i64 x5]);
 appK E 1 8 c (V.sl (H.next s8) 0 1 (.ex 1)) s10 fun u11 s12=>
 rtOne u11 (
 iaddrSK 1 a x5 fun b13 o14=>
 ldK E s12 b13 o14 fun u15=>
 appK E 1 8 u6 u15 s12 fun u16 s17=>
 rtOne u16 (
 R2 a b u11 u16 s17))) (
 R2 a b c u6 s8))) (
 K1 σ)
def S45_0 (a:V) (b c:Int) (σ:H):St:=⟨[(0,a),(1,.int .i64 b),(2,.int .i64 c)],[],[],σ⟩
def S45_1 (σ:H):St:=⟨[],[],[],σ⟩
def S45_2 (a:V) (b:Int) (c d:V) (σ:H):St:=⟨[(0,a),(2,.int .i64 b),(7,c),(8,d)],[],[],σ⟩
theorem P45_0 (cc1:XC) (cc2:XC) (a:V) (b c:Int) (σ:H) :
 denC E D W N (C45_0 cc1 cc2) (S45_0 a b c σ) (Fin45 E) nX (Fin45 E) =
 T45_0 E D W (fun a c d e σ=>iterK (fun rec s'=>denC E D W N cc2 s' (kX q45a [] [] rec) (b45a E D W N cc1) (Fin45 E)) N (S45_2 a c d e σ)) a b c σ:=by kernel_rfl
theorem P45_2 (cc1:XC) (li2:St→Ans) (a:V) (b:Int) (c d:V) (σ:H) :
 denC E D W N (C45_2 ) (S45_2 a b c d σ) (kX q45a [] [] li2) (b45a E D W N cc1) (Fin45 E) =
 T45_2 E D W (fun  σ=>denC E D W N cc1 (S45_1 σ) (Fin45 E) nX (Fin45 E)) (fun a b c d σ=>li2 (S45_2 a b c d σ)) a b c d σ:=by kernel_rfl
def J45_1 (E:List (Nat × Blk)) (D:Den) (W:DrawFn) (N:Nat):=T45_1 E D W
theorem JE45_1 (σ:H) :
 denC E D W N C45_1 (S45_1 σ) (Fin45 E) nX (Fin45 E)=J45_1 E D W N  σ:=by kernel_rfl
def L45_2 (n:Nat):V→Int→V→V→H→Ans:=
 Nat.rec (fun _ _ _ _ _=>none) (fun _ ih=>T45_2 E D W (J45_1 E D W N ) ih) n
theorem LE45_2 (n:Nat):∀(a:V) (b:Int) (c d:V) (σ:H),
 iterK (fun rec s'=>denC E D W N C45_2 s' (kX q45a [] [] rec) (b45a E D W N C45_1) (Fin45 E)) n (S45_2 a b c d σ)=L45_2 E D W N n a b c d σ:=by
 induction n with
 | zero=>intro a b c d σ;rfl
 | succ n ihn=>
  intro a b c d σ
  rw[iterK_succ]
  refine(P45_2 E D W N C45_1 (iterK (fun rec s'=>denC E D W N C45_2 s' (kX q45a [] [] rec) (b45a E D W N C45_1) (Fin45 E)) n) a b c d σ).trans ?_
  simp only[ihn,JE45_1]
  kernel_rfl
def J45_0:=T45_0 E D W (L45_2 E D W N N)
theorem JE45_0 (a:V) (b c:Int) (σ:H) :
 denC E D W N (C45_0 C45_1 C45_2) (S45_0 a b c σ) (Fin45 E) nX (Fin45 E)=J45_0 E D W N a b c σ:=by
 refine(P45_0 E D W N C45_1 C45_2  a b c σ).trans ?_
 simp only[LE45_2]
 kernel_rfl
def F45 (args:List V) (σ:H):Ans:=
 rtCons args fun x1 l2=>
 xcI .i64 l2 fun x5 l4=>
 xcI .i64 l4 fun x8 l7=>
 rtNil l7 (
 J45_0 E D W N x1 x5 x8 σ)
def A45:XFn:=⟨41,[.any,.i,.i],[(.tmp 6)],(C45_0 C45_1 C45_2)⟩
theorem FE45 (args:List V) (σ:H):runX E D W N A45 args σ=F45 E D W N args σ:=by
 unfold F45
 simp only[←JE45_0]
 kernel_rfl
def G47_0:List AOper:=[⟨(some 45),.mov (.tmp 0),none⟩,⟨(some 46),.mov (.tmp 0),none⟩,⟨(some 47),.nilck (.tmp 46),none⟩,⟨(some 48),.faddr 5 (.tmp 47),none⟩,⟨(some 49),.load none (.tmp 48),none⟩,⟨(some 50),.load (some 13) (.tmp 8),none⟩,⟨(some 51),.buildSlice 99 1 [(V.int .i64 (Int.ofNat 0)),V.nils,(V.bool false),(V.bool false),(V.bool false),(V.bool false),(V.int .i64 (Int.ofNat 0)),(V.int .i64 (Int.ofNat 0)),V.nils,V.nils,(V.int .i64 (Int.ofNat 0)),(V.bool false),(V.int .i64 (Int.ofNat 0))] [(0,13,(.tmp 50))],none⟩,⟨(some 52),.append 99 13 128 (.tmp 49) (.tmp 51),none⟩,⟨(some 53),.nilck (.tmp 45),none⟩,⟨(some 54),.faddr 5 (.tmp 53),none⟩,⟨none,.store 1 (.tmp 54) (.tmp 52),none⟩]
def H47_0:List DP:=[⟨0,[0]⟩,⟨0,[0]⟩,⟨2,[46]⟩,⟨6,[47]⟩,⟨14,[48]⟩,⟨0,[8]⟩,⟨32,[50]⟩,⟨126,[49,51]⟩,⟨255,[45]⟩,⟨511,[53]⟩,⟨1023,[54,52]⟩]
def G47_1:List AOper:=[⟨(some 97),.mov (.tmp 0),none⟩,⟨(some 98),.nilck (.tmp 97),none⟩,⟨(some 99),.faddr 5 (.tmp 98),none⟩,⟨(some 100),.load none (.tmp 99),none⟩,⟨(some 101),.mov (.tmp 7),none⟩,⟨(some 102),.mov (.tmp 0),none⟩,⟨(some 103),.load (some 16) (.tmp 4),none⟩,⟨(some 104),.call 81 [(.tmp 102),(.tmp 103)],none⟩,⟨(some 105),.iaddrS 13 (.tmp 100) (.tmp 101),none⟩,⟨(some 106),.faddr 8 (.tmp 105),none⟩,⟨none,.store 1 (.tmp 106) (.tmp 104),none⟩]
def H47_1:List DP:=[⟨0,[0]⟩,⟨1,[97]⟩,⟨3,[98]⟩,⟨7,[99]⟩,⟨0,[7]⟩,⟨0,[0]⟩,⟨0,[4]⟩,⟨96,[102,103]⟩,⟨255,[100,101]⟩,⟨511,[105]⟩,⟨1023,[106,104]⟩]
def C47_0 (cc1:XC):XC:=(.z (.P 4 (.box 111 (.t 1))<|
.q 6 0<|
.nil)
 (.seq (.z (.m 11 2<|
.b 12 .gtr .none (.t 11) (.i 16)<|
.m 13 12<|
.gO 13 false (.p 14 [0,13] y13<|
.p 15 [14,13] (.nilck (.t 14))<|
.p 16 [15,13] (.faddr 5 (.t 15))<|
.p 17 [16,13] (.load none (.t 16))<|
.p 18 [17,13] (.len false (.t 17))<|
.p 19 [18,13] (.bin .geq .none (.t 18) (.i 300))<|
.nil) 20 13 19<|
.nil)
 (.cond (.tmp 20) (.z (.m 21 0<|
.k 22 y16 78 [(.t 21),(.i 5)]<|
.nil)
 (.z (.q 6 0<|
.nil)
 .ret))
 .skip))
 (.z (.m 23 0<|
.n 24 23<|
.f 25 5 24<|
.l 26 .any 25<|
.u 27 26<|
.m 7 27<|
.nil)
 (.z (.f 28 0 4<|
.l 29 .i 28<|
.f 30 5 4<|
.O 31 y4 (.load (some 6) (.t 30))<|
.f 32 13 4<|
.l 33 .i 32<|
.f 34 14 4<|
.l 35 .bool 34<|
.op (some 36) (.agg y7) [29,31,33,35] (.build [y0,V.nils,y1,y1,y1,y1,y0,y0,V.nils,V.nils,y0,y1,y0] [(0,1,(.t 29)),(2,6,(.t 31)),(10,1,(.t 33)),(11,1,(.t 35))])<|
.p 8 [] (.alloc 99 [y0,V.nils,y1,y1,y1,y1,y0,y0,V.nils,V.nils,y0,y1,y0])<|
.op none (.agg y7) [8,36] (.store 13 (.t 8) (.t 36))<|
.nil)
 (.seq (.z (.f 37 0 4<|
.l 38 .i 37<|
.b 39 .neq .none (.t 38) (.i 9)<|
.nil)
 (.cond (.tmp 39) (.ops (.f 40 0 4<|
.l 41 .i 40<|
.k 42 y12 79 [(.t 41)]<|
.p 43 [42] (.buildSlice 42 1 [y0,y0] [(0,2,(.t 42))])<|
.f 44 1 8<|
.w 1 44 43<|
.nil))
 .skip))
 (.keep [(0,.ptr),(2,.i),(4,.ptr),(7,.i),(8,.ptr)] [] [] cc1))))))
def T47_0 (E:List (Nat × Blk)) (D:Den) (W:DrawFn) (K1:Nat→Nat→Int→Nat→Nat→Int→Nat→Nat→H→Ans) (a b:Nat) (c:Int) (d:BS) (e:Bool) (f g:Int) (h i j k:Bool) (l m:Int) (o p:V) (q:Int) (r:Bool) (s t:Int) (σ:H):Ans:=
 nbK [.int .i64 c,.str d,.bool e,.int .i64 f,.int .i64 g,.bool h,.bool i,.bool j,.bool k,.int .i64 l,.int .i64 m,o,p,.int .i64 q,.bool r,.int .i64 s] σ fun s1=>
 joinB (fun c2 s3=>
 condK c2 (
 callK (D 78 [.ptr a b,.int .i64 (Int.ofNat 5)] s3) fun u5 s6=>
 rtTup u5 fun l7=>
 rtNil l7 (
 some ((V.int .i64 (Int.ofNat 0)),s6))) (
 ldK E s3 a (Nat.add b 5) fun u8=>
 slenK u8 fun n9=>
 ldK E s3 (H.next σ) 0 fun u10=>
 rtInt .i64 u10 fun x11=>
 ldnK E s3 (H.next σ) 5 6 fun l12=>
 xcB l12 fun x15 l14=>
 xcB l14 fun x18 l17=>
 xcB l17 fun x21 l20=>
 xcB l20 fun x24 l23=>
 xcI .i64 l23 fun x27 l26=>
 xcI .i64 l26 fun x30 l29=>
 rtNil l29 (
 ldK E s3 (H.next σ) 13 fun u31=>
 rtInt .i64 u31 fun x32=>
 ldK E s3 (H.next σ) 14 fun u33=>
 rtBool u33 fun x34=>
 let s35:=newB s3 (.cells [.int .i64 (Int.ofNat 0),V.nils,.bool false,.bool false,.bool false,.bool false,.int .i64 (Int.ofNat 0),.int .i64 (Int.ofNat 0),V.nils,V.nils,.int .i64 (Int.ofNat 0),.bool false,.int .i64 (Int.ofNat 0)]);
 stK 13 (H.next s3) 0 (V.agg [.int .i64 x11,V.nils,.bool x15,.bool x18,.bool x21,.bool x24,.int .i64 x27,.int .i64 x30,V.nils,V.nils,.int .i64 x32,.bool x34,.int .i64 (Int.ofNat 0)]) s35 fun s36=>
 ldK E s36 (H.next σ) 0 fun u37=>
 rtInt .i64 u37 fun x38=>
 condK (not (eqF x38 (Int.ofNat 9))) (
 ldK E s36 (H.next σ) 0 fun u39=>
 rtInt .i64 u39 fun x40=>
 callK (D 79 [.int .i64 x40] s36) fun u41 s42=>
 rtAgg u41 fun l43=>
 xcI .i64 l43 fun x46 l45=>
 xcI .i64 l45 fun x49 l48=>
 rtNil l48 (
 let s50:=newB s42 (.cells [.int .i64 x46,.int .i64 x49]);
 stK 1 (H.next s3) 1 (V.sl (H.next s42) 0 1 (.ex 1)) s50 fun s51=>
 K1 a b t (H.next σ) 0 (Int.ofNat n9) (H.next s3) 0 s51)) (
 K1 a b t (H.next σ) 0 (Int.ofNat n9) (H.next s3) 0 s36)))) fun k4=>
 condK (ltF (Int.ofNat 16) t) (
 k4 true s1) (
 ldK E s1 a (Nat.add b 5) fun u52=>
 slenK u52 fun n53=>
 k4 (leF (Int.ofNat 300) (Int.ofNat n53)) s1)
def C47_1 (cc2:XC) (cc3:XC):XC:=(.seq (.keep [(0,.ptr),(2,.i),(4,.ptr),(7,.i),(8,.ptr)] [] [] (.gdraw G47_0 H47_0 [(0,.ptr),(2,.i),(4,.ptr),(7,.i)]))
 (.seq (.z (.f 55 0 4<|
.l 56 .i 55<|
.nil)
 (.block 0 (.seq (.z (.b 58 .eql .none (.t 56) (.i 2)<|
.m 57 58<|
.nil)
 (.cond (.tmp 57) .skip
 (.z (.b 59 .eql .none (.t 56) (.i 5)<|
.m 57 59<|
.nil)
 (.cond (.tmp 57) .skip
 (.z (.b 60 .eql .none (.t 56) (.i 6)<|
.m 57 60<|
.nil)
 (.cond (.tmp 57) .skip
 (.ops (.b 61 .eql .none (.t 56) (.i 10)<|
.m 57 61<|
.nil))))))))
 (.keep [(0,.ptr),(2,.i),(4,.ptr),(7,.i),(56,.i),(57,.bool)] [] [] cc3))))
 (.keep [(7,.i)] [] [] cc2)))
def T47_1 (E:List (Nat × Blk)) (D:Den) (W:DrawFn) (K3:Nat→Nat→Int→Nat→Nat→Int→Int→Bool→H→Ans) (a b:Nat) (c:Int) (d e:Nat) (f:Int) (g h:Nat) (σ:H):Ans:=
 gdrawK (W G47_0 H47_0 [(0,.ptr a b),(2,.int .i64 c),(4,.ptr d e),(7,.int .i64 f),(8,.ptr g h)] σ) fun e1 s2=>
 getL e1 0 fun u3=>
 rtPtr u3 fun b4 o5=>
 getL e1 2 fun u6=>
 rtInt .i64 u6 fun x7=>
 getL e1 4 fun u8=>
 rtPtr u8 fun b9 o10=>
 getL e1 7 fun u11=>
 rtInt .i64 u11 fun x12=>
 ldK E s2 b9 o10 fun u13=>
 rtInt .i64 u13 fun x14=>
 condK (eqF x14 (Int.ofNat 2)) (
 K3 b4 o5 x7 b9 o10 x12 x14 (eqF x14 (Int.ofNat 2)) s2) (
 condK (eqF x14 (Int.ofNat 5)) (
 K3 b4 o5 x7 b9 o10 x12 x14 (eqF x14 (Int.ofNat 5)) s2) (
 condK (eqF x14 (Int.ofNat 6)) (
 K3 b4 o5 x7 b9 o10 x12 x14 (eqF x14 (Int.ofNat 6)) s2) (
 K3 b4 o5 x7 b9 o10 x12 x14 (eqF x14 (Int.ofNat 10)) s2)))
def C47_2:XC:=(.z (.m 116 7<|
.m 6 116<|
.nil)
 .ret)
def T47_2 (E:List (Nat × Blk)) (D:Den) (W:DrawFn) (a:Int) (σ:H):Ans:=
 some ((V.int .i64 a),σ)
def C47_3 (cc4:XC) (cc5:XC):XC:=(.cond (.tmp 57) (.z (.f 62 5 4<|
.O 63 y4 (.load (some 6) (.t 62))<|
.f 64 0 4<|
.l 65 .i 64<|
.b 66 .neq .none (.t 65) (.i 2)<|
.k 67 .i 80 [(.t 63),(.t 66)]<|
.m 9 67<|
.nil)
 (.seq (.z (.m 68 9<|
.b 69 .neq .none (.t 68) (.i 0)<|
.nil)
 (.cond (.tmp 69) (.ops (.m 70 0<|
.m 71 9<|
.k 72 y16 78 [(.t 70),(.t 71)]<|
.nil))
 .skip))
 (.keep [(0,.ptr),(2,.i),(4,.ptr),(7,.i)] [] [] cc4)))
 (.z (.b 96 .eql .none (.t 56) (.i 3)<|
.m 95 96<|
.nil)
 (.cond (.tmp 95) (.keep [(0,.ptr),(4,.ptr),(7,.i)] [] [] (.gdraw G47_1 H47_1 [(7,.i)]))
 (.seq (.z (.b 108 .eql .none (.t 56) (.i 7)<|
.m 107 108<|
.nil)
 (.cond (.tmp 107) .skip
 (.z (.b 109 .eql .none (.t 56) (.i 8)<|
.m 107 109<|
.nil)
 (.cond (.tmp 107) .skip
 (.ops (.b 110 .eql .none (.t 56) (.i 9)<|
.m 107 110<|
.nil))))))
 (.keep [(0,.ptr),(2,.i),(4,.ptr),(7,.i),(107,.bool)] [] [] cc5)))))
def T47_3 (K2:Int→H→Ans) (K4:Nat→Nat→Int→Nat→Nat→Int→H→Ans) (K5:Nat→Nat→Int→Nat→Nat→Int→Bool→H→Ans) (a b:Nat) (c:Int) (d e:Nat) (f g:Int) (h:Bool) (σ:H):Ans:=
 condK h (
 ldnK E σ d (Nat.add e 5) 6 fun l1=>
 xcB l1 fun x4 l3=>
 xcB l3 fun x7 l6=>
 xcB l6 fun x10 l9=>
 xcB l9 fun x13 l12=>
 xcI .i64 l12 fun x16 l15=>
 xcI .i64 l15 fun x19 l18=>
 rtNil l18 (
 ldK E σ d e fun u20=>
 rtInt .i64 u20 fun x21=>
 callK (D 80 [.agg [.bool x4,.bool x7,.bool x10,.bool x13,.int .i64 x16,.int .i64 x19],.bool (not (eqF x21 (Int.ofNat 2)))] σ) fun u22 s23=>
 rtInt .i64 u22 fun x24=>
 condK (not (eqF x24 (Int.ofNat 0))) (
 callK (D 78 [.ptr a b,.int .i64 x24] s23) fun u25 s26=>
 rtTup u25 fun l27=>
 rtNil l27 (
 K4 a b c d e f s26)) (
 K4 a b c d e f s23))) (
 condK (eqF g (Int.ofNat 3)) (
 gdrawK (W G47_1 H47_1 [(0,.ptr a b),(4,.ptr d e),(7,.int .i64 f)] σ) fun e28 s29=>
 getL e28 7 fun u30=>
 rtInt .i64 u30 fun x31=>
 K2 x31 s29) (
 condK (eqF g (Int.ofNat 7)) (
 K5 a b c d e f (eqF g (Int.ofNat 7)) σ) (
 condK (eqF g (Int.ofNat 8)) (
 K5 a b c d e f (eqF g (Int.ofNat 8)) σ) (
 K5 a b c d e f (eqF g (Int.ofNat 9)) σ))))
def C47_4:XC:=(.z (.f 73 0 4<|
.l 74 .i 73<|
.b 75 .eql .none (.t 74) (.i 10)<|
.nil)
 (.cond (.tmp 75) (.z (.m 76 0<|
.f 77 15 4<|
.l 78 .i 77<|
.m 79 2<|
.b 80 .add .none (.t 79) (.i 1)<|
.k 81 .i 27 [(.t 76),(.t 78),(.t 80)]<|
.m 10 81<|
.nil)
 (.z (.m 82 0<|
.n 83 82<|
.f 84 6 83<|
.l 85 .i 84<|
.b 86 .eql .none (.t 85) (.i 0)<|
.nil)
 (.cond (.tmp 86) (.ops (.m 87 0<|
.n 88 87<|
.f 89 5 88<|
.l 90 .any 89<|
.m 91 7<|
.m 92 10<|
.s 93 13 90 91<|
.f 94 12 93<|
.w 1 94 92<|
.nil))
 .skip)))
 .skip))
def T47_4 (E:List (Nat × Blk)) (D:Den) (W:DrawFn) (K2:Int→H→Ans) (a b:Nat) (c:Int) (d e:Nat) (f:Int) (σ:H):Ans:=
 ldK E σ d e fun u1=>
 rtInt .i64 u1 fun x2=>
 condK (eqF x2 (Int.ofNat 10)) (
 ldK E σ d (Nat.add e 15) fun u3=>
 rtInt .i64 u3 fun x4=>
 callK (D 27 [.ptr a b,.int .i64 x4,.int .i64 (addF .i64 c (Int.ofNat 1))] σ) fun u5 s6=>
 rtInt .i64 u5 fun x7=>
 ldK E s6 a (Nat.add b 6) fun u8=>
 rtInt .i64 u8 fun x9=>
 condK (eqF x9 (Int.ofNat 0)) (
 ldK E s6 a (Nat.add b 5) fun u10=>
 iaddrSK 13 u10 f fun b11 o12=>
 stK 1 b11 (Nat.add o12 12) (V.int .i64 x7) s6 fun s13=>
 K2 f s13) (
 K2 f s6)) (
 K2 f σ)
def C47_5:XC:=(.cond (.tmp 107) (.ops (.m 111 0<|
.m 112 7<|
.O 113 y3 (.load (some 16) (.t 4))<|
.m 114 2<|
.k 115 y16 82 [(.t 111),(.t 112),(.t 113),(.t 114)]<|
.nil))
 .skip)
def T47_5 (E:List (Nat × Blk)) (D:Den) (W:DrawFn) (K2:Int→H→Ans) (a b:Nat) (c:Int) (d e:Nat) (f:Int) (g:Bool) (σ:H):Ans:=
 condK g (
 ldnK E σ d e 16 fun l1=>
 xcI .i64 l1 fun x4 l3=>
 xcS l3 fun x7 l6=>
 xcB l6 fun x10 l9=>
 xcI .i64 l9 fun x13 l12=>
 xcI .i64 l12 fun x16 l15=>
 xcB l15 fun x19 l18=>
 xcB l18 fun x22 l21=>
 xcB l21 fun x25 l24=>
 xcB l24 fun x28 l27=>
 xcI .i64 l27 fun x31 l30=>
 xcI .i64 l30 fun x34 l33=>
 rtCons l33 fun x35 l36=>
 rtCons l36 fun x37 l38=>
 xcI .i64 l38 fun x41 l40=>
 xcB l40 fun x44 l43=>
 xcI .i64 l43 fun x47 l46=>
 rtNil l46 (
 callK (D 82 [.ptr a b,.int .i64 f,.agg [.int .i64 x4,.str x7,.bool x10,.int .i64 x13,.int .i64 x16,.bool x19,.bool x22,.bool x25,.bool x28,.int .i64 x31,.int .i64 x34,x35,x37,.int .i64 x41,.bool x44,.int .i64 x47],.int .i64 c] σ) fun u48 s49=>
 rtTup u48 fun l50=>
 rtNil l50 (
 K2 f s49))) (
 K2 f σ)
def J47_2 (E:List (Nat × Blk)) (D:Den) (W:DrawFn) (N:Nat):=T47_2 E D W
def J47_4:=T47_4 E D W (J47_2 E D W N )
def J47_5:=T47_5 E D W (J47_2 E D W N )
def J47_3:=T47_3 E D W (J47_2 E D W N ) (J47_4 E D W N ) (J47_5 E D W N )
def J47_1:=T47_1 E D W (J47_3 E D W N )
def F47 (args:List V) (σ:H):Ans:=
 rtCons args fun x1 l2=>
 rtPtr x1 fun b3 o4=>
 rtCons l2 fun x5 l6=>
 rtAgg x5 fun l7=>
 xcI .i64 l7 fun x10 l9=>
 xcS l9 fun x13 l12=>
 xcB l12 fun x16 l15=>
 xcI .i64 l15 fun x19 l18=>
 xcI .i64 l18 fun x22 l21=>
 xcB l21 fun x25 l24=>
 xcB l24 fun x28 l27=>
 xcB l27 fun x31 l30=>
 xcB l30 fun x34 l33=>
 xcI .i64 l33 fun x37 l36=>
 xcI .i64 l36 fun x40 l39=>
 rtCons l39 fun x41 l42=>
 rtCons l42 fun x43 l44=>
 xcI .i64 l44 fun x47 l46=>
 xcB l46 fun x50 l49=>
 xcI .i64 l49 fun x53 l52=>
 rtNil l52 (
 xcI .i64 l6 fun x56 l55=>
 rtNil l55 (
 T47_0 E D W (J47_1 E D W N ) b3 o4 x10 x13 x16 x19 x22 x25 x28 x31 x34 x37 x40 x41 x43 x47 x50 x53 x56 σ))
def A47:XFn:=⟨117,[.ptr,y3,.i],[(.tmp 6)],(C47_0 (C47_1 C47_2 (C47_3 C47_4 C47_5)))⟩
theorem FE47 (args:List V) (σ:H):runX E D W N A47 args σ=F47 E D W N args σ:=by kernel_rfl
def C48_0:XC:=(.z (.q 4 0<|
.nil)
 (.seq (.z (.m 5 0<|
.n 6 5<|
.f 7 5 6<|
.l 8 .any 7<|
.m 9 1<|
.s 10 13 8 9<|
.f 11 1 10<|
.l 12 .any 11<|
.u 13 12<|
.b 14 .gtr .none (.t 13) (.i 0)<|
.nil)
 (.cond (.tmp 14) (.z (.q 4 1<|
.nil)
 .ret)
 .skip))
 (.z (.q 4 0<|
.nil)
 .ret)))
def T48_0 (E:List (Nat × Blk)) (D:Den) (W:DrawFn) (a b:Nat) (c:Int) (σ:H):Ans:=
 ldK E σ a (Nat.add b 5) fun u1=>
 iaddrSK 13 u1 c fun b2 o3=>
 ldK E σ b2 (Nat.add o3 1) fun u4=>
 slenK u4 fun n5=>
 condK (ltF (Int.ofNat 0) (Int.ofNat n5)) (
 some ((V.int .i64 (Int.ofNat 1)),σ)) (
 some ((V.int .i64 (Int.ofNat 0)),σ))
def F48 (N:Nat) (args:List V) (σ:H):Ans:=
 rtCons args fun x1 l2=>
 rtPtr x1 fun b3 o4=>
 xcI .i64 l2 fun x7 l6=>
 rtNil l6 (
 T48_0 E D W b3 o4 x7 σ)
def A48:XFn:=⟨15,[.ptr,.i],[(.tmp 4)],C48_0⟩
theorem FE48 (args:List V) (σ:H):runX E D W N A48 args σ=F48 E D W N args σ:=by kernel_rfl
def C49_0:XC:=(.seq (.z (.m 10 0<|
.n 11 10<|
.f 12 6 11<|
.l 13 .i 12<|
.b 14 .neq .none (.t 13) (.i 0)<|
.nil)
 (.cond (.tmp 14) .ret
 .skip))
 (.z (.m 16 0<|
.n 17 16<|
.f 18 5 17<|
.l 19 .any 18<|
.m 20 1<|
.s 21 13 19 20<|
.f 22 1 21<|
.l 23 .any 22<|
.m 24 2<|
.m 25 3<|
.k 26 (.tup [.any,.i]) 83 [(.t 23),(.t 24),(.t 25)]<|
.m 15 26<|
.P 27 (.extract 0 (.t 15))<|
.P 28 (.extract 1 (.t 15))<|
.m 8 27<|
.m 9 28<|
.nil)
 (.seq (.z (.m 29 9<|
.b 30 .neq .none (.t 29) (.i 0)<|
.nil)
 (.cond (.tmp 30) (.z (.m 31 0<|
.m 32 9<|
.k 33 y16 78 [(.t 31),(.t 32)]<|
.nil)
 .ret)
 .skip))
 (.ops (.m 34 0<|
.n 35 34<|
.f 36 5 35<|
.l 37 .any 36<|
.m 38 1<|
.m 39 8<|
.s 40 13 37 38<|
.f 41 1 40<|
.w 1 41 39<|
.nil)))))
def T49_0 (E:List (Nat × Blk)) (D:Den) (W:DrawFn) (a b:Nat) (c d e:Int) (σ:H):Ans:=
 ldK E σ a (Nat.add b 6) fun u1=>
 rtInt .i64 u1 fun x2=>
 condK (not (eqF x2 (Int.ofNat 0))) (
 some ((V.tup []),σ)) (
 ldK E σ a (Nat.add b 5) fun u3=>
 iaddrSK 13 u3 c fun b4 o5=>
 ldK E σ b4 (Nat.add o5 1) fun u6=>
 callK (D 83 [u6,.int .i64 d,.int .i64 e] σ) fun u7 s8=>
 rtTup u7 fun l9=>
 rtCons l9 fun x10 l11=>
 xcI .i64 l11 fun x14 l13=>
 rtNil l13 (
 condK (not (eqF x14 (Int.ofNat 0))) (
 callK (D 78 [.ptr a b,.int .i64 x14] s8) fun u15 s16=>
 rtTup u15 fun l17=>
 rtNil l17 (
 some ((V.tup []),s16))) (
 ldK E s8 a (Nat.add b 5) fun u18=>
 iaddrSK 13 u18 c fun b19 o20=>
 stK 1 b19 (Nat.add o20 1) x10 s8 fun s21=>
 some ((V.tup []),s21))))
def F49 (N:Nat) (args:List V) (σ:H):Ans:=
 rtCons args fun x1 l2=>
 rtPtr x1 fun b3 o4=>
 xcI .i64 l2 fun x7 l6=>
 xcI .i64 l6 fun x10 l9=>
 xcI .i64 l9 fun x13 l12=>
 rtNil l12 (
 T49_0 E D W b3 o4 x7 x10 x13 σ)
def A49:XFn:=⟨42,[.ptr,.i,.i,.i],[],C49_0⟩
theorem FE49 (args:List V) (σ:H):runX E D W N A49 args σ=F49 E D W N args σ:=by kernel_rfl
def C51_0:XC:=(.z (.P 2 (.box 37 (.t 0))<|
.c 4 y1<|
.nil)
 (.z (.m 5 1<|
.b 6 .and .none (.t 5) (.i 1)<|
.b 7 .neq .none (.t 6) (.i 0)<|
.m 8 7<|
.gO 8 false (.p 9 [2,8] (.faddr 1 (.t 2))<|
.op (some 10) .i [9,8] (.load none (.t 9))<|
.p 11 [10,8] (.bin .eql .none (.t 10) (.i 0))<|
.nil) 12 8 11<|
.m 13 12<|
.gA 13 true (.p 14 [1,13] y15<|
.p 15 [14,13] (.bin .and .none (.t 14) (.i 2))<|
.p 16 [15,13] (.bin .neq .none (.t 15) (.i 0))<|
.p 17 [16,13] (.mov (.t 16))<|
.grp 17 false (.p 18 [2,17] (.faddr 2 (.t 2))<|
.p 19 [18,17] (.load none (.t 18))<|
.p 20 [19,17] (.len false (.t 19))<|
.p 21 [20,17] (.bin .eql .none (.t 20) (.i 0))<|
.nil) 22 [17,21,13] (.t 17) y11 (.t 21)<|
.nil) 23 13 22<|
.m 24 23<|
.gA 24 true (.p 25 [1,24] y15<|
.p 26 [25,24] (.bin .and .none (.t 25) (.i 4))<|
.p 27 [26,24] (.bin .neq .none (.t 26) (.i 0))<|
.p 28 [27,24] (.mov (.t 27))<|
.grp 28 false (.p 29 [2,28] (.faddr 3 (.t 2))<|
.p 30 [29,28] (.load none (.t 29))<|
.p 31 [30,28] (.len false (.t 30))<|
.p 32 [31,28] (.bin .eql .none (.t 31) (.i 0))<|
.nil) 33 [28,32,24] (.t 28) y11 (.t 32)<|
.nil) 34 24 33<|
.m 35 34<|
.gA 35 true (.p 36 [1,35] y15<|
.p 37 [36,35] (.bin .and .none (.t 36) (.i 8))<|
.p 38 [37,35] (.bin .neq .none (.t 37) (.i 0))<|
.p 39 [38,35] (.mov (.t 38))<|
.grp 39 false (.p 40 [2,39] (.faddr 4 (.t 2))<|
.op (some 41) .i [40,39] (.load none (.t 40))<|
.p 42 [41,39] (.bin .eql .none (.t 41) (.i 0))<|
.p 43 [42,39] (.mov (.t 42))<|
.grp 43 true (.p 44 [2,43] (.faddr 5 (.t 2))<|
.p 45 [44,43] (.load none (.t 44))<|
.p 46 [45,43] (.len false (.t 45))<|
.p 47 [46,43] (.bin .eql .none (.t 46) (.i 0))<|
.nil) 48 [43,47,39] (.t 43) (.t 47) y29<|
.nil) 49 [39,48,35] (.t 39) y11 (.t 48)<|
.nil) 50 35 49<|
.m 4 50<|
.nil)
 .ret))
def T51_0 (E:List (Nat × Blk)) (D:Den) (W:DrawFn) (a b:Int) (c d:V) (e:Int) (f:V) (g:Int) (σ:H):Ans:=
 nbK [.int .i64 a,.int .i64 b,c,d,.int .i64 e,f] σ fun s1=>
 joinB (fun c2 s3=>
 joinB (fun c5 s6=>
 joinB (fun c8 s9=>
 joinB (fun c11 s12=>
 some ((V.bool c11),s12)) fun k13=>
 condK c8 (
 joinB (fun c14 s15=>
 k13 c14 s15) fun k16=>
 condK (not (eqF (andF .i64 g (Int.ofNat 8)) (Int.ofNat 0))) (
 k16 true s9) (
 ldK E s9 (H.next σ) 4 fun u17=>
 rtInt .i64 u17 fun x18=>
 joinB (fun c19 s20=>
 k16 c19 s20) fun k21=>
 condK (eqF x18 (Int.ofNat 0)) (
 ldK E s9 (H.next σ) 5 fun u22=>
 slenK u22 fun n23=>
 k21 (eqF (Int.ofNat n23) (Int.ofNat 0)) s9) (
 k21 false s9))) (
 k13 false s9)) fun k10=>
 condK c5 (
 joinB (fun c24 s25=>
 k10 c24 s25) fun k26=>
 condK (not (eqF (andF .i64 g (Int.ofNat 4)) (Int.ofNat 0))) (
 k26 true s6) (
 ldK E s6 (H.next σ) 3 fun u27=>
 slenK u27 fun n28=>
 k26 (eqF (Int.ofNat n28) (Int.ofNat 0)) s6)) (
 k10 false s6)) fun k7=>
 condK c2 (
 joinB (fun c29 s30=>
 k7 c29 s30) fun k31=>
 condK (not (eqF (andF .i64 g (Int.ofNat 2)) (Int.ofNat 0))) (
 k31 true s3) (
 ldK E s3 (H.next σ) 2 fun u32=>
 slenK u32 fun n33=>
 k31 (eqF (Int.ofNat n33) (Int.ofNat 0)) s3)) (
 k7 false s3)) fun k4=>
 condK (not (eqF (andF .i64 g (Int.ofNat 1)) (Int.ofNat 0))) (
 k4 true s1) (
 ldK E s1 (H.next σ) 1 fun u34=>
 rtInt .i64 u34 fun x35=>
 k4 (eqF x35 (Int.ofNat 0)) s1)
def F51 (N:Nat) (args:List V) (σ:H):Ans:=
 rtCons args fun x1 l2=>
 rtAgg x1 fun l3=>
 xcI .i64 l3 fun x6 l5=>
 xcI .i64 l5 fun x9 l8=>
 rtCons l8 fun x10 l11=>
 rtCons l11 fun x12 l13=>
 xcI .i64 l13 fun x16 l15=>
 rtCons l15 fun x17 l18=>
 rtNil l18 (
 xcI .i64 l2 fun x21 l20=>
 rtNil l20 (
 T51_0 E D W x6 x9 x10 x12 x16 x17 x21 σ))
def A51:XFn:=⟨51,[y2,.i],[(.tmp 4)],C51_0⟩
theorem FE51 (args:List V) (σ:H):runX E D W N A51 args σ=F51 E D W N args σ:=by kernel_rfl
def C52_0:XC:=(.z (.P 2 (.box 95 (.t 0))<|
.c 4 y1<|
.nil)
 (.z (.f 5 0 2<|
.l 6 .bool 5<|
.P 7 (.un .not (.t 6))<|
.m 8 7<|
.gO 8 false (.p 9 [2,8] (.faddr 1 (.t 2))<|
.op (some 10) .bool [9,8] (.load none (.t 9))<|
.p 11 [10,8] (.un .not (.t 10))<|
.p 12 [11,8] (.mov (.t 11))<|
.grp 12 false (.p 13 [1,12] y15<|
.p 14 [2,12] (.faddr 4 (.t 2))<|
.op (some 15) .i [14,12] (.load none (.t 14))<|
.p 16 [13,15,12] (.bin .geq .none (.t 13) (.t 15))<|
.nil) 17 [12,16,8] (.t 12) y11 (.t 16)<|
.p 18 [17,8] (.mov (.t 17))<|
.grp 18 true (.p 19 [2,18] (.faddr 2 (.t 2))<|
.op (some 20) .bool [19,18] (.load none (.t 19))<|
.p 21 [20,18] (.un .not (.t 20))<|
.p 22 [21,18] (.mov (.t 21))<|
.grp 22 false (.p 23 [1,22] y15<|
.p 24 [2,22] (.faddr 5 (.t 2))<|
.op (some 25) .i [24,22] (.load none (.t 24))<|
.p 26 [23,25,22] (.bin .leq .none (.t 23) (.t 25))<|
.nil) 27 [22,26,18] (.t 22) y11 (.t 26)<|
.nil) 28 [18,27,8] (.t 18) (.t 27) y29<|
.nil) 29 8 28<|
.m 4 29<|
.nil)
 .ret))
def T52_0 (E:List (Nat × Blk)) (D:Den) (W:DrawFn) (a b c d:Bool) (e f g:Int) (σ:H):Ans:=
 nbK [.bool a,.bool b,.bool c,.bool d,.int .i64 e,.int .i64 f] σ fun s1=>
 ldK E s1 (H.next σ) 0 fun u2=>
 rtBool u2 fun x3=>
 joinB (fun c4 s5=>
 some ((V.bool c4),s5)) fun k6=>
 condK (not x3) (
 k6 true s1) (
 ldK E s1 (H.next σ) 1 fun u7=>
 rtBool u7 fun x8=>
 joinB (fun c9 s10=>
 joinB (fun c12 s13=>
 k6 c12 s13) fun k14=>
 condK c9 (
 ldK E s10 (H.next σ) 2 fun u15=>
 rtBool u15 fun x16=>
 joinB (fun c17 s18=>
 k14 c17 s18) fun k19=>
 condK (not x16) (
 k19 true s10) (
 ldK E s10 (H.next σ) 5 fun u20=>
 rtInt .i64 u20 fun x21=>
 k19 (leF g x21) s10)) (
 k14 false s10)) fun k11=>
 condK (not x8) (
 k11 true s1) (
 ldK E s1 (H.next σ) 4 fun u22=>
 rtInt .i64 u22 fun x23=>
 k11 (leF x23 g) s1))
def F52 (N:Nat) (args:List V) (σ:H):Ans:=
 rtCons args fun x1 l2=>
 rtAgg x1 fun l3=>
 xcB l3 fun x6 l5=>
 xcB l5 fun x9 l8=>
 xcB l8 fun x12 l11=>
 xcB l11 fun x15 l14=>
 xcI .i64 l14 fun x18 l17=>
 xcI .i64 l17 fun x21 l20=>
 rtNil l20 (
 xcI .i64 l2 fun x24 l23=>
 rtNil l23 (
 T52_0 E D W x6 x9 x12 x15 x18 x21 x24 σ))
def A52:XFn:=⟨30,[y4,.i],[(.tmp 4)],C52_0⟩
theorem FE52 (args:List V) (σ:H):runX E D W N A52 args σ=F52 E D W N args σ:=by kernel_rfl
def C54_0:XC:=(.z (.P 4 (.box 99 (.t 1))<|
.P 5 (.box 37 (.t 2))<|
.c 6 y1<|
.nil)
 (.z (.O 7 y2 (.load (some 6) (.t 5))<|
.k 8 .bool 51 [(.t 7),(.i 2)]<|
.m 9 8<|
.gA 9 true (.p 10 [5,9] (.faddr 2 (.t 5))<|
.p 11 [10,9] (.load none (.t 10))<|
.p 12 [11,9] (.len false (.t 11))<|
.p 13 [12,9] (.bin .leq .none (.t 12) (.i 70000))<|
.nil) 14 9 13<|
.m 15 14<|
.gA 15 true (.p 16 [4,15] (.faddr 2 (.t 4))<|
.p 17 [16,15] (.faddr 3 (.t 16))<|
.op (some 18) .bool [17,15] (.load none (.t 17))<|
.p 19 [18,15] (.mov (.t 18))<|
.grp 19 false (.p 20 [4,19] (.faddr 2 (.t 4))<|
.op (some 21) y4 [20,19] (.load (some 6) (.t 20))<|
.p 22 [5,19] (.faddr 2 (.t 5))<|
.p 23 [22,19] (.load none (.t 22))<|
.p 24 [23,19] (.len false (.t 23))<|
.op (some 25) .bool [21,24,19] (.call 52 [(.t 21),(.t 24)])<|
.nil) 26 [19,25,15] (.t 19) y11 (.t 25)<|
.nil) 27 15 26<|
.m 28 27<|
.gA 28 true (.p 29 [4,28] (.faddr 0 (.t 4))<|
.op (some 30) .i [29,28] (.load none (.t 29))<|
.p 31 [30,28] (.bin .eql .none (.t 30) (.i 5))<|
.p 32 [31,28] (.mov (.t 31))<|
.grp 32 false (.p 33 [5,32] (.faddr 2 (.t 5))<|
.p 34 [33,32] (.load none (.t 33))<|
.op (some 35) .bool [34,32] (.call 88 [(.t 34)])<|
.nil) 36 [32,35,28] (.t 32) y11 (.t 35)<|
.nil) 37 28 36<|
.m 6 37<|
.nil)
 .ret))
def T54_0 (E:List (Nat × Blk)) (D:Den) (W:DrawFn) (a:V) (b:Int) (c:V) (d e f g:Bool) (h i:Int) (j k:V) (l:Int) (m:Bool) (o p q:Int) (r s:V) (t:Int) (u:V) (σ:H):Ans:=
 nbK [.int .i64 b,c,.bool d,.bool e,.bool f,.bool g,.int .i64 h,.int .i64 i,j,k,.int .i64 l,.bool m,.int .i64 o] σ fun s1=>
 nbK [.int .i64 p,.int .i64 q,r,s,.int .i64 t,u] s1 fun s2=>
 ldnK E s2 (H.next s1) 0 6 fun l3=>
 xcI .i64 l3 fun x6 l5=>
 xcI .i64 l5 fun x9 l8=>
 rtCons l8 fun x10 l11=>
 rtCons l11 fun x12 l13=>
 xcI .i64 l13 fun x16 l15=>
 rtCons l15 fun x17 l18=>
 rtNil l18 (
 callK (D 51 [.agg [.int .i64 x6,.int .i64 x9,x10,x12,.int .i64 x16,x17],.int .i64 (Int.ofNat 2)] s2) fun u19 s20=>
 rtBool u19 fun x21=>
 joinB (fun c22 s23=>
 joinB (fun c25 s26=>
 joinB (fun c28 s29=>
 some ((V.bool c28),s29)) fun k30=>
 condK c25 (
 ldK E s26 (H.next σ) 0 fun u31=>
 rtInt .i64 u31 fun x32=>
 joinB (fun c33 s34=>
 k30 c33 s34) fun k35=>
 condK (eqF x32 (Int.ofNat 5)) (
 k35 true s26) (
 ldK E s26 (H.next s1) 2 fun u36=>
 callK (D 88 [u36] s26) fun u37 s38=>
 rtBool u37 fun x39=>
 k35 x39 s38)) (
 k30 false s26)) fun k27=>
 condK c22 (
 ldK E s23 (H.next σ) 5 fun u40=>
 rtBool u40 fun x41=>
 joinB (fun c42 s43=>
 k27 c42 s43) fun k44=>
 condK x41 (
 k44 true s23) (
 ldnK E s23 (H.next σ) 2 6 fun l45=>
 xcB l45 fun x48 l47=>
 xcB l47 fun x51 l50=>
 xcB l50 fun x54 l53=>
 xcB l53 fun x57 l56=>
 xcI .i64 l56 fun x60 l59=>
 xcI .i64 l59 fun x63 l62=>
 rtNil l62 (
 ldK E s23 (H.next s1) 2 fun u64=>
 slenK u64 fun n65=>
 callK (D 52 [.agg [.bool x48,.bool x51,.bool x54,.bool x57,.int .i64 x60,.int .i64 x63],.int .i64 (Int.ofNat n65)] s23) fun u66 s67=>
 rtBool u66 fun x68=>
 k44 x68 s67))) (
 k27 false s23)) fun k24=>
 condK x21 (
 ldK E s20 (H.next s1) 2 fun u69=>
 slenK u69 fun n70=>
 k24 (leF (Int.ofNat n70) (Int.ofNat 70000)) s20) (
 k24 false s20))
def F54 (N:Nat) (args:List V) (σ:H):Ans:=
 rtCons args fun x1 l2=>
 rtCons l2 fun x3 l4=>
 rtAgg x3 fun l5=>
 xcI .i64 l5 fun x8 l7=>
 rtCons l7 fun x9 l10=>
 xcB l10 fun x13 l12=>
 xcB l12 fun x16 l15=>
 xcB l15 fun x19 l18=>
 xcB l18 fun x22 l21=>
 xcI .i64 l21 fun x25 l24=>
 xcI .i64 l24 fun x28 l27=>
 rtCons l27 fun x29 l30=>
 rtCons l30 fun x31 l32=>
 xcI .i64 l32 fun x35 l34=>
 xcB l34 fun x38 l37=>
 xcI .i64 l37 fun x41 l40=>
 rtNil l40 (
 rtCons l4 fun x42 l43=>
 rtAgg x42 fun l44=>
 xcI .i64 l44 fun x47 l46=>
 xcI .i64 l46 fun x50 l49=>
 rtCons l49 fun x51 l52=>
 rtCons l52 fun x53 l54=>
 xcI .i64 l54 fun x57 l56=>
 rtCons l56 fun x58 l59=>
 rtNil l59 (
 rtNil l43 (
 T54_0 E D W x1 x8 x9 x13 x16 x19 x22 x25 x28 x29 x31 x35 x38 x41 x47 x50 x51 x53 x57 x58 σ)))
def A54:XFn:=⟨38,[.any,(.agg y7),y2],[(.tmp 6)],C54_0⟩
theorem FE54 (args:List V) (σ:H):runX E D W N A54 args σ=F54 E D W N args σ:=by kernel_rfl
def q57a:List (Nat × XTy):=[(0,.any),(1,.any),(7,.i),(8,.i)]
def Fin57 (E:List (Nat × Blk)):St→Ans:=fun s=>resK E s [(.tmp 4)] fun l=>some (oneV l,s.σ)
def b57a (c0:XC):Nat→St→Ans:=blkK 0 (dX E D W N (.keep [] [] [] c0) (Fin57 E) nX (Fin57 E)) nX
def C57_0 (cc1:XC) (cc2:XC):XC:=(.z (.q 4 0<|
.nil)
 (.seq (.z (.m 6 0<|
.u 7 6<|
.q 8 0<|
.nil)
 (.block 0 (.loop q57a [] [] cc2)))
 (.keep [] [] [] cc1)))
def T57_0 (E:List (Nat × Blk)) (D:Den) (W:DrawFn) (K2:V→V→Int→Int→H→Ans) (a b:V) (σ:H):Ans:=
 slenK a fun n1=>
 K2 a b (Int.ofNat n1) (Int.ofNat 0) σ
def C57_1:XC:=(.z (.c 4 y17<|
.nil)
 .ret)
def T57_1 (E:List (Nat × Blk)) (D:Den) (W:DrawFn) (σ:H):Ans:=
 some ((V.int .i64 (Int.negSucc 0)),σ)
def C57_2:XC:=(.z (.b 9 .lss .none (.t 8) (.t 7)<|
.nil)
 (.seq y18
 (.seq (.block 1 (.z (.m 10 8<|
.m 5 10<|
.nil)
 (.z (.m 11 1<|
.m 12 0<|
.m 13 5<|
.s 14 6 12 13<|
.O 15 y2 (.load (some 6) (.t 14))<|
.O 16 .bool (.callv (.t 11) [(.t 15)])<|
.nil)
 (.cond (.tmp 16) (.z (.m 17 5<|
.m 4 17<|
.nil)
 .ret)
 .skip))))
 (.ops (.b 18 .add .none (.t 8) (.i 1)<|
.m 8 18<|
.nil)))))
def T57_2 (E:List (Nat × Blk)) (D:Den) (W:DrawFn) (K1:H→Ans) (R2:V→V→Int→Int→H→Ans) (a b:V) (c d:Int) (σ:H):Ans:=
 condK (ltF d c) (
 iaddrSK 6 a d fun b1 o2=>
 ldnK E σ b1 o2 6 fun l3=>
 xcI .i64 l3 fun x6 l5=>
 xcI .i64 l5 fun x9 l8=>
 rtCons l8 fun x10 l11=>
 rtCons l11 fun x12 l13=>
 xcI .i64 l13 fun x16 l15=>
 rtCons l15 fun x17 l18=>
 rtNil l18 (
 callvK D b [.agg [.int .i64 x6,.int .i64 x9,x10,x12,.int .i64 x16,x17]] σ fun u19 s20=>
 rtBool u19 fun x21=>
 condK x21 (
 some ((V.int .i64 d),s20)) (
 R2 a b c (addF .i64 d (Int.ofNat 1)) s20))) (
 K1 σ)
def S57_0 (a b:V) (σ:H):St:=⟨[(0,a),(1,b)],[],[],σ⟩
def S57_1 (σ:H):St:=⟨[],[],[],σ⟩
def S57_2 (a b:V) (c d:Int) (σ:H):St:=⟨[(0,a),(1,b),(7,.int .i64 c),(8,.int .i64 d)],[],[],σ⟩
theorem P57_0 (cc1:XC) (cc2:XC) (a b:V) (σ:H) :
 denC E D W N (C57_0 cc1 cc2) (S57_0 a b σ) (Fin57 E) nX (Fin57 E) =
 T57_0 E D W (fun a b c d σ=>iterK (fun rec s'=>denC E D W N cc2 s' (kX q57a [] [] rec) (b57a E D W N cc1) (Fin57 E)) N (S57_2 a b c d σ)) a b σ:=by kernel_rfl
theorem P57_2 (cc1:XC) (li2:St→Ans) (a b:V) (c d:Int) (σ:H) :
 denC E D W N (C57_2 ) (S57_2 a b c d σ) (kX q57a [] [] li2) (b57a E D W N cc1) (Fin57 E) =
 T57_2 E D W (fun  σ=>denC E D W N cc1 (S57_1 σ) (Fin57 E) nX (Fin57 E)) (fun a b c d σ=>li2 (S57_2 a b c d σ)) a b c d σ:=by kernel_rfl
def J57_1 (E:List (Nat × Blk)) (D:Den) (W:DrawFn) (N:Nat):=T57_1 E D W
theorem JE57_1 (σ:H) :
 denC E D W N C57_1 (S57_1 σ) (Fin57 E) nX (Fin57 E)=J57_1 E D W N  σ:=by kernel_rfl
def L57_2 (n:Nat):V→V→Int→Int→H→Ans:=
 Nat.rec (fun _ _ _ _ _=>none) (fun _ ih=>T57_2 E D W (J57_1 E D W N ) ih) n
theorem LE57_2 (n:Nat):∀(a b:V) (c d:Int) (σ:H),
 iterK (fun rec s'=>denC E D W N C57_2 s' (kX q57a [] [] rec) (b57a E D W N C57_1) (Fin57 E)) n (S57_2 a b c d σ)=L57_2 E D W N n a b c d σ:=by
 induction n with
 | zero=>intro a b c d σ;rfl
 | succ n ihn=>
  intro a b c d σ
  rw[iterK_succ]
  refine(P57_2 E D W N C57_1 (iterK (fun rec s'=>denC E D W N C57_2 s' (kX q57a [] [] rec) (b57a E D W N C57_1) (Fin57 E)) n) a b c d σ).trans ?_
  simp only[ihn,JE57_1]
  kernel_rfl
def J57_0:=T57_0 E D W (L57_2 E D W N N)
theorem JE57_0 (a b:V) (σ:H) :
 denC E D W N (C57_0 C57_1 C57_2) (S57_0 a b σ) (Fin57 E) nX (Fin57 E)=J57_0 E D W N a b σ:=by
 refine(P57_0 E D W N C57_1 C57_2  a b σ).trans ?_
 simp only[LE57_2]
 kernel_rfl
def F57 (args:List V) (σ:H):Ans:=
 rtCons args fun x1 l2=>
 rtCons l2 fun x3 l4=>
 rtNil l4 (
 J57_0 E D W N x1 x3 σ)
def A57:XFn:=⟨19,[.any,.any],[(.tmp 4)],(C57_0 C57_1 C57_2)⟩
theorem FE57 (args:List V) (σ:H):runX E D W N A57 args σ=F57 E D W N args σ:=by
 unfold F57
 simp only[←JE57_0]
 kernel_rfl
def q58a:List (Nat × XTy):=[(3,.any),(6,.any),(7,.i),(8,.i)]
def Fin58 (E:List (Nat × Blk)):St→Ans:=fun s=>resK E s [(.tmp 2)] fun l=>some (oneV l,s.σ)
def b58a (c0:XC):Nat→St→Ans:=blkK 0 (dX E D W N (.keep [(3,.any)] [] [] c0) (Fin58 E) nX (Fin58 E)) nX
def C58_0 (cc1:XC) (cc2:XC):XC:=(.z (.c 2 V.nils<|
.nil)
 (.z (.c 3 V.nils<|
.nil)
 (.seq (.z (.m 6 0<|
.u 7 6<|
.q 8 0<|
.nil)
 (.block 0 (.loop q58a [] [] cc2)))
 (.keep [(3,.any)] [] [] cc1))))
def T58_0 (E:List (Nat × Blk)) (D:Den) (W:DrawFn) (K2:V→V→Int→Int→H→Ans) (a:V) (σ:H):Ans:=
 slenK a fun n1=>
 K2 V.nils a (Int.ofNat n1) (Int.ofNat 0) σ
def C58_1:XC:=(.z (.m 16 3<|
.m 2 16<|
.nil)
 .ret)
def T58_1 (E:List (Nat × Blk)) (D:Den) (W:DrawFn) (a:V) (σ:H):Ans:=
 some (a,σ)
def C58_2:XC:=(.z (.b 9 .lss .none (.t 8) (.t 7)<|
.nil)
 (.seq y18
 (.seq (.block 1 (.z (.s 10 1 6 8<|
.l 11 .any 10<|
.m 5 11<|
.nil)
 (.ops (.m 12 3<|
.m 13 5<|
.O 14 .one (.append 5 1 1 (.t 12) (.t 13))<|
.m 3 14<|
.nil))))
 (.ops (.b 15 .add .none (.t 8) (.i 1)<|
.m 8 15<|
.nil)))))
def T58_2 (E:List (Nat × Blk)) (D:Den) (W:DrawFn) (K1:V→H→Ans) (R2:V→V→Int→Int→H→Ans) (a b:V) (c d:Int) (σ:H):Ans:=
 condK (ltF d c) (
 iaddrSK 1 b d fun b1 o2=>
 ldK E σ b1 o2 fun u3=>
 appK E 1 1 a u3 σ fun u4 s5=>
 rtOne u4 (
 R2 u4 b c (addF .i64 d (Int.ofNat 1)) s5)) (
 K1 a σ)
def S58_0 (a:V) (σ:H):St:=⟨[(0,a)],[],[],σ⟩
def S58_1 (a:V) (σ:H):St:=⟨[(3,a)],[],[],σ⟩
def S58_2 (a b:V) (c d:Int) (σ:H):St:=⟨[(3,a),(6,b),(7,.int .i64 c),(8,.int .i64 d)],[],[],σ⟩
theorem P58_0 (cc1:XC) (cc2:XC) (a:V) (σ:H) :
 denC E D W N (C58_0 cc1 cc2) (S58_0 a σ) (Fin58 E) nX (Fin58 E) =
 T58_0 E D W (fun b c d e σ=>iterK (fun rec s'=>denC E D W N cc2 s' (kX q58a [] [] rec) (b58a E D W N cc1) (Fin58 E)) N (S58_2 b c d e σ)) a σ:=by kernel_rfl
theorem P58_2 (cc1:XC) (li2:St→Ans) (a b:V) (c d:Int) (σ:H) :
 denC E D W N (C58_2 ) (S58_2 a b c d σ) (kX q58a [] [] li2) (b58a E D W N cc1) (Fin58 E) =
 T58_2 E D W (fun a σ=>denC E D W N cc1 (S58_1 a σ) (Fin58 E) nX (Fin58 E)) (fun a b c d σ=>li2 (S58_2 a b c d σ)) a b c d σ:=by kernel_rfl
def J58_1 (E:List (Nat × Blk)) (D:Den) (W:DrawFn) (N:Nat):=T58_1 E D W
theorem JE58_1 (a:V) (σ:H) :
 denC E D W N C58_1 (S58_1 a σ) (Fin58 E) nX (Fin58 E)=J58_1 E D W N a σ:=by kernel_rfl
def L58_2 (n:Nat):V→V→Int→Int→H→Ans:=
 Nat.rec (fun _ _ _ _ _=>none) (fun _ ih=>T58_2 E D W (J58_1 E D W N ) ih) n
theorem LE58_2 (n:Nat):∀(a b:V) (c d:Int) (σ:H),
 iterK (fun rec s'=>denC E D W N C58_2 s' (kX q58a [] [] rec) (b58a E D W N C58_1) (Fin58 E)) n (S58_2 a b c d σ)=L58_2 E D W N n a b c d σ:=by
 induction n with
 | zero=>intro a b c d σ;rfl
 | succ n ihn=>
  intro a b c d σ
  rw[iterK_succ]
  refine(P58_2 E D W N C58_1 (iterK (fun rec s'=>denC E D W N C58_2 s' (kX q58a [] [] rec) (b58a E D W N C58_1) (Fin58 E)) n) a b c d σ).trans ?_
  simp only[ihn,JE58_1]
  kernel_rfl
def J58_0:=T58_0 E D W (L58_2 E D W N N)
theorem JE58_0 (a:V) (σ:H) :
 denC E D W N (C58_0 C58_1 C58_2) (S58_0 a σ) (Fin58 E) nX (Fin58 E)=J58_0 E D W N a σ:=by
 refine(P58_0 E D W N C58_1 C58_2  a σ).trans ?_
 simp only[LE58_2]
 kernel_rfl
def F58 (args:List V) (σ:H):Ans:=
 rtCons args fun x1 l2=>
 rtNil l2 (
 J58_0 E D W N x1 σ)
def A58:XFn:=⟨17,[.any],[(.tmp 2)],(C58_0 C58_1 C58_2)⟩
theorem FE58 (args:List V) (σ:H):runX E D W N A58 args σ=F58 E D W N args σ:=by
 unfold F58
 simp only[←JE58_0]
 kernel_rfl
def C59_0:XC:=(.z (.P 3 (.box 42 (.t 0))<|
.c 6 V.nils<|
.nil)
 (.z (.m 8 2<|
.k 9 .one 58 [(.t 8)]<|
.m 7 9<|
.nil)
 (.z (.O 10 y12 (.load (some 2) (.t 3))<|
.m 11 1<|
.m 12 7<|
.u 13 12<|
.k 14 .one 94 [(.t 10),(.t 11),(.t 13)]<|
.m 15 7<|
.p 16 [14,15] (.buildSlice 22 2 [V.nils,V.nils] [(0,1,(.t 14)),(1,1,(.t 15))])<|
.k 17 .one 58 [(.t 16)]<|
.m 6 17<|
.nil)
 .ret)))
def T59_0 (E:List (Nat × Blk)) (D:Den) (W:DrawFn) (a b:Int) (c:Bool) (d:V) (σ:H):Ans:=
 nbK [.int .i64 a,.int .i64 b] σ fun s1=>
 callK (D 58 [d] s1) fun u2 s3=>
 rtOne u2 (
 ldnK E s3 (H.next σ) 0 2 fun l4=>
 xcI .i64 l4 fun x7 l6=>
 xcI .i64 l6 fun x10 l9=>
 rtNil l9 (
 slenK u2 fun n11=>
 callK (D 94 [.agg [.int .i64 x7,.int .i64 x10],.bool c,.int .i64 (Int.ofNat n11)] s3) fun u12 s13=>
 rtOne u12 (
 fillK [(0,1,u12),(1,1,u2)] [V.nils,V.nils] fun l14=>
 chk (allOne l14) (
 let s15:=newB s13 (.cells l14);
 callK (D 58 [.sl (H.next s13) 0 2 (.ex 2)] s15) fun u16 s17=>
 rtOne u16 (
 some (u16,s17))))))
def F59 (N:Nat) (args:List V) (σ:H):Ans:=
 rtCons args fun x1 l2=>
 rtAgg x1 fun l3=>
 xcI .i64 l3 fun x6 l5=>
 xcI .i64 l5 fun x9 l8=>
 rtNil l8 (
 xcB l2 fun x12 l11=>
 rtCons l11 fun x13 l14=>
 rtNil l14 (
 T59_0 E D W x6 x9 x12 x13 σ))
def A59:XFn:=⟨18,[y12,.bool,.any],[(.tmp 6)],C59_0⟩
theorem FE59 (args:List V) (σ:H):runX E D W N A59 args σ=F59 E D W N args σ:=by kernel_rfl
def q60a:List (Nat × XTy):=[(0,(.int .u64)),(1,.i),(5,.any),(9,.i),(10,.i)]
def Fin60 (E:List (Nat × Blk)):St→Ans:=fun s=>resK E s [(.tmp 4)] fun l=>some (oneV l,s.σ)
def b60a (c0:XC):Nat→St→Ans:=blkK 0 (dX E D W N (.keep [(5,.any)] [] [] c0) (Fin60 E) nX (Fin60 E)) nX
def C60_0 (cc1:XC) (cc2:XC):XC:=(.z (.c 4 V.nils<|
.nil)
 (.z (.m 7 1<|
.P 8 (.mkslice 5 1 1 [y8] (.t 7) (.t 7))<|
.m 5 8<|
.nil)
 (.seq (.z (.m 9 1<|
.q 10 0<|
.nil)
 (.block 0 (.loop q60a [] [] cc2)))
 (.keep [(5,.any)] [] [] cc1))))
def T60_0 (E:List (Nat × Blk)) (D:Den) (W:DrawFn) (K2:Int→Int→V→Int→Int→H→Ans) (a b:Int) (σ:H):Ans:=
 nnK b fun n1=>
 nnK b fun n2=>
 chk (Nat.ble n1 n2&&Nat.ble (n2*1) 281474976710656&&Nat.ble n2 1000000000000) (
 let s3:=newB σ (.cells (List.replicate n2 [.int .u8 (Int.ofNat 0)]).flatten);
 K2 a b (V.sl (H.next σ) 0 n1 (.ex n2)) b (Int.ofNat 0) s3)
def C60_1:XC:=(.z (.m 25 5<|
.m 4 25<|
.nil)
 .ret)
def T60_1 (E:List (Nat × Blk)) (D:Den) (W:DrawFn) (a:V) (σ:H):Ans:=
 some (a,σ)
def C60_2:XC:=(.z (.b 11 .lss .none (.t 10) (.t 9)<|
.nil)
 (.seq (.cond (.tmp 11) .skip
 y21)
 (.seq (.block 1 (.z (.m 12 10<|
.m 6 12<|
.nil)
 (.ops (.m 13 5<|
.m 14 6<|
.m 15 0<|
.m 16 1<|
.b 17 .sub .none (.t 16) (.i 1)<|
.m 18 6<|
.b 19 .sub .none (.t 17) (.t 18)<|
.b 20 .mul .none (.i 8) (.t 19)<|
.b 21 .shr .none (.t 15) (.t 20)<|
.P 22 (.conv (.toInt .u8) (.t 21))<|
.s 23 1 13 14<|
.w 1 23 22<|
.nil))))
 (.ops (.b 24 .add .none (.t 10) (.i 1)<|
.m 10 24<|
.nil)))))
def T60_2 (E:List (Nat × Blk)) (D:Den) (W:DrawFn) (K1:V→H→Ans) (R2:Int→Int→V→Int→Int→H→Ans) (a b:Int) (c:V) (d e:Int) (σ:H):Ans:=
 condK (ltF e d) (
 nnK (mulF .i64 (Int.ofNat 8) (subF .i64 (subF .i64 b (Int.ofNat 1)) e)) fun n1=>
 iaddrSK 1 c e fun b2 o3=>
 stK 1 b2 o3 (V.int .u8 (wrapF .u8 (shrF .u64 a n1))) σ fun s4=>
 R2 a b c d (addF .i64 e (Int.ofNat 1)) s4) (
 K1 c σ)
def S60_0 (a b:Int) (σ:H):St:=⟨[(0,.int .u64 a),(1,.int .i64 b)],[],[],σ⟩
def S60_1 (a:V) (σ:H):St:=⟨[(5,a)],[],[],σ⟩
def S60_2 (a b:Int) (c:V) (d e:Int) (σ:H):St:=⟨[(0,.int .u64 a),(1,.int .i64 b),(5,c),(9,.int .i64 d),(10,.int .i64 e)],[],[],σ⟩
theorem P60_0 (cc1:XC) (cc2:XC) (a b:Int) (σ:H) :
 denC E D W N (C60_0 cc1 cc2) (S60_0 a b σ) (Fin60 E) nX (Fin60 E) =
 T60_0 E D W (fun a b c d e σ=>iterK (fun rec s'=>denC E D W N cc2 s' (kX q60a [] [] rec) (b60a E D W N cc1) (Fin60 E)) N (S60_2 a b c d e σ)) a b σ:=by kernel_rfl
theorem P60_2 (cc1:XC) (li2:St→Ans) (a b:Int) (c:V) (d e:Int) (σ:H) :
 denC E D W N (C60_2 ) (S60_2 a b c d e σ) (kX q60a [] [] li2) (b60a E D W N cc1) (Fin60 E) =
 T60_2 E D W (fun c σ=>denC E D W N cc1 (S60_1 c σ) (Fin60 E) nX (Fin60 E)) (fun a b c d e σ=>li2 (S60_2 a b c d e σ)) a b c d e σ:=by kernel_rfl
def J60_1 (E:List (Nat × Blk)) (D:Den) (W:DrawFn) (N:Nat):=T60_1 E D W
theorem JE60_1 (a:V) (σ:H) :
 denC E D W N C60_1 (S60_1 a σ) (Fin60 E) nX (Fin60 E)=J60_1 E D W N a σ:=by kernel_rfl
def L60_2 (n:Nat):Int→Int→V→Int→Int→H→Ans:=
 Nat.rec (fun _ _ _ _ _ _=>none) (fun _ ih=>T60_2 E D W (J60_1 E D W N ) ih) n
theorem LE60_2 (n:Nat):∀(a b:Int) (c:V) (d e:Int) (σ:H),
 iterK (fun rec s'=>denC E D W N C60_2 s' (kX q60a [] [] rec) (b60a E D W N C60_1) (Fin60 E)) n (S60_2 a b c d e σ)=L60_2 E D W N n a b c d e σ:=by
 induction n with
 | zero=>intro a b c d e σ;rfl
 | succ n ihn=>
  intro a b c d e σ
  rw[iterK_succ]
  refine(P60_2 E D W N C60_1 (iterK (fun rec s'=>denC E D W N C60_2 s' (kX q60a [] [] rec) (b60a E D W N C60_1) (Fin60 E)) n) a b c d e σ).trans ?_
  simp only[ihn,JE60_1]
  kernel_rfl
def J60_0:=T60_0 E D W (L60_2 E D W N N)
theorem JE60_0 (a b:Int) (σ:H) :
 denC E D W N (C60_0 C60_1 C60_2) (S60_0 a b σ) (Fin60 E) nX (Fin60 E)=J60_0 E D W N a b σ:=by
 refine(P60_0 E D W N C60_1 C60_2  a b σ).trans ?_
 simp only[LE60_2]
 kernel_rfl
def F60 (args:List V) (σ:H):Ans:=
 xcI .u64 args fun x3 l2=>
 xcI .i64 l2 fun x6 l5=>
 rtNil l5 (
 J60_0 E D W N x3 x6 σ)
def A60:XFn:=⟨26,[(.int .u64),.i],[(.tmp 4)],(C60_0 C60_1 C60_2)⟩
theorem FE60 (args:List V) (σ:H):runX E D W N A60 args σ=F60 E D W N args σ:=by
 unfold F60
 simp only[←JE60_0]
 kernel_rfl
def C64_0:XC:=(.z (.c 4 y8<|
.nil)
 (.seq (.z (.m 5 1<|
.b 6 .lss .none (.t 5) (.i 0)<|
.m 7 6<|
.gO 7 false (.p 8 [1,7] y15<|
.p 9 [0,7] y13<|
.p 10 [9,7] (.len true (.t 9))<|
.p 11 [8,10,7] (.bin .geq .none (.t 8) (.t 10))<|
.nil) 12 7 11<|
.nil)
 (.cond (.tmp 12) (.z (.c 4 y8<|
.nil)
 .ret)
 .skip))
 (.z (.m 13 0<|
.m 14 1<|
.P 15 (.idxStr (.t 13) (.t 14))<|
.m 4 15<|
.nil)
 .ret)))
def T64_0 (E:List (Nat × Blk)) (D:Den) (W:DrawFn) (a:BS) (b:Int) (σ:H):Ans:=
 joinB (fun c1 s2=>
 condK c1 (
 some ((V.int .u8 (Int.ofNat 0)),s2)) (
 idxStrX a b fun x4=>
 some ((V.int .u8 x4),s2))) fun k3=>
 condK (ltF b (Int.ofNat 0)) (
 k3 true σ) (
 k3 (leF (Int.ofNat (BS.len a)) b) σ)
def F64 (N:Nat) (args:List V) (σ:H):Ans:=
 xcS args fun x3 l2=>
 xcI .i64 l2 fun x6 l5=>
 rtNil l5 (
 T64_0 E D W x3 x6 σ)
def A64:XFn:=⟨16,[.str,.i],[(.tmp 4)],C64_0⟩
theorem FE64 (args:List V) (σ:H):runX E D W N A64 args σ=F64 E D W N args σ:=by kernel_rfl
def C65_0:XC:=(.z (.c 2 y1<|
.nil)
 (.z (.m 3 0<|
.b 4 .geq .none (.t 3) (.con (V.int .u8 (Int.ofNat 97)))<|
.m 5 4<|
.gA 5 true (.p 6 [0,5] y13<|
.p 7 [6,5] (.bin .leq .none (.t 6) (.con (V.int .u8 (Int.ofNat 122))))<|
.nil) 8 5 7<|
.m 9 8<|
.gO 9 false (.p 10 [0,9] y13<|
.p 11 [10,9] (.bin .geq .none (.t 10) (.con (V.int .u8 (Int.ofNat 65))))<|
.p 12 [11,9] (.mov (.t 11))<|
.grp 12 true (.p 13 [0,12] y13<|
.p 14 [13,12] (.bin .leq .none (.t 13) (.con (V.int .u8 (Int.ofNat 90))))<|
.nil) 15 [12,14,9] (.t 12) (.t 14) y29<|
.nil) 16 9 15<|
.m 2 16<|
.nil)
 .ret))
def T65_0 (E:List (Nat × Blk)) (D:Den) (W:DrawFn) (a:Int) (σ:H):Ans:=
 joinB (fun c1 s2=>
 joinB (fun c4 s5=>
 some ((V.bool c4),s5)) fun k6=>
 condK c1 (
 k6 true s2) (
 joinB (fun c7 s8=>
 k6 c7 s8) fun k9=>
 condK (leF (Int.ofNat 65) a) (
 k9 (leF a (Int.ofNat 90)) s2) (
 k9 false s2))) fun k3=>
 condK (leF (Int.ofNat 97) a) (
 k3 (leF a (Int.ofNat 122)) σ) (
 k3 false σ)
def F65 (N:Nat) (args:List V) (σ:H):Ans:=
 xcI .u8 args fun x3 l2=>
 rtNil l2 (
 T65_0 E D W x3 σ)
def A65:XFn:=⟨17,[(.int .u8)],[(.tmp 2)],C65_0⟩
theorem FE65 (args:List V) (σ:H):runX E D W N A65 args σ=F65 E D W N args σ:=by kernel_rfl
def q66a:List (Nat × XTy):=[(0,.str),(1,.i),(5,.i)]
def Fin66 (E:List (Nat × Blk)):St→Ans:=fun s=>resK E s [(.tmp 4)] fun l=>some (oneV l,s.σ)
def b66a (c0:XC):Nat→St→Ans:=blkK 0 (dX E D W N (.keep q66a [] [] c0) (Fin66 E) nX (Fin66 E)) nX
def C66_0 (cc1:XC) (cc2:XC):XC:=(.z (.q 4 0<|
.nil)
 (.z (.m 6 1<|
.m 5 6<|
.nil)
 (.seq (.block 0 (.loop q66a [] [] cc2))
 (.keep q66a [] [] cc1))))
def T66_0 (E:List (Nat × Blk)) (D:Den) (W:DrawFn) (K2:BS→Int→Int→H→Ans) (a:BS) (b:Int) (σ:H):Ans:=
 K2 a b b σ
def C66_1:XC:=(.seq (.z (.m 38 0<|
.m 39 1<|
.b 40 .sub .none (.t 39) (.i 1)<|
.P 41 (.idxStr (.t 38) (.t 40))<|
.b 42 .eql .none (.t 41) y14<|
.m 43 42<|
.gO 43 false (.p 44 [1,43] y15<|
.p 45 [5,43] (.mov (.t 5))<|
.p 46 [44,45,43] (.bin .sub .none (.t 44) (.t 45))<|
.p 47 [46,43] (.bin .gtr .none (.t 46) (.i 60))<|
.nil) 48 43 47<|
.nil)
 (.cond (.tmp 48) (.z (.c 4 y17<|
.nil)
 .ret)
 .skip))
 (.z (.m 49 1<|
.m 4 49<|
.nil)
 .ret))
def T66_1 (E:List (Nat × Blk)) (D:Den) (W:DrawFn) (a:BS) (b c:Int) (σ:H):Ans:=
 idxStrX a (subF .i64 b (Int.ofNat 1)) fun x1=>
 joinB (fun c2 s3=>
 condK c2 (
 some ((V.int .i64 (Int.negSucc 0)),s3)) (
 some ((V.int .i64 b),s3))) fun k4=>
 condK (eqF x1 (Int.ofNat 45)) (
 k4 true σ) (
 k4 (ltF (Int.ofNat 60) (subF .i64 b c)) σ)
def C66_2:XC:=(.seq (.z (.m 7 1<|
.m 8 0<|
.P 9 (.len true (.t 8))<|
.b 10 .lss .none (.t 7) (.t 9)<|
.m 11 10<|
.gA 11 true (.p 12 [0,11] y13<|
.p 13 [1,11] y15<|
.p 14 [12,13,11] (.idxStr (.t 12) (.t 13))<|
.op (some 15) .bool [14,11] (.call 65 [(.t 14)])<|
.p 16 [15,11] (.mov (.t 15))<|
.grp 16 false (.p 17 [0,16] y13<|
.p 18 [1,16] y15<|
.p 19 [17,18,16] (.idxStr (.t 17) (.t 18))<|
.op (some 20) .bool [19,16] (.call 68 [(.t 19)])<|
.nil) 21 [16,20,11] (.t 16) y11 (.t 20)<|
.p 22 [21,11] (.mov (.t 21))<|
.grp 22 false (.p 23 [0,22] y13<|
.p 24 [1,22] y15<|
.p 25 [23,24,22] (.idxStr (.t 23) (.t 24))<|
.p 26 [25,22] (.bin .eql .none (.t 25) y14)<|
.p 27 [26,22] (.mov (.t 26))<|
.grp 27 true (.p 28 [0,27] y13<|
.p 29 [1,27] y15<|
.p 30 [29,27] (.bin .add .none (.t 29) (.i 1))<|
.op (some 31) (.int .u8) [28,30,27] (.call 64 [(.t 28),(.t 30)])<|
.p 32 [31,27] (.bin .neq .none (.t 31) y14)<|
.nil) 33 [27,32,22] (.t 27) (.t 32) y29<|
.nil) 34 [22,33,11] (.t 22) y11 (.t 33)<|
.nil) 35 11 34<|
.nil)
 (.cond (.tmp 35) .skip
 y21))
 (.block 1 (.ops (.m 36 1<|
.b 37 .add .none (.t 36) (.i 1)<|
.m 1 37<|
.nil))))
def T66_2 (E:List (Nat × Blk)) (D:Den) (W:DrawFn) (K1:BS→Int→Int→H→Ans) (R2:BS→Int→Int→H→Ans) (a:BS) (b c:Int) (σ:H):Ans:=
 joinB (fun c1 s2=>
 condK c1 (
 R2 a (addF .i64 b (Int.ofNat 1)) c s2) (
 K1 a b c s2)) fun k3=>
 condK (ltF b (Int.ofNat (BS.len a))) (
 idxStrX a b fun x4=>
 callK (D 65 [.int .u8 x4] σ) fun u5 s6=>
 rtBool u5 fun x7=>
 joinB (fun c8 s9=>
 joinB (fun c11 s12=>
 k3 c11 s12) fun k13=>
 condK c8 (
 k13 true s9) (
 idxStrX a b fun x14=>
 joinB (fun c15 s16=>
 k13 c15 s16) fun k17=>
 condK (eqF x14 (Int.ofNat 45)) (
 callK (D 64 [.str a,.int .i64 (addF .i64 b (Int.ofNat 1))] s9) fun u18 s19=>
 rtInt .u8 u18 fun x20=>
 k17 (not (eqF x20 (Int.ofNat 45))) s19) (
 k17 false s9))) fun k10=>
 condK x7 (
 k10 true s6) (
 idxStrX a b fun x21=>
 callK (D 68 [.int .u8 x21] s6) fun u22 s23=>
 rtBool u22 fun x24=>
 k10 x24 s23)) (
 k3 false σ)
def S66_0 (a:BS) (b:Int) (σ:H):St:=⟨[(0,.str a),(1,.int .i64 b)],[],[],σ⟩
def S66_1 (a:BS) (b c:Int) (σ:H):St:=⟨[(0,.str a),(1,.int .i64 b),(5,.int .i64 c)],[],[],σ⟩
theorem P66_0 (cc1:XC) (cc2:XC) (a:BS) (b:Int) (σ:H) :
 denC E D W N (C66_0 cc1 cc2) (S66_0 a b σ) (Fin66 E) nX (Fin66 E) =
 T66_0 E D W (fun a b c σ=>iterK (fun rec s'=>denC E D W N cc2 s' (kX q66a [] [] rec) (b66a E D W N cc1) (Fin66 E)) N (S66_1 a b c σ)) a b σ:=by kernel_rfl
theorem P66_2 (cc1:XC) (li2:St→Ans) (a:BS) (b c:Int) (σ:H) :
 denC E D W N (C66_2 ) (S66_1 a b c σ) (kX q66a [] [] li2) (b66a E D W N cc1) (Fin66 E) =
 T66_2 E D W (fun a b c σ=>denC E D W N cc1 (S66_1 a b c σ) (Fin66 E) nX (Fin66 E)) (fun a b c σ=>li2 (S66_1 a b c σ)) a b c σ:=by kernel_rfl
def J66_1 (E:List (Nat × Blk)) (D:Den) (W:DrawFn) (N:Nat):=T66_1 E D W
theorem JE66_1 (a:BS) (b c:Int) (σ:H) :
 denC E D W N C66_1 (S66_1 a b c σ) (Fin66 E) nX (Fin66 E)=J66_1 E D W N a b c σ:=by kernel_rfl
def L66_2 (n:Nat):BS→Int→Int→H→Ans:=
 Nat.rec (fun _ _ _ _=>none) (fun _ ih=>T66_2 E D W (J66_1 E D W N ) ih) n
theorem LE66_2 (n:Nat):∀(a:BS) (b c:Int) (σ:H),
 iterK (fun rec s'=>denC E D W N C66_2 s' (kX q66a [] [] rec) (b66a E D W N C66_1) (Fin66 E)) n (S66_1 a b c σ)=L66_2 E D W N n a b c σ:=by
 induction n with
 | zero=>intro a b c σ;rfl
 | succ n ihn=>
  intro a b c σ
  rw[iterK_succ]
  refine(P66_2 E D W N C66_1 (iterK (fun rec s'=>denC E D W N C66_2 s' (kX q66a [] [] rec) (b66a E D W N C66_1) (Fin66 E)) n) a b c σ).trans ?_
  simp only[ihn,JE66_1]
  kernel_rfl
def J66_0:=T66_0 E D W (L66_2 E D W N N)
theorem JE66_0 (a:BS) (b:Int) (σ:H) :
 denC E D W N (C66_0 C66_1 C66_2) (S66_0 a b σ) (Fin66 E) nX (Fin66 E)=J66_0 E D W N a b σ:=by
 refine(P66_0 E D W N C66_1 C66_2  a b σ).trans ?_
 simp only[LE66_2]
 kernel_rfl
def F66 (args:List V) (σ:H):Ans:=
 xcS args fun x3 l2=>
 xcI .i64 l2 fun x6 l5=>
 rtNil l5 (
 J66_0 E D W N x3 x6 σ)
def A66:XFn:=⟨50,[.str,.i],[(.tmp 4)],(C66_0 C66_1 C66_2)⟩
theorem FE66 (args:List V) (σ:H):runX E D W N A66 args σ=F66 E D W N args σ:=by
 unfold F66
 simp only[←JE66_0]
 kernel_rfl
def C67_0:XC:=(.z (.c 2 y1<|
.nil)
 (.z (.k 3 .one 98 []<|
.m 4 0<|
.k 5 .bool 43 [(.t 3),(.t 4)]<|
.m 2 5<|
.nil)
 .ret))
def T67_0 (E:List (Nat × Blk)) (D:Den) (W:DrawFn) (a:BS) (σ:H):Ans:=
 callK (D 98 [] σ) fun u1 s2=>
 rtOne u1 (
 callK (D 43 [u1,.str a] s2) fun u3 s4=>
 rtBool u3 fun x5=>
 some ((V.bool x5),s4))
def F67 (N:Nat) (args:List V) (σ:H):Ans:=
 xcS args fun x3 l2=>
 rtNil l2 (
 T67_0 E D W x3 σ)
def A67:XFn:=⟨6,[.str],[(.tmp 2)],C67_0⟩
theorem FE67 (args:List V) (σ:H):runX E D W N A67 args σ=F67 E D W N args σ:=by kernel_rfl
def C68_0:XC:=(.z (.c 2 y1<|
.nil)
 (.z (.m 3 0<|
.b 4 .geq .none (.t 3) y19<|
.m 5 4<|
.gA 5 true (.p 6 [0,5] y13<|
.p 7 [6,5] (.bin .leq .none (.t 6) (.con (V.int .u8 (Int.ofNat 57))))<|
.nil) 8 5 7<|
.m 2 8<|
.nil)
 .ret))
def T68_0 (E:List (Nat × Blk)) (D:Den) (W:DrawFn) (a:Int) (σ:H):Ans:=
 joinB (fun c1 s2=>
 some ((V.bool c1),s2)) fun k3=>
 condK (leF (Int.ofNat 48) a) (
 k3 (leF a (Int.ofNat 57)) σ) (
 k3 false σ)
def F68 (N:Nat) (args:List V) (σ:H):Ans:=
 xcI .u8 args fun x3 l2=>
 rtNil l2 (
 T68_0 E D W x3 σ)
def A68:XFn:=⟨9,[(.int .u8)],[(.tmp 2)],C68_0⟩
theorem FE68 (args:List V) (σ:H):runX E D W N A68 args σ=F68 E D W N args σ:=by kernel_rfl
def q69a:List (Nat × XTy):=[(0,.str),(1,.i),(5,.bool),(6,.i),(7,(.int .u64))]
def Fin69 (E:List (Nat × Blk)):St→Ans:=fun s=>resK E s [(.tmp 4)] fun l=>some (oneV l,s.σ)
def b69a (c0:XC):Nat→St→Ans:=blkK 0 (dX E D W N (.keep q69a [] [] c0) (Fin69 E) nX (Fin69 E)) nX
def C69_0 (cc1:XC):XC:=(.z (.q 4 0<|
.nil)
 (.z (.m 9 0<|
.m 10 1<|
.P 11 (.idxStr (.t 9) (.t 10))<|
.b 12 .eql .none (.t 11) y14<|
.m 5 12<|
.nil)
 (.seq (.z (.m 13 5<|
.nil)
 (.cond (.tmp 13) (.ops (.m 14 1<|
.b 15 .add .none (.t 14) (.i 1)<|
.m 1 15<|
.nil))
 .skip))
 (.keep [(0,.str),(1,.i),(5,.bool)] [] [] cc1))))
def T69_0 (E:List (Nat × Blk)) (D:Den) (W:DrawFn) (K1:BS→Int→Bool→H→Ans) (a:BS) (b:Int) (σ:H):Ans:=
 idxStrX a b fun x1=>
 condK (eqF x1 (Int.ofNat 45)) (
 K1 a (addF .i64 b (Int.ofNat 1)) (eqF x1 (Int.ofNat 45)) σ) (
 K1 a b (eqF x1 (Int.ofNat 45)) σ)
def C69_1 (cc2:XC) (cc3:XC):XC:=(.z (.m 16 1<|
.m 6 16<|
.nil)
 (.z (.c 7 (V.int .u64 (Int.ofNat 0))<|
.nil)
 (.seq (.block 0 (.loop q69a [] [] cc3))
 (.keep q69a [] [] cc2))))
def T69_1 (E:List (Nat × Blk)) (D:Den) (W:DrawFn) (K3:BS→Int→Bool→Int→Int→H→Ans) (a:BS) (b:Int) (c:Bool) (σ:H):Ans:=
 K3 a b c b (Int.ofNat 0) σ
def C69_2:XC:=(.z (.m 41 1<|
.m 42 6<|
.b 43 .sub .none (.t 41) (.t 42)<|
.m 8 43<|
.nil)
 (.seq (.z (.m 44 8<|
.b 45 .lss .none (.t 44) (.i 1)<|
.m 46 45<|
.gO 46 false (.p 47 [8,46] y28<|
.p 48 [47,46] (.bin .gtr .none (.t 47) (.i 19))<|
.nil) 49 46 48<|
.m 50 49<|
.gO 50 false (.p 51 [8,50] y28<|
.p 52 [51,50] (.bin .gtr .none (.t 51) (.i 1))<|
.p 53 [52,50] (.mov (.t 52))<|
.grp 53 true (.p 54 [0,53] y13<|
.p 55 [6,53] (.mov (.t 6))<|
.p 56 [54,55,53] (.idxStr (.t 54) (.t 55))<|
.p 57 [56,53] (.bin .eql .none (.t 56) y19)<|
.nil) 58 [53,57,50] (.t 53) (.t 57) y29<|
.nil) 59 50 58<|
.m 60 59<|
.gO 60 false (.p 61 [5,60] (.mov (.t 5))<|
.p 62 [61,60] (.mov (.t 61))<|
.grp 62 true (.p 63 [0,62] y13<|
.p 64 [6,62] (.mov (.t 6))<|
.p 65 [63,64,62] (.idxStr (.t 63) (.t 64))<|
.p 66 [65,62] (.bin .eql .none (.t 65) y19)<|
.nil) 67 [62,66,60] (.t 62) (.t 66) y29<|
.nil) 68 60 67<|
.m 69 68<|
.gO 69 false (.p 70 [0,69] y13<|
.p 71 [1,69] y15<|
.op (some 72) (.int .u8) [70,71,69] (.call 64 [(.t 70),(.t 71)])<|
.op (some 73) .bool [72,69] (.call 65 [(.t 72)])<|
.nil) 74 69 73<|
.m 75 74<|
.gO 75 false (.p 76 [7,75] (.mov (.t 7))<|
.p 77 [76,75] (.bin .gtr .none (.t 76) (.con (V.int .u64 (Int.ofNat 9223372036854775808))))<|
.nil) 78 75 77<|
.m 79 78<|
.gO 79 false (.p 80 [5,79] (.mov (.t 5))<|
.p 81 [80,79] (.un .not (.t 80))<|
.p 82 [81,79] (.mov (.t 81))<|
.grp 82 true (.p 83 [7,82] (.mov (.t 7))<|
.p 84 [83,82] (.bin .eql .none (.t 83) (.con (V.int .u64 (Int.ofNat 9223372036854775808))))<|
.nil) 85 [82,84,79] (.t 82) (.t 84) y29<|
.nil) 86 79 85<|
.nil)
 (.cond (.tmp 86) (.z (.c 4 y17<|
.nil)
 .ret)
 .skip))
 (.z (.m 87 1<|
.m 4 87<|
.nil)
 .ret)))
def T69_2 (E:List (Nat × Blk)) (D:Den) (W:DrawFn) (a:BS) (b:Int) (c:Bool) (d e:Int) (σ:H):Ans:=
 joinB (fun c1 s2=>
 joinB (fun c4 s5=>
 joinB (fun c7 s8=>
 joinB (fun c10 s11=>
 joinB (fun c13 s14=>
 joinB (fun c16 s17=>
 condK c16 (
 some ((V.int .i64 (Int.negSucc 0)),s17)) (
 some ((V.int .i64 b),s17))) fun k18=>
 condK c13 (
 k18 true s14) (
 joinB (fun c19 s20=>
 k18 c19 s20) fun k21=>
 condK (not c) (
 k21 (eqF e (Int.ofNat 9223372036854775808)) s14) (
 k21 false s14))) fun k15=>
 condK c10 (
 k15 true s11) (
 k15 (ltF (Int.ofNat 9223372036854775808) e) s11)) fun k12=>
 condK c7 (
 k12 true s8) (
 callK (D 64 [.str a,.int .i64 b] s8) fun u22 s23=>
 rtInt .u8 u22 fun x24=>
 callK (D 65 [.int .u8 x24] s23) fun u25 s26=>
 rtBool u25 fun x27=>
 k12 x27 s26)) fun k9=>
 condK c4 (
 k9 true s5) (
 joinB (fun c28 s29=>
 k9 c28 s29) fun k30=>
 condK c (
 idxStrX a d fun x31=>
 k30 (eqF x31 (Int.ofNat 48)) s5) (
 k30 false s5))) fun k6=>
 condK c1 (
 k6 true s2) (
 joinB (fun c32 s33=>
 k6 c32 s33) fun k34=>
 condK (ltF (Int.ofNat 1) (subF .i64 b d)) (
 idxStrX a d fun x35=>
 k34 (eqF x35 (Int.ofNat 48)) s2) (
 k34 false s2))) fun k3=>
 condK (ltF (subF .i64 b d) (Int.ofNat 1)) (
 k3 true σ) (
 k3 (ltF (Int.ofNat 19) (subF .i64 b d)) σ)
def C69_3 (cc4:XC):XC:=(.seq (.z (.m 17 1<|
.m 18 0<|
.P 19 (.len true (.t 18))<|
.b 20 .lss .none (.t 17) (.t 19)<|
.m 21 20<|
.gA 21 true (.p 22 [0,21] y13<|
.p 23 [1,21] y15<|
.p 24 [22,23,21] (.idxStr (.t 22) (.t 23))<|
.op (some 25) .bool [24,21] (.call 68 [(.t 24)])<|
.nil) 26 21 25<|
.nil)
 (.cond (.tmp 26) .skip
 y21))
 (.block 1 (.seq (.z (.m 27 1<|
.m 28 6<|
.b 29 .sub .none (.t 27) (.t 28)<|
.b 30 .lss .none (.t 29) (.i 19)<|
.nil)
 (.cond (.tmp 30) (.ops (.m 31 7<|
.b 32 .mul .none (.con (V.int .u64 (Int.ofNat 10))) (.t 31)<|
.m 33 0<|
.m 34 1<|
.P 35 (.idxStr (.t 33) (.t 34))<|
.b 36 .sub .none (.t 35) y19<|
.P 37 (.conv (.toInt .u64) (.t 36))<|
.b 38 .add .none (.t 32) (.t 37)<|
.m 7 38<|
.nil))
 .skip))
 (.keep q69a [] [] cc4))))
def T69_3 (E:List (Nat × Blk)) (D:Den) (W:DrawFn) (K2:BS→Int→Bool→Int→Int→H→Ans) (K4:BS→Int→Bool→Int→Int→H→Ans) (a:BS) (b:Int) (c:Bool) (d e:Int) (σ:H):Ans:=
 joinB (fun c1 s2=>
 condK c1 (
 condK (ltF (subF .i64 b d) (Int.ofNat 19)) (
 idxStrX a b fun x4=>
 K4 a b c d (addF .u64 (mulF .u64 (Int.ofNat 10) e) (wrapF .u64 (subF .u8 x4 (Int.ofNat 48)))) s2) (
 K4 a b c d e s2)) (
 K2 a b c d e s2)) fun k3=>
 condK (ltF b (Int.ofNat (BS.len a))) (
 idxStrX a b fun x5=>
 callK (D 68 [.int .u8 x5] σ) fun u6 s7=>
 rtBool u6 fun x8=>
 k3 x8 s7) (
 k3 false σ)
def C69_4:XC:=(.ops (.m 39 1<|
.b 40 .add .none (.t 39) (.i 1)<|
.m 1 40<|
.nil))
def T69_4 (E:List (Nat × Blk)) (D:Den) (W:DrawFn) (R3:BS→Int→Bool→Int→Int→H→Ans) (a:BS) (b:Int) (c:Bool) (d e:Int) (σ:H):Ans:=
 R3 a (addF .i64 b (Int.ofNat 1)) c d e σ
def S69_0 (a:BS) (b:Int) (σ:H):St:=⟨[(0,.str a),(1,.int .i64 b)],[],[],σ⟩
def S69_1 (a:BS) (b:Int) (c:Bool) (σ:H):St:=⟨[(0,.str a),(1,.int .i64 b),(5,.bool c)],[],[],σ⟩
def S69_2 (a:BS) (b:Int) (c:Bool) (d e:Int) (σ:H):St:=⟨[(0,.str a),(1,.int .i64 b),(5,.bool c),(6,.int .i64 d),(7,.int .u64 e)],[],[],σ⟩
theorem P69_0 (cc1:XC) (a:BS) (b:Int) (σ:H) :
 denC E D W N (C69_0 cc1) (S69_0 a b σ) (Fin69 E) nX (Fin69 E) =
 T69_0 E D W (fun a b c σ=>denC E D W N cc1 (S69_1 a b c σ) (Fin69 E) nX (Fin69 E)) a b σ:=by kernel_rfl
theorem P69_1 (cc2:XC) (cc3:XC) (a:BS) (b:Int) (c:Bool) (σ:H) :
 denC E D W N (C69_1 cc2 cc3) (S69_1 a b c σ) (Fin69 E) nX (Fin69 E) =
 T69_1 E D W (fun a b c d e σ=>iterK (fun rec s'=>denC E D W N cc3 s' (kX q69a [] [] rec) (b69a E D W N cc2) (Fin69 E)) N (S69_2 a b c d e σ)) a b c σ:=by kernel_rfl
theorem P69_3 (cc2:XC) (cc4:XC) (li3:St→Ans) (a:BS) (b:Int) (c:Bool) (d e:Int) (σ:H) :
 denC E D W N (C69_3 cc4) (S69_2 a b c d e σ) (kX q69a [] [] li3) (b69a E D W N cc2) (Fin69 E) =
 T69_3 E D W (fun a b c d e σ=>denC E D W N cc2 (S69_2 a b c d e σ) (Fin69 E) nX (Fin69 E)) (fun a b c d e σ=>denC E D W N cc4 (S69_2 a b c d e σ) (kX q69a [] [] li3) (blkK 1 (kX q69a [] [] li3) (b69a E D W N cc2)) (Fin69 E)) a b c d e σ:=by kernel_rfl
theorem P69_4 (cc2:XC) (li3:St→Ans) (a:BS) (b:Int) (c:Bool) (d e:Int) (σ:H) :
 denC E D W N (C69_4 ) (S69_2 a b c d e σ) (kX q69a [] [] li3) (blkK 1 (kX q69a [] [] li3) (b69a E D W N cc2)) (Fin69 E) =
 T69_4 E D W (fun a b c d e σ=>li3 (S69_2 a b c d e σ)) a b c d e σ:=by kernel_rfl
def J69_2 (E:List (Nat × Blk)) (D:Den) (W:DrawFn) (N:Nat):=T69_2 E D W
theorem JE69_2 (a:BS) (b:Int) (c:Bool) (d e:Int) (σ:H) :
 denC E D W N C69_2 (S69_2 a b c d e σ) (Fin69 E) nX (Fin69 E)=J69_2 E D W N a b c d e σ:=by kernel_rfl
def J69_4 (E:List (Nat × Blk)) (D:Den) (W:DrawFn) (N:Nat) (R3:BS→Int→Bool→Int→Int→H→Ans):=T69_4 E D W R3
theorem JE69_4 (li3:St→Ans) (a:BS) (b:Int) (c:Bool) (d e:Int) (σ:H) :
 denC E D W N C69_4 (S69_2 a b c d e σ) (kX q69a [] [] li3) (blkK 1 (kX q69a [] [] li3) (b69a E D W N C69_2)) (Fin69 E)=J69_4 E D W N (fun a b c d e σ=>li3 (S69_2 a b c d e σ)) a b c d e σ:=by
 refine(P69_4 E D W N C69_2 li3 a b c d e σ).trans ?_
 kernel_rfl
def L69_3 (n:Nat):BS→Int→Bool→Int→Int→H→Ans:=
 Nat.rec (fun _ _ _ _ _ _=>none) (fun _ ih=>T69_3 E D W (J69_2 E D W N ) (J69_4 E D W N ih)) n
theorem LE69_3 (n:Nat):∀(a:BS) (b:Int) (c:Bool) (d e:Int) (σ:H),
 iterK (fun rec s'=>denC E D W N (C69_3 C69_4) s' (kX q69a [] [] rec) (b69a E D W N C69_2) (Fin69 E)) n (S69_2 a b c d e σ)=L69_3 E D W N n a b c d e σ:=by
 induction n with
 | zero=>intro a b c d e σ;rfl
 | succ n ihn=>
  intro a b c d e σ
  rw[iterK_succ]
  refine(P69_3 E D W N C69_2 C69_4 (iterK (fun rec s'=>denC E D W N (C69_3 C69_4) s' (kX q69a [] [] rec) (b69a E D W N C69_2) (Fin69 E)) n) a b c d e σ).trans ?_
  simp only[ihn,JE69_2,JE69_4]
  kernel_rfl
def J69_1:=T69_1 E D W (L69_3 E D W N N)
theorem JE69_1 (a:BS) (b:Int) (c:Bool) (σ:H) :
 denC E D W N (C69_1 C69_2 (C69_3 C69_4)) (S69_1 a b c σ) (Fin69 E) nX (Fin69 E)=J69_1 E D W N a b c σ:=by
 refine(P69_1 E D W N C69_2 (C69_3 C69_4)  a b c σ).trans ?_
 simp only[LE69_3]
 kernel_rfl
def J69_0:=T69_0 E D W (J69_1 E D W N )
theorem JE69_0 (a:BS) (b:Int) (σ:H) :
 denC E D W N (C69_0 (C69_1 C69_2 (C69_3 C69_4))) (S69_0 a b σ) (Fin69 E) nX (Fin69 E)=J69_0 E D W N a b σ:=by
 refine(P69_0 E D W N (C69_1 C69_2 (C69_3 C69_4))  a b σ).trans ?_
 simp only[JE69_1]
 kernel_rfl
def F69 (args:List V) (σ:H):Ans:=
 xcS args fun x3 l2=>
 xcI .i64 l2 fun x6 l5=>
 rtNil l5 (
 J69_0 E D W N x3 x6 σ)
def A69:XFn:=⟨88,[.str,.i],[(.tmp 4)],(C69_0 (C69_1 C69_2 (C69_3 C69_4)))⟩
theorem FE69 (args:List V) (σ:H):runX E D W N A69 args σ=F69 E D W N args σ:=by
 unfold F69
 simp only[←JE69_0]
 kernel_rfl
def q72a:List (Nat × XTy):=[(5,.str),(6,.any),(7,.i)]
def Fin72 (E:List (Nat × Blk)):St→Ans:=fun s=>resK E s [(.tmp 4)] fun l=>some (oneV l,s.σ)
def b72a (c0:XC):Nat→St→Ans:=blkK 0 (dX E D W N (.keep [] [] [] c0) (Fin72 E) nX (Fin72 E)) nX
def C72_0 (cc1:XC) (cc2:XC):XC:=(.z (.q 4 0<|
.nil)
 (.z (.m 9 0<|
.m 10 1<|
.p 11 [9,10] (.sliceStr (.t 9) (some (.t 10)) none)<|
.m 5 11<|
.nil)
 (.z (.p 12 [] (.buildSlice 9 13 [y5,y5,y5,y5,y5,y5,y5,y5,y5,y5,y5,y5,y5] [(0,1,(.con (V.str ⟨3,4012602⟩))),(1,1,(.con (V.str ⟨3,3026478⟩))),(2,1,(.con (V.str ⟨2,11822⟩))),(3,1,(.con (V.str ⟨2,23387⟩))),(4,1,(.con (V.str ⟨2,23901⟩))),(5,1,y26),(6,1,(.con (V.str ⟨1,125⟩))),(7,1,(.con (V.str ⟨1,91⟩))),(8,1,(.con (V.str ⟨1,93⟩))),(9,1,(.con (V.str ⟨1,40⟩))),(10,1,(.con (V.str ⟨1,41⟩))),(11,1,(.con (V.str ⟨1,44⟩))),(12,1,(.con (V.str ⟨1,58⟩)))])<|
.m 6 12<|
.nil)
 (.seq (.z (.q 7 0<|
.nil)
 (.block 0 (.loop q72a [] [] cc2)))
 (.keep [] [] [] cc1)))))
def T72_0 (E:List (Nat × Blk)) (D:Den) (W:DrawFn) (K2:BS→V→Int→H→Ans) (a:BS) (b:Int) (σ:H):Ans:=
 sliceStrX a (some (V.int .i64 b)) none fun t1=>
 let s2:=newB σ (.cells [.str (BS.mk 3 4012602),.str (BS.mk 3 3026478),.str (BS.mk 2 11822),.str (BS.mk 2 23387),.str (BS.mk 2 23901),.str (BS.mk 1 123),.str (BS.mk 1 125),.str (BS.mk 1 91),.str (BS.mk 1 93),.str (BS.mk 1 40),.str (BS.mk 1 41),.str (BS.mk 1 44),.str (BS.mk 1 58)]);
 K2 t1 (V.sl (H.next σ) 0 13 (.ex 13)) (Int.ofNat 0) s2
def C72_1:XC:=(.z (.q 4 0<|
.nil)
 .ret)
def T72_1 (E:List (Nat × Blk)) (D:Den) (W:DrawFn) (σ:H):Ans:=
 some ((V.int .i64 (Int.ofNat 0)),σ)
def C72_2:XC:=(.seq (.z (.m 13 7<|
.m 14 6<|
.u 15 14<|
.b 16 .lss .none (.t 13) (.t 15)<|
.nil)
 (.cond (.tmp 16) .skip
 y21))
 (.seq (.block 1 (.z (.m 19 6<|
.m 20 7<|
.s 21 1 19 20<|
.l 22 .str 21<|
.P 23 (.len true (.t 22))<|
.m 8 23<|
.nil)
 (.seq (.draw (.m 24 5<|
.P 25 (.len true (.t 24))<|
.m 26 8<|
.b 27 .geq .none (.t 25) (.t 26)<|
.m 28 27<|
.gA 28 true (.p 29 [5,28] (.mov (.t 5))<|
.p 30 [8,28] y28<|
.p 31 [29,30,28] (.sliceStr (.t 29) none (some (.t 30)))<|
.p 32 [6,28] (.mov (.t 6))<|
.p 33 [7,28] (.mov (.t 7))<|
.p 34 [32,33,28] (.iaddrS 1 (.t 32) (.t 33))<|
.op (some 35) .str [34,28] (.load none (.t 34))<|
.p 36 [31,35,28] (.bin .eql .none (.t 31) (.t 35))<|
.nil) 37 28 36<|
.nil) [0,1,0,7,15,31,31,127,31,31,799,1823,4095,8191])
 (.cond (.tmp 37) (.z (.m 38 8<|
.m 4 38<|
.nil)
 .ret)
 .skip))))
 (.ops (.m 17 7<|
.b 18 .add .none (.t 17) (.i 1)<|
.m 7 18<|
.nil))))
def T72_2 (E:List (Nat × Blk)) (D:Den) (W:DrawFn) (K1:H→Ans) (R2:BS→V→Int→H→Ans) (a:BS) (b:V) (c:Int) (σ:H):Ans:=
 slenK b fun n1=>
 condK (ltF c (Int.ofNat n1)) (
 iaddrSK 1 b c fun b2 o3=>
 ldK E σ b2 o3 fun u4=>
 rtStr u4 fun x5=>
 joinB (fun c6 s7=>
 condK c6 (
 some ((V.int .i64 (Int.ofNat (BS.len x5))),s7)) (
 R2 a b (addF .i64 c (Int.ofNat 1)) s7)) fun k8=>
 condK (leF (Int.ofNat (BS.len x5)) (Int.ofNat (BS.len a))) (
 sliceStrX a none (some (V.int .i64 (Int.ofNat (BS.len x5)))) fun t9=>
 iaddrSK 1 b c fun b10 o11=>
 ldK E σ b10 o11 fun u12=>
 rtStr u12 fun x13=>
 k8 (BS.beq t9 x13) σ) (
 k8 false σ)) (
 K1 σ)
def S72_0 (a:BS) (b:Int) (σ:H):St:=⟨[(0,.str a),(1,.int .i64 b)],[],[],σ⟩
def S72_1 (σ:H):St:=⟨[],[],[],σ⟩
def S72_2 (a:BS) (b:V) (c:Int) (σ:H):St:=⟨[(5,.str a),(6,b),(7,.int .i64 c)],[],[],σ⟩
theorem P72_0 (cc1:XC) (cc2:XC) (a:BS) (b:Int) (σ:H) :
 denC E D W N (C72_0 cc1 cc2) (S72_0 a b σ) (Fin72 E) nX (Fin72 E) =
 T72_0 E D W (fun c d e σ=>iterK (fun rec s'=>denC E D W N cc2 s' (kX q72a [] [] rec) (b72a E D W N cc1) (Fin72 E)) N (S72_2 c d e σ)) a b σ:=by kernel_rfl
theorem P72_2 (cc1:XC) (li2:St→Ans) (a:BS) (b:V) (c:Int) (σ:H) :
 denC E D W N (C72_2 ) (S72_2 a b c σ) (kX q72a [] [] li2) (b72a E D W N cc1) (Fin72 E) =
 T72_2 E D W (fun  σ=>denC E D W N cc1 (S72_1 σ) (Fin72 E) nX (Fin72 E)) (fun a b c σ=>li2 (S72_2 a b c σ)) a b c σ:=by kernel_rfl
def J72_1 (E:List (Nat × Blk)) (D:Den) (W:DrawFn) (N:Nat):=T72_1 E D W
theorem JE72_1 (σ:H) :
 denC E D W N C72_1 (S72_1 σ) (Fin72 E) nX (Fin72 E)=J72_1 E D W N  σ:=by kernel_rfl
def L72_2 (n:Nat):BS→V→Int→H→Ans:=
 Nat.rec (fun _ _ _ _=>none) (fun _ ih=>T72_2 E D W (J72_1 E D W N ) ih) n
theorem LE72_2 (n:Nat):∀(a:BS) (b:V) (c:Int) (σ:H),
 iterK (fun rec s'=>denC E D W N C72_2 s' (kX q72a [] [] rec) (b72a E D W N C72_1) (Fin72 E)) n (S72_2 a b c σ)=L72_2 E D W N n a b c σ:=by
 induction n with
 | zero=>intro a b c σ;rfl
 | succ n ihn=>
  intro a b c σ
  rw[iterK_succ]
  refine(P72_2 E D W N C72_1 (iterK (fun rec s'=>denC E D W N C72_2 s' (kX q72a [] [] rec) (b72a E D W N C72_1) (Fin72 E)) n) a b c σ).trans ?_
  simp only[ihn,JE72_1]
  kernel_rfl
def J72_0:=T72_0 E D W (L72_2 E D W N N)
theorem JE72_0 (a:BS) (b:Int) (σ:H) :
 denC E D W N (C72_0 C72_1 C72_2) (S72_0 a b σ) (Fin72 E) nX (Fin72 E)=J72_0 E D W N a b σ:=by
 refine(P72_0 E D W N C72_1 C72_2  a b σ).trans ?_
 simp only[LE72_2]
 kernel_rfl
def F72 (args:List V) (σ:H):Ans:=
 xcS args fun x3 l2=>
 xcI .i64 l2 fun x6 l5=>
 rtNil l5 (
 J72_0 E D W N x3 x6 σ)
def A72:XFn:=⟨39,[.str,.i],[(.tmp 4)],(C72_0 C72_1 C72_2)⟩
theorem FE72 (args:List V) (σ:H):runX E D W N A72 args σ=F72 E D W N args σ:=by
 unfold F72
 simp only[←JE72_0]
 kernel_rfl
def q73a:List (Nat × XTy):=[(0,.str),(3,.bool),(4,(.int .u64)),(5,.i)]
def q73b:List (Nat × XTy):=[(3,.bool),(4,(.int .u64))]
def Fin73 (E:List (Nat × Blk)):St→Ans:=fun s=>resK E s [(.tmp 2)] fun l=>some (oneV l,s.σ)
def b73a (c0:XC):Nat→St→Ans:=blkK 0 (dX E D W N (.keep q73b [] [] c0) (Fin73 E) nX (Fin73 E)) nX
def C73_0 (cc1:XC):XC:=(.z (.q 2 0<|
.nil)
 (.z (.m 6 0<|
.P 7 (.idxStr (.t 6) (.i 0))<|
.b 8 .eql .none (.t 7) y14<|
.m 3 8<|
.nil)
 (.seq (.z (.m 9 3<|
.nil)
 (.cond (.tmp 9) (.ops (.m 10 0<|
.p 11 [10] (.sliceStr (.t 10) (some (.i 1)) none)<|
.m 0 11<|
.nil))
 .skip))
 (.keep [(0,.str),(3,.bool)] [] [] cc1))))
def T73_0 (E:List (Nat × Blk)) (D:Den) (W:DrawFn) (K1:BS→Bool→H→Ans) (a:BS) (σ:H):Ans:=
 idxStrX a (Int.ofNat 0) fun x1=>
 condK (eqF x1 (Int.ofNat 45)) (
 sliceStrX a (some (V.int .i64 (Int.ofNat 1))) none fun t2=>
 K1 t2 (eqF x1 (Int.ofNat 45)) σ) (
 K1 a (eqF x1 (Int.ofNat 45)) σ)
def C73_1 (cc2:XC) (cc3:XC):XC:=(.z (.c 4 (V.int .u64 (Int.ofNat 0))<|
.nil)
 (.seq (.z (.q 5 0<|
.nil)
 (.block 0 (.loop q73a [] [] cc3)))
 (.keep q73b [] [] cc2)))
def T73_1 (E:List (Nat × Blk)) (D:Den) (W:DrawFn) (K3:BS→Bool→Int→Int→H→Ans) (a:BS) (b:Bool) (σ:H):Ans:=
 K3 a b (Int.ofNat 0) (Int.ofNat 0) σ
def C73_2:XC:=(.seq (.z (.m 26 3<|
.nil)
 (.cond (.tmp 26) (.z (.m 27 4<|
.b 28 .sub .none (.t 27) (.con (V.int .u64 (Int.ofNat 1)))<|
.P 29 (.conv (.toInt .i64) (.t 28))<|
.P 30 (.un .neg (.t 29))<|
.b 31 .sub .none (.t 30) (.i 1)<|
.m 2 31<|
.nil)
 .ret)
 .skip))
 (.z (.m 32 4<|
.P 33 (.conv (.toInt .i64) (.t 32))<|
.m 2 33<|
.nil)
 .ret))
def T73_2 (E:List (Nat × Blk)) (D:Den) (W:DrawFn) (a:Bool) (b:Int) (σ:H):Ans:=
 condK a (
 some ((V.int .i64 (subF .i64 (negF .i64 (wrapF .i64 (subF .u64 b (Int.ofNat 1)))) (Int.ofNat 1))),σ)) (
 some ((V.int .i64 (wrapF .i64 b)),σ))
def C73_3:XC:=(.seq (.z (.m 12 5<|
.m 13 0<|
.P 14 (.len true (.t 13))<|
.b 15 .lss .none (.t 12) (.t 14)<|
.nil)
 (.cond (.tmp 15) .skip
 y21))
 (.seq (.block 1 (.ops (.m 18 4<|
.b 19 .mul .none (.con (V.int .u64 (Int.ofNat 10))) (.t 18)<|
.m 20 0<|
.m 21 5<|
.P 22 (.idxStr (.t 20) (.t 21))<|
.b 23 .sub .none (.t 22) y19<|
.P 24 (.conv (.toInt .u64) (.t 23))<|
.b 25 .add .none (.t 19) (.t 24)<|
.m 4 25<|
.nil)))
 (.ops (.m 16 5<|
.b 17 .add .none (.t 16) (.i 1)<|
.m 5 17<|
.nil))))
def T73_3 (E:List (Nat × Blk)) (D:Den) (W:DrawFn) (K2:Bool→Int→H→Ans) (R3:BS→Bool→Int→Int→H→Ans) (a:BS) (b:Bool) (c d:Int) (σ:H):Ans:=
 condK (ltF d (Int.ofNat (BS.len a))) (
 idxStrX a d fun x1=>
 R3 a b (addF .u64 (mulF .u64 (Int.ofNat 10) c) (wrapF .u64 (subF .u8 x1 (Int.ofNat 48)))) (addF .i64 d (Int.ofNat 1)) σ) (
 K2 b c σ)
def S73_0 (a:BS) (σ:H):St:=⟨[(0,.str a)],[],[],σ⟩
def S73_1 (a:BS) (b:Bool) (σ:H):St:=⟨[(0,.str a),(3,.bool b)],[],[],σ⟩
def S73_2 (a:Bool) (b:Int) (σ:H):St:=⟨[(3,.bool a),(4,.int .u64 b)],[],[],σ⟩
def S73_3 (a:BS) (b:Bool) (c d:Int) (σ:H):St:=⟨[(0,.str a),(3,.bool b),(4,.int .u64 c),(5,.int .i64 d)],[],[],σ⟩
theorem P73_0 (cc1:XC) (a:BS) (σ:H) :
 denC E D W N (C73_0 cc1) (S73_0 a σ) (Fin73 E) nX (Fin73 E) =
 T73_0 E D W (fun a b σ=>denC E D W N cc1 (S73_1 a b σ) (Fin73 E) nX (Fin73 E)) a σ:=by kernel_rfl
theorem P73_1 (cc2:XC) (cc3:XC) (a:BS) (b:Bool) (σ:H) :
 denC E D W N (C73_1 cc2 cc3) (S73_1 a b σ) (Fin73 E) nX (Fin73 E) =
 T73_1 E D W (fun a b c d σ=>iterK (fun rec s'=>denC E D W N cc3 s' (kX q73a [] [] rec) (b73a E D W N cc2) (Fin73 E)) N (S73_3 a b c d σ)) a b σ:=by kernel_rfl
theorem P73_3 (cc2:XC) (li3:St→Ans) (a:BS) (b:Bool) (c d:Int) (σ:H) :
 denC E D W N (C73_3 ) (S73_3 a b c d σ) (kX q73a [] [] li3) (b73a E D W N cc2) (Fin73 E) =
 T73_3 E D W (fun b c σ=>denC E D W N cc2 (S73_2 b c σ) (Fin73 E) nX (Fin73 E)) (fun a b c d σ=>li3 (S73_3 a b c d σ)) a b c d σ:=by kernel_rfl
def J73_2 (E:List (Nat × Blk)) (D:Den) (W:DrawFn) (N:Nat):=T73_2 E D W
theorem JE73_2 (a:Bool) (b:Int) (σ:H) :
 denC E D W N C73_2 (S73_2 a b σ) (Fin73 E) nX (Fin73 E)=J73_2 E D W N a b σ:=by kernel_rfl
def L73_3 (n:Nat):BS→Bool→Int→Int→H→Ans:=
 Nat.rec (fun _ _ _ _ _=>none) (fun _ ih=>T73_3 E D W (J73_2 E D W N ) ih) n
theorem LE73_3 (n:Nat):∀(a:BS) (b:Bool) (c d:Int) (σ:H),
 iterK (fun rec s'=>denC E D W N C73_3 s' (kX q73a [] [] rec) (b73a E D W N C73_2) (Fin73 E)) n (S73_3 a b c d σ)=L73_3 E D W N n a b c d σ:=by
 induction n with
 | zero=>intro a b c d σ;rfl
 | succ n ihn=>
  intro a b c d σ
  rw[iterK_succ]
  refine(P73_3 E D W N C73_2 (iterK (fun rec s'=>denC E D W N C73_3 s' (kX q73a [] [] rec) (b73a E D W N C73_2) (Fin73 E)) n) a b c d σ).trans ?_
  simp only[ihn,JE73_2]
  kernel_rfl
def J73_1:=T73_1 E D W (L73_3 E D W N N)
theorem JE73_1 (a:BS) (b:Bool) (σ:H) :
 denC E D W N (C73_1 C73_2 C73_3) (S73_1 a b σ) (Fin73 E) nX (Fin73 E)=J73_1 E D W N a b σ:=by
 refine(P73_1 E D W N C73_2 C73_3  a b σ).trans ?_
 simp only[LE73_3]
 kernel_rfl
def J73_0:=T73_0 E D W (J73_1 E D W N )
theorem JE73_0 (a:BS) (σ:H) :
 denC E D W N (C73_0 (C73_1 C73_2 C73_3)) (S73_0 a σ) (Fin73 E) nX (Fin73 E)=J73_0 E D W N a σ:=by
 refine(P73_0 E D W N (C73_1 C73_2 C73_3)  a σ).trans ?_
 simp only[JE73_1]
 kernel_rfl
def F73 (args:List V) (σ:H):Ans:=
 xcS args fun x3 l2=>
 rtNil l2 (
 J73_0 E D W N x3 σ)
def A73:XFn:=⟨34,[.str],[(.tmp 2)],(C73_0 (C73_1 C73_2 C73_3))⟩
theorem FE73 (args:List V) (σ:H):runX E D W N A73 args σ=F73 E D W N args σ:=by
 unfold F73
 simp only[←JE73_0]
 kernel_rfl
end
noncomputable section
variable (E:List (Nat × Blk)) (D:Den) (W:DrawFn) (N:Nat)
def C74_0:XC:=(.z (.pal 2 [] 95 [y1,y1,y1,y1,y0,y0]<|
.nil)
 (.seq (.z (.m 4 0<|
.k 5 .bool 22 [(.t 4),(.con (V.str ⟨1,40⟩))]<|
.P 6 (.un .not (.t 5))<|
.nil)
 (.cond (.tmp 6) (.z (.op (some 7) y4 [] (.build [y1,y1,y1,y1,y0,y0] [])<|
.op none y4 [2,7] (.store 6 (.t 2) (.t 7))<|
.nil)
 .ret)
 .skip))
 (.z (.m 8 0<|
.k 9 y16 21 [(.t 8),(.con (V.str ⟨4,1163544915⟩))]<|
.nil)
 (.z (.m 10 0<|
.k 11 y16 21 [(.t 10),(.con (V.str ⟨1,40⟩))]<|
.nil)
 (.z (.m 12 0<|
.k 13 y4 75 [(.t 12)]<|
.pal 3 [] 95 [y1,y1,y1,y1,y0,y0]<|
.op none y4 [3,13] (.store 6 (.t 3) (.t 13))<|
.nil)
 (.z (.m 14 0<|
.k 15 y16 21 [(.t 14),(.con (V.str ⟨1,41⟩))]<|
.nil)
 (.z (.m 16 0<|
.k 17 y16 21 [(.t 16),(.con (V.str ⟨1,41⟩))]<|
.nil)
 (.z (.O 18 y4 (.load (some 6) (.t 3))<|
.op none y4 [2,18] (.store 6 (.t 2) (.t 18))<|
.nil)
 .ret))))))))
def T74_0 (E:List (Nat × Blk)) (D:Den) (W:DrawFn) (a:V) (σ:H):Ans:=
 callK (D 22 [a,.str (BS.mk 1 40)] σ) fun u1 s2=>
 rtBool u1 fun x3=>
 condK (not x3) (
 some ((V.agg [.bool false,.bool false,.bool false,.bool false,.int .i64 (Int.ofNat 0),.int .i64 (Int.ofNat 0)]),s2)) (
 callK (D 21 [a,.str (BS.mk 4 1163544915)] s2) fun u4 s5=>
 rtTup u4 fun l6=>
 rtNil l6 (
 callK (D 21 [a,.str (BS.mk 1 40)] s5) fun u7 s8=>
 rtTup u7 fun l9=>
 rtNil l9 (
 callK (D 75 [a] s8) fun u10 s11=>
 rtAgg u10 fun l12=>
 xcB l12 fun x15 l14=>
 xcB l14 fun x18 l17=>
 xcB l17 fun x21 l20=>
 xcB l20 fun x24 l23=>
 xcI .i64 l23 fun x27 l26=>
 xcI .i64 l26 fun x30 l29=>
 rtNil l29 (
 callK (D 21 [a,.str (BS.mk 1 41)] s11) fun u31 s32=>
 rtTup u31 fun l33=>
 rtNil l33 (
 callK (D 21 [a,.str (BS.mk 1 41)] s32) fun u34 s35=>
 rtTup u34 fun l36=>
 rtNil l36 (
 some ((V.agg [.bool x15,.bool x18,.bool x21,.bool x24,.int .i64 x27,.int .i64 x30]),s35)))))))
def F74 (N:Nat) (args:List V) (σ:H):Ans:=
 rtCons args fun x1 l2=>
 rtNil l2 (
 T74_0 E D W x1 σ)
def A74:XFn:=⟨19,[.any],[(.cell 2 (some 6))],C74_0⟩
theorem FE74 (args:List V) (σ:H):runX E D W N A74 args σ=F74 E D W N args σ:=by kernel_rfl
def q75a:List (Nat × List XTy):=[(2,[.bool,.bool,.bool,.bool,.i,.i]),(3,[.bool,.bool,.bool,.bool,.i,.i])]
def C75_0 (cc1:XC):XC:=(.z (.pal 2 [] 95 [y1,y1,y1,y1,y0,y0]<|
.nil)
 (.z (.op (some 4) y4 [] (.build [y1,y1,y1,y1,y0,y0] [(0,1,y11)])<|
.pal 3 [] 95 [y1,y1,y1,y1,y0,y0]<|
.op none y4 [3,4] (.store 6 (.t 3) (.t 4))<|
.nil)
 (.seq (.z (.m 5 0<|
.k 6 .bool 22 [(.t 5),(.con (V.str ⟨3,5130573⟩))]<|
.P 7 (.un .not (.t 6))<|
.nil)
 (.cond (.tmp 7) (.ops (.m 8 0<|
.k 9 .i 41 [(.t 8)]<|
.f 10 1 3<|
.op none .any [10] (.store 1 (.t 10) y11)<|
.f 11 4 3<|
.w 1 11 9<|
.nil))
 .skip))
 (.keep [(0,.any)] [2,3] q75a cc1))))
def T75_0 (E:List (Nat × Blk)) (D:Den) (W:DrawFn) (K1:V→Bool→Bool→Bool→Bool→Int→Int→Bool→Bool→Bool→Bool→Int→Int→H→Ans) (a:V) (σ:H):Ans:=
 callK (D 22 [a,.str (BS.mk 3 5130573)] σ) fun u1 s2=>
 rtBool u1 fun x3=>
 condK (not x3) (
 callK (D 41 [a] s2) fun u4 s5=>
 rtInt .i64 u4 fun x6=>
 K1 a false false false false (Int.ofNat 0) (Int.ofNat 0) true true false false x6 (Int.ofNat 0) s5) (
 K1 a false false false false (Int.ofNat 0) (Int.ofNat 0) true false false false (Int.ofNat 0) (Int.ofNat 0) s2)
def C75_1 (cc2:XC):XC:=(.seq (.block 0 (.z (.m 13 0<|
.k 14 .bool 22 [(.t 13),(.con (V.str ⟨2,11822⟩))]<|
.m 12 14<|
.nil)
 (.cond (.tmp 12) (.z (.m 15 0<|
.k 16 .bool 22 [(.t 15),(.con (V.str ⟨3,5783885⟩))]<|
.P 17 (.un .not (.t 16))<|
.nil)
 (.cond (.tmp 17) (.ops (.m 18 0<|
.k 19 .i 41 [(.t 18)]<|
.f 20 2 3<|
.op none .any [20] (.store 1 (.t 20) y11)<|
.f 21 5 3<|
.w 1 21 19<|
.nil))
 .skip))
 (.z (.f 23 1 3<|
.l 24 .bool 23<|
.m 22 24<|
.nil)
 (.cond (.tmp 22) (.ops (.f 25 4 3<|
.l 26 .i 25<|
.f 27 2 3<|
.op none .any [27] (.store 1 (.t 27) y11)<|
.f 28 5 3<|
.w 1 28 26<|
.nil))
 .skip)))))
 (.keep [(0,.any)] [2,3] q75a cc2))
def T75_1 (E:List (Nat × Blk)) (D:Den) (W:DrawFn) (K2:V→Bool→Bool→Bool→Bool→Int→Int→Bool→Bool→Bool→Bool→Int→Int→H→Ans) (a:V) (b c d e:Bool) (f g:Int) (h i j k:Bool) (l m:Int) (σ:H):Ans:=
 callK (D 22 [a,.str (BS.mk 2 11822)] σ) fun u1 s2=>
 rtBool u1 fun x3=>
 condK x3 (
 callK (D 22 [a,.str (BS.mk 3 5783885)] s2) fun u4 s5=>
 rtBool u4 fun x6=>
 condK (not x6) (
 callK (D 41 [a] s5) fun u7 s8=>
 rtInt .i64 u7 fun x9=>
 K2 a b c d e f g h i true k l x9 s8) (
 K2 a b c d e f g h i j k l m s5)) (
 condK i (
 K2 a b c d e f g h i true k l l s2) (
 K2 a b c d e f g h i j k l m s2))
def C75_2 (cc3:XC):XC:=(.seq (.z (.m 29 0<|
.k 30 .bool 22 [(.t 29),(.con (V.str ⟨1,44⟩))]<|
.nil)
 (.cond (.tmp 30) (.z (.m 31 0<|
.k 32 y16 21 [(.t 31),(.con (V.str ⟨3,3026478⟩))]<|
.nil)
 (.ops (.f 33 3 3<|
.op none .any [33] (.store 1 (.t 33) y11)<|
.nil)))
 .skip))
 (.keep [] [2,3] q75a cc3))
def T75_2 (E:List (Nat × Blk)) (D:Den) (W:DrawFn) (K3:Bool→Bool→Bool→Bool→Int→Int→Bool→Bool→Bool→Bool→Int→Int→H→Ans) (a:V) (b c d e:Bool) (f g:Int) (h i j k:Bool) (l m:Int) (σ:H):Ans:=
 callK (D 22 [a,.str (BS.mk 1 44)] σ) fun u1 s2=>
 rtBool u1 fun x3=>
 condK x3 (
 callK (D 21 [a,.str (BS.mk 3 3026478)] s2) fun u4 s5=>
 rtTup u4 fun l6=>
 rtNil l6 (
 K3 b c d e f g h i j true l m s5)) (
 K3 b c d e f g h i j k l m s2)
def C75_3:XC:=(.z (.O 34 y4 (.load (some 6) (.t 3))<|
.op none y4 [2,34] (.store 6 (.t 2) (.t 34))<|
.nil)
 .ret)
def T75_3 (E:List (Nat × Blk)) (D:Den) (W:DrawFn) (a b c d:Bool) (e f:Int) (g h i j:Bool) (k l:Int) (σ:H):Ans:=
 some ((V.agg [.bool g,.bool h,.bool i,.bool j,.int .i64 k,.int .i64 l]),σ)
def J75_3 (E:List (Nat × Blk)) (D:Den) (W:DrawFn) (N:Nat):=T75_3 E D W
def J75_2:=T75_2 E D W (J75_3 E D W N )
def J75_1:=T75_1 E D W (J75_2 E D W N )
def F75 (args:List V) (σ:H):Ans:=
 rtCons args fun x1 l2=>
 rtNil l2 (
 T75_0 E D W (J75_1 E D W N ) x1 σ)
def A75:XFn:=⟨35,[.any],[(.cell 2 (some 6))],(C75_0 (C75_1 (C75_2 C75_3)))⟩
theorem FE75 (args:List V) (σ:H):runX E D W N A75 args σ=F75 E D W N args σ:=by kernel_rfl
def C79_0 (cc1:XC) (cc2:XC):XC:=(.z (.pal 2 [] 42 [y0,y0]<|
.nil)
 (.seq (.z (.m 3 0<|
.nil)
 (.block 0 (.z (.b 5 .eql .none (.t 3) (.i 1)<|
.m 4 5<|
.nil)
 (.cond (.tmp 4) (.z (.op (some 6) y12 [] (.build [y0,y0] [(1,1,(.i 1))])<|
.op none y12 [2,6] (.store 2 (.t 2) (.t 6))<|
.nil)
 .ret)
 (.z (.b 8 .eql .none (.t 3) (.i 2)<|
.m 7 8<|
.nil)
 (.cond (.tmp 7) (.z (.op (some 9) y12 [] (.build [y0,y0] [(1,1,(.i 2))])<|
.op none y12 [2,9] (.store 2 (.t 2) (.t 9))<|
.nil)
 .ret)
 (.z (.b 11 .eql .none (.t 3) (.i 5)<|
.m 10 11<|
.nil)
 (.cond (.tmp 10) (.z (.op (some 12) y12 [] (.build [y0,y0] [(1,1,(.i 4))])<|
.op none y12 [2,12] (.store 2 (.t 2) (.t 12))<|
.nil)
 .ret)
 (.z (.b 14 .eql .none (.t 3) (.i 4)<|
.m 13 14<|
.nil)
 (.cond (.tmp 13) (.z (.op (some 15) y12 [] (.build [y0,y0] [(1,1,(.i 5))])<|
.op none y12 [2,15] (.store 2 (.t 2) (.t 15))<|
.nil)
 .ret)
 (.z (.b 17 .eql .none (.t 3) (.i 3)<|
.m 16 17<|
.nil)
 (.cond (.tmp 16) (.z (.op (some 18) y12 [] (.build [y0,y0] [(1,1,(.i 10))])<|
.op none y12 [2,18] (.store 2 (.t 2) (.t 18))<|
.nil)
 .ret)
 (.z (.b 20 .eql .none (.t 3) (.i 6)<|
.m 19 20<|
.nil)
 (.cond (.tmp 19) (.z (.op (some 21) y12 [] (.build [y0,y0] [(1,1,(.i 12))])<|
.op none y12 [2,21] (.store 2 (.t 2) (.t 21))<|
.nil)
 .ret)
 (.seq (.z (.b 23 .eql .none (.t 3) (.i 7)<|
.m 22 23<|
.nil)
 (.cond (.tmp 22) .skip
 (.ops (.b 24 .eql .none (.t 3) (.i 10)<|
.m 22 24<|
.nil))))
 (.keep [(3,.i),(22,.bool)] [2] [(2,[.i,.i])] cc2))))))))))))))))
 (.keep [] [2] [(2,[.i,.i])] cc1)))
def T79_0 (E:List (Nat × Blk)) (D:Den) (W:DrawFn) (K2:Int→Bool→Int→Int→H→Ans) (a:Int) (σ:H):Ans:=
 condK (eqF a (Int.ofNat 1)) (
 some ((V.agg [.int .i64 (Int.ofNat 0),.int .i64 (Int.ofNat 1)]),σ)) (
 condK (eqF a (Int.ofNat 2)) (
 some ((V.agg [.int .i64 (Int.ofNat 0),.int .i64 (Int.ofNat 2)]),σ)) (
 condK (eqF a (Int.ofNat 5)) (
 some ((V.agg [.int .i64 (Int.ofNat 0),.int .i64 (Int.ofNat 4)]),σ)) (
 condK (eqF a (Int.ofNat 4)) (
 some ((V.agg [.int .i64 (Int.ofNat 0),.int .i64 (Int.ofNat 5)]),σ)) (
 condK (eqF a (Int.ofNat 3)) (
 some ((V.agg [.int .i64 (Int.ofNat 0),.int .i64 (Int.ofNat 10)]),σ)) (
 condK (eqF a (Int.ofNat 6)) (
 some ((V.agg [.int .i64 (Int.ofNat 0),.int .i64 (Int.ofNat 12)]),σ)) (
 condK (eqF a (Int.ofNat 7)) (
 K2 a (eqF a (Int.ofNat 7)) (Int.ofNat 0) (Int.ofNat 0) σ) (
 K2 a (eqF a (Int.ofNat 10)) (Int.ofNat 0) (Int.ofNat 0) σ)))))))
def C79_1:XC:=(.z (.op (some 29) y12 [] (.build [y0,y0] [])<|
.op none y12 [2,29] (.store 2 (.t 2) (.t 29))<|
.nil)
 .ret)
def T79_1 (E:List (Nat × Blk)) (D:Den) (W:DrawFn) (a b:Int) (σ:H):Ans:=
 some ((V.agg [.int .i64 (Int.ofNat 0),.int .i64 (Int.ofNat 0)]),σ)
def C79_2:XC:=(.cond (.tmp 22) (.z (.op (some 25) y12 [] (.build [y0,y0] [(1,1,(.i 16))])<|
.op none y12 [2,25] (.store 2 (.t 2) (.t 25))<|
.nil)
 .ret)
 (.z (.b 27 .eql .none (.t 3) (.i 8)<|
.m 26 27<|
.nil)
 (.cond (.tmp 26) (.z (.op (some 28) y12 [] (.build [y0,y0] [(1,1,(.i 17))])<|
.op none y12 [2,28] (.store 2 (.t 2) (.t 28))<|
.nil)
 .ret)
 .skip)))
def T79_2 (E:List (Nat × Blk)) (D:Den) (W:DrawFn) (K1:Int→Int→H→Ans) (a:Int) (b:Bool) (c d:Int) (σ:H):Ans:=
 condK b (
 some ((V.agg [.int .i64 (Int.ofNat 0),.int .i64 (Int.ofNat 16)]),σ)) (
 condK (eqF a (Int.ofNat 8)) (
 some ((V.agg [.int .i64 (Int.ofNat 0),.int .i64 (Int.ofNat 17)]),σ)) (
 K1 c d σ))
def J79_1 (E:List (Nat × Blk)) (D:Den) (W:DrawFn) (N:Nat):=T79_1 E D W
def J79_2:=T79_2 E D W (J79_1 E D W N )
def F79 (args:List V) (σ:H):Ans:=
 xcI .i64 args fun x3 l2=>
 rtNil l2 (
 T79_0 E D W (J79_2 E D W N ) x3 σ)
def A79:XFn:=⟨30,[.i],[(.cell 2 (some 2))],(C79_0 C79_1 C79_2)⟩
theorem FE79 (args:List V) (σ:H):runX E D W N A79 args σ=F79 E D W N args σ:=by kernel_rfl
def C80_0:XC:=(.z (.P 2 (.box 95 (.t 0))<|
.q 4 0<|
.nil)
 (.seq (.z (.f 5 0 2<|
.l 6 .bool 5<|
.P 7 (.un .not (.t 6))<|
.nil)
 (.cond (.tmp 7) (.z (.q 4 0<|
.nil)
 .ret)
 .skip))
 (.seq (.z (.f 8 1 2<|
.l 9 .bool 8<|
.m 10 9<|
.gA 10 true (.p 11 [2,10] (.faddr 2 (.t 2))<|
.op (some 12) .bool [11,10] (.load none (.t 11))<|
.nil) 13 10 12<|
.m 14 13<|
.gA 14 true (.p 15 [2,14] (.faddr 4 (.t 2))<|
.op (some 16) .i [15,14] (.load none (.t 15))<|
.p 17 [2,14] (.faddr 5 (.t 2))<|
.op (some 18) .i [17,14] (.load none (.t 17))<|
.p 19 [16,18,14] (.bin .gtr .none (.t 16) (.t 18))<|
.nil) 20 14 19<|
.nil)
 (.cond (.tmp 20) (.z (.q 4 11<|
.nil)
 .ret)
 .skip))
 (.seq (.z (.m 21 1<|
.m 22 21<|
.gA 22 true (.p 23 [2,22] (.faddr 1 (.t 2))<|
.op (some 24) .bool [23,22] (.load none (.t 23))<|
.p 25 [24,22] (.un .not (.t 24))<|
.p 26 [25,22] (.mov (.t 25))<|
.grp 26 false (.p 27 [2,26] (.faddr 4 (.t 2))<|
.op (some 28) .i [27,26] (.load none (.t 27))<|
.p 29 [28,26] (.bin .lss .none (.t 28) (.i 0))<|
.nil) 30 [26,29,22] (.t 26) y11 (.t 29)<|
.p 31 [30,22] (.mov (.t 30))<|
.grp 31 false (.p 32 [2,31] (.faddr 4 (.t 2))<|
.op (some 33) .i [32,31] (.load none (.t 32))<|
.p 34 [33,31] (.bin .gtr .none (.t 33) (.i 70000))<|
.nil) 35 [31,34,22] (.t 31) y11 (.t 34)<|
.p 36 [35,22] (.mov (.t 35))<|
.grp 36 false (.p 37 [2,36] (.faddr 2 (.t 2))<|
.op (some 38) .bool [37,36] (.load none (.t 37))<|
.p 39 [38,36] (.mov (.t 38))<|
.grp 39 true (.p 40 [2,39] (.faddr 5 (.t 2))<|
.op (some 41) .i [40,39] (.load none (.t 40))<|
.p 42 [41,39] (.bin .lss .none (.t 41) (.i 0))<|
.p 43 [42,39] (.mov (.t 42))<|
.grp 43 false (.p 44 [2,43] (.faddr 5 (.t 2))<|
.op (some 45) .i [44,43] (.load none (.t 44))<|
.p 46 [45,43] (.bin .gtr .none (.t 45) (.i 70000))<|
.nil) 47 [43,46,39] (.t 43) y11 (.t 46)<|
.nil) 48 [39,47,36] (.t 39) (.t 47) y29<|
.nil) 49 [36,48,22] (.t 36) y11 (.t 48)<|
.nil) 50 22 49<|
.nil)
 (.cond (.tmp 50) (.z (.q 4 11<|
.nil)
 .ret)
 .skip))
 (.z (.q 4 0<|
.nil)
 .ret)))))
def T80_0 (E:List (Nat × Blk)) (D:Den) (W:DrawFn) (a b c d:Bool) (e f:Int) (g:Bool) (σ:H):Ans:=
 nbK [.bool a,.bool b,.bool c,.bool d,.int .i64 e,.int .i64 f] σ fun s1=>
 ldK E s1 (H.next σ) 0 fun u2=>
 rtBool u2 fun x3=>
 condK (not x3) (
 some ((V.int .i64 (Int.ofNat 0)),s1)) (
 ldK E s1 (H.next σ) 1 fun u4=>
 rtBool u4 fun x5=>
 joinB (fun c6 s7=>
 joinB (fun c9 s10=>
 condK c9 (
 some ((V.int .i64 (Int.ofNat 11)),s10)) (
 joinB (fun c12 s13=>
 condK c12 (
 some ((V.int .i64 (Int.ofNat 11)),s13)) (
 some ((V.int .i64 (Int.ofNat 0)),s13))) fun k14=>
 condK g (
 ldK E s10 (H.next σ) 1 fun u15=>
 rtBool u15 fun x16=>
 joinB (fun c17 s18=>
 joinB (fun c20 s21=>
 joinB (fun c23 s24=>
 k14 c23 s24) fun k25=>
 condK c20 (
 k25 true s21) (
 ldK E s21 (H.next σ) 2 fun u26=>
 rtBool u26 fun x27=>
 joinB (fun c28 s29=>
 k25 c28 s29) fun k30=>
 condK x27 (
 ldK E s21 (H.next σ) 5 fun u31=>
 rtInt .i64 u31 fun x32=>
 joinB (fun c33 s34=>
 k30 c33 s34) fun k35=>
 condK (ltF x32 (Int.ofNat 0)) (
 k35 true s21) (
 ldK E s21 (H.next σ) 5 fun u36=>
 rtInt .i64 u36 fun x37=>
 k35 (ltF (Int.ofNat 70000) x37) s21)) (
 k30 false s21))) fun k22=>
 condK c17 (
 k22 true s18) (
 ldK E s18 (H.next σ) 4 fun u38=>
 rtInt .i64 u38 fun x39=>
 k22 (ltF (Int.ofNat 70000) x39) s18)) fun k19=>
 condK (not x16) (
 k19 true s10) (
 ldK E s10 (H.next σ) 4 fun u40=>
 rtInt .i64 u40 fun x41=>
 k19 (ltF x41 (Int.ofNat 0)) s10)) (
 k14 false s10))) fun k11=>
 condK c6 (
 ldK E s7 (H.next σ) 4 fun u42=>
 rtInt .i64 u42 fun x43=>
 ldK E s7 (H.next σ) 5 fun u44=>
 rtInt .i64 u44 fun x45=>
 k11 (ltF x45 x43) s7) (
 k11 false s7)) fun k8=>
 condK x5 (
 ldK E s1 (H.next σ) 2 fun u46=>
 rtBool u46 fun x47=>
 k8 x47 s1) (
 k8 false s1))
def F80 (N:Nat) (args:List V) (σ:H):Ans:=
 rtCons args fun x1 l2=>
 rtAgg x1 fun l3=>
 xcB l3 fun x6 l5=>
 xcB l5 fun x9 l8=>
 xcB l8 fun x12 l11=>
 xcB l11 fun x15 l14=>
 xcI .i64 l14 fun x18 l17=>
 xcI .i64 l17 fun x21 l20=>
 rtNil l20 (
 xcB l2 fun x24 l23=>
 rtNil l23 (
 T80_0 E D W x6 x9 x12 x15 x18 x21 x24 σ))
def A80:XFn:=⟨51,[y4,.bool],[(.tmp 4)],C80_0⟩
theorem FE80 (args:List V) (σ:H):runX E D W N A80 args σ=F80 E D W N args σ:=by kernel_rfl
def C83_0:XC:=(.z (.c 6 V.nils<|
.q 7 0<|
.nil)
 (.seq (.z (.m 9 1<|
.b 10 .lss .none (.t 9) (.i 0)<|
.m 11 10<|
.gO 11 false (.p 12 [1,11] y15<|
.p 13 [12,11] (.bin .gtr .none (.t 12) (.i 268435456))<|
.nil) 14 11 13<|
.m 15 14<|
.gO 15 false (.p 16 [2,15] (.mov (.t 2))<|
.p 17 [16,15] (.bin .eql .none (.t 16) (.i 1))<|
.p 18 [17,15] (.mov (.t 17))<|
.grp 18 true (.p 19 [0,18] y13<|
.p 20 [19,18] (.len false (.t 19))<|
.p 21 [20,18] (.bin .eql .none (.t 20) (.i 0))<|
.nil) 22 [18,21,15] (.t 18) (.t 21) y29<|
.nil) 23 15 22<|
.nil)
 (.cond (.tmp 23) (.z (.c 6 V.nils<|
.q 7 12<|
.nil)
 .ret)
 .skip))
 (.z (.m 24 1<|
.op (some 25) y12 [24] (.build [y0,y0] [(0,1,(.i 2)),(1,1,(.t 24))])<|
.p 26 [25] (.buildSlice 42 1 [y0,y0] [(0,2,(.t 25))])<|
.m 8 26<|
.nil)
 (.seq (.z (.m 27 2<|
.b 28 .eql .none (.t 27) (.i 1)<|
.nil)
 (.cond (.tmp 28) (.z (.m 29 8<|
.m 30 0<|
.p 31 [30] (.sliceSl 2 (.t 30) (some (.i 1)) none none)<|
.O 32 .one (.append 42 2 16 (.t 29) (.t 31))<|
.m 6 32<|
.q 7 0<|
.nil)
 .ret)
 .skip))
 (.z (.m 33 8<|
.m 34 0<|
.O 35 .one (.append 42 2 16 (.t 33) (.t 34))<|
.m 6 35<|
.q 7 0<|
.nil)
 .ret)))))
def T83_0 (E:List (Nat × Blk)) (D:Den) (W:DrawFn) (a:V) (b c:Int) (σ:H):Ans:=
 joinB (fun c1 s2=>
 joinB (fun c4 s5=>
 condK c4 (
 some ((V.tup [V.nils,.int .i64 (Int.ofNat 12)]),s5)) (
 let s7:=newB s5 (.cells [.int .i64 (Int.ofNat 2),.int .i64 b]);
 condK (eqF c (Int.ofNat 1)) (
 gK (sliceV 2 a (some (V.int .i64 (Int.ofNat 1))) none none) fun u8=>
 appK E 2 16 (V.sl (H.next s5) 0 1 (.ex 1)) u8 s7 fun u9 s10=>
 rtOne u9 (
 some ((V.tup [u9,.int .i64 (Int.ofNat 0)]),s10))) (
 appK E 2 16 (V.sl (H.next s5) 0 1 (.ex 1)) a s7 fun u11 s12=>
 rtOne u11 (
 some ((V.tup [u11,.int .i64 (Int.ofNat 0)]),s12))))) fun k6=>
 condK c1 (
 k6 true s2) (
 joinB (fun c13 s14=>
 k6 c13 s14) fun k15=>
 condK (eqF c (Int.ofNat 1)) (
 slenK a fun n16=>
 k15 (eqF (Int.ofNat n16) (Int.ofNat 0)) s2) (
 k15 false s2))) fun k3=>
 condK (ltF b (Int.ofNat 0)) (
 k3 true σ) (
 k3 (ltF (Int.ofNat 268435456) b) σ)
def F83 (N:Nat) (args:List V) (σ:H):Ans:=
 rtCons args fun x1 l2=>
 xcI .i64 l2 fun x5 l4=>
 xcI .i64 l4 fun x8 l7=>
 rtNil l7 (
 T83_0 E D W x1 x5 x8 σ)
def A83:XFn:=⟨36,[.any,.i,.i],[(.tmp 6),(.tmp 7)],C83_0⟩
theorem FE83 (args:List V) (σ:H):runX E D W N A83 args σ=F83 E D W N args σ:=by kernel_rfl
def C94_0 (cc1:XC):XC:=(.z (.P 3 (.box 42 (.t 0))<|
.c 6 V.nils<|
.nil)
 (.z (.f 11 0 3<|
.l 12 .i 11<|
.b 13 .rem .none (.t 12) (.i 4)<|
.b 14 .add .none (.t 13) (.i 4)<|
.P 15 (.conv (.toInt .u8) (.t 14))<|
.b 16 .rem .none (.t 15) (.con (V.int .u8 (Int.ofNat 4)))<|
.b 17 .shl .none (.t 16) (.con (V.int .u64 (Int.ofNat 6)))<|
.m 7 17<|
.nil)
 (.seq (.z (.m 18 1<|
.nil)
 (.cond (.tmp 18) (.ops (.m 19 7<|
.b 20 .or .none (.t 19) (.con (V.int .u8 (Int.ofNat 32)))<|
.m 7 20<|
.nil))
 .skip))
 (.keep [(2,.i),(3,.ptr),(7,(.int .u8))] [] [] cc1))))
def T94_0 (E:List (Nat × Blk)) (D:Den) (W:DrawFn) (K1:Int→Nat→Nat→Int→H→Ans) (a b:Int) (c:Bool) (d:Int) (σ:H):Ans:=
 nbK [.int .i64 a,.int .i64 b] σ fun s1=>
 ldK E s1 (H.next σ) 0 fun u2=>
 rtInt .i64 u2 fun x3=>
 condK c (
 K1 d (H.next σ) 0 (orF .u8 (shlF .u8 (Int.tmod (wrapF .u8 (addF .i64 (Int.tmod x3 (Int.ofNat 4)) (Int.ofNat 4))) (Int.ofNat 4)) 6) (Int.ofNat 32)) s1) (
 K1 d (H.next σ) 0 (shlF .u8 (Int.tmod (wrapF .u8 (addF .i64 (Int.tmod x3 (Int.ofNat 4)) (Int.ofNat 4))) (Int.ofNat 4)) 6) s1)
def C94_1 (cc2:XC):XC:=(.z (.f 21 1 3<|
.l 22 .i 21<|
.p 23 [22] (.max (.t 22) [(.i 0)])<|
.m 8 23<|
.nil)
 (.z (.c 9 V.nils<|
.nil)
 (.seq (.z (.m 24 8<|
.b 25 .lss .none (.t 24) (.i 31)<|
.nil)
 (.cond (.tmp 25) (.ops (.m 26 7<|
.m 27 8<|
.P 28 (.conv (.toInt .u8) (.t 27))<|
.b 29 .or .none (.t 26) (.t 28)<|
.p 30 [29] (.buildSlice 5 1 [y8] [(0,1,(.t 29))])<|
.m 9 30<|
.nil))
 (.ops (.m 31 7<|
.b 32 .or .none (.t 31) (.con (V.int .u8 (Int.ofNat 31)))<|
.p 33 [32] (.buildSlice 5 1 [y8] [(0,1,(.t 32))])<|
.m 34 8<|
.P 35 (.conv (.toInt .u64) (.t 34))<|
.k 36 .one 116 [(.t 35)]<|
.p 37 [33,36] (.buildSlice 22 2 [V.nils,V.nils] [(0,1,(.t 33)),(1,1,(.t 36))])<|
.k 38 .one 58 [(.t 37)]<|
.m 9 38<|
.nil))))
 (.keep [(2,.i),(9,.any)] [] [] cc2))))
def T94_1 (E:List (Nat × Blk)) (D:Den) (W:DrawFn) (K2:Int→V→H→Ans) (a:Int) (b c:Nat) (d:Int) (σ:H):Ans:=
 ldK E σ b (Nat.add c 1) fun u1=>
 rtInt .i64 u1 fun x2=>
 condK (ltF (maxF x2 (Int.ofNat 0)) (Int.ofNat 31)) (
 let s3:=newB σ (.cells [.int .u8 (orF .u8 d (wrapF .u8 (maxF x2 (Int.ofNat 0))))]);
 K2 a (V.sl (H.next σ) 0 1 (.ex 1)) s3) (
 let s4:=newB σ (.cells [.int .u8 (orF .u8 d (Int.ofNat 31))]);
 callK (D 116 [.int .u64 (wrapF .u64 (maxF x2 (Int.ofNat 0)))] s4) fun u5 s6=>
 rtOne u5 (
 fillK [(0,1,(V.sl (H.next σ) 0 1 (.ex 1))),(1,1,u5)] [V.nils,V.nils] fun l7=>
 chk (allOne l7) (
 let s8:=newB s6 (.cells l7);
 callK (D 58 [.sl (H.next s6) 0 2 (.ex 2)] s8) fun u9 s10=>
 rtOne u9 (
 K2 a u9 s10))))
def C94_2:XC:=(.z (.m 39 2<|
.p 40 [39] (.max (.t 39) [(.i 0)])<|
.m 2 40<|
.nil)
 (.seq (.z (.m 41 2<|
.b 42 .lss .none (.t 41) (.i 128)<|
.nil)
 (.cond (.tmp 42) (.z (.m 43 9<|
.m 44 2<|
.P 45 (.conv (.toInt .u8) (.t 44))<|
.p 46 [45] (.buildSlice 5 1 [y8] [(0,1,(.t 45))])<|
.O 47 .one (.append 5 1 1 (.t 43) (.t 46))<|
.m 6 47<|
.nil)
 .ret)
 .skip))
 (.z (.m 48 2<|
.P 49 (.conv (.toInt .u64) (.t 48))<|
.k 50 .one 117 [(.t 49)]<|
.m 10 50<|
.nil)
 (.z (.m 51 9<|
.m 52 10<|
.u 53 52<|
.P 54 (.conv (.toInt .u8) (.t 53))<|
.b 55 .or .none y20 (.t 54)<|
.p 56 [55] (.buildSlice 5 1 [y8] [(0,1,(.t 55))])<|
.m 57 10<|
.p 58 [51,56,57] (.buildSlice 22 3 [V.nils,V.nils,V.nils] [(0,1,(.t 51)),(1,1,(.t 56)),(2,1,(.t 57))])<|
.k 59 .one 58 [(.t 58)]<|
.m 6 59<|
.nil)
 .ret))))
def T94_2 (E:List (Nat × Blk)) (D:Den) (W:DrawFn) (a:Int) (b:V) (σ:H):Ans:=
 condK (ltF (maxF a (Int.ofNat 0)) (Int.ofNat 128)) (
 let s1:=newB σ (.cells [.int .u8 (wrapF .u8 (maxF a (Int.ofNat 0)))]);
 appK E 1 1 b (V.sl (H.next σ) 0 1 (.ex 1)) s1 fun u2 s3=>
 rtOne u2 (
 some (u2,s3))) (
 callK (D 117 [.int .u64 (wrapF .u64 (maxF a (Int.ofNat 0)))] σ) fun u4 s5=>
 rtOne u4 (
 slenK u4 fun n6=>
 let s7:=newB s5 (.cells [.int .u8 (orF .u8 (Int.ofNat 128) (wrapF .u8 (Int.ofNat n6)))]);
 fillK [(0,1,b),(1,1,(V.sl (H.next s5) 0 1 (.ex 1))),(2,1,u4)] [V.nils,V.nils,V.nils] fun l8=>
 chk (allOne l8) (
 let s9:=newB s7 (.cells l8);
 callK (D 58 [.sl (H.next s7) 0 3 (.ex 3)] s9) fun u10 s11=>
 rtOne u10 (
 some (u10,s11)))))
def J94_2 (E:List (Nat × Blk)) (D:Den) (W:DrawFn) (N:Nat):=T94_2 E D W
def J94_1:=T94_1 E D W (J94_2 E D W N )
def F94 (args:List V) (σ:H):Ans:=
 rtCons args fun x1 l2=>
 rtAgg x1 fun l3=>
 xcI .i64 l3 fun x6 l5=>
 xcI .i64 l5 fun x9 l8=>
 rtNil l8 (
 xcB l2 fun x12 l11=>
 xcI .i64 l11 fun x15 l14=>
 rtNil l14 (
 T94_0 E D W (J94_1 E D W N ) x6 x9 x12 x15 σ))
def A94:XFn:=⟨60,[y12,.bool,.i],[(.tmp 6)],(C94_0 (C94_1 C94_2))⟩
theorem FE94 (args:List V) (σ:H):runX E D W N A94 args σ=F94 E D W N args σ:=by kernel_rfl
def C98_0:XC:=(.z (.c 0 V.nils<|
.nil)
 (.z (.p 1 [] (.buildSlice 9 25 [y5,y5,y5,y5,y5,y5,y5,y5,y5,y5,y5,y5,y5,y5,y5,y5,y5,y5,y5,y5,y5,y5,y5,y5,y5] [(0,1,(.con (V.str ⟨11,100710650190388740279911748⟩))),(1,1,y30),(2,1,y31),(3,1,(.con (V.str ⟨9,1241215773001651606849⟩))),(4,1,y24),(5,1,(.con (V.str ⟨5,336236856642⟩))),(6,1,(.con (V.str ⟨3,4476485⟩))),(7,1,(.con (V.str ⟨7,22026814072246082⟩))),(8,1,(.con (V.str ⟨7,23157120498421321⟩))),(9,1,y23),(10,1,(.con (V.str ⟨4,1280070990⟩))),(11,1,(.con (V.str ⟨5,361940403023⟩))),(12,1,(.con (V.str ⟨6,78401563153491⟩))),(13,1,y22),(14,1,y32),(15,1,(.con (V.str ⟨3,5522771⟩))),(16,1,(.con (V.str ⟨6,76155295057987⟩))),(17,1,(.con (V.str ⟨2,17999⟩))),(18,1,(.con (V.str ⟨8,5494759122808361039⟩))),(19,1,(.con (V.str ⟨7,23727827094750532⟩))),(20,1,(.con (V.str ⟨4,1163544915⟩))),(21,1,(.con (V.str ⟨3,5130573⟩))),(22,1,(.con (V.str ⟨3,5783885⟩))),(23,1,(.con (V.str ⟨4,1163219540⟩))),(24,1,(.con (V.str ⟨5,297750249798⟩)))])<|
.m 0 1<|
.nil)
 .ret))
def T98_0 (E:List (Nat × Blk)) (D:Den) (W:DrawFn) (σ:H):Ans:=
 let s1:=newB σ (.cells [.str (BS.mk 11 100710650190388740279911748),.str (BS.mk 8 6073459554577832005),.str (BS.mk 8 6073459554577829193),.str (BS.mk 9 1241215773001651606849),.str (BS.mk 4 1397178708),.str (BS.mk 5 336236856642),.str (BS.mk 3 4476485),.str (BS.mk 7 22026814072246082),.str (BS.mk 7 23157120498421321),.str (BS.mk 10 322399817400452109389381),.str (BS.mk 4 1280070990),.str (BS.mk 5 361940403023),.str (BS.mk 6 78401563153491),.str (BS.mk 10 488440487847103610377301),.str (BS.mk 8 4990918871747741011),.str (BS.mk 3 5522771),.str (BS.mk 6 76155295057987),.str (BS.mk 2 17999),.str (BS.mk 8 5494759122808361039),.str (BS.mk 7 23727827094750532),.str (BS.mk 4 1163544915),.str (BS.mk 3 5130573),.str (BS.mk 3 5783885),.str (BS.mk 4 1163219540),.str (BS.mk 5 297750249798)]);
 some ((V.sl (H.next σ) 0 25 (.ex 25)),s1)
def F98 (N:Nat) (args:List V) (σ:H):Ans:=
 rtNil args (
 T98_0 E D W  σ)
def A98:XFn:=⟨2,[],[(.tmp 0)],C98_0⟩
theorem FE98 (args:List V) (σ:H):runX E D W N A98 args σ=F98 E D W N args σ:=by kernel_rfl
def q116a:List (Nat × XTy):=[(0,(.int .u64)),(3,.any)]
def Fin116 (E:List (Nat × Blk)):St→Ans:=fun s=>resK E s [(.tmp 2)] fun l=>some (oneV l,s.σ)
def b116a (c0:XC):Nat→St→Ans:=blkK 0 (dX E D W N (.keep [(3,.any)] [] [] c0) (Fin116 E) nX (Fin116 E)) nX
def C116_0 (cc1:XC) (cc2:XC):XC:=(.z (.c 2 V.nils<|
.nil)
 (.z (.m 4 0<|
.P 5 (.conv (.toInt .u8) (.t 4))<|
.b 6 .and .none (.t 5) (.con (V.int .u8 (Int.ofNat 127)))<|
.p 7 [6] (.buildSlice 5 1 [y8] [(0,1,(.t 6))])<|
.m 3 7<|
.nil)
 (.seq (.z (.m 8 0<|
.b 9 .shr .none (.t 8) (.con (V.int .u64 (Int.ofNat 7)))<|
.m 0 9<|
.nil)
 (.block 0 (.loop q116a [] [] cc2)))
 (.keep [(3,.any)] [] [] cc1))))
def T116_0 (E:List (Nat × Blk)) (D:Den) (W:DrawFn) (K2:Int→V→H→Ans) (a:Int) (σ:H):Ans:=
 let s1:=newB σ (.cells [.int .u8 (andF .u8 (wrapF .u8 a) (Int.ofNat 127))]);
 K2 (shrF .u64 a 7) (V.sl (H.next σ) 0 1 (.ex 1)) s1
def C116_1:XC:=(.z (.m 20 3<|
.m 2 20<|
.nil)
 .ret)
def T116_1 (E:List (Nat × Blk)) (D:Den) (W:DrawFn) (a:V) (σ:H):Ans:=
 some (a,σ)
def C116_2:XC:=(.seq (.z (.m 10 0<|
.b 11 .gtr .none (.t 10) (.con (V.int .u64 (Int.ofNat 0)))<|
.nil)
 (.cond (.tmp 11) .skip
 y21))
 (.seq (.block 1 (.ops (.m 14 0<|
.P 15 (.conv (.toInt .u8) (.t 14))<|
.b 16 .or .none (.t 15) y20<|
.p 17 [16] (.buildSlice 5 1 [y8] [(0,1,(.t 16))])<|
.m 18 3<|
.O 19 .one (.append 5 1 1 (.t 17) (.t 18))<|
.m 3 19<|
.nil)))
 (.ops (.m 12 0<|
.b 13 .shr .none (.t 12) (.con (V.int .u64 (Int.ofNat 7)))<|
.m 0 13<|
.nil))))
def T116_2 (E:List (Nat × Blk)) (D:Den) (W:DrawFn) (K1:V→H→Ans) (R2:Int→V→H→Ans) (a:Int) (b:V) (σ:H):Ans:=
 condK (ltF (Int.ofNat 0) a) (
 let s1:=newB σ (.cells [.int .u8 (orF .u8 (wrapF .u8 a) (Int.ofNat 128))]);
 appK E 1 1 (V.sl (H.next σ) 0 1 (.ex 1)) b s1 fun u2 s3=>
 rtOne u2 (
 R2 (shrF .u64 a 7) u2 s3)) (
 K1 b σ)
def S116_0 (a:Int) (σ:H):St:=⟨[(0,.int .u64 a)],[],[],σ⟩
def S116_1 (a:V) (σ:H):St:=⟨[(3,a)],[],[],σ⟩
def S116_2 (a:Int) (b:V) (σ:H):St:=⟨[(0,.int .u64 a),(3,b)],[],[],σ⟩
theorem P116_0 (cc1:XC) (cc2:XC) (a:Int) (σ:H) :
 denC E D W N (C116_0 cc1 cc2) (S116_0 a σ) (Fin116 E) nX (Fin116 E) =
 T116_0 E D W (fun a b σ=>iterK (fun rec s'=>denC E D W N cc2 s' (kX q116a [] [] rec) (b116a E D W N cc1) (Fin116 E)) N (S116_2 a b σ)) a σ:=by kernel_rfl
theorem P116_2 (cc1:XC) (li2:St→Ans) (a:Int) (b:V) (σ:H) :
 denC E D W N (C116_2 ) (S116_2 a b σ) (kX q116a [] [] li2) (b116a E D W N cc1) (Fin116 E) =
 T116_2 E D W (fun b σ=>denC E D W N cc1 (S116_1 b σ) (Fin116 E) nX (Fin116 E)) (fun a b σ=>li2 (S116_2 a b σ)) a b σ:=by kernel_rfl
def J116_1 (E:List (Nat × Blk)) (D:Den) (W:DrawFn) (N:Nat):=T116_1 E D W
theorem JE116_1 (a:V) (σ:H) :
 denC E D W N C116_1 (S116_1 a σ) (Fin116 E) nX (Fin116 E)=J116_1 E D W N a σ:=by kernel_rfl
def L116_2 (n:Nat):Int→V→H→Ans:=
 Nat.rec (fun _ _ _=>none) (fun _ ih=>T116_2 E D W (J116_1 E D W N ) ih) n
theorem LE116_2 (n:Nat):∀(a:Int) (b:V) (σ:H),
 iterK (fun rec s'=>denC E D W N C116_2 s' (kX q116a [] [] rec) (b116a E D W N C116_1) (Fin116 E)) n (S116_2 a b σ)=L116_2 E D W N n a b σ:=by
 induction n with
 | zero=>intro a b σ;rfl
 | succ n ihn=>
  intro a b σ
  rw[iterK_succ]
  refine(P116_2 E D W N C116_1 (iterK (fun rec s'=>denC E D W N C116_2 s' (kX q116a [] [] rec) (b116a E D W N C116_1) (Fin116 E)) n) a b σ).trans ?_
  simp only[ihn,JE116_1]
  kernel_rfl
def J116_0:=T116_0 E D W (L116_2 E D W N N)
theorem JE116_0 (a:Int) (σ:H) :
 denC E D W N (C116_0 C116_1 C116_2) (S116_0 a σ) (Fin116 E) nX (Fin116 E)=J116_0 E D W N a σ:=by
 refine(P116_0 E D W N C116_1 C116_2  a σ).trans ?_
 simp only[LE116_2]
 kernel_rfl
def F116 (args:List V) (σ:H):Ans:=
 xcI .u64 args fun x3 l2=>
 rtNil l2 (
 J116_0 E D W N x3 σ)
def A116:XFn:=⟨21,[(.int .u64)],[(.tmp 2)],(C116_0 C116_1 C116_2)⟩
theorem FE116 (args:List V) (σ:H):runX E D W N A116 args σ=F116 E D W N args σ:=by
 unfold F116
 simp only[←JE116_0]
 kernel_rfl
def q117a:List (Nat × XTy):=[(0,(.int .u64)),(3,.i)]
def Fin117 (E:List (Nat × Blk)):St→Ans:=fun s=>resK E s [(.tmp 2)] fun l=>some (oneV l,s.σ)
def b117a (c0:XC):Nat→St→Ans:=blkK 0 (dX E D W N (.keep q117a [] [] c0) (Fin117 E) nX (Fin117 E)) nX
def C117_0 (cc1:XC) (cc2:XC):XC:=(.z (.c 2 V.nils<|
.nil)
 (.z (.q 3 1<|
.nil)
 (.seq (.block 0 (.loop q117a [] [] cc2))
 (.keep q117a [] [] cc1))))
def T117_0 (E:List (Nat × Blk)) (D:Den) (W:DrawFn) (K2:Int→Int→H→Ans) (a:Int) (σ:H):Ans:=
 K2 a (Int.ofNat 1) σ
def C117_1:XC:=(.z (.m 15 0<|
.m 16 3<|
.k 17 .one 60 [(.t 15),(.t 16)]<|
.m 2 17<|
.nil)
 .ret)
def T117_1 (E:List (Nat × Blk)) (D:Den) (W:DrawFn) (a b:Int) (σ:H):Ans:=
 callK (D 60 [.int .u64 a,.int .i64 b] σ) fun u1 s2=>
 rtOne u1 (
 some (u1,s2))
def C117_2:XC:=(.seq (.z (.m 4 3<|
.b 5 .lss .none (.t 4) (.i 8)<|
.m 6 5<|
.gA 6 true (.p 7 [0,6] y13<|
.p 8 [3,6] (.mov (.t 3))<|
.p 9 [8,6] (.bin .mul .none (.i 8) (.t 8))<|
.p 10 [7,9,6] (.bin .shr .none (.t 7) (.t 9))<|
.p 11 [10,6] (.bin .neq .none (.t 10) (.con (V.int .u64 (Int.ofNat 0))))<|
.nil) 12 6 11<|
.nil)
 (.cond (.tmp 12) .skip
 y21))
 (.block 1 (.ops (.m 13 3<|
.b 14 .add .none (.t 13) (.i 1)<|
.m 3 14<|
.nil))))
def T117_2 (E:List (Nat × Blk)) (D:Den) (W:DrawFn) (K1:Int→Int→H→Ans) (R2:Int→Int→H→Ans) (a b:Int) (σ:H):Ans:=
 joinB (fun c1 s2=>
 condK c1 (
 R2 a (addF .i64 b (Int.ofNat 1)) s2) (
 K1 a b s2)) fun k3=>
 condK (ltF b (Int.ofNat 8)) (
 nnK (mulF .i64 (Int.ofNat 8) b) fun n4=>
 k3 (not (eqF (shrF .u64 a n4) (Int.ofNat 0))) σ) (
 k3 false σ)
def S117_0 (a:Int) (σ:H):St:=⟨[(0,.int .u64 a)],[],[],σ⟩
def S117_1 (a b:Int) (σ:H):St:=⟨[(0,.int .u64 a),(3,.int .i64 b)],[],[],σ⟩
theorem P117_0 (cc1:XC) (cc2:XC) (a:Int) (σ:H) :
 denC E D W N (C117_0 cc1 cc2) (S117_0 a σ) (Fin117 E) nX (Fin117 E) =
 T117_0 E D W (fun a b σ=>iterK (fun rec s'=>denC E D W N cc2 s' (kX q117a [] [] rec) (b117a E D W N cc1) (Fin117 E)) N (S117_1 a b σ)) a σ:=by kernel_rfl
theorem P117_2 (cc1:XC) (li2:St→Ans) (a b:Int) (σ:H) :
 denC E D W N (C117_2 ) (S117_1 a b σ) (kX q117a [] [] li2) (b117a E D W N cc1) (Fin117 E) =
 T117_2 E D W (fun a b σ=>denC E D W N cc1 (S117_1 a b σ) (Fin117 E) nX (Fin117 E)) (fun a b σ=>li2 (S117_1 a b σ)) a b σ:=by kernel_rfl
def J117_1 (E:List (Nat × Blk)) (D:Den) (W:DrawFn) (N:Nat):=T117_1 E D W
theorem JE117_1 (a b:Int) (σ:H) :
 denC E D W N C117_1 (S117_1 a b σ) (Fin117 E) nX (Fin117 E)=J117_1 E D W N a b σ:=by kernel_rfl
def L117_2 (n:Nat):Int→Int→H→Ans:=
 Nat.rec (fun _ _ _=>none) (fun _ ih=>T117_2 E D W (J117_1 E D W N ) ih) n
theorem LE117_2 (n:Nat):∀(a b:Int) (σ:H),
 iterK (fun rec s'=>denC E D W N C117_2 s' (kX q117a [] [] rec) (b117a E D W N C117_1) (Fin117 E)) n (S117_1 a b σ)=L117_2 E D W N n a b σ:=by
 induction n with
 | zero=>intro a b σ;rfl
 | succ n ihn=>
  intro a b σ
  rw[iterK_succ]
  refine(P117_2 E D W N C117_1 (iterK (fun rec s'=>denC E D W N C117_2 s' (kX q117a [] [] rec) (b117a E D W N C117_1) (Fin117 E)) n) a b σ).trans ?_
  simp only[ihn,JE117_1]
  kernel_rfl
def J117_0:=T117_0 E D W (L117_2 E D W N N)
theorem JE117_0 (a:Int) (σ:H) :
 denC E D W N (C117_0 C117_1 C117_2) (S117_0 a σ) (Fin117 E) nX (Fin117 E)=J117_0 E D W N a σ:=by
 refine(P117_0 E D W N C117_1 C117_2  a σ).trans ?_
 simp only[LE117_2]
 kernel_rfl
def F117 (args:List V) (σ:H):Ans:=
 xcI .u64 args fun x3 l2=>
 rtNil l2 (
 J117_0 E D W N x3 σ)
def A117:XFn:=⟨18,[(.int .u64)],[(.tmp 2)],(C117_0 C117_1 C117_2)⟩
theorem FE117 (args:List V) (σ:H):runX E D W N A117 args σ=F117 E D W N args σ:=by
 unfold F117
 simp only[←JE117_0]
 kernel_rfl
end
noncomputable section
def glob:Nat→Bool:=fun g=>Nat.blt g 2
theorem follows:Tryz.prog.follows .mixedOrders=true:=by kernel_rfl
def Is (f:Nat) (A:XFn):Prop:=∃fn,Tryz.prog.funcs[f]? = some fn∧compF Tryz.prog glob fn=some A.strip∧A.body.ok=true∧callOk Tryz.prog f=true
theorem Is.sound {f:Nat} {A:XFn} (h:Is f A) (E:List (Nat × Blk)) (D:Den) (hD:∀f,SoundFn Tryz.prog E glob f (D f)) (N:Nat):SoundFn Tryz.prog E glob f (runX E D (drawW E D) N A):=
 let ⟨_,h1,h2,h3,h4⟩:=h
 runX_ok hD (drawW_ok hD follows) follows N h1 h2 rfl h3 h4
theorem Is.sf {f:Nat} {A:XFn} (h:Is f A) {E:List (Nat × Blk)} {D:Den} (hD:∀f,SoundFn Tryz.prog E glob f (D f)) {N:Nat} {F:List V→H→Ans} (he:∀args σ,runX E D (drawW E D) N A args σ=F args σ):SoundFn Tryz.prog E glob f F:=by
 have h1:=h.sound E D hD N
 rwa [show runX E D (drawW E D) N A=F from funext fun a=>funext fun s=>he a s]at h1
abbrev Snd (f:Nat) (F:List (Nat × Blk)→Den→DrawFn→Nat→List V→H→Ans):Prop:=∀(E:List (Nat × Blk)) (D:Den),(∀f,SoundFn Tryz.prog E glob f (D f))→∀N,SoundFn Tryz.prog E glob f (F E D (drawW E D) N)
noncomputable def tab:List (Nat × Func):=[(5,Tryz.f5)]
theorem tab_is:∀p∈tab,Tryz.prog.funcs[p.1]? = some p.2∧callOk Tryz.prog p.1=true:=by
 unfold tab
 simp only[List.forall_mem_cons]
 exact⟨⟨Tryz.func5,by kernel_rfl⟩,fun _ h=>by cases h⟩
def lookA:List (Nat × Func)→Nat→Option Func:=fun l n=>List.rec none (fun p _ ih=>match Nat.beq p.1 n with | true=>some p.2 | false=>ih) l
theorem lookA_mem:∀(l:List (Nat × Func)) (n:Nat) (g:Func),lookA l n=some g→(n,g)∈l
 | [],n,g,h=>by cases h
 | p::l,n,g,h=>by
  have h':(match Nat.beq p.1 n with | true=>some p.2 | false=>lookA l n)=some g:=h
  cases hb:Nat.beq p.1 n with
  | true=>
   rw[hb]at h'
   simp only[Option.some.injEq]at h'
   have:=Nat.eq_of_beq_eq_true hb
   subst this;subst h'
   exact List.mem_cons_self
  | false=>
   rw[hb]at h'
   exact List.mem_cons_of_mem _ (lookA_mem l n g h')
theorem compC_strip (P:Program) (G:Nat→Bool) (n:Nat) (c:Code):(compC P G n c).strip=compC P G n c:=by
 fun_induction compC P G n c<;>simp_all[AC.strip]
theorem compF_strip {P:Program} {G:Nat→Bool} {fn:Func} {a:AFn} (h:compF P G fn=some a):a.strip=a:=by
 unfold compF at h
 split at h
 ·cases h
  unfold AFn.strip
  rw[compC_strip]
 ·cases h
theorem mkSF {f:Nat} {fn:Func} {A:XFn} {F:List (Nat × Blk)→Den→DrawFn→Nat→List V→H→Ans} (h1:Tryz.prog.funcs[f]? = some fn) (h2:compF Tryz.prog glob fn=some A.strip) (h3:(A.body.ok&&callOk Tryz.prog f)=true) (he:∀E D W N args σ,runX E D W N A args σ=F E D W N args σ):Snd f F:=fun E D hD N=>by
 rw[Bool.and_eq_true]at h3
 exact Is.sf (A:=A) ⟨fn,h1,h2,h3.1,h3.2⟩ hD (he E D (drawW E D) N)
theorem SF3:Snd 3 F3:=mkSF Tryz.func3 (by kernel_rfl) (by kernel_rfl) FE3
theorem SF6:Snd 6 F6:=mkSF Tryz.func6 (by kernel_rfl) (by kernel_rfl) FE6
theorem SF7:Snd 7 F7:=mkSF Tryz.func7 (by kernel_rfl) (by kernel_rfl) FE7
theorem SF8:Snd 8 F8:=mkSF Tryz.func8 (by kernel_rfl) (by kernel_rfl) FE8
theorem SF9:Snd 9 F9:=mkSF Tryz.func9 (by kernel_rfl) (by kernel_rfl) FE9
theorem SF10:Snd 10 F10:=mkSF Tryz.func10 (by kernel_rfl) (by kernel_rfl) FE10
theorem SF11:Snd 11 F11:=mkSF Tryz.func11 (by kernel_rfl) (by kernel_rfl) FE11
theorem SF12:Snd 12 F12:=mkSF Tryz.func12 (by kernel_rfl) (by kernel_rfl) FE12
theorem SF13:Snd 13 F13:=mkSF Tryz.func13 (by kernel_rfl) (by kernel_rfl) FE13
theorem SF14:Snd 14 F14:=mkSF Tryz.func14 (by kernel_rfl) (by kernel_rfl) FE14
theorem SF15:Snd 15 F15:=mkSF Tryz.func15 (by kernel_rfl) (by kernel_rfl) FE15
theorem SF16:Snd 16 F16:=mkSF Tryz.func16 (by kernel_rfl) (by kernel_rfl) FE16
theorem SF17:Snd 17 F17:=mkSF Tryz.func17 (by kernel_rfl) (by kernel_rfl) FE17
theorem SF18:Snd 18 F18:=mkSF Tryz.func18 (by kernel_rfl) (by kernel_rfl) FE18
theorem SF19:Snd 19 F19:=mkSF Tryz.func19 (by kernel_rfl) (by kernel_rfl) FE19
theorem SF20:Snd 20 F20:=mkSF Tryz.func20 (by kernel_rfl) (by kernel_rfl) FE20
theorem SF21:Snd 21 F21:=mkSF Tryz.func21 (by kernel_rfl) (by kernel_rfl) FE21
theorem SF22:Snd 22 F22:=mkSF Tryz.func22 (by kernel_rfl) (by kernel_rfl) FE22
theorem SF23:Snd 23 F23:=mkSF Tryz.func23 (by kernel_rfl) (by kernel_rfl) FE23
theorem SF25:Snd 25 F25:=mkSF Tryz.func25 (by kernel_rfl) (by kernel_rfl) FE25
theorem SF26:Snd 26 F26:=mkSF Tryz.func26 (by kernel_rfl) (by kernel_rfl) FE26
theorem SF27:Snd 27 F27:=mkSF Tryz.func27 (by kernel_rfl) (by kernel_rfl) FE27
theorem SF28:Snd 28 F28:=mkSF Tryz.func28 (by kernel_rfl) (by kernel_rfl) FE28
theorem SF29:Snd 29 F29:=mkSF Tryz.func29 (by kernel_rfl) (by kernel_rfl) FE29
theorem SF30:Snd 30 F30:=mkSF Tryz.func30 (by kernel_rfl) (by kernel_rfl) FE30
theorem SF31:Snd 31 F31:=mkSF Tryz.func31 (by kernel_rfl) (by kernel_rfl) FE31
theorem SF32:Snd 32 F32:=mkSF Tryz.func32 (by kernel_rfl) (by kernel_rfl) FE32
theorem SF34:Snd 34 F34:=mkSF Tryz.func34 (by kernel_rfl) (by kernel_rfl) FE34
theorem SF35:Snd 35 F35:=mkSF Tryz.func35 (by kernel_rfl) (by kernel_rfl) FE35
theorem SF37:Snd 37 F37:=mkSF Tryz.func37 (by kernel_rfl) (by kernel_rfl) FE37
theorem SF38:Snd 38 F38:=mkSF Tryz.func38 (by kernel_rfl) (by kernel_rfl) FE38
theorem SF39:Snd 39 F39:=mkSF Tryz.func39 (by kernel_rfl) (by kernel_rfl) FE39
theorem SF40:Snd 40 F40:=mkSF Tryz.func40 (by kernel_rfl) (by kernel_rfl) FE40
theorem SF41:Snd 41 F41:=mkSF Tryz.func41 (by kernel_rfl) (by kernel_rfl) FE41
theorem SF42:Snd 42 F42:=mkSF Tryz.func42 (by kernel_rfl) (by kernel_rfl) FE42
theorem SF43:Snd 43 F43:=mkSF Tryz.func43 (by kernel_rfl) (by kernel_rfl) FE43
theorem SF44:Snd 44 F44:=mkSF Tryz.func44 (by kernel_rfl) (by kernel_rfl) FE44
theorem SF45:Snd 45 F45:=mkSF Tryz.func45 (by kernel_rfl) (by kernel_rfl) FE45
theorem SF47:Snd 47 F47:=mkSF Tryz.func47 (by kernel_rfl) (by kernel_rfl) FE47
theorem SF48:Snd 48 F48:=mkSF Tryz.func48 (by kernel_rfl) (by kernel_rfl) FE48
theorem SF49:Snd 49 F49:=mkSF Tryz.func49 (by kernel_rfl) (by kernel_rfl) FE49
theorem SF51:Snd 51 F51:=mkSF Tryz.func51 (by kernel_rfl) (by kernel_rfl) FE51
theorem SF52:Snd 52 F52:=mkSF Tryz.func52 (by kernel_rfl) (by kernel_rfl) FE52
theorem SF54:Snd 54 F54:=mkSF Tryz.func54 (by kernel_rfl) (by kernel_rfl) FE54
theorem SF57:Snd 57 F57:=mkSF Tryz.func57 (by kernel_rfl) (by kernel_rfl) FE57
theorem SF58:Snd 58 F58:=mkSF Tryz.func58 (by kernel_rfl) (by kernel_rfl) FE58
theorem SF59:Snd 59 F59:=mkSF Tryz.func59 (by kernel_rfl) (by kernel_rfl) FE59
theorem SF60:Snd 60 F60:=mkSF Tryz.func60 (by kernel_rfl) (by kernel_rfl) FE60
theorem SF64:Snd 64 F64:=mkSF Tryz.func64 (by kernel_rfl) (by kernel_rfl) FE64
theorem SF65:Snd 65 F65:=mkSF Tryz.func65 (by kernel_rfl) (by kernel_rfl) FE65
theorem SF66:Snd 66 F66:=mkSF Tryz.func66 (by kernel_rfl) (by kernel_rfl) FE66
theorem SF67:Snd 67 F67:=mkSF Tryz.func67 (by kernel_rfl) (by kernel_rfl) FE67
theorem SF68:Snd 68 F68:=mkSF Tryz.func68 (by kernel_rfl) (by kernel_rfl) FE68
theorem SF69:Snd 69 F69:=mkSF Tryz.func69 (by kernel_rfl) (by kernel_rfl) FE69
theorem SF72:Snd 72 F72:=mkSF Tryz.func72 (by kernel_rfl) (by kernel_rfl) FE72
theorem SF73:Snd 73 F73:=mkSF Tryz.func73 (by kernel_rfl) (by kernel_rfl) FE73
theorem SF74:Snd 74 F74:=mkSF Tryz.func74 (by kernel_rfl) (by kernel_rfl) FE74
theorem SF75:Snd 75 F75:=mkSF Tryz.func75 (by kernel_rfl) (by kernel_rfl) FE75
theorem SF79:Snd 79 F79:=mkSF Tryz.func79 (by kernel_rfl) (by kernel_rfl) FE79
theorem SF80:Snd 80 F80:=mkSF Tryz.func80 (by kernel_rfl) (by kernel_rfl) FE80
theorem SF83:Snd 83 F83:=mkSF Tryz.func83 (by kernel_rfl) (by kernel_rfl) FE83
theorem SF94:Snd 94 F94:=mkSF Tryz.func94 (by kernel_rfl) (by kernel_rfl) FE94
theorem SF98:Snd 98 F98:=mkSF Tryz.func98 (by kernel_rfl) (by kernel_rfl) FE98
theorem SF116:Snd 116 F116:=mkSF Tryz.func116 (by kernel_rfl) (by kernel_rfl) FE116
theorem SF117:Snd 117 F117:=mkSF Tryz.func117 (by kernel_rfl) (by kernel_rfl) FE117
noncomputable def ftab:List (Nat × (List (Nat × Blk)→Den→DrawFn→Nat→List V→H→Ans)):=[(3,F3),(6,F6),(7,F7),(8,F8),(9,F9),(10,F10),(11,F11),(12,F12),(13,F13),(14,F14),(15,F15),(16,F16),(17,F17),(18,F18),(19,F19),(20,F20),(21,F21),(22,F22),(23,F23),(25,F25),(26,F26),(27,F27),(28,F28),(29,F29),(30,F30),(31,F31),(32,F32),(34,F34),(35,F35),(37,F37),(38,F38),(39,F39),(40,F40),(41,F41),(42,F42),(43,F43),(44,F44),(45,F45),(47,F47),(48,F48),(49,F49),(51,F51),(52,F52),(54,F54),(57,F57),(58,F58),(59,F59),(60,F60),(64,F64),(65,F65),(66,F66),(67,F67),(68,F68),(69,F69),(72,F72),(73,F73),(74,F74),(75,F75),(79,F79),(80,F80),(83,F83),(94,F94),(98,F98),(116,F116),(117,F117)]
noncomputable def BD (E:List (Nat × Blk)) (N:Nat) (D:Den):Den:=fun f=>match lookF ftab f with
 | some g=>g E D (drawW E D) N
 | none=>match lookA tab f with
  | some g=>(match compF Tryz.prog glob g with | some a=>runFn E D (drawW E D) N a | none=>fun _ _=>none)
  | none=>fun _ _=>none
theorem BD_ok (E:List (Nat × Blk)) (N:Nat) (D:Den) (hD:∀f,SoundFn Tryz.prog E glob f (D f)) (f:FuncId):SoundFn Tryz.prog E glob f (BD E N D f):=by
 have hall:∀p∈ftab,Snd p.1 p.2:=by
  unfold ftab
  simp only[List.forall_mem_cons]
  exact⟨SF3,SF6,SF7,SF8,SF9,SF10,SF11,SF12,SF13,SF14,SF15,SF16,SF17,SF18,SF19,SF20,SF21,SF22,SF23,SF25,SF26,SF27,SF28,SF29,SF30,SF31,SF32,SF34,SF35,SF37,SF38,SF39,SF40,SF41,SF42,SF43,SF44,SF45,SF47,SF48,SF49,SF51,SF52,SF54,SF57,SF58,SF59,SF60,SF64,SF65,SF66,SF67,SF68,SF69,SF72,SF73,SF74,SF75,SF79,SF80,SF83,SF94,SF98,SF116,SF117,fun _ h=>by cases h⟩
 unfold BD
 split
 ·rename_i g hg
  rw[lookF_eq]at hg
  exact hall _ (look_mem hg) E _ hD N
 ·split
  ·rename_i g hg
   have hq:=tab_is _ (lookA_mem _ _ _ hg)
   split
   ·rename_i a ha
    exact runFn_ok hD (drawW_ok hD follows) N hq.1 ha (compF_strip ha) hq.2
   ·intro C _ _ R σ w args xs v σ' h;cases h
  ·intro C _ _ R σ w args xs v σ' h;cases h
def DT (E:List (Nat × Blk)) (N:Nat) (d:Nat):Den:=Nat.rec (fun _ _ _=>none) (fun _ ih=>BD E N ih) d
theorem DT_ok (E:List (Nat × Blk)) (N:Nat):∀(d:Nat) (f:FuncId),SoundFn Tryz.prog E glob f (DT E N d f):=by
 intro d
 induction d with
 | zero=>intro f C _ _ R σ w args xs v σ' h;cases h
 | succ d ih=>exact BD_ok E N _ ih
theorem globLt:∀g,glob g=true→g<2:=fun g hg=>by simpa[glob]using hg
end
end Go.Proofs.YtgblfbajgpboiaaGreatDoor
namespace Go.Og
noncomputable section
theorem ble_of {a b:Nat} (h:a≤b):Nat.ble a b=true:=by rw[Nat.ble_eq];exact h
def Atc (σ:H) (b:Nat) (l:List V):Prop:=lookF σ.bl b=some (.cells l)
def Tidy (σ:H):Prop:=∀b,σ.next≤b→lookF σ.bl b=none
structure Fr (S:Nat→Prop) (σ σ':H):Prop where
 tidy:Tidy σ'
 le:σ.next≤σ'.next
 same:∀b,b<σ.next→¬S b→lookF σ'.bl b=lookF σ.bl b
def Nowhere:Nat→Prop:=fun _=>False
def Names (v:V) (b:Nat):Prop:=match v with
 | .sl b' _ _ _=>b=b'
 | _=>False
section
variable {E:List (Nat × Blk)} {σ σ' σ'':H} {b b':Nat} {l m:List V} {S T:Nat→Prop}
theorem Atc.lt (h:Atc σ b l) (ht:Tidy σ):b<σ.next:=by
 rcases Nat.lt_or_ge b σ.next with hl|hl
 ·exact hl
 ·have:=ht b hl;rw[show lookF σ.bl b=some (.cells l)from h]at this;cases this
theorem Fr.refl (ht:Tidy σ):Fr S σ σ:=⟨ht,Nat.le_refl _,fun _ _ _=>rfl⟩
theorem Fr.mono (h:Fr S σ σ') (hs:∀b,b<σ.next→S b→T b):Fr T σ σ':=⟨h.tidy,h.le,fun b hb hn=>h.same b hb fun hS=>hn (hs b hb hS)⟩
theorem Fr.trans (h:Fr S σ σ') (k:Fr T σ' σ'') (hT:∀b,b<σ.next→T b→S b):Fr S σ σ'':=
 ⟨k.tidy,Nat.le_trans h.le k.le,fun b hb hn=>(k.same b (Nat.lt_of_lt_of_le hb h.le) fun hT'=>hn (hT b hb hT')).trans (h.same b hb hn)⟩
theorem Fr.at_ (h:Fr S σ σ') (ha:Atc σ b l) (ht:Tidy σ) (hn:¬S b):Atc σ' b l:=(h.same b (ha.lt ht) hn).trans ha
theorem lookF_setF (c:Blk) (k:Nat):lookF (setF σ b c).bl k=if b=k then some c else lookF σ.bl k:=by
 rw[lookF_eq,lookF_eq];exact look_setF σ b c k
theorem Atc_setF (m:List V):Atc (setF σ b (.cells m)) b m:=by
 show lookF _ _=_
 rw[lookF_setF,if_pos rfl]
theorem Fr.set (ht:Tidy σ) (hb:b<σ.next) (c:Blk):Fr (fun k=>k=b) σ (setF σ b c):=by
 refine⟨fun k hk=>?_,Nat.le_refl _,fun k hk hn=>?_⟩
 ·have hk':σ.next≤k:=hk
  rw[lookF_setF,if_neg (by omega)];exact ht k hk'
 ·rw[lookF_setF,if_neg (fun h=>hn h.symm)]
theorem Atc_newB (l:List V):Atc (newB σ (.cells l)) σ.next l:=by
 show lookF ((σ.next,Blk.cells l)::σ.bl) _=_
 rw[lookF_cons,if_pos rfl]
theorem Fr.new (ht:Tidy σ) (c:Blk):Fr S σ (newB σ c):=by
 refine⟨fun k hk=>?_,Nat.le_succ _,fun k hk hn=>?_⟩
 ·have hk':σ.next+1≤k:=hk
  show lookF ((σ.next,c)::σ.bl) _=_
  rw[lookF_cons,if_neg (by omega)];exact ht k (by omega)
 ·show lookF ((σ.next,c)::σ.bl) _=_
  rw[lookF_cons,if_neg (by omega)]
theorem rdK_at {κ:List V→Ans} (h:Atc σ b l):rdK E σ b κ=κ l:=by unfold rdK;rw[show lookF σ.bl b=some (.cells l)from h]
theorem nthK_of {κ:V→Ans} {o:Nat} {v:V} (h:nthF l o=some v):nthK l o κ=κ v:=by unfold nthK;rw[h]
theorem ldK_at {κ:V→Ans} {o:Nat} {v:V} (h:Atc σ b l) (hv:nthF l o=some v):ldK E σ b o κ=κ v:=(rdK_at h).trans (nthK_of hv)
theorem ldK_get {κ:V→Ans} {o:Nat} {v:V} (h:Atc σ b l) (hv:l[o]? = some v):ldK E σ b o κ=κ v:=ldK_at h (by rw[nthF_eq];exact hv)
theorem subK_of {κ:List V→Ans} {o n:Nat} (h:o+n≤l.length):subK l o n κ=κ ((l.drop o).take n):=by
 unfold subK;rw[show Nat.ble (Nat.add o n) l.length=true from ble_of h]
theorem chk_true {c:Bool} {a:Ans} (h:c=true):chk c a=a:=by rw[h];rfl
theorem stK_at {κ:H→Ans} {n o:Nat} {v:V} (h:Atc σ b l) (hc:(Nat.beq v.cells.length n&&Nat.ble (Nat.add o n) l.length&&allOne v.cells)=true):stK n b o v σ κ=κ (setF σ b (.cells (spl l o v.cells))):=by
 unfold stK;rw[show lookF σ.bl b=some (.cells l)from h];exact chk_true hc
theorem ltF_nat (m n:Nat):ltF (Int.ofNat m) (Int.ofNat n)=decide (m<n):=by
 rw[ltF_eq];simp
theorem leF_nat (m n:Nat):leF (Int.ofNat m) (Int.ofNat n)=decide (m≤n):=by
 rw[leF_eq];simp
theorem eqF_nat (m n:Nat):eqF (Int.ofNat m) (Int.ofNat n)=decide (m=n):=by
 rw[eqF_eq];rw[Bool.eq_iff_iff];simp only[beq_iff_eq,decide_eq_true_eq];exact⟨fun h=>Int.ofNat.inj h,fun h=>by rw[h]⟩
theorem wrapF_nat {k:IntKind} {m:Nat} (h:m≤maxN k):wrapF k (Int.ofNat m)=Int.ofNat m:=
 (wrapF_eq _ _).trans (wrap_in (show Nat.ble m (maxN k)=true from ble_of h))
theorem addF_nat {m n:Nat} (h:m+n≤9223372036854775807):addF .i64 (Int.ofNat m) (Int.ofNat n)=Int.ofNat (m+n):=by
 exact wrapF_nat (k := .i64) (m:=m+n) h
theorem subF_nat {m n:Nat} (h:n≤m) (hm:m≤9223372036854775807):subF .i64 (Int.ofNat m) (Int.ofNat n)=Int.ofNat (m-n):=by
 have e:Int.sub (Int.ofNat m) (Int.ofNat n)=Int.ofNat (m-n):=by
  show (m:Int)-(n:Int)=((m-n:Nat):Int)
  omega
 show wrapF .i64 (Int.sub (Int.ofNat m) (Int.ofNat n))=_
 rw[e]
 exact wrapF_nat (k := .i64) (show m-n≤9223372036854775807 by omega)
theorem idxStrX_nat {s:BS} {i:Nat} {κ:Int→Ans} (h:i<s.len):idxStrX s (Int.ofNat i) κ=κ (Int.ofNat (s.get i)):=by
 show chk (Nat.blt i s.len) _=_
 exact chk_true (by simpa[Nat.blt_eq]using h)
theorem sliceStrX_from {s:BS} {i:Nat} {κ:BS→Ans} (h:i≤s.len):sliceStrX s (some (.int .i64 (Int.ofNat i))) none κ=κ (s.sub i s.len):=by
 show chk (Nat.ble i s.len&&Nat.ble s.len s.len) _=_
 exact chk_true (by simp[Nat.ble_eq,h])
theorem sliceStrX_to {s:BS} {i:Nat} {κ:BS→Ans} (h:i≤s.len):sliceStrX s none (some (.int .i64 (Int.ofNat i))) κ=κ (s.sub 0 i):=by
 show chk (Nat.ble 0 i&&Nat.ble i s.len) _=_
 exact chk_true (by simp[Nat.ble_eq,h])
theorem sliceStrX_both {s:BS} {i j:Nat} {κ:BS→Ans} (h:i≤j) (hj:j≤s.len):sliceStrX s (some (.int .i64 (Int.ofNat i))) (some (.int .i64 (Int.ofNat j))) κ=κ (s.sub i j):=by
 show chk (Nat.ble i j&&Nat.ble j s.len) _=_
 exact chk_true (by simp[Nat.ble_eq,h,hj])
def Sl (σ:H) (esz k:Nat) (v:V) (l:List V):Prop:=(k=0∧v = .nils∧l=[])∨(∃b,v = .sl b 0 k (.op esz)∧Atc σ b l∧0<k∧l.length=k*esz)
theorem Sl.nil (σ:H) (esz:Nat):Sl σ esz 0 .nils [] := .inl ⟨rfl,rfl,rfl⟩
theorem Sl.length {esz k:Nat} {v:V} (h:Sl σ esz k v l):l.length=k*esz:=by
 rcases h with ⟨rfl,_,rfl⟩|⟨b,_,_,_,h⟩
 ·simp
 ·exact h
theorem Sl.fr {esz k:Nat} {v:V} (h:Sl σ esz k v l) (f:Fr S σ σ') (ht:Tidy σ) (hn:∀b,Names v b→¬S b):Sl σ' esz k v l:=by
 rcases h with h|⟨b,rfl,ha,hk,hl⟩
 ·exact .inl h
 ·exact .inr ⟨b,rfl,f.at_ ha ht (hn b rfl),hk,hl⟩
theorem Sl.one {esz k:Nat} {v:V} (h:Sl σ esz k v l):v.one=true:=by
 rcases h with ⟨_,rfl,_⟩|⟨b,rfl,_⟩<;>rfl
theorem Sl.slen {esz k:Nat} {v:V} {κ:Nat→Ans} (h:Sl σ esz k v l):slenK v κ=κ k:=by
 rcases h with ⟨rfl,rfl,_⟩|⟨b,rfl,_⟩<;>rfl
theorem Sl.lt {esz k:Nat} {v:V} (h:Sl σ esz k v l) (ht:Tidy σ) (hb:Names v b):b<σ.next:=by
 rcases h with ⟨_,rfl,_⟩|⟨c,rfl,ha,_⟩
 ·exact hb.elim
 ·cases hb;exact ha.lt ht
theorem srcK_ex {esz n xb xo:Nat} {c':Cap} {κ:Nat→List V→Ans} (h:Atc σ xb m) (hl:xo+n*esz≤m.length):srcK E σ esz (.sl xb xo n c') κ=κ n ((m.drop xo).take (n*esz)):=
 (rdK_at h).trans (subK_of hl)
theorem toStrK_sl {b o n:Nat} {c:Cap} {κ:BS→Ans}:toStrK E σ (.sl b o n c) κ=srcK E σ 1 (.sl b o n c) fun _ l=>match bytesOf l with | some s=>κ (BS.ofList s) | none=>none:=rfl
theorem rtOne_sl {b o n:Nat} {c:Cap} {a:Ans}:rtOne (.sl b o n c) a=a:=rfl
theorem iaddrSK_lt {esz b o n i:Nat} {c:Cap} {κ:Nat→Nat→Ans} (h:i<n):iaddrSK esz (.sl b o n c) (Int.ofNat i) κ=κ b (Nat.add o (Nat.mul i esz)):=by
 show chk (Nat.blt i n) _=_
 exact chk_true (by simpa[Nat.blt_eq]using h)
theorem lookF_drop (l:List (Nat × Blk)) (id id':Nat):lookF (drop l id) id'=if id=id' then none else lookF l id':=by
 rw[lookF_eq,lookF_eq];exact look_drop l id id'
end
theorem rtInt_int (k:IntKind) (n:Int) (κ:Int→Ans):rtInt k (.int k n) κ=κ n:=by simp[rtInt]
theorem rtBool_bool (b:Bool) (κ:Bool→Ans):rtBool (.bool b) κ=κ b:=rfl
theorem rtStr_str (s:BS) (κ:BS→Ans):rtStr (.str s) κ=κ s:=rfl
theorem rtPtr_ptr (b o:Nat) (κ:Nat→Nat→Ans):rtPtr (.ptr b o) κ=κ b o:=rfl
theorem rtAgg_agg (l:List V) (κ:List V→Ans):rtAgg (.agg l) κ=κ l:=rfl
theorem rtTup_tup (l:List V) (κ:List V→Ans):rtTup (.tup l) κ=κ l:=rfl
theorem rtCons_cons (v:V) (l:List V) (κ:V→List V→Ans):rtCons (v::l) κ=κ v l:=rfl
theorem rtNil_nil (a:Ans):rtNil [] a=a:=rfl
theorem callK_some_ (v:V) (σ:H) (κ:V→H→Ans):callK (some (v,σ)) κ=κ v σ:=rfl
def BS.nats (s:BS):List Nat:=s.toList.map UInt8.toNat
theorem BS.length_nats (s:BS):s.nats.length=s.len:=by simp[BS.nats,BS.length_toList]
theorem BS.nats_get {s:BS} {i:Nat} (h:i<s.len):s.nats[i]? = some (s.get i):=by
 simp only[BS.nats,List.getElem?_map,BS.getElem?_toList,if_pos h,Option.map_some,UInt8.toNat_ofNat']
 rw[Nat.mod_eq_of_lt (s.get_lt i)]
theorem BS.nats_lt (s:BS):∀c∈s.nats,c<256:=by
 intro c hc
 simp only[BS.nats,List.mem_map]at hc
 obtain⟨u,_,rfl⟩:=hc
 exact u.toNat_lt
theorem BS.nats_cat (a b:BS):(a.cat b).nats=a.nats++b.nats:=by simp[BS.nats,BS.toList_cat]
theorem BS.nats_sub {s:BS} {lo hi:Nat} (h:hi≤s.len):(s.sub lo hi).nats=(s.nats.drop lo).take (hi-lo):=by
 simp[BS.nats,BS.toList_sub h]
theorem nats_inj {l m:List UInt8} (h:l.map UInt8.toNat=m.map UInt8.toNat):l=m:=by
 have hm:=congrArg (List.map UInt8.ofNat) h
 simpa[List.map_map,Function.comp_def]using hm
theorem BS.beq_nats (a b:BS):a.beq b=decide (a.nats=b.nats):=by
 rw[BS.beq_eq]
 rw[Bool.eq_iff_iff]
 simp only[decide_eq_true_eq]
 exact⟨fun h=>by rw[BS.nats,h,←BS.nats],fun h=>nats_inj h⟩
def BS.canon (s:BS):Prop:=s.val<2 ^ (8*s.len)
theorem BS.canon_low {s:BS} (h:s.canon):s.low=s.val:=Nat.mod_eq_of_lt h
theorem BS.canon_ext {a b:BS} (ha:a.canon) (hb:b.canon) (h:a.nats=b.nats):a=b:=by
 have ht:=nats_inj h
 obtain⟨hl,hg⟩:=BS.get_eq ht
 have:=(BS.low_eq hl).2 hg
 rw[BS.canon_low ha,BS.canon_low hb]at this
 cases a;cases b
 simp only[]at hl this
 subst hl;subst this;rfl
theorem BS.sub_canon (s:BS) (lo hi:Nat):(s.sub lo hi).canon:=Nat.mod_lt _ (Nat.pow_pos (by decide))
def ofN:List Nat→BS
 | []=>⟨0,0⟩
 | c::l=>⟨Nat.succ (ofN l).len,Nat.add c (Nat.mul 256 (ofN l).val)⟩
theorem ofN_eq:∀{l:List Nat},(∀c∈l,c<256)→ofN l=BS.ofList (l.map UInt8.ofNat)
 | [],_=>rfl
 | c::l,h=>by
  have hc:(UInt8.ofNat c).toNat=c:=by simp only[UInt8.toNat_ofNat'];exact Nat.mod_eq_of_lt (h c (by simp))
  have ih:=ofN_eq (l:=l) (fun d hd=>h d (List.mem_cons_of_mem _ hd))
  show BS.mk (Nat.succ (ofN l).len) (Nat.add c (Nat.mul 256 (ofN l).val))=BS.mk (Nat.succ (BS.ofList (l.map UInt8.ofNat)).len) (Nat.add (UInt8.ofNat c).toNat (Nat.mul 256 (BS.ofList (l.map UInt8.ofNat)).val))
  rw[ih,hc]
theorem ofN_len:∀l:List Nat,(ofN l).len=l.length
 | []=>rfl
 | c::l=>by simp[ofN,ofN_len l]
theorem ofN_nats {l:List Nat} (h:∀c∈l,c<256):(ofN l).nats=l:=by
 rw[ofN_eq h]
 apply List.ext_getElem?
 intro i
 by_cases hi:i<l.length
 ·have hl:(BS.ofList (l.map UInt8.ofNat)).len=l.length:=by rw[BS.len_ofList,List.length_map]
  rw[BS.nats_get (by omega)]
  have hc:(l.map UInt8.ofNat)[i]? = some (UInt8.ofNat l[i]):=by simp[hi]
  rw[BS.get_ofList _ _ _ hc]
  simp only[UInt8.toNat_ofNat',List.getElem?_eq_getElem hi]
  rw[Nat.mod_eq_of_lt (h _ (List.getElem_mem hi))]
 ·rw[List.getElem?_eq_none (by rw[BS.length_nats,BS.len_ofList,List.length_map];omega),List.getElem?_eq_none (by omega)]
theorem ofN_canon:∀{l:List Nat},(∀c∈l,c<256)→(ofN l).canon
 | [],_=>by show 0<2 ^ (8*0);decide
 | c::l,h=>by
  have ih:(ofN l).val<2 ^ (8*(ofN l).len):=ofN_canon (fun d hd=>h d (by simp[hd]))
  have hc:=h c (by simp)
  show c+256*(ofN l).val<2 ^ (8*((ofN l).len+1))
  have e:2 ^ (8*((ofN l).len+1))=256*2 ^ (8*(ofN l).len):=by
   rw[Nat.mul_add,Nat.pow_add];simp[Nat.mul_comm]
  rw[e];omega
theorem sub_ofN {s:BS} {lo hi:Nat} (h:hi≤s.len):s.sub lo hi=ofN ((s.nats.drop lo).take (hi-lo)):=by
 have hb:∀c∈(s.nats.drop lo).take (hi-lo),c<256:=fun c hc=>s.nats_lt c (List.mem_of_mem_drop (List.mem_of_mem_take hc))
 exact BS.canon_ext (s.sub_canon lo hi) (ofN_canon hb) (by rw[BS.nats_sub h,ofN_nats hb])
def Rst (s:BS) (i:Nat) (r:List Nat):Prop:=i≤s.len∧s.nats.drop i=r
section
variable {s:BS} {i:Nat} {r:List Nat}
theorem Rst.start (s:BS):Rst s 0 s.nats:=⟨Nat.zero_le _,rfl⟩
theorem Rst.len (h:Rst s i r):i+r.length=s.len:=by
 have:=congrArg List.length h.2
 rw[List.length_drop,BS.length_nats]at this
 have:=h.1;omega
theorem Rst.bd (h:Rst s i r):∀c∈r,c<256:=fun c hc=>s.nats_lt c (List.mem_of_mem_drop (h.2 ▸ hc))
theorem Rst.drop (h:Rst s i r) {k:Nat} (hk:k≤r.length):Rst s (i+k) (r.drop k):=by
 refine⟨by have:=h.len;omega,?_⟩
 rw[←h.2,List.drop_drop]
theorem Rst.tail {c:Nat} (h:Rst s i (c::r)):Rst s (i+1) r:=h.drop (k:=1) (by simp)
theorem Rst.get? (h:Rst s i r) (k:Nat):r[k]? = if i+k<s.len then some (s.get (i+k))else none:=by
 rw[←h.2,List.getElem?_drop]
 by_cases hk:i+k<s.len
 ·rw[if_pos hk,BS.nats_get hk]
 ·rw[if_neg hk,List.getElem?_eq_none (by rw[BS.length_nats];omega)]
theorem Rst.getD_lt (h:Rst s i r) {k:Nat} (hk:i+k<s.len):r.getD k 0=s.get (i+k):=by
 rw[List.getD_eq_getElem?_getD,h.get?,if_pos hk];rfl
theorem Rst.sub (h:Rst s i r) {k:Nat} (hk:k≤r.length):s.sub i (i+k)=ofN (r.take k):=by
 have:=h.len
 rw[sub_ofN (by omega),h.2,Nat.add_sub_cancel_left]
theorem Rst.subAll (h:Rst s i r):s.sub i s.len=ofN r:=by
 have:=h.len
 rw[show s.len=i+r.length by omega,h.sub (Nat.le_refl _),List.take_length]
end
end
end Go.Og
namespace Go.Og
noncomputable section
section
variable {E:List (Nat × Blk)} {D:Den} {n0 n i:Nat} {o:AOper} {l:List AOper} {p:DP} {pl:List DP} {s:DS} {v:V}
theorem dsteps_p (hg:o.guard=none) (hc:o.op.cls = .p) (hv:aopP o.op (restr p.looks s.e)=some v) :
  dsteps E D n0 n i (o::l) (p::pl) s=dsteps E D n0 n (i+1) l pl { s with e:=putE s.e o.dst v }:=by
 have h:dstep E D n0 n i o p s=some { s with e:=putE s.e o.dst v }:=by unfold dstep;rw[hg];simp only[wantedA,hc,hv]
 show (match dstep E D n0 n i o p s with | none=>none | some s'=>dsteps E D n0 n (i+1) l pl s')=_
 rw[h]
theorem dsteps_l {h:List (Nat × Blk)} {ss:List (List (Nat × Blk))} (hg:o.guard=none) (hc:o.op.cls = .l) (hs:s.ss=h::ss) (hv:aopL E o.op (restr p.looks s.e) ⟨s.nx,hideB n0 n (visK p.anc s.am) h⟩=some v) :
  dsteps E D n0 n i (o::l) (p::pl) s=dsteps E D n0 n (i+1) l pl { s with e:=putE s.e o.dst v,ls:=(i,o.op,restr p.looks s.e,v)::s.ls }:=by
 have h:dstep E D n0 n i o p s=some { s with e:=putE s.e o.dst v,ls:=(i,o.op,restr p.looks s.e,v)::s.ls }:=by unfold dstep;rw[hg];simp only[wantedA,hc,hs,hv]
 show (match dstep E D n0 n i o p s with | none=>none | some s'=>dsteps E D n0 n (i+1) l pl s')=_
 rw[h]
theorem dsteps_a {b:Blk} (hg:o.guard=none) (hc:o.op.cls = .a) (hv:aopA o.op (restr p.looks s.e) (n0+i)=some (v,b)) :
  dsteps E D n0 n i (o::l) (p::pl) s=dsteps E D n0 n (i+1) l pl { s with e:=putE s.e o.dst v,ss:=s.ss.map ((n0+i,b)::·),am:=s.am ||| 2 ^ i }:=by
 have h:dstep E D n0 n i o p s=some { s with e:=putE s.e o.dst v,ss:=s.ss.map ((n0+i,b)::·),am:=s.am ||| 2 ^ i }:=by unfold dstep;rw[hg];simp only[wantedA,hc,hv]
 show (match dstep E D n0 n i o p s with | none=>none | some s'=>dsteps E D n0 n (i+1) l pl s')=_
 rw[h]
theorem dsteps_a' {b:Blk} {id am':Nat} (hg:o.guard=none) (hc:o.op.cls = .a) (hid:n0+i=id) (ham:s.am ||| 2 ^ i=am') (hv:aopA o.op (restr p.looks s.e) id=some (v,b)) :
  dsteps E D n0 n i (o::l) (p::pl) s=dsteps E D n0 n (i+1) l pl { s with e:=putE s.e o.dst v,ss:=s.ss.map ((id,b)::·),am:=am' }:=by
 subst hid;subst ham
 exact dsteps_a hg hc hv
theorem dsteps_k {h:List (Nat × Blk)} {ss:List (List (Nat × Blk))} {σ':H} (hg:o.guard=none) (hc:o.op.cls = .k) (hs:s.ss=h::ss) (hv:den1 E D o.op (restr p.looks s.e) ⟨s.nx,hideB n0 n (visK p.anc s.am) h⟩=some (v,σ')) :
  dsteps E D n0 n i (o::l) (p::pl) s=dsteps E D n0 n (i+1) l pl { s with e:=putE s.e o.dst v,nx:=σ'.next,ss:=(keepB n0 n (visK p.anc s.am) h++σ'.bl)::s.ss,ks:=i::s.ks }:=by
 have h:dstep E D n0 n i o p s=some { s with e:=putE s.e o.dst v,nx:=σ'.next,ss:=(keepB n0 n (visK p.anc s.am) h++σ'.bl)::s.ss,ks:=i::s.ks }:=by unfold dstep;rw[hg];simp only[wantedA,hc,hs,hv]
 show (match dstep E D n0 n i o p s with | none=>none | some s'=>dsteps E D n0 n (i+1) l pl s')=_
 rw[h]
theorem dsteps_nil:dsteps E D n0 n i [] pl s=some s:=by cases pl<;>rfl
theorem drawW_of {ops:List AOper} {e:Env} {σ:H} {h:List (Nat × Blk)} {ss:List (List (Nat × Blk))} (hd:dsteps E D σ.next ops.length 0 ops pl ⟨e,σ.next+ops.length,[σ.bl],[],0,[]⟩=some s)
  (hl:s.ls.all (fun(j,op,em,v)=>checkL E σ.next ops.length pl s.am j op em v s.ss s.ks [])=true) (hs:s.ss=h::ss) :
  drawW E D ops pl e σ=some (s.e,⟨s.nx,hideB σ.next ops.length (fun k=>s.am.testBit k) h⟩):=by
 unfold drawW
 rw[hd]
 show (if s.ls.all (fun(j,op,em,v)=>checkL E σ.next ops.length pl s.am j op em v s.ss s.ks [])=true then _ else none)=_
 rw[if_pos hl,hs]
end
section
variable {E:List (Nat × Blk)} {n0 n am j:Nat} {pl:List DP} {op:AOp} {em:Env} {v:V} {h:List (Nat × Blk)} {ss:List (List (Nat × Blk))} {k:Nat} {ks more:List Nat}
theorem check_skip (hl:legal pl j (k::ks) more=false):checkL E n0 n pl am j op em v (h::ss) (k::ks) more=checkL E n0 n pl am j op em v ss ks (k::more):=by
 show ((!legal pl j (k::ks) more || _)&&checkL E n0 n pl am j op em v ss ks (k::more))=_
 rw[hl];rfl
end
section
variable {n0 n:Nat} {p:Nat→Bool} {l:List (Nat × Blk)}
theorem hideB_id:∀{l:List (Nat × Blk)},(∀id,n0≤id→id<n0+n→look l id=none)→hideB n0 n p l=l
 | [],_=>rfl
 | (k,b)::l,h=>by
  have hk:¬(n0≤k∧k<n0+n):=fun⟨h1,h2⟩=>by
   have:=h k h1 h2
   simp[look]at this
  have hc:(Nat.ble n0 k&&Nat.blt k (n0+n) && !p (k-n0))=false:=by
   cases hb:(Nat.ble n0 k&&Nat.blt k (n0+n) && !p (k-n0))with
   | false=>rfl
   | true=>simp only[Bool.and_eq_true,Nat.ble_eq,Nat.blt_eq]at hb;exact(hk hb.1).elim
  unfold hideB
  rw[hc]
  simp only[Bool.false_eq_true,if_false]
  rw[hideB_id]
  intro id h1 h2
  have:=h id h1 h2
  simp only[look]at this
  split at this
  ·cases this
  ·exact this
theorem keepB_id:∀{l:List (Nat × Blk)},(∀id,n0≤id→id<n0+n→look l id=none)→keepB n0 n p l=[]
 | [],_=>rfl
 | (k,b)::l,h=>by
  have hk:¬(n0≤k∧k<n0+n):=fun⟨h1,h2⟩=>by
   have:=h k h1 h2
   simp[look]at this
  have hc:(Nat.ble n0 k&&Nat.blt k (n0+n) && !p (k-n0))=false:=by
   cases hb:(Nat.ble n0 k&&Nat.blt k (n0+n) && !p (k-n0))with
   | false=>rfl
   | true=>simp only[Bool.and_eq_true,Nat.ble_eq,Nat.blt_eq]at hb;exact(hk hb.1).elim
  unfold keepB
  rw[hc]
  simp only[Bool.false_eq_true,if_false]
  rw[keepB_id]
  intro id h1 h2
  have:=h id h1 h2
  simp only[look]at this
  split at this
  ·cases this
  ·exact this
theorem hide_keep:∀{l:List (Nat × Blk)},(∀i,i<n→p i=false→look l (n0+i)=none)→hideB n0 n p l=l∧keepB n0 n p l=[]
 | [],_=>⟨rfl,rfl⟩
 | (k,b)::l,h=>by
  have hc:(Nat.ble n0 k&&Nat.blt k (n0+n) && !p (k-n0))=false:=by
   cases hb:(Nat.ble n0 k&&Nat.blt k (n0+n) && !p (k-n0))with
   | false=>rfl
   | true=>
    exfalso
    simp only[Bool.and_eq_true,Nat.ble_eq,Nat.blt_eq,Bool.not_eq_true']at hb
    have:=h (k-n0) (by omega) hb.2
    rw[show n0+(k-n0)=k by omega]at this
    simp[look]at this
  have ih:=hide_keep (l:=l) (fun i hi hp=>by
   have:=h i hi hp
   simp only[look]at this
   split at this
   ·cases this
   ·exact this)
  unfold hideB keepB
  rw[hc]
  simp only[Bool.false_eq_true,if_false]
  exact⟨by rw[ih.1],ih.2⟩
theorem Tidy.gap {σ:H} (h:Tidy σ) (n:Nat):∀id,σ.next≤id→id<σ.next+n→look σ.bl id=none:=fun id h1 _=>by
 have:=h id h1;rwa [lookF_eq]at this
theorem Tidy.wide {σ:H} (h:Tidy σ) (n:Nat):Tidy ⟨σ.next+n,σ.bl⟩:=fun b hb=>h b (by have:σ.next+n≤b:=hb;omega)
theorem Fr.wide {S:Nat→Prop} {σ σ':H} {n:Nat} (f:Fr S ⟨σ.next+n,σ.bl⟩ σ'):Fr S σ σ':=
 ⟨f.tidy,by have:σ.next+n≤σ'.next:=f.le;omega,fun b hb hn=>f.same b (show b<σ.next+n by omega) hn⟩
theorem Fr.gap {S:Nat→Prop} {σ σ':H} {n:Nat} (f:Fr S ⟨σ.next+n,σ.bl⟩ σ') (ht:Tidy σ) (hS:∀b,S b→b<σ.next):∀id,σ.next≤id→id<σ.next+n→look σ'.bl id=none:=fun id h1 h2=>by
 have:=f.same id h2 (fun hs=>by have:=hS id hs;omega)
 rw[←lookF_eq,this]
 exact ht id h1
theorem look_hide_old {id:Nat} (h:id<n0):look (hideB n0 n p l) id=look l id:=by
 rw[look_hideB,if_neg (by omega)]
theorem look_hide_kept {i:Nat} (h:p i=true):look (hideB n0 n p l) (n0+i)=look l (n0+i):=by
 rw[look_hideB,if_neg]
 rintro⟨_,_,h2⟩
 rw[Nat.add_sub_cancel_left,h]at h2
 cases h2
theorem look_hide_new {id:Nat} (h:n0+n≤id):look (hideB n0 n p l) id=look l id:=by
 rw[look_hideB,if_neg (by omega)]
theorem look_cons_ne {α:Type} {k id:Nat} {b:α} {l:List (Nat × α)} (h:k≠id):look ((k,b)::l) id=look l id:=by simp[look,h]
theorem look_cons_eq {α:Type} {k:Nat} {b:α} {l:List (Nat × α)}:look ((k,b)::l) k=some b:=by simp[look]
theorem load_of {E:List (Nat × Blk)} {x:AO} {e:Env} {b off nx:Nat} {h:List (Nat × Blk)} {c:List V} {v:V} (hx:opv e x = .ptr b off) (hl:look h b=some (.cells c)) (hv:c[off]? = some v) :
  aopL E (.load none x) e ⟨nx,h⟩=some v:=by
 unfold aopL
 simp only[hx,rd,hl,hv]
end
section
variable {E:List (Nat × Blk)} {D:Den} {n0 n i:Nat} {d:Option Nat} {o:AOp} {l:List AOper} {anc:Nat} {lk:List Nat} {pl:List DP} {e:Env} {nx am:Nat} {ss:List (List (Nat × Blk))} {h:List (Nat × Blk)} {ks:List Nat} {ls:List (Nat × AOp × Env × V)}
theorem dp (v:V) (hc:o.cls = .p) (hv:aopP o (restr lk e)=some v):dsteps E D n0 n i (⟨d,o,none⟩::l) (⟨anc,lk⟩::pl) ⟨e,nx,ss,ks,am,ls⟩=dsteps E D n0 n (i+1) l pl ⟨putE e d v,nx,ss,ks,am,ls⟩:=
 dsteps_p rfl hc hv
theorem dl (v:V) (hc:o.cls = .l) (hv:aopL E o (restr lk e) ⟨nx,hideB n0 n (visK anc am) h⟩=some v):dsteps E D n0 n i (⟨d,o,none⟩::l) (⟨anc,lk⟩::pl) ⟨e,nx,h::ss,ks,am,ls⟩=dsteps E D n0 n (i+1) l pl ⟨putE e d v,nx,h::ss,ks,am,(i,o,restr lk e,v)::ls⟩:=
 dsteps_l rfl hc rfl hv
theorem da (v:V) (b:Blk) (id am':Nat) (hc:o.cls = .a) (hid:n0+i=id) (ham:am ||| 2 ^ i=am') (hv:aopA o (restr lk e) id=some (v,b)):dsteps E D n0 n i (⟨d,o,none⟩::l) (⟨anc,lk⟩::pl) ⟨e,nx,ss,ks,am,ls⟩=dsteps E D n0 n (i+1) l pl ⟨putE e d v,nx,ss.map ((id,b)::·),ks,am',ls⟩:=
 dsteps_a' rfl hc hid ham hv
theorem dk (v:V) (nx':Nat) (bl':List (Nat × Blk)) (hc:o.cls = .k) (hk:hideB n0 n (visK anc am) h=h∧keepB n0 n (visK anc am) h=[]) (hv:den1 E D o (restr lk e) ⟨nx,h⟩=some (v,⟨nx',bl'⟩)):dsteps E D n0 n i (⟨d,o,none⟩::l) (⟨anc,lk⟩::pl) ⟨e,nx,h::ss,ks,am,ls⟩=dsteps E D n0 n (i+1) l pl ⟨putE e d v,nx',bl'::h::ss,i::ks,am,ls⟩:=by
 have:=dsteps_k (E:=E) (D:=D) (n0:=n0) (n:=n) (i:=i) (o:=⟨d,o,none⟩) (l:=l) (p:=⟨anc,lk⟩) (pl:=pl) (s:=⟨e,nx,h::ss,ks,am,ls⟩) (v:=v) (σ':=⟨nx',bl'⟩) rfl hc rfl (by show den1 E D o (restr lk e) ⟨nx,hideB n0 n (visK anc am) h⟩=_;rw[hk.1];exact hv)
 rw[this]
 show dsteps E D n0 n (i+1) l pl ⟨putE e d v,nx',(keepB n0 n (visK anc am) h++bl')::h::ss,i::ks,am,ls⟩=_
 rw[hk.2];rfl
end
end
end Go.Og
namespace Go.Og
noncomputable section
mutual
def V.rn (ρ:Nat→Nat):V→V
 | .ptr b o => .ptr (ρ b) o
 | .sl b o n c => .sl (ρ b) o n c
 | .sle b o k e => .sle (ρ b) o k e
 | .mp b => .mp (ρ b)
 | .fn f a c => .fn f (rns ρ a) (rns ρ c)
 | .ifc t v => .ifc t (V.rn ρ v)
 | .agg l => .agg (rns ρ l)
 | .tup l => .tup (rns ρ l)
 | v=>v
def rns (ρ:Nat→Nat):List V→List V
 | []=>[]
 | v::l=>V.rn ρ v::rns ρ l
end
mutual
def V.inn (p:Nat→Bool):V→Bool
 | .dead=>false
 | .ptr b _=>p b
 | .sl b _ _ _=>p b
 | .sle b _ _ _=>p b
 | .mp b=>p b
 | .fn _ a c=>inns p a&&inns p c
 | .ifc _ v=>V.inn p v
 | .agg l=>inns p l
 | .tup l=>inns p l
 | _=>true
def inns (p:Nat→Bool):List V→Bool
 | []=>true
 | v::l=>V.inn p v&&inns p l
end
section
variable {R S:Ren} {p:Nat→Bool} {ρ:Nat→Nat}
mutual
theorem conc_rn (h:∀b,p b=true→S (ρ b)=R b):∀v:V,V.inn p v=true→conc S (V.rn ρ v)=conc R v
 | .dead,hc=>by simp[V.inn]at hc
 | .ptr b o,hc=>by
  simp only[V.inn]at hc
  simp only[V.rn,conc,h b hc]
 | .sl b o n (.ex c),hc=>by
  simp only[V.inn]at hc
  simp only[V.rn,conc,h b hc]
 | .sl b o n (.op c),hc=>by
  simp only[V.inn]at hc
  simp only[V.rn,conc,h b hc]
 | .sle b o k e,hc=>by
  simp only[V.inn]at hc
  simp only[V.rn,conc,h b hc]
 | .mp b,hc=>by
  simp only[V.inn]at hc
  simp only[V.rn,conc,h b hc]
 | .bool _,_=>rfl
 | .int _ _,_=>rfl
 | .str _,_=>rfl
 | .nilp,_=>rfl
 | .nils,_=>rfl
 | .nilm,_=>rfl
 | .nilf,_=>rfl
 | .nili,_=>rfl
 | .fn f a c,hc=>by
  simp only[V.inn,Bool.and_eq_true]at hc
  simp only[V.rn,conc,concs_rn h a hc.1,concs_rn h c hc.2]
 | .ifc t v,hc=>by
  simp only[V.inn]at hc
  simp only[V.rn,conc,conc_rn h v hc]
 | .agg l,hc=>by
  simp only[V.inn]at hc
  simp only[V.rn,conc,concs_rn h l hc]
 | .tup l,hc=>by
  simp only[V.inn]at hc
  simp only[V.rn,conc,concs_rn h l hc]
theorem concs_rn (h:∀b,p b=true→S (ρ b)=R b):∀l:List V,inns p l=true→concs S (rns ρ l)=concs R l
 | [],_=>rfl
 | v::l,hc=>by
  simp only[inns,Bool.and_eq_true]at hc
  simp only[rns,concs,conc_rn h v hc.1,concs_rn h l hc.2]
end
theorem rns_get:∀(l:List V) (k:Nat),(rns ρ l)[k]? = (l[k]?).map (V.rn ρ)
 | [],k=>by simp[rns]
 | v::l,0=>by simp[rns]
 | v::l,k+1=>by simpa[rns]using rns_get l k
theorem rns_length:∀(l:List V),(rns ρ l).length=l.length
 | []=>rfl
 | v::l=>by simp[rns,rns_length l]
theorem inns_get:∀{l:List V} {k:Nat} {v:V},inns p l=true→l[k]? = some v→V.inn p v=true
 | [],k,v,_,h=>by simp at h
 | u::l,0,v,hc,h=>by
  simp only[inns,Bool.and_eq_true]at hc
  simp at h;subst h;exact hc.1
 | u::l,k+1,v,hc,h=>by
  simp only[inns,Bool.and_eq_true]at hc
  exact inns_get hc.2 (by simpa using h)
def rnp (ρ:Nat→Nat):List (V × V)→List (V × V)
 | []=>[]
 | q::l=>(V.rn ρ q.1,V.rn ρ q.2)::rnp ρ l
def innp (p:Nat→Bool):List (V × V)→Bool
 | []=>true
 | q::l=>V.inn p q.1&&V.inn p q.2&&innp p l
def Blk.rn (ρ:Nat→Nat):Blk→Blk
 | .cells l => .cells (rns ρ l)
 | .map l => .map (rnp ρ l)
 | .siter s q => .siter s q
 | .unit t => .unit t
def Blk.inn (p:Nat→Bool):Blk→Bool
 | .cells l=>inns p l
 | .map l=>innp p l
 | .siter _ _=>true
 | .unit _=>true
theorem MapHolds.rn (h:∀b,p b=true→S (ρ b)=R b):∀{l:List (V × V)} {es:List MapEntry},innp p l=true→(MapHolds S (rnp ρ l) es↔MapHolds R l es)
 | [],[],_=>Iff.rfl
 | (a,b)::l,e::es,hc=>by
  simp only[innp,Bool.and_eq_true]at hc
  simp only[rnp,MapHolds,conc_rn h a hc.1.1,conc_rn h b hc.1.2,MapHolds.rn h hc.2]
 | [],_::_,_=>Iff.rfl
 | _::_,[],_=>Iff.rfl
theorem Holds.rn (h:∀b,p b=true→S (ρ b)=R b) {s:Nat} {l:List V} {arr:Array Value} (hc:inns p l=true):Holds S s (rns ρ l) arr↔Holds R s l arr:=by
 constructor
 ·intro hh k v hk
  obtain⟨a,ha,h1,h2⟩:=hh k (V.rn ρ v) (by rw[rns_get,hk];rfl)
  exact⟨a,(conc_rn h v (inns_get hc hk)).symm.trans ha,h1,h2⟩
 ·intro hh k v hk
  rw[rns_get,Option.map_eq_some_iff]at hk
  obtain⟨u,hu,rfl⟩:=hk
  obtain⟨a,ha,h1,h2⟩:=hh k u hu
  exact⟨a,(conc_rn h u (inns_get hc hu)).trans ha,h1,h2⟩
theorem OwnOk.rn (h:∀b,p b=true→S (ρ b)=R b) {i:BI} {b:Blk} {w:World} (hc:b.inn p=true):OwnOk S i (b.rn ρ) w↔OwnOk R i b w:=by
 cases b with
 | cells l=>
  have e:=@Holds.rn R S p ρ h i.shift l
  constructor
  ·rintro⟨arr,el,lo,hi,h1,h2,h3,h4,h5⟩
   exact⟨arr,el,lo,hi,h1,(e hc).1 h2,h3,by rw[rns_length]at h4;exact h4,h5⟩
  ·rintro⟨arr,el,lo,hi,h1,h2,h3,h4,h5⟩
   exact⟨arr,el,lo,hi,h1,(e hc).2 h2,h3,by rw[rns_length];exact h4,h5⟩
 | map l=>
  constructor
  ·rintro⟨es,clock,h1,h2⟩
   exact⟨es,clock,h1,(MapHolds.rn h hc).1 h2⟩
  ·rintro⟨es,clock,h1,h2⟩
   exact⟨es,clock,h1,(MapHolds.rn h hc).2 h2⟩
 | siter s q=>exact Iff.rfl
 | unit t=>exact Iff.rfl
end
structure Few where
 n0:Nat
 args:List V
 bl0:List (Nat × Blk)
 v:V
 n1:Nat
 bl1:List (Nat × Blk)
def domB (l:List (Nat × Blk)) (b:Nat):Bool:=match lookF l b with
 | some _=>true
 | none=>false
def allIds (l:List (Nat × Blk)) (q:Nat→Bool):Bool:=l.all fun x=>q x.1
def allBl (l:List (Nat × Blk)) (q:Nat→Bool):Bool:=l.all fun x=>x.2.inn q
def Few.right (ng:Nat) (F:List V→H→Ans) (e:Few):Bool:=match F e.args ⟨e.n0,e.bl0⟩with
 | some (v,σ)=>V.beq v e.v&&(inBl e.bl1 σ.bl&&(Nat.beq σ.next e.n1&&(Nat.ble e.n0 e.n1&&(Nat.ble ng e.n0&&(allIds e.bl0 (fun b=>Nat.ble ng b&&Nat.blt b e.n0)&&(allBl e.bl0 (domB e.bl0)&&(inns (domB e.bl0) e.args &&
   (allIds e.bl1 (fun b=>Nat.ble e.n0 b || domB e.bl0 b)&&(allBl e.bl1 (domB e.bl1)&&V.inn (domB e.bl1) e.v)))))))))
 | none=>false
def Few.to (e:Few) (ρ:Nat→Nat) (σ:H) (id:Nat):Nat:=if id<e.n0 then ρ id else id-e.n0+σ.next
def rnBl (ρ:Nat→Nat) (l:List (Nat × Blk)):List (Nat × Blk):=l.map fun x=>(ρ x.1,x.2.rn ρ)
def Few.old (e:Few) (ρ:Nat→Nat) (id:Nat):Bool:=e.bl0.any fun x=>Nat.beq (ρ x.1) id
def Few.ans (e:Few) (ρ:Nat→Nat) (σ:H):V × H:=(e.v.rn (e.to ρ σ),⟨σ.next+(e.n1-e.n0),rnBl (e.to ρ σ) e.bl1++σ.bl.filter fun x=>!e.old ρ x.1⟩)
structure Few.Fits (e:Few) (ρ:Nat→Nat) (args:List V) (σ:H):Prop where
 args:args=rns ρ e.args
 bl:∀id b,look e.bl0 id=some b→look σ.bl (ρ id)=some (b.rn ρ)
 inj:∀id id',domB e.bl0 id=true→domB e.bl0 id'=true→ρ id=ρ id'→id=id'
theorem domB_iff {l:List (Nat × Blk)} {b:Nat}:domB l b=true↔∃c,look l b=some c:=by
 unfold domB;rw[lookF_eq]
 cases look l b<;>simp
theorem allIds_look {l:List (Nat × Blk)} {q:Nat→Bool} (h:allIds l q=true) {id:Nat} {b:Blk} (hb:look l id=some b):q id=true:=by
 have:=List.all_eq_true.1 h (id,b) (look_mem hb)
 exact this
theorem allBl_look {l:List (Nat × Blk)} {q:Nat→Bool} (h:allBl l q=true) {id:Nat} {b:Blk} (hb:look l id=some b):b.inn q=true:=by
 have:=List.all_eq_true.1 h (id,b) (look_mem hb)
 exact this
theorem look_rnBl {ρ:Nat→Nat}:∀{l:List (Nat × Blk)} {id:Nat} {b:Blk},look (rnBl ρ l) id=some b→∃k c,(k,c)∈l∧id=ρ k∧b=c.rn ρ
 | [],id,b,h=>by cases h
 | (k,c)::l,id,b,h=>by
  simp only[rnBl,List.map_cons,look]at h
  split at h
  ·rename_i he
   have he:=Nat.eq_of_beq_eq_true he
   simp only[Option.some.injEq]at h
   exact⟨k,c,List.mem_cons_self,he.symm,h.symm⟩
  ·obtain⟨k',c',h1,h2,h3⟩:=look_rnBl (l:=l) h
   exact⟨k',c',List.mem_cons_of_mem _ h1,h2,h3⟩
theorem look_filter {q:Nat→Bool}:∀(l:List (Nat × Blk)) (id:Nat),look (l.filter fun x=>q x.1) id=if q id=true then look l id else none
 | [],id=>by simp[look]
 | (k,c)::l,id=>by
  by_cases hq:q k=true
  ·rw[List.filter_cons_of_pos (by exact hq)]
   simp only[look,look_filter l id]
   by_cases hk:Nat.beq k id=true
   ·have:=Nat.eq_of_beq_eq_true hk;subst this
    simp[hq]
   ·simp[hk]
  ·rw[List.filter_cons_of_neg (by exact hq),look_filter l id]
   simp only[look]
   by_cases hk:Nat.beq k id=true
   ·have:=Nat.eq_of_beq_eq_true hk;subst this
    simp[hq]
   ·simp[hk]
theorem old_iff {e:Few} {ρ:Nat→Nat} {id:Nat}:e.old ρ id=true↔∃k c,(k,c)∈e.bl0∧ρ k=id:=by
 unfold Few.old
 rw[List.any_eq_true]
 constructor
 ·rintro⟨⟨k,c⟩,h1,h2⟩;exact⟨k,c,h1,Nat.eq_of_beq_eq_true h2⟩
 ·rintro⟨k,c,h1,h2⟩;exact⟨(k,c),h1,by subst h2;exact Nat.beq_refl _⟩
theorem dom_of_mem:∀{l:List (Nat × Blk)} {k:Nat} {c:Blk},(k,c)∈l→∃d,look l k=some d
 | (j,d)::l,k,c,h=>by
  simp only[look]
  by_cases hk:Nat.beq j k=true
  ·exact⟨d,by simp[hk]⟩
  ·simp only[hk]
   rcases List.mem_cons.1 h with h|h
   ·cases h;exact(hk (Nat.beq_refl _)).elim
   ·simpa using dom_of_mem h
theorem loc_ok {P:Program} {G:Nat→Bool} {f:FuncId} {F:List V→H→Ans} (hS:SoundFn P [] G f F) {ng:Nat} (hG:∀g,G g=true→g<ng) {e:Few} (h:e.right ng F=true)
  {C:Cx} (hGC:C.G=G) {R:Ren} {σ:H} {w:World} {args:List V} {xs:List Value} {ρ:Nat→Nat} (hm:e.Fits ρ args σ) (hrel:Rel C R σ w) (hxs:concs R args=some xs) :
  callOk P f=true∧Calls P f xs.toArray w fun en w'=>∃R' x,Ext σ.next R R'∧σ.next≤(e.ans ρ σ).2.next∧Rel C R' (e.ans ρ σ).2 w'∧conc R' (e.ans ρ σ).1=some x∧en = .returned x:=by
 unfold Few.right at h
 cases hr:F e.args ⟨e.n0,e.bl0⟩with
 | none=>rw[hr]at h;cases h
 | some q=>
  obtain⟨v,σ1⟩:=q
  rw[hr]at h
  simp only[Bool.and_eq_true,Nat.ble_eq]at h
  obtain⟨hv,hin,hnx,hn01,hng,hi0,hb0,ha0,hi1,hb1,hv1⟩:=h
  have hv:=beq_ok _ _ hv
  subst hv
  have hin:=inBl_ok hin
  have hnx:=Nat.eq_of_beq_eq_true hnx
  let R0:Ren:=fun id=>match domB e.bl0 id with
   | true=>R (ρ id)
   | false=>if id<ng then some ⟨id,0,0⟩else none
  have hR0:∀b,domB e.bl0 b=true→R (ρ b)=R0 b:=fun b hb=>by
   show R (ρ b)=(match domB e.bl0 b with | true=>R (ρ b) | false=>_)
   rw[hb]
  have hlt0:∀{id b},look e.bl0 id=some b→ng≤id∧id<e.n0:=fun hb=>by
   have:=allIds_look hi0 hb
   simpa[Nat.blt_eq]using this
  have hxs0:concs R0 e.args=some xs:=by
   rw[hm.args,concs_rn hR0 _ ha0]at hxs;exact hxs
  have own0:∀id b,look e.bl0 id=some b→∃i,R (ρ id)=some i∧R0 id=some i∧C.O i.blk∧OwnOk R0 i b w:=fun id b hb=>by
   obtain⟨i,hi,hO,hok⟩:=hrel.own _ _ (hm.bl id b hb)
   exact⟨i,hi,(hR0 id (domB_iff.2 ⟨_,hb⟩)).symm.trans hi,hO,(OwnOk.rn hR0 (allBl_look hb0 hb)).1 hok⟩
  let O0:Nat→Prop:=fun blk=>(∃id b i,look e.bl0 id=some b∧R (ρ id)=some i∧i.blk=blk)∨w.heap.size≤blk
  have hrel0:Rel ⟨O0,w,[],G⟩ R0 ⟨e.n0,e.bl0⟩ w:=by
   refine⟨?_,?_,?_,fun id b hb=>by simp[look]at hb,?_,fun _ _=>rfl,Nat.le_refl _,fun blk hb => .inr hb,rfl,rfl,rfl⟩
   ·intro id hid
    have hid':e.n0≤id:=hid
    have hd:domB e.bl0 id=false:=by
     cases hc:domB e.bl0 id with
     | false=>rfl
     | true=>
      obtain⟨b,hb⟩:=domB_iff.1 hc
      have:=(hlt0 hb).2;omega
    show (match domB e.bl0 id with | true=>R (ρ id) | false=>_)=none
    rw[hd]
    exact if_neg (by omega)
   ·intro id b hb
    obtain⟨i,hi,hi0',_,hok⟩:=own0 id b hb
    exact⟨i,hi0',.inl ⟨id,b,i,hb,hi,rfl⟩,hok⟩
   ·intro id id' b b' i i' hb hb' hi hi' hbl
    obtain⟨j,hj,hj0,_,_⟩:=own0 id b hb
    obtain⟨j',hj',hj0',_,_⟩:=own0 id' b' hb'
    rw[hj0]at hi;cases hi
    rw[hj0']at hi';cases hi'
    exact hm.inj id id' (domB_iff.2 ⟨_,hb⟩) (domB_iff.2 ⟨_,hb'⟩) (hrel.inj _ _ _ _ _ _ (hm.bl _ _ hb) (hm.bl _ _ hb') hj hj' hbl)
   ·intro g hg
    have hgn:=hG g hg
    refine⟨⟨g,0,0⟩,?_,rfl,rfl⟩
    have hd:domB e.bl0 g=false:=by
     cases hc:domB e.bl0 g with
     | false=>rfl
     | true=>
      obtain⟨b,hb⟩:=domB_iff.1 hc
      have:=(hlt0 hb).1;omega
    show (match domB e.bl0 g with | true=>R (ρ g) | false=>_)=_
    rw[hd]
    exact if_pos hgn
  obtain⟨hok,hc⟩:=hS ⟨O0,w,[],G⟩ rfl rfl R0 ⟨e.n0,e.bl0⟩ w e.args xs _ σ1 hr hrel0 hxs0
  refine⟨hok,hc.mono ?_⟩
  rintro en w' ⟨R1,x,hE1,_,h3,h4,rfl⟩
  have hE1:∀id,id<e.n0→R1 id=R0 id:=hE1
  have keep:∀blk,¬O0 blk→w'.heap[blk]? = w.heap[blk]? := fun blk hb=>h3.fr blk hb
  let R':Ren:=fun id=>if id<σ.next then R id else R1 (id-σ.next+e.n0)
  have hext:Ext σ.next R R':=fun id hid=>by show (if id<σ.next then _ else _)=_;rw[if_pos hid]
  have hle:Le R R':=hext.le hrel.fresh
  have hto:∀b,domB e.bl1 b=true→R' (e.to ρ σ b)=R1 b:=fun b hb=>by
   obtain⟨c,hc1⟩:=domB_iff.1 hb
   have hid:=allIds_look hi1 hc1
   unfold Few.to
   by_cases hl:b<e.n0
   ·rw[if_pos hl]
    have hd:domB e.bl0 b=true:=by
     simp only[Bool.or_eq_true,Nat.ble_eq]at hid
     rcases hid with h|h
     ·omega
     ·exact h
    obtain⟨c0,hc0⟩:=domB_iff.1 hd
    have hlt:=hrel.next_of_own (hm.bl b c0 hc0)
    rw[hext _ hlt,hE1 b hl,hR0 b hd]
   ·rw[if_neg hl]
    show (if b-e.n0+σ.next<σ.next then _ else R1 (b-e.n0+σ.next-σ.next+e.n0))=_
    rw[if_neg (by omega)]
    congr 1;omega
  have hnew:∀{id b},look (rnBl (e.to ρ σ) e.bl1) id=some b→∃k c i,id=e.to ρ σ k∧look σ1.bl k=some c∧R1 k=some i∧R' id=some i∧O0 i.blk∧C.O i.blk∧OwnOk R' i b w':=fun {id b} hb=>by
   obtain⟨k,c,hk,rfl,rfl⟩:=look_rnBl hb
   have hl1:=hin (k,c) hk
   obtain⟨d,hd⟩:=dom_of_mem hk
   have hdb:domB e.bl1 k=true:=domB_iff.2 ⟨_,hd⟩
   obtain⟨i,hi,hO,hok'⟩:=h3.own k c hl1
   have hcin:c.inn (domB e.bl1)=true:=List.all_eq_true.1 hb1 (k,c) hk
   refine⟨k,c,i,rfl,hl1,hi,(hto k hdb).trans hi,hO,?_,(OwnOk.rn hto hcin).2 hok'⟩
   rcases hO with ⟨id',b',i',hb',hi',heq⟩|hO
   ·obtain⟨j,hj,_,hOj,_⟩:=own0 id' b' hb'
    rw[hj]at hi';cases hi'
    rw[←heq];exact hOj
   ·exact hrel.new _ (Nat.le_trans hrel.size hO)
  have hrest:∀{id b},look (σ.bl.filter fun x=>!e.old ρ x.1) id=some b→id<σ.next∧look σ.bl id=some b∧e.old ρ id=false:=fun {id b} hb=>by
   rw[look_filter (q:=fun k=>!e.old ρ k)]at hb
   split at hb
   ·rename_i hq
    exact⟨hrel.next_of_own hb,hb,by simpa using hq⟩
   ·cases hb
  have hkeep:∀{id b i},look σ.bl id=some b→e.old ρ id=false→R id=some i→¬O0 i.blk:=fun {id b i} hb ho hi hO=>by
   obtain⟨j,hj,_,hok'⟩:=hrel.own id b hb
   rw[hi]at hj;cases hj
   rcases hO with ⟨id',b',i',hb',hi',heq⟩|hO
   ·have:=hrel.inj _ _ _ _ _ _ hb (hm.bl id' b' hb') hi hi' heq.symm
    have:e.old ρ id=true:=old_iff.2 ⟨id',b',look_mem hb',this.symm⟩
    rw[this]at ho;cases ho
   ·have:=hok'.lt;omega
  have hsplit:∀{id b},look (rnBl (e.to ρ σ) e.bl1++σ.bl.filter fun x=>!e.old ρ x.1) id=some b→look (rnBl (e.to ρ σ) e.bl1) id=some b∨(id<σ.next∧look σ.bl id=some b∧e.old ρ id=false):=fun {id b} hb=>by
   rw[look_app]at hb
   cases hs:look (rnBl (e.to ρ σ) e.bl1) id with
   | some c=>rw[hs]at hb;exact .inl hb
   | none=>rw[hs]at hb;exact .inr (hrest hb)
  refine⟨R',x,hext,Nat.le_add_right _ _,⟨?_,?_,?_,?_,?_,?_,Nat.le_trans hrel.size h3.size,hrel.new,h3.os.trans hrel.os,h3.tape.trans hrel.tape,h3.output.trans hrel.output⟩,(conc_rn hto _ hv1).trans h4,rfl⟩
  ·intro id hid
   have hid':σ.next+(e.n1-e.n0)≤id:=hid
   show (if id<σ.next then _ else R1 (id-σ.next+e.n0))=none
   rw[if_neg (by omega)]
   exact h3.fresh _ (by rw[hnx];omega)
  ·intro id b hb
   rcases hsplit hb with hb|⟨hl,hb,ho⟩
   ·obtain⟨k,c,i,_,_,_,hi,_,hO,hok'⟩:=hnew hb
    exact⟨i,hi,hO,hok'⟩
   ·obtain⟨i,hi,hO,hok'⟩:=hrel.own id b hb
    exact⟨i,hle _ _ hi,hO,hok'.mono hle (keep _ (hkeep hb ho hi))⟩
  ·intro id id' b b' i i' hb hb' hi hi' hbl
   have olds:∀{id b i},look σ.bl id=some b→R' id=some i→R id=some i:=fun {id b i} hb hi=>by
    obtain⟨j,hj,_,_⟩:=hrel.own id b hb
    have:=hle _ _ hj
    rw[hi]at this;cases this
    exact hj
   rcases hsplit hb with hb|⟨hl,hb,ho⟩<;>rcases hsplit hb' with hb'|⟨hl',hb',ho'⟩
   ·obtain⟨k,c,j,h1,h5,h6,h7,_⟩:=hnew hb
    obtain⟨k',c',j',h1',h5',h6',h7',_⟩:=hnew hb'
    rw[h7]at hi;cases hi
    rw[h7']at hi';cases hi'
    have:=h3.inj k k' c c' _ _ h5 h5' h6 h6' hbl
    rw[h1,h1',this]
   ·obtain⟨k,c,j,h1,h5,h6,h7,h8,_⟩:=hnew hb
    rw[h7]at hi;cases hi
    have hR:=olds hb' hi'
    exact(hkeep hb' ho' hR (hbl ▸ h8)).elim
   ·obtain⟨k,c,j,h1,h5,h6,h7,h8,_⟩:=hnew hb'
    rw[h7]at hi';cases hi'
    have hR:=olds hb hi
    exact(hkeep hb ho hR (hbl ▸ h8)).elim
   ·exact hrel.inj id id' b b' i i' hb hb' (olds hb hi) (olds hb' hi') hbl
  ·intro id b hb
   obtain⟨i,hi,hO,hok'⟩:=hrel.ext id b hb
   refine⟨i,hle _ _ hi,hO,hok'.mono hle (keep _ ?_)⟩
   rintro(⟨id',b',i',hb',hi',heq⟩|hn)
   ·obtain⟨j,hj,_,hOj,_⟩:=own0 id' b' hb'
    rw[hj]at hi';cases hi'
    exact hO (heq ▸ hOj)
   ·have:=hok'.lt;omega
  ·intro g hg
   obtain⟨i,hi,hb⟩:=hrel.glob g hg
   exact⟨i,hle _ _ hi,hb⟩
  ·intro blk hn
   rw[←hrel.fr blk hn]
   refine keep blk ?_
   rintro(⟨id',b',i',hb',hi',heq⟩|hn')
   ·obtain⟨j,hj,_,hOj,_⟩:=own0 id' b' hb'
    rw[hj]at hi';cases hi'
    exact hn (heq ▸ hOj)
   ·exact hn (hrel.new _ (Nat.le_trans hrel.size hn'))
def locF (l:List Few) (F:List V→H→Ans):List V→H→Ans:=fun args σ=>by
 classical
 exact if h:∃q:Few × (Nat→Nat),q.1∈l∧q.1.Fits q.2 args σ then some ((Classical.choose h).1.ans (Classical.choose h).2 σ)else F args σ
theorem locF_hit {l:List Few} {F:List V→H→Ans} {args:List V} {σ:H} {e:Few} {ρ:Nat→Nat} (he:e∈l) (hm:e.Fits ρ args σ) :
  ∃e' ρ',e'∈l∧e'.Fits ρ' args σ∧locF l F args σ=some (e'.ans ρ' σ):=by
 have h:∃q:Few × (Nat→Nat),q.1∈l∧q.1.Fits q.2 args σ:=⟨(e,ρ),he,hm⟩
 refine⟨(Classical.choose h).1,(Classical.choose h).2,(Classical.choose_spec h).1,(Classical.choose_spec h).2,?_⟩
 unfold locF
 exact dif_pos h
theorem locF_ok {P:Program} {G:Nat→Bool} {f:FuncId} {F F':List V→H→Ans} {E:List (Nat × Blk)} (hF:SoundFn P E G f F) (hF':SoundFn P [] G f F') {ng:Nat} (hG:∀g,G g=true→g<ng) {l:List Few} (hl:∀e∈l,e.right ng F'=true):SoundFn P E G f (locF l F):=by
 intro C hE hGC R σ w args xs v σ' hr hrel hxs
 unfold locF at hr
 split at hr
 ·rename_i h
  simp only[Option.some.injEq]at hr
  have:=loc_ok hF' hG (hl _ (Classical.choose_spec h).1) hGC (Classical.choose_spec h).2 hrel hxs
  rw[hr]at this
  exact this
 ·exact hF C hE hGC R σ w args xs v σ' hr hrel hxs
end
end Go.Og
namespace Go.Og
noncomputable section
def Has (l:List (Nat × Blk)) (ρ:Nat→Nat) (σ:H):Prop:=∀id b,look l id=some b→lookF σ.bl (ρ id)=some (b.rn ρ)
def Inj (l:List (Nat × Blk)) (ρ:Nat→Nat):Prop:=∀id id',domB l id=true→domB l id'=true→ρ id=ρ id'→id=id'
theorem fits_of {e:Few} {ρ:Nat→Nat} {args:List V} {σ:H} (ha:args=rns ρ e.args) (hb:Has e.bl0 ρ σ) (hi:Inj e.bl0 ρ):e.Fits ρ args σ:=
 ⟨ha,fun id b h=>by rw[←lookF_eq];exact hb id b h,hi⟩
def Few.shape (e:Few):Bool:=allIds e.bl0 (fun b=>Nat.blt b e.n0)&&(allIds e.bl1 (fun b=>(Nat.ble e.n0 b || domB e.bl0 b)&&Nat.blt b e.n1)&&Nat.ble e.n0 e.n1)
section
variable {e:Few} {ρ:Nat→Nat} {args:List V} {σ:H}
theorem Few.shape0 (h:e.shape=true) {id:Nat} (hd:domB e.bl0 id=true):id<e.n0:=by
 unfold Few.shape at h
 simp only[Bool.and_eq_true]at h
 obtain⟨c,hc⟩:=domB_iff.1 hd
 simpa[Nat.blt_eq]using allIds_look h.1 hc
theorem Few.shape1 (h:e.shape=true) {id:Nat} (hd:domB e.bl1 id=true):id<e.n1∧(e.n0≤id∨domB e.bl0 id=true):=by
 unfold Few.shape at h
 simp only[Bool.and_eq_true]at h
 obtain⟨c,hc⟩:=domB_iff.1 hd
 have:=allIds_look h.2.1 hc
 simp only[Bool.and_eq_true,Bool.or_eq_true,Nat.ble_eq,Nat.blt_eq]at this
 exact⟨this.2,this.1⟩
theorem Few.shapeN (h:e.shape=true):e.n0≤e.n1:=by
 unfold Few.shape at h
 simp only[Bool.and_eq_true,Nat.ble_eq]at h
 exact h.2.2
theorem Few.Fits.lt (hm:e.Fits ρ args σ) (ht:Tidy σ) {id:Nat} (hd:domB e.bl0 id=true):ρ id<σ.next:=by
 obtain⟨c,hc⟩:=domB_iff.1 hd
 have h:=hm.bl id c hc
 rcases Nat.lt_or_ge (ρ id) σ.next with hl|hl
 ·exact hl
 ·have:=ht _ hl;rw[lookF_eq,h]at this;cases this
theorem Few.to_inj (hs:e.shape=true) (hm:e.Fits ρ args σ) (ht:Tidy σ):Inj e.bl1 (e.to ρ σ):=by
 intro id id' hd hd' h
 have h1:=(Few.shape1 hs hd).2
 have h2:=(Few.shape1 hs hd').2
 unfold Few.to at h
 by_cases ha:id<e.n0
 ·have hda:domB e.bl0 id=true:=by rcases h1 with h1 | h1;omega;exact h1
  by_cases hb:id'<e.n0
  ·have hdb:domB e.bl0 id'=true:=by rcases h2 with h2 | h2;omega;exact h2
   rw[if_pos ha,if_pos hb]at h
   exact hm.inj _ _ hda hdb h
  ·rw[if_pos ha,if_neg hb]at h
   have:=hm.lt ht hda;omega
 ·by_cases hb:id'<e.n0
  ·have hdb:domB e.bl0 id'=true:=by rcases h2 with h2 | h2;omega;exact h2
   rw[if_neg ha,if_pos hb]at h
   have:=hm.lt ht hdb;omega
  ·rw[if_neg ha,if_neg hb]at h;omega
theorem look_rn {l:List (Nat × Blk)} {τ:Nat→Nat} (hi:∀id id',domB l id=true→domB l id'=true→τ id=τ id'→id=id'):∀{m:List (Nat × Blk)} {id:Nat} {b:Blk},(∀x∈m,domB l x.1=true)→look m id=some b→look (rnBl τ m) (τ id)=some (b.rn τ)
 | [],id,b,_,h=>by cases h
 | (k,c)::m,id,b,hm,h=>by
  simp only[look]at h
  simp only[rnBl,List.map_cons,look]
  by_cases hk:Nat.beq k id=true
  ·have:=Nat.eq_of_beq_eq_true hk;subst this
   rw[if_pos hk]at h
   cases h
   rw[if_pos (Nat.beq_refl _)]
  ·rw[if_neg hk]at h
   have hkd:domB l k=true:=hm (k,c) List.mem_cons_self
   have hid:domB l id=true:=hm (id,b) (List.mem_cons_of_mem _ (look_mem h))
   rw[if_neg (fun hh=>hk (by have:=hi k id hkd hid (Nat.eq_of_beq_eq_true hh);subst this;exact Nat.beq_refl _))]
   exact look_rn hi (fun x hx=>hm x (List.mem_cons_of_mem _ hx)) h
theorem Few.has (hs:e.shape=true) (hm:e.Fits ρ args σ) (ht:Tidy σ):Has e.bl1 (e.to ρ σ) (e.ans ρ σ).2:=by
 intro id b hb
 show lookF (rnBl (e.to ρ σ) e.bl1++σ.bl.filter fun x=>!e.old ρ x.1) _=_
 rw[lookF_eq,look_app]
 rw[look_rn (l:=e.bl1) (Few.to_inj hs hm ht) (fun x hx=>by
  obtain⟨d,hd⟩:=dom_of_mem (k:=x.1) (c:=x.2) hx
  exact domB_iff.2 ⟨_,hd⟩) hb]
theorem Few.fr (hs:e.shape=true) (hm:e.Fits ρ args σ) (ht:Tidy σ):Fr (fun b=>e.old ρ b=true) σ (e.ans ρ σ).2:=by
 have hn:=Few.shapeN hs
 refine⟨fun b hb=>?_,Nat.le_add_right _ _,fun b hb hS=>?_⟩
 ·have hb':σ.next+(e.n1-e.n0)≤b:=hb
  show lookF (rnBl (e.to ρ σ) e.bl1++σ.bl.filter fun x=>!e.old ρ x.1) b=none
  rw[lookF_eq,look_app]
  cases hc:look (rnBl (e.to ρ σ) e.bl1) b with
  | some c=>
   exfalso
   obtain⟨k,c',hk,he,_⟩:=look_rnBl hc
   obtain⟨d,hd⟩:=dom_of_mem hk
   have hkd:=Few.shape1 hs (domB_iff.2 ⟨d,hd⟩)
   unfold Few.to at he
   by_cases hl:k<e.n0
   ·rw[if_pos hl]at he
    have hda:domB e.bl0 k=true:=by rcases hkd.2 with h | h;omega;exact h
    have:=hm.lt ht hda;omega
   ·rw[if_neg hl]at he
    have:=hkd.1;omega
  | none=>
   simp only[]
   rw[look_filter (q:=fun k=>!e.old ρ k)]
   split
   ·rw[←lookF_eq];exact ht b (by omega)
   ·rfl
 ·show lookF (rnBl (e.to ρ σ) e.bl1++σ.bl.filter fun x=>!e.old ρ x.1) b=_
  rw[lookF_eq,look_app]
  cases hc:look (rnBl (e.to ρ σ) e.bl1) b with
  | some c=>
   exfalso
   obtain⟨k,c',hk,he,_⟩:=look_rnBl hc
   obtain⟨d,hd⟩:=dom_of_mem hk
   have hkd:=Few.shape1 hs (domB_iff.2 ⟨d,hd⟩)
   unfold Few.to at he
   by_cases hl:k<e.n0
   ·rw[if_pos hl]at he
    have hda:domB e.bl0 k=true:=by rcases hkd.2 with h | h;omega;exact h
    obtain⟨c0,hc0⟩:=domB_iff.1 hda
    exact hS (old_iff.2 ⟨k,c0,look_mem hc0,he.symm⟩)
   ·rw[if_neg hl]at he;omega
  | none=>
   simp only[]
   rw[look_filter (q:=fun k=>!e.old ρ k),if_pos (by
    cases ho:e.old ρ b with
    | true=>exact(hS ho).elim
    | false=>rfl),lookF_eq]
theorem Few.tidy (hs:e.shape=true) (hm:e.Fits ρ args σ) (ht:Tidy σ):Tidy (e.ans ρ σ).2:=(Few.fr hs hm ht).tidy
theorem Has.fr {l:List (Nat × Blk)} {S:Nat→Prop} {σ σ':H} (h:Has l ρ σ) (f:Fr S σ σ') (ht:Tidy σ) (hS:∀id,domB l id=true→¬S (ρ id)):Has l ρ σ':=fun id b hb=>by
 have h1:=h id b hb
 have hlt:ρ id<σ.next:=by
  rcases Nat.lt_or_ge (ρ id) σ.next with hl|hl
  ·exact hl
  ·have:=ht _ hl;rw[h1]at this;cases this
 rw[f.same _ hlt (hS id (domB_iff.2 ⟨_,hb⟩))]
 exact h1
theorem Has.lt {l:List (Nat × Blk)} {σ:H} (h:Has l ρ σ) (ht:Tidy σ) {id:Nat} (hd:domB l id=true):ρ id<σ.next:=by
 obtain⟨c,hc⟩:=domB_iff.1 hd
 have h1:=h id c hc
 rcases Nat.lt_or_ge (ρ id) σ.next with hl|hl
 ·exact hl
 ·have:=ht _ hl;rw[h1]at this;cases this
end
end
end Go.Og
namespace Go.Og
noncomputable section
section
variable {p:Nat→Bool} {ρ τ:Nat→Nat}
mutual
theorem rn_congr (h:∀b,p b=true→ρ b=τ b):∀v:V,V.inn p v=true→V.rn ρ v=V.rn τ v
 | .dead,hc=>by simp[V.inn]at hc
 | .ptr b o,hc=>by simp only[V.inn]at hc;simp only[V.rn,h b hc]
 | .sl b o n c,hc=>by simp only[V.inn]at hc;simp only[V.rn,h b hc]
 | .sle b o k e,hc=>by simp only[V.inn]at hc;simp only[V.rn,h b hc]
 | .mp b,hc=>by simp only[V.inn]at hc;simp only[V.rn,h b hc]
 | .bool _,_=>rfl
 | .int _ _,_=>rfl
 | .str _,_=>rfl
 | .nilp,_=>rfl
 | .nils,_=>rfl
 | .nilm,_=>rfl
 | .nilf,_=>rfl
 | .nili,_=>rfl
 | .fn f a c,hc=>by
  simp only[V.inn,Bool.and_eq_true]at hc
  simp only[V.rn,rns_congr h a hc.1,rns_congr h c hc.2]
 | .ifc t v,hc=>by
  simp only[V.inn]at hc
  simp only[V.rn,rn_congr h v hc]
 | .agg l,hc=>by
  simp only[V.inn]at hc
  simp only[V.rn,rns_congr h l hc]
 | .tup l,hc=>by
  simp only[V.inn]at hc
  simp only[V.rn,rns_congr h l hc]
theorem rns_congr (h:∀b,p b=true→ρ b=τ b):∀l:List V,inns p l=true→rns ρ l=rns τ l
 | [],_=>rfl
 | v::l,hc=>by
  simp only[inns,Bool.and_eq_true]at hc
  simp only[rns,rn_congr h v hc.1,rns_congr h l hc.2]
end
theorem rnp_congr (h:∀b,p b=true→ρ b=τ b):∀l:List (V × V),innp p l=true→rnp ρ l=rnp τ l
 | [],_=>rfl
 | q::l,hc=>by
  simp only[innp,Bool.and_eq_true]at hc
  simp only[rnp,rn_congr h q.1 hc.1.1,rn_congr h q.2 hc.1.2,rnp_congr h l hc.2]
theorem Blk.rn_congr (h:∀b,p b=true→ρ b=τ b) {b:Blk} (hc:b.inn p=true):b.rn ρ=b.rn τ:=by
 cases b with
 | cells l=>exact congrArg Blk.cells (rns_congr h l hc)
 | map l=>exact congrArg Blk.map (rnp_congr h l hc)
 | siter s q=>rfl
 | unit t=>rfl
end
def Few.still (e:Few):Bool:=inBl e.bl0 e.bl1&&(allBl e.bl0 (domB e.bl0)&&inBl e.bl0 e.bl0)
section
variable {e:Few} {ρ:Nat→Nat} {args:List V} {σ:H}
theorem Few.fr0 (hs:e.shape=true) (hw:e.still=true) (hm:e.Fits ρ args σ) (ht:Tidy σ):Fr Nowhere σ (e.ans ρ σ).2:=by
 have f:=Few.fr hs hm ht
 have hh:=Few.has hs hm ht
 unfold Few.still at hw
 simp only[Bool.and_eq_true]at hw
 obtain⟨h1,h2,h3⟩:=hw
 refine⟨f.tidy,f.le,fun b hb _=>?_⟩
 by_cases ho:e.old ρ b=true
 ·obtain⟨k,c,hk,rfl⟩:=old_iff.1 ho
  have l0:=inBl_ok h3 (k,c) hk
  have l1:=inBl_ok h1 (k,c) hk
  have hd:domB e.bl0 k=true:=domB_iff.2 ⟨_,l0⟩
  have hlt:=Few.shape0 hs hd
  have a1:=hh k c l1
  have et:e.to ρ σ k=ρ k:=by unfold Few.to;rw[if_pos hlt]
  rw[et]at a1
  rw[a1,lookF_eq,hm.bl k c l0]
  congr 1
  refine(Blk.rn_congr (p:=domB e.bl0) (fun b hb=>?_) (allBl_look h2 l0)).symm
  unfold Few.to
  rw[if_pos (Few.shape0 hs hb)]
 ·exact f.same b hb ho
end
end
end Go.Og
namespace Go.Og
noncomputable section
section
variable {E:List (Nat × Blk)} {σ σ':H} {b b':Nat} {l m:List V}
theorem ldK_is {κ:V→Ans} {o:Nat} (h:Atc σ b l):ldK E σ b o κ=nthK l o κ:=rdK_at h
theorem ldnK_is {κ:List V→Ans} {o n:Nat} (h:Atc σ b l):ldnK E σ b o n κ=subK l o n κ:=rdK_at h
theorem nthK_zero {a:V} {κ:V→Ans}:nthK (a::l) 0 κ=κ a:=rfl
theorem nthK_succ {a:V} {n:Nat} {κ:V→Ans}:nthK (a::l) (n+1) κ=nthK l n κ:=rfl
theorem subK_2 {a b:V} {κ:List V→Ans}:subK [a,b] 0 2 κ=κ [a,b]:=rfl
theorem subK_4 {a b c d:V} {κ:List V→Ans}:subK [a,b,c,d] 0 4 κ=κ [a,b,c,d]:=rfl
theorem subK_5 {a b c d e:V} {κ:List V→Ans}:subK [a,b,c,d,e] 0 4 κ=κ [a,b,c,d]:=rfl
theorem subK_6 {a b c d e f:V} {κ:List V→Ans}:subK [a,b,c,d,e,f] 0 6 κ=κ [a,b,c,d,e,f]:=rfl
theorem subK_13 {a b c d e f g h i j k l m:V} {κ:List V→Ans}:subK [a,b,c,d,e,f,g,h,i,j,k,l,m] 0 13 κ=κ [a,b,c,d,e,f,g,h,i,j,k,l,m]:=rfl
theorem subK_con {a b c d e f g h i j k l m:V} {κ:List V→Ans}:subK [a,b,c,d,e,f,g,h,i,j,k,l,m] 2 6 κ=κ [c,d,e,f,g,h]:=rfl
theorem cells_agg (l:List V):(V.agg l).cells=l:=rfl
theorem cells_int (k:IntKind) (n:Int):(V.int k n).cells=[.int k n]:=rfl
theorem cells_ptr (b o:Nat):(V.ptr b o).cells=[.ptr b o]:=rfl
theorem allOne_cons (v:V) (l:List V):allOne (v::l)=(v.one&&allOne l):=rfl
theorem allOne_nil:allOne []=true:=rfl
theorem one_int (k:IntKind) (n:Int):(V.int k n).one=true:=rfl
theorem one_bool (c:Bool):(V.bool c).one=true:=rfl
theorem one_str (s:BS):(V.str s).one=true:=rfl
theorem one_nils:V.nils.one=true:=rfl
theorem one_sl (b o n:Nat) (c:Cap):(V.sl b o n c).one=true:=rfl
theorem one_ptr (b o:Nat):(V.ptr b o).one=true:=rfl
theorem chk_t (a:Ans):chk true a=a:=rfl
theorem rtOne_nils {a:Ans}:rtOne .nils a=a:=rfl
theorem rtOne_pt {b o:Nat} {a:Ans}:rtOne (.ptr b o) a=a:=rfl
theorem rtOne_of {v:V} {a:Ans} (h:v.one=true):rtOne v a=a:=by cases v<;>first | rfl | cases h
theorem slenK_nils {κ:Nat→Ans}:slenK .nils κ=κ 0:=rfl
theorem slenK_sl {b o n:Nat} {c:Cap} {κ:Nat→Ans}:slenK (.sl b o n c) κ=κ n:=rfl
theorem nnK_nat {n:Nat} {κ:Nat→Ans}:nnK (Int.ofNat n) κ=κ n:=rfl
theorem condK_ift {c:Bool} {a b:Ans} (h:c=true):condK c a b=a:=by rw[h];rfl
theorem condK_iff {c:Bool} {a b:Ans} (h:c=false):condK c a b=b:=by rw[h];rfl
theorem chk_if {c:Bool} {a:Ans} (h:c=true):chk c a=a:=by rw[h];rfl
theorem join_or (f:Bool→H→Ans) (c d:Bool) (σ:H):joinB f (fun k=>condK c (k true σ) (k d σ))=f (c || d) σ:=by cases c<;>rfl
theorem join_and (f:Bool→H→Ans) (c d:Bool) (σ:H):joinB f (fun k=>condK c (k d σ) (k false σ))=f (c&&d) σ:=by cases c<;>rfl
theorem join_id (f:Bool→H→Ans) (c:Bool) (σ:H):joinB f (fun k=>k c σ)=f c σ:=rfl
def Src (σ:H) (esz n:Nat) (x:V) (m:List V):Prop:=(n=0∧x = .nils∧m=[])∨∃b o c L,x = .sl b o n c∧Atc σ b L∧o+n*esz≤L.length∧m=(L.drop o).take (n*esz)
def Dst (σ:H) (esz k:Nat) (v:V) (l:List V):Prop:=Sl σ esz k v l∨∃b,v = .sl b 0 k (.ex k)∧Atc σ b l∧l.length=k*esz
theorem Src.one {esz n:Nat} {x:V} (h:Src σ esz n x m):x.one=true:=by
 rcases h with ⟨_,rfl,_⟩|⟨_,_,_,_,rfl,_⟩<;>rfl
theorem Src.slen {esz n:Nat} {x:V} {κ:Nat→Ans} (h:Src σ esz n x m):slenK x κ=κ n:=by
 rcases h with ⟨rfl,rfl,_⟩|⟨_,_,_,_,rfl,_⟩<;>rfl
theorem Src.length {esz n:Nat} {x:V} (h:Src σ esz n x m):m.length=n*esz:=by
 rcases h with ⟨rfl,_,rfl⟩|⟨_,o,_,L,_,_,h,rfl⟩
 ·simp
 ·simp only[List.length_take,List.length_drop];omega
theorem Src.srcK {esz n:Nat} {x:V} {κ:Nat→List V→Ans} (h:Src σ esz n x m):srcK E σ esz x κ=κ n m:=by
 rcases h with ⟨rfl,rfl,rfl⟩|⟨b,o,c,L,rfl,ha,hl,rfl⟩
 ·rfl
 ·exact srcK_ex ha hl
theorem Src.cells {esz n:Nat} {x:V} (h:Src σ esz n x m):srcCells E σ esz x=some (n,m):=by
 rcases h with ⟨rfl,rfl,rfl⟩|⟨b,o,c,L,rfl,ha,hl,rfl⟩
 ·rfl
 ·show (rdN E σ b o (n*esz)).map _=_
  unfold rdN rd
  rw[←lookF_eq,show lookF σ.bl b=some (.cells L)from ha]
  simp only[]
  rw[show Nat.ble (o+n*esz) L.length=true from ble_of hl]
  rfl
theorem Src.fr {S:Nat→Prop} {esz n:Nat} {x:V} (h:Src σ esz n x m) (f:Fr S σ σ') (ht:Tidy σ) (hn:∀b,Names x b→¬S b):Src σ' esz n x m:=by
 rcases h with h|⟨b,o,c,L,rfl,ha,hl,rfl⟩
 ·exact .inl h
 ·exact .inr ⟨b,o,c,L,rfl,f.at_ ha ht (hn b rfl),hl,rfl⟩
theorem Src.lt {esz n:Nat} {x:V} (h:Src σ esz n x m) (ht:Tidy σ) (hb:Names x b):b<σ.next:=by
 rcases h with ⟨_,rfl,_⟩|⟨_,_,_,_,rfl,ha,_⟩
 ·exact hb.elim
 ·cases hb;exact ha.lt ht
theorem Dst.nil (σ:H) (esz:Nat):Dst σ esz 0 .nils [] := .inl (Sl.nil σ esz)
theorem Dst.length {esz k:Nat} {v:V} (h:Dst σ esz k v l):l.length=k*esz:=by
 rcases h with h|⟨_,_,_,h⟩
 ·exact h.length
 ·exact h
theorem Dst.one {esz k:Nat} {v:V} (h:Dst σ esz k v l):v.one=true:=by
 rcases h with h|⟨_,rfl,_⟩
 ·exact h.one
 ·rfl
theorem Dst.slen {esz k:Nat} {v:V} {κ:Nat→Ans} (h:Dst σ esz k v l):slenK v κ=κ k:=by
 rcases h with h|⟨_,rfl,_⟩
 ·exact h.slen
 ·rfl
theorem Dst.lt {esz k:Nat} {v:V} (h:Dst σ esz k v l) (ht:Tidy σ) (hb:Names v b):b<σ.next:=by
 rcases h with h|⟨_,rfl,ha,_⟩
 ·exact h.lt ht hb
 ·cases hb;exact ha.lt ht
theorem Dst.fr {S:Nat→Prop} {esz k:Nat} {v:V} (h:Dst σ esz k v l) (f:Fr S σ σ') (ht:Tidy σ) (hn:∀b,Names v b→¬S b):Dst σ' esz k v l:=by
 rcases h with h|⟨b,rfl,ha,hl⟩
 ·exact .inl (h.fr f ht hn)
 ·exact .inr ⟨b,rfl,f.at_ ha ht (hn b rfl),hl⟩
theorem Dst.src {esz k:Nat} {v:V} (h:Dst σ esz k v l):Src σ esz k v l:=by
 rcases h with (⟨rfl,rfl,rfl⟩|⟨b,rfl,ha,_,hl⟩)|⟨b,rfl,ha,hl⟩
 ·exact .inl ⟨rfl,rfl,rfl⟩
 ·exact .inr ⟨b,0,_,l,rfl,ha,by omega,by rw[List.drop_zero,←hl,List.take_length]⟩
 ·exact .inr ⟨b,0,_,l,rfl,ha,by omega,by rw[List.drop_zero,←hl,List.take_length]⟩
def Len (v:V) (n:Nat):Prop:=v.one=true∧∀κ:Nat→Ans,slenK v κ=κ n
theorem Len.nils:Len .nils 0:=⟨rfl,fun _=>rfl⟩
theorem Len.sl {b o n:Nat} {c:Cap}:Len (.sl b o n c) n:=⟨rfl,fun _=>rfl⟩
theorem Src.len {σ:H} {esz n:Nat} {x:V} {m:List V} (h:Src σ esz n x m):Len x n:=⟨h.one,fun _=>h.slen⟩
theorem app_none {esz bytes k:Nat} {v x:V} {κ:V→H→Ans} (h:Dst σ esz k v l) (hx:Src σ esz 0 x m):appK E esz bytes v x σ κ=κ v σ:=by
 unfold appK
 rw[hx.srcK]
 rcases h with (⟨rfl,rfl,rfl⟩|⟨b,rfl,ha,_,hl⟩)|⟨b,rfl,ha,hl⟩
 ·show callK (appendV E esz bytes .nils x σ) κ=_
  unfold appendV;rw[hx.cells];rfl
 ·rfl
 ·show callK (appendV E esz bytes (.sl b 0 k (.ex k)) x σ) κ=_
  unfold appendV;rw[hx.cells]
  simp only[]
  rw[if_pos (show Nat.ble (k+0) k=true from ble_of (Nat.le_refl _))]
  rfl
theorem app_some {esz bytes k n:Nat} {v x:V} (h:Dst σ esz k v l) (ht:Tidy σ) (hx:Src σ esz n x m) (hn:0<n) (ho:allOne m=true) (hg:growable (k+n) bytes=true) :
  ∃σ',(∀κ:V→H→Ans,appK E esz bytes v x σ κ=κ (.sl σ.next 0 (k+n) (.op esz)) σ')∧Atc σ' σ.next (l++m)∧σ'.next=σ.next+1∧Fr (Names v) σ σ':=by
 obtain⟨n',rfl⟩:∃q,n=q+1:=⟨n-1,by omega⟩
 rcases h with (⟨rfl,rfl,rfl⟩|⟨b,rfl,ha,hk,hl⟩)|⟨b,rfl,ha,hl⟩
 ·refine⟨newB σ (.cells m),fun κ=>?_,by rw[List.nil_append];exact Atc_newB m,rfl,Fr.new ht _⟩
  unfold appK
  rw[hx.srcK]
  show callK (appendV E esz bytes .nils x σ) κ=_
  unfold appendV;rw[hx.cells]
  simp only[]
  rw[Nat.zero_add]at hg ⊢
  rw[if_neg (by omega),if_pos hg]
  rfl
 ·refine⟨⟨σ.next+1,(σ.next,.cells (l++m))::drop σ.bl b⟩,fun κ=>?_,?_,rfl,?_⟩
  ·unfold appK
   rw[hx.srcK]
   show (match lookF σ.bl b with
    | some (.cells l)=>chk (Nat.beq l.length (k*esz)&&Nat.beq esz esz&&growable (k+(n'+1)) bytes&&allOne m) (forceD σ.bl b fun bl'=>κ (.sl σ.next 0 (k+(n'+1)) (.op esz)) ⟨σ.next+1,(σ.next,.cells (l++m))::bl'⟩)
    | _=>none)=_
   rw[show lookF σ.bl b=some (.cells l)from ha]
   simp only[]
   rw[chk_true (by rw[hg,ho,hl];simp),forceD_eq]
  ·show lookF ((σ.next,Blk.cells (l++m))::_) _=_
   rw[lookF_cons,if_pos rfl]
  ·refine⟨fun k' hk'=>?_,Nat.le_succ _,fun k' hk' hn=>?_⟩
   ·have hk2:σ.next+1≤k':=hk'
    show lookF ((σ.next,_)::drop σ.bl b) k'=none
    rw[lookF_cons,if_neg (by simp only[];omega),lookF_drop]
    split
    ·rfl
    ·exact ht k' (by omega)
   ·show lookF ((σ.next,_)::drop σ.bl b) k'=_
    rw[lookF_cons,if_neg (by simp only[];omega),lookF_drop,if_neg]
    intro hbk
    exact hn hbk.symm
 ·refine⟨newB σ (.cells (l++m)),fun κ=>?_,Atc_newB _,rfl,Fr.new ht _⟩
  unfold appK
  rw[hx.srcK]
  show callK (appendV E esz bytes (.sl b 0 k (.ex k)) x σ) κ=_
  unfold appendV;rw[hx.cells]
  simp only[]
  rw[if_neg (show ¬Nat.ble (k+(n'+1)) k=true from fun h=>by rw[Nat.ble_eq]at h;omega),if_pos hg]
  have hr:rdN E σ b 0 (k*esz)=some l:=by
   unfold rdN rd
   rw[←lookF_eq,show lookF σ.bl b=some (.cells l)from ha]
   simp only[]
   rw[show Nat.ble (0+k*esz) l.length=true from ble_of (by omega)]
   rw[List.drop_zero,←hl,List.take_length];rfl
  rw[hr]
  rfl
theorem app_all {esz bytes k n:Nat} {v x:V} (h:Dst σ esz k v l) (ht:Tidy σ) (hx:Src σ esz n x m) (ho:allOne m=true) (hg:growable (k+n) bytes=true) :
  ∃u σ',(∀κ:V→H→Ans,appK E esz bytes v x σ κ=κ u σ')∧Dst σ' esz (k+n) u (l++m)∧(∀b,Names u b→Names v b∨σ.next≤b)∧Fr (Names v) σ σ':=by
 cases n with
 | zero=>
  have hm:m=[]:=List.eq_nil_of_length_eq_zero (by rw[hx.length];omega)
  subst hm
  exact⟨v,σ,fun κ=>app_none h hx,by rw[List.append_nil];exact h,fun b hb => .inl hb,Fr.refl ht⟩
 | succ n=>
  obtain⟨σ',g,a,nx,f⟩:=app_some (E:=E) h ht hx (Nat.succ_pos n) ho hg
  refine⟨_,σ',g,.inl (.inr ⟨σ.next,rfl,a,by omega,?_⟩),fun b hb => .inr (by cases hb;exact Nat.le_refl _),f⟩
  rw[List.length_append,h.length,hx.length,←Nat.add_mul]
theorem rP:(∀(a:V) (l:List V) (κ:V→Ans),nthK (a::l) 0 κ=κ a)∧(∀(a:V) (l:List V) (n:Nat) (κ:V→Ans),nthK (a::l) (n+1) κ=nthK l n κ) ∧
  (∀(a b:V) (κ:List V→Ans),subK [a,b] 0 2 κ=κ [a,b])∧(∀(a b c d:V) (κ:List V→Ans),subK [a,b,c,d] 0 4 κ=κ [a,b,c,d])∧(∀(a b c d e:V) (κ:List V→Ans),subK [a,b,c,d,e] 0 4 κ=κ [a,b,c,d]) ∧
  (∀(a b c d e f:V) (κ:List V→Ans),subK [a,b,c,d,e,f] 0 6 κ=κ [a,b,c,d,e,f])∧(∀(a b c d e f g h i j k l m:V) (κ:List V→Ans),subK [a,b,c,d,e,f,g,h,i,j,k,l,m] 0 13 κ=κ [a,b,c,d,e,f,g,h,i,j,k,l,m]) ∧
  (∀(a b c d e f g h i j k l m:V) (κ:List V→Ans),subK [a,b,c,d,e,f,g,h,i,j,k,l,m] 2 6 κ=κ [c,d,e,f,g,h]) ∧
  (∀(k:IntKind) (n:Int) (κ:Int→Ans),rtInt k (.int k n) κ=κ n)∧(∀(b:Bool) (κ:Bool→Ans),rtBool (.bool b) κ=κ b)∧(∀(s:BS) (κ:BS→Ans),rtStr (.str s) κ=κ s)∧(∀(b o:Nat) (κ:Nat→Nat→Ans),rtPtr (.ptr b o) κ=κ b o) ∧
  (∀(l:List V) (κ:List V→Ans),rtAgg (.agg l) κ=κ l)∧(∀(l:List V) (κ:List V→Ans),rtTup (.tup l) κ=κ l)∧(∀(v:V) (l:List V) (κ:V→List V→Ans),rtCons (v::l) κ=κ v l)∧(∀a:Ans,rtNil [] a=a) ∧
  (∀a:Ans,rtOne .nils a=a)∧(∀(b o:Nat) (a:Ans),rtOne (.ptr b o) a=a)∧(∀(b o n:Nat) (c:Cap) (a:Ans),rtOne (.sl b o n c) a=a)∧(∀κ:Nat→Ans,slenK .nils κ=κ 0)∧(∀(b o n:Nat) (c:Cap) (κ:Nat→Ans),slenK (.sl b o n c) κ=κ n) ∧
  (∀(v:V) (σ:H) (κ:V→H→Ans),callK (some (v,σ)) κ=κ v σ)∧(∀(c:Bool) (a b:Ans),c=true→condK c a b=a)∧(∀(c:Bool) (a b:Ans),c=false→condK c a b=b)∧(∀(c:Bool) (a:Ans),c=true→chk c a=a) ∧
  (∀(f:Bool→H→Ans) (g:(Bool→H→Ans)→Ans),joinB f g=g f)∧(∀(k:IntKind) (n:Int) (l:List V) (κ:Int→List V→Ans),xcI k (.int k n::l) κ=κ n l)∧(∀(b:Bool) (l:List V) (κ:Bool→List V→Ans),xcB (.bool b::l) κ=κ b l)∧(∀(s:BS) (l:List V) (κ:BS→List V→Ans),xcS (.str s::l) κ=κ s l)∧(∀(l:List V) (σ:H) (κ:H→Ans),nbK l σ κ=chk (allOne l) (κ (newB σ (.cells l)))):=
 ⟨fun _ _ _=>rfl,fun _ _ _ _=>rfl,fun _ _ _=>rfl,fun _ _ _ _ _=>rfl,fun _ _ _ _ _ _=>rfl,fun _ _ _ _ _ _ _=>rfl,fun _ _ _ _ _ _ _ _ _ _ _ _ _ _=>rfl,fun _ _ _ _ _ _ _ _ _ _ _ _ _ _=>rfl,
  rtInt_int,fun _ _=>rfl,fun _ _=>rfl,fun _ _ _=>rfl,fun _ _=>rfl,fun _ _=>rfl,fun _ _ _=>rfl,fun _=>rfl,fun _=>rfl,fun _ _ _=>rfl,fun _ _ _ _ _=>rfl,fun _=>rfl,fun _ _ _ _ _=>rfl,
  fun _ _ _=>rfl,fun _ _ _ h=>condK_ift h,fun _ _ _ h=>condK_iff h,fun _ _ h=>chk_if h,fun _ _=>rfl,fun k n l κ=>rtInt_int k n fun n=>κ n l,fun _ _ _=>rfl,fun _ _ _=>rfl,fun _ _ _=>rfl⟩
theorem rC:(∀(k:IntKind) (n:Int) (l:List V) (κ:Int→List V→Ans),xcI k (.int k n::l) κ=κ n l)∧(∀(b:Bool) (l:List V) (κ:Bool→List V→Ans),xcB (.bool b::l) κ=κ b l)∧(∀(s:BS) (l:List V) (κ:BS→List V→Ans),xcS (.str s::l) κ=κ s l)∧(∀(l:List V) (σ:H) (κ:H→Ans),nbK l σ κ=chk (allOne l) (κ (newB σ (.cells l)))):=
 ⟨fun k n l κ=>rtInt_int k n fun n=>κ n l,fun _ _ _=>rfl,fun _ _ _=>rfl,fun _ _ _=>rfl⟩
theorem rS:(∀l:List V,(V.agg l).cells=l)∧(∀(k:IntKind) (n:Int),(V.int k n).cells=[.int k n])∧(∀b o:Nat,(V.ptr b o).cells=[.ptr b o])∧(∀(v:V) (l:List V),allOne (v::l)=(v.one&&allOne l))∧(allOne []=true) ∧
  (∀(k:IntKind) (n:Int),(V.int k n).one=true)∧(∀c:Bool,(V.bool c).one=true)∧(∀s:BS,(V.str s).one=true)∧(V.nils.one=true)∧(∀(b o n:Nat) (c:Cap),(V.sl b o n c).one=true)∧(∀b o:Nat,(V.ptr b o).one=true) ∧
  (∀b:Bool,(b&&true)=b)∧(∀a b:Nat,Nat.add a b=a+b)∧(∀n:Nat,0+n=n)∧((!true)=false)∧((!false)=true):=
 ⟨fun _=>rfl,fun _ _=>rfl,fun _ _=>rfl,fun _ _=>rfl,rfl,fun _ _=>rfl,fun _=>rfl,fun _=>rfl,rfl,fun _ _ _ _=>rfl,fun _ _=>rfl,Bool.and_true,fun _ _=>rfl,Nat.zero_add,rfl,rfl⟩
theorem rQ:(∀m n:Nat,eqF (Int.ofNat m) (Int.ofNat n)=decide (m=n))∧(∀m n:Nat,ltF (Int.ofNat m) (Int.ofNat n)=decide (m<n))∧(∀m n:Nat,leF (Int.ofNat m) (Int.ofNat n)=decide (m≤n)) ∧
  (∀b:Bool,(false || b)=b)∧(∀b:Bool,(true || b)=true)∧(∀b:Bool,(b || false)=b)∧(∀b:Bool,(b || true)=true)∧(∀b:Bool,(false&&b)=false)∧(∀b:Bool,(true&&b)=b)∧(∀b:Bool,(b&&false)=false):=
 ⟨eqF_nat,ltF_nat,leF_nat,Bool.false_or,Bool.true_or,Bool.or_false,Bool.or_true,Bool.false_and,Bool.true_and,Bool.and_false⟩
theorem rD:(∀h:Decidable False,@decide False h=false)∧(∀h:Decidable True,@decide True h=true):=⟨fun _=>decide_false _,fun _=>decide_true _⟩
theorem rA:type_of% (And.intro rS (And.intro rQ rD)):=⟨rS,rQ,rD⟩
end
end
end Go.Og
