/- What the last text leans on, part 4 of 7: merged out of smaller texts. No condition. -/
import Derived.KernelRfl
import Derived.Test.YtgjjnbddbbhloaaGreatDoorQ2
set_option linter.all false
set_option maxRecDepth 100000
set_option maxHeartbeats 0
namespace Go.Proofs.YtgjjnbddbbhloaaGreatDoor
open Go Go.Og
noncomputable section
variable (E:List (Nat × Blk)) (D:Den) (W:DrawFn) (N:Nat)
def q63a:List (Nat × XTy):=[(1,.ptr),(5,.any),(12,.any),(13,.i),(14,.bool),(15,.i)]
def q63b:List (Nat × XTy):=[(1,.ptr),(5,.any),(12,.any),(13,.i),(14,.bool)]
def q63c:List (Nat × XTy):=[(1,.ptr),(5,.any),(12,.any),(13,.i)]
def q63d:List (Nat × XTy):=[(1,.ptr),(5,.any),(6,.i),(7,.i)]
def q63e:List (Nat × XTy):=[(1,.ptr),(5,.any),(6,.i),(8,.i)]
def q63f:List (Nat × XTy):=[(1,.ptr),(5,.any),(12,.any)]
def q63g:List (Nat × XTy):=[(1,.ptr),(5,.any),(11,.i)]
def q63h:List (Nat × XTy):=[(1,.ptr),(5,.any),(6,.i)]
def Fin63 (E:List (Nat × Blk)):St→Ans:=fun s=>resK E s [(.tmp 2),(.tmp 3),(.tmp 4)] fun l=>some (oneV l,s.σ)
def b63a (c0:XC) (l0:St→Ans):Nat→St→Ans:=blkK 8 (kX q63f [] [] l0) (blkK 7 (kX q63f [] [] l0) (blkK 6 (dX E D W N (.keep [(12,.any)] [] [] c0) (Fin63 E) nX (Fin63 E)) nX))
def b63b (c0 c1:XC) (l0 l1:St→Ans):St→Ans:=dX E D W N (.keep q63c [] [] c0) (kX q63c [] [] l0) (b63a E D W N c1 l1) (Fin63 E)
def b63c (c0:XC):St→Ans:=dX E D W N (.keep q63h [] [] c0) (Fin63 E) nX (Fin63 E)
def b63d (c0 c1 c2:XC) (l0 l1:St→Ans):Nat→St→Ans:=blkK 10 (dX E D W N (.keep q63b [] [] c0) (b63b E D W N c1 c2 l0 l1) (blkK 9 (b63b E D W N c1 c2 l0 l1) (b63a E D W N c2 l1)) (Fin63 E)) (blkK 9 (b63b E D W N c1 c2 l0 l1) (b63a E D W N c2 l1))
def b63e (c0:XC):Nat→St→Ans:=blkK 4 (dX E D W N (.keep [(1,.ptr),(5,.any)] [] [] c0) (Fin63 E) nX (Fin63 E)) nX
def b63f (c0:XC):Nat→St→Ans:=blkK 6 (dX E D W N (.keep [(12,.any)] [] [] c0) (Fin63 E) nX (Fin63 E)) nX
def C63_0 (cc1:XC) (cc2:XC):XC:=(.z (.P 1 (.box 76 (.t 0))<|
.c 2 V.nils<|
.q 3 0<|
.q 4 0<|
.nil)
 (.z (.c 5 V.nils<|
.nil)
 (.z (.c 6 y20<|
.nil)
 (.seq (.z (.q 7 0<|
.nil)
 (.block 0 (.loop q63d [] [] cc2)))
 (.keep q63h [] [] cc1)))))
def T63_0 (E:List (Nat × Blk)) (D:Den) (W:DrawFn) (K2:Nat→Nat→V→Int→Int→H→Ans) (a:BS) (b:Int) (c d e:V) (σ:H):Ans:=
 nbK [(V.str a),(V.int .i64 b),c,d,e] σ fun s1=>
 K2 (H.next σ) 0 V.nils (Int.negSucc 0) (Int.ofNat 0) s1
def C63_1 (cc3:XC) (cc4:XC):XC:=(.seq (.z (.q 8 0<|
.nil)
 (.block 2 (.loop q63e [] [] cc4)))
 (.keep q63h [] [] cc3))
def T63_1 (E:List (Nat × Blk)) (D:Den) (W:DrawFn) (K4:Nat→Nat→V→Int→Int→H→Ans) (a b:Nat) (c:V) (d:Int) (σ:H):Ans:=
 K4 a b c d (Int.ofNat 0) σ
def C63_2:XC:=(.seq (.z (.m 16 7<|
.f 17 2 1<|
.l 18 .any 17<|
.u 19 18<|
.b 20 .lss .none (.t 16) (.t 19)<|
.nil)
 (.cond (.tmp 20) .skip
 y36))
 (.seq (.block 1 (.seq (.draw (.f 23 2 1<|
.l 24 .any 23<|
.m 25 7<|
.p 26 [24,25] (.sliceSl 1 (.t 24) none (some (.t 25)) none)<|
.f 27 2 1<|
.l 28 .any 27<|
.m 29 7<|
.s 30 1 28 29<|
.l 31 .str 30<|
.k 32 .bool 123 [(.t 26),(.t 31)]<|
.nil) [0,1,0,7,0,16,0,112,240,511])
 (.cond (.tmp 32) (.z (.m 33 7<|
.c 2 V.nils<|
.m 3 33<|
.q 4 8<|
.nil)
 .ret)
 .skip)))
 (.ops (.m 21 7<|
.b 22 .add .none (.t 21) (.i 1)<|
.m 7 22<|
.nil))))
def T63_2 (E:List (Nat × Blk)) (D:Den) (W:DrawFn) (K1:Nat→Nat→V→Int→H→Ans) (R2:Nat→Nat→V→Int→Int→H→Ans) (a b:Nat) (c:V) (d e:Int) (σ:H):Ans:=
 ldK E σ a (Nat.add b 2) fun u1=>
 slenK u1 fun n2=>
 condK (ltF e (Int.ofNat n2)) (
 ldK E σ a (Nat.add b 2) fun u3=>
 gK (sliceV 1 u3 none (some (V.int .i64 e)) none) fun u4=>
 ldK E σ a (Nat.add b 2) fun u5=>
 iaddrSK 1 u5 e fun b6 o7=>
 ldK E σ b6 o7 fun u8=>
 rtStr u8 fun x9=>
 callK (D 123 [u4,(V.str x9)] σ) fun u10 s11=>
 rtBool u10 fun x12=>
 condK x12 (
 some ((V.tup [V.nils,(V.int .i64 e),(V.int .i64 (Int.ofNat 8))]),s11)) (
 R2 a b c d (addF .i64 e (Int.ofNat 1)) s11)) (
 K1 a b c d σ)
def C63_3 (cc6:XC) (cc7:XC):XC:=(.seq (.z (.m 61 6<|
.b 62 .geq .none (.t 61) (.i 0)<|
.nil)
 (.cond (.tmp 62) (.z (.m 63 6<|
.c 2 V.nils<|
.m 3 63<|
.q 4 9<|
.nil)
 .ret)
 .skip))
 (.seq (.z (.q 11 0<|
.nil)
 (.block 4 (.loop q63g [] [] cc7)))
 (.keep [(1,.ptr),(5,.any)] [] [] cc6)))
def T63_3 (E:List (Nat × Blk)) (D:Den) (W:DrawFn) (K7:Nat→Nat→V→Int→H→Ans) (a b:Nat) (c:V) (d:Int) (σ:H):Ans:=
 condK (leF (Int.ofNat 0) d) (
 some ((V.tup [V.nils,(V.int .i64 d),(V.int .i64 (Int.ofNat 9))]),σ)) (
 K7 a b c (Int.ofNat 0) σ)
def C63_4 (cc5:XC):XC:=(.seq (.z (.m 34 8<|
.f 35 2 1<|
.l 36 .any 35<|
.u 37 36<|
.b 38 .lss .none (.t 34) (.t 37)<|
.nil)
 (.cond (.tmp 38) .skip
 (.exit 2)))
 (.seq (.block 3 (.seq (.draw (.O 42 y10 (.load (some 5) (.t 1))<|
.f 43 3 1<|
.l 44 .any 43<|
.m 45 8<|
.s 46 1 44 45<|
.l 47 .i 46<|
.k 48 (.tup [.any,.bool]) 124 [(.t 42),(.t 47),(.i 0),(.con V.nils)]<|
.m 41 48<|
.P 49 (.extract 0 (.t 41))<|
.P 50 (.extract 1 (.t 41))<|
.m 9 49<|
.m 10 50<|
.nil) [0,0,2,0,14,30,63,127,255,255,511,2047])
 (.z (.m 51 5<|
.m 52 9<|
.p 53 [52] (.buildSlice 22 1 [V.nils] [(0,1,(.t 52))])<|
.O 54 .one (.append 22 1 24 (.t 51) (.t 53))<|
.m 5 54<|
.nil)
 (.z (.m 55 10<|
.m 56 55<|
.gA 56 true (.p 57 [6,56] (.mov (.t 6))<|
.p 58 [57,56] (.bin .lss .none (.t 57) (.i 0))<|
.nil) 59 56 58<|
.nil)
 (.cond (.tmp 59) (.ops (.m 60 8<|
.m 6 60<|
.nil))
 .skip)))))
 (.keep q63e [] [] cc5)))
def T63_4 (E:List (Nat × Blk)) (D:Den) (W:DrawFn) (K3:Nat→Nat→V→Int→H→Ans) (K5:Nat→Nat→V→Int→Int→H→Ans) (a b:Nat) (c:V) (d e:Int) (σ:H):Ans:=
 ldK E σ a (Nat.add b 2) fun u1=>
 slenK u1 fun n2=>
 condK (ltF e (Int.ofNat n2)) (
 ldnK E σ a b 5 fun l3=>
 xcS l3 fun x6 l5=>
 xcI .i64 l5 fun x9 l8=>
 rtCons l8 fun x10 l11=>
 rtCons l11 fun x12 l13=>
 rtCons l13 fun x14 l15=>
 rtNil l15 (
 ldK E σ a (Nat.add b 3) fun u16=>
 iaddrSK 1 u16 e fun b17 o18=>
 ldK E σ b17 o18 fun u19=>
 rtInt .i64 u19 fun x20=>
 callK (D 124 [(V.agg [(V.str x6),(V.int .i64 x9),x10,x12,x14]),(V.int .i64 x20),(V.int .i64 (Int.ofNat 0)),V.nils] σ) fun u21 s22=>
 rtTup u21 fun l23=>
 rtCons l23 fun x24 l25=>
 xcB l25 fun x28 l27=>
 rtNil l27 (
 fillK [(0,1,x24)] [V.nils] fun l29=>
 chk (allOne l29) (
 let s30:=newB s22 (.cells l29);
 appK E 1 24 c (V.sl (H.next s22) 0 1 (.ex 1)) s30 fun u31 s32=>
 rtOne u31 (
 joinB (fun c33 s34=>
 condK c33 (
 K5 a b u31 e e s34) (
 K5 a b u31 d e s34)) fun k35=>
 condK x28 (
 k35 (ltF d (Int.ofNat 0)) s32) (
 k35 false s32)))))) (
 K3 a b c d σ)
def C63_5:XC:=(.ops (.m 39 8<|
.b 40 .add .none (.t 39) (.i 1)<|
.m 8 40<|
.nil))
def T63_5 (E:List (Nat × Blk)) (D:Den) (W:DrawFn) (R4:Nat→Nat→V→Int→Int→H→Ans) (a b:Nat) (c:V) (d e:Int) (σ:H):Ans:=
 R4 a b c d (addF .i64 e (Int.ofNat 1)) σ
def C63_6 (cc8:XC) (cc9:XC):XC:=(.z (.c 12 V.nils<|
.nil)
 (.seq (.block 6 (.loop q63f [] [] cc9))
 (.keep [(12,.any)] [] [] cc8)))
def T63_6 (E:List (Nat × Blk)) (D:Den) (W:DrawFn) (K9:Nat→Nat→V→V→H→Ans) (a b:Nat) (c:V) (σ:H):Ans:=
 K9 a b c V.nils σ
def C63_7:XC:=(.seq (.z (.m 64 11<|
.f 65 2 1<|
.l 66 .any 65<|
.u 67 66<|
.b 68 .lss .none (.t 64) (.t 67)<|
.nil)
 (.cond (.tmp 68) .skip
 (.exit 4)))
 (.seq (.block 5 (.z (.m 71 5<|
.m 72 11<|
.m 73 11<|
.k 74 .bool 125 [(.t 71),(.t 72),(.t 73)]<|
.nil)
 (.cond (.tmp 74) (.z (.m 75 11<|
.c 2 V.nils<|
.m 3 75<|
.q 4 10<|
.nil)
 .ret)
 .skip)))
 (.ops (.m 69 11<|
.b 70 .add .none (.t 69) (.i 1)<|
.m 11 70<|
.nil))))
def T63_7 (E:List (Nat × Blk)) (D:Den) (W:DrawFn) (K6:Nat→Nat→V→H→Ans) (R7:Nat→Nat→V→Int→H→Ans) (a b:Nat) (c:V) (d:Int) (σ:H):Ans:=
 ldK E σ a (Nat.add b 2) fun u1=>
 slenK u1 fun n2=>
 condK (ltF d (Int.ofNat n2)) (
 callK (D 125 [c,(V.int .i64 d),(V.int .i64 d)] σ) fun u3 s4=>
 rtBool u3 fun x5=>
 condK x5 (
 some ((V.tup [V.nils,(V.int .i64 d),(V.int .i64 (Int.ofNat 10))]),s4)) (
 R7 a b c (addF .i64 d (Int.ofNat 1)) s4)) (
 K6 a b c σ)
def C63_8:XC:=(.z (.m 119 12<|
.m 2 119<|
.q 3 0<|
.q 4 0<|
.nil)
 .ret)
def T63_8 (E:List (Nat × Blk)) (D:Den) (W:DrawFn) (a:V) (σ:H):Ans:=
 some ((V.tup [a,(V.int .i64 (Int.ofNat 0)),(V.int .i64 (Int.ofNat 0))]),σ)
def C63_9 (cc10:XC):XC:=(.seq (.z (.m 76 12<|
.u 77 76<|
.f 78 2 1<|
.l 79 .any 78<|
.u 80 79<|
.b 81 .lss .none (.t 77) (.t 80)<|
.nil)
 (.cond (.tmp 81) .skip
 (.exit 6)))
 (.block 7 (.z (.q 13 0<|
.nil)
 (.block 8 (.loop q63c [] [] cc10)))))
def T63_9 (E:List (Nat × Blk)) (D:Den) (W:DrawFn) (K8:V→H→Ans) (K10:Nat→Nat→V→V→Int→H→Ans) (a b:Nat) (c d:V) (σ:H):Ans:=
 slenK d fun n1=>
 ldK E σ a (Nat.add b 2) fun u2=>
 slenK u2 fun n3=>
 condK (ltF (Int.ofNat n1) (Int.ofNat n3)) (
 K10 a b c d (Int.ofNat 0) σ) (
 K8 d σ)
def C63_10 (cc11:XC) (cc12:XC) (cc13:XC):XC:=(.seq (.z (.m 82 13<|
.f 83 2 1<|
.l 84 .any 83<|
.u 85 84<|
.b 86 .lss .none (.t 82) (.t 85)<|
.nil)
 (.cond (.tmp 86) .skip
 (.exit 8)))
 (.seq (.block 9 (.z (.m 89 12<|
.m 90 13<|
.k 91 .bool 29 [(.t 89),(.t 90)]<|
.P 92 (.un .not (.t 91))<|
.m 14 92<|
.nil)
 (.seq (.z (.q 15 0<|
.nil)
 (.block 10 (.loop q63a [] [] cc13)))
 (.keep q63b [] [] cc12))))
 (.keep q63c [] [] cc11)))
def T63_10 (E:List (Nat × Blk)) (D:Den) (W:DrawFn) (K13:Nat→Nat→V→V→Int→Bool→Int→H→Ans) (R9:Nat→Nat→V→V→H→Ans) (a b:Nat) (c d:V) (e:Int) (σ:H):Ans:=
 ldK E σ a (Nat.add b 2) fun u1=>
 slenK u1 fun n2=>
 condK (ltF e (Int.ofNat n2)) (
 callK (D 29 [d,(V.int .i64 e)] σ) fun u3 s4=>
 rtBool u3 fun x5=>
 K13 a b c d e (not x5) (Int.ofNat 0) s4) (
 R9 a b c d σ)
def C63_11:XC:=(.ops (.m 87 13<|
.b 88 .add .none (.t 87) (.i 1)<|
.m 13 88<|
.nil))
def T63_11 (E:List (Nat × Blk)) (D:Den) (W:DrawFn) (R10:Nat→Nat→V→V→Int→H→Ans) (a b:Nat) (c d:V) (e:Int) (σ:H):Ans:=
 R10 a b c d (addF .i64 e (Int.ofNat 1)) σ
def C63_12:XC:=(.z (.m 114 14<|
.nil)
 (.cond (.tmp 114) (.z (.m 115 12<|
.m 116 13<|
.p 117 [116] (.buildSlice 3 1 [y0] [(0,1,(.t 116))])<|
.O 118 .one (.append 3 1 8 (.t 115) (.t 117))<|
.m 12 118<|
.nil)
 (.exit 8))
 .skip))
def T63_12 (E:List (Nat × Blk)) (D:Den) (W:DrawFn) (K11:Nat→Nat→V→V→Int→H→Ans) (R9:Nat→Nat→V→V→H→Ans) (a b:Nat) (c d:V) (e:Int) (f:Bool) (σ:H):Ans:=
 condK f (
 let s1:=newB σ (.cells [(V.int .i64 e)]);
 appK E 1 8 d (V.sl (H.next σ) 0 1 (.ex 1)) s1 fun u2 s3=>
 rtOne u2 (
 R9 a b c u2 s3)) (
 K11 a b c d e σ)
def C63_13:XC:=(.seq (.z (.m 93 15<|
.m 94 5<|
.m 95 13<|
.s 96 1 94 95<|
.l 97 .any 96<|
.u 98 97<|
.b 99 .lss .none (.t 93) (.t 98)<|
.nil)
 (.cond (.tmp 99) .skip
 (.exit 10)))
 (.seq (.block 11 (.ops (.m 102 14<|
.m 103 102<|
.gA 103 true (.p 104 [12,103] (.mov (.t 12))<|
.p 105 [5,103] (.mov (.t 5))<|
.p 106 [13,103] (.mov (.t 13))<|
.p 107 [105,106,103] (.iaddrS 1 (.t 105) (.t 106))<|
.p 108 [107,103] (.load none (.t 107))<|
.p 109 [15,103] (.mov (.t 15))<|
.p 110 [108,109,103] (.iaddrS 1 (.t 108) (.t 109))<|
.op (some 111) .i [110,103] (.load none (.t 110))<|
.op (some 112) .bool [104,111,103] (.call 29 [(.t 104),(.t 111)])<|
.nil) 113 103 112<|
.m 14 113<|
.nil)))
 (.ops (.m 100 15<|
.b 101 .add .none (.t 100) (.i 1)<|
.m 15 101<|
.nil))))
def T63_13 (E:List (Nat × Blk)) (D:Den) (W:DrawFn) (K12:Nat→Nat→V→V→Int→Bool→H→Ans) (R13:Nat→Nat→V→V→Int→Bool→Int→H→Ans) (a b:Nat) (c d:V) (e:Int) (f:Bool) (g:Int) (σ:H):Ans:=
 iaddrSK 1 c e fun b1 o2=>
 ldK E σ b1 o2 fun u3=>
 slenK u3 fun n4=>
 condK (ltF g (Int.ofNat n4)) (
 joinB (fun c5 s6=>
 R13 a b c d e c5 (addF .i64 g (Int.ofNat 1)) s6) fun k7=>
 condK f (
 iaddrSK 1 c e fun b8 o9=>
 ldK E σ b8 o9 fun u10=>
 iaddrSK 1 u10 g fun b11 o12=>
 ldK E σ b11 o12 fun u13=>
 rtInt .i64 u13 fun x14=>
 callK (D 29 [d,(V.int .i64 x14)] σ) fun u15 s16=>
 rtBool u15 fun x17=>
 k7 x17 s16) (
 k7 false σ)) (
 K12 a b c d e f σ)
def S63_0 (a:BS) (b:Int) (c d e:V) (σ:H):St:=⟨[(0,(V.agg [(V.str a),(V.int .i64 b),c,d,e]))],[],[],σ⟩
def S63_1 (a b:Nat) (c:V) (d:Int) (σ:H):St:=⟨[(1,(V.ptr a b)),(5,c),(6,(V.int .i64 d))],[],[],σ⟩
def S63_2 (a b:Nat) (c:V) (d e:Int) (σ:H):St:=⟨[(1,(V.ptr a b)),(5,c),(6,(V.int .i64 d)),(7,(V.int .i64 e))],[],[],σ⟩
def S63_4 (a b:Nat) (c:V) (d e:Int) (σ:H):St:=⟨[(1,(V.ptr a b)),(5,c),(6,(V.int .i64 d)),(8,(V.int .i64 e))],[],[],σ⟩
def S63_6 (a b:Nat) (c:V) (σ:H):St:=⟨[(1,(V.ptr a b)),(5,c)],[],[],σ⟩
def S63_7 (a b:Nat) (c:V) (d:Int) (σ:H):St:=⟨[(1,(V.ptr a b)),(5,c),(11,(V.int .i64 d))],[],[],σ⟩
def S63_8 (a:V) (σ:H):St:=⟨[(12,a)],[],[],σ⟩
def S63_9 (a b:Nat) (c d:V) (σ:H):St:=⟨[(1,(V.ptr a b)),(5,c),(12,d)],[],[],σ⟩
def S63_10 (a b:Nat) (c d:V) (e:Int) (σ:H):St:=⟨[(1,(V.ptr a b)),(5,c),(12,d),(13,(V.int .i64 e))],[],[],σ⟩
def S63_12 (a b:Nat) (c d:V) (e:Int) (f:Bool) (σ:H):St:=⟨[(1,(V.ptr a b)),(5,c),(12,d),(13,(V.int .i64 e)),(14,(V.bool f))],[],[],σ⟩
def S63_13 (a b:Nat) (c d:V) (e:Int) (f:Bool) (g:Int) (σ:H):St:=⟨[(1,(V.ptr a b)),(5,c),(12,d),(13,(V.int .i64 e)),(14,(V.bool f)),(15,(V.int .i64 g))],[],[],σ⟩
theorem P63_0 (cc1:XC) (cc2:XC) (a:BS) (b:Int) (c d e:V) (σ:H) :
 denC E D W N (C63_0 cc1 cc2) (S63_0 a b c d e σ) (Fin63 E) nX (Fin63 E) =
 T63_0 E D W (fun f g h i j σ=>iterK (fun rec s'=>denC E D W N cc2 s' (kX q63d [] [] rec) (blkK 0 (b63c E D W N cc1) nX) (Fin63 E)) N (S63_2 f g h i j σ)) a b c d e σ:=by kernel_rfl
theorem P63_1 (cc3:XC) (cc4:XC) (a b:Nat) (c:V) (d:Int) (σ:H) :
 denC E D W N (C63_1 cc3 cc4) (S63_1 a b c d σ) (Fin63 E) nX (Fin63 E) =
 T63_1 E D W (fun a b c d e σ=>iterK (fun rec s'=>denC E D W N cc4 s' (kX q63e [] [] rec) (blkK 2 (b63c E D W N cc3) nX) (Fin63 E)) N (S63_4 a b c d e σ)) a b c d σ:=by kernel_rfl
theorem P63_2 (cc1:XC) (li2:St→Ans) (a b:Nat) (c:V) (d e:Int) (σ:H) :
 denC E D W N (C63_2 ) (S63_2 a b c d e σ) (kX q63d [] [] li2) (blkK 0 (b63c E D W N cc1) nX) (Fin63 E) =
 T63_2 E D W (fun a b c d σ=>denC E D W N cc1 (S63_1 a b c d σ) (Fin63 E) nX (Fin63 E)) (fun a b c d e σ=>li2 (S63_2 a b c d e σ)) a b c d e σ:=by kernel_rfl
theorem P63_3 (cc6:XC) (cc7:XC) (a b:Nat) (c:V) (d:Int) (σ:H) :
 denC E D W N (C63_3 cc6 cc7) (S63_1 a b c d σ) (Fin63 E) nX (Fin63 E) =
 T63_3 E D W (fun a b c e σ=>iterK (fun rec s'=>denC E D W N cc7 s' (kX q63g [] [] rec) (b63e E D W N cc6) (Fin63 E)) N (S63_7 a b c e σ)) a b c d σ:=by kernel_rfl
theorem P63_4 (cc3:XC) (cc5:XC) (li4:St→Ans) (a b:Nat) (c:V) (d e:Int) (σ:H) :
 denC E D W N (C63_4 cc5) (S63_4 a b c d e σ) (kX q63e [] [] li4) (blkK 2 (b63c E D W N cc3) nX) (Fin63 E) =
 T63_4 E D W (fun a b c d σ=>denC E D W N cc3 (S63_1 a b c d σ) (Fin63 E) nX (Fin63 E)) (fun a b c d e σ=>denC E D W N cc5 (S63_4 a b c d e σ) (kX q63e [] [] li4) (blkK 2 (b63c E D W N cc3) nX) (Fin63 E)) a b c d e σ:=by kernel_rfl
theorem P63_5 (cc3:XC) (li4:St→Ans) (a b:Nat) (c:V) (d e:Int) (σ:H) :
 denC E D W N (C63_5 ) (S63_4 a b c d e σ) (kX q63e [] [] li4) (blkK 2 (b63c E D W N cc3) nX) (Fin63 E) =
 T63_5 E D W (fun a b c d e σ=>li4 (S63_4 a b c d e σ)) a b c d e σ:=by kernel_rfl
theorem P63_6 (cc8:XC) (cc9:XC) (a b:Nat) (c:V) (σ:H) :
 denC E D W N (C63_6 cc8 cc9) (S63_6 a b c σ) (Fin63 E) nX (Fin63 E) =
 T63_6 E D W (fun a b c d σ=>iterK (fun rec s'=>denC E D W N cc9 s' (kX q63f [] [] rec) (b63f E D W N cc8) (Fin63 E)) N (S63_9 a b c d σ)) a b c σ:=by kernel_rfl
theorem P63_7 (cc6:XC) (li7:St→Ans) (a b:Nat) (c:V) (d:Int) (σ:H) :
 denC E D W N (C63_7 ) (S63_7 a b c d σ) (kX q63g [] [] li7) (b63e E D W N cc6) (Fin63 E) =
 T63_7 E D W (fun a b c σ=>denC E D W N cc6 (S63_6 a b c σ) (Fin63 E) nX (Fin63 E)) (fun a b c d σ=>li7 (S63_7 a b c d σ)) a b c d σ:=by kernel_rfl
theorem P63_9 (cc8:XC) (cc10:XC) (li9:St→Ans) (a b:Nat) (c d:V) (σ:H) :
 denC E D W N (C63_9 cc10) (S63_9 a b c d σ) (kX q63f [] [] li9) (b63f E D W N cc8) (Fin63 E) =
 T63_9 E D W (fun d σ=>denC E D W N cc8 (S63_8 d σ) (Fin63 E) nX (Fin63 E)) (fun a b c d e σ=>iterK (fun rec s'=>denC E D W N cc10 s' (kX q63c [] [] rec) (b63a E D W N cc8 li9) (Fin63 E)) N (S63_10 a b c d e σ)) a b c d σ:=by kernel_rfl
theorem P63_10 (cc8:XC) (cc11:XC) (cc12:XC) (cc13:XC) (li9:St→Ans) (li10:St→Ans) (a b:Nat) (c d:V) (e:Int) (σ:H) :
 denC E D W N (C63_10 cc11 cc12 cc13) (S63_10 a b c d e σ) (kX q63c [] [] li10) (b63a E D W N cc8 li9) (Fin63 E) =
 T63_10 E D W (fun a b c d e f g σ=>iterK (fun rec s'=>denC E D W N cc13 s' (kX q63a [] [] rec) (b63d E D W N cc12 cc11 cc8 li10 li9) (Fin63 E)) N (S63_13 a b c d e f g σ)) (fun a b c d σ=>li9 (S63_9 a b c d σ)) a b c d e σ:=by kernel_rfl
theorem P63_11 (cc8:XC) (li9:St→Ans) (li10:St→Ans) (a b:Nat) (c d:V) (e:Int) (σ:H) :
 denC E D W N (C63_11 ) (S63_10 a b c d e σ) (kX q63c [] [] li10) (b63a E D W N cc8 li9) (Fin63 E) =
 T63_11 E D W (fun a b c d e σ=>li10 (S63_10 a b c d e σ)) a b c d e σ:=by kernel_rfl
theorem P63_12 (cc8:XC) (cc11:XC) (li9:St→Ans) (li10:St→Ans) (a b:Nat) (c d:V) (e:Int) (f:Bool) (σ:H) :
 denC E D W N (C63_12 ) (S63_12 a b c d e f σ) (b63b E D W N cc11 cc8 li10 li9) (blkK 9 (b63b E D W N cc11 cc8 li10 li9) (b63a E D W N cc8 li9)) (Fin63 E) =
 T63_12 E D W (fun a b c d e σ=>denC E D W N cc11 (S63_10 a b c d e σ) (kX q63c [] [] li10) (b63a E D W N cc8 li9) (Fin63 E)) (fun a b c d σ=>li9 (S63_9 a b c d σ)) a b c d e f σ:=by kernel_rfl
theorem P63_13 (cc8:XC) (cc11:XC) (cc12:XC) (li9:St→Ans) (li10:St→Ans) (li13:St→Ans) (a b:Nat) (c d:V) (e:Int) (f:Bool) (g:Int) (σ:H) :
 denC E D W N (C63_13 ) (S63_13 a b c d e f g σ) (kX q63a [] [] li13) (b63d E D W N cc12 cc11 cc8 li10 li9) (Fin63 E) =
 T63_13 E D W (fun a b c d e f σ=>denC E D W N cc12 (S63_12 a b c d e f σ) (b63b E D W N cc11 cc8 li10 li9) (blkK 9 (b63b E D W N cc11 cc8 li10 li9) (b63a E D W N cc8 li9)) (Fin63 E)) (fun a b c d e f g σ=>li13 (S63_13 a b c d e f g σ)) a b c d e f g σ:=by kernel_rfl
def J63_8 (E:List (Nat × Blk)) (D:Den) (W:DrawFn) (N:Nat):=T63_8 E D W
theorem JE63_8 (a:V) (σ:H) :
 denC E D W N C63_8 (S63_8 a σ) (Fin63 E) nX (Fin63 E)=J63_8 E D W N a σ:=by kernel_rfl
def J63_11 (E:List (Nat × Blk)) (D:Den) (W:DrawFn) (N:Nat) (R10:Nat→Nat→V→V→Int→H→Ans):=T63_11 E D W R10
theorem JE63_11 (li9:St→Ans) (li10:St→Ans) (a b:Nat) (c d:V) (e:Int) (σ:H) :
 denC E D W N C63_11 (S63_10 a b c d e σ) (kX q63c [] [] li10) (b63a E D W N C63_8 li9) (Fin63 E)=J63_11 E D W N (fun a b c d e σ=>li10 (S63_10 a b c d e σ)) a b c d e σ:=by
 refine(P63_11 E D W N C63_8 li9 li10 a b c d e σ).trans ?_
 kernel_rfl
def J63_12 (R9:Nat→Nat→V→V→H→Ans) (R10:Nat→Nat→V→V→Int→H→Ans):=T63_12 E D W (J63_11 E D W N R10) R9
theorem JE63_12 (li9:St→Ans) (li10:St→Ans) (a b:Nat) (c d:V) (e:Int) (f:Bool) (σ:H) :
 denC E D W N C63_12 (S63_12 a b c d e f σ) (b63b E D W N C63_11 C63_8 li10 li9) (blkK 9 (b63b E D W N C63_11 C63_8 li10 li9) (b63a E D W N C63_8 li9)) (Fin63 E)=J63_12 E D W N (fun a b c d σ=>li9 (S63_9 a b c d σ)) (fun a b c d e σ=>li10 (S63_10 a b c d e σ)) a b c d e f σ:=by
 refine(P63_12 E D W N C63_8 C63_11 li9 li10 a b c d e f σ).trans ?_
 simp only[JE63_11]
 kernel_rfl
def L63_13 (R9:Nat→Nat→V→V→H→Ans) (R10:Nat→Nat→V→V→Int→H→Ans) (n:Nat):Nat→Nat→V→V→Int→Bool→Int→H→Ans:=
 Nat.rec (fun _ _ _ _ _ _ _ _=>none) (fun _ ih=>T63_13 E D W (J63_12 E D W N R9 R10) ih) n
theorem LE63_13 (li9:St→Ans) (li10:St→Ans) (n:Nat):∀(a b:Nat) (c d:V) (e:Int) (f:Bool) (g:Int) (σ:H),
 iterK (fun rec s'=>denC E D W N C63_13 s' (kX q63a [] [] rec) (b63d E D W N C63_12 C63_11 C63_8 li10 li9) (Fin63 E)) n (S63_13 a b c d e f g σ)=L63_13 E D W N (fun a b c d σ=>li9 (S63_9 a b c d σ)) (fun a b c d e σ=>li10 (S63_10 a b c d e σ)) n a b c d e f g σ:=by
 induction n with
 | zero=>intro a b c d e f g σ;rfl
 | succ n ihn=>
  intro a b c d e f g σ
  rw[iterK_succ]
  refine(P63_13 E D W N C63_8 C63_11 C63_12 li9 li10 (iterK (fun rec s'=>denC E D W N C63_13 s' (kX q63a [] [] rec) (b63d E D W N C63_12 C63_11 C63_8 li10 li9) (Fin63 E)) n) a b c d e f g σ).trans ?_
  simp only[ihn,JE63_12]
  kernel_rfl
def L63_10 (R9:Nat→Nat→V→V→H→Ans) (n:Nat):Nat→Nat→V→V→Int→H→Ans:=
 Nat.rec (fun _ _ _ _ _ _=>none) (fun _ ih=>T63_10 E D W (L63_13 E D W N R9 ih N) R9) n
theorem LE63_10 (li9:St→Ans) (n:Nat):∀(a b:Nat) (c d:V) (e:Int) (σ:H),
 iterK (fun rec s'=>denC E D W N (C63_10 C63_11 C63_12 C63_13) s' (kX q63c [] [] rec) (b63a E D W N C63_8 li9) (Fin63 E)) n (S63_10 a b c d e σ)=L63_10 E D W N (fun a b c d σ=>li9 (S63_9 a b c d σ)) n a b c d e σ:=by
 induction n with
 | zero=>intro a b c d e σ;rfl
 | succ n ihn=>
  intro a b c d e σ
  rw[iterK_succ]
  refine(P63_10 E D W N C63_8 C63_11 C63_12 C63_13 li9 (iterK (fun rec s'=>denC E D W N (C63_10 C63_11 C63_12 C63_13) s' (kX q63c [] [] rec) (b63a E D W N C63_8 li9) (Fin63 E)) n) a b c d e σ).trans ?_
  simp only[ihn,LE63_13]
  kernel_rfl
def L63_9 (n:Nat):Nat→Nat→V→V→H→Ans:=
 Nat.rec (fun _ _ _ _ _=>none) (fun _ ih=>T63_9 E D W (J63_8 E D W N ) (L63_10 E D W N ih N)) n
theorem LE63_9 (n:Nat):∀(a b:Nat) (c d:V) (σ:H),
 iterK (fun rec s'=>denC E D W N (C63_9 (C63_10 C63_11 C63_12 C63_13)) s' (kX q63f [] [] rec) (b63f E D W N C63_8) (Fin63 E)) n (S63_9 a b c d σ)=L63_9 E D W N n a b c d σ:=by
 induction n with
 | zero=>intro a b c d σ;rfl
 | succ n ihn=>
  intro a b c d σ
  rw[iterK_succ]
  refine(P63_9 E D W N C63_8 (C63_10 C63_11 C63_12 C63_13) (iterK (fun rec s'=>denC E D W N (C63_9 (C63_10 C63_11 C63_12 C63_13)) s' (kX q63f [] [] rec) (b63f E D W N C63_8) (Fin63 E)) n) a b c d σ).trans ?_
  simp only[ihn,JE63_8,LE63_10]
  kernel_rfl
def J63_6:=T63_6 E D W (L63_9 E D W N N)
theorem JE63_6 (a b:Nat) (c:V) (σ:H) :
 denC E D W N (C63_6 C63_8 (C63_9 (C63_10 C63_11 C63_12 C63_13))) (S63_6 a b c σ) (Fin63 E) nX (Fin63 E)=J63_6 E D W N a b c σ:=by
 refine(P63_6 E D W N C63_8 (C63_9 (C63_10 C63_11 C63_12 C63_13))  a b c σ).trans ?_
 simp only[LE63_9]
 kernel_rfl
def L63_7 (n:Nat):Nat→Nat→V→Int→H→Ans:=
 Nat.rec (fun _ _ _ _ _=>none) (fun _ ih=>T63_7 E D W (J63_6 E D W N ) ih) n
theorem LE63_7 (n:Nat):∀(a b:Nat) (c:V) (d:Int) (σ:H),
 iterK (fun rec s'=>denC E D W N C63_7 s' (kX q63g [] [] rec) (b63e E D W N (C63_6 C63_8 (C63_9 (C63_10 C63_11 C63_12 C63_13)))) (Fin63 E)) n (S63_7 a b c d σ)=L63_7 E D W N n a b c d σ:=by
 induction n with
 | zero=>intro a b c d σ;rfl
 | succ n ihn=>
  intro a b c d σ
  rw[iterK_succ]
  refine(P63_7 E D W N (C63_6 C63_8 (C63_9 (C63_10 C63_11 C63_12 C63_13))) (iterK (fun rec s'=>denC E D W N C63_7 s' (kX q63g [] [] rec) (b63e E D W N (C63_6 C63_8 (C63_9 (C63_10 C63_11 C63_12 C63_13)))) (Fin63 E)) n) a b c d σ).trans ?_
  simp only[ihn,JE63_6]
  kernel_rfl
def J63_3:=T63_3 E D W (L63_7 E D W N N)
theorem JE63_3 (a b:Nat) (c:V) (d:Int) (σ:H) :
 denC E D W N (C63_3 (C63_6 C63_8 (C63_9 (C63_10 C63_11 C63_12 C63_13))) C63_7) (S63_1 a b c d σ) (Fin63 E) nX (Fin63 E)=J63_3 E D W N a b c d σ:=by
 refine(P63_3 E D W N (C63_6 C63_8 (C63_9 (C63_10 C63_11 C63_12 C63_13))) C63_7  a b c d σ).trans ?_
 simp only[LE63_7]
 kernel_rfl
def J63_5 (E:List (Nat × Blk)) (D:Den) (W:DrawFn) (N:Nat) (R4:Nat→Nat→V→Int→Int→H→Ans):=T63_5 E D W R4
theorem JE63_5 (li4:St→Ans) (a b:Nat) (c:V) (d e:Int) (σ:H) :
 denC E D W N C63_5 (S63_4 a b c d e σ) (kX q63e [] [] li4) (blkK 2 (b63c E D W N (C63_3 (C63_6 C63_8 (C63_9 (C63_10 C63_11 C63_12 C63_13))) C63_7)) nX) (Fin63 E)=J63_5 E D W N (fun a b c d e σ=>li4 (S63_4 a b c d e σ)) a b c d e σ:=by
 refine(P63_5 E D W N (C63_3 (C63_6 C63_8 (C63_9 (C63_10 C63_11 C63_12 C63_13))) C63_7) li4 a b c d e σ).trans ?_
 kernel_rfl
def L63_4 (n:Nat):Nat→Nat→V→Int→Int→H→Ans:=
 Nat.rec (fun _ _ _ _ _ _=>none) (fun _ ih=>T63_4 E D W (J63_3 E D W N ) (J63_5 E D W N ih)) n
theorem LE63_4 (n:Nat):∀(a b:Nat) (c:V) (d e:Int) (σ:H),
 iterK (fun rec s'=>denC E D W N (C63_4 C63_5) s' (kX q63e [] [] rec) (blkK 2 (b63c E D W N (C63_3 (C63_6 C63_8 (C63_9 (C63_10 C63_11 C63_12 C63_13))) C63_7)) nX) (Fin63 E)) n (S63_4 a b c d e σ)=L63_4 E D W N n a b c d e σ:=by
 induction n with
 | zero=>intro a b c d e σ;rfl
 | succ n ihn=>
  intro a b c d e σ
  rw[iterK_succ]
  refine(P63_4 E D W N (C63_3 (C63_6 C63_8 (C63_9 (C63_10 C63_11 C63_12 C63_13))) C63_7) C63_5 (iterK (fun rec s'=>denC E D W N (C63_4 C63_5) s' (kX q63e [] [] rec) (blkK 2 (b63c E D W N (C63_3 (C63_6 C63_8 (C63_9 (C63_10 C63_11 C63_12 C63_13))) C63_7)) nX) (Fin63 E)) n) a b c d e σ).trans ?_
  simp only[ihn,JE63_3,JE63_5]
  kernel_rfl
def J63_1:=T63_1 E D W (L63_4 E D W N N)
theorem JE63_1 (a b:Nat) (c:V) (d:Int) (σ:H) :
 denC E D W N (C63_1 (C63_3 (C63_6 C63_8 (C63_9 (C63_10 C63_11 C63_12 C63_13))) C63_7) (C63_4 C63_5)) (S63_1 a b c d σ) (Fin63 E) nX (Fin63 E)=J63_1 E D W N a b c d σ:=by
 refine(P63_1 E D W N (C63_3 (C63_6 C63_8 (C63_9 (C63_10 C63_11 C63_12 C63_13))) C63_7) (C63_4 C63_5)  a b c d σ).trans ?_
 simp only[LE63_4]
 kernel_rfl
def L63_2 (n:Nat):Nat→Nat→V→Int→Int→H→Ans:=
 Nat.rec (fun _ _ _ _ _ _=>none) (fun _ ih=>T63_2 E D W (J63_1 E D W N ) ih) n
theorem LE63_2 (n:Nat):∀(a b:Nat) (c:V) (d e:Int) (σ:H),
 iterK (fun rec s'=>denC E D W N C63_2 s' (kX q63d [] [] rec) (blkK 0 (b63c E D W N (C63_1 (C63_3 (C63_6 C63_8 (C63_9 (C63_10 C63_11 C63_12 C63_13))) C63_7) (C63_4 C63_5))) nX) (Fin63 E)) n (S63_2 a b c d e σ)=L63_2 E D W N n a b c d e σ:=by
 induction n with
 | zero=>intro a b c d e σ;rfl
 | succ n ihn=>
  intro a b c d e σ
  rw[iterK_succ]
  refine(P63_2 E D W N (C63_1 (C63_3 (C63_6 C63_8 (C63_9 (C63_10 C63_11 C63_12 C63_13))) C63_7) (C63_4 C63_5)) (iterK (fun rec s'=>denC E D W N C63_2 s' (kX q63d [] [] rec) (blkK 0 (b63c E D W N (C63_1 (C63_3 (C63_6 C63_8 (C63_9 (C63_10 C63_11 C63_12 C63_13))) C63_7) (C63_4 C63_5))) nX) (Fin63 E)) n) a b c d e σ).trans ?_
  simp only[ihn,JE63_1]
  kernel_rfl
def J63_0:=T63_0 E D W (L63_2 E D W N N)
theorem JE63_0 (a:BS) (b:Int) (c d e:V) (σ:H) :
 denC E D W N (C63_0 (C63_1 (C63_3 (C63_6 C63_8 (C63_9 (C63_10 C63_11 C63_12 C63_13))) C63_7) (C63_4 C63_5)) C63_2) (S63_0 a b c d e σ) (Fin63 E) nX (Fin63 E)=J63_0 E D W N a b c d e σ:=by
 refine(P63_0 E D W N (C63_1 (C63_3 (C63_6 C63_8 (C63_9 (C63_10 C63_11 C63_12 C63_13))) C63_7) (C63_4 C63_5)) C63_2  a b c d e σ).trans ?_
 simp only[LE63_2]
 kernel_rfl
def F63 (args:List V) (σ:H):Ans:=
 rtCons args fun x1 l2=>
 rtAgg x1 fun l3=>
 xcS l3 fun x6 l5=>
 xcI .i64 l5 fun x9 l8=>
 rtCons l8 fun x10 l11=>
 rtCons l11 fun x12 l13=>
 rtCons l13 fun x14 l15=>
 rtNil l15 (
 rtNil l2 (
 J63_0 E D W N x6 x9 x10 x12 x14 σ))
def A63:XFn:=⟨120,[y10],[(.tmp 2),(.tmp 3),(.tmp 4)],(C63_0 (C63_1 (C63_3 (C63_6 C63_8 (C63_9 (C63_10 C63_11 C63_12 C63_13))) C63_7) (C63_4 C63_5)) C63_2)⟩
theorem FE63 (args:List V) (σ:H):runX E D W N A63 args σ=F63 E D W N args σ:=by
 unfold F63
 simp only[←JE63_0]
 kernel_rfl
def G64_0:List AOper:=[⟨(some 26),.mov (.tmp 0),none⟩,⟨(some 27),.mov (.tmp 0),none⟩,⟨(some 28),.nilck (.tmp 27),none⟩,⟨(some 29),.faddr 0 (.tmp 28),none⟩,⟨(some 30),.faddr 3 (.tmp 29),none⟩,⟨(some 31),.load none (.tmp 30),none⟩,⟨(some 32),.mov (.tmp 0),none⟩,⟨(some 33),.nilck (.tmp 32),none⟩,⟨(some 34),.faddr 0 (.tmp 33),none⟩,⟨(some 35),.load (some 5) (.tmp 34),none⟩,⟨(some 36),.faddr 1 (.tmp 7),none⟩,⟨(some 37),.load none (.tmp 36),none⟩,⟨(some 38),.call 126 [(.tmp 35),(.tmp 37)],none⟩,⟨(some 39),.iaddrS 1 (.tmp 31) (.tmp 38),none⟩,⟨(some 40),.load none (.tmp 39),none⟩,⟨(some 41),.mov (.tmp 2),none⟩,⟨(some 42),.call 64 [(.tmp 26),(.tmp 40),(.tmp 41)],none⟩,⟨(some 8),.mov (.tmp 42),none⟩]
def H64_0:List DP:=[⟨0,[0]⟩,⟨0,[0]⟩,⟨2,[27]⟩,⟨6,[28]⟩,⟨14,[29]⟩,⟨30,[30]⟩,⟨0,[0]⟩,⟨64,[32]⟩,⟨192,[33]⟩,⟨448,[34]⟩,⟨0,[7]⟩,⟨1024,[36]⟩,⟨4032,[35,37]⟩,⟨8190,[31,38]⟩,⟨16382,[39]⟩,⟨0,[2]⟩,⟨65535,[26,40,41]⟩,⟨131071,[42]⟩]
def Fin64 (E:List (Nat × Blk)):St→Ans:=fun s=>resK E s [(.tmp 6)] fun l=>some (oneV l,s.σ)
def C64_0 (cc1:XC):XC:=(.z (.q 6 0<|
.nil)
 (.seq (.z (.m 10 0<|
.n 11 10<|
.f 12 6 11<|
.l 13 .i 12<|
.b 14 .neq .none (.t 13) (.i 0)<|
.nil)
 (.cond (.tmp 14) (.z (.q 6 0<|
.nil)
 .ret)
 .skip))
 (.z (.m 15 0<|
.n 16 15<|
.f 17 0 16<|
.f 18 4 17<|
.l 19 .any 18<|
.m 20 1<|
.s 21 16 19 20<|
.O 22 y4 (.load (some 16) (.t 21))<|
.p 7 [] (.alloc 183 [y0,y7,y2,y0,y0,y2,y2,y2,y2,y0,y0,V.nils,V.nils,y0,y2,y0])<|
.op none y4 [7,22] (.store 16 (.t 7) (.t 22))<|
.nil)
 (.z (.q 8 0<|
.nil)
 (.seq (.z (.f 23 0 7<|
.l 24 .i 23<|
.b 25 .eql .none (.t 24) (.i 11)<|
.nil)
 (.cond (.tmp 25) (.keep [(0,.ptr),(2,.i),(7,.ptr)] [] [] (.gdraw G64_0 H64_0 [(0,.ptr),(7,.ptr),(8,.i)]))
 (.ops (.m 43 0<|
.O 44 y4 (.load (some 16) (.t 7))<|
.m 45 2<|
.k 46 .i 127 [(.t 43),(.t 44),(.t 45)]<|
.m 8 46<|
.nil))))
 (.keep [(0,.ptr),(7,.ptr),(8,.i)] [] [] cc1))))))
def T64_0 (K1:Nat→Nat→Nat→Nat→Int→H→Ans) (a b:Nat) (c d:Int) (σ:H):Ans:=
 ldK E σ a (Nat.add b 6) fun u1=>
 rtInt .i64 u1 fun x2=>
 condK (not (eqF x2 (Int.ofNat 0))) (
 some ((V.int .i64 (Int.ofNat 0)),σ)) (
 ldK E σ a (Nat.add b 4) fun u3=>
 iaddrSK 16 u3 c fun b4 o5=>
 ldnK E σ b4 o5 16 fun l6=>
 xcI .i64 l6 fun x9 l8=>
 xcS l8 fun x12 l11=>
 xcB l11 fun x15 l14=>
 xcI .i64 l14 fun x18 l17=>
 xcI .i64 l17 fun x21 l20=>
 xcB l20 fun x24 l23=>
 xcB l23 fun x27 l26=>
 xcB l26 fun x30 l29=>
 xcB l29 fun x33 l32=>
 xcI .i64 l32 fun x36 l35=>
 xcI .i64 l35 fun x39 l38=>
 rtCons l38 fun x40 l41=>
 rtCons l41 fun x42 l43=>
 xcI .i64 l43 fun x46 l45=>
 xcB l45 fun x49 l48=>
 xcI .i64 l48 fun x52 l51=>
 rtNil l51 (
 let s53:=newB σ (.cells [(V.int .i64 (Int.ofNat 0)),(V.str ⟨0,0⟩),(V.bool false),(V.int .i64 (Int.ofNat 0)),(V.int .i64 (Int.ofNat 0)),(V.bool false),(V.bool false),(V.bool false),(V.bool false),(V.int .i64 (Int.ofNat 0)),(V.int .i64 (Int.ofNat 0)),V.nils,V.nils,(V.int .i64 (Int.ofNat 0)),(V.bool false),(V.int .i64 (Int.ofNat 0))]);
 stK 16 (H.next σ) 0 (V.agg [(V.int .i64 x9),(V.str x12),(V.bool x15),(V.int .i64 x18),(V.int .i64 x21),(V.bool x24),(V.bool x27),(V.bool x30),(V.bool x33),(V.int .i64 x36),(V.int .i64 x39),x40,x42,(V.int .i64 x46),(V.bool x49),(V.int .i64 x52)]) s53 fun s54=>
 ldK E s54 (H.next σ) 0 fun u55=>
 rtInt .i64 u55 fun x56=>
 condK (eqF x56 (Int.ofNat 11)) (
 gdrawK (W G64_0 H64_0 [(0,(V.ptr a b)),(2,(V.int .i64 d)),(7,(V.ptr (H.next σ) 0))] s54) fun e57 s58=>
 getL e57 0 fun u59=>
 rtPtr u59 fun b60 o61=>
 getL e57 7 fun u62=>
 rtPtr u62 fun b63 o64=>
 getL e57 8 fun u65=>
 rtInt .i64 u65 fun x66=>
 K1 b60 o61 b63 o64 x66 s58) (
 ldnK E s54 (H.next σ) 0 16 fun l67=>
 xcI .i64 l67 fun x70 l69=>
 xcS l69 fun x73 l72=>
 xcB l72 fun x76 l75=>
 xcI .i64 l75 fun x79 l78=>
 xcI .i64 l78 fun x82 l81=>
 xcB l81 fun x85 l84=>
 xcB l84 fun x88 l87=>
 xcB l87 fun x91 l90=>
 xcB l90 fun x94 l93=>
 xcI .i64 l93 fun x97 l96=>
 xcI .i64 l96 fun x100 l99=>
 rtCons l99 fun x101 l102=>
 rtCons l102 fun x103 l104=>
 xcI .i64 l104 fun x107 l106=>
 xcB l106 fun x110 l109=>
 xcI .i64 l109 fun x113 l112=>
 rtNil l112 (
 callK (D 127 [(V.ptr a b),(V.agg [(V.int .i64 x70),(V.str x73),(V.bool x76),(V.int .i64 x79),(V.int .i64 x82),(V.bool x85),(V.bool x88),(V.bool x91),(V.bool x94),(V.int .i64 x97),(V.int .i64 x100),x101,x103,(V.int .i64 x107),(V.bool x110),(V.int .i64 x113)]),(V.int .i64 d)] s54) fun u114 s115=>
 rtInt .i64 u114 fun x116=>
 K1 a b (H.next σ) 0 x116 s115))))
def C64_1 (cc2:XC) (cc3:XC):XC:=(.seq (.z (.m 47 0<|
.n 48 47<|
.f 49 6 48<|
.l 50 .i 49<|
.b 51 .eql .none (.t 50) (.i 0)<|
.m 52 51<|
.gA 52 true (.p 53 [7,52] (.faddr 2 (.t 7))<|
.p 54 [53,52] (.faddr 0 (.t 53))<|
.op (some 55) .bool [54,52] (.load none (.t 54))<|
.nil) 56 52 55<|
.nil)
 (.cond (.tmp 56) (.z (.q 9 0<|
.nil)
 (.seq (.block 0 (.z (.f 58 2 7<|
.f 59 2 58<|
.l 60 .i 59<|
.b 61 .eql .none (.t 60) (.i 2)<|
.m 57 61<|
.nil)
 (.cond (.tmp 57) (.ops (.q 9 1<|
.nil))
 (.z (.f 63 2 7<|
.f 64 2 63<|
.l 65 .i 64<|
.b 66 .eql .none (.t 65) (.i 0)<|
.m 67 66<|
.gA 67 true (.p 68 [0,67] y14<|
.p 69 [68,67] (.nilck (.t 68))<|
.p 70 [69,67] (.faddr 0 (.t 69))<|
.p 71 [70,67] (.faddr 1 (.t 70))<|
.op (some 72) .i [71,67] (.load none (.t 71))<|
.p 73 [72,67] (.bin .neq .none (.t 72) (.i 0))<|
.nil) 74 67 73<|
.m 62 74<|
.nil)
 (.cond (.tmp 62) (.ops (.m 75 0<|
.m 76 8<|
.k 77 .i 128 [(.t 75),(.t 76)]<|
.m 9 77<|
.nil))
 .skip)))))
 (.keep [(0,.ptr),(7,.ptr),(8,.i),(9,.i)] [] [] cc3)))
 .skip))
 (.keep [(8,.i)] [] [] cc2))
def T64_1 (E:List (Nat × Blk)) (D:Den) (W:DrawFn) (K2:Int→H→Ans) (K3:Nat→Nat→Nat→Nat→Int→Int→H→Ans) (a b c d:Nat) (e:Int) (σ:H):Ans:=
 ldK E σ a (Nat.add b 6) fun u1=>
 rtInt .i64 u1 fun x2=>
 joinB (fun c3 s4=>
 condK c3 (
 ldK E s4 c (Nat.add (Nat.add d 2) 2) fun u6=>
 rtInt .i64 u6 fun x7=>
 condK (eqF x7 (Int.ofNat 2)) (
 K3 a b c d e (Int.ofNat 1) s4) (
 ldK E s4 c (Nat.add (Nat.add d 2) 2) fun u8=>
 rtInt .i64 u8 fun x9=>
 joinB (fun c10 s11=>
 condK c10 (
 callK (D 128 [(V.ptr a b),(V.int .i64 e)] s11) fun u13 s14=>
 rtInt .i64 u13 fun x15=>
 K3 a b c d e x15 s14) (
 K3 a b c d e (Int.ofNat 0) s11)) fun k12=>
 condK (eqF x9 (Int.ofNat 0)) (
 ldK E s4 a (Nat.add b 1) fun u16=>
 rtInt .i64 u16 fun x17=>
 k12 (not (eqF x17 (Int.ofNat 0))) s4) (
 k12 false s4))) (
 K2 e s4)) fun k5=>
 condK (eqF x2 (Int.ofNat 0)) (
 ldK E σ c (Nat.add d 2) fun u18=>
 rtBool u18 fun x19=>
 k5 x19 σ) (
 k5 false σ)
def C64_2:XC:=(.z (.m 85 8<|
.m 6 85<|
.nil)
 .ret)
def T64_2 (E:List (Nat × Blk)) (D:Den) (W:DrawFn) (a:Int) (σ:H):Ans:=
 some ((V.int .i64 a),σ)
def C64_3:XC:=(.ops (.m 78 0<|
.m 79 8<|
.f 80 2 7<|
.f 81 1 80<|
.l 82 .i 81<|
.m 83 9<|
.k 84 y11 129 [(.t 78),(.t 79),(.t 82),(.t 83)]<|
.nil))
def T64_3 (E:List (Nat × Blk)) (D:Den) (W:DrawFn) (K2:Int→H→Ans) (a b c d:Nat) (e f:Int) (σ:H):Ans:=
 ldK E σ c (Nat.add (Nat.add d 2) 1) fun u1=>
 rtInt .i64 u1 fun x2=>
 callK (D 129 [(V.ptr a b),(V.int .i64 e),(V.int .i64 x2),(V.int .i64 f)] σ) fun u3 s4=>
 rtTup u3 fun l5=>
 rtNil l5 (
 K2 e s4)
def S64_0 (a b:Nat) (c d:Int) (σ:H):St:=⟨[(0,(V.ptr a b)),(1,(V.int .i64 c)),(2,(V.int .i64 d))],[],[],σ⟩
def S64_1 (a b c d:Nat) (e:Int) (σ:H):St:=⟨[(0,(V.ptr a b)),(7,(V.ptr c d)),(8,(V.int .i64 e))],[],[],σ⟩
def S64_2 (a:Int) (σ:H):St:=⟨[(8,(V.int .i64 a))],[],[],σ⟩
def S64_3 (a b c d:Nat) (e f:Int) (σ:H):St:=⟨[(0,(V.ptr a b)),(7,(V.ptr c d)),(8,(V.int .i64 e)),(9,(V.int .i64 f))],[],[],σ⟩
theorem P64_0 (cc1:XC) (a b:Nat) (c d:Int) (σ:H) :
 denC E D W N (C64_0 cc1) (S64_0 a b c d σ) (Fin64 E) nX (Fin64 E) =
 T64_0 E D W (fun a b e f g σ=>denC E D W N cc1 (S64_1 a b e f g σ) (Fin64 E) nX (Fin64 E)) a b c d σ:=by kernel_rfl
theorem P64_1 (cc2:XC) (cc3:XC) (a b c d:Nat) (e:Int) (σ:H) :
 denC E D W N (C64_1 cc2 cc3) (S64_1 a b c d e σ) (Fin64 E) nX (Fin64 E) =
 T64_1 E D W (fun e σ=>denC E D W N cc2 (S64_2 e σ) (Fin64 E) nX (Fin64 E)) (fun a b c d e f σ=>denC E D W N cc3 (S64_3 a b c d e f σ) (dX E D W N (.keep [(8,.i)] [] [] cc2) (Fin64 E) nX (Fin64 E)) nX (Fin64 E)) a b c d e σ:=by kernel_rfl
theorem P64_3 (cc2:XC) (a b c d:Nat) (e f:Int) (σ:H) :
 denC E D W N (C64_3 ) (S64_3 a b c d e f σ) (dX E D W N (.keep [(8,.i)] [] [] cc2) (Fin64 E) nX (Fin64 E)) nX (Fin64 E) =
 T64_3 E D W (fun e σ=>denC E D W N cc2 (S64_2 e σ) (Fin64 E) nX (Fin64 E)) a b c d e f σ:=by kernel_rfl
def J64_2 (E:List (Nat × Blk)) (D:Den) (W:DrawFn) (N:Nat):=T64_2 E D W
theorem JE64_2 (a:Int) (σ:H) :
 denC E D W N C64_2 (S64_2 a σ) (Fin64 E) nX (Fin64 E)=J64_2 E D W N a σ:=by kernel_rfl
def J64_3:=T64_3 E D W (J64_2 E D W N )
theorem JE64_3 (a b c d:Nat) (e f:Int) (σ:H) :
 denC E D W N C64_3 (S64_3 a b c d e f σ) (dX E D W N (.keep [(8,.i)] [] [] C64_2) (Fin64 E) nX (Fin64 E)) nX (Fin64 E)=J64_3 E D W N a b c d e f σ:=by
 refine(P64_3 E D W N C64_2  a b c d e f σ).trans ?_
 simp only[JE64_2]
 kernel_rfl
def J64_1:=T64_1 E D W (J64_2 E D W N ) (J64_3 E D W N )
theorem JE64_1 (a b c d:Nat) (e:Int) (σ:H) :
 denC E D W N (C64_1 C64_2 C64_3) (S64_1 a b c d e σ) (Fin64 E) nX (Fin64 E)=J64_1 E D W N a b c d e σ:=by
 refine(P64_1 E D W N C64_2 C64_3  a b c d e σ).trans ?_
 simp only[JE64_2,JE64_3]
 kernel_rfl
def J64_0:=T64_0 E D W (J64_1 E D W N )
theorem JE64_0 (a b:Nat) (c d:Int) (σ:H) :
 denC E D W N (C64_0 (C64_1 C64_2 C64_3)) (S64_0 a b c d σ) (Fin64 E) nX (Fin64 E)=J64_0 E D W N a b c d σ:=by
 refine(P64_0 E D W N (C64_1 C64_2 C64_3)  a b c d σ).trans ?_
 simp only[JE64_1]
 kernel_rfl
def F64 (args:List V) (σ:H):Ans:=
 rtCons args fun x1 l2=>
 rtPtr x1 fun b3 o4=>
 xcI .i64 l2 fun x7 l6=>
 xcI .i64 l6 fun x10 l9=>
 rtNil l9 (
 J64_0 E D W N b3 o4 x7 x10 σ)
def A64:XFn:=⟨86,[.ptr,.i,.i],[(.tmp 6)],(C64_0 (C64_1 C64_2 C64_3))⟩
theorem FE64 (args:List V) (σ:H):runX E D W N A64 args σ=F64 E D W N args σ:=by
 unfold F64
 simp only[←JE64_0]
 kernel_rfl
def Fin67 (E:List (Nat × Blk)):St→Ans:=fun s=>resK E s [(.tmp 4)] fun l=>some (oneV l,s.σ)
def C67_0:XC:=(.z (.c 4 y2<|
.nil)
 (.z (.m 5 0<|
.m 6 1<|
.k 7 .i 137 [(.t 5),(.t 6)]<|
.b 8 .geq .none (.t 7) (.i 0)<|
.m 4 8<|
.nil)
 .ret))
def T67_0 (E:List (Nat × Blk)) (D:Den) (W:DrawFn) (a b:V) (σ:H):Ans:=
 callK (D 137 [a,b] σ) fun u1 s2=>
 rtInt .i64 u1 fun x3=>
 some ((V.bool (leF (Int.ofNat 0) x3)),s2)
def S67_0 (a b:V) (σ:H):St:=⟨[(0,a),(1,b)],[],[],σ⟩
def J67_0 (E:List (Nat × Blk)) (D:Den) (W:DrawFn) (N:Nat):=T67_0 E D W
theorem JE67_0 (a b:V) (σ:H) :
 denC E D W N C67_0 (S67_0 a b σ) (Fin67 E) nX (Fin67 E)=J67_0 E D W N a b σ:=by kernel_rfl
def F67 (args:List V) (σ:H):Ans:=
 rtCons args fun x1 l2=>
 rtCons l2 fun x3 l4=>
 rtNil l4 (
 J67_0 E D W N x1 x3 σ)
def A67:XFn:=⟨9,[.any,.any],[(.tmp 4)],C67_0⟩
theorem FE67 (args:List V) (σ:H):runX E D W N A67 args σ=F67 E D W N args σ:=by
 unfold F67
 simp only[←JE67_0]
 kernel_rfl
def Fin68 (E:List (Nat × Blk)):St→Ans:=fun s=>resK E s [(.tmp 2)] fun l=>some (oneV l,s.σ)
def C68_0:XC:=(.z (.P 1 (.box 145 (.t 0))<|
.c 2 y2<|
.nil)
 (.z (.f 3 10 1<|
.l 4 .i 3<|
.b 5 .lss .none (.t 4) (.i 0)<|
.m 6 5<|
.gO 6 false (.p 7 [1,6] (.faddr 10 (.t 1))<|
.op (some 8) .i [7,6] (.load none (.t 7))<|
.p 9 [1,6] (.faddr 9 (.t 1))<|
.p 10 [9,6] (.load none (.t 9))<|
.p 11 [10,6] (.len false (.t 10))<|
.p 12 [1,6] (.faddr 8 (.t 1))<|
.p 13 [12,6] (.load none (.t 12))<|
.p 14 [13,6] (.len false (.t 13))<|
.p 15 [11,14,6] (.bin .add .none (.t 11) (.t 14))<|
.p 16 [8,15,6] (.bin .gtr .none (.t 8) (.t 15))<|
.nil) 17 6 16<|
.m 2 17<|
.nil)
 .ret))
def T68_0 (E:List (Nat × Blk)) (D:Den) (W:DrawFn) (a:Int) (b:V) (c d e f:Bool) (g h:Int) (i j:V) (k:Int) (l:Bool) (m:Int) (σ:H):Ans:=
 nbK [(V.int .i64 a),b,(V.bool c),(V.bool d),(V.bool e),(V.bool f),(V.int .i64 g),(V.int .i64 h),i,j,(V.int .i64 k),(V.bool l),(V.int .i64 m)] σ fun s1=>
 ldK E s1 (H.next σ) 10 fun u2=>
 rtInt .i64 u2 fun x3=>
 joinB (fun c4 s5=>
 some ((V.bool c4),s5)) fun k6=>
 condK (ltF x3 (Int.ofNat 0)) (
 k6 true s1) (
 ldK E s1 (H.next σ) 10 fun u7=>
 rtInt .i64 u7 fun x8=>
 ldK E s1 (H.next σ) 9 fun u9=>
 slenK u9 fun n10=>
 ldK E s1 (H.next σ) 8 fun u11=>
 slenK u11 fun n12=>
 k6 (ltF (addF .i64 (Int.ofNat n10) (Int.ofNat n12)) x8) s1)
def S68_0 (a:Int) (b:V) (c d e f:Bool) (g h:Int) (i j:V) (k:Int) (l:Bool) (m:Int) (σ:H):St:=⟨[(0,(V.agg [(V.int .i64 a),b,(V.bool c),(V.bool d),(V.bool e),(V.bool f),(V.int .i64 g),(V.int .i64 h),i,j,(V.int .i64 k),(V.bool l),(V.int .i64 m)]))],[],[],σ⟩
def J68_0 (E:List (Nat × Blk)) (D:Den) (W:DrawFn) (N:Nat):=T68_0 E D W
theorem JE68_0 (a:Int) (b:V) (c d e f:Bool) (g h:Int) (i j:V) (k:Int) (l:Bool) (m:Int) (σ:H) :
 denC E D W N C68_0 (S68_0 a b c d e f g h i j k l m σ) (Fin68 E) nX (Fin68 E)=J68_0 E D W N a b c d e f g h i j k l m σ:=by kernel_rfl
def F68 (args:List V) (σ:H):Ans:=
 rtCons args fun x1 l2=>
 rtAgg x1 fun l3=>
 xcI .i64 l3 fun x6 l5=>
 rtCons l5 fun x7 l8=>
 xcB l8 fun x11 l10=>
 xcB l10 fun x14 l13=>
 xcB l13 fun x17 l16=>
 xcB l16 fun x20 l19=>
 xcI .i64 l19 fun x23 l22=>
 xcI .i64 l22 fun x26 l25=>
 rtCons l25 fun x27 l28=>
 rtCons l28 fun x29 l30=>
 xcI .i64 l30 fun x33 l32=>
 xcB l32 fun x36 l35=>
 xcI .i64 l35 fun x39 l38=>
 rtNil l38 (
 rtNil l2 (
 J68_0 E D W N x6 x7 x11 x14 x17 x20 x23 x26 x27 x29 x33 x36 x39 σ))
def A68:XFn:=⟨18,[y5],[(.tmp 2)],C68_0⟩
theorem FE68 (args:List V) (σ:H):runX E D W N A68 args σ=F68 E D W N args σ:=by
 unfold F68
 simp only[←JE68_0]
 kernel_rfl
def q88a:List (Nat × XTy):=[(1,.ptr),(3,.i),(4,.i)]
def Fin88 (E:List (Nat × Blk)):St→Ans:=fun s=>resK E s [(.tmp 2)] fun l=>some (oneV l,s.σ)
def b88a (c0:XC):Nat→St→Ans:=blkK 0 (dX E D W N (.keep [(3,.i)] [] [] c0) (Fin88 E) nX (Fin88 E)) nX
def C88_0 (cc1:XC) (cc2:XC):XC:=(.z (.P 1 (.box 38 (.t 0))<|
.q 2 0<|
.nil)
 (.z (.q 3 1<|
.nil)
 (.seq (.z (.q 4 0<|
.nil)
 (.block 0 (.loop q88a [] [] cc2)))
 (.keep [(3,.i)] [] [] cc1))))
def T88_0 (E:List (Nat × Blk)) (D:Den) (W:DrawFn) (K2:Nat→Nat→Int→Int→H→Ans) (a b:Int) (c d:V) (e:Int) (f:V) (σ:H):Ans:=
 nbK [(V.int .i64 a),(V.int .i64 b),c,d,(V.int .i64 e),f] σ fun s1=>
 K2 (H.next σ) 0 (Int.ofNat 1) (Int.ofNat 0) s1
def C88_1:XC:=(.z (.m 20 3<|
.m 2 20<|
.nil)
 .ret)
def T88_1 (E:List (Nat × Blk)) (D:Den) (W:DrawFn) (a:Int) (σ:H):Ans:=
 some ((V.int .i64 a),σ)
def C88_2:XC:=(.seq (.z (.m 5 4<|
.f 6 3 1<|
.l 7 .any 6<|
.u 8 7<|
.b 9 .lss .none (.t 5) (.t 8)<|
.nil)
 y21)
 (.seq (.block 1 (.ops (.m 12 3<|
.f 13 3 1<|
.l 14 .any 13<|
.m 15 4<|
.s 16 6 14 15<|
.O 17 y1 (.load (some 6) (.t 16))<|
.k 18 .i 88 [(.t 17)]<|
.b 19 .add .none (.t 12) (.t 18)<|
.m 3 19<|
.nil)))
 (.ops (.m 10 4<|
.b 11 .add .none (.t 10) (.i 1)<|
.m 4 11<|
.nil))))
def T88_2 (E:List (Nat × Blk)) (D:Den) (W:DrawFn) (K1:Int→H→Ans) (R2:Nat→Nat→Int→Int→H→Ans) (a b:Nat) (c d:Int) (σ:H):Ans:=
 ldK E σ a (Nat.add b 3) fun u1=>
 slenK u1 fun n2=>
 condK (ltF d (Int.ofNat n2)) (
 ldK E σ a (Nat.add b 3) fun u3=>
 iaddrSK 6 u3 d fun b4 o5=>
 ldnK E σ b4 o5 6 fun l6=>
 xcI .i64 l6 fun x9 l8=>
 xcI .i64 l8 fun x12 l11=>
 rtCons l11 fun x13 l14=>
 rtCons l14 fun x15 l16=>
 xcI .i64 l16 fun x19 l18=>
 rtCons l18 fun x20 l21=>
 rtNil l21 (
 callK (D 88 [(V.agg [(V.int .i64 x9),(V.int .i64 x12),x13,x15,(V.int .i64 x19),x20])] σ) fun u22 s23=>
 rtInt .i64 u22 fun x24=>
 R2 a b (addF .i64 c x24) (addF .i64 d (Int.ofNat 1)) s23)) (
 K1 c σ)
def S88_0 (a b:Int) (c d:V) (e:Int) (f:V) (σ:H):St:=⟨[(0,(V.agg [(V.int .i64 a),(V.int .i64 b),c,d,(V.int .i64 e),f]))],[],[],σ⟩
def S88_1 (a:Int) (σ:H):St:=⟨[(3,(V.int .i64 a))],[],[],σ⟩
def S88_2 (a b:Nat) (c d:Int) (σ:H):St:=⟨[(1,(V.ptr a b)),(3,(V.int .i64 c)),(4,(V.int .i64 d))],[],[],σ⟩
theorem P88_0 (cc1:XC) (cc2:XC) (a b:Int) (c d:V) (e:Int) (f:V) (σ:H) :
 denC E D W N (C88_0 cc1 cc2) (S88_0 a b c d e f σ) (Fin88 E) nX (Fin88 E) =
 T88_0 E D W (fun g h i j σ=>iterK (fun rec s'=>denC E D W N cc2 s' (kX q88a [] [] rec) (b88a E D W N cc1) (Fin88 E)) N (S88_2 g h i j σ)) a b c d e f σ:=by kernel_rfl
theorem P88_2 (cc1:XC) (li2:St→Ans) (a b:Nat) (c d:Int) (σ:H) :
 denC E D W N (C88_2 ) (S88_2 a b c d σ) (kX q88a [] [] li2) (b88a E D W N cc1) (Fin88 E) =
 T88_2 E D W (fun c σ=>denC E D W N cc1 (S88_1 c σ) (Fin88 E) nX (Fin88 E)) (fun a b c d σ=>li2 (S88_2 a b c d σ)) a b c d σ:=by kernel_rfl
def J88_1 (E:List (Nat × Blk)) (D:Den) (W:DrawFn) (N:Nat):=T88_1 E D W
theorem JE88_1 (a:Int) (σ:H) :
 denC E D W N C88_1 (S88_1 a σ) (Fin88 E) nX (Fin88 E)=J88_1 E D W N a σ:=by kernel_rfl
def L88_2 (n:Nat):Nat→Nat→Int→Int→H→Ans:=
 Nat.rec (fun _ _ _ _ _=>none) (fun _ ih=>T88_2 E D W (J88_1 E D W N ) ih) n
theorem LE88_2 (n:Nat):∀(a b:Nat) (c d:Int) (σ:H),
 iterK (fun rec s'=>denC E D W N C88_2 s' (kX q88a [] [] rec) (b88a E D W N C88_1) (Fin88 E)) n (S88_2 a b c d σ)=L88_2 E D W N n a b c d σ:=by
 induction n with
 | zero=>intro a b c d σ;rfl
 | succ n ihn=>
  intro a b c d σ
  rw[iterK_succ]
  refine(P88_2 E D W N C88_1 (iterK (fun rec s'=>denC E D W N C88_2 s' (kX q88a [] [] rec) (b88a E D W N C88_1) (Fin88 E)) n) a b c d σ).trans ?_
  simp only[ihn,JE88_1]
  kernel_rfl
def J88_0:=T88_0 E D W (L88_2 E D W N N)
theorem JE88_0 (a b:Int) (c d:V) (e:Int) (f:V) (σ:H) :
 denC E D W N (C88_0 C88_1 C88_2) (S88_0 a b c d e f σ) (Fin88 E) nX (Fin88 E)=J88_0 E D W N a b c d e f σ:=by
 refine(P88_0 E D W N C88_1 C88_2  a b c d e f σ).trans ?_
 simp only[LE88_2]
 kernel_rfl
def F88 (args:List V) (σ:H):Ans:=
 rtCons args fun x1 l2=>
 rtAgg x1 fun l3=>
 xcI .i64 l3 fun x6 l5=>
 xcI .i64 l5 fun x9 l8=>
 rtCons l8 fun x10 l11=>
 rtCons l11 fun x12 l13=>
 xcI .i64 l13 fun x16 l15=>
 rtCons l15 fun x17 l18=>
 rtNil l18 (
 rtNil l2 (
 J88_0 E D W N x6 x9 x10 x12 x16 x17 σ))
def A88:XFn:=⟨21,[y1],[(.tmp 2)],(C88_0 C88_1 C88_2)⟩
theorem FE88 (args:List V) (σ:H):runX E D W N A88 args σ=F88 E D W N args σ:=by
 unfold F88
 simp only[←JE88_0]
 kernel_rfl
def q89a:List (Nat × List XTy):=[(9,[.i,.any,.bool,.bool,.bool,.bool,.i,.i,.any,.any,.i,.bool,.i])]
def q89b:List (Nat × XTy):=[(3,.i),(4,.ptr),(6,.ptr),(10,.i)]
def Fin89 (E:List (Nat × Blk)):St→Ans:=fun s=>resK E s [(.tmp 8)] fun l=>some (oneV l,s.σ)
def b89a (c0:XC):St→Ans:=dX E D W N (.keep [] [] [] c0) (Fin89 E) nX (Fin89 E)
def b89b (c0 c1:XC):Nat→St→Ans:=blkK 1 (dX E D W N (.keep [] [] [] c0) (b89a E D W N c1) (blkK 0 (b89a E D W N c1) nX) (Fin89 E)) (blkK 0 (b89a E D W N c1) nX)
def C89_0 (cc1:XC) (cc2:XC):XC:=(.z (.P 4 (.box 30 (.t 0))<|
.P 6 (.box 38 (.t 2))<|
.c 8 y2<|
.nil)
 (.seq (.z (.m 11 1<|
.b 12 .lss .none (.t 11) (.i 0)<|
.m 13 12<|
.gO 13 false (.p 14 [1,13] y15<|
.p 15 [4,13] (.faddr 3 (.t 4))<|
.p 16 [15,13] (.load none (.t 15))<|
.p 17 [16,13] (.len false (.t 16))<|
.p 18 [14,17,13] (.bin .geq .none (.t 14) (.t 17))<|
.nil) 19 13 18<|
.m 20 19<|
.gO 20 false (.p 21 [3,20] (.mov (.t 3))<|
.p 22 [21,20] (.bin .gtr .none (.t 21) (.i 17))<|
.nil) 23 20 22<|
.nil)
 (.cond (.tmp 23) (.z (.c 8 y2<|
.nil)
 .ret)
 .skip))
 (.z (.f 24 3 4<|
.l 25 .any 24<|
.m 26 1<|
.s 27 13 25 26<|
.O 28 y5 (.load (some 13) (.t 27))<|
.pal 9 [] 145 [y0,V.nils,y2,y2,y2,y2,y0,y0,V.nils,V.nils,y0,y2,y0]<|
.op none y5 [9,28] (.store 13 (.t 9) (.t 28))<|
.nil)
 (.seq (.z (.f 29 0 6<|
.l 30 .i 29<|
.b 31 .eql .none (.t 30) (.i 12)<|
.nil)
 (.cond (.tmp 31) (.z (.O 32 y6 (.load (some 4) (.t 4))<|
.m 33 1<|
.O 34 y1 (.load (some 6) (.t 6))<|
.k 35 .bool 164 [(.t 32),(.t 33),(.t 34)]<|
.m 8 35<|
.nil)
 .ret)
 .skip))
 (.seq (.z (.f 36 0 6<|
.l 37 .i 36<|
.f 38 0 9<|
.l 39 .i 38<|
.b 40 .neq .none (.t 37) (.t 39)<|
.nil)
 (.cond (.tmp 40) (.z (.c 8 y2<|
.nil)
 .ret)
 .skip))
 (.seq (.z (.f 41 0 9<|
.l 42 .i 41<|
.nil)
 (.block 0 (.z (.b 44 .eql .none (.t 42) (.i 1)<|
.m 43 44<|
.nil)
 (.cond (.tmp 43) (.z (.O 45 y1 (.load (some 6) (.t 6))<|
.k 46 .bool 165 [(.t 45),y9,y18,y18,y18]<|
.m 47 46<|
.gA 47 true (.p 48 [6,47] y32<|
.op (some 49) .i [48,47] (.load none (.t 48))<|
.p 50 [49,47] (.bin .eql .none (.t 49) (.i 0))<|
.p 51 [50,47] (.mov (.t 50))<|
.grp 51 false (.p 52 [6,51] y32<|
.op (some 53) .i [52,51] (.load none (.t 52))<|
.p 54 [53,51] (.bin .eql .none (.t 53) (.i 1))<|
.nil) 55 [51,54,47] (.t 51) y9 (.t 54)<|
.nil) 56 47 55<|
.m 8 56<|
.nil)
 .ret)
 (.z (.b 58 .eql .none (.t 42) (.i 2)<|
.m 57 58<|
.nil)
 (.cond (.tmp 57) (.z (.O 59 y1 (.load (some 6) (.t 6))<|
.k 60 .bool 165 [(.t 59),y9,y18,y18,y18]<|
.m 61 60<|
.gA 61 true (.p 62 [9,61] y33<|
.p 63 [62,61] (.faddr 3 (.t 62))<|
.op (some 64) .bool [63,61] (.load none (.t 63))<|
.p 65 [64,61] (.mov (.t 64))<|
.grp 65 false (.p 66 [9,65] y33<|
.op (some 67) y3 [66,65] (.load (some 6) (.t 66))<|
.p 68 [6,65] y32<|
.op (some 69) .i [68,65] (.load none (.t 68))<|
.op (some 70) .bool [67,69,65] (.call 93 [(.t 67),(.t 69)])<|
.nil) 71 [65,70,61] (.t 65) y9 (.t 70)<|
.nil) 72 61 71<|
.m 8 72<|
.nil)
 .ret)
 (.z (.b 74 .eql .none (.t 42) (.i 3)<|
.m 73 74<|
.nil)
 (.cond (.tmp 73) (.z (.O 75 y1 (.load (some 6) (.t 6))<|
.k 76 .bool 165 [(.t 75),y9,y18,y18,y18]<|
.m 77 76<|
.gA 77 true (.op (some 78) y5 [9,77] (.load (some 13) (.t 9))<|
.p 79 [6,77] y32<|
.op (some 80) .i [79,77] (.load none (.t 79))<|
.op (some 81) .i [78,80,77] (.call 166 [(.t 78),(.t 80)])<|
.p 82 [81,77] (.bin .geq .none (.t 81) (.i 0))<|
.nil) 83 77 82<|
.m 8 83<|
.nil)
 .ret)
 (.z (.b 85 .eql .none (.t 42) (.i 4)<|
.m 84 85<|
.nil)
 (.cond (.tmp 84) (.z (.O 86 y1 (.load (some 6) (.t 6))<|
.k 87 .bool 165 [(.t 86),y18,y18,y18,y18]<|
.m 8 87<|
.nil)
 .ret)
 (.seq (.z (.b 89 .eql .none (.t 42) (.i 5)<|
.m 88 89<|
.nil)
 (.cond (.tmp 88) .skip
 (.ops (.b 90 .eql .none (.t 42) (.i 6)<|
.m 88 90<|
.nil))))
 (.keep [(1,.i),(3,.i),(4,.ptr),(6,.ptr),(42,.i),(88,.bool)] [9] q89a cc2))))))))))))
 (.keep [] [] [] cc1)))))))
def T89_0 (E:List (Nat × Blk)) (D:Den) (W:DrawFn) (K2:Int→Int→Nat→Nat→Nat→Nat→Int→Bool→Int→V→Bool→Bool→Bool→Bool→Int→Int→V→V→Int→Bool→Int→H→Ans) (a:BS) (b c d:V) (e f g:Int) (h i:V) (j:Int) (k:V) (l:Int) (σ:H):Ans:=
 nbK [(V.str a),b,c,d] σ fun s1=>
 nbK [(V.int .i64 f),(V.int .i64 g),h,i,(V.int .i64 j),k] s1 fun s2=>
 joinB (fun c3 s4=>
 joinB (fun c6 s7=>
 condK c6 (
 some ((V.bool false),s7)) (
 ldK E s7 (H.next σ) 3 fun u9=>
 iaddrSK 13 u9 e fun b10 o11=>
 ldnK E s7 b10 o11 13 fun l12=>
 xcI .i64 l12 fun x15 l14=>
 rtCons l14 fun x16 l17=>
 xcB l17 fun x20 l19=>
 xcB l19 fun x23 l22=>
 xcB l22 fun x26 l25=>
 xcB l25 fun x29 l28=>
 xcI .i64 l28 fun x32 l31=>
 xcI .i64 l31 fun x35 l34=>
 rtCons l34 fun x36 l37=>
 rtCons l37 fun x38 l39=>
 xcI .i64 l39 fun x42 l41=>
 xcB l41 fun x45 l44=>
 xcI .i64 l44 fun x48 l47=>
 rtNil l47 (
 chk (allOne [(V.int .i64 x15),x16,(V.bool x20),(V.bool x23),(V.bool x26),(V.bool x29),(V.int .i64 x32),(V.int .i64 x35),x36,x38,(V.int .i64 x42),(V.bool x45),(V.int .i64 x48)]) (
 ldK E s7 (H.next s1) 0 fun u49=>
 rtInt .i64 u49 fun x50=>
 condK (eqF x50 (Int.ofNat 12)) (
 ldnK E s7 (H.next σ) 0 4 fun l51=>
 xcS l51 fun x54 l53=>
 rtCons l53 fun x55 l56=>
 rtCons l56 fun x57 l58=>
 rtCons l58 fun x59 l60=>
 rtNil l60 (
 ldnK E s7 (H.next s1) 0 6 fun l61=>
 xcI .i64 l61 fun x64 l63=>
 xcI .i64 l63 fun x67 l66=>
 rtCons l66 fun x68 l69=>
 rtCons l69 fun x70 l71=>
 xcI .i64 l71 fun x74 l73=>
 rtCons l73 fun x75 l76=>
 rtNil l76 (
 callK (D 164 [(V.agg [(V.str x54),x55,x57,x59]),(V.int .i64 e),(V.agg [(V.int .i64 x64),(V.int .i64 x67),x68,x70,(V.int .i64 x74),x75])] s7) fun u77 s78=>
 rtBool u77 fun x79=>
 some ((V.bool x79),s78)))) (
 ldK E s7 (H.next s1) 0 fun u80=>
 rtInt .i64 u80 fun x81=>
 condK (not (eqF x81 x15)) (
 some ((V.bool false),s7)) (
 condK (eqF x15 (Int.ofNat 1)) (
 ldnK E s7 (H.next s1) 0 6 fun l82=>
 xcI .i64 l82 fun x85 l84=>
 xcI .i64 l84 fun x88 l87=>
 rtCons l87 fun x89 l90=>
 rtCons l90 fun x91 l92=>
 xcI .i64 l92 fun x95 l94=>
 rtCons l94 fun x96 l97=>
 rtNil l97 (
 callK (D 165 [(V.agg [(V.int .i64 x85),(V.int .i64 x88),x89,x91,(V.int .i64 x95),x96]),(V.bool true),(V.bool false),(V.bool false),(V.bool false)] s7) fun u98 s99=>
 rtBool u98 fun x100=>
 joinB (fun c101 s102=>
 some ((V.bool c101),s102)) fun k103=>
 condK x100 (
 ldK E s99 (H.next s1) 1 fun u104=>
 rtInt .i64 u104 fun x105=>
 joinB (fun c106 s107=>
 k103 c106 s107) fun k108=>
 condK (eqF x105 (Int.ofNat 0)) (
 k108 true s99) (
 ldK E s99 (H.next s1) 1 fun u109=>
 rtInt .i64 u109 fun x110=>
 k108 (eqF x110 (Int.ofNat 1)) s99)) (
 k103 false s99))) (
 condK (eqF x15 (Int.ofNat 2)) (
 ldnK E s7 (H.next s1) 0 6 fun l111=>
 xcI .i64 l111 fun x114 l113=>
 xcI .i64 l113 fun x117 l116=>
 rtCons l116 fun x118 l119=>
 rtCons l119 fun x120 l121=>
 xcI .i64 l121 fun x124 l123=>
 rtCons l123 fun x125 l126=>
 rtNil l126 (
 callK (D 165 [(V.agg [(V.int .i64 x114),(V.int .i64 x117),x118,x120,(V.int .i64 x124),x125]),(V.bool true),(V.bool false),(V.bool false),(V.bool false)] s7) fun u127 s128=>
 rtBool u127 fun x129=>
 joinB (fun c130 s131=>
 some ((V.bool c130),s131)) fun k132=>
 condK x129 (
 joinB (fun c133 s134=>
 k132 c133 s134) fun k135=>
 condK x29 (
 k135 true s128) (
 ldK E s128 (H.next s1) 1 fun u136=>
 rtInt .i64 u136 fun x137=>
 callK (D 93 [(V.agg [(V.bool x20),(V.bool x23),(V.bool x26),(V.bool x29),(V.int .i64 x32),(V.int .i64 x35)]),(V.int .i64 x137)] s128) fun u138 s139=>
 rtBool u138 fun x140=>
 k135 x140 s139)) (
 k132 false s128))) (
 condK (eqF x15 (Int.ofNat 3)) (
 ldnK E s7 (H.next s1) 0 6 fun l141=>
 xcI .i64 l141 fun x144 l143=>
 xcI .i64 l143 fun x147 l146=>
 rtCons l146 fun x148 l149=>
 rtCons l149 fun x150 l151=>
 xcI .i64 l151 fun x154 l153=>
 rtCons l153 fun x155 l156=>
 rtNil l156 (
 callK (D 165 [(V.agg [(V.int .i64 x144),(V.int .i64 x147),x148,x150,(V.int .i64 x154),x155]),(V.bool true),(V.bool false),(V.bool false),(V.bool false)] s7) fun u157 s158=>
 rtBool u157 fun x159=>
 joinB (fun c160 s161=>
 some ((V.bool c160),s161)) fun k162=>
 condK x159 (
 ldK E s158 (H.next s1) 1 fun u163=>
 rtInt .i64 u163 fun x164=>
 callK (D 166 [(V.agg [(V.int .i64 x15),x16,(V.bool x20),(V.bool x23),(V.bool x26),(V.bool x29),(V.int .i64 x32),(V.int .i64 x35),x36,x38,(V.int .i64 x42),(V.bool x45),(V.int .i64 x48)]),(V.int .i64 x164)] s158) fun u165 s166=>
 rtInt .i64 u165 fun x167=>
 k162 (leF (Int.ofNat 0) x167) s166) (
 k162 false s158))) (
 condK (eqF x15 (Int.ofNat 4)) (
 ldnK E s7 (H.next s1) 0 6 fun l168=>
 xcI .i64 l168 fun x171 l170=>
 xcI .i64 l170 fun x174 l173=>
 rtCons l173 fun x175 l176=>
 rtCons l176 fun x177 l178=>
 xcI .i64 l178 fun x181 l180=>
 rtCons l180 fun x182 l183=>
 rtNil l183 (
 callK (D 165 [(V.agg [(V.int .i64 x171),(V.int .i64 x174),x175,x177,(V.int .i64 x181),x182]),(V.bool false),(V.bool false),(V.bool false),(V.bool false)] s7) fun u184 s185=>
 rtBool u184 fun x186=>
 some ((V.bool x186),s185))) (
 condK (eqF x15 (Int.ofNat 5)) (
 K2 e l (H.next σ) 0 (H.next s1) 0 x15 (eqF x15 (Int.ofNat 5)) x15 x16 x20 x23 x26 x29 x32 x35 x36 x38 x42 x45 x48 s7) (
 K2 e l (H.next σ) 0 (H.next s1) 0 x15 (eqF x15 (Int.ofNat 6)) x15 x16 x20 x23 x26 x29 x32 x35 x36 x38 x42 x45 x48 s7))))))))))) fun k8=>
 condK c3 (
 k8 true s4) (
 k8 (ltF (Int.ofNat 17) l) s4)) fun k5=>
 condK (ltF e (Int.ofNat 0)) (
 k5 true s2) (
 ldK E s2 (H.next σ) 3 fun u187=>
 slenK u187 fun n188=>
 k5 (leF (Int.ofNat n188) e) s2)
def C89_1:XC:=(.z (.c 8 y2<|
.nil)
 .ret)
def T89_1 (E:List (Nat × Blk)) (D:Den) (W:DrawFn) (σ:H):Ans:=
 some ((V.bool false),σ)
def C89_2 (cc3:XC) (cc4:XC) (cc5:XC):XC:=(.cond (.tmp 88) (.z (.O 91 y1 (.load (some 6) (.t 6))<|
.k 92 .bool 165 [(.t 91),y18,y9,y18,y18]<|
.m 93 92<|
.gA 93 true (.p 94 [6,93] (.faddr 2 (.t 6))<|
.p 95 [94,93] (.load none (.t 94))<|
.p 96 [95,93] (.len false (.t 95))<|
.p 97 [96,93] (.bin .leq .none (.t 96) (.i 70000))<|
.nil) 98 93 97<|
.m 99 98<|
.gA 99 true (.p 100 [9,99] y33<|
.p 101 [100,99] (.faddr 3 (.t 100))<|
.op (some 102) .bool [101,99] (.load none (.t 101))<|
.p 103 [102,99] (.mov (.t 102))<|
.grp 103 false (.p 104 [9,103] y33<|
.op (some 105) y3 [104,103] (.load (some 6) (.t 104))<|
.p 106 [6,103] (.faddr 2 (.t 6))<|
.p 107 [106,103] (.load none (.t 106))<|
.p 108 [107,103] (.len false (.t 107))<|
.op (some 109) .bool [105,108,103] (.call 93 [(.t 105),(.t 108)])<|
.nil) 110 [103,109,99] (.t 103) y9 (.t 109)<|
.nil) 111 99 110<|
.m 112 111<|
.gA 112 true (.p 113 [9,112] (.faddr 0 (.t 9))<|
.op (some 114) .i [113,112] (.load none (.t 113))<|
.p 115 [114,112] (.bin .eql .none (.t 114) (.i 5))<|
.p 116 [115,112] (.mov (.t 115))<|
.grp 116 false (.p 117 [6,116] (.faddr 2 (.t 6))<|
.p 118 [117,116] (.load none (.t 117))<|
.op (some 119) .bool [118,116] (.call 167 [(.t 118)])<|
.nil) 120 [116,119,112] (.t 116) y9 (.t 119)<|
.nil) 121 112 120<|
.m 8 121<|
.nil)
 .ret)
 (.z (.b 123 .eql .none (.t 42) (.i 10)<|
.m 122 123<|
.nil)
 (.cond (.tmp 122) (.seq (.z (.O 124 y1 (.load (some 6) (.t 6))<|
.k 125 .bool 165 [(.t 124),y18,y18,y9,y18]<|
.P 126 (.un .not (.t 125))<|
.m 127 126<|
.gO 127 false (.p 128 [9,127] y33<|
.p 129 [128,127] (.faddr 3 (.t 128))<|
.op (some 130) .bool [129,127] (.load none (.t 129))<|
.p 131 [130,127] (.un .not (.t 130))<|
.p 132 [131,127] (.mov (.t 131))<|
.grp 132 true (.p 133 [9,132] y33<|
.op (some 134) y3 [133,132] (.load (some 6) (.t 133))<|
.p 135 [6,132] (.faddr 3 (.t 6))<|
.p 136 [135,132] (.load none (.t 135))<|
.p 137 [136,132] (.len false (.t 136))<|
.op (some 138) .bool [134,137,132] (.call 93 [(.t 134),(.t 137)])<|
.p 139 [138,132] (.un .not (.t 138))<|
.nil) 140 [132,139,127] (.t 132) (.t 139) y18<|
.nil) 141 127 140<|
.nil)
 (.cond (.tmp 141) (.z (.c 8 y2<|
.nil)
 .ret)
 .skip))
 (.seq (.z (.q 10 0<|
.nil)
 (.block 1 (.loop q89b [9] q89a cc4)))
 (.keep [] [] [] cc3)))
 (.z (.b 162 .eql .none (.t 42) (.i 9)<|
.m 161 162<|
.nil)
 (.cond (.tmp 161) (.seq (.draw (.O 163 y1 (.load (some 6) (.t 6))<|
.k 164 .bool 165 [(.t 163),y9,y18,y9,y18]<|
.m 165 164<|
.gA 165 true (.p 166 [6,165] y32<|
.op (some 167) .i [166,165] (.load none (.t 166))<|
.p 168 [167,165] (.bin .geq .none (.t 167) (.i 0))<|
.nil) 169 165 168<|
.m 170 169<|
.gA 170 true (.p 171 [6,170] y32<|
.op (some 172) .i [171,170] (.load none (.t 171))<|
.p 173 [9,170] (.faddr 9 (.t 9))<|
.p 174 [173,170] (.load none (.t 173))<|
.p 175 [174,170] (.len false (.t 174))<|
.p 176 [172,175,170] (.bin .lss .none (.t 172) (.t 175))<|
.nil) 177 170 176<|
.m 178 177<|
.gA 178 true (.p 179 [6,178] (.faddr 3 (.t 6))<|
.p 180 [179,178] (.load none (.t 179))<|
.p 181 [180,178] (.len false (.t 180))<|
.p 182 [181,178] (.bin .eql .none (.t 181) (.i 1))<|
.nil) 183 178 182<|
.m 184 183<|
.gA 184 true (.op (some 185) y6 [4,184] (.load (some 4) (.t 4))<|
.p 186 [9,184] (.faddr 9 (.t 9))<|
.p 187 [186,184] (.load none (.t 186))<|
.p 188 [6,184] y32<|
.op (some 189) .i [188,184] (.load none (.t 188))<|
.p 190 [187,189,184] (.iaddrS 11 (.t 187) (.t 189))<|
.p 191 [190,184] (.faddr 1 (.t 190))<|
.op (some 192) .i [191,184] (.load none (.t 191))<|
.p 193 [6,184] (.faddr 3 (.t 6))<|
.p 194 [193,184] (.load none (.t 193))<|
.p 195 [194,184] (.iaddrS 6 (.t 194) (.i 0))<|
.op (some 196) y1 [195,184] (.load (some 6) (.t 195))<|
.p 197 [3,184] (.mov (.t 3))<|
.p 198 [197,184] (.bin .add .none (.t 197) (.i 1))<|
.op (some 199) .bool [185,192,196,198,184] (.call 89 [(.t 185),(.t 192),(.t 196),(.t 198)])<|
.nil) 200 184 199<|
.m 8 200<|
.nil) [0,1,3,7,15,31,63,127,255,511,255,1279,3327,8191,16383,32767,65535,131071,262143,524287,1048575,2097151,4194303,4194303,12582911,4194303,37748735,130023423,264241151,532676607,4194303,1077936127,3225419775,7520387071,4194303,17184063487,68719476735,137438953471,274877906943])
 .ret)
 (.seq (.z (.b 202 .eql .none (.t 42) (.i 7)<|
.m 201 202<|
.nil)
 (.cond (.tmp 201) .skip
 (.ops (.b 203 .eql .none (.t 42) (.i 8)<|
.m 201 203<|
.nil))))
 (.keep [(1,.i),(3,.i),(4,.ptr),(6,.ptr),(201,.bool)] [] [] cc5)))))))
def T89_2 (E:List (Nat × Blk)) (D:Den) (W:DrawFn) (K4:Int→Nat→Nat→Nat→Nat→Int→Int→V→Bool→Bool→Bool→Bool→Int→Int→V→V→Int→Bool→Int→H→Ans) (K5:Int→Int→Nat→Nat→Nat→Nat→Bool→H→Ans) (a b:Int) (c d e f:Nat) (g:Int) (h:Bool) (i:Int) (j:V) (k l m o:Bool) (p q:Int) (r s:V) (t:Int) (u:Bool) (v:Int) (σ:H):Ans:=
 condK h (
 ldnK E σ e f 6 fun l1=>
 xcI .i64 l1 fun x4 l3=>
 xcI .i64 l3 fun x7 l6=>
 rtCons l6 fun x8 l9=>
 rtCons l9 fun x10 l11=>
 xcI .i64 l11 fun x14 l13=>
 rtCons l13 fun x15 l16=>
 rtNil l16 (
 callK (D 165 [(V.agg [(V.int .i64 x4),(V.int .i64 x7),x8,x10,(V.int .i64 x14),x15]),(V.bool false),(V.bool true),(V.bool false),(V.bool false)] σ) fun u17 s18=>
 rtBool u17 fun x19=>
 joinB (fun c20 s21=>
 joinB (fun c23 s24=>
 joinB (fun c26 s27=>
 some ((V.bool c26),s27)) fun k28=>
 condK c23 (
 joinB (fun c29 s30=>
 k28 c29 s30) fun k31=>
 condK (eqF i (Int.ofNat 5)) (
 k31 true s24) (
 ldK E s24 e (Nat.add f 2) fun u32=>
 callK (D 167 [u32] s24) fun u33 s34=>
 rtBool u33 fun x35=>
 k31 x35 s34)) (
 k28 false s24)) fun k25=>
 condK c20 (
 joinB (fun c36 s37=>
 k25 c36 s37) fun k38=>
 condK o (
 k38 true s21) (
 ldK E s21 e (Nat.add f 2) fun u39=>
 slenK u39 fun n40=>
 callK (D 93 [(V.agg [(V.bool k),(V.bool l),(V.bool m),(V.bool o),(V.int .i64 p),(V.int .i64 q)]),(V.int .i64 (Int.ofNat n40))] s21) fun u41 s42=>
 rtBool u41 fun x43=>
 k38 x43 s42)) (
 k25 false s21)) fun k22=>
 condK x19 (
 ldK E s18 e (Nat.add f 2) fun u44=>
 slenK u44 fun n45=>
 k22 (leF (Int.ofNat n45) (Int.ofNat 70000)) s18) (
 k22 false s18))) (
 condK (eqF g (Int.ofNat 10)) (
 ldnK E σ e f 6 fun l46=>
 xcI .i64 l46 fun x49 l48=>
 xcI .i64 l48 fun x52 l51=>
 rtCons l51 fun x53 l54=>
 rtCons l54 fun x55 l56=>
 xcI .i64 l56 fun x59 l58=>
 rtCons l58 fun x60 l61=>
 rtNil l61 (
 callK (D 165 [(V.agg [(V.int .i64 x49),(V.int .i64 x52),x53,x55,(V.int .i64 x59),x60]),(V.bool false),(V.bool false),(V.bool true),(V.bool false)] σ) fun u62 s63=>
 rtBool u62 fun x64=>
 joinB (fun c65 s66=>
 condK c65 (
 some ((V.bool false),s66)) (
 K4 b c d e f (Int.ofNat 0) i j k l m o p q r s t u v s66)) fun k67=>
 condK (not x64) (
 k67 true s63) (
 joinB (fun c68 s69=>
 k67 c68 s69) fun k70=>
 condK (not o) (
 ldK E s63 e (Nat.add f 3) fun u71=>
 slenK u71 fun n72=>
 callK (D 93 [(V.agg [(V.bool k),(V.bool l),(V.bool m),(V.bool o),(V.int .i64 p),(V.int .i64 q)]),(V.int .i64 (Int.ofNat n72))] s63) fun u73 s74=>
 rtBool u73 fun x75=>
 k70 (not x75) s74) (
 k70 false s63)))) (
 condK (eqF g (Int.ofNat 9)) (
 ldnK E σ e f 6 fun l76=>
 xcI .i64 l76 fun x79 l78=>
 xcI .i64 l78 fun x82 l81=>
 rtCons l81 fun x83 l84=>
 rtCons l84 fun x85 l86=>
 xcI .i64 l86 fun x89 l88=>
 rtCons l88 fun x90 l91=>
 rtNil l91 (
 callK (D 165 [(V.agg [(V.int .i64 x79),(V.int .i64 x82),x83,x85,(V.int .i64 x89),x90]),(V.bool true),(V.bool false),(V.bool true),(V.bool false)] σ) fun u92 s93=>
 rtBool u92 fun x94=>
 joinB (fun c95 s96=>
 joinB (fun c98 s99=>
 joinB (fun c101 s102=>
 joinB (fun c104 s105=>
 some ((V.bool c104),s105)) fun k106=>
 condK c101 (
 ldnK E s102 c d 4 fun l107=>
 xcS l107 fun x110 l109=>
 rtCons l109 fun x111 l112=>
 rtCons l112 fun x113 l114=>
 rtCons l114 fun x115 l116=>
 rtNil l116 (
 ldK E s102 e (Nat.add f 1) fun u117=>
 rtInt .i64 u117 fun x118=>
 iaddrSK 11 s x118 fun b119 o120=>
 ldK E s102 b119 (Nat.add o120 1) fun u121=>
 rtInt .i64 u121 fun x122=>
 ldK E s102 e (Nat.add f 3) fun u123=>
 iaddrSK 6 u123 (Int.ofNat 0) fun b124 o125=>
 ldnK E s102 b124 o125 6 fun l126=>
 xcI .i64 l126 fun x129 l128=>
 xcI .i64 l128 fun x132 l131=>
 rtCons l131 fun x133 l134=>
 rtCons l134 fun x135 l136=>
 xcI .i64 l136 fun x139 l138=>
 rtCons l138 fun x140 l141=>
 rtNil l141 (
 callK (D 89 [(V.agg [(V.str x110),x111,x113,x115]),(V.int .i64 x122),(V.agg [(V.int .i64 x129),(V.int .i64 x132),x133,x135,(V.int .i64 x139),x140]),(V.int .i64 (addF .i64 b (Int.ofNat 1)))] s102) fun u142 s143=>
 rtBool u142 fun x144=>
 k106 x144 s143))) (
 k106 false s102)) fun k103=>
 condK c98 (
 ldK E s99 e (Nat.add f 3) fun u145=>
 slenK u145 fun n146=>
 k103 (eqF (Int.ofNat n146) (Int.ofNat 1)) s99) (
 k103 false s99)) fun k100=>
 condK c95 (
 ldK E s96 e (Nat.add f 1) fun u147=>
 rtInt .i64 u147 fun x148=>
 slenK s fun n149=>
 k100 (ltF x148 (Int.ofNat n149)) s96) (
 k100 false s96)) fun k97=>
 condK x94 (
 ldK E s93 e (Nat.add f 1) fun u150=>
 rtInt .i64 u150 fun x151=>
 k97 (leF (Int.ofNat 0) x151) s93) (
 k97 false s93))) (
 condK (eqF g (Int.ofNat 7)) (
 K5 a b c d e f (eqF g (Int.ofNat 7)) σ) (
 K5 a b c d e f (eqF g (Int.ofNat 8)) σ))))
def C89_3:XC:=(.z (.c 8 y23<|
.nil)
 .ret)
def T89_3 (E:List (Nat × Blk)) (D:Den) (W:DrawFn) (σ:H):Ans:=
 some ((V.bool true),σ)
def C89_4:XC:=(.seq (.z (.m 142 10<|
.f 143 3 6<|
.l 144 .any 143<|
.u 145 144<|
.b 146 .lss .none (.t 142) (.t 145)<|
.nil)
 (.cond (.tmp 146) .skip
 (.exit 1)))
 (.seq (.block 2 (.seq (.draw (.O 149 y6 (.load (some 4) (.t 4))<|
.f 150 12 9<|
.l 151 .i 150<|
.f 152 3 6<|
.l 153 .any 152<|
.m 154 10<|
.s 155 6 153 154<|
.O 156 y1 (.load (some 6) (.t 155))<|
.m 157 3<|
.b 158 .add .none (.t 157) (.i 1)<|
.k 159 .bool 89 [(.t 149),(.t 151),(.t 156),(.t 158)]<|
.P 160 (.un .not (.t 159))<|
.nil) [0,0,2,0,8,0,56,120,0,256,1023,2047])
 (.cond (.tmp 160) (.z (.c 8 y2<|
.nil)
 .ret)
 .skip)))
 (.ops (.m 147 10<|
.b 148 .add .none (.t 147) (.i 1)<|
.m 10 148<|
.nil))))
def T89_4 (E:List (Nat × Blk)) (D:Den) (W:DrawFn) (K3:H→Ans) (R4:Int→Nat→Nat→Nat→Nat→Int→Int→V→Bool→Bool→Bool→Bool→Int→Int→V→V→Int→Bool→Int→H→Ans) (a:Int) (b c d e:Nat) (f g:Int) (h:V) (i j k l:Bool) (m o:Int) (p q:V) (r:Int) (s:Bool) (t:Int) (σ:H):Ans:=
 ldK E σ d (Nat.add e 3) fun u1=>
 slenK u1 fun n2=>
 condK (ltF f (Int.ofNat n2)) (
 ldnK E σ b c 4 fun l3=>
 xcS l3 fun x6 l5=>
 rtCons l5 fun x7 l8=>
 rtCons l8 fun x9 l10=>
 rtCons l10 fun x11 l12=>
 rtNil l12 (
 ldK E σ d (Nat.add e 3) fun u13=>
 iaddrSK 6 u13 f fun b14 o15=>
 ldnK E σ b14 o15 6 fun l16=>
 xcI .i64 l16 fun x19 l18=>
 xcI .i64 l18 fun x22 l21=>
 rtCons l21 fun x23 l24=>
 rtCons l24 fun x25 l26=>
 xcI .i64 l26 fun x29 l28=>
 rtCons l28 fun x30 l31=>
 rtNil l31 (
 callK (D 89 [(V.agg [(V.str x6),x7,x9,x11]),(V.int .i64 t),(V.agg [(V.int .i64 x19),(V.int .i64 x22),x23,x25,(V.int .i64 x29),x30]),(V.int .i64 (addF .i64 a (Int.ofNat 1)))] σ) fun u32 s33=>
 rtBool u32 fun x34=>
 condK (not x34) (
 some ((V.bool false),s33)) (
 R4 a b c d e (addF .i64 f (Int.ofNat 1)) g h i j k l m o p q r s t s33)))) (
 K3 σ)
def C89_5:XC:=(.cond (.tmp 201) (.z (.O 204 y6 (.load (some 4) (.t 4))<|
.m 205 1<|
.O 206 y1 (.load (some 6) (.t 6))<|
.m 207 3<|
.k 208 .bool 168 [(.t 204),(.t 205),(.t 206),(.t 207)]<|
.m 8 208<|
.nil)
 .ret)
 .skip)
def T89_5 (E:List (Nat × Blk)) (D:Den) (W:DrawFn) (K1:H→Ans) (a b:Int) (c d e f:Nat) (g:Bool) (σ:H):Ans:=
 condK g (
 ldnK E σ c d 4 fun l1=>
 xcS l1 fun x4 l3=>
 rtCons l3 fun x5 l6=>
 rtCons l6 fun x7 l8=>
 rtCons l8 fun x9 l10=>
 rtNil l10 (
 ldnK E σ e f 6 fun l11=>
 xcI .i64 l11 fun x14 l13=>
 xcI .i64 l13 fun x17 l16=>
 rtCons l16 fun x18 l19=>
 rtCons l19 fun x20 l21=>
 xcI .i64 l21 fun x24 l23=>
 rtCons l23 fun x25 l26=>
 rtNil l26 (
 callK (D 168 [(V.agg [(V.str x4),x5,x7,x9]),(V.int .i64 a),(V.agg [(V.int .i64 x14),(V.int .i64 x17),x18,x20,(V.int .i64 x24),x25]),(V.int .i64 b)] σ) fun u27 s28=>
 rtBool u27 fun x29=>
 some ((V.bool x29),s28)))) (
 K1 σ)
def S89_0 (a:BS) (b c d:V) (e f g:Int) (h i:V) (j:Int) (k:V) (l:Int) (σ:H):St:=⟨[(0,(V.agg [(V.str a),b,c,d])),(1,(V.int .i64 e)),(2,(V.agg [(V.int .i64 f),(V.int .i64 g),h,i,(V.int .i64 j),k])),(3,(V.int .i64 l))],[],[],σ⟩
def S89_1 (σ:H):St:=⟨[],[],[],σ⟩
def S89_2 (a b:Int) (c d e f:Nat) (g:Int) (h:Bool) (i:Int) (j:V) (k l m o:Bool) (p q:Int) (r s:V) (t:Int) (u:Bool) (v:Int) (σ:H):St:=⟨[(1,(V.int .i64 a)),(3,(V.int .i64 b)),(4,(V.ptr c d)),(6,(V.ptr e f)),(42,(V.int .i64 g)),(88,(V.bool h))],[(9,(9,0))],[(9,[(V.int .i64 i),j,(V.bool k),(V.bool l),(V.bool m),(V.bool o),(V.int .i64 p),(V.int .i64 q),r,s,(V.int .i64 t),(V.bool u),(V.int .i64 v)])],σ⟩
def S89_4 (a:Int) (b c d e:Nat) (f g:Int) (h:V) (i j k l:Bool) (m o:Int) (p q:V) (r:Int) (s:Bool) (t:Int) (σ:H):St:=⟨[(3,(V.int .i64 a)),(4,(V.ptr b c)),(6,(V.ptr d e)),(10,(V.int .i64 f))],[(9,(9,0))],[(9,[(V.int .i64 g),h,(V.bool i),(V.bool j),(V.bool k),(V.bool l),(V.int .i64 m),(V.int .i64 o),p,q,(V.int .i64 r),(V.bool s),(V.int .i64 t)])],σ⟩
def S89_5 (a b:Int) (c d e f:Nat) (g:Bool) (σ:H):St:=⟨[(1,(V.int .i64 a)),(3,(V.int .i64 b)),(4,(V.ptr c d)),(6,(V.ptr e f)),(201,(V.bool g))],[],[],σ⟩
theorem P89_0 (cc1:XC) (cc2:XC) (a:BS) (b c d:V) (e f g:Int) (h i:V) (j:Int) (k:V) (l:Int) (σ:H) :
 denC E D W N (C89_0 cc1 cc2) (S89_0 a b c d e f g h i j k l σ) (Fin89 E) nX (Fin89 E) =
 T89_0 E D W (fun e l m o p q r s t u v w x y z B I M O U X σ=>denC E D W N cc2 (S89_2 e l m o p q r s t u v w x y z B I M O U X σ) (b89a E D W N cc1) (blkK 0 (b89a E D W N cc1) nX) (Fin89 E)) a b c d e f g h i j k l σ:=by kernel_rfl
theorem P89_2 (cc1:XC) (cc3:XC) (cc4:XC) (cc5:XC) (a b:Int) (c d e f:Nat) (g:Int) (h:Bool) (i:Int) (j:V) (k l m o:Bool) (p q:Int) (r s:V) (t:Int) (u:Bool) (v:Int) (σ:H) :
 denC E D W N (C89_2 cc3 cc4 cc5) (S89_2 a b c d e f g h i j k l m o p q r s t u v σ) (b89a E D W N cc1) (blkK 0 (b89a E D W N cc1) nX) (Fin89 E) =
 T89_2 E D W (fun b c d e f w i j k l m o p q r s t u v σ=>iterK (fun rec s'=>denC E D W N cc4 s' (kX q89b [9] q89a rec) (b89b E D W N cc3 cc1) (Fin89 E)) N (S89_4 b c d e f w i j k l m o p q r s t u v σ)) (fun a b c d e f x σ=>denC E D W N cc5 (S89_5 a b c d e f x σ) (b89a E D W N cc1) (blkK 0 (b89a E D W N cc1) nX) (Fin89 E)) a b c d e f g h i j k l m o p q r s t u v σ:=by kernel_rfl
theorem P89_3 (cc1:XC) (σ:H) :
 denC E D W N (C89_3 ) (S89_1 σ) (b89a E D W N cc1) (blkK 0 (b89a E D W N cc1) nX) (Fin89 E) =
 T89_3 E D W   σ:=by kernel_rfl
theorem P89_4 (cc1:XC) (cc3:XC) (li4:St→Ans) (a:Int) (b c d e:Nat) (f g:Int) (h:V) (i j k l:Bool) (m o:Int) (p q:V) (r:Int) (s:Bool) (t:Int) (σ:H) :
 denC E D W N (C89_4 ) (S89_4 a b c d e f g h i j k l m o p q r s t σ) (kX q89b [9] q89a li4) (b89b E D W N cc3 cc1) (Fin89 E) =
 T89_4 E D W (fun  σ=>denC E D W N cc3 (S89_1 σ) (b89a E D W N cc1) (blkK 0 (b89a E D W N cc1) nX) (Fin89 E)) (fun a b c d e f g h i j k l m o p q r s t σ=>li4 (S89_4 a b c d e f g h i j k l m o p q r s t σ)) a b c d e f g h i j k l m o p q r s t σ:=by kernel_rfl
theorem P89_5 (cc1:XC) (a b:Int) (c d e f:Nat) (g:Bool) (σ:H) :
 denC E D W N (C89_5 ) (S89_5 a b c d e f g σ) (b89a E D W N cc1) (blkK 0 (b89a E D W N cc1) nX) (Fin89 E) =
 T89_5 E D W (fun  σ=>denC E D W N cc1 (S89_1 σ) (Fin89 E) nX (Fin89 E)) a b c d e f g σ:=by kernel_rfl
def J89_3 (E:List (Nat × Blk)) (D:Den) (W:DrawFn) (N:Nat):=T89_3 E D W
theorem JE89_3 (σ:H) :
 denC E D W N C89_3 (S89_1 σ) (b89a E D W N C89_1) (blkK 0 (b89a E D W N C89_1) nX) (Fin89 E)=J89_3 E D W N  σ:=by
 refine(P89_3 E D W N C89_1   σ).trans ?_
 kernel_rfl
def L89_4 (n:Nat):Int→Nat→Nat→Nat→Nat→Int→Int→V→Bool→Bool→Bool→Bool→Int→Int→V→V→Int→Bool→Int→H→Ans:=
 Nat.rec (fun _ _ _ _ _ _ _ _ _ _ _ _ _ _ _ _ _ _ _ _=>none) (fun _ ih=>T89_4 E D W (J89_3 E D W N ) ih) n
theorem LE89_4 (n:Nat):∀(a:Int) (b c d e:Nat) (f g:Int) (h:V) (i j k l:Bool) (m o:Int) (p q:V) (r:Int) (s:Bool) (t:Int) (σ:H),
 iterK (fun rec s'=>denC E D W N C89_4 s' (kX q89b [9] q89a rec) (b89b E D W N C89_3 C89_1) (Fin89 E)) n (S89_4 a b c d e f g h i j k l m o p q r s t σ)=L89_4 E D W N n a b c d e f g h i j k l m o p q r s t σ:=by
 induction n with
 | zero=>intro a b c d e f g h i j k l m o p q r s t σ;rfl
 | succ n ihn=>
  intro a b c d e f g h i j k l m o p q r s t σ
  rw[iterK_succ]
  refine(P89_4 E D W N C89_1 C89_3 (iterK (fun rec s'=>denC E D W N C89_4 s' (kX q89b [9] q89a rec) (b89b E D W N C89_3 C89_1) (Fin89 E)) n) a b c d e f g h i j k l m o p q r s t σ).trans ?_
  simp only[ihn,JE89_3]
  kernel_rfl
def J89_1 (E:List (Nat × Blk)) (D:Den) (W:DrawFn) (N:Nat):=T89_1 E D W
theorem JE89_1 (σ:H) :
 denC E D W N C89_1 (S89_1 σ) (Fin89 E) nX (Fin89 E)=J89_1 E D W N  σ:=by kernel_rfl
def J89_5:=T89_5 E D W (J89_1 E D W N )
theorem JE89_5 (a b:Int) (c d e f:Nat) (g:Bool) (σ:H) :
 denC E D W N C89_5 (S89_5 a b c d e f g σ) (b89a E D W N C89_1) (blkK 0 (b89a E D W N C89_1) nX) (Fin89 E)=J89_5 E D W N a b c d e f g σ:=by
 refine(P89_5 E D W N C89_1  a b c d e f g σ).trans ?_
 simp only[JE89_1]
 kernel_rfl
def J89_2:=T89_2 E D W (L89_4 E D W N N) (J89_5 E D W N )
theorem JE89_2 (a b:Int) (c d e f:Nat) (g:Int) (h:Bool) (i:Int) (j:V) (k l m o:Bool) (p q:Int) (r s:V) (t:Int) (u:Bool) (v:Int) (σ:H) :
 denC E D W N (C89_2 C89_3 C89_4 C89_5) (S89_2 a b c d e f g h i j k l m o p q r s t u v σ) (b89a E D W N C89_1) (blkK 0 (b89a E D W N C89_1) nX) (Fin89 E)=J89_2 E D W N a b c d e f g h i j k l m o p q r s t u v σ:=by
 refine(P89_2 E D W N C89_1 C89_3 C89_4 C89_5  a b c d e f g h i j k l m o p q r s t u v σ).trans ?_
 simp only[LE89_4,JE89_5]
 kernel_rfl
def J89_0:=T89_0 E D W (J89_2 E D W N )
theorem JE89_0 (a:BS) (b c d:V) (e f g:Int) (h i:V) (j:Int) (k:V) (l:Int) (σ:H) :
 denC E D W N (C89_0 C89_1 (C89_2 C89_3 C89_4 C89_5)) (S89_0 a b c d e f g h i j k l σ) (Fin89 E) nX (Fin89 E)=J89_0 E D W N a b c d e f g h i j k l σ:=by
 refine(P89_0 E D W N C89_1 (C89_2 C89_3 C89_4 C89_5)  a b c d e f g h i j k l σ).trans ?_
 simp only[JE89_2]
 kernel_rfl
def F89 (args:List V) (σ:H):Ans:=
 rtCons args fun x1 l2=>
 rtAgg x1 fun l3=>
 xcS l3 fun x6 l5=>
 rtCons l5 fun x7 l8=>
 rtCons l8 fun x9 l10=>
 rtCons l10 fun x11 l12=>
 rtNil l12 (
 xcI .i64 l2 fun x15 l14=>
 rtCons l14 fun x16 l17=>
 rtAgg x16 fun l18=>
 xcI .i64 l18 fun x21 l20=>
 xcI .i64 l20 fun x24 l23=>
 rtCons l23 fun x25 l26=>
 rtCons l26 fun x27 l28=>
 xcI .i64 l28 fun x31 l30=>
 rtCons l30 fun x32 l33=>
 rtNil l33 (
 xcI .i64 l17 fun x36 l35=>
 rtNil l35 (
 J89_0 E D W N x6 x7 x9 x11 x15 x21 x24 x25 x27 x31 x32 x36 σ)))
def A89:XFn:=⟨209,[y6,.i,y1,.i],[(.tmp 8)],(C89_0 C89_1 (C89_2 C89_3 C89_4 C89_5))⟩
theorem FE89 (args:List V) (σ:H):runX E D W N A89 args σ=F89 E D W N args σ:=by
 unfold F89
 simp only[←JE89_0]
 kernel_rfl
def Fin90 (E:List (Nat × Blk)):St→Ans:=fun s=>resK E s [] fun l=>some (oneV l,s.σ)
def C90_0 (cc1:XC):XC:=(.z (.P 4 (.box 141 (.t 1))<|
.nil)
 (.z (.O 9 y3 (.load (some 6) (.t 4))<|
.m 10 2<|
.k 11 .bool 93 [(.t 9),(.t 10)]<|
.m 6 11<|
.nil)
 (.seq (.z (.f 12 3 4<|
.l 13 .bool 12<|
.nil)
 (.cond (.tmp 13) (.ops (.m 14 0<|
.m 15 6<|
.P 16 (.un .not (.t 15))<|
.k 17 y11 92 [(.t 14),(.t 16)]<|
.nil))
 .skip))
 (.keep [(0,.any),(2,.i),(4,.ptr),(6,.bool)] [] [] cc1))))
def T90_0 (E:List (Nat × Blk)) (D:Den) (W:DrawFn) (K1:V→Int→Nat→Nat→Bool→H→Ans) (a:V) (b c d e:Bool) (f g h:Int) (σ:H):Ans:=
 nbK [(V.bool b),(V.bool c),(V.bool d),(V.bool e),(V.int .i64 f),(V.int .i64 g)] σ fun s1=>
 ldnK E s1 (H.next σ) 0 6 fun l2=>
 xcB l2 fun x5 l4=>
 xcB l4 fun x8 l7=>
 xcB l7 fun x11 l10=>
 xcB l10 fun x14 l13=>
 xcI .i64 l13 fun x17 l16=>
 xcI .i64 l16 fun x20 l19=>
 rtNil l19 (
 callK (D 93 [(V.agg [(V.bool x5),(V.bool x8),(V.bool x11),(V.bool x14),(V.int .i64 x17),(V.int .i64 x20)]),(V.int .i64 h)] s1) fun u21 s22=>
 rtBool u21 fun x23=>
 ldK E s22 (H.next σ) 3 fun u24=>
 rtBool u24 fun x25=>
 condK x25 (
 callK (D 92 [a,(V.bool (not x23))] s22) fun u26 s27=>
 rtTup u26 fun l28=>
 rtNil l28 (
 K1 a h (H.next σ) 0 x23 s27)) (
 K1 a h (H.next σ) 0 x23 s22))
def C90_1:XC:=(.z (.O 19 y3 (.load (some 6) (.t 4))<|
.k 20 (.tup [(.int .u64),.bool]) 169 [(.t 19)]<|
.m 18 20<|
.P 21 (.extract 0 (.t 18))<|
.P 22 (.extract 1 (.t 18))<|
.m 7 21<|
.m 8 22<|
.nil)
 (.block 0 (.z (.m 28 6<|
.m 29 28<|
.gA 29 true (.p 30 [8,29] y28<|
.nil) 31 29 30<|
.m 27 31<|
.nil)
 (.cond (.tmp 27) (.ops (.m 32 0<|
.m 33 2<|
.P 34 (.conv (.toInt .u64) (.t 33))<|
.f 35 4 4<|
.l 36 .i 35<|
.P 37 (.conv (.toInt .u64) (.t 36))<|
.b 38 .sub .none (.t 34) (.t 37)<|
.m 39 7<|
.k 40 y11 27 [(.t 32),(.t 38),(.t 39)]<|
.nil))
 (.z (.m 42 6<|
.m 43 42<|
.gA 43 true (.p 44 [4,43] (.faddr 0 (.t 4))<|
.op (some 45) .bool [44,43] (.load none (.t 44))<|
.nil) 46 43 45<|
.m 47 46<|
.gA 47 true (.p 48 [4,47] (.faddr 1 (.t 4))<|
.op (some 49) .bool [48,47] (.load none (.t 48))<|
.nil) 50 47 49<|
.m 41 50<|
.nil)
 (.cond (.tmp 41) (.ops (.m 51 0<|
.m 52 2<|
.P 53 (.conv (.toInt .u64) (.t 52))<|
.f 54 4 4<|
.l 55 .i 54<|
.P 56 (.conv (.toInt .u64) (.t 55))<|
.b 57 .sub .none (.t 53) (.t 56)<|
.k 58 .one 170 [(.t 57)]<|
.k 59 y11 21 [(.t 51),(.t 58)]<|
.nil))
 (.ops (.m 23 0<|
.m 24 2<|
.k 25 .one 171 [(.t 24)]<|
.k 26 y11 21 [(.t 23),(.t 25)]<|
.nil))))))))
def T90_1 (E:List (Nat × Blk)) (D:Den) (W:DrawFn) (a:V) (b:Int) (c d:Nat) (e:Bool) (σ:H):Ans:=
 ldnK E σ c d 6 fun l1=>
 xcB l1 fun x4 l3=>
 xcB l3 fun x7 l6=>
 xcB l6 fun x10 l9=>
 xcB l9 fun x13 l12=>
 xcI .i64 l12 fun x16 l15=>
 xcI .i64 l15 fun x19 l18=>
 rtNil l18 (
 callK (D 169 [(V.agg [(V.bool x4),(V.bool x7),(V.bool x10),(V.bool x13),(V.int .i64 x16),(V.int .i64 x19)])] σ) fun u20 s21=>
 rtTup u20 fun l22=>
 xcI .u64 l22 fun x25 l24=>
 xcB l24 fun x28 l27=>
 rtNil l27 (
 joinB (fun c29 s30=>
 condK c29 (
 ldK E s30 c (Nat.add d 4) fun u32=>
 rtInt .i64 u32 fun x33=>
 callK (D 27 [a,(V.int .u64 (subF .u64 (wrapF .u64 b) (wrapF .u64 x33))),(V.int .u64 x25)] s30) fun u34 s35=>
 rtTup u34 fun l36=>
 rtNil l36 (
 some ((V.tup []),s35))) (
 joinB (fun c37 s38=>
 joinB (fun c40 s41=>
 condK c40 (
 ldK E s41 c (Nat.add d 4) fun u43=>
 rtInt .i64 u43 fun x44=>
 callK (D 170 [(V.int .u64 (subF .u64 (wrapF .u64 b) (wrapF .u64 x44)))] s41) fun u45 s46=>
 rtOne u45 (
 callK (D 21 [a,u45] s46) fun u47 s48=>
 rtTup u47 fun l49=>
 rtNil l49 (
 some ((V.tup []),s48)))) (
 callK (D 171 [(V.int .i64 b)] s41) fun u50 s51=>
 rtOne u50 (
 callK (D 21 [a,u50] s51) fun u52 s53=>
 rtTup u52 fun l54=>
 rtNil l54 (
 some ((V.tup []),s53))))) fun k42=>
 condK c37 (
 ldK E s38 c (Nat.add d 1) fun u55=>
 rtBool u55 fun x56=>
 k42 x56 s38) (
 k42 false s38)) fun k39=>
 condK e (
 ldK E s30 c d fun u57=>
 rtBool u57 fun x58=>
 k39 x58 s30) (
 k39 false s30))) fun k31=>
 condK e (
 k31 x28 s21) (
 k31 false s21)))
def S90_0 (a:V) (b c d e:Bool) (f g h:Int) (σ:H):St:=⟨[(0,a),(1,(V.agg [(V.bool b),(V.bool c),(V.bool d),(V.bool e),(V.int .i64 f),(V.int .i64 g)])),(2,(V.int .i64 h))],[],[],σ⟩
def S90_1 (a:V) (b:Int) (c d:Nat) (e:Bool) (σ:H):St:=⟨[(0,a),(2,(V.int .i64 b)),(4,(V.ptr c d)),(6,(V.bool e))],[],[],σ⟩
theorem P90_0 (cc1:XC) (a:V) (b c d e:Bool) (f g h:Int) (σ:H) :
 denC E D W N (C90_0 cc1) (S90_0 a b c d e f g h σ) (Fin90 E) nX (Fin90 E) =
 T90_0 E D W (fun a h i j k σ=>denC E D W N cc1 (S90_1 a h i j k σ) (Fin90 E) nX (Fin90 E)) a b c d e f g h σ:=by kernel_rfl
def J90_1 (E:List (Nat × Blk)) (D:Den) (W:DrawFn) (N:Nat):=T90_1 E D W
theorem JE90_1 (a:V) (b:Int) (c d:Nat) (e:Bool) (σ:H) :
 denC E D W N C90_1 (S90_1 a b c d e σ) (Fin90 E) nX (Fin90 E)=J90_1 E D W N a b c d e σ:=by kernel_rfl
def J90_0:=T90_0 E D W (J90_1 E D W N )
theorem JE90_0 (a:V) (b c d e:Bool) (f g h:Int) (σ:H) :
 denC E D W N (C90_0 C90_1) (S90_0 a b c d e f g h σ) (Fin90 E) nX (Fin90 E)=J90_0 E D W N a b c d e f g h σ:=by
 refine(P90_0 E D W N C90_1  a b c d e f g h σ).trans ?_
 simp only[JE90_1]
 kernel_rfl
def F90 (args:List V) (σ:H):Ans:=
 rtCons args fun x1 l2=>
 rtCons l2 fun x3 l4=>
 rtAgg x3 fun l5=>
 xcB l5 fun x8 l7=>
 xcB l7 fun x11 l10=>
 xcB l10 fun x14 l13=>
 xcB l13 fun x17 l16=>
 xcI .i64 l16 fun x20 l19=>
 xcI .i64 l19 fun x23 l22=>
 rtNil l22 (
 xcI .i64 l4 fun x26 l25=>
 rtNil l25 (
 J90_0 E D W N x1 x8 x11 x14 x17 x20 x23 x26 σ))
def A90:XFn:=⟨60,[.any,y3,.i],[],(C90_0 C90_1)⟩
theorem FE90 (args:List V) (σ:H):runX E D W N A90 args σ=F90 E D W N args σ:=by
 unfold F90
 simp only[←JE90_0]
 kernel_rfl
def Fin93 (E:List (Nat × Blk)):St→Ans:=fun s=>resK E s [(.tmp 4)] fun l=>some (oneV l,s.σ)
def C93_0:XC:=(.z (.P 2 (.box 141 (.t 0))<|
.c 4 y2<|
.nil)
 (.z (.f 5 0 2<|
.l 6 .bool 5<|
.P 7 (.un .not (.t 6))<|
.m 8 7<|
.gO 8 false (.p 9 [2,8] (.faddr 1 (.t 2))<|
.op (some 10) .bool [9,8] (.load none (.t 9))<|
.p 11 [10,8] (.un .not (.t 10))<|
.p 12 [11,8] (.mov (.t 11))<|
.grp 12 false (.p 13 [1,12] y15<|
.p 14 [2,12] (.faddr 4 (.t 2))<|
.op (some 15) .i [14,12] (.load none (.t 14))<|
.p 16 [13,15,12] (.bin .geq .none (.t 13) (.t 15))<|
.nil) 17 [12,16,8] (.t 12) y9 (.t 16)<|
.p 18 [17,8] (.mov (.t 17))<|
.grp 18 true (.p 19 [2,18] (.faddr 2 (.t 2))<|
.op (some 20) .bool [19,18] (.load none (.t 19))<|
.p 21 [20,18] (.un .not (.t 20))<|
.p 22 [21,18] (.mov (.t 21))<|
.grp 22 false (.p 23 [1,22] y15<|
.p 24 [2,22] (.faddr 5 (.t 2))<|
.op (some 25) .i [24,22] (.load none (.t 24))<|
.p 26 [23,25,22] (.bin .leq .none (.t 23) (.t 25))<|
.nil) 27 [22,26,18] (.t 22) y9 (.t 26)<|
.nil) 28 [18,27,8] (.t 18) (.t 27) y18<|
.nil) 29 8 28<|
.m 4 29<|
.nil)
 .ret))
def T93_0 (E:List (Nat × Blk)) (D:Den) (W:DrawFn) (a b c d:Bool) (e f g:Int) (σ:H):Ans:=
 nbK [(V.bool a),(V.bool b),(V.bool c),(V.bool d),(V.int .i64 e),(V.int .i64 f)] σ fun s1=>
 ldK E s1 (H.next σ) 0 fun u2=>
 rtBool u2 fun x3=>
 joinB (fun c4 s5=>
 some ((V.bool c4),s5)) fun k6=>
 condK (not x3) (
 k6 true s1) (
 ldK E s1 (H.next σ) 1 fun u7=>
 rtBool u7 fun x8=>
 joinB (fun c9 s10=>
 joinB (fun c12 s13=>
 k6 c12 s13) fun k14=>
 condK c9 (
 ldK E s10 (H.next σ) 2 fun u15=>
 rtBool u15 fun x16=>
 joinB (fun c17 s18=>
 k14 c17 s18) fun k19=>
 condK (not x16) (
 k19 true s10) (
 ldK E s10 (H.next σ) 5 fun u20=>
 rtInt .i64 u20 fun x21=>
 k19 (leF g x21) s10)) (
 k14 false s10)) fun k11=>
 condK (not x8) (
 k11 true s1) (
 ldK E s1 (H.next σ) 4 fun u22=>
 rtInt .i64 u22 fun x23=>
 k11 (leF x23 g) s1))
def S93_0 (a b c d:Bool) (e f g:Int) (σ:H):St:=⟨[(0,(V.agg [(V.bool a),(V.bool b),(V.bool c),(V.bool d),(V.int .i64 e),(V.int .i64 f)])),(1,(V.int .i64 g))],[],[],σ⟩
def J93_0 (E:List (Nat × Blk)) (D:Den) (W:DrawFn) (N:Nat):=T93_0 E D W
theorem JE93_0 (a b c d:Bool) (e f g:Int) (σ:H) :
 denC E D W N C93_0 (S93_0 a b c d e f g σ) (Fin93 E) nX (Fin93 E)=J93_0 E D W N a b c d e f g σ:=by kernel_rfl
def F93 (args:List V) (σ:H):Ans:=
 rtCons args fun x1 l2=>
 rtAgg x1 fun l3=>
 xcB l3 fun x6 l5=>
 xcB l5 fun x9 l8=>
 xcB l8 fun x12 l11=>
 xcB l11 fun x15 l14=>
 xcI .i64 l14 fun x18 l17=>
 xcI .i64 l17 fun x21 l20=>
 rtNil l20 (
 xcI .i64 l2 fun x24 l23=>
 rtNil l23 (
 J93_0 E D W N x6 x9 x12 x15 x18 x21 x24 σ))
def A93:XFn:=⟨30,[y3,.i],[(.tmp 4)],C93_0⟩
theorem FE93 (args:List V) (σ:H):runX E D W N A93 args σ=F93 E D W N args σ:=by
 unfold F93
 simp only[←JE93_0]
 kernel_rfl
def Fin98 (E:List (Nat × Blk)):St→Ans:=fun s=>resK E s [(.tmp 2)] fun l=>some (oneV l,s.σ)
def C98_0:XC:=(.z (.P 1 (.box 145 (.t 0))<|
.c 2 y2<|
.nil)
 (.z (.f 3 0 1<|
.l 4 .i 3<|
.b 5 .eql .none (.t 4) (.i 3)<|
.m 6 5<|
.gA 6 true (.p 7 [1,6] (.faddr 10 (.t 1))<|
.op (some 8) .i [7,6] (.load none (.t 7))<|
.p 9 [8,6] (.bin .eql .none (.t 8) (.i 0))<|
.nil) 10 6 9<|
.m 2 10<|
.nil)
 .ret))
def T98_0 (E:List (Nat × Blk)) (D:Den) (W:DrawFn) (a:Int) (b:V) (c d e f:Bool) (g h:Int) (i j:V) (k:Int) (l:Bool) (m:Int) (σ:H):Ans:=
 nbK [(V.int .i64 a),b,(V.bool c),(V.bool d),(V.bool e),(V.bool f),(V.int .i64 g),(V.int .i64 h),i,j,(V.int .i64 k),(V.bool l),(V.int .i64 m)] σ fun s1=>
 ldK E s1 (H.next σ) 0 fun u2=>
 rtInt .i64 u2 fun x3=>
 joinB (fun c4 s5=>
 some ((V.bool c4),s5)) fun k6=>
 condK (eqF x3 (Int.ofNat 3)) (
 ldK E s1 (H.next σ) 10 fun u7=>
 rtInt .i64 u7 fun x8=>
 k6 (eqF x8 (Int.ofNat 0)) s1) (
 k6 false s1)
def S98_0 (a:Int) (b:V) (c d e f:Bool) (g h:Int) (i j:V) (k:Int) (l:Bool) (m:Int) (σ:H):St:=⟨[(0,(V.agg [(V.int .i64 a),b,(V.bool c),(V.bool d),(V.bool e),(V.bool f),(V.int .i64 g),(V.int .i64 h),i,j,(V.int .i64 k),(V.bool l),(V.int .i64 m)]))],[],[],σ⟩
def J98_0 (E:List (Nat × Blk)) (D:Den) (W:DrawFn) (N:Nat):=T98_0 E D W
theorem JE98_0 (a:Int) (b:V) (c d e f:Bool) (g h:Int) (i j:V) (k:Int) (l:Bool) (m:Int) (σ:H) :
 denC E D W N C98_0 (S98_0 a b c d e f g h i j k l m σ) (Fin98 E) nX (Fin98 E)=J98_0 E D W N a b c d e f g h i j k l m σ:=by kernel_rfl
def F98 (args:List V) (σ:H):Ans:=
 rtCons args fun x1 l2=>
 rtAgg x1 fun l3=>
 xcI .i64 l3 fun x6 l5=>
 rtCons l5 fun x7 l8=>
 xcB l8 fun x11 l10=>
 xcB l10 fun x14 l13=>
 xcB l13 fun x17 l16=>
 xcB l16 fun x20 l19=>
 xcI .i64 l19 fun x23 l22=>
 xcI .i64 l22 fun x26 l25=>
 rtCons l25 fun x27 l28=>
 rtCons l28 fun x29 l30=>
 xcI .i64 l30 fun x33 l32=>
 xcB l32 fun x36 l35=>
 xcI .i64 l35 fun x39 l38=>
 rtNil l38 (
 rtNil l2 (
 J98_0 E D W N x6 x7 x11 x14 x17 x20 x23 x26 x27 x29 x33 x36 x39 σ))
def A98:XFn:=⟨11,[y5],[(.tmp 2)],C98_0⟩
theorem FE98 (args:List V) (σ:H):runX E D W N A98 args σ=F98 E D W N args σ:=by
 unfold F98
 simp only[←JE98_0]
 kernel_rfl
def Fin99 (E:List (Nat × Blk)):St→Ans:=fun s=>resK E s [(.tmp 2)] fun l=>some (oneV l,s.σ)
def C99_0:XC:=(.z (.c 2 V.nilp<|
.nil)
 (.z (.m 3 0<|
.O 4 .one (.append 5 1 1 (.con V.nils) (.t 3))<|
.op (some 5) (.agg [.any,.i]) [4] (.build [V.nils,y0] [(0,1,(.t 4))])<|
.op (some 6) (.agg y30) [5] (.build [V.nils,y0,y0] [(0,2,(.t 5))])<|
.P 7 (.box 228 (.t 6))<|
.m 2 7<|
.nil)
 .ret))
def T99_0 (E:List (Nat × Blk)) (D:Den) (W:DrawFn) (a:V) (σ:H):Ans:=
 appK E 1 1 V.nils a σ fun u1 s2=>
 rtOne u1 (
 fillK [(0,1,u1)] [V.nils,(V.int .i64 (Int.ofNat 0))] fun l3=>
 rtCons l3 fun x4 l5=>
 xcI .i64 l5 fun x8 l7=>
 rtNil l7 (
 nbK [x4,(V.int .i64 x8),(V.int .i64 (Int.ofNat 0))] s2 fun s9=>
 some ((V.ptr (H.next s2) 0),s9)))
def S99_0 (a:V) (σ:H):St:=⟨[(0,a)],[],[],σ⟩
def J99_0 (E:List (Nat × Blk)) (D:Den) (W:DrawFn) (N:Nat):=T99_0 E D W
theorem JE99_0 (a:V) (σ:H) :
 denC E D W N C99_0 (S99_0 a σ) (Fin99 E) nX (Fin99 E)=J99_0 E D W N a σ:=by kernel_rfl
def F99 (args:List V) (σ:H):Ans:=
 rtCons args fun x1 l2=>
 rtNil l2 (
 J99_0 E D W N x1 σ)
def A99:XFn:=⟨8,[.any],[(.tmp 2)],C99_0⟩
theorem FE99 (args:List V) (σ:H):runX E D W N A99 args σ=F99 E D W N args σ:=by
 unfold F99
 simp only[←JE99_0]
 kernel_rfl
def Fin100 (E:List (Nat × Blk)):St→Ans:=fun s=>resK E s [] fun l=>some (oneV l,s.σ)
def C100_0:XC:=(.z (.m 4 1<|
.nil)
 (.cond (.tmp 4) (.ops (.m 5 0<|
.n 6 5<|
.f 7 0 6<|
.l 8 .any 7<|
.k 9 y11 181 [(.t 8),(.i 4)]<|
.nil))
 .skip))
def T100_0 (E:List (Nat × Blk)) (D:Den) (W:DrawFn) (a b:Nat) (c:Bool) (σ:H):Ans:=
 condK c (
 ldK E σ a b fun u1=>
 callK (D 181 [u1,(V.int .i64 (Int.ofNat 4))] σ) fun u2 s3=>
 rtTup u2 fun l4=>
 rtNil l4 (
 some ((V.tup []),s3))) (
 some ((V.tup []),σ))
def S100_0 (a b:Nat) (c:Bool) (σ:H):St:=⟨[(0,(V.ptr a b)),(1,(V.bool c))],[],[],σ⟩
def J100_0 (E:List (Nat × Blk)) (D:Den) (W:DrawFn) (N:Nat):=T100_0 E D W
theorem JE100_0 (a b:Nat) (c:Bool) (σ:H) :
 denC E D W N C100_0 (S100_0 a b c σ) (Fin100 E) nX (Fin100 E)=J100_0 E D W N a b c σ:=by kernel_rfl
def F100 (args:List V) (σ:H):Ans:=
 rtCons args fun x1 l2=>
 rtPtr x1 fun b3 o4=>
 xcB l2 fun x7 l6=>
 rtNil l6 (
 J100_0 E D W N b3 o4 x7 σ)
def A100:XFn:=⟨10,[.ptr,.bool],[],C100_0⟩
theorem FE100 (args:List V) (σ:H):runX E D W N A100 args σ=F100 E D W N args σ:=by
 unfold F100
 simp only[←JE100_0]
 kernel_rfl
def Fin101 (E:List (Nat × Blk)):St→Ans:=fun s=>resK E s [(.tmp 4)] fun l=>some (oneV l,s.σ)
def C101_0:XC:=(.z (.c 4 y2<|
.nil)
 (.z (.m 5 0<|
.n 6 5<|
.f 7 0 6<|
.l 8 .i 7<|
.m 9 1<|
.b 10 .add .none (.t 8) (.t 9)<|
.n 11 5<|
.f 12 0 11<|
.w 1 12 10<|
.nil)
 (.z (.m 13 0<|
.n 14 13<|
.f 15 0 14<|
.l 16 .i 15<|
.b 17 .leq .none (.t 16) (.i 5000)<|
.m 4 17<|
.nil)
 .ret)))
def T101_0 (E:List (Nat × Blk)) (D:Den) (W:DrawFn) (a b:Nat) (c:Int) (σ:H):Ans:=
 ldK E σ a b fun u1=>
 rtInt .i64 u1 fun x2=>
 stK 1 a b (V.int .i64 (addF .i64 x2 c)) σ fun s3=>
 ldK E s3 a b fun u4=>
 rtInt .i64 u4 fun x5=>
 some ((V.bool (leF x5 (Int.ofNat 5000))),s3)
def S101_0 (a b:Nat) (c:Int) (σ:H):St:=⟨[(0,(V.ptr a b)),(1,(V.int .i64 c))],[],[],σ⟩
def J101_0 (E:List (Nat × Blk)) (D:Den) (W:DrawFn) (N:Nat):=T101_0 E D W
theorem JE101_0 (a b:Nat) (c:Int) (σ:H) :
 denC E D W N C101_0 (S101_0 a b c σ) (Fin101 E) nX (Fin101 E)=J101_0 E D W N a b c σ:=by kernel_rfl
def F101 (args:List V) (σ:H):Ans:=
 rtCons args fun x1 l2=>
 rtPtr x1 fun b3 o4=>
 xcI .i64 l2 fun x7 l6=>
 rtNil l6 (
 J101_0 E D W N b3 o4 x7 σ)
def A101:XFn:=⟨18,[.ptr,.i],[(.tmp 4)],C101_0⟩
theorem FE101 (args:List V) (σ:H):runX E D W N A101 args σ=F101 E D W N args σ:=by
 unfold F101
 simp only[←JE101_0]
 kernel_rfl
def Fin102 (E:List (Nat × Blk)):St→Ans:=fun s=>resK E s [(.tmp 2)] fun l=>some (oneV l,s.σ)
def C102_0:XC:=(.z (.c 2 y2<|
.nil)
 (.z (.m 3 0<|
.n 4 3<|
.f 5 0 4<|
.l 6 .any 5<|
.k 7 .i 114 [(.t 6)]<|
.b 8 .eql .none (.t 7) (.i 0)<|
.m 2 8<|
.nil)
 .ret))
def T102_0 (E:List (Nat × Blk)) (D:Den) (W:DrawFn) (a b:Nat) (σ:H):Ans:=
 ldK E σ a b fun u1=>
 callK (D 114 [u1] σ) fun u2 s3=>
 rtInt .i64 u2 fun x4=>
 some ((V.bool (eqF x4 (Int.ofNat 0))),s3)
def S102_0 (a b:Nat) (σ:H):St:=⟨[(0,(V.ptr a b))],[],[],σ⟩
def J102_0 (E:List (Nat × Blk)) (D:Den) (W:DrawFn) (N:Nat):=T102_0 E D W
theorem JE102_0 (a b:Nat) (σ:H) :
 denC E D W N C102_0 (S102_0 a b σ) (Fin102 E) nX (Fin102 E)=J102_0 E D W N a b σ:=by kernel_rfl
def F102 (args:List V) (σ:H):Ans:=
 rtCons args fun x1 l2=>
 rtPtr x1 fun b3 o4=>
 rtNil l2 (
 J102_0 E D W N b3 o4 σ)
def A102:XFn:=⟨9,[.ptr],[(.tmp 2)],C102_0⟩
theorem FE102 (args:List V) (σ:H):runX E D W N A102 args σ=F102 E D W N args σ:=by
 unfold F102
 simp only[←JE102_0]
 kernel_rfl
def Fin103 (E:List (Nat × Blk)):St→Ans:=fun s=>resK E s [(.tmp 4)] fun l=>some (oneV l,s.σ)
def C103_0:XC:=(.z (.c 4 y12<|
.nil)
 (.z (.m 6 1<|
.k 7 .i 182 [(.t 6)]<|
.m 1 7<|
.nil)
 (.seq (.z (.m 8 0<|
.k 9 .i 114 [(.t 8)]<|
.b 10 .neq .none (.t 9) (.i 0)<|
.nil)
 (.cond (.tmp 10) (.z (.c 4 y12<|
.nil)
 .ret)
 .skip))
 (.seq (.z (.m 11 1<|
.m 12 0<|
.k 13 .i 115 [(.t 12)]<|
.b 14 .gtr .none (.t 11) (.t 13)<|
.nil)
 (.cond (.tmp 14) (.z (.m 15 0<|
.k 16 y11 181 [(.t 15),(.i 3)]<|
.nil)
 (.z (.c 4 y12<|
.nil)
 .ret))
 .skip))
 (.z (.m 17 0<|
.n 18 17<|
.f 19 0 18<|
.l 20 .any 19<|
.m 21 1<|
.b 22 .sub .none (.t 21) (.i 32)<|
.k 23 (.int .u32) 183 [(.t 20),(.t 22)]<|
.P 24 (.conv (.toInt .u64) (.t 23))<|
.m 5 24<|
.nil)
 (.seq (.draw (.m 25 5<|
.m 26 1<|
.p 27 [26] (.min (.t 26) [(.i 32)])<|
.b 28 .shl .none (.t 25) (.t 27)<|
.m 29 0<|
.n 30 29<|
.f 31 0 30<|
.l 32 .any 31<|
.m 33 1<|
.p 34 [33] (.min (.t 33) [(.i 32)])<|
.k 35 (.int .u32) 183 [(.t 32),(.t 34)]<|
.P 36 (.conv (.toInt .u64) (.t 35))<|
.b 37 .or .none (.t 28) (.t 36)<|
.m 4 37<|
.nil) [0,0,2,7,0,16,48,112,0,256,1008,2032,4095,8191])
 .ret))))))
def T103_0 (E:List (Nat × Blk)) (D:Den) (W:DrawFn) (a b:Nat) (c:Int) (σ:H):Ans:=
 callK (D 182 [(V.int .i64 c)] σ) fun u1 s2=>
 rtInt .i64 u1 fun x3=>
 callK (D 114 [(V.ptr a b)] s2) fun u4 s5=>
 rtInt .i64 u4 fun x6=>
 condK (not (eqF x6 (Int.ofNat 0))) (
 some ((V.int .u64 (Int.ofNat 0)),s5)) (
 callK (D 115 [(V.ptr a b)] s5) fun u7 s8=>
 rtInt .i64 u7 fun x9=>
 condK (ltF x9 x3) (
 callK (D 181 [(V.ptr a b),(V.int .i64 (Int.ofNat 3))] s8) fun u10 s11=>
 rtTup u10 fun l12=>
 rtNil l12 (
 some ((V.int .u64 (Int.ofNat 0)),s11))) (
 ldK E s8 a b fun u13=>
 callK (D 183 [u13,(V.int .i64 (subF .i64 x3 (Int.ofNat 32)))] s8) fun u14 s15=>
 rtInt .u32 u14 fun x16=>
 nnK (minF x3 (Int.ofNat 32)) fun n17=>
 ldK E s15 a b fun u18=>
 callK (D 183 [u18,(V.int .i64 (minF x3 (Int.ofNat 32)))] s15) fun u19 s20=>
 rtInt .u32 u19 fun x21=>
 some ((V.int .u64 (orF .u64 (shlF .u64 (wrapF .u64 x16) n17) (wrapF .u64 x21))),s20)))
def S103_0 (a b:Nat) (c:Int) (σ:H):St:=⟨[(0,(V.ptr a b)),(1,(V.int .i64 c))],[],[],σ⟩
def J103_0 (E:List (Nat × Blk)) (D:Den) (W:DrawFn) (N:Nat):=T103_0 E D W
theorem JE103_0 (a b:Nat) (c:Int) (σ:H) :
 denC E D W N C103_0 (S103_0 a b c σ) (Fin103 E) nX (Fin103 E)=J103_0 E D W N a b c σ:=by kernel_rfl
def F103 (args:List V) (σ:H):Ans:=
 rtCons args fun x1 l2=>
 rtPtr x1 fun b3 o4=>
 xcI .i64 l2 fun x7 l6=>
 rtNil l6 (
 J103_0 E D W N b3 o4 x7 σ)
def A103:XFn:=⟨38,[.ptr,.i],[(.tmp 4)],C103_0⟩
theorem FE103 (args:List V) (σ:H):runX E D W N A103 args σ=F103 E D W N args σ:=by
 unfold F103
 simp only[←JE103_0]
 kernel_rfl
def G104_0:List AOper:=[⟨(some 29),.faddr 4 (.tmp 3),none⟩,⟨(some 30),.load none (.tmp 29),none⟩,⟨(some 31),.conv (.toInt .u64) (.tmp 30),none⟩,⟨(some 32),.mov (.tmp 0),none⟩,⟨(some 33),.nilck (.tmp 32),none⟩,⟨(some 34),.faddr 0 (.tmp 33),none⟩,⟨(some 35),.load none (.tmp 34),none⟩,⟨(some 36),.mov (.tmp 6),none⟩,⟨(some 37),.call 185 [(.tmp 35),(.tmp 36)],none⟩,⟨(some 38),.bin .add .none (.tmp 31) (.tmp 37),none⟩,⟨(some 39),.conv (.toInt .i64) (.tmp 38),none⟩,⟨(some 4),.mov (.tmp 39),none⟩]
def H104_0:List DP:=[⟨0,[3]⟩,⟨1,[29]⟩,⟨3,[30]⟩,⟨0,[0]⟩,⟨8,[32]⟩,⟨24,[33]⟩,⟨56,[34]⟩,⟨0,[6]⟩,⟨248,[35,36]⟩,⟨511,[31,37]⟩,⟨1023,[38]⟩,⟨2047,[39]⟩]
def Fin104 (E:List (Nat × Blk)):St→Ans:=fun s=>resK E s [(.tmp 4)] fun l=>some (oneV l,s.σ)
def C104_0:XC:=(.z (.P 3 (.box 141 (.t 1))<|
.q 4 0<|
.nil)
 (.z (.f 12 3 3<|
.l 13 .bool 12<|
.m 14 13<|
.gA 14 true (.p 15 [0,14] y14<|
.op (some 16) .bool [15,14] (.call 184 [(.t 15)])<|
.nil) 17 14 16<|
.m 5 17<|
.nil)
 (.z (.O 19 y3 (.load (some 6) (.t 3))<|
.k 20 (.tup [(.int .u64),.bool]) 140 [(.t 19)]<|
.m 18 20<|
.P 21 (.extract 0 (.t 18))<|
.P 22 (.extract 1 (.t 18))<|
.m 6 21<|
.m 7 22<|
.nil)
 (.seq (.block 0 (.z (.m 24 5<|
.P 25 (.un .not (.t 24))<|
.m 26 25<|
.gA 26 true (.p 27 [7,26] (.mov (.t 7))<|
.nil) 28 26 27<|
.m 23 28<|
.nil)
 (.cond (.tmp 23) (.seq (.keep [(0,.ptr),(3,.ptr),(6,(.int .u64))] [] [] (.gdraw G104_0 H104_0 [(4,.i)]))
 .ret)
 (.z (.m 41 5<|
.P 42 (.un .not (.t 41))<|
.m 43 42<|
.gA 43 true (.p 44 [3,43] (.faddr 0 (.t 3))<|
.op (some 45) .bool [44,43] (.load none (.t 44))<|
.nil) 46 43 45<|
.m 47 46<|
.gA 47 true (.p 48 [3,47] (.faddr 1 (.t 3))<|
.op (some 49) .bool [48,47] (.load none (.t 48))<|
.nil) 50 47 49<|
.m 40 50<|
.nil)
 (.cond (.tmp 40) (.z (.m 52 0<|
.n 53 52<|
.f 54 0 53<|
.l 55 .any 54<|
.k 56 .one 106 [(.t 55),(.i 8)]<|
.k 57 (.tup [(.int .u64),.i]) 186 [(.t 56)]<|
.m 51 57<|
.P 58 (.extract 0 (.t 51))<|
.P 59 (.extract 1 (.t 51))<|
.m 8 58<|
.m 9 59<|
.nil)
 (.z (.m 60 0<|
.m 61 9<|
.b 62 .neq .none (.t 61) (.i 0)<|
.m 63 62<|
.gO 63 false (.p 64 [8,63] y28<|
.p 65 [3,63] (.faddr 4 (.t 3))<|
.op (some 66) .i [65,63] (.load none (.t 65))<|
.p 67 [66,63] (.conv (.toInt .u64) (.t 66))<|
.p 68 [67,63] (.bin .sub .none (.con (V.int .u64 (Int.ofNat 9223372036854775807))) (.t 67))<|
.p 69 [64,68,63] (.bin .gtr .none (.t 64) (.t 68))<|
.nil) 70 63 69<|
.k 71 y11 100 [(.t 60),(.t 70)]<|
.nil)
 (.z (.f 72 4 3<|
.l 73 .i 72<|
.P 74 (.conv (.toInt .u64) (.t 73))<|
.m 75 8<|
.b 76 .add .none (.t 74) (.t 75)<|
.P 77 (.conv (.toInt .i64) (.t 76))<|
.m 4 77<|
.nil)
 .ret)))
 .skip)))))
 (.z (.m 79 0<|
.n 80 79<|
.f 81 0 80<|
.l 82 .any 81<|
.k 83 .one 106 [(.t 82),(.i 8)]<|
.k 84 (.tup [.i,.i]) 187 [(.t 83)]<|
.m 78 84<|
.P 85 (.extract 0 (.t 78))<|
.P 86 (.extract 1 (.t 78))<|
.m 10 85<|
.m 11 86<|
.nil)
 (.z (.m 87 0<|
.m 88 11<|
.b 89 .neq .none (.t 88) (.i 0)<|
.m 90 89<|
.gO 90 false (.op (some 91) y3 [3,90] (.load (some 6) (.t 3))<|
.p 92 [10,90] (.mov (.t 10))<|
.op (some 93) .bool [91,92,90] (.call 132 [(.t 91),(.t 92)])<|
.p 94 [5,90] (.mov (.t 5))<|
.p 95 [93,94,90] (.bin .eql .bool (.t 93) (.t 94))<|
.nil) 96 90 95<|
.k 97 y11 100 [(.t 87),(.t 96)]<|
.nil)
 (.z (.m 98 10<|
.m 4 98<|
.nil)
 .ret)))))))
def T104_0 (a b:Nat) (c d e f:Bool) (g h:Int) (σ:H):Ans:=
 nbK [(V.bool c),(V.bool d),(V.bool e),(V.bool f),(V.int .i64 g),(V.int .i64 h)] σ fun s1=>
 ldK E s1 (H.next σ) 3 fun u2=>
 rtBool u2 fun x3=>
 joinB (fun c4 s5=>
 ldnK E s5 (H.next σ) 0 6 fun l7=>
 xcB l7 fun x10 l9=>
 xcB l9 fun x13 l12=>
 xcB l12 fun x16 l15=>
 xcB l15 fun x19 l18=>
 xcI .i64 l18 fun x22 l21=>
 xcI .i64 l21 fun x25 l24=>
 rtNil l24 (
 callK (D 140 [(V.agg [(V.bool x10),(V.bool x13),(V.bool x16),(V.bool x19),(V.int .i64 x22),(V.int .i64 x25)])] s5) fun u26 s27=>
 rtTup u26 fun l28=>
 xcI .u64 l28 fun x31 l30=>
 xcB l30 fun x34 l33=>
 rtNil l33 (
 joinB (fun c35 s36=>
 condK c35 (
 gdrawK (W G104_0 H104_0 [(0,(V.ptr a b)),(3,(V.ptr (H.next σ) 0)),(6,(V.int .u64 x31))] s36) fun e38 s39=>
 getL e38 4 fun u40=>
 rtInt .i64 u40 fun x41=>
 some ((V.int .i64 x41),s39)) (
 joinB (fun c42 s43=>
 joinB (fun c45 s46=>
 condK c45 (
 ldK E s46 a b fun u48=>
 callK (D 106 [u48,(V.int .i64 (Int.ofNat 8))] s46) fun u49 s50=>
 rtOne u49 (
 callK (D 186 [u49] s50) fun u51 s52=>
 rtTup u51 fun l53=>
 xcI .u64 l53 fun x56 l55=>
 xcI .i64 l55 fun x59 l58=>
 rtNil l58 (
 joinB (fun c60 s61=>
 callK (D 100 [(V.ptr a b),(V.bool c60)] s61) fun u63 s64=>
 rtTup u63 fun l65=>
 rtNil l65 (
 ldK E s64 (H.next σ) 4 fun u66=>
 rtInt .i64 u66 fun x67=>
 some ((V.int .i64 (wrapF .i64 (addF .u64 (wrapF .u64 x67) x56))),s64))) fun k62=>
 condK (not (eqF x59 (Int.ofNat 0))) (
 k62 true s52) (
 ldK E s52 (H.next σ) 4 fun u68=>
 rtInt .i64 u68 fun x69=>
 k62 (ltF (subF .u64 (Int.ofNat 9223372036854775807) (wrapF .u64 x69)) x56) s52)))) (
 ldK E s46 a b fun u70=>
 callK (D 106 [u70,(V.int .i64 (Int.ofNat 8))] s46) fun u71 s72=>
 rtOne u71 (
 callK (D 187 [u71] s72) fun u73 s74=>
 rtTup u73 fun l75=>
 xcI .i64 l75 fun x78 l77=>
 xcI .i64 l77 fun x81 l80=>
 rtNil l80 (
 joinB (fun c82 s83=>
 callK (D 100 [(V.ptr a b),(V.bool c82)] s83) fun u85 s86=>
 rtTup u85 fun l87=>
 rtNil l87 (
 some ((V.int .i64 x78),s86))) fun k84=>
 condK (not (eqF x81 (Int.ofNat 0))) (
 k84 true s74) (
 ldnK E s74 (H.next σ) 0 6 fun l88=>
 xcB l88 fun x91 l90=>
 xcB l90 fun x94 l93=>
 xcB l93 fun x97 l96=>
 xcB l96 fun x100 l99=>
 xcI .i64 l99 fun x103 l102=>
 xcI .i64 l102 fun x106 l105=>
 rtNil l105 (
 callK (D 132 [(V.agg [(V.bool x91),(V.bool x94),(V.bool x97),(V.bool x100),(V.int .i64 x103),(V.int .i64 x106)]),(V.int .i64 x78)] s74) fun u107 s108=>
 rtBool u107 fun x109=>
 eqK .bool (V.bool x109) (V.bool c4) fun c110=>
 k84 c110 s108)))))) fun k47=>
 condK c42 (
 ldK E s43 (H.next σ) 1 fun u111=>
 rtBool u111 fun x112=>
 k47 x112 s43) (
 k47 false s43)) fun k44=>
 condK (not c4) (
 ldK E s36 (H.next σ) 0 fun u113=>
 rtBool u113 fun x114=>
 k44 x114 s36) (
 k44 false s36))) fun k37=>
 condK (not c4) (
 k37 x34 s27) (
 k37 false s27)))) fun k6=>
 condK x3 (
 callK (D 184 [(V.ptr a b)] s1) fun u115 s116=>
 rtBool u115 fun x117=>
 k6 x117 s116) (
 k6 false s1)
def S104_0 (a b:Nat) (c d e f:Bool) (g h:Int) (σ:H):St:=⟨[(0,(V.ptr a b)),(1,(V.agg [(V.bool c),(V.bool d),(V.bool e),(V.bool f),(V.int .i64 g),(V.int .i64 h)]))],[],[],σ⟩
def J104_0 (E:List (Nat × Blk)) (D:Den) (W:DrawFn) (N:Nat):=T104_0 E D W
theorem JE104_0 (a b:Nat) (c d e f:Bool) (g h:Int) (σ:H) :
 denC E D W N C104_0 (S104_0 a b c d e f g h σ) (Fin104 E) nX (Fin104 E)=J104_0 E D W N a b c d e f g h σ:=by kernel_rfl
def F104 (args:List V) (σ:H):Ans:=
 rtCons args fun x1 l2=>
 rtPtr x1 fun b3 o4=>
 rtCons l2 fun x5 l6=>
 rtAgg x5 fun l7=>
 xcB l7 fun x10 l9=>
 xcB l9 fun x13 l12=>
 xcB l12 fun x16 l15=>
 xcB l15 fun x19 l18=>
 xcI .i64 l18 fun x22 l21=>
 xcI .i64 l21 fun x25 l24=>
 rtNil l24 (
 rtNil l6 (
 J104_0 E D W N b3 o4 x10 x13 x16 x19 x22 x25 σ))
def A104:XFn:=⟨99,[.ptr,y3],[(.tmp 4)],C104_0⟩
theorem FE104 (args:List V) (σ:H):runX E D W N A104 args σ=F104 E D W N args σ:=by
 unfold F104
 simp only[←JE104_0]
 kernel_rfl
def Fin114 (E:List (Nat × Blk)):St→Ans:=fun s=>resK E s [(.tmp 2)] fun l=>some (oneV l,s.σ)
def C114_0:XC:=(.z (.q 2 0<|
.nil)
 (.seq (.block 0 (.z (.m 4 0<|
.b 5 .eql .ptr (.t 4) (.con V.nilp)<|
.m 3 5<|
.nil)
 (.cond (.tmp 3) (.z (.q 2 2<|
.nil)
 .ret)
 (.z (.m 7 0<|
.n 8 7<|
.f 9 1 8<|
.l 10 .i 9<|
.b 11 .neq .none (.t 10) (.i 0)<|
.m 6 11<|
.nil)
 (.cond (.tmp 6) (.z (.m 12 0<|
.n 13 12<|
.f 14 1 13<|
.l 15 .i 14<|
.m 2 15<|
.nil)
 .ret)
 .skip)))))
 (.z (.m 16 0<|
.n 17 16<|
.f 18 0 17<|
.l 19 .any 18<|
.k 20 .i 201 [(.t 19)]<|
.m 2 20<|
.nil)
 .ret)))
def T114_0 (E:List (Nat × Blk)) (D:Den) (W:DrawFn) (a:V) (σ:H):Ans:=
 eqK .ptr a V.nilp fun c1=>
 condK c1 (
 some ((V.int .i64 (Int.ofNat 2)),σ)) (
 rtPtr a fun b2 o3=>
 ldK E σ b2 (Nat.add o3 1) fun u4=>
 rtInt .i64 u4 fun x5=>
 condK (not (eqF x5 (Int.ofNat 0))) (
 rtPtr a fun b6 o7=>
 ldK E σ b6 (Nat.add o7 1) fun u8=>
 rtInt .i64 u8 fun x9=>
 some ((V.int .i64 x9),σ)) (
 rtPtr a fun b10 o11=>
 ldK E σ b10 o11 fun u12=>
 callK (D 201 [u12] σ) fun u13 s14=>
 rtInt .i64 u13 fun x15=>
 some ((V.int .i64 x15),s14)))
def S114_0 (a:V) (σ:H):St:=⟨[(0,a)],[],[],σ⟩
def J114_0 (E:List (Nat × Blk)) (D:Den) (W:DrawFn) (N:Nat):=T114_0 E D W
theorem JE114_0 (a:V) (σ:H) :
 denC E D W N C114_0 (S114_0 a σ) (Fin114 E) nX (Fin114 E)=J114_0 E D W N a σ:=by kernel_rfl
def F114 (args:List V) (σ:H):Ans:=
 rtCons args fun x1 l2=>
 rtNil l2 (
 J114_0 E D W N x1 σ)
def A114:XFn:=⟨21,[.any],[(.tmp 2)],C114_0⟩
theorem FE114 (args:List V) (σ:H):runX E D W N A114 args σ=F114 E D W N args σ:=by
 unfold F114
 simp only[←JE114_0]
 kernel_rfl
def Fin115 (E:List (Nat × Blk)):St→Ans:=fun s=>resK E s [(.tmp 2)] fun l=>some (oneV l,s.σ)
def C115_0:XC:=(.z (.q 2 0<|
.nil)
 (.seq (.z (.m 3 0<|
.b 4 .eql .ptr (.t 3) (.con V.nilp)<|
.nil)
 (.cond (.tmp 4) (.z (.q 2 0<|
.nil)
 .ret)
 .skip))
 (.z (.m 5 0<|
.n 6 5<|
.f 7 0 6<|
.l 8 .any 7<|
.k 9 .i 202 [(.t 8)]<|
.m 2 9<|
.nil)
 .ret)))
def T115_0 (E:List (Nat × Blk)) (D:Den) (W:DrawFn) (a:V) (σ:H):Ans:=
 eqK .ptr a V.nilp fun c1=>
 condK c1 (
 some ((V.int .i64 (Int.ofNat 0)),σ)) (
 rtPtr a fun b2 o3=>
 ldK E σ b2 o3 fun u4=>
 callK (D 202 [u4] σ) fun u5 s6=>
 rtInt .i64 u5 fun x7=>
 some ((V.int .i64 x7),s6))
def S115_0 (a:V) (σ:H):St:=⟨[(0,a)],[],[],σ⟩
def J115_0 (E:List (Nat × Blk)) (D:Den) (W:DrawFn) (N:Nat):=T115_0 E D W
theorem JE115_0 (a:V) (σ:H) :
 denC E D W N C115_0 (S115_0 a σ) (Fin115 E) nX (Fin115 E)=J115_0 E D W N a σ:=by kernel_rfl
def F115 (args:List V) (σ:H):Ans:=
 rtCons args fun x1 l2=>
 rtNil l2 (
 J115_0 E D W N x1 σ)
def A115:XFn:=⟨10,[.any],[(.tmp 2)],C115_0⟩
theorem FE115 (args:List V) (σ:H):runX E D W N A115 args σ=F115 E D W N args σ:=by
 unfold F115
 simp only[←JE115_0]
 kernel_rfl
def Fin116 (E:List (Nat × Blk)):St→Ans:=fun s=>resK E s [(.tmp 2)] fun l=>some (oneV l,s.σ)
def C116_0:XC:=(.z (.q 2 0<|
.nil)
 (.seq (.z (.m 6 0<|
.k 7 .i 201 [(.t 6)]<|
.m 3 7<|
.nil)
 (.z (.m 8 3<|
.b 9 .neq .none (.t 8) (.i 0)<|
.nil)
 (.cond (.tmp 9) (.z (.m 10 3<|
.m 2 10<|
.nil)
 .ret)
 .skip)))
 (.z (.m 11 0<|
.n 12 11<|
.f 13 0 12<|
.O 14 (.agg [.any,.i]) (.load (some 2) (.t 13))<|
.p 4 [] (.alloc 226 [V.nils,y0])<|
.op none (.agg [.any,.i]) [4,14] (.store 2 (.t 4) (.t 14))<|
.nil)
 (.seq (.z (.k 15 .i 203 [(.t 4)]<|
.m 5 15<|
.nil)
 (.z (.m 16 5<|
.b 17 .geq .none (.t 16) (.i 8)<|
.m 18 17<|
.gO 18 false (.p 19 [5,18] (.mov (.t 5))<|
.op (some 20) (.int .u32) [4,19,18] (.call 204 [(.t 4),(.t 19)])<|
.p 21 [20,18] (.bin .neq .none (.t 20) (.con y25))<|
.nil) 22 18 21<|
.nil)
 (.cond (.tmp 22) (.z (.q 2 4<|
.nil)
 .ret)
 .skip)))
 (.z (.q 2 0<|
.nil)
 .ret)))))
def T116_0 (E:List (Nat × Blk)) (D:Den) (W:DrawFn) (a b:Nat) (σ:H):Ans:=
 callK (D 201 [(V.ptr a b)] σ) fun u1 s2=>
 rtInt .i64 u1 fun x3=>
 condK (not (eqF x3 (Int.ofNat 0))) (
 some ((V.int .i64 x3),s2)) (
 ldnK E s2 a b 2 fun l4=>
 rtCons l4 fun x5 l6=>
 xcI .i64 l6 fun x9 l8=>
 rtNil l8 (
 let s10:=newB s2 (.cells [V.nils,(V.int .i64 (Int.ofNat 0))]);
 stK 2 (H.next s2) 0 (V.agg [x5,(V.int .i64 x9)]) s10 fun s11=>
 callK (D 203 [(V.ptr (H.next s2) 0)] s11) fun u12 s13=>
 rtInt .i64 u12 fun x14=>
 joinB (fun c15 s16=>
 condK c15 (
 some ((V.int .i64 (Int.ofNat 4)),s16)) (
 some ((V.int .i64 (Int.ofNat 0)),s16))) fun k17=>
 condK (leF (Int.ofNat 8) x14) (
 k17 true s13) (
 callK (D 204 [(V.ptr (H.next s2) 0),(V.int .i64 x14)] s13) fun u18 s19=>
 rtInt .u32 u18 fun x20=>
 k17 (not (eqF x20 (Int.ofNat 0))) s19)))
def S116_0 (a b:Nat) (σ:H):St:=⟨[(0,(V.ptr a b))],[],[],σ⟩
def J116_0 (E:List (Nat × Blk)) (D:Den) (W:DrawFn) (N:Nat):=T116_0 E D W
theorem JE116_0 (a b:Nat) (σ:H) :
 denC E D W N C116_0 (S116_0 a b σ) (Fin116 E) nX (Fin116 E)=J116_0 E D W N a b σ:=by kernel_rfl
def F116 (args:List V) (σ:H):Ans:=
 rtCons args fun x1 l2=>
 rtPtr x1 fun b3 o4=>
 rtNil l2 (
 J116_0 E D W N b3 o4 σ)
def A116:XFn:=⟨23,[.ptr],[(.tmp 2)],C116_0⟩
theorem FE116 (args:List V) (σ:H):runX E D W N A116 args σ=F116 E D W N args σ:=by
 unfold F116
 simp only[←JE116_0]
 kernel_rfl
def q117a:List (Nat × XTy):=[(0,.str),(1,.i)]
def Fin117 (E:List (Nat × Blk)):St→Ans:=fun s=>resK E s [(.tmp 4)] fun l=>some (oneV l,s.σ)
def b117a (c0:XC):Nat→St→Ans:=blkK 0 (dX E D W N (.keep [(1,.i)] [] [] c0) (Fin117 E) nX (Fin117 E)) nX
def b117b (c0:XC) (l0:St→Ans):Nat→St→Ans:=blkK 3 (kX q117a [] [] l0) (blkK 2 (kX q117a [] [] l0) (blkK 1 (kX q117a [] [] l0) (b117a E D W N c0)))
def C117_0 (cc1:XC) (cc2:XC):XC:=(.z (.q 4 0<|
.nil)
 (.seq (.block 0 (.loop q117a [] [] cc2))
 (.keep [(1,.i)] [] [] cc1)))
def T117_0 (E:List (Nat × Blk)) (D:Den) (W:DrawFn) (K2:BS→Int→H→Ans) (a:BS) (b:Int) (σ:H):Ans:=
 K2 a b σ
def C117_1:XC:=(.z (.m 74 1<|
.m 4 74<|
.nil)
 .ret)
def T117_1 (E:List (Nat × Blk)) (D:Den) (W:DrawFn) (a:Int) (σ:H):Ans:=
 some ((V.int .i64 a),σ)
def C117_2 (cc3:XC):XC:=(.seq (.z (.m 5 1<|
.m 6 0<|
.P 7 (.len true (.t 6))<|
.b 8 .lss .none (.t 5) (.t 7)<|
.nil)
 (.cond (.tmp 8) .skip
 y36))
 (.block 1 (.block 2 (.z (.m 11 0<|
.m 12 1<|
.P 13 (.idxStr (.t 11) (.t 12))<|
.b 14 .eql .none (.t 13) (.con (V.int .u8 (Int.ofNat 32)))<|
.m 15 14<|
.gO 15 false (.p 16 [0,15] y14<|
.p 17 [1,15] y15<|
.p 18 [16,17,15] (.idxStr (.t 16) (.t 17))<|
.p 19 [18,15] (.bin .eql .none (.t 18) (.con (V.int .u8 (Int.ofNat 9))))<|
.nil) 20 15 19<|
.m 21 20<|
.gO 21 false (.p 22 [0,21] y14<|
.p 23 [1,21] y15<|
.p 24 [22,23,21] (.idxStr (.t 22) (.t 23))<|
.p 25 [24,21] (.bin .eql .none (.t 24) (.con (V.int .u8 (Int.ofNat 10))))<|
.nil) 26 21 25<|
.m 27 26<|
.gO 27 false (.p 28 [0,27] y14<|
.p 29 [1,27] y15<|
.p 30 [28,29,27] (.idxStr (.t 28) (.t 29))<|
.p 31 [30,27] (.bin .eql .none (.t 30) (.con (V.int .u8 (Int.ofNat 13))))<|
.nil) 32 27 31<|
.m 10 32<|
.nil)
 (.cond (.tmp 10) (.ops (.m 33 1<|
.b 34 .add .none (.t 33) (.i 1)<|
.m 1 34<|
.nil))
 (.z (.m 36 0<|
.m 37 1<|
.P 38 (.idxStr (.t 36) (.t 37))<|
.b 39 .eql .none (.t 38) y13<|
.m 40 39<|
.gA 40 true (.p 41 [0,40] y14<|
.p 42 [1,40] y15<|
.p 43 [42,40] (.bin .add .none (.t 42) (.i 1))<|
.op (some 44) (.int .u8) [41,43,40] (.call 205 [(.t 41),(.t 43)])<|
.p 45 [44,40] (.bin .eql .none (.t 44) y13)<|
.nil) 46 40 45<|
.m 35 46<|
.nil)
 (.cond (.tmp 35) (.z (.m 47 1<|
.b 48 .add .none (.t 47) (.i 2)<|
.m 1 48<|
.nil)
 (.block 3 (.loop q117a [] [] cc3)))
 (.z (.m 9 1<|
.m 4 9<|
.nil)
 .ret))))))))
def T117_2 (E:List (Nat × Blk)) (D:Den) (W:DrawFn) (K1:Int→H→Ans) (K3:BS→Int→H→Ans) (R2:BS→Int→H→Ans) (a:BS) (b:Int) (σ:H):Ans:=
 condK (ltF b (Int.ofNat (BS.len a))) (
 idxStrX a b fun x1=>
 joinB (fun c2 s3=>
 joinB (fun c5 s6=>
 joinB (fun c8 s9=>
 condK c8 (
 R2 a (addF .i64 b (Int.ofNat 1)) s9) (
 idxStrX a b fun x11=>
 joinB (fun c12 s13=>
 condK c12 (
 K3 a (addF .i64 b (Int.ofNat 2)) s13) (
 some ((V.int .i64 b),s13))) fun k14=>
 condK (eqF x11 (Int.ofNat 45)) (
 callK (D 205 [(V.str a),(V.int .i64 (addF .i64 b (Int.ofNat 1)))] s9) fun u15 s16=>
 rtInt .u8 u15 fun x17=>
 k14 (eqF x17 (Int.ofNat 45)) s16) (
 k14 false s9))) fun k10=>
 condK c5 (
 k10 true s6) (
 idxStrX a b fun x18=>
 k10 (eqF x18 (Int.ofNat 13)) s6)) fun k7=>
 condK c2 (
 k7 true s3) (
 idxStrX a b fun x19=>
 k7 (eqF x19 (Int.ofNat 10)) s3)) fun k4=>
 condK (eqF x1 (Int.ofNat 32)) (
 k4 true σ) (
 idxStrX a b fun x20=>
 k4 (eqF x20 (Int.ofNat 9)) σ)) (
 K1 b σ)
def C117_3:XC:=(.seq (.z (.m 49 1<|
.m 50 0<|
.P 51 (.len true (.t 50))<|
.b 52 .lss .none (.t 49) (.t 51)<|
.m 53 52<|
.gA 53 true (.p 54 [0,53] y14<|
.p 55 [1,53] y15<|
.p 56 [54,55,53] (.idxStr (.t 54) (.t 55))<|
.p 57 [56,53] (.bin .neq .none (.t 56) (.con (V.int .u8 (Int.ofNat 10))))<|
.nil) 58 53 57<|
.nil)
 (.cond (.tmp 58) .skip
 (.exit 3)))
 (.block 4 (.seq (.z (.m 59 0<|
.m 60 1<|
.P 61 (.idxStr (.t 59) (.t 60))<|
.b 62 .eql .none (.t 61) y13<|
.m 63 62<|
.gA 63 true (.p 64 [0,63] y14<|
.p 65 [1,63] y15<|
.p 66 [65,63] (.bin .add .none (.t 65) (.i 1))<|
.op (some 67) (.int .u8) [64,66,63] (.call 205 [(.t 64),(.t 66)])<|
.p 68 [67,63] (.bin .eql .none (.t 67) y13)<|
.nil) 69 63 68<|
.nil)
 (.cond (.tmp 69) (.z (.m 70 1<|
.b 71 .add .none (.t 70) (.i 2)<|
.m 1 71<|
.nil)
 (.exit 3))
 .skip))
 (.ops (.m 72 1<|
.b 73 .add .none (.t 72) (.i 1)<|
.m 1 73<|
.nil)))))
def T117_3 (E:List (Nat × Blk)) (D:Den) (W:DrawFn) (R2:BS→Int→H→Ans) (R3:BS→Int→H→Ans) (a:BS) (b:Int) (σ:H):Ans:=
 joinB (fun c1 s2=>
 condK c1 (
 idxStrX a b fun x4=>
 joinB (fun c5 s6=>
 condK c5 (
 R2 a (addF .i64 b (Int.ofNat 2)) s6) (
 R3 a (addF .i64 b (Int.ofNat 1)) s6)) fun k7=>
 condK (eqF x4 (Int.ofNat 45)) (
 callK (D 205 [(V.str a),(V.int .i64 (addF .i64 b (Int.ofNat 1)))] s2) fun u8 s9=>
 rtInt .u8 u8 fun x10=>
 k7 (eqF x10 (Int.ofNat 45)) s9) (
 k7 false s2)) (
 R2 a b s2)) fun k3=>
 condK (ltF b (Int.ofNat (BS.len a))) (
 idxStrX a b fun x11=>
 k3 (not (eqF x11 (Int.ofNat 10))) σ) (
 k3 false σ)
def S117_0 (a:BS) (b:Int) (σ:H):St:=⟨[(0,(V.str a)),(1,(V.int .i64 b))],[],[],σ⟩
def S117_1 (a:Int) (σ:H):St:=⟨[(1,(V.int .i64 a))],[],[],σ⟩
theorem P117_0 (cc1:XC) (cc2:XC) (a:BS) (b:Int) (σ:H) :
 denC E D W N (C117_0 cc1 cc2) (S117_0 a b σ) (Fin117 E) nX (Fin117 E) =
 T117_0 E D W (fun a b σ=>iterK (fun rec s'=>denC E D W N cc2 s' (kX q117a [] [] rec) (b117a E D W N cc1) (Fin117 E)) N (S117_0 a b σ)) a b σ:=by kernel_rfl
theorem P117_2 (cc1:XC) (cc3:XC) (li2:St→Ans) (a:BS) (b:Int) (σ:H) :
 denC E D W N (C117_2 cc3) (S117_0 a b σ) (kX q117a [] [] li2) (b117a E D W N cc1) (Fin117 E) =
 T117_2 E D W (fun b σ=>denC E D W N cc1 (S117_1 b σ) (Fin117 E) nX (Fin117 E)) (fun a b σ=>iterK (fun rec s'=>denC E D W N cc3 s' (kX q117a [] [] rec) (b117b E D W N cc1 li2) (Fin117 E)) N (S117_0 a b σ)) (fun a b σ=>li2 (S117_0 a b σ)) a b σ:=by kernel_rfl
theorem P117_3 (cc1:XC) (li2:St→Ans) (li3:St→Ans) (a:BS) (b:Int) (σ:H) :
 denC E D W N (C117_3 ) (S117_0 a b σ) (kX q117a [] [] li3) (b117b E D W N cc1 li2) (Fin117 E) =
 T117_3 E D W (fun a b σ=>li2 (S117_0 a b σ)) (fun a b σ=>li3 (S117_0 a b σ)) a b σ:=by kernel_rfl
def J117_1 (E:List (Nat × Blk)) (D:Den) (W:DrawFn) (N:Nat):=T117_1 E D W
theorem JE117_1 (a:Int) (σ:H) :
 denC E D W N C117_1 (S117_1 a σ) (Fin117 E) nX (Fin117 E)=J117_1 E D W N a σ:=by kernel_rfl
def L117_3 (E:List (Nat × Blk)) (D:Den) (W:DrawFn) (N:Nat) (R2:BS→Int→H→Ans) (n:Nat):BS→Int→H→Ans:=
 Nat.rec (fun _ _ _=>none) (fun _ ih=>T117_3 E D W R2 ih) n
theorem LE117_3 (li2:St→Ans) (n:Nat):∀(a:BS) (b:Int) (σ:H),
 iterK (fun rec s'=>denC E D W N C117_3 s' (kX q117a [] [] rec) (b117b E D W N C117_1 li2) (Fin117 E)) n (S117_0 a b σ)=L117_3 E D W N (fun a b σ=>li2 (S117_0 a b σ)) n a b σ:=by
 induction n with
 | zero=>intro a b σ;rfl
 | succ n ihn=>
  intro a b σ
  rw[iterK_succ]
  refine(P117_3 E D W N C117_1 li2 (iterK (fun rec s'=>denC E D W N C117_3 s' (kX q117a [] [] rec) (b117b E D W N C117_1 li2) (Fin117 E)) n) a b σ).trans ?_
  simp only[ihn]
  kernel_rfl
def L117_2 (n:Nat):BS→Int→H→Ans:=
 Nat.rec (fun _ _ _=>none) (fun _ ih=>T117_2 E D W (J117_1 E D W N ) (L117_3 E D W N ih N) ih) n
theorem LE117_2 (n:Nat):∀(a:BS) (b:Int) (σ:H),
 iterK (fun rec s'=>denC E D W N (C117_2 C117_3) s' (kX q117a [] [] rec) (b117a E D W N C117_1) (Fin117 E)) n (S117_0 a b σ)=L117_2 E D W N n a b σ:=by
 induction n with
 | zero=>intro a b σ;rfl
 | succ n ihn=>
  intro a b σ
  rw[iterK_succ]
  refine(P117_2 E D W N C117_1 C117_3 (iterK (fun rec s'=>denC E D W N (C117_2 C117_3) s' (kX q117a [] [] rec) (b117a E D W N C117_1) (Fin117 E)) n) a b σ).trans ?_
  simp only[ihn,JE117_1,LE117_3]
  kernel_rfl
def J117_0:=T117_0 E D W (L117_2 E D W N N)
theorem JE117_0 (a:BS) (b:Int) (σ:H) :
 denC E D W N (C117_0 C117_1 (C117_2 C117_3)) (S117_0 a b σ) (Fin117 E) nX (Fin117 E)=J117_0 E D W N a b σ:=by
 refine(P117_0 E D W N C117_1 (C117_2 C117_3)  a b σ).trans ?_
 simp only[LE117_2]
 kernel_rfl
def F117 (args:List V) (σ:H):Ans:=
 xcS args fun x3 l2=>
 xcI .i64 l2 fun x6 l5=>
 rtNil l5 (
 J117_0 E D W N x3 x6 σ)
def A117:XFn:=⟨75,[.str,.i],[(.tmp 4)],(C117_0 C117_1 (C117_2 C117_3))⟩
theorem FE117 (args:List V) (σ:H):runX E D W N A117 args σ=F117 E D W N args σ:=by
 unfold F117
 simp only[←JE117_0]
 kernel_rfl
def q118a:List (Nat × List XTy):=[(4,[.i,.str,.i]),(6,[.i,.str,.i])]
def Fin118 (E:List (Nat × Blk)):St→Ans:=fun s=>resK E s [(.cell 4 (some 3)),(.tmp 5)] fun l=>some (oneV l,s.σ)
def b118a (c0:XC):St→Ans:=dX E D W N (.keep [(8,.i)] [4,6] q118a c0) (Fin118 E) nX (Fin118 E)
def C118_0 (cc1:XC) (cc2:XC):XC:=(.z (.pal 4 [] 121 [y0,y7,y0]<|
.q 5 0<|
.nil)
 (.z (.m 10 1<|
.op (some 11) y8 [10] (.build [y0,y7,y0] [(2,1,(.t 10))])<|
.pal 6 [] 121 [y0,y7,y0]<|
.op none y8 [6,11] (.store 3 (.t 6) (.t 11))<|
.nil)
 (.z (.m 12 0<|
.m 13 1<|
.P 14 (.idxStr (.t 12) (.t 13))<|
.m 7 14<|
.nil)
 (.z (.c 8 y20<|
.nil)
 (.seq (.block 0 (.z (.m 32 7<|
.k 33 .bool 206 [(.t 32)]<|
.m 31 33<|
.nil)
 (.cond (.tmp 31) (.z (.m 34 0<|
.m 35 1<|
.k 36 .i 207 [(.t 34),(.t 35)]<|
.m 8 36<|
.nil)
 (.seq (.z (.m 37 8<|
.b 38 .lss .none (.t 37) (.i 0)<|
.nil)
 (.cond (.tmp 38) (.z (.O 39 y8 (.load (some 3) (.t 6))<|
.op none y8 [4,39] (.store 3 (.t 4) (.t 39))<|
.c 5 y20<|
.nil)
 .ret)
 .skip))
 (.seq (.draw (.m 40 0<|
.m 41 1<|
.m 42 8<|
.p 43 [40,41,42] (.sliceStr (.t 40) (some (.t 41)) (some (.t 42)))<|
.f 44 0 6<|
.op none .any [44] (.store 1 (.t 44) (.i 2))<|
.f 45 1 6<|
.w 1 45 43<|
.nil) [0,0,0,7,0,16,63,127])
 (.seq (.z (.m 46 7<|
.b 47 .leq .none (.t 46) (.con (V.int .u8 (Int.ofNat 90)))<|
.nil)
 (.cond (.tmp 47) (.ops (.f 48 0 6<|
.op none .any [48] (.store 1 (.t 48) (.i 1))<|
.nil))
 .skip))
 (.keep [(8,.i)] [4,6] q118a cc2)))))
 (.z (.m 54 7<|
.k 55 .bool 209 [(.t 54)]<|
.m 56 55<|
.gO 56 false (.p 57 [7,56] (.mov (.t 7))<|
.p 58 [57,56] (.bin .eql .none (.t 57) y13)<|
.p 59 [58,56] (.mov (.t 58))<|
.grp 59 true (.p 60 [0,59] y14<|
.p 61 [1,59] y15<|
.p 62 [61,59] (.bin .add .none (.t 61) (.i 1))<|
.op (some 63) (.int .u8) [60,62,59] (.call 205 [(.t 60),(.t 62)])<|
.op (some 64) .bool [63,59] (.call 209 [(.t 63)])<|
.nil) 65 [59,64,56] (.t 59) (.t 64) y18<|
.nil) 66 56 65<|
.m 53 66<|
.nil)
 (.cond (.tmp 53) (.z (.m 67 0<|
.m 68 1<|
.k 69 .i 210 [(.t 67),(.t 68)]<|
.m 8 69<|
.nil)
 (.seq (.z (.m 70 8<|
.b 71 .lss .none (.t 70) (.i 0)<|
.nil)
 (.cond (.tmp 71) (.z (.O 72 y8 (.load (some 3) (.t 6))<|
.op none y8 [4,72] (.store 3 (.t 4) (.t 72))<|
.c 5 y20<|
.nil)
 .ret)
 .skip))
 (.draw (.m 73 0<|
.m 74 1<|
.m 75 8<|
.p 76 [73,74,75] (.sliceStr (.t 73) (some (.t 74)) (some (.t 75)))<|
.f 77 0 6<|
.op none .any [77] (.store 1 (.t 77) (.i 3))<|
.f 78 1 6<|
.w 1 78 76<|
.nil) [0,0,0,7,0,16,63,127])))
 (.z (.m 80 7<|
.b 81 .eql .none (.t 80) (.con (V.int .u8 (Int.ofNat 39)))<|
.m 79 81<|
.nil)
 (.cond (.tmp 79) (.z (.f 82 0 6<|
.op none .any [82] (.store 1 (.t 82) (.i 4))<|
.nil)
 (.ops (.m 84 0<|
.m 85 1<|
.k 86 (.tup [.i,.str]) 211 [(.t 84),(.t 85)]<|
.m 83 86<|
.P 87 (.extract 0 (.t 83))<|
.P 88 (.extract 1 (.t 83))<|
.m 8 87<|
.f 89 1 6<|
.w 1 89 88<|
.nil)))
 (.z (.m 91 7<|
.b 92 .eql .none (.t 91) (.con (V.int .u8 (Int.ofNat 34)))<|
.m 90 92<|
.nil)
 (.cond (.tmp 90) (.z (.f 93 0 6<|
.op none .any [93] (.store 1 (.t 93) (.i 7))<|
.nil)
 (.ops (.m 95 0<|
.m 96 1<|
.k 97 (.tup [.i,.str]) 212 [(.t 95),(.t 96)]<|
.m 94 97<|
.P 98 (.extract 0 (.t 94))<|
.P 99 (.extract 1 (.t 94))<|
.m 8 98<|
.f 100 1 6<|
.w 1 100 99<|
.nil)))
 (.z (.m 15 0<|
.m 16 1<|
.k 17 .i 213 [(.t 15),(.t 16)]<|
.m 9 17<|
.nil)
 (.z (.m 18 9<|
.b 19 .gtr .none (.t 18) (.i 0)<|
.nil)
 (.cond (.tmp 19) (.draw (.m 20 0<|
.m 21 1<|
.m 22 1<|
.m 23 9<|
.b 24 .add .none (.t 22) (.t 23)<|
.p 25 [20,21,24] (.sliceStr (.t 20) (some (.t 21)) (some (.t 24)))<|
.m 26 1<|
.m 27 9<|
.b 28 .add .none (.t 26) (.t 27)<|
.f 29 0 6<|
.op none .any [29] (.store 1 (.t 29) (.i 6))<|
.f 30 1 6<|
.w 1 30 25<|
.m 8 28<|
.nil) [0,0,0,0,12,31,0,0,192,0,512,1599,3647,8191])
 .skip))))))))))))
 (.keep [(8,.i)] [4,6] q118a cc1))))))
def T118_0 (E:List (Nat × Blk)) (D:Den) (W:DrawFn) (K1:Int→Int→BS→Int→Int→BS→Int→H→Ans) (K2:Int→Int→BS→Int→Int→BS→Int→H→Ans) (a:BS) (b:Int) (σ:H):Ans:=
 idxStrX a b fun x1=>
 callK (D 206 [(V.int .u8 x1)] σ) fun u2 s3=>
 rtBool u2 fun x4=>
 condK x4 (
 callK (D 207 [(V.str a),(V.int .i64 b)] s3) fun u5 s6=>
 rtInt .i64 u5 fun x7=>
 condK (ltF x7 (Int.ofNat 0)) (
 some ((V.tup [(V.agg [(V.int .i64 (Int.ofNat 0)),(V.str (BS.mk 0 0)),(V.int .i64 b)]),(V.int .i64 (Int.negSucc 0))]),s6)) (
 sliceStrX a (some (V.int .i64 b)) (some (V.int .i64 x7)) fun t8=>
 condK (leF x1 (Int.ofNat 90)) (
 K2 x7 (Int.ofNat 0) (BS.mk 0 0) (Int.ofNat 0) (Int.ofNat 1) t8 b s6) (
 K2 x7 (Int.ofNat 0) (BS.mk 0 0) (Int.ofNat 0) (Int.ofNat 2) t8 b s6))) (
 callK (D 209 [(V.int .u8 x1)] s3) fun u9 s10=>
 rtBool u9 fun x11=>
 joinB (fun c12 s13=>
 condK c12 (
 callK (D 210 [(V.str a),(V.int .i64 b)] s13) fun u15 s16=>
 rtInt .i64 u15 fun x17=>
 condK (ltF x17 (Int.ofNat 0)) (
 some ((V.tup [(V.agg [(V.int .i64 (Int.ofNat 0)),(V.str (BS.mk 0 0)),(V.int .i64 b)]),(V.int .i64 (Int.negSucc 0))]),s16)) (
 sliceStrX a (some (V.int .i64 b)) (some (V.int .i64 x17)) fun t18=>
 K1 x17 (Int.ofNat 0) (BS.mk 0 0) (Int.ofNat 0) (Int.ofNat 3) t18 b s16)) (
 condK (eqF x1 (Int.ofNat 39)) (
 callK (D 211 [(V.str a),(V.int .i64 b)] s13) fun u19 s20=>
 rtTup u19 fun l21=>
 xcI .i64 l21 fun x24 l23=>
 xcS l23 fun x27 l26=>
 rtNil l26 (
 K1 x24 (Int.ofNat 0) (BS.mk 0 0) (Int.ofNat 0) (Int.ofNat 4) x27 b s20)) (
 condK (eqF x1 (Int.ofNat 34)) (
 callK (D 212 [(V.str a),(V.int .i64 b)] s13) fun u28 s29=>
 rtTup u28 fun l30=>
 xcI .i64 l30 fun x33 l32=>
 xcS l32 fun x36 l35=>
 rtNil l35 (
 K1 x33 (Int.ofNat 0) (BS.mk 0 0) (Int.ofNat 0) (Int.ofNat 7) x36 b s29)) (
 callK (D 213 [(V.str a),(V.int .i64 b)] s13) fun u37 s38=>
 rtInt .i64 u37 fun x39=>
 condK (ltF (Int.ofNat 0) x39) (
 sliceStrX a (some (V.int .i64 b)) (some (V.int .i64 (addF .i64 b x39))) fun t40=>
 K1 (addF .i64 b x39) (Int.ofNat 0) (BS.mk 0 0) (Int.ofNat 0) (Int.ofNat 6) t40 b s38) (
 K1 (Int.negSucc 0) (Int.ofNat 0) (BS.mk 0 0) (Int.ofNat 0) (Int.ofNat 0) (BS.mk 0 0) b s38))))) fun k14=>
 condK x11 (
 k14 true s10) (
 joinB (fun c41 s42=>
 k14 c41 s42) fun k43=>
 condK (eqF x1 (Int.ofNat 45)) (
 callK (D 205 [(V.str a),(V.int .i64 (addF .i64 b (Int.ofNat 1)))] s10) fun u44 s45=>
 rtInt .u8 u44 fun x46=>
 callK (D 209 [(V.int .u8 x46)] s45) fun u47 s48=>
 rtBool u47 fun x49=>
 k43 x49 s48) (
 k43 false s10)))
def C118_1:XC:=(.z (.O 101 y8 (.load (some 3) (.t 6))<|
.m 102 8<|
.op none y8 [4,101] (.store 3 (.t 4) (.t 101))<|
.m 5 102<|
.nil)
 .ret)
def T118_1 (E:List (Nat × Blk)) (D:Den) (W:DrawFn) (a b:Int) (c:BS) (d e:Int) (f:BS) (g:Int) (σ:H):Ans:=
 some ((V.tup [(V.agg [(V.int .i64 e),(V.str f),(V.int .i64 g)]),(V.int .i64 a)]),σ)
def C118_2:XC:=(.z (.f 49 1 6<|
.l 50 .str 49<|
.k 51 .bool 208 [(.t 50)]<|
.nil)
 (.cond (.tmp 51) (.ops (.f 52 0 6<|
.op none .any [52] (.store 1 (.t 52) (.i 5))<|
.nil))
 .skip))
def T118_2 (E:List (Nat × Blk)) (D:Den) (W:DrawFn) (K1:Int→Int→BS→Int→Int→BS→Int→H→Ans) (a b:Int) (c:BS) (d e:Int) (f:BS) (g:Int) (σ:H):Ans:=
 callK (D 208 [(V.str f)] σ) fun u1 s2=>
 rtBool u1 fun x3=>
 condK x3 (
 K1 a b c d (Int.ofNat 5) f g s2) (
 K1 a b c d e f g s2)
def S118_0 (a:BS) (b:Int) (σ:H):St:=⟨[(0,(V.str a)),(1,(V.int .i64 b))],[],[],σ⟩
def S118_1 (a b:Int) (c:BS) (d e:Int) (f:BS) (g:Int) (σ:H):St:=⟨[(8,(V.int .i64 a))],[(4,(4,0)),(6,(6,0))],[(4,[(V.int .i64 b),(V.str c),(V.int .i64 d)]),(6,[(V.int .i64 e),(V.str f),(V.int .i64 g)])],σ⟩
theorem P118_0 (cc1:XC) (cc2:XC) (a:BS) (b:Int) (σ:H) :
 denC E D W N (C118_0 cc1 cc2) (S118_0 a b σ) (Fin118 E) nX (Fin118 E) =
 T118_0 E D W (fun c d e f g h i σ=>denC E D W N cc1 (S118_1 c d e f g h i σ) (Fin118 E) nX (Fin118 E)) (fun c d e f g h i σ=>denC E D W N cc2 (S118_1 c d e f g h i σ) (b118a E D W N cc1) (blkK 0 (b118a E D W N cc1) nX) (Fin118 E)) a b σ:=by kernel_rfl
theorem P118_2 (cc1:XC) (a b:Int) (c:BS) (d e:Int) (f:BS) (g:Int) (σ:H) :
 denC E D W N (C118_2 ) (S118_1 a b c d e f g σ) (b118a E D W N cc1) (blkK 0 (b118a E D W N cc1) nX) (Fin118 E) =
 T118_2 E D W (fun a b c d e f g σ=>denC E D W N cc1 (S118_1 a b c d e f g σ) (Fin118 E) nX (Fin118 E)) a b c d e f g σ:=by kernel_rfl
def J118_1 (E:List (Nat × Blk)) (D:Den) (W:DrawFn) (N:Nat):=T118_1 E D W
theorem JE118_1 (a b:Int) (c:BS) (d e:Int) (f:BS) (g:Int) (σ:H) :
 denC E D W N C118_1 (S118_1 a b c d e f g σ) (Fin118 E) nX (Fin118 E)=J118_1 E D W N a b c d e f g σ:=by kernel_rfl
def J118_2:=T118_2 E D W (J118_1 E D W N )
theorem JE118_2 (a b:Int) (c:BS) (d e:Int) (f:BS) (g:Int) (σ:H) :
 denC E D W N C118_2 (S118_1 a b c d e f g σ) (b118a E D W N C118_1) (blkK 0 (b118a E D W N C118_1) nX) (Fin118 E)=J118_2 E D W N a b c d e f g σ:=by
 refine(P118_2 E D W N C118_1  a b c d e f g σ).trans ?_
 simp only[JE118_1]
 kernel_rfl
def J118_0:=T118_0 E D W (J118_1 E D W N ) (J118_2 E D W N )
theorem JE118_0 (a:BS) (b:Int) (σ:H) :
 denC E D W N (C118_0 C118_1 C118_2) (S118_0 a b σ) (Fin118 E) nX (Fin118 E)=J118_0 E D W N a b σ:=by
 refine(P118_0 E D W N C118_1 C118_2  a b σ).trans ?_
 simp only[JE118_1,JE118_2]
 kernel_rfl
def F118 (args:List V) (σ:H):Ans:=
 xcS args fun x3 l2=>
 xcI .i64 l2 fun x6 l5=>
 rtNil l5 (
 J118_0 E D W N x3 x6 σ)
def A118:XFn:=⟨103,[.str,.i],[(.cell 4 (some 3)),(.tmp 5)],(C118_0 C118_1 C118_2)⟩
theorem FE118 (args:List V) (σ:H):runX E D W N A118 args σ=F118 E D W N args σ:=by
 unfold F118
 simp only[←JE118_0]
 kernel_rfl
def Fin119 (E:List (Nat × Blk)):St→Ans:=fun s=>resK E s [(.cell 2 (some 3))] fun l=>some (oneV l,s.σ)
def C119_0 (cc1:XC):XC:=(.z (.pal 2 [] 121 [y0,y7,y0]<|
.nil)
 (.seq (.draw (.m 4 0<|
.n 5 4<|
.f 6 0 5<|
.l 7 .any 6<|
.m 8 0<|
.n 9 8<|
.f 10 1 9<|
.l 11 .i 10<|
.s 12 3 7 11<|
.O 13 y8 (.load (some 3) (.t 12))<|
.pal 3 [] 121 [y0,y7,y0]<|
.op none y8 [3,13] (.store 3 (.t 3) (.t 13))<|
.nil) [0,1,3,7,0,16,48,112,255,511,0,2047])
 (.seq (.seq (.draw (.m 14 0<|
.n 15 14<|
.f 16 1 15<|
.l 17 .i 16<|
.b 18 .add .none (.t 17) (.i 1)<|
.m 19 0<|
.n 20 19<|
.f 21 0 20<|
.l 22 .any 21<|
.u 23 22<|
.b 24 .lss .none (.t 18) (.t 23)<|
.nil) [0,1,3,7,15,0,32,96,224,480,1023])
 (.cond (.tmp 24) (.ops (.m 25 0<|
.n 26 25<|
.f 27 1 26<|
.l 28 .i 27<|
.b 29 .add .none (.t 28) (.i 1)<|
.n 30 25<|
.f 31 1 30<|
.w 1 31 29<|
.nil))
 .skip))
 (.keep [] [2,3] [(2,[.i,.str,.i]),(3,[.i,.str,.i])] cc1))))
def T119_0 (E:List (Nat × Blk)) (D:Den) (W:DrawFn) (K1:Int→BS→Int→Int→BS→Int→H→Ans) (a b:Nat) (σ:H):Ans:=
 ldK E σ a b fun u1=>
 ldK E σ a (Nat.add b 1) fun u2=>
 rtInt .i64 u2 fun x3=>
 iaddrSK 3 u1 x3 fun b4 o5=>
 ldnK E σ b4 o5 3 fun l6=>
 xcI .i64 l6 fun x9 l8=>
 xcS l8 fun x12 l11=>
 xcI .i64 l11 fun x15 l14=>
 rtNil l14 (
 ldK E σ a (Nat.add b 1) fun u16=>
 rtInt .i64 u16 fun x17=>
 ldK E σ a b fun u18=>
 slenK u18 fun n19=>
 condK (ltF (addF .i64 x17 (Int.ofNat 1)) (Int.ofNat n19)) (
 ldK E σ a (Nat.add b 1) fun u20=>
 rtInt .i64 u20 fun x21=>
 stK 1 a (Nat.add b 1) (V.int .i64 (addF .i64 x21 (Int.ofNat 1))) σ fun s22=>
 K1 (Int.ofNat 0) (BS.mk 0 0) (Int.ofNat 0) x9 x12 x15 s22) (
 K1 (Int.ofNat 0) (BS.mk 0 0) (Int.ofNat 0) x9 x12 x15 σ))
def C119_1:XC:=(.z (.O 32 y8 (.load (some 3) (.t 3))<|
.op none y8 [2,32] (.store 3 (.t 2) (.t 32))<|
.nil)
 .ret)
def T119_1 (E:List (Nat × Blk)) (D:Den) (W:DrawFn) (a:Int) (b:BS) (c d:Int) (e:BS) (f:Int) (σ:H):Ans:=
 some ((V.agg [(V.int .i64 d),(V.str e),(V.int .i64 f)]),σ)
def S119_0 (a b:Nat) (σ:H):St:=⟨[(0,(V.ptr a b))],[],[],σ⟩
def S119_1 (a:Int) (b:BS) (c d:Int) (e:BS) (f:Int) (σ:H):St:=⟨[],[(2,(2,0)),(3,(3,0))],[(2,[(V.int .i64 a),(V.str b),(V.int .i64 c)]),(3,[(V.int .i64 d),(V.str e),(V.int .i64 f)])],σ⟩
theorem P119_0 (cc1:XC) (a b:Nat) (σ:H) :
 denC E D W N (C119_0 cc1) (S119_0 a b σ) (Fin119 E) nX (Fin119 E) =
 T119_0 E D W (fun c d e f g h σ=>denC E D W N cc1 (S119_1 c d e f g h σ) (Fin119 E) nX (Fin119 E)) a b σ:=by kernel_rfl
def J119_1 (E:List (Nat × Blk)) (D:Den) (W:DrawFn) (N:Nat):=T119_1 E D W
theorem JE119_1 (a:Int) (b:BS) (c d:Int) (e:BS) (f:Int) (σ:H) :
 denC E D W N C119_1 (S119_1 a b c d e f σ) (Fin119 E) nX (Fin119 E)=J119_1 E D W N a b c d e f σ:=by kernel_rfl
def J119_0:=T119_0 E D W (J119_1 E D W N )
theorem JE119_0 (a b:Nat) (σ:H) :
 denC E D W N (C119_0 C119_1) (S119_0 a b σ) (Fin119 E) nX (Fin119 E)=J119_0 E D W N a b σ:=by
 refine(P119_0 E D W N C119_1  a b σ).trans ?_
 simp only[JE119_1]
 kernel_rfl
def F119 (args:List V) (σ:H):Ans:=
 rtCons args fun x1 l2=>
 rtPtr x1 fun b3 o4=>
 rtNil l2 (
 J119_0 E D W N b3 o4 σ)
def A119:XFn:=⟨33,[.ptr],[(.cell 2 (some 3))],(C119_0 C119_1)⟩
theorem FE119 (args:List V) (σ:H):runX E D W N A119 args σ=F119 E D W N args σ:=by
 unfold F119
 simp only[←JE119_0]
 kernel_rfl
def q120a:List (Nat × XTy):=[(1,.ptr),(3,.any),(4,.i)]
def Fin120 (E:List (Nat × Blk)):St→Ans:=fun s=>resK E s [(.tmp 2)] fun l=>some (oneV l,s.σ)
def b120a (c0:XC):Nat→St→Ans:=blkK 0 (dX E D W N (.keep [(1,.ptr)] [] [] c0) (Fin120 E) nX (Fin120 E)) nX
def C120_0 (cc1:XC) (cc2:XC):XC:=(.z (.P 1 (.box 121 (.t 0))<|
.c 2 y2<|
.nil)
 (.z (.p 5 [] (.buildSlice 9 10 [y7,y7,y7,y7,y7,y7,y7,y7,y7,y7] [(0,1,(.con (V.str ⟨1,91⟩))),(1,1,(.con (V.str ⟨7,22026814072246082⟩))),(2,1,(.con (V.str ⟨4,1280070990⟩))),(3,1,y26),(4,1,(.con (V.str ⟨7,23157120498421321⟩))),(5,1,(.con (V.str ⟨5,361940403023⟩))),(6,1,y27),(7,1,(.con (V.str ⟨3,5522771⟩))),(8,1,(.con (V.str ⟨6,76155295057987⟩))),(9,1,y39)])<|
.m 3 5<|
.nil)
 (.seq (.z (.q 4 0<|
.nil)
 (.block 0 (.loop q120a [] [] cc2)))
 (.keep [(1,.ptr)] [] [] cc1))))
def T120_0 (E:List (Nat × Blk)) (D:Den) (W:DrawFn) (K2:Nat→Nat→V→Int→H→Ans) (a:Int) (b:BS) (c:Int) (σ:H):Ans:=
 nbK [(V.int .i64 a),(V.str b),(V.int .i64 c)] σ fun s1=>
 let s2:=newB s1 (.cells [(V.str (BS.mk 1 91)),(V.str (BS.mk 7 22026814072246082)),(V.str (BS.mk 4 1280070990)),(V.str (BS.mk 10 488440487847103610377301)),(V.str (BS.mk 7 23157120498421321)),(V.str (BS.mk 5 361940403023)),(V.str (BS.mk 10 322399817400452109389381)),(V.str (BS.mk 3 5522771)),(V.str (BS.mk 6 76155295057987)),(V.str (BS.mk 8 4990918871747741011))]);
 K2 (H.next σ) 0 (V.sl (H.next s1) 0 10 (.ex 10)) (Int.ofNat 0) s2
def C120_1:XC:=(.z (.f 29 0 1<|
.l 30 .i 29<|
.b 31 .eql .none (.t 30) (.i 1)<|
.m 2 31<|
.nil)
 .ret)
def T120_1 (E:List (Nat × Blk)) (D:Den) (W:DrawFn) (a b:Nat) (σ:H):Ans:=
 ldK E σ a b fun u1=>
 rtInt .i64 u1 fun x2=>
 some ((V.bool (eqF x2 (Int.ofNat 1))),σ)
def C120_2:XC:=(.seq (.z (.m 6 4<|
.m 7 3<|
.u 8 7<|
.b 9 .lss .none (.t 6) (.t 8)<|
.nil)
 y21)
 (.seq (.block 1 (.seq (.draw (.m 12 3<|
.m 13 4<|
.s 14 1 12 13<|
.l 15 .str 14<|
.f 16 1 1<|
.l 17 .str 16<|
.b 18 .eql .none (.t 15) (.t 17)<|
.m 19 18<|
.gA 19 true (.p 20 [1,19] (.faddr 0 (.t 1))<|
.op (some 21) .i [20,19] (.load none (.t 20))<|
.p 22 [21,19] (.bin .eql .none (.t 21) (.i 5))<|
.p 23 [22,19] (.mov (.t 22))<|
.grp 23 false (.p 24 [1,23] (.faddr 0 (.t 1))<|
.op (some 25) .i [24,23] (.load none (.t 24))<|
.p 26 [25,23] (.bin .eql .none (.t 25) (.i 6))<|
.nil) 27 [23,26,19] (.t 23) y9 (.t 26)<|
.nil) 28 19 27<|
.nil) [0,0,3,7,0,16,63,127,255,511,1023,2047,4095,8191,16383,32767,65535])
 (.cond (.tmp 28) (.z (.c 2 y23<|
.nil)
 .ret)
 .skip)))
 (.ops (.m 10 4<|
.b 11 .add .none (.t 10) (.i 1)<|
.m 4 11<|
.nil))))
def T120_2 (E:List (Nat × Blk)) (D:Den) (W:DrawFn) (K1:Nat→Nat→H→Ans) (R2:Nat→Nat→V→Int→H→Ans) (a b:Nat) (c:V) (d:Int) (σ:H):Ans:=
 slenK c fun n1=>
 condK (ltF d (Int.ofNat n1)) (
 iaddrSK 1 c d fun b2 o3=>
 ldK E σ b2 o3 fun u4=>
 rtStr u4 fun x5=>
 ldK E σ a (Nat.add b 1) fun u6=>
 rtStr u6 fun x7=>
 joinB (fun c8 s9=>
 condK c8 (
 some ((V.bool true),s9)) (
 R2 a b c (addF .i64 d (Int.ofNat 1)) s9)) fun k10=>
 condK (BS.beq x5 x7) (
 ldK E σ a b fun u11=>
 rtInt .i64 u11 fun x12=>
 joinB (fun c13 s14=>
 k10 c13 s14) fun k15=>
 condK (eqF x12 (Int.ofNat 5)) (
 k15 true σ) (
 ldK E σ a b fun u16=>
 rtInt .i64 u16 fun x17=>
 k15 (eqF x17 (Int.ofNat 6)) σ)) (
 k10 false σ)) (
 K1 a b σ)
def S120_0 (a:Int) (b:BS) (c:Int) (σ:H):St:=⟨[(0,(V.agg [(V.int .i64 a),(V.str b),(V.int .i64 c)]))],[],[],σ⟩
def S120_1 (a b:Nat) (σ:H):St:=⟨[(1,(V.ptr a b))],[],[],σ⟩
def S120_2 (a b:Nat) (c:V) (d:Int) (σ:H):St:=⟨[(1,(V.ptr a b)),(3,c),(4,(V.int .i64 d))],[],[],σ⟩
theorem P120_0 (cc1:XC) (cc2:XC) (a:Int) (b:BS) (c:Int) (σ:H) :
 denC E D W N (C120_0 cc1 cc2) (S120_0 a b c σ) (Fin120 E) nX (Fin120 E) =
 T120_0 E D W (fun d e f g σ=>iterK (fun rec s'=>denC E D W N cc2 s' (kX q120a [] [] rec) (b120a E D W N cc1) (Fin120 E)) N (S120_2 d e f g σ)) a b c σ:=by kernel_rfl
theorem P120_2 (cc1:XC) (li2:St→Ans) (a b:Nat) (c:V) (d:Int) (σ:H) :
 denC E D W N (C120_2 ) (S120_2 a b c d σ) (kX q120a [] [] li2) (b120a E D W N cc1) (Fin120 E) =
 T120_2 E D W (fun a b σ=>denC E D W N cc1 (S120_1 a b σ) (Fin120 E) nX (Fin120 E)) (fun a b c d σ=>li2 (S120_2 a b c d σ)) a b c d σ:=by kernel_rfl
def J120_1 (E:List (Nat × Blk)) (D:Den) (W:DrawFn) (N:Nat):=T120_1 E D W
theorem JE120_1 (a b:Nat) (σ:H) :
 denC E D W N C120_1 (S120_1 a b σ) (Fin120 E) nX (Fin120 E)=J120_1 E D W N a b σ:=by kernel_rfl
def L120_2 (n:Nat):Nat→Nat→V→Int→H→Ans:=
 Nat.rec (fun _ _ _ _ _=>none) (fun _ ih=>T120_2 E D W (J120_1 E D W N ) ih) n
theorem LE120_2 (n:Nat):∀(a b:Nat) (c:V) (d:Int) (σ:H),
 iterK (fun rec s'=>denC E D W N C120_2 s' (kX q120a [] [] rec) (b120a E D W N C120_1) (Fin120 E)) n (S120_2 a b c d σ)=L120_2 E D W N n a b c d σ:=by
 induction n with
 | zero=>intro a b c d σ;rfl
 | succ n ihn=>
  intro a b c d σ
  rw[iterK_succ]
  refine(P120_2 E D W N C120_1 (iterK (fun rec s'=>denC E D W N C120_2 s' (kX q120a [] [] rec) (b120a E D W N C120_1) (Fin120 E)) n) a b c d σ).trans ?_
  simp only[ihn,JE120_1]
  kernel_rfl
def J120_0:=T120_0 E D W (L120_2 E D W N N)
theorem JE120_0 (a:Int) (b:BS) (c:Int) (σ:H) :
 denC E D W N (C120_0 C120_1 C120_2) (S120_0 a b c σ) (Fin120 E) nX (Fin120 E)=J120_0 E D W N a b c σ:=by
 refine(P120_0 E D W N C120_1 C120_2  a b c σ).trans ?_
 simp only[LE120_2]
 kernel_rfl
def F120 (args:List V) (σ:H):Ans:=
 rtCons args fun x1 l2=>
 rtAgg x1 fun l3=>
 xcI .i64 l3 fun x6 l5=>
 xcS l5 fun x9 l8=>
 xcI .i64 l8 fun x12 l11=>
 rtNil l11 (
 rtNil l2 (
 J120_0 E D W N x6 x9 x12 σ))
def A120:XFn:=⟨32,[y8],[(.tmp 2)],(C120_0 C120_1 C120_2)⟩
theorem FE120 (args:List V) (σ:H):runX E D W N A120 args σ=F120 E D W N args σ:=by
 unfold F120
 simp only[←JE120_0]
 kernel_rfl
def Fin121 (E:List (Nat × Blk)):St→Ans:=fun s=>resK E s [(.tmp 2)] fun l=>some (oneV l,s.σ)
def C121_0:XC:=(.z (.q 2 0<|
.nil)
 (.z (.m 4 0<|
.k 5 .str 57 [(.t 4),(.i 3)]<|
.m 3 5<|
.nil)
 (.seq (.z (.m 6 3<|
.b 7 .eql .none (.t 6) (.con y7)<|
.nil)
 (.cond (.tmp 7) (.z (.q 2 0<|
.nil)
 .ret)
 .skip))
 (.z (.m 8 3<|
.k 9 .i 214 [(.t 8)]<|
.m 2 9<|
.nil)
 .ret))))
def T121_0 (E:List (Nat × Blk)) (D:Den) (W:DrawFn) (a:V) (σ:H):Ans:=
 callK (D 57 [a,(V.int .i64 (Int.ofNat 3))] σ) fun u1 s2=>
 rtStr u1 fun x3=>
 condK (BS.beq x3 (BS.mk 0 0)) (
 some ((V.int .i64 (Int.ofNat 0)),s2)) (
 callK (D 214 [(V.str x3)] s2) fun u4 s5=>
 rtInt .i64 u4 fun x6=>
 some ((V.int .i64 x6),s5))
def S121_0 (a:V) (σ:H):St:=⟨[(0,a)],[],[],σ⟩
def J121_0 (E:List (Nat × Blk)) (D:Den) (W:DrawFn) (N:Nat):=T121_0 E D W
theorem JE121_0 (a:V) (σ:H) :
 denC E D W N C121_0 (S121_0 a σ) (Fin121 E) nX (Fin121 E)=J121_0 E D W N a σ:=by kernel_rfl
def F121 (args:List V) (σ:H):Ans:=
 rtCons args fun x1 l2=>
 rtNil l2 (
 J121_0 E D W N x1 σ)
def A121:XFn:=⟨10,[.any],[(.tmp 2)],C121_0⟩
theorem FE121 (args:List V) (σ:H):runX E D W N A121 args σ=F121 E D W N args σ:=by
 unfold F121
 simp only[←JE121_0]
 kernel_rfl
def G122_0:List AOper:=[⟨(some 139),.mov (.tmp 1),none⟩,⟨(some 140),.mov (.tmp 1),none⟩,⟨(some 141),.faddr 1 (.tmp 6),none⟩,⟨(some 142),.load none (.tmp 141),none⟩,⟨(some 143),.nilck (.tmp 139),none⟩,⟨(some 144),.faddr 0 (.tmp 143),none⟩,⟨none,.store 1 (.tmp 144) (.con (V.int .i64 (Int.ofNat 11))),none⟩,⟨(some 145),.nilck (.tmp 140),none⟩,⟨(some 146),.faddr 1 (.tmp 145),none⟩,⟨none,.store 1 (.tmp 146) (.tmp 142),none⟩]
def H122_0:List DP:=[⟨0,[1]⟩,⟨0,[1]⟩,⟨0,[6]⟩,⟨4,[141]⟩,⟨1,[139]⟩,⟨17,[143]⟩,⟨49,[144]⟩,⟨127,[140]⟩,⟨255,[145]⟩,⟨511,[146,142]⟩]
def Fin122 (E:List (Nat × Blk)):St→Ans:=fun s=>resK E s [] fun l=>some (oneV l,s.σ)
def C122_0:XC:=(.z (.m 7 0<|
.k 8 y8 60 [(.t 7)]<|
.p 6 [] (.alloc 121 [y0,y7,y0])<|
.op none y8 [6,8] (.store 3 (.t 6) (.t 8))<|
.nil)
 (.block 0 (.z (.m 13 0<|
.n 14 13<|
.f 15 7 14<|
.l 16 .i 15<|
.b 17 .neq .none (.t 16) (.i 0)<|
.m 12 17<|
.nil)
 (.cond (.tmp 12) .skip
 (.z (.m 19 0<|
.k 20 .bool 59 [(.t 19),(.con (V.str ⟨7,22026814072246082⟩))]<|
.m 18 20<|
.nil)
 (.cond (.tmp 18) (.ops (.m 21 1<|
.n 22 21<|
.f 23 0 22<|
.op none .any [23] (.store 1 (.t 23) (.i 1))<|
.nil))
 (.z (.m 25 0<|
.k 26 .bool 59 [(.t 25),(.con (V.str ⟨4,1280070990⟩))]<|
.m 24 26<|
.nil)
 (.cond (.tmp 24) (.ops (.m 27 1<|
.n 28 27<|
.f 29 0 28<|
.op none .any [29] (.store 1 (.t 29) (.i 4))<|
.nil))
 (.z (.m 31 0<|
.k 32 .bool 59 [(.t 31),y26]<|
.m 30 32<|
.nil)
 (.cond (.tmp 30) (.z (.m 33 1<|
.n 34 33<|
.f 35 0 34<|
.op none .any [35] (.store 1 (.t 35) (.i 6))<|
.nil)
 (.ops (.m 36 1<|
.m 37 0<|
.k 38 y3 215 [(.t 37)]<|
.n 39 36<|
.f 40 5 39<|
.op none y3 [40,38] (.store 6 (.t 40) (.t 38))<|
.nil)))
 (.z (.m 42 0<|
.k 43 .bool 59 [(.t 42),(.con (V.str ⟨7,23157120498421321⟩))]<|
.m 41 43<|
.nil)
 (.cond (.tmp 41) (.z (.m 44 1<|
.n 45 44<|
.f 46 0 45<|
.op none .any [46] (.store 1 (.t 46) (.i 2))<|
.nil)
 (.z (.m 47 0<|
.k 48 .bool 59 [(.t 47),(.con (V.str ⟨1,40⟩))]<|
.nil)
 (.cond (.tmp 48) (.z (.m 49 1<|
.m 50 0<|
.k 51 y3 216 [(.t 50)]<|
.n 52 49<|
.f 53 5 52<|
.op none y3 [53,51] (.store 6 (.t 53) (.t 51))<|
.nil)
 (.ops (.m 54 0<|
.k 55 y11 58 [(.t 54),(.con (V.str ⟨1,41⟩))]<|
.nil)))
 .skip)))
 (.z (.m 57 0<|
.k 58 .bool 59 [(.t 57),(.con (V.str ⟨5,361940403023⟩))]<|
.m 56 58<|
.nil)
 (.cond (.tmp 56) (.z (.m 59 0<|
.k 60 y11 58 [(.t 59),(.con (V.str ⟨6,78401563153491⟩))]<|
.nil)
 (.z (.m 61 1<|
.n 62 61<|
.f 63 0 62<|
.op none .any [63] (.store 1 (.t 63) (.i 5))<|
.nil)
 (.ops (.m 64 1<|
.m 65 0<|
.k 66 y3 215 [(.t 65)]<|
.n 67 64<|
.f 68 5 67<|
.op none y3 [68,66] (.store 6 (.t 68) (.t 66))<|
.nil))))
 (.z (.m 70 0<|
.k 71 .bool 59 [(.t 70),y27]<|
.m 69 71<|
.nil)
 (.cond (.tmp 69) (.z (.m 72 1<|
.n 73 72<|
.f 74 0 73<|
.op none .any [74] (.store 1 (.t 74) (.i 3))<|
.nil)
 (.z (.m 75 0<|
.k 76 y11 58 [(.t 75),y34]<|
.nil)
 (.z (.m 77 0<|
.m 78 1<|
.k 79 y11 217 [(.t 77),(.t 78)]<|
.nil)
 (.ops (.m 80 0<|
.k 81 y11 58 [(.t 80),(.con (V.str ⟨1,125⟩))]<|
.nil)))))
 (.z (.m 83 0<|
.k 84 .bool 59 [(.t 83),(.con (V.str ⟨3,5522771⟩))]<|
.m 82 84<|
.nil)
 (.cond (.tmp 82) (.z (.m 85 1<|
.n 86 85<|
.f 87 0 86<|
.op none .any [87] (.store 1 (.t 87) (.i 8))<|
.nil)
 (.z (.m 88 0<|
.k 89 y11 58 [(.t 88),y34]<|
.nil)
 (.ops (.m 90 0<|
.m 91 1<|
.m 92 2<|
.k 93 y11 218 [(.t 90),(.t 91),(.t 92)]<|
.nil))))
 (.z (.m 95 0<|
.k 96 .bool 59 [(.t 95),(.con (V.str ⟨6,76155295057987⟩))]<|
.m 94 96<|
.nil)
 (.cond (.tmp 94) (.z (.m 97 1<|
.n 98 97<|
.f 99 0 98<|
.op none .any [99] (.store 1 (.t 99) (.i 9))<|
.nil)
 (.z (.m 100 0<|
.k 101 y11 58 [(.t 100),y34]<|
.nil)
 (.ops (.m 102 0<|
.m 103 1<|
.m 104 2<|
.k 105 y11 218 [(.t 102),(.t 103),(.t 104)]<|
.nil))))
 (.z (.m 107 0<|
.k 108 .bool 59 [(.t 107),y39]<|
.m 106 108<|
.nil)
 (.cond (.tmp 106) (.seq (.z (.m 109 0<|
.k 110 .bool 59 [(.t 109),y34]<|
.nil)
 (.cond (.tmp 110) (.z (.m 111 1<|
.n 112 111<|
.f 113 0 112<|
.op none .any [113] (.store 1 (.t 113) (.i 7))<|
.nil)
 (.z (.m 114 0<|
.m 115 1<|
.m 116 2<|
.k 117 y11 218 [(.t 114),(.t 115),(.t 116)]<|
.nil)
 .ret))
 .skip))
 (.z (.m 118 1<|
.n 119 118<|
.f 120 0 119<|
.op none .any [120] (.store 1 (.t 120) (.i 10))<|
.nil)
 (.z (.m 121 1<|
.m 122 0<|
.k 123 y3 215 [(.t 122)]<|
.n 124 121<|
.f 125 5 124<|
.op none y3 [125,123] (.store 6 (.t 125) (.t 123))<|
.nil)
 (.z (.m 126 0<|
.k 127 y11 58 [(.t 126),(.con (V.str ⟨2,17999⟩))]<|
.nil)
 (.ops (.m 128 1<|
.m 129 0<|
.m 130 2<|
.b 131 .add .none (.t 130) (.i 1)<|
.k 132 .i 62 [(.t 129),(.t 131)]<|
.n 133 128<|
.f 134 15 133<|
.w 1 134 132<|
.nil))))))
 (.z (.f 136 0 6<|
.l 137 .i 136<|
.b 138 .eql .none (.t 137) (.i 1)<|
.m 135 138<|
.nil)
 (.cond (.tmp 135) (.seq (.keep [(0,.ptr),(1,.ptr),(6,.ptr)] [] [] (.gdraw G122_0 H122_0 [(0,.ptr)]))
 (.ops (.m 147 0<|
.k 148 y8 119 [(.t 147)]<|
.nil)))
 (.ops (.m 9 0<|
.O 10 y8 (.load (some 3) (.t 6))<|
.k 11 y11 61 [(.t 9),(.i 7),(.t 10)]<|
.nil))))))))))))))))))))))))))
def T122_0 (a b c d:Nat) (e:Int) (σ:H):Ans:=
 callK (D 60 [(V.ptr a b)] σ) fun u1 s2=>
 rtAgg u1 fun l3=>
 xcI .i64 l3 fun x6 l5=>
 xcS l5 fun x9 l8=>
 xcI .i64 l8 fun x12 l11=>
 rtNil l11 (
 let s13:=newB s2 (.cells [(V.int .i64 (Int.ofNat 0)),(V.str ⟨0,0⟩),(V.int .i64 (Int.ofNat 0))]);
 stK 3 (H.next s2) 0 (V.agg [(V.int .i64 x6),(V.str x9),(V.int .i64 x12)]) s13 fun s14=>
 ldK E s14 a (Nat.add b 7) fun u15=>
 rtInt .i64 u15 fun x16=>
 condK (not (eqF x16 (Int.ofNat 0))) (
 some ((V.tup []),s14)) (
 callK (D 59 [(V.ptr a b),(V.str (BS.mk 7 22026814072246082))] s14) fun u17 s18=>
 rtBool u17 fun x19=>
 condK x19 (
 stK 1 c d (V.int .i64 (Int.ofNat 1)) s18 fun s20=>
 some ((V.tup []),s20)) (
 callK (D 59 [(V.ptr a b),(V.str (BS.mk 4 1280070990))] s18) fun u21 s22=>
 rtBool u21 fun x23=>
 condK x23 (
 stK 1 c d (V.int .i64 (Int.ofNat 4)) s22 fun s24=>
 some ((V.tup []),s24)) (
 callK (D 59 [(V.ptr a b),(V.str (BS.mk 10 488440487847103610377301))] s22) fun u25 s26=>
 rtBool u25 fun x27=>
 condK x27 (
 stK 1 c d (V.int .i64 (Int.ofNat 6)) s26 fun s28=>
 callK (D 215 [(V.ptr a b)] s28) fun u29 s30=>
 rtAgg u29 fun l31=>
 xcB l31 fun x34 l33=>
 xcB l33 fun x37 l36=>
 xcB l36 fun x40 l39=>
 xcB l39 fun x43 l42=>
 xcI .i64 l42 fun x46 l45=>
 xcI .i64 l45 fun x49 l48=>
 rtNil l48 (
 stK 6 c (Nat.add d 5) (V.agg [(V.bool x34),(V.bool x37),(V.bool x40),(V.bool x43),(V.int .i64 x46),(V.int .i64 x49)]) s30 fun s50=>
 some ((V.tup []),s50))) (
 callK (D 59 [(V.ptr a b),(V.str (BS.mk 7 23157120498421321))] s26) fun u51 s52=>
 rtBool u51 fun x53=>
 condK x53 (
 stK 1 c d (V.int .i64 (Int.ofNat 2)) s52 fun s54=>
 callK (D 59 [(V.ptr a b),(V.str (BS.mk 1 40))] s54) fun u55 s56=>
 rtBool u55 fun x57=>
 condK x57 (
 callK (D 216 [(V.ptr a b)] s56) fun u58 s59=>
 rtAgg u58 fun l60=>
 xcB l60 fun x63 l62=>
 xcB l62 fun x66 l65=>
 xcB l65 fun x69 l68=>
 xcB l68 fun x72 l71=>
 xcI .i64 l71 fun x75 l74=>
 xcI .i64 l74 fun x78 l77=>
 rtNil l77 (
 stK 6 c (Nat.add d 5) (V.agg [(V.bool x63),(V.bool x66),(V.bool x69),(V.bool x72),(V.int .i64 x75),(V.int .i64 x78)]) s59 fun s79=>
 callK (D 58 [(V.ptr a b),(V.str (BS.mk 1 41))] s79) fun u80 s81=>
 rtTup u80 fun l82=>
 rtNil l82 (
 some ((V.tup []),s81)))) (
 some ((V.tup []),s56))) (
 callK (D 59 [(V.ptr a b),(V.str (BS.mk 5 361940403023))] s52) fun u83 s84=>
 rtBool u83 fun x85=>
 condK x85 (
 callK (D 58 [(V.ptr a b),(V.str (BS.mk 6 78401563153491))] s84) fun u86 s87=>
 rtTup u86 fun l88=>
 rtNil l88 (
 stK 1 c d (V.int .i64 (Int.ofNat 5)) s87 fun s89=>
 callK (D 215 [(V.ptr a b)] s89) fun u90 s91=>
 rtAgg u90 fun l92=>
 xcB l92 fun x95 l94=>
 xcB l94 fun x98 l97=>
 xcB l97 fun x101 l100=>
 xcB l100 fun x104 l103=>
 xcI .i64 l103 fun x107 l106=>
 xcI .i64 l106 fun x110 l109=>
 rtNil l109 (
 stK 6 c (Nat.add d 5) (V.agg [(V.bool x95),(V.bool x98),(V.bool x101),(V.bool x104),(V.int .i64 x107),(V.int .i64 x110)]) s91 fun s111=>
 some ((V.tup []),s111)))) (
 callK (D 59 [(V.ptr a b),(V.str (BS.mk 10 322399817400452109389381))] s84) fun u112 s113=>
 rtBool u112 fun x114=>
 condK x114 (
 stK 1 c d (V.int .i64 (Int.ofNat 3)) s113 fun s115=>
 callK (D 58 [(V.ptr a b),(V.str (BS.mk 1 123))] s115) fun u116 s117=>
 rtTup u116 fun l118=>
 rtNil l118 (
 callK (D 217 [(V.ptr a b),(V.ptr c d)] s117) fun u119 s120=>
 rtTup u119 fun l121=>
 rtNil l121 (
 callK (D 58 [(V.ptr a b),(V.str (BS.mk 1 125))] s120) fun u122 s123=>
 rtTup u122 fun l124=>
 rtNil l124 (
 some ((V.tup []),s123))))) (
 callK (D 59 [(V.ptr a b),(V.str (BS.mk 3 5522771))] s113) fun u125 s126=>
 rtBool u125 fun x127=>
 condK x127 (
 stK 1 c d (V.int .i64 (Int.ofNat 8)) s126 fun s128=>
 callK (D 58 [(V.ptr a b),(V.str (BS.mk 1 123))] s128) fun u129 s130=>
 rtTup u129 fun l131=>
 rtNil l131 (
 callK (D 218 [(V.ptr a b),(V.ptr c d),(V.int .i64 e)] s130) fun u132 s133=>
 rtTup u132 fun l134=>
 rtNil l134 (
 some ((V.tup []),s133)))) (
 callK (D 59 [(V.ptr a b),(V.str (BS.mk 6 76155295057987))] s126) fun u135 s136=>
 rtBool u135 fun x137=>
 condK x137 (
 stK 1 c d (V.int .i64 (Int.ofNat 9)) s136 fun s138=>
 callK (D 58 [(V.ptr a b),(V.str (BS.mk 1 123))] s138) fun u139 s140=>
 rtTup u139 fun l141=>
 rtNil l141 (
 callK (D 218 [(V.ptr a b),(V.ptr c d),(V.int .i64 e)] s140) fun u142 s143=>
 rtTup u142 fun l144=>
 rtNil l144 (
 some ((V.tup []),s143)))) (
 callK (D 59 [(V.ptr a b),(V.str (BS.mk 8 4990918871747741011))] s136) fun u145 s146=>
 rtBool u145 fun x147=>
 condK x147 (
 callK (D 59 [(V.ptr a b),(V.str (BS.mk 1 123))] s146) fun u148 s149=>
 rtBool u148 fun x150=>
 condK x150 (
 stK 1 c d (V.int .i64 (Int.ofNat 7)) s149 fun s151=>
 callK (D 218 [(V.ptr a b),(V.ptr c d),(V.int .i64 e)] s151) fun u152 s153=>
 rtTup u152 fun l154=>
 rtNil l154 (
 some ((V.tup []),s153))) (
 stK 1 c d (V.int .i64 (Int.ofNat 10)) s149 fun s155=>
 callK (D 215 [(V.ptr a b)] s155) fun u156 s157=>
 rtAgg u156 fun l158=>
 xcB l158 fun x161 l160=>
 xcB l160 fun x164 l163=>
 xcB l163 fun x167 l166=>
 xcB l166 fun x170 l169=>
 xcI .i64 l169 fun x173 l172=>
 xcI .i64 l172 fun x176 l175=>
 rtNil l175 (
 stK 6 c (Nat.add d 5) (V.agg [(V.bool x161),(V.bool x164),(V.bool x167),(V.bool x170),(V.int .i64 x173),(V.int .i64 x176)]) s157 fun s177=>
 callK (D 58 [(V.ptr a b),(V.str (BS.mk 2 17999))] s177) fun u178 s179=>
 rtTup u178 fun l180=>
 rtNil l180 (
 callK (D 62 [(V.ptr a b),(V.int .i64 (addF .i64 e (Int.ofNat 1)))] s179) fun u181 s182=>
 rtInt .i64 u181 fun x183=>
 stK 1 c (Nat.add d 15) (V.int .i64 x183) s182 fun s184=>
 some ((V.tup []),s184))))) (
 ldK E s146 (H.next s2) 0 fun u185=>
 rtInt .i64 u185 fun x186=>
 condK (eqF x186 (Int.ofNat 1)) (
 gdrawK (W G122_0 H122_0 [(0,(V.ptr a b)),(1,(V.ptr c d)),(6,(V.ptr (H.next s2) 0))] s146) fun e187 s188=>
 getL e187 0 fun u189=>
 rtPtr u189 fun b190 o191=>
 callK (D 119 [(V.ptr b190 o191)] s188) fun u192 s193=>
 rtAgg u192 fun l194=>
 xcI .i64 l194 fun x197 l196=>
 xcS l196 fun x200 l199=>
 xcI .i64 l199 fun x203 l202=>
 rtNil l202 (
 some ((V.tup []),s193))) (
 ldnK E s146 (H.next s2) 0 3 fun l204=>
 xcI .i64 l204 fun x207 l206=>
 xcS l206 fun x210 l209=>
 xcI .i64 l209 fun x213 l212=>
 rtNil l212 (
 callK (D 61 [(V.ptr a b),(V.int .i64 (Int.ofNat 7)),(V.agg [(V.int .i64 x207),(V.str x210),(V.int .i64 x213)])] s146) fun u214 s215=>
 rtTup u214 fun l216=>
 rtNil l216 (
 some ((V.tup []),s215)))))))))))))))
def S122_0 (a b c d:Nat) (e:Int) (σ:H):St:=⟨[(0,(V.ptr a b)),(1,(V.ptr c d)),(2,(V.int .i64 e))],[],[],σ⟩
def J122_0 (E:List (Nat × Blk)) (D:Den) (W:DrawFn) (N:Nat):=T122_0 E D W
theorem JE122_0 (a b c d:Nat) (e:Int) (σ:H) :
 denC E D W N C122_0 (S122_0 a b c d e σ) (Fin122 E) nX (Fin122 E)=J122_0 E D W N a b c d e σ:=by kernel_rfl
def F122 (args:List V) (σ:H):Ans:=
 rtCons args fun x1 l2=>
 rtPtr x1 fun b3 o4=>
 rtCons l2 fun x5 l6=>
 rtPtr x5 fun b7 o8=>
 xcI .i64 l6 fun x11 l10=>
 rtNil l10 (
 J122_0 E D W N b3 o4 b7 o8 x11 σ)
def A122:XFn:=⟨149,[.ptr,.ptr,.i],[],C122_0⟩
theorem FE122 (args:List V) (σ:H):runX E D W N A122 args σ=F122 E D W N args σ:=by
 unfold F122
 simp only[←JE122_0]
 kernel_rfl
def q123a:List (Nat × XTy):=[(0,.any),(1,.str),(5,.i)]
def Fin123 (E:List (Nat × Blk)):St→Ans:=fun s=>resK E s [(.tmp 4)] fun l=>some (oneV l,s.σ)
def b123a (c0:XC):Nat→St→Ans:=blkK 0 (dX E D W N (.keep [] [] [] c0) (Fin123 E) nX (Fin123 E)) nX
def C123_0 (cc1:XC) (cc2:XC):XC:=(.z (.c 4 y2<|
.nil)
 (.seq (.z (.q 5 0<|
.nil)
 (.block 0 (.loop q123a [] [] cc2)))
 (.keep [] [] [] cc1)))
def T123_0 (E:List (Nat × Blk)) (D:Den) (W:DrawFn) (K2:V→BS→Int→H→Ans) (a:V) (b:BS) (σ:H):Ans:=
 K2 a b (Int.ofNat 0) σ
def C123_1:XC:=(.z (.c 4 y2<|
.nil)
 .ret)
def T123_1 (E:List (Nat × Blk)) (D:Den) (W:DrawFn) (σ:H):Ans:=
 some ((V.bool false),σ)
def C123_2:XC:=(.seq (.z (.m 6 5<|
.m 7 0<|
.u 8 7<|
.b 9 .lss .none (.t 6) (.t 8)<|
.nil)
 y21)
 (.seq (.block 1 (.z (.m 12 0<|
.m 13 5<|
.s 14 1 12 13<|
.l 15 .str 14<|
.m 16 1<|
.b 17 .eql .none (.t 15) (.t 16)<|
.nil)
 (.cond (.tmp 17) (.z (.c 4 y23<|
.nil)
 .ret)
 .skip)))
 (.ops (.m 10 5<|
.b 11 .add .none (.t 10) (.i 1)<|
.m 5 11<|
.nil))))
def T123_2 (E:List (Nat × Blk)) (D:Den) (W:DrawFn) (K1:H→Ans) (R2:V→BS→Int→H→Ans) (a:V) (b:BS) (c:Int) (σ:H):Ans:=
 slenK a fun n1=>
 condK (ltF c (Int.ofNat n1)) (
 iaddrSK 1 a c fun b2 o3=>
 ldK E σ b2 o3 fun u4=>
 rtStr u4 fun x5=>
 condK (BS.beq x5 b) (
 some ((V.bool true),σ)) (
 R2 a b (addF .i64 c (Int.ofNat 1)) σ)) (
 K1 σ)
def S123_0 (a:V) (b:BS) (σ:H):St:=⟨[(0,a),(1,(V.str b))],[],[],σ⟩
def S123_1 (σ:H):St:=⟨[],[],[],σ⟩
def S123_2 (a:V) (b:BS) (c:Int) (σ:H):St:=⟨[(0,a),(1,(V.str b)),(5,(V.int .i64 c))],[],[],σ⟩
theorem P123_0 (cc1:XC) (cc2:XC) (a:V) (b:BS) (σ:H) :
 denC E D W N (C123_0 cc1 cc2) (S123_0 a b σ) (Fin123 E) nX (Fin123 E) =
 T123_0 E D W (fun a b c σ=>iterK (fun rec s'=>denC E D W N cc2 s' (kX q123a [] [] rec) (b123a E D W N cc1) (Fin123 E)) N (S123_2 a b c σ)) a b σ:=by kernel_rfl
theorem P123_2 (cc1:XC) (li2:St→Ans) (a:V) (b:BS) (c:Int) (σ:H) :
 denC E D W N (C123_2 ) (S123_2 a b c σ) (kX q123a [] [] li2) (b123a E D W N cc1) (Fin123 E) =
 T123_2 E D W (fun  σ=>denC E D W N cc1 (S123_1 σ) (Fin123 E) nX (Fin123 E)) (fun a b c σ=>li2 (S123_2 a b c σ)) a b c σ:=by kernel_rfl
def J123_1 (E:List (Nat × Blk)) (D:Den) (W:DrawFn) (N:Nat):=T123_1 E D W
theorem JE123_1 (σ:H) :
 denC E D W N C123_1 (S123_1 σ) (Fin123 E) nX (Fin123 E)=J123_1 E D W N  σ:=by kernel_rfl
def L123_2 (n:Nat):V→BS→Int→H→Ans:=
 Nat.rec (fun _ _ _ _=>none) (fun _ ih=>T123_2 E D W (J123_1 E D W N ) ih) n
theorem LE123_2 (n:Nat):∀(a:V) (b:BS) (c:Int) (σ:H),
 iterK (fun rec s'=>denC E D W N C123_2 s' (kX q123a [] [] rec) (b123a E D W N C123_1) (Fin123 E)) n (S123_2 a b c σ)=L123_2 E D W N n a b c σ:=by
 induction n with
 | zero=>intro a b c σ;rfl
 | succ n ihn=>
  intro a b c σ
  rw[iterK_succ]
  refine(P123_2 E D W N C123_1 (iterK (fun rec s'=>denC E D W N C123_2 s' (kX q123a [] [] rec) (b123a E D W N C123_1) (Fin123 E)) n) a b c σ).trans ?_
  simp only[ihn,JE123_1]
  kernel_rfl
def J123_0:=T123_0 E D W (L123_2 E D W N N)
theorem JE123_0 (a:V) (b:BS) (σ:H) :
 denC E D W N (C123_0 C123_1 C123_2) (S123_0 a b σ) (Fin123 E) nX (Fin123 E)=J123_0 E D W N a b σ:=by
 refine(P123_0 E D W N C123_1 C123_2  a b σ).trans ?_
 simp only[LE123_2]
 kernel_rfl
def F123 (args:List V) (σ:H):Ans:=
 rtCons args fun x1 l2=>
 xcS l2 fun x5 l4=>
 rtNil l4 (
 J123_0 E D W N x1 x5 σ)
def A123:XFn:=⟨18,[.any,.str],[(.tmp 4)],(C123_0 C123_1 C123_2)⟩
theorem FE123 (args:List V) (σ:H):runX E D W N A123 args σ=F123 E D W N args σ:=by
 unfold F123
 simp only[←JE123_0]
 kernel_rfl
def q124a:List (Nat × List XTy):=[(10,[.i,.str,.bool,.i,.i,.bool,.bool,.bool,.bool,.i,.i,.any,.any,.i,.bool,.i])]
def q124b:List (Nat × XTy):=[(2,.i),(3,.any),(4,.ptr),(12,.bool),(13,.i)]
def q124c:List (Nat × XTy):=[(2,.i),(3,.any),(4,.ptr),(12,.bool)]
def q124d:List (Nat × XTy):=[(2,.i),(3,.any),(4,.ptr)]
def Fin124 (E:List (Nat × Blk)):St→Ans:=fun s=>resK E s [(.tmp 8),(.tmp 9)] fun l=>some (oneV l,s.σ)
def b124a (c0:XC):Nat→St→Ans:=blkK 0 (dX E D W N (.keep q124c [10] q124a c0) (Fin124 E) nX (Fin124 E)) nX
def C124_0 (cc1:XC) (cc2:XC):XC:=(.z (.P 4 (.box 76 (.t 0))<|
.c 8 V.nils<|
.c 9 y2<|
.nil)
 (.seq (.z (.m 16 1<|
.b 17 .lss .none (.t 16) (.i 0)<|
.m 18 17<|
.gO 18 false (.p 19 [1,18] y15<|
.p 20 [4,18] (.faddr 4 (.t 4))<|
.p 21 [20,18] (.load none (.t 20))<|
.p 22 [21,18] (.len false (.t 21))<|
.p 23 [19,22,18] (.bin .geq .none (.t 19) (.t 22))<|
.nil) 24 18 23<|
.m 25 24<|
.gO 25 false (.p 26 [2,25] (.mov (.t 2))<|
.p 27 [26,25] (.bin .gtr .none (.t 26) (.i 16))<|
.nil) 28 25 27<|
.nil)
 (.cond (.tmp 28) (.z (.m 29 3<|
.m 8 29<|
.c 9 y2<|
.nil)
 .ret)
 .skip))
 (.z (.f 30 4 4<|
.l 31 .any 30<|
.m 32 1<|
.s 33 16 31 32<|
.O 34 y4 (.load (some 16) (.t 33))<|
.pal 10 [] 183 [y0,y7,y2,y0,y0,y2,y2,y2,y2,y0,y0,V.nils,V.nils,y0,y2,y0]<|
.op none y4 [10,34] (.store 16 (.t 10) (.t 34))<|
.nil)
 (.seq (.z (.f 35 0 10<|
.l 36 .i 35<|
.b 37 .eql .none (.t 36) (.i 11)<|
.nil)
 (.cond (.tmp 37) (.z (.O 38 y10 (.load (some 5) (.t 4))<|
.f 39 1 10<|
.l 40 .str 39<|
.k 41 .i 126 [(.t 38),(.t 40)]<|
.m 11 41<|
.nil)
 (.seq (.z (.m 42 11<|
.b 43 .lss .none (.t 42) (.i 0)<|
.nil)
 (.cond (.tmp 43) (.z (.m 44 3<|
.m 8 44<|
.c 9 y23<|
.nil)
 .ret)
 .skip))
 (.seq (.z (.m 45 3<|
.m 46 11<|
.k 47 .bool 29 [(.t 45),(.t 46)]<|
.P 48 (.un .not (.t 47))<|
.nil)
 (.cond (.tmp 48) (.ops (.m 49 3<|
.m 50 11<|
.p 51 [50] (.buildSlice 3 1 [y0] [(0,1,(.t 50))])<|
.O 52 .one (.append 3 1 8 (.t 49) (.t 51))<|
.m 3 52<|
.nil))
 .skip))
 (.keep [(3,.any)] [] [] cc2))))
 .skip))
 (.keep q124d [10] q124a cc1)))))
def T124_0 (E:List (Nat × Blk)) (D:Den) (W:DrawFn) (K1:Int→V→Nat→Nat→Int→BS→Bool→Int→Int→Bool→Bool→Bool→Bool→Int→Int→V→V→Int→Bool→Int→H→Ans) (K2:V→H→Ans) (a:BS) (b:Int) (c d e:V) (f g:Int) (h:V) (σ:H):Ans:=
 nbK [(V.str a),(V.int .i64 b),c,d,e] σ fun s1=>
 joinB (fun c2 s3=>
 joinB (fun c5 s6=>
 condK c5 (
 some ((V.tup [h,(V.bool false)]),s6)) (
 ldK E s6 (H.next σ) 4 fun u8=>
 iaddrSK 16 u8 f fun b9 o10=>
 ldnK E s6 b9 o10 16 fun l11=>
 xcI .i64 l11 fun x14 l13=>
 xcS l13 fun x17 l16=>
 xcB l16 fun x20 l19=>
 xcI .i64 l19 fun x23 l22=>
 xcI .i64 l22 fun x26 l25=>
 xcB l25 fun x29 l28=>
 xcB l28 fun x32 l31=>
 xcB l31 fun x35 l34=>
 xcB l34 fun x38 l37=>
 xcI .i64 l37 fun x41 l40=>
 xcI .i64 l40 fun x44 l43=>
 rtCons l43 fun x45 l46=>
 rtCons l46 fun x47 l48=>
 xcI .i64 l48 fun x51 l50=>
 xcB l50 fun x54 l53=>
 xcI .i64 l53 fun x57 l56=>
 rtNil l56 (
 chk (allOne [(V.int .i64 x14),(V.str x17),(V.bool x20),(V.int .i64 x23),(V.int .i64 x26),(V.bool x29),(V.bool x32),(V.bool x35),(V.bool x38),(V.int .i64 x41),(V.int .i64 x44),x45,x47,(V.int .i64 x51),(V.bool x54),(V.int .i64 x57)]) (
 condK (eqF x14 (Int.ofNat 11)) (
 ldnK E s6 (H.next σ) 0 5 fun l58=>
 xcS l58 fun x61 l60=>
 xcI .i64 l60 fun x64 l63=>
 rtCons l63 fun x65 l66=>
 rtCons l66 fun x67 l68=>
 rtCons l68 fun x69 l70=>
 rtNil l70 (
 callK (D 126 [(V.agg [(V.str x61),(V.int .i64 x64),x65,x67,x69]),(V.str x17)] s6) fun u71 s72=>
 rtInt .i64 u71 fun x73=>
 condK (ltF x73 (Int.ofNat 0)) (
 some ((V.tup [h,(V.bool true)]),s72)) (
 callK (D 29 [h,(V.int .i64 x73)] s72) fun u74 s75=>
 rtBool u74 fun x76=>
 condK (not x76) (
 let s77:=newB s75 (.cells [(V.int .i64 x73)]);
 appK E 1 8 h (V.sl (H.next s75) 0 1 (.ex 1)) s77 fun u78 s79=>
 rtOne u78 (
 K2 u78 s79)) (
 K2 h s75)))) (
 K1 g h (H.next σ) 0 x14 x17 x20 x23 x26 x29 x32 x35 x38 x41 x44 x45 x47 x51 x54 x57 s6))))) fun k7=>
 condK c2 (
 k7 true s3) (
 k7 (ltF (Int.ofNat 16) g) s3)) fun k4=>
 condK (ltF f (Int.ofNat 0)) (
 k4 true s1) (
 ldK E s1 (H.next σ) 4 fun u80=>
 slenK u80 fun n81=>
 k4 (leF (Int.ofNat n81) f) s1)
def C124_1 (cc3:XC) (cc4:XC):XC:=(.z (.c 12 y2<|
.nil)
 (.seq (.z (.q 13 0<|
.nil)
 (.block 0 (.loop q124b [10] q124a cc4)))
 (.keep q124c [10] q124a cc3)))
def T124_1 (E:List (Nat × Blk)) (D:Den) (W:DrawFn) (K4:Int→V→Nat→Nat→Bool→Int→Int→BS→Bool→Int→Int→Bool→Bool→Bool→Bool→Int→Int→V→V→Int→Bool→Int→H→Ans) (a:Int) (b:V) (c d:Nat) (e:Int) (f:BS) (g:Bool) (h i:Int) (j k l m:Bool) (o p:Int) (q r:V) (s:Int) (t:Bool) (u:Int) (σ:H):Ans:=
 K4 a b c d false (Int.ofNat 0) e f g h i j k l m o p q r s t u σ
def C124_2:XC:=(.z (.m 53 3<|
.m 8 53<|
.c 9 y2<|
.nil)
 .ret)
def T124_2 (E:List (Nat × Blk)) (D:Den) (W:DrawFn) (a:V) (σ:H):Ans:=
 some ((V.tup [a,(V.bool false)]),σ)
def C124_3 (cc5:XC):XC:=(.seq (.z (.f 79 0 10<|
.l 80 .i 79<|
.b 81 .eql .none (.t 80) (.i 10)<|
.nil)
 (.cond (.tmp 81) (.z (.c 15 y2<|
.nil)
 (.z (.O 83 y10 (.load (some 5) (.t 4))<|
.f 84 15 10<|
.l 85 .i 84<|
.m 86 2<|
.b 87 .add .none (.t 86) (.i 1)<|
.m 88 3<|
.k 89 (.tup [.any,.bool]) 124 [(.t 83),(.t 85),(.t 87),(.t 88)]<|
.m 82 89<|
.P 90 (.extract 0 (.t 82))<|
.P 91 (.extract 1 (.t 82))<|
.m 3 90<|
.m 15 91<|
.nil)
 (.ops (.m 92 12<|
.m 93 92<|
.gO 93 false (.p 94 [15,93] (.mov (.t 15))<|
.nil) 95 93 94<|
.m 12 95<|
.nil))))
 .skip))
 (.keep [(3,.any),(12,.bool)] [] [] cc5))
def T124_3 (E:List (Nat × Blk)) (D:Den) (W:DrawFn) (K5:V→Bool→H→Ans) (a:Int) (b:V) (c d:Nat) (e:Bool) (f:Int) (g:BS) (h:Bool) (i j:Int) (k l m o:Bool) (p q:Int) (r s:V) (t:Int) (u:Bool) (v:Int) (σ:H):Ans:=
 condK (eqF f (Int.ofNat 10)) (
 ldnK E σ c d 5 fun l1=>
 xcS l1 fun x4 l3=>
 xcI .i64 l3 fun x7 l6=>
 rtCons l6 fun x8 l9=>
 rtCons l9 fun x10 l11=>
 rtCons l11 fun x12 l13=>
 rtNil l13 (
 callK (D 124 [(V.agg [(V.str x4),(V.int .i64 x7),x8,x10,x12]),(V.int .i64 v),(V.int .i64 (addF .i64 a (Int.ofNat 1))),b] σ) fun u14 s15=>
 rtTup u14 fun l16=>
 rtCons l16 fun x17 l18=>
 xcB l18 fun x21 l20=>
 rtNil l20 (
 joinB (fun c22 s23=>
 K5 x17 c22 s23) fun k24=>
 condK e (
 k24 true s15) (
 k24 x21 s15)))) (
 K5 b e σ)
def C124_4:XC:=(.seq (.z (.m 54 13<|
.f 55 12 10<|
.l 56 .any 55<|
.u 57 56<|
.b 58 .lss .none (.t 54) (.t 57)<|
.nil)
 (.cond (.tmp 58) .skip
 y36))
 (.seq (.block 1 (.z (.c 14 y2<|
.nil)
 (.seq (.draw (.O 62 y10 (.load (some 5) (.t 4))<|
.f 63 12 10<|
.l 64 .any 63<|
.m 65 13<|
.s 66 11 64 65<|
.f 67 1 66<|
.l 68 .i 67<|
.m 69 2<|
.b 70 .add .none (.t 69) (.i 1)<|
.m 71 3<|
.k 72 (.tup [.any,.bool]) 124 [(.t 62),(.t 68),(.t 70),(.t 71)]<|
.m 61 72<|
.P 73 (.extract 0 (.t 61))<|
.P 74 (.extract 1 (.t 61))<|
.m 3 73<|
.m 14 74<|
.nil) [0,0,2,0,14,30,62,0,128,0,1023,2047,4095,4095,8191,32767])
 (.ops (.m 75 12<|
.m 76 75<|
.gO 76 false (.p 77 [14,76] (.mov (.t 14))<|
.nil) 78 76 77<|
.m 12 78<|
.nil)))))
 (.ops (.m 59 13<|
.b 60 .add .none (.t 59) (.i 1)<|
.m 13 60<|
.nil))))
def T124_4 (E:List (Nat × Blk)) (D:Den) (W:DrawFn) (K3:Int→V→Nat→Nat→Bool→Int→BS→Bool→Int→Int→Bool→Bool→Bool→Bool→Int→Int→V→V→Int→Bool→Int→H→Ans) (R4:Int→V→Nat→Nat→Bool→Int→Int→BS→Bool→Int→Int→Bool→Bool→Bool→Bool→Int→Int→V→V→Int→Bool→Int→H→Ans) (a:Int) (b:V) (c d:Nat) (e:Bool) (f g:Int) (h:BS) (i:Bool) (j k:Int) (l m o p:Bool) (q r:Int) (s t:V) (u:Int) (v:Bool) (w:Int) (σ:H):Ans:=
 slenK t fun n1=>
 condK (ltF f (Int.ofNat n1)) (
 ldnK E σ c d 5 fun l2=>
 xcS l2 fun x5 l4=>
 xcI .i64 l4 fun x8 l7=>
 rtCons l7 fun x9 l10=>
 rtCons l10 fun x11 l12=>
 rtCons l12 fun x13 l14=>
 rtNil l14 (
 iaddrSK 11 t f fun b15 o16=>
 ldK E σ b15 (Nat.add o16 1) fun u17=>
 rtInt .i64 u17 fun x18=>
 callK (D 124 [(V.agg [(V.str x5),(V.int .i64 x8),x9,x11,x13]),(V.int .i64 x18),(V.int .i64 (addF .i64 a (Int.ofNat 1))),b] σ) fun u19 s20=>
 rtTup u19 fun l21=>
 rtCons l21 fun x22 l23=>
 xcB l23 fun x26 l25=>
 rtNil l25 (
 joinB (fun c27 s28=>
 R4 a x22 c d c27 (addF .i64 f (Int.ofNat 1)) g h i j k l m o p q r s t u v w s28) fun k29=>
 condK e (
 k29 true s20) (
 k29 x26 s20)))) (
 K3 a b c d e g h i j k l m o p q r s t u v w σ)
def C124_5:XC:=(.z (.m 96 3<|
.m 97 12<|
.m 8 96<|
.m 9 97<|
.nil)
 .ret)
def T124_5 (E:List (Nat × Blk)) (D:Den) (W:DrawFn) (a:V) (b:Bool) (σ:H):Ans:=
 some ((V.tup [a,(V.bool b)]),σ)
def S124_0 (a:BS) (b:Int) (c d e:V) (f g:Int) (h:V) (σ:H):St:=⟨[(0,(V.agg [(V.str a),(V.int .i64 b),c,d,e])),(1,(V.int .i64 f)),(2,(V.int .i64 g)),(3,h)],[],[],σ⟩
def S124_1 (a:Int) (b:V) (c d:Nat) (e:Int) (f:BS) (g:Bool) (h i:Int) (j k l m:Bool) (o p:Int) (q r:V) (s:Int) (t:Bool) (u:Int) (σ:H):St:=⟨[(2,(V.int .i64 a)),(3,b),(4,(V.ptr c d))],[(10,(10,0))],[(10,[(V.int .i64 e),(V.str f),(V.bool g),(V.int .i64 h),(V.int .i64 i),(V.bool j),(V.bool k),(V.bool l),(V.bool m),(V.int .i64 o),(V.int .i64 p),q,r,(V.int .i64 s),(V.bool t),(V.int .i64 u)])],σ⟩
def S124_2 (a:V) (σ:H):St:=⟨[(3,a)],[],[],σ⟩
def S124_3 (a:Int) (b:V) (c d:Nat) (e:Bool) (f:Int) (g:BS) (h:Bool) (i j:Int) (k l m o:Bool) (p q:Int) (r s:V) (t:Int) (u:Bool) (v:Int) (σ:H):St:=⟨[(2,(V.int .i64 a)),(3,b),(4,(V.ptr c d)),(12,(V.bool e))],[(10,(10,0))],[(10,[(V.int .i64 f),(V.str g),(V.bool h),(V.int .i64 i),(V.int .i64 j),(V.bool k),(V.bool l),(V.bool m),(V.bool o),(V.int .i64 p),(V.int .i64 q),r,s,(V.int .i64 t),(V.bool u),(V.int .i64 v)])],σ⟩
def S124_4 (a:Int) (b:V) (c d:Nat) (e:Bool) (f g:Int) (h:BS) (i:Bool) (j k:Int) (l m o p:Bool) (q r:Int) (s t:V) (u:Int) (v:Bool) (w:Int) (σ:H):St:=⟨[(2,(V.int .i64 a)),(3,b),(4,(V.ptr c d)),(12,(V.bool e)),(13,(V.int .i64 f))],[(10,(10,0))],[(10,[(V.int .i64 g),(V.str h),(V.bool i),(V.int .i64 j),(V.int .i64 k),(V.bool l),(V.bool m),(V.bool o),(V.bool p),(V.int .i64 q),(V.int .i64 r),s,t,(V.int .i64 u),(V.bool v),(V.int .i64 w)])],σ⟩
def S124_5 (a:V) (b:Bool) (σ:H):St:=⟨[(3,a),(12,(V.bool b))],[],[],σ⟩
theorem P124_0 (cc1:XC) (cc2:XC) (a:BS) (b:Int) (c d e:V) (f g:Int) (h:V) (σ:H) :
 denC E D W N (C124_0 cc1 cc2) (S124_0 a b c d e f g h σ) (Fin124 E) nX (Fin124 E) =
 T124_0 E D W (fun g h i j k l m o p q r s t u v w x y z B σ=>denC E D W N cc1 (S124_1 g h i j k l m o p q r s t u v w x y z B σ) (Fin124 E) nX (Fin124 E)) (fun h σ=>denC E D W N cc2 (S124_2 h σ) (dX E D W N (.keep q124d [10] q124a cc1) (Fin124 E) nX (Fin124 E)) nX (Fin124 E)) a b c d e f g h σ:=by kernel_rfl
theorem P124_1 (cc3:XC) (cc4:XC) (a:Int) (b:V) (c d:Nat) (e:Int) (f:BS) (g:Bool) (h i:Int) (j k l m:Bool) (o p:Int) (q r:V) (s:Int) (t:Bool) (u:Int) (σ:H) :
 denC E D W N (C124_1 cc3 cc4) (S124_1 a b c d e f g h i j k l m o p q r s t u σ) (Fin124 E) nX (Fin124 E) =
 T124_1 E D W (fun a b c d v w e f g h i j k l m o p q r s t u σ=>iterK (fun rec s'=>denC E D W N cc4 s' (kX q124b [10] q124a rec) (b124a E D W N cc3) (Fin124 E)) N (S124_4 a b c d v w e f g h i j k l m o p q r s t u σ)) a b c d e f g h i j k l m o p q r s t u σ:=by kernel_rfl
theorem P124_2 (cc1:XC) (a:V) (σ:H) :
 denC E D W N (C124_2 ) (S124_2 a σ) (dX E D W N (.keep q124d [10] q124a cc1) (Fin124 E) nX (Fin124 E)) nX (Fin124 E) =
 T124_2 E D W  a σ:=by kernel_rfl
theorem P124_3 (cc5:XC) (a:Int) (b:V) (c d:Nat) (e:Bool) (f:Int) (g:BS) (h:Bool) (i j:Int) (k l m o:Bool) (p q:Int) (r s:V) (t:Int) (u:Bool) (v:Int) (σ:H) :
 denC E D W N (C124_3 cc5) (S124_3 a b c d e f g h i j k l m o p q r s t u v σ) (Fin124 E) nX (Fin124 E) =
 T124_3 E D W (fun b e σ=>denC E D W N cc5 (S124_5 b e σ) (Fin124 E) nX (Fin124 E)) a b c d e f g h i j k l m o p q r s t u v σ:=by kernel_rfl
theorem P124_4 (cc3:XC) (li4:St→Ans) (a:Int) (b:V) (c d:Nat) (e:Bool) (f g:Int) (h:BS) (i:Bool) (j k:Int) (l m o p:Bool) (q r:Int) (s t:V) (u:Int) (v:Bool) (w:Int) (σ:H) :
 denC E D W N (C124_4 ) (S124_4 a b c d e f g h i j k l m o p q r s t u v w σ) (kX q124b [10] q124a li4) (b124a E D W N cc3) (Fin124 E) =
 T124_4 E D W (fun a b c d e g h i j k l m o p q r s t u v w σ=>denC E D W N cc3 (S124_3 a b c d e g h i j k l m o p q r s t u v w σ) (Fin124 E) nX (Fin124 E)) (fun a b c d e f g h i j k l m o p q r s t u v w σ=>li4 (S124_4 a b c d e f g h i j k l m o p q r s t u v w σ)) a b c d e f g h i j k l m o p q r s t u v w σ:=by kernel_rfl
def J124_5 (E:List (Nat × Blk)) (D:Den) (W:DrawFn) (N:Nat):=T124_5 E D W
theorem JE124_5 (a:V) (b:Bool) (σ:H) :
 denC E D W N C124_5 (S124_5 a b σ) (Fin124 E) nX (Fin124 E)=J124_5 E D W N a b σ:=by kernel_rfl
def J124_3:=T124_3 E D W (J124_5 E D W N )
theorem JE124_3 (a:Int) (b:V) (c d:Nat) (e:Bool) (f:Int) (g:BS) (h:Bool) (i j:Int) (k l m o:Bool) (p q:Int) (r s:V) (t:Int) (u:Bool) (v:Int) (σ:H) :
 denC E D W N (C124_3 C124_5) (S124_3 a b c d e f g h i j k l m o p q r s t u v σ) (Fin124 E) nX (Fin124 E)=J124_3 E D W N a b c d e f g h i j k l m o p q r s t u v σ:=by
 refine(P124_3 E D W N C124_5  a b c d e f g h i j k l m o p q r s t u v σ).trans ?_
 simp only[JE124_5]
 kernel_rfl
def L124_4 (n:Nat):Int→V→Nat→Nat→Bool→Int→Int→BS→Bool→Int→Int→Bool→Bool→Bool→Bool→Int→Int→V→V→Int→Bool→Int→H→Ans:=
 Nat.rec (fun _ _ _ _ _ _ _ _ _ _ _ _ _ _ _ _ _ _ _ _ _ _ _=>none) (fun _ ih=>T124_4 E D W (J124_3 E D W N ) ih) n
theorem LE124_4 (n:Nat):∀(a:Int) (b:V) (c d:Nat) (e:Bool) (f g:Int) (h:BS) (i:Bool) (j k:Int) (l m o p:Bool) (q r:Int) (s t:V) (u:Int) (v:Bool) (w:Int) (σ:H),
 iterK (fun rec s'=>denC E D W N C124_4 s' (kX q124b [10] q124a rec) (b124a E D W N (C124_3 C124_5)) (Fin124 E)) n (S124_4 a b c d e f g h i j k l m o p q r s t u v w σ)=L124_4 E D W N n a b c d e f g h i j k l m o p q r s t u v w σ:=by
 induction n with
 | zero=>intro a b c d e f g h i j k l m o p q r s t u v w σ;rfl
 | succ n ihn=>
  intro a b c d e f g h i j k l m o p q r s t u v w σ
  rw[iterK_succ]
  refine(P124_4 E D W N (C124_3 C124_5) (iterK (fun rec s'=>denC E D W N C124_4 s' (kX q124b [10] q124a rec) (b124a E D W N (C124_3 C124_5)) (Fin124 E)) n) a b c d e f g h i j k l m o p q r s t u v w σ).trans ?_
  simp only[ihn,JE124_3]
  kernel_rfl
def J124_1:=T124_1 E D W (L124_4 E D W N N)
theorem JE124_1 (a:Int) (b:V) (c d:Nat) (e:Int) (f:BS) (g:Bool) (h i:Int) (j k l m:Bool) (o p:Int) (q r:V) (s:Int) (t:Bool) (u:Int) (σ:H) :
 denC E D W N (C124_1 (C124_3 C124_5) C124_4) (S124_1 a b c d e f g h i j k l m o p q r s t u σ) (Fin124 E) nX (Fin124 E)=J124_1 E D W N a b c d e f g h i j k l m o p q r s t u σ:=by
 refine(P124_1 E D W N (C124_3 C124_5) C124_4  a b c d e f g h i j k l m o p q r s t u σ).trans ?_
 simp only[LE124_4]
 kernel_rfl
def J124_2 (E:List (Nat × Blk)) (D:Den) (W:DrawFn) (N:Nat):=T124_2 E D W
theorem JE124_2 (a:V) (σ:H) :
 denC E D W N C124_2 (S124_2 a σ) (dX E D W N (.keep q124d [10] q124a (C124_1 (C124_3 C124_5) C124_4)) (Fin124 E) nX (Fin124 E)) nX (Fin124 E)=J124_2 E D W N a σ:=by
 refine(P124_2 E D W N (C124_1 (C124_3 C124_5) C124_4)  a σ).trans ?_
 kernel_rfl
def J124_0:=T124_0 E D W (J124_1 E D W N ) (J124_2 E D W N )
theorem JE124_0 (a:BS) (b:Int) (c d e:V) (f g:Int) (h:V) (σ:H) :
 denC E D W N (C124_0 (C124_1 (C124_3 C124_5) C124_4) C124_2) (S124_0 a b c d e f g h σ) (Fin124 E) nX (Fin124 E)=J124_0 E D W N a b c d e f g h σ:=by
 refine(P124_0 E D W N (C124_1 (C124_3 C124_5) C124_4) C124_2  a b c d e f g h σ).trans ?_
 simp only[JE124_1,JE124_2]
 kernel_rfl
def F124 (args:List V) (σ:H):Ans:=
 rtCons args fun x1 l2=>
 rtAgg x1 fun l3=>
 xcS l3 fun x6 l5=>
 xcI .i64 l5 fun x9 l8=>
 rtCons l8 fun x10 l11=>
 rtCons l11 fun x12 l13=>
 rtCons l13 fun x14 l15=>
 rtNil l15 (
 xcI .i64 l2 fun x18 l17=>
 xcI .i64 l17 fun x21 l20=>
 rtCons l20 fun x22 l23=>
 rtNil l23 (
 J124_0 E D W N x6 x9 x10 x12 x14 x18 x21 x22 σ))
def A124:XFn:=⟨98,[y10,.i,.i,.any],[(.tmp 8),(.tmp 9)],(C124_0 (C124_1 (C124_3 C124_5) C124_4) C124_2)⟩
theorem FE124 (args:List V) (σ:H):runX E D W N A124 args σ=F124 E D W N args σ:=by
 unfold F124
 simp only[←JE124_0]
 kernel_rfl
end
end Go.Proofs.YtgjjnbddbbhloaaGreatDoor
