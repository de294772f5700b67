/- What the last text leans on, part 4 of 7: merged out of smaller texts. No condition. -/
import Derived.KernelRfl
import Derived.Test.YtcpdffccolffaaaGreatDoorProg
import Derived.Test.YtcpdffccolffaaaGreatDoorQ2
open Int renaming ofNat -> AA,negSucc -> FM,tmod -> Fq
open Nat renaming le_refl -> AN,add -> Ac,le_trans -> Ae,lt_or_ge -> Al,beq -> Ax,ble -> A0,ble_eq -> BC,eq_of_beq_eq_true -> BO,lt_of_lt_of_le -> Bg,blt_eq -> C1,blt -> DQ,le_succ -> Ec,mul -> Zz
open Bool renaming and_eq_true -> AK,not_eq_true' -> C4,false_eq_true -> E3,eq_iff_iff -> PQ
open List renaming mem_cons_self -> BZ,mem_cons_of_mem -> ED,forall_mem_cons -> cD,map_map -> qY
open Option renaming some -> AP
set_option linter.all false
set_option maxRecDepth 100000
set_option maxHeartbeats 0
namespace Go.Proofs.YtcpdffccolffaaaGreatDoor
open Go Go.Og
noncomputable section
variable (E:EB) (D:Az) (W:AM) (N:Nat)
def Zw:List BY:=[⟨(some 5),.load none (.tmp 1),none⟩,⟨(some 6),.load none (.tmp 2),none⟩,⟨(some 7),.mov (.tmp 0),none⟩,⟨(some 8),.call 51 [(.tmp 6),(.tmp 7)],none⟩,⟨(some 9),.append 5 1 1 (.tmp 5) (.tmp 8),none⟩,⟨none,.store 1 (.tmp 1) (.tmp 9),none⟩]
def Sx:List DP:=[⟨0,[1]⟩,⟨0,[2]⟩,⟨0,[0]⟩,⟨6,[6,7]⟩,⟨15,[5,8]⟩,⟨31,[1,9]⟩]
def AEX:XC:=(.z (.c 4 y3<|
.nil)
 (.seq (.keep [(0,.i),(1,.any),(2,.any)] [] [] (.gdraw Zw Sx []))
 (.z (.c 4 TC<|
.nil)
 .ret)))
def fT (E:EB) (D:Az) (W:AM) (a:Int) (b c:V) (J:H):AH:=
 DA (W Zw Sx [(0,.int .i64 a),(1,b),(2,c)] J) fun e1 s2=>
 some ((V.bool true),s2)
def F93 (N:Nat) (args:List V) (J:H):AH:=
 A4 .i64 args fun x3 l2=>
 AE l2 fun x4 l5=>
 AE l5 fun x6 l7=>
 AQ l7 (
 fT E D W x3 x4 x6 J)
def A93:DV:=⟨10,[.i,.any,.any],[(.tmp 4)],AEX⟩
theorem AG3 (args:List V) (J:H):Br E D W N A93 args J=F93 E D W N args J:=by kernel_rfl
def cn:List (Nat × DM):=[(0,.any),(5,.any),(32,.i),(33,.i)]
def Fk (E:EB):St->AH:=fun s=>EA E s [(.tmp 4)] fun l=>some (EW l,s.J)
def nh (c0:XC):Nat->St->AH:=Bn 0 (dX E D W N (.keep [(5,.any)] [] [] c0) (Fk E) nX (Fk E)) nX
def kV (cc1:XC):XC:=(.z (.c 4 V.nils<|
.nil)
 (.z (.m 6 1<|
.p 7 [6] (.max (.t 6) [(.i 0)])<|
.m 1 7<|
.nil)
 (.seq (.z (.m 8 0<|
.b 9 .neq .ptr (.t 8) Z5<|
.m 10 9<|
.gA 10 true (.p 11 [1,10] cE<|
.p 12 [0,10] Z6<|
.p 13 [12,10] (.nilck (.t 12))<|
.p 14 [13,10] (.faddr 0 (.t 13))<|
.p 15 [14,10] (.faddr 0 (.t 14))<|
.p 16 [15,10] (.load none (.t 15))<|
.p 17 [16,10] (.len false (.t 16))<|
.p 18 [11,17,10] (.bin .gtr .none (.t 11) (.t 17))<|
.nil) 19 10 18<|
.nil)
 (.cond (.tmp 19) (.ops (.m 20 0<|
.n 21 20<|
.f 22 0 21<|
.f 23 0 22<|
.l 24 .any 23<|
.u 25 24<|
.b 26 .add .none (.t 25) (.i 1)<|
.m 1 26<|
.nil))
 .skip))
 (.keep [(0,.any),(1,.i)] [] [] cc1))))
def Vm (E:EB) (D:Az) (W:AM) (K1:V->Int->H->AH) (a:V) (b:Int) (J:H):AH:=
 SV .ptr a V.nilp fun c1=>
 BR (fun c2 s3=>
 AS c2 (
 Ar a fun b5 o6=>
 BL E s3 b5 o6 fun u7=>
 BA u7 fun n8=>
 K1 a (CU .i64 (AA n8) (AA 1)) s3) (
 K1 a (GW b (AA 0)) s3)) fun k4=>
 AS (not c1) (
 Ar a fun b9 o10=>
 BL E J b9 o10 fun u11=>
 BA u11 fun n12=>
 k4 (Ep (AA n12) (GW b (AA 0))) J) (
 k4 false J)
def WG (cc2:XC) (cc3:XC):XC:=(.seq (.z (.m 27 0<|
.m 28 1<|
.b 29 .mul .none (.i 8) (.t 28)<|
.k 30 .bool 155 [(.t 27),(.t 29)]<|
.P 31 (.un .not (.t 30))<|
.nil)
 (.cond (.tmp 31) (.z (.c 4 V.nils<|
.nil)
 .ret)
 .skip))
 (.z (.c 5 V.nils<|
.nil)
 (.seq (.z (.m 32 1<|
.q 33 0<|
.nil)
 (.block 0 (.loop cn [] [] cc3)))
 (.keep [(5,.any)] [] [] cc2))))
def Vl (E:EB) (D:Az) (W:AM) (K3:V->V->Int->Int->H->AH) (a:V) (b:Int) (J:H):AH:=
 AW (D 155 [a,.int .i64 (P8 .i64 (AA 8) b)] J) fun u1 s2=>
 An u1 fun x3=>
 AS (not x3) (
 some (V.nils,s2)) (
 K3 a V.nils b (AA 0) s2)
def M2:XC:=(.z (.m 44 5<|
.m 4 44<|
.nil)
 .ret)
def AAi (E:EB) (D:Az) (W:AM) (a:V) (J:H):AH:=
 some (a,J)
def Oa:XC:=(.z (.b 34 .lss .none (.t 33) (.t 32)<|
.nil)
 (.seq (.cond (.tmp 34) .skip
 Oe)
 (.seq (.block 1 (.ops (.m 35 5<|
.m 36 0<|
.n 37 36<|
.f 38 0 37<|
.k 39 (.int .u32) 109 [(.t 38),(.i 8)]<|
.P 40 (.conv (.toInt .u8) (.t 39))<|
.p 41 [40] (.buildSlice 5 1 [(V.int .u8 Rv)] [(0,1,(.t 40))])<|
.O 42 .one (.append 5 1 1 (.t 35) (.t 41))<|
.m 5 42<|
.nil)))
 (.ops (.b 43 .add .none (.t 33) (.i 1)<|
.m 33 43<|
.nil)))))
def Sh (E:EB) (D:Az) (W:AM) (K2:V->H->AH) (R3:V->V->Int->Int->H->AH) (a b:V) (c d:Int) (J:H):AH:=
 AS (Ep d c) (
 Ar a fun b1 o2=>
 AW (D 109 [.ptr b1 o2,.int .i64 (AA 8)] J) fun u3 s4=>
 Ah .u32 u3 fun x5=>
 let s6:=DR s4 (.cells [.int .u8 (BP .u8 x5)]);
 Ee E 1 1 b (V.sl (H.next s4) 0 1 (.ex 1)) s6 fun u7 s8=>
 Cm u7 (
 R3 a u7 c (CU .i64 d (AA 1)) s8)) (
 K2 b J)
def V4 (a:V) (b:Int) (J:H):St:=⟨[(0,a),(1,.int .i64 b)],[],[],J⟩
def rR (a:V) (J:H):St:=⟨[(5,a)],[],[],J⟩
def Zg (a b:V) (c d:Int) (J:H):St:=⟨[(0,a),(5,b),(32,.int .i64 c),(33,.int .i64 d)],[],[],J⟩
theorem ABj (cc1:XC) (a:V) (b:Int) (J:H) :
 AU E D W N (kV cc1) (V4 a b J) (Fk E) nX (Fk E) =
 Vm E D W (fun a b J=>AU E D W N cc1 (V4 a b J) (Fk E) nX (Fk E)) a b J:=by kernel_rfl
theorem ABi (cc2:XC) (cc3:XC) (a:V) (b:Int) (J:H) :
 AU E D W N (WG cc2 cc3) (V4 a b J) (Fk E) nX (Fk E) =
 Vl E D W (fun a c d e J=>Aw (fun rec s'=>AU E D W N cc3 s' (kX cn [] [] rec) (nh E D W N cc2) (Fk E)) N (Zg a c d e J)) a b J:=by kernel_rfl
theorem ABh (cc2:XC) (li3:St->AH) (a b:V) (c d:Int) (J:H) :
 AU E D W N (Oa ) (Zg a b c d J) (kX cn [] [] li3) (nh E D W N cc2) (Fk E) =
 Sh E D W (fun b J=>AU E D W N cc2 (rR b J) (Fk E) nX (Fk E)) (fun a b c d J=>li3 (Zg a b c d J)) a b c d J:=by kernel_rfl
def rq (E:EB) (D:Az) (W:AM) (N:Nat):=AAi E D W
theorem xD (a:V) (J:H) :
 AU E D W N M2 (rR a J) (Fk E) nX (Fk E)=rq E D W N a J:=by kernel_rfl
def Zo (n:Nat):V->V->Int->Int->H->AH:=
 Nat.rec (fun _ _ _ _ _=>none) (fun _ ih=>Sh E D W (rq E D W N ) ih) n
theorem wi (n:Nat):∀(a b:V) (c d:Int) (J:H),
 Aw (fun rec s'=>AU E D W N Oa s' (kX cn [] [] rec) (nh E D W N M2) (Fk E)) n (Zg a b c d J)=Zo E D W N n a b c d J:=by
 induction n with
 | zero=>intro a b c d J;rfl
 | succ n ihn=>
  intro a b c d J
  rw[BB]
  refine(ABh E D W N M2 (Aw (fun rec s'=>AU E D W N Oa s' (kX cn [] [] rec) (nh E D W N M2) (Fk E)) n) a b c d J).trans ?_
  simp only[ihn,xD]
  kernel_rfl
def rr:=Vl E D W (Zo E D W N N)
theorem xE (a:V) (b:Int) (J:H) :
 AU E D W N (WG M2 Oa) (V4 a b J) (Fk E) nX (Fk E)=rr E D W N a b J:=by
 refine(ABi E D W N M2 Oa  a b J).trans ?_
 simp only[wi]
 kernel_rfl
def ry:=Vm E D W (rr E D W N )
theorem xF (a:V) (b:Int) (J:H) :
 AU E D W N (kV (WG M2 Oa)) (V4 a b J) (Fk E) nX (Fk E)=ry E D W N a b J:=by
 refine(ABj E D W N (WG M2 Oa)  a b J).trans ?_
 simp only[xE]
 kernel_rfl
def yr (args:List V) (J:H):AH:=
 AE args fun x1 l2=>
 A4 .i64 l2 fun x5 l4=>
 AQ l4 (
 ry E D W N x1 x5 J)
def A95:DV:=⟨45,Z3,[(.tmp 4)],(kV (WG M2 Oa))⟩
theorem AG2 (args:List V) (J:H):Br E D W N A95 args J=yr E D W N args J:=by
 unfold yr
 simp only[<-xF]
 kernel_rfl
def N3:List BY:=[⟨(some 19),.mov (.tmp 4),none⟩,⟨(some 20),.call 18 [(.tmp 19)],none⟩,⟨(some 21),.mov (.tmp 0),none⟩,⟨(some 22),.nilck (.tmp 21),none⟩,⟨(some 23),.faddr 1 (.tmp 22),none⟩,⟨(some 24),.load (some 4) (.tmp 23),none⟩,⟨(some 25),.mov (.tmp 0),none⟩,⟨(some 26),.nilck (.tmp 25),none⟩,⟨(some 27),.faddr 5 (.tmp 26),none⟩,⟨(some 28),.load none (.tmp 27),none⟩,⟨(some 29),.build [V.nilp,(V.str ⟨0,0⟩),V.nils,V.nils,V.nils,V.nilp] [(0,1,(.tmp 20)),(1,4,(.tmp 24)),(5,1,(.tmp 28))],none⟩,⟨(some 30),.box 72 (.tmp 29),none⟩,⟨(some 5),.mov (.tmp 30),none⟩]
def RV:List DP:=[⟨0,[4]⟩,⟨1,[19]⟩,⟨0,[0]⟩,⟨4,[21]⟩,⟨12,[22]⟩,⟨28,[23]⟩,⟨0,[0]⟩,⟨64,[25]⟩,⟨192,[26]⟩,⟨448,[27]⟩,⟨1023,[20,24,28]⟩,⟨2047,[29]⟩,⟨4095,[30]⟩]
def yc:XC:=(.z (.m 6 0<|
.n 7 6<|
.f 8 0 7<|
.l 9 .any 8<|
.k 10 .one 48 [(.t 9),(.i 70000)]<|
.m 4 10<|
.nil)
 (.seq (.z (.m 11 0<|
.m 12 4<|
.u 13 12<|
.b 14 .eql .none (.t 13) (.i 0)<|
.k 15 y6 42 [(.t 11),(.t 14)]<|
.nil)
 (.z (.m 16 0<|
.k 17 .bool 44 [(.t 16)]<|
.P 18 (.un .not (.t 17))<|
.nil)
 (.cond (.tmp 18) .ret
 .skip)))
 (.seq (.keep [(0,.ptr),(1,.any),(4,.any)] [] [] (.gdraw N3 RV [(0,.ptr),(1,.any),(5,.ptr)]))
 (.z (.m 31 1<|
.m 32 5<|
.O 33 y6 (.callv (.t 31) [(.t 32)])<|
.nil)
 (.ops (.m 34 0<|
.m 35 5<|
.n 36 35<|
.f 37 0 36<|
.l 38 .any 37<|
.k 39 .i 20 [(.t 38)]<|
.b 40 .neq .none (.t 39) (.i 0)<|
.k 41 y6 42 [(.t 34),(.t 40)]<|
.nil))))))
def Xi (a b:Nat) (c:V) (J:H):AH:=
 BL E J a b fun u1=>
 AW (D 48 [u1,.int .i64 (AA 70000)] J) fun u2 s3=>
 Cm u2 (
 BA u2 fun n4=>
 AW (D 42 [.ptr a b,.bool (Cu (AA n4) (AA 0))] s3) fun u5 s6=>
 Bc u5 fun l7=>
 AQ l7 (
 AW (D 44 [.ptr a b] s6) fun u8 s9=>
 An u8 fun x10=>
 AS (not x10) (
 some ((V.tup []),s9)) (
 DA (W N3 RV [(0,.ptr a b),(1,c),(4,u2)] s9) fun e11 s12=>
 BW e11 0 fun u13=>
 Ar u13 fun b14 o15=>
 BW e11 1 fun u16=>
 BW e11 5 fun u17=>
 Ar u17 fun b18 o19=>
 Ed D u16 [.ptr b18 o19] s12 fun u20 s21=>
 Bc u20 fun l22=>
 AQ l22 (
 BL E s21 b18 o19 fun u23=>
 AW (D 20 [u23] s21) fun u24 s25=>
 Ah .i64 u24 fun x26=>
 AW (D 42 [.ptr b14 o15,.bool (not (Cu x26 (AA 0)))] s25) fun u27 s28=>
 Bc u27 fun l29=>
 AQ l29 (
 some ((V.tup []),s28))))))
def kU (N:Nat) (args:List V) (J:H):AH:=
 AE args fun x1 l2=>
 Ar x1 fun b3 o4=>
 AE l2 fun x5 l6=>
 AQ l6 (
 Xi E D W b3 o4 x5 J)
def AI2:DV:=⟨42,[.ptr,.any],[],yc⟩
theorem ADG (args:List V) (J:H):Br E D W N AI2 args J=kU E D W N args J:=by kernel_rfl
def MT:List (Nat × DM):=[(0,.ptr),(2,.ptr),(4,.i),(6,.ptr),(11,.any),(17,.any),(18,.i),(19,.i)]
def LF:List (Nat × DM):=[(0,.ptr),(2,.ptr),(4,.i),(6,.ptr),(11,.any),(45,.any),(46,.i),(47,.i)]
def qy:List (Nat × DM):=[(0,.ptr),(2,.ptr),(4,.i),(6,.ptr),(11,.any)]
def j6:List BY:=[⟨(some 58),.mov (.tmp 2),none⟩,⟨(some 59),.nilck (.tmp 58),none⟩,⟨(some 60),.faddr 3 (.tmp 59),none⟩,⟨(some 61),.load none (.tmp 60),none⟩,⟨(some 62),.mov (.tmp 16),none⟩,⟨(some 63),.mov (.tmp 0),none⟩,⟨(some 64),.faddr 9 (.tmp 6),none⟩,⟨(some 65),.load none (.tmp 64),none⟩,⟨(some 66),.mov (.tmp 16),none⟩,⟨(some 67),.iaddrS 11 (.tmp 65) (.tmp 66),none⟩,⟨(some 68),.faddr 1 (.tmp 67),none⟩,⟨(some 69),.load none (.tmp 68),none⟩,⟨(some 70),.mov (.tmp 4),none⟩,⟨(some 71),.bin .add .none (.tmp 70) (.con (V.int .i64 (AA 1))),none⟩,⟨(some 72),.call 19 [(.tmp 63),(.tmp 69),(.tmp 71)],none⟩,⟨(some 73),.iaddrS 6 (.tmp 61) (.tmp 62),none⟩,⟨none,.store 6 (.tmp 73) (.tmp 72),none⟩]
def j5:List DP:=[⟨0,[2]⟩,⟨1,[58]⟩,⟨3,[59]⟩,⟨7,[60]⟩,⟨0,[16]⟩,⟨0,[0]⟩,⟨0,[6]⟩,⟨64,[64]⟩,⟨0,[16]⟩,⟨448,[65,66]⟩,⟨960,[67]⟩,⟨1984,[68]⟩,⟨0,[4]⟩,⟨4096,[70]⟩,⟨16352,[63,69,71]⟩,⟨32767,[61,62]⟩,⟨65535,[73,72]⟩]
def Ct (E:EB):St->AH:=fun s=>EA E s [(.tmp 10)] fun l=>some (EW l,s.J)
def Qg (c0:XC):Nat->St->AH:=Bn 2 (dX E D W N (.keep [(11,.any)] [] [] c0) (Ct E) nX (Ct E)) nX
def Qf (c0:XC):Nat->St->AH:=Bn 0 (dX E D W N (.keep qy [] [] c0) (Ct E) nX (Ct E)) nX
def Yg (cc1:XC) (cc2:XC):XC:=(.z (.P 6 (.box 111 (.t 1))<|
.c 10 y3<|
.nil)
 (.z (.c 11 V.nils<|
.nil)
 (.seq (.z (.m 17 3<|
.u 18 17<|
.q 19 0<|
.nil)
 (.block 0 (.loop MT [] [] cc2)))
 (.keep qy [] [] cc1))))
def Q7 (E:EB) (D:Az) (W:AM) (K2:Nat->Nat->Nat->Nat->Int->Nat->Nat->V->V->Int->Int->H->AH) (a b:Nat) (c:Int) (d:V) (e f g h:Bool) (i j:Int) (k l:V) (m:Int) (o:Bool) (p:Int) (q r:Nat) (s:V) (t:Int) (J:H):AH:=
 G9 [.int .i64 c,d,.bool e,.bool f,.bool g,.bool h,.int .i64 i,.int .i64 j,k,l,.int .i64 m,.bool o,.int .i64 p] J fun s1=>
 BA s fun n2=>
 K2 a b q r t (H.next J) 0 V.nils s (AA n2) (AA 0) s1
def IK (cc4:XC) (cc5:XC):XC:=(.seq (.z (.m 45 11<|
.u 46 45<|
.q 47 0<|
.nil)
 (.block 2 (.loop LF [] [] cc5)))
 (.keep [(11,.any)] [] [] cc4))
def Q6 (E:EB) (D:Az) (W:AM) (K5:Nat->Nat->Nat->Nat->Int->Nat->Nat->V->V->Int->Int->H->AH) (a b c d:Nat) (e:Int) (f g:Nat) (h:V) (J:H):AH:=
 BA h fun n1=>
 K5 a b c d e f g h h (AA n1) (AA 0) J
def OL (cc3:XC):XC:=(.z (.b 20 .lss .none (.t 19) (.t 18)<|
.nil)
 (.seq (.cond (.tmp 20) .skip
 Oe)
 (.seq (.block 1 (.z (.s 21 1 17 19<|
.l 22 .i 21<|
.m 13 22<|
.nil)
 (.z (.f 23 9 6<|
.l 24 .any 23<|
.m 25 13<|
.s 26 11 24 25<|
.O 27 y9 (.load (some 11) (.t 26))<|
.pal 14 [] 191 [(V.str ⟨0,0⟩),y1,y3,y3,y1,y1,V.nils,V.nils,y1,V.nils,y1]<|
.op none y9 [14,27] (.store 11 (.t 14) (.t 27))<|
.nil)
 (.z (.f 28 2 14<|
.l 29 .bool 28<|
.P 30 (.un .not (.t 29))<|
.m 31 30<|
.gA 31 true (.p 32 [14,31] (.faddr 3 (.t 14))<|
.op (some 33) .bool [32,31] (.load none (.t 32))<|
.p 34 [33,31] (.un .not (.t 33))<|
.nil) 35 31 34<|
.m 36 35<|
.gO 36 false (.p 37 [0,36] Z6<|
.op (some 38) .bool [37,36] (.call 84 [(.t 37)])<|
.nil) 39 36 38<|
.nil)
 (.cond (.tmp 39) (.ops (.m 40 11<|
.m 41 13<|
.p 42 [41] (.buildSlice 3 1 [y1] [(0,1,(.t 41))])<|
.O 43 .one (.append 3 1 8 (.t 40) (.t 42))<|
.m 11 43<|
.nil))
 .skip)))))
 (.keep MT [] [] cc3))))
def Q5 (E:EB) (D:Az) (W:AM) (K1:Nat->Nat->Nat->Nat->Int->Nat->Nat->V->H->AH) (K3:Nat->Nat->Nat->Nat->Int->Nat->Nat->V->V->Int->Int->H->AH) (a b c d:Nat) (e:Int) (f g:Nat) (h i:V) (j k:Int) (J:H):AH:=
 AS (Ep k j) (
 AT 1 i k fun b1 o2=>
 BL E J b1 o2 fun u3=>
 Ah .i64 u3 fun x4=>
 BL E J f (Ac g 9) fun u5=>
 AT 11 u5 x4 fun b6 o7=>
 BQ E J b6 o7 11 fun l8=>
 Rx l8 fun x11 l10=>
 A4 .i64 l10 fun x14 l13=>
 De l13 fun x17 l16=>
 De l16 fun x20 l19=>
 A4 .i64 l19 fun x23 l22=>
 A4 .i64 l22 fun x26 l25=>
 AE l25 fun x27 l28=>
 AE l28 fun x29 l30=>
 A4 .i64 l30 fun x33 l32=>
 AE l32 fun x34 l35=>
 A4 .i64 l35 fun x38 l37=>
 AQ l37 (
 IT (allOne [.str x11,.int .i64 x14,.bool x17,.bool x20,.int .i64 x23,.int .i64 x26,x27,x29,.int .i64 x33,x34,.int .i64 x38]) (
 BR (fun c39 s40=>
 BR (fun c42 s43=>
 AS c42 (
 let s45:=DR s43 (.cells [.int .i64 x4]);
 Ee E 1 8 h (V.sl (H.next s43) 0 1 (.ex 1)) s45 fun u46 s47=>
 Cm u46 (
 K3 a b c d e f g u46 i j k s47)) (
 K3 a b c d e f g h i j k s43)) fun k44=>
 AS c39 (
 k44 true s40) (
 AW (D 84 [.ptr a b] s40) fun u48 s49=>
 An u48 fun x50=>
 k44 x50 s49)) fun k41=>
 AS (not x17) (
 k41 (not x20) J) (
 k41 false J)))) (
 K1 a b c d e f g h J)
def Kf:XC:=(.ops (.b 44 .add .none (.t 19) (.i 1)<|
.m 19 44<|
.nil))
def gj (E:EB) (D:Az) (W:AM) (R2:Nat->Nat->Nat->Nat->Int->Nat->Nat->V->V->Int->Int->H->AH) (a b c d:Nat) (e:Int) (f g:Nat) (h i:V) (j k:Int) (J:H):AH:=
 R2 a b c d e f g h i j (CU .i64 k (AA 1)) J
def FL:XC:=(.z (.m 75 11<|
.u 76 75<|
.b 77 .gtr .none (.t 76) (.i 0)<|
.m 10 77<|
.nil)
 .ret)
def Xh (E:EB) (D:Az) (W:AM) (a:V) (J:H):AH:=
 BA a fun n1=>
 some ((V.bool (Ep (AA 0) (AA n1))),J)
def Gl (cc6:XC):XC:=(.z (.b 48 .lss .none (.t 47) (.t 46)<|
.nil)
 (.seq (.cond (.tmp 48) .skip
 (.exit 2))
 (.seq (.block 3 (.z (.s 49 1 45 47<|
.l 50 .i 49<|
.m 16 50<|
.nil)
 (.z (.m 51 0<|
.k 52 .bool 44 [(.t 51)]<|
.nil)
 (.cond (.tmp 52) (.z (.m 53 0<|
.n 54 53<|
.f 55 5 54<|
.l 56 .any 55<|
.k 57 .bool 43 [(.t 56),(.con zG)]<|
.nil)
 (.keep [(0,.ptr),(2,.ptr),(4,.i),(6,.ptr),(11,.any),(16,.i),(45,.any),(46,.i),(47,.i)] [] [] (.gdraw j6 j5 LF)))
 .skip))))
 (.keep LF [] [] cc6))))
def Q4 (K4:V->H->AH) (K6:Nat->Nat->Nat->Nat->Int->Nat->Nat->V->V->Int->Int->H->AH) (a b c d:Nat) (e:Int) (f g:Nat) (h i:V) (j k:Int) (J:H):AH:=
 AS (Ep k j) (
 AT 1 i k fun b1 o2=>
 BL E J b1 o2 fun u3=>
 Ah .i64 u3 fun x4=>
 AW (D 44 [.ptr a b] J) fun u5 s6=>
 An u5 fun x7=>
 AS x7 (
 BL E s6 a (Ac b 5) fun u8=>
 AW (D 43 [u8,.int .i64 (FM 0)] s6) fun u9 s10=>
 An u9 fun x11=>
 DA (W j6 j5 [(0,.ptr a b),(2,.ptr c d),(4,.int .i64 e),(6,.ptr f g),(11,h),(16,.int .i64 x4),(45,i),(46,.int .i64 j),(47,.int .i64 k)] s10) fun e12 s13=>
 BW e12 0 fun u14=>
 Ar u14 fun b15 o16=>
 BW e12 2 fun u17=>
 Ar u17 fun b18 o19=>
 BW e12 4 fun u20=>
 Ah .i64 u20 fun x21=>
 BW e12 6 fun u22=>
 Ar u22 fun b23 o24=>
 BW e12 11 fun u25=>
 BW e12 45 fun u26=>
 BW e12 46 fun u27=>
 Ah .i64 u27 fun x28=>
 BW e12 47 fun u29=>
 Ah .i64 u29 fun x30=>
 K6 b15 o16 b18 o19 x21 b23 o24 u25 u26 x28 x30 s13) (
 K6 a b c d e f g h i j k s6)) (
 K4 h J)
def Fc:XC:=(.ops (.b 74 .add .none (.t 47) (.i 1)<|
.m 47 74<|
.nil))
def gi (E:EB) (D:Az) (W:AM) (R5:Nat->Nat->Nat->Nat->Int->Nat->Nat->V->V->Int->Int->H->AH) (a b c d:Nat) (e:Int) (f g:Nat) (h i:V) (j k:Int) (J:H):AH:=
 R5 a b c d e f g h i j (CU .i64 k (AA 1)) J
def iy (a b:Nat) (c:Int) (d:V) (e f g h:Bool) (i j:Int) (k l:V) (m:Int) (o:Bool) (p:Int) (q r:Nat) (s:V) (t:Int) (J:H):St:=⟨[(0,.ptr a b),(1,.agg [.int .i64 c,d,.bool e,.bool f,.bool g,.bool h,.int .i64 i,.int .i64 j,k,l,.int .i64 m,.bool o,.int .i64 p]),(2,.ptr q r),(3,s),(4,.int .i64 t)],[],[],J⟩
def X5 (a b c d:Nat) (e:Int) (f g:Nat) (h:V) (J:H):St:=⟨[(0,.ptr a b),(2,.ptr c d),(4,.int .i64 e),(6,.ptr f g),(11,h)],[],[],J⟩
def KW (a b c d:Nat) (e:Int) (f g:Nat) (h i:V) (j k:Int) (J:H):St:=⟨[(0,.ptr a b),(2,.ptr c d),(4,.int .i64 e),(6,.ptr f g),(11,h),(17,i),(18,.int .i64 j),(19,.int .i64 k)],[],[],J⟩
def ix (a:V) (J:H):St:=⟨[(11,a)],[],[],J⟩
def KV (a b c d:Nat) (e:Int) (f g:Nat) (h i:V) (j k:Int) (J:H):St:=⟨[(0,.ptr a b),(2,.ptr c d),(4,.int .i64 e),(6,.ptr f g),(11,h),(45,i),(46,.int .i64 j),(47,.int .i64 k)],[],[],J⟩
theorem wh (cc1:XC) (cc2:XC) (a b:Nat) (c:Int) (d:V) (e f g h:Bool) (i j:Int) (k l:V) (m:Int) (o:Bool) (p:Int) (q r:Nat) (s:V) (t:Int) (J:H) :
 AU E D W N (Yg cc1 cc2) (iy a b c d e f g h i j k l m o p q r s t J) (Ct E) nX (Ct E) =
 Q7 E D W (fun a b q r t u v w x y z J=>Aw (fun rec s'=>AU E D W N cc2 s' (kX MT [] [] rec) (Qf E D W N cc1) (Ct E)) N (KW a b q r t u v w x y z J)) a b c d e f g h i j k l m o p q r s t J:=by kernel_rfl
theorem wg (cc4:XC) (cc5:XC) (a b c d:Nat) (e:Int) (f g:Nat) (h:V) (J:H) :
 AU E D W N (IK cc4 cc5) (X5 a b c d e f g h J) (Ct E) nX (Ct E) =
 Q6 E D W (fun a b c d e f g h i j k J=>Aw (fun rec s'=>AU E D W N cc5 s' (kX LF [] [] rec) (Qg E D W N cc4) (Ct E)) N (KV a b c d e f g h i j k J)) a b c d e f g h J:=by kernel_rfl
theorem we (cc1:XC) (cc3:XC) (li2:St->AH) (a b c d:Nat) (e:Int) (f g:Nat) (h i:V) (j k:Int) (J:H) :
 AU E D W N (OL cc3) (KW a b c d e f g h i j k J) (kX MT [] [] li2) (Qf E D W N cc1) (Ct E) =
 Q5 E D W (fun a b c d e f g h J=>AU E D W N cc1 (X5 a b c d e f g h J) (Ct E) nX (Ct E)) (fun a b c d e f g h i j k J=>AU E D W N cc3 (KW a b c d e f g h i j k J) (kX MT [] [] li2) (Qf E D W N cc1) (Ct E)) a b c d e f g h i j k J:=by kernel_rfl
theorem wc (cc1:XC) (li2:St->AH) (a b c d:Nat) (e:Int) (f g:Nat) (h i:V) (j k:Int) (J:H) :
 AU E D W N (Kf ) (KW a b c d e f g h i j k J) (kX MT [] [] li2) (Qf E D W N cc1) (Ct E) =
 gj E D W (fun a b c d e f g h i j k J=>li2 (KW a b c d e f g h i j k J)) a b c d e f g h i j k J:=by kernel_rfl
theorem wZ (cc4:XC) (cc6:XC) (li5:St->AH) (a b c d:Nat) (e:Int) (f g:Nat) (h i:V) (j k:Int) (J:H) :
 AU E D W N (Gl cc6) (KV a b c d e f g h i j k J) (kX LF [] [] li5) (Qg E D W N cc4) (Ct E) =
 Q4 E D W (fun h J=>AU E D W N cc4 (ix h J) (Ct E) nX (Ct E)) (fun a b c d e f g h i j k J=>AU E D W N cc6 (KV a b c d e f g h i j k J) (kX LF [] [] li5) (Qg E D W N cc4) (Ct E)) a b c d e f g h i j k J:=by kernel_rfl
theorem wY (cc4:XC) (li5:St->AH) (a b c d:Nat) (e:Int) (f g:Nat) (h i:V) (j k:Int) (J:H) :
 AU E D W N (Fc ) (KV a b c d e f g h i j k J) (kX LF [] [] li5) (Qg E D W N cc4) (Ct E) =
 gi E D W (fun a b c d e f g h i j k J=>li5 (KV a b c d e f g h i j k J)) a b c d e f g h i j k J:=by kernel_rfl
def jy (E:EB) (D:Az) (W:AM) (N:Nat):=Xh E D W
theorem qR (a:V) (J:H) :
 AU E D W N FL (ix a J) (Ct E) nX (Ct E)=jy E D W N a J:=by kernel_rfl
def jx (E:EB) (D:Az) (W:AM) (N:Nat) (R5:Nat->Nat->Nat->Nat->Int->Nat->Nat->V->V->Int->Int->H->AH):=gi E D W R5
theorem qQ (li5:St->AH) (a b c d:Nat) (e:Int) (f g:Nat) (h i:V) (j k:Int) (J:H) :
 AU E D W N Fc (KV a b c d e f g h i j k J) (kX LF [] [] li5) (Qg E D W N FL) (Ct E)=jx E D W N (fun a b c d e f g h i j k J=>li5 (KV a b c d e f g h i j k J)) a b c d e f g h i j k J:=by
 refine(wY E D W N FL li5 a b c d e f g h i j k J).trans ?_
 kernel_rfl
def jF (n:Nat):Nat->Nat->Nat->Nat->Int->Nat->Nat->V->V->Int->Int->H->AH:=
 Nat.rec (fun _ _ _ _ _ _ _ _ _ _ _ _=>none) (fun _ ih=>Q4 E D W (jy E D W N ) (jx E D W N ih)) n
theorem pJ (n:Nat):∀(a b c d:Nat) (e:Int) (f g:Nat) (h i:V) (j k:Int) (J:H),
 Aw (fun rec s'=>AU E D W N (Gl Fc) s' (kX LF [] [] rec) (Qg E D W N FL) (Ct E)) n (KV a b c d e f g h i j k J)=jF E D W N n a b c d e f g h i j k J:=by
 induction n with
 | zero=>intro a b c d e f g h i j k J;rfl
 | succ n ihn=>
  intro a b c d e f g h i j k J
  rw[BB]
  refine(wZ E D W N FL Fc (Aw (fun rec s'=>AU E D W N (Gl Fc) s' (kX LF [] [] rec) (Qg E D W N FL) (Ct E)) n) a b c d e f g h i j k J).trans ?_
  simp only[ihn,qR,qQ]
  kernel_rfl
def j0:=Q6 E D W (jF E D W N N)
theorem qT (a b c d:Nat) (e:Int) (f g:Nat) (h:V) (J:H) :
 AU E D W N (IK FL (Gl Fc)) (X5 a b c d e f g h J) (Ct E) nX (Ct E)=j0 E D W N a b c d e f g h J:=by
 refine(wg E D W N FL (Gl Fc)  a b c d e f g h J).trans ?_
 simp only[pJ]
 kernel_rfl
def jz (E:EB) (D:Az) (W:AM) (N:Nat) (R2:Nat->Nat->Nat->Nat->Int->Nat->Nat->V->V->Int->Int->H->AH):=gj E D W R2
theorem qS (li2:St->AH) (a b c d:Nat) (e:Int) (f g:Nat) (h i:V) (j k:Int) (J:H) :
 AU E D W N Kf (KW a b c d e f g h i j k J) (kX MT [] [] li2) (Qf E D W N (IK FL (Gl Fc))) (Ct E)=jz E D W N (fun a b c d e f g h i j k J=>li2 (KW a b c d e f g h i j k J)) a b c d e f g h i j k J:=by
 refine(wc E D W N (IK FL (Gl Fc)) li2 a b c d e f g h i j k J).trans ?_
 kernel_rfl
def jG (n:Nat):Nat->Nat->Nat->Nat->Int->Nat->Nat->V->V->Int->Int->H->AH:=
 Nat.rec (fun _ _ _ _ _ _ _ _ _ _ _ _=>none) (fun _ ih=>Q5 E D W (j0 E D W N ) (jz E D W N ih)) n
theorem pK (n:Nat):∀(a b c d:Nat) (e:Int) (f g:Nat) (h i:V) (j k:Int) (J:H),
 Aw (fun rec s'=>AU E D W N (OL Kf) s' (kX MT [] [] rec) (Qf E D W N (IK FL (Gl Fc))) (Ct E)) n (KW a b c d e f g h i j k J)=jG E D W N n a b c d e f g h i j k J:=by
 induction n with
 | zero=>intro a b c d e f g h i j k J;rfl
 | succ n ihn=>
  intro a b c d e f g h i j k J
  rw[BB]
  refine(we E D W N (IK FL (Gl Fc)) Kf (Aw (fun rec s'=>AU E D W N (OL Kf) s' (kX MT [] [] rec) (Qf E D W N (IK FL (Gl Fc))) (Ct E)) n) a b c d e f g h i j k J).trans ?_
  simp only[ihn,qT,qS]
  kernel_rfl
def j1:=Q7 E D W (jG E D W N N)
theorem qU (a b:Nat) (c:Int) (d:V) (e f g h:Bool) (i j:Int) (k l:V) (m:Int) (o:Bool) (p:Int) (q r:Nat) (s:V) (t:Int) (J:H) :
 AU E D W N (Yg (IK FL (Gl Fc)) (OL Kf)) (iy a b c d e f g h i j k l m o p q r s t J) (Ct E) nX (Ct E)=j1 E D W N a b c d e f g h i j k l m o p q r s t J:=by
 refine(wh E D W N (IK FL (Gl Fc)) (OL Kf)  a b c d e f g h i j k l m o p q r s t J).trans ?_
 simp only[pK]
 kernel_rfl
def bu (args:List V) (J:H):AH:=
 AE args fun x1 l2=>
 Ar x1 fun b3 o4=>
 AE l2 fun x5 l6=>
 Cw x5 fun l7=>
 A4 .i64 l7 fun x10 l9=>
 AE l9 fun x11 l12=>
 De l12 fun x15 l14=>
 De l14 fun x18 l17=>
 De l17 fun x21 l20=>
 De l20 fun x24 l23=>
 A4 .i64 l23 fun x27 l26=>
 A4 .i64 l26 fun x30 l29=>
 AE l29 fun x31 l32=>
 AE l32 fun x33 l34=>
 A4 .i64 l34 fun x37 l36=>
 De l36 fun x40 l39=>
 A4 .i64 l39 fun x43 l42=>
 AQ l42 (
 AE l6 fun x44 l45=>
 Ar x44 fun b46 o47=>
 AE l45 fun x48 l49=>
 A4 .i64 l49 fun x52 l51=>
 AQ l51 (
 j1 E D W N b3 o4 x10 x11 x15 x18 x21 x24 x27 x30 x31 x33 x37 x40 x43 b46 o47 x48 x52 J))
def AI1:DV:=⟨78,[.ptr,y2,.ptr,.any,.i],[(.tmp 10)],(Yg (IK FL (Gl Fc)) (OL Kf))⟩
theorem ADF (args:List V) (J:H):Br E D W N AI1 args J=bu E D W N args J:=by
 unfold bu
 simp only[<-qU]
 kernel_rfl
def MS:List (Nat × DM):=[(0,.ptr),(6,.ptr),(7,.ptr),(8,.ptr),(9,.ptr),(28,.any),(29,.i),(30,.i)]
def N2:List BY:=[⟨(some 60),.load none (.tmp 6),none⟩,⟨(some 61),.load none (.tmp 6),none⟩,⟨(some 62),.nilck (.tmp 61),none⟩,⟨(some 63),.faddr 5 (.tmp 62),none⟩,⟨(some 64),.load none (.tmp 63),none⟩,⟨(some 65),.load none (.tmp 11),none⟩,⟨(some 66),.mov (.tmp 0),none⟩,⟨(some 67),.nilck (.tmp 66),none⟩,⟨(some 68),.faddr 0 (.tmp 67),none⟩,⟨(some 69),.load none (.tmp 68),none⟩,⟨(some 70),.call 48 [(.tmp 69),(.con (V.int .i64 (AA 70000)))],none⟩,⟨(some 71),.build [(V.int .i64 (AA 0)),V.nils] [(0,1,(.tmp 65)),(1,1,(.tmp 70))],none⟩,⟨(some 72),.buildSlice 46 1 [(V.int .i64 (AA 0)),V.nils] [(0,2,(.tmp 71))],none⟩,⟨(some 73),.append 46 2 32 (.tmp 64) (.tmp 72),none⟩,⟨(some 74),.nilck (.tmp 60),none⟩,⟨(some 75),.faddr 5 (.tmp 74),none⟩,⟨none,.store 1 (.tmp 75) (.tmp 73),none⟩]
def Hv:List DP:=[⟨0,[6]⟩,⟨0,[6]⟩,⟨2,[61]⟩,⟨6,[62]⟩,⟨14,[63]⟩,⟨0,[11]⟩,⟨0,[0]⟩,⟨64,[66]⟩,⟨192,[67]⟩,⟨448,[68]⟩,⟨960,[69]⟩,⟨2016,[65,70]⟩,⟨4064,[71]⟩,⟨8190,[64,72]⟩,⟨16383,[60]⟩,⟨32767,[74]⟩,⟨65535,[75,73]⟩]
def FH (E:EB):St->AH:=fun s=>EA E s [] fun l=>some (EW l,s.J)
def Yf (cc1:XC):XC:=(.z (.P 6 (.box 127 (.t 2))<|
.P 7 (.box 3 (.t 3))<|
.nil)
 (.z (.m 13 0<|
.n 14 13<|
.f 15 1 14<|
.f 16 3 15<|
.l 17 .any 16<|
.m 18 1<|
.s 19 13 17 18<|
.O 20 y2 (.load (some 13) (.t 19))<|
.p 8 [] y7<|
.op none y2 [8,20] (.store 13 (.t 8) (.t 20))<|
.nil)
 (.z (.m 21 0<|
.n 22 21<|
.f 23 1 22<|
.O 24 y4 (.load (some 4) (.t 23))<|
.m 25 1<|
.k 26 .one 176 [(.t 24),(.t 25)]<|
.p 9 [] (.alloc 156 [V.nils])<|
.w 1 9 26<|
.nil)
 (.z (.m 27 0<|
.k 28 .one 177 [(.t 27)]<|
.u 29 28<|
.q 30 0<|
.nil)
 (.block 0 (.loop MS [] [] cc1))))))
def Tz (E:EB) (D:Az) (W:AM) (K1:Nat->Nat->Nat->Nat->Nat->Nat->Nat->Nat->Nat->Nat->V->Int->Int->H->AH) (a b:Nat) (c:Int) (d:V) (e:Int) (J:H):AH:=
 G9 (V.cells d) J fun s1=>
 G9 (V.cells (V.int .i64 e)) s1 fun s2=>
 BL E s2 a (Ac (Ac b 1) 3) fun u3=>
 AT 13 u3 c fun b4 o5=>
 BQ E s2 b4 o5 13 fun l6=>
 A4 .i64 l6 fun x9 l8=>
 AE l8 fun x10 l11=>
 De l11 fun x14 l13=>
 De l13 fun x17 l16=>
 De l16 fun x20 l19=>
 De l19 fun x23 l22=>
 A4 .i64 l22 fun x26 l25=>
 A4 .i64 l25 fun x29 l28=>
 AE l28 fun x30 l31=>
 AE l31 fun x32 l33=>
 A4 .i64 l33 fun x36 l35=>
 De l35 fun x39 l38=>
 A4 .i64 l38 fun x42 l41=>
 AQ l41 (
 let s43:=DR s2 (.cells [.int .i64 (AA 0),V.nils,.bool false,.bool false,.bool false,.bool false,.int .i64 (AA 0),.int .i64 (AA 0),V.nils,V.nils,.int .i64 (AA 0),.bool false,.int .i64 (AA 0)]);
 Dt 13 (H.next s2) 0 (V.agg [.int .i64 x9,x10,.bool x14,.bool x17,.bool x20,.bool x23,.int .i64 x26,.int .i64 x29,x30,x32,.int .i64 x36,.bool x39,.int .i64 x42]) s43 fun s44=>
 BQ E s44 a (Ac b 1) 4 fun l45=>
 Rx l45 fun x48 l47=>
 AE l47 fun x49 l50=>
 AE l50 fun x51 l52=>
 AE l52 fun x53 l54=>
 AQ l54 (
 AW (D 176 [.agg [.str x48,x49,x51,x53],.int .i64 c] s44) fun u55 s56=>
 Cm u55 (
 let s57:=DR s56 (.cells [V.nils]);
 Dt 1 (H.next s56) 0 u55 s57 fun s58=>
 AW (D 177 [.ptr a b] s58) fun u59 s60=>
 Cm u59 (
 BA u59 fun n61=>
 K1 a b (H.next J) 0 (H.next s1) 0 (H.next s2) 0 (H.next s56) 0 u59 (AA n61) (AA 0) s60))))
def OK (cc2:XC):XC:=(.z (.b 31 .lss .none (.t 30) (.t 29)<|
.nil)
 (.seq (.cond (.tmp 31) .skip
 Oe)
 (.seq (.block 1 (.z (.s 32 1 28 30<|
.l 33 .i 32<|
.p 11 [] (.alloc 3 [y1])<|
.w 1 11 33<|
.nil)
 (.block 2 (.z (.m 49 0<|
.k 50 .bool 44 [(.t 49)]<|
.P 51 (.un .not (.t 50))<|
.m 48 51<|
.nil)
 (.cond (.tmp 48) .ret
 (.z (.l 53 .i 11<|
.l 54 .any 9<|
.u 55 54<|
.b 56 .geq .none (.t 53) (.t 55)<|
.m 52 56<|
.nil)
 (.cond (.tmp 52) (.z (.l 57 .any 6<|
.n 58 57<|
.f 59 4 58<|
.op none .any [59] (.store 1 (.t 59) (.i 2))<|
.nil)
 (.keep [(0,.ptr),(6,.ptr),(7,.ptr),(8,.ptr),(9,.ptr),(11,.ptr),(28,.any),(29,.i),(30,.i)] [] [] (.gdraw N2 Hv MS)))
 (.seq (.draw (.f 77 9 8<|
.l 78 .any 77<|
.l 79 .any 9<|
.l 80 .i 11<|
.s 81 1 79 80<|
.l 82 .any 81<|
.P 83 (.iaddrS 1 (.t 82) (.i 0))<|
.l 84 .i 83<|
.s 85 11 78 84<|
.f 86 10 85<|
.l 87 .i 86<|
.b 88 .gtr .none (.t 87) (.i 0)<|
.m 76 88<|
.nil) [0,1,0,0,12,28,60,124,255,511,1023,2047,4095])
 (.cond (.tmp 76) (.ops (.m 89 0<|
.p 90 [8,6,9,11,7] (.mkfn 178 [] [(.t 8),(.t 6),(.t 9),(.t 11),(.t 7)])<|
.k 91 y6 101 [(.t 89),(.t 90)]<|
.nil))
 (.z (.l 34 .any 9<|
.l 35 .i 11<|
.s 36 1 34 35<|
.l 37 .any 36<|
.P 38 (.iaddrS 1 (.t 37) (.i 0))<|
.l 39 .i 38<|
.p 12 [] (.alloc 3 [y1])<|
.w 1 12 39<|
.nil)
 (.z (.m 40 0<|
.n 41 40<|
.f 42 5 41<|
.l 43 .any 42<|
.k 44 .bool 43 [(.t 43),(.con zG)]<|
.nil)
 (.ops (.m 45 0<|
.p 46 [8,12,7,6] (.mkfn 179 [] [(.t 8),(.t 12),(.t 7),(.t 6)])<|
.k 47 y6 101 [(.t 45),(.t 46)]<|
.nil)))))))))))))
 (.keep MS [] [] cc2))))
def G5 (K2:Nat->Nat->Nat->Nat->Nat->Nat->Nat->Nat->Nat->Nat->V->Int->Int->H->AH) (a b c d e f g h i j:Nat) (k:V) (l m:Int) (J:H):AH:=
 AS (Ep m l) (
 AT 1 k m fun b1 o2=>
 BL E J b1 o2 fun u3=>
 Ah .i64 u3 fun x4=>
 let s5:=DR J (.cells [.int .i64 (AA 0)]);
 Dt 1 (H.next J) 0 (V.int .i64 x4) s5 fun s6=>
 AW (D 44 [.ptr a b] s6) fun u7 s8=>
 An u7 fun x9=>
 AS (not x9) (
 some ((V.tup []),s8)) (
 BL E s8 (H.next J) 0 fun u10=>
 Ah .i64 u10 fun x11=>
 BL E s8 i j fun u12=>
 BA u12 fun n13=>
 AS (Hk (AA n13) x11) (
 BL E s8 c d fun u14=>
 Ar u14 fun b15 o16=>
 Dt 1 b15 (Ac o16 4) (V.int .i64 (AA 2)) s8 fun s17=>
 DA (W N2 Hv [(0,.ptr a b),(6,.ptr c d),(7,.ptr e f),(8,.ptr g h),(9,.ptr i j),(11,.ptr (H.next J) 0),(28,k),(29,.int .i64 l),(30,.int .i64 m)] s17) fun e18 s19=>
 BW e18 0 fun u20=>
 Ar u20 fun b21 o22=>
 BW e18 6 fun u23=>
 Ar u23 fun b24 o25=>
 BW e18 7 fun u26=>
 Ar u26 fun b27 o28=>
 BW e18 8 fun u29=>
 Ar u29 fun b30 o31=>
 BW e18 9 fun u32=>
 Ar u32 fun b33 o34=>
 BW e18 28 fun u35=>
 BW e18 29 fun u36=>
 Ah .i64 u36 fun x37=>
 BW e18 30 fun u38=>
 Ah .i64 u38 fun x39=>
 K2 b21 o22 b24 o25 b27 o28 b30 o31 b33 o34 u35 x37 x39 s19) (
 BL E s8 g (Ac h 9) fun u40=>
 BL E s8 i j fun u41=>
 BL E s8 (H.next J) 0 fun u42=>
 Ah .i64 u42 fun x43=>
 AT 1 u41 x43 fun b44 o45=>
 BL E s8 b44 o45 fun u46=>
 AT 1 u46 (AA 0) fun b47 o48=>
 BL E s8 b47 o48 fun u49=>
 Ah .i64 u49 fun x50=>
 AT 11 u40 x50 fun b51 o52=>
 BL E s8 b51 (Ac o52 10) fun u53=>
 Ah .i64 u53 fun x54=>
 AS (Ep (AA 0) x54) (
 AW (D 101 [.ptr a b,.fn 178 [] [.ptr g h,.ptr c d,.ptr i j,.ptr (H.next J) 0,.ptr e f]] s8) fun u55 s56=>
 Bc u55 fun l57=>
 AQ l57 (
 K2 a b c d e f g h i j k l m s56)) (
 BL E s8 i j fun u58=>
 BL E s8 (H.next J) 0 fun u59=>
 Ah .i64 u59 fun x60=>
 AT 1 u58 x60 fun b61 o62=>
 BL E s8 b61 o62 fun u63=>
 AT 1 u63 (AA 0) fun b64 o65=>
 BL E s8 b64 o65 fun u66=>
 Ah .i64 u66 fun x67=>
 let s68:=DR s8 (.cells [.int .i64 (AA 0)]);
 Dt 1 (H.next s8) 0 (V.int .i64 x67) s68 fun s69=>
 BL E s69 a (Ac b 5) fun u70=>
 AW (D 43 [u70,.int .i64 (FM 0)] s69) fun u71 s72=>
 An u71 fun x73=>
 AW (D 101 [.ptr a b,.fn 179 [] [.ptr g h,.ptr (H.next s8) 0,.ptr e f,.ptr c d]] s72) fun u74 s75=>
 Bc u74 fun l76=>
 AQ l76 (
 K2 a b c d e f g h i j k l m s75))))) (
 some ((V.tup []),J))
def MA:XC:=(.ops (.b 92 .add .none (.t 30) (.i 1)<|
.m 30 92<|
.nil))
def Xg (E:EB) (D:Az) (W:AM) (R1:Nat->Nat->Nat->Nat->Nat->Nat->Nat->Nat->Nat->Nat->V->Int->Int->H->AH) (a b c d e f g h i j:Nat) (k:V) (l m:Int) (J:H):AH:=
 R1 a b c d e f g h i j k l (CU .i64 m (AA 1)) J
def iw (a b:Nat) (c:Int) (d:V) (e:Int) (J:H):St:=⟨[(0,.ptr a b),(1,.int .i64 c),(2,d),(3,.int .i64 e)],[],[],J⟩
def Nt (a b c d e f g h i j:Nat) (k:V) (l m:Int) (J:H):St:=⟨[(0,.ptr a b),(6,.ptr c d),(7,.ptr e f),(8,.ptr g h),(9,.ptr i j),(28,k),(29,.int .i64 l),(30,.int .i64 m)],[],[],J⟩
theorem wX (cc1:XC) (a b:Nat) (c:Int) (d:V) (e:Int) (J:H) :
 AU E D W N (Yf cc1) (iw a b c d e J) (FH E) nX (FH E) =
 Tz E D W (fun a b f g h i j k l m o p q J=>Aw (fun rec s'=>AU E D W N cc1 s' (kX MS [] [] rec) (Bn 0 (FH E) nX) (FH E)) N (Nt a b f g h i j k l m o p q J)) a b c d e J:=by kernel_rfl
theorem wW (cc2:XC) (li1:St->AH) (a b c d e f g h i j:Nat) (k:V) (l m:Int) (J:H) :
 AU E D W N (OK cc2) (Nt a b c d e f g h i j k l m J) (kX MS [] [] li1) (Bn 0 (FH E) nX) (FH E) =
 G5 E D W (fun a b c d e f g h i j k l m J=>AU E D W N cc2 (Nt a b c d e f g h i j k l m J) (kX MS [] [] li1) (Bn 0 (FH E) nX) (FH E)) a b c d e f g h i j k l m J:=by kernel_rfl
def jv (E:EB) (D:Az) (W:AM) (N:Nat) (R1:Nat->Nat->Nat->Nat->Nat->Nat->Nat->Nat->Nat->Nat->V->Int->Int->H->AH):=Xg E D W R1
theorem qO (li1:St->AH) (a b c d e f g h i j:Nat) (k:V) (l m:Int) (J:H) :
 AU E D W N MA (Nt a b c d e f g h i j k l m J) (kX MS [] [] li1) (Bn 0 (FH E) nX) (FH E)=jv E D W N (fun a b c d e f g h i j k l m J=>li1 (Nt a b c d e f g h i j k l m J)) a b c d e f g h i j k l m J:=by kernel_rfl
def RO (n:Nat):Nat->Nat->Nat->Nat->Nat->Nat->Nat->Nat->Nat->Nat->V->Int->Int->H->AH:=
 Nat.rec (fun _ _ _ _ _ _ _ _ _ _ _ _ _ _=>none) (fun _ ih=>G5 E D W (jv E D W N ih)) n
theorem pI (n:Nat):∀(a b c d e f g h i j:Nat) (k:V) (l m:Int) (J:H),
 Aw (fun rec s'=>AU E D W N (OK MA) s' (kX MS [] [] rec) (Bn 0 (FH E) nX) (FH E)) n (Nt a b c d e f g h i j k l m J)=RO E D W N n a b c d e f g h i j k l m J:=by
 induction n with
 | zero=>intro a b c d e f g h i j k l m J;rfl
 | succ n ihn=>
  intro a b c d e f g h i j k l m J
  rw[BB]
  refine(wW E D W N MA (Aw (fun rec s'=>AU E D W N (OK MA) s' (kX MS [] [] rec) (Bn 0 (FH E) nX) (FH E)) n) a b c d e f g h i j k l m J).trans ?_
  simp only[ihn,qO]
  kernel_rfl
def jw:=Tz E D W (RO E D W N N)
theorem qP (a b:Nat) (c:Int) (d:V) (e:Int) (J:H) :
 AU E D W N (Yf (OK MA)) (iw a b c d e J) (FH E) nX (FH E)=jw E D W N a b c d e J:=by
 refine(wX E D W N (OK MA)  a b c d e J).trans ?_
 simp only[pI]
 kernel_rfl
def YO (args:List V) (J:H):AH:=
 AE args fun x1 l2=>
 Ar x1 fun b3 o4=>
 A4 .i64 l2 fun x7 l6=>
 AE l6 fun x8 l9=>
 A4 .i64 l9 fun x12 l11=>
 AQ l11 (
 jw E D W N b3 o4 x7 x8 x12 J)
def AI0:DV:=⟨93,[.ptr,.i,.any,.i],[],(Yf (OK MA))⟩
theorem ADE (args:List V) (J:H):Br E D W N AI0 args J=YO E D W N args J:=by
 unfold YO
 simp only[<-qP]
 kernel_rfl
def yb:XC:=(.z (.q 2 0<|
.nil)
 (.seq (.z (.m 3 0<|
.b 4 .eql .ptr (.t 3) Z5<|
.nil)
 (.cond (.tmp 4) (.z (.q 2 2<|
.nil)
 .ret)
 .skip))
 (.z (.m 5 0<|
.n 6 5<|
.f 7 2 6<|
.l 8 .i 7<|
.m 2 8<|
.nil)
 .ret)))
def Xf (E:EB) (D:Az) (W:AM) (a:V) (J:H):AH:=
 SV .ptr a V.nilp fun c1=>
 AS c1 (
 some ((V.int .i64 (AA 2)),J)) (
 Ar a fun b2 o3=>
 BL E J b2 (Ac o3 2) fun u4=>
 Ah .i64 u4 fun x5=>
 some ((V.int .i64 x5),J))
def kT (N:Nat) (args:List V) (J:H):AH:=
 AE args fun x1 l2=>
 AQ l2 (
 Xf E D W x1 J)
def AIz:DV:=⟨9,[.any],[(.tmp 2)],yb⟩
theorem ADD (args:List V) (J:H):Br E D W N AIz args J=kT E D W N args J:=by kernel_rfl
def ya:XC:=(.z (.q 2 0<|
.nil)
 (.seq (.z (.m 3 0<|
.b 4 .eql .ptr (.t 3) Z5<|
.nil)
 y14)
 (.z (.m 5 0<|
.n 6 5<|
.f 7 0 6<|
.k 8 .i 108 [(.t 7)]<|
.m 2 8<|
.nil)
 .ret)))
def Xe (E:EB) (D:Az) (W:AM) (a:V) (J:H):AH:=
 SV .ptr a V.nilp fun c1=>
 AS c1 (
 some ((V.int .i64 (AA 0)),J)) (
 Ar a fun b2 o3=>
 AW (D 108 [.ptr b2 o3] J) fun u4 s5=>
 Ah .i64 u4 fun x6=>
 some ((V.int .i64 x6),s5))
def kS (N:Nat) (args:List V) (J:H):AH:=
 AE args fun x1 l2=>
 AQ l2 (
 Xe E D W x1 J)
def AIy:DV:=⟨9,[.any],[(.tmp 2)],ya⟩
theorem ADC (args:List V) (J:H):Br E D W N AIy args J=kS E D W N args J:=by kernel_rfl
def yZ:XC:=(.z (.q 2 0<|
.nil)
 (.seq (.draw (.m 3 0<|
.n 4 3<|
.f 5 0 4<|
.l 6 .any 5<|
.u 7 6<|
.b 8 .mul .none (.i 8) (.t 7)<|
.m 9 0<|
.n 10 9<|
.f 11 1 10<|
.l 12 .i 11<|
.b 13 .sub .none (.t 8) (.t 12)<|
.m 2 13<|
.nil) [0,1,3,7,15,31,0,64,192,448,1023,2047])
 .ret))
def Xd (E:EB) (D:Az) (W:AM) (a b:Nat) (J:H):AH:=
 BL E J a b fun u1=>
 BA u1 fun n2=>
 BL E J a (Ac b 1) fun u3=>
 Ah .i64 u3 fun x4=>
 some ((V.int .i64 (E6 .i64 (P8 .i64 (AA 8) (AA n2)) x4)),J)
def kR (N:Nat) (args:List V) (J:H):AH:=
 AE args fun x1 l2=>
 Ar x1 fun b3 o4=>
 AQ l2 (
 Xd E D W b3 o4 J)
def AIx:DV:=⟨14,[.ptr],[(.tmp 2)],yZ⟩
theorem ADB (args:List V) (J:H):Br E D W N AIx args J=kR E D W N args J:=by kernel_rfl
def U7:List (Nat × DM):=[(0,.any),(5,(.int .u32)),(6,.i),(7,.i)]
def GC (E:EB):St->AH:=fun s=>EA E s [(.tmp 4)] fun l=>some (EW l,s.J)
def ZN (c0:XC):Nat->St->AH:=Bn 0 (dX E D W N (.keep [(5,(.int .u32))] [] [] c0) (GC E) nX (GC E)) nX
def Ye (cc1:XC) (cc2:XC):XC:=(.z (.c 4 (V.int .u32 Rv)<|
.nil)
 (.z (.c 5 (V.int .u32 Rv)<|
.nil)
 (.seq (.z (.m 6 1<|
.q 7 0<|
.nil)
 (.block 0 (.loop U7 [] [] cc2)))
 (.keep [(5,(.int .u32))] [] [] cc1))))
def gh (E:EB) (D:Az) (W:AM) (K2:V->Int->Int->Int->H->AH) (a:V) (b:Int) (J:H):AH:=
 K2 a (AA 0) b (AA 0) J
def L9:XC:=(.z (.m 16 5<|
.m 4 16<|
.nil)
 .ret)
def vA (E:EB) (D:Az) (W:AM) (a:Int) (J:H):AH:=
 some ((V.int .u32 a),J)
def OJ:XC:=(.z (.b 8 .lss .none (.t 7) (.t 6)<|
.nil)
 (.seq (.cond (.tmp 8) .skip
 Oe)
 (.seq (.block 1 (.ops (.m 9 5<|
.b 10 .shl .none (.t 9) lI<|
.m 11 0<|
.k 12 .i 180 [(.t 11)]<|
.P 13 (.conv (.toInt .u32) (.t 12))<|
.b 14 .or .none (.t 10) (.t 13)<|
.m 5 14<|
.nil)))
 (.ops (.b 15 .add .none (.t 7) (.i 1)<|
.m 7 15<|
.nil)))))
def Nn (E:EB) (D:Az) (W:AM) (K1:Int->H->AH) (R2:V->Int->Int->Int->H->AH) (a:V) (b c d:Int) (J:H):AH:=
 AS (Ep d c) (
 AW (D 180 [a] J) fun u1 s2=>
 Ah .i64 u1 fun x3=>
 R2 a (Yz .u32 (MI .u32 b 1) (BP .u32 x3)) c (CU .i64 d (AA 1)) s2) (
 K1 b J)
def iv (a:V) (b:Int) (J:H):St:=⟨[(0,a),(1,.int .i64 b)],[],[],J⟩
def iu (a:Int) (J:H):St:=⟨[(5,.int .u32 a)],[],[],J⟩
def UT (a:V) (b c d:Int) (J:H):St:=⟨[(0,a),(5,.int .u32 b),(6,.int .i64 c),(7,.int .i64 d)],[],[],J⟩
theorem wV (cc1:XC) (cc2:XC) (a:V) (b:Int) (J:H) :
 AU E D W N (Ye cc1 cc2) (iv a b J) (GC E) nX (GC E) =
 gh E D W (fun a c d e J=>Aw (fun rec s'=>AU E D W N cc2 s' (kX U7 [] [] rec) (ZN E D W N cc1) (GC E)) N (UT a c d e J)) a b J:=by kernel_rfl
theorem wU (cc1:XC) (li2:St->AH) (a:V) (b c d:Int) (J:H) :
 AU E D W N (OJ ) (UT a b c d J) (kX U7 [] [] li2) (ZN E D W N cc1) (GC E) =
 Nn E D W (fun b J=>AU E D W N cc1 (iu b J) (GC E) nX (GC E)) (fun a b c d J=>li2 (UT a b c d J)) a b c d J:=by kernel_rfl
def jt (E:EB) (D:Az) (W:AM) (N:Nat):=vA E D W
theorem qM (a:Int) (J:H) :
 AU E D W N L9 (iu a J) (GC E) nX (GC E)=jt E D W N a J:=by kernel_rfl
def X9 (n:Nat):V->Int->Int->Int->H->AH:=
 Nat.rec (fun _ _ _ _ _=>none) (fun _ ih=>Nn E D W (jt E D W N ) ih) n
theorem pH (n:Nat):∀(a:V) (b c d:Int) (J:H),
 Aw (fun rec s'=>AU E D W N OJ s' (kX U7 [] [] rec) (ZN E D W N L9) (GC E)) n (UT a b c d J)=X9 E D W N n a b c d J:=by
 induction n with
 | zero=>intro a b c d J;rfl
 | succ n ihn=>
  intro a b c d J
  rw[BB]
  refine(wU E D W N L9 (Aw (fun rec s'=>AU E D W N OJ s' (kX U7 [] [] rec) (ZN E D W N L9) (GC E)) n) a b c d J).trans ?_
  simp only[ihn,qM]
  kernel_rfl
def ju:=gh E D W (X9 E D W N N)
theorem qN (a:V) (b:Int) (J:H) :
 AU E D W N (Ye L9 OJ) (iv a b J) (GC E) nX (GC E)=ju E D W N a b J:=by
 refine(wV E D W N L9 OJ  a b J).trans ?_
 simp only[pH]
 kernel_rfl
def br (args:List V) (J:H):AH:=
 AE args fun x1 l2=>
 A4 .i64 l2 fun x5 l4=>
 AQ l4 (
 ju E D W N x1 x5 J)
def AIw:DV:=⟨17,Z3,[(.tmp 4)],(Ye L9 OJ)⟩
theorem ADA (args:List V) (J:H):Br E D W N AIw args J=br E D W N args J:=by
 unfold br
 simp only[<-qN]
 kernel_rfl
def yY:XC:=(.z (.P 2 (.box 43 (.t 0))<|
.c 4 y3<|
.nil)
 (.z (.m 5 1<|
.b 6 .and .none (.t 5) (.i 1)<|
.b 7 .neq .none (.t 6) (.i 0)<|
.m 8 7<|
.gO 8 false (.p 9 [2,8] (.faddr 1 (.t 2))<|
.op (some 10) .i [9,8] (.load none (.t 9))<|
.p 11 [10,8] (.bin .eql .none (.t 10) (.i 0))<|
.nil) 12 8 11<|
.m 13 12<|
.gA 13 true (.p 14 [1,13] cE<|
.p 15 [14,13] (.bin .and .none (.t 14) (.i 2))<|
.p 16 [15,13] (.bin .neq .none (.t 15) (.i 0))<|
.p 17 [16,13] (.mov (.t 16))<|
.grp 17 false (.p 18 [2,17] (.faddr 2 (.t 2))<|
.p 19 [18,17] (.load none (.t 18))<|
.p 20 [19,17] (.len false (.t 19))<|
.p 21 [20,17] (.bin .eql .none (.t 20) (.i 0))<|
.nil) 22 [17,21,13] (.t 17) (.con TC) (.t 21)<|
.nil) 23 13 22<|
.m 24 23<|
.gA 24 true (.p 25 [1,24] cE<|
.p 26 [25,24] (.bin .and .none (.t 25) (.i 4))<|
.p 27 [26,24] (.bin .neq .none (.t 26) (.i 0))<|
.p 28 [27,24] (.mov (.t 27))<|
.grp 28 false (.p 29 [2,28] (.faddr 3 (.t 2))<|
.p 30 [29,28] (.load none (.t 29))<|
.p 31 [30,28] (.len false (.t 30))<|
.p 32 [31,28] (.bin .eql .none (.t 31) (.i 0))<|
.nil) 33 [28,32,24] (.t 28) (.con TC) (.t 32)<|
.nil) 34 24 33<|
.m 35 34<|
.gA 35 true (.p 36 [1,35] cE<|
.p 37 [36,35] (.bin .and .none (.t 36) (.i 8))<|
.p 38 [37,35] (.bin .neq .none (.t 37) (.i 0))<|
.p 39 [38,35] (.mov (.t 38))<|
.grp 39 false (.p 40 [2,39] (.faddr 4 (.t 2))<|
.op (some 41) .i [40,39] (.load none (.t 40))<|
.p 42 [41,39] (.bin .eql .none (.t 41) (.i 0))<|
.p 43 [42,39] (.mov (.t 42))<|
.grp 43 true (.p 44 [2,43] (.faddr 5 (.t 2))<|
.p 45 [44,43] (.load none (.t 44))<|
.p 46 [45,43] (.len false (.t 45))<|
.p 47 [46,43] (.bin .eql .none (.t 46) (.i 0))<|
.nil) 48 [43,47,39] (.t 43) (.t 47) (.con y3)<|
.nil) 49 [39,48,35] (.t 39) (.con TC) (.t 48)<|
.nil) 50 35 49<|
.m 4 50<|
.nil)
 .ret))
def Xc (E:EB) (D:Az) (W:AM) (a b:Int) (c d:V) (e:Int) (f:V) (g:Int) (J:H):AH:=
 G9 [.int .i64 a,.int .i64 b,c,d,.int .i64 e,f] J fun s1=>
 BR (fun c2 s3=>
 BR (fun c5 s6=>
 BR (fun c8 s9=>
 BR (fun c11 s12=>
 some ((V.bool c11),s12)) fun k13=>
 AS c8 (
 BR (fun c14 s15=>
 k13 c14 s15) fun k16=>
 AS (not (Cu (Je .i64 g (AA 8)) (AA 0))) (
 k16 true s9) (
 BL E s9 (H.next J) 4 fun u17=>
 Ah .i64 u17 fun x18=>
 BR (fun c19 s20=>
 k16 c19 s20) fun k21=>
 AS (Cu x18 (AA 0)) (
 BL E s9 (H.next J) 5 fun u22=>
 BA u22 fun n23=>
 k21 (Cu (AA n23) (AA 0)) s9) (
 k21 false s9))) (
 k13 false s9)) fun k10=>
 AS c5 (
 BR (fun c24 s25=>
 k10 c24 s25) fun k26=>
 AS (not (Cu (Je .i64 g (AA 4)) (AA 0))) (
 k26 true s6) (
 BL E s6 (H.next J) 3 fun u27=>
 BA u27 fun n28=>
 k26 (Cu (AA n28) (AA 0)) s6)) (
 k10 false s6)) fun k7=>
 AS c2 (
 BR (fun c29 s30=>
 k7 c29 s30) fun k31=>
 AS (not (Cu (Je .i64 g (AA 2)) (AA 0))) (
 k31 true s3) (
 BL E s3 (H.next J) 2 fun u32=>
 BA u32 fun n33=>
 k31 (Cu (AA n33) (AA 0)) s3)) (
 k7 false s3)) fun k4=>
 AS (not (Cu (Je .i64 g (AA 1)) (AA 0))) (
 k4 true s1) (
 BL E s1 (H.next J) 1 fun u34=>
 Ah .i64 u34 fun x35=>
 k4 (Cu x35 (AA 0)) s1)
def kQ (N:Nat) (args:List V) (J:H):AH:=
 AE args fun x1 l2=>
 Cw x1 fun l3=>
 A4 .i64 l3 fun x6 l5=>
 A4 .i64 l5 fun x9 l8=>
 AE l8 fun x10 l11=>
 AE l11 fun x12 l13=>
 A4 .i64 l13 fun x16 l15=>
 AE l15 fun x17 l18=>
 AQ l18 (
 A4 .i64 l2 fun x21 l20=>
 AQ l20 (
 Xc E D W x6 x9 x10 x12 x16 x17 x21 J))
def AIv:DV:=⟨51,[y0,.i],[(.tmp 4)],yY⟩
theorem AC9 (args:List V) (J:H):Br E D W N AIv args J=kQ E D W N args J:=by kernel_rfl
def MR:List (Nat × List DM):=[(9,[.i,.any,.bool,.bool,.bool,.bool,.i,.i,.any,.any,.i,.bool,.i])]
def MQ:List (Nat × DM):=[(0,.ptr),(1,.i),(3,.i),(6,.ptr),(42,.any),(43,.i),(44,.i)]
def qw:List (Nat × DM):=[(0,.ptr),(1,.i),(6,.ptr)]
def Ex (E:EB):St->AH:=fun s=>EA E s [(.tmp 8)] fun l=>some (EW l,s.J)
def Qe (c0:XC):Nat->St->AH:=Bn 0 (dX E D W N (.keep qw [] [] c0) (Ex E) nX (Ex E)) nX
def Yd (cc1:XC) (cc2:XC):XC:=(.z (.P 6 (.box 43 (.t 2))<|
.c 8 y3<|
.nil)
 (.z (.m 13 0<|
.n 14 13<|
.f 15 0 14<|
.f 16 0 15<|
.f 17 3 16<|
.l 18 .any 17<|
.m 19 1<|
.s 20 13 18 19<|
.O 21 y2 (.load (some 13) (.t 20))<|
.pal 9 [] 111 [y1,V.nils,y3,y3,y3,y3,y1,y1,V.nils,V.nils,y1,y3,y1]<|
.op none y2 [9,21] (.store 13 (.t 9) (.t 21))<|
.nil)
 (.seq (.z (.O 22 y0 (.load (some 6) (.t 6))<|
.k 23 .bool 111 [(.t 22),(.i 12)]<|
.P 24 (.un .not (.t 23))<|
.m 25 24<|
.gO 25 false (.p 26 [6,25] (.faddr 3 (.t 6))<|
.p 27 [26,25] (.load none (.t 26))<|
.p 28 [27,25] (.len false (.t 27))<|
.p 29 [9,25] (.faddr 9 (.t 9))<|
.p 30 [29,25] (.load none (.t 29))<|
.p 31 [30,25] (.len false (.t 30))<|
.p 32 [28,31,25] (.bin .neq .none (.t 28) (.t 31))<|
.nil) 33 25 32<|
.m 34 33<|
.gO 34 false (.p 35 [0,34] Z6<|
.p 36 [1,34] cE<|
.op (some 37) y0 [6,34] (.load (some 6) (.t 6))<|
.op (some 38) .bool [35,36,37,34] (.call 187 [(.t 35),(.t 36),(.t 37)])<|
.p 39 [38,34] (.un .not (.t 38))<|
.nil) 40 34 39<|
.nil)
 (.cond (.tmp 40) (.z (.c 8 y3<|
.nil)
 .ret)
 .skip))
 (.seq (.z (.f 41 9 9<|
.l 42 .any 41<|
.u 43 42<|
.q 44 0<|
.nil)
 (.block 0 (.loop MQ [9] MR cc2)))
 (.keep qw [] [] cc1)))))
def Nm (E:EB) (D:Az) (W:AM) (K2:Nat->Nat->Int->Int->Nat->Nat->V->Int->Int->Int->V->Bool->Bool->Bool->Bool->Int->Int->V->V->Int->Bool->Int->H->AH) (a b:Nat) (c d e:Int) (f g:V) (h:Int) (i:V) (j:Int) (J:H):AH:=
 G9 [.int .i64 d,.int .i64 e,f,g,.int .i64 h,i] J fun s1=>
 BL E s1 a (Ac b 3) fun u2=>
 AT 13 u2 c fun b3 o4=>
 BQ E s1 b3 o4 13 fun l5=>
 A4 .i64 l5 fun x8 l7=>
 AE l7 fun x9 l10=>
 De l10 fun x13 l12=>
 De l12 fun x16 l15=>
 De l15 fun x19 l18=>
 De l18 fun x22 l21=>
 A4 .i64 l21 fun x25 l24=>
 A4 .i64 l24 fun x28 l27=>
 AE l27 fun x29 l30=>
 AE l30 fun x31 l32=>
 A4 .i64 l32 fun x35 l34=>
 De l34 fun x38 l37=>
 A4 .i64 l37 fun x41 l40=>
 AQ l40 (
 IT (allOne [.int .i64 x8,x9,.bool x13,.bool x16,.bool x19,.bool x22,.int .i64 x25,.int .i64 x28,x29,x31,.int .i64 x35,.bool x38,.int .i64 x41]) (
 BQ E s1 (H.next J) 0 6 fun l42=>
 A4 .i64 l42 fun x45 l44=>
 A4 .i64 l44 fun x48 l47=>
 AE l47 fun x49 l50=>
 AE l50 fun x51 l52=>
 A4 .i64 l52 fun x55 l54=>
 AE l54 fun x56 l57=>
 AQ l57 (
 AW (D 111 [.agg [.int .i64 x45,.int .i64 x48,x49,x51,.int .i64 x55,x56],.int .i64 (AA 12)] s1) fun u58 s59=>
 An u58 fun x60=>
 BR (fun c61 s62=>
 BR (fun c64 s65=>
 AS c64 (
 some ((V.bool false),s65)) (
 BA x31 fun n67=>
 K2 a b c j (H.next J) 0 x31 (AA n67) (AA 0) x8 x9 x13 x16 x19 x22 x25 x28 x29 x31 x35 x38 x41 s65)) fun k66=>
 AS c61 (
 k66 true s62) (
 BQ E s62 (H.next J) 0 6 fun l68=>
 A4 .i64 l68 fun x71 l70=>
 A4 .i64 l70 fun x74 l73=>
 AE l73 fun x75 l76=>
 AE l76 fun x77 l78=>
 A4 .i64 l78 fun x81 l80=>
 AE l80 fun x82 l83=>
 AQ l83 (
 AW (D 187 [.ptr a b,.int .i64 c,.agg [.int .i64 x71,.int .i64 x74,x75,x77,.int .i64 x81,x82]] s62) fun u84 s85=>
 An u84 fun x86=>
 k66 (not x86) s85))) fun k63=>
 AS (not x60) (
 k63 true s59) (
 BL E s59 (H.next J) 3 fun u87=>
 BA u87 fun n88=>
 BA x31 fun n89=>
 k63 (not (Cu (AA n88) (AA n89))) s59))))
def JM:XC:=(.z (.m 87 0<|
.m 88 1<|
.O 89 y0 (.load (some 6) (.t 6))<|
.k 90 .bool 191 [(.t 87),(.t 88),(.t 89)]<|
.m 8 90<|
.nil)
 .ret)
def Xb (E:EB) (D:Az) (W:AM) (a b:Nat) (c:Int) (d e:Nat) (J:H):AH:=
 BQ E J d e 6 fun l1=>
 A4 .i64 l1 fun x4 l3=>
 A4 .i64 l3 fun x7 l6=>
 AE l6 fun x8 l9=>
 AE l9 fun x10 l11=>
 A4 .i64 l11 fun x14 l13=>
 AE l13 fun x15 l16=>
 AQ l16 (
 AW (D 191 [.ptr a b,.int .i64 c,.agg [.int .i64 x4,.int .i64 x7,x8,x10,.int .i64 x14,x15]] J) fun u17 s18=>
 An u17 fun x19=>
 some ((V.bool x19),s18))
def OI (cc3:XC):XC:=(.z (.b 45 .lss .none (.t 44) (.t 43)<|
.nil)
 (.seq (.cond (.tmp 45) .skip
 Oe)
 (.seq (.block 1 (.z (.m 46 44<|
.s 47 11 42 44<|
.O 48 y9 (.load (some 11) (.t 47))<|
.pal 11 [] 191 [(V.str ⟨0,0⟩),y1,y3,y3,y1,y1,V.nils,V.nils,y1,V.nils,y1]<|
.m 10 46<|
.op none y9 [11,48] (.store 11 (.t 11) (.t 48))<|
.nil)
 (.z (.f 49 3 6<|
.l 50 .any 49<|
.m 51 10<|
.s 52 6 50 51<|
.O 53 y0 (.load (some 6) (.t 52))<|
.pal 12 [] 43 [y1,y1,V.nils,V.nils,y1,V.nils]<|
.op none y0 [12,53] (.store 6 (.t 12) (.t 53))<|
.nil)
 (.block 2 (.z (.f 55 0 12<|
.l 56 .i 55<|
.b 57 .eql .none (.t 56) (.i 0)<|
.m 54 57<|
.nil)
 (.cond (.tmp 54) (.z (.O 58 y0 (.load (some 6) (.t 12))<|
.k 59 .bool 188 [(.t 58)]<|
.P 60 (.un .not (.t 59))<|
.m 61 60<|
.gO 61 false (.op (some 62) y2 [9,61] (.load (some 13) (.t 9))<|
.p 63 [10,61] (.mov (.t 10))<|
.op (some 64) .bool [62,63,61] (.call 189 [(.t 62),(.t 63)])<|
.p 65 [64,61] (.un .not (.t 64))<|
.nil) 66 61 65<|
.nil)
 (.cond (.tmp 66) (.z (.c 8 y3<|
.nil)
 .ret)
 .skip))
 (.z (.m 68 0<|
.f 69 1 11<|
.l 70 .i 69<|
.O 71 y0 (.load (some 6) (.t 12))<|
.m 72 3<|
.b 73 .add .none (.t 72) (.i 1)<|
.k 74 .bool 59 [(.t 68),(.t 70),(.t 71),(.t 73)]<|
.P 75 (.un .not (.t 74))<|
.m 76 75<|
.gO 76 false (.p 77 [11,76] (.faddr 3 (.t 11))<|
.op (some 78) .bool [77,76] (.load none (.t 77))<|
.p 79 [78,76] (.mov (.t 78))<|
.grp 79 true (.op (some 80) y0 [12,79] (.load (some 6) (.t 12))<|
.p 81 [11,79] (.faddr 4 (.t 11))<|
.op (some 82) y0 [81,79] (.load (some 6) (.t 81))<|
.op (some 83) .bool [80,82,79] (.call 190 [(.t 80),(.t 82)])<|
.nil) 84 [79,83,76] (.t 79) (.t 83) (.con y3)<|
.nil) 85 76 84<|
.m 67 85<|
.nil)
 (.cond (.tmp 67) (.z (.c 8 y3<|
.nil)
 .ret)
 .skip))))))))
 (.keep MQ [9] MR cc3))))
def JC (E:EB) (D:Az) (W:AM) (K1:Nat->Nat->Int->Nat->Nat->H->AH) (K3:Nat->Nat->Int->Int->Nat->Nat->V->Int->Int->Int->V->Bool->Bool->Bool->Bool->Int->Int->V->V->Int->Bool->Int->H->AH) (a b:Nat) (c d:Int) (e f:Nat) (g:V) (h i j:Int) (k:V) (l m o p:Bool) (q r:Int) (s t:V) (u:Int) (v:Bool) (w:Int) (J:H):AH:=
 AS (Ep i h) (
 AT 11 g i fun b1 o2=>
 BQ E J b1 o2 11 fun l3=>
 Rx l3 fun x6 l5=>
 A4 .i64 l5 fun x9 l8=>
 De l8 fun x12 l11=>
 De l11 fun x15 l14=>
 A4 .i64 l14 fun x18 l17=>
 A4 .i64 l17 fun x21 l20=>
 AE l20 fun x22 l23=>
 AE l23 fun x24 l25=>
 A4 .i64 l25 fun x28 l27=>
 AE l27 fun x29 l30=>
 A4 .i64 l30 fun x33 l32=>
 AQ l32 (
 IT (allOne [.str x6,.int .i64 x9,.bool x12,.bool x15,.int .i64 x18,.int .i64 x21,x22,x24,.int .i64 x28,x29,.int .i64 x33]) (
 BL E J e (Ac f 3) fun u34=>
 AT 6 u34 i fun b35 o36=>
 BQ E J b35 o36 6 fun l37=>
 A4 .i64 l37 fun x40 l39=>
 A4 .i64 l39 fun x43 l42=>
 AE l42 fun x44 l45=>
 AE l45 fun x46 l47=>
 A4 .i64 l47 fun x50 l49=>
 AE l49 fun x51 l52=>
 AQ l52 (
 IT (allOne [.int .i64 x40,.int .i64 x43,x44,x46,.int .i64 x50,x51]) (
 AS (Cu x40 (AA 0)) (
 AW (D 188 [.agg [.int .i64 x40,.int .i64 x43,x44,x46,.int .i64 x50,x51]] J) fun u53 s54=>
 An u53 fun x55=>
 BR (fun c56 s57=>
 AS c56 (
 some ((V.bool false),s57)) (
 K3 a b c d e f g h i j k l m o p q r s t u v w s57)) fun k58=>
 AS (not x55) (
 k58 true s54) (
 AW (D 189 [.agg [.int .i64 j,k,.bool l,.bool m,.bool o,.bool p,.int .i64 q,.int .i64 r,s,t,.int .i64 u,.bool v,.int .i64 w],.int .i64 i] s54) fun u59 s60=>
 An u59 fun x61=>
 k58 (not x61) s60)) (
 AW (D 59 [.ptr a b,.int .i64 x9,.agg [.int .i64 x40,.int .i64 x43,x44,x46,.int .i64 x50,x51],.int .i64 (CU .i64 d (AA 1))] J) fun u62 s63=>
 An u62 fun x64=>
 BR (fun c65 s66=>
 AS c65 (
 some ((V.bool false),s66)) (
 K3 a b c d e f g h i j k l m o p q r s t u v w s66)) fun k67=>
 AS (not x64) (
 k67 true s63) (
 BR (fun c68 s69=>
 k67 c68 s69) fun k70=>
 AS x15 (
 AW (D 190 [.agg [.int .i64 x40,.int .i64 x43,x44,x46,.int .i64 x50,x51],.agg [.int .i64 x18,.int .i64 x21,x22,x24,.int .i64 x28,x29]] s63) fun u71 s72=>
 An u71 fun x73=>
 k70 x73 s72) (
 k70 false s63)))))))) (
 K1 a b c e f J)
def Ke:XC:=(.ops (.b 86 .add .none (.t 44) (.i 1)<|
.m 44 86<|
.nil))
def Q3 (E:EB) (D:Az) (W:AM) (R2:Nat->Nat->Int->Int->Nat->Nat->V->Int->Int->Int->V->Bool->Bool->Bool->Bool->Int->Int->V->V->Int->Bool->Int->H->AH) (a b:Nat) (c d:Int) (e f:Nat) (g:V) (h i j:Int) (k:V) (l m o p:Bool) (q r:Int) (s t:V) (u:Int) (v:Bool) (w:Int) (J:H):AH:=
 R2 a b c d e f g h (CU .i64 i (AA 1)) j k l m o p q r s t u v w J
def ir (a b:Nat) (c d e:Int) (f g:V) (h:Int) (i:V) (j:Int) (J:H):St:=⟨[(0,.ptr a b),(1,.int .i64 c),(2,.agg [.int .i64 d,.int .i64 e,f,g,.int .i64 h,i]),(3,.int .i64 j)],[],[],J⟩
def iq (a b:Nat) (c:Int) (d e:Nat) (J:H):St:=⟨[(0,.ptr a b),(1,.int .i64 c),(6,.ptr d e)],[],[],J⟩
def KU (a b:Nat) (c d:Int) (e f:Nat) (g:V) (h i j:Int) (k:V) (l m o p:Bool) (q r:Int) (s t:V) (u:Int) (v:Bool) (w:Int) (J:H):St:=⟨[(0,.ptr a b),(1,.int .i64 c),(3,.int .i64 d),(6,.ptr e f),(42,g),(43,.int .i64 h),(44,.int .i64 i)],[(9,(9,0))],[(9,[.int .i64 j,k,.bool l,.bool m,.bool o,.bool p,.int .i64 q,.int .i64 r,s,t,.int .i64 u,.bool v,.int .i64 w])],J⟩
theorem wT (cc1:XC) (cc2:XC) (a b:Nat) (c d e:Int) (f g:V) (h:Int) (i:V) (j:Int) (J:H) :
 AU E D W N (Yd cc1 cc2) (ir a b c d e f g h i j J) (Ex E) nX (Ex E) =
 Nm E D W (fun a b c j k l m o p q r s t u v w x y z B I M J=>Aw (fun rec s'=>AU E D W N cc2 s' (kX MQ [9] MR rec) (Qe E D W N cc1) (Ex E)) N (KU a b c j k l m o p q r s t u v w x y z B I M J)) a b c d e f g h i j J:=by kernel_rfl
theorem wS (cc1:XC) (cc3:XC) (li2:St->AH) (a b:Nat) (c d:Int) (e f:Nat) (g:V) (h i j:Int) (k:V) (l m o p:Bool) (q r:Int) (s t:V) (u:Int) (v:Bool) (w:Int) (J:H) :
 AU E D W N (OI cc3) (KU a b c d e f g h i j k l m o p q r s t u v w J) (kX MQ [9] MR li2) (Qe E D W N cc1) (Ex E) =
 JC E D W (fun a b c e f J=>AU E D W N cc1 (iq a b c e f J) (Ex E) nX (Ex E)) (fun a b c d e f g h i j k l m o p q r s t u v w J=>AU E D W N cc3 (KU a b c d e f g h i j k l m o p q r s t u v w J) (kX MQ [9] MR li2) (Qe E D W N cc1) (Ex E)) a b c d e f g h i j k l m o p q r s t u v w J:=by kernel_rfl
theorem wR (cc1:XC) (li2:St->AH) (a b:Nat) (c d:Int) (e f:Nat) (g:V) (h i j:Int) (k:V) (l m o p:Bool) (q r:Int) (s t:V) (u:Int) (v:Bool) (w:Int) (J:H) :
 AU E D W N (Ke ) (KU a b c d e f g h i j k l m o p q r s t u v w J) (kX MQ [9] MR li2) (Qe E D W N cc1) (Ex E) =
 Q3 E D W (fun a b c d e f g h i j k l m o p q r s t u v w J=>li2 (KU a b c d e f g h i j k l m o p q r s t u v w J)) a b c d e f g h i j k l m o p q r s t u v w J:=by kernel_rfl
def Uf (E:EB) (D:Az) (W:AM) (N:Nat):=Xb E D W
theorem qK (a b:Nat) (c:Int) (d e:Nat) (J:H) :
 AU E D W N JM (iq a b c d e J) (Ex E) nX (Ex E)=Uf E D W N a b c d e J:=by kernel_rfl
def jr (E:EB) (D:Az) (W:AM) (N:Nat) (R2:Nat->Nat->Int->Int->Nat->Nat->V->Int->Int->Int->V->Bool->Bool->Bool->Bool->Int->Int->V->V->Int->Bool->Int->H->AH):=Q3 E D W R2
theorem qJ (li2:St->AH) (a b:Nat) (c d:Int) (e f:Nat) (g:V) (h i j:Int) (k:V) (l m o p:Bool) (q r:Int) (s t:V) (u:Int) (v:Bool) (w:Int) (J:H) :
 AU E D W N Ke (KU a b c d e f g h i j k l m o p q r s t u v w J) (kX MQ [9] MR li2) (Qe E D W N JM) (Ex E)=jr E D W N (fun a b c d e f g h i j k l m o p q r s t u v w J=>li2 (KU a b c d e f g h i j k l m o p q r s t u v w J)) a b c d e f g h i j k l m o p q r s t u v w J:=by
 refine(wR E D W N JM li2 a b c d e f g h i j k l m o p q r s t u v w J).trans ?_
 kernel_rfl
def RN (n:Nat):Nat->Nat->Int->Int->Nat->Nat->V->Int->Int->Int->V->Bool->Bool->Bool->Bool->Int->Int->V->V->Int->Bool->Int->H->AH:=
 Nat.rec (fun _ _ _ _ _ _ _ _ _ _ _ _ _ _ _ _ _ _ _ _ _ _ _=>none) (fun _ ih=>JC E D W (Uf E D W N ) (jr E D W N ih)) n
theorem pG (n:Nat):∀(a b:Nat) (c d:Int) (e f:Nat) (g:V) (h i j:Int) (k:V) (l m o p:Bool) (q r:Int) (s t:V) (u:Int) (v:Bool) (w:Int) (J:H),
 Aw (fun rec s'=>AU E D W N (OI Ke) s' (kX MQ [9] MR rec) (Qe E D W N JM) (Ex E)) n (KU a b c d e f g h i j k l m o p q r s t u v w J)=RN E D W N n a b c d e f g h i j k l m o p q r s t u v w J:=by
 induction n with
 | zero=>intro a b c d e f g h i j k l m o p q r s t u v w J;rfl
 | succ n ihn=>
  intro a b c d e f g h i j k l m o p q r s t u v w J
  rw[BB]
  refine(wS E D W N JM Ke (Aw (fun rec s'=>AU E D W N (OI Ke) s' (kX MQ [9] MR rec) (Qe E D W N JM) (Ex E)) n) a b c d e f g h i j k l m o p q r s t u v w J).trans ?_
  simp only[ihn,qK,qJ]
  kernel_rfl
def js:=Nm E D W (RN E D W N N)
theorem qL (a b:Nat) (c d e:Int) (f g:V) (h:Int) (i:V) (j:Int) (J:H) :
 AU E D W N (Yd JM (OI Ke)) (ir a b c d e f g h i j J) (Ex E) nX (Ex E)=js E D W N a b c d e f g h i j J:=by
 refine(wT E D W N JM (OI Ke)  a b c d e f g h i j J).trans ?_
 simp only[pG]
 kernel_rfl
def YN (args:List V) (J:H):AH:=
 AE args fun x1 l2=>
 Ar x1 fun b3 o4=>
 A4 .i64 l2 fun x7 l6=>
 AE l6 fun x8 l9=>
 Cw x8 fun l10=>
 A4 .i64 l10 fun x13 l12=>
 A4 .i64 l12 fun x16 l15=>
 AE l15 fun x17 l18=>
 AE l18 fun x19 l20=>
 A4 .i64 l20 fun x23 l22=>
 AE l22 fun x24 l25=>
 AQ l25 (
 A4 .i64 l9 fun x28 l27=>
 AQ l27 (
 js E D W N b3 o4 x7 x13 x16 x17 x19 x23 x24 x28 J))
def AIu:DV:=⟨91,[.ptr,.i,y0,.i],[(.tmp 8)],(Yd JM (OI Ke))⟩
theorem AC8 (args:List V) (J:H):Br E D W N AIu args J=YN E D W N args J:=by
 unfold YN
 simp only[<-qL]
 kernel_rfl
def yX:XC:=(.z (.c 4 y3<|
.nil)
 (.z (.m 5 0<|
.m 6 1<|
.k 7 .i 192 [(.t 5),(.t 6)]<|
.b 8 .geq .none (.t 7) (.i 0)<|
.m 4 8<|
.nil)
 .ret))
def Xa (E:EB) (D:Az) (W:AM) (a b:V) (J:H):AH:=
 AW (D 192 [a,b] J) fun u1 s2=>
 Ah .i64 u1 fun x3=>
 some ((V.bool (Hk (AA 0) x3)),s2)
def kP (N:Nat) (args:List V) (J:H):AH:=
 AE args fun x1 l2=>
 AE l2 fun x3 l4=>
 AQ l4 (
 Xa E D W x1 x3 J)
def AIt:DV:=⟨9,lB,[(.tmp 4)],yX⟩
theorem AC7 (args:List V) (J:H):Br E D W N AIt args J=kP E D W N args J:=by kernel_rfl
def yW:XC:=(.z (.P 2 (.box 43 (.t 0))<|
.c 3 y3<|
.nil)
 (.z (.O 4 y0 (.load (some 6) (.t 2))<|
.l 5 .i 1<|
.k 6 .bool 61 [(.t 4),(.t 5)]<|
.P 7 (.un .not (.t 6))<|
.m 3 7<|
.nil)
 .ret))
def XZ (E:EB) (D:Az) (W:AM) (a b:Int) (c d:V) (e:Int) (f g:V) (J:H):AH:=
 G9 [.int .i64 a,.int .i64 b,c,d,.int .i64 e,f] J fun s1=>
 BQ E s1 (H.next J) 0 6 fun l2=>
 A4 .i64 l2 fun x5 l4=>
 A4 .i64 l4 fun x8 l7=>
 AE l7 fun x9 l10=>
 AE l10 fun x11 l12=>
 A4 .i64 l12 fun x15 l14=>
 AE l14 fun x16 l17=>
 AQ l17 (
 Ar g fun b18 o19=>
 BL E s1 b18 o19 fun u20=>
 Ah .i64 u20 fun x21=>
 AW (D 61 [.agg [.int .i64 x5,.int .i64 x8,x9,x11,.int .i64 x15,x16],.int .i64 x21] s1) fun u22 s23=>
 An u22 fun x24=>
 some ((V.bool (not x24)),s23))
def bq (N:Nat) (args:List V) (J:H):AH:=
 AE args fun x1 l2=>
 Cw x1 fun l3=>
 A4 .i64 l3 fun x6 l5=>
 A4 .i64 l5 fun x9 l8=>
 AE l8 fun x10 l11=>
 AE l11 fun x12 l13=>
 A4 .i64 l13 fun x16 l15=>
 AE l15 fun x17 l18=>
 AQ l18 (
 AE l2 fun x19 l20=>
 AQ l20 (
 XZ E D W x6 x9 x10 x12 x16 x17 x19 J))
def AIs:DV:=⟨8,[y0,.any],[(.tmp 3)],yW⟩
theorem AC6 (args:List V) (J:H):Br E D W N AIs args J=bq E D W N args J:=by kernel_rfl
def yV:XC:=(.z (.m 4 1<|
.nil)
 (.cond (.tmp 4) (.ops (.m 5 0<|
.n 6 5<|
.f 7 0 6<|
.l 8 .any 7<|
.k 9 y6 193 [(.t 8),lI,(.i 1)]<|
.nil))
 (.ops (.m 10 0<|
.n 11 10<|
.f 12 0 11<|
.l 13 .any 12<|
.k 14 y6 193 [(.t 13),(.con (V.int .u64 Rv)),(.i 1)]<|
.nil))))
def Q2 (E:EB) (D:Az) (W:AM) (a b:Nat) (c:Bool) (J:H):AH:=
 AS c (
 BL E J a b fun u1=>
 AW (D 193 [u1,.int .u64 (AA 1),.int .i64 (AA 1)] J) fun u2 s3=>
 Bc u2 fun l4=>
 AQ l4 (
 some ((V.tup []),s3))) (
 BL E J a b fun u5=>
 AW (D 193 [u5,.int .u64 (AA 0),.int .i64 (AA 1)] J) fun u6 s7=>
 Bc u6 fun l8=>
 AQ l8 (
 some ((V.tup []),s7)))
def kO (N:Nat) (args:List V) (J:H):AH:=
 AE args fun x1 l2=>
 Ar x1 fun b3 o4=>
 De l2 fun x7 l6=>
 AQ l6 (
 Q2 E D W b3 o4 x7 J)
def AIr:DV:=⟨15,[.ptr,.bool],[],yV⟩
theorem AC5 (args:List V) (J:H):Br E D W N AIr args J=kO E D W N args J:=by kernel_rfl
def U6:List (Nat × DM):=[(0,.any),(4,.any),(11,.any),(12,.i),(13,.i)]
def G7 (E:EB):St->AH:=fun s=>EA E s [] fun l=>some (EW l,s.J)
def Yc (cc1:XC):XC:=(.z (.m 7 1<|
.k 8 .one 198 [(.t 7)]<|
.m 4 8<|
.nil)
 (.z (.m 9 4<|
.u 10 9<|
.k 11 .one 199 [(.t 10)]<|
.u 12 11<|
.q 13 0<|
.nil)
 (.block 0 (.loop U6 [] [] cc1))))
def KN (E:EB) (D:Az) (W:AM) (K1:V->V->V->Int->Int->H->AH) (a b:V) (J:H):AH:=
 AW (D 198 [b] J) fun u1 s2=>
 Cm u1 (
 BA u1 fun n3=>
 AW (D 199 [.int .i64 (AA n3)] s2) fun u4 s5=>
 Cm u4 (
 BA u4 fun n6=>
 K1 a u1 u4 (AA n6) (AA 0) s5))
def OH:XC:=(.z (.b 14 .lss .none (.t 13) (.t 12)<|
.nil)
 (.seq (.cond (.tmp 14) .skip
 Oe)
 (.seq (.block 1 (.z (.s 15 1 11 13<|
.l 16 .i 15<|
.m 6 16<|
.nil)
 (.z (.m 17 0<|
.m 18 6<|
.m 19 6<|
.b 20 .geq .none (.t 19) (.i 16384)<|
.k 21 y6 200 [(.t 17),(.t 18),(.t 20)]<|
.nil)
 (.z (.m 22 0<|
.m 23 4<|
.m 24 6<|
.p 25 [23,24] (.sliceSl 1 (.t 23) none (some (.t 24)) none)<|
.k 26 y6 124 [(.t 22),(.t 25)]<|
.nil)
 (.ops (.m 27 4<|
.m 28 6<|
.p 29 [27,28] (.sliceSl 1 (.t 27) (some (.t 28)) none none)<|
.m 4 29<|
.nil))))))
 (.ops (.b 30 .add .none (.t 13) (.i 1)<|
.m 13 30<|
.nil)))))
def Fb (E:EB) (D:Az) (W:AM) (R1:V->V->V->Int->Int->H->AH) (a b c:V) (d e:Int) (J:H):AH:=
 AS (Ep e d) (
 AT 1 c e fun b1 o2=>
 BL E J b1 o2 fun u3=>
 Ah .i64 u3 fun x4=>
 AW (D 200 [a,.int .i64 x4,.bool (Hk (AA 16384) x4)] J) fun u5 s6=>
 Bc u5 fun l7=>
 AQ l7 (
 gK (CP 1 b none (some (V.int .i64 x4)) none) fun u8=>
 AW (D 124 [a,u8] s6) fun u9 s10=>
 Bc u9 fun l11=>
 AQ l11 (
 gK (CP 1 b (some (V.int .i64 x4)) none none) fun u12=>
 R1 a u12 c d (CU .i64 e (AA 1)) s10))) (
 some ((V.tup []),J))
def im (a b:V) (J:H):St:=⟨[(0,a),(1,b)],[],[],J⟩
def US (a b c:V) (d e:Int) (J:H):St:=⟨[(0,a),(4,b),(11,c),(12,.int .i64 d),(13,.int .i64 e)],[],[],J⟩
theorem wQ (cc1:XC) (a b:V) (J:H) :
 AU E D W N (Yc cc1) (im a b J) (G7 E) nX (G7 E) =
 KN E D W (fun a c d e f J=>Aw (fun rec s'=>AU E D W N cc1 s' (kX U6 [] [] rec) (Bn 0 (G7 E) nX) (G7 E)) N (US a c d e f J)) a b J:=by kernel_rfl
theorem wP (li1:St->AH) (a b c:V) (d e:Int) (J:H) :
 AU E D W N (OH ) (US a b c d e J) (kX U6 [] [] li1) (Bn 0 (G7 E) nX) (G7 E) =
 Fb E D W (fun a b c d e J=>li1 (US a b c d e J)) a b c d e J:=by kernel_rfl
def Ue (E:EB) (D:Az) (W:AM) (N:Nat) (n:Nat):V->V->V->Int->Int->H->AH:=
 Nat.rec (fun _ _ _ _ _ _=>none) (fun _ ih=>Fb E D W ih) n
theorem pF (n:Nat):∀(a b c:V) (d e:Int) (J:H),
 Aw (fun rec s'=>AU E D W N OH s' (kX U6 [] [] rec) (Bn 0 (G7 E) nX) (G7 E)) n (US a b c d e J)=Ue E D W N n a b c d e J:=by
 induction n with
 | zero=>intro a b c d e J;rfl
 | succ n ihn=>
  intro a b c d e J
  rw[BB]
  refine(wP E D W N  (Aw (fun rec s'=>AU E D W N OH s' (kX U6 [] [] rec) (Bn 0 (G7 E) nX) (G7 E)) n) a b c d e J).trans ?_
  simp only[ihn]
  kernel_rfl
def jq:=KN E D W (Ue E D W N N)
theorem qI (a b:V) (J:H) :
 AU E D W N (Yc OH) (im a b J) (G7 E) nX (G7 E)=jq E D W N a b J:=by
 refine(wQ E D W N OH  a b J).trans ?_
 simp only[pF]
 kernel_rfl
def YM (args:List V) (J:H):AH:=
 AE args fun x1 l2=>
 AE l2 fun x3 l4=>
 AQ l4 (
 jq E D W N x1 x3 J)
def AIq:DV:=⟨31,lB,[],(Yc OH)⟩
theorem AC4 (args:List V) (J:H):Br E D W N AIq args J=YM E D W N args J:=by
 unfold YM
 simp only[<-qI]
 kernel_rfl
def yU:XC:=(.z (.m 4 0<|
.b 5 .neq .ptr (.t 4) Z5<|
.nil)
 (.cond (.tmp 5) (.ops (.m 6 0<|
.n 7 6<|
.f 8 0 7<|
.m 9 1<|
.p 10 [9] (.buildSlice 23 1 [V.nils] [(0,1,(.t 9))])<|
.k 11 y6 201 [(.t 8),(.t 10)]<|
.nil))
 .skip))
def Q1 (E:EB) (D:Az) (W:AM) (a b:V) (J:H):AH:=
 SV .ptr a V.nilp fun c1=>
 AS (not c1) (
 Ar a fun b2 o3=>
 HA [(0,1,b)] [V.nils] fun l4=>
 IT (allOne l4) (
 let s5:=DR J (.cells l4);
 AW (D 201 [.ptr b2 o3,.sl (H.next J) 0 1 (.ex 1)] s5) fun u6 s7=>
 Bc u6 fun l8=>
 AQ l8 (
 some ((V.tup []),s7)))) (
 some ((V.tup []),J))
def bp (N:Nat) (args:List V) (J:H):AH:=
 AE args fun x1 l2=>
 AE l2 fun x3 l4=>
 AQ l4 (
 Q1 E D W x1 x3 J)
def AIp:DV:=⟨12,lB,[],yU⟩
theorem AC3 (args:List V) (J:H):Br E D W N AIp args J=bp E D W N args J:=by kernel_rfl
def U5:List (Nat × DM):=[(0,.ptr),(1,.i),(5,.ptr),(6,.ptr),(7,.any),(8,.any),(26,.any),(27,.i),(28,.i)]
def qu:List (Nat × DM):=[(0,.ptr),(1,.i),(5,.ptr),(6,.ptr),(7,.any),(8,.any),(11,.bool)]
def qt:List (Nat × DM):=[(0,.ptr),(1,.i),(5,.ptr),(6,.ptr),(7,.any),(8,.any)]
def N1:List BY:=[⟨(some 52),.mov (.tmp 0),none⟩,⟨(some 53),.load (some 13) (.tmp 6),none⟩,⟨(some 54),.load (some 6) (.tmp 5),none⟩,⟨(some 55),.mov (.tmp 0),none⟩,⟨(some 56),.nilck (.tmp 55),none⟩,⟨(some 57),.faddr 1 (.tmp 56),none⟩,⟨(some 58),.load (some 4) (.tmp 57),none⟩,⟨(some 59),.mov (.tmp 1),none⟩,⟨(some 60),.call 103 [(.tmp 58),(.tmp 59)],none⟩,⟨(some 61),.faddr 10 (.tmp 6),none⟩,⟨(some 62),.load none (.tmp 61),none⟩,⟨(some 63),.sliceSl 1 (.tmp 60) none (some (.tmp 62)) none,none⟩,⟨(some 64),.call 207 [(.tmp 52),(.tmp 53),(.tmp 54),(.tmp 63)],none⟩]
def RU:List DP:=[⟨0,[0]⟩,⟨0,[6]⟩,⟨0,[5]⟩,⟨0,[0]⟩,⟨8,[55]⟩,⟨24,[56]⟩,⟨56,[57]⟩,⟨0,[1]⟩,⟨248,[58,59]⟩,⟨0,[6]⟩,⟨512,[61]⟩,⟨2040,[60,62]⟩,⟨4095,[52,53,54,63]⟩]
def EL (E:EB):St->AH:=fun s=>EA E s [] fun l=>some (EW l,s.J)
def ZM (c0:XC):Nat->St->AH:=Bn 0 (dX E D W N (.keep qt [] [] c0) (EL E) nX (EL E)) nX
def Yb (cc1:XC) (cc2:XC):XC:=(.z (.P 5 (.box 43 (.t 2))<|
.nil)
 (.z (.m 12 0<|
.n 13 12<|
.f 14 1 13<|
.f 15 3 14<|
.l 16 .any 15<|
.m 17 1<|
.s 18 13 16 17<|
.O 19 y2 (.load (some 13) (.t 18))<|
.p 6 [] y7<|
.op none y2 [6,19] (.store 13 (.t 6) (.t 19))<|
.nil)
 (.z (.m 20 0<|
.n 21 20<|
.f 22 1 21<|
.O 23 y4 (.load (some 4) (.t 22))<|
.m 24 1<|
.k 25 .one 176 [(.t 23),(.t 24)]<|
.m 7 25<|
.nil)
 (.z (.c 8 V.nils<|
.nil)
 (.seq (.z (.m 26 7<|
.u 27 26<|
.q 28 0<|
.nil)
 (.block 0 (.loop U5 [] [] cc2)))
 (.keep qt [] [] cc1))))))
def Q0 (E:EB) (D:Az) (W:AM) (K2:Nat->Nat->Int->Nat->Nat->Nat->Nat->V->V->V->Int->Int->H->AH) (a b:Nat) (c d e:Int) (f g:V) (h:Int) (i:V) (J:H):AH:=
 G9 [.int .i64 d,.int .i64 e,f,g,.int .i64 h,i] J fun s1=>
 BL E s1 a (Ac (Ac b 1) 3) fun u2=>
 AT 13 u2 c fun b3 o4=>
 BQ E s1 b3 o4 13 fun l5=>
 A4 .i64 l5 fun x8 l7=>
 AE l7 fun x9 l10=>
 De l10 fun x13 l12=>
 De l12 fun x16 l15=>
 De l15 fun x19 l18=>
 De l18 fun x22 l21=>
 A4 .i64 l21 fun x25 l24=>
 A4 .i64 l24 fun x28 l27=>
 AE l27 fun x29 l30=>
 AE l30 fun x31 l32=>
 A4 .i64 l32 fun x35 l34=>
 De l34 fun x38 l37=>
 A4 .i64 l37 fun x41 l40=>
 AQ l40 (
 let s42:=DR s1 (.cells [.int .i64 (AA 0),V.nils,.bool false,.bool false,.bool false,.bool false,.int .i64 (AA 0),.int .i64 (AA 0),V.nils,V.nils,.int .i64 (AA 0),.bool false,.int .i64 (AA 0)]);
 Dt 13 (H.next s1) 0 (V.agg [.int .i64 x8,x9,.bool x13,.bool x16,.bool x19,.bool x22,.int .i64 x25,.int .i64 x28,x29,x31,.int .i64 x35,.bool x38,.int .i64 x41]) s42 fun s43=>
 BQ E s43 a (Ac b 1) 4 fun l44=>
 Rx l44 fun x47 l46=>
 AE l46 fun x48 l49=>
 AE l49 fun x50 l51=>
 AE l51 fun x52 l53=>
 AQ l53 (
 AW (D 176 [.agg [.str x47,x48,x50,x52],.int .i64 c] s43) fun u54 s55=>
 Cm u54 (
 BA u54 fun n56=>
 K2 a b c (H.next J) 0 (H.next s1) 0 u54 V.nils u54 (AA n56) (AA 0) s55)))
def Kd (cc3:XC):XC:=(.z (.f 39 5 5<|
.l 40 .any 39<|
.u 41 40<|
.b 42 .gtr .none (.t 41) (.i 0)<|
.m 43 42<|
.gO 43 false (.p 44 [8,43] (.mov (.t 8))<|
.op (some 45) .bool [44,43] (.call 206 [(.t 44),(.con TC)])<|
.nil) 46 43 45<|
.m 11 46<|
.nil)
 (.seq (.z (.f 47 11 6<|
.l 48 .bool 47<|
.nil)
 (.cond (.tmp 48) (.ops (.m 49 0<|
.m 50 11<|
.k 51 y6 118 [(.t 49),(.t 50)]<|
.nil))
 .skip))
 (.keep qu [] [] cc3)))
def Nk (E:EB) (D:Az) (W:AM) (K3:Nat->Nat->Int->Nat->Nat->Nat->Nat->V->V->Bool->H->AH) (a b:Nat) (c:Int) (d e f g:Nat) (h i:V) (J:H):AH:=
 BL E J d (Ac e 5) fun u1=>
 BA u1 fun n2=>
 BR (fun c3 s4=>
 BL E s4 f (Ac g 11) fun u6=>
 An u6 fun x7=>
 AS x7 (
 AW (D 118 [.ptr a b,.bool c3] s4) fun u8 s9=>
 Bc u8 fun l10=>
 AQ l10 (
 K3 a b c d e f g h i c3 s9)) (
 K3 a b c d e f g h i c3 s4)) fun k5=>
 AS (Ep (AA 0) (AA n2)) (
 k5 true J) (
 AW (D 206 [i,.bool true] J) fun u11 s12=>
 An u11 fun x13=>
 k5 x13 s12)
def OG:XC:=(.z (.b 29 .lss .none (.t 28) (.t 27)<|
.nil)
 (.seq (.cond (.tmp 29) .skip
 Oe)
 (.seq (.block 1 (.z (.s 30 1 26 28<|
.l 31 .any 30<|
.m 10 31<|
.nil)
 (.ops (.m 32 8<|
.m 33 10<|
.p 34 [5] (.mkfn 205 [] [(.t 5)])<|
.k 35 .bool 204 [(.t 33),(.t 34)]<|
.p 36 [35] (.buildSlice 4 1 [y3] [(0,1,(.t 35))])<|
.O 37 .one (.append 4 1 1 (.t 32) (.t 36))<|
.m 8 37<|
.nil))))
 (.ops (.b 38 .add .none (.t 28) (.i 1)<|
.m 28 38<|
.nil)))))
def Nj (E:EB) (D:Az) (W:AM) (K1:Nat->Nat->Int->Nat->Nat->Nat->Nat->V->V->H->AH) (R2:Nat->Nat->Int->Nat->Nat->Nat->Nat->V->V->V->Int->Int->H->AH) (a b:Nat) (c:Int) (d e f g:Nat) (h i j:V) (k l:Int) (J:H):AH:=
 AS (Ep l k) (
 AT 1 j l fun b1 o2=>
 BL E J b1 o2 fun u3=>
 AW (D 204 [u3,.fn 205 [] [.ptr d e]] J) fun u4 s5=>
 An u4 fun x6=>
 let s7:=DR s5 (.cells [.bool x6]);
 Ee E 1 1 i (V.sl (H.next s5) 0 1 (.ex 1)) s7 fun u8 s9=>
 Cm u8 (
 R2 a b c d e f g h u8 j k (CU .i64 l (AA 1)) s9)) (
 K1 a b c d e f g h i J)
def JK:XC:=(.seq (.keep qu [] [] (.gdraw N1 RU [(0,.ptr),(5,.ptr),(6,.ptr),(7,.any),(8,.any),(11,.bool)]))
 (.z (.m 65 11<|
.nil)
 (.cond (.tmp 65) (.ops (.m 66 0<|
.O 67 y2 (.load (some 13) (.t 6))<|
.O 68 y0 (.load (some 6) (.t 5))<|
.m 69 7<|
.m 70 8<|
.k 71 y6 208 [(.t 66),(.t 67),(.t 68),(.t 69),(.t 70)]<|
.nil))
 .skip)))
def Tx (a b:Nat) (c:Int) (d e f g:Nat) (h i:V) (j:Bool) (J:H):AH:=
 DA (W N1 RU [(0,.ptr a b),(1,.int .i64 c),(5,.ptr d e),(6,.ptr f g),(7,h),(8,i),(11,.bool j)] J) fun e1 s2=>
 BW e1 0 fun u3=>
 Ar u3 fun b4 o5=>
 BW e1 5 fun u6=>
 Ar u6 fun b7 o8=>
 BW e1 6 fun u9=>
 Ar u9 fun b10 o11=>
 BW e1 7 fun u12=>
 BW e1 8 fun u13=>
 BW e1 11 fun u14=>
 An u14 fun x15=>
 AS x15 (
 BQ E s2 b10 o11 13 fun l16=>
 A4 .i64 l16 fun x19 l18=>
 AE l18 fun x20 l21=>
 De l21 fun x24 l23=>
 De l23 fun x27 l26=>
 De l26 fun x30 l29=>
 De l29 fun x33 l32=>
 A4 .i64 l32 fun x36 l35=>
 A4 .i64 l35 fun x39 l38=>
 AE l38 fun x40 l41=>
 AE l41 fun x42 l43=>
 A4 .i64 l43 fun x46 l45=>
 De l45 fun x49 l48=>
 A4 .i64 l48 fun x52 l51=>
 AQ l51 (
 BQ E s2 b7 o8 6 fun l53=>
 A4 .i64 l53 fun x56 l55=>
 A4 .i64 l55 fun x59 l58=>
 AE l58 fun x60 l61=>
 AE l61 fun x62 l63=>
 A4 .i64 l63 fun x66 l65=>
 AE l65 fun x67 l68=>
 AQ l68 (
 AW (D 208 [.ptr b4 o5,.agg [.int .i64 x19,x20,.bool x24,.bool x27,.bool x30,.bool x33,.int .i64 x36,.int .i64 x39,x40,x42,.int .i64 x46,.bool x49,.int .i64 x52],.agg [.int .i64 x56,.int .i64 x59,x60,x62,.int .i64 x66,x67],u12,u13] s2) fun u69 s70=>
 Bc u69 fun l71=>
 AQ l71 (
 some ((V.tup []),s70))))) (
 some ((V.tup []),s2))
def il (a b:Nat) (c d e:Int) (f g:V) (h:Int) (i:V) (J:H):St:=⟨[(0,.ptr a b),(1,.int .i64 c),(2,.agg [.int .i64 d,.int .i64 e,f,g,.int .i64 h,i])],[],[],J⟩
def X4 (a b:Nat) (c:Int) (d e f g:Nat) (h i:V) (J:H):St:=⟨[(0,.ptr a b),(1,.int .i64 c),(5,.ptr d e),(6,.ptr f g),(7,h),(8,i)],[],[],J⟩
def UR (a b:Nat) (c:Int) (d e f g:Nat) (h i j:V) (k l:Int) (J:H):St:=⟨[(0,.ptr a b),(1,.int .i64 c),(5,.ptr d e),(6,.ptr f g),(7,h),(8,i),(26,j),(27,.int .i64 k),(28,.int .i64 l)],[],[],J⟩
def ik (a b:Nat) (c:Int) (d e f g:Nat) (h i:V) (j:Bool) (J:H):St:=⟨[(0,.ptr a b),(1,.int .i64 c),(5,.ptr d e),(6,.ptr f g),(7,h),(8,i),(11,.bool j)],[],[],J⟩
theorem wO (cc1:XC) (cc2:XC) (a b:Nat) (c d e:Int) (f g:V) (h:Int) (i:V) (J:H) :
 AU E D W N (Yb cc1 cc2) (il a b c d e f g h i J) (EL E) nX (EL E) =
 Q0 E D W (fun a b c j k l m o p q r s J=>Aw (fun rec s'=>AU E D W N cc2 s' (kX U5 [] [] rec) (ZM E D W N cc1) (EL E)) N (UR a b c j k l m o p q r s J)) a b c d e f g h i J:=by kernel_rfl
theorem wN (cc3:XC) (a b:Nat) (c:Int) (d e f g:Nat) (h i:V) (J:H) :
 AU E D W N (Kd cc3) (X4 a b c d e f g h i J) (EL E) nX (EL E) =
 Nk E D W (fun a b c d e f g h i j J=>AU E D W N cc3 (ik a b c d e f g h i j J) (EL E) nX (EL E)) a b c d e f g h i J:=by kernel_rfl
theorem wM (cc1:XC) (li2:St->AH) (a b:Nat) (c:Int) (d e f g:Nat) (h i j:V) (k l:Int) (J:H) :
 AU E D W N (OG ) (UR a b c d e f g h i j k l J) (kX U5 [] [] li2) (ZM E D W N cc1) (EL E) =
 Nj E D W (fun a b c d e f g h i J=>AU E D W N cc1 (X4 a b c d e f g h i J) (EL E) nX (EL E)) (fun a b c d e f g h i j k l J=>li2 (UR a b c d e f g h i j k l J)) a b c d e f g h i j k l J:=by kernel_rfl
def jn (E:EB) (D:Az) (W:AM) (N:Nat):=Tx E D W
theorem qF (a b:Nat) (c:Int) (d e f g:Nat) (h i:V) (j:Bool) (J:H) :
 AU E D W N JK (ik a b c d e f g h i j J) (EL E) nX (EL E)=jn E D W N a b c d e f g h i j J:=by kernel_rfl
def YF:=Nk E D W (jn E D W N )
theorem qG (a b:Nat) (c:Int) (d e f g:Nat) (h i:V) (J:H) :
 AU E D W N (Kd JK) (X4 a b c d e f g h i J) (EL E) nX (EL E)=YF E D W N a b c d e f g h i J:=by
 refine(wN E D W N JK  a b c d e f g h i J).trans ?_
 simp only[qF]
 kernel_rfl
def Ud (n:Nat):Nat->Nat->Int->Nat->Nat->Nat->Nat->V->V->V->Int->Int->H->AH:=
 Nat.rec (fun _ _ _ _ _ _ _ _ _ _ _ _ _=>none) (fun _ ih=>Nj E D W (YF E D W N ) ih) n
theorem pE (n:Nat):∀(a b:Nat) (c:Int) (d e f g:Nat) (h i j:V) (k l:Int) (J:H),
 Aw (fun rec s'=>AU E D W N OG s' (kX U5 [] [] rec) (ZM E D W N (Kd JK)) (EL E)) n (UR a b c d e f g h i j k l J)=Ud E D W N n a b c d e f g h i j k l J:=by
 induction n with
 | zero=>intro a b c d e f g h i j k l J;rfl
 | succ n ihn=>
  intro a b c d e f g h i j k l J
  rw[BB]
  refine(wM E D W N (Kd JK) (Aw (fun rec s'=>AU E D W N OG s' (kX U5 [] [] rec) (ZM E D W N (Kd JK)) (EL E)) n) a b c d e f g h i j k l J).trans ?_
  simp only[ihn,qG]
  kernel_rfl
def jo:=Q0 E D W (Ud E D W N N)
theorem qH (a b:Nat) (c d e:Int) (f g:V) (h:Int) (i:V) (J:H) :
 AU E D W N (Yb (Kd JK) OG) (il a b c d e f g h i J) (EL E) nX (EL E)=jo E D W N a b c d e f g h i J:=by
 refine(wO E D W N (Kd JK) OG  a b c d e f g h i J).trans ?_
 simp only[pE]
 kernel_rfl
def YL (args:List V) (J:H):AH:=
 AE args fun x1 l2=>
 Ar x1 fun b3 o4=>
 A4 .i64 l2 fun x7 l6=>
 AE l6 fun x8 l9=>
 Cw x8 fun l10=>
 A4 .i64 l10 fun x13 l12=>
 A4 .i64 l12 fun x16 l15=>
 AE l15 fun x17 l18=>
 AE l18 fun x19 l20=>
 A4 .i64 l20 fun x23 l22=>
 AE l22 fun x24 l25=>
 AQ l25 (
 AQ l9 (
 jo E D W N b3 o4 x7 x13 x16 x17 x19 x23 x24 J))
def AIo:DV:=⟨72,[.ptr,.i,y0],[],(Yb (Kd JK) OG)⟩
theorem AC2 (args:List V) (J:H):Br E D W N AIo args J=YL E D W N args J:=by
 unfold YL
 simp only[<-qH]
 kernel_rfl
def yT:XC:=(.z (.q 2 0<|
.nil)
 (.seq (.z (.m 3 0<|
.b 4 .eql .ptr (.t 3) Z5<|
.nil)
 y14)
 (.z (.m 5 0<|
.n 6 5<|
.f 7 0 6<|
.k 8 .i 209 [(.t 7)]<|
.m 2 8<|
.nil)
 .ret)))
def XY (E:EB) (D:Az) (W:AM) (a:V) (J:H):AH:=
 SV .ptr a V.nilp fun c1=>
 AS c1 (
 some ((V.int .i64 (AA 0)),J)) (
 Ar a fun b2 o3=>
 AW (D 209 [.ptr b2 o3] J) fun u4 s5=>
 Ah .i64 u4 fun x6=>
 some ((V.int .i64 x6),s5))
def kN (N:Nat) (args:List V) (J:H):AH:=
 AE args fun x1 l2=>
 AQ l2 (
 XY E D W x1 J)
def AIn:DV:=⟨9,[.any],[(.tmp 2)],yT⟩
theorem AC1 (args:List V) (J:H):Br E D W N AIn args J=kN E D W N args J:=by kernel_rfl
def yS:XC:=(.z (.c 2 V.nils<|
.nil)
 (.seq (.z (.m 3 0<|
.b 4 .eql .ptr (.t 3) Z5<|
.nil)
 (.cond (.tmp 4) (.z (.c 2 V.nils<|
.nil)
 .ret)
 .skip))
 (.z (.m 5 0<|
.n 6 5<|
.f 7 0 6<|
.l 8 .any 7<|
.O 9 .one (.append 5 1 1 (.con V.nils) (.t 8))<|
.m 2 9<|
.nil)
 .ret)))
def XX (E:EB) (D:Az) (W:AM) (a:V) (J:H):AH:=
 SV .ptr a V.nilp fun c1=>
 AS c1 (
 some (V.nils,J)) (
 Ar a fun b2 o3=>
 BL E J b2 o3 fun u4=>
 Ee E 1 1 V.nils u4 J fun u5 s6=>
 Cm u5 (
 some (u5,s6)))
def kM (N:Nat) (args:List V) (J:H):AH:=
 AE args fun x1 l2=>
 AQ l2 (
 XX E D W x1 J)
def AIm:DV:=⟨10,[.any],[(.tmp 2)],yS⟩
theorem AC0 (args:List V) (J:H):Br E D W N AIm args J=kM E D W N args J:=by kernel_rfl
def yR:XC:=(.z (.q 2 0<|
.nil)
 (.z (.m 3 0<|
.p 4 [3] (.min (.t 3) [(.i 32)])<|
.p 5 [4] (.max (.i 0) [(.t 4)])<|
.m 2 5<|
.nil)
 .ret))
def XW (E:EB) (D:Az) (W:AM) (a:Int) (J:H):AH:=
 some ((V.int .i64 (GW (AA 0) (HL a (AA 32)))),J)
def bn (N:Nat) (args:List V) (J:H):AH:=
 A4 .i64 args fun x3 l2=>
 AQ l2 (
 XW E D W x3 J)
def AIl:DV:=⟨6,[.i],[(.tmp 2)],yR⟩
theorem ACz (args:List V) (J:H):Br E D W N AIl args J=bn E D W N args J:=by kernel_rfl
def yQ:XC:=(.z (.c 4 y3<|
.nil)
 (.seq (.z (.m 5 0<|
.b 6 .eql .ptr (.t 5) Z5<|
.m 7 6<|
.gO 7 false (.p 8 [0,7] Z6<|
.p 9 [8,7] (.nilck (.t 8))<|
.p 10 [9,7] (.faddr 2 (.t 9))<|
.op (some 11) .i [10,7] (.load none (.t 10))<|
.p 12 [11,7] (.bin .neq .none (.t 11) (.i 0))<|
.nil) 13 7 12<|
.nil)
 (.cond (.tmp 13) (.z (.c 4 y3<|
.nil)
 .ret)
 .skip))
 (.seq (.z (.m 14 1<|
.m 15 0<|
.n 16 15<|
.f 17 0 16<|
.k 18 .i 108 [(.t 17)]<|
.b 19 .gtr .none (.t 14) (.t 18)<|
.nil)
 (.cond (.tmp 19) (.z (.m 20 0<|
.n 21 20<|
.f 22 2 21<|
.op none .any [22] (.store 1 (.t 22) (.i 3))<|
.nil)
 (.z (.c 4 y3<|
.nil)
 .ret))
 .skip))
 (.z (.c 4 TC<|
.nil)
 .ret))))
def XV (E:EB) (D:Az) (W:AM) (a:V) (b:Int) (J:H):AH:=
 SV .ptr a V.nilp fun c1=>
 BR (fun c2 s3=>
 AS c2 (
 some ((V.bool false),s3)) (
 Ar a fun b5 o6=>
 AW (D 108 [.ptr b5 o6] s3) fun u7 s8=>
 Ah .i64 u7 fun x9=>
 AS (Ep x9 b) (
 Ar a fun b10 o11=>
 Dt 1 b10 (Ac o11 2) (V.int .i64 (AA 3)) s8 fun s12=>
 some ((V.bool false),s12)) (
 some ((V.bool true),s8)))) fun k4=>
 AS c1 (
 k4 true J) (
 Ar a fun b13 o14=>
 BL E J b13 (Ac o14 2) fun u15=>
 Ah .i64 u15 fun x16=>
 k4 (not (Cu x16 (AA 0))) J)
def kL (N:Nat) (args:List V) (J:H):AH:=
 AE args fun x1 l2=>
 A4 .i64 l2 fun x5 l4=>
 AQ l4 (
 XV E D W x1 x5 J)
def AIk:DV:=⟨23,Z3,[(.tmp 4)],yQ⟩
theorem ACy (args:List V) (J:H):Br E D W N AIk args J=kL E D W N args J:=by kernel_rfl
def yP:XC:=(.z (.c 4 y3<|
.nil)
 (.seq (.z (.m 7 0<|
.k 8 .i 56 [(.t 7)]<|
.b 9 .neq .none (.t 8) (.i 0)<|
.nil)
 (.cond (.tmp 9) (.z (.c 4 y3<|
.nil)
 .ret)
 .skip))
 (.z (.m 10 0<|
.n 11 10<|
.f 12 0 11<|
.l 13 .any 12<|
.n 14 13<|
.O 15 zE (.load (some 3) (.t 14))<|
.pal 5 [] 172 [V.nils,y1,y1]<|
.op none zE [5,15] (.store 3 (.t 5) (.t 15))<|
.nil)
 (.z (.m 16 1<|
.O 17 y6 (.callv (.t 16) [])<|
.nil)
 (.seq (.z (.m 18 0<|
.k 19 .i 56 [(.t 18)]<|
.m 6 19<|
.nil)
 (.z (.m 20 6<|
.b 21 .neq .none (.t 20) (.i 0)<|
.nil)
 (.cond (.tmp 21) (.seq (.draw (.m 22 0<|
.n 23 22<|
.f 24 0 23<|
.l 25 .any 24<|
.m 26 0<|
.O 27 zE (.load (some 3) (.t 5))<|
.m 28 6<|
.n 29 25<|
.op none zE [29,27] (.store 3 (.t 29) (.t 27))<|
.n 30 26<|
.f 31 1 30<|
.w 1 31 28<|
.nil) [0,1,3,7,0,0,0,47,175,511,1023,2047])
 (.z (.c 4 y3<|
.nil)
 .ret))
 .skip)))
 (.z (.c 4 TC<|
.nil)
 .ret))))))
def XU (E:EB) (D:Az) (W:AM) (a b:Nat) (c:V) (J:H):AH:=
 AW (D 56 [.ptr a b] J) fun u1 s2=>
 Ah .i64 u1 fun x3=>
 AS (not (Cu x3 (AA 0))) (
 some ((V.bool false),s2)) (
 BL E s2 a b fun u4=>
 Ar u4 fun b5 o6=>
 BQ E s2 b5 o6 3 fun l7=>
 AE l7 fun x8 l9=>
 A4 .i64 l9 fun x12 l11=>
 A4 .i64 l11 fun x15 l14=>
 AQ l14 (
 IT (allOne [x8,.int .i64 x12,.int .i64 x15]) (
 Ed D c [] s2 fun u16 s17=>
 Bc u16 fun l18=>
 AQ l18 (
 AW (D 56 [.ptr a b] s17) fun u19 s20=>
 Ah .i64 u19 fun x21=>
 AS (not (Cu x21 (AA 0))) (
 BL E s20 a b fun u22=>
 Ar u22 fun b23 o24=>
 Dt 3 b23 o24 (V.agg [x8,.int .i64 x12,.int .i64 x15]) s20 fun s25=>
 Dt 1 a (Ac b 1) (V.int .i64 x21) s25 fun s26=>
 some ((V.bool false),s26)) (
 some ((V.bool true),s20))))))
def kK (N:Nat) (args:List V) (J:H):AH:=
 AE args fun x1 l2=>
 Ar x1 fun b3 o4=>
 AE l2 fun x5 l6=>
 AQ l6 (
 XU E D W b3 o4 x5 J)
def AIj:DV:=⟨32,[.ptr,.any],[(.tmp 4)],yP⟩
theorem ACx (args:List V) (J:H):Br E D W N AIj args J=kK E D W N args J:=by kernel_rfl
def yO:XC:=(.z (.P 2 (.box 66 (.t 0))<|
.P 3 (.box 4 (.t 1))<|
.q 4 0<|
.c 5 y3<|
.nil)
 (.z (.p 6 [] (.alloc 3 [y1])<|
.p 7 [] (.alloc 4 [y3])<|
.op none .any [6] (.store 1 (.t 6) (.i 0))<|
.op none .any [7] (.store 1 (.t 7) (.con y3))<|
.nil)
 (.z (.l 8 .any 2<|
.p 9 [2,6,7,3] (.mkfn 220 [] [(.t 2),(.t 6),(.t 7),(.t 3)])<|
.k 10 .bool 158 [(.t 8),(.t 9)]<|
.nil)
 (.seq (.draw (.l 11 .i 6<|
.l 12 .bool 7<|
.m 4 11<|
.m 5 12<|
.nil) [0,0,1,7])
 .ret))))
def XT (E:EB) (D:Az) (W:AM) (a:V) (b:Bool) (J:H):AH:=
 G9 (V.cells a) J fun s1=>
 G9 (V.cells (V.bool b)) s1 fun s2=>
 let s3:=DR s2 (.cells [.int .i64 (AA 0)]);
 let s4:=DR s3 (.cells [.bool false]);
 Dt 1 (H.next s2) 0 (V.int .i64 (AA 0)) s4 fun s5=>
 Dt 1 (H.next s3) 0 (V.bool false) s5 fun s6=>
 BL E s6 (H.next J) 0 fun u7=>
 AW (D 158 [u7,.fn 220 [] [.ptr (H.next J) 0,.ptr (H.next s2) 0,.ptr (H.next s3) 0,.ptr (H.next s1) 0]] s6) fun u8 s9=>
 An u8 fun x10=>
 BL E s9 (H.next s2) 0 fun u11=>
 Ah .i64 u11 fun x12=>
 BL E s9 (H.next s3) 0 fun u13=>
 An u13 fun x14=>
 some ((V.tup [.int .i64 x12,.bool x14]),s9)
def kJ (N:Nat) (args:List V) (J:H):AH:=
 AE args fun x1 l2=>
 De l2 fun x5 l4=>
 AQ l4 (
 XT E D W x1 x5 J)
def AIi:DV:=⟨13,[.any,.bool],[(.tmp 4),(.tmp 5)],yO⟩
theorem ACw (args:List V) (J:H):Br E D W N AIi args J=kJ E D W N args J:=by kernel_rfl
def MP:List (Nat × DM):=[(0,.ptr),(3,.i),(4,.any),(5,.i)]
def qs:List (Nat × DM):=[(0,.ptr),(4,.any)]
def Dq (E:EB):St->AH:=fun s=>EA E s [(.tmp 2)] fun l=>some (EW l,s.J)
def Qd (c0:XC):Nat->St->AH:=Bn 0 (dX E D W N (.keep qs [] [] c0) (Dq E) nX (Dq E)) nX
def Ya (cc1:XC):XC:=(.z (.c 2 V.nils<|
.nil)
 (.z (.q 3 0<|
.nil)
 (.seq (.z (.m 6 0<|
.k 7 .bool 84 [(.t 6)]<|
.nil)
 (.cond (.tmp 7) (.z (.m 8 0<|
.n 9 8<|
.f 10 0 9<|
.l 11 .any 10<|
.k 12 .i 222 [(.t 11)]<|
.m 3 12<|
.nil)
 (.ops (.m 13 0<|
.m 14 3<|
.b 15 .leq .none (.t 14) (.i 64)<|
.m 16 15<|
.gO 16 false (.p 17 [3,16] (.mov (.t 3))<|
.p 18 [17,16] (.bin .gtr .none (.t 17) (.i 1000))<|
.nil) 19 16 18<|
.k 20 y6 42 [(.t 13),(.t 19)]<|
.nil)))
 (.ops (.m 21 0<|
.n 22 21<|
.f 23 0 22<|
.l 24 .any 23<|
.k 25 (.int .u64) 45 [(.t 24),(.i 6)]<|
.P 26 (.conv (.toInt .i64) (.t 25))<|
.b 27 .add .none (.t 26) (.i 1)<|
.m 3 27<|
.nil))))
 (.keep [(0,.ptr),(3,.i)] [] [] cc1))))
def Ni (E:EB) (D:Az) (W:AM) (K1:Nat->Nat->Int->H->AH) (a b:Nat) (J:H):AH:=
 AW (D 84 [.ptr a b] J) fun u1 s2=>
 An u1 fun x3=>
 AS x3 (
 BL E s2 a b fun u4=>
 AW (D 222 [u4] s2) fun u5 s6=>
 Ah .i64 u5 fun x7=>
 BR (fun c8 s9=>
 AW (D 42 [.ptr a b,.bool c8] s9) fun u11 s12=>
 Bc u11 fun l13=>
 AQ l13 (
 K1 a b x7 s12)) fun k10=>
 AS (Hk x7 (AA 64)) (
 k10 true s6) (
 k10 (Ep (AA 1000) x7) s6)) (
 BL E s2 a b fun u14=>
 AW (D 45 [u14,.int .i64 (AA 6)] s2) fun u15 s16=>
 Ah .u64 u15 fun x17=>
 K1 a b (CU .i64 (BP .i64 x17) (AA 1)) s16)
def Ra (cc2:XC) (cc3:XC):XC:=(.z (.c 4 V.nils<|
.nil)
 (.seq (.z (.q 5 0<|
.nil)
 (.block 0 (.loop MP [] [] cc3)))
 (.keep qs [] [] cc2)))
def XS (E:EB) (D:Az) (W:AM) (K3:Nat->Nat->Int->V->Int->H->AH) (a b:Nat) (c:Int) (J:H):AH:=
 K3 a b c V.nils (AA 0) J
def Hy:XC:=(.z (.m 43 0<|
.m 44 4<|
.u 45 44<|
.b 46 .eql .none (.t 45) (.i 0)<|
.k 47 y6 42 [(.t 43),(.t 46)]<|
.nil)
 (.z (.m 48 4<|
.m 2 48<|
.nil)
 .ret))
def Nh (E:EB) (D:Az) (W:AM) (a b:Nat) (c:V) (J:H):AH:=
 BA c fun n1=>
 AW (D 42 [.ptr a b,.bool (Cu (AA n1) (AA 0))] J) fun u2 s3=>
 Bc u2 fun l4=>
 AQ l4 (
 some (c,s3))
def Kc (cc4:XC):XC:=(.seq (.z (.m 28 5<|
.m 29 3<|
.b 30 .lss .none (.t 28) (.t 29)<|
.m 31 30<|
.gA 31 true (.p 32 [0,31] Z6<|
.op (some 33) .bool [32,31] (.call 44 [(.t 32)])<|
.nil) 34 31 33<|
.nil)
 (.cond (.tmp 34) .skip
 Oe))
 (.seq (.block 1 (.z (.m 37 0<|
.k 38 .bool 84 [(.t 37)]<|
.nil)
 (.cond (.tmp 38) (.ops (.m 39 4<|
.m 40 5<|
.p 41 [40] (.buildSlice 3 1 [y1] [(0,1,(.t 40))])<|
.O 42 .one (.append 3 1 8 (.t 39) (.t 41))<|
.m 4 42<|
.nil))
 .skip)))
 (.keep MP [] [] cc4)))
def JB (E:EB) (D:Az) (W:AM) (K2:Nat->Nat->V->H->AH) (K4:Nat->Nat->Int->V->Int->H->AH) (a b:Nat) (c:Int) (d:V) (e:Int) (J:H):AH:=
 BR (fun c1 s2=>
 AS c1 (
 AW (D 84 [.ptr a b] s2) fun u4 s5=>
 An u4 fun x6=>
 AS x6 (
 let s7:=DR s5 (.cells [.int .i64 e]);
 Ee E 1 8 d (V.sl (H.next s5) 0 1 (.ex 1)) s7 fun u8 s9=>
 Cm u8 (
 K4 a b c u8 e s9)) (
 K4 a b c d e s5)) (
 K2 a b d s2)) fun k3=>
 AS (Ep e c) (
 AW (D 44 [.ptr a b] J) fun u10 s11=>
 An u10 fun x12=>
 k3 x12 s11) (
 k3 false J)
def IJ:XC:=(.ops (.m 35 5<|
.b 36 .add .none (.t 35) (.i 1)<|
.m 5 36<|
.nil))
def Ng (E:EB) (D:Az) (W:AM) (R3:Nat->Nat->Int->V->Int->H->AH) (a b:Nat) (c:Int) (d:V) (e:Int) (J:H):AH:=
 R3 a b c d (CU .i64 e (AA 1)) J
def ig (a b:Nat) (J:H):St:=⟨[(0,.ptr a b)],[],[],J⟩
def X2 (a b:Nat) (c:Int) (J:H):St:=⟨[(0,.ptr a b),(3,.int .i64 c)],[],[],J⟩
def ie (a b:Nat) (c:V) (J:H):St:=⟨[(0,.ptr a b),(4,c)],[],[],J⟩
def KT (a b:Nat) (c:Int) (d:V) (e:Int) (J:H):St:=⟨[(0,.ptr a b),(3,.int .i64 c),(4,d),(5,.int .i64 e)],[],[],J⟩
theorem wL (cc1:XC) (a b:Nat) (J:H) :
 AU E D W N (Ya cc1) (ig a b J) (Dq E) nX (Dq E) =
 Ni E D W (fun a b c J=>AU E D W N cc1 (X2 a b c J) (Dq E) nX (Dq E)) a b J:=by kernel_rfl
theorem wK (cc2:XC) (cc3:XC) (a b:Nat) (c:Int) (J:H) :
 AU E D W N (Ra cc2 cc3) (X2 a b c J) (Dq E) nX (Dq E) =
 XS E D W (fun a b c d e J=>Aw (fun rec s'=>AU E D W N cc3 s' (kX MP [] [] rec) (Qd E D W N cc2) (Dq E)) N (KT a b c d e J)) a b c J:=by kernel_rfl
theorem wJ (cc2:XC) (cc4:XC) (li3:St->AH) (a b:Nat) (c:Int) (d:V) (e:Int) (J:H) :
 AU E D W N (Kc cc4) (KT a b c d e J) (kX MP [] [] li3) (Qd E D W N cc2) (Dq E) =
 JB E D W (fun a b d J=>AU E D W N cc2 (ie a b d J) (Dq E) nX (Dq E)) (fun a b c d e J=>AU E D W N cc4 (KT a b c d e J) (kX MP [] [] li3) (Qd E D W N cc2) (Dq E)) a b c d e J:=by kernel_rfl
theorem wI (cc2:XC) (li3:St->AH) (a b:Nat) (c:Int) (d:V) (e:Int) (J:H) :
 AU E D W N (IJ ) (KT a b c d e J) (kX MP [] [] li3) (Qd E D W N cc2) (Dq E) =
 Ng E D W (fun a b c d e J=>li3 (KT a b c d e J)) a b c d e J:=by kernel_rfl
def jk (E:EB) (D:Az) (W:AM) (N:Nat):=Nh E D W
theorem qC (a b:Nat) (c:V) (J:H) :
 AU E D W N Hy (ie a b c J) (Dq E) nX (Dq E)=jk E D W N a b c J:=by kernel_rfl
def jj (E:EB) (D:Az) (W:AM) (N:Nat) (R3:Nat->Nat->Int->V->Int->H->AH):=Ng E D W R3
theorem qB (li3:St->AH) (a b:Nat) (c:Int) (d:V) (e:Int) (J:H) :
 AU E D W N IJ (KT a b c d e J) (kX MP [] [] li3) (Qd E D W N Hy) (Dq E)=jj E D W N (fun a b c d e J=>li3 (KT a b c d e J)) a b c d e J:=by
 refine(wI E D W N Hy li3 a b c d e J).trans ?_
 kernel_rfl
def Nv (n:Nat):Nat->Nat->Int->V->Int->H->AH:=
 Nat.rec (fun _ _ _ _ _ _=>none) (fun _ ih=>JB E D W (jk E D W N ) (jj E D W N ih)) n
theorem pD (n:Nat):∀(a b:Nat) (c:Int) (d:V) (e:Int) (J:H),
 Aw (fun rec s'=>AU E D W N (Kc IJ) s' (kX MP [] [] rec) (Qd E D W N Hy) (Dq E)) n (KT a b c d e J)=Nv E D W N n a b c d e J:=by
 induction n with
 | zero=>intro a b c d e J;rfl
 | succ n ihn=>
  intro a b c d e J
  rw[BB]
  refine(wJ E D W N Hy IJ (Aw (fun rec s'=>AU E D W N (Kc IJ) s' (kX MP [] [] rec) (Qd E D W N Hy) (Dq E)) n) a b c d e J).trans ?_
  simp only[ihn,qC,qB]
  kernel_rfl
def jl:=XS E D W (Nv E D W N N)
theorem qD (a b:Nat) (c:Int) (J:H) :
 AU E D W N (Ra Hy (Kc IJ)) (X2 a b c J) (Dq E) nX (Dq E)=jl E D W N a b c J:=by
 refine(wK E D W N Hy (Kc IJ)  a b c J).trans ?_
 simp only[pD]
 kernel_rfl
def jm:=Ni E D W (jl E D W N )
theorem qE (a b:Nat) (J:H) :
 AU E D W N (Ya (Ra Hy (Kc IJ))) (ig a b J) (Dq E) nX (Dq E)=jm E D W N a b J:=by
 refine(wL E D W N (Ra Hy (Kc IJ))  a b J).trans ?_
 simp only[qD]
 kernel_rfl
def YK (args:List V) (J:H):AH:=
 AE args fun x1 l2=>
 Ar x1 fun b3 o4=>
 AQ l2 (
 jm E D W N b3 o4 J)
def AIh:DV:=⟨49,[.ptr],[(.tmp 2)],(Ya (Ra Hy (Kc IJ)))⟩
theorem ACv (args:List V) (J:H):Br E D W N AIh args J=YK E D W N args J:=by
 unfold YK
 simp only[<-qE]
 kernel_rfl
def N0:List BY:=[⟨(some 6),.load none (.tmp 4),none⟩,⟨(some 7),.nilck (.tmp 6),none⟩,⟨(some 8),.faddr 3 (.tmp 7),none⟩,⟨(some 9),.load none (.tmp 8),none⟩,⟨(some 10),.load none (.tmp 2),none⟩,⟨(some 11),.mov (.tmp 0),none⟩,⟨(some 12),.faddr 9 (.tmp 1),none⟩,⟨(some 13),.load none (.tmp 12),none⟩,⟨(some 14),.load none (.tmp 2),none⟩,⟨(some 15),.iaddrS 11 (.tmp 13) (.tmp 14),none⟩,⟨(some 16),.faddr 1 (.tmp 15),none⟩,⟨(some 17),.load none (.tmp 16),none⟩,⟨(some 18),.load none (.tmp 3),none⟩,⟨(some 19),.bin .add .none (.tmp 18) (.con (V.int .i64 (AA 1))),none⟩,⟨(some 20),.call 19 [(.tmp 11),(.tmp 17),(.tmp 19)],none⟩,⟨(some 21),.iaddrS 6 (.tmp 9) (.tmp 10),none⟩,⟨none,.store 6 (.tmp 21) (.tmp 20),none⟩]
def Ug:List DP:=[⟨0,[4]⟩,⟨1,[6]⟩,⟨3,[7]⟩,⟨7,[8]⟩,⟨0,[2]⟩,⟨0,[0]⟩,⟨0,[1]⟩,⟨64,[12]⟩,⟨0,[2]⟩,⟨448,[13,14]⟩,⟨960,[15]⟩,⟨1984,[16]⟩,⟨0,[3]⟩,⟨4096,[18]⟩,⟨16352,[11,17,19]⟩,⟨32767,[9,10]⟩,⟨65535,[21,20]⟩]
def yN:XC:=(.keep [(0,.any),(1,.any),(2,.any),(3,.any),(4,.any)] [] [] (.gdraw N0 Ug []))
def Qz (E:EB) (D:Az) (W:AM) (a b c d e:V) (J:H):AH:=
 DA (W N0 Ug [(0,a),(1,b),(2,c),(3,d),(4,e)] J) fun e1 s2=>
 some ((V.tup []),s2)
def kI (N:Nat) (args:List V) (J:H):AH:=
 AE args fun x1 l2=>
 AE l2 fun x3 l4=>
 AE l4 fun x5 l6=>
 AE l6 fun x7 l8=>
 AE l8 fun x9 l10=>
 AQ l10 (
 Qz E D W x1 x3 x5 x7 x9 J)
def AIg:DV:=⟨22,[.any,.any,.any,.any,.any],[],yN⟩
theorem ACu (args:List V) (J:H):Br E D W N AIg args J=kI E D W N args J:=by kernel_rfl
def yM:XC:=(.z (.q 2 0<|
.nil)
 (.seq (.draw (.m 4 0<|
.n 5 4<|
.f 6 0 5<|
.l 7 .any 6<|
.m 8 0<|
.n 9 8<|
.f 10 1 9<|
.l 11 .i 10<|
.b 12 .quo .none (.t 11) (.i 8)<|
.s 13 1 7 12<|
.l 14 (.int .u8) 13<|
.m 15 0<|
.n 16 15<|
.f 17 1 16<|
.l 18 .i 17<|
.b 19 .rem .none (.t 18) (.i 8)<|
.b 20 .sub .none (.i 7) (.t 19)<|
.b 21 .shr .none (.t 14) (.t 20)<|
.b 22 .and .none (.t 21) (.con (V.int .u8 (AA 1)))<|
.P 23 (.conv (.toInt .i64) (.t 22))<|
.m 3 23<|
.nil) [0,1,3,7,0,16,48,112,240,511,1023,0,2048,6144,14336,30720,63488,131071,262143,524287,1048575])
 (.z (.m 24 0<|
.n 25 24<|
.f 26 1 25<|
.l 27 .i 26<|
.b 28 .add .none (.t 27) (.i 1)<|
.n 29 24<|
.f 30 1 29<|
.w 1 30 28<|
.nil)
 (.z (.m 31 3<|
.m 2 31<|
.nil)
 .ret))))
def XR (E:EB) (D:Az) (W:AM) (a b:Nat) (J:H):AH:=
 BL E J a b fun u1=>
 BL E J a (Ac b 1) fun u2=>
 Ah .i64 u2 fun x3=>
 AT 1 u1 (JX .i64 x3 (AA 8)) fun b4 o5=>
 BL E J b4 o5 fun u6=>
 Ah .u8 u6 fun x7=>
 BL E J a (Ac b 1) fun u8=>
 Ah .i64 u8 fun x9=>
 Pz (E6 .i64 (AA 7) (Fq x9 (AA 8))) fun n10=>
 BL E J a (Ac b 1) fun u11=>
 Ah .i64 u11 fun x12=>
 Dt 1 a (Ac b 1) (V.int .i64 (CU .i64 x12 (AA 1))) J fun s13=>
 some ((V.int .i64 (BP .i64 (Je .u8 (LA .u8 x7 n10) (AA 1)))),s13)
def kH (N:Nat) (args:List V) (J:H):AH:=
 AE args fun x1 l2=>
 Ar x1 fun b3 o4=>
 AQ l2 (
 XR E D W b3 o4 J)
def AIf:DV:=⟨32,[.ptr],[(.tmp 2)],yM⟩
theorem ACt (args:List V) (J:H):Br E D W N AIf args J=kH E D W N args J:=by kernel_rfl
def yL:XC:=(.z (.c 2 y3<|
.nil)
 (.z (.m 3 0<|
.u 4 3<|
.b 5 .gtr .none (.t 4) (.i 0)<|
.m 6 5<|
.gA 6 true (.p 7 [0,6] Z6<|
.p 8 [7,6] (.len false (.t 7))<|
.p 9 [8,6] (.bin .leq .none (.t 8) (.i 70000))<|
.nil) 10 6 9<|
.m 2 10<|
.nil)
 .ret))
def XQ (E:EB) (D:Az) (W:AM) (a:V) (J:H):AH:=
 BA a fun n1=>
 BR (fun c2 s3=>
 some ((V.bool c2),s3)) fun k4=>
 AS (Ep (AA 0) (AA n1)) (
 BA a fun n5=>
 k4 (Hk (AA n5) (AA 70000)) J) (
 k4 false J)
def kG (N:Nat) (args:List V) (J:H):AH:=
 AE args fun x1 l2=>
 AQ l2 (
 XQ E D W x1 J)
def AIe:DV:=⟨11,[.any],[(.tmp 2)],yL⟩
theorem ACs (args:List V) (J:H):Br E D W N AIe args J=kG E D W N args J:=by kernel_rfl
def MO:List (Nat × List DM):=[(7,[.i,.any,.bool,.bool,.bool,.bool,.i,.i,.any,.any,.i,.bool,.i]),(9,[.i,.i])]
def MN:List (Nat × DM):=[(0,.ptr),(1,.i),(5,.ptr),(8,.i),(52,.any),(53,.i),(54,.i)]
def Ew (E:EB):St->AH:=fun s=>EA E s [(.tmp 6)] fun l=>some (EW l,s.J)
def Qc (c0:XC):Nat->St->AH:=Bn 0 (dX E D W N (.keep [] [] [] c0) (Ew E) nX (Ew E)) nX
def YZ (cc1:XC) (cc2:XC):XC:=(.z (.P 5 (.box 43 (.t 2))<|
.c 6 y3<|
.nil)
 (.z (.m 14 0<|
.n 15 14<|
.f 16 0 15<|
.f 17 0 16<|
.f 18 3 17<|
.l 19 .any 18<|
.m 20 1<|
.s 21 13 19 20<|
.O 22 y2 (.load (some 13) (.t 21))<|
.pal 7 [] 111 [y1,V.nils,y3,y3,y3,y3,y1,y1,V.nils,V.nils,y1,y3,y1]<|
.op none y2 [7,22] (.store 13 (.t 7) (.t 22))<|
.nil)
 (.seq (.z (.f 23 5 5<|
.l 24 .any 23<|
.u 25 24<|
.b 26 .eql .none (.t 25) (.i 0)<|
.nil)
 (.cond (.tmp 26) (.z (.f 27 4 5<|
.l 28 .i 27<|
.b 29 .eql .none (.t 28) (.i 0)<|
.m 6 29<|
.nil)
 .ret)
 .skip))
 (.seq (.z (.f 30 11 7<|
.l 31 .bool 30<|
.P 32 (.un .not (.t 31))<|
.m 33 32<|
.gO 33 false (.p 34 [5,33] (.faddr 4 (.t 5))<|
.op (some 35) .i [34,33] (.load none (.t 34))<|
.p 36 [35,33] (.bin .neq .none (.t 35) (.i 1))<|
.p 37 [36,33] (.mov (.t 36))<|
.grp 37 true (.p 38 [5,37] (.faddr 4 (.t 5))<|
.op (some 39) .i [38,37] (.load none (.t 38))<|
.p 40 [39,37] (.bin .neq .none (.t 39) (.i 2))<|
.nil) 41 [37,40,33] (.t 37) (.t 40) (.con y3)<|
.nil) 42 33 41<|
.nil)
 (.cond (.tmp 42) (.z (.c 6 y3<|
.nil)
 .ret)
 .skip))
 (.z (.m 43 0<|
.n 44 43<|
.f 45 0 44<|
.f 46 0 45<|
.O 47 y4 (.load (some 4) (.t 46))<|
.m 48 1<|
.k 49 .one 176 [(.t 47),(.t 48)]<|
.u 50 49<|
.m 8 50<|
.nil)
 (.z (.pal 9 [] 214 [y1,y1]<|
.nil)
 (.seq (.z (.f 51 5 5<|
.l 52 .any 51<|
.u 53 52<|
.q 54 0<|
.nil)
 (.block 0 (.loop MN [7,9] MO cc2)))
 (.keep [] [] [] cc1))))))))
def Nf (E:EB) (D:Az) (W:AM) (K2:Nat->Nat->Int->Nat->Nat->Int->V->Int->Int->Int->V->Bool->Bool->Bool->Bool->Int->Int->V->V->Int->Bool->Int->Int->Int->H->AH) (a b:Nat) (c d e:Int) (f g:V) (h:Int) (i:V) (J:H):AH:=
 G9 [.int .i64 d,.int .i64 e,f,g,.int .i64 h,i] J fun s1=>
 BL E s1 a (Ac b 3) fun u2=>
 AT 13 u2 c fun b3 o4=>
 BQ E s1 b3 o4 13 fun l5=>
 A4 .i64 l5 fun x8 l7=>
 AE l7 fun x9 l10=>
 De l10 fun x13 l12=>
 De l12 fun x16 l15=>
 De l15 fun x19 l18=>
 De l18 fun x22 l21=>
 A4 .i64 l21 fun x25 l24=>
 A4 .i64 l24 fun x28 l27=>
 AE l27 fun x29 l30=>
 AE l30 fun x31 l32=>
 A4 .i64 l32 fun x35 l34=>
 De l34 fun x38 l37=>
 A4 .i64 l37 fun x41 l40=>
 AQ l40 (
 IT (allOne [.int .i64 x8,x9,.bool x13,.bool x16,.bool x19,.bool x22,.int .i64 x25,.int .i64 x28,x29,x31,.int .i64 x35,.bool x38,.int .i64 x41]) (
 BL E s1 (H.next J) 5 fun u42=>
 BA u42 fun n43=>
 AS (Cu (AA n43) (AA 0)) (
 BL E s1 (H.next J) 4 fun u44=>
 Ah .i64 u44 fun x45=>
 some ((V.bool (Cu x45 (AA 0))),s1)) (
 BR (fun c46 s47=>
 AS c46 (
 some ((V.bool false),s47)) (
 BQ E s47 a b 4 fun l49=>
 Rx l49 fun x52 l51=>
 AE l51 fun x53 l54=>
 AE l54 fun x55 l56=>
 AE l56 fun x57 l58=>
 AQ l58 (
 AW (D 176 [.agg [.str x52,x53,x55,x57],.int .i64 c] s47) fun u59 s60=>
 Cm u59 (
 BA u59 fun n61=>
 BL E s60 (H.next J) 5 fun u62=>
 BA u62 fun n63=>
 K2 a b c (H.next J) 0 (AA n61) u62 (AA n63) (AA 0) x8 x9 x13 x16 x19 x22 x25 x28 x29 x31 x35 x38 x41 (AA 0) (AA 0) s60)))) fun k48=>
 AS (not x38) (
 k48 true s1) (
 BL E s1 (H.next J) 4 fun u64=>
 Ah .i64 u64 fun x65=>
 BR (fun c66 s67=>
 k48 c66 s67) fun k68=>
 AS (not (Cu x65 (AA 1))) (
 BL E s1 (H.next J) 4 fun u69=>
 Ah .i64 u69 fun x70=>
 k68 (not (Cu x70 (AA 2))) s1) (
 k68 false s1)))))
def JJ:XC:=(.z (.c 6 TC<|
.nil)
 .ret)
def XP (E:EB) (D:Az) (W:AM) (J:H):AH:=
 some ((V.bool true),J)
def OF (cc3:XC):XC:=(.z (.b 55 .lss .none (.t 54) (.t 53)<|
.nil)
 (.seq (.cond (.tmp 55) .skip
 Oe)
 (.seq (.block 1 (.z (.m 56 54<|
.s 57 2 52 54<|
.O 58 Z8 (.load (some 2) (.t 57))<|
.pal 11 [] 46 [y1,V.nils]<|
.m 10 56<|
.op none Z8 [11,58] (.store 2 (.t 11) (.t 58))<|
.nil)
 (.seq (.z (.f 59 4 5<|
.l 60 .i 59<|
.b 61 .eql .none (.t 60) (.i 2)<|
.nil)
 (.cond (.tmp 61) (.seq (.z (.f 62 0 11<|
.l 63 .i 62<|
.m 64 8<|
.b 65 .lss .none (.t 63) (.t 64)<|
.m 66 65<|
.gO 66 false (.p 67 [11,66] (.faddr 0 (.t 11))<|
.op (some 68) .i [67,66] (.load none (.t 67))<|
.p 69 [68,66] (.bin .geq .none (.t 68) (.i 1000))<|
.nil) 70 66 69<|
.m 71 70<|
.gO 71 false (.p 72 [11,71] (.faddr 1 (.t 11))<|
.p 73 [72,71] (.load none (.t 72))<|
.op (some 74) .bool [73,71] (.call 182 [(.t 73)])<|
.p 75 [74,71] (.un .not (.t 74))<|
.nil) 76 71 75<|
.nil)
 (.cond (.tmp 76) (.z (.c 6 y3<|
.nil)
 .ret)
 .skip))
 (.z (.f 77 0 11<|
.l 78 .i 77<|
.b 79 .add .none (.t 78) (.i 1)<|
.m 8 79<|
.nil)
 (.exit 1)))
 .skip))
 (.z (.m 81 0<|
.m 82 1<|
.f 83 1 11<|
.l 84 .any 83<|
.k 85 (.tup [(.agg [.i,.i]),.bool]) 181 [(.t 81),(.t 82),(.t 84)]<|
.m 80 85<|
.P 86 (.extract 0 (.t 80))<|
.P 87 (.extract 1 (.t 80))<|
.pal 12 [] 214 [y1,y1]<|
.op none (.agg [.i,.i]) [12,86] (.store 2 (.t 12) (.t 86))<|
.m 13 87<|
.nil)
 (.seq (.z (.m 88 13<|
.P 89 (.un .not (.t 88))<|
.m 90 89<|
.gO 90 false (.p 91 [11,90] (.faddr 0 (.t 11))<|
.op (some 92) .i [91,90] (.load none (.t 91))<|
.p 93 [92,90] (.bin .neq .none (.t 92) (.i 0))<|
.nil) 94 90 93<|
.m 95 94<|
.gO 95 false (.p 96 [7,95] (.faddr 0 (.t 7))<|
.op (some 97) .i [96,95] (.load none (.t 96))<|
.p 98 [97,95] (.bin .eql .none (.t 97) (.i 8))<|
.p 99 [98,95] (.mov (.t 98))<|
.grp 99 true (.p 100 [10,99] (.mov (.t 10))<|
.p 101 [100,99] (.bin .gtr .none (.t 100) (.i 0))<|
.nil) 102 [99,101,95] (.t 99) (.t 101) (.con y3)<|
.p 103 [102,95] (.mov (.t 102))<|
.grp 103 true (.op (some 104) (.agg [.i,.i]) [9,103] (.load (some 2) (.t 9))<|
.op (some 105) (.agg [.i,.i]) [12,103] (.load (some 2) (.t 12))<|
.op (some 106) .bool [104,105,103] (.call 175 [(.t 104),(.t 105)])<|
.p 107 [106,103] (.un .not (.t 106))<|
.nil) 108 [103,107,95] (.t 103) (.t 107) (.con y3)<|
.nil) 109 95 108<|
.nil)
 (.cond (.tmp 109) (.z (.c 6 y3<|
.nil)
 .ret)
 .skip))
 (.ops (.O 110 (.agg [.i,.i]) (.load (some 2) (.t 12))<|
.op none (.agg [.i,.i]) [9,110] (.store 2 (.t 9) (.t 110))<|
.nil)))))))
 (.keep MN [7,9] MO cc3))))
def Nd (E:EB) (D:Az) (W:AM) (K1:H->AH) (K3:Nat->Nat->Int->Nat->Nat->Int->V->Int->Int->Int->V->Bool->Bool->Bool->Bool->Int->Int->V->V->Int->Bool->Int->Int->Int->H->AH) (a b:Nat) (c:Int) (d e:Nat) (f:Int) (g:V) (h i j:Int) (k:V) (l m o p:Bool) (q r:Int) (s t:V) (u:Int) (v:Bool) (w x y:Int) (J:H):AH:=
 AS (Ep i h) (
 AT 2 g i fun b1 o2=>
 BQ E J b1 o2 2 fun l3=>
 A4 .i64 l3 fun x6 l5=>
 AE l5 fun x7 l8=>
 AQ l8 (
 IT (allOne [.int .i64 x6,x7]) (
 BL E J d (Ac e 4) fun u9=>
 Ah .i64 u9 fun x10=>
 AS (Cu x10 (AA 2)) (
 BR (fun c11 s12=>
 BR (fun c14 s15=>
 AS c14 (
 some ((V.bool false),s15)) (
 K3 a b c d e (CU .i64 x6 (AA 1)) g h i j k l m o p q r s t u v w x y s15)) fun k16=>
 AS c11 (
 k16 true s12) (
 AW (D 182 [x7] s12) fun u17 s18=>
 An u17 fun x19=>
 k16 (not x19) s18)) fun k13=>
 AS (Ep x6 f) (
 k13 true J) (
 k13 (Hk (AA 1000) x6) J)) (
 AW (D 181 [.ptr a b,.int .i64 c,x7] J) fun u20 s21=>
 Bc u20 fun l22=>
 AE l22 fun x23 l24=>
 Cw x23 fun l25=>
 A4 .i64 l25 fun x28 l27=>
 A4 .i64 l27 fun x31 l30=>
 AQ l30 (
 De l24 fun x34 l33=>
 AQ l33 (
 BR (fun c35 s36=>
 BR (fun c38 s39=>
 AS c38 (
 some ((V.bool false),s39)) (
 K3 a b c d e f g h i j k l m o p q r s t u v w x28 x31 s39)) fun k40=>
 AS c35 (
 k40 true s36) (
 BR (fun c41 s42=>
 BR (fun c44 s45=>
 k40 c44 s45) fun k46=>
 AS c41 (
 AW (D 175 [.agg [.int .i64 x,.int .i64 y],.agg [.int .i64 x28,.int .i64 x31]] s42) fun u47 s48=>
 An u47 fun x49=>
 k46 (not x49) s48) (
 k46 false s42)) fun k43=>
 AS (Cu j (AA 8)) (
 k43 (Ep (AA 0) i) s36) (
 k43 false s36))) fun k37=>
 AS (not x34) (
 k37 true s21) (
 k37 (not (Cu x6 (AA 0))) s21))))))) (
 K1 J)
def Kb:XC:=(.ops (.b 111 .add .none (.t 54) (.i 1)<|
.m 54 111<|
.nil))
def Tw (E:EB) (D:Az) (W:AM) (R2:Nat->Nat->Int->Nat->Nat->Int->V->Int->Int->Int->V->Bool->Bool->Bool->Bool->Int->Int->V->V->Int->Bool->Int->Int->Int->H->AH) (a b:Nat) (c:Int) (d e:Nat) (f:Int) (g:V) (h i j:Int) (k:V) (l m o p:Bool) (q r:Int) (s t:V) (u:Int) (v:Bool) (w x y:Int) (J:H):AH:=
 R2 a b c d e f g h (CU .i64 i (AA 1)) j k l m o p q r s t u v w x y J
def ic (a b:Nat) (c d e:Int) (f g:V) (h:Int) (i:V) (J:H):St:=⟨[(0,.ptr a b),(1,.int .i64 c),(2,.agg [.int .i64 d,.int .i64 e,f,g,.int .i64 h,i])],[],[],J⟩
def iZ (J:H):St:=⟨[],[],[],J⟩
def KS (a b:Nat) (c:Int) (d e:Nat) (f:Int) (g:V) (h i j:Int) (k:V) (l m o p:Bool) (q r:Int) (s t:V) (u:Int) (v:Bool) (w x y:Int) (J:H):St:=⟨[(0,.ptr a b),(1,.int .i64 c),(5,.ptr d e),(8,.int .i64 f),(52,g),(53,.int .i64 h),(54,.int .i64 i)],[(7,(7,0)),(9,(9,0))],[(7,[.int .i64 j,k,.bool l,.bool m,.bool o,.bool p,.int .i64 q,.int .i64 r,s,t,.int .i64 u,.bool v,.int .i64 w]),(9,[.int .i64 x,.int .i64 y])],J⟩
theorem wH (cc1:XC) (cc2:XC) (a b:Nat) (c d e:Int) (f g:V) (h:Int) (i:V) (J:H) :
 AU E D W N (YZ cc1 cc2) (ic a b c d e f g h i J) (Ew E) nX (Ew E) =
 Nf E D W (fun a b c j k l m o p q r s t u v w x y z B I M O AMG J=>Aw (fun rec s'=>AU E D W N cc2 s' (kX MN [7,9] MO rec) (Qc E D W N cc1) (Ew E)) N (KS a b c j k l m o p q r s t u v w x y z B I M O AMG J)) a b c d e f g h i J:=by kernel_rfl
theorem wG (cc1:XC) (cc3:XC) (li2:St->AH) (a b:Nat) (c:Int) (d e:Nat) (f:Int) (g:V) (h i j:Int) (k:V) (l m o p:Bool) (q r:Int) (s t:V) (u:Int) (v:Bool) (w x y:Int) (J:H) :
 AU E D W N (OF cc3) (KS a b c d e f g h i j k l m o p q r s t u v w x y J) (kX MN [7,9] MO li2) (Qc E D W N cc1) (Ew E) =
 Nd E D W (fun  J=>AU E D W N cc1 (iZ J) (Ew E) nX (Ew E)) (fun a b c d e f g h i j k l m o p q r s t u v w x y J=>AU E D W N cc3 (KS a b c d e f g h i j k l m o p q r s t u v w x y J) (kX MN [7,9] MO li2) (Qc E D W N cc1) (Ew E)) a b c d e f g h i j k l m o p q r s t u v w x y J:=by kernel_rfl
theorem wF (cc1:XC) (li2:St->AH) (a b:Nat) (c:Int) (d e:Nat) (f:Int) (g:V) (h i j:Int) (k:V) (l m o p:Bool) (q r:Int) (s t:V) (u:Int) (v:Bool) (w x y:Int) (J:H) :
 AU E D W N (Kb ) (KS a b c d e f g h i j k l m o p q r s t u v w x y J) (kX MN [7,9] MO li2) (Qc E D W N cc1) (Ew E) =
 Tw E D W (fun a b c d e f g h i j k l m o p q r s t u v w x y J=>li2 (KS a b c d e f g h i j k l m o p q r s t u v w x y J)) a b c d e f g h i j k l m o p q r s t u v w x y J:=by kernel_rfl
def jh (E:EB) (D:Az) (W:AM) (N:Nat):=XP E D W
theorem p9 (J:H) :
 AU E D W N JJ (iZ J) (Ew E) nX (Ew E)=jh E D W N  J:=by kernel_rfl
def jg (E:EB) (D:Az) (W:AM) (N:Nat) (R2:Nat->Nat->Int->Nat->Nat->Int->V->Int->Int->Int->V->Bool->Bool->Bool->Bool->Int->Int->V->V->Int->Bool->Int->Int->Int->H->AH):=Tw E D W R2
theorem pz (li2:St->AH) (a b:Nat) (c:Int) (d e:Nat) (f:Int) (g:V) (h i j:Int) (k:V) (l m o p:Bool) (q r:Int) (s t:V) (u:Int) (v:Bool) (w x y:Int) (J:H) :
 AU E D W N Kb (KS a b c d e f g h i j k l m o p q r s t u v w x y J) (kX MN [7,9] MO li2) (Qc E D W N JJ) (Ew E)=jg E D W N (fun a b c d e f g h i j k l m o p q r s t u v w x y J=>li2 (KS a b c d e f g h i j k l m o p q r s t u v w x y J)) a b c d e f g h i j k l m o p q r s t u v w x y J:=by
 refine(wF E D W N JJ li2 a b c d e f g h i j k l m o p q r s t u v w x y J).trans ?_
 kernel_rfl
def Uc (n:Nat):Nat->Nat->Int->Nat->Nat->Int->V->Int->Int->Int->V->Bool->Bool->Bool->Bool->Int->Int->V->V->Int->Bool->Int->Int->Int->H->AH:=
 Nat.rec (fun _ _ _ _ _ _ _ _ _ _ _ _ _ _ _ _ _ _ _ _ _ _ _ _ _=>none) (fun _ ih=>Nd E D W (jh E D W N ) (jg E D W N ih)) n
theorem pC (n:Nat):∀(a b:Nat) (c:Int) (d e:Nat) (f:Int) (g:V) (h i j:Int) (k:V) (l m o p:Bool) (q r:Int) (s t:V) (u:Int) (v:Bool) (w x y:Int) (J:H),
 Aw (fun rec s'=>AU E D W N (OF Kb) s' (kX MN [7,9] MO rec) (Qc E D W N JJ) (Ew E)) n (KS a b c d e f g h i j k l m o p q r s t u v w x y J)=Uc E D W N n a b c d e f g h i j k l m o p q r s t u v w x y J:=by
 induction n with
 | zero=>intro a b c d e f g h i j k l m o p q r s t u v w x y J;rfl
 | succ n ihn=>
  intro a b c d e f g h i j k l m o p q r s t u v w x y J
  rw[BB]
  refine(wG E D W N JJ Kb (Aw (fun rec s'=>AU E D W N (OF Kb) s' (kX MN [7,9] MO rec) (Qc E D W N JJ) (Ew E)) n) a b c d e f g h i j k l m o p q r s t u v w x y J).trans ?_
  simp only[ihn,p9,pz]
  kernel_rfl
def ji:=Nf E D W (Uc E D W N N)
theorem qA (a b:Nat) (c d e:Int) (f g:V) (h:Int) (i:V) (J:H) :
 AU E D W N (YZ JJ (OF Kb)) (ic a b c d e f g h i J) (Ew E) nX (Ew E)=ji E D W N a b c d e f g h i J:=by
 refine(wH E D W N JJ (OF Kb)  a b c d e f g h i J).trans ?_
 simp only[pC]
 kernel_rfl
def bm (args:List V) (J:H):AH:=
 AE args fun x1 l2=>
 Ar x1 fun b3 o4=>
 A4 .i64 l2 fun x7 l6=>
 AE l6 fun x8 l9=>
 Cw x8 fun l10=>
 A4 .i64 l10 fun x13 l12=>
 A4 .i64 l12 fun x16 l15=>
 AE l15 fun x17 l18=>
 AE l18 fun x19 l20=>
 A4 .i64 l20 fun x23 l22=>
 AE l22 fun x24 l25=>
 AQ l25 (
 AQ l9 (
 ji E D W N b3 o4 x7 x13 x16 x17 x19 x23 x24 J))
def AId:DV:=⟨112,[.ptr,.i,y0],[(.tmp 6)],(YZ JJ (OF Kb))⟩
theorem ACr (args:List V) (J:H):Br E D W N AId args J=bm E D W N args J:=by
 unfold bm
 simp only[<-qA]
 kernel_rfl
def yK:XC:=(.z (.P 1 (.box 43 (.t 0))<|
.c 2 y3<|
.nil)
 (.z (.f 3 0 1<|
.l 4 .i 3<|
.b 5 .eql .none (.t 4) (.i 0)<|
.m 6 5<|
.gA 6 true (.op (some 7) y0 [1,6] (.load (some 6) (.t 1))<|
.op (some 8) .bool [7,6] (.call 111 [(.t 7),(.i 0)])<|
.nil) 9 6 8<|
.m 2 9<|
.nil)
 .ret))
def XO (E:EB) (D:Az) (W:AM) (a b:Int) (c d:V) (e:Int) (f:V) (J:H):AH:=
 G9 [.int .i64 a,.int .i64 b,c,d,.int .i64 e,f] J fun s1=>
 BL E s1 (H.next J) 0 fun u2=>
 Ah .i64 u2 fun x3=>
 BR (fun c4 s5=>
 some ((V.bool c4),s5)) fun k6=>
 AS (Cu x3 (AA 0)) (
 BQ E s1 (H.next J) 0 6 fun l7=>
 A4 .i64 l7 fun x10 l9=>
 A4 .i64 l9 fun x13 l12=>
 AE l12 fun x14 l15=>
 AE l15 fun x16 l17=>
 A4 .i64 l17 fun x20 l19=>
 AE l19 fun x21 l22=>
 AQ l22 (
 AW (D 111 [.agg [.int .i64 x10,.int .i64 x13,x14,x16,.int .i64 x20,x21],.int .i64 (AA 0)] s1) fun u23 s24=>
 An u23 fun x25=>
 k6 x25 s24)) (
 k6 false s1)
def WE (N:Nat) (args:List V) (J:H):AH:=
 AE args fun x1 l2=>
 Cw x1 fun l3=>
 A4 .i64 l3 fun x6 l5=>
 A4 .i64 l5 fun x9 l8=>
 AE l8 fun x10 l11=>
 AE l11 fun x12 l13=>
 A4 .i64 l13 fun x16 l15=>
 AE l15 fun x17 l18=>
 AQ l18 (
 AQ l2 (
 XO E D W x6 x9 x10 x12 x16 x17 J))
def AIc:DV:=⟨10,[y0],[(.tmp 2)],yK⟩
theorem ACq (args:List V) (J:H):Br E D W N AIc args J=WE E D W N args J:=by kernel_rfl
def yJ:XC:=(.z (.P 2 (.box 111 (.t 0))<|
.c 4 y3<|
.nil)
 (.z (.f 5 9 2<|
.l 6 .any 5<|
.m 7 1<|
.s 8 11 6 7<|
.f 9 2 8<|
.l 10 .bool 9<|
.m 11 10<|
.gO 11 false (.p 12 [2,11] (.faddr 9 (.t 2))<|
.p 13 [12,11] (.load none (.t 12))<|
.p 14 [1,11] cE<|
.p 15 [13,14,11] (.iaddrS 11 (.t 13) (.t 14))<|
.p 16 [15,11] (.faddr 3 (.t 15))<|
.op (some 17) .bool [16,11] (.load none (.t 16))<|
.nil) 18 11 17<|
.m 19 18<|
.gO 19 false (.p 20 [1,19] cE<|
.p 21 [2,19] (.faddr 10 (.t 2))<|
.op (some 22) .i [21,19] (.load none (.t 21))<|
.p 23 [20,22,19] (.bin .geq .none (.t 20) (.t 22))<|
.nil) 24 19 23<|
.m 4 24<|
.nil)
 .ret))
def XN (E:EB) (D:Az) (W:AM) (a:Int) (b:V) (c d e f:Bool) (g h:Int) (i j:V) (k:Int) (l:Bool) (m o:Int) (J:H):AH:=
 G9 [.int .i64 a,b,.bool c,.bool d,.bool e,.bool f,.int .i64 g,.int .i64 h,i,j,.int .i64 k,.bool l,.int .i64 m] J fun s1=>
 BL E s1 (H.next J) 9 fun u2=>
 AT 11 u2 o fun b3 o4=>
 BL E s1 b3 (Ac o4 2) fun u5=>
 An u5 fun x6=>
 BR (fun c7 s8=>
 BR (fun c10 s11=>
 some ((V.bool c10),s11)) fun k12=>
 AS c7 (
 k12 true s8) (
 BL E s8 (H.next J) 10 fun u13=>
 Ah .i64 u13 fun x14=>
 k12 (Hk x14 o) s8)) fun k9=>
 AS x6 (
 k9 true s1) (
 BL E s1 (H.next J) 9 fun u15=>
 AT 11 u15 o fun b16 o17=>
 BL E s1 b16 (Ac o17 3) fun u18=>
 An u18 fun x19=>
 k9 x19 s1)
def bj (N:Nat) (args:List V) (J:H):AH:=
 AE args fun x1 l2=>
 Cw x1 fun l3=>
 A4 .i64 l3 fun x6 l5=>
 AE l5 fun x7 l8=>
 De l8 fun x11 l10=>
 De l10 fun x14 l13=>
 De l13 fun x17 l16=>
 De l16 fun x20 l19=>
 A4 .i64 l19 fun x23 l22=>
 A4 .i64 l22 fun x26 l25=>
 AE l25 fun x27 l28=>
 AE l28 fun x29 l30=>
 A4 .i64 l30 fun x33 l32=>
 De l32 fun x36 l35=>
 A4 .i64 l35 fun x39 l38=>
 AQ l38 (
 A4 .i64 l2 fun x42 l41=>
 AQ l41 (
 XN E D W x6 x7 x11 x14 x17 x20 x23 x26 x27 x29 x33 x36 x39 x42 J))
def AIb:DV:=⟨25,[y2,.i],[(.tmp 4)],yJ⟩
theorem ACp (args:List V) (J:H):Br E D W N AIb args J=bj E D W N args J:=by kernel_rfl
def U4:List (Nat × DM):=[(5,.ptr),(10,.bool),(11,.bool),(30,.any),(31,.i),(32,.i),(45,.any),(46,.i),(47,.i)]
def Fu:List (Nat × List DM):=[(7,[.i,.any,.bool,.bool,.bool,.bool,.i,.i,.any,.any,.i,.bool,.i])]
def qq:List (Nat × DM):=[(5,.ptr),(10,.bool),(11,.bool),(30,.any),(31,.i),(32,.i)]
def JQ:List (Nat × DM):=[(5,.ptr),(30,.any),(31,.i),(32,.i)]
def DB (E:EB):St->AH:=fun s=>EA E s [(.tmp 6)] fun l=>some (EW l,s.J)
def Ml (c0 c1:XC) (l0:St->AH):St->AH:=dX E D W N (.keep JQ [7] Fu c0) (kX JQ [7] Fu l0) (Bn 0 (dX E D W N (.keep [] [] [] c1) (DB E) nX (DB E)) nX) (DB E)
def Im (c0:XC):Nat->St->AH:=Bn 0 (dX E D W N (.keep [] [] [] c0) (DB E) nX (DB E)) nX
def ZL (c0 c1 c2:XC) (l0:St->AH):Nat->St->AH:=Bn 2 (dX E D W N (.keep qq [7] Fu c0) (Ml E D W N c1 c2 l0) (Bn 1 (Ml E D W N c1 c2 l0) (Im E D W N c2)) (DB E)) (Bn 1 (Ml E D W N c1 c2 l0) (Im E D W N c2))
def YY (cc1:XC) (cc2:XC):XC:=(.z (.P 5 (.box 43 (.t 2))<|
.c 6 y3<|
.nil)
 (.z (.m 15 0<|
.n 16 15<|
.f 17 0 16<|
.f 18 0 17<|
.f 19 3 18<|
.l 20 .any 19<|
.m 21 1<|
.s 22 13 20 21<|
.O 23 y2 (.load (some 13) (.t 22))<|
.pal 7 [] 111 [y1,V.nils,y3,y3,y3,y3,y1,y1,V.nils,V.nils,y1,y3,y1]<|
.op none y2 [7,23] (.store 13 (.t 7) (.t 23))<|
.nil)
 (.seq (.z (.m 24 0<|
.n 25 24<|
.f 26 0 25<|
.f 27 0 26<|
.O 28 y4 (.load (some 4) (.t 27))<|
.m 29 1<|
.k 30 .one 176 [(.t 28),(.t 29)]<|
.u 31 30<|
.q 32 0<|
.nil)
 (.block 0 (.loop JQ [7] Fu cc2)))
 (.keep [] [] [] cc1))))
def Tv (E:EB) (D:Az) (W:AM) (K2:Nat->Nat->V->Int->Int->Int->V->Bool->Bool->Bool->Bool->Int->Int->V->V->Int->Bool->Int->H->AH) (a b:Nat) (c d e:Int) (f g:V) (h:Int) (i:V) (J:H):AH:=
 G9 [.int .i64 d,.int .i64 e,f,g,.int .i64 h,i] J fun s1=>
 BL E s1 a (Ac b 3) fun u2=>
 AT 13 u2 c fun b3 o4=>
 BQ E s1 b3 o4 13 fun l5=>
 A4 .i64 l5 fun x8 l7=>
 AE l7 fun x9 l10=>
 De l10 fun x13 l12=>
 De l12 fun x16 l15=>
 De l15 fun x19 l18=>
 De l18 fun x22 l21=>
 A4 .i64 l21 fun x25 l24=>
 A4 .i64 l24 fun x28 l27=>
 AE l27 fun x29 l30=>
 AE l30 fun x31 l32=>
 A4 .i64 l32 fun x35 l34=>
 De l34 fun x38 l37=>
 A4 .i64 l37 fun x41 l40=>
 AQ l40 (
 IT (allOne [.int .i64 x8,x9,.bool x13,.bool x16,.bool x19,.bool x22,.int .i64 x25,.int .i64 x28,x29,x31,.int .i64 x35,.bool x38,.int .i64 x41]) (
 BQ E s1 a b 4 fun l42=>
 Rx l42 fun x45 l44=>
 AE l44 fun x46 l47=>
 AE l47 fun x48 l49=>
 AE l49 fun x50 l51=>
 AQ l51 (
 AW (D 176 [.agg [.str x45,x46,x48,x50],.int .i64 c] s1) fun u52 s53=>
 Cm u52 (
 BA u52 fun n54=>
 K2 (H.next J) 0 u52 (AA n54) (AA 0) x8 x9 x13 x16 x19 x22 x25 x28 x29 x31 x35 x38 x41 s53))))
def FJ:XC:=(.z (.c 6 TC<|
.nil)
 .ret)
def gY (E:EB) (D:Az) (W:AM) (J:H):AH:=
 some ((V.bool true),J)
def OE (cc3:XC) (cc4:XC) (cc5:XC):XC:=(.z (.b 33 .lss .none (.t 32) (.t 31)<|
.nil)
 (.seq (.cond (.tmp 33) .skip
 Oe)
 (.seq (.block 1 (.z (.s 34 1 30 32<|
.l 35 .any 34<|
.m 9 35<|
.nil)
 (.seq (.seq (.draw (.f 36 9 7<|
.l 37 .any 36<|
.m 38 9<|
.P 39 (.iaddrS 1 (.t 38) (.i 0))<|
.l 40 .i 39<|
.s 41 11 37 40<|
.f 42 10 41<|
.l 43 .i 42<|
.b 44 .eql .none (.t 43) (.i 0)<|
.nil) [0,1,0,4,12,31,63,127,255])
 (.cond (.tmp 44) (.exit 1)
 .skip))
 (.z (.c 10 y3<|
.c 11 y3<|
.nil)
 (.seq (.z (.m 45 9<|
.u 46 45<|
.q 47 0<|
.nil)
 (.block 2 (.loop U4 [7] Fu cc5)))
 (.keep qq [7] Fu cc4))))))
 (.keep JQ [7] Fu cc3))))
def Lw (E:EB) (D:Az) (W:AM) (K1:H->AH) (K3:Nat->Nat->V->Int->Int->Int->V->Bool->Bool->Bool->Bool->Int->Int->V->V->Int->Bool->Int->H->AH) (K5:Nat->Nat->Bool->Bool->V->Int->Int->V->Int->Int->Int->V->Bool->Bool->Bool->Bool->Int->Int->V->V->Int->Bool->Int->H->AH) (a b:Nat) (c:V) (d e f:Int) (g:V) (h i j k:Bool) (l m:Int) (o p:V) (q:Int) (r:Bool) (s:Int) (J:H):AH:=
 AS (Ep e d) (
 AT 1 c e fun b1 o2=>
 BL E J b1 o2 fun u3=>
 AT 1 u3 (AA 0) fun b4 o5=>
 BL E J b4 o5 fun u6=>
 Ah .i64 u6 fun x7=>
 AT 11 p x7 fun b8 o9=>
 BL E J b8 (Ac o9 10) fun u10=>
 Ah .i64 u10 fun x11=>
 AS (Cu x11 (AA 0)) (
 K3 a b c d e f g h i j k l m o p q r s J) (
 BA u3 fun n12=>
 K5 a b false false c d e u3 (AA n12) (AA 0) f g h i j k l m o p q r s J)) (
 K1 J)
def GG:XC:=(.ops (.b 90 .add .none (.t 32) (.i 1)<|
.m 32 90<|
.nil))
def gX (E:EB) (D:Az) (W:AM) (R2:Nat->Nat->V->Int->Int->Int->V->Bool->Bool->Bool->Bool->Int->Int->V->V->Int->Bool->Int->H->AH) (a b:Nat) (c:V) (d e f:Int) (g:V) (h i j k:Bool) (l m:Int) (o p:V) (q:Int) (r:Bool) (s:Int) (J:H):AH:=
 R2 a b c d (CU .i64 e (AA 1)) f g h i j k l m o p q r s J
def Hx:XC:=(.z (.m 86 10<|
.m 87 86<|
.gA 87 true (.p 88 [11,87] (.mov (.t 11))<|
.nil) 89 87 88<|
.nil)
 (.cond (.tmp 89) (.z (.c 6 y3<|
.nil)
 .ret)
 .skip))
def gW (E:EB) (D:Az) (W:AM) (K3:Nat->Nat->V->Int->Int->Int->V->Bool->Bool->Bool->Bool->Int->Int->V->V->Int->Bool->Int->H->AH) (a b:Nat) (c d:Bool) (e:V) (f g h:Int) (i:V) (j k l m:Bool) (o p:Int) (q r:V) (s:Int) (t:Bool) (u:Int) (J:H):AH:=
 BR (fun c1 s2=>
 AS c1 (
 some ((V.bool false),s2)) (
 K3 a b e f g h i j k l m o p q r s t u s2)) fun k3=>
 AS c (
 k3 d J) (
 k3 false J)
def JI:XC:=(.z (.b 48 .lss .none (.t 47) (.t 46)<|
.nil)
 (.seq (.cond (.tmp 48) .skip
 (.exit 2))
 (.seq (.block 3 (.z (.s 49 1 45 47<|
.l 50 .i 49<|
.m 13 50<|
.nil)
 (.z (.f 51 3 5<|
.l 52 .any 51<|
.m 53 13<|
.s 54 6 52 53<|
.O 55 y0 (.load (some 6) (.t 54))<|
.k 56 .bool 188 [(.t 55)]<|
.P 57 (.un .not (.t 56))<|
.m 14 57<|
.nil)
 (.z (.m 58 10<|
.m 59 58<|
.gO 59 false (.p 60 [14,59] (.mov (.t 14))<|
.nil) 61 59 60<|
.m 10 61<|
.nil)
 (.ops (.m 62 11<|
.m 63 62<|
.gO 63 false (.p 64 [14,63] (.mov (.t 14))<|
.p 65 [64,63] (.un .not (.t 64))<|
.p 66 [65,63] (.mov (.t 65))<|
.grp 66 true (.p 67 [7,66] (.faddr 9 (.t 7))<|
.p 68 [67,66] (.load none (.t 67))<|
.p 69 [13,66] (.mov (.t 13))<|
.p 70 [68,69,66] (.iaddrS 11 (.t 68) (.t 69))<|
.p 71 [70,66] (.faddr 2 (.t 70))<|
.op (some 72) .bool [71,66] (.load none (.t 71))<|
.p 73 [72,66] (.un .not (.t 72))<|
.nil) 74 [66,73,63] (.t 66) (.t 73) (.con y3)<|
.p 75 [74,63] (.mov (.t 74))<|
.grp 75 true (.p 76 [7,75] (.faddr 9 (.t 7))<|
.p 77 [76,75] (.load none (.t 76))<|
.p 78 [13,75] (.mov (.t 13))<|
.p 79 [77,78,75] (.iaddrS 11 (.t 77) (.t 78))<|
.p 80 [79,75] (.faddr 3 (.t 79))<|
.op (some 81) .bool [80,75] (.load none (.t 80))<|
.p 82 [81,75] (.un .not (.t 81))<|
.nil) 83 [75,82,63] (.t 75) (.t 82) (.con y3)<|
.nil) 84 63 83<|
.m 11 84<|
.nil))))))
 (.ops (.b 85 .add .none (.t 47) (.i 1)<|
.m 47 85<|
.nil)))))
def gV (E:EB) (D:Az) (W:AM) (K4:Nat->Nat->Bool->Bool->V->Int->Int->Int->V->Bool->Bool->Bool->Bool->Int->Int->V->V->Int->Bool->Int->H->AH) (R5:Nat->Nat->Bool->Bool->V->Int->Int->V->Int->Int->Int->V->Bool->Bool->Bool->Bool->Int->Int->V->V->Int->Bool->Int->H->AH) (a b:Nat) (c d:Bool) (e:V) (f g:Int) (h:V) (i j k:Int) (l:V) (m o p q:Bool) (r s:Int) (t u:V) (v:Int) (w:Bool) (x:Int) (J:H):AH:=
 AS (Ep j i) (
 AT 1 h j fun b1 o2=>
 BL E J b1 o2 fun u3=>
 Ah .i64 u3 fun x4=>
 BL E J a (Ac b 3) fun u5=>
 AT 6 u5 x4 fun b6 o7=>
 BQ E J b6 o7 6 fun l8=>
 A4 .i64 l8 fun x11 l10=>
 A4 .i64 l10 fun x14 l13=>
 AE l13 fun x15 l16=>
 AE l16 fun x17 l18=>
 A4 .i64 l18 fun x21 l20=>
 AE l20 fun x22 l23=>
 AQ l23 (
 AW (D 188 [.agg [.int .i64 x11,.int .i64 x14,x15,x17,.int .i64 x21,x22]] J) fun u24 s25=>
 An u24 fun x26=>
 BR (fun c27 s28=>
 BR (fun c30 s31=>
 R5 a b c27 c30 e f g h i (CU .i64 j (AA 1)) k l m o p q r s t u v w x s31) fun k32=>
 AS d (
 k32 true s28) (
 BR (fun c33 s34=>
 BR (fun c36 s37=>
 k32 c36 s37) fun k38=>
 AS c33 (
 AT 11 u x4 fun b39 o40=>
 BL E s34 b39 (Ac o40 3) fun u41=>
 An u41 fun x42=>
 k38 (not x42) s34) (
 k38 false s34)) fun k35=>
 AS (not (not x26)) (
 AT 11 u x4 fun b43 o44=>
 BL E s28 b43 (Ac o44 2) fun u45=>
 An u45 fun x46=>
 k35 (not x46) s28) (
 k35 false s28))) fun k29=>
 AS c (
 k29 true s25) (
 k29 (not x26) s25))) (
 K4 a b c d e f g k l m o p q r s t u v w x J)
def iY (a b:Nat) (c d e:Int) (f g:V) (h:Int) (i:V) (J:H):St:=⟨[(0,.ptr a b),(1,.int .i64 c),(2,.agg [.int .i64 d,.int .i64 e,f,g,.int .i64 h,i])],[],[],J⟩
def iX (J:H):St:=⟨[],[],[],J⟩
def Hs (a b:Nat) (c:V) (d e f:Int) (g:V) (h i j k:Bool) (l m:Int) (o p:V) (q:Int) (r:Bool) (s:Int) (J:H):St:=⟨[(5,.ptr a b),(30,c),(31,.int .i64 d),(32,.int .i64 e)],[(7,(7,0))],[(7,[.int .i64 f,g,.bool h,.bool i,.bool j,.bool k,.int .i64 l,.int .i64 m,o,p,.int .i64 q,.bool r,.int .i64 s])],J⟩
def X1 (a b:Nat) (c d:Bool) (e:V) (f g h:Int) (i:V) (j k l m:Bool) (o p:Int) (q r:V) (s:Int) (t:Bool) (u:Int) (J:H):St:=⟨[(5,.ptr a b),(10,.bool c),(11,.bool d),(30,e),(31,.int .i64 f),(32,.int .i64 g)],[(7,(7,0))],[(7,[.int .i64 h,i,.bool j,.bool k,.bool l,.bool m,.int .i64 o,.int .i64 p,q,r,.int .i64 s,.bool t,.int .i64 u])],J⟩
def UQ (a b:Nat) (c d:Bool) (e:V) (f g:Int) (h:V) (i j k:Int) (l:V) (m o p q:Bool) (r s:Int) (t u:V) (v:Int) (w:Bool) (x:Int) (J:H):St:=⟨[(5,.ptr a b),(10,.bool c),(11,.bool d),(30,e),(31,.int .i64 f),(32,.int .i64 g),(45,h),(46,.int .i64 i),(47,.int .i64 j)],[(7,(7,0))],[(7,[.int .i64 k,l,.bool m,.bool o,.bool p,.bool q,.int .i64 r,.int .i64 s,t,u,.int .i64 v,.bool w,.int .i64 x])],J⟩
theorem wE (cc1:XC) (cc2:XC) (a b:Nat) (c d e:Int) (f g:V) (h:Int) (i:V) (J:H) :
 AU E D W N (YY cc1 cc2) (iY a b c d e f g h i J) (DB E) nX (DB E) =
 Tv E D W (fun j k l m o p q r s t u v w x y z B I J=>Aw (fun rec s'=>AU E D W N cc2 s' (kX JQ [7] Fu rec) (Im E D W N cc1) (DB E)) N (Hs j k l m o p q r s t u v w x y z B I J)) a b c d e f g h i J:=by kernel_rfl
theorem wD (cc1:XC) (cc3:XC) (cc4:XC) (cc5:XC) (li2:St->AH) (a b:Nat) (c:V) (d e f:Int) (g:V) (h i j k:Bool) (l m:Int) (o p:V) (q:Int) (r:Bool) (s:Int) (J:H) :
 AU E D W N (OE cc3 cc4 cc5) (Hs a b c d e f g h i j k l m o p q r s J) (kX JQ [7] Fu li2) (Im E D W N cc1) (DB E) =
 Lw E D W (fun  J=>AU E D W N cc1 (iX J) (DB E) nX (DB E)) (fun a b c d e f g h i j k l m o p q r s J=>AU E D W N cc3 (Hs a b c d e f g h i j k l m o p q r s J) (kX JQ [7] Fu li2) (Im E D W N cc1) (DB E)) (fun a b t u c d e v w x f g h i j k l m o p q r s J=>Aw (fun rec s'=>AU E D W N cc5 s' (kX U4 [7] Fu rec) (ZL E D W N cc4 cc3 cc1 li2) (DB E)) N (UQ a b t u c d e v w x f g h i j k l m o p q r s J)) a b c d e f g h i j k l m o p q r s J:=by kernel_rfl
theorem wC (cc1:XC) (li2:St->AH) (a b:Nat) (c:V) (d e f:Int) (g:V) (h i j k:Bool) (l m:Int) (o p:V) (q:Int) (r:Bool) (s:Int) (J:H) :
 AU E D W N (GG ) (Hs a b c d e f g h i j k l m o p q r s J) (kX JQ [7] Fu li2) (Im E D W N cc1) (DB E) =
 gX E D W (fun a b c d e f g h i j k l m o p q r s J=>li2 (Hs a b c d e f g h i j k l m o p q r s J)) a b c d e f g h i j k l m o p q r s J:=by kernel_rfl
theorem wB (cc1:XC) (cc3:XC) (li2:St->AH) (a b:Nat) (c d:Bool) (e:V) (f g h:Int) (i:V) (j k l m:Bool) (o p:Int) (q r:V) (s:Int) (t:Bool) (u:Int) (J:H) :
 AU E D W N (Hx ) (X1 a b c d e f g h i j k l m o p q r s t u J) (Ml E D W N cc3 cc1 li2) (Bn 1 (Ml E D W N cc3 cc1 li2) (Im E D W N cc1)) (DB E) =
 gW E D W (fun a b e f g h i j k l m o p q r s t u J=>AU E D W N cc3 (Hs a b e f g h i j k l m o p q r s t u J) (kX JQ [7] Fu li2) (Im E D W N cc1) (DB E)) a b c d e f g h i j k l m o p q r s t u J:=by kernel_rfl
theorem wA (cc1:XC) (cc3:XC) (cc4:XC) (li2:St->AH) (li5:St->AH) (a b:Nat) (c d:Bool) (e:V) (f g:Int) (h:V) (i j k:Int) (l:V) (m o p q:Bool) (r s:Int) (t u:V) (v:Int) (w:Bool) (x:Int) (J:H) :
 AU E D W N (JI ) (UQ a b c d e f g h i j k l m o p q r s t u v w x J) (kX U4 [7] Fu li5) (ZL E D W N cc4 cc3 cc1 li2) (DB E) =
 gV E D W (fun a b c d e f g k l m o p q r s t u v w x J=>AU E D W N cc4 (X1 a b c d e f g k l m o p q r s t u v w x J) (Ml E D W N cc3 cc1 li2) (Bn 1 (Ml E D W N cc3 cc1 li2) (Im E D W N cc1)) (DB E)) (fun a b c d e f g h i j k l m o p q r s t u v w x J=>li5 (UQ a b c d e f g h i j k l m o p q r s t u v w x J)) a b c d e f g h i j k l m o p q r s t u v w x J:=by kernel_rfl
def je (E:EB) (D:Az) (W:AM) (N:Nat):=gY E D W
theorem px (J:H) :
 AU E D W N FJ (iX J) (DB E) nX (DB E)=je E D W N  J:=by kernel_rfl
def YE (E:EB) (D:Az) (W:AM) (N:Nat) (R2:Nat->Nat->V->Int->Int->Int->V->Bool->Bool->Bool->Bool->Int->Int->V->V->Int->Bool->Int->H->AH):=gX E D W R2
theorem Zu (li2:St->AH) (a b:Nat) (c:V) (d e f:Int) (g:V) (h i j k:Bool) (l m:Int) (o p:V) (q:Int) (r:Bool) (s:Int) (J:H) :
 AU E D W N GG (Hs a b c d e f g h i j k l m o p q r s J) (kX JQ [7] Fu li2) (Im E D W N FJ) (DB E)=YE E D W N (fun a b c d e f g h i j k l m o p q r s J=>li2 (Hs a b c d e f g h i j k l m o p q r s J)) a b c d e f g h i j k l m o p q r s J:=by
 refine(wC E D W N FJ li2 a b c d e f g h i j k l m o p q r s J).trans ?_
 kernel_rfl
def jd (R2:Nat->Nat->V->Int->Int->Int->V->Bool->Bool->Bool->Bool->Int->Int->V->V->Int->Bool->Int->H->AH):=gW E D W (YE E D W N R2)
theorem pv (li2:St->AH) (a b:Nat) (c d:Bool) (e:V) (f g h:Int) (i:V) (j k l m:Bool) (o p:Int) (q r:V) (s:Int) (t:Bool) (u:Int) (J:H) :
 AU E D W N Hx (X1 a b c d e f g h i j k l m o p q r s t u J) (Ml E D W N GG FJ li2) (Bn 1 (Ml E D W N GG FJ li2) (Im E D W N FJ)) (DB E)=jd E D W N (fun a b e f g h i j k l m o p q r s t u J=>li2 (Hs a b e f g h i j k l m o p q r s t u J)) a b c d e f g h i j k l m o p q r s t u J:=by
 refine(wB E D W N FJ GG li2 a b c d e f g h i j k l m o p q r s t u J).trans ?_
 simp only[Zu]
 kernel_rfl
def jD (R2:Nat->Nat->V->Int->Int->Int->V->Bool->Bool->Bool->Bool->Int->Int->V->V->Int->Bool->Int->H->AH) (n:Nat):Nat->Nat->Bool->Bool->V->Int->Int->V->Int->Int->Int->V->Bool->Bool->Bool->Bool->Int->Int->V->V->Int->Bool->Int->H->AH:=
 Nat.rec (fun _ _ _ _ _ _ _ _ _ _ _ _ _ _ _ _ _ _ _ _ _ _ _ _=>none) (fun _ ih=>gV E D W (jd E D W N R2) ih) n
theorem pA (li2:St->AH) (n:Nat):∀(a b:Nat) (c d:Bool) (e:V) (f g:Int) (h:V) (i j k:Int) (l:V) (m o p q:Bool) (r s:Int) (t u:V) (v:Int) (w:Bool) (x:Int) (J:H),
 Aw (fun rec s'=>AU E D W N JI s' (kX U4 [7] Fu rec) (ZL E D W N Hx GG FJ li2) (DB E)) n (UQ a b c d e f g h i j k l m o p q r s t u v w x J)=jD E D W N (fun a b e f g k l m o p q r s t u v w x J=>li2 (Hs a b e f g k l m o p q r s t u v w x J)) n a b c d e f g h i j k l m o p q r s t u v w x J:=by
 induction n with
 | zero=>intro a b c d e f g h i j k l m o p q r s t u v w x J;rfl
 | succ n ihn=>
  intro a b c d e f g h i j k l m o p q r s t u v w x J
  rw[BB]
  refine(wA E D W N FJ GG Hx li2 (Aw (fun rec s'=>AU E D W N JI s' (kX U4 [7] Fu rec) (ZL E D W N Hx GG FJ li2) (DB E)) n) a b c d e f g h i j k l m o p q r s t u v w x J).trans ?_
  simp only[ihn,pv]
  kernel_rfl
def Ub (n:Nat):Nat->Nat->V->Int->Int->Int->V->Bool->Bool->Bool->Bool->Int->Int->V->V->Int->Bool->Int->H->AH:=
 Nat.rec (fun _ _ _ _ _ _ _ _ _ _ _ _ _ _ _ _ _ _ _=>none) (fun _ ih=>Lw E D W (je E D W N ) (YE E D W N ih) (jD E D W N ih N)) n
theorem pB (n:Nat):∀(a b:Nat) (c:V) (d e f:Int) (g:V) (h i j k:Bool) (l m:Int) (o p:V) (q:Int) (r:Bool) (s:Int) (J:H),
 Aw (fun rec s'=>AU E D W N (OE GG Hx JI) s' (kX JQ [7] Fu rec) (Im E D W N FJ) (DB E)) n (Hs a b c d e f g h i j k l m o p q r s J)=Ub E D W N n a b c d e f g h i j k l m o p q r s J:=by
 induction n with
 | zero=>intro a b c d e f g h i j k l m o p q r s J;rfl
 | succ n ihn=>
  intro a b c d e f g h i j k l m o p q r s J
  rw[BB]
  refine(wD E D W N FJ GG Hx JI (Aw (fun rec s'=>AU E D W N (OE GG Hx JI) s' (kX JQ [7] Fu rec) (Im E D W N FJ) (DB E)) n) a b c d e f g h i j k l m o p q r s J).trans ?_
  simp only[ihn,px,Zu,pA]
  kernel_rfl
def jf:=Tv E D W (Ub E D W N N)
theorem py (a b:Nat) (c d e:Int) (f g:V) (h:Int) (i:V) (J:H) :
 AU E D W N (YY FJ (OE GG Hx JI)) (iY a b c d e f g h i J) (DB E) nX (DB E)=jf E D W N a b c d e f g h i J:=by
 refine(wE E D W N FJ (OE GG Hx JI)  a b c d e f g h i J).trans ?_
 simp only[pB]
 kernel_rfl
def YJ (args:List V) (J:H):AH:=
 AE args fun x1 l2=>
 Ar x1 fun b3 o4=>
 A4 .i64 l2 fun x7 l6=>
 AE l6 fun x8 l9=>
 Cw x8 fun l10=>
 A4 .i64 l10 fun x13 l12=>
 A4 .i64 l12 fun x16 l15=>
 AE l15 fun x17 l18=>
 AE l18 fun x19 l20=>
 A4 .i64 l20 fun x23 l22=>
 AE l22 fun x24 l25=>
 AQ l25 (
 AQ l9 (
 jf E D W N b3 o4 x7 x13 x16 x17 x19 x23 x24 J))
def AIa:DV:=⟨91,[.ptr,.i,y0],[(.tmp 6)],(YY FJ (OE GG Hx JI))⟩
theorem ACo (args:List V) (J:H):Br E D W N AIa args J=YJ E D W N args J:=by
 unfold YJ
 simp only[<-py]
 kernel_rfl
def U3:List (Nat × DM):=[(0,.any),(1,.any),(7,.i),(8,.i)]
def GB (E:EB):St->AH:=fun s=>EA E s [(.tmp 4)] fun l=>some (EW l,s.J)
def ZK (c0:XC):Nat->St->AH:=Bn 0 (dX E D W N (.keep [] [] [] c0) (GB E) nX (GB E)) nX
def YX (cc1:XC) (cc2:XC):XC:=(.z (.q 4 0<|
.nil)
 (.seq (.z (.m 6 0<|
.u 7 6<|
.q 8 0<|
.nil)
 (.block 0 (.loop U3 [] [] cc2)))
 (.keep [] [] [] cc1)))
def Tu (E:EB) (D:Az) (W:AM) (K2:V->V->Int->Int->H->AH) (a b:V) (J:H):AH:=
 BA a fun n1=>
 K2 a b (AA n1) (AA 0) J
def L8:XC:=(.z (.c 4 zG<|
.nil)
 .ret)
def uz (E:EB) (D:Az) (W:AM) (J:H):AH:=
 some ((V.int .i64 (FM 0)),J)
def OD:XC:=(.z (.b 9 .lss .none (.t 8) (.t 7)<|
.nil)
 (.seq zF
 (.seq (.block 1 (.z (.m 10 8<|
.m 5 10<|
.nil)
 (.z (.m 11 1<|
.m 12 0<|
.m 13 5<|
.s 14 6 12 13<|
.O 15 y0 (.load (some 6) (.t 14))<|
.O 16 .bool (.callv (.t 11) [(.t 15)])<|
.nil)
 y17)))
 y20)))
def Nc (E:EB) (D:Az) (W:AM) (K1:H->AH) (R2:V->V->Int->Int->H->AH) (a b:V) (c d:Int) (J:H):AH:=
 AS (Ep d c) (
 AT 6 a d fun b1 o2=>
 BQ E J b1 o2 6 fun l3=>
 A4 .i64 l3 fun x6 l5=>
 A4 .i64 l5 fun x9 l8=>
 AE l8 fun x10 l11=>
 AE l11 fun x12 l13=>
 A4 .i64 l13 fun x16 l15=>
 AE l15 fun x17 l18=>
 AQ l18 (
 Ed D b [.agg [.int .i64 x6,.int .i64 x9,x10,x12,.int .i64 x16,x17]] J fun u19 s20=>
 An u19 fun x21=>
 AS x21 (
 some ((V.int .i64 d),s20)) (
 R2 a b c (CU .i64 d (AA 1)) s20))) (
 K1 J)
def iW (a b:V) (J:H):St:=⟨[(0,a),(1,b)],[],[],J⟩
def iV (J:H):St:=⟨[],[],[],J⟩
def UP (a b:V) (c d:Int) (J:H):St:=⟨[(0,a),(1,b),(7,.int .i64 c),(8,.int .i64 d)],[],[],J⟩
theorem v9 (cc1:XC) (cc2:XC) (a b:V) (J:H) :
 AU E D W N (YX cc1 cc2) (iW a b J) (GB E) nX (GB E) =
 Tu E D W (fun a b c d J=>Aw (fun rec s'=>AU E D W N cc2 s' (kX U3 [] [] rec) (ZK E D W N cc1) (GB E)) N (UP a b c d J)) a b J:=by kernel_rfl
theorem vy (cc1:XC) (li2:St->AH) (a b:V) (c d:Int) (J:H) :
 AU E D W N (OD ) (UP a b c d J) (kX U3 [] [] li2) (ZK E D W N cc1) (GB E) =
 Nc E D W (fun  J=>AU E D W N cc1 (iV J) (GB E) nX (GB E)) (fun a b c d J=>li2 (UP a b c d J)) a b c d J:=by kernel_rfl
def ja (E:EB) (D:Az) (W:AM) (N:Nat):=uz E D W
theorem pq (J:H) :
 AU E D W N L8 (iV J) (GB E) nX (GB E)=ja E D W N  J:=by kernel_rfl
def RM (n:Nat):V->V->Int->Int->H->AH:=
 Nat.rec (fun _ _ _ _ _=>none) (fun _ ih=>Nc E D W (ja E D W N ) ih) n
theorem o0 (n:Nat):∀(a b:V) (c d:Int) (J:H),
 Aw (fun rec s'=>AU E D W N OD s' (kX U3 [] [] rec) (ZK E D W N L8) (GB E)) n (UP a b c d J)=RM E D W N n a b c d J:=by
 induction n with
 | zero=>intro a b c d J;rfl
 | succ n ihn=>
  intro a b c d J
  rw[BB]
  refine(vy E D W N L8 (Aw (fun rec s'=>AU E D W N OD s' (kX U3 [] [] rec) (ZK E D W N L8) (GB E)) n) a b c d J).trans ?_
  simp only[ihn,pq]
  kernel_rfl
def jc:=Tu E D W (RM E D W N N)
theorem pr (a b:V) (J:H) :
 AU E D W N (YX L8 OD) (iW a b J) (GB E) nX (GB E)=jc E D W N a b J:=by
 refine(v9 E D W N L8 OD  a b J).trans ?_
 simp only[o0]
 kernel_rfl
def bh (args:List V) (J:H):AH:=
 AE args fun x1 l2=>
 AE l2 fun x3 l4=>
 AQ l4 (
 jc E D W N x1 x3 J)
def AIZ:DV:=⟨19,lB,[(.tmp 4)],(YX L8 OD)⟩
theorem ACn (args:List V) (J:H):Br E D W N AIZ args J=bh E D W N args J:=by
 unfold bh
 simp only[<-pr]
 kernel_rfl
def yI:XC:=(.seq (.z (.m 6 0<|
.b 7 .eql .ptr (.t 6) Z5<|
.nil)
 (.cond (.tmp 7) .ret
 .skip))
 (.z (.m 8 2<|
.k 9 .i 82 [(.t 8)]<|
.m 2 9<|
.nil)
 (.z (.m 10 0<|
.n 11 10<|
.f 12 0 11<|
.m 13 1<|
.b 14 .shr .none (.t 13) (.con (V.int .u64 (AA 32)))<|
.P 15 (.conv (.toInt .u32) (.t 14))<|
.m 16 2<|
.b 17 .sub .none (.t 16) (.i 32)<|
.k 18 y6 232 [(.t 12),(.t 15),(.t 17)]<|
.nil)
 (.ops (.m 19 0<|
.n 20 19<|
.f 21 0 20<|
.m 22 1<|
.P 23 (.conv (.toInt .u32) (.t 22))<|
.m 24 2<|
.p 25 [24] (.min (.t 24) [(.i 32)])<|
.k 26 y6 232 [(.t 21),(.t 23),(.t 25)]<|
.nil)))))
def XM (E:EB) (D:Az) (W:AM) (a:V) (b c:Int) (J:H):AH:=
 SV .ptr a V.nilp fun c1=>
 AS c1 (
 some ((V.tup []),J)) (
 AW (D 82 [.int .i64 c] J) fun u2 s3=>
 Ah .i64 u2 fun x4=>
 Ar a fun b5 o6=>
 AW (D 232 [.ptr b5 o6,.int .u32 (BP .u32 (LA .u64 b 32)),.int .i64 (E6 .i64 x4 (AA 32))] s3) fun u7 s8=>
 Bc u7 fun l9=>
 AQ l9 (
 Ar a fun b10 o11=>
 AW (D 232 [.ptr b10 o11,.int .u32 (BP .u32 b),.int .i64 (HL x4 (AA 32))] s8) fun u12 s13=>
 Bc u12 fun l14=>
 AQ l14 (
 some ((V.tup []),s13))))
def kF (N:Nat) (args:List V) (J:H):AH:=
 AE args fun x1 l2=>
 A4 .u64 l2 fun x5 l4=>
 A4 .i64 l4 fun x8 l7=>
 AQ l7 (
 XM E D W x1 x5 x8 J)
def AIY:DV:=⟨27,[.any,(.int .u64),.i],[],yI⟩
theorem ACm (args:List V) (J:H):Br E D W N AIY args J=kF E D W N args J:=by kernel_rfl
def U2:List (Nat × DM):=[(3,.any),(6,.any),(7,.i),(8,.i)]
def GA (E:EB):St->AH:=fun s=>EA E s [(.tmp 2)] fun l=>some (EW l,s.J)
def ZJ (c0:XC):Nat->St->AH:=Bn 0 (dX E D W N (.keep [(3,.any)] [] [] c0) (GA E) nX (GA E)) nX
def YW (cc1:XC) (cc2:XC):XC:=(.z (.c 2 V.nils<|
.nil)
 (.z (.c 3 V.nils<|
.nil)
 (.seq (.z (.m 6 0<|
.u 7 6<|
.q 8 0<|
.nil)
 (.block 0 (.loop U2 [] [] cc2)))
 (.keep [(3,.any)] [] [] cc1))))
def gT (E:EB) (D:Az) (W:AM) (K2:V->V->Int->Int->H->AH) (a:V) (J:H):AH:=
 BA a fun n1=>
 K2 V.nils a (AA n1) (AA 0) J
def L7:XC:=(.z (.m 16 3<|
.m 2 16<|
.nil)
 .ret)
def XK (E:EB) (D:Az) (W:AM) (a:V) (J:H):AH:=
 some (a,J)
def OC:XC:=(.z (.b 9 .lss .none (.t 8) (.t 7)<|
.nil)
 (.seq zF
 (.seq (.block 1 (.z (.s 10 1 6 8<|
.l 11 .any 10<|
.m 5 11<|
.nil)
 (.ops (.m 12 3<|
.m 13 5<|
.O 14 .one (.append 5 1 1 (.t 12) (.t 13))<|
.m 3 14<|
.nil))))
 (.ops (.b 15 .add .none (.t 8) (.i 1)<|
.m 8 15<|
.nil)))))
def KM (E:EB) (D:Az) (W:AM) (K1:V->H->AH) (R2:V->V->Int->Int->H->AH) (a b:V) (c d:Int) (J:H):AH:=
 AS (Ep d c) (
 AT 1 b d fun b1 o2=>
 BL E J b1 o2 fun u3=>
 Ee E 1 1 a u3 J fun u4 s5=>
 Cm u4 (
 R2 u4 b c (CU .i64 d (AA 1)) s5)) (
 K1 a J)
def iU (a:V) (J:H):St:=⟨[(0,a)],[],[],J⟩
def iT (a:V) (J:H):St:=⟨[(3,a)],[],[],J⟩
def UO (a b:V) (c d:Int) (J:H):St:=⟨[(3,a),(6,b),(7,.int .i64 c),(8,.int .i64 d)],[],[],J⟩
theorem vw (cc1:XC) (cc2:XC) (a:V) (J:H) :
 AU E D W N (YW cc1 cc2) (iU a J) (GA E) nX (GA E) =
 gT E D W (fun b c d e J=>Aw (fun rec s'=>AU E D W N cc2 s' (kX U2 [] [] rec) (ZJ E D W N cc1) (GA E)) N (UO b c d e J)) a J:=by kernel_rfl
theorem vu (cc1:XC) (li2:St->AH) (a b:V) (c d:Int) (J:H) :
 AU E D W N (OC ) (UO a b c d J) (kX U2 [] [] li2) (ZJ E D W N cc1) (GA E) =
 KM E D W (fun a J=>AU E D W N cc1 (iT a J) (GA E) nX (GA E)) (fun a b c d J=>li2 (UO a b c d J)) a b c d J:=by kernel_rfl
def jY (E:EB) (D:Az) (W:AM) (N:Nat):=XK E D W
theorem pk (a:V) (J:H) :
 AU E D W N L7 (iT a J) (GA E) nX (GA E)=jY E D W N a J:=by kernel_rfl
def X8 (n:Nat):V->V->Int->Int->H->AH:=
 Nat.rec (fun _ _ _ _ _=>none) (fun _ ih=>KM E D W (jY E D W N ) ih) n
theorem oz (n:Nat):∀(a b:V) (c d:Int) (J:H),
 Aw (fun rec s'=>AU E D W N OC s' (kX U2 [] [] rec) (ZJ E D W N L7) (GA E)) n (UO a b c d J)=X8 E D W N n a b c d J:=by
 induction n with
 | zero=>intro a b c d J;rfl
 | succ n ihn=>
  intro a b c d J
  rw[BB]
  refine(vu E D W N L7 (Aw (fun rec s'=>AU E D W N OC s' (kX U2 [] [] rec) (ZJ E D W N L7) (GA E)) n) a b c d J).trans ?_
  simp only[ihn,pk]
  kernel_rfl
def jZ:=gT E D W (X8 E D W N N)
theorem po (a:V) (J:H) :
 AU E D W N (YW L7 OC) (iU a J) (GA E) nX (GA E)=jZ E D W N a J:=by
 refine(vw E D W N L7 OC  a J).trans ?_
 simp only[oz]
 kernel_rfl
def bg (args:List V) (J:H):AH:=
 AE args fun x1 l2=>
 AQ l2 (
 jZ E D W N x1 J)
def AIX:DV:=⟨17,[.any],[(.tmp 2)],(YW L7 OC)⟩
theorem ACl (args:List V) (J:H):Br E D W N AIX args J=bg E D W N args J:=by
 unfold bg
 simp only[<-po]
 kernel_rfl
def U1:List (Nat × DM):=[(0,.i),(3,.any),(4,.bool)]
def F0 (E:EB):St->AH:=fun s=>EA E s [(.tmp 2)] fun l=>some (EW l,s.J)
def ZI (c0:XC):Nat->St->AH:=Bn 0 (dX E D W N (.keep [(3,.any)] [] [] c0) (F0 E) nX (F0 E)) nX
def YV (cc1:XC) (cc2:XC):XC:=(.z (.c 2 V.nils<|
.nil)
 (.z (.m 6 0<|
.p 7 [6] (.max (.t 6) [(.i 0)])<|
.m 0 7<|
.nil)
 (.z (.c 3 V.nils<|
.nil)
 (.seq (.z (.c 4 TC<|
.nil)
 (.block 0 (.loop U1 [] [] cc2)))
 (.keep [(3,.any)] [] [] cc1)))))
def gS (E:EB) (D:Az) (W:AM) (K2:Int->V->Bool->H->AH) (a:Int) (J:H):AH:=
 K2 (GW a (AA 0)) V.nils true J
def L6:XC:=(.z (.m 21 3<|
.m 2 21<|
.nil)
 .ret)
def G4 (E:EB) (D:Az) (W:AM) (a:V) (J:H):AH:=
 some (a,J)
def OB:XC:=(.seq (.z (.m 8 4<|
.nil)
 (.cond (.tmp 8) .skip
 Oe))
 (.block 1 (.z (.q 5 0<|
.nil)
 (.z (.m 10 0<|
.k 11 (.tup [.i,.bool]) 233 [(.t 10)]<|
.m 9 11<|
.P 12 (.extract 0 (.t 9))<|
.P 13 (.extract 1 (.t 9))<|
.m 5 12<|
.m 4 13<|
.nil)
 (.ops (.m 14 3<|
.m 15 5<|
.p 16 [15] (.buildSlice 3 1 [y1] [(0,1,(.t 15))])<|
.O 17 .one (.append 3 1 8 (.t 14) (.t 16))<|
.m 18 0<|
.m 19 5<|
.b 20 .sub .none (.t 18) (.t 19)<|
.m 3 17<|
.m 0 20<|
.nil))))))
def Eg (E:EB) (D:Az) (W:AM) (K1:V->H->AH) (R2:Int->V->Bool->H->AH) (a:Int) (b:V) (c:Bool) (J:H):AH:=
 AS c (
 AW (D 233 [.int .i64 a] J) fun u1 s2=>
 Bc u1 fun l3=>
 A4 .i64 l3 fun x6 l5=>
 De l5 fun x9 l8=>
 AQ l8 (
 let s10:=DR s2 (.cells [.int .i64 x6]);
 Ee E 1 8 b (V.sl (H.next s2) 0 1 (.ex 1)) s10 fun u11 s12=>
 Cm u11 (
 R2 (E6 .i64 a x6) u11 x9 s12))) (
 K1 b J)
def iS (a:Int) (J:H):St:=⟨[(0,.int .i64 a)],[],[],J⟩
def iR (a:V) (J:H):St:=⟨[(3,a)],[],[],J⟩
def UN (a:Int) (b:V) (c:Bool) (J:H):St:=⟨[(0,.int .i64 a),(3,b),(4,.bool c)],[],[],J⟩
theorem vp (cc1:XC) (cc2:XC) (a:Int) (J:H) :
 AU E D W N (YV cc1 cc2) (iS a J) (F0 E) nX (F0 E) =
 gS E D W (fun a b c J=>Aw (fun rec s'=>AU E D W N cc2 s' (kX U1 [] [] rec) (ZI E D W N cc1) (F0 E)) N (UN a b c J)) a J:=by kernel_rfl
theorem vj (cc1:XC) (li2:St->AH) (a:Int) (b:V) (c:Bool) (J:H) :
 AU E D W N (OB ) (UN a b c J) (kX U1 [] [] li2) (ZI E D W N cc1) (F0 E) =
 Eg E D W (fun b J=>AU E D W N cc1 (iR b J) (F0 E) nX (F0 E)) (fun a b c J=>li2 (UN a b c J)) a b c J:=by kernel_rfl
def jW (E:EB) (D:Az) (W:AM) (N:Nat):=G4 E D W
theorem pg (a:V) (J:H) :
 AU E D W N L6 (iR a J) (F0 E) nX (F0 E)=jW E D W N a J:=by kernel_rfl
def RL (n:Nat):Int->V->Bool->H->AH:=
 Nat.rec (fun _ _ _ _=>none) (fun _ ih=>Eg E D W (jW E D W N ) ih) n
theorem ov (n:Nat):∀(a:Int) (b:V) (c:Bool) (J:H),
 Aw (fun rec s'=>AU E D W N OB s' (kX U1 [] [] rec) (ZI E D W N L6) (F0 E)) n (UN a b c J)=RL E D W N n a b c J:=by
 induction n with
 | zero=>intro a b c J;rfl
 | succ n ihn=>
  intro a b c J
  rw[BB]
  refine(vj E D W N L6 (Aw (fun rec s'=>AU E D W N OB s' (kX U1 [] [] rec) (ZI E D W N L6) (F0 E)) n) a b c J).trans ?_
  simp only[ihn,pg]
  kernel_rfl
def jX:=gS E D W (RL E D W N N)
theorem ph (a:Int) (J:H) :
 AU E D W N (YV L6 OB) (iS a J) (F0 E) nX (F0 E)=jX E D W N a J:=by
 refine(vp E D W N L6 OB  a J).trans ?_
 simp only[ov]
 kernel_rfl
def YI (args:List V) (J:H):AH:=
 A4 .i64 args fun x3 l2=>
 AQ l2 (
 jX E D W N x3 J)
def AIW:DV:=⟨22,[.i],[(.tmp 2)],(YV L6 OB)⟩
theorem ACk (args:List V) (J:H):Br E D W N AIW args J=YI E D W N args J:=by
 unfold YI
 simp only[<-ph]
 kernel_rfl
def yH:XC:=(.block 0 (.z (.m 13 2<|
.m 12 13<|
.nil)
 (.cond (.tmp 12) (.z (.m 14 0<|
.k 15 y6 193 [(.t 14),(.con (V.int .u64 (AA 3))),(.i 2)]<|
.nil)
 (.ops (.m 16 0<|
.m 17 1<|
.b 18 .quo .none (.t 17) (.i 16384)<|
.P 19 (.conv (.toInt .u64) (.t 18))<|
.k 20 y6 193 [(.t 16),(.t 19),(.i 6)]<|
.nil)))
 (.z (.m 22 1<|
.b 23 .lss .none (.t 22) (.i 128)<|
.m 21 23<|
.nil)
 (.cond (.tmp 21) (.ops (.m 24 0<|
.m 25 1<|
.P 26 (.conv (.toInt .u64) (.t 25))<|
.k 27 y6 193 [(.t 24),(.t 26),(.i 8)]<|
.nil))
 (.z (.m 6 0<|
.k 7 y6 193 [(.t 6),(.con (V.int .u64 (AA 2))),(.i 2)]<|
.nil)
 (.ops (.m 8 0<|
.m 9 1<|
.P 10 (.conv (.toInt .u64) (.t 9))<|
.k 11 y6 193 [(.t 8),(.t 10),(.i 14)]<|
.nil))))))))
def I9 (E:EB) (D:Az) (W:AM) (a:V) (b:Int) (c:Bool) (J:H):AH:=
 AS c (
 AW (D 193 [a,.int .u64 (AA 3),.int .i64 (AA 2)] J) fun u1 s2=>
 Bc u1 fun l3=>
 AQ l3 (
 AW (D 193 [a,.int .u64 (BP .u64 (JX .i64 b (AA 16384))),.int .i64 (AA 6)] s2) fun u4 s5=>
 Bc u4 fun l6=>
 AQ l6 (
 some ((V.tup []),s5)))) (
 AS (Ep b (AA 128)) (
 AW (D 193 [a,.int .u64 (BP .u64 b),.int .i64 (AA 8)] J) fun u7 s8=>
 Bc u7 fun l9=>
 AQ l9 (
 some ((V.tup []),s8))) (
 AW (D 193 [a,.int .u64 (AA 2),.int .i64 (AA 2)] J) fun u10 s11=>
 Bc u10 fun l12=>
 AQ l12 (
 AW (D 193 [a,.int .u64 (BP .u64 b),.int .i64 (AA 14)] s11) fun u13 s14=>
 Bc u13 fun l15=>
 AQ l15 (
 some ((V.tup []),s14)))))
def bf (N:Nat) (args:List V) (J:H):AH:=
 AE args fun x1 l2=>
 A4 .i64 l2 fun x5 l4=>
 De l4 fun x8 l7=>
 AQ l7 (
 I9 E D W x1 x5 x8 J)
def AIV:DV:=⟨28,[.any,.i,.bool],[],yH⟩
theorem ACj (args:List V) (J:H):Br E D W N AIV args J=bf E D W N args J:=by kernel_rfl
end
noncomputable section
variable (E:EB) (D:Az) (W:AM) (N:Nat)
def U0:List (Nat × DM):=[(0,.any),(8,.any),(9,.i),(10,.i),(14,.any),(15,.i),(16,.i)]
def JP:List (Nat × DM):=[(0,.any),(8,.any),(9,.i),(10,.i)]
def DZ (E:EB):St->AH:=fun s=>EA E s [] fun l=>some (EW l,s.J)
def ZH (c0:XC) (l0:St->AH):Nat->St->AH:=Bn 2 (dX E D W N (.keep JP [] [] c0) (kX JP [] [] l0) (Bn 0 (DZ E) nX) (DZ E)) (Bn 1 (dX E D W N (.keep JP [] [] c0) (kX JP [] [] l0) (Bn 0 (DZ E) nX) (DZ E)) (Bn 0 (DZ E) nX))
def YU (cc1:XC):XC:=(.z (.m 8 1<|
.u 9 8<|
.q 10 0<|
.nil)
 (.block 0 (.loop JP [] [] cc1)))
def gR (E:EB) (D:Az) (W:AM) (K1:V->V->Int->Int->H->AH) (a b:V) (J:H):AH:=
 BA b fun n1=>
 K1 a b (AA n1) (AA 0) J
def OA (cc2:XC) (cc3:XC):XC:=(.z (.b 11 .lss .none (.t 10) (.t 9)<|
.nil)
 (.seq (.cond (.tmp 11) .skip
 Oe)
 (.seq (.block 1 (.z (.s 12 1 8 10<|
.l 13 .any 12<|
.m 5 13<|
.nil)
 (.z (.m 14 5<|
.u 15 14<|
.q 16 0<|
.nil)
 (.block 2 (.loop U0 [] [] cc3)))))
 (.keep JP [] [] cc2))))
def Gi (E:EB) (D:Az) (W:AM) (K3:V->V->Int->Int->V->Int->Int->H->AH) (a b:V) (c d:Int) (J:H):AH:=
 AS (Ep d c) (
 AT 1 b d fun b1 o2=>
 BL E J b1 o2 fun u3=>
 BA u3 fun n4=>
 K3 a b c d u3 (AA n4) (AA 0) J) (
 some ((V.tup []),J))
def II:XC:=(.ops (.b 25 .add .none (.t 10) (.i 1)<|
.m 10 25<|
.nil))
def XJ (E:EB) (D:Az) (W:AM) (R1:V->V->Int->Int->H->AH) (a b:V) (c d:Int) (J:H):AH:=
 R1 a b c (CU .i64 d (AA 1)) J
def JH:XC:=(.z (.b 17 .lss .none (.t 16) (.t 15)<|
.nil)
 (.seq (.cond (.tmp 17) .skip
 (.exit 2))
 (.seq (.block 3 (.z (.s 18 1 14 16<|
.l 19 (.int .u8) 18<|
.m 7 19<|
.nil)
 (.ops (.m 20 0<|
.m 21 7<|
.P 22 (.conv (.toInt .u32) (.t 21))<|
.k 23 y6 232 [(.t 20),(.t 22),(.i 8)]<|
.nil))))
 (.ops (.b 24 .add .none (.t 16) (.i 1)<|
.m 16 24<|
.nil)))))
def IG (E:EB) (D:Az) (W:AM) (K2:V->V->Int->Int->H->AH) (R3:V->V->Int->Int->V->Int->Int->H->AH) (a b:V) (c d:Int) (e:V) (f g:Int) (J:H):AH:=
 AS (Ep g f) (
 AT 1 e g fun b1 o2=>
 BL E J b1 o2 fun u3=>
 Ah .u8 u3 fun x4=>
 AW (D 232 [a,.int .u32 (BP .u32 x4),.int .i64 (AA 8)] J) fun u5 s6=>
 Bc u5 fun l7=>
 AQ l7 (
 R3 a b c d e f (CU .i64 g (AA 1)) s6)) (
 K2 a b c d J)
def iQ (a b:V) (J:H):St:=⟨[(0,a),(1,b)],[],[],J⟩
def Lx (a b:V) (c d:Int) (J:H):St:=⟨[(0,a),(8,b),(9,.int .i64 c),(10,.int .i64 d)],[],[],J⟩
def UM (a b:V) (c d:Int) (e:V) (f g:Int) (J:H):St:=⟨[(0,a),(8,b),(9,.int .i64 c),(10,.int .i64 d),(14,e),(15,.int .i64 f),(16,.int .i64 g)],[],[],J⟩
theorem vi (cc1:XC) (a b:V) (J:H) :
 AU E D W N (YU cc1) (iQ a b J) (DZ E) nX (DZ E) =
 gR E D W (fun a c d e J=>Aw (fun rec s'=>AU E D W N cc1 s' (kX JP [] [] rec) (Bn 0 (DZ E) nX) (DZ E)) N (Lx a c d e J)) a b J:=by kernel_rfl
theorem vh (cc2:XC) (cc3:XC) (li1:St->AH) (a b:V) (c d:Int) (J:H) :
 AU E D W N (OA cc2 cc3) (Lx a b c d J) (kX JP [] [] li1) (Bn 0 (DZ E) nX) (DZ E) =
 Gi E D W (fun a b c d e f g J=>Aw (fun rec s'=>AU E D W N cc3 s' (kX U0 [] [] rec) (ZH E D W N cc2 li1) (DZ E)) N (UM a b c d e f g J)) a b c d J:=by kernel_rfl
theorem vg (cc2:XC) (li1:St->AH) (li3:St->AH) (a b:V) (c d:Int) (e:V) (f g:Int) (J:H) :
 AU E D W N (JH ) (UM a b c d e f g J) (kX U0 [] [] li3) (ZH E D W N cc2 li1) (DZ E) =
 IG E D W (fun a b c d J=>AU E D W N cc2 (Lx a b c d J) (kX JP [] [] li1) (Bn 0 (DZ E) nX) (DZ E)) (fun a b c d e f g J=>li3 (UM a b c d e f g J)) a b c d e f g J:=by kernel_rfl
def jU (E:EB) (D:Az) (W:AM) (N:Nat) (R1:V->V->Int->Int->H->AH):=XJ E D W R1
theorem pe (li1:St->AH) (a b:V) (c d:Int) (J:H) :
 AU E D W N II (Lx a b c d J) (kX JP [] [] li1) (Bn 0 (DZ E) nX) (DZ E)=jU E D W N (fun a b c d J=>li1 (Lx a b c d J)) a b c d J:=by kernel_rfl
def Nu (R1:V->V->Int->Int->H->AH) (n:Nat):V->V->Int->Int->V->Int->Int->H->AH:=
 Nat.rec (fun _ _ _ _ _ _ _ _=>none) (fun _ ih=>IG E D W (jU E D W N R1) ih) n
theorem om (li1:St->AH) (n:Nat):∀(a b:V) (c d:Int) (e:V) (f g:Int) (J:H),
 Aw (fun rec s'=>AU E D W N JH s' (kX U0 [] [] rec) (ZH E D W N II li1) (DZ E)) n (UM a b c d e f g J)=Nu E D W N (fun a b c d J=>li1 (Lx a b c d J)) n a b c d e f g J:=by
 induction n with
 | zero=>intro a b c d e f g J;rfl
 | succ n ihn=>
  intro a b c d e f g J
  rw[BB]
  refine(vg E D W N II li1 (Aw (fun rec s'=>AU E D W N JH s' (kX U0 [] [] rec) (ZH E D W N II li1) (DZ E)) n) a b c d e f g J).trans ?_
  simp only[ihn,pe]
  kernel_rfl
def Lz (n:Nat):V->V->Int->Int->H->AH:=
 Nat.rec (fun _ _ _ _ _=>none) (fun _ ih=>Gi E D W (Nu E D W N ih N)) n
theorem ou (n:Nat):∀(a b:V) (c d:Int) (J:H),
 Aw (fun rec s'=>AU E D W N (OA II JH) s' (kX JP [] [] rec) (Bn 0 (DZ E) nX) (DZ E)) n (Lx a b c d J)=Lz E D W N n a b c d J:=by
 induction n with
 | zero=>intro a b c d J;rfl
 | succ n ihn=>
  intro a b c d J
  rw[BB]
  refine(vh E D W N II JH (Aw (fun rec s'=>AU E D W N (OA II JH) s' (kX JP [] [] rec) (Bn 0 (DZ E) nX) (DZ E)) n) a b c d J).trans ?_
  simp only[ihn,om]
  kernel_rfl
def jV:=gR E D W (Lz E D W N N)
theorem pf (a b:V) (J:H) :
 AU E D W N (YU (OA II JH)) (iQ a b J) (DZ E) nX (DZ E)=jV E D W N a b J:=by
 refine(vi E D W N (OA II JH)  a b J).trans ?_
 simp only[ou]
 kernel_rfl
def YH (args:List V) (J:H):AH:=
 AE args fun x1 l2=>
 AE l2 fun x3 l4=>
 AQ l4 (
 jV E D W N x1 x3 J)
def AIU:DV:=⟨26,lB,[],(YU (OA II JH))⟩
theorem ACi (args:List V) (J:H):Br E D W N AIU args J=YH E D W N args J:=by
 unfold YH
 simp only[<-pf]
 kernel_rfl
def Nz:List BY:=[⟨(some 16),.mov (.tmp 0),none⟩,⟨(some 17),.nilck (.tmp 16),none⟩,⟨(some 18),.faddr 0 (.tmp 17),none⟩,⟨(some 19),.load none (.tmp 18),none⟩,⟨(some 20),.mov (.tmp 4),none⟩,⟨(some 21),.nilck (.tmp 20),none⟩,⟨(some 22),.faddr 0 (.tmp 21),none⟩,⟨(some 23),.load none (.tmp 22),none⟩,⟨(some 24),.call 63 [(.tmp 23)],none⟩,⟨(some 25),.buildSlice 23 1 [V.nils] [(0,1,(.tmp 24))],none⟩,⟨(some 26),.call 121 [(.tmp 19),(.tmp 25)],none⟩]
def RT:List DP:=[⟨0,[0]⟩,⟨1,[16]⟩,⟨3,[17]⟩,⟨7,[18]⟩,⟨0,[4]⟩,⟨16,[20]⟩,⟨48,[21]⟩,⟨112,[22]⟩,⟨240,[23]⟩,⟨496,[24]⟩,⟨1023,[19,25]⟩]
def yG:XC:=(.z (.op (some 5) (.agg Z3) [] (.build [V.nils,y1] [])<|
.P 6 (.box 141 (.t 5))<|
.m 7 0<|
.n 8 7<|
.f 9 1 8<|
.O 10 y4 (.load (some 4) (.t 9))<|
.op (some 11) (.agg [.any,.str,.any,.any,.any]) [6,10] (.build [V.nilp,(V.str ⟨0,0⟩),V.nils,V.nils,V.nils] [(0,1,(.t 6)),(1,4,(.t 10))])<|
.P 12 (.box 143 (.t 11))<|
.m 4 12<|
.nil)
 (.z (.m 13 1<|
.m 14 4<|
.O 15 y6 (.callv (.t 13) [(.t 14)])<|
.nil)
 (.keep [(0,.ptr),(4,.ptr)] [] [] (.gdraw Nz RT []))))
def XI (a b:Nat) (c:V) (J:H):AH:=
 G9 [V.nils,.int .i64 (AA 0)] J fun s1=>
 BQ E s1 a (Ac b 1) 4 fun l2=>
 Rx l2 fun x5 l4=>
 AE l4 fun x6 l7=>
 AE l7 fun x8 l9=>
 AE l9 fun x10 l11=>
 AQ l11 (
 G9 [.ptr (H.next J) 0,.str x5,x6,x8,x10] s1 fun s12=>
 Ed D c [.ptr (H.next s1) 0] s12 fun u13 s14=>
 Bc u13 fun l15=>
 AQ l15 (
 DA (W Nz RT [(0,.ptr a b),(4,.ptr (H.next s1) 0)] s14) fun e16 s17=>
 some ((V.tup []),s17)))
def kE (N:Nat) (args:List V) (J:H):AH:=
 AE args fun x1 l2=>
 Ar x1 fun b3 o4=>
 AE l2 fun x5 l6=>
 AQ l6 (
 XI E D W b3 o4 x5 J)
def AIT:DV:=⟨27,[.ptr,.any],[],yG⟩
theorem ACh (args:List V) (J:H):Br E D W N AIT args J=kE E D W N args J:=by kernel_rfl
def yF:XC:=(.z (.c 4 y3<|
.nil)
 (.z (.m 5 0<|
.m 6 1<|
.k 7 .i 234 [(.t 5),(.t 6)]<|
.b 8 .geq .none (.t 7) (.i 0)<|
.m 4 8<|
.nil)
 .ret))
def XH (E:EB) (D:Az) (W:AM) (a b:V) (J:H):AH:=
 AW (D 234 [a,b] J) fun u1 s2=>
 Ah .i64 u1 fun x3=>
 some ((V.bool (Hk (AA 0) x3)),s2)
def kD (N:Nat) (args:List V) (J:H):AH:=
 AE args fun x1 l2=>
 AE l2 fun x3 l4=>
 AQ l4 (
 XH E D W x1 x3 J)
def AIS:DV:=⟨9,lB,[(.tmp 4)],yF⟩
theorem ACg (args:List V) (J:H):Br E D W N AIS args J=kD E D W N args J:=by kernel_rfl
def yE:XC:=(.z (.c 3 y3<|
.nil)
 (.z (.f 4 3 1<|
.l 5 .any 4<|
.m 6 0<|
.s 7 6 5 6<|
.O 8 y0 (.load (some 6) (.t 7))<|
.k 9 .bool 188 [(.t 8)]<|
.P 10 (.un .not (.t 9))<|
.m 3 10<|
.nil)
 .ret))
def XG (E:EB) (D:Az) (W:AM) (a:Int) (b:V) (J:H):AH:=
 Ar b fun b1 o2=>
 BL E J b1 (Ac o2 3) fun u3=>
 AT 6 u3 a fun b4 o5=>
 BQ E J b4 o5 6 fun l6=>
 A4 .i64 l6 fun x9 l8=>
 A4 .i64 l8 fun x12 l11=>
 AE l11 fun x13 l14=>
 AE l14 fun x15 l16=>
 A4 .i64 l16 fun x19 l18=>
 AE l18 fun x20 l21=>
 AQ l21 (
 AW (D 188 [.agg [.int .i64 x9,.int .i64 x12,x13,x15,.int .i64 x19,x20]] J) fun u22 s23=>
 An u22 fun x24=>
 some ((V.bool (not x24)),s23))
def be (N:Nat) (args:List V) (J:H):AH:=
 A4 .i64 args fun x3 l2=>
 AE l2 fun x4 l5=>
 AQ l5 (
 XG E D W x3 x4 J)
def AIR:DV:=⟨11,[.i,.any],[(.tmp 3)],yE⟩
theorem ACf (args:List V) (J:H):Br E D W N AIR args J=be E D W N args J:=by kernel_rfl
def yD:XC:=(.z (.c 4 y3<|
.nil)
 (.z (.m 5 0<|
.m 6 1<|
.k 7 .i 235 [(.t 5),(.t 6)]<|
.b 8 .geq .none (.t 7) (.i 0)<|
.m 4 8<|
.nil)
 .ret))
def XF (E:EB) (D:Az) (W:AM) (a:V) (b:Bool) (J:H):AH:=
 AW (D 235 [a,.bool b] J) fun u1 s2=>
 Ah .i64 u1 fun x3=>
 some ((V.bool (Hk (AA 0) x3)),s2)
def kC (N:Nat) (args:List V) (J:H):AH:=
 AE args fun x1 l2=>
 De l2 fun x5 l4=>
 AQ l4 (
 XF E D W x1 x5 J)
def AIQ:DV:=⟨9,[.any,.bool],[(.tmp 4)],yD⟩
theorem ACe (args:List V) (J:H):Br E D W N AIQ args J=kC E D W N args J:=by kernel_rfl
def MM:List (Nat × DM):=[(0,.any),(3,.any),(5,.ptr),(6,.ptr),(12,.any),(13,.i),(14,.i)]
def OQ:List (Nat × DM):=[(0,.any),(5,.ptr),(6,.ptr),(42,.any),(43,.i),(44,.i)]
def qp:List (Nat × DM):=[(0,.any),(3,.any),(5,.ptr),(6,.ptr)]
def C0 (E:EB):St->AH:=fun s=>EA E s [] fun l=>some (EW l,s.J)
def Qb (c0:XC):Nat->St->AH:=Bn 0 (dX E D W N (.keep qp [] [] c0) (C0 E) nX (C0 E)) nX
def YT (cc1:XC) (cc2:XC):XC:=(.z (.P 5 (.box 111 (.t 1))<|
.P 6 (.box 43 (.t 2))<|
.nil)
 (.seq (.z (.m 12 3<|
.u 13 12<|
.q 14 0<|
.nil)
 (.block 0 (.loop MM [] [] cc2)))
 (.keep qp [] [] cc1)))
def Qx (E:EB) (D:Az) (W:AM) (K2:V->V->Nat->Nat->Nat->Nat->V->Int->Int->H->AH) (a:V) (b:Int) (c:V) (d e f g:Bool) (h i:Int) (j k:V) (l:Int) (m:Bool) (o p q:Int) (r s:V) (t:Int) (u v:V) (J:H):AH:=
 G9 [.int .i64 b,c,.bool d,.bool e,.bool f,.bool g,.int .i64 h,.int .i64 i,j,k,.int .i64 l,.bool m,.int .i64 o] J fun s1=>
 G9 [.int .i64 p,.int .i64 q,r,s,.int .i64 t,u] s1 fun s2=>
 BA v fun n3=>
 K2 a v (H.next J) 0 (H.next s1) 0 v (AA n3) (AA 0) s2
def IH (cc4:XC):XC:=(.z (.m 42 3<|
.u 43 42<|
.q 44 0<|
.nil)
 (.block 2 (.loop OQ [] [] cc4)))
def Tt (E:EB) (D:Az) (W:AM) (K4:V->Nat->Nat->Nat->Nat->V->Int->Int->H->AH) (a b:V) (c d e f:Nat) (J:H):AH:=
 BA b fun n1=>
 K4 a c d e f b (AA n1) (AA 0) J
def N9 (cc3:XC):XC:=(.z (.b 15 .lss .none (.t 14) (.t 13)<|
.nil)
 (.seq (.cond (.tmp 15) .skip
 Oe)
 (.seq (.block 1 (.z (.s 16 1 12 14<|
.l 17 .i 16<|
.m 9 17<|
.nil)
 (.z (.f 18 9 5<|
.l 19 .any 18<|
.m 20 9<|
.s 21 11 19 20<|
.f 22 2 21<|
.l 23 .bool 22<|
.m 24 23<|
.gO 24 false (.p 25 [5,24] (.faddr 9 (.t 5))<|
.p 26 [25,24] (.load none (.t 25))<|
.p 27 [9,24] (.mov (.t 9))<|
.p 28 [26,27,24] (.iaddrS 11 (.t 26) (.t 27))<|
.p 29 [28,24] (.faddr 3 (.t 28))<|
.op (some 30) .bool [29,24] (.load none (.t 29))<|
.nil) 31 24 30<|
.nil)
 (.cond (.tmp 31) (.ops (.m 32 0<|
.f 33 3 6<|
.l 34 .any 33<|
.m 35 9<|
.s 36 6 34 35<|
.O 37 y0 (.load (some 6) (.t 36))<|
.k 38 .bool 188 [(.t 37)]<|
.P 39 (.un .not (.t 38))<|
.k 40 y6 118 [(.t 32),(.t 39)]<|
.nil))
 .skip))))
 (.keep MM [] [] cc3))))
def Lv (E:EB) (D:Az) (W:AM) (K1:V->V->Nat->Nat->Nat->Nat->H->AH) (K3:V->V->Nat->Nat->Nat->Nat->V->Int->Int->H->AH) (a b:V) (c d e f:Nat) (g:V) (h i:Int) (J:H):AH:=
 AS (Ep i h) (
 AT 1 g i fun b1 o2=>
 BL E J b1 o2 fun u3=>
 Ah .i64 u3 fun x4=>
 BL E J c (Ac d 9) fun u5=>
 AT 11 u5 x4 fun b6 o7=>
 BL E J b6 (Ac o7 2) fun u8=>
 An u8 fun x9=>
 BR (fun c10 s11=>
 AS c10 (
 BL E s11 e (Ac f 3) fun u13=>
 AT 6 u13 x4 fun b14 o15=>
 BQ E s11 b14 o15 6 fun l16=>
 A4 .i64 l16 fun x19 l18=>
 A4 .i64 l18 fun x22 l21=>
 AE l21 fun x23 l24=>
 AE l24 fun x25 l26=>
 A4 .i64 l26 fun x29 l28=>
 AE l28 fun x30 l31=>
 AQ l31 (
 AW (D 188 [.agg [.int .i64 x19,.int .i64 x22,x23,x25,.int .i64 x29,x30]] s11) fun u32 s33=>
 An u32 fun x34=>
 AW (D 118 [a,.bool (not x34)] s33) fun u35 s36=>
 Bc u35 fun l37=>
 AQ l37 (
 K3 a b c d e f g h i s36))) (
 K3 a b c d e f g h i s11)) fun k12=>
 AS x9 (
 k12 true J) (
 BL E J c (Ac d 9) fun u38=>
 AT 11 u38 x4 fun b39 o40=>
 BL E J b39 (Ac o40 3) fun u41=>
 An u41 fun x42=>
 k12 x42 J)) (
 K1 a b c d e f J)
def Ka:XC:=(.ops (.b 41 .add .none (.t 14) (.i 1)<|
.m 14 41<|
.nil))
def gQ (E:EB) (D:Az) (W:AM) (R2:V->V->Nat->Nat->Nat->Nat->V->Int->Int->H->AH) (a b:V) (c d e f:Nat) (g:V) (h i:Int) (J:H):AH:=
 R2 a b c d e f g h (CU .i64 i (AA 1)) J
def Gk (cc5:XC):XC:=(.z (.b 45 .lss .none (.t 44) (.t 43)<|
.nil)
 (.seq (.cond (.tmp 45) .skip
 (.exit 2))
 (.seq (.block 3 (.z (.s 46 1 42 44<|
.l 47 .i 46<|
.m 11 47<|
.nil)
 (.z (.f 48 3 6<|
.l 49 .any 48<|
.m 50 11<|
.s 51 6 49 50<|
.O 52 y0 (.load (some 6) (.t 51))<|
.k 53 .bool 188 [(.t 52)]<|
.P 54 (.un .not (.t 53))<|
.nil)
 (.cond (.tmp 54) (.draw (.m 55 0<|
.f 56 9 5<|
.l 57 .any 56<|
.m 58 11<|
.s 59 11 57 58<|
.f 60 1 59<|
.l 61 .i 60<|
.f 62 3 6<|
.l 63 .any 62<|
.m 64 11<|
.s 65 6 63 64<|
.O 66 y0 (.load (some 6) (.t 65))<|
.k 67 y6 62 [(.t 55),(.t 61),(.t 66)]<|
.nil) [0,0,2,0,14,30,62,0,128,0,896,1920,4095])
 .skip))))
 (.keep OQ [] [] cc5))))
def Lu (E:EB) (D:Az) (W:AM) (K5:V->Nat->Nat->Nat->Nat->V->Int->Int->H->AH) (a:V) (b c d e:Nat) (f:V) (g h:Int) (J:H):AH:=
 AS (Ep h g) (
 AT 1 f h fun b1 o2=>
 BL E J b1 o2 fun u3=>
 Ah .i64 u3 fun x4=>
 BL E J d (Ac e 3) fun u5=>
 AT 6 u5 x4 fun b6 o7=>
 BQ E J b6 o7 6 fun l8=>
 A4 .i64 l8 fun x11 l10=>
 A4 .i64 l10 fun x14 l13=>
 AE l13 fun x15 l16=>
 AE l16 fun x17 l18=>
 A4 .i64 l18 fun x21 l20=>
 AE l20 fun x22 l23=>
 AQ l23 (
 AW (D 188 [.agg [.int .i64 x11,.int .i64 x14,x15,x17,.int .i64 x21,x22]] J) fun u24 s25=>
 An u24 fun x26=>
 AS (not x26) (
 BL E s25 b (Ac c 9) fun u27=>
 AT 11 u27 x4 fun b28 o29=>
 BL E s25 b28 (Ac o29 1) fun u30=>
 Ah .i64 u30 fun x31=>
 BL E s25 d (Ac e 3) fun u32=>
 AT 6 u32 x4 fun b33 o34=>
 BQ E s25 b33 o34 6 fun l35=>
 A4 .i64 l35 fun x38 l37=>
 A4 .i64 l37 fun x41 l40=>
 AE l40 fun x42 l43=>
 AE l43 fun x44 l45=>
 A4 .i64 l45 fun x48 l47=>
 AE l47 fun x49 l50=>
 AQ l50 (
 AW (D 62 [a,.int .i64 x31,.agg [.int .i64 x38,.int .i64 x41,x42,x44,.int .i64 x48,x49]] s25) fun u51 s52=>
 Bc u51 fun l53=>
 AQ l53 (
 K5 a b c d e f g h s52))) (
 K5 a b c d e f g h s25))) (
 some ((V.tup []),J))
def GF:XC:=(.ops (.b 68 .add .none (.t 44) (.i 1)<|
.m 44 68<|
.nil))
def uy (E:EB) (D:Az) (W:AM) (R4:V->Nat->Nat->Nat->Nat->V->Int->Int->H->AH) (a:V) (b c d e:Nat) (f:V) (g h:Int) (J:H):AH:=
 R4 a b c d e f g (CU .i64 h (AA 1)) J
def iP (a:V) (b:Int) (c:V) (d e f g:Bool) (h i:Int) (j k:V) (l:Int) (m:Bool) (o p q:Int) (r s:V) (t:Int) (u v:V) (J:H):St:=⟨[(0,a),(1,.agg [.int .i64 b,c,.bool d,.bool e,.bool f,.bool g,.int .i64 h,.int .i64 i,j,k,.int .i64 l,.bool m,.int .i64 o]),(2,.agg [.int .i64 p,.int .i64 q,r,s,.int .i64 t,u]),(3,v)],[],[],J⟩
def X0 (a b:V) (c d e f:Nat) (J:H):St:=⟨[(0,a),(3,b),(5,.ptr c d),(6,.ptr e f)],[],[],J⟩
def KR (a b:V) (c d e f:Nat) (g:V) (h i:Int) (J:H):St:=⟨[(0,a),(3,b),(5,.ptr c d),(6,.ptr e f),(12,g),(13,.int .i64 h),(14,.int .i64 i)],[],[],J⟩
def Ns (a:V) (b c d e:Nat) (f:V) (g h:Int) (J:H):St:=⟨[(0,a),(5,.ptr b c),(6,.ptr d e),(42,f),(43,.int .i64 g),(44,.int .i64 h)],[],[],J⟩
theorem vf (cc1:XC) (cc2:XC) (a:V) (b:Int) (c:V) (d e f g:Bool) (h i:Int) (j k:V) (l:Int) (m:Bool) (o p q:Int) (r s:V) (t:Int) (u v:V) (J:H) :
 AU E D W N (YT cc1 cc2) (iP a b c d e f g h i j k l m o p q r s t u v J) (C0 E) nX (C0 E) =
 Qx E D W (fun a v w x y z B I M J=>Aw (fun rec s'=>AU E D W N cc2 s' (kX MM [] [] rec) (Qb E D W N cc1) (C0 E)) N (KR a v w x y z B I M J)) a b c d e f g h i j k l m o p q r s t u v J:=by kernel_rfl
theorem vd (cc4:XC) (a b:V) (c d e f:Nat) (J:H) :
 AU E D W N (IH cc4) (X0 a b c d e f J) (C0 E) nX (C0 E) =
 Tt E D W (fun a c d e f g h i J=>Aw (fun rec s'=>AU E D W N cc4 s' (kX OQ [] [] rec) (Bn 2 (C0 E) nX) (C0 E)) N (Ns a c d e f g h i J)) a b c d e f J:=by kernel_rfl
theorem vZ (cc1:XC) (cc3:XC) (li2:St->AH) (a b:V) (c d e f:Nat) (g:V) (h i:Int) (J:H) :
 AU E D W N (N9 cc3) (KR a b c d e f g h i J) (kX MM [] [] li2) (Qb E D W N cc1) (C0 E) =
 Lv E D W (fun a b c d e f J=>AU E D W N cc1 (X0 a b c d e f J) (C0 E) nX (C0 E)) (fun a b c d e f g h i J=>AU E D W N cc3 (KR a b c d e f g h i J) (kX MM [] [] li2) (Qb E D W N cc1) (C0 E)) a b c d e f g h i J:=by kernel_rfl
theorem vY (cc1:XC) (li2:St->AH) (a b:V) (c d e f:Nat) (g:V) (h i:Int) (J:H) :
 AU E D W N (Ka ) (KR a b c d e f g h i J) (kX MM [] [] li2) (Qb E D W N cc1) (C0 E) =
 gQ E D W (fun a b c d e f g h i J=>li2 (KR a b c d e f g h i J)) a b c d e f g h i J:=by kernel_rfl
theorem vX (cc5:XC) (li4:St->AH) (a:V) (b c d e:Nat) (f:V) (g h:Int) (J:H) :
 AU E D W N (Gk cc5) (Ns a b c d e f g h J) (kX OQ [] [] li4) (Bn 2 (C0 E) nX) (C0 E) =
 Lu E D W (fun a b c d e f g h J=>AU E D W N cc5 (Ns a b c d e f g h J) (kX OQ [] [] li4) (Bn 2 (C0 E) nX) (C0 E)) a b c d e f g h J:=by kernel_rfl
def jR (E:EB) (D:Az) (W:AM) (N:Nat) (R4:V->Nat->Nat->Nat->Nat->V->Int->Int->H->AH):=uy E D W R4
theorem pZ (li4:St->AH) (a:V) (b c d e:Nat) (f:V) (g h:Int) (J:H) :
 AU E D W N GF (Ns a b c d e f g h J) (kX OQ [] [] li4) (Bn 2 (C0 E) nX) (C0 E)=jR E D W N (fun a b c d e f g h J=>li4 (Ns a b c d e f g h J)) a b c d e f g h J:=by kernel_rfl
def RJ (n:Nat):V->Nat->Nat->Nat->Nat->V->Int->Int->H->AH:=
 Nat.rec (fun _ _ _ _ _ _ _ _ _=>none) (fun _ ih=>Lu E D W (jR E D W N ih)) n
theorem og (n:Nat):∀(a:V) (b c d e:Nat) (f:V) (g h:Int) (J:H),
 Aw (fun rec s'=>AU E D W N (Gk GF) s' (kX OQ [] [] rec) (Bn 2 (C0 E) nX) (C0 E)) n (Ns a b c d e f g h J)=RJ E D W N n a b c d e f g h J:=by
 induction n with
 | zero=>intro a b c d e f g h J;rfl
 | succ n ihn=>
  intro a b c d e f g h J
  rw[BB]
  refine(vX E D W N GF (Aw (fun rec s'=>AU E D W N (Gk GF) s' (kX OQ [] [] rec) (Bn 2 (C0 E) nX) (C0 E)) n) a b c d e f g h J).trans ?_
  simp only[ihn,pZ]
  kernel_rfl
def YD:=Tt E D W (RJ E D W N N)
theorem pb (a b:V) (c d e f:Nat) (J:H) :
 AU E D W N (IH (Gk GF)) (X0 a b c d e f J) (C0 E) nX (C0 E)=YD E D W N a b c d e f J:=by
 refine(vd E D W N (Gk GF)  a b c d e f J).trans ?_
 simp only[og]
 kernel_rfl
def jS (E:EB) (D:Az) (W:AM) (N:Nat) (R2:V->V->Nat->Nat->Nat->Nat->V->Int->Int->H->AH):=gQ E D W R2
theorem pa (li2:St->AH) (a b:V) (c d e f:Nat) (g:V) (h i:Int) (J:H) :
 AU E D W N Ka (KR a b c d e f g h i J) (kX MM [] [] li2) (Qb E D W N (IH (Gk GF))) (C0 E)=jS E D W N (fun a b c d e f g h i J=>li2 (KR a b c d e f g h i J)) a b c d e f g h i J:=by
 refine(vY E D W N (IH (Gk GF)) li2 a b c d e f g h i J).trans ?_
 kernel_rfl
def RK (n:Nat):V->V->Nat->Nat->Nat->Nat->V->Int->Int->H->AH:=
 Nat.rec (fun _ _ _ _ _ _ _ _ _ _=>none) (fun _ ih=>Lv E D W (YD E D W N ) (jS E D W N ih)) n
theorem oh (n:Nat):∀(a b:V) (c d e f:Nat) (g:V) (h i:Int) (J:H),
 Aw (fun rec s'=>AU E D W N (N9 Ka) s' (kX MM [] [] rec) (Qb E D W N (IH (Gk GF))) (C0 E)) n (KR a b c d e f g h i J)=RK E D W N n a b c d e f g h i J:=by
 induction n with
 | zero=>intro a b c d e f g h i J;rfl
 | succ n ihn=>
  intro a b c d e f g h i J
  rw[BB]
  refine(vZ E D W N (IH (Gk GF)) Ka (Aw (fun rec s'=>AU E D W N (N9 Ka) s' (kX MM [] [] rec) (Qb E D W N (IH (Gk GF))) (C0 E)) n) a b c d e f g h i J).trans ?_
  simp only[ihn,pb,pa]
  kernel_rfl
def jT:=Qx E D W (RK E D W N N)
theorem pd (a:V) (b:Int) (c:V) (d e f g:Bool) (h i:Int) (j k:V) (l:Int) (m:Bool) (o p q:Int) (r s:V) (t:Int) (u v:V) (J:H) :
 AU E D W N (YT (IH (Gk GF)) (N9 Ka)) (iP a b c d e f g h i j k l m o p q r s t u v J) (C0 E) nX (C0 E)=jT E D W N a b c d e f g h i j k l m o p q r s t u v J:=by
 refine(vf E D W N (IH (Gk GF)) (N9 Ka)  a b c d e f g h i j k l m o p q r s t u v J).trans ?_
 simp only[oh]
 kernel_rfl
def YG (args:List V) (J:H):AH:=
 AE args fun x1 l2=>
 AE l2 fun x3 l4=>
 Cw x3 fun l5=>
 A4 .i64 l5 fun x8 l7=>
 AE l7 fun x9 l10=>
 De l10 fun x13 l12=>
 De l12 fun x16 l15=>
 De l15 fun x19 l18=>
 De l18 fun x22 l21=>
 A4 .i64 l21 fun x25 l24=>
 A4 .i64 l24 fun x28 l27=>
 AE l27 fun x29 l30=>
 AE l30 fun x31 l32=>
 A4 .i64 l32 fun x35 l34=>
 De l34 fun x38 l37=>
 A4 .i64 l37 fun x41 l40=>
 AQ l40 (
 AE l4 fun x42 l43=>
 Cw x42 fun l44=>
 A4 .i64 l44 fun x47 l46=>
 A4 .i64 l46 fun x50 l49=>
 AE l49 fun x51 l52=>
 AE l52 fun x53 l54=>
 A4 .i64 l54 fun x57 l56=>
 AE l56 fun x58 l59=>
 AQ l59 (
 AE l43 fun x60 l61=>
 AQ l61 (
 jT E D W N x1 x8 x9 x13 x16 x19 x22 x25 x28 x29 x31 x35 x38 x41 x47 x50 x51 x53 x57 x58 x60 J)))
def AIP:DV:=⟨69,[.any,y2,y0,.any],[],(YT (IH (Gk GF)) (N9 Ka))⟩
theorem ACd (args:List V) (J:H):Br E D W N AIP args J=YG E D W N args J:=by
 unfold YG
 simp only[<-pd]
 kernel_rfl
def EM:List (Nat × DM):=[(0,.ptr),(3,.any),(4,.any),(6,.ptr),(7,.ptr),(21,.any),(22,.i),(23,.i)]
def Uz:List (Nat × DM):=[(0,.ptr),(3,.any),(4,.any),(6,.ptr),(7,.ptr),(59,.any),(60,.i),(61,.i)]
def ML:List (Nat × DM):=[(0,.ptr),(4,.any),(6,.ptr),(7,.ptr),(69,.any),(70,.i),(71,.i)]
def Pm:List (Nat × DM):=[(0,.ptr),(3,.any),(4,.any),(6,.ptr),(7,.ptr)]
def SE:List (Nat × DM):=[(0,.ptr),(101,.any),(102,.i),(103,.i)]
def qo:List (Nat × DM):=[(0,.ptr),(7,.ptr)]
def Ny:List BY:=[⟨(some 76),.faddr 9 (.tmp 6),none⟩,⟨(some 77),.load none (.tmp 76),none⟩,⟨(some 78),.load none (.tmp 16),none⟩,⟨(some 79),.iaddrS 1 (.tmp 78) (.con (V.int .i64 (AA 0))),none⟩,⟨(some 80),.load none (.tmp 79),none⟩,⟨(some 81),.iaddrS 11 (.tmp 77) (.tmp 80),none⟩,⟨(some 82),.load (some 11) (.tmp 81),none⟩,⟨(some 17),.alloc 191 [(V.str ⟨0,0⟩),(V.int .i64 (AA 0)),(V.bool false),(V.bool false),(V.int .i64 (AA 0)),(V.int .i64 (AA 0)),V.nils,V.nils,(V.int .i64 (AA 0)),V.nils,(V.int .i64 (AA 0))],none⟩,⟨none,.store 11 (.tmp 17) (.tmp 82),none⟩]
def RS:List DP:=[⟨0,[6]⟩,⟨1,[76]⟩,⟨0,[16]⟩,⟨4,[78]⟩,⟨12,[79]⟩,⟨31,[77,80]⟩,⟨63,[81]⟩,⟨0,[]⟩,⟨255,[17,82]⟩]
def Nx:List BY:=[⟨(some 107),.mov (.tmp 0),none⟩,⟨(some 108),.nilck (.tmp 107),none⟩,⟨(some 109),.faddr 0 (.tmp 108),none⟩,⟨(some 110),.load none (.tmp 109),none⟩,⟨(some 111),.faddr 1 (.tmp 19),none⟩,⟨(some 112),.load none (.tmp 111),none⟩,⟨(some 113),.buildSlice 23 1 [V.nils] [(0,1,(.tmp 112))],none⟩,⟨(some 114),.call 121 [(.tmp 110),(.tmp 113)],none⟩]
def RR:List DP:=[⟨0,[0]⟩,⟨1,[107]⟩,⟨3,[108]⟩,⟨7,[109]⟩,⟨0,[19]⟩,⟨16,[111]⟩,⟨48,[112]⟩,⟨127,[110,113]⟩]
def BF (E:EB):St->AH:=fun s=>EA E s [] fun l=>some (EW l,s.J)
def Vg (c0 c1:XC) (l0:St->AH):Nat->St->AH:=Bn 1 (dX E D W N (.keep EM [] [] c0) (kX EM [] [] l0) (Bn 0 (dX E D W N (.keep Pm [] [] c1) (BF E) nX (BF E)) nX) (BF E)) (Bn 0 (dX E D W N (.keep Pm [] [] c1) (BF E) nX (BF E)) nX)
def KG (c0:XC):Nat->St->AH:=Bn 0 (dX E D W N (.keep Pm [] [] c0) (BF E) nX (BF E)) nX
def ZG (c0 c1 c2:XC) (l0:St->AH):Nat->St->AH:=Bn 2 (dX E D W N (.keep EM [] [] c0) (dX E D W N (.keep EM [] [] c1) (kX EM [] [] l0) (KG E D W N c2) (BF E)) (Vg E D W N c1 c2 l0) (BF E)) (Vg E D W N c1 c2 l0)
def Qa (c0:XC):Nat->St->AH:=Bn 6 (dX E D W N (.keep qo [] [] c0) (BF E) nX (BF E)) nX
def ZF (c0:XC):Nat->St->AH:=Bn 4 (dX E D W N (.keep Pm [] [] c0) (BF E) nX (BF E)) nX
def YS (cc1:XC) (cc2:XC):XC:=(.z (.P 6 (.box 111 (.t 1))<|
.P 7 (.box 43 (.t 2))<|
.nil)
 (.seq (.z (.f 20 5 7<|
.l 21 .any 20<|
.u 22 21<|
.q 23 0<|
.nil)
 (.block 0 (.loop EM [] [] cc2)))
 (.keep Pm [] [] cc1)))
def Qw (E:EB) (D:Az) (W:AM) (K2:Nat->Nat->V->V->Nat->Nat->Nat->Nat->V->Int->Int->H->AH) (a b:Nat) (c:Int) (d:V) (e f g h:Bool) (i j:Int) (k l:V) (m:Int) (o:Bool) (p q r:Int) (s t:V) (u:Int) (v w x:V) (J:H):AH:=
 G9 [.int .i64 c,d,.bool e,.bool f,.bool g,.bool h,.int .i64 i,.int .i64 j,k,l,.int .i64 m,.bool o,.int .i64 p] J fun s1=>
 G9 [.int .i64 q,.int .i64 r,s,t,.int .i64 u,v] s1 fun s2=>
 BL E s2 (H.next s1) 5 fun u3=>
 BA u3 fun n4=>
 K2 a b w x (H.next J) 0 (H.next s1) 0 u3 (AA n4) (AA 0) s2
def FI (cc6:XC):XC:=(.seq (.z (.m 39 4<|
.u 40 39<|
.m 12 40<|
.nil)
 (.z (.m 41 12<|
.b 42 .leq .none (.t 41) (.i 64)<|
.nil)
 (.cond (.tmp 42) (.ops (.m 43 0<|
.n 44 43<|
.f 45 0 44<|
.l 46 .any 45<|
.m 47 12<|
.b 48 .sub .none (.t 47) (.i 1)<|
.P 49 (.conv (.toInt .u64) (.t 48))<|
.k 50 y6 193 [(.t 46),(.t 49),(.i 7)]<|
.nil))
 (.z (.m 51 0<|
.k 52 y6 118 [(.t 51),(.con TC)]<|
.nil)
 (.ops (.m 53 0<|
.n 54 53<|
.f 55 0 54<|
.l 56 .any 55<|
.m 57 12<|
.k 58 y6 236 [(.t 56),(.t 57)]<|
.nil))))))
 (.keep Pm [] [] cc6))
def Na (E:EB) (D:Az) (W:AM) (K6:Nat->Nat->V->V->Nat->Nat->Nat->Nat->H->AH) (a b:Nat) (c d:V) (e f g h:Nat) (J:H):AH:=
 BA d fun n1=>
 AS (Hk (AA n1) (AA 64)) (
 BL E J a b fun u2=>
 AW (D 193 [u2,.int .u64 (BP .u64 (E6 .i64 (AA n1) (AA 1))),.int .i64 (AA 7)] J) fun u3 s4=>
 Bc u3 fun l5=>
 AQ l5 (
 K6 a b c d e f g h s4)) (
 AW (D 118 [.ptr a b,.bool true] J) fun u6 s7=>
 Bc u6 fun l8=>
 AQ l8 (
 BL E s7 a b fun u9=>
 AW (D 236 [u9,.int .i64 (AA n1)] s7) fun u10 s11=>
 Bc u10 fun l12=>
 AQ l12 (
 K6 a b c d e f g h s11)))
def N8 (cc3:XC) (cc4:XC) (cc5:XC):XC:=(.z (.b 24 .lss .none (.t 23) (.t 22)<|
.nil)
 (.seq (.cond (.tmp 24) .skip
 Oe)
 (.seq (.block 1 (.z (.s 25 2 21 23<|
.O 26 Z8 (.load (some 2) (.t 25))<|
.pal 11 [] 46 [y1,V.nils]<|
.op none Z8 [11,26] (.store 2 (.t 11) (.t 26))<|
.nil)
 (.seq (.block 2 (.loop EM [11] [(11,[.i,.any])] cc5))
 (.keep EM [] [] cc4))))
 (.keep EM [] [] cc3))))
def KL (E:EB) (D:Az) (W:AM) (K1:Nat->Nat->V->V->Nat->Nat->Nat->Nat->H->AH) (K5:Nat->Nat->V->V->Nat->Nat->Nat->Nat->V->Int->Int->Int->V->H->AH) (a b:Nat) (c d:V) (e f g h:Nat) (i:V) (j k:Int) (J:H):AH:=
 AS (Ep k j) (
 AT 2 i k fun b1 o2=>
 BQ E J b1 o2 2 fun l3=>
 A4 .i64 l3 fun x6 l5=>
 AE l5 fun x7 l8=>
 AQ l8 (
 IT (allOne [.int .i64 x6,x7]) (
 K5 a b c d e f g h i j k x6 x7 J))) (
 K1 a b c d e f g h J)
def GD:XC:=(.ops (.b 38 .add .none (.t 23) (.i 1)<|
.m 23 38<|
.nil))
def Ts (E:EB) (D:Az) (W:AM) (R2:Nat->Nat->V->V->Nat->Nat->Nat->Nat->V->Int->Int->H->AH) (a b:Nat) (c d:V) (e f g h:Nat) (i:V) (j k:Int) (J:H):AH:=
 R2 a b c d e f g h i j (CU .i64 k (AA 1)) J
def Hw:XC:=(.ops (.m 35 4<|
.p 36 [] (.buildSlice 4 1 [y3] [(0,1,(.con TC))])<|
.O 37 .one (.append 4 1 1 (.t 35) (.t 36))<|
.m 4 37<|
.nil))
def Qv (E:EB) (D:Az) (W:AM) (K3:Nat->Nat->V->V->Nat->Nat->Nat->Nat->V->Int->Int->H->AH) (a b:Nat) (c d:V) (e f g h:Nat) (i:V) (j k:Int) (J:H):AH:=
 let s1:=DR J (.cells [.bool true]);
 Ee E 1 1 d (V.sl (H.next J) 0 1 (.ex 1)) s1 fun u2 s3=>
 Cm u2 (
 K3 a b c u2 e f g h i j k s3)
def JG:XC:=(.seq (.z (.m 27 4<|
.u 28 27<|
.f 29 0 11<|
.l 30 .i 29<|
.b 31 .lss .none (.t 28) (.t 30)<|
.nil)
 (.cond (.tmp 31) .skip
 (.exit 2)))
 (.block 3 (.ops (.m 32 4<|
.p 33 [] (.buildSlice 4 1 [y3] [(0,1,(.con y3))])<|
.O 34 .one (.append 4 1 1 (.t 32) (.t 33))<|
.m 4 34<|
.nil))))
def KK (E:EB) (D:Az) (W:AM) (K4:Nat->Nat->V->V->Nat->Nat->Nat->Nat->V->Int->Int->H->AH) (R5:Nat->Nat->V->V->Nat->Nat->Nat->Nat->V->Int->Int->Int->V->H->AH) (a b:Nat) (c d:V) (e f g h:Nat) (i:V) (j k l:Int) (m:V) (J:H):AH:=
 BA d fun n1=>
 AS (Ep (AA n1) l) (
 let s2:=DR J (.cells [.bool false]);
 Ee E 1 1 d (V.sl (H.next J) 0 1 (.ex 1)) s2 fun u3 s4=>
 Cm u3 (
 R5 a b c u3 e f g h i j k l m s4)) (
 K4 a b c d e f g h i j k J)
def Ei (cc7:XC) (cc8:XC):XC:=(.seq (.z (.m 59 4<|
.u 60 59<|
.q 61 0<|
.nil)
 (.block 4 (.loop Uz [] [] cc8)))
 (.keep Pm [] [] cc7))
def Qu (E:EB) (D:Az) (W:AM) (K8:Nat->Nat->V->V->Nat->Nat->Nat->Nat->V->Int->Int->H->AH) (a b:Nat) (c d:V) (e f g h:Nat) (J:H):AH:=
 BA d fun n1=>
 K8 a b c d e f g h d (AA n1) (AA 0) J
def Dr (cc9:XC) (cc10:XC):XC:=(.seq (.z (.m 69 3<|
.u 70 69<|
.q 71 0<|
.nil)
 (.block 6 (.loop ML [] [] cc10)))
 (.keep qo [] [] cc9))
def Qt (E:EB) (D:Az) (W:AM) (K10:Nat->Nat->V->Nat->Nat->Nat->Nat->V->Int->Int->H->AH) (a b:Nat) (c d:V) (e f g h:Nat) (J:H):AH:=
 BA c fun n1=>
 K10 a b d e f g h c (AA n1) (AA 0) J
def D8:XC:=(.z (.b 62 .lss .none (.t 61) (.t 60)<|
.nil)
 (.seq (.cond (.tmp 62) .skip
 (.exit 4))
 (.seq (.block 5 (.z (.s 63 1 59 61<|
.l 64 .bool 63<|
.m 14 64<|
.nil)
 (.ops (.m 65 0<|
.m 66 14<|
.k 67 y6 118 [(.t 65),(.t 66)]<|
.nil))))
 (.ops (.b 68 .add .none (.t 61) (.i 1)<|
.m 61 68<|
.nil)))))
def NZ (E:EB) (D:Az) (W:AM) (K7:Nat->Nat->V->V->Nat->Nat->Nat->Nat->H->AH) (R8:Nat->Nat->V->V->Nat->Nat->Nat->Nat->V->Int->Int->H->AH) (a b:Nat) (c d:V) (e f g h:Nat) (i:V) (j k:Int) (J:H):AH:=
 AS (Ep k j) (
 AT 1 i k fun b1 o2=>
 BL E J b1 o2 fun u3=>
 An u3 fun x4=>
 AW (D 118 [.ptr a b,.bool x4] J) fun u5 s6=>
 Bc u5 fun l7=>
 AQ l7 (
 R8 a b c d e f g h i j (CU .i64 k (AA 1)) s6)) (
 K7 a b c d e f g h J)
def C6 (cc12:XC):XC:=(.z (.f 100 5 7<|
.l 101 .any 100<|
.u 102 101<|
.q 103 0<|
.nil)
 (.block 9 (.loop SE [] [] cc12)))
def Qr (E:EB) (D:Az) (W:AM) (K12:Nat->Nat->V->Int->Int->H->AH) (a b c d:Nat) (J:H):AH:=
 BL E J c (Ac d 5) fun u1=>
 BA u1 fun n2=>
 K12 a b u1 (AA n2) (AA 0) J
def Cp (cc11:XC):XC:=(.z (.b 72 .lss .none (.t 71) (.t 70)<|
.nil)
 (.seq (.cond (.tmp 72) .skip
 (.exit 6))
 (.seq (.block 7 (.z (.m 73 71<|
.s 74 1 69 71<|
.l 75 .any 74<|
.p 16 [] (.alloc 27 [V.nils])<|
.m 15 73<|
.w 1 16 75<|
.nil)
 (.seq (.keep [(0,.ptr),(4,.any),(6,.ptr),(7,.ptr),(15,.i),(16,.ptr),(69,.any),(70,.i),(71,.i)] [] [] (.gdraw Ny RS [(0,.ptr),(4,.any),(6,.ptr),(7,.ptr),(15,.i),(16,.ptr),(17,.ptr),(69,.any),(70,.i),(71,.i)]))
 (.block 8 (.z (.m 87 4<|
.m 88 15<|
.s 89 1 87 88<|
.l 90 .bool 89<|
.P 91 (.un .not (.t 90))<|
.m 86 91<|
.nil)
 (.cond (.tmp 86) .skip
 (.z (.f 93 10 17<|
.l 94 .i 93<|
.b 95 .gtr .none (.t 94) (.i 0)<|
.m 92 95<|
.nil)
 (.cond (.tmp 92) (.ops (.m 96 0<|
.p 97 [6,7,16] (.mkfn 237 [] [(.t 6),(.t 7),(.t 16)])<|
.k 98 y6 202 [(.t 96),(.t 97)]<|
.nil))
 (.ops (.m 83 0<|
.p 84 [17,7,16] (.mkfn 238 [] [(.t 17),(.t 7),(.t 16)])<|
.k 85 y6 202 [(.t 83),(.t 84)]<|
.nil))))))))))
 (.keep ML [] [] cc11))))
def I8 (K9:Nat->Nat->Nat->Nat->H->AH) (K11:Nat->Nat->V->Nat->Nat->Nat->Nat->V->Int->Int->H->AH) (a b:Nat) (c:V) (d e f g:Nat) (h:V) (i j:Int) (J:H):AH:=
 AS (Ep j i) (
 AT 1 h j fun b1 o2=>
 BL E J b1 o2 fun u3=>
 let s4:=DR J (.cells [V.nils]);
 Dt 1 (H.next J) 0 u3 s4 fun s5=>
 DA (W Ny RS [(0,.ptr a b),(4,c),(6,.ptr d e),(7,.ptr f g),(15,.int .i64 j),(16,.ptr (H.next J) 0),(69,h),(70,.int .i64 i),(71,.int .i64 j)] s5) fun e6 s7=>
 BW e6 0 fun u8=>
 Ar u8 fun b9 o10=>
 BW e6 4 fun u11=>
 BW e6 6 fun u12=>
 Ar u12 fun b13 o14=>
 BW e6 7 fun u15=>
 Ar u15 fun b16 o17=>
 BW e6 15 fun u18=>
 Ah .i64 u18 fun x19=>
 BW e6 16 fun u20=>
 Ar u20 fun b21 o22=>
 BW e6 17 fun u23=>
 Ar u23 fun b24 o25=>
 BW e6 69 fun u26=>
 BW e6 70 fun u27=>
 Ah .i64 u27 fun x28=>
 BW e6 71 fun u29=>
 Ah .i64 u29 fun x30=>
 AT 1 u11 x19 fun b31 o32=>
 BL E s7 b31 o32 fun u33=>
 An u33 fun x34=>
 AS (not x34) (
 K11 b9 o10 u11 b13 o14 b16 o17 u26 x28 x30 s7) (
 BL E s7 b24 (Ac o25 10) fun u35=>
 Ah .i64 u35 fun x36=>
 AS (Ep (AA 0) x36) (
 AW (D 202 [.ptr b9 o10,.fn 237 [] [.ptr b13 o14,.ptr b16 o17,.ptr b21 o22]] s7) fun u37 s38=>
 Bc u37 fun l39=>
 AQ l39 (
 K11 b9 o10 u11 b13 o14 b16 o17 u26 x28 x30 s38)) (
 AW (D 202 [.ptr b9 o10,.fn 238 [] [.ptr b24 o25,.ptr b16 o17,.ptr b21 o22]] s7) fun u40 s41=>
 Bc u40 fun l42=>
 AQ l42 (
 K11 b9 o10 u11 b13 o14 b16 o17 u26 x28 x30 s41)))) (
 K9 a b f g J)
def Cf:XC:=(.ops (.b 99 .add .none (.t 71) (.i 1)<|
.m 71 99<|
.nil))
def Za (E:EB) (D:Az) (W:AM) (R10:Nat->Nat->V->Nat->Nat->Nat->Nat->V->Int->Int->H->AH) (a b:Nat) (c:V) (d e f g:Nat) (h:V) (i j:Int) (J:H):AH:=
 R10 a b c d e f g h i (CU .i64 j (AA 1)) J
def CI:XC:=(.z (.b 104 .lss .none (.t 103) (.t 102)<|
.nil)
 (.seq (.cond (.tmp 104) .skip
 (.exit 9))
 (.seq (.block 10 (.z (.s 105 2 101 103<|
.O 106 Z8 (.load (some 2) (.t 105))<|
.p 19 [] (.alloc 46 [y1,V.nils])<|
.op none Z8 [19,106] (.store 2 (.t 19) (.t 106))<|
.nil)
 (.keep [(0,.ptr),(19,.ptr),(101,.any),(102,.i),(103,.i)] [] [] (.gdraw Nx RR SE))))
 (.ops (.b 115 .add .none (.t 103) (.i 1)<|
.m 103 115<|
.nil)))))
def Ky (E:EB) (D:Az) (W:AM) (R12:Nat->Nat->V->Int->Int->H->AH) (a b:Nat) (c:V) (d e:Int) (J:H):AH:=
 AS (Ep e d) (
 AT 2 c e fun b1 o2=>
 BQ E J b1 o2 2 fun l3=>
 A4 .i64 l3 fun x6 l5=>
 AE l5 fun x7 l8=>
 AQ l8 (
 let s9:=DR J (.cells [.int .i64 (AA 0),V.nils]);
 Dt 2 (H.next J) 0 (V.agg [.int .i64 x6,x7]) s9 fun s10=>
 DA (W Nx RR [(0,.ptr a b),(19,.ptr (H.next J) 0),(101,c),(102,.int .i64 d),(103,.int .i64 e)] s10) fun e11 s12=>
 BW e11 0 fun u13=>
 Ar u13 fun b14 o15=>
 BW e11 101 fun u16=>
 BW e11 102 fun u17=>
 Ah .i64 u17 fun x18=>
 BW e11 103 fun u19=>
 Ah .i64 u19 fun x20=>
 R12 b14 o15 u16 x18 (CU .i64 x20 (AA 1)) s12)) (
 some ((V.tup []),J))
def iO (a b:Nat) (c:Int) (d:V) (e f g h:Bool) (i j:Int) (k l:V) (m:Int) (o:Bool) (p q r:Int) (s t:V) (u:Int) (v w x:V) (J:H):St:=⟨[(0,.ptr a b),(1,.agg [.int .i64 c,d,.bool e,.bool f,.bool g,.bool h,.int .i64 i,.int .i64 j,k,l,.int .i64 m,.bool o,.int .i64 p]),(2,.agg [.int .i64 q,.int .i64 r,s,t,.int .i64 u,v]),(3,w),(4,x)],[],[],J⟩
def JF (a b:Nat) (c d:V) (e f g h:Nat) (J:H):St:=⟨[(0,.ptr a b),(3,c),(4,d),(6,.ptr e f),(7,.ptr g h)],[],[],J⟩
def Gj (a b:Nat) (c d:V) (e f g h:Nat) (i:V) (j k:Int) (J:H):St:=⟨[(0,.ptr a b),(3,c),(4,d),(6,.ptr e f),(7,.ptr g h),(21,i),(22,.int .i64 j),(23,.int .i64 k)],[],[],J⟩
def UL (a b:Nat) (c d:V) (e f g h:Nat) (i:V) (j k l:Int) (m:V) (J:H):St:=⟨[(0,.ptr a b),(3,c),(4,d),(6,.ptr e f),(7,.ptr g h),(21,i),(22,.int .i64 j),(23,.int .i64 k)],[(11,(11,0))],[(11,[.int .i64 l,m])],J⟩
def UK (a b:Nat) (c d:V) (e f g h:Nat) (i:V) (j k:Int) (J:H):St:=⟨[(0,.ptr a b),(3,c),(4,d),(6,.ptr e f),(7,.ptr g h),(59,i),(60,.int .i64 j),(61,.int .i64 k)],[],[],J⟩
def Xz (a b c d:Nat) (J:H):St:=⟨[(0,.ptr a b),(7,.ptr c d)],[],[],J⟩
def H8 (a b:Nat) (c:V) (d e f g:Nat) (h:V) (i j:Int) (J:H):St:=⟨[(0,.ptr a b),(4,c),(6,.ptr d e),(7,.ptr f g),(69,h),(70,.int .i64 i),(71,.int .i64 j)],[],[],J⟩
def PJ (a b:Nat) (c:V) (d e:Int) (J:H):St:=⟨[(0,.ptr a b),(101,c),(102,.int .i64 d),(103,.int .i64 e)],[],[],J⟩
theorem vW (cc1:XC) (cc2:XC) (a b:Nat) (c:Int) (d:V) (e f g h:Bool) (i j:Int) (k l:V) (m:Int) (o:Bool) (p q r:Int) (s t:V) (u:Int) (v w x:V) (J:H) :
 AU E D W N (YS cc1 cc2) (iO a b c d e f g h i j k l m o p q r s t u v w x J) (BF E) nX (BF E) =
 Qw E D W (fun a b w x y z B I M O AMG J=>Aw (fun rec s'=>AU E D W N cc2 s' (kX EM [] [] rec) (KG E D W N cc1) (BF E)) N (Gj a b w x y z B I M O AMG J)) a b c d e f g h i j k l m o p q r s t u v w x J:=by kernel_rfl
theorem vV (cc6:XC) (a b:Nat) (c d:V) (e f g h:Nat) (J:H) :
 AU E D W N (FI cc6) (JF a b c d e f g h J) (BF E) nX (BF E) =
 Na E D W (fun a b c d e f g h J=>AU E D W N cc6 (JF a b c d e f g h J) (BF E) nX (BF E)) a b c d e f g h J:=by kernel_rfl
theorem vT (cc1:XC) (cc3:XC) (cc4:XC) (cc5:XC) (li2:St->AH) (a b:Nat) (c d:V) (e f g h:Nat) (j:V) (k l:Int) (J:H) :
 AU E D W N (N8 cc3 cc4 cc5) (Gj a b c d e f g h j k l J) (kX EM [] [] li2) (KG E D W N cc1) (BF E) =
 KL E D W (fun a b c d e f g h J=>AU E D W N cc1 (JF a b c d e f g h J) (BF E) nX (BF E)) (fun a b c d e f g h j k l m o J=>Aw (fun rec s'=>AU E D W N cc5 s' (kX EM [11] [(11,[.i,.any])] rec) (ZG E D W N cc4 cc3 cc1 li2) (BF E)) N (UL a b c d e f g h j k l m o J)) a b c d e f g h j k l J:=by kernel_rfl
theorem vS (cc1:XC) (li2:St->AH) (a b:Nat) (c d:V) (e f g h:Nat) (i:V) (j k:Int) (J:H) :
 AU E D W N (GD ) (Gj a b c d e f g h i j k J) (kX EM [] [] li2) (KG E D W N cc1) (BF E) =
 Ts E D W (fun a b c d e f g h i j k J=>li2 (Gj a b c d e f g h i j k J)) a b c d e f g h i j k J:=by kernel_rfl
theorem vR (cc1:XC) (cc3:XC) (li2:St->AH) (a b:Nat) (c d:V) (e f g h:Nat) (i:V) (j k:Int) (J:H) :
 AU E D W N (Hw ) (Gj a b c d e f g h i j k J) (dX E D W N (.keep EM [] [] cc3) (kX EM [] [] li2) (KG E D W N cc1) (BF E)) (Vg E D W N cc3 cc1 li2) (BF E) =
 Qv E D W (fun a b c d e f g h i j k J=>AU E D W N cc3 (Gj a b c d e f g h i j k J) (kX EM [] [] li2) (KG E D W N cc1) (BF E)) a b c d e f g h i j k J:=by kernel_rfl
theorem vQ (cc1:XC) (cc3:XC) (cc4:XC) (li2:St->AH) (li5:St->AH) (a b:Nat) (c d:V) (e f g h:Nat) (j:V) (k l m:Int) (o:V) (J:H) :
 AU E D W N (JG ) (UL a b c d e f g h j k l m o J) (kX EM [11] [(11,[.i,.any])] li5) (ZG E D W N cc4 cc3 cc1 li2) (BF E) =
 KK E D W (fun a b c d e f g h j k l J=>AU E D W N cc4 (Gj a b c d e f g h j k l J) (dX E D W N (.keep EM [] [] cc3) (kX EM [] [] li2) (KG E D W N cc1) (BF E)) (Vg E D W N cc3 cc1 li2) (BF E)) (fun a b c d e f g h j k l m o J=>li5 (UL a b c d e f g h j k l m o J)) a b c d e f g h j k l m o J:=by kernel_rfl
theorem vP (cc7:XC) (cc8:XC) (a b:Nat) (c d:V) (e f g h:Nat) (J:H) :
 AU E D W N (Ei cc7 cc8) (JF a b c d e f g h J) (BF E) nX (BF E) =
 Qu E D W (fun a b c d e f g h i j k J=>Aw (fun rec s'=>AU E D W N cc8 s' (kX Uz [] [] rec) (ZF E D W N cc7) (BF E)) N (UK a b c d e f g h i j k J)) a b c d e f g h J:=by kernel_rfl
theorem vO (cc9:XC) (cc10:XC) (a b:Nat) (c d:V) (e f g h:Nat) (J:H) :
 AU E D W N (Dr cc9 cc10) (JF a b c d e f g h J) (BF E) nX (BF E) =
 Qt E D W (fun a b d e f g h i j k J=>Aw (fun rec s'=>AU E D W N cc10 s' (kX ML [] [] rec) (Qa E D W N cc9) (BF E)) N (H8 a b d e f g h i j k J)) a b c d e f g h J:=by kernel_rfl
theorem vN (cc7:XC) (li8:St->AH) (a b:Nat) (c d:V) (e f g h:Nat) (i:V) (j k:Int) (J:H) :
 AU E D W N (D8 ) (UK a b c d e f g h i j k J) (kX Uz [] [] li8) (ZF E D W N cc7) (BF E) =
 NZ E D W (fun a b c d e f g h J=>AU E D W N cc7 (JF a b c d e f g h J) (BF E) nX (BF E)) (fun a b c d e f g h i j k J=>li8 (UK a b c d e f g h i j k J)) a b c d e f g h i j k J:=by kernel_rfl
theorem vM (cc12:XC) (a b c d:Nat) (J:H) :
 AU E D W N (C6 cc12) (Xz a b c d J) (BF E) nX (BF E) =
 Qr E D W (fun a b e f g J=>Aw (fun rec s'=>AU E D W N cc12 s' (kX SE [] [] rec) (Bn 9 (BF E) nX) (BF E)) N (PJ a b e f g J)) a b c d J:=by kernel_rfl
theorem oU (cc9:XC) (cc11:XC) (li10:St->AH) (a b:Nat) (c:V) (d e f g:Nat) (h:V) (i j:Int) (J:H) :
 AU E D W N (Cp cc11) (H8 a b c d e f g h i j J) (kX ML [] [] li10) (Qa E D W N cc9) (BF E) =
 I8 E D W (fun a b f g J=>AU E D W N cc9 (Xz a b f g J) (BF E) nX (BF E)) (fun a b c d e f g h i j J=>AU E D W N cc11 (H8 a b c d e f g h i j J) (kX ML [] [] li10) (Qa E D W N cc9) (BF E)) a b c d e f g h i j J:=by kernel_rfl
theorem oT (cc9:XC) (li10:St->AH) (a b:Nat) (c:V) (d e f g:Nat) (h:V) (i j:Int) (J:H) :
 AU E D W N (Cf ) (H8 a b c d e f g h i j J) (kX ML [] [] li10) (Qa E D W N cc9) (BF E) =
 Za E D W (fun a b c d e f g h i j J=>li10 (H8 a b c d e f g h i j J)) a b c d e f g h i j J:=by kernel_rfl
theorem oS (li12:St->AH) (a b:Nat) (c:V) (d e:Int) (J:H) :
 AU E D W N (CI ) (PJ a b c d e J) (kX SE [] [] li12) (Bn 9 (BF E) nX) (BF E) =
 Ky E D W (fun a b c d e J=>li12 (PJ a b c d e J)) a b c d e J:=by kernel_rfl
def Mz (E:EB) (D:Az) (W:AM) (N:Nat) (n:Nat):Nat->Nat->V->Int->Int->H->AH:=
 Nat.rec (fun _ _ _ _ _ _=>none) (fun _ ih=>Ky E D W ih) n
theorem jA (n:Nat):∀(a b:Nat) (c:V) (d e:Int) (J:H),
 Aw (fun rec s'=>AU E D W N CI s' (kX SE [] [] rec) (Bn 9 (BF E) nX) (BF E)) n (PJ a b c d e J)=Mz E D W N n a b c d e J:=by
 induction n with
 | zero=>intro a b c d e J;rfl
 | succ n ihn=>
  intro a b c d e J
  rw[BB]
  refine(oS E D W N  (Aw (fun rec s'=>AU E D W N CI s' (kX SE [] [] rec) (Bn 9 (BF E) nX) (BF E)) n) a b c d e J).trans ?_
  simp only[ihn]
  kernel_rfl
def YB:=Qr E D W (Mz E D W N N)
theorem pS (a b c d:Nat) (J:H) :
 AU E D W N (C6 CI) (Xz a b c d J) (BF E) nX (BF E)=YB E D W N a b c d J:=by
 refine(vM E D W N CI  a b c d J).trans ?_
 simp only[jA]
 kernel_rfl
def Zv (E:EB) (D:Az) (W:AM) (N:Nat) (R10:Nat->Nat->V->Nat->Nat->Nat->Nat->V->Int->Int->H->AH):=Za E D W R10
theorem jH (li10:St->AH) (a b:Nat) (c:V) (d e f g:Nat) (h:V) (i j:Int) (J:H) :
 AU E D W N Cf (H8 a b c d e f g h i j J) (kX ML [] [] li10) (Qa E D W N (C6 CI)) (BF E)=Zv E D W N (fun a b c d e f g h i j J=>li10 (H8 a b c d e f g h i j J)) a b c d e f g h i j J:=by
 refine(oT E D W N (C6 CI) li10 a b c d e f g h i j J).trans ?_
 kernel_rfl
def M0 (n:Nat):Nat->Nat->V->Nat->Nat->Nat->Nat->V->Int->Int->H->AH:=
 Nat.rec (fun _ _ _ _ _ _ _ _ _ _ _=>none) (fun _ ih=>I8 E D W (YB E D W N ) (Zv E D W N ih)) n
theorem jB (n:Nat):∀(a b:Nat) (c:V) (d e f g:Nat) (h:V) (i j:Int) (J:H),
 Aw (fun rec s'=>AU E D W N (Cp Cf) s' (kX ML [] [] rec) (Qa E D W N (C6 CI)) (BF E)) n (H8 a b c d e f g h i j J)=M0 E D W N n a b c d e f g h i j J:=by
 induction n with
 | zero=>intro a b c d e f g h i j J;rfl
 | succ n ihn=>
  intro a b c d e f g h i j J
  rw[BB]
  refine(oU E D W N (C6 CI) Cf (Aw (fun rec s'=>AU E D W N (Cp Cf) s' (kX ML [] [] rec) (Qa E D W N (C6 CI)) (BF E)) n) a b c d e f g h i j J).trans ?_
  simp only[ihn,pS,jH]
  kernel_rfl
def YC:=Qt E D W (M0 E D W N N)
theorem pT (a b:Nat) (c d:V) (e f g h:Nat) (J:H) :
 AU E D W N (Dr (C6 CI) (Cp Cf)) (JF a b c d e f g h J) (BF E) nX (BF E)=YC E D W N a b c d e f g h J:=by
 refine(vO E D W N (C6 CI) (Cp Cf)  a b c d e f g h J).trans ?_
 simp only[jB]
 kernel_rfl
def Ua (n:Nat):Nat->Nat->V->V->Nat->Nat->Nat->Nat->V->Int->Int->H->AH:=
 Nat.rec (fun _ _ _ _ _ _ _ _ _ _ _ _=>none) (fun _ ih=>NZ E D W (YC E D W N ) ih) n
theorem oY (n:Nat):∀(a b:Nat) (c d:V) (e f g h:Nat) (i:V) (j k:Int) (J:H),
 Aw (fun rec s'=>AU E D W N D8 s' (kX Uz [] [] rec) (ZF E D W N (Dr (C6 CI) (Cp Cf))) (BF E)) n (UK a b c d e f g h i j k J)=Ua E D W N n a b c d e f g h i j k J:=by
 induction n with
 | zero=>intro a b c d e f g h i j k J;rfl
 | succ n ihn=>
  intro a b c d e f g h i j k J
  rw[BB]
  refine(vN E D W N (Dr (C6 CI) (Cp Cf)) (Aw (fun rec s'=>AU E D W N D8 s' (kX Uz [] [] rec) (ZF E D W N (Dr (C6 CI) (Cp Cf))) (BF E)) n) a b c d e f g h i j k J).trans ?_
  simp only[ihn,pT]
  kernel_rfl
def jO:=Qu E D W (Ua E D W N N)
theorem pU (a b:Nat) (c d:V) (e f g h:Nat) (J:H) :
 AU E D W N (Ei (Dr (C6 CI) (Cp Cf)) D8) (JF a b c d e f g h J) (BF E) nX (BF E)=jO E D W N a b c d e f g h J:=by
 refine(vP E D W N (Dr (C6 CI) (Cp Cf)) D8  a b c d e f g h J).trans ?_
 simp only[oY]
 kernel_rfl
def RQ:=Na E D W (jO E D W N )
theorem pX (a b:Nat) (c d:V) (e f g h:Nat) (J:H) :
 AU E D W N (FI (Ei (Dr (C6 CI) (Cp Cf)) D8)) (JF a b c d e f g h J) (BF E) nX (BF E)=RQ E D W N a b c d e f g h J:=by
 refine(vV E D W N (Ei (Dr (C6 CI) (Cp Cf)) D8)  a b c d e f g h J).trans ?_
 simp only[pU]
 kernel_rfl
def jP (E:EB) (D:Az) (W:AM) (N:Nat) (R2:Nat->Nat->V->V->Nat->Nat->Nat->Nat->V->Int->Int->H->AH):=Ts E D W R2
theorem pW (li2:St->AH) (a b:Nat) (c d:V) (e f g h:Nat) (i:V) (j k:Int) (J:H) :
 AU E D W N GD (Gj a b c d e f g h i j k J) (kX EM [] [] li2) (KG E D W N (FI (Ei (Dr (C6 CI) (Cp Cf)) D8))) (BF E)=jP E D W N (fun a b c d e f g h i j k J=>li2 (Gj a b c d e f g h i j k J)) a b c d e f g h i j k J:=by
 refine(vS E D W N (FI (Ei (Dr (C6 CI) (Cp Cf)) D8)) li2 a b c d e f g h i j k J).trans ?_
 kernel_rfl
def RP (R2:Nat->Nat->V->V->Nat->Nat->Nat->Nat->V->Int->Int->H->AH):=Qv E D W (jP E D W N R2)
theorem pV (li2:St->AH) (a b:Nat) (c d:V) (e f g h:Nat) (i:V) (j k:Int) (J:H) :
 AU E D W N Hw (Gj a b c d e f g h i j k J) (dX E D W N (.keep EM [] [] GD) (kX EM [] [] li2) (KG E D W N (FI (Ei (Dr (C6 CI) (Cp Cf)) D8))) (BF E)) (Vg E D W N GD (FI (Ei (Dr (C6 CI) (Cp Cf)) D8)) li2) (BF E)=RP E D W N (fun a b c d e f g h i j k J=>li2 (Gj a b c d e f g h i j k J)) a b c d e f g h i j k J:=by
 refine(vR E D W N (FI (Ei (Dr (C6 CI) (Cp Cf)) D8)) GD li2 a b c d e f g h i j k J).trans ?_
 simp only[pW]
 kernel_rfl
def RI (R2:Nat->Nat->V->V->Nat->Nat->Nat->Nat->V->Int->Int->H->AH) (n:Nat):Nat->Nat->V->V->Nat->Nat->Nat->Nat->V->Int->Int->Int->V->H->AH:=
 Nat.rec (fun _ _ _ _ _ _ _ _ _ _ _ _ _ _=>none) (fun _ ih=>KK E D W (RP E D W N R2) ih) n
theorem oZ (li2:St->AH) (n:Nat):∀(a b:Nat) (c d:V) (e f g h:Nat) (j:V) (k l m:Int) (o:V) (J:H),
 Aw (fun rec s'=>AU E D W N JG s' (kX EM [11] [(11,[.i,.any])] rec) (ZG E D W N Hw GD (FI (Ei (Dr (C6 CI) (Cp Cf)) D8)) li2) (BF E)) n (UL a b c d e f g h j k l m o J)=RI E D W N (fun a b c d e f g h j k l J=>li2 (Gj a b c d e f g h j k l J)) n a b c d e f g h j k l m o J:=by
 induction n with
 | zero=>intro a b c d e f g h j k l m o J;rfl
 | succ n ihn=>
  intro a b c d e f g h j k l m o J
  rw[BB]
  refine(vQ E D W N (FI (Ei (Dr (C6 CI) (Cp Cf)) D8)) GD Hw li2 (Aw (fun rec s'=>AU E D W N JG s' (kX EM [11] [(11,[.i,.any])] rec) (ZG E D W N Hw GD (FI (Ei (Dr (C6 CI) (Cp Cf)) D8)) li2) (BF E)) n) a b c d e f g h j k l m o J).trans ?_
  simp only[ihn,pV]
  kernel_rfl
def Ly (n:Nat):Nat->Nat->V->V->Nat->Nat->Nat->Nat->V->Int->Int->H->AH:=
 Nat.rec (fun _ _ _ _ _ _ _ _ _ _ _ _=>none) (fun _ ih=>KL E D W (RQ E D W N ) (RI E D W N ih N)) n
theorem oe (n:Nat):∀(a b:Nat) (c d:V) (e f g h:Nat) (i:V) (j k:Int) (J:H),
 Aw (fun rec s'=>AU E D W N (N8 GD Hw JG) s' (kX EM [] [] rec) (KG E D W N (FI (Ei (Dr (C6 CI) (Cp Cf)) D8))) (BF E)) n (Gj a b c d e f g h i j k J)=Ly E D W N n a b c d e f g h i j k J:=by
 induction n with
 | zero=>intro a b c d e f g h i j k J;rfl
 | succ n ihn=>
  intro a b c d e f g h i j k J
  rw[BB]
  refine(vT E D W N (FI (Ei (Dr (C6 CI) (Cp Cf)) D8)) GD Hw JG (Aw (fun rec s'=>AU E D W N (N8 GD Hw JG) s' (kX EM [] [] rec) (KG E D W N (FI (Ei (Dr (C6 CI) (Cp Cf)) D8))) (BF E)) n) a b c d e f g h i j k J).trans ?_
  simp only[ihn,pX,oZ]
  kernel_rfl
def jQ:=Qw E D W (Ly E D W N N)
theorem pY (a b:Nat) (c:Int) (d:V) (e f g h:Bool) (i j:Int) (k l:V) (m:Int) (o:Bool) (p q r:Int) (s t:V) (u:Int) (v w x:V) (J:H) :
 AU E D W N (YS (FI (Ei (Dr (C6 CI) (Cp Cf)) D8)) (N8 GD Hw JG)) (iO a b c d e f g h i j k l m o p q r s t u v w x J) (BF E) nX (BF E)=jQ E D W N a b c d e f g h i j k l m o p q r s t u v w x J:=by
 refine(vW E D W N (FI (Ei (Dr (C6 CI) (Cp Cf)) D8)) (N8 GD Hw JG)  a b c d e f g h i j k l m o p q r s t u v w x J).trans ?_
 simp only[oe]
 kernel_rfl
def bb (args:List V) (J:H):AH:=
 AE args fun x1 l2=>
 Ar x1 fun b3 o4=>
 AE l2 fun x5 l6=>
 Cw x5 fun l7=>
 A4 .i64 l7 fun x10 l9=>
 AE l9 fun x11 l12=>
 De l12 fun x15 l14=>
 De l14 fun x18 l17=>
 De l17 fun x21 l20=>
 De l20 fun x24 l23=>
 A4 .i64 l23 fun x27 l26=>
 A4 .i64 l26 fun x30 l29=>
 AE l29 fun x31 l32=>
 AE l32 fun x33 l34=>
 A4 .i64 l34 fun x37 l36=>
 De l36 fun x40 l39=>
 A4 .i64 l39 fun x43 l42=>
 AQ l42 (
 AE l6 fun x44 l45=>
 Cw x44 fun l46=>
 A4 .i64 l46 fun x49 l48=>
 A4 .i64 l48 fun x52 l51=>
 AE l51 fun x53 l54=>
 AE l54 fun x55 l56=>
 A4 .i64 l56 fun x59 l58=>
 AE l58 fun x60 l61=>
 AQ l61 (
 AE l45 fun x62 l63=>
 AE l63 fun x64 l65=>
 AQ l65 (
 jQ E D W N b3 o4 x10 x11 x15 x18 x21 x24 x27 x30 x31 x33 x37 x40 x43 x49 x52 x53 x55 x59 x60 x62 x64 J)))
def AIO:DV:=⟨116,[.ptr,y2,y0,.any,.any],[],(YS (FI (Ei (Dr (C6 CI) (Cp Cf)) D8)) (N8 GD Hw JG))⟩
theorem ACc (args:List V) (J:H):Br E D W N AIO args J=bb E D W N args J:=by
 unfold bb
 simp only[<-pY]
 kernel_rfl
def yC:XC:=(.z (.q 2 0<|
.nil)
 (.seq (.z (.m 3 0<|
.b 4 .eql .ptr (.t 3) Z5<|
.nil)
 y14)
 (.z (.m 5 0<|
.n 6 5<|
.f 7 1 6<|
.l 8 .i 7<|
.m 2 8<|
.nil)
 .ret)))
def XE (E:EB) (D:Az) (W:AM) (a:V) (J:H):AH:=
 SV .ptr a V.nilp fun c1=>
 AS c1 (
 some ((V.int .i64 (AA 0)),J)) (
 Ar a fun b2 o3=>
 BL E J b2 (Ac o3 1) fun u4=>
 Ah .i64 u4 fun x5=>
 some ((V.int .i64 x5),J))
def kB (N:Nat) (args:List V) (J:H):AH:=
 AE args fun x1 l2=>
 AQ l2 (
 XE E D W x1 J)
def AIN:DV:=⟨9,[.any],[(.tmp 2)],yC⟩
theorem ACb (args:List V) (J:H):Br E D W N AIN args J=kB E D W N args J:=by kernel_rfl
def yB:XC:=(.z (.l 5 .any 0<|
.k 6 (.int .u64) 45 [(.t 5),(.i 8)]<|
.P 7 (.conv (.toInt .i64) (.t 6))<|
.m 4 7<|
.nil)
 (.block 0 (.z (.m 23 4<|
.b 24 .lss .none (.t 23) (.i 128)<|
.m 22 24<|
.nil)
 (.cond (.tmp 22) (.ops (.m 25 4<|
.w 1 1 25<|
.nil))
 (.z (.m 27 4<|
.b 28 .lss .none (.t 27) (.i 192)<|
.m 26 28<|
.nil)
 (.cond (.tmp 26) (.z (.m 29 4<|
.b 30 .andNot .none (.t 29) (.i 128)<|
.b 31 .shl .none (.t 30) (.con (V.int .u64 (AA 8)))<|
.l 32 .any 0<|
.k 33 (.int .u64) 45 [(.t 32),(.i 8)]<|
.P 34 (.conv (.toInt .i64) (.t 33))<|
.b 35 .or .none (.t 31) (.t 34)<|
.w 1 1 35<|
.nil)
 (.z (.l 36 .i 1<|
.b 37 .lss .none (.t 36) (.i 128)<|
.nil)
 (.cond (.tmp 37) (.ops (.l 38 .any 0<|
.k 39 y6 81 [(.t 38),(.i 4)]<|
.nil))
 .skip)))
 (.z (.m 8 4<|
.b 9 .sub .none (.t 8) (.i 192)<|
.b 10 .mul .none (.t 9) (.i 16384)<|
.w 1 1 10<|
.op none .any [2] (.store 1 (.t 2) (.con TC))<|
.nil)
 (.z (.l 11 .bool 3<|
.m 12 11<|
.gO 12 false (.op (some 13) .i [1,12] (.load none (.t 1))<|
.p 14 [13,12] (.bin .lss .none (.t 13) (.i 16384))<|
.nil) 15 12 14<|
.m 16 15<|
.gO 16 false (.op (some 17) .i [1,16] (.load none (.t 1))<|
.p 18 [17,16] (.bin .gtr .none (.t 17) (.i 65536))<|
.nil) 19 16 18<|
.nil)
 (.cond (.tmp 19) (.ops (.l 20 .any 0<|
.k 21 y6 81 [(.t 20),(.i 4)]<|
.nil))
 .skip)))))))))
def XD (E:EB) (D:Az) (W:AM) (a b c d:V) (J:H):AH:=
 Ar a fun b1 o2=>
 BL E J b1 o2 fun u3=>
 AW (D 45 [u3,.int .i64 (AA 8)] J) fun u4 s5=>
 Ah .u64 u4 fun x6=>
 AS (Ep (BP .i64 x6) (AA 128)) (
 Ar b fun b7 o8=>
 Dt 1 b7 o8 (V.int .i64 (BP .i64 x6)) s5 fun s9=>
 some ((V.tup []),s9)) (
 AS (Ep (BP .i64 x6) (AA 192)) (
 Ar a fun b10 o11=>
 BL E s5 b10 o11 fun u12=>
 AW (D 45 [u12,.int .i64 (AA 8)] s5) fun u13 s14=>
 Ah .u64 u13 fun x15=>
 Ar b fun b16 o17=>
 Dt 1 b16 o17 (V.int .i64 (Yz .i64 (MI .i64 (Mo .i64 (BP .i64 x6) (AA 128)) 8) (BP .i64 x15))) s14 fun s18=>
 Ar b fun b19 o20=>
 BL E s18 b19 o20 fun u21=>
 Ah .i64 u21 fun x22=>
 AS (Ep x22 (AA 128)) (
 Ar a fun b23 o24=>
 BL E s18 b23 o24 fun u25=>
 AW (D 81 [u25,.int .i64 (AA 4)] s18) fun u26 s27=>
 Bc u26 fun l28=>
 AQ l28 (
 some ((V.tup []),s27))) (
 some ((V.tup []),s18))) (
 Ar b fun b29 o30=>
 Dt 1 b29 o30 (V.int .i64 (P8 .i64 (E6 .i64 (BP .i64 x6) (AA 192)) (AA 16384))) s5 fun s31=>
 Ar c fun b32 o33=>
 Dt 1 b32 o33 (V.bool true) s31 fun s34=>
 Ar d fun b35 o36=>
 BL E s34 b35 o36 fun u37=>
 An u37 fun x38=>
 BR (fun c39 s40=>
 BR (fun c42 s43=>
 AS c42 (
 Ar a fun b45 o46=>
 BL E s43 b45 o46 fun u47=>
 AW (D 81 [u47,.int .i64 (AA 4)] s43) fun u48 s49=>
 Bc u48 fun l50=>
 AQ l50 (
 some ((V.tup []),s49))) (
 some ((V.tup []),s43))) fun k44=>
 AS c39 (
 k44 true s40) (
 Ar b fun b51 o52=>
 BL E s40 b51 o52 fun u53=>
 Ah .i64 u53 fun x54=>
 k44 (Ep (AA 65536) x54) s40)) fun k41=>
 AS x38 (
 k41 true s34) (
 Ar b fun b55 o56=>
 BL E s34 b55 o56 fun u57=>
 Ah .i64 u57 fun x58=>
 k41 (Ep x58 (AA 16384)) s34)))
def kA (N:Nat) (args:List V) (J:H):AH:=
 AE args fun x1 l2=>
 AE l2 fun x3 l4=>
 AE l4 fun x5 l6=>
 AE l6 fun x7 l8=>
 AQ l8 (
 XD E D W x1 x3 x5 x7 J)
def AIM:DV:=⟨40,[.any,.any,.any,.any],[],yB⟩
theorem ACa (args:List V) (J:H):Br E D W N AIM args J=kA E D W N args J:=by kernel_rfl
def yA:XC:=(.z (.q 2 0<|
.nil)
 (.z (.m 6 0<|
.k 7 (.tup [.i,.bool]) 171 [(.t 6),(.con TC)]<|
.m 5 7<|
.P 8 (.extract 0 (.t 5))<|
.P 9 (.extract 1 (.t 5))<|
.m 3 8<|
.m 4 9<|
.nil)
 (.z (.m 10 3<|
.m 2 10<|
.nil)
 .ret)))
def XB (E:EB) (D:Az) (W:AM) (a:V) (J:H):AH:=
 AW (D 171 [a,.bool true] J) fun u1 s2=>
 Bc u1 fun l3=>
 A4 .i64 l3 fun x6 l5=>
 De l5 fun x9 l8=>
 AQ l8 (
 some ((V.int .i64 x6),s2))
def j9 (N:Nat) (args:List V) (J:H):AH:=
 AE args fun x1 l2=>
 AQ l2 (
 XB E D W x1 J)
def AIL:DV:=⟨11,[.any],[(.tmp 2)],yA⟩
theorem ACZ (args:List V) (J:H):Br E D W N AIL args J=j9 E D W N args J:=by kernel_rfl
def Uy:List (Nat × DM):=[(0,.any),(1,(.int .u32)),(6,.i)]
def G6 (E:EB):St->AH:=fun s=>EA E s [] fun l=>some (EW l,s.J)
def YR (cc1:XC):XC:=(.z (.m 7 2<|
.k 8 .i 154 [(.t 7)]<|
.b 9 .sub .none (.t 8) (.i 1)<|
.m 6 9<|
.nil)
 (.block 0 (.loop Uy [] [] cc1)))
def Tq (E:EB) (D:Az) (W:AM) (K1:V->Int->Int->H->AH) (a:V) (b c:Int) (J:H):AH:=
 AW (D 154 [.int .i64 c] J) fun u1 s2=>
 Ah .i64 u1 fun x3=>
 K1 a b (E6 .i64 x3 (AA 1)) s2
def N7:XC:=(.seq (.z (.m 10 6<|
.b 11 .geq .none (.t 10) (.i 0)<|
.nil)
 (.cond (.tmp 11) .skip
 Oe))
 (.seq (.block 1 (.ops (.m 14 0<|
.m 15 1<|
.m 16 6<|
.b 17 .shr .none (.t 15) (.t 16)<|
.b 18 .and .none (.t 17) (.con (V.int .u32 (AA 1)))<|
.P 19 (.conv (.toInt .i64) (.t 18))<|
.k 20 y6 250 [(.t 14),(.t 19)]<|
.nil)))
 (.ops (.m 12 6<|
.b 13 .sub .none (.t 12) (.i 1)<|
.m 6 13<|
.nil))))
def Tp (E:EB) (D:Az) (W:AM) (R1:V->Int->Int->H->AH) (a:V) (b c:Int) (J:H):AH:=
 AS (Hk (AA 0) c) (
 Pz c fun n1=>
 AW (D 250 [a,.int .i64 (BP .i64 (Je .u32 (LA .u32 b n1) (AA 1)))] J) fun u2 s3=>
 Bc u2 fun l4=>
 AQ l4 (
 R1 a b (E6 .i64 c (AA 1)) s3)) (
 some ((V.tup []),J))
def iN (a:V) (b c:Int) (J:H):St:=⟨[(0,a),(1,.int .u32 b),(2,.int .i64 c)],[],[],J⟩
def UJ (a:V) (b c:Int) (J:H):St:=⟨[(0,a),(1,.int .u32 b),(6,.int .i64 c)],[],[],J⟩
theorem vL (cc1:XC) (a:V) (b c:Int) (J:H) :
 AU E D W N (YR cc1) (iN a b c J) (G6 E) nX (G6 E) =
 Tq E D W (fun a b d J=>Aw (fun rec s'=>AU E D W N cc1 s' (kX Uy [] [] rec) (Bn 0 (G6 E) nX) (G6 E)) N (UJ a b d J)) a b c J:=by kernel_rfl
theorem vK (li1:St->AH) (a:V) (b c:Int) (J:H) :
 AU E D W N (N7 ) (UJ a b c J) (kX Uy [] [] li1) (Bn 0 (G6 E) nX) (G6 E) =
 Tp E D W (fun a b c J=>li1 (UJ a b c J)) a b c J:=by kernel_rfl
def UZ (E:EB) (D:Az) (W:AM) (N:Nat) (n:Nat):V->Int->Int->H->AH:=
 Nat.rec (fun _ _ _ _=>none) (fun _ ih=>Tp E D W ih) n
theorem oX (n:Nat):∀(a:V) (b c:Int) (J:H),
 Aw (fun rec s'=>AU E D W N N7 s' (kX Uy [] [] rec) (Bn 0 (G6 E) nX) (G6 E)) n (UJ a b c J)=UZ E D W N n a b c J:=by
 induction n with
 | zero=>intro a b c J;rfl
 | succ n ihn=>
  intro a b c J
  rw[BB]
  refine(vK E D W N  (Aw (fun rec s'=>AU E D W N N7 s' (kX Uy [] [] rec) (Bn 0 (G6 E) nX) (G6 E)) n) a b c J).trans ?_
  simp only[ihn]
  kernel_rfl
def jN:=Tq E D W (UZ E D W N N)
theorem pR (a:V) (b c:Int) (J:H) :
 AU E D W N (YR N7) (iN a b c J) (G6 E) nX (G6 E)=jN E D W N a b c J:=by
 refine(vL E D W N N7  a b c J).trans ?_
 simp only[oX]
 kernel_rfl
def ba (args:List V) (J:H):AH:=
 AE args fun x1 l2=>
 A4 .u32 l2 fun x5 l4=>
 A4 .i64 l4 fun x8 l7=>
 AQ l7 (
 jN E D W N x1 x5 x8 J)
def AIK:DV:=⟨21,[.any,(.int .u32),.i],[],(YR N7)⟩
theorem ACY (args:List V) (J:H):Br E D W N AIK args J=ba E D W N args J:=by
 unfold ba
 simp only[<-pR]
 kernel_rfl
def xz:XC:=(.z (.q 2 0<|
.c 3 y3<|
.nil)
 (.seq (.z (.m 4 0<|
.b 5 .lss .none (.t 4) (.i 16384)<|
.nil)
 (.cond (.tmp 5) (.z (.m 6 0<|
.m 2 6<|
.c 3 y3<|
.nil)
 .ret)
 .skip))
 (.z (.m 7 0<|
.b 8 .quo .none (.t 7) (.i 16384)<|
.p 9 [8] (.min (.t 8) [(.i 4)])<|
.b 10 .mul .none (.t 9) (.i 16384)<|
.m 2 10<|
.c 3 TC<|
.nil)
 .ret)))
def Qq (E:EB) (D:Az) (W:AM) (a:Int) (J:H):AH:=
 AS (Ep a (AA 16384)) (
 some ((V.tup [.int .i64 a,.bool false]),J)) (
 some ((V.tup [.int .i64 (P8 .i64 (HL (JX .i64 a (AA 16384)) (AA 4)) (AA 16384)),.bool true]),J))
def bZ (N:Nat) (args:List V) (J:H):AH:=
 A4 .i64 args fun x3 l2=>
 AQ l2 (
 Qq E D W x3 J)
def AIJ:DV:=⟨11,[.i],[(.tmp 2),(.tmp 3)],xz⟩
theorem ACX (args:List V) (J:H):Br E D W N AIJ args J=bZ E D W N args J:=by kernel_rfl
def Ux:List (Nat × DM):=[(0,.any),(1,.any),(7,.i),(8,.i)]
def Fz (E:EB):St->AH:=fun s=>EA E s [(.tmp 4)] fun l=>some (EW l,s.J)
def ZE (c0:XC):Nat->St->AH:=Bn 0 (dX E D W N (.keep [] [] [] c0) (Fz E) nX (Fz E)) nX
def YQ (cc1:XC) (cc2:XC):XC:=(.z (.q 4 0<|
.nil)
 (.seq (.z (.m 6 0<|
.u 7 6<|
.q 8 0<|
.nil)
 (.block 0 (.loop Ux [] [] cc2)))
 (.keep [] [] [] cc1)))
def gN (E:EB) (D:Az) (W:AM) (K2:V->V->Int->Int->H->AH) (a b:V) (J:H):AH:=
 BA a fun n1=>
 K2 a b (AA n1) (AA 0) J
def L5:XC:=(.z (.c 4 zG<|
.nil)
 .ret)
def XA (E:EB) (D:Az) (W:AM) (J:H):AH:=
 some ((V.int .i64 (FM 0)),J)
def N6:XC:=(.z (.b 9 .lss .none (.t 8) (.t 7)<|
.nil)
 (.seq zF
 (.seq (.block 1 (.z (.m 10 8<|
.m 5 10<|
.nil)
 (.z (.m 11 1<|
.m 12 0<|
.m 13 5<|
.s 14 1 12 13<|
.l 15 .i 14<|
.O 16 .bool (.callv (.t 11) [(.t 15)])<|
.nil)
 y17)))
 y20)))
def KJ (E:EB) (D:Az) (W:AM) (K1:H->AH) (R2:V->V->Int->Int->H->AH) (a b:V) (c d:Int) (J:H):AH:=
 AS (Ep d c) (
 AT 1 a d fun b1 o2=>
 BL E J b1 o2 fun u3=>
 Ah .i64 u3 fun x4=>
 Ed D b [.int .i64 x4] J fun u5 s6=>
 An u5 fun x7=>
 AS x7 (
 some ((V.int .i64 d),s6)) (
 R2 a b c (CU .i64 d (AA 1)) s6)) (
 K1 J)
def iM (a b:V) (J:H):St:=⟨[(0,a),(1,b)],[],[],J⟩
def iL (J:H):St:=⟨[],[],[],J⟩
def UI (a b:V) (c d:Int) (J:H):St:=⟨[(0,a),(1,b),(7,.int .i64 c),(8,.int .i64 d)],[],[],J⟩
theorem vJ (cc1:XC) (cc2:XC) (a b:V) (J:H) :
 AU E D W N (YQ cc1 cc2) (iM a b J) (Fz E) nX (Fz E) =
 gN E D W (fun a b c d J=>Aw (fun rec s'=>AU E D W N cc2 s' (kX Ux [] [] rec) (ZE E D W N cc1) (Fz E)) N (UI a b c d J)) a b J:=by kernel_rfl
theorem vI (cc1:XC) (li2:St->AH) (a b:V) (c d:Int) (J:H) :
 AU E D W N (N6 ) (UI a b c d J) (kX Ux [] [] li2) (ZE E D W N cc1) (Fz E) =
 KJ E D W (fun  J=>AU E D W N cc1 (iL J) (Fz E) nX (Fz E)) (fun a b c d J=>li2 (UI a b c d J)) a b c d J:=by kernel_rfl
def jL (E:EB) (D:Az) (W:AM) (N:Nat):=XA E D W
theorem pP (J:H) :
 AU E D W N L5 (iL J) (Fz E) nX (Fz E)=jL E D W N  J:=by kernel_rfl
def X7 (n:Nat):V->V->Int->Int->H->AH:=
 Nat.rec (fun _ _ _ _ _=>none) (fun _ ih=>KJ E D W (jL E D W N ) ih) n
theorem oW (n:Nat):∀(a b:V) (c d:Int) (J:H),
 Aw (fun rec s'=>AU E D W N N6 s' (kX Ux [] [] rec) (ZE E D W N L5) (Fz E)) n (UI a b c d J)=X7 E D W N n a b c d J:=by
 induction n with
 | zero=>intro a b c d J;rfl
 | succ n ihn=>
  intro a b c d J
  rw[BB]
  refine(vI E D W N L5 (Aw (fun rec s'=>AU E D W N N6 s' (kX Ux [] [] rec) (ZE E D W N L5) (Fz E)) n) a b c d J).trans ?_
  simp only[ihn,pP]
  kernel_rfl
def jM:=gN E D W (X7 E D W N N)
theorem pQ (a b:V) (J:H) :
 AU E D W N (YQ L5 N6) (iM a b J) (Fz E) nX (Fz E)=jM E D W N a b J:=by
 refine(vJ E D W N L5 N6  a b J).trans ?_
 simp only[oW]
 kernel_rfl
def bY (args:List V) (J:H):AH:=
 AE args fun x1 l2=>
 AE l2 fun x3 l4=>
 AQ l4 (
 jM E D W N x1 x3 J)
def AII:DV:=⟨19,lB,[(.tmp 4)],(YQ L5 N6)⟩
theorem ACW (args:List V) (J:H):Br E D W N AII args J=bY E D W N args J:=by
 unfold bY
 simp only[<-pQ]
 kernel_rfl
def Uw:List (Nat × DM):=[(0,.any),(1,.bool),(7,.i),(8,.i)]
def Fy (E:EB):St->AH:=fun s=>EA E s [(.tmp 4)] fun l=>some (EW l,s.J)
def ZD (c0:XC):Nat->St->AH:=Bn 0 (dX E D W N (.keep [] [] [] c0) (Fy E) nX (Fy E)) nX
def YP (cc1:XC) (cc2:XC):XC:=(.z (.q 4 0<|
.nil)
 (.seq (.z (.m 6 0<|
.u 7 6<|
.q 8 0<|
.nil)
 (.block 0 (.loop Uw [] [] cc2)))
 (.keep [] [] [] cc1)))
def gL (E:EB) (D:Az) (W:AM) (K2:V->Bool->Int->Int->H->AH) (a:V) (b:Bool) (J:H):AH:=
 BA a fun n1=>
 K2 a b (AA n1) (AA 0) J
def L4:XC:=(.z (.c 4 zG<|
.nil)
 .ret)
def gJ (E:EB) (D:Az) (W:AM) (J:H):AH:=
 some ((V.int .i64 (FM 0)),J)
def N5:XC:=(.z (.b 9 .lss .none (.t 8) (.t 7)<|
.nil)
 (.seq zF
 (.seq (.block 1 (.z (.m 10 8<|
.m 5 10<|
.nil)
 (.z (.m 11 1<|
.m 12 0<|
.m 13 5<|
.s 14 1 12 13<|
.l 15 .bool 14<|
.b 16 .eql .bool (.t 11) (.t 15)<|
.nil)
 y17)))
 y20)))
def I7 (E:EB) (D:Az) (W:AM) (K1:H->AH) (R2:V->Bool->Int->Int->H->AH) (a:V) (b:Bool) (c d:Int) (J:H):AH:=
 AS (Ep d c) (
 AT 1 a d fun b1 o2=>
 BL E J b1 o2 fun u3=>
 An u3 fun x4=>
 SV .bool (V.bool b) (V.bool x4) fun c5=>
 AS c5 (
 some ((V.int .i64 d),J)) (
 R2 a b c (CU .i64 d (AA 1)) J)) (
 K1 J)
def iK (a:V) (b:Bool) (J:H):St:=⟨[(0,a),(1,.bool b)],[],[],J⟩
def iJ (J:H):St:=⟨[],[],[],J⟩
def UH (a:V) (b:Bool) (c d:Int) (J:H):St:=⟨[(0,a),(1,.bool b),(7,.int .i64 c),(8,.int .i64 d)],[],[],J⟩
theorem vH (cc1:XC) (cc2:XC) (a:V) (b:Bool) (J:H) :
 AU E D W N (YP cc1 cc2) (iK a b J) (Fy E) nX (Fy E) =
 gL E D W (fun a b c d J=>Aw (fun rec s'=>AU E D W N cc2 s' (kX Uw [] [] rec) (ZD E D W N cc1) (Fy E)) N (UH a b c d J)) a b J:=by kernel_rfl
theorem vG (cc1:XC) (li2:St->AH) (a:V) (b:Bool) (c d:Int) (J:H) :
 AU E D W N (N5 ) (UH a b c d J) (kX Uw [] [] li2) (ZD E D W N cc1) (Fy E) =
 I7 E D W (fun  J=>AU E D W N cc1 (iJ J) (Fy E) nX (Fy E)) (fun a b c d J=>li2 (UH a b c d J)) a b c d J:=by kernel_rfl
def jJ (E:EB) (D:Az) (W:AM) (N:Nat):=gJ E D W
theorem pM (J:H) :
 AU E D W N L4 (iJ J) (Fy E) nX (Fy E)=jJ E D W N  J:=by kernel_rfl
def UY (n:Nat):V->Bool->Int->Int->H->AH:=
 Nat.rec (fun _ _ _ _ _=>none) (fun _ ih=>I7 E D W (jJ E D W N ) ih) n
theorem oV (n:Nat):∀(a:V) (b:Bool) (c d:Int) (J:H),
 Aw (fun rec s'=>AU E D W N N5 s' (kX Uw [] [] rec) (ZD E D W N L4) (Fy E)) n (UH a b c d J)=UY E D W N n a b c d J:=by
 induction n with
 | zero=>intro a b c d J;rfl
 | succ n ihn=>
  intro a b c d J
  rw[BB]
  refine(vG E D W N L4 (Aw (fun rec s'=>AU E D W N N5 s' (kX Uw [] [] rec) (ZD E D W N L4) (Fy E)) n) a b c d J).trans ?_
  simp only[ihn,pM]
  kernel_rfl
def jK:=gL E D W (UY E D W N N)
theorem pO (a:V) (b:Bool) (J:H) :
 AU E D W N (YP L4 N5) (iK a b J) (Fy E) nX (Fy E)=jK E D W N a b J:=by
 refine(vH E D W N L4 N5  a b J).trans ?_
 simp only[oV]
 kernel_rfl
def bX (args:List V) (J:H):AH:=
 AE args fun x1 l2=>
 De l2 fun x5 l4=>
 AQ l4 (
 jK E D W N x1 x5 J)
def AIH:DV:=⟨19,[.any,.bool],[(.tmp 4)],(YP L4 N5)⟩
theorem ACV (args:List V) (J:H):Br E D W N AIH args J=bX E D W N args J:=by
 unfold bX
 simp only[<-pO]
 kernel_rfl
def xy:XC:=(.ops (.m 4 0<|
.m 5 1<|
.k 6 y6 200 [(.t 4),(.t 5),(.con y3)]<|
.nil))
def W9 (E:EB) (D:Az) (W:AM) (a:V) (b:Int) (J:H):AH:=
 AW (D 200 [a,.int .i64 b,.bool false] J) fun u1 s2=>
 Bc u1 fun l3=>
 AQ l3 (
 some ((V.tup []),s2))
def j8 (N:Nat) (args:List V) (J:H):AH:=
 AE args fun x1 l2=>
 A4 .i64 l2 fun x5 l4=>
 AQ l4 (
 W9 E D W x1 x5 J)
def AIF:DV:=⟨7,Z3,[],xy⟩
theorem ACU (args:List V) (J:H):Br E D W N AIF args J=j8 E D W N args J:=by kernel_rfl
def xw:XC:=(.draw (.m 5 0<|
.f 6 1 1<|
.l 7 .i 6<|
.f 8 3 2<|
.l 9 .any 8<|
.l 10 .any 3<|
.P 11 (.iaddrS 1 (.t 10) (.i 0))<|
.l 12 .i 11<|
.s 13 6 9 12<|
.O 14 y0 (.load (some 6) (.t 13))<|
.k 15 y6 62 [(.t 5),(.t 7),(.t 14)]<|
.nil) [0,0,2,0,8,0,32,96,248,504,1023])
def W8 (E:EB) (D:Az) (W:AM) (a b c d:V) (J:H):AH:=
 Ar b fun b1 o2=>
 BL E J b1 (Ac o2 1) fun u3=>
 Ah .i64 u3 fun x4=>
 Ar c fun b5 o6=>
 BL E J b5 (Ac o6 3) fun u7=>
 Ar d fun b8 o9=>
 BL E J b8 o9 fun u10=>
 AT 1 u10 (AA 0) fun b11 o12=>
 BL E J b11 o12 fun u13=>
 Ah .i64 u13 fun x14=>
 AT 6 u7 x14 fun b15 o16=>
 BQ E J b15 o16 6 fun l17=>
 A4 .i64 l17 fun x20 l19=>
 A4 .i64 l19 fun x23 l22=>
 AE l22 fun x24 l25=>
 AE l25 fun x26 l27=>
 A4 .i64 l27 fun x30 l29=>
 AE l29 fun x31 l32=>
 AQ l32 (
 AW (D 62 [a,.int .i64 x4,.agg [.int .i64 x20,.int .i64 x23,x24,x26,.int .i64 x30,x31]] J) fun u33 s34=>
 Bc u33 fun l35=>
 AQ l35 (
 some ((V.tup []),s34)))
def bW (N:Nat) (args:List V) (J:H):AH:=
 AE args fun x1 l2=>
 AE l2 fun x3 l4=>
 AE l4 fun x5 l6=>
 AE l6 fun x7 l8=>
 AQ l8 (
 W8 E D W x1 x3 x5 x7 J)
def AIE:DV:=⟨16,[.any,.any,.any,.any],[],xw⟩
theorem ACT (args:List V) (J:H):Br E D W N AIE args J=bW E D W N args J:=by kernel_rfl
def xu (cc1:XC):XC:=(.seq (.z (.m 4 0<|
.b 5 .eql .ptr (.t 4) Z5<|
.nil)
 (.cond (.tmp 5) .ret
 .skip))
 (.seq (.z (.m 6 0<|
.n 7 6<|
.f 8 1 7<|
.l 9 .i 8<|
.b 10 .rem .none (.t 9) (.i 8)<|
.b 11 .eql .none (.t 10) (.i 0)<|
.nil)
 (.cond (.tmp 11) (.ops (.m 12 0<|
.m 13 0<|
.n 14 13<|
.f 15 0 14<|
.l 16 .any 15<|
.p 17 [] y5<|
.O 18 .one (.append 5 1 1 (.t 16) (.t 17))<|
.n 19 12<|
.f 20 0 19<|
.w 1 20 18<|
.nil))
 .skip))
 (.keep [(0,.any),(1,.i)] [] [] cc1)))
def Qp (E:EB) (D:Az) (W:AM) (K1:V->Int->H->AH) (a:V) (b:Int) (J:H):AH:=
 SV .ptr a V.nilp fun c1=>
 AS c1 (
 some ((V.tup []),J)) (
 Ar a fun b2 o3=>
 BL E J b2 (Ac o3 1) fun u4=>
 Ah .i64 u4 fun x5=>
 AS (Cu (Fq x5 (AA 8)) (AA 0)) (
 Ar a fun b6 o7=>
 BL E J b6 o7 fun u8=>
 let s9:=DR J (.cells [.int .u8 (AA 0)]);
 Ee E 1 1 u8 (V.sl (H.next J) 0 1 (.ex 1)) s9 fun u10 s11=>
 Cm u10 (
 Ar a fun b12 o13=>
 Dt 1 b12 o13 u10 s11 fun s14=>
 K1 a b s14)) (
 K1 a b J))
def xr (cc2:XC):XC:=(.seq (.z (.m 21 1<|
.b 22 .neq .none (.t 21) (.i 0)<|
.nil)
 (.cond (.tmp 22) (.draw (.m 23 0<|
.n 24 23<|
.f 25 0 24<|
.l 26 .any 25<|
.m 27 0<|
.n 28 27<|
.f 29 1 28<|
.l 30 .i 29<|
.b 31 .quo .none (.t 30) (.i 8)<|
.s 32 1 26 31<|
.l 33 (.int .u8) 32<|
.m 34 0<|
.n 35 34<|
.f 36 1 35<|
.l 37 .i 36<|
.b 38 .rem .none (.t 37) (.i 8)<|
.b 39 .shr .none (.con (V.int .u8 (AA 128))) (.t 38)<|
.b 40 .or .none (.t 33) (.t 39)<|
.s 41 1 26 31<|
.w 1 41 40<|
.nil) [0,1,3,7,0,16,48,112,240,511,1023,0,2048,6144,14336,30720,63488,131071,262143,524287])
 .skip))
 (.keep [(0,.any)] [] [] cc2))
def Qo (E:EB) (D:Az) (W:AM) (K2:V->H->AH) (a:V) (b:Int) (J:H):AH:=
 AS (not (Cu b (AA 0))) (
 Ar a fun b1 o2=>
 BL E J b1 o2 fun u3=>
 Ar a fun b4 o5=>
 BL E J b4 (Ac o5 1) fun u6=>
 Ah .i64 u6 fun x7=>
 AT 1 u3 (JX .i64 x7 (AA 8)) fun b8 o9=>
 BL E J b8 o9 fun u10=>
 Ah .u8 u10 fun x11=>
 Ar a fun b12 o13=>
 BL E J b12 (Ac o13 1) fun u14=>
 Ah .i64 u14 fun x15=>
 Pz (Fq x15 (AA 8)) fun n16=>
 AT 1 u3 (JX .i64 x7 (AA 8)) fun b17 o18=>
 Dt 1 b17 o18 (V.int .u8 (Yz .u8 x11 (LA .u8 (AA 128) n16))) J fun s19=>
 K2 a s19) (
 K2 a J)
def xq:XC:=(.ops (.m 42 0<|
.n 43 42<|
.f 44 1 43<|
.l 45 .i 44<|
.b 46 .add .none (.t 45) (.i 1)<|
.n 47 42<|
.f 48 1 47<|
.w 1 48 46<|
.nil))
def W7 (E:EB) (D:Az) (W:AM) (a:V) (J:H):AH:=
 Ar a fun b1 o2=>
 BL E J b1 (Ac o2 1) fun u3=>
 Ah .i64 u3 fun x4=>
 Ar a fun b5 o6=>
 Dt 1 b5 (Ac o6 1) (V.int .i64 (CU .i64 x4 (AA 1))) J fun s7=>
 some ((V.tup []),s7)
def xX (E:EB) (D:Az) (W:AM) (N:Nat):=W7 E D W
def xY:=Qo E D W (xX E D W N )
def j7 (args:List V) (J:H):AH:=
 AE args fun x1 l2=>
 A4 .i64 l2 fun x5 l4=>
 AQ l4 (
 Qp E D W (xY E D W N ) x1 x5 J)
def AID:DV:=⟨49,Z3,[],(xu (xr xq))⟩
theorem ACS (args:List V) (J:H):Br E D W N AID args J=j7 E D W N args J:=by kernel_rfl
end
noncomputable section
def glob:Nat->Bool:=fun g=>DQ g 2
theorem follows:Tryz.prog.follows .mixedOrders=true:=by kernel_rfl
def Is (f:Nat) (A:DV):Prop:=∃fn,Tryz.prog.funcs[f]? = some fn/\Mk Tryz.prog glob fn=some A.strip/\A.body.ok=true/\I6 Tryz.prog f=true
theorem Is.sound {f:Nat} {A:DV} (h:Is f A) (E:EB) (D:Az) (hD:∀f,Cb Tryz.prog E glob f (D f)) (N:Nat):Cb Tryz.prog E glob f (Br E D (Ao E D) N A):=
 let ⟨_,h1,h2,h3,h4⟩:=h
 mC hD (VR hD follows) follows N h1 h2 rfl h3 h4
theorem Is.sf {f:Nat} {A:DV} (h:Is f A) {E:EB} {D:Az} (hD:∀f,Cb Tryz.prog E glob f (D f)) {N:Nat} {F:List V->H->AH} (he:∀args J,Br E D (Ao E D) N A args J=F args J):Cb Tryz.prog E glob f F:=by
 have h1:=h.sound E D hD N
 rwa [show Br E D (Ao E D) N A=F from funext fun a=>funext fun s=>he a s]at h1
abbrev Dk (f:Nat) (F:EB->Az->AM->Nat->List V->H->AH):Prop:=∀(E:EB) (D:Az),(∀f,Cb Tryz.prog E glob f (D f))->∀N,Cb Tryz.prog E glob f (F E D (Ao E D) N)
noncomputable def tab:List (Nat × Func):=[(4,Tryz.f4),(5,Tryz.f5),(11,Tryz.f11),(12,Tryz.f12),(17,Tryz.f17),(28,Tryz.f28),(29,Tryz.f29),(30,Tryz.f30),(31,Tryz.f31),(32,Tryz.f32),(34,Tryz.f34),(35,Tryz.f35),(36,Tryz.f36),(38,Tryz.f38),(39,Tryz.f39),(40,Tryz.f40),(46,Tryz.f46),(64,Tryz.f64),(65,Tryz.f65),(66,Tryz.f66),(67,Tryz.f67),(68,Tryz.f68),(69,Tryz.f69),(70,Tryz.f70),(71,Tryz.f71),(72,Tryz.f72),(73,Tryz.f73),(75,Tryz.f75),(76,Tryz.f76),(77,Tryz.f77),(79,Tryz.f79),(80,Tryz.f80),(85,Tryz.f85),(86,Tryz.f86),(89,Tryz.f89),(103,Tryz.f103),(119,Tryz.f119),(134,Tryz.f134),(135,Tryz.f135),(136,Tryz.f136),(137,Tryz.f137),(138,Tryz.f138),(139,Tryz.f139),(142,Tryz.f142),(143,Tryz.f143),(145,Tryz.f145),(147,Tryz.f147),(149,Tryz.f149),(150,Tryz.f150),(152,Tryz.f152),(153,Tryz.f153),(156,Tryz.f156),(157,Tryz.f157),(159,Tryz.f159),(160,Tryz.f160),(166,Tryz.f166),(170,Tryz.f170),(176,Tryz.f176),(194,Tryz.f194),(210,Tryz.f210),(212,Tryz.f212),(215,Tryz.f215),(216,Tryz.f216),(242,Tryz.f242),(243,Tryz.f243),(244,Tryz.f244),(252,Tryz.f252),(253,Tryz.f253),(254,Tryz.f254),(261,Tryz.f261)]
theorem tW:∀p∈tab,Tryz.prog.funcs[p.1]? = some p.2/\I6 Tryz.prog p.1=true:=by
 unfold tab
 simp only[cD]
 exact⟨⟨Tryz.func4,by kernel_rfl⟩,
  ⟨Tryz.func5,by kernel_rfl⟩,
  ⟨Tryz.func11,by kernel_rfl⟩,
  ⟨Tryz.func12,by kernel_rfl⟩,
  ⟨Tryz.func17,by kernel_rfl⟩,
  ⟨Tryz.func28,by kernel_rfl⟩,
  ⟨Tryz.func29,by kernel_rfl⟩,
  ⟨Tryz.func30,by kernel_rfl⟩,
  ⟨Tryz.func31,by kernel_rfl⟩,
  ⟨Tryz.func32,by kernel_rfl⟩,
  ⟨Tryz.func34,by kernel_rfl⟩,
  ⟨Tryz.func35,by kernel_rfl⟩,
  ⟨Tryz.func36,by kernel_rfl⟩,
  ⟨Tryz.func38,by kernel_rfl⟩,
  ⟨Tryz.func39,by kernel_rfl⟩,
  ⟨Tryz.func40,by kernel_rfl⟩,
  ⟨Tryz.func46,by kernel_rfl⟩,
  ⟨Tryz.func64,by kernel_rfl⟩,
  ⟨Tryz.func65,by kernel_rfl⟩,
  ⟨Tryz.func66,by kernel_rfl⟩,
  ⟨Tryz.func67,by kernel_rfl⟩,
  ⟨Tryz.func68,by kernel_rfl⟩,
  ⟨Tryz.func69,by kernel_rfl⟩,
  ⟨Tryz.func70,by kernel_rfl⟩,
  ⟨Tryz.func71,by kernel_rfl⟩,
  ⟨Tryz.func72,by kernel_rfl⟩,
  ⟨Tryz.func73,by kernel_rfl⟩,
  ⟨Tryz.func75,by kernel_rfl⟩,
  ⟨Tryz.func76,by kernel_rfl⟩,
  ⟨Tryz.func77,by kernel_rfl⟩,
  ⟨Tryz.func79,by kernel_rfl⟩,
  ⟨Tryz.func80,by kernel_rfl⟩,
  ⟨Tryz.func85,by kernel_rfl⟩,
  ⟨Tryz.func86,by kernel_rfl⟩,
  ⟨Tryz.func89,by kernel_rfl⟩,
  ⟨Tryz.func103,by kernel_rfl⟩,
  ⟨Tryz.func119,by kernel_rfl⟩,
  ⟨Tryz.func134,by kernel_rfl⟩,
  ⟨Tryz.func135,by kernel_rfl⟩,
  ⟨Tryz.func136,by kernel_rfl⟩,
  ⟨Tryz.func137,by kernel_rfl⟩,
  ⟨Tryz.func138,by kernel_rfl⟩,
  ⟨Tryz.func139,by kernel_rfl⟩,
  ⟨Tryz.func142,by kernel_rfl⟩,
  ⟨Tryz.func143,by kernel_rfl⟩,
  ⟨Tryz.func145,by kernel_rfl⟩,
  ⟨Tryz.func147,by kernel_rfl⟩,
  ⟨Tryz.func149,by kernel_rfl⟩,
  ⟨Tryz.func150,by kernel_rfl⟩,
  ⟨Tryz.func152,by kernel_rfl⟩,
  ⟨Tryz.func153,by kernel_rfl⟩,
  ⟨Tryz.func156,by kernel_rfl⟩,
  ⟨Tryz.func157,by kernel_rfl⟩,
  ⟨Tryz.func159,by kernel_rfl⟩,
  ⟨Tryz.func160,by kernel_rfl⟩,
  ⟨Tryz.func166,by kernel_rfl⟩,
  ⟨Tryz.func170,by kernel_rfl⟩,
  ⟨Tryz.func176,by kernel_rfl⟩,
  ⟨Tryz.func194,by kernel_rfl⟩,
  ⟨Tryz.func210,by kernel_rfl⟩,
  ⟨Tryz.func212,by kernel_rfl⟩,
  ⟨Tryz.func215,by kernel_rfl⟩,
  ⟨Tryz.func216,by kernel_rfl⟩,
  ⟨Tryz.func242,by kernel_rfl⟩,
  ⟨Tryz.func243,by kernel_rfl⟩,
  ⟨Tryz.func244,by kernel_rfl⟩,
  ⟨Tryz.func252,by kernel_rfl⟩,
  ⟨Tryz.func253,by kernel_rfl⟩,
  ⟨Tryz.func254,by kernel_rfl⟩,
  ⟨Tryz.func261,by kernel_rfl⟩,fun _ h=>by cases h⟩
def dg:List (Nat × Func)->Nat->Option Func:=fun l n=>List.rec none (fun p _ ih=>match Ax p.1 n with | true=>some p.2 | false=>ih) l
theorem SO:∀(l:List (Nat × Func)) (n:Nat) (g:Func),dg l n=some g->(n,g)∈l
 | [],n,g,h=>by cases h
 | p::l,n,g,h=>by
  have h':(match Ax p.1 n with | true=>some p.2 | false=>dg l n)=some g:=h
  cases hb:Ax p.1 n with
  | true=>
   rw[hb]at h'
   simp only[AP.injEq]at h'
   have:=BO hb
   subst this;subst h'
   exact BZ
  | false=>
   rw[hb]at h'
   exact ED _ (SO l n g h')
theorem VX (P:Program) (G:Nat->Bool) (n:Nat) (c:Code):(CT P G n c).strip=CT P G n c:=by
 fun_induction CT P G n c<;>simp_all[AC.strip]
theorem VW {P:Program} {G:Nat->Bool} {fn:Func} {a:cB} (h:Mk P G fn=some a):a.strip=a:=by
 unfold Mk at h
 split at h
 ·cases h
  unfold cB.strip
  rw[VX]
 ·cases h
theorem B0 {f:Nat} {fn:Func} {A:DV} {F:EB->Az->AM->Nat->List V->H->AH} (h1:Tryz.prog.funcs[f]? = some fn) (h2:Mk Tryz.prog glob fn=some A.strip) (h3:(A.body.ok&&I6 Tryz.prog f)=true) (he:∀E D W N args J,Br E D W N A args J=F E D W N args J):Dk f F:=fun E D hD N=>by
 rw[AK]at h3
 exact Is.sf (A:=A) ⟨fn,h1,h2,h3.1,h3.2⟩ hD (he E D (Ao E D) N)
theorem SF3:Dk 3 F3:=B0 Tryz.func3 (by kernel_rfl) (by kernel_rfl) FE3
theorem SF6:Dk 6 F6:=B0 Tryz.func6 (by kernel_rfl) (by kernel_rfl) FE6
theorem SF7:Dk 7 F7:=B0 Tryz.func7 (by kernel_rfl) (by kernel_rfl) FE7
theorem SF8:Dk 8 F8:=B0 Tryz.func8 (by kernel_rfl) (by kernel_rfl) FE8
theorem SF9:Dk 9 F9:=B0 Tryz.func9 (by kernel_rfl) (by kernel_rfl) FE9
theorem AGq:Dk 10 xk:=B0 Tryz.func10 (by kernel_rfl) (by kernel_rfl) AHf
theorem AGp:Dk 13 F13:=B0 Tryz.func13 (by kernel_rfl) (by kernel_rfl) AHe
theorem AGo:Dk 14 zD:=B0 Tryz.func14 (by kernel_rfl) (by kernel_rfl) AHd
theorem AGn:Dk 15 F15:=B0 Tryz.func15 (by kernel_rfl) (by kernel_rfl) AHc
theorem AGm:Dk 16 F16:=B0 Tryz.func16 (by kernel_rfl) (by kernel_rfl) AHb
theorem AGl:Dk 18 F18:=B0 Tryz.func18 (by kernel_rfl) (by kernel_rfl) AHa
theorem AGk:Dk 19 zC:=B0 Tryz.func19 (by kernel_rfl) (by kernel_rfl) AHZ
theorem AGj:Dk 20 F20:=B0 Tryz.func20 (by kernel_rfl) (by kernel_rfl) AHY
theorem AGi:Dk 21 xj:=B0 Tryz.func21 (by kernel_rfl) (by kernel_rfl) AHX
theorem AGh:Dk 22 zB:=B0 Tryz.func22 (by kernel_rfl) (by kernel_rfl) AHW
theorem AGg:Dk 23 zA:=B0 Tryz.func23 (by kernel_rfl) (by kernel_rfl) AHV
theorem AGf:Dk 24 yz:=B0 Tryz.func24 (by kernel_rfl) (by kernel_rfl) AHU
theorem AGe:Dk 25 xi:=B0 Tryz.func25 (by kernel_rfl) (by kernel_rfl) AHT
theorem AGd:Dk 26 xh:=B0 Tryz.func26 (by kernel_rfl) (by kernel_rfl) AHS
theorem AGc:Dk 27 F27:=B0 Tryz.func27 (by kernel_rfl) (by kernel_rfl) AHR
theorem AGb:Dk 37 yy:=B0 Tryz.func37 (by kernel_rfl) (by kernel_rfl) AHQ
theorem AGa:Dk 41 F41:=B0 Tryz.func41 (by kernel_rfl) (by kernel_rfl) AHP
theorem AGZ:Dk 42 yx:=B0 Tryz.func42 (by kernel_rfl) (by kernel_rfl) AHO
theorem AGY:Dk 43 F43:=B0 Tryz.func43 (by kernel_rfl) (by kernel_rfl) AHN
theorem AGX:Dk 44 F44:=B0 Tryz.func44 (by kernel_rfl) (by kernel_rfl) AHM
theorem AGW:Dk 45 F45:=B0 Tryz.func45 (by kernel_rfl) (by kernel_rfl) AHL
theorem AGV:Dk 48 F48:=B0 Tryz.func48 (by kernel_rfl) (by kernel_rfl) AHK
theorem AGU:Dk 51 F51:=B0 Tryz.func51 (by kernel_rfl) (by kernel_rfl) AHJ
theorem AGT:Dk 55 yw:=B0 Tryz.func55 (by kernel_rfl) (by kernel_rfl) AHI
theorem AGS:Dk 56 F56:=B0 Tryz.func56 (by kernel_rfl) (by kernel_rfl) AHH
theorem AGR:Dk 57 F57:=B0 Tryz.func57 (by kernel_rfl) (by kernel_rfl) AHG
theorem AGQ:Dk 58 F58:=B0 Tryz.func58 (by kernel_rfl) (by kernel_rfl) AHF
theorem AGP:Dk 59 xg:=B0 Tryz.func59 (by kernel_rfl) (by kernel_rfl) AHE
theorem AGO:Dk 60 sW:=B0 Tryz.func60 (by kernel_rfl) (by kernel_rfl) AHD
theorem AGN:Dk 61 xe:=B0 Tryz.func61 (by kernel_rfl) (by kernel_rfl) AHC
theorem AGM:Dk 62 xd:=B0 Tryz.func62 (by kernel_rfl) (by kernel_rfl) AHB
theorem AGL:Dk 63 F63:=B0 Tryz.func63 (by kernel_rfl) (by kernel_rfl) AHA
theorem AGK:Dk 78 yv:=B0 Tryz.func78 (by kernel_rfl) (by kernel_rfl) AG9
theorem AGJ:Dk 81 F81:=B0 Tryz.func81 (by kernel_rfl) (by kernel_rfl) AG8
theorem AGI:Dk 82 yu:=B0 Tryz.func82 (by kernel_rfl) (by kernel_rfl) AG7
theorem AGH:Dk 83 F83:=B0 Tryz.func83 (by kernel_rfl) (by kernel_rfl) AG6
theorem AGG:Dk 84 F84:=B0 Tryz.func84 (by kernel_rfl) (by kernel_rfl) AG5
theorem AGF:Dk 92 yt:=B0 Tryz.func92 (by kernel_rfl) (by kernel_rfl) AG4
theorem AGE:Dk 93 F93:=B0 Tryz.func93 (by kernel_rfl) (by kernel_rfl) AG3
theorem AGD:Dk 95 yr:=B0 Tryz.func95 (by kernel_rfl) (by kernel_rfl) AG2
theorem ABc:Dk 101 kU:=B0 Tryz.func101 (by kernel_rfl) (by kernel_rfl) ADG
theorem ABb:Dk 104 bu:=B0 Tryz.func104 (by kernel_rfl) (by kernel_rfl) ADF
theorem ABa:Dk 105 YO:=B0 Tryz.func105 (by kernel_rfl) (by kernel_rfl) ADE
theorem ABZ:Dk 106 kT:=B0 Tryz.func106 (by kernel_rfl) (by kernel_rfl) ADD
theorem ABY:Dk 107 kS:=B0 Tryz.func107 (by kernel_rfl) (by kernel_rfl) ADC
theorem ABX:Dk 108 kR:=B0 Tryz.func108 (by kernel_rfl) (by kernel_rfl) ADB
theorem ABW:Dk 109 br:=B0 Tryz.func109 (by kernel_rfl) (by kernel_rfl) ADA
theorem ABV:Dk 111 kQ:=B0 Tryz.func111 (by kernel_rfl) (by kernel_rfl) AC9
theorem ABU:Dk 115 YN:=B0 Tryz.func115 (by kernel_rfl) (by kernel_rfl) AC8
theorem ABT:Dk 116 kP:=B0 Tryz.func116 (by kernel_rfl) (by kernel_rfl) AC7
theorem ABS:Dk 117 bq:=B0 Tryz.func117 (by kernel_rfl) (by kernel_rfl) AC6
theorem ABR:Dk 118 kO:=B0 Tryz.func118 (by kernel_rfl) (by kernel_rfl) AC5
theorem ABQ:Dk 121 YM:=B0 Tryz.func121 (by kernel_rfl) (by kernel_rfl) AC4
theorem ABP:Dk 124 bp:=B0 Tryz.func124 (by kernel_rfl) (by kernel_rfl) AC3
theorem ABO:Dk 131 YL:=B0 Tryz.func131 (by kernel_rfl) (by kernel_rfl) AC2
theorem ABN:Dk 132 kN:=B0 Tryz.func132 (by kernel_rfl) (by kernel_rfl) AC1
theorem ABM:Dk 133 kM:=B0 Tryz.func133 (by kernel_rfl) (by kernel_rfl) AC0
theorem ABL:Dk 154 bn:=B0 Tryz.func154 (by kernel_rfl) (by kernel_rfl) ACz
theorem ABK:Dk 155 kL:=B0 Tryz.func155 (by kernel_rfl) (by kernel_rfl) ACy
theorem ABJ:Dk 158 kK:=B0 Tryz.func158 (by kernel_rfl) (by kernel_rfl) ACx
theorem ABI:Dk 171 kJ:=B0 Tryz.func171 (by kernel_rfl) (by kernel_rfl) ACw
theorem ABH:Dk 177 YK:=B0 Tryz.func177 (by kernel_rfl) (by kernel_rfl) ACv
theorem ABG:Dk 179 kI:=B0 Tryz.func179 (by kernel_rfl) (by kernel_rfl) ACu
theorem ABF:Dk 180 kH:=B0 Tryz.func180 (by kernel_rfl) (by kernel_rfl) ACt
theorem ABE:Dk 182 kG:=B0 Tryz.func182 (by kernel_rfl) (by kernel_rfl) ACs
theorem ABD:Dk 187 bm:=B0 Tryz.func187 (by kernel_rfl) (by kernel_rfl) ACr
theorem ABC:Dk 188 WE:=B0 Tryz.func188 (by kernel_rfl) (by kernel_rfl) ACq
theorem ABB:Dk 189 bj:=B0 Tryz.func189 (by kernel_rfl) (by kernel_rfl) ACp
theorem ABA:Dk 191 YJ:=B0 Tryz.func191 (by kernel_rfl) (by kernel_rfl) ACo
theorem AA9:Dk 192 bh:=B0 Tryz.func192 (by kernel_rfl) (by kernel_rfl) ACn
theorem AA8:Dk 193 kF:=B0 Tryz.func193 (by kernel_rfl) (by kernel_rfl) ACm
theorem AA7:Dk 198 bg:=B0 Tryz.func198 (by kernel_rfl) (by kernel_rfl) ACl
theorem AA6:Dk 199 YI:=B0 Tryz.func199 (by kernel_rfl) (by kernel_rfl) ACk
theorem AA5:Dk 200 bf:=B0 Tryz.func200 (by kernel_rfl) (by kernel_rfl) ACj
theorem AA4:Dk 201 YH:=B0 Tryz.func201 (by kernel_rfl) (by kernel_rfl) ACi
theorem AA3:Dk 202 kE:=B0 Tryz.func202 (by kernel_rfl) (by kernel_rfl) ACh
theorem AA2:Dk 204 kD:=B0 Tryz.func204 (by kernel_rfl) (by kernel_rfl) ACg
theorem AA1:Dk 205 be:=B0 Tryz.func205 (by kernel_rfl) (by kernel_rfl) ACf
theorem AA0:Dk 206 kC:=B0 Tryz.func206 (by kernel_rfl) (by kernel_rfl) ACe
theorem AAz:Dk 207 YG:=B0 Tryz.func207 (by kernel_rfl) (by kernel_rfl) ACd
theorem AAy:Dk 208 bb:=B0 Tryz.func208 (by kernel_rfl) (by kernel_rfl) ACc
theorem AAx:Dk 209 kB:=B0 Tryz.func209 (by kernel_rfl) (by kernel_rfl) ACb
theorem AAw:Dk 220 kA:=B0 Tryz.func220 (by kernel_rfl) (by kernel_rfl) ACa
theorem AAv:Dk 222 j9:=B0 Tryz.func222 (by kernel_rfl) (by kernel_rfl) ACZ
theorem AAu:Dk 232 ba:=B0 Tryz.func232 (by kernel_rfl) (by kernel_rfl) ACY
theorem AAt:Dk 233 bZ:=B0 Tryz.func233 (by kernel_rfl) (by kernel_rfl) ACX
theorem AAs:Dk 234 bY:=B0 Tryz.func234 (by kernel_rfl) (by kernel_rfl) ACW
theorem AAr:Dk 235 bX:=B0 Tryz.func235 (by kernel_rfl) (by kernel_rfl) ACV
theorem AAq:Dk 236 j8:=B0 Tryz.func236 (by kernel_rfl) (by kernel_rfl) ACU
theorem AAp:Dk 238 bW:=B0 Tryz.func238 (by kernel_rfl) (by kernel_rfl) ACT
theorem AAo:Dk 250 j7:=B0 Tryz.func250 (by kernel_rfl) (by kernel_rfl) ACS
noncomputable def uP:List (Nat × (EB->Az->AM->Nat->List V->H->AH)):=[(3,F3),(6,F6),(7,F7),(8,F8),(9,F9),(10,xk),(13,F13),(14,zD),(15,F15),(16,F16),(18,F18),(19,zC),(20,F20),(21,xj),(22,zB),(23,zA),(24,yz),(25,xi),(26,xh),(27,F27),(37,yy),(41,F41),(42,yx),(43,F43),(44,F44),(45,F45),(48,F48),(51,F51),(55,yw),(56,F56),(57,F57),(58,F58),(59,xg),(60,sW),(61,xe),(62,xd),(63,F63),(78,yv),(81,F81),(82,yu),(83,F83),(84,F84),(92,yt),(93,F93),(95,yr),(101,kU),(104,bu),(105,YO),(106,kT),(107,kS),(108,kR),(109,br),(111,kQ),(115,YN),(116,kP),(117,bq),(118,kO),(121,YM),(124,bp),(131,YL),(132,kN),(133,kM),(154,bn),(155,kL),(158,kK),(171,kJ),(177,YK),(179,kI),(180,kH),(182,kG),(187,bm),(188,WE),(189,bj),(191,YJ),(192,bh),(193,kF),(198,bg),(199,YI),(200,bf),(201,YH),(202,kE),(204,kD),(205,be),(206,kC),(207,YG),(208,bb),(209,kB),(220,kA),(222,j9),(232,ba),(233,bZ),(234,bY),(235,bX),(236,j8),(238,bW),(250,j7)]
noncomputable def BD (E:EB) (N:Nat) (D:Az):Az:=fun f=>match Ba uP f with
 | some g=>g E D (Ao E D) N
 | none=>match dg tab f with
  | some g=>(match Mk Tryz.prog glob g with | some a=>cd E D (Ao E D) N a | none=>fun _ _=>none)
  | none=>fun _ _=>none
theorem kq (E:EB) (N:Nat) (D:Az) (hD:∀f,Cb Tryz.prog E glob f (D f)) (f:FuncId):Cb Tryz.prog E glob f (BD E N D f):=by
 have hall:∀p∈uP,Dk p.1 p.2:=by
  unfold uP
  simp only[cD]
  exact⟨SF3,SF6,SF7,SF8,SF9,AGq,AGp,AGo,AGn,AGm,AGl,AGk,AGj,AGi,AGh,AGg,AGf,AGe,AGd,AGc,AGb,AGa,AGZ,AGY,AGX,AGW,AGV,AGU,AGT,AGS,AGR,AGQ,AGP,AGO,AGN,AGM,AGL,AGK,AGJ,AGI,AGH,AGG,AGF,AGE,AGD,ABc,ABb,ABa,ABZ,ABY,ABX,ABW,ABV,ABU,ABT,ABS,ABR,ABQ,ABP,ABO,ABN,ABM,ABL,ABK,ABJ,ABI,ABH,ABG,ABF,ABE,ABD,ABC,ABB,ABA,AA9,AA8,AA7,AA6,AA5,AA4,AA3,AA2,AA1,AA0,AAz,AAy,AAx,AAw,AAv,AAu,AAt,AAs,AAr,AAq,AAp,AAo,fun _ h=>by cases h⟩
 unfold BD
 split
 ·rename_i g hg
  rw[BK]at hg
  exact hall _ (Gx hg) E _ hD N
 ·split
  ·rename_i g hg
   have hq:=tW _ (SO _ _ _ hg)
   split
   ·rename_i a ha
    exact cc hD (VR hD follows) N hq.1 ha (VW ha) hq.2
   ·intro C _ _ R J w args xs v J' h;cases h
  ·intro C _ _ R J w args xs v J' h;cases h
def DT (E:EB) (N:Nat) (d:Nat):Az:=Nat.rec (fun _ _ _=>none) (fun _ ih=>BD E N ih) d
theorem ADb (E:EB) (N:Nat):∀(d:Nat) (f:FuncId),Cb Tryz.prog E glob f (DT E N d f):=by
 intro d
 induction d with
 | zero=>intro f C _ _ R J w args xs v J' h;cases h
 | succ d ih=>exact kq E N _ ih
theorem Lj:∀g,glob g=true->g<2:=fun g hg=>by simpa[glob]using hg
end
end Go.Proofs.YtcpdffccolffaaaGreatDoor
namespace Go.Og
noncomputable section
theorem QX {a b:Nat} (h:a<=b):A0 a b=true:=by rw[BC];exact h
def B8 (J:H) (b:Nat) (l:List V):Prop:=Ba J.bl b=some (.cells l)
def Af (J:H):Prop:=∀b,J.next<=b->Ba J.bl b=none
structure Fr (S:Nat->Prop) (J J':H):Prop where
 tidy:Af J'
 le:J.next<=J'.next
 same:∀b,b<J.next->¬S b->Ba J'.bl b=Ba J.bl b
def AJ:Nat->Prop:=fun _=>False
def Ai (v:V) (b:Nat):Prop:=match v with
 | .sl b' _ _ _=>b=b'
 | _=>False
section
variable {E:EB} {J J' J'':H} {b b':Nat} {l m:List V} {S T:Nat->Prop}
theorem B8.lt (h:B8 J b l) (ht:Af J):b<J.next:=by
 rcases Al b J.next with hl|hl
 ·exact hl
 ·have:=ht b hl;rw[show Ba J.bl b=some (.cells l)from h]at this;cases this
theorem Fr.refl (ht:Af J):Fr S J J:=⟨ht,AN _,fun _ _ _=>rfl⟩
theorem Fr.mono (h:Fr S J J') (hs:∀b,b<J.next->S b->T b):Fr T J J':=⟨h.tidy,h.le,fun b hb hn=>h.same b hb fun hS=>hn (hs b hb hS)⟩
theorem Fr.trans (h:Fr S J J') (k:Fr T J' J'') (hT:∀b,b<J.next->T b->S b):Fr S J J'':=
 ⟨k.tidy,Ae h.le k.le,fun b hb hn=>(k.same b (Bg hb h.le) fun hT'=>hn (hT b hb hT')).trans (h.same b hb hn)⟩
theorem Fr.at_ (h:Fr S J J') (ha:B8 J b l) (ht:Af J) (hn:¬S b):B8 J' b l:=(h.same b (ha.lt ht) hn).trans ha
theorem Lg (c:GL) (k:Nat):Ba (EV J b c).bl k=if b=k then some c else Ba J.bl k:=by
 rw[BK,BK];exact SM J b c k
theorem ku (m:List V):B8 (EV J b (.cells m)) b m:=by
 show Ba _ _=_
 rw[Lg,if_pos rfl]
theorem Fr.set (ht:Af J) (hb:b<J.next) (c:GL):Fr (fun k=>k=b) J (EV J b c):=by
 refine⟨fun k hk=>?_,AN _,fun k hk hn=>?_⟩
 ·have hk':J.next<=k:=hk
  rw[Lg,if_neg (by omega)];exact ht k hk'
 ·rw[Lg,if_neg (fun h=>hn h.symm)]
theorem Rc (l:List V):B8 (DR J (.cells l)) J.next l:=by
 show Ba ((J.next,GL.cells l)::J.bl) _=_
 rw[BH,if_pos rfl]
theorem Fr.new (ht:Af J) (c:GL):Fr S J (DR J c):=by
 refine⟨fun k hk=>?_,Ec _,fun k hk hn=>?_⟩
 ·have hk':J.next+1<=k:=hk
  show Ba ((J.next,c)::J.bl) _=_
  rw[BH,if_neg (by omega)];exact ht k (by omega)
 ·show Ba ((J.next,c)::J.bl) _=_
  rw[BH,if_neg (by omega)]
theorem TP {U:List V->AH} (h:B8 J b l):WW E J b U=U l:=by unfold WW;rw[show Ba J.bl b=some (.cells l)from h]
theorem Oy {U:V->AH} {o:Nat} {v:V} (h:ma l o=some v):JZ l o U=U v:=by unfold JZ;rw[h]
theorem uI {U:V->AH} {o:Nat} {v:V} (h:B8 J b l) (hv:ma l o=some v):BL E J b o U=U v:=(TP h).trans (Oy hv)
theorem Gp {U:V->AH} {o:Nat} {v:V} (h:B8 J b l) (hv:l[o]? = some v):BL E J b o U=U v:=uI h (by rw[MW];exact hv)
theorem Ot {U:List V->AH} {o n:Nat} (h:o+n<=l.length):Gs l o n U=U ((l.drop o).take n):=by
 unfold Gs;rw[show A0 (Ac o n) l.length=true from QX h]
theorem DU {c:Bool} {a:AH} (h:c=true):IT c a=a:=by rw[h];rfl
theorem Cg {U:H->AH} {n o:Nat} {v:V} (h:B8 J b l) (hc:(Ax v.cells.length n&&A0 (Ac o n) l.length&&allOne v.cells)=true):Dt n b o v J U=U (EV J b (.cells (Hg l o v.cells))):=by
 unfold Dt;rw[show Ba J.bl b=some (.cells l)from h];exact DU hc
theorem Ek (m n:Nat):Ep (AA m) (AA n)=decide (m<n):=by
 rw[dZ];simp
theorem HN (m n:Nat):Hk (AA m) (AA n)=decide (m<=n):=by
 rw[dt];simp
theorem DY (m n:Nat):Cu (AA m) (AA n)=decide (m=n):=by
 rw[Lo];rw[PQ];simp only[beq_iff_eq,decide_eq_true_eq];exact⟨fun h=>AA.inj h,fun h=>by rw[h]⟩
theorem BV {k:IntKind} {m:Nat} (h:m<=Jd k):BP k (AA m)=AA m:=
 (FO _ _).trans (TF (show A0 m (Jd k)=true from QX h))
theorem BX {m n:Nat} (h:m+n<=9223372036854775807):CU .i64 (AA m) (AA n)=AA (m+n):=by
 exact BV (k := .i64) (m:=m+n) h
theorem Fs {m n:Nat} (h:n<=m) (hm:m<=9223372036854775807):E6 .i64 (AA m) (AA n)=AA (m-n):=by
 have e:Int.sub (AA m) (AA n)=AA (m-n):=by
  show (m:Int)-(n:Int)=((m-n:Nat):Int)
  omega
 show BP .i64 (Int.sub (AA m) (AA n))=_
 rw[e]
 exact BV (k := .i64) (show m-n<=9223372036854775807 by omega)
def Sl (J:H) (esz k:Nat) (v:V) (l:List V):Prop:=(k=0/\v = .nils/\l=[])\/(∃b,v = .sl b 0 k (.op esz)/\B8 J b l/\0<k/\l.length=k*esz)
theorem Sl.nil (J:H) (esz:Nat):Sl J esz 0 .nils [] := .inl ⟨rfl,rfl,rfl⟩
theorem Sl.length {esz k:Nat} {v:V} (h:Sl J esz k v l):l.length=k*esz:=by
 rcases h with ⟨rfl,_,rfl⟩|⟨b,_,_,_,h⟩
 ·simp
 ·exact h
theorem Sl.fr {esz k:Nat} {v:V} (h:Sl J esz k v l) (f:Fr S J J') (ht:Af J) (hn:∀b,Ai v b->¬S b):Sl J' esz k v l:=by
 rcases h with h|⟨b,rfl,ha,hk,hl⟩
 ·exact .inl h
 ·exact .inr ⟨b,rfl,f.at_ ha ht (hn b rfl),hk,hl⟩
theorem Sl.one {esz k:Nat} {v:V} (h:Sl J esz k v l):v.one=true:=by
 rcases h with ⟨_,rfl,_⟩|⟨b,rfl,_⟩<;>rfl
theorem Sl.slen {esz k:Nat} {v:V} {U:Nat->AH} (h:Sl J esz k v l):BA v U=U k:=by
 rcases h with ⟨rfl,rfl,_⟩|⟨b,rfl,_⟩<;>rfl
theorem Sl.lt {esz k:Nat} {v:V} (h:Sl J esz k v l) (ht:Af J) (hb:Ai v b):b<J.next:=by
 rcases h with ⟨_,rfl,_⟩|⟨c,rfl,ha,_⟩
 ·exact hb.elim
 ·cases hb;exact ha.lt ht
theorem lp {esz n xb xo:Nat} {c':Zy} {U:Nat->List V->AH} (h:B8 J xb m) (hl:xo+n*esz<=m.length):srcK E J esz (.sl xb xo n c') U=U n ((m.drop xo).take (n*esz)):=
 (TP h).trans (Ot hl)
theorem Ph {b o n:Nat} {c:Zy} {a:AH}:Cm (.sl b o n c) a=a:=rfl
theorem CR {esz b o n i:Nat} {c:Zy} {U:Nat->Nat->AH} (h:i<n):AT esz (.sl b o n c) (AA i) U=U b (Ac o (Zz i esz)):=by
 show IT (DQ i n) _=_
 exact DU (by simpa[C1]using h)
theorem QB (l:EB) (id id':Nat):Ba (drop l id) id'=if id=id' then none else Ba l id':=by
 rw[BK,BK];exact NN l id id'
end
theorem GR (k:IntKind) (n:Int) (U:Int->AH):Ah k (.int k n) U=U n:=by simp[Ah]
theorem Jr (b:Bool) (U:Bool->AH):An (.bool b) U=U b:=rfl
theorem NI (s:BS) (U:BS->AH):Jp (.str s) U=U s:=rfl
theorem NJ (b o:Nat) (U:Nat->Nat->AH):Ar (.ptr b o) U=U b o:=rfl
theorem NL (l:List V) (U:List V->AH):Cw (.agg l) U=U l:=rfl
theorem NH (l:List V) (U:List V->AH):Bc (.tup l) U=U l:=rfl
theorem Jq (v:V) (l:List V) (U:V->List V->AH):AE (v::l) U=U v l:=rfl
theorem NK (a:AH):AQ [] a=a:=rfl
theorem KD (v:V) (J:H) (U:V->H->AH):AW (some (v,J)) U=U v J:=rfl
def BS.nats (s:BS):List Nat:=s.toList.map UInt8.toNat
theorem dT {l m:List UInt8} (h:l.map UInt8.toNat=m.map UInt8.toNat):l=m:=by
 have hm:=congrArg (List.map UInt8.ofNat) h
 simpa[qY,Function.comp_def]using hm
theorem BS.beq_nats (a b:BS):a.beq b=decide (a.nats=b.nats):=by
 rw[BS.beq_eq]
 rw[PQ]
 simp only[decide_eq_true_eq]
 exact⟨fun h=>by rw[BS.nats,h,<-BS.nats],fun h=>dT h⟩
section
variable {s:BS} {i:Nat} {r:List Nat}
end
end
end Go.Og
namespace Go.Og
noncomputable section
section
variable {E:EB} {D:Az} {n0 n i:Nat} {o:BY} {l:List BY} {p:DP} {pl:List DP} {s:DS} {v:V}
theorem eQ (hg:o.guard=none) (hc:o.op.cls = .p) (hv:Be o.op (restr p.looks s.e)=some v) :
  Cd E D n0 n i (o::l) (p::pl) s=Cd E D n0 n (i+1) l pl { s with e:=Cr s.e o.dst v }:=by
 have h:FT E D n0 n i o p s=some { s with e:=Cr s.e o.dst v }:=by unfold FT;rw[hg];simp only[Bv,hc,hv]
 show (match FT E D n0 n i o p s with | none=>none | some s'=>Cd E D n0 n (i+1) l pl s')=_
 rw[h]
theorem eR {h:EB} {ss:List (EB)} (hg:o.guard=none) (hc:o.op.cls = .l) (hs:s.ss=h::ss) (hv:Cl E o.op (restr p.looks s.e) ⟨s.nx,C9 n0 n (Dn p.anc s.am) h⟩=some v) :
  Cd E D n0 n i (o::l) (p::pl) s=Cd E D n0 n (i+1) l pl { s with e:=Cr s.e o.dst v,ls:=(i,o.op,restr p.looks s.e,v)::s.ls }:=by
 have h:FT E D n0 n i o p s=some { s with e:=Cr s.e o.dst v,ls:=(i,o.op,restr p.looks s.e,v)::s.ls }:=by unfold FT;rw[hg];simp only[Bv,hc,hs,hv]
 show (match FT E D n0 n i o p s with | none=>none | some s'=>Cd E D n0 n (i+1) l pl s')=_
 rw[h]
theorem eU {b:GL} (hg:o.guard=none) (hc:o.op.cls = .a) (hv:Ce o.op (restr p.looks s.e) (n0+i)=some (v,b)) :
  Cd E D n0 n i (o::l) (p::pl) s=Cd E D n0 n (i+1) l pl { s with e:=Cr s.e o.dst v,ss:=s.ss.map ((n0+i,b)::·),am:=s.am ||| 2 ^ i }:=by
 have h:FT E D n0 n i o p s=some { s with e:=Cr s.e o.dst v,ss:=s.ss.map ((n0+i,b)::·),am:=s.am ||| 2 ^ i }:=by unfold FT;rw[hg];simp only[Bv,hc,hv]
 show (match FT E D n0 n i o p s with | none=>none | some s'=>Cd E D n0 n (i+1) l pl s')=_
 rw[h]
theorem az {b:GL} {id am':Nat} (hg:o.guard=none) (hc:o.op.cls = .a) (hid:n0+i=id) (ham:s.am ||| 2 ^ i=am') (hv:Ce o.op (restr p.looks s.e) id=some (v,b)) :
  Cd E D n0 n i (o::l) (p::pl) s=Cd E D n0 n (i+1) l pl { s with e:=Cr s.e o.dst v,ss:=s.ss.map ((id,b)::·),am:=am' }:=by
 subst hid;subst ham
 exact eU hg hc hv
theorem eS {h:EB} {ss:List (EB)} {J':H} (hg:o.guard=none) (hc:o.op.cls = .k) (hs:s.ss=h::ss) (hv:EO E D o.op (restr p.looks s.e) ⟨s.nx,C9 n0 n (Dn p.anc s.am) h⟩=some (v,J')) :
  Cd E D n0 n i (o::l) (p::pl) s=Cd E D n0 n (i+1) l pl { s with e:=Cr s.e o.dst v,nx:=J'.next,ss:=(FC n0 n (Dn p.anc s.am) h++J'.bl)::s.ss,ks:=i::s.ks }:=by
 have h:FT E D n0 n i o p s=some { s with e:=Cr s.e o.dst v,nx:=J'.next,ss:=(FC n0 n (Dn p.anc s.am) h++J'.bl)::s.ss,ks:=i::s.ks }:=by unfold FT;rw[hg];simp only[Bv,hc,hs,hv]
 show (match FT E D n0 n i o p s with | none=>none | some s'=>Cd E D n0 n (i+1) l pl s')=_
 rw[h]
theorem QO:Cd E D n0 n i [] pl s=some s:=by cases pl<;>rfl
theorem VS {ops:List BY} {e:CF} {J:H} {h:EB} {ss:List (EB)} (hd:Cd E D J.next ops.length 0 ops pl ⟨e,J.next+ops.length,[J.bl],[],0,[]⟩=some s)
  (hl:s.ls.all (fun(j,op,em,v)=>Fa E J.next ops.length pl s.am j op em v s.ss s.ks [])=true) (hs:s.ss=h::ss) :
  Ao E D ops pl e J=some (s.e,⟨s.nx,C9 J.next ops.length (fun k=>s.am.testBit k) h⟩):=by
 unfold Ao
 rw[hd]
 show (if s.ls.all (fun(j,op,em,v)=>Fa E J.next ops.length pl s.am j op em v s.ss s.ks [])=true then _ else none)=_
 rw[if_pos hl,hs]
end
section
variable {E:EB} {n0 n am j:Nat} {pl:List DP} {op:Ej} {em:CF} {v:V} {h:EB} {ss:List (EB)} {k:Nat} {ks more:List Nat}
theorem Ww (hl:Ie pl j (k::ks) more=false):Fa E n0 n pl am j op em v (h::ss) (k::ks) more=Fa E n0 n pl am j op em v ss ks (k::more):=by
 show ((!Ie pl j (k::ks) more || _)&&Fa E n0 n pl am j op em v ss ks (k::more))=_
 rw[hl];rfl
end
section
variable {n0 n:Nat} {p:Nat->Bool} {l:EB}
theorem Ga:∀{l:EB},(∀i,i<n->p i=false->look l (n0+i)=none)->C9 n0 n p l=l/\FC n0 n p l=[]
 | [],_=>⟨rfl,rfl⟩
 | (k,b)::l,h=>by
  have hc:(A0 n0 k&&DQ k (n0+n) && !p (k-n0))=false:=by
   cases hb:(A0 n0 k&&DQ k (n0+n) && !p (k-n0))with
   | false=>rfl
   | true=>
    exfalso
    simp only[AK,BC,C1,C4]at hb
    have:=h (k-n0) (by omega) hb.2
    rw[show n0+(k-n0)=k by omega]at this
    simp[look]at this
  have ih:=Ga (l:=l) (fun i hi hp=>by
   have:=h i hi hp
   simp only[look]at this
   split at this
   ·cases this
   ·exact this)
  unfold C9 FC
  rw[hc]
  simp only[E3,if_false]
  exact⟨by rw[ih.1],ih.2⟩
theorem Af.gap {J:H} (h:Af J) (n:Nat):∀id,J.next<=id->id<J.next+n->look J.bl id=none:=fun id h1 _=>by
 have:=h id h1;rwa [BK]at this
theorem Af.wide {J:H} (h:Af J) (n:Nat):Af ⟨J.next+n,J.bl⟩:=fun b hb=>h b (by have:J.next+n<=b:=hb;omega)
theorem LI {id:Nat} (h:id<n0):look (C9 n0 n p l) id=look l id:=by
 rw[D6,if_neg (by omega)]
theorem HM {α:Type} {k id:Nat} {b:α} {l:List (Nat × α)} (h:k≠id):look ((k,b)::l) id=look l id:=by simp[look,h]
theorem mi {E:EB} {x:AO} {e:CF} {b off nx:Nat} {h:EB} {c:List V} {v:V} (hx:CZ e x = .ptr b off) (hl:look h b=some (.cells c)) (hv:c[off]? = some v) :
  Cl E (.load none x) e ⟨nx,h⟩=some v:=by
 unfold Cl
 simp only[hx,rd,hl,hv]
end
section
variable {E:EB} {D:Az} {n0 n i:Nat} {d:Option Nat} {o:Ej} {l:List BY} {anc:Nat} {lk:List Nat} {pl:List DP} {e:CF} {nx am:Nat} {ss:List (EB)} {h:EB} {ks:List Nat} {ls:List (Nat × Ej × CF × V)}
theorem dp (v:V) (hc:o.cls = .p) (hv:Be o (restr lk e)=some v):Cd E D n0 n i (⟨d,o,none⟩::l) (⟨anc,lk⟩::pl) ⟨e,nx,ss,ks,am,ls⟩=Cd E D n0 n (i+1) l pl ⟨Cr e d v,nx,ss,ks,am,ls⟩:=
 eQ rfl hc hv
theorem dl (v:V) (hc:o.cls = .l) (hv:Cl E o (restr lk e) ⟨nx,C9 n0 n (Dn anc am) h⟩=some v):Cd E D n0 n i (⟨d,o,none⟩::l) (⟨anc,lk⟩::pl) ⟨e,nx,h::ss,ks,am,ls⟩=Cd E D n0 n (i+1) l pl ⟨Cr e d v,nx,h::ss,ks,am,(i,o,restr lk e,v)::ls⟩:=
 eR rfl hc rfl hv
theorem da (v:V) (b:GL) (id am':Nat) (hc:o.cls = .a) (hid:n0+i=id) (ham:am ||| 2 ^ i=am') (hv:Ce o (restr lk e) id=some (v,b)):Cd E D n0 n i (⟨d,o,none⟩::l) (⟨anc,lk⟩::pl) ⟨e,nx,ss,ks,am,ls⟩=Cd E D n0 n (i+1) l pl ⟨Cr e d v,nx,ss.map ((id,b)::·),ks,am',ls⟩:=
 az rfl hc hid ham hv
theorem dk (v:V) (nx':Nat) (bl':EB) (hc:o.cls = .k) (hk:C9 n0 n (Dn anc am) h=h/\FC n0 n (Dn anc am) h=[]) (hv:EO E D o (restr lk e) ⟨nx,h⟩=some (v,⟨nx',bl'⟩)):Cd E D n0 n i (⟨d,o,none⟩::l) (⟨anc,lk⟩::pl) ⟨e,nx,h::ss,ks,am,ls⟩=Cd E D n0 n (i+1) l pl ⟨Cr e d v,nx',bl'::h::ss,i::ks,am,ls⟩:=by
 have:=eS (E:=E) (D:=D) (n0:=n0) (n:=n) (i:=i) (o:=⟨d,o,none⟩) (l:=l) (p:=⟨anc,lk⟩) (pl:=pl) (s:=⟨e,nx,h::ss,ks,am,ls⟩) (v:=v) (J':=⟨nx',bl'⟩) rfl hc rfl (by show EO E D o (restr lk e) ⟨nx,C9 n0 n (Dn anc am) h⟩=_;rw[hk.1];exact hv)
 rw[this]
 show Cd E D n0 n (i+1) l pl ⟨Cr e d v,nx',(FC n0 n (Dn anc am) h++bl')::h::ss,i::ks,am,ls⟩=_
 rw[hk.2];rfl
end
end
end Go.Og
