/- What the last text leans on, part 4 of 7: merged out of smaller texts. No condition. -/
import Derived.KernelRfl
import Derived.Test.YtgblfbajgpboiaaGreatDoorQ2
open Int renaming ofNat -> AA,negSucc -> Az,tmod -> Lo
open Nat renaming add -> AP,ble -> Ag
open List renaming replicate -> As
set_option linter.all false
set_option maxRecDepth 100000
set_option maxHeartbeats 0
namespace Go.Proofs.YtgblfbajgpboiaaGreatDoor
open Go Go.Og
noncomputable section
variable (E:EB) (D:Ai) (W:AH) (N:Nat)
def AJB (cc1:XC) (cc2:XC):XC:=(.z (.P 6 (.box 37 (.t 2))<|
.aT 8 y3)
 (.seq (.z (.aY 10 1 0<|
.m 12 11<|
.gO 12 false (.p 13 [1,12] Ji<|
.bN 14 0 12 Hy 12 12 0<|
.p 17 [16,12] (.faddr 0 (.t 16))<|
.aJ 18 17 12 3 17 12 12<|
.p 21 [13,20,12] (.bin .geq .none (.t 13) (.t 20))<|
.nil) 22 12 21<|
.m 23 22<|
.gO 23 false (.p 24 [3,23] (.mov (.t 3))<|
.aQ 25 24 23 24 17) 26 23 25<|
.nil)
 (.cond (.tmp 26) (.z (.aT 8 y3)
 .ret)
 .skip))
 (.z (.aM 27 0<|
.f 29 0 28<|
.f 30 0 29<|
.aZ 31 3 30 1<|
.aL 34 13 32 33 y1 13<|
.pal 9 [] 99 [y0,V.nils,y3,y3,y3,y3,y0,y0,V.nils,V.nils,y0,y3,y0]<|
.op none y1 [9,35] (.store 13 (.t 9) (.t 35))<|
.nil)
 (.seq (.z (.aK 36 0 6 12<|
.nil)
 (.cond (.tmp 38) (.z (.aC 39 0 1<|
.O 41 y2 (.load (some 6) (.t 6))<|
.k 42 .bool 50 [(.t 39),(.t 40),(.t 41)]<|
.aH 8 42)
 .ret)
 .skip))
 (.seq (.z (.aB 43 0 6 .i<|
.aB 45 0 9 .i<|
.b 47 .neq .none (.t 44) (.t 46)<|
.nil)
 (.cond (.tmp 47) (.z (.aT 8 y3)
 .ret)
 .skip))
 (.seq (.z (.aB 48 0 9 .i<|
.nil)
 (.block 0 (.z (.aD 51 49 1 50)
 (.cond (.tmp 50) (.z (.bV 52 y2 6 6 .bool 51 1<|
.m 54 53<|
.gA 54 true (.bL 55 6 54 wK 54<|
.bD 57 56 54 56 0 54<|
.grp 58 false (.p 59 [6,58] wK<|
.op (some 60) .i [59,58] (.load none (.t 59))<|
.aV 61 60 58 60 1) 62 [58,61,54] (.t 58) Me (.t 61)<|
.nil) 63 54 62<|
.aH 8 63)
 .ret)
 (.z (.aD 65 49 2 64)
 (.cond (.tmp 64) (.z (.bV 66 y2 6 6 .bool 51 1<|
.m 68 67<|
.gA 68 true (.p 69 [9,68] (.faddr 2 (.t 9))<|
.aO 70 69 68 3 69 68<|
.p 72 [71,68] (.mov (.t 71))<|
.grp 72 false (.p 73 [9,72] (.faddr 2 (.t 9))<|
.op (some 74) T5 [73,72] (.load (some 6) (.t 73))<|
.bL 75 6 72 wK 72<|
.op (some 77) .bool [74,76,72] (.call 52 [(.t 74),(.t 76)])<|
.nil) 78 [72,77,68] (.t 72) Me (.t 77)<|
.nil) 79 68 78<|
.aH 8 79)
 .ret)
 (.z (.aD 81 49 3 80)
 (.cond (.tmp 80) (.z (.bV 82 y2 6 6 .bool 51 1<|
.m 84 83<|
.gA 84 true (.op (some 85) y1 [9,84] (.load (some 13) (.t 9))<|
.bL 86 6 84 wK 84<|
.op (some 88) .i [85,87,84] (.call 53 [(.t 85),(.t 87)])<|
.bQ 89 88 84 88 0) 90 84 89<|
.aH 8 90)
 .ret)
 (.z (.aD 92 49 4 91)
 (.cond (.tmp 91) (.z (.bV 93 y2 6 6 .bool 51 0<|
.aH 8 94)
 .ret)
 (.seq (.z (.aD 96 49 5 95)
 (.cond (.tmp 95) .skip
 (.ops (.aD 97 49 6 95))))
 (.keep [(0,.ptr),(1,.i),(3,.i),(6,.ptr),(49,.i),(95,.bool)] [9] [(9,[.i,.any,.bool,.bool,.bool,.bool,.i,.i,.any,.any,.i,.bool,.i])] cc2))))))))))))
 (.keep [] [] [] cc1)))))))
def Vl (E:EB) (D:Ai) (W:AH) (K2:Nat->Nat->Int->Int->Nat->Nat->Int->Bool->Int->V->Bool->Bool->Bool->Bool->Int->Int->V->V->Int->Bool->Int->H->AF) (a b:Nat) (c d e:Int) (f g:V) (h:Int) (i:V) (j:Int) (U:H):AF:=
 Ix (eB d e f g h i) U fun k=>
 Af (fun l m=>
 Af (fun n o=>
 AI n (
 rB false o) (
 jX E o a (AP b 3) 13 c fun n=>
 uJ n fun n p q r s t u v w x y z aa=>
 GK (An (eJ n p q r s t u v w x y z aa)) (
 lI E o (H.next U) 0 fun ab=>
 AI (Bt ab (AA 12)) (
 Bv E o (H.next U) 0 6 fun ab=>
 uB ab fun ab ac ad ae af ag=>
 cB (D 50 [.ptr a b,.int .i64 c,.agg (eB ab ac ad ae af ag)] o) fun ab ac=>
 rB ab ac) (
 lI E o (H.next U) 0 fun ab=>
 AI (not (Bt ab n)) (
 rB false o) (
 AI (Bt n (AA 1)) (
 Bv E o (H.next U) 0 6 fun ab=>
 uB ab fun ab ac ad ae af ag=>
 cB (D 51 [.agg (eB ab ac ad ae af ag),iN 1] o) fun ab ac=>
 Af (fun ad ae=>
 rB ad ae) fun ad=>
 AI ab (
 lI E ac (H.next U) 1 fun ab=>
 Af (fun ae af=>
 ad ae af) fun ae=>
 AI (Bt ab (AA 0)) (
 ae true ac) (
 lI E ac (H.next U) 1 fun ab=>
 ae (Bt ab (AA 1)) ac)) (
 ad false ac)) (
 AI (Bt n (AA 2)) (
 Bv E o (H.next U) 0 6 fun ab=>
 uB ab fun ab ac ad ae af ag=>
 cB (D 51 [.agg (eB ab ac ad ae af ag),iN 1] o) fun ab ac=>
 Af (fun ad ae=>
 rB ad ae) fun ad=>
 AI ab (
 Af (fun ab ae=>
 ad ab ae) fun ab=>
 AI t (
 ab true ac) (
 lI E ac (H.next U) 1 fun ae=>
 cB (D 52 [.agg [.bool q,.bool r,.bool s,.bool t,.int .i64 u,.int .i64 v],.int .i64 ae] ac) fun ae af=>
 ab ae af)) (
 ad false ac)) (
 AI (Bt n (AA 3)) (
 Bv E o (H.next U) 0 6 fun ab=>
 uB ab fun ab ac ad ae af ag=>
 cB (D 51 [.agg (eB ab ac ad ae af ag),iN 1] o) fun ab ac=>
 Af (fun ad ae=>
 rB ad ae) fun ad=>
 AI ab (
 lI E ac (H.next U) 1 fun ab=>
 cI (D 53 [.agg (eJ n p q r s t u v w x y z aa),.int .i64 ab] ac) fun ab ae=>
 ad (I3 (AA 0) ab) ae) (
 ad false ac)) (
 AI (Bt n (AA 4)) (
 Bv E o (H.next U) 0 6 fun ab=>
 uB ab fun ab ac ad ae af ag=>
 cB (D 51 [.agg (eB ab ac ad ae af ag),iN 0] o) fun ab ac=>
 rB ab ac) (
 AI (Bt n (AA 5)) (
 K2 a b c j (H.next U) 0 n (Bt n (AA 5)) n p q r s t u v w x y z aa o) (
 K2 a b c j (H.next U) 0 n (Bt n (AA 6)) n p q r s t u v w x y z aa o)))))))))) fun n=>
 AI l (
 n true m) (
 n (Ci (AA 17) j) m)) fun l=>
 AI (Ci c (AA 0)) (
 l true k) (
 lL E k a (AP b 3) fun m=>
 l (I3 (AA m) c) k)
def AJA:XC:=(.z (.aT 8 y3)
 .ret)
def AE8 (E:EB) (D:Ai) (W:AH) (U:H):AF:=
 rB false U
def AI9 (cc3:XC):XC:=(.cond (.tmp 95) (.z (.bE 98 0 y1 13 9<|
.O 100 y2 (.load (some 6) (.t 6))<|
.k 101 .bool 54 [(.t 98),(.t 99),(.t 100)]<|
.aH 8 101)
 .ret)
 (.z (.aD 103 49 10 102)
 (.cond (.tmp 102) (.z (.bE 104 0 y1 13 9<|
.bW 106 y2 6 6 3<|
.k 108 .bool 55 [(.t 104),(.t 105),(.t 106),(.t 107)]<|
.aH 8 108)
 .ret)
 (.z (.aD 110 49 9 109)
 (.cond (.tmp 109) (.seq (.draw (.bV 111 y2 6 6 .bool 51 5<|
.m 113 112<|
.gA 113 true (.bL 114 6 113 wK 113<|
.bQ 116 115 113 115 0) 117 113 116<|
.m 118 117<|
.gA 118 true (.bL 119 6 118 wK 118<|
.aJ 121 9 118 9 9 118 118<|
.p 124 [120,123,118] (.bin .lss .none (.t 120) (.t 123))<|
.nil) 125 118 124<|
.m 126 125<|
.gA 126 true (.aJ 127 6 126 3 6 126 126<|
.aV 130 129 126 129 1) 131 126 130<|
.m 132 131<|
.gA 132 true (.p 133 [0,132] Hy<|
.bC 134 9 132 9 9 132<|
.bL 136 6 132 wK 132<|
.p 138 [135,137,132] (.iaddrS 11 (.t 135) (.t 137))<|
.aE 139 138 132 1 138 132<|
.bC 141 6 132 3 6 132<|
.p 143 [142,132] (.iaddrS 6 (.t 142) (.i 0))<|
.op (some 144) y2 [143,132] (.load (some 6) (.t 143))<|
.p 145 [3,132] (.mov (.t 3))<|
.p 146 [145,132] (.bin .add .none (.t 145) (.i 1))<|
.op (some 147) .bool [133,140,144,146,132] (.call 30 [(.t 133),(.t 140),(.t 144),(.t 146)])<|
.nil) 148 132 147<|
.aH 8 148) [0,1,3,7,15,31,63,127,255,511,255,1279,3327,8191,16383,32767,65535,131071,262143,524287,1048575,2097151,4194303,4194303,12582911,4194303,37748735,130023423,264241151,532676607,4194303,1077936127,3225419775,7520387071,4194303,17184063487,68719476735,137438953471,274877906943])
 .ret)
 (.seq (.z (.aD 150 49 7 149)
 (.cond (.tmp 149) .skip
 (.ops (.aD 151 49 8 149))))
 (.keep [(0,.ptr),(1,.i),(3,.i),(6,.ptr),(149,.bool)] [] [] cc3)))))))
def kq (E:EB) (D:Ai) (W:AH) (K3:Nat->Nat->Int->Int->Nat->Nat->Bool->H->AF) (a b:Nat) (c d:Int) (e f:Nat) (g:Int) (h:Bool) (i:Int) (j:V) (k l m o:Bool) (p q:Int) (r s:V) (t:Int) (u:Bool) (v:Int) (U:H):AF:=
 AI h (
 Bv E U e f 6 fun n=>
 uB n fun n w x y z aa=>
 cB (D 54 [.ptr a b,.agg (eJ i j k l m o p q r s t u v),.agg (eB n w x y z aa)] U) fun n w=>
 rB n w) (
 AI (Bt g (AA 10)) (
 Bv E U e f 6 fun n=>
 uB n fun n w x y z aa=>
 cB (D 55 [.ptr a b,.agg (eJ i j k l m o p q r s t u v),.agg (eB n w x y z aa),.int .i64 d] U) fun n w=>
 rB n w) (
 AI (Bt g (AA 9)) (
 Bv E U e f 6 fun n=>
 uB n fun n w x y z aa=>
 cB (D 51 [.agg (eB n w x y z aa),iN 5] U) fun n w=>
 Af (fun x y=>
 Af (fun z aa=>
 Af (fun ab ac=>
 Af (fun ad ae=>
 rB ad ae) fun ad=>
 AI ab (
 lI E ac e (AP f 1) fun ab=>
 AW 11 s ab fun ab ae=>
 lI E ac ab (AP ae 1) fun ab=>
 jX E ac e (AP f 3) 6 (AA 0) fun ae=>
 uB ae fun ae af ag ah ai aj=>
 cB (D 30 [.ptr a b,.int .i64 ab,.agg (eB ae af ag ah ai aj),.int .i64 (Ba .i64 d (AA 1))] ac) fun ab ae=>
 ad ab ae) (
 ad false ac)) fun ab=>
 AI z (
 lL E aa e (AP f 3) fun z=>
 ab (Bt (AA z) (AA 1)) aa) (
 ab false aa)) fun z=>
 AI x (
 lI E y e (AP f 1) fun x=>
 A0 s fun aa=>
 z (Ci x (AA aa)) y) (
 z false y)) fun x=>
 AI n (
 lI E w e (AP f 1) fun n=>
 x (I3 (AA 0) n) w) (
 x false w)) (
 AI (Bt g (AA 7)) (
 K3 a b c d e f (Bt g (AA 7)) U) (
 K3 a b c d e f (Bt g (AA 8)) U))))
def AI8:XC:=(.cond (.tmp 149) (.z (.aC 152 0 1<|
.bW 154 y2 6 6 3<|
.k 156 .bool 56 [(.t 152),(.t 153),(.t 154),(.t 155)]<|
.aH 8 156)
 .ret)
 .skip)
def kp (E:EB) (D:Ai) (W:AH) (K1:H->AF) (a b:Nat) (c d:Int) (e f:Nat) (g:Bool) (U:H):AF:=
 AI g (
 Bv E U e f 6 fun h=>
 uB h fun h i j k l m=>
 cB (D 56 [.ptr a b,.int .i64 c,.agg (eB h i j k l m),.int .i64 d] U) fun h i=>
 rB h i) (
 K1 U)
def vH (E:EB) (D:Ai) (W:AH) (N:Nat):=AE8 E D W
def AG4:=kp E D W (vH E D W N )
def AG5:=kq E D W (AG4 E D W N )
def vZ (args:List V) (U:H):AF:=
 Ae args fun a b=>
 B4 a fun a c=>
 Dy .i64 b fun b d=>
 Ae d fun d e=>
 CW d fun d=>
 uB d fun d f g h i j=>
 Dy .i64 e fun e k=>
 BJ k (
 Vl E D W (AG5 E D W N ) a c b d f g h i j e U)
def A30:Dv:=⟨157,[.ptr,.i,y2,.i],[(.tmp 8)],(AJB AJA (AI9 AI8))⟩
theorem AMw (args:List V) (U:H):B9 E D W N A30 args U=vZ E D W N args U:=by kernel_rfl
def ADZ:List (Nat × CZ):=[(3,.i),(7,.any),(8,.i),(9,.i)]
def WO (E:EB):St->AF:=fun s=>DR E s [(.tmp 2)] fun l=>some (Dh l,s.U)
def AKs (c0:XC):Nat->St->AF:=Bf 0 (dX E D W N (.keep [(3,.i)] [] [] c0) (WO E) nX (WO E)) nX
def wC (cc1:XC) (cc2:XC):XC:=(.z (.P 1 (.box 37 (.t 0))<|
.aN 2 0)
 (.z (.aN 3 1)
 (.seq (.z (.aS 6 3 1<|
.aN 9 0)
 (.block 0 (.loop ADZ [] [] cc2)))
 (.keep [(3,.i)] [] [] cc1))))
def ko (E:EB) (D:Ai) (W:AH) (K2:Int->V->Int->Int->H->AF) (a b:Int) (c d:V) (e:Int) (f:V) (U:H):AF:=
 Ix (eB a b c d e f) U fun g=>
 EG E g (H.next U) 3 fun h=>
 A0 h fun i=>
 K2 (AA 1) h (AA i) (AA 0) g
def cR:XC:=(.z (.m 18 3<|
.aH 2 18)
 .ret)
def AE7 (E:EB) (D:Ai) (W:AH) (a:Int) (U:H):AF:=
 rI a U
def cQ:XC:=(.z (.aF 10 9 8)
 (.seq (.cond (.tmp 10) .skip
 Jh)
 (.seq (.block 1 (.z (.aL 11 6 7 9 y2 6<|
.pal 5 [] 37 [y0,y0,V.nils,V.nils,y0,V.nils]<|
.op none y2 [5,12] (.store 6 (.t 5) (.t 12))<|
.nil)
 (.ops (.bE 13 3 y2 6 5<|
.k 15 .i 31 [(.t 14)]<|
.b 16 .add .none (.t 13) (.t 15)<|
.aH 3 16))))
 (.ops (.aA 17 9 1 9)))))
def Vk (E:EB) (D:Ai) (W:AH) (K1:Int->H->AF) (R2:Int->V->Int->Int->H->AF) (a:Int) (b:V) (c d:Int) (U:H):AF:=
 AI (Ci d c) (
 iX E U 6 b d fun e=>
 uB e fun e f g h i j=>
 GK (An (eB e f g h i j)) (
 cI (D 31 [.agg (eB e f g h i j)] U) fun e f=>
 R2 (Ba .i64 a e) b c (Ba .i64 d (AA 1)) f)) (
 K1 a U)
def AGF (a b:Int) (c d:V) (e:Int) (f:V) (U:H):St:=⟨[(0,.agg [.int .i64 a,.int .i64 b,c,d,.int .i64 e,f])],[],[],U⟩
def AGE (a:Int) (b:V) (c d:Int) (U:H):St:=⟨[(3,.int .i64 a),(7,b),(8,.int .i64 c),(9,.int .i64 d)],[],[],U⟩
def AG3 (E:EB) (D:Ai) (W:AH) (N:Nat):=AE7 E D W
def mA (n:Nat):Int->V->Int->Int->H->AF:=
 Nat.rec (fun _ _ _ _ _=>none) (fun _ ih=>Vk E D W (AG3 E D W N ) ih) n
theorem zt (n:Nat) :
 (fun a b c d U=>BN (fun rec s'=>Ay E D W N cQ s' (kX ADZ [] [] rec) (AKs E D W N cR) (WO E)) n (AGE a b c d U))=mA E D W N n:=WU (fun _=>by kernel_rfl) n
def nN:=ko E D W (mA E D W N N)
theorem AAo :
 (fun a b c d e f U=>Ay E D W N (wC cR cQ) (AGF a b c d e f U) (WO E) nX (WO E))=nN E D W N:=by
 unfold nN;rw[<-zt];generalize cR=x0,cQ=x1;revert x0 x1;refine id ?_;intros;kernel_rfl
def F31 (args:List V) (U:H):AF:=
 Ae args fun a b=>
 CW a fun a=>
 uB a fun a c d e f g=>
 BJ b (
 nN E D W N a c d e f g U)
def A31:Dv:=⟨19,[y2],[(.tmp 2)],(wC cR cQ)⟩
theorem AMv (args:List V) (U:H):B9 E D W N A31 args U=F31 E D W N args U:=by
 unfold F31;rw[<-AAo];kernel_rfl
def AI7:XC:=(.z (.aT 4 y3)
 (.z (.bM 5 0 1 .i 57<|
.b 8 .geq .none (.t 7) (.i 0)<|
.m 4 8<|
.nil)
 .ret))
def km (E:EB) (D:Ai) (W:AH) (a b:V) (U:H):AF:=
 cI (D 57 [a,b] U) fun c d=>
 rB (I3 (AA 0) c) d
def F32 (N:Nat) (args:List V) (U:H):AF:=
 uF args fun a b=>
 km E D W a b U
def A32:Dv:=⟨9,[.any,.any],[(.tmp 4)],AI7⟩
theorem AMu (args:List V) (U:H):B9 E D W N A32 args U=F32 E D W N args U:=by kernel_rfl
def AI6:XC:=(.z (.P 2 (.box 37 (.t 0))<|
.aT 3 y3)
 (.z (.O 4 y2 (.load (some 6) (.t 2))<|
.l 5 .i 1<|
.k 6 .bool 17 [(.t 4),(.t 5)]<|
.P 7 (.un .not (.t 6))<|
.m 3 7<|
.nil)
 .ret))
def kl (E:EB) (D:Ai) (W:AH) (a b:Int) (c d:V) (e:Int) (f g:V) (U:H):AF:=
 Ix (eB a b c d e f) U fun h=>
 Bv E h (H.next U) 0 6 fun i=>
 uB i fun i j k l m n=>
 B4 g fun o p=>
 lI E h o p fun o=>
 cB (D 17 [.agg (eB i j k l m n),.int .i64 o] h) fun h i=>
 rB (not h) i
def F33 (N:Nat) (args:List V) (U:H):AF:=
 Ae args fun a b=>
 CW a fun a=>
 uB a fun a c d e f g=>
 Ae b fun b h=>
 BJ h (
 kl E D W a c d e f g b U)
def A33:Dv:=⟨8,[y2,.any],[(.tmp 3)],AI6⟩
theorem AMt (args:List V) (U:H):B9 E D W N A33 args U=F33 E D W N args U:=by kernel_rfl
def ADY:List (Nat × CZ):=[(0,.any),(1,.bool),(7,.any),(8,.i)]
def WN (E:EB):St->AF:=fun s=>DR E s [(.tmp 6)] fun l=>some (Dh l,s.U)
def AKr (c0:XC):Nat->St->AF:=Bf 0 (dX E D W N (.keep [(7,.any)] [] [] c0) (WN E) nX (WN E)) nX
def wB (cc1:XC) (cc2:XC):XC:=(.z (.aW 6)
 (.z (.m 9 2<|
.k 10 .one 58 [(.t 9)]<|
.m 7 10<|
.nil)
 (.seq (.z (.m 11 0<|
.u 12 11<|
.b 13 .sub .none (.t 12) (.i 1)<|
.m 8 13<|
.nil)
 (.block 0 (.loop ADY [] [] cc2)))
 (.keep [(7,.any)] [] [] cc1))))
def kj (E:EB) (D:Ai) (W:AH) (K2:V->Bool->V->Int->H->AF) (a:V) (b:Bool) (c:V) (U:H):AF:=
 CM (D 58 [c] U) fun d e=>
 CB d (
 A0 a fun f=>
 K2 a b d (Dp .i64 (AA f) (AA 1)) e)
def cP:XC:=(.z (.m 33 7<|
.aH 6 33)
 .ret)
def um (E:EB) (D:Ai) (W:AH) (a:V) (U:H):AF:=
 some (a,U)
def cO:XC:=(.seq (.z (.m 14 8<|
.b 15 .geq .none (.t 14) (.i 0)<|
.nil)
 (.cond (.tmp 15) .skip
 Jh))
 (.seq (.block 1 (.ops (.aC 18 0 8<|
.aL 20 2 18 19 y8 2<|
.m 22 1<|
.m 23 22<|
.gO 23 false (.p 24 [8,23] fR<|
.p 25 [0,23] Hy<|
.p 26 [25,23] (.len false (.t 25))<|
.p 27 [26,23] (.bin .sub .none (.t 26) (.i 1))<|
.p 28 [24,27,23] (.bin .lss .none (.t 24) (.t 27))<|
.nil) 29 23 28<|
.m 30 7<|
.p 31 [30] (.buildSlice 22 1 [V.nils] [(0,1,(.t 30))])<|
.k 32 .one 59 [(.t 21),(.t 29),(.t 31)]<|
.aH 7 32)))
 (.ops (.m 16 8<|
.b 17 .sub .none (.t 16) (.i 1)<|
.m 8 17<|
.nil))))
def Na (E:EB) (D:Ai) (W:AH) (K1:V->H->AF) (R2:V->Bool->V->Int->H->AF) (a:V) (b:Bool) (c:V) (d:Int) (U:H):AF:=
 AI (I3 (AA 0) d) (
 iX E U 2 a d fun e=>
 uE e fun e f=>
 Af (fun g h=>
 D9 [(0,1,c)] [V.nils] fun i=>
 GK (An i) (
 let j:=Br h (.cells i);
 CM (D 59 [.agg [.int .i64 e,.int .i64 f],.bool g,.sl (H.next h) 0 1 (.ex 1)] j) fun e f=>
 CB e (
 R2 a b e (Dp .i64 d (AA 1)) f))) fun e=>
 AI b (
 e true U) (
 A0 a fun f=>
 e (Ci d (Dp .i64 (AA f) (AA 1))) U)) (
 K1 c U)
def AGD (a:V) (b:Bool) (c:V) (U:H):St:=⟨[(0,a),(1,.bool b),(2,c)],[],[],U⟩
def AGC (a:V) (b:Bool) (c:V) (d:Int) (U:H):St:=⟨[(0,a),(1,.bool b),(7,c),(8,.int .i64 d)],[],[],U⟩
def AG2 (E:EB) (D:Ai) (W:AH) (N:Nat):=um E D W
def vD (n:Nat):V->Bool->V->Int->H->AF:=
 Nat.rec (fun _ _ _ _ _=>none) (fun _ ih=>Na E D W (AG2 E D W N ) ih) n
theorem zr (n:Nat) :
 (fun a b c d U=>BN (fun rec s'=>Ay E D W N cO s' (kX ADY [] [] rec) (AKr E D W N cP) (WN E)) n (AGC a b c d U))=vD E D W N n:=WU (fun _=>by kernel_rfl) n
def nM:=kj E D W (vD E D W N N)
theorem AAn :
 (fun a b c U=>Ay E D W N (wB cP cO) (AGD a b c U) (WN E) nX (WN E))=nM E D W N:=by
 unfold nM;rw[<-zr];generalize cP=x0,cO=x1;revert x0 x1;refine id ?_;intros;kernel_rfl
def F34 (args:List V) (U:H):AF:=
 uP args fun a b c=>
 nM E D W N a b c U
def A34:Dv:=⟨34,[.any,.bool,.any],[(.tmp 6)],(wB cP cO)⟩
theorem AMs (args:List V) (U:H):B9 E D W N A34 args U=F34 E D W N args U:=by
 unfold F34;rw[<-AAn];kernel_rfl
def qE:List (Nat × CZ):=[(0,.i),(3,.i)]
def WM (E:EB):St->AF:=fun s=>DR E s [(.tmp 2)] fun l=>some (Dh l,s.U)
def AKq (c0:XC):Nat->St->AF:=Bf 0 (dX E D W N (.keep qE [] [] c0) (WM E) nX (WM E)) nX
def wA (cc1:XC) (cc2:XC):XC:=(.z (.aW 2)
 (.z (.aN 3 1)
 (.seq (.block 0 (.loop qE [] [] cc2))
 (.keep qE [] [] cc1))))
def AE6 (E:EB) (D:Ai) (W:AH) (K2:Int->Int->H->AF) (a:Int) (U:H):AF:=
 K2 a (AA 1) U
def cN:XC:=(.z (.bR 24 0<|
.m 26 3<|
.k 27 .one 60 [(.t 25),(.t 26)]<|
.aH 2 27)
 .ret)
def ki (E:EB) (D:Ai) (W:AH) (a b:Int) (U:H):AF:=
 CM (D 60 [.int .u64 (BE .u64 a),.int .i64 b] U) fun c d=>
 CB c (
 some (c,d))
def cM:XC:=(.seq (.z (.m 4 3<|
.b 5 .lss .none (.t 4) (.i 8)<|
.m 6 5<|
.gA 6 true (.p 7 [0,6] Hy<|
.p 8 [3,6] (.mov (.t 3))<|
.p 9 [8,6] (.bin .mul .none (.i 8) (.t 8))<|
.p 10 [9,6] (.bin .sub .none (.t 9) (.i 1))<|
.p 11 [7,10,6] (.bin .shr .none (.t 7) (.t 10))<|
.bP 12 11 6 11 0) 13 6 12<|
.m 14 13<|
.gA 14 true (.p 15 [0,14] Hy<|
.p 16 [3,14] (.mov (.t 3))<|
.p 17 [16,14] (.bin .mul .none (.i 8) (.t 16))<|
.p 18 [17,14] (.bin .sub .none (.t 17) (.i 1))<|
.p 19 [15,18,14] (.bin .shr .none (.t 15) (.t 18))<|
.p 20 [19,14] (.bin .neq .none (.t 19) (.con fS))<|
.nil) 21 14 20<|
.nil)
 (.cond (.tmp 21) .skip
 Jh))
 (.block 1 (.ops (.m 22 3<|
.aA 23 22 1 3))))
def Vj (E:EB) (D:Ai) (W:AH) (K1:Int->Int->H->AF) (R2:Int->Int->H->AF) (a b:Int) (U:H):AF:=
 Af (fun c d=>
 Af (fun e f=>
 AI e (
 R2 a (Ba .i64 b (AA 1)) f) (
 K1 a b f)) fun e=>
 AI c (
 T4 (Dp .i64 (Iy .i64 (AA 8) b) (AA 1)) fun c=>
 e (not (Bt (Kc .i64 a c) (Az 0))) d) (
 e false d)) fun c=>
 AI (Ci b (AA 8)) (
 T4 (Dp .i64 (Iy .i64 (AA 8) b) (AA 1)) fun d=>
 c (not (Bt (Kc .i64 a d) (AA 0))) U) (
 c false U)
def AGB (a:Int) (U:H):St:=⟨[(0,.int .i64 a)],[],[],U⟩
def AGA (a b:Int) (U:H):St:=⟨[(0,.int .i64 a),(3,.int .i64 b)],[],[],U⟩
def vG (E:EB) (D:Ai) (W:AH) (N:Nat):=ki E D W
def Z1 (n:Nat):Int->Int->H->AF:=
 Nat.rec (fun _ _ _=>none) (fun _ ih=>Vj E D W (vG E D W N ) ih) n
theorem zq (n:Nat) :
 (fun a b U=>BN (fun rec s'=>Ay E D W N cM s' (kX qE [] [] rec) (AKq E D W N cN) (WM E)) n (AGA a b U))=Z1 E D W N n:=lp3 (fun _=>by kernel_rfl) n
def nL:=AE6 E D W (Z1 E D W N N)
theorem AAm :
 (fun a U=>Ay E D W N (wA cN cM) (AGB a U) (WM E) nX (WM E))=nL E D W N:=by
 unfold nL;rw[<-zq];generalize cN=x0,cM=x1;revert x0 x1;refine id ?_;intros;kernel_rfl
def vY (args:List V) (U:H):AF:=
 Dy .i64 args fun a b=>
 BJ b (
 nL E D W N a U)
def A35:Dv:=⟨28,[.i],[(.tmp 2)],(wA cN cM)⟩
theorem AMr (args:List V) (U:H):B9 E D W N A35 args U=vY E D W N args U:=by
 unfold vY;rw[<-AAm];kernel_rfl
def gx:List (Nat × CZ):=[(0,.any),(4,.ptr),(5,.ptr),(7,.any),(13,.any),(14,.i),(15,.i)]
def ADX:List (Nat × CZ):=[(4,.ptr),(7,.any),(37,.any),(38,.i),(39,.i)]
def ADW:List (Nat × CZ):=[(4,.ptr),(5,.ptr),(7,.any)]
def RX:List BO:=[⟨(some 23),.mov (.tmp 7),none⟩,⟨(some 24),.mov (.tmp 0),none⟩,⟨(some 25),.faddr 9 (.tmp 4),none⟩,⟨(some 26),.load none (.tmp 25),none⟩,⟨(some 27),.mov (.tmp 8),none⟩,⟨(some 28),.iaddrS 11 (.tmp 26) (.tmp 27),none⟩,⟨(some 29),.faddr 1 (.tmp 28),none⟩,⟨(some 30),.load none (.tmp 29),none⟩,⟨(some 31),.load (some 6) (.tmp 9),none⟩,⟨(some 32),.call 18 [(.tmp 24),(.tmp 30),(.tmp 31)],none⟩,⟨(some 33),.buildSlice 22 1 [V.nils] [(0,1,(.tmp 32))],none⟩,⟨(some 34),.append 22 1 24 (.tmp 23) (.tmp 33),none⟩,⟨(some 7),.mov (.tmp 34),none⟩]
def WA:List DP:=[⟨0,[7]⟩,⟨0,[0]⟩,⟨0,[4]⟩,⟨4,[25]⟩,⟨0,[8]⟩,⟨28,[26,27]⟩,⟨60,[28]⟩,⟨124,[29]⟩,⟨0,[9]⟩,⟨510,[24,30,31]⟩,⟨1022,[32]⟩,⟨2047,[23,33]⟩,⟨4095,[34]⟩]
def Io (E:EB):St->AF:=fun s=>DR E s [(.tmp 6)] fun l=>some (Dh l,s.U)
def AEP (c0:XC):Nat->St->AF:=Bf 0 (dX E D W N (.keep ADW [] [] c0) (Io E) nX (Io E)) nX
def AKp (c0:XC):Nat->St->AF:=Bf 2 (dX E D W N (.keep [(4,.ptr),(7,.any)] [] [] c0) (Io E) nX (Io E)) nX
def v8 (cc1:XC) (cc2:XC):XC:=(.z (.P 4 (.box 99 (.t 1))<|
.P 5 (.box 37 (.t 2))<|
.aW 6)
 (.z (.aW 7)
 (.seq (.z (.aS 12 3 5<|
.aN 15 0)
 (.block 0 (.loop gx [] [] cc2)))
 (.keep ADW [] [] cc1))))
def ZU (E:EB) (D:Ai) (W:AH) (K2:V->Nat->Nat->Nat->Nat->V->V->Int->Int->H->AF) (a:V) (b:Int) (c:V) (d e f g:Bool) (h i:Int) (j k:V) (l:Int) (m:Bool) (o p q:Int) (r s:V) (t:Int) (u:V) (U:H):AF:=
 Ix (eJ b c d e f g h i j k l m o) U fun n=>
 Ix (eB p q r s t u) n fun v=>
 EG E v (H.next n) 3 fun w=>
 A0 w fun x=>
 K2 a (H.next U) 0 (H.next n) 0 V.nils w (AA x) (AA 0) v
def Nu (cc4:XC) (cc5:XC):XC:=(.seq (.z (.aS 36 5 5<|
.aN 39 0)
 (.block 2 (.loop ADX [] [] cc5)))
 (.keep [(4,.ptr),(7,.any)] [] [] cc4))
def ZT (E:EB) (D:Ai) (W:AH) (K5:Nat->Nat->V->V->Int->Int->H->AF) (a b c d:Nat) (e:V) (U:H):AF:=
 EG E U c (AP d 5) fun f=>
 A0 f fun g=>
 K5 a b e f (AA g) (AA 0) U
def cL (cc3:XC):XC:=(.z (.aF 16 15 14)
 (.seq (.cond (.tmp 16) .skip
 Jh)
 (.seq (.block 1 (.z (.m 17 15<|
.aL 18 6 13 15 y2 6<|
.p 9 [] y29<|
.m 8 17<|
.op none y2 [9,19] (.store 6 (.t 9) (.t 19))<|
.nil)
 (.z (.O 20 y2 (.load (some 6) (.t 9))<|
.k 21 .bool 61 [(.t 20)]<|
.bK 22 21)
 (.cond (.tmp 22) (.keep [(0,.any),(4,.ptr),(5,.ptr),(7,.any),(8,.i),(9,.ptr),(13,.any),(14,.i),(15,.i)] [] [] (.gdraw RX WA gx))
 .skip))))
 (.keep gx [] [] cc3))))
def Vi (K1:Nat->Nat->Nat->Nat->V->H->AF) (K3:V->Nat->Nat->Nat->Nat->V->V->Int->Int->H->AF) (a:V) (b c d e:Nat) (f g:V) (h i:Int) (U:H):AF:=
 AI (Ci i h) (
 iX E U 6 g i fun j=>
 uB j fun j k l m n o=>
 let p:=Br U (.cells [iN 0,iN 0,V.nils,V.nils,iN 0,V.nils]);
 DX 6 (H.next U) 0 (V.agg (eB j k l m n o)) p fun j=>
 Bv E j (H.next U) 0 6 fun k=>
 uB k fun k l m n o p=>
 cB (D 61 [.agg (eB k l m n o p)] j) fun j k=>
 AI (not j) (
 Cc (W RX WA [(0,a),(4,.ptr b c),(5,.ptr d e),(7,f),(8,.int .i64 i),(9,.ptr (H.next U) 0),(13,g),(14,.int .i64 h),(15,.int .i64 i)] k) fun j l=>
 BL j 0 fun m=>
 BL j 4 fun n=>
 B4 n fun n o=>
 BL j 5 fun p=>
 B4 p fun p q=>
 BL j 7 fun r=>
 BL j 13 fun s=>
 BL j 14 fun t=>
 Ch .i64 t fun t=>
 BL j 15 fun j=>
 Ch .i64 j fun j=>
 K3 m n o p q r s t j l) (
 K3 a b c d e f g h i k)) (
 K1 b c d e f U)
def Ry:XC:=(.ops (.aA 35 15 1 15))
def kh (E:EB) (D:Ai) (W:AH) (R2:V->Nat->Nat->Nat->Nat->V->V->Int->Int->H->AF) (a:V) (b c d e:Nat) (f g:V) (h i:Int) (U:H):AF:=
 R2 a b c d e f g h (Ba .i64 i (AA 1)) U
def JW (cc6:XC):XC:=(.seq (.z (.aK 49 0 4 8<|
.nil)
 (.cond (.tmp 51) (.ops (.m 52 7<|
.k 53 HM 62 [(.t 52),(.con (V.fn 63 [] []))]<|
.nil))
 .skip))
 (.keep [(7,.any)] [] [] cc6))
def kg (E:EB) (D:Ai) (W:AH) (K6:V->H->AF) (a b:Nat) (c:V) (U:H):AF:=
 lI E U a b fun d=>
 AI (Bt d (AA 8)) (
 c0 (D 62 [c,.fn 63 [] []] U) fun d=>
 K6 c d) (
 K6 c U)
def LC:XC:=(.z (.aF 40 39 38)
 (.seq (.cond (.tmp 40) .skip
 (.exit 2))
 (.seq (.block 3 (.z (.s 41 2 37 39<|
.O 42 (.agg [.i,.any]) (.load (some 2) (.t 41))<|
.pal 11 [] 133 [y0,V.nils]<|
.op none (.agg [.i,.any]) [11,42] (.store 2 (.t 11) (.t 42))<|
.nil)
 (.ops (.m 43 7<|
.aB 44 1 11 .any<|
.p 46 [45] (.buildSlice 22 1 [V.nils] [(0,1,(.t 45))])<|
.O 47 .one (.append 22 1 24 (.t 43) (.t 46))<|
.aH 7 47))))
 (.ops (.aA 48 39 1 39)))))
def kf (E:EB) (D:Ai) (W:AH) (K4:Nat->Nat->V->H->AF) (R5:Nat->Nat->V->V->Int->Int->H->AF) (a b:Nat) (c d:V) (e f:Int) (U:H):AF:=
 AI (Ci f e) (
 iX E U 2 d f fun g=>
 uQ g fun g h=>
 GK (An [.int .i64 g,h]) (
 D9 [(0,1,h)] [V.nils] fun g=>
 GK (An g) (
 let h:=Br U (.cells g);
 DV E 1 24 c (V.sl (H.next U) 0 1 (.ex 1)) h fun g h=>
 CB g (
 R5 a b g d e (Ba .i64 f (AA 1)) h)))) (
 K4 a b c U)
def JV:XC:=(.z (.m 54 7<|
.aH 6 54)
 .ret)
def kc (E:EB) (D:Ai) (W:AH) (a:V) (U:H):AF:=
 some (a,U)
def AF9 (a:V) (b:Int) (c:V) (d e f g:Bool) (h i:Int) (j k:V) (l:Int) (m:Bool) (o p q:Int) (r s:V) (t:Int) (u:V) (U:H):St:=⟨[(0,a),(1,.agg [.int .i64 b,c,.bool d,.bool e,.bool f,.bool g,.int .i64 h,.int .i64 i,j,k,.int .i64 l,.bool m,.int .i64 o]),(2,.agg [.int .i64 p,.int .i64 q,r,s,.int .i64 t,u])],[],[],U⟩
def AF8 (a b c d:Nat) (e:V) (U:H):St:=⟨[(4,.ptr a b),(5,.ptr c d),(7,e)],[],[],U⟩
def lX (a:V) (b c d e:Nat) (f g:V) (h i:Int) (U:H):St:=⟨[(0,a),(4,.ptr b c),(5,.ptr d e),(7,f),(13,g),(14,.int .i64 h),(15,.int .i64 i)],[],[],U⟩
def AF7 (a b:Nat) (c:V) (U:H):St:=⟨[(4,.ptr a b),(7,c)],[],[],U⟩
def AF6 (a b:Nat) (c d:V) (e f:Int) (U:H):St:=⟨[(4,.ptr a b),(7,c),(37,d),(38,.int .i64 e),(39,.int .i64 f)],[],[],U⟩
def AG1 (E:EB) (D:Ai) (W:AH) (N:Nat):=kc E D W
def nH:=kg E D W (AG1 E D W N )
theorem AAi :
 (fun a b c U=>Ay E D W N (JW JV) (AF7 a b c U) (Io E) nX (Io E))=nH E D W N:=by
 unfold nH;kernel_rfl
def lz (n:Nat):Nat->Nat->V->V->Int->Int->H->AF:=
 Nat.rec (fun _ _ _ _ _ _ _=>none) (fun _ ih=>kf E D W (nH E D W N ) ih) n
theorem zn (n:Nat) :
 (fun a b c d e f U=>BN (fun rec s'=>Ay E D W N LC s' (kX ADX [] [] rec) (AKp E D W N (JW JV)) (Io E)) n (AF6 a b c d e f U))=lz E D W N n:=qc (fun li=>by rw[<-AAi];generalize JW JV=x0;revert x0;refine id ?_;intros;kernel_rfl) n
def Z7:=ZT E D W (lz E D W N N)
theorem AAk :
 (fun a b c d e U=>Ay E D W N (Nu (JW JV) LC) (AF8 a b c d e U) (Io E) nX (Io E))=Z7 E D W N:=by
 unfold Z7;rw[<-zn];generalize JW JV=x0,LC=x1;revert x0 x1;refine id ?_;intros;kernel_rfl
def nJ (E:EB) (D:Ai) (W:AH) (N:Nat) (R2:V->Nat->Nat->Nat->Nat->V->V->Int->Int->H->AF):=kh E D W R2
theorem AAj (li2:St->AF) :
 (fun a b c d e f g h i U=>Ay E D W N Ry (lX a b c d e f g h i U) (kX gx [] [] li2) (AEP E D W N (Nu (JW JV) LC)) (Io E))=nJ E D W N (fun a b c d e f g h i U=>li2 (lX a b c d e f g h i U)):=by
 unfold nJ;generalize Nu (JW JV) LC=x0;revert x0;refine id ?_;intros;kernel_rfl
def Z0 (n:Nat):V->Nat->Nat->Nat->Nat->V->V->Int->Int->H->AF:=
 Nat.rec (fun _ _ _ _ _ _ _ _ _ _=>none) (fun _ ih=>Vi E D W (Z7 E D W N ) (nJ E D W N ih)) n
theorem zp (n:Nat) :
 (fun a b c d e f g h i U=>BN (fun rec s'=>Ay E D W N (cL Ry) s' (kX gx [] [] rec) (AEP E D W N (Nu (JW JV) LC)) (Io E)) n (lX a b c d e f g h i U))=Z0 E D W N n:=xX (fun li=>by rw[<-AAk,<-AAj];generalize Nu (JW JV) LC=x0,Ry=x1;revert x0 x1;refine id ?_;intros;kernel_rfl) n
def nK:=ZU E D W (Z0 E D W N N)
theorem AAl :
 (fun a b c d e f g h i j k l m o p q r s t u U=>Ay E D W N (v8 (Nu (JW JV) LC) (cL Ry)) (AF9 a b c d e f g h i j k l m o p q r s t u U) (Io E) nX (Io E))=nK E D W N:=by
 unfold nK;rw[<-zp];generalize Nu (JW JV) LC=x0,cL Ry=x1;revert x0 x1;refine id ?_;intros;kernel_rfl
def F36 (args:List V) (U:H):AF:=
 Ae args fun a b=>
 Ae b fun b c=>
 CW b fun b=>
 uJ b fun b d e f g h i j k l m n o=>
 Ae c fun c p=>
 CW c fun c=>
 uB c fun c q r s t u=>
 BJ p (
 nK E D W N a b d e f g h i j k l m n o c q r s t u U)
def A36:Dv:=⟨55,[.any,y1,y2],[(.tmp 6)],(v8 (Nu (JW JV) LC) (cL Ry))⟩
theorem AMq (args:List V) (U:H):B9 E D W N A36 args U=F36 E D W N args U:=by
 unfold F36;rw[<-AAl];kernel_rfl
def Wj:List (Nat × CZ):=[(0,.str),(1,.i)]
def Re (E:EB):St->AF:=fun s=>DR E s [(.tmp 4)] fun l=>some (Dh l,s.U)
def AEO (c0:XC):Nat->St->AF:=Bf 0 (dX E D W N (.keep [(1,.i)] [] [] c0) (Re E) nX (Re E)) nX
def AKo (c0:XC) (l0:St->AF):Nat->St->AF:=Bf 3 (kX Wj [] [] l0) (Bf 2 (kX Wj [] [] l0) (Bf 1 (kX Wj [] [] l0) (AEO E D W N c0)))
def v7 (cc1:XC) (cc2:XC):XC:=(.z (.aN 4 0)
 (.seq (.block 0 (.loop Wj [] [] cc2))
 (.keep [(1,.i)] [] [] cc1)))
def AE5 (E:EB) (D:Ai) (W:AH) (K2:BS->Int->H->AF) (a:BS) (b:Int) (U:H):AF:=
 K2 a b U
def Rx:XC:=(.z (.m 74 1<|
.aH 4 74)
 .ret)
def kb (E:EB) (D:Ai) (W:AH) (a:Int) (U:H):AF:=
 rI a U
def cK (cc3:XC):XC:=(.seq (.z (.bY 5 1 0<|
.aF 8 5 7)
 (.cond (.tmp 8) .skip
 Jh))
 (.block 1 (.block 2 (.z (.bJ 11 0 1<|
.b 14 .eql .none (.t 13) (.con (V.int .u8 (AA 32)))<|
.m 15 14<|
.gO 15 false (.p 16 [0,15] Hy<|
.bI 17 1 15 Ji 16 15 16<|
.p 19 [18,15] (.bin .eql .none (.t 18) (.con (V.int .u8 (AA 9))))<|
.nil) 20 15 19<|
.m 21 20<|
.gO 21 false (.p 22 [0,21] Hy<|
.bI 23 1 21 Ji 22 21 22<|
.p 25 [24,21] (.bin .eql .none (.t 24) (.con (V.int .u8 (AA 10))))<|
.nil) 26 21 25<|
.m 27 26<|
.gO 27 false (.p 28 [0,27] Hy<|
.bI 29 1 27 Ji 28 27 28<|
.p 31 [30,27] (.bin .eql .none (.t 30) (.con (V.int .u8 (AA 13))))<|
.nil) 32 27 31<|
.aH 10 32)
 (.cond (.tmp 10) (.ops (.m 33 1<|
.aA 34 33 1 1))
 (.z (.bJ 36 0 1<|
.b 39 .eql .none (.t 38) YB<|
.m 40 39<|
.gA 40 true (.p 41 [0,40] Hy<|
.p 42 [1,40] Ji<|
.p 43 [42,40] (.bin .add .none (.t 42) (.i 1))<|
.op (some 44) (.int .u8) [41,43,40] (.call 64 [(.t 41),(.t 43)])<|
.p 45 [44,40] (.bin .eql .none (.t 44) YB)<|
.nil) 46 40 45<|
.aH 35 46)
 (.cond (.tmp 35) (.z (.m 47 1<|
.aA 48 47 2 1)
 (.block 3 (.loop Wj [] [] cc3)))
 (.z (.m 9 1<|
.m 4 9<|
.nil)
 .ret))))))))
def PZ (E:EB) (D:Ai) (W:AH) (K1:Int->H->AF) (K3:BS->Int->H->AF) (R2:BS->Int->H->AF) (a:BS) (b:Int) (U:H):AF:=
 AI (Ci b (AA (BS.len a))) (
 Cv a b fun c=>
 Af (fun d e=>
 Af (fun f g=>
 Af (fun h i=>
 AI h (
 R2 a (Ba .i64 b (AA 1)) i) (
 Cv a b fun h=>
 Af (fun j k=>
 AI j (
 K3 a (Ba .i64 b (AA 2)) k) (
 rI b k)) fun j=>
 AI (Bt h (AA 45)) (
 CM (D 64 [.str a,.int .i64 (Ba .i64 b (AA 1))] i) fun h k=>
 Ch .u8 h fun h=>
 j (Bt h (AA 45)) k) (
 j false i))) fun h=>
 AI f (
 h true g) (
 Cv a b fun f=>
 h (Bt f (AA 13)) g)) fun f=>
 AI d (
 f true e) (
 Cv a b fun d=>
 f (Bt d (AA 10)) e)) fun d=>
 AI (Bt c (AA 32)) (
 d true U) (
 Cv a b fun c=>
 d (Bt c (AA 9)) U)) (
 K1 b U)
def Rw:XC:=(.seq (.z (.bY 49 1 0<|
.b 52 .lss .none (.t 49) (.t 51)<|
.m 53 52<|
.gA 53 true (.p 54 [0,53] Hy<|
.bI 55 1 53 Ji 54 53 54<|
.p 57 [56,53] (.bin .neq .none (.t 56) (.con (V.int .u8 (AA 10))))<|
.nil) 58 53 57<|
.nil)
 (.cond (.tmp 58) .skip
 (.exit 3)))
 (.block 4 (.seq (.z (.bJ 59 0 1<|
.b 62 .eql .none (.t 61) YB<|
.m 63 62<|
.gA 63 true (.p 64 [0,63] Hy<|
.p 65 [1,63] Ji<|
.p 66 [65,63] (.bin .add .none (.t 65) (.i 1))<|
.op (some 67) (.int .u8) [64,66,63] (.call 64 [(.t 64),(.t 66)])<|
.p 68 [67,63] (.bin .eql .none (.t 67) YB)<|
.nil) 69 63 68<|
.nil)
 (.cond (.tmp 69) (.z (.m 70 1<|
.aA 71 70 2 1)
 (.exit 3))
 .skip))
 (.ops (.m 72 1<|
.aA 73 72 1 1)))))
def J6 (E:EB) (D:Ai) (W:AH) (R2:BS->Int->H->AF) (R3:BS->Int->H->AF) (a:BS) (b:Int) (U:H):AF:=
 Af (fun c d=>
 AI c (
 Cv a b fun c=>
 Af (fun e f=>
 AI e (
 R2 a (Ba .i64 b (AA 2)) f) (
 R3 a (Ba .i64 b (AA 1)) f)) fun e=>
 AI (Bt c (AA 45)) (
 CM (D 64 [.str a,.int .i64 (Ba .i64 b (AA 1))] d) fun c f=>
 Ch .u8 c fun c=>
 e (Bt c (AA 45)) f) (
 e false d)) (
 R2 a b d)) fun c=>
 AI (Ci b (AA (BS.len a))) (
 Cv a b fun d=>
 c (not (Bt d (AA 10))) U) (
 c false U)
def Zr (a:BS) (b:Int) (U:H):St:=⟨[(0,.str a),(1,.int .i64 b)],[],[],U⟩
def nF (E:EB) (D:Ai) (W:AH) (N:Nat):=kb E D W
def RP (E:EB) (D:Ai) (W:AH) (N:Nat) (R2:BS->Int->H->AF) (n:Nat):BS->Int->H->AF:=
 Nat.rec (fun _ _ _=>none) (fun _ ih=>J6 E D W R2 ih) n
theorem zl (li2:St->AF) (n:Nat) :
 (fun a b U=>BN (fun rec s'=>Ay E D W N Rw s' (kX Wj [] [] rec) (AKo E D W N Rx li2) (Re E)) n (Zr a b U))=RP E D W N (fun a b U=>li2 (Zr a b U)) n:=lp3 (fun _=>by generalize Rx=x0;revert x0;refine id ?_;intros;kernel_rfl) n
def Ni (n:Nat):BS->Int->H->AF:=
 Nat.rec (fun _ _ _=>none) (fun _ ih=>PZ E D W (nF E D W N ) (RP E D W N ih N) ih) n
theorem zm (n:Nat) :
 (fun a b U=>BN (fun rec s'=>Ay E D W N (cK Rw) s' (kX Wj [] [] rec) (AEO E D W N Rx) (Re E)) n (Zr a b U))=Ni E D W N n:=lp3 (fun li=>by rw[<-zl];generalize Rw=x0;revert x0;refine id ?_;intros;kernel_rfl) n
def nG:=AE5 E D W (Ni E D W N N)
theorem AAh :
 (fun a b U=>Ay E D W N (v7 Rx (cK Rw)) (Zr a b U) (Re E) nX (Re E))=nG E D W N:=by
 unfold nG;rw[<-zm];generalize cK Rw=x0,Rx=x1;revert x0 x1;refine id ?_;intros;kernel_rfl
def F37 (args:List V) (U:H):AF:=
 uR args fun a b=>
 nG E D W N a b U
def A37:Dv:=⟨75,[.str,.i],[(.tmp 4)],(v7 Rx (cK Rw))⟩
theorem AMp (args:List V) (U:H):B9 E D W N A37 args U=F37 E D W N args U:=by
 unfold F37;rw[<-AAh];kernel_rfl
def ADV:List (Nat × List CZ):=[(4,[.i,.str,.i]),(6,[.i,.str,.i])]
def AI5 (cc1:XC) (cc2:XC):XC:=(.z (.pal 4 [] 73 [y0,y5,y0]<|
.aN 5 0)
 (.z (.m 10 1<|
.op (some 11) y7 [10] (.build [y0,y5,y0] [(2,1,(.t 10))])<|
.pal 6 [] 73 [y0,y5,y0]<|
.op none y7 [6,11] (.store 3 (.t 6) (.t 11))<|
.nil)
 (.z (.bJ 12 0 1<|
.m 7 14<|
.nil)
 (.z (.aT 8 fS)
 (.seq (.block 0 (.z (.m 32 7<|
.k 33 .bool 65 [(.t 32)]<|
.bO 31)
 (.cond (.tmp 31) (.z (.bM 34 0 1 .i 66<|
.aH 8 36)
 (.seq (.z (.aY 37 8 0<|
.nil)
 (.cond (.tmp 38) (.z (.bB 39 y7 3 6 y7 4 3 4<|
.aT 5 fS)
 .ret)
 .skip))
 (.seq (.draw (.aC 40 0 1<|
.m 42 8<|
.p 43 [40,41,42] (.sliceStr (.t 40) (some (.t 41)) (some (.t 42)))<|
.aI 44 0 6 1 2<|
.bH 45 1 6 1 43) [0,0,0,7,0,16,63,127])
 (.seq (.z (.m 46 7<|
.b 47 .leq .none (.t 46) (.con (V.int .u8 (AA 90)))<|
.nil)
 (.cond (.tmp 47) (.ops (.aI 48 0 6 1 1<|
.nil))
 .skip))
 (.keep [(8,.i)] [4,6] ADV cc2)))))
 (.z (.m 54 7<|
.k 55 .bool 68 [(.t 54)]<|
.m 56 55<|
.gO 56 false (.p 57 [7,56] (.mov (.t 7))<|
.p 58 [57,56] (.bin .eql .none (.t 57) YB)<|
.p 59 [58,56] (.mov (.t 58))<|
.grp 59 true (.p 60 [0,59] Hy<|
.p 61 [1,59] Ji<|
.p 62 [61,59] (.bin .add .none (.t 61) (.i 1))<|
.op (some 63) (.int .u8) [60,62,59] (.call 64 [(.t 60),(.t 62)])<|
.op (some 64) .bool [63,59] (.call 68 [(.t 63)])<|
.nil) 65 [59,64,56] (.t 59) (.t 64) Qa<|
.nil) 66 56 65<|
.aH 53 66)
 (.cond (.tmp 53) (.z (.aC 67 0 1<|
.k 69 .i 69 [(.t 67),(.t 68)]<|
.aH 8 69)
 (.seq (.z (.aY 70 8 0<|
.nil)
 (.cond (.tmp 71) (.z (.bB 72 y7 3 6 y7 4 3 4<|
.aT 5 fS)
 .ret)
 .skip))
 (.draw (.aC 73 0 1<|
.m 75 8<|
.p 76 [73,74,75] (.sliceStr (.t 73) (some (.t 74)) (some (.t 75)))<|
.aI 77 0 6 1 3<|
.bH 78 1 6 1 76) [0,0,0,7,0,16,63,127])))
 (.z (.m 80 7<|
.b 81 .eql .none (.t 80) (.con (V.int .u8 (AA 39)))<|
.bO 79)
 (.cond (.tmp 79) (.z (.aI 82 0 6 1 4<|
.nil)
 (.ops (.aC 84 0 1<|
.k 86 (.tup [.i,.str]) 70 [(.t 84),(.t 85)]<|
.m 83 86<|
.aG 87 0 83 1 83<|
.m 8 87<|
.bH 89 1 6 1 88)))
 (.z (.m 91 7<|
.b 92 .eql .none (.t 91) (.con (V.int .u8 (AA 34)))<|
.bO 90)
 (.cond (.tmp 90) (.z (.aI 93 0 6 1 7<|
.nil)
 (.ops (.aC 95 0 1<|
.k 97 (.tup [.i,.str]) 71 [(.t 95),(.t 96)]<|
.m 94 97<|
.aG 98 0 94 1 94<|
.m 8 98<|
.bH 100 1 6 1 99)))
 (.z (.bM 15 0 1 .i 72<|
.m 9 17<|
.nil)
 (.z (.m 18 9<|
.bS 19 18 0)
 (.cond (.tmp 19) (.draw (.aC 20 0 1<|
.aC 22 1 9<|
.b 24 .add .none (.t 22) (.t 23)<|
.p 25 [20,21,24] (.sliceStr (.t 20) (some (.t 21)) (some (.t 24)))<|
.aC 26 1 9<|
.b 28 .add .none (.t 26) (.t 27)<|
.aI 29 0 6 1 6<|
.f 30 1 6<|
.w 1 30 25<|
.aH 8 28) [0,0,0,0,12,31,0,0,192,0,512,1599,3647,8191])
 .skip))))))))))))
 (.keep [(8,.i)] [4,6] ADV cc1))))))
def MS (E:EB) (D:Ai) (W:AH) (K1:Int->Int->BS->Int->Int->BS->Int->H->AF) (K2:Int->Int->BS->Int->Int->BS->Int->H->AF) (a:BS) (b:Int) (U:H):AF:=
 Cv a b fun c=>
 cB (D 65 [.int .u8 c] U) fun d e=>
 AI d (
 cI (D 66 [.str a,.int .i64 b] e) fun d f=>
 AI (Ci d (AA 0)) (
 some ((V.tup [.agg [iN 0,sN 0 0,.int .i64 b],.int .i64 (Az 0)]),f)) (
 C3 a (some (V.int .i64 b)) (some (V.int .i64 d)) fun g=>
 AI (I3 c (AA 90)) (
 K2 d (AA 0) (BS.mk 0 0) (AA 0) (AA 1) g b f) (
 K2 d (AA 0) (BS.mk 0 0) (AA 0) (AA 2) g b f))) (
 cB (D 68 [.int .u8 c] e) fun d e=>
 Af (fun f g=>
 AI f (
 cI (D 69 [.str a,.int .i64 b] g) fun f h=>
 AI (Ci f (AA 0)) (
 some ((V.tup [.agg [iN 0,sN 0 0,.int .i64 b],.int .i64 (Az 0)]),h)) (
 C3 a (some (V.int .i64 b)) (some (V.int .i64 f)) fun i=>
 K1 f (AA 0) (BS.mk 0 0) (AA 0) (AA 3) i b h)) (
 AI (Bt c (AA 39)) (
 cT (D 70 [.str a,.int .i64 b] g) fun f h=>
 uS f fun f i=>
 K1 f (AA 0) (BS.mk 0 0) (AA 0) (AA 4) i b h) (
 AI (Bt c (AA 34)) (
 cT (D 71 [.str a,.int .i64 b] g) fun f h=>
 uS f fun f i=>
 K1 f (AA 0) (BS.mk 0 0) (AA 0) (AA 7) i b h) (
 cI (D 72 [.str a,.int .i64 b] g) fun f g=>
 AI (Ci (AA 0) f) (
 C3 a (some (V.int .i64 b)) (some (V.int .i64 (Ba .i64 b f))) fun h=>
 K1 (Ba .i64 b f) (AA 0) (BS.mk 0 0) (AA 0) (AA 6) h b g) (
 K1 (Az 0) (AA 0) (BS.mk 0 0) (AA 0) (AA 0) (BS.mk 0 0) b g))))) fun f=>
 AI d (
 f true e) (
 Af (fun d g=>
 f d g) fun d=>
 AI (Bt c (AA 45)) (
 CM (D 64 [.str a,.int .i64 (Ba .i64 b (AA 1))] e) fun c f=>
 Ch .u8 c fun c=>
 cB (D 68 [.int .u8 c] f) fun c f=>
 d c f) (
 d false e)))
def AI4:XC:=(.z (.bW 101 y7 3 6 8<|
.op none y7 [4,101] (.store 3 (.t 4) (.t 101))<|
.aH 5 102)
 .ret)
def NZ (E:EB) (D:Ai) (W:AH) (a b:Int) (c:BS) (d e:Int) (f:BS) (g:Int) (U:H):AF:=
 some ((V.tup [.agg (eI e f g),.int .i64 a]),U)
def AI3:XC:=(.z (.aB 49 1 6 .str<|
.k 51 .bool 67 [(.t 50)]<|
.nil)
 (.cond (.tmp 51) (.ops (.aI 52 0 6 1 5<|
.nil))
 .skip))
def ka (E:EB) (D:Ai) (W:AH) (K1:Int->Int->BS->Int->Int->BS->Int->H->AF) (a b:Int) (c:BS) (d e:Int) (f:BS) (g:Int) (U:H):AF:=
 cB (D 67 [.str f] U) fun h i=>
 AI h (
 K1 a b c d (AA 5) f g i) (
 K1 a b c d e f g i)
def nE (E:EB) (D:Ai) (W:AH) (N:Nat):=NZ E D W
def V5:=ka E D W (nE E D W N )
def F38 (args:List V) (U:H):AF:=
 uR args fun a b=>
 MS E D W (nE E D W N ) (V5 E D W N ) a b U
def A38:Dv:=⟨103,[.str,.i],[(.cell 4 (some 3)),(.tmp 5)],(AI5 AI4 AI3)⟩
theorem AMo (args:List V) (U:H):B9 E D W N A38 args U=F38 E D W N args U:=by kernel_rfl
def AI2 (cc1:XC):XC:=(.z (.pal 2 [] 73 [y0,y5,y0]<|
.nil)
 (.seq (.draw (.aM 4 0<|
.aB 6 0 5 .any<|
.aM 8 0<|
.aB 10 1 9 .i<|
.aL 12 3 7 11 y7 3<|
.pal 3 [] 73 [y0,y5,y0]<|
.op none y7 [3,13] (.store 3 (.t 3) (.t 13))<|
.nil) [0,1,3,7,0,16,48,112,255,511,0,2047])
 (.seq (.seq (.draw (.aM 14 0<|
.aB 16 1 15 .i<|
.b 18 .add .none (.t 17) (.i 1)<|
.aM 19 0<|
.aS 21 0 20<|
.aF 24 18 23) [0,1,3,7,15,0,32,96,224,480,1023])
 (.cond (.tmp 24) (.ops (.aM 25 0<|
.aB 27 1 26 .i<|
.b 29 .add .none (.t 28) (.i 1)<|
.n 30 25<|
.bH 31 1 30 1 29))
 .skip))
 (.keep [] [2,3] [(2,[.i,.str,.i]),(3,[.i,.str,.i])] cc1))))
def kZ (E:EB) (D:Ai) (W:AH) (K1:Int->BS->Int->Int->BS->Int->H->AF) (a b:Nat) (U:H):AF:=
 EG E U a b fun c=>
 lI E U a (AP b 1) fun d=>
 iX E U 3 c d fun c=>
 uI c fun c d e=>
 lI E U a (AP b 1) fun f=>
 lL E U a b fun g=>
 AI (Ci (Ba .i64 f (AA 1)) (AA g)) (
 lI E U a (AP b 1) fun f=>
 DX 1 a (AP b 1) (V.int .i64 (Ba .i64 f (AA 1))) U fun f=>
 K1 (AA 0) (BS.mk 0 0) (AA 0) c d e f) (
 K1 (AA 0) (BS.mk 0 0) (AA 0) c d e U)
def AI1:XC:=(.z (.bB 32 y7 3 3 y7 2 3 2<|
.nil)
 .ret)
def kY (E:EB) (D:Ai) (W:AH) (a:Int) (b:BS) (c d:Int) (e:BS) (f:Int) (U:H):AF:=
 some ((V.agg (eI d e f)),U)
def AG0 (E:EB) (D:Ai) (W:AH) (N:Nat):=kY E D W
def F39 (args:List V) (U:H):AF:=
 Ae args fun a b=>
 B4 a fun a c=>
 BJ b (
 kZ E D W (AG0 E D W N ) a c U)
def A39:Dv:=⟨33,[.ptr],[(.cell 2 (some 3))],(AI2 AI1)⟩
theorem AMn (args:List V) (U:H):B9 E D W N A39 args U=F39 E D W N args U:=by kernel_rfl
def ADU:List (Nat × CZ):=[(1,.ptr),(3,.any),(4,.i)]
def WL (E:EB):St->AF:=fun s=>DR E s [(.tmp 2)] fun l=>some (Dh l,s.U)
def AKn (c0:XC):Nat->St->AF:=Bf 0 (dX E D W N (.keep [(1,.ptr)] [] [] c0) (WL E) nX (WL E)) nX
def v5 (cc1:XC) (cc2:XC):XC:=(.z (.P 1 (.box 73 (.t 0))<|
.aT 2 y3)
 (.z (.p 5 [] (.buildSlice 9 10 [y5,y5,y5,y5,y5,y5,y5,y5,y5,y5] [(0,1,(.con (V.str ⟨1,91⟩))),(1,1,(.con (V.str ⟨7,22026814072246082⟩))),(2,1,(.con (V.str ⟨4,1280070990⟩))),(3,1,y30),(4,1,(.con (V.str ⟨7,23157120498421321⟩))),(5,1,(.con (V.str ⟨5,361940403023⟩))),(6,1,y31),(7,1,(.con (V.str ⟨3,5522771⟩))),(8,1,(.con (V.str ⟨6,76155295057987⟩))),(9,1,y37)])<|
.bO 3)
 (.seq (.z (.aN 4 0)
 (.block 0 (.loop ADU [] [] cc2)))
 (.keep [(1,.ptr)] [] [] cc1))))
def ZS (E:EB) (D:Ai) (W:AH) (K2:Nat->Nat->V->Int->H->AF) (a:Int) (b:BS) (c:Int) (U:H):AF:=
 Ix (eI a b c) U fun d=>
 let e:=Br d (.cells [sN 1 91,sN 7 22026814072246082,sN 4 1280070990,sN 10 488440487847103610377301,sN 7 23157120498421321,sN 5 361940403023,sN 10 322399817400452109389381,sN 3 5522771,sN 6 76155295057987,sN 8 4990918871747741011]);
 K2 (H.next U) 0 (V.sl (H.next d) 0 10 (.ex 10)) (AA 0) e
def cJ:XC:=(.z (.aB 29 0 1 .i<|
.aD 31 30 1 2)
 .ret)
def Vh (E:EB) (D:Ai) (W:AH) (a b:Nat) (U:H):AF:=
 lI E U a b fun c=>
 rB (Bt c (AA 1)) U
def cH:XC:=(.seq (.z (.aC 6 4 3<|
.u 8 7<|
.aF 9 6 8)
 wL)
 (.seq (.block 1 (.seq (.draw (.aC 12 3 4<|
.bT 14 1 12 13 .str<|
.aB 16 1 1 .str<|
.b 18 .eql .none (.t 15) (.t 17)<|
.m 19 18<|
.gA 19 true (.aE 20 1 19 0 1 19<|
.bD 22 21 19 21 5 19<|
.grp 23 false (.p 24 [1,23] (.faddr 0 (.t 1))<|
.op (some 25) .i [24,23] (.load none (.t 24))<|
.aV 26 25 23 25 6) 27 [23,26,19] (.t 23) Me (.t 26)<|
.nil) 28 19 27<|
.nil) [0,0,3,7,0,16,63,127,255,511,1023,2047,4095,8191,16383,32767,65535])
 (.cond (.tmp 28) (.z (.c 2 (V.bool true)<|
.nil)
 .ret)
 .skip)))
 (.ops (.m 10 4<|
.aA 11 10 1 4))))
def PY (E:EB) (D:Ai) (W:AH) (K1:Nat->Nat->H->AF) (R2:Nat->Nat->V->Int->H->AF) (a b:Nat) (c:V) (d:Int) (U:H):AF:=
 A0 c fun e=>
 AI (Ci d (AA e)) (
 AW 1 c d fun e f=>
 lS E U e f fun e=>
 lS E U a (AP b 1) fun f=>
 Af (fun g h=>
 AI g (
 rB true h) (
 R2 a b c (Ba .i64 d (AA 1)) h)) fun g=>
 AI (BS.beq e f) (
 lI E U a b fun e=>
 Af (fun f h=>
 g f h) fun f=>
 AI (Bt e (AA 5)) (
 f true U) (
 lI E U a b fun e=>
 f (Bt e (AA 6)) U)) (
 g false U)) (
 K1 a b U)
def AF5 (a:Int) (b:BS) (c:Int) (U:H):St:=⟨[(0,.agg [.int .i64 a,.str b,.int .i64 c])],[],[],U⟩
def AF4 (a b:Nat) (c:V) (d:Int) (U:H):St:=⟨[(1,.ptr a b),(3,c),(4,.int .i64 d)],[],[],U⟩
def AGz (E:EB) (D:Ai) (W:AH) (N:Nat):=Vh E D W
def Vz (n:Nat):Nat->Nat->V->Int->H->AF:=
 Nat.rec (fun _ _ _ _ _=>none) (fun _ ih=>PY E D W (AGz E D W N ) ih) n
theorem zk (n:Nat) :
 (fun a b c d U=>BN (fun rec s'=>Ay E D W N cH s' (kX ADU [] [] rec) (AKn E D W N cJ) (WL E)) n (AF4 a b c d U))=Vz E D W N n:=WU (fun _=>by kernel_rfl) n
def nD:=ZS E D W (Vz E D W N N)
theorem AAg :
 (fun a b c U=>Ay E D W N (v5 cJ cH) (AF5 a b c U) (WL E) nX (WL E))=nD E D W N:=by
 unfold nD;rw[<-zk];generalize cJ=x0,cH=x1;revert x0 x1;refine id ?_;intros;kernel_rfl
def F40 (args:List V) (U:H):AF:=
 Ae args fun a b=>
 CW a fun a=>
 uI a fun a c d=>
 BJ b (
 nD E D W N a c d U)
def A40:Dv:=⟨32,[y7],[(.tmp 2)],(v5 cJ cH)⟩
theorem AMm (args:List V) (U:H):B9 E D W N A40 args U=F40 E D W N args U:=by
 unfold F40;rw[<-AAg];kernel_rfl
def AI0:XC:=(.z (.aN 2 0)
 (.z (.m 4 0<|
.k 5 .str 20 [(.t 4),(.i 3)]<|
.bO 3)
 (.seq (.z (.m 6 3<|
.b 7 .eql .none (.t 6) (.con y5)<|
.nil)
 (.cond (.tmp 7) (.z (.aN 2 0)
 .ret)
 .skip))
 (.z (.m 8 3<|
.k 9 .i 73 [(.t 8)]<|
.m 2 9<|
.nil)
 .ret))))
def kW (E:EB) (D:Ai) (W:AH) (a:V) (U:H):AF:=
 cS (D 20 [a,iN 3] U) fun b c=>
 AI (BS.beq b (BS.mk 0 0)) (
 rI (AA 0) c) (
 cI (D 73 [.str b] c) fun b c=>
 rI b c)
def F41 (N:Nat) (args:List V) (U:H):AF:=
 Ae args fun a b=>
 BJ b (
 kW E D W a U)
def A41:Dv:=⟨10,[.any],[(.tmp 2)],AI0⟩
theorem AMl (args:List V) (U:H):B9 E D W N A41 args U=F41 E D W N args U:=by kernel_rfl
def vT:List BO:=[⟨(some 139),.mov (.tmp 1),none⟩,⟨(some 140),.mov (.tmp 1),none⟩,⟨(some 141),.faddr 1 (.tmp 6),none⟩,⟨(some 142),.load none (.tmp 141),none⟩,⟨(some 143),.nilck (.tmp 139),none⟩,⟨(some 144),.faddr 0 (.tmp 143),none⟩,⟨none,.store 1 (.tmp 144) (.con (V.int .i64 (AA 11))),none⟩,⟨(some 145),.nilck (.tmp 140),none⟩,⟨(some 146),.faddr 1 (.tmp 145),none⟩,⟨none,.store 1 (.tmp 146) (.tmp 142),none⟩]
def vM:List DP:=[⟨0,[1]⟩,⟨0,[1]⟩,⟨0,[6]⟩,⟨4,[141]⟩,⟨1,[139]⟩,⟨17,[143]⟩,⟨49,[144]⟩,⟨127,[140]⟩,⟨255,[145]⟩,⟨511,[146,142]⟩]
def AIz:XC:=(.z (.m 7 0<|
.k 8 y7 23 [(.t 7)]<|
.p 6 [] (.alloc 73 [y0,y5,y0])<|
.op none y7 [6,8] (.store 3 (.t 6) (.t 8))<|
.nil)
 (.block 0 (.z (.aM 13 0<|
.aP 15 7 14 0<|
.m 12 17<|
.nil)
 (.cond (.tmp 12) .skip
 (.z (.m 19 0<|
.k 20 .bool 22 [(.t 19),(.con (V.str ⟨7,22026814072246082⟩))]<|
.bO 18)
 (.cond (.tmp 18) (.ops (.aM 21 1<|
.aI 23 0 22 1 1<|
.nil))
 (.z (.aR 25 0 .bool 22 4 1280070990<|
.bO 24)
 (.cond (.tmp 24) (.ops (.aM 27 1<|
.aI 29 0 28 1 4<|
.nil))
 (.z (.m 31 0<|
.k 32 .bool 22 [(.t 31),y30]<|
.bO 30)
 (.cond (.tmp 30) (.z (.aM 33 1<|
.aI 35 0 34 1 6<|
.nil)
 (.ops (.aC 36 1 0<|
.k 38 T5 74 [(.t 37)]<|
.n 39 36<|
.bU 40 5 39 T5 38 6 38)))
 (.z (.aR 42 0 .bool 22 7 23157120498421321<|
.bO 41)
 (.cond (.tmp 41) (.z (.aM 44 1<|
.aI 46 0 45 1 2<|
.nil)
 (.z (.aR 47 0 .bool 22 1 40<|
.nil)
 (.cond (.tmp 48) (.z (.aC 49 1 0<|
.k 51 T5 75 [(.t 50)]<|
.n 52 49<|
.bU 53 5 52 T5 51 6 51)
 (.ops (.aU 54 0 HM 21 1 41)))
 .skip)))
 (.z (.aR 57 0 .bool 22 5 361940403023<|
.bO 56)
 (.cond (.tmp 56) (.z (.aU 59 0 HM 21 6 78401563153491)
 (.z (.aM 61 1<|
.aI 63 0 62 1 5<|
.nil)
 (.ops (.aC 64 1 0<|
.k 66 T5 74 [(.t 65)]<|
.n 67 64<|
.bU 68 5 67 T5 66 6 66))))
 (.z (.m 70 0<|
.k 71 .bool 22 [(.t 70),y31]<|
.bO 69)
 (.cond (.tmp 69) (.z (.aM 72 1<|
.aI 74 0 73 1 3<|
.nil)
 (.z (.m 75 0<|
.k 76 HM 21 [(.t 75),y34]<|
.nil)
 (.z (.aC 77 0 1<|
.k 79 HM 76 [(.t 77),(.t 78)]<|
.nil)
 (.ops (.aU 80 0 HM 21 1 125)))))
 (.z (.aR 83 0 .bool 22 3 5522771<|
.bO 82)
 (.cond (.tmp 82) (.z (.aM 85 1<|
.aI 87 0 86 1 8<|
.nil)
 (.z (.m 88 0<|
.k 89 HM 21 [(.t 88),y34]<|
.nil)
 (.ops (.aC 90 0 1<|
.m 92 2<|
.k 93 HM 77 [(.t 90),(.t 91),(.t 92)]<|
.nil))))
 (.z (.aR 95 0 .bool 22 6 76155295057987<|
.bO 94)
 (.cond (.tmp 94) (.z (.aM 97 1<|
.aI 99 0 98 1 9<|
.nil)
 (.z (.m 100 0<|
.k 101 HM 21 [(.t 100),y34]<|
.nil)
 (.ops (.aC 102 0 1<|
.m 104 2<|
.k 105 HM 77 [(.t 102),(.t 103),(.t 104)]<|
.nil))))
 (.z (.m 107 0<|
.k 108 .bool 22 [(.t 107),y37]<|
.bO 106)
 (.cond (.tmp 106) (.seq (.z (.m 109 0<|
.k 110 .bool 22 [(.t 109),y34]<|
.nil)
 (.cond (.tmp 110) (.z (.aM 111 1<|
.aI 113 0 112 1 7<|
.nil)
 (.z (.aC 114 0 1<|
.m 116 2<|
.k 117 HM 77 [(.t 114),(.t 115),(.t 116)]<|
.nil)
 .ret))
 .skip))
 (.z (.aM 118 1<|
.aI 120 0 119 1 10<|
.nil)
 (.z (.aC 121 1 0<|
.k 123 T5 74 [(.t 122)]<|
.n 124 121<|
.bU 125 5 124 T5 123 6 123)
 (.z (.aU 126 0 HM 21 2 17999)
 (.ops (.aC 128 1 0<|
.m 130 2<|
.b 131 .add .none (.t 130) (.i 1)<|
.k 132 .i 25 [(.t 129),(.t 131)]<|
.n 133 128<|
.bH 134 15 133 1 132))))))
 (.z (.aB 136 0 6 .i<|
.aD 138 137 1 135)
 (.cond (.tmp 135) (.seq (.keep [(0,.ptr),(1,.ptr),(6,.ptr)] [] [] (.gdraw vT vM [(0,.ptr)]))
 (.ops (.m 147 0<|
.k 148 y7 39 [(.t 147)]<|
.nil)))
 (.ops (.bE 9 0 y7 3 6<|
.k 11 HM 24 [(.t 9),(.i 7),(.t 10)]<|
.nil))))))))))))))))))))))))))
def kV (a b c d:Nat) (e:Int) (U:H):AF:=
 cA (D 23 [.ptr a b] U) fun f g=>
 uI f fun f h i=>
 let j:=Br g (.cells [iN 0,.str ⟨0,0⟩,iN 0]);
 DX 3 (H.next g) 0 (V.agg (eI f h i)) j fun f=>
 lI E f a (AP b 7) fun h=>
 AI (not (Bt h (AA 0))) (
 r0 f) (
 cB (D 22 [.ptr a b,sN 7 22026814072246082] f) fun f h=>
 AI f (
 DX 1 c d (iN 1) h fun f=>
 r0 f) (
 cB (D 22 [.ptr a b,sN 4 1280070990] h) fun f h=>
 AI f (
 DX 1 c d (iN 4) h fun f=>
 r0 f) (
 cB (D 22 [.ptr a b,sN 10 488440487847103610377301] h) fun f h=>
 AI f (
 DX 1 c d (iN 6) h fun f=>
 cA (D 74 [.ptr a b] f) fun f i=>
 uT f fun f j k l m n=>
 DX 6 c (AP d 5) (V.agg (eT f j k l m n)) i fun f=>
 r0 f) (
 cB (D 22 [.ptr a b,sN 7 23157120498421321] h) fun f h=>
 AI f (
 DX 1 c d (iN 2) h fun f=>
 cB (D 22 [.ptr a b,sN 1 40] f) fun f i=>
 AI f (
 cA (D 75 [.ptr a b] i) fun f j=>
 uT f fun f k l m n o=>
 DX 6 c (AP d 5) (V.agg (eT f k l m n o)) j fun f=>
 c0 (D 21 [.ptr a b,sN 1 41] f) fun f=>
 r0 f) (
 r0 i)) (
 cB (D 22 [.ptr a b,sN 5 361940403023] h) fun f h=>
 AI f (
 c0 (D 21 [.ptr a b,sN 6 78401563153491] h) fun f=>
 DX 1 c d (iN 5) f fun f=>
 cA (D 74 [.ptr a b] f) fun f i=>
 uT f fun f j k l m n=>
 DX 6 c (AP d 5) (V.agg (eT f j k l m n)) i fun f=>
 r0 f) (
 cB (D 22 [.ptr a b,sN 10 322399817400452109389381] h) fun f h=>
 AI f (
 DX 1 c d (iN 3) h fun f=>
 c0 (D 21 [.ptr a b,sN 1 123] f) fun f=>
 c0 (D 76 [.ptr a b,.ptr c d] f) fun f=>
 c0 (D 21 [.ptr a b,sN 1 125] f) fun f=>
 r0 f) (
 cB (D 22 [.ptr a b,sN 3 5522771] h) fun f h=>
 AI f (
 DX 1 c d (iN 8) h fun f=>
 c0 (D 21 [.ptr a b,sN 1 123] f) fun f=>
 c0 (D 77 [.ptr a b,.ptr c d,.int .i64 e] f) fun f=>
 r0 f) (
 cB (D 22 [.ptr a b,sN 6 76155295057987] h) fun f h=>
 AI f (
 DX 1 c d (iN 9) h fun f=>
 c0 (D 21 [.ptr a b,sN 1 123] f) fun f=>
 c0 (D 77 [.ptr a b,.ptr c d,.int .i64 e] f) fun f=>
 r0 f) (
 cB (D 22 [.ptr a b,sN 8 4990918871747741011] h) fun f h=>
 AI f (
 cB (D 22 [.ptr a b,sN 1 123] h) fun f i=>
 AI f (
 DX 1 c d (iN 7) i fun f=>
 c0 (D 77 [.ptr a b,.ptr c d,.int .i64 e] f) fun f=>
 r0 f) (
 DX 1 c d (iN 10) i fun f=>
 cA (D 74 [.ptr a b] f) fun f i=>
 uT f fun f j k l m n=>
 DX 6 c (AP d 5) (V.agg (eT f j k l m n)) i fun f=>
 c0 (D 21 [.ptr a b,sN 2 17999] f) fun f=>
 cI (D 25 [.ptr a b,.int .i64 (Ba .i64 e (AA 1))] f) fun f i=>
 DX 1 c (AP d 15) (V.int .i64 f) i fun f=>
 r0 f)) (
 lI E h (H.next g) 0 fun f=>
 AI (Bt f (AA 1)) (
 Cc (W vT vM [(0,.ptr a b),(1,.ptr c d),(6,.ptr (H.next g) 0)] h) fun f i=>
 BL f 0 fun f=>
 B4 f fun f j=>
 cA (D 39 [.ptr f j] i) fun f i=>
 uI f fun f j k=>
 r0 i) (
 Bv E h (H.next g) 0 3 fun f=>
 uI f fun f g i=>
 c0 (D 24 [.ptr a b,iN 7,.agg (eI f g i)] h) fun f=>
 r0 f)))))))))))
def F42 (N:Nat) (args:List V) (U:H):AF:=
 uU args fun a b c d e=>
 kV E D W a b c d e U
def A42:Dv:=⟨149,[.ptr,.ptr,.i],[],AIz⟩
theorem AMk (args:List V) (U:H):B9 E D W N A42 args U=F42 E D W N args U:=by kernel_rfl
def ADT:List (Nat × CZ):=[(0,.any),(1,.str),(5,.i)]
def WK (E:EB):St->AF:=fun s=>DR E s [(.tmp 4)] fun l=>some (Dh l,s.U)
def AKm (c0:XC):Nat->St->AF:=Bf 0 (dX E D W N (.keep [] [] [] c0) (WK E) nX (WK E)) nX
def vz (cc1:XC) (cc2:XC):XC:=(.z (.aT 4 y3)
 (.seq (.z (.aN 5 0)
 (.block 0 (.loop ADT [] [] cc2)))
 (.keep [] [] [] cc1)))
def AE4 (E:EB) (D:Ai) (W:AH) (K2:V->BS->Int->H->AF) (a:V) (b:BS) (U:H):AF:=
 K2 a b (AA 0) U
def cG:XC:=(.z (.aT 4 y3)
 .ret)
def Vg (E:EB) (D:Ai) (W:AH) (U:H):AF:=
 rB false U
def cF:XC:=(.seq (.z (.aC 6 5 0<|
.u 8 7<|
.aF 9 6 8)
 wL)
 (.seq (.block 1 (.z (.aC 12 0 5<|
.bT 14 1 12 13 .str<|
.m 16 1<|
.b 17 .eql .none (.t 15) (.t 16)<|
.nil)
 y25))
 y24))
def PX (E:EB) (D:Ai) (W:AH) (K1:H->AF) (R2:V->BS->Int->H->AF) (a:V) (b:BS) (c:Int) (U:H):AF:=
 A0 a fun d=>
 AI (Ci c (AA d)) (
 AW 1 a c fun d e=>
 lS E U d e fun d=>
 AI (BS.beq d b) (
 rB true U) (
 R2 a b (Ba .i64 c (AA 1)) U)) (
 K1 U)
def AF3 (a:V) (b:BS) (U:H):St:=⟨[(0,a),(1,.str b)],[],[],U⟩
def AF2 (a:V) (b:BS) (c:Int) (U:H):St:=⟨[(0,a),(1,.str b),(5,.int .i64 c)],[],[],U⟩
def AGy (E:EB) (D:Ai) (W:AH) (N:Nat):=Vg E D W
def Zz (n:Nat):V->BS->Int->H->AF:=
 Nat.rec (fun _ _ _ _=>none) (fun _ ih=>PX E D W (AGy E D W N ) ih) n
theorem zj (n:Nat) :
 (fun a b c U=>BN (fun rec s'=>Ay E D W N cF s' (kX ADT [] [] rec) (AKm E D W N cG) (WK E)) n (AF2 a b c U))=Zz E D W N n:=xW (fun _=>by kernel_rfl) n
def nC:=AE4 E D W (Zz E D W N N)
theorem AAf :
 (fun a b U=>Ay E D W N (vz cG cF) (AF3 a b U) (WK E) nX (WK E))=nC E D W N:=by
 unfold nC;rw[<-zj];generalize cG=x0,cF=x1;revert x0 x1;refine id ?_;intros;kernel_rfl
def F43 (args:List V) (U:H):AF:=
 uV args fun a b=>
 nC E D W N a b U
def A43:Dv:=⟨18,[.any,.str],[(.tmp 4)],(vz cG cF)⟩
theorem AMj (args:List V) (U:H):B9 E D W N A43 args U=F43 E D W N args U:=by
 unfold F43;rw[<-AAf];kernel_rfl
def dF:List (Nat × List CZ):=[(10,[.i,.str,.bool,.i,.i,.bool,.bool,.bool,.bool,.i,.i,.any,.any,.i,.bool,.i])]
def ADS:List (Nat × CZ):=[(2,.i),(3,.any),(4,.ptr),(12,.bool),(13,.i)]
def ADR:List (Nat × CZ):=[(2,.i),(3,.any),(4,.ptr),(12,.bool)]
def ADQ:List (Nat × CZ):=[(2,.i),(3,.any),(4,.ptr)]
def JP (E:EB):St->AF:=fun s=>DR E s [(.tmp 8),(.tmp 9)] fun l=>some (Dh l,s.U)
def AKl (c0:XC):Nat->St->AF:=Bf 0 (dX E D W N (.keep ADR [10] dF c0) (JP E) nX (JP E)) nX
def vy (cc1:XC) (cc2:XC):XC:=(.z (.P 4 (.box 51 (.t 0))<|
.c 8 V.nils<|
.aT 9 y3)
 (.seq (.z (.aY 16 1 0<|
.m 18 17<|
.gO 18 false (.p 19 [1,18] Ji<|
.aJ 20 4 18 4 4 18 18<|
.p 23 [19,22,18] (.bin .geq .none (.t 19) (.t 22))<|
.nil) 24 18 23<|
.m 25 24<|
.gO 25 false (.p 26 [2,25] (.mov (.t 2))<|
.aQ 27 26 25 26 16) 28 25 27<|
.nil)
 (.cond (.tmp 28) (.z (.m 29 3<|
.m 8 29<|
.aT 9 y3)
 .ret)
 .skip))
 (.z (.aZ 30 4 4 1<|
.aL 33 16 31 32 y4 16<|
.pal 10 [] 111 [y0,y5,y3,y0,y0,y3,y3,y3,y3,y0,y0,V.nils,V.nils,y0,y3,y0]<|
.op none y4 [10,34] (.store 16 (.t 10) (.t 34))<|
.nil)
 (.seq (.z (.aK 35 0 10 11<|
.nil)
 (.cond (.tmp 37) (.z (.O 38 Tz (.load (some 5) (.t 4))<|
.aB 39 1 10 .str<|
.k 41 .i 46 [(.t 38),(.t 40)]<|
.aH 11 41)
 (.seq (.z (.aY 42 11 0<|
.nil)
 (.cond (.tmp 43) (.z (.m 44 3<|
.m 8 44<|
.c 9 (V.bool true)<|
.nil)
 .ret)
 .skip))
 (.seq (.z (.bM 45 3 11 .bool 12<|
.bK 48 47)
 (.cond (.tmp 48) (.ops (.aC 49 3 11<|
.aX 51 50 3 1 y0 0 1 50 .one 3 1 8 49<|
.aH 3 52))
 .skip))
 (.keep [(3,.any)] [] [] cc2))))
 .skip))
 (.keep ADQ [10] dF cc1)))))
def RE (E:EB) (D:Ai) (W:AH) (K1:Int->V->Nat->Nat->Int->BS->Bool->Int->Int->Bool->Bool->Bool->Bool->Int->Int->V->V->Int->Bool->Int->H->AF) (K2:V->H->AF) (a:BS) (b:Int) (c d e:V) (f g:Int) (h:V) (U:H):AF:=
 Ix (eD a b c d e) U fun i=>
 Af (fun j k=>
 Af (fun l m=>
 AI l (
 some ((V.tup [h,.bool false]),m)) (
 jX E m (H.next U) 4 16 f fun l=>
 uM l fun l n o p q r s t u v w x y z aa ab=>
 GK (An (eM l n o p q r s t u v w x y z aa ab)) (
 AI (Bt l (AA 11)) (
 Bv E m (H.next U) 0 5 fun ac=>
 uD ac fun ac ad ae af ag=>
 cI (D 46 [.agg (eD ac ad ae af ag),.str n] m) fun ac ad=>
 AI (Ci ac (AA 0)) (
 some ((V.tup [h,.bool true]),ad)) (
 cB (D 12 [h,.int .i64 ac] ad) fun ad ae=>
 AI (not ad) (
 let ad:=Br ae (.cells [.int .i64 ac]);
 DV E 1 8 h (V.sl (H.next ae) 0 1 (.ex 1)) ad fun ac ad=>
 CB ac (
 K2 ac ad)) (
 K2 h ae))) (
 K1 g h (H.next U) 0 l n o p q r s t u v w x y z aa ab m)))) fun l=>
 AI j (
 l true k) (
 l (Ci (AA 16) g) k)) fun j=>
 AI (Ci f (AA 0)) (
 j true i) (
 lL E i (H.next U) 4 fun k=>
 j (I3 (AA k) f) i)
def Rv (cc3:XC) (cc4:XC):XC:=(.z (.aT 12 y3)
 (.seq (.z (.aN 13 0)
 (.block 0 (.loop ADS [10] dF cc4)))
 (.keep ADR [10] dF cc3)))
def uk (E:EB) (D:Ai) (W:AH) (K4:Int->V->Nat->Nat->Bool->Int->Int->BS->Bool->Int->Int->Bool->Bool->Bool->Bool->Int->Int->V->V->Int->Bool->Int->H->AF) (a:Int) (b:V) (c d:Nat) (e:Int) (f:BS) (g:Bool) (h i:Int) (j k l m:Bool) (o p:Int) (q r:V) (s:Int) (t:Bool) (u:Int) (U:H):AF:=
 K4 a b c d false (AA 0) e f g h i j k l m o p q r s t u U
def cE:XC:=(.z (.m 53 3<|
.m 8 53<|
.aT 9 y3)
 .ret)
def uj (E:EB) (D:Ai) (W:AH) (a:V) (U:H):AF:=
 some ((V.tup [a,.bool false]),U)
def LA (cc5:XC):XC:=(.seq (.z (.aK 79 0 10 10<|
.nil)
 (.cond (.tmp 81) (.z (.aT 15 y3)
 (.z (.O 83 Tz (.load (some 5) (.t 4))<|
.aB 84 15 10 .i<|
.m 86 2<|
.b 87 .add .none (.t 86) (.i 1)<|
.m 88 3<|
.k 89 (.tup [.any,.bool]) 44 [(.t 83),(.t 85),(.t 87),(.t 88)]<|
.m 82 89<|
.aG 90 0 82 1 82<|
.m 3 90<|
.aH 15 91)
 (.ops (.m 92 12<|
.m 93 92<|
.gO 93 false (.p 94 [15,93] (.mov (.t 15))<|
.nil) 95 93 94<|
.aH 12 95))))
 .skip))
 (.keep [(3,.any),(12,.bool)] [] [] cc5))
def NY (E:EB) (D:Ai) (W:AH) (K5:V->Bool->H->AF) (a:Int) (b:V) (c d:Nat) (e:Bool) (f:Int) (g:BS) (h:Bool) (i j:Int) (k l m o:Bool) (p q:Int) (r s:V) (t:Int) (u:Bool) (v:Int) (U:H):AF:=
 AI (Bt f (AA 10)) (
 Bv E U c d 5 fun n=>
 uD n fun n w x y z=>
 cT (D 44 [.agg (eD n w x y z),.int .i64 v,.int .i64 (Ba .i64 a (AA 1)),b] U) fun n w=>
 uN n fun n x=>
 Af (fun y z=>
 K5 n y z) fun n=>
 AI e (
 n true w) (
 n x w)) (
 K5 b e U)
def Nt:XC:=(.seq (.z (.m 54 13<|
.aS 55 12 10<|
.aF 58 54 57)
 (.cond (.tmp 58) .skip
 Jh))
 (.seq (.block 1 (.z (.aT 14 y3)
 (.seq (.draw (.O 62 Tz (.load (some 5) (.t 4))<|
.aZ 63 12 10 13<|
.s 66 11 64 65<|
.aB 67 1 66 .i<|
.m 69 2<|
.b 70 .add .none (.t 69) (.i 1)<|
.m 71 3<|
.k 72 (.tup [.any,.bool]) 44 [(.t 62),(.t 68),(.t 70),(.t 71)]<|
.m 61 72<|
.aG 73 0 61 1 61<|
.m 3 73<|
.aH 14 74) [0,0,2,0,14,30,62,0,128,0,1023,2047,4095,4095,8191,32767])
 (.ops (.m 75 12<|
.m 76 75<|
.gO 76 false (.p 77 [14,76] (.mov (.t 14))<|
.nil) 78 76 77<|
.aH 12 78)))))
 (.ops (.m 59 13<|
.aA 60 59 1 13))))
def Kr (E:EB) (D:Ai) (W:AH) (K3:Int->V->Nat->Nat->Bool->Int->BS->Bool->Int->Int->Bool->Bool->Bool->Bool->Int->Int->V->V->Int->Bool->Int->H->AF) (R4:Int->V->Nat->Nat->Bool->Int->Int->BS->Bool->Int->Int->Bool->Bool->Bool->Bool->Int->Int->V->V->Int->Bool->Int->H->AF) (a:Int) (b:V) (c d:Nat) (e:Bool) (f g:Int) (h:BS) (i:Bool) (j k:Int) (l m o p:Bool) (q r:Int) (s t:V) (u:Int) (v:Bool) (w:Int) (U:H):AF:=
 A0 t fun n=>
 AI (Ci f (AA n)) (
 Bv E U c d 5 fun n=>
 uD n fun n x y z aa=>
 AW 11 t f fun ab ac=>
 lI E U ab (AP ac 1) fun ab=>
 cT (D 44 [.agg (eD n x y z aa),.int .i64 ab,.int .i64 (Ba .i64 a (AA 1)),b] U) fun n x=>
 uN n fun n y=>
 Af (fun z aa=>
 R4 a n c d z (Ba .i64 f (AA 1)) g h i j k l m o p q r s t u v w aa) fun n=>
 AI e (
 n true x) (
 n y x)) (
 K3 a b c d e g h i j k l m o p q r s t u v w U)
def K0:XC:=(.z (.aC 96 3 12<|
.aC 8 96 97<|
.nil)
 .ret)
def NX (E:EB) (D:Ai) (W:AH) (a:V) (b:Bool) (U:H):AF:=
 some ((V.tup [a,.bool b]),U)
def AF1 (a:BS) (b:Int) (c d e:V) (f g:Int) (h:V) (U:H):St:=⟨[(0,.agg [.str a,.int .i64 b,c,d,e]),(1,.int .i64 f),(2,.int .i64 g),(3,h)],[],[],U⟩
def AF0 (a:Int) (b:V) (c d:Nat) (e:Int) (f:BS) (g:Bool) (h i:Int) (j k l m:Bool) (o p:Int) (q r:V) (s:Int) (t:Bool) (u:Int) (U:H):St:=⟨[(2,.int .i64 a),(3,b),(4,.ptr c d)],[(10,(10,0))],[(10,[.int .i64 e,.str f,.bool g,.int .i64 h,.int .i64 i,.bool j,.bool k,.bool l,.bool m,.int .i64 o,.int .i64 p,q,r,.int .i64 s,.bool t,.int .i64 u])],U⟩
def AFz (a:V) (U:H):St:=⟨[(3,a)],[],[],U⟩
def AFy (a:Int) (b:V) (c d:Nat) (e:Bool) (f:Int) (g:BS) (h:Bool) (i j:Int) (k l m o:Bool) (p q:Int) (r s:V) (t:Int) (u:Bool) (v:Int) (U:H):St:=⟨[(2,.int .i64 a),(3,b),(4,.ptr c d),(12,.bool e)],[(10,(10,0))],[(10,[.int .i64 f,.str g,.bool h,.int .i64 i,.int .i64 j,.bool k,.bool l,.bool m,.bool o,.int .i64 p,.int .i64 q,r,s,.int .i64 t,.bool u,.int .i64 v])],U⟩
def AFx (a:Int) (b:V) (c d:Nat) (e:Bool) (f g:Int) (h:BS) (i:Bool) (j k:Int) (l m o p:Bool) (q r:Int) (s t:V) (u:Int) (v:Bool) (w:Int) (U:H):St:=⟨[(2,.int .i64 a),(3,b),(4,.ptr c d),(12,.bool e),(13,.int .i64 f)],[(10,(10,0))],[(10,[.int .i64 g,.str h,.bool i,.int .i64 j,.int .i64 k,.bool l,.bool m,.bool o,.bool p,.int .i64 q,.int .i64 r,s,t,.int .i64 u,.bool v,.int .i64 w])],U⟩
def AGx (E:EB) (D:Ai) (W:AH) (N:Nat):=NX E D W
def mz:=NY E D W (AGx E D W N )
theorem AAb :
 (fun a b c d e f g h i j k l m o p q r s t u v U=>Ay E D W N (LA K0) (AFy a b c d e f g h i j k l m o p q r s t u v U) (JP E) nX (JP E))=mz E D W N:=by
 unfold mz;kernel_rfl
def Vy (n:Nat):Int->V->Nat->Nat->Bool->Int->Int->BS->Bool->Int->Int->Bool->Bool->Bool->Bool->Int->Int->V->V->Int->Bool->Int->H->AF:=
 Nat.rec (fun _ _ _ _ _ _ _ _ _ _ _ _ _ _ _ _ _ _ _ _ _ _ _=>none) (fun _ ih=>Kr E D W (mz E D W N ) ih) n
theorem zi (n:Nat) :
 (fun a b c d e f g h i j k l m o p q r s t u v w U=>BN (fun rec s'=>Ay E D W N Nt s' (kX ADS [10] dF rec) (AKl E D W N (LA K0)) (JP E)) n (AFx a b c d e f g h i j k l m o p q r s t u v w U))=Vy E D W N n:=ADx (fun li=>by rw[<-AAb];generalize LA K0=x0;revert x0;refine id ?_;intros;kernel_rfl) n
def nA:=uk E D W (Vy E D W N N)
theorem AAd :
 (fun a b c d e f g h i j k l m o p q r s t u U=>Ay E D W N (Rv (LA K0) Nt) (AF0 a b c d e f g h i j k l m o p q r s t u U) (JP E) nX (JP E))=nA E D W N:=by
 unfold nA;rw[<-zi];generalize LA K0=x0,Nt=x1;revert x0 x1;refine id ?_;intros;kernel_rfl
def m9 (E:EB) (D:Ai) (W:AH) (N:Nat):=uj E D W
theorem AAc :
 (fun a U=>Ay E D W N cE (AFz a U) (dX E D W N (.keep ADQ [10] dF (Rv (LA K0) Nt)) (JP E) nX (JP E)) nX (JP E))=m9 E D W N:=by
 unfold m9;generalize Rv (LA K0) Nt=x0;revert x0;refine id ?_;intros;kernel_rfl
def nB:=RE E D W (nA E D W N ) (m9 E D W N )
theorem AAe :
 (fun a b c d e f g h U=>Ay E D W N (vy (Rv (LA K0) Nt) cE) (AF1 a b c d e f g h U) (JP E) nX (JP E))=nB E D W N:=by
 unfold nB;rw[<-AAd,<-AAc];generalize Rv (LA K0) Nt=x0,cE=x1;revert x0 x1;refine id ?_;intros;kernel_rfl
def F44 (args:List V) (U:H):AF:=
 Ae args fun a b=>
 CW a fun a=>
 uD a fun a c d e f=>
 uW b fun b g h=>
 nB E D W N a c d e f b g h U
def A44:Dv:=⟨98,[Tz,.i,.i,.any],[(.tmp 8),(.tmp 9)],(vy (Rv (LA K0) Nt) cE)⟩
theorem AMi (args:List V) (U:H):B9 E D W N A44 args U=F44 E D W N args U:=by
 unfold F44;rw[<-AAe];kernel_rfl
def ADP:List (Nat × CZ):=[(0,.any),(2,.i),(7,.any),(8,.any)]
def WJ (E:EB):St->AF:=fun s=>DR E s [(.tmp 6)] fun l=>some (Dh l,s.U)
def AKk (c0:XC):Nat->St->AF:=Bf 0 (dX E D W N (.keep [] [] [] c0) (WJ E) nX (WJ E)) nX
def vx (cc1:XC) (cc2:XC):XC:=(.z (.aT 6 y3)
 (.z (.p 10 [] (.buildSlice 3 0 [] [])<|
.m 7 10<|
.nil)
 (.z (.aC 11 0 1<|
.bT 13 1 11 12 .any<|
.O 15 .one (.append 3 1 8 (.con V.nils) (.t 14))<|
.m 8 15<|
.nil)
 (.seq (.block 0 (.loop ADP [] [] cc2))
 (.keep [] [] [] cc1)))))
def ZR (E:EB) (D:Ai) (W:AH) (K2:V->Int->V->V->H->AF) (a:V) (b c:Int) (U:H):AF:=
 let d:=Br U (.cells []);
 iY E d 1 a b fun e=>
 DV E 1 8 V.nils e d fun d e=>
 CB d (
 K2 a c (V.sl (H.next U) 0 0 (.ex 0)) d e)
def cD:XC:=(.z (.aT 6 y3)
 .ret)
def ZQ (E:EB) (D:Ai) (W:AH) (U:H):AF:=
 rB false U
def cC:XC:=(.seq (.z (.m 16 8<|
.u 17 16<|
.bS 18 17 0)
 (.cond (.tmp 18) .skip
 Jh))
 (.block 1 (.z (.m 19 8<|
.P 20 (.iaddrS 1 (.t 19) (.i 0))<|
.l 21 .i 20<|
.aH 9 21)
 (.z (.m 22 8<|
.p 23 [22] (.sliceSl 1 (.t 22) (some (.i 1)) none none)<|
.aH 8 23)
 (.seq (.z (.aC 24 9 2<|
.b 26 .eql .none (.t 24) (.t 25)<|
.nil)
 (.cond (.tmp 26) (.z (.c 6 (V.bool true)<|
.nil)
 .ret)
 .skip))
 (.z (.bM 27 7 9 .bool 12<|
.bK 30 29)
 (.cond (.tmp 30) (.z (.aC 31 7 9<|
.aX 33 32 3 1 y0 0 1 32 .one 3 1 8 31<|
.aH 7 34)
 (.ops (.aC 35 8 0<|
.m 37 9<|
.bT 38 1 36 37 .any<|
.O 40 .one (.append 3 1 8 (.t 35) (.t 39))<|
.aH 8 40)))
 .skip)))))))
def ZP (E:EB) (D:Ai) (W:AH) (K1:H->AF) (R2:V->Int->V->V->H->AF) (a:V) (b:Int) (c d:V) (U:H):AF:=
 A0 d fun e=>
 AI (Ci (AA 0) (AA e)) (
 AW 1 d (AA 0) fun e f=>
 lI E U e f fun e=>
 gK (Cs 1 d (some (iN 1)) none none) fun f=>
 AI (Bt e b) (
 rB true U) (
 cB (D 12 [c,.int .i64 e] U) fun g h=>
 AI (not g) (
 let g:=Br h (.cells [.int .i64 e]);
 DV E 1 8 c (V.sl (H.next h) 0 1 (.ex 1)) g fun g i=>
 CB g (
 iY E i 1 a e fun e=>
 DV E 1 8 f e i fun e i=>
 CB e (
 R2 a b g e i))) (
 R2 a b c f h))) (
 K1 U)
def AFw (a:V) (b c:Int) (U:H):St:=⟨[(0,a),(1,.int .i64 b),(2,.int .i64 c)],[],[],U⟩
def AFv (a:V) (b:Int) (c d:V) (U:H):St:=⟨[(0,a),(2,.int .i64 b),(7,c),(8,d)],[],[],U⟩
def AGw (E:EB) (D:Ai) (W:AH) (N:Nat):=ZQ E D W
def vC (n:Nat):V->Int->V->V->H->AF:=
 Nat.rec (fun _ _ _ _ _=>none) (fun _ ih=>ZP E D W (AGw E D W N ) ih) n
theorem zh (n:Nat) :
 (fun a b c d U=>BN (fun rec s'=>Ay E D W N cC s' (kX ADP [] [] rec) (AKk E D W N cD) (WJ E)) n (AFv a b c d U))=vC E D W N n:=WU (fun _=>by kernel_rfl) n
def my:=ZR E D W (vC E D W N N)
theorem AAa :
 (fun a b c U=>Ay E D W N (vx cD cC) (AFw a b c U) (WJ E) nX (WJ E))=my E D W N:=by
 unfold my;rw[<-zh];generalize cD=x0,cC=x1;revert x0 x1;refine id ?_;intros;kernel_rfl
def F45 (args:List V) (U:H):AF:=
 uG args fun a b c=>
 my E D W N a b c U
def A45:Dv:=⟨41,[.any,.i,.i],[(.tmp 6)],(vx cD cC)⟩
theorem AMh (args:List V) (U:H):B9 E D W N A45 args U=F45 E D W N args U:=by
 unfold F45;rw[<-AAa];kernel_rfl
def Nk:List BO:=[⟨(some 45),.mov (.tmp 0),none⟩,⟨(some 46),.mov (.tmp 0),none⟩,⟨(some 47),.nilck (.tmp 46),none⟩,⟨(some 48),.faddr 5 (.tmp 47),none⟩,⟨(some 49),.load none (.tmp 48),none⟩,⟨(some 50),.load (some 13) (.tmp 8),none⟩,⟨(some 51),.buildSlice 99 1 [(V.int .i64 (AA 0)),V.nils,(V.bool false),(V.bool false),(V.bool false),(V.bool false),(V.int .i64 (AA 0)),(V.int .i64 (AA 0)),V.nils,V.nils,(V.int .i64 (AA 0)),(V.bool false),(V.int .i64 (AA 0))] [(0,13,(.tmp 50))],none⟩,⟨(some 52),.append 99 13 128 (.tmp 49) (.tmp 51),none⟩,⟨(some 53),.nilck (.tmp 45),none⟩,⟨(some 54),.faddr 5 (.tmp 53),none⟩,⟨none,.store 1 (.tmp 54) (.tmp 52),none⟩]
def Kv:List DP:=[⟨0,[0]⟩,⟨0,[0]⟩,⟨2,[46]⟩,⟨6,[47]⟩,⟨14,[48]⟩,⟨0,[8]⟩,⟨32,[50]⟩,⟨126,[49,51]⟩,⟨255,[45]⟩,⟨511,[53]⟩,⟨1023,[54,52]⟩]
def vS:List BO:=[⟨(some 97),.mov (.tmp 0),none⟩,⟨(some 98),.nilck (.tmp 97),none⟩,⟨(some 99),.faddr 5 (.tmp 98),none⟩,⟨(some 100),.load none (.tmp 99),none⟩,⟨(some 101),.mov (.tmp 7),none⟩,⟨(some 102),.mov (.tmp 0),none⟩,⟨(some 103),.load (some 16) (.tmp 4),none⟩,⟨(some 104),.call 81 [(.tmp 102),(.tmp 103)],none⟩,⟨(some 105),.iaddrS 13 (.tmp 100) (.tmp 101),none⟩,⟨(some 106),.faddr 8 (.tmp 105),none⟩,⟨none,.store 1 (.tmp 106) (.tmp 104),none⟩]
def vL:List DP:=[⟨0,[0]⟩,⟨1,[97]⟩,⟨3,[98]⟩,⟨7,[99]⟩,⟨0,[7]⟩,⟨0,[0]⟩,⟨0,[4]⟩,⟨96,[102,103]⟩,⟨255,[100,101]⟩,⟨511,[105]⟩,⟨1023,[106,104]⟩]
def AIy (cc1:XC):XC:=(.z (.P 4 (.box 111 (.t 1))<|
.aN 6 0)
 (.seq (.z (.m 11 2<|
.b 12 .gtr .none (.t 11) (.i 16)<|
.m 13 12<|
.gO 13 false (.p 14 [0,13] Hy<|
.p 15 [14,13] (.nilck (.t 14))<|
.aJ 16 15 13 5 15 13 13<|
.bQ 19 18 13 18 300) 20 13 19<|
.nil)
 (.cond (.tmp 20) (.z (.m 21 0<|
.k 22 HM 78 [(.t 21),(.i 5)]<|
.nil)
 (.z (.aN 6 0)
 .ret))
 .skip))
 (.z (.aM 23 0<|
.aS 25 5 24<|
.aH 7 27)
 (.z (.aB 28 0 4 .i<|
.f 30 5 4<|
.O 31 T5 (.load (some 6) (.t 30))<|
.aB 32 13 4 .i<|
.aB 34 14 4 .bool<|
.op (some 36) y1 [29,31,33,35] (.build [y0,V.nils,y3,y3,y3,y3,y0,y0,V.nils,V.nils,y0,y3,y0] [(0,1,(.t 29)),(2,6,(.t 31)),(10,1,(.t 33)),(11,1,(.t 35))])<|
.p 8 [] (.alloc 99 [y0,V.nils,y3,y3,y3,y3,y0,y0,V.nils,V.nils,y0,y3,y0])<|
.op none y1 [8,36] (.store 13 (.t 8) (.t 36))<|
.nil)
 (.seq (.z (.aP 37 0 4 9<|
.nil)
 (.cond (.tmp 39) (.ops (.aB 40 0 4 .i<|
.k 42 y8 79 [(.t 41)]<|
.p 43 [42] (.buildSlice 42 1 [y0,y0] [(0,2,(.t 42))])<|
.bH 44 1 8 1 43))
 .skip))
 (.keep [(0,.ptr),(2,.i),(4,.ptr),(7,.i),(8,.ptr)] [] [] cc1))))))
def PW (E:EB) (D:Ai) (W:AH) (K1:Nat->Nat->Int->Nat->Nat->Int->Nat->Nat->H->AF) (a b:Nat) (c:Int) (d:BS) (e:Bool) (f g:Int) (h i j k:Bool) (l m:Int) (o p:V) (q:Int) (r:Bool) (s t:Int) (U:H):AF:=
 Ix (eM c d e f g h i j k l m o p q r s) U fun n=>
 Af (fun u v=>
 AI u (
 c0 (D 78 [.ptr a b,iN 5] v) fun u=>
 rI (AA 0) u) (
 lL E v a (AP b 5) fun u=>
 lI E v (H.next U) 0 fun w=>
 Bv E v (H.next U) 5 6 fun x=>
 uT x fun x y z aa ab ac=>
 lI E v (H.next U) 13 fun ad=>
 lB E v (H.next U) 14 fun ae=>
 let af:=Br v (.cells [iN 0,V.nils,.bool false,.bool false,.bool false,.bool false,iN 0,iN 0,V.nils,V.nils,iN 0,.bool false,iN 0]);
 DX 13 (H.next v) 0 (V.agg [.int .i64 w,V.nils,.bool x,.bool y,.bool z,.bool aa,.int .i64 ab,.int .i64 ac,V.nils,V.nils,.int .i64 ad,.bool ae,iN 0]) af fun w=>
 lI E w (H.next U) 0 fun x=>
 AI (not (Bt x (AA 9))) (
 lI E w (H.next U) 0 fun x=>
 cA (D 79 [.int .i64 x] w) fun x y=>
 uE x fun x z=>
 let aa:=Br y (.cells [.int .i64 x,.int .i64 z]);
 DX 1 (H.next v) 1 (V.sl (H.next y) 0 1 (.ex 1)) aa fun x=>
 K1 a b t (H.next U) 0 (AA u) (H.next v) 0 x) (
 K1 a b t (H.next U) 0 (AA u) (H.next v) 0 w))) fun u=>
 AI (Ci (AA 16) t) (
 u true n) (
 lL E n a (AP b 5) fun v=>
 u (I3 (AA 300) (AA v)) n)
def AIx (cc2:XC) (cc3:XC):XC:=(.seq (.keep [(0,.ptr),(2,.i),(4,.ptr),(7,.i),(8,.ptr)] [] [] (.gdraw Nk Kv [(0,.ptr),(2,.i),(4,.ptr),(7,.i)]))
 (.seq (.z (.aB 55 0 4 .i<|
.nil)
 (.block 0 (.seq (.z (.aD 58 56 2 57)
 (.cond (.tmp 57) .skip
 (.z (.aD 59 56 5 57)
 (.cond (.tmp 57) .skip
 (.z (.aD 60 56 6 57)
 (.cond (.tmp 57) .skip
 (.ops (.aD 61 56 10 57))))))))
 (.keep [(0,.ptr),(2,.i),(4,.ptr),(7,.i),(56,.i),(57,.bool)] [] [] cc3))))
 (.keep [(7,.i)] [] [] cc2)))
def Kq (E:EB) (D:Ai) (W:AH) (K3:Nat->Nat->Int->Nat->Nat->Int->Int->Bool->H->AF) (a b:Nat) (c:Int) (d e:Nat) (f:Int) (g h:Nat) (U:H):AF:=
 Cc (W Nk Kv [(0,.ptr a b),(2,.int .i64 c),(4,.ptr d e),(7,.int .i64 f),(8,.ptr g h)] U) fun i j=>
 BL i 0 fun k=>
 B4 k fun k l=>
 BL i 2 fun m=>
 Ch .i64 m fun m=>
 BL i 4 fun n=>
 B4 n fun n o=>
 BL i 7 fun i=>
 Ch .i64 i fun i=>
 lI E j n o fun p=>
 AI (Bt p (AA 2)) (
 K3 k l m n o i p (Bt p (AA 2)) j) (
 AI (Bt p (AA 5)) (
 K3 k l m n o i p (Bt p (AA 5)) j) (
 AI (Bt p (AA 6)) (
 K3 k l m n o i p (Bt p (AA 6)) j) (
 K3 k l m n o i p (Bt p (AA 10)) j)))
def AIw:XC:=(.z (.m 116 7<|
.aH 6 116)
 .ret)
def FR (E:EB) (D:Ai) (W:AH) (a:Int) (U:H):AF:=
 rI a U
def AIv (cc4:XC) (cc5:XC):XC:=(.cond (.tmp 57) (.z (.f 62 5 4<|
.O 63 T5 (.load (some 6) (.t 62))<|
.aP 64 0 4 2<|
.k 67 .i 80 [(.t 63),(.t 66)]<|
.aH 9 67)
 (.seq (.z (.bF 68 9 0<|
.nil)
 (.cond (.tmp 69) (.ops (.aC 70 0 9<|
.k 72 HM 78 [(.t 70),(.t 71)]<|
.nil))
 .skip))
 (.keep [(0,.ptr),(2,.i),(4,.ptr),(7,.i)] [] [] cc4)))
 (.z (.aD 96 56 3 95)
 (.cond (.tmp 95) (.keep [(0,.ptr),(4,.ptr),(7,.i)] [] [] (.gdraw vS vL [(7,.i)]))
 (.seq (.z (.aD 108 56 7 107)
 (.cond (.tmp 107) .skip
 (.z (.aD 109 56 8 107)
 (.cond (.tmp 107) .skip
 (.ops (.aD 110 56 9 107))))))
 (.keep [(0,.ptr),(2,.i),(4,.ptr),(7,.i),(107,.bool)] [] [] cc5)))))
def Kp (K2:Int->H->AF) (K4:Nat->Nat->Int->Nat->Nat->Int->H->AF) (K5:Nat->Nat->Int->Nat->Nat->Int->Bool->H->AF) (a b:Nat) (c:Int) (d e:Nat) (f g:Int) (h:Bool) (U:H):AF:=
 AI h (
 Bv E U d (AP e 5) 6 fun i=>
 uT i fun i j k l m n=>
 lI E U d e fun o=>
 cI (D 80 [.agg (eT i j k l m n),.bool (not (Bt o (AA 2)))] U) fun i j=>
 AI (not (Bt i (AA 0))) (
 c0 (D 78 [.ptr a b,.int .i64 i] j) fun i=>
 K4 a b c d e f i) (
 K4 a b c d e f j)) (
 AI (Bt g (AA 3)) (
 Cc (W vS vL [(0,.ptr a b),(4,.ptr d e),(7,.int .i64 f)] U) fun i j=>
 BL i 7 fun i=>
 Ch .i64 i fun i=>
 K2 i j) (
 AI (Bt g (AA 7)) (
 K5 a b c d e f (Bt g (AA 7)) U) (
 AI (Bt g (AA 8)) (
 K5 a b c d e f (Bt g (AA 8)) U) (
 K5 a b c d e f (Bt g (AA 9)) U))))
def AIu:XC:=(.z (.aK 73 0 4 10<|
.nil)
 (.cond (.tmp 75) (.z (.m 76 0<|
.aB 77 15 4 .i<|
.m 79 2<|
.b 80 .add .none (.t 79) (.i 1)<|
.k 81 .i 27 [(.t 76),(.t 78),(.t 80)]<|
.aH 10 81)
 (.z (.aM 82 0<|
.aK 84 6 83 0<|
.nil)
 (.cond (.tmp 86) (.ops (.aM 87 0<|
.aB 89 5 88 .any<|
.aC 91 7 10<|
.s 93 13 90 91<|
.bH 94 12 93 1 92))
 .skip)))
 .skip))
def MR (E:EB) (D:Ai) (W:AH) (K2:Int->H->AF) (a b:Nat) (c:Int) (d e:Nat) (f:Int) (U:H):AF:=
 lI E U d e fun g=>
 AI (Bt g (AA 10)) (
 lI E U d (AP e 15) fun g=>
 cI (D 27 [.ptr a b,.int .i64 g,.int .i64 (Ba .i64 c (AA 1))] U) fun g h=>
 lI E h a (AP b 6) fun i=>
 AI (Bt i (AA 0)) (
 EG E h a (AP b 5) fun i=>
 AW 13 i f fun i j=>
 DX 1 i (AP j 12) (V.int .i64 g) h fun g=>
 K2 f g) (
 K2 f h)) (
 K2 f U)
def AIt:XC:=(.cond (.tmp 107) (.ops (.aC 111 0 7<|
.bW 113 y4 16 4 2<|
.k 115 HM 82 [(.t 111),(.t 112),(.t 113),(.t 114)]<|
.nil))
 .skip)
def NW (E:EB) (D:Ai) (W:AH) (K2:Int->H->AF) (a b:Nat) (c:Int) (d e:Nat) (f:Int) (g:Bool) (U:H):AF:=
 AI g (
 Bv E U d e 16 fun h=>
 uM h fun h i j k l m n o p q r s t u v w=>
 c0 (D 82 [.ptr a b,.int .i64 f,.agg (eM h i j k l m n o p q r s t u v w),.int .i64 c] U) fun h=>
 K2 f h) (
 K2 f U)
def mw (E:EB) (D:Ai) (W:AH) (N:Nat):=FR E D W
def AGt:=MR E D W (mw E D W N )
def AGs:=NW E D W (mw E D W N )
def AGu:=Kp E D W (mw E D W N ) (AGt E D W N ) (AGs E D W N )
def AGv:=Kq E D W (AGu E D W N )
def F47 (args:List V) (U:H):AF:=
 Ae args fun a b=>
 B4 a fun a c=>
 Ae b fun b d=>
 CW b fun b=>
 uM b fun b e f g h i j k l m n o p q r s=>
 Dy .i64 d fun d t=>
 BJ t (
 PW E D W (AGv E D W N ) a c b e f g h i j k l m n o p q r s d U)
def A47:Dv:=⟨117,[.ptr,y4,.i],[(.tmp 6)],(AIy (AIx AIw (AIv AIu AIt)))⟩
theorem AMg (args:List V) (U:H):B9 E D W N A47 args U=F47 E D W N args U:=by kernel_rfl
def AIs:XC:=(.z (.aN 4 0)
 (.seq (.z (.aM 5 0<|
.aZ 7 5 6 1<|
.s 10 13 8 9<|
.aS 11 1 10<|
.bS 14 13 0)
 (.cond (.tmp 14) (.z (.aN 4 1)
 .ret)
 .skip))
 (.z (.aN 4 0)
 .ret)))
def kU (E:EB) (D:Ai) (W:AH) (a b:Nat) (c:Int) (U:H):AF:=
 EG E U a (AP b 5) fun d=>
 AW 13 d c fun d e=>
 lL E U d (AP e 1) fun d=>
 AI (Ci (AA 0) (AA d)) (
 rI (AA 1) U) (
 rI (AA 0) U)
def F48 (N:Nat) (args:List V) (U:H):AF:=
 uK args fun a b c=>
 kU E D W a b c U
def A48:Dv:=⟨15,[.ptr,.i],[(.tmp 4)],AIs⟩
theorem AMf (args:List V) (U:H):B9 E D W N A48 args U=F48 E D W N args U:=by kernel_rfl
def AIr:XC:=(.seq (.z (.aM 10 0<|
.aP 12 6 11 0<|
.nil)
 (.cond (.tmp 14) .ret
 .skip))
 (.z (.aM 16 0<|
.aZ 18 5 17 1<|
.s 21 13 19 20<|
.aB 22 1 21 .any<|
.aC 24 2 3<|
.k 26 (.tup [.any,.i]) 83 [(.t 23),(.t 24),(.t 25)]<|
.m 15 26<|
.aG 27 0 15 1 15<|
.aC 8 27 28<|
.nil)
 (.seq (.z (.bF 29 9 0<|
.nil)
 (.cond (.tmp 30) (.z (.aC 31 0 9<|
.k 33 HM 78 [(.t 31),(.t 32)]<|
.nil)
 .ret)
 .skip))
 (.ops (.aM 34 0<|
.aB 36 5 35 .any<|
.aC 38 1 8<|
.s 40 13 37 38<|
.bH 41 1 40 1 39)))))
def kT (E:EB) (D:Ai) (W:AH) (a b:Nat) (c d e:Int) (U:H):AF:=
 lI E U a (AP b 6) fun f=>
 AI (not (Bt f (AA 0))) (
 r0 U) (
 EG E U a (AP b 5) fun f=>
 AW 13 f c fun f g=>
 EG E U f (AP g 1) fun f=>
 cT (D 83 (eG f d e) U) fun f g=>
 uC f fun f h=>
 AI (not (Bt h (AA 0))) (
 c0 (D 78 [.ptr a b,.int .i64 h] g) fun h=>
 r0 h) (
 EG E g a (AP b 5) fun h=>
 AW 13 h c fun h i=>
 DX 1 h (AP i 1) f g fun f=>
 r0 f))
def F49 (N:Nat) (args:List V) (U:H):AF:=
 uX args fun a b c d e=>
 kT E D W a b c d e U
def A49:Dv:=⟨42,[.ptr,.i,.i,.i],[],AIr⟩
theorem AMe (args:List V) (U:H):B9 E D W N A49 args U=F49 E D W N args U:=by kernel_rfl
def AIp:XC:=(.z (.P 2 (.box 37 (.t 0))<|
.aT 4 y3)
 (.z (.m 5 1<|
.b 6 .and .none (.t 5) (.i 1)<|
.b 7 .neq .none (.t 6) (.i 0)<|
.m 8 7<|
.gO 8 false (.aE 9 2 8 1 2 8<|
.aV 11 10 8 10 0) 12 8 11<|
.m 13 12<|
.gA 13 true (.p 14 [1,13] Ji<|
.p 15 [14,13] (.bin .and .none (.t 14) (.i 2))<|
.p 16 [15,13] (.bin .neq .none (.t 15) (.i 0))<|
.p 17 [16,13] (.mov (.t 16))<|
.grp 17 false (.p 18 [2,17] (.faddr 2 (.t 2))<|
.p 19 [18,17] (.load none (.t 18))<|
.p 20 [19,17] (.len false (.t 19))<|
.aV 21 20 17 20 0) 22 [17,21,13] (.t 17) Me (.t 21)<|
.nil) 23 13 22<|
.m 24 23<|
.gA 24 true (.p 25 [1,24] Ji<|
.p 26 [25,24] (.bin .and .none (.t 25) (.i 4))<|
.p 27 [26,24] (.bin .neq .none (.t 26) (.i 0))<|
.p 28 [27,24] (.mov (.t 27))<|
.grp 28 false (.p 29 [2,28] (.faddr 3 (.t 2))<|
.p 30 [29,28] (.load none (.t 29))<|
.p 31 [30,28] (.len false (.t 30))<|
.aV 32 31 28 31 0) 33 [28,32,24] (.t 28) Me (.t 32)<|
.nil) 34 24 33<|
.m 35 34<|
.gA 35 true (.p 36 [1,35] Ji<|
.p 37 [36,35] (.bin .and .none (.t 36) (.i 8))<|
.p 38 [37,35] (.bin .neq .none (.t 37) (.i 0))<|
.p 39 [38,35] (.mov (.t 38))<|
.grp 39 false (.p 40 [2,39] (.faddr 4 (.t 2))<|
.op (some 41) .i [40,39] (.load none (.t 40))<|
.bD 42 41 39 41 0 39<|
.grp 43 true (.p 44 [2,43] (.faddr 5 (.t 2))<|
.p 45 [44,43] (.load none (.t 44))<|
.p 46 [45,43] (.len false (.t 45))<|
.aV 47 46 43 46 0) 48 [43,47,39] (.t 43) (.t 47) Qa<|
.nil) 49 [39,48,35] (.t 39) Me (.t 48)<|
.nil) 50 35 49<|
.aH 4 50)
 .ret))
def kP (E:EB) (D:Ai) (W:AH) (a b:Int) (c d:V) (e:Int) (f:V) (g:Int) (U:H):AF:=
 Ix (eB a b c d e f) U fun h=>
 Af (fun i j=>
 Af (fun k l=>
 Af (fun m n=>
 Af (fun o p=>
 rB o p) fun o=>
 AI m (
 Af (fun m p=>
 o m p) fun m=>
 AI (not (Bt (JE .i64 g (AA 8)) (AA 0))) (
 m true n) (
 lI E n (H.next U) 4 fun p=>
 Af (fun q r=>
 m q r) fun m=>
 AI (Bt p (AA 0)) (
 lL E n (H.next U) 5 fun p=>
 m (Bt (AA p) (AA 0)) n) (
 m false n))) (
 o false n)) fun m=>
 AI k (
 Af (fun k n=>
 m k n) fun k=>
 AI (not (Bt (JE .i64 g (AA 4)) (AA 0))) (
 k true l) (
 lL E l (H.next U) 3 fun n=>
 k (Bt (AA n) (AA 0)) l)) (
 m false l)) fun k=>
 AI i (
 Af (fun i l=>
 k i l) fun i=>
 AI (not (Bt (JE .i64 g (AA 2)) (AA 0))) (
 i true j) (
 lL E j (H.next U) 2 fun l=>
 i (Bt (AA l) (AA 0)) j)) (
 k false j)) fun i=>
 AI (not (Bt (JE .i64 g (AA 1)) (AA 0))) (
 i true h) (
 lI E h (H.next U) 1 fun j=>
 i (Bt j (AA 0)) h)
def F51 (N:Nat) (args:List V) (U:H):AF:=
 Ae args fun a b=>
 CW a fun a=>
 uB a fun a c d e f g=>
 Dy .i64 b fun b h=>
 BJ h (
 kP E D W a c d e f g b U)
def A51:Dv:=⟨51,[y2,.i],[(.tmp 4)],AIp⟩
theorem AMd (args:List V) (U:H):B9 E D W N A51 args U=F51 E D W N args U:=by kernel_rfl
def AIo:XC:=(.z (.P 2 (.box 95 (.t 0))<|
.aT 4 y3)
 (.z (.aB 5 0 2 .bool<|
.bZ 7 6<|
.gO 8 false (.aO 9 2 8 1 2 8<|
.bX 11 10 8 10 8<|
.grp 12 false (.p 13 [1,12] Ji<|
.aE 14 2 12 4 2 12<|
.p 16 [13,15,12] (.bin .geq .none (.t 13) (.t 15))<|
.nil) 17 [12,16,8] (.t 12) Me (.t 16)<|
.p 18 [17,8] (.mov (.t 17))<|
.grp 18 true (.p 19 [2,18] (.faddr 2 (.t 2))<|
.op (some 20) .bool [19,18] (.load none (.t 19))<|
.bX 21 20 18 20 18<|
.grp 22 false (.p 23 [1,22] Ji<|
.aE 24 2 22 5 2 22<|
.p 26 [23,25,22] (.bin .leq .none (.t 23) (.t 25))<|
.nil) 27 [22,26,18] (.t 22) Me (.t 26)<|
.nil) 28 [18,27,8] (.t 18) (.t 27) Qa<|
.nil) 29 8 28<|
.aH 4 29)
 .ret))
def kO (E:EB) (D:Ai) (W:AH) (a b c d:Bool) (e f g:Int) (U:H):AF:=
 Ix (eT a b c d e f) U fun h=>
 lB E h (H.next U) 0 fun i=>
 Af (fun j k=>
 rB j k) fun j=>
 AI (not i) (
 j true h) (
 lB E h (H.next U) 1 fun i=>
 Af (fun k l=>
 Af (fun m n=>
 j m n) fun j=>
 AI k (
 lB E l (H.next U) 2 fun k=>
 Af (fun m n=>
 j m n) fun m=>
 AI (not k) (
 m true l) (
 lI E l (H.next U) 5 fun k=>
 m (I3 g k) l)) (
 j false l)) fun j=>
 AI (not i) (
 j true h) (
 lI E h (H.next U) 4 fun i=>
 j (I3 i g) h))
def F52 (N:Nat) (args:List V) (U:H):AF:=
 Ae args fun a b=>
 CW a fun a=>
 uT a fun a c d e f g=>
 Dy .i64 b fun b h=>
 BJ h (
 kO E D W a c d e f g b U)
def A52:Dv:=⟨30,[T5,.i],[(.tmp 4)],AIo⟩
theorem AMc (args:List V) (U:H):B9 E D W N A52 args U=F52 E D W N args U:=by kernel_rfl
def qD:List (Nat × List CZ):=[(9,[.i,.any,.bool,.bool,.bool,.bool,.i,.i,.any,.any,.i,.bool,.i])]
def qC:List (Nat × CZ):=[(0,.ptr),(1,.i),(3,.i),(6,.ptr),(42,.any),(43,.i),(44,.i)]
def ADO:List (Nat × CZ):=[(0,.ptr),(1,.i),(6,.ptr)]
def Rd (E:EB):St->AF:=fun s=>DR E s [(.tmp 8)] fun l=>some (Dh l,s.U)
def AEN (c0:XC):Nat->St->AF:=Bf 0 (dX E D W N (.keep ADO [] [] c0) (Rd E) nX (Rd E)) nX
def vw (cc1:XC) (cc2:XC):XC:=(.z (.P 6 (.box 37 (.t 2))<|
.aT 8 y3)
 (.z (.aM 13 0<|
.f 15 0 14<|
.f 16 0 15<|
.aZ 17 3 16 1<|
.aL 20 13 18 19 y1 13<|
.pal 9 [] 99 [y0,V.nils,y3,y3,y3,y3,y0,y0,V.nils,V.nils,y0,y3,y0]<|
.op none y1 [9,21] (.store 13 (.t 9) (.t 21))<|
.nil)
 (.seq (.z (.bV 22 y2 6 6 .bool 51 12<|
.bZ 24 23<|
.gO 25 false (.aJ 26 6 25 3 6 25 25<|
.aJ 29 9 25 9 9 25 25<|
.p 32 [28,31,25] (.bin .neq .none (.t 28) (.t 31))<|
.nil) 33 25 32<|
.m 34 33<|
.gO 34 false (.p 35 [0,34] Hy<|
.p 36 [1,34] Ji<|
.op (some 37) y2 [6,34] (.load (some 6) (.t 6))<|
.op (some 38) .bool [35,36,37,34] (.call 90 [(.t 35),(.t 36),(.t 37)])<|
.bG 39 38 34 38) 40 34 39<|
.nil)
 (.cond (.tmp 40) (.z (.aT 8 y3)
 .ret)
 .skip))
 (.seq (.z (.aS 41 9 9<|
.aN 44 0)
 (.block 0 (.loop qC [9] qD cc2)))
 (.keep ADO [] [] cc1)))))
def kN (E:EB) (D:Ai) (W:AH) (K2:Nat->Nat->Int->Int->Nat->Nat->V->Int->Int->Int->V->Bool->Bool->Bool->Bool->Int->Int->V->V->Int->Bool->Int->H->AF) (a b:Nat) (c d e:Int) (f g:V) (h:Int) (i:V) (j:Int) (U:H):AF:=
 Ix (eB d e f g h i) U fun k=>
 jX E k a (AP b 3) 13 c fun l=>
 uJ l fun l m n o p q r s t u v w x=>
 GK (An (eJ l m n o p q r s t u v w x)) (
 Bv E k (H.next U) 0 6 fun y=>
 uB y fun y z aa ab ac ad=>
 cB (D 51 [.agg (eB y z aa ab ac ad),iN 12] k) fun k y=>
 Af (fun z aa=>
 Af (fun ab ac=>
 AI ab (
 rB false ac) (
 A0 u fun ab=>
 K2 a b c j (H.next U) 0 u (AA ab) (AA 0) l m n o p q r s t u v w x ac)) fun l=>
 AI z (
 l true aa) (
 Bv E aa (H.next U) 0 6 fun m=>
 uB m fun m n o p q r=>
 cB (D 90 [.ptr a b,.int .i64 c,.agg (eB m n o p q r)] aa) fun m n=>
 l (not m) n)) fun l=>
 AI (not k) (
 l true y) (
 lL E y (H.next U) 3 fun k=>
 A0 u fun m=>
 l (not (Bt (AA k) (AA m))) y))
def Ru:XC:=(.z (.aC 87 0 1<|
.O 89 y2 (.load (some 6) (.t 6))<|
.k 90 .bool 93 [(.t 87),(.t 88),(.t 89)]<|
.aH 8 90)
 .ret)
def kM (E:EB) (D:Ai) (W:AH) (a b:Nat) (c:Int) (d e:Nat) (U:H):AF:=
 Bv E U d e 6 fun f=>
 uB f fun f g h i j k=>
 cB (D 93 [.ptr a b,.int .i64 c,.agg (eB f g h i j k)] U) fun f g=>
 rB f g
def b9 (cc3:XC):XC:=(.z (.aF 45 44 43)
 (.seq (.cond (.tmp 45) .skip
 Jh)
 (.seq (.block 1 (.z (.m 46 44<|
.aL 47 11 42 44 y9 11<|
.pal 11 [] 102 [y5,y0,y3,y3,y0,y0,V.nils,V.nils,y0,V.nils,y0]<|
.m 10 46<|
.op none y9 [11,48] (.store 11 (.t 11) (.t 48))<|
.nil)
 (.z (.aZ 49 3 6 10<|
.aL 52 6 50 51 y2 6<|
.pal 12 [] 37 [y0,y0,V.nils,V.nils,y0,V.nils]<|
.op none y2 [12,53] (.store 6 (.t 12) (.t 53))<|
.nil)
 (.block 2 (.z (.aB 55 0 12 .i<|
.aD 57 56 0 54)
 (.cond (.tmp 54) (.z (.O 58 y2 (.load (some 6) (.t 12))<|
.k 59 .bool 61 [(.t 58)]<|
.bZ 60 59<|
.gO 61 false (.op (some 62) y1 [9,61] (.load (some 13) (.t 9))<|
.p 63 [10,61] (.mov (.t 10))<|
.op (some 64) .bool [62,63,61] (.call 91 [(.t 62),(.t 63)])<|
.bG 65 64 61 64) 66 61 65<|
.nil)
 (.cond (.tmp 66) (.z (.aT 8 y3)
 .ret)
 .skip))
 (.z (.m 68 0<|
.aB 69 1 11 .i<|
.bW 71 y2 6 12 3<|
.b 73 .add .none (.t 72) (.i 1)<|
.k 74 .bool 30 [(.t 68),(.t 70),(.t 71),(.t 73)]<|
.bZ 75 74<|
.gO 76 false (.aO 77 11 76 3 11 76<|
.p 79 [78,76] (.mov (.t 78))<|
.grp 79 true (.op (some 80) y2 [12,79] (.load (some 6) (.t 12))<|
.p 81 [11,79] (.faddr 4 (.t 11))<|
.op (some 82) y2 [81,79] (.load (some 6) (.t 81))<|
.op (some 83) .bool [80,82,79] (.call 92 [(.t 80),(.t 82)])<|
.nil) 84 [79,83,76] (.t 79) (.t 83) Qa<|
.nil) 85 76 84<|
.aH 67 85)
 (.cond (.tmp 67) (.z (.aT 8 y3)
 .ret)
 .skip))))))))
 (.keep qC [9] qD cc3))))
def RD (E:EB) (D:Ai) (W:AH) (K1:Nat->Nat->Int->Nat->Nat->H->AF) (K3:Nat->Nat->Int->Int->Nat->Nat->V->Int->Int->Int->V->Bool->Bool->Bool->Bool->Int->Int->V->V->Int->Bool->Int->H->AF) (a b:Nat) (c d:Int) (e f:Nat) (g:V) (h i j:Int) (k:V) (l m o p:Bool) (q r:Int) (s t:V) (u:Int) (v:Bool) (w:Int) (U:H):AF:=
 AI (Ci i h) (
 iX E U 11 g i fun n=>
 uY n fun n x y z aa ab ac ad ae af ag=>
 GK (An (eY n x y z aa ab ac ad ae af ag)) (
 jX E U e (AP f 3) 6 i fun n=>
 uB n fun n y ag ah ai aj=>
 GK (An (eB n y ag ah ai aj)) (
 AI (Bt n (AA 0)) (
 cB (D 61 [.agg (eB n y ag ah ai aj)] U) fun ak al=>
 Af (fun am an=>
 AI am (
 rB false an) (
 K3 a b c d e f g h i j k l m o p q r s t u v w an)) fun am=>
 AI (not ak) (
 am true al) (
 cB (D 91 [.agg (eJ j k l m o p q r s t u v w),.int .i64 i] al) fun ak al=>
 am (not ak) al)) (
 cB (D 30 [.ptr a b,.int .i64 x,.agg (eB n y ag ah ai aj),.int .i64 (Ba .i64 d (AA 1))] U) fun x ak=>
 Af (fun al am=>
 AI al (
 rB false am) (
 K3 a b c d e f g h i j k l m o p q r s t u v w am)) fun al=>
 AI (not x) (
 al true ak) (
 Af (fun x am=>
 al x am) fun x=>
 AI z (
 cB (D 92 [.agg (eB n y ag ah ai aj),.agg (eB aa ab ac ad ae af)] ak) fun n y=>
 x n y) (
 x false ak)))))) (
 K1 a b c e f U)
def Rt:XC:=(.ops (.aA 86 44 1 44))
def kL (E:EB) (D:Ai) (W:AH) (R2:Nat->Nat->Int->Int->Nat->Nat->V->Int->Int->Int->V->Bool->Bool->Bool->Bool->Int->Int->V->V->Int->Bool->Int->H->AF) (a b:Nat) (c d:Int) (e f:Nat) (g:V) (h i j:Int) (k:V) (l m o p:Bool) (q r:Int) (s t:V) (u:Int) (v:Bool) (w:Int) (U:H):AF:=
 R2 a b c d e f g h (Ba .i64 i (AA 1)) j k l m o p q r s t u v w U
def AFu (a b:Nat) (c d e:Int) (f g:V) (h:Int) (i:V) (j:Int) (U:H):St:=⟨[(0,.ptr a b),(1,.int .i64 c),(2,.agg [.int .i64 d,.int .i64 e,f,g,.int .i64 h,i]),(3,.int .i64 j)],[],[],U⟩
def lV (a b:Nat) (c d:Int) (e f:Nat) (g:V) (h i j:Int) (k:V) (l m o p:Bool) (q r:Int) (s t:V) (u:Int) (v:Bool) (w:Int) (U:H):St:=⟨[(0,.ptr a b),(1,.int .i64 c),(3,.int .i64 d),(6,.ptr e f),(42,g),(43,.int .i64 h),(44,.int .i64 i)],[(9,(9,0))],[(9,[.int .i64 j,k,.bool l,.bool m,.bool o,.bool p,.int .i64 q,.int .i64 r,s,t,.int .i64 u,.bool v,.int .i64 w])],U⟩
def mm (E:EB) (D:Ai) (W:AH) (N:Nat):=kM E D W
def mj (E:EB) (D:Ai) (W:AH) (N:Nat) (R2:Nat->Nat->Int->Int->Nat->Nat->V->Int->Int->Int->V->Bool->Bool->Bool->Bool->Int->Int->V->V->Int->Bool->Int->H->AF):=kL E D W R2
theorem AAY (li2:St->AF) :
 (fun a b c d e f g h i j k l m o p q r s t u v w U=>Ay E D W N Rt (lV a b c d e f g h i j k l m o p q r s t u v w U) (kX qC [9] qD li2) (AEN E D W N Ru) (Rd E))=mj E D W N (fun a b c d e f g h i j k l m o p q r s t u v w U=>li2 (lV a b c d e f g h i j k l m o p q r s t u v w U)):=by
 unfold mj;generalize Ru=x0;revert x0;refine id ?_;intros;kernel_rfl
def Zy (n:Nat):Nat->Nat->Int->Int->Nat->Nat->V->Int->Int->Int->V->Bool->Bool->Bool->Bool->Int->Int->V->V->Int->Bool->Int->H->AF:=
 Nat.rec (fun _ _ _ _ _ _ _ _ _ _ _ _ _ _ _ _ _ _ _ _ _ _ _=>none) (fun _ ih=>RD E D W (mm E D W N ) (mj E D W N ih)) n
theorem zg (n:Nat) :
 (fun a b c d e f g h i j k l m o p q r s t u v w U=>BN (fun rec s'=>Ay E D W N (b9 Rt) s' (kX qC [9] qD rec) (AEN E D W N Ru) (Rd E)) n (lV a b c d e f g h i j k l m o p q r s t u v w U))=Zy E D W N n:=ADx (fun li=>by rw[<-AAY];generalize Rt=x0;revert x0;refine id ?_;intros;kernel_rfl) n
def mn:=kN E D W (Zy E D W N N)
theorem AAZ :
 (fun a b c d e f g h i j U=>Ay E D W N (vw Ru (b9 Rt)) (AFu a b c d e f g h i j U) (Rd E) nX (Rd E))=mn E D W N:=by
 unfold mn;rw[<-zg];generalize b9 Rt=x0,Ru=x1;revert x0 x1;refine id ?_;intros;kernel_rfl
def F56 (args:List V) (U:H):AF:=
 Ae args fun a b=>
 B4 a fun a c=>
 Dy .i64 b fun b d=>
 Ae d fun d e=>
 CW d fun d=>
 uB d fun d f g h i j=>
 Dy .i64 e fun e k=>
 BJ k (
 mn E D W N a c b d f g h i j e U)
def A56:Dv:=⟨91,[.ptr,.i,y2,.i],[(.tmp 8)],(vw Ru (b9 Rt))⟩
theorem AMb (args:List V) (U:H):B9 E D W N A56 args U=F56 E D W N args U:=by
 unfold F56;rw[<-AAZ];kernel_rfl
def ADN:List (Nat × CZ):=[(0,.any),(1,.any),(7,.i),(8,.i)]
def WI (E:EB):St->AF:=fun s=>DR E s [(.tmp 4)] fun l=>some (Dh l,s.U)
def AKj (c0:XC):Nat->St->AF:=Bf 0 (dX E D W N (.keep [] [] [] c0) (WI E) nX (WI E)) nX
def vv (cc1:XC) (cc2:XC):XC:=(.z (.aN 4 0)
 (.seq (.z (.m 6 0<|
.u 7 6<|
.aN 8 0)
 (.block 0 (.loop ADN [] [] cc2)))
 (.keep [] [] [] cc1)))
def kK (E:EB) (D:Ai) (W:AH) (K2:V->V->Int->Int->H->AF) (a b:V) (U:H):AF:=
 A0 a fun c=>
 K2 a b (AA c) (AA 0) U
def bz:XC:=(.z (.aT 4 fS)
 .ret)
def AE3 (E:EB) (D:Ai) (W:AH) (U:H):AF:=
 rI (Az 0) U
def bw:XC:=(.z (.aF 9 8 7)
 (.seq wL
 (.seq (.block 1 (.z (.m 10 8<|
.m 5 10<|
.nil)
 (.z (.aC 11 1 0<|
.m 13 5<|
.aL 14 6 12 13 y2 6<|
.O 16 .bool (.callv (.t 11) [(.t 15)])<|
.nil)
 (.cond (.tmp 16) (.z (.m 17 5<|
.aH 4 17)
 .ret)
 .skip))))
 (.ops (.aA 18 8 1 8)))))
def Ve (E:EB) (D:Ai) (W:AH) (K1:H->AF) (R2:V->V->Int->Int->H->AF) (a b:V) (c d:Int) (U:H):AF:=
 AI (Ci d c) (
 iX E U 6 a d fun e=>
 uB e fun e f g h i j=>
 M1 D b [.agg (eB e f g h i j)] U fun e f=>
 Ct e fun e=>
 AI e (
 rI d f) (
 R2 a b c (Ba .i64 d (AA 1)) f)) (
 K1 U)
def AFt (a b:V) (U:H):St:=⟨[(0,a),(1,b)],[],[],U⟩
def AFs (a b:V) (c d:Int) (U:H):St:=⟨[(0,a),(1,b),(7,.int .i64 c),(8,.int .i64 d)],[],[],U⟩
def AGq (E:EB) (D:Ai) (W:AH) (N:Nat):=AE3 E D W
def Vx (n:Nat):V->V->Int->Int->H->AF:=
 Nat.rec (fun _ _ _ _ _=>none) (fun _ ih=>Ve E D W (AGq E D W N ) ih) n
theorem zf (n:Nat) :
 (fun a b c d U=>BN (fun rec s'=>Ay E D W N bw s' (kX ADN [] [] rec) (AKj E D W N bz) (WI E)) n (AFs a b c d U))=Vx E D W N n:=WU (fun _=>by kernel_rfl) n
def mh:=kK E D W (Vx E D W N N)
theorem AAX :
 (fun a b U=>Ay E D W N (vv bz bw) (AFt a b U) (WI E) nX (WI E))=mh E D W N:=by
 unfold mh;rw[<-zf];generalize bz=x0,bw=x1;revert x0 x1;refine id ?_;intros;kernel_rfl
def F57 (args:List V) (U:H):AF:=
 uF args fun a b=>
 mh E D W N a b U
def A57:Dv:=⟨19,[.any,.any],[(.tmp 4)],(vv bz bw)⟩
theorem AMa (args:List V) (U:H):B9 E D W N A57 args U=F57 E D W N args U:=by
 unfold F57;rw[<-AAX];kernel_rfl
def ADM:List (Nat × CZ):=[(3,.any),(6,.any),(7,.i),(8,.i)]
def WH (E:EB):St->AF:=fun s=>DR E s [(.tmp 2)] fun l=>some (Dh l,s.U)
def AKi (c0:XC):Nat->St->AF:=Bf 0 (dX E D W N (.keep [(3,.any)] [] [] c0) (WH E) nX (WH E)) nX
def vu (cc1:XC) (cc2:XC):XC:=(.z (.aW 2)
 (.z (.aW 3)
 (.seq (.z (.m 6 0<|
.u 7 6<|
.aN 8 0)
 (.block 0 (.loop ADM [] [] cc2)))
 (.keep [(3,.any)] [] [] cc1))))
def kJ (E:EB) (D:Ai) (W:AH) (K2:V->V->Int->Int->H->AF) (a:V) (U:H):AF:=
 A0 a fun b=>
 K2 V.nils a (AA b) (AA 0) U
def bt:XC:=(.z (.m 16 3<|
.aH 2 16)
 .ret)
def AE2 (E:EB) (D:Ai) (W:AH) (a:V) (U:H):AF:=
 some (a,U)
def bs:XC:=(.z (.aF 9 8 7)
 (.seq wL
 (.seq (.block 1 (.z (.bT 10 1 6 8 .any<|
.m 5 11<|
.nil)
 (.ops (.aC 12 3 5<|
.O 14 .one (.append 5 1 1 (.t 12) (.t 13))<|
.aH 3 14))))
 (.ops (.aA 15 8 1 8)))))
def Vd (E:EB) (D:Ai) (W:AH) (K1:V->H->AF) (R2:V->V->Int->Int->H->AF) (a b:V) (c d:Int) (U:H):AF:=
 AI (Ci d c) (
 iY E U 1 b d fun e=>
 DV E 1 1 a e U fun e f=>
 CB e (
 R2 e b c (Ba .i64 d (AA 1)) f)) (
 K1 a U)
def AFr (a:V) (U:H):St:=⟨[(0,a)],[],[],U⟩
def AFq (a b:V) (c d:Int) (U:H):St:=⟨[(3,a),(6,b),(7,.int .i64 c),(8,.int .i64 d)],[],[],U⟩
def AGp (E:EB) (D:Ai) (W:AH) (N:Nat):=AE2 E D W
def Zx (n:Nat):V->V->Int->Int->H->AF:=
 Nat.rec (fun _ _ _ _ _=>none) (fun _ ih=>Vd E D W (AGp E D W N ) ih) n
theorem ze (n:Nat) :
 (fun a b c d U=>BN (fun rec s'=>Ay E D W N bs s' (kX ADM [] [] rec) (AKi E D W N bt) (WH E)) n (AFq a b c d U))=Zx E D W N n:=WU (fun _=>by kernel_rfl) n
def mg:=kJ E D W (Zx E D W N N)
theorem AAW :
 (fun a U=>Ay E D W N (vu bt bs) (AFr a U) (WH E) nX (WH E))=mg E D W N:=by
 unfold mg;rw[<-ze];generalize bt=x0,bs=x1;revert x0 x1;refine id ?_;intros;kernel_rfl
def F58 (args:List V) (U:H):AF:=
 Ae args fun a b=>
 BJ b (
 mg E D W N a U)
def A58:Dv:=⟨17,[.any],[(.tmp 2)],(vu bt bs)⟩
theorem AMZ (args:List V) (U:H):B9 E D W N A58 args U=F58 E D W N args U:=by
 unfold F58;rw[<-AAW];kernel_rfl
def AIn:XC:=(.z (.P 3 (.box 42 (.t 0))<|
.aW 6)
 (.z (.m 8 2<|
.k 9 .one 58 [(.t 8)]<|
.bO 7)
 (.z (.O 10 y8 (.load (some 2) (.t 3))<|
.aC 11 1 7<|
.u 13 12<|
.k 14 .one 94 [(.t 10),(.t 11),(.t 13)]<|
.m 15 7<|
.p 16 [14,15] (.buildSlice 22 2 [V.nils,V.nils] [(0,1,(.t 14)),(1,1,(.t 15))])<|
.k 17 .one 58 [(.t 16)]<|
.aH 6 17)
 .ret)))
def kI (E:EB) (D:Ai) (W:AH) (a b:Int) (c:Bool) (d:V) (U:H):AF:=
 Ix [.int .i64 a,.int .i64 b] U fun e=>
 CM (D 58 [d] e) fun e f=>
 CB e (
 Bv E f (H.next U) 0 2 fun g=>
 uE g fun g h=>
 A0 e fun i=>
 CM (D 94 [.agg [.int .i64 g,.int .i64 h],.bool c,.int .i64 (AA i)] f) fun f g=>
 CB f (
 D9 [(0,1,f),(1,1,e)] [V.nils,V.nils] fun e=>
 GK (An e) (
 let f:=Br g (.cells e);
 CM (D 58 [.sl (H.next g) 0 2 (.ex 2)] f) fun e f=>
 CB e (
 some (e,f)))))
def F59 (N:Nat) (args:List V) (U:H):AF:=
 Ae args fun a b=>
 CW a fun a=>
 uE a fun a c=>
 uZ b fun b d=>
 kI E D W a c b d U
def A59:Dv:=⟨18,[y8,.bool,.any],[(.tmp 6)],AIn⟩
theorem AMY (args:List V) (U:H):B9 E D W N A59 args U=F59 E D W N args U:=by kernel_rfl
def ADL:List (Nat × CZ):=[(0,(.int .u64)),(1,.i),(5,.any),(9,.i),(10,.i)]
def WG (E:EB):St->AF:=fun s=>DR E s [(.tmp 4)] fun l=>some (Dh l,s.U)
def AKh (c0:XC):Nat->St->AF:=Bf 0 (dX E D W N (.keep [(5,.any)] [] [] c0) (WG E) nX (WG E)) nX
def vn (cc1:XC) (cc2:XC):XC:=(.z (.aW 4)
 (.z (.m 7 1<|
.P 8 (.mkslice 5 1 1 [WY] (.t 7) (.t 7))<|
.m 5 8<|
.nil)
 (.seq (.z (.m 9 1<|
.aN 10 0)
 (.block 0 (.loop ADL [] [] cc2)))
 (.keep [(5,.any)] [] [] cc1))))
def kH (E:EB) (D:Ai) (W:AH) (K2:Int->Int->V->Int->Int->H->AF) (a b:Int) (U:H):AF:=
 T4 b fun c=>
 T4 b fun d=>
 GK (Ag c d&&Ag (d*1) 281474976710656&&Ag d 1000000000000) (
 let e:=Br U (.cells (As d [.int .u8 (AA 0)]).flatten);
 K2 a b (V.sl (H.next U) 0 c (.ex d)) b (AA 0) e)
def bq:XC:=(.z (.m 25 5<|
.aH 4 25)
 .ret)
def AE1 (E:EB) (D:Ai) (W:AH) (a:V) (U:H):AF:=
 some (a,U)
def bp:XC:=(.z (.aF 11 10 9)
 (.seq (.cond (.tmp 11) .skip
 Jh)
 (.seq (.block 1 (.z (.m 12 10<|
.m 6 12<|
.nil)
 (.ops (.aC 13 5 6<|
.aC 15 0 1<|
.b 17 .sub .none (.t 16) (.i 1)<|
.m 18 6<|
.b 19 .sub .none (.t 17) (.t 18)<|
.b 20 .mul .none (.i 8) (.t 19)<|
.b 21 .shr .none (.t 15) (.t 20)<|
.P 22 (.conv (.toInt .u8) (.t 21))<|
.s 23 1 13 14<|
.w 1 23 22<|
.nil))))
 (.ops (.aA 24 10 1 10)))))
def Vb (E:EB) (D:Ai) (W:AH) (K1:V->H->AF) (R2:Int->Int->V->Int->Int->H->AF) (a b:Int) (c:V) (d e:Int) (U:H):AF:=
 AI (Ci e d) (
 T4 (Iy .i64 (AA 8) (Dp .i64 (Dp .i64 b (AA 1)) e)) fun f=>
 AW 1 c e fun g h=>
 DX 1 g h (V.int .u8 (BE .u8 (Kc .u64 a f))) U fun f=>
 R2 a b c d (Ba .i64 e (AA 1)) f) (
 K1 c U)
def AFp (a b:Int) (U:H):St:=⟨[(0,.int .u64 a),(1,.int .i64 b)],[],[],U⟩
def AFo (a b:Int) (c:V) (d e:Int) (U:H):St:=⟨[(0,.int .u64 a),(1,.int .i64 b),(5,c),(9,.int .i64 d),(10,.int .i64 e)],[],[],U⟩
def AGo (E:EB) (D:Ai) (W:AH) (N:Nat):=AE1 E D W
def Vw (n:Nat):Int->Int->V->Int->Int->H->AF:=
 Nat.rec (fun _ _ _ _ _ _=>none) (fun _ ih=>Vb E D W (AGo E D W N ) ih) n
theorem zd (n:Nat) :
 (fun a b c d e U=>BN (fun rec s'=>Ay E D W N bp s' (kX ADL [] [] rec) (AKh E D W N bq) (WG E)) n (AFo a b c d e U))=Vw E D W N n:=tu (fun _=>by kernel_rfl) n
def me:=kH E D W (Vw E D W N N)
theorem AAV :
 (fun a b U=>Ay E D W N (vn bq bp) (AFp a b U) (WG E) nX (WG E))=me E D W N:=by
 unfold me;rw[<-zd];generalize bq=x0,bp=x1;revert x0 x1;refine id ?_;intros;kernel_rfl
def F60 (args:List V) (U:H):AF:=
 uAA args fun a b=>
 me E D W N a b U
def A60:Dv:=⟨26,[(.int .u64),.i],[(.tmp 4)],(vn bq bp)⟩
theorem AMX (args:List V) (U:H):B9 E D W N A60 args U=F60 E D W N args U:=by
 unfold F60;rw[<-AAV];kernel_rfl
def AIm:XC:=(.z (.P 1 (.box 37 (.t 0))<|
.aT 2 y3)
 (.z (.aK 3 0 1 0<|
.m 6 5<|
.gA 6 true (.op (some 7) y2 [1,6] (.load (some 6) (.t 1))<|
.op (some 8) .bool [7,6] (.call 51 [(.t 7),(.i 0)])<|
.nil) 9 6 8<|
.m 2 9<|
.nil)
 .ret))
def kG (E:EB) (D:Ai) (W:AH) (a b:Int) (c d:V) (e:Int) (f:V) (U:H):AF:=
 Ix (eB a b c d e f) U fun g=>
 lI E g (H.next U) 0 fun h=>
 Af (fun i j=>
 rB i j) fun i=>
 AI (Bt h (AA 0)) (
 Bv E g (H.next U) 0 6 fun h=>
 uB h fun h j k l m n=>
 cB (D 51 [.agg (eB h j k l m n),iN 0] g) fun h j=>
 i h j) (
 i false g)
def F61 (N:Nat) (args:List V) (U:H):AF:=
 Ae args fun a b=>
 CW a fun a=>
 uB a fun a c d e f g=>
 BJ b (
 kG E D W a c d e f g U)
def A61:Dv:=⟨10,[y2],[(.tmp 2)],AIm⟩
theorem AMW (args:List V) (U:H):B9 E D W N A61 args U=F61 E D W N args U:=by kernel_rfl
def AIl:XC:=(.ops (.aC 4 0 0<|
.u 6 5<|
.m 7 1<|
.k 8 HM 95 [(.t 4),(.t 6),(.t 7)]<|
.nil))
def kF (E:EB) (D:Ai) (W:AH) (a b:V) (U:H):AF:=
 A0 a fun c=>
 c0 (D 95 [a,.int .i64 (AA c),b] U) fun c=>
 r0 c
def F62 (N:Nat) (args:List V) (U:H):AF:=
 uF args fun a b=>
 kF E D W a b U
def A62:Dv:=⟨9,[.any,.any],[],AIl⟩
theorem AMV (args:List V) (U:H):B9 E D W N A62 args U=F62 E D W N args U:=by kernel_rfl
end
noncomputable section
variable (E:EB) (D:Ai) (W:AH) (N:Nat)
def AIk:XC:=(.z (.aN 4 0)
 (.z (.m 7 0<|
.k 8 y8 96 [(.t 7)]<|
.m 9 1<|
.k 10 y8 96 [(.t 9)]<|
.pal 5 [] 42 [y0,y0]<|
.pal 6 [] 42 [y0,y0]<|
.op none y8 [5,8] (.store 2 (.t 5) (.t 8))<|
.op none y8 [6,10] (.store 2 (.t 6) (.t 10))<|
.nil)
 (.seq (.block 0 (.z (.O 12 y8 (.load (some 2) (.t 5))<|
.O 13 y8 (.load (some 2) (.t 6))<|
.k 14 .bool 97 [(.t 12),(.t 13)]<|
.m 11 14<|
.nil)
 (.cond (.tmp 11) (.z (.aT 4 fS)
 .ret)
 (.z (.O 16 y8 (.load (some 2) (.t 6))<|
.O 17 y8 (.load (some 2) (.t 5))<|
.k 18 .bool 97 [(.t 16),(.t 17)]<|
.m 15 18<|
.nil)
 (.cond (.tmp 15) (.z (.aN 4 1)
 .ret)
 .skip)))))
 (.z (.aN 4 0)
 .ret))))
def Va (E:EB) (D:Ai) (W:AH) (a b:V) (U:H):AF:=
 cA (D 96 [a] U) fun c d=>
 uE c fun c e=>
 cA (D 96 [b] d) fun d f=>
 uE d fun d g=>
 cB (D 97 [.agg [.int .i64 c,.int .i64 e],.agg [.int .i64 d,.int .i64 g]] f) fun f h=>
 AI f (
 rI (Az 0) h) (
 cB (D 97 [.agg [.int .i64 d,.int .i64 g],.agg [.int .i64 c,.int .i64 e]] h) fun c d=>
 AI c (
 rI (AA 1) d) (
 rI (AA 0) d))
def F63 (N:Nat) (args:List V) (U:H):AF:=
 uF args fun a b=>
 Va E D W a b U
def A63:Dv:=⟨19,[.any,.any],[(.tmp 4)],AIk⟩
theorem AMU (args:List V) (U:H):B9 E D W N A63 args U=F63 E D W N args U:=by kernel_rfl
def AIj:XC:=(.z (.aT 4 WY)
 (.seq (.z (.aY 5 1 0<|
.m 7 6<|
.gO 7 false (.p 8 [1,7] Ji<|
.p 9 [0,7] Hy<|
.p 10 [9,7] (.len true (.t 9))<|
.p 11 [8,10,7] (.bin .geq .none (.t 8) (.t 10))<|
.nil) 12 7 11<|
.nil)
 (.cond (.tmp 12) (.z (.aT 4 WY)
 .ret)
 .skip))
 (.z (.bJ 13 0 1<|
.aH 4 15)
 .ret)))
def kE (E:EB) (D:Ai) (W:AH) (a:BS) (b:Int) (U:H):AF:=
 Af (fun c d=>
 AI c (
 some ((V.int .u8 (AA 0)),d)) (
 Cv a b fun c=>
 some ((V.int .u8 c),d))) fun c=>
 AI (Ci b (AA 0)) (
 c true U) (
 c (I3 (AA (BS.len a)) b) U)
def F64 (N:Nat) (args:List V) (U:H):AF:=
 uR args fun a b=>
 kE E D W a b U
def A64:Dv:=⟨16,[.str,.i],[(.tmp 4)],AIj⟩
theorem AMT (args:List V) (U:H):B9 E D W N A64 args U=F64 E D W N args U:=by kernel_rfl
def AIi:XC:=(.z (.aT 2 y3)
 (.z (.m 3 0<|
.b 4 .geq .none (.t 3) (.con (V.int .u8 (AA 97)))<|
.m 5 4<|
.gA 5 true (.p 6 [0,5] Hy<|
.p 7 [6,5] (.bin .leq .none (.t 6) (.con (V.int .u8 (AA 122))))<|
.nil) 8 5 7<|
.m 9 8<|
.gO 9 false (.p 10 [0,9] Hy<|
.p 11 [10,9] (.bin .geq .none (.t 10) (.con (V.int .u8 (AA 65))))<|
.p 12 [11,9] (.mov (.t 11))<|
.grp 12 true (.p 13 [0,12] Hy<|
.p 14 [13,12] (.bin .leq .none (.t 13) (.con (V.int .u8 (AA 90))))<|
.nil) 15 [12,14,9] (.t 12) (.t 14) Qa<|
.nil) 16 9 15<|
.aH 2 16)
 .ret))
def kD (E:EB) (D:Ai) (W:AH) (a:Int) (U:H):AF:=
 Af (fun b c=>
 Af (fun d e=>
 rB d e) fun d=>
 AI b (
 d true c) (
 Af (fun b e=>
 d b e) fun b=>
 AI (I3 (AA 65) a) (
 b (I3 a (AA 90)) c) (
 b false c))) fun b=>
 AI (I3 (AA 97) a) (
 b (I3 a (AA 122)) U) (
 b false U)
def F65 (N:Nat) (args:List V) (U:H):AF:=
 Dy .u8 args fun a b=>
 BJ b (
 kD E D W a U)
def A65:Dv:=⟨17,[(.int .u8)],[(.tmp 2)],AIi⟩
theorem AMS (args:List V) (U:H):B9 E D W N A65 args U=F65 E D W N args U:=by kernel_rfl
def qB:List (Nat × CZ):=[(0,.str),(1,.i),(5,.i)]
def WE (E:EB):St->AF:=fun s=>DR E s [(.tmp 4)] fun l=>some (Dh l,s.U)
def AKg (c0:XC):Nat->St->AF:=Bf 0 (dX E D W N (.keep qB [] [] c0) (WE E) nX (WE E)) nX
def vm (cc1:XC) (cc2:XC):XC:=(.z (.aN 4 0)
 (.z (.m 6 1<|
.m 5 6<|
.nil)
 (.seq (.block 0 (.loop qB [] [] cc2))
 (.keep qB [] [] cc1))))
def AE0 (E:EB) (D:Ai) (W:AH) (K2:BS->Int->Int->H->AF) (a:BS) (b:Int) (U:H):AF:=
 K2 a b b U
def bo:XC:=(.seq (.z (.aC 38 0 1<|
.b 40 .sub .none (.t 39) (.i 1)<|
.P 41 (.idxStr (.t 38) (.t 40))<|
.b 42 .eql .none (.t 41) YB<|
.m 43 42<|
.gO 43 false (.p 44 [1,43] Ji<|
.p 45 [5,43] (.mov (.t 5))<|
.p 46 [44,45,43] (.bin .sub .none (.t 44) (.t 45))<|
.aQ 47 46 43 46 60) 48 43 47<|
.nil)
 (.cond (.tmp 48) (.z (.aT 4 fS)
 .ret)
 .skip))
 (.z (.m 49 1<|
.aH 4 49)
 .ret))
def kC (E:EB) (D:Ai) (W:AH) (a:BS) (b c:Int) (U:H):AF:=
 Cv a (Dp .i64 b (AA 1)) fun d=>
 Af (fun e f=>
 AI e (
 rI (Az 0) f) (
 rI b f)) fun e=>
 AI (Bt d (AA 45)) (
 e true U) (
 e (Ci (AA 60) (Dp .i64 b c)) U)
def bn:XC:=(.seq (.z (.bY 7 1 0<|
.b 10 .lss .none (.t 7) (.t 9)<|
.m 11 10<|
.gA 11 true (.p 12 [0,11] Hy<|
.bI 13 1 11 Ji 12 11 12<|
.op (some 15) .bool [14,11] (.call 65 [(.t 14)])<|
.p 16 [15,11] (.mov (.t 15))<|
.grp 16 false (.p 17 [0,16] Hy<|
.bI 18 1 16 Ji 17 16 17<|
.op (some 20) .bool [19,16] (.call 68 [(.t 19)])<|
.nil) 21 [16,20,11] (.t 16) Me (.t 20)<|
.p 22 [21,11] (.mov (.t 21))<|
.grp 22 false (.p 23 [0,22] Hy<|
.bI 24 1 22 Ji 23 22 23<|
.p 26 [25,22] (.bin .eql .none (.t 25) YB)<|
.p 27 [26,22] (.mov (.t 26))<|
.grp 27 true (.p 28 [0,27] Hy<|
.p 29 [1,27] Ji<|
.p 30 [29,27] (.bin .add .none (.t 29) (.i 1))<|
.op (some 31) (.int .u8) [28,30,27] (.call 64 [(.t 28),(.t 30)])<|
.p 32 [31,27] (.bin .neq .none (.t 31) YB)<|
.nil) 33 [27,32,22] (.t 27) (.t 32) Qa<|
.nil) 34 [22,33,11] (.t 22) Me (.t 33)<|
.nil) 35 11 34<|
.nil)
 (.cond (.tmp 35) .skip
 Jh))
 (.block 1 (.ops (.m 36 1<|
.aA 37 36 1 1))))
def PV (E:EB) (D:Ai) (W:AH) (K1:BS->Int->Int->H->AF) (R2:BS->Int->Int->H->AF) (a:BS) (b c:Int) (U:H):AF:=
 Af (fun d e=>
 AI d (
 R2 a (Ba .i64 b (AA 1)) c e) (
 K1 a b c e)) fun d=>
 AI (Ci b (AA (BS.len a))) (
 Cv a b fun e=>
 cB (D 65 [.int .u8 e] U) fun e f=>
 Af (fun g h=>
 Af (fun i j=>
 d i j) fun i=>
 AI g (
 i true h) (
 Cv a b fun g=>
 Af (fun j k=>
 i j k) fun i=>
 AI (Bt g (AA 45)) (
 CM (D 64 [.str a,.int .i64 (Ba .i64 b (AA 1))] h) fun g j=>
 Ch .u8 g fun g=>
 i (not (Bt g (AA 45))) j) (
 i false h))) fun g=>
 AI e (
 g true f) (
 Cv a b fun e=>
 cB (D 68 [.int .u8 e] f) fun e f=>
 g e f)) (
 d false U)
def AFm (a:BS) (b:Int) (U:H):St:=⟨[(0,.str a),(1,.int .i64 b)],[],[],U⟩
def AFl (a:BS) (b c:Int) (U:H):St:=⟨[(0,.str a),(1,.int .i64 b),(5,.int .i64 c)],[],[],U⟩
def RV (E:EB) (D:Ai) (W:AH) (N:Nat):=kC E D W
def Vv (n:Nat):BS->Int->Int->H->AF:=
 Nat.rec (fun _ _ _ _=>none) (fun _ ih=>PV E D W (RV E D W N ) ih) n
theorem zc (n:Nat) :
 (fun a b c U=>BN (fun rec s'=>Ay E D W N bn s' (kX qB [] [] rec) (AKg E D W N bo) (WE E)) n (AFl a b c U))=Vv E D W N n:=xW (fun _=>by kernel_rfl) n
def ma:=AE0 E D W (Vv E D W N N)
theorem AAU :
 (fun a b U=>Ay E D W N (vm bo bn) (AFm a b U) (WE E) nX (WE E))=ma E D W N:=by
 unfold ma;rw[<-zc];generalize bo=x0,bn=x1;revert x0 x1;refine id ?_;intros;kernel_rfl
def F66 (args:List V) (U:H):AF:=
 uR args fun a b=>
 ma E D W N a b U
def A66:Dv:=⟨50,[.str,.i],[(.tmp 4)],(vm bo bn)⟩
theorem AMR (args:List V) (U:H):B9 E D W N A66 args U=F66 E D W N args U:=by
 unfold F66;rw[<-AAU];kernel_rfl
def AIh:XC:=(.z (.aT 2 y3)
 (.z (.k 3 .one 98 []<|
.m 4 0<|
.k 5 .bool 43 [(.t 3),(.t 4)]<|
.m 2 5<|
.nil)
 .ret))
def kB (E:EB) (D:Ai) (W:AH) (a:BS) (U:H):AF:=
 CM (D 98 [] U) fun b c=>
 CB b (
 cB (D 43 [b,.str a] c) fun b c=>
 rB b c)
def F67 (N:Nat) (args:List V) (U:H):AF:=
 T0 args fun a b=>
 BJ b (
 kB E D W a U)
def A67:Dv:=⟨6,[.str],[(.tmp 2)],AIh⟩
theorem AMQ (args:List V) (U:H):B9 E D W N A67 args U=F67 E D W N args U:=by kernel_rfl
def AIg:XC:=(.z (.aT 2 y3)
 (.z (.m 3 0<|
.b 4 .geq .none (.t 3) y26<|
.m 5 4<|
.gA 5 true (.p 6 [0,5] Hy<|
.p 7 [6,5] (.bin .leq .none (.t 6) (.con (V.int .u8 (AA 57))))<|
.nil) 8 5 7<|
.m 2 8<|
.nil)
 .ret))
def kA (E:EB) (D:Ai) (W:AH) (a:Int) (U:H):AF:=
 Af (fun b c=>
 rB b c) fun b=>
 AI (I3 (AA 48) a) (
 b (I3 a (AA 57)) U) (
 b false U)
def F68 (N:Nat) (args:List V) (U:H):AF:=
 Dy .u8 args fun a b=>
 BJ b (
 kA E D W a U)
def A68:Dv:=⟨9,[(.int .u8)],[(.tmp 2)],AIg⟩
theorem AMP (args:List V) (U:H):B9 E D W N A68 args U=F68 E D W N args U:=by kernel_rfl
def Wi:List (Nat × CZ):=[(0,.str),(1,.i),(5,.bool),(6,.i),(7,(.int .u64))]
def Nl (E:EB):St->AF:=fun s=>DR E s [(.tmp 4)] fun l=>some (Dh l,s.U)
def AEM (c0:XC):Nat->St->AF:=Bf 0 (dX E D W N (.keep Wi [] [] c0) (Nl E) nX (Nl E)) nX
def vk (cc1:XC):XC:=(.z (.aN 4 0)
 (.z (.bJ 9 0 1<|
.b 12 .eql .none (.t 11) YB<|
.m 5 12<|
.nil)
 (.seq (.z (.aH 13 5)
 (.cond (.tmp 13) (.ops (.m 14 1<|
.aA 15 14 1 1))
 .skip))
 (.keep [(0,.str),(1,.i),(5,.bool)] [] [] cc1))))
def PU (E:EB) (D:Ai) (W:AH) (K1:BS->Int->Bool->H->AF) (a:BS) (b:Int) (U:H):AF:=
 Cv a b fun c=>
 AI (Bt c (AA 45)) (
 K1 a (Ba .i64 b (AA 1)) (Bt c (AA 45)) U) (
 K1 a b (Bt c (AA 45)) U)
def bm (cc2:XC) (cc3:XC):XC:=(.z (.m 16 1<|
.aH 6 16)
 (.z (.aT 7 ow)
 (.seq (.block 0 (.loop Wi [] [] cc3))
 (.keep Wi [] [] cc2))))
def AEz (E:EB) (D:Ai) (W:AH) (K3:BS->Int->Bool->Int->Int->H->AF) (a:BS) (b:Int) (c:Bool) (U:H):AF:=
 K3 a b c b (AA 0) U
def Ns:XC:=(.z (.aC 41 1 6<|
.b 43 .sub .none (.t 41) (.t 42)<|
.aH 8 43)
 (.seq (.z (.aY 44 8 1<|
.m 46 45<|
.gO 46 false (.p 47 [8,46] fR<|
.aQ 48 47 46 47 19) 49 46 48<|
.m 50 49<|
.gO 50 false (.p 51 [8,50] fR<|
.p 52 [51,50] (.bin .gtr .none (.t 51) (.i 1))<|
.p 53 [52,50] (.mov (.t 52))<|
.grp 53 true (.p 54 [0,53] Hy<|
.p 55 [6,53] (.mov (.t 6))<|
.p 56 [54,55,53] (.idxStr (.t 54) (.t 55))<|
.p 57 [56,53] (.bin .eql .none (.t 56) y26)<|
.nil) 58 [53,57,50] (.t 53) (.t 57) Qa<|
.nil) 59 50 58<|
.m 60 59<|
.gO 60 false (.p 61 [5,60] (.mov (.t 5))<|
.p 62 [61,60] (.mov (.t 61))<|
.grp 62 true (.p 63 [0,62] Hy<|
.p 64 [6,62] (.mov (.t 6))<|
.p 65 [63,64,62] (.idxStr (.t 63) (.t 64))<|
.p 66 [65,62] (.bin .eql .none (.t 65) y26)<|
.nil) 67 [62,66,60] (.t 62) (.t 66) Qa<|
.nil) 68 60 67<|
.m 69 68<|
.gO 69 false (.p 70 [0,69] Hy<|
.p 71 [1,69] Ji<|
.op (some 72) (.int .u8) [70,71,69] (.call 64 [(.t 70),(.t 71)])<|
.op (some 73) .bool [72,69] (.call 65 [(.t 72)])<|
.nil) 74 69 73<|
.m 75 74<|
.gO 75 false (.p 76 [7,75] (.mov (.t 7))<|
.p 77 [76,75] (.bin .gtr .none (.t 76) (.con (V.int .u64 (AA 9223372036854775808))))<|
.nil) 78 75 77<|
.m 79 78<|
.gO 79 false (.p 80 [5,79] (.mov (.t 5))<|
.bX 81 80 79 80 79<|
.grp 82 true (.p 83 [7,82] (.mov (.t 7))<|
.p 84 [83,82] (.bin .eql .none (.t 83) (.con (V.int .u64 (AA 9223372036854775808))))<|
.nil) 85 [82,84,79] (.t 82) (.t 84) Qa<|
.nil) 86 79 85<|
.nil)
 (.cond (.tmp 86) (.z (.aT 4 fS)
 .ret)
 .skip))
 (.z (.m 87 1<|
.aH 4 87)
 .ret)))
def j9 (E:EB) (D:Ai) (W:AH) (a:BS) (b:Int) (c:Bool) (d e:Int) (U:H):AF:=
 Af (fun f g=>
 Af (fun h i=>
 Af (fun j k=>
 Af (fun l m=>
 Af (fun n o=>
 Af (fun p q=>
 AI p (
 rI (Az 0) q) (
 rI b q)) fun p=>
 AI n (
 p true o) (
 Af (fun n q=>
 p n q) fun n=>
 AI (not c) (
 n (Bt e (AA 9223372036854775808)) o) (
 n false o))) fun n=>
 AI l (
 n true m) (
 n (Ci (AA 9223372036854775808) e) m)) fun l=>
 AI j (
 l true k) (
 CM (D 64 [.str a,.int .i64 b] k) fun j k=>
 Ch .u8 j fun j=>
 cB (D 65 [.int .u8 j] k) fun j k=>
 l j k)) fun j=>
 AI h (
 j true i) (
 Af (fun h k=>
 j h k) fun h=>
 AI c (
 Cv a d fun j=>
 h (Bt j (AA 48)) i) (
 h false i))) fun h=>
 AI f (
 h true g) (
 Af (fun f i=>
 h f i) fun f=>
 AI (Ci (AA 1) (Dp .i64 b d)) (
 Cv a d fun h=>
 f (Bt h (AA 48)) g) (
 f false g))) fun f=>
 AI (Ci (Dp .i64 b d) (AA 1)) (
 f true U) (
 f (Ci (AA 19) (Dp .i64 b d)) U)
def Rr (cc4:XC):XC:=(.seq (.z (.bY 17 1 0<|
.b 20 .lss .none (.t 17) (.t 19)<|
.m 21 20<|
.gA 21 true (.p 22 [0,21] Hy<|
.bI 23 1 21 Ji 22 21 22<|
.op (some 25) .bool [24,21] (.call 68 [(.t 24)])<|
.nil) 26 21 25<|
.nil)
 (.cond (.tmp 26) .skip
 Jh))
 (.block 1 (.seq (.z (.aC 27 1 6<|
.b 29 .sub .none (.t 27) (.t 28)<|
.b 30 .lss .none (.t 29) (.i 19)<|
.nil)
 (.cond (.tmp 30) (.ops (.m 31 7<|
.b 32 .mul .none (.con (V.int .u64 (AA 10))) (.t 31)<|
.bJ 33 0 1<|
.b 36 .sub .none (.t 35) y26<|
.P 37 (.conv (.toInt .u64) (.t 36))<|
.b 38 .add .none (.t 32) (.t 37)<|
.aH 7 38))
 .skip))
 (.keep Wi [] [] cc4))))
def PT (E:EB) (D:Ai) (W:AH) (K2:BS->Int->Bool->Int->Int->H->AF) (K4:BS->Int->Bool->Int->Int->H->AF) (a:BS) (b:Int) (c:Bool) (d e:Int) (U:H):AF:=
 Af (fun f g=>
 AI f (
 AI (Ci (Dp .i64 b d) (AA 19)) (
 Cv a b fun f=>
 K4 a b c d (Ba .u64 (Iy .u64 (AA 10) e) (BE .u64 (Dp .u8 f (AA 48)))) g) (
 K4 a b c d e g)) (
 K2 a b c d e g)) fun f=>
 AI (Ci b (AA (BS.len a))) (
 Cv a b fun g=>
 cB (D 68 [.int .u8 g] U) fun g h=>
 f g h) (
 f false U)
def Nr:XC:=(.ops (.m 39 1<|
.aA 40 39 1 1))
def ZO (E:EB) (D:Ai) (W:AH) (R3:BS->Int->Bool->Int->Int->H->AF) (a:BS) (b:Int) (c:Bool) (d e:Int) (U:H):AF:=
 R3 a (Ba .i64 b (AA 1)) c d e U
def AFk (a:BS) (b:Int) (U:H):St:=⟨[(0,.str a),(1,.int .i64 b)],[],[],U⟩
def AFj (a:BS) (b:Int) (c:Bool) (U:H):St:=⟨[(0,.str a),(1,.int .i64 b),(5,.bool c)],[],[],U⟩
def lU (a:BS) (b:Int) (c:Bool) (d e:Int) (U:H):St:=⟨[(0,.str a),(1,.int .i64 b),(5,.bool c),(6,.int .i64 d),(7,.int .u64 e)],[],[],U⟩
def RT (E:EB) (D:Ai) (W:AH) (N:Nat):=j9 E D W
def mY (E:EB) (D:Ai) (W:AH) (N:Nat) (R3:BS->Int->Bool->Int->Int->H->AF):=ZO E D W R3
theorem AAR (li3:St->AF) :
 (fun a b c d e U=>Ay E D W N Nr (lU a b c d e U) (kX Wi [] [] li3) (Bf 1 (kX Wi [] [] li3) (AEM E D W N Ns)) (Nl E))=mY E D W N (fun a b c d e U=>li3 (lU a b c d e U)):=by
 unfold mY;generalize Ns=x0;revert x0;refine id ?_;intros;kernel_rfl
def Vu (n:Nat):BS->Int->Bool->Int->Int->H->AF:=
 Nat.rec (fun _ _ _ _ _ _=>none) (fun _ ih=>PT E D W (RT E D W N ) (mY E D W N ih)) n
theorem zb (n:Nat) :
 (fun a b c d e U=>BN (fun rec s'=>Ay E D W N (Rr Nr) s' (kX Wi [] [] rec) (AEM E D W N Ns) (Nl E)) n (lU a b c d e U))=Vu E D W N n:=tu (fun li=>by rw[<-AAR];generalize Nr=x0;revert x0;refine id ?_;intros;kernel_rfl) n
def RU:=AEz E D W (Vu E D W N N)
theorem AAS :
 (fun a b c U=>Ay E D W N (bm Ns (Rr Nr)) (AFj a b c U) (Nl E) nX (Nl E))=RU E D W N:=by
 unfold RU;rw[<-zb];generalize Rr Nr=x0,Ns=x1;revert x0 x1;refine id ?_;intros;kernel_rfl
def mZ:=PU E D W (RU E D W N )
theorem AAT :
 (fun a b U=>Ay E D W N (vk (bm Ns (Rr Nr))) (AFk a b U) (Nl E) nX (Nl E))=mZ E D W N:=by
 unfold mZ;rw[<-AAS];generalize bm Ns (Rr Nr)=x0;revert x0;refine id ?_;intros;kernel_rfl
def F69 (args:List V) (U:H):AF:=
 uR args fun a b=>
 mZ E D W N a b U
def A69:Dv:=⟨88,[.str,.i],[(.tmp 4)],(vk (bm Ns (Rr Nr)))⟩
theorem AMO (args:List V) (U:H):B9 E D W N A69 args U=F69 E D W N args U:=by
 unfold F69;rw[<-AAT];kernel_rfl
def ADK:List (Nat × CZ):=[(5,.str),(6,.any),(7,.i)]
def WD (E:EB):St->AF:=fun s=>DR E s [(.tmp 4)] fun l=>some (Dh l,s.U)
def AKf (c0:XC):Nat->St->AF:=Bf 0 (dX E D W N (.keep [] [] [] c0) (WD E) nX (WD E)) nX
def vj (cc1:XC) (cc2:XC):XC:=(.z (.aN 4 0)
 (.z (.aC 9 0 1<|
.p 11 [9,10] (.sliceStr (.t 9) (some (.t 10)) none)<|
.m 5 11<|
.nil)
 (.z (.p 12 [] (.buildSlice 9 13 [y5,y5,y5,y5,y5,y5,y5,y5,y5,y5,y5,y5,y5] [(0,1,(.con (V.str ⟨3,4012602⟩))),(1,1,(.con (V.str ⟨3,3026478⟩))),(2,1,(.con (V.str ⟨2,11822⟩))),(3,1,(.con (V.str ⟨2,23387⟩))),(4,1,(.con (V.str ⟨2,23901⟩))),(5,1,y34),(6,1,(.con (V.str ⟨1,125⟩))),(7,1,(.con (V.str ⟨1,91⟩))),(8,1,(.con (V.str ⟨1,93⟩))),(9,1,(.con (V.str ⟨1,40⟩))),(10,1,(.con (V.str ⟨1,41⟩))),(11,1,(.con (V.str ⟨1,44⟩))),(12,1,(.con (V.str ⟨1,58⟩)))])<|
.m 6 12<|
.nil)
 (.seq (.z (.aN 7 0)
 (.block 0 (.loop ADK [] [] cc2)))
 (.keep [] [] [] cc1)))))
def ZN (E:EB) (D:Ai) (W:AH) (K2:BS->V->Int->H->AF) (a:BS) (b:Int) (U:H):AF:=
 C3 a (some (V.int .i64 b)) none fun c=>
 let d:=Br U (.cells [sN 3 4012602,sN 3 3026478,sN 2 11822,sN 2 23387,sN 2 23901,sN 1 123,sN 1 125,sN 1 91,sN 1 93,sN 1 40,sN 1 41,sN 1 44,sN 1 58]);
 K2 c (V.sl (H.next U) 0 13 (.ex 13)) (AA 0) d
def bk:XC:=(.z (.aN 4 0)
 .ret)
def VZ (E:EB) (D:Ai) (W:AH) (U:H):AF:=
 rI (AA 0) U
def bj:XC:=(.seq (.z (.aC 13 7 6<|
.u 15 14<|
.aF 16 13 15)
 (.cond (.tmp 16) .skip
 Jh))
 (.seq (.block 1 (.z (.aC 19 6 7<|
.bT 21 1 19 20 .str<|
.P 23 (.len true (.t 22))<|
.aH 8 23)
 (.seq (.draw (.m 24 5<|
.P 25 (.len true (.t 24))<|
.m 26 8<|
.b 27 .geq .none (.t 25) (.t 26)<|
.m 28 27<|
.gA 28 true (.p 29 [5,28] (.mov (.t 5))<|
.p 30 [8,28] fR<|
.p 31 [29,30,28] (.sliceStr (.t 29) none (some (.t 30)))<|
.p 32 [6,28] (.mov (.t 6))<|
.bA 33 7 28 7 32 28 1 32<|
.op (some 35) .str [34,28] (.load none (.t 34))<|
.p 36 [31,35,28] (.bin .eql .none (.t 31) (.t 35))<|
.nil) 37 28 36<|
.nil) [0,1,0,7,15,31,31,127,31,31,799,1823,4095,8191])
 (.cond (.tmp 37) (.z (.m 38 8<|
.aH 4 38)
 .ret)
 .skip))))
 (.ops (.m 17 7<|
.aA 18 17 1 7))))
def PS (E:EB) (D:Ai) (W:AH) (K1:H->AF) (R2:BS->V->Int->H->AF) (a:BS) (b:V) (c:Int) (U:H):AF:=
 A0 b fun d=>
 AI (Ci c (AA d)) (
 AW 1 b c fun d e=>
 lS E U d e fun d=>
 Af (fun e f=>
 AI e (
 rI (AA (BS.len d)) f) (
 R2 a b (Ba .i64 c (AA 1)) f)) fun e=>
 AI (I3 (AA (BS.len d)) (AA (BS.len a))) (
 C3 a none (some (V.int .i64 (AA (BS.len d)))) fun d=>
 AW 1 b c fun f g=>
 lS E U f g fun f=>
 e (BS.beq d f) U) (
 e false U)) (
 K1 U)
def AFi (a:BS) (b:Int) (U:H):St:=⟨[(0,.str a),(1,.int .i64 b)],[],[],U⟩
def AFh (a:BS) (b:V) (c:Int) (U:H):St:=⟨[(5,.str a),(6,b),(7,.int .i64 c)],[],[],U⟩
def AGn (E:EB) (D:Ai) (W:AH) (N:Nat):=VZ E D W
def Vt (n:Nat):BS->V->Int->H->AF:=
 Nat.rec (fun _ _ _ _=>none) (fun _ ih=>PS E D W (AGn E D W N ) ih) n
theorem za (n:Nat) :
 (fun a b c U=>BN (fun rec s'=>Ay E D W N bj s' (kX ADK [] [] rec) (AKf E D W N bk) (WD E)) n (AFh a b c U))=Vt E D W N n:=xW (fun _=>by kernel_rfl) n
def mX:=ZN E D W (Vt E D W N N)
theorem AAQ :
 (fun a b U=>Ay E D W N (vj bk bj) (AFi a b U) (WD E) nX (WD E))=mX E D W N:=by
 unfold mX;rw[<-za];generalize bk=x0,bj=x1;revert x0 x1;refine id ?_;intros;kernel_rfl
def F72 (args:List V) (U:H):AF:=
 uR args fun a b=>
 mX E D W N a b U
def A72:Dv:=⟨39,[.str,.i],[(.tmp 4)],(vj bk bj)⟩
theorem AMN (args:List V) (U:H):B9 E D W N A72 args U=F72 E D W N args U:=by
 unfold F72;rw[<-AAQ];kernel_rfl
def ADJ:List (Nat × CZ):=[(0,.str),(3,.bool),(4,(.int .u64)),(5,.i)]
def ADI:List (Nat × CZ):=[(3,.bool),(4,(.int .u64))]
def P8 (E:EB):St->AF:=fun s=>DR E s [(.tmp 2)] fun l=>some (Dh l,s.U)
def AKe (c0:XC):Nat->St->AF:=Bf 0 (dX E D W N (.keep ADI [] [] c0) (P8 E) nX (P8 E)) nX
def vi (cc1:XC):XC:=(.z (.aN 2 0)
 (.z (.m 6 0<|
.P 7 (.idxStr (.t 6) (.i 0))<|
.b 8 .eql .none (.t 7) YB<|
.m 3 8<|
.nil)
 (.seq (.z (.aH 9 3)
 (.cond (.tmp 9) (.ops (.m 10 0<|
.p 11 [10] (.sliceStr (.t 10) (some (.i 1)) none)<|
.aH 0 11))
 .skip))
 (.keep [(0,.str),(3,.bool)] [] [] cc1))))
def PR (E:EB) (D:Ai) (W:AH) (K1:BS->Bool->H->AF) (a:BS) (U:H):AF:=
 Cv a (AA 0) fun b=>
 AI (Bt b (AA 45)) (
 C3 a (some (iN 1)) none fun c=>
 K1 c (Bt b (AA 45)) U) (
 K1 a (Bt b (AA 45)) U)
def bh (cc2:XC) (cc3:XC):XC:=(.z (.aT 4 ow)
 (.seq (.z (.aN 5 0)
 (.block 0 (.loop ADJ [] [] cc3)))
 (.keep ADI [] [] cc2)))
def AEy (E:EB) (D:Ai) (W:AH) (K3:BS->Bool->Int->Int->H->AF) (a:BS) (b:Bool) (U:H):AF:=
 K3 a b (AA 0) (AA 0) U
def Rq:XC:=(.seq (.z (.aH 26 3)
 (.cond (.tmp 26) (.z (.m 27 4<|
.b 28 .sub .none (.t 27) (.con (V.int .u64 (AA 1)))<|
.P 29 (.conv (.toInt .i64) (.t 28))<|
.P 30 (.un .neg (.t 29))<|
.b 31 .sub .none (.t 30) (.i 1)<|
.aH 2 31)
 .ret)
 .skip))
 (.z (.m 32 4<|
.P 33 (.conv (.toInt .i64) (.t 32))<|
.aH 2 33)
 .ret))
def VY (E:EB) (D:Ai) (W:AH) (a:Bool) (b:Int) (U:H):AF:=
 AI a (
 rI (Dp .i64 (iH .i64 (BE .i64 (Dp .u64 b (AA 1)))) (AA 1)) U) (
 rI (BE .i64 b) U)
def Rp:XC:=(.seq (.z (.bY 12 5 0<|
.aF 15 12 14)
 (.cond (.tmp 15) .skip
 Jh))
 (.seq (.block 1 (.ops (.m 18 4<|
.b 19 .mul .none (.con (V.int .u64 (AA 10))) (.t 18)<|
.bJ 20 0 5<|
.b 23 .sub .none (.t 22) y26<|
.P 24 (.conv (.toInt .u64) (.t 23))<|
.b 25 .add .none (.t 19) (.t 24)<|
.aH 4 25)))
 (.ops (.m 16 5<|
.aA 17 16 1 5))))
def PQ (E:EB) (D:Ai) (W:AH) (K2:Bool->Int->H->AF) (R3:BS->Bool->Int->Int->H->AF) (a:BS) (b:Bool) (c d:Int) (U:H):AF:=
 AI (Ci d (AA (BS.len a))) (
 Cv a d fun e=>
 R3 a b (Ba .u64 (Iy .u64 (AA 10) c) (BE .u64 (Dp .u8 e (AA 48)))) (Ba .i64 d (AA 1)) U) (
 K2 b c U)
def AFg (a:BS) (U:H):St:=⟨[(0,.str a)],[],[],U⟩
def AFf (a:BS) (b:Bool) (U:H):St:=⟨[(0,.str a),(3,.bool b)],[],[],U⟩
def AFe (a:BS) (b:Bool) (c d:Int) (U:H):St:=⟨[(0,.str a),(3,.bool b),(4,.int .u64 c),(5,.int .i64 d)],[],[],U⟩
def RR (E:EB) (D:Ai) (W:AH) (N:Nat):=VY E D W
def Zw (n:Nat):BS->Bool->Int->Int->H->AF:=
 Nat.rec (fun _ _ _ _ _=>none) (fun _ ih=>PQ E D W (RR E D W N ) ih) n
theorem zZ (n:Nat) :
 (fun a b c d U=>BN (fun rec s'=>Ay E D W N Rp s' (kX ADJ [] [] rec) (AKe E D W N Rq) (P8 E)) n (AFe a b c d U))=Zw E D W N n:=WU (fun _=>by kernel_rfl) n
def RS:=AEy E D W (Zw E D W N N)
theorem AAO :
 (fun a b U=>Ay E D W N (bh Rq Rp) (AFf a b U) (P8 E) nX (P8 E))=RS E D W N:=by
 unfold RS;rw[<-zZ];generalize Rq=x0,Rp=x1;revert x0 x1;refine id ?_;intros;kernel_rfl
def mW:=PR E D W (RS E D W N )
theorem AAP :
 (fun a U=>Ay E D W N (vi (bh Rq Rp)) (AFg a U) (P8 E) nX (P8 E))=mW E D W N:=by
 unfold mW;rw[<-AAO];generalize bh Rq Rp=x0;revert x0;refine id ?_;intros;kernel_rfl
def F73 (args:List V) (U:H):AF:=
 T0 args fun a b=>
 BJ b (
 mW E D W N a U)
def A73:Dv:=⟨34,[.str],[(.tmp 2)],(vi (bh Rq Rp))⟩
theorem AMM (args:List V) (U:H):B9 E D W N A73 args U=F73 E D W N args U:=by
 unfold F73;rw[<-AAP];kernel_rfl
def Kf:List (Nat × CZ):=[(0,.ptr),(1,.ptr),(2,.i),(6,.i)]
def gv:List (Nat × CZ):=[(0,.ptr),(1,.ptr)]
def Gy (E:EB):St->AF:=fun s=>DR E s [] fun l=>some (Dh l,s.U)
def yO (c0 c1:XC) (l0:St->AF):Nat->St->AF:=Bf 2 (dX E D W N (.keep Kf [] [] c0) (kX Kf [] [] l0) (Bf 1 (kX Kf [] [] l0) (Bf 0 (dX E D W N (.keep gv [] [] c1) (Gy E) nX (Gy E)) nX)) (Gy E)) (Bf 1 (kX Kf [] [] l0) (Bf 0 (dX E D W N (.keep gv [] [] c1) (Gy E) nX (Gy E)) nX))
def AEL (c0 c1:XC) (l0:St->AF):St->AF:=dX E D W N (.keep Kf [] [] c0) (kX Kf [] [] l0) (Bf 1 (kX Kf [] [] l0) (Bf 0 (dX E D W N (.keep gv [] [] c1) (Gy E) nX (Gy E)) nX)) (Gy E)
def AEK (c0:XC):Nat->St->AF:=Bf 0 (dX E D W N (.keep gv [] [] c0) (Gy E) nX (Gy E)) nX
def AKd (c0 c1 c2:XC) (l0:St->AF):Nat->St->AF:=Bf 3 (dX E D W N (.keep Kf [] [] c0) (AEL E D W N c1 c2 l0) (yO E D W N c1 c2 l0) (Gy E)) (yO E D W N c1 c2 l0)
def vh (cc1:XC) (cc2:XC):XC:=(.seq (.z (.aR 7 0 .bool 22 1 125<|
.nil)
 (.cond (.tmp 8) .ret
 .skip))
 (.z (.aN 6 0)
 (.seq (.block 0 (.loop Kf [] [] cc2))
 (.keep gv [] [] cc1))))
def VX (E:EB) (D:Ai) (W:AH) (K2:Nat->Nat->Nat->Nat->Int->Int->H->AF) (a b c d:Nat) (e:Int) (U:H):AF:=
 cB (D 22 [.ptr a b,sN 1 125] U) fun f g=>
 AI f (
 r0 g) (
 K2 a b c d e (AA 0) g)
def Kz:XC:=(.z (.aU 68 0 HM 21 1 125)
 (.z (.aM 70 1<|
.aB 72 14 71 .bool<|
.bK 74 73)
 (.cond (.tmp 74) (.ops (.aC 75 1 1<|
.n 77 76<|
.aS 78 12 77<|
.n 81 75<|
.bH 82 13 81 1 80))
 .skip)))
def VW (E:EB) (D:Ai) (W:AH) (a b c d:Nat) (U:H):AF:=
 c0 (D 21 [.ptr a b,sN 1 125] U) fun e=>
 lB E e c (AP d 14) fun f=>
 AI (not f) (
 lL E e c (AP d 12) fun f=>
 DX 1 c (AP d 13) (V.int .i64 (AA f)) e fun f=>
 r0 f) (
 r0 e)
def bg (cc3:XC) (cc4:XC) (cc5:XC):XC:=(.seq (.z (.aM 9 0<|
.aK 11 7 10 0<|
.nil)
 (.cond (.tmp 13) .skip
 Jh))
 (.block 1 (.seq (.block 2 (.z (.aM 19 1<|
.aB 21 14 20 .bool<|
.bZ 23 22<|
.gA 24 true (.p 25 [0,24] Hy<|
.op (some 26) .bool [25,24] (.call 22 [(.t 25),(.con (V.str ⟨3,3026478⟩))])<|
.nil) 27 24 26<|
.m 18 27<|
.nil)
 (.cond (.tmp 18) (.ops (.aC 28 1 1<|
.aM 30 1<|
.aS 32 12 31<|
.n 35 28<|
.f 36 14 35<|
.op none .any [36] (.store 1 (.t 36) Me)<|
.n 37 29<|
.bH 38 13 37 1 34))
 (.z (.aM 40 1<|
.aB 42 14 41 .bool<|
.m 44 43<|
.gA 44 true (.p 45 [0,44] Hy<|
.op (some 46) .bool [45,44] (.call 22 [(.t 45),(.con (V.str ⟨2,23387⟩))])<|
.nil) 47 44 46<|
.m 39 47<|
.nil)
 (.cond (.tmp 39) (.z (.m 48 6<|
.aA 49 48 1 6)
 (.seq (.block 3 (.loop Kf [] [] cc5))
 (.keep Kf [] [] cc4)))
 (.ops (.aC 14 0 1<|
.m 16 2<|
.k 17 HM 100 [(.t 14),(.t 15),(.t 16),(.i 0)]<|
.nil)))))))
 (.keep Kf [] [] cc3))))
def RC (E:EB) (D:Ai) (W:AH) (K1:Nat->Nat->Nat->Nat->H->AF) (K3:Nat->Nat->Nat->Nat->Int->Int->H->AF) (K5:Nat->Nat->Nat->Nat->Int->Int->H->AF) (a b c d:Nat) (e f:Int) (U:H):AF:=
 lI E U a (AP b 7) fun g=>
 AI (Bt g (AA 0)) (
 lB E U c (AP d 14) fun g=>
 Af (fun h i=>
 AI h (
 lL E i c (AP d 12) fun h=>
 DX 1 c (AP d 14) (V.bool true) i fun j=>
 DX 1 c (AP d 13) (V.int .i64 (AA h)) j fun h=>
 K3 a b c d e f h) (
 lB E i c (AP d 14) fun h=>
 Af (fun j k=>
 AI j (
 K5 a b c d e (Ba .i64 f (AA 1)) k) (
 c0 (D 100 [.ptr a b,.ptr c d,.int .i64 e,iN 0] k) fun j=>
 K3 a b c d e f j)) fun j=>
 AI h (
 cB (D 22 [.ptr a b,sN 2 23387] i) fun h k=>
 j h k) (
 j false i))) fun h=>
 AI (not g) (
 cB (D 22 [.ptr a b,sN 3 3026478] U) fun g i=>
 h g i) (
 h false U)) (
 K1 a b c d U)
def KC:XC:=(.z (.aR 65 0 .bool 22 1 44<|
.bK 67 66)
 (.cond (.tmp 67) Jh
 .skip))
def VV (E:EB) (D:Ai) (W:AH) (K1:Nat->Nat->Nat->Nat->H->AF) (R2:Nat->Nat->Nat->Nat->Int->Int->H->AF) (a b c d:Nat) (e f:Int) (U:H):AF:=
 cB (D 22 [.ptr a b,sN 1 44] U) fun g h=>
 AI (not g) (
 K1 a b c d h) (
 R2 a b c d e f h)
def Np:XC:=(.ops (.aU 63 0 HM 21 2 23901))
def AEx (E:EB) (D:Ai) (W:AH) (K3:Nat->Nat->Nat->Nat->Int->Int->H->AF) (a b c d:Nat) (e f:Int) (U:H):AF:=
 c0 (D 21 [.ptr a b,sN 2 23901] U) fun g=>
 K3 a b c d e f g
def Ro:XC:=(.seq (.z (.aM 50 0<|
.aK 52 7 51 0<|
.nil)
 (.cond (.tmp 54) .skip
 (.exit 3)))
 (.block 4 (.z (.aC 55 0 1<|
.aC 57 2 6<|
.k 59 HM 100 [(.t 55),(.t 56),(.t 57),(.t 58)]<|
.nil)
 (.z (.aR 60 0 .bool 22 1 44<|
.bK 62 61)
 (.cond (.tmp 62) (.exit 3)
 .skip)))))
def AEw (E:EB) (D:Ai) (W:AH) (K4:Nat->Nat->Nat->Nat->Int->Int->H->AF) (R5:Nat->Nat->Nat->Nat->Int->Int->H->AF) (a b c d:Nat) (e f:Int) (U:H):AF:=
 lI E U a (AP b 7) fun g=>
 AI (Bt g (AA 0)) (
 c0 (D 100 [.ptr a b,.ptr c d,.int .i64 e,.int .i64 f] U) fun g=>
 cB (D 22 [.ptr a b,sN 1 44] g) fun g h=>
 AI (not g) (
 K4 a b c d e f h) (
 R5 a b c d e f h)) (
 K4 a b c d e f U)
def AFd (a b c d:Nat) (e:Int) (U:H):St:=⟨[(0,.ptr a b),(1,.ptr c d),(2,.int .i64 e)],[],[],U⟩
def Py (a b c d:Nat) (e f:Int) (U:H):St:=⟨[(0,.ptr a b),(1,.ptr c d),(2,.int .i64 e),(6,.int .i64 f)],[],[],U⟩
def vF (E:EB) (D:Ai) (W:AH) (N:Nat):=VW E D W
def Z6 (R2:Nat->Nat->Nat->Nat->Int->Int->H->AF):=VV E D W (vF E D W N ) R2
theorem mJ (li2:St->AF) :
 (fun a b c d e f U=>Ay E D W N KC (Py a b c d e f U) (kX Kf [] [] li2) (Bf 1 (kX Kf [] [] li2) (AEK E D W N Kz)) (Gy E))=Z6 E D W N (fun a b c d e f U=>li2 (Py a b c d e f U)):=by
 unfold Z6;kernel_rfl
def mU (R2:Nat->Nat->Nat->Nat->Int->Int->H->AF):=AEx E D W (Z6 E D W N R2)
theorem AAM (li2:St->AF) :
 (fun a b c d e f U=>Ay E D W N Np (Py a b c d e f U) (AEL E D W N KC Kz li2) (yO E D W N KC Kz li2) (Gy E))=mU E D W N (fun a b c d e f U=>li2 (Py a b c d e f U)):=by
 unfold mU;rw[<-mJ];generalize Kz=x0,KC=x1;revert x0 x1;refine id ?_;intros;kernel_rfl
def vB (R2:Nat->Nat->Nat->Nat->Int->Int->H->AF) (n:Nat):Nat->Nat->Nat->Nat->Int->Int->H->AF:=
 Nat.rec (fun _ _ _ _ _ _ _=>none) (fun _ ih=>AEw E D W (mU E D W N R2) ih) n
theorem zX (li2:St->AF) (n:Nat) :
 (fun a b c d e f U=>BN (fun rec s'=>Ay E D W N Ro s' (kX Kf [] [] rec) (AKd E D W N Np KC Kz li2) (Gy E)) n (Py a b c d e f U))=vB E D W N (fun a b c d e f U=>li2 (Py a b c d e f U)) n:=qc (fun li=>by rw[<-AAM];generalize Kz=x0,KC=x1,Np=x2;revert x0 x1 x2;refine id ?_;intros;kernel_rfl) n
def Vs (n:Nat):Nat->Nat->Nat->Nat->Int->Int->H->AF:=
 Nat.rec (fun _ _ _ _ _ _ _=>none) (fun _ ih=>RC E D W (vF E D W N ) (Z6 E D W N ih) (vB E D W N ih N)) n
theorem zY (n:Nat) :
 (fun a b c d e f U=>BN (fun rec s'=>Ay E D W N (bg KC Np Ro) s' (kX Kf [] [] rec) (AEK E D W N Kz) (Gy E)) n (Py a b c d e f U))=Vs E D W N n:=qc (fun li=>by rw[<-mJ,<-zX];generalize KC=x0,Np=x1,Ro=x2;revert x0 x1 x2;refine id ?_;intros;kernel_rfl) n
def mV:=VX E D W (Vs E D W N N)
theorem AAN :
 (fun a b c d e U=>Ay E D W N (vh Kz (bg KC Np Ro)) (AFd a b c d e U) (Gy E) nX (Gy E))=mV E D W N:=by
 unfold mV;rw[<-zY];generalize bg KC Np Ro=x0,Kz=x1;revert x0 x1;refine id ?_;intros;kernel_rfl
def F77 (args:List V) (U:H):AF:=
 uU args fun a b c d e=>
 mV E D W N a b c d e U
def A77:Dv:=⟨83,[.ptr,.ptr,.i],[],(vh Kz (bg KC Np Ro))⟩
theorem AML (args:List V) (U:H):B9 E D W N A77 args U=F77 E D W N args U:=by
 unfold F77;rw[<-AAN];kernel_rfl
def AIf (cc1:XC) (cc2:XC):XC:=(.z (.pal 2 [] 42 [y0,y0]<|
.nil)
 (.seq (.z (.aH 3 0)
 (.block 0 (.z (.aD 5 3 1 4)
 (.cond (.tmp 4) (.z (.op (some 6) y8 [] (.build [y0,y0] [(1,1,(.i 1))])<|
.op none y8 [2,6] (.store 2 (.t 2) (.t 6))<|
.nil)
 .ret)
 (.z (.aD 8 3 2 7)
 (.cond (.tmp 7) (.z (.op (some 9) y8 [] (.build [y0,y0] [(1,1,(.i 2))])<|
.op none y8 [2,9] (.store 2 (.t 2) (.t 9))<|
.nil)
 .ret)
 (.z (.aD 11 3 5 10)
 (.cond (.tmp 10) (.z (.op (some 12) y8 [] (.build [y0,y0] [(1,1,(.i 4))])<|
.op none y8 [2,12] (.store 2 (.t 2) (.t 12))<|
.nil)
 .ret)
 (.z (.aD 14 3 4 13)
 (.cond (.tmp 13) (.z (.op (some 15) y8 [] (.build [y0,y0] [(1,1,(.i 5))])<|
.op none y8 [2,15] (.store 2 (.t 2) (.t 15))<|
.nil)
 .ret)
 (.z (.aD 17 3 3 16)
 (.cond (.tmp 16) (.z (.op (some 18) y8 [] (.build [y0,y0] [(1,1,(.i 10))])<|
.op none y8 [2,18] (.store 2 (.t 2) (.t 18))<|
.nil)
 .ret)
 (.z (.aD 20 3 6 19)
 (.cond (.tmp 19) (.z (.op (some 21) y8 [] (.build [y0,y0] [(1,1,(.i 12))])<|
.op none y8 [2,21] (.store 2 (.t 2) (.t 21))<|
.nil)
 .ret)
 (.seq (.z (.aD 23 3 7 22)
 (.cond (.tmp 22) .skip
 (.ops (.aD 24 3 10 22))))
 (.keep [(3,.i),(22,.bool)] [2] [(2,[.i,.i])] cc2))))))))))))))))
 (.keep [] [2] [(2,[.i,.i])] cc1)))
def AEv (E:EB) (D:Ai) (W:AH) (K2:Int->Bool->Int->Int->H->AF) (a:Int) (U:H):AF:=
 AI (Bt a (AA 1)) (
 some ((V.agg [iN 0,iN 1]),U)) (
 AI (Bt a (AA 2)) (
 some ((V.agg [iN 0,iN 2]),U)) (
 AI (Bt a (AA 5)) (
 some ((V.agg [iN 0,iN 4]),U)) (
 AI (Bt a (AA 4)) (
 some ((V.agg [iN 0,iN 5]),U)) (
 AI (Bt a (AA 3)) (
 some ((V.agg [iN 0,iN 10]),U)) (
 AI (Bt a (AA 6)) (
 some ((V.agg [iN 0,iN 12]),U)) (
 AI (Bt a (AA 7)) (
 K2 a (Bt a (AA 7)) (AA 0) (AA 0) U) (
 K2 a (Bt a (AA 10)) (AA 0) (AA 0) U)))))))
def AIe:XC:=(.z (.op (some 29) y8 [] (.build [y0,y0] [])<|
.op none y8 [2,29] (.store 2 (.t 2) (.t 29))<|
.nil)
 .ret)
def AEu (E:EB) (D:Ai) (W:AH) (a b:Int) (U:H):AF:=
 some ((V.agg [iN 0,iN 0]),U)
def AId:XC:=(.cond (.tmp 22) (.z (.op (some 25) y8 [] (.build [y0,y0] [(1,1,(.i 16))])<|
.op none y8 [2,25] (.store 2 (.t 2) (.t 25))<|
.nil)
 .ret)
 (.z (.aD 27 3 8 26)
 (.cond (.tmp 26) (.z (.op (some 28) y8 [] (.build [y0,y0] [(1,1,(.i 17))])<|
.op none y8 [2,28] (.store 2 (.t 2) (.t 28))<|
.nil)
 .ret)
 .skip)))
def AEt (E:EB) (D:Ai) (W:AH) (K1:Int->Int->H->AF) (a:Int) (b:Bool) (c d:Int) (U:H):AF:=
 AI b (
 some ((V.agg [iN 0,iN 16]),U)) (
 AI (Bt a (AA 8)) (
 some ((V.agg [iN 0,iN 17]),U)) (
 K1 c d U))
def AGm (E:EB) (D:Ai) (W:AH) (N:Nat):=AEu E D W
def AGl:=AEt E D W (AGm E D W N )
def F79 (args:List V) (U:H):AF:=
 Dy .i64 args fun a b=>
 BJ b (
 AEv E D W (AGl E D W N ) a U)
def A79:Dv:=⟨30,[.i],[(.cell 2 (some 2))],(AIf AIe AId)⟩
theorem AMK (args:List V) (U:H):B9 E D W N A79 args U=F79 E D W N args U:=by kernel_rfl
def AIc:XC:=(.z (.P 2 (.box 95 (.t 0))<|
.aN 4 0)
 (.seq (.z (.aB 5 0 2 .bool<|
.bK 7 6)
 (.cond (.tmp 7) (.z (.aN 4 0)
 .ret)
 .skip))
 (.seq (.z (.aB 8 1 2 .bool<|
.m 10 9<|
.gA 10 true (.aO 11 2 10 2 2 10<|
.nil) 13 10 12<|
.m 14 13<|
.gA 14 true (.aE 15 2 14 4 2 14<|
.aE 17 2 14 5 2 14<|
.p 19 [16,18,14] (.bin .gtr .none (.t 16) (.t 18))<|
.nil) 20 14 19<|
.nil)
 (.cond (.tmp 20) (.z (.q 4 11<|
.nil)
 .ret)
 .skip))
 (.seq (.z (.m 21 1<|
.m 22 21<|
.gA 22 true (.aO 23 2 22 1 2 22<|
.bX 25 24 22 24 22<|
.grp 26 false (.p 27 [2,26] (.faddr 4 (.t 2))<|
.op (some 28) .i [27,26] (.load none (.t 27))<|
.p 29 [28,26] (.bin .lss .none (.t 28) (.i 0))<|
.nil) 30 [26,29,22] (.t 26) Me (.t 29)<|
.p 31 [30,22] (.mov (.t 30))<|
.grp 31 false (.p 32 [2,31] (.faddr 4 (.t 2))<|
.op (some 33) .i [32,31] (.load none (.t 32))<|
.aQ 34 33 31 33 70000) 35 [31,34,22] (.t 31) Me (.t 34)<|
.p 36 [35,22] (.mov (.t 35))<|
.grp 36 false (.p 37 [2,36] (.faddr 2 (.t 2))<|
.op (some 38) .bool [37,36] (.load none (.t 37))<|
.p 39 [38,36] (.mov (.t 38))<|
.grp 39 true (.p 40 [2,39] (.faddr 5 (.t 2))<|
.op (some 41) .i [40,39] (.load none (.t 40))<|
.p 42 [41,39] (.bin .lss .none (.t 41) (.i 0))<|
.p 43 [42,39] (.mov (.t 42))<|
.grp 43 false (.p 44 [2,43] (.faddr 5 (.t 2))<|
.op (some 45) .i [44,43] (.load none (.t 44))<|
.aQ 46 45 43 45 70000) 47 [43,46,39] (.t 43) Me (.t 46)<|
.nil) 48 [39,47,36] (.t 39) (.t 47) Qa<|
.nil) 49 [36,48,22] (.t 36) Me (.t 48)<|
.nil) 50 22 49<|
.nil)
 (.cond (.tmp 50) (.z (.q 4 11<|
.nil)
 .ret)
 .skip))
 (.z (.aN 4 0)
 .ret)))))
def j7 (E:EB) (D:Ai) (W:AH) (a b c d:Bool) (e f:Int) (g:Bool) (U:H):AF:=
 Ix (eT a b c d e f) U fun h=>
 lB E h (H.next U) 0 fun i=>
 AI (not i) (
 rI (AA 0) h) (
 lB E h (H.next U) 1 fun i=>
 Af (fun j k=>
 Af (fun l m=>
 AI l (
 rI (AA 11) m) (
 Af (fun l n=>
 AI l (
 rI (AA 11) n) (
 rI (AA 0) n)) fun l=>
 AI g (
 lB E m (H.next U) 1 fun n=>
 Af (fun o p=>
 Af (fun q r=>
 Af (fun s t=>
 l s t) fun s=>
 AI q (
 s true r) (
 lB E r (H.next U) 2 fun q=>
 Af (fun t u=>
 s t u) fun s=>
 AI q (
 lI E r (H.next U) 5 fun q=>
 Af (fun t u=>
 s t u) fun t=>
 AI (Ci q (AA 0)) (
 t true r) (
 lI E r (H.next U) 5 fun q=>
 t (Ci (AA 70000) q) r)) (
 s false r))) fun q=>
 AI o (
 q true p) (
 lI E p (H.next U) 4 fun o=>
 q (Ci (AA 70000) o) p)) fun o=>
 AI (not n) (
 o true m) (
 lI E m (H.next U) 4 fun n=>
 o (Ci n (AA 0)) m)) (
 l false m))) fun l=>
 AI j (
 lI E k (H.next U) 4 fun j=>
 lI E k (H.next U) 5 fun m=>
 l (Ci m j) k) (
 l false k)) fun j=>
 AI i (
 lB E h (H.next U) 2 fun i=>
 j i h) (
 j false h))
def F80 (N:Nat) (args:List V) (U:H):AF:=
 Ae args fun a b=>
 CW a fun a=>
 uT a fun a c d e f g=>
 Lr b fun b h=>
 BJ h (
 j7 E D W a c d e f g b U)
def A80:Dv:=⟨51,[T5,.bool],[(.tmp 4)],AIc⟩
theorem AMJ (args:List V) (U:H):B9 E D W N A80 args U=F80 E D W N args U:=by kernel_rfl
def qA:List (Nat × CZ):=[(0,.ptr),(1,.i),(3,.i),(6,.ptr),(8,.bool),(11,.any),(12,.i),(13,.ptr),(14,.i)]
def dE:List (Nat × CZ):=[(0,.ptr),(1,.i),(3,.i),(6,.ptr),(8,.bool),(11,.any),(12,.i),(13,.ptr)]
def UQ:List (Nat × CZ):=[(0,.ptr),(1,.i),(3,.i),(6,.ptr),(8,.bool),(11,.any),(12,.i)]
def ADH:List (Nat × CZ):=[(0,.ptr),(1,.i),(3,.i),(6,.ptr),(8,.bool),(9,.i)]
def xE:List (Nat × CZ):=[(0,.ptr),(1,.i),(3,.i),(6,.ptr),(8,.bool)]
def gj:List (Nat × CZ):=[(0,.ptr),(1,.i),(11,.any)]
def vR:List BO:=[⟨(some 130),.mov (.tmp 0),none⟩,⟨(some 131),.faddr 1 (.tmp 13),none⟩,⟨(some 132),.load none (.tmp 131),none⟩,⟨(some 133),.mov (.tmp 12),none⟩,⟨(some 134),.mov (.tmp 0),none⟩,⟨(some 135),.faddr 1 (.tmp 13),none⟩,⟨(some 136),.load none (.tmp 135),none⟩,⟨(some 137),.call 48 [(.tmp 134),(.tmp 136)],none⟩,⟨(some 138),.call 49 [(.tmp 130),(.tmp 132),(.tmp 133),(.tmp 137)],none⟩]
def vK:List DP:=[⟨0,[0]⟩,⟨0,[13]⟩,⟨2,[131]⟩,⟨0,[12]⟩,⟨0,[0]⟩,⟨0,[13]⟩,⟨32,[135]⟩,⟨112,[134,136]⟩,⟨255,[130,132,133,137]⟩]
def EX (E:EB):St->AF:=fun s=>DR E s [] fun l=>some (Dh l,s.U)
def jk (c0 c1:XC) (l0:St->AF):Nat->St->AF:=Bf 3 (dX E D W N (.keep UQ [] [] c0) (kX UQ [] [] l0) (Bf 2 (dX E D W N (.keep gj [] [] c1) (EX E) nX (EX E)) nX) (EX E)) (Bf 2 (dX E D W N (.keep gj [] [] c1) (EX E) nX (EX E)) nX)
def rq (c0 c1:XC) (l0:St->AF):St->AF:=dX E D W N (.keep UQ [] [] c0) (kX UQ [] [] l0) (Bf 2 (dX E D W N (.keep gj [] [] c1) (EX E) nX (EX E)) nX) (EX E)
def AEJ (c0 c1 c2:XC) (l0:St->AF):Nat->St->AF:=Bf 4 (dX E D W N (.keep dE [] [] c0) (rq E D W N c1 c2 l0) (jk E D W N c1 c2 l0) (EX E)) (jk E D W N c1 c2 l0)
def AEI (c0:XC):Nat->St->AF:=Bf 2 (dX E D W N (.keep gj [] [] c0) (EX E) nX (EX E)) nX
def AKc (c0:XC):Nat->St->AF:=Bf 0 (dX E D W N (.keep xE [] [] c0) (EX E) nX (EX E)) nX
def vg (cc1:XC) (cc2:XC):XC:=(.z (.P 6 (.box 111 (.t 2))<|
.nil)
 (.z (.aM 15 0<|
.f 17 0 16<|
.aP 18 1 17 2<|
.aH 8 20)
 (.seq (.z (.aN 9 0)
 (.block 0 (.loop ADH [] [] cc2)))
 (.keep xE [] [] cc1))))
def ZM (E:EB) (D:Ai) (W:AH) (K2:Nat->Nat->Int->Int->Nat->Nat->Bool->Int->H->AF) (a b:Nat) (c d:Int) (e:BS) (f:Bool) (g h:Int) (i j k l:Bool) (m o:Int) (p q:V) (r:Int) (s:Bool) (t u:Int) (U:H):AF:=
 Ix (eM d e f g h i j k l m o p q r s t) U fun n=>
 lI E n a (AP b 1) fun v=>
 K2 a b c u (H.next U) 0 (not (Bt v (AA 2))) (AA 0) n
def Rn (cc3:XC):XC:=(.seq (.z (.aK 47 0 6 9<|
.m 50 49<|
.gA 50 true (.aJ 51 6 50 12 6 50 50<|
.aV 54 53 50 53 0) 55 50 54<|
.m 56 55<|
.gA 56 true (.aO 57 6 56 14 6 56<|
.bG 59 58 56 58) 60 56 59<|
.nil)
 (.cond (.tmp 60) (.ops (.m 61 0<|
.k 62 HM 78 [(.t 61),(.i 11)]<|
.nil))
 .skip))
 (.keep xE [] [] cc3))
def j6 (E:EB) (D:Ai) (W:AH) (K3:Nat->Nat->Int->Int->Nat->Nat->Bool->H->AF) (a b:Nat) (c d:Int) (e f:Nat) (g:Bool) (U:H):AF:=
 lI E U e f fun h=>
 Af (fun i j=>
 Af (fun k l=>
 AI k (
 c0 (D 78 [.ptr a b,iN 11] l) fun k=>
 K3 a b c d e f g k) (
 K3 a b c d e f g l)) fun k=>
 AI i (
 lB E j e (AP f 14) fun i=>
 k (not i) j) (
 k false j)) fun i=>
 AI (Bt h (AA 9)) (
 lL E U e (AP f 12) fun h=>
 i (Bt (AA h) (AA 0)) U) (
 i false U)
def bf:XC:=(.seq (.z (.m 21 9<|
.aS 22 12 6<|
.aF 25 21 24)
 (.cond (.tmp 25) .skip
 Jh))
 (.seq (.block 1 (.z (.aZ 28 12 6 9<|
.aL 31 11 29 30 y9 11<|
.pal 10 [] 102 [y5,y0,y3,y3,y0,y0,V.nils,V.nils,y0,V.nils,y0]<|
.op none y9 [10,32] (.store 11 (.t 10) (.t 32))<|
.nil)
 (.draw (.m 33 8<|
.m 34 33<|
.gO 34 false (.bN 35 0 34 Hy 34 34 0<|
.bC 38 37 34 4 37 34<|
.aE 40 10 34 1 10 34<|
.p 42 [39,41,34] (.iaddrS 16 (.t 39) (.t 41))<|
.p 43 [42,34] (.faddr 2 (.t 42))<|
.aO 44 43 34 0 43 34<|
.nil) 46 34 45<|
.aH 8 46) [0,1,3,7,15,31,63,3,131,511,1023,2047,4095,8191,16383])))
 (.ops (.m 26 9<|
.aA 27 26 1 9))))
def VU (E:EB) (D:Ai) (W:AH) (K1:Nat->Nat->Int->Int->Nat->Nat->Bool->H->AF) (R2:Nat->Nat->Int->Int->Nat->Nat->Bool->Int->H->AF) (a b:Nat) (c d:Int) (e f:Nat) (g:Bool) (h:Int) (U:H):AF:=
 lL E U e (AP f 12) fun i=>
 AI (Ci h (AA i)) (
 jX E U e (AP f 12) 11 h fun i=>
 uY i fun i j k l m n o p q r s=>
 GK (An (eY i j k l m n o p q r s)) (
 Af (fun i k=>
 R2 a b c d e f i (Ba .i64 h (AA 1)) k) fun i=>
 AI g (
 i true U) (
 EG E U a (AP b 4) fun k=>
 AW 16 k j fun j k=>
 lB E U j (AP k 2) fun j=>
 i j U))) (
 K1 a b c d e f g U)
def No (cc4:XC) (cc5:XC):XC:=(.z (.aW 11)
 (.seq (.z (.aN 12 0)
 (.block 2 (.loop UQ [] [] cc5)))
 (.keep gj [] [] cc4)))
def AEs (E:EB) (D:Ai) (W:AH) (K5:Nat->Nat->Int->Int->Nat->Nat->Bool->V->Int->H->AF) (a b:Nat) (c d:Int) (e f:Nat) (g:Bool) (U:H):AF:=
 K5 a b c d e f g V.nils (AA 0) U
def Ek:XC:=(.z (.aM 143 0<|
.aK 145 6 144 0<|
.nil)
 (.cond (.tmp 147) (.z (.aM 148 0<|
.aB 150 5 149 .any<|
.aC 152 1 11<|
.s 154 13 151 152<|
.bH 155 9 154 1 153)
 (.z (.aC 156 0 0<|
.n 158 157<|
.aZ 159 5 158 1<|
.aL 162 13 160 161 y1 13<|
.k 164 .bool 103 [(.t 156),(.t 163)]<|
.bK 165 164)
 (.cond (.tmp 165) (.ops (.m 166 0<|
.k 167 HM 78 [(.t 166),(.i 12)]<|
.nil))
 .skip)))
 .skip))
def ZL (E:EB) (D:Ai) (W:AH) (a b:Nat) (c:Int) (d:V) (U:H):AF:=
 lI E U a (AP b 6) fun e=>
 AI (Bt e (AA 0)) (
 EG E U a (AP b 5) fun e=>
 AW 13 e c fun e f=>
 DX 1 e (AP f 9) d U fun e=>
 jX E e a (AP b 5) 13 c fun f=>
 uJ f fun f g h i j k l m n o p q r=>
 cB (D 103 [.ptr a b,.agg (eJ f g h i j k l m n o p q r)] e) fun e f=>
 AI (not e) (
 c0 (D 78 [.ptr a b,iN 12] f) fun e=>
 r0 e) (
 r0 f)) (
 r0 U)
def Ky (cc6:XC) (cc7:XC) (cc8:XC):XC:=(.seq (.z (.m 63 12<|
.aS 64 12 6<|
.b 67 .lss .none (.t 63) (.t 66)<|
.m 68 67<|
.gA 68 true (.p 69 [0,68] Hy<|
.p 70 [69,68] (.nilck (.t 69))<|
.aE 71 70 68 6 70 68<|
.aV 73 72 68 72 0) 74 68 73<|
.nil)
 (.cond (.tmp 74) .skip
 (.exit 2)))
 (.seq (.block 3 (.z (.aZ 77 12 6 12<|
.aL 80 11 78 79 y9 11<|
.p 13 [] (.alloc 102 [y5,y0,y3,y3,y0,y0,V.nils,V.nils,y0,V.nils,y0])<|
.op none y9 [13,81] (.store 11 (.t 13) (.t 81))<|
.nil)
 (.seq (.z (.aN 14 0)
 (.block 4 (.loop qA [] [] cc8)))
 (.keep dE [] [] cc7))))
 (.keep UQ [] [] cc6)))
def RB (E:EB) (D:Ai) (W:AH) (K4:Nat->Nat->Int->V->H->AF) (K8:Nat->Nat->Int->Int->Nat->Nat->Bool->V->Int->Nat->Nat->Int->H->AF) (a b:Nat) (c d:Int) (e f:Nat) (g:Bool) (h:V) (i:Int) (U:H):AF:=
 lL E U e (AP f 12) fun j=>
 Af (fun k l=>
 AI k (
 jX E l e (AP f 12) 11 i fun k=>
 uY k fun k m n o p q r s t u v=>
 let w:=Br l (.cells [.str ⟨0,0⟩,iN 0,.bool false,.bool false,iN 0,iN 0,V.nils,V.nils,iN 0,V.nils,iN 0]);
 DX 11 (H.next l) 0 (V.agg (eY k m n o p q r s t u v)) w fun k=>
 K8 a b c d e f g h i (H.next l) 0 (AA 0) k) (
 K4 a b c h l)) fun k=>
 AI (Ci i (AA j)) (
 lI E U a (AP b 6) fun j=>
 k (Bt j (AA 0)) U) (
 k false U)
def Ej:XC:=(.ops (.m 75 12<|
.aA 76 75 1 12))
def j5 (E:EB) (D:Ai) (W:AH) (R5:Nat->Nat->Int->Int->Nat->Nat->Bool->V->Int->H->AF) (a b:Nat) (c d:Int) (e f:Nat) (g:Bool) (h:V) (i:Int) (U:H):AF:=
 R5 a b c d e f g h (Ba .i64 i (AA 1)) U
def G9 (cc10:XC):XC:=(.z (.m 98 0<|
.aB 99 1 13 .i<|
.m 101 3<|
.b 102 .add .none (.t 101) (.i 1)<|
.k 103 .i 27 [(.t 98),(.t 100),(.t 102)]<|
.bH 104 1 13 1 103)
 (.seq (.z (.aM 105 0<|
.aK 107 6 106 0<|
.m 110 109<|
.gA 110 true (.aO 111 13 110 3 13 110<|
.nil) 113 110 112<|
.nil)
 (.cond (.tmp 113) (.ops (.m 114 0<|
.aB 115 1 13 .i<|
.f 117 4 13<|
.O 118 y2 (.load (some 6) (.t 117))<|
.k 119 y2 102 [(.t 114),(.t 116),(.t 118)]<|
.bU 120 4 13 y2 119 6 119))
 .skip))
 (.keep dE [] [] cc10)))
def j4 (E:EB) (D:Ai) (W:AH) (K10:Nat->Nat->Int->Int->Nat->Nat->Bool->V->Int->Nat->Nat->H->AF) (a b:Nat) (c d:Int) (e f:Nat) (g:Bool) (h:V) (i:Int) (j k:Nat) (U:H):AF:=
 lI E U j (AP k 1) fun l=>
 cI (D 27 [.ptr a b,.int .i64 l,.int .i64 (Ba .i64 d (AA 1))] U) fun l m=>
 DX 1 j (AP k 1) (V.int .i64 l) m fun l=>
 lI E l a (AP b 6) fun m=>
 Af (fun n o=>
 AI n (
 lI E o j (AP k 1) fun n=>
 Bv E o j (AP k 4) 6 fun p=>
 uB p fun p q r s t u=>
 cA (D 102 [.ptr a b,.int .i64 n,.agg (eB p q r s t u)] o) fun n p=>
 uB n fun n q r s t u=>
 DX 6 j (AP k 4) (V.agg (eB n q r s t u)) p fun n=>
 K10 a b c d e f g h i j k n) (
 K10 a b c d e f g h i j k o)) fun n=>
 AI (Bt m (AA 0)) (
 lB E l j (AP k 3) fun m=>
 n m l) (
 n false l)
def JU (cc9:XC):XC:=(.seq (.z (.aC 82 14 12<|
.aF 84 82 83)
 (.cond (.tmp 84) .skip
 (.exit 4)))
 (.seq (.block 5 (.seq (.draw (.aZ 87 12 6 14<|
.s 90 11 88 89<|
.aB 91 0 90 .str<|
.aB 93 0 13 .str<|
.b 95 .eql .none (.t 92) (.t 94)<|
.nil) [0,1,0,7,15,31,0,64,255])
 (.cond (.tmp 95) (.ops (.m 96 0<|
.k 97 HM 78 [(.t 96),(.i 8)]<|
.nil))
 .skip)))
 (.keep qA [] [] cc9)))
def ZK (E:EB) (D:Ai) (W:AH) (K7:Nat->Nat->Int->Int->Nat->Nat->Bool->V->Int->Nat->Nat->H->AF) (K9:Nat->Nat->Int->Int->Nat->Nat->Bool->V->Int->Nat->Nat->Int->H->AF) (a b:Nat) (c d:Int) (e f:Nat) (g:Bool) (h:V) (i:Int) (j k:Nat) (l:Int) (U:H):AF:=
 AI (Ci l i) (
 EG E U e (AP f 12) fun m=>
 AW 11 m l fun m n=>
 lS E U m n fun m=>
 lS E U j k fun n=>
 AI (BS.beq m n) (
 c0 (D 78 [.ptr a b,iN 8] U) fun m=>
 K9 a b c d e f g h i j k l m) (
 K9 a b c d e f g h i j k l U)) (
 K7 a b c d e f g h i j k U)
def IC:XC:=(.ops (.m 85 14<|
.aA 86 85 1 14))
def j3 (E:EB) (D:Ai) (W:AH) (R8:Nat->Nat->Int->Int->Nat->Nat->Bool->V->Int->Nat->Nat->Int->H->AF) (a b:Nat) (c d:Int) (e f:Nat) (g:Bool) (h:V) (i:Int) (j k:Nat) (l:Int) (U:H):AF:=
 R8 a b c d e f g h i j k (Ba .i64 l (AA 1)) U
def Es (cc11:XC):XC:=(.seq (.z (.aM 121 0<|
.aK 123 6 122 0<|
.m 126 125<|
.gA 126 true (.p 127 [8,126] fR<|
.bG 128 127 126 127) 129 126 128<|
.nil)
 (.cond (.tmp 129) (.keep dE [] [] (.gdraw vR vK dE))
 .skip))
 (.keep dE [] [] cc11))
def XD (E:EB) (D:Ai) (W:AH) (K11:Nat->Nat->Int->Int->Nat->Nat->Bool->V->Int->Nat->Nat->H->AF) (a b:Nat) (c d:Int) (e f:Nat) (g:Bool) (h:V) (i:Int) (j k:Nat) (U:H):AF:=
 lI E U a (AP b 6) fun l=>
 Af (fun m n=>
 AI m (
 Cc (W vR vK [(0,.ptr a b),(1,.int .i64 c),(3,.int .i64 d),(6,.ptr e f),(8,.bool g),(11,h),(12,.int .i64 i),(13,.ptr j k)] n) fun m o=>
 BL m 0 fun p=>
 B4 p fun p q=>
 BL m 1 fun r=>
 Ch .i64 r fun r=>
 BL m 3 fun s=>
 Ch .i64 s fun s=>
 BL m 6 fun t=>
 B4 t fun t u=>
 BL m 8 fun v=>
 Ct v fun v=>
 BL m 11 fun w=>
 BL m 12 fun x=>
 Ch .i64 x fun x=>
 BL m 13 fun m=>
 B4 m fun m y=>
 K11 p q r s t u v w x m y o) (
 K11 a b c d e f g h i j k n)) fun m=>
 AI (Bt l (AA 0)) (
 m (not g) U) (
 m false U)
def EZ:XC:=(.ops (.bE 139 11 y9 11 13<|
.p 141 [140] (.buildSlice 102 1 [y5,y0,y3,y3,y0,y0,V.nils,V.nils,y0,V.nils,y0] [(0,11,(.t 140))])<|
.O 142 .one (.append 102 11 136 (.t 139) (.t 141))<|
.aH 11 142))
def XB (E:EB) (D:Ai) (W:AH) (K6:Nat->Nat->Int->Int->Nat->Nat->Bool->V->Int->H->AF) (a b:Nat) (c d:Int) (e f:Nat) (g:Bool) (h:V) (i:Int) (j k:Nat) (U:H):AF:=
 Bv E U j k 11 fun l=>
 uY l fun l m n o p q r s t u v=>
 GK (An (eY l m n o p q r s t u v)) (
 let w:=Br U (.cells (eY l m n o p q r s t u v));
 DV E 11 136 h (V.sl (H.next U) 0 1 (.ex 1)) w fun l m=>
 CB l (
 K6 a b c d e f g l i m))
def AFc (a b:Nat) (c d:Int) (e:BS) (f:Bool) (g h:Int) (i j k l:Bool) (m o:Int) (p q:V) (r:Int) (s:Bool) (t u:Int) (U:H):St:=⟨[(0,.ptr a b),(1,.int .i64 c),(2,.agg [.int .i64 d,.str e,.bool f,.int .i64 g,.int .i64 h,.bool i,.bool j,.bool k,.bool l,.int .i64 m,.int .i64 o,p,q,.int .i64 r,.bool s,.int .i64 t]),(3,.int .i64 u)],[],[],U⟩
def uw (a b:Nat) (c d:Int) (e f:Nat) (g:Bool) (U:H):St:=⟨[(0,.ptr a b),(1,.int .i64 c),(3,.int .i64 d),(6,.ptr e f),(8,.bool g)],[],[],U⟩
def AFb (a b:Nat) (c d:Int) (e f:Nat) (g:Bool) (h:Int) (U:H):St:=⟨[(0,.ptr a b),(1,.int .i64 c),(3,.int .i64 d),(6,.ptr e f),(8,.bool g),(9,.int .i64 h)],[],[],U⟩
def Px (a b:Nat) (c d:Int) (e f:Nat) (g:Bool) (h:V) (i:Int) (U:H):St:=⟨[(0,.ptr a b),(1,.int .i64 c),(3,.int .i64 d),(6,.ptr e f),(8,.bool g),(11,h),(12,.int .i64 i)],[],[],U⟩
def lT (a b:Nat) (c d:Int) (e f:Nat) (g:Bool) (h:V) (i:Int) (j k:Nat) (U:H):St:=⟨[(0,.ptr a b),(1,.int .i64 c),(3,.int .i64 d),(6,.ptr e f),(8,.bool g),(11,h),(12,.int .i64 i),(13,.ptr j k)],[],[],U⟩
def lR (a b:Nat) (c d:Int) (e f:Nat) (g:Bool) (h:V) (i:Int) (j k:Nat) (l:Int) (U:H):St:=⟨[(0,.ptr a b),(1,.int .i64 c),(3,.int .i64 d),(6,.ptr e f),(8,.bool g),(11,h),(12,.int .i64 i),(13,.ptr j k),(14,.int .i64 l)],[],[],U⟩
def AGk (E:EB) (D:Ai) (W:AH) (N:Nat):=ZL E D W
def mS (E:EB) (D:Ai) (W:AH) (N:Nat) (R5:Nat->Nat->Int->Int->Nat->Nat->Bool->V->Int->H->AF):=j5 E D W R5
theorem AAI (li5:St->AF) :
 (fun a b c d e f g h i U=>Ay E D W N Ej (Px a b c d e f g h i U) (kX UQ [] [] li5) (AEI E D W N Ek) (EX E))=mS E D W N (fun a b c d e f g h i U=>li5 (Px a b c d e f g h i U)):=by
 unfold mS;generalize Ek=x0;revert x0;refine id ?_;intros;kernel_rfl
def Xn (R5:Nat->Nat->Int->Int->Nat->Nat->Bool->V->Int->H->AF):=XB E D W (mS E D W N R5)
theorem si (li5:St->AF) :
 (fun a b c d e f g h i j k U=>Ay E D W N EZ (lT a b c d e f g h i j k U) (rq E D W N Ej Ek li5) (jk E D W N Ej Ek li5) (EX E))=Xn E D W N (fun a b c d e f g h i U=>li5 (Px a b c d e f g h i U)):=by
 unfold Xn;rw[<-AAI];generalize Ek=x0,Ej=x1;revert x0 x1;refine id ?_;intros;kernel_rfl
def Xo (R5:Nat->Nat->Int->Int->Nat->Nat->Bool->V->Int->H->AF):=XD E D W (Xn E D W N R5)
theorem sj (li5:St->AF) :
 (fun a b c d e f g h i j k U=>Ay E D W N (Es EZ) (lT a b c d e f g h i j k U) (rq E D W N Ej Ek li5) (jk E D W N Ej Ek li5) (EX E))=Xo E D W N (fun a b c d e f g h i U=>li5 (Px a b c d e f g h i U)):=by
 unfold Xo;rw[<-si];generalize EZ=x0,Ek=x1,Ej=x2;revert x0 x1 x2;refine id ?_;intros;kernel_rfl
def RQ (R5:Nat->Nat->Int->Int->Nat->Nat->Bool->V->Int->H->AF):=j4 E D W (Xo E D W N R5)
theorem AAH (li5:St->AF) :
 (fun a b c d e f g h i j k U=>Ay E D W N (G9 (Es EZ)) (lT a b c d e f g h i j k U) (rq E D W N Ej Ek li5) (jk E D W N Ej Ek li5) (EX E))=RQ E D W N (fun a b c d e f g h i U=>li5 (Px a b c d e f g h i U)):=by
 unfold RQ;rw[<-sj];generalize Es EZ=x0,Ek=x1,Ej=x2;revert x0 x1 x2;refine id ?_;intros;kernel_rfl
def mR (E:EB) (D:Ai) (W:AH) (N:Nat) (R8:Nat->Nat->Int->Int->Nat->Nat->Bool->V->Int->Nat->Nat->Int->H->AF):=j3 E D W R8
theorem AAG (li5:St->AF)(li8:St->AF) :
 (fun a b c d e f g h i j k l U=>Ay E D W N IC (lR a b c d e f g h i j k l U) (kX qA [] [] li8) (AEJ E D W N (G9 (Es EZ)) Ej Ek li5) (EX E))=mR E D W N (fun a b c d e f g h i j k l U=>li8 (lR a b c d e f g h i j k l U)):=by
 unfold mR;generalize G9 (Es EZ)=x0,Ek=x1,Ej=x2;revert x0 x1 x2;refine id ?_;intros;kernel_rfl
def Zu (R5:Nat->Nat->Int->Int->Nat->Nat->Bool->V->Int->H->AF) (n:Nat):Nat->Nat->Int->Int->Nat->Nat->Bool->V->Int->Nat->Nat->Int->H->AF:=
 Nat.rec (fun _ _ _ _ _ _ _ _ _ _ _ _ _=>none) (fun _ ih=>ZK E D W (RQ E D W N R5) (mR E D W N ih)) n
theorem zU (li5:St->AF) (n:Nat) :
 (fun a b c d e f g h i j k l U=>BN (fun rec s'=>Ay E D W N (JU IC) s' (kX qA [] [] rec) (AEJ E D W N (G9 (Es EZ)) Ej Ek li5) (EX E)) n (lR a b c d e f g h i j k l U))=Zu E D W N (fun a b c d e f g h i U=>li5 (Px a b c d e f g h i U)) n:=AKT (fun li=>by rw[<-AAH,<-AAG (li5:=li5)];generalize G9 (Es EZ)=x0,Ek=x1,Ej=x2,IC=x3;revert x0 x1 x2 x3;refine id ?_;intros;kernel_rfl) n
def lu (n:Nat):Nat->Nat->Int->Int->Nat->Nat->Bool->V->Int->H->AF:=
 Nat.rec (fun _ _ _ _ _ _ _ _ _ _=>none) (fun _ ih=>RB E D W (AGk E D W N ) (Zu E D W N ih N)) n
theorem zV (n:Nat) :
 (fun a b c d e f g h i U=>BN (fun rec s'=>Ay E D W N (Ky Ej (G9 (Es EZ)) (JU IC)) s' (kX UQ [] [] rec) (AEI E D W N Ek) (EX E)) n (Px a b c d e f g h i U))=lu E D W N n:=xX (fun li=>by rw[<-zU];generalize G9 (Es EZ)=x0,JU IC=x1,Ej=x2;revert x0 x1 x2;refine id ?_;intros;kernel_rfl) n
def Z5:=AEs E D W (lu E D W N N)
theorem AAJ :
 (fun a b c d e f g U=>Ay E D W N (No Ek (Ky Ej (G9 (Es EZ)) (JU IC))) (uw a b c d e f g U) (EX E) nX (EX E))=Z5 E D W N:=by
 unfold Z5;rw[<-zV];generalize Ky Ej (G9 (Es EZ)) (JU IC)=x0,Ek=x1;revert x0 x1;refine id ?_;intros;kernel_rfl
def V4:=j6 E D W (Z5 E D W N )
theorem AAK :
 (fun a b c d e f g U=>Ay E D W N (Rn (No Ek (Ky Ej (G9 (Es EZ)) (JU IC)))) (uw a b c d e f g U) (EX E) nX (EX E))=V4 E D W N:=by
 unfold V4;rw[<-AAJ];generalize No Ek (Ky Ej (G9 (Es EZ)) (JU IC))=x0;revert x0;refine id ?_;intros;kernel_rfl
def Zv (n:Nat):Nat->Nat->Int->Int->Nat->Nat->Bool->Int->H->AF:=
 Nat.rec (fun _ _ _ _ _ _ _ _ _=>none) (fun _ ih=>VU E D W (V4 E D W N ) ih) n
theorem zW (n:Nat) :
 (fun a b c d e f g h U=>BN (fun rec s'=>Ay E D W N bf s' (kX ADH [] [] rec) (AKc E D W N (Rn (No Ek (Ky Ej (G9 (Es EZ)) (JU IC))))) (EX E)) n (AFb a b c d e f g h U))=Zv E D W N n:=lp9 (fun li=>by rw[<-AAK];generalize Rn (No Ek (Ky Ej (G9 (Es EZ)) (JU IC)))=x0;revert x0;refine id ?_;intros;kernel_rfl) n
def mT:=ZM E D W (Zv E D W N N)
theorem AAL :
 (fun a b c d e f g h i j k l m o p q r s t u U=>Ay E D W N (vg (Rn (No Ek (Ky Ej (G9 (Es EZ)) (JU IC)))) bf) (AFc a b c d e f g h i j k l m o p q r s t u U) (EX E) nX (EX E))=mT E D W N:=by
 unfold mT;rw[<-zW];generalize Rn (No Ek (Ky Ej (G9 (Es EZ)) (JU IC)))=x0,bf=x1;revert x0 x1;refine id ?_;intros;kernel_rfl
def F82 (args:List V) (U:H):AF:=
 Ae args fun a b=>
 B4 a fun a c=>
 Dy .i64 b fun b d=>
 Ae d fun d e=>
 CW d fun d=>
 uM d fun d f g h i j k l m n o p q r s t=>
 Dy .i64 e fun e u=>
 BJ u (
 mT E D W N a c b d f g h i j k l m n o p q r s t e U)
def A82:Dv:=⟨168,[.ptr,.i,y4,.i],[],(vg (Rn (No Ek (Ky Ej (G9 (Es EZ)) (JU IC)))) bf)⟩
theorem AMI (args:List V) (U:H):B9 E D W N A82 args U=F82 E D W N args U:=by
 unfold F82;rw[<-AAL];kernel_rfl
def AIb:XC:=(.z (.c 6 V.nils<|
.aN 7 0)
 (.seq (.z (.aY 9 1 0<|
.m 11 10<|
.gO 11 false (.p 12 [1,11] Ji<|
.aQ 13 12 11 12 268435456) 14 11 13<|
.m 15 14<|
.gO 15 false (.p 16 [2,15] (.mov (.t 2))<|
.bD 17 16 15 16 1 15<|
.grp 18 true (.p 19 [0,18] Hy<|
.p 20 [19,18] (.len false (.t 19))<|
.aV 21 20 18 20 0) 22 [18,21,15] (.t 18) (.t 21) Qa<|
.nil) 23 15 22<|
.nil)
 (.cond (.tmp 23) (.z (.c 6 V.nils<|
.q 7 12<|
.nil)
 .ret)
 .skip))
 (.z (.m 24 1<|
.op (some 25) y8 [24] (.build [y0,y0] [(0,1,(.i 2)),(1,1,(.t 24))])<|
.p 26 [25] (.buildSlice 42 1 [y0,y0] [(0,2,(.t 25))])<|
.aH 8 26)
 (.seq (.z (.m 27 2<|
.b 28 .eql .none (.t 27) (.i 1)<|
.nil)
 (.cond (.tmp 28) (.z (.aC 29 8 0<|
.p 31 [30] (.sliceSl 2 (.t 30) (some (.i 1)) none none)<|
.O 32 .one (.append 42 2 16 (.t 29) (.t 31))<|
.m 6 32<|
.aN 7 0)
 .ret)
 .skip))
 (.z (.aC 33 8 0<|
.O 35 .one (.append 42 2 16 (.t 33) (.t 34))<|
.m 6 35<|
.aN 7 0)
 .ret)))))
def RA (E:EB) (D:Ai) (W:AH) (a:V) (b c:Int) (U:H):AF:=
 Af (fun d e=>
 Af (fun f g=>
 AI f (
 some ((V.tup [V.nils,iN 12]),g)) (
 let f:=Br g (.cells [iN 2,.int .i64 b]);
 AI (Bt c (AA 1)) (
 gK (Cs 2 a (some (iN 1)) none none) fun h=>
 DV E 2 16 (V.sl (H.next g) 0 1 (.ex 1)) h f fun h i=>
 CB h (
 some ((V.tup [h,iN 0]),i))) (
 DV E 2 16 (V.sl (H.next g) 0 1 (.ex 1)) a f fun f g=>
 CB f (
 some ((V.tup [f,iN 0]),g))))) fun f=>
 AI d (
 f true e) (
 Af (fun d g=>
 f d g) fun d=>
 AI (Bt c (AA 1)) (
 A0 a fun f=>
 d (Bt (AA f) (AA 0)) e) (
 d false e))) fun d=>
 AI (Ci b (AA 0)) (
 d true U) (
 d (Ci (AA 268435456) b) U)
def F83 (N:Nat) (args:List V) (U:H):AF:=
 uG args fun a b c=>
 RA E D W a b c U
def A83:Dv:=⟨36,[.any,.i,.i],[(.tmp 6),(.tmp 7)],AIb⟩
theorem AMH (args:List V) (U:H):B9 E D W N A83 args U=F83 E D W N args U:=by kernel_rfl
def pz:List (Nat × List CZ):=[(7,[.i,.any,.bool,.bool,.bool,.bool,.i,.i,.any,.any,.i,.bool,.i]),(9,[.i,.i])]
def py:List (Nat × CZ):=[(0,.ptr),(1,.i),(5,.ptr),(8,.i),(52,.any),(53,.i),(54,.i)]
def Rc (E:EB):St->AF:=fun s=>DR E s [(.tmp 6)] fun l=>some (Dh l,s.U)
def AEH (c0:XC):Nat->St->AF:=Bf 0 (dX E D W N (.keep [] [] [] c0) (Rc E) nX (Rc E)) nX
def vf (cc1:XC) (cc2:XC):XC:=(.z (.P 5 (.box 37 (.t 2))<|
.aT 6 y3)
 (.z (.aM 14 0<|
.f 16 0 15<|
.f 17 0 16<|
.aZ 18 3 17 1<|
.aL 21 13 19 20 y1 13<|
.pal 7 [] 99 [y0,V.nils,y3,y3,y3,y3,y0,y0,V.nils,V.nils,y0,y3,y0]<|
.op none y1 [7,22] (.store 13 (.t 7) (.t 22))<|
.nil)
 (.seq (.z (.aS 23 5 5<|
.b 26 .eql .none (.t 25) (.i 0)<|
.nil)
 (.cond (.tmp 26) (.z (.aB 27 4 5 .i<|
.aD 29 28 0 6)
 .ret)
 .skip))
 (.seq (.z (.aB 30 11 7 .bool<|
.bZ 32 31<|
.gO 33 false (.aE 34 5 33 4 5 33<|
.p 36 [35,33] (.bin .neq .none (.t 35) (.i 1))<|
.p 37 [36,33] (.mov (.t 36))<|
.grp 37 true (.p 38 [5,37] (.faddr 4 (.t 5))<|
.op (some 39) .i [38,37] (.load none (.t 38))<|
.bP 40 39 37 39 2) 41 [37,40,33] (.t 37) (.t 40) Qa<|
.nil) 42 33 41<|
.nil)
 (.cond (.tmp 42) (.z (.aT 6 y3)
 .ret)
 .skip))
 (.z (.aM 43 0<|
.f 45 0 44<|
.f 46 0 45<|
.bW 47 y6 4 46 1<|
.k 49 .one 111 [(.t 47),(.t 48)]<|
.u 50 49<|
.aH 8 50)
 (.z (.pal 9 [] 42 [y0,y0]<|
.nil)
 (.seq (.z (.aS 51 5 5<|
.aN 54 0)
 (.block 0 (.loop py [7,9] pz cc2)))
 (.keep [] [] [] cc1))))))))
def j1 (E:EB) (D:Ai) (W:AH) (K2:Nat->Nat->Int->Nat->Nat->Int->V->Int->Int->Int->V->Bool->Bool->Bool->Bool->Int->Int->V->V->Int->Bool->Int->Int->Int->H->AF) (a b:Nat) (c d e:Int) (f g:V) (h:Int) (i:V) (U:H):AF:=
 Ix (eB d e f g h i) U fun j=>
 jX E j a (AP b 3) 13 c fun k=>
 uJ k fun k l m n o p q r s t u v w=>
 GK (An (eJ k l m n o p q r s t u v w)) (
 lL E j (H.next U) 5 fun x=>
 AI (Bt (AA x) (AA 0)) (
 lI E j (H.next U) 4 fun x=>
 rB (Bt x (AA 0)) j) (
 Af (fun x y=>
 AI x (
 rB false y) (
 Bv E y a b 4 fun x=>
 uA x fun x z aa ab=>
 CM (D 111 [.agg (eA x z aa ab),.int .i64 c] y) fun x y=>
 CB x (
 A0 x fun x=>
 EG E y (H.next U) 5 fun z=>
 A0 z fun aa=>
 K2 a b c (H.next U) 0 (AA x) z (AA aa) (AA 0) k l m n o p q r s t u v w (AA 0) (AA 0) y))) fun k=>
 AI (not v) (
 k true j) (
 lI E j (H.next U) 4 fun l=>
 Af (fun m n=>
 k m n) fun k=>
 AI (not (Bt l (AA 1))) (
 lI E j (H.next U) 4 fun l=>
 k (not (Bt l (AA 2))) j) (
 k false j))))
def Rm:XC:=(.z (.c 6 (V.bool true)<|
.nil)
 .ret)
def AEr (E:EB) (D:Ai) (W:AH) (U:H):AF:=
 rB true U
def be (cc3:XC):XC:=(.z (.aF 55 54 53)
 (.seq (.cond (.tmp 55) .skip
 Jh)
 (.seq (.block 1 (.z (.m 56 54<|
.s 57 2 52 54<|
.O 58 (.agg [.i,.any]) (.load (some 2) (.t 57))<|
.pal 11 [] 133 [y0,V.nils]<|
.m 10 56<|
.op none (.agg [.i,.any]) [11,58] (.store 2 (.t 11) (.t 58))<|
.nil)
 (.seq (.z (.aK 59 4 5 2<|
.nil)
 (.cond (.tmp 61) (.seq (.z (.aB 62 0 11 .i<|
.m 64 8<|
.b 65 .lss .none (.t 63) (.t 64)<|
.m 66 65<|
.gO 66 false (.aE 67 11 66 0 11 66<|
.bQ 69 68 66 68 1000) 70 66 69<|
.m 71 70<|
.gO 71 false (.bC 72 11 71 1 11 71<|
.op (some 74) .bool [73,71] (.call 85 [(.t 73)])<|
.bG 75 74 71 74) 76 71 75<|
.nil)
 (.cond (.tmp 76) (.z (.aT 6 y3)
 .ret)
 .skip))
 (.z (.aB 77 0 11 .i<|
.aA 79 78 1 8)
 (.exit 1)))
 .skip))
 (.z (.aC 81 0 1<|
.aB 83 1 11 .any<|
.k 85 (.tup [y8,.bool]) 84 [(.t 81),(.t 82),(.t 84)]<|
.m 80 85<|
.aG 86 0 80 1 80<|
.pal 12 [] 42 [y0,y0]<|
.op none y8 [12,86] (.store 2 (.t 12) (.t 86))<|
.aH 13 87)
 (.seq (.z (.m 88 13<|
.bZ 89 88<|
.gO 90 false (.aE 91 11 90 0 11 90<|
.bP 93 92 90 92 0) 94 90 93<|
.m 95 94<|
.gO 95 false (.aE 96 7 95 0 7 95<|
.bD 98 97 95 97 8 95<|
.grp 99 true (.p 100 [10,99] (.mov (.t 10))<|
.aQ 101 100 99 100 0) 102 [99,101,95] (.t 99) (.t 101) Qa<|
.p 103 [102,95] (.mov (.t 102))<|
.grp 103 true (.op (some 104) y8 [9,103] (.load (some 2) (.t 9))<|
.op (some 105) y8 [12,103] (.load (some 2) (.t 12))<|
.op (some 106) .bool [104,105,103] (.call 97 [(.t 104),(.t 105)])<|
.bG 107 106 103 106) 108 [103,107,95] (.t 103) (.t 107) Qa<|
.nil) 109 95 108<|
.nil)
 (.cond (.tmp 109) (.z (.aT 6 y3)
 .ret)
 .skip))
 (.ops (.bB 110 y8 2 12 y8 9 2 9<|
.nil)))))))
 (.keep py [7,9] pz cc3))))
def AEq (E:EB) (D:Ai) (W:AH) (K1:H->AF) (K3:Nat->Nat->Int->Nat->Nat->Int->V->Int->Int->Int->V->Bool->Bool->Bool->Bool->Int->Int->V->V->Int->Bool->Int->Int->Int->H->AF) (a b:Nat) (c:Int) (d e:Nat) (f:Int) (g:V) (h i j:Int) (k:V) (l m o p:Bool) (q r:Int) (s t:V) (u:Int) (v:Bool) (w x y:Int) (U:H):AF:=
 AI (Ci i h) (
 iX E U 2 g i fun n=>
 uQ n fun n z=>
 GK (An [.int .i64 n,z]) (
 lI E U d (AP e 4) fun aa=>
 AI (Bt aa (AA 2)) (
 Af (fun aa ab=>
 Af (fun ac ad=>
 AI ac (
 rB false ad) (
 K3 a b c d e (Ba .i64 n (AA 1)) g h i j k l m o p q r s t u v w x y ad)) fun ac=>
 AI aa (
 ac true ab) (
 cB (D 85 [z] ab) fun aa ab=>
 ac (not aa) ab)) fun aa=>
 AI (Ci n f) (
 aa true U) (
 aa (I3 (AA 1000) n) U)) (
 cT (D 84 [.ptr a b,.int .i64 c,z] U) fun z aa=>
 Ae z fun z ab=>
 CW z fun z=>
 uE z fun z ac=>
 Lr ab fun ab ad=>
 BJ ad (
 Af (fun ad ae=>
 Af (fun af ag=>
 AI af (
 rB false ag) (
 K3 a b c d e f g h i j k l m o p q r s t u v w z ac ag)) fun af=>
 AI ad (
 af true ae) (
 Af (fun ad ag=>
 Af (fun ah ai=>
 af ah ai) fun af=>
 AI ad (
 cB (D 97 [.agg [.int .i64 x,.int .i64 y],.agg [.int .i64 z,.int .i64 ac]] ag) fun z ac=>
 af (not z) ac) (
 af false ag)) fun z=>
 AI (Bt j (AA 8)) (
 z (Ci (AA 0) i) ae) (
 z false ae))) fun z=>
 AI (not ab) (
 z true aa) (
 z (not (Bt n (AA 0))) aa))))) (
 K1 U)
def Rl:XC:=(.ops (.aA 111 54 1 54))
def AEp (E:EB) (D:Ai) (W:AH) (R2:Nat->Nat->Int->Nat->Nat->Int->V->Int->Int->Int->V->Bool->Bool->Bool->Bool->Int->Int->V->V->Int->Bool->Int->Int->Int->H->AF) (a b:Nat) (c:Int) (d e:Nat) (f:Int) (g:V) (h i j:Int) (k:V) (l m o p:Bool) (q r:Int) (s t:V) (u:Int) (v:Bool) (w x y:Int) (U:H):AF:=
 R2 a b c d e f g h (Ba .i64 i (AA 1)) j k l m o p q r s t u v w x y U
def AFa (a b:Nat) (c d e:Int) (f g:V) (h:Int) (i:V) (U:H):St:=⟨[(0,.ptr a b),(1,.int .i64 c),(2,.agg [.int .i64 d,.int .i64 e,f,g,.int .i64 h,i])],[],[],U⟩
def lQ (a b:Nat) (c:Int) (d e:Nat) (f:Int) (g:V) (h i j:Int) (k:V) (l m o p:Bool) (q r:Int) (s t:V) (u:Int) (v:Bool) (w x y:Int) (U:H):St:=⟨[(0,.ptr a b),(1,.int .i64 c),(5,.ptr d e),(8,.int .i64 f),(52,g),(53,.int .i64 h),(54,.int .i64 i)],[(7,(7,0)),(9,(9,0))],[(7,[.int .i64 j,k,.bool l,.bool m,.bool o,.bool p,.int .i64 q,.int .i64 r,s,t,.int .i64 u,.bool v,.int .i64 w]),(9,[.int .i64 x,.int .i64 y])],U⟩
def AGj (E:EB) (D:Ai) (W:AH) (N:Nat):=AEr E D W
def mP (E:EB) (D:Ai) (W:AH) (N:Nat) (R2:Nat->Nat->Int->Nat->Nat->Int->V->Int->Int->Int->V->Bool->Bool->Bool->Bool->Int->Int->V->V->Int->Bool->Int->Int->Int->H->AF):=AEp E D W R2
theorem AAE (li2:St->AF) :
 (fun a b c d e f g h i j k l m o p q r s t u v w x y U=>Ay E D W N Rl (lQ a b c d e f g h i j k l m o p q r s t u v w x y U) (kX py [7,9] pz li2) (AEH E D W N Rm) (Rc E))=mP E D W N (fun a b c d e f g h i j k l m o p q r s t u v w x y U=>li2 (lQ a b c d e f g h i j k l m o p q r s t u v w x y U)):=by
 unfold mP;generalize Rm=x0;revert x0;refine id ?_;intros;kernel_rfl
def vA (n:Nat):Nat->Nat->Int->Nat->Nat->Int->V->Int->Int->Int->V->Bool->Bool->Bool->Bool->Int->Int->V->V->Int->Bool->Int->Int->Int->H->AF:=
 Nat.rec (fun _ _ _ _ _ _ _ _ _ _ _ _ _ _ _ _ _ _ _ _ _ _ _ _ _=>none) (fun _ ih=>AEq E D W (AGj E D W N ) (mP E D W N ih)) n
theorem zT (n:Nat) :
 (fun a b c d e f g h i j k l m o p q r s t u v w x y U=>BN (fun rec s'=>Ay E D W N (be Rl) s' (kX py [7,9] pz rec) (AEH E D W N Rm) (Rc E)) n (lQ a b c d e f g h i j k l m o p q r s t u v w x y U))=vA E D W N n:=AKO (fun li=>by rw[<-AAE];generalize Rl=x0;revert x0;refine id ?_;intros;kernel_rfl) n
def mQ:=j1 E D W (vA E D W N N)
theorem AAF :
 (fun a b c d e f g h i U=>Ay E D W N (vf Rm (be Rl)) (AFa a b c d e f g h i U) (Rc E) nX (Rc E))=mQ E D W N:=by
 unfold mQ;rw[<-zT];generalize be Rl=x0,Rm=x1;revert x0 x1;refine id ?_;intros;kernel_rfl
def F90 (args:List V) (U:H):AF:=
 Ae args fun a b=>
 B4 a fun a c=>
 Dy .i64 b fun b d=>
 Ae d fun d e=>
 CW d fun d=>
 uB d fun d f g h i j=>
 BJ e (
 mQ E D W N a c b d f g h i j U)
def A90:Dv:=⟨112,[.ptr,.i,y2],[(.tmp 6)],(vf Rm (be Rl))⟩
theorem AMG (args:List V) (U:H):B9 E D W N A90 args U=F90 E D W N args U:=by
 unfold F90;rw[<-AAF];kernel_rfl
def ADG:List (Nat × CZ):=[(5,.ptr),(10,.bool),(11,.bool),(30,.any),(31,.i),(32,.i),(45,.any),(46,.i),(47,.i)]
def QR:List (Nat × List CZ):=[(7,[.i,.any,.bool,.bool,.bool,.bool,.i,.i,.any,.any,.i,.bool,.i])]
def ADF:List (Nat × CZ):=[(5,.ptr),(10,.bool),(11,.bool),(30,.any),(31,.i),(32,.i)]
def dD:List (Nat × CZ):=[(5,.ptr),(30,.any),(31,.i),(32,.i)]
def JO (E:EB):St->AF:=fun s=>DR E s [(.tmp 6)] fun l=>some (Dh l,s.U)
def jj (c0 c1:XC) (l0:St->AF):St->AF:=dX E D W N (.keep dD [7] QR c0) (kX dD [7] QR l0) (Bf 0 (dX E D W N (.keep [] [] [] c1) (JO E) nX (JO E)) nX) (JO E)
def ji (c0:XC):Nat->St->AF:=Bf 0 (dX E D W N (.keep [] [] [] c0) (JO E) nX (JO E)) nX
def AKb (c0 c1 c2:XC) (l0:St->AF):Nat->St->AF:=Bf 2 (dX E D W N (.keep ADF [7] QR c0) (jj E D W N c1 c2 l0) (Bf 1 (jj E D W N c1 c2 l0) (ji E D W N c2)) (JO E)) (Bf 1 (jj E D W N c1 c2 l0) (ji E D W N c2))
def ve (cc1:XC) (cc2:XC):XC:=(.z (.P 5 (.box 37 (.t 2))<|
.aT 6 y3)
 (.z (.aM 15 0<|
.f 17 0 16<|
.f 18 0 17<|
.aZ 19 3 18 1<|
.aL 22 13 20 21 y1 13<|
.pal 7 [] 99 [y0,V.nils,y3,y3,y3,y3,y0,y0,V.nils,V.nils,y0,y3,y0]<|
.op none y1 [7,23] (.store 13 (.t 7) (.t 23))<|
.nil)
 (.seq (.z (.aM 24 0<|
.f 26 0 25<|
.f 27 0 26<|
.bW 28 y6 4 27 1<|
.k 30 .one 111 [(.t 28),(.t 29)]<|
.u 31 30<|
.aN 32 0)
 (.block 0 (.loop dD [7] QR cc2)))
 (.keep [] [] [] cc1))))
def ZJ (E:EB) (D:Ai) (W:AH) (K2:Nat->Nat->V->Int->Int->Int->V->Bool->Bool->Bool->Bool->Int->Int->V->V->Int->Bool->Int->H->AF) (a b:Nat) (c d e:Int) (f g:V) (h:Int) (i:V) (U:H):AF:=
 Ix (eB d e f g h i) U fun j=>
 jX E j a (AP b 3) 13 c fun k=>
 uJ k fun k l m n o p q r s t u v w=>
 GK (An (eJ k l m n o p q r s t u v w)) (
 Bv E j a b 4 fun x=>
 uA x fun x y z aa=>
 CM (D 111 [.agg (eA x y z aa),.int .i64 c] j) fun j x=>
 CB j (
 A0 j fun y=>
 K2 (H.next U) 0 j (AA y) (AA 0) k l m n o p q r s t u v w x))
def JT:XC:=(.z (.c 6 (V.bool true)<|
.nil)
 .ret)
def ZI (E:EB) (D:Ai) (W:AH) (U:H):AF:=
 rB true U
def bc (cc3:XC) (cc4:XC) (cc5:XC):XC:=(.z (.aF 33 32 31)
 (.seq (.cond (.tmp 33) .skip
 Jh)
 (.seq (.block 1 (.z (.bT 34 1 30 32 .any<|
.aH 9 35)
 (.seq (.seq (.draw (.aZ 36 9 7 9<|
.P 39 (.iaddrS 1 (.t 38) (.i 0))<|
.l 40 .i 39<|
.s 41 11 37 40<|
.aK 42 10 41 0<|
.nil) [0,1,0,4,12,31,63,127,255])
 (.cond (.tmp 44) (.exit 1)
 .skip))
 (.z (.c 10 y3<|
.aT 11 y3)
 (.seq (.z (.m 45 9<|
.u 46 45<|
.aN 47 0)
 (.block 2 (.loop ADG [7] QR cc5)))
 (.keep ADF [7] QR cc4))))))
 (.keep dD [7] QR cc3))))
def ZH (E:EB) (D:Ai) (W:AH) (K1:H->AF) (K3:Nat->Nat->V->Int->Int->Int->V->Bool->Bool->Bool->Bool->Int->Int->V->V->Int->Bool->Int->H->AF) (K5:Nat->Nat->Bool->Bool->V->Int->Int->V->Int->Int->Int->V->Bool->Bool->Bool->Bool->Int->Int->V->V->Int->Bool->Int->H->AF) (a b:Nat) (c:V) (d e f:Int) (g:V) (h i j k:Bool) (l m:Int) (o p:V) (q:Int) (r:Bool) (s:Int) (U:H):AF:=
 AI (Ci e d) (
 iY E U 1 c e fun n=>
 AW 1 n (AA 0) fun t u=>
 lI E U t u fun t=>
 AW 11 p t fun t u=>
 lI E U t (AP u 10) fun t=>
 AI (Bt t (AA 0)) (
 K3 a b c d e f g h i j k l m o p q r s U) (
 A0 n fun t=>
 K5 a b false false c d e n (AA t) (AA 0) f g h i j k l m o p q r s U)) (
 K1 U)
def KB:XC:=(.ops (.aA 90 32 1 32))
def AEo (E:EB) (D:Ai) (W:AH) (R2:Nat->Nat->V->Int->Int->Int->V->Bool->Bool->Bool->Bool->Int->Int->V->V->Int->Bool->Int->H->AF) (a b:Nat) (c:V) (d e f:Int) (g:V) (h i j k:Bool) (l m:Int) (o p:V) (q:Int) (r:Bool) (s:Int) (U:H):AF:=
 R2 a b c d (Ba .i64 e (AA 1)) f g h i j k l m o p q r s U
def Nn:XC:=(.z (.m 86 10<|
.m 87 86<|
.gA 87 true (.p 88 [11,87] (.mov (.t 11))<|
.nil) 89 87 88<|
.nil)
 (.cond (.tmp 89) (.z (.aT 6 y3)
 .ret)
 .skip))
def AEn (E:EB) (D:Ai) (W:AH) (K3:Nat->Nat->V->Int->Int->Int->V->Bool->Bool->Bool->Bool->Int->Int->V->V->Int->Bool->Int->H->AF) (a b:Nat) (c d:Bool) (e:V) (f g h:Int) (i:V) (j k l m:Bool) (o p:Int) (q r:V) (s:Int) (t:Bool) (u:Int) (U:H):AF:=
 Af (fun n v=>
 AI n (
 rB false v) (
 K3 a b e f g h i j k l m o p q r s t u v)) fun n=>
 AI c (
 n d U) (
 n false U)
def Rk:XC:=(.z (.aF 48 47 46)
 (.seq (.cond (.tmp 48) .skip
 (.exit 2))
 (.seq (.block 3 (.z (.bT 49 1 45 47 .i<|
.aH 13 50)
 (.z (.aZ 51 3 5 13<|
.aL 54 6 52 53 y2 6<|
.k 56 .bool 61 [(.t 55)]<|
.P 57 (.un .not (.t 56))<|
.aH 14 57)
 (.z (.m 58 10<|
.m 59 58<|
.gO 59 false (.p 60 [14,59] (.mov (.t 14))<|
.nil) 61 59 60<|
.aH 10 61)
 (.ops (.m 62 11<|
.m 63 62<|
.gO 63 false (.p 64 [14,63] (.mov (.t 14))<|
.bX 65 64 63 64 63<|
.grp 66 true (.p 67 [7,66] (.faddr 9 (.t 7))<|
.p 68 [67,66] (.load none (.t 67))<|
.bA 69 13 66 13 68 66 11 68<|
.aO 71 70 66 2 70 66<|
.bG 73 72 66 72) 74 [66,73,63] (.t 66) (.t 73) Qa<|
.p 75 [74,63] (.mov (.t 74))<|
.grp 75 true (.p 76 [7,75] (.faddr 9 (.t 7))<|
.p 77 [76,75] (.load none (.t 76))<|
.bA 78 13 75 13 77 75 11 77<|
.aO 80 79 75 3 79 75<|
.bG 82 81 75 81) 83 [75,82,63] (.t 75) (.t 82) Qa<|
.nil) 84 63 83<|
.aH 11 84))))))
 (.ops (.aA 85 47 1 47)))))
def AEm (E:EB) (D:Ai) (W:AH) (K4:Nat->Nat->Bool->Bool->V->Int->Int->Int->V->Bool->Bool->Bool->Bool->Int->Int->V->V->Int->Bool->Int->H->AF) (R5:Nat->Nat->Bool->Bool->V->Int->Int->V->Int->Int->Int->V->Bool->Bool->Bool->Bool->Int->Int->V->V->Int->Bool->Int->H->AF) (a b:Nat) (c d:Bool) (e:V) (f g:Int) (h:V) (i j k:Int) (l:V) (m o p q:Bool) (r s:Int) (t u:V) (v:Int) (w:Bool) (x:Int) (U:H):AF:=
 AI (Ci j i) (
 AW 1 h j fun n y=>
 lI E U n y fun n=>
 jX E U a (AP b 3) 6 n fun y=>
 uB y fun y z aa ab ac ad=>
 cB (D 61 [.agg (eB y z aa ab ac ad)] U) fun y z=>
 Af (fun aa ab=>
 Af (fun ac ad=>
 R5 a b aa ac e f g h i (Ba .i64 j (AA 1)) k l m o p q r s t u v w x ad) fun aa=>
 AI d (
 aa true ab) (
 Af (fun ac ad=>
 Af (fun ae af=>
 aa ae af) fun aa=>
 AI ac (
 AW 11 u n fun ac ae=>
 lB E ad ac (AP ae 3) fun ac=>
 aa (not ac) ad) (
 aa false ad)) fun aa=>
 AI (not (not y)) (
 AW 11 u n fun n ac=>
 lB E ab n (AP ac 2) fun n=>
 aa (not n) ab) (
 aa false ab))) fun n=>
 AI c (
 n true z) (
 n (not y) z)) (
 K4 a b c d e f g k l m o p q r s t u v w x U)
def AFZ (a b:Nat) (c d e:Int) (f g:V) (h:Int) (i:V) (U:H):St:=⟨[(0,.ptr a b),(1,.int .i64 c),(2,.agg [.int .i64 d,.int .i64 e,f,g,.int .i64 h,i])],[],[],U⟩
def Vo (a b:Nat) (c:V) (d e f:Int) (g:V) (h i j k:Bool) (l m:Int) (o p:V) (q:Int) (r:Bool) (s:Int) (U:H):St:=⟨[(5,.ptr a b),(30,c),(31,.int .i64 d),(32,.int .i64 e)],[(7,(7,0))],[(7,[.int .i64 f,g,.bool h,.bool i,.bool j,.bool k,.int .i64 l,.int .i64 m,o,p,.int .i64 q,.bool r,.int .i64 s])],U⟩
def AFY (a b:Nat) (c d:Bool) (e:V) (f g h:Int) (i:V) (j k l m:Bool) (o p:Int) (q r:V) (s:Int) (t:Bool) (u:Int) (U:H):St:=⟨[(5,.ptr a b),(10,.bool c),(11,.bool d),(30,e),(31,.int .i64 f),(32,.int .i64 g)],[(7,(7,0))],[(7,[.int .i64 h,i,.bool j,.bool k,.bool l,.bool m,.int .i64 o,.int .i64 p,q,r,.int .i64 s,.bool t,.int .i64 u])],U⟩
def AFX (a b:Nat) (c d:Bool) (e:V) (f g:Int) (h:V) (i j k:Int) (l:V) (m o p q:Bool) (r s:Int) (t u:V) (v:Int) (w:Bool) (x:Int) (U:H):St:=⟨[(5,.ptr a b),(10,.bool c),(11,.bool d),(30,e),(31,.int .i64 f),(32,.int .i64 g),(45,h),(46,.int .i64 i),(47,.int .i64 j)],[(7,(7,0))],[(7,[.int .i64 k,l,.bool m,.bool o,.bool p,.bool q,.int .i64 r,.int .i64 s,t,u,.int .i64 v,.bool w,.int .i64 x])],U⟩
def AGi (E:EB) (D:Ai) (W:AH) (N:Nat):=ZI E D W
def Z4 (E:EB) (D:Ai) (W:AH) (N:Nat) (R2:Nat->Nat->V->Int->Int->Int->V->Bool->Bool->Bool->Bool->Int->Int->V->V->Int->Bool->Int->H->AF):=AEo E D W R2
theorem mI (li2:St->AF) :
 (fun a b c d e f g h i j k l m o p q r s U=>Ay E D W N KB (Vo a b c d e f g h i j k l m o p q r s U) (kX dD [7] QR li2) (ji E D W N JT) (JO E))=Z4 E D W N (fun a b c d e f g h i j k l m o p q r s U=>li2 (Vo a b c d e f g h i j k l m o p q r s U)):=by
 unfold Z4;generalize JT=x0;revert x0;refine id ?_;intros;kernel_rfl
def mN (R2:Nat->Nat->V->Int->Int->Int->V->Bool->Bool->Bool->Bool->Int->Int->V->V->Int->Bool->Int->H->AF):=AEn E D W (Z4 E D W N R2)
theorem AAC (li2:St->AF) :
 (fun a b c d e f g h i j k l m o p q r s t u U=>Ay E D W N Nn (AFY a b c d e f g h i j k l m o p q r s t u U) (jj E D W N KB JT li2) (Bf 1 (jj E D W N KB JT li2) (ji E D W N JT)) (JO E))=mN E D W N (fun a b e f g h i j k l m o p q r s t u U=>li2 (Vo a b e f g h i j k l m o p q r s t u U)):=by
 unfold mN;rw[<-mI];generalize JT=x0,KB=x1;revert x0 x1;refine id ?_;intros;kernel_rfl
def u9 (R2:Nat->Nat->V->Int->Int->Int->V->Bool->Bool->Bool->Bool->Int->Int->V->V->Int->Bool->Int->H->AF) (n:Nat):Nat->Nat->Bool->Bool->V->Int->Int->V->Int->Int->Int->V->Bool->Bool->Bool->Bool->Int->Int->V->V->Int->Bool->Int->H->AF:=
 Nat.rec (fun _ _ _ _ _ _ _ _ _ _ _ _ _ _ _ _ _ _ _ _ _ _ _ _=>none) (fun _ ih=>AEm E D W (mN E D W N R2) ih) n
theorem zR (li2:St->AF) (n:Nat) :
 (fun a b c d e f g h i j k l m o p q r s t u v w x U=>BN (fun rec s'=>Ay E D W N Rk s' (kX ADG [7] QR rec) (AKb E D W N Nn KB JT li2) (JO E)) n (AFX a b c d e f g h i j k l m o p q r s t u v w x U))=u9 E D W N (fun a b e f g k l m o p q r s t u v w x U=>li2 (Vo a b e f g k l m o p q r s t u v w x U)) n:=AKP (fun li=>by rw[<-AAC];generalize JT=x0,KB=x1,Nn=x2;revert x0 x1 x2;refine id ?_;intros;kernel_rfl) n
def lp (n:Nat):Nat->Nat->V->Int->Int->Int->V->Bool->Bool->Bool->Bool->Int->Int->V->V->Int->Bool->Int->H->AF:=
 Nat.rec (fun _ _ _ _ _ _ _ _ _ _ _ _ _ _ _ _ _ _ _=>none) (fun _ ih=>ZH E D W (AGi E D W N ) (Z4 E D W N ih) (u9 E D W N ih N)) n
theorem zS (n:Nat) :
 (fun a b c d e f g h i j k l m o p q r s U=>BN (fun rec s'=>Ay E D W N (bc KB Nn Rk) s' (kX dD [7] QR rec) (ji E D W N JT) (JO E)) n (Vo a b c d e f g h i j k l m o p q r s U))=lp E D W N n:=AKQ (fun li=>by rw[<-mI,<-zR];generalize KB=x0,Nn=x1,Rk=x2;revert x0 x1 x2;refine id ?_;intros;kernel_rfl) n
def mO:=ZJ E D W (lp E D W N N)
theorem AAD :
 (fun a b c d e f g h i U=>Ay E D W N (ve JT (bc KB Nn Rk)) (AFZ a b c d e f g h i U) (JO E) nX (JO E))=mO E D W N:=by
 unfold mO;rw[<-zS];generalize bc KB Nn Rk=x0,JT=x1;revert x0 x1;refine id ?_;intros;kernel_rfl
def F93 (args:List V) (U:H):AF:=
 Ae args fun a b=>
 B4 a fun a c=>
 Dy .i64 b fun b d=>
 Ae d fun d e=>
 CW d fun d=>
 uB d fun d f g h i j=>
 BJ e (
 mO E D W N a c b d f g h i j U)
def A93:Dv:=⟨91,[.ptr,.i,y2],[(.tmp 6)],(ve JT (bc KB Nn Rk))⟩
theorem AMF (args:List V) (U:H):B9 E D W N A93 args U=F93 E D W N args U:=by
 unfold F93;rw[<-AAD];kernel_rfl
def AIa (cc1:XC):XC:=(.z (.P 3 (.box 42 (.t 0))<|
.aW 6)
 (.z (.aB 11 0 3 .i<|
.b 13 .rem .none (.t 12) (.i 4)<|
.b 14 .add .none (.t 13) (.i 4)<|
.P 15 (.conv (.toInt .u8) (.t 14))<|
.b 16 .rem .none (.t 15) (.con (V.int .u8 (AA 4)))<|
.b 17 .shl .none (.t 16) (.con (V.int .u64 (AA 6)))<|
.aH 7 17)
 (.seq (.z (.aH 18 1)
 (.cond (.tmp 18) (.ops (.m 19 7<|
.b 20 .or .none (.t 19) (.con (V.int .u8 (AA 32)))<|
.aH 7 20))
 .skip))
 (.keep [(2,.i),(3,.ptr),(7,(.int .u8))] [] [] cc1))))
def j0 (E:EB) (D:Ai) (W:AH) (K1:Int->Nat->Nat->Int->H->AF) (a b:Int) (c:Bool) (d:Int) (U:H):AF:=
 Ix [.int .i64 a,.int .i64 b] U fun e=>
 lI E e (H.next U) 0 fun f=>
 AI c (
 K1 d (H.next U) 0 (Ny .u8 (SM .u8 (Lo (BE .u8 (Ba .i64 (Lo f (AA 4)) (AA 4))) (AA 4)) 6) (AA 32)) e) (
 K1 d (H.next U) 0 (SM .u8 (Lo (BE .u8 (Ba .i64 (Lo f (AA 4)) (AA 4))) (AA 4)) 6) e)
def AIZ (cc2:XC):XC:=(.z (.aB 21 1 3 .i<|
.p 23 [22] (.max (.t 22) [(.i 0)])<|
.aH 8 23)
 (.z (.aW 9)
 (.seq (.z (.m 24 8<|
.b 25 .lss .none (.t 24) (.i 31)<|
.nil)
 (.cond (.tmp 25) (.ops (.aC 26 7 8<|
.P 28 (.conv (.toInt .u8) (.t 27))<|
.b 29 .or .none (.t 26) (.t 28)<|
.p 30 [29] (.buildSlice 5 1 [WY] [(0,1,(.t 29))])<|
.aH 9 30))
 (.ops (.m 31 7<|
.b 32 .or .none (.t 31) (.con (V.int .u8 (AA 31)))<|
.p 33 [32] (.buildSlice 5 1 [WY] [(0,1,(.t 32))])<|
.bR 34 8<|
.k 36 .one 116 [(.t 35)]<|
.p 37 [33,36] (.buildSlice 22 2 [V.nils,V.nils] [(0,1,(.t 33)),(1,1,(.t 36))])<|
.k 38 .one 58 [(.t 37)]<|
.aH 9 38))))
 (.keep [(2,.i),(9,.any)] [] [] cc2))))
def Q9 (E:EB) (D:Ai) (W:AH) (K2:Int->V->H->AF) (a:Int) (b c:Nat) (d:Int) (U:H):AF:=
 lI E U b (AP c 1) fun e=>
 AI (Ci (Nz e (AA 0)) (AA 31)) (
 let f:=Br U (.cells [.int .u8 (Ny .u8 d (BE .u8 (Nz e (AA 0))))]);
 K2 a (V.sl (H.next U) 0 1 (.ex 1)) f) (
 let f:=Br U (.cells [.int .u8 (Ny .u8 d (AA 31))]);
 CM (D 116 [.int .u64 (BE .u64 (Nz e (AA 0)))] f) fun e f=>
 CB e (
 D9 [(0,1,(V.sl (H.next U) 0 1 (.ex 1))),(1,1,e)] [V.nils,V.nils] fun e=>
 GK (An e) (
 let g:=Br f (.cells e);
 CM (D 58 [.sl (H.next f) 0 2 (.ex 2)] g) fun e f=>
 CB e (
 K2 a e f))))
def AIY:XC:=(.z (.m 39 2<|
.p 40 [39] (.max (.t 39) [(.i 0)])<|
.aH 2 40)
 (.seq (.z (.aY 41 2 128<|
.nil)
 (.cond (.tmp 42) (.z (.aC 43 9 2<|
.P 45 (.conv (.toInt .u8) (.t 44))<|
.aX 46 45 5 1 WY 0 1 45 .one 5 1 1 43<|
.aH 6 47)
 .ret)
 .skip))
 (.z (.bR 48 2<|
.k 50 .one 117 [(.t 49)]<|
.aH 10 50)
 (.z (.aC 51 9 10<|
.u 53 52<|
.P 54 (.conv (.toInt .u8) (.t 53))<|
.b 55 .or .none y21 (.t 54)<|
.p 56 [55] (.buildSlice 5 1 [WY] [(0,1,(.t 55))])<|
.m 57 10<|
.p 58 [51,56,57] (.buildSlice 22 3 [V.nils,V.nils,V.nils] [(0,1,(.t 51)),(1,1,(.t 56)),(2,1,(.t 57))])<|
.k 59 .one 58 [(.t 58)]<|
.aH 6 59)
 .ret))))
def Q8 (E:EB) (D:Ai) (W:AH) (a:Int) (b:V) (U:H):AF:=
 AI (Ci (Nz a (AA 0)) (AA 128)) (
 let c:=Br U (.cells [.int .u8 (BE .u8 (Nz a (AA 0)))]);
 DV E 1 1 b (V.sl (H.next U) 0 1 (.ex 1)) c fun c d=>
 CB c (
 some (c,d))) (
 CM (D 117 [.int .u64 (BE .u64 (Nz a (AA 0)))] U) fun c d=>
 CB c (
 A0 c fun e=>
 let f:=Br d (.cells [.int .u8 (Ny .u8 (AA 128) (BE .u8 (AA e)))]);
 D9 [(0,1,b),(1,1,(V.sl (H.next d) 0 1 (.ex 1))),(2,1,c)] [V.nils,V.nils,V.nils] fun c=>
 GK (An c) (
 let d:=Br f (.cells c);
 CM (D 58 [.sl (H.next f) 0 3 (.ex 3)] d) fun c d=>
 CB c (
 some (c,d)))))
def AGg (E:EB) (D:Ai) (W:AH) (N:Nat):=Q8 E D W
def AGh:=Q9 E D W (AGg E D W N )
def F94 (args:List V) (U:H):AF:=
 Ae args fun a b=>
 CW a fun a=>
 uE a fun a c=>
 uAB b fun b d=>
 j0 E D W (AGh E D W N ) a c b d U
def A94:Dv:=⟨60,[y8,.bool,.i],[(.tmp 6)],(AIa (AIZ AIY))⟩
theorem AME (args:List V) (U:H):B9 E D W N A94 args U=F94 E D W N args U:=by kernel_rfl
def px:List (Nat × CZ):=[(0,.any),(1,.i),(2,.any),(6,.i),(7,.i),(8,.i)]
def pr:List (Nat × CZ):=[(0,.any),(1,.i),(2,.any),(6,.i),(7,.i)]
def UP:List (Nat × CZ):=[(0,.any),(1,.i),(2,.any),(6,.i)]
def Hs (E:EB):St->AF:=fun s=>DR E s [] fun l=>some (Dh l,s.U)
def AKa (c0:XC) (l0:St->AF):Nat->St->AF:=Bf 4 (dX E D W N (.keep pr [] [] c0) (kX UP [] [] l0) (Bf 3 (kX UP [] [] l0) (Bf 2 (Hs E) nX)) (Hs E)) (Bf 3 (kX UP [] [] l0) (Bf 2 (Hs E) nX))
def AKZ (c0:XC):Nat->St->AF:=Bf 0 (dX E D W N (.keep pr [] [] c0) (Hs E) nX (Hs E)) nX
def vd (cc1:XC) (cc2:XC):XC:=(.z (.aN 6 20)
 (.z (.m 10 6<|
.q 7 0<|
.bO 8)
 (.seq (.block 0 (.loop px [] [] cc2))
 (.keep pr [] [] cc1))))
def AEl (E:EB) (D:Ai) (W:AH) (K2:V->Int->V->Int->Int->Int->H->AF) (a:V) (b:Int) (c:V) (U:H):AF:=
 K2 a b c (AA 20) (AA 0) (AA 20) U
def Rj (cc3:XC):XC:=(.z (.aC 23 0 7<|
.aC 25 1 2<|
.k 27 HM 118 [(.t 23),(.t 24),(.t 25),(.t 26)]<|
.nil)
 (.block 2 (.loop UP [] [] cc3)))
def ZG (E:EB) (D:Ai) (W:AH) (K3:V->Int->V->Int->H->AF) (a:V) (b:Int) (c:V) (d e:Int) (U:H):AF:=
 c0 (D 118 [a,.int .i64 e,.int .i64 b,c] U) fun f=>
 K3 a b c d f
def ba:XC:=(.seq (.z (.aC 11 8 1<|
.b 13 .leq .none (.t 11) (.t 12)<|
.nil)
 (.cond (.tmp 13) .skip
 Jh))
 (.block 1 (.z (.aC 14 0 7<|
.aC 16 8 2<|
.k 18 HM 118 [(.t 14),(.t 15),(.t 16),(.t 17)]<|
.nil)
 (.z (.m 19 8<|
.aH 7 19)
 (.ops (.aC 20 8 6<|
.b 22 .add .none (.t 20) (.t 21)<|
.aH 8 22))))))
def ZF (E:EB) (D:Ai) (W:AH) (K1:V->Int->V->Int->Int->H->AF) (R2:V->Int->V->Int->Int->Int->H->AF) (a:V) (b:Int) (c:V) (d e f:Int) (U:H):AF:=
 AI (I3 f b) (
 c0 (D 118 [a,.int .i64 e,.int .i64 f,c] U) fun g=>
 R2 a b c d f (Ba .i64 f d) g) (
 K1 a b c d e U)
def Nm (cc4:XC) (cc5:XC):XC:=(.seq (.z (.aC 28 6 1<|
.aF 30 28 29)
 (.cond (.tmp 30) .skip
 (.exit 2)))
 (.block 3 (.z (.m 31 6<|
.b 32 .mul .none (.i 2) (.t 31)<|
.q 7 0<|
.aH 8 32)
 (.seq (.block 4 (.loop px [] [] cc5))
 (.keep pr [] [] cc4)))))
def ZE (E:EB) (D:Ai) (W:AH) (K5:V->Int->V->Int->Int->Int->H->AF) (a:V) (b:Int) (c:V) (d:Int) (U:H):AF:=
 AI (Ci d b) (
 K5 a b c d (AA 0) (Iy .i64 (AA 2) d) U) (
 r0 U)
def JS (cc6:XC):XC:=(.seq (.z (.aC 49 7 6<|
.b 51 .add .none (.t 49) (.t 50)<|
.aH 9 51)
 (.z (.aC 52 9 1<|
.aF 54 52 53)
 (.cond (.tmp 54) (.ops (.aC 55 0 7<|
.aC 57 9 1<|
.m 59 2<|
.k 60 HM 119 [(.t 55),(.t 56),(.t 57),(.t 58),(.t 59)]<|
.nil))
 .skip)))
 (.keep UP [] [] cc6))
def AEk (E:EB) (D:Ai) (W:AH) (K6:V->Int->V->Int->H->AF) (a:V) (b:Int) (c:V) (d e:Int) (U:H):AF:=
 AI (Ci (Ba .i64 e d) b) (
 c0 (D 119 [a,.int .i64 e,.int .i64 (Ba .i64 e d),.int .i64 b,c] U) fun f=>
 K6 a b c d f) (
 K6 a b c d U)
def Kx:XC:=(.seq (.z (.aC 33 8 1<|
.b 35 .leq .none (.t 33) (.t 34)<|
.nil)
 (.cond (.tmp 35) .skip
 (.exit 4)))
 (.block 5 (.z (.aC 36 0 7<|
.aC 38 7 6<|
.b 40 .add .none (.t 38) (.t 39)<|
.aC 41 8 2<|
.k 43 HM 119 [(.t 36),(.t 37),(.t 40),(.t 41),(.t 42)]<|
.nil)
 (.z (.m 44 8<|
.aH 7 44)
 (.ops (.aC 45 8 6<|
.b 47 .mul .none (.i 2) (.t 46)<|
.b 48 .add .none (.t 45) (.t 47)<|
.aH 8 48))))))
def AEj (E:EB) (D:Ai) (W:AH) (K4:V->Int->V->Int->Int->H->AF) (R5:V->Int->V->Int->Int->Int->H->AF) (a:V) (b:Int) (c:V) (d e f:Int) (U:H):AF:=
 AI (I3 f b) (
 c0 (D 119 [a,.int .i64 e,.int .i64 (Ba .i64 e d),.int .i64 f,c] U) fun g=>
 R5 a b c d f (Ba .i64 f (Iy .i64 (AA 2) d)) g) (
 K4 a b c d e U)
def JR:XC:=(.ops (.m 61 6<|
.b 62 .mul .none (.t 61) (.i 2)<|
.aH 6 62))
def AEi (E:EB) (D:Ai) (W:AH) (R3:V->Int->V->Int->H->AF) (a:V) (b:Int) (c:V) (d:Int) (U:H):AF:=
 R3 a b c (Iy .i64 d (AA 2)) U
def AFW (a:V) (b:Int) (c:V) (U:H):St:=⟨[(0,a),(1,.int .i64 b),(2,c)],[],[],U⟩
def uv (a:V) (b:Int) (c:V) (d e:Int) (U:H):St:=⟨[(0,a),(1,.int .i64 b),(2,c),(6,.int .i64 d),(7,.int .i64 e)],[],[],U⟩
def uu (a:V) (b:Int) (c:V) (d e f:Int) (U:H):St:=⟨[(0,a),(1,.int .i64 b),(2,c),(6,.int .i64 d),(7,.int .i64 e),(8,.int .i64 f)],[],[],U⟩
def lP (a:V) (b:Int) (c:V) (d:Int) (U:H):St:=⟨[(0,a),(1,.int .i64 b),(2,c),(6,.int .i64 d)],[],[],U⟩
def AGf (E:EB) (D:Ai) (W:AH) (N:Nat) (R3:V->Int->V->Int->H->AF):=AEi E D W R3
def mK (R3:V->Int->V->Int->H->AF):=AEk E D W (AGf E D W N R3)
theorem z9 (li3:St->AF) :
 (fun a b c d e U=>Ay E D W N (JS JR) (uv a b c d e U) (kX UP [] [] li3) (Bf 3 (kX UP [] [] li3) (Bf 2 (Hs E) nX)) (Hs E))=mK E D W N (fun a b c d U=>li3 (lP a b c d U)):=by
 unfold mK;kernel_rfl
def uz (R3:V->Int->V->Int->H->AF) (n:Nat):V->Int->V->Int->Int->Int->H->AF:=
 Nat.rec (fun _ _ _ _ _ _ _=>none) (fun _ ih=>AEj E D W (mK E D W N R3) ih) n
theorem zO (li3:St->AF) (n:Nat) :
 (fun a b c d e f U=>BN (fun rec s'=>Ay E D W N Kx s' (kX px [] [] rec) (AKa E D W N (JS JR) li3) (Hs E)) n (uu a b c d e f U))=uz E D W N (fun a b c d U=>li3 (lP a b c d U)) n:=qc (fun li=>by rw[<-z9];generalize JS JR=x0;revert x0;refine id ?_;intros;kernel_rfl) n
def u0 (n:Nat):V->Int->V->Int->H->AF:=
 Nat.rec (fun _ _ _ _ _=>none) (fun _ ih=>ZE E D W (uz E D W N ih N)) n
theorem zP (n:Nat) :
 (fun a b c d U=>BN (fun rec s'=>Ay E D W N (Nm (JS JR) Kx) s' (kX UP [] [] rec) (Bf 2 (Hs E) nX) (Hs E)) n (lP a b c d U))=u0 E D W N n:=WU (fun li=>by rw[<-zO];generalize JS JR=x0,Kx=x1;revert x0 x1;refine id ?_;intros;kernel_rfl) n
def mL:=ZG E D W (u0 E D W N N)
theorem AAA :
 (fun a b c d e U=>Ay E D W N (Rj (Nm (JS JR) Kx)) (uv a b c d e U) (Hs E) nX (Hs E))=mL E D W N:=by
 unfold mL;rw[<-zP];generalize Nm (JS JR) Kx=x0;revert x0;refine id ?_;intros;kernel_rfl
def u7 (n:Nat):V->Int->V->Int->Int->Int->H->AF:=
 Nat.rec (fun _ _ _ _ _ _ _=>none) (fun _ ih=>ZF E D W (mL E D W N ) ih) n
theorem zQ (n:Nat) :
 (fun a b c d e f U=>BN (fun rec s'=>Ay E D W N ba s' (kX px [] [] rec) (AKZ E D W N (Rj (Nm (JS JR) Kx))) (Hs E)) n (uu a b c d e f U))=u7 E D W N n:=qc (fun li=>by rw[<-AAA];generalize Rj (Nm (JS JR) Kx)=x0;revert x0;refine id ?_;intros;kernel_rfl) n
def mM:=AEl E D W (u7 E D W N N)
theorem AAB :
 (fun a b c U=>Ay E D W N (vd (Rj (Nm (JS JR) Kx)) ba) (AFW a b c U) (Hs E) nX (Hs E))=mM E D W N:=by
 unfold mM;rw[<-zQ];generalize Rj (Nm (JS JR) Kx)=x0,ba=x1;revert x0 x1;refine id ?_;intros;kernel_rfl
def F95 (args:List V) (U:H):AF:=
 uAC args fun a b c=>
 mM E D W N a b c U
def A95:Dv:=⟨63,[.any,.i,.any],[],(vd (Rj (Nm (JS JR) Kx)) ba)⟩
theorem AMD (args:List V) (U:H):B9 E D W N A95 args U=F95 E D W N args U:=by
 unfold F95;rw[<-AAB];kernel_rfl
def AIX:XC:=(.z (.pal 2 [] 42 [y0,y0]<|
.nil)
 (.z (.m 9 0<|
.k 10 (.tup [y8,.bool,.i,.i,.i]) 120 [(.t 9)]<|
.m 8 10<|
.aG 11 0 8 1 8<|
.aG 13 2 8 3 8<|
.P 15 (.extract 4 (.t 8))<|
.pal 3 [] 42 [y0,y0]<|
.op none y8 [3,11] (.store 2 (.t 3) (.t 11))<|
.m 4 12<|
.m 5 13<|
.m 6 14<|
.m 7 15<|
.nil)
 (.z (.bB 16 y8 2 3 y8 2 2 2<|
.nil)
 .ret)))
def jz (E:EB) (D:Ai) (W:AH) (a:V) (U:H):AF:=
 cT (D 120 [a] U) fun b c=>
 Ae b fun b d=>
 CW b fun b=>
 uE b fun b e=>
 uAD d fun d f g h=>
 some ((V.agg [.int .i64 b,.int .i64 e]),c)
def F96 (N:Nat) (args:List V) (U:H):AF:=
 Ae args fun a b=>
 BJ b (
 jz E D W a U)
def A96:Dv:=⟨17,[.any],[(.cell 2 (some 2))],AIX⟩
theorem AMC (args:List V) (U:H):B9 E D W N A96 args U=F96 E D W N args U:=by kernel_rfl
def AIW:XC:=(.z (.P 2 (.box 42 (.t 0))<|
.P 3 (.box 42 (.t 1))<|
.aT 4 y3)
 (.seq (.z (.aB 5 0 2 .i<|
.aB 7 0 3 .i<|
.b 9 .neq .none (.t 6) (.t 8)<|
.nil)
 (.cond (.tmp 9) (.z (.aB 10 0 2 .i<|
.aB 12 0 3 .i<|
.b 14 .lss .none (.t 11) (.t 13)<|
.aH 4 14)
 .ret)
 .skip))
 (.z (.aB 15 1 2 .i<|
.aB 17 1 3 .i<|
.b 19 .lss .none (.t 16) (.t 18)<|
.aH 4 19)
 .ret)))
def jy (E:EB) (D:Ai) (W:AH) (a b c d:Int) (U:H):AF:=
 Ix [.int .i64 a,.int .i64 b] U fun e=>
 Ix [.int .i64 c,.int .i64 d] e fun f=>
 lI E f (H.next U) 0 fun g=>
 lI E f (H.next e) 0 fun h=>
 AI (not (Bt g h)) (
 lI E f (H.next U) 0 fun g=>
 lI E f (H.next e) 0 fun h=>
 rB (Ci g h) f) (
 lI E f (H.next U) 1 fun g=>
 lI E f (H.next e) 1 fun e=>
 rB (Ci g e) f)
def F97 (N:Nat) (args:List V) (U:H):AF:=
 Ae args fun a b=>
 CW a fun a=>
 uE a fun a c=>
 Ae b fun b d=>
 CW b fun b=>
 uE b fun b e=>
 BJ d (
 jy E D W a c b e U)
def A97:Dv:=⟨20,[y8,y8],[(.tmp 4)],AIW⟩
theorem AMB (args:List V) (U:H):B9 E D W N A97 args U=F97 E D W N args U:=by kernel_rfl
end
noncomputable section
variable (E:EB) (D:Ai) (W:AH) (N:Nat)
def AIV:XC:=(.z (.aW 0)
 (.z (.p 1 [] (.buildSlice 9 25 [y5,y5,y5,y5,y5,y5,y5,y5,y5,y5,y5,y5,y5,y5,y5,y5,y5,y5,y5,y5,y5,y5,y5,y5,y5] [(0,1,(.con (V.str ⟨11,100710650190388740279911748⟩))),(1,1,y35),(2,1,y36),(3,1,(.con (V.str ⟨9,1241215773001651606849⟩))),(4,1,y32),(5,1,(.con (V.str ⟨5,336236856642⟩))),(6,1,(.con (V.str ⟨3,4476485⟩))),(7,1,(.con (V.str ⟨7,22026814072246082⟩))),(8,1,(.con (V.str ⟨7,23157120498421321⟩))),(9,1,y31),(10,1,(.con (V.str ⟨4,1280070990⟩))),(11,1,(.con (V.str ⟨5,361940403023⟩))),(12,1,(.con (V.str ⟨6,78401563153491⟩))),(13,1,y30),(14,1,y37),(15,1,(.con (V.str ⟨3,5522771⟩))),(16,1,(.con (V.str ⟨6,76155295057987⟩))),(17,1,(.con (V.str ⟨2,17999⟩))),(18,1,(.con (V.str ⟨8,5494759122808361039⟩))),(19,1,(.con (V.str ⟨7,23727827094750532⟩))),(20,1,(.con (V.str ⟨4,1163544915⟩))),(21,1,(.con (V.str ⟨3,5130573⟩))),(22,1,(.con (V.str ⟨3,5783885⟩))),(23,1,(.con (V.str ⟨4,1163219540⟩))),(24,1,(.con (V.str ⟨5,297750249798⟩)))])<|
.m 0 1<|
.nil)
 .ret))
def AEh (E:EB) (D:Ai) (W:AH) (U:H):AF:=
 let a:=Br U (.cells [sN 11 100710650190388740279911748,sN 8 6073459554577832005,sN 8 6073459554577829193,sN 9 1241215773001651606849,sN 4 1397178708,sN 5 336236856642,sN 3 4476485,sN 7 22026814072246082,sN 7 23157120498421321,sN 10 322399817400452109389381,sN 4 1280070990,sN 5 361940403023,sN 6 78401563153491,sN 10 488440487847103610377301,sN 8 4990918871747741011,sN 3 5522771,sN 6 76155295057987,sN 2 17999,sN 8 5494759122808361039,sN 7 23727827094750532,sN 4 1163544915,sN 3 5130573,sN 3 5783885,sN 4 1163219540,sN 5 297750249798]);
 some ((V.sl (H.next U) 0 25 (.ex 25)),a)
def F98 (N:Nat) (args:List V) (U:H):AF:=
 BJ args (
 AEh E D W  U)
def A98:Dv:=⟨2,[],[(.tmp 0)],AIV⟩
theorem AMA (args:List V) (U:H):B9 E D W N A98 args U=F98 E D W N args U:=by kernel_rfl
def M9:List BO:=[⟨(some 35),.mov (.tmp 1),none⟩,⟨(some 36),.mov (.tmp 1),none⟩,⟨(some 37),.nilck (.tmp 36),none⟩,⟨(some 38),.faddr 12 (.tmp 37),none⟩,⟨(some 39),.load none (.tmp 38),none⟩,⟨(some 40),.load (some 11) (.tmp 8),none⟩,⟨(some 41),.buildSlice 102 1 [(V.str ⟨0,0⟩),(V.int .i64 (AA 0)),(V.bool false),(V.bool false),(V.int .i64 (AA 0)),(V.int .i64 (AA 0)),V.nils,V.nils,(V.int .i64 (AA 0)),V.nils,(V.int .i64 (AA 0))] [(0,11,(.tmp 40))],none⟩,⟨(some 42),.append 102 11 136 (.tmp 39) (.tmp 41),none⟩,⟨(some 43),.nilck (.tmp 35),none⟩,⟨(some 44),.faddr 12 (.tmp 43),none⟩,⟨none,.store 1 (.tmp 44) (.tmp 42),none⟩]
def KA:List DP:=[⟨0,[1]⟩,⟨0,[1]⟩,⟨2,[36]⟩,⟨6,[37]⟩,⟨14,[38]⟩,⟨0,[8]⟩,⟨32,[40]⟩,⟨126,[39,41]⟩,⟨255,[35]⟩,⟨511,[43]⟩,⟨1023,[44,42]⟩]
def ABX (cc1:XC):XC:=(.z (.m 9 0<|
.k 10 .str 20 [(.t 9),(.i 2)]<|
.m 11 3<|
.op (some 12) y9 [10,11] (.build [y5,y0,y3,y3,y0,y0,V.nils,V.nils,y0,V.nils,y0] [(0,1,(.t 10)),(10,1,(.t 11))])<|
.p 8 [] (.alloc 102 [y5,y0,y3,y3,y0,y0,V.nils,V.nils,y0,V.nils,y0])<|
.op none y9 [8,12] (.store 11 (.t 8) (.t 12))<|
.nil)
 (.z (.aC 13 0 2<|
.b 15 .add .none (.t 14) (.i 1)<|
.k 16 .i 25 [(.t 13),(.t 15)]<|
.bH 17 1 8 1 16)
 (.seq (.block 0 (.z (.aM 19 1<|
.aB 21 0 20 .i<|
.aD 23 22 9 18)
 (.cond (.tmp 18) .skip
 (.z (.aR 25 0 .bool 22 8 5494759122808361039<|
.bO 24)
 (.cond (.tmp 24) (.ops (.f 27 2 8<|
.op none .any [27] (.store 1 (.t 27) Me)<|
.nil))
 (.z (.aR 29 0 .bool 22 7 23727827094750532<|
.bO 28)
 (.cond (.tmp 28) (.ops (.m 31 0<|
.k 32 y2 122 [(.t 31)]<|
.f 33 3 8<|
.op none .any [33] (.store 1 (.t 33) Me)<|
.bU 34 4 8 y2 32 6 32))
 .skip)))))))
 (.keep [(1,.ptr),(8,.ptr)] [] [] cc1))))
def Pr (E:EB) (D:Ai) (W:AH) (K1:Nat->Nat->Nat->Nat->H->AF) (a:V) (b c:Nat) (d e:Int) (U:H):AF:=
 cS (D 20 [a,iN 2] U) fun f g=>
 let h:=Br g (.cells [.str ⟨0,0⟩,iN 0,.bool false,.bool false,iN 0,iN 0,V.nils,V.nils,iN 0,V.nils,iN 0]);
 DX 11 (H.next g) 0 (V.agg [.str f,iN 0,.bool false,.bool false,iN 0,iN 0,V.nils,V.nils,iN 0,V.nils,.int .i64 e]) h fun f=>
 cI (D 25 [a,.int .i64 (Ba .i64 d (AA 1))] f) fun f h=>
 DX 1 (H.next g) 1 (V.int .i64 f) h fun f=>
 lI E f b c fun h=>
 AI (Bt h (AA 9)) (
 K1 b c (H.next g) 0 f) (
 cB (D 22 [a,sN 8 5494759122808361039] f) fun f h=>
 AI f (
 DX 1 (H.next g) 2 (V.bool true) h fun f=>
 K1 b c (H.next g) 0 f) (
 cB (D 22 [a,sN 7 23727827094750532] h) fun f h=>
 AI f (
 cA (D 122 [a] h) fun f i=>
 uB f fun f j k l m n=>
 DX 1 (H.next g) 3 (V.bool true) i fun i=>
 DX 6 (H.next g) 4 (V.agg (eB f j k l m n)) i fun f=>
 K1 b c (H.next g) 0 f) (
 K1 b c (H.next g) 0 h)))
def ABW:XC:=(.keep [(1,.ptr),(8,.ptr)] [] [] (.gdraw M9 KA []))
def S3 (E:EB) (D:Ai) (W:AH) (a b c d:Nat) (U:H):AF:=
 Cc (W M9 KA [(1,.ptr a b),(8,.ptr c d)] U) fun e f=>
 r0 f
def ABI (E:EB) (D:Ai) (W:AH) (N:Nat):=S3 E D W
def oH (args:List V) (U:H):AF:=
 uAE args fun a b c d e=>
 Pr E D W (ABI E D W N ) a b c d e U
def AON:Dv:=⟨45,[.any,.ptr,.i,.i],[],(ABX ABW)⟩
theorem AHX (args:List V) (U:H):B9 E D W N AON args U=oH E D W N args U:=by kernel_rfl
def Yc:List (Nat × CZ):=[(0,.any),(3,.ptr),(5,.any),(6,.i),(7,.i)]
def Kl:List (Nat × CZ):=[(0,.any),(3,.ptr),(5,.any),(6,.i)]
def UR:List (Nat × CZ):=[(0,.any),(3,.ptr)]
def oA:List BO:=[⟨(some 59),.faddr 11 (.tmp 3),none⟩,⟨(some 60),.load none (.tmp 59),none⟩,⟨(some 61),.un .not (.tmp 60),none⟩,⟨(some 62),.mov (.tmp 61),none⟩,⟨(some 63),.mov (.tmp 0),(some (62,false))⟩,⟨(some 64),.faddr 9 (.tmp 3),(some (62,false))⟩,⟨(some 65),.load none (.tmp 64),(some (62,false))⟩,⟨(some 66),.load (some 13) (.tmp 3),(some (62,false))⟩,⟨(some 67),.call 126 [(.tmp 66)],(some (62,false))⟩,⟨(some 68),.sliceSl 11 (.tmp 65) (some (.tmp 67)) none none,(some (62,false))⟩,⟨(some 69),.call 124 [(.tmp 63),(.tmp 68),(.con (V.bool true))],(some (62,false))⟩,⟨(some 70),.pick (.tmp 62) (.con (V.bool true)) (.tmp 69),none⟩,⟨(some 4),.mov (.tmp 70),none⟩]
def n9:List DP:=[⟨0,[3]⟩,⟨1,[59]⟩,⟨3,[60]⟩,⟨7,[61]⟩,⟨15,[0,62]⟩,⟨15,[3,62]⟩,⟨47,[64,62]⟩,⟨15,[3,62]⟩,⟨143,[66,62]⟩,⟨495,[65,67,62]⟩,⟨1023,[63,68,62]⟩,⟨2047,[62,69]⟩,⟨4095,[70]⟩]
def FH (E:EB):St->AF:=fun s=>DR E s [(.tmp 4)] fun l=>some (Dh l,s.U)
def jm (c0 c1:XC) (l0:St->AF):Nat->St->AF:=Bf 1 (dX E D W N (.keep Kl [] [] c0) (kX Kl [] [] l0) (Bf 0 (dX E D W N (.keep UR [] [] c1) (FH E) nX (FH E)) nX) (FH E)) (Bf 0 (dX E D W N (.keep UR [] [] c1) (FH E) nX (FH E)) nX)
def Y6 (c0:XC):Nat->St->AF:=Bf 0 (dX E D W N (.keep UR [] [] c0) (FH E) nX (FH E)) nX
def AEb (c0 c1 c2:XC) (l0:St->AF):Nat->St->AF:=Bf 2 (dX E D W N (.keep Yc [] [] c0) (dX E D W N (.keep Kl [] [] c1) (kX Kl [] [] l0) (Y6 E D W N c2) (FH E)) (jm E D W N c1 c2 l0) (FH E)) (jm E D W N c1 c2 l0)
def oV (cc1:XC) (cc2:XC):XC:=(.z (.P 3 (.box 99 (.t 1))<|
.aT 4 y3)
 (.seq (.z (.aP 8 0 3 7<|
.nil)
 (.cond (.tmp 10) (.z (.m 11 0<|
.aB 12 9 3 .any<|
.aB 14 11 3 .bool<|
.k 16 .bool 124 [(.t 11),(.t 13),(.t 15)]<|
.aH 4 16)
 .ret)
 .skip))
 (.z (.O 17 y1 (.load (some 13) (.t 3))<|
.k 18 .one 125 [(.t 17)]<|
.aH 5 18)
 (.seq (.z (.aN 6 0)
 (.block 0 (.loop Kl [] [] cc2)))
 (.keep UR [] [] cc1)))))
def S1 (E:EB) (D:Ai) (W:AH) (K2:V->Nat->Nat->V->Int->H->AF) (a:V) (b:Int) (c:V) (d e f g:Bool) (h i:Int) (j k:V) (l:Int) (m:Bool) (o:Int) (U:H):AF:=
 Ix (eJ b c d e f g h i j k l m o) U fun n=>
 lI E n (H.next U) 0 fun p=>
 AI (not (Bt p (AA 7))) (
 EG E n (H.next U) 9 fun p=>
 lB E n (H.next U) 11 fun q=>
 cB (D 124 [a,p,.bool q] n) fun p q=>
 rB p q) (
 Bv E n (H.next U) 0 13 fun p=>
 uJ p fun p q r s t u v w x y z aa ab=>
 CM (D 125 [.agg (eJ p q r s t u v w x y z aa ab)] n) fun n p=>
 CB n (
 K2 a (H.next U) 0 n (AA 0) p))
def Hu:XC:=(.seq (.keep UR [] [] (.gdraw oA n9 [(4,.bool)]))
 .ret)
def yj (E:EB) (D:Ai) (W:AH) (a:V) (b c:Nat) (U:H):AF:=
 Cc (W oA n9 [(0,a),(3,.ptr b c)] U) fun d e=>
 BL d 4 fun d=>
 Ct d fun d=>
 rB d e
def Ts (cc3:XC) (cc4:XC) (cc5:XC):XC:=(.seq (.z (.m 19 6<|
.aS 20 9 3<|
.aF 23 19 22)
 (.cond (.tmp 23) .skip
 Jh))
 (.seq (.block 1 (.seq (.z (.aC 26 5 6<|
.bT 28 1 26 27 .bool<|
.bK 30 29)
 (.cond (.tmp 30) (.exit 1)
 .skip))
 (.z (.m 31 6<|
.aA 32 31 1 7)
 (.seq (.block 2 (.loop Yc [] [] cc5))
 (.keep Yc [] [] cc4)))))
 (.keep Kl [] [] cc3)))
def yi (E:EB) (D:Ai) (W:AH) (K1:V->Nat->Nat->H->AF) (K3:V->Nat->Nat->V->Int->H->AF) (K5:V->Nat->Nat->V->Int->Int->H->AF) (a:V) (b c:Nat) (d:V) (e:Int) (U:H):AF:=
 lL E U b (AP c 9) fun f=>
 AI (Ci e (AA f)) (
 AW 1 d e fun f g=>
 lB E U f g fun f=>
 AI (not f) (
 K3 a b c d e U) (
 K5 a b c d e (Ba .i64 e (AA 1)) U)) (
 K1 a b c U)
def Ht:XC:=(.ops (.m 24 6<|
.aA 25 24 1 6))
def yh (E:EB) (D:Ai) (W:AH) (R2:V->Nat->Nat->V->Int->H->AF) (a:V) (b c:Nat) (d:V) (e:Int) (U:H):AF:=
 R2 a b c d (Ba .i64 e (AA 1)) U
def KF:XC:=(.z (.m 46 0<|
.aB 47 9 3 .any<|
.aC 49 6 7<|
.b 51 .add .none (.t 50) (.i 1)<|
.aS 52 9 3<|
.p 55 [51,54] (.min (.t 51) [(.t 54)])<|
.p 56 [48,49,55] (.sliceSl 11 (.t 48) (some (.t 49)) (some (.t 55)) none)<|
.k 57 .bool 124 [(.t 46),(.t 56),Qa]<|
.bK 58 57)
 (.cond (.tmp 58) (.z (.aT 4 y3)
 .ret)
 .skip))
def yg (E:EB) (D:Ai) (W:AH) (K3:V->Nat->Nat->V->Int->H->AF) (a:V) (b c:Nat) (d:V) (e f:Int) (U:H):AF:=
 EG E U b (AP c 9) fun g=>
 lL E U b (AP c 9) fun h=>
 gK (Cs 11 g (some (V.int .i64 e)) (some (V.int .i64 (AKN (Ba .i64 f (AA 1)) (AA h)))) none) fun g=>
 cB (D 124 [a,g,.bool false] U) fun g h=>
 AI (not g) (
 rB false h) (
 K3 a b c d e h)
def NI:XC:=(.seq (.z (.m 33 7<|
.aS 34 9 3<|
.b 37 .lss .none (.t 33) (.t 36)<|
.m 38 37<|
.gA 38 true (.p 39 [5,38] (.mov (.t 5))<|
.bA 40 7 38 7 39 38 1 39<|
.op (some 42) .bool [41,38] (.load none (.t 41))<|
.nil) 43 38 42<|
.nil)
 (.cond (.tmp 43) .skip
 (.exit 2)))
 (.block 3 (.ops (.m 44 7<|
.aA 45 44 1 7))))
def yf (E:EB) (D:Ai) (W:AH) (K4:V->Nat->Nat->V->Int->Int->H->AF) (R5:V->Nat->Nat->V->Int->Int->H->AF) (a:V) (b c:Nat) (d:V) (e f:Int) (U:H):AF:=
 lL E U b (AP c 9) fun g=>
 Af (fun h i=>
 AI h (
 R5 a b c d e (Ba .i64 f (AA 1)) i) (
 K4 a b c d e f i)) fun h=>
 AI (Ci f (AA g)) (
 AW 1 d f fun g i=>
 lB E U g i fun g=>
 h g U) (
 h false U)
def zL (a:V) (b:Int) (c:V) (d e f g:Bool) (h i:Int) (j k:V) (l:Int) (m:Bool) (o:Int) (U:H):St:=⟨[(0,a),(1,.agg [.int .i64 b,c,.bool d,.bool e,.bool f,.bool g,.int .i64 h,.int .i64 i,j,k,.int .i64 l,.bool m,.int .i64 o])],[],[],U⟩
def P1 (a:V) (b c:Nat) (d:V) (e:Int) (U:H):St:=⟨[(0,a),(3,.ptr b c),(5,d),(6,.int .i64 e)],[],[],U⟩
def la (a:V) (b c:Nat) (d:V) (e f:Int) (U:H):St:=⟨[(0,a),(3,.ptr b c),(5,d),(6,.int .i64 e),(7,.int .i64 f)],[],[],U⟩
def ABH (E:EB) (D:Ai) (W:AH) (N:Nat):=yj E D W
def TT (E:EB) (D:Ai) (W:AH) (N:Nat) (R2:V->Nat->Nat->V->Int->H->AF):=yh E D W R2
theorem Z3 (li2:St->AF) :
 (fun a b c d e U=>Ay E D W N Ht (P1 a b c d e U) (kX Kl [] [] li2) (Y6 E D W N Hu) (FH E))=TT E D W N (fun a b c d e U=>li2 (P1 a b c d e U)):=by
 unfold TT;generalize Hu=x0;revert x0;refine id ?_;intros;kernel_rfl
def X4 (R2:V->Nat->Nat->V->Int->H->AF):=yg E D W (TT E D W N R2)
theorem tK (li2:St->AF) :
 (fun a b c d e f U=>Ay E D W N KF (la a b c d e f U) (dX E D W N (.keep Kl [] [] Ht) (kX Kl [] [] li2) (Y6 E D W N Hu) (FH E)) (jm E D W N Ht Hu li2) (FH E))=X4 E D W N (fun a b c d e U=>li2 (P1 a b c d e U)):=by
 unfold X4;rw[<-Z3];generalize Hu=x0,Ht=x1;revert x0 x1;refine id ?_;intros;kernel_rfl
def mH (R2:V->Nat->Nat->V->Int->H->AF) (n:Nat):V->Nat->Nat->V->Int->Int->H->AF:=
 Nat.rec (fun _ _ _ _ _ _ _=>none) (fun _ ih=>yf E D W (X4 E D W N R2) ih) n
theorem sY (li2:St->AF) (n:Nat) :
 (fun a b c d e f U=>BN (fun rec s'=>Ay E D W N NI s' (kX Yc [] [] rec) (AEb E D W N KF Ht Hu li2) (FH E)) n (la a b c d e f U))=mH E D W N (fun a b c d e U=>li2 (P1 a b c d e U)) n:=qc (fun li=>by rw[<-tK];generalize Hu=x0,Ht=x1,KF=x2;revert x0 x1 x2;refine id ?_;intros;kernel_rfl) n
def Xm (n:Nat):V->Nat->Nat->V->Int->H->AF:=
 Nat.rec (fun _ _ _ _ _ _=>none) (fun _ ih=>yi E D W (ABH E D W N ) (TT E D W N ih) (mH E D W N ih N)) n
theorem sZ (n:Nat) :
 (fun a b c d e U=>BN (fun rec s'=>Ay E D W N (Ts Ht KF NI) s' (kX Kl [] [] rec) (Y6 E D W N Hu) (FH E)) n (P1 a b c d e U))=Xm E D W N n:=tu (fun li=>by rw[<-Z3,<-sY];generalize Ht=x0,KF=x1,NI=x2;revert x0 x1 x2;refine id ?_;intros;kernel_rfl) n
def X5:=S1 E D W (Xm E D W N N)
theorem tL :
 (fun a b c d e f g h i j k l m o U=>Ay E D W N (oV Hu (Ts Ht KF NI)) (zL a b c d e f g h i j k l m o U) (FH E) nX (FH E))=X5 E D W N:=by
 unfold X5;rw[<-sZ];generalize Ts Ht KF NI=x0,Hu=x1;revert x0 x1;refine id ?_;intros;kernel_rfl
def fJ (args:List V) (U:H):AF:=
 Ae args fun a b=>
 Ae b fun b c=>
 CW b fun b=>
 uJ b fun b d e f g h i j k l m n o=>
 BJ c (
 X5 E D W N a b d e f g h i j k l m n o U)
def AOM:Dv:=⟨71,[.any,y1],[(.tmp 4)],(oV Hu (Ts Ht KF NI))⟩
theorem AHW (args:List V) (U:H):B9 E D W N AOM args U=fJ E D W N args U:=by
 unfold fJ;rw[<-tL];kernel_rfl
def Yb:List (Nat × List CZ):=[(5,[.i,.any,.bool,.bool,.bool,.bool,.i,.i,.any,.any,.i,.bool,.i])]
def Ya:List (Nat × CZ):=[(6,.any),(33,.any),(34,.i),(35,.i)]
def NA (E:EB):St->AF:=fun s=>DR E s [(.tmp 4)] fun l=>some (Dh l,s.U)
def ui (c0:XC):Nat->St->AF:=Bf 0 (dX E D W N (.keep [(6,.any)] [] [] c0) (NA E) nX (NA E)) nX
def oU (cc1:XC) (cc2:XC):XC:=(.z (.P 2 (.box 31 (.t 0))<|
.aW 4)
 (.z (.bW 11 y6 4 2 1<|
.k 13 y1 130 [(.t 11),(.t 12)]<|
.pal 5 [] 99 [y0,V.nils,y3,y3,y3,y3,y0,y0,V.nils,V.nils,y0,y3,y0]<|
.op none y1 [5,13] (.store 13 (.t 5) (.t 13))<|
.nil)
 (.seq (.z (.aP 14 0 5 7<|
.m 17 16<|
.gA 17 true (.aE 18 5 17 0 5 17<|
.bP 20 19 17 19 8) 21 17 20<|
.m 22 21<|
.gA 22 true (.aE 23 5 22 0 5 22<|
.bP 25 24 22 24 9) 26 22 25<|
.nil)
 (.cond (.tmp 26) (.z (.aW 4)
 .ret)
 .skip))
 (.z (.aW 6)
 (.seq (.z (.aB 27 10 5 .i<|
.p 29 [28] (.max (.t 28) [(.i 0)])<|
.aS 30 9 5<|
.k 33 .one 131 [(.t 29),(.t 32)]<|
.u 34 33<|
.aN 35 0)
 (.block 0 (.loop Ya [5] Yb cc2)))
 (.keep [(6,.any)] [] [] cc1))))))
def S0 (E:EB) (D:Ai) (W:AH) (K2:V->V->Int->Int->Int->V->Bool->Bool->Bool->Bool->Int->Int->V->V->Int->Bool->Int->H->AF) (a:BS) (b c d:V) (e:Int) (U:H):AF:=
 Ix (eA a b c d) U fun f=>
 Bv E f (H.next U) 0 4 fun g=>
 uA g fun g h i j=>
 cA (D 130 [.agg (eA g h i j),.int .i64 e] f) fun f g=>
 uJ f fun f h i j k l m n o p q r s=>
 GK (An (eJ f h i j k l m n o p q r s)) (
 Af (fun t u=>
 Af (fun v w=>
 AI v (
 some (V.nils,w)) (
 A0 p fun v=>
 CM (D 131 [.int .i64 (Nz q (AA 0)),.int .i64 (AA v)] w) fun v w=>
 CB v (
 A0 v fun x=>
 K2 V.nils v (AA x) (AA 0) f h i j k l m n o p q r s w))) fun h=>
 AI t (
 h (not (Bt f (AA 9))) u) (
 h false u)) fun h=>
 AI (not (Bt f (AA 7))) (
 h (not (Bt f (AA 8))) g) (
 h false g))
def NH:XC:=(.z (.m 86 6<|
.aH 4 86)
 .ret)
def Sz (E:EB) (D:Ai) (W:AH) (a:V) (U:H):AF:=
 some (a,U)
def Tq (cc3:XC):XC:=(.z (.aF 36 35 34)
 (.seq (.cond (.tmp 36) .skip
 Jh)
 (.seq (.block 1 (.z (.bT 37 1 33 35 .i<|
.aH 8 38)
 (.z (.m 39 6<|
.u 40 39<|
.b 41 .sub .none (.t 40) (.i 1)<|
.aH 9 41)
 (.seq (.z (.aZ 42 9 5 8<|
.s 45 11 43 44<|
.aB 46 10 45 .i<|
.aH 10 47)
 (.z (.aP 48 0 5 9<|
.m 51 50<|
.gA 51 true (.p 52 [10,51] (.mov (.t 10))<|
.aQ 53 52 51 52 0) 54 51 53<|
.m 55 54<|
.gA 55 true (.p 56 [9,55] (.mov (.t 9))<|
.bQ 57 56 55 56 0) 58 55 57<|
.m 59 58<|
.gA 59 true (.bC 60 5 59 9 5 59<|
.p 62 [8,59] fR<|
.p 63 [62,59] (.bin .sub .none (.t 62) (.i 1))<|
.p 64 [61,63,59] (.iaddrS 11 (.t 61) (.t 63))<|
.aE 65 64 59 10 64 59<|
.p 67 [10,59] (.mov (.t 10))<|
.p 68 [66,67,59] (.bin .eql .none (.t 66) (.t 67))<|
.nil) 69 59 68<|
.nil)
 (.cond (.tmp 69) (.z (.aC 70 6 9<|
.aC 72 6 9<|
.bT 74 1 72 73 .any<|
.m 76 8<|
.aX 77 76 3 1 y0 0 1 76 .one 3 1 8 75<|
.s 79 1 70 71<|
.w 1 79 78<|
.nil)
 (.exit 1))
 .skip)))
 (.ops (.aC 80 6 8<|
.p 82 [81] (.buildSlice 3 1 [y0] [(0,1,(.t 81))])<|
.p 83 [82] (.buildSlice 28 1 [V.nils] [(0,1,(.t 82))])<|
.O 84 .one (.append 28 1 24 (.t 80) (.t 83))<|
.aH 6 84))))))
 (.keep Ya [5] Yb cc3))))
def Sy (E:EB) (D:Ai) (W:AH) (K1:V->H->AF) (K3:V->V->Int->Int->Int->V->Bool->Bool->Bool->Bool->Int->Int->V->V->Int->Bool->Int->H->AF) (a b:V) (c d e:Int) (f:V) (g h i j:Bool) (k l:Int) (m o:V) (p:Int) (q:Bool) (r:Int) (U:H):AF:=
 AI (Ci d c) (
 AW 1 b d fun n s=>
 lI E U n s fun n=>
 A0 a fun s=>
 AW 11 o n fun t u=>
 lI E U t (AP u 10) fun t=>
 Af (fun u v=>
 Af (fun w x=>
 Af (fun y z=>
 AI y (
 iY E z 1 a (Dp .i64 (AA s) (AA 1)) fun y=>
 let aa:=Br z (.cells [.int .i64 n]);
 DV E 1 8 y (V.sl (H.next z) 0 1 (.ex 1)) aa fun y aa=>
 CB y (
 AW 1 a (Dp .i64 (AA s) (AA 1)) fun ab ac=>
 DX 1 ab ac y aa fun y=>
 K3 a b c d e f g h i j k l m o p q r y)) (
 let y:=Br z (.cells [.int .i64 n]);
 let aa:=Br y (.cells [.sl (H.next z) 0 1 (.ex 1)]);
 DV E 1 24 a (V.sl (H.next y) 0 1 (.ex 1)) aa fun y z=>
 CB y (
 K3 y b c d e f g h i j k l m o p q r z))) fun y=>
 AI w (
 AW 11 o (Dp .i64 n (AA 1)) fun n w=>
 lI E x n (AP w 10) fun n=>
 y (Bt n t) x) (
 y false x)) fun n=>
 AI u (
 n (I3 (AA 0) (Dp .i64 (AA s) (AA 1))) v) (
 n false v)) fun n=>
 AI (not (Bt e (AA 9))) (
 n (Ci (AA 0) t) U) (
 n false U)) (
 K1 a U)
def NG:XC:=(.ops (.aA 85 35 1 35))
def ye (E:EB) (D:Ai) (W:AH) (R2:V->V->Int->Int->Int->V->Bool->Bool->Bool->Bool->Int->Int->V->V->Int->Bool->Int->H->AF) (a b:V) (c d e:Int) (f:V) (g h i j:Bool) (k l:Int) (m o:V) (p:Int) (q:Bool) (r:Int) (U:H):AF:=
 R2 a b c (Ba .i64 d (AA 1)) e f g h i j k l m o p q r U
def zK (a:BS) (b c d:V) (e:Int) (U:H):St:=⟨[(0,.agg [.str a,b,c,d]),(1,.int .i64 e)],[],[],U⟩
def Xg (a b:V) (c d e:Int) (f:V) (g h i j:Bool) (k l:Int) (m o:V) (p:Int) (q:Bool) (r:Int) (U:H):St:=⟨[(6,a),(33,b),(34,.int .i64 c),(35,.int .i64 d)],[(5,(5,0))],[(5,[.int .i64 e,f,.bool g,.bool h,.bool i,.bool j,.int .i64 k,.int .i64 l,m,o,.int .i64 p,.bool q,.int .i64 r])],U⟩
def ABG (E:EB) (D:Ai) (W:AH) (N:Nat):=Sz E D W
def X2 (E:EB) (D:Ai) (W:AH) (N:Nat) (R2:V->V->Int->Int->Int->V->Bool->Bool->Bool->Bool->Int->Int->V->V->Int->Bool->Int->H->AF):=ye E D W R2
theorem tI (li2:St->AF) :
 (fun a b c d e f g h i j k l m o p q r U=>Ay E D W N NG (Xg a b c d e f g h i j k l m o p q r U) (kX Ya [5] Yb li2) (ui E D W N NH) (NA E))=X2 E D W N (fun a b c d e f g h i j k l m o p q r U=>li2 (Xg a b c d e f g h i j k l m o p q r U)):=by
 unfold X2;generalize NH=x0;revert x0;refine id ?_;intros;kernel_rfl
def Xl (n:Nat):V->V->Int->Int->Int->V->Bool->Bool->Bool->Bool->Int->Int->V->V->Int->Bool->Int->H->AF:=
 Nat.rec (fun _ _ _ _ _ _ _ _ _ _ _ _ _ _ _ _ _ _=>none) (fun _ ih=>Sy E D W (ABG E D W N ) (X2 E D W N ih)) n
theorem sX (n:Nat) :
 (fun a b c d e f g h i j k l m o p q r U=>BN (fun rec s'=>Ay E D W N (Tq NG) s' (kX Ya [5] Yb rec) (ui E D W N NH) (NA E)) n (Xg a b c d e f g h i j k l m o p q r U))=Xl E D W N n:=AKR (fun li=>by rw[<-tI];generalize NG=x0;revert x0;refine id ?_;intros;kernel_rfl) n
def X3:=S0 E D W (Xl E D W N N)
theorem tJ :
 (fun a b c d e U=>Ay E D W N (oU NH (Tq NG)) (zK a b c d e U) (NA E) nX (NA E))=X3 E D W N:=by
 unfold X3;rw[<-sX];generalize Tq NG=x0,NH=x1;revert x0 x1;refine id ?_;intros;kernel_rfl
def fI (args:List V) (U:H):AF:=
 Ae args fun a b=>
 CW a fun a=>
 uA a fun a c d e=>
 Dy .i64 b fun b f=>
 BJ f (
 X3 E D W N a c d e b U)
def AOL:Dv:=⟨87,[y6,.i],[(.tmp 4)],(oU NH (Tq NG))⟩
theorem AHV (args:List V) (U:H):B9 E D W N AOL args U=fI E D W N args U:=by
 unfold fI;rw[<-tJ];kernel_rfl
def tn:List (Nat × CZ):=[(0,(.int .u64)),(3,.any)]
def QG (E:EB):St->AF:=fun s=>DR E s [(.tmp 2)] fun l=>some (Dh l,s.U)
def AEa (c0:XC):Nat->St->AF:=Bf 0 (dX E D W N (.keep [(3,.any)] [] [] c0) (QG E) nX (QG E)) nX
def oS (cc1:XC) (cc2:XC):XC:=(.z (.aW 2)
 (.z (.m 4 0<|
.P 5 (.conv (.toInt .u8) (.t 4))<|
.b 6 .and .none (.t 5) (.con (V.int .u8 (AA 127)))<|
.p 7 [6] (.buildSlice 5 1 [WY] [(0,1,(.t 6))])<|
.m 3 7<|
.nil)
 (.seq (.z (.m 8 0<|
.b 9 .shr .none (.t 8) (.con (V.int .u64 (AA 7)))<|
.m 0 9<|
.nil)
 (.block 0 (.loop tn [] [] cc2)))
 (.keep [(3,.any)] [] [] cc1))))
def XP (E:EB) (D:Ai) (W:AH) (K2:Int->V->H->AF) (a:Int) (U:H):AF:=
 let b:=Br U (.cells [.int .u8 (JE .u8 (BE .u8 a) (AA 127))]);
 K2 (Kc .u64 a 7) (V.sl (H.next U) 0 1 (.ex 1)) b
def Tp:XC:=(.z (.m 20 3<|
.aH 2 20)
 .ret)
def XO (E:EB) (D:Ai) (W:AH) (a:V) (U:H):AF:=
 some (a,U)
def To:XC:=(.seq (.z (.m 10 0<|
.b 11 .gtr .none (.t 10) (.con ow)<|
.nil)
 (.cond (.tmp 11) .skip
 Jh))
 (.seq (.block 1 (.ops (.m 14 0<|
.P 15 (.conv (.toInt .u8) (.t 14))<|
.b 16 .or .none (.t 15) y21<|
.p 17 [16] (.buildSlice 5 1 [WY] [(0,1,(.t 16))])<|
.m 18 3<|
.O 19 .one (.append 5 1 1 (.t 17) (.t 18))<|
.aH 3 19)))
 (.ops (.m 12 0<|
.b 13 .shr .none (.t 12) (.con (V.int .u64 (AA 7)))<|
.aH 0 13))))
def Pq (E:EB) (D:Ai) (W:AH) (K1:V->H->AF) (R2:Int->V->H->AF) (a:Int) (b:V) (U:H):AF:=
 AI (Ci (AA 0) a) (
 let c:=Br U (.cells [.int .u8 (Ny .u8 (BE .u8 a) (AA 128))]);
 DV E 1 1 (V.sl (H.next U) 0 1 (.ex 1)) b c fun c d=>
 CB c (
 R2 (Kc .u64 a 7) c d)) (
 K1 b U)
def zJ (a:Int) (U:H):St:=⟨[(0,.int .u64 a)],[],[],U⟩
def zI (a:Int) (b:V) (U:H):St:=⟨[(0,.int .u64 a),(3,b)],[],[],U⟩
def ABF (E:EB) (D:Ai) (W:AH) (N:Nat):=XO E D W
def mG (n:Nat):Int->V->H->AF:=
 Nat.rec (fun _ _ _=>none) (fun _ ih=>Pq E D W (ABF E D W N ) ih) n
theorem sW (n:Nat) :
 (fun a b U=>BN (fun rec s'=>Ay E D W N To s' (kX tn [] [] rec) (AEa E D W N Tp) (QG E)) n (zI a b U))=mG E D W N n:=lp3 (fun _=>by kernel_rfl) n
def X1:=XP E D W (mG E D W N N)
theorem tH :
 (fun a U=>Ay E D W N (oS Tp To) (zJ a U) (QG E) nX (QG E))=X1 E D W N:=by
 unfold X1;rw[<-sW];generalize Tp=x0,To=x1;revert x0 x1;refine id ?_;intros;kernel_rfl
def fH (args:List V) (U:H):AF:=
 Dy .u64 args fun a b=>
 BJ b (
 X1 E D W N a U)
def AOK:Dv:=⟨21,[(.int .u64)],[(.tmp 2)],(oS Tp To)⟩
theorem AHU (args:List V) (U:H):B9 E D W N AOK args U=fH E D W N args U:=by
 unfold fH;rw[<-tH];kernel_rfl
def YZ:List (Nat × CZ):=[(0,(.int .u64)),(3,.i)]
def QF (E:EB):St->AF:=fun s=>DR E s [(.tmp 2)] fun l=>some (Dh l,s.U)
def AEZ (c0:XC):Nat->St->AF:=Bf 0 (dX E D W N (.keep YZ [] [] c0) (QF E) nX (QF E)) nX
def oR (cc1:XC) (cc2:XC):XC:=(.z (.aW 2)
 (.z (.aN 3 1)
 (.seq (.block 0 (.loop YZ [] [] cc2))
 (.keep YZ [] [] cc1))))
def yd (E:EB) (D:Ai) (W:AH) (K2:Int->Int->H->AF) (a:Int) (U:H):AF:=
 K2 a (AA 1) U
def Tn:XC:=(.z (.bM 15 0 3 .one 60<|
.aH 2 17)
 .ret)
def XN (E:EB) (D:Ai) (W:AH) (a b:Int) (U:H):AF:=
 CM (D 60 [.int .u64 a,.int .i64 b] U) fun c d=>
 CB c (
 some (c,d))
def Tm:XC:=(.seq (.z (.m 4 3<|
.b 5 .lss .none (.t 4) (.i 8)<|
.m 6 5<|
.gA 6 true (.p 7 [0,6] Hy<|
.p 8 [3,6] (.mov (.t 3))<|
.p 9 [8,6] (.bin .mul .none (.i 8) (.t 8))<|
.p 10 [7,9,6] (.bin .shr .none (.t 7) (.t 9))<|
.p 11 [10,6] (.bin .neq .none (.t 10) (.con ow))<|
.nil) 12 6 11<|
.nil)
 (.cond (.tmp 12) .skip
 Jh))
 (.block 1 (.ops (.m 13 3<|
.aA 14 13 1 3))))
def M6 (E:EB) (D:Ai) (W:AH) (K1:Int->Int->H->AF) (R2:Int->Int->H->AF) (a b:Int) (U:H):AF:=
 Af (fun c d=>
 AI c (
 R2 a (Ba .i64 b (AA 1)) d) (
 K1 a b d)) fun c=>
 AI (Ci b (AA 8)) (
 T4 (Iy .i64 (AA 8) b) fun d=>
 c (not (Bt (Kc .u64 a d) (AA 0))) U) (
 c false U)
def zH (a:Int) (U:H):St:=⟨[(0,.int .u64 a)],[],[],U⟩
def zG (a b:Int) (U:H):St:=⟨[(0,.int .u64 a),(3,.int .i64 b)],[],[],U⟩
def nr (E:EB) (D:Ai) (W:AH) (N:Nat):=XN E D W
def TS (n:Nat):Int->Int->H->AF:=
 Nat.rec (fun _ _ _=>none) (fun _ ih=>M6 E D W (nr E D W N ) ih) n
theorem sV (n:Nat) :
 (fun a b U=>BN (fun rec s'=>Ay E D W N Tm s' (kX YZ [] [] rec) (AEZ E D W N Tn) (QF E)) n (zG a b U))=TS E D W N n:=lp3 (fun _=>by kernel_rfl) n
def X0:=yd E D W (TS E D W N N)
theorem tG :
 (fun a U=>Ay E D W N (oR Tn Tm) (zH a U) (QF E) nX (QF E))=X0 E D W N:=by
 unfold X0;rw[<-sV];generalize Tn=x0,Tm=x1;revert x0 x1;refine id ?_;intros;kernel_rfl
def X6 (args:List V) (U:H):AF:=
 Dy .u64 args fun a b=>
 BJ b (
 X0 E D W N a U)
def AOJ:Dv:=⟨18,[(.int .u64)],[(.tmp 2)],(oR Tn Tm)⟩
theorem AHT (args:List V) (U:H):B9 E D W N AOJ args U=X6 E D W N args U:=by
 unfold X6;rw[<-tG];kernel_rfl
def tj:List (Nat × CZ):=[(0,.any),(1,.i),(2,.i),(3,.any),(8,.i),(9,.i)]
def Oj:List (Nat × CZ):=[(0,.any),(1,.i),(2,.i),(3,.any),(8,.i)]
def IJ (E:EB):St->AF:=fun s=>DR E s [] fun l=>some (Dh l,s.U)
def AEY (c0:XC) (l0:St->AF):Nat->St->AF:=Bf 2 (dX E D W N (.keep Oj [] [] c0) (kX Oj [] [] l0) (Bf 0 (IJ E) nX) (IJ E)) (Bf 1 (dX E D W N (.keep Oj [] [] c0) (kX Oj [] [] l0) (Bf 0 (IJ E) nX) (IJ E)) (Bf 0 (IJ E) nX))
def oQ (cc1:XC):XC:=(.z (.m 10 1<|
.aA 11 10 1 8)
 (.block 0 (.loop Oj [] [] cc1)))
def XM (E:EB) (D:Ai) (W:AH) (K1:V->Int->Int->V->Int->H->AF) (a:V) (b c:Int) (d:V) (U:H):AF:=
 K1 a b c d (Ba .i64 b (AA 1)) U
def Tl (cc2:XC) (cc3:XC):XC:=(.seq (.z (.aC 12 8 2<|
.aF 14 12 13)
 (.cond (.tmp 14) .skip
 Jh))
 (.seq (.block 1 (.z (.m 17 8<|
.m 9 17<|
.nil)
 (.block 2 (.loop tj [] [] cc3))))
 (.keep Oj [] [] cc2)))
def Pp (E:EB) (D:Ai) (W:AH) (K3:V->Int->Int->V->Int->Int->H->AF) (a:V) (b c:Int) (d:V) (e:Int) (U:H):AF:=
 AI (Ci e c) (
 K3 a b c d e e U) (
 r0 U)
def NF:XC:=(.ops (.m 15 8<|
.aA 16 15 1 8))
def XK (E:EB) (D:Ai) (W:AH) (R1:V->Int->Int->V->Int->H->AF) (a:V) (b c:Int) (d:V) (e:Int) (U:H):AF:=
 R1 a b c d (Ba .i64 e (AA 1)) U
def ND:XC:=(.seq (.seq (.draw (.aC 18 9 1<|
.b 20 .gtr .none (.t 18) (.t 19)<|
.m 21 20<|
.gA 21 true (.p 22 [3,21] (.mov (.t 3))<|
.p 23 [0,21] Hy<|
.bA 24 9 21 9 23 21 1 23<|
.p 26 [25,21] (.load none (.t 25))<|
.p 27 [0,21] Hy<|
.p 28 [9,21] (.mov (.t 9))<|
.p 29 [28,21] (.bin .sub .none (.t 28) (.i 1))<|
.p 30 [27,29,21] (.iaddrS 1 (.t 27) (.t 29))<|
.p 31 [30,21] (.load none (.t 30))<|
.op (some 32) .i [22,26,31,21] (.callv (.t 22) [(.t 26),(.t 31)])<|
.p 33 [32,21] (.bin .lss .none (.t 32) (.i 0))<|
.nil) 34 21 33<|
.nil) [0,0,3,7,15,15,15,111,239,15,15,1039,3599,7695,16383,32767,65535])
 (.cond (.tmp 34) .skip
 (.exit 2)))
 (.seq (.block 3 (.draw (.aC 37 0 9<|
.aC 39 0 9<|
.b 41 .sub .none (.t 40) (.i 1)<|
.aC 42 0 9<|
.b 44 .sub .none (.t 43) (.i 1)<|
.bT 45 1 42 44 .any<|
.aC 47 0 9<|
.bT 49 1 47 48 .any<|
.s 51 1 37 38<|
.w 1 51 46<|
.s 52 1 39 41<|
.w 1 52 50<|
.nil) [0,0,0,0,8,0,0,64,224,480,0,0,3072,7168,16355,32739,65535,131071]))
 (.ops (.m 35 9<|
.b 36 .sub .none (.t 35) (.i 1)<|
.aH 9 36))))
def Po (E:EB) (D:Ai) (W:AH) (K2:V->Int->Int->V->Int->H->AF) (R3:V->Int->Int->V->Int->Int->H->AF) (a:V) (b c:Int) (d:V) (e f:Int) (U:H):AF:=
 Af (fun g h=>
 AI g (
 iY E h 1 a (Dp .i64 f (AA 1)) fun g=>
 iY E h 1 a f fun i=>
 AW 1 a f fun j k=>
 DX 1 j k g h fun g=>
 AW 1 a (Dp .i64 f (AA 1)) fun j k=>
 DX 1 j k i g fun g=>
 R3 a b c d e (Dp .i64 f (AA 1)) g) (
 K2 a b c d e h)) fun g=>
 AI (Ci b f) (
 iY E U 1 a f fun h=>
 iY E U 1 a (Dp .i64 f (AA 1)) fun i=>
 M1 D d [h,i] U fun h i=>
 Ch .i64 h fun h=>
 g (Ci h (AA 0)) i) (
 g false U)
def zF (a:V) (b c:Int) (d:V) (U:H):St:=⟨[(0,a),(1,.int .i64 b),(2,.int .i64 c),(3,d)],[],[],U⟩
def lZ (a:V) (b c:Int) (d:V) (e:Int) (U:H):St:=⟨[(0,a),(1,.int .i64 b),(2,.int .i64 c),(3,d),(8,.int .i64 e)],[],[],U⟩
def zE (a:V) (b c:Int) (d:V) (e f:Int) (U:H):St:=⟨[(0,a),(1,.int .i64 b),(2,.int .i64 c),(3,d),(8,.int .i64 e),(9,.int .i64 f)],[],[],U⟩
def nq (E:EB) (D:Ai) (W:AH) (N:Nat) (R1:V->Int->Int->V->Int->H->AF):=XK E D W R1
def Xk (R1:V->Int->Int->V->Int->H->AF) (n:Nat):V->Int->Int->V->Int->Int->H->AF:=
 Nat.rec (fun _ _ _ _ _ _ _=>none) (fun _ ih=>Po E D W (nq E D W N R1) ih) n
theorem sT (li1:St->AF) (n:Nat) :
 (fun a b c d e f U=>BN (fun rec s'=>Ay E D W N ND s' (kX tj [] [] rec) (AEY E D W N NF li1) (IJ E)) n (zE a b c d e f U))=Xk E D W N (fun a b c d e U=>li1 (lZ a b c d e U)) n:=qc (fun _=>by kernel_rfl) n
def Lk (n:Nat):V->Int->Int->V->Int->H->AF:=
 Nat.rec (fun _ _ _ _ _ _=>none) (fun _ ih=>Pp E D W (Xk E D W N ih N)) n
theorem sU (n:Nat) :
 (fun a b c d e U=>BN (fun rec s'=>Ay E D W N (Tl NF ND) s' (kX Oj [] [] rec) (Bf 0 (IJ E) nX) (IJ E)) n (lZ a b c d e U))=Lk E D W N n:=tu (fun li=>by rw[<-sT];generalize NF=x0,ND=x1;revert x0 x1;refine id ?_;intros;kernel_rfl) n
def Xz:=XM E D W (Lk E D W N N)
theorem tF :
 (fun a b c d U=>Ay E D W N (oQ (Tl NF ND)) (zF a b c d U) (IJ E) nX (IJ E))=Xz E D W N:=by
 unfold Xz;rw[<-sU];generalize Tl NF ND=x0;revert x0;refine id ?_;intros;kernel_rfl
def fG (args:List V) (U:H):AF:=
 uAF args fun a b c d=>
 Xz E D W N a b c d U
def AOI:Dv:=⟨53,[.any,.i,.i,.any],[],(oQ (Tl NF ND))⟩
theorem AHS (args:List V) (U:H):B9 E D W N AOI args U=fG E D W N args U:=by
 unfold fG;rw[<-tF];kernel_rfl
def TV:List BO:=[⟨(some 39),.mov (.tmp 0),none⟩,⟨(some 40),.iaddrS 1 (.tmp 39) (.con (V.int .i64 (AA 0))),none⟩,⟨(some 41),.load none (.tmp 40),none⟩,⟨(some 42),.bin .shr .none (.tmp 41) (.con (V.int .u64 (AA 6))),none⟩,⟨(some 43),.conv (.toInt .i64) (.tmp 42),none⟩,⟨(some 44),.mov (.tmp 7),none⟩,⟨(some 45),.build [(V.int .i64 (AA 0)),(V.int .i64 (AA 0))] [(0,1,(.tmp 43)),(1,1,(.tmp 44))],none⟩,⟨(some 46),.mov (.tmp 0),none⟩,⟨(some 47),.iaddrS 1 (.tmp 46) (.con (V.int .i64 (AA 0))),none⟩,⟨(some 48),.load none (.tmp 47),none⟩,⟨(some 49),.bin .and .none (.tmp 48) (.con (V.int .u8 (AA 32))),none⟩,⟨(some 50),.bin .neq .none (.tmp 49) (.con (V.int .u8 (AA 0))),none⟩,⟨(some 51),.mov (.tmp 10),none⟩,⟨(some 52),.mov (.tmp 8),none⟩,⟨(some 53),.bin .add .none (.con (V.int .i64 (AA 1))) (.tmp 52),none⟩,⟨(some 54),.mov (.tmp 11),none⟩,⟨(some 55),.bin .add .none (.tmp 53) (.tmp 54),none⟩,⟨none,.store 2 (.tmp 2) (.tmp 45),none⟩,⟨(some 3),.mov (.tmp 50),none⟩,⟨(some 4),.mov (.tmp 51),none⟩,⟨(some 5),.mov (.tmp 55),none⟩,⟨(some 6),.mov (.con (V.int .i64 (AA 0))),none⟩]
def TU:List DP:=[⟨0,[0]⟩,⟨1,[39]⟩,⟨3,[40]⟩,⟨7,[41]⟩,⟨15,[42]⟩,⟨0,[7]⟩,⟨63,[43,44]⟩,⟨0,[0]⟩,⟨128,[46]⟩,⟨384,[47]⟩,⟨896,[48]⟩,⟨1920,[49]⟩,⟨0,[10]⟩,⟨0,[8]⟩,⟨8192,[52]⟩,⟨0,[11]⟩,⟨57344,[53,54]⟩,⟨127,[2,45]⟩,⟨135167,[50]⟩,⟨401407,[51]⟩,⟨1048575,[55]⟩,⟨2097151,[]⟩]
def ABV:XC:=(.z (.p 2 [] (.alloc 42 [y0,y0])<|
.c 3 y3<|
.q 4 0<|
.q 5 0<|
.aN 6 0)
 (.seq (.z (.m 12 0<|
.u 13 12<|
.b 14 .eql .none (.t 13) (.i 0)<|
.nil)
 (.cond (.tmp 14) (.z (.op (some 15) y8 [] (.build [y0,y0] [])<|
.op none y8 [2,15] (.store 2 (.t 2) (.t 15))<|
.c 3 y3<|
.q 4 0<|
.q 5 0<|
.aN 6 3)
 .ret)
 .skip))
 (.z (.m 17 0<|
.k 18 (.tup [.i,.i,.i]) 133 [(.t 17)]<|
.m 16 18<|
.aG 19 0 16 1 16<|
.P 21 (.extract 2 (.t 16))<|
.aC 7 19 20<|
.aH 9 21)
 (.seq (.z (.bF 22 9 0<|
.nil)
 (.cond (.tmp 23) (.z (.op (some 24) y8 [] (.build [y0,y0] [])<|
.m 25 9<|
.op none y8 [2,24] (.store 2 (.t 2) (.t 24))<|
.c 3 y3<|
.q 4 0<|
.q 5 0<|
.aH 6 25)
 .ret)
 .skip))
 (.z (.aC 27 0 8<|
.b 29 .add .none (.i 1) (.t 28)<|
.p 30 [27,29] (.sliceSl 1 (.t 27) (some (.t 29)) none none)<|
.k 31 (.tup [.i,.i,.i]) 134 [(.t 30)]<|
.m 26 31<|
.aG 32 0 26 1 26<|
.P 34 (.extract 2 (.t 26))<|
.aC 10 32 33<|
.aH 9 34)
 (.seq (.z (.bF 35 9 0<|
.nil)
 (.cond (.tmp 36) (.z (.op (some 37) y8 [] (.build [y0,y0] [])<|
.m 38 9<|
.op none y8 [2,37] (.store 2 (.t 2) (.t 37))<|
.c 3 y3<|
.q 4 0<|
.q 5 0<|
.aH 6 38)
 .ret)
 .skip))
 (.seq (.keep [(0,.any),(2,.ptr),(7,.i),(8,.i),(10,.i),(11,.i)] [] [] (.gdraw TV TU [(2,.ptr),(3,.bool),(4,.i),(5,.i),(6,.i)]))
 .ret)))))))
def XJ (a:V) (U:H):AF:=
 let b:=Br U (.cells [iN 0,iN 0]);
 A0 a fun c=>
 AI (Bt (AA c) (AA 0)) (
 DX 2 (H.next U) 0 (V.agg [iN 0,iN 0]) b fun c=>
 Bv E c (H.next U) 0 2 fun d=>
 some ((V.tup [.agg d,.bool false,iN 0,iN 0,iN 3]),c)) (
 cT (D 133 [a] b) fun b c=>
 uAG b fun b d e=>
 AI (not (Bt e (AA 0))) (
 DX 2 (H.next U) 0 (V.agg [iN 0,iN 0]) c fun f=>
 Bv E f (H.next U) 0 2 fun g=>
 some ((V.tup [.agg g,.bool false,iN 0,iN 0,.int .i64 e]),f)) (
 gK (Cs 1 a (some (V.int .i64 (Ba .i64 (AA 1) d))) none none) fun e=>
 cT (D 134 [e] c) fun c e=>
 uAG c fun c f g=>
 AI (not (Bt g (AA 0))) (
 DX 2 (H.next U) 0 (V.agg [iN 0,iN 0]) e fun h=>
 Bv E h (H.next U) 0 2 fun i=>
 some ((V.tup [.agg i,.bool false,iN 0,iN 0,.int .i64 g]),h)) (
 Cc (W TV TU [(0,a),(2,.ptr (H.next U) 0),(7,.int .i64 b),(8,.int .i64 d),(10,.int .i64 c),(11,.int .i64 f)] e) fun b c=>
 BL b 2 fun d=>
 B4 d fun d e=>
 BL b 3 fun f=>
 Ct f fun f=>
 BL b 4 fun g=>
 Ch .i64 g fun g=>
 BL b 5 fun h=>
 Ch .i64 h fun h=>
 BL b 6 fun b=>
 Ch .i64 b fun b=>
 Bv E c d e 2 fun d=>
 some ((V.tup [.agg d,.bool f,.int .i64 g,.int .i64 h,.int .i64 b]),c))))
def oG (N:Nat) (args:List V) (U:H):AF:=
 Ae args fun a b=>
 BJ b (
 XJ E D W a U)
def AOH:Dv:=⟨56,[.any],[(.cell 2 (some 2)),(.tmp 3),(.tmp 4),(.tmp 5),(.tmp 6)],ABV⟩
theorem AHR (args:List V) (U:H):B9 E D W N AOH args U=oG E D W N args U:=by kernel_rfl
def YY:List (Nat × CZ):=[(0,.ptr),(1,.any),(2,.bool),(7,.any),(8,.i)]
def M8:List BO:=[⟨(some 33),.mov (.tmp 7),none⟩,⟨(some 34),.mov (.tmp 0),none⟩,⟨(some 35),.nilck (.tmp 34),none⟩,⟨(some 36),.faddr 5 (.tmp 35),none⟩,⟨(some 37),.load none (.tmp 36),none⟩,⟨(some 38),.mov (.tmp 1),none⟩,⟨(some 39),.mov (.tmp 8),none⟩,⟨(some 40),.iaddrS 11 (.tmp 38) (.tmp 39),none⟩,⟨(some 41),.faddr 1 (.tmp 40),none⟩,⟨(some 42),.load none (.tmp 41),none⟩,⟨(some 43),.call 137 [(.tmp 37),(.tmp 42)],none⟩,⟨(some 44),.buildSlice 93 1 [V.nils] [(0,1,(.tmp 43))],none⟩,⟨(some 45),.append 93 1 24 (.tmp 33) (.tmp 44),none⟩,⟨(some 7),.mov (.tmp 45),none⟩]
def P7:List DP:=[⟨0,[7]⟩,⟨0,[0]⟩,⟨2,[34]⟩,⟨6,[35]⟩,⟨14,[36]⟩,⟨0,[1]⟩,⟨0,[8]⟩,⟨96,[38,39]⟩,⟨224,[40]⟩,⟨480,[41]⟩,⟨1022,[37,42]⟩,⟨2046,[43]⟩,⟨4095,[33,44]⟩,⟨8191,[45]⟩]
def QE (E:EB):St->AF:=fun s=>DR E s [(.tmp 6)] fun l=>some (Dh l,s.U)
def AEX (c0:XC):Nat->St->AF:=Bf 0 (dX E D W N (.keep [(7,.any)] [] [] c0) (QE E) nX (QE E)) nX
def oP (cc1:XC) (cc2:XC):XC:=(.z (.aT 6 y3)
 (.z (.aW 7)
 (.seq (.z (.aN 8 0)
 (.block 0 (.loop YY [] [] cc2)))
 (.keep [(7,.any)] [] [] cc1))))
def Sx (E:EB) (D:Ai) (W:AH) (K2:Nat->Nat->V->Bool->V->Int->H->AF) (a b:Nat) (c:V) (d:Bool) (U:H):AF:=
 K2 a b c d V.nils (AA 0) U
def Tj:XC:=(.z (.m 46 7<|
.k 47 .bool 138 [(.t 46)]<|
.aH 6 47)
 .ret)
def XI (E:EB) (D:Ai) (W:AH) (a:V) (U:H):AF:=
 cB (D 138 [a] U) fun b c=>
 rB b c
def Ti:XC:=(.seq (.z (.aC 9 8 1<|
.u 11 10<|
.aF 12 9 11)
 (.cond (.tmp 12) .skip
 Jh))
 (.seq (.block 1 (.seq (.seq (.draw (.aM 15 0<|
.aB 17 5 16 .any<|
.aC 19 1 8<|
.s 21 11 19 20<|
.aB 22 1 21 .i<|
.k 24 .bool 136 [(.t 18),(.t 23)]<|
.m 25 24<|
.gA 25 true (.p 26 [2,25] (.mov (.t 2))<|
.p 27 [26,25] (.mov (.t 26))<|
.grp 27 false (.p 28 [1,27] Ji<|
.p 29 [28,27] (.len false (.t 28))<|
.aQ 30 29 27 29 1) 31 [27,30,25] (.t 27) Me (.t 30)<|
.nil) 32 25 31<|
.nil) [0,1,3,7,0,0,48,112,240,511,1023,2047,4095,8191,16383,32767,65535,131071])
 (.cond (.tmp 32) (.z (.aT 6 y3)
 .ret)
 .skip))
 (.keep YY [] [] (.gdraw M8 P7 YY))))
 (.ops (.m 13 8<|
.aA 14 13 1 8))))
def Pk (K1:V->H->AF) (R2:Nat->Nat->V->Bool->V->Int->H->AF) (a b:Nat) (c:V) (d:Bool) (e:V) (f:Int) (U:H):AF:=
 A0 c fun g=>
 AI (Ci f (AA g)) (
 EG E U a (AP b 5) fun g=>
 AW 11 c f fun h i=>
 lI E U h (AP i 1) fun h=>
 cB (D 136 [g,.int .i64 h] U) fun g h=>
 Af (fun i j=>
 AI i (
 rB false j) (
 Cc (W M8 P7 [(0,.ptr a b),(1,c),(2,.bool d),(7,e),(8,.int .i64 f)] j) fun i j=>
 BL i 0 fun k=>
 B4 k fun k l=>
 BL i 1 fun m=>
 BL i 2 fun n=>
 Ct n fun n=>
 BL i 7 fun o=>
 BL i 8 fun i=>
 Ch .i64 i fun i=>
 R2 k l m n o (Ba .i64 i (AA 1)) j)) fun i=>
 AI g (
 Af (fun g j=>
 i g j) fun g=>
 AI d (
 g true h) (
 A0 c fun j=>
 g (Ci (AA 1) (AA j)) h)) (
 i false h)) (
 K1 e U)
def zD (a b:Nat) (c:V) (d:Bool) (U:H):St:=⟨[(0,.ptr a b),(1,c),(2,.bool d)],[],[],U⟩
def zB (a b:Nat) (c:V) (d:Bool) (e:V) (f:Int) (U:H):St:=⟨[(0,.ptr a b),(1,c),(2,.bool d),(7,e),(8,.int .i64 f)],[],[],U⟩
def ABE (E:EB) (D:Ai) (W:AH) (N:Nat):=XI E D W
def TR (n:Nat):Nat->Nat->V->Bool->V->Int->H->AF:=
 Nat.rec (fun _ _ _ _ _ _ _=>none) (fun _ ih=>Pk E D W (ABE E D W N ) ih) n
theorem sS (n:Nat) :
 (fun a b c d e f U=>BN (fun rec s'=>Ay E D W N Ti s' (kX YY [] [] rec) (AEX E D W N Tj) (QE E)) n (zB a b c d e f U))=TR E D W N n:=qc (fun _=>by kernel_rfl) n
def Xy:=Sx E D W (TR E D W N N)
theorem tE :
 (fun a b c d U=>Ay E D W N (oP Tj Ti) (zD a b c d U) (QE E) nX (QE E))=Xy E D W N:=by
 unfold Xy;rw[<-sS];generalize Tj=x0,Ti=x1;revert x0 x1;refine id ?_;intros;kernel_rfl
def fF (args:List V) (U:H):AF:=
 uAH args fun a b c d=>
 Xy E D W N a b c d U
def AOG:Dv:=⟨48,[.ptr,.any,.bool],[(.tmp 6)],(oP Tj Ti)⟩
theorem AHQ (args:List V) (U:H):B9 E D W N AOG args U=fF E D W N args U:=by
 unfold fF;rw[<-tE];kernel_rfl
def ABU:XC:=(.z (.P 2 (.box 31 (.t 0))<|
.pal 4 [] 99 [y0,V.nils,y3,y3,y3,y3,y0,y0,V.nils,V.nils,y0,y3,y0]<|
.nil)
 (.seq (.z (.aY 5 1 0<|
.m 7 6<|
.gO 7 false (.p 8 [1,7] Ji<|
.aJ 9 2 7 3 2 7 7<|
.p 12 [8,11,7] (.bin .geq .none (.t 8) (.t 11))<|
.nil) 13 7 12<|
.nil)
 (.cond (.tmp 13) (.z (.op (some 14) y1 [] (.build [y0,V.nils,y3,y3,y3,y3,y0,y0,V.nils,V.nils,y0,y3,y0] [])<|
.op none y1 [4,14] (.store 13 (.t 4) (.t 14))<|
.nil)
 .ret)
 .skip))
 (.z (.aZ 15 3 2 1<|
.aL 18 13 16 17 y1 13<|
.op none y1 [4,19] (.store 13 (.t 4) (.t 19))<|
.nil)
 .ret)))
def XH (E:EB) (D:Ai) (W:AH) (a:BS) (b c d:V) (e:Int) (U:H):AF:=
 Ix (eA a b c d) U fun f=>
 Af (fun g h=>
 AI g (
 some ((V.agg [iN 0,V.nils,.bool false,.bool false,.bool false,.bool false,iN 0,iN 0,V.nils,V.nils,iN 0,.bool false,iN 0]),h)) (
 jX E h (H.next U) 3 13 e fun g=>
 uJ g fun g i j k l m n o p q r s t=>
 GK (An (eJ g i j k l m n o p q r s t)) (
 some ((V.agg (eJ g i j k l m n o p q r s t)),h)))) fun g=>
 AI (Ci e (AA 0)) (
 g true f) (
 lL E f (H.next U) 3 fun h=>
 g (I3 (AA h) e) f)
def oE (N:Nat) (args:List V) (U:H):AF:=
 Ae args fun a b=>
 CW a fun a=>
 uA a fun a c d e=>
 Dy .i64 b fun b f=>
 BJ f (
 XH E D W a c d e b U)
def AOF:Dv:=⟨20,[y6,.i],[(.cell 4 (some 13))],ABU⟩
theorem AHP (args:List V) (U:H):B9 E D W N AOF args U=oE E D W N args U:=by kernel_rfl
def ti:List (Nat × CZ):=[(1,.i),(5,.any),(6,.i)]
def QD (E:EB):St->AF:=fun s=>DR E s [(.tmp 4)] fun l=>some (Dh l,s.U)
def AEW (c0:XC):Nat->St->AF:=Bf 0 (dX E D W N (.keep [(5,.any)] [] [] c0) (QD E) nX (QD E)) nX
def oO (cc1:XC) (cc2:XC):XC:=(.z (.aW 4)
 (.z (.aW 5)
 (.seq (.z (.m 7 0<|
.m 6 7<|
.nil)
 (.block 0 (.loop ti [] [] cc2)))
 (.keep [(5,.any)] [] [] cc1))))
def yc (E:EB) (D:Ai) (W:AH) (K2:Int->V->Int->H->AF) (a b:Int) (U:H):AF:=
 K2 b V.nils a U
def Th:XC:=(.z (.m 17 5<|
.aH 4 17)
 .ret)
def Sw (E:EB) (D:Ai) (W:AH) (a:V) (U:H):AF:=
 some (a,U)
def Tg:XC:=(.seq (.z (.aC 8 6 1<|
.aF 10 8 9)
 (.cond (.tmp 10) .skip
 Jh))
 (.seq (.block 1 (.ops (.aC 13 5 6<|
.aX 15 14 3 1 y0 0 1 14 .one 3 1 8 13<|
.aH 5 16)))
 (.ops (.m 11 6<|
.aA 12 11 1 6))))
def Sv (E:EB) (D:Ai) (W:AH) (K1:V->H->AF) (R2:Int->V->Int->H->AF) (a:Int) (b:V) (c:Int) (U:H):AF:=
 AI (Ci c a) (
 let d:=Br U (.cells [.int .i64 c]);
 DV E 1 8 b (V.sl (H.next U) 0 1 (.ex 1)) d fun d e=>
 CB d (
 R2 a d (Ba .i64 c (AA 1)) e)) (
 K1 b U)
def zA (a b:Int) (U:H):St:=⟨[(0,.int .i64 a),(1,.int .i64 b)],[],[],U⟩
def yz (a:Int) (b:V) (c:Int) (U:H):St:=⟨[(1,.int .i64 a),(5,b),(6,.int .i64 c)],[],[],U⟩
def ABD (E:EB) (D:Ai) (W:AH) (N:Nat):=Sw E D W
def Xj (n:Nat):Int->V->Int->H->AF:=
 Nat.rec (fun _ _ _ _=>none) (fun _ ih=>Sv E D W (ABD E D W N ) ih) n
theorem sR (n:Nat) :
 (fun a b c U=>BN (fun rec s'=>Ay E D W N Tg s' (kX ti [] [] rec) (AEW E D W N Th) (QD E)) n (yz a b c U))=Xj E D W N n:=xW (fun _=>by kernel_rfl) n
def Xx:=yc E D W (Xj E D W N N)
theorem tD :
 (fun a b U=>Ay E D W N (oO Th Tg) (zA a b U) (QD E) nX (QD E))=Xx E D W N:=by
 unfold Xx;rw[<-sR];generalize Th=x0,Tg=x1;revert x0 x1;refine id ?_;intros;kernel_rfl
def fE (args:List V) (U:H):AF:=
 uE args fun a b=>
 Xx E D W N a b U
def AOE:Dv:=⟨18,[.i,.i],[(.tmp 4)],(oO Th Tg)⟩
theorem AHO (args:List V) (U:H):B9 E D W N AOE args U=fE E D W N args U:=by
 unfold fE;rw[<-tD];kernel_rfl
def ABT:XC:=(.z (.q 2 0<|
.q 3 0<|
.aN 4 0)
 (.seq (.z (.m 9 0<|
.P 10 (.iaddrS 1 (.t 9) (.i 0))<|
.l 11 (.int .u8) 10<|
.b 12 .and .none (.t 11) (.con (V.int .u8 (AA 31)))<|
.P 13 (.conv (.toInt .i64) (.t 12))<|
.m 5 13<|
.nil)
 (.z (.aY 14 5 31<|
.nil)
 (.cond (.tmp 15) (.z (.m 16 5<|
.m 2 16<|
.q 3 0<|
.aN 4 0)
 .ret)
 .skip)))
 (.z (.m 18 0<|
.p 19 [18] (.sliceSl 1 (.t 18) (some (.i 1)) none none)<|
.k 20 (.tup [(.int .u64),.i,.i]) 142 [(.t 19)]<|
.m 17 20<|
.aG 21 0 17 1 17<|
.P 23 (.extract 2 (.t 17))<|
.aC 6 21 22<|
.aH 8 23)
 (.seq (.block 0 (.z (.bF 25 8 0<|
.bO 24)
 (.cond (.tmp 24) (.z (.m 27 8<|
.q 2 0<|
.q 3 0<|
.aH 4 27)
 .ret)
 (.z (.m 29 6<|
.b 30 .lss .none (.t 29) (.con (V.int .u64 (AA 31)))<|
.m 31 30<|
.gO 31 false (.p 32 [6,31] (.mov (.t 6))<|
.p 33 [32,31] (.bin .gtr .none (.t 32) (.con (V.int .u64 (AA 268435456))))<|
.nil) 34 31 33<|
.m 28 34<|
.nil)
 (.cond (.tmp 28) (.z (.q 2 0<|
.q 3 0<|
.q 4 4<|
.nil)
 .ret)
 .skip)))))
 (.z (.m 35 6<|
.P 36 (.conv (.toInt .i64) (.t 35))<|
.m 37 7<|
.aC 2 36 37<|
.aN 4 0)
 .ret)))))
def Su (E:EB) (D:Ai) (W:AH) (a:V) (U:H):AF:=
 iY E U 1 a (AA 0) fun b=>
 Ch .u8 b fun b=>
 AI (Ci (BE .i64 (JE .u8 b (AA 31))) (AA 31)) (
 some ((V.tup [.int .i64 (BE .i64 (JE .u8 b (AA 31))),iN 0,iN 0]),U)) (
 gK (Cs 1 a (some (iN 1)) none none) fun b=>
 cT (D 142 [b] U) fun b c=>
 uAI b fun b d e=>
 AI (not (Bt e (AA 0))) (
 some ((V.tup [iN 0,iN 0,.int .i64 e]),c)) (
 Af (fun e f=>
 AI e (
 some ((V.tup [iN 0,iN 0,iN 4]),f)) (
 some ((V.tup [.int .i64 (BE .i64 b),.int .i64 d,iN 0]),f))) fun d=>
 AI (Ci b (AA 31)) (
 d true c) (
 d (Ci (AA 268435456) b) c)))
def oD (N:Nat) (args:List V) (U:H):AF:=
 Ae args fun a b=>
 BJ b (
 Su E D W a U)
def AOD:Dv:=⟨38,[.any],[(.tmp 2),(.tmp 3),(.tmp 4)],ABT⟩
theorem AHN (args:List V) (U:H):B9 E D W N AOD args U=oD E D W N args U:=by kernel_rfl
def ABS:XC:=(.z (.q 2 0<|
.q 3 0<|
.aN 4 0)
 (.seq (.z (.m 8 0<|
.u 9 8<|
.b 10 .eql .none (.t 9) (.i 0)<|
.nil)
 (.cond (.tmp 10) (.z (.q 2 0<|
.q 3 0<|
.aN 4 3)
 .ret)
 .skip))
 (.seq (.z (.m 11 0<|
.P 12 (.iaddrS 1 (.t 11) (.i 0))<|
.l 13 (.int .u8) 12<|
.b 14 .lss .none (.t 13) y21<|
.nil)
 (.cond (.tmp 14) (.z (.m 15 0<|
.P 16 (.iaddrS 1 (.t 15) (.i 0))<|
.l 17 (.int .u8) 16<|
.P 18 (.conv (.toInt .i64) (.t 17))<|
.m 2 18<|
.q 3 1<|
.aN 4 0)
 .ret)
 .skip))
 (.z (.m 19 0<|
.P 20 (.iaddrS 1 (.t 19) (.i 0))<|
.l 21 (.int .u8) 20<|
.b 22 .andNot .none (.t 21) y21<|
.P 23 (.conv (.toInt .i64) (.t 22))<|
.aH 5 23)
 (.seq (.block 0 (.z (.m 25 5<|
.b 26 .eql .none (.t 25) (.i 0)<|
.m 27 26<|
.gO 27 false (.p 28 [5,27] (.mov (.t 5))<|
.aQ 29 28 27 28 8) 30 27 29<|
.m 24 30<|
.nil)
 (.cond (.tmp 24) (.z (.q 2 0<|
.q 3 0<|
.q 4 4<|
.nil)
 .ret)
 (.z (.m 32 0<|
.u 33 32<|
.m 34 5<|
.b 35 .leq .none (.t 33) (.t 34)<|
.m 31 35<|
.nil)
 (.cond (.tmp 31) (.z (.q 2 0<|
.q 3 0<|
.aN 4 3)
 .ret)
 .skip)))))
 (.z (.aC 37 0 5<|
.b 39 .add .none (.i 1) (.t 38)<|
.p 40 [37,39] (.sliceSl 1 (.t 37) (some (.i 1)) (some (.t 39)) none)<|
.k 41 (.tup [(.int .u64),.i]) 143 [(.t 40)]<|
.m 36 41<|
.aG 42 0 36 1 36<|
.aC 6 42 43<|
.nil)
 (.seq (.z (.bF 44 7 0<|
.m 46 45<|
.gO 46 false (.p 47 [6,46] (.mov (.t 6))<|
.p 48 [47,46] (.bin .lss .none (.t 47) (.con (V.int .u64 (AA 128))))<|
.nil) 49 46 48<|
.m 50 49<|
.gO 50 false (.p 51 [6,50] (.mov (.t 6))<|
.p 52 [51,50] (.bin .gtr .none (.t 51) (.con (V.int .u64 (AA 2147483647))))<|
.nil) 53 50 52<|
.nil)
 (.cond (.tmp 53) (.z (.q 2 0<|
.q 3 0<|
.q 4 4<|
.nil)
 .ret)
 .skip))
 (.z (.m 54 6<|
.P 55 (.conv (.toInt .i64) (.t 54))<|
.m 56 5<|
.b 57 .add .none (.i 1) (.t 56)<|
.aC 2 55 57<|
.aN 4 0)
 .ret))))))))
def XG (E:EB) (D:Ai) (W:AH) (a:V) (U:H):AF:=
 A0 a fun b=>
 AI (Bt (AA b) (AA 0)) (
 some ((V.tup [iN 0,iN 0,iN 3]),U)) (
 iY E U 1 a (AA 0) fun b=>
 Ch .u8 b fun b=>
 AI (Ci b (AA 128)) (
 iY E U 1 a (AA 0) fun b=>
 Ch .u8 b fun b=>
 some ((V.tup [.int .i64 (BE .i64 b),iN 1,iN 0]),U)) (
 iY E U 1 a (AA 0) fun b=>
 Ch .u8 b fun b=>
 Af (fun c d=>
 AI c (
 some ((V.tup [iN 0,iN 0,iN 4]),d)) (
 A0 a fun c=>
 AI (I3 (AA c) (BE .i64 (JD .u8 b (AA 128)))) (
 some ((V.tup [iN 0,iN 0,iN 3]),d)) (
 gK (Cs 1 a (some (iN 1)) (some (V.int .i64 (Ba .i64 (AA 1) (BE .i64 (JD .u8 b (AA 128)))))) none) fun c=>
 cT (D 143 [c] d) fun c d=>
 uAA c fun c e=>
 Af (fun f g=>
 Af (fun h i=>
 AI h (
 some ((V.tup [iN 0,iN 0,iN 4]),i)) (
 some ((V.tup [.int .i64 (BE .i64 c),.int .i64 (Ba .i64 (AA 1) (BE .i64 (JD .u8 b (AA 128)))),iN 0]),i))) fun h=>
 AI f (
 h true g) (
 h (Ci (AA 2147483647) c) g)) fun f=>
 AI (not (Bt e (AA 0))) (
 f true d) (
 f (Ci c (AA 128)) d)))) fun c=>
 AI (Bt (BE .i64 (JD .u8 b (AA 128))) (AA 0)) (
 c true U) (
 c (Ci (AA 8) (BE .i64 (JD .u8 b (AA 128)))) U)))
def oC (N:Nat) (args:List V) (U:H):AF:=
 Ae args fun a b=>
 BJ b (
 XG E D W a U)
def AOC:Dv:=⟨58,[.any],[(.tmp 2),(.tmp 3),(.tmp 4)],ABS⟩
theorem AHM (args:List V) (U:H):B9 E D W N AOC args U=oC E D W N args U:=by kernel_rfl
def th:List (Nat × CZ):=[(0,.any),(1,.i),(5,.bool),(6,.i)]
def QC (E:EB):St->AF:=fun s=>DR E s [(.tmp 4)] fun l=>some (Dh l,s.U)
def AEV (c0:XC):Nat->St->AF:=Bf 0 (dX E D W N (.keep [(5,.bool)] [] [] c0) (QC E) nX (QC E)) nX
def oN (cc1:XC) (cc2:XC):XC:=(.z (.aT 4 y3)
 (.seq (.z (.aC 7 0 1<|
.s 9 13 7 8<|
.aP 10 0 9 9<|
.m 13 12<|
.gO 13 false (.p 14 [0,13] Hy<|
.p 15 [1,13] Ji<|
.p 16 [14,15,13] (.iaddrS 13 (.t 14) (.t 15))<|
.aJ 17 16 13 1 16 13 13<|
.aQ 20 19 13 19 0) 21 13 20<|
.nil)
 (.cond (.tmp 21) (.z (.aT 4 y3)
 .ret)
 .skip))
 (.z (.aC 22 0 1<|
.s 24 13 22 23<|
.aB 25 11 24 .bool<|
.aH 5 26)
 (.seq (.z (.aN 6 0)
 (.block 0 (.loop th [] [] cc2)))
 (.keep [(5,.bool)] [] [] cc1)))))
def Ss (E:EB) (D:Ai) (W:AH) (K2:V->Int->Bool->Int->H->AF) (a:V) (b:Int) (U:H):AF:=
 AW 13 a b fun c d=>
 lI E U c d fun c=>
 Af (fun d e=>
 AI d (
 rB false e) (
 AW 13 a b fun d f=>
 lB E e d (AP f 11) fun d=>
 K2 a b d (AA 0) e)) fun d=>
 AI (not (Bt c (AA 9))) (
 d true U) (
 AW 13 a b fun c e=>
 lL E U c (AP e 1) fun c=>
 d (Ci (AA 0) (AA c)) U)
def Tf:XC:=(.z (.m 51 5<|
.aH 4 51)
 .ret)
def ya (E:EB) (D:Ai) (W:AH) (a:Bool) (U:H):AF:=
 rB a U
def Te:XC:=(.seq (.z (.aC 27 6 0<|
.m 29 1<|
.s 30 13 28 29<|
.aS 31 9 30<|
.aF 34 27 33)
 (.cond (.tmp 34) .skip
 Jh))
 (.seq (.block 1 (.ops (.m 37 5<|
.m 38 37<|
.gO 38 false (.p 39 [0,38] Hy<|
.p 40 [0,38] Hy<|
.p 41 [1,38] Ji<|
.p 42 [40,41,38] (.iaddrS 13 (.t 40) (.t 41))<|
.bC 43 42 38 9 42 38<|
.bA 45 6 38 6 44 38 11 44<|
.aE 47 46 38 1 46 38<|
.op (some 49) .bool [39,48,38] (.call 136 [(.t 39),(.t 48)])<|
.nil) 50 38 49<|
.aH 5 50)))
 (.ops (.m 35 6<|
.aA 36 35 1 6))))
def yZ (E:EB) (D:Ai) (W:AH) (K1:Bool->H->AF) (R2:V->Int->Bool->Int->H->AF) (a:V) (b:Int) (c:Bool) (d:Int) (U:H):AF:=
 AW 13 a b fun e f=>
 lL E U e (AP f 9) fun e=>
 AI (Ci d (AA e)) (
 Af (fun e f=>
 R2 a b e (Ba .i64 d (AA 1)) f) fun e=>
 AI c (
 e true U) (
 AW 13 a b fun f g=>
 EG E U f (AP g 9) fun f=>
 AW 11 f d fun f g=>
 lI E U f (AP g 1) fun f=>
 cB (D 136 [a,.int .i64 f] U) fun f g=>
 e f g)) (
 K1 c U)
def yy (a:V) (b:Int) (U:H):St:=⟨[(0,a),(1,.int .i64 b)],[],[],U⟩
def yx (a:V) (b:Int) (c:Bool) (d:Int) (U:H):St:=⟨[(0,a),(1,.int .i64 b),(5,.bool c),(6,.int .i64 d)],[],[],U⟩
def ABC (E:EB) (D:Ai) (W:AH) (N:Nat):=ya E D W
def Xi (n:Nat):V->Int->Bool->Int->H->AF:=
 Nat.rec (fun _ _ _ _ _=>none) (fun _ ih=>yZ E D W (ABC E D W N ) ih) n
theorem sQ (n:Nat) :
 (fun a b c d U=>BN (fun rec s'=>Ay E D W N Te s' (kX th [] [] rec) (AEV E D W N Tf) (QC E)) n (yx a b c d U))=Xi E D W N n:=WU (fun _=>by kernel_rfl) n
def Xw:=Ss E D W (Xi E D W N N)
theorem tC :
 (fun a b U=>Ay E D W N (oN Tf Te) (yy a b U) (QC E) nX (QC E))=Xw E D W N:=by
 unfold Xw;rw[<-sQ];generalize Tf=x0,Te=x1;revert x0 x1;refine id ?_;intros;kernel_rfl
def fD (args:List V) (U:H):AF:=
 uC args fun a b=>
 Xw E D W N a b U
def AOB:Dv:=⟨52,[.any,.i],[(.tmp 4)],(oN Tf Te)⟩
theorem AHL (args:List V) (U:H):B9 E D W N AOB args U=fD E D W N args U:=by
 unfold fD;rw[<-tC];kernel_rfl
def te:List (Nat × CZ):=[(0,.any),(1,.i),(5,.any),(6,.i)]
def QB (E:EB):St->AF:=fun s=>DR E s [(.tmp 4)] fun l=>some (Dh l,s.U)
def AEU (c0:XC):Nat->St->AF:=Bf 0 (dX E D W N (.keep [(5,.any)] [] [] c0) (QB E) nX (QB E)) nX
def oM (cc1:XC) (cc2:XC):XC:=(.z (.aW 4)
 (.seq (.z (.aC 7 0 1<|
.s 9 13 7 8<|
.aS 10 1 9<|
.bS 13 12 0)
 (.cond (.tmp 13) (.z (.aC 14 0 1<|
.s 16 13 14 15<|
.aB 17 1 16 .any<|
.p 19 [18] (.sliceSl 2 (.t 18) none (some (.i 1)) none)<|
.aH 4 19)
 .ret)
 .skip))
 (.z (.aW 5)
 (.seq (.z (.aN 6 0)
 (.block 0 (.loop te [] [] cc2)))
 (.keep [(5,.any)] [] [] cc1)))))
def Sr (E:EB) (D:Ai) (W:AH) (K2:V->Int->V->Int->H->AF) (a:V) (b:Int) (U:H):AF:=
 AW 13 a b fun c d=>
 lL E U c (AP d 1) fun c=>
 AI (Ci (AA 0) (AA c)) (
 AW 13 a b fun c d=>
 EG E U c (AP d 1) fun c=>
 gK (Cs 2 c none (some (iN 1)) none) fun c=>
 some (c,U)) (
 K2 a b V.nils (AA 0) U)
def Td:XC:=(.z (.m 43 5<|
.aH 4 43)
 .ret)
def yY (E:EB) (D:Ai) (W:AH) (a:V) (U:H):AF:=
 some (a,U)
def Tc:XC:=(.seq (.z (.aC 20 6 0<|
.m 22 1<|
.s 23 13 21 22<|
.aS 24 9 23<|
.aF 27 20 26)
 (.cond (.tmp 27) .skip
 Jh))
 (.seq (.block 1 (.ops (.aC 30 5 0<|
.aC 32 0 1<|
.s 34 13 32 33<|
.aZ 35 9 34 6<|
.s 38 11 36 37<|
.aB 39 1 38 .i<|
.k 41 .one 137 [(.t 31),(.t 40)]<|
.O 42 .one (.append 42 2 16 (.t 30) (.t 41))<|
.aH 5 42)))
 (.ops (.m 28 6<|
.aA 29 28 1 6))))
def yX (E:EB) (D:Ai) (W:AH) (K1:V->H->AF) (R2:V->Int->V->Int->H->AF) (a:V) (b:Int) (c:V) (d:Int) (U:H):AF:=
 AW 13 a b fun e f=>
 lL E U e (AP f 9) fun e=>
 AI (Ci d (AA e)) (
 AW 13 a b fun e f=>
 EG E U e (AP f 9) fun e=>
 AW 11 e d fun e f=>
 lI E U e (AP f 1) fun e=>
 CM (D 137 [a,.int .i64 e] U) fun e f=>
 CB e (
 DV E 2 16 c e f fun e f=>
 CB e (
 R2 a b e (Ba .i64 d (AA 1)) f))) (
 K1 c U)
def yw (a:V) (b:Int) (U:H):St:=⟨[(0,a),(1,.int .i64 b)],[],[],U⟩
def yv (a:V) (b:Int) (c:V) (d:Int) (U:H):St:=⟨[(0,a),(1,.int .i64 b),(5,c),(6,.int .i64 d)],[],[],U⟩
def ABB (E:EB) (D:Ai) (W:AH) (N:Nat):=yY E D W
def Xh (n:Nat):V->Int->V->Int->H->AF:=
 Nat.rec (fun _ _ _ _ _=>none) (fun _ ih=>yX E D W (ABB E D W N ) ih) n
theorem sP (n:Nat) :
 (fun a b c d U=>BN (fun rec s'=>Ay E D W N Tc s' (kX te [] [] rec) (AEU E D W N Td) (QB E)) n (yv a b c d U))=Xh E D W N n:=WU (fun _=>by kernel_rfl) n
def Xv:=Sr E D W (Xh E D W N N)
theorem tB :
 (fun a b U=>Ay E D W N (oM Td Tc) (yw a b U) (QB E) nX (QB E))=Xv E D W N:=by
 unfold Xv;rw[<-sP];generalize Td=x0,Tc=x1;revert x0 x1;refine id ?_;intros;kernel_rfl
def fC (args:List V) (U:H):AF:=
 uC args fun a b=>
 Xv E D W N a b U
def AOA:Dv:=⟨44,[.any,.i],[(.tmp 4)],(oM Td Tc)⟩
theorem AHK (args:List V) (U:H):B9 E D W N AOA args U=fC E D W N args U:=by
 unfold fC;rw[<-tB];kernel_rfl
def td:List (Nat × CZ):=[(0,.any),(3,.any),(4,.i),(5,.i)]
def NL:List (Nat × CZ):=[(0,.any),(3,.any),(4,.i)]
def Fe (E:EB):St->AF:=fun s=>DR E s [(.tmp 2)] fun l=>some (Dh l,s.U)
def AET (c0 c1:XC) (l0:St->AF):Nat->St->AF:=Bf 2 (dX E D W N (.keep NL [] [] c0) (kX NL [] [] l0) (Bf 0 (dX E D W N (.keep [] [] [] c1) (Fe E) nX (Fe E)) nX) (Fe E)) (Bf 1 (dX E D W N (.keep NL [] [] c0) (kX NL [] [] l0) (Bf 0 (dX E D W N (.keep [] [] [] c1) (Fe E) nX (Fe E)) nX) (Fe E)) (Bf 0 (dX E D W N (.keep [] [] [] c1) (Fe E) nX (Fe E)) nX))
def uh (c0:XC):Nat->St->AF:=Bf 0 (dX E D W N (.keep [] [] [] c0) (Fe E) nX (Fe E)) nX
def oL (cc1:XC) (cc2:XC):XC:=(.z (.aT 2 y3)
 (.z (.aW 3)
 (.seq (.z (.aN 4 0)
 (.block 0 (.loop NL [] [] cc2)))
 (.keep [] [] [] cc1))))
def Sp (E:EB) (D:Ai) (W:AH) (K2:V->V->Int->H->AF) (a:V) (U:H):AF:=
 K2 a V.nils (AA 0) U
def KE:XC:=(.z (.c 2 (V.bool true)<|
.nil)
 .ret)
def So (E:EB) (D:Ai) (W:AH) (U:H):AF:=
 rB true U
def Tb (cc3:XC) (cc4:XC):XC:=(.seq (.z (.aC 6 4 0<|
.u 8 7<|
.aF 9 6 8)
 wL)
 (.seq (.block 1 (.z (.aN 5 0)
 (.block 2 (.loop td [] [] cc4))))
 (.keep NL [] [] cc3)))
def Ph (E:EB) (D:Ai) (W:AH) (K1:H->AF) (K4:V->V->Int->Int->H->AF) (a b:V) (c:Int) (U:H):AF:=
 A0 a fun d=>
 AI (Ci c (AA d)) (
 K4 a b c (AA 0) U) (
 K1 U)
def KD:XC:=(.ops (.m 10 4<|
.aA 11 10 1 4))
def XF (E:EB) (D:Ai) (W:AH) (R2:V->V->Int->H->AF) (a b:V) (c:Int) (U:H):AF:=
 R2 a b (Ba .i64 c (AA 1)) U
def NC:XC:=(.seq (.z (.aC 12 5 0<|
.m 14 4<|
.bT 15 1 13 14 .any<|
.u 17 16<|
.aF 18 12 17)
 (.cond (.tmp 18) .skip
 (.exit 2)))
 (.seq (.block 3 (.seq (.z (.aC 21 3 0<|
.m 23 4<|
.bT 24 1 22 23 .any<|
.m 26 5<|
.aL 27 2 25 26 y8 2<|
.k 29 .bool 144 [(.t 21),(.t 28)]<|
.nil)
 (.cond (.tmp 29) (.z (.aT 2 y3)
 .ret)
 .skip))
 (.ops (.aC 30 3 0<|
.m 32 4<|
.bT 33 1 31 32 .any<|
.m 35 5<|
.aL 36 2 34 35 y8 2<|
.p 38 [37] (.buildSlice 42 1 [y0,y0] [(0,2,(.t 37))])<|
.O 39 .one (.append 42 2 16 (.t 30) (.t 38))<|
.aH 3 39))))
 (.ops (.m 19 5<|
.aA 20 19 1 5))))
def Pg (E:EB) (D:Ai) (W:AH) (K3:V->V->Int->H->AF) (R4:V->V->Int->Int->H->AF) (a b:V) (c d:Int) (U:H):AF:=
 AW 1 a c fun e f=>
 lL E U e f fun e=>
 AI (Ci d (AA e)) (
 iY E U 1 a c fun e=>
 iX E U 2 e d fun e=>
 uE e fun e f=>
 cB (D 144 [b,.agg [.int .i64 e,.int .i64 f]] U) fun e f=>
 AI e (
 rB false f) (
 iY E f 1 a c fun e=>
 iX E f 2 e d fun e=>
 uE e fun e g=>
 let h:=Br f (.cells [.int .i64 e,.int .i64 g]);
 DV E 2 16 b (V.sl (H.next f) 0 1 (.ex 1)) h fun e f=>
 CB e (
 R4 a e c (Ba .i64 d (AA 1)) f))) (
 K3 a b c U)
def yu (a:V) (U:H):St:=⟨[(0,a)],[],[],U⟩
def TL (a b:V) (c:Int) (U:H):St:=⟨[(0,a),(3,b),(4,.int .i64 c)],[],[],U⟩
def yt (a b:V) (c d:Int) (U:H):St:=⟨[(0,a),(3,b),(4,.int .i64 c),(5,.int .i64 d)],[],[],U⟩
def ABA (E:EB) (D:Ai) (W:AH) (N:Nat):=So E D W
def Xt (E:EB) (D:Ai) (W:AH) (N:Nat) (R2:V->V->Int->H->AF):=XF E D W R2
theorem sy (li2:St->AF) :
 (fun a b c U=>Ay E D W N KD (TL a b c U) (kX NL [] [] li2) (uh E D W N KE) (Fe E))=Xt E D W N (fun a b c U=>li2 (TL a b c U)):=by
 unfold Xt;generalize KE=x0;revert x0;refine id ?_;intros;kernel_rfl
def mF (R2:V->V->Int->H->AF) (n:Nat):V->V->Int->Int->H->AF:=
 Nat.rec (fun _ _ _ _ _=>none) (fun _ ih=>Pg E D W (Xt E D W N R2) ih) n
theorem sM (li2:St->AF) (n:Nat) :
 (fun a b c d U=>BN (fun rec s'=>Ay E D W N NC s' (kX td [] [] rec) (AET E D W N KD KE li2) (Fe E)) n (yt a b c d U))=mF E D W N (fun a b c U=>li2 (TL a b c U)) n:=WU (fun li=>by rw[<-sy];generalize KE=x0,KD=x1;revert x0 x1;refine id ?_;intros;kernel_rfl) n
def TQ (n:Nat):V->V->Int->H->AF:=
 Nat.rec (fun _ _ _ _=>none) (fun _ ih=>Ph E D W (ABA E D W N ) (mF E D W N ih N)) n
theorem sO (n:Nat) :
 (fun a b c U=>BN (fun rec s'=>Ay E D W N (Tb KD NC) s' (kX NL [] [] rec) (uh E D W N KE) (Fe E)) n (TL a b c U))=TQ E D W N n:=xW (fun li=>by rw[<-sM];generalize KD=x0,NC=x1;revert x0 x1;refine id ?_;intros;kernel_rfl) n
def Xu:=Sp E D W (TQ E D W N N)
theorem tA :
 (fun a U=>Ay E D W N (oL KE (Tb KD NC)) (yu a U) (Fe E) nX (Fe E))=Xu E D W N:=by
 unfold Xu;rw[<-sO];generalize Tb KD NC=x0,KE=x1;revert x0 x1;refine id ?_;intros;kernel_rfl
def fB (args:List V) (U:H):AF:=
 Ae args fun a b=>
 BJ b (
 Xu E D W N a U)
def AN9:Dv:=⟨40,[.any],[(.tmp 2)],(oL KE (Tb KD NC))⟩
theorem AHJ (args:List V) (U:H):B9 E D W N AN9 args U=fB E D W N args U:=by
 unfold fB;rw[<-tA];kernel_rfl
def tc:List (Nat × CZ):=[(5,(.int .u64)),(8,.any),(9,.i),(10,.i)]
def QA (E:EB):St->AF:=fun s=>DR E s [(.tmp 2),(.tmp 3),(.tmp 4)] fun l=>some (Dh l,s.U)
def AER (c0:XC):Nat->St->AF:=Bf 0 (dX E D W N (.keep [] [] [] c0) (QA E) nX (QA E)) nX
def oK (cc1:XC) (cc2:XC):XC:=(.z (.c 2 ow<|
.q 3 0<|
.aN 4 0)
 (.z (.aT 5 ow)
 (.seq (.z (.m 8 0<|
.u 9 8<|
.aN 10 0)
 (.block 0 (.loop tc [] [] cc2)))
 (.keep [] [] [] cc1))))
def Sn (E:EB) (D:Ai) (W:AH) (K2:Int->V->Int->Int->H->AF) (a:V) (U:H):AF:=
 A0 a fun b=>
 K2 (AA 0) a (AA b) (AA 0) U
def Ta:XC:=(.z (.c 2 ow<|
.q 3 0<|
.aN 4 3)
 .ret)
def XE (E:EB) (D:Ai) (W:AH) (U:H):AF:=
 some ((V.tup [.int .u64 (AA 0),iN 0,iN 3]),U)
def TZ:XC:=(.z (.aF 11 10 9)
 (.seq (.cond (.tmp 11) .skip
 Jh)
 (.seq (.block 1 (.z (.m 12 10<|
.s 13 1 8 10<|
.l 14 (.int .u8) 13<|
.m 6 12<|
.m 7 14<|
.nil)
 (.seq (.z (.m 15 6<|
.b 16 .eql .none (.t 15) (.i 0)<|
.m 17 16<|
.gA 17 true (.p 18 [7,17] (.mov (.t 7))<|
.p 19 [18,17] (.bin .eql .none (.t 18) y21)<|
.nil) 20 17 19<|
.m 21 20<|
.gO 21 false (.p 22 [5,21] (.mov (.t 5))<|
.p 23 [22,21] (.bin .shr .none (.t 22) (.con (V.int .u64 (AA 57))))<|
.p 24 [23,21] (.bin .neq .none (.t 23) (.con ow))<|
.nil) 25 21 24<|
.nil)
 (.cond (.tmp 25) (.z (.c 2 ow<|
.q 3 0<|
.q 4 4<|
.nil)
 .ret)
 .skip))
 (.z (.m 26 5<|
.b 27 .shl .none (.t 26) (.con (V.int .u64 (AA 7)))<|
.m 28 7<|
.b 29 .and .none (.t 28) (.con (V.int .u8 (AA 127)))<|
.P 30 (.conv (.toInt .u64) (.t 29))<|
.b 31 .or .none (.t 27) (.t 30)<|
.aH 5 31)
 (.z (.m 32 7<|
.b 33 .lss .none (.t 32) y21<|
.nil)
 (.cond (.tmp 33) (.z (.aC 34 5 6<|
.b 36 .add .none (.t 35) (.i 1)<|
.aC 2 34 36<|
.aN 4 0)
 .ret)
 .skip))))))
 (.ops (.aA 37 10 1 10)))))
def Sm (E:EB) (D:Ai) (W:AH) (K1:H->AF) (R2:Int->V->Int->Int->H->AF) (a:Int) (b:V) (c d:Int) (U:H):AF:=
 AI (Ci d c) (
 iY E U 1 b d fun e=>
 Ch .u8 e fun e=>
 Af (fun f g=>
 Af (fun h i=>
 AI h (
 some ((V.tup [.int .u64 (AA 0),iN 0,iN 4]),i)) (
 AI (Ci e (AA 128)) (
 some ((V.tup [.int .u64 (Ny .u64 (SM .u64 a 7) (BE .u64 (JE .u8 e (AA 127)))),.int .i64 (Ba .i64 d (AA 1)),iN 0]),i)) (
 R2 (Ny .u64 (SM .u64 a 7) (BE .u64 (JE .u8 e (AA 127)))) b c (Ba .i64 d (AA 1)) i))) fun h=>
 AI f (
 h true g) (
 h (not (Bt (Kc .u64 a 57) (AA 0))) g)) fun f=>
 AI (Bt d (AA 0)) (
 f (Bt e (AA 128)) U) (
 f false U)) (
 K1 U)
def yr (a:V) (U:H):St:=⟨[(0,a)],[],[],U⟩
def yq (a:Int) (b:V) (c d:Int) (U:H):St:=⟨[(5,.int .u64 a),(8,b),(9,.int .i64 c),(10,.int .i64 d)],[],[],U⟩
def AA9 (E:EB) (D:Ai) (W:AH) (N:Nat):=XE E D W
def mE (n:Nat):Int->V->Int->Int->H->AF:=
 Nat.rec (fun _ _ _ _ _=>none) (fun _ ih=>Sm E D W (AA9 E D W N ) ih) n
theorem sL (n:Nat) :
 (fun a b c d U=>BN (fun rec s'=>Ay E D W N TZ s' (kX tc [] [] rec) (AER E D W N Ta) (QA E)) n (yq a b c d U))=mE E D W N n:=WU (fun _=>by kernel_rfl) n
def Xs:=Sn E D W (mE E D W N N)
theorem sr :
 (fun a U=>Ay E D W N (oK Ta TZ) (yr a U) (QA E) nX (QA E))=Xs E D W N:=by
 unfold Xs;rw[<-sL];generalize Ta=x0,TZ=x1;revert x0 x1;refine id ?_;intros;kernel_rfl
def fA (args:List V) (U:H):AF:=
 Ae args fun a b=>
 BJ b (
 Xs E D W N a U)
def AN8:Dv:=⟨38,[.any],[(.tmp 2),(.tmp 3),(.tmp 4)],(oK Ta TZ)⟩
theorem AHI (args:List V) (U:H):B9 E D W N AN8 args U=fA E D W N args U:=by
 unfold fA;rw[<-sr];kernel_rfl
def tZ:List (Nat × CZ):=[(0,.any),(3,.ptr),(5,.i)]
def P9 (E:EB):St->AF:=fun s=>DR E s [(.tmp 4)] fun l=>some (Dh l,s.U)
def AEQ (c0:XC):Nat->St->AF:=Bf 0 (dX E D W N (.keep [] [] [] c0) (P9 E) nX (P9 E)) nX
def oJ (cc1:XC) (cc2:XC):XC:=(.z (.P 3 (.box 42 (.t 1))<|
.aT 4 y3)
 (.seq (.z (.aN 5 0)
 (.block 0 (.loop tZ [] [] cc2)))
 (.keep [] [] [] cc1)))
def Sk (E:EB) (D:Ai) (W:AH) (K2:V->Nat->Nat->Int->H->AF) (a:V) (b c:Int) (U:H):AF:=
 Ix [.int .i64 b,.int .i64 c] U fun d=>
 K2 a (H.next U) 0 (AA 0) d
def TY:XC:=(.z (.aT 4 y3)
 .ret)
def Sj (E:EB) (D:Ai) (W:AH) (U:H):AF:=
 rB false U
def TX:XC:=(.seq (.z (.aC 6 5 0<|
.u 8 7<|
.aF 9 6 8)
 wL)
 (.seq (.block 1 (.seq (.draw (.aC 12 0 5<|
.aL 14 2 12 13 y8 2<|
.O 16 y8 (.load (some 2) (.t 3))<|
.b 17 .eql (.flat [(0,.int),(1,.int)]) (.t 15) (.t 16)<|
.nil) [0,0,3,7,0,31])
 y25))
 y24))
def Pf (E:EB) (D:Ai) (W:AH) (K1:H->AF) (R2:V->Nat->Nat->Int->H->AF) (a:V) (b c:Nat) (d:Int) (U:H):AF:=
 A0 a fun e=>
 AI (Ci d (AA e)) (
 iX E U 2 a d fun e=>
 uE e fun e f=>
 Bv E U b c 2 fun g=>
 uE g fun g h=>
 xw (.flat [(0,.int),(1,.int)]) (V.agg [.int .i64 e,.int .i64 f]) (V.agg [.int .i64 g,.int .i64 h]) fun e=>
 AI e (
 rB true U) (
 R2 a b c (Ba .i64 d (AA 1)) U)) (
 K1 U)
def yp (a:V) (b c:Int) (U:H):St:=⟨[(0,a),(1,.agg [.int .i64 b,.int .i64 c])],[],[],U⟩
def yo (a:V) (b c:Nat) (d:Int) (U:H):St:=⟨[(0,a),(3,.ptr b c),(5,.int .i64 d)],[],[],U⟩
def AA8 (E:EB) (D:Ai) (W:AH) (N:Nat):=Sj E D W
def TP (n:Nat):V->Nat->Nat->Int->H->AF:=
 Nat.rec (fun _ _ _ _ _=>none) (fun _ ih=>Pf E D W (AA8 E D W N ) ih) n
theorem sK (n:Nat) :
 (fun a b c d U=>BN (fun rec s'=>Ay E D W N TX s' (kX tZ [] [] rec) (AEQ E D W N TY) (P9 E)) n (yo a b c d U))=TP E D W N n:=WU (fun _=>by kernel_rfl) n
def Xr:=Sk E D W (TP E D W N N)
theorem so :
 (fun a b c U=>Ay E D W N (oJ TY TX) (yp a b c U) (P9 E) nX (P9 E))=Xr E D W N:=by
 unfold Xr;rw[<-sK];generalize TY=x0,TX=x1;revert x0 x1;refine id ?_;intros;kernel_rfl
def e9 (args:List V) (U:H):AF:=
 Ae args fun a b=>
 Ae b fun b c=>
 CW b fun b=>
 uE b fun b d=>
 BJ c (
 Xr E D W N a b d U)
def AN7:Dv:=⟨18,[.any,y8],[(.tmp 4)],(oJ TY TX)⟩
theorem AHH (args:List V) (U:H):B9 E D W N AN7 args U=e9 E D W N args U:=by
 unfold e9;rw[<-so];kernel_rfl
