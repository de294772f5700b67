/- What the last text leans on, part 8 of 10: merged out of smaller texts. No condition. -/
import Derived.Test.YtnpcmeaplmfdlaaGreatDoorCards
import Derived.Lib.LaidU8
import Derived.Stop.LaidErr
import Derived.LaidSub
import Derived.Test.YtnpcmeaplmfdlaaGreatDoorV6
open Int renaming ofNat -> AA
open Nat renaming reduceLeDiff -> AD,reduceEqDiff -> AE,reduceLT -> AF,le_refl -> AL,add -> AN,le_trans -> AU,lt_or_ge -> Av,beq -> Ax,zero_le -> BF,zero_add -> BQ,eq_of_beq_eq_true -> CJ,le_succ -> C9,mul_one -> DO,mul_le_mul_right -> Et,min_eq_left -> Gi,mul_comm -> OI,add_mul -> jz
open Bool renaming and_true -> Au,or_eq_false_iff -> Ba
open List renaming getElem?_eq_getElem -> AV,length_append -> AY,length_nil -> Aa,getElem?_eq_none -> Ae,getD_eq_getElem?_getD -> A1,getElem?_map -> BR,drop_drop -> BU,mem_singleton -> B0,getElem?_drop -> CD,getElem?_take -> CY,length_map -> DD,drop_zero -> Dv,mem_append -> Dw,length_set -> Dx,range -> Fz,mem_of_getElem? -> Il,getElem?_range -> O2,drop_take -> WQ,forall_mem_cons -> j0,map_map -> xT,take_left -> AFb,drop_left -> AFd
open Option renaming some -> AP,map_some -> CH
open Array renaming getElem?_toList -> ET
set_option linter.all false
set_option maxRecDepth 100000
set_option maxHeartbeats 0
namespace Go.Proofs.YtnpcmeaplmfdlaaGreatDoor
open Go Go.Og
noncomputable section
variable (E:EB) (D:Am) (W:AJ) (N:Nat)
def AP0:XC:=(.z (.aH 2 y1)
 (.seq (.z (.aW 9 0<|
 .b 11 .gtr .none (.t 10) (.i 9000)<|
 .nil)
 (.cond (.tmp 11) (.z (.k 12 .bool 5 []<|
 .aC 2 12)
 .ret)
 .skip))
 (.z (.m 14 0<|
 .k 15 (.tup [y8,.i,.i]) 6 [(.t 14)]<|
 .bE 13 0 1 2<|
 .pal 3 [] 27 [y3,y0,V.nils,V.nils,V.nils]<|
 .op none y8 [3,16] (.store 5 (.t 3) (.t 16))<|
 .m 4 17<|
 .aC 5 18)
 (.z (.m 20 0<|
 .k 21 (.tup [y8,.i,.i]) 7 [(.t 20)]<|
 .bE 19 0 1 2<|
 .pal 6 [] 27 [y3,y0,V.nils,V.nils,V.nils]<|
 .op none y8 [6,22] (.store 5 (.t 6) (.t 22))<|
 .m 7 23<|
 .aC 8 24)
 (.z (.k 25 .bool 5 []<|
 .m 26 25<|
 .gA 26 true (.op (some 27) y8 [3,26] (.load (some 5) (.t 3))<|
 .op (some 28) y8 [6,26] (.load (some 5) (.t 6))<|
 .op (some 29) .bool [27,28,26] (.call 8 [(.t 27),(.t 28)])<|
 .nil) 30 26 29<|
 .m 31 30<|
 .gA 31 true (.p 32 [4,31] (.mov (.t 4))<|
 .p 33 [7,31] (.mov (.t 7))<|
 .bC 34 32 33 31 32 33) 35 31 34<|
 .m 36 35<|
 .gA 36 true (.p 37 [5,36] j3<|
 .p 38 [8,36] tY<|
 .bC 39 37 38 36 37 38) 40 36 39<|
 .aC 2 40)
 .ret)))))
def pg(E:EB)(D:Am)(W:AJ)(a:BS)(U:H):AH:=
 AG (Cw (AA 9000) (AA (BS.len a))) (
 cB (D 5 [] U) λb c=>
 rB b c) (
 cT (D 6 [.str a] U) λb c=>
 Aj b λb d=>
 Cl b λb=>
 uA b λb e f g h=>
 uB d λd i=>
 JK (BM (eA b e f g h)) (
 cT (D 7 [.str a] c) λc j=>
 Aj c λc k=>
 Cl c λc=>
 uA c λc l m n o=>
 uB k λk p=>
 JK (BM (eA c l m n o)) (
 cB (D 5 [] j) λj q=>
 Ab (λr s=>
 Ab (λt u=>
 Ab (λv w=>
 rB v w) λv=>
 AG t (
 v (Cc i p) u) (
 v false u)) λi=>
 AG r (
 i (Cc d k) s) (
 i false s)) λd=>
 AG j (
 cB (D 8 [.agg (eA b e f g h),.agg (eA c l m n o)] q) λb c=>
 d b c) (
 d false q))))
def F3(N:Nat)(c:List V)(U:H):AH:=
 NA c λa b=>
 BD b (
 pg E D W a U)
def A3:Dg:=⟨41,[.str],[(.tmp 2)],AP0⟩
theorem FE3 b U:Bt E D W N A3 b U=F3 E D W N b U:=by kernel_rfl
def APw:XC:=(.z (.P 2 (.box 27 (.t 0))<|
 .P 3 (.box 27 (.t 1))<|
 .aH 4 y1)
 (.z (.aO 5 0 2 .str<|
 .aO 7 0 3 .str<|
 .b 9 .eql .none (.t 6) (.t 8)<|
 .m 10 9<|
 .gA 10 true (.aF 11 2 10 1 2 10<|
 .aF 13 3 10 1 3 10<|
 .bC 15 12 14 10 12 14) 16 10 15<|
 .m 17 16<|
 .gA 17 true (.aE 18 2 17 2 2 17<|
 .aE 20 3 17 2 3 17<|
 .op (some 22) .bool [19,21,17] (.call 18 [(.t 19),(.t 21)])<|
 .nil) 23 17 22<|
 .m 24 23<|
 .gA 24 true (.aE 25 2 24 3 2 24<|
 .aE 27 3 24 3 3 24<|
 .op (some 29) .bool [26,28,24] (.call 19 [(.t 26),(.t 28)])<|
 .nil) 30 24 29<|
 .m 31 30<|
 .gA 31 true (.aE 32 2 31 4 2 31<|
 .aE 34 3 31 4 3 31<|
 .op (some 36) .bool [33,35,31] (.call 20 [(.t 33),(.t 35),(.con (V.fn 21 [] []))])<|
 .nil) 37 31 36<|
 .aC 4 37)
 .ret))
def ABr(E:EB)(D:Am)(W:AJ)(a:BS)(b:Int)(c d e:V)(f:BS)(g:Int)(h i j:V)(U:H):AH:=
 OU (eA a b c d e) U λk=>
 OU (eA f g h i j) k λl=>
 lS E l (H.next U) 0 λm=>
 lS E l (H.next k) 0 λn=>
 Ab (λo p=>
 Ab (λq r=>
 Ab (λs t=>
 Ab (λu v=>
 rB u v) λu=>
 AG s (
 Ee E t (H.next U) 4 λs=>
 Ee E t (H.next k) 4 λv=>
 cB (D 20 [s,v,.fn 21 [] []] t) λs v=>
 u s v) (
 u false t)) λs=>
 AG q (
 Ee E r (H.next U) 3 λq=>
 Ee E r (H.next k) 3 λt=>
 cB (D 19 [q,t] r) λq t=>
 s q t) (
 s false r)) λq=>
 AG o (
 Ee E p (H.next U) 2 λo=>
 Ee E p (H.next k) 2 λr=>
 cB (D 18 [o,r] p) λo r=>
 q o r) (
 q false p)) λo=>
 AG (BS.beq m n) (
 lI E l (H.next U) 1 λm=>
 lI E l (H.next k) 1 λk=>
 o (Cc m k) l) (
 o false l)
def F8(N:Nat)(l:List V)(U:H):AH:=
 Aj l λa b=>
 Cl a λa=>
 uA a λa c d e f=>
 Aj b λb g=>
 Cl b λb=>
 uA b λb h i j k=>
 BD g (
 ABr E D W a c d e f b h i j k U)
def A8:Dg:=⟨38,[y8,y8],[(.tmp 4)],APw⟩
theorem FE8 b U:Bt E D W N A8 b U=F8 E D W N b U:=by kernel_rfl
def AM7:XC:=(.z (.aH 4 y1)
 (.z (.aD 5 0 1<|
 .k 7 .bool 35 [(.t 5),(.t 6),(.con (V.fn 36 [] []))]<|
 .m 4 7<|
 .nil)
 .ret))
def qL(E:EB)(D:Am)(W:AJ)(a b:V)(U:H):AH:=
 cB (D 35 [a,b,.fn 36 [] []] U) λc d=>
 rB c d
def F18(N:Nat)(c:List V)(U:H):AH:=
 uL c λa b=>
 qL E D W a b U
def A18:Dg:=⟨8,[.any,.any],[(.tmp 4)],AM7⟩
theorem APa b U:Bt E D W N A18 b U=F18 E D W N b U:=by kernel_rfl
def AM6:XC:=(.z (.aH 4 y1)
 (.z (.aD 5 0 1<|
 .k 7 .bool 37 [(.t 5),(.t 6),(.con (V.fn 38 [] []))]<|
 .m 4 7<|
 .nil)
 .ret))
def qK(E:EB)(D:Am)(W:AJ)(a b:V)(U:H):AH:=
 cB (D 37 [a,b,.fn 38 [] []] U) λc d=>
 rB c d
def F19(N:Nat)(c:List V)(U:H):AH:=
 uL c λa b=>
 qK E D W a b U
def A19:Dg:=⟨8,[.any,.any],[(.tmp 4)],AM6⟩
theorem APZ b U:Bt E D W N A19 b U=F19 E D W N b U:=by kernel_rfl
def AHT:List (Nat × DN):=[(0,.any),(1,.any),(2,.any),(7,.i)]
def Yj(E:EB):St->AH:=λs=>Dy E s [(.tmp 6)] λl=>some (Ek l,s.U)
def AO8(c0:XC):Nat->St->AH:=CQ 0 (dX E D W N (.keep [] [] [] c0) (Yj E) nX (Yj E)) nX
def AAG(b:XC)(a:XC):XC:=(.z (.aH 6 y1)
 (.seq (.z (.bS 8 0 1)
 y17)
 (.seq (.z (.bV 7 0)
 (.block 0 (.loop AHT [] [] a)))
 (.keep [] [] [] b))))
def qJ(E:EB)(D:Am)(W:AJ)(f:V->V->V->Int->H->AH)(a b c:V)(U:H):AH:=
 BV a λd=>
 BV b λe=>
 AG (not (Cc (AA d) (AA e))) (
 rB false U) (
 f a b c (AA 0) U)
def iW:XC:=(.z (.aH 6 y9)
 .ret)
def qI(E:EB)(D:Am)(W:AJ)(U:H):AH:=
 rB true U
def iV:XC:=(.seq (.z (.aD 13 7 0<|
 .u 15 14<|
 .aS 16 13 15)
 xe)
 (.seq (.block 1 (.seq (.draw (.cP 19 2 0 7<|
 .cB 22 16 20 21 y2 16<|
 .aD 24 1 7<|
 .cB 26 16 24 25 y2 16<|
 .cI 28 .bool 19 23 27 xW) [0,0,0,6,14,0,0,96,224,511,1023])
 xg))
 xi))
def fE(E:EB)(D:Am)(W:AJ)(O:H->AH)(M:V->V->V->Int->H->AH)(a b c:V)(d:Int)(U:H):AH:=
 BV a λe=>
 AG (Cw d (AA e)) (
 iX E U 16 a d λe=>
 uK e λe f g h i j k l m n o p q r s t=>
 iX E U 16 b d λu=>
 uK u λu v w x y z A L K J I G N C B F=>
 HE D c [.agg (eK e f g h i j k l m n o p q r s t),.agg (eK u v w x y z A L K J I G N C B F)] U λe f=>
 CN e λe=>
 AG (not e) (
 rB false f) (
 M a b c (BP .i64 d (AA 1)) f)) (
 O U)
def AJl(a b c:V)(U:H):St:=⟨[(0,a),(1,b),(2,c)],[],[],U⟩
def AJk(a b c:V)(d:Int)(U:H):St:=⟨[(0,a),(1,b),(2,c),(7,.int .i64 d)],[],[],U⟩
def AKh(E:EB)(D:Am)(W:AJ)(N:Nat):=qI E D W
def SM(n:Nat):V->V->V->Int->H->AH:=
 Nat.rec (λ_ _ _ _ _=>none) (λ_ a=>fE E D W (AKh E D W N ) a) n
theorem ACo n:
 (λa b c d U=>Bw (λf g=>A0 E D W N iV g (kX AHT [] [] f) (AO8 E D W N iW) (Yj E)) n (AJk a b c d U))=SM E D W N n:=Yn (λ_=>by kernel_rfl) n
def sZ:=qJ E D W (SM E D W N N)
theorem ADn:
 (λa b c U=>A0 E D W N (AAG iW iV) (AJl a b c U) (Yj E) nX (Yj E))=sZ E D W N:=by
 unfold sZ;rw[<-ACo];generalize iW=j,iV=k;revert j k;refine id ?_;intros;kernel_rfl
def F20(d:List V)(U:H):AH:=
 uM d λa b c=>
 sZ E D W N a b c U
def A20:Dg:=⟨30,y69,[(.tmp 6)],(AAG iW iV)⟩
theorem APY b U:Bt E D W N A20 b U=F20 E D W N b U:=by
 unfold F20;rw[<-ADn];kernel_rfl
def AM5(a:XC):XC:=(.z (.P 2 (.box 47 (.t 0))<|
 .P 3 (.box 47 (.t 1))<|
 .aH 4 y1)
 (.keep [(2,.ptr),(3,.ptr)] [] [] a))
def qH(E:EB)(D:Am)(W:AJ)(F:Nat->Nat->Nat->Nat->H->AH)(a:Int)(b:BS)(c:Bool)(d e:Int)(f g h i:Bool)(j k:Int)(l m:V)(o:Int)(p:Bool)(q r:Int)(s:BS)(t:Bool)(u v:Int)(w x y z:Bool)(B I:Int)(M O:V)(A:Int)(X:Bool)(Y:Int)(U:H):AH:=
 OU (eK a b c d e f g h i j k l m o p q) U λn=>
 OU [.int .i64 r,.str s,.bool t,.int .i64 u,.int .i64 v,.bool w,.bool x,.bool y,.bool z,.int .i64 B,.int .i64 I,M,O,.int .i64 A,.bool X,.int .i64 Y] n λC=>
 F (H.next U) 0 (H.next n) 0 C
def AM4(a:XC)(b:XL):XC:=(.z (.aO 5 0 2 .i<|
 .aO 7 0 3 .i<|
 .b 9 .eql .none (.t 6) (.t 8)<|
 .m 10 9<|
 .gA 10 true (.p 11 [2,10] (.faddr 1 (.t 2))<|
 .op (some 12) .str [11,10] (.load none (.t 11))<|
 .p 13 [3,10] (.faddr 1 (.t 3))<|
 .op (some 14) .str [13,10] (.load none (.t 13))<|
 .bC 15 12 14 10 12 14) 16 10 15<|
 .m 17 16<|
 .gA 17 true (.bZ 18 2 17 2 2 Ud 17 3<|
 .bZ 20 3 17 2 3 Ud 17 3<|
 .p 22 [19,21,17] (.bin .eql (.flat [(0,.bool),(1,.int),(2,.int)]) (.t 19) (.t 21))<|
 .nil) 23 17 22<|
 .m 24 23<|
 .gA 24 true (.bZ 25 2 24 5 2 y7 24 6<|
 .bZ 27 3 24 5 3 y7 24 6<|
 .p 29 [26,28,24] (.bin .eql (.flat [(0,.bool),(1,.bool),(2,.bool),(3,.bool),(4,.int),(5,.int)]) (.t 26) (.t 28))<|
 .nil) 30 24 29<|
 b)
 (.keep [(4,.bool)] [] [] a))
def qG(E:EB)(D:Am)(W:AJ)(w:Bool->Bool->Bool->Bool->Bool->Bool->Bool->Int->Nat->Nat->Int->Nat->Nat->Nat->Nat->Nat->Nat->H->AH)(a b c d:Nat)(U:H):AH:=
 lI E U a b λe=>
 lI E U c d λf=>
 Ab (λg h=>
 Ab (λi j=>
 Ab (λk l=>
 w k i i g g (Cc e f) (Cc e f) f c d e a b a b c d l) λk=>
 AG i (
 Dt E j a (AN b 5) 6 λi=>
 uN i λi l m n o p=>
 Dt E j c (AN d 5) 6 λq=>
 uN q λq r s t u v=>
 Sh (.flat [(0,.bool),(1,.bool),(2,.bool),(3,.bool),(4,.int),(5,.int)]) (V.agg (eN i l m n o p)) (V.agg (eN q r s t u v)) λi=>
 k i j) (
 k false j)) λi=>
 AG g (
 Dt E h a (AN b 2) 3 λg=>
 uO g λg j k=>
 Dt E h c (AN d 2) 3 λl=>
 uO l λl m n=>
 Sh (.flat [(0,.bool),(1,.int),(2,.int)]) (V.agg (eO g j k)) (V.agg (eO l m n)) λg=>
 i g h) (
 i false h)) λg=>
 AG (Cc e f) (
 lS E U a (AN b 1) λe=>
 lS E U c (AN d 1) λf=>
 g (BS.beq e f) U) (
 g false U)
def AM3:XC := .ret
def qF(E:EB)(D:Am)(W:AJ)(a:Bool)(U:H):AH:=
 rB a U
def AM2(a:XL):XL := .m 31 30<|
 .gA 31 true (.aE 32 2 31 11 2 31<|
 .aE 34 3 31 11 3 31<|
 .op (some 36) .bool [33,35,31] (.call 39 [(.t 33),(.t 35)])<|
 .nil) 37 31 36<|
 .m 38 37<|
 .gA 38 true (.aE 39 2 38 12 2 38<|
 .aE 41 3 38 12 3 38<|
 .op (some 43) .bool [40,42,38] (.call 40 [(.t 40),(.t 42),(.con (V.fn 41 [] []))])<|
 .nil) 44 38 43<|
 .m 45 44<|
 .gA 45 true (.aF 46 2 45 13 2 45<|
 .aF 48 3 45 13 3 45<|
 .bC 50 47 49 45 47 49) 51 45 50<|
 a
def qE(E:EB)(D:Am)(W:AJ)(x:Bool->Bool->Bool->Bool->Bool->Bool->Bool->Bool->Bool->Bool->Bool->Bool->Bool->Int->Nat->Nat->Int->Nat->Nat->Nat->Nat->Nat->Nat->H->AH)(n r t q w p s:Bool)(u:Int)(o m:Nat)(v:Int)(l k b i j h:Nat)(U:H):AH:=
 Ab (λa c=>
 Ab (λd e=>
 Ab (λf g=>
 x f d d a a n n r t q w p s u o m v l k b i j h g) λf=>
 AG d (
 lI E e b (AN i 13) λd=>
 lI E e j (AN h 13) λg=>
 f (Cc d g) e) (
 f false e)) λd=>
 AG a (
 Ee E c b (AN i 12) λa=>
 Ee E c j (AN h 12) λe=>
 cB (D 40 [a,e,.fn 41 [] []] c) λa e=>
 d a e) (
 d false c)) λa=>
 AG n (
 Ee E U b (AN i 11) λc=>
 Ee E U j (AN h 11) λd=>
 cB (D 39 [c,d] U) λc d=>
 a c d) (
 a false U)
def AM1:XL := .m 52 51<|
 .gA 52 true (.bD 53 2 52 14 2 52<|
 .bD 55 3 52 14 3 52<|
 .p 57 [54,56,52] (.bin .eql .bool (.t 54) (.t 56))<|
 .nil) 58 52 57<|
 .m 59 58<|
 .gA 59 true (.aF 60 2 59 15 2 59<|
 .aF 62 3 59 15 3 59<|
 .bC 64 61 63 59 61 63) 65 59 64<|
 .aC 4 65
def qD(E:EB)(D:Am)(W:AJ)(s:Bool->H->AH)(q y v t B x u w z A n o p:Bool)(m:Int)(l k:Nat)(r:Int)(j i f h g b:Nat)(U:H):AH:=
 Ab (λa c=>
 Ab (λd e=>
 s d e) λd=>
 AG a (
 lI E c f (AN h 15) λa=>
 lI E c g (AN b 15) λe=>
 d (Cc a e) c) (
 d false c)) λa=>
 AG q (
 lB E U f (AN h 14) λc=>
 lB E U g (AN b 14) λd=>
 Sh .bool (V.bool c) (V.bool d) λc=>
 a c U) (
 a false U)
def AKf(E:EB)(D:Am)(W:AJ)(N:Nat):=qF E D W
def AKd:=qD E D W (AKf E D W N )
def AKe:=qE E D W (AKd E D W N )
def AKg:=qG E D W (AKe E D W N )
def F21(A:List V)(U:H):AH:=
 Aj A λa b=>
 Cl a λa=>
 uK a λa c d e f g h i j k l m n o p q=>
 Aj b λb r=>
 Cl b λb=>
 uK b λb s t u v w x y z B J I G C F K=>
 BD r (
 qH E D W (AKg E D W N ) a c d e f g h i j k l m n o p q b s t u v w x y z B J I G C F K U)
def A21:Dg:=⟨66,[y2,y2],[(.tmp 4)],(AM5 (AM4 AM3 (AM2 AM1)))⟩
theorem APX b U:Bt E D W N A21 b U=F21 E D W N b U:=by kernel_rfl
def AHP:List (Nat × DN):=[(0,.any),(1,.any),(2,.any),(7,.i)]
def Yg(E:EB):St->AH:=λs=>Dy E s [(.tmp 6)] λl=>some (Ek l,s.U)
def AO3(c0:XC):Nat->St->AH:=CQ 0 (dX E D W N (.keep [] [] [] c0) (Yg E) nX (Yg E)) nX
def AAB(b:XC)(a:XC):XC:=(.z (.aH 6 y1)
 (.seq (.z (.bS 8 0 1)
 y17)
 (.seq (.z (.bV 7 0)
 (.block 0 (.loop AHP [] [] a)))
 (.keep [] [] [] b))))
def pt(E:EB)(D:Am)(W:AJ)(f:V->V->V->Int->H->AH)(a b c:V)(U:H):AH:=
 BV a λd=>
 BV b λe=>
 AG (not (Cc (AA d) (AA e))) (
 rB false U) (
 f a b c (AA 0) U)
def iO:XC:=(.z (.aH 6 y9)
 .ret)
def pr(E:EB)(D:Am)(W:AJ)(U:H):AH:=
 rB true U
def iM:XC:=(.seq (.z (.aD 13 7 0<|
 .u 15 14<|
 .aS 16 13 15)
 xe)
 (.seq (.block 1 (.seq (.draw (.cP 19 2 0 7<|
 .s 22 1 20 21<|
 .l 23 .str 22<|
 .aD 24 1 7<|
 .s 26 1 24 25<|
 .l 27 .str 26<|
 .cI 28 .bool 19 23 27 xW) [0,0,0,6,14,0,0,96,224,511,1023])
 xg))
 xi))
def ew(E:EB)(D:Am)(W:AJ)(h:H->AH)(i:V->V->V->Int->H->AH)(a b c:V)(d:Int)(U:H):AH:=
 BV a λe=>
 AG (Cw d (AA e)) (
 Bl 1 a d λe f=>
 lS E U e f λe=>
 Bl 1 b d λf g=>
 lS E U f g λf=>
 HE D c [.str e,.str f] U λe f=>
 CN e λe=>
 AG (not e) (
 rB false f) (
 i a b c (BP .i64 d (AA 1)) f)) (
 h U)
def AJf(a b c:V)(U:H):St:=⟨[(0,a),(1,b),(2,c)],[],[],U⟩
def AJe(a b c:V)(d:Int)(U:H):St:=⟨[(0,a),(1,b),(2,c),(7,.int .i64 d)],[],[],U⟩
def AKa(E:EB)(D:Am)(W:AJ)(N:Nat):=pr E D W
def SL(n:Nat):V->V->V->Int->H->AH:=
 Nat.rec (λ_ _ _ _ _=>none) (λ_ a=>ew E D W (AKa E D W N ) a) n
theorem ACh n:
 (λa b c d U=>Bw (λf g=>A0 E D W N iM g (kX AHP [] [] f) (AO3 E D W N iO) (Yg E)) n (AJe a b c d U))=SL E D W N n:=Yn (λ_=>by kernel_rfl) n
def sQ:=pt E D W (SL E D W N N)
theorem ADi:
 (λa b c U=>A0 E D W N (AAB iO iM) (AJf a b c U) (Yg E) nX (Yg E))=sQ E D W N:=by
 unfold sQ;rw[<-ACh];generalize iO=j,iM=k;revert j k;refine id ?_;intros;kernel_rfl
def F35(d:List V)(U:H):AH:=
 uM d λa b c=>
 sQ E D W N a b c U
def A35:Dg:=⟨30,y69,[(.tmp 6)],(AAB iO iM)⟩
theorem APW b U:Bt E D W N A35 b U=F35 E D W N b U:=by
 unfold F35;rw[<-ADi];kernel_rfl
def AMo:XC:=(.z (.aH 4 y1)
 (.z (.aD 5 0 1<|
 .b 7 .eql .none (.t 5) (.t 6)<|
 .m 4 7<|
 .nil)
 .ret))
def pq(E:EB)(D:Am)(W:AJ)(a b:BS)(U:H):AH:=
 rB (BS.beq a b) U
def F36(N:Nat)(c:List V)(U:H):AH:=
 uT c λa b=>
 pq E D W a b U
def A36:Dg:=⟨8,[.str,.str],[(.tmp 4)],AMo⟩
theorem APV b U:Bt E D W N A36 b U=F36 E D W N b U:=by kernel_rfl
def AHO:List (Nat × DN):=[(0,.any),(1,.any),(2,.any),(7,.i)]
def Yf(E:EB):St->AH:=λs=>Dy E s [(.tmp 6)] λl=>some (Ek l,s.U)
def AO2(c0:XC):Nat->St->AH:=CQ 0 (dX E D W N (.keep [] [] [] c0) (Yf E) nX (Yf E)) nX
def AAA(b:XC)(a:XC):XC:=(.z (.aH 6 y1)
 (.seq (.z (.bS 8 0 1)
 y17)
 (.seq (.z (.bV 7 0)
 (.block 0 (.loop AHO [] [] a)))
 (.keep [] [] [] b))))
def po(E:EB)(D:Am)(W:AJ)(f:V->V->V->Int->H->AH)(a b c:V)(U:H):AH:=
 BV a λd=>
 BV b λe=>
 AG (not (Cc (AA d) (AA e))) (
 rB false U) (
 f a b c (AA 0) U)
def iL:XC:=(.z (.aH 6 y9)
 .ret)
def pn(E:EB)(D:Am)(W:AJ)(U:H):AH:=
 rB true U
def iK:XC:=(.seq (.z (.aD 13 7 0<|
 .u 15 14<|
 .aS 16 13 15)
 xe)
 (.seq (.block 1 (.seq (.draw (.cP 19 2 0 7<|
 .s 22 1 20 21<|
 .l 23 .i 22<|
 .aD 24 1 7<|
 .s 26 1 24 25<|
 .l 27 .i 26<|
 .cI 28 .bool 19 23 27 xW) [0,0,0,6,14,0,0,96,224,511,1023])
 xg))
 xi))
def et(E:EB)(D:Am)(W:AJ)(h:H->AH)(i:V->V->V->Int->H->AH)(a b c:V)(d:Int)(U:H):AH:=
 BV a λe=>
 AG (Cw d (AA e)) (
 Bl 1 a d λe f=>
 lI E U e f λe=>
 Bl 1 b d λf g=>
 lI E U f g λf=>
 HE D c [.int .i64 e,.int .i64 f] U λe f=>
 CN e λe=>
 AG (not e) (
 rB false f) (
 i a b c (BP .i64 d (AA 1)) f)) (
 h U)
def AJd(a b c:V)(U:H):St:=⟨[(0,a),(1,b),(2,c)],[],[],U⟩
def AJc(a b c:V)(d:Int)(U:H):St:=⟨[(0,a),(1,b),(2,c),(7,.int .i64 d)],[],[],U⟩
def AKZ(E:EB)(D:Am)(W:AJ)(N:Nat):=pn E D W
def SK(n:Nat):V->V->V->Int->H->AH:=
 Nat.rec (λ_ _ _ _ _=>none) (λ_ a=>et E D W (AKZ E D W N ) a) n
theorem ACg n:
 (λa b c d U=>Bw (λf g=>A0 E D W N iK g (kX AHO [] [] f) (AO2 E D W N iL) (Yf E)) n (AJc a b c d U))=SK E D W N n:=Yn (λ_=>by kernel_rfl) n
def sP:=po E D W (SK E D W N N)
theorem ADh:
 (λa b c U=>A0 E D W N (AAA iL iK) (AJd a b c U) (Yf E) nX (Yf E))=sP E D W N:=by
 unfold sP;rw[<-ACg];generalize iL=j,iK=k;revert j k;refine id ?_;intros;kernel_rfl
def F37(d:List V)(U:H):AH:=
 uM d λa b c=>
 sP E D W N a b c U
def A37:Dg:=⟨30,y69,[(.tmp 6)],(AAA iL iK)⟩
theorem APU b U:Bt E D W N A37 b U=F37 E D W N b U:=by
 unfold F37;rw[<-ADh];kernel_rfl
def AMn:XC:=(.z (.aH 4 y1)
 (.z (.aD 5 0 1<|
 .b 7 .eql .none (.t 5) (.t 6)<|
 .m 4 7<|
 .nil)
 .ret))
def pk(E:EB)(D:Am)(W:AJ)(a b:Int)(U:H):AH:=
 rB (Cc a b) U
def F38(N:Nat)(c:List V)(U:H):AH:=
 uB c λa b=>
 pk E D W a b U
def A38:Dg:=⟨8,[.i,.i],[(.tmp 4)],AMn⟩
theorem APT b U:Bt E D W N A38 b U=F38 E D W N b U:=by kernel_rfl
def AMm:XC:=(.z (.aH 4 y1)
 (.z (.aD 5 0 1<|
 .k 7 .bool 69 [(.t 5),(.t 6),(.con (V.fn 70 [] []))]<|
 .m 4 7<|
 .nil)
 .ret))
def ph(E:EB)(D:Am)(W:AJ)(a b:V)(U:H):AH:=
 cB (D 69 [a,b,.fn 70 [] []] U) λc d=>
 rB c d
def F39(N:Nat)(c:List V)(U:H):AH:=
 uL c λa b=>
 ph E D W a b U
def A39:Dg:=⟨8,[.any,.any],[(.tmp 4)],AMm⟩
theorem APS b U:Bt E D W N A39 b U=F39 E D W N b U:=by kernel_rfl
def AHN:List (Nat × DN):=[(0,.any),(1,.any),(2,.any),(7,.i)]
def Ye(E:EB):St->AH:=λs=>Dy E s [(.tmp 6)] λl=>some (Ek l,s.U)
def AO1(c0:XC):Nat->St->AH:=CQ 0 (dX E D W N (.keep [] [] [] c0) (Ye E) nX (Ye E)) nX
def zy(b:XC)(a:XC):XC:=(.z (.aH 6 y1)
 (.seq (.z (.bS 8 0 1)
 y17)
 (.seq (.z (.bV 7 0)
 (.block 0 (.loop AHN [] [] a)))
 (.keep [] [] [] b))))
def pf(E:EB)(D:Am)(W:AJ)(f:V->V->V->Int->H->AH)(a b c:V)(U:H):AH:=
 BV a λd=>
 BV b λe=>
 AG (not (Cc (AA d) (AA e))) (
 rB false U) (
 f a b c (AA 0) U)
def iJ:XC:=(.z (.aH 6 y9)
 .ret)
def pd(E:EB)(D:Am)(W:AJ)(U:H):AH:=
 rB true U
def hJ:XC:=(.seq (.z (.aD 13 7 0<|
 .u 15 14<|
 .aS 16 13 15)
 xe)
 (.seq (.block 1 (.seq (.draw (.cP 19 2 0 7<|
 .cB 22 11 20 21 xh 11<|
 .aD 24 1 7<|
 .cB 26 11 24 25 xh 11<|
 .cI 28 .bool 19 23 27 xW) [0,0,0,6,14,0,0,96,224,511,1023])
 xg))
 xi))
def ep(E:EB)(D:Am)(W:AJ)(A:H->AH)(B:V->V->V->Int->H->AH)(a b c:V)(d:Int)(U:H):AH:=
 BV a λe=>
 AG (Cw d (AA e)) (
 iX E U 11 a d λe=>
 uU e λe f g h i j k l m n o=>
 iX E U 11 b d λp=>
 uU p λp q r s t u v w x y z=>
 HE D c [.agg (eU e f g h i j k l m n o),.agg (eU p q r s t u v w x y z)] U λe f=>
 CN e λe=>
 AG (not e) (
 rB false f) (
 B a b c (BP .i64 d (AA 1)) f)) (
 A U)
def AJb(a b c:V)(U:H):St:=⟨[(0,a),(1,b),(2,c)],[],[],U⟩
def AJa(a b c:V)(d:Int)(U:H):St:=⟨[(0,a),(1,b),(2,c),(7,.int .i64 d)],[],[],U⟩
def AKY(E:EB)(D:Am)(W:AJ)(N:Nat):=pd E D W
def SJ(n:Nat):V->V->V->Int->H->AH:=
 Nat.rec (λ_ _ _ _ _=>none) (λ_ a=>ep E D W (AKY E D W N ) a) n
theorem ACf n:
 (λa b c d U=>Bw (λf g=>A0 E D W N hJ g (kX AHN [] [] f) (AO1 E D W N iJ) (Ye E)) n (AJa a b c d U))=SJ E D W N n:=Yn (λ_=>by kernel_rfl) n
def sO:=pf E D W (SJ E D W N N)
theorem ADg:
 (λa b c U=>A0 E D W N (zy iJ hJ) (AJb a b c U) (Ye E) nX (Ye E))=sO E D W N:=by
 unfold sO;rw[<-ACf];generalize iJ=j,hJ=k;revert j k;refine id ?_;intros;kernel_rfl
def F40(d:List V)(U:H):AH:=
 uM d λa b c=>
 sO E D W N a b c U
def A40:Dg:=⟨30,y69,[(.tmp 6)],(zy iJ hJ)⟩
theorem APR b U:Bt E D W N A40 b U=F40 E D W N b U:=by
 unfold F40;rw[<-ADg];kernel_rfl
def AMl:XC:=(.z (.P 2 (.box 96 (.t 0))<|
 .P 3 (.box 96 (.t 1))<|
 .aH 4 y1)
 (.z (.aO 5 0 2 .str<|
 .aO 7 0 3 .str<|
 .b 9 .eql .none (.t 6) (.t 8)<|
 .m 10 9<|
 .gA 10 true (.aF 11 2 10 1 2 10<|
 .aF 13 3 10 1 3 10<|
 .bC 15 12 14 10 12 14) 16 10 15<|
 .m 17 16<|
 .gA 17 true (.bD 18 2 17 2 2 17<|
 .bD 20 3 17 2 3 17<|
 .p 22 [19,21,17] (.bin .eql .bool (.t 19) (.t 21))<|
 .nil) 23 17 22<|
 .m 24 23<|
 .gA 24 true (.bD 25 2 24 3 2 24<|
 .bD 27 3 24 3 3 24<|
 .p 29 [26,28,24] (.bin .eql .bool (.t 26) (.t 28))<|
 .nil) 30 24 29<|
 .m 31 30<|
 .gA 31 true (.bZ 32 2 31 4 2 y5 31 6<|
 .bZ 34 3 31 4 3 y5 31 6<|
 .op (some 36) .bool [33,35,31] (.call 71 [(.t 33),(.t 35)])<|
 .nil) 37 31 36<|
 .m 38 37<|
 .gA 38 true (.aF 39 2 38 10 2 38<|
 .aF 41 3 38 10 3 38<|
 .bC 43 40 42 38 40 42) 44 38 43<|
 .aC 4 44)
 .ret))
def pc(E:EB)(D:Am)(W:AJ)(a:BS)(b:Int)(c d:Bool)(e f:Int)(g h:V)(i:Int)(j:V)(k:Int)(l:BS)(m:Int)(o p:Bool)(q r:Int)(s t:V)(u:Int)(v:V)(w:Int)(U:H):AH:=
 OU (eU a b c d e f g h i j k) U λn=>
 OU (eU l m o p q r s t u v w) n λx=>
 lS E x (H.next U) 0 λy=>
 lS E x (H.next n) 0 λz=>
 Ab (λB M=>
 Ab (λC I=>
 Ab (λA J=>
 Ab (λK F=>
 Ab (λG L=>
 rB G L) λG=>
 AG K (
 lI E F (H.next U) 10 λK=>
 lI E F (H.next n) 10 λL=>
 G (Cc K L) F) (
 G false F)) λK=>
 AG A (
 Dt E J (H.next U) 4 6 λA=>
 uV A λA F G L R X=>
 Dt E J (H.next n) 4 6 λN=>
 uV N λN Q P S T O=>
 cB (D 71 [.agg (eV A F G L R X),.agg (eV N Q P S T O)] J) λA F=>
 K A F) (
 K false J)) λA=>
 AG C (
 lB E I (H.next U) 3 λC=>
 lB E I (H.next n) 3 λJ=>
 Sh .bool (V.bool C) (V.bool J) λC=>
 A C I) (
 A false I)) λC=>
 AG B (
 lB E M (H.next U) 2 λB=>
 lB E M (H.next n) 2 λI=>
 Sh .bool (V.bool B) (V.bool I) λB=>
 C B M) (
 C false M)) λB=>
 AG (BS.beq y z) (
 lI E x (H.next U) 1 λy=>
 lI E x (H.next n) 1 λn=>
 B (Cc y n) x) (
 B false x)
def F41(N:Nat)(x:List V)(U:H):AH:=
 Aj x λa b=>
 Cl a λa=>
 uU a λa c d e f g h i j k l=>
 Aj b λb m=>
 Cl b λb=>
 uU b λb n o p q r s t u v w=>
 BD m (
 pc E D W a c d e f g h i j k l b n o p q r s t u v w U)
def A41:Dg:=⟨45,[xh,xh],[(.tmp 4)],AMl⟩
theorem APQ b U:Bt E D W N A41 b U=F41 E D W N b U:=by kernel_rfl
def AHG:List (Nat × DN):=[(0,.any),(1,.any),(2,.any),(7,.i)]
def YX(E:EB):St->AH:=λs=>Dy E s [(.tmp 6)] λl=>some (Ek l,s.U)
def AOr(c0:XC):Nat->St->AH:=CQ 0 (dX E D W N (.keep [] [] [] c0) (YX E) nX (YX E)) nX
def zi(b:XC)(a:XC):XC:=(.z (.aH 6 y1)
 (.seq (.z (.bS 8 0 1)
 y17)
 (.seq (.z (.bV 7 0)
 (.block 0 (.loop AHG [] [] a)))
 (.keep [] [] [] b))))
def pN(E:EB)(D:Am)(W:AJ)(f:V->V->V->Int->H->AH)(a b c:V)(U:H):AH:=
 BV a λd=>
 BV b λe=>
 AG (not (Cc (AA d) (AA e))) (
 rB false U) (
 f a b c (AA 0) U)
def gP:XC:=(.z (.aH 6 y9)
 .ret)
def pM(E:EB)(D:Am)(W:AJ)(U:H):AH:=
 rB true U
def gN:XC:=(.seq (.z (.aD 13 7 0<|
 .u 15 14<|
 .aS 16 13 15)
 xe)
 (.seq (.block 1 (.seq (.draw (.cP 19 2 0 7<|
 .cB 22 3 20 21 Z5 3<|
 .aD 24 1 7<|
 .cB 26 3 24 25 Z5 3<|
 .cI 28 .bool 19 23 27 xW) [0,0,0,6,14,0,0,96,224,511,1023])
 xg))
 xi))
def dt(E:EB)(D:Am)(W:AJ)(k:H->AH)(l:V->V->V->Int->H->AH)(a b c:V)(d:Int)(U:H):AH:=
 BV a λe=>
 AG (Cw d (AA e)) (
 iX E U 3 a d λe=>
 uZ e λe f g=>
 iX E U 3 b d λh=>
 uZ h λh i j=>
 HE D c [.agg (eZ e f g),.agg (eZ h i j)] U λe f=>
 CN e λe=>
 AG (not e) (
 rB false f) (
 l a b c (BP .i64 d (AA 1)) f)) (
 k U)
def AJB(a b c:V)(U:H):St:=⟨[(0,a),(1,b),(2,c)],[],[],U⟩
def AJA(a b c:V)(d:Int)(U:H):St:=⟨[(0,a),(1,b),(2,c),(7,.int .i64 d)],[],[],U⟩
def AKR(E:EB)(D:Am)(W:AJ)(N:Nat):=pM E D W
def SH(n:Nat):V->V->V->Int->H->AH:=
 Nat.rec (λ_ _ _ _ _=>none) (λ_ a=>dt E D W (AKR E D W N ) a) n
theorem ACQ n:
 (λa b c d U=>Bw (λf g=>A0 E D W N gN g (kX AHG [] [] f) (AOr E D W N gP) (YX E)) n (AJA a b c d U))=SH E D W N n:=Yn (λ_=>by kernel_rfl) n
def rk:=pN E D W (SH E D W N N)
theorem ADJ:
 (λa b c U=>A0 E D W N (zi gP gN) (AJB a b c U) (YX E) nX (YX E))=rk E D W N:=by
 unfold rk;rw[<-ACQ];generalize gP=j,gN=k;revert j k;refine id ?_;intros;kernel_rfl
def F69(d:List V)(U:H):AH:=
 uM d λa b c=>
 rk E D W N a b c U
def A69:Dg:=⟨30,y69,[(.tmp 6)],(zi gP gN)⟩
theorem APP b U:Bt E D W N A69 b U=F69 E D W N b U:=by
 unfold F69;rw[<-ADJ];kernel_rfl
def AMR:XC:=(.z (.P 2 (.box 88 (.t 0))<|
 .P 3 (.box 88 (.t 1))<|
 .aH 4 y1)
 (.z (.O 5 Z5 (.load (some 3) (.t 2))<|
 .O 6 Z5 (.load (some 3) (.t 3))<|
 .b 7 .eql (.flat [(0,.str),(1,.int),(2,.bool)]) (.t 5) (.t 6)<|
 .m 4 7<|
 .nil)
 .ret))
def pL(E:EB)(D:Am)(W:AJ)(a:BS)(b:Int)(c:Bool)(d:BS)(e:Int)(f:Bool)(U:H):AH:=
 OU (eZ a b c) U λg=>
 OU (eZ d e f) g λh=>
 Dt E h (H.next U) 0 3 λi=>
 uZ i λi j k=>
 Dt E h (H.next g) 0 3 λg=>
 uZ g λg l m=>
 Sh (.flat [(0,.str),(1,.int),(2,.bool)]) (V.agg (eZ i j k)) (V.agg (eZ g l m)) λg=>
 rB g h
def F70(N:Nat)(h:List V)(U:H):AH:=
 Aj h λa b=>
 Cl a λa=>
 uZ a λa c d=>
 Aj b λb e=>
 Cl b λb=>
 uZ b λb f g=>
 BD e (
 pL E D W a c d b f g U)
def A70:Dg:=⟨8,[Z5,Z5],[(.tmp 4)],AMR⟩
theorem APO b U:Bt E D W N A70 b U=F70 E D W N b U:=by kernel_rfl
def AMQ:XC:=(.z (.P 2 (.box 94 (.t 0))<|
 .P 3 (.box 94 (.t 1))<|
 .aH 4 y1)
 (.z (.aO 5 0 2 .i<|
 .aO 7 0 3 .i<|
 .b 9 .eql .none (.t 6) (.t 8)<|
 .m 10 9<|
 .gA 10 true (.aF 11 2 10 1 2 10<|
 .aF 13 3 10 1 3 10<|
 .bC 15 12 14 10 12 14) 16 10 15<|
 .m 17 16<|
 .gA 17 true (.aE 18 2 17 2 2 17<|
 .aE 20 3 17 2 3 17<|
 .op (some 22) .bool [19,21,17] (.call 82 [(.t 19),(.t 21)])<|
 .nil) 23 17 22<|
 .m 24 23<|
 .gA 24 true (.aE 25 2 24 3 2 24<|
 .aE 27 3 24 3 3 24<|
 .op (some 29) .bool [26,28,24] (.call 83 [(.t 26),(.t 28),(.con (V.fn 71 [] []))])<|
 .nil) 30 24 29<|
 .m 31 30<|
 .gA 31 true (.aF 32 2 31 4 2 31<|
 .aF 34 3 31 4 3 31<|
 .bC 36 33 35 31 33 35) 37 31 36<|
 .m 38 37<|
 .gA 38 true (.aE 39 2 38 5 2 38<|
 .aE 41 3 38 5 3 38<|
 .op (some 43) .bool [40,42,38] (.call 84 [(.t 40),(.t 42),(.con (V.fn 85 [] []))])<|
 .nil) 44 38 43<|
 .aC 4 44)
 .ret))
def pK(E:EB)(D:Am)(W:AJ)(a b:Int)(c d:V)(e:Int)(f:V)(g h:Int)(i j:V)(k:Int)(l:V)(U:H):AH:=
 OU (eV a b c d e f) U λm=>
 OU (eV g h i j k l) m λn=>
 lI E n (H.next U) 0 λo=>
 lI E n (H.next m) 0 λp=>
 Ab (λq r=>
 Ab (λs t=>
 Ab (λu v=>
 Ab (λw x=>
 Ab (λy z=>
 rB y z) λy=>
 AG w (
 Ee E x (H.next U) 5 λw=>
 Ee E x (H.next m) 5 λz=>
 cB (D 84 [w,z,.fn 85 [] []] x) λw z=>
 y w z) (
 y false x)) λw=>
 AG u (
 lI E v (H.next U) 4 λu=>
 lI E v (H.next m) 4 λx=>
 w (Cc u x) v) (
 w false v)) λu=>
 AG s (
 Ee E t (H.next U) 3 λs=>
 Ee E t (H.next m) 3 λv=>
 cB (D 83 [s,v,.fn 71 [] []] t) λs v=>
 u s v) (
 u false t)) λs=>
 AG q (
 Ee E r (H.next U) 2 λq=>
 Ee E r (H.next m) 2 λt=>
 cB (D 82 [q,t] r) λq t=>
 s q t) (
 s false r)) λq=>
 AG (Cc o p) (
 lI E n (H.next U) 1 λo=>
 lI E n (H.next m) 1 λm=>
 q (Cc o m) n) (
 q false n)
def F71(N:Nat)(n:List V)(U:H):AH:=
 Aj n λa b=>
 Cl a λa=>
 uV a λa c d e f g=>
 Aj b λb h=>
 Cl b λb=>
 uV b λb i j k l m=>
 BD h (
 pK E D W a c d e f g b i j k l m U)
def A71:Dg:=⟨45,[y5,y5],[(.tmp 4)],AMQ⟩
theorem APN b U:Bt E D W N A71 b U=F71 E D W N b U:=by kernel_rfl
def AMC:XC:=(.z (.aH 4 y1)
 (.z (.m 5 0<|
 .P 6 (.conv .toStr (.t 5))<|
 .m 7 1<|
 .P 8 (.conv .toStr (.t 7))<|
 .b 9 .eql .none (.t 6) (.t 8)<|
 .m 4 9<|
 .nil)
 .ret))
def pE(E:EB)(D:Am)(W:AJ)(a b:V)(U:H):AH:=
 KS E U a λc=>
 KS E U b λd=>
 rB (BS.beq c d) U
def F82(N:Nat)(c:List V)(U:H):AH:=
 uL c λa b=>
 pE E D W a b U
def A82:Dg:=⟨10,[.any,.any],[(.tmp 4)],AMC⟩
theorem APM b U:Bt E D W N A82 b U=F82 E D W N b U:=by kernel_rfl
def AHE:List (Nat × DN):=[(0,.any),(1,.any),(2,.any),(7,.i)]
def YV(E:EB):St->AH:=λs=>Dy E s [(.tmp 6)] λl=>some (Ek l,s.U)
def AOo(c0:XC):Nat->St->AH:=CQ 0 (dX E D W N (.keep [] [] [] c0) (YV E) nX (YV E)) nX
def zg(b:XC)(a:XC):XC:=(.z (.aH 6 y1)
 (.seq (.z (.bS 8 0 1)
 y17)
 (.seq (.z (.bV 7 0)
 (.block 0 (.loop AHE [] [] a)))
 (.keep [] [] [] b))))
def pD(E:EB)(D:Am)(W:AJ)(f:V->V->V->Int->H->AH)(a b c:V)(U:H):AH:=
 BV a λd=>
 BV b λe=>
 AG (not (Cc (AA d) (AA e))) (
 rB false U) (
 f a b c (AA 0) U)
def gJ:XC:=(.z (.aH 6 y9)
 .ret)
def pC(E:EB)(D:Am)(W:AJ)(U:H):AH:=
 rB true U
def fx:XC:=(.seq (.z (.aD 13 7 0<|
 .u 15 14<|
 .aS 16 13 15)
 xe)
 (.seq (.block 1 (.seq (.draw (.cP 19 2 0 7<|
 .cB 22 6 20 21 y5 6<|
 .aD 24 1 7<|
 .cB 26 6 24 25 y5 6<|
 .cI 28 .bool 19 23 27 xW) [0,0,0,6,14,0,0,96,224,511,1023])
 xg))
 xi))
def pB(E:EB)(D:Am)(W:AJ)(q:H->AH)(r:V->V->V->Int->H->AH)(a b c:V)(d:Int)(U:H):AH:=
 BV a λe=>
 AG (Cw d (AA e)) (
 iX E U 6 a d λe=>
 uV e λe f g h i j=>
 iX E U 6 b d λk=>
 uV k λk l m n o p=>
 HE D c [.agg (eV e f g h i j),.agg (eV k l m n o p)] U λe f=>
 CN e λe=>
 AG (not e) (
 rB false f) (
 r a b c (BP .i64 d (AA 1)) f)) (
 q U)
def AI7(a b c:V)(U:H):St:=⟨[(0,a),(1,b),(2,c)],[],[],U⟩
def AI6(a b c:V)(d:Int)(U:H):St:=⟨[(0,a),(1,b),(2,c),(7,.int .i64 d)],[],[],U⟩
def AKM(E:EB)(D:Am)(W:AJ)(N:Nat):=pC E D W
def qw(n:Nat):V->V->V->Int->H->AH:=
 Nat.rec (λ_ _ _ _ _=>none) (λ_ a=>pB E D W (AKM E D W N ) a) n
theorem ACJ n:
 (λa b c d U=>Bw (λf g=>A0 E D W N fx g (kX AHE [] [] f) (AOo E D W N gJ) (YV E)) n (AI6 a b c d U))=qw E D W N n:=Yn (λ_=>by kernel_rfl) n
def rU:=pD E D W (qw E D W N N)
theorem AC3:
 (λa b c U=>A0 E D W N (zg gJ fx) (AI7 a b c U) (YV E) nX (YV E))=rU E D W N:=by
 unfold rU;rw[<-ACJ];generalize gJ=j,fx=k;revert j k;refine id ?_;intros;kernel_rfl
def F83(d:List V)(U:H):AH:=
 uM d λa b c=>
 rU E D W N a b c U
def A83:Dg:=⟨30,y69,[(.tmp 6)],(zg gJ fx)⟩
theorem APL b U:Bt E D W N A83 b U=F83 E D W N b U:=by
 unfold F83;rw[<-AC3];kernel_rfl
def AHD:List (Nat × DN):=[(0,.any),(1,.any),(2,.any),(7,.i)]
def YU(E:EB):St->AH:=λs=>Dy E s [(.tmp 6)] λl=>some (Ek l,s.U)
def AOn(c0:XC):Nat->St->AH:=CQ 0 (dX E D W N (.keep [] [] [] c0) (YU E) nX (YU E)) nX
def zf(b:XC)(a:XC):XC:=(.z (.aH 6 y1)
 (.seq (.z (.bS 8 0 1)
 y17)
 (.seq (.z (.bV 7 0)
 (.block 0 (.loop AHD [] [] a)))
 (.keep [] [] [] b))))
def pA(E:EB)(D:Am)(W:AJ)(f:V->V->V->Int->H->AH)(a b c:V)(U:H):AH:=
 BV a λd=>
 BV b λe=>
 AG (not (Cc (AA d) (AA e))) (
 rB false U) (
 f a b c (AA 0) U)
def ft:XC:=(.z (.aH 6 y9)
 .ret)
def o9(E:EB)(D:Am)(W:AJ)(U:H):AH:=
 rB true U
def fq:XC:=(.seq (.z (.aD 13 7 0<|
 .u 15 14<|
 .aS 16 13 15)
 xe)
 (.seq (.block 1 (.seq (.draw (.cP 19 2 0 7<|
 .s 22 2 20 21<|
 .O 23 (.agg [.i,.any]) (.load (some 2) (.t 22))<|
 .aD 24 1 7<|
 .s 26 2 24 25<|
 .O 27 (.agg [.i,.any]) (.load (some 2) (.t 26))<|
 .cI 28 .bool 19 23 27 xW) [0,0,0,6,14,0,0,96,224,511,1023])
 xg))
 xi))
def o7(E:EB)(D:Am)(W:AJ)(i:H->AH)(j:V->V->V->Int->H->AH)(a b c:V)(d:Int)(U:H):AH:=
 BV a λe=>
 AG (Cw d (AA e)) (
 iX E U 2 a d λe=>
 uW e λe f=>
 iX E U 2 b d λg=>
 uW g λg h=>
 HE D c [.agg [.int .i64 e,f],.agg [.int .i64 g,h]] U λe f=>
 CN e λe=>
 AG (not e) (
 rB false f) (
 j a b c (BP .i64 d (AA 1)) f)) (
 i U)
def AI5(a b c:V)(U:H):St:=⟨[(0,a),(1,b),(2,c)],[],[],U⟩
def AI4(a b c:V)(d:Int)(U:H):St:=⟨[(0,a),(1,b),(2,c),(7,.int .i64 d)],[],[],U⟩
def AKL(E:EB)(D:Am)(W:AJ)(N:Nat):=o9 E D W
def qv(n:Nat):V->V->V->Int->H->AH:=
 Nat.rec (λ_ _ _ _ _=>none) (λ_ a=>o7 E D W (AKL E D W N ) a) n
theorem ACI n:
 (λa b c d U=>Bw (λf g=>A0 E D W N fq g (kX AHD [] [] f) (AOn E D W N ft) (YU E)) n (AI4 a b c d U))=qv E D W N n:=Yn (λ_=>by kernel_rfl) n
def rT:=pA E D W (qv E D W N N)
theorem AC2:
 (λa b c U=>A0 E D W N (zf ft fq) (AI5 a b c U) (YU E) nX (YU E))=rT E D W N:=by
 unfold rT;rw[<-ACI];generalize ft=j,fq=k;revert j k;refine id ?_;intros;kernel_rfl
def F84(d:List V)(U:H):AH:=
 uM d λa b c=>
 rT E D W N a b c U
def A84:Dg:=⟨30,y69,[(.tmp 6)],(zf ft fq)⟩
theorem APK b U:Bt E D W N A84 b U=F84 E D W N b U:=by
 unfold F84;rw[<-AC2];kernel_rfl
def AMB:XC:=(.z (.P 2 (.box 128 (.t 0))<|
 .P 3 (.box 128 (.t 1))<|
 .aH 4 y1)
 (.z (.aO 5 0 2 .i<|
 .aO 7 0 3 .i<|
 .b 9 .eql .none (.t 6) (.t 8)<|
 .m 10 9<|
 .gA 10 true (.aE 11 2 10 1 2 10<|
 .aE 13 3 10 1 3 10<|
 .op (some 15) .bool [12,14,10] (.call 82 [(.t 12),(.t 14)])<|
 .nil) 16 10 15<|
 .aC 4 16)
 .ret))
def AIg(E:EB)(D:Am)(W:AJ)(a:Int)(b:V)(c:Int)(d:V)(U:H):AH:=
 OU [.int .i64 a,b] U λe=>
 OU [.int .i64 c,d] e λf=>
 lI E f (H.next U) 0 λg=>
 lI E f (H.next e) 0 λh=>
 Ab (λi j=>
 rB i j) λi=>
 AG (Cc g h) (
 Ee E f (H.next U) 1 λg=>
 Ee E f (H.next e) 1 λe=>
 cB (D 82 [g,e] f) λe g=>
 i e g) (
 i false f)
def F85(N:Nat)(f:List V)(U:H):AH:=
 Aj f λa b=>
 Cl a λa=>
 uW a λa c=>
 Aj b λb d=>
 Cl b λb=>
 uW b λb e=>
 BD d (
 AIg E D W a c b e U)
def A85:Dg:=⟨17,[(.agg [.i,.any]),(.agg [.i,.any])],[(.tmp 4)],AMB⟩
theorem APJ b U:Bt E D W N A85 b U=F85 E D W N b U:=by kernel_rfl
end
noncomputable section
def VQ:List (Nat × (EB->Am->AJ->Nat->List V->H->AH)):=[(3,F3),(5,F5),(6,F6),(7,F7),(8,F8),(9,F9),(10,F10),(11,F11),(12,F12),(13,F13),(14,F14),(15,F15),(16,F16),(17,F17),(18,F18),(19,F19),(20,F20),(21,F21),(22,F22),(23,F23),(24,F24),(25,F25),(26,F26),(27,F27),(28,F28),(29,F29),(30,F30),(31,F31),(32,F32),(33,F33),(34,F34),(35,F35),(36,F36),(37,F37),(38,F38),(39,F39),(40,F40),(41,F41),(42,F42),(43,F43),(44,F44),(45,F45),(46,F46),(47,F47),(48,F48),(49,F49),(50,F50),(51,F51),(52,F52),(53,F53),(54,F54),(55,F55),(56,F56),(57,F57),(58,F58),(59,F59),(60,F60),(61,F61),(62,F62),(63,F63),(64,F64),(65,F65),(66,F66),(67,F67),(68,F68),(69,F69),(70,F70),(71,F71),(72,F72),(73,F73),(74,F74),(75,F75),(76,F76),(78,F78),(79,F79),(80,F80),(81,F81),(82,F82),(83,F83),(84,F84),(85,F85),(86,F86),(87,F87),(90,F90),(91,F91),(92,F92),(93,F93),(94,F94),(95,F95),(96,F96),(97,F97),(98,F98),(103,jx),(104,jw),(105,Zy),(106,jv),(107,Zx),(108,ju),(113,Zw),(114,jt),(116,Zv),(118,js)]
abbrev lg:TypeId:=147
def TW(E:EB)(d:Nat):Am:=Nat.rec (λ_ _ _=>none) (λ_ a f=>match Ax f 77 with
 | true=>MU lg
 | false=>match CB VQ f with
  | some g=>g E a (AZ E a) 600000
  | none=>λ_ _=>none) d
theorem oa(E:EB)(hp:DB Tryz.prog E glob 77 (MU lg)):∀(d:Nat) (f:FuncId),DB Tryz.prog E glob f (TW E d f):=by
 have hall:∀p∈VQ,Snd p.1 p.2:=by
  unfold VQ;simp only[j0];exact⟨A2 Tryz.func3 (by kernel_rfl) FE3,A2 Tryz.func5 (by kernel_rfl) FE5,A2 Tryz.func6 (by kernel_rfl) FE6,A2 Tryz.func7 (by kernel_rfl) FE7,A2 Tryz.func8 (by kernel_rfl) FE8,A2 Tryz.func9 (by kernel_rfl) FE9,A2 Tryz.func10 (by kernel_rfl) ALp,A2 Tryz.func11 (by kernel_rfl) ALo,A2 Tryz.func12 (by kernel_rfl) ALn,A2 Tryz.func13 (by kernel_rfl) ALm,A2 Tryz.func14 (by kernel_rfl) ALl,A2 Tryz.func15 (by kernel_rfl) ALk,A2 Tryz.func16 (by kernel_rfl) ALj,A2 Tryz.func17 (by kernel_rfl) ALi,A2 Tryz.func18 (by kernel_rfl) APa,A2 Tryz.func19 (by kernel_rfl) APZ,A2 Tryz.func20 (by kernel_rfl) APY,A2 Tryz.func21 (by kernel_rfl) APX,A2 Tryz.func22 (by kernel_rfl) ALh,A2 Tryz.func23 (by kernel_rfl) ALg,A2 Tryz.func24 (by kernel_rfl) ALf,A2 Tryz.func25 (by kernel_rfl) ALe,A2 Tryz.func26 (by kernel_rfl) ALd,A2 Tryz.func27 (by kernel_rfl) ALc,A2 Tryz.func28 (by kernel_rfl) ALb,A2 Tryz.func29 (by kernel_rfl) ALa,A2 Tryz.func30 (by kernel_rfl) ALZ,A2 Tryz.func31 (by kernel_rfl) ALY,A2 Tryz.func32 (by kernel_rfl) ALX,A2 Tryz.func33 (by kernel_rfl) ALW,A2 Tryz.func34 (by kernel_rfl) ALV,A2 Tryz.func35 (by kernel_rfl) APW,A2 Tryz.func36 (by kernel_rfl) APV,A2 Tryz.func37 (by kernel_rfl) APU,A2 Tryz.func38 (by kernel_rfl) APT,A2 Tryz.func39 (by kernel_rfl) APS,A2 Tryz.func40 (by kernel_rfl) APR,A2 Tryz.func41 (by kernel_rfl) APQ,A2 Tryz.func42 (by kernel_rfl) ALU,A2 Tryz.func43 (by kernel_rfl) ALT,A2 Tryz.func44 (by kernel_rfl) ALS,A2 Tryz.func45 (by kernel_rfl) ALR,A2 Tryz.func46 (by kernel_rfl) ALQ,A2 Tryz.func47 (by kernel_rfl) ALP,A2 Tryz.func48 (by kernel_rfl) ALO,A2 Tryz.func49 (by kernel_rfl) ALN,A2 Tryz.func50 (by kernel_rfl) ALM,A2 Tryz.func51 (by kernel_rfl) ALL,A2 Tryz.func52 (by kernel_rfl) ALK,A2 Tryz.func53 (by kernel_rfl) ALJ,A2 Tryz.func54 (by kernel_rfl) ALI,A2 Tryz.func55 (by kernel_rfl) ALH,A2 Tryz.func56 (by kernel_rfl) ALG,A2 Tryz.func57 (by kernel_rfl) ALF,A2 Tryz.func58 (by kernel_rfl) ALE,A2 Tryz.func59 (by kernel_rfl) ALD,A2 Tryz.func60 (by kernel_rfl) ALC,A2 Tryz.func61 (by kernel_rfl) ALB,A2 Tryz.func62 (by kernel_rfl) ALA,A2 Tryz.func63 (by kernel_rfl) AK9,A2 Tryz.func64 (by kernel_rfl) AK8,A2 Tryz.func65 (by kernel_rfl) AK7,A2 Tryz.func66 (by kernel_rfl) AK6,A2 Tryz.func67 (by kernel_rfl) AK5,A2 Tryz.func68 (by kernel_rfl) AK4,A2 Tryz.func69 (by kernel_rfl) APP,A2 Tryz.func70 (by kernel_rfl) APO,A2 Tryz.func71 (by kernel_rfl) APN,A2 Tryz.func72 (by kernel_rfl) AK3,A2 Tryz.func73 (by kernel_rfl) AK2,A2 Tryz.func74 (by kernel_rfl) AK1,A2 Tryz.func75 (by kernel_rfl) AK0,A2 Tryz.func76 (by kernel_rfl) AKz,A2 Tryz.func78 (by kernel_rfl) AKy,A2 Tryz.func79 (by kernel_rfl) AKx,A2 Tryz.func80 (by kernel_rfl) AKw,A2 Tryz.func81 (by kernel_rfl) AKv,A2 Tryz.func82 (by kernel_rfl) APM,A2 Tryz.func83 (by kernel_rfl) APL,A2 Tryz.func84 (by kernel_rfl) APK,A2 Tryz.func85 (by kernel_rfl) APJ,A2 Tryz.func86 (by kernel_rfl) AKu,A2 Tryz.func87 (by kernel_rfl) AKt,A2 Tryz.func90 (by kernel_rfl) AKs,A2 Tryz.func91 (by kernel_rfl) AKr,A2 Tryz.func92 (by kernel_rfl) AKq,A2 Tryz.func93 (by kernel_rfl) AKp,A2 Tryz.func94 (by kernel_rfl) AKo,A2 Tryz.func95 (by kernel_rfl) AKn,A2 Tryz.func96 (by kernel_rfl) AKm,A2 Tryz.func97 (by kernel_rfl) AKl,A2 Tryz.func98 (by kernel_rfl) AKk,A2 Tryz.func103 (by kernel_rfl) zZ,A2 Tryz.func104 (by kernel_rfl) zY,A2 Tryz.func105 (by kernel_rfl) zX,A2 Tryz.func106 (by kernel_rfl) zW,A2 Tryz.func107 (by kernel_rfl) zV,A2 Tryz.func108 (by kernel_rfl) zU,A2 Tryz.func113 (by kernel_rfl) zT,A2 Tryz.func114 (by kernel_rfl) zS,A2 Tryz.func116 (by kernel_rfl) zR,A2 Tryz.func118 (by kernel_rfl) zQ,λ_ h=>by cases h⟩
 intro d;induction d with
 | zero=>intro f C _ _ R U w m xs v U' h;cases h | succ d ih=>
  intro f;show DB Tryz.prog E glob f (match Ax f 77 with
   | true=>MU lg | false=>match CB VQ f with
    | some g=>g E (TW E d) (AZ E (TW E d)) 600000 | none=>λ_ _=>none)
  split
  ·rename_i h
   rw[CJ h];exact hp
  ·split
   ·rename_i g hg
    rw[B8]at hg;exact hall _ (Qz hg) E _ ih 600000
   ·intro C _ _ R U w m xs v U' h;cases h
theorem SFl:Snd 3 F3:=A2 Tryz.func3 (by kernel_rfl) FE3
abbrev tw(E:EB)(d:Nat)(F:EB->Am->AJ->Nat->List V->H->AH):List V->H->AH:=F E (TW E d) (AZ E (TW E d)) 600000
section
variable (E:EB) (d:Nat)
theorem DE3:TW E (d+1) 3=tw E d F3:=by kernel_rfl
theorem DE5:TW E (d+1) 5=tw E d F5:=by kernel_rfl
theorem DE6:TW E (d+1) 6=tw E d F6:=by kernel_rfl
theorem DE7:TW E (d+1) 7=tw E d F7:=by kernel_rfl
theorem DE8:TW E (d+1) 8=tw E d F8:=by kernel_rfl
theorem DE9:TW E (d+1) 9=tw E d F9:=by kernel_rfl
theorem AFR:TW E (d+1) 10=tw E d F10:=by kernel_rfl
theorem AFQ:TW E (d+1) 11=tw E d F11:=by kernel_rfl
theorem AFP:TW E (d+1) 12=tw E d F12:=by kernel_rfl
theorem AFO:TW E (d+1) 13=tw E d F13:=by kernel_rfl
theorem AFN:TW E (d+1) 14=tw E d F14:=by kernel_rfl
theorem AFM:TW E (d+1) 15=tw E d F15:=by kernel_rfl
theorem AFL:TW E (d+1) 16=tw E d F16:=by kernel_rfl
theorem so:TW E (d+1) 17=tw E d F17:=by kernel_rfl
theorem APv:TW E (d+1) 18=tw E d F18:=by kernel_rfl
theorem APu:TW E (d+1) 19=tw E d F19:=by kernel_rfl
theorem APt:TW E (d+1) 20=tw E d F20:=by kernel_rfl
theorem APs:TW E (d+1) 21=tw E d F21:=by kernel_rfl
theorem AFK:TW E (d+1) 22=tw E d F22:=by kernel_rfl
theorem AFJ:TW E (d+1) 23=tw E d F23:=by kernel_rfl
theorem AFI:TW E (d+1) 24=tw E d F24:=by kernel_rfl
theorem AFH:TW E (d+1) 25=tw E d F25:=by kernel_rfl
theorem AFG:TW E (d+1) 26=tw E d F26:=by kernel_rfl
theorem AFF:TW E (d+1) 27=tw E d F27:=by kernel_rfl
theorem AFE:TW E (d+1) 28=tw E d F28:=by kernel_rfl
theorem AFD:TW E (d+1) 29=tw E d F29:=by kernel_rfl
theorem AFC:TW E (d+1) 30=tw E d F30:=by kernel_rfl
theorem AFB:TW E (d+1) 31=tw E d F31:=by kernel_rfl
theorem AFA:TW E (d+1) 32=tw E d F32:=by kernel_rfl
theorem AE9:TW E (d+1) 33=tw E d F33:=by kernel_rfl
theorem AE8:TW E (d+1) 34=tw E d F34:=by kernel_rfl
theorem APr:TW E (d+1) 35=tw E d F35:=by kernel_rfl
theorem APq:TW E (d+1) 36=tw E d F36:=by kernel_rfl
theorem APp:TW E (d+1) 37=tw E d F37:=by kernel_rfl
theorem APo:TW E (d+1) 38=tw E d F38:=by kernel_rfl
theorem APn:TW E (d+1) 39=tw E d F39:=by kernel_rfl
theorem APm:TW E (d+1) 40=tw E d F40:=by kernel_rfl
theorem APl:TW E (d+1) 41=tw E d F41:=by kernel_rfl
theorem AE7:TW E (d+1) 42=tw E d F42:=by kernel_rfl
theorem AE6:TW E (d+1) 43=tw E d F43:=by kernel_rfl
theorem AE5:TW E (d+1) 44=tw E d F44:=by kernel_rfl
theorem AE4:TW E (d+1) 45=tw E d F45:=by kernel_rfl
theorem AE3:TW E (d+1) 46=tw E d F46:=by kernel_rfl
theorem AE2:TW E (d+1) 47=tw E d F47:=by kernel_rfl
theorem AE1:TW E (d+1) 48=tw E d F48:=by kernel_rfl
theorem AE0:TW E (d+1) 49=tw E d F49:=by kernel_rfl
theorem AEz:TW E (d+1) 50=tw E d F50:=by kernel_rfl
theorem AEy:TW E (d+1) 51=tw E d F51:=by kernel_rfl
theorem AEx:TW E (d+1) 52=tw E d F52:=by kernel_rfl
theorem AEw:TW E (d+1) 53=tw E d F53:=by kernel_rfl
theorem AEv:TW E (d+1) 54=tw E d F54:=by kernel_rfl
theorem AEu:TW E (d+1) 55=tw E d F55:=by kernel_rfl
theorem AEt:TW E (d+1) 56=tw E d F56:=by kernel_rfl
theorem AEs:TW E (d+1) 57=tw E d F57:=by kernel_rfl
theorem AEr:TW E (d+1) 58=tw E d F58:=by kernel_rfl
theorem AEq:TW E (d+1) 59=tw E d F59:=by kernel_rfl
theorem AEp:TW E (d+1) 60=tw E d F60:=by kernel_rfl
theorem AEo:TW E (d+1) 61=tw E d F61:=by kernel_rfl
theorem AEn:TW E (d+1) 62=tw E d F62:=by kernel_rfl
theorem sn:TW E (d+1) 63=tw E d F63:=by kernel_rfl
theorem AEm:TW E (d+1) 64=tw E d F64:=by kernel_rfl
theorem AEl:TW E (d+1) 65=tw E d F65:=by kernel_rfl
theorem AEk:TW E (d+1) 66=tw E d F66:=by kernel_rfl
theorem AEj:TW E (d+1) 67=tw E d F67:=by kernel_rfl
theorem AEi:TW E (d+1) 68=tw E d F68:=by kernel_rfl
theorem APi:TW E (d+1) 69=tw E d F69:=by kernel_rfl
theorem APg:TW E (d+1) 70=tw E d F70:=by kernel_rfl
theorem APf:TW E (d+1) 71=tw E d F71:=by kernel_rfl
theorem AEh:TW E (d+1) 72=tw E d F72:=by kernel_rfl
theorem AEg:TW E (d+1) 73=tw E d F73:=by kernel_rfl
theorem AEf:TW E (d+1) 74=tw E d F74:=by kernel_rfl
theorem AEe:TW E (d+1) 75=tw E d F75:=by kernel_rfl
theorem AEd:TW E (d+1) 76=tw E d F76:=by kernel_rfl
theorem AEc:TW E (d+1) 78=tw E d F78:=by kernel_rfl
theorem AEb:TW E (d+1) 79=tw E d F79:=by kernel_rfl
theorem AEa:TW E (d+1) 80=tw E d F80:=by kernel_rfl
theorem AEZ:TW E (d+1) 81=tw E d F81:=by kernel_rfl
theorem APe:TW E (d+1) 82=tw E d F82:=by kernel_rfl
theorem APd:TW E (d+1) 83=tw E d F83:=by kernel_rfl
theorem APc:TW E (d+1) 84=tw E d F84:=by kernel_rfl
theorem AEY:TW E (d+1) 86=tw E d F86:=by kernel_rfl
theorem AEX:TW E (d+1) 87=tw E d F87:=by kernel_rfl
theorem AEW:TW E (d+1) 90=tw E d F90:=by kernel_rfl
theorem AEV:TW E (d+1) 91=tw E d F91:=by kernel_rfl
theorem AEU:TW E (d+1) 92=tw E d F92:=by kernel_rfl
theorem AET:TW E (d+1) 93=tw E d F93:=by kernel_rfl
theorem AES:TW E (d+1) 94=tw E d F94:=by kernel_rfl
theorem AER:TW E (d+1) 95=tw E d F95:=by kernel_rfl
theorem AEQ:TW E (d+1) 96=tw E d F96:=by kernel_rfl
theorem AEP:TW E (d+1) 97=tw E d F97:=by kernel_rfl
theorem AEO:TW E (d+1) 98=tw E d F98:=by kernel_rfl
theorem tO:TW E (d+1) 103=tw E d jx:=by kernel_rfl
theorem tN:TW E (d+1) 104=tw E d jw:=by kernel_rfl
theorem tM:TW E (d+1) 105=tw E d Zy:=by kernel_rfl
theorem tL:TW E (d+1) 106=tw E d jv:=by kernel_rfl
theorem tK:TW E (d+1) 107=tw E d Zx:=by kernel_rfl
theorem tJ:TW E (d+1) 108=tw E d ju:=by kernel_rfl
theorem sy:TW E (d+1) 113=tw E d Zw:=by kernel_rfl
theorem sx:TW E (d+1) 114=tw E d jt:=by kernel_rfl
theorem su:TW E (d+1) 116=tw E d Zv:=by kernel_rfl
theorem sr:TW E (d+1) 118=tw E d js:=by kernel_rfl
theorem sk:TW E (d+1) 77=MU lg:=by kernel_rfl
end
theorem uz(s:IS) l er:(GN s l er).2.1.1.length<=s.1.length+1:=by
 have m:∀h,(match Fo h er with | (false,_,j,d)=>(false,s,j,d) | (true,x,j,d)=>(true,(s.1++[x],s.2.1,s.2.2),j,d):Bool × IS × List Ad × Er).2.1.1.length<=s.1.length+1:=by
  intro h;cases Fo h er with
  | mk b i=>
   obtain⟨x,j,d⟩:=i;cases b with
   | false=>exact C9 _ | true=>show (s.1++[x]).length<=_;simp
 unfold GN;cases decide (0<s.1.length) && !s.2.1 with
 | false=>exact m _ | true=>
  simp only[];cases CP (BS.mk 3 3026478) l with
  | mk b h=>
   cases b with
   | true=>exact C9 _ | false=>exact m _
theorem W5:∀n (s:IS) l er,(GG n s l er).2.1.1.length<=s.1.length+n
 | 0,s,l,er=>AL _ | n+1,s,l,er=>by
  have h:=uz s l er;unfold GG;cases o:GN s l er with
  | mk p m=>
   obtain⟨f,q,er1⟩:=m;rw[o]at h;have h:f.1.length<=s.1.length+1:=h;cases p with
   | false=>show f.1.length<=_;omega | true=>
    simp only[];cases u:CP (BS.mk 1 44) q with
    | mk k i=>
     cases k with
     | true=>have:=W5 n f i er1;simp only[];omega | false=>
      simp only[];unfold jQ;cases w:Ao [BS.mk 1 125] i er1 with
      | mk t r=>show f.1.length<=_;omega
def Bd(nd:AM):Prop:=nd.fields.length<=300/\nd.items.length<=9001
def AB(a:List AM):Prop:=a.length<=300/\∀nd∈a,Bd nd
structure Gw(nd:AM)(ns:List AM)(nd':AM)(ns':List AM):Prop where
 a:AB ns'
 f:nd'.fields.length+ns.length<=nd.fields.length+ns'.length
 i:nd'.items=nd.items
theorem Gw.trans{nd b c f d a}(h:Gw nd f b d)(k:Gw b d c a):Gw nd f c a:=⟨k.a,by have:=h.f;have:=k.f;omega,k.i.trans h.i⟩
def TB(T:DA):Prop:=∀{d l er c i l' b a},T.go d l er c=(true,i,l',b,a)->AB c->AB a/\c.length+1<=a.length
section
variable {T:DA} (hT:TB T)
include hT
theorem RH{d g nd l er p f l' n i}(h:Ci T d g nd l er p=(true,f,l',n,i))(s:AB p):Gw nd p f i:=by
 unfold Ci at h;split at h
 ·cases h
 ·split at h
  ·cases h
  ·rename_i e
   split at h;cases h;obtain⟨r,t⟩:=hT e s;refine⟨r,?_,rfl⟩;show (nd.fields++[_]).length+_<=_;simp;omega
theorem yl{d g j l' p k}:∀{n nd l er o},Yq T d g n nd l er o=(true,j,l',p,k)->AB o->Gw nd o j k
 | 0,_,_,_,_,h,_=>by cases h
 | n+1,_,_,_,_,h,q=>by
  unfold Yq at h;split at h
  ·cases h
  ·rename_i e
   have a:=RH hT e q;split at h
   ·exact a.trans (yl h a.a)
   ·split at h
    cases h;exact a
theorem oV{d k l' o m}:∀{n g nd l er p},Px T d n g nd l er p=(true,k,l',o,m)->AB p->Gw nd p k m
 | 0,_,_,_,_,_,h,_=>by cases h
 | n+1,_,_,_,_,_,h,q=>by
  unfold Px at h;split at h
  ·cases h;exact⟨q,AL _,rfl⟩
  ·split at h
   ·split at h
    ·cases h
    ·rename_i e
     unfold XU at e;have a:=yl hT e q;exact a.trans (oV h a.a)
   ·split at h
    ·cases h
    ·rename_i e
     have a:=RH hT e q;exact a.trans (oV h a.a)
theorem yc{d m l' q o}:∀{n f nd l er p},QC T d n f nd l er p=(true,m,l',q,o)->AB p->Gw nd p m o
 | 0,_,_,_,_,_,h,_=>by cases h
 | n+1,f,nd,_,_,p,h,r=>by
  unfold QC at h;split at h
  ·split at h
   cases h;exact⟨r,AL _,rfl⟩
  ·split at h
   ·split at h
    rename_i b _ _ _ _ e;split at h;rename_i s;cases h;cases b with
    | false=>cases s | true=>
     unfold Zb at e;have a:=oV hT e r;exact⟨a.a,a.f,a.i⟩
   ·split at h
    ·cases h
    ·rename_i e
     have a:=RH hT e r;split at h;exact a.trans (yc h a.a)
theorem Ob{d nd l er f b l' i c}(h:DK T d nd l er f=(true,b,l',i,c))(k:AB f):Gw nd f b c:=by
 unfold DK at h;split at h
 ·cases h
 ·unfold dC at h
  exact yc hT h k
structure Nw(ns:List AM)(nd':AM)(ns':List AM):Prop where
 a:AB ns'
 b:Bd nd'
 n:ns.length<=ns'.length
omit hT in
theorem Gw.nw{nd nd':AM}{ns ns':List AM}(h:Gw nd ns nd' ns')(h1:nd.fields=[])(h2:nd.items=[]):Nw ns nd' ns':=by
 have k:=h.f
 have:=h.a.1
 rw[h1,Aa]at k
 exact⟨h.a,⟨by omega,by rw[h.i,h2];exact BF _⟩,by omega⟩
omit hT in
theorem nw0{nd:AM}{ns:List AM}(ha:AB ns)(h1:nd.fields=[])(h2:nd.items.length<=9001):Nw ns nd ns:=⟨ha,⟨by rw[h1];exact BF _,h2⟩,AL _⟩
theorem AAx{d m l er p g l' o i}(h:Ju T d (CA m) l er p=(true,g,l',o,i))(q:AB p):Nw p g i:=by
 unfold Ju at h;split at h
 ·exact(Ob hT h q).nw rfl rfl
 ·split at h
  ·cases h
  ·split at h
   ·cases h
   ·split at h
    rename_i e;cases h;obtain⟨r,t⟩:=hT e q;exact⟨r,⟨BF _,BF _⟩,by omega⟩
theorem ABH{d m k l er p j l' q n}(h:J4 T d (CA m) l er p k=(true,j,l',q,n))(i:AB p):Nw p j n:=by
 unfold J4 at h;split at h
 ·cases h
 ·unfold W8 at h
  split at h
  ·cases h;exact nw0 i rfl (BF _)
  ·split at h
   split at h;cases h;exact nw0 i rfl (BF _)
 ·unfold ye HB at h
  split at h;rename_i e;cases h;split at e
  ·cases e
  ·rename_i t er1 _
   have r:=W5 fu ((CA m).kd 3).is t er1;rw[e,Nk]at r;refine nw0 i rfl ?_;exact AU r (AL (0+9001))
 ·unfold O5 at h
  split at h
  ·cases h
  ·split at h
   cases h;exact nw0 i rfl (BF _)
 ·unfold xz at h
  split at h;cases h;exact nw0 i rfl (BF _)
 ·exact AAx hT h i
 ·exact(Ob hT h i).nw rfl rfl
 ·exact(Ob hT h i).nw rfl rfl
 ·cases h;exact nw0 i rfl (BF _)
theorem vc{d l er i f l' j g}(h:Gm T d l er i=(true,f,l',j,g))(k:AB i):Nw i f g:=by
 unfold Gm at h;split at h
 ·cases h
 ·split at h
  ·cases h;exact nw0 k rfl (BF _)
  ·unfold Wr at h
   split at h;exact ABH hT h k
theorem AAp:TB (Sa T):=by
  intro d l er w i l' s p h x;have h:Kt T d l er w=(true,i,l',s,p):=h;unfold Kt at h;split at h
  · cases h
  · split at h
    · cases h
    · rename_i o
      split at h
      · cases h
      · rename_i e
        cases h;have o:=(Ba.1 o).2;have o:=of_decide_eq_false o;have a:=vc hT e ⟨by simp;omega,λnd j=>by
          rcases Dw.1 j with j|j
          · exact x.2 nd j
          · rw[B0.1 j];exact⟨BF _,BF _⟩⟩
        have v:=a.n;rw[AY,List.length_singleton]at v;refine⟨⟨by rw[Dx];exact a.a.1,λnd j=>?_⟩,by rw[Dx];exact v⟩;rcases List.mem_or_eq_of_mem_set j with j|rfl
        · exact a.a.2 nd j
        · exact a.b
theorem oS{j l' k g}:∀{n z l er r},Kh T n z l er r=(true,j,l',k,g)->AB r->z.1.length<=40/\z.2.length=z.1.length->AB g/\j.1.length<=40/\j.2.length=j.1.length
 | 0,_,_,_,_,h,_,_=>by cases h
 | n+1,z,_,_,_,h,q,o=>by
  unfold Kh at h;split at h
  ·split at h
   ·cases h
   ·rename_i e
    unfold Jd at e;split at e
    ·cases e
    ·rename_i p
     have p:=of_decide_eq_false p;split at e
     ·cases e
     ·split at e
      rename_i s;cases e;exact oS h (hT s q).1 ⟨by simp;omega,by simp[o.2]⟩
  ·split at h
   ·cases h
   ·split at h
    cases h;exact⟨q,o⟩
end
theorem kh:∀q,TB (NG q)
 | 0=>λh _=>by cases h
 | q+1=>AAp (kh q)
theorem lj{M s}{m:WT}(h:Fk M s = .ok m):AB m.2.2.2/\m.2.2.1.1.length<=40/\m.2.2.1.2.length=m.2.2.1.1.length:=by
 unfold Fk at h;split at h
 ·cases h
 ·split at h
  ·rename_i e
   cases h;unfold KY at e;split at e
   ·cases e
   ·split at e
    ·cases e
    ·split at e
     ·cases e
     ·split at e
      ·cases e
      ·split at e
       ·cases e
       ·rename_i g
        cases e;unfold j7 at g;exact oS (by unfold GO;exact kh 18) g ⟨BF _,λnd h=>by cases h⟩ ⟨BF _,rfl⟩
  ·cases h
theorem NL{E U x v n k}{m:List V}(h:D0 U 1 n x m)(i:m[k]? = some v) J:Bl 1 x (AA k) (λb o=>Ee E U b o J)=J v:=by
 have p:k<m.length:=by
  rcases Av k m.length with j|j
  ·exact j
  ·rw[Ae j]at i;cases i
 rw[h.length,DO]at p;rcases h with ⟨rfl,_,_⟩|⟨b,o,c,L,rfl,q,r,rfl⟩
 ·omega
 ·rw[DG p]
  show Ee E U b (o+k*1) J=_;rw[DO,AT q];refine P6 ?_;rw[CY,if_pos (by omega),CD]at i;rw[KW];exact i
theorem Qw:∀(c:List AM) (b:List (V × FV)) k (nd:AM) (u:V × FV),b.length=c.length->c[k]? = some nd->b[k]? = some u->((HO c b).drop (k*16)).take 16=nd.c u.1 u.2.1
 | x::c,y::b,0,nd,u,_,f,g=>by
  cases f;cases g;show (((x.c y.1 y.2.1)++HO c b).drop (0*16)).take 16=_;rw[Nat.zero_mul,Dv];exact AFb (l₁:=x.c y.1 y.2.1)
 | x::c,y::b,k+1,nd,u,h,f,g=>by
  have n:=Qw c b k nd u (by simpa using h) f g;show (((x.c y.1 y.2.1)++HO c b).drop ((k+1)*16)).take 16=_;rw[show (k+1)*16=16+k*16 by omega,<-BU,show ((x.c y.1 y.2.1)++HO c b).drop 16=HO c b from AFd (l₁:=x.c y.1 y.2.1)];exact n
 | [],_,_,_,_,_,f,_=>by cases f
 | _::_,[],_,_,_,h,_,_=>by simp at h
theorem VU:∀(b:List C5) (vs:List V) k (f:C5) v,vs.length=b.length->b[k]? = some f->vs[k]? = some v->((WS b vs).drop (k*11)).take 11=f.c v
 | x::b,y::vs,0,f,v,_,d,g=>by
  cases d;cases g;show (((x.c y)++WS b vs).drop (0*11)).take 11=_;rw[Nat.zero_mul,Dv];exact AFb (l₁:=x.c y)
 | x::b,y::vs,k+1,f,v,h,d,g=>by
  have n:=VU b vs k f v (by simpa using h) d g;show (((x.c y)++WS b vs).drop ((k+1)*11)).take 11=_;rw[show (k+1)*11=11+k*11 by omega,<-BU,show ((x.c y)++WS b vs).drop 11=WS b vs from AFd (l₁:=x.c y)];exact n
 | [],_,_,_,_,_,d,_=>by cases d
 | _::_,[],_,_,_,h,_,_=>by simp at h
theorem Jp{E U x a n k}{m c:List V}(h:D0 U a n x m)(i:k<n)(j:(m.drop (k*a)).take a=c) J:Bl a x (AA k) (λb o=>Dt E U b o a J)=J c:=by
 rcases h with ⟨rfl,_,_⟩|⟨b,o,r,L,rfl,l,p,rfl⟩
 ·omega
 ·rw[DG i]
  show Dt E U b (o+k*a) a J=_;have q:k*a+a<=n*a:=by
   have:=Et a (show k+1<=n from i);rw[jz,Nat.one_mul]at this;exact this
  rw[Ev l,P3 (by omega)];rw[WQ,List.take_take,Gi (by omega),BU]at j;rw[j]
theorem VO:∀l k (x:Fu),l[k]? = some x->((Yo l).drop (k*3)).take 3=x.c
 | y::l,0,x,h=>by cases h;rfl
 | y::l,k+1,x,h=>by
  have f:=VO l k x (by simpa using h);show ((y.c++Yo l).drop ((k+1)*3)).take 3=_;rw[show (k+1)*3=3+k*3 by omega,<-BU,show (y.c++Yo l).drop 3=Yo l from AFd (l₁:=y.c)];exact f
 | [],_,_,h=>by cases h
def qc(F:List V->H->AH):Prop:=∀U w,CI U->PD F [.str w,.str w] U
def qe(F:List V->H->AH):Prop:=∀U n,CI U->PD F [.int .i64 n,.int .i64 n] U
def qb(F:List V->H->AH):Prop:=∀U (x:Fu),CI U->PD F [.agg x.c,.agg x.c] U
def qf(F:List V->H->AH):Prop:=∀U (x:C5) v a,CI U->D0 U 1 x.db.length v (Fe x.db)->D0 U 1 x.db.length a (Fe x.db)->PD F [.agg (x.c v),.agg (x.c a)] U
def qd(F:List V->H->AH):Prop:=∀U (x:AM) (u a:V × FV),CI U->yz U x u->yz U x a->x.fields.length<=300->x.items.length<=9001->PD F [.agg (x.c u.1 u.2.1),.agg (x.c a.1 a.2.1)] U
theorem yz.fr0{U U' nd u}(h:yz U nd u)(f:Fr Af U U')(a:CI U):yz U' nd u:=⟨h.i.fr f a (λ_ _ h=>h),h.f.fr f a (λ_ _ h=>h),h.g.fr f a (λ_ _ _ _ h=>h)⟩
def qR(F:List V->H->AH):Prop:=∀U (l:List (List Nat)) a b,CI U->D0 U 1 l.length a (j4 l)->D0 U 1 l.length b (j4 l)->l.length<=9001->∀f,f=36->PD F [a,b,.fn f [] []] U
section
variable {E:EB}{D:Am}{W:AJ}{N:Nat}
theorem vE(hc:qc (D 36))(hN:9002<N):qR (F35 E D W N):=by
 intro U l a b C L Q hl f Z;subst Z;have r:∀J,BV a J=J l.length:=λJ=>L.slen;have B:∀J,BV b J=J l.length:=λJ=>Q.slen;have u:∀n k o,Fr Af U o->l.length+1<=n+k->k<=l.length->∃U',SL E D W N n a b (.fn 36 [] []) (AA k) o=some (.bool true,U')/\Fr Af U U':=by
  intro n;induction n with
  | zero=>intro k o f a1 a2;omega | succ n M=>
   intro k o f a1 a2;show ∃U',ew E D W (pr E D W) (SL E D W N n) a b (.fn 36 [] []) (AA k) o=_/\_;generalize SL E D W N n=R at M ⊢;rcases Av k l.length with A|A
   ·obtain⟨x,O⟩:∃x,l[k]? = some x:=⟨_,AV A⟩
    have S:=λJ=>NL (E:=E) (L.fr f C (λ_ _ h=>h)) (by unfold j4;rw[BR,O];rfl) J;have T:=λJ=>NL (E:=E) (Q.fr f C (λ_ _ h=>h)) (by unfold j4;rw[BR,O];rfl) J;obtain⟨G,Y,f2⟩:=hc o (BO x) f.tidy;have X:∀J,HE D (.fn 36 [] []) [.str (BO x),.str (BO x)] o J=J (.bool true) G:=λJ=>by
     show BT (D 36 [.str (BO x),.str (BO x)] o) J=_;rw[Y];rfl
    have z:=decide_eq_true A;obtain⟨U',w,F⟩:=M (k+1) G (f.trans f2 (λ_ _ h=>h)) (by omega) (by omega);refine⟨U',?_,F⟩;have ak:BP .i64 (AA k) (AA 1)=AA (k+1):=BB (by omega);unfold ew;simp only[↓rP,rA,AE,AF,AD,↓r,z,↓S,↓T,↓X,ak];exact w
   ·have z:decide (k<l.length)=false:=decide_eq_false (by omega)
    refine⟨o,?_,f⟩;unfold ew pr;simp only[↓rP,rA,AE,AF,AD,↓r,z]
 obtain⟨U',w,F⟩:=u N 0 U (Fr.refl C) (by omega) (BF _);refine⟨U',?_,F⟩;show pt E D W (SL E D W N N) a b (.fn 36 [] []) U=_;generalize SL E D W N N=R at w ⊢;unfold pt;have d:decide (l.length=l.length)=true:=decide_eq_true rfl;simp only[↓rP,rA,AE,AF,AD,↓r,↓B,d];exact w
end
def qT(F:List V->H->AH):Prop:=∀U (l:List Nat) a b,CI U->D0 U 1 l.length a (j5 l)->D0 U 1 l.length b (j5 l)->l.length<=9001->∀f,f=38->PD F [a,b,.fn f [] []] U
section
variable {E:EB}{D:Am}{W:AJ}{N:Nat}
theorem vH(hc:qe (D 38))(hN:9002<N):qT (F37 E D W N):=by
 intro U l a b C L Q hl f Z;subst Z;have r:∀J,BV a J=J l.length:=λJ=>L.slen;have B:∀J,BV b J=J l.length:=λJ=>Q.slen;have u:∀n k o,Fr Af U o->l.length+1<=n+k->k<=l.length->∃U',SK E D W N n a b (.fn 38 [] []) (AA k) o=some (.bool true,U')/\Fr Af U U':=by
  intro n;induction n with
  | zero=>intro k o f a1 a2;omega | succ n M=>
   intro k o f a1 a2;show ∃U',et E D W (pn E D W) (SK E D W N n) a b (.fn 38 [] []) (AA k) o=_/\_;generalize SK E D W N n=R at M ⊢;rcases Av k l.length with A|A
   ·obtain⟨x,O⟩:∃x,l[k]? = some x:=⟨_,AV A⟩
    have S:=λJ=>NL (E:=E) (L.fr f C (λ_ _ h=>h)) (by unfold j5;rw[BR,O];rfl) J;have T:=λJ=>NL (E:=E) (Q.fr f C (λ_ _ h=>h)) (by unfold j5;rw[BR,O];rfl) J;obtain⟨G,Y,f2⟩:=hc o (AA x) f.tidy;have X:∀J,HE D (.fn 38 [] []) [.int .i64 (AA x),.int .i64 (AA x)] o J=J (.bool true) G:=λJ=>by
     show BT (D 38 [.int .i64 (AA x),.int .i64 (AA x)] o) J=_;rw[Y];rfl
    have z:=decide_eq_true A;obtain⟨U',w,F⟩:=M (k+1) G (f.trans f2 (λ_ _ h=>h)) (by omega) (by omega);refine⟨U',?_,F⟩;have ak:BP .i64 (AA k) (AA 1)=AA (k+1):=BB (by omega);unfold et;simp only[↓rP,rA,AE,AF,AD,↓r,z,↓S,↓T,↓X,ak];exact w
   ·have z:decide (k<l.length)=false:=decide_eq_false (by omega)
    refine⟨o,?_,f⟩;unfold et pn;simp only[↓rP,rA,AE,AF,AD,↓r,z]
 obtain⟨U',w,F⟩:=u N 0 U (Fr.refl C) (by omega) (BF _);refine⟨U',?_,F⟩;show po E D W (SK E D W N N) a b (.fn 38 [] []) U=_;generalize SK E D W N N=R at w ⊢;unfold po;have d:decide (l.length=l.length)=true:=decide_eq_true rfl;simp only[↓rP,rA,AE,AF,AD,↓r,↓B,d];exact w
end
def qQ(F:List V->H->AH):Prop:=∀U (l:List Fu) a b,CI U->D0 U 3 l.length a (Yo l)->D0 U 3 l.length b (Yo l)->l.length<=9001->∀f,f=70->PD F [a,b,.fn f [] []] U
section
variable {E:EB}{D:Am}{W:AJ}{N:Nat}
theorem vD(hc:qb (D 70))(hN:9002<N):qQ (F69 E D W N):=by
 intro U l a b C O P hl f Z;subst Z;have r:∀J,BV a J=J l.length:=λJ=>O.slen;have A:∀J,BV b J=J l.length:=λJ=>P.slen;have v:∀n k o,Fr Af U o->l.length+1<=n+k->k<=l.length->∃U',SH E D W N n a b (.fn 70 [] []) (AA k) o=some (.bool true,U')/\Fr Af U U':=by
  intro n;induction n with
  | zero=>intro k o f a1 Y;omega | succ n I=>
   intro k o f a1 Y;show ∃U',dt E D W (pM E D W) (SH E D W N n) a b (.fn 70 [] []) (AA k) o=_/\_;generalize SH E D W N n=R at I ⊢;rcases Av k l.length with u|u
   ·obtain⟨x,G⟩:∃x,l[k]? = some x:=⟨_,AV u⟩
    have T:=λJ=>Jp (E:=E) (O.fr f C (λ_ _ h=>h)) u (VO l k x G) J;have S:=λJ=>Jp (E:=E) (P.fr f C (λ_ _ h=>h)) u (VO l k x G) J;obtain⟨K,X,f2⟩:=hc o x f.tidy;have M:∀J,HE D (.fn 70 [] []) [.agg x.c,.agg x.c] o J=J (.bool true) K:=λJ=>by
     show BT (D 70 [.agg x.c,.agg x.c] o) J=_;rw[X];rfl
    have B:=decide_eq_true u;obtain⟨U',y,F⟩:=I (k+1) K (f.trans f2 (λ_ _ h=>h)) (by omega) (by omega);refine⟨U',?_,F⟩;have ak:BP .i64 (AA k) (AA 1)=AA (k+1):=BB (by omega);unfold Fu.c at T S M;unfold dt;simp only[↓rP,rA,AE,AF,AD,↓r,B,↓T,↓S,↓M,ak];exact y
   ·have B:decide (k<l.length)=false:=decide_eq_false (by omega)
    refine⟨o,?_,f⟩;unfold dt pM;simp only[↓rP,rA,AE,AF,AD,↓r,B]
 obtain⟨U',y,F⟩:=v N 0 U (Fr.refl C) (by omega) (BF _);refine⟨U',?_,F⟩;show pN E D W (SH E D W N N) a b (.fn 70 [] []) U=_;generalize SH E D W N N=R at y ⊢;unfold pN;have d:decide (l.length=l.length)=true:=decide_eq_true rfl;simp only[↓rP,rA,AE,AF,AD,↓r,↓A,d];exact y
end
def qU(F:List V->H->AH):Prop:=∀U (l:List C5) a b vs c,CI U->D0 U 11 l.length a (WS l vs)->D0 U 11 l.length b (WS l c)->j8 U l vs->j8 U l c->l.length<=9001->∀f,f=41->PD F [a,b,.fn f [] []] U
section
variable {E:EB}{D:Am}{W:AJ}{N:Nat}
theorem vI(hc:qf (D 41))(hN:9002<N):qU (F40 E D W N):=by
 intro U l a b vs B y Z h2 M I hl f ef;subst ef;have s:∀J,BV a J=J l.length:=λJ=>Z.slen;have K:∀J,BV b J=J l.length:=λJ=>h2.slen;have A:∀n k p,Fr Af U p->l.length+1<=n+k->k<=l.length->∃U',SJ E D W N n a b (.fn 41 [] []) (AA k) p=some (.bool true,U')/\Fr Af U U':=by
  intro n;induction n with
  | zero=>intro k p f a1 a2;omega | succ n ih=>
   intro k p f a1 a2;show ∃U',ep E D W (pd E D W) (SJ E D W N n) a b (.fn 41 [] []) (AA k) p=_/\_;generalize SJ E D W N n=R at ih ⊢;rcases Av k l.length with u|u
   ·obtain⟨x,F⟩:∃x,l[k]? = some x:=⟨_,AV u⟩
    obtain⟨v,X⟩:∃v,vs[k]? = some v:=⟨_,AV (by rw[M.1];exact u)⟩;obtain⟨z,w⟩:∃v,B[k]? = some v:=⟨_,AV (by rw[I.1];exact u)⟩;have Y:=λJ=>Jp (E:=E) (Z.fr f y (λ_ _ h=>h)) u (VU l vs k x v M.1 F X) J;have T:=λJ=>Jp (E:=E) (h2.fr f y (λ_ _ h=>h)) u (VU l B k x z I.1 F w) J;have Q:=(M.2 k x v F X).fr f y (λ_ _ h=>h);have s2:=(I.2 k x z F w).fr f y (λ_ _ h=>h);have o1:=Q.one;have o2:=s2.one;obtain⟨U2,g2,f2⟩:=hc p x v z f.tidy Q s2;have cv:∀J,HE D (.fn 41 [] []) [.agg (x.c v),.agg (x.c z)] p J=J (.bool true) U2:=λJ=>by
     show BT (D 41 [.agg (x.c v),.agg (x.c z)] p) J=_;rw[g2];rfl
    have O:=decide_eq_true u;obtain⟨U',G,P⟩:=ih (k+1) U2 (f.trans f2 (λ_ _ h=>h)) (by omega) (by omega);refine⟨U',?_,P⟩;have ak:BP .i64 (AA k) (AA 1)=AA (k+1):=BB (by omega);unfold C5.c at Y T cv;unfold ep;simp only[↓rP,rA,AE,AF,AD,↓s,O,↓Y,↓T,↓cv,ak,o1,o2];exact G
   ·have O:decide (k<l.length)=false:=decide_eq_false (by omega)
    refine⟨p,?_,f⟩;unfold ep pd;simp only[↓rP,rA,AE,AF,AD,↓s,O]
 obtain⟨U',G,P⟩:=A N 0 U (Fr.refl y) (by omega) (BF _);refine⟨U',?_,P⟩;show pf E D W (SJ E D W N N) a b (.fn 41 [] []) U=_;generalize SJ E D W N N=R at G ⊢;unfold pf;have d:decide (l.length=l.length)=true:=decide_eq_true rfl;simp only[↓rP,rA,AE,AF,AD,↓s,↓K,d];exact G
end
def qS(F:List V->H->AH):Prop:=∀U (l:List AM) a b (d c:List (V × FV)),CI U->D0 U 16 l.length a (HO l d)->D0 U 16 l.length b (HO l c)->d.length=l.length->c.length=l.length->(∀(k:Nat) (nd:AM) u,l[k]? = some nd->d[k]? = some u->yz U nd u)->(∀(k:Nat) (nd:AM) u,l[k]? = some nd->c[k]? = some u->yz U nd u)->(∀nd∈l,nd.fields.length<=300/\nd.items.length<=9001)->l.length<=9001->∀f,f=21->PD F [a,b,.fn f [] []] U
section
variable {E:EB}{D:Am}{W:AJ}{N:Nat}
theorem vG(hc:qd (D 21))(hN:9002<N):qS (F20 E D W N):=by
 intro U l a b T C A h1 h2 Y q2 n1 n2 hb hl f ef;subst ef;have t:∀J,BV a J=J l.length:=λJ=>h1.slen;have M:∀J,BV b J=J l.length:=λJ=>h2.slen;have z:∀n k p,Fr Af U p->l.length+1<=n+k->k<=l.length->∃U',SM E D W N n a b (.fn 21 [] []) (AA k) p=some (.bool true,U')/\Fr Af U U':=by
  intro n;induction n with
  | zero=>intro k p f a1 a2;omega | succ n ih=>
   intro k p f a1 a2;show ∃U',fE E D W (qI E D W) (SM E D W N n) a b (.fn 21 [] []) (AA k) p=_/\_;generalize SM E D W N n=R at ih ⊢;rcases Av k l.length with v|v
   ·obtain⟨x,B⟩:∃x,l[k]? = some x:=⟨_,AV v⟩
    obtain⟨u,hu⟩:∃u,T[k]? = some u:=⟨_,AV (by rw[Y];exact v)⟩;obtain⟨s,F⟩:∃u,C[k]? = some u:=⟨_,AV (by rw[q2];exact v)⟩;have X:=λJ=>Jp (E:=E) (h1.fr f A (λ_ _ h=>h)) v (Qw l T k x u Y B hu) J;have Z:=λJ=>Jp (E:=E) (h2.fr f A (λ_ _ h=>h)) v (Qw l C k x s q2 B F) J;have K:=(n1 k x u B hu).fr0 f A;have P:=(n2 k x s B F).fr0 f A;have o1:=K.i.one;have o2:=K.f.one;have o3:=P.i.one;have o4:=P.f.one;have y:=hb x (Il B);obtain⟨U2,g2,f2⟩:=hc p x u s f.tidy K P y.1 y.2;have cv:∀J,HE D (.fn 21 [] []) [.agg (x.c u.1 u.2.1),.agg (x.c s.1 s.2.1)] p J=J (.bool true) U2:=λJ=>by
     show BT (D 21 [.agg (x.c u.1 u.2.1),.agg (x.c s.1 s.2.1)] p) J=_;rw[g2];rfl
    have L:=decide_eq_true v;obtain⟨U',I,Q⟩:=ih (k+1) U2 (f.trans f2 (λ_ _ h=>h)) (by omega) (by omega);refine⟨U',?_,Q⟩;have ak:BP .i64 (AA k) (AA 1)=AA (k+1):=BB (by omega);unfold AM.c at X Z cv;unfold fE;simp only[↓rP,rA,AE,AF,AD,↓t,L,↓X,↓Z,↓cv,ak,o1,o2,o3,o4];exact I
   ·have L:decide (k<l.length)=false:=decide_eq_false (by omega)
    refine⟨p,?_,f⟩;unfold fE qI;simp only[↓rP,rA,AE,AF,AD,↓t,L]
 obtain⟨U',I,Q⟩:=z N 0 U (Fr.refl A) (by omega) (BF _);refine⟨U',?_,Q⟩;show qJ E D W (SM E D W N N) a b (.fn 21 [] []) U=_;generalize SM E D W N N=R at I ⊢;unfold qJ;have d:decide (l.length=l.length)=true:=decide_eq_true rfl;simp only[↓rP,rA,AE,AF,AD,↓t,↓M,d];exact I
end
theorem td a:Cc a a=true:=by rw[VX];simp
theorem Bz w:BS.beq w w=true:=by
 unfold BS.beq;simp
theorem AH3 w n b J:Sh (.flat [(0,.str),(1,.int),(2,.bool)]) (.agg [.str w,.int .i64 n,.bool b]) (.agg [.str w,.int .i64 n,.bool b]) J=J true:=by
 have h:J7 (.flat [(0,.str),(1,.int),(2,.bool)]) (.agg [.str w,.int .i64 n,.bool b]) (.agg [.str w,.int .i64 n,.bool b])=some true:=by
  show FX [(0,.str),(1,.int),(2,.bool)] [.str w,.int .i64 n,.bool b] [.str w,.int .i64 n,.bool b]=some true;simp only[FX,IN,Ja,if_true,td,Bz];cases b<;>rfl
 unfold Sh;rw[h]
theorem AH2 b n m J:Sh (.flat [(0,.bool),(1,.int),(2,.int)]) (.agg [.bool b,.int .i64 n,.int .i64 m]) (.agg [.bool b,.int .i64 n,.int .i64 m]) J=J true:=by
 have h:J7 (.flat [(0,.bool),(1,.int),(2,.int)]) (.agg [.bool b,.int .i64 n,.int .i64 m]) (.agg [.bool b,.int .i64 n,.int .i64 m])=some true:=by
  show FX [(0,.bool),(1,.int),(2,.int)] [.bool b,.int .i64 n,.int .i64 m] [.bool b,.int .i64 n,.int .i64 m]=some true;simp only[FX,IN,Ja,if_true,td];cases b<;>rfl
 unfold Sh;rw[h]
theorem AH4 a b c d u v J:Sh (.flat [(0,.bool),(1,.bool),(2,.bool),(3,.bool),(4,.int),(5,.int)]) (.agg [.bool a,.bool b,.bool c,.bool d,.int .i64 u,.int .i64 v]) (.agg [.bool a,.bool b,.bool c,.bool d,.int .i64 u,.int .i64 v]) J=J true:=by
 have h:J7 (.flat [(0,.bool),(1,.bool),(2,.bool),(3,.bool),(4,.int),(5,.int)]) (.agg [.bool a,.bool b,.bool c,.bool d,.int .i64 u,.int .i64 v]) (.agg [.bool a,.bool b,.bool c,.bool d,.int .i64 u,.int .i64 v])=some true:=by
  show FX [(0,.bool),(1,.bool),(2,.bool),(3,.bool),(4,.int),(5,.int)] [.bool a,.bool b,.bool c,.bool d,.int .i64 u,.int .i64 v] [.bool a,.bool b,.bool c,.bool d,.int .i64 u,.int .i64 v]=some true;cases a<;>cases b<;>cases c<;>cases d<;>(simp only[FX,IN,Ja,if_true,td];rfl)
 unfold Sh;rw[h]
theorem AH5 a J:Sh .bool (.bool a) (.bool a) J=J true:=by cases a<;>rfl
theorem AOW{a b c J}:He [a,b,c] 0 3 J=J [a,b,c]:=rfl
theorem AG3{f n a c b m h k j i p e d g o l J}:He [f,n,a,c,b,m,h,k,j,i,p,e,d,g,o,l] 2 3 J=J [a,c,b]:=rfl
theorem AAs{m n h o g e c a d b f k i p j l J}:He [m,n,h,o,g,e,c,a,d,b,f,k,i,p,j,l] 5 6 J=J [e,c,a,d,b,f]:=rfl
theorem AG4{g i h j a d b c f e k J}:He [g,i,h,j,a,d,b,c,f,e,k] 4 6 J=J [a,d,b,c,f,e]:=rfl
section
variable {E:EB}{D:Am}{W:AJ}{N:Nat}
theorem AH9:qc (F36 E D W N):=by
 intro U w f;refine⟨U,?_,Fr.refl f⟩;show pq E D W w w U=_;unfold pq;simp only[↓rP,rS,Bz]
theorem AIB:qe (F38 E D W N):=by
 intro U n f;refine⟨U,?_,Fr.refl f⟩;show pk E D W n n U=_;unfold pk;simp only[↓rP,rS,td]
theorem AH8:qb (F70 E D W N):=by
 intro U x m;obtain⟨p,f,f1,d,q⟩:=Ia m x.c;obtain⟨n,k,j,i,o⟩:=Ia f1.tidy x.c;have d:=j.at_ d f1.tidy (λh=>h);unfold Fu.c at f k d i;refine⟨n,?_,f1.trans j (λ_ _ h=>h)⟩;show pL E D W (BO x.name) x.num x.has (BO x.name) x.num x.has U=_;unfold pL;simp only[↓rP,rA,AE,AF,AD,↓f,↓k,↓Ev d,↓Ev i,↓AOW,↓AH3]
def qX(F:List V->H->AH):Prop:=∀U (l:List (List Nat)) a b,CI U->D0 U 1 l.length a (j4 l)->D0 U 1 l.length b (j4 l)->l.length<=9001->PD F [a,b] U
def qY(F:List V->H->AH):Prop:=∀U (l:List Nat) a b,CI U->D0 U 1 l.length a (j5 l)->D0 U 1 l.length b (j5 l)->l.length<=9001->PD F [a,b] U
def qW(F:List V->H->AH):Prop:=∀U (l:List Fu) a b,CI U->D0 U 3 l.length a (Yo l)->D0 U 3 l.length b (Yo l)->l.length<=9001->PD F [a,b] U
theorem AHY(h:qR (D 35)):qX (F18 E D W N):=by
 intro U l a b k p n j;obtain⟨m,o,f1⟩:=h U l a b k p n j 36 rfl;refine⟨m,?_,f1⟩;show qL E D W a b U=_;unfold qL;simp only[↓rP,rS,↓o]
theorem AHZ(h:qT (D 37)):qY (F19 E D W N):=by
 intro U l a b k p n j;obtain⟨m,o,f1⟩:=h U l a b k p n j 38 rfl;refine⟨m,?_,f1⟩;show qK E D W a b U=_;unfold qK;simp only[↓rP,rS,↓o]
theorem AHX(h:qQ (D 69)):qW (F39 E D W N):=by
 intro U l a b k p n j;obtain⟨m,o,f1⟩:=h U l a b k p n j 70 rfl;refine⟨m,?_,f1⟩;show ph E D W a b U=_;unfold ph;simp only[↓rP,rS,↓o]
def qg(F:List V->H->AH):Prop:=∀U (l:List Nat) a b,CI U->D0 U 1 l.length a (Fe l)->D0 U 1 l.length b (Fe l)->PD F [a,b] U
theorem cV{U}{l:List Nat}{a}(h:D0 U 1 l.length a (Fe l)):By U a (nI l):=by
 unfold By;have e:Fe l=Sr (nI l):=by unfold Fe Sr nI;rw[xT];rfl
 have f:(nI l).length=l.length:=by unfold nI;rw[DD]
 rw[f,<-e];exact h
theorem AIE:qg (F82 E D W N):=by
 intro U l a b j i m;have k:=λJ=>By.str (E:=E) (cV i) J;have h:=λJ=>By.str (E:=E) (cV m) J;refine⟨U,?_,Fr.refl j⟩;show pE E D W a b U=_;unfold pE;simp only[↓rP,rS,↓k,↓h,Bz]
def jn(k:FuncId)(F:List V->H->AH):Prop:=∀U,CI U->PD F [.nils,.nils,.fn k [] []] U
theorem AHc(i:0<N){k}:jn k (F83 E D W N):=by
 intro U h;obtain⟨n,rfl⟩:∃n,N=n+1:=⟨N-1,by omega⟩;refine⟨U,?_,Fr.refl h⟩;show pD E D W (pB E D W (pC E D W) (qw E D W (n+1) n)) .nils .nils (.fn k [] []) U=_;unfold pD pB pC;simp only[↓rP,rA,AE,AF,AD]
theorem AHd(i:0<N){k}:jn k (F84 E D W N):=by
 intro U h;obtain⟨n,rfl⟩:∃n,N=n+1:=⟨N-1,by omega⟩;refine⟨U,?_,Fr.refl h⟩;show pA E D W (o7 E D W (o9 E D W) (qv E D W (n+1) n)) .nils .nils (.fn k [] []) U=_;unfold pA o7 o9;simp only[↓rP,rA,AE,AF,AD]
def qO(F:List V->H->AH):Prop:=∀U k n (l:List Nat) v a,CI U->D0 U 1 l.length v (Fe l)->D0 U 1 l.length a (Fe l)->PD F [.agg [.int .i64 (AA k),.int .i64 n,v,.nils,.int .i64 (AA 0),.nils],.agg [.int .i64 (AA k),.int .i64 n,a,.nils,.int .i64 (AA 0),.nils]] U
theorem AGu(y:qg (D 82))(I:jn 71 (D 83))(x:jn 85 (D 84)):qO (F71 E D W N):=by
 intro U k n l v m i q w;obtain⟨R,A,f1,M,S⟩:=Ia i [.int .i64 (AA k),.int .i64 n,v,.nils,.int .i64 (AA 0),.nils];obtain⟨z,B,d,p,T⟩:=Ia f1.tidy [.int .i64 (AA k),.int .i64 n,m,.nils,.int .i64 (AA 0),.nils];have u:=d.at_ M f1.tidy (λh=>h);have b:=f1.trans d (λ_ _ h=>h);obtain⟨U3,F,c⟩:=y z l v m d.tidy (q.fr b i (λ_ _ h=>h)) (w.fr b i (λ_ _ h=>h));have s:=c.at_ u d.tidy (λh=>h);have o:=c.at_ p d.tidy (λh=>h);obtain⟨U4,O,g⟩:=I U3 c.tidy;have C:=g.at_ s c.tidy (λh=>h);have G:=g.at_ o c.tidy (λh=>h);obtain⟨P,K,L⟩:=x U4 g.tidy;refine⟨P,?_,((b.trans c (λ_ _ h=>h)).trans g (λ_ _ h=>h)).trans L (λ_ _ h=>h)⟩;have Q:=q.one;have J:=w.one;show pK E D W (AA k) n v .nils (AA 0) .nils (AA k) n m .nils (AA 0) .nils U=_;unfold pK;simp only[↓rP,rS,↓A,↓B,↓AT u,↓AT p,td,↓F,↓AT s,↓AT o,↓O,↓AT C,↓AT G,↓K];rw[Q,J];rfl
theorem AIC(B:qO (D 71)):qf (F41 E D W N):=by
 intro U x v i j o q;obtain⟨G,m,f1,A,C⟩:=Ia j (x.c v);obtain⟨z,n,d,g,I⟩:=Ia f1.tidy (x.c i);have e:=d.at_ A f1.tidy (λh=>h);have c:=f1.trans d (λ_ _ h=>h);obtain⟨U3,w,l⟩:=B z x.dk x.dn x.db v i d.tidy (o.fr c j (λ_ _ h=>h)) (q.fr c j (λ_ _ h=>h));have r:=l.at_ e d.tidy (λh=>h);have t:=l.at_ g d.tidy (λh=>h);refine⟨U3,?_,c.trans l (λ_ _ h=>h)⟩;have u:=o.one;have y:=q.one;unfold C5.c at m n g e r t;show pc E D W (BO x.name) (AA x.type) x.opt x.has (AA x.dk) x.dn v .nils (AA 0) .nils (AA x.group) (BO x.name) (AA x.type) x.opt x.has (AA x.dk) x.dn i .nils (AA 0) .nils (AA x.group) U=_;unfold pc;simp only[↓rP,rS,↓m,↓n,↓AT e,↓AT g,td,Bz,↓AH5,↓Ev e,↓Ev g,↓AG4,↓w,↓AT r,↓AT t];rw[u,y];rfl
theorem AIA(J:qW (D 39))(F:qU (D 40)):qd (F21 E D W N):=by
 intro U x u f o C K T B;obtain⟨X,z,f1,O,S⟩:=Ia o (x.c u.1 u.2.1);obtain⟨M,y,k,m,R⟩:=Ia f1.tidy (x.c f.1 f.2.1);have l:=k.at_ O f1.tidy (λh=>h);have j:=f1.trans k (λ_ _ h=>h);have i:=C.fr0 j o;have g:=K.fr0 j o;obtain⟨U3,A,e⟩:=J M x.items u.1 f.1 k.tidy i.i g.i B;have v:=e.at_ l k.tidy (λh=>h);have q:=e.at_ m k.tidy (λh=>h);have i:=i.fr0 e k.tidy;have g:=g.fr0 e k.tidy;obtain⟨U4,L,w⟩:=F U3 x.fields u.2.1 f.2.1 u.2.2 f.2.2 e.tidy i.f g.f i.g g.g (by omega) 41 rfl;have r:=w.at_ v e.tidy (λh=>h);have t:=w.at_ q e.tidy (λh=>h);refine⟨U4,?_,(j.trans e (λ_ _ h=>h)).trans w (λ_ _ h=>h)⟩;have Q:=i.i.one;have I:=i.f.one;have G:=g.i.one;have P:=g.f.one;unfold AM.c at z y m l v q r t;show qH E D W (qG E D W (qE E D W (qD E D W (qF E D W)))) (AA x.kind) (BO x.name) x.mHas x.mNum (AA x.mMode) x.con.has x.con.hasLow x.con.hasHigh x.con.more x.con.low x.con.high u.1 u.2.1 (AA x.root) x.more (AA x.of_) (AA x.kind) (BO x.name) x.mHas x.mNum (AA x.mMode) x.con.has x.con.hasLow x.con.hasHigh x.con.more x.con.low x.con.high f.1 f.2.1 (AA x.root) x.more (AA x.of_) U=_;unfold qH;simp only[↓rP,rS,↓z,↓y];unfold qG;simp only[↓rP,rS,↓AT l,↓AT m,td,Bz,↓Ev l,↓Ev m,↓AG3,↓AAs,↓AH2,↓AH4];unfold qE;simp only[↓rP,rS,↓AT l,↓AT m,td,↓A,↓AT v,↓AT q,↓L,↓AT r,↓AT t];unfold qD qF;simp only[↓rP,rS,td,↓AH5,↓AT r,↓AT t];rw[Q,I,G,P];rfl
def qZ(F:List V->H->AH):Prop:=∀U (m:WT) e f d b c a,CI U->zA U m e f d->zA U m b c a->m.2.2.1.1.length<=9001->m.2.2.1.2.length<=9001->m.2.2.2.length<=9001->(∀nd∈m.2.2.2,nd.fields.length<=300/\nd.items.length<=9001)->PD F [.agg (Ym m e f d),.agg (Ym m b c a)] U
theorem AHh(X:qX (D 18))(hI:qY (D 19))(hN:qS (D 20)):qZ (F8 E D W N):=by
 intro U m z A F i l j e r p R b2 b3 b4;obtain⟨S,J,Z,p3⟩:=r.d;obtain⟨y,M,q2,q3⟩:=p.d;obtain⟨U1,G,f1,a1,n1⟩:=Ia e (Ym m z A F);obtain⟨U2,L,q,v,n2⟩:=Ia f1.tidy (Ym m i l j);have B:=q.at_ a1 f1.tidy (λh=>h);have g:=f1.trans q (λ_ _ h=>h);obtain⟨U3,g3,o⟩:=X U2 m.2.2.1.1 z i q.tidy (r.n.src.fr g e (λ_ _ h=>h)) (p.n.src.fr g e (λ_ _ h=>h)) R;have n:=g.trans o (λ_ _ h=>h);have x:=o.at_ B q.tidy (λh=>h);have C:=o.at_ v q.tidy (λh=>h);obtain⟨U4,T,t⟩:=hI U3 m.2.2.1.2 A l o.tidy (r.t.fr n e (λ_ _ h=>h)) (p.t.fr n e (λ_ _ h=>h)) b2;have d:=n.trans t (λ_ _ h=>h);have P:=t.at_ x o.tidy (λh=>h);have O:=t.at_ C o.tidy (λh=>h);obtain⟨U5,g5,f5⟩:=hN U4 m.2.2.2 F j S y t.tidy (J.fr d e (λ_ _ h=>h)) (M.fr d e (λ_ _ h=>h)) Z q2 (λk nd u a b=>(p3 k nd u a b).fr0 d e) (λk nd u a b=>(q3 k nd u a b).fr0 d e) b4 b3 21 rfl;refine⟨U5,?_,d.trans f5 (λ_ _ h=>h)⟩;have o1:=r.n.one;have o2:=r.t.one;have o3:=J.one;have Y:=p.n.one;have o5:=p.t.one;have Q:=M.one;unfold Ym at G L B v x C P O;show ABr E D W (BO m.1) m.2.1 z A F (BO m.1) m.2.1 i l j U=_;unfold ABr;simp only[↓rP,rS,↓G,↓L,↓AT B,↓AT v,td,Bz,↓g3,↓AT x,↓AT C,↓T,↓AT P,↓AT O,↓g5];rw[o1,o2,o3,Y,o5,Q];rfl
end
def AHi:WT:=([],0,([],[]),[])
theorem mS U:zA U AHi .nils .nils .nils:=⟨ES.nil U 1,.inl ⟨rfl,rfl,rfl⟩,⟨[],.inl ⟨rfl,rfl,rfl⟩,rfl,λk nd u h=>by cases h⟩⟩
def ABy(E:EB)(a:List V)(F:List V->H->AH):Prop:=∀U,CI U->KF E U->PD F a U
section
variable {E:EB}{D:Am}{W:AJ}{N:Nat}
theorem zA.fr0{U U' m l i j}(g:zA U m l i j)(f:Fr Af U U')(c:CI U):zA U' m l i j:=by
 obtain⟨n,p,q,o⟩:=g.d;exact⟨g.n.fr f c (λ_ _ h=>h),g.t.fr f c (λ_ _ h=>h),⟨n,p.fr f c (λ_ _ h=>h),q,λk nd u a b=>(o k nd u a b).fr0 f c⟩⟩
theorem vw{M}(hP:KK E M (D 6))(Y:Lw E M (D 7))(O:ABy E [] (D 5))(R:qZ (D 8)) U (s:BS)(T:CI U)(q:KF E U):PD (F3 E D W N) [.str s] U:=by
 show ∃U',pg E D W s U=_/\_;cases K:decide (9000<s.len)with
 | true=>
  obtain⟨t,o,f1⟩:=O U T q;refine⟨t,?_,f1⟩;unfold pg;simp only[↓rP,rA,AE,AF,AD,K,↓o]
 | false=>
  have z:=hP U s T q;cases u:Fk M s with
  | error e=>
   rw[u]at z;obtain⟨t,o,f1⟩:=z;have w:=Y t s f1.tidy (q.fr f1 (λ_ h=>h.elim));rw[LS,u]at w;obtain⟨F,A,k⟩:=w;obtain⟨U3,I,n⟩:=O F k.tidy (q.fr (f1.trans k (λ_ _ h=>h)) (λ_ h=>h.elim));obtain⟨U4,p,C⟩:=R U3 AHi .nils .nils .nils .nils .nils .nils n.tidy (mS U3) (mS U3) (BF _) (BF _) (BF _) (λnd h=>by cases h);have p:D 8 [.agg [.str (BS.mk 0 0),.int .i64 (AA 0),.nils,.nils,.nils],.agg [.str (BS.mk 0 0),.int .i64 (AA 0),.nils,.nils,.nils]] U3=some (.bool true,U4):=p;have d1:decide (e.1=e.1)=true:=decide_eq_true rfl;have d2:decide (e.2=e.2)=true:=decide_eq_true rfl;refine⟨U4,?_,((f1.trans k (λ_ _ h=>h)).trans n (λ_ _ h=>h)).trans C (λ_ _ h=>h)⟩;have ao:BM [.str (BS.mk 0 0),.int .i64 (AA 0),.nils,.nils,.nils]=true:=rfl;unfold pg;simp only[↓rP,rA,AE,AF,AD,K,↓o,ao,↓A,d1,d2,↓I,↓p]
  | ok m=>
   rw[u]at z;obtain⟨nv,Z,X,t,o,l,_,f1⟩:=z;have w:=Y t s f1.tidy (q.fr f1 (λ_ h=>h.elim));rw[LS,u]at w;obtain⟨v,y,r,F,A,c,_,k⟩:=w;obtain⟨U3,I,n⟩:=O F k.tidy (q.fr (f1.trans k (λ_ _ h=>h)) (λ_ h=>h.elim));have B:=lj u;obtain⟨U4,p,C⟩:=R U3 m nv Z X v y r n.tidy (l.fr0 (k.trans n (λ_ _ h=>h)) f1.tidy) (c.fr0 n k.tidy) (by have:=B.2;omega) (by have:=B.2;omega) (by have:=B.1.1;omega) B.1.2;have J:BM (Ym m nv Z X)=true:=by
    obtain⟨S,x,_,_⟩:=l.d;unfold Ym;simp only[BW,Bg,Ed,FF,l.n.one,l.t.one,x.one,Au]
   have Q:BM (Ym m v y r)=true:=by
    obtain⟨S,x,_,_⟩:=c.d;unfold Ym;simp only[BW,Bg,Ed,FF,c.n.one,c.t.one,x.one,Au]
   unfold Ym at o A p J Q;have ez:decide (0=0)=true:=rfl;refine⟨U4,?_,((f1.trans k (λ_ _ h=>h)).trans n (λ_ _ h=>h)).trans C (λ_ _ h=>h)⟩;obtain⟨S,x,_,_⟩:=l.d;obtain⟨aa,P,_,_⟩:=c.d;have o1:=l.n.one;have o2:=l.t.one;have o3:=x.one;have o4:=c.n.one;have o5:=c.t.one;have o6:=P.one;unfold pg;simp only[↓rP,rA,AE,AF,AD,K,↓o,o1,o2,o3,o4,o5,o6,↓A,ez,↓I,↓p]
end
section
variable {E:EB}
theorem ik d:MY (TW E (d+1) 51):=by rw[AEy];exact AHa
theorem Yy d:PO (TW E (d+1) 53):=by rw[AEw];exact yP
theorem Uf d:Mh (TW E (d+1) 55):=by rw[AEu];exact yf
theorem AAi d:Xy (TW E (d+1) 87):=by rw[AEX];exact yR
theorem AAa d:Xy (TW E (d+2) 75):=by rw[AEe];exact yC (AAi d)
theorem xAh d:V5 (TW E (d+3) 52):=by rw[AEx];exact AIb (AAa d)
theorem xSk d:qV 600000 (TW E (d+4) 24):=by rw[AFI];exact AG6 (ik (d+2)) (xAh d) (by decide)
theorem xWd d:wy (TW E (d+1) 76):=by rw[AEd];exact AGp
theorem AAe d:MX (λr=>∃c l,r=c::l/\Em c=true) (λr=>NU (r.headD 0) (r.drop 1)) (TW E (d+2) 54):=by rw[AEv];exact cc (ik d) (Yy d) (Uf d) (xWd d) (by decide)
theorem AAZ d:MX (λ_=>True) Ql (TW E (d+4) 59):=by rw[AEq];exact bg (xAh d) (by decide)
theorem AAd d:MX (λr=>(∃c l,r=c::l/\Ai c=true)\/∃l,r=45::l/\Ai (l.headD 0)=true) Kw (TW E (d+2) 56):=by rw[AEt];exact mI (ik d) (Yy d) (Uf d) (sk E _) (by decide)
theorem AAj d:MX (λr=>∃l,r=39::l) Kx (TW E (d+4) 57):=by rw[AEs];exact nJ (ik (d+2)) (Uf (d+2)) (xAh d) (by decide)
theorem xW8 d:jm E (TW E (d+1) 90):=by rw[AEW];exact AGq
theorem xVl d:qP E (TW E (d+2) 78):=by rw[AEc];exact AGt (xW8 d) (by decide)
theorem AAX d:Vw E (λr=>∃q,r=34::q) OL (TW E (d+3) 58):=by rw[AEr];exact ko (ik (d+1)) (xVl d) (by decide)
theorem AAY d:Vw E (λr=>r≠[]) Hc (TW E (d+5) 25):=by rw[AFH];exact xw (ik (d+3)) (Yy (d+3)) (Uf (d+3)) (AAe (d+2)) (AAd (d+2)) (AAj d) (AAX (d+1)) (AAZ d)
theorem AAh d:N8 E 600000 (TW E (d+6) 10):=by rw[AFR];exact yS (xSk (d+1)) (AAY d) (by decide)
theorem Hv d:C0 (TW E (d+1) 29):=by rw[AFD];exact cR
theorem LC d:FL (TW E (d+1) 61):=by rw[AEo];exact ca
theorem ud d:PL (TW E (d+2) 28):=by rw[AFE];exact Su (Hv d)
theorem Pq d:Gr (TW E (d+3) 62):=by rw[AEn];exact yV (ud d) (LC (d+1))
theorem Hw d:HH (TW E (d+1) 60):=by rw[AEp];exact dE
theorem Fi d:D6 (TW E (d+4) 27):=by rw[AFF];exact Z9 (Pq d) (Hv (d+2)) (Hw (d+2)) (by decide)
theorem ue d:PN (TW E (d+2) 26):=by rw[AFG];exact yM (Hv d) (LC d) (Hw d)
theorem Ue d:Kj (TW E (d+3) 103):=by rw[tO];exact mK (ue d) (sk E _)
theorem kL d:V4 (TW E (d+1) 79):=by rw[AEb];exact oR
theorem kI d:QO (TW E (d+5) 91):=by rw[AEV];exact ck (Pq (d+1)) (Ue (d+1)) (Hw (d+3)) (Fi d)
theorem kK d:SC (TW E (d+5) 93):=by rw[AET];exact oM (Pq (d+1)) (Ue (d+1)) (Fi d)
theorem xSz d:Xx (TW E (d+6) 92):=by rw[AEU];exact yA (Pq (d+2)) (Fi (d+1)) (kK d)
theorem kJ d:OA (TW E (d+5) 104):=by rw[tN];exact cz (ue (d+2)) (Pq (d+1)) (Ue (d+1)) (Fi d)
theorem Yz d:N9 (TW E (d+6) 94):=by rw[AES];exact W6 (Pq (d+2)) (Fi (d+1)) (kJ d) (by decide)
theorem AAg d:R8 (TW E (d+1) 108):=by rw[tJ];exact mX
theorem AAb d:PM (TW E (d+2) 98):=by rw[AEO];exact yL (AAg d) (by decide)
theorem xPu d:PM (TW E (d+3) 118):=by rw[sr];exact AHW (AAb d)
theorem AAc d:Lx (TW E (d+4) 116):=by rw[su];exact mF (xPu d) (by decide)
theorem AAW d:Vv (TW E (d+5) 114):=by rw[sx];exact kb (Hv (d+3)) (Pq (d+1)) (Ue (d+1)) (LC (d+3)) (Hw (d+3)) (AAc d)
theorem kH{T}(e:dS T) k (h:∀d,HG T (TW E (k+d+10) 63)):∀d,HG (Sa T) (TW E (k+d+17) 63):=by
 have f:∀d,JB T (TW E (k+d+11) 106):=λd=>by rw[tL];exact XG (ue (k+d+8)) (Pq (k+d+7)) (AAW (k+d+5)) (h d)
 have i:∀d,fJ T (TW E (k+d+12) 113):=λd=>by rw[sy];exact ym (λd l er c=>(e d l er c).l) (Pq (k+d+8)) (Fi (k+d+7)) (f d) (by decide)
 have j:∀d,fK T (TW E (k+d+13) 105):=λd=>by rw[tM];exact yr (λd l er c=>(e d l er c).l) (Pq (k+d+9)) (i d) (f (d+1)) (by decide)
 have g:∀d,KL T (TW E (k+d+14) 95):=λd=>by rw[AER];exact TI (λd l er c=>(e d l er c).l) (Pq (k+d+10)) (ud (k+d+11)) (Fi (k+d+9)) (j d) (f (d+2)) (by decide)
 have m:∀d,Vy T (TW E (k+d+15) 96):=λd=>by rw[AEQ];exact lK (ud (k+d+12)) (xSz (k+d+8)) (Fi (k+d+10)) (g d) (h (d+4))
 have nd:∀d,QN T (TW E (k+d+16) 80):=λd=>by rw[AEa];exact cX (Hv (k+d+14)) (LC (k+d+14)) (kI (k+d+10)) (Pq (k+d+12)) (Hw (k+d+14)) (Fi (k+d+11)) (xSz (k+d+9)) (kK (k+d+10)) (Yz (k+d+9)) (g (d+1)) (m d)
 have ty:∀d,HG (Sa T) (TW E (k+d+17) 63):=λd=>by rw[sn];exact Ul e (Hv (k+d+15)) (kL (k+d+15)) (Hw (k+d+15)) (λ_=>nd d)
 exact ty
theorem WW:∀q d,HG (NG (q+1)) (TW E (7*q+d+10) 63)
 | 0,d=>by rw[show 7*0+d+10=d+9+1 by omega,sn];exact Ul (KR 0) (Hv (d+8)) (kL (d+8)) (Hw (d+8)) (λh=>absurd h (by decide))
 | q+1,d=>by rw[show 7*(q+1)+d+10=7*q+d+17 by omega];exact kH (KR (q+1)) (7*q) (WW q) d
theorem kG d:HG GO (TW E (d+129) 63):=by unfold GO;rw[show d+129=7*17+d+10 by omega];exact WW 17 d
theorem VF:dS GO:=by unfold GO;exact KR 18
theorem VE:GO.lo=0:=by unfold GO;rfl
theorem AAk d:SD GO (TW E (d+130) 30):=by rw[AFC];exact oT (LC (d+128)) (Hw (d+128)) (Fi (d+125)) (kG d) VE
theorem AAf d:V1 GO (TW E (d+131) 11):=by rw[AFQ];exact mR VF (Hv (d+129)) (ud (d+128)) (ue (d+128)) (Fi (d+126)) (AAk d) (by decide)
theorem QV d:KK E 600000 (TW E (d+132) 6):=by rw[DE6];exact Wm (AAh (d+125)) (AAf d)
theorem ON d:KJ (TW E (d+1) 42):=by rw[AE7];exact yH
theorem Yw d:SA (TW E (d+1) 43):=by rw[AE6];exact lO
theorem UY d:Mg (TW E (d+1) 46):=by rw[AE3];exact lT
theorem AAK d:Xv 600000 (TW E (d+2) 22):=by rw[AFK];exact xj (ON d) (by decide)
theorem AAS d:fI (TW E (d+1) 72):=by rw[AEh];exact yX (by decide)
theorem Yt d:∀U,(TW E (d+1) 73) [] U=some (.sl U.next 0 25 (.ex 25),B9 U (.cells (KQ.map .str))):=by rw[AEg];exact Wd
theorem j9 d:QJ (TW E (d+2) 45):=by rw[AE4];exact bh (AAS d) (Yt d)
theorem kC d:QM (TW E (d+2) 44):=by rw[AE5];exact bn (ON d) (Yw d) (UY d) (by decide)
theorem kB d:QK (TW E (d+1) 50):=by rw[AEz];exact bj (by decide)
theorem AAQ d:QL (TW E (d+2) 47):=by rw[AE2];exact bm (ON d) (Yw d) (UY d) (by decide)
theorem AAT d:V0 (TW E (d+2) 48):=by rw[AE1];exact lP (ON d) (UY d) (by decide)
theorem yW8 d:Tc (TW E (d+1) 86):=by rw[AEY];exact xp
theorem yVl d:Xw E (TW E (d+2) 74):=by rw[AEf];exact xq (yW8 d) (by decide)
theorem AAN d:Vz E (TW E (d+3) 49):=by rw[AE0];exact lM (ON (d+1)) (yVl d) (by decide)
theorem AAO d:R7 E (TW E (d+4) 23):=by rw[AFJ];exact mB (ON (d+2)) (Yw (d+2)) (UY (d+2)) (kC (d+1)) (j9 (d+1)) (AAQ (d+1)) (AAT (d+1)) (AAN d) (kB (d+2))
theorem tq d:N8 E 600000 (TW E (d+5) 9):=by rw[DE9];exact lN (AAK (d+2)) (AAO d) (by decide)
theorem Kz d:C0 (TW E (d+1) 15):=by rw[AFM];exact mM
theorem UX d:FL (TW E (d+1) 31):=by rw[AFB];exact cZ
theorem Ir d:Fc (TW E (d+1) 16):=by rw[AFL];exact dD
theorem QT d:Ft (TW E (d+2) 14):=by rw[AFN];exact yU (Kz d) (UX d)
theorem Hu d:Di (TW E (d+3) 13):=by rw[AFO];exact cd (QT d) (Kz (d+1)) (Ir (d+1))
theorem NC d:GY (TW E (d+2) 12):=by rw[AFP];exact cr (Kz d) (UX d) (Ir d)
theorem yWh d:Tb (TW E (d+1) 64):=by rw[AEm];exact xl (by decide)
theorem NB d:JA (TW E (d+3) 33):=by rw[AE9];exact mJ (NC d) (yWh (d+1))
theorem kE d:V3 (TW E (d+1) 32):=by rw[AFA];exact oP (by decide)
theorem kD d:SB (TW E (d+4) 66):=by rw[AEk];exact oL (QT (d+1)) (NB d) (Hu d)
theorem AAM d:Vx (TW E (d+5) 65):=by rw[AEl];exact ky (QT (d+2)) (Hu (d+1)) (kD d)
theorem AAR d:V2 (TW E (d+4) 67):=by rw[AEj];exact my (NC (d+1)) (QT (d+1)) (NB d) (Hu d) (by decide)
theorem AAP d:Lx (TW E (d+1) 107):=by rw[tK];exact nK (by decide)
theorem AAL d:Vu (TW E (d+3) 97):=by rw[AEP];exact ka (Kz (d+1)) (QT d) (yWh (d+1)) (UX (d+1)) (Ir (d+1)) (AAP (d+1))
theorem kA{T}(c:Py T) k (e:∀d,Fs T (TW E (k+d+6) 17)):∀d,Fs (O3 T) (TW E (k+d+10) 17):=by
 have f:∀d,KM T (TW E (k+d+7) 81):=λd=>by rw[AEZ];exact XE (NC (k+d+4)) (QT (k+d+4)) (AAL (k+d+3)) (e d)
 have g:∀d,MO T (TW E (k+d+8) 68):=λd=>by rw[AEi];exact TH c (QT (k+d+5)) (Hu (k+d+4)) (f d) (by decide)
 have h:∀d,QP T (TW E (k+d+9) 34):=λd=>by rw[AE8];exact dK (Kz (k+d+7)) (UX (k+d+7)) (QT (k+d+6)) (Ir (k+d+7)) (Hu (k+d+5)) (AAM (k+d+3)) (kD (k+d+4)) (AAR (k+d+4)) (g d) (e (d+2))
 have ty:∀d,Fs (O3 T) (TW E (k+d+10) 17):=λd=>by rw[so];exact Uh c (Kz (k+d+8)) (kE (k+d+8)) (Ir (k+d+8)) (QT (k+d+7)) (NB (k+d+6)) (Hu (k+d+6)) (λ_=>h d)
 exact ty
theorem WU:∀q d,Fs (Jn (q+1)) (TW E (4*q+d+6) 17)
 | 0,d=>by rw[show 4*0+d+6=d+5+1 by omega,so];exact Uh (GM 0) (Kz (d+4)) (kE (d+4)) (Ir (d+4)) (QT (d+3)) (NB (d+2)) (Hu (d+2)) (λh=>absurd h (by decide))
 | q+1,d=>by rw[show 4*(q+1)+d+6=4*q+d+10 by omega];exact kA (GM (q+1)) (4*q) (WU q) d
theorem Yu d:Fs (Jn 18) (TW E (d+74) 17):=by rw[show d+74=4*17+d+6 by omega];exact WU 17 d
theorem Yv d:Lw E 600000 (TW E (d+75) 7):=by rw[DE7];exact Wk (GM 18) (by unfold JN;rfl) (tq (d+69)) (Kz (d+73)) (NC (d+72)) (QT (d+72)) (Ir (d+73)) (Hu (d+71)) (Yu d) rfl (by decide)
theorem AOB d:qc (TW E (d+1) 36):=by rw[APq];exact AH9
theorem AOD d:qe (TW E (d+1) 38):=by rw[APo];exact AIB
theorem AOA d:qb (TW E (d+1) 70):=by rw[APg];exact AH8
theorem AN1 d:qR (TW E (d+2) 35):=by rw[APr];exact vE (AOB d) (by decide)
theorem AN3 d:qT (TW E (d+2) 37):=by rw[APp];exact vH (AOD d) (by decide)
theorem AN0 d:qQ (TW E (d+2) 69):=by rw[APi];exact vD (AOA d) (by decide)
theorem AN6 d:qX (TW E (d+3) 18):=by rw[APv];exact AHY (AN1 d)
theorem AN7 d:qY (TW E (d+3) 19):=by rw[APu];exact AHZ (AN3 d)
theorem AN5 d:qW (TW E (d+3) 39):=by rw[APn];exact AHX (AN0 d)
theorem zBy d:qg (TW E (d+1) 82):=by rw[APe];exact AIE
theorem AN8 d:jn 71 (TW E (d+1) 83):=by rw[APd];exact AHc (by decide)
theorem AN9 d:jn 85 (TW E (d+1) 84):=by rw[APc];exact AHd (by decide)
theorem zVl d:qO (TW E (d+2) 71):=by rw[APf];exact AGu (zBy d) (AN8 d) (AN9 d)
theorem AOE d:qf (TW E (d+3) 41):=by rw[APl];exact AIC (zVl d)
theorem AN4 d:qU (TW E (d+4) 40):=by rw[APm];exact vI (AOE d) (by decide)
theorem AOC d:qd (TW E (d+5) 21):=by rw[APs];exact AIA (AN5 (d+1)) (AN4 d)
theorem AN2 d:qS (TW E (d+6) 20):=by rw[APt];exact vG (AOC d) (by decide)
theorem zMo d:qZ (TW E (d+7) 8):=by rw[DE8];exact AHh (AN6 (d+3)) (AN7 (d+3)) (AN2 d)
theorem xAw d U (c:CI U)(b:KF E U):PD (TW E (d+133) 5) [] U:=by rw[DE5];exact AIV (QV d) U c b
theorem ZH d U s (c:CI U)(b:KF E U):PD (TW E (d+134) 3) [.str s] U:=by rw[DE3];exact vw (QV (d+1)) (Yv (d+58)) (xAw d) (zMo (d+126)) U s c b
end
def E5(a:TypeId):EB:=[(0,.cells (WR EP)),(1,.cells (WR E9)),(3,.cells [.ifc a (.ptr 60 0)])]
theorem OQ a:KF (E5 a) ⟨100,[]⟩:=⟨AL _,rfl,rfl,rfl,rfl⟩
theorem AA6 b:DB Tryz.prog (E5 b) glob 77 (MU lg):=S5 rfl
theorem VN a s:okB (F3 (E5 a) (TW (E5 a) 133) (AZ (E5 a) (TW (E5 a) 133)) 600000 [.str s] ⟨100,[]⟩)=true:=by
 have d:CI ⟨100,[]⟩:=λ_ _=>rfl;obtain⟨U',g,_⟩:=ZH 0 ⟨100,[]⟩ s d (OQ a);have h:F3 (E5 a) (TW (E5 a) 133) (AZ (E5 a) (TW (E5 a) 133)) 600000 [.str s] ⟨100,[]⟩=some (.bool true,U'):=by
  have e:=DE3 (E5 a) 133;rw[e]at g;exact g
 rw[h];rfl
end
end Go.Proofs.YtnpcmeaplmfdlaaGreatDoor
namespace Go.Proofs.YtnpcmeaplmfdlaaGreatDoor
open Go Go.Og Go.Lib
noncomputable section
theorem Lj {W:World} (h:laidMet Tryz.prog [("unicode/utf8.first",tabData .u8 (EP.map AA))] W) i (k:i<256):W.cell? ⟨0,0+i,none⟩=some (.int .u8 (AA (EP.getD i 0))):=by
 have f:=tabIs_of_head (g:=0) (by kernel_rfl) (by kernel_rfl) Tryz.underlying131 Tryz.underlying5 (by kernel_rfl) (by kernel_rfl) h;have l:EP.length=256:=by decide +kernel
 have j:=f.cell (g:=0) (by kernel_rfl) i (by rw[DD];omega);rw[BQ,j];rw[A1,BR,AV (by omega),A1,AV (by omega)];rfl
def oW:DataW Unit := .agg ((Fz 16).map λi => .agg ([AA (E9.getD (2*i) 0),AA (E9.getD (2*i+1) 0)].map λz => .lit (.int .u8 z)))
theorem On {W:World} (h:VarReads Tryz.prog W "unicode/utf8.acceptRanges" oW) i (hi:i<32):W.cell? ⟨1,0+i,none⟩=some (.int .u8 (AA (E9.getD i 0))):=by
  obtain⟨g,t,cs,fuel,p,hg,hty,x,hd⟩:=h;have C:Tryz.prog.globalNamed "unicode/utf8.acceptRanges" = some 1:=by kernel_rfl
  obtain rfl:=AP.inj (C.symm.trans hg);have E:(Tryz.prog.globals[1]?).map (·.type)=some 134:=by kernel_rfl
  obtain rfl:=AP.inj (E.symm.trans hty);have u:Tryz.prog.cellsOf 133=2:=by kernel_rfl
  have A:Tryz.prog.cellsOf 5=1:=by kernel_rfl
  have z:∀k,k<16->cs[2*k]? = some (.int .u8 (AA (E9.getD (2*k) 0)))/\cs[2*k+1]? = some (.int .u8 (AA (E9.getD (2*k+1) 0))):=by
    intro k hk;obtain⟨B,d,q,y,he⟩:=array_elem Tryz.underlying134 hd k hk;simp only[BR,O2 hk,CH,AP.injEq]at y;subst y;rw[u]at he;have v:=ints_of_struct Tryz.underlying133 (λj f o=>by
      match j,o with
      | 0,o=>simp at o;subst o;exact⟨Tryz.underlying5,rfl,A⟩ | 1,o=>simp at o;subst o;exact⟨Tryz.underlying5,rfl,A⟩ | j+2,o=>simp at o) (by rw[u];rfl) he
    have e0:=congrArg (·[0]?) v;have e1:=congrArg (·[1]?) v;simp only[CY,CD]at e0 e1;rw[<-ET,<-ET];constructor
    · simpa[OI]using e0
    · simpa[OI]using e1
  rw[BQ,World.var?_cell hg x i];obtain⟨k,rfl|rfl⟩:∃k,i=2*k\/i=2*k+1:=⟨i / 2,by omega⟩
  · exact(z k (by omega)).1
  · exact(z k (by omega)).2
theorem WZ : "*" ++ "errors.errorString" = "*errors.errorString" := by decide
theorem Y7 u (h:Tryz.prog.typeName? 3 u=some "*errors.errorString"):u=164:=
 typeName_ptr_named (by rw[WZ];kernel_rfl) (by kernel_rfl) (by decide) u (by rw[WZ];exact h)
theorem RJ {W:World}{text} (h:laidMet Tryz.prog [("strconv.ErrRange",.iface "*errors.errorString" (.ptr (.agg [.lit (.string text)])))] W):∃a s,W.cell? ⟨3,0,none⟩=some (.iface 164 (.pointer (some a)))/\W.cell? a=some (.string s):=by
 obtain⟨a,s,i,f,_,_⟩:=laid_sentinel (g:=3) h (by kernel_rfl) (by kernel_rfl) Tryz.underlying117 Y7 Tryz.underlying164 Tryz.underlying166 rfl rfl Tryz.underlying9 (by kernel_rfl) (by kernel_rfl);refine⟨a,s,?_,f⟩;rw[World.var?_cell (by kernel_rfl) i 0];rfl
theorem ABT{w:World}{e off}(h0:∀i,i<256->w.cell? ⟨0,0+i,none⟩=some (.int .u8 (AA (EP.getD i 0))))(h1:∀i,i<32->w.cell? ⟨1,0+i,none⟩=some (.int .u8 (AA (E9.getD i 0))))
  (h3:w.cell? ⟨3,0,none⟩=some (.iface 164 (.pointer (some ⟨e,off,none⟩)))):∀id b,Go.Og.look (E5 164) id=some b->∃i,Ki 7 [(60,⟨e,off,0⟩)] id=some i/\Hb (Ki 7 [(60,⟨e,off,0⟩)]) i b w:=by
 have s:WR EP=(Fz 256).map λi => .int .u8 (AA (EP.getD i 0)):=by kernel_rfl
 have e1:WR E9=(Fz 32).map λi => .int .u8 (AA (E9.getD i 0)):=by kernel_rfl
 have x0:Hb (Ki 7 [(60,⟨e,off,0⟩)]) ⟨0,0,0⟩ (.cells (WR EP)) w:=by rw[s];exact J6 (λi=>⟨rfl,rfl⟩) h0 (by decide)
 have x1:Hb (Ki 7 [(60,⟨e,off,0⟩)]) ⟨1,0,0⟩ (.cells (WR E9)) w:=by rw[e1];exact J6 (λi=>⟨rfl,rfl⟩) h1 (by decide)
 have x3:Hb (Ki 7 [(60,⟨e,off,0⟩)]) ⟨3,0,0⟩ (.cells [.ifc 164 (.ptr 60 0)]) w:=
  J6 (len:=1) (f:=λ_ => .ifc 164 (.ptr 60 0)) (g:=λ_ => .iface 164 (.pointer (some ⟨e,off,none⟩))) (λi=>⟨rfl,rfl⟩) (λi hi=>by
   have:i=0:=by omega
   subst this;exact h3) (by decide)
 intro id b l;unfold E5 at l;simp only[Go.Og.look]at l;split at l
 ·rename_i m
  have:=CJ m;subst this;cases l;exact⟨⟨0,0,0⟩,rfl,x0⟩
 ·split at l
  ·rename_i m
   have:=CJ m;subst this;cases l;exact⟨⟨1,0,0⟩,rfl,x1⟩
  ·split at l
   ·rename_i m
    have:=CJ m;subst this;cases l;exact⟨⟨3,0,0⟩,rfl,x3⟩
   ·cases l
theorem kZ(o:ByteArray)(w:World)(z:∀i,i<256->w.cell? ⟨0,0+i,none⟩=some (.int .u8 (AA (EP.getD i 0))))(v:∀i,i<32->w.cell? ⟨1,0+i,none⟩=some (.int .u8 (AA (E9.getD i 0))))
  {a s} (x:w.cell? ⟨3,0,none⟩=some (.iface 164 (.pointer (some a)))) (m:w.cell? a=some (.string s)):Calls Tryz.prog 3 #[.string o] w λe w'=>e = .returned (.bool true)/\RowKit.Below w.heap.size w w':=by
 obtain⟨n,off,r⟩:=a;obtain rfl:r=none:=by
  cases r with
  | none=>rfl | some q=>
   exfalso;simp[World.cell?]at m;split at m<;>cases m
 exact Q2 (SFl (E5 164) (TW (E5 164) 133) (oa (E5 164) (AA6 164) 133) 600000) nM (by decide:7<=100) [(60,⟨n,off,0⟩)] [.str (BS.ofList o.data.toList)] [.string o] w
  (fun id i h=>by
   simp only[Go.Og.look]at h;split at h
   ·rename_i y
    have:=CJ y;omega
   ·cases h) (ABT z v x) (by simp[BL,BE,BS.toList_ofList]) (VN 164 _)
end
end Go.Proofs.YtnpcmeaplmfdlaaGreatDoor
