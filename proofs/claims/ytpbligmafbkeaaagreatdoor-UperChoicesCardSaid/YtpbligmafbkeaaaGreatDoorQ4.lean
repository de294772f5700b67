/- What the last text leans on, part 5 of 8: merged out of smaller texts. No condition. -/
import Derived.KernelRfl
import Derived.Test.YtpbligmafbkeaaaGreatDoorProg
import Derived.Deep.Slices
import Derived.Carry
import Derived.Test.YtpbligmafbkeaaaGreatDoorQ3
open Int renaming ofNat -> AA,negSucc -> A1,tmod -> EW,natCast_pow -> xZ,fdiv_eq_ediv_of_nonneg -> AJE
open Nat renaming reduceLeDiff -> AB,reduceEqDiff -> AD,reduceLT -> AG,le_refl -> AL,add -> AM,ble -> Am,beq -> Ar,lt_or_ge -> A2,le_trans -> BE,zero_add -> BV,ble_eq -> Bn,blt -> B9,zero_le -> CA,mul_one -> CB,eq_of_beq_eq_true -> CJ,blt_eq -> Co,lt_succ_self -> DK,add_sub_cancel_left -> DL,mod_eq_of_lt -> Dn,lt_irrefl -> Dp,sub_self -> Ec,lt_of_lt_of_le -> Eh,le_succ -> El,le_add_right -> FT,min -> Ga,beq_refl -> Gb,min_eq_left -> Ha,mod_lt -> Jr,pow_succ -> NI,mul -> NJ,testBit_or -> WW,pow_pos -> nO,add_mul -> nP,max_eq_left -> xX,mul_comm -> ABv,add_zero -> ABw,testBit_two_pow_self -> AY0
open List renaming getElem?_eq_getElem -> AI,getElem?_eq_some_iff -> AN,length_append -> AP,mem_cons_self -> AZ,length_cons -> Ag,getElem?_map -> As,getElem?_append_right -> Aw,mem_cons_of_mem -> Az,mem_cons -> A0,getElem?_eq_none -> A4,append_assoc -> BC,getD_eq_getElem?_getD -> BK,append_nil -> BP,eq_nil_of_length_eq_zero -> Ba,length_map -> Bp,mem_singleton -> B5,getElem?_drop -> B6,mem_append -> CN,range -> CW,drop_drop -> Cd,map_cons -> C7,drop_eq_getElem_cons -> Db,all_eq_true -> EA,mem_range -> EV,drop_zero -> E7,not_mem_nil -> FU,mem_map -> Fb,getElem_mem -> Gg,getElem?_take -> G0,nil_append -> Hb,ext_getElem? -> Hp,take_length -> Iz,drop_eq_nil_of_le -> Jt,mem_of_mem_drop -> nQ,forall_mem_cons -> nS
open Bool renaming and_eq_true -> AQ,and_true -> Bz,or_eq_false_iff -> CX,false_or -> Fc,not_eq_true -> fA
open Option renaming some -> AY,map_eq_some_iff -> Aa,map_some -> Cl
open And renaming intro -> Ad
open BitVec renaming ofInt -> BY
set_option linter.all false
set_option maxRecDepth 100000
set_option maxHeartbeats 0
namespace Go.Proofs.YtpbligmafbkeaaaGreatDoor
open Go Go.Og
noncomputable section
variable (E:EB) (D:Ac) (W:AF) (N:Nat)
def ft:List (Nat × Cc):=[(0,.any),(3,.o),(5,.any),(6,.i),(7,.i)]
def LX:List (Nat × Cc):=[(0,.any),(3,.o),(5,.any),(6,.i)]
def XB:List (Nat × Cc):=[(0,.any),(3,.o)]
def wJ:List BO:=[⟨(some 59),.C 11 (.tmp 3),none⟩,⟨(some 60),.load none (.tmp 59),none⟩,⟨(some 61),.un .not (.tmp 60),none⟩,⟨(some 62),.L (.tmp 61),none⟩,⟨(some 63),.L (.tmp 0),(some (62,false))⟩,⟨(some 64),.C 9 (.tmp 3),(some (62,false))⟩,⟨(some 65),.load none (.tmp 64),(some (62,false))⟩,⟨(some 66),.load (some 13) (.tmp 3),(some (62,false))⟩,⟨(some 67),.call 183 [(.tmp 66)],(some (62,false))⟩,⟨(some 68),.sliceSl 11 (.tmp 65) (some (.tmp 67)) none none,(some (62,false))⟩,⟨(some 69),.call 181 [(.tmp 63),(.tmp 68),(.T (V.bool true))],(some (62,false))⟩,⟨(some 70),.pick (.tmp 62) (.T (V.bool true)) (.tmp 69),none⟩,⟨(some 4),.L (.tmp 70),none⟩]
def wH:List DP:=[⟨0,[3]⟩,⟨1,[59]⟩,⟨3,[60]⟩,⟨7,[61]⟩,⟨15,[0,62]⟩,⟨15,[3,62]⟩,⟨47,[64,62]⟩,⟨15,[3,62]⟩,⟨143,[66,62]⟩,⟨495,[65,67,62]⟩,⟨1023,[63,68,62]⟩,⟨2047,[62,69]⟩,⟨4095,[70]⟩]
def Fk(E:EB):St->AE:=λs=>Dc E s [(.tmp 4)] λl=>some (Dq l,s.U)
def rO(c0 a:XC)(b:St->AE):Nat->St->AE:=BR 1 (dX E D W N (.Q LX [] [] c0) (kX LX [] [] b) (BR 0 (dX E D W N (.Q XB [] [] a) (Fk E) nX (Fk E)) nX) (Fk E)) (BR 0 (dX E D W N (.Q XB [] [] a) (Fk E) nX (Fk E)) nX)
def gv(c0:XC):Nat->St->AE:=BR 0 (dX E D W N (.Q XB [] [] c0) (Fk E) nX (Fk E)) nX
def AMZ(c0 b a:XC)(c:St->AE):Nat->St->AE:=BR 2 (dX E D W N (.Q ft [] [] c0) (dX E D W N (.Q LX [] [] b) (kX LX [] [] c) (gv E D W N a) (Fk E)) (rO E D W N b a c) (Fk E)) (rO E D W N b a c)
def xJ(b:XC)(a:XC):XC:=(.z (.P 3 (.box 113 (.t 1))<|
 .aX 4 y2)
 (.seq (.z (.aW 8 0 3 7<|
 .nil)
 (.cond (.tmp 10) (.z (.m 11 0<|
 .aA 12 9 3 .any<|
 .aA 14 11 3 .bool<|
 .k 16 .bool 181 [(.t 11),(.t 13),(.t 15)]<|
 .aG 4 16)
 .ret)
 .skip))
 (.z (.O 17 y1 (.load (some 13) (.t 3))<|
 .k 18 .S 182 [(.t 17)]<|
 .aG 5 18)
 (.seq (.z (.aL 6 0)
 (.block 0 (.loop LX [] [] a)))
 (.Q XB [] [] b)))))
def Ug(E:EB)(D:Ac)(W:AF)(K2:V->Nat->Nat->V->Int->H->AE)(a:V)(b:Int)(c:V)(d e f g:Bool)(h i:Int)(j k:V)(l:Int)(m:Bool)(o:Int)(U:H):AE:=
 Ht (eN b c d e f g h i j k l m o) U λn=>
 lI E n (H.j U) 0 λp=>
 AK (not (B8 p (AA 7))) (
 DF E n (H.j U) 9 λp=>
 lB E n (H.j U) 11 λq=>
 cB (D 181 [a,p,.bool q] n) λp q=>
 rB p q) (
 Bv E n (H.j U) 0 13 λp=>
 uN p λp q r s t u v w x y z A B=>
 CD (D 182 [.agg (eN p q r s t u v w x y z A B)] n) λn p=>
 CI n (
 K2 a (H.j U) 0 n (AA 0) p))
def IL:XC:=(.seq (.Q XB [] [] (.wl wJ wH [(4,.bool)]))
 .ret)
def AF2(E:EB)(D:Ac)(W:AF)(a:V)(b c:Nat)(U:H):AE:=
 CM (W wJ wH [(0,a),(3,.o b c)] U) λd e=>
 Bj d 4 λd=>
 DB d λd=>
 rB d e
def WC(b:XC)(c:XC)(a:XC):XC:=(.seq (.z (.m 19 6<|
 .aP 20 9 3<|
 .aE 23 19 22)
 (.cond (.tmp 23) .skip
 LM))
 (.seq (.block 1 (.seq (.z (.bL 26 5 6 1 .bool<|
 .bK 30 29)
 (.cond (.tmp 30) (.exit 1)
 .skip))
 (.z (.m 31 6<|
 .aC 32 31 1 7)
 (.seq (.block 2 (.loop ft [] [] a))
 (.Q ft [] [] c)))))
 (.Q LX [] [] b)))
def AF1(E:EB)(D:Ac)(W:AF)(K1:V->Nat->Nat->H->AE)(h:V->Nat->Nat->V->Int->H->AE)(K5:V->Nat->Nat->V->Int->Int->H->AE)(a:V)(b c:Nat)(d:V)(e:Int)(U:H):AE:=
 lL E U b (AM c 9) λf=>
 AK (C5 e (AA f)) (
 AS 1 d e λf g=>
 lB E U f g λf=>
 AK (not f) (
 h a b c d e U) (
 K5 a b c d e (BQ .i64 e (AA 1)) U)) (
 K1 a b c U)
def IK:XC:=(.Y (.m 24 6<|
 .aC 25 24 1 6))
def AF0(E:EB)(D:Ac)(W:AF)(f:V->Nat->Nat->V->Int->H->AE)(a:V)(b c:Nat)(d:V)(e:Int)(U:H):AE:=
 f a b c d (BQ .i64 e (AA 1)) U
def Kl:XC:=(.z (.m 46 0<|
 .aA 47 9 3 .any<|
 .aB 49 6 7<|
 .b 51 .add .none (.t 50) (.i 1)<|
 .aP 52 9 3<|
 .p 55 [51,54] (.min (.t 51) [(.t 54)])<|
 .p 56 [48,49,55] (.sliceSl 11 (.t 48) (some (.t 49)) (some (.t 55)) none)<|
 .k 57 .bool 181 [(.t 46),(.t 56),(.T y2)]<|
 .bK 58 57)
 (.cond (.tmp 58) (.z (.aX 4 y2)
 .ret)
 .skip))
def AFz(E:EB)(D:Ac)(W:AF)(i:V->Nat->Nat->V->Int->H->AE)(a:V)(b c:Nat)(d:V)(e f:Int)(U:H):AE:=
 DF E U b (AM c 9) λg=>
 lL E U b (AM c 9) λh=>
 gK (CT 11 g (some (V.int .i64 e)) (some (V.int .i64 (G8 (BQ .i64 f (AA 1)) (AA h)))) none) λg=>
 cB (D 181 [a,g,.bool false] U) λg h=>
 AK (not g) (
 rB false h) (
 i a b c d e h)
def N6:XC:=(.seq (.z (.m 33 7<|
 .aP 34 9 3<|
 .b 37 .lss .none (.t 33) (.t 36)<|
 .m 38 37<|
 .gA 38 true (.p 39 [5,38] nj<|
 .aR 40 7 38 7 39 38 1 39<|
 .op (some 42) .bool [41,38] (.load none (.t 41))<|
 .nil) 43 38 42<|
 .nil)
 (.cond (.tmp 43) .skip
 (.exit 2)))
 (.block 3 (.Y (.m 44 7<|
 .aC 45 44 1 7))))
def AFy(E:EB)(D:Ac)(W:AF)(j:V->Nat->Nat->V->Int->Int->H->AE)(k:V->Nat->Nat->V->Int->Int->H->AE)(a:V)(b c:Nat)(d:V)(e f:Int)(U:H):AE:=
 lL E U b (AM c 9) λg=>
 Ax (λh i=>
 AK h (
 k a b c d e (BQ .i64 f (AA 1)) i) (
 j a b c d e f i)) λh=>
 AK (C5 f (AA g)) (
 AS 1 d f λg i=>
 lB E U g i λg=>
 h g U) (
 h false U)
def AGd(a:V)(b:Int)(c:V)(d e f g:Bool)(h i:Int)(j k:V)(l:Int)(m:Bool)(o:Int)(U:H):St:=⟨[(0,a),(1,.agg [.int .i64 b,c,.bool d,.bool e,.bool f,.bool g,.int .i64 h,.int .i64 i,j,k,.int .i64 l,.bool m,.int .i64 o])],[],[],U⟩
def RV(a:V)(b c:Nat)(d:V)(e:Int)(U:H):St:=⟨[(0,a),(3,.o b c),(5,d),(6,.int .i64 e)],[],[],U⟩
def tt(a:V)(b c:Nat)(d:V)(e f:Int)(U:H):St:=⟨[(0,a),(3,.o b c),(5,d),(6,.int .i64 e),(7,.int .i64 f)],[],[],U⟩
def AIO(E:EB)(D:Ac)(W:AF)(N:Nat):=AF2 E D W
def Vn(E:EB)(D:Ac)(W:AF)(N:Nat)(a:V->Nat->Nat->V->Int->H->AE):=AF0 E D W a
theorem jW h:
 (λa b c d e U=>Au E D W N IK (RV a b c d e U) (kX LX [] [] h) (gv E D W N IL) (Fk E))=Vn E D W N (λa b c d e U=>h (RV a b c d e U)):=by
 unfold Vn;generalize IL=m;revert m;refine id ?_;intros;kernel_rfl
def dj(a:V->Nat->Nat->V->Int->H->AE):=AFz E D W (Vn E D W N a)
theorem ABE i:
 (λa b c d e f U=>Au E D W N Kl (tt a b c d e f U) (dX E D W N (.Q LX [] [] IK) (kX LX [] [] i) (gv E D W N IL) (Fk E)) (rO E D W N IK IL i) (Fk E))=dj E D W N (λa b c d e U=>i (RV a b c d e U)):=by
 unfold dj;rw[<-jW];generalize IL=n,IK=o;revert n o;refine id ?_;intros;kernel_rfl
def vA(b:V->Nat->Nat->V->Int->H->AE)(n:Nat):V->Nat->Nat->V->Int->Int->H->AE:=
 Nat.rec (λ_ _ _ _ _ _ _=>none) (λ_ a=>AFy E D W (dj E D W N b) a) n
theorem AAe i n:
 (λa b c d e f U=>BM (λm p=>Au E D W N N6 p (kX ft [] [] m) (AMZ E D W N Kl IK IL i) (Fk E)) n (tt a b c d e f U))=vA E D W N (λa b c d e U=>i (RV a b c d e U)) n:=zH (λt=>by rw[<-ABE];generalize IL=o,IK=q,Kl=r;revert o q r;refine id ?_;intros;kernel_rfl) n
def dN(n:Nat):V->Nat->Nat->V->Int->H->AE:=
 Nat.rec (λ_ _ _ _ _ _=>none) (λ_ a=>AF1 E D W (AIO E D W N ) (Vn E D W N a) (vA E D W N a N)) n
theorem AAf n:
 (λa b c d e U=>BM (λk m=>Au E D W N (WC IK Kl N6) m (kX LX [] [] k) (gv E D W N IL) (Fk E)) n (RV a b c d e U))=dN E D W N n:=lp6 (λr=>by rw[<-jW,<-AAe];generalize IK=l,Kl=o,N6=p;revert l o p;refine id ?_;intros;kernel_rfl) n
def dn:=Ug E D W (dN E D W N N)
theorem ABF:
 (λa b c d e f g h i j k l m o U=>Au E D W N (xJ IL (WC IK Kl N6)) (AGd a b c d e f g h i j k l m o U) (Fk E) nX (Fk E))=dn E D W N:=by
 unfold dn;rw[<-AAf];generalize WC IK Kl N6=u,IL=v;revert u v;refine id ?_;intros;kernel_rfl
def m8(args:List V)(U:H):AE:=
 Ab args λa b=>
 Ab b λb c=>
 Cp b λb=>
 uN b λb d e f g h i j k l m n o=>
 Ay c (
 dn E D W N a b d e f g h i j k l m n o U)
def AYU:DD:=⟨71,[.any,y1],[(.tmp 4)],(xJ IL (WC IK Kl N6))⟩
theorem APo args U:BZ E D W N AYU args U=m8 E D W N args U:=by
 unfold m8;rw[<-ABF];kernel_rfl
def AIn:XC:=(.z (.P 2 (.box 31 (.t 0))<|
 .aS 4)
 (.z (.aA 6 3 2 .any<|
 .op (some 8) (.agg [.any]) [7] (.build [V.h] [(0,1,(.t 7))])<|
 .P 9 (.box 244 (.t 8))<|
 .m 5 9<|
 .nil)
 (.z (.bG 10 5 1 .S 187<|
 .m 4 12<|
 .nil)
 .ret)))
def ay(E:EB)(D:Ac)(W:AF)(a:BS)(b c d:V)(e:Int)(U:H):AE:=
 Ht (eA a b c d) U λf=>
 DF E f (H.j U) 3 λg=>
 H9 [(0,1,g)] [V.h] λg=>
 Ab g λg h=>
 Ay h (
 Ht [g] f λg=>
 CD (D 187 [.o (H.j f) 0,.int .i64 e] g) λf g=>
 CI f (
 some (f,g)))
def wU(N:Nat)(args:List V)(U:H):AE:=
 Ab args λa b=>
 Cp a λa=>
 uA a λa c d e=>
 D3 .i64 b λb f=>
 Ay f (
 ay E D W a c d e b U)
def AYT:DD:=⟨13,[y6,.i],[(.tmp 4)],AIn⟩
theorem APn args U:BZ E D W N AYT args U=wU E D W N args U:=by kernel_rfl
def AIm:XC:=(.z (.aL 2 0)
 (.z (.cH 3 0 32 0<|
 .m 2 5<|
 .nil)
 .ret))
def tI(E:EB)(D:Ac)(W:AF)(a:Int)(U:H):AE:=
 rI (Gr (AA 0) (G8 a (AA 32))) U
def wT(N:Nat)(args:List V)(U:H):AE:=
 D3 .i64 args λa b=>
 Ay b (
 tI E D W a U)
def AYS:DD:=⟨6,[.i],[(.tmp 2)],AIm⟩
theorem APm args U:BZ E D W N AYS args U=wT E D W N args U:=by kernel_rfl
def AIl(a:XC):XC:=(.seq (.z (.bU 4 0)
 (.cond (.tmp 5) .ret
 .skip))
 (.seq (.z (.aI 6 0<|
 .aA 8 1 7 .i<|
 .b 10 .rem .none (.t 9) (.i 8)<|
 .cI 11 10 0)
 (.cond (.tmp 11) (.Y (.aB 12 0 0<|
 .n 14 13<|
 .aA 15 0 14 .any<|
 .p 17 [] y13<|
 .O 18 .S (.append 5 1 1 (.t 16) (.t 17))<|
 .n 19 12<|
 .bC 20 0 19 1 18))
 .skip))
 (.Q [(0,.any),(1,.i)] [] [] a)))
def Q6(E:EB)(D:Ac)(W:AF)(K1:V->Int->H->AE)(a:V)(b:Int)(U:H):AE:=
 Zh .o a V.nilp λc=>
 AK c (
 r0 U) (
 BL a λc d=>
 lI E U c (AM d 1) λc=>
 AK (B8 (EW c (AA 8)) (AA 0)) (
 BL a λc d=>
 DF E U c d λc=>
 let d:=Cb U (.cells [.int .u8 (AA 0)]);
 Dx E 1 1 c (V.D (H.j U) 0 1 (.ex 1)) d λc d=>
 CI c (
 BL a λe f=>
 DO 1 e f c d λc=>
 K1 a b c)) (
 K1 a b U))
def AIk(a:XC):XC:=(.seq (.z (.bX 21 1 0)
 (.cond (.tmp 22) (.us (.bT 23 0 0<|
 .aI 27 0<|
 .aA 29 1 28 .i<|
 .b 31 .quo .none (.t 30) (.i 8)<|
 .s 32 1 26 31<|
 .l 33 (.int .u8) 32<|
 .aI 34 0<|
 .aA 36 1 35 .i<|
 .b 38 .rem .none (.t 37) (.i 8)<|
 .b 39 .shr .none (.T (V.int .u8 (AA 128))) (.t 38)<|
 .b 40 .or .none (.t 33) (.t 39)<|
 .s 41 1 26 31<|
 .w 1 41 40<|
 .nil) [0,1,3,7,0,16,48,112,240,511,1023,0,2048,6144,14336,30720,63488,131071,262143,524287])
 .skip))
 (.Q [(0,.any)] [] [] a))
def Q5(E:EB)(D:Ac)(W:AF)(K2:V->H->AE)(a:V)(b:Int)(U:H):AE:=
 AK (not (B8 b (AA 0))) (
 BL a λc d=>
 DF E U c d λc=>
 BL a λd e=>
 lI E U d (AM e 1) λd=>
 iY E U 1 c (NQ .i64 d (AA 8)) λe=>
 DZ .u8 e λe=>
 BL a λf g=>
 lI E U f (AM g 1) λf=>
 T7 (EW f (AA 8)) λf=>
 AS 1 c (NQ .i64 d (AA 8)) λc d=>
 DO 1 c d (V.int .u8 (orF .u8 e (J0 .u8 (AA 128) f))) U λc=>
 K2 a c) (
 K2 a U)
def AIj:XC:=(.Y (.aI 42 0<|
 .aA 44 1 43 .i<|
 .b 46 .add .none (.t 45) (.i 1)<|
 .n 47 42<|
 .bC 48 1 47 1 46))
def aw(E:EB)(D:Ac)(W:AF)(a:V)(U:H):AE:=
 BL a λb c=>
 lI E U b (AM c 1) λb=>
 BL a λc d=>
 DO 1 c (AM d 1) (V.int .i64 (BQ .i64 b (AA 1))) U λb=>
 r0 b
def AIM(E:EB)(D:Ac)(W:AF)(N:Nat):=aw E D W
def AIN:=Q5 E D W (AIM E D W N )
def wS(args:List V)(U:H):AE:=
 uB args λa b=>
 Q6 E D W (AIN E D W N ) a b U
def AYR:DD:=⟨49,[.any,.i],[],(AIl (AIk AIj))⟩
theorem APl args U:BZ E D W N AYR args U=wS E D W N args U:=by kernel_rfl
def AIi(a:XC):XC:=(.z (.aL 2 0)
 (.seq (.z (.m 3 0<|
 .b 4 .geq .none (.t 3) (.T (V.int .u64 (AA 4294967296)))<|
 .nil)
 (.cond (.tmp 4) (.z (.m 5 0<|
 .b 6 .shr .none (.t 5) (.T (V.int .u64 (AA 32)))<|
 .m 0 6<|
 .nil)
 (.Y (.aL 2 32)))
 .skip))
 (.Q [(0,(.int .u64)),(2,.i)] [] [] a)))
def AFx(E:EB)(D:Ac)(W:AF)(K1:Int->Int->H->AE)(a:Int)(U:H):AE:=
 AK (HL (AA 4294967296) a) (
 K1 (J0 .u64 a 32) (AA 32) U) (
 K1 a (AA 0) U)
def AIh(a:XC):XC:=(.seq (.z (.m 7 0<|
 .b 8 .geq .none (.t 7) (.T (V.int .u64 (AA 65536)))<|
 .nil)
 (.cond (.tmp 8) (.z (.m 9 0<|
 .b 10 .shr .none (.t 9) (.T (V.int .u64 (AA 16)))<|
 .aG 0 10)
 (.Y (.m 11 2<|
 .b 12 .add .none (.t 11) (.i 16)<|
 .aG 2 12)))
 .skip))
 (.Q [(0,(.int .u64)),(2,.i)] [] [] a))
def AFw(E:EB)(D:Ac)(W:AF)(K2:Int->Int->H->AE)(a b:Int)(U:H):AE:=
 AK (HL (AA 65536) a) (
 K2 (J0 .u64 a 16) (BQ .i64 b (AA 16)) U) (
 K2 a b U)
def AIg(a:XC):XC:=(.seq (.z (.m 13 0<|
 .b 14 .geq .none (.t 13) (.T (V.int .u64 (AA 256)))<|
 .nil)
 (.cond (.tmp 14) (.z (.m 15 0<|
 .b 16 .shr .none (.t 15) (.T (V.int .u64 (AA 8)))<|
 .aG 0 16)
 (.Y (.m 17 2<|
 .aC 18 17 8 2)))
 .skip))
 (.Q [(0,(.int .u64)),(2,.i)] [] [] a))
def AFv(E:EB)(D:Ac)(W:AF)(c:Int->Int->H->AE)(a b:Int)(U:H):AE:=
 AK (HL (AA 256) a) (
 c (J0 .u64 a 8) (BQ .i64 b (AA 8)) U) (
 c a b U)
def AIf:XC:=(.z (.aB 19 2 0<|
 .P 21 (.i7 (.jp .u8) (.t 20))<|
 .P 22 (.idxStr (.T (V.N ⟨256,1013866857139168856493015739252390649739422828853819106890363778118420553376247557433637691341895324351018602695588957474325319502760499485336098898398377509666851054660423406800006203933793007272033180812049178612605246075062580585469430410618860250057463399279570354286669047577758927328864388992123306212451509403152394148136105363817402562688186708175358218852349079190158732807302672745370040257219644697201681238697346923541678507645485296520536209706771857694240900605172937619415410180424934769249448772944216470541052485265558808433676546390051204254346932932316488017972311616136051587427851453983453479168⟩)) (.t 21))<|
 .P 23 (.i7 (.jp .i64) (.t 22))<|
 .b 24 .add .none (.t 19) (.t 23)<|
 .aG 2 24)
 .ret)
def AFu(E:EB)(D:Ac)(W:AF)(a b:Int)(U:H):AE:=
 C8 (BS.mk 256 1013866857139168856493015739252390649739422828853819106890363778118420553376247557433637691341895324351018602695588957474325319502760499485336098898398377509666851054660423406800006203933793007272033180812049178612605246075062580585469430410618860250057463399279570354286669047577758927328864388992123306212451509403152394148136105363817402562688186708175358218852349079190158732807302672745370040257219644697201681238697346923541678507645485296520536209706771857694240900605172937619415410180424934769249448772944216470541052485265558808433676546390051204254346932932316488017972311616136051587427851453983453479168) (An .u8 a) λc=>
 rI (BQ .i64 b (An .i64 c)) U
def AIJ(E:EB)(D:Ac)(W:AF)(N:Nat):=AFu E D W
def AIK:=AFv E D W (AIJ E D W N )
def AIL:=AFw E D W (AIK E D W N )
def wR(args:List V)(U:H):AE:=
 D3 .u64 args λa b=>
 Ay b (
 AFx E D W (AIL E D W N ) a U)
def AYQ:DD:=⟨25,[(.int .u64)],[(.tmp 2)],(AIi (AIh (AIg AIf)))⟩
theorem APk args U:BZ E D W N AYQ args U=wR E D W N args U:=by kernel_rfl
def AIe:XC:=(.Y (.aB 4 0 0<|
 .u 6 5<|
 .m 7 1<|
 .bD 8 y8 188 4 6 7))
def au(E:EB)(D:Ac)(W:AF)(a b:V)(U:H):AE:=
 Ao a λc=>
 c0 (D 188 [a,.int .i64 (AA c),b] U) λc=>
 r0 c
def wQ(N:Nat)(args:List V)(U:H):AE:=
 uH args λa b=>
 au E D W a b U
def AYP:DD:=⟨9,nU,[],AIe⟩
theorem APj args U:BZ E D W N AYP args U=wQ E D W N args U:=by kernel_rfl
def AId:XC:=(.z (.aX 2 y2)
 (.z (.aB 3 0 0<|
 .b 5 .neq .none (.t 3) (.t 4)<|
 .m 2 5<|
 .nil)
 .ret))
def al(E:EB)(D:Ac)(W:AF)(a:Int)(U:H):AE:=
 rB (not (B8 a a)) U
def wP(N:Nat)(args:List V)(U:H):AE:=
 D3 .i64 args λa b=>
 Ay b (
 al E D W a U)
def AYO:DD:=⟨6,[.i],[(.tmp 2)],AId⟩
theorem APi args U:BZ E D W N AYO args U=wP E D W N args U:=by kernel_rfl
def fq:List (Nat × Cc):=[(0,.o),(1,.any),(2,.bool),(7,.any),(8,.i)]
def Nw:List BO:=[⟨(some 33),.L (.tmp 7),none⟩,⟨(some 34),.L (.tmp 0),none⟩,⟨(some 35),.rg (.tmp 34),none⟩,⟨(some 36),.C 5 (.tmp 35),none⟩,⟨(some 37),.load none (.tmp 36),none⟩,⟨(some 38),.L (.tmp 1),none⟩,⟨(some 39),.L (.tmp 8),none⟩,⟨(some 40),.qr 11 (.tmp 38) (.tmp 39),none⟩,⟨(some 41),.C 1 (.tmp 40),none⟩,⟨(some 42),.load none (.tmp 41),none⟩,⟨(some 43),.call 191 [(.tmp 37),(.tmp 42)],none⟩,⟨(some 44),.buildSlice 107 1 [V.h] [(0,1,(.tmp 43))],none⟩,⟨(some 45),.append 107 1 24 (.tmp 33) (.tmp 44),none⟩,⟨(some 7),.L (.tmp 45),none⟩]
def Ri:List DP:=[⟨0,[7]⟩,⟨0,[0]⟩,⟨2,[34]⟩,⟨6,[35]⟩,⟨14,[36]⟩,⟨0,[1]⟩,⟨0,[8]⟩,⟨96,[38,39]⟩,⟨224,[40]⟩,⟨480,[41]⟩,⟨1022,[37,42]⟩,⟨2046,[43]⟩,⟨4095,[33,44]⟩,⟨8191,[45]⟩]
def Ro(E:EB):St->AE:=λs=>Dc E s [(.tmp 6)] λl=>some (Dq l,s.U)
def AMY(c0:XC):Nat->St->AE:=BR 0 (dX E D W N (.Q [(7,.any)] [] [] c0) (Ro E) nX (Ro E)) nX
def xI(b:XC)(a:XC):XC:=(.z (.aX 6 y2)
 (.z (.aS 7)
 (.seq (.z (.aL 8 0)
 (.block 0 (.loop fq [] [] a)))
 (.Q [(7,.any)] [] [] b))))
def UZ(E:EB)(D:Ac)(W:AF)(K2:Nat->Nat->V->Bool->V->Int->H->AE)(a b:Nat)(c:V)(d:Bool)(U:H):AE:=
 K2 a b c d V.h (AA 0) U
def WB:XC:=(.z (.cG 46 7 .bool 192<|
 .aG 6 47)
 .ret)
def Z9(E:EB)(D:Ac)(W:AF)(a:V)(U:H):AE:=
 cB (D 192 [a] U) λb c=>
 rB b c
def WA:XC:=(.seq (.z (.aB 9 8 1<|
 .u 11 10<|
 .aE 12 9 11)
 (.cond (.tmp 12) .skip
 LM))
 (.seq (.block 1 (.seq (.seq (.us (.bT 15 0 5<|
 .aB 19 1 8<|
 .s 21 11 19 20<|
 .aA 22 1 21 .i<|
 .k 24 .bool 190 [(.t 18),(.t 23)]<|
 .m 25 24<|
 .gA 25 true (.p 26 [2,25] (.L (.t 2))<|
 .p 27 [26,25] (.L (.t 26))<|
 .grp 27 false (.p 28 [1,27] LU<|
 .p 29 [28,27] (.len false (.t 28))<|
 .bJ 30 29 27 29 1) 31 [27,30,25] (.t 27) We (.t 30)<|
 .nil) 32 25 31<|
 .nil) [0,1,3,7,0,0,48,112,240,511,1023,2047,4095,8191,16383,32767,65535,131071])
 (.cond (.tmp 32) (.z (.aX 6 y2)
 .ret)
 .skip))
 (.Q fq [] [] (.wl Nw Ri fq))))
 (.Y (.m 13 8<|
 .aC 14 13 1 8))))
def Q4(K1:V->H->AE)(p:Nat->Nat->V->Bool->V->Int->H->AE)(a b:Nat)(c:V)(d:Bool)(e:V)(f:Int)(U:H):AE:=
 Ao c λg=>
 AK (C5 f (AA g)) (
 DF E U a (AM b 5) λg=>
 AS 11 c f λh i=>
 lI E U h (AM i 1) λh=>
 cB (D 190 [g,.int .i64 h] U) λg h=>
 Ax (λi j=>
 AK i (
 rB false j) (
 CM (W Nw Ri [(0,.o a b),(1,c),(2,.bool d),(7,e),(8,.int .i64 f)] j) λi j=>
 Bj i 0 λk=>
 BL k λk l=>
 Bj i 1 λm=>
 Bj i 2 λn=>
 DB n λn=>
 Bj i 7 λo=>
 Bj i 8 λi=>
 DZ .i64 i λi=>
 p k l m n o (BQ .i64 i (AA 1)) j)) λi=>
 AK g (
 Ax (λg j=>
 i g j) λg=>
 AK d (
 g true h) (
 Ao c λj=>
 g (C5 (AA 1) (AA j)) h)) (
 i false h)) (
 K1 e U)
def AGc(a b:Nat)(c:V)(d:Bool)(U:H):St:=⟨[(0,.o a b),(1,c),(2,.bool d)],[],[],U⟩
def AGb(a b:Nat)(c:V)(d:Bool)(e:V)(f:Int)(U:H):St:=⟨[(0,.o a b),(1,c),(2,.bool d),(7,e),(8,.int .i64 f)],[],[],U⟩
def AII(E:EB)(D:Ac)(W:AF)(N:Nat):=Z9 E D W
def Ve(n:Nat):Nat->Nat->V->Bool->V->Int->H->AE:=
 Nat.rec (λ_ _ _ _ _ _ _=>none) (λ_ a=>Q4 E D W (AII E D W N ) a) n
theorem AAd n:
 (λa b c d e f U=>BM (λh i=>Au E D W N WA i (kX fq [] [] h) (AMY E D W N WB) (Ro E)) n (AGb a b c d e f U))=Ve E D W N n:=zH (λ_=>by kernel_rfl) n
def di:=UZ E D W (Ve E D W N N)
theorem ABD:
 (λa b c d U=>Au E D W N (xI WB WA) (AGc a b c d U) (Ro E) nX (Ro E))=di E D W N:=by
 unfold di;rw[<-AAd];generalize WB=k,WA=l;revert k l;refine id ?_;intros;kernel_rfl
def mz(args:List V)(U:H):AE:=
 uAM args λa b c d=>
 di E D W N a b c d U
def AYN:DD:=⟨48,[.o,.any,.bool],[(.tmp 6)],(xI WB WA)⟩
theorem APh args U:BZ E D W N AYN args U=mz E D W N args U:=by
 unfold mz;rw[<-ABD];kernel_rfl
def AIc:XC:=(.z (.aS 4)
 (.z (.p 5 [] (.alloc 107 [V.h])<|
 .nil)
 (.z (.p 6 [] (.alloc 3 [y0])<|
 .op none .any [6] (.store 1 (.t 6) (.i 300))<|
 .nil)
 (.z (.aB 7 0 1<|
 .p 9 [5] (.mkfn 196 [] [(.t 5)])<|
 .k 10 y8 195 [(.t 7),(.t 8),(.t 6),(.t 9)]<|
 .nil)
 (.z (.l 11 .any 5<|
 .m 4 11<|
 .nil)
 .ret)))))
def Z8(E:EB)(D:Ac)(W:AF)(a:V)(b:Int)(U:H):AE:=
 let c:=Cb U (.cells [V.h]);
 let d:=Cb c (.cells [iN 0]);
 DO 1 (H.j c) 0 (iN 300) d λd=>
 c0 (D 195 [a,.int .i64 b,.o (H.j c) 0,.fn 196 [] [.o (H.j U) 0]] d) λc=>
 DF E c (H.j U) 0 λd=>
 some (d,c)
def wO(N:Nat)(args:List V)(U:H):AE:=
 uB args λa b=>
 Z8 E D W a b U
def AYM:DD:=⟨12,[.any,.i],[(.tmp 4)],AIc⟩
theorem APg args U:BZ E D W N AYM args U=wO E D W N args U:=by kernel_rfl
def fp:List (Nat × Cc):=[(0,.any),(1,.i),(2,.any),(6,.i),(7,.i),(8,.i)]
def fm:List (Nat × Cc):=[(0,.any),(1,.i),(2,.any),(6,.i),(7,.i)]
def OP:List (Nat × Cc):=[(0,.any),(1,.i),(2,.any),(6,.i)]
def GC(E:EB):St->AE:=λs=>Dc E s [] λl=>some (Dq l,s.U)
def AMX(c0:XC)(a:St->AE):Nat->St->AE:=BR 4 (dX E D W N (.Q fm [] [] c0) (kX OP [] [] a) (BR 3 (kX OP [] [] a) (BR 2 (GC E) nX)) (GC E)) (BR 3 (kX OP [] [] a) (BR 2 (GC E) nX))
def AMW(c0:XC):Nat->St->AE:=BR 0 (dX E D W N (.Q fm [] [] c0) (GC E) nX (GC E)) nX
def xH(b:XC)(a:XC):XC:=(.z (.aL 6 20)
 (.z (.m 10 6<|
 .q 7 0<|
 .bV 8)
 (.seq (.block 0 (.loop fp [] [] a))
 (.Q fm [] [] b))))
def AFt(E:EB)(D:Ac)(W:AF)(K2:V->Int->V->Int->Int->Int->H->AE)(a:V)(b:Int)(c:V)(U:H):AE:=
 K2 a b c (AA 20) (AA 0) (AA 20) U
def N5(a:XC):XC:=(.z (.aB 23 0 7<|
 .aB 25 1 2<|
 .k 27 y8 197 [(.t 23),(.t 24),(.t 25),(.t 26)]<|
 .nil)
 (.block 2 (.loop OP [] [] a)))
def Z7(E:EB)(D:Ac)(W:AF)(g:V->Int->V->Int->H->AE)(a:V)(b:Int)(c:V)(d e:Int)(U:H):AE:=
 c0 (D 197 [a,.int .i64 e,.int .i64 b,c] U) λf=>
 g a b c d f
def V9:XC:=(.seq (.z (.aB 11 8 1<|
 .b 13 .leq .none (.t 11) (.t 12)<|
 .nil)
 y41)
 (.block 1 (.z (.aB 14 0 7<|
 .aB 16 8 2<|
 .k 18 y8 197 [(.t 14),(.t 15),(.t 16),(.t 17)]<|
 .nil)
 (.z (.m 19 8<|
 .aG 7 19)
 (.Y (.aB 20 8 6<|
 .b 22 .add .none (.t 20) (.t 21)<|
 .aG 8 22))))))
def Z6(E:EB)(D:Ac)(W:AF)(K1:V->Int->V->Int->Int->H->AE)(h:V->Int->V->Int->Int->Int->H->AE)(a:V)(b:Int)(c:V)(d e f:Int)(U:H):AE:=
 AK (HL f b) (
 c0 (D 197 [a,.int .i64 e,.int .i64 f,c] U) λg=>
 h a b c d f (BQ .i64 f d) g) (
 K1 a b c d e U)
def Kk(b:XC)(a:XC):XC:=(.seq (.z (.aB 28 6 1<|
 .aE 30 28 29)
 (.cond (.tmp 30) .skip
 (.exit 2)))
 (.block 3 (.z (.m 31 6<|
 .b 32 .mul .none (.i 2) (.t 31)<|
 .q 7 0<|
 .aG 8 32)
 (.seq (.block 4 (.loop fp [] [] a))
 (.Q fm [] [] b)))))
def Z5(E:EB)(D:Ac)(W:AF)(K5:V->Int->V->Int->Int->Int->H->AE)(a:V)(b:Int)(c:V)(d:Int)(U:H):AE:=
 AK (C5 d b) (
 K5 a b c d (AA 0) (O3 .i64 (AA 2) d) U) (
 r0 U)
def HW(a:XC):XC:=(.seq (.z (.aB 49 7 6<|
 .b 51 .add .none (.t 49) (.t 50)<|
 .aG 9 51)
 (.z (.aB 52 9 1<|
 .aE 54 52 53)
 (.cond (.tmp 54) (.Y (.aB 55 0 7<|
 .bS 57 9 1 2<|
 .k 60 y8 198 [(.t 55),(.t 56),(.t 57),(.t 58),(.t 59)]<|
 .nil))
 .skip)))
 (.Q OP [] [] a))
def AFs(E:EB)(D:Ac)(W:AF)(g:V->Int->V->Int->H->AE)(a:V)(b:Int)(c:V)(d e:Int)(U:H):AE:=
 AK (C5 (BQ .i64 e d) b) (
 c0 (D 198 [a,.int .i64 e,.int .i64 (BQ .i64 e d),.int .i64 b,c] U) λf=>
 g a b c d f) (
 g a b c d U)
def Iw:XC:=(.seq (.z (.aB 33 8 1<|
 .b 35 .leq .none (.t 33) (.t 34)<|
 .nil)
 (.cond (.tmp 35) .skip
 (.exit 4)))
 (.block 5 (.z (.aB 36 0 7<|
 .aB 38 7 6<|
 .b 40 .add .none (.t 38) (.t 39)<|
 .aB 41 8 2<|
 .k 43 y8 198 [(.t 36),(.t 37),(.t 40),(.t 41),(.t 42)]<|
 .nil)
 (.z (.m 44 8<|
 .aG 7 44)
 (.Y (.aB 45 8 6<|
 .b 47 .mul .none (.i 2) (.t 46)<|
 .b 48 .add .none (.t 45) (.t 47)<|
 .aG 8 48))))))
def AFr(E:EB)(D:Ac)(W:AF)(h:V->Int->V->Int->Int->H->AE)(i:V->Int->V->Int->Int->Int->H->AE)(a:V)(b:Int)(c:V)(d e f:Int)(U:H):AE:=
 AK (HL f b) (
 c0 (D 198 [a,.int .i64 e,.int .i64 (BQ .i64 e d),.int .i64 f,c] U) λg=>
 i a b c d f (BQ .i64 f (O3 .i64 (AA 2) d)) g) (
 h a b c d e U)
def HV:XC:=(.Y (.m 61 6<|
 .b 62 .mul .none (.t 61) (.i 2)<|
 .aG 6 62))
def AFq(E:EB)(D:Ac)(W:AF)(e:V->Int->V->Int->H->AE)(a:V)(b:Int)(c:V)(d:Int)(U:H):AE:=
 e a b c (O3 .i64 d (AA 2)) U
def AGa(a:V)(b:Int)(c:V)(U:H):St:=⟨[(0,a),(1,.int .i64 b),(2,c)],[],[],U⟩
def tq(a:V)(b:Int)(c:V)(d e:Int)(U:H):St:=⟨[(0,a),(1,.int .i64 b),(2,c),(6,.int .i64 d),(7,.int .i64 e)],[],[],U⟩
def tp(a:V)(b:Int)(c:V)(d e f:Int)(U:H):St:=⟨[(0,a),(1,.int .i64 b),(2,c),(6,.int .i64 d),(7,.int .i64 e),(8,.int .i64 f)],[],[],U⟩
def dD(a:V)(b:Int)(c:V)(d:Int)(U:H):St:=⟨[(0,a),(1,.int .i64 b),(2,c),(6,.int .i64 d)],[],[],U⟩
def AIH(E:EB)(D:Ac)(W:AF)(N:Nat)(a:V->Int->V->Int->H->AE):=AFq E D W a
def de(a:V->Int->V->Int->H->AE):=AFs E D W (AIH E D W N a)
theorem ABA g:
 (λa b c d e U=>Au E D W N (HW HV) (tq a b c d e U) (kX OP [] [] g) (BR 3 (kX OP [] [] g) (BR 2 (GC E) nX)) (GC E))=de E D W N (λa b c d U=>g (dD a b c d U)):=by
 unfold de;kernel_rfl
def uz(b:V->Int->V->Int->H->AE)(n:Nat):V->Int->V->Int->Int->Int->H->AE:=
 Nat.rec (λ_ _ _ _ _ _ _=>none) (λ_ a=>AFr E D W (de E D W N b) a) n
theorem AAa i n:
 (λa b c d e f U=>BM (λm p=>Au E D W N Iw p (kX fp [] [] m) (AMX E D W N (HW HV) i) (GC E)) n (tp a b c d e f U))=uz E D W N (λa b c d U=>i (dD a b c d U)) n:=zH (λq=>by rw[<-ABA];generalize HW HV=o;revert o;refine id ?_;intros;kernel_rfl) n
def u0(n:Nat):V->Int->V->Int->H->AE:=
 Nat.rec (λ_ _ _ _ _=>none) (λ_ a=>Z5 E D W (uz E D W N a N)) n
theorem AAb n:
 (λa b c d U=>BM (λj l=>Au E D W N (Kk (HW HV) Iw) l (kX OP [] [] j) (BR 2 (GC E) nX) (GC E)) n (dD a b c d U))=u0 E D W N n:=O4 (λp=>by rw[<-AAa];generalize HW HV=k,Iw=m;revert k m;refine id ?_;intros;kernel_rfl) n
def dg:=Z7 E D W (u0 E D W N N)
theorem ABB:
 (λa b c d e U=>Au E D W N (N5 (Kk (HW HV) Iw)) (tq a b c d e U) (GC E) nX (GC E))=dg E D W N:=by
 unfold dg;rw[<-AAb];generalize Kk (HW HV) Iw=l;revert l;refine id ?_;intros;kernel_rfl
def u9(n:Nat):V->Int->V->Int->Int->Int->H->AE:=
 Nat.rec (λ_ _ _ _ _ _ _=>none) (λ_ a=>Z6 E D W (dg E D W N ) a) n
theorem AAc n:
 (λa b c d e f U=>BM (λl o=>Au E D W N V9 o (kX fp [] [] l) (AMW E D W N (N5 (Kk (HW HV) Iw))) (GC E)) n (tp a b c d e f U))=u9 E D W N n:=zH (λq=>by rw[<-ABB];generalize N5 (Kk (HW HV) Iw)=m;revert m;refine id ?_;intros;kernel_rfl) n
def dh:=AFt E D W (u9 E D W N N)
theorem ABC:
 (λa b c U=>Au E D W N (xH (N5 (Kk (HW HV) Iw)) V9) (AGa a b c U) (GC E) nX (GC E))=dh E D W N:=by
 unfold dh;rw[<-AAc];generalize N5 (Kk (HW HV) Iw)=j,V9=k;revert j k;refine id ?_;intros;kernel_rfl
def my(args:List V)(U:H):AE:=
 uAN args λa b c=>
 dh E D W N a b c U
def AYL:DD:=⟨63,[.any,.i,.any],[],(xH (N5 (Kk (HW HV) Iw)) V9)⟩
theorem APf args U:BZ E D W N AYL args U=my E D W N args U:=by
 unfold my;rw[<-ABC];kernel_rfl
def ACK:List (Nat × Cc):=[(0,.any),(1,.i),(5,.bool),(6,.i)]
def Rn(E:EB):St->AE:=λs=>Dc E s [(.tmp 4)] λl=>some (Dq l,s.U)
def AMV(c0:XC):Nat->St->AE:=BR 0 (dX E D W N (.Q [(5,.bool)] [] [] c0) (Rn E) nX (Rn E)) nX
def xG(b:XC)(a:XC):XC:=(.z (.aX 4 y2)
 (.seq (.z (.aB 7 0 1<|
 .s 9 13 7 8<|
 .aW 10 0 9 9<|
 .m 13 12<|
 .gO 13 false (.p 14 [0,13] JT<|
 .p 15 [1,13] LU<|
 .p 16 [14,15,13] (.qr 13 (.t 14) (.t 15))<|
 .aF 17 16 13 1 16 13 13<|
 .bJ 20 19 13 19 0) 21 13 20<|
 .nil)
 (.cond (.tmp 21) (.z (.aX 4 y2)
 .ret)
 .skip))
 (.z (.aB 22 0 1<|
 .s 24 13 22 23<|
 .aA 25 11 24 .bool<|
 .aG 5 26)
 (.seq (.z (.aL 6 0)
 (.block 0 (.loop ACK [] [] a)))
 (.Q [(5,.bool)] [] [] b)))))
def UY(E:EB)(D:Ac)(W:AF)(K2:V->Int->Bool->Int->H->AE)(a:V)(b:Int)(U:H):AE:=
 AS 13 a b λc d=>
 lI E U c d λc=>
 Ax (λd e=>
 AK d (
 rB false e) (
 AS 13 a b λd f=>
 lB E e d (AM f 11) λd=>
 K2 a b d (AA 0) e)) λd=>
 AK (not (B8 c (AA 9))) (
 d true U) (
 AS 13 a b λc e=>
 lL E U c (AM e 1) λc=>
 d (C5 (AA 0) (AA c)) U)
def V8:XC:=(.z (.m 51 5<|
 .aG 4 51)
 .ret)
def AFp(E:EB)(D:Ac)(W:AF)(a:Bool)(U:H):AE:=
 rB a U
def V7:XC:=(.seq (.z (.bS 27 6 0 1<|
 .s 30 13 28 29<|
 .aP 31 9 30<|
 .aE 34 27 33)
 (.cond (.tmp 34) .skip
 LM))
 (.seq (.block 1 (.Y (.m 37 5<|
 .m 38 37<|
 .gO 38 false (.p 39 [0,38] JT<|
 .p 40 [0,38] JT<|
 .p 41 [1,38] LU<|
 .p 42 [40,41,38] (.qr 13 (.t 40) (.t 41))<|
 .cF 43 42 38 9 42 38<|
 .aR 45 6 38 6 44 38 11 44<|
 .aH 47 46 38 1 46 38<|
 .op (some 49) .bool [39,48,38] (.call 190 [(.t 39),(.t 48)])<|
 .nil) 50 38 49<|
 .aG 5 50)))
 (.Y (.m 35 6<|
 .aC 36 35 1 6))))
def AFo(E:EB)(D:Ac)(W:AF)(K1:Bool->H->AE)(h:V->Int->Bool->Int->H->AE)(a:V)(b:Int)(c:Bool)(d:Int)(U:H):AE:=
 AS 13 a b λe f=>
 lL E U e (AM f 9) λe=>
 AK (C5 d (AA e)) (
 Ax (λe f=>
 h a b e (BQ .i64 d (AA 1)) f) λe=>
 AK c (
 e true U) (
 AS 13 a b λf g=>
 DF E U f (AM g 9) λf=>
 AS 11 f d λf g=>
 lI E U f (AM g 1) λf=>
 cB (D 190 [a,.int .i64 f] U) λf g=>
 e f g)) (
 K1 c U)
def AGZ(a:V)(b:Int)(U:H):St:=⟨[(0,a),(1,.int .i64 b)],[],[],U⟩
def AGY(a:V)(b:Int)(c:Bool)(d:Int)(U:H):St:=⟨[(0,a),(1,.int .i64 b),(5,.bool c),(6,.int .i64 d)],[],[],U⟩
def AIF(E:EB)(D:Ac)(W:AF)(N:Nat):=AFp E D W
def dM(n:Nat):V->Int->Bool->Int->H->AE:=
 Nat.rec (λ_ _ _ _ _=>none) (λ_ a=>AFo E D W (AIF E D W N ) a) n
theorem AAZ n:
 (λa b c d U=>BM (λf g=>Au E D W N V7 g (kX ACK [] [] f) (AMV E D W N V8) (Rn E)) n (AGY a b c d U))=dM E D W N n:=O4 (λ_=>by kernel_rfl) n
def dc:=UY E D W (dM E D W N N)
theorem AA9:
 (λa b U=>Au E D W N (xG V8 V7) (AGZ a b U) (Rn E) nX (Rn E))=dc E D W N:=by
 unfold dc;rw[<-AAZ];generalize V8=i,V7=j;revert i j;refine id ?_;intros;kernel_rfl
def mw(args:List V)(U:H):AE:=
 uB args λa b=>
 dc E D W N a b U
def AYK:DD:=⟨52,[.any,.i],[(.tmp 4)],(xG V8 V7)⟩
theorem APe args U:BZ E D W N AYK args U=mw E D W N args U:=by
 unfold mw;rw[<-AA9];kernel_rfl
def ACJ:List (Nat × Cc):=[(0,.any),(1,.i),(5,.any),(6,.i)]
def Rm(E:EB):St->AE:=λs=>Dc E s [(.tmp 4)] λl=>some (Dq l,s.U)
def AMU(c0:XC):Nat->St->AE:=BR 0 (dX E D W N (.Q [(5,.any)] [] [] c0) (Rm E) nX (Rm E)) nX
def xF(b:XC)(a:XC):XC:=(.z (.aS 4)
 (.seq (.z (.aB 7 0 1<|
 .s 9 13 7 8<|
 .aP 10 1 9<|
 .bM 13 12 0)
 (.cond (.tmp 13) (.z (.aB 14 0 1<|
 .s 16 13 14 15<|
 .aA 17 1 16 .any<|
 .p 19 [18] (.sliceSl 2 (.t 18) none (some (.i 1)) none)<|
 .aG 4 19)
 .ret)
 .skip))
 (.z (.aS 5)
 (.seq (.z (.aL 6 0)
 (.block 0 (.loop ACJ [] [] a)))
 (.Q [(5,.any)] [] [] b)))))
def UX(E:EB)(D:Ac)(W:AF)(K2:V->Int->V->Int->H->AE)(a:V)(b:Int)(U:H):AE:=
 AS 13 a b λc d=>
 lL E U c (AM d 1) λc=>
 AK (C5 (AA 0) (AA c)) (
 AS 13 a b λc d=>
 DF E U c (AM d 1) λc=>
 gK (CT 2 c none (some (iN 1)) none) λc=>
 some (c,U)) (
 K2 a b V.h (AA 0) U)
def V6:XC:=(.z (.m 43 5<|
 .aG 4 43)
 .ret)
def AFm(E:EB)(D:Ac)(W:AF)(a:V)(U:H):AE:=
 some (a,U)
def V5:XC:=(.seq (.z (.bS 20 6 0 1<|
 .s 23 13 21 22<|
 .aP 24 9 23<|
 .aE 27 20 26)
 (.cond (.tmp 27) .skip
 LM))
 (.seq (.block 1 (.Y (.aB 30 5 0<|
 .aB 32 0 1<|
 .s 34 13 32 33<|
 .bF 35 9 34 6<|
 .s 38 11 36 37<|
 .aA 39 1 38 .i<|
 .k 41 .S 191 [(.t 31),(.t 40)]<|
 .O 42 .S (.append 182 2 16 (.t 30) (.t 41))<|
 .aG 5 42)))
 (.Y (.m 28 6<|
 .aC 29 28 1 6))))
def AFl(E:EB)(D:Ac)(W:AF)(K1:V->H->AE)(g:V->Int->V->Int->H->AE)(a:V)(b:Int)(c:V)(d:Int)(U:H):AE:=
 AS 13 a b λe f=>
 lL E U e (AM f 9) λe=>
 AK (C5 d (AA e)) (
 AS 13 a b λe f=>
 DF E U e (AM f 9) λe=>
 AS 11 e d λe f=>
 lI E U e (AM f 1) λe=>
 CD (D 191 [a,.int .i64 e] U) λe f=>
 CI e (
 Dx E 2 16 c e f λe f=>
 CI e (
 g a b e (BQ .i64 d (AA 1)) f))) (
 K1 c U)
def AGX(a:V)(b:Int)(U:H):St:=⟨[(0,a),(1,.int .i64 b)],[],[],U⟩
def AGW(a:V)(b:Int)(c:V)(d:Int)(U:H):St:=⟨[(0,a),(1,.int .i64 b),(5,c),(6,.int .i64 d)],[],[],U⟩
def AIE(E:EB)(D:Ac)(W:AF)(N:Nat):=AFm E D W
def dL(n:Nat):V->Int->V->Int->H->AE:=
 Nat.rec (λ_ _ _ _ _=>none) (λ_ a=>AFl E D W (AIE E D W N ) a) n
theorem AAY n:
 (λa b c d U=>BM (λf g=>Au E D W N V5 g (kX ACJ [] [] f) (AMU E D W N V6) (Rm E)) n (AGW a b c d U))=dL E D W N n:=O4 (λ_=>by kernel_rfl) n
def db:=UX E D W (dL E D W N N)
theorem AA8:
 (λa b U=>Au E D W N (xF V6 V5) (AGX a b U) (Rm E) nX (Rm E))=db E D W N:=by
 unfold db;rw[<-AAY];generalize V6=i,V5=j;revert i j;refine id ?_;intros;kernel_rfl
def mq(args:List V)(U:H):AE:=
 uB args λa b=>
 db E D W N a b U
def AYJ:DD:=⟨44,[.any,.i],[(.tmp 4)],(xF V6 V5)⟩
theorem APd args U:BZ E D W N AYJ args U=mq E D W N args U:=by
 unfold mq;rw[<-AA8];kernel_rfl
def ACI:List (Nat × Cc):=[(0,.any),(3,.any),(4,.i),(5,.i)]
def OO:List (Nat × Cc):=[(0,.any),(3,.any),(4,.i)]
def GB(E:EB):St->AE:=λs=>Dc E s [(.tmp 2)] λl=>some (Dq l,s.U)
def AMT(c0 a:XC)(b:St->AE):Nat->St->AE:=BR 2 (dX E D W N (.Q OO [] [] c0) (kX OO [] [] b) (BR 0 (dX E D W N (.Q [] [] [] a) (GB E) nX (GB E)) nX) (GB E)) (BR 1 (dX E D W N (.Q OO [] [] c0) (kX OO [] [] b) (BR 0 (dX E D W N (.Q [] [] [] a) (GB E) nX (GB E)) nX) (GB E)) (BR 0 (dX E D W N (.Q [] [] [] a) (GB E) nX (GB E)) nX))
def ACe(c0:XC):Nat->St->AE:=BR 0 (dX E D W N (.Q [] [] [] c0) (GB E) nX (GB E)) nX
def xE(b:XC)(a:XC):XC:=(.z (.aX 2 y2)
 (.z (.aS 3)
 (.seq (.z (.aL 4 0)
 (.block 0 (.loop OO [] [] a)))
 (.Q [] [] [] b))))
def UW(E:EB)(D:Ac)(W:AF)(K2:V->V->Int->H->AE)(a:V)(U:H):AE:=
 K2 a V.h (AA 0) U
def Kj:XC:=(.z (.cD 2)
 .ret)
def UU(E:EB)(D:Ac)(W:AF)(U:H):AE:=
 rB true U
def V4(b:XC)(a:XC):XC:=(.seq (.z (.aB 6 4 0<|
 .u 8 7<|
 .aE 9 6 8)
 nW)
 (.seq (.block 1 (.z (.aL 5 0)
 (.block 2 (.loop ACI [] [] a))))
 (.Q OO [] [] b)))
def Q3(E:EB)(D:Ac)(W:AF)(K1:H->AE)(e:V->V->Int->Int->H->AE)(a b:V)(c:Int)(U:H):AE:=
 Ao a λd=>
 AK (C5 c (AA d)) (
 e a b c (AA 0) U) (
 K1 U)
def Ki:XC:=y27
def Z4(E:EB)(D:Ac)(W:AF)(d:V->V->Int->H->AE)(a b:V)(c:Int)(U:H):AE:=
 d a b (BQ .i64 c (AA 1)) U
def N4:XC:=(.seq (.z (.cA 12 5 0 4 1 .any<|
 .u 17 16<|
 .aE 18 12 17)
 (.cond (.tmp 18) .skip
 (.exit 2)))
 (.seq (.block 3 (.seq (.z (.cA 21 3 0 4 1 .any<|
 .m 26 5<|
 .aN 27 2 25 26 Il 2<|
 .k 29 .bool 199 [(.t 21),(.t 28)]<|
 .nil)
 (.cond (.tmp 29) (.z (.aX 2 y2)
 .ret)
 .skip))
 (.Y (.cA 30 3 0 4 1 .any<|
 .m 35 5<|
 .aN 36 2 34 35 Il 2<|
 .p 38 [37] (.buildSlice 182 1 [y0,y0] [(0,2,(.t 37))])<|
 .O 39 .S (.append 182 2 16 (.t 30) (.t 38))<|
 .aG 3 39))))
 (.Y (.m 19 5<|
 .aC 20 19 1 5))))
def Q2(E:EB)(D:Ac)(W:AF)(i:V->V->Int->H->AE)(j:V->V->Int->Int->H->AE)(a b:V)(c d:Int)(U:H):AE:=
 AS 1 a c λe f=>
 lL E U e f λe=>
 AK (C5 d (AA e)) (
 iY E U 1 a c λe=>
 iX E U 2 e d λe=>
 uE e λe f=>
 cB (D 199 [b,.agg [.int .i64 e,.int .i64 f]] U) λe f=>
 AK e (
 rB false f) (
 iY E f 1 a c λe=>
 iX E f 2 e d λe=>
 uE e λe g=>
 let h:=Cb f (.cells [.int .i64 e,.int .i64 g]);
 Dx E 2 16 b (V.D (H.j f) 0 1 (.ex 1)) h λe f=>
 CI e (
 j a e c (BQ .i64 d (AA 1)) f))) (
 i a b c U)
def AGV(a:V)(U:H):St:=⟨[(0,a)],[],[],U⟩
def VX(a b:V)(c:Int)(U:H):St:=⟨[(0,a),(3,b),(4,.int .i64 c)],[],[],U⟩
def AGU(a b:V)(c d:Int)(U:H):St:=⟨[(0,a),(3,b),(4,.int .i64 c),(5,.int .i64 d)],[],[],U⟩
def AID(E:EB)(D:Ac)(W:AF)(N:Nat):=UU E D W
def dY(E:EB)(D:Ac)(W:AF)(N:Nat)(a:V->V->Int->H->AE):=Z4 E D W a
theorem AA6 f:
 (λa b c U=>Au E D W N Ki (VX a b c U) (kX OO [] [] f) (ACe E D W N Kj) (GB E))=dY E D W N (λa b c U=>f (VX a b c U)):=by
 unfold dY;generalize Kj=k;revert k;refine id ?_;intros;kernel_rfl
def uv(b:V->V->Int->H->AE)(n:Nat):V->V->Int->Int->H->AE:=
 Nat.rec (λ_ _ _ _ _=>none) (λ_ a=>Q2 E D W (dY E D W N b) a) n
theorem AAW g n:
 (λa b c d U=>BM (λk m=>Au E D W N N4 m (kX ACI [] [] k) (AMT E D W N Ki Kj g) (GB E)) n (AGU a b c d U))=uv E D W N (λa b c U=>g (VX a b c U)) n:=O4 (λq=>by rw[<-AA6];generalize Kj=l,Ki=o;revert l o;refine id ?_;intros;kernel_rfl) n
def Vd(n:Nat):V->V->Int->H->AE:=
 Nat.rec (λ_ _ _ _=>none) (λ_ a=>Q3 E D W (AID E D W N ) (uv E D W N a N)) n
theorem AAX n:
 (λa b c U=>BM (λi k=>Au E D W N (V4 Ki N4) k (kX OO [] [] i) (ACe E D W N Kj) (GB E)) n (VX a b c U))=Vd E D W N n:=xi (λo=>by rw[<-AAW];generalize Ki=j,N4=l;revert j l;refine id ?_;intros;kernel_rfl) n
def dZ:=UW E D W (Vd E D W N N)
theorem AA7:
 (λa U=>Au E D W N (xE Kj (V4 Ki N4)) (AGV a U) (GB E) nX (GB E))=dZ E D W N:=by
 unfold dZ;rw[<-AAX];generalize V4 Ki N4=h,Kj=i;revert h i;refine id ?_;intros;kernel_rfl
def mn(args:List V)(U:H):AE:=
 Ab args λa b=>
 Ay b (
 dZ E D W N a U)
def AYI:DD:=⟨40,[.any],[(.tmp 2)],(xE Kj (V4 Ki N4))⟩
theorem APc args U:BZ E D W N AYI args U=mn E D W N args U:=by
 unfold mn;rw[<-AA7];kernel_rfl
def ACH:List (Nat × Cc):=[(0,.o),(2,.o),(3,.any),(48,.any),(49,.i),(50,.i)]
def Vw(E:EB):St->AE:=λs=>Dc E s [] λl=>some (Dq l,s.U)
def xD(a:XC):XC:=(.seq (.z (.aU 11 1 0<|
 .m 13 12<|
 .gO 13 false (.p 14 [1,13] LU<|
 .bN 15 0 13 JT 13<|
 .aF 17 16 13 0 16 13 13<|
 .bO 20 14 19 13 14 19) 21 13 20<|
 .m 22 21<|
 .gO 22 false (.p 23 [2,22] (.L (.t 2))<|
 .p 24 [23,22] (.rg (.t 23))<|
 .op (some 25) .i [24,22] (.load none (.t 24))<|
 .aT 26 25 22 25 0) 27 22 26<|
 .nil)
 (.cond (.tmp 27) .ret
 .skip))
 (.z (.aI 28 2<|
 .l 30 .i 29<|
 .b 31 .sub .none (.t 30) (.i 1)<|
 .n 32 28<|
 .w 1 32 31<|
 .nil)
 (.z (.aI 33 0<|
 .bF 35 0 34 1<|
 .aN 38 13 36 37 y1 13<|
 .ol 8 [] 113 [y0,V.h,y2,y2,y2,y2,y0,y0,V.h,V.h,y0,y2,y0]<|
 .op none y1 [8,39] (.store 13 (.t 8) (.t 39))<|
 .nil)
 (.z (.aY 40 3 y1 13 8<|
 .O 42 y8 (.callv (.t 40) [(.t 41)])<|
 .nil)
 (.seq (.z (.aP 43 1 8<|
 .bM 46 45 0)
 (.cond (.tmp 46) .ret
 .skip))
 (.z (.aP 47 9 8<|
 .aL 50 0)
 (.block 0 (.loop ACH [] [] a))))))))
def UT(E:EB)(D:Ac)(W:AF)(K1:Nat->Nat->Nat->Nat->V->V->Int->Int->H->AE)(a b:Nat)(c:Int)(d e:Nat)(f:V)(U:H):AE:=
 Ax (λg h=>
 Ax (λi j=>
 AK i (
 r0 j) (
 lI E j d e λi=>
 DO 1 d e (V.int .i64 (Dj .i64 i (AA 1))) j λi=>
 jX E i a b 13 c λj=>
 uN j λj k l m n o p q r s t u v=>
 JI (BH (eN j k l m n o p q r s t u v)) (
 GA D f [.agg (eN j k l m n o p q r s t u v)] i λi j=>
 H3 i λi=>
 Ay i (
 Ao k λi=>
 AK (C5 (AA 0) (AA i)) (
 r0 j) (
 Ao s λi=>
 K1 a b d e f s (AA i) (AA 0) j))))) λi=>
 AK g (
 i true h) (
 lI E h d e λg=>
 i (B8 g (AA 0)) h)) λg=>
 AK (C5 c (AA 0)) (
 g true U) (
 lL E U a b λh=>
 g (HL (AA h) c) U)
def V3:XC:=(.z (.aE 51 50 49)
 (.seq (.cond (.tmp 51) .skip
 LM)
 (.seq (.block 1 (.z (.aN 52 11 48 50 xt 11<|
 .ol 10 [] 152 [y5,y0,y2,y2,y0,y0,V.h,V.h,y0,V.h,y0]<|
 .op none xt [10,53] (.store 11 (.t 10) (.t 53))<|
 .nil)
 (.Y (.m 54 0<|
 .aA 55 1 10 .i<|
 .aB 57 2 3<|
 .k 59 y8 195 [(.t 54),(.t 56),(.t 57),(.t 58)]<|
 .nil))))
 (.Y (.aC 60 50 1 50)))))
def AFk(E:EB)(D:Ac)(W:AF)(t:Nat->Nat->Nat->Nat->V->V->Int->Int->H->AE)(a b c d:Nat)(e f:V)(g h:Int)(U:H):AE:=
 AK (C5 h g) (
 iX E U 11 f h λi=>
 uAH i λi j k l m n o p q r s=>
 JI (BH (eAH i j k l m n o p q r s)) (
 c0 (D 195 [.o a b,.int .i64 j,.o c d,e] U) λi=>
 t a b c d e f g (BQ .i64 h (AA 1)) i)) (
 r0 U)
def AGT(a b:Nat)(c:Int)(d e:Nat)(f:V)(U:H):St:=⟨[(0,.o a b),(1,.int .i64 c),(2,.o d e),(3,f)],[],[],U⟩
def AGS(a b c d:Nat)(e f:V)(g h:Int)(U:H):St:=⟨[(0,.o a b),(2,.o c d),(3,e),(48,f),(49,.int .i64 g),(50,.int .i64 h)],[],[],U⟩
def dK(E:EB)(D:Ac)(W:AF)(N:Nat)(n:Nat):Nat->Nat->Nat->Nat->V->V->Int->Int->H->AE:=
 Nat.rec (λ_ _ _ _ _ _ _ _ _=>none) (λ_ a=>AFk E D W a) n
theorem AAV n:
 (λa b c d e f g h U=>BM (λj k=>Au E D W N V3 k (kX ACH [] [] j) (BR 0 (Vw E) nX) (Vw E)) n (AGS a b c d e f g h U))=dK E D W N n:=lp9 (λ_=>by kernel_rfl) n
def dW:=UT E D W (dK E D W N N)
theorem AA5:
 (λa b c d e f U=>Au E D W N (xD V3) (AGT a b c d e f U) (Vw E) nX (Vw E))=dW E D W N:=by
 unfold dW;rw[<-AAV];generalize V3=m;revert m;refine id ?_;intros;kernel_rfl
def mm(args:List V)(U:H):AE:=
 uAO args λa b c d e f=>
 dW E D W N a b c d e f U
def AYH:DD:=⟨61,[.o,.i,.o,.any],[],(xD V3)⟩
theorem APb args U:BZ E D W N AYH args U=mm E D W N args U:=by
 unfold mm;rw[<-AA5];kernel_rfl
def Rk:List BO:=[⟨(some 7),.load none (.tmp 1),none⟩,⟨(some 8),.C 1 (.tmp 2),none⟩,⟨(some 9),.load none (.tmp 8),none⟩,⟨(some 10),.qr 2 (.tmp 9) (.T (V.int .i64 (AA 0))),none⟩,⟨(some 11),.load (some 2) (.tmp 10),none⟩,⟨(some 12),.buildSlice 182 1 [(V.int .i64 (AA 0)),(V.int .i64 (AA 0))] [(0,2,(.tmp 11))],none⟩,⟨(some 13),.append 182 2 16 (.tmp 7) (.tmp 12),none⟩,⟨none,.store 1 (.tmp 1) (.tmp 13),none⟩]
def Kc:List DP:=[⟨0,[1]⟩,⟨0,[2]⟩,⟨2,[8]⟩,⟨6,[9]⟩,⟨14,[10]⟩,⟨30,[11]⟩,⟨63,[7,12]⟩,⟨127,[1,13]⟩]
def AIb:XC:=(.z (.P 2 (.box 113 (.t 0))<|
 .nil)
 (.z (.aP 3 1 2<|
 .bM 6 5 0)
 (.cond (.tmp 6) (.Q [(1,.any),(2,.o)] [] [] (.wl Rk Kc []))
 .skip)))
def Z3(E:EB)(D:Ac)(W:AF)(a:Int)(b:V)(c d e f:Bool)(g h:Int)(i j:V)(k:Int)(l:Bool)(m:Int)(o:V)(U:H):AE:=
 Ht (eN a b c d e f g h i j k l m) U λn=>
 lL E n (H.j U) 1 λp=>
 AK (C5 (AA 0) (AA p)) (
 CM (W Rk Kc [(1,o),(2,.o (H.j U) 0)] n) λp q=>
 r0 q) (
 r0 n)
def wN(N:Nat)(args:List V)(U:H):AE:=
 Ab args λa b=>
 Cp a λa=>
 uN a λa c d e f g h i j k l m n=>
 Ab b λb o=>
 Ay o (
 Z3 E D W a c d e f g h i j k l m n b U)
def AYG:DD:=⟨14,[y1,.any],[],AIb⟩
theorem APa args U:BZ E D W N AYG args U=wN E D W N args U:=by kernel_rfl
def ACG:List (Nat × Cc):=[(0,.any),(1,.i),(2,.i),(3,.any),(8,.i),(9,.i)]
def P1:List (Nat × Cc):=[(0,.any),(1,.i),(2,.i),(3,.any),(8,.i)]
def Iu(E:EB):St->AE:=λs=>Dc E s [] λl=>some (Dq l,s.U)
def AMS(c0:XC)(a:St->AE):Nat->St->AE:=BR 2 (dX E D W N (.Q P1 [] [] c0) (kX P1 [] [] a) (BR 0 (Iu E) nX) (Iu E)) (BR 1 (dX E D W N (.Q P1 [] [] c0) (kX P1 [] [] a) (BR 0 (Iu E) nX) (Iu E)) (BR 0 (Iu E) nX))
def xC(a:XC):XC:=(.z (.m 10 1<|
 .aC 11 10 1 8)
 (.block 0 (.loop P1 [] [] a)))
def Z2(E:EB)(D:Ac)(W:AF)(K1:V->Int->Int->V->Int->H->AE)(a:V)(b c:Int)(d:V)(U:H):AE:=
 K1 a b c d (BQ .i64 b (AA 1)) U
def V2(a:XC)(b:XC):XC:=(.seq (.z (.aB 12 8 2<|
 .aE 14 12 13)
 (.cond (.tmp 14) .skip
 LM))
 (.seq (.block 1 (.z (.m 17 8<|
 .m 9 17<|
 .nil)
 (.block 2 (.loop ACG [] [] b))))
 (.Q P1 [] [] a)))
def Q1(E:EB)(D:Ac)(W:AF)(f:V->Int->Int->V->Int->Int->H->AE)(a:V)(b c:Int)(d:V)(e:Int)(U:H):AE:=
 AK (C5 e c) (
 f a b c d e e U) (
 r0 U)
def N3:XC:=(.Y (.m 15 8<|
 .aC 16 15 1 8))
def Z1(E:EB)(D:Ac)(W:AF)(f:V->Int->Int->V->Int->H->AE)(a:V)(b c:Int)(d:V)(e:Int)(U:H):AE:=
 f a b c d (BQ .i64 e (AA 1)) U
def N1:XC:=(.seq (.seq (.us (.aB 18 9 1<|
 .b 20 .gtr .none (.t 18) (.t 19)<|
 .m 21 20<|
 .gA 21 true (.p 22 [3,21] (.L (.t 3))<|
 .p 23 [0,21] JT<|
 .aR 24 9 21 9 23 21 1 23<|
 .op (some 26) .i [25,21] (.load none (.t 25))<|
 .p 27 [0,21] JT<|
 .p 28 [9,21] (.L (.t 9))<|
 .p 29 [28,21] (.pp .sub .none (.t 28) (.i 1))<|
 .p 30 [27,29,21] (.qr 1 (.t 27) (.t 29))<|
 .op (some 31) .i [30,21] (.load none (.t 30))<|
 .op (some 32) .i [22,26,31,21] (.callv (.t 22) [(.t 26),(.t 31)])<|
 .p 33 [32,21] (.pp .lss .none (.t 32) (.i 0))<|
 .nil) 34 21 33<|
 .nil) [0,0,3,7,15,15,15,111,239,15,15,1039,3599,7695,16383,32767,65535])
 (.cond (.tmp 34) .skip
 (.exit 2)))
 (.seq (.block 3 (.us (.aB 37 0 9<|
 .aB 39 0 9<|
 .b 41 .sub .none (.t 40) (.i 1)<|
 .aB 42 0 9<|
 .b 44 .sub .none (.t 43) (.i 1)<|
 .s 45 1 42 44<|
 .l 46 .i 45<|
 .bL 47 0 9 1 .i<|
 .s 51 1 37 38<|
 .w 1 51 46<|
 .s 52 1 39 41<|
 .w 1 52 50<|
 .nil) [0,0,0,0,8,0,0,64,224,480,0,0,3072,7168,16355,32739,65535,131071]))
 (.Y (.cB 35 9 1<|
 .aG 9 36))))
def Q0(E:EB)(D:Ac)(W:AF)(K2:V->Int->Int->V->Int->H->AE)(l:V->Int->Int->V->Int->Int->H->AE)(a:V)(b c:Int)(d:V)(e f:Int)(U:H):AE:=
 Ax (λg h=>
 AK g (
 AS 1 a (Dj .i64 f (AA 1)) λg i=>
 lI E h g i λg=>
 AS 1 a f λi j=>
 lI E h i j λi=>
 AS 1 a f λj k=>
 DO 1 j k (V.int .i64 g) h λg=>
 AS 1 a (Dj .i64 f (AA 1)) λj k=>
 DO 1 j k (V.int .i64 i) g λg=>
 l a b c d e (Dj .i64 f (AA 1)) g) (
 K2 a b c d e h)) λg=>
 AK (C5 b f) (
 AS 1 a f λh i=>
 lI E U h i λh=>
 AS 1 a (Dj .i64 f (AA 1)) λi j=>
 lI E U i j λi=>
 GA D d [.int .i64 h,.int .i64 i] U λh i=>
 DZ .i64 h λh=>
 g (C5 h (AA 0)) i) (
 g false U)
def AGR(a:V)(b c:Int)(d:V)(U:H):St:=⟨[(0,a),(1,.int .i64 b),(2,.int .i64 c),(3,d)],[],[],U⟩
def tn(a:V)(b c:Int)(d:V)(e:Int)(U:H):St:=⟨[(0,a),(1,.int .i64 b),(2,.int .i64 c),(3,d),(8,.int .i64 e)],[],[],U⟩
def AGQ(a:V)(b c:Int)(d:V)(e f:Int)(U:H):St:=⟨[(0,a),(1,.int .i64 b),(2,.int .i64 c),(3,d),(8,.int .i64 e),(9,.int .i64 f)],[],[],U⟩
def vv(E:EB)(D:Ac)(W:AF)(N:Nat)(a:V->Int->Int->V->Int->H->AE):=Z1 E D W a
def dJ(a:V->Int->Int->V->Int->H->AE)(n:Nat):V->Int->Int->V->Int->Int->H->AE:=
 Nat.rec (λ_ _ _ _ _ _ _=>none) (λ_ b=>Q0 E D W (vv E D W N a) b) n
theorem AAT h n:
 (λa b c d e f U=>BM (λi j=>Au E D W N N1 j (kX ACG [] [] i) (AMS E D W N N3 h) (Iu E)) n (AGQ a b c d e f U))=dJ E D W N (λa b c d e U=>h (tn a b c d e U)) n:=zH (λ_=>by kernel_rfl) n
def MU(n:Nat):V->Int->Int->V->Int->H->AE:=
 Nat.rec (λ_ _ _ _ _ _=>none) (λ_ a=>Q1 E D W (dJ E D W N a N)) n
theorem AAU n:
 (λa b c d e U=>BM (λk m=>Au E D W N (V2 N3 N1) m (kX P1 [] [] k) (BR 0 (Iu E) nX) (Iu E)) n (tn a b c d e U))=MU E D W N n:=lp6 (λq=>by rw[<-AAT];generalize N3=l,N1=o;revert l o;refine id ?_;intros;kernel_rfl) n
def dV:=Z2 E D W (MU E D W N N)
theorem AA4:
 (λa b c d U=>Au E D W N (xC (V2 N3 N1)) (AGR a b c d U) (Iu E) nX (Iu E))=dV E D W N:=by
 unfold dV;rw[<-AAU];generalize V2 N3 N1=k;revert k;refine id ?_;intros;kernel_rfl
def mj(args:List V)(U:H):AE:=
 uAP args λa b c d=>
 dV E D W N a b c d U
def AYF:DD:=⟨53,[.any,.i,.i,.any],[],(xC (V2 N3 N1))⟩
theorem APZ args U:BZ E D W N AYF args U=mj E D W N args U:=by
 unfold mj;rw[<-AA4];kernel_rfl
def ACF:List (Nat × Cc):=[(0,.any),(3,.o),(5,.i)]
def Rl(E:EB):St->AE:=λs=>Dc E s [(.tmp 4)] λl=>some (Dq l,s.U)
def AMR(c0:XC):Nat->St->AE:=BR 0 (dX E D W N (.Q [] [] [] c0) (Rl E) nX (Rl E)) nX
def xB(b:XC)(a:XC):XC:=(.z (.P 3 (.box 182 (.t 1))<|
 .aX 4 y2)
 (.seq (.z (.aL 5 0)
 (.block 0 (.loop ACF [] [] a)))
 (.Q [] [] [] b)))
def US(E:EB)(D:Ac)(W:AF)(K2:V->Nat->Nat->Int->H->AE)(a:V)(b c:Int)(U:H):AE:=
 Ht [.int .i64 b,.int .i64 c] U λd=>
 K2 a (H.j U) 0 (AA 0) d
def V1:XC:=(.z (.aX 4 y2)
 .ret)
def UR(E:EB)(D:Ac)(W:AF)(U:H):AE:=
 rB false U
def V0:XC:=(.seq (.z (.aB 6 5 0<|
 .u 8 7<|
 .aE 9 6 8)
 nW)
 (.seq (.block 1 (.seq (.us (.aB 12 0 5<|
 .aN 14 2 12 13 Il 2<|
 .O 16 Il (.load (some 2) (.t 3))<|
 .b 17 .eql (.pm [(0,.int),(1,.int)]) (.t 15) (.t 16)<|
 .nil) [0,0,3,7,0,31])
 y28))
 y26))
def Qz(E:EB)(D:Ac)(W:AF)(K1:H->AE)(i:V->Nat->Nat->Int->H->AE)(a:V)(b c:Nat)(d:Int)(U:H):AE:=
 Ao a λe=>
 AK (C5 d (AA e)) (
 iX E U 2 a d λe=>
 uE e λe f=>
 Bv E U b c 2 λg=>
 uE g λg h=>
 Zh (.pm [(0,.int),(1,.int)]) (V.agg [.int .i64 e,.int .i64 f]) (V.agg [.int .i64 g,.int .i64 h]) λe=>
 AK e (
 rB true U) (
 i a b c (BQ .i64 d (AA 1)) U)) (
 K1 U)
def AGP(a:V)(b c:Int)(U:H):St:=⟨[(0,a),(1,.agg [.int .i64 b,.int .i64 c])],[],[],U⟩
def AGO(a:V)(b c:Nat)(d:Int)(U:H):St:=⟨[(0,a),(3,.o b c),(5,.int .i64 d)],[],[],U⟩
def AIC(E:EB)(D:Ac)(W:AF)(N:Nat):=UR E D W
def Vb(n:Nat):V->Nat->Nat->Int->H->AE:=
 Nat.rec (λ_ _ _ _ _=>none) (λ_ a=>Qz E D W (AIC E D W N ) a) n
theorem AAS n:
 (λa b c d U=>BM (λf g=>Au E D W N V0 g (kX ACF [] [] f) (AMR E D W N V1) (Rl E)) n (AGO a b c d U))=Vb E D W N n:=O4 (λ_=>by kernel_rfl) n
def dU:=US E D W (Vb E D W N N)
theorem AA3:
 (λa b c U=>Au E D W N (xB V1 V0) (AGP a b c U) (Rl E) nX (Rl E))=dU E D W N:=by
 unfold dU;rw[<-AAS];generalize V1=j,V0=k;revert j k;refine id ?_;intros;kernel_rfl
def mh(args:List V)(U:H):AE:=
 Ab args λa b=>
 Ab b λb c=>
 Cp b λb=>
 uE b λb d=>
 Ay c (
 dU E D W N a b d U)
def AYE:DD:=⟨18,[.any,Il],[(.tmp 4)],(xB V1 V0)⟩
theorem APY args U:BZ E D W N AYE args U=mh E D W N args U:=by
 unfold mh;rw[<-AA3];kernel_rfl
end
end Go.Proofs.YtpbligmafbkeaaaGreatDoor
namespace Go.Proofs.YtpbligmafbkeaaaGreatDoor
open Go Go.Og
noncomputable section
def glob:Nat->Bool:=λg=>B9 g 2
theorem follows:Tryz.prog.follows .mixedOrders=true:=by kernel_rfl
def Is(f:Nat)(A:DD):Prop:=∃b,Tryz.prog.funcs[f]? = some b/\M2 Tryz.prog glob b=some A.i4/\A.body.ok=true/\Jp Tryz.prog f=true
theorem Is.sound{f A}(h:Is f A) E D (b:∀f,Cr Tryz.prog E glob f (D f)) N:Cr Tryz.prog E glob f (BZ E D (AV E D) N A):=
 let ⟨_,h1,c,d,e⟩:=h;yc b (Xl b follows) follows N h1 c rfl d e
theorem Is.sf{f A}(h:Is f A){E D}(d:∀f,Cr Tryz.prog E glob f (D f)){N}{F:List V->H->AE}(e:∀args U,BZ E D (AV E D) N A args U=F args U):Cr Tryz.prog E glob f F:=by
 have h1:=h.sound E D d N;rwa [show BZ E D (AV E D) N A=F from funext λa=>funext λs=>e a s]at h1
abbrev DX(f:Nat)(F:EB->Ac->AF->Nat->List V->H->AE):Prop:=∀E D,(∀f,Cr Tryz.prog E glob f (D f))->∀N,Cr Tryz.prog E glob f (F E D (AV E D) N)
noncomputable def tab:List (Nat × Func):=[(4,Tryz.f4),(44,Tryz.f44),(56,Tryz.f56),(75,Tryz.f75),(79,Tryz.f79),(83,Tryz.f83),(98,Tryz.f98),(101,Tryz.f101),(102,Tryz.f102),(103,Tryz.f103),(117,Tryz.f117),(122,Tryz.f122),(132,Tryz.f132),(133,Tryz.f133),(135,Tryz.f135),(138,Tryz.f138),(139,Tryz.f139),(152,Tryz.f152),(182,Tryz.f182)]
theorem AEU:∀p∈tab,Tryz.prog.funcs[p.1]? = some p.2/\Jp Tryz.prog p.1=true:=by
 unfold tab;simp only[nS];exact⟨⟨Tryz.func4,by kernel_rfl⟩,
  ⟨Tryz.func44,by kernel_rfl⟩,
  ⟨Tryz.func56,by kernel_rfl⟩,
  ⟨Tryz.func75,by kernel_rfl⟩,
  ⟨Tryz.func79,by kernel_rfl⟩,
  ⟨Tryz.func83,by kernel_rfl⟩,
  ⟨Tryz.func98,by kernel_rfl⟩,
  ⟨Tryz.func101,by kernel_rfl⟩,
  ⟨Tryz.func102,by kernel_rfl⟩,
  ⟨Tryz.func103,by kernel_rfl⟩,
  ⟨Tryz.func117,by kernel_rfl⟩,
  ⟨Tryz.func122,by kernel_rfl⟩,
  ⟨Tryz.func132,by kernel_rfl⟩,
  ⟨Tryz.func133,by kernel_rfl⟩,
  ⟨Tryz.func135,by kernel_rfl⟩,
  ⟨Tryz.func138,by kernel_rfl⟩,
  ⟨Tryz.func139,by kernel_rfl⟩,
  ⟨Tryz.func152,by kernel_rfl⟩,
  ⟨Tryz.func182,by kernel_rfl⟩,λ_ h=>by cases h⟩
def qB:List (Nat × Func)->Nat->Option Func:=λl n=>List.rec none (λp _ a=>match Ar p.1 n with | true=>some p.2 | false=>a) l
theorem Si:∀l n g,qB l n=some g->(n,g)∈l
 | [],n,g,h=>by cases h
 | p::l,n,g,h=>by
  have d:(match Ar p.1 n with | true=>some p.2 | false=>qB l n)=some g:=h;cases e:Ar p.1 n with
  | true=>
   rw[e]at d;simp only[AY.injEq]at d;have:=CJ e;subst this;subst d;exact AZ
  | false=>
   rw[e]at d;exact Az _ (Si l n g d)
theorem Xp P G n c:(Ci P G n c).i4=Ci P G n c:=by
 fun_induction Ci P G n c<;>simp_all[AC.i4]
theorem Xo{P G e}{a:nN}(h:M2 P G e=some a):a.i4=a:=by
 unfold M2 at h;split at h
 ·cases h
  unfold nN.i4;rw[Xp]
 ·cases h
theorem Bd{f:Nat}{c}{A:DD}{F}(h1:Tryz.prog.funcs[f]? = some c)(e:M2 Tryz.prog glob c=some A.i4)(b:(A.body.ok&&Jp Tryz.prog f)=true)(g:∀E D W N args U,BZ E D W N A args U=F E D W N args U):DX f F:=λE D h N=>by
 rw[AQ]at b;exact Is.sf ⟨c,h1,e,b.1,b.2⟩ h (g E D (AV E D) N)
theorem SF3:DX 3 F3:=Bd Tryz.func3 (by kernel_rfl) (by kernel_rfl) FE3
theorem SF5:DX 5 F5:=Bd Tryz.func5 (by kernel_rfl) (by kernel_rfl) FE5
theorem SF6:DX 6 F6:=Bd Tryz.func6 (by kernel_rfl) (by kernel_rfl) FE6
theorem SF7:DX 7 F7:=Bd Tryz.func7 (by kernel_rfl) (by kernel_rfl) FE7
theorem SF8:DX 8 F8:=Bd Tryz.func8 (by kernel_rfl) (by kernel_rfl) FE8
theorem SF9:DX 9 F9:=Bd Tryz.func9 (by kernel_rfl) (by kernel_rfl) FE9
theorem AVv:DX 10 F10:=Bd Tryz.func10 (by kernel_rfl) (by kernel_rfl) AXD
theorem AVu:DX 11 F11:=Bd Tryz.func11 (by kernel_rfl) (by kernel_rfl) AXC
theorem AVt:DX 12 F12:=Bd Tryz.func12 (by kernel_rfl) (by kernel_rfl) AXB
theorem AVs:DX 13 F13:=Bd Tryz.func13 (by kernel_rfl) (by kernel_rfl) AXA
theorem AVr:DX 14 F14:=Bd Tryz.func14 (by kernel_rfl) (by kernel_rfl) AW9
theorem AVq:DX 15 F15:=Bd Tryz.func15 (by kernel_rfl) (by kernel_rfl) AW8
theorem AVp:DX 16 F16:=Bd Tryz.func16 (by kernel_rfl) (by kernel_rfl) AW7
theorem AVo:DX 17 F17:=Bd Tryz.func17 (by kernel_rfl) (by kernel_rfl) AW6
theorem AVn:DX 18 F18:=Bd Tryz.func18 (by kernel_rfl) (by kernel_rfl) AW5
theorem AVm:DX 19 F19:=Bd Tryz.func19 (by kernel_rfl) (by kernel_rfl) AW4
theorem AVl:DX 20 F20:=Bd Tryz.func20 (by kernel_rfl) (by kernel_rfl) AW3
theorem AVk:DX 21 F21:=Bd Tryz.func21 (by kernel_rfl) (by kernel_rfl) AW2
theorem AVj:DX 22 F22:=Bd Tryz.func22 (by kernel_rfl) (by kernel_rfl) AW1
theorem AVi:DX 23 F23:=Bd Tryz.func23 (by kernel_rfl) (by kernel_rfl) AW0
theorem AVh:DX 24 F24:=Bd Tryz.func24 (by kernel_rfl) (by kernel_rfl) AWz
theorem AVg:DX 25 F25:=Bd Tryz.func25 (by kernel_rfl) (by kernel_rfl) AWy
theorem AVf:DX 26 F26:=Bd Tryz.func26 (by kernel_rfl) (by kernel_rfl) AWx
theorem AVe:DX 27 F27:=Bd Tryz.func27 (by kernel_rfl) (by kernel_rfl) AWw
theorem AVd:DX 28 F28:=Bd Tryz.func28 (by kernel_rfl) (by kernel_rfl) AWv
theorem AVc:DX 29 F29:=Bd Tryz.func29 (by kernel_rfl) (by kernel_rfl) AWu
theorem AVb:DX 30 F30:=Bd Tryz.func30 (by kernel_rfl) (by kernel_rfl) AWt
theorem AVa:DX 31 F31:=Bd Tryz.func31 (by kernel_rfl) (by kernel_rfl) AWs
theorem AVZ:DX 33 F33:=Bd Tryz.func33 (by kernel_rfl) (by kernel_rfl) AWr
theorem AVY:DX 34 F34:=Bd Tryz.func34 (by kernel_rfl) (by kernel_rfl) AWq
theorem AVX:DX 35 F35:=Bd Tryz.func35 (by kernel_rfl) (by kernel_rfl) AWp
theorem AVW:DX 36 F36:=Bd Tryz.func36 (by kernel_rfl) (by kernel_rfl) AWo
theorem AVV:DX 37 F37:=Bd Tryz.func37 (by kernel_rfl) (by kernel_rfl) AWn
theorem AVU:DX 38 F38:=Bd Tryz.func38 (by kernel_rfl) (by kernel_rfl) AWm
theorem AVT:DX 39 F39:=Bd Tryz.func39 (by kernel_rfl) (by kernel_rfl) AWl
theorem AVS:DX 40 F40:=Bd Tryz.func40 (by kernel_rfl) (by kernel_rfl) AWk
theorem AVR:DX 41 F41:=Bd Tryz.func41 (by kernel_rfl) (by kernel_rfl) AWj
theorem AVQ:DX 42 F42:=Bd Tryz.func42 (by kernel_rfl) (by kernel_rfl) AWi
theorem AVP:DX 43 F43:=Bd Tryz.func43 (by kernel_rfl) (by kernel_rfl) AWh
theorem AVO:DX 45 F45:=Bd Tryz.func45 (by kernel_rfl) (by kernel_rfl) AWg
theorem AVN:DX 46 F46:=Bd Tryz.func46 (by kernel_rfl) (by kernel_rfl) AWf
theorem AVM:DX 49 F49:=Bd Tryz.func49 (by kernel_rfl) (by kernel_rfl) AWe
theorem AVL:DX 55 F55:=Bd Tryz.func55 (by kernel_rfl) (by kernel_rfl) AWd
theorem AVK:DX 57 F57:=Bd Tryz.func57 (by kernel_rfl) (by kernel_rfl) AWc
theorem AVJ:DX 58 F58:=Bd Tryz.func58 (by kernel_rfl) (by kernel_rfl) AWb
theorem AVI:DX 59 F59:=Bd Tryz.func59 (by kernel_rfl) (by kernel_rfl) AWa
theorem AVH:DX 60 F60:=Bd Tryz.func60 (by kernel_rfl) (by kernel_rfl) AWZ
theorem AVG:DX 61 F61:=Bd Tryz.func61 (by kernel_rfl) (by kernel_rfl) AWY
theorem AVF:DX 62 F62:=Bd Tryz.func62 (by kernel_rfl) (by kernel_rfl) AWX
theorem AVE:DX 63 F63:=Bd Tryz.func63 (by kernel_rfl) (by kernel_rfl) AWW
theorem AVD:DX 64 F64:=Bd Tryz.func64 (by kernel_rfl) (by kernel_rfl) AWV
theorem AVC:DX 65 F65:=Bd Tryz.func65 (by kernel_rfl) (by kernel_rfl) AWU
theorem AVB:DX 66 F66:=Bd Tryz.func66 (by kernel_rfl) (by kernel_rfl) AWT
theorem AVA:DX 67 F67:=Bd Tryz.func67 (by kernel_rfl) (by kernel_rfl) AWS
theorem AU9:DX 69 F69:=Bd Tryz.func69 (by kernel_rfl) (by kernel_rfl) AWR
theorem AU8:DX 70 F70:=Bd Tryz.func70 (by kernel_rfl) (by kernel_rfl) AWQ
theorem AU7:DX 71 F71:=Bd Tryz.func71 (by kernel_rfl) (by kernel_rfl) AWP
theorem AU6:DX 72 F72:=Bd Tryz.func72 (by kernel_rfl) (by kernel_rfl) AWO
theorem AU5:DX 74 F74:=Bd Tryz.func74 (by kernel_rfl) (by kernel_rfl) AWN
theorem AU4:DX 76 F76:=Bd Tryz.func76 (by kernel_rfl) (by kernel_rfl) AWM
theorem AU3:DX 80 F80:=Bd Tryz.func80 (by kernel_rfl) (by kernel_rfl) AWL
theorem AU2:DX 81 F81:=Bd Tryz.func81 (by kernel_rfl) (by kernel_rfl) AWK
theorem AU1:DX 82 F82:=Bd Tryz.func82 (by kernel_rfl) (by kernel_rfl) AWJ
theorem AU0:DX 84 F84:=Bd Tryz.func84 (by kernel_rfl) (by kernel_rfl) AWI
theorem AUz:DX 87 F87:=Bd Tryz.func87 (by kernel_rfl) (by kernel_rfl) AWH
theorem AUy:DX 88 F88:=Bd Tryz.func88 (by kernel_rfl) (by kernel_rfl) AWG
theorem AUx:DX 89 F89:=Bd Tryz.func89 (by kernel_rfl) (by kernel_rfl) AWF
theorem AUw:DX 90 F90:=Bd Tryz.func90 (by kernel_rfl) (by kernel_rfl) AWE
theorem AUv:DX 91 F91:=Bd Tryz.func91 (by kernel_rfl) (by kernel_rfl) AWD
theorem AUu:DX 92 F92:=Bd Tryz.func92 (by kernel_rfl) (by kernel_rfl) AWC
theorem AUt:DX 94 F94:=Bd Tryz.func94 (by kernel_rfl) (by kernel_rfl) AWB
theorem AUs:DX 95 F95:=Bd Tryz.func95 (by kernel_rfl) (by kernel_rfl) AWA
theorem AUr:DX 96 F96:=Bd Tryz.func96 (by kernel_rfl) (by kernel_rfl) AV9
theorem AUq:DX 97 F97:=Bd Tryz.func97 (by kernel_rfl) (by kernel_rfl) AV8
theorem ANu:DX 105 w9:=Bd Tryz.func105 (by kernel_rfl) (by kernel_rfl) AQJ
theorem ANt:DX 106 w8:=Bd Tryz.func106 (by kernel_rfl) (by kernel_rfl) AQI
theorem ANs:DX 107 wz:=Bd Tryz.func107 (by kernel_rfl) (by kernel_rfl) AQH
theorem ANr:DX 108 nL:=Bd Tryz.func108 (by kernel_rfl) (by kernel_rfl) AQG
theorem ANq:DX 109 wy:=Bd Tryz.func109 (by kernel_rfl) (by kernel_rfl) AQF
theorem ANp:DX 110 wx:=Bd Tryz.func110 (by kernel_rfl) (by kernel_rfl) AQE
theorem ANo:DX 111 nK:=Bd Tryz.func111 (by kernel_rfl) (by kernel_rfl) AQD
theorem ANn:DX 114 nJ:=Bd Tryz.func114 (by kernel_rfl) (by kernel_rfl) AQC
theorem ANm:DX 115 nH:=Bd Tryz.func115 (by kernel_rfl) (by kernel_rfl) AQB
theorem ANl:DX 118 nG:=Bd Tryz.func118 (by kernel_rfl) (by kernel_rfl) AQA
theorem ANk:DX 119 nF:=Bd Tryz.func119 (by kernel_rfl) (by kernel_rfl) AP9
theorem ANj:DX 121 wv:=Bd Tryz.func121 (by kernel_rfl) (by kernel_rfl) AP8
theorem ANi:DX 123 nE:=Bd Tryz.func123 (by kernel_rfl) (by kernel_rfl) AP7
theorem ANh:DX 124 nD:=Bd Tryz.func124 (by kernel_rfl) (by kernel_rfl) AP6
theorem ANg:DX 125 wq:=Bd Tryz.func125 (by kernel_rfl) (by kernel_rfl) AP5
theorem ANf:DX 128 nC:=Bd Tryz.func128 (by kernel_rfl) (by kernel_rfl) AP4
theorem ANe:DX 129 wo:=Bd Tryz.func129 (by kernel_rfl) (by kernel_rfl) AP3
theorem ANd:DX 136 wm:=Bd Tryz.func136 (by kernel_rfl) (by kernel_rfl) AP2
theorem ANc:DX 137 nB:=Bd Tryz.func137 (by kernel_rfl) (by kernel_rfl) AP1
theorem ANb:DX 140 wj:=Bd Tryz.func140 (by kernel_rfl) (by kernel_rfl) AP0
theorem ANa:DX 142 wh:=Bd Tryz.func142 (by kernel_rfl) (by kernel_rfl) APz
theorem ANZ:DX 143 wg:=Bd Tryz.func143 (by kernel_rfl) (by kernel_rfl) APy
theorem ANY:DX 144 we:=Bd Tryz.func144 (by kernel_rfl) (by kernel_rfl) APx
theorem ANX:DX 145 wc:=Bd Tryz.func145 (by kernel_rfl) (by kernel_rfl) APw
theorem ANW:DX 146 nA:=Bd Tryz.func146 (by kernel_rfl) (by kernel_rfl) APv
theorem ANV:DX 147 wZ:=Bd Tryz.func147 (by kernel_rfl) (by kernel_rfl) APu
theorem ANU:DX 148 wY:=Bd Tryz.func148 (by kernel_rfl) (by kernel_rfl) APt
theorem ANT:DX 149 m9:=Bd Tryz.func149 (by kernel_rfl) (by kernel_rfl) APs
theorem ANS:DX 150 wX:=Bd Tryz.func150 (by kernel_rfl) (by kernel_rfl) APr
theorem ANR:DX 156 wW:=Bd Tryz.func156 (by kernel_rfl) (by kernel_rfl) APq
theorem ANQ:DX 158 wV:=Bd Tryz.func158 (by kernel_rfl) (by kernel_rfl) APp
theorem ANP:DX 161 m8:=Bd Tryz.func161 (by kernel_rfl) (by kernel_rfl) APo
theorem ANO:DX 167 wU:=Bd Tryz.func167 (by kernel_rfl) (by kernel_rfl) APn
theorem ANN:DX 173 wT:=Bd Tryz.func173 (by kernel_rfl) (by kernel_rfl) APm
theorem ANM:DX 174 wS:=Bd Tryz.func174 (by kernel_rfl) (by kernel_rfl) APl
theorem ANL:DX 175 wR:=Bd Tryz.func175 (by kernel_rfl) (by kernel_rfl) APk
theorem ANK:DX 176 wQ:=Bd Tryz.func176 (by kernel_rfl) (by kernel_rfl) APj
theorem ANJ:DX 177 wP:=Bd Tryz.func177 (by kernel_rfl) (by kernel_rfl) APi
theorem ANI:DX 181 mz:=Bd Tryz.func181 (by kernel_rfl) (by kernel_rfl) APh
theorem ANH:DX 187 wO:=Bd Tryz.func187 (by kernel_rfl) (by kernel_rfl) APg
theorem ANG:DX 188 my:=Bd Tryz.func188 (by kernel_rfl) (by kernel_rfl) APf
theorem ANF:DX 190 mw:=Bd Tryz.func190 (by kernel_rfl) (by kernel_rfl) APe
theorem ANE:DX 191 mq:=Bd Tryz.func191 (by kernel_rfl) (by kernel_rfl) APd
theorem AND:DX 192 mn:=Bd Tryz.func192 (by kernel_rfl) (by kernel_rfl) APc
theorem ANC:DX 195 mm:=Bd Tryz.func195 (by kernel_rfl) (by kernel_rfl) APb
theorem ANB:DX 196 wN:=Bd Tryz.func196 (by kernel_rfl) (by kernel_rfl) APa
theorem ANA:DX 197 mj:=Bd Tryz.func197 (by kernel_rfl) (by kernel_rfl) APZ
theorem AM9:DX 199 mh:=Bd Tryz.func199 (by kernel_rfl) (by kernel_rfl) APY
noncomputable def AFH:List (Nat × (EB->Ac->AF->Nat->List V->H->AE)):=[(3,F3),(5,F5),(6,F6),(7,F7),(8,F8),(9,F9),(10,F10),(11,F11),(12,F12),(13,F13),(14,F14),(15,F15),(16,F16),(17,F17),(18,F18),(19,F19),(20,F20),(21,F21),(22,F22),(23,F23),(24,F24),(25,F25),(26,F26),(27,F27),(28,F28),(29,F29),(30,F30),(31,F31),(33,F33),(34,F34),(35,F35),(36,F36),(37,F37),(38,F38),(39,F39),(40,F40),(41,F41),(42,F42),(43,F43),(45,F45),(46,F46),(49,F49),(55,F55),(57,F57),(58,F58),(59,F59),(60,F60),(61,F61),(62,F62),(63,F63),(64,F64),(65,F65),(66,F66),(67,F67),(69,F69),(70,F70),(71,F71),(72,F72),(74,F74),(76,F76),(80,F80),(81,F81),(82,F82),(84,F84),(87,F87),(88,F88),(89,F89),(90,F90),(91,F91),(92,F92),(94,F94),(95,F95),(96,F96),(97,F97),(105,w9),(106,w8),(107,wz),(108,nL),(109,wy),(110,wx),(111,nK),(114,nJ),(115,nH),(118,nG),(119,nF),(121,wv),(123,nE),(124,nD),(125,wq),(128,nC),(129,wo),(136,wm),(137,nB),(140,wj),(142,wh),(143,wg),(144,we),(145,wc),(146,nA),(147,wZ),(148,wY),(149,m9),(150,wX),(156,wW),(158,wV),(161,m8),(167,wU),(173,wT),(174,wS),(175,wR),(176,wQ),(177,wP),(181,mz),(187,wO),(188,my),(190,mw),(191,mq),(192,mn),(195,mm),(196,wN),(197,mj),(199,mh)]
noncomputable def BD(E:EB)(N:Nat)(D:Ac):Ac:=λf=>match BX AFH f with
 | some g=>g E D (AV E D) N
 | none=>match qB tab f with
  | some g=>(match M2 Tryz.prog glob g with | some a=>pM E D (AV E D) N a | none=>λ_ _=>none)
  | none=>λ_ _=>none
theorem xW E N D (n:∀f,Cr Tryz.prog E glob f (D f)) f:Cr Tryz.prog E glob f (BD E N D f):=by
 have k:∀p∈AFH,DX p.1 p.2:=by
  unfold AFH;simp only[nS];exact⟨SF3,SF5,SF6,SF7,SF8,SF9,AVv,AVu,AVt,AVs,AVr,AVq,AVp,AVo,AVn,AVm,AVl,AVk,AVj,AVi,AVh,AVg,AVf,AVe,AVd,AVc,AVb,AVa,AVZ,AVY,AVX,AVW,AVV,AVU,AVT,AVS,AVR,AVQ,AVP,AVO,AVN,AVM,AVL,AVK,AVJ,AVI,AVH,AVG,AVF,AVE,AVD,AVC,AVB,AVA,AU9,AU8,AU7,AU6,AU5,AU4,AU3,AU2,AU1,AU0,AUz,AUy,AUx,AUw,AUv,AUu,AUt,AUs,AUr,AUq,ANu,ANt,ANs,ANr,ANq,ANp,ANo,ANn,ANm,ANl,ANk,ANj,ANi,ANh,ANg,ANf,ANe,ANd,ANc,ANb,ANa,ANZ,ANY,ANX,ANW,ANV,ANU,ANT,ANS,ANR,ANQ,ANP,ANO,ANN,ANM,ANL,ANK,ANJ,ANI,ANH,ANG,ANF,ANE,AND,ANC,ANB,ANA,AM9,λ_ h=>by cases h⟩
 unfold BD;split
 ·rename_i g m
  rw[BG]at m;exact k _ (HC m) E _ n N
 ·split
  ·rename_i g m
   have q:=AEU _ (Si _ _ _ m);split
   ·rename_i a r
    exact pL n (Xl n follows) N q.1 r (Xo r) q.2
   ·intro C _ _ R U w args xs v U' h;cases h
  ·intro C _ _ R U w args xs v U' h;cases h
def DT(E:EB)(N:Nat)(d:Nat):Ac:=Nat.rec (λ_ _ _=>none) (λ_ a=>BD E N a) d
theorem AQz E N:∀d f,Cr Tryz.prog E glob f (DT E N d f):=by
 intro d;induction d with
 | zero=>intro f C _ _ R U w args xs v U' h;cases h | succ d k=>exact xW E N _ k
theorem Zd:∀g,glob g=true->g<2:=λg b=>by simpa[glob]using b
end
end Go.Proofs.YtpbligmafbkeaaaGreatDoor
set_option linter.all false
namespace Go.Og
noncomputable section
theorem MC{a b:Nat}(h:a<=b):Am a b=true:=by rw[Bn];exact h
def Bx(U:H)(b:Nat)(l:List V):Prop:=BX U.F b=some (.cells l)
def Ai(U:H):Prop:=∀b,U.j<=b->BX U.F b=none
structure Fr(S:Nat->Prop)(U U':H):Prop where
 y:Ai U'
 le:U.j<=U'.j
 same:∀b,b<U.j->¬S b->BX U'.F b=BX U.F b
def AH:Nat->Prop:=λ_=>False
def AJ(v:V)(b:Nat):Prop:=match v with
 | .D a _ _ _=>b=a
 | _=>False
section
variable {E:EB}{U U' U'':H}{b b':Nat}{l m:List V}{S T:Nat->Prop}
theorem Bx.lt(h:Bx U b l)(c:Ai U):b<U.j:=by grind [Bx,Ai]
theorem Fr.refl(a:Ai U):Fr S U U:=⟨a,AL _,λ_ _ _=>rfl⟩
theorem Fr.mono(h:Fr S U U')(e:∀b,b<U.j->S b->T b):Fr T U U':=⟨h.y,h.le,λb a d=>h.same b a λc=>d (e b a c)⟩
theorem Fr.trans(h:Fr S U U')(k:Fr T U' U'')(f:∀b,b<U.j->T b->S b):Fr S U U'':=
 ⟨k.y,BE h.le k.le,λb a e=>(k.same b (Eh a h.le) λc=>e (f b a c)).trans (h.same b a e)⟩
theorem Fr.X(h:Fr S U U')(a:Bx U b l)(c:Ai U)(d:¬S b):Bx U' b l:=(h.same b (a.lt c) d).trans a
theorem L0 c k:BX (Gl U b c).F k=if b=k then some c else BX U.F k:=by grind [BG,Sh]
theorem Y0 m:Bx (Gl U b (.cells m)) b m:=by grind [Bx,L0]
theorem Fr.set(l:Ai U)(m:b<U.j) c:Fr (λk=>k=b) U (Gl U b c):=by
 refine⟨λk g=>?_,AL _,λk g j=>?_⟩
 ·have f:U.j<=k:=g
  rw[L0,if_neg (by omega)];exact l k f
 ·rw[L0,if_neg (λh=>j h.symm)]
theorem Kt l:Bx (Cb U (.cells l)) U.j l:=by grind [Bx,Cb,Aj]
theorem Fr.new(h:Ai U) c:Fr S U (Cb U c):=by
 refine⟨λk e=>?_,El _,λk e i=>?_⟩
 ·have f:U.j+1<=k:=e
  show BX ((U.j,c)::U.F) _=_;rw[Aj,if_neg (by omega)];exact h k (by omega)
 ·show BX ((U.j,c)::U.F) _=_
  rw[Aj,if_neg (by omega)]
theorem Tt{J}(h:Bx U b l):xg E U b J=J l:=by grind [Bx,xg]
theorem PE{J o v}(h:yx l o=some v):KG l o J=J v:=by grind [KG]
theorem AE7{J o v}(h:Bx U b l)(a:yx l o=some v):DF E U b o J=J v:=(Tt h).trans (PE a)
theorem GS{J o v}(h:Bx U b l)(c:l[o]? = some v):DF E U b o J=J v:=by grind [AE7,Mg]
theorem E2{J o n}(h:o+n<=l.length):FD l o n J=J ((l.drop o).take n):=by grind [FD,MC]
theorem HJ{c a}(h:c=true):JI c a=a:=by rw[h];rfl
theorem Ed{J}{n o:Nat}{v:V}(h:Bx U b l)(c:(Ar v.cells.length n&&Am (AM o n) l.length&&BH v.cells)=true):DO n b o v U J=J (Gl U b (.cells (FW l o v.cells))):=by grind [Bx,DO,HJ]
theorem GQ m n:C5 (AA m) (AA n)=decide (m<n):=by grind [qA]
theorem Jb m n:HL (AA m) (AA n)=decide (m<=n):=by grind [ZY]
theorem My m n:B8 (AA m) (AA n)=decide (m=n):=by grind [NX]
theorem BJ{k m}(h:m<=J1 k):An k (AA m)=AA m:=
 (EJ _ _).trans (Tj (show Am m (J1 k)=true from MC h))
theorem Al{m n}(h:m+n<=9223372036854775807):BQ .i64 (AA m) (AA n)=AA (m+n):=by
 exact BJ h
theorem E8{m n}(h:n<=m)(d:m<=9223372036854775807):Dj .i64 (AA m) (AA n)=AA (m-n):=by
 have e:Int.sub (AA m) (AA n)=AA (m-n):=by
  show m-n=((m-n:Nat):Int);omega
 show An .i64 (Int.sub (AA m) (AA n))=_;rw[e];exact BJ (show m-n<=9223372036854775807 by omega)
theorem XY{s:BS}{i J}(h:i<s.len):C8 s (AA i) J=J (AA (s.get i)):=by
 show JI (B9 i s.len) _=_;exact HJ (by simpa[Co]using h)
theorem J9{s:BS}{i J}(h:i<=s.len):DQ s (some (.int .i64 (AA i))) none J=J (s.sub i s.len):=by
 show JI (Am i s.len&&Am s.len s.len) _=_;exact HJ (by simp[h])
theorem Tp{s:BS}{i J}(h:i<=s.len):DQ s none (some (.int .i64 (AA i))) J=J (s.sub 0 i):=by
 show JI (Am 0 i&&Am i s.len) _=_;exact HJ (by simp[h])
theorem H2{s:BS}{i j J}(h:i<=j)(c:j<=s.len):DQ s (some (.int .i64 (AA i))) (some (.int .i64 (AA j))) J=J (s.sub i j):=by
 show JI (Am i j&&Am j s.len) _=_;exact HJ (by simp[h,c])
def Sl(U:H)(a k:Nat)(v:V)(l:List V):Prop:=(k=0/\v = .h/\l=[])\/(∃b,v = .D b 0 k (.op a)/\Bx U b l/\0<k/\l.length=k*a)
theorem Sl.nil U b:Sl U b 0 .h []:=by grind [Sl]
theorem Sl.length{a k v}(h:Sl U a k v l):l.length=k*a:=by grind [Sl]
theorem Sl.Z{c k v}(h:Sl U c k v l)(f:Fr S U U')(j:Ai U)(e:∀b,AJ v b->¬S b):Sl U' c k v l:=by
 rcases h with h|⟨b,rfl,m,g,i⟩
 ·exact .inl h
 ·exact .inr ⟨b,rfl,f.X m j (e b rfl),g,i⟩
end
theorem Sl.S{U l c k}{v:V}(h:Sl U c k v l):v.S=true:=by
 rcases h with ⟨_,rfl,_⟩|⟨b,rfl,_⟩<;>rfl
section
variable {E:EB}{U U' U'':H}{b b':Nat}{l m:List V}{S T:Nat->Prop}
theorem Sl.ip{b k v J}(h:Sl U b k v l):Ao v J=J k:=by grind [Sl,Ao]
theorem Sl.lt{f k v}(h:Sl U f k v l)(j:Ai U)(g:AJ v b):b<U.j:=by
 rcases h with ⟨_,rfl,_⟩|⟨c,rfl,i,_⟩
 ·exact g.elim
 ·cases g;exact i.lt j
theorem fR{a n xb b d J}(h:Bx U xb m)(c:b+n*a<=m.length):srcK E U a (.D xb b n d) J=J n ((m.drop b).take (n*a)):=
 (Tt h).trans (E2 c)
theorem kW{b o n c J}:J7 E U (.D b o n c) J=srcK E U 1 (.D b o n c) λ_ l=>match Fv l with | some s=>J (BS.ofList s) | none=>none:=rfl
theorem W6{b o n c a}:CI (.D b o n c) a=a:=rfl
theorem CC{a b o n i c J}(h:i<n):AS a (.D b o n c) (AA i) J=J b (AM o (NJ i a)):=by
 show JI (B9 i n) _=_;exact HJ (by simpa[Co]using h)
theorem QJ(l:EB) id a:BX (drop l id) a=if id=a then none else BX l a:=by grind [BG,NT]
end
theorem JA k n J:DZ k (.int k n) J=J n:=by simp[DZ]
theorem ON b J:DB (.bool b) J=J b:=rfl
theorem SN s J:HY (.N s) J=J s:=rfl
theorem SO b o J:BL (.o b o) J=J b o:=rfl
theorem SQ l J:Cp (.agg l) J=J l:=rfl
theorem SM l J:H3 (.B l) J=J l:=rfl
theorem OM v l J:Ab (v::l) J=J v l:=rfl
theorem SP a:Ay [] a=a:=rfl
theorem Of v U J:CD (some (v,U)) J=J v U:=rfl
def BS.mt(s:BS):List Nat:=s.toList.map UInt8.toNat
theorem BS.length_nats(s:BS):s.mt.length=s.len:=by simp[BS.mt,BS.length_toList]
theorem BS.nats_get{s:BS}{i}(h:i<s.len):s.mt[i]? = some (s.get i):=by
 simp only[BS.mt,As,BS.getElem?_toList,if_pos h,Cl,UInt8.toNat_ofNat'];rw[Dn (s.get_lt i)]
theorem BS.nats_lt(s:BS):∀c∈s.mt,c<256:=by
 intro c g;simp only[BS.mt,Fb]at g;obtain⟨u,_,rfl⟩:=g;exact u.toNat_lt
theorem BS.nats_cat(a b:BS):(a.cat b).mt=a.mt++b.mt:=by simp[BS.mt,BS.toList_cat]
theorem BS.nats_sub{s:BS}{lo a}(h:a<=s.len):(s.sub lo a).mt=(s.mt.drop lo).take (a-lo):=by
 simp[BS.mt,BS.toList_sub h]
theorem XP{l m:List UInt8}(h:l.map UInt8.toNat=m.map UInt8.toNat):l=m:=by
 have c:=congrArg (List.map UInt8.ofNat) h;simpa[Function.comp_def]using c
theorem BS.beq_nats(a b:BS):a.beq b=decide (a.mt=b.mt):=by grind [BS.beq_eq,BS.mt,XP]
def BS.canon(s:BS):Prop:=s.val<2 ^ (8*s.len)
theorem BS.canon_low{s:BS}(h:s.canon):s.low=s.val:=Dn h
theorem BS.canon_ext{a b:BS}(k:a.canon)(i:b.canon)(h:a.mt=b.mt):a=b:=by
 have j:=XP h;have ⟨e,g⟩:=BS.get_eq j;have:=(BS.low_eq e).2 g;rw[BS.canon_low k,BS.canon_low i]at this;cases a;cases b;simp at e this;subst e;subst this;rfl
theorem BS.sub_canon(s:BS) lo a:(s.sub lo a).canon:=Jr _ (nO (by decide))
def BB:List Nat->BS
 | []=>⟨0,0⟩
 | c::l=>⟨Nat.succ (BB l).len,AM c (NJ 256 (BB l).val)⟩
theorem ZP:∀{l:List Nat},(∀c∈l,c<256)->BB l=BS.ofList (l.map UInt8.ofNat)
 | [],_=>rfl | c::l,h=>by
  have i:(UInt8.ofNat c).toNat=c:=by simp only[UInt8.toNat_ofNat'];exact Dn (h c (by simp))
  have f:=ZP (λd g=>h d (Az _ g));show BS.mk (Nat.succ (BB l).len) (AM c (NJ 256 (BB l).val))=BS.mk (Nat.succ (BS.ofList (l.map UInt8.ofNat)).len) (AM (UInt8.ofNat c).toNat (NJ 256 (BS.ofList (l.map UInt8.ofNat)).val));rw[f,i]
theorem IW:∀l,(BB l).len=l.length:=by intro x;induction x with grind [BB]
theorem JC{l:List Nat}(h:∀c∈l,c<256):(BB l).mt=l:=by
 rw[ZP h];apply Hp;intro i;by_cases j:i<l.length
 ·have n:(BS.ofList (l.map UInt8.ofNat)).len=l.length:=by rw[BS.len_ofList,Bp]
  rw[BS.nats_get (by omega)];have m:(l.map UInt8.ofNat)[i]? = some (UInt8.ofNat l[i]):=by simp[j]
  rw[BS.get_ofList _ _ _ m];simp only[UInt8.toNat_ofNat',AI j];rw[Dn (h _ (Gg j))]
 ·rw[A4 (by rw[BS.length_nats,BS.len_ofList,Bp];omega),A4 (by omega)]
theorem NS:∀{l},(∀c∈l,c<256)->(BB l).canon
 | [],_=>by show 0<2 ^ (8*0);decide
 | c::l,h=>by
  have j:(BB l).val<2 ^ (8*(BB l).len):=NS (λd g=>h d (by simp[g]));have i:=h c (by simp);show c+256*(BB l).val<2 ^ (8*((BB l).len+1));have e:2 ^ (8*((BB l).len+1))=256*2 ^ (8*(BB l).len):=by
   rw[Nat.mul_add,Nat.pow_add];simp[ABv]
  rw[e];omega
theorem yT{s:BS}{lo a}(h:a<=s.len):s.sub lo a=BB ((s.mt.drop lo).take (a-lo)):=by
 have d:∀c∈(s.mt.drop lo).take (a-lo),c<256:=λc e=>s.nats_lt c (nQ (List.mem_of_mem_take e));exact BS.canon_ext (s.sub_canon lo a) (NS d) (by rw[BS.nats_sub h,JC d])
def Ot(s:BS)(i:Nat)(r:List Nat):Prop:=i<=s.len/\s.mt.drop i=r
section
variable {s:BS}{i:Nat}{r:List Nat}
theorem Ot.start(s:BS):Ot s 0 s.mt:=by grind [Ot]
theorem Ot.len(h:Ot s i r):i+r.length=s.len:=by grind [Ot,BS.length_nats]
theorem Ot.bd(h:Ot s i r):∀c∈r,c<256:=λc a=>s.nats_lt c (nQ (h.2 ▸ a))
theorem Ot.drop(h:Ot s i r){k}(c:k<=r.length):Ot s (i+k) (r.drop k):=by
 refine⟨by have:=h.len;omega,?_⟩;rw[<-h.2,Cd]
theorem Ot.tail{c}(h:Ot s i (c::r)):Ot s (i+1) r:=h.drop (by simp)
theorem Ot.get?(h:Ot s i r) k:r[k]? = if i+k<s.len then some (s.get (i+k))else none:=by grind [Ot,BS.nats_get,BS.length_nats]
theorem Ot.getD_lt(h:Ot s i r){k}(a:i+k<s.len):r.getD k 0=s.get (i+k):=by
 rw[BK,h.get?,if_pos a];rfl
theorem Ot.sub(h:Ot s i r){k}(b:k<=r.length):s.sub i (i+k)=BB (r.take k):=by
 have:=h.len;rw[yT (by omega),h.2,DL]
theorem Ot.subAll(h:Ot s i r):s.sub i s.len=BB r:=by
 have:=h.len;rw[show s.len=i+r.length by omega,h.sub (AL _),Iz]
end
end
end Go.Og
set_option linter.all false
namespace Go.Og
noncomputable section
section
variable {E:EB}{D:Ac}{n0 n i:Nat}{o:BO}{l:List BO}{p:DP}{pl:List DP}{s:DS}{v:V}
theorem GW(d:o.guard=none)(c:o.op.d8 = .p)(b:Bb o.op (restr p.looks s.e)=some v):
  Ch E D n0 n i (o::l) (p::pl) s=Ch E D n0 n (i+1) l pl { s with e:=DY s.e o.dst v }:=by grind [Ch,KR,B0]
theorem Xi{h b}(j:o.guard=none)(g:o.op.d8 = .l)(f:s.ss=h::b)(d:Ct E o.op (restr p.looks s.e) ⟨s.nx,Ce n0 n (Dw p.wt s.am) h⟩=some v):
  Ch E D n0 n i (o::l) (p::pl) s=Ch E D n0 n (i+1) l pl { s with e:=DY s.e o.dst v,ls:=(i,o.op,restr p.looks s.e,v)::s.ls }:=by grind [Ch,KR,B0]
theorem qb{b}(h:o.guard=none)(g:o.op.d8 = .a)(f:C1 o.op (restr p.looks s.e) (n0+i)=some (v,b)):
  Ch E D n0 n i (o::l) (p::pl) s=Ch E D n0 n (i+1) l pl { s with e:=DY s.e o.dst v,ss:=s.ss.map ((n0+i,b)::·),am:=s.am ||| 2 ^ i }:=by grind [Ch,KR,B0]
theorem Ss{b id am'}(j:o.guard=none)(h:o.op.d8 = .a)(c:n0+i=id)(d:s.am ||| 2 ^ i=am')(g:C1 o.op (restr p.looks s.e) id=some (v,b)):
  Ch E D n0 n i (o::l) (p::pl) s=Ch E D n0 n (i+1) l pl { s with e:=DY s.e o.dst v,ss:=s.ss.map ((id,b)::·),am:=am' }:=by grind [qb]
theorem Xj{h ss}{U':H}(j:o.guard=none)(g:o.op.d8 = .k)(f:s.ss=h::ss)(c:ES E D o.op (restr p.looks s.e) ⟨s.nx,Ce n0 n (Dw p.wt s.am) h⟩=some (v,U')):
  Ch E D n0 n i (o::l) (p::pl) s=Ch E D n0 n (i+1) l pl { s with e:=DY s.e o.dst v,nx:=U'.j,ss:=(FH n0 n (Dw p.wt s.am) h++U'.F)::s.ss,ks:=i::s.ks }:=by grind [Ch,KR,B0]
theorem IA:Ch E D n0 n i [] pl s=some s:=by grind [Ch]
theorem QX{ops:List BO}{e}{U:H}{h b}(i:Ch E D U.j ops.length 0 ops pl ⟨e,U.j+ops.length,[U.F],[],0,[]⟩=some s)
  (f:s.ls.all (λ(j,c,d,v)=>Fz E U.j ops.length pl s.am j c d v s.ss s.ks [])=true) (g:s.ss=h::b) :
  AV E D ops pl e U=some (s.e,⟨s.nx,Ce U.j ops.length (λk=>s.am.testBit k) h⟩):=by grind [AV]
end
section
variable {E:EB}{n0 n am j:Nat}{pl:List DP}{op:Ek}{em:CF}{v:V}{h:EB}{ss:List (EB)}{k:Nat}{ks more:List Nat}
theorem Qe(g:FG pl j (k::ks) more=false):Fz E n0 n pl am j op em v (h::ss) (k::ks) more=Fz E n0 n pl am j op em v ss ks (k::more):=by grind [Fz]
end
section
variable {n0 n:Nat}{p:Nat->Bool}{l:EB}
theorem XZ:∀{l:EB},(∀id,n0<=id->id<n0+n->look l id=none)->Ce n0 n p l=l
 | [],_=>rfl | (k,b)::l,h=>by
  have o:¬(n0<=k/\k<n0+n):=λ⟨h1,g⟩=>by
   have:=h k h1 g;simp[look]at this
  have q:(Am n0 k&&B9 k (n0+n) && !p (k-n0))=false:=by
   cases m:(Am n0 k&&B9 k (n0+n) && !p (k-n0))with
   | false=>rfl | true=>simp at m;exact(o m.1).elim
  unfold Ce;rw[q];simp;rw[XZ];intro id h1 g;have:=h id h1 g;simp only[look]at this;split at this
  ·cases this
  ·exact this
theorem XV:∀{l:EB},(∀id,n0<=id->id<n0+n->look l id=none)->FH n0 n p l=[]
 | [],_=>rfl | (k,b)::l,h=>by
  have o:¬(n0<=k/\k<n0+n):=λ⟨h1,g⟩=>by
   have:=h k h1 g;simp[look]at this
  have q:(Am n0 k&&B9 k (n0+n) && !p (k-n0))=false:=by
   cases m:(Am n0 k&&B9 k (n0+n) && !p (k-n0))with
   | false=>rfl | true=>simp at m;exact(o m.1).elim
  unfold FH;rw[q];simp;rw[XV];intro id h1 g;have:=h id h1 g;simp only[look]at this;split at this
  ·cases this
  ·exact this
theorem GJ:∀{l:EB},(∀i,i<n->p i=false->look l (n0+i)=none)->Ce n0 n p l=l/\FH n0 n p l=[]
 | [],_=>⟨rfl,rfl⟩ | (k,b)::l,h=>by
  have u:(Am n0 k&&B9 k (n0+n) && !p (k-n0))=false:=by
   cases r:(Am n0 k&&B9 k (n0+n) && !p (k-n0))with
   | false=>rfl | true=>
    exfalso;simp at r;have:=h (k-n0) (by omega) r.2;rw[show n0+(k-n0)=k by omega]at this;simp[look]at this
  have m:=GJ (λi t s=>by
   have:=h i t s;simp only[look]at this;split at this
   ·cases this
   ·exact this)
  unfold Ce FH;rw[u];simp;exact⟨by rw[m.1],m.2⟩
theorem Ai.gap{U:H}(h:Ai U) n:∀id,U.j<=id->id<U.j+n->look U.F id=none:=by grind [Ai,BG]
theorem Ai.wide{U:H}(h:Ai U) n:Ai ⟨U.j+n,U.F⟩:=by grind [Ai]
theorem Fr.gap{S}{U U':H}{n}(f:Fr S ⟨U.j+n,U.F⟩ U')(d:Ai U)(e:∀b,S b->b<U.j):∀id,U.j<=id->id<U.j+n->look U'.F id=none:=λid h1 g=>by
 have:=f.same id g (λh=>by have:=e id h;omega);rw[<-BG,this];exact d id h1
theorem Ip{id}(h:id<n0):look (Ce n0 n p l) id=look l id:=by grind [D0]
theorem QI{i}(h:p i=true):look (Ce n0 n p l) (n0+i)=look l (n0+i):=by grind [D0]
theorem SA{id}(h:n0+n<=id):look (Ce n0 n p l) id=look l id:=by grind [D0]
theorem Fa{α k id b}{l:List (Nat × α)}(h:k≠id):look ((k,b)::l) id=look l id:=by simp[look,h]
theorem UB{α k b}{l:List (Nat × α)}:look ((k,b)::l) k=some b:=by simp[look]
theorem zK{E x e b off d}{h:EB}{c v}(g:Ca e x = .o b off)(f:look h b=some (.cells c))(i:c[off]? = some v):
  Ct E (.load none x) e ⟨d,h⟩=some v:=by grind [Ct,rd]
end
section
variable {E:EB}{D:Ac}{n0 n i:Nat}{d:Option Nat}{o:Ek}{l:List BO}{anc:Nat}{lk:List Nat}{pl:List DP}{e:CF}{nx am:Nat}{ss:List (EB)}{h:EB}{ks:List Nat}{ls:List (Nat × Ek × CF × V)}
theorem dp v (m:o.d8 = .p)(h:Bb o (restr lk e)=some v):Ch E D n0 n i (⟨d,o,none⟩::l) (⟨anc,lk⟩::pl) ⟨e,nx,ss,ks,am,ls⟩=Ch E D n0 n (i+1) l pl ⟨DY e d v,nx,ss,ks,am,ls⟩:=
 GW rfl m h
theorem dl v (p:o.d8 = .l)(j:Ct E o (restr lk e) ⟨nx,Ce n0 n (Dw anc am) h⟩=some v):Ch E D n0 n i (⟨d,o,none⟩::l) (⟨anc,lk⟩::pl) ⟨e,nx,h::ss,ks,am,ls⟩=Ch E D n0 n (i+1) l pl ⟨DY e d v,nx,h::ss,ks,am,(i,o,restr lk e,v)::ls⟩:=
 Xi rfl p rfl j
theorem da v b id am' (q:o.d8 = .a)(c:n0+i=id)(a:am ||| 2 ^ i=am')(m:C1 o (restr lk e) id=some (v,b)):Ch E D n0 n i (⟨d,o,none⟩::l) (⟨anc,lk⟩::pl) ⟨e,nx,ss,ks,am,ls⟩=Ch E D n0 n (i+1) l pl ⟨DY e d v,nx,ss.map ((id,b)::·),ks,am',ls⟩:=
 Ss rfl q c a m
theorem dk v f c (x:o.d8 = .k)(t:Ce n0 n (Dw anc am) h=h/\FH n0 n (Dw anc am) h=[])(w:ES E D o (restr lk e) ⟨nx,h⟩=some (v,⟨f,c⟩)):Ch E D n0 n i (⟨d,o,none⟩::l) (⟨anc,lk⟩::pl) ⟨e,nx,h::ss,ks,am,ls⟩=Ch E D n0 n (i+1) l pl ⟨DY e d v,f,c::h::ss,i::ks,am,ls⟩:=by
 have:=Xj (i:=i) (o:=⟨d,o,none⟩) (l:=l) (p:=⟨anc,lk⟩) (pl:=pl) (s:=⟨e,nx,h::ss,ks,am,ls⟩) rfl x rfl (by show ES E D o (restr lk e) ⟨nx,Ce n0 n (Dw anc am) h⟩=_;rw[t.1];exact w);rw[this];show Ch E D n0 n (i+1) l pl ⟨DY e d v,f,(FH n0 n (Dw anc am) h++c)::h::ss,i::ks,am,ls⟩=_;rw[t.2];rfl
end
end
end Go.Og
set_option linter.all false
namespace Go.Og
noncomputable section
mutual
def V.rn(ρ:Nat->Nat):V->V
 | .o b o => .o (ρ b) o
 | .D b o n c => .D (ρ b) o n c
 | .sle b o k e => .sle (ρ b) o k e
 | .mp b => .mp (ρ b)
 | .fn f a c => .fn f (Wc ρ a) (Wc ρ c)
 | .ifc t v => .ifc t (V.rn ρ v)
 | .agg l => .agg (Wc ρ l)
 | .B l => .B (Wc ρ l)
 | v=>v
def Wc(ρ:Nat->Nat):List V->List V
 | []=>[]
 | v::l=>V.rn ρ v::Wc ρ l
end
mutual
def V.inn(p:Nat->Bool):V->Bool
 | .i5=>false
 | .o b _=>p b
 | .D b _ _ _=>p b
 | .sle b _ _ _=>p b
 | .mp b=>p b
 | .fn _ a c=>LP p a&&LP p c
 | .ifc _ v=>V.inn p v
 | .agg l=>LP p l
 | .B l=>LP p l
 | _=>true
def LP(p:Nat->Bool):List V->Bool
 | []=>true
 | v::l=>V.inn p v&&LP p l
end
section
variable {R S:DN}{p:Nat->Bool}{ρ:Nat->Nat}
mutual
theorem Jk(h:∀b,p b=true->S (ρ b)=R b):∀v:V,V.inn p v=true->Av S (V.rn ρ v)=Av R v
 | .i5,hc=>by simp[V.inn]at hc
 | .o b o,hc=>by
  simp only[V.inn]at hc
  simp only[V.rn,Av,h b hc]
 | .D b o n (.ex c),hc=>by
  simp only[V.inn]at hc
  simp only[V.rn,Av,h b hc]
 | .D b o n (.op c),hc=>by
  simp only[V.inn]at hc
  simp only[V.rn,Av,h b hc]
 | .sle b o k e,hc=>by
  simp only[V.inn]at hc
  simp only[V.rn,Av,h b hc]
 | .mp b,hc=>by
  simp only[V.inn]at hc
  simp only[V.rn,Av,h b hc]
 | .bool _,_=>rfl
 | .int _ _,_=>rfl
 | .N _,_=>rfl
 | .nilp,_=>rfl
 | .h,_=>rfl
 | .nilm,_=>rfl
 | .nilf,_=>rfl
 | .nili,_=>rfl
 | .fn f a c,hc=>by
  simp only[V.inn,AQ]at hc
  simp only[V.rn,Av,JH h a hc.1,JH h c hc.2]
 | .ifc t v,hc=>by
  simp only[V.inn]at hc
  simp only[V.rn,Av,Jk h v hc]
 | .agg l,hc=>by
  simp only[V.inn]at hc
  simp only[V.rn,Av,JH h l hc]
 | .B l,hc=>by
  simp only[V.inn]at hc
  simp only[V.rn,Av,JH h l hc]
theorem JH(h:∀b,p b=true->S (ρ b)=R b):∀l:List V,LP p l=true->BF S (Wc ρ l)=BF R l
 | [],_=>rfl
 | v::l,hc=>by
  simp only[LP,AQ]at hc
  simp only[Wc,BF,Jk h v hc.1,JH h l hc.2]
end
theorem fX:∀l (k:Nat),(Wc ρ l)[k]? = (l[k]?).map (V.rn ρ):=by intro x;induction x with grind [Wc]
theorem Py:∀(l:List V),(Wc ρ l).length=l.length:=by intro x;induction x with grind [Wc]
theorem XX:∀{l}{k:Nat}{v},LP p l=true->l[k]? = some v->V.inn p v=true:=by intro x;induction x with grind [LP]
def rnp(ρ:Nat->Nat):List (V × V)->List (V × V)
 | []=>[]
 | q::l=>(V.rn ρ q.1,V.rn ρ q.2)::rnp ρ l
def lO(p:Nat->Bool):List (V × V)->Bool
 | []=>true
 | q::l=>V.inn p q.1&&V.inn p q.2&&lO p l
def G5.rn(ρ:Nat->Nat):G5->G5
 | .cells l => .cells (Wc ρ l)
 | .map l => .map (rnp ρ l)
 | .siter s q => .siter s q
 | .unit t => .unit t
def G5.inn(p:Nat->Bool):G5->Bool
 | .cells l=>LP p l
 | .map l=>lO p l
 | .siter _ _=>true
 | .unit _=>true
theorem DV.rn(h:∀b,p b=true->S (ρ b)=R b):∀{l g},lO p l=true->(DV S (rnp ρ l) g↔DV R l g)
 | [],[],_=>Iff.rfl | (a,b)::l,e::g,f=>by
  simp only[lO,AQ]at f;simp only[rnp,DV,Jk h a f.1.1,Jk h b f.1.2,DV.rn h f.2]
 | [],_::_,_=>Iff.rfl | _::_,[],_=>Iff.rfl
theorem II.rn(h:∀b,p b=true->S (ρ b)=R b){s l f}(q:LP p l=true):II S s (Wc ρ l) f↔II R s l f:=by
 constructor
 ·intro j k v g
  have ⟨a,m,h1,n⟩:=j k (V.rn ρ v) (by rw[fX,g];rfl);exact⟨a,(Jk h v (XX q g)).symm.trans m,h1,n⟩
 ·intro j k v g
  rw[fX,Aa]at g;obtain⟨u,o,rfl⟩:=g;have ⟨a,m,h1,n⟩:=j k u o;exact⟨a,(Jk h u (XX q o)).trans m,h1,n⟩
theorem Ff.rn(h:∀b,p b=true->S (ρ b)=R b){i:BI}{b:G5}{w}(m:b.inn p=true):Ff S i (b.rn ρ) w↔Ff R i b w:=by
 cases b with
 | cells l=>
  have e:=@II.rn R S p ρ h i.shift l;constructor
  ·rintro⟨j,z,lo,v,h1,g,o,k,n⟩
   exact⟨j,z,lo,v,h1,(e m).1 g,o,by rw[Py]at k;exact k,n⟩
  ·rintro⟨j,z,lo,v,h1,g,o,k,n⟩
   exact⟨j,z,lo,v,h1,(e m).2 g,o,by rw[Py];exact k,n⟩
 | map l=>
  constructor
  ·rintro⟨u,f,h1,g⟩
   exact⟨u,f,h1,(DV.rn h m).1 g⟩
  ·rintro⟨u,f,h1,g⟩
   exact⟨u,f,h1,(DV.rn h m).2 g⟩
 | siter s q=>exact Iff.rfl | unit t=>exact Iff.rfl
end
structure GY where
 n0:Nat
 args:List V
 bl0:EB
 v:V
 n1:Nat
 bl1:EB
def Ej(l:EB)(b:Nat):Bool:=match BX l b with
 | some _=>true
 | none=>false
def Qj(l:EB)(q:Nat->Bool):Bool:=l.all λx=>q x.1
def hZ(l:EB)(q:Nat->Bool):Bool:=l.all λx=>x.2.inn q
def GY.right(a:Nat)(F:List V->H->AE)(e:GY):Bool:=match F e.args ⟨e.n0,e.bl0⟩with
 | some (v,U)=>V.beq v e.v&&(lQ e.bl1 U.F&&(Ar U.j e.n1&&(Am e.n0 e.n1&&(Am a e.n0&&(Qj e.bl0 (λb=>Am a b&&B9 b e.n0)&&(hZ e.bl0 (Ej e.bl0)&&(LP (Ej e.bl0) e.args &&
   (Qj e.bl1 (λb=>Am e.n0 b || Ej e.bl0 b)&&(hZ e.bl1 (Ej e.bl1)&&V.inn (Ej e.bl1) e.v)))))))))
 | none=>false
def GY.to(e:GY)(ρ:Nat->Nat)(U:H)(id:Nat):Nat:=if id<e.n0 then ρ id else id-e.n0+U.j
def Md(ρ:Nat->Nat)(l:EB):EB:=l.map λx=>(ρ x.1,x.2.rn ρ)
def GY.old(e:GY)(ρ:Nat->Nat)(id:Nat):Bool:=e.bl0.any λx=>Ar (ρ x.1) id
def GY.ans(e:GY)(ρ:Nat->Nat)(U:H):V × H:=(e.v.rn (e.to ρ U),⟨U.j+(e.n1-e.n0),Md (e.to ρ U) e.bl1++U.F.filter λx=>!e.old ρ x.1⟩)
structure GY.Fits(e:GY)(ρ:Nat->Nat)(args:List V)(U:H):Prop where
 args:args=Wc ρ e.args
 F:∀id b,look e.bl0 id=some b->look U.F (ρ id)=some (b.rn ρ)
 inj:∀id id',Ej e.bl0 id=true->Ej e.bl0 id'=true->ρ id=ρ id'->id=id'
theorem D5{l b}:Ej l b=true↔∃c,look l b=some c:=by grind [Ej,BG]
theorem Ih{l q}(h:Qj l q=true){id b}(c:look l id=some b):q id=true:=by
 have:=EA.1 h (id,b) (HC c);exact this
theorem Qk{l q}(h:hZ l q=true){id}{b:G5}(c:look l id=some b):b.inn q=true:=by
 have:=EA.1 h (id,b) (HC c);exact this
theorem K0{ρ}:∀{l id b},look (Md ρ l) id=some b->∃k c,(k,c)∈l/\id=ρ k/\b=c.rn ρ
 | [],id,b,h=>by cases h
 | (k,c)::l,id,b,h=>by
  simp only[Md,C7,look]at h;split at h
  ·rename_i g
   have g:=CJ g;simp at h;exact⟨k,c,AZ,g.symm,h.symm⟩
  ·have ⟨o,m,h1,p,n⟩:=K0 h
   exact⟨o,m,Az _ h1,p,n⟩
theorem HD{q:Nat->Bool}:∀(l:EB) id,look (l.filter λx=>q x.1) id=if q id=true then look l id else none
 | [],id=>by simp[look]
 | (k,c)::l,id=>by
  by_cases h:q k=true
  ·rw[List.filter_cons_of_pos (by exact h)]
   simp only[look,HD l id];by_cases f:Ar k id=true
   ·have:=CJ f;subst this
    simp[h]
   ·simp[f]
  ·rw[List.filter_cons_of_neg (by exact h),HD l id]
   simp only[look];by_cases f:Ar k id=true
   ·have:=CJ f;subst this
    simp[h]
   ·simp[f]
theorem T6{e:GY}{ρ id}:e.old ρ id=true↔∃k c,(k,c)∈e.bl0/\ρ k=id:=by
 unfold GY.old;rw[List.any_eq_true];constructor
 ·rintro⟨⟨k,c⟩,h1,h⟩;exact⟨k,c,h1,CJ h⟩
 ·rintro⟨k,c,h1,h⟩;exact⟨(k,c),h1,by subst h;exact Gb _⟩
theorem IC:∀{l:EB}{k c},(k,c)∈l->∃d,look l k=some d
 | (j,d)::l,k,c,h=>by
  simp only[look];by_cases m:Ar j k=true
  ·exact⟨d,by simp[m]⟩
  ·simp only[m]
   rcases A0.1 h with h|h
   ·cases h;exact(m (Gb _)).elim
   ·simpa using IC h
theorem AE3{P G f}{F:List V->H->AE}(hS:Cr P [] G f F){ng}(hG:∀g,G g=true->g<ng){e:GY}(h:e.right ng F=true)
  {C:Cx} (hGC:C.G=G) {R:DN}{U:H}{w:World}{args:List V}{xs:List Value}{ρ:Nat->Nat} (hm:e.Fits ρ args U) (n:EN C R U w) (hxs:BF R args=some xs) :
  Jp P f=true/\Calls P f xs.toArray w λen w'=>∃R' x,HU U.j R R'/\U.j<=(e.ans ρ U).2.j/\EN C R' (e.ans ρ U).2 w'/\Av R' (e.ans ρ U).1=some x/\en = .returned x:=by
 unfold GY.right at h;cases hr:F e.args ⟨e.n0,e.bl0⟩with
 | none=>rw[hr]at h;cases h | some q=>
  have ⟨v,U1⟩:=q;rw[hr]at h;simp only[AQ,Bn]at h;have ⟨hv,hin,hnx,hn01,hng,hi0,hb0,ha0,hi1,hb1,hv1⟩:=h;have hv:=Nd _ _ hv;subst hv;have hin:=PG hin;have hnx:=CJ hnx;let R0:DN:=λid=>match Ej e.bl0 id with
   | true=>R (ρ id) | false=>if id<ng then some ⟨id,0,0⟩else none
  have hR0:∀b,Ej e.bl0 b=true->R (ρ b)=R0 b:=λb o=>by
   show R (ρ b)=(match Ej e.bl0 b with | true=>R (ρ b) | false=>_);rw[o]
  have hlt0:∀{id b},look e.bl0 id=some b->ng<=id/\id<e.n0:=λo=>by
   have:=Ih hi0 o;simpa[Co]using this
  have hxs0:BF R0 e.args=some xs:=by
   rw[hm.args,JH hR0 _ ha0]at hxs;exact hxs
  have I:∀id b,look e.bl0 id=some b->∃i,R (ρ id)=some i/\R0 id=some i/\C.O i.i2/\Ff R0 i b w:=λid b o=>by
   have ⟨i,z,M,hok⟩:=n.own _ _ (hm.F id b o);exact⟨i,z,(hR0 id (D5.2 ⟨_,o⟩)).symm.trans z,M,(Ff.rn hR0 (Qk hb0 o)).1 hok⟩
  let O0:Nat->Prop:=λE=>(∃id b i,look e.bl0 id=some b/\R (ρ id)=some i/\i.i2=E)\/w.heap.size<=E;have hrel0:EN ⟨O0,w,[],G⟩ R0 ⟨e.n0,e.bl0⟩ w:=by
   refine⟨?_,?_,?_,λid b o=>by simp[look]at o,?_,λ_ _=>rfl,AL _,λE o => .inr o,rfl,rfl,rfl⟩
   ·intro id L
    have hid':e.n0<=id:=L;have hd:Ej e.bl0 id=false:=by
     cases hc:Ej e.bl0 id with
     | false=>rfl | true=>
      have ⟨b,o⟩:=D5.1 hc;have:=(hlt0 o).2;omega
    show (match Ej e.bl0 id with | true=>R (ρ id) | false=>_)=none;rw[hd];exact if_neg (by omega)
   ·intro id b o
    have ⟨i,z,hi0',_,hok⟩:=I id b o;exact⟨i,hi0',.inl ⟨id,b,i,o,z,rfl⟩,hok⟩
   ·intro id D b b' i i' o p z r hbl
    have ⟨j,hj,hj0,_,_⟩:=I id b o;have ⟨j',hj',hj0',_,_⟩:=I D b' p;rw[hj0]at z;cases z;rw[hj0']at r;cases r;exact hm.inj id D (D5.2 ⟨_,o⟩) (D5.2 ⟨_,p⟩) (n.inj _ _ _ _ _ _ (hm.F _ _ o) (hm.F _ _ p) hj hj' hbl)
   ·intro g hg
    have hgn:=hG g hg;refine⟨⟨g,0,0⟩,?_,rfl,rfl⟩;have hd:Ej e.bl0 g=false:=by
     cases hc:Ej e.bl0 g with
     | false=>rfl | true=>
      have ⟨b,o⟩:=D5.1 hc;have:=(hlt0 o).1;omega
    show (match Ej e.bl0 g with | true=>R (ρ g) | false=>_)=_;rw[hd];exact if_pos hgn
  have ⟨hok,hc⟩:=hS ⟨O0,w,[],G⟩ rfl rfl R0 ⟨e.n0,e.bl0⟩ w e.args xs _ U1 hr hrel0 hxs0;refine⟨hok,hc.mono ?_⟩;rintro en w' ⟨R1,x,hE1,_,h3,h4,rfl⟩;have hE1:∀id,id<e.n0->R1 id=R0 id:=hE1;have keep:∀E,¬O0 E->w'.heap[E]? = w.heap[E]? := λE o=>h3.Z E o;let R':DN:=λid=>if id<U.j then R id else R1 (id-U.j+e.n0);have hext:HU U.j R R':=λid L=>by show (if id<U.j then _ else _)=_;rw[if_pos L]
  have T:Le R R':=hext.le n.kw;have hto:∀b,Ej e.bl1 b=true->R' (e.to ρ U b)=R1 b:=λb o=>by
   obtain⟨c,hc1⟩:=D5.1 o;have L:=Ih hi1 hc1;unfold GY.to;by_cases hl:b<e.n0
   ·rw[if_pos hl]
    have hd:Ej e.bl0 b=true:=by
     simp at L;rcases L with h|h
     ·omega
     ·exact h
    obtain⟨c0,hc0⟩:=D5.1 hd;have hlt:=n.next_of_own (hm.F b c0 hc0);rw[hext _ hlt,hE1 b hl,hR0 b hd]
   ·rw[if_neg hl]
    show (if b-e.n0+U.j<U.j then _ else R1 (b-e.n0+U.j-U.j+e.n0))=_;rw[if_neg (by omega)];congr 1;omega
  have K:∀{id b},look (Md (e.to ρ U) e.bl1) id=some b->∃k c i,id=e.to ρ U k/\look U1.F k=some c/\R1 k=some i/\R' id=some i/\O0 i.i2/\C.O i.i2/\Ff R' i b w':=λ{id b} o=>by
   obtain⟨k,c,hk,rfl,rfl⟩:=K0 o;have hl1:=hin (k,c) hk;obtain⟨d,hd⟩:=IC hk;have hdb:Ej e.bl1 k=true:=D5.2 ⟨_,hd⟩;obtain⟨i,z,M,y⟩:=h3.own k c hl1;have hcin:c.inn (Ej e.bl1)=true:=EA.1 hb1 (k,c) hk;refine⟨k,c,i,rfl,hl1,z,(hto k hdb).trans z,M,?_,(Ff.rn hto hcin).2 y⟩;rcases M with ⟨D,b',i',p,r,O⟩|M
   ·obtain⟨j,hj,_,hOj,_⟩:=I D b' p
    rw[hj]at r;cases r;rw[<-O];exact hOj
   ·exact n.new _ (BE n.size M)
  have hrest:∀{id b},look (U.F.filter λx=>!e.old ρ x.1) id=some b->id<U.j/\look U.F id=some b/\e.old ρ id=false:=λ{id b} o=>by
   rw[HD (q:=λk=>!e.old ρ k)]at o;split at o
   ·rename_i hq
    exact⟨n.next_of_own o,o,by simpa using hq⟩
   ·cases o
  have N:∀{id b i},look U.F id=some b->e.old ρ id=false->R id=some i->¬O0 i.i2:=λ{id b i} o ho z M=>by
   obtain⟨j,hj,_,y⟩:=n.own id b o;rw[z]at hj;cases hj;rcases M with ⟨D,b',i',p,r,O⟩|M
   ·have:=n.inj _ _ _ _ _ _ o (hm.F D b' p) z r O.symm
    have:e.old ρ id=true:=T6.2 ⟨D,b',HC p,this.symm⟩;rw[this]at ho;cases ho
   ·have:=y.lt;omega
  have J:∀{id b},look (Md (e.to ρ U) e.bl1++U.F.filter λx=>!e.old ρ x.1) id=some b->look (Md (e.to ρ U) e.bl1) id=some b\/(id<U.j/\look U.F id=some b/\e.old ρ id=false):=λ{id b} o=>by
   rw[KK]at o;cases hs:look (Md (e.to ρ U) e.bl1) id with
   | some c=>rw[hs]at o;exact .inl o | none=>rw[hs]at o;exact .inr (hrest o)
  refine⟨R',x,hext,FT _ _,⟨?_,?_,?_,?_,?_,?_,BE n.size h3.size,n.new,h3.os.trans n.os,h3.tape.trans n.tape,h3.output.trans n.output⟩,(Jk hto _ hv1).trans h4,rfl⟩
  ·intro id L
   have hid':U.j+(e.n1-e.n0)<=id:=L;show (if id<U.j then _ else R1 (id-U.j+e.n0))=none;rw[if_neg (by omega)];exact h3.kw _ (by rw[hnx];omega)
  ·intro id b o
   rcases J o with o|⟨hl,o,ho⟩
   ·obtain⟨k,c,i,_,_,_,z,_,M,y⟩:=K o
    exact⟨i,z,M,y⟩
   ·obtain⟨i,z,M,y⟩:=n.own id b o
    exact⟨i,T _ _ z,M,y.mono T (keep _ (N o ho z))⟩
  ·intro id D b b' i i' o p z r hbl
   have Q:∀{id b i},look U.F id=some b->R' id=some i->R id=some i:=λ{id b i} o z=>by
    obtain⟨j,hj,_,_⟩:=n.own id b o;have:=T _ _ hj;rw[z]at this;cases this;exact hj
   rcases J o with o|⟨hl,o,ho⟩<;>rcases J p with p|⟨hl',p,ho'⟩
   ·obtain⟨k,c,j,h1,h5,h6,h7,_⟩:=K o
    obtain⟨k',c',j',h1',h5',h6',h7',_⟩:=K p;rw[h7]at z;cases z;rw[h7']at r;cases r;have:=h3.inj k k' c c' _ _ h5 h5' h6 h6' hbl;rw[h1,h1',this]
   ·obtain⟨k,c,j,h1,h5,h6,h7,h8,_⟩:=K o
    rw[h7]at z;cases z;have hR:=Q p r;exact(N p ho' hR (hbl ▸ h8)).elim
   ·obtain⟨k,c,j,h1,h5,h6,h7,h8,_⟩:=K p
    rw[h7]at r;cases r;have hR:=Q o z;exact(N o ho hR (hbl ▸ h8)).elim
   ·exact n.inj id D b b' i i' o p (Q o z) (Q p r) hbl
  ·intro id b o
   obtain⟨i,z,M,y⟩:=n.ext id b o;refine⟨i,T _ _ z,M,y.mono T (keep _ ?_)⟩;rintro(⟨D,b',i',p,r,O⟩|hn)
   ·obtain⟨j,hj,_,hOj,_⟩:=I D b' p
    rw[hj]at r;cases r;exact M (O ▸ hOj)
   ·have:=y.lt;omega
  ·intro g hg
   obtain⟨i,z,o⟩:=n.glob g hg;exact⟨i,T _ _ z,o⟩
  ·intro E hn
   rw[<-n.Z E hn];refine keep E ?_;rintro(⟨D,b',i',p,r,O⟩|hn')
   ·obtain⟨j,hj,_,hOj,_⟩:=I D b' p
    rw[hj]at r;cases r;exact hn (O ▸ hOj)
   ·exact hn (n.new _ (BE n.size hn'))
def XT(l:List GY)(F:List V->H->AE):List V->H->AE:=λargs U=>by
 classical
 exact if h:∃q:GY × (Nat->Nat),q.1∈l/\q.1.Fits q.2 args U then some ((Classical.choose h).1.ans (Classical.choose h).2 U)else F args U
theorem qC{l F args U}{e:GY}{ρ}(g:e∈l)(f:e.Fits ρ args U):
  ∃e' ρ',e'∈l/\e'.Fits ρ' args U/\XT l F args U=some (e'.ans ρ' U):=by
 have h:∃q:GY × (Nat->Nat),q.1∈l/\q.1.Fits q.2 args U:=⟨(e,ρ),g,f⟩;refine⟨(Classical.choose h).1,(Classical.choose h).2,(Classical.choose_spec h).1,(Classical.choose_spec h).2,?_⟩;unfold XT;exact dif_pos h
theorem zJ{P G f}{F s:List V->H->AE}{E}(t:Cr P E G f F)(o:Cr P [] G f s){q}(x:∀g,G g=true->g<q){l}(u:∀e∈l,e.right q s=true):Cr P E G f (XT l F):=by
 intro C y k R U w args xs v U' i b j;unfold XT at i;split at i
 ·rename_i h
  simp at i;have:=AE3 o x (u _ (Classical.choose_spec h).1) k (Classical.choose_spec h).2 b j;rw[i]at this;exact this
 ·exact t C y k R U w args xs v U' i b j
end
end Go.Og
set_option linter.all false
namespace Go.Og
noncomputable section
def Has(l:EB)(ρ:Nat->Nat)(U:H):Prop:=∀id b,look l id=some b->BX U.F (ρ id)=some (b.rn ρ)
def Inj(l:EB)(ρ:Nat->Nat):Prop:=∀id a,Ej l id=true->Ej l a=true->ρ id=ρ a->id=a
theorem zY{e:GY}{ρ args U}(c:args=Wc ρ e.args)(d:Has e.bl0 ρ U)(f:Inj e.bl0 ρ):e.Fits ρ args U:=
 ⟨c,λid b h=>by rw[<-BG];exact d id b h,f⟩
def GY.shape(e:GY):Bool:=Qj e.bl0 (λb=>B9 b e.n0)&&(Qj e.bl1 (λb=>(Am e.n0 b || Ej e.bl0 b)&&B9 b e.n1)&&Am e.n0 e.n1)
section
variable {e:GY}{ρ:Nat->Nat}{args:List V}{U:H}
theorem GY.shape0(h:e.shape=true){id}(f:Ej e.bl0 id=true):id<e.n0:=by
 unfold GY.shape at h;simp at h;have ⟨c,g⟩:=D5.1 f;simpa[Co]using Ih h.1 g
theorem GY.shape1(h:e.shape=true){id}(g:Ej e.bl1 id=true):id<e.n1/\(e.n0<=id\/Ej e.bl0 id=true):=by
 unfold GY.shape at h;simp at h;have ⟨c,f⟩:=D5.1 g;have:=Ih h.2.1 f;simp at this;exact⟨this.2,this.1⟩
theorem GY.shapeN(h:e.shape=true):e.n0<=e.n1:=by
 unfold GY.shape at h;simp at h;exact h.2.2
theorem GY.Fits.lt(g:e.Fits ρ args U)(i:Ai U){id}(k:Ej e.bl0 id=true):ρ id<U.j:=by
 have ⟨c,j⟩:=D5.1 k;have h:=g.F id c j;rcases A2 (ρ id) U.j with d|d
 ·exact d
 ·have:=i _ d;rw[BG,h]at this;cases this
theorem GY.to_inj(r:e.shape=true)(o:e.Fits ρ args U)(s:Ai U):Inj e.bl1 (e.to ρ U):=by
 intro id f t p h;have h1:=(GY.shape1 r t).2;have g:=(GY.shape1 r p).2;unfold GY.to at h;by_cases m:id<e.n0
 ·have k:Ej e.bl0 id=true:=by rcases h1 with h1 | h1;omega;exact h1
  by_cases j:f<e.n0
  ·have i:Ej e.bl0 f=true:=by rcases g with g | g;omega;exact g
   rw[if_pos m,if_pos j]at h;exact o.inj _ _ k i h
  ·rw[if_pos m,if_neg j]at h
   have:=o.lt s k;omega
 ·by_cases j:f<e.n0
  ·have i:Ej e.bl0 f=true:=by rcases g with g | g;omega;exact g
   rw[if_neg m,if_pos j]at h;have:=o.lt s i;omega
  ·rw[if_neg m,if_neg j]at h;omega
theorem gR{l τ}(s:∀id e,Ej l id=true->Ej l e=true->τ id=τ e->id=e):∀{m:EB}{id}{b:G5},(∀x∈m,Ej l x.1=true)->look m id=some b->look (Md τ m) (τ id)=some (b.rn τ)
 | [],id,b,_,h=>by cases h
 | (k,c)::m,id,b,o,h=>by
  simp only[look]at h;simp only[Md,C7,look];by_cases n:Ar k id=true
  ·have:=CJ n;subst this
   rw[if_pos n]at h;cases h;rw[if_pos (Gb _)]
  ·rw[if_neg n]at h
   have q:=o (k,c) AZ;have p:=o (id,b) (Az _ (HC h));rw[if_neg (λu=>n (by have:=s k id q p (CJ u);subst this;exact Gb _))];exact gR s (λx t=>o x (Az _ t)) h
theorem GY.has(j:e.shape=true)(l:e.Fits ρ args U)(f:Ai U):Has e.bl1 (e.to ρ U) (e.ans ρ U).2:=by
 intro id b k;show BX (Md (e.to ρ U) e.bl1++U.F.filter λx=>!e.old ρ x.1) _=_;rw[BG,KK];rw[gR (GY.to_inj j l f) (λx h=>by
  have ⟨d,i⟩:=IC h;exact D5.2 ⟨_,i⟩) k]
theorem GY.Z(y:e.shape=true)(G:e.Fits ρ args U)(D:Ai U):Fr (λb=>e.old ρ b=true) U (e.ans ρ U).2:=by
 have L:=GY.shapeN y;refine⟨λb F=>?_,FT _ _,λb F E=>?_⟩
 ·have K:U.j+(e.n1-e.n0)<=b:=F
  show BX (Md (e.to ρ U) e.bl1++U.F.filter λx=>!e.old ρ x.1) b=none;rw[BG,KK];cases B:look (Md (e.to ρ U) e.bl1) b with
  | some c=>
   exfalso;have ⟨k,I,z,o,_⟩:=K0 B;have ⟨d,w⟩:=IC z;have l:=GY.shape1 y (D5.2 ⟨d,w⟩);unfold GY.to at o;by_cases s:k<e.n0
   ·rw[if_pos s]at o
    have r:Ej e.bl0 k=true:=by rcases l.2 with h | h;omega;exact h
    have:=G.lt D r;omega
   ·rw[if_neg s]at o
    have:=l.1;omega
  | none=>
   simp;rw[HD (q:=λk=>!e.old ρ k)];split
   ·rw[<-BG];exact D b (by omega)
   ·rfl
 ·show BX (Md (e.to ρ U) e.bl1++U.F.filter λx=>!e.old ρ x.1) b=_
  rw[BG,KK];cases B:look (Md (e.to ρ U) e.bl1) b with
  | some c=>
   exfalso;have ⟨k,I,z,o,_⟩:=K0 B;have ⟨d,w⟩:=IC z;have l:=GY.shape1 y (D5.2 ⟨d,w⟩);unfold GY.to at o;by_cases s:k<e.n0
   ·rw[if_pos s]at o
    have r:Ej e.bl0 k=true:=by rcases l.2 with h | h;omega;exact h
    have ⟨c0,v⟩:=D5.1 r;exact E (T6.2 ⟨k,c0,HC v,o.symm⟩)
   ·rw[if_neg s]at o;omega
  | none=>
   simp;rw[HD (q:=λk=>!e.old ρ k),if_pos (by
    cases J:e.old ρ b with
    | true=>exact(E J).elim | false=>rfl),BG]
end
end
end Go.Og
set_option linter.all false
namespace Go.Og
noncomputable section
section
variable {p:Nat->Bool}{ρ τ:Nat->Nat}
mutual
theorem rn_congr(h:∀b,p b=true->ρ b=τ b):∀v:V,V.inn p v=true->V.rn ρ v=V.rn τ v
 | .i5,hc=>by simp[V.inn]at hc
 | .o b o,hc=>by simp only[V.inn]at hc;simp only[V.rn,h b hc]
 | .D b o n c,hc=>by simp only[V.inn]at hc;simp only[V.rn,h b hc]
 | .sle b o k e,hc=>by simp only[V.inn]at hc;simp only[V.rn,h b hc]
 | .mp b,hc=>by simp only[V.inn]at hc;simp only[V.rn,h b hc]
 | .bool _,_=>rfl
 | .int _ _,_=>rfl
 | .N _,_=>rfl
 | .nilp,_=>rfl
 | .h,_=>rfl
 | .nilm,_=>rfl
 | .nilf,_=>rfl
 | .nili,_=>rfl
 | .fn f a c,hc=>by
  simp only[V.inn,AQ]at hc
  simp only[V.rn,Hq h a hc.1,Hq h c hc.2]
 | .ifc t v,hc=>by
  simp only[V.inn]at hc
  simp only[V.rn,rn_congr h v hc]
 | .agg l,hc=>by
  simp only[V.inn]at hc
  simp only[V.rn,Hq h l hc]
 | .B l,hc=>by
  simp only[V.inn]at hc
  simp only[V.rn,Hq h l hc]
theorem Hq(h:∀b,p b=true->ρ b=τ b):∀l:List V,LP p l=true->Wc ρ l=Wc τ l
 | [],_=>rfl
 | v::l,hc=>by
  simp only[LP,AQ]at hc
  simp only[Wc,rn_congr h v hc.1,Hq h l hc.2]
end
theorem SR(h:∀b,p b=true->ρ b=τ b):∀l,lO p l=true->rnp ρ l=rnp τ l
 | [],_=>rfl | q::l,d=>by
  simp only[lO,AQ]at d;simp only[rnp,rn_congr h q.1 d.1.1,rn_congr h q.2 d.1.2,SR h l d.2]
theorem G5.rn_congr(h:∀b,p b=true->ρ b=τ b){b:G5}(g:b.inn p=true):b.rn ρ=b.rn τ:=by
 cases b with
 | cells l=>exact congrArg G5.cells (Hq h l g) | map l=>exact congrArg G5.map (SR h l g) | siter s q=>rfl | unit t=>rfl
end
def GY.still(e:GY):Bool:=lQ e.bl0 e.bl1&&(hZ e.bl0 (Ej e.bl0)&&lQ e.bl0 e.bl0)
section
variable {e:GY}{ρ:Nat->Nat}{args:List V}{U:H}
theorem GY.fr0(i:e.shape=true)(m:e.still=true)(l:e.Fits ρ args U)(r:Ai U):Fr AH U (e.ans ρ U).2:=by
 have f:=GY.Z i l r;have y:=GY.has i l r;unfold GY.still at m;simp only[AQ]at m;obtain⟨h1,A,z⟩:=m;refine⟨f.y,f.le,λb j _=>?_⟩;by_cases u:e.old ρ b=true
 ·obtain⟨k,c,v,rfl⟩:=T6.1 u
  have o:=PG z (k,c) v;have C:=PG h1 (k,c) v;have x:=D5.2 ⟨_,o⟩;have n:=GY.shape0 i x;have w:=y k c C;have B:e.to ρ U k=ρ k:=by unfold GY.to;rw[if_pos n]
  rw[B]at w;rw[w,BG,l.F k c o];congr 1;refine(G5.rn_congr (λb j=>?_) (Qk A o)).symm;unfold GY.to;rw[if_pos (GY.shape0 i j)]
 ·exact f.same b j u
end
end
end Go.Og
set_option linter.all false
namespace Go.Og
noncomputable section
section
variable {E:EB}{U U':H}{b b':Nat}{l m:List V}
theorem AT{J o}(h:Bx U b l):DF E U b o J=KG l o J:=Tt h
theorem BU{J o n}(h:Bx U b l):Bv E U b o n J=FD l o n J:=Tt h
theorem Sb{a J}:KG (a::l) 0 J=J a:=rfl
theorem Sc{a n J}:KG (a::l) (n+1) J=KG l n J:=rfl
theorem AEY{a b J}:FD [a,b] 0 2 J=J [a,b]:=rfl
theorem AEX{a b c d J}:FD [a,b,c,d] 0 4 J=J [a,b,c,d]:=rfl
theorem AEW{a b c d e J}:FD [a,b,c,d,e] 0 4 J=J [a,b,c,d]:=rfl
theorem AEV{a b c d e f J}:FD [a,b,c,d,e,f] 0 6 J=J [a,b,c,d,e,f]:=rfl
theorem yV{a b c d e f g h i j k l m J}:FD [a,b,c,d,e,f,g,h,i,j,k,l,m] 0 13 J=J [a,b,c,d,e,f,g,h,i,j,k,l,m]:=rfl
theorem pA{a b c d e f g h i j k l m J}:FD [a,b,c,d,e,f,g,h,i,j,k,l,m] 2 6 J=J [c,d,e,f,g,h]:=rfl
theorem Dr l:(V.agg l).cells=l:=rfl
theorem mI k n:(V.int k n).cells=[.int k n]:=rfl
theorem mH b o:(V.o b o).cells=[.o b o]:=rfl
theorem Bg(v:V) l:BH (v::l)=(v.S&&BH l):=rfl
theorem CE:BH []=true:=rfl
theorem G3 k n:(V.int k n).S=true:=rfl
theorem G7 c:(V.bool c).S=true:=rfl
theorem FZ s:(V.N s).S=true:=rfl
theorem Me:V.h.S=true:=rfl
theorem AEp b o n c:(V.D b o n c).S=true:=rfl
theorem yu b o:(V.o b o).S=true:=rfl
theorem AME a:JI true a=a:=rfl
theorem Pv{a}:CI .h a=a:=rfl
theorem W7{b o a}:CI (.o b o) a=a:=rfl
theorem Bt{v:V}{a}(h:v.S=true):CI v a=a:=by grind [CI]
theorem Pt{J}:Ao .h J=J 0:=rfl
theorem W3{b o n c J}:Ao (.D b o n c) J=J n:=rfl
theorem Mi{n J}:T7 (AA n) J=J n:=rfl
theorem mC{c a b}(h:c=true):AK c a b=a:=by rw[h];rfl
theorem mD{c a b}(h:c=false):AK c a b=b:=by rw[h];rfl
theorem AFW{c a}(h:c=true):JI c a=a:=by rw[h];rfl
theorem UF f c d U:Ax f (λk=>AK c (k true U) (k d U))=f (c || d) U:=by cases c<;>rfl
theorem Mq f c d U:Ax f (λk=>AK c (k d U) (k false U))=f (c&&d) U:=by cases c<;>rfl
theorem gX f c U:Ax f (λk=>k c U)=f c U:=rfl
def Cv(U:H)(a n:Nat)(x:V)(m:List V):Prop:=(n=0/\x = .h/\m=[])\/∃b o c L,x = .D b o n c/\Bx U b L/\o+n*a<=L.length/\m=(L.drop o).take (n*a)
def DW(U:H)(a k:Nat)(v:V)(l:List V):Prop:=Sl U a k v l\/∃b,v = .D b 0 k (.ex k)/\Bx U b l/\l.length=k*a
theorem Cv.S{b n}{x:V}(h:Cv U b n x m):x.S=true:=by
 rcases h with ⟨_,rfl,_⟩|⟨_,_,_,_,rfl,_⟩<;>rfl
theorem Cv.ip{b n x J}(h:Cv U b n x m):Ao x J=J n:=by grind [Cv,Ao]
theorem Cv.length{a n x}(h:Cv U a n x m):m.length=n*a:=by grind [Cv]
theorem Cv.srcK{a n x J}(h:Cv U a n x m):srcK E U a x J=J n m:=by grind [Cv,srcK,fR]
theorem Cv.cells{a n x}(h:Cv U a n x m):C4 E U a x=some (n,m):=by
 rcases h with ⟨rfl,rfl,rfl⟩|⟨b,o,c,L,rfl,k,j,rfl⟩
 ·rfl
 ·show (P0 E U b o (n*a)).map _=_
  unfold P0 rd;rw[<-BG,show BX U.F b=some (.cells L)from k];simp only[];rw[show Am (o+n*a) L.length=true from MC j];rfl
theorem Cv.Z{S d n x}(h:Cv U d n x m)(f:Fr S U U')(j:Ai U)(g:∀b,AJ x b->¬S b):Cv U' d n x m:=by
 rcases h with h|⟨b,o,c,L,rfl,k,i,rfl⟩
 ·exact .inl h
 ·exact .inr ⟨b,o,c,L,rfl,f.X k j (g b rfl),i,rfl⟩
theorem Cv.lt{e n x}(h:Cv U e n x m)(i:Ai U)(f:AJ x b):b<U.j:=by
 rcases h with ⟨_,rfl,_⟩|⟨_,_,_,_,rfl,g,_⟩
 ·exact f.elim
 ·cases f;exact g.lt i
theorem DW.nil U a:DW U a 0 .h [] := .inl (Sl.nil U a)
theorem DW.length{b k v}(h:DW U b k v l):l.length=k*b:=by
 rcases h with h|⟨_,_,_,h⟩
 ·exact h.length
 ·exact h
theorem DW.S{c k}{v:V}(h:DW U c k v l):v.S=true:=by
 rcases h with h|⟨_,rfl,_⟩
 ·exact h.S
 ·rfl
theorem DW.ip{c k v J}(h:DW U c k v l):Ao v J=J k:=by
 rcases h with h|⟨_,rfl,_⟩
 ·exact h.ip
 ·rfl
theorem DW.lt{e k v}(h:DW U e k v l)(f:Ai U)(g:AJ v b):b<U.j:=by
 rcases h with h|⟨_,rfl,i,_⟩
 ·exact h.lt f g
 ·cases g;exact i.lt f
theorem DW.Z{S c k v}(h:DW U c k v l)(f:Fr S U U')(e:Ai U)(g:∀b,AJ v b->¬S b):DW U' c k v l:=by
 rcases h with h|⟨b,rfl,i,j⟩
 ·exact .inl (h.Z f e g)
 ·exact .inr ⟨b,rfl,f.X i e (g b rfl),j⟩
theorem DW.src{d k v}(h:DW U d k v l):Cv U d k v l:=by
 rcases h with (⟨rfl,rfl,rfl⟩|⟨b,rfl,f,_,g⟩)|⟨b,rfl,f,g⟩
 ·exact .inl ⟨rfl,rfl,rfl⟩
 ·exact .inr ⟨b,0,_,l,rfl,f,by omega,by rw[E7,<-g,Iz]⟩
 ·exact .inr ⟨b,0,_,l,rfl,f,by omega,by rw[E7,<-g,Iz]⟩
def TJ(v:V)(n:Nat):Prop:=v.S=true/\∀J,Ao v J=J n
theorem TJ.h:TJ .h 0:=⟨rfl,λ_=>rfl⟩
theorem TJ.D{b o n c}:TJ (.D b o n c) n:=⟨rfl,λ_=>rfl⟩
theorem S0{c bytes k v x J}(h:DW U c k v l)(j:∀J,srcK E U c x J=J 0 m)(g:C4 E U c x=some (0,m)):Dx E c bytes v x U J=J v U:=by
 unfold Dx;rw[j];rcases h with (⟨rfl,rfl,rfl⟩|⟨b,rfl,o,_,n⟩)|⟨b,rfl,o,n⟩
 ·show CD (Eo E c bytes .h x U) J=_
  unfold Eo;rw[g];rfl
 ·rfl
 ·show CD (Eo E c bytes (.D b 0 k (.ex k)) x U) J=_
  unfold Eo;rw[g];simp only[];rw[if_pos (show Am (k+0) k=true from MC (AL _))];rfl
theorem Sz{d bytes k n v x}(h:DW U d k v l)(z:Ai U)(A:∀J,srcK E U d x J=J n m)(G:C4 E U d x=some (n,m))(I:0<n)(M:BH m=true)(s:Bu (k+n) bytes=true):
  ∃U',(∀J,Dx E d bytes v x U J=J (.D U.j 0 (k+n) (.op d)) U')/\Bx U' U.j (l++m)/\U'.j=U.j+1/\Fr (AJ v) U U':=by
 obtain⟨F,rfl⟩:∃q,n=q+1:=⟨n-1,by omega⟩;rcases h with (⟨rfl,rfl,rfl⟩|⟨b,rfl,D,N,B⟩)|⟨b,rfl,D,B⟩
 ·refine⟨Cb U (.cells m),λJ=>?_,by rw[Hb];exact Kt m,rfl,Fr.new z _⟩
  unfold Dx;rw[A];show CD (Eo E d bytes .h x U) J=_;unfold Eo;rw[G];simp only[];rw[BV]at s ⊢;rw[if_neg (by omega),if_pos s];rfl
 ·refine⟨⟨U.j+1,(U.j,.cells (l++m))::drop U.F b⟩,λJ=>?_,?_,rfl,?_⟩
  ·unfold Dx
   rw[A];show (match BX U.F b with
    | some (.cells l)=>JI (Ar l.length (k*d)&&Ar d d&&Bu (k+(F+1)) bytes&&BH m) (UI U.F b λu=>J (.D U.j 0 (k+(F+1)) (.op d)) ⟨U.j+1,(U.j,.cells (l++m))::u⟩) | _=>none)=_
   rw[show BX U.F b=some (.cells l)from D];simp;rw[HJ (by rw[s,M,B];simp),Sm]
  ·show BX ((U.j,G5.cells (l++m))::_) _=_
   rw[Aj,if_pos rfl]
  ·refine⟨λp o=>?_,El _,λp o I=>?_⟩
   ·have K:U.j+1<=p:=o
    show BX ((U.j,_)::drop U.F b) p=none;rw[Aj,if_neg (by simp;omega),QJ];split
    ·rfl
    ·exact z p (by omega)
   ·show BX ((U.j,_)::drop U.F b) p=_
    rw[Aj,if_neg (by simp;omega),QJ,if_neg];intro w;exact I w.symm
 ·refine⟨Cb U (.cells (l++m)),λJ=>?_,Kt _,rfl,Fr.new z _⟩
  unfold Dx;rw[A];show CD (Eo E d bytes (.D b 0 k (.ex k)) x U) J=_;unfold Eo;rw[G];simp only[];rw[if_neg (show ¬Am (k+(F+1)) k=true from λh=>by rw[Bn]at h;omega),if_pos s];have L:P0 E U b 0 (k*d)=some l:=by
   unfold P0 rd;rw[<-BG,show BX U.F b=some (.cells l)from D];simp only[];rw[show Am (0+k*d) l.length=true from MC (by omega)];rw[E7,<-B,Iz];rfl
  rw[L];rfl
theorem rW{c bytes k n v x}(h:DW U c k v l)(y:Ai U)(r:∀J,srcK E U c x J=J n m)(w:C4 E U c x=some (n,m))(o:m.length=n*c)(C:BH m=true)(B:Bu (k+n) bytes=true):
  ∃u U',(∀J,Dx E c bytes v x U J=J u U')/\DW U' c (k+n) u (l++m)/\(∀b,AJ u b->AJ v b\/U.j<=b)/\Fr (AJ v) U U':=by
 cases n with
 | zero=>
  have A:m=[]:=Ba (by omega);subst A;exact⟨v,U,λJ=>S0 h r w,by rw[BP];exact h,λb p => .inl p,Fr.refl y⟩
 | succ n=>
  have ⟨U',g,a,D,f⟩:=Sz h y r w (Nat.succ_pos n) C B;refine⟨_,U',g,.inl (.inr ⟨U.j,rfl,a,by omega,?_⟩),λb p => .inr (by cases p;exact AL _),f⟩;rw[AP,h.length,o,<-nP]
theorem rV{a bytes k v x J}(h:DW U a k v l)(b:Cv U a 0 x m):Dx E a bytes v x U J=J v U:=S0 h (λ_=>b.srcK) b.cells
theorem X1{a bytes k n v x}(h:DW U a k v l)(e:Ai U)(b:Cv U a n x m)(c:0<n)(d:BH m=true)(f:Bu (k+n) bytes=true):
  ∃U',(∀J,Dx E a bytes v x U J=J (.D U.j 0 (k+n) (.op a)) U')/\Bx U' U.j (l++m)/\U'.j=U.j+1/\Fr (AJ v) U U':=Sz h e (λ_=>b.srcK) b.cells c d f
theorem Dd{a bytes k n v x}(h:DW U a k v l)(e:Ai U)(c:Cv U a n x m)(d:BH m=true)(f:Bu (k+n) bytes=true):
  ∃u U',(∀J,Dx E a bytes v x U J=J u U')/\DW U' a (k+n) u (l++m)/\(∀b,AJ u b->AJ v b\/U.j<=b)/\Fr (AJ v) U U':=rW h e (λ_=>c.srcK) c.cells c.length d f
theorem rP0:(∀a l J,KG (a::l) 0 J=J a)/\(∀a l n J,KG (a::l) (n+1) J=KG l n J) /\
  (∀a b J,FD [a,b] 0 2 J=J [a,b])/\(∀a b c d J,FD [a,b,c,d] 0 4 J=J [a,b,c,d])/\(∀a b c d e J,FD [a,b,c,d,e] 0 4 J=J [a,b,c,d]) /\
  (∀a b c d e f J,FD [a,b,c,d,e,f] 0 6 J=J [a,b,c,d,e,f])/\(∀a b c d e f g h i j k l m J,FD [a,b,c,d,e,f,g,h,i,j,k,l,m] 0 13 J=J [a,b,c,d,e,f,g,h,i,j,k,l,m]) /\
  (∀a b c d e f g h i j k l m J,FD [a,b,c,d,e,f,g,h,i,j,k,l,m] 2 6 J=J [c,d,e,f,g,h]) /\
  (∀k n J,DZ k (.int k n) J=J n)/\(∀b J,DB (.bool b) J=J b)/\(∀s J,HY (.N s) J=J s)/\(∀b o J,BL (.o b o) J=J b o) /\
  (∀l J,Cp (.agg l) J=J l)/\(∀l J,H3 (.B l) J=J l)/\(∀v l J,Ab (v::l) J=J v l)/\(∀a,Ay [] a=a) /\
  (∀a,CI .h a=a)/\(∀b o a,CI (.o b o) a=a)/\(∀b o n c a,CI (.D b o n c) a=a)/\(∀J,Ao .h J=J 0)/\(∀b o n c J,Ao (.D b o n c) J=J n) /\
  (∀v U J,CD (some (v,U)) J=J v U)/\(∀c a b,c=true->AK c a b=a)/\(∀c a b,c=false->AK c a b=b)/\(∀c a,c=true->JI c a=a) /\
  (∀f g,Ax f g=g f)/\(∀k n l J,D3 k (.int k n::l) J=J n l)/\(∀b l J,OG (.bool b::l) J=J b l)/\(∀s l J,Ti (.N s::l) J=J s l)/\(∀l U J,Ht l U J=JI (BH l) (J (Cb U (.cells l)))):=
 ⟨λ_ _ _=>rfl,λ_ _ _ _=>rfl,λ_ _ _=>rfl,λ_ _ _ _ _=>rfl,λ_ _ _ _ _ _=>rfl,λ_ _ _ _ _ _ _=>rfl,λ_ _ _ _ _ _ _ _ _ _ _ _ _ _=>rfl,λ_ _ _ _ _ _ _ _ _ _ _ _ _ _=>rfl,
  JA,λ_ _=>rfl,λ_ _=>rfl,λ_ _ _=>rfl,λ_ _=>rfl,λ_ _=>rfl,λ_ _ _=>rfl,λ_=>rfl,λ_=>rfl,λ_ _ _=>rfl,λ_ _ _ _ _=>rfl,λ_=>rfl,λ_ _ _ _ _=>rfl,
  λ_ _ _=>rfl,λ_ _ _ h=>mC h,λ_ _ _ h=>mD h,λ_ _ h=>AFW h,λ_ _=>rfl,λk n l J=>JA k n λn=>J n l,λ_ _ _=>rfl,λ_ _ _=>rfl,λ_ _ _=>rfl⟩
theorem rC0:(∀k n l J,D3 k (.int k n::l) J=J n l)/\(∀b l J,OG (.bool b::l) J=J b l)/\(∀s l J,Ti (.N s::l) J=J s l)/\(∀l U J,Ht l U J=JI (BH l) (J (Cb U (.cells l)))):=
 ⟨λk n l J=>JA k n λn=>J n l,λ_ _ _=>rfl,λ_ _ _=>rfl,λ_ _ _=>rfl⟩
theorem rP:type_of% (Ad rZ rP0):=⟨rZ,rP0⟩
theorem rC:type_of% (Ad rZ rC0):=⟨rZ,rC0⟩
theorem rS:(∀l,(V.agg l).cells=l)/\(∀k n,(V.int k n).cells=[.int k n])/\(∀b o,(V.o b o).cells=[.o b o])/\(∀(v:V) l,BH (v::l)=(v.S&&BH l))/\(BH []=true) /\
  (∀k n,(V.int k n).S=true)/\(∀c,(V.bool c).S=true)/\(∀s,(V.N s).S=true)/\(V.h.S=true)/\(∀b o n c,(V.D b o n c).S=true)/\(∀b o,(V.o b o).S=true) /\
  (∀b,(b&&true)=b)/\(∀a b:Nat,AM a b=a+b)/\(∀n,0+n=n)/\((!true)=false)/\((!false)=true):=
 ⟨λ_=>rfl,λ_ _=>rfl,λ_ _=>rfl,λ_ _=>rfl,rfl,λ_ _=>rfl,λ_=>rfl,λ_=>rfl,rfl,λ_ _ _ _=>rfl,λ_ _=>rfl,Bz,λ_ _=>rfl,BV,rfl,rfl⟩
theorem rQ:(∀m n,B8 (AA m) (AA n)=decide (m=n))/\(∀m n,C5 (AA m) (AA n)=decide (m<n))/\(∀m n,HL (AA m) (AA n)=decide (m<=n)) /\
  (∀b,(false || b)=b)/\(∀b,(true || b)=true)/\(∀b,(b || false)=b)/\(∀b,(b || true)=true)/\(∀b,(false&&b)=false)/\(∀b,(true&&b)=b)/\(∀b,(b&&false)=false):=by grind [My,GQ,Jb]
theorem rD:(∀h,@decide False h=false)/\(∀h,@decide True h=true):=by grind
theorem rA:type_of% (Ad rS (Ad rQ rD)):=⟨rS,rQ,rD⟩
end
end
end Go.Og
set_option maxRecDepth 100000
set_option linter.all false
namespace Go.Og
open Go Go.RowKit Go.Deep
theorem QK{P G f}{F:List V->H->AE}{E}(B:Cr P E G f F){a n0}(z:∀g,G g=true->g<a)(t:a<=n0) l args (xs:List Value)(w:World)
  (s:∀id i,look l id=some i->id<n0) (A:∀id b,look E id=some b->∃i,Qi a l id=some i/\JS (Qi a l) i b w) (r:BF (Qi a l) args=some xs) (h:okB (F args ⟨n0,[]⟩)=true) :
  Calls P f xs.toArray w λe w'=>e = .returned (.bool true)/\RowKit.Below w.heap.size w w':=by
 have ⟨U,n⟩:=pk h;have ⟨_,y⟩:=B ⟨λo=>w.heap.size<=o,w,E,G⟩ rfl rfl (Qi a l) ⟨n0,[]⟩ w args xs _ U n (ZD z t l E w s A) r;refine y.mono ?_;rintro D w' ⟨C,x,_,_,c,u,rfl⟩;cases u;exact⟨rfl,c.os,c.tape,c.output,c.size,λk v=>c.Z k (Nat.not_le.2 v)⟩
theorem rh b o i:(⟨b,o,none⟩:Addr).add i=⟨b,o+i,none⟩:=by
 unfold Addr.add;split
 ·rename_i h;subst h;rfl
 ·rfl
section
variable {H:Type}{enc:TypeId × Value->H}{P:Program}{w:World}{t e:TypeId}{d:DataW H}{ps:List MemPlace}{blk off len cap:Nat}
theorem kg(v:P.underlying t=some (.slice e))(B:P.cellsOf e=1)(h:DataW.Trod enc P w 0 (λ_=>true) true t (.slice (some ⟨blk,off,none⟩) len cap) d ps):
  ∃V:Nat->Value,∀i,i<len->w.cell? ⟨blk,off+i,none⟩=some (V i)/\∃n D p,DataW.trod enc P w 0 (λ_=>true) true n e [V i]=some (D,p):=by
 have ⟨r,A⟩:=h;rcases open_slice1 v B A with ⟨z,_⟩|⟨a,s,o,m,n,V,D,F,c,_,E,_,y,_,C⟩
 ·simp[Value.cells]at z
 ·simp only[Value.cells,List.cons.injEq,Value.slice.injEq,and_true]at c
  have ⟨rfl,rfl,rfl⟩:=c;refine⟨V,λi G=>?_⟩;have ⟨h1,u⟩:=C i (by rw[y];simp;omega);rw[rh]at h1;exact⟨h1,_,_,_,u⟩
theorem pP{k}(ht:P.underlying t=some (.slice e))(he:P.underlying e=some (.int k))(x:P.cellsOf e=1)(h:DataW.Trod enc P w 0 (λ_=>true) true t (.slice (some ⟨blk,off,none⟩) len cap) d ps):
  ∃B:Nat->Int,∀i,i<len->w.cell? ⟨blk,off+i,none⟩=some (.int k (B i))/\(Lit.int k (B i)).wf=true:=by
 have ⟨V,s⟩:=kg ht x h;have:∀i,i<len->∃b,V i = .int k b/\(Lit.int k b).wf=true:=λi c=>by
  have ⟨_,n,D,p,g⟩:=s i c;cases n with
  | zero=>simp[DataW.trod]at g | succ n=>
   unfold DataW.trod at g;rw[he]at g;split at g<;>simp_all
 have ⟨B,r⟩:=choose_lt this;exact⟨B,λi c=>⟨by rw[(s i c).1,(r i c).1],(r i c).2⟩⟩
end
theorem Xt{w:World}{b off v}(h:w.cell? ⟨b,off,none⟩=some v):∃d l f,w.heap[b]? = some (.cells d l f)/\d[off]? = some v:=by
 unfold World.cell? at h;simp at h;split at h
 ·rename_i c l f n
  exact⟨c,l,f,n,by simpa using h⟩
 ·cases h
theorem za{R}{w:World}{d off l}(f:l≠[])(h:∀k v,l[k]? = some v->∃a,Av R v=some a/\a.oneCell'=true/\w.cell? ⟨d,off+k,none⟩=some a):JS R ⟨d,off,0⟩ (.cells l) w:=by
 cases l with
 | nil=>exact(f rfl).elim | cons u l=>
  have ⟨a,_,_,n⟩:=h 0 u rfl;have ⟨g,q,t,h1,_⟩:=Xt n;refine⟨g,q,t,h1,λk v x=>?_⟩;have ⟨A,m,z,r⟩:=h k v x;have ⟨j,p,o,i,y⟩:=Xt r;rw[h1]at i;cases i;exact⟨A,m,z,y⟩
theorem zb{R w id i b}(q:R id=some i)(h:JS R i b w):∀a l,look [(id,b)] a=some l->∃j,R a=some j/\JS R j l w:=by
 intro a l e;simp only[look]at e;split at e
 ·rename_i p
  have:=CJ p;subst this;cases e;exact⟨i,q,h⟩
 ·cases e
theorem qV{R}{w:World}{c off len f}{g:Nat->Value}(o:∀i,Av R (f i)=some (g i)/\(g i).oneCell'=true)(h:∀i,i<len->w.cell? ⟨c,off+i,none⟩=some (g i))(q:len≠0):JS R ⟨c,off,0⟩ (.cells ((CW len).map f)) w:=by
 refine za (by simp[q]) λk v n=>?_;rw[As,Aa]at n;obtain⟨j,p,rfl⟩:=n;obtain⟨m,rfl⟩:=AN.1 p;have e:k<len:=by simpa using m
 refine⟨g k,?_,(o k).2,h k e⟩;simp[(o k).1]
end Go.Og
set_option linter.all false
namespace Go.Og
noncomputable section
def RZ(E:EB)(U:H)(n:Nat)(S:Nat->Prop)(o:Ek)(e:CF)(v:V):Prop:=V.beq v v=true/\∀a (h:EB) p,(∀id,id<U.j->¬S id->look h id=look U.F id)->Ct E o e ⟨a,Ce U.j n p h⟩=some v
structure Ey(E:EB)(U:H)(n:Nat)(S:Nat->Prop)(nx:Nat)(ss:List (EB))(am:Nat)(ls:List (Nat × Ek × CF × V))(Uc:H):Prop where
 hd:nx=Uc.j/\∃r,ss=Uc.F::r
 big:U.j+n<=nx
 Z:Fr S U Uc
 old:∀h∈ss,∀id,id<U.j->¬S id->look h id=look U.F id
 gap:∀h∈ss,∀i,i<n->am.testBit i=false->look h (U.j+i)=none
 ld:∀x∈ls,RZ E U n S x.2.1 x.2.2.1 x.2.2.2
def JR(E:EB)(D:Ac)(U:H)(n i:Nat)(S:Nat->Prop)(ops:List BO)(pl:List DP)(s:DS)(b:CF)(U':H):Prop:=∃a,Ch E D U.j n i ops pl s=some a/\a.e=b/\Ey E U n S a.nx a.ss a.am a.ls U'
section
variable {E:EB}{D:Ac}{U Uc U':H}{n i:Nat}{S:Nat->Prop}{d:Option Nat}{o:Ek}{l:List BO}{anc:Nat}{lk:List Nat}{pl:List DP}{e env:CF}{nx am:Nat}{ss:List (EB)}{ks:List Nat}{ls:List (Nat × Ek × CF × V)}
theorem KO(b:Ey E U n S nx ss am ls Uc):JR E D U n i S [] pl ⟨e,nx,ss,ks,am,ls⟩ e Uc:=⟨_,IA,rfl,b⟩
theorem C0 v (s:o.d8 = .p)(j:Bb o (restr lk e)=some v)(k:JR E D U n (i+1) S l pl ⟨DY e d v,nx,ss,ks,am,ls⟩ env U'):JR E D U n i S (⟨d,o,none⟩::l) (⟨anc,lk⟩::pl) ⟨e,nx,ss,ks,am,ls⟩ env U':=by
 have ⟨r,h1,u,q⟩:=k;exact⟨r,(dp v s j).trans h1,u,q⟩
theorem Hg v (A:Ey E U n S nx ss am ls Uc)(C:o.d8 = .l)(w:RZ E U n S o (restr lk e) v)(k:∀b,Ey E U n S nx ss am b Uc->JR E D U n (i+1) S l pl ⟨DY e d v,nx,ss,ks,am,b⟩ env U'):
  JR E D U n i S (⟨d,o,none⟩::l) (⟨anc,lk⟩::pl) ⟨e,nx,ss,ks,am,ls⟩ env U':=by
 obtain⟨⟨B,r,rfl⟩,M,I,q,N,L⟩:=A;have ⟨J,K,z,G⟩:=k ((i,o,restr lk e,v)::ls) ⟨⟨B,r,rfl⟩,M,I,q,N,λx j=>by
  rcases A0.1 j with rfl|j
  ·exact w
  ·exact L x j⟩
 exact⟨J,(dl v C (w.2 nx Uc.F _ (q _ AZ))).trans K,z,G⟩
theorem Zc v b am' (hr:Ey E U n S nx ss am ls Uc)(p:o.d8 = .a)(hi:i<n)(L:am ||| 2 ^ i=am')(hv:C1 o (restr lk e) (U.j+i)=some (v,b))
  (k:∀u,Ey E U n S nx u am' ls ⟨Uc.j,(U.j+i,b)::Uc.F⟩->JR E D U n (i+1) S l pl ⟨DY e d v,nx,u,ks,am',ls⟩ env U') :
  JR E D U n i S (⟨d,o,none⟩::l) (⟨anc,lk⟩::pl) ⟨e,nx,ss,ks,am,ls⟩ env U':=by
 obtain⟨⟨R,r,rfl⟩,h2,J,T,h5,h6⟩:=hr;subst L;suffices B:Ey E U n S nx ((Uc.F::r).map ((U.j+i,b)::·)) (am ||| 2 ^ i) ls ⟨Uc.j,(U.j+i,b)::Uc.F⟩by
  have ⟨Z,k1,k2,P⟩:=k _ B;exact⟨Z,(da v b (U.j+i) _ p rfl rfl hv).trans k1,k2,P⟩
 refine⟨⟨R,_,rfl⟩,h2,⟨λc p=>?_,J.le,λc p M=>?_⟩,λh G id C M=>?_,λh G j O F=>?_,h6⟩
 ·have p:Uc.j<=c:=p
  show BX ((U.j+i,b)::Uc.F) c=none;rw[Aj,if_neg (by simp;omega)];exact J.y c p
 ·show BX ((U.j+i,b)::Uc.F) c=_
  rw[Aj,if_neg (by simp;omega)];exact J.same c p M
 ·obtain⟨W,s,rfl⟩:=Fb.1 G
  rw[Fa (by omega)];exact T _ s id C M
 ·obtain⟨W,s,rfl⟩:=Fb.1 G
  rw[WW,CX]at F;have Q:i≠j:=λhe=>by
   subst he;have:=F.2;rw[AY0]at this;cases this
  rw[Fa (by omega)];exact h5 _ s j O F.1
theorem LQ v {g:H}(hr:Ey E U n S nx ss am ls Uc)(X:o.d8 = .k)(P:∀j,j<n->am.testBit j=true->anc.testBit j=true){S'}(O:Fr S' Uc g)(C:∀b,b<U.j->S' b->S b)(hg:∀b,S' b->U.j<=b->b<U.j+n->False)(Y:ES E D o (restr lk e) Uc=some (v,g))
  (k:∀u w M,Ey E U n S u w am ls g->JR E D U n (i+1) S l pl ⟨DY e d v,u,w,M,am,ls⟩ env U') :
  JR E D U n i S (⟨d,o,none⟩::l) (⟨anc,lk⟩::pl) ⟨e,nx,ss,ks,am,ls⟩ env U':=by
 obtain⟨⟨hn,r,rfl⟩,h2,h3,h4,N,h6⟩:=hr;subst hn;have le:=O.le;have t:=h3.trans O C;suffices L:Ey E U n S g.j (g.F::Uc.F::r) am ls g by
  have ⟨s',k1,k2,k3⟩:=k g.j (g.F::Uc.F::r) (i::ks) L;refine⟨s',(dk v g.j g.F X (GJ λj z Q=>?_) Y).trans k1,k2,k3⟩;refine N _ AZ j z ?_;cases R:am.testBit j with
  | false=>rfl | true=>
   exfalso;unfold Dw at Q;rw[R,P j z R]at Q;cases Q
 refine⟨⟨rfl,_,rfl⟩,by omega,t,λh q id y C=>?_,λh q j z W=>?_,h6⟩
 ·rcases A0.1 q with rfl|q
  ·rw[<-BG,<-BG];exact t.same id y C
  ·exact h4 _ q id y C
 ·rcases A0.1 q with rfl|q
  ·have:=O.same (U.j+j) (by omega) (λZ=>hg _ Z (by omega) (by omega))
   rw[<-BG,this,BG];exact N _ AZ j z W
  ·exact N _ q j z W
theorem B7(e:Ai U):Ey E U n S (U.j+n) [U.F] 0 [] ⟨U.j+n,U.F⟩:=
  ⟨⟨rfl,[],rfl⟩,AL _,⟨e.wide n,FT _ _,λ_ _ _=>rfl⟩,λh c id j _=>by rw[B5.1 c],λh c i k _=>by
    rw[B5.1 c];exact e.gap n _ (by omega) (by omega),λx f=>by cases f⟩
theorem JJ{l g v j}(d:RZ E U n S l g v):∀(c:List (EB)) b more,(∀h∈c,∀id,id<U.j->¬S id->look h id=look U.F id)->Fz E U.j n pl am j l g v c b more=true
 | [],_,_,_=>by unfold Fz;rfl
 | h::c,b,more,o=>by
  unfold Fz;rw[d.2 0 h _ (o h AZ)];simp only[d.1,Bool.or_true,];cases b with
  | nil=>rfl | cons k b=>exact JJ d c b (k::more) λr p=>o r (Az _ p)
theorem Ia{ops:List BO}(h:JR E D U ops.length 0 S ops pl ⟨e,U.j+ops.length,[U.F],[],0,[]⟩ env U'):AV E D ops pl e U=some (env,U')/\Fr S U U':=by
 obtain⟨s,h1,rfl,⟨n,r,g⟩,_,m,j,p,l⟩:=h;refine⟨?_,m⟩;rw[QX h1 (EA.2 λx k=>JJ (l x k) _ _ _ j) g];have:=(GJ λi o q=>p _ (by rw[g];exact AZ) i o q).1;rw[this,n]
theorem Cj{x e b off c v}(m:Ca e x = .o b off)(f:Bx U b c)(i:c[off]? = some v)(k:Ai U)(l:¬S b)(g:V.beq v v=true):RZ E U n S (.load none x) e v:=
  ⟨g,λq h p j=>zK m (by
    have d:=f.lt k;rw[Ip d,j b d l,<-BG];exact f) i⟩
theorem qD{x e b off g n}{h:EB}{c:List V}(k:Ca e x = .o b off)(j:look h b=some (.cells c))(i:Am (off+n) c.length=true):
  Ct E (.load (some n) x) e ⟨g,h⟩=some (.agg ((c.drop off).take n)):=by
 unfold Ct;simp only[k,P0,rd,j];rw[if_pos i]
theorem Fu{x e b off m}{c d:List V}(q:Ca e x = .o b off)(f:Bx U b c)(j:Am (off+m) c.length=true)(r:(c.drop off).take m=d)(l:Ai U)(o:¬S b)(i:V.beq (.agg d) (.agg d)=true):RZ E U n S (.load (some m) x) e (.agg d):=
  ⟨i,λt h p k=>by
    have g:=f.lt l;rw[<-r];exact qD q (by rw[Ip g,k b g o,<-BG];exact f) j⟩
theorem qy{ty x d id}{u:V}(i:Ca d x=u)(h:u.S=true):C1 (.buildSlice ty 1 [.h] [(0,1,x)]) d id=some (.D id 0 1 (.ex 1),.cells [u]):=by
 have b:u.J=true/\u.cells=[u]:=by cases u<;>first | exact⟨rfl,rfl⟩ | cases h
 show (match GK [(0,1,Ca d x)] [V.h]with
  | some l=>if BH l then some (V.D id 0 1 (.ex 1),G5.cells l)else none | none=>none)=_
 rw[i];unfold GK;rw[b.1,b.2];show (if(u.S&&true)=true then _ else none)=_;rw[h];rfl
end
section
variable {E:EB}{D:Ac}{U:H}
theorem GR{v:V}(h:v.S=true):v.J=true:=by cases v<;>first | rfl | cases h
theorem Eb{f args e}{vs:List V}{r:AE}(b:GM e args=vs)(c:vs.all V.J=true)(g:D f vs U=r):ES E D (.call f args) e U=r:=by
 show (if(GM e args).all V.J then D f (GM e args) U else none)=r;rw[b,c];exact g
theorem QB{x e}{v:V}(b:Ca e x=v)(a:v.J=true):Bb (.L x) e=some v:=by
 show (if(Ca e x).J=true then some (Ca e x)else none)=_;rw[b,a];rfl
end
theorem Bc{e:CF}{t}{v:V}{J}(h:Go.Og.look e t=some v)(c:v.J=true):Bj e t J=J v:=by
 unfold Bj;rw[h];exact HJ c
theorem Jq{E D U U'}{c a bytes:Nat}{s x e v y u}(h:Ca e s=v)(f:Ca e x=y)(g:∀J,Dx E a bytes v y U J=J u U'):ES E D (.append c a bytes s x) e U=some (u,U'):=by
 show Eo E a bytes (Ca e s) (Ca e x) U=_;rw[h,f];have ⟨w,U1,h1,i⟩:=S1 (g λv U=>some (v,U));rw[h1];exact i
mutual
theorem Be:∀v:V,V.inn (λ_=>true) v=true->V.beq v v=true
 | .i5,h=>by simp[V.inn]at h
 | .o b o,_=>by simp[V.beq]
 | .D b o n (.ex c),_=>by simp[V.beq]
 | .D b o n (.op c),_=>by simp[V.beq]
 | .sle b o k e,_=>by simp[V.beq]
 | .mp b,_=>by simp[V.beq]
 | .bool b,_=>by simp[V.beq]
 | .int k n,_=>by simp[V.beq]
 | .N s,_=>by simp[V.beq]
 | .nilp,_=>rfl
 | .h,_=>rfl
 | .nilm,_=>rfl
 | .nilf,_=>rfl
 | .nili,_=>rfl
 | .fn f a c,h=>by
  simp only[V.inn,AQ]at h
  simp[V.beq,JL a h.1,JL c h.2]
 | .ifc t v,h=>by
  simp only[V.inn]at h
  simp[V.beq,Be v h]
 | .agg l,h=>by
  simp only[V.inn]at h
  simp[V.beq,JL l h]
 | .B l,h=>by
  simp only[V.inn]at h
  simp[V.beq,JL l h]
theorem JL:∀l:List V,LP (λ_=>true) l=true->O6 l l=true
 | [],_=>rfl
 | v::l,h=>by
  simp only[LP,AQ]at h
  simp[O6,Be v h.1,JL l h.2]
end
end
end Go.Og
set_option linter.all false
namespace Go.Og
noncomputable section
def FB(Q:DS->Prop)(E:EB)(D:Ac)(U:H)(n i:Nat)(ops:List BO)(pl:List DP)(s:DS):Prop:=∃a,Ch E D U.j n i ops pl s=some a/\Q a
section
variable {Q:DS->Prop}{E:EB}{D:Ac}{U Uc U':H}{n i:Nat}{S:Nat->Prop}{d:Option Nat}{o:Ek}{l:List BO}{anc:Nat}{lk:List Nat}{pl:List DP}{e env:CF}{nx am:Nat}{ss:List (EB)}{ks:List Nat}{ls:List (Nat × Ek × CF × V)}
theorem DR v (r:o.d8 = .p)(j:Bb o (restr lk e)=some v)(k:FB Q E D U n (i+1) l pl ⟨DY e d v,nx,ss,ks,am,ls⟩):FB Q E D U n i (⟨d,o,none⟩::l) (⟨anc,lk⟩::pl) ⟨e,nx,ss,ks,am,ls⟩:=by
 obtain⟨q,h1,t⟩:=k;exact⟨q,(dp v r j).trans h1,t⟩
theorem HF v (y:Ey E U n S nx ss am ls Uc)(A:o.d8 = .l)(q:RZ E U n S o (restr lk e) v)(k:Ey E U n S nx ss am ((i,o,restr lk e,v)::ls) Uc->FB Q E D U n (i+1) l pl ⟨DY e d v,nx,ss,ks,am,(i,o,restr lk e,v)::ls⟩):
  FB Q E D U n i (⟨d,o,none⟩::l) (⟨anc,lk⟩::pl) ⟨e,nx,ss,ks,am,ls⟩:=by
 obtain⟨⟨z,r,rfl⟩,K,F,s,I,J⟩:=y;obtain⟨G,C,w⟩:=k ⟨⟨z,r,rfl⟩,K,F,s,I,λx h=>by
  rcases A0.1 h with rfl|h
  ·exact q
  ·exact J x h⟩
 exact⟨G,(dl v A (q.2 nx Uc.F _ (s _ AZ))).trans C,w⟩
theorem Sk v b am' (hr:Ey E U n S nx ss am ls Uc)(p:o.d8 = .a)(hi:i<n)(M:am ||| 2 ^ i=am')(O:C1 o (restr lk e) (U.j+i)=some (v,b))
  (k:∀u,Ey E U n S nx u am' ls ⟨Uc.j,(U.j+i,b)::Uc.F⟩->FB Q E D U n (i+1) l pl ⟨DY e d v,nx,u,ks,am',ls⟩) :
  FB Q E D U n i (⟨d,o,none⟩::l) (⟨anc,lk⟩::pl) ⟨e,nx,ss,ks,am,ls⟩:=by
 obtain⟨⟨R,r,rfl⟩,h2,K,T,h5,N⟩:=hr;subst M;suffices C:Ey E U n S nx ((Uc.F::r).map ((U.j+i,b)::·)) (am ||| 2 ^ i) ls ⟨Uc.j,(U.j+i,b)::Uc.F⟩by
  obtain⟨s',X,k2⟩:=k _ C;exact⟨s',(da v b (U.j+i) _ p rfl rfl O).trans X,k2⟩
 refine⟨⟨R,_,rfl⟩,h2,⟨λc p=>?_,K.le,λc p F=>?_⟩,λh I id B F=>?_,λh I j hj G=>?_,N⟩
 ·have p:Uc.j<=c:=p
  show BX ((U.j+i,b)::Uc.F) c=none;rw[Aj,if_neg (by simp only[];omega)];exact K.y c p
 ·show BX ((U.j+i,b)::Uc.F) c=_
  rw[Aj,if_neg (by simp only[];omega)];exact K.same c p F
 ·obtain⟨W,s,rfl⟩:=Fb.1 I
  rw[Fa (by omega)];exact T _ s id B F
 ·obtain⟨W,s,rfl⟩:=Fb.1 I
  rw[WW,CX]at G;have P:i≠j:=λZ=>by
   subst Z;have:=G.2;rw[AY0]at this;cases this
  rw[Fa (by omega)];exact h5 _ s j hj G.1
theorem Mt v {g:H}(hr:Ey E U n S nx ss am ls Uc)(hc:o.d8 = .k)(K:∀j,j<n->am.testBit j=true->anc.testBit j=true){S'}(O:Fr S' Uc g)(C:∀b,b<U.j->S' b->S b)(X:∀b,S' b->U.j<=b->b<U.j+n->False)(hv:ES E D o (restr lk e) Uc=some (v,g))
  (k:∀A w,Ey E U n S A w am ls g->FB Q E D U n (i+1) l pl ⟨DY e d v,A,w,i::ks,am,ls⟩) :
  FB Q E D U n i (⟨d,o,none⟩::l) (⟨anc,lk⟩::pl) ⟨e,nx,ss,ks,am,ls⟩:=by
 obtain⟨⟨hn,r,rfl⟩,h2,h3,h4,I,h6⟩:=hr;subst hn;have le:=O.le;have u:=h3.trans O C;suffices M:Ey E U n S g.j (g.F::Uc.F::r) am ls g by
  obtain⟨s',Z,k2⟩:=k g.j (g.F::Uc.F::r) M;refine⟨s',(dk v g.j g.F hc (GJ λj z N=>?_) hv).trans Z,k2⟩;refine I _ AZ j z ?_;cases R:am.testBit j with
  | false=>rfl | true=>
   exfalso;unfold Dw at N;rw[R,K j z R]at N;cases N
 refine⟨⟨rfl,_,rfl⟩,by omega,u,λh s id y C=>?_,λh s j z P=>?_,h6⟩
 ·rcases A0.1 s with rfl|s
  ·rw[<-BG,<-BG];exact u.same id y C
  ·exact h4 _ s id y C
 ·rcases A0.1 s with rfl|s
  ·have:=O.same (U.j+j) (by omega) (λW=>X _ W (by omega) (by omega))
   rw[<-BG,this,BG];exact I _ AZ j z P
  ·exact I _ s j z P
def Jx(E:EB)(U:H)(n:Nat)(pl:List DP)(a:CF)(U':H)(s:DS):Prop:=
 s.e=a/\s.nx=U'.j/\(∃r,s.ss=U'.F::r)/\s.ls.all (λ(j,c,b,v)=>Fz E U.j n pl s.am j c b v s.ss s.ks [])=true/\∀i,i<n->s.am.testBit i=false->look U'.F (U.j+i)=none
theorem LD{f J}{k:H} v (P:Ey E U n S nx ss am ls Uc)(hc:o.d8 = .k)(z:∀j,j<n->am.testBit j=true->anc.testBit j=true)(W:Fr J Uc k)(Y:∀b,J b->U.j<=b->b<U.j+n->False)
  (N:ES E D o (restr lk e) Uc=some (v,k)) (Q:∀x∈ls,FG f x.1 (i::ks) []=false):FB (Jx E U n f (DY e d v) k) E D U n i [⟨d,o,none⟩] [⟨anc,lk⟩] ⟨e,nx,ss,ks,am,ls⟩:=by
 obtain⟨⟨R,r,rfl⟩,h2,h3,L,F,Z⟩:=P;subst R;refine⟨_,(dk v k.j k.F hc (GJ λj p t=>?_) N).trans IA,rfl,rfl,⟨_,rfl⟩,?_,λj p K=>?_⟩
 ·refine F _ AZ j p ?_
  cases C:am.testBit j with
  | false=>rfl | true=>
   exfalso;unfold Dw at t;rw[C,z j p C]at t;cases t
 ·refine EA.2 λx A=>?_
  show Fz E U.j n f am x.1 x.2.1 x.2.2.1 x.2.2.2 (k.F::Uc.F::r) (i::ks) []=true;rw[Qe (Q x A)];exact JJ (Z x A) _ _ _ L
 ·have:=W.same (U.j+j) (by omega) (λX=>Y _ X (by omega) (by omega))
  rw[<-BG,this,BG];exact F _ AZ j p K
theorem HG{ops:List BO}(h:FB (Jx E U ops.length pl env U') E D U ops.length 0 ops pl ⟨e,U.j+ops.length,[U.F],[],0,[]⟩):AV E D ops pl e U=some (env,U'):=by
 obtain⟨m,h1,rfl,c,⟨r,g⟩,j,f⟩:=h;rw[QX h1 j g];have:=(GJ λi d l=>f i d l).1;rw[this,c]
end
end
end Go.Og
set_option linter.all false
namespace Go.Og
noncomputable section
theorem HM{E D}{U:H}{b off n:Nat}{l c:List V}{x y}{e:CF}(j:Ai U)(h:Bx U b l)(t:Ca e x = .o b off)(s:(Ca e y).cells=c)(r:(Ar c.length n&&Am (off+n) l.length&&BH c)=true):
  ∃U',ES E D (.store n x y) e U=some (.i5,U')/\Fr (λk=>k=b) U U'/\Bx U' b (FW l off c):=by
 have o:look U.F b=some (.cells l):=by rw[<-BG];exact h
 refine⟨U.set b (.cells (FW l off c)),?_,⟨λk g=>?_,AL _,λk g q=>?_⟩,?_⟩
 ·show (match Ca e x with
   | .o b off=>match look U.F b with
    | some (.cells l)=>if(Ar (Ca e y).cells.length n&&Am (off+n) l.length&&BH (Ca e y).cells)=true then some (V.i5,U.set b (.cells (FW l off (Ca e y).cells)))else none | _=>none
   | _=>none)=_
  rw[t];simp only[o];rw[s,if_pos r]
 ·have g:U.j<=k:=g
  have:=h.lt j;show BX (LO U.F b _) k=none;rw[BG,Hu,if_neg (by omega),<-BG];exact j k g
 ·show BX (LO U.F b _) k=_
  rw[BG,Hu,if_neg (λe=>q e.symm),BG]
 ·show BX (LO U.F b _) b=_
  rw[BG,Hu,if_pos rfl,o];rfl
end
noncomputable section
section
variable {E:EB}{D:Ac}{U Uc U':H}{n i:Nat}{S:Nat->Prop}{d:Option Nat}{o:Ek}{g:Option (Nat × Bool)}{l:List BO}{anc:Nat}{lk:List Nat}{pl:List DP}{e env:CF}{nx am:Nat}{ss:List (EB)}{ks:List Nat}{ls:List (Nat × Ek × CF × V)}
end
end
end Go.Og
set_option linter.all false
namespace Go.Og
noncomputable section
section
variable {E:EB}{D:Ac}{U Uc U':H}{n i:Nat}{S:Nat->Prop}{d:Option Nat}{o:Ek}{l:List BO}{anc:Nat}{lk:List Nat}{pl:List DP}{e env:CF}{nx am:Nat}{ss:List (EB)}{ks:List Nat}{ls:List (Nat × Ek × CF × V)}
theorem gY v {m:H}(hr:Ey E U n S nx ss am ls Uc)(hc:o.d8 = .k)(N:∀j,j<n->am.testBit j=true->anc.testBit j=true){S'}(T:Fr S' Uc m)(C:∀b,b<U.j->S' b->S b)(hg:∀b,S' b->U.j<=b->b<U.j+n->am.testBit (b-U.j)=true)(hv:ES E D o (restr lk e) Uc=some (v,m))
    (k:∀A w I,Ey E U n S A w am ls m->JR E D U n (i+1) S l pl ⟨DY e d v,A,w,I,am,ls⟩ env U') :
    JR E D U n i S (⟨d,o,none⟩::l) (⟨anc,lk⟩::pl) ⟨e,nx,ss,ks,am,ls⟩ env U':=by
  obtain⟨⟨hn,r,rfl⟩,h2,X,h4,Q,h6⟩:=hr;subst hn;have le:=T.le;have u:=X.trans T C;suffices O:Ey E U n S m.j (m.F::Uc.F::r) am ls m by
    obtain⟨s',k1,k2,k3⟩:=k m.j (m.F::Uc.F::r) (i::ks) O;refine⟨s',(dk v m.j m.F hc (GJ λj z J=>?_) hv).trans k1,k2,k3⟩;refine Q _ AZ j z ?_;cases W:am.testBit j with
    | false=>rfl | true=>
      exfalso;unfold Dw at J;rw[W,N j z W]at J;cases J
  refine⟨⟨rfl,_,rfl⟩,by omega,u,λh t id y C=>?_,λh t j z P=>?_,h6⟩
  · rcases A0.1 t with rfl | t
    · rw[<-BG,<-BG];exact u.same id y C
    · exact h4 _ t id y C
  · rcases A0.1 t with rfl | t
    · have:=T.same (U.j+j) (by omega) (λZ=>by
        have:=hg _ Z (by omega) (by omega);rw[DL,P]at this;cases this)
      rw[<-BG,this,BG];exact Q _ AZ j z P
    · exact Q _ t j z P
end
end
end Go.Og
set_option linter.all false
namespace Go.Og
noncomputable section
end
noncomputable section
theorem qS(a:Int) n:a.fdiv (2 ^ n)=a / 2 ^ n:=AJE _ (Int.le_of_lt (Int.pow_pos (by decide)))
theorem ZE:∀(a:List V) x r c,FW (a++x::r) a.length [c]=a++c::r
 | [],x,r,c=>by cases r<;>simp[FW]
 | y::a,x,r,c=>by
  show y::FW (a++x::r) a.length [c]=_;rw[ZE a x r c];rfl
def I4(l:List Int):List V:=l.map λc => .int .u8 c
theorem FM(l:List Int):(I4 l).length=l.length:=by simp[I4]
theorem JW l m:I4 (l++m)=I4 l++I4 m:=by simp[I4]
theorem fI:∀l,BH (I4 l)=true
 | []=>rfl | c::l=>fI l
theorem NP:∀l,Fv (I4 l)=some (l.map λc=>UInt8.ofNat c.toNat)
 | []=>rfl | c::l=>by
  show (Fv (I4 l)).map _=_;rw[NP l];rfl
def By(U:H)(v:V)(l:List Int):Prop:=Cv U 1 l.length v (I4 l)
def Nb(a U:H)(v:V)(l:List Int):Prop:=DW U 1 l.length v (I4 l)/\∀b,AJ v b->a.j<=b
theorem Nb.by_{a U v l}(h:Nb a U v l):By U v l:=h.1.src
theorem By.S{U}{v:V}{l}(h:By U v l):v.S=true:=Cv.S h
theorem By.ip{U v}{l:List Int}(h:By U v l) J:Ao v J=J l.length:=Cv.ip h
theorem By.Z{U U' v l}(h:By U v l)(f:Fr AH U U')(a:Ai U):By U' v l:=Cv.Z h f a (λ_ _ h=>h)
theorem Nb.Z{a U U' v l}(h:Nb a U v l)(f:Fr AH U U')(b:Ai U):Nb a U' v l:=⟨h.1.Z f b (λ_ _ h=>h),h.2⟩
theorem Nb.nil a U:Nb a U .h []:=⟨DW.nil U 1,λ_ h=>h.elim⟩
theorem By.N{E U v}{l:List Int}(h:By U v l) J:J7 E U v J=J (BS.ofList (l.map λc=>UInt8.ofNat c.toNat)):=by
 have f:∀e,srcK E U 1 v e=e l.length (I4 l):=λe=>Cv.srcK h;unfold J7;rcases h with ⟨_,rfl,_⟩|⟨_,_,_,_,rfl,_⟩
 ·simp;rw[f,NP]
 ·simp;rw[f,NP]
theorem Zw{E}{e U:H}{v x}{l m:List Int}(h:Nb e U v l)(p:Fr AH e U)(w:By U x m)(y:l.length+m.length<=10000000):
  ∃u U',(∀J,Dx E 1 1 v x U J=J u U')/\Nb e U' u (l++m)/\Fr AH e U'/\Fr (λb=>e.j<=b) U U':=by
 have ⟨u,U',g,d,n,f⟩:=Dd (E:=E) (bytes:=1) h.1 p.y w (fI m) (by
  unfold Bu;simp;omega)
 have s:=p.le;refine⟨u,U',g,⟨by rw[AP,JW];exact d,λb k=>?_⟩,p.trans f (λb k t=>by have:=h.2 b t;omega),f.mono λb _ k=>h.2 b k⟩;rcases n b k with q|q
 ·exact h.2 b q
 ·omega
theorem Et{v:V}(h:v.S=true):v.J=true/\v.cells=[v]:=by
 cases v<;>first | exact⟨rfl,rfl⟩ | cases h
theorem QU{u:V}(h:u.S=true) J:H9 [(0,1,u)] [.h] J=J [u]:=by
 have ⟨h1,b⟩:=Et h;unfold H9 GK;rw[h1,b];rfl
end
noncomputable section
def CV:Nat->Nat->List Nat
 | 0,_=>[]
 | n+1,v=>(v / 2 ^ n) % 2::CV n v
theorem Cw:∀n v,(CV n v).length=n
 | 0,_=>rfl | n+1,v=>by simp[CV,Cw n v]
theorem Qh:∀n v,∀b∈CV n v,b<2
 | 0,_,b,h=>by cases h
 | n+1,v,b,h=>by
  rcases A0.1 h with rfl|h
  ·exact Jr _ (by decide)
  ·exact Qh n v b h
def O5(L:List Nat)(i:Nat):Nat:=L.getD i 0
def P8(L:List Nat)(j:Nat):Nat:=128*O5 L (8*j)+64*O5 L (8*j+1)+32*O5 L (8*j+2)+16*O5 L (8*j+3)+8*O5 L (8*j+4)+4*O5 L (8*j+5)+2*O5 L (8*j+6)+O5 L (8*j+7)
def E9(n:Nat):Nat:=(n+7) / 8
def P9(L:List Nat):List Nat:=(CW (E9 L.length)).map (P8 L)
def kM(L:List Nat):Prop:=∀b∈L,b<2
theorem Ir{L:List Nat}(h:kM L) i:O5 L i<2:=by
 unfold O5;by_cases e:i<L.length
 ·rw[BK,AI e];exact h _ (Gg e)
 ·rw[BK,A4 (by omega)];decide
theorem pe{L}(h:kM L) j:P8 L j<256:=by
 unfold P8;have i:=Ir h (8*j);have h1:=Ir h (8*j+1);have g:=Ir h (8*j+2);have d:=Ir h (8*j+3);have f:=Ir h (8*j+4);have c:=Ir h (8*j+5);have e:=Ir h (8*j+6);have k:=Ir h (8*j+7);omega
theorem IV(L:List Nat):(P9 L).length=E9 L.length:=by simp[P9]
end
noncomputable section
theorem Hs n a:(BY n (AA a)).toNat=a % 2 ^ n:=by
 rw[show AA a=(a:Int)from rfl,BitVec.ofInt_natCast,BitVec.toNat_ofNat]
theorem I3{k:IntKind}{m}(h:m<=J1 k):k.wrap (AA m)=AA m:=by
 rw[<-EJ];exact BJ h
theorem T9:J1 .u8=255:=rfl
theorem QD:J1 .u32=4294967295:=rfl
theorem HA:J1 .u64=18446744073709551615:=rfl
theorem QF:J1 .i64=9223372036854775807:=rfl
theorem X3{a}(h:a<=4294967295):MD .u32 (AA a) (AA 1)=AA (a % 2):=by
 rw[UP,BitVec.toNat_and,Hs,Hs,show IntKind.bits .u32=32 from rfl,Dn (show a<2 ^ 32 by omega),show 1 % 2 ^ 32=1 from rfl,Nat.and_one_is_mod];exact I3 (by rw[QD];omega)
theorem rY{a}(h:a<=18446744073709551615):MD .u64 (AA a) (AA 1)=AA (a % 2):=by
 rw[UP,BitVec.toNat_and,Hs,Hs,show IntKind.bits .u64=64 from rfl,Dn (show a<2 ^ 64 by omega),show 1 % 2 ^ 64=1 from rfl,Nat.and_one_is_mod];exact I3 (by rw[HA];omega)
theorem PC{k:IntKind}{a n}(h:n<=k.bits):J0 k (AA a) n=AA (a / 2 ^ n):=by
 rw[fT,show Ga n k.bits=n from Ha h,qS];rw[show AA a=(a:Int)from rfl,show AA (a / 2 ^ n)=((a / 2 ^ n:Nat):Int)from rfl,Int.natCast_ediv,xZ];rfl
theorem AEn{a b n}(c:b<2 ^ n):(a*2 ^ n) ||| b=a*2 ^ n+b:=by
 rw[ABv,<-Nat.two_pow_add_eq_or_of_lt c]
def nI(L:List Nat):List Int:=L.map AA
theorem C9(L:List Nat):(nI L).length=L.length:=by simp[nI]
theorem QA L M:nI (L++M)=nI L++nI M:=by simp[nI]
def FP:List Nat->List Nat
 | []=>[]
 | c::l=>CV 8 c++FP l
end
end Go.Og
set_option linter.all false
set_option maxRecDepth 100000
set_option maxHeartbeats 0
namespace Go.Proofs.YtpbligmafbkeaaaGreatDoor
open Go Go.Og
noncomputable section
def eAw:GY:=⟨100,[],
 [],
 .bool true,474,
 []⟩
theorem lZ:eAw.right 2 ((DT [] 100000 60) 4)=true:=by kernel_rfl
theorem lY:eAw.shape=true:=by kernel_rfl
end
noncomputable section
def kn:List (Nat × List GY):=[(4,[eAw])]
def TW(E:EB)(d:Nat):Ac:=Nat.rec (λ_ _ _=>none) (λ_ a f=>match BX kn f with
 | some l=>XT l (BD E 600000 a f)
 | none=>BD E 600000 a f) d
theorem qF:∀p∈kn,∀e∈p.2,e.right 2 (DT [] 100000 60 p.1)=true:=by
 unfold kn;simp only[nS,FU,false_implies,implies_true,and_true];exact lZ
theorem AMn E:∀d f,Cr Tryz.prog E glob f (TW E d f):=by
 intro d;induction d with
 | zero=>intro f C _ _ R U w args xs v U' h;cases h | succ d m=>
  intro f;show Cr Tryz.prog E glob f (match BX kn f with
   | some l=>XT l (BD E 600000 (TW E d) f) | none=>BD E 600000 (TW E d) f)
  split
  ·rename_i l o
   rw[BG]at o;exact zJ (xW E 600000 (TW E d) m f) (AQz [] 100000 60 f) Zd (qF _ (HC o))
  ·exact xW E 600000 (TW E d) m f
abbrev tw(E:EB)(d:Nat)(F:EB->Ac->AF->Nat->List V->H->AE):List V->H->AE:=F E (TW E d) (AV E (TW E d)) 600000
section
variable (E:EB) (d:Nat)
theorem DE5:TW E (d+1) 5=tw E d F5:=by kernel_rfl
theorem DE6:TW E (d+1) 6=tw E d F6:=by kernel_rfl
theorem DE7:TW E (d+1) 7=tw E d F7:=by kernel_rfl
theorem DE8:TW E (d+1) 8=tw E d F8:=by kernel_rfl
theorem DE9:TW E (d+1) 9=tw E d F9:=by kernel_rfl
theorem AYA:TW E (d+1) 10=tw E d F10:=by kernel_rfl
theorem ARl:TW E (d+1) 11=tw E d F11:=by kernel_rfl
theorem AX9:TW E (d+1) 12=tw E d F12:=by kernel_rfl
theorem AX8:TW E (d+1) 13=tw E d F13:=by kernel_rfl
theorem AX7:TW E (d+1) 14=tw E d F14:=by kernel_rfl
theorem AX6:TW E (d+1) 15=tw E d F15:=by kernel_rfl
theorem AX5:TW E (d+1) 16=tw E d F16:=by kernel_rfl
theorem AX4:TW E (d+1) 17=tw E d F17:=by kernel_rfl
theorem AX3:TW E (d+1) 18=tw E d F18:=by kernel_rfl
theorem AX2:TW E (d+1) 19=tw E d F19:=by kernel_rfl
theorem AX1:TW E (d+1) 20=tw E d F20:=by kernel_rfl
theorem AQ6:TW E (d+1) 21=tw E d F21:=by kernel_rfl
theorem AX0:TW E (d+1) 22=tw E d F22:=by kernel_rfl
theorem AQ5:TW E (d+1) 23=tw E d F23:=by kernel_rfl
theorem AIa:TW E (d+1) 24=tw E d F24:=by kernel_rfl
theorem AXz:TW E (d+1) 25=tw E d F25:=by kernel_rfl
theorem AXy:TW E (d+1) 26=tw E d F26:=by kernel_rfl
theorem AXx:TW E (d+1) 27=tw E d F27:=by kernel_rfl
theorem AXw:TW E (d+1) 28=tw E d F28:=by kernel_rfl
theorem AXv:TW E (d+1) 29=tw E d F29:=by kernel_rfl
theorem AXu:TW E (d+1) 30=tw E d F30:=by kernel_rfl
theorem AXt:TW E (d+1) 31=tw E d F31:=by kernel_rfl
theorem AQ4:TW E (d+1) 33=tw E d F33:=by kernel_rfl
theorem AXs:TW E (d+1) 34=tw E d F34:=by kernel_rfl
theorem AQ3:TW E (d+1) 35=tw E d F35:=by kernel_rfl
theorem AXr:TW E (d+1) 36=tw E d F36:=by kernel_rfl
theorem AXq:TW E (d+1) 37=tw E d F37:=by kernel_rfl
theorem AQ2:TW E (d+1) 38=tw E d F38:=by kernel_rfl
theorem AXp:TW E (d+1) 39=tw E d F39:=by kernel_rfl
theorem AXo:TW E (d+1) 40=tw E d F40:=by kernel_rfl
theorem AXn:TW E (d+1) 41=tw E d F41:=by kernel_rfl
theorem AXm:TW E (d+1) 42=tw E d F42:=by kernel_rfl
theorem AXl:TW E (d+1) 43=tw E d F43:=by kernel_rfl
theorem AXk:TW E (d+1) 45=tw E d F45:=by kernel_rfl
theorem AXj:TW E (d+1) 46=tw E d F46:=by kernel_rfl
theorem AXi:TW E (d+1) 49=tw E d F49:=by kernel_rfl
theorem AXh:TW E (d+1) 55=tw E d F55:=by kernel_rfl
theorem AXg:TW E (d+1) 57=tw E d F57:=by kernel_rfl
theorem AXf:TW E (d+1) 58=tw E d F58:=by kernel_rfl
theorem AXe:TW E (d+1) 59=tw E d F59:=by kernel_rfl
theorem AXd:TW E (d+1) 60=tw E d F60:=by kernel_rfl
theorem AXc:TW E (d+1) 61=tw E d F61:=by kernel_rfl
theorem AXb:TW E (d+1) 62=tw E d F62:=by kernel_rfl
theorem AXa:TW E (d+1) 63=tw E d F63:=by kernel_rfl
theorem AQ1:TW E (d+1) 64=tw E d F64:=by kernel_rfl
theorem AXZ:TW E (d+1) 65=tw E d F65:=by kernel_rfl
theorem AXY:TW E (d+1) 66=tw E d F66:=by kernel_rfl
theorem AXX:TW E (d+1) 67=tw E d F67:=by kernel_rfl
theorem AQ0:TW E (d+1) 69=tw E d F69:=by kernel_rfl
theorem AXW:TW E (d+1) 70=tw E d F70:=by kernel_rfl
theorem AXV:TW E (d+1) 71=tw E d F71:=by kernel_rfl
theorem AXU:TW E (d+1) 72=tw E d F72:=by kernel_rfl
theorem AXT:TW E (d+1) 74=tw E d F74:=by kernel_rfl
theorem AXS:TW E (d+1) 76=tw E d F76:=by kernel_rfl
theorem AXR:TW E (d+1) 80=tw E d F80:=by kernel_rfl
theorem AXQ:TW E (d+1) 81=tw E d F81:=by kernel_rfl
theorem AXP:TW E (d+1) 82=tw E d F82:=by kernel_rfl
theorem AXO:TW E (d+1) 84=tw E d F84:=by kernel_rfl
theorem AXN:TW E (d+1) 87=tw E d F87:=by kernel_rfl
theorem AXM:TW E (d+1) 88=tw E d F88:=by kernel_rfl
theorem AXL:TW E (d+1) 89=tw E d F89:=by kernel_rfl
theorem AXK:TW E (d+1) 90=tw E d F90:=by kernel_rfl
theorem AXJ:TW E (d+1) 91=tw E d F91:=by kernel_rfl
theorem AXI:TW E (d+1) 92=tw E d F92:=by kernel_rfl
theorem AXH:TW E (d+1) 94=tw E d F94:=by kernel_rfl
theorem AXG:TW E (d+1) 95=tw E d F95:=by kernel_rfl
theorem AXF:TW E (d+1) 96=tw E d F96:=by kernel_rfl
theorem AXE:TW E (d+1) 97=tw E d F97:=by kernel_rfl
theorem ARq:TW E (d+1) 105=tw E d w9:=by kernel_rfl
theorem ARp:TW E (d+1) 106=tw E d w8:=by kernel_rfl
theorem ARo:TW E (d+1) 107=tw E d wz:=by kernel_rfl
theorem ARn:TW E (d+1) 108=tw E d nL:=by kernel_rfl
theorem ARm:TW E (d+1) 109=tw E d wy:=by kernel_rfl
theorem ARk:TW E (d+1) 110=tw E d wx:=by kernel_rfl
theorem ARj:TW E (d+1) 111=tw E d nK:=by kernel_rfl
theorem ARi:TW E (d+1) 114=tw E d nJ:=by kernel_rfl
theorem ARh:TW E (d+1) 115=tw E d nH:=by kernel_rfl
theorem ARg:TW E (d+1) 118=tw E d nG:=by kernel_rfl
theorem ADJ:TW E (d+1) 119=tw E d nF:=by kernel_rfl
theorem ARf:TW E (d+1) 121=tw E d wv:=by kernel_rfl
theorem ARe:TW E (d+1) 123=tw E d nE:=by kernel_rfl
theorem ADI:TW E (d+1) 124=tw E d nD:=by kernel_rfl
theorem ARd:TW E (d+1) 125=tw E d wq:=by kernel_rfl
theorem ARc:TW E (d+1) 128=tw E d nC:=by kernel_rfl
theorem ARb:TW E (d+1) 129=tw E d wo:=by kernel_rfl
theorem ARa:TW E (d+1) 136=tw E d wm:=by kernel_rfl
theorem ARZ:TW E (d+1) 137=tw E d nB:=by kernel_rfl
theorem ARY:TW E (d+1) 140=tw E d wj:=by kernel_rfl
theorem ARX:TW E (d+1) 142=tw E d wh:=by kernel_rfl
theorem ARW:TW E (d+1) 143=tw E d wg:=by kernel_rfl
theorem ARV:TW E (d+1) 144=tw E d we:=by kernel_rfl
theorem ARU:TW E (d+1) 145=tw E d wc:=by kernel_rfl
theorem ART:TW E (d+1) 146=tw E d nA:=by kernel_rfl
theorem ARS:TW E (d+1) 147=tw E d wZ:=by kernel_rfl
theorem ARR:TW E (d+1) 148=tw E d wY:=by kernel_rfl
theorem ARQ:TW E (d+1) 149=tw E d m9:=by kernel_rfl
theorem ARP:TW E (d+1) 150=tw E d wX:=by kernel_rfl
theorem ARO:TW E (d+1) 156=tw E d wW:=by kernel_rfl
theorem ADH:TW E (d+1) 158=tw E d wV:=by kernel_rfl
theorem ARN:TW E (d+1) 161=tw E d m8:=by kernel_rfl
theorem ARM:TW E (d+1) 167=tw E d wU:=by kernel_rfl
theorem ARL:TW E (d+1) 173=tw E d wT:=by kernel_rfl
theorem ARK:TW E (d+1) 174=tw E d wS:=by kernel_rfl
theorem ARJ:TW E (d+1) 175=tw E d wR:=by kernel_rfl
theorem ARI:TW E (d+1) 176=tw E d wQ:=by kernel_rfl
theorem ARH:TW E (d+1) 177=tw E d wP:=by kernel_rfl
theorem ARG:TW E (d+1) 181=tw E d mz:=by kernel_rfl
theorem ARF:TW E (d+1) 187=tw E d wO:=by kernel_rfl
theorem ARE:TW E (d+1) 188=tw E d my:=by kernel_rfl
theorem ARD:TW E (d+1) 190=tw E d mw:=by kernel_rfl
theorem ARC:TW E (d+1) 191=tw E d mq:=by kernel_rfl
theorem ARB:TW E (d+1) 192=tw E d mn:=by kernel_rfl
theorem ARA:TW E (d+1) 195=tw E d mm:=by kernel_rfl
theorem AQ9:TW E (d+1) 196=tw E d wN:=by kernel_rfl
theorem AQ8:TW E (d+1) 197=tw E d mj:=by kernel_rfl
theorem AQ7:TW E (d+1) 199=tw E d mh:=by kernel_rfl
end
theorem DE4 E d:TW E (d+1) 4=XT [eAw] (BD E 600000 (TW E d) 4):=by kernel_rfl
end
noncomputable section
theorem DC{U:H}(b:Ai U) z:∃U1,Cb U (.cells z)=U1/\Fr AH U U1/\Bx U1 U.j z/\U1.j=U.j+1:=by grind [Cb,Fr.new,Kt]
theorem QC{U b l}(c:Ai U)(h:Bx U b l) z:∃U1,Gl U b (.cells z)=U1/\Fr (λk=>k=b) U U1/\Bx U1 b z:=by grind [Ai,Bx,Fr.set,Y0]
structure Wr(U:H)(w:Nat)(u:V)(L:List Nat):Prop where
 X:Bx U w [u]
 d:DW U 1 L.length u (I4 (nI L))
 ne:¬AJ u w
def J3(w:Nat)(u:V):Nat->Prop:=λb=>b=w\/AJ u b
structure J2(U:H)(w:Nat)(u:V)(U':H)(u':V)(L':List Nat):Prop where
 wr:Wr U' w u' L'
 f:Fr (J3 w u) U U'
 g:∀b,AJ u' b->AJ u b\/U.j<=b
section
variable {E:EB}{U U1 U2:H}{w:Nat}{u u1 u2:V}{L L1 L2:List Nat}
theorem J2.refl(h:Wr U w u L)(b:Ai U):J2 U w u U u L:=⟨h,Fr.refl b,λ_ a => .inl a⟩
theorem J2.trans(h:J2 U w u U1 u1 L1)(k:J2 U1 w u1 U2 u2 L2):J2 U w u U2 u2 L2:=by
 refine⟨k.wr,h.f.trans k.f (λb i e=>?_),λb i=>?_⟩
 ·rcases e with e|e
  ·exact .inl e
  ·rcases h.g b e with d|d
   ·exact .inr d
   ·omega
 ·rcases k.g b i with d|d
  ·exact h.g b d
  ·exact .inr (BE h.f.le d)
theorem Wr.Z(h:Wr U w u L)(f:Fr AH U U1)(a:Ai U):Wr U1 w u L:=⟨f.X h.X a (λh=>h),h.d.Z f a (λ_ _ h=>h),h.ne⟩
theorem J2.behind(f:Fr AH U U1)(k:J2 U1 w u U2 u2 L2):J2 U w u U2 u2 L2:=
 ⟨k.wr,f.mono (λ_ _ h=>h.elim) |>.trans k.f (λ_ _ h=>h),λb a=>(k.g b a).imp id (λh=>BE f.le h)⟩
theorem J2.and(h:J2 U w u U1 u1 L1)(f:Fr AH U1 U2):J2 U w u U2 u1 L1:=
 ⟨h.wr.Z f h.f.y,h.f.trans f (λ_ _ h=>h.elim),h.g⟩
theorem oJ(h:Wr U w u L)(m:Ai U) c (S:L.length<9000000):∃g U',(∀J:H->AE,(Dx E 1 1 u (V.D (H.j U) 0 1 (.ex 1)) (Cb U (.cells [.int .u8 (AA c)])) λC G=>CI C (DO 1 w 0 C G λK=>J K))=J U')/\J2 U w u U' g (L++[c]):=by
 have ⟨U1,P,l,R,T⟩:=DC m [.int .u8 (AA c)];rw[P];have x:Cv U1 1 1 (V.D U.j 0 1 (.ex 1)) [.int .u8 (AA c)] := .inr ⟨_,_,_,_,rfl,R,AL _,rfl⟩;have ⟨g,Q,I,D,B,r⟩:=Dd (E:=E) (bytes:=1) (h.d.Z l m (λ_ _ h=>h)) l.y x rfl (by
  unfold Bu;simp;omega)
 have y:=r.X (l.X h.X m (λh=>h)) l.y h.ne;have W:=h.X.lt m;have j:¬AJ g w:=λi=>by
  rcases B w i with k|k
  ·exact h.ne k
  ·omega
 have ⟨O,N,v,M⟩:=QC r.y y [g];have o:=D.S;have ⟨X,z⟩:=Et o;refine⟨g,O,λJ=>?_,⟨M,?_,j⟩,?_,?_⟩
 ·rw[I,Bt o,Ed y (by rw[z];cases g<;>first | rfl | cases o),z]
  show J (Gl Q w (.cells [g]))=_;rw[N]
 ·rw[AP,QA,JW]
  exact D.Z v r.y (λb i F=>j (by cases F;exact i))
 ·exact((l.mono (λ_ _ h=>h.elim):Fr (J3 w u) U U1).trans r (λ_ _ h => .inr h)).trans v (λ_ _ h => .inl h)
 ·intro b i
  rcases B b i with k|k
  ·exact .inl k
  ·exact .inr (by omega)
def Gy(U:H)(w:Nat)(u:V)(b:Nat):Prop:=b<U.j/\b≠w/\¬AJ u b
theorem J2.off(h:J2 U w u U1 u1 L1){b}(o:Gy U w u b):Gy U1 w u1 b:=
 ⟨Eh o.1 h.f.le,o.2.1,λc=>(h.g b c).elim o.2.2 (by have:=o.1;omega)⟩
theorem Gy.not{b}(o:Gy U w u b):¬J3 w u b:=by grind [Gy,J3]
theorem Gy.Z{b}(o:Gy U w u b)(f:Fr AH U U1):Gy U1 w u b:=⟨Eh o.1 f.le,o.2⟩
theorem Gy.new(h:Wr U w u L)(d:Ai U){b}(g:U.j<=b)(c:b<U1.j):Gy U1 w u b:=
 ⟨c,λe=>by have:=h.X.lt d;omega,λf=>by have:=h.d.lt d f;omega⟩
theorem J2.X(h:J2 U w u U1 u1 L1)(c:Ai U){b l}(o:Gy U w u b)(a:Bx U b l):Bx U1 b l:=h.f.X a c o.not
def AtE(E:EB)(U:H)(b:Nat)(l:List V):Prop:=BX U.F b=some (.cells l)\/(BX U.F b=none/\BX E b=some (.cells l))
def Sq(E:EB)(U:H)(x:V)(l:List Int):Prop:=(l=[]/\x = .h)\/(∃b o c,l=[]/\x = .D b o 0 c)\/∃b o c M,x = .D b o l.length c/\AtE E U b M/\o+l.length<=M.length/\I4 l=(M.drop o).take l.length
theorem Sq.of{x l}(h:By U x l):Sq E U x l:=by
 rcases h with ⟨i,rfl,_⟩|⟨b,o,c,M,rfl,g,j,f⟩
 ·exact .inl ⟨Ba i,rfl⟩
 ·exact .inr (.inr ⟨b,o,c,M,rfl,.inl g,by omega,by rw[f,CB]⟩)
theorem Sq.S{x:V}{l}(h:Sq E U x l):x.S=true:=by
 rcases h with ⟨_,rfl⟩|⟨_,_,_,_,rfl⟩|⟨_,_,_,_,rfl,_⟩<;>rfl
theorem Sq.ip{x}{l:List Int}(h:Sq E U x l) J:Ao x J=J l.length:=by grind [Sq,Ao]
theorem Sq.Q{x l}(h:Sq E U x l)(j:∀b,AJ x b->BX U1.F b=BX U.F b):Sq E U1 x l:=by
 rcases h with h|h|⟨b,o,c,M,rfl,k,g,i⟩
 ·exact .inl h
 ·exact .inr (.inl h)
 ·refine .inr (.inr ⟨b,o,c,M,rfl,?_,g,i⟩)
  unfold AtE at *;rw[j b rfl];exact k
theorem J2.sq(h:J2 U w u U1 u1 L1){x l}(o:∀b,AJ x b->Gy U w u b)(c:Sq E U x l):Sq E U1 x l:=c.Q λb a=>h.f.same b (o b a).1 (o b a).not
theorem Sq.Z{x l}(c:Sq E U x l)(f:Fr AH U U1)(o:∀b,AJ x b->b<U.j):Sq E U1 x l:=c.Q λb a=>f.same b (o b a) λh=>h
theorem qw{x}{l:List Int}{k c}(h:Sq E U x l)(p:l[k]? = some c) J:AS 1 x (AA k) (λb o=>DF E U b o J)=J (.int .u8 c):=by
 have f:k<l.length:=by
  rcases A2 k l.length with h|h
  ·exact h
  ·rw[A4 h]at p;cases p
 rcases h with ⟨m,_⟩|⟨_,_,_,m,_⟩|⟨b,o,v,M,rfl,n,u,t⟩
 ·rw[m]at f;simp at f
 ·rw[m]at f;simp at f
 ·rw[CC f]
  have s:(I4 l)[k]? = some (.int .u8 c):=by unfold I4;rw[As,p];rfl
  rw[t,G0,if_pos f,B6]at s;show DF E U b (o+k*1) J=_;rw[CB];have e:∀r,xg E U b r=r M:=λr=>by
   unfold xg;rcases n with n|⟨m,n⟩
   ·rw[n]
   ·rw[m,n]
  unfold DF;rw[e];exact PE (by rw[Mg];exact s)
theorem ZS{O}{k c:Nat}(h:O[k]? = some c):(nI O)[k]? = some (AA c):=by grind [nI]
theorem Zu{v n}(d:v<=4294967295)(c:n<=32):An .u8 (MD .u32 (J0 .u32 (AA v) n) (AA 1))=AA (v / 2 ^ n % 2):=by
 rw[PC c,X3 (BE (Nat.div_le_self _ _) d),BJ (by rw[T9];omega)]
theorem Zt{v n}(d:v<=18446744073709551615)(c:n<=64):An .i64 (MD .u64 (J0 .u64 (AA v) n) (AA 1))=AA (v / 2 ^ n % 2):=by
 rw[PC c,rY (BE (Nat.div_le_self _ _) d),BJ (by rw[QF];omega)]
def L3:Nat->Int
 | 0=>A1 0
 | k+1=>AA k
theorem JD{k}(h:k<=1000):Dj .i64 (AA k) (AA 1)=L3 k:=by
 cases k with
 | zero=>rfl | succ k=>rw[E8 (by omega) (by omega)];rfl
theorem py a b:G8 (AA a) (AA b)=AA (min a b):=by grind [G8]
theorem Mm a b:Gr (AA a) (AA b)=AA (max a b):=by grind [Gr]
theorem QG a:Gr (AA 0) (AA a)=AA a:=by grind [Gr]
theorem Hf{a b}(h:a<=b):G8 (AA a) (AA b)=AA a:=by grind [py]
end
end
noncomputable section
def tY(F:List V->H->AE):Prop:=∀U w u (L:List Nat) c,Wr U w u L->Ai U->L.length<9000000->c<2 ->
 ∃a U',F [.o w 0,.int .i64 (AA c)] U=some (.B [],U')/\J2 U w u U' a (L++[c])
def MQ(F:List V->H->AE):Prop:=∀U w u (L:List Nat) v n,Wr U w u L->Ai U->L.length<8000000->v<=18446744073709551615->n<=64 ->
 ∃a U',F [.o w 0,.int .u64 (AA v),.int .i64 (AA n)] U=some (.B [],U')/\J2 U w u U' a (L++CV n v)
def RS(F:List V->H->AE):Prop:=∀U w u (L:List Nat) v n,Wr U w u L->Ai U->L.length<8000000->v<=4294967295->n<=32 ->
 ∃a U',F [.o w 0,.int .u32 (AA v),.int .i64 (AA n)] U=some (.B [],U')/\J2 U w u U' a (L++CV n v)
section
variable {E:EB}{D:Ac}{W:AF}{N:Nat}
theorem pS:tY (F16 E D W N):=by
 intro U w u L c h o n q;have ⟨p,U',g,k⟩:=oJ (E:=E) h o c n;refine⟨p,U',?_,k⟩;show tJ E D W w 0 (AA c) U=_;unfold tJ;have a:=h.X;have:c=0\/c=1:=by omega
 rcases this with rfl|rfl
 ·simp only[↓AT a]
  exact g _
 ·simp only[↓AT a]
  exact g _
theorem AFY(Q:tY (D 16))(X:64<N):MQ (F8 E D W N):=by
 intro U w u L v n h m z M y;have p:∀k e u U (L:List Nat),k<=64->k<e->Wr U w u L->Ai U->L.length+k<9000000 ->
   ∃r U',AAx E D W N e w 0 (AA v) (L3 k) U=some (.B [],U')/\J2 U w u U' r (L++CV k v):=by
  intro k;induction k with
  | zero=>
   intro e u U L S t h m z;obtain⟨e,rfl⟩:∃k,e=k+1:=⟨e-1,by omega⟩;refine⟨u,U,rfl,?_⟩;rw[show CV 0 v=[] from rfl,BP];exact J2.refl h m
  | succ k P=>
   intro e u U L S t h m z;obtain⟨e,rfl⟩:∃k,e=k+1:=⟨e-1,by omega⟩;have ⟨I,U1,G,q⟩:=Q U w u L (v / 2 ^ k % 2) h m (by omega) (Jr _ (by decide));have ⟨J,C,O,T⟩:=P e I U1 _ (by omega) (by omega) q.wr q.f.y (by simp;omega);refine⟨J,C,?_,?_⟩
   ·have key:∀R,AFf E D W R w 0 (AA v) (L3 (k+1)) U=R w 0 (AA v) (L3 k) U1:=by
     intro R;unfold AFf;have F:An .u64 (AA k)=AA k:=BJ (by rw[HA];omega);show AK (HL (AA 0) (AA k)) (T7 (An .u64 (AA k)) _) _=_;have K:HL (AA 0) (AA k)=true:=by rw[Jb];exact decide_eq_true (CA _)
     simp only[↓rP,rS,K,F,Mi,Zt M (show k<=64 by omega),↓G];rw[show L3 (k+1)=AA k from rfl,JD (by omega)]
    exact(key _).trans O
   ·have:=q.trans T
    rw[BC]at this;exact this
 have ⟨r,U',g,s⟩:=p n N u U L y (by omega) h m (by omega);refine⟨r,U',?_,s⟩;show AFg E D W (AAx E D W N N) w 0 (AA v) (AA n) U=_;unfold AFg;rw[Hf y,QG,JD (by omega)];exact g
theorem rH(X:64<N):RS (F72 E D W N):=by
 intro U w u L v n h q z O C;have m:∀k f u U (L:List Nat),k<=32->k<f->Wr U w u L->Ai U->L.length+k<9000000 ->
   ∃t U',jR E D W N f w 0 (AA v) (L3 k) U=some (.B [],U')/\J2 U w u U' t (L++CV k v):=by
  intro k;induction k with
  | zero=>
   intro f u U L K x h q z;obtain⟨f,rfl⟩:∃k,f=k+1:=⟨f-1,by omega⟩;refine⟨u,U,rfl,?_⟩;rw[show CV 0 v=[] from rfl,BP];exact J2.refl h q
  | succ k G=>
   intro f u U L K x h q z;obtain⟨f,rfl⟩:∃k,f=k+1:=⟨f-1,by omega⟩;have ⟨J,U1,S,r⟩:=oJ (E:=E) h q (v / 2 ^ k % 2) (by omega);have ⟨P,F,T,M⟩:=G f J U1 _ (by omega) (by omega) r.wr r.f.y (by simp;omega);refine⟨P,F,?_,?_⟩
   ·have key:∀R,sK E D W R w 0 (AA v) (L3 (k+1)) U=R w 0 (AA v) (L3 k) U1:=by
     intro R;unfold sK;have Q:An .u64 (AA k)=AA k:=BJ (by rw[HA];omega);have I:HL (AA 0) (L3 (k+1))=true:=by rw[show L3 (k+1)=AA k from rfl,Jb];exact decide_eq_true (CA _)
     have a:=h.X;simp only[↓rP,I,↓AT a];rw[show L3 (k+1)=AA k from rfl,Q,Mi,Zu O (by omega),S,JD (by omega)]
    exact(key _).trans T
   ·have:=r.trans M
    rw[BC]at this;exact this
 have ⟨t,U',g,s⟩:=m n N u U L C (by omega) h q (by omega);refine⟨t,U',?_,s⟩;show sL E D W (jR E D W N N) w 0 (AA v) (AA n) U=_;unfold sL;rw[Hf C,QG,JD (by omega)];exact g
end
end
noncomputable section
def cq(E:EB)(F:List V->H->AE):Prop:=∀U w p u x (L O:List Nat),Wr U w u L->Ai U->L.length+8*O.length<8000000->O.length<=70000->(∀c∈O,c<256) ->
 Bx U p [x]->Sq E U x (nI O)->Gy U w u p->(∀b,AJ x b->Gy U w u b) ->
 ∃a U',F [.o w 0,.D p 0 1 (.ex 1)] U=some (.B [],U')/\J2 U w u U' a (L++FP O)
def cu(E:EB)(F:List V->H->AE):Prop:=∀U w u x (L O:List Nat),Wr U w u L->Ai U->L.length+8*O.length<8000000->O.length<=70000->(∀c∈O,c<256) ->
 Sq E U x (nI O)->(∀b,AJ x b->Gy U w u b) ->
 ∃a U',F [.o w 0,x] U=some (.B [],U')/\J2 U w u U' a (L++FP O)
section
variable {E:EB}{D:Ac}{W:AF}{N:Nat}
theorem AEq(hB:RS (D 72))(hN:70002<N):cq E (F36 E D W N):=by
 intro U w p u x L O h A S hO hc B v G F;have C:∀P m q i u U (L:List Nat),i+m=O.length->m<q->Wr U w u L->Ai U->L.length+8*m<8000000->Bx U p [x]->Sq E U x (nI O)->Gy U w u p->(∀b,AJ x b->Gy U w u b) ->
   ∃I U',jT E D W N P q (.o w 0) (.D p 0 1 (.ex 1)) (AA 0) (AA i) U=P (.o w 0) (.D p 0 1 (.ex 1)) (AA 1) U'/\J2 U w u U' I (L++FP (O.drop i)):=by
  intro P m;induction m with
  | zero=>
   intro q i u U L hi Q h A S B v G F;obtain⟨q,rfl⟩:∃k,q=k+1:=⟨q-1,by omega⟩;refine⟨u,U,?_,?_⟩
   ·show S6 E D W (ACr E D W P) _ (.o w 0) (.D p 0 1 (.ex 1)) (AA 0) (AA i) U=_
    have key:∀K R,S6 E D W K R (.o w 0) (.D p 0 1 (.ex 1)) (AA 0) (AA i) U=K (.o w 0) (.D p 0 1 (.ex 1)) (AA 0) U:=by
     intro K R;unfold S6;have T:∀J,AS 1 (.D p 0 1 (.ex 1)) (AA 0) J=J p 0:=λJ=>CC (DK 0);have Y:decide (i<(nI O).length)=false:=decide_eq_false (by rw[C9];omega);simp only[↓rP,rA,AD,AG,AB,↓T,↓AT B,↓v.ip,Y]
    rw[key];rfl
   ·rw[show O.drop i=[] from Jt (by omega),show FP []=[] from rfl,BP];exact J2.refl h A
  | succ m ih=>
   intro q i u U L hi Q h A S B v G F;obtain⟨q,rfl⟩:∃k,q=k+1:=⟨q-1,by omega⟩;have z:i<O.length:=by omega
   have X:O[i]? = some O[i]:=AI z;have hb:O[i]<256:=hc _ (Gg z);have ⟨u1,U1,g1,t⟩:=hB U w u L O[i] 8 h A (by omega) (by omega) (by decide);have ⟨u2,U2,g2,s2⟩:=ih q (i+1) u1 U1 _ (by omega) (by omega) t.wr t.f.y (by simp only[AP,Cw];omega) (t.X A G B) (t.sq F v) (t.off G) (λb hb=>t.off (F b hb));refine⟨u2,U2,?_,?_⟩
   ·have key:∀K R,S6 E D W K R (.o w 0) (.D p 0 1 (.ex 1)) (AA 0) (AA i) U=R (.o w 0) (.D p 0 1 (.ex 1)) (AA 0) (AA (i+1)) U1:=by
     intro K R;unfold S6;have T:∀J:Nat->Nat->AE,AS 1 (.D p 0 1 (.ex 1)) (AA 0) J=J p 0:=λJ=>CC (DK 0);have Y:decide (i<(nI O).length)=true:=decide_eq_true (by rw[C9];omega);have rd:∀J,AS 1 x (AA i) (λb o=>DF E U b o J)=J (.int .u8 (AA O[i])):=λJ=>qw v (ZS X) J;have e1:An .u32 (AA O[i])=AA O[i]:=BJ (by rw[QD];omega);simp only[↓rP,rA,AD,AG,AB,↓T,↓AT B,↓v.ip,Y,↓rd,e1,↓g1,Al (show i+1<=9223372036854775807 by omega)]
    exact(key _ _).trans g2
   ·have:=t.trans s2
    rw[BC,<-show FP (O.drop i)=CV 8 O[i]++FP (O.drop (i+1))by rw[Db z];rfl]at this;exact this
 obtain⟨M,rfl⟩:∃k,N=k+2:=⟨N-2,by omega⟩;obtain⟨I,U',g,s⟩:=C (jU E D W (M+2) (M+1)) O.length (M+2) 0 u U L (by omega) (by omega) h A S B v G F;refine⟨I,U',?_,by rw[E7]at s;exact s⟩;show S7 E D W (jT E D W (M+2) (jU E D W (M+2) (M+1)) (M+2)) (.o w 0) (.D p 0 1 (.ex 1)) (AA 0) U=_;have k1:∀K,S7 E D W K (.o w 0) (.D p 0 1 (.ex 1)) (AA 0) U=K (.o w 0) (.D p 0 1 (.ex 1)) (AA 0) (AA 0) U:=by
  intro K;unfold S7;simp only[↓rP,rA,AD,AG,AB]
 have k2:∀K,S7 E D W K (.o w 0) (.D p 0 1 (.ex 1)) (AA 1) U'=some (.B [],U'):=by
  intro K;unfold S7;simp only[↓rP,rA,AD,AG,AB]
 rw[k1,g];exact k2 _
theorem AEr(z:cq E (D 36)):cu E (F20 E D W N):=by
 intro U w u x L O h j v i y f l;have ⟨U1,q,a,o,A⟩:=DC j [x];have ⟨s,p,r,t⟩:=z U1 w U.j u x L O (h.Z a j) a.y v i y o (f.Z a λb e=>(l b e).1) (Gy.new h j (AL _) (by omega)) (λb e=>(l b e).Z a);refine⟨s,p,?_,J2.behind a t⟩;show tG E D W w 0 x U=_;unfold tG;simp only[↓rP,rS,↓QU f.S,f.S,↓q,↓r]
end
end
noncomputable section
def part(L:List Nat)(j:Nat):Nat->Nat
 | 0=>0
 | m+1=>part L j m+O5 L (8*j+m)*2 ^ (7-m)
theorem P6 L j:∀m,m<=8->∃q,part L j m=q*2 ^ (8-m)
 | 0,_=>⟨0,rfl⟩ | m+1,h=>by
  have ⟨q,e⟩:=P6 L j m (by omega);refine⟨q*2+O5 L (8*j+m),?_⟩;rw[part,e,show 8-m=(7-m)+1 by omega,show 8-(m+1)=7-m by omega,NI,nP,Nat.mul_assoc,ABv 2]
theorem Tz{L}(f:kM L) j:∀m,m<=8->part L j m+2 ^ (8-m)<=256
 | 0,_=>by show 0+2 ^ 8<=256;decide
 | m+1,h=>by
  have e:=Tz f j m (by omega);have b:=Ir f (8*j+m);rw[part,show 8-(m+1)=7-m by omega];rw[show 8-m=(7-m)+1 by omega,NI]at e;have:O5 L (8*j+m)=0\/O5 L (8*j+m)=1:=by omega
  rcases this with g|g<;>rw[g]<;>omega
theorem T0 L j:part L j 8=P8 L j:=by grind (gen:=20) [part,P8]
theorem AFZ{L:List Nat}{i}(h:L.length<=i):O5 L i=0:=by grind [O5]
theorem ko{L:List Nat}{j m}(h:L.length<=8*j+m):∀k,m<=k->part L j k=part L j m:=by intro x;induction x with grind [part,AFZ]
def Fe(L:List Nat)(n:Nat):List Nat:=(CW n).map (P8 L)
theorem JU L n:(Fe L n).length=n:=by simp[Fe]
theorem Pe L n:Fe L (n+1)=Fe L n++[P8 L n]:=by simp[Fe,List.range_succ]
def IS(L:List Nat)(i:Nat):List Nat:=Fe L (i / 8)++(if i % 8=0 then [] else [part L (i / 8) (i % 8)])
theorem Sa L i:IS L (i+1)=Fe L (i / 8)++[part L (i / 8) (i % 8+1)]:=by
 unfold IS;by_cases h:i % 8=7
 ·rw[show (i+1) % 8=0 by omega,if_pos rfl,show (i+1) / 8=i / 8+1 by omega,Pe,h,T0,BP]
 ·rw[if_neg (by omega),show (i+1) / 8=i / 8 by omega,show (i+1) % 8=i % 8+1 by omega]
theorem XJ(L:List Nat):IS L L.length=P9 L:=by
 unfold IS;show _=Fe L (E9 L.length);by_cases h:L.length % 8=0
 ·rw[if_pos h,BP,show E9 L.length=L.length / 8 by unfold E9;omega]
 ·rw[if_neg h,show E9 L.length=L.length / 8+1 by unfold E9;omega,Pe,<-T0]
  congr 2;exact(ko (by omega) 8 (by omega)).symm
theorem ACU{q b n}(g:n<=7)(f:b<2)(h:q*2 ^ (n+1)+b*2 ^ n<=255):orF .u8 (AA (q*2 ^ (n+1))) (ZG .u8 (AA b) n)=AA (q*2 ^ (n+1)+b*2 ^ n):=by
 have e:b*2 ^ n<2 ^ (n+1):=by
  rw[NI,ABv];exact Nat.mul_lt_mul_of_pos_left f (nO (by decide))
 rw[fU,show Ga n (IntKind.bits .u8)=n from Ha (BE g (by decide)),show AA b*2 ^ n=AA (b*2 ^ n)by
  rw[show AA (b*2 ^ n)=((b*2 ^ n:Nat):Int)from rfl,Int.natCast_mul,xZ];rfl,I3 (by rw[T9];omega),pf,BitVec.toNat_or,Hs,Hs,show IntKind.bits .u8=8 from rfl,Dn (show q*2 ^ (n+1)<2 ^ 8 by omega),Dn (show b*2 ^ n<2 ^ 8 by omega),AEn e]
 exact I3 (by rw[T9];omega)
theorem AK7{i}(h:i<=9223372036854775807):NQ .i64 (AA i) (AA 8)=AA (i / 8):=by
 rw[fh,show (AA i).tdiv (AA 8)=AA (i / 8)from rfl];exact I3 (by rw[QF];omega)
theorem ky i:EW (AA i) (AA 8)=AA (i % 8):=rfl
section
variable {E:EB}{U0 U:H}{v:V}{a r:List Int}{c:Int}
theorem AEv(h:Nb U0 U v (a++c::r))(A:Fr AH U0 U) d:
  ∃b U',(∀J,AS 1 v (AA a.length) J=J b a.length)/\(∀J,DF E U b a.length J=J (.int .u8 c))/\(∀J,DO 1 b a.length (.int .u8 d) U J=J U')/\Nb U0 U' v (a++d::r)/\Fr AH U0 U'/\Fr (λb=>U0.j<=b) U U':=by
 have ⟨G,z⟩:=h;have k:(a++c::r).length=(a++d::r).length:=by simp
 have key:∀b C,v = .D b 0 (a++c::r).length C->Bx U b (I4 (a++c::r))->(∀U',Bx U' b (I4 (a++d::r))->DW U' 1 (a++d::r).length v (I4 (a++d::r)))->∃b U',(∀J,AS 1 v (AA a.length) J=J b a.length)/\(∀J,DF E U b a.length J=J (.int .u8 c))/\(∀J,DO 1 b a.length (.int .u8 d) U J=J U')/\Nb U0 U' v (a++d::r)/\Fr AH U0 U'/\Fr (λb=>U0.j<=b) U U':=by
  intro b C m p y;have ⟨U',e,f,s⟩:=QC A.y p (I4 (a++d::r));have D:=z b (by rw[m];rfl);refine⟨b,U',λJ=>?_,λJ=>?_,λJ=>?_,⟨y U' s,z⟩,A.trans f (λI F e'=>by subst e';omega),f.mono (λI _ e'=>by subst e';exact D)⟩
  ·rw[m,CC (by simp)]
   show J b (0+a.length*1)=_;rw[BV,CB]
  ·exact GS p (by unfold I4;rw[As,Aw (AL _),Ec];rfl)
  ·rw[Ed p (by
    simp only[Ag,FM,AP,AQ,Bn];refine⟨⟨rfl,?_⟩,rfl⟩;show a.length+1<=_;omega)]
   rw[show FW (I4 (a++c::r)) a.length (V.int .u8 d).cells=I4 (a++d::r)from by
    have:=ZE (I4 a) (.int .u8 c) (I4 r) (.int .u8 d);rw[FM]at this;rw[JW,JW];exact this,e]
 rcases G with (⟨w,_⟩|⟨b,m,p,w,K⟩)|⟨b,m,p,K⟩
 ·simp at w
 ·refine key b _ m p λU' s => .inl (.inr ⟨b,?_,s,by rw[<-k];exact w,by rw[FM,CB]⟩)
  rw[<-k];exact m
 ·refine key b _ m p λU' s => .inr ⟨b,?_,s,by rw[FM,CB]⟩
  rw[<-k];exact m
end
end
noncomputable section
def VV(B:Nat)(F:List V->H->AE):Prop:=∀U w u (L:List Nat),Wr U w u L->Ai U->kM L->L.length<=B ->
 ∃v U',F [.o w 0] U=some (v,U')/\Nb U U' v (nI (P9 L))/\Fr AH U U'
theorem XI L i:(IS L i).length=E9 i:=by grind [IS,E9,JU]
theorem zh{E U u}{L:List Nat}{i}(h:DW U 1 L.length u (I4 (nI L)))(f:i<L.length) J:AS 1 u (AA i) (λb o=>DF E U b o J)=J (.int .u8 (AA (O5 L i))):=by
 have g:By U u (nI L):=by
  show Cv U 1 (nI L).length u _;rw[C9];exact h.src
 refine qw (Sq.of g) ?_ J;refine ZS ?_;unfold O5;rw[BK,AI f];rfl
section
variable {E:EB}{D:Ac}{W:AF}{N B:Nat}
theorem ZK(hN:B+1<N)(hB:B<=9000000):VV B (F26 E D W N):=by
 intro U w u L h ht hb hl;have O:∀m r i (v:V) (U1:H),i+m=L.length->m<r->Fr AH U U1->Nb U U1 v (nI (IS L i)) ->
   ∃v' U',Yd E D W N r w 0 v (AA i) U1=some (v',U')/\Nb U U' v' (nI (P9 L))/\Fr AH U U':=by
  intro m;induction m with
  | zero=>
   intro r i v U1 hi hn' t M;obtain⟨r,rfl⟩:∃k,r=k+1:=⟨r-1,by omega⟩;have h1:=h.Z t ht;refine⟨v,U1,?_,by rw[<-XJ,<-(show i=L.length by omega)];exact M,t⟩;have key:∀K1 K2,Qx E D W K1 K2 w 0 v (AA i) U1=K1 v U1:=by
    intro K1 K2;unfold Qx;have a:=h1.X;have d1:decide (i<L.length)=false:=decide_eq_false (by omega);simp only[↓rP,rA,AD,AG,AB,↓AT a,↓h1.d.ip,d1]
   exact(key _ _).trans rfl
  | succ m ih=>
   intro r i v U1 hi hn' t M;obtain⟨r,rfl⟩:∃k,r=k+1:=⟨r-1,by omega⟩;have Q:i<L.length:=by omega
   have h1:=h.Z t ht;have ⟨C,A,g2,h2,f2⟩:∃C A,(∀K1 K4,Qx E D W K1 K4 w 0 v (AA i) U1=K4 w 0 C (AA i) A)/\Nb U A C (nI (Fe L (i / 8))++AA (part L (i / 8) (i % 8))::[])/\Fr AH U A:=by
    have d1:decide (i<L.length)=true:=decide_eq_true Q;have a:=h1.X;by_cases P:i % 8=0
    ·have ⟨A,e2,f2,a2,n2⟩:=DC t.y [.int .u8 (AA 0)]
     have x:By A (V.D U1.j 0 1 (.ex 1)) [AA 0] := .inr ⟨_,_,_,_,rfl,a2,AL _,rfl⟩;have ⟨v3,I,g3,h3,f3,_⟩:=Zw (E:=E) (M.Z f2 t.y) (t.trans f2 (λ_ _ h=>h)) x (by rw[C9,XI];unfold E9;simp;omega);refine⟨v3,I,λK1 K4=>?_,?_,f3⟩
     ·unfold Qx
      have d2:B8 (EW (AA i) (AA 8)) (AA 0)=true:=by rw[ky,My];exact decide_eq_true P
      simp only[↓rP,rA,AD,AG,AB,↓AT a,↓h1.d.ip,d1,d2,↓e2,↓g3,↓Bt h3.1.S]
     ·have e:IS L i=Fe L (i / 8):=by unfold IS;rw[if_pos P,BP]
      rw[e]at h3;rw[P];exact h3
    ·refine⟨v,U1,λK1 K4=>?_,?_,t⟩
     ·unfold Qx
      have d2:B8 (EW (AA i) (AA 8)) (AA 0)=false:=by rw[ky,My];exact decide_eq_false P
      simp only[↓rP,rA,AD,AG,AB,↓AT a,↓h1.d.ip,d1,d2]
     ·have e:IS L i=Fe L (i / 8)++[part L (i / 8) (i % 8)]:=by unfold IS;rw[if_neg P]
      rw[e,QA]at M;exact M
   have hh:=h.Z f2 ht;have lw:(nI (Fe L (i / 8))).length=i / 8:=by rw[C9,JU]
   have ⟨b,I,ia,rd,st,h3,f3,_⟩:=AEv (E:=E) h2 f2 (AA (part L (i / 8) (i % 8+1)));rw[lw]at ia rd st;have ⟨v4,U4,g4,h4,f4⟩:=ih r (i+1) C I (by omega) (by omega) f3 (by rw[Sa,QA];exact h3);refine⟨v4,U4,?_,h4,f4⟩;have key:∀K,ic E D W K w 0 C (AA i) A=K w 0 C (AA i) I:=by
    intro K;unfold ic;have a:=hh.X;have gt:∀J,AS 1 u (AA i) (λb o=>DF E A b o J)=J (.int .u8 (AA (O5 L i))):=λJ=>zh hh.d Q J;have sh:An .u64 (Dj .i64 (AA 7) (AA (i % 8)))=AA (7-i % 8):=by
     rw[E8 (by omega) (by omega),BJ (by rw[HA];omega)]
    have hq:orF .u8 (AA (part L (i / 8) (i % 8))) (ZG .u8 (AA (O5 L i)) (7-i % 8))=AA (part L (i / 8) (i % 8+1)):=by
     have ⟨q,e⟩:=P6 L (i / 8) (i % 8) (by omega);have z:=Tz hb (i / 8) (i % 8+1) (by omega);have hp:0<2 ^ (8-(i % 8+1)):=nO (by decide);rw[part,show 8*(i / 8)+i % 8=i by omega]at z ⊢;rw[e,show 8-i % 8=(7-i % 8)+1 by omega]at z ⊢;exact ACU (by omega) (Ir hb i) (by omega)
    simp only[↓rP,rS,AK7 (show i<=9223372036854775807 by omega),ky,↓ia,↓rd,↓AT a,↓gt,sh,Mi,hq,↓st]
   show Qx E D W _ (ic E D W (ACs E D W (Yd E D W N r))) w 0 v (AA i) U1=_;rw[g2,key];show Yd E D W N r w 0 C (BQ .i64 (AA i) (AA 1)) I=_;rw[Al (by omega)];exact g4
 have ⟨v,U',g,h1,t⟩:=O L.length N 0 .h U (by omega) (by omega) (Fr.refl ht) (Nb.nil U U);exact⟨v,U',g,h1,t⟩
end
end
noncomputable section
def xA(x:V):Prop:=match x with
 | .D _ _ n (.ex c)=>n<=c
 | .D _ _ _ (.op e)=>e=1
 | _=>True
section
variable {E:EB}{U:H}{x:V}{l:List Int}
theorem PM(l:List Int) d:GX (some (.int .i64 (AA l.length))) d=some l.length:=by grind [GX]
theorem AB7{b o c}(f:l.length<=c):CT 1 (.D b o l.length (.ex c)) none (some (.int .i64 (AA l.length))) none=some (.D b o l.length (.ex c)):=by
 unfold CT;simp only[PM,show GX none c=some c from rfl,show GX none 0=some 0 from rfl];rw[if_pos (by simp[f])];simp
theorem AB6{b o}:CT 1 (.D b o l.length (.op 1)) none (some (.int .i64 (AA l.length))) none=some (.D b o l.length (.op 1)):=by
 unfold CT;simp only[PM,show GX none 0=some 0 from rfl];rw[if_pos (by simp)];by_cases e:l.length=0
 ·simp[e]
 ·rw[if_neg (λh=>e (CJ h).symm)];simp
theorem zX{b o c}(g:l.length<=c):∃y,CT 1 (.D b o l.length (.ex c)) (some (.int .i64 (AA l.length))) none none=some y:=by
 unfold CT;simp only[PM,show GX none c=some c from rfl,show GX none l.length=some l.length from rfl];rw[if_pos (by simp[g])];exact⟨_,rfl⟩
theorem zW{b o}:∃y,CT 1 (.D b o l.length (.op 1)) (some (.int .i64 (AA l.length))) none none=some y:=by
 unfold CT;simp only[PM,show GX none l.length=some l.length from rfl];rw[if_pos (by simp),if_pos (by simp)];by_cases g:l.length=0
 ·rw[if_pos (by simp[g])];exact⟨_,rfl⟩
 ·rw[if_neg (λh=>g (by simpa using h))];exact⟨_,rfl⟩
theorem AKx(h:Sq E U x l)(j:xA x):∃y,(∀J,gK (CT 1 x none (some (.int .i64 (AA l.length))) none) J=J y)/\Sq E U y l/\∀b,AJ y b->AJ x b:=by
 have key:∀b o c,x = .D b o l.length c->CT 1 x none (some (.int .i64 (AA l.length))) none=some x:=by
  intro b o c f;subst f;cases c with
  | ex c=>exact AB7 j | op e=>
   have j:=j;subst j;exact AB6
 refine⟨x,λJ=>?_,h,λ_ h=>h⟩;rcases h with ⟨rfl,rfl⟩|⟨b,o,c,rfl,f⟩|⟨b,o,c,M,f,s,r,t⟩
 ·rfl
 ·rw[key b o c f];rfl
 ·rw[key b o c f];rfl
theorem fS(h:Sq E U x l)(i:xA x):∃y,(∀J,gK (CT 1 x (some (.int .i64 (AA l.length))) none none) J=J y):=by
 have key:∀b o c,x = .D b o l.length c->∃y,CT 1 x (some (.int .i64 (AA l.length))) none none=some y:=by
  intro b o c f;subst f;cases c with
  | ex c=>exact zX i | op e=>
   have i:=i;subst i;exact zW
 rcases h with ⟨rfl,rfl⟩|⟨b,o,c,rfl,f⟩|⟨b,o,c,M,f,r,n,s⟩
 ·exact⟨.h,λJ=>rfl⟩
 ·have ⟨y,e⟩:=key b o c f;exact⟨y,λJ=>by rw[e];rfl⟩
 ·have ⟨y,e⟩:=key b o c f;exact⟨y,λJ=>by rw[e];rfl⟩
def Jj(n:Nat):List Nat:=if n<128 then CV 8 n else CV 16 (32768+n)
def dB(F:List V->H->AE):Prop:=∀(U:H) n,Ai U->n<16384 ->
 ∃b U',F [.int .i64 (AA n)] U=some (.D b 0 1 (.op 1),U')/\Bx U' b [.int .i64 (AA n)]/\Fr AH U U'/\U.j<=b
def tV(F:List V->H->AE):Prop:=∀U w u (L:List Nat) n,Wr U w u L->Ai U->L.length<8000000->n<16384 ->
 ∃a U',F [.o w 0,.int .i64 (AA n)] U=some (.B [],U')/\J2 U w u U' a (L++Jj n)
def jF(E:EB)(F:List V->H->AE):Prop:=∀U w u x (L O:List Nat),Wr U w u L->Ai U->L.length+8*O.length<7000000->O.length<16384->(∀c∈O,c<256) ->
 Sq E U x (nI O)->xA x->(∀b,AJ x b->Gy U w u b) ->
 ∃a U',F [.o w 0,x] U=some (.B [],U')/\J2 U w u U' a (L++(Jj O.length++FP O))
variable {D:Ac}{W:AF}{N:Nat}
theorem AFU(x:2<N):dB (F18 E D W N):=by
 intro U n j t;obtain⟨M,rfl⟩:∃k,N=k+1:=⟨N-1,by omega⟩;have ⟨U1,r,i,s,v⟩:=DC j [.int .i64 (AA n)];have xs:Cv U1 1 1 (V.D U.j 0 1 (.ex 1)) [.int .i64 (AA n)] := .inr ⟨_,_,_,_,rfl,s,AL _,rfl⟩;have ⟨m,p,o,w,q⟩:=X1 (E:=E) (bytes:=8) (DW.nil U1 1) i.y xs (Nat.succ_pos 0) rfl rfl;refine⟨U1.j,m,?_,o,i.trans q (λ_ _ h=>h.elim),i.le⟩;show ig E D W (ie E D W (tH E D W) (uy E D W (M+1) M)) (AA n) U=_;have key:∀K R,ig E D W (ie E D W K R) (AA n) U=K (AA n) .h U:=by
  intro K R;unfold ig ie;have l:decide (16384<=n)=false:=decide_eq_false (by omega);simp only[↓rP,rA,QG,l]
 rw[key];unfold tH;simp only[↓rP,↓r,↓p]
theorem AMA(o:MQ (D 8)):tV (F19 E D W N):=by
 intro U w u L n h q p r;by_cases h1:n<128
 ·have ⟨j,U',g,s⟩:=o U w u L n 8 h q p (by omega) (by decide)
  refine⟨j,U',?_,by unfold Jj;rw[if_pos h1];exact s⟩;show YN E D W (.o w 0) (AA n) U=_;unfold YN;have k:An .u64 (AA n)=AA n:=BJ (by rw[HA];omega);simp only[↓rP,rA,decide_eq_true h1,k,↓g]
 ·have ⟨j,U',g,s⟩:=o U w u L (32768+n) 16 h q p (by omega) (by decide)
  refine⟨j,U',?_,by unfold Jj;rw[if_neg h1];exact s⟩;show YN E D W (.o w 0) (AA n) U=_;unfold YN;have k:An .u64 (AA (32768+n))=AA (32768+n):=BJ (by rw[HA];omega);simp only[↓rP,rA,decide_eq_false h1,decide_eq_true r,Al (show 32768+n<=9223372036854775807 by omega),k,↓g]
theorem ALX(hC:dB (D 18))(hD:tV (D 19))(hO:cu E (D 20))(hN:3<N):jF E (F10 E D W N):=by
 intro U w u x L O h v hl p hc S o I;obtain⟨M,rfl⟩:∃k,N=k+2:=⟨N-2,by omega⟩;have ⟨b,U1,Y,t,i,nb⟩:=hC U O.length v p;have x1:=S.Z i λb j=>(I b j).1;have m:=λb j=>(I b j).Z i;have Z:=t.lt i.y;have ⟨u2,U2,g2,e⟩:=hD U1 w u L O.length (h.Z i v) i.y (by omega) p;have ob:=Gy.new h v nb Z;have G:=e.X i.y ob t;have P:=e.sq m x1;have n:=λb j=>e.off (m b j);have ⟨y,Q,T,ny⟩:=AKx P o;rw[C9]at Q;have ld:(Jj O.length).length<=16:=by unfold Jj;split<;>rw[Cw]<;>omega
 have ⟨u3,r,X,B⟩:=hO U2 w u2 y _ O e.wr e.f.y (by rw[AP];omega) (by omega) hc T (λb j=>n b (ny b j));have a3:=B.X e.f.y (e.off ob) G;have x3:=B.sq n P;have ⟨z,F⟩:=fS x3 o;rw[C9]at F;refine⟨u3,r,?_,by have:=J2.behind i (e.trans B);rw[BC]at this;exact this⟩;have ia:∀J,AS 1 (.D b 0 1 (.op 1)) (AA 0) J=J b 0:=λJ=>CC (DK 0);show iy E D W (RN E D W (RN E D W (vD E D W (M+2) M))) (.o w 0) x U=_;have k0:∀K,iy E D W K (.o w 0) x U=K (.o w 0) x (.D b 0 1 (.op 1)) (AA 0) U1:=by
  intro K;unfold iy;have sx:∀J,Ao x J=J O.length:=λJ=>by rw[S.ip,C9]
  simp only[↓rP,↓sx,↓Y]
 have k1:∀R,RN E D W R (.o w 0) x (.D b 0 1 (.op 1)) (AA 0) U1=R (.o w 0) z (.D b 0 1 (.op 1)) (AA 1) r:=by
  intro R;unfold RN;simp only[↓rP,rA,AD,AG,AB,↓ia,↓AT t,↓AT G,↓AT a3,↓g2,↓Q,↓X,↓F,Al (show 0+1<=9223372036854775807 by omega)]
 have k2:∀R,RN E D W R (.o w 0) z (.D b 0 1 (.op 1)) (AA 1) r=some (.B [],r):=by
  intro R;unfold RN;simp only[↓rP,rA,AD,AG,AB]
 rw[k0,k1,k2]
end
end
noncomputable section
theorem zu{L M:List Nat}{i}(h:i<L.length):O5 (L++M) i=O5 L i:=by grind [O5]
theorem XF{L M:List Nat}{j}:∀{m},8*j+m<=L.length->part (L++M) j m=part L j m:=by intro x;induction x with grind [part,zu]
theorem po{L M:List Nat}{i}(h:i<=L.length):IS (L++M) i=IS L i:=by
 unfold IS;have g:Fe (L++M) (i / 8)=Fe L (i / 8):=by
  unfold Fe;refine List.map_congr_left λj f=>?_;have:=EV.1 f;rw[<-T0,<-T0,XF (by omega)]
 rw[g];split
 ·rfl
 ·rw[XF (by omega)]
structure Pw(U:H)(w:Nat)(u:V)(L:List Nat):Prop where
 X:Bx U w [u,.int .i64 (AA L.length)]
 d:DW U 1 (E9 L.length) u (I4 (nI (IS L L.length)))
 ne:¬AJ u w
 pp:kM L
structure G4(U:H)(w:Nat)(u:V)(U':H)(u':V)(L':List Nat):Prop where
 wr:Pw U' w u' L'
 f:Fr (J3 w u) U U'
 g:∀b,AJ u' b->AJ u b\/U.j<=b
section
variable {E:EB}{U U1 U2:H}{w:Nat}{u u1 u2:V}{L L1 L2:List Nat}
theorem Pw.Z(h:Pw U w u L)(f:Fr AH U U1)(a:Ai U):Pw U1 w u L:=⟨f.X h.X a (λh=>h),h.d.Z f a (λ_ _ h=>h),h.ne,h.pp⟩
theorem G4.refl(h:Pw U w u L)(b:Ai U):G4 U w u U u L:=⟨h,Fr.refl b,λ_ a => .inl a⟩
theorem G4.trans(h:G4 U w u U1 u1 L1)(k:G4 U1 w u1 U2 u2 L2):G4 U w u U2 u2 L2:=by
 refine⟨k.wr,h.f.trans k.f (λb i e=>?_),λb i=>?_⟩
 ·rcases e with e|e
  ·exact .inl e
  ·rcases h.g b e with d|d
   ·exact .inr d
   ·omega
 ·rcases k.g b i with d|d
  ·exact h.g b d
  ·exact .inr (BE h.f.le d)
theorem G4.behind(f:Fr AH U U1)(k:G4 U1 w u U2 u2 L2):G4 U w u U2 u2 L2:=
 ⟨k.wr,f.mono (λ_ _ h=>h.elim) |>.trans k.f (λ_ _ h=>h),λb a=>(k.g b a).imp id (λh=>BE f.le h)⟩
theorem G4.off(h:G4 U w u U1 u1 L1){b}(o:Gy U w u b):Gy U1 w u1 b:=⟨Eh o.1 h.f.le,o.2.1,λc=>(h.g b c).elim o.2.2 (by have:=o.1;omega)⟩
theorem G4.X(h:G4 U w u U1 u1 L1)(c:Ai U){b l}(o:Gy U w u b)(a:Bx U b l):Bx U1 b l:=h.f.X a c o.not
theorem G4.row{a n v m}(h:G4 U w u U1 u1 L1)(e:Ai U)(o:∀b,AJ v b->Gy U w u b)(d:Cv U a n v m):Cv U1 a n v m:=d.Z h.f e λb c=>(o b c).not
theorem Gy.pw(h:Pw U w u L)(d:Ai U){b}(g:U.j<=b)(c:b<U1.j):Gy U1 w u b:=
 ⟨c,λe=>by have:=h.X.lt d;omega,λf=>by have:=h.d.lt d f;omega⟩
theorem zf{v}{a r:List Int}{c}(B:DW U 1 (a++c::r).length v (I4 (a++c::r)))(z:Ai U) d:
  ∃b U',AJ v b/\(∀J,AS 1 v (AA a.length) J=J b a.length)/\(∀J,DF E U b a.length J=J (.int .u8 c))/\(∀J,DO 1 b a.length (.int .u8 d) U J=J U')/\DW U' 1 (a++d::r).length v (I4 (a++d::r))/\Fr (λk=>k=b) U U':=by
 have j:(a++c::r).length=(a++d::r).length:=by simp
 have key:∀b y,v = .D b 0 (a++c::r).length y->Bx U b (I4 (a++c::r))->(∀U',Bx U' b (I4 (a++d::r))->DW U' 1 (a++d::r).length v (I4 (a++d::r)))->∃b U',AJ v b/\(∀J,AS 1 v (AA a.length) J=J b a.length)/\(∀J,DF E U b a.length J=J (.int .u8 c))/\(∀J,DO 1 b a.length (.int .u8 d) U J=J U')/\DW U' 1 (a++d::r).length v (I4 (a++d::r))/\Fr (λk=>k=b) U U':=by
  intro b y m n w;have ⟨U',e,f,o⟩:=QC z n (I4 (a++d::r));refine⟨b,U',by rw[m];rfl,λJ=>?_,λJ=>?_,λJ=>?_,w U' o,f⟩
  ·rw[m,CC (by simp)]
   show J b (0+a.length*1)=_;rw[BV,CB]
  ·exact GS n (by unfold I4;rw[As,Aw (AL _),Ec];rfl)
  ·rw[Ed n (by
    simp only[Ag,FM,AP,AQ,Bn];refine⟨⟨rfl,?_⟩,rfl⟩;show a.length+1<=_;omega)]
   rw[show FW (I4 (a++c::r)) a.length (V.int .u8 d).cells=I4 (a++d::r)from by
    have:=ZE (I4 a) (.int .u8 c) (I4 r) (.int .u8 d);rw[FM]at this;rw[JW,JW];exact this,e]
 rcases B with (⟨u,_⟩|⟨b,m,n,u,A⟩)|⟨b,m,n,A⟩
 ·simp at u
 ·refine key b _ m n λU' o => .inl (.inr ⟨b,?_,o,by rw[<-j];exact u,by rw[FM,CB]⟩)
  rw[<-j];exact m
 ·refine key b _ m n λU' o => .inr ⟨b,?_,o,by rw[FM,CB]⟩
  rw[<-j];exact m
end
theorem AEe:∀m,m<8->J0 .u8 (AA 128) m=ZG .u8 (AA 1) (7-m):=by decide
def cj(F:List V->H->AE):Prop:=∀U w u (L:List Nat) c,Pw U w u L->Ai U->L.length<9000000->c<2 ->
 ∃a U',F [.o w 0,.int .i64 (AA c)] U=some (.B [],U')/\G4 U w u U' a (L++[c])
section
variable {E:EB}{D:Ac}{W:AF}{N:Nat}
theorem Jf{a o} J:Zh .o (.o a o) .nilp J=J false:=rfl
theorem AD7:cj (wS E D W N):=by
 intro U w u L c h ht hl hc;have hbin:kM (L++[c]):=λb r=>by
  rcases CN.1 r with r|r
  ·exact h.pp b r
  ·rw[B5.1 r];exact hc
 have eO:IS (L++[c]) L.length=IS L L.length:=po (AL _);have a:=h.X;have hq:NQ .i64 (AA L.length) (AA 8)=AA (L.length / 8):=AK7 (by omega);have p:(nI (Fe (L++[c]) (L.length / 8))).length=L.length / 8:=by rw[C9,JU]
 obtain⟨z,U1,g1,d1,n1,m1,a1,v⟩:∃z U1,(∀K,Q6 E D W K (.o w 0) (AA c) U=K (.o w 0) (AA c) U1) /\
   DW U1 1 (nI (Fe (L++[c]) (L.length / 8))++AA (part (L++[c]) (L.length / 8) (L.length % 8))::[]).length z (I4 (nI (Fe (L++[c]) (L.length / 8))++AA (part (L++[c]) (L.length / 8) (L.length % 8))::[]))/\¬AJ z w /\
   (∀b,AJ z b->AJ u b\/U.j<=b)/\Bx U1 w [z,.int .i64 (AA L.length)]/\Fr (J3 w u) U U1:=by
  by_cases h8:L.length % 8=0
  ·have ⟨U1,e1,v,b1,n1⟩:=DC ht [.int .u8 (AA 0)]
   have x:Cv U1 1 1 (V.D U.j 0 1 (.ex 1)) [.int .u8 (AA 0)] := .inr ⟨_,_,_,_,rfl,b1,AL _,rfl⟩;have ⟨u2,t,g2,d2,m2,f2⟩:=Dd (E:=E) (bytes:=1) (h.d.Z v ht (λ_ _ h=>h)) v.y x rfl (by
    unfold Bu E9;simp;omega)
   have a2:=f2.X (v.X a ht (λh=>h)) v.y h.ne;have lw:=a.lt ht;have ne2:¬AJ u2 w:=λr=>by
    rcases m2 w r with B|B
    ·exact h.ne B
    ·omega
   have ⟨U3,e3,C,a3⟩:=QC f2.y a2 [u2,.int .i64 (AA L.length)];have o:=d2.S;refine⟨u2,U3,λK=>?_,?_,ne2,λb r=>?_,a3,?_⟩
   ·have st:∀J:H->AE,DO 1 w 0 u2 t J=J U3:=λJ=>by
     have ⟨o1,o2⟩:=Et o;rw[Ed a2 (by rw[o2];cases u2<;>first | rfl | cases o),o2];show J (Gl t w (.cells [u2,.int .i64 (AA L.length)]))=_;rw[e3]
    have dm:decide (L.length % 8=0)=true:=decide_eq_true h8;unfold Q6;simp only[↓rP,rS,My,↓Jf,↓AT a,ky,dm,↓e1,↓g2,↓Bt o,↓st]
   ·have hw:IS L L.length=Fe (L++[c]) (L.length / 8):=by
     rw[<-eO];unfold IS;rw[if_pos h8,BP]
    rw[hw]at d2;rw[h8,show part (L++[c]) (L.length / 8) 0=0 from rfl,JW];have d3:=d2.Z C f2.y (λb r e=>ne2 (by cases e;exact r));rw[AP,p,show ([AA 0]:List Int).length=1 from rfl];rw[show E9 L.length=L.length / 8 by unfold E9;omega]at d3;exact d3
   ·rcases m2 b r with B|B
    ·exact .inl B
    ·exact .inr (by omega)
   ·exact((v.mono (λ_ _ h=>h.elim):Fr (J3 w u) U U1).trans f2 (λ_ _ h => .inr h)).trans C (λ_ _ h => .inl h)
  ·refine⟨u,U,λK=>?_,?_,h.ne,λ_ r => .inl r,a,Fr.refl ht⟩
   ·have dm:decide (L.length % 8=0)=false:=decide_eq_false h8
    unfold Q6
    simp only[↓rP,rS,My,↓Jf,↓AT a,ky,dm]
   ·have d:=h.d
    rw[<-eO,show IS (L++[c]) L.length=Fe (L++[c]) (L.length / 8)++[part (L++[c]) (L.length / 8) (L.length % 8)] by unfold IS;rw[if_neg h8],QA]at d
    rw[AP,p]
    rw[show E9 L.length=L.length / 8+1 by unfold E9;omega]at d
    exact d
 have le1:=v.le
 have lw1:=a1.lt v.y
 have e8:8*(L.length / 8)+L.length % 8=L.length:=by omega
 have bc:O5 (L++[c]) L.length=c:=by unfold O5;simp
 have eN:IS (L++[c]) (L++[c]).length=Fe (L++[c]) (L.length / 8)++[part (L++[c]) (L.length / 8) (L.length % 8+1)]:=by rw[AP];exact Sa _ _
 have eL:(L++[c]).length=L.length+1:=by simp
 have pN:E9 (L.length+1)=L.length / 8+1:=by unfold E9;omega
 obtain⟨t,g2,d2,a2,f2⟩:∃t,(∀K,Q5 E D W K (.o w 0) (AA c) U1=K (.o w 0) t)/\DW t 1 (L.length / 8+1) z (I4 (nI (Fe (L++[c]) (L.length / 8))++[AA (part (L++[c]) (L.length / 8) (L.length % 8+1))])) /\
   Bx t w [z,.int .i64 (AA L.length)]/\Fr (AJ z) U1 t:=by
  have y:part (L++[c]) (L.length / 8) (L.length % 8+1)=part (L++[c]) (L.length / 8) (L.length % 8)+c*2 ^ (7-L.length % 8):=by rw[part,e8,bc]
  have:c=0\/c=1:=by omega
  rcases this with rfl|rfl
  ·refine⟨U1,λK=>?_,?_,a1,Fr.refl v.y⟩
   ·unfold Q5
    simp only[↓rP,rA,AD,AG,AB]
   ·rw[y,Nat.zero_mul,ABw]
    rw[AP,p]at d1
    exact d1
  ·have ⟨b,t,nb,ia,rd,st,h3,C⟩:=zf (E:=E) d1 v.y (AA (part (L++[1]) (L.length / 8) (L.length % 8+1)))
   rw[p]at ia rd st
   have nbw:b≠w:=λe=>n1 (e ▸ nb)
   refine⟨t,λK=>?_,?_,C.X a1 v.y (λe=>nbw e.symm),C.mono λb' _ e=>by cases e;exact nb⟩
   ·have hor:orF .u8 (AA (part (L++[1]) (L.length / 8) (L.length % 8))) (J0 .u8 (AA 128) (L.length % 8))=AA (part (L++[1]) (L.length / 8) (L.length % 8+1)):=by
     rw[AEe _ (Jr _ (by decide))]
     have ⟨q,e⟩:=P6 (L++[1]) (L.length / 8) (L.length % 8) (by omega)
     have hlt:=Tz hbin (L.length / 8) (L.length % 8+1) (by omega)
     have hp:0<2 ^ (8-(L.length % 8+1)):=nO (by decide)
     rw[y]at hlt ⊢
     rw[e,show 8-L.length % 8=(7-L.length % 8)+1 by omega]at hlt ⊢
     exact ACU (by omega) (by decide) (by omega)
    unfold Q5
    simp only[↓rP,rA,AD,AG,AB,↓AT a1,hq,↓ia,↓rd,ky,Mi,hor,↓st]
   ·rw[AP,p]at h3
    exact h3
 have ⟨U3,e3,C,a3⟩:=QC f2.y a2 [z,.int .i64 (AA (L.length+1))]
 refine⟨z,U3,?_,⟨by rw[eL];exact a3,?_,n1,hbin⟩,?_,m1⟩
 ·show Q6 E D W (Q5 E D W (aw E D W)) (.o w 0) (AA c) U=_
  rw[g1,g2]
  have st:∀J:H->AE,DO 1 w 1 (.int .i64 (AA (L.length+1))) t J=J U3:=λJ=>by
   rw[Ed a2 rfl]
   show J (Gl t w (.cells [z,.int .i64 (AA (L.length+1))]))=_
   rw[e3]
  unfold aw
  simp only[↓rP,rS,↓AT a2,Al (show L.length+1<=9223372036854775807 by omega),↓st]
 ·rw[eN,eL,pN,QA]
  exact d2.Z C f2.y (λb r e=>n1 (by cases e;exact r))
 ·refine(v.trans f2 (λb r hn=>?_)).trans C (λ_ _ h => .inl h)
  rcases m1 b hn with B|B
  ·exact .inr B
  ·omega
end
end
noncomputable section
def PR(F:List V->H->AE):Prop:=∀U w u (L:List Nat) v n m,Pw U w u L->Ai U->L.length<8000000->v<=4294967295->n<=32->Gr (AA 0) (G8 m (AA 32))=AA n ->
 ∃a U',F [.o w 0,.int .u32 (AA v),.int .i64 m] U=some (.B [],U')/\G4 U w u U' a (L++CV n v)
def JN(F:List V->H->AE):Prop:=∀U w u (L:List Nat) v n,Pw U w u L->Ai U->L.length<8000000->v<=4294967295->n<=32 ->
 ∃a U',F [.o w 0,.int .u64 (AA v),.int .i64 (AA n)] U=some (.B [],U')/\G4 U w u U' a (L++CV n v)
def TH(m:Nat)(F:List V->H->AE):Prop:=∀U n,F [.int .i64 n] U=some (.int .i64 (Gr (AA 0) (G8 n (AA m))),U)
theorem Xu{v n}(d:v<=4294967295)(c:n<=32):An .i64 (MD .u32 (J0 .u32 (AA v) n) (AA 1))=AA (v / 2 ^ n % 2):=by
 rw[PC c,X3 (BE (Nat.div_le_self _ _) d),BJ (by rw[QF];omega)]
theorem ALr:∀n,n<=32->Gr (AA 0) (G8 (Dj .i64 (AA n) (AA 32)) (AA 32))=AA 0:=by
 have:∀n:Fin 33,Gr (AA 0) (G8 (Dj .i64 (AA n.val) (AA 32)) (AA 32))=AA 0:=by decide
 exact λn h=>this ⟨n,by omega⟩
section
variable {E:EB}{D:Ac}{W:AF}{N:Nat}
theorem z3:TH 32 (wT E D W N):=λU n=>by
 show tI E D W n U=_;rfl
theorem zz:TH 64 (wm E D W N):=λU n=>by
 show tL E D W n U=_;rfl
theorem pV(J:cj (D 174))(S:TH 32 (D 173))(hN:64<N):PR (nB E D W N):=by
 intro U w u L v n m h r B Z I O;have o:∀k e u U (L:List Nat),k<=32->k<e->Pw U w u L->Ai U->L.length+k<9000000 ->
   ∃x U',Vf E D W N e (.o w 0) (AA v) (L3 k) U=some (.B [],U')/\G4 U w u U' x (L++CV k v):=by
  intro k;induction k with
  | zero=>
   intro e u U L Y y h r B;obtain⟨e,rfl⟩:∃k,e=k+1:=⟨e-1,by omega⟩;refine⟨u,U,rfl,?_⟩;rw[show CV 0 v=[] from rfl,BP];exact G4.refl h r
  | succ k Q=>
   intro e u U L Y y h r B;obtain⟨e,rfl⟩:∃k,e=k+1:=⟨e-1,by omega⟩;have ⟨K,U1,G,t⟩:=J U w u L (v / 2 ^ k % 2) h r (by omega) (Jr _ (by decide));have ⟨M,P,T,F⟩:=Q e K U1 _ (by omega) (by omega) t.wr t.f.y (by simp;omega);refine⟨M,P,?_,?_⟩
   ·have key:∀R,bt E D W R (.o w 0) (AA v) (L3 (k+1)) U=R (.o w 0) (AA v) (L3 k) U1:=by
     intro R;unfold bt;show AK (HL (AA 0) (AA k)) (T7 (AA k) _) _=_;have X:HL (AA 0) (AA k)=true:=by rw[Jb];exact decide_eq_true (CA _)
     simp only[↓rP,rS,X,Mi,Xu Z (show k<=32 by omega),↓G];rw[show L3 (k+1)=AA k from rfl,JD (by omega)]
    exact(key _).trans T
   ·have:=t.trans F
    rw[BC]at this;exact this
 have ⟨x,U',g,s⟩:=o n N u U L I (by omega) h r (by omega);refine⟨x,U',?_,s⟩;show bw E D W (Vf E D W N N) (.o w 0) (AA v) m U=_;have C:=S U m;rw[O]at C;unfold bw;simp only[↓rP,rS,↓C];rw[JD (by omega)];exact g
theorem oH(i:PR (D 137))(r:TH 64 (D 136)):JN (F82 E D W N):=by
 intro U w u L v n h q m k b;have ⟨x,U1,A,d⟩:=i U w u L 0 0 (Dj .i64 (AA n) (AA 32)) h q m (by decide) (by decide) (ALr n b);rw[show CV 0 0=[] from rfl,BP]at d;have ⟨p,y,t,z⟩:=i U1 w x L v n (AA n) d.wr d.f.y m k b (by rw[Hf b,QG]);refine⟨p,y,?_,d.trans z⟩;have j:=r U (AA n);rw[Hf (show n<=64 by omega),QG]at j;have s:An .u32 (J0 .u64 (AA v) 32)=AA 0:=by
  rw[PC (show 32<=IntKind.bits .u64 by decide),Nat.div_eq_of_lt (show v<2 ^ 32 by omega)];rfl
 have B:An .u32 (AA v)=AA v:=BJ k;show sF E D W (.o w 0) (AA v) (AA n) U=_;unfold sF;simp only[↓rP,↓Jf,↓j,s,B,↓A,Hf b,↓t]
def PU(F:List V->H->AE):Prop:=∀U eb w u (L:List Nat) c r,Bx U eb (.o w 0::r)->Pw U w u L->Ai U->L.length<8000000 ->
 ∃a U',F [.o eb 0,.bool c] U=some (.B [],U')/\G4 U w u U' a (L++[if c=true then 1 else 0])
theorem ze(m:JN (D 82)):PU (F43 E D W N):=by
 intro U eb w u L c r a h p o;have n:∀J,DF E U eb 0 J=J (.o w 0):=λJ=>(AT a).trans rfl;cases c with
 | true=>
  have ⟨i,U1,l,k⟩:=m U w u L 1 1 h p o (by decide) (by decide);refine⟨i,U1,?_,k⟩;show YH E D W eb 0 true U=_;unfold YH;simp only[↓rP,↓n,↓l]
 | false=>
  have ⟨i,U1,l,k⟩:=m U w u L 0 1 h p o (by decide) (by decide);refine⟨i,U1,?_,k⟩;show YH E D W eb 0 false U=_;unfold YH;simp only[↓rP,↓n,↓l]
def Nm(F:List V->H->AE):Prop:=∀U w u (L:List Nat),Pw U w u L->F [.o w 0] U=some (.int .i64 (AA L.length),U)
theorem yn:Nm (w9 E D W N):=by
 intro U w u L h;have a:=h.X;show ca E D W (.o w 0) U=_;unfold ca;simp only[↓rP,↓Jf,↓AT a]
theorem yI(e:Nm (D 105)):Nm (F57 E D W N):=by
 intro U w u L h;have g:=e U w u L h;show sY E D W (.o w 0) U=_;unfold sY;simp only[↓rP,↓Jf,↓g]
def RO(F:List V->H->AE):Prop:=∀U w u (L:List Nat),Pw U w u L->Ai U->L.length<8000000->0<L.length ->
 ∃v U',F [.o w 0] U=some (v,U')/\Nb U U' v (nI (P9 L))/\Fr AH U U'
theorem Pw.by_{U w u L}(h:Pw U w u L):By U u (nI (P9 L)):=by
 have d:=h.d;rw[XJ]at d;have:=d.src;unfold By;rw[C9,IV];exact this
theorem km:RO (F58 E D W N):=by
 intro U w u L h j o n;have ⟨v,U1,l,f,k,_⟩:=Zw (E:=E) (Nb.nil U U) (Fr.refl j) h.by_ (by rw[C9,IV];unfold E9;simp;omega);rw[Hb]at f;have a:=h.X;refine⟨v,U1,?_,f,k⟩;show sX E D W (.o w 0) U=_;unfold sX;simp only[↓rP,↓Jf,↓AT a,↓l,↓Bt f.1.S]
end
end
noncomputable section
def ch(F:List V->H->AE):Prop:=∀U w p u x (L O:List Nat),Pw U w u L->Ai U->L.length+8*O.length<8000000->O.length<=70000->(∀c∈O,c<256) ->
 Bx U p [x]->By U x (nI O)->Gy U w u p->(∀b,AJ x b->Gy U w u b) ->
 ∃a U',F [.o w 0,.D p 0 1 (.ex 1)] U=some (.B [],U')/\G4 U w u U' a (L++FP O)
def VE(F:List V->H->AE):Prop:=∀U w u x (L O:List Nat),Pw U w u L->Ai U->L.length+8*O.length<8000000->O.length<=70000->(∀c∈O,c<256) ->
 By U x (nI O)->(∀b,AJ x b->Gy U w u b) ->
 ∃a U',F [.o w 0,x] U=some (.B [],U')/\G4 U w u U' a (L++FP O)
def cf(F:List V->H->AE):Prop:=∀U w u (L:List Nat) n,Pw U w u L->Ai U->L.length<7000000->n<128 ->
 ∃a U',F [.o w 0,.int .i64 (AA n),.bool false] U=some (.B [],U')/\G4 U w u U' a (L++CV 8 n)
def VQ(F:List V->H->AE):Prop:=∀U p x (O:List Nat),Ai U->Bx U p [x]->By U x (nI O)->O.length<=70000 ->
 ∃y U',F [.D p 0 1 (.ex 1)] U=some (y,U')/\Nb U U' y (nI O)/\Fr AH U U'
def VU(F:List V->H->AE):Prop:=∀(U:H) n,Ai U->n<16384 ->
 ∃b U',F [.int .i64 (AA n)] U=some (.D b 0 1 (.op 1),U')/\Bx U' b [.int .i64 (AA n)]/\Fr AH U U'/\U.j<=b
def VP(F:List V->H->AE):Prop:=∀U w p u x (L O:List Nat),Pw U w u L->Ai U->L.length+8*O.length<6000000->O.length<128->(∀c∈O,c<256) ->
 Bx U p [x]->By U x (nI O) ->
 ∃a U',F [.o w 0,.D p 0 1 (.ex 1)] U=some (.B [],U')/\G4 U w u U' a (L++(CV 8 O.length++FP O))
theorem DW.cap1{U k v l}(h:DW U 1 k v l):xA v:=by
 rcases h with (⟨_,rfl,_⟩|⟨b,rfl,_⟩)|⟨b,rfl,_⟩
 ·exact trivial
 ·exact rfl
 ·exact AL _
theorem yY{E U x}{l:List Int}(h:Sq E U x l)(g:xA x) J:gK (CT 1 x none (some (.int .i64 (AA l.length))) none) J=J x:=by
 have key:∀b o c,x = .D b o l.length c->CT 1 x none (some (.int .i64 (AA l.length))) none=some x:=by
  intro b o c f;subst f;cases c with
  | ex c=>exact AB7 g | op e=>
   have g:=g;subst g;exact AB6
 rcases h with ⟨rfl,rfl⟩|⟨b,o,c,rfl,f⟩|⟨b,o,c,M,f,r,n,s⟩
 ·rfl
 ·rw[key b o c f];rfl
 ·rw[key b o c f];rfl
section
variable {E:EB}{D:Ac}{W:AF}{N:Nat}
theorem ym(hB:PR (D 137))(hN:70002<N):ch (F94 E D W N):=by
 intro U w p u x L O h v Q hO hc G A C B;have b8:Gr (AA 0) (G8 (AA 8) (AA 32))=AA 8:=rfl;have sx:∀J,Ao x J=J O.length:=λJ=>by rw[A.ip,C9]
 have F:∀P m q i u U (L:List Nat),i+m=O.length->m<q->Pw U w u L->Ai U->L.length+8*m<8000000->Bx U p [x]->By U x (nI O)->Gy U w u p->(∀b,AJ x b->Gy U w u b) ->
   ∃I U',jO E D W N P q (.o w 0) (.D p 0 1 (.ex 1)) (AA 1) (AA 0) x (AA O.length) (AA i) U=P (.o w 0) (.D p 0 1 (.ex 1)) (AA 1) (AA 1) U'/\G4 U w u U' I (L++FP (O.drop i)):=by
  intro P m;induction m with
  | zero=>
   intro q i u U L hi S h v Q G A C B;obtain⟨q,rfl⟩:∃k,q=k+1:=⟨q-1,by omega⟩;refine⟨u,U,?_,?_⟩
   ·show S3 E D W (ACn E D W P) _ (.o w 0) (.D p 0 1 (.ex 1)) (AA 1) (AA 0) x (AA O.length) (AA i) U=_
    have key:∀K R,S3 E D W K R (.o w 0) (.D p 0 1 (.ex 1)) (AA 1) (AA 0) x (AA O.length) (AA i) U=K (.o w 0) (.D p 0 1 (.ex 1)) (AA 1) (AA 0) U:=by
     intro K R;unfold S3;have X:decide (i<O.length)=false:=decide_eq_false (by omega);simp only[↓rP,rA,AD,AG,AB,X]
    rw[key];rfl
   ·rw[show O.drop i=[] from Jt (by omega),show FP []=[] from rfl,BP];exact G4.refl h v
  | succ m ih=>
   intro q i u U L hi S h v Q G A C B;obtain⟨q,rfl⟩:∃k,q=k+1:=⟨q-1,by omega⟩;have r:i<O.length:=by omega
   have T:=AI r;have hb:=hc _ (Gg r);have ⟨u1,U1,g1,t⟩:=hB U w u L O[i] 8 (AA 8) h v (by omega) (by omega) (by decide) b8;have ⟨u2,U2,g2,s2⟩:=ih q (i+1) u1 U1 _ (by omega) (by omega) t.wr t.f.y (by simp only[AP,Cw];omega) (t.X v C G) (t.row v B A) (t.off C) (λb hb=>t.off (B b hb));refine⟨u2,U2,?_,?_⟩
   ·have key:∀K R,S3 E D W K R (.o w 0) (.D p 0 1 (.ex 1)) (AA 1) (AA 0) x (AA O.length) (AA i) U=R (.o w 0) (.D p 0 1 (.ex 1)) (AA 1) (AA 0) x (AA O.length) (AA (i+1)) U1:=by
     intro K R;unfold S3;have X:=decide_eq_true r;have rd:∀J,AS 1 x (AA i) (λb o=>DF E U b o J)=J (.int .u8 (AA O[i])):=λJ=>qw (Sq.of A) (ZS T) J;have e1:An .u32 (AA O[i])=AA O[i]:=BJ (by rw[QD];omega);simp only[↓rP,rA,AD,AG,AB,X,↓rd,e1,↓g1,Al (show i+1<=9223372036854775807 by omega)]
    exact(key _ _).trans g2
   ·have:=t.trans s2
    rw[BC,<-show FP (O.drop i)=CV 8 O[i]++FP (O.drop (i+1))by rw[Db r];rfl]at this;exact this
 obtain⟨M,rfl⟩:∃k,N=k+2:=⟨N-2,by omega⟩;obtain⟨I,U',g,s⟩:=F (jP E D W (M+2) (M+1)) O.length (M+2) 0 u U L (by omega) (by omega) h v Q G A C B;refine⟨I,U',?_,by rw[E7]at s;exact s⟩;have ia:∀J:Nat->Nat->AE,AS 1 (.D p 0 1 (.ex 1)) (AA 0) J=J p 0:=λJ=>CC (DK 0);show S4 E D W (jO E D W (M+2) (jP E D W (M+2) (M+1)) (M+2)) (.o w 0) (.D p 0 1 (.ex 1)) (AA 1) (AA 0) U=_;have k1:∀K,S4 E D W K (.o w 0) (.D p 0 1 (.ex 1)) (AA 1) (AA 0) U=K (.o w 0) (.D p 0 1 (.ex 1)) (AA 1) (AA 0) x (AA O.length) (AA 0) U:=by
  intro K;unfold S4;simp only[↓rP,rA,AD,AG,AB,↓ia,↓AT G,↓sx]
 have k2:∀K,S4 E D W K (.o w 0) (.D p 0 1 (.ex 1)) (AA 1) (AA 1) U'=some (.B [],U'):=by
  intro K;unfold S4;simp only[↓rP,rA,AD,AG,AB,Dp]
 rw[k1,g];exact k2 _
theorem yH(z:ch (D 94)):VE (F49 E D W N):=by
 intro U w u x L O h c v g q l n;have ⟨U1,r,a,A,B⟩:=DC c [x];have ⟨o,p,s,t⟩:=z U1 w U.j u x L O (h.Z a c) a.y v g q A (Cv.Z l a c λ_ _ h=>h) (Gy.pw h c (AL _) (by omega)) (λb y=>(n b y).Z a);refine⟨o,p,?_,G4.behind a t⟩;have j:=Cv.S l;show sZ E D W (.o w 0) x U=_;unfold sZ;simp only[↓rP,rS,↓Jf,↓QU j,j,↓r,↓s]
theorem AE1(g:JN (D 82)):cf (F92 E D W N):=by
 intro U w u L n h o q i;have ⟨l,U1,p,j⟩:=g U w u L n 8 h o (by omega) (by omega) (by decide);refine⟨l,U1,?_,j⟩;have m:An .u64 (AA n)=AA n:=BJ (by rw[HA];omega);have k:=decide_eq_true i;show r8 E D W (.o w 0) (AA n) false U=_;unfold r8;simp only[↓rP,rA,k,m,↓p]
theorem zP(t:3<N):VQ (F90 E D W N):=by
 intro U p x O m o n u;obtain⟨M,rfl⟩:∃k,N=k+2:=⟨N-2,by omega⟩;have ⟨y,U1,q,h,s,_⟩:=Zw (E:=E) (Nb.nil U U) (Fr.refl m) n (by rw[C9];simp;omega);rw[Hb]at h;refine⟨y,U1,?_,h,s⟩;have r:∀J,AS 1 (.D p 0 1 (.ex 1)) (AA 0) J=J p 0:=λJ=>CC (DK 0);show Qm E D W (sB E D W) (Qm E D W (sB E D W) (uf E D W (M+2) M)) .h (.D p 0 1 (.ex 1)) (AA 1) (AA 0) U=_;have l:∀K R,Qm E D W K R .h (.D p 0 1 (.ex 1)) (AA 1) (AA 0) U=R y (.D p 0 1 (.ex 1)) (AA 1) (AA 1) U1:=by
  intro K R;unfold Qm;simp only[↓rP,rA,AG,↓r,↓AT o,↓q,↓Bt h.1.S,Al (show 0+1<=9223372036854775807 by omega)]
 have j:∀K R,Qm E D W K R y (.D p 0 1 (.ex 1)) (AA 1) (AA 1) U1=K y U1:=by
  intro K R;unfold Qm;simp only[↓rP,rA,AG,AB,Dp]
 rw[l,j];rfl
theorem AE8{U n}(d:n<16384):wZ E D W N [.int .i64 (AA n)] U=some (.B [.int .i64 (AA n),.bool false],U):=by
 have e:=decide_eq_true d;show bf E D W (AA n) U=_;unfold bf;simp only[↓rP,rA,e]
theorem zO(t:∀(U:H) n,n<16384->D 147 [.int .i64 (AA n)] U=some (.B [.int .i64 (AA n),.bool false],U))(w:3<N):VU (F91 E D W N):=by
 intro U n q l;obtain⟨M,rfl⟩:∃k,N=k+2:=⟨N-2,by omega⟩;have ⟨U1,p,i,v,x⟩:=DC q [.int .i64 (AA n)];have xs:Cv U1 1 1 (V.D U.j 0 1 (.ex 1)) [.int .i64 (AA n)] := .inr ⟨_,_,_,_,rfl,v,AL _,rfl⟩;have ⟨g,s,r,z,u⟩:=X1 (E:=E) (bytes:=8) (DW.nil U1 1) i.y xs (Nat.succ_pos 0) rfl rfl;refine⟨U1.j,g,?_,r,i.trans u (λ_ _ h=>h.elim),by omega⟩;have o:=t U n l;show X8 E D W (sA E D W) (X8 E D W (sA E D W) (ue E D W (M+2) M)) (Gr (AA n) (AA 0)) .h true U=_;have m:∀K R,X8 E D W K R (AA n) .h true U=R (Dj .i64 (AA n) (AA n)) (.D U1.j 0 1 (.op 1)) false g:=by
  intro K R;unfold X8;simp only[↓rP,↓o,↓p,↓s]
 rw[Mm,xX (CA n),m];rfl
theorem AE9(hJ:VQ (D 90))(hC:VU (D 91))(hP:cf (D 92))(hO:VE (D 49))(hN:3<N):VP (F46 E D W N):=by
 intro U w p u x L O h r hl I l ap Z;obtain⟨M,rfl⟩:∃k,N=k+2:=⟨N-2,by omega⟩;have ⟨y,U1,g1,z,v⟩:=hJ U p x O r ap Z (by omega);have ⟨b,G,g2,B,i,nb⟩:=hC U1 O.length v.y (by omega);have n:=v.trans i (λ_ _ h=>h);have aa:=v.le;have y2:=z.Z i v.y;have X:=B.lt i.y;have ⟨S,U3,g3,f⟩:=hP G w u L O.length (h.Z n r) i.y (by omega) I;have ob:=Gy.pw h r (by omega) X;have F:=λc l=>Gy.pw h r (z.2 c l) (y2.1.lt i.y l);have T:=f.X i.y ob B;have y3:=f.row i.y F y2.by_;have Y:∀J,gK (CT 1 y none (some (.int .i64 (AA O.length))) none) J=J y:=by
  have:=yY (E:=E) (Sq.of y3) (DW.cap1 y2.1);rwa [C9]at this
 have ⟨u4,o,g4,P⟩:=hO U3 w S y _ O f.wr f.f.y (by rw[AP,Cw];omega) (by omega) l y3 (λc l=>f.off (F c l));have m:=f.trans P;have a4:=P.X f.f.y (f.off ob) T;have y4:=m.row i.y F y2.by_;have ⟨t,Q⟩:=fS (E:=E) (Sq.of y4) (DW.cap1 y2.1);rw[C9]at Q;refine⟨u4,o,?_,by have:=G4.behind n m;rw[BC]at this;exact this⟩;have ia:∀J,AS 1 (.D b 0 1 (.op 1)) (AA 0) J=J b 0:=λJ=>CC (DK 0);have sy:∀J,Ao y J=J O.length:=λJ=>by rw[z.by_.ip,C9]
 have dl:decide (16384<=O.length)=false:=decide_eq_false (by omega);show iO E D W (Qr E D W (Qr E D W (uh E D W (M+2) M))) (.o w 0) (.D p 0 1 (.ex 1)) U=_;have k0:∀K,iO E D W K (.o w 0) (.D p 0 1 (.ex 1)) U=K (.o w 0) y (.D b 0 1 (.op 1)) (AA 1) (AA 0) G:=by
  intro K;unfold iO;simp only[↓rP,↓g1,↓Bt z.1.S,↓sy,↓g2]
 have k1:∀R,Qr E D W R (.o w 0) y (.D b 0 1 (.op 1)) (AA 1) (AA 0) G=R (.o w 0) t (.D b 0 1 (.op 1)) (AA 1) (AA 1) o:=by
  intro R;unfold Qr;simp only[↓rP,rA,AD,AG,AB,↓ia,↓AT B,dl,↓g3,↓Y,↓g4,↓Q,Al (show 0+1<=9223372036854775807 by omega)]
 have k2:∀R,Qr E D W R (.o w 0) t (.D b 0 1 (.op 1)) (AA 1) (AA 1) o=some (.B [],o):=by
  intro R;unfold Qr;simp only[↓rP,rA,AD,AG,AB,Dp]
 rw[k0,k1,k2]
end
end
noncomputable section
def vc(k n:Int)(b l:V)(r:Int)(m:V):List V:=[.int .i64 k,.int .i64 n,b,l,.int .i64 r,m]
def zw(u:Int)(k:Nat):Bool:=!B8 (MD .i64 u (AA k)) (AA 0)
def Tv(u k n:Int)(a b:Nat)(r:Int)(nm:Nat):Bool:=
 (((zw u 1 || B8 n (AA 0))&&(zw u 2 || B8 (AA a) (AA 0)))&&(zw u 4 || B8 (AA b) (AA 0)))&&(zw u 8 || (B8 r (AA 0)&&B8 (AA nm) (AA 0)))
def NA(F:List V->H->AE):Prop:=∀U u k n r b l m a c nm,Ai U->TJ b a->TJ l c->TJ m nm ->
 ∃U',F [.agg (vc k n b l r m),.int .i64 u] U=some (.bool (Tv u k n a c r nm),U')/\Fr AH U U'
section
variable {E:EB}{D:Ac}{W:AF}{N:Nat}
theorem yo:NA (F74 E D W N):=by
 intro U u k n r b l m s t nm q h i f;have ⟨U1,p,o,e,v⟩:=DC q (vc k n b l r m);refine⟨U1,?_,o⟩;unfold vc at *;show sJ E D W k n b l r m u U=_;unfold sJ;simp only[Bg,Sb,Sc,JA,ON,SN,SO,SQ,SM,OM,SP,Pv,W7,W6,Pt,W3,Of,Eg,DU,UF,Mq,gX,Nat.add_eq,BV,Bool.not_true,Bool.not_false,rC,h.1,i.1,f.1,p,AT e,BU e,h.2,i.2,f.2];rfl
structure Ty where
 A:Int
 wn:V
 has:Bool
 no:Bool
 i9:Bool
 conMore:Bool
 low:Int
 high:Int
 R:V
 K:V
 W:Int
 I:Bool
 of_:Int
 oneT:wn.S=true
 oneI:R.S=true
 oneF:K.S=true
def Ty.c(x:Ty):List V:=[.int .i64 x.A,x.wn,.bool x.has,.bool x.no,.bool x.i9,.bool x.conMore,.int .i64 x.low,.int .i64 x.high,x.R,x.K,.int .i64 x.W,.bool x.I,.int .i64 x.of_]
structure Fd where
 name:BS
 type:Int
 opt:Bool
 has:Bool
 d0:Int
 d1:Int
 d2:V
 d3:V
 d4:Int
 d5:V
 group:Int
 one2:d2.S=true
 one3:d3.S=true
 one5:d5.S=true
def Fd.c(x:Fd):List V:=[.N x.name,.int .i64 x.type,.bool x.opt,.bool x.has,.int .i64 x.d0,.int .i64 x.d1,x.d2,x.d3,.int .i64 x.d4,x.d5,.int .i64 x.group]
def Cel(L:List V)(a k:Nat)(c:List V):Prop:=k*a+a<=L.length/\(L.drop (k*a)).take a=c
theorem Cel.sub{L a k c}(h:Cel L a k c) J:FD L (0+k*a) a J=J c:=by grind [Cel,E2]
structure MY(U:H)(esz n:Nat)(v:V)(g:Nat->List V):Prop where
 is:(n=0/\v = .h)\/∃b c L,v = .D b 0 n c/\Bx U b L/\∀k,k<n->Cel L esz k (g k)
theorem MY.len{U e n v g}(h:MY U e n v g):TJ v n:=by
 rcases h.is with ⟨rfl,rfl⟩|⟨b,c,L,rfl,_⟩
 ·exact TJ.h
 ·exact TJ.D
theorem MY.Z{S U U' d n v g}(h:MY U d n v g)(f:Fr S U U')(i:Ai U)(j:∀b,AJ v b->¬S b):MY U' d n v g:=by
 rcases h.is with h|⟨b,c,L,rfl,l,k⟩
 ·exact⟨.inl h⟩
 ·exact⟨.inr ⟨b,c,L,rfl,f.X l i (j b rfl),k⟩⟩
theorem MY.fr0{U U' a n v g}(h:MY U a n v g)(f:Fr AH U U')(b:Ai U):MY U' a n v g:=h.Z f b (λ_ _ h=>h)
theorem MY.all{E U a n v g}(h:MY U a n v g){k}(f:k<n) J:
  AS a v (AA k) (λb o=>Bv E U b o a J)=J (g k):=by
 rcases h.is with ⟨rfl,rfl⟩|⟨b,c,L,rfl,l,j⟩
 ·omega
 ·rw[CC f]
  show Bv E U b (0+k*a) a J=_;rw[BU l,(j k f).sub]
end
end
noncomputable section
structure Ck(U:H)(p nT:Nat)(ty:Nat->Ty)(nm:BS)(nv rv tv:V)(rest:List V):Prop where
 X:Bx U p ([.N nm,nv,rv,tv]++rest)
 n1:nv.S=true
 r1:rv.S=true
 t1:tv.S=true
 row:MY U 13 nT tv λi=>(ty i).c
 apart:∀b,AJ tv b->b≠p
section
variable {E:EB}{D:Ac}{W:AF}{N:Nat}{U U':H}{p nT:Nat}{ty:Nat->Ty}{nm:BS}{nv rv tv:V}{rest:List V}
theorem Ck.Z(h:Ck U p nT ty nm nv rv tv rest)(f:Fr AH U U')(b:Ai U):Ck U' p nT ty nm nv rv tv rest:=⟨f.X h.X b (λh=>h),h.n1,h.r1,h.t1,h.row.fr0 f b,h.apart⟩
theorem Ck.types{E}(h:Ck U p nT ty nm nv rv tv rest) J:DF E U p 3 J=J tv:=by
 rw[AT h.X];rfl
end
end
noncomputable section
structure Vc where
 k:Int
 n:Int
 b:V
 l:V
 r:Int
 m:V
 oneB:b.S=true
 oneL:l.S=true
 oneM:m.S=true
def Vc.c(x:Vc):List V:=[.int .i64 x.k,.int .i64 x.n,x.b,x.l,.int .i64 x.r,x.m]
def OZ(p:Nat->Bool):Nat->Nat->Int
 | 0,_=>A1 0
 | m+1,i=>if p i=true then AA i else OZ p m (i+1)
def mQ(p:Nat->Bool):Nat->Nat->Bool
 | 0,_=>false
 | m+1,i=>p i || mQ p m (i+1)
theorem Xb p:∀m i,HL (AA 0) (OZ p m i)=mQ p m i
 | 0,i=>rfl | m+1,i=>by
  unfold OZ mQ;by_cases h:p i=true
  ·rw[if_pos h,h];simp only[Jb,CA,decide_true,Bool.true_or]
  ·rw[if_neg h,Xb p m (i+1)];simp at h;rw[h,Fc]
theorem rX{p}:∀{m i},(∀k,i<=k->k<i+m->p k=false)->mQ p m i=false:=by intro x;induction x with grind [mQ]
section
variable {E:EB}{D:Ac}{W:AF}{N:Nat}{U U':H}{p nT:Nat}{ty:Nat->Ty}{nm:BS}{nv rv tv:V}{rest:List V}
def AJA(D:Ac)(U:H)(f:Nat)(caps:List V)(n:Nat)(g:Nat->Vc)(q:Nat->Bool):Prop:=∀U1 k,k<n->Fr AH U U1->∃a,D f ([]++[.agg (g k).c]++caps) U1=some (.bool (q k),a)/\Fr AH U1 a
theorem ALt{v n g f caps q}(K:Ai U)(F:MY U 6 n v λk=>(g k).c)(S:AJA D U f caps n g q)(Y:n<N)(Z:n<=1000000):
  ∃U',F81 E D W N [v,.fn f [] caps] U=some (.int .i64 (OZ q n 0),U')/\Fr AH U U':=by
 have A:∀m d i U1,i+m=n->m<d->Fr AH U U1->∃r,YY E D W N d v (.fn f [] caps) (AA n) (AA i) U1=some (.int .i64 (OZ q m i),r)/\Fr AH U r:=by
  intro m;induction m with
  | zero=>
   intro d i U1 P C B;obtain⟨d,rfl⟩:∃k,d=k+1:=⟨d-1,by omega⟩;refine⟨U1,?_,B⟩;show YA E D W _ _ v (.fn f [] caps) (AA n) (AA i) U1=_;unfold YA;rw[GQ,decide_eq_false (by omega),DU];rfl
  | succ m O=>
   intro d i U1 P C B;obtain⟨d,rfl⟩:∃k,d=k+1:=⟨d-1,by omega⟩;have u:i<n:=by omega
   have r1:=F.fr0 B K;have rd:∀J,AS 6 v (AA i) (λb o=>Bv E U1 b o 6 J)=J (g i).c:=λJ=>r1.all u J;have ⟨r,R,T⟩:=S U1 i u B;have x:=B.trans T (λ_ _ h=>h);show ∃U',YA E D W _ (YY E D W N d) v (.fn f [] caps) (AA n) (AA i) U1=_/\_;unfold YA;have I:∀J,GA D (.fn f [] caps) [.agg (g i).c] U1 J=J (.bool (q i)) r:=λJ=>by
    show CD (D f ([]++[.agg (g i).c]++caps) U1) J=_;rw[R];rfl
   unfold Vc.c at rd I;have Q:decide (i<n)=true:=decide_eq_true u;simp only[↓rP,rA,Q,↓rd,(g i).oneB,(g i).oneL,(g i).oneM,↓I];unfold OZ;by_cases s:q i=true
   ·rw[s,Eg,if_pos rfl]
    exact⟨r,rfl,x⟩
   ·rw[fA]at s
    rw[s,DU,if_neg (by simp),Al (by omega)];exact O d (i+1) r (by omega) (by omega) x
 have ⟨r,h1,X⟩:=A n N 0 U (by omega) Y (Fr.refl K);refine⟨r,?_,X⟩;show sG E D W (YY E D W N N) v (.fn f [] caps) U=_;unfold sG;rw[F.len.2];exact h1
def AM7(F:List V->H->AE)(D:Ac):Prop:=∀{U v n g f caps q},Ai U->MY U 6 n v (λk=>(g k).c)->AJA D U f caps n g q->n<=10000 ->
  ∃U',F [v,.fn f [] caps] U=some (.int .i64 (OZ q n 0),U')/\Fr AH U U'
def AGK(F:List V->H->AE)(D:Ac):Prop:=∀{U v n g f caps q},Ai U->MY U 6 n v (λk=>(g k).c)->AJA D U f caps n g q->n<=10000 ->
  ∃U',F [v,.fn f [] caps] U=some (.bool (mQ q n 0),U')/\Fr AH U U'
theorem AMG{d}(k:AM7 (D 81) d):AGK (F41 E D W N) d:=by
 intro U v n g f caps q h m i l;have ⟨e,h1,o⟩:=k h m i l;refine⟨e,?_,o⟩;show sc E D W v (.fn f [] caps) U=_;unfold sc;rw[h1];show some (V.bool (HL (AA 0) (OZ q n 0)),e)=_;rw[Xb]
def tU(F:List V->H->AE)(c:Nat)(ty:Nat->Ty)(i:Nat)(v:Vc):Prop:=∀U p dp nm e b d a,Ai U->Ck U p c ty nm e b d a->dp<=17 ->
 ∃U',F [.o p 0,.int .i64 (AA i),.agg v.c,.int .i64 (AA dp)] U=some (.bool true,U')/\Fr AH U U'
end
end
noncomputable section
structure Wk(U0 U:H)(eb w:Nat)(u:V)(cs:List V)(L:List Nat):Prop where
 pw:Pw U w u L
 f:Fr AH U0 U
 lo:∀b,J3 w u b->U0.j<=b
 e:Bx U eb (.o w 0::cs)
 eo:Gy U w u eb
structure Tb(U:H)(nT:Nat)(ty:Nat->Ty)(nv rv tv:V):Prop where
 row:MY U 13 nT tv λi=>(ty i).c
 n1:nv.S=true
 r1:rv.S=true
 t1:tv.S=true
section
variable {U0 U U1:H}{eb w:Nat}{u u1:V}{cs:List V}{L L1:List Nat}{nT:Nat}{ty:Nat->Ty}{nm:BS}{nv rv tv:V}
theorem Tb.Z(h:Tb U nT ty nv rv tv)(f:Fr AH U U1)(e:Ai U):Tb U1 nT ty nv rv tv:=⟨h.row.fr0 f e,h.n1,h.r1,h.t1⟩
theorem Wk.y(k:Wk U0 U eb w u cs L):Ai U:=k.f.y
theorem Wk.step(k:Wk U0 U eb w u cs L)(s:G4 U w u U1 u1 L1):Wk U0 U1 eb w u1 cs L1:=by
 refine⟨s.wr,k.f.trans s.f (λb d j=>?_),λb d=>?_,s.X k.y k.eo k.e,s.off k.eo⟩
 ·have:=k.lo b j;omega
 ·rcases d with d|d
  ·exact k.lo b (.inl d)
  ·rcases s.g b d with h|h
   ·exact k.lo b (.inr h)
   ·exact BE k.f.le h
theorem Wk.Z(k:Wk U0 U eb w u cs L)(f:Fr AH U U1):Wk U0 U1 eb w u cs L:=
 ⟨k.pw.Z f k.y,k.f.trans f (λ_ _ h=>h),k.lo,f.X k.e k.y (λh=>h),k.eo.Z f⟩
theorem Wk.enc{E}(k:Wk U0 U eb w u cs L) J:DF E U eb 0 J=J (.o w 0):=(AT k.e).trans rfl
end
section
variable {E:EB}{D:Ac}{W:AF}{N:Nat}
def jA(F:List V->H->AE)(f:Nat)(ty:Nat->Ty)(i:Nat)(v:Vc)(X:List Nat):Prop:=∀a U eb w u (L:List Nat) nm b d c,Ai a->Tb a f ty b d c->Wk a U eb w u [.N nm,b,d,c] L->L.length<1000000 ->
 ∃e U',F [.o eb 0,.int .i64 (AA i),.agg v.c] U=some (.B [],U')/\G4 U w u U' e (L++X)
end
end
end Go.Proofs.YtpbligmafbkeaaaGreatDoor
