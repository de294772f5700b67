/- What the last text leans on, part 4 of 8: merged out of smaller texts. No condition. -/
import Derived.KernelRfl
import Derived.Test.YtpbligmafbkeaaaGreatDoorQ2
open Int renaming ofNat -> AA,negSucc -> A1
open Nat renaming add -> AM
set_option linter.all false
set_option maxRecDepth 100000
set_option maxHeartbeats 0
namespace Go.Proofs.YtpbligmafbkeaaaGreatDoor
open Go Go.Og
noncomputable section
variable (E:EB) (D:Ac) (W:AF) (N:Nat)
def ALS:List (Nat × Cc):=[(1,.o),(5,.any),(12,.any),(13,.i),(14,.bool),(15,.i)]
def ALR:List (Nat × Cc):=[(1,.o),(5,.any),(12,.any),(13,.i),(14,.bool)]
def kl:List (Nat × Cc):=[(1,.o),(5,.any),(12,.any),(13,.i)]
def ALQ:List (Nat × Cc):=[(1,.o),(5,.any),(6,.i),(7,.i)]
def yj:List (Nat × Cc):=[(1,.o),(5,.any),(6,.i),(8,.i)]
def yi:List (Nat × Cc):=[(1,.o),(5,.any),(12,.any)]
def ALP:List (Nat × Cc):=[(1,.o),(5,.any),(11,.i)]
def AEl:List (Nat × Cc):=[(1,.o),(5,.any),(6,.i)]
def Ez(E:EB):St->AE:=λs=>Dc E s [(.tmp 2),(.tmp 3),(.tmp 4)] λl=>some (Dq l,s.U)
def mN(c0:XC)(a:St->AE):Nat->St->AE:=BR 8 (kX yi [] [] a) (BR 7 (kX yi [] [] a) (BR 6 (dX E D W N (.Q [(12,.any)] [] [] c0) (Ez E) nX (Ez E)) nX))
def rN(c0 b:XC)(c a:St->AE):St->AE:=dX E D W N (.Q kl [] [] c0) (kX kl [] [] c) (mN E D W N b a) (Ez E)
def AFc(c0:XC):St->AE:=dX E D W N (.Q AEl [] [] c0) (Ez E) nX (Ez E)
def AUk(c0 c b:XC)(d a:St->AE):Nat->St->AE:=BR 10 (dX E D W N (.Q ALR [] [] c0) (rN E D W N c b d a) (BR 9 (rN E D W N c b d a) (mN E D W N b a)) (Ez E)) (BR 9 (rN E D W N c b d a) (mN E D W N b a))
def AUj(c0:XC):Nat->St->AE:=BR 4 (dX E D W N (.Q [(1,.o),(5,.any)] [] [] c0) (Ez E) nX (Ez E)) nX
def AUi(c0:XC):Nat->St->AE:=BR 6 (dX E D W N (.Q [(12,.any)] [] [] c0) (Ez E) nX (Ez E)) nX
def ADZ(b:XC)(a:XC):XC:=(.z (.P 1 (.box 55 (.t 0))<|
 .c 2 V.h<|
 .q 3 0<|
 .aL 4 0)
 (.z (.aS 5)
 (.z (.aX 6 Y5)
 (.seq (.z (.aL 7 0)
 (.block 0 (.loop ALQ [] [] a)))
 (.Q AEl [] [] b)))))
def iU(E:EB)(D:Ac)(W:AF)(K2:Nat->Nat->V->Int->Int->H->AE)(a:BS)(b:Int)(c d e:V)(U:H):AE:=
 Ht (eD a b c d e) U λf=>
 K2 (H.j U) 0 V.h (A1 0) (AA 0) f
def Te(b:XC)(a:XC):XC:=(.seq (.z (.aL 8 0)
 (.block 2 (.loop yj [] [] a)))
 (.Q AEl [] [] b))
def AM1(E:EB)(D:Ac)(W:AF)(e:Nat->Nat->V->Int->Int->H->AE)(a b:Nat)(c:V)(d:Int)(U:H):AE:=
 e a b c d (AA 0) U
def kB:XC:=(.seq (.z (.m 16 7<|
 .aP 17 2 1<|
 .aE 20 16 19)
 (.cond (.tmp 20) .skip
 LM))
 (.seq (.block 1 (.seq (.us (.bF 23 2 1 7<|
 .p 26 [24,25] (.sliceSl 1 (.t 24) none (some (.t 25)) none)<|
 .bF 27 2 1 7<|
 .s 30 1 28 29<|
 .l 31 .N 30<|
 .k 32 .bool 65 [(.t 26),(.t 31)]<|
 .nil) [0,1,0,7,0,16,0,112,240,511])
 (.cond (.tmp 32) (.z (.m 33 7<|
 .c 2 V.h<|
 .m 3 33<|
 .q 4 8<|
 .nil)
 .ret)
 .skip)))
 (.Y (.m 21 7<|
 .aC 22 21 1 7))))
def Oo(E:EB)(D:Ac)(W:AF)(K1:Nat->Nat->V->Int->H->AE)(i:Nat->Nat->V->Int->Int->H->AE)(a b:Nat)(c:V)(d e:Int)(U:H):AE:=
 lL E U a (AM b 2) λf=>
 AK (C5 e (AA f)) (
 DF E U a (AM b 2) λf=>
 gK (CT 1 f none (some (V.int .i64 e)) none) λf=>
 DF E U a (AM b 2) λg=>
 AS 1 g e λg h=>
 lS E U g h λg=>
 cB (D 65 [f,.N g] U) λf g=>
 AK f (
 some ((V.B [V.h,.int .i64 e,iN 8]),g)) (
 i a b c d (BQ .i64 e (AA 1)) g)) (
 K1 a b c d U)
def Jy(b:XC)(a:XC):XC:=(.seq (.z (.m 61 6<|
 .b 62 .geq .none (.t 61) (.i 0)<|
 .nil)
 (.cond (.tmp 62) (.z (.m 63 6<|
 .c 2 V.h<|
 .m 3 63<|
 .q 4 9<|
 .nil)
 .ret)
 .skip))
 (.seq (.z (.aL 11 0)
 (.block 4 (.loop ALP [] [] a)))
 (.Q [(1,.o),(5,.any)] [] [] b)))
def sr(E:EB)(D:Ac)(W:AF)(K7:Nat->Nat->V->Int->H->AE)(a b:Nat)(c:V)(d:Int)(U:H):AE:=
 AK (HL (AA 0) d) (
 some ((V.B [V.h,.int .i64 d,iN 9]),U)) (
 K7 a b c (AA 0) U)
def Oz(a:XC):XC:=(.seq (.z (.m 34 8<|
 .aP 35 2 1<|
 .aE 38 34 37)
 (.cond (.tmp 38) .skip
 (.exit 2)))
 (.seq (.block 3 (.seq (.us (.O 42 Y1 (.load (some 5) (.t 1))<|
 .bF 43 3 1 8<|
 .s 46 1 44 45<|
 .l 47 .i 46<|
 .k 48 (.B [.any,.bool]) 66 [(.t 42),(.t 47),(.i 0),(.T V.h)]<|
 .m 41 48<|
 .aM 49 0 41 1 41<|
 .aB 9 49 50<|
 .nil) [0,0,2,0,14,30,63,127,255,255,511,2047])
 (.z (.aB 51 5 9<|
 .p 53 [52] (.buildSlice 22 1 [V.h] [(0,1,(.t 52))])<|
 .O 54 .S (.append 22 1 24 (.t 51) (.t 53))<|
 .aG 5 54)
 (.z (.m 55 10<|
 .m 56 55<|
 .gA 56 true (.p 57 [6,56] (.L (.t 6))<|
 .p 58 [57,56] (.pp .lss .none (.t 57) (.i 0))<|
 .nil) 59 56 58<|
 .nil)
 (.cond (.tmp 59) (.Y (.m 60 8<|
 .aG 6 60))
 .skip)))))
 (.Q yj [] [] a)))
def On(E:EB)(D:Ac)(W:AF)(m:Nat->Nat->V->Int->H->AE)(K5:Nat->Nat->V->Int->Int->H->AE)(a b:Nat)(c:V)(d e:Int)(U:H):AE:=
 lL E U a (AM b 2) λf=>
 AK (C5 e (AA f)) (
 Bv E U a b 5 λf=>
 uD f λf g h i j=>
 DF E U a (AM b 3) λk=>
 AS 1 k e λk l=>
 lI E U k l λk=>
 cT (D 66 [.agg (eD f g h i j),.int .i64 k,iN 0,V.h] U) λf g=>
 uR f λf h=>
 H9 [(0,1,f)] [V.h] λf=>
 JI (BH f) (
 let i:=Cb g (.cells f);
 Dx E 1 24 c (V.D (H.j g) 0 1 (.ex 1)) i λf g=>
 CI f (
 Ax (λi j=>
 AK i (
 K5 a b f e e j) (
 K5 a b f d e j)) λf=>
 AK h (
 f (C5 d (AA 0)) g) (
 f false g)))) (
 m a b c d U)
def Lk:XC:=(.Y (.m 39 8<|
 .aC 40 39 1 8))
def YK(E:EB)(D:Ac)(W:AF)(f:Nat->Nat->V->Int->Int->H->AE)(a b:Nat)(c:V)(d e:Int)(U:H):AE:=
 f a b c d (BQ .i64 e (AA 1)) U
def HZ(a:XC)(b:XC):XC:=(.z (.aS 12)
 (.seq (.block 6 (.loop yi [] [] b))
 (.Q [(12,.any)] [] [] a)))
def AM0(E:EB)(D:Ac)(W:AF)(d:Nat->Nat->V->V->H->AE)(a b:Nat)(c:V)(U:H):AE:=
 d a b c V.h U
def Ik:XC:=(.seq (.z (.m 64 11<|
 .aP 65 2 1<|
 .aE 68 64 67)
 (.cond (.tmp 68) .skip
 (.exit 4)))
 (.seq (.block 5 (.z (.bS 71 5 11 11<|
 .k 74 .bool 67 [(.t 71),(.t 72),(.t 73)]<|
 .nil)
 (.cond (.tmp 74) (.z (.m 75 11<|
 .c 2 V.h<|
 .m 3 75<|
 .q 4 10<|
 .nil)
 .ret)
 .skip)))
 (.Y (.m 69 11<|
 .aC 70 69 1 11))))
def Om(E:EB)(D:Ac)(W:AF)(g:Nat->Nat->V->H->AE)(h:Nat->Nat->V->Int->H->AE)(a b:Nat)(c:V)(d:Int)(U:H):AE:=
 lL E U a (AM b 2) λe=>
 AK (C5 d (AA e)) (
 cB (D 67 (eC c d d) U) λe f=>
 AK e (
 some ((V.B [V.h,.int .i64 d,iN 10]),f)) (
 h a b c (BQ .i64 d (AA 1)) f)) (
 g a b c U)
def Ei:XC:=(.z (.m 119 12<|
 .m 2 119<|
 .q 3 0<|
 .aL 4 0)
 .ret)
def iT(E:EB)(D:Ac)(W:AF)(a:V)(U:H):AE:=
 some ((V.B [a,iN 0,iN 0]),U)
def Gj(a:XC):XC:=(.seq (.z (.bZ 76 12<|
 .aP 78 2 1<|
 .aE 81 77 80)
 (.cond (.tmp 81) .skip
 (.exit 6)))
 (.block 7 (.z (.aL 13 0)
 (.block 8 (.loop kl [] [] a)))))
def Qv(E:EB)(D:Ac)(W:AF)(K8:V->H->AE)(g:Nat->Nat->V->V->Int->H->AE)(a b:Nat)(c d:V)(U:H):AE:=
 Ao d λe=>
 lL E U a (AM b 2) λf=>
 AK (C5 (AA e) (AA f)) (
 g a b c d (AA 0) U) (
 K8 d U)
def E0(c:XC)(a:XC)(b:XC):XC:=(.seq (.z (.m 82 13<|
 .aP 83 2 1<|
 .aE 86 82 85)
 (.cond (.tmp 86) .skip
 (.exit 8)))
 (.seq (.block 9 (.z (.bG 89 12 13 .bool 5<|
 .P 92 (.un .not (.t 91))<|
 .aG 14 92)
 (.seq (.z (.aL 15 0)
 (.block 10 (.loop ALS [] [] b)))
 (.Q ALR [] [] a))))
 (.Q kl [] [] c)))
def MG(E:EB)(D:Ac)(W:AF)(h:Nat->Nat->V->V->Int->Bool->Int->H->AE)(i:Nat->Nat->V->V->H->AE)(a b:Nat)(c d:V)(e:Int)(U:H):AE:=
 lL E U a (AM b 2) λf=>
 AK (C5 e (AA f)) (
 cB (D 5 [d,.int .i64 e] U) λf g=>
 h a b c d e (not f) (AA 0) g) (
 i a b c d U)
def Ds:XC:=(.Y (.m 87 13<|
 .aC 88 87 1 13))
def Ng(E:EB)(D:Ac)(W:AF)(f:Nat->Nat->V->V->Int->H->AE)(a b:Nat)(c d:V)(e:Int)(U:H):AE:=
 f a b c d (BQ .i64 e (AA 1)) U
def D8:XC:=(.z (.aG 114 14)
 (.cond (.tmp 114) (.z (.aB 115 12 13<|
 .aQ 117 116 3 1 y0 0 1 116 .S 3 1 8 115<|
 .aG 12 118)
 (.exit 8))
 .skip))
def MF(E:EB)(D:Ac)(W:AF)(i:Nat->Nat->V->V->Int->H->AE)(j:Nat->Nat->V->V->H->AE)(a b:Nat)(c d:V)(e:Int)(f:Bool)(U:H):AE:=
 AK f (
 let g:=Cb U (.cells [.int .i64 e]);
 Dx E 1 8 d (V.D (H.j U) 0 1 (.ex 1)) g λg h=>
 CI g (
 j a b c g h)) (
 i a b c d e U)
def EU:XC:=(.seq (.z (.cA 93 15 5 13 1 .any<|
 .u 98 97<|
 .aE 99 93 98)
 (.cond (.tmp 99) .skip
 (.exit 10)))
 (.seq (.block 11 (.Y (.m 102 14<|
 .m 103 102<|
 .gA 103 true (.p 104 [12,103] (.L (.t 12))<|
 .p 105 [5,103] nj<|
 .aR 106 13 103 13 105 103 1 105<|
 .p 108 [107,103] (.load none (.t 107))<|
 .aR 109 15 103 15 108 103 1 108<|
 .op (some 111) .i [110,103] (.load none (.t 110))<|
 .op (some 112) .bool [104,111,103] (.call 5 [(.t 104),(.t 111)])<|
 .nil) 113 103 112<|
 .aG 14 113)))
 (.Y (.m 100 15<|
 .aC 101 100 1 15))))
def ME(E:EB)(D:Ac)(W:AF)(k:Nat->Nat->V->V->Int->Bool->H->AE)(l:Nat->Nat->V->V->Int->Bool->Int->H->AE)(a b:Nat)(c d:V)(e:Int)(f:Bool)(g:Int)(U:H):AE:=
 AS 1 c e λh i=>
 lL E U h i λh=>
 AK (C5 g (AA h)) (
 Ax (λh i=>
 l a b c d e h (BQ .i64 g (AA 1)) i) λh=>
 AK f (
 iY E U 1 c e λi=>
 AS 1 i g λi j=>
 lI E U i j λi=>
 cB (D 5 [d,.int .i64 i] U) λi j=>
 h i j) (
 h false U)) (
 k a b c d e f U)
def AOU(a:BS)(b:Int)(c d e:V)(U:H):St:=⟨[(0,.agg [.N a,.int .i64 b,c,d,e])],[],[],U⟩
def ACy(a b:Nat)(c:V)(d:Int)(U:H):St:=⟨[(1,.o a b),(5,c),(6,.int .i64 d)],[],[],U⟩
def AOT(a b:Nat)(c:V)(d e:Int)(U:H):St:=⟨[(1,.o a b),(5,c),(6,.int .i64 d),(7,.int .i64 e)],[],[],U⟩
def tj(a b:Nat)(c:V)(d e:Int)(U:H):St:=⟨[(1,.o a b),(5,c),(6,.int .i64 d),(8,.int .i64 e)],[],[],U⟩
def AOS(a b:Nat)(c:V)(U:H):St:=⟨[(1,.o a b),(5,c)],[],[],U⟩
def AOR(a b:Nat)(c:V)(d:Int)(U:H):St:=⟨[(1,.o a b),(5,c),(11,.int .i64 d)],[],[],U⟩
def jM(a b:Nat)(c d:V)(U:H):St:=⟨[(1,.o a b),(5,c),(12,d)],[],[],U⟩
def RU(a b:Nat)(c d:V)(e:Int)(U:H):St:=⟨[(1,.o a b),(5,c),(12,d),(13,.int .i64 e)],[],[],U⟩
def AGN(a b:Nat)(c d:V)(e:Int)(f:Bool)(U:H):St:=⟨[(1,.o a b),(5,c),(12,d),(13,.int .i64 e),(14,.bool f)],[],[],U⟩
def AGM(a b:Nat)(c d:V)(e:Int)(f:Bool)(g:Int)(U:H):St:=⟨[(1,.o a b),(5,c),(12,d),(13,.int .i64 e),(14,.bool f),(15,.int .i64 g)],[],[],U⟩
def APO(E:EB)(D:Ac)(W:AF)(N:Nat):=iT E D W
def dT(E:EB)(D:Ac)(W:AF)(N:Nat)(a:Nat->Nat->V->V->Int->H->AE):=Ng E D W a
theorem AA2 li9(h:St->AE):
 (λa b c d e U=>Au E D W N Ds (RU a b c d e U) (kX kl [] [] h) (mN E D W N Ei li9) (Ez E))=dT E D W N (λa b c d e U=>h (RU a b c d e U)):=by
 unfold dT;generalize Ei=m;revert m;refine id ?_;intros;kernel_rfl
def dS(b:Nat->Nat->V->V->H->AE)(a:Nat->Nat->V->V->Int->H->AE):=MF E D W (dT E D W N a) b
theorem AA1 li9(g:St->AE):
 (λa b c d e f U=>Au E D W N D8 (AGN a b c d e f U) (rN E D W N Ds Ei g li9) (BR 9 (rN E D W N Ds Ei g li9) (mN E D W N Ei li9)) (Ez E))=dS E D W N (λa b c d U=>li9 (jM a b c d U)) (λa b c d e U=>g (RU a b c d e U)):=by
 unfold dS;rw[<-AA2 (li9:=li9)];generalize Ds=n,Ei=o;revert n o;refine id ?_;intros;kernel_rfl
def Ra(b:Nat->Nat->V->V->H->AE)(a:Nat->Nat->V->V->Int->H->AE)(n:Nat):Nat->Nat->V->V->Int->Bool->Int->H->AE:=
 Nat.rec (λ_ _ _ _ _ _ _ _=>none) (λ_ c=>ME E D W (dS E D W N b a) c) n
theorem AAQ li9 h n:
 (λa b c d e f g U=>BM (λo q=>Au E D W N EU q (kX ALS [] [] o) (AUk E D W N D8 Ds Ei h li9) (Ez E)) n (AGM a b c d e f g U))=Ra E D W N (λa b c d U=>li9 (jM a b c d U)) (λa b c d e U=>h (RU a b c d e U)) n:=lp8 (λu=>by rw[<-AA1];generalize Ds=p,D8=r,Ei=s;revert p r s;refine id ?_;intros;kernel_rfl) n
def Kb(a:Nat->Nat->V->V->H->AE)(n:Nat):Nat->Nat->V->V->Int->H->AE:=
 Nat.rec (λ_ _ _ _ _ _=>none) (λ_ b=>MG E D W (Ra E D W N a b N) a) n
theorem AAR li9 n:
 (λa b c d e U=>BM (λk o=>Au E D W N (E0 Ds D8 EU) o (kX kl [] [] k) (mN E D W N Ei li9) (Ez E)) n (RU a b c d e U))=Kb E D W N (λa b c d U=>li9 (jM a b c d U)) n:=lp6 (λr=>by rw[<-AAQ];generalize Ds=p,D8=q,EU=m,Ei=l;revert p q m l;refine id ?_;intros;kernel_rfl) n
def Yb(n:Nat):Nat->Nat->V->V->H->AE:=
 Nat.rec (λ_ _ _ _ _=>none) (λ_ a=>Qv E D W (APO E D W N ) (Kb E D W N a N)) n
theorem AHL n:
 (λa b c d U=>BM (λj l=>Au E D W N (Gj (E0 Ds D8 EU)) l (kX yi [] [] j) (AUi E D W N Ei) (Ez E)) n (jM a b c d U))=Yb E D W N n:=O4 (λo=>by rw[<-AAR];generalize E0 Ds D8 EU=k;revert k;refine id ?_;intros;kernel_rfl) n
def jd:=AM0 E D W (Yb E D W N N)
theorem AHq:
 (λa b c U=>Au E D W N (HZ Ei (Gj (E0 Ds D8 EU))) (AOS a b c U) (Ez E) nX (Ez E))=jd E D W N:=by
 unfold jd;rw[<-AHL];generalize Gj (E0 Ds D8 EU)=j,Ei=k;revert j k;refine id ?_;intros;kernel_rfl
def um(n:Nat):Nat->Nat->V->Int->H->AE:=
 Nat.rec (λ_ _ _ _ _=>none) (λ_ a=>Om E D W (jd E D W N ) a) n
theorem AHM n:
 (λa b c d U=>BM (λj l=>Au E D W N Ik l (kX ALP [] [] j) (AUj E D W N (HZ Ei (Gj (E0 Ds D8 EU)))) (Ez E)) n (AOR a b c d U))=um E D W N n:=O4 (λo=>by rw[<-AHq];generalize HZ Ei (Gj (E0 Ds D8 EU))=k;revert k;refine id ?_;intros;kernel_rfl) n
def je:=sr E D W (um E D W N N)
theorem AHs:
 (λa b c d U=>Au E D W N (Jy (HZ Ei (Gj (E0 Ds D8 EU))) Ik) (ACy a b c d U) (Ez E) nX (Ez E))=je E D W N:=by
 unfold je;rw[<-AHM];generalize HZ Ei (Gj (E0 Ds D8 EU))=k,Ik=l;revert k l;refine id ?_;intros;kernel_rfl
def vj(E:EB)(D:Ac)(W:AF)(N:Nat)(a:Nat->Nat->V->Int->Int->H->AE):=YK E D W a
theorem AHr h:
 (λa b c d e U=>Au E D W N Lk (tj a b c d e U) (kX yj [] [] h) (BR 2 (AFc E D W N (Jy (HZ Ei (Gj (E0 Ds D8 EU))) Ik)) nX) (Ez E))=vj E D W N (λa b c d e U=>h (tj a b c d e U)):=by
 unfold vj;generalize Jy (HZ Ei (Gj (E0 Ds D8 EU))) Ik=m;revert m;refine id ?_;intros;kernel_rfl
def uq(n:Nat):Nat->Nat->V->Int->Int->H->AE:=
 Nat.rec (λ_ _ _ _ _ _=>none) (λ_ a=>On E D W (je E D W N ) (vj E D W N a)) n
theorem AHN n:
 (λa b c d e U=>BM (λk o=>Au E D W N (Oz Lk) o (kX yj [] [] k) (BR 2 (AFc E D W N (Jy (HZ Ei (Gj (E0 Ds D8 EU))) Ik)) nX) (Ez E)) n (tj a b c d e U))=uq E D W N n:=lp6 (λp=>by rw[<-AHs,<-AHr];generalize Jy (HZ Ei (Gj (E0 Ds D8 EU))) Ik=l,Lk=m;revert l m;refine id ?_;intros;kernel_rfl) n
def jf:=AM1 E D W (uq E D W N N)
theorem AHt:
 (λa b c d U=>Au E D W N (Te (Jy (HZ Ei (Gj (E0 Ds D8 EU))) Ik) (Oz Lk)) (ACy a b c d U) (Ez E) nX (Ez E))=jf E D W N:=by
 unfold jf;rw[<-AHN];generalize Jy (HZ Ei (Gj (E0 Ds D8 EU))) Ik=k,Oz Lk=l;revert k l;refine id ?_;intros;kernel_rfl
def uu(n:Nat):Nat->Nat->V->Int->Int->H->AE:=
 Nat.rec (λ_ _ _ _ _ _=>none) (λ_ a=>Oo E D W (jf E D W N ) a) n
theorem AHO n:
 (λa b c d e U=>BM (λk m=>Au E D W N kB m (kX ALQ [] [] k) (BR 0 (AFc E D W N (Te (Jy (HZ Ei (Gj (E0 Ds D8 EU))) Ik) (Oz Lk))) nX) (Ez E)) n (AOT a b c d e U))=uu E D W N n:=lp6 (λp=>by rw[<-AHt];generalize Te (Jy (HZ Ei (Gj (E0 Ds D8 EU))) Ik) (Oz Lk)=l;revert l;refine id ?_;intros;kernel_rfl) n
def vk:=iU E D W (uu E D W N N)
theorem AHu:
 (λa b c d e U=>Au E D W N (ADZ (Te (Jy (HZ Ei (Gj (E0 Ds D8 EU))) Ik) (Oz Lk)) kB) (AOU a b c d e U) (Ez E) nX (Ez E))=vk E D W N:=by
 unfold vk;rw[<-AHO];generalize Te (Jy (HZ Ei (Gj (E0 Ds D8 EU))) Ik) (Oz Lk)=l,kB=m;revert l m;refine id ?_;intros;kernel_rfl
def F34(args:List V)(U:H):AE:=
 Ab args λa b=>
 Cp a λa=>
 uD a λa c d e f=>
 Ay b (
 vk E D W N a c d e f U)
def A34:DD:=⟨120,[Y1],[(.tmp 2),(.tmp 3),(.tmp 4)],(ADZ (Te (Jy (HZ Ei (Gj (E0 Ds D8 EU))) Ik) (Oz Lk)) kB)⟩
theorem AWq args U:BZ E D W N A34 args U=F34 E D W N args U:=by
 unfold F34;rw[<-AHu];kernel_rfl
def ADC:List BO:=[⟨(some 26),.L (.tmp 0),none⟩,⟨(some 27),.L (.tmp 0),none⟩,⟨(some 28),.rg (.tmp 27),none⟩,⟨(some 29),.C 0 (.tmp 28),none⟩,⟨(some 30),.C 3 (.tmp 29),none⟩,⟨(some 31),.load none (.tmp 30),none⟩,⟨(some 32),.L (.tmp 0),none⟩,⟨(some 33),.rg (.tmp 32),none⟩,⟨(some 34),.C 0 (.tmp 33),none⟩,⟨(some 35),.load (some 5) (.tmp 34),none⟩,⟨(some 36),.C 1 (.tmp 7),none⟩,⟨(some 37),.load none (.tmp 36),none⟩,⟨(some 38),.call 68 [(.tmp 35),(.tmp 37)],none⟩,⟨(some 39),.qr 1 (.tmp 31) (.tmp 38),none⟩,⟨(some 40),.load none (.tmp 39),none⟩,⟨(some 41),.L (.tmp 2),none⟩,⟨(some 42),.call 35 [(.tmp 26),(.tmp 40),(.tmp 41)],none⟩,⟨(some 8),.L (.tmp 42),none⟩]
def AC6:List DP:=[⟨0,[0]⟩,⟨0,[0]⟩,⟨2,[27]⟩,⟨6,[28]⟩,⟨14,[29]⟩,⟨30,[30]⟩,⟨0,[0]⟩,⟨64,[32]⟩,⟨192,[33]⟩,⟨448,[34]⟩,⟨0,[7]⟩,⟨1024,[36]⟩,⟨4032,[35,37]⟩,⟨8190,[31,38]⟩,⟨16382,[39]⟩,⟨0,[2]⟩,⟨65535,[26,40,41]⟩,⟨131071,[42]⟩]
def ASg(a:XC):XC:=(.z (.aL 6 0)
 (.seq (.z (.aI 10 0<|
 .aW 12 6 11 0<|
 .nil)
 (.cond (.tmp 14) (.z (.aL 6 0)
 .ret)
 .skip))
 (.z (.cE 15 0 0<|
 .bF 18 4 17 1<|
 .aN 21 16 19 20 y4 16<|
 .p 7 [] (.alloc 131 [y0,y5,y2,y0,y0,y2,y2,y2,y2,y0,y0,V.h,V.h,y0,y2,y0])<|
 .op none y4 [7,22] (.store 16 (.t 7) (.t 22))<|
 .nil)
 (.z (.aL 8 0)
 (.seq (.z (.aK 23 0 7 11<|
 .nil)
 (.cond (.tmp 25) (.Q [(0,.o),(2,.i),(7,.o)] [] [] (.wl ADC AC6 [(0,.o),(7,.o),(8,.i)]))
 (.Y (.aY 43 0 y4 16 7<|
 .m 45 2<|
 .k 46 .i 69 [(.t 43),(.t 44),(.t 45)]<|
 .aG 8 46))))
 (.Q [(0,.o),(7,.o),(8,.i)] [] [] a))))))
def iS(K1:Nat->Nat->Nat->Nat->Int->H->AE)(a b:Nat)(c d:Int)(U:H):AE:=
 lI E U a (AM b 6) λe=>
 AK (not (B8 e (AA 0))) (
 rI (AA 0) U) (
 jX E U a (AM b 4) 16 c λe=>
 uQ e λe f g h i j k l m n o p q r s t=>
 let u:=Cb U (.cells [iN 0,.N ⟨0,0⟩,.bool false,iN 0,iN 0,.bool false,.bool false,.bool false,.bool false,iN 0,iN 0,V.h,V.h,iN 0,.bool false,iN 0]);
 DO 16 (H.j U) 0 (V.agg (eQ e f g h i j k l m n o p q r s t)) u λe=>
 lI E e (H.j U) 0 λf=>
 AK (B8 f (AA 11)) (
 CM (W ADC AC6 [(0,.o a b),(2,.int .i64 d),(7,.o (H.j U) 0)] e) λf g=>
 Bj f 0 λh=>
 BL h λh i=>
 Bj f 7 λj=>
 BL j λj k=>
 Bj f 8 λf=>
 DZ .i64 f λf=>
 K1 h i j k f g) (
 Bv E e (H.j U) 0 16 λf=>
 uQ f λf g h i j k l m n o p q r s t u=>
 cI (D 69 [.o a b,.agg (eQ f g h i j k l m n o p q r s t u),.int .i64 d] e) λe f=>
 K1 a b (H.j U) 0 e f))
def ASf(a:XC)(b:XC):XC:=(.seq (.z (.aI 47 0<|
 .aK 49 6 48 0<|
 .m 52 51<|
 .gA 52 true (.p 53 [7,52] (.C 2 (.t 7))<|
 .bH 54 53 52 0 53 52<|
 .nil) 56 52 55<|
 .nil)
 (.cond (.tmp 56) (.z (.aL 9 0)
 (.seq (.block 0 (.z (.f 58 2 7<|
 .aA 59 2 58 .i<|
 .aD 61 60 2 57)
 (.cond (.tmp 57) (.Y (.aL 9 1))
 (.z (.f 63 2 7<|
 .aK 64 2 63 0<|
 .m 67 66<|
 .gA 67 true (.bN 68 0 67 JT 67<|
 .p 70 [69,67] (.C 0 (.t 69))<|
 .aH 71 70 67 1 70 67<|
 .p 73 [72,67] (.pp .neq .none (.t 72) (.i 0))<|
 .nil) 74 67 73<|
 .aG 62 74)
 (.cond (.tmp 62) (.Y (.bG 75 0 8 .i 70<|
 .aG 9 77))
 .skip)))))
 (.Q [(0,.o),(7,.o),(8,.i),(9,.i)] [] [] b)))
 .skip))
 (.Q [(8,.i)] [] [] a))
def Qu(E:EB)(D:Ac)(W:AF)(K2:Int->H->AE)(l:Nat->Nat->Nat->Nat->Int->Int->H->AE)(a b c d:Nat)(e:Int)(U:H):AE:=
 lI E U a (AM b 6) λf=>
 Ax (λg h=>
 AK g (
 lI E h c (AM (AM d 2) 2) λg=>
 AK (B8 g (AA 2)) (
 l a b c d e (AA 1) h) (
 lI E h c (AM (AM d 2) 2) λg=>
 Ax (λi j=>
 AK i (
 cI (D 70 [.o a b,.int .i64 e] j) λi k=>
 l a b c d e i k) (
 l a b c d e (AA 0) j)) λi=>
 AK (B8 g (AA 0)) (
 lI E h a (AM b 1) λg=>
 i (not (B8 g (AA 0))) h) (
 i false h))) (
 K2 e h)) λg=>
 AK (B8 f (AA 0)) (
 lB E U c (AM d 2) λf=>
 g f U) (
 g false U)
def ASe:XC:=(.z (.m 85 8<|
 .aG 6 85)
 .ret)
def Ol(E:EB)(D:Ac)(W:AF)(a:Int)(U:H):AE:=
 rI a U
def ASd:XC:=(.Y (.aB 78 0 8<|
 .f 80 2 7<|
 .aA 81 1 80 .i<|
 .m 83 9<|
 .k 84 y8 71 [(.t 78),(.t 79),(.t 82),(.t 83)]<|
 .nil))
def S8(E:EB)(D:Ac)(W:AF)(K2:Int->H->AE)(a b c d:Nat)(e f:Int)(U:H):AE:=
 lI E U c (AM (AM d 2) 1) λg=>
 c0 (D 71 [.o a b,.int .i64 e,.int .i64 g,.int .i64 f] U) λg=>
 K2 e g
def AC1(E:EB)(D:Ac)(W:AF)(N:Nat):=Ol E D W
def APM:=S8 E D W (AC1 E D W N )
def APN:=Qu E D W (AC1 E D W N ) (APM E D W N )
def F35(args:List V)(U:H):AE:=
 uS args λa b c d=>
 iS E D W (APN E D W N ) a b c d U
def A35:DD:=⟨86,[.o,.i,.i],[(.tmp 6)],(ASg (ASf ASe ASd))⟩
theorem AWp args U:BZ E D W N A35 args U=F35 E D W N args U:=by kernel_rfl
def ALO:List (Nat × Cc):=[(0,.any),(1,.any),(4,.i),(5,.i)]
def ZN:List (Nat × Cc):=[(0,.any),(1,.any),(4,.i)]
def Lg(E:EB):St->AE:=λs=>Dc E s [] λl=>some (Dq l,s.U)
def AUh(c0:XC)(a:St->AE):Nat->St->AE:=BR 2 (dX E D W N (.Q ZN [] [] c0) (kX ZN [] [] a) (BR 0 (Lg E) nX) (Lg E)) (BR 1 (dX E D W N (.Q ZN [] [] c0) (kX ZN [] [] a) (BR 0 (Lg E) nX) (Lg E)) (BR 0 (Lg E) nX))
def ADY(a:XC):XC:=(.z (.aL 4 0)
 (.block 0 (.loop ZN [] [] a)))
def AMz(E:EB)(D:Ac)(W:AF)(K1:V->V->Int->H->AE)(a b:V)(U:H):AE:=
 K1 a b (AA 0) U
def kA(a:XC)(b:XC):XC:=(.seq (.z (.aB 6 4 1<|
 .u 8 7<|
 .aE 9 6 8)
 nW)
 (.seq (.block 1 (.z (.aL 5 0)
 (.block 2 (.loop ALO [] [] b))))
 (.Q ZN [] [] a)))
def S7(E:EB)(D:Ac)(W:AF)(e:V->V->Int->Int->H->AE)(a b:V)(c:Int)(U:H):AE:=
 Ao b λd=>
 AK (C5 c (AA d)) (
 e a b c (AA 0) U) (
 r0 U)
def Td:XC:=y27
def ACr(E:EB)(D:Ac)(W:AF)(d:V->V->Int->H->AE)(a b:V)(c:Int)(U:H):AE:=
 d a b (BQ .i64 c (AA 1)) U
def Tc:XC:=(.seq (.z (.cA 12 5 1 4 1 .any<|
 .u 17 16<|
 .aE 18 12 17)
 (.cond (.tmp 18) .skip
 (.exit 2)))
 (.seq (.block 3 (.Y (.cA 21 0 1 4 1 .any<|
 .m 26 5<|
 .s 27 1 25 26<|
 .l 28 (.int .u8) 27<|
 .P 29 (.i7 (.jp .u32) (.t 28))<|
 .k 30 y8 72 [(.t 21),(.t 29),(.i 8)]<|
 .nil)))
 (.Y (.m 19 5<|
 .aC 20 19 1 5))))
def S6(E:EB)(D:Ac)(W:AF)(K2:V->V->Int->H->AE)(g:V->V->Int->Int->H->AE)(a b:V)(c d:Int)(U:H):AE:=
 AS 1 b c λe f=>
 lL E U e f λe=>
 AK (C5 d (AA e)) (
 iY E U 1 b c λe=>
 iY E U 1 e d λe=>
 DZ .u8 e λe=>
 c0 (D 72 [a,.int .u32 (An .u32 e),iN 8] U) λe=>
 g a b c (BQ .i64 d (AA 1)) e) (
 K2 a b c U)
def AOQ(a b:V)(U:H):St:=⟨[(0,a),(1,b)],[],[],U⟩
def ACx(a b:V)(c:Int)(U:H):St:=⟨[(0,a),(1,b),(4,.int .i64 c)],[],[],U⟩
def AOP(a b:V)(c d:Int)(U:H):St:=⟨[(0,a),(1,b),(4,.int .i64 c),(5,.int .i64 d)],[],[],U⟩
def APL(E:EB)(D:Ac)(W:AF)(N:Nat)(a:V->V->Int->H->AE):=ACr E D W a
def jT(a:V->V->Int->H->AE)(n:Nat):V->V->Int->Int->H->AE:=
 Nat.rec (λ_ _ _ _ _=>none) (λ_ b=>S6 E D W (APL E D W N a) b) n
theorem AHJ f n:
 (λa b c d U=>BM (λg h=>Au E D W N Tc h (kX ALO [] [] g) (AUh E D W N Td f) (Lg E)) n (AOP a b c d U))=jT E D W N (λa b c U=>f (ACx a b c U)) n:=O4 (λ_=>by kernel_rfl) n
def jU(n:Nat):V->V->Int->H->AE:=
 Nat.rec (λ_ _ _ _=>none) (λ_ a=>S7 E D W (jT E D W N a N)) n
theorem AHK n:
 (λa b c U=>BM (λi k=>Au E D W N (kA Td Tc) k (kX ZN [] [] i) (BR 0 (Lg E) nX) (Lg E)) n (ACx a b c U))=jU E D W N n:=xi (λo=>by rw[<-AHJ];generalize Td=j,Tc=l;revert j l;refine id ?_;intros;kernel_rfl) n
def vi:=AMz E D W (jU E D W N N)
theorem AHp:
 (λa b U=>Au E D W N (ADY (kA Td Tc)) (AOQ a b U) (Lg E) nX (Lg E))=vi E D W N:=by
 unfold vi;rw[<-AHK];generalize kA Td Tc=i;revert i;refine id ?_;intros;kernel_rfl
def F36(args:List V)(U:H):AE:=
 uH args λa b=>
 vi E D W N a b U
def A36:DD:=⟨31,nU,[],(ADY (kA Td Tc))⟩
theorem AWo args U:BZ E D W N A36 args U=F36 E D W N args U:=by
 unfold F36;rw[<-AHp];kernel_rfl
def ASc(b:XC)(a:XC):XC:=(.z (.P 6 (.box 49 (.t 2))<|
 .aX 8 y2)
 (.seq (.z (.aU 10 1 0<|
 .m 12 11<|
 .gO 12 false (.p 13 [1,12] LU<|
 .bN 14 0 12 JT 12<|
 .p 16 [15,12] (.C 0 (.t 15))<|
 .p 17 [16,12] (.C 0 (.t 16))<|
 .aF 18 17 12 3 17 12 12<|
 .bO 21 13 20 12 13 20) 22 12 21<|
 .m 23 22<|
 .gO 23 false (.p 24 [3,23] (.L (.t 3))<|
 .bJ 25 24 23 24 17) 26 23 25<|
 .nil)
 (.cond (.tmp 26) (.z (.aX 8 y2)
 .ret)
 .skip))
 (.z (.cE 27 0 0<|
 .f 30 0 29<|
 .bF 31 3 30 1<|
 .aN 34 13 32 33 y1 13<|
 .ol 9 [] 113 [y0,V.h,y2,y2,y2,y2,y0,y0,V.h,V.h,y0,y2,y0]<|
 .op none y1 [9,35] (.store 13 (.t 9) (.t 35))<|
 .nil)
 (.seq (.z (.aK 36 0 6 12<|
 .nil)
 (.cond (.tmp 38) (.z (.aB 39 0 1<|
 .O 41 y3 (.load (some 6) (.t 6))<|
 .k 42 .bool 73 [(.t 39),(.t 40),(.t 41)]<|
 .aG 8 42)
 .ret)
 .skip))
 (.seq (.z (.aA 43 0 6 .i<|
 .aA 45 0 9 .i<|
 .b 47 .neq .none (.t 44) (.t 46)<|
 .nil)
 (.cond (.tmp 47) (.z (.aX 8 y2)
 .ret)
 .skip))
 (.seq (.z (.aA 48 0 9 .i<|
 .nil)
 (.block 0 (.z (.aD 51 49 1 50)
 (.cond (.tmp 50) (.z (.O 52 y3 (.load (some 6) (.t 6))<|
 .k 53 .bool 74 [(.t 52),(.i 1)]<|
 .m 54 53<|
 .gA 54 true (.bW 55 6 54 y38 54<|
 .bY 57 56 54 56 0 54<|
 .grp 58 false (.p 59 [6,58] y38<|
 .op (some 60) .i [59,58] (.load none (.t 59))<|
 .aT 61 60 58 60 1) 62 [58,61,54] (.t 58) We (.t 61)<|
 .nil) 63 54 62<|
 .aG 8 63)
 .ret)
 (.z (.aD 65 49 2 64)
 (.cond (.tmp 64) (.z (.O 66 y3 (.load (some 6) (.t 6))<|
 .k 67 .bool 74 [(.t 66),(.i 1)]<|
 .m 68 67<|
 .gA 68 true (.p 69 [9,68] (.C 2 (.t 9))<|
 .bH 70 69 68 3 69 68<|
 .p 72 [71,68] (.L (.t 71))<|
 .grp 72 false (.p 73 [9,72] (.C 2 (.t 9))<|
 .op (some 74) y9 [73,72] (.load (some 6) (.t 73))<|
 .bW 75 6 72 y38 72<|
 .op (some 77) .bool [74,76,72] (.call 75 [(.t 74),(.t 76)])<|
 .nil) 78 [72,77,68] (.t 72) We (.t 77)<|
 .nil) 79 68 78<|
 .aG 8 79)
 .ret)
 (.z (.aD 81 49 3 80)
 (.cond (.tmp 80) (.z (.O 82 y3 (.load (some 6) (.t 6))<|
 .k 83 .bool 74 [(.t 82),(.i 1)]<|
 .m 84 83<|
 .gA 84 true (.op (some 85) y1 [9,84] (.load (some 13) (.t 9))<|
 .bW 86 6 84 y38 84<|
 .op (some 88) .i [85,87,84] (.call 76 [(.t 85),(.t 87)])<|
 .p 89 [88,84] (.pp .geq .none (.t 88) (.i 0))<|
 .nil) 90 84 89<|
 .aG 8 90)
 .ret)
 (.z (.aD 92 49 4 91)
 (.cond (.tmp 91) (.z (.O 93 y3 (.load (some 6) (.t 6))<|
 .k 94 .bool 74 [(.t 93),(.i 0)]<|
 .aG 8 94)
 .ret)
 (.seq (.z (.aD 96 49 5 95)
 (.cond (.tmp 95) .skip
 (.Y (.aD 97 49 6 95))))
 (.Q [(0,.o),(1,.i),(3,.i),(6,.o),(49,.i),(95,.bool)] [9] [(9,[.i,.any,.bool,.bool,.bool,.bool,.i,.i,.any,.any,.i,.bool,.i])] a))))))))))))
 (.Q [] [] [] b)))))))
def Qt(E:EB)(D:Ac)(W:AF)(K2:Nat->Nat->Int->Int->Nat->Nat->Int->Bool->Int->V->Bool->Bool->Bool->Bool->Int->Int->V->V->Int->Bool->Int->H->AE)(a b:Nat)(c d e:Int)(f g:V)(h:Int)(i:V)(j:Int)(U:H):AE:=
 Ht (eI d e f g h i) U λk=>
 Ax (λl m=>
 Ax (λn o=>
 AK n (
 rB false o) (
 jX E o a (AM b 3) 13 c λn=>
 uN n λn p q r s t u v w x y z J=>
 JI (BH (eN n p q r s t u v w x y z J)) (
 lI E o (H.j U) 0 λA=>
 AK (B8 A (AA 12)) (
 Bv E o (H.j U) 0 6 λA=>
 uI A λA C F B G I=>
 cB (D 73 [.o a b,.int .i64 c,.agg (eI A C F B G I)] o) λA C=>
 rB A C) (
 lI E o (H.j U) 0 λA=>
 AK (not (B8 A n)) (
 rB false o) (
 AK (B8 n (AA 1)) (
 Bv E o (H.j U) 0 6 λA=>
 uI A λA C F B G I=>
 cB (D 74 [.agg (eI A C F B G I),iN 1] o) λA C=>
 Ax (λF B=>
 rB F B) λF=>
 AK A (
 lI E C (H.j U) 1 λA=>
 Ax (λB G=>
 F B G) λB=>
 AK (B8 A (AA 0)) (
 B true C) (
 lI E C (H.j U) 1 λA=>
 B (B8 A (AA 1)) C)) (
 F false C)) (
 AK (B8 n (AA 2)) (
 Bv E o (H.j U) 0 6 λA=>
 uI A λA C F B G I=>
 cB (D 74 [.agg (eI A C F B G I),iN 1] o) λA C=>
 Ax (λF B=>
 rB F B) λF=>
 AK A (
 Ax (λA B=>
 F A B) λA=>
 AK t (
 A true C) (
 lI E C (H.j U) 1 λB=>
 cB (D 75 [.agg (eO q r s t u v),.int .i64 B] C) λB G=>
 A B G)) (
 F false C)) (
 AK (B8 n (AA 3)) (
 Bv E o (H.j U) 0 6 λA=>
 uI A λA C F B G I=>
 cB (D 74 [.agg (eI A C F B G I),iN 1] o) λA C=>
 Ax (λF B=>
 rB F B) λF=>
 AK A (
 lI E C (H.j U) 1 λA=>
 cI (D 76 [.agg (eN n p q r s t u v w x y z J),.int .i64 A] C) λA B=>
 F (HL (AA 0) A) B) (
 F false C)) (
 AK (B8 n (AA 4)) (
 Bv E o (H.j U) 0 6 λA=>
 uI A λA C F B G I=>
 cB (D 74 [.agg (eI A C F B G I),iN 0] o) λA C=>
 rB A C) (
 AK (B8 n (AA 5)) (
 K2 a b c j (H.j U) 0 n (B8 n (AA 5)) n p q r s t u v w x y z J o) (
 K2 a b c j (H.j U) 0 n (B8 n (AA 6)) n p q r s t u v w x y z J o)))))))))) λn=>
 AK l (
 n true m) (
 n (C5 (AA 17) j) m)) λl=>
 AK (C5 c (AA 0)) (
 l true k) (
 lL E k a (AM b 3) λm=>
 l (HL (AA m) c) k)
def ASb:XC:=(.z (.aX 8 y2)
 .ret)
def AMy(E:EB)(D:Ac)(W:AF)(U:H):AE:=
 rB false U
def ASa(a:XC):XC:=(.cond (.tmp 95) (.z (.aY 98 0 y1 13 9<|
 .O 100 y3 (.load (some 6) (.t 6))<|
 .k 101 .bool 77 [(.t 98),(.t 99),(.t 100)]<|
 .aG 8 101)
 .ret)
 (.z (.aD 103 49 10 102)
 (.cond (.tmp 102) (.z (.aY 104 0 y1 13 9<|
 .O 106 y3 (.load (some 6) (.t 6))<|
 .m 107 3<|
 .k 108 .bool 78 [(.t 104),(.t 105),(.t 106),(.t 107)]<|
 .aG 8 108)
 .ret)
 (.z (.aD 110 49 9 109)
 (.cond (.tmp 109) (.seq (.us (.O 111 y3 (.load (some 6) (.t 6))<|
 .k 112 .bool 74 [(.t 111),(.i 5)]<|
 .m 113 112<|
 .gA 113 true (.bW 114 6 113 y38 113<|
 .p 116 [115,113] (.pp .geq .none (.t 115) (.i 0))<|
 .nil) 117 113 116<|
 .m 118 117<|
 .gA 118 true (.bW 119 6 118 y38 118<|
 .aF 121 9 118 9 9 118 118<|
 .p 124 [120,123,118] (.pp .lss .none (.t 120) (.t 123))<|
 .nil) 125 118 124<|
 .m 126 125<|
 .gA 126 true (.aF 127 6 126 3 6 126 126<|
 .aT 130 129 126 129 1) 131 126 130<|
 .m 132 131<|
 .gA 132 true (.p 133 [0,132] JT<|
 .cF 134 9 132 9 9 132<|
 .bW 136 6 132 y38 132<|
 .p 138 [135,137,132] (.qr 11 (.t 135) (.t 137))<|
 .aH 139 138 132 1 138 132<|
 .cF 141 6 132 3 6 132<|
 .p 143 [142,132] (.qr 6 (.t 142) (.i 0))<|
 .op (some 144) y3 [143,132] (.load (some 6) (.t 143))<|
 .p 145 [3,132] (.L (.t 3))<|
 .p 146 [145,132] (.pp .add .none (.t 145) (.i 1))<|
 .op (some 147) .bool [133,140,144,146,132] (.call 37 [(.t 133),(.t 140),(.t 144),(.t 146)])<|
 .nil) 148 132 147<|
 .aG 8 148) [0,1,3,7,15,31,63,127,255,511,255,1279,3327,8191,16383,32767,65535,131071,262143,524287,1048575,2097151,4194303,4194303,12582911,4194303,37748735,130023423,264241151,532676607,4194303,1077936127,3225419775,7520387071,4194303,17184063487,68719476735,137438953471,274877906943])
 .ret)
 (.seq (.z (.aD 150 49 7 149)
 (.cond (.tmp 149) .skip
 (.Y (.aD 151 49 8 149))))
 (.Q [(0,.o),(1,.i),(3,.i),(6,.o),(149,.bool)] [] [] a)))))))
def sn(E:EB)(D:Ac)(W:AF)(I:Nat->Nat->Int->Int->Nat->Nat->Bool->H->AE)(a b:Nat)(c d:Int)(e f:Nat)(g:Int)(h:Bool)(i:Int)(j:V)(k l m o:Bool)(p q:Int)(r s:V)(t:Int)(u:Bool)(v:Int)(U:H):AE:=
 AK h (
 Bv E U e f 6 λn=>
 uI n λn w x y z B=>
 cB (D 77 [.o a b,.agg (eN i j k l m o p q r s t u v),.agg (eI n w x y z B)] U) λn w=>
 rB n w) (
 AK (B8 g (AA 10)) (
 Bv E U e f 6 λn=>
 uI n λn w x y z B=>
 cB (D 78 [.o a b,.agg (eN i j k l m o p q r s t u v),.agg (eI n w x y z B),.int .i64 d] U) λn w=>
 rB n w) (
 AK (B8 g (AA 9)) (
 Bv E U e f 6 λn=>
 uI n λn w x y z B=>
 cB (D 74 [.agg (eI n w x y z B),iN 5] U) λn w=>
 Ax (λx y=>
 Ax (λz B=>
 Ax (λA F=>
 Ax (λG C=>
 rB G C) λG=>
 AK A (
 lI E F e (AM f 1) λA=>
 AS 11 s A λA C=>
 lI E F A (AM C 1) λA=>
 jX E F e (AM f 3) 6 (AA 0) λC=>
 uI C λC M N J K L=>
 cB (D 37 [.o a b,.int .i64 A,.agg (eI C M N J K L),.int .i64 (BQ .i64 d (AA 1))] F) λA C=>
 G A C) (
 G false F)) λA=>
 AK z (
 lL E B e (AM f 3) λz=>
 A (B8 (AA z) (AA 1)) B) (
 A false B)) λz=>
 AK x (
 lI E y e (AM f 1) λx=>
 Ao s λB=>
 z (C5 x (AA B)) y) (
 z false y)) λx=>
 AK n (
 lI E w e (AM f 1) λn=>
 x (HL (AA 0) n) w) (
 x false w)) (
 AK (B8 g (AA 7)) (
 I a b c d e f (B8 g (AA 7)) U) (
 I a b c d e f (B8 g (AA 8)) U))))
def ASZ:XC:=(.cond (.tmp 149) (.z (.aB 152 0 1<|
 .O 154 y3 (.load (some 6) (.t 6))<|
 .m 155 3<|
 .k 156 .bool 79 [(.t 152),(.t 153),(.t 154),(.t 155)]<|
 .aG 8 156)
 .ret)
 .skip)
def AMx(E:EB)(D:Ac)(W:AF)(K1:H->AE)(a b:Nat)(c d:Int)(e f:Nat)(g:Bool)(U:H):AE:=
 AK g (
 Bv E U e f 6 λh=>
 uI h λh i j k l m=>
 cB (D 79 [.o a b,.int .i64 c,.agg (eI h i j k l m),.int .i64 d] U) λh i=>
 rB h i) (
 K1 U)
def APK(E:EB)(D:Ac)(W:AF)(N:Nat):=AMy E D W
def API:=AMx E D W (APK E D W N )
def APJ:=sn E D W (API E D W N )
def F37(args:List V)(U:H):AE:=
 Ab args λa b=>
 BL a λa c=>
 D3 .i64 b λb d=>
 Ab d λd e=>
 Cp d λd=>
 uI d λd f g h i j=>
 D3 .i64 e λe k=>
 Ay k (
 Qt E D W (APJ E D W N ) a c b d f g h i j e U)
def A37:DD:=⟨157,[.o,.i,y3,.i],[(.tmp 8)],(ASc ASb (ASa ASZ))⟩
theorem AWn args U:BZ E D W N A37 args U=F37 E D W N args U:=by kernel_rfl
def ALN:List (Nat × Cc):=[(3,.i),(7,.any),(8,.i),(9,.i)]
def Yv(E:EB):St->AE:=λs=>Dc E s [(.tmp 2)] λl=>some (Dq l,s.U)
def AUg(c0:XC):Nat->St->AE:=BR 0 (dX E D W N (.Q [(3,.i)] [] [] c0) (Yv E) nX (Yv E)) nX
def ADX(b:XC)(a:XC):XC:=(.z (.P 1 (.box 49 (.t 0))<|
 .aL 2 0)
 (.z (.aL 3 1)
 (.seq (.z (.aP 6 3 1<|
 .aL 9 0)
 (.block 0 (.loop ALN [] [] a)))
 (.Q [(3,.i)] [] [] b))))
def sm(E:EB)(D:Ac)(W:AF)(K2:Int->V->Int->Int->H->AE)(a b:Int)(c d:V)(e:Int)(f:V)(U:H):AE:=
 Ht (eI a b c d e f) U λg=>
 DF E g (H.j U) 3 λh=>
 Ao h λi=>
 K2 (AA 1) h (AA i) (AA 0) g
def j9:XC:=(.z (.m 18 3<|
 .aG 2 18)
 .ret)
def AMw(E:EB)(D:Ac)(W:AF)(a:Int)(U:H):AE:=
 rI a U
def j8:XC:=(.z (.aE 10 9 8)
 (.seq (.cond (.tmp 10) .skip
 LM)
 (.seq (.block 1 (.z (.aN 11 6 7 9 y3 6<|
 .ol 5 [] 49 [y0,y0,V.h,V.h,y0,V.h]<|
 .op none y3 [5,12] (.store 6 (.t 5) (.t 12))<|
 .nil)
 (.Y (.aY 13 3 y3 6 5<|
 .k 15 .i 38 [(.t 14)]<|
 .b 16 .add .none (.t 13) (.t 15)<|
 .aG 3 16))))
 (.Y (.aC 17 9 1 9)))))
def YJ(E:EB)(D:Ac)(W:AF)(K1:Int->H->AE)(k:Int->V->Int->Int->H->AE)(a:Int)(b:V)(c d:Int)(U:H):AE:=
 AK (C5 d c) (
 iX E U 6 b d λe=>
 uI e λe f g h i j=>
 JI (BH (eI e f g h i j)) (
 cI (D 38 [.agg (eI e f g h i j)] U) λe f=>
 k (BQ .i64 a e) b c (BQ .i64 d (AA 1)) f)) (
 K1 a U)
def AOO(a b:Int)(c d:V)(e:Int)(f:V)(U:H):St:=⟨[(0,.agg [.int .i64 a,.int .i64 b,c,d,.int .i64 e,f])],[],[],U⟩
def AON(a:Int)(b:V)(c d:Int)(U:H):St:=⟨[(3,.int .i64 a),(7,b),(8,.int .i64 c),(9,.int .i64 d)],[],[],U⟩
def APH(E:EB)(D:Ac)(W:AF)(N:Nat):=AMw E D W
def uk(n:Nat):Int->V->Int->Int->H->AE:=
 Nat.rec (λ_ _ _ _ _=>none) (λ_ a=>YJ E D W (APH E D W N ) a) n
theorem AHI n:
 (λa b c d U=>BM (λf g=>Au E D W N j8 g (kX ALN [] [] f) (AUg E D W N j9) (Yv E)) n (AON a b c d U))=uk E D W N n:=O4 (λ_=>by kernel_rfl) n
def vh:=sm E D W (uk E D W N N)
theorem AHo:
 (λa b c d e f U=>Au E D W N (ADX j9 j8) (AOO a b c d e f U) (Yv E) nX (Yv E))=vh E D W N:=by
 unfold vh;rw[<-AHI];generalize j9=m,j8=n;revert m n;refine id ?_;intros;kernel_rfl
def F38(args:List V)(U:H):AE:=
 Ab args λa b=>
 Cp a λa=>
 uI a λa c d e f g=>
 Ay b (
 vh E D W N a c d e f g U)
def A38:DD:=⟨19,[y3],[(.tmp 2)],(ADX j9 j8)⟩
theorem AWm args U:BZ E D W N A38 args U=F38 E D W N args U:=by
 unfold F38;rw[<-AHo];kernel_rfl
def ASY:XC:=(.z (.aX 4 y2)
 (.z (.bG 5 0 1 .i 80<|
 .b 8 .geq .none (.t 7) (.i 0)<|
 .m 4 8<|
 .nil)
 .ret))
def sk(E:EB)(D:Ac)(W:AF)(a b:V)(U:H):AE:=
 cI (D 80 [a,b] U) λc d=>
 rB (HL (AA 0) c) d
def F39(N:Nat)(args:List V)(U:H):AE:=
 uH args λa b=>
 sk E D W a b U
def A39:DD:=⟨9,nU,[(.tmp 4)],ASY⟩
theorem AWl args U:BZ E D W N A39 args U=F39 E D W N args U:=by kernel_rfl
def ASW:XC:=(.z (.P 1 (.box 113 (.t 0))<|
 .aX 2 y2)
 (.z (.f 3 10 1<|
 .l 4 .i 3<|
 .b 5 .lss .none (.t 4) (.i 0)<|
 .m 6 5<|
 .gO 6 false (.p 7 [1,6] (.C 10 (.t 1))<|
 .op (some 8) .i [7,6] (.load none (.t 7))<|
 .p 9 [1,6] (.C 9 (.t 1))<|
 .p 10 [9,6] (.load none (.t 9))<|
 .p 11 [10,6] (.len false (.t 10))<|
 .aF 12 1 6 8 1 6 6<|
 .p 15 [11,14,6] (.pp .add .none (.t 11) (.t 14))<|
 .p 16 [8,15,6] (.pp .gtr .none (.t 8) (.t 15))<|
 .nil) 17 6 16<|
 .aG 2 17)
 .ret))
def se(E:EB)(D:Ac)(W:AF)(a:Int)(b:V)(c d e f:Bool)(g h:Int)(i j:V)(k:Int)(l:Bool)(m:Int)(U:H):AE:=
 Ht (eN a b c d e f g h i j k l m) U λn=>
 lI E n (H.j U) 10 λo=>
 Ax (λp q=>
 rB p q) λp=>
 AK (C5 o (AA 0)) (
 p true n) (
 lI E n (H.j U) 10 λo=>
 lL E n (H.j U) 9 λq=>
 lL E n (H.j U) 8 λr=>
 p (C5 (BQ .i64 (AA q) (AA r)) o) n)
def F40(N:Nat)(args:List V)(U:H):AE:=
 Ab args λa b=>
 Cp a λa=>
 uN a λa c d e f g h i j k l m n=>
 Ay b (
 se E D W a c d e f g h i j k l m n U)
def A40:DD:=⟨18,[y1],[(.tmp 2)],ASW⟩
theorem AWk args U:BZ E D W N A40 args U=F40 E D W N args U:=by kernel_rfl
def ASV:XC:=(.z (.aX 4 y2)
 (.z (.bG 5 0 1 .i 81<|
 .b 8 .geq .none (.t 7) (.i 0)<|
 .m 4 8<|
 .nil)
 .ret))
def sc(E:EB)(D:Ac)(W:AF)(a b:V)(U:H):AE:=
 cI (D 81 [a,b] U) λc d=>
 rB (HL (AA 0) c) d
def F41(N:Nat)(args:List V)(U:H):AE:=
 uH args λa b=>
 sc E D W a b U
def A41:DD:=⟨9,nU,[(.tmp 4)],ASV⟩
theorem AWj args U:BZ E D W N A41 args U=F41 E D W N args U:=by kernel_rfl
def ASU:XC:=(.z (.P 2 (.box 49 (.t 0))<|
 .aX 3 y2)
 (.z (.O 4 y3 (.load (some 6) (.t 2))<|
 .l 5 .i 1<|
 .k 6 .bool 23 [(.t 4),(.t 5)]<|
 .P 7 (.un .not (.t 6))<|
 .m 3 7<|
 .nil)
 .ret))
def sa(E:EB)(D:Ac)(W:AF)(a b:Int)(c d:V)(e:Int)(f g:V)(U:H):AE:=
 Ht (eI a b c d e f) U λh=>
 Bv E h (H.j U) 0 6 λi=>
 uI i λi j k l m n=>
 BL g λo p=>
 lI E h o p λo=>
 cB (D 23 [.agg (eI i j k l m n),.int .i64 o] h) λh i=>
 rB (not h) i
def F42(N:Nat)(args:List V)(U:H):AE:=
 Ab args λa b=>
 Cp a λa=>
 uI a λa c d e f g=>
 Ab b λb h=>
 Ay h (
 sa E D W a c d e f g b U)
def A42:DD:=⟨8,[y3,.any],[(.tmp 3)],ASU⟩
theorem AWi args U:BZ E D W N A42 args U=F42 E D W N args U:=by kernel_rfl
def AST:XC:=(.z (.aG 4 1)
 (.cond (.tmp 4) (.Y (.bT 5 0 0<|
 .k 9 y8 82 [(.t 8),xr,(.i 1)]<|
 .nil))
 (.Y (.bT 10 0 0<|
 .k 14 y8 82 [(.t 13),(.T y30),(.i 1)]<|
 .nil))))
def YH(E:EB)(D:Ac)(W:AF)(a b:Nat)(c:Bool)(U:H):AE:=
 AK c (
 DF E U a b λd=>
 c0 (D 82 [d,.int .u64 (AA 1),iN 1] U) λd=>
 r0 d) (
 DF E U a b λd=>
 c0 (D 82 [d,.int .u64 (AA 0),iN 1] U) λd=>
 r0 d)
def F43(N:Nat)(args:List V)(U:H):AE:=
 uT args λa b c=>
 YH E D W a b c U
def A43:DD:=⟨15,[.o,.bool],[],AST⟩
theorem AWh args U:BZ E D W N A43 args U=F43 E D W N args U:=by kernel_rfl
def TQ:List BO:=[⟨(some 35),.L (.tmp 0),none⟩,⟨(some 36),.rg (.tmp 35),none⟩,⟨(some 37),.C 0 (.tmp 36),none⟩,⟨(some 38),.load none (.tmp 37),none⟩,⟨(some 39),.L (.tmp 0),none⟩,⟨(some 40),.rg (.tmp 39),none⟩,⟨(some 41),.C 1 (.tmp 40),none⟩,⟨(some 42),.load (some 4) (.tmp 41),none⟩,⟨(some 43),.L (.tmp 1),none⟩,⟨(some 44),.call 89 [(.tmp 42),(.tmp 43)],none⟩,⟨(some 45),.L (.tmp 7),none⟩,⟨(some 46),.call 88 [(.tmp 44),(.tmp 45)],none⟩,⟨(some 47),.i7 (.jp .u64) (.tmp 46),none⟩,⟨(some 48),.C 10 (.tmp 6),none⟩,⟨(some 49),.load none (.tmp 48),none⟩,⟨(some 50),.pp .sub .none (.tmp 49) (.T (V.int .i64 (AA 1))),none⟩,⟨(some 51),.i7 (.jp .u64) (.tmp 50),none⟩,⟨(some 52),.call 84 [(.tmp 38),(.tmp 47),(.tmp 51)],none⟩]
def Ym:List DP:=[⟨0,[0]⟩,⟨1,[35]⟩,⟨3,[36]⟩,⟨7,[37]⟩,⟨0,[0]⟩,⟨16,[39]⟩,⟨48,[40]⟩,⟨112,[41]⟩,⟨0,[1]⟩,⟨496,[42,43]⟩,⟨0,[7]⟩,⟨2032,[44,45]⟩,⟨4080,[46]⟩,⟨0,[6]⟩,⟨8192,[48]⟩,⟨24576,[49]⟩,⟨57344,[50]⟩,⟨131071,[38,47,51]⟩]
def ASS(a:XC):XC:=(.z (.P 5 (.box 49 (.t 2))<|
 .nil)
 (.z (.cE 9 0 1<|
 .bF 12 3 11 1<|
 .aN 15 13 13 14 y1 13<|
 .p 6 [] y16<|
 .op none y1 [6,16] (.store 13 (.t 6) (.t 16))<|
 .nil)
 (.z (.O 17 y1 (.load (some 13) (.t 6))<|
 .aA 18 1 5 .i<|
 .k 20 .i 76 [(.t 17),(.t 19)]<|
 .aG 7 20)
 (.z (.aK 21 0 5 12<|
 .m 24 23<|
 .gO 24 false (.p 25 [7,24] (.L (.t 7))<|
 .aH 26 6 24 10 6 24<|
 .bO 28 25 27 24 25 27) 29 24 28<|
 .aG 8 29)
 (.seq (.z (.aA 30 11 6 .bool<|
 .nil)
 (.cond (.tmp 31) (.Y (.aB 32 0 8<|
 .k 34 y8 43 [(.t 32),(.t 33)]<|
 .nil))
 .skip))
 (.Q [(0,.o),(1,.i),(5,.o),(6,.o),(7,.i),(8,.bool)] [] [] a))))))
def iQ(E:EB)(D:Ac)(W:AF)(K1:Nat->Nat->Int->Nat->Nat->Nat->Nat->Int->Bool->H->AE)(a b:Nat)(c d e:Int)(f g:V)(h:Int)(i:V)(U:H):AE:=
 Ht (eI d e f g h i) U λj=>
 jX E j a (AM (AM b 1) 3) 13 c λk=>
 uN k λk l m n o p q r s t u v w=>
 let x:=Cb j (.cells [iN 0,V.h,.bool false,.bool false,.bool false,.bool false,iN 0,iN 0,V.h,V.h,iN 0,.bool false,iN 0]);
 DO 13 (H.j j) 0 (V.agg (eN k l m n o p q r s t u v w)) x λk=>
 Bv E k (H.j j) 0 13 λl=>
 uN l λl m n o p q r s t u v w x=>
 lI E k (H.j U) 1 λy=>
 cI (D 76 [.agg (eN l m n o p q r s t u v w x),.int .i64 y] k) λk l=>
 lI E l (H.j U) 0 λm=>
 Ax (λn o=>
 lB E o (H.j j) 11 λp=>
 AK p (
 c0 (D 43 [.o a b,.bool n] o) λp=>
 K1 a b c (H.j U) 0 (H.j j) 0 k n p) (
 K1 a b c (H.j U) 0 (H.j j) 0 k n o)) λn=>
 AK (B8 m (AA 12)) (
 n true l) (
 lI E l (H.j j) 10 λj=>
 n (HL j k) l)
def ASR:XC:=(.block 0 (.z (.aA 54 0 5 .i<|
 .aD 56 55 12 53)
 (.cond (.tmp 53) (.us (.bT 57 0 0<|
 .aA 61 1 5 .i<|
 .bE 63 y8 87 60 62) [0,1,3,7,0,16,63])
 (.z (.m 65 8<|
 .m 64 65<|
 .nil)
 (.cond (.tmp 64) (.us (.aI 66 0<|
 .bF 68 0 67 7<|
 .aA 71 10 6 .i<|
 .b 73 .sub .none (.t 70) (.t 72)<|
 .bE 74 y8 87 69 73) [0,1,3,7,0,0,32,112,255])
 (.Q [(0,.o),(1,.i),(6,.o),(7,.i)] [] [] (.wl TQ Ym [])))))))
def iP(a b:Nat)(c:Int)(d e f g:Nat)(h:Int)(i:Bool)(U:H):AE:=
 lI E U d e λj=>
 AK (B8 j (AA 12)) (
 DF E U a b λj=>
 lI E U d (AM e 1) λk=>
 c0 (D 87 [j,.int .i64 k] U) λj=>
 r0 j) (
 AK i (
 DF E U a b λj=>
 lI E U f (AM g 10) λk=>
 c0 (D 87 [j,.int .i64 (Dj .i64 h k)] U) λj=>
 r0 j) (
 CM (W TQ Ym [(0,.o a b),(1,.int .i64 c),(6,.o f g),(7,.int .i64 h)] U) λj k=>
 r0 k))
def APF(E:EB)(D:Ac)(W:AF)(N:Nat):=iP E D W
def F45(args:List V)(U:H):AE:=
 Ab args λa b=>
 BL a λa c=>
 D3 .i64 b λb d=>
 Ab d λd e=>
 Cp d λd=>
 uI d λd f g h i j=>
 Ay e (
 iQ E D W (APF E D W N ) a c b d f g h i j U)
def A45:DD:=⟨75,[.o,.i,y3],[],(ASS ASR)⟩
theorem AWg args U:BZ E D W N A45 args U=F45 E D W N args U:=by kernel_rfl
def ALM:List (Nat × Cc):=[(0,.any),(4,.any),(11,.any),(12,.i),(13,.i)]
def jh(E:EB):St->AE:=λs=>Dc E s [] λl=>some (Dq l,s.U)
def ADW(a:XC):XC:=(.z (.cG 7 1 .S 90<|
 .m 4 8<|
 .nil)
 (.z (.bZ 9 4<|
 .k 11 .S 91 [(.t 10)]<|
 .u 12 11<|
 .aL 13 0)
 (.block 0 (.loop ALM [] [] a))))
def iO(E:EB)(D:Ac)(W:AF)(K1:V->V->V->Int->Int->H->AE)(a b:V)(U:H):AE:=
 CD (D 90 [b] U) λc d=>
 CI c (
 Ao c λe=>
 CD (D 91 [.int .i64 (AA e)] d) λd e=>
 CI d (
 Ao d λf=>
 K1 a c d (AA f) (AA 0) e))
def j7:XC:=(.z (.aE 14 13 12)
 (.seq (.cond (.tmp 14) .skip
 LM)
 (.seq (.block 1 (.z (.s 15 1 11 13<|
 .l 16 .i 15<|
 .aG 6 16)
 (.z (.bS 17 0 6 6<|
 .b 20 .geq .none (.t 19) (.i 16384)<|
 .bD 21 y8 92 17 18 20)
 (.z (.bS 22 0 4 6<|
 .p 25 [23,24] (.sliceSl 1 (.t 23) none (some (.t 24)) none)<|
 .bE 26 y8 49 22 25)
 (.Y (.aB 27 4 6<|
 .p 29 [27,28] (.sliceSl 1 (.t 27) (some (.t 28)) none none)<|
 .aG 4 29))))))
 (.Y (.aC 30 13 1 13)))))
def Qr(E:EB)(D:Ac)(W:AF)(i:V->V->V->Int->Int->H->AE)(a b c:V)(d e:Int)(U:H):AE:=
 AK (C5 e d) (
 AS 1 c e λf g=>
 lI E U f g λf=>
 c0 (D 92 [a,.int .i64 f,.bool (HL (AA 16384) f)] U) λg=>
 gK (CT 1 b none (some (V.int .i64 f)) none) λh=>
 c0 (D 49 [a,h] g) λg=>
 gK (CT 1 b (some (V.int .i64 f)) none none) λf=>
 i a f c d (BQ .i64 e (AA 1)) g) (
 r0 U)
def AOL(a b:V)(U:H):St:=⟨[(0,a),(1,b)],[],[],U⟩
def AOK(a b c:V)(d e:Int)(U:H):St:=⟨[(0,a),(4,b),(11,c),(12,.int .i64 d),(13,.int .i64 e)],[],[],U⟩
def uh(E:EB)(D:Ac)(W:AF)(N:Nat)(n:Nat):V->V->V->Int->Int->H->AE:=
 Nat.rec (λ_ _ _ _ _ _=>none) (λ_ a=>Qr E D W a) n
theorem AHH n:
 (λa b c d e U=>BM (λg h=>Au E D W N j7 h (kX ALM [] [] g) (BR 0 (jh E) nX) (jh E)) n (AOK a b c d e U))=uh E D W N n:=lp6 (λ_=>by kernel_rfl) n
def ve:=iO E D W (uh E D W N N)
theorem AHm:
 (λa b U=>Au E D W N (ADW j7) (AOL a b U) (jh E) nX (jh E))=ve E D W N:=by
 unfold ve;rw[<-AHH];generalize j7=i;revert i;refine id ?_;intros;kernel_rfl
def F46(args:List V)(U:H):AE:=
 uH args λa b=>
 ve E D W N a b U
def A46:DD:=⟨31,nU,[],(ADW j7)⟩
theorem AWf args U:BZ E D W N A46 args U=F46 E D W N args U:=by
 unfold F46;rw[<-AHm];kernel_rfl
def ASQ:XC:=(.z (.m 4 0<|
 .b 5 .neq .o (.t 4) (.T V.nilp)<|
 .nil)
 (.cond (.tmp 5) (.Y (.cE 6 0 0<|
 .m 9 1<|
 .p 10 [9] (.buildSlice 35 1 [V.h] [(0,1,(.t 9))])<|
 .bE 11 y8 94 8 10))
 .skip))
def sZ(E:EB)(D:Ac)(W:AF)(a b:V)(U:H):AE:=
 Zh .o a V.nilp λc=>
 AK (not c) (
 BL a λc d=>
 H9 [(0,1,b)] [V.h] λe=>
 JI (BH e) (
 let f:=Cb U (.cells e);
 c0 (D 94 [.o c d,.D (H.j U) 0 1 (.ex 1)] f) λc=>
 r0 c)) (
 r0 U)
def F49(N:Nat)(args:List V)(U:H):AE:=
 uH args λa b=>
 sZ E D W a b U
def A49:DD:=⟨12,nU,[],ASQ⟩
theorem AWe args U:BZ E D W N A49 args U=F49 E D W N args U:=by kernel_rfl
def TP:List BO:=[⟨(some 9),.L (.tmp 0),none⟩,⟨(some 10),.rg (.tmp 9),none⟩,⟨(some 11),.C 1 (.tmp 10),none⟩,⟨(some 12),.C 3 (.tmp 11),none⟩,⟨(some 13),.load none (.tmp 12),none⟩,⟨(some 14),.L (.tmp 1),none⟩,⟨(some 15),.qr 13 (.tmp 13) (.tmp 14),none⟩,⟨(some 16),.load (some 13) (.tmp 15),none⟩,⟨(some 17),.C 1 (.tmp 5),none⟩,⟨(some 18),.load none (.tmp 17),none⟩,⟨(some 6),.alloc 113 [(V.int .i64 (AA 0)),V.h,(V.bool false),(V.bool false),(V.bool false),(V.bool false),(V.int .i64 (AA 0)),(V.int .i64 (AA 0)),V.h,V.h,(V.int .i64 (AA 0)),(V.bool false),(V.int .i64 (AA 0))],none⟩,⟨(some 7),.alloc 3 [(V.int .i64 (AA 0))],none⟩,⟨none,.store 13 (.tmp 6) (.tmp 16),none⟩,⟨none,.store 1 (.tmp 7) (.tmp 18),none⟩]
def Yl:List DP:=[⟨0,[0]⟩,⟨1,[9]⟩,⟨3,[10]⟩,⟨7,[11]⟩,⟨15,[12]⟩,⟨0,[1]⟩,⟨63,[13,14]⟩,⟨127,[15]⟩,⟨0,[5]⟩,⟨256,[17]⟩,⟨0,[]⟩,⟨0,[]⟩,⟨3327,[6,16]⟩,⟨8191,[7,18]⟩]
def ADB:List BO:=[⟨(some 71),.L (.tmp 0),none⟩,⟨(some 72),.rg (.tmp 71),none⟩,⟨(some 73),.C 0 (.tmp 72),none⟩,⟨(some 74),.load none (.tmp 73),none⟩,⟨(some 75),.C 2 (.tmp 5),none⟩,⟨(some 76),.load none (.tmp 75),none⟩,⟨(some 77),.buildSlice 35 1 [V.h] [(0,1,(.tmp 76))],none⟩,⟨(some 78),.call 46 [(.tmp 74),(.tmp 77)],none⟩]
def AC5:List DP:=[⟨0,[0]⟩,⟨1,[71]⟩,⟨3,[72]⟩,⟨7,[73]⟩,⟨0,[5]⟩,⟨16,[75]⟩,⟨48,[76]⟩,⟨127,[74,77]⟩]
def TO:List BO:=[⟨(some 33),.L (.tmp 0),none⟩,⟨(some 34),.rg (.tmp 33),none⟩,⟨(some 35),.C 0 (.tmp 34),none⟩,⟨(some 36),.load none (.tmp 35),none⟩,⟨(some 37),.L (.tmp 0),none⟩,⟨(some 38),.rg (.tmp 37),none⟩,⟨(some 39),.C 1 (.tmp 38),none⟩,⟨(some 40),.load (some 4) (.tmp 39),none⟩,⟨(some 41),.L (.tmp 1),none⟩,⟨(some 42),.call 97 [(.tmp 40),(.tmp 41)],none⟩,⟨(some 43),.load none (.tmp 7),none⟩,⟨(some 44),.call 88 [(.tmp 42),(.tmp 43)],none⟩,⟨(some 45),.i7 (.jp .u64) (.tmp 44),none⟩,⟨(some 46),.C 10 (.tmp 6),none⟩,⟨(some 47),.load none (.tmp 46),none⟩,⟨(some 48),.pp .sub .none (.tmp 47) (.T (V.int .i64 (AA 1))),none⟩,⟨(some 49),.i7 (.jp .u64) (.tmp 48),none⟩,⟨(some 50),.call 84 [(.tmp 36),(.tmp 45),(.tmp 49)],none⟩]
def Yk:List DP:=[⟨0,[0]⟩,⟨1,[33]⟩,⟨3,[34]⟩,⟨7,[35]⟩,⟨0,[0]⟩,⟨16,[37]⟩,⟨48,[38]⟩,⟨112,[39]⟩,⟨0,[1]⟩,⟨496,[40,41]⟩,⟨0,[7]⟩,⟨2032,[42,43]⟩,⟨4080,[44]⟩,⟨0,[6]⟩,⟨8192,[46]⟩,⟨24576,[47]⟩,⟨57344,[48]⟩,⟨131071,[36,45,49]⟩]
def ASP(a:XC):XC:=(.z (.P 5 (.box 49 (.t 2))<|
 .nil)
 (.seq (.Q [(0,.o),(1,.i),(5,.o)] [] [] (.wl TP Yl [(0,.o),(1,.i),(5,.o),(6,.o),(7,.o)]))
 (.z (.aA 19 0 5 .i<|
 .aD 21 20 12 8)
 (.seq (.z (.aA 22 11 6 .bool<|
 .nil)
 (.cond (.tmp 23) (.Y (.aB 24 0 8<|
 .m 26 25<|
 .gO 26 false (.op (some 27) .i [7,26] (.load none (.t 7))<|
 .aH 28 6 26 10 6 26<|
 .bO 30 27 29 26 27 29) 31 26 30<|
 .bE 32 y8 43 24 31))
 .skip))
 (.Q [(0,.o),(1,.i),(5,.o),(6,.o),(7,.o),(8,.bool)] [] [] a)))))
def iM(K1:Nat->Nat->Int->Nat->Nat->Nat->Nat->Nat->Nat->Bool->H->AE)(a b:Nat)(c d e:Int)(f g:V)(h:Int)(i:V)(U:H):AE:=
 Ht (eI d e f g h i) U λj=>
 CM (W TP Yl [(0,.o a b),(1,.int .i64 c),(5,.o (H.j U) 0)] j) λj k=>
 Bj j 0 λl=>
 BL l λl m=>
 Bj j 1 λn=>
 DZ .i64 n λn=>
 Bj j 5 λo=>
 BL o λo p=>
 Bj j 6 λq=>
 BL q λq r=>
 Bj j 7 λj=>
 BL j λj s=>
 lI E k o p λt=>
 lB E k q (AM r 11) λu=>
 AK u (
 Ax (λu v=>
 c0 (D 43 [.o l m,.bool u] v) λu=>
 K1 l m n o p q r j s (B8 t (AA 12)) u) λu=>
 AK (B8 t (AA 12)) (
 u true k) (
 lI E k j s λv=>
 lI E k q (AM r 10) λw=>
 u (HL w v) k)) (
 K1 l m n o p q r j s (B8 t (AA 12)) k)
def ASO:XC:=(.block 0 (.z (.m 64 8<|
 .m 63 64<|
 .nil)
 (.cond (.tmp 63) (.seq (.us (.bT 65 0 0<|
 .l 69 .i 7<|
 .bE 70 y8 87 68 69) [0,1,3,7,0,31])
 (.Q [(0,.o),(5,.o)] [] [] (.wl ADB AC5 [])))
 (.z (.l 80 .i 7<|
 .aA 81 10 6 .i<|
 .b 83 .geq .none (.t 80) (.t 82)<|
 .m 79 83<|
 .nil)
 (.cond (.tmp 79) (.seq (.us (.bT 84 0 0<|
 .l 88 .i 7<|
 .aA 89 10 6 .i<|
 .b 91 .sub .none (.t 88) (.t 90)<|
 .bE 92 y8 87 87 91) [0,1,3,7,0,0,32,112,255])
 (.Y (.m 93 0<|
 .p 94 [6,7,5] (.mkfn 96 [] [(.t 6),(.t 7),(.t 5)])<|
 .k 95 y8 95 [(.t 93),(.t 94)]<|
 .nil)))
 (.seq (.Q [(0,.o),(1,.i),(5,.o),(6,.o),(7,.o)] [] [] (.wl TO Yk [(0,.o),(5,.o),(6,.o),(7,.o)]))
 (.us (.m 51 0<|
 .aA 52 9 6 .any<|
 .l 54 .i 7<|
 .s 55 11 53 54<|
 .aA 56 1 55 .i<|
 .aA 58 3 5 .any<|
 .P 60 (.qr 6 (.t 59) (.i 0))<|
 .O 61 y3 (.load (some 6) (.t 60))<|
 .bD 62 y8 24 51 57 61) [0,0,2,0,14,30,62,0,128,384,896,2047])))))))
def iL(a b:Nat)(c:Int)(d e f g h i:Nat)(j:Bool)(U:H):AE:=
 AK j (
 DF E U a b λk=>
 lI E U h i λl=>
 c0 (D 87 [k,.int .i64 l] U) λk=>
 CM (W ADB AC5 [(0,.o a b),(5,.o d e)] k) λk l=>
 r0 l) (
 lI E U h i λk=>
 lI E U f (AM g 10) λl=>
 AK (HL l k) (
 DF E U a b λk=>
 lI E U h i λl=>
 lI E U f (AM g 10) λm=>
 c0 (D 87 [k,.int .i64 (Dj .i64 l m)] U) λk=>
 c0 (D 95 [.o a b,.fn 96 [] [.o f g,.o h i,.o d e]] k) λk=>
 r0 k) (
 CM (W TO Yk [(0,.o a b),(1,.int .i64 c),(5,.o d e),(6,.o f g),(7,.o h i)] U) λk l=>
 Bj k 0 λm=>
 BL m λm n=>
 Bj k 5 λo=>
 BL o λo p=>
 Bj k 6 λq=>
 BL q λq r=>
 Bj k 7 λk=>
 BL k λk s=>
 DF E l q (AM r 9) λq=>
 lI E l k s λk=>
 AS 11 q k λk q=>
 lI E l k (AM q 1) λk=>
 jX E l o (AM p 3) 6 (AA 0) λo=>
 uI o λo p q r s t=>
 c0 (D 24 [.o m n,.int .i64 k,.agg (eI o p q r s t)] l) λk=>
 r0 k))
def APE(E:EB)(D:Ac)(W:AF)(N:Nat):=iL E D W
def F55(args:List V)(U:H):AE:=
 Ab args λa b=>
 BL a λa c=>
 D3 .i64 b λb d=>
 Ab d λd e=>
 Cp d λd=>
 uI d λd f g h i j=>
 Ay e (
 iM E D W (APE E D W N ) a c b d f g h i j U)
def A55:DD:=⟨96,[.o,.i,y3],[],(ASP ASO)⟩
theorem AWd args U:BZ E D W N A55 args U=F55 E D W N args U:=by kernel_rfl
def ASN:XC:=(.z (.aL 2 0)
 (.seq (.z (.bU 3 0)
 (.cond (.tmp 4) (.z (.aL 2 0)
 .ret)
 .skip))
 (.z (.cE 5 0 0<|
 .k 8 .i 105 [(.t 7)]<|
 .m 2 8<|
 .nil)
 .ret)))
def sY(E:EB)(D:Ac)(W:AF)(a:V)(U:H):AE:=
 Zh .o a V.nilp λb=>
 AK b (
 rI (AA 0) U) (
 BL a λb c=>
 cI (D 105 [.o b c] U) λb c=>
 rI b c)
def F57(N:Nat)(args:List V)(U:H):AE:=
 Ab args λa b=>
 Ay b (
 sY E D W a U)
def A57:DD:=⟨9,[.any],[(.tmp 2)],ASN⟩
theorem AWc args U:BZ E D W N A57 args U=F57 E D W N args U:=by kernel_rfl
def ASM:XC:=(.z (.aS 2)
 (.seq (.z (.bU 3 0)
 (.cond (.tmp 4) (.z (.aS 2)
 .ret)
 .skip))
 (.z (.bT 5 0 0<|
 .O 9 .S (.append 5 1 1 (.T V.h) (.t 8))<|
 .m 2 9<|
 .nil)
 .ret)))
def sX(E:EB)(D:Ac)(W:AF)(a:V)(U:H):AE:=
 Zh .o a V.nilp λb=>
 AK b (
 some (V.h,U)) (
 BL a λb c=>
 DF E U b c λb=>
 Dx E 1 1 V.h b U λb c=>
 CI b (
 some (b,c)))
def F58(N:Nat)(args:List V)(U:H):AE:=
 Ab args λa b=>
 Ay b (
 sX E D W a U)
def A58:DD:=⟨10,[.any],[(.tmp 2)],ASM⟩
theorem AWb args U:BZ E D W N A58 args U=F58 E D W N args U:=by kernel_rfl
def ZM:List (Nat × Cc):=[(0,.N),(1,.i)]
def TT(E:EB):St->AE:=λs=>Dc E s [(.tmp 4)] λl=>some (Dq l,s.U)
def AMP(c0:XC):Nat->St->AE:=BR 0 (dX E D W N (.Q [(1,.i)] [] [] c0) (TT E) nX (TT E)) nX
def AUf(c0:XC)(a:St->AE):Nat->St->AE:=BR 3 (kX ZM [] [] a) (BR 2 (kX ZM [] [] a) (BR 1 (kX ZM [] [] a) (AMP E D W N c0)))
def ADV(b:XC)(a:XC):XC:=(.z (.aL 4 0)
 (.seq (.block 0 (.loop ZM [] [] a))
 (.Q [(1,.i)] [] [] b)))
def AMv(E:EB)(D:Ac)(W:AF)(K2:BS->Int->H->AE)(a:BS)(b:Int)(U:H):AE:=
 K2 a b U
def Ta:XC:=(.z (.m 74 1<|
 .aG 4 74)
 .ret)
def sV(E:EB)(D:Ac)(W:AF)(a:Int)(U:H):AE:=
 rI a U
def j6(a:XC):XC:=(.seq (.z (.cJ 5 1 0<|
 .aE 8 5 7)
 (.cond (.tmp 8) .skip
 LM))
 (.block 1 (.block 2 (.z (.bR 11 0 1<|
 .b 14 .eql .none (.t 13) (.T (V.int .u8 (AA 32)))<|
 .m 15 14<|
 .gO 15 false (.p 16 [0,15] JT<|
 .bQ 17 1 15 LU 16 15 16<|
 .p 19 [18,15] (.pp .eql .none (.t 18) (.T (V.int .u8 (AA 9))))<|
 .nil) 20 15 19<|
 .m 21 20<|
 .gO 21 false (.p 22 [0,21] JT<|
 .bQ 23 1 21 LU 22 21 22<|
 .p 25 [24,21] (.pp .eql .none (.t 24) (.T (V.int .u8 (AA 10))))<|
 .nil) 26 21 25<|
 .m 27 26<|
 .gO 27 false (.p 28 [0,27] JT<|
 .bQ 29 1 27 LU 28 27 28<|
 .p 31 [30,27] (.pp .eql .none (.t 30) (.T (V.int .u8 (AA 13))))<|
 .nil) 32 27 31<|
 .aG 10 32)
 (.cond (.tmp 10) (.Y (.m 33 1<|
 .aC 34 33 1 1))
 (.z (.bR 36 0 1<|
 .b 39 .eql .none (.t 38) xe<|
 .m 40 39<|
 .gA 40 true (.p 41 [0,40] JT<|
 .bP 42 1 40 LU 40 1 41 40 106 41<|
 .p 45 [44,40] (.pp .eql .none (.t 44) xe)<|
 .nil) 46 40 45<|
 .aG 35 46)
 (.cond (.tmp 35) (.z (.m 47 1<|
 .aC 48 47 2 1)
 (.block 3 (.loop ZM [] [] a)))
 (.z (.m 9 1<|
 .m 4 9<|
 .nil)
 .ret))))))))
def Qq(E:EB)(D:Ac)(W:AF)(K1:Int->H->AE)(m:BS->Int->H->AE)(l:BS->Int->H->AE)(a:BS)(b:Int)(U:H):AE:=
 AK (C5 b (AA (BS.len a))) (
 C8 a b λc=>
 Ax (λd e=>
 Ax (λf g=>
 Ax (λh i=>
 AK h (
 l a (BQ .i64 b (AA 1)) i) (
 C8 a b λh=>
 Ax (λj k=>
 AK j (
 m a (BQ .i64 b (AA 2)) k) (
 rI b k)) λj=>
 AK (B8 h (AA 45)) (
 CD (D 106 [.N a,.int .i64 (BQ .i64 b (AA 1))] i) λh k=>
 DZ .u8 h λh=>
 j (B8 h (AA 45)) k) (
 j false i))) λh=>
 AK f (
 h true g) (
 C8 a b λf=>
 h (B8 f (AA 13)) g)) λf=>
 AK d (
 f true e) (
 C8 a b λd=>
 f (B8 d (AA 10)) e)) λd=>
 AK (B8 c (AA 32)) (
 d true U) (
 C8 a b λc=>
 d (B8 c (AA 9)) U)) (
 K1 b U)
def TZ:XC:=(.seq (.z (.cJ 49 1 0<|
 .b 52 .lss .none (.t 49) (.t 51)<|
 .m 53 52<|
 .gA 53 true (.p 54 [0,53] JT<|
 .bQ 55 1 53 LU 54 53 54<|
 .p 57 [56,53] (.pp .neq .none (.t 56) (.T (V.int .u8 (AA 10))))<|
 .nil) 58 53 57<|
 .nil)
 (.cond (.tmp 58) .skip
 (.exit 3)))
 (.block 4 (.seq (.z (.bR 59 0 1<|
 .b 62 .eql .none (.t 61) xe<|
 .m 63 62<|
 .gA 63 true (.p 64 [0,63] JT<|
 .bP 65 1 63 LU 63 1 64 63 106 64<|
 .p 68 [67,63] (.pp .eql .none (.t 67) xe)<|
 .nil) 69 63 68<|
 .nil)
 (.cond (.tmp 69) (.z (.m 70 1<|
 .aC 71 70 2 1)
 (.exit 3))
 .skip))
 (.Y (.m 72 1<|
 .aC 73 72 1 1)))))
def KY(E:EB)(D:Ac)(W:AF)(g:BS->Int->H->AE)(h:BS->Int->H->AE)(a:BS)(b:Int)(U:H):AE:=
 Ax (λc d=>
 AK c (
 C8 a b λc=>
 Ax (λe f=>
 AK e (
 g a (BQ .i64 b (AA 2)) f) (
 h a (BQ .i64 b (AA 1)) f)) λe=>
 AK (B8 c (AA 45)) (
 CD (D 106 [.N a,.int .i64 (BQ .i64 b (AA 1))] d) λc f=>
 DZ .u8 c λc=>
 e (B8 c (AA 45)) f) (
 e false d)) (
 g a b d)) λc=>
 AK (C5 b (AA (BS.len a))) (
 C8 a b λd=>
 c (not (B8 d (AA 10))) U) (
 c false U)
def jL(a:BS)(b:Int)(U:H):St:=⟨[(0,.N a),(1,.int .i64 b)],[],[],U⟩
def vZ(E:EB)(D:Ac)(W:AF)(N:Nat):=sV E D W
def TK(E:EB)(D:Ac)(W:AF)(N:Nat)(b:BS->Int->H->AE)(n:Nat):BS->Int->H->AE:=
 Nat.rec (λ_ _ _=>none) (λ_ a=>KY E D W b a) n
theorem AHF e n:
 (λa b U=>BM (λi k=>Au E D W N TZ k (kX ZM [] [] i) (AUf E D W N Ta e) (TT E)) n (jL a b U))=TK E D W N (λa b U=>e (jL a b U)) n:=lp3 (λ_=>by generalize Ta=j;revert j;refine id ?_;intros;kernel_rfl) n
def Ou(n:Nat):BS->Int->H->AE:=
 Nat.rec (λ_ _ _=>none) (λ_ a=>Qq E D W (vZ E D W N ) (TK E D W N a N) a) n
theorem AHG n:
 (λa b U=>BM (λh j=>Au E D W N (j6 TZ) j (kX ZM [] [] h) (AMP E D W N Ta) (TT E)) n (jL a b U))=Ou E D W N n:=lp3 (λl=>by rw[<-AHF];generalize TZ=i;revert i;refine id ?_;intros;kernel_rfl) n
def vd:=AMv E D W (Ou E D W N N)
theorem AHl:
 (λa b U=>Au E D W N (ADV Ta (j6 TZ)) (jL a b U) (TT E) nX (TT E))=vd E D W N:=by
 unfold vd;rw[<-AHG];generalize j6 TZ=i,Ta=j;revert i j;refine id ?_;intros;kernel_rfl
def F59(args:List V)(U:H):AE:=
 uU args λa b=>
 vd E D W N a b U
def A59:DD:=⟨75,[.N,.i],[(.tmp 4)],(ADV Ta (j6 TZ))⟩
theorem AWa args U:BZ E D W N A59 args U=F59 E D W N args U:=by
 unfold F59;rw[<-AHl];kernel_rfl
def ALL:List (Nat × List Cc):=[(4,[.i,.N,.i]),(6,[.i,.N,.i])]
def ASK(b:XC)(a:XC):XC:=(.z (.ol 4 [] 87 [y0,y5,y0]<|
 .aL 5 0)
 (.z (.m 10 1<|
 .op (some 11) y7 [10] (.build [y0,y5,y0] [(2,1,(.t 10))])<|
 .ol 6 [] 87 [y0,y5,y0]<|
 .op none y7 [6,11] (.store 3 (.t 6) (.t 11))<|
 .nil)
 (.z (.bR 12 0 1<|
 .m 7 14<|
 .nil)
 (.z (.aX 8 Y5)
 (.seq (.block 0 (.z (.cG 32 7 .bool 107<|
 .bV 31)
 (.cond (.tmp 31) (.z (.bG 34 0 1 .i 108<|
 .aG 8 36)
 (.seq (.z (.aU 37 8 0<|
 .nil)
 (.cond (.tmp 38) (.z (.bI 39 y7 3 6 y7 4 3 4<|
 .aX 5 Y5)
 .ret)
 .skip))
 (.seq (.us (.bS 40 0 1 8<|
 .p 43 [40,41,42] (.sliceStr (.t 40) (some (.t 41)) (some (.t 42)))<|
 .aJ 44 0 6 1 2<|
 .bC 45 1 6 1 43) [0,0,0,7,0,16,63,127])
 (.seq (.z (.m 46 7<|
 .b 47 .leq .none (.t 46) (.T (V.int .u8 (AA 90)))<|
 .nil)
 (.cond (.tmp 47) (.Y (.aJ 48 0 6 1 1<|
 .nil))
 .skip))
 (.Q [(8,.i)] [4,6] ALL a)))))
 (.z (.cG 54 7 .bool 110<|
 .m 56 55<|
 .gO 56 false (.p 57 [7,56] (.L (.t 7))<|
 .p 58 [57,56] (.pp .eql .none (.t 57) xe)<|
 .p 59 [58,56] (.L (.t 58))<|
 .grp 59 true (.p 60 [0,59] JT<|
 .bP 61 1 59 LU 59 1 60 59 106 60<|
 .op (some 64) .bool [63,59] (.call 110 [(.t 63)])<|
 .nil) 65 [59,64,56] (.t 59) (.t 64) (.T y2)<|
 .nil) 66 56 65<|
 .aG 53 66)
 (.cond (.tmp 53) (.z (.bG 67 0 1 .i 111<|
 .aG 8 69)
 (.seq (.z (.aU 70 8 0<|
 .nil)
 (.cond (.tmp 71) (.z (.bI 72 y7 3 6 y7 4 3 4<|
 .aX 5 Y5)
 .ret)
 .skip))
 (.us (.bS 73 0 1 8<|
 .p 76 [73,74,75] (.sliceStr (.t 73) (some (.t 74)) (some (.t 75)))<|
 .aJ 77 0 6 1 3<|
 .bC 78 1 6 1 76) [0,0,0,7,0,16,63,127])))
 (.z (.m 80 7<|
 .b 81 .eql .none (.t 80) (.T (V.int .u8 (AA 39)))<|
 .bV 79)
 (.cond (.tmp 79) (.z (.aJ 82 0 6 1 4<|
 .nil)
 (.Y (.aB 84 0 1<|
 .k 86 (.B [.i,.N]) 112 [(.t 84),(.t 85)]<|
 .m 83 86<|
 .aM 87 0 83 1 83<|
 .m 8 87<|
 .bC 89 1 6 1 88)))
 (.z (.m 91 7<|
 .b 92 .eql .none (.t 91) (.T (V.int .u8 (AA 34)))<|
 .bV 90)
 (.cond (.tmp 90) (.z (.aJ 93 0 6 1 7<|
 .nil)
 (.Y (.aB 95 0 1<|
 .k 97 (.B [.i,.N]) 113 [(.t 95),(.t 96)]<|
 .m 94 97<|
 .aM 98 0 94 1 94<|
 .m 8 98<|
 .bC 100 1 6 1 99)))
 (.z (.bG 15 0 1 .i 114<|
 .m 9 17<|
 .nil)
 (.z (.m 18 9<|
 .bM 19 18 0)
 (.cond (.tmp 19) (.us (.aB 20 0 1<|
 .aB 22 1 9<|
 .b 24 .add .none (.t 22) (.t 23)<|
 .p 25 [20,21,24] (.sliceStr (.t 20) (some (.t 21)) (some (.t 24)))<|
 .aB 26 1 9<|
 .b 28 .add .none (.t 26) (.t 27)<|
 .aJ 29 0 6 1 6<|
 .f 30 1 6<|
 .w 1 30 25<|
 .aG 8 28) [0,0,0,0,12,31,0,0,192,0,512,1599,3647,8191])
 .skip))))))))))))
 (.Q [(8,.i)] [4,6] ALL b))))))
def M6(E:EB)(D:Ac)(W:AF)(K1:Int->Int->BS->Int->Int->BS->Int->H->AE)(K2:Int->Int->BS->Int->Int->BS->Int->H->AE)(a:BS)(b:Int)(U:H):AE:=
 C8 a b λc=>
 cB (D 107 [.int .u8 c] U) λd e=>
 AK d (
 cI (D 108 [.N a,.int .i64 b] e) λd f=>
 AK (C5 d (AA 0)) (
 some ((V.B [.agg [iN 0,sN 0 0,.int .i64 b],.int .i64 (A1 0)]),f)) (
 DQ a (some (V.int .i64 b)) (some (V.int .i64 d)) λg=>
 AK (HL c (AA 90)) (
 K2 d (AA 0) (BS.mk 0 0) (AA 0) (AA 1) g b f) (
 K2 d (AA 0) (BS.mk 0 0) (AA 0) (AA 2) g b f))) (
 cB (D 110 [.int .u8 c] e) λd e=>
 Ax (λf g=>
 AK f (
 cI (D 111 [.N a,.int .i64 b] g) λf h=>
 AK (C5 f (AA 0)) (
 some ((V.B [.agg [iN 0,sN 0 0,.int .i64 b],.int .i64 (A1 0)]),h)) (
 DQ a (some (V.int .i64 b)) (some (V.int .i64 f)) λi=>
 K1 f (AA 0) (BS.mk 0 0) (AA 0) (AA 3) i b h)) (
 AK (B8 c (AA 39)) (
 cT (D 112 [.N a,.int .i64 b] g) λf h=>
 uV f λf i=>
 K1 f (AA 0) (BS.mk 0 0) (AA 0) (AA 4) i b h) (
 AK (B8 c (AA 34)) (
 cT (D 113 [.N a,.int .i64 b] g) λf h=>
 uV f λf i=>
 K1 f (AA 0) (BS.mk 0 0) (AA 0) (AA 7) i b h) (
 cI (D 114 [.N a,.int .i64 b] g) λf g=>
 AK (C5 (AA 0) f) (
 DQ a (some (V.int .i64 b)) (some (V.int .i64 (BQ .i64 b f))) λh=>
 K1 (BQ .i64 b f) (AA 0) (BS.mk 0 0) (AA 0) (AA 6) h b g) (
 K1 (A1 0) (AA 0) (BS.mk 0 0) (AA 0) (AA 0) (BS.mk 0 0) b g))))) λf=>
 AK d (
 f true e) (
 Ax (λd g=>
 f d g) λd=>
 AK (B8 c (AA 45)) (
 CD (D 106 [.N a,.int .i64 (BQ .i64 b (AA 1))] e) λc f=>
 DZ .u8 c λc=>
 cB (D 110 [.int .u8 c] f) λc f=>
 d c f) (
 d false e)))
def ASJ:XC:=(.z (.O 101 y7 (.load (some 3) (.t 6))<|
 .m 102 8<|
 .op none y7 [4,101] (.store 3 (.t 4) (.t 101))<|
 .aG 5 102)
 .ret)
def Ok(E:EB)(D:Ac)(W:AF)(a b:Int)(c:BS)(d e:Int)(f:BS)(g:Int)(U:H):AE:=
 some ((V.B [.agg (eK e f g),.int .i64 a]),U)
def ASI:XC:=(.z (.aA 49 1 6 .N<|
 .k 51 .bool 109 [(.t 50)]<|
 .nil)
 (.cond (.tmp 51) (.Y (.aJ 52 0 6 1 5<|
 .nil))
 .skip))
def sU(E:EB)(D:Ac)(W:AF)(K1:Int->Int->BS->Int->Int->BS->Int->H->AE)(a b:Int)(c:BS)(d e:Int)(f:BS)(g:Int)(U:H):AE:=
 cB (D 109 [.N f] U) λh i=>
 AK h (
 K1 a b c d (AA 5) f g i) (
 K1 a b c d e f g i)
def vY(E:EB)(D:Ac)(W:AF)(N:Nat):=Ok E D W
def Yh:=sU E D W (vY E D W N )
def F60(args:List V)(U:H):AE:=
 uU args λa b=>
 M6 E D W (vY E D W N ) (Yh E D W N ) a b U
def A60:DD:=⟨103,[.N,.i],[(.cell 4 (some 3)),(.tmp 5)],(ASK ASJ ASI)⟩
theorem AWZ args U:BZ E D W N A60 args U=F60 E D W N args U:=by kernel_rfl
def ASH(a:XC):XC:=(.z (.ol 2 [] 87 [y0,y5,y0]<|
 .nil)
 (.seq (.us (.bT 4 0 0<|
 .aI 8 0<|
 .aA 10 1 9 .i<|
 .aN 12 3 7 11 y7 3<|
 .ol 3 [] 87 [y0,y5,y0]<|
 .op none y7 [3,13] (.store 3 (.t 3) (.t 13))<|
 .nil) [0,1,3,7,0,16,48,112,255,511,0,2047])
 (.seq (.seq (.us (.aI 14 0<|
 .aA 16 1 15 .i<|
 .b 18 .add .none (.t 17) (.i 1)<|
 .aI 19 0<|
 .aP 21 0 20<|
 .aE 24 18 23) [0,1,3,7,15,0,32,96,224,480,1023])
 (.cond (.tmp 24) (.Y (.aI 25 0<|
 .aA 27 1 26 .i<|
 .b 29 .add .none (.t 28) (.i 1)<|
 .n 30 25<|
 .bC 31 1 30 1 29))
 .skip))
 (.Q [] [2,3] [(2,[.i,.N,.i]),(3,[.i,.N,.i])] a))))
def sT(E:EB)(D:Ac)(W:AF)(K1:Int->BS->Int->Int->BS->Int->H->AE)(a b:Nat)(U:H):AE:=
 DF E U a b λc=>
 lI E U a (AM b 1) λd=>
 iX E U 3 c d λc=>
 uK c λc d e=>
 lI E U a (AM b 1) λf=>
 lL E U a b λg=>
 AK (C5 (BQ .i64 f (AA 1)) (AA g)) (
 lI E U a (AM b 1) λf=>
 DO 1 a (AM b 1) (V.int .i64 (BQ .i64 f (AA 1))) U λf=>
 K1 (AA 0) (BS.mk 0 0) (AA 0) c d e f) (
 K1 (AA 0) (BS.mk 0 0) (AA 0) c d e U)
def ASG:XC:=(.z (.bI 32 y7 3 3 y7 2 3 2<|
 .nil)
 .ret)
def sS(E:EB)(D:Ac)(W:AF)(a:Int)(b:BS)(c d:Int)(e:BS)(f:Int)(U:H):AE:=
 some ((V.agg (eK d e f)),U)
def APD(E:EB)(D:Ac)(W:AF)(N:Nat):=sS E D W
def F61(args:List V)(U:H):AE:=
 Ab args λa b=>
 BL a λa c=>
 Ay b (
 sT E D W (APD E D W N ) a c U)
def A61:DD:=⟨33,[.o],[(.cell 2 (some 3))],(ASH ASG)⟩
theorem AWY args U:BZ E D W N A61 args U=F61 E D W N args U:=by kernel_rfl
def ALK:List (Nat × Cc):=[(1,.o),(3,.any),(4,.i)]
def Yu(E:EB):St->AE:=λs=>Dc E s [(.tmp 2)] λl=>some (Dq l,s.U)
def AUe(c0:XC):Nat->St->AE:=BR 0 (dX E D W N (.Q [(1,.o)] [] [] c0) (Yu E) nX (Yu E)) nX
def ADU(b:XC)(a:XC):XC:=(.z (.P 1 (.box 87 (.t 0))<|
 .aX 2 y2)
 (.z (.p 5 [] (.buildSlice 9 10 [y5,y5,y5,y5,y5,y5,y5,y5,y5,y5] [(0,1,(.T (V.N ⟨1,91⟩))),(1,1,(.T (V.N ⟨7,22026814072246082⟩))),(2,1,(.T (V.N ⟨4,1280070990⟩))),(3,1,y35),(4,1,(.T (V.N ⟨7,23157120498421321⟩))),(5,1,(.T (V.N ⟨5,361940403023⟩))),(6,1,y36),(7,1,(.T (V.N ⟨3,5522771⟩))),(8,1,(.T (V.N ⟨6,76155295057987⟩))),(9,1,y45)])<|
 .bV 3)
 (.seq (.z (.aL 4 0)
 (.block 0 (.loop ALK [] [] a)))
 (.Q [(1,.o)] [] [] b))))
def iK(E:EB)(D:Ac)(W:AF)(K2:Nat->Nat->V->Int->H->AE)(a:Int)(b:BS)(c:Int)(U:H):AE:=
 Ht (eK a b c) U λd=>
 let e:=Cb d (.cells [sN 1 91,sN 7 22026814072246082,sN 4 1280070990,sN 10 488440487847103610377301,sN 7 23157120498421321,sN 5 361940403023,sN 10 322399817400452109389381,sN 3 5522771,sN 6 76155295057987,sN 8 4990918871747741011]);
 K2 (H.j U) 0 (V.D (H.j d) 0 10 (.ex 10)) (AA 0) e
def j5:XC:=(.z (.aA 29 0 1 .i<|
 .aD 31 30 1 2)
 .ret)
def YG(E:EB)(D:Ac)(W:AF)(a b:Nat)(U:H):AE:=
 lI E U a b λc=>
 rB (B8 c (AA 1)) U
def j4:XC:=(.seq (.z (.aB 6 4 3<|
 .u 8 7<|
 .aE 9 6 8)
 nW)
 (.seq (.block 1 (.seq (.us (.bL 12 3 4 1 .N<|
 .aA 16 1 1 .N<|
 .b 18 .eql .none (.t 15) (.t 17)<|
 .m 19 18<|
 .gA 19 true (.aH 20 1 19 0 1 19<|
 .bY 22 21 19 21 5 19<|
 .grp 23 false (.p 24 [1,23] (.C 0 (.t 1))<|
 .op (some 25) .i [24,23] (.load none (.t 24))<|
 .aT 26 25 23 25 6) 27 [23,26,19] (.t 23) We (.t 26)<|
 .nil) 28 19 27<|
 .nil) [0,0,3,7,0,16,63,127,255,511,1023,2047,4095,8191,16383,32767,65535])
 (.cond (.tmp 28) (.z (.cD 2)
 .ret)
 .skip)))
 y27))
def Qp(E:EB)(D:Ac)(W:AF)(K1:Nat->Nat->H->AE)(i:Nat->Nat->V->Int->H->AE)(a b:Nat)(c:V)(d:Int)(U:H):AE:=
 Ao c λe=>
 AK (C5 d (AA e)) (
 AS 1 c d λe f=>
 lS E U e f λe=>
 lS E U a (AM b 1) λf=>
 Ax (λg h=>
 AK g (
 rB true h) (
 i a b c (BQ .i64 d (AA 1)) h)) λg=>
 AK (BS.beq e f) (
 lI E U a b λe=>
 Ax (λf h=>
 g f h) λf=>
 AK (B8 e (AA 5)) (
 f true U) (
 lI E U a b λe=>
 f (B8 e (AA 6)) U)) (
 g false U)) (
 K1 a b U)
def AOJ(a:Int)(b:BS)(c:Int)(U:H):St:=⟨[(0,.agg [.int .i64 a,.N b,.int .i64 c])],[],[],U⟩
def AOI(a b:Nat)(c:V)(d:Int)(U:H):St:=⟨[(1,.o a b),(3,c),(4,.int .i64 d)],[],[],U⟩
def APC(E:EB)(D:Ac)(W:AF)(N:Nat):=YG E D W
def Ya(n:Nat):Nat->Nat->V->Int->H->AE:=
 Nat.rec (λ_ _ _ _ _=>none) (λ_ a=>Qp E D W (APC E D W N ) a) n
theorem AHE n:
 (λa b c d U=>BM (λf g=>Au E D W N j4 g (kX ALK [] [] f) (AUe E D W N j5) (Yu E)) n (AOI a b c d U))=Ya E D W N n:=O4 (λ_=>by kernel_rfl) n
def vX:=iK E D W (Ya E D W N N)
theorem AHk:
 (λa b c U=>Au E D W N (ADU j5 j4) (AOJ a b c U) (Yu E) nX (Yu E))=vX E D W N:=by
 unfold vX;rw[<-AHE];generalize j5=j,j4=k;revert j k;refine id ?_;intros;kernel_rfl
def F62(args:List V)(U:H):AE:=
 Ab args λa b=>
 Cp a λa=>
 uK a λa c d=>
 Ay b (
 vX E D W N a c d U)
def A62:DD:=⟨32,[y7],[(.tmp 2)],(ADU j5 j4)⟩
theorem AWX args U:BZ E D W N A62 args U=F62 E D W N args U:=by
 unfold F62;rw[<-AHk];kernel_rfl
def ASF:XC:=(.z (.aL 2 0)
 (.z (.m 4 0<|
 .k 5 .N 28 [(.t 4),(.i 3)]<|
 .bV 3)
 (.seq (.z (.m 6 3<|
 .b 7 .eql .none (.t 6) (.T y5)<|
 .nil)
 (.cond (.tmp 7) (.z (.aL 2 0)
 .ret)
 .skip))
 (.z (.cG 8 3 .i 115<|
 .m 2 9<|
 .nil)
 .ret))))
def sR(E:EB)(D:Ac)(W:AF)(a:V)(U:H):AE:=
 cS (D 28 [a,iN 3] U) λb c=>
 AK (BS.beq b (BS.mk 0 0)) (
 rI (AA 0) c) (
 cI (D 115 [.N b] c) λb c=>
 rI b c)
def F63(N:Nat)(args:List V)(U:H):AE:=
 Ab args λa b=>
 Ay b (
 sR E D W a U)
def A63:DD:=⟨10,[.any],[(.tmp 2)],ASF⟩
theorem AWW args U:BZ E D W N A63 args U=F63 E D W N args U:=by kernel_rfl
def ADA:List BO:=[⟨(some 139),.L (.tmp 1),none⟩,⟨(some 140),.L (.tmp 1),none⟩,⟨(some 141),.C 1 (.tmp 6),none⟩,⟨(some 142),.load none (.tmp 141),none⟩,⟨(some 143),.rg (.tmp 139),none⟩,⟨(some 144),.C 0 (.tmp 143),none⟩,⟨none,.store 1 (.tmp 144) (.T (V.int .i64 (AA 11))),none⟩,⟨(some 145),.rg (.tmp 140),none⟩,⟨(some 146),.C 1 (.tmp 145),none⟩,⟨none,.store 1 (.tmp 146) (.tmp 142),none⟩]
def AC4:List DP:=[⟨0,[1]⟩,⟨0,[1]⟩,⟨0,[6]⟩,⟨4,[141]⟩,⟨1,[139]⟩,⟨17,[143]⟩,⟨49,[144]⟩,⟨127,[140]⟩,⟨255,[145]⟩,⟨511,[146,142]⟩]
def ASE:XC:=(.z (.m 7 0<|
 .k 8 y7 31 [(.t 7)]<|
 .p 6 [] (.alloc 87 [y0,y5,y0])<|
 .op none y7 [6,8] (.store 3 (.t 6) (.t 8))<|
 .nil)
 (.block 0 (.z (.aI 13 0<|
 .aW 15 7 14 0<|
 .m 12 17<|
 .nil)
 (.cond (.tmp 12) .skip
 (.z (.aV 19 0 .bool 30 7 22026814072246082<|
 .bV 18)
 (.cond (.tmp 18) (.Y (.aI 21 1<|
 .aJ 23 0 22 1 1<|
 .nil))
 (.z (.m 25 0<|
 .k 26 .bool 30 [(.t 25),(.T (V.N ⟨4,1280070990⟩))]<|
 .bV 24)
 (.cond (.tmp 24) (.Y (.aI 27 1<|
 .aJ 29 0 28 1 4<|
 .nil))
 (.z (.m 31 0<|
 .k 32 .bool 30 [(.t 31),y35]<|
 .bV 30)
 (.cond (.tmp 30) (.z (.aI 33 1<|
 .aJ 35 0 34 1 6<|
 .nil)
 (.Y (.aB 36 1 0<|
 .k 38 y9 116 [(.t 37)]<|
 .n 39 36<|
 .cC 40 5 39 y9 38 6 38)))
 (.z (.aV 42 0 .bool 30 7 23157120498421321<|
 .bV 41)
 (.cond (.tmp 41) (.z (.aI 44 1<|
 .aJ 46 0 45 1 2<|
 .nil)
 (.z (.aV 47 0 .bool 30 1 40<|
 .nil)
 (.cond (.tmp 48) (.z (.aB 49 1 0<|
 .k 51 y9 117 [(.t 50)]<|
 .n 52 49<|
 .cC 53 5 52 y9 51 6 51)
 (.Y (.m 54 0<|
 .k 55 y8 29 [(.t 54),y40]<|
 .nil)))
 .skip)))
 (.z (.aV 57 0 .bool 30 5 361940403023<|
 .bV 56)
 (.cond (.tmp 56) (.z (.bB 59 0 y8 29 6 78401563153491)
 (.z (.aI 61 1<|
 .aJ 63 0 62 1 5<|
 .nil)
 (.Y (.aB 64 1 0<|
 .k 66 y9 116 [(.t 65)]<|
 .n 67 64<|
 .cC 68 5 67 y9 66 6 66))))
 (.z (.m 70 0<|
 .k 71 .bool 30 [(.t 70),y36]<|
 .bV 69)
 (.cond (.tmp 69) (.z (.aI 72 1<|
 .aJ 74 0 73 1 3<|
 .nil)
 (.z (.m 75 0<|
 .k 76 y8 29 [(.t 75),y39]<|
 .nil)
 (.z (.aB 77 0 1<|
 .bE 79 y8 118 77 78)
 (.Y (.bB 80 0 y8 29 1 125)))))
 (.z (.aV 83 0 .bool 30 3 5522771<|
 .bV 82)
 (.cond (.tmp 82) (.z (.aI 85 1<|
 .aJ 87 0 86 1 8<|
 .nil)
 (.z (.m 88 0<|
 .k 89 y8 29 [(.t 88),y39]<|
 .nil)
 (.Y (.bS 90 0 1 2<|
 .bD 93 y8 119 90 91 92))))
 (.z (.aV 95 0 .bool 30 6 76155295057987<|
 .bV 94)
 (.cond (.tmp 94) (.z (.aI 97 1<|
 .aJ 99 0 98 1 9<|
 .nil)
 (.z (.m 100 0<|
 .k 101 y8 29 [(.t 100),y39]<|
 .nil)
 (.Y (.bS 102 0 1 2<|
 .bD 105 y8 119 102 103 104))))
 (.z (.m 107 0<|
 .k 108 .bool 30 [(.t 107),y45]<|
 .bV 106)
 (.cond (.tmp 106) (.seq (.z (.m 109 0<|
 .k 110 .bool 30 [(.t 109),y39]<|
 .nil)
 (.cond (.tmp 110) (.z (.aI 111 1<|
 .aJ 113 0 112 1 7<|
 .nil)
 (.z (.bS 114 0 1 2<|
 .k 117 y8 119 [(.t 114),(.t 115),(.t 116)]<|
 .nil)
 .ret))
 .skip))
 (.z (.aI 118 1<|
 .aJ 120 0 119 1 10<|
 .nil)
 (.z (.aB 121 1 0<|
 .k 123 y9 116 [(.t 122)]<|
 .n 124 121<|
 .cC 125 5 124 y9 123 6 123)
 (.z (.bB 126 0 y8 29 2 17999)
 (.Y (.bS 128 1 0 2<|
 .b 131 .add .none (.t 130) (.i 1)<|
 .k 132 .i 33 [(.t 129),(.t 131)]<|
 .n 133 128<|
 .bC 134 15 133 1 132))))))
 (.z (.aA 136 0 6 .i<|
 .aD 138 137 1 135)
 (.cond (.tmp 135) (.seq (.Q [(0,.o),(1,.o),(6,.o)] [] [] (.wl ADA AC4 [(0,.o)]))
 (.Y (.m 147 0<|
 .k 148 y7 61 [(.t 147)]<|
 .nil)))
 (.Y (.aY 9 0 y7 3 6<|
 .k 11 y8 32 [(.t 9),(.i 7),(.t 10)]<|
 .nil))))))))))))))))))))))))))
def sQ(a b c d:Nat)(e:Int)(U:H):AE:=
 cA (D 31 [.o a b] U) λf g=>
 uK f λf h i=>
 let j:=Cb g (.cells [iN 0,.N ⟨0,0⟩,iN 0]);
 DO 3 (H.j g) 0 (V.agg (eK f h i)) j λf=>
 lI E f a (AM b 7) λh=>
 AK (not (B8 h (AA 0))) (
 r0 f) (
 cB (D 30 [.o a b,sN 7 22026814072246082] f) λf h=>
 AK f (
 DO 1 c d (iN 1) h λf=>
 r0 f) (
 cB (D 30 [.o a b,sN 4 1280070990] h) λf h=>
 AK f (
 DO 1 c d (iN 4) h λf=>
 r0 f) (
 cB (D 30 [.o a b,sN 10 488440487847103610377301] h) λf h=>
 AK f (
 DO 1 c d (iN 6) h λf=>
 cA (D 116 [.o a b] f) λf i=>
 uO f λf j k l m n=>
 DO 6 c (AM d 5) (V.agg (eO f j k l m n)) i λf=>
 r0 f) (
 cB (D 30 [.o a b,sN 7 23157120498421321] h) λf h=>
 AK f (
 DO 1 c d (iN 2) h λf=>
 cB (D 30 [.o a b,sN 1 40] f) λf i=>
 AK f (
 cA (D 117 [.o a b] i) λf j=>
 uO f λf k l m n o=>
 DO 6 c (AM d 5) (V.agg (eO f k l m n o)) j λf=>
 c0 (D 29 [.o a b,sN 1 41] f) λf=>
 r0 f) (
 r0 i)) (
 cB (D 30 [.o a b,sN 5 361940403023] h) λf h=>
 AK f (
 c0 (D 29 [.o a b,sN 6 78401563153491] h) λf=>
 DO 1 c d (iN 5) f λf=>
 cA (D 116 [.o a b] f) λf i=>
 uO f λf j k l m n=>
 DO 6 c (AM d 5) (V.agg (eO f j k l m n)) i λf=>
 r0 f) (
 cB (D 30 [.o a b,sN 10 322399817400452109389381] h) λf h=>
 AK f (
 DO 1 c d (iN 3) h λf=>
 c0 (D 29 [.o a b,sN 1 123] f) λf=>
 c0 (D 118 [.o a b,.o c d] f) λf=>
 c0 (D 29 [.o a b,sN 1 125] f) λf=>
 r0 f) (
 cB (D 30 [.o a b,sN 3 5522771] h) λf h=>
 AK f (
 DO 1 c d (iN 8) h λf=>
 c0 (D 29 [.o a b,sN 1 123] f) λf=>
 c0 (D 119 [.o a b,.o c d,.int .i64 e] f) λf=>
 r0 f) (
 cB (D 30 [.o a b,sN 6 76155295057987] h) λf h=>
 AK f (
 DO 1 c d (iN 9) h λf=>
 c0 (D 29 [.o a b,sN 1 123] f) λf=>
 c0 (D 119 [.o a b,.o c d,.int .i64 e] f) λf=>
 r0 f) (
 cB (D 30 [.o a b,sN 8 4990918871747741011] h) λf h=>
 AK f (
 cB (D 30 [.o a b,sN 1 123] h) λf i=>
 AK f (
 DO 1 c d (iN 7) i λf=>
 c0 (D 119 [.o a b,.o c d,.int .i64 e] f) λf=>
 r0 f) (
 DO 1 c d (iN 10) i λf=>
 cA (D 116 [.o a b] f) λf i=>
 uO f λf j k l m n=>
 DO 6 c (AM d 5) (V.agg (eO f j k l m n)) i λf=>
 c0 (D 29 [.o a b,sN 2 17999] f) λf=>
 cI (D 33 [.o a b,.int .i64 (BQ .i64 e (AA 1))] f) λf i=>
 DO 1 c (AM d 15) (V.int .i64 f) i λf=>
 r0 f)) (
 lI E h (H.j g) 0 λf=>
 AK (B8 f (AA 1)) (
 CM (W ADA AC4 [(0,.o a b),(1,.o c d),(6,.o (H.j g) 0)] h) λf i=>
 Bj f 0 λf=>
 BL f λf j=>
 cA (D 61 [.o f j] i) λf i=>
 uK f λf j k=>
 r0 i) (
 Bv E h (H.j g) 0 3 λf=>
 uK f λf g i=>
 c0 (D 32 [.o a b,iN 7,.agg (eK f g i)] h) λf=>
 r0 f)))))))))))
def F64(N:Nat)(args:List V)(U:H):AE:=
 uW args λa b c d e=>
 sQ E D W a b c d e U
def A64:DD:=⟨149,[.o,.o,.i],[],ASE⟩
theorem AWV args U:BZ E D W N A64 args U=F64 E D W N args U:=by kernel_rfl
def ALJ:List (Nat × Cc):=[(0,.any),(1,.N),(5,.i)]
def Yt(E:EB):St->AE:=λs=>Dc E s [(.tmp 4)] λl=>some (Dq l,s.U)
def AUd(c0:XC):Nat->St->AE:=BR 0 (dX E D W N (.Q [] [] [] c0) (Yt E) nX (Yt E)) nX
def ADT(b:XC)(a:XC):XC:=(.z (.aX 4 y2)
 (.seq (.z (.aL 5 0)
 (.block 0 (.loop ALJ [] [] a)))
 (.Q [] [] [] b)))
def AMu(E:EB)(D:Ac)(W:AF)(K2:V->BS->Int->H->AE)(a:V)(b:BS)(U:H):AE:=
 K2 a b (AA 0) U
def j3:XC:=(.z (.aX 4 y2)
 .ret)
def YF(E:EB)(D:Ac)(W:AF)(U:H):AE:=
 rB false U
def j1:XC:=(.seq (.z (.aB 6 5 0<|
 .u 8 7<|
 .aE 9 6 8)
 nW)
 (.seq (.block 1 (.z (.bL 12 0 5 1 .N<|
 .m 16 1<|
 .b 17 .eql .none (.t 15) (.t 16)<|
 .nil)
 y28))
 y26))
def Qo(E:EB)(D:Ac)(W:AF)(K1:H->AE)(f:V->BS->Int->H->AE)(a:V)(b:BS)(c:Int)(U:H):AE:=
 Ao a λd=>
 AK (C5 c (AA d)) (
 AS 1 a c λd e=>
 lS E U d e λd=>
 AK (BS.beq d b) (
 rB true U) (
 f a b (BQ .i64 c (AA 1)) U)) (
 K1 U)
def AOH(a:V)(b:BS)(U:H):St:=⟨[(0,a),(1,.N b)],[],[],U⟩
def AOG(a:V)(b:BS)(c:Int)(U:H):St:=⟨[(0,a),(1,.N b),(5,.int .i64 c)],[],[],U⟩
def APB(E:EB)(D:Ac)(W:AF)(N:Nat):=YF E D W
def jS(n:Nat):V->BS->Int->H->AE:=
 Nat.rec (λ_ _ _ _=>none) (λ_ a=>Qo E D W (APB E D W N ) a) n
theorem AHD n:
 (λa b c U=>BM (λe f=>Au E D W N j1 f (kX ALJ [] [] e) (AUd E D W N j3) (Yt E)) n (AOG a b c U))=jS E D W N n:=xi (λ_=>by kernel_rfl) n
def vW:=AMu E D W (jS E D W N N)
theorem AHj:
 (λa b U=>Au E D W N (ADT j3 j1) (AOH a b U) (Yt E) nX (Yt E))=vW E D W N:=by
 unfold vW;rw[<-AHD];generalize j3=i,j1=j;revert i j;refine id ?_;intros;kernel_rfl
def F65(args:List V)(U:H):AE:=
 uX args λa b=>
 vW E D W N a b U
def A65:DD:=⟨18,[.any,.N],[(.tmp 4)],(ADT j3 j1)⟩
theorem AWU args U:BZ E D W N A65 args U=F65 E D W N args U:=by
 unfold F65;rw[<-AHj];kernel_rfl
def kj:List (Nat × List Cc):=[(10,[.i,.N,.bool,.i,.i,.bool,.bool,.bool,.bool,.i,.i,.any,.any,.i,.bool,.i])]
def ALI:List (Nat × Cc):=[(2,.i),(3,.any),(4,.o),(12,.bool),(13,.i)]
def ALH:List (Nat × Cc):=[(2,.i),(3,.any),(4,.o),(12,.bool)]
def ALG:List (Nat × Cc):=[(2,.i),(3,.any),(4,.o)]
def Jw(E:EB):St->AE:=λs=>Dc E s [(.tmp 8),(.tmp 9)] λl=>some (Dq l,s.U)
def AUc(c0:XC):Nat->St->AE:=BR 0 (dX E D W N (.Q ALH [10] kj c0) (Jw E) nX (Jw E)) nX
def ADS(b:XC)(a:XC):XC:=(.z (.P 4 (.box 55 (.t 0))<|
 .c 8 V.h<|
 .aX 9 y2)
 (.seq (.z (.aU 16 1 0<|
 .m 18 17<|
 .gO 18 false (.p 19 [1,18] LU<|
 .aF 20 4 18 4 4 18 18<|
 .bO 23 19 22 18 19 22) 24 18 23<|
 .m 25 24<|
 .gO 25 false (.p 26 [2,25] (.L (.t 2))<|
 .bJ 27 26 25 26 16) 28 25 27<|
 .nil)
 (.cond (.tmp 28) (.z (.m 29 3<|
 .m 8 29<|
 .aX 9 y2)
 .ret)
 .skip))
 (.z (.bF 30 4 4 1<|
 .aN 33 16 31 32 y4 16<|
 .ol 10 [] 131 [y0,y5,y2,y0,y0,y2,y2,y2,y2,y0,y0,V.h,V.h,y0,y2,y0]<|
 .op none y4 [10,34] (.store 16 (.t 10) (.t 34))<|
 .nil)
 (.seq (.z (.aK 35 0 10 11<|
 .nil)
 (.cond (.tmp 37) (.z (.O 38 Y1 (.load (some 5) (.t 4))<|
 .aA 39 1 10 .N<|
 .k 41 .i 68 [(.t 38),(.t 40)]<|
 .aG 11 41)
 (.seq (.z (.aU 42 11 0<|
 .nil)
 (.cond (.tmp 43) (.z (.m 44 3<|
 .m 8 44<|
 .cD 9)
 .ret)
 .skip))
 (.seq (.z (.bG 45 3 11 .bool 5<|
 .bK 48 47)
 (.cond (.tmp 48) (.Y (.aB 49 3 11<|
 .aQ 51 50 3 1 y0 0 1 50 .S 3 1 8 49<|
 .aG 3 52))
 .skip))
 (.Q [(3,.any)] [] [] a))))
 .skip))
 (.Q ALG [10] kj b)))))
def S5(E:EB)(D:Ac)(W:AF)(K1:Int->V->Nat->Nat->Int->BS->Bool->Int->Int->Bool->Bool->Bool->Bool->Int->Int->V->V->Int->Bool->Int->H->AE)(K2:V->H->AE)(a:BS)(b:Int)(c d e:V)(f g:Int)(h:V)(U:H):AE:=
 Ht (eD a b c d e) U λi=>
 Ax (λj k=>
 Ax (λl m=>
 AK l (
 some ((V.B [h,.bool false]),m)) (
 jX E m (H.j U) 4 16 f λl=>
 uQ l λl n o p q r s t u v w x y z F G=>
 JI (BH (eQ l n o p q r s t u v w x y z F G)) (
 AK (B8 l (AA 11)) (
 Bv E m (H.j U) 0 5 λB=>
 uD B λB A C I J=>
 cI (D 68 [.agg (eD B A C I J),.N n] m) λB A=>
 AK (C5 B (AA 0)) (
 some ((V.B [h,.bool true]),A)) (
 cB (D 5 [h,.int .i64 B] A) λA C=>
 AK (not A) (
 let A:=Cb C (.cells [.int .i64 B]);
 Dx E 1 8 h (V.D (H.j C) 0 1 (.ex 1)) A λB A=>
 CI B (
 K2 B A)) (
 K2 h C))) (
 K1 g h (H.j U) 0 l n o p q r s t u v w x y z F G m)))) λl=>
 AK j (
 l true k) (
 l (C5 (AA 16) g) k)) λj=>
 AK (C5 f (AA 0)) (
 j true i) (
 lL E i (H.j U) 4 λk=>
 j (HL (AA k) f) i)
def TY(b:XC)(a:XC):XC:=(.z (.aX 12 y2)
 (.seq (.z (.aL 13 0)
 (.block 0 (.loop ALI [10] kj a)))
 (.Q ALH [10] kj b)))
def ACq(E:EB)(D:Ac)(W:AF)(n:Int->V->Nat->Nat->Bool->Int->Int->BS->Bool->Int->Int->Bool->Bool->Bool->Bool->Int->Int->V->V->Int->Bool->Int->H->AE)(a:Int)(b:V)(c d:Nat)(e:Int)(f:BS)(g:Bool)(h i:Int)(j k l m:Bool)(o p:Int)(q r:V)(s:Int)(t:Bool)(u:Int)(U:H):AE:=
 n a b c d false (AA 0) e f g h i j k l m o p q r s t u U
def j0:XC:=(.z (.m 53 3<|
 .m 8 53<|
 .aX 9 y2)
 .ret)
def ACp(E:EB)(D:Ac)(W:AF)(a:V)(U:H):AE:=
 some ((V.B [a,.bool false]),U)
def Lj(a:XC):XC:=(.seq (.z (.aK 79 0 10 10<|
 .nil)
 (.cond (.tmp 81) (.z (.aX 15 y2)
 (.z (.O 83 Y1 (.load (some 5) (.t 4))<|
 .aA 84 15 10 .i<|
 .m 86 2<|
 .b 87 .add .none (.t 86) (.i 1)<|
 .m 88 3<|
 .k 89 (.B [.any,.bool]) 66 [(.t 83),(.t 85),(.t 87),(.t 88)]<|
 .m 82 89<|
 .aM 90 0 82 1 82<|
 .m 3 90<|
 .aG 15 91)
 (.Y (.m 92 12<|
 .m 93 92<|
 .gO 93 false (.p 94 [15,93] (.L (.t 15))<|
 .nil) 95 93 94<|
 .aG 12 95))))
 .skip))
 (.Q [(3,.any),(12,.bool)] [] [] a))
def Oj(E:EB)(D:Ac)(W:AF)(K5:V->Bool->H->AE)(a:Int)(b:V)(c d:Nat)(e:Bool)(f:Int)(g:BS)(h:Bool)(i j:Int)(k l m o:Bool)(p q:Int)(r s:V)(t:Int)(u:Bool)(v:Int)(U:H):AE:=
 AK (B8 f (AA 10)) (
 Bv E U c d 5 λn=>
 uD n λn w x y z=>
 cT (D 66 [.agg (eD n w x y z),.int .i64 v,.int .i64 (BQ .i64 a (AA 1)),b] U) λn w=>
 uR n λn x=>
 Ax (λy z=>
 K5 n y z) λn=>
 AK e (
 n true w) (
 n x w)) (
 K5 b e U)
def Oy:XC:=(.seq (.z (.m 54 13<|
 .aP 55 12 10<|
 .aE 58 54 57)
 (.cond (.tmp 58) .skip
 LM))
 (.seq (.block 1 (.z (.aX 14 y2)
 (.seq (.us (.O 62 Y1 (.load (some 5) (.t 4))<|
 .bF 63 12 10 13<|
 .s 66 11 64 65<|
 .aA 67 1 66 .i<|
 .m 69 2<|
 .b 70 .add .none (.t 69) (.i 1)<|
 .m 71 3<|
 .k 72 (.B [.any,.bool]) 66 [(.t 62),(.t 68),(.t 70),(.t 71)]<|
 .m 61 72<|
 .aM 73 0 61 1 61<|
 .m 3 73<|
 .aG 14 74) [0,0,2,0,14,30,62,0,128,0,1023,2047,4095,4095,8191,32767])
 (.Y (.m 75 12<|
 .m 76 75<|
 .gO 76 false (.p 77 [14,76] (.L (.t 14))<|
 .nil) 78 76 77<|
 .aG 12 78)))))
 (.Y (.m 59 13<|
 .aC 60 59 1 13))))
def Lb(E:EB)(D:Ac)(W:AF)(G:Int->V->Nat->Nat->Bool->Int->BS->Bool->Int->Int->Bool->Bool->Bool->Bool->Int->Int->V->V->Int->Bool->Int->H->AE)(C:Int->V->Nat->Nat->Bool->Int->Int->BS->Bool->Int->Int->Bool->Bool->Bool->Bool->Int->Int->V->V->Int->Bool->Int->H->AE)(a:Int)(b:V)(c d:Nat)(e:Bool)(f g:Int)(h:BS)(i:Bool)(j k:Int)(l m o p:Bool)(q r:Int)(s t:V)(u:Int)(v:Bool)(w:Int)(U:H):AE:=
 Ao t λn=>
 AK (C5 f (AA n)) (
 Bv E U c d 5 λn=>
 uD n λn x y z B=>
 AS 11 t f λA F=>
 lI E U A (AM F 1) λA=>
 cT (D 66 [.agg (eD n x y z B),.int .i64 A,.int .i64 (BQ .i64 a (AA 1)),b] U) λn x=>
 uR n λn y=>
 Ax (λz B=>
 C a n c d z (BQ .i64 f (AA 1)) g h i j k l m o p q r s t u v w B) λn=>
 AK e (
 n true x) (
 n y x)) (
 G a b c d e g h i j k l m o p q r s t u v w U)
def Li:XC:=(.z (.aB 96 3 12<|
 .aB 8 96 97<|
 .nil)
 .ret)
def Oi(E:EB)(D:Ac)(W:AF)(a:V)(b:Bool)(U:H):AE:=
 some ((V.B [a,.bool b]),U)
def AOF(a:BS)(b:Int)(c d e:V)(f g:Int)(h:V)(U:H):St:=⟨[(0,.agg [.N a,.int .i64 b,c,d,e]),(1,.int .i64 f),(2,.int .i64 g),(3,h)],[],[],U⟩
def AOE(a:Int)(b:V)(c d:Nat)(e:Int)(f:BS)(g:Bool)(h i:Int)(j k l m:Bool)(o p:Int)(q r:V)(s:Int)(t:Bool)(u:Int)(U:H):St:=⟨[(2,.int .i64 a),(3,b),(4,.o c d)],[(10,(10,0))],[(10,[.int .i64 e,.N f,.bool g,.int .i64 h,.int .i64 i,.bool j,.bool k,.bool l,.bool m,.int .i64 o,.int .i64 p,q,r,.int .i64 s,.bool t,.int .i64 u])],U⟩
def AOD(a:V)(U:H):St:=⟨[(3,a)],[],[],U⟩
def AOC(a:Int)(b:V)(c d:Nat)(e:Bool)(f:Int)(g:BS)(h:Bool)(i j:Int)(k l m o:Bool)(p q:Int)(r s:V)(t:Int)(u:Bool)(v:Int)(U:H):St:=⟨[(2,.int .i64 a),(3,b),(4,.o c d),(12,.bool e)],[(10,(10,0))],[(10,[.int .i64 f,.N g,.bool h,.int .i64 i,.int .i64 j,.bool k,.bool l,.bool m,.bool o,.int .i64 p,.int .i64 q,r,s,.int .i64 t,.bool u,.int .i64 v])],U⟩
def AOB(a:Int)(b:V)(c d:Nat)(e:Bool)(f g:Int)(h:BS)(i:Bool)(j k:Int)(l m o p:Bool)(q r:Int)(s t:V)(u:Int)(v:Bool)(w:Int)(U:H):St:=⟨[(2,.int .i64 a),(3,b),(4,.o c d),(12,.bool e),(13,.int .i64 f)],[(10,(10,0))],[(10,[.int .i64 g,.N h,.bool i,.int .i64 j,.int .i64 k,.bool l,.bool m,.bool o,.bool p,.int .i64 q,.int .i64 r,s,t,.int .i64 u,.bool v,.int .i64 w])],U⟩
def APA(E:EB)(D:Ac)(W:AF)(N:Nat):=Oi E D W
def vS:=Oj E D W (APA E D W N )
theorem AHf:
 (λa b c d e f g h i j k l m o p q r s t u v U=>Au E D W N (Lj Li) (AOC a b c d e f g h i j k l m o p q r s t u v U) (Jw E) nX (Jw E))=vS E D W N:=by
 unfold vS;kernel_rfl
def YZ(n:Nat):Int->V->Nat->Nat->Bool->Int->Int->BS->Bool->Int->Int->Bool->Bool->Bool->Bool->Int->Int->V->V->Int->Bool->Int->H->AE:=
 Nat.rec (λ_ _ _ _ _ _ _ _ _ _ _ _ _ _ _ _ _ _ _ _ _ _ _=>none) (λ_ a=>Lb E D W (vS E D W N ) a) n
theorem AHC n:
 (λa b c d e f g h i j k l m o p q r s t u v w U=>BM (λC G=>Au E D W N Oy G (kX ALI [10] kj C) (AUc E D W N (Lj Li)) (Jw E)) n (AOB a b c d e f g h i j k l m o p q r s t u v w U))=YZ E D W N n:=AUH (λJ=>by rw[<-AHf];generalize Lj Li=F;revert F;refine id ?_;intros;kernel_rfl) n
def vU:=ACq E D W (YZ E D W N N)
theorem AHh:
 (λa b c d e f g h i j k l m o p q r s t u U=>Au E D W N (TY (Lj Li) Oy) (AOE a b c d e f g h i j k l m o p q r s t u U) (Jw E) nX (Jw E))=vU E D W N:=by
 unfold vU;rw[<-AHC];generalize Lj Li=B,Oy=A;revert B A;refine id ?_;intros;kernel_rfl
def vT(E:EB)(D:Ac)(W:AF)(N:Nat):=ACp E D W
theorem AHg:
 (λa U=>Au E D W N j0 (AOD a U) (dX E D W N (.Q ALG [10] kj (TY (Lj Li) Oy)) (Jw E) nX (Jw E)) nX (Jw E))=vT E D W N:=by
 unfold vT;generalize TY (Lj Li) Oy=h;revert h;refine id ?_;intros;kernel_rfl
def vV:=S5 E D W (vU E D W N ) (vT E D W N )
theorem AHi:
 (λa b c d e f g h U=>Au E D W N (ADS (TY (Lj Li) Oy) j0) (AOF a b c d e f g h U) (Jw E) nX (Jw E))=vV E D W N:=by
 unfold vV;rw[<-AHh,<-AHg];generalize TY (Lj Li) Oy=o,j0=p;revert o p;refine id ?_;intros;kernel_rfl
def F66(args:List V)(U:H):AE:=
 Ab args λa b=>
 Cp a λa=>
 uD a λa c d e f=>
 uY b λb g h=>
 vV E D W N a c d e f b g h U
def A66:DD:=⟨98,[Y1,.i,.i,.any],[(.tmp 8),(.tmp 9)],(ADS (TY (Lj Li) Oy) j0)⟩
theorem AWT args U:BZ E D W N A66 args U=F66 E D W N args U:=by
 unfold F66;rw[<-AHi];kernel_rfl
def ALF:List (Nat × Cc):=[(0,.any),(2,.i),(7,.any),(8,.any)]
def Ys(E:EB):St->AE:=λs=>Dc E s [(.tmp 6)] λl=>some (Dq l,s.U)
def AUb(c0:XC):Nat->St->AE:=BR 0 (dX E D W N (.Q [] [] [] c0) (Ys E) nX (Ys E)) nX
def ADR(b:XC)(a:XC):XC:=(.z (.aX 6 y2)
 (.z (.p 10 [] (.buildSlice 3 0 [] [])<|
 .m 7 10<|
 .nil)
 (.z (.bL 11 0 1 1 .any<|
 .O 15 .S (.append 3 1 8 (.T V.h) (.t 14))<|
 .m 8 15<|
 .nil)
 (.seq (.block 0 (.loop ALF [] [] a))
 (.Q [] [] [] b)))))
def iJ(E:EB)(D:Ac)(W:AF)(K2:V->Int->V->V->H->AE)(a:V)(b c:Int)(U:H):AE:=
 let d:=Cb U (.cells []);
 iY E d 1 a b λe=>
 Dx E 1 8 V.h e d λd e=>
 CI d (
 K2 a c (V.D (H.j U) 0 0 (.ex 0)) d e)
def jz:XC:=(.z (.aX 6 y2)
 .ret)
def iI(E:EB)(D:Ac)(W:AF)(U:H):AE:=
 rB false U
def jy:XC:=(.seq (.z (.bZ 16 8<|
 .bM 18 17 0)
 (.cond (.tmp 18) .skip
 LM))
 (.block 1 (.z (.m 19 8<|
 .P 20 (.qr 1 (.t 19) (.i 0))<|
 .l 21 .i 20<|
 .aG 9 21)
 (.z (.m 22 8<|
 .p 23 [22] (.sliceSl 1 (.t 22) (some (.i 1)) none none)<|
 .aG 8 23)
 (.seq (.z (.aB 24 9 2<|
 .b 26 .eql .none (.t 24) (.t 25)<|
 .nil)
 (.cond (.tmp 26) (.z (.cD 6)
 .ret)
 .skip))
 (.z (.bG 27 7 9 .bool 5<|
 .bK 30 29)
 (.cond (.tmp 30) (.z (.aB 31 7 9<|
 .aQ 33 32 3 1 y0 0 1 32 .S 3 1 8 31<|
 .aG 7 34)
 (.Y (.cA 35 8 0 9 1 .any<|
 .O 40 .S (.append 3 1 8 (.t 35) (.t 39))<|
 .aG 8 40)))
 .skip)))))))
def iH(E:EB)(D:Ac)(W:AF)(K1:H->AE)(j:V->Int->V->V->H->AE)(a:V)(b:Int)(c d:V)(U:H):AE:=
 Ao d λe=>
 AK (C5 (AA 0) (AA e)) (
 AS 1 d (AA 0) λe f=>
 lI E U e f λe=>
 gK (CT 1 d (some (iN 1)) none none) λf=>
 AK (B8 e b) (
 rB true U) (
 cB (D 5 [c,.int .i64 e] U) λg h=>
 AK (not g) (
 let g:=Cb h (.cells [.int .i64 e]);
 Dx E 1 8 c (V.D (H.j h) 0 1 (.ex 1)) g λg i=>
 CI g (
 iY E i 1 a e λe=>
 Dx E 1 8 f e i λe i=>
 CI e (
 j a b g e i))) (
 j a b c f h))) (
 K1 U)
def AOA(a:V)(b c:Int)(U:H):St:=⟨[(0,a),(1,.int .i64 b),(2,.int .i64 c)],[],[],U⟩
def AN9(a:V)(b:Int)(c d:V)(U:H):St:=⟨[(0,a),(2,.int .i64 b),(7,c),(8,d)],[],[],U⟩
def AO9(E:EB)(D:Ac)(W:AF)(N:Nat):=iI E D W
def ACz(n:Nat):V->Int->V->V->H->AE:=
 Nat.rec (λ_ _ _ _ _=>none) (λ_ a=>iH E D W (AO9 E D W N ) a) n
theorem AHB n:
 (λa b c d U=>BM (λf g=>Au E D W N jy g (kX ALF [] [] f) (AUb E D W N jz) (Ys E)) n (AN9 a b c d U))=ACz E D W N n:=O4 (λ_=>by kernel_rfl) n
def vR:=iJ E D W (ACz E D W N N)
theorem AHe:
 (λa b c U=>Au E D W N (ADR jz jy) (AOA a b c U) (Ys E) nX (Ys E))=vR E D W N:=by
 unfold vR;rw[<-AHB];generalize jz=j,jy=k;revert j k;refine id ?_;intros;kernel_rfl
def F67(args:List V)(U:H):AE:=
 uC args λa b c=>
 vR E D W N a b c U
def A67:DD:=⟨41,[.any,.i,.i],[(.tmp 6)],(ADR jz jy)⟩
theorem AWS args U:BZ E D W N A67 args U=F67 E D W N args U:=by
 unfold F67;rw[<-AHe];kernel_rfl
end
end Go.Proofs.YtpbligmafbkeaaaGreatDoor
namespace Go.Proofs.YtpbligmafbkeaaaGreatDoor
open Go Go.Og
noncomputable section
variable (E:EB) (D:Ac) (W:AF) (N:Nat)
def Kf:List BO:=[⟨(some 45),.L (.tmp 0),none⟩,⟨(some 46),.L (.tmp 0),none⟩,⟨(some 47),.rg (.tmp 46),none⟩,⟨(some 48),.C 5 (.tmp 47),none⟩,⟨(some 49),.load none (.tmp 48),none⟩,⟨(some 50),.load (some 13) (.tmp 8),none⟩,⟨(some 51),.buildSlice 113 1 [(V.int .i64 (AA 0)),V.h,(V.bool false),(V.bool false),(V.bool false),(V.bool false),(V.int .i64 (AA 0)),(V.int .i64 (AA 0)),V.h,V.h,(V.int .i64 (AA 0)),(V.bool false),(V.int .i64 (AA 0))] [(0,13,(.tmp 50))],none⟩,⟨(some 52),.append 113 13 128 (.tmp 49) (.tmp 51),none⟩,⟨(some 53),.rg (.tmp 45),none⟩,⟨(some 54),.C 5 (.tmp 53),none⟩,⟨none,.store 1 (.tmp 54) (.tmp 52),none⟩]
def JQ:List DP:=[⟨0,[0]⟩,⟨0,[0]⟩,⟨2,[46]⟩,⟨6,[47]⟩,⟨14,[48]⟩,⟨0,[8]⟩,⟨32,[50]⟩,⟨126,[49,51]⟩,⟨255,[45]⟩,⟨511,[53]⟩,⟨1023,[54,52]⟩]
def TN:List BO:=[⟨(some 97),.L (.tmp 0),none⟩,⟨(some 98),.rg (.tmp 97),none⟩,⟨(some 99),.C 5 (.tmp 98),none⟩,⟨(some 100),.load none (.tmp 99),none⟩,⟨(some 101),.L (.tmp 7),none⟩,⟨(some 102),.L (.tmp 0),none⟩,⟨(some 103),.load (some 16) (.tmp 4),none⟩,⟨(some 104),.call 123 [(.tmp 102),(.tmp 103)],none⟩,⟨(some 105),.qr 13 (.tmp 100) (.tmp 101),none⟩,⟨(some 106),.C 8 (.tmp 105),none⟩,⟨none,.store 1 (.tmp 106) (.tmp 104),none⟩]
def Ov:List DP:=[⟨0,[0]⟩,⟨1,[97]⟩,⟨3,[98]⟩,⟨7,[99]⟩,⟨0,[7]⟩,⟨0,[0]⟩,⟨0,[4]⟩,⟨96,[102,103]⟩,⟨255,[100,101]⟩,⟨511,[105]⟩,⟨1023,[106,104]⟩]
def ASD(a:XC):XC:=(.z (.P 4 (.box 131 (.t 1))<|
 .aL 6 0)
 (.seq (.z (.m 11 2<|
 .b 12 .gtr .none (.t 11) (.i 16)<|
 .m 13 12<|
 .gO 13 false (.bN 14 0 13 JT 13<|
 .aF 16 15 13 5 15 13 13<|
 .p 19 [18,13] (.pp .geq .none (.t 18) (.i 300))<|
 .nil) 20 13 19<|
 .nil)
 (.cond (.tmp 20) (.z (.m 21 0<|
 .k 22 y8 120 [(.t 21),(.i 5)]<|
 .nil)
 (.z (.aL 6 0)
 .ret))
 .skip))
 (.z (.aI 23 0<|
 .aP 25 5 24<|
 .aG 7 27)
 (.z (.aA 28 0 4 .i<|
 .f 30 5 4<|
 .O 31 y9 (.load (some 6) (.t 30))<|
 .aA 32 13 4 .i<|
 .aA 34 14 4 .bool<|
 .op (some 36) y1 [29,31,33,35] (.build [y0,V.h,y2,y2,y2,y2,y0,y0,V.h,V.h,y0,y2,y0] [(0,1,(.t 29)),(2,6,(.t 31)),(10,1,(.t 33)),(11,1,(.t 35))])<|
 .p 8 [] y16<|
 .op none y1 [8,36] (.store 13 (.t 8) (.t 36))<|
 .nil)
 (.seq (.z (.aW 37 0 4 9<|
 .nil)
 (.cond (.tmp 39) (.Y (.aA 40 0 4 .i<|
 .k 42 Il 121 [(.t 41)]<|
 .p 43 [42] (.buildSlice 182 1 [y0,y0] [(0,2,(.t 42))])<|
 .bC 44 1 8 1 43))
 .skip))
 (.Q [(0,.o),(2,.i),(4,.o),(7,.i),(8,.o)] [] [] a))))))
def YE(E:EB)(D:Ac)(W:AF)(K1:Nat->Nat->Int->Nat->Nat->Int->Nat->Nat->H->AE)(a b:Nat)(c:Int)(d:BS)(e:Bool)(f g:Int)(h i j k:Bool)(l m:Int)(o p:V)(q:Int)(r:Bool)(s t:Int)(U:H):AE:=
 Ht (eQ c d e f g h i j k l m o p q r s) U λn=>
 Ax (λu v=>
 AK u (
 c0 (D 120 [.o a b,iN 5] v) λu=>
 rI (AA 0) u) (
 lL E v a (AM b 5) λu=>
 lI E v (H.j U) 0 λw=>
 Bv E v (H.j U) 5 6 λx=>
 uO x λx y z A I G=>
 lI E v (H.j U) 13 λF=>
 lB E v (H.j U) 14 λC=>
 let B:=Cb v (.cells [iN 0,V.h,.bool false,.bool false,.bool false,.bool false,iN 0,iN 0,V.h,V.h,iN 0,.bool false,iN 0]);
 DO 13 (H.j v) 0 (V.agg [.int .i64 w,V.h,.bool x,.bool y,.bool z,.bool A,.int .i64 I,.int .i64 G,V.h,V.h,.int .i64 F,.bool C,iN 0]) B λw=>
 lI E w (H.j U) 0 λx=>
 AK (not (B8 x (AA 9))) (
 lI E w (H.j U) 0 λx=>
 cA (D 121 [.int .i64 x] w) λx y=>
 uE x λx z=>
 let A:=Cb y (.cells [.int .i64 x,.int .i64 z]);
 DO 1 (H.j v) 1 (V.D (H.j y) 0 1 (.ex 1)) A λx=>
 K1 a b t (H.j U) 0 (AA u) (H.j v) 0 x) (
 K1 a b t (H.j U) 0 (AA u) (H.j v) 0 w))) λu=>
 AK (C5 (AA 16) t) (
 u true n) (
 lL E n a (AM b 5) λv=>
 u (HL (AA 300) (AA v)) n)
def ASC(a:XC)(b:XC):XC:=(.seq (.Q [(0,.o),(2,.i),(4,.o),(7,.i),(8,.o)] [] [] (.wl Kf JQ [(0,.o),(2,.i),(4,.o),(7,.i)]))
 (.seq (.z (.aA 55 0 4 .i<|
 .nil)
 (.block 0 (.seq (.z (.aD 58 56 2 57)
 (.cond (.tmp 57) .skip
 (.z (.aD 59 56 5 57)
 (.cond (.tmp 57) .skip
 (.z (.aD 60 56 6 57)
 (.cond (.tmp 57) .skip
 (.Y (.aD 61 56 10 57))))))))
 (.Q [(0,.o),(2,.i),(4,.o),(7,.i),(56,.i),(57,.bool)] [] [] b))))
 (.Q [(7,.i)] [] [] a)))
def YD(E:EB)(D:Ac)(W:AF)(q:Nat->Nat->Int->Nat->Nat->Int->Int->Bool->H->AE)(a b:Nat)(c:Int)(d e:Nat)(f:Int)(g h:Nat)(U:H):AE:=
 CM (W Kf JQ [(0,.o a b),(2,.int .i64 c),(4,.o d e),(7,.int .i64 f),(8,.o g h)] U) λi j=>
 Bj i 0 λk=>
 BL k λk l=>
 Bj i 2 λm=>
 DZ .i64 m λm=>
 Bj i 4 λn=>
 BL n λn o=>
 Bj i 7 λi=>
 DZ .i64 i λi=>
 lI E j n o λp=>
 AK (B8 p (AA 2)) (
 q k l m n o i p (B8 p (AA 2)) j) (
 AK (B8 p (AA 5)) (
 q k l m n o i p (B8 p (AA 5)) j) (
 AK (B8 p (AA 6)) (
 q k l m n o i p (B8 p (AA 6)) j) (
 q k l m n o i p (B8 p (AA 10)) j)))
def ASB:XC:=(.z (.m 116 7<|
 .aG 6 116)
 .ret)
def Qn(E:EB)(D:Ac)(W:AF)(a:Int)(U:H):AE:=
 rI a U
def ASA(b:XC)(a:XC):XC:=(.cond (.tmp 57) (.z (.f 62 5 4<|
 .O 63 y9 (.load (some 6) (.t 62))<|
 .aW 64 0 4 2<|
 .k 67 .i 122 [(.t 63),(.t 66)]<|
 .aG 9 67)
 (.seq (.z (.bX 68 9 0)
 (.cond (.tmp 69) (.Y (.aB 70 0 9<|
 .bE 72 y8 120 70 71))
 .skip))
 (.Q [(0,.o),(2,.i),(4,.o),(7,.i)] [] [] b)))
 (.z (.aD 96 56 3 95)
 (.cond (.tmp 95) (.Q [(0,.o),(4,.o),(7,.i)] [] [] (.wl TN Ov [(7,.i)]))
 (.seq (.z (.aD 108 56 7 107)
 (.cond (.tmp 107) .skip
 (.z (.aD 109 56 8 107)
 (.cond (.tmp 107) .skip
 (.Y (.aD 110 56 9 107))))))
 (.Q [(0,.o),(2,.i),(4,.o),(7,.i),(107,.bool)] [] [] a)))))
def YC(K2:Int->H->AE)(p:Nat->Nat->Int->Nat->Nat->Int->H->AE)(K5:Nat->Nat->Int->Nat->Nat->Int->Bool->H->AE)(a b:Nat)(c:Int)(d e:Nat)(f g:Int)(h:Bool)(U:H):AE:=
 AK h (
 Bv E U d (AM e 5) 6 λi=>
 uO i λi j k l m n=>
 lI E U d e λo=>
 cI (D 122 [.agg (eO i j k l m n),.bool (not (B8 o (AA 2)))] U) λi j=>
 AK (not (B8 i (AA 0))) (
 c0 (D 120 [.o a b,.int .i64 i] j) λi=>
 p a b c d e f i) (
 p a b c d e f j)) (
 AK (B8 g (AA 3)) (
 CM (W TN Ov [(0,.o a b),(4,.o d e),(7,.int .i64 f)] U) λi j=>
 Bj i 7 λi=>
 DZ .i64 i λi=>
 K2 i j) (
 AK (B8 g (AA 7)) (
 K5 a b c d e f (B8 g (AA 7)) U) (
 AK (B8 g (AA 8)) (
 K5 a b c d e f (B8 g (AA 8)) U) (
 K5 a b c d e f (B8 g (AA 9)) U))))
def AR9:XC:=(.z (.aK 73 0 4 10<|
 .nil)
 (.cond (.tmp 75) (.z (.m 76 0<|
 .aA 77 15 4 .i<|
 .m 79 2<|
 .b 80 .add .none (.t 79) (.i 1)<|
 .k 81 .i 35 [(.t 76),(.t 78),(.t 80)]<|
 .aG 10 81)
 (.z (.aI 82 0<|
 .aK 84 6 83 0<|
 .nil)
 (.cond (.tmp 86) (.Y (.bT 87 0 5<|
 .aB 91 7 10<|
 .s 93 13 90 91<|
 .bC 94 12 93 1 92))
 .skip)))
 .skip))
def ACo(E:EB)(D:Ac)(W:AF)(K2:Int->H->AE)(a b:Nat)(c:Int)(d e:Nat)(f:Int)(U:H):AE:=
 lI E U d e λg=>
 AK (B8 g (AA 10)) (
 lI E U d (AM e 15) λg=>
 cI (D 35 [.o a b,.int .i64 g,.int .i64 (BQ .i64 c (AA 1))] U) λg h=>
 lI E h a (AM b 6) λi=>
 AK (B8 i (AA 0)) (
 DF E h a (AM b 5) λi=>
 AS 13 i f λi j=>
 DO 1 i (AM j 12) (V.int .i64 g) h λg=>
 K2 f g) (
 K2 f h)) (
 K2 f U)
def AR8:XC:=(.cond (.tmp 107) (.Y (.aB 111 0 7<|
 .O 113 y4 (.load (some 16) (.t 4))<|
 .m 114 2<|
 .k 115 y8 124 [(.t 111),(.t 112),(.t 113),(.t 114)]<|
 .nil))
 .skip)
def iG(E:EB)(D:Ac)(W:AF)(K2:Int->H->AE)(a b:Nat)(c:Int)(d e:Nat)(f:Int)(g:Bool)(U:H):AE:=
 AK g (
 Bv E U d e 16 λh=>
 uQ h λh i j k l m n o p q r s t u v w=>
 c0 (D 124 [.o a b,.int .i64 f,.agg (eQ h i j k l m n o p q r s t u v w),.int .i64 c] U) λh=>
 K2 f h) (
 K2 f U)
def vQ(E:EB)(D:Ac)(W:AF)(N:Nat):=Qn E D W
def AO6:=ACo E D W (vQ E D W N )
def AO5:=iG E D W (vQ E D W N )
def AO7:=YC E D W (vQ E D W N ) (AO6 E D W N ) (AO5 E D W N )
def AO8:=YD E D W (AO7 E D W N )
def F69(args:List V)(U:H):AE:=
 Ab args λa b=>
 BL a λa c=>
 Ab b λb d=>
 Cp b λb=>
 uQ b λb e f g h i j k l m n o p q r s=>
 D3 .i64 d λd t=>
 Ay t (
 YE E D W (AO8 E D W N ) a c b e f g h i j k l m n o p q r s d U)
def A69:DD:=⟨117,[.o,y4,.i],[(.tmp 6)],(ASD (ASC ASB (ASA AR9 AR8)))⟩
theorem AWR args U:BZ E D W N A69 args U=F69 E D W N args U:=by kernel_rfl
def AR7:XC:=(.z (.aL 4 0)
 (.seq (.z (.aI 5 0<|
 .bF 7 5 6 1<|
 .s 10 13 8 9<|
 .aP 11 1 10<|
 .bM 14 13 0)
 (.cond (.tmp 14) (.z (.aL 4 1)
 .ret)
 .skip))
 (.z (.aL 4 0)
 .ret)))
def sO(E:EB)(D:Ac)(W:AF)(a b:Nat)(c:Int)(U:H):AE:=
 DF E U a (AM b 5) λd=>
 AS 13 d c λd e=>
 lL E U d (AM e 1) λd=>
 AK (C5 (AA 0) (AA d)) (
 rI (AA 1) U) (
 rI (AA 0) U)
def F70(N:Nat)(args:List V)(U:H):AE:=
 uL args λa b c=>
 sO E D W a b c U
def A70:DD:=⟨15,[.o,.i],[(.tmp 4)],AR7⟩
theorem AWQ args U:BZ E D W N A70 args U=F70 E D W N args U:=by kernel_rfl
def AR6:XC:=(.seq (.z (.aI 10 0<|
 .aW 12 6 11 0<|
 .nil)
 (.cond (.tmp 14) .ret
 .skip))
 (.z (.aI 16 0<|
 .bF 18 5 17 1<|
 .s 21 13 19 20<|
 .aA 22 1 21 .any<|
 .aB 24 2 3<|
 .k 26 (.B [.any,.i]) 125 [(.t 23),(.t 24),(.t 25)]<|
 .m 15 26<|
 .aM 27 0 15 1 15<|
 .aB 8 27 28<|
 .nil)
 (.seq (.z (.bX 29 9 0)
 (.cond (.tmp 30) (.z (.aB 31 0 9<|
 .bE 33 y8 120 31 32)
 .ret)
 .skip))
 (.Y (.bT 34 0 5<|
 .aB 38 1 8<|
 .s 40 13 37 38<|
 .bC 41 1 40 1 39)))))
def sM(E:EB)(D:Ac)(W:AF)(a b:Nat)(c d e:Int)(U:H):AE:=
 lI E U a (AM b 6) λf=>
 AK (not (B8 f (AA 0))) (
 r0 U) (
 DF E U a (AM b 5) λf=>
 AS 13 f c λf g=>
 DF E U f (AM g 1) λf=>
 cT (D 125 (eC f d e) U) λf g=>
 uB f λf h=>
 AK (not (B8 h (AA 0))) (
 c0 (D 120 [.o a b,.int .i64 h] g) λh=>
 r0 h) (
 DF E g a (AM b 5) λh=>
 AS 13 h c λh i=>
 DO 1 h (AM i 1) f g λf=>
 r0 f))
def F71(N:Nat)(args:List V)(U:H):AE:=
 uZ args λa b c d e=>
 sM E D W a b c d e U
def A71:DD:=⟨42,[.o,.i,.i,.i],[],AR6⟩
theorem AWP args U:BZ E D W N A71 args U=F71 E D W N args U:=by kernel_rfl
def ALE:List (Nat × Cc):=[(0,.o),(1,(.int .u32)),(6,.i)]
def jg(E:EB):St->AE:=λs=>Dc E s [] λl=>some (Dq l,s.U)
def ADQ(a:XC):XC:=(.z (.cH 7 2 32 0<|
 .m 2 9<|
 .nil)
 (.z (.cB 10 2 1<|
 .m 6 11<|
 .nil)
 (.block 0 (.loop ALE [] [] a))))
def sL(E:EB)(D:Ac)(W:AF)(K1:Nat->Nat->Int->Int->H->AE)(a b:Nat)(c d:Int)(U:H):AE:=
 K1 a b c (Dj .i64 (Gr (AA 0) (G8 d (AA 32))) (AA 1)) U
def jx:XC:=(.seq (.z (.m 12 6<|
 .b 13 .geq .none (.t 12) (.i 0)<|
 .nil)
 y41)
 (.seq (.block 1 (.Y (.aB 16 0 0<|
 .n 18 17<|
 .aA 19 0 18 .any<|
 .aB 21 1 6<|
 .P 23 (.i7 (.jp .u64) (.t 22))<|
 .b 24 .shr .none (.t 21) (.t 23)<|
 .b 25 .and .none (.t 24) (.T (V.int .u32 (AA 1)))<|
 .P 26 (.i7 (.jp .u8) (.t 25))<|
 .aQ 27 26 5 1 y34 0 1 26 .S 5 1 1 20<|
 .n 29 16<|
 .bC 30 0 29 1 28)))
 (.Y (.cB 14 6 1<|
 .m 6 15<|
 .nil))))
def sK(E:EB)(D:Ac)(W:AF)(h:Nat->Nat->Int->Int->H->AE)(a b:Nat)(c d:Int)(U:H):AE:=
 AK (HL (AA 0) d) (
 DF E U a b λe=>
 T7 (An .u64 d) λf=>
 let g:=Cb U (.cells [.int .u8 (An .u8 (MD .u32 (J0 .u32 c f) (AA 1)))]);
 Dx E 1 1 e (V.D (H.j U) 0 1 (.ex 1)) g λe f=>
 CI e (
 DO 1 a b e f λe=>
 h a b c (Dj .i64 d (AA 1)) e)) (
 r0 U)
def AN8(a b:Nat)(c d:Int)(U:H):St:=⟨[(0,.o a b),(1,.int .u32 c),(2,.int .i64 d)],[],[],U⟩
def AN7(a b:Nat)(c d:Int)(U:H):St:=⟨[(0,.o a b),(1,.int .u32 c),(6,.int .i64 d)],[],[],U⟩
def jR(E:EB)(D:Ac)(W:AF)(N:Nat)(n:Nat):Nat->Nat->Int->Int->H->AE:=
 Nat.rec (λ_ _ _ _ _=>none) (λ_ a=>sK E D W a) n
theorem AHA n:
 (λa b c d U=>BM (λf g=>Au E D W N jx g (kX ALE [] [] f) (BR 0 (jg E) nX) (jg E)) n (AN7 a b c d U))=jR E D W N n:=O4 (λ_=>by kernel_rfl) n
def vP:=sL E D W (jR E D W N N)
theorem AHd:
 (λa b c d U=>Au E D W N (ADQ jx) (AN8 a b c d U) (jg E) nX (jg E))=vP E D W N:=by
 unfold vP;rw[<-AHA];generalize jx=k;revert k;refine id ?_;intros;kernel_rfl
def F72(args:List V)(U:H):AE:=
 uAA args λa b c d=>
 vP E D W N a b c d U
def A72:DD:=⟨31,[.o,(.int .u32),.i],[],(ADQ jx)⟩
theorem AWO args U:BZ E D W N A72 args U=F72 E D W N args U:=by
 unfold F72;rw[<-AHd];kernel_rfl
def AR5:XC:=(.z (.P 2 (.box 49 (.t 0))<|
 .aX 4 y2)
 (.z (.m 5 1<|
 .b 6 .and .none (.t 5) (.i 1)<|
 .b 7 .neq .none (.t 6) (.i 0)<|
 .m 8 7<|
 .gO 8 false (.aH 9 2 8 1 2 8<|
 .aT 11 10 8 10 0) 12 8 11<|
 .m 13 12<|
 .gA 13 true (.p 14 [1,13] LU<|
 .p 15 [14,13] (.pp .and .none (.t 14) (.i 2))<|
 .p 16 [15,13] (.pp .neq .none (.t 15) (.i 0))<|
 .p 17 [16,13] (.L (.t 16))<|
 .grp 17 false (.p 18 [2,17] (.C 2 (.t 2))<|
 .p 19 [18,17] (.load none (.t 18))<|
 .p 20 [19,17] (.len false (.t 19))<|
 .aT 21 20 17 20 0) 22 [17,21,13] (.t 17) We (.t 21)<|
 .nil) 23 13 22<|
 .m 24 23<|
 .gA 24 true (.p 25 [1,24] LU<|
 .p 26 [25,24] (.pp .and .none (.t 25) (.i 4))<|
 .p 27 [26,24] (.pp .neq .none (.t 26) (.i 0))<|
 .p 28 [27,24] (.L (.t 27))<|
 .grp 28 false (.p 29 [2,28] (.C 3 (.t 2))<|
 .p 30 [29,28] (.load none (.t 29))<|
 .p 31 [30,28] (.len false (.t 30))<|
 .aT 32 31 28 31 0) 33 [28,32,24] (.t 28) We (.t 32)<|
 .nil) 34 24 33<|
 .m 35 34<|
 .gA 35 true (.p 36 [1,35] LU<|
 .p 37 [36,35] (.pp .and .none (.t 36) (.i 8))<|
 .p 38 [37,35] (.pp .neq .none (.t 37) (.i 0))<|
 .p 39 [38,35] (.L (.t 38))<|
 .grp 39 false (.p 40 [2,39] (.C 4 (.t 2))<|
 .op (some 41) .i [40,39] (.load none (.t 40))<|
 .bY 42 41 39 41 0 39<|
 .grp 43 true (.p 44 [2,43] (.C 5 (.t 2))<|
 .p 45 [44,43] (.load none (.t 44))<|
 .p 46 [45,43] (.len false (.t 45))<|
 .aT 47 46 43 46 0) 48 [43,47,39] (.t 43) (.t 47) (.T y2)<|
 .nil) 49 [39,48,35] (.t 39) We (.t 48)<|
 .nil) 50 35 49<|
 .aG 4 50)
 .ret))
def sJ(E:EB)(D:Ac)(W:AF)(a b:Int)(c d:V)(e:Int)(f:V)(g:Int)(U:H):AE:=
 Ht (eI a b c d e f) U λh=>
 Ax (λi j=>
 Ax (λk l=>
 Ax (λm n=>
 Ax (λo p=>
 rB o p) λo=>
 AK m (
 Ax (λm p=>
 o m p) λm=>
 AK (not (B8 (MD .i64 g (AA 8)) (AA 0))) (
 m true n) (
 lI E n (H.j U) 4 λp=>
 Ax (λq r=>
 m q r) λm=>
 AK (B8 p (AA 0)) (
 lL E n (H.j U) 5 λp=>
 m (B8 (AA p) (AA 0)) n) (
 m false n))) (
 o false n)) λm=>
 AK k (
 Ax (λk n=>
 m k n) λk=>
 AK (not (B8 (MD .i64 g (AA 4)) (AA 0))) (
 k true l) (
 lL E l (H.j U) 3 λn=>
 k (B8 (AA n) (AA 0)) l)) (
 m false l)) λk=>
 AK i (
 Ax (λi l=>
 k i l) λi=>
 AK (not (B8 (MD .i64 g (AA 2)) (AA 0))) (
 i true j) (
 lL E j (H.j U) 2 λl=>
 i (B8 (AA l) (AA 0)) j)) (
 k false j)) λi=>
 AK (not (B8 (MD .i64 g (AA 1)) (AA 0))) (
 i true h) (
 lI E h (H.j U) 1 λj=>
 i (B8 j (AA 0)) h)
def F74(N:Nat)(args:List V)(U:H):AE:=
 Ab args λa b=>
 Cp a λa=>
 uI a λa c d e f g=>
 D3 .i64 b λb h=>
 Ay h (
 sJ E D W a c d e f g b U)
def A74:DD:=⟨51,[y3,.i],[(.tmp 4)],AR5⟩
theorem AWN args U:BZ E D W N A74 args U=F74 E D W N args U:=by kernel_rfl
def AR4:XC:=(.z (.P 2 (.box 113 (.t 0))<|
 .P 3 (.box 2 (.t 1))<|
 .aL 4 0)
 (.z (.f 5 8 2<|
 .l 6 .any 5<|
 .p 7 [3] (.mkfn 129 [] [(.t 3)])<|
 .k 8 .i 128 [(.t 6),(.t 7)]<|
 .m 4 8<|
 .nil)
 .ret))
def sI(E:EB)(D:Ac)(W:AF)(a:Int)(b:V)(c d e f:Bool)(g h:Int)(i j:V)(k:Int)(l:Bool)(m o:Int)(U:H):AE:=
 Ht (eN a b c d e f g h i j k l m) U λn=>
 Ht (V.cells (V.int .i64 o)) n λp=>
 DF E p (H.j U) 8 λq=>
 cI (D 128 [q,.fn 129 [] [.o (H.j n) 0]] p) λn p=>
 rI n p
def F76(N:Nat)(args:List V)(U:H):AE:=
 Ab args λa b=>
 Cp a λa=>
 uN a λa c d e f g h i j k l m n=>
 D3 .i64 b λb o=>
 Ay o (
 sI E D W a c d e f g h i j k l m n b U)
def A76:DD:=⟨9,[y1,.i],[(.tmp 4)],AR4⟩
theorem AWM args U:BZ E D W N A76 args U=F76 E D W N args U:=by kernel_rfl
def ALD:List (Nat × Cc):=[(0,.any),(1,.any),(7,.i),(8,.i)]
def Yr(E:EB):St->AE:=λs=>Dc E s [(.tmp 4)] λl=>some (Dq l,s.U)
def AUa(c0:XC):Nat->St->AE:=BR 0 (dX E D W N (.Q [] [] [] c0) (Yr E) nX (Yr E)) nX
def ADP(b:XC)(a:XC):XC:=(.z (.aL 4 0)
 (.seq (.z (.bZ 6 0<|
 .aL 8 0)
 (.block 0 (.loop ALD [] [] a)))
 (.Q [] [] [] b)))
def sH(E:EB)(D:Ac)(W:AF)(K2:V->V->Int->Int->H->AE)(a b:V)(U:H):AE:=
 Ao a λc=>
 K2 a b (AA c) (AA 0) U
def jw:XC:=(.z (.aX 4 Y5)
 .ret)
def AMt(E:EB)(D:Ac)(W:AF)(U:H):AE:=
 rI (A1 0) U
def jv:XC:=(.z (.aE 9 8 7)
 (.seq nW
 (.seq (.block 1 (.z (.m 10 8<|
 .m 5 10<|
 .nil)
 (.z (.bS 11 1 0 5<|
 .aN 14 13 12 13 y1 13<|
 .O 16 .bool (.callv (.t 11) [(.t 15)])<|
 .nil)
 y23)))
 y25)))
def YB(E:EB)(D:Ac)(W:AF)(K1:H->AE)(r:V->V->Int->Int->H->AE)(a b:V)(c d:Int)(U:H):AE:=
 AK (C5 d c) (
 iX E U 13 a d λe=>
 uN e λe f g h i j k l m n o p q=>
 GA D b [.agg (eN e f g h i j k l m n o p q)] U λe f=>
 DB e λe=>
 AK e (
 rI d f) (
 r a b c (BQ .i64 d (AA 1)) f)) (
 K1 U)
def AN6(a b:V)(U:H):St:=⟨[(0,a),(1,b)],[],[],U⟩
def AN5(a b:V)(c d:Int)(U:H):St:=⟨[(0,a),(1,b),(7,.int .i64 c),(8,.int .i64 d)],[],[],U⟩
def AO4(E:EB)(D:Ac)(W:AF)(N:Nat):=AMt E D W
def ug(n:Nat):V->V->Int->Int->H->AE:=
 Nat.rec (λ_ _ _ _ _=>none) (λ_ a=>YB E D W (AO4 E D W N ) a) n
theorem AG9 n:
 (λa b c d U=>BM (λf g=>Au E D W N jv g (kX ALD [] [] f) (AUa E D W N jw) (Yr E)) n (AN5 a b c d U))=ug E D W N n:=O4 (λ_=>by kernel_rfl) n
def vO:=sH E D W (ug E D W N N)
theorem AHc:
 (λa b U=>Au E D W N (ADP jw jv) (AN6 a b U) (Yr E) nX (Yr E))=vO E D W N:=by
 unfold vO;rw[<-AG9];generalize jw=i,jv=j;revert i j;refine id ?_;intros;kernel_rfl
def F80(args:List V)(U:H):AE:=
 uH args λa b=>
 vO E D W N a b U
def A80:DD:=⟨19,nU,[(.tmp 4)],(ADP jw jv)⟩
theorem AWL args U:BZ E D W N A80 args U=F80 E D W N args U:=by
 unfold F80;rw[<-AHc];kernel_rfl
def ALC:List (Nat × Cc):=[(0,.any),(1,.any),(7,.i),(8,.i)]
def Yq(E:EB):St->AE:=λs=>Dc E s [(.tmp 4)] λl=>some (Dq l,s.U)
def AUZ(c0:XC):Nat->St->AE:=BR 0 (dX E D W N (.Q [] [] [] c0) (Yq E) nX (Yq E)) nX
def ADO(b:XC)(a:XC):XC:=(.z (.aL 4 0)
 (.seq (.z (.bZ 6 0<|
 .aL 8 0)
 (.block 0 (.loop ALC [] [] a)))
 (.Q [] [] [] b)))
def sG(E:EB)(D:Ac)(W:AF)(K2:V->V->Int->Int->H->AE)(a b:V)(U:H):AE:=
 Ao a λc=>
 K2 a b (AA c) (AA 0) U
def ju:XC:=(.z (.aX 4 Y5)
 .ret)
def AMs(E:EB)(D:Ac)(W:AF)(U:H):AE:=
 rI (A1 0) U
def jt:XC:=(.z (.aE 9 8 7)
 (.seq nW
 (.seq (.block 1 (.z (.m 10 8<|
 .m 5 10<|
 .nil)
 (.z (.bS 11 1 0 5<|
 .aN 14 6 12 13 y3 6<|
 .O 16 .bool (.callv (.t 11) [(.t 15)])<|
 .nil)
 y23)))
 y25)))
def YA(E:EB)(D:Ac)(W:AF)(K1:H->AE)(k:V->V->Int->Int->H->AE)(a b:V)(c d:Int)(U:H):AE:=
 AK (C5 d c) (
 iX E U 6 a d λe=>
 uI e λe f g h i j=>
 GA D b [.agg (eI e f g h i j)] U λe f=>
 DB e λe=>
 AK e (
 rI d f) (
 k a b c (BQ .i64 d (AA 1)) f)) (
 K1 U)
def AN4(a b:V)(U:H):St:=⟨[(0,a),(1,b)],[],[],U⟩
def AN3(a b:V)(c d:Int)(U:H):St:=⟨[(0,a),(1,b),(7,.int .i64 c),(8,.int .i64 d)],[],[],U⟩
def AO3(E:EB)(D:Ac)(W:AF)(N:Nat):=AMs E D W
def YY(n:Nat):V->V->Int->Int->H->AE:=
 Nat.rec (λ_ _ _ _ _=>none) (λ_ a=>YA E D W (AO3 E D W N ) a) n
theorem AG8 n:
 (λa b c d U=>BM (λf g=>Au E D W N jt g (kX ALC [] [] f) (AUZ E D W N ju) (Yq E)) n (AN3 a b c d U))=YY E D W N n:=O4 (λ_=>by kernel_rfl) n
def vN:=sG E D W (YY E D W N N)
theorem AHb:
 (λa b U=>Au E D W N (ADO ju jt) (AN4 a b U) (Yq E) nX (Yq E))=vN E D W N:=by
 unfold vN;rw[<-AG8];generalize ju=i,jt=j;revert i j;refine id ?_;intros;kernel_rfl
def F81(args:List V)(U:H):AE:=
 uH args λa b=>
 vN E D W N a b U
def A81:DD:=⟨19,nU,[(.tmp 4)],(ADO ju jt)⟩
theorem AWK args U:BZ E D W N A81 args U=F81 E D W N args U:=by
 unfold F81;rw[<-AHb];kernel_rfl
def AR3:XC:=(.seq (.z (.bU 6 0)
 (.cond (.tmp 7) .ret
 .skip))
 (.z (.cG 8 2 .i 136<|
 .m 2 9<|
 .nil)
 (.z (.cE 10 0 0<|
 .m 13 1<|
 .b 14 .shr .none (.t 13) (.T (V.int .u64 (AA 32)))<|
 .P 15 (.i7 (.jp .u32) (.t 14))<|
 .cB 16 2 32<|
 .bD 18 y8 137 12 15 17)
 (.Y (.cE 19 0 0<|
 .m 22 1<|
 .P 23 (.i7 (.jp .u32) (.t 22))<|
 .m 24 2<|
 .p 25 [24] (.min (.t 24) [(.i 32)])<|
 .bD 26 y8 137 21 23 25)))))
def sF(E:EB)(D:Ac)(W:AF)(a:V)(b c:Int)(U:H):AE:=
 Zh .o a V.nilp λd=>
 AK d (
 r0 U) (
 cI (D 136 [.int .i64 c] U) λd e=>
 BL a λf g=>
 c0 (D 137 [.o f g,.int .u32 (An .u32 (J0 .u64 b 32)),.int .i64 (Dj .i64 d (AA 32))] e) λe=>
 BL a λf g=>
 c0 (D 137 [.o f g,.int .u32 (An .u32 b),.int .i64 (G8 d (AA 32))] e) λd=>
 r0 d)
def F82(N:Nat)(args:List V)(U:H):AE:=
 uAB args λa b c=>
 sF E D W a b c U
def A82:DD:=⟨27,[.any,(.int .u64),.i],[],AR3⟩
theorem AWJ args U:BZ E D W N A82 args U=F82 E D W N args U:=by kernel_rfl
def AR2:XC:=(.Y (.bS 6 0 1 2<|
 .p 9 [7,8] (.min (.t 7) [(.t 8)])<|
 .cG 10 2 .i 140<|
 .bD 12 y8 82 6 9 11))
def sE(E:EB)(D:Ac)(W:AF)(a:V)(b c:Int)(U:H):AE:=
 cI (D 140 [.int .u64 c] U) λd e=>
 c0 (D 82 [a,.int .u64 (G8 b c),.int .i64 d] e) λd=>
 r0 d
def F84(N:Nat)(args:List V)(U:H):AE:=
 uG args λa b c=>
 sE E D W a b c U
def A84:DD:=⟨13,[.any,(.int .u64),(.int .u64)],[],AR2⟩
theorem AWI args U:BZ E D W N A84 args U=F84 E D W N args U:=by kernel_rfl
def AR1:XC:=(.z (.m 5 1<|
 .p 6 [5] (.max (.t 5) [(.i 0)])<|
 .m 1 6<|
 .nil)
 (.seq (.z (.aU 7 1 64<|
 .nil)
 (.cond (.tmp 8) (.z (.aB 9 0 1<|
 .bA 11 10 y8 82 9 7)
 .ret)
 .skip))
 (.z (.m 13 1<|
 .P 14 (.i7 (.jp .u64) (.t 13))<|
 .k 15 .S 85 [(.t 14)]<|
 .aG 4 15)
 (.z (.m 16 0<|
 .k 17 y8 82 [(.t 16),xr,(.i 1)]<|
 .nil)
 (.z (.aB 18 0 4<|
 .u 20 19<|
 .bA 21 20 y8 82 18 8)
 (.Y (.aB 23 0 4<|
 .bE 25 y8 49 23 24)))))))
def sD(E:EB)(D:Ac)(W:AF)(a:V)(b:Int)(U:H):AE:=
 AK (C5 (Gr b (AA 0)) (AA 64)) (
 c0 (D 82 [a,.int .u64 (An .u64 (Gr b (AA 0))),iN 7] U) λc=>
 r0 c) (
 CD (D 85 [.int .u64 (An .u64 (Gr b (AA 0)))] U) λc d=>
 CI c (
 c0 (D 82 [a,.int .u64 (AA 1),iN 1] d) λd=>
 Ao c λe=>
 c0 (D 82 [a,.int .u64 (An .u64 (AA e)),iN 8] d) λd=>
 c0 (D 49 [a,c] d) λc=>
 r0 c))
def F87(N:Nat)(args:List V)(U:H):AE:=
 uB args λa b=>
 sD E D W a b U
def A87:DD:=⟨26,[.any,.i],[],AR1⟩
theorem AWH args U:BZ E D W N A87 args U=F87 E D W N args U:=by kernel_rfl
def ALB:List (Nat × Cc):=[(0,.any),(1,.i),(7,.i),(8,.i)]
def Yp(E:EB):St->AE:=λs=>Dc E s [(.tmp 4)] λl=>some (Dq l,s.U)
def AUY(c0:XC):Nat->St->AE:=BR 0 (dX E D W N (.Q [] [] [] c0) (Yp E) nX (Yp E)) nX
def ADN(b:XC)(a:XC):XC:=(.z (.aL 4 0)
 (.seq (.z (.bZ 6 0<|
 .aL 8 0)
 (.block 0 (.loop ALB [] [] a)))
 (.Q [] [] [] b)))
def iF(E:EB)(D:Ac)(W:AF)(K2:V->Int->Int->Int->H->AE)(a:V)(b:Int)(U:H):AE:=
 Ao a λc=>
 K2 a b (AA c) (AA 0) U
def js:XC:=(.z (.aX 4 Y5)
 .ret)
def AMr(E:EB)(D:Ac)(W:AF)(U:H):AE:=
 rI (A1 0) U
def jr:XC:=(.z (.aE 9 8 7)
 (.seq nW
 (.seq (.block 1 (.z (.m 10 8<|
 .m 5 10<|
 .nil)
 (.z (.cA 11 1 0 5 1 .i<|
 .b 16 .eql .none (.t 11) (.t 15)<|
 .nil)
 y23)))
 y25)))
def X9(E:EB)(D:Ac)(W:AF)(K1:H->AE)(g:V->Int->Int->Int->H->AE)(a:V)(b c d:Int)(U:H):AE:=
 AK (C5 d c) (
 AS 1 a d λe f=>
 lI E U e f λe=>
 AK (B8 b e) (
 rI d U) (
 g a b c (BQ .i64 d (AA 1)) U)) (
 K1 U)
def AN2(a:V)(b:Int)(U:H):St:=⟨[(0,a),(1,.int .i64 b)],[],[],U⟩
def AN1(a:V)(b c d:Int)(U:H):St:=⟨[(0,a),(1,.int .i64 b),(7,.int .i64 c),(8,.int .i64 d)],[],[],U⟩
def AO2(E:EB)(D:Ac)(W:AF)(N:Nat):=AMr E D W
def jQ(n:Nat):V->Int->Int->Int->H->AE:=
 Nat.rec (λ_ _ _ _ _=>none) (λ_ a=>X9 E D W (AO2 E D W N ) a) n
theorem AG7 n:
 (λa b c d U=>BM (λf g=>Au E D W N jr g (kX ALB [] [] f) (AUY E D W N js) (Yp E)) n (AN1 a b c d U))=jQ E D W N n:=O4 (λ_=>by kernel_rfl) n
def vM:=iF E D W (jQ E D W N N)
theorem AHa:
 (λa b U=>Au E D W N (ADN js jr) (AN2 a b U) (Yp E) nX (Yp E))=vM E D W N:=by
 unfold vM;rw[<-AG7];generalize js=i,jr=j;revert i j;refine id ?_;intros;kernel_rfl
def F88(args:List V)(U:H):AE:=
 uB args λa b=>
 vM E D W N a b U
def A88:DD:=⟨19,[.any,.i],[(.tmp 4)],(ADN js jr)⟩
theorem AWG args U:BZ E D W N A88 args U=F88 E D W N args U:=by
 unfold F88;rw[<-AHa];kernel_rfl
def TM:List BO:=[⟨(some 20),.mkfn 144 [] [(.tmp 5)],none⟩,⟨(some 21),.L (.tmp 6),none⟩,⟨(some 22),.call 146 [(.T (V.int .i64 (AA 0))),(.tmp 21)],none⟩,⟨(some 23),.L (.tmp 6),none⟩,⟨(some 24),.C 8 (.tmp 5),none⟩,⟨(some 25),.load none (.tmp 24),none⟩,⟨(some 26),.len false (.tmp 25),none⟩,⟨(some 27),.call 146 [(.tmp 23),(.tmp 26)],none⟩,⟨(some 28),.call 143 [(.tmp 20),(.tmp 22),(.tmp 27)],none⟩,⟨(some 4),.L (.tmp 28),none⟩]
def Yj:List DP:=[⟨0,[5]⟩,⟨0,[6]⟩,⟨2,[21]⟩,⟨0,[6]⟩,⟨0,[5]⟩,⟨16,[24]⟩,⟨48,[25]⟩,⟨126,[23,26]⟩,⟨255,[20,22,27]⟩,⟨511,[28]⟩]
def AR0:XC:=(.z (.P 2 (.box 31 (.t 0))<|
 .aS 4)
 (.z (.O 7 y6 (.load (some 4) (.t 2))<|
 .m 8 1<|
 .k 9 y1 142 [(.t 7),(.t 8)]<|
 .p 5 [] y16<|
 .op none y1 [5,9] (.store 13 (.t 5) (.t 9))<|
 .nil)
 (.seq (.z (.aW 10 0 5 3<|
 .nil)
 (.cond (.tmp 12) (.z (.aS 4)
 .ret)
 .skip))
 (.z (.aA 13 10 5 .i<|
 .p 15 [14] (.max (.t 14) [(.i 0)])<|
 .aP 16 8 5<|
 .p 19 [15,18] (.min (.t 15) [(.t 18)])<|
 .aG 6 19)
 (.seq (.Q [(5,.o),(6,.i)] [] [] (.wl TM Yj [(4,.any)]))
 .ret)))))
def sC(a:BS)(b c d:V)(e:Int)(U:H):AE:=
 Ht (eA a b c d) U λf=>
 Bv E f (H.j U) 0 4 λg=>
 uA g λg h i j=>
 cA (D 142 [.agg (eA g h i j),.int .i64 e] f) λf g=>
 uN f λf h i j k l m n o p q r s=>
 let t:=Cb g (.cells [iN 0,V.h,.bool false,.bool false,.bool false,.bool false,iN 0,iN 0,V.h,V.h,iN 0,.bool false,iN 0]);
 DO 13 (H.j g) 0 (V.agg (eN f h i j k l m n o p q r s)) t λf=>
 lI E f (H.j g) 0 λh=>
 AK (not (B8 h (AA 3))) (
 some (V.h,f)) (
 lI E f (H.j g) 10 λh=>
 lL E f (H.j g) 8 λi=>
 CM (W TM Yj [(5,.o (H.j g) 0),(6,.int .i64 (G8 (Gr h (AA 0)) (AA i)))] f) λf g=>
 Bj f 4 λf=>
 some (f,g))
def F89(N:Nat)(args:List V)(U:H):AE:=
 Ab args λa b=>
 Cp a λa=>
 uA a λa c d e=>
 D3 .i64 b λb f=>
 Ay f (
 sC E D W a c d e b U)
def A89:DD:=⟨29,[y6,.i],[(.tmp 4)],AR0⟩
theorem AWF args U:BZ E D W N A89 args U=F89 E D W N args U:=by kernel_rfl
def ALA:List (Nat × Cc):=[(3,.any),(6,.any),(7,.i),(8,.i)]
def Yo(E:EB):St->AE:=λs=>Dc E s [(.tmp 2)] λl=>some (Dq l,s.U)
def AUX(c0:XC):Nat->St->AE:=BR 0 (dX E D W N (.Q [(3,.any)] [] [] c0) (Yo E) nX (Yo E)) nX
def ADM(b:XC)(a:XC):XC:=(.z (.aS 2)
 (.z (.aS 3)
 (.seq (.z (.bZ 6 0<|
 .aL 8 0)
 (.block 0 (.loop ALA [] [] a)))
 (.Q [(3,.any)] [] [] b))))
def AMq(E:EB)(D:Ac)(W:AF)(K2:V->V->Int->Int->H->AE)(a:V)(U:H):AE:=
 Ao a λb=>
 K2 V.h a (AA b) (AA 0) U
def jq:XC:=(.z (.m 16 3<|
 .aG 2 16)
 .ret)
def sB(E:EB)(D:Ac)(W:AF)(a:V)(U:H):AE:=
 some (a,U)
def jo:XC:=(.z (.aE 9 8 7)
 (.seq nW
 (.seq (.block 1 (.z (.s 10 1 6 8<|
 .l 11 .any 10<|
 .m 5 11<|
 .nil)
 (.Y (.aB 12 3 5<|
 .O 14 .S (.append 5 1 1 (.t 12) (.t 13))<|
 .aG 3 14))))
 (.Y (.aC 15 8 1 8)))))
def Qm(E:EB)(D:Ac)(W:AF)(K1:V->H->AE)(g:V->V->Int->Int->H->AE)(a b:V)(c d:Int)(U:H):AE:=
 AK (C5 d c) (
 iY E U 1 b d λe=>
 Dx E 1 1 a e U λe f=>
 CI e (
 g e b c (BQ .i64 d (AA 1)) f)) (
 K1 a U)
def AN0(a:V)(U:H):St:=⟨[(0,a)],[],[],U⟩
def ANz(a b:V)(c d:Int)(U:H):St:=⟨[(3,a),(6,b),(7,.int .i64 c),(8,.int .i64 d)],[],[],U⟩
def AO1(E:EB)(D:Ac)(W:AF)(N:Nat):=sB E D W
def uf(n:Nat):V->V->Int->Int->H->AE:=
 Nat.rec (λ_ _ _ _ _=>none) (λ_ a=>Qm E D W (AO1 E D W N ) a) n
theorem AG6 n:
 (λa b c d U=>BM (λf g=>Au E D W N jo g (kX ALA [] [] f) (AUX E D W N jq) (Yo E)) n (ANz a b c d U))=uf E D W N n:=O4 (λ_=>by kernel_rfl) n
def vL:=AMq E D W (uf E D W N N)
theorem AHZ:
 (λa U=>Au E D W N (ADM jq jo) (AN0 a U) (Yo E) nX (Yo E))=vL E D W N:=by
 unfold vL;rw[<-AG6];generalize jq=h,jo=i;revert h i;refine id ?_;intros;kernel_rfl
def F90(args:List V)(U:H):AE:=
 Ab args λa b=>
 Ay b (
 vL E D W N a U)
def A90:DD:=⟨17,[.any],[(.tmp 2)],(ADM jq jo)⟩
theorem AWE args U:BZ E D W N A90 args U=F90 E D W N args U:=by
 unfold F90;rw[<-AHZ];kernel_rfl
def AK9:List (Nat × Cc):=[(0,.i),(3,.any),(4,.bool)]
def Yn(E:EB):St->AE:=λs=>Dc E s [(.tmp 2)] λl=>some (Dq l,s.U)
def AUW(c0:XC):Nat->St->AE:=BR 0 (dX E D W N (.Q [(3,.any)] [] [] c0) (Yn E) nX (Yn E)) nX
def ADL(b:XC)(a:XC):XC:=(.z (.aS 2)
 (.z (.m 6 0<|
 .p 7 [6] (.max (.t 6) [(.i 0)])<|
 .m 0 7<|
 .nil)
 (.z (.aS 3)
 (.seq (.z (.cD 4)
 (.block 0 (.loop AK9 [] [] a)))
 (.Q [(3,.any)] [] [] b)))))
def AMp(E:EB)(D:Ac)(W:AF)(K2:Int->V->Bool->H->AE)(a:Int)(U:H):AE:=
 K2 (Gr a (AA 0)) V.h true U
def jn:XC:=(.z (.m 21 3<|
 .aG 2 21)
 .ret)
def sA(E:EB)(D:Ac)(W:AF)(a:V)(U:H):AE:=
 some (a,U)
def jm:XC:=(.seq (.z (.aG 8 4)
 (.cond (.tmp 8) .skip
 LM))
 (.block 1 (.z (.aL 5 0)
 (.z (.m 10 0<|
 .k 11 (.B [.i,.bool]) 147 [(.t 10)]<|
 .m 9 11<|
 .aM 12 0 9 1 9<|
 .m 5 12<|
 .m 4 13<|
 .nil)
 (.Y (.aB 14 3 5<|
 .aQ 16 15 3 1 y0 0 1 15 .S 3 1 8 14<|
 .aB 18 0 5<|
 .b 20 .sub .none (.t 18) (.t 19)<|
 .m 3 17<|
 .aG 0 20))))))
def X8(E:EB)(D:Ac)(W:AF)(K1:V->H->AE)(h:Int->V->Bool->H->AE)(a:Int)(b:V)(c:Bool)(U:H):AE:=
 AK c (
 cT (D 147 [.int .i64 a] U) λd e=>
 uAC d λd f=>
 let g:=Cb e (.cells [.int .i64 d]);
 Dx E 1 8 b (V.D (H.j e) 0 1 (.ex 1)) g λe g=>
 CI e (
 h (Dj .i64 a d) e f g)) (
 K1 b U)
def ANy(a:Int)(U:H):St:=⟨[(0,.int .i64 a)],[],[],U⟩
def ANx(a:Int)(b:V)(c:Bool)(U:H):St:=⟨[(0,.int .i64 a),(3,b),(4,.bool c)],[],[],U⟩
def AO0(E:EB)(D:Ac)(W:AF)(N:Nat):=sA E D W
def ue(n:Nat):Int->V->Bool->H->AE:=
 Nat.rec (λ_ _ _ _=>none) (λ_ a=>X8 E D W (AO0 E D W N ) a) n
theorem AG5 n:
 (λa b c U=>BM (λe f=>Au E D W N jm f (kX AK9 [] [] e) (AUW E D W N jn) (Yn E)) n (ANx a b c U))=ue E D W N n:=xi (λ_=>by kernel_rfl) n
def vK:=AMp E D W (ue E D W N N)
theorem AHY:
 (λa U=>Au E D W N (ADL jn jm) (ANy a U) (Yn E) nX (Yn E))=vK E D W N:=by
 unfold vK;rw[<-AG5];generalize jn=h,jm=i;revert h i;refine id ?_;intros;kernel_rfl
def F91(args:List V)(U:H):AE:=
 D3 .i64 args λa b=>
 Ay b (
 vK E D W N a U)
def A91:DD:=⟨22,[.i],[(.tmp 2)],(ADL jn jm)⟩
theorem AWD args U:BZ E D W N A91 args U=F91 E D W N args U:=by
 unfold F91;rw[<-AHY];kernel_rfl
def ARy:XC:=(.block 0 (.z (.m 13 2<|
 .m 12 13<|
 .nil)
 (.cond (.tmp 12) (.z (.m 14 0<|
 .k 15 y8 82 [(.t 14),(.T (V.int .u64 (AA 3))),(.i 2)]<|
 .nil)
 (.Y (.aB 16 0 1<|
 .b 18 .quo .none (.t 17) (.i 16384)<|
 .bA 19 18 y8 82 16 6)))
 (.z (.aU 22 1 128<|
 .bV 21)
 (.cond (.tmp 21) (.Y (.aB 24 0 1<|
 .bA 26 25 y8 82 24 8))
 (.z (.m 6 0<|
 .k 7 y8 82 [(.t 6),(.T (V.int .u64 (AA 2))),(.i 2)]<|
 .nil)
 (.Y (.aB 8 0 1<|
 .P 10 (.i7 (.jp .u64) (.t 9))<|
 .k 11 y8 82 [(.t 8),(.t 10),(.i 14)]<|
 .nil))))))))
def r8(E:EB)(D:Ac)(W:AF)(a:V)(b:Int)(c:Bool)(U:H):AE:=
 AK c (
 c0 (D 82 [a,.int .u64 (AA 3),iN 2] U) λd=>
 c0 (D 82 [a,.int .u64 (An .u64 (NQ .i64 b (AA 16384))),iN 6] d) λd=>
 r0 d) (
 AK (C5 b (AA 128)) (
 c0 (D 82 [a,.int .u64 (An .u64 b),iN 8] U) λd=>
 r0 d) (
 c0 (D 82 [a,.int .u64 (AA 2),iN 2] U) λd=>
 c0 (D 82 [a,.int .u64 (An .u64 b),iN 14] d) λd=>
 r0 d))
def F92(N:Nat)(args:List V)(U:H):AE:=
 uAD args λa b c=>
 r8 E D W a b c U
def A92:DD:=⟨28,[.any,.i,.bool],[],ARy⟩
theorem AWC args U:BZ E D W N A92 args U=F92 E D W N args U:=by kernel_rfl
def AK8:List (Nat × Cc):=[(0,.any),(8,.any),(9,.i),(10,.i),(14,.any),(15,.i),(16,.i)]
def ZL:List (Nat × Cc):=[(0,.any),(8,.any),(9,.i),(10,.i)]
def Ld(E:EB):St->AE:=λs=>Dc E s [] λl=>some (Dq l,s.U)
def AUV(c0:XC)(a:St->AE):Nat->St->AE:=BR 2 (dX E D W N (.Q ZL [] [] c0) (kX ZL [] [] a) (BR 0 (Ld E) nX) (Ld E)) (BR 1 (dX E D W N (.Q ZL [] [] c0) (kX ZL [] [] a) (BR 0 (Ld E) nX) (Ld E)) (BR 0 (Ld E) nX))
def ADK(a:XC):XC:=(.z (.bZ 8 1<|
 .aL 10 0)
 (.block 0 (.loop ZL [] [] a)))
def AMo(E:EB)(D:Ac)(W:AF)(K1:V->V->Int->Int->H->AE)(a b:V)(U:H):AE:=
 Ao b λc=>
 K1 a b (AA c) (AA 0) U
def jl(a:XC)(b:XC):XC:=(.z (.aE 11 10 9)
 (.seq (.cond (.tmp 11) .skip
 LM)
 (.seq (.block 1 (.z (.s 12 1 8 10<|
 .l 13 .any 12<|
 .m 5 13<|
 .nil)
 (.z (.bZ 14 5<|
 .aL 16 0)
 (.block 2 (.loop AK8 [] [] b)))))
 (.Q ZL [] [] a))))
def S4(E:EB)(D:Ac)(W:AF)(g:V->V->Int->Int->V->Int->Int->H->AE)(a b:V)(c d:Int)(U:H):AE:=
 AK (C5 d c) (
 iY E U 1 b d λe=>
 Ao e λf=>
 g a b c d e (AA f) (AA 0) U) (
 r0 U)
def TX:XC:=(.Y (.aC 25 10 1 10))
def ACn(E:EB)(D:Ac)(W:AF)(e:V->V->Int->Int->H->AE)(a b:V)(c d:Int)(U:H):AE:=
 e a b c (BQ .i64 d (AA 1)) U
def TV:XC:=(.z (.aE 17 16 15)
 (.seq (.cond (.tmp 17) .skip
 (.exit 2))
 (.seq (.block 3 (.z (.s 18 1 14 16<|
 .l 19 (.int .u8) 18<|
 .aG 7 19)
 (.Y (.aB 20 0 7<|
 .P 22 (.i7 (.jp .u32) (.t 21))<|
 .k 23 y8 137 [(.t 20),(.t 22),(.i 8)]<|
 .nil))))
 (.Y (.aC 24 16 1 16)))))
def S3(E:EB)(D:Ac)(W:AF)(K2:V->V->Int->Int->H->AE)(i:V->V->Int->Int->V->Int->Int->H->AE)(a b:V)(c d:Int)(e:V)(f g:Int)(U:H):AE:=
 AK (C5 g f) (
 iY E U 1 e g λh=>
 DZ .u8 h λh=>
 c0 (D 137 [a,.int .u32 (An .u32 h),iN 8] U) λh=>
 i a b c d e f (BQ .i64 g (AA 1)) h) (
 K2 a b c d U)
def ANw(a b:V)(U:H):St:=⟨[(0,a),(1,b)],[],[],U⟩
def ACw(a b:V)(c d:Int)(U:H):St:=⟨[(0,a),(8,b),(9,.int .i64 c),(10,.int .i64 d)],[],[],U⟩
def ANv(a b:V)(c d:Int)(e:V)(f g:Int)(U:H):St:=⟨[(0,a),(8,b),(9,.int .i64 c),(10,.int .i64 d),(14,e),(15,.int .i64 f),(16,.int .i64 g)],[],[],U⟩
def AOz(E:EB)(D:Ac)(W:AF)(N:Nat)(a:V->V->Int->Int->H->AE):=ACn E D W a
def jO(a:V->V->Int->Int->H->AE)(n:Nat):V->V->Int->Int->V->Int->Int->H->AE:=
 Nat.rec (λ_ _ _ _ _ _ _ _=>none) (λ_ b=>S3 E D W (AOz E D W N a) b) n
theorem AG3 i n:
 (λa b c d e f g U=>BM (λj k=>Au E D W N TV k (kX AK8 [] [] j) (AUV E D W N TX i) (Ld E)) n (ANv a b c d e f g U))=jO E D W N (λa b c d U=>i (ACw a b c d U)) n:=lp8 (λ_=>by kernel_rfl) n
def jP(n:Nat):V->V->Int->Int->H->AE:=
 Nat.rec (λ_ _ _ _ _=>none) (λ_ a=>S4 E D W (jO E D W N a N)) n
theorem AG4 n:
 (λa b c d U=>BM (λj l=>Au E D W N (jl TX TV) l (kX ZL [] [] j) (BR 0 (Ld E) nX) (Ld E)) n (ACw a b c d U))=jP E D W N n:=O4 (λp=>by rw[<-AG3];generalize TX=k,TV=m;revert k m;refine id ?_;intros;kernel_rfl) n
def vJ:=AMo E D W (jP E D W N N)
theorem AHX:
 (λa b U=>Au E D W N (ADK (jl TX TV)) (ANw a b U) (Ld E) nX (Ld E))=vJ E D W N:=by
 unfold vJ;rw[<-AG4];generalize jl TX TV=i;revert i;refine id ?_;intros;kernel_rfl
def F94(args:List V)(U:H):AE:=
 uH args λa b=>
 vJ E D W N a b U
def A94:DD:=⟨26,nU,[],(ADK (jl TX TV))⟩
theorem AWB args U:BZ E D W N A94 args U=F94 E D W N args U:=by
 unfold F94;rw[<-AHX];kernel_rfl
def TL:List BO:=[⟨(some 16),.L (.tmp 0),none⟩,⟨(some 17),.rg (.tmp 16),none⟩,⟨(some 18),.C 0 (.tmp 17),none⟩,⟨(some 19),.load none (.tmp 18),none⟩,⟨(some 20),.L (.tmp 4),none⟩,⟨(some 21),.rg (.tmp 20),none⟩,⟨(some 22),.C 0 (.tmp 21),none⟩,⟨(some 23),.load none (.tmp 22),none⟩,⟨(some 24),.call 25 [(.tmp 23)],none⟩,⟨(some 25),.buildSlice 35 1 [V.h] [(0,1,(.tmp 24))],none⟩,⟨(some 26),.call 46 [(.tmp 19),(.tmp 25)],none⟩]
def Yi:List DP:=[⟨0,[0]⟩,⟨1,[16]⟩,⟨3,[17]⟩,⟨7,[18]⟩,⟨0,[4]⟩,⟨16,[20]⟩,⟨48,[21]⟩,⟨112,[22]⟩,⟨240,[23]⟩,⟨496,[24]⟩,⟨1023,[19,25]⟩]
def ARx:XC:=(.z (.op (some 5) (.agg [.any,.i]) [] (.build [V.h,y0] [])<|
 .P 6 (.box 73 (.t 5))<|
 .cE 7 0 1<|
 .O 10 y6 (.load (some 4) (.t 9))<|
 .op (some 11) (.agg [.any,.N,.any,.any,.any]) [6,10] (.build [V.nilp,y5,V.h,V.h,V.h] [(0,1,(.t 6)),(1,4,(.t 10))])<|
 .P 12 (.box 75 (.t 11))<|
 .m 4 12<|
 .nil)
 (.z (.aB 13 1 4<|
 .O 15 y8 (.callv (.t 13) [(.t 14)])<|
 .nil)
 (.Q [(0,.o),(4,.o)] [] [] (.wl TL Yi []))))
def r7(a b:Nat)(c:V)(U:H):AE:=
 Ht [V.h,iN 0] U λd=>
 Bv E d a (AM b 1) 4 λe=>
 uA e λe f g h=>
 Ht [.o (H.j U) 0,.N e,f,g,h] d λe=>
 GA D c [.o (H.j d) 0] e λe f=>
 H3 e λe=>
 Ay e (
 CM (W TL Yi [(0,.o a b),(4,.o (H.j d) 0)] f) λd e=>
 r0 e)
def F95(N:Nat)(args:List V)(U:H):AE:=
 uM args λa b c=>
 r7 E D W a b c U
def A95:DD:=⟨27,[.o,.any],[],ARx⟩
theorem AWA args U:BZ E D W N A95 args U=F95 E D W N args U:=by kernel_rfl
def ARw:XC:=(.us (.m 5 0<|
 .f 6 9 1<|
 .l 7 .any 6<|
 .l 8 .i 2<|
 .s 9 11 7 8<|
 .aA 10 1 9 .i<|
 .aA 12 3 3 .any<|
 .P 14 (.qr 6 (.t 13) (.i 0))<|
 .O 15 y3 (.load (some 6) (.t 14))<|
 .k 16 y8 24 [(.t 5),(.t 11),(.t 15)]<|
 .nil) [0,0,2,0,14,30,62,0,128,384,896,2047])
def rz(E:EB)(D:Ac)(W:AF)(a b c d:V)(U:H):AE:=
 BL b λe f=>
 DF E U e (AM f 9) λe=>
 BL c λf g=>
 lI E U f g λf=>
 AS 11 e f λe f=>
 lI E U e (AM f 1) λe=>
 BL d λf g=>
 jX E U f (AM g 3) 6 (AA 0) λf=>
 uI f λf g h i j k=>
 c0 (D 24 [a,.int .i64 e,.agg (eI f g h i j k)] U) λe=>
 r0 e
def F96(N:Nat)(args:List V)(U:H):AE:=
 uAE args λa b c d=>
 rz E D W a b c d U
def A96:DD:=⟨17,[.any,.any,.any,.any],[],ARw⟩
theorem AV9 args U:BZ E D W N A96 args U=F96 E D W N args U:=by kernel_rfl
def ARv(b:XC)(a:XC):XC:=(.z (.P 2 (.box 31 (.t 0))<|
 .aS 4)
 (.z (.O 8 y6 (.load (some 4) (.t 2))<|
 .m 9 1<|
 .k 10 y1 142 [(.t 8),(.t 9)]<|
 .p 5 [] y16<|
 .op none y1 [5,10] (.store 13 (.t 5) (.t 10))<|
 .nil)
 (.z (.aP 11 9 5<|
 .m 6 13<|
 .nil)
 (.seq (.z (.aA 14 0 5 .i<|
 .nil)
 (.block 0 (.z (.aD 17 15 7 16)
 (.cond (.tmp 16) (.z (.m 18 6<|
 .k 19 .S 146 [(.i 0),(.t 18)]<|
 .aG 4 19)
 .ret)
 (.seq (.z (.aD 21 15 8 20)
 (.cond (.tmp 20) .skip
 (.Y (.aD 22 15 9 20))))
 (.Q [(2,.o),(5,.o),(6,.i),(20,.bool)] [] [] a))))))
 (.Q [] [] [] b)))))
def ry(E:EB)(D:Ac)(W:AF)(K2:Nat->Nat->Nat->Nat->Int->Bool->H->AE)(a:BS)(b c d:V)(e:Int)(U:H):AE:=
 Ht (eA a b c d) U λf=>
 Bv E f (H.j U) 0 4 λg=>
 uA g λg h i j=>
 cA (D 142 [.agg (eA g h i j),.int .i64 e] f) λf g=>
 uN f λf h i j k l m n o p q r s=>
 let t:=Cb g (.cells [iN 0,V.h,.bool false,.bool false,.bool false,.bool false,iN 0,iN 0,V.h,V.h,iN 0,.bool false,iN 0]);
 DO 13 (H.j g) 0 (V.agg (eN f h i j k l m n o p q r s)) t λf=>
 lL E f (H.j g) 9 λh=>
 lI E f (H.j g) 0 λi=>
 AK (B8 i (AA 7)) (
 CD (D 146 [iN 0,.int .i64 (AA h)] f) λj k=>
 CI j (
 some (j,k))) (
 AK (B8 i (AA 8)) (
 K2 (H.j U) 0 (H.j g) 0 (AA h) (B8 i (AA 8)) f) (
 K2 (H.j U) 0 (H.j g) 0 (AA h) (B8 i (AA 9)) f))
def ARu:XC:=(.z (.aS 4)
 .ret)
def rq(E:EB)(D:Ac)(W:AF)(U:H):AE:=
 some (V.h,U)
def ARt:XC:=(.cond (.tmp 20) (.z (.aA 23 10 5 .i<|
 .p 25 [24] (.max (.t 24) [(.i 0)])<|
 .m 26 6<|
 .p 27 [25,26] (.min (.t 25) [(.t 26)])<|
 .aG 7 27)
 (.z (.p 28 [2,5] (.mkfn 148 [] [(.t 2),(.t 5)])<|
 .m 29 7<|
 .k 30 .S 146 [(.i 0),(.t 29)]<|
 .bG 31 7 6 .S 146<|
 .k 34 .S 143 [(.t 28),(.t 30),(.t 33)]<|
 .aG 4 34)
 .ret))
 .skip)
def rp(E:EB)(D:Ac)(W:AF)(K1:H->AE)(a b c d:Nat)(e:Int)(f:Bool)(U:H):AE:=
 AK f (
 lI E U c (AM d 10) λg=>
 CD (D 146 [iN 0,.int .i64 (G8 (Gr g (AA 0)) e)] U) λh i=>
 CI h (
 CD (D 146 [.int .i64 (G8 (Gr g (AA 0)) e),.int .i64 e] i) λg i=>
 CI g (
 CD (D 143 [.fn 148 [] [.o a b,.o c d],h,g] i) λg h=>
 CI g (
 some (g,h))))) (
 K1 U)
def AOy(E:EB)(D:Ac)(W:AF)(N:Nat):=rq E D W
def AOx:=rp E D W (AOy E D W N )
def F97(args:List V)(U:H):AE:=
 Ab args λa b=>
 Cp a λa=>
 uA a λa c d e=>
 D3 .i64 b λb f=>
 Ay f (
 ry E D W (AOx E D W N ) a c d e b U)
def A97:DD:=⟨35,[y6,.i],[(.tmp 4)],(ARv ARu ARt)⟩
theorem AV8 args U:BZ E D W N A97 args U=F97 E D W N args U:=by kernel_rfl
def AI9:XC:=(.z (.aL 2 0)
 (.seq (.z (.bU 3 0)
 (.cond (.tmp 4) (.z (.aL 2 0)
 .ret)
 .skip))
 (.z (.aI 5 0<|
 .aA 7 1 6 .i<|
 .m 2 8<|
 .nil)
 .ret)))
def ca(E:EB)(D:Ac)(W:AF)(a:V)(U:H):AE:=
 Zh .o a V.nilp λb=>
 AK b (
 rI (AA 0) U) (
 BL a λb c=>
 lI E U b (AM c 1) λb=>
 rI b U)
def w9(N:Nat)(args:List V)(U:H):AE:=
 Ab args λa b=>
 Ay b (
 ca E D W a U)
def AYz:DD:=⟨9,[.any],[(.tmp 2)],AI9⟩
theorem AQJ args U:BZ E D W N AYz args U=w9 E D W N args U:=by kernel_rfl
def AI8:XC:=(.z (.aX 4 y34)
 (.seq (.z (.aU 5 1 0<|
 .m 7 6<|
 .gO 7 false (.p 8 [1,7] LU<|
 .p 9 [0,7] JT<|
 .p 10 [9,7] (.len true (.t 9))<|
 .bO 11 8 10 7 8 10) 12 7 11<|
 .nil)
 (.cond (.tmp 12) (.z (.aX 4 y34)
 .ret)
 .skip))
 (.z (.bR 13 0 1<|
 .aG 4 15)
 .ret)))
def cZ(E:EB)(D:Ac)(W:AF)(a:BS)(b:Int)(U:H):AE:=
 Ax (λc d=>
 AK c (
 some ((V.int .u8 (AA 0)),d)) (
 C8 a b λc=>
 some ((V.int .u8 c),d))) λc=>
 AK (C5 b (AA 0)) (
 c true U) (
 c (HL (AA (BS.len a)) b) U)
def w8(N:Nat)(args:List V)(U:H):AE:=
 uU args λa b=>
 cZ E D W a b U
def AYy:DD:=⟨16,[.N,.i],[(.tmp 4)],AI8⟩
theorem AQI args U:BZ E D W N AYy args U=w8 E D W N args U:=by kernel_rfl
def AI7:XC:=(.z (.aX 2 y2)
 (.z (.m 3 0<|
 .b 4 .geq .none (.t 3) (.T (V.int .u8 (AA 97)))<|
 .m 5 4<|
 .gA 5 true (.p 6 [0,5] JT<|
 .p 7 [6,5] (.pp .leq .none (.t 6) (.T (V.int .u8 (AA 122))))<|
 .nil) 8 5 7<|
 .m 9 8<|
 .gO 9 false (.p 10 [0,9] JT<|
 .p 11 [10,9] (.pp .geq .none (.t 10) (.T (V.int .u8 (AA 65))))<|
 .p 12 [11,9] (.L (.t 11))<|
 .grp 12 true (.p 13 [0,12] JT<|
 .p 14 [13,12] (.pp .leq .none (.t 13) (.T (V.int .u8 (AA 90))))<|
 .nil) 15 [12,14,9] (.t 12) (.t 14) (.T y2)<|
 .nil) 16 9 15<|
 .aG 2 16)
 .ret))
def cY(E:EB)(D:Ac)(W:AF)(a:Int)(U:H):AE:=
 Ax (λb c=>
 Ax (λd e=>
 rB d e) λd=>
 AK b (
 d true c) (
 Ax (λb e=>
 d b e) λb=>
 AK (HL (AA 65) a) (
 b (HL a (AA 90)) c) (
 b false c))) λb=>
 AK (HL (AA 97) a) (
 b (HL a (AA 122)) U) (
 b false U)
def wz(N:Nat)(args:List V)(U:H):AE:=
 D3 .u8 args λa b=>
 Ay b (
 cY E D W a U)
def AYx:DD:=⟨17,[(.int .u8)],[(.tmp 2)],AI7⟩
theorem AQH args U:BZ E D W N AYx args U=wz E D W N args U:=by kernel_rfl
def gB:List (Nat × Cc):=[(0,.N),(1,.i),(5,.i)]
def Rt(E:EB):St->AE:=λs=>Dc E s [(.tmp 4)] λl=>some (Dq l,s.U)
def AMk(c0:XC):Nat->St->AE:=BR 0 (dX E D W N (.Q gB [] [] c0) (Rt E) nX (Rt E)) nX
def xV(b:XC)(a:XC):XC:=(.z (.aL 4 0)
 (.z (.m 6 1<|
 .m 5 6<|
 .nil)
 (.seq (.block 0 (.loop gB [] [] a))
 (.Q gB [] [] b))))
def AGH(E:EB)(D:Ac)(W:AF)(K2:BS->Int->Int->H->AE)(a:BS)(b:Int)(U:H):AE:=
 K2 a b b U
def WU:XC:=(.seq (.z (.aB 38 0 1<|
 .b 40 .sub .none (.t 39) (.i 1)<|
 .P 41 (.idxStr (.t 38) (.t 40))<|
 .b 42 .eql .none (.t 41) xe<|
 .m 43 42<|
 .gO 43 false (.p 44 [1,43] LU<|
 .p 45 [5,43] nj<|
 .p 46 [44,45,43] (.pp .sub .none (.t 44) (.t 45))<|
 .bJ 47 46 43 46 60) 48 43 47<|
 .nil)
 (.cond (.tmp 48) (.z (.aX 4 Y5)
 .ret)
 .skip))
 (.z (.m 49 1<|
 .aG 4 49)
 .ret))
def cX(E:EB)(D:Ac)(W:AF)(a:BS)(b c:Int)(U:H):AE:=
 C8 a (Dj .i64 b (AA 1)) λd=>
 Ax (λe f=>
 AK e (
 rI (A1 0) f) (
 rI b f)) λe=>
 AK (B8 d (AA 45)) (
 e true U) (
 e (C5 (AA 60) (Dj .i64 b c)) U)
def WT:XC:=(.seq (.z (.cJ 7 1 0<|
 .b 10 .lss .none (.t 7) (.t 9)<|
 .m 11 10<|
 .gA 11 true (.p 12 [0,11] JT<|
 .bQ 13 1 11 LU 12 11 12<|
 .op (some 15) .bool [14,11] (.call 107 [(.t 14)])<|
 .p 16 [15,11] (.L (.t 15))<|
 .grp 16 false (.p 17 [0,16] JT<|
 .bQ 18 1 16 LU 17 16 17<|
 .op (some 20) .bool [19,16] (.call 110 [(.t 19)])<|
 .nil) 21 [16,20,11] (.t 16) We (.t 20)<|
 .p 22 [21,11] (.L (.t 21))<|
 .grp 22 false (.p 23 [0,22] JT<|
 .bQ 24 1 22 LU 23 22 23<|
 .p 26 [25,22] (.pp .eql .none (.t 25) xe)<|
 .p 27 [26,22] (.L (.t 26))<|
 .grp 27 true (.p 28 [0,27] JT<|
 .bP 29 1 27 LU 27 1 28 27 106 28<|
 .p 32 [31,27] (.pp .neq .none (.t 31) xe)<|
 .nil) 33 [27,32,22] (.t 27) (.t 32) (.T y2)<|
 .nil) 34 [22,33,11] (.t 22) We (.t 33)<|
 .nil) 35 11 34<|
 .nil)
 (.cond (.tmp 35) .skip
 LM))
 (.block 1 (.Y (.m 36 1<|
 .aC 37 36 1 1))))
def MM(E:EB)(D:Ac)(W:AF)(K1:BS->Int->Int->H->AE)(l:BS->Int->Int->H->AE)(a:BS)(b c:Int)(U:H):AE:=
 Ax (λd e=>
 AK d (
 l a (BQ .i64 b (AA 1)) c e) (
 K1 a b c e)) λd=>
 AK (C5 b (AA (BS.len a))) (
 C8 a b λe=>
 cB (D 107 [.int .u8 e] U) λe f=>
 Ax (λg h=>
 Ax (λi j=>
 d i j) λi=>
 AK g (
 i true h) (
 C8 a b λg=>
 Ax (λj k=>
 i j k) λi=>
 AK (B8 g (AA 45)) (
 CD (D 106 [.N a,.int .i64 (BQ .i64 b (AA 1))] h) λg j=>
 DZ .u8 g λg=>
 i (not (B8 g (AA 45))) j) (
 i false h))) λg=>
 AK e (
 g true f) (
 C8 a b λe=>
 cB (D 110 [.int .u8 e] f) λe f=>
 g e f)) (
 d false U)
def AGz(a:BS)(b:Int)(U:H):St:=⟨[(0,.N a),(1,.int .i64 b)],[],[],U⟩
def AGy(a:BS)(b c:Int)(U:H):St:=⟨[(0,.N a),(1,.int .i64 b),(5,.int .i64 c)],[],[],U⟩
def Nv(E:EB)(D:Ac)(W:AF)(N:Nat):=cX E D W
def Rf(n:Nat):BS->Int->Int->H->AE:=
 Nat.rec (λ_ _ _ _=>none) (λ_ a=>MM E D W (Nv E D W N ) a) n
theorem AAw n:
 (λa b c U=>BM (λe f=>Au E D W N WT f (kX gB [] [] e) (AMk E D W N WU) (Rt E)) n (AGy a b c U))=Rf E D W N n:=xi (λ_=>by kernel_rfl) n
def eu:=AGH E D W (Rf E D W N N)
theorem ABh:
 (λa b U=>Au E D W N (xV WU WT) (AGz a b U) (Rt E) nX (Rt E))=eu E D W N:=by
 unfold eu;rw[<-AAw];generalize WU=i,WT=j;revert i j;refine id ?_;intros;kernel_rfl
def nL(args:List V)(U:H):AE:=
 uU args λa b=>
 eu E D W N a b U
def AYw:DD:=⟨50,[.N,.i],[(.tmp 4)],(xV WU WT)⟩
theorem AQG args U:BZ E D W N AYw args U=nL E D W N args U:=by
 unfold nL;rw[<-ABh];kernel_rfl
def AI6:XC:=(.z (.aX 2 y2)
 (.z (.k 3 .S 156 []<|
 .m 4 0<|
 .k 5 .bool 65 [(.t 3),(.t 4)]<|
 .m 2 5<|
 .nil)
 .ret))
def cW(E:EB)(D:Ac)(W:AF)(a:BS)(U:H):AE:=
 CD (D 156 [] U) λb c=>
 CI b (
 cB (D 65 [b,.N a] c) λb c=>
 rB b c)
def wy(N:Nat)(args:List V)(U:H):AE:=
 Ti args λa b=>
 Ay b (
 cW E D W a U)
def AYv:DD:=⟨6,[.N],[(.tmp 2)],AI6⟩
theorem AQF args U:BZ E D W N AYv args U=wy E D W N args U:=by kernel_rfl
def AI5:XC:=(.z (.aX 2 y2)
 (.z (.m 3 0<|
 .b 4 .geq .none (.t 3) y29<|
 .m 5 4<|
 .gA 5 true (.p 6 [0,5] JT<|
 .p 7 [6,5] (.pp .leq .none (.t 6) (.T (V.int .u8 (AA 57))))<|
 .nil) 8 5 7<|
 .m 2 8<|
 .nil)
 .ret))
def cV(E:EB)(D:Ac)(W:AF)(a:Int)(U:H):AE:=
 Ax (λb c=>
 rB b c) λb=>
 AK (HL (AA 48) a) (
 b (HL a (AA 57)) U) (
 b false U)
def wx(N:Nat)(args:List V)(U:H):AE:=
 D3 .u8 args λa b=>
 Ay b (
 cV E D W a U)
def AYu:DD:=⟨9,[(.int .u8)],[(.tmp 2)],AI5⟩
theorem AQE args U:BZ E D W N AYu args U=wx E D W N args U:=by kernel_rfl
def P3:List (Nat × Cc):=[(0,.N),(1,.i),(5,.bool),(6,.i),(7,(.int .u64))]
def Kh(E:EB):St->AE:=λs=>Dc E s [(.tmp 4)] λl=>some (Dq l,s.U)
def ACm(c0:XC):Nat->St->AE:=BR 0 (dX E D W N (.Q P3 [] [] c0) (Kh E) nX (Kh E)) nX
def xU(a:XC):XC:=(.z (.aL 4 0)
 (.z (.bR 9 0 1<|
 .b 12 .eql .none (.t 11) xe<|
 .m 5 12<|
 .nil)
 (.seq (.z (.aG 13 5)
 (.cond (.tmp 13) (.Y (.m 14 1<|
 .aC 15 14 1 1))
 .skip))
 (.Q [(0,.N),(1,.i),(5,.bool)] [] [] a))))
def ML(E:EB)(D:Ac)(W:AF)(K1:BS->Int->Bool->H->AE)(a:BS)(b:Int)(U:H):AE:=
 C8 a b λc=>
 AK (B8 c (AA 45)) (
 K1 a (BQ .i64 b (AA 1)) (B8 c (AA 45)) U) (
 K1 a b (B8 c (AA 45)) U)
def WS(a:XC)(b:XC):XC:=(.z (.m 16 1<|
 .aG 6 16)
 (.z (.aX 7 y30)
 (.seq (.block 0 (.loop P3 [] [] b))
 (.Q P3 [] [] a))))
def AGG(E:EB)(D:Ac)(W:AF)(d:BS->Int->Bool->Int->Int->H->AE)(a:BS)(b:Int)(c:Bool)(U:H):AE:=
 d a b c b (AA 0) U
def Ks:XC:=(.z (.aB 41 1 6<|
 .b 43 .sub .none (.t 41) (.t 42)<|
 .aG 8 43)
 (.seq (.z (.aU 44 8 1<|
 .m 46 45<|
 .gO 46 false (.p 47 [8,46] xq<|
 .bJ 48 47 46 47 19) 49 46 48<|
 .m 50 49<|
 .gO 50 false (.p 51 [8,50] xq<|
 .p 52 [51,50] (.pp .gtr .none (.t 51) (.i 1))<|
 .p 53 [52,50] (.L (.t 52))<|
 .grp 53 true (.p 54 [0,53] JT<|
 .p 55 [6,53] (.L (.t 6))<|
 .p 56 [54,55,53] (.idxStr (.t 54) (.t 55))<|
 .p 57 [56,53] (.pp .eql .none (.t 56) y29)<|
 .nil) 58 [53,57,50] (.t 53) (.t 57) (.T y2)<|
 .nil) 59 50 58<|
 .m 60 59<|
 .gO 60 false (.p 61 [5,60] nj<|
 .p 62 [61,60] (.L (.t 61))<|
 .grp 62 true (.p 63 [0,62] JT<|
 .p 64 [6,62] (.L (.t 6))<|
 .p 65 [63,64,62] (.idxStr (.t 63) (.t 64))<|
 .p 66 [65,62] (.pp .eql .none (.t 65) y29)<|
 .nil) 67 [62,66,60] (.t 62) (.t 66) (.T y2)<|
 .nil) 68 60 67<|
 .m 69 68<|
 .gO 69 false (.p 70 [0,69] JT<|
 .p 71 [1,69] LU<|
 .op (some 72) (.int .u8) [70,71,69] (.call 106 [(.t 70),(.t 71)])<|
 .op (some 73) .bool [72,69] (.call 107 [(.t 72)])<|
 .nil) 74 69 73<|
 .m 75 74<|
 .gO 75 false (.p 76 [7,75] (.L (.t 7))<|
 .p 77 [76,75] (.pp .gtr .none (.t 76) (.T (V.int .u64 (AA 9223372036854775808))))<|
 .nil) 78 75 77<|
 .m 79 78<|
 .gO 79 false (.p 80 [5,79] nj<|
 .p 81 [80,79] (.un .not (.t 80))<|
 .p 82 [81,79] (.L (.t 81))<|
 .grp 82 true (.p 83 [7,82] (.L (.t 7))<|
 .p 84 [83,82] (.pp .eql .none (.t 83) (.T (V.int .u64 (AA 9223372036854775808))))<|
 .nil) 85 [82,84,79] (.t 82) (.t 84) (.T y2)<|
 .nil) 86 79 85<|
 .nil)
 (.cond (.tmp 86) (.z (.aX 4 Y5)
 .ret)
 .skip))
 (.z (.m 87 1<|
 .aG 4 87)
 .ret)))
def cU(E:EB)(D:Ac)(W:AF)(a:BS)(b:Int)(c:Bool)(d e:Int)(U:H):AE:=
 Ax (λf g=>
 Ax (λh i=>
 Ax (λj k=>
 Ax (λl m=>
 Ax (λn o=>
 Ax (λp q=>
 AK p (
 rI (A1 0) q) (
 rI b q)) λp=>
 AK n (
 p true o) (
 Ax (λn q=>
 p n q) λn=>
 AK (not c) (
 n (B8 e (AA 9223372036854775808)) o) (
 n false o))) λn=>
 AK l (
 n true m) (
 n (C5 (AA 9223372036854775808) e) m)) λl=>
 AK j (
 l true k) (
 CD (D 106 [.N a,.int .i64 b] k) λj k=>
 DZ .u8 j λj=>
 cB (D 107 [.int .u8 j] k) λj k=>
 l j k)) λj=>
 AK h (
 j true i) (
 Ax (λh k=>
 j h k) λh=>
 AK c (
 C8 a d λj=>
 h (B8 j (AA 48)) i) (
 h false i))) λh=>
 AK f (
 h true g) (
 Ax (λf i=>
 h f i) λf=>
 AK (C5 (AA 1) (Dj .i64 b d)) (
 C8 a d λh=>
 f (B8 h (AA 48)) g) (
 f false g))) λf=>
 AK (C5 (Dj .i64 b d) (AA 1)) (
 f true U) (
 f (C5 (AA 19) (Dj .i64 b d)) U)
def OF(a:XC):XC:=(.seq (.z (.cJ 17 1 0<|
 .b 20 .lss .none (.t 17) (.t 19)<|
 .m 21 20<|
 .gA 21 true (.p 22 [0,21] JT<|
 .bQ 23 1 21 LU 22 21 22<|
 .op (some 25) .bool [24,21] (.call 110 [(.t 24)])<|
 .nil) 26 21 25<|
 .nil)
 (.cond (.tmp 26) .skip
 LM))
 (.block 1 (.seq (.z (.aB 27 1 6<|
 .b 29 .sub .none (.t 27) (.t 28)<|
 .b 30 .lss .none (.t 29) (.i 19)<|
 .nil)
 (.cond (.tmp 30) (.Y (.m 31 7<|
 .b 32 .mul .none (.T (V.int .u64 (AA 10))) (.t 31)<|
 .bR 33 0 1<|
 .b 36 .sub .none (.t 35) y29<|
 .P 37 (.i7 (.jp .u64) (.t 36))<|
 .b 38 .add .none (.t 32) (.t 37)<|
 .aG 7 38))
 .skip))
 (.Q P3 [] [] a))))
def MK(E:EB)(D:Ac)(W:AF)(K2:BS->Int->Bool->Int->Int->H->AE)(i:BS->Int->Bool->Int->Int->H->AE)(a:BS)(b:Int)(c:Bool)(d e:Int)(U:H):AE:=
 Ax (λf g=>
 AK f (
 AK (C5 (Dj .i64 b d) (AA 19)) (
 C8 a b λf=>
 i a b c d (BQ .u64 (O3 .u64 (AA 10) e) (An .u64 (Dj .u8 f (AA 48)))) g) (
 i a b c d e g)) (
 K2 a b c d e g)) λf=>
 AK (C5 b (AA (BS.len a))) (
 C8 a b λg=>
 cB (D 110 [.int .u8 g] U) λg h=>
 f g h) (
 f false U)
def Kr:XC:=(.Y (.m 39 1<|
 .aC 40 39 1 1))
def VB(E:EB)(D:Ac)(W:AF)(f:BS->Int->Bool->Int->Int->H->AE)(a:BS)(b:Int)(c:Bool)(d e:Int)(U:H):AE:=
 f a (BQ .i64 b (AA 1)) c d e U
def AGx(a:BS)(b:Int)(U:H):St:=⟨[(0,.N a),(1,.int .i64 b)],[],[],U⟩
def AGw(a:BS)(b:Int)(c:Bool)(U:H):St:=⟨[(0,.N a),(1,.int .i64 b),(5,.bool c)],[],[],U⟩
def dI(a:BS)(b:Int)(c:Bool)(d e:Int)(U:H):St:=⟨[(0,.N a),(1,.int .i64 b),(5,.bool c),(6,.int .i64 d),(7,.int .u64 e)],[],[],U⟩
def Nt(E:EB)(D:Ac)(W:AF)(N:Nat):=cU E D W
def eg(E:EB)(D:Ac)(W:AF)(N:Nat)(a:BS->Int->Bool->Int->Int->H->AE):=VB E D W a
theorem ABe h:
 (λa b c d e U=>Au E D W N Kr (dI a b c d e U) (kX P3 [] [] h) (BR 1 (kX P3 [] [] h) (ACm E D W N Ks)) (Kh E))=eg E D W N (λa b c d e U=>h (dI a b c d e U)):=by
 unfold eg;generalize Ks=m;revert m;refine id ?_;intros;kernel_rfl
def Re(n:Nat):BS->Int->Bool->Int->Int->H->AE:=
 Nat.rec (λ_ _ _ _ _ _=>none) (λ_ a=>MK E D W (Nt E D W N ) (eg E D W N a)) n
theorem AAv n:
 (λa b c d e U=>BM (λk m=>Au E D W N (OF Kr) m (kX P3 [] [] k) (ACm E D W N Ks) (Kh E)) n (dI a b c d e U))=Re E D W N n:=lp6 (λp=>by rw[<-ABe];generalize Kr=l;revert l;refine id ?_;intros;kernel_rfl) n
def Nu:=AGG E D W (Re E D W N N)
theorem ABf:
 (λa b c U=>Au E D W N (WS Ks (OF Kr)) (AGw a b c U) (Kh E) nX (Kh E))=Nu E D W N:=by
 unfold Nu;rw[<-AAv];generalize OF Kr=j,Ks=k;revert j k;refine id ?_;intros;kernel_rfl
def ej:=ML E D W (Nu E D W N )
theorem ABg:
 (λa b U=>Au E D W N (xU (WS Ks (OF Kr))) (AGx a b U) (Kh E) nX (Kh E))=ej E D W N:=by
 unfold ej;rw[<-ABf];generalize WS Ks (OF Kr)=i;revert i;refine id ?_;intros;kernel_rfl
def nK(args:List V)(U:H):AE:=
 uU args λa b=>
 ej E D W N a b U
def AYt:DD:=⟨88,[.N,.i],[(.tmp 4)],(xU (WS Ks (OF Kr)))⟩
theorem AQD args U:BZ E D W N AYt args U=nK E D W N args U:=by
 unfold nK;rw[<-ABg];kernel_rfl
def ACT:List (Nat × Cc):=[(5,.N),(6,.any),(7,.i)]
def Rr(E:EB):St->AE:=λs=>Dc E s [(.tmp 4)] λl=>some (Dq l,s.U)
def AMj(c0:XC):Nat->St->AE:=BR 0 (dX E D W N (.Q [] [] [] c0) (Rr E) nX (Rr E)) nX
def xT(b:XC)(a:XC):XC:=(.z (.aL 4 0)
 (.z (.aB 9 0 1<|
 .p 11 [9,10] (.sliceStr (.t 9) (some (.t 10)) none)<|
 .m 5 11<|
 .nil)
 (.z (.p 12 [] (.buildSlice 9 13 [y5,y5,y5,y5,y5,y5,y5,y5,y5,y5,y5,y5,y5] [(0,1,(.T (V.N ⟨3,4012602⟩))),(1,1,(.T (V.N ⟨3,3026478⟩))),(2,1,(.T (V.N ⟨2,11822⟩))),(3,1,(.T (V.N ⟨2,23387⟩))),(4,1,(.T (V.N ⟨2,23901⟩))),(5,1,y39),(6,1,(.T (V.N ⟨1,125⟩))),(7,1,(.T (V.N ⟨1,91⟩))),(8,1,(.T (V.N ⟨1,93⟩))),(9,1,(.T (V.N ⟨1,40⟩))),(10,1,y40),(11,1,(.T (V.N ⟨1,44⟩))),(12,1,(.T (V.N ⟨1,58⟩)))])<|
 .m 6 12<|
 .nil)
 (.seq (.z (.aL 7 0)
 (.block 0 (.loop ACT [] [] a)))
 (.Q [] [] [] b)))))
def VA(E:EB)(D:Ac)(W:AF)(K2:BS->V->Int->H->AE)(a:BS)(b:Int)(U:H):AE:=
 DQ a (some (V.int .i64 b)) none λc=>
 let d:=Cb U (.cells [sN 3 4012602,sN 3 3026478,sN 2 11822,sN 2 23387,sN 2 23901,sN 1 123,sN 1 125,sN 1 91,sN 1 93,sN 1 40,sN 1 41,sN 1 44,sN 1 58]);
 K2 c (V.D (H.j U) 0 13 (.ex 13)) (AA 0) d
def WR:XC:=(.z (.aL 4 0)
 .ret)
def RM(E:EB)(D:Ac)(W:AF)(U:H):AE:=
 rI (AA 0) U
def WQ:XC:=(.seq (.z (.aB 13 7 6<|
 .u 15 14<|
 .aE 16 13 15)
 (.cond (.tmp 16) .skip
 LM))
 (.seq (.block 1 (.z (.bL 19 6 7 1 .N<|
 .P 23 (.len true (.t 22))<|
 .aG 8 23)
 (.seq (.us (.m 24 5<|
 .P 25 (.len true (.t 24))<|
 .m 26 8<|
 .b 27 .geq .none (.t 25) (.t 26)<|
 .m 28 27<|
 .gA 28 true (.p 29 [5,28] nj<|
 .p 30 [8,28] xq<|
 .p 31 [29,30,28] (.sliceStr (.t 29) none (some (.t 30)))<|
 .p 32 [6,28] (.L (.t 6))<|
 .aR 33 7 28 7 32 28 1 32<|
 .op (some 35) .N [34,28] (.load none (.t 34))<|
 .p 36 [31,35,28] (.pp .eql .none (.t 31) (.t 35))<|
 .nil) 37 28 36<|
 .nil) [0,1,0,7,15,31,31,127,31,31,799,1823,4095,8191])
 (.cond (.tmp 37) (.z (.m 38 8<|
 .aG 4 38)
 .ret)
 .skip))))
 (.Y (.m 17 7<|
 .aC 18 17 1 7))))
def MJ(E:EB)(D:Ac)(W:AF)(K1:H->AE)(h:BS->V->Int->H->AE)(a:BS)(b:V)(c:Int)(U:H):AE:=
 Ao b λd=>
 AK (C5 c (AA d)) (
 AS 1 b c λd e=>
 lS E U d e λd=>
 Ax (λe f=>
 AK e (
 rI (AA (BS.len d)) f) (
 h a b (BQ .i64 c (AA 1)) f)) λe=>
 AK (HL (AA (BS.len d)) (AA (BS.len a))) (
 DQ a none (some (V.int .i64 (AA (BS.len d)))) λd=>
 AS 1 b c λf g=>
 lS E U f g λf=>
 e (BS.beq d f) U) (
 e false U)) (
 K1 U)
def AGv(a:BS)(b:Int)(U:H):St:=⟨[(0,.N a),(1,.int .i64 b)],[],[],U⟩
def AGu(a:BS)(b:V)(c:Int)(U:H):St:=⟨[(5,.N a),(6,b),(7,.int .i64 c)],[],[],U⟩
def AIW(E:EB)(D:Ac)(W:AF)(N:Nat):=RM E D W
def Rd(n:Nat):BS->V->Int->H->AE:=
 Nat.rec (λ_ _ _ _=>none) (λ_ a=>MJ E D W (AIW E D W N ) a) n
theorem AAu n:
 (λa b c U=>BM (λe f=>Au E D W N WQ f (kX ACT [] [] e) (AMj E D W N WR) (Rr E)) n (AGu a b c U))=Rd E D W N n:=xi (λ_=>by kernel_rfl) n
def eZ:=VA E D W (Rd E D W N N)
theorem ABd:
 (λa b U=>Au E D W N (xT WR WQ) (AGv a b U) (Rr E) nX (Rr E))=eZ E D W N:=by
 unfold eZ;rw[<-AAu];generalize WR=i,WQ=j;revert i j;refine id ?_;intros;kernel_rfl
def nJ(args:List V)(U:H):AE:=
 uU args λa b=>
 eZ E D W N a b U
def AYs:DD:=⟨39,[.N,.i],[(.tmp 4)],(xT WR WQ)⟩
theorem AQC args U:BZ E D W N AYs args U=nJ E D W N args U:=by
 unfold nJ;rw[<-ABd];kernel_rfl
def ACS:List (Nat × Cc):=[(0,.N),(3,.bool),(4,(.int .u64)),(5,.i)]
def ACR:List (Nat × Cc):=[(3,.bool),(4,(.int .u64))]
def MV(E:EB):St->AE:=λs=>Dc E s [(.tmp 2)] λl=>some (Dq l,s.U)
def AMi(c0:XC):Nat->St->AE:=BR 0 (dX E D W N (.Q ACR [] [] c0) (MV E) nX (MV E)) nX
def xS(a:XC):XC:=(.z (.aL 2 0)
 (.z (.m 6 0<|
 .P 7 (.idxStr (.t 6) (.i 0))<|
 .b 8 .eql .none (.t 7) xe<|
 .m 3 8<|
 .nil)
 (.seq (.z (.aG 9 3)
 (.cond (.tmp 9) (.Y (.m 10 0<|
 .p 11 [10] (.sliceStr (.t 10) (some (.i 1)) none)<|
 .aG 0 11))
 .skip))
 (.Q [(0,.N),(3,.bool)] [] [] a))))
def MI(E:EB)(D:Ac)(W:AF)(K1:BS->Bool->H->AE)(a:BS)(U:H):AE:=
 C8 a (AA 0) λb=>
 AK (B8 b (AA 45)) (
 DQ a (some (iN 1)) none λc=>
 K1 c (B8 b (AA 45)) U) (
 K1 a (B8 b (AA 45)) U)
def WO(a:XC)(b:XC):XC:=(.z (.aX 4 y30)
 (.seq (.z (.aL 5 0)
 (.block 0 (.loop ACS [] [] b)))
 (.Q ACR [] [] a)))
def AGF(E:EB)(D:Ac)(W:AF)(c:BS->Bool->Int->Int->H->AE)(a:BS)(b:Bool)(U:H):AE:=
 c a b (AA 0) (AA 0) U
def OE:XC:=(.seq (.z (.aG 26 3)
 (.cond (.tmp 26) (.z (.m 27 4<|
 .b 28 .sub .none (.t 27) xr<|
 .P 29 (.i7 (.jp .i64) (.t 28))<|
 .P 30 (.un .neg (.t 29))<|
 .b 31 .sub .none (.t 30) (.i 1)<|
 .aG 2 31)
 .ret)
 .skip))
 (.z (.m 32 4<|
 .P 33 (.i7 (.jp .i64) (.t 32))<|
 .aG 2 33)
 .ret))
def RK(E:EB)(D:Ac)(W:AF)(a:Bool)(b:Int)(U:H):AE:=
 AK a (
 rI (Dj .i64 (pt .i64 (An .i64 (Dj .u64 b (AA 1)))) (AA 1)) U) (
 rI (An .i64 b) U)
def OD:XC:=(.seq (.z (.cJ 12 5 0<|
 .aE 15 12 14)
 (.cond (.tmp 15) .skip
 LM))
 (.seq (.block 1 (.Y (.m 18 4<|
 .b 19 .mul .none (.T (V.int .u64 (AA 10))) (.t 18)<|
 .bR 20 0 5<|
 .b 23 .sub .none (.t 22) y29<|
 .P 24 (.i7 (.jp .u64) (.t 23))<|
 .b 25 .add .none (.t 19) (.t 24)<|
 .aG 4 25)))
 (.Y (.m 16 5<|
 .aC 17 16 1 5))))
def MH(E:EB)(D:Ac)(W:AF)(K2:Bool->Int->H->AE)(f:BS->Bool->Int->Int->H->AE)(a:BS)(b:Bool)(c d:Int)(U:H):AE:=
 AK (C5 d (AA (BS.len a))) (
 C8 a d λe=>
 f a b (BQ .u64 (O3 .u64 (AA 10) c) (An .u64 (Dj .u8 e (AA 48)))) (BQ .i64 d (AA 1)) U) (
 K2 b c U)
def AGt(a:BS)(U:H):St:=⟨[(0,.N a)],[],[],U⟩
def AGs(a:BS)(b:Bool)(U:H):St:=⟨[(0,.N a),(3,.bool b)],[],[],U⟩
def AGr(a:BS)(b:Bool)(c d:Int)(U:H):St:=⟨[(0,.N a),(3,.bool b),(4,.int .u64 c),(5,.int .i64 d)],[],[],U⟩
def Nr(E:EB)(D:Ac)(W:AF)(N:Nat):=RK E D W
def Vm(n:Nat):BS->Bool->Int->Int->H->AE:=
 Nat.rec (λ_ _ _ _ _=>none) (λ_ a=>MH E D W (Nr E D W N ) a) n
theorem AAt n:
 (λa b c d U=>BM (λf g=>Au E D W N OD g (kX ACS [] [] f) (AMi E D W N OE) (MV E)) n (AGr a b c d U))=Vm E D W N n:=O4 (λ_=>by kernel_rfl) n
def Ns:=AGF E D W (Vm E D W N N)
theorem ABb:
 (λa b U=>Au E D W N (WO OE OD) (AGs a b U) (MV E) nX (MV E))=Ns E D W N:=by
 unfold Ns;rw[<-AAt];generalize OE=i,OD=j;revert i j;refine id ?_;intros;kernel_rfl
def eY:=MI E D W (Ns E D W N )
theorem ABc:
 (λa U=>Au E D W N (xS (WO OE OD)) (AGt a U) (MV E) nX (MV E))=eY E D W N:=by
 unfold eY;rw[<-ABb];generalize WO OE OD=h;revert h;refine id ?_;intros;kernel_rfl
def nH(args:List V)(U:H):AE:=
 Ti args λa b=>
 Ay b (
 eY E D W N a U)
def AYr:DD:=⟨34,[.N],[(.tmp 2)],(xS (WO OE OD))⟩
theorem AQB args U:BZ E D W N AYr args U=nH E D W N args U:=by
 unfold nH;rw[<-ABc];kernel_rfl
def OS:List (Nat × Cc):=[(0,.o),(1,.o)]
def Nz:List BO:=[⟨(some 49),.L (.tmp 1),none⟩,⟨(some 50),.L (.tmp 1),none⟩,⟨(some 51),.rg (.tmp 50),none⟩,⟨(some 52),.C 11 (.tmp 51),none⟩,⟨(some 53),.load none (.tmp 52),none⟩,⟨(some 54),.load (some 3) (.tmp 4),none⟩,⟨(some 55),.buildSlice 194 1 [(V.N ⟨0,0⟩),(V.int .i64 (AA 0)),(V.bool false)] [(0,3,(.tmp 54))],none⟩,⟨(some 56),.append 194 3 32 (.tmp 53) (.tmp 55),none⟩,⟨(some 57),.rg (.tmp 49),none⟩,⟨(some 58),.C 11 (.tmp 57),none⟩,⟨none,.store 1 (.tmp 58) (.tmp 56),none⟩]
def Ke:List DP:=[⟨0,[1]⟩,⟨0,[1]⟩,⟨2,[50]⟩,⟨6,[51]⟩,⟨14,[52]⟩,⟨0,[4]⟩,⟨32,[54]⟩,⟨126,[53,55]⟩,⟨255,[49]⟩,⟨511,[57]⟩,⟨1023,[58,56]⟩]
def Kg(E:EB):St->AE:=λs=>Dc E s [] λl=>some (Dq l,s.U)
def ACl(c0:XC):Nat->St->AE:=BR 0 (dX E D W N (.Q [(1,.o)] [] [] c0) (Kg E) nX (Kg E)) nX
def rT(c0:XC)(a:St->AE):Nat->St->AE:=BR 1 (kX OS [] [] a) (ACl E D W N c0)
def xR(b:XC)(a:XC):XC:=(.seq (.block 0 (.loop OS [] [] a))
 (.Q [(1,.o)] [] [] b))
def AGE(E:EB)(D:Ac)(W:AF)(K2:Nat->Nat->Nat->Nat->H->AE)(a b c d:Nat)(U:H):AE:=
 K2 a b c d U
def Kq:XC:=(.z (.aI 62 1<|
 .aA 64 14 63 .bool<|
 .bK 66 65)
 (.cond (.tmp 66) (.Y (.aB 67 1 1<|
 .n 69 68<|
 .aP 70 11 69<|
 .n 73 67<|
 .bC 74 13 73 1 72))
 .skip))
def Nl(E:EB)(D:Ac)(W:AF)(a b:Nat)(U:H):AE:=
 lB E U a (AM b 14) λc=>
 AK (not c) (
 lL E U a (AM b 11) λc=>
 DO 1 a (AM b 13) (V.int .i64 (AA c)) U λc=>
 r0 c) (
 r0 U)
def WN(b:XC)(a:XC):XC:=(.seq (.z (.aI 5 0<|
 .f 7 7 6<|
 .l 8 .i 7<|
 .cI 9 8 0)
 nW)
 (.block 1 (.seq (.z (.aI 10 1<|
 .aP 12 11 11<|
 .b 15 .gtr .none (.t 14) (.i 0)<|
 .m 16 15<|
 .gA 16 true (.bN 17 1 16 LU 16<|
 .bH 19 18 16 14 18 16<|
 .p 21 [20,16] (.un .not (.t 20))<|
 .nil) 22 16 21<|
 .m 23 22<|
 .gA 23 true (.p 24 [0,23] JT<|
 .op (some 25) .bool [24,23] (.call 30 [(.t 24),(.T (V.N ⟨3,3026478⟩))])<|
 .nil) 26 23 25<|
 .nil)
 (.cond (.tmp 26) (.Y (.aB 27 1 1<|
 .aI 29 1<|
 .aP 31 11 30<|
 .n 34 27<|
 .f 35 14 34<|
 .op none .any [35] (.store 1 (.t 35) We)<|
 .n 36 28<|
 .bC 37 13 36 1 33))
 (.z (.m 38 0<|
 .k 39 .N 28 [(.t 38),(.i 2)]<|
 .op (some 40) nV [39] (.build [y5,y0,y2] [(0,1,(.t 39))])<|
 .p 4 [] (.alloc 194 [y5,y0,y2])<|
 .op none nV [4,40] (.store 3 (.t 4) (.t 40))<|
 .nil)
 (.seq (.z (.aV 41 0 .bool 30 1 40<|
 .nil)
 (.cond (.tmp 42) (.z (.cG 43 0 .i 63<|
 .f 45 2 4<|
 .op none .any [45] (.store 1 (.t 45) We)<|
 .bC 46 1 4 1 44)
 (.Y (.m 47 0<|
 .k 48 y8 29 [(.t 47),y40]<|
 .nil)))
 .skip))
 (.Q [(0,.o),(1,.o),(4,.o)] [] [] a)))))
 (.Q OS [] [] b))))
def RJ(E:EB)(D:Ac)(W:AF)(K1:Nat->Nat->H->AE)(m:Nat->Nat->Nat->Nat->H->AE)(l:Nat->Nat->Nat->Nat->Nat->Nat->H->AE)(a b c d:Nat)(U:H):AE:=
 lI E U a (AM b 7) λe=>
 AK (B8 e (AA 0)) (
 lL E U c (AM d 11) λe=>
 Ax (λf g=>
 Ax (λh i=>
 AK h (
 lL E i c (AM d 11) λh=>
 DO 1 c (AM d 14) (V.bool true) i λj=>
 DO 1 c (AM d 13) (V.int .i64 (AA h)) j λh=>
 m a b c d h) (
 cS (D 28 [.o a b,iN 2] i) λh i=>
 let j:=Cb i (.cells [.N ⟨0,0⟩,iN 0,.bool false]);
 DO 3 (H.j i) 0 (V.agg [.N h,iN 0,.bool false]) j λh=>
 cB (D 30 [.o a b,sN 1 40] h) λh j=>
 AK h (
 cI (D 63 [.o a b] j) λh k=>
 DO 1 (H.j i) 2 (V.bool true) k λk=>
 DO 1 (H.j i) 1 (V.int .i64 h) k λh=>
 c0 (D 29 [.o a b,sN 1 41] h) λh=>
 l a b c d (H.j i) 0 h) (
 l a b c d (H.j i) 0 j))) λh=>
 AK f (
 cB (D 30 [.o a b,sN 3 3026478] g) λf i=>
 h f i) (
 h false g)) λf=>
 AK (C5 (AA 0) (AA e)) (
 lB E U c (AM d 14) λe=>
 f (not e) U) (
 f false U)) (
 K1 c d U)
def Kp:XC:=(.z (.aV 59 0 .bool 30 1 44<|
 .bK 61 60)
 (.cond (.tmp 61) LM
 .skip))
def Nk(E:EB)(D:Ac)(W:AF)(K1:Nat->Nat->H->AE)(g:Nat->Nat->Nat->Nat->H->AE)(a b c d:Nat)(U:H):AE:=
 cB (D 30 [.o a b,sN 1 44] U) λe f=>
 AK (not e) (
 K1 c d f) (
 g a b c d f)
def OC:XC:=(.Q [(0,.o),(1,.o),(4,.o)] [] [] (.wl Nz Ke OS))
def RI(E:EB)(D:Ac)(W:AF)(l:Nat->Nat->Nat->Nat->H->AE)(a b c d e f:Nat)(U:H):AE:=
 CM (W Nz Ke [(0,.o a b),(1,.o c d),(4,.o e f)] U) λg h=>
 Bj g 0 λi=>
 BL i λi j=>
 Bj g 1 λg=>
 BL g λg k=>
 l i j g k h
def RX(a b c d:Nat)(U:H):St:=⟨[(0,.o a b),(1,.o c d)],[],[],U⟩
def AGq(a b c d e f:Nat)(U:H):St:=⟨[(0,.o a b),(1,.o c d),(4,.o e f)],[],[],U⟩
def wD(E:EB)(D:Ac)(W:AF)(N:Nat):=Nl E D W
def Vv(a:Nat->Nat->Nat->Nat->H->AE):=Nk E D W (wD E D W N ) a
theorem jc f:
 (λa b c d U=>Au E D W N Kp (RX a b c d U) (kX OS [] [] f) (rT E D W N Kq f) (Kg E))=Vv E D W N (λa b c d U=>f (RX a b c d U)):=by
 unfold Vv;kernel_rfl
def eW(a:Nat->Nat->Nat->Nat->H->AE):=RI E D W (Vv E D W N a)
theorem ABZ g:
 (λa b c d e f U=>Au E D W N OC (AGq a b c d e f U) (dX E D W N (.Q OS [] [] Kp) (kX OS [] [] g) (rT E D W N Kq g) (Kg E)) (rT E D W N Kq g) (Kg E))=eW E D W N (λa b c d U=>g (RX a b c d U)):=by
 unfold eW;rw[<-jc];generalize Kq=n,Kp=o;revert n o;refine id ?_;intros;kernel_rfl
def Rc(n:Nat):Nat->Nat->Nat->Nat->H->AE:=
 Nat.rec (λ_ _ _ _ _=>none) (λ_ a=>RJ E D W (wD E D W N ) (Vv E D W N a) (eW E D W N a)) n
theorem AAs n:
 (λa b c d U=>BM (λj l=>Au E D W N (WN Kp OC) l (kX OS [] [] j) (ACl E D W N Kq) (Kg E)) n (RX a b c d U))=Rc E D W N n:=O4 (λp=>by rw[<-jc,<-ABZ];generalize Kp=k,OC=m;revert k m;refine id ?_;intros;kernel_rfl) n
def eX:=AGE E D W (Rc E D W N N)
theorem ABa:
 (λa b c d U=>Au E D W N (xR Kq (WN Kp OC)) (RX a b c d U) (Kg E) nX (Kg E))=eX E D W N:=by
 unfold eX;rw[<-AAs];generalize WN Kp OC=k,Kq=l;revert k l;refine id ?_;intros;kernel_rfl
def nG(args:List V)(U:H):AE:=
 uAF args λa b c d=>
 eX E D W N a b c d U
def AYq:DD:=⟨75,[.o,.o],[],(xR Kq (WN Kp OC))⟩
theorem AQA args U:BZ E D W N AYq args U=nG E D W N args U:=by
 unfold nG;rw[<-ABa];kernel_rfl
def KD:List (Nat × Cc):=[(0,.o),(1,.o),(2,.i),(6,.i)]
def pU:List (Nat × Cc):=[(0,.o),(1,.o)]
def HT(E:EB):St->AE:=λs=>Dc E s [] λl=>some (Dq l,s.U)
def Xz(c0:XC)(a:St->AE):Nat->St->AE:=BR 1 (kX KD [] [] a) (BR 0 (dX E D W N (.Q pU [] [] c0) (HT E) nX (HT E)) nX)
def Xy(c0 b:XC)(a:St->AE):St->AE:=dX E D W N (.Q KD [] [] c0) (kX KD [] [] a) (Xz E D W N b a) (HT E)
def AMh(c0 c a:XC)(b:St->AE):Nat->St->AE:=BR 3 (dX E D W N (.Q KD [] [] c0) (Xy E D W N c a b) (BR 2 (Xy E D W N c a b) (Xz E D W N a b)) (HT E)) (BR 2 (Xy E D W N c a b) (Xz E D W N a b))
def AMg(c0:XC):Nat->St->AE:=BR 0 (dX E D W N (.Q pU [] [] c0) (HT E) nX (HT E)) nX
def xQ(b:XC)(a:XC):XC:=(.seq (.z (.aV 7 0 .bool 30 1 125<|
 .nil)
 (.cond (.tmp 8) .ret
 .skip))
 (.z (.aL 6 0)
 (.seq (.block 0 (.loop KD [] [] a))
 (.Q pU [] [] b))))
def RH(E:EB)(D:Ac)(W:AF)(K2:Nat->Nat->Nat->Nat->Int->Int->H->AE)(a b c d:Nat)(e:Int)(U:H):AE:=
 cB (D 30 [.o a b,sN 1 125] U) λf g=>
 AK f (
 r0 g) (
 K2 a b c d e (AA 0) g)
def IN:XC:=(.z (.bB 68 0 y8 29 1 125)
 (.z (.aI 70 1<|
 .aA 72 14 71 .bool<|
 .bK 74 73)
 (.cond (.tmp 74) (.Y (.aB 75 1 1<|
 .n 77 76<|
 .aP 78 12 77<|
 .n 81 75<|
 .bC 82 13 81 1 80))
 .skip)))
def RG(E:EB)(D:Ac)(W:AF)(a b c d:Nat)(U:H):AE:=
 c0 (D 29 [.o a b,sN 1 125] U) λe=>
 lB E e c (AM d 14) λf=>
 AK (not f) (
 lL E e c (AM d 12) λf=>
 DO 1 c (AM d 13) (V.int .i64 (AA f)) e λf=>
 r0 f) (
 r0 e)
def WM(b:XC)(c:XC)(a:XC):XC:=(.seq (.z (.aI 9 0<|
 .aK 11 7 10 0<|
 .nil)
 y41)
 (.block 1 (.seq (.block 2 (.z (.aI 19 1<|
 .aA 21 14 20 .bool<|
 .P 23 (.un .not (.t 22))<|
 .m 24 23<|
 .gA 24 true (.p 25 [0,24] JT<|
 .op (some 26) .bool [25,24] (.call 30 [(.t 25),(.T (V.N ⟨3,3026478⟩))])<|
 .nil) 27 24 26<|
 .m 18 27<|
 .nil)
 (.cond (.tmp 18) (.Y (.aB 28 1 1<|
 .aI 30 1<|
 .aP 32 12 31<|
 .n 35 28<|
 .f 36 14 35<|
 .op none .any [36] (.store 1 (.t 36) We)<|
 .n 37 29<|
 .bC 38 13 37 1 34))
 (.z (.aI 40 1<|
 .aA 42 14 41 .bool<|
 .m 44 43<|
 .gA 44 true (.p 45 [0,44] JT<|
 .op (some 46) .bool [45,44] (.call 30 [(.t 45),(.T (V.N ⟨2,23387⟩))])<|
 .nil) 47 44 46<|
 .m 39 47<|
 .nil)
 (.cond (.tmp 39) (.z (.m 48 6<|
 .aC 49 48 1 6)
 (.seq (.block 3 (.loop KD [] [] a))
 (.Q KD [] [] c)))
 (.Y (.bS 14 0 1 2<|
 .k 17 y8 158 [(.t 14),(.t 15),(.t 16),(.i 0)]<|
 .nil)))))))
 (.Q KD [] [] b))))
def Nj(E:EB)(D:Ac)(W:AF)(K1:Nat->Nat->Nat->Nat->H->AE)(l:Nat->Nat->Nat->Nat->Int->Int->H->AE)(K5:Nat->Nat->Nat->Nat->Int->Int->H->AE)(a b c d:Nat)(e f:Int)(U:H):AE:=
 lI E U a (AM b 7) λg=>
 AK (B8 g (AA 0)) (
 lB E U c (AM d 14) λg=>
 Ax (λh i=>
 AK h (
 lL E i c (AM d 12) λh=>
 DO 1 c (AM d 14) (V.bool true) i λj=>
 DO 1 c (AM d 13) (V.int .i64 (AA h)) j λh=>
 l a b c d e f h) (
 lB E i c (AM d 14) λh=>
 Ax (λj k=>
 AK j (
 K5 a b c d e (BQ .i64 f (AA 1)) k) (
 c0 (D 158 [.o a b,.o c d,.int .i64 e,iN 0] k) λj=>
 l a b c d e f j)) λj=>
 AK h (
 cB (D 30 [.o a b,sN 2 23387] i) λh k=>
 j h k) (
 j false i))) λh=>
 AK (not g) (
 cB (D 30 [.o a b,sN 3 3026478] U) λg i=>
 h g i) (
 h false U)) (
 K1 a b c d U)
def IM:XC:=(.z (.aV 65 0 .bool 30 1 44<|
 .bK 67 66)
 (.cond (.tmp 67) LM
 .skip))
def RF(E:EB)(D:Ac)(W:AF)(K1:Nat->Nat->Nat->Nat->H->AE)(i:Nat->Nat->Nat->Nat->Int->Int->H->AE)(a b c d:Nat)(e f:Int)(U:H):AE:=
 cB (D 30 [.o a b,sN 1 44] U) λg h=>
 AK (not g) (
 K1 a b c d h) (
 i a b c d e f h)
def Ko:XC:=(.Y (.bB 63 0 y8 29 2 23901))
def AGD(E:EB)(D:Ac)(W:AF)(h:Nat->Nat->Nat->Nat->Int->Int->H->AE)(a b c d:Nat)(e f:Int)(U:H):AE:=
 c0 (D 29 [.o a b,sN 2 23901] U) λg=>
 h a b c d e f g
def OB:XC:=(.seq (.z (.aI 50 0<|
 .aK 52 7 51 0<|
 .nil)
 (.cond (.tmp 54) .skip
 (.exit 3)))
 (.block 4 (.z (.aB 55 0 1<|
 .aB 57 2 6<|
 .k 59 y8 158 [(.t 55),(.t 56),(.t 57),(.t 58)]<|
 .nil)
 (.z (.aV 60 0 .bool 30 1 44<|
 .bK 62 61)
 (.cond (.tmp 62) (.exit 3)
 .skip)))))
def AGC(E:EB)(D:Ac)(W:AF)(i:Nat->Nat->Nat->Nat->Int->Int->H->AE)(j:Nat->Nat->Nat->Nat->Int->Int->H->AE)(a b c d:Nat)(e f:Int)(U:H):AE:=
 lI E U a (AM b 7) λg=>
 AK (B8 g (AA 0)) (
 c0 (D 158 [.o a b,.o c d,.int .i64 e,.int .i64 f] U) λg=>
 cB (D 30 [.o a b,sN 1 44] g) λg h=>
 AK (not g) (
 i a b c d e f h) (
 j a b c d e f h)) (
 i a b c d e f U)
def AGp(a b c d:Nat)(e:Int)(U:H):St:=⟨[(0,.o a b),(1,.o c d),(2,.int .i64 e)],[],[],U⟩
def MS(a b c d:Nat)(e f:Int)(U:H):St:=⟨[(0,.o a b),(1,.o c d),(2,.int .i64 e),(6,.int .i64 f)],[],[],U⟩
def wC(E:EB)(D:Ac)(W:AF)(N:Nat):=RG E D W
def Vu(a:Nat->Nat->Nat->Nat->Int->Int->H->AE):=RF E D W (wC E D W N ) a
theorem ja h:
 (λa b c d e f U=>Au E D W N IM (MS a b c d e f U) (kX KD [] [] h) (Xz E D W N IN h) (HT E))=Vu E D W N (λa b c d e f U=>h (MS a b c d e f U)):=by
 unfold Vu;kernel_rfl
def eU(a:Nat->Nat->Nat->Nat->Int->Int->H->AE):=AGD E D W (Vu E D W N a)
theorem ABX g:
 (λa b c d e f U=>Au E D W N Ko (MS a b c d e f U) (Xy E D W N IM IN g) (BR 2 (Xy E D W N IM IN g) (Xz E D W N IN g)) (HT E))=eU E D W N (λa b c d e f U=>g (MS a b c d e f U)):=by
 unfold eU;rw[<-ja];generalize IN=n,IM=o;revert n o;refine id ?_;intros;kernel_rfl
def vC(b:Nat->Nat->Nat->Nat->Int->Int->H->AE)(n:Nat):Nat->Nat->Nat->Nat->Int->Int->H->AE:=
 Nat.rec (λ_ _ _ _ _ _ _=>none) (λ_ a=>AGC E D W (eU E D W N b) a) n
theorem AAq i n:
 (λa b c d e f U=>BM (λm p=>Au E D W N OB p (kX KD [] [] m) (AMh E D W N Ko IM IN i) (HT E)) n (MS a b c d e f U))=vC E D W N (λa b c d e f U=>i (MS a b c d e f U)) n:=zH (λt=>by rw[<-ABX];generalize IN=o,IM=q,Ko=r;revert o q r;refine id ?_;intros;kernel_rfl) n
def Rb(n:Nat):Nat->Nat->Nat->Nat->Int->Int->H->AE:=
 Nat.rec (λ_ _ _ _ _ _ _=>none) (λ_ a=>Nj E D W (wC E D W N ) (Vu E D W N a) (vC E D W N a N)) n
theorem AAr n:
 (λa b c d e f U=>BM (λl o=>Au E D W N (WM IM Ko OB) o (kX KD [] [] l) (AMg E D W N IN) (HT E)) n (MS a b c d e f U))=Rb E D W N n:=zH (λs=>by rw[<-ja,<-AAq];generalize IM=m,Ko=p,OB=q;revert m p q;refine id ?_;intros;kernel_rfl) n
def eV:=RH E D W (Rb E D W N N)
theorem ABY:
 (λa b c d e U=>Au E D W N (xQ IN (WM IM Ko OB)) (AGp a b c d e U) (HT E) nX (HT E))=eV E D W N:=by
 unfold eV;rw[<-AAr];generalize WM IM Ko OB=l,IN=m;revert l m;refine id ?_;intros;kernel_rfl
def nF(args:List V)(U:H):AE:=
 uW args λa b c d e=>
 eV E D W N a b c d e U
def AYp:DD:=⟨83,[.o,.o,.i],[],(xQ IN (WM IM Ko OB))⟩
theorem AP9 args U:BZ E D W N AYp args U=nF E D W N args U:=by
 unfold nF;rw[<-ABY];kernel_rfl
def AI4(b:XC)(a:XC):XC:=(.z (.ol 2 [] 182 [y0,y0]<|
 .nil)
 (.seq (.z (.aG 3 0)
 (.block 0 (.z (.aD 5 3 1 4)
 (.cond (.tmp 4) (.z (.op (some 6) Il [] (.build [y0,y0] [(1,1,(.i 1))])<|
 .op none Il [2,6] (.store 2 (.t 2) (.t 6))<|
 .nil)
 .ret)
 (.z (.aD 8 3 2 7)
 (.cond (.tmp 7) (.z (.op (some 9) Il [] (.build [y0,y0] [(1,1,(.i 2))])<|
 .op none Il [2,9] (.store 2 (.t 2) (.t 9))<|
 .nil)
 .ret)
 (.z (.aD 11 3 5 10)
 (.cond (.tmp 10) (.z (.op (some 12) Il [] (.build [y0,y0] [(1,1,(.i 4))])<|
 .op none Il [2,12] (.store 2 (.t 2) (.t 12))<|
 .nil)
 .ret)
 (.z (.aD 14 3 4 13)
 (.cond (.tmp 13) (.z (.op (some 15) Il [] (.build [y0,y0] [(1,1,(.i 5))])<|
 .op none Il [2,15] (.store 2 (.t 2) (.t 15))<|
 .nil)
 .ret)
 (.z (.aD 17 3 3 16)
 (.cond (.tmp 16) (.z (.op (some 18) Il [] (.build [y0,y0] [(1,1,(.i 10))])<|
 .op none Il [2,18] (.store 2 (.t 2) (.t 18))<|
 .nil)
 .ret)
 (.z (.aD 20 3 6 19)
 (.cond (.tmp 19) (.z (.op (some 21) Il [] (.build [y0,y0] [(1,1,(.i 12))])<|
 .op none Il [2,21] (.store 2 (.t 2) (.t 21))<|
 .nil)
 .ret)
 (.seq (.z (.aD 23 3 7 22)
 (.cond (.tmp 22) .skip
 (.Y (.aD 24 3 10 22))))
 (.Q [(3,.i),(22,.bool)] [2] [(2,[.i,.i])] a))))))))))))))))
 (.Q [] [2] [(2,[.i,.i])] b)))
def AGB(E:EB)(D:Ac)(W:AF)(K2:Int->Bool->Int->Int->H->AE)(a:Int)(U:H):AE:=
 AK (B8 a (AA 1)) (
 some ((V.agg [iN 0,iN 1]),U)) (
 AK (B8 a (AA 2)) (
 some ((V.agg [iN 0,iN 2]),U)) (
 AK (B8 a (AA 5)) (
 some ((V.agg [iN 0,iN 4]),U)) (
 AK (B8 a (AA 4)) (
 some ((V.agg [iN 0,iN 5]),U)) (
 AK (B8 a (AA 3)) (
 some ((V.agg [iN 0,iN 10]),U)) (
 AK (B8 a (AA 6)) (
 some ((V.agg [iN 0,iN 12]),U)) (
 AK (B8 a (AA 7)) (
 K2 a (B8 a (AA 7)) (AA 0) (AA 0) U) (
 K2 a (B8 a (AA 10)) (AA 0) (AA 0) U)))))))
def AI3:XC:=(.z (.op (some 29) Il [] (.build [y0,y0] [])<|
 .op none Il [2,29] (.store 2 (.t 2) (.t 29))<|
 .nil)
 .ret)
def AGA(E:EB)(D:Ac)(W:AF)(a b:Int)(U:H):AE:=
 some ((V.agg [iN 0,iN 0]),U)
def AI2:XC:=(.cond (.tmp 22) (.z (.op (some 25) Il [] (.build [y0,y0] [(1,1,(.i 16))])<|
 .op none Il [2,25] (.store 2 (.t 2) (.t 25))<|
 .nil)
 .ret)
 (.z (.aD 27 3 8 26)
 (.cond (.tmp 26) (.z (.op (some 28) Il [] (.build [y0,y0] [(1,1,(.i 17))])<|
 .op none Il [2,28] (.store 2 (.t 2) (.t 28))<|
 .nil)
 .ret)
 .skip)))
def AF9(E:EB)(D:Ac)(W:AF)(K1:Int->Int->H->AE)(a:Int)(b:Bool)(c d:Int)(U:H):AE:=
 AK b (
 some ((V.agg [iN 0,iN 16]),U)) (
 AK (B8 a (AA 8)) (
 some ((V.agg [iN 0,iN 17]),U)) (
 K1 c d U))
def AIV(E:EB)(D:Ac)(W:AF)(N:Nat):=AGA E D W
def AIU:=AF9 E D W (AIV E D W N )
def wv(args:List V)(U:H):AE:=
 D3 .i64 args λa b=>
 Ay b (
 AGB E D W (AIU E D W N ) a U)
def AYo:DD:=⟨30,[.i],[(.cell 2 (some 2))],(AI4 AI3 AI2)⟩
theorem AP8 args U:BZ E D W N AYo args U=wv E D W N args U:=by kernel_rfl
end
noncomputable section
variable (E:EB) (D:Ac) (W:AF) (N:Nat)
def fz:List (Nat × Cc):=[(0,.any),(3,.o),(5,.any),(9,.i),(10,.bool),(11,.bool),(12,.i),(14,.i)]
def IU:List (Nat × Cc):=[(0,.any),(3,.o),(5,.any),(9,.i),(10,.bool),(11,.bool),(12,.i)]
def ACQ:List (Nat × Cc):=[(0,.any),(5,.any),(11,.bool),(15,.i),(16,.i)]
def H4:List (Nat × Cc):=[(0,.any),(3,.o),(5,.any),(6,.i),(7,.i)]
def OR:List (Nat × Cc):=[(0,.any),(5,.any),(11,.bool),(15,.i)]
def OQ:List (Nat × Cc):=[(0,.any),(5,.any),(11,.bool)]
def XD:List (Nat × Cc):=[(0,.any),(3,.o),(5,.any)]
def SX:List (Nat × List Cc):=[(13,[.N,.i,.bool])]
def P2:List (Nat × List Cc):=[(8,[.N,.i,.bool])]
def Bq(E:EB):St->AE:=λs=>Dc E s [(.tmp 4)] λl=>some (Dq l,s.U)
def Sy(c0 a:XC)(b:St->AE):Nat->St->AE:=BR 1 (dX E D W N (.Q H4 [] [] c0) (kX H4 [] [] b) (BR 0 (dX E D W N (.Q XD [] [] a) (Bq E) nX (Bq E)) nX) (Bq E)) (BR 0 (dX E D W N (.Q XD [] [] a) (Bq E) nX (Bq E)) nX)
def ACk(c0 b a:XC)(c:St->AE):Nat->St->AE:=BR 6 (dX E D W N (.Q IU [13] SX c0) (dX E D W N (.Q IU [] [] b) (kX IU [] [] c) (BR 4 (dX E D W N (.Q OQ [] [] a) (Bq E) nX (Bq E)) nX) (Bq E)) (BR 5 (dX E D W N (.Q IU [] [] b) (kX IU [] [] c) (BR 4 (dX E D W N (.Q OQ [] [] a) (Bq E) nX (Bq E)) nX) (Bq E)) (BR 4 (dX E D W N (.Q OQ [] [] a) (Bq E) nX (Bq E)) nX)) (Bq E)) (BR 5 (dX E D W N (.Q IU [] [] b) (kX IU [] [] c) (BR 4 (dX E D W N (.Q OQ [] [] a) (Bq E) nX (Bq E)) nX) (Bq E)) (BR 4 (dX E D W N (.Q OQ [] [] a) (Bq E) nX (Bq E)) nX))
def M3(c0:XC):St->AE:=dX E D W N (.Q OQ [] [] c0) (Bq E) nX (Bq E)
def rR(c0 b:XC)(a:St->AE):St->AE:=dX E D W N (.Q H4 [] [] c0) (kX H4 [] [] a) (BR 0 (dX E D W N (.Q XD [] [] b) (Bq E) nX (Bq E)) nX) (Bq E)
def AMf(c0 a:XC)(b:St->AE):Nat->St->AE:=BR 10 (dX E D W N (.Q OR [] [] c0) (kX OR [] [] b) (BR 8 (M3 E D W N a) nX) (Bq E)) (BR 9 (dX E D W N (.Q OR [] [] c0) (kX OR [] [] b) (BR 8 (M3 E D W N a) nX) (Bq E)) (BR 8 (M3 E D W N a) nX))
def ACj(c0 b:XC)(a:St->AE):St->AE:=dX E D W N (.Q IU [] [] c0) (kX IU [] [] a) (BR 4 (M3 E D W N b) nX) (Bq E)
def AMe(c0 d c a:XC)(b:St->AE):Nat->St->AE:=BR 2 (dX E D W N (.Q H4 [8] P2 c0) (dX E D W N (.Q H4 [8] P2 d) (rR E D W N c a b) (Sy E D W N c a b) (Bq E)) (Sy E D W N c a b) (Bq E)) (Sy E D W N c a b)
def ACi(c0:XC):Nat->St->AE:=BR 0 (dX E D W N (.Q XD [] [] c0) (Bq E) nX (Bq E)) nX
def xP(b:XC)(a:XC):XC:=(.z (.P 3 (.box 131 (.t 1))<|
 .aS 4)
 (.z (.aS 5)
 (.z (.aL 6 0)
 (.seq (.z (.aL 7 0)
 (.block 0 (.loop H4 [] [] a)))
 (.Q XD [] [] b)))))
def Uz(E:EB)(D:Ac)(W:AF)(K2:V->Nat->Nat->V->Int->Int->H->AE)(a:V)(b:Int)(c:BS)(d:Bool)(e f:Int)(g h i j:Bool)(k l:Int)(m o:V)(p:Int)(q:Bool)(r:Int)(U:H):AE:=
 Ht (eQ b c d e f g h i j k l m o p q r) U λn=>
 K2 a (H.j U) 0 V.h (AA 0) (AA 0) n
def FR(b:XC)(a:XC):XC:=(.z (.aL 9 0)
 (.z (.c 10 y2<|
 .aX 11 y2)
 (.seq (.z (.aA 49 13 3 .i<|
 .aG 12 50)
 (.block 4 (.loop IU [] [] a)))
 (.Q OQ [] [] b))))
def cR(E:EB)(D:Ac)(W:AF)(K8:V->Nat->Nat->V->Int->Bool->Bool->Int->H->AE)(a:V)(b c:Nat)(d:V)(U:H):AE:=
 lI E U b (AM c 13) λe=>
 K8 a b c d (AA 0) false false e U
def WL(b:XC)(c:XC)(d:XC)(a:XC):XC:=(.seq (.z (.m 17 7<|
 .aA 18 13 3 .i<|
 .aE 20 17 19)
 (.cond (.tmp 20) .skip
 LM))
 (.seq (.block 1 (.z (.bF 23 11 3 7<|
 .aN 26 3 24 25 nV 3<|
 .ol 8 [] 194 [y5,y0,y2]<|
 .op none nV [8,27] (.store 3 (.t 8) (.t 27))<|
 .nil)
 (.seq (.z (.aA 28 2 8 .bool<|
 .bK 30 29)
 (.cond (.tmp 30) (.seq (.block 2 (.loop H4 [8] P2 a))
 (.Q H4 [8] P2 d))
 .skip))
 (.Q H4 [8] P2 c))))
 (.Q H4 [] [] b)))
def RE(E:EB)(D:Ac)(W:AF)(K1:V->Nat->Nat->V->H->AE)(j:V->Nat->Nat->V->Int->Int->BS->Int->Bool->H->AE)(k:V->Nat->Nat->V->Int->Int->BS->Int->Bool->H->AE)(a:V)(b c:Nat)(d:V)(e f:Int)(U:H):AE:=
 lI E U b (AM c 13) λg=>
 AK (C5 f g) (
 jX E U b (AM c 11) 3 f λg=>
 uAG g λg h i=>
 AK (not i) (
 k a b c d e f g h i U) (
 j a b c d e f g h i U)) (
 K1 a b c d U)
def GD:XC:=(.Y (.m 21 7<|
 .aC 22 21 1 7))
def cQ(E:EB)(D:Ac)(W:AF)(g:V->Nat->Nat->V->Int->Int->H->AE)(a:V)(b c:Nat)(d:V)(e f:Int)(U:H):AE:=
 g a b c d e (BQ .i64 f (AA 1)) U
def Iy:XC:=(.z (.f 44 2 8<|
 .op none .any [44] (.store 1 (.t 44) (.T y2))<|
 .nil)
 (.Y (.aY 45 5 nV 3 8<|
 .p 47 [46] (.buildSlice 194 1 [y5,y0,y2] [(0,3,(.t 46))])<|
 .O 48 .S (.append 194 3 32 (.t 45) (.t 47))<|
 .aG 5 48)))
def cP(E:EB)(D:Ac)(W:AF)(l:V->Nat->Nat->V->Int->Int->H->AE)(a:V)(b c:Nat)(d:V)(e f:Int)(g:BS)(h:Int)(i:Bool)(U:H):AE:=
 let j:=Cb U (.cells (eAG g h false));
 Dx E 3 32 d (V.D (H.j U) 0 1 (.ex 1)) j λj k=>
 CI j (
 l a b c j e f k)
def Kn:XC:=(.z (.m 40 6<|
 .bC 41 1 8 1 40)
 (.Y (.m 42 6<|
 .aC 43 42 1 6)))
def AF8(E:EB)(D:Ac)(W:AF)(j:V->Nat->Nat->V->Int->Int->BS->Int->Bool->H->AE)(a:V)(b c:Nat)(d:V)(e f:Int)(g:BS)(h:Int)(i:Bool)(U:H):AE:=
 j a b c d (BQ .i64 e (AA 1)) f g e i U
def OA:XC:=(.seq (.z (.aA 31 11 3 .any<|
 .aA 33 13 3 .i<|
 .p 35 [32,34] (.sliceSl 3 (.t 32) none (some (.t 34)) none)<|
 .m 36 6<|
 .k 37 .bool 159 [(.t 35),(.t 36)]<|
 .nil)
 (.cond (.tmp 37) .skip
 (.exit 2)))
 (.block 3 (.Y (.m 38 6<|
 .aC 39 38 1 6))))
def AF7(E:EB)(D:Ac)(W:AF)(K5:V->Nat->Nat->V->Int->Int->BS->Int->Bool->H->AE)(l:V->Nat->Nat->V->Int->Int->BS->Int->Bool->H->AE)(a:V)(b c:Nat)(d:V)(e f:Int)(g:BS)(h:Int)(i:Bool)(U:H):AE:=
 DF E U b (AM c 11) λj=>
 lI E U b (AM c 13) λk=>
 gK (CT 3 j none (some (V.int .i64 k)) none) λj=>
 cB (D 159 [j,.int .i64 e] U) λj k=>
 AK j (
 l a b c d (BQ .i64 e (AA 1)) f g h i k) (
 K5 a b c d e f g h i k)
def DJ(b:XC)(a:XC):XC:=(.seq (.z (.aL 15 0)
 (.block 8 (.loop OR [] [] a)))
 (.Q OQ [] [] b))
def AF6(E:EB)(D:Ac)(W:AF)(d:V->V->Bool->Int->H->AE)(a b:V)(c:Bool)(U:H):AE:=
 d a b c (AA 0) U
def E5(c:XC)(b:XC)(a:XC):XC:=(.seq (.z (.m 51 12<|
 .aP 52 11 3<|
 .aE 55 51 54)
 (.cond (.tmp 55) .skip
 (.exit 4)))
 (.seq (.block 5 (.z (.bF 58 11 3 12<|
 .aN 61 3 59 60 nV 3<|
 .ol 13 [] 194 [y5,y0,y2]<|
 .op none nV [13,62] (.store 3 (.t 13) (.t 62))<|
 .nil)
 (.seq (.z (.aA 63 2 13 .bool<|
 .bK 65 64)
 (.cond (.tmp 65) (.z (.aJ 66 1 13 1 0<|
 .nil)
 (.z (.aL 14 0)
 (.block 6 (.loop fz [13] SX a))))
 .skip))
 (.Q IU [13] SX b))))
 (.Q IU [] [] c)))
def RD(E:EB)(D:Ac)(W:AF)(K7:V->V->Bool->H->AE)(l:V->Nat->Nat->V->Int->Bool->Bool->Int->BS->Int->Bool->H->AE)(m:V->Nat->Nat->V->Int->Bool->Bool->Int->Int->BS->Int->Bool->H->AE)(a:V)(b c:Nat)(d:V)(e:Int)(f g:Bool)(h:Int)(U:H):AE:=
 lL E U b (AM c 11) λi=>
 AK (C5 h (AA i)) (
 jX E U b (AM c 11) 3 h λi=>
 uAG i λi j k=>
 AK (not k) (
 m a b c d e f g h (AA 0) i (AA 0) k U) (
 l a b c d e f g h i j k U)) (
 K7 a d g U)
def Dl:XC:=(.Y (.m 56 12<|
 .aC 57 56 1 12))
def cO(E:EB)(D:Ac)(W:AF)(i:V->Nat->Nat->V->Int->Bool->Bool->Int->H->AE)(a:V)(b c:Nat)(d:V)(e:Int)(f g:Bool)(h:Int)(U:H):AE:=
 i a b c d e f g (BQ .i64 h (AA 1)) U
def DG:XC:=(.z (.m 100 11<|
 .m 101 100<|
 .gO 101 false (.p 102 [10,101] (.L (.t 10))<|
 .p 103 [102,101] (.L (.t 102))<|
 .grp 103 true (.p 104 [13,103] (.C 1 (.t 13))<|
 .op (some 105) .i [104,103] (.load none (.t 104))<|
 .p 106 [9,103] (.L (.t 9))<|
 .p 107 [105,106,103] (.pp .leq .none (.t 105) (.t 106))<|
 .nil) 108 [103,107,101] (.t 103) (.t 107) (.T y2)<|
 .nil) 109 101 108<|
 .aG 11 109)
 (.z (.f 110 2 13<|
 .op none .any [110] (.store 1 (.t 110) (.T y2))<|
 .nil)
 (.z (.aA 111 1 13 .i<|
 .m 9 112<|
 .cD 10)
 (.Y (.aY 113 5 nV 3 13<|
 .p 115 [114] (.buildSlice 194 1 [y5,y0,y2] [(0,3,(.t 114))])<|
 .O 116 .S (.append 194 3 32 (.t 113) (.t 115))<|
 .aG 5 116)))))
def Uy(E:EB)(D:Ac)(W:AF)(o:V->Nat->Nat->V->Int->Bool->Bool->Int->H->AE)(a:V)(b c:Nat)(d:V)(e:Int)(f g:Bool)(h:Int)(i:BS)(j:Int)(k:Bool)(U:H):AE:=
 Ax (λl m=>
 let n:=Cb m (.cells (eAG i j false));
 Dx E 3 32 d (V.D (H.j m) 0 1 (.ex 1)) n λm n=>
 CI m (
 o a b c m j true l h n)) λl=>
 AK g (
 l true U) (
 Ax (λm n=>
 l m n) λl=>
 AK f (
 l (HL j e) U) (
 l false U))
def Du(a:XC):XC:=(.seq (.z (.aB 67 14 5<|
 .u 69 68<|
 .aE 70 67 69)
 (.cond (.tmp 70) .skip
 (.exit 6)))
 (.seq (.block 7 (.seq (.z (.aB 73 5 14<|
 .s 75 3 73 74<|
 .aK 76 1 75 9223372036854775807<|
 .nil)
 (.cond (.tmp 78) (.z (.m 79 0<|
 .k 80 y8 120 [(.t 79),(.i 11)]<|
 .nil)
 (.z (.aS 4)
 .ret))
 .skip))
 (.seq (.us (.m 81 14<|
 .b 82 .eql .none (.t 81) (.i 0)<|
 .m 83 82<|
 .gO 83 false (.p 84 [5,83] nj<|
 .aR 85 14 83 14 84 83 3 84<|
 .aH 87 86 83 1 86 83<|
 .aH 89 13 83 1 13 83<|
 .bO 91 88 90 83 88 90) 92 83 91<|
 .nil) [0,1,3,7,7,31,63,127,7,263,1023,2047])
 (.cond (.tmp 92) (.Y (.aB 93 5 14<|
 .s 95 3 93 94<|
 .aA 96 1 95 .i<|
 .b 98 .add .none (.t 97) (.i 1)<|
 .bC 99 1 13 1 98))
 .skip))))
 (.Q fz [13] SX a)))
def AAJ(E:EB)(D:Ac)(W:AF)(q:V->Nat->Nat->V->Int->Bool->Bool->Int->BS->Int->Bool->H->AE)(p:V->Nat->Nat->V->Int->Bool->Bool->Int->Int->BS->Int->Bool->H->AE)(a:V)(b c:Nat)(d:V)(e:Int)(f g:Bool)(h i:Int)(j:BS)(k:Int)(l:Bool)(U:H):AE:=
 Ao d λm=>
 AK (C5 i (AA m)) (
 AS 3 d i λm n=>
 lI E U m (AM n 1) λm=>
 AK (B8 m (AA 9223372036854775807)) (
 c0 (D 120 [a,iN 11] U) λm=>
 some (V.h,m)) (
 Ax (λm n=>
 AK m (
 AS 3 d i λm o=>
 lI E n m (AM o 1) λm=>
 p a b c d e f g h i j (BQ .i64 m (AA 1)) l n) (
 p a b c d e f g h i j k l n)) λm=>
 AK (B8 i (AA 0)) (
 m true U) (
 AS 3 d i λn o=>
 lI E U n (AM o 1) λn=>
 m (HL k n) U))) (
 q a b c d e f g h j k l U)
def De:XC:=(.Y (.m 71 14<|
 .aC 72 71 1 14))
def AAI(E:EB)(D:Ac)(W:AF)(m:V->Nat->Nat->V->Int->Bool->Bool->Int->Int->BS->Int->Bool->H->AE)(a:V)(b c:Nat)(d:V)(e:Int)(f g:Bool)(h i:Int)(j:BS)(k:Int)(l:Bool)(U:H):AE:=
 m a b c d e f g h (BQ .i64 i (AA 1)) j k l U
def B4(a:XC):XC:=(.seq (.z (.aG 155 11)
 (.cond (.tmp 155) (.Y (.m 156 0<|
 .k 157 y8 120 [(.t 156),(.i 8)]<|
 .nil))
 .skip))
 (.Q [(5,.any)] [] [] a))
def Ux(E:EB)(D:Ac)(W:AF)(e:V->H->AE)(a b:V)(c:Bool)(U:H):AE:=
 AK c (
 c0 (D 120 [a,iN 8] U) λd=>
 e b d) (
 e b U)
def CY(a:XC)(b:XC):XC:=(.seq (.z (.aB 117 15 5<|
 .u 119 118<|
 .aE 120 117 119)
 (.cond (.tmp 120) .skip
 (.exit 8)))
 (.seq (.block 9 (.z (.aL 16 0)
 (.block 10 (.loop ACQ [] [] b))))
 (.Q OR [] [] a)))
def M8(E:EB)(D:Ac)(W:AF)(g:V->V->Bool->H->AE)(f:V->V->Bool->Int->Int->H->AE)(a b:V)(c:Bool)(d:Int)(U:H):AE:=
 Ao b λe=>
 AK (C5 d (AA e)) (
 f a b c d (AA 0) U) (
 g a b c U)
def CG:XC:=(.Y (.m 121 15<|
 .aC 122 121 1 15))
def Uw(E:EB)(D:Ac)(W:AF)(e:V->V->Bool->Int->H->AE)(a b:V)(c:Bool)(d:Int)(U:H):AE:=
 e a b c (BQ .i64 d (AA 1)) U
def CP:XC:=(.seq (.z (.aB 123 16 15<|
 .aE 125 123 124)
 (.cond (.tmp 125) .skip
 (.exit 10)))
 (.seq (.block 11 (.us (.m 128 11<|
 .m 129 128<|
 .gO 129 false (.p 130 [5,129] nj<|
 .aR 131 16 129 16 130 129 3 130<|
 .p 133 [132,129] (.C 0 (.t 132))<|
 .op (some 134) .N [133,129] (.load none (.t 133))<|
 .p 135 [5,129] nj<|
 .aR 136 15 129 15 135 129 3 135<|
 .p 138 [137,129] (.C 0 (.t 137))<|
 .op (some 139) .N [138,129] (.load none (.t 138))<|
 .p 140 [134,139,129] (.pp .eql .none (.t 134) (.t 139))<|
 .nil) 141 129 140<|
 .m 142 141<|
 .gO 142 false (.p 143 [5,142] nj<|
 .aR 144 16 142 16 143 142 3 143<|
 .aH 146 145 142 1 145 142<|
 .p 148 [5,142] nj<|
 .aR 149 15 142 15 148 142 3 148<|
 .aH 151 150 142 1 150 142<|
 .p 153 [147,152,142] (.pp .eql .none (.t 147) (.t 152))<|
 .nil) 154 142 153<|
 .aG 11 154) [0,1,3,3,15,31,63,3,3,387,899,1923,4095,8191,16383,32767,32767,131071,262143,524287,32767,32767,3178495,7372799,15761407,33554431,67108863,134217727]))
 (.Y (.m 126 16<|
 .aC 127 126 1 16))))
def M7(E:EB)(D:Ac)(W:AF)(l:V->V->Bool->Int->H->AE)(k:V->V->Bool->Int->Int->H->AE)(a b:V)(c:Bool)(d e:Int)(U:H):AE:=
 AK (C5 e d) (
 Ax (λf g=>
 Ax (λh i=>
 k a b h d (BQ .i64 e (AA 1)) i) λh=>
 AK f (
 h true g) (
 AS 3 b e λf i=>
 lI E g f (AM i 1) λf=>
 AS 3 b d λi j=>
 lI E g i (AM j 1) λi=>
 h (B8 f i) g)) λf=>
 AK c (
 f true U) (
 AS 3 b e λg h=>
 lS E U g h λg=>
 AS 3 b d λh i=>
 lS E U h i λh=>
 f (BS.beq g h) U)) (
 l a b c d U)
def B3:XC:=(.z (.m 158 5<|
 .aG 4 158)
 .ret)
def Uv(E:EB)(D:Ac)(W:AF)(a:V)(U:H):AE:=
 some (a,U)
def AGo(a:V)(b:Int)(c:BS)(d:Bool)(e f:Int)(g h i j:Bool)(k l:Int)(m o:V)(p:Int)(q:Bool)(r:Int)(U:H):St:=⟨[(0,a),(1,.agg [.int .i64 b,.N c,.bool d,.int .i64 e,.int .i64 f,.bool g,.bool h,.bool i,.bool j,.int .i64 k,.int .i64 l,m,o,.int .i64 p,.bool q,.int .i64 r])],[],[],U⟩
def AGn(a:V)(b c:Nat)(d:V)(U:H):St:=⟨[(0,a),(3,.o b c),(5,d)],[],[],U⟩
def No(a:V)(b c:Nat)(d:V)(e f:Int)(U:H):St:=⟨[(0,a),(3,.o b c),(5,d),(6,.int .i64 e),(7,.int .i64 f)],[],[],U⟩
def dH(a:V)(b c:Nat)(d:V)(e f:Int)(g:BS)(h:Int)(i:Bool)(U:H):St:=⟨[(0,a),(3,.o b c),(5,d),(6,.int .i64 e),(7,.int .i64 f)],[(8,(8,0))],[(8,[.N g,.int .i64 h,.bool i])],U⟩
def tz(a b:V)(c:Bool)(U:H):St:=⟨[(0,a),(5,b),(11,.bool c)],[],[],U⟩
def RW(a:V)(b c:Nat)(d:V)(e:Int)(f g:Bool)(h:Int)(U:H):St:=⟨[(0,a),(3,.o b c),(5,d),(9,.int .i64 e),(10,.bool f),(11,.bool g),(12,.int .i64 h)],[],[],U⟩
def AAO(a:V)(b c:Nat)(d:V)(e:Int)(f g:Bool)(h:Int)(i:BS)(j:Int)(k:Bool)(U:H):St:=⟨[(0,a),(3,.o b c),(5,d),(9,.int .i64 e),(10,.bool f),(11,.bool g),(12,.int .i64 h)],[(13,(13,0))],[(13,[.N i,.int .i64 j,.bool k])],U⟩
def VY(a:V)(b c:Nat)(d:V)(e:Int)(f g:Bool)(h i:Int)(j:BS)(k:Int)(l:Bool)(U:H):St:=⟨[(0,a),(3,.o b c),(5,d),(9,.int .i64 e),(10,.bool f),(11,.bool g),(12,.int .i64 h),(14,.int .i64 i)],[(13,(13,0))],[(13,[.N j,.int .i64 k,.bool l])],U⟩
def PW(a b:V)(c:Bool)(d:Int)(U:H):St:=⟨[(0,a),(5,b),(11,.bool c),(15,.int .i64 d)],[],[],U⟩
def AAN(a b:V)(c:Bool)(d e:Int)(U:H):St:=⟨[(0,a),(5,b),(11,.bool c),(15,.int .i64 d),(16,.int .i64 e)],[],[],U⟩
def ABk(E:EB)(D:Ac)(W:AF)(N:Nat):=Uv E D W
def Vs:=Ux E D W (ABk E D W N )
theorem vH:
 (λa b c U=>Au E D W N (B4 B3) (tz a b c U) (Bq E) nX (Bq E))=Vs E D W N:=by
 unfold Vs;kernel_rfl
def PY(E:EB)(D:Ac)(W:AF)(N:Nat)(a:V->V->Bool->Int->H->AE):=Uw E D W a
theorem vG g:
 (λa b c d U=>Au E D W N CG (PW a b c d U) (kX OR [] [] g) (BR 8 (M3 E D W N (B4 B3)) nX) (Bq E))=PY E D W N (λa b c d U=>g (PW a b c d U)):=by
 unfold PY;generalize B4 B3=l;revert l;refine id ?_;intros;kernel_rfl
def Vk(a:V->V->Bool->Int->H->AE)(n:Nat):V->V->Bool->Int->Int->H->AE:=
 Nat.rec (λ_ _ _ _ _ _=>none) (λ_ b=>M7 E D W (PY E D W N a) b) n
theorem ub h n:
 (λa b c d e U=>BM (λl o=>Au E D W N CP o (kX ACQ [] [] l) (AMf E D W N CG (B4 B3) h) (Bq E)) n (AAN a b c d e U))=Vk E D W N (λa b c d U=>h (PW a b c d U)) n:=lp6 (λr=>by rw[<-vG];generalize B4 B3=m,CG=p;revert m p;refine id ?_;intros;kernel_rfl) n
def Vl(n:Nat):V->V->Bool->Int->H->AE:=
 Nat.rec (λ_ _ _ _ _=>none) (λ_ a=>M8 E D W (Vs E D W N ) (Vk E D W N a N)) n
theorem uc n:
 (λa b c d U=>BM (λj l=>Au E D W N (CY CG CP) l (kX OR [] [] j) (BR 8 (M3 E D W N (B4 B3)) nX) (Bq E)) n (PW a b c d U))=Vl E D W N n:=O4 (λq=>by rw[<-vH,<-ub];generalize B4 B3=k,CG=m,CP=o;revert k m o;refine id ?_;intros;kernel_rfl) n
def eH:=AF6 E D W (Vl E D W N N)
theorem ABS:
 (λa b c U=>Au E D W N (DJ (B4 B3) (CY CG CP)) (tz a b c U) (Bq E) nX (Bq E))=eH E D W N:=by
 unfold eH;rw[<-uc];generalize CY CG CP=j,B4 B3=k;revert j k;refine id ?_;intros;kernel_rfl
def eG(E:EB)(D:Ac)(W:AF)(N:Nat)(a:V->Nat->Nat->V->Int->Bool->Bool->Int->H->AE):=cO E D W a
theorem ABR li8:
 (λa b c d e f g h U=>Au E D W N Dl (RW a b c d e f g h U) (kX IU [] [] li8) (BR 4 (M3 E D W N (DJ (B4 B3) (CY CG CP))) nX) (Bq E))=eG E D W N (λa b c d e f g h U=>li8 (RW a b c d e f g h U)):=by
 unfold eG;generalize DJ (B4 B3) (CY CG CP)=o;revert o;refine id ?_;intros;kernel_rfl
def PZ(a:V->Nat->Nat->V->Int->Bool->Bool->Int->H->AE):=Uy E D W (eG E D W N a)
theorem Yg li8:
 (λa b c d e f g h i j k U=>Au E D W N DG (AAO a b c d e f g h i j k U) (ACj E D W N Dl (DJ (B4 B3) (CY CG CP)) li8) (BR 5 (ACj E D W N Dl (DJ (B4 B3) (CY CG CP)) li8) (BR 4 (M3 E D W N (DJ (B4 B3) (CY CG CP))) nX)) (Bq E))=PZ E D W N (λa b c d e f g h U=>li8 (RW a b c d e f g h U)):=by
 unfold PZ;rw[<-ABR];generalize DJ (B4 B3) (CY CG CP)=s,Dl=r;revert s r;refine id ?_;intros;kernel_rfl
def Vt(E:EB)(D:Ac)(W:AF)(N:Nat)(a:V->Nat->Nat->V->Int->Bool->Bool->Int->Int->BS->Int->Bool->H->AE):=AAI E D W a
theorem vI li8(o:St->AE):
 (λa b c d e f g h i j k l U=>Au E D W N De (VY a b c d e f g h i j k l U) (kX fz [13] SX o) (ACk E D W N DG Dl (DJ (B4 B3) (CY CG CP)) li8) (Bq E))=Vt E D W N (λa b c d e f g h i j k l U=>o (VY a b c d e f g h i j k l U)):=by
 unfold Vt;generalize DJ (B4 B3) (CY CG CP)=v,DG=t,Dl=u;revert v t u;refine id ?_;intros;kernel_rfl
def jV(b:V->Nat->Nat->V->Int->Bool->Bool->Int->H->AE)(n:Nat):V->Nat->Nat->V->Int->Bool->Bool->Int->Int->BS->Int->Bool->H->AE:=
 Nat.rec (λ_ _ _ _ _ _ _ _ _ _ _ _ _=>none) (λ_ a=>AAJ E D W (PZ E D W N b) (Vt E D W N a)) n
theorem ud li8 n:
 (λa b c d e f g h i j k l U=>BM (λs w=>Au E D W N (Du De) w (kX fz [13] SX s) (ACk E D W N DG Dl (DJ (B4 B3) (CY CG CP)) li8) (Bq E)) n (VY a b c d e f g h i j k l U))=jV E D W N (λa b c d e f g h U=>li8 (RW a b c d e f g h U)) n:=ALq (λy=>by rw[<-Yg,<-vI (li8:=li8)];generalize DJ (B4 B3) (CY CG CP)=t,DG=v,De=u,Dl=x;revert t v u x;refine id ?_;intros;kernel_rfl) n
def dR(n:Nat):V->Nat->Nat->V->Int->Bool->Bool->Int->H->AE:=
 Nat.rec (λ_ _ _ _ _ _ _ _ _=>none) (λ_ a=>RD E D W (eH E D W N ) (PZ E D W N a) (jV E D W N a N)) n
theorem AAn n:
 (λa b c d e f g h U=>BM (λo s=>Au E D W N (E5 Dl DG (Du De)) s (kX IU [] [] o) (BR 4 (M3 E D W N (DJ (B4 B3) (CY CG CP))) nX) (Bq E)) n (RW a b c d e f g h U))=dR E D W N n:=lp9 (λu=>by rw[<-ABS,<-Yg,<-ud];generalize DJ (B4 B3) (CY CG CP)=p,Du De=r,DG=q,Dl=t;revert p r q t;refine id ?_;intros;kernel_rfl) n
def eR:=cR E D W (dR E D W N N)
theorem ABV:
 (λa b c d U=>Au E D W N (FR (DJ (B4 B3) (CY CG CP)) (E5 Dl DG (Du De))) (AGn a b c d U) (Bq E) nX (Bq E))=eR E D W N:=by
 unfold eR;rw[<-AAn];generalize DJ (B4 B3) (CY CG CP)=k,E5 Dl DG (Du De)=l;revert k l;refine id ?_;intros;kernel_rfl
def eP(E:EB)(D:Ac)(W:AF)(N:Nat)(a:V->Nat->Nat->V->Int->Int->H->AE):=cQ E D W a
theorem ABU i:
 (λa b c d e f U=>Au E D W N GD (No a b c d e f U) (kX H4 [] [] i) (ACi E D W N (FR (DJ (B4 B3) (CY CG CP)) (E5 Dl DG (Du De)))) (Bq E))=eP E D W N (λa b c d e f U=>i (No a b c d e f U)):=by
 unfold eP;generalize FR (DJ (B4 B3) (CY CG CP)) (E5 Dl DG (Du De))=n;revert n;refine id ?_;intros;kernel_rfl
def Vr(a:V->Nat->Nat->V->Int->Int->H->AE):=cP E D W (eP E D W N a)
theorem jZ l:
 (λa b c d e f g h i U=>Au E D W N Iy (dH a b c d e f g h i U) (rR E D W N GD (FR (DJ (B4 B3) (CY CG CP)) (E5 Dl DG (Du De))) l) (Sy E D W N GD (FR (DJ (B4 B3) (CY CG CP)) (E5 Dl DG (Du De))) l) (Bq E))=Vr E D W N (λa b c d e f U=>l (No a b c d e f U)):=by
 unfold Vr;rw[<-ABU];generalize FR (DJ (B4 B3) (CY CG CP)) (E5 Dl DG (Du De))=r,GD=q;revert r q;refine id ?_;intros;kernel_rfl
def eM(a:V->Nat->Nat->V->Int->Int->H->AE):=AF8 E D W (Vr E D W N a)
theorem ABT j:
 (λa b c d e f g h i U=>Au E D W N Kn (dH a b c d e f g h i U) (dX E D W N (.Q H4 [8] P2 Iy) (rR E D W N GD (FR (DJ (B4 B3) (CY CG CP)) (E5 Dl DG (Du De))) j) (Sy E D W N GD (FR (DJ (B4 B3) (CY CG CP)) (E5 Dl DG (Du De))) j) (Bq E)) (Sy E D W N GD (FR (DJ (B4 B3) (CY CG CP)) (E5 Dl DG (Du De))) j) (Bq E))=eM E D W N (λa b c d e f U=>j (No a b c d e f U)):=by
 unfold eM;rw[<-jZ];generalize FR (DJ (B4 B3) (CY CG CP)) (E5 Dl DG (Du De))=s,GD=r,Iy=q;revert s r q;refine id ?_;intros;kernel_rfl
def vB(b:V->Nat->Nat->V->Int->Int->H->AE)(n:Nat):V->Nat->Nat->V->Int->Int->BS->Int->Bool->H->AE:=
 Nat.rec (λ_ _ _ _ _ _ _ _ _ _=>none) (λ_ a=>AF7 E D W (eM E D W N b) a) n
theorem AAo l n:
 (λa b c d e f g h i U=>BM (λq s=>Au E D W N OA s (kX H4 [8] P2 q) (AMe E D W N Kn Iy GD (FR (DJ (B4 B3) (CY CG CP)) (E5 Dl DG (Du De))) l) (Bq E)) n (dH a b c d e f g h i U))=vB E D W N (λa b c d e f U=>l (No a b c d e f U)) n:=AE2 (λx=>by rw[<-ABT];generalize FR (DJ (B4 B3) (CY CG CP)) (E5 Dl DG (Du De))=r,GD=t,Iy=u,Kn=v;revert r t u v;refine id ?_;intros;kernel_rfl) n
def Vj(n:Nat):V->Nat->Nat->V->Int->Int->H->AE:=
 Nat.rec (λ_ _ _ _ _ _ _=>none) (λ_ a=>RE E D W (eR E D W N ) (Vr E D W N a) (vB E D W N a N)) n
theorem AAp n:
 (λa b c d e f U=>BM (λl q=>Au E D W N (WL GD Iy Kn OA) q (kX H4 [] [] l) (ACi E D W N (FR (DJ (B4 B3) (CY CG CP)) (E5 Dl DG (Du De)))) (Bq E)) n (No a b c d e f U))=Vj E D W N n:=zH (λu=>by rw[<-ABV,<-jZ,<-AAo];generalize FR (DJ (B4 B3) (CY CG CP)) (E5 Dl DG (Du De))=s,GD=r,Iy=p,Kn=o,OA=m;revert s r p o m;refine id ?_;intros;kernel_rfl) n
def eS:=Uz E D W (Vj E D W N N)
theorem ABW:
 (λa b c d e f g h i j k l m o p q r U=>Au E D W N (xP (FR (DJ (B4 B3) (CY CG CP)) (E5 Dl DG (Du De))) (WL GD Iy Kn OA)) (AGo a b c d e f g h i j k l m o p q r U) (Bq E) nX (Bq E))=eS E D W N:=by
 unfold eS;rw[<-AAp];generalize FR (DJ (B4 B3) (CY CG CP)) (E5 Dl DG (Du De))=y,WL GD Iy Kn OA=x;revert y x;refine id ?_;intros;kernel_rfl
def nE(args:List V)(U:H):AE:=
 Ab args λa b=>
 Ab b λb c=>
 Cp b λb=>
 uQ b λb d e f g h i j k l m n o p q r=>
 Ay c (
 eS E D W N a b d e f g h i j k l m n o p q r U)
def AYn:DD:=⟨159,[.any,y4],[(.tmp 4)],(xP (FR (DJ (B4 B3) (CY CG CP)) (E5 Dl DG (Du De))) (WL GD Iy Kn OA))⟩
theorem AP7 args U:BZ E D W N AYn args U=nE E D W N args U:=by
 unfold nE;rw[<-ABW];kernel_rfl
def fy:List (Nat × Cc):=[(0,.o),(1,.i),(3,.i),(6,.o),(8,.bool),(11,.any),(12,.i),(13,.o),(14,.i)]
def SW:List (Nat × Cc):=[(0,.o),(1,.i),(3,.i),(6,.o),(8,.bool),(11,.any),(12,.i),(13,.o)]
def SV:List (Nat × Cc):=[(0,.o),(1,.i),(3,.i),(6,.o),(8,.bool),(11,.any),(12,.i)]
def ACP:List (Nat × Cc):=[(0,.o),(1,.i),(3,.i),(6,.o),(8,.bool),(9,.i)]
def pT:List (Nat × Cc):=[(0,.o),(1,.i),(3,.i),(6,.o),(8,.bool)]
def fx:List (Nat × Cc):=[(0,.o),(1,.i),(11,.any)]
def wK:List BO:=[⟨(some 130),.L (.tmp 0),none⟩,⟨(some 131),.C 1 (.tmp 13),none⟩,⟨(some 132),.load none (.tmp 131),none⟩,⟨(some 133),.L (.tmp 12),none⟩,⟨(some 134),.L (.tmp 0),none⟩,⟨(some 135),.C 1 (.tmp 13),none⟩,⟨(some 136),.load none (.tmp 135),none⟩,⟨(some 137),.call 70 [(.tmp 134),(.tmp 136)],none⟩,⟨(some 138),.call 71 [(.tmp 130),(.tmp 132),(.tmp 133),(.tmp 137)],none⟩]
def wI:List DP:=[⟨0,[0]⟩,⟨0,[13]⟩,⟨2,[131]⟩,⟨0,[12]⟩,⟨0,[0]⟩,⟨0,[13]⟩,⟨32,[135]⟩,⟨112,[134,136]⟩,⟨255,[130,132,133,137]⟩]
def D7(E:EB):St->AE:=λs=>Dc E s [] λl=>some (Dq l,s.U)
def Xx(c0 b:XC)(a:St->AE):St->AE:=dX E D W N (.Q SV [] [] c0) (kX SV [] [] a) (BR 2 (dX E D W N (.Q fx [] [] b) (D7 E) nX (D7 E)) nX) (D7 E)
def Xw(c0 a:XC)(b:St->AE):Nat->St->AE:=BR 3 (Xx E D W N c0 a b) (BR 2 (dX E D W N (.Q fx [] [] a) (D7 E) nX (D7 E)) nX)
def ACh(c0 b a:XC)(c:St->AE):Nat->St->AE:=BR 4 (dX E D W N (.Q SW [] [] c0) (Xx E D W N b a c) (Xw E D W N b a c) (D7 E)) (Xw E D W N b a c)
def ACg(c0:XC):Nat->St->AE:=BR 2 (dX E D W N (.Q fx [] [] c0) (D7 E) nX (D7 E)) nX
def AMd(c0:XC):Nat->St->AE:=BR 0 (dX E D W N (.Q pT [] [] c0) (D7 E) nX (D7 E)) nX
def xO(b:XC)(a:XC):XC:=(.z (.P 6 (.box 131 (.t 2))<|
 .nil)
 (.z (.cE 15 0 0<|
 .aW 18 1 17 2<|
 .aG 8 20)
 (.seq (.z (.aL 9 0)
 (.block 0 (.loop ACP [] [] a)))
 (.Q pT [] [] b))))
def Uu(E:EB)(D:Ac)(W:AF)(K2:Nat->Nat->Int->Int->Nat->Nat->Bool->Int->H->AE)(a b:Nat)(c d:Int)(e:BS)(f:Bool)(g h:Int)(i j k l:Bool)(m o:Int)(p q:V)(r:Int)(s:Bool)(t u:Int)(U:H):AE:=
 Ht (eQ d e f g h i j k l m o p q r s t) U λn=>
 lI E n a (AM b 1) λv=>
 K2 a b c u (H.j U) 0 (not (B8 v (AA 2))) (AA 0) n
def N9(a:XC):XC:=(.seq (.z (.aK 47 0 6 9<|
 .m 50 49<|
 .gA 50 true (.aF 51 6 50 12 6 50 50<|
 .aT 54 53 50 53 0) 55 50 54<|
 .m 56 55<|
 .gA 56 true (.bH 57 6 56 14 6 56<|
 .p 59 [58,56] (.un .not (.t 58))<|
 .nil) 60 56 59<|
 .nil)
 (.cond (.tmp 60) (.Y (.m 61 0<|
 .k 62 y8 120 [(.t 61),(.i 11)]<|
 .nil))
 .skip))
 (.Q pT [] [] a))
def cN(E:EB)(D:Ac)(W:AF)(m:Nat->Nat->Int->Int->Nat->Nat->Bool->H->AE)(a b:Nat)(c d:Int)(e f:Nat)(g:Bool)(U:H):AE:=
 lI E U e f λh=>
 Ax (λi j=>
 Ax (λk l=>
 AK k (
 c0 (D 120 [.o a b,iN 11] l) λk=>
 m a b c d e f g k) (
 m a b c d e f g l)) λk=>
 AK i (
 lB E j e (AM f 14) λi=>
 k (not i) j) (
 k false j)) λi=>
 AK (B8 h (AA 9)) (
 lL E U e (AM f 12) λh=>
 i (B8 (AA h) (AA 0)) U) (
 i false U)
def WK:XC:=(.seq (.z (.m 21 9<|
 .aP 22 12 6<|
 .aE 25 21 24)
 (.cond (.tmp 25) .skip
 LM))
 (.seq (.block 1 (.z (.bF 28 12 6 9<|
 .aN 31 11 29 30 xt 11<|
 .ol 10 [] 152 [y5,y0,y2,y2,y0,y0,V.h,V.h,y0,V.h,y0]<|
 .op none xt [10,32] (.store 11 (.t 10) (.t 32))<|
 .nil)
 (.us (.m 33 8<|
 .m 34 33<|
 .gO 34 false (.bN 35 0 34 JT 34<|
 .p 37 [36,34] (.C 0 (.t 36))<|
 .cF 38 37 34 4 37 34<|
 .aH 40 10 34 1 10 34<|
 .p 42 [39,41,34] (.qr 16 (.t 39) (.t 41))<|
 .p 43 [42,34] (.C 2 (.t 42))<|
 .bH 44 43 34 0 43 34<|
 .nil) 46 34 45<|
 .aG 8 46) [0,1,3,7,15,31,63,3,131,511,1023,2047,4095,8191,16383])))
 (.Y (.m 26 9<|
 .aC 27 26 1 9))))
def RC(E:EB)(D:Ac)(W:AF)(K1:Nat->Nat->Int->Int->Nat->Nat->Bool->H->AE)(t:Nat->Nat->Int->Int->Nat->Nat->Bool->Int->H->AE)(a b:Nat)(c d:Int)(e f:Nat)(g:Bool)(h:Int)(U:H):AE:=
 lL E U e (AM f 12) λi=>
 AK (C5 h (AA i)) (
 jX E U e (AM f 12) 11 h λi=>
 uAH i λi j k l m n o p q r s=>
 JI (BH (eAH i j k l m n o p q r s)) (
 Ax (λi k=>
 t a b c d e f i (BQ .i64 h (AA 1)) k) λi=>
 AK g (
 i true U) (
 DF E U a (AM b 4) λk=>
 AS 16 k j λj k=>
 lB E U j (AM k 2) λj=>
 i j U))) (
 K1 a b c d e f g U)
def Km(b:XC)(a:XC):XC:=(.z (.aS 11)
 (.seq (.z (.aL 12 0)
 (.block 2 (.loop SV [] [] a)))
 (.Q fx [] [] b)))
def AF5(E:EB)(D:Ac)(W:AF)(K5:Nat->Nat->Int->Int->Nat->Nat->Bool->V->Int->H->AE)(a b:Nat)(c d:Int)(e f:Nat)(g:Bool)(U:H):AE:=
 K5 a b c d e f g V.h (AA 0) U
def D2:XC:=(.z (.aI 143 0<|
 .aK 145 6 144 0<|
 .nil)
 (.cond (.tmp 147) (.z (.bT 148 0 5<|
 .aB 152 1 11<|
 .s 154 13 151 152<|
 .bC 155 9 154 1 153)
 (.z (.aB 156 0 0<|
 .n 158 157<|
 .bF 159 5 158 1<|
 .aN 162 13 160 161 y1 13<|
 .k 164 .bool 161 [(.t 156),(.t 163)]<|
 .bK 165 164)
 (.cond (.tmp 165) (.Y (.m 166 0<|
 .k 167 y8 120 [(.t 166),(.i 12)]<|
 .nil))
 .skip)))
 .skip))
def Uq(E:EB)(D:Ac)(W:AF)(a b:Nat)(c:Int)(d:V)(U:H):AE:=
 lI E U a (AM b 6) λe=>
 AK (B8 e (AA 0)) (
 DF E U a (AM b 5) λe=>
 AS 13 e c λe f=>
 DO 1 e (AM f 9) d U λe=>
 jX E e a (AM b 5) 13 c λf=>
 uN f λf g h i j k l m n o p q r=>
 cB (D 161 [.o a b,.agg (eN f g h i j k l m n o p q r)] e) λe f=>
 AK (not e) (
 c0 (D 120 [.o a b,iN 12] f) λe=>
 r0 e) (
 r0 f)) (
 r0 U)
def Ix(b:XC)(c:XC)(a:XC):XC:=(.seq (.z (.m 63 12<|
 .aP 64 12 6<|
 .b 67 .lss .none (.t 63) (.t 66)<|
 .m 68 67<|
 .gA 68 true (.bN 69 0 68 JT 68<|
 .aH 71 70 68 6 70 68<|
 .aT 73 72 68 72 0) 74 68 73<|
 .nil)
 (.cond (.tmp 74) .skip
 (.exit 2)))
 (.seq (.block 3 (.z (.bF 77 12 6 12<|
 .aN 80 11 78 79 xt 11<|
 .p 13 [] (.alloc 152 [y5,y0,y2,y2,y0,y0,V.h,V.h,y0,V.h,y0])<|
 .op none xt [13,81] (.store 11 (.t 13) (.t 81))<|
 .nil)
 (.seq (.z (.aL 14 0)
 (.block 4 (.loop fy [] [] a)))
 (.Q SW [] [] c))))
 (.Q SV [] [] b)))
def Ni(E:EB)(D:Ac)(W:AF)(x:Nat->Nat->Int->V->H->AE)(K8:Nat->Nat->Int->Int->Nat->Nat->Bool->V->Int->Nat->Nat->Int->H->AE)(a b:Nat)(c d:Int)(e f:Nat)(g:Bool)(h:V)(i:Int)(U:H):AE:=
 lL E U e (AM f 12) λj=>
 Ax (λk l=>
 AK k (
 jX E l e (AM f 12) 11 i λk=>
 uAH k λk m n o p q r s t u v=>
 let w:=Cb l (.cells [.N ⟨0,0⟩,iN 0,.bool false,.bool false,iN 0,iN 0,V.h,V.h,iN 0,V.h,iN 0]);
 DO 11 (H.j l) 0 (V.agg (eAH k m n o p q r s t u v)) w λk=>
 K8 a b c d e f g h i (H.j l) 0 (AA 0) k) (
 x a b c h l)) λk=>
 AK (C5 i (AA j)) (
 lI E U a (AM b 6) λj=>
 k (B8 j (AA 0)) U) (
 k false U)
def D1:XC:=(.Y (.m 75 12<|
 .aC 76 75 1 12))
def cM(E:EB)(D:Ac)(W:AF)(j:Nat->Nat->Int->Int->Nat->Nat->Bool->V->Int->H->AE)(a b:Nat)(c d:Int)(e f:Nat)(g:Bool)(h:V)(i:Int)(U:H):AE:=
 j a b c d e f g h (BQ .i64 i (AA 1)) U
def Fl(a:XC):XC:=(.z (.m 98 0<|
 .aA 99 1 13 .i<|
 .m 101 3<|
 .b 102 .add .none (.t 101) (.i 1)<|
 .k 103 .i 35 [(.t 98),(.t 100),(.t 102)]<|
 .bC 104 1 13 1 103)
 (.seq (.z (.aI 105 0<|
 .aK 107 6 106 0<|
 .m 110 109<|
 .gA 110 true (.bH 111 13 110 3 13 110<|
 .nil) 113 110 112<|
 .nil)
 (.cond (.tmp 113) (.Y (.m 114 0<|
 .aA 115 1 13 .i<|
 .f 117 4 13<|
 .O 118 y3 (.load (some 6) (.t 117))<|
 .k 119 y3 160 [(.t 114),(.t 116),(.t 118)]<|
 .cC 120 4 13 y3 119 6 119))
 .skip))
 (.Q SW [] [] a)))
def cL(E:EB)(D:Ac)(W:AF)(v:Nat->Nat->Int->Int->Nat->Nat->Bool->V->Int->Nat->Nat->H->AE)(a b:Nat)(c d:Int)(e f:Nat)(g:Bool)(h:V)(i:Int)(j k:Nat)(U:H):AE:=
 lI E U j (AM k 1) λl=>
 cI (D 35 [.o a b,.int .i64 l,.int .i64 (BQ .i64 d (AA 1))] U) λl m=>
 DO 1 j (AM k 1) (V.int .i64 l) m λl=>
 lI E l a (AM b 6) λm=>
 Ax (λn o=>
 AK n (
 lI E o j (AM k 1) λn=>
 Bv E o j (AM k 4) 6 λp=>
 uI p λp q r s t u=>
 cA (D 160 [.o a b,.int .i64 n,.agg (eI p q r s t u)] o) λn p=>
 uI n λn q r s t u=>
 DO 6 j (AM k 4) (V.agg (eI n q r s t u)) p λn=>
 v a b c d e f g h i j k n) (
 v a b c d e f g h i j k o)) λn=>
 AK (B8 m (AA 0)) (
 lB E l j (AM k 3) λm=>
 n m l) (
 n false l)
def HX(a:XC):XC:=(.seq (.z (.aB 82 14 12<|
 .aE 84 82 83)
 (.cond (.tmp 84) .skip
 (.exit 4)))
 (.seq (.block 5 (.seq (.us (.bF 87 12 6 14<|
 .s 90 11 88 89<|
 .aA 91 0 90 .N<|
 .aA 93 0 13 .N<|
 .b 95 .eql .none (.t 92) (.t 94)<|
 .nil) [0,1,0,7,15,31,0,64,255])
 (.cond (.tmp 95) (.Y (.m 96 0<|
 .k 97 y8 120 [(.t 96),(.i 8)]<|
 .nil))
 .skip)))
 (.Q fy [] [] a)))
def Up(E:EB)(D:Ac)(W:AF)(K7:Nat->Nat->Int->Int->Nat->Nat->Bool->V->Int->Nat->Nat->H->AE)(o:Nat->Nat->Int->Int->Nat->Nat->Bool->V->Int->Nat->Nat->Int->H->AE)(a b:Nat)(c d:Int)(e f:Nat)(g:Bool)(h:V)(i:Int)(j k:Nat)(l:Int)(U:H):AE:=
 AK (C5 l i) (
 DF E U e (AM f 12) λm=>
 AS 11 m l λm n=>
 lS E U m n λm=>
 lS E U j k λn=>
 AK (BS.beq m n) (
 c0 (D 120 [.o a b,iN 8] U) λm=>
 o a b c d e f g h i j k l m) (
 o a b c d e f g h i j k l U)) (
 K7 a b c d e f g h i j k U)
def GZ:XC:=(.Y (.m 85 14<|
 .aC 86 85 1 14))
def cK(E:EB)(D:Ac)(W:AF)(m:Nat->Nat->Int->Int->Nat->Nat->Bool->V->Int->Nat->Nat->Int->H->AE)(a b:Nat)(c d:Int)(e f:Nat)(g:Bool)(h:V)(i:Int)(j k:Nat)(l:Int)(U:H):AE:=
 m a b c d e f g h i j k (BQ .i64 l (AA 1)) U
def EO(a:XC):XC:=(.seq (.z (.aI 121 0<|
 .aK 123 6 122 0<|
 .m 126 125<|
 .gA 126 true (.p 127 [8,126] xq<|
 .p 128 [127,126] (.un .not (.t 127))<|
 .nil) 129 126 128<|
 .nil)
 (.cond (.tmp 129) (.Q SW [] [] (.wl wK wI SW))
 .skip))
 (.Q SW [] [] a))
def Ut(E:EB)(D:Ac)(W:AF)(z:Nat->Nat->Int->Int->Nat->Nat->Bool->V->Int->Nat->Nat->H->AE)(a b:Nat)(c d:Int)(e f:Nat)(g:Bool)(h:V)(i:Int)(j k:Nat)(U:H):AE:=
 lI E U a (AM b 6) λl=>
 Ax (λm n=>
 AK m (
 CM (W wK wI [(0,.o a b),(1,.int .i64 c),(3,.int .i64 d),(6,.o e f),(8,.bool g),(11,h),(12,.int .i64 i),(13,.o j k)] n) λm o=>
 Bj m 0 λp=>
 BL p λp q=>
 Bj m 1 λr=>
 DZ .i64 r λr=>
 Bj m 3 λs=>
 DZ .i64 s λs=>
 Bj m 6 λt=>
 BL t λt u=>
 Bj m 8 λv=>
 DB v λv=>
 Bj m 11 λw=>
 Bj m 12 λx=>
 DZ .i64 x λx=>
 Bj m 13 λm=>
 BL m λm y=>
 z p q r s t u v w x m y o) (
 z a b c d e f g h i j k n)) λm=>
 AK (B8 l (AA 0)) (
 m (not g) U) (
 m false U)
def Dz:XC:=(.Y (.aY 139 11 xt 11 13<|
 .p 141 [140] (.buildSlice 152 1 [y5,y0,y2,y2,y0,y0,V.h,V.h,y0,V.h,y0] [(0,11,(.t 140))])<|
 .O 142 .S (.append 152 11 136 (.t 139) (.t 141))<|
 .aG 11 142))
def Ur(E:EB)(D:Ac)(W:AF)(x:Nat->Nat->Int->Int->Nat->Nat->Bool->V->Int->H->AE)(a b:Nat)(c d:Int)(e f:Nat)(g:Bool)(h:V)(i:Int)(j k:Nat)(U:H):AE:=
 Bv E U j k 11 λl=>
 uAH l λl m n o p q r s t u v=>
 JI (BH (eAH l m n o p q r s t u v)) (
 let w:=Cb U (.cells (eAH l m n o p q r s t u v));
 Dx E 11 136 h (V.D (H.j U) 0 1 (.ex 1)) w λl m=>
 CI l (
 x a b c d e f g l i m))
def AGm(a b:Nat)(c d:Int)(e:BS)(f:Bool)(g h:Int)(i j k l:Bool)(m o:Int)(p q:V)(r:Int)(s:Bool)(t u:Int)(U:H):St:=⟨[(0,.o a b),(1,.int .i64 c),(2,.agg [.int .i64 d,.N e,.bool f,.int .i64 g,.int .i64 h,.bool i,.bool j,.bool k,.bool l,.int .i64 m,.int .i64 o,p,q,.int .i64 r,.bool s,.int .i64 t]),(3,.int .i64 u)],[],[],U⟩
def tu(a b:Nat)(c d:Int)(e f:Nat)(g:Bool)(U:H):St:=⟨[(0,.o a b),(1,.int .i64 c),(3,.int .i64 d),(6,.o e f),(8,.bool g)],[],[],U⟩
def AGl(a b:Nat)(c d:Int)(e f:Nat)(g:Bool)(h:Int)(U:H):St:=⟨[(0,.o a b),(1,.int .i64 c),(3,.int .i64 d),(6,.o e f),(8,.bool g),(9,.int .i64 h)],[],[],U⟩
def MR(a b:Nat)(c d:Int)(e f:Nat)(g:Bool)(h:V)(i:Int)(U:H):St:=⟨[(0,.o a b),(1,.int .i64 c),(3,.int .i64 d),(6,.o e f),(8,.bool g),(11,h),(12,.int .i64 i)],[],[],U⟩
def dG(a b:Nat)(c d:Int)(e f:Nat)(g:Bool)(h:V)(i:Int)(j k:Nat)(U:H):St:=⟨[(0,.o a b),(1,.int .i64 c),(3,.int .i64 d),(6,.o e f),(8,.bool g),(11,h),(12,.int .i64 i),(13,.o j k)],[],[],U⟩
def dF(a b:Nat)(c d:Int)(e f:Nat)(g:Bool)(h:V)(i:Int)(j k:Nat)(l:Int)(U:H):St:=⟨[(0,.o a b),(1,.int .i64 c),(3,.int .i64 d),(6,.o e f),(8,.bool g),(11,h),(12,.int .i64 i),(13,.o j k),(14,.int .i64 l)],[],[],U⟩
def AIT(E:EB)(D:Ac)(W:AF)(N:Nat):=Uq E D W
def eE(E:EB)(D:Ac)(W:AF)(N:Nat)(a:Nat->Nat->Int->Int->Nat->Nat->Bool->V->Int->H->AE):=cM E D W a
theorem ABN li5:
 (λa b c d e f g h i U=>Au E D W N D1 (MR a b c d e f g h i U) (kX SV [] [] li5) (ACg E D W N D2) (D7 E))=eE E D W N (λa b c d e f g h i U=>li5 (MR a b c d e f g h i U)):=by
 unfold eE;generalize D2=p;revert p;refine id ?_;intros;kernel_rfl
def Vp(a:Nat->Nat->Int->Int->Nat->Nat->Bool->V->Int->H->AE):=Ur E D W (eE E D W N a)
theorem vE li5:
 (λa b c d e f g h i j k U=>Au E D W N Dz (dG a b c d e f g h i j k U) (Xx E D W N D1 D2 li5) (Xw E D W N D1 D2 li5) (D7 E))=Vp E D W N (λa b c d e f g h i U=>li5 (MR a b c d e f g h i U)):=by
 unfold Vp;rw[<-ABN];generalize D2=r,D1=s;revert r s;refine id ?_;intros;kernel_rfl
def Vq(a:Nat->Nat->Int->Int->Nat->Nat->Bool->V->Int->H->AE):=Ut E D W (Vp E D W N a)
theorem vF li5:
 (λa b c d e f g h i j k U=>Au E D W N (EO Dz) (dG a b c d e f g h i j k U) (Xx E D W N D1 D2 li5) (Xw E D W N D1 D2 li5) (D7 E))=Vq E D W N (λa b c d e f g h i U=>li5 (MR a b c d e f g h i U)):=by
 unfold Vq;rw[<-vE];generalize Dz=r,D2=s,D1=t;revert r s t;refine id ?_;intros;kernel_rfl
def Np(a:Nat->Nat->Int->Int->Nat->Nat->Bool->V->Int->H->AE):=cL E D W (Vq E D W N a)
theorem ABM li5:
 (λa b c d e f g h i j k U=>Au E D W N (Fl (EO Dz)) (dG a b c d e f g h i j k U) (Xx E D W N D1 D2 li5) (Xw E D W N D1 D2 li5) (D7 E))=Np E D W N (λa b c d e f g h i U=>li5 (MR a b c d e f g h i U)):=by
 unfold Np;rw[<-vF];generalize EO Dz=r,D2=s,D1=t;revert r s t;refine id ?_;intros;kernel_rfl
def eB(E:EB)(D:Ac)(W:AF)(N:Nat)(a:Nat->Nat->Int->Int->Nat->Nat->Bool->V->Int->Nat->Nat->Int->H->AE):=cK E D W a
theorem ABL li5(li8:St->AE):
 (λa b c d e f g h i j k l U=>Au E D W N GZ (dF a b c d e f g h i j k l U) (kX fy [] [] li8) (ACh E D W N (Fl (EO Dz)) D1 D2 li5) (D7 E))=eB E D W N (λa b c d e f g h i j k l U=>li8 (dF a b c d e f g h i j k l U)):=by
 unfold eB;generalize Fl (EO Dz)=s,D2=u,D1=t;revert s u t;refine id ?_;intros;kernel_rfl
def Vh(b:Nat->Nat->Int->Int->Nat->Nat->Bool->V->Int->H->AE)(n:Nat):Nat->Nat->Int->Int->Nat->Nat->Bool->V->Int->Nat->Nat->Int->H->AE:=
 Nat.rec (λ_ _ _ _ _ _ _ _ _ _ _ _ _=>none) (λ_ a=>Up E D W (Np E D W N b) (eB E D W N a)) n
theorem AAk li5 n:
 (λa b c d e f g h i j k l U=>BM (λs w=>Au E D W N (HX GZ) w (kX fy [] [] s) (ACh E D W N (Fl (EO Dz)) D1 D2 li5) (D7 E)) n (dF a b c d e f g h i j k l U))=Vh E D W N (λa b c d e f g h i U=>li5 (MR a b c d e f g h i U)) n:=ALq (λy=>by rw[<-ABM,<-ABL (li5:=li5)];generalize Fl (EO Dz)=t,D2=v,D1=u,GZ=x;revert t v u x;refine id ?_;intros;kernel_rfl) n
def dQ(n:Nat):Nat->Nat->Int->Int->Nat->Nat->Bool->V->Int->H->AE:=
 Nat.rec (λ_ _ _ _ _ _ _ _ _ _=>none) (λ_ a=>Ni E D W (AIT E D W N ) (Vh E D W N a N)) n
theorem AAl n:
 (λa b c d e f g h i U=>BM (λp r=>Au E D W N (Ix D1 (Fl (EO Dz)) (HX GZ)) r (kX SV [] [] p) (ACg E D W N D2) (D7 E)) n (MR a b c d e f g h i U))=dQ E D W N n:=AE2 (λv=>by rw[<-AAk];generalize Fl (EO Dz)=q,HX GZ=s,D1=t;revert q s t;refine id ?_;intros;kernel_rfl) n
def Vo:=AF5 E D W (dQ E D W N N)
theorem ABO:
 (λa b c d e f g U=>Au E D W N (Km D2 (Ix D1 (Fl (EO Dz)) (HX GZ))) (tu a b c d e f g U) (D7 E) nX (D7 E))=Vo E D W N:=by
 unfold Vo;rw[<-AAl];generalize Ix D1 (Fl (EO Dz)) (HX GZ)=n,D2=o;revert n o;refine id ?_;intros;kernel_rfl
def Rh:=cN E D W (Vo E D W N )
theorem ABP:
 (λa b c d e f g U=>Au E D W N (N9 (Km D2 (Ix D1 (Fl (EO Dz)) (HX GZ)))) (tu a b c d e f g U) (D7 E) nX (D7 E))=Rh E D W N:=by
 unfold Rh;rw[<-ABO];generalize Km D2 (Ix D1 (Fl (EO Dz)) (HX GZ))=n;revert n;refine id ?_;intros;kernel_rfl
def Vi(n:Nat):Nat->Nat->Int->Int->Nat->Nat->Bool->Int->H->AE:=
 Nat.rec (λ_ _ _ _ _ _ _ _ _=>none) (λ_ a=>RC E D W (Rh E D W N ) a) n
theorem AAm n:
 (λa b c d e f g h U=>BM (λo q=>Au E D W N WK q (kX ACP [] [] o) (AMd E D W N (N9 (Km D2 (Ix D1 (Fl (EO Dz)) (HX GZ))))) (D7 E)) n (AGl a b c d e f g h U))=Vi E D W N n:=lp9 (λs=>by rw[<-ABP];generalize N9 (Km D2 (Ix D1 (Fl (EO Dz)) (HX GZ)))=p;revert p;refine id ?_;intros;kernel_rfl) n
def eF:=Uu E D W (Vi E D W N N)
theorem ABQ:
 (λa b c d e f g h i j k l m o p q r s t u U=>Au E D W N (xO (N9 (Km D2 (Ix D1 (Fl (EO Dz)) (HX GZ)))) WK) (AGm a b c d e f g h i j k l m o p q r s t u U) (D7 E) nX (D7 E))=eF E D W N:=by
 unfold eF;rw[<-AAm];generalize N9 (Km D2 (Ix D1 (Fl (EO Dz)) (HX GZ)))=B,WK=A;revert B A;refine id ?_;intros;kernel_rfl
def nD(args:List V)(U:H):AE:=
 Ab args λa b=>
 BL a λa c=>
 D3 .i64 b λb d=>
 Ab d λd e=>
 Cp d λd=>
 uQ d λd f g h i j k l m n o p q r s t=>
 D3 .i64 e λe u=>
 Ay u (
 eF E D W N a c b d f g h i j k l m n o p q r s t e U)
def AYm:DD:=⟨168,[.o,.i,y4,.i],[],(xO (N9 (Km D2 (Ix D1 (Fl (EO Dz)) (HX GZ)))) WK)⟩
theorem AP6 args U:BZ E D W N AYm args U=nD E D W N args U:=by
 unfold nD;rw[<-ABQ];kernel_rfl
def AI1:XC:=(.z (.c 6 V.h<|
 .aL 7 0)
 (.seq (.z (.aU 9 1 0<|
 .m 11 10<|
 .gO 11 false (.p 12 [1,11] LU<|
 .bJ 13 12 11 12 268435456) 14 11 13<|
 .m 15 14<|
 .gO 15 false (.p 16 [2,15] (.L (.t 2))<|
 .bY 17 16 15 16 1 15<|
 .grp 18 true (.p 19 [0,18] JT<|
 .p 20 [19,18] (.len false (.t 19))<|
 .aT 21 20 18 20 0) 22 [18,21,15] (.t 18) (.t 21) (.T y2)<|
 .nil) 23 15 22<|
 .nil)
 (.cond (.tmp 23) (.z (.c 6 V.h<|
 .q 7 12<|
 .nil)
 .ret)
 .skip))
 (.z (.m 24 1<|
 .op (some 25) Il [24] (.build [y0,y0] [(0,1,(.i 2)),(1,1,(.t 24))])<|
 .p 26 [25] (.buildSlice 182 1 [y0,y0] [(0,2,(.t 25))])<|
 .aG 8 26)
 (.seq (.z (.m 27 2<|
 .cI 28 27 1)
 (.cond (.tmp 28) (.z (.aB 29 8 0<|
 .p 31 [30] (.sliceSl 2 (.t 30) (some (.i 1)) none none)<|
 .O 32 .S (.append 182 2 16 (.t 29) (.t 31))<|
 .m 6 32<|
 .aL 7 0)
 .ret)
 .skip))
 (.z (.aB 33 8 0<|
 .O 35 .S (.append 182 2 16 (.t 33) (.t 34))<|
 .m 6 35<|
 .aL 7 0)
 .ret)))))
def Nh(E:EB)(D:Ac)(W:AF)(a:V)(b c:Int)(U:H):AE:=
 Ax (λd e=>
 Ax (λf g=>
 AK f (
 some ((V.B [V.h,iN 12]),g)) (
 let f:=Cb g (.cells [iN 2,.int .i64 b]);
 AK (B8 c (AA 1)) (
 gK (CT 2 a (some (iN 1)) none none) λh=>
 Dx E 2 16 (V.D (H.j g) 0 1 (.ex 1)) h f λh i=>
 CI h (
 some ((V.B [h,iN 0]),i))) (
 Dx E 2 16 (V.D (H.j g) 0 1 (.ex 1)) a f λf g=>
 CI f (
 some ((V.B [f,iN 0]),g))))) λf=>
 AK d (
 f true e) (
 Ax (λd g=>
 f d g) λd=>
 AK (B8 c (AA 1)) (
 Ao a λf=>
 d (B8 (AA f) (AA 0)) e) (
 d false e))) λd=>
 AK (C5 b (AA 0)) (
 d true U) (
 d (C5 (AA 268435456) b) U)
def wq(N:Nat)(args:List V)(U:H):AE:=
 uC args λa b c=>
 Nh E D W a b c U
def AYl:DD:=⟨36,[.any,.i,.i],[(.tmp 6),(.tmp 7)],AI1⟩
theorem AP5 args U:BZ E D W N AYl args U=wq E D W N args U:=by kernel_rfl
def ACO:List (Nat × Cc):=[(0,.any),(1,.any),(7,.i),(8,.i)]
def Rq(E:EB):St->AE:=λs=>Dc E s [(.tmp 4)] λl=>some (Dq l,s.U)
def AMc(c0:XC):Nat->St->AE:=BR 0 (dX E D W N (.Q [] [] [] c0) (Rq E) nX (Rq E)) nX
def xN(b:XC)(a:XC):XC:=(.z (.aL 4 0)
 (.seq (.z (.bZ 6 0<|
 .aL 8 0)
 (.block 0 (.loop ACO [] [] a)))
 (.Q [] [] [] b)))
def Uo(E:EB)(D:Ac)(W:AF)(K2:V->V->Int->Int->H->AE)(a b:V)(U:H):AE:=
 Ao a λc=>
 K2 a b (AA c) (AA 0) U
def WJ:XC:=(.z (.aX 4 Y5)
 .ret)
def AF4(E:EB)(D:Ac)(W:AF)(U:H):AE:=
 rI (A1 0) U
def WI:XC:=(.z (.aE 9 8 7)
 (.seq nW
 (.seq (.block 1 (.z (.m 10 8<|
 .m 5 10<|
 .nil)
 (.z (.bS 11 1 0 5<|
 .aN 14 3 12 13 nV 3<|
 .O 16 .bool (.callv (.t 11) [(.t 15)])<|
 .nil)
 y23)))
 y25)))
def RB(E:EB)(D:Ac)(W:AF)(K1:H->AE)(h:V->V->Int->Int->H->AE)(a b:V)(c d:Int)(U:H):AE:=
 AK (C5 d c) (
 iX E U 3 a d λe=>
 uAG e λe f g=>
 GA D b [.agg (eAG e f g)] U λe f=>
 DB e λe=>
 AK e (
 rI d f) (
 h a b c (BQ .i64 d (AA 1)) f)) (
 K1 U)
def AGk(a b:V)(U:H):St:=⟨[(0,a),(1,b)],[],[],U⟩
def AGj(a b:V)(c d:Int)(U:H):St:=⟨[(0,a),(1,b),(7,.int .i64 c),(8,.int .i64 d)],[],[],U⟩
def AIS(E:EB)(D:Ac)(W:AF)(N:Nat):=AF4 E D W
def Vg(n:Nat):V->V->Int->Int->H->AE:=
 Nat.rec (λ_ _ _ _ _=>none) (λ_ a=>RB E D W (AIS E D W N ) a) n
theorem AAj n:
 (λa b c d U=>BM (λf g=>Au E D W N WI g (kX ACO [] [] f) (AMc E D W N WJ) (Rq E)) n (AGj a b c d U))=Vg E D W N n:=O4 (λ_=>by kernel_rfl) n
def dz:=Uo E D W (Vg E D W N N)
theorem ABK:
 (λa b U=>Au E D W N (xN WJ WI) (AGk a b U) (Rq E) nX (Rq E))=dz E D W N:=by
 unfold dz;rw[<-AAj];generalize WJ=i,WI=j;revert i j;refine id ?_;intros;kernel_rfl
def nC(args:List V)(U:H):AE:=
 uH args λa b=>
 dz E D W N a b U
def AYk:DD:=⟨19,nU,[(.tmp 4)],(xN WJ WI)⟩
theorem AP4 args U:BZ E D W N AYk args U=nC E D W N args U:=by
 unfold nC;rw[<-ABK];kernel_rfl
def AI0:XC:=(.z (.P 2 (.box 194 (.t 0))<|
 .aX 3 y2)
 (.z (.aA 4 1 2 .i<|
 .l 6 .i 1<|
 .b 7 .eql .none (.t 5) (.t 6)<|
 .m 3 7<|
 .nil)
 .ret))
def bz(E:EB)(D:Ac)(W:AF)(a:BS)(b:Int)(c:Bool)(d:V)(U:H):AE:=
 Ht (eAG a b c) U λe=>
 lI E e (H.j U) 1 λf=>
 BL d λg h=>
 lI E e g h λg=>
 rB (B8 f g) e
def wo(N:Nat)(args:List V)(U:H):AE:=
 Ab args λa b=>
 Cp a λa=>
 uAG a λa c d=>
 Ab b λb e=>
 Ay e (
 bz E D W a c d b U)
def AYj:DD:=⟨8,[nV,.any],[(.tmp 3)],AI0⟩
theorem AP3 args U:BZ E D W N AYj args U=wo E D W N args U:=by kernel_rfl
def AIz:XC:=(.z (.aL 2 0)
 (.z (.cH 3 0 64 0<|
 .m 2 5<|
 .nil)
 .ret))
def tL(E:EB)(D:Ac)(W:AF)(a:Int)(U:H):AE:=
 rI (Gr (AA 0) (G8 a (AA 64))) U
def wm(N:Nat)(args:List V)(U:H):AE:=
 D3 .i64 args λa b=>
 Ay b (
 tL E D W a U)
def AYi:DD:=⟨6,[.i],[(.tmp 2)],AIz⟩
theorem AP2 args U:BZ E D W N AYi args U=wm E D W N args U:=by kernel_rfl
def ACN:List (Nat × Cc):=[(0,.any),(1,(.int .u32)),(6,.i)]
def Vx(E:EB):St->AE:=λs=>Dc E s [] λl=>some (Dq l,s.U)
def xM(a:XC):XC:=(.z (.cG 7 2 .i 173<|
 .b 9 .sub .none (.t 8) (.i 1)<|
 .m 6 9<|
 .nil)
 (.block 0 (.loop ACN [] [] a)))
def bw(E:EB)(D:Ac)(W:AF)(K1:V->Int->Int->H->AE)(a:V)(b c:Int)(U:H):AE:=
 cI (D 173 [.int .i64 c] U) λd e=>
 K1 a b (Dj .i64 d (AA 1)) e
def WH:XC:=(.seq (.z (.m 10 6<|
 .b 11 .geq .none (.t 10) (.i 0)<|
 .nil)
 (.cond (.tmp 11) .skip
 LM))
 (.seq (.block 1 (.Y (.bS 14 0 1 6<|
 .b 17 .shr .none (.t 15) (.t 16)<|
 .b 18 .and .none (.t 17) (.T (V.int .u32 (AA 1)))<|
 .P 19 (.i7 (.jp .i64) (.t 18))<|
 .bE 20 y8 174 14 19)))
 (.Y (.cB 12 6 1<|
 .m 6 13<|
 .nil))))
def bt(E:EB)(D:Ac)(W:AF)(e:V->Int->Int->H->AE)(a:V)(b c:Int)(U:H):AE:=
 AK (HL (AA 0) c) (
 T7 c λd=>
 c0 (D 174 [a,.int .i64 (An .i64 (MD .u32 (J0 .u32 b d) (AA 1)))] U) λd=>
 e a b (Dj .i64 c (AA 1)) d) (
 r0 U)
def AGi(a:V)(b c:Int)(U:H):St:=⟨[(0,a),(1,.int .u32 b),(2,.int .i64 c)],[],[],U⟩
def AGh(a:V)(b c:Int)(U:H):St:=⟨[(0,a),(1,.int .u32 b),(6,.int .i64 c)],[],[],U⟩
def Vf(E:EB)(D:Ac)(W:AF)(N:Nat)(n:Nat):V->Int->Int->H->AE:=
 Nat.rec (λ_ _ _ _=>none) (λ_ a=>bt E D W a) n
theorem AAi n:
 (λa b c U=>BM (λe f=>Au E D W N WH f (kX ACN [] [] e) (BR 0 (Vx E) nX) (Vx E)) n (AGh a b c U))=Vf E D W N n:=xi (λ_=>by kernel_rfl) n
def dy:=bw E D W (Vf E D W N N)
theorem ABJ:
 (λa b c U=>Au E D W N (xM WH) (AGi a b c U) (Vx E) nX (Vx E))=dy E D W N:=by
 unfold dy;rw[<-AAi];generalize WH=j;revert j;refine id ?_;intros;kernel_rfl
def nB(args:List V)(U:H):AE:=
 uAI args λa b c=>
 dy E D W N a b c U
def AYh:DD:=⟨21,[.any,(.int .u32),.i],[],(xM WH)⟩
theorem AP1 args U:BZ E D W N AYh args U=nB E D W N args U:=by
 unfold nB;rw[<-ABJ];kernel_rfl
def AIy:XC:=(.z (.aL 2 0)
 (.z (.cG 3 0 .i 175<|
 .bV 2)
 .ret))
def bs(E:EB)(D:Ac)(W:AF)(a:Int)(U:H):AE:=
 cI (D 175 [.int .u64 a] U) λb c=>
 rI b c
def wj(N:Nat)(args:List V)(U:H):AE:=
 D3 .u64 args λa b=>
 Ay b (
 bs E D W a U)
def AYg:DD:=⟨5,[(.int .u64)],[(.tmp 2)],AIy⟩
theorem AP0 args U:BZ E D W N AYg args U=wj E D W N args U:=by kernel_rfl
def AIx:XC:=(.z (.P 2 (.box 31 (.t 0))<|
 .ol 4 [] 113 [y0,V.h,y2,y2,y2,y2,y0,y0,V.h,V.h,y0,y2,y0]<|
 .nil)
 (.seq (.z (.aU 5 1 0<|
 .m 7 6<|
 .gO 7 false (.p 8 [1,7] LU<|
 .aF 9 2 7 3 2 7 7<|
 .bO 12 8 11 7 8 11) 13 7 12<|
 .nil)
 (.cond (.tmp 13) (.z (.op (some 14) y1 [] (.build [y0,V.h,y2,y2,y2,y2,y0,y0,V.h,V.h,y0,y2,y0] [])<|
 .op none y1 [4,14] (.store 13 (.t 4) (.t 14))<|
 .nil)
 .ret)
 .skip))
 (.z (.bF 15 3 2 1<|
 .aN 18 13 16 17 y1 13<|
 .op none y1 [4,19] (.store 13 (.t 4) (.t 19))<|
 .nil)
 .ret)))
def bp(E:EB)(D:Ac)(W:AF)(a:BS)(b c d:V)(e:Int)(U:H):AE:=
 Ht (eA a b c d) U λf=>
 Ax (λg h=>
 AK g (
 some ((V.agg [iN 0,V.h,.bool false,.bool false,.bool false,.bool false,iN 0,iN 0,V.h,V.h,iN 0,.bool false,iN 0]),h)) (
 jX E h (H.j U) 3 13 e λg=>
 uN g λg i j k l m n o p q r s t=>
 JI (BH (eN g i j k l m n o p q r s t)) (
 some ((V.agg (eN g i j k l m n o p q r s t)),h)))) λg=>
 AK (C5 e (AA 0)) (
 g true f) (
 lL E f (H.j U) 3 λh=>
 g (HL (AA h) e) f)
def wh(N:Nat)(args:List V)(U:H):AE:=
 Ab args λa b=>
 Cp a λa=>
 uA a λa c d e=>
 D3 .i64 b λb f=>
 Ay f (
 bp E D W a c d e b U)
def AYf:DD:=⟨20,[y6,.i],[(.cell 4 (some 13))],AIx⟩
theorem APz args U:BZ E D W N AYf args U=wh E D W N args U:=by kernel_rfl
def AIw:XC:=(.z (.aS 6)
 (.z (.aB 7 1 0<|
 .bE 9 y8 176 7 8)
 (.z (.aB 10 1 2<|
 .O 12 .S (.append 3 1 8 (.t 10) (.t 11))<|
 .m 6 12<|
 .nil)
 .ret)))
def bo(E:EB)(D:Ac)(W:AF)(a b c:V)(U:H):AE:=
 c0 (D 176 [b,a] U) λd=>
 Dx E 1 8 b c d λd e=>
 CI d (
 some (d,e))
def wg(N:Nat)(args:List V)(U:H):AE:=
 uAJ args λa b c=>
 bo E D W a b c U
def AYe:DD:=⟨13,[.any,.any,.any],[(.tmp 6)],AIw⟩
theorem APy args U:BZ E D W N AYe args U=wg E D W N args U:=by kernel_rfl
def AIv:XC:=(.z (.aL 5 0)
 (.seq (.us (.f 6 8 2<|
 .l 7 .any 6<|
 .m 8 0<|
 .s 9 3 7 8<|
 .aA 10 1 9 .i<|
 .bF 12 8 2 1<|
 .s 15 3 13 14<|
 .aA 16 1 15 .i<|
 .k 18 .i 145 [(.t 11),(.t 17)]<|
 .aG 5 18) [0,1,0,7,15,31,0,64,0,448,960,1984,4095,8191])
 .ret))
def bn(E:EB)(D:Ac)(W:AF)(a b:Int)(c:V)(U:H):AE:=
 BL c λd e=>
 DF E U d (AM e 8) λd=>
 AS 3 d a λd e=>
 lI E U d (AM e 1) λd=>
 BL c λe f=>
 DF E U e (AM f 8) λe=>
 AS 3 e b λe f=>
 lI E U e (AM f 1) λe=>
 cI (D 145 [.int .i64 d,.int .i64 e] U) λd e=>
 rI d e
def we(N:Nat)(args:List V)(U:H):AE:=
 uY args λa b c=>
 bn E D W a b c U
def AYd:DD:=⟨19,[.i,.i,.any],[(.tmp 5)],AIv⟩
theorem APx args U:BZ E D W N AYd args U=we E D W N args U:=by kernel_rfl
def AIu:XC:=(.z (.aL 4 0)
 (.z (.cG 7 0 .bool 177<|
 .m 5 8<|
 .nil)
 (.z (.cG 9 1 .bool 177<|
 .m 6 10<|
 .nil)
 (.seq (.z (.aG 11 5)
 (.cond (.tmp 11) (.seq (.z (.aG 12 6)
 (.cond (.tmp 12) (.z (.aL 4 0)
 .ret)
 .skip))
 (.z (.aX 4 Y5)
 .ret))
 .skip))
 (.seq (.z (.aG 13 6)
 (.cond (.tmp 13) (.z (.aL 4 1)
 .ret)
 .skip))
 (.seq (.z (.aB 14 0 1<|
 .aE 16 14 15)
 (.cond (.tmp 16) (.z (.aX 4 Y5)
 .ret)
 .skip))
 (.seq (.z (.aB 17 0 1<|
 .b 19 .gtr .none (.t 17) (.t 18)<|
 .nil)
 (.cond (.tmp 19) (.z (.aL 4 1)
 .ret)
 .skip))
 (.z (.aL 4 0)
 .ret))))))))
def bm(E:EB)(D:Ac)(W:AF)(a b:Int)(U:H):AE:=
 cB (D 177 [.int .i64 a] U) λc d=>
 cB (D 177 [.int .i64 b] d) λd e=>
 AK c (
 AK d (
 rI (AA 0) e) (
 rI (A1 0) e)) (
 AK d (
 rI (AA 1) e) (
 AK (C5 a b) (
 rI (A1 0) e) (
 AK (C5 b a) (
 rI (AA 1) e) (
 rI (AA 0) e))))
def wc(N:Nat)(args:List V)(U:H):AE:=
 uE args λa b=>
 bm E D W a b U
def AYc:DD:=⟨20,[.i,.i],[(.tmp 4)],AIu⟩
theorem APw args U:BZ E D W N AYc args U=wc E D W N args U:=by kernel_rfl
def ACL:List (Nat × Cc):=[(1,.i),(5,.any),(6,.i)]
def Rp(E:EB):St->AE:=λs=>Dc E s [(.tmp 4)] λl=>some (Dq l,s.U)
def AMb(c0:XC):Nat->St->AE:=BR 0 (dX E D W N (.Q [(5,.any)] [] [] c0) (Rp E) nX (Rp E)) nX
def xL(b:XC)(a:XC):XC:=(.z (.aS 4)
 (.z (.aS 5)
 (.seq (.z (.m 7 0<|
 .m 6 7<|
 .nil)
 (.block 0 (.loop ACL [] [] a)))
 (.Q [(5,.any)] [] [] b))))
def tK(E:EB)(D:Ac)(W:AF)(K2:Int->V->Int->H->AE)(a b:Int)(U:H):AE:=
 K2 b V.h a U
def WG:XC:=(.z (.m 17 5<|
 .aG 4 17)
 .ret)
def bg(E:EB)(D:Ac)(W:AF)(a:V)(U:H):AE:=
 some (a,U)
def WE:XC:=(.seq (.z (.aB 8 6 1<|
 .aE 10 8 9)
 (.cond (.tmp 10) .skip
 LM))
 (.seq (.block 1 (.Y (.aB 13 5 6<|
 .aQ 15 14 3 1 y0 0 1 14 .S 3 1 8 13<|
 .aG 5 16)))
 (.Y (.m 11 6<|
 .aC 12 11 1 6))))
def RA(E:EB)(D:Ac)(W:AF)(K1:V->H->AE)(f:Int->V->Int->H->AE)(a:Int)(b:V)(c:Int)(U:H):AE:=
 AK (C5 c a) (
 let d:=Cb U (.cells [.int .i64 c]);
 Dx E 1 8 b (V.D (H.j U) 0 1 (.ex 1)) d λd e=>
 CI d (
 f a d (BQ .i64 c (AA 1)) e)) (
 K1 b U)
def AGg(a b:Int)(U:H):St:=⟨[(0,.int .i64 a),(1,.int .i64 b)],[],[],U⟩
def AGf(a:Int)(b:V)(c:Int)(U:H):St:=⟨[(1,.int .i64 a),(5,b),(6,.int .i64 c)],[],[],U⟩
def AIR(E:EB)(D:Ac)(W:AF)(N:Nat):=bg E D W
def dP(n:Nat):Int->V->Int->H->AE:=
 Nat.rec (λ_ _ _ _=>none) (λ_ a=>RA E D W (AIR E D W N ) a) n
theorem AAh n:
 (λa b c U=>BM (λe f=>Au E D W N WE f (kX ACL [] [] e) (AMb E D W N WG) (Rp E)) n (AGf a b c U))=dP E D W N n:=xi (λ_=>by kernel_rfl) n
def dw:=tK E D W (dP E D W N N)
theorem ABI:
 (λa b U=>Au E D W N (xL WG WE) (AGg a b U) (Rp E) nX (Rp E))=dw E D W N:=by
 unfold dw;rw[<-AAh];generalize WG=i,WE=j;revert i j;refine id ?_;intros;kernel_rfl
def nA(args:List V)(U:H):AE:=
 uE args λa b=>
 dw E D W N a b U
def AYb:DD:=⟨18,[.i,.i],[(.tmp 4)],(xL WG WE)⟩
theorem APv args U:BZ E D W N AYb args U=nA E D W N args U:=by
 unfold nA;rw[<-ABI];kernel_rfl
def AIt:XC:=(.z (.q 2 0<|
 .aX 3 y2)
 (.seq (.z (.aU 4 0 16384<|
 .nil)
 (.cond (.tmp 5) (.z (.m 6 0<|
 .m 2 6<|
 .aX 3 y2)
 .ret)
 .skip))
 (.z (.m 7 0<|
 .b 8 .quo .none (.t 7) (.i 16384)<|
 .p 9 [8] (.min (.t 8) [(.i 4)])<|
 .b 10 .mul .none (.t 9) (.i 16384)<|
 .m 2 10<|
 .cD 3)
 .ret)))
def bf(E:EB)(D:Ac)(W:AF)(a:Int)(U:H):AE:=
 AK (C5 a (AA 16384)) (
 some ((V.B [.int .i64 a,.bool false]),U)) (
 some ((V.B [.int .i64 (O3 .i64 (G8 (NQ .i64 a (AA 16384)) (AA 4)) (AA 16384)),.bool true]),U))
def wZ(N:Nat)(args:List V)(U:H):AE:=
 D3 .i64 args λa b=>
 Ay b (
 bf E D W a U)
def AYa:DD:=⟨11,[.i],[(.tmp 2),(.tmp 3)],AIt⟩
theorem APu args U:BZ E D W N AYa args U=wZ E D W N args U:=by kernel_rfl
def Ny:List BO:=[⟨(some 9),.load (some 4) (.tmp 2),none⟩,⟨(some 10),.C 9 (.tmp 3),none⟩,⟨(some 11),.load none (.tmp 10),none⟩,⟨(some 12),.L (.tmp 0),none⟩,⟨(some 13),.qr 11 (.tmp 11) (.tmp 12),none⟩,⟨(some 14),.C 1 (.tmp 13),none⟩,⟨(some 15),.load none (.tmp 14),none⟩,⟨(some 16),.call 149 [(.tmp 9),(.tmp 15)],none⟩,⟨(some 17),.load (some 4) (.tmp 2),none⟩,⟨(some 18),.C 9 (.tmp 3),none⟩,⟨(some 19),.load none (.tmp 18),none⟩,⟨(some 20),.L (.tmp 1),none⟩,⟨(some 21),.qr 11 (.tmp 19) (.tmp 20),none⟩,⟨(some 22),.C 1 (.tmp 21),none⟩,⟨(some 23),.load none (.tmp 22),none⟩,⟨(some 24),.call 149 [(.tmp 17),(.tmp 23)],none⟩,⟨(some 7),.alloc 182 [(V.int .i64 (AA 0)),(V.int .i64 (AA 0))],none⟩,⟨(some 8),.alloc 182 [(V.int .i64 (AA 0)),(V.int .i64 (AA 0))],none⟩,⟨none,.store 2 (.tmp 7) (.tmp 16),none⟩,⟨none,.store 2 (.tmp 8) (.tmp 24),none⟩]
def Rj:List DP:=[⟨0,[2]⟩,⟨0,[3]⟩,⟨2,[10]⟩,⟨0,[0]⟩,⟨14,[11,12]⟩,⟨30,[13]⟩,⟨62,[14]⟩,⟨127,[9,15]⟩,⟨0,[2]⟩,⟨0,[3]⟩,⟨512,[18]⟩,⟨0,[1]⟩,⟨3584,[19,20]⟩,⟨7680,[21]⟩,⟨15872,[22]⟩,⟨32767,[17,23]⟩,⟨0,[]⟩,⟨0,[]⟩,⟨262143,[7,16]⟩,⟨524287,[8,24]⟩]
def AIs:XC:=(.z (.aL 6 0)
 (.seq (.Q [(0,.i),(1,.i),(2,.any),(3,.any)] [] [] (.wl Ny Rj [(7,.o),(8,.o)]))
 (.seq (.block 0 (.z (.O 26 Il (.load (some 2) (.t 7))<|
 .O 27 Il (.load (some 2) (.t 8))<|
 .k 28 .bool 150 [(.t 26),(.t 27)]<|
 .m 25 28<|
 .nil)
 (.cond (.tmp 25) (.z (.aX 6 Y5)
 .ret)
 (.z (.O 30 Il (.load (some 2) (.t 8))<|
 .O 31 Il (.load (some 2) (.t 7))<|
 .k 32 .bool 150 [(.t 30),(.t 31)]<|
 .m 29 32<|
 .nil)
 (.cond (.tmp 29) (.z (.aL 6 1)
 .ret)
 .skip)))))
 (.z (.aL 6 0)
 .ret))))
def Un(a b:Int)(c d:V)(U:H):AE:=
 CM (W Ny Rj [(0,.int .i64 a),(1,.int .i64 b),(2,c),(3,d)] U) λe f=>
 Bj e 7 λg=>
 BL g λg h=>
 Bj e 8 λe=>
 BL e λe i=>
 Bv E f g h 2 λj=>
 uE j λj k=>
 Bv E f e i 2 λl=>
 uE l λl m=>
 cB (D 150 [.agg [.int .i64 j,.int .i64 k],.agg [.int .i64 l,.int .i64 m]] f) λf j=>
 AK f (
 rI (A1 0) j) (
 Bv E j e i 2 λe=>
 uE e λe f=>
 Bv E j g h 2 λg=>
 uE g λg h=>
 cB (D 150 [.agg [.int .i64 e,.int .i64 f],.agg [.int .i64 g,.int .i64 h]] j) λe f=>
 AK e (
 rI (AA 1) f) (
 rI (AA 0) f))
def wY(N:Nat)(args:List V)(U:H):AE:=
 uAK args λa b c d=>
 Un E D W a b c d U
def AYZ:DD:=⟨33,[.i,.i,.any,.any],[(.tmp 6)],AIs⟩
theorem APt args U:BZ E D W N AYZ args U=wY E D W N args U:=by kernel_rfl
def fu:List (Nat × Cc):=[(19,.any),(20,.i),(21,.i)]
def SU:List (Nat × List Cc):=[(4,[.i,.i]),(6,[.i,.i])]
def N0(E:EB):St->AE:=λs=>Dc E s [(.cell 4 (some 2))] λl=>some (Dq l,s.U)
def ACf(c0:XC):Nat->St->AE:=BR 0 (dX E D W N (.Q [] [4,6] SU c0) (N0 E) nX (N0 E)) nX
def xK(b:XC)(a:XC):XC:=(.z (.P 2 (.box 31 (.t 0))<|
 .ol 4 [] 182 [y0,y0]<|
 .nil)
 (.z (.O 9 y6 (.load (some 4) (.t 2))<|
 .m 10 1<|
 .k 11 .S 167 [(.t 9),(.t 10)]<|
 .m 5 11<|
 .nil)
 (.seq (.z (.bZ 12 5<|
 .cI 14 13 0)
 (.cond (.tmp 14) (.z (.op (some 15) Il [] (.build [y0,y0] [])<|
 .op none Il [4,15] (.store 2 (.t 4) (.t 15))<|
 .nil)
 .ret)
 .skip))
 (.z (.m 16 5<|
 .P 17 (.qr 2 (.t 16) (.i 0))<|
 .O 18 Il (.load (some 2) (.t 17))<|
 .ol 6 [] 182 [y0,y0]<|
 .op none Il [6,18] (.store 2 (.t 6) (.t 18))<|
 .nil)
 (.seq (.z (.bZ 19 5<|
 .aL 21 0)
 (.block 0 (.loop fu [4,6] SU a)))
 (.Q [] [4,6] SU b))))))
def Ul(E:EB)(D:Ac)(W:AF)(K2:V->Int->Int->Int->Int->Int->Int->H->AE)(a:BS)(b c d:V)(e:Int)(U:H):AE:=
 Ht (eA a b c d) U λf=>
 Bv E f (H.j U) 0 4 λg=>
 uA g λg h i j=>
 CD (D 167 [.agg (eA g h i j),.int .i64 e] f) λf g=>
 CI f (
 Ao f λh=>
 AK (B8 (AA h) (AA 0)) (
 some ((V.agg [iN 0,iN 0]),g)) (
 iX E g 2 f (AA 0) λh=>
 uE h λh i=>
 Ao f λj=>
 K2 f (AA j) (AA 0) (AA 0) (AA 0) h i g))
def N8:XC:=(.z (.bI 30 Il 2 6 Il 4 2 4<|
 .nil)
 .ret)
def be(E:EB)(D:Ac)(W:AF)(a b c d:Int)(U:H):AE:=
 some ((V.agg [.int .i64 c,.int .i64 d]),U)
def WD(a:XC):XC:=(.z (.aE 22 21 20)
 (.seq (.cond (.tmp 22) .skip
 LM)
 (.seq (.block 1 (.z (.aN 23 2 19 21 Il 2<|
 .ol 8 [] 182 [y0,y0]<|
 .op none Il [8,24] (.store 2 (.t 8) (.t 24))<|
 .nil)
 (.z (.O 25 Il (.load (some 2) (.t 8))<|
 .O 26 Il (.load (some 2) (.t 6))<|
 .k 27 .bool 150 [(.t 25),(.t 26)]<|
 .nil)
 (.cond (.tmp 27) (.Y (.bI 28 Il 2 8 Il 6 2 6<|
 .nil))
 .skip))))
 (.Q fu [4,6] SU a))))
def Q9(E:EB)(D:Ac)(W:AF)(K1:Int->Int->Int->Int->H->AE)(l:V->Int->Int->Int->Int->Int->Int->H->AE)(a:V)(b c d e f g:Int)(U:H):AE:=
 AK (C5 c b) (
 iX E U 2 a c λh=>
 uE h λh i=>
 cB (D 150 [.agg [.int .i64 h,.int .i64 i],.agg [.int .i64 f,.int .i64 g]] U) λj k=>
 AK j (
 l a b c d e h i k) (
 l a b c d e f g k)) (
 K1 d e f g U)
def N7:XC:=(.Y (.aC 29 21 1 21))
def ba(E:EB)(D:Ac)(W:AF)(h:V->Int->Int->Int->Int->Int->Int->H->AE)(a:V)(b c d e f g:Int)(U:H):AE:=
 h a b (BQ .i64 c (AA 1)) d e f g U
def AGe(a:BS)(b c d:V)(e:Int)(U:H):St:=⟨[(0,.agg [.N a,b,c,d]),(1,.int .i64 e)],[],[],U⟩
def dE(a:V)(b c d e f g:Int)(U:H):St:=⟨[(19,a),(20,.int .i64 b),(21,.int .i64 c)],[(4,(4,0)),(6,(6,0))],[(4,[.int .i64 d,.int .i64 e]),(6,[.int .i64 f,.int .i64 g])],U⟩
def AIQ(E:EB)(D:Ac)(W:AF)(N:Nat):=be E D W
def dq(E:EB)(D:Ac)(W:AF)(N:Nat)(a:V->Int->Int->Int->Int->Int->Int->H->AE):=ba E D W a
theorem ABG j:
 (λa b c d e f g U=>Au E D W N N7 (dE a b c d e f g U) (kX fu [4,6] SU j) (ACf E D W N N8) (N0 E))=dq E D W N (λa b c d e f g U=>j (dE a b c d e f g U)):=by
 unfold dq;generalize N8=o;revert o;refine id ?_;intros;kernel_rfl
def dO(n:Nat):V->Int->Int->Int->Int->Int->Int->H->AE:=
 Nat.rec (λ_ _ _ _ _ _ _ _=>none) (λ_ a=>Q9 E D W (AIQ E D W N ) (dq E D W N a)) n
theorem AAg n:
 (λa b c d e f g U=>BM (λm p=>Au E D W N (WD N7) p (kX fu [4,6] SU m) (ACf E D W N N8) (N0 E)) n (dE a b c d e f g U))=dO E D W N n:=lp8 (λr=>by rw[<-ABG];generalize N7=o;revert o;refine id ?_;intros;kernel_rfl) n
def dt:=Ul E D W (dO E D W N N)
theorem ABH:
 (λa b c d e U=>Au E D W N (xK N8 (WD N7)) (AGe a b c d e U) (N0 E) nX (N0 E))=dt E D W N:=by
 unfold dt;rw[<-AAg];generalize WD N7=l,N8=m;revert l m;refine id ?_;intros;kernel_rfl
def m9(args:List V)(U:H):AE:=
 Ab args λa b=>
 Cp a λa=>
 uA a λa c d e=>
 D3 .i64 b λb f=>
 Ay f (
 dt E D W N a c d e b U)
def AYY:DD:=⟨31,[y6,.i],[(.cell 4 (some 2))],(xK N8 (WD N7))⟩
theorem APs args U:BZ E D W N AYY args U=m9 E D W N args U:=by
 unfold m9;rw[<-ABH];kernel_rfl
def AIr:XC:=(.z (.P 2 (.box 182 (.t 0))<|
 .P 3 (.box 182 (.t 1))<|
 .aX 4 y2)
 (.seq (.z (.aA 5 0 2 .i<|
 .aA 7 0 3 .i<|
 .b 9 .neq .none (.t 6) (.t 8)<|
 .nil)
 (.cond (.tmp 9) (.z (.aA 10 0 2 .i<|
 .aA 12 0 3 .i<|
 .b 14 .lss .none (.t 11) (.t 13)<|
 .aG 4 14)
 .ret)
 .skip))
 (.z (.aA 15 1 2 .i<|
 .aA 17 1 3 .i<|
 .b 19 .lss .none (.t 16) (.t 18)<|
 .aG 4 19)
 .ret)))
def a9(E:EB)(D:Ac)(W:AF)(a b c d:Int)(U:H):AE:=
 Ht [.int .i64 a,.int .i64 b] U λe=>
 Ht [.int .i64 c,.int .i64 d] e λf=>
 lI E f (H.j U) 0 λg=>
 lI E f (H.j e) 0 λh=>
 AK (not (B8 g h)) (
 lI E f (H.j U) 0 λg=>
 lI E f (H.j e) 0 λh=>
 rB (C5 g h) f) (
 lI E f (H.j U) 1 λg=>
 lI E f (H.j e) 1 λe=>
 rB (C5 g e) f)
def wX(N:Nat)(args:List V)(U:H):AE:=
 Ab args λa b=>
 Cp a λa=>
 uE a λa c=>
 Ab b λb d=>
 Cp b λb=>
 uE b λb e=>
 Ay d (
 a9 E D W a c b e U)
def AYX:DD:=⟨20,[Il,Il],[(.tmp 4)],AIr⟩
theorem APr args U:BZ E D W N AYX args U=wX E D W N args U:=by kernel_rfl
def AIq:XC:=(.z (.aS 0)
 (.z (.p 1 [] (.buildSlice 9 25 [y5,y5,y5,y5,y5,y5,y5,y5,y5,y5,y5,y5,y5,y5,y5,y5,y5,y5,y5,y5,y5,y5,y5,y5,y5] [(0,1,(.T (V.N ⟨11,100710650190388740279911748⟩))),(1,1,y43),(2,1,y44),(3,1,(.T (V.N ⟨9,1241215773001651606849⟩))),(4,1,y37),(5,1,(.T (V.N ⟨5,336236856642⟩))),(6,1,(.T (V.N ⟨3,4476485⟩))),(7,1,(.T (V.N ⟨7,22026814072246082⟩))),(8,1,(.T (V.N ⟨7,23157120498421321⟩))),(9,1,y36),(10,1,(.T (V.N ⟨4,1280070990⟩))),(11,1,(.T (V.N ⟨5,361940403023⟩))),(12,1,(.T (V.N ⟨6,78401563153491⟩))),(13,1,y35),(14,1,y45),(15,1,(.T (V.N ⟨3,5522771⟩))),(16,1,(.T (V.N ⟨6,76155295057987⟩))),(17,1,(.T (V.N ⟨2,17999⟩))),(18,1,(.T (V.N ⟨8,5494759122808361039⟩))),(19,1,(.T (V.N ⟨7,23727827094750532⟩))),(20,1,(.T (V.N ⟨4,1163544915⟩))),(21,1,(.T (V.N ⟨3,5130573⟩))),(22,1,(.T (V.N ⟨3,5783885⟩))),(23,1,(.T (V.N ⟨4,1163219540⟩))),(24,1,(.T (V.N ⟨5,297750249798⟩)))])<|
 .m 0 1<|
 .nil)
 .ret))
def AF3(E:EB)(D:Ac)(W:AF)(U:H):AE:=
 let a:=Cb U (.cells [sN 11 100710650190388740279911748,sN 8 6073459554577832005,sN 8 6073459554577829193,sN 9 1241215773001651606849,sN 4 1397178708,sN 5 336236856642,sN 3 4476485,sN 7 22026814072246082,sN 7 23157120498421321,sN 10 322399817400452109389381,sN 4 1280070990,sN 5 361940403023,sN 6 78401563153491,sN 10 488440487847103610377301,sN 8 4990918871747741011,sN 3 5522771,sN 6 76155295057987,sN 2 17999,sN 8 5494759122808361039,sN 7 23727827094750532,sN 4 1163544915,sN 3 5130573,sN 3 5783885,sN 4 1163219540,sN 5 297750249798]);
 some ((V.D (H.j U) 0 25 (.ex 25)),a)
def wW(N:Nat)(args:List V)(U:H):AE:=
 Ay args (
 AF3 E D W  U)
def AYW:DD:=⟨2,[],[(.tmp 0)],AIq⟩
theorem APq args U:BZ E D W N AYW args U=wW E D W N args U:=by kernel_rfl
def Nx:List BO:=[⟨(some 35),.L (.tmp 1),none⟩,⟨(some 36),.L (.tmp 1),none⟩,⟨(some 37),.rg (.tmp 36),none⟩,⟨(some 38),.C 12 (.tmp 37),none⟩,⟨(some 39),.load none (.tmp 38),none⟩,⟨(some 40),.load (some 11) (.tmp 8),none⟩,⟨(some 41),.buildSlice 152 1 [(V.N ⟨0,0⟩),(V.int .i64 (AA 0)),(V.bool false),(V.bool false),(V.int .i64 (AA 0)),(V.int .i64 (AA 0)),V.h,V.h,(V.int .i64 (AA 0)),V.h,(V.int .i64 (AA 0))] [(0,11,(.tmp 40))],none⟩,⟨(some 42),.append 152 11 136 (.tmp 39) (.tmp 41),none⟩,⟨(some 43),.rg (.tmp 35),none⟩,⟨(some 44),.C 12 (.tmp 43),none⟩,⟨none,.store 1 (.tmp 44) (.tmp 42),none⟩]
def Kd:List DP:=[⟨0,[1]⟩,⟨0,[1]⟩,⟨2,[36]⟩,⟨6,[37]⟩,⟨14,[38]⟩,⟨0,[8]⟩,⟨32,[40]⟩,⟨126,[39,41]⟩,⟨255,[35]⟩,⟨511,[43]⟩,⟨1023,[44,42]⟩]
def AIp(a:XC):XC:=(.z (.m 9 0<|
 .k 10 .N 28 [(.t 9),(.i 2)]<|
 .m 11 3<|
 .op (some 12) xt [10,11] (.build [y5,y0,y2,y2,y0,y0,V.h,V.h,y0,V.h,y0] [(0,1,(.t 10)),(10,1,(.t 11))])<|
 .p 8 [] (.alloc 152 [y5,y0,y2,y2,y0,y0,V.h,V.h,y0,V.h,y0])<|
 .op none xt [8,12] (.store 11 (.t 8) (.t 12))<|
 .nil)
 (.z (.aB 13 0 2<|
 .b 15 .add .none (.t 14) (.i 1)<|
 .k 16 .i 33 [(.t 13),(.t 15)]<|
 .bC 17 1 8 1 16)
 (.seq (.block 0 (.z (.aI 19 1<|
 .aA 21 0 20 .i<|
 .aD 23 22 9 18)
 (.cond (.tmp 18) .skip
 (.z (.m 25 0<|
 .k 26 .bool 30 [(.t 25),(.T (V.N ⟨8,5494759122808361039⟩))]<|
 .bV 24)
 (.cond (.tmp 24) (.Y (.f 27 2 8<|
 .op none .any [27] (.store 1 (.t 27) We)<|
 .nil))
 (.z (.m 29 0<|
 .k 30 .bool 30 [(.t 29),(.T (V.N ⟨7,23727827094750532⟩))]<|
 .bV 28)
 (.cond (.tmp 28) (.Y (.m 31 0<|
 .k 32 y3 179 [(.t 31)]<|
 .f 33 3 8<|
 .op none .any [33] (.store 1 (.t 33) We)<|
 .cC 34 4 8 y3 32 6 32))
 .skip)))))))
 (.Q [(1,.o),(8,.o)] [] [] a))))
def Q8(E:EB)(D:Ac)(W:AF)(K1:Nat->Nat->Nat->Nat->H->AE)(a:V)(b c:Nat)(d e:Int)(U:H):AE:=
 cS (D 28 [a,iN 2] U) λf g=>
 let h:=Cb g (.cells [.N ⟨0,0⟩,iN 0,.bool false,.bool false,iN 0,iN 0,V.h,V.h,iN 0,V.h,iN 0]);
 DO 11 (H.j g) 0 (V.agg [.N f,iN 0,.bool false,.bool false,iN 0,iN 0,V.h,V.h,iN 0,V.h,.int .i64 e]) h λf=>
 cI (D 33 [a,.int .i64 (BQ .i64 d (AA 1))] f) λf h=>
 DO 1 (H.j g) 1 (V.int .i64 f) h λf=>
 lI E f b c λh=>
 AK (B8 h (AA 9)) (
 K1 b c (H.j g) 0 f) (
 cB (D 30 [a,sN 8 5494759122808361039] f) λf h=>
 AK f (
 DO 1 (H.j g) 2 (V.bool true) h λf=>
 K1 b c (H.j g) 0 f) (
 cB (D 30 [a,sN 7 23727827094750532] h) λf h=>
 AK f (
 cA (D 179 [a] h) λf i=>
 uI f λf j k l m n=>
 DO 1 (H.j g) 3 (V.bool true) i λi=>
 DO 6 (H.j g) 4 (V.agg (eI f j k l m n)) i λf=>
 K1 b c (H.j g) 0 f) (
 K1 b c (H.j g) 0 h)))
def AIo:XC:=(.Q [(1,.o),(8,.o)] [] [] (.wl Nx Kd []))
def Uh(E:EB)(D:Ac)(W:AF)(a b c d:Nat)(U:H):AE:=
 CM (W Nx Kd [(1,.o a b),(8,.o c d)] U) λe f=>
 r0 f
def AIP(E:EB)(D:Ac)(W:AF)(N:Nat):=Uh E D W
def wV(args:List V)(U:H):AE:=
 uAL args λa b c d e=>
 Q8 E D W (AIP E D W N ) a b c d e U
def AYV:DD:=⟨45,[.any,.o,.i,.i],[],(AIp AIo)⟩
theorem APp args U:BZ E D W N AYV args U=wV E D W N args U:=by kernel_rfl
end
end Go.Proofs.YtpbligmafbkeaaaGreatDoor
