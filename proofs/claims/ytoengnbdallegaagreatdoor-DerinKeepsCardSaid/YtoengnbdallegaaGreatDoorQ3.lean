/- What the last text leans on, part 4 of 7: merged out of smaller texts. No condition. -/
import Derived.KernelRfl
import Derived.Test.YtoengnbdallegaaGreatDoorQ2
open Int renaming ofNat -> AA,negSucc -> BQ
open Nat renaming ble -> Ag,add -> Ap
open List renaming replicate -> AY
set_option linter.all false
set_option maxRecDepth 100000
set_option maxHeartbeats 0
namespace Go.Proofs.YtoengnbdallegaaGreatDoor
open Go Go.Og
noncomputable section
variable (E:EB) (D:Ak) (W:AI) (N:Nat)
def Zq:List (Nat × C6):=[(0,.ptr),(7,.ptr),(8,.any),(49,.any),(50,.i),(51,.i)]
def qz:List (Nat × C6):=[(5,.ptr),(7,.ptr)]
def Q3:List BM:=[⟨(some 39),.faddr 1 (.tmp 7),none⟩,⟨(some 40),.load none (.tmp 39),none⟩,⟨(some 41),.faddr 1 (.tmp 5),none⟩,⟨(some 42),.load none (.tmp 41),none⟩,⟨(some 43),.call 59 [(.tmp 42)],none⟩,⟨(some 44),.buildSlice 29 1 [V.nils] [(0,1,(.tmp 43))],none⟩,⟨(some 45),.call 71 [(.tmp 40),(.con (V.bool false)),(.tmp 44)],none⟩,⟨(some 6),.mov (.tmp 45),none⟩]
def UQ:List DP:=[⟨0,[7]⟩,⟨1,[39]⟩,⟨0,[5]⟩,⟨4,[41]⟩,⟨12,[42]⟩,⟨28,[43]⟩,⟨63,[40,44]⟩,⟨127,[45]⟩]
def qK:List BM:=[⟨(some 79),.faddr 1 (.tmp 7),none⟩,⟨(some 80),.load none (.tmp 79),none⟩,⟨(some 81),.mov (.tmp 0),none⟩,⟨(some 82),.faddr 9 (.tmp 7),none⟩,⟨(some 83),.load none (.tmp 82),none⟩,⟨(some 84),.faddr 1 (.tmp 5),none⟩,⟨(some 85),.load none (.tmp 84),none⟩,⟨(some 86),.iaddrS 11 (.tmp 83) (.tmp 85),none⟩,⟨(some 87),.faddr 1 (.tmp 86),none⟩,⟨(some 88),.load none (.tmp 87),none⟩,⟨(some 89),.faddr 3 (.tmp 5),none⟩,⟨(some 90),.load none (.tmp 89),none⟩,⟨(some 91),.iaddrS 6 (.tmp 90) (.con (V.int .i64 (AA 0))),none⟩,⟨(some 92),.load (some 6) (.tmp 91),none⟩,⟨(some 93),.call 42 [(.tmp 81),(.tmp 88),(.tmp 92)],none⟩,⟨(some 94),.buildSlice 29 1 [V.nils] [(0,1,(.tmp 93))],none⟩,⟨(some 95),.call 71 [(.tmp 80),(.con (V.bool true)),(.tmp 94)],none⟩,⟨(some 6),.mov (.tmp 95),none⟩]
def qI:List DP:=[⟨0,[7]⟩,⟨1,[79]⟩,⟨0,[0]⟩,⟨0,[7]⟩,⟨8,[82]⟩,⟨0,[5]⟩,⟨32,[84]⟩,⟨120,[83,85]⟩,⟨248,[86]⟩,⟨504,[87]⟩,⟨0,[5]⟩,⟨1024,[89]⟩,⟨3072,[90]⟩,⟨7168,[91]⟩,⟨16380,[81,88,92]⟩,⟨32764,[93]⟩,⟨65535,[80,94]⟩,⟨131071,[95]⟩]
def Q2:List BM:=[⟨(some 99),.faddr 1 (.tmp 7),none⟩,⟨(some 100),.load none (.tmp 99),none⟩,⟨(some 101),.mov (.tmp 0),none⟩,⟨(some 102),.load (some 13) (.tmp 7),none⟩,⟨(some 103),.load (some 6) (.tmp 5),none⟩,⟨(some 104),.call 72 [(.tmp 101),(.tmp 102),(.tmp 103)],none⟩,⟨(some 105),.call 71 [(.tmp 100),(.con (V.bool true)),(.tmp 104)],none⟩,⟨(some 6),.mov (.tmp 105),none⟩]
def UP:List DP:=[⟨0,[7]⟩,⟨1,[99]⟩,⟨0,[0]⟩,⟨0,[7]⟩,⟨0,[5]⟩,⟨28,[101,102,103]⟩,⟨63,[100,104]⟩,⟨127,[105]⟩]
def EO (E:EB):St->AH:=fun s=>DF E s [(.tmp 6)] fun l=>some (Da l,s.Z)
def IQ (c0:XC):St->AH:=dX E D W N (.keep qz [] [] c0) (EO E) nX (EO E)
def ju (c0 c1:XC):Nat->St->AH:=BY 1 (dX E D W N (.keep [(7,.ptr),(8,.any)] [] [] c0) (IQ E D W N c1) (BY 0 (IQ E D W N c1) nX) (EO E)) (BY 0 (IQ E D W N c1) nX)
def gl (cc1:XC) (cc2:XC):XC:=(.z (.P 5 (.box 34 (.t 2))<|
.c 6 V.nils<|
.nil)
 (.z (.m 11 0<|
.n 12 11<|
.f 13 0 12<|
.f 14 3 13<|
.l 15 .any 14<|
.m 16 1<|
.s 17 13 15 16<|
.O 18 y2 (.load (some 13) (.t 17))<|
.p 7 [] (.alloc 97 [y0,V.nils,y3,y3,y3,y3,y0,y0,V.nils,V.nils,y0,y3,y0])<|
.op none y2 [7,18] (.store 13 (.t 7) (.t 18))<|
.nil)
 (.seq (.z (.f 19 0 7<|
.l 20 .i 19<|
.nil)
 (.block 0 (.z (.b 22 .eql .none (.t 20) (.i 1)<|
.m 21 22<|
.nil)
 (.cond (.tmp 21) (.seq (.z (.f 23 1 5<|
.l 24 .i 23<|
.b 25 .eql .none (.t 24) (.i 1)<|
.nil)
 (.cond (.tmp 25) (.z (.f 26 1 7<|
.l 27 .any 26<|
.p 28 [] (.buildSlice 5 1 [y5] [(0,1,(.con (V.int .u8 (AA 255))))])<|
.p 29 [28] (.buildSlice 29 1 [V.nils] [(0,1,(.t 28))])<|
.k 30 .one 71 [(.t 27),Ln,(.t 29)]<|
.m 6 30<|
.nil)
 .ret)
 .skip))
 (.z (.f 31 1 7<|
.l 32 .any 31<|
.p 33 [] (.buildSlice 5 1 [y5] [(0,1,(.con y5))])<|
.p 34 [33] (.buildSlice 29 1 [V.nils] [(0,1,(.t 33))])<|
.k 35 .one 71 [(.t 32),Ln,(.t 34)]<|
.m 6 35<|
.nil)
 .ret))
 (.seq (.z (.b 37 .eql .none (.t 20) (.i 2)<|
.m 36 37<|
.nil)
 (.cond (.tmp 36) .skip
 (.ops (.b 38 .eql .none (.t 20) (.i 3)<|
.m 36 38<|
.nil))))
 (.keep [(0,.ptr),(5,.ptr),(7,.ptr),(20,.i),(36,.bool)] [] [] cc2))))))
 (.keep qz [] [] cc1))))
def H3 (E:EB) (D:Ak) (W:AI) (K2:Nat->Nat->Nat->Nat->Nat->Nat->Int->Bool->H->AH) (a b:Nat) (c d e:Int) (f g:V) (h:Int) (i:V) (Z:H):AH:=
 Gn [.int .i64 d,.int .i64 e,f,g,.int .i64 h,i] Z fun s1=>
 Bc E s1 a (Ap b 3) fun u2=>
 AU 13 u2 c fun b3 o4=>
 BH E s1 b3 o4 13 fun l5=>
 Ah .i64 l5 fun x8 l7=>
 AE l7 fun x9 l10=>
 DQ l10 fun x13 l12=>
 DQ l12 fun x16 l15=>
 DQ l15 fun x19 l18=>
 DQ l18 fun x22 l21=>
 Ah .i64 l21 fun x25 l24=>
 Ah .i64 l24 fun x28 l27=>
 AE l27 fun x29 l30=>
 AE l30 fun x31 l32=>
 Ah .i64 l32 fun x35 l34=>
 DQ l34 fun x38 l37=>
 Ah .i64 l37 fun x41 l40=>
 AP l40 (
 let s42:=Br s1 (.cells [.int .i64 (AA 0),V.nils,.bool false,.bool false,.bool false,.bool false,.int .i64 (AA 0),.int .i64 (AA 0),V.nils,V.nils,.int .i64 (AA 0),.bool false,.int .i64 (AA 0)]);
 FW 13 (H.next s1) 0 (V.agg [.int .i64 x8,x9,.bool x13,.bool x16,.bool x19,.bool x22,.int .i64 x25,.int .i64 x28,x29,x31,.int .i64 x35,.bool x38,.int .i64 x41]) s42 fun s43=>
 Bc E s43 (H.next s1) 0 fun u44=>
 Am .i64 u44 fun x45=>
 AK (B4 x45 (AA 1)) (
 Bc E s43 (H.next Z) 1 fun u46=>
 Am .i64 u46 fun x47=>
 AK (B4 x47 (AA 1)) (
 Bc E s43 (H.next s1) 1 fun u48=>
 let s49:=Br s43 (.cells [.int .u8 (AA 255)]);
 let s50:=Br s49 (.cells [.sl (H.next s43) 0 1 (.ex 1)]);
 AV (D 71 [u48,.bool false,.sl (H.next s49) 0 1 (.ex 1)] s50) fun u51 s52=>
 Ba u51 (
 some (u51,s52))) (
 Bc E s43 (H.next s1) 1 fun u53=>
 let s54:=Br s43 (.cells [.int .u8 (AA 0)]);
 let s55:=Br s54 (.cells [.sl (H.next s43) 0 1 (.ex 1)]);
 AV (D 71 [u53,.bool false,.sl (H.next s54) 0 1 (.ex 1)] s55) fun u56 s57=>
 Ba u56 (
 some (u56,s57)))) (
 AK (B4 x45 (AA 2)) (
 K2 a b (H.next Z) 0 (H.next s1) 0 x45 (B4 x45 (AA 2)) s43) (
 K2 a b (H.next Z) 0 (H.next s1) 0 x45 (B4 x45 (AA 3)) s43)))
def G2:XC:=(.z (.f 106 1 7<|
.l 107 .any 106<|
.f 108 2 5<|
.l 109 .any 108<|
.p 110 [109] (.buildSlice 29 1 [V.nils] [(0,1,(.t 109))])<|
.k 111 .one 71 [(.t 107),Ln,(.t 110)]<|
.m 6 111<|
.nil)
 .ret)
def Qb (E:EB) (D:Ak) (W:AI) (a b c d:Nat) (Z:H):AH:=
 Bc E Z c (Ap d 1) fun u1=>
 Bc E Z a (Ap b 2) fun u2=>
 D8 [(0,1,u2)] [V.nils] fun l3=>
 GW (allOne l3) (
 let s4:=Br Z (.cells l3);
 AV (D 71 [u1,.bool false,.sl (H.next Z) 0 1 (.ex 1)] s4) fun u5 s6=>
 Ba u5 (
 some (u5,s6)))
def UZ (cc3:XC) (cc4:XC) (cc5:XC):XC:=(.cond (.tmp 36) (.seq (.keep qz [] [] (.gdraw Q3 UQ [(6,.any)]))
 .ret)
 (.z (.b 47 .eql .none (.t 20) (.i 10)<|
.m 46 47<|
.nil)
 (.cond (.tmp 46) (.z (.c 8 V.nils<|
.nil)
 (.seq (.z (.f 48 3 5<|
.l 49 .any 48<|
.u 50 49<|
.q 51 0<|
.nil)
 (.block 1 (.loop Zq [] [] cc4)))
 (.keep [(7,.ptr),(8,.any)] [] [] cc3)))
 (.z (.b 69 .eql .none (.t 20) (.i 9)<|
.m 68 69<|
.nil)
 (.cond (.tmp 68) (.seq (.z (.f 70 0 5<|
.l 71 .i 70<|
.b 72 .eql .none (.t 71) (.i 12)<|
.nil)
 (.cond (.tmp 72) (.z (.f 73 1 7<|
.l 74 .any 73<|
.f 75 2 5<|
.l 76 .any 75<|
.p 77 [76] (.buildSlice 29 1 [V.nils] [(0,1,(.t 76))])<|
.k 78 .one 71 [(.t 74),Pw,(.t 77)]<|
.m 6 78<|
.nil)
 .ret)
 .skip))
 (.seq (.keep [(0,.ptr),(5,.ptr),(7,.ptr)] [] [] (.gdraw qK qI [(6,.any)]))
 .ret))
 (.seq (.z (.b 97 .eql .none (.t 20) (.i 7)<|
.m 96 97<|
.nil)
 (.cond (.tmp 96) .skip
 (.ops (.b 98 .eql .none (.t 20) (.i 8)<|
.m 96 98<|
.nil))))
 (.keep [(0,.ptr),(5,.ptr),(7,.ptr),(96,.bool)] [] [] cc5)))))))
def Km (K4:Nat->Nat->Nat->Nat->V->V->Int->Int->H->AH) (K5:Nat->Nat->Nat->Nat->Nat->Nat->Bool->H->AH) (a b c d e f:Nat) (g:Int) (h:Bool) (Z:H):AH:=
 AK h (
 Ci (W Q3 UQ [(5,.ptr c d),(7,.ptr e f)] Z) fun e1 s2=>
 BR e1 6 fun u3=>
 some (u3,s2)) (
 AK (B4 g (AA 10)) (
 Bc E Z c (Ap d 3) fun u4=>
 A2 u4 fun n5=>
 K4 a b e f V.nils u4 (AA n5) (AA 0) Z) (
 AK (B4 g (AA 9)) (
 Bc E Z c d fun u6=>
 Am .i64 u6 fun x7=>
 AK (B4 x7 (AA 12)) (
 Bc E Z e (Ap f 1) fun u8=>
 Bc E Z c (Ap d 2) fun u9=>
 D8 [(0,1,u9)] [V.nils] fun l10=>
 GW (allOne l10) (
 let s11:=Br Z (.cells l10);
 AV (D 71 [u8,.bool true,.sl (H.next Z) 0 1 (.ex 1)] s11) fun u12 s13=>
 Ba u12 (
 some (u12,s13)))) (
 Ci (W qK qI [(0,.ptr a b),(5,.ptr c d),(7,.ptr e f)] Z) fun e14 s15=>
 BR e14 6 fun u16=>
 some (u16,s15))) (
 AK (B4 g (AA 7)) (
 K5 a b c d e f (B4 g (AA 7)) Z) (
 K5 a b c d e f (B4 g (AA 8)) Z))))
def Kr:XC:=(.z (.f 64 1 7<|
.l 65 .any 64<|
.m 66 8<|
.k 67 .one 71 [(.t 65),Pw,(.t 66)]<|
.m 6 67<|
.nil)
 .ret)
def m1 (E:EB) (D:Ak) (W:AI) (a b:Nat) (c:V) (Z:H):AH:=
 Bc E Z a (Ap b 1) fun u1=>
 AV (D 71 [u1,.bool true,c] Z) fun u2 s3=>
 Ba u2 (
 some (u2,s3))
def Nu:XC:=(.z (.b 52 .lss .none (.t 51) (.t 50)<|
.nil)
 (.seq (.cond (.tmp 52) .skip
 (.exit 1))
 (.seq (.block 2 (.z (.s 53 6 49 51<|
.O 54 y1 (.load (some 6) (.t 53))<|
.pal 10 [] 34 [y0,y0,V.nils,V.nils,y0,V.nils]<|
.op none y1 [10,54] (.store 6 (.t 10) (.t 54))<|
.nil)
 (.ops (.m 55 8<|
.m 56 0<|
.f 57 12 7<|
.l 58 .i 57<|
.O 59 y1 (.load (some 6) (.t 10))<|
.k 60 .one 42 [(.t 56),(.t 58),(.t 59)]<|
.p 61 [60] (.buildSlice 29 1 [V.nils] [(0,1,(.t 60))])<|
.O 62 .one (.append 29 1 24 (.t 55) (.t 61))<|
.m 8 62<|
.nil))))
 (.ops (.b 63 .add .none (.t 51) (.i 1)<|
.m 51 63<|
.nil)))))
def m0 (E:EB) (D:Ak) (W:AI) (K3:Nat->Nat->V->H->AH) (R4:Nat->Nat->Nat->Nat->V->V->Int->Int->H->AH) (a b c d:Nat) (e f:V) (g h:Int) (Z:H):AH:=
 AK (C8 h g) (
 AU 6 f h fun b1 o2=>
 BH E Z b1 o2 6 fun l3=>
 Ah .i64 l3 fun x6 l5=>
 Ah .i64 l5 fun x9 l8=>
 AE l8 fun x10 l11=>
 AE l11 fun x12 l13=>
 Ah .i64 l13 fun x16 l15=>
 AE l15 fun x17 l18=>
 AP l18 (
 GW (allOne [.int .i64 x6,.int .i64 x9,x10,x12,.int .i64 x16,x17]) (
 Bc E Z c (Ap d 12) fun u19=>
 Am .i64 u19 fun x20=>
 AV (D 42 [.ptr a b,.int .i64 x20,.agg [.int .i64 x6,.int .i64 x9,x10,x12,.int .i64 x16,x17]] Z) fun u21 s22=>
 Ba u21 (
 D8 [(0,1,u21)] [V.nils] fun l23=>
 GW (allOne l23) (
 let s24:=Br s22 (.cells l23);
 DD E 1 24 e (V.sl (H.next s22) 0 1 (.ex 1)) s24 fun u25 s26=>
 Ba u25 (
 R4 a b c d u25 f g (CR .i64 h (AA 1)) s26)))))) (
 K3 c d e Z)
def Pd:XC:=(.cond (.tmp 96) (.seq (.keep [(0,.ptr),(5,.ptr),(7,.ptr)] [] [] (.gdraw Q2 UP [(6,.any)]))
 .ret)
 .skip)
def Ni (E:EB) (D:Ak) (W:AI) (K1:Nat->Nat->Nat->Nat->H->AH) (a b c d e f:Nat) (g:Bool) (Z:H):AH:=
 AK g (
 Ci (W Q2 UP [(0,.ptr a b),(5,.ptr c d),(7,.ptr e f)] Z) fun e1 s2=>
 BR e1 6 fun u3=>
 some (u3,s2)) (
 K1 c d e f Z)
def nn (a b:Nat) (c d e:Int) (f g:V) (h:Int) (i:V) (Z:H):St:=⟨[(0,.ptr a b),(1,.int .i64 c),(2,.agg [.int .i64 d,.int .i64 e,f,g,.int .i64 h,i])],[],[],Z⟩
def nk (a b c d:Nat) (Z:H):St:=⟨[(5,.ptr a b),(7,.ptr c d)],[],[],Z⟩
def dV (a b c d e f:Nat) (g:Int) (h:Bool) (Z:H):St:=⟨[(0,.ptr a b),(5,.ptr c d),(7,.ptr e f),(20,.int .i64 g),(36,.bool h)],[],[],Z⟩
def dU (a b:Nat) (c:V) (Z:H):St:=⟨[(7,.ptr a b),(8,c)],[],[],Z⟩
def Xe (a b c d:Nat) (e f:V) (g h:Int) (Z:H):St:=⟨[(0,.ptr a b),(7,.ptr c d),(8,e),(49,f),(50,.int .i64 g),(51,.int .i64 h)],[],[],Z⟩
def dT (a b c d e f:Nat) (g:Bool) (Z:H):St:=⟨[(0,.ptr a b),(5,.ptr c d),(7,.ptr e f),(96,.bool g)],[],[],Z⟩
theorem ABY (cc1:XC) (cc2:XC) (a b:Nat) (c d e:Int) (f g:V) (h:Int) (i:V) (Z:H) :
 AN E D W N (gl cc1 cc2) (nn a b c d e f g h i Z) (EO E) nX (EO E) =
 H3 E D W (fun a b j k l m o p Z=>AN E D W N cc2 (dV a b j k l m o p Z) (IQ E D W N cc1) (BY 0 (IQ E D W N cc1) nX) (EO E)) a b c d e f g h i Z:=by kernel_rfl
theorem ABX (cc1:XC) (cc3:XC) (cc4:XC) (cc5:XC) (a b c d e f:Nat) (g:Int) (h:Bool) (Z:H) :
 AN E D W N (UZ cc3 cc4 cc5) (dV a b c d e f g h Z) (IQ E D W N cc1) (BY 0 (IQ E D W N cc1) nX) (EO E) =
 Km E D W (fun a b e f i j k l Z=>Ad (fun rec s'=>AN E D W N cc4 s' (kX Zq [] [] rec) (ju E D W N cc3 cc1) (EO E)) N (Xe a b e f i j k l Z)) (fun a b c d e f m Z=>AN E D W N cc5 (dT a b c d e f m Z) (IQ E D W N cc1) (BY 0 (IQ E D W N cc1) nX) (EO E)) a b c d e f g h Z:=by kernel_rfl
theorem ABW (cc1:XC) (a b:Nat) (c:V) (Z:H) :
 AN E D W N (Kr ) (dU a b c Z) (IQ E D W N cc1) (BY 0 (IQ E D W N cc1) nX) (EO E) =
 m1 E D W  a b c Z:=by kernel_rfl
theorem ABV (cc1:XC) (cc3:XC) (li4:St->AH) (a b c d:Nat) (e f:V) (g h:Int) (Z:H) :
 AN E D W N (Nu ) (Xe a b c d e f g h Z) (kX Zq [] [] li4) (ju E D W N cc3 cc1) (EO E) =
 m0 E D W (fun c d e Z=>AN E D W N cc3 (dU c d e Z) (IQ E D W N cc1) (BY 0 (IQ E D W N cc1) nX) (EO E)) (fun a b c d e f g h Z=>li4 (Xe a b c d e f g h Z)) a b c d e f g h Z:=by kernel_rfl
theorem ABU (cc1:XC) (a b c d e f:Nat) (g:Bool) (Z:H) :
 AN E D W N (Pd ) (dT a b c d e f g Z) (IQ E D W N cc1) (BY 0 (IQ E D W N cc1) nX) (EO E) =
 Ni E D W (fun c d e f Z=>AN E D W N cc1 (nk c d e f Z) (EO E) nX (EO E)) a b c d e f g Z:=by kernel_rfl
def pg (E:EB) (D:Ak) (W:AI) (N:Nat):=m1 E D W
theorem vF (a b:Nat) (c:V) (Z:H) :
 AN E D W N Kr (dU a b c Z) (IQ E D W N G2) (BY 0 (IQ E D W N G2) nX) (EO E)=pg E D W N a b c Z:=by
 refine(ABW E D W N G2  a b c Z).trans ?_
 kernel_rfl
def oY (n:Nat):Nat->Nat->Nat->Nat->V->V->Int->Int->H->AH:=
 Nat.rec (fun _ _ _ _ _ _ _ _ _=>none) (fun _ ih=>m0 E D W (pg E D W N ) ih) n
theorem uD (n:Nat):∀(a b c d:Nat) (e f:V) (g h:Int) (Z:H),
 Ad (fun rec s'=>AN E D W N Nu s' (kX Zq [] [] rec) (ju E D W N Kr G2) (EO E)) n (Xe a b c d e f g h Z)=oY E D W N n a b c d e f g h Z:=by
 induction n with
 | zero=>intro a b c d e f g h Z;rfl
 | succ n ihn=>
  intro a b c d e f g h Z
  rw[Aq]
  refine(ABV E D W N G2 Kr (Ad (fun rec s'=>AN E D W N Nu s' (kX Zq [] [] rec) (ju E D W N Kr G2) (EO E)) n) a b c d e f g h Z).trans ?_
  simp only[ihn,vF]
  kernel_rfl
def ph (E:EB) (D:Ak) (W:AI) (N:Nat):=Qb E D W
theorem vH (a b c d:Nat) (Z:H) :
 AN E D W N G2 (nk a b c d Z) (EO E) nX (EO E)=ph E D W N a b c d Z:=by kernel_rfl
def pf:=Ni E D W (ph E D W N )
theorem vE (a b c d e f:Nat) (g:Bool) (Z:H) :
 AN E D W N Pd (dT a b c d e f g Z) (IQ E D W N G2) (BY 0 (IQ E D W N G2) nX) (EO E)=pf E D W N a b c d e f g Z:=by
 refine(ABU E D W N G2  a b c d e f g Z).trans ?_
 simp only[vH]
 kernel_rfl
def Xv:=Km E D W (oY E D W N N) (pf E D W N )
theorem vG (a b c d e f:Nat) (g:Int) (h:Bool) (Z:H) :
 AN E D W N (UZ Kr Nu Pd) (dV a b c d e f g h Z) (IQ E D W N G2) (BY 0 (IQ E D W N G2) nX) (EO E)=Xv E D W N a b c d e f g h Z:=by
 refine(ABX E D W N G2 Kr Nu Pd  a b c d e f g h Z).trans ?_
 simp only[uD,vE]
 kernel_rfl
def pn:=H3 E D W (Xv E D W N )
theorem vI (a b:Nat) (c d e:Int) (f g:V) (h:Int) (i:V) (Z:H) :
 AN E D W N (gl G2 (UZ Kr Nu Pd)) (nn a b c d e f g h i Z) (EO E) nX (EO E)=pn E D W N a b c d e f g h i Z:=by
 refine(ABY E D W N G2 (UZ Kr Nu Pd)  a b c d e f g h i Z).trans ?_
 simp only[vG]
 kernel_rfl
def vr (args:List V) (Z:H):AH:=
 AE args fun x1 l2=>
 B8 x1 fun b3 o4=>
 Ah .i64 l2 fun x7 l6=>
 AE l6 fun x8 l9=>
 Bm x8 fun l10=>
 Ah .i64 l10 fun x13 l12=>
 Ah .i64 l12 fun x16 l15=>
 AE l15 fun x17 l18=>
 AE l18 fun x19 l20=>
 Ah .i64 l20 fun x23 l22=>
 AE l22 fun x24 l25=>
 AP l25 (
 AP l9 (
 pn E D W N b3 o4 x7 x13 x16 x17 x19 x23 x24 Z))
def A42:DR:=⟨112,[.ptr,.i,y1],[(.tmp 6)],(gl G2 (UZ Kr Nu Pd))⟩
theorem AHL (args:List V) (Z:H):Bq E D W N A42 args Z=vr E D W N args Z:=by
 unfold vr
 simp only[<-vI]
 kernel_rfl
def Ml:List (Nat × C6):=[(0,.str),(1,.i)]
def GH (E:EB):St->AH:=fun s=>DF E s [(.tmp 4)] fun l=>some (Da l,s.Z)
def bk (c0:XC):Nat->St->AH:=BY 0 (dX E D W N (.keep [(1,.i)] [] [] c0) (GH E) nX (GH E)) nX
def js (c0:XC) (l0:St->AH):Nat->St->AH:=BY 3 (kX Ml [] [] l0) (BY 2 (kX Ml [] [] l0) (BY 1 (kX Ml [] [] l0) (bk E D W N c0)))
def gj (cc1:XC) (cc2:XC):XC:=(.z (.q 4 0<|
.nil)
 (.seq (.block 0 (.loop Ml [] [] cc2))
 (.keep [(1,.i)] [] [] cc1)))
def mz (E:EB) (D:Ak) (W:AI) (K2:BS->Int->H->AH) (a:BS) (b:Int) (Z:H):AH:=
 K2 a b Z
def Kq:XC:=(.z (.m 74 1<|
.m 4 74<|
.nil)
 .ret)
def AAE (E:EB) (D:Ak) (W:AI) (a:Int) (Z:H):AH:=
 some ((V.int .i64 a),Z)
def RK (cc3:XC):XC:=(.seq (.z (.m 5 1<|
.m 6 0<|
.P 7 (.len true (.t 6))<|
.b 8 .lss .none (.t 5) (.t 7)<|
.nil)
 (.cond (.tmp 8) .skip
 Me))
 (.block 1 (.block 2 (.z (.m 11 0<|
.m 12 1<|
.P 13 (.idxStr (.t 11) (.t 12))<|
.b 14 .eql .none (.t 13) (.con (V.int .u8 (AA 32)))<|
.m 15 14<|
.gO 15 false (.p 16 [0,15] y9<|
.p 17 [1,15] Jd<|
.p 18 [16,17,15] (.idxStr (.t 16) (.t 17))<|
.p 19 [18,15] (.bin .eql .none (.t 18) (.con (V.int .u8 (AA 9))))<|
.nil) 20 15 19<|
.m 21 20<|
.gO 21 false (.p 22 [0,21] y9<|
.p 23 [1,21] Jd<|
.p 24 [22,23,21] (.idxStr (.t 22) (.t 23))<|
.p 25 [24,21] (.bin .eql .none (.t 24) (.con (V.int .u8 (AA 10))))<|
.nil) 26 21 25<|
.m 27 26<|
.gO 27 false (.p 28 [0,27] y9<|
.p 29 [1,27] Jd<|
.p 30 [28,29,27] (.idxStr (.t 28) (.t 29))<|
.p 31 [30,27] (.bin .eql .none (.t 30) (.con (V.int .u8 (AA 13))))<|
.nil) 32 27 31<|
.m 10 32<|
.nil)
 (.cond (.tmp 10) (.ops (.m 33 1<|
.b 34 .add .none (.t 33) (.i 1)<|
.m 1 34<|
.nil))
 (.z (.m 36 0<|
.m 37 1<|
.P 38 (.idxStr (.t 36) (.t 37))<|
.b 39 .eql .none (.t 38) V5<|
.m 40 39<|
.gA 40 true (.p 41 [0,40] y9<|
.p 42 [1,40] Jd<|
.p 43 [42,40] (.bin .add .none (.t 42) (.i 1))<|
.op (some 44) (.int .u8) [41,43,40] (.call 73 [(.t 41),(.t 43)])<|
.p 45 [44,40] (.bin .eql .none (.t 44) V5)<|
.nil) 46 40 45<|
.m 35 46<|
.nil)
 (.cond (.tmp 35) (.z (.m 47 1<|
.b 48 .add .none (.t 47) (.i 2)<|
.m 1 48<|
.nil)
 (.block 3 (.loop Ml [] [] cc3)))
 (.z (.m 9 1<|
.m 4 9<|
.nil)
 .ret))))))))
def my (E:EB) (D:Ak) (W:AI) (K1:Int->H->AH) (K3:BS->Int->H->AH) (R2:BS->Int->H->AH) (a:BS) (b:Int) (Z:H):AH:=
 AK (C8 b (AA (BS.len a))) (
 C9 a b fun x1=>
 Aa (fun c2 s3=>
 Aa (fun c5 s6=>
 Aa (fun c8 s9=>
 AK c8 (
 R2 a (CR .i64 b (AA 1)) s9) (
 C9 a b fun x11=>
 Aa (fun c12 s13=>
 AK c12 (
 K3 a (CR .i64 b (AA 2)) s13) (
 some ((V.int .i64 b),s13))) fun k14=>
 AK (B4 x11 (AA 45)) (
 AV (D 73 [.str a,.int .i64 (CR .i64 b (AA 1))] s9) fun u15 s16=>
 Am .u8 u15 fun x17=>
 k14 (B4 x17 (AA 45)) s16) (
 k14 false s9))) fun k10=>
 AK c5 (
 k10 true s6) (
 C9 a b fun x18=>
 k10 (B4 x18 (AA 13)) s6)) fun k7=>
 AK c2 (
 k7 true s3) (
 C9 a b fun x19=>
 k7 (B4 x19 (AA 10)) s3)) fun k4=>
 AK (B4 x1 (AA 32)) (
 k4 true Z) (
 C9 a b fun x20=>
 k4 (B4 x20 (AA 9)) Z)) (
 K1 b Z)
def MW:XC:=(.seq (.z (.m 49 1<|
.m 50 0<|
.P 51 (.len true (.t 50))<|
.b 52 .lss .none (.t 49) (.t 51)<|
.m 53 52<|
.gA 53 true (.p 54 [0,53] y9<|
.p 55 [1,53] Jd<|
.p 56 [54,55,53] (.idxStr (.t 54) (.t 55))<|
.p 57 [56,53] (.bin .neq .none (.t 56) (.con (V.int .u8 (AA 10))))<|
.nil) 58 53 57<|
.nil)
 (.cond (.tmp 58) .skip
 (.exit 3)))
 (.block 4 (.seq (.z (.m 59 0<|
.m 60 1<|
.P 61 (.idxStr (.t 59) (.t 60))<|
.b 62 .eql .none (.t 61) V5<|
.m 63 62<|
.gA 63 true (.p 64 [0,63] y9<|
.p 65 [1,63] Jd<|
.p 66 [65,63] (.bin .add .none (.t 65) (.i 1))<|
.op (some 67) (.int .u8) [64,66,63] (.call 73 [(.t 64),(.t 66)])<|
.p 68 [67,63] (.bin .eql .none (.t 67) V5)<|
.nil) 69 63 68<|
.nil)
 (.cond (.tmp 69) (.z (.m 70 1<|
.b 71 .add .none (.t 70) (.i 2)<|
.m 1 71<|
.nil)
 (.exit 3))
 .skip))
 (.ops (.m 72 1<|
.b 73 .add .none (.t 72) (.i 1)<|
.m 1 73<|
.nil)))))
def mu (E:EB) (D:Ak) (W:AI) (R2:BS->Int->H->AH) (R3:BS->Int->H->AH) (a:BS) (b:Int) (Z:H):AH:=
 Aa (fun c1 s2=>
 AK c1 (
 C9 a b fun x4=>
 Aa (fun c5 s6=>
 AK c5 (
 R2 a (CR .i64 b (AA 2)) s6) (
 R3 a (CR .i64 b (AA 1)) s6)) fun k7=>
 AK (B4 x4 (AA 45)) (
 AV (D 73 [.str a,.int .i64 (CR .i64 b (AA 1))] s2) fun u8 s9=>
 Am .u8 u8 fun x10=>
 k7 (B4 x10 (AA 45)) s9) (
 k7 false s2)) (
 R2 a b s2)) fun k3=>
 AK (C8 b (AA (BS.len a))) (
 C9 a b fun x11=>
 k3 (not (B4 x11 (AA 10))) Z) (
 k3 false Z)
def JT (a:BS) (b:Int) (Z:H):St:=⟨[(0,.str a),(1,.int .i64 b)],[],[],Z⟩
def nj (a:Int) (Z:H):St:=⟨[(1,.int .i64 a)],[],[],Z⟩
theorem ABT (cc1:XC) (cc2:XC) (a:BS) (b:Int) (Z:H) :
 AN E D W N (gj cc1 cc2) (JT a b Z) (GH E) nX (GH E) =
 mz E D W (fun a b Z=>Ad (fun rec s'=>AN E D W N cc2 s' (kX Ml [] [] rec) (bk E D W N cc1) (GH E)) N (JT a b Z)) a b Z:=by kernel_rfl
theorem ABS (cc1:XC) (cc3:XC) (li2:St->AH) (a:BS) (b:Int) (Z:H) :
 AN E D W N (RK cc3) (JT a b Z) (kX Ml [] [] li2) (bk E D W N cc1) (GH E) =
 my E D W (fun b Z=>AN E D W N cc1 (nj b Z) (GH E) nX (GH E)) (fun a b Z=>Ad (fun rec s'=>AN E D W N cc3 s' (kX Ml [] [] rec) (js E D W N cc1 li2) (GH E)) N (JT a b Z)) (fun a b Z=>li2 (JT a b Z)) a b Z:=by kernel_rfl
theorem ABR (cc1:XC) (li2:St->AH) (li3:St->AH) (a:BS) (b:Int) (Z:H) :
 AN E D W N (MW ) (JT a b Z) (kX Ml [] [] li3) (js E D W N cc1 li2) (GH E) =
 mu E D W (fun a b Z=>li2 (JT a b Z)) (fun a b Z=>li3 (JT a b Z)) a b Z:=by kernel_rfl
def pc (E:EB) (D:Ak) (W:AI) (N:Nat):=AAE E D W
theorem vC (a:Int) (Z:H) :
 AN E D W N Kq (nj a Z) (GH E) nX (GH E)=pc E D W N a Z:=by kernel_rfl
def oW (E:EB) (D:Ak) (W:AI) (N:Nat) (R2:BS->Int->H->AH) (n:Nat):BS->Int->H->AH:=
 Nat.rec (fun _ _ _=>none) (fun _ ih=>mu E D W R2 ih) n
theorem uB (li2:St->AH) (n:Nat):∀(a:BS) (b:Int) (Z:H),
 Ad (fun rec s'=>AN E D W N MW s' (kX Ml [] [] rec) (js E D W N Kq li2) (GH E)) n (JT a b Z)=oW E D W N (fun a b Z=>li2 (JT a b Z)) n a b Z:=by
 induction n with
 | zero=>intro a b Z;rfl
 | succ n ihn=>
  intro a b Z
  rw[Aq]
  refine(ABR E D W N Kq li2 (Ad (fun rec s'=>AN E D W N MW s' (kX Ml [] [] rec) (js E D W N Kq li2) (GH E)) n) a b Z).trans ?_
  simp only[ihn]
  kernel_rfl
def oX (n:Nat):BS->Int->H->AH:=
 Nat.rec (fun _ _ _=>none) (fun _ ih=>my E D W (pc E D W N ) (oW E D W N ih N) ih) n
theorem uC (n:Nat):∀(a:BS) (b:Int) (Z:H),
 Ad (fun rec s'=>AN E D W N (RK MW) s' (kX Ml [] [] rec) (bk E D W N Kq) (GH E)) n (JT a b Z)=oX E D W N n a b Z:=by
 induction n with
 | zero=>intro a b Z;rfl
 | succ n ihn=>
  intro a b Z
  rw[Aq]
  refine(ABS E D W N Kq MW (Ad (fun rec s'=>AN E D W N (RK MW) s' (kX Ml [] [] rec) (bk E D W N Kq) (GH E)) n) a b Z).trans ?_
  simp only[ihn,vC,uB]
  kernel_rfl
def pd:=mz E D W (oX E D W N N)
theorem vD (a:BS) (b:Int) (Z:H) :
 AN E D W N (gj Kq (RK MW)) (JT a b Z) (GH E) nX (GH E)=pd E D W N a b Z:=by
 refine(ABT E D W N Kq (RK MW)  a b Z).trans ?_
 simp only[uC]
 kernel_rfl
def F43 (args:List V) (Z:H):AH:=
 IZ args fun x3 l2=>
 Ah .i64 l2 fun x6 l5=>
 AP l5 (
 pd E D W N x3 x6 Z)
def A43:DR:=⟨75,[.str,.i],[(.tmp 4)],(gj Kq (RK MW))⟩
theorem AHK (args:List V) (Z:H):Bq E D W N A43 args Z=F43 E D W N args Z:=by
 unfold F43
 simp only[<-vD]
 kernel_rfl
def yc:List (Nat × List C6):=[(4,[.i,.str,.i]),(6,[.i,.str,.i])]
def AD4 (cc1:XC) (cc2:XC):XC:=(.z (.pal 4 [] 79 [y0,y8,y0]<|
.q 5 0<|
.nil)
 (.z (.m 10 1<|
.op (some 11) y7 [10] (.build [y0,y8,y0] [(2,1,(.t 10))])<|
.pal 6 [] 79 [y0,y8,y0]<|
.op none y7 [6,11] (.store 3 (.t 6) (.t 11))<|
.nil)
 (.z (.m 12 0<|
.m 13 1<|
.P 14 (.idxStr (.t 12) (.t 13))<|
.m 7 14<|
.nil)
 (.z (.c 8 ZI<|
.nil)
 (.seq (.block 0 (.z (.m 32 7<|
.k 33 .bool 74 [(.t 32)]<|
.m 31 33<|
.nil)
 (.cond (.tmp 31) (.z (.m 34 0<|
.m 35 1<|
.k 36 .i 75 [(.t 34),(.t 35)]<|
.m 8 36<|
.nil)
 (.seq (.z (.m 37 8<|
.b 38 .lss .none (.t 37) (.i 0)<|
.nil)
 (.cond (.tmp 38) (.z (.O 39 y7 (.load (some 3) (.t 6))<|
.op none y7 [4,39] (.store 3 (.t 4) (.t 39))<|
.c 5 ZI<|
.nil)
 .ret)
 .skip))
 (.seq (.draw (.m 40 0<|
.m 41 1<|
.m 42 8<|
.p 43 [40,41,42] (.sliceStr (.t 40) (some (.t 41)) (some (.t 42)))<|
.f 44 0 6<|
.op none .any [44] (.store 1 (.t 44) (.i 2))<|
.f 45 1 6<|
.w 1 45 43<|
.nil) [0,0,0,7,0,16,63,127])
 (.seq (.z (.m 46 7<|
.b 47 .leq .none (.t 46) (.con (V.int .u8 (AA 90)))<|
.nil)
 (.cond (.tmp 47) (.ops (.f 48 0 6<|
.op none .any [48] (.store 1 (.t 48) (.i 1))<|
.nil))
 .skip))
 (.keep [(8,.i)] [4,6] yc cc2)))))
 (.z (.m 54 7<|
.k 55 .bool 77 [(.t 54)]<|
.m 56 55<|
.gO 56 false (.p 57 [7,56] (.mov (.t 7))<|
.p 58 [57,56] (.bin .eql .none (.t 57) V5)<|
.p 59 [58,56] (.mov (.t 58))<|
.grp 59 true (.p 60 [0,59] y9<|
.p 61 [1,59] Jd<|
.p 62 [61,59] (.bin .add .none (.t 61) (.i 1))<|
.op (some 63) (.int .u8) [60,62,59] (.call 73 [(.t 60),(.t 62)])<|
.op (some 64) .bool [63,59] (.call 77 [(.t 63)])<|
.nil) 65 [59,64,56] (.t 59) (.t 64) Ln<|
.nil) 66 56 65<|
.m 53 66<|
.nil)
 (.cond (.tmp 53) (.z (.m 67 0<|
.m 68 1<|
.k 69 .i 78 [(.t 67),(.t 68)]<|
.m 8 69<|
.nil)
 (.seq (.z (.m 70 8<|
.b 71 .lss .none (.t 70) (.i 0)<|
.nil)
 (.cond (.tmp 71) (.z (.O 72 y7 (.load (some 3) (.t 6))<|
.op none y7 [4,72] (.store 3 (.t 4) (.t 72))<|
.c 5 ZI<|
.nil)
 .ret)
 .skip))
 (.draw (.m 73 0<|
.m 74 1<|
.m 75 8<|
.p 76 [73,74,75] (.sliceStr (.t 73) (some (.t 74)) (some (.t 75)))<|
.f 77 0 6<|
.op none .any [77] (.store 1 (.t 77) (.i 3))<|
.f 78 1 6<|
.w 1 78 76<|
.nil) [0,0,0,7,0,16,63,127])))
 (.z (.m 80 7<|
.b 81 .eql .none (.t 80) (.con (V.int .u8 (AA 39)))<|
.m 79 81<|
.nil)
 (.cond (.tmp 79) (.z (.f 82 0 6<|
.op none .any [82] (.store 1 (.t 82) (.i 4))<|
.nil)
 (.ops (.m 84 0<|
.m 85 1<|
.k 86 (.tup [.i,.str]) 79 [(.t 84),(.t 85)]<|
.m 83 86<|
.P 87 (.extract 0 (.t 83))<|
.P 88 (.extract 1 (.t 83))<|
.m 8 87<|
.f 89 1 6<|
.w 1 89 88<|
.nil)))
 (.z (.m 91 7<|
.b 92 .eql .none (.t 91) (.con (V.int .u8 (AA 34)))<|
.m 90 92<|
.nil)
 (.cond (.tmp 90) (.z (.f 93 0 6<|
.op none .any [93] (.store 1 (.t 93) (.i 7))<|
.nil)
 (.ops (.m 95 0<|
.m 96 1<|
.k 97 (.tup [.i,.str]) 80 [(.t 95),(.t 96)]<|
.m 94 97<|
.P 98 (.extract 0 (.t 94))<|
.P 99 (.extract 1 (.t 94))<|
.m 8 98<|
.f 100 1 6<|
.w 1 100 99<|
.nil)))
 (.z (.m 15 0<|
.m 16 1<|
.k 17 .i 81 [(.t 15),(.t 16)]<|
.m 9 17<|
.nil)
 (.z (.m 18 9<|
.b 19 .gtr .none (.t 18) (.i 0)<|
.nil)
 (.cond (.tmp 19) (.draw (.m 20 0<|
.m 21 1<|
.m 22 1<|
.m 23 9<|
.b 24 .add .none (.t 22) (.t 23)<|
.p 25 [20,21,24] (.sliceStr (.t 20) (some (.t 21)) (some (.t 24)))<|
.m 26 1<|
.m 27 9<|
.b 28 .add .none (.t 26) (.t 27)<|
.f 29 0 6<|
.op none .any [29] (.store 1 (.t 29) (.i 6))<|
.f 30 1 6<|
.w 1 30 25<|
.m 8 28<|
.nil) [0,0,0,0,12,31,0,0,192,0,512,1599,3647,8191])
 .skip))))))))))))
 (.keep [(8,.i)] [4,6] yc cc1))))))
def AAD (E:EB) (D:Ak) (W:AI) (K1:Int->Int->BS->Int->Int->BS->Int->H->AH) (K2:Int->Int->BS->Int->Int->BS->Int->H->AH) (a:BS) (b:Int) (Z:H):AH:=
 C9 a b fun x1=>
 AV (D 74 [.int .u8 x1] Z) fun u2 s3=>
 AZ u2 fun x4=>
 AK x4 (
 AV (D 75 [.str a,.int .i64 b] s3) fun u5 s6=>
 Am .i64 u5 fun x7=>
 AK (C8 x7 (AA 0)) (
 some ((V.tup [.agg [.int .i64 (AA 0),.str (BS.mk 0 0),.int .i64 b],.int .i64 (BQ 0)]),s6)) (
 FN a (some (V.int .i64 b)) (some (V.int .i64 x7)) fun t8=>
 AK (Hp x1 (AA 90)) (
 K2 x7 (AA 0) (BS.mk 0 0) (AA 0) (AA 1) t8 b s6) (
 K2 x7 (AA 0) (BS.mk 0 0) (AA 0) (AA 2) t8 b s6))) (
 AV (D 77 [.int .u8 x1] s3) fun u9 s10=>
 AZ u9 fun x11=>
 Aa (fun c12 s13=>
 AK c12 (
 AV (D 78 [.str a,.int .i64 b] s13) fun u15 s16=>
 Am .i64 u15 fun x17=>
 AK (C8 x17 (AA 0)) (
 some ((V.tup [.agg [.int .i64 (AA 0),.str (BS.mk 0 0),.int .i64 b],.int .i64 (BQ 0)]),s16)) (
 FN a (some (V.int .i64 b)) (some (V.int .i64 x17)) fun t18=>
 K1 x17 (AA 0) (BS.mk 0 0) (AA 0) (AA 3) t18 b s16)) (
 AK (B4 x1 (AA 39)) (
 AV (D 79 [.str a,.int .i64 b] s13) fun u19 s20=>
 DH u19 fun l21=>
 Ah .i64 l21 fun x24 l23=>
 IZ l23 fun x27 l26=>
 AP l26 (
 K1 x24 (AA 0) (BS.mk 0 0) (AA 0) (AA 4) x27 b s20)) (
 AK (B4 x1 (AA 34)) (
 AV (D 80 [.str a,.int .i64 b] s13) fun u28 s29=>
 DH u28 fun l30=>
 Ah .i64 l30 fun x33 l32=>
 IZ l32 fun x36 l35=>
 AP l35 (
 K1 x33 (AA 0) (BS.mk 0 0) (AA 0) (AA 7) x36 b s29)) (
 AV (D 81 [.str a,.int .i64 b] s13) fun u37 s38=>
 Am .i64 u37 fun x39=>
 AK (C8 (AA 0) x39) (
 FN a (some (V.int .i64 b)) (some (V.int .i64 (CR .i64 b x39))) fun t40=>
 K1 (CR .i64 b x39) (AA 0) (BS.mk 0 0) (AA 0) (AA 6) t40 b s38) (
 K1 (BQ 0) (AA 0) (BS.mk 0 0) (AA 0) (AA 0) (BS.mk 0 0) b s38))))) fun k14=>
 AK x11 (
 k14 true s10) (
 Aa (fun c41 s42=>
 k14 c41 s42) fun k43=>
 AK (B4 x1 (AA 45)) (
 AV (D 73 [.str a,.int .i64 (CR .i64 b (AA 1))] s10) fun u44 s45=>
 Am .u8 u44 fun x46=>
 AV (D 77 [.int .u8 x46] s45) fun u47 s48=>
 AZ u47 fun x49=>
 k43 x49 s48) (
 k43 false s10)))
def AD3:XC:=(.z (.O 101 y7 (.load (some 3) (.t 6))<|
.m 102 8<|
.op none y7 [4,101] (.store 3 (.t 4) (.t 101))<|
.m 5 102<|
.nil)
 .ret)
def AAC (E:EB) (D:Ak) (W:AI) (a b:Int) (c:BS) (d e:Int) (f:BS) (g:Int) (Z:H):AH:=
 some ((V.tup [.agg [.int .i64 e,.str f,.int .i64 g],.int .i64 a]),Z)
def AD2:XC:=(.z (.f 49 1 6<|
.l 50 .str 49<|
.k 51 .bool 76 [(.t 50)]<|
.nil)
 (.cond (.tmp 51) (.ops (.f 52 0 6<|
.op none .any [52] (.store 1 (.t 52) (.i 5))<|
.nil))
 .skip))
def AAB (E:EB) (D:Ak) (W:AI) (K1:Int->Int->BS->Int->Int->BS->Int->H->AH) (a b:Int) (c:BS) (d e:Int) (f:BS) (g:Int) (Z:H):AH:=
 AV (D 76 [.str f] Z) fun u1 s2=>
 AZ u1 fun x3=>
 AK x3 (
 K1 a b c d (AA 5) f g s2) (
 K1 a b c d e f g s2)
def pb (E:EB) (D:Ak) (W:AI) (N:Nat):=AAC E D W
def ACP:=AAB E D W (pb E D W N )
def F44 (args:List V) (Z:H):AH:=
 IZ args fun x3 l2=>
 Ah .i64 l2 fun x6 l5=>
 AP l5 (
 AAD E D W (pb E D W N ) (ACP E D W N ) x3 x6 Z)
def A44:DR:=⟨103,[.str,.i],[(.cell 4 (some 3)),(.tmp 5)],(AD4 AD3 AD2)⟩
theorem AHJ (args:List V) (Z:H):Bq E D W N A44 args Z=F44 E D W N args Z:=by kernel_rfl
def AD1 (cc1:XC):XC:=(.z (.pal 2 [] 79 [y0,y8,y0]<|
.nil)
 (.seq (.draw (.m 4 0<|
.n 5 4<|
.f 6 0 5<|
.l 7 .any 6<|
.m 8 0<|
.n 9 8<|
.f 10 1 9<|
.l 11 .i 10<|
.s 12 3 7 11<|
.O 13 y7 (.load (some 3) (.t 12))<|
.pal 3 [] 79 [y0,y8,y0]<|
.op none y7 [3,13] (.store 3 (.t 3) (.t 13))<|
.nil) [0,1,3,7,0,16,48,112,255,511,0,2047])
 (.seq (.seq (.draw (.m 14 0<|
.n 15 14<|
.f 16 1 15<|
.l 17 .i 16<|
.b 18 .add .none (.t 17) (.i 1)<|
.m 19 0<|
.n 20 19<|
.f 21 0 20<|
.l 22 .any 21<|
.u 23 22<|
.b 24 .lss .none (.t 18) (.t 23)<|
.nil) [0,1,3,7,15,0,32,96,224,480,1023])
 (.cond (.tmp 24) (.ops (.m 25 0<|
.n 26 25<|
.f 27 1 26<|
.l 28 .i 27<|
.b 29 .add .none (.t 28) (.i 1)<|
.n 30 25<|
.f 31 1 30<|
.w 1 31 29<|
.nil))
 .skip))
 (.keep [] [2,3] [(2,[.i,.str,.i]),(3,[.i,.str,.i])] cc1))))
def AAA (E:EB) (D:Ak) (W:AI) (K1:Int->BS->Int->Int->BS->Int->H->AH) (a b:Nat) (Z:H):AH:=
 Bc E Z a b fun u1=>
 Bc E Z a (Ap b 1) fun u2=>
 Am .i64 u2 fun x3=>
 AU 3 u1 x3 fun b4 o5=>
 BH E Z b4 o5 3 fun l6=>
 Ah .i64 l6 fun x9 l8=>
 IZ l8 fun x12 l11=>
 Ah .i64 l11 fun x15 l14=>
 AP l14 (
 Bc E Z a (Ap b 1) fun u16=>
 Am .i64 u16 fun x17=>
 Bc E Z a b fun u18=>
 A2 u18 fun n19=>
 AK (C8 (CR .i64 x17 (AA 1)) (AA n19)) (
 Bc E Z a (Ap b 1) fun u20=>
 Am .i64 u20 fun x21=>
 FW 1 a (Ap b 1) (V.int .i64 (CR .i64 x21 (AA 1))) Z fun s22=>
 K1 (AA 0) (BS.mk 0 0) (AA 0) x9 x12 x15 s22) (
 K1 (AA 0) (BS.mk 0 0) (AA 0) x9 x12 x15 Z))
def AD0:XC:=(.z (.O 32 y7 (.load (some 3) (.t 3))<|
.op none y7 [2,32] (.store 3 (.t 2) (.t 32))<|
.nil)
 .ret)
def zz (E:EB) (D:Ak) (W:AI) (a:Int) (b:BS) (c d:Int) (e:BS) (f:Int) (Z:H):AH:=
 some ((V.agg [.int .i64 d,.str e,.int .i64 f]),Z)
def ACO (E:EB) (D:Ak) (W:AI) (N:Nat):=zz E D W
def F45 (args:List V) (Z:H):AH:=
 AE args fun x1 l2=>
 B8 x1 fun b3 o4=>
 AP l2 (
 AAA E D W (ACO E D W N ) b3 o4 Z)
def A45:DR:=⟨33,[.ptr],[(.cell 2 (some 3))],(AD1 AD0)⟩
theorem AHI (args:List V) (Z:H):Bq E D W N A45 args Z=F45 E D W N args Z:=by kernel_rfl
def Zp:List (Nat × C6):=[(0,.any),(1,.str),(5,.i)]
def ID (E:EB):St->AH:=fun s=>DF E s [(.tmp 4)] fun l=>some (Da l,s.Z)
def jr (c0:XC):Nat->St->AH:=BY 0 (dX E D W N (.keep [] [] [] c0) (ID E) nX (ID E)) nX
def gi (cc1:XC) (cc2:XC):XC:=(.z (.c 4 y3<|
.nil)
 (.seq (.z (.q 5 0<|
.nil)
 (.block 0 (.loop Zp [] [] cc2)))
 (.keep [] [] [] cc1)))
def mq (E:EB) (D:Ak) (W:AI) (K2:V->BS->Int->H->AH) (a:V) (b:BS) (Z:H):AH:=
 K2 a b (AA 0) Z
def Pc:XC:=(.z (.c 4 y3<|
.nil)
 .ret)
def zy (E:EB) (D:Ak) (W:AI) (Z:H):AH:=
 some ((V.bool false),Z)
def RJ:XC:=(.seq (.z (.m 6 5<|
.m 7 0<|
.u 8 7<|
.b 9 .lss .none (.t 6) (.t 8)<|
.nil)
 lh)
 (.seq (.block 1 (.z (.m 12 0<|
.m 13 5<|
.s 14 1 12 13<|
.l 15 .str 14<|
.m 16 1<|
.b 17 .eql .none (.t 15) (.t 16)<|
.nil)
 (.cond (.tmp 17) (.z (.c 4 iE<|
.nil)
 .ret)
 .skip)))
 (.ops (.m 10 5<|
.b 11 .add .none (.t 10) (.i 1)<|
.m 5 11<|
.nil))))
def mn (E:EB) (D:Ak) (W:AI) (K1:H->AH) (R2:V->BS->Int->H->AH) (a:V) (b:BS) (c:Int) (Z:H):AH:=
 A2 a fun n1=>
 AK (C8 c (AA n1)) (
 AU 1 a c fun b2 o3=>
 Bc E Z b2 o3 fun u4=>
 Ht u4 fun x5=>
 AK (BS.beq x5 b) (
 some ((V.bool true),Z)) (
 R2 a b (CR .i64 c (AA 1)) Z)) (
 K1 Z)
def ni (a:V) (b:BS) (Z:H):St:=⟨[(0,a),(1,.str b)],[],[],Z⟩
def nh (Z:H):St:=⟨[],[],[],Z⟩
def Xd (a:V) (b:BS) (c:Int) (Z:H):St:=⟨[(0,a),(1,.str b),(5,.int .i64 c)],[],[],Z⟩
theorem ABQ (cc1:XC) (cc2:XC) (a:V) (b:BS) (Z:H) :
 AN E D W N (gi cc1 cc2) (ni a b Z) (ID E) nX (ID E) =
 mq E D W (fun a b c Z=>Ad (fun rec s'=>AN E D W N cc2 s' (kX Zp [] [] rec) (jr E D W N cc1) (ID E)) N (Xd a b c Z)) a b Z:=by kernel_rfl
theorem ABP (cc1:XC) (li2:St->AH) (a:V) (b:BS) (c:Int) (Z:H) :
 AN E D W N (RJ ) (Xd a b c Z) (kX Zp [] [] li2) (jr E D W N cc1) (ID E) =
 mn E D W (fun  Z=>AN E D W N cc1 (nh Z) (ID E) nX (ID E)) (fun a b c Z=>li2 (Xd a b c Z)) a b c Z:=by kernel_rfl
def pZ (E:EB) (D:Ak) (W:AI) (N:Nat):=zy E D W
theorem u0 (Z:H) :
 AN E D W N Pc (nh Z) (ID E) nX (ID E)=pZ E D W N  Z:=by kernel_rfl
def oV (n:Nat):V->BS->Int->H->AH:=
 Nat.rec (fun _ _ _ _=>none) (fun _ ih=>mn E D W (pZ E D W N ) ih) n
theorem uA (n:Nat):∀(a:V) (b:BS) (c:Int) (Z:H),
 Ad (fun rec s'=>AN E D W N RJ s' (kX Zp [] [] rec) (jr E D W N Pc) (ID E)) n (Xd a b c Z)=oV E D W N n a b c Z:=by
 induction n with
 | zero=>intro a b c Z;rfl
 | succ n ihn=>
  intro a b c Z
  rw[Aq]
  refine(ABP E D W N Pc (Ad (fun rec s'=>AN E D W N RJ s' (kX Zp [] [] rec) (jr E D W N Pc) (ID E)) n) a b c Z).trans ?_
  simp only[ihn,u0]
  kernel_rfl
def pa:=mq E D W (oV E D W N N)
theorem vA (a:V) (b:BS) (Z:H) :
 AN E D W N (gi Pc RJ) (ni a b Z) (ID E) nX (ID E)=pa E D W N a b Z:=by
 refine(ABQ E D W N Pc RJ  a b Z).trans ?_
 simp only[uA]
 kernel_rfl
def F49 (args:List V) (Z:H):AH:=
 AE args fun x1 l2=>
 IZ l2 fun x5 l4=>
 AP l4 (
 pa E D W N x1 x5 Z)
def A49:DR:=⟨18,[.any,.str],[(.tmp 4)],(gi Pc RJ)⟩
theorem AHH (args:List V) (Z:H):Bq E D W N A49 args Z=F49 E D W N args Z:=by
 unfold F49
 simp only[<-vA]
 kernel_rfl
def Q1:List BM:=[⟨(some 34),.load (some 2) (.tmp 7),none⟩,⟨(some 35),.mov (.tmp 8),none⟩,⟨(some 36),.mov (.tmp 0),none⟩,⟨(some 37),.mov (.tmp 10),none⟩,⟨(some 38),.mov (.tmp 10),none⟩,⟨(some 39),.mov (.tmp 9),none⟩,⟨(some 40),.bin .add .none (.tmp 38) (.tmp 39),none⟩,⟨(some 41),.sliceSl 1 (.tmp 36) (some (.tmp 37)) (some (.tmp 40)) none,none⟩,⟨(some 42),.append 5 1 1 (.con V.nils) (.tmp 41),none⟩,⟨(some 43),.mov (.tmp 10),none⟩,⟨(some 44),.mov (.tmp 9),none⟩,⟨(some 45),.bin .add .none (.tmp 43) (.tmp 44),none⟩,⟨none,.store 2 (.tmp 2) (.tmp 34),none⟩,⟨(some 3),.mov (.tmp 35),none⟩,⟨(some 4),.mov (.tmp 42),none⟩,⟨(some 5),.mov (.tmp 45),none⟩,⟨(some 6),.mov (.con (V.int .i64 (AA 0))),none⟩]
def Qz:List DP:=[⟨0,[7]⟩,⟨0,[8]⟩,⟨0,[0]⟩,⟨0,[10]⟩,⟨0,[10]⟩,⟨0,[9]⟩,⟨48,[38,39]⟩,⟨124,[36,37,40]⟩,⟨252,[41]⟩,⟨0,[10]⟩,⟨0,[9]⟩,⟨1536,[43,44]⟩,⟨509,[2,34]⟩,⟨4607,[35]⟩,⟨12799,[42]⟩,⟨32767,[45]⟩,⟨65535,[]⟩]
def ADz (cc1:XC):XC:=(.z (.p 2 [] (.alloc 38 [y0,y0])<|
.c 3 y3<|
.c 4 V.nils<|
.q 5 0<|
.q 6 0<|
.nil)
 (.z (.m 13 0<|
.k 14 (.tup [y4,.bool,.i,.i,.i]) 93 [(.t 13)]<|
.m 12 14<|
.P 15 (.extract 0 (.t 12))<|
.P 16 (.extract 1 (.t 12))<|
.P 17 (.extract 2 (.t 12))<|
.P 18 (.extract 3 (.t 12))<|
.P 19 (.extract 4 (.t 12))<|
.p 7 [] (.alloc 38 [y0,y0])<|
.op none y4 [7,15] (.store 2 (.t 7) (.t 15))<|
.m 8 16<|
.m 9 17<|
.m 10 18<|
.m 11 19<|
.nil)
 (.seq (.z (.m 20 11<|
.b 21 .eql .none (.t 20) (.i 0)<|
.m 22 21<|
.gA 22 true (.p 23 [9,22] (.mov (.t 9))<|
.p 24 [0,22] y9<|
.p 25 [24,22] (.len false (.t 24))<|
.p 26 [10,22] (.mov (.t 10))<|
.p 27 [25,26,22] (.bin .sub .none (.t 25) (.t 26))<|
.p 28 [23,27,22] (.bin .gtr .none (.t 23) (.t 27))<|
.nil) 29 22 28<|
.nil)
 (.cond (.tmp 29) (.ops (.q 11 3<|
.nil))
 .skip))
 (.keep [(0,.any),(2,.ptr),(7,.ptr),(8,.bool),(9,.i),(10,.i),(11,.i)] [] [] cc1))))
def cO (E:EB) (D:Ak) (W:AI) (K1:V->Nat->Nat->Nat->Nat->Bool->Int->Int->Int->H->AH) (a:V) (Z:H):AH:=
 let s1:=Br Z (.cells [.int .i64 (AA 0),.int .i64 (AA 0)]);
 AV (D 93 [a] s1) fun u2 s3=>
 DH u2 fun l4=>
 AE l4 fun x5 l6=>
 Bm x5 fun l7=>
 Ah .i64 l7 fun x10 l9=>
 Ah .i64 l9 fun x13 l12=>
 AP l12 (
 DQ l6 fun x16 l15=>
 Ah .i64 l15 fun x19 l18=>
 Ah .i64 l18 fun x22 l21=>
 Ah .i64 l21 fun x25 l24=>
 AP l24 (
 let s26:=Br s3 (.cells [.int .i64 (AA 0),.int .i64 (AA 0)]);
 FW 2 (H.next s3) 0 (V.agg [.int .i64 x10,.int .i64 x13]) s26 fun s27=>
 Aa (fun c28 s29=>
 AK c28 (
 K1 a (H.next Z) 0 (H.next s3) 0 x16 x19 x22 (AA 3) s29) (
 K1 a (H.next Z) 0 (H.next s3) 0 x16 x19 x22 x25 s29)) fun k30=>
 AK (B4 x25 (AA 0)) (
 A2 a fun n31=>
 k30 (C8 (D6 .i64 (AA n31) x22) x19) s27) (
 k30 false s27)))
def ADy:XC:=(.seq (.z (.m 30 11<|
.b 31 .neq .none (.t 30) (.i 0)<|
.nil)
 (.cond (.tmp 31) (.z (.op (some 32) y4 [] (.build [y0,y0] [])<|
.m 33 11<|
.op none y4 [2,32] (.store 2 (.t 2) (.t 32))<|
.c 3 y3<|
.c 4 V.nils<|
.q 5 0<|
.m 6 33<|
.nil)
 .ret)
 .skip))
 (.seq (.keep [(0,.any),(2,.ptr),(7,.ptr),(8,.bool),(9,.i),(10,.i)] [] [] (.gdraw Q1 Qz [(2,.ptr),(3,.bool),(4,.any),(5,.i),(6,.i)]))
 .ret))
def cM (E:EB) (D:Ak) (W:AI) (a:V) (b c d e:Nat) (f:Bool) (g h i:Int) (Z:H):AH:=
 AK (not (B4 i (AA 0))) (
 FW 2 b c (V.agg [.int .i64 (AA 0),.int .i64 (AA 0)]) Z fun s1=>
 BH E s1 b c 2 fun u2=>
 some ((V.tup [.agg u2,.bool false,V.nils,.int .i64 (AA 0),.int .i64 i]),s1)) (
 Ci (W Q1 Qz [(0,a),(2,.ptr b c),(7,.ptr d e),(8,.bool f),(9,.int .i64 g),(10,.int .i64 h)] Z) fun e3 s4=>
 BR e3 2 fun u5=>
 B8 u5 fun b6 o7=>
 BR e3 3 fun u8=>
 AZ u8 fun x9=>
 BR e3 4 fun u10=>
 BR e3 5 fun u11=>
 Am .i64 u11 fun x12=>
 BR e3 6 fun u13=>
 Am .i64 u13 fun x14=>
 BH E s4 b6 o7 2 fun u15=>
 some ((V.tup [.agg u15,.bool x9,u10,.int .i64 x12,.int .i64 x14]),s4))
def ey (E:EB) (D:Ak) (W:AI) (N:Nat):=cM E D W
def F57 (args:List V) (Z:H):AH:=
 AE args fun x1 l2=>
 AP l2 (
 cO E D W (ey E D W N ) x1 Z)
def A57:DR:=⟨46,[.any],[(.cell 2 (some 2)),(.tmp 3),(.tmp 4),(.tmp 5),(.tmp 6)],(ADz ADy)⟩
theorem AHG (args:List V) (Z:H):Bq E D W N A57 args Z=F57 E D W N args Z:=by kernel_rfl
def Zo:List (Nat × C6):=[(3,(.int .u64)),(6,.any),(7,.i),(8,.i)]
def IC (E:EB):St->AH:=fun s=>DF E s [(.tmp 2)] fun l=>some (Da l,s.Z)
def jq (c0:XC):Nat->St->AH:=BY 0 (dX E D W N (.keep [(3,(.int .u64))] [] [] c0) (IC E) nX (IC E)) nX
def gg (cc1:XC) (cc2:XC):XC:=(.z (.c 2 Uf<|
.nil)
 (.z (.c 3 Uf<|
.nil)
 (.seq (.z (.m 6 0<|
.u 7 6<|
.q 8 0<|
.nil)
 (.block 0 (.loop Zo [] [] cc2)))
 (.keep [(3,(.int .u64))] [] [] cc1))))
def T7 (E:EB) (D:Ak) (W:AI) (K2:Int->V->Int->Int->H->AH) (a:V) (Z:H):AH:=
 A2 a fun n1=>
 K2 (AA 0) a (AA n1) (AA 0) Z
def Pb:XC:=(.z (.m 18 3<|
.m 2 18<|
.nil)
 .ret)
def W9 (E:EB) (D:Ak) (W:AI) (a:Int) (Z:H):AH:=
 some ((V.int .u64 a),Z)
def RI:XC:=(.z (.b 9 .lss .none (.t 8) (.t 7)<|
.nil)
 (.seq lh
 (.seq (.block 1 (.z (.s 10 1 6 8<|
.l 11 (.int .u8) 10<|
.m 5 11<|
.nil)
 (.ops (.m 12 3<|
.b 13 .shl .none (.t 12) (.con (V.int .u64 (AA 8)))<|
.m 14 5<|
.P 15 (.conv (.toInt .u64) (.t 14))<|
.b 16 .or .none (.t 13) (.t 15)<|
.m 3 16<|
.nil))))
 (.ops (.b 17 .add .none (.t 8) (.i 1)<|
.m 8 17<|
.nil)))))
def Qa (E:EB) (D:Ak) (W:AI) (K1:Int->H->AH) (R2:Int->V->Int->Int->H->AH) (a:Int) (b:V) (c d:Int) (Z:H):AH:=
 AK (C8 d c) (
 AU 1 b d fun b1 o2=>
 Bc E Z b1 o2 fun u3=>
 Am .u8 u3 fun x4=>
 R2 (Gq .u64 (JV .u64 a 8) (An .u64 x4)) b c (CR .i64 d (AA 1)) Z) (
 K1 a Z)
def nc (a:V) (Z:H):St:=⟨[(0,a)],[],[],Z⟩
def na (a:Int) (Z:H):St:=⟨[(3,.int .u64 a)],[],[],Z⟩
def Xc (a:Int) (b:V) (c d:Int) (Z:H):St:=⟨[(3,.int .u64 a),(6,b),(7,.int .i64 c),(8,.int .i64 d)],[],[],Z⟩
theorem ABO (cc1:XC) (cc2:XC) (a:V) (Z:H) :
 AN E D W N (gg cc1 cc2) (nc a Z) (IC E) nX (IC E) =
 T7 E D W (fun b c d e Z=>Ad (fun rec s'=>AN E D W N cc2 s' (kX Zo [] [] rec) (jq E D W N cc1) (IC E)) N (Xc b c d e Z)) a Z:=by kernel_rfl
theorem ABN (cc1:XC) (li2:St->AH) (a:Int) (b:V) (c d:Int) (Z:H) :
 AN E D W N (RI ) (Xc a b c d Z) (kX Zo [] [] li2) (jq E D W N cc1) (IC E) =
 Qa E D W (fun a Z=>AN E D W N cc1 (na a Z) (IC E) nX (IC E)) (fun a b c d Z=>li2 (Xc a b c d Z)) a b c d Z:=by kernel_rfl
def pX (E:EB) (D:Ak) (W:AI) (N:Nat):=W9 E D W
theorem uy (a:Int) (Z:H) :
 AN E D W N Pb (na a Z) (IC E) nX (IC E)=pX E D W N a Z:=by kernel_rfl
def Xq (n:Nat):Int->V->Int->Int->H->AH:=
 Nat.rec (fun _ _ _ _ _=>none) (fun _ ih=>Qa E D W (pX E D W N ) ih) n
theorem tz (n:Nat):∀(a:Int) (b:V) (c d:Int) (Z:H),
 Ad (fun rec s'=>AN E D W N RI s' (kX Zo [] [] rec) (jq E D W N Pb) (IC E)) n (Xc a b c d Z)=Xq E D W N n a b c d Z:=by
 induction n with
 | zero=>intro a b c d Z;rfl
 | succ n ihn=>
  intro a b c d Z
  rw[Aq]
  refine(ABN E D W N Pb (Ad (fun rec s'=>AN E D W N RI s' (kX Zo [] [] rec) (jq E D W N Pb) (IC E)) n) a b c d Z).trans ?_
  simp only[ihn,uy]
  kernel_rfl
def pY:=T7 E D W (Xq E D W N N)
theorem uz (a:V) (Z:H) :
 AN E D W N (gg Pb RI) (nc a Z) (IC E) nX (IC E)=pY E D W N a Z:=by
 refine(ABO E D W N Pb RI  a Z).trans ?_
 simp only[tz]
 kernel_rfl
def xK (args:List V) (Z:H):AH:=
 AE args fun x1 l2=>
 AP l2 (
 pY E D W N x1 Z)
def A58:DR:=⟨19,[.any],[(.tmp 2)],(gg Pb RI)⟩
theorem AHF (args:List V) (Z:H):Bq E D W N A58 args Z=xK E D W N args Z:=by
 unfold xK
 simp only[<-uz]
 kernel_rfl
def Un:List (Nat × C6):=[(0,.i),(3,.i)]
def IB (E:EB):St->AH:=fun s=>DF E s [(.tmp 2)] fun l=>some (Da l,s.Z)
def jo (c0:XC):Nat->St->AH:=BY 0 (dX E D W N (.keep Un [] [] c0) (IB E) nX (IB E)) nX
def gf (cc1:XC) (cc2:XC):XC:=(.z (.c 2 V.nils<|
.nil)
 (.z (.q 3 1<|
.nil)
 (.seq (.block 0 (.loop Un [] [] cc2))
 (.keep Un [] [] cc1))))
def mm (E:EB) (D:Ak) (W:AI) (K2:Int->Int->H->AH) (a:Int) (Z:H):AH:=
 K2 a (AA 1) Z
def Pa:XC:=(.z (.m 24 0<|
.P 25 (.conv (.toInt .u64) (.t 24))<|
.m 26 3<|
.k 27 .one 94 [(.t 25),(.t 26)]<|
.m 2 27<|
.nil)
 .ret)
def cL (E:EB) (D:Ak) (W:AI) (a b:Int) (Z:H):AH:=
 AV (D 94 [.int .u64 (An .u64 a),.int .i64 b] Z) fun u1 s2=>
 Ba u1 (
 some (u1,s2))
def RH:XC:=(.seq (.z (.m 4 3<|
.b 5 .lss .none (.t 4) (.i 8)<|
.m 6 5<|
.gA 6 true (.p 7 [0,6] y9<|
.p 8 [3,6] (.mov (.t 3))<|
.p 9 [8,6] (.bin .mul .none (.i 8) (.t 8))<|
.p 10 [9,6] (.bin .sub .none (.t 9) (.i 1))<|
.p 11 [7,10,6] (.bin .shr .none (.t 7) (.t 10))<|
.p 12 [11,6] (.bin .neq .none (.t 11) (.i 0))<|
.nil) 13 6 12<|
.m 14 13<|
.gA 14 true (.p 15 [0,14] y9<|
.p 16 [3,14] (.mov (.t 3))<|
.p 17 [16,14] (.bin .mul .none (.i 8) (.t 16))<|
.p 18 [17,14] (.bin .sub .none (.t 17) (.i 1))<|
.p 19 [15,18,14] (.bin .shr .none (.t 15) (.t 18))<|
.p 20 [19,14] (.bin .neq .none (.t 19) (.con ZI))<|
.nil) 21 14 20<|
.nil)
 (.cond (.tmp 21) .skip
 Me))
 (.block 1 (.ops (.m 22 3<|
.b 23 .add .none (.t 22) (.i 1)<|
.m 3 23<|
.nil))))
def QZ (E:EB) (D:Ak) (W:AI) (K1:Int->Int->H->AH) (R2:Int->Int->H->AH) (a b:Int) (Z:H):AH:=
 Aa (fun c1 s2=>
 Aa (fun c4 s5=>
 AK c4 (
 R2 a (CR .i64 b (AA 1)) s5) (
 K1 a b s5)) fun k6=>
 AK c1 (
 N8 (D6 .i64 (Hq .i64 (AA 8) b) (AA 1)) fun n7=>
 k6 (not (B4 (GB .i64 a n7) (BQ 0))) s2) (
 k6 false s2)) fun k3=>
 AK (C8 b (AA 8)) (
 N8 (D6 .i64 (Hq .i64 (AA 8) b) (AA 1)) fun n8=>
 k3 (not (B4 (GB .i64 a n8) (AA 0))) Z) (
 k3 false Z)
def nZ (a:Int) (Z:H):St:=⟨[(0,.int .i64 a)],[],[],Z⟩
def Qt (a b:Int) (Z:H):St:=⟨[(0,.int .i64 a),(3,.int .i64 b)],[],[],Z⟩
theorem ABM (cc1:XC) (cc2:XC) (a:Int) (Z:H) :
 AN E D W N (gf cc1 cc2) (nZ a Z) (IB E) nX (IB E) =
 mm E D W (fun a b Z=>Ad (fun rec s'=>AN E D W N cc2 s' (kX Un [] [] rec) (jo E D W N cc1) (IB E)) N (Qt a b Z)) a Z:=by kernel_rfl
theorem ABL (cc1:XC) (li2:St->AH) (a b:Int) (Z:H) :
 AN E D W N (RH ) (Qt a b Z) (kX Un [] [] li2) (jo E D W N cc1) (IB E) =
 QZ E D W (fun a b Z=>AN E D W N cc1 (Qt a b Z) (IB E) nX (IB E)) (fun a b Z=>li2 (Qt a b Z)) a b Z:=by kernel_rfl
def eu (E:EB) (D:Ak) (W:AI) (N:Nat):=cL E D W
theorem uw (a b:Int) (Z:H) :
 AN E D W N Pa (Qt a b Z) (IB E) nX (IB E)=eu E D W N a b Z:=by kernel_rfl
def Xp (n:Nat):Int->Int->H->AH:=
 Nat.rec (fun _ _ _=>none) (fun _ ih=>QZ E D W (eu E D W N ) ih) n
theorem tu (n:Nat):∀(a b:Int) (Z:H),
 Ad (fun rec s'=>AN E D W N RH s' (kX Un [] [] rec) (jo E D W N Pa) (IB E)) n (Qt a b Z)=Xp E D W N n a b Z:=by
 induction n with
 | zero=>intro a b Z;rfl
 | succ n ihn=>
  intro a b Z
  rw[Aq]
  refine(ABL E D W N Pa (Ad (fun rec s'=>AN E D W N RH s' (kX Un [] [] rec) (jo E D W N Pa) (IB E)) n) a b Z).trans ?_
  simp only[ihn,uw]
  kernel_rfl
def pW:=mm E D W (Xp E D W N N)
theorem ux (a:Int) (Z:H) :
 AN E D W N (gf Pa RH) (nZ a Z) (IB E) nX (IB E)=pW E D W N a Z:=by
 refine(ABM E D W N Pa RH  a Z).trans ?_
 simp only[tu]
 kernel_rfl
def qN (args:List V) (Z:H):AH:=
 Ah .i64 args fun x3 l2=>
 AP l2 (
 pW E D W N x3 Z)
def A59:DR:=⟨28,[.i],[(.tmp 2)],(gf Pa RH)⟩
theorem AHE (args:List V) (Z:H):Bq E D W N A59 args Z=qN E D W N args Z:=by
 unfold qN
 simp only[<-ux]
 kernel_rfl
def Nq:List BM:=[⟨(some 20),.mov (.tmp 11),none⟩,⟨(some 21),.bin .eql .none (.tmp 20) (.con (V.int .i64 (AA 0))),none⟩,⟨(some 22),.mov (.tmp 21),none⟩,⟨(some 23),.mov (.tmp 0),(some (22,true))⟩,⟨(some 24),.nilck (.tmp 23),(some (22,true))⟩,⟨(some 25),.faddr 1 (.tmp 24),(some (22,true))⟩,⟨(some 26),.load (some 4) (.tmp 25),(some (22,true))⟩,⟨(some 27),.mov (.tmp 1),(some (22,true))⟩,⟨(some 28),.call 96 [(.tmp 26),(.tmp 27)],(some (22,true))⟩,⟨(some 29),.load (some 2) (.tmp 7),(some (22,true))⟩,⟨(some 30),.call 95 [(.tmp 28),(.tmp 29)],(some (22,true))⟩,⟨(some 31),.mov (.tmp 30),(some (22,true))⟩,⟨(some 32),.mov (.tmp 0),(some (31,false))⟩,⟨(some 33),.nilck (.tmp 32),(some (31,false))⟩,⟨(some 34),.faddr 1 (.tmp 33),(some (31,false))⟩,⟨(some 35),.load (some 4) (.tmp 34),(some (31,false))⟩,⟨(some 36),.mov (.tmp 1),(some (31,false))⟩,⟨(some 37),.call 97 [(.tmp 35),(.tmp 36)],(some (31,false))⟩,⟨(some 38),.pick (.tmp 31) (.con (V.bool true)) (.tmp 37),(some (22,true))⟩,⟨(some 39),.pick (.tmp 22) (.tmp 38) (.con (V.bool false)),none⟩,⟨(some 6),.mov (.tmp 39),none⟩]
def Qy:List DP:=[⟨0,[11]⟩,⟨1,[20]⟩,⟨3,[21]⟩,⟨7,[0,22]⟩,⟨15,[23,22]⟩,⟨31,[24,22]⟩,⟨63,[25,22]⟩,⟨7,[1,22]⟩,⟨255,[26,27,22]⟩,⟨7,[7,22]⟩,⟨1023,[28,29,22]⟩,⟨2047,[30,22]⟩,⟨4095,[0,31]⟩,⟨8191,[32,31]⟩,⟨16383,[33,31]⟩,⟨32767,[34,31]⟩,⟨4095,[1,31]⟩,⟨131071,[35,36,31]⟩,⟨262143,[31,37,22]⟩,⟨524287,[22,38]⟩,⟨1048575,[39]⟩]
def ADx:XC:=(.z (.c 6 y3<|
.nil)
 (.z (.m 13 2<|
.k 14 (.tup [y4,.bool,.i,.i,.i]) 93 [(.t 13)]<|
.m 12 14<|
.P 15 (.extract 0 (.t 12))<|
.P 16 (.extract 1 (.t 12))<|
.P 17 (.extract 2 (.t 12))<|
.P 18 (.extract 3 (.t 12))<|
.P 19 (.extract 4 (.t 12))<|
.p 7 [] (.alloc 38 [y0,y0])<|
.op none y4 [7,15] (.store 2 (.t 7) (.t 15))<|
.m 8 16<|
.m 9 17<|
.m 10 18<|
.m 11 19<|
.nil)
 (.seq (.keep [(0,.ptr),(1,.i),(7,.ptr),(11,.i)] [] [] (.gdraw Nq Qy [(6,.bool)]))
 .ret)))
def cJ (E:EB) (D:Ak) (W:AI) (a b:Nat) (c:Int) (d:V) (Z:H):AH:=
 AV (D 93 [d] Z) fun u1 s2=>
 DH u1 fun l3=>
 AE l3 fun x4 l5=>
 Bm x4 fun l6=>
 Ah .i64 l6 fun x9 l8=>
 Ah .i64 l8 fun x12 l11=>
 AP l11 (
 DQ l5 fun x15 l14=>
 Ah .i64 l14 fun x18 l17=>
 Ah .i64 l17 fun x21 l20=>
 Ah .i64 l20 fun x24 l23=>
 AP l23 (
 let s25:=Br s2 (.cells [.int .i64 (AA 0),.int .i64 (AA 0)]);
 FW 2 (H.next s2) 0 (V.agg [.int .i64 x9,.int .i64 x12]) s25 fun s26=>
 Ci (W Nq Qy [(0,.ptr a b),(1,.int .i64 c),(7,.ptr (H.next s2) 0),(11,.int .i64 x24)] s26) fun e27 s28=>
 BR e27 6 fun u29=>
 AZ u29 fun x30=>
 some ((V.bool x30),s28)))
def F62 (N:Nat) (args:List V) (Z:H):AH:=
 AE args fun x1 l2=>
 B8 x1 fun b3 o4=>
 Ah .i64 l2 fun x7 l6=>
 AE l6 fun x8 l9=>
 AP l9 (
 cJ E D W b3 o4 x7 x8 Z)
def A62:DR:=⟨40,[.ptr,.i,.any],[(.tmp 6)],ADx⟩
theorem AHD (args:List V) (Z:H):Bq E D W N A62 args Z=F62 E D W N args Z:=by kernel_rfl
def Zn:List (Nat × C6):=[(0,.any),(1,.any),(7,.i),(8,.i)]
def IA (E:EB):St->AH:=fun s=>DF E s [(.tmp 4)] fun l=>some (Da l,s.Z)
def jn (c0:XC):Nat->St->AH:=BY 0 (dX E D W N (.keep [] [] [] c0) (IA E) nX (IA E)) nX
def ga (cc1:XC) (cc2:XC):XC:=(.z (.q 4 0<|
.nil)
 (.seq (.z (.m 6 0<|
.u 7 6<|
.q 8 0<|
.nil)
 (.block 0 (.loop Zn [] [] cc2)))
 (.keep [] [] [] cc1)))
def T6 (E:EB) (D:Ak) (W:AI) (K2:V->V->Int->Int->H->AH) (a b:V) (Z:H):AH:=
 A2 a fun n1=>
 K2 a b (AA n1) (AA 0) Z
def PY:XC:=(.z (.c 4 ZI<|
.nil)
 .ret)
def W8 (E:EB) (D:Ak) (W:AI) (Z:H):AH:=
 some ((V.int .i64 (BQ 0)),Z)
def RG:XC:=(.z (.b 9 .lss .none (.t 8) (.t 7)<|
.nil)
 (.seq lh
 (.seq (.block 1 (.z (.m 10 8<|
.m 5 10<|
.nil)
 (.z (.m 11 1<|
.m 12 0<|
.m 13 5<|
.s 14 1 12 13<|
.l 15 .any 14<|
.O 16 .bool (.callv (.t 11) [(.t 15)])<|
.nil)
 y20)))
 y21)))
def QY (E:EB) (D:Ak) (W:AI) (K1:H->AH) (R2:V->V->Int->Int->H->AH) (a b:V) (c d:Int) (Z:H):AH:=
 AK (C8 d c) (
 AU 1 a d fun b1 o2=>
 Bc E Z b1 o2 fun u3=>
 FL D b [u3] Z fun u4 s5=>
 AZ u4 fun x6=>
 AK x6 (
 some ((V.int .i64 d),s5)) (
 R2 a b c (CR .i64 d (AA 1)) s5)) (
 K1 Z)
def nY (a b:V) (Z:H):St:=⟨[(0,a),(1,b)],[],[],Z⟩
def nW (Z:H):St:=⟨[],[],[],Z⟩
def Xb (a b:V) (c d:Int) (Z:H):St:=⟨[(0,a),(1,b),(7,.int .i64 c),(8,.int .i64 d)],[],[],Z⟩
theorem ABK (cc1:XC) (cc2:XC) (a b:V) (Z:H) :
 AN E D W N (ga cc1 cc2) (nY a b Z) (IA E) nX (IA E) =
 T6 E D W (fun a b c d Z=>Ad (fun rec s'=>AN E D W N cc2 s' (kX Zn [] [] rec) (jn E D W N cc1) (IA E)) N (Xb a b c d Z)) a b Z:=by kernel_rfl
theorem ABJ (cc1:XC) (li2:St->AH) (a b:V) (c d:Int) (Z:H) :
 AN E D W N (RG ) (Xb a b c d Z) (kX Zn [] [] li2) (jn E D W N cc1) (IA E) =
 QY E D W (fun  Z=>AN E D W N cc1 (nW Z) (IA E) nX (IA E)) (fun a b c d Z=>li2 (Xb a b c d Z)) a b c d Z:=by kernel_rfl
def pU (E:EB) (D:Ak) (W:AI) (N:Nat):=W8 E D W
theorem uu (Z:H) :
 AN E D W N PY (nW Z) (IA E) nX (IA E)=pU E D W N  Z:=by kernel_rfl
def Xo (n:Nat):V->V->Int->Int->H->AH:=
 Nat.rec (fun _ _ _ _ _=>none) (fun _ ih=>QY E D W (pU E D W N ) ih) n
theorem tt (n:Nat):∀(a b:V) (c d:Int) (Z:H),
 Ad (fun rec s'=>AN E D W N RG s' (kX Zn [] [] rec) (jn E D W N PY) (IA E)) n (Xb a b c d Z)=Xo E D W N n a b c d Z:=by
 induction n with
 | zero=>intro a b c d Z;rfl
 | succ n ihn=>
  intro a b c d Z
  rw[Aq]
  refine(ABJ E D W N PY (Ad (fun rec s'=>AN E D W N RG s' (kX Zn [] [] rec) (jn E D W N PY) (IA E)) n) a b c d Z).trans ?_
  simp only[ihn,uu]
  kernel_rfl
def pV:=T6 E D W (Xo E D W N N)
theorem uv (a b:V) (Z:H) :
 AN E D W N (ga PY RG) (nY a b Z) (IA E) nX (IA E)=pV E D W N a b Z:=by
 refine(ABK E D W N PY RG  a b Z).trans ?_
 simp only[tt]
 kernel_rfl
def xJ (args:List V) (Z:H):AH:=
 AE args fun x1 l2=>
 AE l2 fun x3 l4=>
 AP l4 (
 pV E D W N x1 x3 Z)
def A63:DR:=⟨19,[.any,.any],[(.tmp 4)],(ga PY RG)⟩
theorem AHC (args:List V) (Z:H):Bq E D W N A63 args Z=xJ E D W N args Z:=by
 unfold xJ
 simp only[<-uv]
 kernel_rfl
def ADw:XC:=(.z (.c 4 y3<|
.nil)
 (.z (.l 5 .any 1<|
.f 6 1 2<|
.l 7 .i 6<|
.m 8 0<|
.k 9 .bool 62 [(.t 5),(.t 7),(.t 8)]<|
.m 4 9<|
.nil)
 .ret))
def cI (E:EB) (D:Ak) (W:AI) (a b c:V) (Z:H):AH:=
 B8 b fun b1 o2=>
 Bc E Z b1 o2 fun u3=>
 B8 c fun b4 o5=>
 Bc E Z b4 (Ap o5 1) fun u6=>
 Am .i64 u6 fun x7=>
 AV (D 62 [u3,.int .i64 x7,a] Z) fun u8 s9=>
 AZ u8 fun x10=>
 some ((V.bool x10),s9)
def F64 (N:Nat) (args:List V) (Z:H):AH:=
 AE args fun x1 l2=>
 AE l2 fun x3 l4=>
 AE l4 fun x5 l6=>
 AP l6 (
 cI E D W x1 x3 x5 Z)
def A64:DR:=⟨10,[.any,.any,.any],[(.tmp 4)],ADw⟩
theorem AHB (args:List V) (Z:H):Bq E D W N A64 args Z=F64 E D W N args Z:=by kernel_rfl
def ADv:XC:=(.z (.c 2 V.nils<|
.nil)
 (.seq (.z (.m 3 0<|
.b 4 .eql .slice (.t 3) (.con V.nils)<|
.nil)
 (.cond (.tmp 4) (.z (.c 2 V.nils<|
.nil)
 .ret)
 .skip))
 (.z (.p 5 [] (.buildSlice 29 0 [] [])<|
.m 6 0<|
.O 7 .one (.append 29 1 24 (.t 5) (.t 6))<|
.m 2 7<|
.nil)
 .ret)))
def cH (E:EB) (D:Ak) (W:AI) (a:V) (Z:H):AH:=
 ZD .slice a V.nils fun c1=>
 AK c1 (
 some (V.nils,Z)) (
 let s2:=Br Z (.cells []);
 DD E 1 24 (V.sl (H.next Z) 0 0 (.ex 0)) a s2 fun u3 s4=>
 Ba u3 (
 some (u3,s4)))
def F66 (N:Nat) (args:List V) (Z:H):AH:=
 AE args fun x1 l2=>
 AP l2 (
 cH E D W x1 Z)
def A66:DR:=⟨8,[.any],[(.tmp 2)],ADv⟩
theorem AHA (args:List V) (Z:H):Bq E D W N A66 args Z=F66 E D W N args Z:=by kernel_rfl
def ADu (cc1:XC) (cc2:XC):XC:=(.z (.P 6 (.box 34 (.t 2))<|
.c 8 y3<|
.nil)
 (.seq (.z (.m 10 1<|
.b 11 .lss .none (.t 10) (.i 0)<|
.m 12 11<|
.gO 12 false (.p 13 [1,12] Jd<|
.p 14 [0,12] y9<|
.p 15 [14,12] (.nilck (.t 14))<|
.p 16 [15,12] (.faddr 0 (.t 15))<|
.p 17 [16,12] (.faddr 0 (.t 16))<|
.p 18 [17,12] (.faddr 3 (.t 17))<|
.p 19 [18,12] (.load none (.t 18))<|
.p 20 [19,12] (.len false (.t 19))<|
.p 21 [13,20,12] (.bin .geq .none (.t 13) (.t 20))<|
.nil) 22 12 21<|
.m 23 22<|
.gO 23 false (.p 24 [3,23] (.mov (.t 3))<|
.p 25 [24,23] (.bin .gtr .none (.t 24) (.i 17))<|
.nil) 26 23 25<|
.nil)
 (.cond (.tmp 26) (.z (.c 8 y3<|
.nil)
 .ret)
 .skip))
 (.z (.m 27 0<|
.n 28 27<|
.f 29 0 28<|
.f 30 0 29<|
.f 31 3 30<|
.l 32 .any 31<|
.m 33 1<|
.s 34 13 32 33<|
.O 35 y2 (.load (some 13) (.t 34))<|
.pal 9 [] 97 [y0,V.nils,y3,y3,y3,y3,y0,y0,V.nils,V.nils,y0,y3,y0]<|
.op none y2 [9,35] (.store 13 (.t 9) (.t 35))<|
.nil)
 (.seq (.z (.f 36 0 6<|
.l 37 .i 36<|
.b 38 .eql .none (.t 37) (.i 12)<|
.nil)
 (.cond (.tmp 38) (.z (.m 39 0<|
.m 40 1<|
.O 41 y1 (.load (some 6) (.t 6))<|
.k 42 .bool 98 [(.t 39),(.t 40),(.t 41)]<|
.m 8 42<|
.nil)
 .ret)
 .skip))
 (.seq (.z (.f 43 0 6<|
.l 44 .i 43<|
.f 45 0 9<|
.l 46 .i 45<|
.b 47 .neq .none (.t 44) (.t 46)<|
.nil)
 (.cond (.tmp 47) (.z (.c 8 y3<|
.nil)
 .ret)
 .skip))
 (.seq (.z (.f 48 0 9<|
.l 49 .i 48<|
.nil)
 (.block 0 (.z (.b 51 .eql .none (.t 49) (.i 1)<|
.m 50 51<|
.nil)
 (.cond (.tmp 50) (.z (.O 52 y1 (.load (some 6) (.t 6))<|
.k 53 .bool 99 [(.t 52),(.i 1)]<|
.m 54 53<|
.gA 54 true (.p 55 [6,54] qV<|
.op (some 56) .i [55,54] (.load none (.t 55))<|
.p 57 [56,54] (.bin .eql .none (.t 56) (.i 0))<|
.p 58 [57,54] (.mov (.t 57))<|
.grp 58 false (.p 59 [6,58] qV<|
.op (some 60) .i [59,58] (.load none (.t 59))<|
.p 61 [60,58] (.bin .eql .none (.t 60) (.i 1))<|
.nil) 62 [58,61,54] (.t 58) Pw (.t 61)<|
.nil) 63 54 62<|
.m 8 63<|
.nil)
 .ret)
 (.z (.b 65 .eql .none (.t 49) (.i 2)<|
.m 64 65<|
.nil)
 (.cond (.tmp 64) (.z (.O 66 y1 (.load (some 6) (.t 6))<|
.k 67 .bool 99 [(.t 66),(.i 1)]<|
.m 68 67<|
.gA 68 true (.p 69 [9,68] (.faddr 2 (.t 9))<|
.p 70 [69,68] (.faddr 3 (.t 69))<|
.op (some 71) .bool [70,68] (.load none (.t 70))<|
.p 72 [71,68] (.mov (.t 71))<|
.grp 72 false (.p 73 [9,72] (.faddr 2 (.t 9))<|
.op (some 74) y28 [73,72] (.load (some 6) (.t 73))<|
.p 75 [6,72] qV<|
.op (some 76) .i [75,72] (.load none (.t 75))<|
.op (some 77) .bool [74,76,72] (.call 100 [(.t 74),(.t 76)])<|
.nil) 78 [72,77,68] (.t 72) Pw (.t 77)<|
.nil) 79 68 78<|
.m 8 79<|
.nil)
 .ret)
 (.z (.b 81 .eql .none (.t 49) (.i 3)<|
.m 80 81<|
.nil)
 (.cond (.tmp 80) (.z (.O 82 y1 (.load (some 6) (.t 6))<|
.k 83 .bool 99 [(.t 82),(.i 1)]<|
.m 84 83<|
.gA 84 true (.op (some 85) y2 [9,84] (.load (some 13) (.t 9))<|
.p 86 [6,84] qV<|
.op (some 87) .i [86,84] (.load none (.t 86))<|
.op (some 88) .i [85,87,84] (.call 35 [(.t 85),(.t 87)])<|
.p 89 [88,84] (.bin .geq .none (.t 88) (.i 0))<|
.nil) 90 84 89<|
.m 8 90<|
.nil)
 .ret)
 (.z (.b 92 .eql .none (.t 49) (.i 4)<|
.m 91 92<|
.nil)
 (.cond (.tmp 91) (.z (.O 93 y1 (.load (some 6) (.t 6))<|
.k 94 .bool 99 [(.t 93),(.i 0)]<|
.m 8 94<|
.nil)
 .ret)
 (.seq (.z (.b 96 .eql .none (.t 49) (.i 5)<|
.m 95 96<|
.nil)
 (.cond (.tmp 95) .skip
 (.ops (.b 97 .eql .none (.t 49) (.i 6)<|
.m 95 97<|
.nil))))
 (.keep [(0,.ptr),(1,.i),(3,.i),(6,.ptr),(49,.i),(95,.bool)] [9] [(9,[.i,.any,.bool,.bool,.bool,.bool,.i,.i,.any,.any,.i,.bool,.i])] cc2))))))))))))
 (.keep [] [] [] cc1)))))))
def H2 (E:EB) (D:Ak) (W:AI) (K2:Nat->Nat->Int->Int->Nat->Nat->Int->Bool->Int->V->Bool->Bool->Bool->Bool->Int->Int->V->V->Int->Bool->Int->H->AH) (a b:Nat) (c d e:Int) (f g:V) (h:Int) (i:V) (j:Int) (Z:H):AH:=
 Gn [.int .i64 d,.int .i64 e,f,g,.int .i64 h,i] Z fun s1=>
 Aa (fun c2 s3=>
 Aa (fun c5 s6=>
 AK c5 (
 some ((V.bool false),s6)) (
 Bc E s6 a (Ap b 3) fun u8=>
 AU 13 u8 c fun b9 o10=>
 BH E s6 b9 o10 13 fun l11=>
 Ah .i64 l11 fun x14 l13=>
 AE l13 fun x15 l16=>
 DQ l16 fun x19 l18=>
 DQ l18 fun x22 l21=>
 DQ l21 fun x25 l24=>
 DQ l24 fun x28 l27=>
 Ah .i64 l27 fun x31 l30=>
 Ah .i64 l30 fun x34 l33=>
 AE l33 fun x35 l36=>
 AE l36 fun x37 l38=>
 Ah .i64 l38 fun x41 l40=>
 DQ l40 fun x44 l43=>
 Ah .i64 l43 fun x47 l46=>
 AP l46 (
 GW (allOne [.int .i64 x14,x15,.bool x19,.bool x22,.bool x25,.bool x28,.int .i64 x31,.int .i64 x34,x35,x37,.int .i64 x41,.bool x44,.int .i64 x47]) (
 Bc E s6 (H.next Z) 0 fun u48=>
 Am .i64 u48 fun x49=>
 AK (B4 x49 (AA 12)) (
 BH E s6 (H.next Z) 0 6 fun l50=>
 Ah .i64 l50 fun x53 l52=>
 Ah .i64 l52 fun x56 l55=>
 AE l55 fun x57 l58=>
 AE l58 fun x59 l60=>
 Ah .i64 l60 fun x63 l62=>
 AE l62 fun x64 l65=>
 AP l65 (
 AV (D 98 [.ptr a b,.int .i64 c,.agg [.int .i64 x53,.int .i64 x56,x57,x59,.int .i64 x63,x64]] s6) fun u66 s67=>
 AZ u66 fun x68=>
 some ((V.bool x68),s67))) (
 Bc E s6 (H.next Z) 0 fun u69=>
 Am .i64 u69 fun x70=>
 AK (not (B4 x70 x14)) (
 some ((V.bool false),s6)) (
 AK (B4 x14 (AA 1)) (
 BH E s6 (H.next Z) 0 6 fun l71=>
 Ah .i64 l71 fun x74 l73=>
 Ah .i64 l73 fun x77 l76=>
 AE l76 fun x78 l79=>
 AE l79 fun x80 l81=>
 Ah .i64 l81 fun x84 l83=>
 AE l83 fun x85 l86=>
 AP l86 (
 AV (D 99 [.agg [.int .i64 x74,.int .i64 x77,x78,x80,.int .i64 x84,x85],.int .i64 (AA 1)] s6) fun u87 s88=>
 AZ u87 fun x89=>
 Aa (fun c90 s91=>
 some ((V.bool c90),s91)) fun k92=>
 AK x89 (
 Bc E s88 (H.next Z) 1 fun u93=>
 Am .i64 u93 fun x94=>
 Aa (fun c95 s96=>
 k92 c95 s96) fun k97=>
 AK (B4 x94 (AA 0)) (
 k97 true s88) (
 Bc E s88 (H.next Z) 1 fun u98=>
 Am .i64 u98 fun x99=>
 k97 (B4 x99 (AA 1)) s88)) (
 k92 false s88))) (
 AK (B4 x14 (AA 2)) (
 BH E s6 (H.next Z) 0 6 fun l100=>
 Ah .i64 l100 fun x103 l102=>
 Ah .i64 l102 fun x106 l105=>
 AE l105 fun x107 l108=>
 AE l108 fun x109 l110=>
 Ah .i64 l110 fun x113 l112=>
 AE l112 fun x114 l115=>
 AP l115 (
 AV (D 99 [.agg [.int .i64 x103,.int .i64 x106,x107,x109,.int .i64 x113,x114],.int .i64 (AA 1)] s6) fun u116 s117=>
 AZ u116 fun x118=>
 Aa (fun c119 s120=>
 some ((V.bool c119),s120)) fun k121=>
 AK x118 (
 Aa (fun c122 s123=>
 k121 c122 s123) fun k124=>
 AK x28 (
 k124 true s117) (
 Bc E s117 (H.next Z) 1 fun u125=>
 Am .i64 u125 fun x126=>
 AV (D 100 [.agg [.bool x19,.bool x22,.bool x25,.bool x28,.int .i64 x31,.int .i64 x34],.int .i64 x126] s117) fun u127 s128=>
 AZ u127 fun x129=>
 k124 x129 s128)) (
 k121 false s117))) (
 AK (B4 x14 (AA 3)) (
 BH E s6 (H.next Z) 0 6 fun l130=>
 Ah .i64 l130 fun x133 l132=>
 Ah .i64 l132 fun x136 l135=>
 AE l135 fun x137 l138=>
 AE l138 fun x139 l140=>
 Ah .i64 l140 fun x143 l142=>
 AE l142 fun x144 l145=>
 AP l145 (
 AV (D 99 [.agg [.int .i64 x133,.int .i64 x136,x137,x139,.int .i64 x143,x144],.int .i64 (AA 1)] s6) fun u146 s147=>
 AZ u146 fun x148=>
 Aa (fun c149 s150=>
 some ((V.bool c149),s150)) fun k151=>
 AK x148 (
 Bc E s147 (H.next Z) 1 fun u152=>
 Am .i64 u152 fun x153=>
 AV (D 35 [.agg [.int .i64 x14,x15,.bool x19,.bool x22,.bool x25,.bool x28,.int .i64 x31,.int .i64 x34,x35,x37,.int .i64 x41,.bool x44,.int .i64 x47],.int .i64 x153] s147) fun u154 s155=>
 Am .i64 u154 fun x156=>
 k151 (Hp (AA 0) x156) s155) (
 k151 false s147))) (
 AK (B4 x14 (AA 4)) (
 BH E s6 (H.next Z) 0 6 fun l157=>
 Ah .i64 l157 fun x160 l159=>
 Ah .i64 l159 fun x163 l162=>
 AE l162 fun x164 l165=>
 AE l165 fun x166 l167=>
 Ah .i64 l167 fun x170 l169=>
 AE l169 fun x171 l172=>
 AP l172 (
 AV (D 99 [.agg [.int .i64 x160,.int .i64 x163,x164,x166,.int .i64 x170,x171],.int .i64 (AA 0)] s6) fun u173 s174=>
 AZ u173 fun x175=>
 some ((V.bool x175),s174))) (
 AK (B4 x14 (AA 5)) (
 K2 a b c j (H.next Z) 0 x14 (B4 x14 (AA 5)) x14 x15 x19 x22 x25 x28 x31 x34 x35 x37 x41 x44 x47 s6) (
 K2 a b c j (H.next Z) 0 x14 (B4 x14 (AA 6)) x14 x15 x19 x22 x25 x28 x31 x34 x35 x37 x41 x44 x47 s6))))))))))) fun k7=>
 AK c2 (
 k7 true s3) (
 k7 (C8 (AA 17) j) s3)) fun k4=>
 AK (C8 c (AA 0)) (
 k4 true s1) (
 Bc E s1 a (Ap b 3) fun u176=>
 A2 u176 fun n177=>
 k4 (Hp (AA n177) c) s1)
def ADt:XC:=(.z (.c 8 y3<|
.nil)
 .ret)
def zp (E:EB) (D:Ak) (W:AI) (Z:H):AH:=
 some ((V.bool false),Z)
def ADs (cc3:XC):XC:=(.cond (.tmp 95) (.z (.m 98 0<|
.O 99 y2 (.load (some 13) (.t 9))<|
.O 100 y1 (.load (some 6) (.t 6))<|
.k 101 .bool 101 [(.t 98),(.t 99),(.t 100)]<|
.m 8 101<|
.nil)
 .ret)
 (.z (.b 103 .eql .none (.t 49) (.i 10)<|
.m 102 103<|
.nil)
 (.cond (.tmp 102) (.z (.m 104 0<|
.O 105 y2 (.load (some 13) (.t 9))<|
.O 106 y1 (.load (some 6) (.t 6))<|
.m 107 3<|
.k 108 .bool 102 [(.t 104),(.t 105),(.t 106),(.t 107)]<|
.m 8 108<|
.nil)
 .ret)
 (.z (.b 110 .eql .none (.t 49) (.i 9)<|
.m 109 110<|
.nil)
 (.cond (.tmp 109) (.seq (.draw (.O 111 y1 (.load (some 6) (.t 6))<|
.k 112 .bool 99 [(.t 111),(.i 5)]<|
.m 113 112<|
.gA 113 true (.p 114 [6,113] qV<|
.op (some 115) .i [114,113] (.load none (.t 114))<|
.p 116 [115,113] (.bin .geq .none (.t 115) (.i 0))<|
.nil) 117 113 116<|
.m 118 117<|
.gA 118 true (.p 119 [6,118] qV<|
.op (some 120) .i [119,118] (.load none (.t 119))<|
.p 121 [9,118] (.faddr 9 (.t 9))<|
.p 122 [121,118] (.load none (.t 121))<|
.p 123 [122,118] (.len false (.t 122))<|
.p 124 [120,123,118] (.bin .lss .none (.t 120) (.t 123))<|
.nil) 125 118 124<|
.m 126 125<|
.gA 126 true (.p 127 [6,126] (.faddr 3 (.t 6))<|
.p 128 [127,126] (.load none (.t 127))<|
.p 129 [128,126] (.len false (.t 128))<|
.p 130 [129,126] (.bin .eql .none (.t 129) (.i 1))<|
.nil) 131 126 130<|
.m 132 131<|
.gA 132 true (.p 133 [0,132] y9<|
.p 134 [9,132] (.faddr 9 (.t 9))<|
.p 135 [134,132] (.load none (.t 134))<|
.p 136 [6,132] qV<|
.op (some 137) .i [136,132] (.load none (.t 136))<|
.p 138 [135,137,132] (.iaddrS 11 (.t 135) (.t 137))<|
.p 139 [138,132] (.faddr 1 (.t 138))<|
.op (some 140) .i [139,132] (.load none (.t 139))<|
.p 141 [6,132] (.faddr 3 (.t 6))<|
.p 142 [141,132] (.load none (.t 141))<|
.p 143 [142,132] (.iaddrS 6 (.t 142) (.i 0))<|
.op (some 144) y1 [143,132] (.load (some 6) (.t 143))<|
.p 145 [3,132] (.mov (.t 3))<|
.p 146 [145,132] (.bin .add .none (.t 145) (.i 1))<|
.op (some 147) .bool [133,140,144,146,132] (.call 67 [(.t 133),(.t 140),(.t 144),(.t 146)])<|
.nil) 148 132 147<|
.m 8 148<|
.nil) [0,1,3,7,15,31,63,127,255,511,255,1279,3327,8191,16383,32767,65535,131071,262143,524287,1048575,2097151,4194303,4194303,12582911,4194303,37748735,130023423,264241151,532676607,4194303,1077936127,3225419775,7520387071,4194303,17184063487,68719476735,137438953471,274877906943])
 .ret)
 (.seq (.z (.b 150 .eql .none (.t 49) (.i 7)<|
.m 149 150<|
.nil)
 (.cond (.tmp 149) .skip
 (.ops (.b 151 .eql .none (.t 49) (.i 8)<|
.m 149 151<|
.nil))))
 (.keep [(0,.ptr),(1,.i),(3,.i),(6,.ptr),(149,.bool)] [] [] cc3)))))))
def T5 (E:EB) (D:Ak) (W:AI) (K3:Nat->Nat->Int->Int->Nat->Nat->Bool->H->AH) (a b:Nat) (c d:Int) (e f:Nat) (g:Int) (h:Bool) (i:Int) (j:V) (k l m o:Bool) (p q:Int) (r s:V) (t:Int) (u:Bool) (v:Int) (Z:H):AH:=
 AK h (
 BH E Z e f 6 fun l1=>
 Ah .i64 l1 fun x4 l3=>
 Ah .i64 l3 fun x7 l6=>
 AE l6 fun x8 l9=>
 AE l9 fun x10 l11=>
 Ah .i64 l11 fun x14 l13=>
 AE l13 fun x15 l16=>
 AP l16 (
 AV (D 101 [.ptr a b,.agg [.int .i64 i,j,.bool k,.bool l,.bool m,.bool o,.int .i64 p,.int .i64 q,r,s,.int .i64 t,.bool u,.int .i64 v],.agg [.int .i64 x4,.int .i64 x7,x8,x10,.int .i64 x14,x15]] Z) fun u17 s18=>
 AZ u17 fun x19=>
 some ((V.bool x19),s18))) (
 AK (B4 g (AA 10)) (
 BH E Z e f 6 fun l20=>
 Ah .i64 l20 fun x23 l22=>
 Ah .i64 l22 fun x26 l25=>
 AE l25 fun x27 l28=>
 AE l28 fun x29 l30=>
 Ah .i64 l30 fun x33 l32=>
 AE l32 fun x34 l35=>
 AP l35 (
 AV (D 102 [.ptr a b,.agg [.int .i64 i,j,.bool k,.bool l,.bool m,.bool o,.int .i64 p,.int .i64 q,r,s,.int .i64 t,.bool u,.int .i64 v],.agg [.int .i64 x23,.int .i64 x26,x27,x29,.int .i64 x33,x34],.int .i64 d] Z) fun u36 s37=>
 AZ u36 fun x38=>
 some ((V.bool x38),s37))) (
 AK (B4 g (AA 9)) (
 BH E Z e f 6 fun l39=>
 Ah .i64 l39 fun x42 l41=>
 Ah .i64 l41 fun x45 l44=>
 AE l44 fun x46 l47=>
 AE l47 fun x48 l49=>
 Ah .i64 l49 fun x52 l51=>
 AE l51 fun x53 l54=>
 AP l54 (
 AV (D 99 [.agg [.int .i64 x42,.int .i64 x45,x46,x48,.int .i64 x52,x53],.int .i64 (AA 5)] Z) fun u55 s56=>
 AZ u55 fun x57=>
 Aa (fun c58 s59=>
 Aa (fun c61 s62=>
 Aa (fun c64 s65=>
 Aa (fun c67 s68=>
 some ((V.bool c67),s68)) fun k69=>
 AK c64 (
 Bc E s65 e (Ap f 1) fun u70=>
 Am .i64 u70 fun x71=>
 AU 11 s x71 fun b72 o73=>
 Bc E s65 b72 (Ap o73 1) fun u74=>
 Am .i64 u74 fun x75=>
 Bc E s65 e (Ap f 3) fun u76=>
 AU 6 u76 (AA 0) fun b77 o78=>
 BH E s65 b77 o78 6 fun l79=>
 Ah .i64 l79 fun x82 l81=>
 Ah .i64 l81 fun x85 l84=>
 AE l84 fun x86 l87=>
 AE l87 fun x88 l89=>
 Ah .i64 l89 fun x92 l91=>
 AE l91 fun x93 l94=>
 AP l94 (
 AV (D 67 [.ptr a b,.int .i64 x75,.agg [.int .i64 x82,.int .i64 x85,x86,x88,.int .i64 x92,x93],.int .i64 (CR .i64 d (AA 1))] s65) fun u95 s96=>
 AZ u95 fun x97=>
 k69 x97 s96)) (
 k69 false s65)) fun k66=>
 AK c61 (
 Bc E s62 e (Ap f 3) fun u98=>
 A2 u98 fun n99=>
 k66 (B4 (AA n99) (AA 1)) s62) (
 k66 false s62)) fun k63=>
 AK c58 (
 Bc E s59 e (Ap f 1) fun u100=>
 Am .i64 u100 fun x101=>
 A2 s fun n102=>
 k63 (C8 x101 (AA n102)) s59) (
 k63 false s59)) fun k60=>
 AK x57 (
 Bc E s56 e (Ap f 1) fun u103=>
 Am .i64 u103 fun x104=>
 k60 (Hp (AA 0) x104) s56) (
 k60 false s56))) (
 AK (B4 g (AA 7)) (
 K3 a b c d e f (B4 g (AA 7)) Z) (
 K3 a b c d e f (B4 g (AA 8)) Z))))
def ADr:XC:=(.cond (.tmp 149) (.z (.m 152 0<|
.m 153 1<|
.O 154 y1 (.load (some 6) (.t 6))<|
.m 155 3<|
.k 156 .bool 103 [(.t 152),(.t 153),(.t 154),(.t 155)]<|
.m 8 156<|
.nil)
 .ret)
 .skip)
def cG (E:EB) (D:Ak) (W:AI) (K1:H->AH) (a b:Nat) (c d:Int) (e f:Nat) (g:Bool) (Z:H):AH:=
 AK g (
 BH E Z e f 6 fun l1=>
 Ah .i64 l1 fun x4 l3=>
 Ah .i64 l3 fun x7 l6=>
 AE l6 fun x8 l9=>
 AE l9 fun x10 l11=>
 Ah .i64 l11 fun x14 l13=>
 AE l13 fun x15 l16=>
 AP l16 (
 AV (D 103 [.ptr a b,.int .i64 c,.agg [.int .i64 x4,.int .i64 x7,x8,x10,.int .i64 x14,x15],.int .i64 d] Z) fun u17 s18=>
 AZ u17 fun x19=>
 some ((V.bool x19),s18))) (
 K1 Z)
def pT (E:EB) (D:Ak) (W:AI) (N:Nat):=zp E D W
def ACF:=cG E D W (pT E D W N )
def pS:=T5 E D W (ACF E D W N )
def iL (args:List V) (Z:H):AH:=
 AE args fun x1 l2=>
 B8 x1 fun b3 o4=>
 Ah .i64 l2 fun x7 l6=>
 AE l6 fun x8 l9=>
 Bm x8 fun l10=>
 Ah .i64 l10 fun x13 l12=>
 Ah .i64 l12 fun x16 l15=>
 AE l15 fun x17 l18=>
 AE l18 fun x19 l20=>
 Ah .i64 l20 fun x23 l22=>
 AE l22 fun x24 l25=>
 AP l25 (
 Ah .i64 l9 fun x28 l27=>
 AP l27 (
 H2 E D W (pS E D W N ) b3 o4 x7 x13 x16 x17 x19 x23 x24 x28 Z))
def A67:DR:=⟨157,[.ptr,.i,y1,.i],[(.tmp 8)],(ADu ADt (ADs ADr))⟩
theorem AG9 (args:List V) (Z:H):Bq E D W N A67 args Z=iL E D W N args Z:=by kernel_rfl
def Zm:List (Nat × C6):=[(3,.i),(7,.any),(8,.i),(9,.i)]
def H9 (E:EB):St->AH:=fun s=>DF E s [(.tmp 2)] fun l=>some (Da l,s.Z)
def jm (c0:XC):Nat->St->AH:=BY 0 (dX E D W N (.keep [(3,.i)] [] [] c0) (H9 E) nX (H9 E)) nX
def gZ (cc1:XC) (cc2:XC):XC:=(.z (.P 1 (.box 34 (.t 0))<|
.q 2 0<|
.nil)
 (.z (.q 3 1<|
.nil)
 (.seq (.z (.f 6 3 1<|
.l 7 .any 6<|
.u 8 7<|
.q 9 0<|
.nil)
 (.block 0 (.loop Zm [] [] cc2)))
 (.keep [(3,.i)] [] [] cc1))))
def W7 (E:EB) (D:Ak) (W:AI) (K2:Int->V->Int->Int->H->AH) (a b:Int) (c d:V) (e:Int) (f:V) (Z:H):AH:=
 Gn [.int .i64 a,.int .i64 b,c,d,.int .i64 e,f] Z fun s1=>
 Bc E s1 (H.next Z) 3 fun u2=>
 A2 u2 fun n3=>
 K2 (AA 1) u2 (AA n3) (AA 0) s1
def PX:XC:=(.z (.m 18 3<|
.m 2 18<|
.nil)
 .ret)
def zn (E:EB) (D:Ak) (W:AI) (a:Int) (Z:H):AH:=
 some ((V.int .i64 a),Z)
def RF:XC:=(.z (.b 10 .lss .none (.t 9) (.t 8)<|
.nil)
 (.seq (.cond (.tmp 10) .skip
 Me)
 (.seq (.block 1 (.z (.s 11 6 7 9<|
.O 12 y1 (.load (some 6) (.t 11))<|
.pal 5 [] 34 [y0,y0,V.nils,V.nils,y0,V.nils]<|
.op none y1 [5,12] (.store 6 (.t 5) (.t 12))<|
.nil)
 (.ops (.m 13 3<|
.O 14 y1 (.load (some 6) (.t 5))<|
.k 15 .i 68 [(.t 14)]<|
.b 16 .add .none (.t 13) (.t 15)<|
.m 3 16<|
.nil))))
 (.ops (.b 17 .add .none (.t 9) (.i 1)<|
.m 9 17<|
.nil)))))
def QX (E:EB) (D:Ak) (W:AI) (K1:Int->H->AH) (R2:Int->V->Int->Int->H->AH) (a:Int) (b:V) (c d:Int) (Z:H):AH:=
 AK (C8 d c) (
 AU 6 b d fun b1 o2=>
 BH E Z b1 o2 6 fun l3=>
 Ah .i64 l3 fun x6 l5=>
 Ah .i64 l5 fun x9 l8=>
 AE l8 fun x10 l11=>
 AE l11 fun x12 l13=>
 Ah .i64 l13 fun x16 l15=>
 AE l15 fun x17 l18=>
 AP l18 (
 GW (allOne [.int .i64 x6,.int .i64 x9,x10,x12,.int .i64 x16,x17]) (
 AV (D 68 [.agg [.int .i64 x6,.int .i64 x9,x10,x12,.int .i64 x16,x17]] Z) fun u19 s20=>
 Am .i64 u19 fun x21=>
 R2 (CR .i64 a x21) b c (CR .i64 d (AA 1)) s20))) (
 K1 a Z)
def nV (a b:Int) (c d:V) (e:Int) (f:V) (Z:H):St:=⟨[(0,.agg [.int .i64 a,.int .i64 b,c,d,.int .i64 e,f])],[],[],Z⟩
def nU (a:Int) (Z:H):St:=⟨[(3,.int .i64 a)],[],[],Z⟩
def Xa (a:Int) (b:V) (c d:Int) (Z:H):St:=⟨[(3,.int .i64 a),(7,b),(8,.int .i64 c),(9,.int .i64 d)],[],[],Z⟩
theorem ABI (cc1:XC) (cc2:XC) (a b:Int) (c d:V) (e:Int) (f:V) (Z:H) :
 AN E D W N (gZ cc1 cc2) (nV a b c d e f Z) (H9 E) nX (H9 E) =
 W7 E D W (fun g h i j Z=>Ad (fun rec s'=>AN E D W N cc2 s' (kX Zm [] [] rec) (jm E D W N cc1) (H9 E)) N (Xa g h i j Z)) a b c d e f Z:=by kernel_rfl
theorem ABH (cc1:XC) (li2:St->AH) (a:Int) (b:V) (c d:Int) (Z:H) :
 AN E D W N (RF ) (Xa a b c d Z) (kX Zm [] [] li2) (jm E D W N cc1) (H9 E) =
 QX E D W (fun a Z=>AN E D W N cc1 (nU a Z) (H9 E) nX (H9 E)) (fun a b c d Z=>li2 (Xa a b c d Z)) a b c d Z:=by kernel_rfl
def pQ (E:EB) (D:Ak) (W:AI) (N:Nat):=zn E D W
theorem uq (a:Int) (Z:H) :
 AN E D W N PX (nU a Z) (H9 E) nX (H9 E)=pQ E D W N a Z:=by kernel_rfl
def eT (n:Nat):Int->V->Int->Int->H->AH:=
 Nat.rec (fun _ _ _ _ _=>none) (fun _ ih=>QX E D W (pQ E D W N ) ih) n
theorem tr (n:Nat):∀(a:Int) (b:V) (c d:Int) (Z:H),
 Ad (fun rec s'=>AN E D W N RF s' (kX Zm [] [] rec) (jm E D W N PX) (H9 E)) n (Xa a b c d Z)=eT E D W N n a b c d Z:=by
 induction n with
 | zero=>intro a b c d Z;rfl
 | succ n ihn=>
  intro a b c d Z
  rw[Aq]
  refine(ABH E D W N PX (Ad (fun rec s'=>AN E D W N RF s' (kX Zm [] [] rec) (jm E D W N PX) (H9 E)) n) a b c d Z).trans ?_
  simp only[ihn,uq]
  kernel_rfl
def pR:=W7 E D W (eT E D W N N)
theorem ur (a b:Int) (c d:V) (e:Int) (f:V) (Z:H) :
 AN E D W N (gZ PX RF) (nV a b c d e f Z) (H9 E) nX (H9 E)=pR E D W N a b c d e f Z:=by
 refine(ABI E D W N PX RF  a b c d e f Z).trans ?_
 simp only[tr]
 kernel_rfl
def qM (args:List V) (Z:H):AH:=
 AE args fun x1 l2=>
 Bm x1 fun l3=>
 Ah .i64 l3 fun x6 l5=>
 Ah .i64 l5 fun x9 l8=>
 AE l8 fun x10 l11=>
 AE l11 fun x12 l13=>
 Ah .i64 l13 fun x16 l15=>
 AE l15 fun x17 l18=>
 AP l18 (
 AP l2 (
 pR E D W N x6 x9 x10 x12 x16 x17 Z))
def A68:DR:=⟨19,[y1],[(.tmp 2)],(gZ PX RF)⟩
theorem AG8 (args:List V) (Z:H):Bq E D W N A68 args Z=qM E D W N args Z:=by
 unfold qM
 simp only[<-ur]
 kernel_rfl
def ADq:XC:=(.z (.c 4 y3<|
.nil)
 (.z (.m 5 0<|
.m 6 1<|
.k 7 .i 104 [(.t 5),(.t 6)]<|
.b 8 .geq .none (.t 7) (.i 0)<|
.m 4 8<|
.nil)
 .ret))
def cF (E:EB) (D:Ak) (W:AI) (a b:V) (Z:H):AH:=
 AV (D 104 [a,b] Z) fun u1 s2=>
 Am .i64 u1 fun x3=>
 some ((V.bool (Hp (AA 0) x3)),s2)
def F69 (N:Nat) (args:List V) (Z:H):AH:=
 AE args fun x1 l2=>
 AE l2 fun x3 l4=>
 AP l4 (
 cF E D W x1 x3 Z)
def A69:DR:=⟨9,[.any,.any],[(.tmp 4)],ADq⟩
theorem AG7 (args:List V) (Z:H):Bq E D W N A69 args Z=F69 E D W N args Z:=by kernel_rfl
def ADp:XC:=(.z (.P 2 (.box 34 (.t 0))<|
.c 3 y3<|
.nil)
 (.z (.O 4 y1 (.load (some 6) (.t 2))<|
.l 5 .i 1<|
.k 6 .bool 41 [(.t 4),(.t 5)]<|
.P 7 (.un .not (.t 6))<|
.m 3 7<|
.nil)
 .ret))
def cE (E:EB) (D:Ak) (W:AI) (a b:Int) (c d:V) (e:Int) (f g:V) (Z:H):AH:=
 Gn [.int .i64 a,.int .i64 b,c,d,.int .i64 e,f] Z fun s1=>
 BH E s1 (H.next Z) 0 6 fun l2=>
 Ah .i64 l2 fun x5 l4=>
 Ah .i64 l4 fun x8 l7=>
 AE l7 fun x9 l10=>
 AE l10 fun x11 l12=>
 Ah .i64 l12 fun x15 l14=>
 AE l14 fun x16 l17=>
 AP l17 (
 B8 g fun b18 o19=>
 Bc E s1 b18 o19 fun u20=>
 Am .i64 u20 fun x21=>
 AV (D 41 [.agg [.int .i64 x5,.int .i64 x8,x9,x11,.int .i64 x15,x16],.int .i64 x21] s1) fun u22 s23=>
 AZ u22 fun x24=>
 some ((V.bool (not x24)),s23))
def xI (N:Nat) (args:List V) (Z:H):AH:=
 AE args fun x1 l2=>
 Bm x1 fun l3=>
 Ah .i64 l3 fun x6 l5=>
 Ah .i64 l5 fun x9 l8=>
 AE l8 fun x10 l11=>
 AE l11 fun x12 l13=>
 Ah .i64 l13 fun x16 l15=>
 AE l15 fun x17 l18=>
 AP l18 (
 AE l2 fun x19 l20=>
 AP l20 (
 cE E D W x6 x9 x10 x12 x16 x17 x19 Z))
def A70:DR:=⟨8,[y1,.any],[(.tmp 3)],ADp⟩
theorem AG6 (args:List V) (Z:H):Bq E D W N A70 args Z=xI E D W N args Z:=by kernel_rfl
def Zl:List (Nat × C6):=[(0,.any),(1,.bool),(7,.any),(8,.i)]
def H8 (E:EB):St->AH:=fun s=>DF E s [(.tmp 6)] fun l=>some (Da l,s.Z)
def jl (c0:XC):Nat->St->AH:=BY 0 (dX E D W N (.keep [(7,.any)] [] [] c0) (H8 E) nX (H8 E)) nX
def gY (cc1:XC) (cc2:XC):XC:=(.z (.c 6 V.nils<|
.nil)
 (.z (.m 9 2<|
.k 10 .one 105 [(.t 9)]<|
.m 7 10<|
.nil)
 (.seq (.z (.m 11 0<|
.u 12 11<|
.b 13 .sub .none (.t 12) (.i 1)<|
.m 8 13<|
.nil)
 (.block 0 (.loop Zl [] [] cc2)))
 (.keep [(7,.any)] [] [] cc1))))
def W6 (E:EB) (D:Ak) (W:AI) (K2:V->Bool->V->Int->H->AH) (a:V) (b:Bool) (c:V) (Z:H):AH:=
 AV (D 105 [c] Z) fun u1 s2=>
 Ba u1 (
 A2 a fun n3=>
 K2 a b u1 (D6 .i64 (AA n3) (AA 1)) s2)
def PW:XC:=(.z (.m 33 7<|
.m 6 33<|
.nil)
 .ret)
def mj (E:EB) (D:Ak) (W:AI) (a:V) (Z:H):AH:=
 some (a,Z)
def RE:XC:=(.seq (.z (.m 14 8<|
.b 15 .geq .none (.t 14) (.i 0)<|
.nil)
 (.cond (.tmp 15) .skip
 Me))
 (.seq (.block 1 (.ops (.m 18 0<|
.m 19 8<|
.s 20 2 18 19<|
.O 21 y4 (.load (some 2) (.t 20))<|
.m 22 1<|
.m 23 22<|
.gO 23 false (.p 24 [8,23] (.mov (.t 8))<|
.p 25 [0,23] y9<|
.p 26 [25,23] (.len false (.t 25))<|
.p 27 [26,23] (.bin .sub .none (.t 26) (.i 1))<|
.p 28 [24,27,23] (.bin .lss .none (.t 24) (.t 27))<|
.nil) 29 23 28<|
.m 30 7<|
.p 31 [30] (.buildSlice 29 1 [V.nils] [(0,1,(.t 30))])<|
.k 32 .one 106 [(.t 21),(.t 29),(.t 31)]<|
.m 7 32<|
.nil)))
 (.ops (.m 16 8<|
.b 17 .sub .none (.t 16) (.i 1)<|
.m 8 17<|
.nil))))
def MR (E:EB) (D:Ak) (W:AI) (K1:V->H->AH) (R2:V->Bool->V->Int->H->AH) (a:V) (b:Bool) (c:V) (d:Int) (Z:H):AH:=
 AK (Hp (AA 0) d) (
 AU 2 a d fun b1 o2=>
 BH E Z b1 o2 2 fun l3=>
 Ah .i64 l3 fun x6 l5=>
 Ah .i64 l5 fun x9 l8=>
 AP l8 (
 Aa (fun c10 s11=>
 D8 [(0,1,c)] [V.nils] fun l13=>
 GW (allOne l13) (
 let s14:=Br s11 (.cells l13);
 AV (D 106 [.agg [.int .i64 x6,.int .i64 x9],.bool c10,.sl (H.next s11) 0 1 (.ex 1)] s14) fun u15 s16=>
 Ba u15 (
 R2 a b u15 (D6 .i64 d (AA 1)) s16))) fun k12=>
 AK b (
 k12 true Z) (
 A2 a fun n17=>
 k12 (C8 d (D6 .i64 (AA n17) (AA 1))) Z))) (
 K1 c Z)
def nS (a:V) (b:Bool) (c:V) (Z:H):St:=⟨[(0,a),(1,.bool b),(2,c)],[],[],Z⟩
def nQ (a:V) (Z:H):St:=⟨[(7,a)],[],[],Z⟩
def XZ (a:V) (b:Bool) (c:V) (d:Int) (Z:H):St:=⟨[(0,a),(1,.bool b),(7,c),(8,.int .i64 d)],[],[],Z⟩
theorem ABG (cc1:XC) (cc2:XC) (a:V) (b:Bool) (c:V) (Z:H) :
 AN E D W N (gY cc1 cc2) (nS a b c Z) (H8 E) nX (H8 E) =
 W6 E D W (fun a b d e Z=>Ad (fun rec s'=>AN E D W N cc2 s' (kX Zl [] [] rec) (jl E D W N cc1) (H8 E)) N (XZ a b d e Z)) a b c Z:=by kernel_rfl
theorem ABF (cc1:XC) (li2:St->AH) (a:V) (b:Bool) (c:V) (d:Int) (Z:H) :
 AN E D W N (RE ) (XZ a b c d Z) (kX Zl [] [] li2) (jl E D W N cc1) (H8 E) =
 MR E D W (fun c Z=>AN E D W N cc1 (nQ c Z) (H8 E) nX (H8 E)) (fun a b c d Z=>li2 (XZ a b c d Z)) a b c d Z:=by kernel_rfl
def pN (E:EB) (D:Ak) (W:AI) (N:Nat):=mj E D W
theorem uk (a:V) (Z:H) :
 AN E D W N PW (nQ a Z) (H8 E) nX (H8 E)=pN E D W N a Z:=by kernel_rfl
def oU (n:Nat):V->Bool->V->Int->H->AH:=
 Nat.rec (fun _ _ _ _ _=>none) (fun _ ih=>MR E D W (pN E D W N ) ih) n
theorem tq (n:Nat):∀(a:V) (b:Bool) (c:V) (d:Int) (Z:H),
 Ad (fun rec s'=>AN E D W N RE s' (kX Zl [] [] rec) (jl E D W N PW) (H8 E)) n (XZ a b c d Z)=oU E D W N n a b c d Z:=by
 induction n with
 | zero=>intro a b c d Z;rfl
 | succ n ihn=>
  intro a b c d Z
  rw[Aq]
  refine(ABF E D W N PW (Ad (fun rec s'=>AN E D W N RE s' (kX Zl [] [] rec) (jl E D W N PW) (H8 E)) n) a b c d Z).trans ?_
  simp only[ihn,uk]
  kernel_rfl
def pP:=W6 E D W (oU E D W N N)
theorem um (a:V) (b:Bool) (c:V) (Z:H) :
 AN E D W N (gY PW RE) (nS a b c Z) (H8 E) nX (H8 E)=pP E D W N a b c Z:=by
 refine(ABG E D W N PW RE  a b c Z).trans ?_
 simp only[tq]
 kernel_rfl
def xH (args:List V) (Z:H):AH:=
 AE args fun x1 l2=>
 DQ l2 fun x5 l4=>
 AE l4 fun x6 l7=>
 AP l7 (
 pP E D W N x1 x5 x6 Z)
def A71:DR:=⟨34,[.any,.bool,.any],[(.tmp 6)],(gY PW RE)⟩
theorem AG5 (args:List V) (Z:H):Bq E D W N A71 args Z=xH E D W N args Z:=by
 unfold xH
 simp only[<-um]
 kernel_rfl
def Py:List (Nat × C6):=[(0,.any),(4,.ptr),(5,.ptr),(7,.any),(13,.any),(14,.i),(15,.i)]
def Zk:List (Nat × C6):=[(4,.ptr),(7,.any),(37,.any),(38,.i),(39,.i)]
def ya:List (Nat × C6):=[(4,.ptr),(5,.ptr),(7,.any)]
def Q0:List BM:=[⟨(some 23),.mov (.tmp 7),none⟩,⟨(some 24),.mov (.tmp 0),none⟩,⟨(some 25),.faddr 9 (.tmp 4),none⟩,⟨(some 26),.load none (.tmp 25),none⟩,⟨(some 27),.mov (.tmp 8),none⟩,⟨(some 28),.iaddrS 11 (.tmp 26) (.tmp 27),none⟩,⟨(some 29),.faddr 1 (.tmp 28),none⟩,⟨(some 30),.load none (.tmp 29),none⟩,⟨(some 31),.load (some 6) (.tmp 9),none⟩,⟨(some 32),.call 42 [(.tmp 24),(.tmp 30),(.tmp 31)],none⟩,⟨(some 33),.buildSlice 29 1 [V.nils] [(0,1,(.tmp 32))],none⟩,⟨(some 34),.append 29 1 24 (.tmp 23) (.tmp 33),none⟩,⟨(some 7),.mov (.tmp 34),none⟩]
def UO:List DP:=[⟨0,[7]⟩,⟨0,[0]⟩,⟨0,[4]⟩,⟨4,[25]⟩,⟨0,[8]⟩,⟨28,[26,27]⟩,⟨60,[28]⟩,⟨124,[29]⟩,⟨0,[9]⟩,⟨510,[24,30,31]⟩,⟨1022,[32]⟩,⟨2047,[23,33]⟩,⟨4095,[34]⟩]
def DE (E:EB):St->AH:=fun s=>DF E s [(.tmp 6)] fun l=>some (Da l,s.Z)
def VE (c0:XC):Nat->St->AH:=BY 0 (dX E D W N (.keep ya [] [] c0) (DE E) nX (DE E)) nX
def jk (c0:XC):Nat->St->AH:=BY 2 (dX E D W N (.keep [(4,.ptr),(7,.any)] [] [] c0) (DE E) nX (DE E)) nX
def gX (cc1:XC) (cc2:XC):XC:=(.z (.P 4 (.box 97 (.t 1))<|
.P 5 (.box 34 (.t 2))<|
.c 6 V.nils<|
.nil)
 (.z (.c 7 V.nils<|
.nil)
 (.seq (.z (.f 12 3 5<|
.l 13 .any 12<|
.u 14 13<|
.q 15 0<|
.nil)
 (.block 0 (.loop Py [] [] cc2)))
 (.keep ya [] [] cc1))))
def T4 (E:EB) (D:Ak) (W:AI) (K2:V->Nat->Nat->Nat->Nat->V->V->Int->Int->H->AH) (a:V) (b:Int) (c:V) (d e f g:Bool) (h i:Int) (j k:V) (l:Int) (m:Bool) (o p q:Int) (r s:V) (t:Int) (u:V) (Z:H):AH:=
 Gn [.int .i64 b,c,.bool d,.bool e,.bool f,.bool g,.int .i64 h,.int .i64 i,j,k,.int .i64 l,.bool m,.int .i64 o] Z fun s1=>
 Gn [.int .i64 p,.int .i64 q,r,s,.int .i64 t,u] s1 fun s2=>
 Bc E s2 (H.next s1) 3 fun u3=>
 A2 u3 fun n4=>
 K2 a (H.next Z) 0 (H.next s1) 0 V.nils u3 (AA n4) (AA 0) s2
def Kp (cc4:XC) (cc5:XC):XC:=(.seq (.z (.f 36 5 5<|
.l 37 .any 36<|
.u 38 37<|
.q 39 0<|
.nil)
 (.block 2 (.loop Zk [] [] cc5)))
 (.keep [(4,.ptr),(7,.any)] [] [] cc4))
def W5 (E:EB) (D:Ak) (W:AI) (K5:Nat->Nat->V->V->Int->Int->H->AH) (a b c d:Nat) (e:V) (Z:H):AH:=
 Bc E Z c (Ap d 5) fun u1=>
 A2 u1 fun n2=>
 K5 a b e u1 (AA n2) (AA 0) Z
def RD (cc3:XC):XC:=(.z (.b 16 .lss .none (.t 15) (.t 14)<|
.nil)
 (.seq y31
 (.seq (.block 1 (.z (.m 17 15<|
.s 18 6 13 15<|
.O 19 y1 (.load (some 6) (.t 18))<|
.p 9 [] ZJ<|
.m 8 17<|
.op none y1 [9,19] (.store 6 (.t 9) (.t 19))<|
.nil)
 (.z (.O 20 y1 (.load (some 6) (.t 9))<|
.k 21 .bool 107 [(.t 20)]<|
.P 22 (.un .not (.t 21))<|
.nil)
 (.cond (.tmp 22) (.keep [(0,.any),(4,.ptr),(5,.ptr),(7,.any),(8,.i),(9,.ptr),(13,.any),(14,.i),(15,.i)] [] [] (.gdraw Q0 UO Py))
 .skip))))
 (.keep Py [] [] cc3))))
def PD (K1:Nat->Nat->Nat->Nat->V->H->AH) (K3:V->Nat->Nat->Nat->Nat->V->V->Int->Int->H->AH) (a:V) (b c d e:Nat) (f g:V) (h i:Int) (Z:H):AH:=
 AK (C8 i h) (
 AU 6 g i fun b1 o2=>
 BH E Z b1 o2 6 fun l3=>
 Ah .i64 l3 fun x6 l5=>
 Ah .i64 l5 fun x9 l8=>
 AE l8 fun x10 l11=>
 AE l11 fun x12 l13=>
 Ah .i64 l13 fun x16 l15=>
 AE l15 fun x17 l18=>
 AP l18 (
 let s19:=Br Z (.cells [.int .i64 (AA 0),.int .i64 (AA 0),V.nils,V.nils,.int .i64 (AA 0),V.nils]);
 FW 6 (H.next Z) 0 (V.agg [.int .i64 x6,.int .i64 x9,x10,x12,.int .i64 x16,x17]) s19 fun s20=>
 BH E s20 (H.next Z) 0 6 fun l21=>
 Ah .i64 l21 fun x24 l23=>
 Ah .i64 l23 fun x27 l26=>
 AE l26 fun x28 l29=>
 AE l29 fun x30 l31=>
 Ah .i64 l31 fun x34 l33=>
 AE l33 fun x35 l36=>
 AP l36 (
 AV (D 107 [.agg [.int .i64 x24,.int .i64 x27,x28,x30,.int .i64 x34,x35]] s20) fun u37 s38=>
 AZ u37 fun x39=>
 AK (not x39) (
 Ci (W Q0 UO [(0,a),(4,.ptr b c),(5,.ptr d e),(7,f),(8,.int .i64 i),(9,.ptr (H.next Z) 0),(13,g),(14,.int .i64 h),(15,.int .i64 i)] s38) fun e40 s41=>
 BR e40 0 fun u42=>
 BR e40 4 fun u43=>
 B8 u43 fun b44 o45=>
 BR e40 5 fun u46=>
 B8 u46 fun b47 o48=>
 BR e40 7 fun u49=>
 BR e40 13 fun u50=>
 BR e40 14 fun u51=>
 Am .i64 u51 fun x52=>
 BR e40 15 fun u53=>
 Am .i64 u53 fun x54=>
 K3 u42 b44 o45 b47 o48 u49 u50 x52 x54 s41) (
 K3 a b c d e f g h i s38)))) (
 K1 b c d e f Z)
def Nt:XC:=(.ops (.b 35 .add .none (.t 15) (.i 1)<|
.m 15 35<|
.nil))
def T3 (E:EB) (D:Ak) (W:AI) (R2:V->Nat->Nat->Nat->Nat->V->V->Int->Int->H->AH) (a:V) (b c d e:Nat) (f g:V) (h i:Int) (Z:H):AH:=
 R2 a b c d e f g h (CR .i64 i (AA 1)) Z
def Hk (cc6:XC):XC:=(.seq (.z (.f 49 0 4<|
.l 50 .i 49<|
.b 51 .eql .none (.t 50) (.i 8)<|
.nil)
 (.cond (.tmp 51) (.ops (.m 52 7<|
.k 53 (.tup []) 108 [(.t 52),(.con (V.fn 109 [] []))]<|
.nil))
 .skip))
 (.keep [(7,.any)] [] [] cc6))
def W4 (E:EB) (D:Ak) (W:AI) (K6:V->H->AH) (a b:Nat) (c:V) (Z:H):AH:=
 Bc E Z a b fun u1=>
 Am .i64 u1 fun x2=>
 AK (B4 x2 (AA 8)) (
 AV (D 108 [c,.fn 109 [] []] Z) fun u3 s4=>
 DH u3 fun l5=>
 AP l5 (
 K6 c s4)) (
 K6 c Z)
def Iv:XC:=(.z (.b 40 .lss .none (.t 39) (.t 38)<|
.nil)
 (.seq (.cond (.tmp 40) .skip
 (.exit 2))
 (.seq (.block 3 (.z (.s 41 2 37 39<|
.O 42 Ue (.load (some 2) (.t 41))<|
.pal 11 [] 47 [y0,V.nils]<|
.op none Ue [11,42] (.store 2 (.t 11) (.t 42))<|
.nil)
 (.ops (.m 43 7<|
.f 44 1 11<|
.l 45 .any 44<|
.p 46 [45] (.buildSlice 29 1 [V.nils] [(0,1,(.t 45))])<|
.O 47 .one (.append 29 1 24 (.t 43) (.t 46))<|
.m 7 47<|
.nil))))
 (.ops (.b 48 .add .none (.t 39) (.i 1)<|
.m 39 48<|
.nil)))))
def QW (E:EB) (D:Ak) (W:AI) (K4:Nat->Nat->V->H->AH) (R5:Nat->Nat->V->V->Int->Int->H->AH) (a b:Nat) (c d:V) (e f:Int) (Z:H):AH:=
 AK (C8 f e) (
 AU 2 d f fun b1 o2=>
 BH E Z b1 o2 2 fun l3=>
 Ah .i64 l3 fun x6 l5=>
 AE l5 fun x7 l8=>
 AP l8 (
 GW (allOne [.int .i64 x6,x7]) (
 D8 [(0,1,x7)] [V.nils] fun l9=>
 GW (allOne l9) (
 let s10:=Br Z (.cells l9);
 DD E 1 24 c (V.sl (H.next Z) 0 1 (.ex 1)) s10 fun u11 s12=>
 Ba u11 (
 R5 a b u11 d e (CR .i64 f (AA 1)) s12))))) (
 K4 a b c Z)
def G1:XC:=(.z (.m 54 7<|
.m 6 54<|
.nil)
 .ret)
def cD (E:EB) (D:Ak) (W:AI) (a:V) (Z:H):AH:=
 some (a,Z)
def nP (a:V) (b:Int) (c:V) (d e f g:Bool) (h i:Int) (j k:V) (l:Int) (m:Bool) (o p q:Int) (r s:V) (t:Int) (u:V) (Z:H):St:=⟨[(0,a),(1,.agg [.int .i64 b,c,.bool d,.bool e,.bool f,.bool g,.int .i64 h,.int .i64 i,j,k,.int .i64 l,.bool m,.int .i64 o]),(2,.agg [.int .i64 p,.int .i64 q,r,s,.int .i64 t,u])],[],[],Z⟩
def dS (a b c d:Nat) (e:V) (Z:H):St:=⟨[(4,.ptr a b),(5,.ptr c d),(7,e)],[],[],Z⟩
def No (a:V) (b c d e:Nat) (f g:V) (h i:Int) (Z:H):St:=⟨[(0,a),(4,.ptr b c),(5,.ptr d e),(7,f),(13,g),(14,.int .i64 h),(15,.int .i64 i)],[],[],Z⟩
def dR (a b:Nat) (c:V) (Z:H):St:=⟨[(4,.ptr a b),(7,c)],[],[],Z⟩
def XY (a b:Nat) (c d:V) (e f:Int) (Z:H):St:=⟨[(4,.ptr a b),(7,c),(37,d),(38,.int .i64 e),(39,.int .i64 f)],[],[],Z⟩
def nO (a:V) (Z:H):St:=⟨[(7,a)],[],[],Z⟩
theorem ABE (cc1:XC) (cc2:XC) (a:V) (b:Int) (c:V) (d e f g:Bool) (h i:Int) (j k:V) (l:Int) (m:Bool) (o p q:Int) (r s:V) (t:Int) (u:V) (Z:H) :
 AN E D W N (gX cc1 cc2) (nP a b c d e f g h i j k l m o p q r s t u Z) (DE E) nX (DE E) =
 T4 E D W (fun a v w x y z B I M Z=>Ad (fun rec s'=>AN E D W N cc2 s' (kX Py [] [] rec) (VE E D W N cc1) (DE E)) N (No a v w x y z B I M Z)) a b c d e f g h i j k l m o p q r s t u Z:=by kernel_rfl
theorem ABD (cc4:XC) (cc5:XC) (a b c d:Nat) (e:V) (Z:H) :
 AN E D W N (Kp cc4 cc5) (dS a b c d e Z) (DE E) nX (DE E) =
 W5 E D W (fun a b e f g h Z=>Ad (fun rec s'=>AN E D W N cc5 s' (kX Zk [] [] rec) (jk E D W N cc4) (DE E)) N (XY a b e f g h Z)) a b c d e Z:=by kernel_rfl
theorem ABC (cc1:XC) (cc3:XC) (li2:St->AH) (a:V) (b c d e:Nat) (f g:V) (h i:Int) (Z:H) :
 AN E D W N (RD cc3) (No a b c d e f g h i Z) (kX Py [] [] li2) (VE E D W N cc1) (DE E) =
 PD E D W (fun b c d e f Z=>AN E D W N cc1 (dS b c d e f Z) (DE E) nX (DE E)) (fun a b c d e f g h i Z=>AN E D W N cc3 (No a b c d e f g h i Z) (kX Py [] [] li2) (VE E D W N cc1) (DE E)) a b c d e f g h i Z:=by kernel_rfl
theorem ABB (cc1:XC) (li2:St->AH) (a:V) (b c d e:Nat) (f g:V) (h i:Int) (Z:H) :
 AN E D W N (Nt ) (No a b c d e f g h i Z) (kX Py [] [] li2) (VE E D W N cc1) (DE E) =
 T3 E D W (fun a b c d e f g h i Z=>li2 (No a b c d e f g h i Z)) a b c d e f g h i Z:=by kernel_rfl
theorem ABA (cc6:XC) (a b:Nat) (c:V) (Z:H) :
 AN E D W N (Hk cc6) (dR a b c Z) (DE E) nX (DE E) =
 W4 E D W (fun c Z=>AN E D W N cc6 (nO c Z) (DE E) nX (DE E)) a b c Z:=by kernel_rfl
theorem AA9 (cc4:XC) (li5:St->AH) (a b:Nat) (c d:V) (e f:Int) (Z:H) :
 AN E D W N (Iv ) (XY a b c d e f Z) (kX Zk [] [] li5) (jk E D W N cc4) (DE E) =
 QW E D W (fun a b c Z=>AN E D W N cc4 (dR a b c Z) (DE E) nX (DE E)) (fun a b c d e f Z=>li5 (XY a b c d e f Z)) a b c d e f Z:=by kernel_rfl
def pJ (E:EB) (D:Ak) (W:AI) (N:Nat):=cD E D W
theorem uf (a:V) (Z:H) :
 AN E D W N G1 (nO a Z) (DE E) nX (DE E)=pJ E D W N a Z:=by kernel_rfl
def pK:=W4 E D W (pJ E D W N )
theorem ug (a b:Nat) (c:V) (Z:H) :
 AN E D W N (Hk G1) (dR a b c Z) (DE E) nX (DE E)=pK E D W N a b c Z:=by
 refine(ABA E D W N G1  a b c Z).trans ?_
 simp only[uf]
 kernel_rfl
def eS (n:Nat):Nat->Nat->V->V->Int->Int->H->AH:=
 Nat.rec (fun _ _ _ _ _ _ _=>none) (fun _ ih=>QW E D W (pK E D W N ) ih) n
theorem tn (n:Nat):∀(a b:Nat) (c d:V) (e f:Int) (Z:H),
 Ad (fun rec s'=>AN E D W N Iv s' (kX Zk [] [] rec) (jk E D W N (Hk G1)) (DE E)) n (XY a b c d e f Z)=eS E D W N n a b c d e f Z:=by
 induction n with
 | zero=>intro a b c d e f Z;rfl
 | succ n ihn=>
  intro a b c d e f Z
  rw[Aq]
  refine(AA9 E D W N (Hk G1) (Ad (fun rec s'=>AN E D W N Iv s' (kX Zk [] [] rec) (jk E D W N (Hk G1)) (DE E)) n) a b c d e f Z).trans ?_
  simp only[ihn,ug]
  kernel_rfl
def Xu:=W5 E D W (eS E D W N N)
theorem ui (a b c d:Nat) (e:V) (Z:H) :
 AN E D W N (Kp (Hk G1) Iv) (dS a b c d e Z) (DE E) nX (DE E)=Xu E D W N a b c d e Z:=by
 refine(ABD E D W N (Hk G1) Iv  a b c d e Z).trans ?_
 simp only[tn]
 kernel_rfl
def pL (E:EB) (D:Ak) (W:AI) (N:Nat) (R2:V->Nat->Nat->Nat->Nat->V->V->Int->Int->H->AH):=T3 E D W R2
theorem uh (li2:St->AH) (a:V) (b c d e:Nat) (f g:V) (h i:Int) (Z:H) :
 AN E D W N Nt (No a b c d e f g h i Z) (kX Py [] [] li2) (VE E D W N (Kp (Hk G1) Iv)) (DE E)=pL E D W N (fun a b c d e f g h i Z=>li2 (No a b c d e f g h i Z)) a b c d e f g h i Z:=by
 refine(ABB E D W N (Kp (Hk G1) Iv) li2 a b c d e f g h i Z).trans ?_
 kernel_rfl
def UL (n:Nat):V->Nat->Nat->Nat->Nat->V->V->Int->Int->H->AH:=
 Nat.rec (fun _ _ _ _ _ _ _ _ _ _=>none) (fun _ ih=>PD E D W (Xu E D W N ) (pL E D W N ih)) n
theorem tp (n:Nat):∀(a:V) (b c d e:Nat) (f g:V) (h i:Int) (Z:H),
 Ad (fun rec s'=>AN E D W N (RD Nt) s' (kX Py [] [] rec) (VE E D W N (Kp (Hk G1) Iv)) (DE E)) n (No a b c d e f g h i Z)=UL E D W N n a b c d e f g h i Z:=by
 induction n with
 | zero=>intro a b c d e f g h i Z;rfl
 | succ n ihn=>
  intro a b c d e f g h i Z
  rw[Aq]
  refine(ABC E D W N (Kp (Hk G1) Iv) Nt (Ad (fun rec s'=>AN E D W N (RD Nt) s' (kX Py [] [] rec) (VE E D W N (Kp (Hk G1) Iv)) (DE E)) n) a b c d e f g h i Z).trans ?_
  simp only[ihn,ui,uh]
  kernel_rfl
def pM:=T4 E D W (UL E D W N N)
theorem uj (a:V) (b:Int) (c:V) (d e f g:Bool) (h i:Int) (j k:V) (l:Int) (m:Bool) (o p q:Int) (r s:V) (t:Int) (u:V) (Z:H) :
 AN E D W N (gX (Kp (Hk G1) Iv) (RD Nt)) (nP a b c d e f g h i j k l m o p q r s t u Z) (DE E) nX (DE E)=pM E D W N a b c d e f g h i j k l m o p q r s t u Z:=by
 refine(ABE E D W N (Kp (Hk G1) Iv) (RD Nt)  a b c d e f g h i j k l m o p q r s t u Z).trans ?_
 simp only[tp]
 kernel_rfl
def xG (args:List V) (Z:H):AH:=
 AE args fun x1 l2=>
 AE l2 fun x3 l4=>
 Bm x3 fun l5=>
 Ah .i64 l5 fun x8 l7=>
 AE l7 fun x9 l10=>
 DQ l10 fun x13 l12=>
 DQ l12 fun x16 l15=>
 DQ l15 fun x19 l18=>
 DQ l18 fun x22 l21=>
 Ah .i64 l21 fun x25 l24=>
 Ah .i64 l24 fun x28 l27=>
 AE l27 fun x29 l30=>
 AE l30 fun x31 l32=>
 Ah .i64 l32 fun x35 l34=>
 DQ l34 fun x38 l37=>
 Ah .i64 l37 fun x41 l40=>
 AP l40 (
 AE l4 fun x42 l43=>
 Bm x42 fun l44=>
 Ah .i64 l44 fun x47 l46=>
 Ah .i64 l46 fun x50 l49=>
 AE l49 fun x51 l52=>
 AE l52 fun x53 l54=>
 Ah .i64 l54 fun x57 l56=>
 AE l56 fun x58 l59=>
 AP l59 (
 AP l43 (
 pM E D W N x1 x8 x9 x13 x16 x19 x22 x25 x28 x29 x31 x35 x38 x41 x47 x50 x51 x53 x57 x58 Z)))
def A72:DR:=⟨55,[.any,y2,y1],[(.tmp 6)],(gX (Kp (Hk G1) Iv) (RD Nt))⟩
theorem AG4 (args:List V) (Z:H):Bq E D W N A72 args Z=xG E D W N args Z:=by
 unfold xG
 simp only[<-uj]
 kernel_rfl
def ADo:XC:=(.z (.c 4 y5<|
.nil)
 (.seq (.z (.m 5 1<|
.b 6 .lss .none (.t 5) (.i 0)<|
.m 7 6<|
.gO 7 false (.p 8 [1,7] Jd<|
.p 9 [0,7] y9<|
.p 10 [9,7] (.len true (.t 9))<|
.p 11 [8,10,7] (.bin .geq .none (.t 8) (.t 10))<|
.nil) 12 7 11<|
.nil)
 (.cond (.tmp 12) (.z (.c 4 y5<|
.nil)
 .ret)
 .skip))
 (.z (.m 13 0<|
.m 14 1<|
.P 15 (.idxStr (.t 13) (.t 14))<|
.m 4 15<|
.nil)
 .ret)))
def zm (E:EB) (D:Ak) (W:AI) (a:BS) (b:Int) (Z:H):AH:=
 Aa (fun c1 s2=>
 AK c1 (
 some ((V.int .u8 (AA 0)),s2)) (
 C9 a b fun x4=>
 some ((V.int .u8 x4),s2))) fun k3=>
 AK (C8 b (AA 0)) (
 k3 true Z) (
 k3 (Hp (AA (BS.len a)) b) Z)
def F73 (N:Nat) (args:List V) (Z:H):AH:=
 IZ args fun x3 l2=>
 Ah .i64 l2 fun x6 l5=>
 AP l5 (
 zm E D W x3 x6 Z)
def A73:DR:=⟨16,[.str,.i],[(.tmp 4)],ADo⟩
theorem AG3 (args:List V) (Z:H):Bq E D W N A73 args Z=F73 E D W N args Z:=by kernel_rfl
def ADn:XC:=(.z (.c 2 y3<|
.nil)
 (.z (.m 3 0<|
.b 4 .geq .none (.t 3) (.con (V.int .u8 (AA 97)))<|
.m 5 4<|
.gA 5 true (.p 6 [0,5] y9<|
.p 7 [6,5] (.bin .leq .none (.t 6) (.con (V.int .u8 (AA 122))))<|
.nil) 8 5 7<|
.m 9 8<|
.gO 9 false (.p 10 [0,9] y9<|
.p 11 [10,9] (.bin .geq .none (.t 10) (.con (V.int .u8 (AA 65))))<|
.p 12 [11,9] (.mov (.t 11))<|
.grp 12 true (.p 13 [0,12] y9<|
.p 14 [13,12] (.bin .leq .none (.t 13) (.con (V.int .u8 (AA 90))))<|
.nil) 15 [12,14,9] (.t 12) (.t 14) Ln<|
.nil) 16 9 15<|
.m 2 16<|
.nil)
 .ret))
def zl (E:EB) (D:Ak) (W:AI) (a:Int) (Z:H):AH:=
 Aa (fun c1 s2=>
 Aa (fun c4 s5=>
 some ((V.bool c4),s5)) fun k6=>
 AK c1 (
 k6 true s2) (
 Aa (fun c7 s8=>
 k6 c7 s8) fun k9=>
 AK (Hp (AA 65) a) (
 k9 (Hp a (AA 90)) s2) (
 k9 false s2))) fun k3=>
 AK (Hp (AA 97) a) (
 k3 (Hp a (AA 122)) Z) (
 k3 false Z)
def F74 (N:Nat) (args:List V) (Z:H):AH:=
 Ah .u8 args fun x3 l2=>
 AP l2 (
 zl E D W x3 Z)
def A74:DR:=⟨17,[(.int .u8)],[(.tmp 2)],ADn⟩
theorem AG2 (args:List V) (Z:H):Bq E D W N A74 args Z=F74 E D W N args Z:=by kernel_rfl
def Um:List (Nat × C6):=[(0,.str),(1,.i),(5,.i)]
def H7 (E:EB):St->AH:=fun s=>DF E s [(.tmp 4)] fun l=>some (Da l,s.Z)
def jj (c0:XC):Nat->St->AH:=BY 0 (dX E D W N (.keep Um [] [] c0) (H7 E) nX (H7 E)) nX
def gW (cc1:XC) (cc2:XC):XC:=(.z (.q 4 0<|
.nil)
 (.z (.m 6 1<|
.m 5 6<|
.nil)
 (.seq (.block 0 (.loop Um [] [] cc2))
 (.keep Um [] [] cc1))))
def mi (E:EB) (D:Ak) (W:AI) (K2:BS->Int->Int->H->AH) (a:BS) (b:Int) (Z:H):AH:=
 K2 a b b Z
def PV:XC:=(.seq (.z (.m 38 0<|
.m 39 1<|
.b 40 .sub .none (.t 39) (.i 1)<|
.P 41 (.idxStr (.t 38) (.t 40))<|
.b 42 .eql .none (.t 41) V5<|
.m 43 42<|
.gO 43 false (.p 44 [1,43] Jd<|
.p 45 [5,43] (.mov (.t 5))<|
.p 46 [44,45,43] (.bin .sub .none (.t 44) (.t 45))<|
.p 47 [46,43] (.bin .gtr .none (.t 46) (.i 60))<|
.nil) 48 43 47<|
.nil)
 (.cond (.tmp 48) (.z (.c 4 ZI<|
.nil)
 .ret)
 .skip))
 (.z (.m 49 1<|
.m 4 49<|
.nil)
 .ret))
def zk (E:EB) (D:Ak) (W:AI) (a:BS) (b c:Int) (Z:H):AH:=
 C9 a (D6 .i64 b (AA 1)) fun x1=>
 Aa (fun c2 s3=>
 AK c2 (
 some ((V.int .i64 (BQ 0)),s3)) (
 some ((V.int .i64 b),s3))) fun k4=>
 AK (B4 x1 (AA 45)) (
 k4 true Z) (
 k4 (C8 (AA 60) (D6 .i64 b c)) Z)
def RC:XC:=(.seq (.z (.m 7 1<|
.m 8 0<|
.P 9 (.len true (.t 8))<|
.b 10 .lss .none (.t 7) (.t 9)<|
.m 11 10<|
.gA 11 true (.p 12 [0,11] y9<|
.p 13 [1,11] Jd<|
.p 14 [12,13,11] (.idxStr (.t 12) (.t 13))<|
.op (some 15) .bool [14,11] (.call 74 [(.t 14)])<|
.p 16 [15,11] (.mov (.t 15))<|
.grp 16 false (.p 17 [0,16] y9<|
.p 18 [1,16] Jd<|
.p 19 [17,18,16] (.idxStr (.t 17) (.t 18))<|
.op (some 20) .bool [19,16] (.call 77 [(.t 19)])<|
.nil) 21 [16,20,11] (.t 16) Pw (.t 20)<|
.p 22 [21,11] (.mov (.t 21))<|
.grp 22 false (.p 23 [0,22] y9<|
.p 24 [1,22] Jd<|
.p 25 [23,24,22] (.idxStr (.t 23) (.t 24))<|
.p 26 [25,22] (.bin .eql .none (.t 25) V5)<|
.p 27 [26,22] (.mov (.t 26))<|
.grp 27 true (.p 28 [0,27] y9<|
.p 29 [1,27] Jd<|
.p 30 [29,27] (.bin .add .none (.t 29) (.i 1))<|
.op (some 31) (.int .u8) [28,30,27] (.call 73 [(.t 28),(.t 30)])<|
.p 32 [31,27] (.bin .neq .none (.t 31) V5)<|
.nil) 33 [27,32,22] (.t 27) (.t 32) Ln<|
.nil) 34 [22,33,11] (.t 22) Pw (.t 33)<|
.nil) 35 11 34<|
.nil)
 (.cond (.tmp 35) .skip
 Me))
 (.block 1 (.ops (.m 36 1<|
.b 37 .add .none (.t 36) (.i 1)<|
.m 1 37<|
.nil))))
def mh (E:EB) (D:Ak) (W:AI) (K1:BS->Int->Int->H->AH) (R2:BS->Int->Int->H->AH) (a:BS) (b c:Int) (Z:H):AH:=
 Aa (fun c1 s2=>
 AK c1 (
 R2 a (CR .i64 b (AA 1)) c s2) (
 K1 a b c s2)) fun k3=>
 AK (C8 b (AA (BS.len a))) (
 C9 a b fun x4=>
 AV (D 74 [.int .u8 x4] Z) fun u5 s6=>
 AZ u5 fun x7=>
 Aa (fun c8 s9=>
 Aa (fun c11 s12=>
 k3 c11 s12) fun k13=>
 AK c8 (
 k13 true s9) (
 C9 a b fun x14=>
 Aa (fun c15 s16=>
 k13 c15 s16) fun k17=>
 AK (B4 x14 (AA 45)) (
 AV (D 73 [.str a,.int .i64 (CR .i64 b (AA 1))] s9) fun u18 s19=>
 Am .u8 u18 fun x20=>
 k17 (not (B4 x20 (AA 45))) s19) (
 k17 false s9))) fun k10=>
 AK x7 (
 k10 true s6) (
 C9 a b fun x21=>
 AV (D 77 [.int .u8 x21] s6) fun u22 s23=>
 AZ u22 fun x24=>
 k10 x24 s23)) (
 k3 false Z)
def nN (a:BS) (b:Int) (Z:H):St:=⟨[(0,.str a),(1,.int .i64 b)],[],[],Z⟩
def Qr (a:BS) (b c:Int) (Z:H):St:=⟨[(0,.str a),(1,.int .i64 b),(5,.int .i64 c)],[],[],Z⟩
theorem AA8 (cc1:XC) (cc2:XC) (a:BS) (b:Int) (Z:H) :
 AN E D W N (gW cc1 cc2) (nN a b Z) (H7 E) nX (H7 E) =
 mi E D W (fun a b c Z=>Ad (fun rec s'=>AN E D W N cc2 s' (kX Um [] [] rec) (jj E D W N cc1) (H7 E)) N (Qr a b c Z)) a b Z:=by kernel_rfl
theorem AA7 (cc1:XC) (li2:St->AH) (a:BS) (b c:Int) (Z:H) :
 AN E D W N (RC ) (Qr a b c Z) (kX Um [] [] li2) (jj E D W N cc1) (H7 E) =
 mh E D W (fun a b c Z=>AN E D W N cc1 (Qr a b c Z) (H7 E) nX (H7 E)) (fun a b c Z=>li2 (Qr a b c Z)) a b c Z:=by kernel_rfl
def pH (E:EB) (D:Ak) (W:AI) (N:Nat):=zk E D W
theorem ud (a:BS) (b c:Int) (Z:H) :
 AN E D W N PV (Qr a b c Z) (H7 E) nX (H7 E)=pH E D W N a b c Z:=by kernel_rfl
def oS (n:Nat):BS->Int->Int->H->AH:=
 Nat.rec (fun _ _ _ _=>none) (fun _ ih=>mh E D W (pH E D W N ) ih) n
theorem tk (n:Nat):∀(a:BS) (b c:Int) (Z:H),
 Ad (fun rec s'=>AN E D W N RC s' (kX Um [] [] rec) (jj E D W N PV) (H7 E)) n (Qr a b c Z)=oS E D W N n a b c Z:=by
 induction n with
 | zero=>intro a b c Z;rfl
 | succ n ihn=>
  intro a b c Z
  rw[Aq]
  refine(AA7 E D W N PV (Ad (fun rec s'=>AN E D W N RC s' (kX Um [] [] rec) (jj E D W N PV) (H7 E)) n) a b c Z).trans ?_
  simp only[ihn,ud]
  kernel_rfl
def pI:=mi E D W (oS E D W N N)
theorem ue (a:BS) (b:Int) (Z:H) :
 AN E D W N (gW PV RC) (nN a b Z) (H7 E) nX (H7 E)=pI E D W N a b Z:=by
 refine(AA8 E D W N PV RC  a b Z).trans ?_
 simp only[tk]
 kernel_rfl
def F75 (args:List V) (Z:H):AH:=
 IZ args fun x3 l2=>
 Ah .i64 l2 fun x6 l5=>
 AP l5 (
 pI E D W N x3 x6 Z)
def A75:DR:=⟨50,[.str,.i],[(.tmp 4)],(gW PV RC)⟩
theorem AG1 (args:List V) (Z:H):Bq E D W N A75 args Z=F75 E D W N args Z:=by
 unfold F75
 simp only[<-ue]
 kernel_rfl
def ADm:XC:=(.z (.c 2 y3<|
.nil)
 (.z (.k 3 .one 110 []<|
.m 4 0<|
.k 5 .bool 49 [(.t 3),(.t 4)]<|
.m 2 5<|
.nil)
 .ret))
def zj (E:EB) (D:Ak) (W:AI) (a:BS) (Z:H):AH:=
 AV (D 110 [] Z) fun u1 s2=>
 Ba u1 (
 AV (D 49 [u1,.str a] s2) fun u3 s4=>
 AZ u3 fun x5=>
 some ((V.bool x5),s4))
def F76 (N:Nat) (args:List V) (Z:H):AH:=
 IZ args fun x3 l2=>
 AP l2 (
 zj E D W x3 Z)
def A76:DR:=⟨6,[.str],[(.tmp 2)],ADm⟩
theorem AG0 (args:List V) (Z:H):Bq E D W N A76 args Z=F76 E D W N args Z:=by kernel_rfl
def ADl:XC:=(.z (.c 2 y3<|
.nil)
 (.z (.m 3 0<|
.b 4 .geq .none (.t 3) qW<|
.m 5 4<|
.gA 5 true (.p 6 [0,5] y9<|
.p 7 [6,5] (.bin .leq .none (.t 6) (.con (V.int .u8 (AA 57))))<|
.nil) 8 5 7<|
.m 2 8<|
.nil)
 .ret))
def zi (E:EB) (D:Ak) (W:AI) (a:Int) (Z:H):AH:=
 Aa (fun c1 s2=>
 some ((V.bool c1),s2)) fun k3=>
 AK (Hp (AA 48) a) (
 k3 (Hp a (AA 57)) Z) (
 k3 false Z)
def F77 (N:Nat) (args:List V) (Z:H):AH:=
 Ah .u8 args fun x3 l2=>
 AP l2 (
 zi E D W x3 Z)
def A77:DR:=⟨9,[(.int .u8)],[(.tmp 2)],ADl⟩
theorem AGz (args:List V) (Z:H):Bq E D W N A77 args Z=F77 E D W N args Z:=by kernel_rfl
def Ly:List (Nat × C6):=[(0,.str),(1,.i),(5,.bool),(6,.i),(7,(.int .u64))]
def Eb (E:EB):St->AH:=fun s=>DF E s [(.tmp 4)] fun l=>some (Da l,s.Z)
def VD (c0:XC):Nat->St->AH:=BY 0 (dX E D W N (.keep Ly [] [] c0) (Eb E) nX (Eb E)) nX
def gV (cc1:XC):XC:=(.z (.q 4 0<|
.nil)
 (.z (.m 9 0<|
.m 10 1<|
.P 11 (.idxStr (.t 9) (.t 10))<|
.b 12 .eql .none (.t 11) V5<|
.m 5 12<|
.nil)
 (.seq (.z (.m 13 5<|
.nil)
 (.cond (.tmp 13) (.ops (.m 14 1<|
.b 15 .add .none (.t 14) (.i 1)<|
.m 1 15<|
.nil))
 .skip))
 (.keep [(0,.str),(1,.i),(5,.bool)] [] [] cc1))))
def mg (E:EB) (D:Ak) (W:AI) (K1:BS->Int->Bool->H->AH) (a:BS) (b:Int) (Z:H):AH:=
 C9 a b fun x1=>
 AK (B4 x1 (AA 45)) (
 K1 a (CR .i64 b (AA 1)) (B4 x1 (AA 45)) Z) (
 K1 a b (B4 x1 (AA 45)) Z)
def UY (cc2:XC) (cc3:XC):XC:=(.z (.m 16 1<|
.m 6 16<|
.nil)
 (.z (.c 7 Uf<|
.nil)
 (.seq (.block 0 (.loop Ly [] [] cc3))
 (.keep Ly [] [] cc2))))
def mf (E:EB) (D:Ak) (W:AI) (K3:BS->Int->Bool->Int->Int->H->AH) (a:BS) (b:Int) (c:Bool) (Z:H):AH:=
 K3 a b c b (AA 0) Z
def KB:XC:=(.z (.m 41 1<|
.m 42 6<|
.b 43 .sub .none (.t 41) (.t 42)<|
.m 8 43<|
.nil)
 (.seq (.z (.m 44 8<|
.b 45 .lss .none (.t 44) (.i 1)<|
.m 46 45<|
.gO 46 false (.p 47 [8,46] (.mov (.t 8))<|
.p 48 [47,46] (.bin .gtr .none (.t 47) (.i 19))<|
.nil) 49 46 48<|
.m 50 49<|
.gO 50 false (.p 51 [8,50] (.mov (.t 8))<|
.p 52 [51,50] (.bin .gtr .none (.t 51) (.i 1))<|
.p 53 [52,50] (.mov (.t 52))<|
.grp 53 true (.p 54 [0,53] y9<|
.p 55 [6,53] (.mov (.t 6))<|
.p 56 [54,55,53] (.idxStr (.t 54) (.t 55))<|
.p 57 [56,53] (.bin .eql .none (.t 56) qW)<|
.nil) 58 [53,57,50] (.t 53) (.t 57) Ln<|
.nil) 59 50 58<|
.m 60 59<|
.gO 60 false (.p 61 [5,60] (.mov (.t 5))<|
.p 62 [61,60] (.mov (.t 61))<|
.grp 62 true (.p 63 [0,62] y9<|
.p 64 [6,62] (.mov (.t 6))<|
.p 65 [63,64,62] (.idxStr (.t 63) (.t 64))<|
.p 66 [65,62] (.bin .eql .none (.t 65) qW)<|
.nil) 67 [62,66,60] (.t 62) (.t 66) Ln<|
.nil) 68 60 67<|
.m 69 68<|
.gO 69 false (.p 70 [0,69] y9<|
.p 71 [1,69] Jd<|
.op (some 72) (.int .u8) [70,71,69] (.call 73 [(.t 70),(.t 71)])<|
.op (some 73) .bool [72,69] (.call 74 [(.t 72)])<|
.nil) 74 69 73<|
.m 75 74<|
.gO 75 false (.p 76 [7,75] (.mov (.t 7))<|
.p 77 [76,75] (.bin .gtr .none (.t 76) (.con (V.int .u64 (AA 9223372036854775808))))<|
.nil) 78 75 77<|
.m 79 78<|
.gO 79 false (.p 80 [5,79] (.mov (.t 5))<|
.p 81 [80,79] (.un .not (.t 80))<|
.p 82 [81,79] (.mov (.t 81))<|
.grp 82 true (.p 83 [7,82] (.mov (.t 7))<|
.p 84 [83,82] (.bin .eql .none (.t 83) (.con (V.int .u64 (AA 9223372036854775808))))<|
.nil) 85 [82,84,79] (.t 82) (.t 84) Ln<|
.nil) 86 79 85<|
.nil)
 (.cond (.tmp 86) (.z (.c 4 ZI<|
.nil)
 .ret)
 .skip))
 (.z (.m 87 1<|
.m 4 87<|
.nil)
 .ret)))
def zh (E:EB) (D:Ak) (W:AI) (a:BS) (b:Int) (c:Bool) (d e:Int) (Z:H):AH:=
 Aa (fun c1 s2=>
 Aa (fun c4 s5=>
 Aa (fun c7 s8=>
 Aa (fun c10 s11=>
 Aa (fun c13 s14=>
 Aa (fun c16 s17=>
 AK c16 (
 some ((V.int .i64 (BQ 0)),s17)) (
 some ((V.int .i64 b),s17))) fun k18=>
 AK c13 (
 k18 true s14) (
 Aa (fun c19 s20=>
 k18 c19 s20) fun k21=>
 AK (not c) (
 k21 (B4 e (AA 9223372036854775808)) s14) (
 k21 false s14))) fun k15=>
 AK c10 (
 k15 true s11) (
 k15 (C8 (AA 9223372036854775808) e) s11)) fun k12=>
 AK c7 (
 k12 true s8) (
 AV (D 73 [.str a,.int .i64 b] s8) fun u22 s23=>
 Am .u8 u22 fun x24=>
 AV (D 74 [.int .u8 x24] s23) fun u25 s26=>
 AZ u25 fun x27=>
 k12 x27 s26)) fun k9=>
 AK c4 (
 k9 true s5) (
 Aa (fun c28 s29=>
 k9 c28 s29) fun k30=>
 AK c (
 C9 a d fun x31=>
 k30 (B4 x31 (AA 48)) s5) (
 k30 false s5))) fun k6=>
 AK c1 (
 k6 true s2) (
 Aa (fun c32 s33=>
 k6 c32 s33) fun k34=>
 AK (C8 (AA 1) (D6 .i64 b d)) (
 C9 a d fun x35=>
 k34 (B4 x35 (AA 48)) s2) (
 k34 false s2))) fun k3=>
 AK (C8 (D6 .i64 b d) (AA 1)) (
 k3 true Z) (
 k3 (C8 (AA 19) (D6 .i64 b d)) Z)
def Ns (cc4:XC):XC:=(.seq (.z (.m 17 1<|
.m 18 0<|
.P 19 (.len true (.t 18))<|
.b 20 .lss .none (.t 17) (.t 19)<|
.m 21 20<|
.gA 21 true (.p 22 [0,21] y9<|
.p 23 [1,21] Jd<|
.p 24 [22,23,21] (.idxStr (.t 22) (.t 23))<|
.op (some 25) .bool [24,21] (.call 77 [(.t 24)])<|
.nil) 26 21 25<|
.nil)
 (.cond (.tmp 26) .skip
 Me))
 (.block 1 (.seq (.z (.m 27 1<|
.m 28 6<|
.b 29 .sub .none (.t 27) (.t 28)<|
.b 30 .lss .none (.t 29) (.i 19)<|
.nil)
 (.cond (.tmp 30) (.ops (.m 31 7<|
.b 32 .mul .none (.con (V.int .u64 (AA 10))) (.t 31)<|
.m 33 0<|
.m 34 1<|
.P 35 (.idxStr (.t 33) (.t 34))<|
.b 36 .sub .none (.t 35) qW<|
.P 37 (.conv (.toInt .u64) (.t 36))<|
.b 38 .add .none (.t 32) (.t 37)<|
.m 7 38<|
.nil))
 .skip))
 (.keep Ly [] [] cc4))))
def me (E:EB) (D:Ak) (W:AI) (K2:BS->Int->Bool->Int->Int->H->AH) (K4:BS->Int->Bool->Int->Int->H->AH) (a:BS) (b:Int) (c:Bool) (d e:Int) (Z:H):AH:=
 Aa (fun c1 s2=>
 AK c1 (
 AK (C8 (D6 .i64 b d) (AA 19)) (
 C9 a b fun x4=>
 K4 a b c d (CR .u64 (Hq .u64 (AA 10) e) (An .u64 (D6 .u8 x4 (AA 48)))) s2) (
 K4 a b c d e s2)) (
 K2 a b c d e s2)) fun k3=>
 AK (C8 b (AA (BS.len a))) (
 C9 a b fun x5=>
 AV (D 77 [.int .u8 x5] Z) fun u6 s7=>
 AZ u6 fun x8=>
 k3 x8 s7) (
 k3 false Z)
def Ko:XC:=(.ops (.m 39 1<|
.b 40 .add .none (.t 39) (.i 1)<|
.m 1 40<|
.nil))
def mc (E:EB) (D:Ak) (W:AI) (R3:BS->Int->Bool->Int->Int->H->AH) (a:BS) (b:Int) (c:Bool) (d e:Int) (Z:H):AH:=
 R3 a (CR .i64 b (AA 1)) c d e Z
def nM (a:BS) (b:Int) (Z:H):St:=⟨[(0,.str a),(1,.int .i64 b)],[],[],Z⟩
def dQ (a:BS) (b:Int) (c:Bool) (Z:H):St:=⟨[(0,.str a),(1,.int .i64 b),(5,.bool c)],[],[],Z⟩
def Kn (a:BS) (b:Int) (c:Bool) (d e:Int) (Z:H):St:=⟨[(0,.str a),(1,.int .i64 b),(5,.bool c),(6,.int .i64 d),(7,.int .u64 e)],[],[],Z⟩
theorem AA6 (cc1:XC) (a:BS) (b:Int) (Z:H) :
 AN E D W N (gV cc1) (nM a b Z) (Eb E) nX (Eb E) =
 mg E D W (fun a b c Z=>AN E D W N cc1 (dQ a b c Z) (Eb E) nX (Eb E)) a b Z:=by kernel_rfl
theorem AA5 (cc2:XC) (cc3:XC) (a:BS) (b:Int) (c:Bool) (Z:H) :
 AN E D W N (UY cc2 cc3) (dQ a b c Z) (Eb E) nX (Eb E) =
 mf E D W (fun a b c d e Z=>Ad (fun rec s'=>AN E D W N cc3 s' (kX Ly [] [] rec) (VD E D W N cc2) (Eb E)) N (Kn a b c d e Z)) a b c Z:=by kernel_rfl
theorem AA4 (cc2:XC) (cc4:XC) (li3:St->AH) (a:BS) (b:Int) (c:Bool) (d e:Int) (Z:H) :
 AN E D W N (Ns cc4) (Kn a b c d e Z) (kX Ly [] [] li3) (VD E D W N cc2) (Eb E) =
 me E D W (fun a b c d e Z=>AN E D W N cc2 (Kn a b c d e Z) (Eb E) nX (Eb E)) (fun a b c d e Z=>AN E D W N cc4 (Kn a b c d e Z) (kX Ly [] [] li3) (BY 1 (kX Ly [] [] li3) (VD E D W N cc2)) (Eb E)) a b c d e Z:=by kernel_rfl
theorem AA3 (cc2:XC) (li3:St->AH) (a:BS) (b:Int) (c:Bool) (d e:Int) (Z:H) :
 AN E D W N (Ko ) (Kn a b c d e Z) (kX Ly [] [] li3) (BY 1 (kX Ly [] [] li3) (VD E D W N cc2)) (Eb E) =
 mc E D W (fun a b c d e Z=>li3 (Kn a b c d e Z)) a b c d e Z:=by kernel_rfl
def pE (E:EB) (D:Ak) (W:AI) (N:Nat):=zh E D W
theorem uY (a:BS) (b:Int) (c:Bool) (d e:Int) (Z:H) :
 AN E D W N KB (Kn a b c d e Z) (Eb E) nX (Eb E)=pE E D W N a b c d e Z:=by kernel_rfl
def pD (E:EB) (D:Ak) (W:AI) (N:Nat) (R3:BS->Int->Bool->Int->Int->H->AH):=mc E D W R3
theorem uX (li3:St->AH) (a:BS) (b:Int) (c:Bool) (d e:Int) (Z:H) :
 AN E D W N Ko (Kn a b c d e Z) (kX Ly [] [] li3) (BY 1 (kX Ly [] [] li3) (VD E D W N KB)) (Eb E)=pD E D W N (fun a b c d e Z=>li3 (Kn a b c d e Z)) a b c d e Z:=by
 refine(AA3 E D W N KB li3 a b c d e Z).trans ?_
 kernel_rfl
def oR (n:Nat):BS->Int->Bool->Int->Int->H->AH:=
 Nat.rec (fun _ _ _ _ _ _=>none) (fun _ ih=>me E D W (pE E D W N ) (pD E D W N ih)) n
theorem tj (n:Nat):∀(a:BS) (b:Int) (c:Bool) (d e:Int) (Z:H),
 Ad (fun rec s'=>AN E D W N (Ns Ko) s' (kX Ly [] [] rec) (VD E D W N KB) (Eb E)) n (Kn a b c d e Z)=oR E D W N n a b c d e Z:=by
 induction n with
 | zero=>intro a b c d e Z;rfl
 | succ n ihn=>
  intro a b c d e Z
  rw[Aq]
  refine(AA4 E D W N KB Ko (Ad (fun rec s'=>AN E D W N (Ns Ko) s' (kX Ly [] [] rec) (VD E D W N KB) (Eb E)) n) a b c d e Z).trans ?_
  simp only[ihn,uY,uX]
  kernel_rfl
def pF:=mf E D W (oR E D W N N)
theorem uZ (a:BS) (b:Int) (c:Bool) (Z:H) :
 AN E D W N (UY KB (Ns Ko)) (dQ a b c Z) (Eb E) nX (Eb E)=pF E D W N a b c Z:=by
 refine(AA5 E D W N KB (Ns Ko)  a b c Z).trans ?_
 simp only[tj]
 kernel_rfl
def pG:=mg E D W (pF E D W N )
theorem uc (a:BS) (b:Int) (Z:H) :
 AN E D W N (gV (UY KB (Ns Ko))) (nM a b Z) (Eb E) nX (Eb E)=pG E D W N a b Z:=by
 refine(AA6 E D W N (UY KB (Ns Ko))  a b Z).trans ?_
 simp only[uZ]
 kernel_rfl
def F78 (args:List V) (Z:H):AH:=
 IZ args fun x3 l2=>
 Ah .i64 l2 fun x6 l5=>
 AP l5 (
 pG E D W N x3 x6 Z)
def A78:DR:=⟨88,[.str,.i],[(.tmp 4)],(gV (UY KB (Ns Ko)))⟩
theorem AGy (args:List V) (Z:H):Bq E D W N A78 args Z=F78 E D W N args Z:=by
 unfold F78
 simp only[<-uc]
 kernel_rfl
def Zj:List (Nat × C6):=[(5,.str),(6,.any),(7,.i)]
def H6 (E:EB):St->AH:=fun s=>DF E s [(.tmp 4)] fun l=>some (Da l,s.Z)
def ji (c0:XC):Nat->St->AH:=BY 0 (dX E D W N (.keep [] [] [] c0) (H6 E) nX (H6 E)) nX
def gU (cc1:XC) (cc2:XC):XC:=(.z (.q 4 0<|
.nil)
 (.z (.m 9 0<|
.m 10 1<|
.p 11 [9,10] (.sliceStr (.t 9) (some (.t 10)) none)<|
.m 5 11<|
.nil)
 (.z (.p 12 [] (.buildSlice 9 13 [y8,y8,y8,y8,y8,y8,y8,y8,y8,y8,y8,y8,y8] [(0,1,(.con (V.str ⟨3,4012602⟩))),(1,1,(.con (V.str ⟨3,3026478⟩))),(2,1,(.con (V.str ⟨2,11822⟩))),(3,1,(.con (V.str ⟨2,23387⟩))),(4,1,(.con (V.str ⟨2,23901⟩))),(5,1,(.con (V.str ⟨1,123⟩))),(6,1,(.con (V.str ⟨1,125⟩))),(7,1,(.con (V.str ⟨1,91⟩))),(8,1,(.con (V.str ⟨1,93⟩))),(9,1,(.con (V.str ⟨1,40⟩))),(10,1,(.con (V.str ⟨1,41⟩))),(11,1,(.con (V.str ⟨1,44⟩))),(12,1,(.con (V.str ⟨1,58⟩)))])<|
.m 6 12<|
.nil)
 (.seq (.z (.q 7 0<|
.nil)
 (.block 0 (.loop Zj [] [] cc2)))
 (.keep [] [] [] cc1)))))
def ma (E:EB) (D:Ak) (W:AI) (K2:BS->V->Int->H->AH) (a:BS) (b:Int) (Z:H):AH:=
 FN a (some (V.int .i64 b)) none fun t1=>
 let s2:=Br Z (.cells [.str (BS.mk 3 4012602),.str (BS.mk 3 3026478),.str (BS.mk 2 11822),.str (BS.mk 2 23387),.str (BS.mk 2 23901),.str (BS.mk 1 123),.str (BS.mk 1 125),.str (BS.mk 1 91),.str (BS.mk 1 93),.str (BS.mk 1 40),.str (BS.mk 1 41),.str (BS.mk 1 44),.str (BS.mk 1 58)]);
 K2 t1 (V.sl (H.next Z) 0 13 (.ex 13)) (AA 0) s2
def PU:XC:=(.z (.q 4 0<|
.nil)
 .ret)
def ze (E:EB) (D:Ak) (W:AI) (Z:H):AH:=
 some ((V.int .i64 (AA 0)),Z)
def RB:XC:=(.seq (.z (.m 13 7<|
.m 14 6<|
.u 15 14<|
.b 16 .lss .none (.t 13) (.t 15)<|
.nil)
 y31)
 (.seq (.block 1 (.z (.m 19 6<|
.m 20 7<|
.s 21 1 19 20<|
.l 22 .str 21<|
.P 23 (.len true (.t 22))<|
.m 8 23<|
.nil)
 (.seq (.draw (.m 24 5<|
.P 25 (.len true (.t 24))<|
.m 26 8<|
.b 27 .geq .none (.t 25) (.t 26)<|
.m 28 27<|
.gA 28 true (.p 29 [5,28] (.mov (.t 5))<|
.p 30 [8,28] (.mov (.t 8))<|
.p 31 [29,30,28] (.sliceStr (.t 29) none (some (.t 30)))<|
.p 32 [6,28] (.mov (.t 6))<|
.p 33 [7,28] (.mov (.t 7))<|
.p 34 [32,33,28] (.iaddrS 1 (.t 32) (.t 33))<|
.op (some 35) .str [34,28] (.load none (.t 34))<|
.p 36 [31,35,28] (.bin .eql .none (.t 31) (.t 35))<|
.nil) 37 28 36<|
.nil) [0,1,0,7,15,31,31,127,31,31,799,1823,4095,8191])
 (.cond (.tmp 37) (.z (.m 38 8<|
.m 4 38<|
.nil)
 .ret)
 .skip))))
 xR))
def mZ (E:EB) (D:Ak) (W:AI) (K1:H->AH) (R2:BS->V->Int->H->AH) (a:BS) (b:V) (c:Int) (Z:H):AH:=
 A2 b fun n1=>
 AK (C8 c (AA n1)) (
 AU 1 b c fun b2 o3=>
 Bc E Z b2 o3 fun u4=>
 Ht u4 fun x5=>
 Aa (fun c6 s7=>
 AK c6 (
 some ((V.int .i64 (AA (BS.len x5))),s7)) (
 R2 a b (CR .i64 c (AA 1)) s7)) fun k8=>
 AK (Hp (AA (BS.len x5)) (AA (BS.len a))) (
 FN a none (some (V.int .i64 (AA (BS.len x5)))) fun t9=>
 AU 1 b c fun b10 o11=>
 Bc E Z b10 o11 fun u12=>
 Ht u12 fun x13=>
 k8 (BS.beq t9 x13) Z) (
 k8 false Z)) (
 K1 Z)
def nK (a:BS) (b:Int) (Z:H):St:=⟨[(0,.str a),(1,.int .i64 b)],[],[],Z⟩
def nJ (Z:H):St:=⟨[],[],[],Z⟩
def XX (a:BS) (b:V) (c:Int) (Z:H):St:=⟨[(5,.str a),(6,b),(7,.int .i64 c)],[],[],Z⟩
theorem AA2 (cc1:XC) (cc2:XC) (a:BS) (b:Int) (Z:H) :
 AN E D W N (gU cc1 cc2) (nK a b Z) (H6 E) nX (H6 E) =
 ma E D W (fun c d e Z=>Ad (fun rec s'=>AN E D W N cc2 s' (kX Zj [] [] rec) (ji E D W N cc1) (H6 E)) N (XX c d e Z)) a b Z:=by kernel_rfl
theorem AA1 (cc1:XC) (li2:St->AH) (a:BS) (b:V) (c:Int) (Z:H) :
 AN E D W N (RB ) (XX a b c Z) (kX Zj [] [] li2) (ji E D W N cc1) (H6 E) =
 mZ E D W (fun  Z=>AN E D W N cc1 (nJ Z) (H6 E) nX (H6 E)) (fun a b c Z=>li2 (XX a b c Z)) a b c Z:=by kernel_rfl
def pB (E:EB) (D:Ak) (W:AI) (N:Nat):=ze E D W
theorem uV (Z:H) :
 AN E D W N PU (nJ Z) (H6 E) nX (H6 E)=pB E D W N  Z:=by kernel_rfl
def oQ (n:Nat):BS->V->Int->H->AH:=
 Nat.rec (fun _ _ _ _=>none) (fun _ ih=>mZ E D W (pB E D W N ) ih) n
theorem ti (n:Nat):∀(a:BS) (b:V) (c:Int) (Z:H),
 Ad (fun rec s'=>AN E D W N RB s' (kX Zj [] [] rec) (ji E D W N PU) (H6 E)) n (XX a b c Z)=oQ E D W N n a b c Z:=by
 induction n with
 | zero=>intro a b c Z;rfl
 | succ n ihn=>
  intro a b c Z
  rw[Aq]
  refine(AA1 E D W N PU (Ad (fun rec s'=>AN E D W N RB s' (kX Zj [] [] rec) (ji E D W N PU) (H6 E)) n) a b c Z).trans ?_
  simp only[ihn,uV]
  kernel_rfl
def pC:=ma E D W (oQ E D W N N)
theorem uW (a:BS) (b:Int) (Z:H) :
 AN E D W N (gU PU RB) (nK a b Z) (H6 E) nX (H6 E)=pC E D W N a b Z:=by
 refine(AA2 E D W N PU RB  a b Z).trans ?_
 simp only[ti]
 kernel_rfl
def F81 (args:List V) (Z:H):AH:=
 IZ args fun x3 l2=>
 Ah .i64 l2 fun x6 l5=>
 AP l5 (
 pC E D W N x3 x6 Z)
def A81:DR:=⟨39,[.str,.i],[(.tmp 4)],(gU PU RB)⟩
theorem AGx (args:List V) (Z:H):Bq E D W N A81 args Z=F81 E D W N args Z:=by
 unfold F81
 simp only[<-uW]
 kernel_rfl
def Zi:List (Nat × C6):=[(0,.str),(3,.bool),(4,(.int .u64)),(5,.i)]
def yZ:List (Nat × C6):=[(3,.bool),(4,(.int .u64))]
def FR (E:EB):St->AH:=fun s=>DF E s [(.tmp 2)] fun l=>some (Da l,s.Z)
def jh (c0:XC):Nat->St->AH:=BY 0 (dX E D W N (.keep yZ [] [] c0) (FR E) nX (FR E)) nX
def gT (cc1:XC):XC:=(.z (.q 2 0<|
.nil)
 (.z (.m 6 0<|
.P 7 (.idxStr (.t 6) (.i 0))<|
.b 8 .eql .none (.t 7) V5<|
.m 3 8<|
.nil)
 (.seq (.z (.m 9 3<|
.nil)
 (.cond (.tmp 9) (.ops (.m 10 0<|
.p 11 [10] (.sliceStr (.t 10) (some (.i 1)) none)<|
.m 0 11<|
.nil))
 .skip))
 (.keep [(0,.str),(3,.bool)] [] [] cc1))))
def mY (E:EB) (D:Ak) (W:AI) (K1:BS->Bool->H->AH) (a:BS) (Z:H):AH:=
 C9 a (AA 0) fun x1=>
 AK (B4 x1 (AA 45)) (
 FN a (some (V.int .i64 (AA 1))) none fun t2=>
 K1 t2 (B4 x1 (AA 45)) Z) (
 K1 a (B4 x1 (AA 45)) Z)
def UX (cc2:XC) (cc3:XC):XC:=(.z (.c 4 Uf<|
.nil)
 (.seq (.z (.q 5 0<|
.nil)
 (.block 0 (.loop Zi [] [] cc3)))
 (.keep yZ [] [] cc2)))
def mX (E:EB) (D:Ak) (W:AI) (K3:BS->Bool->Int->Int->H->AH) (a:BS) (b:Bool) (Z:H):AH:=
 K3 a b (AA 0) (AA 0) Z
def MV:XC:=(.seq (.z (.m 26 3<|
.nil)
 (.cond (.tmp 26) (.z (.m 27 4<|
.b 28 .sub .none (.t 27) (.con (V.int .u64 (AA 1)))<|
.P 29 (.conv (.toInt .i64) (.t 28))<|
.P 30 (.un .neg (.t 29))<|
.b 31 .sub .none (.t 30) (.i 1)<|
.m 2 31<|
.nil)
 .ret)
 .skip))
 (.z (.m 32 4<|
.P 33 (.conv (.toInt .i64) (.t 32))<|
.m 2 33<|
.nil)
 .ret))
def zd (E:EB) (D:Ak) (W:AI) (a:Bool) (b:Int) (Z:H):AH:=
 AK a (
 some ((V.int .i64 (D6 .i64 (rG .i64 (An .i64 (D6 .u64 b (AA 1)))) (AA 1))),Z)) (
 some ((V.int .i64 (An .i64 b)),Z))
def Nr:XC:=(.seq (.z (.m 12 5<|
.m 13 0<|
.P 14 (.len true (.t 13))<|
.b 15 .lss .none (.t 12) (.t 14)<|
.nil)
 (.cond (.tmp 15) .skip
 Me))
 (.seq (.block 1 (.ops (.m 18 4<|
.b 19 .mul .none (.con (V.int .u64 (AA 10))) (.t 18)<|
.m 20 0<|
.m 21 5<|
.P 22 (.idxStr (.t 20) (.t 21))<|
.b 23 .sub .none (.t 22) qW<|
.P 24 (.conv (.toInt .u64) (.t 23))<|
.b 25 .add .none (.t 19) (.t 24)<|
.m 4 25<|
.nil)))
 (.ops (.m 16 5<|
.b 17 .add .none (.t 16) (.i 1)<|
.m 5 17<|
.nil))))
def mW (E:EB) (D:Ak) (W:AI) (K2:Bool->Int->H->AH) (R3:BS->Bool->Int->Int->H->AH) (a:BS) (b:Bool) (c d:Int) (Z:H):AH:=
 AK (C8 d (AA (BS.len a))) (
 C9 a d fun x1=>
 R3 a b (CR .u64 (Hq .u64 (AA 10) c) (An .u64 (D6 .u8 x1 (AA 48)))) (CR .i64 d (AA 1)) Z) (
 K2 b c Z)
def nH (a:BS) (Z:H):St:=⟨[(0,.str a)],[],[],Z⟩
def dP (a:BS) (b:Bool) (Z:H):St:=⟨[(0,.str a),(3,.bool b)],[],[],Z⟩
def nG (a:Bool) (b:Int) (Z:H):St:=⟨[(3,.bool a),(4,.int .u64 b)],[],[],Z⟩
def XW (a:BS) (b:Bool) (c d:Int) (Z:H):St:=⟨[(0,.str a),(3,.bool b),(4,.int .u64 c),(5,.int .i64 d)],[],[],Z⟩
theorem AA0 (cc1:XC) (a:BS) (Z:H) :
 AN E D W N (gT cc1) (nH a Z) (FR E) nX (FR E) =
 mY E D W (fun a b Z=>AN E D W N cc1 (dP a b Z) (FR E) nX (FR E)) a Z:=by kernel_rfl
theorem AAz (cc2:XC) (cc3:XC) (a:BS) (b:Bool) (Z:H) :
 AN E D W N (UX cc2 cc3) (dP a b Z) (FR E) nX (FR E) =
 mX E D W (fun a b c d Z=>Ad (fun rec s'=>AN E D W N cc3 s' (kX Zi [] [] rec) (jh E D W N cc2) (FR E)) N (XW a b c d Z)) a b Z:=by kernel_rfl
theorem AAy (cc2:XC) (li3:St->AH) (a:BS) (b:Bool) (c d:Int) (Z:H) :
 AN E D W N (Nr ) (XW a b c d Z) (kX Zi [] [] li3) (jh E D W N cc2) (FR E) =
 mW E D W (fun b c Z=>AN E D W N cc2 (nG b c Z) (FR E) nX (FR E)) (fun a b c d Z=>li3 (XW a b c d Z)) a b c d Z:=by kernel_rfl
def ov (E:EB) (D:Ak) (W:AI) (N:Nat):=zd E D W
theorem uS (a:Bool) (b:Int) (Z:H) :
 AN E D W N MV (nG a b Z) (FR E) nX (FR E)=ov E D W N a b Z:=by kernel_rfl
def oP (n:Nat):BS->Bool->Int->Int->H->AH:=
 Nat.rec (fun _ _ _ _ _=>none) (fun _ ih=>mW E D W (ov E D W N ) ih) n
theorem tf (n:Nat):∀(a:BS) (b:Bool) (c d:Int) (Z:H),
 Ad (fun rec s'=>AN E D W N Nr s' (kX Zi [] [] rec) (jh E D W N MV) (FR E)) n (XW a b c d Z)=oP E D W N n a b c d Z:=by
 induction n with
 | zero=>intro a b c d Z;rfl
 | succ n ihn=>
  intro a b c d Z
  rw[Aq]
  refine(AAy E D W N MV (Ad (fun rec s'=>AN E D W N Nr s' (kX Zi [] [] rec) (jh E D W N MV) (FR E)) n) a b c d Z).trans ?_
  simp only[ihn,uS]
  kernel_rfl
def o0:=mX E D W (oP E D W N N)
theorem uT (a:BS) (b:Bool) (Z:H) :
 AN E D W N (UX MV Nr) (dP a b Z) (FR E) nX (FR E)=o0 E D W N a b Z:=by
 refine(AAz E D W N MV Nr  a b Z).trans ?_
 simp only[tf]
 kernel_rfl
def pA:=mY E D W (o0 E D W N )
theorem uU (a:BS) (Z:H) :
 AN E D W N (gT (UX MV Nr)) (nH a Z) (FR E) nX (FR E)=pA E D W N a Z:=by
 refine(AA0 E D W N (UX MV Nr)  a Z).trans ?_
 simp only[uT]
 kernel_rfl
def F82 (args:List V) (Z:H):AH:=
 IZ args fun x3 l2=>
 AP l2 (
 pA E D W N x3 Z)
def A82:DR:=⟨34,[.str],[(.tmp 2)],(gT (UX MV Nr))⟩
theorem AGw (args:List V) (Z:H):Bq E D W N A82 args Z=F82 E D W N args Z:=by
 unfold F82
 simp only[<-uU]
 kernel_rfl
def Xy:List BM:=[⟨(some 39),.mov (.tmp 0),none⟩,⟨(some 40),.iaddrS 1 (.tmp 39) (.con (V.int .i64 (AA 0))),none⟩,⟨(some 41),.load none (.tmp 40),none⟩,⟨(some 42),.bin .shr .none (.tmp 41) (.con (V.int .u64 (AA 6))),none⟩,⟨(some 43),.conv (.toInt .i64) (.tmp 42),none⟩,⟨(some 44),.mov (.tmp 7),none⟩,⟨(some 45),.build [(V.int .i64 (AA 0)),(V.int .i64 (AA 0))] [(0,1,(.tmp 43)),(1,1,(.tmp 44))],none⟩,⟨(some 46),.mov (.tmp 0),none⟩,⟨(some 47),.iaddrS 1 (.tmp 46) (.con (V.int .i64 (AA 0))),none⟩,⟨(some 48),.load none (.tmp 47),none⟩,⟨(some 49),.bin .and .none (.tmp 48) (.con (V.int .u8 (AA 32))),none⟩,⟨(some 50),.bin .neq .none (.tmp 49) (.con (V.int .u8 (AA 0))),none⟩,⟨(some 51),.mov (.tmp 10),none⟩,⟨(some 52),.mov (.tmp 8),none⟩,⟨(some 53),.bin .add .none (.con (V.int .i64 (AA 1))) (.tmp 52),none⟩,⟨(some 54),.mov (.tmp 11),none⟩,⟨(some 55),.bin .add .none (.tmp 53) (.tmp 54),none⟩,⟨none,.store 2 (.tmp 2) (.tmp 45),none⟩,⟨(some 3),.mov (.tmp 50),none⟩,⟨(some 4),.mov (.tmp 51),none⟩,⟨(some 5),.mov (.tmp 55),none⟩,⟨(some 6),.mov (.con (V.int .i64 (AA 0))),none⟩]
def Xx:List DP:=[⟨0,[0]⟩,⟨1,[39]⟩,⟨3,[40]⟩,⟨7,[41]⟩,⟨15,[42]⟩,⟨0,[7]⟩,⟨63,[43,44]⟩,⟨0,[0]⟩,⟨128,[46]⟩,⟨384,[47]⟩,⟨896,[48]⟩,⟨1920,[49]⟩,⟨0,[10]⟩,⟨0,[8]⟩,⟨8192,[52]⟩,⟨0,[11]⟩,⟨57344,[53,54]⟩,⟨127,[2,45]⟩,⟨135167,[50]⟩,⟨401407,[51]⟩,⟨1048575,[55]⟩,⟨2097151,[]⟩]
def ADk:XC:=(.z (.p 2 [] (.alloc 38 [y0,y0])<|
.c 3 y3<|
.q 4 0<|
.q 5 0<|
.q 6 0<|
.nil)
 (.seq (.z (.m 12 0<|
.u 13 12<|
.b 14 .eql .none (.t 13) (.i 0)<|
.nil)
 (.cond (.tmp 14) (.z (.op (some 15) y4 [] (.build [y0,y0] [])<|
.op none y4 [2,15] (.store 2 (.t 2) (.t 15))<|
.c 3 y3<|
.q 4 0<|
.q 5 0<|
.q 6 3<|
.nil)
 .ret)
 .skip))
 (.z (.m 17 0<|
.k 18 (.tup [.i,.i,.i]) 116 [(.t 17)]<|
.m 16 18<|
.P 19 (.extract 0 (.t 16))<|
.P 20 (.extract 1 (.t 16))<|
.P 21 (.extract 2 (.t 16))<|
.m 7 19<|
.m 8 20<|
.m 9 21<|
.nil)
 (.seq (.z (.m 22 9<|
.b 23 .neq .none (.t 22) (.i 0)<|
.nil)
 (.cond (.tmp 23) (.z (.op (some 24) y4 [] (.build [y0,y0] [])<|
.m 25 9<|
.op none y4 [2,24] (.store 2 (.t 2) (.t 24))<|
.c 3 y3<|
.q 4 0<|
.q 5 0<|
.m 6 25<|
.nil)
 .ret)
 .skip))
 (.z (.m 27 0<|
.m 28 8<|
.b 29 .add .none (.i 1) (.t 28)<|
.p 30 [27,29] (.sliceSl 1 (.t 27) (some (.t 29)) none none)<|
.k 31 (.tup [.i,.i,.i]) 117 [(.t 30)]<|
.m 26 31<|
.P 32 (.extract 0 (.t 26))<|
.P 33 (.extract 1 (.t 26))<|
.P 34 (.extract 2 (.t 26))<|
.m 10 32<|
.m 11 33<|
.m 9 34<|
.nil)
 (.seq (.z (.m 35 9<|
.b 36 .neq .none (.t 35) (.i 0)<|
.nil)
 (.cond (.tmp 36) (.z (.op (some 37) y4 [] (.build [y0,y0] [])<|
.m 38 9<|
.op none y4 [2,37] (.store 2 (.t 2) (.t 37))<|
.c 3 y3<|
.q 4 0<|
.q 5 0<|
.m 6 38<|
.nil)
 .ret)
 .skip))
 (.seq (.keep [(0,.any),(2,.ptr),(7,.i),(8,.i),(10,.i),(11,.i)] [] [] (.gdraw Xy Xx [(2,.ptr),(3,.bool),(4,.i),(5,.i),(6,.i)]))
 .ret)))))))
def cC (a:V) (Z:H):AH:=
 let s1:=Br Z (.cells [.int .i64 (AA 0),.int .i64 (AA 0)]);
 A2 a fun n2=>
 AK (B4 (AA n2) (AA 0)) (
 FW 2 (H.next Z) 0 (V.agg [.int .i64 (AA 0),.int .i64 (AA 0)]) s1 fun s3=>
 BH E s3 (H.next Z) 0 2 fun u4=>
 some ((V.tup [.agg u4,.bool false,.int .i64 (AA 0),.int .i64 (AA 0),.int .i64 (AA 3)]),s3)) (
 AV (D 116 [a] s1) fun u5 s6=>
 DH u5 fun l7=>
 Ah .i64 l7 fun x10 l9=>
 Ah .i64 l9 fun x13 l12=>
 Ah .i64 l12 fun x16 l15=>
 AP l15 (
 AK (not (B4 x16 (AA 0))) (
 FW 2 (H.next Z) 0 (V.agg [.int .i64 (AA 0),.int .i64 (AA 0)]) s6 fun s17=>
 BH E s17 (H.next Z) 0 2 fun u18=>
 some ((V.tup [.agg u18,.bool false,.int .i64 (AA 0),.int .i64 (AA 0),.int .i64 x16]),s17)) (
 gK (DI 1 a (some (V.int .i64 (CR .i64 (AA 1) x13))) none none) fun u19=>
 AV (D 117 [u19] s6) fun u20 s21=>
 DH u20 fun l22=>
 Ah .i64 l22 fun x25 l24=>
 Ah .i64 l24 fun x28 l27=>
 Ah .i64 l27 fun x31 l30=>
 AP l30 (
 AK (not (B4 x31 (AA 0))) (
 FW 2 (H.next Z) 0 (V.agg [.int .i64 (AA 0),.int .i64 (AA 0)]) s21 fun s32=>
 BH E s32 (H.next Z) 0 2 fun u33=>
 some ((V.tup [.agg u33,.bool false,.int .i64 (AA 0),.int .i64 (AA 0),.int .i64 x31]),s32)) (
 Ci (W Xy Xx [(0,a),(2,.ptr (H.next Z) 0),(7,.int .i64 x10),(8,.int .i64 x13),(10,.int .i64 x25),(11,.int .i64 x28)] s21) fun e34 s35=>
 BR e34 2 fun u36=>
 B8 u36 fun b37 o38=>
 BR e34 3 fun u39=>
 AZ u39 fun x40=>
 BR e34 4 fun u41=>
 Am .i64 u41 fun x42=>
 BR e34 5 fun u43=>
 Am .i64 u43 fun x44=>
 BR e34 6 fun u45=>
 Am .i64 u45 fun x46=>
 BH E s35 b37 o38 2 fun u47=>
 some ((V.tup [.agg u47,.bool x40,.int .i64 x42,.int .i64 x44,.int .i64 x46]),s35))))))
def F93 (N:Nat) (args:List V) (Z:H):AH:=
 AE args fun x1 l2=>
 AP l2 (
 cC E D W x1 Z)
def A93:DR:=⟨56,[.any],[(.cell 2 (some 2)),(.tmp 3),(.tmp 4),(.tmp 5),(.tmp 6)],ADk⟩
theorem AGv (args:List V) (Z:H):Bq E D W N A93 args Z=F93 E D W N args Z:=by kernel_rfl
def Zh:List (Nat × C6):=[(0,(.int .u64)),(1,.i),(5,.any),(9,.i),(10,.i)]
def H5 (E:EB):St->AH:=fun s=>DF E s [(.tmp 4)] fun l=>some (Da l,s.Z)
def jg (c0:XC):Nat->St->AH:=BY 0 (dX E D W N (.keep [(5,.any)] [] [] c0) (H5 E) nX (H5 E)) nX
def gR (cc1:XC) (cc2:XC):XC:=(.z (.c 4 V.nils<|
.nil)
 (.z (.m 7 1<|
.P 8 (.mkslice 5 1 1 [y5] (.t 7) (.t 7))<|
.m 5 8<|
.nil)
 (.seq (.z (.m 9 1<|
.q 10 0<|
.nil)
 (.block 0 (.loop Zh [] [] cc2)))
 (.keep [(5,.any)] [] [] cc1))))
def W3 (E:EB) (D:Ak) (W:AI) (K2:Int->Int->V->Int->Int->H->AH) (a b:Int) (Z:H):AH:=
 N8 b fun n1=>
 N8 b fun n2=>
 GW (Ag n1 n2&&Ag (n2*1) 281474976710656&&Ag n2 1000000000000) (
 let s3:=Br Z (.cells (AY n2 [.int .u8 (AA 0)]).flatten);
 K2 a b (V.sl (H.next Z) 0 n1 (.ex n2)) b (AA 0) s3)
def PT:XC:=(.z (.m 25 5<|
.m 4 25<|
.nil)
 .ret)
def zc (E:EB) (D:Ak) (W:AI) (a:V) (Z:H):AH:=
 some (a,Z)
def RA:XC:=(.z (.b 11 .lss .none (.t 10) (.t 9)<|
.nil)
 (.seq (.cond (.tmp 11) .skip
 Me)
 (.seq (.block 1 (.z (.m 12 10<|
.m 6 12<|
.nil)
 (.ops (.m 13 5<|
.m 14 6<|
.m 15 0<|
.m 16 1<|
.b 17 .sub .none (.t 16) (.i 1)<|
.m 18 6<|
.b 19 .sub .none (.t 17) (.t 18)<|
.b 20 .mul .none (.i 8) (.t 19)<|
.b 21 .shr .none (.t 15) (.t 20)<|
.P 22 (.conv (.toInt .u8) (.t 21))<|
.s 23 1 13 14<|
.w 1 23 22<|
.nil))))
 (.ops (.b 24 .add .none (.t 10) (.i 1)<|
.m 10 24<|
.nil)))))
def QV (E:EB) (D:Ak) (W:AI) (K1:V->H->AH) (R2:Int->Int->V->Int->Int->H->AH) (a b:Int) (c:V) (d e:Int) (Z:H):AH:=
 AK (C8 e d) (
 N8 (Hq .i64 (AA 8) (D6 .i64 (D6 .i64 b (AA 1)) e)) fun n1=>
 AU 1 c e fun b2 o3=>
 FW 1 b2 o3 (V.int .u8 (An .u8 (GB .u64 a n1))) Z fun s4=>
 R2 a b c d (CR .i64 e (AA 1)) s4) (
 K1 c Z)
def nF (a b:Int) (Z:H):St:=⟨[(0,.int .u64 a),(1,.int .i64 b)],[],[],Z⟩
def nE (a:V) (Z:H):St:=⟨[(5,a)],[],[],Z⟩
def XV (a b:Int) (c:V) (d e:Int) (Z:H):St:=⟨[(0,.int .u64 a),(1,.int .i64 b),(5,c),(9,.int .i64 d),(10,.int .i64 e)],[],[],Z⟩
theorem AAx (cc1:XC) (cc2:XC) (a b:Int) (Z:H) :
 AN E D W N (gR cc1 cc2) (nF a b Z) (H5 E) nX (H5 E) =
 W3 E D W (fun a b c d e Z=>Ad (fun rec s'=>AN E D W N cc2 s' (kX Zh [] [] rec) (jg E D W N cc1) (H5 E)) N (XV a b c d e Z)) a b Z:=by kernel_rfl
theorem AAw (cc1:XC) (li2:St->AH) (a b:Int) (c:V) (d e:Int) (Z:H) :
 AN E D W N (RA ) (XV a b c d e Z) (kX Zh [] [] li2) (jg E D W N cc1) (H5 E) =
 QV E D W (fun c Z=>AN E D W N cc1 (nE c Z) (H5 E) nX (H5 E)) (fun a b c d e Z=>li2 (XV a b c d e Z)) a b c d e Z:=by kernel_rfl
def oq (E:EB) (D:Ak) (W:AI) (N:Nat):=zc E D W
theorem uQ (a:V) (Z:H) :
 AN E D W N PT (nE a Z) (H5 E) nX (H5 E)=oq E D W N a Z:=by kernel_rfl
def UK (n:Nat):Int->Int->V->Int->Int->H->AH:=
 Nat.rec (fun _ _ _ _ _ _=>none) (fun _ ih=>QV E D W (oq E D W N ) ih) n
theorem te (n:Nat):∀(a b:Int) (c:V) (d e:Int) (Z:H),
 Ad (fun rec s'=>AN E D W N RA s' (kX Zh [] [] rec) (jg E D W N PT) (H5 E)) n (XV a b c d e Z)=UK E D W N n a b c d e Z:=by
 induction n with
 | zero=>intro a b c d e Z;rfl
 | succ n ihn=>
  intro a b c d e Z
  rw[Aq]
  refine(AAw E D W N PT (Ad (fun rec s'=>AN E D W N RA s' (kX Zh [] [] rec) (jg E D W N PT) (H5 E)) n) a b c d e Z).trans ?_
  simp only[ihn,uQ]
  kernel_rfl
def ot:=W3 E D W (UK E D W N N)
theorem uR (a b:Int) (Z:H) :
 AN E D W N (gR PT RA) (nF a b Z) (H5 E) nX (H5 E)=ot E D W N a b Z:=by
 refine(AAx E D W N PT RA  a b Z).trans ?_
 simp only[te]
 kernel_rfl
def vq (args:List V) (Z:H):AH:=
 Ah .u64 args fun x3 l2=>
 Ah .i64 l2 fun x6 l5=>
 AP l5 (
 ot E D W N x3 x6 Z)
def A94:DR:=⟨26,[(.int .u64),.i],[(.tmp 4)],(gR PT RA)⟩
theorem AGu (args:List V) (Z:H):Bq E D W N A94 args Z=vq E D W N args Z:=by
 unfold vq
 simp only[<-uR]
 kernel_rfl
def ADj:XC:=(.z (.P 3 (.box 38 (.t 1))<|
.c 4 y3<|
.nil)
 (.z (.m 5 0<|
.O 6 y4 (.load (some 2) (.t 3))<|
.k 7 .i 118 [(.t 5),(.t 6)]<|
.b 8 .geq .none (.t 7) (.i 0)<|
.m 4 8<|
.nil)
 .ret))
def cB (E:EB) (D:Ak) (W:AI) (a:V) (b c:Int) (Z:H):AH:=
 Gn [.int .i64 b,.int .i64 c] Z fun s1=>
 BH E s1 (H.next Z) 0 2 fun l2=>
 Ah .i64 l2 fun x5 l4=>
 Ah .i64 l4 fun x8 l7=>
 AP l7 (
 AV (D 118 [a,.agg [.int .i64 x5,.int .i64 x8]] s1) fun u9 s10=>
 Am .i64 u9 fun x11=>
 some ((V.bool (Hp (AA 0) x11)),s10))
def F95 (N:Nat) (args:List V) (Z:H):AH:=
 AE args fun x1 l2=>
 AE l2 fun x3 l4=>
 Bm x3 fun l5=>
 Ah .i64 l5 fun x8 l7=>
 Ah .i64 l7 fun x11 l10=>
 AP l10 (
 AP l4 (
 cB E D W x1 x8 x11 Z))
def A95:DR:=⟨9,[.any,y4],[(.tmp 4)],ADj⟩
theorem AGt (args:List V) (Z:H):Bq E D W N A95 args Z=F95 E D W N args Z:=by kernel_rfl
def ADi:XC:=(.z (.P 2 (.box 34 (.t 0))<|
.c 4 y3<|
.nil)
 (.z (.m 5 1<|
.b 6 .and .none (.t 5) (.i 1)<|
.b 7 .neq .none (.t 6) (.i 0)<|
.m 8 7<|
.gO 8 false (.p 9 [2,8] (.faddr 1 (.t 2))<|
.op (some 10) .i [9,8] (.load none (.t 9))<|
.p 11 [10,8] (.bin .eql .none (.t 10) (.i 0))<|
.nil) 12 8 11<|
.m 13 12<|
.gA 13 true (.p 14 [1,13] Jd<|
.p 15 [14,13] (.bin .and .none (.t 14) (.i 2))<|
.p 16 [15,13] (.bin .neq .none (.t 15) (.i 0))<|
.p 17 [16,13] (.mov (.t 16))<|
.grp 17 false (.p 18 [2,17] (.faddr 2 (.t 2))<|
.p 19 [18,17] (.load none (.t 18))<|
.p 20 [19,17] (.len false (.t 19))<|
.p 21 [20,17] (.bin .eql .none (.t 20) (.i 0))<|
.nil) 22 [17,21,13] (.t 17) Pw (.t 21)<|
.nil) 23 13 22<|
.m 24 23<|
.gA 24 true (.p 25 [1,24] Jd<|
.p 26 [25,24] (.bin .and .none (.t 25) (.i 4))<|
.p 27 [26,24] (.bin .neq .none (.t 26) (.i 0))<|
.p 28 [27,24] (.mov (.t 27))<|
.grp 28 false (.p 29 [2,28] (.faddr 3 (.t 2))<|
.p 30 [29,28] (.load none (.t 29))<|
.p 31 [30,28] (.len false (.t 30))<|
.p 32 [31,28] (.bin .eql .none (.t 31) (.i 0))<|
.nil) 33 [28,32,24] (.t 28) Pw (.t 32)<|
.nil) 34 24 33<|
.m 35 34<|
.gA 35 true (.p 36 [1,35] Jd<|
.p 37 [36,35] (.bin .and .none (.t 36) (.i 8))<|
.p 38 [37,35] (.bin .neq .none (.t 37) (.i 0))<|
.p 39 [38,35] (.mov (.t 38))<|
.grp 39 false (.p 40 [2,39] (.faddr 4 (.t 2))<|
.op (some 41) .i [40,39] (.load none (.t 40))<|
.p 42 [41,39] (.bin .eql .none (.t 41) (.i 0))<|
.p 43 [42,39] (.mov (.t 42))<|
.grp 43 true (.p 44 [2,43] (.faddr 5 (.t 2))<|
.p 45 [44,43] (.load none (.t 44))<|
.p 46 [45,43] (.len false (.t 45))<|
.p 47 [46,43] (.bin .eql .none (.t 46) (.i 0))<|
.nil) 48 [43,47,39] (.t 43) (.t 47) Ln<|
.nil) 49 [39,48,35] (.t 39) Pw (.t 48)<|
.nil) 50 35 49<|
.m 4 50<|
.nil)
 .ret))
def cA (E:EB) (D:Ak) (W:AI) (a b:Int) (c d:V) (e:Int) (f:V) (g:Int) (Z:H):AH:=
 Gn [.int .i64 a,.int .i64 b,c,d,.int .i64 e,f] Z fun s1=>
 Aa (fun c2 s3=>
 Aa (fun c5 s6=>
 Aa (fun c8 s9=>
 Aa (fun c11 s12=>
 some ((V.bool c11),s12)) fun k13=>
 AK c8 (
 Aa (fun c14 s15=>
 k13 c14 s15) fun k16=>
 AK (not (B4 (Eo .i64 g (AA 8)) (AA 0))) (
 k16 true s9) (
 Bc E s9 (H.next Z) 4 fun u17=>
 Am .i64 u17 fun x18=>
 Aa (fun c19 s20=>
 k16 c19 s20) fun k21=>
 AK (B4 x18 (AA 0)) (
 Bc E s9 (H.next Z) 5 fun u22=>
 A2 u22 fun n23=>
 k21 (B4 (AA n23) (AA 0)) s9) (
 k21 false s9))) (
 k13 false s9)) fun k10=>
 AK c5 (
 Aa (fun c24 s25=>
 k10 c24 s25) fun k26=>
 AK (not (B4 (Eo .i64 g (AA 4)) (AA 0))) (
 k26 true s6) (
 Bc E s6 (H.next Z) 3 fun u27=>
 A2 u27 fun n28=>
 k26 (B4 (AA n28) (AA 0)) s6)) (
 k10 false s6)) fun k7=>
 AK c2 (
 Aa (fun c29 s30=>
 k7 c29 s30) fun k31=>
 AK (not (B4 (Eo .i64 g (AA 2)) (AA 0))) (
 k31 true s3) (
 Bc E s3 (H.next Z) 2 fun u32=>
 A2 u32 fun n33=>
 k31 (B4 (AA n33) (AA 0)) s3)) (
 k7 false s3)) fun k4=>
 AK (not (B4 (Eo .i64 g (AA 1)) (AA 0))) (
 k4 true s1) (
 Bc E s1 (H.next Z) 1 fun u34=>
 Am .i64 u34 fun x35=>
 k4 (B4 x35 (AA 0)) s1)
def F99 (N:Nat) (args:List V) (Z:H):AH:=
 AE args fun x1 l2=>
 Bm x1 fun l3=>
 Ah .i64 l3 fun x6 l5=>
 Ah .i64 l5 fun x9 l8=>
 AE l8 fun x10 l11=>
 AE l11 fun x12 l13=>
 Ah .i64 l13 fun x16 l15=>
 AE l15 fun x17 l18=>
 AP l18 (
 Ah .i64 l2 fun x21 l20=>
 AP l20 (
 cA E D W x6 x9 x10 x12 x16 x17 x21 Z))
def A99:DR:=⟨51,[y1,.i],[(.tmp 4)],ADi⟩
theorem AGs (args:List V) (Z:H):Bq E D W N A99 args Z=F99 E D W N args Z:=by kernel_rfl
def wh:XC:=(.z (.P 2 (.box 93 (.t 0))<|
.c 4 y3<|
.nil)
 (.z (.f 5 0 2<|
.l 6 .bool 5<|
.P 7 (.un .not (.t 6))<|
.m 8 7<|
.gO 8 false (.p 9 [2,8] (.faddr 1 (.t 2))<|
.op (some 10) .bool [9,8] (.load none (.t 9))<|
.p 11 [10,8] (.un .not (.t 10))<|
.p 12 [11,8] (.mov (.t 11))<|
.grp 12 false (.p 13 [1,12] Jd<|
.p 14 [2,12] (.faddr 4 (.t 2))<|
.op (some 15) .i [14,12] (.load none (.t 14))<|
.p 16 [13,15,12] (.bin .geq .none (.t 13) (.t 15))<|
.nil) 17 [12,16,8] (.t 12) Pw (.t 16)<|
.p 18 [17,8] (.mov (.t 17))<|
.grp 18 true (.p 19 [2,18] (.faddr 2 (.t 2))<|
.op (some 20) .bool [19,18] (.load none (.t 19))<|
.p 21 [20,18] (.un .not (.t 20))<|
.p 22 [21,18] (.mov (.t 21))<|
.grp 22 false (.p 23 [1,22] Jd<|
.p 24 [2,22] (.faddr 5 (.t 2))<|
.op (some 25) .i [24,22] (.load none (.t 24))<|
.p 26 [23,25,22] (.bin .leq .none (.t 23) (.t 25))<|
.nil) 27 [22,26,18] (.t 22) Pw (.t 26)<|
.nil) 28 [18,27,8] (.t 18) (.t 27) Ln<|
.nil) 29 8 28<|
.m 4 29<|
.nil)
 .ret))
def VY (E:EB) (D:Ak) (W:AI) (a b c d:Bool) (e f g:Int) (Z:H):AH:=
 Gn [.bool a,.bool b,.bool c,.bool d,.int .i64 e,.int .i64 f] Z fun s1=>
 Bc E s1 (H.next Z) 0 fun u2=>
 AZ u2 fun x3=>
 Aa (fun c4 s5=>
 some ((V.bool c4),s5)) fun k6=>
 AK (not x3) (
 k6 true s1) (
 Bc E s1 (H.next Z) 1 fun u7=>
 AZ u7 fun x8=>
 Aa (fun c9 s10=>
 Aa (fun c12 s13=>
 k6 c12 s13) fun k14=>
 AK c9 (
 Bc E s10 (H.next Z) 2 fun u15=>
 AZ u15 fun x16=>
 Aa (fun c17 s18=>
 k14 c17 s18) fun k19=>
 AK (not x16) (
 k19 true s10) (
 Bc E s10 (H.next Z) 5 fun u20=>
 Am .i64 u20 fun x21=>
 k19 (Hp g x21) s10)) (
 k14 false s10)) fun k11=>
 AK (not x8) (
 k11 true s1) (
 Bc E s1 (H.next Z) 4 fun u22=>
 Am .i64 u22 fun x23=>
 k11 (Hp x23 g) s1))
def gG (N:Nat) (args:List V) (Z:H):AH:=
 AE args fun x1 l2=>
 Bm x1 fun l3=>
 DQ l3 fun x6 l5=>
 DQ l5 fun x9 l8=>
 DQ l8 fun x12 l11=>
 DQ l11 fun x15 l14=>
 Ah .i64 l14 fun x18 l17=>
 Ah .i64 l17 fun x21 l20=>
 AP l20 (
 Ah .i64 l2 fun x24 l23=>
 AP l23 (
 VY E D W x6 x9 x12 x15 x18 x21 x24 Z))
def AIu:DR:=⟨30,[y28,.i],[(.tmp 4)],wh⟩
theorem AC2 (args:List V) (Z:H):Bq E D W N AIu args Z=gG E D W N args Z:=by kernel_rfl
def wg:XC:=(.z (.P 4 (.box 97 (.t 1))<|
.P 5 (.box 34 (.t 2))<|
.c 6 y3<|
.nil)
 (.z (.O 7 y1 (.load (some 6) (.t 5))<|
.k 8 .bool 99 [(.t 7),(.i 2)]<|
.m 9 8<|
.gA 9 true (.p 10 [5,9] (.faddr 2 (.t 5))<|
.p 11 [10,9] (.load none (.t 10))<|
.p 12 [11,9] (.len false (.t 11))<|
.p 13 [12,9] (.bin .leq .none (.t 12) (.i 70000))<|
.nil) 14 9 13<|
.m 15 14<|
.gA 15 true (.p 16 [4,15] (.faddr 2 (.t 4))<|
.p 17 [16,15] (.faddr 3 (.t 16))<|
.op (some 18) .bool [17,15] (.load none (.t 17))<|
.p 19 [18,15] (.mov (.t 18))<|
.grp 19 false (.p 20 [4,19] (.faddr 2 (.t 4))<|
.op (some 21) y28 [20,19] (.load (some 6) (.t 20))<|
.p 22 [5,19] (.faddr 2 (.t 5))<|
.p 23 [22,19] (.load none (.t 22))<|
.p 24 [23,19] (.len false (.t 23))<|
.op (some 25) .bool [21,24,19] (.call 100 [(.t 21),(.t 24)])<|
.nil) 26 [19,25,15] (.t 19) Pw (.t 25)<|
.nil) 27 15 26<|
.m 28 27<|
.gA 28 true (.p 29 [4,28] (.faddr 0 (.t 4))<|
.op (some 30) .i [29,28] (.load none (.t 29))<|
.p 31 [30,28] (.bin .eql .none (.t 30) (.i 5))<|
.p 32 [31,28] (.mov (.t 31))<|
.grp 32 false (.p 33 [5,32] (.faddr 2 (.t 5))<|
.p 34 [33,32] (.load none (.t 33))<|
.op (some 35) .bool [34,32] (.call 123 [(.t 34)])<|
.nil) 36 [32,35,28] (.t 32) Pw (.t 35)<|
.nil) 37 28 36<|
.m 6 37<|
.nil)
 .ret))
def VX (E:EB) (D:Ak) (W:AI) (a:V) (b:Int) (c:V) (d e f g:Bool) (h i:Int) (j k:V) (l:Int) (m:Bool) (o p q:Int) (r s:V) (t:Int) (u:V) (Z:H):AH:=
 Gn [.int .i64 b,c,.bool d,.bool e,.bool f,.bool g,.int .i64 h,.int .i64 i,j,k,.int .i64 l,.bool m,.int .i64 o] Z fun s1=>
 Gn [.int .i64 p,.int .i64 q,r,s,.int .i64 t,u] s1 fun s2=>
 BH E s2 (H.next s1) 0 6 fun l3=>
 Ah .i64 l3 fun x6 l5=>
 Ah .i64 l5 fun x9 l8=>
 AE l8 fun x10 l11=>
 AE l11 fun x12 l13=>
 Ah .i64 l13 fun x16 l15=>
 AE l15 fun x17 l18=>
 AP l18 (
 AV (D 99 [.agg [.int .i64 x6,.int .i64 x9,x10,x12,.int .i64 x16,x17],.int .i64 (AA 2)] s2) fun u19 s20=>
 AZ u19 fun x21=>
 Aa (fun c22 s23=>
 Aa (fun c25 s26=>
 Aa (fun c28 s29=>
 some ((V.bool c28),s29)) fun k30=>
 AK c25 (
 Bc E s26 (H.next Z) 0 fun u31=>
 Am .i64 u31 fun x32=>
 Aa (fun c33 s34=>
 k30 c33 s34) fun k35=>
 AK (B4 x32 (AA 5)) (
 k35 true s26) (
 Bc E s26 (H.next s1) 2 fun u36=>
 AV (D 123 [u36] s26) fun u37 s38=>
 AZ u37 fun x39=>
 k35 x39 s38)) (
 k30 false s26)) fun k27=>
 AK c22 (
 Bc E s23 (H.next Z) 5 fun u40=>
 AZ u40 fun x41=>
 Aa (fun c42 s43=>
 k27 c42 s43) fun k44=>
 AK x41 (
 k44 true s23) (
 BH E s23 (H.next Z) 2 6 fun l45=>
 DQ l45 fun x48 l47=>
 DQ l47 fun x51 l50=>
 DQ l50 fun x54 l53=>
 DQ l53 fun x57 l56=>
 Ah .i64 l56 fun x60 l59=>
 Ah .i64 l59 fun x63 l62=>
 AP l62 (
 Bc E s23 (H.next s1) 2 fun u64=>
 A2 u64 fun n65=>
 AV (D 100 [.agg [.bool x48,.bool x51,.bool x54,.bool x57,.int .i64 x60,.int .i64 x63],.int .i64 (AA n65)] s23) fun u66 s67=>
 AZ u66 fun x68=>
 k44 x68 s67))) (
 k27 false s23)) fun k24=>
 AK x21 (
 Bc E s20 (H.next s1) 2 fun u69=>
 A2 u69 fun n70=>
 k24 (Hp (AA n70) (AA 70000)) s20) (
 k24 false s20))
def gF (N:Nat) (args:List V) (Z:H):AH:=
 AE args fun x1 l2=>
 AE l2 fun x3 l4=>
 Bm x3 fun l5=>
 Ah .i64 l5 fun x8 l7=>
 AE l7 fun x9 l10=>
 DQ l10 fun x13 l12=>
 DQ l12 fun x16 l15=>
 DQ l15 fun x19 l18=>
 DQ l18 fun x22 l21=>
 Ah .i64 l21 fun x25 l24=>
 Ah .i64 l24 fun x28 l27=>
 AE l27 fun x29 l30=>
 AE l30 fun x31 l32=>
 Ah .i64 l32 fun x35 l34=>
 DQ l34 fun x38 l37=>
 Ah .i64 l37 fun x41 l40=>
 AP l40 (
 AE l4 fun x42 l43=>
 Bm x42 fun l44=>
 Ah .i64 l44 fun x47 l46=>
 Ah .i64 l46 fun x50 l49=>
 AE l49 fun x51 l52=>
 AE l52 fun x53 l54=>
 Ah .i64 l54 fun x57 l56=>
 AE l56 fun x58 l59=>
 AP l59 (
 AP l43 (
 VX E D W x1 x8 x9 x13 x16 x19 x22 x25 x28 x29 x31 x35 x38 x41 x47 x50 x51 x53 x57 x58 Z)))
def AIt:DR:=⟨38,[.any,y2,y1],[(.tmp 6)],wg⟩
theorem AC1 (args:List V) (Z:H):Bq E D W N AIt args Z=gF E D W N args Z:=by kernel_rfl
end
end Go.Proofs.YtoengnbdallegaaGreatDoor
