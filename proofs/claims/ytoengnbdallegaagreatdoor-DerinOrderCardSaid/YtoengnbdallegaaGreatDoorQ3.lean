/- What the last text leans on, part 4 of 7: merged out of smaller texts. No condition. -/
import Derived.KernelRfl
import Derived.Test.YtoengnbdallegaaGreatDoorQ2
open Int renaming ofNat -> AA,negSucc -> CG
open Nat renaming ble -> Ag,add -> Ar
open List renaming replicate -> AY
set_option linter.all false
set_option maxRecDepth 100000
set_option maxHeartbeats 0
namespace Go.Proofs.YtoengnbdallegaaGreatDoor
open Go Go.Og
noncomputable section
variable (E:EB) (D:Al) (W:AE) (N:Nat)
def Yl:List (Nat × Co):=[(0,.ptr),(7,.ptr),(8,.any),(49,.any),(50,.i),(51,.i)]
def qM:List (Nat × Co):=[(5,.ptr),(7,.ptr)]
def pQ:List BC:=[⟨(some 39),.faddr 1 (.tmp 7),none⟩,⟨(some 40),.load none (.tmp 39),none⟩,⟨(some 41),.faddr 1 (.tmp 5),none⟩,⟨(some 42),.load none (.tmp 41),none⟩,⟨(some 43),.call 59 [(.tmp 42)],none⟩,⟨(some 44),.buildSlice 29 1 [V.nils] [(0,1,(.tmp 43))],none⟩,⟨(some 45),.call 71 [(.tmp 40),(.con (V.bool false)),(.tmp 44)],none⟩,⟨(some 6),.mov (.tmp 45),none⟩]
def pK:List DP:=[⟨0,[7]⟩,⟨1,[39]⟩,⟨0,[5]⟩,⟨4,[41]⟩,⟨12,[42]⟩,⟨28,[43]⟩,⟨63,[40,44]⟩,⟨127,[45]⟩]
def pP:List BC:=[⟨(some 79),.faddr 1 (.tmp 7),none⟩,⟨(some 80),.load none (.tmp 79),none⟩,⟨(some 81),.mov (.tmp 0),none⟩,⟨(some 82),.faddr 9 (.tmp 7),none⟩,⟨(some 83),.load none (.tmp 82),none⟩,⟨(some 84),.faddr 1 (.tmp 5),none⟩,⟨(some 85),.load none (.tmp 84),none⟩,⟨(some 86),.iaddrS 11 (.tmp 83) (.tmp 85),none⟩,⟨(some 87),.faddr 1 (.tmp 86),none⟩,⟨(some 88),.load none (.tmp 87),none⟩,⟨(some 89),.faddr 3 (.tmp 5),none⟩,⟨(some 90),.load none (.tmp 89),none⟩,⟨(some 91),.iaddrS 6 (.tmp 90) (.con (V.int .i64 (AA 0))),none⟩,⟨(some 92),.load (some 6) (.tmp 91),none⟩,⟨(some 93),.call 42 [(.tmp 81),(.tmp 88),(.tmp 92)],none⟩,⟨(some 94),.buildSlice 29 1 [V.nils] [(0,1,(.tmp 93))],none⟩,⟨(some 95),.call 71 [(.tmp 80),(.con (V.bool true)),(.tmp 94)],none⟩,⟨(some 6),.mov (.tmp 95),none⟩]
def pJ:List DP:=[⟨0,[7]⟩,⟨1,[79]⟩,⟨0,[0]⟩,⟨0,[7]⟩,⟨8,[82]⟩,⟨0,[5]⟩,⟨32,[84]⟩,⟨120,[83,85]⟩,⟨248,[86]⟩,⟨504,[87]⟩,⟨0,[5]⟩,⟨1024,[89]⟩,⟨3072,[90]⟩,⟨7168,[91]⟩,⟨16380,[81,88,92]⟩,⟨32764,[93]⟩,⟨65535,[80,94]⟩,⟨131071,[95]⟩]
def pN:List BC:=[⟨(some 99),.faddr 1 (.tmp 7),none⟩,⟨(some 100),.load none (.tmp 99),none⟩,⟨(some 101),.mov (.tmp 0),none⟩,⟨(some 102),.load (some 13) (.tmp 7),none⟩,⟨(some 103),.load (some 6) (.tmp 5),none⟩,⟨(some 104),.call 72 [(.tmp 101),(.tmp 102),(.tmp 103)],none⟩,⟨(some 105),.call 71 [(.tmp 100),(.con (V.bool true)),(.tmp 104)],none⟩,⟨(some 6),.mov (.tmp 105),none⟩]
def pI:List DP:=[⟨0,[7]⟩,⟨1,[99]⟩,⟨0,[0]⟩,⟨0,[7]⟩,⟨0,[5]⟩,⟨28,[101,102,103]⟩,⟨63,[100,104]⟩,⟨127,[105]⟩]
def D1 (E:EB):St->AG:=fun s=>Cy E s [(.tmp 6)] fun l=>some (DH l,s.Z)
def Hu (c0:XC):St->AG:=dX E D W N (.keep qM [] [] c0) (D1 E) nX (D1 E)
def im (c0 c1:XC):Nat->St->AG:=BN 1 (dX E D W N (.keep [(7,.ptr),(8,.any)] [] [] c0) (Hu E D W N c1) (BN 0 (Hu E D W N c1) nX) (D1 E)) (BN 0 (Hu E D W N c1) nX)
def fI (cc1:XC) (cc2:XC):XC:=(.z (.P 5 (.box 34 (.t 2))<|
.c 6 V.nils<|
.nil)
 (.z (.m 11 0<|
.n 12 11<|
.f 13 0 12<|
.f 14 3 13<|
.l 15 .any 14<|
.m 16 1<|
.s 17 13 15 16<|
.O 18 y2 (.load (some 13) (.t 17))<|
.p 7 [] (.alloc 97 [y0,V.nils,y3,y3,y3,y3,y0,y0,V.nils,V.nils,y0,y3,y0])<|
.op none y2 [7,18] (.store 13 (.t 7) (.t 18))<|
.nil)
 (.seq (.z (.f 19 0 7<|
.l 20 .i 19<|
.nil)
 (.block 0 (.z (.b 22 .eql .none (.t 20) (.i 1)<|
.m 21 22<|
.nil)
 (.cond (.tmp 21) (.seq (.z (.f 23 1 5<|
.l 24 .i 23<|
.b 25 .eql .none (.t 24) (.i 1)<|
.nil)
 (.cond (.tmp 25) (.z (.f 26 1 7<|
.l 27 .any 26<|
.p 28 [] (.buildSlice 5 1 [y5] [(0,1,(.con (V.int .u8 (AA 255))))])<|
.p 29 [28] (.buildSlice 29 1 [V.nils] [(0,1,(.t 28))])<|
.k 30 .one 71 [(.t 27),Kl,(.t 29)]<|
.m 6 30<|
.nil)
 .ret)
 .skip))
 (.z (.f 31 1 7<|
.l 32 .any 31<|
.p 33 [] (.buildSlice 5 1 [y5] [(0,1,(.con y5))])<|
.p 34 [33] (.buildSlice 29 1 [V.nils] [(0,1,(.t 33))])<|
.k 35 .one 71 [(.t 32),Kl,(.t 34)]<|
.m 6 35<|
.nil)
 .ret))
 (.seq (.z (.b 37 .eql .none (.t 20) (.i 2)<|
.m 36 37<|
.nil)
 (.cond (.tmp 36) .skip
 (.ops (.b 38 .eql .none (.t 20) (.i 3)<|
.m 36 38<|
.nil))))
 (.keep [(0,.ptr),(5,.ptr),(7,.ptr),(20,.i),(36,.bool)] [] [] cc2))))))
 (.keep qM [] [] cc1))))
def lv (E:EB) (D:Al) (W:AE) (K2:Nat->Nat->Nat->Nat->Nat->Nat->Int->Bool->H->AG) (a b:Nat) (c d e:Int) (f g:V) (h:Int) (i:V) (Z:H):AG:=
 Gi [.int .i64 d,.int .i64 e,f,g,.int .i64 h,i] Z fun s1=>
 BY E s1 a (Ar b 3) fun u2=>
 Ab 13 u2 c fun b3 o4=>
 BV E s1 b3 o4 13 fun l5=>
 Ah .i64 l5 fun x8 l7=>
 AB l7 fun x9 l10=>
 C7 l10 fun x13 l12=>
 C7 l12 fun x16 l15=>
 C7 l15 fun x19 l18=>
 C7 l18 fun x22 l21=>
 Ah .i64 l21 fun x25 l24=>
 Ah .i64 l24 fun x28 l27=>
 AB l27 fun x29 l30=>
 AB l30 fun x31 l32=>
 Ah .i64 l32 fun x35 l34=>
 C7 l34 fun x38 l37=>
 Ah .i64 l37 fun x41 l40=>
 AT l40 (
 let s42:=B6 s1 (.cells [.int .i64 (AA 0),V.nils,.bool false,.bool false,.bool false,.bool false,.int .i64 (AA 0),.int .i64 (AA 0),V.nils,V.nils,.int .i64 (AA 0),.bool false,.int .i64 (AA 0)]);
 FY 13 (H.next s1) 0 (V.agg [.int .i64 x8,x9,.bool x13,.bool x16,.bool x19,.bool x22,.int .i64 x25,.int .i64 x28,x29,x31,.int .i64 x35,.bool x38,.int .i64 x41]) s42 fun s43=>
 BY E s43 (H.next s1) 0 fun u44=>
 Aj .i64 u44 fun x45=>
 AJ (B5 x45 (AA 1)) (
 BY E s43 (H.next Z) 1 fun u46=>
 Aj .i64 u46 fun x47=>
 AJ (B5 x47 (AA 1)) (
 BY E s43 (H.next s1) 1 fun u48=>
 let s49:=B6 s43 (.cells [.int .u8 (AA 255)]);
 let s50:=B6 s49 (.cells [.sl (H.next s43) 0 1 (.ex 1)]);
 AV (D 71 [u48,.bool false,.sl (H.next s49) 0 1 (.ex 1)] s50) fun u51 s52=>
 BU u51 (
 some (u51,s52))) (
 BY E s43 (H.next s1) 1 fun u53=>
 let s54:=B6 s43 (.cells [.int .u8 (AA 0)]);
 let s55:=B6 s54 (.cells [.sl (H.next s43) 0 1 (.ex 1)]);
 AV (D 71 [u53,.bool false,.sl (H.next s54) 0 1 (.ex 1)] s55) fun u56 s57=>
 BU u56 (
 some (u56,s57)))) (
 AJ (B5 x45 (AA 2)) (
 K2 a b (H.next Z) 0 (H.next s1) 0 x45 (B5 x45 (AA 2)) s43) (
 K2 a b (H.next Z) 0 (H.next s1) 0 x45 (B5 x45 (AA 3)) s43)))
def Gb:XC:=(.z (.f 106 1 7<|
.l 107 .any 106<|
.f 108 2 5<|
.l 109 .any 108<|
.p 110 [109] (.buildSlice 29 1 [V.nils] [(0,1,(.t 109))])<|
.k 111 .one 71 [(.t 107),Kl,(.t 110)]<|
.m 6 111<|
.nil)
 .ret)
def yk (E:EB) (D:Al) (W:AE) (a b c d:Nat) (Z:H):AG:=
 BY E Z c (Ar d 1) fun u1=>
 BY E Z a (Ar b 2) fun u2=>
 H7 [(0,1,u2)] [V.nils] fun l3=>
 Fx (allOne l3) (
 let s4:=B6 Z (.cells l3);
 AV (D 71 [u1,.bool false,.sl (H.next Z) 0 1 (.ex 1)] s4) fun u5 s6=>
 BU u5 (
 some (u5,s6)))
def Tx (cc3:XC) (cc4:XC) (cc5:XC):XC:=(.cond (.tmp 36) (.seq (.keep qM [] [] (.gdraw pQ pK [(6,.any)]))
 .ret)
 (.z (.b 47 .eql .none (.t 20) (.i 10)<|
.m 46 47<|
.nil)
 (.cond (.tmp 46) (.z (.c 8 V.nils<|
.nil)
 (.seq (.z (.f 48 3 5<|
.l 49 .any 48<|
.u 50 49<|
.q 51 0<|
.nil)
 (.block 1 (.loop Yl [] [] cc4)))
 (.keep [(7,.ptr),(8,.any)] [] [] cc3)))
 (.z (.b 69 .eql .none (.t 20) (.i 9)<|
.m 68 69<|
.nil)
 (.cond (.tmp 68) (.seq (.z (.f 70 0 5<|
.l 71 .i 70<|
.b 72 .eql .none (.t 71) (.i 12)<|
.nil)
 (.cond (.tmp 72) (.z (.f 73 1 7<|
.l 74 .any 73<|
.f 75 2 5<|
.l 76 .any 75<|
.p 77 [76] (.buildSlice 29 1 [V.nils] [(0,1,(.t 76))])<|
.k 78 .one 71 [(.t 74),QV,(.t 77)]<|
.m 6 78<|
.nil)
 .ret)
 .skip))
 (.seq (.keep [(0,.ptr),(5,.ptr),(7,.ptr)] [] [] (.gdraw pP pJ [(6,.any)]))
 .ret))
 (.seq (.z (.b 97 .eql .none (.t 20) (.i 7)<|
.m 96 97<|
.nil)
 (.cond (.tmp 96) .skip
 (.ops (.b 98 .eql .none (.t 20) (.i 8)<|
.m 96 98<|
.nil))))
 (.keep [(0,.ptr),(5,.ptr),(7,.ptr),(96,.bool)] [] [] cc5)))))))
def lu (K4:Nat->Nat->Nat->Nat->V->V->Int->Int->H->AG) (K5:Nat->Nat->Nat->Nat->Nat->Nat->Bool->H->AG) (a b c d e f:Nat) (g:Int) (h:Bool) (Z:H):AG:=
 AJ h (
 Cp (W pQ pK [(5,.ptr c d),(7,.ptr e f)] Z) fun e1 s2=>
 BR e1 6 fun u3=>
 some (u3,s2)) (
 AJ (B5 g (AA 10)) (
 BY E Z c (Ar d 3) fun u4=>
 A0 u4 fun n5=>
 K4 a b e f V.nils u4 (AA n5) (AA 0) Z) (
 AJ (B5 g (AA 9)) (
 BY E Z c d fun u6=>
 Aj .i64 u6 fun x7=>
 AJ (B5 x7 (AA 12)) (
 BY E Z e (Ar f 1) fun u8=>
 BY E Z c (Ar d 2) fun u9=>
 H7 [(0,1,u9)] [V.nils] fun l10=>
 Fx (allOne l10) (
 let s11:=B6 Z (.cells l10);
 AV (D 71 [u8,.bool true,.sl (H.next Z) 0 1 (.ex 1)] s11) fun u12 s13=>
 BU u12 (
 some (u12,s13)))) (
 Cp (W pP pJ [(0,.ptr a b),(5,.ptr c d),(7,.ptr e f)] Z) fun e14 s15=>
 BR e14 6 fun u16=>
 some (u16,s15))) (
 AJ (B5 g (AA 7)) (
 K5 a b c d e f (B5 g (AA 7)) Z) (
 K5 a b c d e f (B5 g (AA 8)) Z))))
def J0:XC:=(.z (.f 64 1 7<|
.l 65 .any 64<|
.m 66 8<|
.k 67 .one 71 [(.t 65),QV,(.t 66)]<|
.m 6 67<|
.nil)
 .ret)
def lr (E:EB) (D:Al) (W:AE) (a b:Nat) (c:V) (Z:H):AG:=
 BY E Z a (Ar b 1) fun u1=>
 AV (D 71 [u1,.bool true,c] Z) fun u2 s3=>
 BU u2 (
 some (u2,s3))
def Mp:XC:=(.z (.b 52 .lss .none (.t 51) (.t 50)<|
.nil)
 (.seq (.cond (.tmp 52) .skip
 (.exit 1))
 (.seq (.block 2 (.z (.s 53 6 49 51<|
.O 54 y1 (.load (some 6) (.t 53))<|
.pal 10 [] 34 [y0,y0,V.nils,V.nils,y0,V.nils]<|
.op none y1 [10,54] (.store 6 (.t 10) (.t 54))<|
.nil)
 (.ops (.m 55 8<|
.m 56 0<|
.f 57 12 7<|
.l 58 .i 57<|
.O 59 y1 (.load (some 6) (.t 10))<|
.k 60 .one 42 [(.t 56),(.t 58),(.t 59)]<|
.p 61 [60] (.buildSlice 29 1 [V.nils] [(0,1,(.t 60))])<|
.O 62 .one (.append 29 1 24 (.t 55) (.t 61))<|
.m 8 62<|
.nil))))
 (.ops (.b 63 .add .none (.t 51) (.i 1)<|
.m 51 63<|
.nil)))))
def lq (E:EB) (D:Al) (W:AE) (K3:Nat->Nat->V->H->AG) (R4:Nat->Nat->Nat->Nat->V->V->Int->Int->H->AG) (a b c d:Nat) (e f:V) (g h:Int) (Z:H):AG:=
 AJ (Cr h g) (
 Ab 6 f h fun b1 o2=>
 BV E Z b1 o2 6 fun l3=>
 Ah .i64 l3 fun x6 l5=>
 Ah .i64 l5 fun x9 l8=>
 AB l8 fun x10 l11=>
 AB l11 fun x12 l13=>
 Ah .i64 l13 fun x16 l15=>
 AB l15 fun x17 l18=>
 AT l18 (
 Fx (allOne [.int .i64 x6,.int .i64 x9,x10,x12,.int .i64 x16,x17]) (
 BY E Z c (Ar d 12) fun u19=>
 Aj .i64 u19 fun x20=>
 AV (D 42 [.ptr a b,.int .i64 x20,.agg [.int .i64 x6,.int .i64 x9,x10,x12,.int .i64 x16,x17]] Z) fun u21 s22=>
 BU u21 (
 H7 [(0,1,u21)] [V.nils] fun l23=>
 Fx (allOne l23) (
 let s24:=B6 s22 (.cells l23);
 DI E 1 24 e (V.sl (H.next s22) 0 1 (.ex 1)) s24 fun u25 s26=>
 BU u25 (
 R4 a b c d u25 f g (CM .i64 h (AA 1)) s26)))))) (
 K3 c d e Z)
def OU:XC:=(.cond (.tmp 96) (.seq (.keep [(0,.ptr),(5,.ptr),(7,.ptr)] [] [] (.gdraw pN pI [(6,.any)]))
 .ret)
 .skip)
def lj (E:EB) (D:Al) (W:AE) (K1:Nat->Nat->Nat->Nat->H->AG) (a b c d e f:Nat) (g:Bool) (Z:H):AG:=
 AJ g (
 Cp (W pN pI [(0,.ptr a b),(5,.ptr c d),(7,.ptr e f)] Z) fun e1 s2=>
 BR e1 6 fun u3=>
 some (u3,s2)) (
 K1 c d e f Z)
def mg (a b:Nat) (c d e:Int) (f g:V) (h:Int) (i:V) (Z:H):St:=⟨[(0,.ptr a b),(1,.int .i64 c),(2,.agg [.int .i64 d,.int .i64 e,f,g,.int .i64 h,i])],[],[],Z⟩
def mf (a b c d:Nat) (Z:H):St:=⟨[(5,.ptr a b),(7,.ptr c d)],[],[],Z⟩
def cT (a b c d e f:Nat) (g:Int) (h:Bool) (Z:H):St:=⟨[(0,.ptr a b),(5,.ptr c d),(7,.ptr e f),(20,.int .i64 g),(36,.bool h)],[],[],Z⟩
def cS (a b:Nat) (c:V) (Z:H):St:=⟨[(7,.ptr a b),(8,c)],[],[],Z⟩
def WN (a b c d:Nat) (e f:V) (g h:Int) (Z:H):St:=⟨[(0,.ptr a b),(7,.ptr c d),(8,e),(49,f),(50,.int .i64 g),(51,.int .i64 h)],[],[],Z⟩
def cR (a b c d e f:Nat) (g:Bool) (Z:H):St:=⟨[(0,.ptr a b),(5,.ptr c d),(7,.ptr e f),(96,.bool g)],[],[],Z⟩
theorem AAT (cc1:XC) (cc2:XC) (a b:Nat) (c d e:Int) (f g:V) (h:Int) (i:V) (Z:H) :
 AM E D W N (fI cc1 cc2) (mg a b c d e f g h i Z) (D1 E) nX (D1 E) =
 lv E D W (fun a b j k l m o p Z=>AM E D W N cc2 (cT a b j k l m o p Z) (Hu E D W N cc1) (BN 0 (Hu E D W N cc1) nX) (D1 E)) a b c d e f g h i Z:=by kernel_rfl
theorem AAS (cc1:XC) (cc3:XC) (cc4:XC) (cc5:XC) (a b c d e f:Nat) (g:Int) (h:Bool) (Z:H) :
 AM E D W N (Tx cc3 cc4 cc5) (cT a b c d e f g h Z) (Hu E D W N cc1) (BN 0 (Hu E D W N cc1) nX) (D1 E) =
 lu E D W (fun a b e f i j k l Z=>Af (fun rec s'=>AM E D W N cc4 s' (kX Yl [] [] rec) (im E D W N cc3 cc1) (D1 E)) N (WN a b e f i j k l Z)) (fun a b c d e f m Z=>AM E D W N cc5 (cR a b c d e f m Z) (Hu E D W N cc1) (BN 0 (Hu E D W N cc1) nX) (D1 E)) a b c d e f g h Z:=by kernel_rfl
theorem AAR (cc1:XC) (a b:Nat) (c:V) (Z:H) :
 AM E D W N (J0 ) (cS a b c Z) (Hu E D W N cc1) (BN 0 (Hu E D W N cc1) nX) (D1 E) =
 lr E D W  a b c Z:=by kernel_rfl
theorem AAQ (cc1:XC) (cc3:XC) (li4:St->AG) (a b c d:Nat) (e f:V) (g h:Int) (Z:H) :
 AM E D W N (Mp ) (WN a b c d e f g h Z) (kX Yl [] [] li4) (im E D W N cc3 cc1) (D1 E) =
 lq E D W (fun c d e Z=>AM E D W N cc3 (cS c d e Z) (Hu E D W N cc1) (BN 0 (Hu E D W N cc1) nX) (D1 E)) (fun a b c d e f g h Z=>li4 (WN a b c d e f g h Z)) a b c d e f g h Z:=by kernel_rfl
theorem AAP (cc1:XC) (a b c d e f:Nat) (g:Bool) (Z:H) :
 AM E D W N (OU ) (cR a b c d e f g Z) (Hu E D W N cc1) (BN 0 (Hu E D W N cc1) nX) (D1 E) =
 lj E D W (fun c d e f Z=>AM E D W N cc1 (mf c d e f Z) (D1 E) nX (D1 E)) a b c d e f g Z:=by kernel_rfl
def oT (E:EB) (D:Al) (W:AE) (N:Nat):=lr E D W
theorem ub (a b:Nat) (c:V) (Z:H) :
 AM E D W N J0 (cS a b c Z) (Hu E D W N Gb) (BN 0 (Hu E D W N Gb) nX) (D1 E)=oT E D W N a b c Z:=by
 refine(AAR E D W N Gb  a b c Z).trans ?_
 kernel_rfl
def nJ (n:Nat):Nat->Nat->Nat->Nat->V->V->Int->Int->H->AG:=
 Nat.rec (fun _ _ _ _ _ _ _ _ _=>none) (fun _ ih=>lq E D W (oT E D W N ) ih) n
theorem ta (n:Nat):∀(a b c d:Nat) (e f:V) (g h:Int) (Z:H),
 Af (fun rec s'=>AM E D W N Mp s' (kX Yl [] [] rec) (im E D W N J0 Gb) (D1 E)) n (WN a b c d e f g h Z)=nJ E D W N n a b c d e f g h Z:=by
 induction n with
 | zero=>intro a b c d e f g h Z;rfl
 | succ n ihn=>
  intro a b c d e f g h Z
  rw[Ak]
  refine(AAQ E D W N Gb J0 (Af (fun rec s'=>AM E D W N Mp s' (kX Yl [] [] rec) (im E D W N J0 Gb) (D1 E)) n) a b c d e f g h Z).trans ?_
  simp only[ihn,ub]
  kernel_rfl
def oV (E:EB) (D:Al) (W:AE) (N:Nat):=yk E D W
theorem ud (a b c d:Nat) (Z:H) :
 AM E D W N Gb (mf a b c d Z) (D1 E) nX (D1 E)=oV E D W N a b c d Z:=by kernel_rfl
def oS:=lj E D W (oV E D W N )
theorem ua (a b c d e f:Nat) (g:Bool) (Z:H) :
 AM E D W N OU (cR a b c d e f g Z) (Hu E D W N Gb) (BN 0 (Hu E D W N Gb) nX) (D1 E)=oS E D W N a b c d e f g Z:=by
 refine(AAP E D W N Gb  a b c d e f g Z).trans ?_
 simp only[ud]
 kernel_rfl
def oU:=lu E D W (nJ E D W N N) (oS E D W N )
theorem uc (a b c d e f:Nat) (g:Int) (h:Bool) (Z:H) :
 AM E D W N (Tx J0 Mp OU) (cT a b c d e f g h Z) (Hu E D W N Gb) (BN 0 (Hu E D W N Gb) nX) (D1 E)=oU E D W N a b c d e f g h Z:=by
 refine(AAS E D W N Gb J0 Mp OU  a b c d e f g h Z).trans ?_
 simp only[ta,ua]
 kernel_rfl
def oW:=lv E D W (oU E D W N )
theorem ue (a b:Nat) (c d e:Int) (f g:V) (h:Int) (i:V) (Z:H) :
 AM E D W N (fI Gb (Tx J0 Mp OU)) (mg a b c d e f g h i Z) (D1 E) nX (D1 E)=oW E D W N a b c d e f g h i Z:=by
 refine(AAT E D W N Gb (Tx J0 Mp OU)  a b c d e f g h i Z).trans ?_
 simp only[uc]
 kernel_rfl
def F42 (args:List V) (Z:H):AG:=
 AB args fun x1 l2=>
 Bv x1 fun b3 o4=>
 Ah .i64 l2 fun x7 l6=>
 AB l6 fun x8 l9=>
 Ba x8 fun l10=>
 Ah .i64 l10 fun x13 l12=>
 Ah .i64 l12 fun x16 l15=>
 AB l15 fun x17 l18=>
 AB l18 fun x19 l20=>
 Ah .i64 l20 fun x23 l22=>
 AB l22 fun x24 l25=>
 AT l25 (
 AT l9 (
 oW E D W N b3 o4 x7 x13 x16 x17 x19 x23 x24 Z))
def A42:C9:=⟨112,[.ptr,.i,y1],[(.tmp 6)],(fI Gb (Tx J0 Mp OU))⟩
theorem AFb (args:List V) (Z:H):Be E D W N A42 args Z=F42 E D W N args Z:=by
 unfold F42
 simp only[<-ue]
 kernel_rfl
def Lv:List (Nat × Co):=[(0,.str),(1,.i)]
def Fg (E:EB):St->AG:=fun s=>Cy E s [(.tmp 4)] fun l=>some (DH l,s.Z)
def aX (c0:XC):Nat->St->AG:=BN 0 (dX E D W N (.keep [(1,.i)] [] [] c0) (Fg E) nX (Fg E)) nX
def il (c0:XC) (l0:St->AG):Nat->St->AG:=BN 3 (kX Lv [] [] l0) (BN 2 (kX Lv [] [] l0) (BN 1 (kX Lv [] [] l0) (aX E D W N c0)))
def fH (cc1:XC) (cc2:XC):XC:=(.z (.q 4 0<|
.nil)
 (.seq (.block 0 (.loop Lv [] [] cc2))
 (.keep [(1,.i)] [] [] cc1)))
def lh (E:EB) (D:Al) (W:AE) (K2:BS->Int->H->AG) (a:BS) (b:Int) (Z:H):AG:=
 K2 a b Z
def Jz:XC:=(.z (.m 74 1<|
.m 4 74<|
.nil)
 .ret)
def yj (E:EB) (D:Al) (W:AE) (a:Int) (Z:H):AG:=
 some ((V.int .i64 a),Z)
def QL (cc3:XC):XC:=(.seq (.z (.m 5 1<|
.m 6 0<|
.P 7 (.len true (.t 6))<|
.b 8 .lss .none (.t 5) (.t 7)<|
.nil)
 (.cond (.tmp 8) .skip
 Lr))
 (.block 1 (.block 2 (.z (.m 11 0<|
.m 12 1<|
.P 13 (.idxStr (.t 11) (.t 12))<|
.b 14 .eql .none (.t 13) (.con (V.int .u8 (AA 32)))<|
.m 15 14<|
.gO 15 false (.p 16 [0,15] y9<|
.p 17 [1,15] Io<|
.p 18 [16,17,15] (.idxStr (.t 16) (.t 17))<|
.p 19 [18,15] (.bin .eql .none (.t 18) (.con (V.int .u8 (AA 9))))<|
.nil) 20 15 19<|
.m 21 20<|
.gO 21 false (.p 22 [0,21] y9<|
.p 23 [1,21] Io<|
.p 24 [22,23,21] (.idxStr (.t 22) (.t 23))<|
.p 25 [24,21] (.bin .eql .none (.t 24) (.con (V.int .u8 (AA 10))))<|
.nil) 26 21 25<|
.m 27 26<|
.gO 27 false (.p 28 [0,27] y9<|
.p 29 [1,27] Io<|
.p 30 [28,29,27] (.idxStr (.t 28) (.t 29))<|
.p 31 [30,27] (.bin .eql .none (.t 30) (.con (V.int .u8 (AA 13))))<|
.nil) 32 27 31<|
.m 10 32<|
.nil)
 (.cond (.tmp 10) (.ops (.m 33 1<|
.b 34 .add .none (.t 33) (.i 1)<|
.m 1 34<|
.nil))
 (.z (.m 36 0<|
.m 37 1<|
.P 38 (.idxStr (.t 36) (.t 37))<|
.b 39 .eql .none (.t 38) ff<|
.m 40 39<|
.gA 40 true (.p 41 [0,40] y9<|
.p 42 [1,40] Io<|
.p 43 [42,40] (.bin .add .none (.t 42) (.i 1))<|
.op (some 44) (.int .u8) [41,43,40] (.call 73 [(.t 41),(.t 43)])<|
.p 45 [44,40] (.bin .eql .none (.t 44) ff)<|
.nil) 46 40 45<|
.m 35 46<|
.nil)
 (.cond (.tmp 35) (.z (.m 47 1<|
.b 48 .add .none (.t 47) (.i 2)<|
.m 1 48<|
.nil)
 (.block 3 (.loop Lv [] [] cc3)))
 (.z (.m 9 1<|
.m 4 9<|
.nil)
 .ret))))))))
def lg (E:EB) (D:Al) (W:AE) (K1:Int->H->AG) (K3:BS->Int->H->AG) (R2:BS->Int->H->AG) (a:BS) (b:Int) (Z:H):AG:=
 AJ (Cr b (AA (BS.len a))) (
 Cs a b fun x1=>
 Ac (fun c2 s3=>
 Ac (fun c5 s6=>
 Ac (fun c8 s9=>
 AJ c8 (
 R2 a (CM .i64 b (AA 1)) s9) (
 Cs a b fun x11=>
 Ac (fun c12 s13=>
 AJ c12 (
 K3 a (CM .i64 b (AA 2)) s13) (
 some ((V.int .i64 b),s13))) fun k14=>
 AJ (B5 x11 (AA 45)) (
 AV (D 73 [.str a,.int .i64 (CM .i64 b (AA 1))] s9) fun u15 s16=>
 Aj .u8 u15 fun x17=>
 k14 (B5 x17 (AA 45)) s16) (
 k14 false s9))) fun k10=>
 AJ c5 (
 k10 true s6) (
 Cs a b fun x18=>
 k10 (B5 x18 (AA 13)) s6)) fun k7=>
 AJ c2 (
 k7 true s3) (
 Cs a b fun x19=>
 k7 (B5 x19 (AA 10)) s3)) fun k4=>
 AJ (B5 x1 (AA 32)) (
 k4 true Z) (
 Cs a b fun x20=>
 k4 (B5 x20 (AA 9)) Z)) (
 K1 b Z)
def Lh:XC:=(.seq (.z (.m 49 1<|
.m 50 0<|
.P 51 (.len true (.t 50))<|
.b 52 .lss .none (.t 49) (.t 51)<|
.m 53 52<|
.gA 53 true (.p 54 [0,53] y9<|
.p 55 [1,53] Io<|
.p 56 [54,55,53] (.idxStr (.t 54) (.t 55))<|
.p 57 [56,53] (.bin .neq .none (.t 56) (.con (V.int .u8 (AA 10))))<|
.nil) 58 53 57<|
.nil)
 (.cond (.tmp 58) .skip
 (.exit 3)))
 (.block 4 (.seq (.z (.m 59 0<|
.m 60 1<|
.P 61 (.idxStr (.t 59) (.t 60))<|
.b 62 .eql .none (.t 61) ff<|
.m 63 62<|
.gA 63 true (.p 64 [0,63] y9<|
.p 65 [1,63] Io<|
.p 66 [65,63] (.bin .add .none (.t 65) (.i 1))<|
.op (some 67) (.int .u8) [64,66,63] (.call 73 [(.t 64),(.t 66)])<|
.p 68 [67,63] (.bin .eql .none (.t 67) ff)<|
.nil) 69 63 68<|
.nil)
 (.cond (.tmp 69) (.z (.m 70 1<|
.b 71 .add .none (.t 70) (.i 2)<|
.m 1 71<|
.nil)
 (.exit 3))
 .skip))
 (.ops (.m 72 1<|
.b 73 .add .none (.t 72) (.i 1)<|
.m 1 73<|
.nil)))))
def la (E:EB) (D:Al) (W:AE) (R2:BS->Int->H->AG) (R3:BS->Int->H->AG) (a:BS) (b:Int) (Z:H):AG:=
 Ac (fun c1 s2=>
 AJ c1 (
 Cs a b fun x4=>
 Ac (fun c5 s6=>
 AJ c5 (
 R2 a (CM .i64 b (AA 2)) s6) (
 R3 a (CM .i64 b (AA 1)) s6)) fun k7=>
 AJ (B5 x4 (AA 45)) (
 AV (D 73 [.str a,.int .i64 (CM .i64 b (AA 1))] s2) fun u8 s9=>
 Aj .u8 u8 fun x10=>
 k7 (B5 x10 (AA 45)) s9) (
 k7 false s2)) (
 R2 a b s2)) fun k3=>
 AJ (Cr b (AA (BS.len a))) (
 Cs a b fun x11=>
 k3 (not (B5 x11 (AA 10))) Z) (
 k3 false Z)
def Il (a:BS) (b:Int) (Z:H):St:=⟨[(0,.str a),(1,.int .i64 b)],[],[],Z⟩
def me (a:Int) (Z:H):St:=⟨[(1,.int .i64 a)],[],[],Z⟩
theorem AAO (cc1:XC) (cc2:XC) (a:BS) (b:Int) (Z:H) :
 AM E D W N (fH cc1 cc2) (Il a b Z) (Fg E) nX (Fg E) =
 lh E D W (fun a b Z=>Af (fun rec s'=>AM E D W N cc2 s' (kX Lv [] [] rec) (aX E D W N cc1) (Fg E)) N (Il a b Z)) a b Z:=by kernel_rfl
theorem AAN (cc1:XC) (cc3:XC) (li2:St->AG) (a:BS) (b:Int) (Z:H) :
 AM E D W N (QL cc3) (Il a b Z) (kX Lv [] [] li2) (aX E D W N cc1) (Fg E) =
 lg E D W (fun b Z=>AM E D W N cc1 (me b Z) (Fg E) nX (Fg E)) (fun a b Z=>Af (fun rec s'=>AM E D W N cc3 s' (kX Lv [] [] rec) (il E D W N cc1 li2) (Fg E)) N (Il a b Z)) (fun a b Z=>li2 (Il a b Z)) a b Z:=by kernel_rfl
theorem AAM (cc1:XC) (li2:St->AG) (li3:St->AG) (a:BS) (b:Int) (Z:H) :
 AM E D W N (Lh ) (Il a b Z) (kX Lv [] [] li3) (il E D W N cc1 li2) (Fg E) =
 la E D W (fun a b Z=>li2 (Il a b Z)) (fun a b Z=>li3 (Il a b Z)) a b Z:=by kernel_rfl
def oQ (E:EB) (D:Al) (W:AE) (N:Nat):=yj E D W
theorem uY (a:Int) (Z:H) :
 AM E D W N Jz (me a Z) (Fg E) nX (Fg E)=oQ E D W N a Z:=by kernel_rfl
def nG (E:EB) (D:Al) (W:AE) (N:Nat) (R2:BS->Int->H->AG) (n:Nat):BS->Int->H->AG:=
 Nat.rec (fun _ _ _=>none) (fun _ ih=>la E D W R2 ih) n
theorem tY (li2:St->AG) (n:Nat):∀(a:BS) (b:Int) (Z:H),
 Af (fun rec s'=>AM E D W N Lh s' (kX Lv [] [] rec) (il E D W N Jz li2) (Fg E)) n (Il a b Z)=nG E D W N (fun a b Z=>li2 (Il a b Z)) n a b Z:=by
 induction n with
 | zero=>intro a b Z;rfl
 | succ n ihn=>
  intro a b Z
  rw[Ak]
  refine(AAM E D W N Jz li2 (Af (fun rec s'=>AM E D W N Lh s' (kX Lv [] [] rec) (il E D W N Jz li2) (Fg E)) n) a b Z).trans ?_
  simp only[ihn]
  kernel_rfl
def nH (n:Nat):BS->Int->H->AG:=
 Nat.rec (fun _ _ _=>none) (fun _ ih=>lg E D W (oQ E D W N ) (nG E D W N ih N) ih) n
theorem tZ (n:Nat):∀(a:BS) (b:Int) (Z:H),
 Af (fun rec s'=>AM E D W N (QL Lh) s' (kX Lv [] [] rec) (aX E D W N Jz) (Fg E)) n (Il a b Z)=nH E D W N n a b Z:=by
 induction n with
 | zero=>intro a b Z;rfl
 | succ n ihn=>
  intro a b Z
  rw[Ak]
  refine(AAN E D W N Jz Lh (Af (fun rec s'=>AM E D W N (QL Lh) s' (kX Lv [] [] rec) (aX E D W N Jz) (Fg E)) n) a b Z).trans ?_
  simp only[ihn,uY,tY]
  kernel_rfl
def oR:=lh E D W (nH E D W N N)
theorem uZ (a:BS) (b:Int) (Z:H) :
 AM E D W N (fH Jz (QL Lh)) (Il a b Z) (Fg E) nX (Fg E)=oR E D W N a b Z:=by
 refine(AAO E D W N Jz (QL Lh)  a b Z).trans ?_
 simp only[tZ]
 kernel_rfl
def F43 (args:List V) (Z:H):AG:=
 Hz args fun x3 l2=>
 Ah .i64 l2 fun x6 l5=>
 AT l5 (
 oR E D W N x3 x6 Z)
def A43:C9:=⟨75,[.str,.i],[(.tmp 4)],(fH Jz (QL Lh))⟩
theorem AFa (args:List V) (Z:H):Be E D W N A43 args Z=F43 E D W N args Z:=by
 unfold F43
 simp only[<-uZ]
 kernel_rfl
def xP:List (Nat × List Co):=[(4,[.i,.str,.i]),(6,[.i,.str,.i])]
def ACf (cc1:XC) (cc2:XC):XC:=(.z (.pal 4 [] 79 [y0,y8,y0]<|
.q 5 0<|
.nil)
 (.z (.m 10 1<|
.op (some 11) y7 [10] (.build [y0,y8,y0] [(2,1,(.t 10))])<|
.pal 6 [] 79 [y0,y8,y0]<|
.op none y7 [6,11] (.store 3 (.t 6) (.t 11))<|
.nil)
 (.z (.m 12 0<|
.m 13 1<|
.P 14 (.idxStr (.t 12) (.t 13))<|
.m 7 14<|
.nil)
 (.z (.c 8 Wl<|
.nil)
 (.seq (.block 0 (.z (.m 32 7<|
.k 33 .bool 74 [(.t 32)]<|
.m 31 33<|
.nil)
 (.cond (.tmp 31) (.z (.m 34 0<|
.m 35 1<|
.k 36 .i 75 [(.t 34),(.t 35)]<|
.m 8 36<|
.nil)
 (.seq (.z (.m 37 8<|
.b 38 .lss .none (.t 37) (.i 0)<|
.nil)
 (.cond (.tmp 38) (.z (.O 39 y7 (.load (some 3) (.t 6))<|
.op none y7 [4,39] (.store 3 (.t 4) (.t 39))<|
.c 5 Wl<|
.nil)
 .ret)
 .skip))
 (.seq (.draw (.m 40 0<|
.m 41 1<|
.m 42 8<|
.p 43 [40,41,42] (.sliceStr (.t 40) (some (.t 41)) (some (.t 42)))<|
.f 44 0 6<|
.op none .any [44] (.store 1 (.t 44) (.i 2))<|
.f 45 1 6<|
.w 1 45 43<|
.nil) [0,0,0,7,0,16,63,127])
 (.seq (.z (.m 46 7<|
.b 47 .leq .none (.t 46) (.con (V.int .u8 (AA 90)))<|
.nil)
 (.cond (.tmp 47) (.ops (.f 48 0 6<|
.op none .any [48] (.store 1 (.t 48) (.i 1))<|
.nil))
 .skip))
 (.keep [(8,.i)] [4,6] xP cc2)))))
 (.z (.m 54 7<|
.k 55 .bool 77 [(.t 54)]<|
.m 56 55<|
.gO 56 false (.p 57 [7,56] (.mov (.t 7))<|
.p 58 [57,56] (.bin .eql .none (.t 57) ff)<|
.p 59 [58,56] (.mov (.t 58))<|
.grp 59 true (.p 60 [0,59] y9<|
.p 61 [1,59] Io<|
.p 62 [61,59] (.bin .add .none (.t 61) (.i 1))<|
.op (some 63) (.int .u8) [60,62,59] (.call 73 [(.t 60),(.t 62)])<|
.op (some 64) .bool [63,59] (.call 77 [(.t 63)])<|
.nil) 65 [59,64,56] (.t 59) (.t 64) Kl<|
.nil) 66 56 65<|
.m 53 66<|
.nil)
 (.cond (.tmp 53) (.z (.m 67 0<|
.m 68 1<|
.k 69 .i 78 [(.t 67),(.t 68)]<|
.m 8 69<|
.nil)
 (.seq (.z (.m 70 8<|
.b 71 .lss .none (.t 70) (.i 0)<|
.nil)
 (.cond (.tmp 71) (.z (.O 72 y7 (.load (some 3) (.t 6))<|
.op none y7 [4,72] (.store 3 (.t 4) (.t 72))<|
.c 5 Wl<|
.nil)
 .ret)
 .skip))
 (.draw (.m 73 0<|
.m 74 1<|
.m 75 8<|
.p 76 [73,74,75] (.sliceStr (.t 73) (some (.t 74)) (some (.t 75)))<|
.f 77 0 6<|
.op none .any [77] (.store 1 (.t 77) (.i 3))<|
.f 78 1 6<|
.w 1 78 76<|
.nil) [0,0,0,7,0,16,63,127])))
 (.z (.m 80 7<|
.b 81 .eql .none (.t 80) (.con (V.int .u8 (AA 39)))<|
.m 79 81<|
.nil)
 (.cond (.tmp 79) (.z (.f 82 0 6<|
.op none .any [82] (.store 1 (.t 82) (.i 4))<|
.nil)
 (.ops (.m 84 0<|
.m 85 1<|
.k 86 (.tup [.i,.str]) 79 [(.t 84),(.t 85)]<|
.m 83 86<|
.P 87 (.extract 0 (.t 83))<|
.P 88 (.extract 1 (.t 83))<|
.m 8 87<|
.f 89 1 6<|
.w 1 89 88<|
.nil)))
 (.z (.m 91 7<|
.b 92 .eql .none (.t 91) (.con (V.int .u8 (AA 34)))<|
.m 90 92<|
.nil)
 (.cond (.tmp 90) (.z (.f 93 0 6<|
.op none .any [93] (.store 1 (.t 93) (.i 7))<|
.nil)
 (.ops (.m 95 0<|
.m 96 1<|
.k 97 (.tup [.i,.str]) 80 [(.t 95),(.t 96)]<|
.m 94 97<|
.P 98 (.extract 0 (.t 94))<|
.P 99 (.extract 1 (.t 94))<|
.m 8 98<|
.f 100 1 6<|
.w 1 100 99<|
.nil)))
 (.z (.m 15 0<|
.m 16 1<|
.k 17 .i 81 [(.t 15),(.t 16)]<|
.m 9 17<|
.nil)
 (.z (.m 18 9<|
.b 19 .gtr .none (.t 18) (.i 0)<|
.nil)
 (.cond (.tmp 19) (.draw (.m 20 0<|
.m 21 1<|
.m 22 1<|
.m 23 9<|
.b 24 .add .none (.t 22) (.t 23)<|
.p 25 [20,21,24] (.sliceStr (.t 20) (some (.t 21)) (some (.t 24)))<|
.m 26 1<|
.m 27 9<|
.b 28 .add .none (.t 26) (.t 27)<|
.f 29 0 6<|
.op none .any [29] (.store 1 (.t 29) (.i 6))<|
.f 30 1 6<|
.w 1 30 25<|
.m 8 28<|
.nil) [0,0,0,0,12,31,0,0,192,0,512,1599,3647,8191])
 .skip))))))))))))
 (.keep [(8,.i)] [4,6] xP cc1))))))
def yi (E:EB) (D:Al) (W:AE) (K1:Int->Int->BS->Int->Int->BS->Int->H->AG) (K2:Int->Int->BS->Int->Int->BS->Int->H->AG) (a:BS) (b:Int) (Z:H):AG:=
 Cs a b fun x1=>
 AV (D 74 [.int .u8 x1] Z) fun u2 s3=>
 Aa u2 fun x4=>
 AJ x4 (
 AV (D 75 [.str a,.int .i64 b] s3) fun u5 s6=>
 Aj .i64 u5 fun x7=>
 AJ (Cr x7 (AA 0)) (
 some ((V.tup [.agg [.int .i64 (AA 0),.str (BS.mk 0 0),.int .i64 b],.int .i64 (CG 0)]),s6)) (
 Ek a (some (V.int .i64 b)) (some (V.int .i64 x7)) fun t8=>
 AJ (I7 x1 (AA 90)) (
 K2 x7 (AA 0) (BS.mk 0 0) (AA 0) (AA 1) t8 b s6) (
 K2 x7 (AA 0) (BS.mk 0 0) (AA 0) (AA 2) t8 b s6))) (
 AV (D 77 [.int .u8 x1] s3) fun u9 s10=>
 Aa u9 fun x11=>
 Ac (fun c12 s13=>
 AJ c12 (
 AV (D 78 [.str a,.int .i64 b] s13) fun u15 s16=>
 Aj .i64 u15 fun x17=>
 AJ (Cr x17 (AA 0)) (
 some ((V.tup [.agg [.int .i64 (AA 0),.str (BS.mk 0 0),.int .i64 b],.int .i64 (CG 0)]),s16)) (
 Ek a (some (V.int .i64 b)) (some (V.int .i64 x17)) fun t18=>
 K1 x17 (AA 0) (BS.mk 0 0) (AA 0) (AA 3) t18 b s16)) (
 AJ (B5 x1 (AA 39)) (
 AV (D 79 [.str a,.int .i64 b] s13) fun u19 s20=>
 C1 u19 fun l21=>
 Ah .i64 l21 fun x24 l23=>
 Hz l23 fun x27 l26=>
 AT l26 (
 K1 x24 (AA 0) (BS.mk 0 0) (AA 0) (AA 4) x27 b s20)) (
 AJ (B5 x1 (AA 34)) (
 AV (D 80 [.str a,.int .i64 b] s13) fun u28 s29=>
 C1 u28 fun l30=>
 Ah .i64 l30 fun x33 l32=>
 Hz l32 fun x36 l35=>
 AT l35 (
 K1 x33 (AA 0) (BS.mk 0 0) (AA 0) (AA 7) x36 b s29)) (
 AV (D 81 [.str a,.int .i64 b] s13) fun u37 s38=>
 Aj .i64 u37 fun x39=>
 AJ (Cr (AA 0) x39) (
 Ek a (some (V.int .i64 b)) (some (V.int .i64 (CM .i64 b x39))) fun t40=>
 K1 (CM .i64 b x39) (AA 0) (BS.mk 0 0) (AA 0) (AA 6) t40 b s38) (
 K1 (CG 0) (AA 0) (BS.mk 0 0) (AA 0) (AA 0) (BS.mk 0 0) b s38))))) fun k14=>
 AJ x11 (
 k14 true s10) (
 Ac (fun c41 s42=>
 k14 c41 s42) fun k43=>
 AJ (B5 x1 (AA 45)) (
 AV (D 73 [.str a,.int .i64 (CM .i64 b (AA 1))] s10) fun u44 s45=>
 Aj .u8 u44 fun x46=>
 AV (D 77 [.int .u8 x46] s45) fun u47 s48=>
 Aa u47 fun x49=>
 k43 x49 s48) (
 k43 false s10)))
def ACe:XC:=(.z (.O 101 y7 (.load (some 3) (.t 6))<|
.m 102 8<|
.op none y7 [4,101] (.store 3 (.t 4) (.t 101))<|
.m 5 102<|
.nil)
 .ret)
def yh (E:EB) (D:Al) (W:AE) (a b:Int) (c:BS) (d e:Int) (f:BS) (g:Int) (Z:H):AG:=
 some ((V.tup [.agg [.int .i64 e,.str f,.int .i64 g],.int .i64 a]),Z)
def ACd:XC:=(.z (.f 49 1 6<|
.l 50 .str 49<|
.k 51 .bool 76 [(.t 50)]<|
.nil)
 (.cond (.tmp 51) (.ops (.f 52 0 6<|
.op none .any [52] (.store 1 (.t 52) (.i 5))<|
.nil))
 .skip))
def yg (E:EB) (D:Al) (W:AE) (K1:Int->Int->BS->Int->Int->BS->Int->H->AG) (a b:Int) (c:BS) (d e:Int) (f:BS) (g:Int) (Z:H):AG:=
 AV (D 76 [.str f] Z) fun u1 s2=>
 Aa u1 fun x3=>
 AJ x3 (
 K1 a b c d (AA 5) f g s2) (
 K1 a b c d e f g s2)
def oP (E:EB) (D:Al) (W:AE) (N:Nat):=yh E D W
def ABK:=yg E D W (oP E D W N )
def F44 (args:List V) (Z:H):AG:=
 Hz args fun x3 l2=>
 Ah .i64 l2 fun x6 l5=>
 AT l5 (
 yi E D W (oP E D W N ) (ABK E D W N ) x3 x6 Z)
def A44:C9:=⟨103,[.str,.i],[(.cell 4 (some 3)),(.tmp 5)],(ACf ACe ACd)⟩
theorem AFZ (args:List V) (Z:H):Be E D W N A44 args Z=F44 E D W N args Z:=by kernel_rfl
def ACc (cc1:XC):XC:=(.z (.pal 2 [] 79 [y0,y8,y0]<|
.nil)
 (.seq (.draw (.m 4 0<|
.n 5 4<|
.f 6 0 5<|
.l 7 .any 6<|
.m 8 0<|
.n 9 8<|
.f 10 1 9<|
.l 11 .i 10<|
.s 12 3 7 11<|
.O 13 y7 (.load (some 3) (.t 12))<|
.pal 3 [] 79 [y0,y8,y0]<|
.op none y7 [3,13] (.store 3 (.t 3) (.t 13))<|
.nil) [0,1,3,7,0,16,48,112,255,511,0,2047])
 (.seq (.seq (.draw (.m 14 0<|
.n 15 14<|
.f 16 1 15<|
.l 17 .i 16<|
.b 18 .add .none (.t 17) (.i 1)<|
.m 19 0<|
.n 20 19<|
.f 21 0 20<|
.l 22 .any 21<|
.u 23 22<|
.b 24 .lss .none (.t 18) (.t 23)<|
.nil) [0,1,3,7,15,0,32,96,224,480,1023])
 (.cond (.tmp 24) (.ops (.m 25 0<|
.n 26 25<|
.f 27 1 26<|
.l 28 .i 27<|
.b 29 .add .none (.t 28) (.i 1)<|
.n 30 25<|
.f 31 1 30<|
.w 1 31 29<|
.nil))
 .skip))
 (.keep [] [2,3] [(2,[.i,.str,.i]),(3,[.i,.str,.i])] cc1))))
def yf (E:EB) (D:Al) (W:AE) (K1:Int->BS->Int->Int->BS->Int->H->AG) (a b:Nat) (Z:H):AG:=
 BY E Z a b fun u1=>
 BY E Z a (Ar b 1) fun u2=>
 Aj .i64 u2 fun x3=>
 Ab 3 u1 x3 fun b4 o5=>
 BV E Z b4 o5 3 fun l6=>
 Ah .i64 l6 fun x9 l8=>
 Hz l8 fun x12 l11=>
 Ah .i64 l11 fun x15 l14=>
 AT l14 (
 BY E Z a (Ar b 1) fun u16=>
 Aj .i64 u16 fun x17=>
 BY E Z a b fun u18=>
 A0 u18 fun n19=>
 AJ (Cr (CM .i64 x17 (AA 1)) (AA n19)) (
 BY E Z a (Ar b 1) fun u20=>
 Aj .i64 u20 fun x21=>
 FY 1 a (Ar b 1) (V.int .i64 (CM .i64 x21 (AA 1))) Z fun s22=>
 K1 (AA 0) (BS.mk 0 0) (AA 0) x9 x12 x15 s22) (
 K1 (AA 0) (BS.mk 0 0) (AA 0) x9 x12 x15 Z))
def ACb:XC:=(.z (.O 32 y7 (.load (some 3) (.t 3))<|
.op none y7 [2,32] (.store 3 (.t 2) (.t 32))<|
.nil)
 .ret)
def ye (E:EB) (D:Al) (W:AE) (a:Int) (b:BS) (c d:Int) (e:BS) (f:Int) (Z:H):AG:=
 some ((V.agg [.int .i64 d,.str e,.int .i64 f]),Z)
def ABJ (E:EB) (D:Al) (W:AE) (N:Nat):=ye E D W
def F45 (args:List V) (Z:H):AG:=
 AB args fun x1 l2=>
 Bv x1 fun b3 o4=>
 AT l2 (
 yf E D W (ABJ E D W N ) b3 o4 Z)
def A45:C9:=⟨33,[.ptr],[(.cell 2 (some 3))],(ACc ACb)⟩
theorem AFY (args:List V) (Z:H):Be E D W N A45 args Z=F45 E D W N args Z:=by kernel_rfl
def Yk:List (Nat × Co):=[(0,.any),(1,.str),(5,.i)]
def Hj (E:EB):St->AG:=fun s=>Cy E s [(.tmp 4)] fun l=>some (DH l,s.Z)
def ik (c0:XC):Nat->St->AG:=BN 0 (dX E D W N (.keep [] [] [] c0) (Hj E) nX (Hj E)) nX
def fG (cc1:XC) (cc2:XC):XC:=(.z (.c 4 y3<|
.nil)
 (.seq (.z (.q 5 0<|
.nil)
 (.block 0 (.loop Yk [] [] cc2)))
 (.keep [] [] [] cc1)))
def lZ (E:EB) (D:Al) (W:AE) (K2:V->BS->Int->H->AG) (a:V) (b:BS) (Z:H):AG:=
 K2 a b (AA 0) Z
def OT:XC:=(.z (.c 4 y3<|
.nil)
 .ret)
def yd (E:EB) (D:Al) (W:AE) (Z:H):AG:=
 some ((V.bool false),Z)
def QK:XC:=(.seq (.z (.m 6 5<|
.m 7 0<|
.u 8 7<|
.b 9 .lss .none (.t 6) (.t 8)<|
.nil)
 kW)
 (.seq (.block 1 (.z (.m 12 0<|
.m 13 5<|
.s 14 1 12 13<|
.l 15 .str 14<|
.m 16 1<|
.b 17 .eql .none (.t 15) (.t 16)<|
.nil)
 (.cond (.tmp 17) (.z (.c 4 fY<|
.nil)
 .ret)
 .skip)))
 (.ops (.m 10 5<|
.b 11 .add .none (.t 10) (.i 1)<|
.m 5 11<|
.nil))))
def lY (E:EB) (D:Al) (W:AE) (K1:H->AG) (R2:V->BS->Int->H->AG) (a:V) (b:BS) (c:Int) (Z:H):AG:=
 A0 a fun n1=>
 AJ (Cr c (AA n1)) (
 Ab 1 a c fun b2 o3=>
 BY E Z b2 o3 fun u4=>
 HR u4 fun x5=>
 AJ (BS.beq x5 b) (
 some ((V.bool true),Z)) (
 R2 a b (CM .i64 c (AA 1)) Z)) (
 K1 Z)
def mc (a:V) (b:BS) (Z:H):St:=⟨[(0,a),(1,.str b)],[],[],Z⟩
def ma (Z:H):St:=⟨[],[],[],Z⟩
def WM (a:V) (b:BS) (c:Int) (Z:H):St:=⟨[(0,a),(1,.str b),(5,.int .i64 c)],[],[],Z⟩
theorem AAL (cc1:XC) (cc2:XC) (a:V) (b:BS) (Z:H) :
 AM E D W N (fG cc1 cc2) (mc a b Z) (Hj E) nX (Hj E) =
 lZ E D W (fun a b c Z=>Af (fun rec s'=>AM E D W N cc2 s' (kX Yk [] [] rec) (ik E D W N cc1) (Hj E)) N (WM a b c Z)) a b Z:=by kernel_rfl
theorem AAK (cc1:XC) (li2:St->AG) (a:V) (b:BS) (c:Int) (Z:H) :
 AM E D W N (QK ) (WM a b c Z) (kX Yk [] [] li2) (ik E D W N cc1) (Hj E) =
 lY E D W (fun  Z=>AM E D W N cc1 (ma Z) (Hj E) nX (Hj E)) (fun a b c Z=>li2 (WM a b c Z)) a b c Z:=by kernel_rfl
def oN (E:EB) (D:Al) (W:AE) (N:Nat):=yd E D W
theorem uW (Z:H) :
 AM E D W N OT (ma Z) (Hj E) nX (Hj E)=oN E D W N  Z:=by kernel_rfl
def nF (n:Nat):V->BS->Int->H->AG:=
 Nat.rec (fun _ _ _ _=>none) (fun _ ih=>lY E D W (oN E D W N ) ih) n
theorem tX (n:Nat):∀(a:V) (b:BS) (c:Int) (Z:H),
 Af (fun rec s'=>AM E D W N QK s' (kX Yk [] [] rec) (ik E D W N OT) (Hj E)) n (WM a b c Z)=nF E D W N n a b c Z:=by
 induction n with
 | zero=>intro a b c Z;rfl
 | succ n ihn=>
  intro a b c Z
  rw[Ak]
  refine(AAK E D W N OT (Af (fun rec s'=>AM E D W N QK s' (kX Yk [] [] rec) (ik E D W N OT) (Hj E)) n) a b c Z).trans ?_
  simp only[ihn,uW]
  kernel_rfl
def oO:=lZ E D W (nF E D W N N)
theorem uX (a:V) (b:BS) (Z:H) :
 AM E D W N (fG OT QK) (mc a b Z) (Hj E) nX (Hj E)=oO E D W N a b Z:=by
 refine(AAL E D W N OT QK  a b Z).trans ?_
 simp only[tX]
 kernel_rfl
def F49 (args:List V) (Z:H):AG:=
 AB args fun x1 l2=>
 Hz l2 fun x5 l4=>
 AT l4 (
 oO E D W N x1 x5 Z)
def A49:C9:=⟨18,[.any,.str],[(.tmp 4)],(fG OT QK)⟩
theorem AFX (args:List V) (Z:H):Be E D W N A49 args Z=F49 E D W N args Z:=by
 unfold F49
 simp only[<-uX]
 kernel_rfl
def P4:List BC:=[⟨(some 34),.load (some 2) (.tmp 7),none⟩,⟨(some 35),.mov (.tmp 8),none⟩,⟨(some 36),.mov (.tmp 0),none⟩,⟨(some 37),.mov (.tmp 10),none⟩,⟨(some 38),.mov (.tmp 10),none⟩,⟨(some 39),.mov (.tmp 9),none⟩,⟨(some 40),.bin .add .none (.tmp 38) (.tmp 39),none⟩,⟨(some 41),.sliceSl 1 (.tmp 36) (some (.tmp 37)) (some (.tmp 40)) none,none⟩,⟨(some 42),.append 5 1 1 (.con V.nils) (.tmp 41),none⟩,⟨(some 43),.mov (.tmp 10),none⟩,⟨(some 44),.mov (.tmp 9),none⟩,⟨(some 45),.bin .add .none (.tmp 43) (.tmp 44),none⟩,⟨none,.store 2 (.tmp 2) (.tmp 34),none⟩,⟨(some 3),.mov (.tmp 35),none⟩,⟨(some 4),.mov (.tmp 42),none⟩,⟨(some 5),.mov (.tmp 45),none⟩,⟨(some 6),.mov (.con (V.int .i64 (AA 0))),none⟩]
def P3:List DP:=[⟨0,[7]⟩,⟨0,[8]⟩,⟨0,[0]⟩,⟨0,[10]⟩,⟨0,[10]⟩,⟨0,[9]⟩,⟨48,[38,39]⟩,⟨124,[36,37,40]⟩,⟨252,[41]⟩,⟨0,[10]⟩,⟨0,[9]⟩,⟨1536,[43,44]⟩,⟨509,[2,34]⟩,⟨4607,[35]⟩,⟨12799,[42]⟩,⟨32767,[45]⟩,⟨65535,[]⟩]
def ACa (cc1:XC):XC:=(.z (.p 2 [] (.alloc 38 [y0,y0])<|
.c 3 y3<|
.c 4 V.nils<|
.q 5 0<|
.q 6 0<|
.nil)
 (.z (.m 13 0<|
.k 14 (.tup [y4,.bool,.i,.i,.i]) 93 [(.t 13)]<|
.m 12 14<|
.P 15 (.extract 0 (.t 12))<|
.P 16 (.extract 1 (.t 12))<|
.P 17 (.extract 2 (.t 12))<|
.P 18 (.extract 3 (.t 12))<|
.P 19 (.extract 4 (.t 12))<|
.p 7 [] (.alloc 38 [y0,y0])<|
.op none y4 [7,15] (.store 2 (.t 7) (.t 15))<|
.m 8 16<|
.m 9 17<|
.m 10 18<|
.m 11 19<|
.nil)
 (.seq (.z (.m 20 11<|
.b 21 .eql .none (.t 20) (.i 0)<|
.m 22 21<|
.gA 22 true (.p 23 [9,22] (.mov (.t 9))<|
.p 24 [0,22] y9<|
.p 25 [24,22] (.len false (.t 24))<|
.p 26 [10,22] (.mov (.t 10))<|
.p 27 [25,26,22] (.bin .sub .none (.t 25) (.t 26))<|
.p 28 [23,27,22] (.bin .gtr .none (.t 23) (.t 27))<|
.nil) 29 22 28<|
.nil)
 (.cond (.tmp 29) (.ops (.q 11 3<|
.nil))
 .skip))
 (.keep [(0,.any),(2,.ptr),(7,.ptr),(8,.bool),(9,.i),(10,.i),(11,.i)] [] [] cc1))))
def bC (E:EB) (D:Al) (W:AE) (K1:V->Nat->Nat->Nat->Nat->Bool->Int->Int->Int->H->AG) (a:V) (Z:H):AG:=
 let s1:=B6 Z (.cells [.int .i64 (AA 0),.int .i64 (AA 0)]);
 AV (D 93 [a] s1) fun u2 s3=>
 C1 u2 fun l4=>
 AB l4 fun x5 l6=>
 Ba x5 fun l7=>
 Ah .i64 l7 fun x10 l9=>
 Ah .i64 l9 fun x13 l12=>
 AT l12 (
 C7 l6 fun x16 l15=>
 Ah .i64 l15 fun x19 l18=>
 Ah .i64 l18 fun x22 l21=>
 Ah .i64 l21 fun x25 l24=>
 AT l24 (
 let s26:=B6 s3 (.cells [.int .i64 (AA 0),.int .i64 (AA 0)]);
 FY 2 (H.next s3) 0 (V.agg [.int .i64 x10,.int .i64 x13]) s26 fun s27=>
 Ac (fun c28 s29=>
 AJ c28 (
 K1 a (H.next Z) 0 (H.next s3) 0 x16 x19 x22 (AA 3) s29) (
 K1 a (H.next Z) 0 (H.next s3) 0 x16 x19 x22 x25 s29)) fun k30=>
 AJ (B5 x25 (AA 0)) (
 A0 a fun n31=>
 k30 (Cr (D2 .i64 (AA n31) x22) x19) s27) (
 k30 false s27)))
def ACZ:XC:=(.seq (.z (.m 30 11<|
.b 31 .neq .none (.t 30) (.i 0)<|
.nil)
 (.cond (.tmp 31) (.z (.op (some 32) y4 [] (.build [y0,y0] [])<|
.m 33 11<|
.op none y4 [2,32] (.store 2 (.t 2) (.t 32))<|
.c 3 y3<|
.c 4 V.nils<|
.q 5 0<|
.m 6 33<|
.nil)
 .ret)
 .skip))
 (.seq (.keep [(0,.any),(2,.ptr),(7,.ptr),(8,.bool),(9,.i),(10,.i)] [] [] (.gdraw P4 P3 [(2,.ptr),(3,.bool),(4,.any),(5,.i),(6,.i)]))
 .ret))
def bB (E:EB) (D:Al) (W:AE) (a:V) (b c d e:Nat) (f:Bool) (g h i:Int) (Z:H):AG:=
 AJ (not (B5 i (AA 0))) (
 FY 2 b c (V.agg [.int .i64 (AA 0),.int .i64 (AA 0)]) Z fun s1=>
 BV E s1 b c 2 fun u2=>
 some ((V.tup [.agg u2,.bool false,V.nils,.int .i64 (AA 0),.int .i64 i]),s1)) (
 Cp (W P4 P3 [(0,a),(2,.ptr b c),(7,.ptr d e),(8,.bool f),(9,.int .i64 g),(10,.int .i64 h)] Z) fun e3 s4=>
 BR e3 2 fun u5=>
 Bv u5 fun b6 o7=>
 BR e3 3 fun u8=>
 Aa u8 fun x9=>
 BR e3 4 fun u10=>
 BR e3 5 fun u11=>
 Aj .i64 u11 fun x12=>
 BR e3 6 fun u13=>
 Aj .i64 u13 fun x14=>
 BV E s4 b6 o7 2 fun u15=>
 some ((V.tup [.agg u15,.bool x9,u10,.int .i64 x12,.int .i64 x14]),s4))
def dh (E:EB) (D:Al) (W:AE) (N:Nat):=bB E D W
def F57 (args:List V) (Z:H):AG:=
 AB args fun x1 l2=>
 AT l2 (
 bC E D W (dh E D W N ) x1 Z)
def A57:C9:=⟨46,[.any],[(.cell 2 (some 2)),(.tmp 3),(.tmp 4),(.tmp 5),(.tmp 6)],(ACa ACZ)⟩
theorem AFW (args:List V) (Z:H):Be E D W N A57 args Z=F57 E D W N args Z:=by kernel_rfl
def Yj:List (Nat × Co):=[(3,(.int .u64)),(6,.any),(7,.i),(8,.i)]
def Hi (E:EB):St->AG:=fun s=>Cy E s [(.tmp 2)] fun l=>some (DH l,s.Z)
def ij (c0:XC):Nat->St->AG:=BN 0 (dX E D W N (.keep [(3,(.int .u64))] [] [] c0) (Hi E) nX (Hi E)) nX
def fE (cc1:XC) (cc2:XC):XC:=(.z (.c 2 T5<|
.nil)
 (.z (.c 3 T5<|
.nil)
 (.seq (.z (.m 6 0<|
.u 7 6<|
.q 8 0<|
.nil)
 (.block 0 (.loop Yj [] [] cc2)))
 (.keep [(3,(.int .u64))] [] [] cc1))))
def Tc (E:EB) (D:Al) (W:AE) (K2:Int->V->Int->Int->H->AG) (a:V) (Z:H):AG:=
 A0 a fun n1=>
 K2 (AA 0) a (AA n1) (AA 0) Z
def OS:XC:=(.z (.m 18 3<|
.m 2 18<|
.nil)
 .ret)
def Vz (E:EB) (D:Al) (W:AE) (a:Int) (Z:H):AG:=
 some ((V.int .u64 a),Z)
def QJ:XC:=(.z (.b 9 .lss .none (.t 8) (.t 7)<|
.nil)
 (.seq kW
 (.seq (.block 1 (.z (.s 10 1 6 8<|
.l 11 (.int .u8) 10<|
.m 5 11<|
.nil)
 (.ops (.m 12 3<|
.b 13 .shl .none (.t 12) (.con (V.int .u64 (AA 8)))<|
.m 14 5<|
.P 15 (.conv (.toInt .u64) (.t 14))<|
.b 16 .or .none (.t 13) (.t 15)<|
.m 3 16<|
.nil))))
 (.ops (.b 17 .add .none (.t 8) (.i 1)<|
.m 8 17<|
.nil)))))
def Ph (E:EB) (D:Al) (W:AE) (K1:Int->H->AG) (R2:Int->V->Int->Int->H->AG) (a:Int) (b:V) (c d:Int) (Z:H):AG:=
 AJ (Cr d c) (
 Ab 1 b d fun b1 o2=>
 BY E Z b1 o2 fun u3=>
 Aj .u8 u3 fun x4=>
 R2 (K0 .u64 (Kt .u64 a 8) (As .u64 x4)) b c (CM .i64 d (AA 1)) Z) (
 K1 a Z)
def mZ (a:V) (Z:H):St:=⟨[(0,a)],[],[],Z⟩
def mY (a:Int) (Z:H):St:=⟨[(3,.int .u64 a)],[],[],Z⟩
def WL (a:Int) (b:V) (c d:Int) (Z:H):St:=⟨[(3,.int .u64 a),(6,b),(7,.int .i64 c),(8,.int .i64 d)],[],[],Z⟩
theorem AAJ (cc1:XC) (cc2:XC) (a:V) (Z:H) :
 AM E D W N (fE cc1 cc2) (mZ a Z) (Hi E) nX (Hi E) =
 Tc E D W (fun b c d e Z=>Af (fun rec s'=>AM E D W N cc2 s' (kX Yj [] [] rec) (ij E D W N cc1) (Hi E)) N (WL b c d e Z)) a Z:=by kernel_rfl
theorem AAI (cc1:XC) (li2:St->AG) (a:Int) (b:V) (c d:Int) (Z:H) :
 AM E D W N (QJ ) (WL a b c d Z) (kX Yj [] [] li2) (ij E D W N cc1) (Hi E) =
 Ph E D W (fun a Z=>AM E D W N cc1 (mY a Z) (Hi E) nX (Hi E)) (fun a b c d Z=>li2 (WL a b c d Z)) a b c d Z:=by kernel_rfl
def oL (E:EB) (D:Al) (W:AE) (N:Nat):=Vz E D W
theorem uU (a:Int) (Z:H) :
 AM E D W N OS (mY a Z) (Hi E) nX (Hi E)=oL E D W N a Z:=by kernel_rfl
def Wb (n:Nat):Int->V->Int->Int->H->AG:=
 Nat.rec (fun _ _ _ _ _=>none) (fun _ ih=>Ph E D W (oL E D W N ) ih) n
theorem tW (n:Nat):∀(a:Int) (b:V) (c d:Int) (Z:H),
 Af (fun rec s'=>AM E D W N QJ s' (kX Yj [] [] rec) (ij E D W N OS) (Hi E)) n (WL a b c d Z)=Wb E D W N n a b c d Z:=by
 induction n with
 | zero=>intro a b c d Z;rfl
 | succ n ihn=>
  intro a b c d Z
  rw[Ak]
  refine(AAI E D W N OS (Af (fun rec s'=>AM E D W N QJ s' (kX Yj [] [] rec) (ij E D W N OS) (Hi E)) n) a b c d Z).trans ?_
  simp only[ihn,uU]
  kernel_rfl
def oM:=Tc E D W (Wb E D W N N)
theorem uV (a:V) (Z:H) :
 AM E D W N (fE OS QJ) (mZ a Z) (Hi E) nX (Hi E)=oM E D W N a Z:=by
 refine(AAJ E D W N OS QJ  a Z).trans ?_
 simp only[tW]
 kernel_rfl
def wX (args:List V) (Z:H):AG:=
 AB args fun x1 l2=>
 AT l2 (
 oM E D W N x1 Z)
def A58:C9:=⟨19,[.any],[(.tmp 2)],(fE OS QJ)⟩
theorem AFV (args:List V) (Z:H):Be E D W N A58 args Z=wX E D W N args Z:=by
 unfold wX
 simp only[<-uV]
 kernel_rfl
def UE:List (Nat × Co):=[(0,.i),(3,.i)]
def Hg (E:EB):St->AG:=fun s=>Cy E s [(.tmp 2)] fun l=>some (DH l,s.Z)
def ig (c0:XC):Nat->St->AG:=BN 0 (dX E D W N (.keep UE [] [] c0) (Hg E) nX (Hg E)) nX
def fD (cc1:XC) (cc2:XC):XC:=(.z (.c 2 V.nils<|
.nil)
 (.z (.q 3 1<|
.nil)
 (.seq (.block 0 (.loop UE [] [] cc2))
 (.keep UE [] [] cc1))))
def lW (E:EB) (D:Al) (W:AE) (K2:Int->Int->H->AG) (a:Int) (Z:H):AG:=
 K2 a (AA 1) Z
def OR:XC:=(.z (.m 24 0<|
.P 25 (.conv (.toInt .u64) (.t 24))<|
.m 26 3<|
.k 27 .one 94 [(.t 25),(.t 26)]<|
.m 2 27<|
.nil)
 .ret)
def bA (E:EB) (D:Al) (W:AE) (a b:Int) (Z:H):AG:=
 AV (D 94 [.int .u64 (As .u64 a),.int .i64 b] Z) fun u1 s2=>
 BU u1 (
 some (u1,s2))
def QI:XC:=(.seq (.z (.m 4 3<|
.b 5 .lss .none (.t 4) (.i 8)<|
.m 6 5<|
.gA 6 true (.p 7 [0,6] y9<|
.p 8 [3,6] (.mov (.t 3))<|
.p 9 [8,6] (.bin .mul .none (.i 8) (.t 8))<|
.p 10 [9,6] (.bin .sub .none (.t 9) (.i 1))<|
.p 11 [7,10,6] (.bin .shr .none (.t 7) (.t 10))<|
.p 12 [11,6] (.bin .neq .none (.t 11) (.i 0))<|
.nil) 13 6 12<|
.m 14 13<|
.gA 14 true (.p 15 [0,14] y9<|
.p 16 [3,14] (.mov (.t 3))<|
.p 17 [16,14] (.bin .mul .none (.i 8) (.t 16))<|
.p 18 [17,14] (.bin .sub .none (.t 17) (.i 1))<|
.p 19 [15,18,14] (.bin .shr .none (.t 15) (.t 18))<|
.p 20 [19,14] (.bin .neq .none (.t 19) (.con Wl))<|
.nil) 21 14 20<|
.nil)
 (.cond (.tmp 21) .skip
 Lr))
 (.block 1 (.ops (.m 22 3<|
.b 23 .add .none (.t 22) (.i 1)<|
.m 3 23<|
.nil))))
def Pg (E:EB) (D:Al) (W:AE) (K1:Int->Int->H->AG) (R2:Int->Int->H->AG) (a b:Int) (Z:H):AG:=
 Ac (fun c1 s2=>
 Ac (fun c4 s5=>
 AJ c4 (
 R2 a (CM .i64 b (AA 1)) s5) (
 K1 a b s5)) fun k6=>
 AJ c1 (
 Mz (D2 .i64 (Hr .i64 (AA 8) b) (AA 1)) fun n7=>
 k6 (not (B5 (Ge .i64 a n7) (CG 0))) s2) (
 k6 false s2)) fun k3=>
 AJ (Cr b (AA 8)) (
 Mz (D2 .i64 (Hr .i64 (AA 8) b) (AA 1)) fun n8=>
 k3 (not (B5 (Ge .i64 a n8) (AA 0))) Z) (
 k3 false Z)
def mX (a:Int) (Z:H):St:=⟨[(0,.int .i64 a)],[],[],Z⟩
def Pz (a b:Int) (Z:H):St:=⟨[(0,.int .i64 a),(3,.int .i64 b)],[],[],Z⟩
theorem AAH (cc1:XC) (cc2:XC) (a:Int) (Z:H) :
 AM E D W N (fD cc1 cc2) (mX a Z) (Hg E) nX (Hg E) =
 lW E D W (fun a b Z=>Af (fun rec s'=>AM E D W N cc2 s' (kX UE [] [] rec) (ig E D W N cc1) (Hg E)) N (Pz a b Z)) a Z:=by kernel_rfl
theorem AAG (cc1:XC) (li2:St->AG) (a b:Int) (Z:H) :
 AM E D W N (QI ) (Pz a b Z) (kX UE [] [] li2) (ig E D W N cc1) (Hg E) =
 Pg E D W (fun a b Z=>AM E D W N cc1 (Pz a b Z) (Hg E) nX (Hg E)) (fun a b Z=>li2 (Pz a b Z)) a b Z:=by kernel_rfl
def dg (E:EB) (D:Al) (W:AE) (N:Nat):=bA E D W
theorem uS (a b:Int) (Z:H) :
 AM E D W N OR (Pz a b Z) (Hg E) nX (Hg E)=dg E D W N a b Z:=by kernel_rfl
def Wa (n:Nat):Int->Int->H->AG:=
 Nat.rec (fun _ _ _=>none) (fun _ ih=>Pg E D W (dg E D W N ) ih) n
theorem tV (n:Nat):∀(a b:Int) (Z:H),
 Af (fun rec s'=>AM E D W N QI s' (kX UE [] [] rec) (ig E D W N OR) (Hg E)) n (Pz a b Z)=Wa E D W N n a b Z:=by
 induction n with
 | zero=>intro a b Z;rfl
 | succ n ihn=>
  intro a b Z
  rw[Ak]
  refine(AAG E D W N OR (Af (fun rec s'=>AM E D W N QI s' (kX UE [] [] rec) (ig E D W N OR) (Hg E)) n) a b Z).trans ?_
  simp only[ihn,uS]
  kernel_rfl
def oK:=lW E D W (Wa E D W N N)
theorem uT (a:Int) (Z:H) :
 AM E D W N (fD OR QI) (mX a Z) (Hg E) nX (Hg E)=oK E D W N a Z:=by
 refine(AAH E D W N OR QI  a Z).trans ?_
 simp only[tV]
 kernel_rfl
def pS (args:List V) (Z:H):AG:=
 Ah .i64 args fun x3 l2=>
 AT l2 (
 oK E D W N x3 Z)
def A59:C9:=⟨28,[.i],[(.tmp 2)],(fD OR QI)⟩
theorem AFU (args:List V) (Z:H):Be E D W N A59 args Z=pS E D W N args Z:=by
 unfold pS
 simp only[<-uT]
 kernel_rfl
def Ml:List BC:=[⟨(some 20),.mov (.tmp 11),none⟩,⟨(some 21),.bin .eql .none (.tmp 20) (.con (V.int .i64 (AA 0))),none⟩,⟨(some 22),.mov (.tmp 21),none⟩,⟨(some 23),.mov (.tmp 0),(some (22,true))⟩,⟨(some 24),.nilck (.tmp 23),(some (22,true))⟩,⟨(some 25),.faddr 1 (.tmp 24),(some (22,true))⟩,⟨(some 26),.load (some 4) (.tmp 25),(some (22,true))⟩,⟨(some 27),.mov (.tmp 1),(some (22,true))⟩,⟨(some 28),.call 96 [(.tmp 26),(.tmp 27)],(some (22,true))⟩,⟨(some 29),.load (some 2) (.tmp 7),(some (22,true))⟩,⟨(some 30),.call 95 [(.tmp 28),(.tmp 29)],(some (22,true))⟩,⟨(some 31),.mov (.tmp 30),(some (22,true))⟩,⟨(some 32),.mov (.tmp 0),(some (31,false))⟩,⟨(some 33),.nilck (.tmp 32),(some (31,false))⟩,⟨(some 34),.faddr 1 (.tmp 33),(some (31,false))⟩,⟨(some 35),.load (some 4) (.tmp 34),(some (31,false))⟩,⟨(some 36),.mov (.tmp 1),(some (31,false))⟩,⟨(some 37),.call 97 [(.tmp 35),(.tmp 36)],(some (31,false))⟩,⟨(some 38),.pick (.tmp 31) (.con (V.bool true)) (.tmp 37),(some (22,true))⟩,⟨(some 39),.pick (.tmp 22) (.tmp 38) (.con (V.bool false)),none⟩,⟨(some 6),.mov (.tmp 39),none⟩]
def P2:List DP:=[⟨0,[11]⟩,⟨1,[20]⟩,⟨3,[21]⟩,⟨7,[0,22]⟩,⟨15,[23,22]⟩,⟨31,[24,22]⟩,⟨63,[25,22]⟩,⟨7,[1,22]⟩,⟨255,[26,27,22]⟩,⟨7,[7,22]⟩,⟨1023,[28,29,22]⟩,⟨2047,[30,22]⟩,⟨4095,[0,31]⟩,⟨8191,[32,31]⟩,⟨16383,[33,31]⟩,⟨32767,[34,31]⟩,⟨4095,[1,31]⟩,⟨131071,[35,36,31]⟩,⟨262143,[31,37,22]⟩,⟨524287,[22,38]⟩,⟨1048575,[39]⟩]
def ACY:XC:=(.z (.c 6 y3<|
.nil)
 (.z (.m 13 2<|
.k 14 (.tup [y4,.bool,.i,.i,.i]) 93 [(.t 13)]<|
.m 12 14<|
.P 15 (.extract 0 (.t 12))<|
.P 16 (.extract 1 (.t 12))<|
.P 17 (.extract 2 (.t 12))<|
.P 18 (.extract 3 (.t 12))<|
.P 19 (.extract 4 (.t 12))<|
.p 7 [] (.alloc 38 [y0,y0])<|
.op none y4 [7,15] (.store 2 (.t 7) (.t 15))<|
.m 8 16<|
.m 9 17<|
.m 10 18<|
.m 11 19<|
.nil)
 (.seq (.keep [(0,.ptr),(1,.i),(7,.ptr),(11,.i)] [] [] (.gdraw Ml P2 [(6,.bool)]))
 .ret)))
def az (E:EB) (D:Al) (W:AE) (a b:Nat) (c:Int) (d:V) (Z:H):AG:=
 AV (D 93 [d] Z) fun u1 s2=>
 C1 u1 fun l3=>
 AB l3 fun x4 l5=>
 Ba x4 fun l6=>
 Ah .i64 l6 fun x9 l8=>
 Ah .i64 l8 fun x12 l11=>
 AT l11 (
 C7 l5 fun x15 l14=>
 Ah .i64 l14 fun x18 l17=>
 Ah .i64 l17 fun x21 l20=>
 Ah .i64 l20 fun x24 l23=>
 AT l23 (
 let s25:=B6 s2 (.cells [.int .i64 (AA 0),.int .i64 (AA 0)]);
 FY 2 (H.next s2) 0 (V.agg [.int .i64 x9,.int .i64 x12]) s25 fun s26=>
 Cp (W Ml P2 [(0,.ptr a b),(1,.int .i64 c),(7,.ptr (H.next s2) 0),(11,.int .i64 x24)] s26) fun e27 s28=>
 BR e27 6 fun u29=>
 Aa u29 fun x30=>
 some ((V.bool x30),s28)))
def F62 (N:Nat) (args:List V) (Z:H):AG:=
 AB args fun x1 l2=>
 Bv x1 fun b3 o4=>
 Ah .i64 l2 fun x7 l6=>
 AB l6 fun x8 l9=>
 AT l9 (
 az E D W b3 o4 x7 x8 Z)
def A62:C9:=⟨40,[.ptr,.i,.any],[(.tmp 6)],ACY⟩
theorem AFT (args:List V) (Z:H):Be E D W N A62 args Z=F62 E D W N args Z:=by kernel_rfl
def Yi:List (Nat × Co):=[(0,.any),(1,.any),(7,.i),(8,.i)]
def Hf (E:EB):St->AG:=fun s=>Cy E s [(.tmp 4)] fun l=>some (DH l,s.Z)
def ie (c0:XC):Nat->St->AG:=BN 0 (dX E D W N (.keep [] [] [] c0) (Hf E) nX (Hf E)) nX
def fB (cc1:XC) (cc2:XC):XC:=(.z (.q 4 0<|
.nil)
 (.seq (.z (.m 6 0<|
.u 7 6<|
.q 8 0<|
.nil)
 (.block 0 (.loop Yi [] [] cc2)))
 (.keep [] [] [] cc1)))
def Tb (E:EB) (D:Al) (W:AE) (K2:V->V->Int->Int->H->AG) (a b:V) (Z:H):AG:=
 A0 a fun n1=>
 K2 a b (AA n1) (AA 0) Z
def OP:XC:=(.z (.c 4 Wl<|
.nil)
 .ret)
def Vy (E:EB) (D:Al) (W:AE) (Z:H):AG:=
 some ((V.int .i64 (CG 0)),Z)
def QH:XC:=(.z (.b 9 .lss .none (.t 8) (.t 7)<|
.nil)
 (.seq kW
 (.seq (.block 1 (.z (.m 10 8<|
.m 5 10<|
.nil)
 (.z (.m 11 1<|
.m 12 0<|
.m 13 5<|
.s 14 1 12 13<|
.l 15 .any 14<|
.O 16 .bool (.callv (.t 11) [(.t 15)])<|
.nil)
 y20)))
 y21)))
def Pf (E:EB) (D:Al) (W:AE) (K1:H->AG) (R2:V->V->Int->Int->H->AG) (a b:V) (c d:Int) (Z:H):AG:=
 AJ (Cr d c) (
 Ab 1 a d fun b1 o2=>
 BY E Z b1 o2 fun u3=>
 GV D b [u3] Z fun u4 s5=>
 Aa u4 fun x6=>
 AJ x6 (
 some ((V.int .i64 d),s5)) (
 R2 a b c (CM .i64 d (AA 1)) s5)) (
 K1 Z)
def mW (a b:V) (Z:H):St:=⟨[(0,a),(1,b)],[],[],Z⟩
def mV (Z:H):St:=⟨[],[],[],Z⟩
def WK (a b:V) (c d:Int) (Z:H):St:=⟨[(0,a),(1,b),(7,.int .i64 c),(8,.int .i64 d)],[],[],Z⟩
theorem AAF (cc1:XC) (cc2:XC) (a b:V) (Z:H) :
 AM E D W N (fB cc1 cc2) (mW a b Z) (Hf E) nX (Hf E) =
 Tb E D W (fun a b c d Z=>Af (fun rec s'=>AM E D W N cc2 s' (kX Yi [] [] rec) (ie E D W N cc1) (Hf E)) N (WK a b c d Z)) a b Z:=by kernel_rfl
theorem AAE (cc1:XC) (li2:St->AG) (a b:V) (c d:Int) (Z:H) :
 AM E D W N (QH ) (WK a b c d Z) (kX Yi [] [] li2) (ie E D W N cc1) (Hf E) =
 Pf E D W (fun  Z=>AM E D W N cc1 (mV Z) (Hf E) nX (Hf E)) (fun a b c d Z=>li2 (WK a b c d Z)) a b c d Z:=by kernel_rfl
def oH (E:EB) (D:Al) (W:AE) (N:Nat):=Vy E D W
theorem uQ (Z:H) :
 AM E D W N OP (mV Z) (Hf E) nX (Hf E)=oH E D W N  Z:=by kernel_rfl
def WZ (n:Nat):V->V->Int->Int->H->AG:=
 Nat.rec (fun _ _ _ _ _=>none) (fun _ ih=>Pf E D W (oH E D W N ) ih) n
theorem tU (n:Nat):∀(a b:V) (c d:Int) (Z:H),
 Af (fun rec s'=>AM E D W N QH s' (kX Yi [] [] rec) (ie E D W N OP) (Hf E)) n (WK a b c d Z)=WZ E D W N n a b c d Z:=by
 induction n with
 | zero=>intro a b c d Z;rfl
 | succ n ihn=>
  intro a b c d Z
  rw[Ak]
  refine(AAE E D W N OP (Af (fun rec s'=>AM E D W N QH s' (kX Yi [] [] rec) (ie E D W N OP) (Hf E)) n) a b c d Z).trans ?_
  simp only[ihn,uQ]
  kernel_rfl
def oJ:=Tb E D W (WZ E D W N N)
theorem uR (a b:V) (Z:H) :
 AM E D W N (fB OP QH) (mW a b Z) (Hf E) nX (Hf E)=oJ E D W N a b Z:=by
 refine(AAF E D W N OP QH  a b Z).trans ?_
 simp only[tU]
 kernel_rfl
def wW (args:List V) (Z:H):AG:=
 AB args fun x1 l2=>
 AB l2 fun x3 l4=>
 AT l4 (
 oJ E D W N x1 x3 Z)
def A63:C9:=⟨19,[.any,.any],[(.tmp 4)],(fB OP QH)⟩
theorem AFS (args:List V) (Z:H):Be E D W N A63 args Z=wW E D W N args Z:=by
 unfold wW
 simp only[<-uR]
 kernel_rfl
def ACX:XC:=(.z (.c 4 y3<|
.nil)
 (.z (.l 5 .any 1<|
.f 6 1 2<|
.l 7 .i 6<|
.m 8 0<|
.k 9 .bool 62 [(.t 5),(.t 7),(.t 8)]<|
.m 4 9<|
.nil)
 .ret))
def ay (E:EB) (D:Al) (W:AE) (a b c:V) (Z:H):AG:=
 Bv b fun b1 o2=>
 BY E Z b1 o2 fun u3=>
 Bv c fun b4 o5=>
 BY E Z b4 (Ar o5 1) fun u6=>
 Aj .i64 u6 fun x7=>
 AV (D 62 [u3,.int .i64 x7,a] Z) fun u8 s9=>
 Aa u8 fun x10=>
 some ((V.bool x10),s9)
def F64 (N:Nat) (args:List V) (Z:H):AG:=
 AB args fun x1 l2=>
 AB l2 fun x3 l4=>
 AB l4 fun x5 l6=>
 AT l6 (
 ay E D W x1 x3 x5 Z)
def A64:C9:=⟨10,[.any,.any,.any],[(.tmp 4)],ACX⟩
theorem AFR (args:List V) (Z:H):Be E D W N A64 args Z=F64 E D W N args Z:=by kernel_rfl
def ACW:XC:=(.z (.c 2 V.nils<|
.nil)
 (.seq (.z (.m 3 0<|
.b 4 .eql .slice (.t 3) (.con V.nils)<|
.nil)
 (.cond (.tmp 4) (.z (.c 2 V.nils<|
.nil)
 .ret)
 .skip))
 (.z (.p 5 [] (.buildSlice 29 0 [] [])<|
.m 6 0<|
.O 7 .one (.append 29 1 24 (.t 5) (.t 6))<|
.m 2 7<|
.nil)
 .ret)))
def ax (E:EB) (D:Al) (W:AE) (a:V) (Z:H):AG:=
 YA .slice a V.nils fun c1=>
 AJ c1 (
 some (V.nils,Z)) (
 let s2:=B6 Z (.cells []);
 DI E 1 24 (V.sl (H.next Z) 0 0 (.ex 0)) a s2 fun u3 s4=>
 BU u3 (
 some (u3,s4)))
def F66 (N:Nat) (args:List V) (Z:H):AG:=
 AB args fun x1 l2=>
 AT l2 (
 ax E D W x1 Z)
def A66:C9:=⟨8,[.any],[(.tmp 2)],ACW⟩
theorem AFQ (args:List V) (Z:H):Be E D W N A66 args Z=F66 E D W N args Z:=by kernel_rfl
def ACV (cc1:XC) (cc2:XC):XC:=(.z (.P 6 (.box 34 (.t 2))<|
.c 8 y3<|
.nil)
 (.seq (.z (.m 10 1<|
.b 11 .lss .none (.t 10) (.i 0)<|
.m 12 11<|
.gO 12 false (.p 13 [1,12] Io<|
.p 14 [0,12] y9<|
.p 15 [14,12] (.nilck (.t 14))<|
.p 16 [15,12] (.faddr 0 (.t 15))<|
.p 17 [16,12] (.faddr 0 (.t 16))<|
.p 18 [17,12] (.faddr 3 (.t 17))<|
.p 19 [18,12] (.load none (.t 18))<|
.p 20 [19,12] (.len false (.t 19))<|
.p 21 [13,20,12] (.bin .geq .none (.t 13) (.t 20))<|
.nil) 22 12 21<|
.m 23 22<|
.gO 23 false (.p 24 [3,23] (.mov (.t 3))<|
.p 25 [24,23] (.bin .gtr .none (.t 24) (.i 17))<|
.nil) 26 23 25<|
.nil)
 (.cond (.tmp 26) (.z (.c 8 y3<|
.nil)
 .ret)
 .skip))
 (.z (.m 27 0<|
.n 28 27<|
.f 29 0 28<|
.f 30 0 29<|
.f 31 3 30<|
.l 32 .any 31<|
.m 33 1<|
.s 34 13 32 33<|
.O 35 y2 (.load (some 13) (.t 34))<|
.pal 9 [] 97 [y0,V.nils,y3,y3,y3,y3,y0,y0,V.nils,V.nils,y0,y3,y0]<|
.op none y2 [9,35] (.store 13 (.t 9) (.t 35))<|
.nil)
 (.seq (.z (.f 36 0 6<|
.l 37 .i 36<|
.b 38 .eql .none (.t 37) (.i 12)<|
.nil)
 (.cond (.tmp 38) (.z (.m 39 0<|
.m 40 1<|
.O 41 y1 (.load (some 6) (.t 6))<|
.k 42 .bool 98 [(.t 39),(.t 40),(.t 41)]<|
.m 8 42<|
.nil)
 .ret)
 .skip))
 (.seq (.z (.f 43 0 6<|
.l 44 .i 43<|
.f 45 0 9<|
.l 46 .i 45<|
.b 47 .neq .none (.t 44) (.t 46)<|
.nil)
 (.cond (.tmp 47) (.z (.c 8 y3<|
.nil)
 .ret)
 .skip))
 (.seq (.z (.f 48 0 9<|
.l 49 .i 48<|
.nil)
 (.block 0 (.z (.b 51 .eql .none (.t 49) (.i 1)<|
.m 50 51<|
.nil)
 (.cond (.tmp 50) (.z (.O 52 y1 (.load (some 6) (.t 6))<|
.k 53 .bool 99 [(.t 52),(.i 1)]<|
.m 54 53<|
.gA 54 true (.p 55 [6,54] pV<|
.op (some 56) .i [55,54] (.load none (.t 55))<|
.p 57 [56,54] (.bin .eql .none (.t 56) (.i 0))<|
.p 58 [57,54] (.mov (.t 57))<|
.grp 58 false (.p 59 [6,58] pV<|
.op (some 60) .i [59,58] (.load none (.t 59))<|
.p 61 [60,58] (.bin .eql .none (.t 60) (.i 1))<|
.nil) 62 [58,61,54] (.t 58) QV (.t 61)<|
.nil) 63 54 62<|
.m 8 63<|
.nil)
 .ret)
 (.z (.b 65 .eql .none (.t 49) (.i 2)<|
.m 64 65<|
.nil)
 (.cond (.tmp 64) (.z (.O 66 y1 (.load (some 6) (.t 6))<|
.k 67 .bool 99 [(.t 66),(.i 1)]<|
.m 68 67<|
.gA 68 true (.p 69 [9,68] (.faddr 2 (.t 9))<|
.p 70 [69,68] (.faddr 3 (.t 69))<|
.op (some 71) .bool [70,68] (.load none (.t 70))<|
.p 72 [71,68] (.mov (.t 71))<|
.grp 72 false (.p 73 [9,72] (.faddr 2 (.t 9))<|
.op (some 74) y28 [73,72] (.load (some 6) (.t 73))<|
.p 75 [6,72] pV<|
.op (some 76) .i [75,72] (.load none (.t 75))<|
.op (some 77) .bool [74,76,72] (.call 100 [(.t 74),(.t 76)])<|
.nil) 78 [72,77,68] (.t 72) QV (.t 77)<|
.nil) 79 68 78<|
.m 8 79<|
.nil)
 .ret)
 (.z (.b 81 .eql .none (.t 49) (.i 3)<|
.m 80 81<|
.nil)
 (.cond (.tmp 80) (.z (.O 82 y1 (.load (some 6) (.t 6))<|
.k 83 .bool 99 [(.t 82),(.i 1)]<|
.m 84 83<|
.gA 84 true (.op (some 85) y2 [9,84] (.load (some 13) (.t 9))<|
.p 86 [6,84] pV<|
.op (some 87) .i [86,84] (.load none (.t 86))<|
.op (some 88) .i [85,87,84] (.call 35 [(.t 85),(.t 87)])<|
.p 89 [88,84] (.bin .geq .none (.t 88) (.i 0))<|
.nil) 90 84 89<|
.m 8 90<|
.nil)
 .ret)
 (.z (.b 92 .eql .none (.t 49) (.i 4)<|
.m 91 92<|
.nil)
 (.cond (.tmp 91) (.z (.O 93 y1 (.load (some 6) (.t 6))<|
.k 94 .bool 99 [(.t 93),(.i 0)]<|
.m 8 94<|
.nil)
 .ret)
 (.seq (.z (.b 96 .eql .none (.t 49) (.i 5)<|
.m 95 96<|
.nil)
 (.cond (.tmp 95) .skip
 (.ops (.b 97 .eql .none (.t 49) (.i 6)<|
.m 95 97<|
.nil))))
 (.keep [(0,.ptr),(1,.i),(3,.i),(6,.ptr),(49,.i),(95,.bool)] [9] [(9,[.i,.any,.bool,.bool,.bool,.bool,.i,.i,.any,.any,.i,.bool,.i])] cc2))))))))))))
 (.keep [] [] [] cc1)))))))
def aw (E:EB) (D:Al) (W:AE) (K2:Nat->Nat->Int->Int->Nat->Nat->Int->Bool->Int->V->Bool->Bool->Bool->Bool->Int->Int->V->V->Int->Bool->Int->H->AG) (a b:Nat) (c d e:Int) (f g:V) (h:Int) (i:V) (j:Int) (Z:H):AG:=
 Gi [.int .i64 d,.int .i64 e,f,g,.int .i64 h,i] Z fun s1=>
 Ac (fun c2 s3=>
 Ac (fun c5 s6=>
 AJ c5 (
 some ((V.bool false),s6)) (
 BY E s6 a (Ar b 3) fun u8=>
 Ab 13 u8 c fun b9 o10=>
 BV E s6 b9 o10 13 fun l11=>
 Ah .i64 l11 fun x14 l13=>
 AB l13 fun x15 l16=>
 C7 l16 fun x19 l18=>
 C7 l18 fun x22 l21=>
 C7 l21 fun x25 l24=>
 C7 l24 fun x28 l27=>
 Ah .i64 l27 fun x31 l30=>
 Ah .i64 l30 fun x34 l33=>
 AB l33 fun x35 l36=>
 AB l36 fun x37 l38=>
 Ah .i64 l38 fun x41 l40=>
 C7 l40 fun x44 l43=>
 Ah .i64 l43 fun x47 l46=>
 AT l46 (
 Fx (allOne [.int .i64 x14,x15,.bool x19,.bool x22,.bool x25,.bool x28,.int .i64 x31,.int .i64 x34,x35,x37,.int .i64 x41,.bool x44,.int .i64 x47]) (
 BY E s6 (H.next Z) 0 fun u48=>
 Aj .i64 u48 fun x49=>
 AJ (B5 x49 (AA 12)) (
 BV E s6 (H.next Z) 0 6 fun l50=>
 Ah .i64 l50 fun x53 l52=>
 Ah .i64 l52 fun x56 l55=>
 AB l55 fun x57 l58=>
 AB l58 fun x59 l60=>
 Ah .i64 l60 fun x63 l62=>
 AB l62 fun x64 l65=>
 AT l65 (
 AV (D 98 [.ptr a b,.int .i64 c,.agg [.int .i64 x53,.int .i64 x56,x57,x59,.int .i64 x63,x64]] s6) fun u66 s67=>
 Aa u66 fun x68=>
 some ((V.bool x68),s67))) (
 BY E s6 (H.next Z) 0 fun u69=>
 Aj .i64 u69 fun x70=>
 AJ (not (B5 x70 x14)) (
 some ((V.bool false),s6)) (
 AJ (B5 x14 (AA 1)) (
 BV E s6 (H.next Z) 0 6 fun l71=>
 Ah .i64 l71 fun x74 l73=>
 Ah .i64 l73 fun x77 l76=>
 AB l76 fun x78 l79=>
 AB l79 fun x80 l81=>
 Ah .i64 l81 fun x84 l83=>
 AB l83 fun x85 l86=>
 AT l86 (
 AV (D 99 [.agg [.int .i64 x74,.int .i64 x77,x78,x80,.int .i64 x84,x85],.int .i64 (AA 1)] s6) fun u87 s88=>
 Aa u87 fun x89=>
 Ac (fun c90 s91=>
 some ((V.bool c90),s91)) fun k92=>
 AJ x89 (
 BY E s88 (H.next Z) 1 fun u93=>
 Aj .i64 u93 fun x94=>
 Ac (fun c95 s96=>
 k92 c95 s96) fun k97=>
 AJ (B5 x94 (AA 0)) (
 k97 true s88) (
 BY E s88 (H.next Z) 1 fun u98=>
 Aj .i64 u98 fun x99=>
 k97 (B5 x99 (AA 1)) s88)) (
 k92 false s88))) (
 AJ (B5 x14 (AA 2)) (
 BV E s6 (H.next Z) 0 6 fun l100=>
 Ah .i64 l100 fun x103 l102=>
 Ah .i64 l102 fun x106 l105=>
 AB l105 fun x107 l108=>
 AB l108 fun x109 l110=>
 Ah .i64 l110 fun x113 l112=>
 AB l112 fun x114 l115=>
 AT l115 (
 AV (D 99 [.agg [.int .i64 x103,.int .i64 x106,x107,x109,.int .i64 x113,x114],.int .i64 (AA 1)] s6) fun u116 s117=>
 Aa u116 fun x118=>
 Ac (fun c119 s120=>
 some ((V.bool c119),s120)) fun k121=>
 AJ x118 (
 Ac (fun c122 s123=>
 k121 c122 s123) fun k124=>
 AJ x28 (
 k124 true s117) (
 BY E s117 (H.next Z) 1 fun u125=>
 Aj .i64 u125 fun x126=>
 AV (D 100 [.agg [.bool x19,.bool x22,.bool x25,.bool x28,.int .i64 x31,.int .i64 x34],.int .i64 x126] s117) fun u127 s128=>
 Aa u127 fun x129=>
 k124 x129 s128)) (
 k121 false s117))) (
 AJ (B5 x14 (AA 3)) (
 BV E s6 (H.next Z) 0 6 fun l130=>
 Ah .i64 l130 fun x133 l132=>
 Ah .i64 l132 fun x136 l135=>
 AB l135 fun x137 l138=>
 AB l138 fun x139 l140=>
 Ah .i64 l140 fun x143 l142=>
 AB l142 fun x144 l145=>
 AT l145 (
 AV (D 99 [.agg [.int .i64 x133,.int .i64 x136,x137,x139,.int .i64 x143,x144],.int .i64 (AA 1)] s6) fun u146 s147=>
 Aa u146 fun x148=>
 Ac (fun c149 s150=>
 some ((V.bool c149),s150)) fun k151=>
 AJ x148 (
 BY E s147 (H.next Z) 1 fun u152=>
 Aj .i64 u152 fun x153=>
 AV (D 35 [.agg [.int .i64 x14,x15,.bool x19,.bool x22,.bool x25,.bool x28,.int .i64 x31,.int .i64 x34,x35,x37,.int .i64 x41,.bool x44,.int .i64 x47],.int .i64 x153] s147) fun u154 s155=>
 Aj .i64 u154 fun x156=>
 k151 (I7 (AA 0) x156) s155) (
 k151 false s147))) (
 AJ (B5 x14 (AA 4)) (
 BV E s6 (H.next Z) 0 6 fun l157=>
 Ah .i64 l157 fun x160 l159=>
 Ah .i64 l159 fun x163 l162=>
 AB l162 fun x164 l165=>
 AB l165 fun x166 l167=>
 Ah .i64 l167 fun x170 l169=>
 AB l169 fun x171 l172=>
 AT l172 (
 AV (D 99 [.agg [.int .i64 x160,.int .i64 x163,x164,x166,.int .i64 x170,x171],.int .i64 (AA 0)] s6) fun u173 s174=>
 Aa u173 fun x175=>
 some ((V.bool x175),s174))) (
 AJ (B5 x14 (AA 5)) (
 K2 a b c j (H.next Z) 0 x14 (B5 x14 (AA 5)) x14 x15 x19 x22 x25 x28 x31 x34 x35 x37 x41 x44 x47 s6) (
 K2 a b c j (H.next Z) 0 x14 (B5 x14 (AA 6)) x14 x15 x19 x22 x25 x28 x31 x34 x35 x37 x41 x44 x47 s6))))))))))) fun k7=>
 AJ c2 (
 k7 true s3) (
 k7 (Cr (AA 17) j) s3)) fun k4=>
 AJ (Cr c (AA 0)) (
 k4 true s1) (
 BY E s1 a (Ar b 3) fun u176=>
 A0 u176 fun n177=>
 k4 (I7 (AA n177) c) s1)
def ACU:XC:=(.z (.c 8 y3<|
.nil)
 .ret)
def yX (E:EB) (D:Al) (W:AE) (Z:H):AG:=
 some ((V.bool false),Z)
def ACT (cc3:XC):XC:=(.cond (.tmp 95) (.z (.m 98 0<|
.O 99 y2 (.load (some 13) (.t 9))<|
.O 100 y1 (.load (some 6) (.t 6))<|
.k 101 .bool 101 [(.t 98),(.t 99),(.t 100)]<|
.m 8 101<|
.nil)
 .ret)
 (.z (.b 103 .eql .none (.t 49) (.i 10)<|
.m 102 103<|
.nil)
 (.cond (.tmp 102) (.z (.m 104 0<|
.O 105 y2 (.load (some 13) (.t 9))<|
.O 106 y1 (.load (some 6) (.t 6))<|
.m 107 3<|
.k 108 .bool 102 [(.t 104),(.t 105),(.t 106),(.t 107)]<|
.m 8 108<|
.nil)
 .ret)
 (.z (.b 110 .eql .none (.t 49) (.i 9)<|
.m 109 110<|
.nil)
 (.cond (.tmp 109) (.seq (.draw (.O 111 y1 (.load (some 6) (.t 6))<|
.k 112 .bool 99 [(.t 111),(.i 5)]<|
.m 113 112<|
.gA 113 true (.p 114 [6,113] pV<|
.op (some 115) .i [114,113] (.load none (.t 114))<|
.p 116 [115,113] (.bin .geq .none (.t 115) (.i 0))<|
.nil) 117 113 116<|
.m 118 117<|
.gA 118 true (.p 119 [6,118] pV<|
.op (some 120) .i [119,118] (.load none (.t 119))<|
.p 121 [9,118] (.faddr 9 (.t 9))<|
.p 122 [121,118] (.load none (.t 121))<|
.p 123 [122,118] (.len false (.t 122))<|
.p 124 [120,123,118] (.bin .lss .none (.t 120) (.t 123))<|
.nil) 125 118 124<|
.m 126 125<|
.gA 126 true (.p 127 [6,126] (.faddr 3 (.t 6))<|
.p 128 [127,126] (.load none (.t 127))<|
.p 129 [128,126] (.len false (.t 128))<|
.p 130 [129,126] (.bin .eql .none (.t 129) (.i 1))<|
.nil) 131 126 130<|
.m 132 131<|
.gA 132 true (.p 133 [0,132] y9<|
.p 134 [9,132] (.faddr 9 (.t 9))<|
.p 135 [134,132] (.load none (.t 134))<|
.p 136 [6,132] pV<|
.op (some 137) .i [136,132] (.load none (.t 136))<|
.p 138 [135,137,132] (.iaddrS 11 (.t 135) (.t 137))<|
.p 139 [138,132] (.faddr 1 (.t 138))<|
.op (some 140) .i [139,132] (.load none (.t 139))<|
.p 141 [6,132] (.faddr 3 (.t 6))<|
.p 142 [141,132] (.load none (.t 141))<|
.p 143 [142,132] (.iaddrS 6 (.t 142) (.i 0))<|
.op (some 144) y1 [143,132] (.load (some 6) (.t 143))<|
.p 145 [3,132] (.mov (.t 3))<|
.p 146 [145,132] (.bin .add .none (.t 145) (.i 1))<|
.op (some 147) .bool [133,140,144,146,132] (.call 67 [(.t 133),(.t 140),(.t 144),(.t 146)])<|
.nil) 148 132 147<|
.m 8 148<|
.nil) [0,1,3,7,15,31,63,127,255,511,255,1279,3327,8191,16383,32767,65535,131071,262143,524287,1048575,2097151,4194303,4194303,12582911,4194303,37748735,130023423,264241151,532676607,4194303,1077936127,3225419775,7520387071,4194303,17184063487,68719476735,137438953471,274877906943])
 .ret)
 (.seq (.z (.b 150 .eql .none (.t 49) (.i 7)<|
.m 149 150<|
.nil)
 (.cond (.tmp 149) .skip
 (.ops (.b 151 .eql .none (.t 49) (.i 8)<|
.m 149 151<|
.nil))))
 (.keep [(0,.ptr),(1,.i),(3,.i),(6,.ptr),(149,.bool)] [] [] cc3)))))))
def av (E:EB) (D:Al) (W:AE) (K3:Nat->Nat->Int->Int->Nat->Nat->Bool->H->AG) (a b:Nat) (c d:Int) (e f:Nat) (g:Int) (h:Bool) (i:Int) (j:V) (k l m o:Bool) (p q:Int) (r s:V) (t:Int) (u:Bool) (v:Int) (Z:H):AG:=
 AJ h (
 BV E Z e f 6 fun l1=>
 Ah .i64 l1 fun x4 l3=>
 Ah .i64 l3 fun x7 l6=>
 AB l6 fun x8 l9=>
 AB l9 fun x10 l11=>
 Ah .i64 l11 fun x14 l13=>
 AB l13 fun x15 l16=>
 AT l16 (
 AV (D 101 [.ptr a b,.agg [.int .i64 i,j,.bool k,.bool l,.bool m,.bool o,.int .i64 p,.int .i64 q,r,s,.int .i64 t,.bool u,.int .i64 v],.agg [.int .i64 x4,.int .i64 x7,x8,x10,.int .i64 x14,x15]] Z) fun u17 s18=>
 Aa u17 fun x19=>
 some ((V.bool x19),s18))) (
 AJ (B5 g (AA 10)) (
 BV E Z e f 6 fun l20=>
 Ah .i64 l20 fun x23 l22=>
 Ah .i64 l22 fun x26 l25=>
 AB l25 fun x27 l28=>
 AB l28 fun x29 l30=>
 Ah .i64 l30 fun x33 l32=>
 AB l32 fun x34 l35=>
 AT l35 (
 AV (D 102 [.ptr a b,.agg [.int .i64 i,j,.bool k,.bool l,.bool m,.bool o,.int .i64 p,.int .i64 q,r,s,.int .i64 t,.bool u,.int .i64 v],.agg [.int .i64 x23,.int .i64 x26,x27,x29,.int .i64 x33,x34],.int .i64 d] Z) fun u36 s37=>
 Aa u36 fun x38=>
 some ((V.bool x38),s37))) (
 AJ (B5 g (AA 9)) (
 BV E Z e f 6 fun l39=>
 Ah .i64 l39 fun x42 l41=>
 Ah .i64 l41 fun x45 l44=>
 AB l44 fun x46 l47=>
 AB l47 fun x48 l49=>
 Ah .i64 l49 fun x52 l51=>
 AB l51 fun x53 l54=>
 AT l54 (
 AV (D 99 [.agg [.int .i64 x42,.int .i64 x45,x46,x48,.int .i64 x52,x53],.int .i64 (AA 5)] Z) fun u55 s56=>
 Aa u55 fun x57=>
 Ac (fun c58 s59=>
 Ac (fun c61 s62=>
 Ac (fun c64 s65=>
 Ac (fun c67 s68=>
 some ((V.bool c67),s68)) fun k69=>
 AJ c64 (
 BY E s65 e (Ar f 1) fun u70=>
 Aj .i64 u70 fun x71=>
 Ab 11 s x71 fun b72 o73=>
 BY E s65 b72 (Ar o73 1) fun u74=>
 Aj .i64 u74 fun x75=>
 BY E s65 e (Ar f 3) fun u76=>
 Ab 6 u76 (AA 0) fun b77 o78=>
 BV E s65 b77 o78 6 fun l79=>
 Ah .i64 l79 fun x82 l81=>
 Ah .i64 l81 fun x85 l84=>
 AB l84 fun x86 l87=>
 AB l87 fun x88 l89=>
 Ah .i64 l89 fun x92 l91=>
 AB l91 fun x93 l94=>
 AT l94 (
 AV (D 67 [.ptr a b,.int .i64 x75,.agg [.int .i64 x82,.int .i64 x85,x86,x88,.int .i64 x92,x93],.int .i64 (CM .i64 d (AA 1))] s65) fun u95 s96=>
 Aa u95 fun x97=>
 k69 x97 s96)) (
 k69 false s65)) fun k66=>
 AJ c61 (
 BY E s62 e (Ar f 3) fun u98=>
 A0 u98 fun n99=>
 k66 (B5 (AA n99) (AA 1)) s62) (
 k66 false s62)) fun k63=>
 AJ c58 (
 BY E s59 e (Ar f 1) fun u100=>
 Aj .i64 u100 fun x101=>
 A0 s fun n102=>
 k63 (Cr x101 (AA n102)) s59) (
 k63 false s59)) fun k60=>
 AJ x57 (
 BY E s56 e (Ar f 1) fun u103=>
 Aj .i64 u103 fun x104=>
 k60 (I7 (AA 0) x104) s56) (
 k60 false s56))) (
 AJ (B5 g (AA 7)) (
 K3 a b c d e f (B5 g (AA 7)) Z) (
 K3 a b c d e f (B5 g (AA 8)) Z))))
def ACS:XC:=(.cond (.tmp 149) (.z (.m 152 0<|
.m 153 1<|
.O 154 y1 (.load (some 6) (.t 6))<|
.m 155 3<|
.k 156 .bool 103 [(.t 152),(.t 153),(.t 154),(.t 155)]<|
.m 8 156<|
.nil)
 .ret)
 .skip)
def au (E:EB) (D:Al) (W:AE) (K1:H->AG) (a b:Nat) (c d:Int) (e f:Nat) (g:Bool) (Z:H):AG:=
 AJ g (
 BV E Z e f 6 fun l1=>
 Ah .i64 l1 fun x4 l3=>
 Ah .i64 l3 fun x7 l6=>
 AB l6 fun x8 l9=>
 AB l9 fun x10 l11=>
 Ah .i64 l11 fun x14 l13=>
 AB l13 fun x15 l16=>
 AT l16 (
 AV (D 103 [.ptr a b,.int .i64 c,.agg [.int .i64 x4,.int .i64 x7,x8,x10,.int .i64 x14,x15],.int .i64 d] Z) fun u17 s18=>
 Aa u17 fun x19=>
 some ((V.bool x19),s18))) (
 K1 Z)
def oG (E:EB) (D:Al) (W:AE) (N:Nat):=yX E D W
def ABA:=au E D W (oG E D W N )
def ABB:=av E D W (ABA E D W N )
def wV (args:List V) (Z:H):AG:=
 AB args fun x1 l2=>
 Bv x1 fun b3 o4=>
 Ah .i64 l2 fun x7 l6=>
 AB l6 fun x8 l9=>
 Ba x8 fun l10=>
 Ah .i64 l10 fun x13 l12=>
 Ah .i64 l12 fun x16 l15=>
 AB l15 fun x17 l18=>
 AB l18 fun x19 l20=>
 Ah .i64 l20 fun x23 l22=>
 AB l22 fun x24 l25=>
 AT l25 (
 Ah .i64 l9 fun x28 l27=>
 AT l27 (
 aw E D W (ABB E D W N ) b3 o4 x7 x13 x16 x17 x19 x23 x24 x28 Z))
def A67:C9:=⟨157,[.ptr,.i,y1,.i],[(.tmp 8)],(ACV ACU (ACT ACS))⟩
theorem AFP (args:List V) (Z:H):Be E D W N A67 args Z=wV E D W N args Z:=by kernel_rfl
def Yh:List (Nat × Co):=[(3,.i),(7,.any),(8,.i),(9,.i)]
def He (E:EB):St->AG:=fun s=>Cy E s [(.tmp 2)] fun l=>some (DH l,s.Z)
def ic (c0:XC):Nat->St->AG:=BN 0 (dX E D W N (.keep [(3,.i)] [] [] c0) (He E) nX (He E)) nX
def fA (cc1:XC) (cc2:XC):XC:=(.z (.P 1 (.box 34 (.t 0))<|
.q 2 0<|
.nil)
 (.z (.q 3 1<|
.nil)
 (.seq (.z (.f 6 3 1<|
.l 7 .any 6<|
.u 8 7<|
.q 9 0<|
.nil)
 (.block 0 (.loop Yh [] [] cc2)))
 (.keep [(3,.i)] [] [] cc1))))
def lV (E:EB) (D:Al) (W:AE) (K2:Int->V->Int->Int->H->AG) (a b:Int) (c d:V) (e:Int) (f:V) (Z:H):AG:=
 Gi [.int .i64 a,.int .i64 b,c,d,.int .i64 e,f] Z fun s1=>
 BY E s1 (H.next Z) 3 fun u2=>
 A0 u2 fun n3=>
 K2 (AA 1) u2 (AA n3) (AA 0) s1
def OO:XC:=(.z (.m 18 3<|
.m 2 18<|
.nil)
 .ret)
def yW (E:EB) (D:Al) (W:AE) (a:Int) (Z:H):AG:=
 some ((V.int .i64 a),Z)
def QG:XC:=(.z (.b 10 .lss .none (.t 9) (.t 8)<|
.nil)
 (.seq (.cond (.tmp 10) .skip
 Lr)
 (.seq (.block 1 (.z (.s 11 6 7 9<|
.O 12 y1 (.load (some 6) (.t 11))<|
.pal 5 [] 34 [y0,y0,V.nils,V.nils,y0,V.nils]<|
.op none y1 [5,12] (.store 6 (.t 5) (.t 12))<|
.nil)
 (.ops (.m 13 3<|
.O 14 y1 (.load (some 6) (.t 5))<|
.k 15 .i 68 [(.t 14)]<|
.b 16 .add .none (.t 13) (.t 15)<|
.m 3 16<|
.nil))))
 (.ops (.b 17 .add .none (.t 9) (.i 1)<|
.m 9 17<|
.nil)))))
def lU (E:EB) (D:Al) (W:AE) (K1:Int->H->AG) (R2:Int->V->Int->Int->H->AG) (a:Int) (b:V) (c d:Int) (Z:H):AG:=
 AJ (Cr d c) (
 Ab 6 b d fun b1 o2=>
 BV E Z b1 o2 6 fun l3=>
 Ah .i64 l3 fun x6 l5=>
 Ah .i64 l5 fun x9 l8=>
 AB l8 fun x10 l11=>
 AB l11 fun x12 l13=>
 Ah .i64 l13 fun x16 l15=>
 AB l15 fun x17 l18=>
 AT l18 (
 Fx (allOne [.int .i64 x6,.int .i64 x9,x10,x12,.int .i64 x16,x17]) (
 AV (D 68 [.agg [.int .i64 x6,.int .i64 x9,x10,x12,.int .i64 x16,x17]] Z) fun u19 s20=>
 Aj .i64 u19 fun x21=>
 R2 (CM .i64 a x21) b c (CM .i64 d (AA 1)) s20))) (
 K1 a Z)
def mU (a b:Int) (c d:V) (e:Int) (f:V) (Z:H):St:=⟨[(0,.agg [.int .i64 a,.int .i64 b,c,d,.int .i64 e,f])],[],[],Z⟩
def mT (a:Int) (Z:H):St:=⟨[(3,.int .i64 a)],[],[],Z⟩
def WJ (a:Int) (b:V) (c d:Int) (Z:H):St:=⟨[(3,.int .i64 a),(7,b),(8,.int .i64 c),(9,.int .i64 d)],[],[],Z⟩
theorem AAD (cc1:XC) (cc2:XC) (a b:Int) (c d:V) (e:Int) (f:V) (Z:H) :
 AM E D W N (fA cc1 cc2) (mU a b c d e f Z) (He E) nX (He E) =
 lV E D W (fun g h i j Z=>Af (fun rec s'=>AM E D W N cc2 s' (kX Yh [] [] rec) (ic E D W N cc1) (He E)) N (WJ g h i j Z)) a b c d e f Z:=by kernel_rfl
theorem AAC (cc1:XC) (li2:St->AG) (a:Int) (b:V) (c d:Int) (Z:H) :
 AM E D W N (QG ) (WJ a b c d Z) (kX Yh [] [] li2) (ic E D W N cc1) (He E) =
 lU E D W (fun a Z=>AM E D W N cc1 (mT a Z) (He E) nX (He E)) (fun a b c d Z=>li2 (WJ a b c d Z)) a b c d Z:=by kernel_rfl
def oE (E:EB) (D:Al) (W:AE) (N:Nat):=yW E D W
theorem uO (a:Int) (Z:H) :
 AM E D W N OO (mT a Z) (He E) nX (He E)=oE E D W N a Z:=by kernel_rfl
def nE (n:Nat):Int->V->Int->Int->H->AG:=
 Nat.rec (fun _ _ _ _ _=>none) (fun _ ih=>lU E D W (oE E D W N ) ih) n
theorem tT (n:Nat):∀(a:Int) (b:V) (c d:Int) (Z:H),
 Af (fun rec s'=>AM E D W N QG s' (kX Yh [] [] rec) (ic E D W N OO) (He E)) n (WJ a b c d Z)=nE E D W N n a b c d Z:=by
 induction n with
 | zero=>intro a b c d Z;rfl
 | succ n ihn=>
  intro a b c d Z
  rw[Ak]
  refine(AAC E D W N OO (Af (fun rec s'=>AM E D W N QG s' (kX Yh [] [] rec) (ic E D W N OO) (He E)) n) a b c d Z).trans ?_
  simp only[ihn,uO]
  kernel_rfl
def oF:=lV E D W (nE E D W N N)
theorem uP (a b:Int) (c d:V) (e:Int) (f:V) (Z:H) :
 AM E D W N (fA OO QG) (mU a b c d e f Z) (He E) nX (He E)=oF E D W N a b c d e f Z:=by
 refine(AAD E D W N OO QG  a b c d e f Z).trans ?_
 simp only[tT]
 kernel_rfl
def F68 (args:List V) (Z:H):AG:=
 AB args fun x1 l2=>
 Ba x1 fun l3=>
 Ah .i64 l3 fun x6 l5=>
 Ah .i64 l5 fun x9 l8=>
 AB l8 fun x10 l11=>
 AB l11 fun x12 l13=>
 Ah .i64 l13 fun x16 l15=>
 AB l15 fun x17 l18=>
 AT l18 (
 AT l2 (
 oF E D W N x6 x9 x10 x12 x16 x17 Z))
def A68:C9:=⟨19,[y1],[(.tmp 2)],(fA OO QG)⟩
theorem AFO (args:List V) (Z:H):Be E D W N A68 args Z=F68 E D W N args Z:=by
 unfold F68
 simp only[<-uP]
 kernel_rfl
def ACR:XC:=(.z (.c 4 y3<|
.nil)
 (.z (.m 5 0<|
.m 6 1<|
.k 7 .i 104 [(.t 5),(.t 6)]<|
.b 8 .geq .none (.t 7) (.i 0)<|
.m 4 8<|
.nil)
 .ret))
def yV (E:EB) (D:Al) (W:AE) (a b:V) (Z:H):AG:=
 AV (D 104 [a,b] Z) fun u1 s2=>
 Aj .i64 u1 fun x3=>
 some ((V.bool (I7 (AA 0) x3)),s2)
def F69 (N:Nat) (args:List V) (Z:H):AG:=
 AB args fun x1 l2=>
 AB l2 fun x3 l4=>
 AT l4 (
 yV E D W x1 x3 Z)
def A69:C9:=⟨9,[.any,.any],[(.tmp 4)],ACR⟩
theorem AFN (args:List V) (Z:H):Be E D W N A69 args Z=F69 E D W N args Z:=by kernel_rfl
def ACQ:XC:=(.z (.P 2 (.box 34 (.t 0))<|
.c 3 y3<|
.nil)
 (.z (.O 4 y1 (.load (some 6) (.t 2))<|
.l 5 .i 1<|
.k 6 .bool 41 [(.t 4),(.t 5)]<|
.P 7 (.un .not (.t 6))<|
.m 3 7<|
.nil)
 .ret))
def yU (E:EB) (D:Al) (W:AE) (a b:Int) (c d:V) (e:Int) (f g:V) (Z:H):AG:=
 Gi [.int .i64 a,.int .i64 b,c,d,.int .i64 e,f] Z fun s1=>
 BV E s1 (H.next Z) 0 6 fun l2=>
 Ah .i64 l2 fun x5 l4=>
 Ah .i64 l4 fun x8 l7=>
 AB l7 fun x9 l10=>
 AB l10 fun x11 l12=>
 Ah .i64 l12 fun x15 l14=>
 AB l14 fun x16 l17=>
 AT l17 (
 Bv g fun b18 o19=>
 BY E s1 b18 o19 fun u20=>
 Aj .i64 u20 fun x21=>
 AV (D 41 [.agg [.int .i64 x5,.int .i64 x8,x9,x11,.int .i64 x15,x16],.int .i64 x21] s1) fun u22 s23=>
 Aa u22 fun x24=>
 some ((V.bool (not x24)),s23))
def F70 (N:Nat) (args:List V) (Z:H):AG:=
 AB args fun x1 l2=>
 Ba x1 fun l3=>
 Ah .i64 l3 fun x6 l5=>
 Ah .i64 l5 fun x9 l8=>
 AB l8 fun x10 l11=>
 AB l11 fun x12 l13=>
 Ah .i64 l13 fun x16 l15=>
 AB l15 fun x17 l18=>
 AT l18 (
 AB l2 fun x19 l20=>
 AT l20 (
 yU E D W x6 x9 x10 x12 x16 x17 x19 Z))
def A70:C9:=⟨8,[y1,.any],[(.tmp 3)],ACQ⟩
theorem AFM (args:List V) (Z:H):Be E D W N A70 args Z=F70 E D W N args Z:=by kernel_rfl
def Yg:List (Nat × Co):=[(0,.any),(1,.bool),(7,.any),(8,.i)]
def Hd (E:EB):St->AG:=fun s=>Cy E s [(.tmp 6)] fun l=>some (DH l,s.Z)
def ib (c0:XC):Nat->St->AG:=BN 0 (dX E D W N (.keep [(7,.any)] [] [] c0) (Hd E) nX (Hd E)) nX
def e9 (cc1:XC) (cc2:XC):XC:=(.z (.c 6 V.nils<|
.nil)
 (.z (.m 9 2<|
.k 10 .one 105 [(.t 9)]<|
.m 7 10<|
.nil)
 (.seq (.z (.m 11 0<|
.u 12 11<|
.b 13 .sub .none (.t 12) (.i 1)<|
.m 8 13<|
.nil)
 (.block 0 (.loop Yg [] [] cc2)))
 (.keep [(7,.any)] [] [] cc1))))
def lT (E:EB) (D:Al) (W:AE) (K2:V->Bool->V->Int->H->AG) (a:V) (b:Bool) (c:V) (Z:H):AG:=
 AV (D 105 [c] Z) fun u1 s2=>
 BU u1 (
 A0 a fun n3=>
 K2 a b u1 (D2 .i64 (AA n3) (AA 1)) s2)
def ON:XC:=(.z (.m 33 7<|
.m 6 33<|
.nil)
 .ret)
def yT (E:EB) (D:Al) (W:AE) (a:V) (Z:H):AG:=
 some (a,Z)
def QF:XC:=(.seq (.z (.m 14 8<|
.b 15 .geq .none (.t 14) (.i 0)<|
.nil)
 (.cond (.tmp 15) .skip
 Lr))
 (.seq (.block 1 (.ops (.m 18 0<|
.m 19 8<|
.s 20 2 18 19<|
.O 21 y4 (.load (some 2) (.t 20))<|
.m 22 1<|
.m 23 22<|
.gO 23 false (.p 24 [8,23] (.mov (.t 8))<|
.p 25 [0,23] y9<|
.p 26 [25,23] (.len false (.t 25))<|
.p 27 [26,23] (.bin .sub .none (.t 26) (.i 1))<|
.p 28 [24,27,23] (.bin .lss .none (.t 24) (.t 27))<|
.nil) 29 23 28<|
.m 30 7<|
.p 31 [30] (.buildSlice 29 1 [V.nils] [(0,1,(.t 30))])<|
.k 32 .one 106 [(.t 21),(.t 29),(.t 31)]<|
.m 7 32<|
.nil)))
 (.ops (.m 16 8<|
.b 17 .sub .none (.t 16) (.i 1)<|
.m 8 17<|
.nil))))
def lS (E:EB) (D:Al) (W:AE) (K1:V->H->AG) (R2:V->Bool->V->Int->H->AG) (a:V) (b:Bool) (c:V) (d:Int) (Z:H):AG:=
 AJ (I7 (AA 0) d) (
 Ab 2 a d fun b1 o2=>
 BV E Z b1 o2 2 fun l3=>
 Ah .i64 l3 fun x6 l5=>
 Ah .i64 l5 fun x9 l8=>
 AT l8 (
 Ac (fun c10 s11=>
 H7 [(0,1,c)] [V.nils] fun l13=>
 Fx (allOne l13) (
 let s14:=B6 s11 (.cells l13);
 AV (D 106 [.agg [.int .i64 x6,.int .i64 x9],.bool c10,.sl (H.next s11) 0 1 (.ex 1)] s14) fun u15 s16=>
 BU u15 (
 R2 a b u15 (D2 .i64 d (AA 1)) s16))) fun k12=>
 AJ b (
 k12 true Z) (
 A0 a fun n17=>
 k12 (Cr d (D2 .i64 (AA n17) (AA 1))) Z))) (
 K1 c Z)
def mS (a:V) (b:Bool) (c:V) (Z:H):St:=⟨[(0,a),(1,.bool b),(2,c)],[],[],Z⟩
def mR (a:V) (Z:H):St:=⟨[(7,a)],[],[],Z⟩
def WI (a:V) (b:Bool) (c:V) (d:Int) (Z:H):St:=⟨[(0,a),(1,.bool b),(7,c),(8,.int .i64 d)],[],[],Z⟩
theorem AAB (cc1:XC) (cc2:XC) (a:V) (b:Bool) (c:V) (Z:H) :
 AM E D W N (e9 cc1 cc2) (mS a b c Z) (Hd E) nX (Hd E) =
 lT E D W (fun a b d e Z=>Af (fun rec s'=>AM E D W N cc2 s' (kX Yg [] [] rec) (ib E D W N cc1) (Hd E)) N (WI a b d e Z)) a b c Z:=by kernel_rfl
theorem AAA (cc1:XC) (li2:St->AG) (a:V) (b:Bool) (c:V) (d:Int) (Z:H) :
 AM E D W N (QF ) (WI a b c d Z) (kX Yg [] [] li2) (ib E D W N cc1) (Hd E) =
 lS E D W (fun c Z=>AM E D W N cc1 (mR c Z) (Hd E) nX (Hd E)) (fun a b c d Z=>li2 (WI a b c d Z)) a b c d Z:=by kernel_rfl
def oB (E:EB) (D:Al) (W:AE) (N:Nat):=yT E D W
theorem uM (a:V) (Z:H) :
 AM E D W N ON (mR a Z) (Hd E) nX (Hd E)=oB E D W N a Z:=by kernel_rfl
def nD (n:Nat):V->Bool->V->Int->H->AG:=
 Nat.rec (fun _ _ _ _ _=>none) (fun _ ih=>lS E D W (oB E D W N ) ih) n
theorem tS (n:Nat):∀(a:V) (b:Bool) (c:V) (d:Int) (Z:H),
 Af (fun rec s'=>AM E D W N QF s' (kX Yg [] [] rec) (ib E D W N ON) (Hd E)) n (WI a b c d Z)=nD E D W N n a b c d Z:=by
 induction n with
 | zero=>intro a b c d Z;rfl
 | succ n ihn=>
  intro a b c d Z
  rw[Ak]
  refine(AAA E D W N ON (Af (fun rec s'=>AM E D W N QF s' (kX Yg [] [] rec) (ib E D W N ON) (Hd E)) n) a b c d Z).trans ?_
  simp only[ihn,uM]
  kernel_rfl
def oD:=lT E D W (nD E D W N N)
theorem uN (a:V) (b:Bool) (c:V) (Z:H) :
 AM E D W N (e9 ON QF) (mS a b c Z) (Hd E) nX (Hd E)=oD E D W N a b c Z:=by
 refine(AAB E D W N ON QF  a b c Z).trans ?_
 simp only[tS]
 kernel_rfl
def F71 (args:List V) (Z:H):AG:=
 AB args fun x1 l2=>
 C7 l2 fun x5 l4=>
 AB l4 fun x6 l7=>
 AT l7 (
 oD E D W N x1 x5 x6 Z)
def A71:C9:=⟨34,[.any,.bool,.any],[(.tmp 6)],(e9 ON QF)⟩
theorem AFL (args:List V) (Z:H):Be E D W N A71 args Z=F71 E D W N args Z:=by
 unfold F71
 simp only[<-uN]
 kernel_rfl
def On:List (Nat × Co):=[(0,.any),(4,.ptr),(5,.ptr),(7,.any),(13,.any),(14,.i),(15,.i)]
def Yf:List (Nat × Co):=[(4,.ptr),(7,.any),(37,.any),(38,.i),(39,.i)]
def xN:List (Nat × Co):=[(4,.ptr),(5,.ptr),(7,.any)]
def pM:List BC:=[⟨(some 23),.mov (.tmp 7),none⟩,⟨(some 24),.mov (.tmp 0),none⟩,⟨(some 25),.faddr 9 (.tmp 4),none⟩,⟨(some 26),.load none (.tmp 25),none⟩,⟨(some 27),.mov (.tmp 8),none⟩,⟨(some 28),.iaddrS 11 (.tmp 26) (.tmp 27),none⟩,⟨(some 29),.faddr 1 (.tmp 28),none⟩,⟨(some 30),.load none (.tmp 29),none⟩,⟨(some 31),.load (some 6) (.tmp 9),none⟩,⟨(some 32),.call 42 [(.tmp 24),(.tmp 30),(.tmp 31)],none⟩,⟨(some 33),.buildSlice 29 1 [V.nils] [(0,1,(.tmp 32))],none⟩,⟨(some 34),.append 29 1 24 (.tmp 23) (.tmp 33),none⟩,⟨(some 7),.mov (.tmp 34),none⟩]
def pH:List DP:=[⟨0,[7]⟩,⟨0,[0]⟩,⟨0,[4]⟩,⟨4,[25]⟩,⟨0,[8]⟩,⟨28,[26,27]⟩,⟨60,[28]⟩,⟨124,[29]⟩,⟨0,[9]⟩,⟨510,[24,30,31]⟩,⟨1022,[32]⟩,⟨2047,[23,33]⟩,⟨4095,[34]⟩]
def Cw (E:EB):St->AG:=fun s=>Cy E s [(.tmp 6)] fun l=>some (DH l,s.Z)
def UZ (c0:XC):Nat->St->AG:=BN 0 (dX E D W N (.keep xN [] [] c0) (Cw E) nX (Cw E)) nX
def iZ (c0:XC):Nat->St->AG:=BN 2 (dX E D W N (.keep [(4,.ptr),(7,.any)] [] [] c0) (Cw E) nX (Cw E)) nX
def e8 (cc1:XC) (cc2:XC):XC:=(.z (.P 4 (.box 97 (.t 1))<|
.P 5 (.box 34 (.t 2))<|
.c 6 V.nils<|
.nil)
 (.z (.c 7 V.nils<|
.nil)
 (.seq (.z (.f 12 3 5<|
.l 13 .any 12<|
.u 14 13<|
.q 15 0<|
.nil)
 (.block 0 (.loop On [] [] cc2)))
 (.keep xN [] [] cc1))))
def lR (E:EB) (D:Al) (W:AE) (K2:V->Nat->Nat->Nat->Nat->V->V->Int->Int->H->AG) (a:V) (b:Int) (c:V) (d e f g:Bool) (h i:Int) (j k:V) (l:Int) (m:Bool) (o p q:Int) (r s:V) (t:Int) (u:V) (Z:H):AG:=
 Gi [.int .i64 b,c,.bool d,.bool e,.bool f,.bool g,.int .i64 h,.int .i64 i,j,k,.int .i64 l,.bool m,.int .i64 o] Z fun s1=>
 Gi [.int .i64 p,.int .i64 q,r,s,.int .i64 t,u] s1 fun s2=>
 BY E s2 (H.next s1) 3 fun u3=>
 A0 u3 fun n4=>
 K2 a (H.next Z) 0 (H.next s1) 0 V.nils u3 (AA n4) (AA 0) s2
def Jy (cc4:XC) (cc5:XC):XC:=(.seq (.z (.f 36 5 5<|
.l 37 .any 36<|
.u 38 37<|
.q 39 0<|
.nil)
 (.block 2 (.loop Yf [] [] cc5)))
 (.keep [(4,.ptr),(7,.any)] [] [] cc4))
def lQ (E:EB) (D:Al) (W:AE) (K5:Nat->Nat->V->V->Int->Int->H->AG) (a b c d:Nat) (e:V) (Z:H):AG:=
 BY E Z c (Ar d 5) fun u1=>
 A0 u1 fun n2=>
 K5 a b e u1 (AA n2) (AA 0) Z
def QE (cc3:XC):XC:=(.z (.b 16 .lss .none (.t 15) (.t 14)<|
.nil)
 (.seq y31
 (.seq (.block 1 (.z (.m 17 15<|
.s 18 6 13 15<|
.O 19 y1 (.load (some 6) (.t 18))<|
.p 9 [] pX<|
.m 8 17<|
.op none y1 [9,19] (.store 6 (.t 9) (.t 19))<|
.nil)
 (.z (.O 20 y1 (.load (some 6) (.t 9))<|
.k 21 .bool 107 [(.t 20)]<|
.P 22 (.un .not (.t 21))<|
.nil)
 (.cond (.tmp 22) (.keep [(0,.any),(4,.ptr),(5,.ptr),(7,.any),(8,.i),(9,.ptr),(13,.any),(14,.i),(15,.i)] [] [] (.gdraw pM pH On))
 .skip))))
 (.keep On [] [] cc3))))
def lP (K1:Nat->Nat->Nat->Nat->V->H->AG) (K3:V->Nat->Nat->Nat->Nat->V->V->Int->Int->H->AG) (a:V) (b c d e:Nat) (f g:V) (h i:Int) (Z:H):AG:=
 AJ (Cr i h) (
 Ab 6 g i fun b1 o2=>
 BV E Z b1 o2 6 fun l3=>
 Ah .i64 l3 fun x6 l5=>
 Ah .i64 l5 fun x9 l8=>
 AB l8 fun x10 l11=>
 AB l11 fun x12 l13=>
 Ah .i64 l13 fun x16 l15=>
 AB l15 fun x17 l18=>
 AT l18 (
 let s19:=B6 Z (.cells [.int .i64 (AA 0),.int .i64 (AA 0),V.nils,V.nils,.int .i64 (AA 0),V.nils]);
 FY 6 (H.next Z) 0 (V.agg [.int .i64 x6,.int .i64 x9,x10,x12,.int .i64 x16,x17]) s19 fun s20=>
 BV E s20 (H.next Z) 0 6 fun l21=>
 Ah .i64 l21 fun x24 l23=>
 Ah .i64 l23 fun x27 l26=>
 AB l26 fun x28 l29=>
 AB l29 fun x30 l31=>
 Ah .i64 l31 fun x34 l33=>
 AB l33 fun x35 l36=>
 AT l36 (
 AV (D 107 [.agg [.int .i64 x24,.int .i64 x27,x28,x30,.int .i64 x34,x35]] s20) fun u37 s38=>
 Aa u37 fun x39=>
 AJ (not x39) (
 Cp (W pM pH [(0,a),(4,.ptr b c),(5,.ptr d e),(7,f),(8,.int .i64 i),(9,.ptr (H.next Z) 0),(13,g),(14,.int .i64 h),(15,.int .i64 i)] s38) fun e40 s41=>
 BR e40 0 fun u42=>
 BR e40 4 fun u43=>
 Bv u43 fun b44 o45=>
 BR e40 5 fun u46=>
 Bv u46 fun b47 o48=>
 BR e40 7 fun u49=>
 BR e40 13 fun u50=>
 BR e40 14 fun u51=>
 Aj .i64 u51 fun x52=>
 BR e40 15 fun u53=>
 Aj .i64 u53 fun x54=>
 K3 u42 b44 o45 b47 o48 u49 u50 x52 x54 s41) (
 K3 a b c d e f g h i s38)))) (
 K1 b c d e f Z)
def Mo:XC:=(.ops (.b 35 .add .none (.t 15) (.i 1)<|
.m 15 35<|
.nil))
def lO (E:EB) (D:Al) (W:AE) (R2:V->Nat->Nat->Nat->Nat->V->V->Int->Int->H->AG) (a:V) (b c d e:Nat) (f g:V) (h i:Int) (Z:H):AG:=
 R2 a b c d e f g h (CM .i64 i (AA 1)) Z
def HK (cc6:XC):XC:=(.seq (.z (.f 49 0 4<|
.l 50 .i 49<|
.b 51 .eql .none (.t 50) (.i 8)<|
.nil)
 (.cond (.tmp 51) (.ops (.m 52 7<|
.k 53 (.tup []) 108 [(.t 52),(.con (V.fn 109 [] []))]<|
.nil))
 .skip))
 (.keep [(7,.any)] [] [] cc6))
def lN (E:EB) (D:Al) (W:AE) (K6:V->H->AG) (a b:Nat) (c:V) (Z:H):AG:=
 BY E Z a b fun u1=>
 Aj .i64 u1 fun x2=>
 AJ (B5 x2 (AA 8)) (
 AV (D 108 [c,.fn 109 [] []] Z) fun u3 s4=>
 C1 u3 fun l5=>
 AT l5 (
 K6 c s4)) (
 K6 c Z)
def IJ:XC:=(.z (.b 40 .lss .none (.t 39) (.t 38)<|
.nil)
 (.seq (.cond (.tmp 40) .skip
 (.exit 2))
 (.seq (.block 3 (.z (.s 41 2 37 39<|
.O 42 T4 (.load (some 2) (.t 41))<|
.pal 11 [] 47 [y0,V.nils]<|
.op none T4 [11,42] (.store 2 (.t 11) (.t 42))<|
.nil)
 (.ops (.m 43 7<|
.f 44 1 11<|
.l 45 .any 44<|
.p 46 [45] (.buildSlice 29 1 [V.nils] [(0,1,(.t 45))])<|
.O 47 .one (.append 29 1 24 (.t 43) (.t 46))<|
.m 7 47<|
.nil))))
 (.ops (.b 48 .add .none (.t 39) (.i 1)<|
.m 39 48<|
.nil)))))
def lM (E:EB) (D:Al) (W:AE) (K4:Nat->Nat->V->H->AG) (R5:Nat->Nat->V->V->Int->Int->H->AG) (a b:Nat) (c d:V) (e f:Int) (Z:H):AG:=
 AJ (Cr f e) (
 Ab 2 d f fun b1 o2=>
 BV E Z b1 o2 2 fun l3=>
 Ah .i64 l3 fun x6 l5=>
 AB l5 fun x7 l8=>
 AT l8 (
 Fx (allOne [.int .i64 x6,x7]) (
 H7 [(0,1,x7)] [V.nils] fun l9=>
 Fx (allOne l9) (
 let s10:=B6 Z (.cells l9);
 DI E 1 24 c (V.sl (H.next Z) 0 1 (.ex 1)) s10 fun u11 s12=>
 BU u11 (
 R5 a b u11 d e (CM .i64 f (AA 1)) s12))))) (
 K4 a b c Z)
def Ga:XC:=(.z (.m 54 7<|
.m 6 54<|
.nil)
 .ret)
def yS (E:EB) (D:Al) (W:AE) (a:V) (Z:H):AG:=
 some (a,Z)
def mQ (a:V) (b:Int) (c:V) (d e f g:Bool) (h i:Int) (j k:V) (l:Int) (m:Bool) (o p q:Int) (r s:V) (t:Int) (u:V) (Z:H):St:=⟨[(0,a),(1,.agg [.int .i64 b,c,.bool d,.bool e,.bool f,.bool g,.int .i64 h,.int .i64 i,j,k,.int .i64 l,.bool m,.int .i64 o]),(2,.agg [.int .i64 p,.int .i64 q,r,s,.int .i64 t,u])],[],[],Z⟩
def cQ (a b c d:Nat) (e:V) (Z:H):St:=⟨[(4,.ptr a b),(5,.ptr c d),(7,e)],[],[],Z⟩
def Mj (a:V) (b c d e:Nat) (f g:V) (h i:Int) (Z:H):St:=⟨[(0,a),(4,.ptr b c),(5,.ptr d e),(7,f),(13,g),(14,.int .i64 h),(15,.int .i64 i)],[],[],Z⟩
def cP (a b:Nat) (c:V) (Z:H):St:=⟨[(4,.ptr a b),(7,c)],[],[],Z⟩
def WH (a b:Nat) (c d:V) (e f:Int) (Z:H):St:=⟨[(4,.ptr a b),(7,c),(37,d),(38,.int .i64 e),(39,.int .i64 f)],[],[],Z⟩
def mP (a:V) (Z:H):St:=⟨[(7,a)],[],[],Z⟩
theorem z7 (cc1:XC) (cc2:XC) (a:V) (b:Int) (c:V) (d e f g:Bool) (h i:Int) (j k:V) (l:Int) (m:Bool) (o p q:Int) (r s:V) (t:Int) (u:V) (Z:H) :
 AM E D W N (e8 cc1 cc2) (mQ a b c d e f g h i j k l m o p q r s t u Z) (Cw E) nX (Cw E) =
 lR E D W (fun a v w x y z B I M Z=>Af (fun rec s'=>AM E D W N cc2 s' (kX On [] [] rec) (UZ E D W N cc1) (Cw E)) N (Mj a v w x y z B I M Z)) a b c d e f g h i j k l m o p q r s t u Z:=by kernel_rfl
theorem zz (cc4:XC) (cc5:XC) (a b c d:Nat) (e:V) (Z:H) :
 AM E D W N (Jy cc4 cc5) (cQ a b c d e Z) (Cw E) nX (Cw E) =
 lQ E D W (fun a b e f g h Z=>Af (fun rec s'=>AM E D W N cc5 s' (kX Yf [] [] rec) (iZ E D W N cc4) (Cw E)) N (WH a b e f g h Z)) a b c d e Z:=by kernel_rfl
theorem zy (cc1:XC) (cc3:XC) (li2:St->AG) (a:V) (b c d e:Nat) (f g:V) (h i:Int) (Z:H) :
 AM E D W N (QE cc3) (Mj a b c d e f g h i Z) (kX On [] [] li2) (UZ E D W N cc1) (Cw E) =
 lP E D W (fun b c d e f Z=>AM E D W N cc1 (cQ b c d e f Z) (Cw E) nX (Cw E)) (fun a b c d e f g h i Z=>AM E D W N cc3 (Mj a b c d e f g h i Z) (kX On [] [] li2) (UZ E D W N cc1) (Cw E)) a b c d e f g h i Z:=by kernel_rfl
theorem zx (cc1:XC) (li2:St->AG) (a:V) (b c d e:Nat) (f g:V) (h i:Int) (Z:H) :
 AM E D W N (Mo ) (Mj a b c d e f g h i Z) (kX On [] [] li2) (UZ E D W N cc1) (Cw E) =
 lO E D W (fun a b c d e f g h i Z=>li2 (Mj a b c d e f g h i Z)) a b c d e f g h i Z:=by kernel_rfl
theorem zw (cc6:XC) (a b:Nat) (c:V) (Z:H) :
 AM E D W N (HK cc6) (cP a b c Z) (Cw E) nX (Cw E) =
 lN E D W (fun c Z=>AM E D W N cc6 (mP c Z) (Cw E) nX (Cw E)) a b c Z:=by kernel_rfl
theorem zu (cc4:XC) (li5:St->AG) (a b:Nat) (c d:V) (e f:Int) (Z:H) :
 AM E D W N (IJ ) (WH a b c d e f Z) (kX Yf [] [] li5) (iZ E D W N cc4) (Cw E) =
 lM E D W (fun a b c Z=>AM E D W N cc4 (cP a b c Z) (Cw E) nX (Cw E)) (fun a b c d e f Z=>li5 (WH a b c d e f Z)) a b c d e f Z:=by kernel_rfl
def nn (E:EB) (D:Al) (W:AE) (N:Nat):=yS E D W
theorem uH (a:V) (Z:H) :
 AM E D W N Ga (mP a Z) (Cw E) nX (Cw E)=nn E D W N a Z:=by kernel_rfl
def nq:=lN E D W (nn E D W N )
theorem uI (a b:Nat) (c:V) (Z:H) :
 AM E D W N (HK Ga) (cP a b c Z) (Cw E) nX (Cw E)=nq E D W N a b c Z:=by
 refine(zw E D W N Ga  a b c Z).trans ?_
 simp only[uH]
 kernel_rfl
def nB (n:Nat):Nat->Nat->V->V->Int->Int->H->AG:=
 Nat.rec (fun _ _ _ _ _ _ _=>none) (fun _ ih=>lM E D W (nq E D W N ) ih) n
theorem tQ (n:Nat):∀(a b:Nat) (c d:V) (e f:Int) (Z:H),
 Af (fun rec s'=>AM E D W N IJ s' (kX Yf [] [] rec) (iZ E D W N (HK Ga)) (Cw E)) n (WH a b c d e f Z)=nB E D W N n a b c d e f Z:=by
 induction n with
 | zero=>intro a b c d e f Z;rfl
 | succ n ihn=>
  intro a b c d e f Z
  rw[Ak]
  refine(zu E D W N (HK Ga) (Af (fun rec s'=>AM E D W N IJ s' (kX Yf [] [] rec) (iZ E D W N (HK Ga)) (Cw E)) n) a b c d e f Z).trans ?_
  simp only[ihn,uI]
  kernel_rfl
def ny:=lQ E D W (nB E D W N N)
theorem uK (a b c d:Nat) (e:V) (Z:H) :
 AM E D W N (Jy (HK Ga) IJ) (cQ a b c d e Z) (Cw E) nX (Cw E)=ny E D W N a b c d e Z:=by
 refine(zz E D W N (HK Ga) IJ  a b c d e Z).trans ?_
 simp only[tQ]
 kernel_rfl
def nr (E:EB) (D:Al) (W:AE) (N:Nat) (R2:V->Nat->Nat->Nat->Nat->V->V->Int->Int->H->AG):=lO E D W R2
theorem uJ (li2:St->AG) (a:V) (b c d e:Nat) (f g:V) (h i:Int) (Z:H) :
 AM E D W N Mo (Mj a b c d e f g h i Z) (kX On [] [] li2) (UZ E D W N (Jy (HK Ga) IJ)) (Cw E)=nr E D W N (fun a b c d e f g h i Z=>li2 (Mj a b c d e f g h i Z)) a b c d e f g h i Z:=by
 refine(zx E D W N (Jy (HK Ga) IJ) li2 a b c d e f g h i Z).trans ?_
 kernel_rfl
def nC (n:Nat):V->Nat->Nat->Nat->Nat->V->V->Int->Int->H->AG:=
 Nat.rec (fun _ _ _ _ _ _ _ _ _ _=>none) (fun _ ih=>lP E D W (ny E D W N ) (nr E D W N ih)) n
theorem tR (n:Nat):∀(a:V) (b c d e:Nat) (f g:V) (h i:Int) (Z:H),
 Af (fun rec s'=>AM E D W N (QE Mo) s' (kX On [] [] rec) (UZ E D W N (Jy (HK Ga) IJ)) (Cw E)) n (Mj a b c d e f g h i Z)=nC E D W N n a b c d e f g h i Z:=by
 induction n with
 | zero=>intro a b c d e f g h i Z;rfl
 | succ n ihn=>
  intro a b c d e f g h i Z
  rw[Ak]
  refine(zy E D W N (Jy (HK Ga) IJ) Mo (Af (fun rec s'=>AM E D W N (QE Mo) s' (kX On [] [] rec) (UZ E D W N (Jy (HK Ga) IJ)) (Cw E)) n) a b c d e f g h i Z).trans ?_
  simp only[ihn,uK,uJ]
  kernel_rfl
def oA:=lR E D W (nC E D W N N)
theorem uL (a:V) (b:Int) (c:V) (d e f g:Bool) (h i:Int) (j k:V) (l:Int) (m:Bool) (o p q:Int) (r s:V) (t:Int) (u:V) (Z:H) :
 AM E D W N (e8 (Jy (HK Ga) IJ) (QE Mo)) (mQ a b c d e f g h i j k l m o p q r s t u Z) (Cw E) nX (Cw E)=oA E D W N a b c d e f g h i j k l m o p q r s t u Z:=by
 refine(z7 E D W N (Jy (HK Ga) IJ) (QE Mo)  a b c d e f g h i j k l m o p q r s t u Z).trans ?_
 simp only[tR]
 kernel_rfl
def F72 (args:List V) (Z:H):AG:=
 AB args fun x1 l2=>
 AB l2 fun x3 l4=>
 Ba x3 fun l5=>
 Ah .i64 l5 fun x8 l7=>
 AB l7 fun x9 l10=>
 C7 l10 fun x13 l12=>
 C7 l12 fun x16 l15=>
 C7 l15 fun x19 l18=>
 C7 l18 fun x22 l21=>
 Ah .i64 l21 fun x25 l24=>
 Ah .i64 l24 fun x28 l27=>
 AB l27 fun x29 l30=>
 AB l30 fun x31 l32=>
 Ah .i64 l32 fun x35 l34=>
 C7 l34 fun x38 l37=>
 Ah .i64 l37 fun x41 l40=>
 AT l40 (
 AB l4 fun x42 l43=>
 Ba x42 fun l44=>
 Ah .i64 l44 fun x47 l46=>
 Ah .i64 l46 fun x50 l49=>
 AB l49 fun x51 l52=>
 AB l52 fun x53 l54=>
 Ah .i64 l54 fun x57 l56=>
 AB l56 fun x58 l59=>
 AT l59 (
 AT l43 (
 oA E D W N x1 x8 x9 x13 x16 x19 x22 x25 x28 x29 x31 x35 x38 x41 x47 x50 x51 x53 x57 x58 Z)))
def A72:C9:=⟨55,[.any,y2,y1],[(.tmp 6)],(e8 (Jy (HK Ga) IJ) (QE Mo))⟩
theorem AFK (args:List V) (Z:H):Be E D W N A72 args Z=F72 E D W N args Z:=by
 unfold F72
 simp only[<-uL]
 kernel_rfl
def ACP:XC:=(.z (.c 4 y5<|
.nil)
 (.seq (.z (.m 5 1<|
.b 6 .lss .none (.t 5) (.i 0)<|
.m 7 6<|
.gO 7 false (.p 8 [1,7] Io<|
.p 9 [0,7] y9<|
.p 10 [9,7] (.len true (.t 9))<|
.p 11 [8,10,7] (.bin .geq .none (.t 8) (.t 10))<|
.nil) 12 7 11<|
.nil)
 (.cond (.tmp 12) (.z (.c 4 y5<|
.nil)
 .ret)
 .skip))
 (.z (.m 13 0<|
.m 14 1<|
.P 15 (.idxStr (.t 13) (.t 14))<|
.m 4 15<|
.nil)
 .ret)))
def yR (E:EB) (D:Al) (W:AE) (a:BS) (b:Int) (Z:H):AG:=
 Ac (fun c1 s2=>
 AJ c1 (
 some ((V.int .u8 (AA 0)),s2)) (
 Cs a b fun x4=>
 some ((V.int .u8 x4),s2))) fun k3=>
 AJ (Cr b (AA 0)) (
 k3 true Z) (
 k3 (I7 (AA (BS.len a)) b) Z)
def F73 (N:Nat) (args:List V) (Z:H):AG:=
 Hz args fun x3 l2=>
 Ah .i64 l2 fun x6 l5=>
 AT l5 (
 yR E D W x3 x6 Z)
def A73:C9:=⟨16,[.str,.i],[(.tmp 4)],ACP⟩
theorem AFJ (args:List V) (Z:H):Be E D W N A73 args Z=F73 E D W N args Z:=by kernel_rfl
def ACO:XC:=(.z (.c 2 y3<|
.nil)
 (.z (.m 3 0<|
.b 4 .geq .none (.t 3) (.con (V.int .u8 (AA 97)))<|
.m 5 4<|
.gA 5 true (.p 6 [0,5] y9<|
.p 7 [6,5] (.bin .leq .none (.t 6) (.con (V.int .u8 (AA 122))))<|
.nil) 8 5 7<|
.m 9 8<|
.gO 9 false (.p 10 [0,9] y9<|
.p 11 [10,9] (.bin .geq .none (.t 10) (.con (V.int .u8 (AA 65))))<|
.p 12 [11,9] (.mov (.t 11))<|
.grp 12 true (.p 13 [0,12] y9<|
.p 14 [13,12] (.bin .leq .none (.t 13) (.con (V.int .u8 (AA 90))))<|
.nil) 15 [12,14,9] (.t 12) (.t 14) Kl<|
.nil) 16 9 15<|
.m 2 16<|
.nil)
 .ret))
def yQ (E:EB) (D:Al) (W:AE) (a:Int) (Z:H):AG:=
 Ac (fun c1 s2=>
 Ac (fun c4 s5=>
 some ((V.bool c4),s5)) fun k6=>
 AJ c1 (
 k6 true s2) (
 Ac (fun c7 s8=>
 k6 c7 s8) fun k9=>
 AJ (I7 (AA 65) a) (
 k9 (I7 a (AA 90)) s2) (
 k9 false s2))) fun k3=>
 AJ (I7 (AA 97) a) (
 k3 (I7 a (AA 122)) Z) (
 k3 false Z)
def F74 (N:Nat) (args:List V) (Z:H):AG:=
 Ah .u8 args fun x3 l2=>
 AT l2 (
 yQ E D W x3 Z)
def A74:C9:=⟨17,[(.int .u8)],[(.tmp 2)],ACO⟩
theorem AFI (args:List V) (Z:H):Be E D W N A74 args Z=F74 E D W N args Z:=by kernel_rfl
def UD:List (Nat × Co):=[(0,.str),(1,.i),(5,.i)]
def Hc (E:EB):St->AG:=fun s=>Cy E s [(.tmp 4)] fun l=>some (DH l,s.Z)
def iY (c0:XC):Nat->St->AG:=BN 0 (dX E D W N (.keep UD [] [] c0) (Hc E) nX (Hc E)) nX
def e7 (cc1:XC) (cc2:XC):XC:=(.z (.q 4 0<|
.nil)
 (.z (.m 6 1<|
.m 5 6<|
.nil)
 (.seq (.block 0 (.loop UD [] [] cc2))
 (.keep UD [] [] cc1))))
def lL (E:EB) (D:Al) (W:AE) (K2:BS->Int->Int->H->AG) (a:BS) (b:Int) (Z:H):AG:=
 K2 a b b Z
def OM:XC:=(.seq (.z (.m 38 0<|
.m 39 1<|
.b 40 .sub .none (.t 39) (.i 1)<|
.P 41 (.idxStr (.t 38) (.t 40))<|
.b 42 .eql .none (.t 41) ff<|
.m 43 42<|
.gO 43 false (.p 44 [1,43] Io<|
.p 45 [5,43] (.mov (.t 5))<|
.p 46 [44,45,43] (.bin .sub .none (.t 44) (.t 45))<|
.p 47 [46,43] (.bin .gtr .none (.t 46) (.i 60))<|
.nil) 48 43 47<|
.nil)
 (.cond (.tmp 48) (.z (.c 4 Wl<|
.nil)
 .ret)
 .skip))
 (.z (.m 49 1<|
.m 4 49<|
.nil)
 .ret))
def yP (E:EB) (D:Al) (W:AE) (a:BS) (b c:Int) (Z:H):AG:=
 Cs a (D2 .i64 b (AA 1)) fun x1=>
 Ac (fun c2 s3=>
 AJ c2 (
 some ((V.int .i64 (CG 0)),s3)) (
 some ((V.int .i64 b),s3))) fun k4=>
 AJ (B5 x1 (AA 45)) (
 k4 true Z) (
 k4 (Cr (AA 60) (D2 .i64 b c)) Z)
def QD:XC:=(.seq (.z (.m 7 1<|
.m 8 0<|
.P 9 (.len true (.t 8))<|
.b 10 .lss .none (.t 7) (.t 9)<|
.m 11 10<|
.gA 11 true (.p 12 [0,11] y9<|
.p 13 [1,11] Io<|
.p 14 [12,13,11] (.idxStr (.t 12) (.t 13))<|
.op (some 15) .bool [14,11] (.call 74 [(.t 14)])<|
.p 16 [15,11] (.mov (.t 15))<|
.grp 16 false (.p 17 [0,16] y9<|
.p 18 [1,16] Io<|
.p 19 [17,18,16] (.idxStr (.t 17) (.t 18))<|
.op (some 20) .bool [19,16] (.call 77 [(.t 19)])<|
.nil) 21 [16,20,11] (.t 16) QV (.t 20)<|
.p 22 [21,11] (.mov (.t 21))<|
.grp 22 false (.p 23 [0,22] y9<|
.p 24 [1,22] Io<|
.p 25 [23,24,22] (.idxStr (.t 23) (.t 24))<|
.p 26 [25,22] (.bin .eql .none (.t 25) ff)<|
.p 27 [26,22] (.mov (.t 26))<|
.grp 27 true (.p 28 [0,27] y9<|
.p 29 [1,27] Io<|
.p 30 [29,27] (.bin .add .none (.t 29) (.i 1))<|
.op (some 31) (.int .u8) [28,30,27] (.call 73 [(.t 28),(.t 30)])<|
.p 32 [31,27] (.bin .neq .none (.t 31) ff)<|
.nil) 33 [27,32,22] (.t 27) (.t 32) Kl<|
.nil) 34 [22,33,11] (.t 22) QV (.t 33)<|
.nil) 35 11 34<|
.nil)
 (.cond (.tmp 35) .skip
 Lr))
 (.block 1 (.ops (.m 36 1<|
.b 37 .add .none (.t 36) (.i 1)<|
.m 1 37<|
.nil))))
def lK (E:EB) (D:Al) (W:AE) (K1:BS->Int->Int->H->AG) (R2:BS->Int->Int->H->AG) (a:BS) (b c:Int) (Z:H):AG:=
 Ac (fun c1 s2=>
 AJ c1 (
 R2 a (CM .i64 b (AA 1)) c s2) (
 K1 a b c s2)) fun k3=>
 AJ (Cr b (AA (BS.len a))) (
 Cs a b fun x4=>
 AV (D 74 [.int .u8 x4] Z) fun u5 s6=>
 Aa u5 fun x7=>
 Ac (fun c8 s9=>
 Ac (fun c11 s12=>
 k3 c11 s12) fun k13=>
 AJ c8 (
 k13 true s9) (
 Cs a b fun x14=>
 Ac (fun c15 s16=>
 k13 c15 s16) fun k17=>
 AJ (B5 x14 (AA 45)) (
 AV (D 73 [.str a,.int .i64 (CM .i64 b (AA 1))] s9) fun u18 s19=>
 Aj .u8 u18 fun x20=>
 k17 (not (B5 x20 (AA 45))) s19) (
 k17 false s9))) fun k10=>
 AJ x7 (
 k10 true s6) (
 Cs a b fun x21=>
 AV (D 77 [.int .u8 x21] s6) fun u22 s23=>
 Aa u22 fun x24=>
 k10 x24 s23)) (
 k3 false Z)
def mO (a:BS) (b:Int) (Z:H):St:=⟨[(0,.str a),(1,.int .i64 b)],[],[],Z⟩
def Py (a:BS) (b c:Int) (Z:H):St:=⟨[(0,.str a),(1,.int .i64 b),(5,.int .i64 c)],[],[],Z⟩
theorem zt (cc1:XC) (cc2:XC) (a:BS) (b:Int) (Z:H) :
 AM E D W N (e7 cc1 cc2) (mO a b Z) (Hc E) nX (Hc E) =
 lL E D W (fun a b c Z=>Af (fun rec s'=>AM E D W N cc2 s' (kX UD [] [] rec) (iY E D W N cc1) (Hc E)) N (Py a b c Z)) a b Z:=by kernel_rfl
theorem zr (cc1:XC) (li2:St->AG) (a:BS) (b c:Int) (Z:H) :
 AM E D W N (QD ) (Py a b c Z) (kX UD [] [] li2) (iY E D W N cc1) (Hc E) =
 lK E D W (fun a b c Z=>AM E D W N cc1 (Py a b c Z) (Hc E) nX (Hc E)) (fun a b c Z=>li2 (Py a b c Z)) a b c Z:=by kernel_rfl
def nj (E:EB) (D:Al) (W:AE) (N:Nat):=yP E D W
theorem uF (a:BS) (b c:Int) (Z:H) :
 AM E D W N OM (Py a b c Z) (Hc E) nX (Hc E)=nj E D W N a b c Z:=by kernel_rfl
def nA (n:Nat):BS->Int->Int->H->AG:=
 Nat.rec (fun _ _ _ _=>none) (fun _ ih=>lK E D W (nj E D W N ) ih) n
theorem tP (n:Nat):∀(a:BS) (b c:Int) (Z:H),
 Af (fun rec s'=>AM E D W N QD s' (kX UD [] [] rec) (iY E D W N OM) (Hc E)) n (Py a b c Z)=nA E D W N n a b c Z:=by
 induction n with
 | zero=>intro a b c Z;rfl
 | succ n ihn=>
  intro a b c Z
  rw[Ak]
  refine(zr E D W N OM (Af (fun rec s'=>AM E D W N QD s' (kX UD [] [] rec) (iY E D W N OM) (Hc E)) n) a b c Z).trans ?_
  simp only[ihn,uF]
  kernel_rfl
def nk:=lL E D W (nA E D W N N)
theorem uG (a:BS) (b:Int) (Z:H) :
 AM E D W N (e7 OM QD) (mO a b Z) (Hc E) nX (Hc E)=nk E D W N a b Z:=by
 refine(zt E D W N OM QD  a b Z).trans ?_
 simp only[tP]
 kernel_rfl
def F75 (args:List V) (Z:H):AG:=
 Hz args fun x3 l2=>
 Ah .i64 l2 fun x6 l5=>
 AT l5 (
 nk E D W N x3 x6 Z)
def A75:C9:=⟨50,[.str,.i],[(.tmp 4)],(e7 OM QD)⟩
theorem AFH (args:List V) (Z:H):Be E D W N A75 args Z=F75 E D W N args Z:=by
 unfold F75
 simp only[<-uG]
 kernel_rfl
def ACN:XC:=(.z (.c 2 y3<|
.nil)
 (.z (.k 3 .one 110 []<|
.m 4 0<|
.k 5 .bool 49 [(.t 3),(.t 4)]<|
.m 2 5<|
.nil)
 .ret))
def yO (E:EB) (D:Al) (W:AE) (a:BS) (Z:H):AG:=
 AV (D 110 [] Z) fun u1 s2=>
 BU u1 (
 AV (D 49 [u1,.str a] s2) fun u3 s4=>
 Aa u3 fun x5=>
 some ((V.bool x5),s4))
def F76 (N:Nat) (args:List V) (Z:H):AG:=
 Hz args fun x3 l2=>
 AT l2 (
 yO E D W x3 Z)
def A76:C9:=⟨6,[.str],[(.tmp 2)],ACN⟩
theorem AFG (args:List V) (Z:H):Be E D W N A76 args Z=F76 E D W N args Z:=by kernel_rfl
def ACL:XC:=(.z (.c 2 y3<|
.nil)
 (.z (.m 3 0<|
.b 4 .geq .none (.t 3) pW<|
.m 5 4<|
.gA 5 true (.p 6 [0,5] y9<|
.p 7 [6,5] (.bin .leq .none (.t 6) (.con (V.int .u8 (AA 57))))<|
.nil) 8 5 7<|
.m 2 8<|
.nil)
 .ret))
def yN (E:EB) (D:Al) (W:AE) (a:Int) (Z:H):AG:=
 Ac (fun c1 s2=>
 some ((V.bool c1),s2)) fun k3=>
 AJ (I7 (AA 48) a) (
 k3 (I7 a (AA 57)) Z) (
 k3 false Z)
def F77 (N:Nat) (args:List V) (Z:H):AG:=
 Ah .u8 args fun x3 l2=>
 AT l2 (
 yN E D W x3 Z)
def A77:C9:=⟨9,[(.int .u8)],[(.tmp 2)],ACL⟩
theorem AFF (args:List V) (Z:H):Be E D W N A77 args Z=F77 E D W N args Z:=by kernel_rfl
def Kv:List (Nat × Co):=[(0,.str),(1,.i),(5,.bool),(6,.i),(7,(.int .u64))]
def D9 (E:EB):St->AG:=fun s=>Cy E s [(.tmp 4)] fun l=>some (DH l,s.Z)
def UY (c0:XC):Nat->St->AG:=BN 0 (dX E D W N (.keep Kv [] [] c0) (D9 E) nX (D9 E)) nX
def ey (cc1:XC):XC:=(.z (.q 4 0<|
.nil)
 (.z (.m 9 0<|
.m 10 1<|
.P 11 (.idxStr (.t 9) (.t 10))<|
.b 12 .eql .none (.t 11) ff<|
.m 5 12<|
.nil)
 (.seq (.z (.m 13 5<|
.nil)
 (.cond (.tmp 13) (.ops (.m 14 1<|
.b 15 .add .none (.t 14) (.i 1)<|
.m 1 15<|
.nil))
 .skip))
 (.keep [(0,.str),(1,.i),(5,.bool)] [] [] cc1))))
def lJ (E:EB) (D:Al) (W:AE) (K1:BS->Int->Bool->H->AG) (a:BS) (b:Int) (Z:H):AG:=
 Cs a b fun x1=>
 AJ (B5 x1 (AA 45)) (
 K1 a (CM .i64 b (AA 1)) (B5 x1 (AA 45)) Z) (
 K1 a b (B5 x1 (AA 45)) Z)
def Tw (cc2:XC) (cc3:XC):XC:=(.z (.m 16 1<|
.m 6 16<|
.nil)
 (.z (.c 7 T5<|
.nil)
 (.seq (.block 0 (.loop Kv [] [] cc3))
 (.keep Kv [] [] cc2))))
def lI (E:EB) (D:Al) (W:AE) (K3:BS->Int->Bool->Int->Int->H->AG) (a:BS) (b:Int) (c:Bool) (Z:H):AG:=
 K3 a b c b (AA 0) Z
def JL:XC:=(.z (.m 41 1<|
.m 42 6<|
.b 43 .sub .none (.t 41) (.t 42)<|
.m 8 43<|
.nil)
 (.seq (.z (.m 44 8<|
.b 45 .lss .none (.t 44) (.i 1)<|
.m 46 45<|
.gO 46 false (.p 47 [8,46] (.mov (.t 8))<|
.p 48 [47,46] (.bin .gtr .none (.t 47) (.i 19))<|
.nil) 49 46 48<|
.m 50 49<|
.gO 50 false (.p 51 [8,50] (.mov (.t 8))<|
.p 52 [51,50] (.bin .gtr .none (.t 51) (.i 1))<|
.p 53 [52,50] (.mov (.t 52))<|
.grp 53 true (.p 54 [0,53] y9<|
.p 55 [6,53] (.mov (.t 6))<|
.p 56 [54,55,53] (.idxStr (.t 54) (.t 55))<|
.p 57 [56,53] (.bin .eql .none (.t 56) pW)<|
.nil) 58 [53,57,50] (.t 53) (.t 57) Kl<|
.nil) 59 50 58<|
.m 60 59<|
.gO 60 false (.p 61 [5,60] (.mov (.t 5))<|
.p 62 [61,60] (.mov (.t 61))<|
.grp 62 true (.p 63 [0,62] y9<|
.p 64 [6,62] (.mov (.t 6))<|
.p 65 [63,64,62] (.idxStr (.t 63) (.t 64))<|
.p 66 [65,62] (.bin .eql .none (.t 65) pW)<|
.nil) 67 [62,66,60] (.t 62) (.t 66) Kl<|
.nil) 68 60 67<|
.m 69 68<|
.gO 69 false (.p 70 [0,69] y9<|
.p 71 [1,69] Io<|
.op (some 72) (.int .u8) [70,71,69] (.call 73 [(.t 70),(.t 71)])<|
.op (some 73) .bool [72,69] (.call 74 [(.t 72)])<|
.nil) 74 69 73<|
.m 75 74<|
.gO 75 false (.p 76 [7,75] (.mov (.t 7))<|
.p 77 [76,75] (.bin .gtr .none (.t 76) (.con (V.int .u64 (AA 9223372036854775808))))<|
.nil) 78 75 77<|
.m 79 78<|
.gO 79 false (.p 80 [5,79] (.mov (.t 5))<|
.p 81 [80,79] (.un .not (.t 80))<|
.p 82 [81,79] (.mov (.t 81))<|
.grp 82 true (.p 83 [7,82] (.mov (.t 7))<|
.p 84 [83,82] (.bin .eql .none (.t 83) (.con (V.int .u64 (AA 9223372036854775808))))<|
.nil) 85 [82,84,79] (.t 82) (.t 84) Kl<|
.nil) 86 79 85<|
.nil)
 (.cond (.tmp 86) (.z (.c 4 Wl<|
.nil)
 .ret)
 .skip))
 (.z (.m 87 1<|
.m 4 87<|
.nil)
 .ret)))
def yM (E:EB) (D:Al) (W:AE) (a:BS) (b:Int) (c:Bool) (d e:Int) (Z:H):AG:=
 Ac (fun c1 s2=>
 Ac (fun c4 s5=>
 Ac (fun c7 s8=>
 Ac (fun c10 s11=>
 Ac (fun c13 s14=>
 Ac (fun c16 s17=>
 AJ c16 (
 some ((V.int .i64 (CG 0)),s17)) (
 some ((V.int .i64 b),s17))) fun k18=>
 AJ c13 (
 k18 true s14) (
 Ac (fun c19 s20=>
 k18 c19 s20) fun k21=>
 AJ (not c) (
 k21 (B5 e (AA 9223372036854775808)) s14) (
 k21 false s14))) fun k15=>
 AJ c10 (
 k15 true s11) (
 k15 (Cr (AA 9223372036854775808) e) s11)) fun k12=>
 AJ c7 (
 k12 true s8) (
 AV (D 73 [.str a,.int .i64 b] s8) fun u22 s23=>
 Aj .u8 u22 fun x24=>
 AV (D 74 [.int .u8 x24] s23) fun u25 s26=>
 Aa u25 fun x27=>
 k12 x27 s26)) fun k9=>
 AJ c4 (
 k9 true s5) (
 Ac (fun c28 s29=>
 k9 c28 s29) fun k30=>
 AJ c (
 Cs a d fun x31=>
 k30 (B5 x31 (AA 48)) s5) (
 k30 false s5))) fun k6=>
 AJ c1 (
 k6 true s2) (
 Ac (fun c32 s33=>
 k6 c32 s33) fun k34=>
 AJ (Cr (AA 1) (D2 .i64 b d)) (
 Cs a d fun x35=>
 k34 (B5 x35 (AA 48)) s2) (
 k34 false s2))) fun k3=>
 AJ (Cr (D2 .i64 b d) (AA 1)) (
 k3 true Z) (
 k3 (Cr (AA 19) (D2 .i64 b d)) Z)
def Mn (cc4:XC):XC:=(.seq (.z (.m 17 1<|
.m 18 0<|
.P 19 (.len true (.t 18))<|
.b 20 .lss .none (.t 17) (.t 19)<|
.m 21 20<|
.gA 21 true (.p 22 [0,21] y9<|
.p 23 [1,21] Io<|
.p 24 [22,23,21] (.idxStr (.t 22) (.t 23))<|
.op (some 25) .bool [24,21] (.call 77 [(.t 24)])<|
.nil) 26 21 25<|
.nil)
 (.cond (.tmp 26) .skip
 Lr))
 (.block 1 (.seq (.z (.m 27 1<|
.m 28 6<|
.b 29 .sub .none (.t 27) (.t 28)<|
.b 30 .lss .none (.t 29) (.i 19)<|
.nil)
 (.cond (.tmp 30) (.ops (.m 31 7<|
.b 32 .mul .none (.con (V.int .u64 (AA 10))) (.t 31)<|
.m 33 0<|
.m 34 1<|
.P 35 (.idxStr (.t 33) (.t 34))<|
.b 36 .sub .none (.t 35) pW<|
.P 37 (.conv (.toInt .u64) (.t 36))<|
.b 38 .add .none (.t 32) (.t 37)<|
.m 7 38<|
.nil))
 .skip))
 (.keep Kv [] [] cc4))))
def lH (E:EB) (D:Al) (W:AE) (K2:BS->Int->Bool->Int->Int->H->AG) (K4:BS->Int->Bool->Int->Int->H->AG) (a:BS) (b:Int) (c:Bool) (d e:Int) (Z:H):AG:=
 Ac (fun c1 s2=>
 AJ c1 (
 AJ (Cr (D2 .i64 b d) (AA 19)) (
 Cs a b fun x4=>
 K4 a b c d (CM .u64 (Hr .u64 (AA 10) e) (As .u64 (D2 .u8 x4 (AA 48)))) s2) (
 K4 a b c d e s2)) (
 K2 a b c d e s2)) fun k3=>
 AJ (Cr b (AA (BS.len a))) (
 Cs a b fun x5=>
 AV (D 77 [.int .u8 x5] Z) fun u6 s7=>
 Aa u6 fun x8=>
 k3 x8 s7) (
 k3 false Z)
def Jx:XC:=(.ops (.m 39 1<|
.b 40 .add .none (.t 39) (.i 1)<|
.m 1 40<|
.nil))
def lG (E:EB) (D:Al) (W:AE) (R3:BS->Int->Bool->Int->Int->H->AG) (a:BS) (b:Int) (c:Bool) (d e:Int) (Z:H):AG:=
 R3 a (CM .i64 b (AA 1)) c d e Z
def mN (a:BS) (b:Int) (Z:H):St:=⟨[(0,.str a),(1,.int .i64 b)],[],[],Z⟩
def cO (a:BS) (b:Int) (c:Bool) (Z:H):St:=⟨[(0,.str a),(1,.int .i64 b),(5,.bool c)],[],[],Z⟩
def Jv (a:BS) (b:Int) (c:Bool) (d e:Int) (Z:H):St:=⟨[(0,.str a),(1,.int .i64 b),(5,.bool c),(6,.int .i64 d),(7,.int .u64 e)],[],[],Z⟩
theorem zq (cc1:XC) (a:BS) (b:Int) (Z:H) :
 AM E D W N (ey cc1) (mN a b Z) (D9 E) nX (D9 E) =
 lJ E D W (fun a b c Z=>AM E D W N cc1 (cO a b c Z) (D9 E) nX (D9 E)) a b Z:=by kernel_rfl
theorem zp (cc2:XC) (cc3:XC) (a:BS) (b:Int) (c:Bool) (Z:H) :
 AM E D W N (Tw cc2 cc3) (cO a b c Z) (D9 E) nX (D9 E) =
 lI E D W (fun a b c d e Z=>Af (fun rec s'=>AM E D W N cc3 s' (kX Kv [] [] rec) (UY E D W N cc2) (D9 E)) N (Jv a b c d e Z)) a b c Z:=by kernel_rfl
theorem zn (cc2:XC) (cc4:XC) (li3:St->AG) (a:BS) (b:Int) (c:Bool) (d e:Int) (Z:H) :
 AM E D W N (Mn cc4) (Jv a b c d e Z) (kX Kv [] [] li3) (UY E D W N cc2) (D9 E) =
 lH E D W (fun a b c d e Z=>AM E D W N cc2 (Jv a b c d e Z) (D9 E) nX (D9 E)) (fun a b c d e Z=>AM E D W N cc4 (Jv a b c d e Z) (kX Kv [] [] li3) (BN 1 (kX Kv [] [] li3) (UY E D W N cc2)) (D9 E)) a b c d e Z:=by kernel_rfl
theorem zm (cc2:XC) (li3:St->AG) (a:BS) (b:Int) (c:Bool) (d e:Int) (Z:H) :
 AM E D W N (Jx ) (Jv a b c d e Z) (kX Kv [] [] li3) (BN 1 (kX Kv [] [] li3) (UY E D W N cc2)) (D9 E) =
 lG E D W (fun a b c d e Z=>li3 (Jv a b c d e Z)) a b c d e Z:=by kernel_rfl
def na (E:EB) (D:Al) (W:AE) (N:Nat):=yM E D W
theorem uC (a:BS) (b:Int) (c:Bool) (d e:Int) (Z:H) :
 AM E D W N JL (Jv a b c d e Z) (D9 E) nX (D9 E)=na E D W N a b c d e Z:=by kernel_rfl
def nZ (E:EB) (D:Al) (W:AE) (N:Nat) (R3:BS->Int->Bool->Int->Int->H->AG):=lG E D W R3
theorem uB (li3:St->AG) (a:BS) (b:Int) (c:Bool) (d e:Int) (Z:H) :
 AM E D W N Jx (Jv a b c d e Z) (kX Kv [] [] li3) (BN 1 (kX Kv [] [] li3) (UY E D W N JL)) (D9 E)=nZ E D W N (fun a b c d e Z=>li3 (Jv a b c d e Z)) a b c d e Z:=by
 refine(zm E D W N JL li3 a b c d e Z).trans ?_
 kernel_rfl
def m9 (n:Nat):BS->Int->Bool->Int->Int->H->AG:=
 Nat.rec (fun _ _ _ _ _ _=>none) (fun _ ih=>lH E D W (na E D W N ) (nZ E D W N ih)) n
theorem tN (n:Nat):∀(a:BS) (b:Int) (c:Bool) (d e:Int) (Z:H),
 Af (fun rec s'=>AM E D W N (Mn Jx) s' (kX Kv [] [] rec) (UY E D W N JL) (D9 E)) n (Jv a b c d e Z)=m9 E D W N n a b c d e Z:=by
 induction n with
 | zero=>intro a b c d e Z;rfl
 | succ n ihn=>
  intro a b c d e Z
  rw[Ak]
  refine(zn E D W N JL Jx (Af (fun rec s'=>AM E D W N (Mn Jx) s' (kX Kv [] [] rec) (UY E D W N JL) (D9 E)) n) a b c d e Z).trans ?_
  simp only[ihn,uC,uB]
  kernel_rfl
def nc:=lI E D W (m9 E D W N N)
theorem uD (a:BS) (b:Int) (c:Bool) (Z:H) :
 AM E D W N (Tw JL (Mn Jx)) (cO a b c Z) (D9 E) nX (D9 E)=nc E D W N a b c Z:=by
 refine(zp E D W N JL (Mn Jx)  a b c Z).trans ?_
 simp only[tN]
 kernel_rfl
def ni:=lJ E D W (nc E D W N )
theorem uE (a:BS) (b:Int) (Z:H) :
 AM E D W N (ey (Tw JL (Mn Jx))) (mN a b Z) (D9 E) nX (D9 E)=ni E D W N a b Z:=by
 refine(zq E D W N (Tw JL (Mn Jx))  a b Z).trans ?_
 simp only[uD]
 kernel_rfl
def F78 (args:List V) (Z:H):AG:=
 Hz args fun x3 l2=>
 Ah .i64 l2 fun x6 l5=>
 AT l5 (
 ni E D W N x3 x6 Z)
def A78:C9:=⟨88,[.str,.i],[(.tmp 4)],(ey (Tw JL (Mn Jx)))⟩
theorem AFE (args:List V) (Z:H):Be E D W N A78 args Z=F78 E D W N args Z:=by
 unfold F78
 simp only[<-uE]
 kernel_rfl
def Ye:List (Nat × Co):=[(5,.str),(6,.any),(7,.i)]
def Hb (E:EB):St->AG:=fun s=>Cy E s [(.tmp 4)] fun l=>some (DH l,s.Z)
def iX (c0:XC):Nat->St->AG:=BN 0 (dX E D W N (.keep [] [] [] c0) (Hb E) nX (Hb E)) nX
def ew (cc1:XC) (cc2:XC):XC:=(.z (.q 4 0<|
.nil)
 (.z (.m 9 0<|
.m 10 1<|
.p 11 [9,10] (.sliceStr (.t 9) (some (.t 10)) none)<|
.m 5 11<|
.nil)
 (.z (.p 12 [] (.buildSlice 9 13 [y8,y8,y8,y8,y8,y8,y8,y8,y8,y8,y8,y8,y8] [(0,1,(.con (V.str ⟨3,4012602⟩))),(1,1,(.con (V.str ⟨3,3026478⟩))),(2,1,(.con (V.str ⟨2,11822⟩))),(3,1,(.con (V.str ⟨2,23387⟩))),(4,1,(.con (V.str ⟨2,23901⟩))),(5,1,(.con (V.str ⟨1,123⟩))),(6,1,(.con (V.str ⟨1,125⟩))),(7,1,(.con (V.str ⟨1,91⟩))),(8,1,(.con (V.str ⟨1,93⟩))),(9,1,(.con (V.str ⟨1,40⟩))),(10,1,(.con (V.str ⟨1,41⟩))),(11,1,(.con (V.str ⟨1,44⟩))),(12,1,(.con (V.str ⟨1,58⟩)))])<|
.m 6 12<|
.nil)
 (.seq (.z (.q 7 0<|
.nil)
 (.block 0 (.loop Ye [] [] cc2)))
 (.keep [] [] [] cc1)))))
def lF (E:EB) (D:Al) (W:AE) (K2:BS->V->Int->H->AG) (a:BS) (b:Int) (Z:H):AG:=
 Ek a (some (V.int .i64 b)) none fun t1=>
 let s2:=B6 Z (.cells [.str (BS.mk 3 4012602),.str (BS.mk 3 3026478),.str (BS.mk 2 11822),.str (BS.mk 2 23387),.str (BS.mk 2 23901),.str (BS.mk 1 123),.str (BS.mk 1 125),.str (BS.mk 1 91),.str (BS.mk 1 93),.str (BS.mk 1 40),.str (BS.mk 1 41),.str (BS.mk 1 44),.str (BS.mk 1 58)]);
 K2 t1 (V.sl (H.next Z) 0 13 (.ex 13)) (AA 0) s2
def OL:XC:=(.z (.q 4 0<|
.nil)
 .ret)
def yJ (E:EB) (D:Al) (W:AE) (Z:H):AG:=
 some ((V.int .i64 (AA 0)),Z)
def QC:XC:=(.seq (.z (.m 13 7<|
.m 14 6<|
.u 15 14<|
.b 16 .lss .none (.t 13) (.t 15)<|
.nil)
 y31)
 (.seq (.block 1 (.z (.m 19 6<|
.m 20 7<|
.s 21 1 19 20<|
.l 22 .str 21<|
.P 23 (.len true (.t 22))<|
.m 8 23<|
.nil)
 (.seq (.draw (.m 24 5<|
.P 25 (.len true (.t 24))<|
.m 26 8<|
.b 27 .geq .none (.t 25) (.t 26)<|
.m 28 27<|
.gA 28 true (.p 29 [5,28] (.mov (.t 5))<|
.p 30 [8,28] (.mov (.t 8))<|
.p 31 [29,30,28] (.sliceStr (.t 29) none (some (.t 30)))<|
.p 32 [6,28] (.mov (.t 6))<|
.p 33 [7,28] (.mov (.t 7))<|
.p 34 [32,33,28] (.iaddrS 1 (.t 32) (.t 33))<|
.op (some 35) .str [34,28] (.load none (.t 34))<|
.p 36 [31,35,28] (.bin .eql .none (.t 31) (.t 35))<|
.nil) 37 28 36<|
.nil) [0,1,0,7,15,31,31,127,31,31,799,1823,4095,8191])
 (.cond (.tmp 37) (.z (.m 38 8<|
.m 4 38<|
.nil)
 .ret)
 .skip))))
 wj))
def lE (E:EB) (D:Al) (W:AE) (K1:H->AG) (R2:BS->V->Int->H->AG) (a:BS) (b:V) (c:Int) (Z:H):AG:=
 A0 b fun n1=>
 AJ (Cr c (AA n1)) (
 Ab 1 b c fun b2 o3=>
 BY E Z b2 o3 fun u4=>
 HR u4 fun x5=>
 Ac (fun c6 s7=>
 AJ c6 (
 some ((V.int .i64 (AA (BS.len x5))),s7)) (
 R2 a b (CM .i64 c (AA 1)) s7)) fun k8=>
 AJ (I7 (AA (BS.len x5)) (AA (BS.len a))) (
 Ek a none (some (V.int .i64 (AA (BS.len x5)))) fun t9=>
 Ab 1 b c fun b10 o11=>
 BY E Z b10 o11 fun u12=>
 HR u12 fun x13=>
 k8 (BS.beq t9 x13) Z) (
 k8 false Z)) (
 K1 Z)
def mM (a:BS) (b:Int) (Z:H):St:=⟨[(0,.str a),(1,.int .i64 b)],[],[],Z⟩
def mL (Z:H):St:=⟨[],[],[],Z⟩
def WG (a:BS) (b:V) (c:Int) (Z:H):St:=⟨[(5,.str a),(6,b),(7,.int .i64 c)],[],[],Z⟩
theorem zl (cc1:XC) (cc2:XC) (a:BS) (b:Int) (Z:H) :
 AM E D W N (ew cc1 cc2) (mM a b Z) (Hb E) nX (Hb E) =
 lF E D W (fun c d e Z=>Af (fun rec s'=>AM E D W N cc2 s' (kX Ye [] [] rec) (iX E D W N cc1) (Hb E)) N (WG c d e Z)) a b Z:=by kernel_rfl
theorem zk (cc1:XC) (li2:St->AG) (a:BS) (b:V) (c:Int) (Z:H) :
 AM E D W N (QC ) (WG a b c Z) (kX Ye [] [] li2) (iX E D W N cc1) (Hb E) =
 lE E D W (fun  Z=>AM E D W N cc1 (mL Z) (Hb E) nX (Hb E)) (fun a b c Z=>li2 (WG a b c Z)) a b c Z:=by kernel_rfl
def nW (E:EB) (D:Al) (W:AE) (N:Nat):=yJ E D W
theorem tz (Z:H) :
 AM E D W N OL (mL Z) (Hb E) nX (Hb E)=nW E D W N  Z:=by kernel_rfl
def m8 (n:Nat):BS->V->Int->H->AG:=
 Nat.rec (fun _ _ _ _=>none) (fun _ ih=>lE E D W (nW E D W N ) ih) n
theorem tM (n:Nat):∀(a:BS) (b:V) (c:Int) (Z:H),
 Af (fun rec s'=>AM E D W N QC s' (kX Ye [] [] rec) (iX E D W N OL) (Hb E)) n (WG a b c Z)=m8 E D W N n a b c Z:=by
 induction n with
 | zero=>intro a b c Z;rfl
 | succ n ihn=>
  intro a b c Z
  rw[Ak]
  refine(zk E D W N OL (Af (fun rec s'=>AM E D W N QC s' (kX Ye [] [] rec) (iX E D W N OL) (Hb E)) n) a b c Z).trans ?_
  simp only[ihn,tz]
  kernel_rfl
def nY:=lF E D W (m8 E D W N N)
theorem uA (a:BS) (b:Int) (Z:H) :
 AM E D W N (ew OL QC) (mM a b Z) (Hb E) nX (Hb E)=nY E D W N a b Z:=by
 refine(zl E D W N OL QC  a b Z).trans ?_
 simp only[tM]
 kernel_rfl
def F81 (args:List V) (Z:H):AG:=
 Hz args fun x3 l2=>
 Ah .i64 l2 fun x6 l5=>
 AT l5 (
 nY E D W N x3 x6 Z)
def A81:C9:=⟨39,[.str,.i],[(.tmp 4)],(ew OL QC)⟩
theorem AFD (args:List V) (Z:H):Be E D W N A81 args Z=F81 E D W N args Z:=by
 unfold F81
 simp only[<-uA]
 kernel_rfl
def Yd:List (Nat × Co):=[(0,.str),(3,.bool),(4,(.int .u64)),(5,.i)]
def xM:List (Nat × Co):=[(3,.bool),(4,(.int .u64))]
def Ep (E:EB):St->AG:=fun s=>Cy E s [(.tmp 2)] fun l=>some (DH l,s.Z)
def iW (c0:XC):Nat->St->AG:=BN 0 (dX E D W N (.keep xM [] [] c0) (Ep E) nX (Ep E)) nX
def eu (cc1:XC):XC:=(.z (.q 2 0<|
.nil)
 (.z (.m 6 0<|
.P 7 (.idxStr (.t 6) (.i 0))<|
.b 8 .eql .none (.t 7) ff<|
.m 3 8<|
.nil)
 (.seq (.z (.m 9 3<|
.nil)
 (.cond (.tmp 9) (.ops (.m 10 0<|
.p 11 [10] (.sliceStr (.t 10) (some (.i 1)) none)<|
.m 0 11<|
.nil))
 .skip))
 (.keep [(0,.str),(3,.bool)] [] [] cc1))))
def lD (E:EB) (D:Al) (W:AE) (K1:BS->Bool->H->AG) (a:BS) (Z:H):AG:=
 Cs a (AA 0) fun x1=>
 AJ (B5 x1 (AA 45)) (
 Ek a (some (V.int .i64 (AA 1))) none fun t2=>
 K1 t2 (B5 x1 (AA 45)) Z) (
 K1 a (B5 x1 (AA 45)) Z)
def Tv (cc2:XC) (cc3:XC):XC:=(.z (.c 4 T5<|
.nil)
 (.seq (.z (.q 5 0<|
.nil)
 (.block 0 (.loop Yd [] [] cc3)))
 (.keep xM [] [] cc2)))
def lC (E:EB) (D:Al) (W:AE) (K3:BS->Bool->Int->Int->H->AG) (a:BS) (b:Bool) (Z:H):AG:=
 K3 a b (AA 0) (AA 0) Z
def Lg:XC:=(.seq (.z (.m 26 3<|
.nil)
 (.cond (.tmp 26) (.z (.m 27 4<|
.b 28 .sub .none (.t 27) (.con (V.int .u64 (AA 1)))<|
.P 29 (.conv (.toInt .i64) (.t 28))<|
.P 30 (.un .neg (.t 29))<|
.b 31 .sub .none (.t 30) (.i 1)<|
.m 2 31<|
.nil)
 .ret)
 .skip))
 (.z (.m 32 4<|
.P 33 (.conv (.toInt .i64) (.t 32))<|
.m 2 33<|
.nil)
 .ret))
def yI (E:EB) (D:Al) (W:AE) (a:Bool) (b:Int) (Z:H):AG:=
 AJ a (
 some ((V.int .i64 (D2 .i64 (qT .i64 (As .i64 (D2 .u64 b (AA 1)))) (AA 1))),Z)) (
 some ((V.int .i64 (As .i64 b)),Z))
def Mm:XC:=(.seq (.z (.m 12 5<|
.m 13 0<|
.P 14 (.len true (.t 13))<|
.b 15 .lss .none (.t 12) (.t 14)<|
.nil)
 (.cond (.tmp 15) .skip
 Lr))
 (.seq (.block 1 (.ops (.m 18 4<|
.b 19 .mul .none (.con (V.int .u64 (AA 10))) (.t 18)<|
.m 20 0<|
.m 21 5<|
.P 22 (.idxStr (.t 20) (.t 21))<|
.b 23 .sub .none (.t 22) pW<|
.P 24 (.conv (.toInt .u64) (.t 23))<|
.b 25 .add .none (.t 19) (.t 24)<|
.m 4 25<|
.nil)))
 (.ops (.m 16 5<|
.b 17 .add .none (.t 16) (.i 1)<|
.m 5 17<|
.nil))))
def lB (E:EB) (D:Al) (W:AE) (K2:Bool->Int->H->AG) (R3:BS->Bool->Int->Int->H->AG) (a:BS) (b:Bool) (c d:Int) (Z:H):AG:=
 AJ (Cr d (AA (BS.len a))) (
 Cs a d fun x1=>
 R3 a b (CM .u64 (Hr .u64 (AA 10) c) (As .u64 (D2 .u8 x1 (AA 48)))) (CM .i64 d (AA 1)) Z) (
 K2 b c Z)
def mK (a:BS) (Z:H):St:=⟨[(0,.str a)],[],[],Z⟩
def cN (a:BS) (b:Bool) (Z:H):St:=⟨[(0,.str a),(3,.bool b)],[],[],Z⟩
def mJ (a:Bool) (b:Int) (Z:H):St:=⟨[(3,.bool a),(4,.int .u64 b)],[],[],Z⟩
def WE (a:BS) (b:Bool) (c d:Int) (Z:H):St:=⟨[(0,.str a),(3,.bool b),(4,.int .u64 c),(5,.int .i64 d)],[],[],Z⟩
theorem zj (cc1:XC) (a:BS) (Z:H) :
 AM E D W N (eu cc1) (mK a Z) (Ep E) nX (Ep E) =
 lD E D W (fun a b Z=>AM E D W N cc1 (cN a b Z) (Ep E) nX (Ep E)) a Z:=by kernel_rfl
theorem zi (cc2:XC) (cc3:XC) (a:BS) (b:Bool) (Z:H) :
 AM E D W N (Tv cc2 cc3) (cN a b Z) (Ep E) nX (Ep E) =
 lC E D W (fun a b c d Z=>Af (fun rec s'=>AM E D W N cc3 s' (kX Yd [] [] rec) (iW E D W N cc2) (Ep E)) N (WE a b c d Z)) a b Z:=by kernel_rfl
theorem zh (cc2:XC) (li3:St->AG) (a:BS) (b:Bool) (c d:Int) (Z:H) :
 AM E D W N (Mm ) (WE a b c d Z) (kX Yd [] [] li3) (iW E D W N cc2) (Ep E) =
 lB E D W (fun b c Z=>AM E D W N cc2 (mJ b c Z) (Ep E) nX (Ep E)) (fun a b c d Z=>li3 (WE a b c d Z)) a b c d Z:=by kernel_rfl
def nS (E:EB) (D:Al) (W:AE) (N:Nat):=yI E D W
theorem tt (a:Bool) (b:Int) (Z:H) :
 AM E D W N Lg (mJ a b Z) (Ep E) nX (Ep E)=nS E D W N a b Z:=by kernel_rfl
def m7 (n:Nat):BS->Bool->Int->Int->H->AG:=
 Nat.rec (fun _ _ _ _ _=>none) (fun _ ih=>lB E D W (nS E D W N ) ih) n
theorem tL (n:Nat):∀(a:BS) (b:Bool) (c d:Int) (Z:H),
 Af (fun rec s'=>AM E D W N Mm s' (kX Yd [] [] rec) (iW E D W N Lg) (Ep E)) n (WE a b c d Z)=m7 E D W N n a b c d Z:=by
 induction n with
 | zero=>intro a b c d Z;rfl
 | succ n ihn=>
  intro a b c d Z
  rw[Ak]
  refine(zh E D W N Lg (Af (fun rec s'=>AM E D W N Mm s' (kX Yd [] [] rec) (iW E D W N Lg) (Ep E)) n) a b c d Z).trans ?_
  simp only[ihn,tt]
  kernel_rfl
def nU:=lC E D W (m7 E D W N N)
theorem tu (a:BS) (b:Bool) (Z:H) :
 AM E D W N (Tv Lg Mm) (cN a b Z) (Ep E) nX (Ep E)=nU E D W N a b Z:=by
 refine(zi E D W N Lg Mm  a b Z).trans ?_
 simp only[tL]
 kernel_rfl
def nV:=lD E D W (nU E D W N )
theorem tx (a:BS) (Z:H) :
 AM E D W N (eu (Tv Lg Mm)) (mK a Z) (Ep E) nX (Ep E)=nV E D W N a Z:=by
 refine(zj E D W N (Tv Lg Mm)  a Z).trans ?_
 simp only[tu]
 kernel_rfl
def F82 (args:List V) (Z:H):AG:=
 Hz args fun x3 l2=>
 AT l2 (
 nV E D W N x3 Z)
def A82:C9:=⟨34,[.str],[(.tmp 2)],(eu (Tv Lg Mm))⟩
theorem AFC (args:List V) (Z:H):Be E D W N A82 args Z=F82 E D W N args Z:=by
 unfold F82
 simp only[<-tx]
 kernel_rfl
def Wg:List BC:=[⟨(some 39),.mov (.tmp 0),none⟩,⟨(some 40),.iaddrS 1 (.tmp 39) (.con (V.int .i64 (AA 0))),none⟩,⟨(some 41),.load none (.tmp 40),none⟩,⟨(some 42),.bin .shr .none (.tmp 41) (.con (V.int .u64 (AA 6))),none⟩,⟨(some 43),.conv (.toInt .i64) (.tmp 42),none⟩,⟨(some 44),.mov (.tmp 7),none⟩,⟨(some 45),.build [(V.int .i64 (AA 0)),(V.int .i64 (AA 0))] [(0,1,(.tmp 43)),(1,1,(.tmp 44))],none⟩,⟨(some 46),.mov (.tmp 0),none⟩,⟨(some 47),.iaddrS 1 (.tmp 46) (.con (V.int .i64 (AA 0))),none⟩,⟨(some 48),.load none (.tmp 47),none⟩,⟨(some 49),.bin .and .none (.tmp 48) (.con (V.int .u8 (AA 32))),none⟩,⟨(some 50),.bin .neq .none (.tmp 49) (.con (V.int .u8 (AA 0))),none⟩,⟨(some 51),.mov (.tmp 10),none⟩,⟨(some 52),.mov (.tmp 8),none⟩,⟨(some 53),.bin .add .none (.con (V.int .i64 (AA 1))) (.tmp 52),none⟩,⟨(some 54),.mov (.tmp 11),none⟩,⟨(some 55),.bin .add .none (.tmp 53) (.tmp 54),none⟩,⟨none,.store 2 (.tmp 2) (.tmp 45),none⟩,⟨(some 3),.mov (.tmp 50),none⟩,⟨(some 4),.mov (.tmp 51),none⟩,⟨(some 5),.mov (.tmp 55),none⟩,⟨(some 6),.mov (.con (V.int .i64 (AA 0))),none⟩]
def Wf:List DP:=[⟨0,[0]⟩,⟨1,[39]⟩,⟨3,[40]⟩,⟨7,[41]⟩,⟨15,[42]⟩,⟨0,[7]⟩,⟨63,[43,44]⟩,⟨0,[0]⟩,⟨128,[46]⟩,⟨384,[47]⟩,⟨896,[48]⟩,⟨1920,[49]⟩,⟨0,[10]⟩,⟨0,[8]⟩,⟨8192,[52]⟩,⟨0,[11]⟩,⟨57344,[53,54]⟩,⟨127,[2,45]⟩,⟨135167,[50]⟩,⟨401407,[51]⟩,⟨1048575,[55]⟩,⟨2097151,[]⟩]
def ACK:XC:=(.z (.p 2 [] (.alloc 38 [y0,y0])<|
.c 3 y3<|
.q 4 0<|
.q 5 0<|
.q 6 0<|
.nil)
 (.seq (.z (.m 12 0<|
.u 13 12<|
.b 14 .eql .none (.t 13) (.i 0)<|
.nil)
 (.cond (.tmp 14) (.z (.op (some 15) y4 [] (.build [y0,y0] [])<|
.op none y4 [2,15] (.store 2 (.t 2) (.t 15))<|
.c 3 y3<|
.q 4 0<|
.q 5 0<|
.q 6 3<|
.nil)
 .ret)
 .skip))
 (.z (.m 17 0<|
.k 18 (.tup [.i,.i,.i]) 116 [(.t 17)]<|
.m 16 18<|
.P 19 (.extract 0 (.t 16))<|
.P 20 (.extract 1 (.t 16))<|
.P 21 (.extract 2 (.t 16))<|
.m 7 19<|
.m 8 20<|
.m 9 21<|
.nil)
 (.seq (.z (.m 22 9<|
.b 23 .neq .none (.t 22) (.i 0)<|
.nil)
 (.cond (.tmp 23) (.z (.op (some 24) y4 [] (.build [y0,y0] [])<|
.m 25 9<|
.op none y4 [2,24] (.store 2 (.t 2) (.t 24))<|
.c 3 y3<|
.q 4 0<|
.q 5 0<|
.m 6 25<|
.nil)
 .ret)
 .skip))
 (.z (.m 27 0<|
.m 28 8<|
.b 29 .add .none (.i 1) (.t 28)<|
.p 30 [27,29] (.sliceSl 1 (.t 27) (some (.t 29)) none none)<|
.k 31 (.tup [.i,.i,.i]) 117 [(.t 30)]<|
.m 26 31<|
.P 32 (.extract 0 (.t 26))<|
.P 33 (.extract 1 (.t 26))<|
.P 34 (.extract 2 (.t 26))<|
.m 10 32<|
.m 11 33<|
.m 9 34<|
.nil)
 (.seq (.z (.m 35 9<|
.b 36 .neq .none (.t 35) (.i 0)<|
.nil)
 (.cond (.tmp 36) (.z (.op (some 37) y4 [] (.build [y0,y0] [])<|
.m 38 9<|
.op none y4 [2,37] (.store 2 (.t 2) (.t 37))<|
.c 3 y3<|
.q 4 0<|
.q 5 0<|
.m 6 38<|
.nil)
 .ret)
 .skip))
 (.seq (.keep [(0,.any),(2,.ptr),(7,.i),(8,.i),(10,.i),(11,.i)] [] [] (.gdraw Wg Wf [(2,.ptr),(3,.bool),(4,.i),(5,.i),(6,.i)]))
 .ret)))))))
def ak (a:V) (Z:H):AG:=
 let s1:=B6 Z (.cells [.int .i64 (AA 0),.int .i64 (AA 0)]);
 A0 a fun n2=>
 AJ (B5 (AA n2) (AA 0)) (
 FY 2 (H.next Z) 0 (V.agg [.int .i64 (AA 0),.int .i64 (AA 0)]) s1 fun s3=>
 BV E s3 (H.next Z) 0 2 fun u4=>
 some ((V.tup [.agg u4,.bool false,.int .i64 (AA 0),.int .i64 (AA 0),.int .i64 (AA 3)]),s3)) (
 AV (D 116 [a] s1) fun u5 s6=>
 C1 u5 fun l7=>
 Ah .i64 l7 fun x10 l9=>
 Ah .i64 l9 fun x13 l12=>
 Ah .i64 l12 fun x16 l15=>
 AT l15 (
 AJ (not (B5 x16 (AA 0))) (
 FY 2 (H.next Z) 0 (V.agg [.int .i64 (AA 0),.int .i64 (AA 0)]) s6 fun s17=>
 BV E s17 (H.next Z) 0 2 fun u18=>
 some ((V.tup [.agg u18,.bool false,.int .i64 (AA 0),.int .i64 (AA 0),.int .i64 x16]),s17)) (
 gK (Dm 1 a (some (V.int .i64 (CM .i64 (AA 1) x13))) none none) fun u19=>
 AV (D 117 [u19] s6) fun u20 s21=>
 C1 u20 fun l22=>
 Ah .i64 l22 fun x25 l24=>
 Ah .i64 l24 fun x28 l27=>
 Ah .i64 l27 fun x31 l30=>
 AT l30 (
 AJ (not (B5 x31 (AA 0))) (
 FY 2 (H.next Z) 0 (V.agg [.int .i64 (AA 0),.int .i64 (AA 0)]) s21 fun s32=>
 BV E s32 (H.next Z) 0 2 fun u33=>
 some ((V.tup [.agg u33,.bool false,.int .i64 (AA 0),.int .i64 (AA 0),.int .i64 x31]),s32)) (
 Cp (W Wg Wf [(0,a),(2,.ptr (H.next Z) 0),(7,.int .i64 x10),(8,.int .i64 x13),(10,.int .i64 x25),(11,.int .i64 x28)] s21) fun e34 s35=>
 BR e34 2 fun u36=>
 Bv u36 fun b37 o38=>
 BR e34 3 fun u39=>
 Aa u39 fun x40=>
 BR e34 4 fun u41=>
 Aj .i64 u41 fun x42=>
 BR e34 5 fun u43=>
 Aj .i64 u43 fun x44=>
 BR e34 6 fun u45=>
 Aj .i64 u45 fun x46=>
 BV E s35 b37 o38 2 fun u47=>
 some ((V.tup [.agg u47,.bool x40,.int .i64 x42,.int .i64 x44,.int .i64 x46]),s35))))))
def F93 (N:Nat) (args:List V) (Z:H):AG:=
 AB args fun x1 l2=>
 AT l2 (
 ak E D W x1 Z)
def A93:C9:=⟨56,[.any],[(.cell 2 (some 2)),(.tmp 3),(.tmp 4),(.tmp 5),(.tmp 6)],ACK⟩
theorem AFB (args:List V) (Z:H):Be E D W N A93 args Z=F93 E D W N args Z:=by kernel_rfl
def Yc:List (Nat × Co):=[(0,(.int .u64)),(1,.i),(5,.any),(9,.i),(10,.i)]
def Ha (E:EB):St->AG:=fun s=>Cy E s [(.tmp 4)] fun l=>some (DH l,s.Z)
def iV (c0:XC):Nat->St->AG:=BN 0 (dX E D W N (.keep [(5,.any)] [] [] c0) (Ha E) nX (Ha E)) nX
def ep (cc1:XC) (cc2:XC):XC:=(.z (.c 4 V.nils<|
.nil)
 (.z (.m 7 1<|
.P 8 (.mkslice 5 1 1 [y5] (.t 7) (.t 7))<|
.m 5 8<|
.nil)
 (.seq (.z (.m 9 1<|
.q 10 0<|
.nil)
 (.block 0 (.loop Yc [] [] cc2)))
 (.keep [(5,.any)] [] [] cc1))))
def Vx (E:EB) (D:Al) (W:AE) (K2:Int->Int->V->Int->Int->H->AG) (a b:Int) (Z:H):AG:=
 Mz b fun n1=>
 Mz b fun n2=>
 Fx (Ag n1 n2&&Ag (n2*1) 281474976710656&&Ag n2 1000000000000) (
 let s3:=B6 Z (.cells (AY n2 [.int .u8 (AA 0)]).flatten);
 K2 a b (V.sl (H.next Z) 0 n1 (.ex n2)) b (AA 0) s3)
def OK:XC:=(.z (.m 25 5<|
.m 4 25<|
.nil)
 .ret)
def yH (E:EB) (D:Al) (W:AE) (a:V) (Z:H):AG:=
 some (a,Z)
def QB:XC:=(.z (.b 11 .lss .none (.t 10) (.t 9)<|
.nil)
 (.seq (.cond (.tmp 11) .skip
 Lr)
 (.seq (.block 1 (.z (.m 12 10<|
.m 6 12<|
.nil)
 (.ops (.m 13 5<|
.m 14 6<|
.m 15 0<|
.m 16 1<|
.b 17 .sub .none (.t 16) (.i 1)<|
.m 18 6<|
.b 19 .sub .none (.t 17) (.t 18)<|
.b 20 .mul .none (.i 8) (.t 19)<|
.b 21 .shr .none (.t 15) (.t 20)<|
.P 22 (.conv (.toInt .u8) (.t 21))<|
.s 23 1 13 14<|
.w 1 23 22<|
.nil))))
 (.ops (.b 24 .add .none (.t 10) (.i 1)<|
.m 10 24<|
.nil)))))
def Pe (E:EB) (D:Al) (W:AE) (K1:V->H->AG) (R2:Int->Int->V->Int->Int->H->AG) (a b:Int) (c:V) (d e:Int) (Z:H):AG:=
 AJ (Cr e d) (
 Mz (Hr .i64 (AA 8) (D2 .i64 (D2 .i64 b (AA 1)) e)) fun n1=>
 Ab 1 c e fun b2 o3=>
 FY 1 b2 o3 (V.int .u8 (As .u8 (Ge .u64 a n1))) Z fun s4=>
 R2 a b c d (CM .i64 e (AA 1)) s4) (
 K1 c Z)
def mI (a b:Int) (Z:H):St:=⟨[(0,.int .u64 a),(1,.int .i64 b)],[],[],Z⟩
def mH (a:V) (Z:H):St:=⟨[(5,a)],[],[],Z⟩
def WD (a b:Int) (c:V) (d e:Int) (Z:H):St:=⟨[(0,.int .u64 a),(1,.int .i64 b),(5,c),(9,.int .i64 d),(10,.int .i64 e)],[],[],Z⟩
theorem zg (cc1:XC) (cc2:XC) (a b:Int) (Z:H) :
 AM E D W N (ep cc1 cc2) (mI a b Z) (Ha E) nX (Ha E) =
 Vx E D W (fun a b c d e Z=>Af (fun rec s'=>AM E D W N cc2 s' (kX Yc [] [] rec) (iV E D W N cc1) (Ha E)) N (WD a b c d e Z)) a b Z:=by kernel_rfl
theorem zf (cc1:XC) (li2:St->AG) (a b:Int) (c:V) (d e:Int) (Z:H) :
 AM E D W N (QB ) (WD a b c d e Z) (kX Yc [] [] li2) (iV E D W N cc1) (Ha E) =
 Pe E D W (fun c Z=>AM E D W N cc1 (mH c Z) (Ha E) nX (Ha E)) (fun a b c d e Z=>li2 (WD a b c d e Z)) a b c d e Z:=by kernel_rfl
def nP (E:EB) (D:Al) (W:AE) (N:Nat):=yH E D W
theorem tq (a:V) (Z:H) :
 AM E D W N OK (mH a Z) (Ha E) nX (Ha E)=nP E D W N a Z:=by kernel_rfl
def Tn (n:Nat):Int->Int->V->Int->Int->H->AG:=
 Nat.rec (fun _ _ _ _ _ _=>none) (fun _ ih=>Pe E D W (nP E D W N ) ih) n
theorem tK (n:Nat):∀(a b:Int) (c:V) (d e:Int) (Z:H),
 Af (fun rec s'=>AM E D W N QB s' (kX Yc [] [] rec) (iV E D W N OK) (Ha E)) n (WD a b c d e Z)=Tn E D W N n a b c d e Z:=by
 induction n with
 | zero=>intro a b c d e Z;rfl
 | succ n ihn=>
  intro a b c d e Z
  rw[Ak]
  refine(zf E D W N OK (Af (fun rec s'=>AM E D W N QB s' (kX Yc [] [] rec) (iV E D W N OK) (Ha E)) n) a b c d e Z).trans ?_
  simp only[ihn,tq]
  kernel_rfl
def nQ:=Vx E D W (Tn E D W N N)
theorem tr (a b:Int) (Z:H) :
 AM E D W N (ep OK QB) (mI a b Z) (Ha E) nX (Ha E)=nQ E D W N a b Z:=by
 refine(zg E D W N OK QB  a b Z).trans ?_
 simp only[tK]
 kernel_rfl
def vK (args:List V) (Z:H):AG:=
 Ah .u64 args fun x3 l2=>
 Ah .i64 l2 fun x6 l5=>
 AT l5 (
 nQ E D W N x3 x6 Z)
def A94:C9:=⟨26,[(.int .u64),.i],[(.tmp 4)],(ep OK QB)⟩
theorem AFA (args:List V) (Z:H):Be E D W N A94 args Z=vK E D W N args Z:=by
 unfold vK
 simp only[<-tr]
 kernel_rfl
def ACJ:XC:=(.z (.P 3 (.box 38 (.t 1))<|
.c 4 y3<|
.nil)
 (.z (.m 5 0<|
.O 6 y4 (.load (some 2) (.t 3))<|
.k 7 .i 118 [(.t 5),(.t 6)]<|
.b 8 .geq .none (.t 7) (.i 0)<|
.m 4 8<|
.nil)
 .ret))
def aj (E:EB) (D:Al) (W:AE) (a:V) (b c:Int) (Z:H):AG:=
 Gi [.int .i64 b,.int .i64 c] Z fun s1=>
 BV E s1 (H.next Z) 0 2 fun l2=>
 Ah .i64 l2 fun x5 l4=>
 Ah .i64 l4 fun x8 l7=>
 AT l7 (
 AV (D 118 [a,.agg [.int .i64 x5,.int .i64 x8]] s1) fun u9 s10=>
 Aj .i64 u9 fun x11=>
 some ((V.bool (I7 (AA 0) x11)),s10))
def F95 (N:Nat) (args:List V) (Z:H):AG:=
 AB args fun x1 l2=>
 AB l2 fun x3 l4=>
 Ba x3 fun l5=>
 Ah .i64 l5 fun x8 l7=>
 Ah .i64 l7 fun x11 l10=>
 AT l10 (
 AT l4 (
 aj E D W x1 x8 x11 Z))
def A95:C9:=⟨9,[.any,y4],[(.tmp 4)],ACJ⟩
theorem AE9 (args:List V) (Z:H):Be E D W N A95 args Z=F95 E D W N args Z:=by kernel_rfl
def ACI:XC:=(.z (.P 2 (.box 34 (.t 0))<|
.c 4 y3<|
.nil)
 (.z (.m 5 1<|
.b 6 .and .none (.t 5) (.i 1)<|
.b 7 .neq .none (.t 6) (.i 0)<|
.m 8 7<|
.gO 8 false (.p 9 [2,8] (.faddr 1 (.t 2))<|
.op (some 10) .i [9,8] (.load none (.t 9))<|
.p 11 [10,8] (.bin .eql .none (.t 10) (.i 0))<|
.nil) 12 8 11<|
.m 13 12<|
.gA 13 true (.p 14 [1,13] Io<|
.p 15 [14,13] (.bin .and .none (.t 14) (.i 2))<|
.p 16 [15,13] (.bin .neq .none (.t 15) (.i 0))<|
.p 17 [16,13] (.mov (.t 16))<|
.grp 17 false (.p 18 [2,17] (.faddr 2 (.t 2))<|
.p 19 [18,17] (.load none (.t 18))<|
.p 20 [19,17] (.len false (.t 19))<|
.p 21 [20,17] (.bin .eql .none (.t 20) (.i 0))<|
.nil) 22 [17,21,13] (.t 17) QV (.t 21)<|
.nil) 23 13 22<|
.m 24 23<|
.gA 24 true (.p 25 [1,24] Io<|
.p 26 [25,24] (.bin .and .none (.t 25) (.i 4))<|
.p 27 [26,24] (.bin .neq .none (.t 26) (.i 0))<|
.p 28 [27,24] (.mov (.t 27))<|
.grp 28 false (.p 29 [2,28] (.faddr 3 (.t 2))<|
.p 30 [29,28] (.load none (.t 29))<|
.p 31 [30,28] (.len false (.t 30))<|
.p 32 [31,28] (.bin .eql .none (.t 31) (.i 0))<|
.nil) 33 [28,32,24] (.t 28) QV (.t 32)<|
.nil) 34 24 33<|
.m 35 34<|
.gA 35 true (.p 36 [1,35] Io<|
.p 37 [36,35] (.bin .and .none (.t 36) (.i 8))<|
.p 38 [37,35] (.bin .neq .none (.t 37) (.i 0))<|
.p 39 [38,35] (.mov (.t 38))<|
.grp 39 false (.p 40 [2,39] (.faddr 4 (.t 2))<|
.op (some 41) .i [40,39] (.load none (.t 40))<|
.p 42 [41,39] (.bin .eql .none (.t 41) (.i 0))<|
.p 43 [42,39] (.mov (.t 42))<|
.grp 43 true (.p 44 [2,43] (.faddr 5 (.t 2))<|
.p 45 [44,43] (.load none (.t 44))<|
.p 46 [45,43] (.len false (.t 45))<|
.p 47 [46,43] (.bin .eql .none (.t 46) (.i 0))<|
.nil) 48 [43,47,39] (.t 43) (.t 47) Kl<|
.nil) 49 [39,48,35] (.t 39) QV (.t 48)<|
.nil) 50 35 49<|
.m 4 50<|
.nil)
 .ret))
def ai (E:EB) (D:Al) (W:AE) (a b:Int) (c d:V) (e:Int) (f:V) (g:Int) (Z:H):AG:=
 Gi [.int .i64 a,.int .i64 b,c,d,.int .i64 e,f] Z fun s1=>
 Ac (fun c2 s3=>
 Ac (fun c5 s6=>
 Ac (fun c8 s9=>
 Ac (fun c11 s12=>
 some ((V.bool c11),s12)) fun k13=>
 AJ c8 (
 Ac (fun c14 s15=>
 k13 c14 s15) fun k16=>
 AJ (not (B5 (HI .i64 g (AA 8)) (AA 0))) (
 k16 true s9) (
 BY E s9 (H.next Z) 4 fun u17=>
 Aj .i64 u17 fun x18=>
 Ac (fun c19 s20=>
 k16 c19 s20) fun k21=>
 AJ (B5 x18 (AA 0)) (
 BY E s9 (H.next Z) 5 fun u22=>
 A0 u22 fun n23=>
 k21 (B5 (AA n23) (AA 0)) s9) (
 k21 false s9))) (
 k13 false s9)) fun k10=>
 AJ c5 (
 Ac (fun c24 s25=>
 k10 c24 s25) fun k26=>
 AJ (not (B5 (HI .i64 g (AA 4)) (AA 0))) (
 k26 true s6) (
 BY E s6 (H.next Z) 3 fun u27=>
 A0 u27 fun n28=>
 k26 (B5 (AA n28) (AA 0)) s6)) (
 k10 false s6)) fun k7=>
 AJ c2 (
 Ac (fun c29 s30=>
 k7 c29 s30) fun k31=>
 AJ (not (B5 (HI .i64 g (AA 2)) (AA 0))) (
 k31 true s3) (
 BY E s3 (H.next Z) 2 fun u32=>
 A0 u32 fun n33=>
 k31 (B5 (AA n33) (AA 0)) s3)) (
 k7 false s3)) fun k4=>
 AJ (not (B5 (HI .i64 g (AA 1)) (AA 0))) (
 k4 true s1) (
 BY E s1 (H.next Z) 1 fun u34=>
 Aj .i64 u34 fun x35=>
 k4 (B5 x35 (AA 0)) s1)
def F99 (N:Nat) (args:List V) (Z:H):AG:=
 AB args fun x1 l2=>
 Ba x1 fun l3=>
 Ah .i64 l3 fun x6 l5=>
 Ah .i64 l5 fun x9 l8=>
 AB l8 fun x10 l11=>
 AB l11 fun x12 l13=>
 Ah .i64 l13 fun x16 l15=>
 AB l15 fun x17 l18=>
 AT l18 (
 Ah .i64 l2 fun x21 l20=>
 AT l20 (
 ai E D W x6 x9 x10 x12 x16 x17 x21 Z))
def A99:C9:=⟨51,[y1,.i],[(.tmp 4)],ACI⟩
theorem AE8 (args:List V) (Z:H):Be E D W N A99 args Z=F99 E D W N args Z:=by kernel_rfl
def wE:XC:=(.z (.P 2 (.box 93 (.t 0))<|
.c 4 y3<|
.nil)
 (.z (.f 5 0 2<|
.l 6 .bool 5<|
.P 7 (.un .not (.t 6))<|
.m 8 7<|
.gO 8 false (.p 9 [2,8] (.faddr 1 (.t 2))<|
.op (some 10) .bool [9,8] (.load none (.t 9))<|
.p 11 [10,8] (.un .not (.t 10))<|
.p 12 [11,8] (.mov (.t 11))<|
.grp 12 false (.p 13 [1,12] Io<|
.p 14 [2,12] (.faddr 4 (.t 2))<|
.op (some 15) .i [14,12] (.load none (.t 14))<|
.p 16 [13,15,12] (.bin .geq .none (.t 13) (.t 15))<|
.nil) 17 [12,16,8] (.t 12) QV (.t 16)<|
.p 18 [17,8] (.mov (.t 17))<|
.grp 18 true (.p 19 [2,18] (.faddr 2 (.t 2))<|
.op (some 20) .bool [19,18] (.load none (.t 19))<|
.p 21 [20,18] (.un .not (.t 20))<|
.p 22 [21,18] (.mov (.t 21))<|
.grp 22 false (.p 23 [1,22] Io<|
.p 24 [2,22] (.faddr 5 (.t 2))<|
.op (some 25) .i [24,22] (.load none (.t 24))<|
.p 26 [23,25,22] (.bin .leq .none (.t 23) (.t 25))<|
.nil) 27 [22,26,18] (.t 22) QV (.t 26)<|
.nil) 28 [18,27,8] (.t 18) (.t 27) Kl<|
.nil) 29 8 28<|
.m 4 29<|
.nil)
 .ret))
def sA (E:EB) (D:Al) (W:AE) (a b c d:Bool) (e f g:Int) (Z:H):AG:=
 Gi [.bool a,.bool b,.bool c,.bool d,.int .i64 e,.int .i64 f] Z fun s1=>
 BY E s1 (H.next Z) 0 fun u2=>
 Aa u2 fun x3=>
 Ac (fun c4 s5=>
 some ((V.bool c4),s5)) fun k6=>
 AJ (not x3) (
 k6 true s1) (
 BY E s1 (H.next Z) 1 fun u7=>
 Aa u7 fun x8=>
 Ac (fun c9 s10=>
 Ac (fun c12 s13=>
 k6 c12 s13) fun k14=>
 AJ c9 (
 BY E s10 (H.next Z) 2 fun u15=>
 Aa u15 fun x16=>
 Ac (fun c17 s18=>
 k14 c17 s18) fun k19=>
 AJ (not x16) (
 k19 true s10) (
 BY E s10 (H.next Z) 5 fun u20=>
 Aj .i64 u20 fun x21=>
 k19 (I7 g x21) s10)) (
 k14 false s10)) fun k11=>
 AJ (not x8) (
 k11 true s1) (
 BY E s1 (H.next Z) 4 fun u22=>
 Aj .i64 u22 fun x23=>
 k11 (I7 x23 g) s1))
def vg (N:Nat) (args:List V) (Z:H):AG:=
 AB args fun x1 l2=>
 Ba x1 fun l3=>
 C7 l3 fun x6 l5=>
 C7 l5 fun x9 l8=>
 C7 l8 fun x12 l11=>
 C7 l11 fun x15 l14=>
 Ah .i64 l14 fun x18 l17=>
 Ah .i64 l17 fun x21 l20=>
 AT l20 (
 Ah .i64 l2 fun x24 l23=>
 AT l23 (
 sA E D W x6 x9 x12 x15 x18 x21 x24 Z))
def AHE:C9:=⟨30,[y28,.i],[(.tmp 4)],wE⟩
theorem ABw (args:List V) (Z:H):Be E D W N AHE args Z=vg E D W N args Z:=by kernel_rfl
def wD:XC:=(.z (.P 4 (.box 97 (.t 1))<|
.P 5 (.box 34 (.t 2))<|
.c 6 y3<|
.nil)
 (.z (.O 7 y1 (.load (some 6) (.t 5))<|
.k 8 .bool 99 [(.t 7),(.i 2)]<|
.m 9 8<|
.gA 9 true (.p 10 [5,9] (.faddr 2 (.t 5))<|
.p 11 [10,9] (.load none (.t 10))<|
.p 12 [11,9] (.len false (.t 11))<|
.p 13 [12,9] (.bin .leq .none (.t 12) (.i 70000))<|
.nil) 14 9 13<|
.m 15 14<|
.gA 15 true (.p 16 [4,15] (.faddr 2 (.t 4))<|
.p 17 [16,15] (.faddr 3 (.t 16))<|
.op (some 18) .bool [17,15] (.load none (.t 17))<|
.p 19 [18,15] (.mov (.t 18))<|
.grp 19 false (.p 20 [4,19] (.faddr 2 (.t 4))<|
.op (some 21) y28 [20,19] (.load (some 6) (.t 20))<|
.p 22 [5,19] (.faddr 2 (.t 5))<|
.p 23 [22,19] (.load none (.t 22))<|
.p 24 [23,19] (.len false (.t 23))<|
.op (some 25) .bool [21,24,19] (.call 100 [(.t 21),(.t 24)])<|
.nil) 26 [19,25,15] (.t 19) QV (.t 25)<|
.nil) 27 15 26<|
.m 28 27<|
.gA 28 true (.p 29 [4,28] (.faddr 0 (.t 4))<|
.op (some 30) .i [29,28] (.load none (.t 29))<|
.p 31 [30,28] (.bin .eql .none (.t 30) (.i 5))<|
.p 32 [31,28] (.mov (.t 31))<|
.grp 32 false (.p 33 [5,32] (.faddr 2 (.t 5))<|
.p 34 [33,32] (.load none (.t 33))<|
.op (some 35) .bool [34,32] (.call 123 [(.t 34)])<|
.nil) 36 [32,35,28] (.t 32) QV (.t 35)<|
.nil) 37 28 36<|
.m 6 37<|
.nil)
 .ret))
def r9 (E:EB) (D:Al) (W:AE) (a:V) (b:Int) (c:V) (d e f g:Bool) (h i:Int) (j k:V) (l:Int) (m:Bool) (o p q:Int) (r s:V) (t:Int) (u:V) (Z:H):AG:=
 Gi [.int .i64 b,c,.bool d,.bool e,.bool f,.bool g,.int .i64 h,.int .i64 i,j,k,.int .i64 l,.bool m,.int .i64 o] Z fun s1=>
 Gi [.int .i64 p,.int .i64 q,r,s,.int .i64 t,u] s1 fun s2=>
 BV E s2 (H.next s1) 0 6 fun l3=>
 Ah .i64 l3 fun x6 l5=>
 Ah .i64 l5 fun x9 l8=>
 AB l8 fun x10 l11=>
 AB l11 fun x12 l13=>
 Ah .i64 l13 fun x16 l15=>
 AB l15 fun x17 l18=>
 AT l18 (
 AV (D 99 [.agg [.int .i64 x6,.int .i64 x9,x10,x12,.int .i64 x16,x17],.int .i64 (AA 2)] s2) fun u19 s20=>
 Aa u19 fun x21=>
 Ac (fun c22 s23=>
 Ac (fun c25 s26=>
 Ac (fun c28 s29=>
 some ((V.bool c28),s29)) fun k30=>
 AJ c25 (
 BY E s26 (H.next Z) 0 fun u31=>
 Aj .i64 u31 fun x32=>
 Ac (fun c33 s34=>
 k30 c33 s34) fun k35=>
 AJ (B5 x32 (AA 5)) (
 k35 true s26) (
 BY E s26 (H.next s1) 2 fun u36=>
 AV (D 123 [u36] s26) fun u37 s38=>
 Aa u37 fun x39=>
 k35 x39 s38)) (
 k30 false s26)) fun k27=>
 AJ c22 (
 BY E s23 (H.next Z) 5 fun u40=>
 Aa u40 fun x41=>
 Ac (fun c42 s43=>
 k27 c42 s43) fun k44=>
 AJ x41 (
 k44 true s23) (
 BV E s23 (H.next Z) 2 6 fun l45=>
 C7 l45 fun x48 l47=>
 C7 l47 fun x51 l50=>
 C7 l50 fun x54 l53=>
 C7 l53 fun x57 l56=>
 Ah .i64 l56 fun x60 l59=>
 Ah .i64 l59 fun x63 l62=>
 AT l62 (
 BY E s23 (H.next s1) 2 fun u64=>
 A0 u64 fun n65=>
 AV (D 100 [.agg [.bool x48,.bool x51,.bool x54,.bool x57,.int .i64 x60,.int .i64 x63],.int .i64 (AA n65)] s23) fun u66 s67=>
 Aa u66 fun x68=>
 k44 x68 s67))) (
 k27 false s23)) fun k24=>
 AJ x21 (
 BY E s20 (H.next s1) 2 fun u69=>
 A0 u69 fun n70=>
 k24 (I7 (AA n70) (AA 70000)) s20) (
 k24 false s20))
def vf (N:Nat) (args:List V) (Z:H):AG:=
 AB args fun x1 l2=>
 AB l2 fun x3 l4=>
 Ba x3 fun l5=>
 Ah .i64 l5 fun x8 l7=>
 AB l7 fun x9 l10=>
 C7 l10 fun x13 l12=>
 C7 l12 fun x16 l15=>
 C7 l15 fun x19 l18=>
 C7 l18 fun x22 l21=>
 Ah .i64 l21 fun x25 l24=>
 Ah .i64 l24 fun x28 l27=>
 AB l27 fun x29 l30=>
 AB l30 fun x31 l32=>
 Ah .i64 l32 fun x35 l34=>
 C7 l34 fun x38 l37=>
 Ah .i64 l37 fun x41 l40=>
 AT l40 (
 AB l4 fun x42 l43=>
 Ba x42 fun l44=>
 Ah .i64 l44 fun x47 l46=>
 Ah .i64 l46 fun x50 l49=>
 AB l49 fun x51 l52=>
 AB l52 fun x53 l54=>
 Ah .i64 l54 fun x57 l56=>
 AB l56 fun x58 l59=>
 AT l59 (
 AT l43 (
 r9 E D W x1 x8 x9 x13 x16 x19 x22 x25 x28 x29 x31 x35 x38 x41 x47 x50 x51 x53 x57 x58 Z)))
def AHD:C9:=⟨38,[.any,y2,y1],[(.tmp 6)],wD⟩
theorem ABv (args:List V) (Z:H):Be E D W N AHD args Z=vf E D W N args Z:=by kernel_rfl
end
end Go.Proofs.YtoengnbdallegaaGreatDoor
