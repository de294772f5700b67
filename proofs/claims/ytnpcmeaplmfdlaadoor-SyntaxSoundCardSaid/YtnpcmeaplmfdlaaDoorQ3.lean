/- What the last text leans on, part 4 of 7: merged out of smaller texts. No condition. -/
import Derived.KernelRfl
import Derived.Test.YtnpcmeaplmfdlaaDoorProg
import Derived.Deep.Slices
import Derived.Carry
import Derived.Test.YtnpcmeaplmfdlaaDoorQ2
open Int renaming ofNat -> AA
open Nat renaming le_refl -> AG,le_trans -> AN,add -> AU,ble -> Ab,lt_or_ge -> Ad,beq -> Ag,ble_eq -> Ai,eq_of_beq_eq_true -> BO,zero_add -> B2,zero_le -> CD,blt_eq -> CK,blt -> Cf,lt_of_lt_of_le -> Cz,le_succ -> D3,beq_refl -> EU,mod_eq_of_lt -> Ew,le_add_right -> GD,mul -> GY,add_mul -> PJ,testBit_or -> RX,succ_pos -> eI,testBit_two_pow_self -> ABh
open Bool renaming and_eq_true -> AF,or_eq_false_iff -> BN,and_true -> Be,or_eq_true -> Bg,true_and -> CQ,false_eq_true -> Cd,not_eq_true' -> Cq,false_and -> EW,false_or -> E1,or_false -> JK,eq_iff_iff -> NR,and_false -> Rb
open Option renaming some -> AK,map_eq_some_iff -> Ao,map_some -> Bo
open List renaming getElem?_eq_getElem -> AY,length_drop -> Aa,getElem?_eq_none -> Af,mem_cons_of_mem -> Ah,mem_cons_self -> As,length_append -> Aw,getD_eq_getElem?_getD -> BA,mem_cons -> BF,mem_of_mem_drop -> Bf,eq_nil_of_length_eq_zero -> Bh,getElem?_map -> Bk,map_cons -> B3,getElem?_drop -> CL,mem_singleton -> Cc,length_take -> Cl,drop_drop -> C5,mem_of_mem_take -> D4,all_eq_true -> D6,drop_zero -> EV,length_map -> Ea,append_nil -> Eb,ext_getElem? -> FO,range -> Hi,length -> Ij,mem_map -> I1,nil_append -> JI,forall_mem_cons -> LF,take_length -> UJ,getElem_mem -> UK
set_option linter.all false
set_option maxRecDepth 100000
set_option maxHeartbeats 0
namespace Go.Proofs.YtnpcmeaplmfdlaaDoor
open Go Go.Og
noncomputable section
variable (E:EB) (D:BB) (W:AJ) (N:Nat)
def vV:XC:=(.z (.q 4 0<|
 .c 5 y1<|
 .nil)
 (.z (.m 10 0<|
 .n 11 10<|
 .f 12 0 11<|
 .k 13 y4 18 [(.t 12)]<|
 .pal 6 [] 68 [y0,y3,y0]<|
 .op none y4 [6,13] (.store 3 (.t 6) (.t 13))<|
 .nil)
 (.seq (.block 0 (.z (.O 15 y4 (.load (some 3) (.t 6))<|
 .k 16 .bool 47 [(.t 15)]<|
 .P 17 (.un .not (.t 16))<|
 .m 14 17<|
 .nil)
 (.cond (.tmp 14) (.z (.m 18 0<|
 .f 19 2 6<|
 .l 20 .i 19<|
 .k 21 .bool 36 [(.t 18),(.t 20),(.i 7)]<|
 .q 4 0<|
 .m 5 21<|
 .nil)
 .ret)
 (.z (.m 23 1<|
 .b 24 .gtr .none (.t 23) (.i 16)<|
 .m 25 24<|
 .gO 25 false (.p 26 [0,25] y7<|
 .p 27 [26,25] (.nilck (.t 26))<|
 .p 28 [27,25] (.faddr 2 (.t 27))<|
 .p 29 [28,25] (.faddr 4 (.t 28))<|
 .p 30 [29,25] (.load none (.t 29))<|
 .p 31 [30,25] (.len false (.t 30))<|
 .p 32 [31,25] (.bin .geq .none (.t 31) (.i 300))<|
 .nil) 33 25 32<|
 .m 22 33<|
 .nil)
 (.cond (.tmp 22) (.z (.m 34 0<|
 .f 35 2 6<|
 .l 36 .i 35<|
 .k 37 .bool 36 [(.t 34),(.t 36),(.i 5)]<|
 .q 4 0<|
 .m 5 37<|
 .nil)
 .ret)
 .skip)))))
 (.z (.m 38 0<|
 .n 39 38<|
 .f 40 2 39<|
 .f 41 4 40<|
 .l 42 .any 41<|
 .u 43 42<|
 .m 7 43<|
 .nil)
 (.z (.m 44 0<|
 .m 45 0<|
 .n 46 45<|
 .f 47 2 46<|
 .f 48 4 47<|
 .l 49 .any 48<|
 .op (some 50) y2 [] (.build [y0,y3,y1,y0,y0,y1,y1,y1,y1,y0,y0,V.nils,V.nils,y0,y1,y0] [])<|
 .p 51 [50] (.buildSlice 39 1 [y0,y3,y1,y0,y0,y1,y1,y1,y1,y0,y0,V.nils,V.nils,y0,y1,y0] [(0,16,(.t 50))])<|
 .O 52 .one (.append 39 16 144 (.t 49) (.t 51))<|
 .n 53 44<|
 .f 54 2 53<|
 .f 55 4 54<|
 .w 1 55 52<|
 .nil)
 (.z (.m 57 0<|
 .m 58 1<|
 .k 59 (.tup [y2,.bool]) 48 [(.t 57),(.t 58)]<|
 .m 56 59<|
 .P 60 (.extract 0 (.t 56))<|
 .P 61 (.extract 1 (.t 56))<|
 .pal 8 [] 39 [y0,y3,y1,y0,y0,y1,y1,y1,y1,y0,y0,V.nils,V.nils,y0,y1,y0]<|
 .op none y2 [8,60] (.store 16 (.t 8) (.t 60))<|
 .m 9 61<|
 .nil)
 (.seq (.z (.m 62 9<|
 .P 63 (.un .not (.t 62))<|
 .nil)
 (.cond (.tmp 63) (.z (.q 4 0<|
 .c 5 y1<|
 .nil)
 .ret)
 .skip))
 (.seq (.draw (.m 64 0<|
 .n 65 64<|
 .f 66 2 65<|
 .f 67 4 66<|
 .l 68 .any 67<|
 .m 69 7<|
 .O 70 y2 (.load (some 16) (.t 8))<|
 .s 71 16 68 69<|
 .op none y2 [71,70] (.store 16 (.t 71) (.t 70))<|
 .nil) [0,1,3,7,15,0,0,127,255])
 (.z (.m 72 7<|
 .m 4 72<|
 .c 5 y9<|
 .nil)
 .ret)))))))))
def Oa (E:EB) (D:BB) (W:AJ) (a b:Nat) (c:Int) (Z:H):AH:=
 AV (D 18 [.ptr a b] Z) fun u1 s2=>
 B7 u1 fun l3=>
 BV .i64 l3 fun x6 l5=>
 EY l5 fun x9 l8=>
 BV .i64 l8 fun x12 l11=>
 AZ l11 (
 AV (D 47 [.agg [.int .i64 x6,.str x9,.int .i64 x12]] s2) fun u13 s14=>
 AT u13 fun x15=>
 AI (not x15) (
 AV (D 36 [.ptr a b,.int .i64 x12,.int .i64 (AA 7)] s14) fun u16 s17=>
 AT u16 fun x18=>
 some ((V.tup [.int .i64 (AA 0),.bool x18]),s17)) (
 Ax (fun c19 s20=>
 AI c19 (
 AV (D 36 [.ptr a b,.int .i64 x12,.int .i64 (AA 5)] s20) fun u22 s23=>
 AT u22 fun x24=>
 some ((V.tup [.int .i64 (AA 0),.bool x24]),s23)) (
 Bm E s20 a (AU (AU b 2) 4) fun u25=>
 BG u25 fun n26=>
 Bm E s20 a (AU (AU b 2) 4) fun u27=>
 let s28:=CO s20 (.cells [.int .i64 (AA 0),.str (BS.mk 0 0),.bool false,.int .i64 (AA 0),.int .i64 (AA 0),.bool false,.bool false,.bool false,.bool false,.int .i64 (AA 0),.int .i64 (AA 0),V.nils,V.nils,.int .i64 (AA 0),.bool false,.int .i64 (AA 0)]);
 Ix E 16 144 u27 (V.sl (H.next s20) 0 1 (.ex 1)) s28 fun u29 s30=>
 Fk u29 (
 Dk 1 a (AU (AU b 2) 4) u29 s30 fun s31=>
 AV (D 48 [.ptr a b,.int .i64 c] s31) fun u32 s33=>
 Cw u32 fun l34=>
 AP l34 fun x35 l36=>
 B7 x35 fun l37=>
 BV .i64 l37 fun x40 l39=>
 EY l39 fun x43 l42=>
 DQ l42 fun x46 l45=>
 BV .i64 l45 fun x49 l48=>
 BV .i64 l48 fun x52 l51=>
 DQ l51 fun x55 l54=>
 DQ l54 fun x58 l57=>
 DQ l57 fun x61 l60=>
 DQ l60 fun x64 l63=>
 BV .i64 l63 fun x67 l66=>
 BV .i64 l66 fun x70 l69=>
 AP l69 fun x71 l72=>
 AP l72 fun x73 l74=>
 BV .i64 l74 fun x77 l76=>
 DQ l76 fun x80 l79=>
 BV .i64 l79 fun x83 l82=>
 AZ l82 (
 DQ l36 fun x86 l85=>
 AZ l85 (
 I5 (BJ [.int .i64 x40,.str x43,.bool x46,.int .i64 x49,.int .i64 x52,.bool x55,.bool x58,.bool x61,.bool x64,.int .i64 x67,.int .i64 x70,x71,x73,.int .i64 x77,.bool x80,.int .i64 x83]) (
 AI (not x86) (
 some ((V.tup [.int .i64 (AA 0),.bool false]),s33)) (
 Bm E s33 a (AU (AU b 2) 4) fun u87=>
 Am 16 u87 (AA n26) fun b88 o89=>
 Dk 16 b88 o89 (V.agg [.int .i64 x40,.str x43,.bool x46,.int .i64 x49,.int .i64 x52,.bool x55,.bool x58,.bool x61,.bool x64,.int .i64 x67,.int .i64 x70,x71,x73,.int .i64 x77,.bool x80,.int .i64 x83]) s33 fun s90=>
 some ((V.tup [.int .i64 (AA n26),.bool true]),s90)))))))) fun k21=>
 AI (Dt (AA 16) c) (
 k21 true s14) (
 Bm E s14 a (AU (AU b 2) 4) fun u91=>
 BG u91 fun n92=>
 k21 (Ip (AA 300) (AA n92)) s14)))
def uT (N:Nat) (args:List V) (Z:H):AH:=
 AP args fun x1 l2=>
 Br x1 fun b3 o4=>
 BV .i64 l2 fun x7 l6=>
 AZ l6 (
 Oa E D W b3 o4 x7 Z)
def A39:Eg:=⟨73,[.ptr,.i],[(.tmp 4),(.tmp 5)],vV⟩
theorem AAQ (args:List V) (Z:H):CR E D W N A39 args Z=uT E D W N args Z:=by kernel_rfl
def Xs:List (Nat × EH):=[(0,.any),(1,.any),(2,.any),(7,.i)]
def H0 (E:EB):St->AH:=fun s=>Ek E s [(.tmp 6)] fun l=>some (FF l,s.Z)
def dF (c0:XC):Nat->St->AH:=CC 0 (dX E D W N (.keep [] [] [] c0) (H0 E) nX (H0 E)) nX
def aO (cc1:XC) (cc2:XC):XC:=(.z (.c 6 y1<|
 .nil)
 (.seq (.z (.m 8 0<|
 .u 9 8<|
 .m 10 1<|
 .u 11 10<|
 .b 12 .neq .none (.t 9) (.t 11)<|
 .nil)
 jR)
 (.seq (.z (.q 7 0<|
 .nil)
 (.block 0 (.loop Xs [] [] cc2)))
 (.keep [] [] [] cc1))))
def fe (E:EB) (D:BB) (W:AJ) (K2:V->V->V->Int->H->AH) (a b c:V) (Z:H):AH:=
 BG a fun n1=>
 BG b fun n2=>
 AI (not (D0 (AA n1) (AA n2))) (
 some ((V.bool false),Z)) (
 K2 a b c (AA 0) Z)
def O1:XC:=(.z (.c 6 y9<|
 .nil)
 .ret)
def qn (E:EB) (D:BB) (W:AJ) (Z:H):AH:=
 some ((V.bool true),Z)
def Qj:XC:=(.seq (.z (.m 13 7<|
 .m 14 0<|
 .u 15 14<|
 .b 16 .lss .none (.t 13) (.t 15)<|
 .nil)
 W2)
 (.seq (.block 1 (.seq (.draw (.m 19 2<|
 .m 20 0<|
 .m 21 7<|
 .s 22 3 20 21<|
 .O 23 Wx (.load (some 3) (.t 22))<|
 .m 24 1<|
 .m 25 7<|
 .s 26 3 24 25<|
 .O 27 Wx (.load (some 3) (.t 26))<|
 .O 28 .bool (.callv (.t 19) [(.t 23),(.t 27)])<|
 .P 29 eL<|
 .nil) [0,0,0,6,14,0,0,96,224,511,1023])
 eN))
 y8))
def fc (E:EB) (D:BB) (W:AJ) (K1:H->AH) (R2:V->V->V->Int->H->AH) (a b c:V) (d:Int) (Z:H):AH:=
 BG a fun n1=>
 AI (Dt d (AA n1)) (
 Am 3 a d fun b2 o3=>
 DB E Z b2 o3 3 fun l4=>
 EY l4 fun x7 l6=>
 BV .i64 l6 fun x10 l9=>
 DQ l9 fun x13 l12=>
 AZ l12 (
 Am 3 b d fun b14 o15=>
 DB E Z b14 o15 3 fun l16=>
 EY l16 fun x19 l18=>
 BV .i64 l18 fun x22 l21=>
 DQ l21 fun x25 l24=>
 AZ l24 (
 Iv D c [.agg [.str x7,.int .i64 x10,.bool x13],.agg [.str x19,.int .i64 x22,.bool x25]] Z fun u26 s27=>
 AT u26 fun x28=>
 AI (not x28) (
 some ((V.bool false),s27)) (
 R2 a b c (CJ .i64 d (AA 1)) s27)))) (
 K1 Z)
def gS (a b c:V) (Z:H):St:=⟨[(0,a),(1,b),(2,c)],[],[],Z⟩
def gR (Z:H):St:=⟨[],[],[],Z⟩
def VU (a b c:V) (d:Int) (Z:H):St:=⟨[(0,a),(1,b),(2,c),(7,.int .i64 d)],[],[],Z⟩
theorem sN (cc1:XC) (cc2:XC) (a b c:V) (Z:H) :
 AW E D W N (aO cc1 cc2) (gS a b c Z) (H0 E) nX (H0 E) =
 fe E D W (fun a b c d Z=>BE (fun rec s'=>AW E D W N cc2 s' (kX Xs [] [] rec) (dF E D W N cc1) (H0 E)) N (VU a b c d Z)) a b c Z:=by kernel_rfl
theorem sM (cc1:XC) (li2:St->AH) (a b c:V) (d:Int) (Z:H) :
 AW E D W N (Qj ) (VU a b c d Z) (kX Xs [] [] li2) (dF E D W N cc1) (H0 E) =
 fc E D W (fun  Z=>AW E D W N cc1 (gR Z) (H0 E) nX (H0 E)) (fun a b c d Z=>li2 (VU a b c d Z)) a b c d Z:=by kernel_rfl
def iq (E:EB) (D:BB) (W:AJ) (N:Nat):=qn E D W
theorem mP (Z:H) :
 AW E D W N O1 (gR Z) (H0 E) nX (H0 E)=iq E D W N  Z:=by kernel_rfl
def iD (n:Nat):V->V->V->Int->H->AH:=
 Nat.rec (fun _ _ _ _ _=>none) (fun _ ih=>fc E D W (iq E D W N ) ih) n
theorem lE (n:Nat):∀(a b c:V) (d:Int) (Z:H),
 BE (fun rec s'=>AW E D W N Qj s' (kX Xs [] [] rec) (dF E D W N O1) (H0 E)) n (VU a b c d Z)=iD E D W N n a b c d Z:=by
 induction n with
 | zero=>intro a b c d Z;rfl
 | succ n ihn=>
  intro a b c d Z
  rw[BP]
  refine(sM E D W N O1 (BE (fun rec s'=>AW E D W N Qj s' (kX Xs [] [] rec) (dF E D W N O1) (H0 E)) n) a b c d Z).trans ?_
  simp only[ihn,mP]
  kernel_rfl
def ir:=fe E D W (iD E D W N N)
theorem mQ (a b c:V) (Z:H) :
 AW E D W N (aO O1 Qj) (gS a b c Z) (H0 E) nX (H0 E)=ir E D W N a b c Z:=by
 refine(sN E D W N O1 Qj  a b c Z).trans ?_
 simp only[lE]
 kernel_rfl
def wL (args:List V) (Z:H):AH:=
 AP args fun x1 l2=>
 AP l2 fun x3 l4=>
 AP l4 fun x5 l6=>
 AZ l6 (
 ir E D W N x1 x3 x5 Z)
def A40:Eg:=⟨30,jQ,[(.tmp 6)],(aO O1 Qj)⟩
theorem AAP (args:List V) (Z:H):CR E D W N A40 args Z=wL E D W N args Z:=by
 unfold wL
 simp only[<-mQ]
 kernel_rfl
def vU:XC:=(.z (.P 2 (.box 79 (.t 0))<|
 .P 3 (.box 79 (.t 1))<|
 .c 4 y1<|
 .nil)
 (.z (.O 5 Wx (.load (some 3) (.t 2))<|
 .O 6 Wx (.load (some 3) (.t 3))<|
 .b 7 .eql (.flat [(0,.str),(1,.int),(2,.bool)]) (.t 5) (.t 6)<|
 .m 4 7<|
 .nil)
 .ret))
def qm (E:EB) (D:BB) (W:AJ) (a:BS) (b:Int) (c:Bool) (d:BS) (e:Int) (f:Bool) (Z:H):AH:=
 PO [.str a,.int .i64 b,.bool c] Z fun s1=>
 PO [.str d,.int .i64 e,.bool f] s1 fun s2=>
 DB E s2 (H.next Z) 0 3 fun l3=>
 EY l3 fun x6 l5=>
 BV .i64 l5 fun x9 l8=>
 DQ l8 fun x12 l11=>
 AZ l11 (
 DB E s2 (H.next s1) 0 3 fun l13=>
 EY l13 fun x16 l15=>
 BV .i64 l15 fun x19 l18=>
 DQ l18 fun x22 l21=>
 AZ l21 (
 TQ (.flat [(0,.str),(1,.int),(2,.bool)]) (V.agg [.str x6,.int .i64 x9,.bool x12]) (V.agg [.str x16,.int .i64 x19,.bool x22]) fun c23=>
 some ((V.bool c23),s2)))
def F41 (N:Nat) (args:List V) (Z:H):AH:=
 AP args fun x1 l2=>
 B7 x1 fun l3=>
 EY l3 fun x6 l5=>
 BV .i64 l5 fun x9 l8=>
 DQ l8 fun x12 l11=>
 AZ l11 (
 AP l2 fun x13 l14=>
 B7 x13 fun l15=>
 EY l15 fun x18 l17=>
 BV .i64 l17 fun x21 l20=>
 DQ l20 fun x24 l23=>
 AZ l23 (
 AZ l14 (
 qm E D W x6 x9 x12 x18 x21 x24 Z)))
def A41:Eg:=⟨8,[Wx,Wx],[(.tmp 4)],vU⟩
theorem AAO (args:List V) (Z:H):CR E D W N A41 args Z=F41 E D W N args Z:=by kernel_rfl
def vT:XC:=(.z (.P 2 (.box 44 (.t 0))<|
 .P 3 (.box 44 (.t 1))<|
 .c 4 y1<|
 .nil)
 (.z (.f 5 0 2<|
 .l 6 .i 5<|
 .f 7 0 3<|
 .l 8 .i 7<|
 .b 9 .eql .none (.t 6) (.t 8)<|
 .m 10 9<|
 .gA 10 true (.p 11 [2,10] (.faddr 1 (.t 2))<|
 .op (some 12) .i [11,10] (.load none (.t 11))<|
 .p 13 [3,10] (.faddr 1 (.t 3))<|
 .op (some 14) .i [13,10] (.load none (.t 13))<|
 .p 15 [12,14,10] (.bin .eql .none (.t 12) (.t 14))<|
 .nil) 16 10 15<|
 .m 17 16<|
 .gA 17 true (.p 18 [2,17] (.faddr 2 (.t 2))<|
 .p 19 [18,17] (.load none (.t 18))<|
 .p 20 [3,17] (.faddr 2 (.t 3))<|
 .p 21 [20,17] (.load none (.t 20))<|
 .op (some 22) .bool [19,21,17] (.call 49 [(.t 19),(.t 21)])<|
 .nil) 23 17 22<|
 .m 24 23<|
 .gA 24 true (.p 25 [2,24] (.faddr 3 (.t 2))<|
 .p 26 [25,24] (.load none (.t 25))<|
 .p 27 [3,24] (.faddr 3 (.t 3))<|
 .p 28 [27,24] (.load none (.t 27))<|
 .op (some 29) .bool [26,28,24] (.call 50 [(.t 26),(.t 28),(.con (V.fn 42 [] []))])<|
 .nil) 30 24 29<|
 .m 31 30<|
 .gA 31 true (.p 32 [2,31] (.faddr 4 (.t 2))<|
 .op (some 33) .i [32,31] (.load none (.t 32))<|
 .p 34 [3,31] jP<|
 .op (some 35) .i [34,31] (.load none (.t 34))<|
 .p 36 [33,35,31] (.bin .eql .none (.t 33) (.t 35))<|
 .nil) 37 31 36<|
 .m 38 37<|
 .gA 38 true (.p 39 [2,38] (.faddr 5 (.t 2))<|
 .p 40 [39,38] (.load none (.t 39))<|
 .p 41 [3,38] (.faddr 5 (.t 3))<|
 .p 42 [41,38] (.load none (.t 41))<|
 .op (some 43) .bool [40,42,38] (.call 51 [(.t 40),(.t 42),(.con (V.fn 52 [] []))])<|
 .nil) 44 38 43<|
 .m 4 44<|
 .nil)
 .ret))
def ql (E:EB) (D:BB) (W:AJ) (a b:Int) (c d:V) (e:Int) (f:V) (g h:Int) (i j:V) (k:Int) (l:V) (Z:H):AH:=
 PO [.int .i64 a,.int .i64 b,c,d,.int .i64 e,f] Z fun s1=>
 PO [.int .i64 g,.int .i64 h,i,j,.int .i64 k,l] s1 fun s2=>
 Bm E s2 (H.next Z) 0 fun u3=>
 Al .i64 u3 fun x4=>
 Bm E s2 (H.next s1) 0 fun u5=>
 Al .i64 u5 fun x6=>
 Ax (fun c7 s8=>
 Ax (fun c10 s11=>
 Ax (fun c13 s14=>
 Ax (fun c16 s17=>
 Ax (fun c19 s20=>
 some ((V.bool c19),s20)) fun k21=>
 AI c16 (
 Bm E s17 (H.next Z) 5 fun u22=>
 Bm E s17 (H.next s1) 5 fun u23=>
 AV (D 51 [u22,u23,.fn 52 [] []] s17) fun u24 s25=>
 AT u24 fun x26=>
 k21 x26 s25) (
 k21 false s17)) fun k18=>
 AI c13 (
 Bm E s14 (H.next Z) 4 fun u27=>
 Al .i64 u27 fun x28=>
 Bm E s14 (H.next s1) 4 fun u29=>
 Al .i64 u29 fun x30=>
 k18 (D0 x28 x30) s14) (
 k18 false s14)) fun k15=>
 AI c10 (
 Bm E s11 (H.next Z) 3 fun u31=>
 Bm E s11 (H.next s1) 3 fun u32=>
 AV (D 50 [u31,u32,.fn 42 [] []] s11) fun u33 s34=>
 AT u33 fun x35=>
 k15 x35 s34) (
 k15 false s11)) fun k12=>
 AI c7 (
 Bm E s8 (H.next Z) 2 fun u36=>
 Bm E s8 (H.next s1) 2 fun u37=>
 AV (D 49 [u36,u37] s8) fun u38 s39=>
 AT u38 fun x40=>
 k12 x40 s39) (
 k12 false s8)) fun k9=>
 AI (D0 x4 x6) (
 Bm E s2 (H.next Z) 1 fun u41=>
 Al .i64 u41 fun x42=>
 Bm E s2 (H.next s1) 1 fun u43=>
 Al .i64 u43 fun x44=>
 k9 (D0 x42 x44) s2) (
 k9 false s2)
def F42 (N:Nat) (args:List V) (Z:H):AH:=
 AP args fun x1 l2=>
 B7 x1 fun l3=>
 BV .i64 l3 fun x6 l5=>
 BV .i64 l5 fun x9 l8=>
 AP l8 fun x10 l11=>
 AP l11 fun x12 l13=>
 BV .i64 l13 fun x16 l15=>
 AP l15 fun x17 l18=>
 AZ l18 (
 AP l2 fun x19 l20=>
 B7 x19 fun l21=>
 BV .i64 l21 fun x24 l23=>
 BV .i64 l23 fun x27 l26=>
 AP l26 fun x28 l29=>
 AP l29 fun x30 l31=>
 BV .i64 l31 fun x34 l33=>
 AP l33 fun x35 l36=>
 AZ l36 (
 AZ l20 (
 ql E D W x6 x9 x10 x12 x16 x17 x24 x27 x28 x30 x34 x35 Z)))
def A42:Eg:=⟨45,[y5,y5],[(.tmp 4)],vT⟩
theorem AAN (args:List V) (Z:H):CR E D W N A42 args Z=F42 E D W N args Z:=by kernel_rfl
def vS:XC:=(.z (.c 4 y1<|
 .nil)
 (.z (.m 5 0<|
 .m 6 1<|
 .k 7 .bool 53 [(.t 5),(.t 6)]<|
 .m 4 7<|
 .nil)
 .ret))
def ZQ (E:EB) (D:BB) (W:AJ) (a b:BS) (Z:H):AH:=
 AV (D 53 [.str a,.str b] Z) fun u1 s2=>
 AT u1 fun x3=>
 some ((V.bool x3),s2)
def uS (N:Nat) (args:List V) (Z:H):AH:=
 EY args fun x3 l2=>
 EY l2 fun x6 l5=>
 AZ l5 (
 ZQ E D W x3 x6 Z)
def A43:Eg:=⟨8,[.str,.str],[(.tmp 4)],vS⟩
theorem AAM (args:List V) (Z:H):CR E D W N A43 args Z=uS E D W N args Z:=by kernel_rfl
def vR (cc1:XC) (cc2:XC):XC:=(.z (.c 2 y1<|
 .nil)
 (.seq (.z (.m 3 0<|
 .nil)
 (.block 0 (.seq (.z (.b 5 .eql .none (.t 3) (.con (V.str ⟨11,100710650190388740279911748⟩))<|
 .m 4 5<|
 .nil)
 (.cond (.tmp 4) .skip
 (.z (.b 6 .eql .none (.t 3) wV<|
 .m 4 6<|
 .nil)
 (.cond (.tmp 4) .skip
 (.z (.b 7 .eql .none (.t 3) wU<|
 .m 4 7<|
 .nil)
 (.cond (.tmp 4) .skip
 (.z (.b 8 .eql .none (.t 3) (.con (V.str ⟨9,1241215773001651606849⟩))<|
 .m 4 8<|
 .nil)
 (.cond (.tmp 4) .skip
 (.z (.b 9 .eql .none (.t 3) (.con (V.str ⟨4,1397178708⟩))<|
 .m 4 9<|
 .nil)
 (.cond (.tmp 4) .skip
 (.z (.b 10 .eql .none (.t 3) (.con (V.str ⟨5,336236856642⟩))<|
 .m 4 10<|
 .nil)
 (.cond (.tmp 4) .skip
 (.z (.b 11 .eql .none (.t 3) (.con (V.str ⟨3,4476485⟩))<|
 .m 4 11<|
 .nil)
 (.cond (.tmp 4) .skip
 (.z (.b 12 .eql .none (.t 3) (.con (V.str ⟨7,22026814072246082⟩))<|
 .m 4 12<|
 .nil)
 (.cond (.tmp 4) .skip
 (.z (.b 13 .eql .none (.t 3) (.con (V.str ⟨7,23157120498421321⟩))<|
 .m 4 13<|
 .nil)
 (.cond (.tmp 4) .skip
 (.z (.b 14 .eql .none (.t 3) wX<|
 .m 4 14<|
 .nil)
 (.cond (.tmp 4) .skip
 (.z (.b 15 .eql .none (.t 3) wA<|
 .m 4 15<|
 .nil)
 (.cond (.tmp 4) .skip
 (.z (.b 16 .eql .none (.t 3) (.con (V.str ⟨5,361940403023⟩))<|
 .m 4 16<|
 .nil)
 (.cond (.tmp 4) .skip
 (.z (.b 17 .eql .none (.t 3) (.con (V.str ⟨6,78401563153491⟩))<|
 .m 4 17<|
 .nil)
 (.cond (.tmp 4) .skip
 (.z (.b 18 .eql .none (.t 3) wW<|
 .m 4 18<|
 .nil)
 (.cond (.tmp 4) .skip
 (.z (.b 19 .eql .none (.t 3) wT<|
 .m 4 19<|
 .nil)
 (.cond (.tmp 4) .skip
 (.z (.b 20 .eql .none (.t 3) (.con (V.str ⟨3,5522771⟩))<|
 .m 4 20<|
 .nil)
 (.cond (.tmp 4) .skip
 (.z (.b 21 .eql .none (.t 3) (.con (V.str ⟨6,76155295057987⟩))<|
 .m 4 21<|
 .nil)
 (.cond (.tmp 4) .skip
 (.z (.b 22 .eql .none (.t 3) (.con (V.str ⟨2,17999⟩))<|
 .m 4 22<|
 .nil)
 (.cond (.tmp 4) .skip
 (.z (.b 23 .eql .none (.t 3) (.con (V.str ⟨8,5494759122808361039⟩))<|
 .m 4 23<|
 .nil)
 (.cond (.tmp 4) .skip
 (.z (.b 24 .eql .none (.t 3) (.con (V.str ⟨7,23727827094750532⟩))<|
 .m 4 24<|
 .nil)
 (.cond (.tmp 4) .skip
 (.z (.b 25 .eql .none (.t 3) (.con (V.str ⟨4,1163544915⟩))<|
 .m 4 25<|
 .nil)
 (.cond (.tmp 4) .skip
 (.z (.b 26 .eql .none (.t 3) (.con (V.str ⟨3,5130573⟩))<|
 .m 4 26<|
 .nil)
 (.cond (.tmp 4) .skip
 (.z (.b 27 .eql .none (.t 3) (.con (V.str ⟨3,5783885⟩))<|
 .m 4 27<|
 .nil)
 (.cond (.tmp 4) .skip
 (.z (.b 28 .eql .none (.t 3) (.con (V.str ⟨4,1163219540⟩))<|
 .m 4 28<|
 .nil)
 (.cond (.tmp 4) .skip
 (.ops (.b 29 .eql .none (.t 3) (.con (V.str ⟨5,297750249798⟩))<|
 .m 4 29<|
 .nil))))))))))))))))))))))))))))))))))))))))))))))))))
 (.keep [(4,.bool)] [] [] cc2))))
 (.keep [] [] [] cc1)))
def ZP (E:EB) (D:BB) (W:AJ) (K2:Bool->H->AH) (a:BS) (Z:H):AH:=
 AI (BS.beq a (BS.mk 11 100710650190388740279911748)) (
 K2 (BS.beq a (BS.mk 11 100710650190388740279911748)) Z) (
 AI (BS.beq a (BS.mk 8 6073459554577832005)) (
 K2 (BS.beq a (BS.mk 8 6073459554577832005)) Z) (
 AI (BS.beq a (BS.mk 8 6073459554577829193)) (
 K2 (BS.beq a (BS.mk 8 6073459554577829193)) Z) (
 AI (BS.beq a (BS.mk 9 1241215773001651606849)) (
 K2 (BS.beq a (BS.mk 9 1241215773001651606849)) Z) (
 AI (BS.beq a (BS.mk 4 1397178708)) (
 K2 (BS.beq a (BS.mk 4 1397178708)) Z) (
 AI (BS.beq a (BS.mk 5 336236856642)) (
 K2 (BS.beq a (BS.mk 5 336236856642)) Z) (
 AI (BS.beq a (BS.mk 3 4476485)) (
 K2 (BS.beq a (BS.mk 3 4476485)) Z) (
 AI (BS.beq a (BS.mk 7 22026814072246082)) (
 K2 (BS.beq a (BS.mk 7 22026814072246082)) Z) (
 AI (BS.beq a (BS.mk 7 23157120498421321)) (
 K2 (BS.beq a (BS.mk 7 23157120498421321)) Z) (
 AI (BS.beq a (BS.mk 10 322399817400452109389381)) (
 K2 (BS.beq a (BS.mk 10 322399817400452109389381)) Z) (
 AI (BS.beq a (BS.mk 4 1280070990)) (
 K2 (BS.beq a (BS.mk 4 1280070990)) Z) (
 AI (BS.beq a (BS.mk 5 361940403023)) (
 K2 (BS.beq a (BS.mk 5 361940403023)) Z) (
 AI (BS.beq a (BS.mk 6 78401563153491)) (
 K2 (BS.beq a (BS.mk 6 78401563153491)) Z) (
 AI (BS.beq a (BS.mk 10 488440487847103610377301)) (
 K2 (BS.beq a (BS.mk 10 488440487847103610377301)) Z) (
 AI (BS.beq a (BS.mk 8 4990918871747741011)) (
 K2 (BS.beq a (BS.mk 8 4990918871747741011)) Z) (
 AI (BS.beq a (BS.mk 3 5522771)) (
 K2 (BS.beq a (BS.mk 3 5522771)) Z) (
 AI (BS.beq a (BS.mk 6 76155295057987)) (
 K2 (BS.beq a (BS.mk 6 76155295057987)) Z) (
 AI (BS.beq a (BS.mk 2 17999)) (
 K2 (BS.beq a (BS.mk 2 17999)) Z) (
 AI (BS.beq a (BS.mk 8 5494759122808361039)) (
 K2 (BS.beq a (BS.mk 8 5494759122808361039)) Z) (
 AI (BS.beq a (BS.mk 7 23727827094750532)) (
 K2 (BS.beq a (BS.mk 7 23727827094750532)) Z) (
 AI (BS.beq a (BS.mk 4 1163544915)) (
 K2 (BS.beq a (BS.mk 4 1163544915)) Z) (
 AI (BS.beq a (BS.mk 3 5130573)) (
 K2 (BS.beq a (BS.mk 3 5130573)) Z) (
 AI (BS.beq a (BS.mk 3 5783885)) (
 K2 (BS.beq a (BS.mk 3 5783885)) Z) (
 AI (BS.beq a (BS.mk 4 1163219540)) (
 K2 (BS.beq a (BS.mk 4 1163219540)) Z) (
 K2 (BS.beq a (BS.mk 5 297750249798)) Z))))))))))))))))))))))))
def vQ:XC:=(.z (.c 2 y1<|
 .nil)
 .ret)
def qk (E:EB) (D:BB) (W:AJ) (Z:H):AH:=
 some ((V.bool false),Z)
def vP:XC:=(.cond (.tmp 4) (.z (.c 2 y9<|
 .nil)
 .ret)
 .skip)
def qj (E:EB) (D:BB) (W:AJ) (K1:H->AH) (a:Bool) (Z:H):AH:=
 AI a (
 some ((V.bool true),Z)) (
 K1 Z)
def th (E:EB) (D:BB) (W:AJ) (N:Nat):=qk E D W
def aC:=qj E D W (th E D W N )
def uR (args:List V) (Z:H):AH:=
 EY args fun x3 l2=>
 AZ l2 (
 ZP E D W (aC E D W N ) x3 Z)
def A44:Eg:=⟨30,[.str],[(.tmp 2)],(vR vQ vP)⟩
theorem AAL (args:List V) (Z:H):CR E D W N A44 args Z=uR E D W N args Z:=by kernel_rfl
def j0:List (Nat × EH):=[(0,.any),(3,(.int .u8))]
def Xr:List (Nat × EH):=[(0,.any),(138,.bool)]
def Xq:List (Nat × EH):=[(0,.any),(185,.bool)]
def Bx (E:EB):St->AH:=fun s=>Ek E s [(.tmp 2)] fun l=>some (FF l,s.Z)
def MU (c0:XC) (l0:St->AH):Nat->St->AH:=CC 1 (kX [(0,.any)] [] [] l0) (CC 0 (dX E D W N (.keep [] [] [] c0) (Bx E) nX (Bx E)) nX)
def Lp (c0 c1:XC) (l0:St->AH):St->AH:=dX E D W N (.keep [(0,.any)] [] [] c0) (kX [(0,.any)] [] [] l0) (CC 4 (kX [(0,.any)] [] [] l0) (MU E D W N c1 l0)) (Bx E)
def Gn (c0:XC) (l0:St->AH):Nat->St->AH:=CC 4 (kX [(0,.any)] [] [] l0) (MU E D W N c0 l0)
def dE (c0 c1 c2:XC) (l0:St->AH):Nat->St->AH:=CC 2 (dX E D W N (.keep [(0,.any)] [] [] c0) (dX E D W N (.keep j0 [] [] c1) (kX [(0,.any)] [] [] l0) (MU E D W N c2 l0) (Bx E)) (MU E D W N c2 l0) (Bx E)) (MU E D W N c2 l0)
def dD (c0 c1:XC) (l0:St->AH):St->AH:=dX E D W N (.keep j0 [] [] c0) (kX [(0,.any)] [] [] l0) (MU E D W N c1 l0) (Bx E)
def dC (c0:XC):Nat->St->AH:=CC 0 (dX E D W N (.keep [] [] [] c0) (Bx E) nX (Bx E)) nX
def aN (cc1:XC) (cc2:XC):XC:=(.z (.c 2 y1<|
 .nil)
 (.z (.m 7 0<|
 .m 8 0<|
 .u 9 8<|
 .m 10 0<|
 .u 11 10<|
 .p 12 [7,9,11] (.sliceSl 1 (.t 7) none (some (.t 9)) (some (.t 11)))<|
 .m 0 12<|
 .nil)
 (.seq (.block 0 (.loop [(0,.any)] [] [] cc2))
 (.keep [] [] [] cc1))))
def Sp (E:EB) (D:BB) (W:AJ) (K2:V->H->AH) (a:V) (Z:H):AH:=
 BG a fun n1=>
 BG a fun n2=>
 gK (DA 1 a none (some (V.int .i64 (AA n1))) (some (V.int .i64 (AA n2)))) fun u3=>
 K2 u3 Z
def DH:XC:=(.z (.c 2 y9<|
 .nil)
 .ret)
def qi (E:EB) (D:BB) (W:AJ) (Z:H):AH:=
 some ((V.bool true),Z)
def Qi (cc3:XC) (cc4:XC) (cc5:XC):XC:=(.seq (.z (.m 13 0<|
 .u 14 13<|
 .b 15 .gtr .none (.t 14) (.i 0)<|
 .nil)
 (.cond (.tmp 15) .skip
 Rf))
 (.block 1 (.z (.m 16 0<|
 .P 17 (.iaddrS 1 (.t 16) (.i 0))<|
 .l 18 (.int .u8) 17<|
 .m 3 18<|
 .nil)
 (.seq (.z (.m 19 3<|
 .b 20 .lss .none (.t 19) oG<|
 .nil)
 (.cond (.tmp 20) (.z (.m 21 0<|
 .p 22 [21] (.sliceSl 1 (.t 21) (some (.i 1)) none none)<|
 .m 0 22<|
 .nil)
 (.seq (.z (.m 23 0<|
 .u 24 23<|
 .b 25 .gtr .none (.t 24) (.i 8)<|
 .m 26 25<|
 .gA 26 true (.p 27 [0,26] y7<|
 .op (some 28) (.int .u64) [27,26] (.call 56 [(.t 27)])<|
 .p 29 [28,26] (.bin .and .none (.t 28) wY)<|
 .p 30 [29,26] (.bin .eql .none (.t 29) (.con UN))<|
 .nil) 31 26 30<|
 .nil)
 (.cond (.tmp 31) (.z (.m 32 0<|
 .p 33 [32] (.sliceSl 1 (.t 32) (some (.i 8)) none none)<|
 .m 0 33<|
 .nil)
 (.seq (.draw (.m 34 0<|
 .u 35 34<|
 .b 36 .gtr .none (.t 35) (.i 16)<|
 .m 37 36<|
 .gA 37 true (.p 38 [0,37] y7<|
 .op (some 39) (.int .u64) [38,37] (.call 56 [(.t 38)])<|
 .p 40 [0,37] y7<|
 .p 41 [40,37] (.sliceSl 1 (.t 40) (some (.i 8)) none none)<|
 .op (some 42) (.int .u64) [41,37] (.call 56 [(.t 41)])<|
 .p 43 [39,42,37] (.bin .or .none (.t 39) (.t 42))<|
 .p 44 [43,37] (.bin .and .none (.t 43) wY)<|
 .p 45 [44,37] (.bin .eql .none (.t 44) (.con UN))<|
 .nil) 46 37 45<|
 .nil) [0,1,3,7,15,31,15,79,255,511,1023,2047,4095])
 (.cond (.tmp 46) (.z (.m 47 0<|
 .p 48 [47] (.sliceSl 1 (.t 47) (some (.i 16)) none none)<|
 .m 0 48<|
 .nil)
 (.block 2 (.loop [(0,.any)] [] [] cc5)))
 .skip)))
 .skip))
 (.keep [(0,.any)] [] [] cc4)))
 .skip))
 (.keep j0 [] [] cc3)))))
def GH (E:EB) (D:BB) (W:AJ) (K1:H->AH) (K3:V->Int->H->AH) (K4:V->H->AH) (K5:V->H->AH) (a:V) (Z:H):AH:=
 BG a fun n1=>
 AI (Dt (AA 0) (AA n1)) (
 Am 1 a (AA 0) fun b2 o3=>
 Bm E Z b2 o3 fun u4=>
 Al .u8 u4 fun x5=>
 AI (Dt x5 (AA 128)) (
 gK (DA 1 a (some (V.int .i64 (AA 1))) none none) fun u6=>
 BG u6 fun n7=>
 Ax (fun c8 s9=>
 AI c8 (
 gK (DA 1 u6 (some (V.int .i64 (AA 8))) none none) fun u11=>
 BG u11 fun n12=>
 Ax (fun c13 s14=>
 AI c13 (
 gK (DA 1 u11 (some (V.int .i64 (AA 16))) none none) fun u16=>
 K5 u16 s14) (
 K4 u11 s14)) fun k15=>
 AI (Dt (AA 16) (AA n12)) (
 AV (D 56 [u11] s9) fun u17 s18=>
 Al .u64 u17 fun x19=>
 gK (DA 1 u11 (some (V.int .i64 (AA 8))) none none) fun u20=>
 AV (D 56 [u20] s18) fun u21 s22=>
 Al .u64 u21 fun x23=>
 k15 (D0 (KH .u64 (J4 .u64 x19 x23) (AA 9259542123273814144)) (AA 0)) s22) (
 k15 false s9)) (
 K4 u6 s9)) fun k10=>
 AI (Dt (AA 8) (AA n7)) (
 AV (D 56 [u6] Z) fun u24 s25=>
 Al .u64 u24 fun x26=>
 k10 (D0 (KH .u64 x26 (AA 9259542123273814144)) (AA 0)) s25) (
 k10 false Z)) (
 K3 a x5 Z)) (
 K1 Z)
def Ih (cc6:XC) (cc10:XC):XC:=(.z (.m 72 3<|
 .P 73 (.iaddrA 256 1 (.con (V.ptr 0 0)) (.t 72))<|
 .l 74 (.int .u8) 73<|
 .m 4 74<|
 .nil)
 (.z (.m 75 4<|
 .b 76 .and .none (.t 75) (.con (V.int .u8 (AA 7)))<|
 .P 77 (.conv (.toInt .i64) (.t 76))<|
 .m 5 77<|
 .nil)
 (.z (.m 78 4<|
 .b 79 .shr .none (.t 78) (.con (V.int .u64 (AA 4)))<|
 .P 80 (.iaddrA 16 2 (.con (V.ptr 1 0)) (.t 79))<|
 .O 81 (.agg [(.int .u8),(.int .u8)]) (.load (some 2) (.t 80))<|
 .pal 6 [] 110 [eM,eM]<|
 .op none (.agg [(.int .u8),(.int .u8)]) [6,81] (.store 2 (.t 6) (.t 81))<|
 .nil)
 (.z (.m 82 5<|
 .nil)
 (.block 4 (.z (.b 84 .eql .none (.t 82) (.i 2)<|
 .m 83 84<|
 .nil)
 (.cond (.tmp 83) (.seq (.seq (.draw (.m 85 0<|
 .u 86 85<|
 .b 87 .lss .none (.t 86) (.i 2)<|
 .m 88 87<|
 .gO 88 false (.p 89 [0,88] y7<|
 .p 90 [89,88] (.iaddrS 1 (.t 89) (.i 1))<|
 .op (some 91) (.int .u8) [90,88] (.load none (.t 90))<|
 .p 92 [6,88] (.faddr 0 (.t 6))<|
 .op (some 93) (.int .u8) [92,88] (.load none (.t 92))<|
 .p 94 [91,93,88] (.bin .lss .none (.t 91) (.t 93))<|
 .nil) 95 88 94<|
 .m 96 95<|
 .gO 96 false (.p 97 [6,96] (.faddr 1 (.t 6))<|
 .op (some 98) (.int .u8) [97,96] (.load none (.t 97))<|
 .p 99 [0,96] y7<|
 .p 100 [99,96] (.iaddrS 1 (.t 99) (.i 1))<|
 .op (some 101) (.int .u8) [100,96] (.load none (.t 100))<|
 .p 102 [98,101,96] (.bin .lss .none (.t 98) (.t 101))<|
 .nil) 103 96 102<|
 .nil) [0,1,3,7,15,31,63,15,143,511,1023,2047,4095,8191,4095,20479,53247,131071,262143])
 (.cond (.tmp 103) (.z (.c 2 y1<|
 .nil)
 .ret)
 .skip))
 (.ops (.m 104 0<|
 .p 105 [104] (.sliceSl 1 (.t 104) (some (.i 2)) none none)<|
 .m 0 105<|
 .nil)))
 (.z (.b 107 .eql .none (.t 82) (.i 3)<|
 .m 106 107<|
 .nil)
 (.cond (.tmp 106) (.keep [(0,.any)] [6] [(6,[(.int .u8),(.int .u8)])] cc6)
 (.z (.b 142 .eql .none (.t 82) (.i 4)<|
 .m 141 142<|
 .nil)
 (.cond (.tmp 141) (.keep [(0,.any)] [6] [(6,[(.int .u8),(.int .u8)])] cc10)
 (.z (.c 2 y1<|
 .nil)
 .ret))))))))))))
def So (E:EB) (D:BB) (W:AJ) (K6:V->Int->Int->H->AH) (K10:V->Int->Int->H->AH) (R2:V->H->AH) (a:V) (b:Int) (Z:H):AH:=
 Td b fun n1=>
 I5 (Cf n1 256) (
 Bm E Z 0 (AU 0 (GY n1 1)) fun u2=>
 Al .u8 u2 fun x3=>
 Td (bX .u8 x3 4) fun n4=>
 I5 (Cf n4 16) (
 DB E Z 1 (AU 0 (GY n4 2)) 2 fun l5=>
 BV .u8 l5 fun x8 l7=>
 BV .u8 l7 fun x11 l10=>
 AZ l10 (
 AI (D0 (B4 .i64 (KH .u8 x3 (AA 7))) (AA 2)) (
 BG a fun n12=>
 Ax (fun c13 s14=>
 Ax (fun c16 s17=>
 AI c16 (
 some ((V.bool false),s17)) (
 gK (DA 1 a (some (V.int .i64 (AA 2))) none none) fun u19=>
 R2 u19 s17)) fun k18=>
 AI c13 (
 k18 true s14) (
 Am 1 a (AA 1) fun b20 o21=>
 Bm E s14 b20 o21 fun u22=>
 Al .u8 u22 fun x23=>
 k18 (Dt x11 x23) s14)) fun k15=>
 AI (Dt (AA n12) (AA 2)) (
 k15 true Z) (
 Am 1 a (AA 1) fun b24 o25=>
 Bm E Z b24 o25 fun u26=>
 Al .u8 u26 fun x27=>
 k15 (Dt x27 x8) Z)) (
 AI (D0 (B4 .i64 (KH .u8 x3 (AA 7))) (AA 3)) (
 K6 a x8 x11 Z) (
 AI (D0 (B4 .i64 (KH .u8 x3 (AA 7))) (AA 4)) (
 K10 a x8 x11 Z) (
 some ((V.bool false),Z)))))))
def Jy:XC:=(.exit 1)
def fZ (E:EB) (D:BB) (W:AJ) (R2:V->H->AH) (a:V) (Z:H):AH:=
 R2 a Z
def L0:XC:=(.seq (.seq (.draw (.m 49 0<|
 .u 50 49<|
 .b 51 .gtr .none (.t 50) (.i 32)<|
 .m 52 51<|
 .gA 52 true (.p 53 [0,52] y7<|
 .op (some 54) (.int .u64) [53,52] (.call 56 [(.t 53)])<|
 .p 55 [0,52] y7<|
 .p 56 [55,52] (.sliceSl 1 (.t 55) (some (.i 8)) none none)<|
 .op (some 57) (.int .u64) [56,52] (.call 56 [(.t 56)])<|
 .p 58 [54,57,52] (.bin .or .none (.t 54) (.t 57))<|
 .p 59 [0,52] y7<|
 .p 60 [59,52] (.sliceSl 1 (.t 59) (some (.i 16)) none none)<|
 .op (some 61) (.int .u64) [60,52] (.call 56 [(.t 60)])<|
 .p 62 [0,52] y7<|
 .p 63 [62,52] (.sliceSl 1 (.t 62) (some (.i 24)) none none)<|
 .op (some 64) (.int .u64) [63,52] (.call 56 [(.t 63)])<|
 .p 65 [61,64,52] (.bin .or .none (.t 61) (.t 64))<|
 .p 66 [58,65,52] (.bin .or .none (.t 58) (.t 65))<|
 .p 67 [66,52] (.bin .and .none (.t 66) wY)<|
 .p 68 [67,52] (.bin .eql .none (.t 67) (.con UN))<|
 .nil) 69 52 68<|
 .nil) [0,1,3,7,15,31,15,79,255,511,15,1039,3583,15,8207,32255,65023,131071,262143,524287,1048575])
 (.cond (.tmp 69) .skip
 (.exit 2)))
 (.block 3 (.ops (.m 70 0<|
 .p 71 [70] (.sliceSl 1 (.t 70) (some (.i 32)) none none)<|
 .m 0 71<|
 .nil))))
def Lu (E:EB) (D:BB) (W:AJ) (K4:V->H->AH) (R5:V->H->AH) (a:V) (Z:H):AH:=
 BG a fun n1=>
 Ax (fun c2 s3=>
 AI c2 (
 gK (DA 1 a (some (V.int .i64 (AA 32))) none none) fun u5=>
 R5 u5 s3) (
 K4 a s3)) fun k4=>
 AI (Dt (AA 32) (AA n1)) (
 AV (D 56 [a] Z) fun u6 s7=>
 Al .u64 u6 fun x8=>
 gK (DA 1 a (some (V.int .i64 (AA 8))) none none) fun u9=>
 AV (D 56 [u9] s7) fun u10 s11=>
 Al .u64 u10 fun x12=>
 gK (DA 1 a (some (V.int .i64 (AA 16))) none none) fun u13=>
 AV (D 56 [u13] s11) fun u14 s15=>
 Al .u64 u14 fun x16=>
 gK (DA 1 a (some (V.int .i64 (AA 24))) none none) fun u17=>
 AV (D 56 [u17] s15) fun u18 s19=>
 Al .u64 u18 fun x20=>
 k4 (D0 (KH .u64 (J4 .u64 (J4 .u64 x8 x12) (J4 .u64 x16 x20)) (AA 9259542123273814144)) (AA 0)) s19) (
 k4 false Z)
def Hf (cc7:XC) (cc8:XC) (cc9:XL):XC:=(.seq (.seq (.draw (.m 108 0<|
 .u 109 108<|
 .b 110 .lss .none (.t 109) (.i 3)<|
 .m 111 110<|
 .gO 111 false (.p 112 [0,111] y7<|
 .p 113 [112,111] (.iaddrS 1 (.t 112) (.i 1))<|
 .op (some 114) (.int .u8) [113,111] (.load none (.t 113))<|
 .p 115 [6,111] (.faddr 0 (.t 6))<|
 .op (some 116) (.int .u8) [115,111] (.load none (.t 115))<|
 .p 117 [114,116,111] (.bin .lss .none (.t 114) (.t 116))<|
 .nil) 118 111 117<|
 .m 119 118<|
 .gO 119 false (.p 120 [6,119] (.faddr 1 (.t 6))<|
 .op (some 121) (.int .u8) [120,119] (.load none (.t 120))<|
 .p 122 [0,119] y7<|
 .p 123 [122,119] (.iaddrS 1 (.t 122) (.i 1))<|
 .op (some 124) (.int .u8) [123,119] (.load none (.t 123))<|
 .p 125 [121,124,119] (.bin .lss .none (.t 121) (.t 124))<|
 .nil) 126 119 125<|
 .m 127 126<|
 .gO 127 false (.p 128 [0,127] y7<|
 .p 129 [128,127] (.iaddrS 1 (.t 128) (.i 2))<|
 .op (some 130) (.int .u8) [129,127] (.load none (.t 129))<|
 .p 131 [130,127] (.bin .lss .none (.t 130) oG)<|
 .nil) 132 127 131<|
 cc9) [0,1,3,7,15,31,63,15,143,511,1023,2047,4095,8191,4095,20479,53247,131071,262143,524287,1048575,2097151,4194303,8388607,16777215,33554431,67108863,134217727,268435455,536870911,1073741823])
 (.keep Xr [] [] cc8))
 (.keep [(0,.any)] [] [] cc7))
def VJ (E:EB) (D:BB) (W:AJ) (K9:Bool->Bool->Bool->Bool->Bool->Bool->Bool->Int->V->V->Int->Int->H->AH) (a:V) (b c:Int) (Z:H):AH:=
 BG a fun n1=>
 Ax (fun c2 s3=>
 Ax (fun c5 s6=>
 Ax (fun c8 s9=>
 K9 c8 c5 c5 c2 c2 (Dt (AA n1) (AA 3)) (Dt (AA n1) (AA 3)) (AA n1) a a b c s9) fun k10=>
 AI c5 (
 k10 true s6) (
 Am 1 a (AA 2) fun b11 o12=>
 Bm E s6 b11 o12 fun u13=>
 Al .u8 u13 fun x14=>
 k10 (Dt x14 (AA 128)) s6)) fun k7=>
 AI c2 (
 k7 true s3) (
 Am 1 a (AA 1) fun b15 o16=>
 Bm E s3 b15 o16 fun u17=>
 Al .u8 u17 fun x18=>
 k7 (Dt c x18) s3)) fun k4=>
 AI (Dt (AA n1) (AA 3)) (
 k4 true Z) (
 Am 1 a (AA 1) fun b19 o20=>
 Bm E Z b19 o20 fun u21=>
 Al .u8 u21 fun x22=>
 k4 (Dt x22 b) Z)
def FM:XC:=(.ops (.m 139 0<|
 .p 140 [139] (.sliceSl 1 (.t 139) (some (.i 3)) none none)<|
 .m 0 140<|
 .nil))
def VI (E:EB) (D:BB) (W:AJ) (R2:V->H->AH) (a:V) (Z:H):AH:=
 gK (DA 1 a (some (V.int .i64 (AA 3))) none none) fun u1=>
 R2 u1 Z
def Fy:XC:=(.cond (.tmp 138) (.z (.c 2 y1<|
 .nil)
 .ret)
 .skip)
def VH (E:EB) (D:BB) (W:AJ) (K7:V->H->AH) (a:V) (b:Bool) (Z:H):AH:=
 AI b (
 some ((V.bool false),Z)) (
 K7 a Z)
def Gu:XL := .m 133 132<|
 .gO 133 false (.p 134 [0,133] y7<|
 .p 135 [134,133] (.iaddrS 1 (.t 134) (.i 2))<|
 .op (some 136) (.int .u8) [135,133] (.load none (.t 135))<|
 .p 137 [136,133] (.bin .lss .none (.con (V.int .u8 (AA 191))) (.t 136))<|
 .nil) 138 133 137<|
 .nil
def VG (E:EB) (D:BB) (W:AJ) (K8:V->Bool->H->AH) (m0 m1 m2 m3 m4 m5 m6:Bool) (m7:Int) (m8 m9:V) (a b:Int) (Z:H):AH:=
 Ax (fun c1 s2=>
 K8 m9 c1 s2) fun k3=>
 AI m0 (
 k3 true Z) (
 Am 1 m9 (AA 2) fun b4 o5=>
 Bm E Z b4 o5 fun u6=>
 Al .u8 u6 fun x7=>
 k3 (Dt (AA 191) x7) Z)
def FW (cc11:XC) (cc12:XC) (cc13:XL):XC:=(.seq (.seq (.draw (.m 143 0<|
 .u 144 143<|
 .b 145 .lss .none (.t 144) (.i 4)<|
 .m 146 145<|
 .gO 146 false (.p 147 [0,146] y7<|
 .p 148 [147,146] (.iaddrS 1 (.t 147) (.i 1))<|
 .op (some 149) (.int .u8) [148,146] (.load none (.t 148))<|
 .p 150 [6,146] (.faddr 0 (.t 6))<|
 .op (some 151) (.int .u8) [150,146] (.load none (.t 150))<|
 .p 152 [149,151,146] (.bin .lss .none (.t 149) (.t 151))<|
 .nil) 153 146 152<|
 .m 154 153<|
 .gO 154 false (.p 155 [6,154] (.faddr 1 (.t 6))<|
 .op (some 156) (.int .u8) [155,154] (.load none (.t 155))<|
 .p 157 [0,154] y7<|
 .p 158 [157,154] (.iaddrS 1 (.t 157) (.i 1))<|
 .op (some 159) (.int .u8) [158,154] (.load none (.t 158))<|
 .p 160 [156,159,154] (.bin .lss .none (.t 156) (.t 159))<|
 .nil) 161 154 160<|
 .m 162 161<|
 .gO 162 false (.p 163 [0,162] y7<|
 .p 164 [163,162] (.iaddrS 1 (.t 163) (.i 2))<|
 .op (some 165) (.int .u8) [164,162] (.load none (.t 164))<|
 .p 166 [165,162] (.bin .lss .none (.t 165) oG)<|
 .nil) 167 162 166<|
 cc13) [0,1,3,7,15,31,63,15,143,511,1023,2047,4095,8191,4095,20479,53247,131071,262143,524287,1048575,2097151,4194303,8388607,16777215,33554431,67108863,134217727,268435455,536870911,1073741823,2147483647,4294967295,8589934591,17179869183,34359738367,68719476735,137438953471,274877906943,549755813887,1099511627775,2199023255551,4398046511103])
 (.keep Xq [] [] cc12))
 (.keep [(0,.any)] [] [] cc11))
def RO (E:EB) (D:BB) (W:AJ) (K13:Bool->Bool->Bool->Bool->Bool->Bool->Bool->Int->V->V->Int->Int->H->AH) (a:V) (b c:Int) (Z:H):AH:=
 BG a fun n1=>
 Ax (fun c2 s3=>
 Ax (fun c5 s6=>
 Ax (fun c8 s9=>
 K13 c8 c5 c5 c2 c2 (Dt (AA n1) (AA 4)) (Dt (AA n1) (AA 4)) (AA n1) a a b c s9) fun k10=>
 AI c5 (
 k10 true s6) (
 Am 1 a (AA 2) fun b11 o12=>
 Bm E s6 b11 o12 fun u13=>
 Al .u8 u13 fun x14=>
 k10 (Dt x14 (AA 128)) s6)) fun k7=>
 AI c2 (
 k7 true s3) (
 Am 1 a (AA 1) fun b15 o16=>
 Bm E s3 b15 o16 fun u17=>
 Al .u8 u17 fun x18=>
 k7 (Dt c x18) s3)) fun k4=>
 AI (Dt (AA n1) (AA 4)) (
 k4 true Z) (
 Am 1 a (AA 1) fun b19 o20=>
 Bm E Z b19 o20 fun u21=>
 Al .u8 u21 fun x22=>
 k4 (Dt x22 b) Z)
def Dz:XC:=(.ops (.m 186 0<|
 .p 187 [186] (.sliceSl 1 (.t 186) (some (.i 4)) none none)<|
 .m 0 187<|
 .nil))
def RN (E:EB) (D:BB) (W:AJ) (R2:V->H->AH) (a:V) (Z:H):AH:=
 gK (DA 1 a (some (V.int .i64 (AA 4))) none none) fun u1=>
 R2 u1 Z
def ET:XC:=(.cond (.tmp 185) (.z (.c 2 y1<|
 .nil)
 .ret)
 .skip)
def RM (E:EB) (D:BB) (W:AJ) (K11:V->H->AH) (a:V) (b:Bool) (Z:H):AH:=
 AI b (
 some ((V.bool false),Z)) (
 K11 a Z)
def Ev:XL := .m 168 167<|
 .gO 168 false (.p 169 [0,168] y7<|
 .p 170 [169,168] (.iaddrS 1 (.t 169) (.i 2))<|
 .op (some 171) (.int .u8) [170,168] (.load none (.t 170))<|
 .p 172 [171,168] (.bin .lss .none (.con (V.int .u8 (AA 191))) (.t 171))<|
 .nil) 173 168 172<|
 .m 174 173<|
 .gO 174 false (.p 175 [0,174] y7<|
 .p 176 [175,174] (.iaddrS 1 (.t 175) (.i 3))<|
 .op (some 177) (.int .u8) [176,174] (.load none (.t 176))<|
 .p 178 [177,174] (.bin .lss .none (.t 177) oG)<|
 .nil) 179 174 178<|
 .m 180 179<|
 .gO 180 false (.p 181 [0,180] y7<|
 .p 182 [181,180] (.iaddrS 1 (.t 181) (.i 3))<|
 .op (some 183) (.int .u8) [182,180] (.load none (.t 182))<|
 .p 184 [183,180] (.bin .lss .none (.con (V.int .u8 (AA 191))) (.t 183))<|
 .nil) 185 180 184<|
 .nil
def RL (E:EB) (D:BB) (W:AJ) (K12:V->Bool->H->AH) (m0 m1 m2 m3 m4 m5 m6:Bool) (m7:Int) (m8 m9:V) (a b:Int) (Z:H):AH:=
 Ax (fun c1 s2=>
 Ax (fun c4 s5=>
 Ax (fun c7 s8=>
 K12 m9 c7 s8) fun k9=>
 AI c4 (
 k9 true s5) (
 Am 1 m9 (AA 3) fun b10 o11=>
 Bm E s5 b10 o11 fun u12=>
 Al .u8 u12 fun x13=>
 k9 (Dt (AA 191) x13) s5)) fun k6=>
 AI c1 (
 k6 true s2) (
 Am 1 m9 (AA 3) fun b14 o15=>
 Bm E s2 b14 o15 fun u16=>
 Al .u8 u16 fun x17=>
 k6 (Dt x17 (AA 128)) s2)) fun k3=>
 AI m0 (
 k3 true Z) (
 Am 1 m9 (AA 2) fun b18 o19=>
 Bm E Z b18 o19 fun u20=>
 Al .u8 u20 fun x21=>
 k3 (Dt (AA 191) x21) Z)
def DJ (a:V) (Z:H):St:=⟨[(0,a)],[],[],Z⟩
def gQ (Z:H):St:=⟨[],[],[],Z⟩
def Zi (a:V) (b:Int) (Z:H):St:=⟨[(0,a),(3,.int .u8 b)],[],[],Z⟩
def QP (a:V) (b c:Int) (Z:H):St:=⟨[(0,a)],[(6,(6,0))],[(6,[.int .u8 b,.int .u8 c])],Z⟩
def Zh (a:V) (b:Bool) (Z:H):St:=⟨[(0,a),(138,.bool b)],[],[],Z⟩
def UG (a:V) (b:Bool) (Z:H):St:=⟨[(0,a),(185,.bool b)],[],[],Z⟩
theorem sL (cc1:XC) (cc2:XC) (a:V) (Z:H) :
 AW E D W N (aN cc1 cc2) (DJ a Z) (Bx E) nX (Bx E) =
 Sp E D W (fun a Z=>BE (fun rec s'=>AW E D W N cc2 s' (kX [(0,.any)] [] [] rec) (dC E D W N cc1) (Bx E)) N (DJ a Z)) a Z:=by kernel_rfl
theorem sK (cc1:XC) (cc3:XC) (cc4:XC) (cc5:XC) (li2:St->AH) (a:V) (Z:H) :
 AW E D W N (Qi cc3 cc4 cc5) (DJ a Z) (kX [(0,.any)] [] [] li2) (dC E D W N cc1) (Bx E) =
 GH E D W (fun  Z=>AW E D W N cc1 (gQ Z) (Bx E) nX (Bx E)) (fun a b Z=>AW E D W N cc3 (Zi a b Z) (kX [(0,.any)] [] [] li2) (MU E D W N cc1 li2) (Bx E)) (fun a Z=>AW E D W N cc4 (DJ a Z) (dD E D W N cc3 cc1 li2) (MU E D W N cc1 li2) (Bx E)) (fun a Z=>BE (fun rec s'=>AW E D W N cc5 s' (kX [(0,.any)] [] [] rec) (dE E D W N cc4 cc3 cc1 li2) (Bx E)) N (DJ a Z)) a Z:=by kernel_rfl
theorem sJ (cc1:XC) (cc6:XC) (cc10:XC) (li2:St->AH) (a:V) (b:Int) (Z:H) :
 AW E D W N (Ih cc6 cc10) (Zi a b Z) (kX [(0,.any)] [] [] li2) (MU E D W N cc1 li2) (Bx E) =
 So E D W (fun a c d Z=>AW E D W N cc6 (QP a c d Z) (kX [(0,.any)] [] [] li2) (Gn E D W N cc1 li2) (Bx E)) (fun a c d Z=>AW E D W N cc10 (QP a c d Z) (kX [(0,.any)] [] [] li2) (Gn E D W N cc1 li2) (Bx E)) (fun a Z=>li2 (DJ a Z)) a b Z:=by kernel_rfl
theorem sI (cc1:XC) (cc3:XC) (li2:St->AH) (a:V) (Z:H) :
 AW E D W N (Jy ) (DJ a Z) (dD E D W N cc3 cc1 li2) (MU E D W N cc1 li2) (Bx E) =
 fZ E D W (fun a Z=>li2 (DJ a Z)) a Z:=by kernel_rfl
theorem sH (cc1:XC) (cc3:XC) (cc4:XC) (li2:St->AH) (li5:St->AH) (a:V) (Z:H) :
 AW E D W N (L0 ) (DJ a Z) (kX [(0,.any)] [] [] li5) (dE E D W N cc4 cc3 cc1 li2) (Bx E) =
 Lu E D W (fun a Z=>AW E D W N cc4 (DJ a Z) (dD E D W N cc3 cc1 li2) (MU E D W N cc1 li2) (Bx E)) (fun a Z=>li5 (DJ a Z)) a Z:=by kernel_rfl
theorem sG (cc1:XC) (cc7:XC) (cc8:XC) (cc9:XL) (li2:St->AH) (c:V) (d f:Int) (Z:H) (hp:Il [(6,(6,0))] (XL.pals (.m 108 0<|
 .u 109 108<|
 .b 110 .lss .none (.t 109) (.i 3)<|
 .m 111 110<|
 .gO 111 false (.p 112 [0,111] (.mov (.t 0))<|
 .p 113 [112,111] (.iaddrS 1 (.t 112) (.i 1))<|
 .op (some 114) (.int .u8) [113,111] (.load none (.t 113))<|
 .p 115 [6,111] (.faddr 0 (.t 6))<|
 .op (some 116) (.int .u8) [115,111] (.load none (.t 115))<|
 .p 117 [114,116,111] (.bin .lss .none (.t 114) (.t 116))<|
 .nil) 118 111 117<|
 .m 119 118<|
 .gO 119 false (.p 120 [6,119] (.faddr 1 (.t 6))<|
 .op (some 121) (.int .u8) [120,119] (.load none (.t 120))<|
 .p 122 [0,119] (.mov (.t 0))<|
 .p 123 [122,119] (.iaddrS 1 (.t 122) (.i 1))<|
 .op (some 124) (.int .u8) [123,119] (.load none (.t 123))<|
 .p 125 [121,124,119] (.bin .lss .none (.t 121) (.t 124))<|
 .nil) 126 119 125<|
 .m 127 126<|
 .gO 127 false (.p 128 [0,127] (.mov (.t 0))<|
 .p 129 [128,127] (.iaddrS 1 (.t 128) (.i 2))<|
 .op (some 130) (.int .u8) [129,127] (.load none (.t 129))<|
 .p 131 [130,127] (.bin .lss .none (.t 130) (.con (V.int .u8 (AA 128))))<|
 .nil) 132 127 131<|
 cc9))=true) :
 AW E D W N (Hf cc7 cc8 cc9) (QP c d f Z) (kX [(0,.any)] [] [] li2) (Gn E D W N cc1 li2) (Bx E) =
 VJ E D W (fun m0 m1 m2 m3 m4 m5 m6 m7 m8 m9 d f Z=>GB E D true true 0 cc9 25 [(132,(V.bool m0)),(127,(V.bool m1)),(126,(V.bool m2)),(119,(V.bool m3)),(118,(V.bool m4)),(111,(V.bool m5)),(110,(V.bool m6)),(109,(V.int .i64 m7)),(108,m8),(0,m9)] [(6,(6,0))] [(6,[(V.int .u8 d),(V.int .u8 f)])] Z (fun e q r Z=>(dX E D W N (.keep Xr [] [] cc8) (Lp E D W N cc7 cc1 li2) (Gn E D W N cc1 li2) (Bx E)) ⟨e,q,r,Z⟩)) c d f Z:=by
 refine Eq.trans (b:=GB E D true true 0 (.m 108 0<|
 .u 109 108<|
 .b 110 .lss .none (.t 109) (.i 3)<|
 .m 111 110<|
 .gO 111 false (.p 112 [0,111] (.mov (.t 0))<|
 .p 113 [112,111] (.iaddrS 1 (.t 112) (.i 1))<|
 .op (some 114) (.int .u8) [113,111] (.load none (.t 113))<|
 .p 115 [6,111] (.faddr 0 (.t 6))<|
 .op (some 116) (.int .u8) [115,111] (.load none (.t 115))<|
 .p 117 [114,116,111] (.bin .lss .none (.t 114) (.t 116))<|
 .nil) 118 111 117<|
 .m 119 118<|
 .gO 119 false (.p 120 [6,119] (.faddr 1 (.t 6))<|
 .op (some 121) (.int .u8) [120,119] (.load none (.t 120))<|
 .p 122 [0,119] (.mov (.t 0))<|
 .p 123 [122,119] (.iaddrS 1 (.t 122) (.i 1))<|
 .op (some 124) (.int .u8) [123,119] (.load none (.t 123))<|
 .p 125 [121,124,119] (.bin .lss .none (.t 121) (.t 124))<|
 .nil) 126 119 125<|
 .m 127 126<|
 .gO 127 false (.p 128 [0,127] (.mov (.t 0))<|
 .p 129 [128,127] (.iaddrS 1 (.t 128) (.i 2))<|
 .op (some 130) (.int .u8) [129,127] (.load none (.t 129))<|
 .p 131 [130,127] (.bin .lss .none (.t 130) (.con (V.int .u8 (AA 128))))<|
 .nil) 132 127 131<|
 cc9) 0 [(0,c)] [(6,(6,0))] [(6,[(V.int .u8 d),(V.int .u8 f)])] Z (fun e q r Z=>(dX E D W N (.keep Xr [] [] cc8) (Lp E D W N cc7 cc1 li2) (Gn E D W N cc1 li2) (Bx E)) ⟨e,q,r,Z⟩)) ?_ (by kernel_rfl)
 have hd:∀(q:Qs) (ds:List Nat) (a:AH),Il q ds=true->OF q ds a=a:=fun q ds a h=>by unfold OF;rw[h]
 exact hd _ _ _ hp
theorem sF (cc1:XC) (li2:St->AH) (a:V) (Z:H) :
 AW E D W N (FM ) (DJ a Z) (kX [(0,.any)] [] [] li2) (Gn E D W N cc1 li2) (Bx E) =
 VI E D W (fun a Z=>li2 (DJ a Z)) a Z:=by kernel_rfl
theorem sE (cc1:XC) (cc7:XC) (li2:St->AH) (a:V) (b:Bool) (Z:H) :
 AW E D W N (Fy ) (Zh a b Z) (Lp E D W N cc7 cc1 li2) (Gn E D W N cc1 li2) (Bx E) =
 VH E D W (fun a Z=>AW E D W N cc7 (DJ a Z) (kX [(0,.any)] [] [] li2) (Gn E D W N cc1 li2) (Bx E)) a b Z:=by kernel_rfl
theorem sD (cc1:XC) (cc7:XC) (cc8:XC) (li2:St->AH) (m0 m1 m2 m3 m4 m5 m6:Bool) (m7:Int) (m8 m9:V) (a b:Int) (Z:H) :
 GB E D true true 0 (Gu ) 25 [(132,(V.bool m0)),(127,(V.bool m1)),(126,(V.bool m2)),(119,(V.bool m3)),(118,(V.bool m4)),(111,(V.bool m5)),(110,(V.bool m6)),(109,(V.int .i64 m7)),(108,m8),(0,m9)] [(6,(6,0))] [(6,[(V.int .u8 a),(V.int .u8 b)])] Z (fun e q r Z=>(dX E D W N (.keep Xr [] [] cc8) (Lp E D W N cc7 cc1 li2) (Gn E D W N cc1 li2) (Bx E)) ⟨e,q,r,Z⟩) =
 VG E D W (fun c d Z=>AW E D W N cc8 (Zh c d Z) (Lp E D W N cc7 cc1 li2) (Gn E D W N cc1 li2) (Bx E)) m0 m1 m2 m3 m4 m5 m6 m7 m8 m9 a b Z:=by kernel_rfl
theorem ko (cc1:XC) (cc11:XC) (cc12:XC) (cc13:XL) (li2:St->AH) (c:V) (d f:Int) (Z:H) (hp:Il [(6,(6,0))] (XL.pals (.m 143 0<|
 .u 144 143<|
 .b 145 .lss .none (.t 144) (.i 4)<|
 .m 146 145<|
 .gO 146 false (.p 147 [0,146] (.mov (.t 0))<|
 .p 148 [147,146] (.iaddrS 1 (.t 147) (.i 1))<|
 .op (some 149) (.int .u8) [148,146] (.load none (.t 148))<|
 .p 150 [6,146] (.faddr 0 (.t 6))<|
 .op (some 151) (.int .u8) [150,146] (.load none (.t 150))<|
 .p 152 [149,151,146] (.bin .lss .none (.t 149) (.t 151))<|
 .nil) 153 146 152<|
 .m 154 153<|
 .gO 154 false (.p 155 [6,154] (.faddr 1 (.t 6))<|
 .op (some 156) (.int .u8) [155,154] (.load none (.t 155))<|
 .p 157 [0,154] (.mov (.t 0))<|
 .p 158 [157,154] (.iaddrS 1 (.t 157) (.i 1))<|
 .op (some 159) (.int .u8) [158,154] (.load none (.t 158))<|
 .p 160 [156,159,154] (.bin .lss .none (.t 156) (.t 159))<|
 .nil) 161 154 160<|
 .m 162 161<|
 .gO 162 false (.p 163 [0,162] (.mov (.t 0))<|
 .p 164 [163,162] (.iaddrS 1 (.t 163) (.i 2))<|
 .op (some 165) (.int .u8) [164,162] (.load none (.t 164))<|
 .p 166 [165,162] (.bin .lss .none (.t 165) (.con (V.int .u8 (AA 128))))<|
 .nil) 167 162 166<|
 cc13))=true) :
 AW E D W N (FW cc11 cc12 cc13) (QP c d f Z) (kX [(0,.any)] [] [] li2) (Gn E D W N cc1 li2) (Bx E) =
 RO E D W (fun m0 m1 m2 m3 m4 m5 m6 m7 m8 m9 d f Z=>GB E D true true 0 cc13 25 [(167,(V.bool m0)),(162,(V.bool m1)),(161,(V.bool m2)),(154,(V.bool m3)),(153,(V.bool m4)),(146,(V.bool m5)),(145,(V.bool m6)),(144,(V.int .i64 m7)),(143,m8),(0,m9)] [(6,(6,0))] [(6,[(V.int .u8 d),(V.int .u8 f)])] Z (fun e q r Z=>(dX E D W N (.keep Xq [] [] cc12) (Lp E D W N cc11 cc1 li2) (Gn E D W N cc1 li2) (Bx E)) ⟨e,q,r,Z⟩)) c d f Z:=by
 refine Eq.trans (b:=GB E D true true 0 (.m 143 0<|
 .u 144 143<|
 .b 145 .lss .none (.t 144) (.i 4)<|
 .m 146 145<|
 .gO 146 false (.p 147 [0,146] (.mov (.t 0))<|
 .p 148 [147,146] (.iaddrS 1 (.t 147) (.i 1))<|
 .op (some 149) (.int .u8) [148,146] (.load none (.t 148))<|
 .p 150 [6,146] (.faddr 0 (.t 6))<|
 .op (some 151) (.int .u8) [150,146] (.load none (.t 150))<|
 .p 152 [149,151,146] (.bin .lss .none (.t 149) (.t 151))<|
 .nil) 153 146 152<|
 .m 154 153<|
 .gO 154 false (.p 155 [6,154] (.faddr 1 (.t 6))<|
 .op (some 156) (.int .u8) [155,154] (.load none (.t 155))<|
 .p 157 [0,154] (.mov (.t 0))<|
 .p 158 [157,154] (.iaddrS 1 (.t 157) (.i 1))<|
 .op (some 159) (.int .u8) [158,154] (.load none (.t 158))<|
 .p 160 [156,159,154] (.bin .lss .none (.t 156) (.t 159))<|
 .nil) 161 154 160<|
 .m 162 161<|
 .gO 162 false (.p 163 [0,162] (.mov (.t 0))<|
 .p 164 [163,162] (.iaddrS 1 (.t 163) (.i 2))<|
 .op (some 165) (.int .u8) [164,162] (.load none (.t 164))<|
 .p 166 [165,162] (.bin .lss .none (.t 165) (.con (V.int .u8 (AA 128))))<|
 .nil) 167 162 166<|
 cc13) 0 [(0,c)] [(6,(6,0))] [(6,[(V.int .u8 d),(V.int .u8 f)])] Z (fun e q r Z=>(dX E D W N (.keep Xq [] [] cc12) (Lp E D W N cc11 cc1 li2) (Gn E D W N cc1 li2) (Bx E)) ⟨e,q,r,Z⟩)) ?_ (by kernel_rfl)
 have hd:∀(q:Qs) (ds:List Nat) (a:AH),Il q ds=true->OF q ds a=a:=fun q ds a h=>by unfold OF;rw[h]
 exact hd _ _ _ hp
theorem km (cc1:XC) (li2:St->AH) (a:V) (Z:H) :
 AW E D W N (Dz ) (DJ a Z) (kX [(0,.any)] [] [] li2) (Gn E D W N cc1 li2) (Bx E) =
 RN E D W (fun a Z=>li2 (DJ a Z)) a Z:=by kernel_rfl
theorem kl (cc1:XC) (cc11:XC) (li2:St->AH) (a:V) (b:Bool) (Z:H) :
 AW E D W N (ET ) (UG a b Z) (Lp E D W N cc11 cc1 li2) (Gn E D W N cc1 li2) (Bx E) =
 RM E D W (fun a Z=>AW E D W N cc11 (DJ a Z) (kX [(0,.any)] [] [] li2) (Gn E D W N cc1 li2) (Bx E)) a b Z:=by kernel_rfl
theorem kj (cc1:XC) (cc11:XC) (cc12:XC) (li2:St->AH) (m0 m1 m2 m3 m4 m5 m6:Bool) (m7:Int) (m8 m9:V) (a b:Int) (Z:H) :
 GB E D true true 0 (Ev ) 25 [(167,(V.bool m0)),(162,(V.bool m1)),(161,(V.bool m2)),(154,(V.bool m3)),(153,(V.bool m4)),(146,(V.bool m5)),(145,(V.bool m6)),(144,(V.int .i64 m7)),(143,m8),(0,m9)] [(6,(6,0))] [(6,[(V.int .u8 a),(V.int .u8 b)])] Z (fun e q r Z=>(dX E D W N (.keep Xq [] [] cc12) (Lp E D W N cc11 cc1 li2) (Gn E D W N cc1 li2) (Bx E)) ⟨e,q,r,Z⟩) =
 RL E D W (fun c d Z=>AW E D W N cc12 (UG c d Z) (Lp E D W N cc11 cc1 li2) (Gn E D W N cc1 li2) (Bx E)) m0 m1 m2 m3 m4 m5 m6 m7 m8 m9 a b Z:=by kernel_rfl
def Vi (E:EB) (D:BB) (W:AJ) (N:Nat):=qi E D W
theorem mN (Z:H) :
 AW E D W N DH (gQ Z) (Bx E) nX (Bx E)=Vi E D W N  Z:=by kernel_rfl
def il (E:EB) (D:BB) (W:AJ) (N:Nat) (R2:V->H->AH):=VI E D W R2
theorem mK (li2:St->AH) (a:V) (Z:H) :
 AW E D W N FM (DJ a Z) (kX [(0,.any)] [] [] li2) (Gn E D W N DH li2) (Bx E)=il E D W N (fun a Z=>li2 (DJ a Z)) a Z:=by
 refine(sF E D W N DH li2 a Z).trans ?_
 kernel_rfl
def ik (R2:V->H->AH):=VH E D W (il E D W N R2)
theorem mJ (li2:St->AH) (a:V) (b:Bool) (Z:H) :
 AW E D W N Fy (Zh a b Z) (Lp E D W N FM DH li2) (Gn E D W N DH li2) (Bx E)=ik E D W N (fun a Z=>li2 (DJ a Z)) a b Z:=by
 refine(sE E D W N DH FM li2 a b Z).trans ?_
 simp only[mK]
 kernel_rfl
def ij (R2:V->H->AH):=VG E D W (ik E D W N R2)
theorem mI (li2:St->AH) (m0 m1 m2 m3 m4 m5 m6:Bool) (m7:Int) (m8 m9:V) (a b:Int) (Z:H) :
 GB E D true true 0 Gu 25 [(132,(V.bool m0)),(127,(V.bool m1)),(126,(V.bool m2)),(119,(V.bool m3)),(118,(V.bool m4)),(111,(V.bool m5)),(110,(V.bool m6)),(109,(V.int .i64 m7)),(108,m8),(0,m9)] [(6,(6,0))] [(6,[(V.int .u8 a),(V.int .u8 b)])] Z (fun e q r Z=>(dX E D W N (.keep Xr [] [] Fy) (Lp E D W N FM DH li2) (Gn E D W N DH li2) (Bx E)) ⟨e,q,r,Z⟩)=ij E D W N (fun c Z=>li2 (DJ c Z)) m0 m1 m2 m3 m4 m5 m6 m7 m8 m9 a b Z:=by
 refine(sD E D W N DH FM Fy li2 m0 m1 m2 m3 m4 m5 m6 m7 m8 m9 a b Z).trans ?_
 simp only[mJ]
 kernel_rfl
def Vg (R2:V->H->AH):=VJ E D W (ij E D W N R2)
theorem mL (li2:St->AH) (a:V) (b c:Int) (Z:H) :
 AW E D W N (Hf FM Fy Gu) (QP a b c Z) (kX [(0,.any)] [] [] li2) (Gn E D W N DH li2) (Bx E)=Vg E D W N (fun a Z=>li2 (DJ a Z)) a b c Z:=by
 refine(sG E D W N DH FM Fy Gu li2 a b c Z (by kernel_rfl)).trans ?_
 simp only[mI]
 kernel_rfl
def aB (E:EB) (D:BB) (W:AJ) (N:Nat) (R2:V->H->AH):=RN E D W R2
theorem eD (li2:St->AH) (a:V) (Z:H) :
 AW E D W N Dz (DJ a Z) (kX [(0,.any)] [] [] li2) (Gn E D W N DH li2) (Bx E)=aB E D W N (fun a Z=>li2 (DJ a Z)) a Z:=by
 refine(km E D W N DH li2 a Z).trans ?_
 kernel_rfl
def aA (R2:V->H->AH):=RM E D W (aB E D W N R2)
theorem eC (li2:St->AH) (a:V) (b:Bool) (Z:H) :
 AW E D W N ET (UG a b Z) (Lp E D W N Dz DH li2) (Gn E D W N DH li2) (Bx E)=aA E D W N (fun a Z=>li2 (DJ a Z)) a b Z:=by
 refine(kl E D W N DH Dz li2 a b Z).trans ?_
 simp only[eD]
 kernel_rfl
def Zx (R2:V->H->AH):=RL E D W (aA E D W N R2)
theorem eB (li2:St->AH) (m0 m1 m2 m3 m4 m5 m6:Bool) (m7:Int) (m8 m9:V) (a b:Int) (Z:H) :
 GB E D true true 0 Ev 25 [(167,(V.bool m0)),(162,(V.bool m1)),(161,(V.bool m2)),(154,(V.bool m3)),(153,(V.bool m4)),(146,(V.bool m5)),(145,(V.bool m6)),(144,(V.int .i64 m7)),(143,m8),(0,m9)] [(6,(6,0))] [(6,[(V.int .u8 a),(V.int .u8 b)])] Z (fun e q r Z=>(dX E D W N (.keep Xq [] [] ET) (Lp E D W N Dz DH li2) (Gn E D W N DH li2) (Bx E)) ⟨e,q,r,Z⟩)=Zx E D W N (fun c Z=>li2 (DJ c Z)) m0 m1 m2 m3 m4 m5 m6 m7 m8 m9 a b Z:=by
 refine(kj E D W N DH Dz ET li2 m0 m1 m2 m3 m4 m5 m6 m7 m8 m9 a b Z).trans ?_
 simp only[eC]
 kernel_rfl
def RW (R2:V->H->AH):=RO E D W (Zx E D W N R2)
theorem eE (li2:St->AH) (a:V) (b c:Int) (Z:H) :
 AW E D W N (FW Dz ET Ev) (QP a b c Z) (kX [(0,.any)] [] [] li2) (Gn E D W N DH li2) (Bx E)=RW E D W N (fun a Z=>li2 (DJ a Z)) a b c Z:=by
 refine(ko E D W N DH Dz ET Ev li2 a b c Z (by kernel_rfl)).trans ?_
 simp only[eB]
 kernel_rfl
def Vh (R2:V->H->AH):=So E D W (Vg E D W N R2) (RW E D W N R2) R2
theorem mM (li2:St->AH) (a:V) (b:Int) (Z:H) :
 AW E D W N (Ih (Hf FM Fy Gu) (FW Dz ET Ev)) (Zi a b Z) (kX [(0,.any)] [] [] li2) (MU E D W N DH li2) (Bx E)=Vh E D W N (fun a Z=>li2 (DJ a Z)) a b Z:=by
 refine(sJ E D W N DH (Hf FM Fy Gu) (FW Dz ET Ev) li2 a b Z).trans ?_
 simp only[mL,eE]
 kernel_rfl
def TF (E:EB) (D:BB) (W:AJ) (N:Nat) (R2:V->H->AH):=fZ E D W R2
theorem Zr (li2:St->AH) (a:V) (Z:H) :
 AW E D W N Jy (DJ a Z) (dD E D W N (Ih (Hf FM Fy Gu) (FW Dz ET Ev)) DH li2) (MU E D W N DH li2) (Bx E)=TF E D W N (fun a Z=>li2 (DJ a Z)) a Z:=by
 refine(sI E D W N DH (Ih (Hf FM Fy Gu) (FW Dz ET Ev)) li2 a Z).trans ?_
 kernel_rfl
def S9 (R2:V->H->AH) (n:Nat):V->H->AH:=
 Nat.rec (fun _ _=>none) (fun _ ih=>Lu E D W (TF E D W N R2) ih) n
theorem lC (li2:St->AH) (n:Nat):∀(a:V) (Z:H),
 BE (fun rec s'=>AW E D W N L0 s' (kX [(0,.any)] [] [] rec) (dE E D W N Jy (Ih (Hf FM Fy Gu) (FW Dz ET Ev)) DH li2) (Bx E)) n (DJ a Z)=S9 E D W N (fun a Z=>li2 (DJ a Z)) n a Z:=by
 induction n with
 | zero=>intro a Z;rfl
 | succ n ihn=>
  intro a Z
  rw[BP]
  refine(sH E D W N DH (Ih (Hf FM Fy Gu) (FW Dz ET Ev)) Jy li2 (BE (fun rec s'=>AW E D W N L0 s' (kX [(0,.any)] [] [] rec) (dE E D W N Jy (Ih (Hf FM Fy Gu) (FW Dz ET Ev)) DH li2) (Bx E)) n) a Z).trans ?_
  simp only[ihn,Zr]
  kernel_rfl
def KV (n:Nat):V->H->AH:=
 Nat.rec (fun _ _=>none) (fun _ ih=>GH E D W (Vi E D W N ) (Vh E D W N ih) (TF E D W N ih) (S9 E D W N ih N)) n
theorem lD (n:Nat):∀(a:V) (Z:H),
 BE (fun rec s'=>AW E D W N (Qi (Ih (Hf FM Fy Gu) (FW Dz ET Ev)) Jy L0) s' (kX [(0,.any)] [] [] rec) (dC E D W N DH) (Bx E)) n (DJ a Z)=KV E D W N n a Z:=by
 induction n with
 | zero=>intro a Z;rfl
 | succ n ihn=>
  intro a Z
  rw[BP]
  refine(sK E D W N DH (Ih (Hf FM Fy Gu) (FW Dz ET Ev)) Jy L0 (BE (fun rec s'=>AW E D W N (Qi (Ih (Hf FM Fy Gu) (FW Dz ET Ev)) Jy L0) s' (kX [(0,.any)] [] [] rec) (dC E D W N DH) (Bx E)) n) a Z).trans ?_
  simp only[ihn,mN,mM,Zr,lC]
  kernel_rfl
def im:=Sp E D W (KV E D W N N)
theorem mO (a:V) (Z:H) :
 AW E D W N (aN DH (Qi (Ih (Hf FM Fy Gu) (FW Dz ET Ev)) Jy L0)) (DJ a Z) (Bx E) nX (Bx E)=im E D W N a Z:=by
 refine(sL E D W N DH (Qi (Ih (Hf FM Fy Gu) (FW Dz ET Ev)) Jy L0)  a Z).trans ?_
 simp only[lD]
 kernel_rfl
def nw (args:List V) (Z:H):AH:=
 AP args fun x1 l2=>
 AZ l2 (
 im E D W N x1 Z)
def A46:Eg:=⟨188,[.any],[(.tmp 2)],(aN DH (Qi (Ih (Hf FM Fy Gu) (FW Dz ET Ev)) Jy L0))⟩
theorem AAK (args:List V) (Z:H):CR E D W N A46 args Z=nw E D W N args Z:=by
 unfold nw
 simp only[<-mO]
 kernel_rfl
def vO (cc1:XC) (cc2:XC):XC:=(.z (.P 1 (.box 68 (.t 0))<|
 .c 2 y1<|
 .nil)
 (.seq (.z (.f 3 0 1<|
 .l 4 .i 3<|
 .nil)
 (.block 0 (.z (.b 6 .eql .none (.t 4) (.i 1)<|
 .m 5 6<|
 .nil)
 (.cond (.tmp 5) (.z (.c 2 y9<|
 .nil)
 .ret)
 (.z (.b 8 .eql .none (.t 4) (.i 6)<|
 .m 7 8<|
 .nil)
 (.cond (.tmp 7) (.z (.f 9 1 1<|
 .l 10 .str 9<|
 .b 11 .eql .none (.t 10) (.con (V.str ⟨1,91⟩))<|
 .m 2 11<|
 .nil)
 .ret)
 (.z (.b 13 .eql .none (.t 4) (.i 5)<|
 .m 12 13<|
 .nil)
 (.cond (.tmp 12) (.z (.f 14 1 1<|
 .l 15 .str 14<|
 .nil)
 (.block 1 (.seq (.z (.b 17 .eql .none (.t 15) (.con (V.str ⟨7,22026814072246082⟩))<|
 .m 16 17<|
 .nil)
 (.cond (.tmp 16) .skip
 (.z (.b 18 .eql .none (.t 15) wA<|
 .m 16 18<|
 .nil)
 (.cond (.tmp 16) .skip
 (.z (.b 19 .eql .none (.t 15) wW<|
 .m 16 19<|
 .nil)
 (.cond (.tmp 16) .skip
 (.z (.b 20 .eql .none (.t 15) (.con (V.str ⟨7,23157120498421321⟩))<|
 .m 16 20<|
 .nil)
 (.cond (.tmp 16) .skip
 (.z (.b 21 .eql .none (.t 15) (.con (V.str ⟨5,361940403023⟩))<|
 .m 16 21<|
 .nil)
 (.cond (.tmp 16) .skip
 (.z (.b 22 .eql .none (.t 15) wX<|
 .m 16 22<|
 .nil)
 (.cond (.tmp 16) .skip
 (.z (.b 23 .eql .none (.t 15) wT<|
 .m 16 23<|
 .nil)
 (.cond (.tmp 16) .skip
 (.z (.b 24 .eql .none (.t 15) (.con (V.str ⟨3,5522771⟩))<|
 .m 16 24<|
 .nil)
 (.cond (.tmp 16) .skip
 (.ops (.b 25 .eql .none (.t 15) (.con (V.str ⟨6,76155295057987⟩))<|
 .m 16 25<|
 .nil))))))))))))))))))
 (.keep [(16,.bool)] [] [] cc2))))
 .skip))))))))
 (.keep [] [] [] cc1)))
def ZO (E:EB) (D:BB) (W:AJ) (K1:H->AH) (K2:Bool->H->AH) (a:Int) (b:BS) (c:Int) (Z:H):AH:=
 PO [.int .i64 a,.str b,.int .i64 c] Z fun s1=>
 Bm E s1 (H.next Z) 0 fun u2=>
 Al .i64 u2 fun x3=>
 AI (D0 x3 (AA 1)) (
 some ((V.bool true),s1)) (
 AI (D0 x3 (AA 6)) (
 Bm E s1 (H.next Z) 1 fun u4=>
 DE u4 fun x5=>
 some ((V.bool (BS.beq x5 (BS.mk 1 91))),s1)) (
 AI (D0 x3 (AA 5)) (
 Bm E s1 (H.next Z) 1 fun u6=>
 DE u6 fun x7=>
 AI (BS.beq x7 (BS.mk 7 22026814072246082)) (
 K2 (BS.beq x7 (BS.mk 7 22026814072246082)) s1) (
 AI (BS.beq x7 (BS.mk 4 1280070990)) (
 K2 (BS.beq x7 (BS.mk 4 1280070990)) s1) (
 AI (BS.beq x7 (BS.mk 10 488440487847103610377301)) (
 K2 (BS.beq x7 (BS.mk 10 488440487847103610377301)) s1) (
 AI (BS.beq x7 (BS.mk 7 23157120498421321)) (
 K2 (BS.beq x7 (BS.mk 7 23157120498421321)) s1) (
 AI (BS.beq x7 (BS.mk 5 361940403023)) (
 K2 (BS.beq x7 (BS.mk 5 361940403023)) s1) (
 AI (BS.beq x7 (BS.mk 10 322399817400452109389381)) (
 K2 (BS.beq x7 (BS.mk 10 322399817400452109389381)) s1) (
 AI (BS.beq x7 (BS.mk 8 4990918871747741011)) (
 K2 (BS.beq x7 (BS.mk 8 4990918871747741011)) s1) (
 AI (BS.beq x7 (BS.mk 3 5522771)) (
 K2 (BS.beq x7 (BS.mk 3 5522771)) s1) (
 K2 (BS.beq x7 (BS.mk 6 76155295057987)) s1))))))))) (
 K1 s1)))
def vN:XC:=(.z (.c 2 y1<|
 .nil)
 .ret)
def ZN (E:EB) (D:BB) (W:AJ) (Z:H):AH:=
 some ((V.bool false),Z)
def vM:XC:=(.cond (.tmp 16) (.z (.c 2 y9<|
 .nil)
 .ret)
 .skip)
def qh (E:EB) (D:BB) (W:AJ) (K1:H->AH) (a:Bool) (Z:H):AH:=
 AI a (
 some ((V.bool true),Z)) (
 K1 Z)
def ig (E:EB) (D:BB) (W:AJ) (N:Nat):=ZN E D W
def Zw:=qh E D W (ig E D W N )
def uQ (args:List V) (Z:H):AH:=
 AP args fun x1 l2=>
 B7 x1 fun l3=>
 BV .i64 l3 fun x6 l5=>
 EY l5 fun x9 l8=>
 BV .i64 l8 fun x12 l11=>
 AZ l11 (
 AZ l2 (
 ZO E D W (ig E D W N ) (Zw E D W N ) x6 x9 x12 Z))
def A47:Eg:=⟨26,[y4],[(.tmp 2)],(vO vN vM)⟩
theorem AAJ (args:List V) (Z:H):CR E D W N A47 args Z=uQ E D W N args Z:=by kernel_rfl
def QY:List BR:=[⟨(some 31),.faddr 1 (.tmp 9),none⟩,⟨(some 32),.load none (.tmp 31),none⟩,⟨(some 33),.faddr 0 (.tmp 8),none⟩,⟨none,.store 1 (.tmp 33) (.con (V.int .i64 (AA 11))),none⟩,⟨(some 34),.faddr 1 (.tmp 8),none⟩,⟨none,.store 1 (.tmp 34) (.tmp 32),none⟩]
def TJ:List DP:=[⟨0,[9]⟩,⟨1,[31]⟩,⟨0,[8]⟩,⟨4,[33]⟩,⟨15,[8]⟩,⟨31,[34,32]⟩]
def vL (cc1:XC):XC:=(.z (.p 4 [] (.alloc 39 [y0,y3,y1,y0,y0,y1,y1,y1,y1,y0,y0,V.nils,V.nils,y0,y1,y0])<|
 .c 5 y1<|
 .nil)
 (.z (.m 11 0<|
 .k 12 (.tup [Rh,.bool]) 57 [(.t 11)]<|
 .m 10 12<|
 .P 13 (.extract 0 (.t 10))<|
 .P 14 (.extract 1 (.t 10))<|
 .pal 6 [] 33 [y1,y0,y0]<|
 .op none Rh [6,13] (.store 3 (.t 6) (.t 13))<|
 .m 7 14<|
 .nil)
 (.seq (.z (.m 15 7<|
 .P 16 (.un .not (.t 15))<|
 .nil)
 (.cond (.tmp 16) (.z (.op (some 17) y2 [] (.build [y0,y3,y1,y0,y0,y1,y1,y1,y1,y0,y0,V.nils,V.nils,y0,y1,y0] [])<|
 .op none y2 [4,17] (.store 16 (.t 4) (.t 17))<|
 .c 5 y1<|
 .nil)
 .ret)
 .skip))
 (.z (.O 18 Rh (.load (some 3) (.t 6))<|
 .op (some 19) y2 [18] (.build [y0,y3,y1,y0,y0,y1,y1,y1,y1,y0,y0,V.nils,V.nils,y0,y1,y0] [(2,3,(.t 18))])<|
 .p 8 [] (.alloc 39 [y0,y3,y1,y0,y0,y1,y1,y1,y1,y0,y0,V.nils,V.nils,y0,y1,y0])<|
 .op none y2 [8,19] (.store 16 (.t 8) (.t 19))<|
 .nil)
 (.seq (.z (.m 20 0<|
 .n 21 20<|
 .f 22 0 21<|
 .k 23 y4 18 [(.t 22)]<|
 .p 9 [] (.alloc 68 [y0,y3,y0])<|
 .op none y4 [9,23] (.store 3 (.t 9) (.t 23))<|
 .nil)
 (.z (.f 24 0 9<|
 .l 25 .i 24<|
 .b 26 .eql .none (.t 25) (.i 1)<|
 .nil)
 (.cond (.tmp 26) (.z (.m 27 0<|
 .n 28 27<|
 .f 29 0 28<|
 .k 30 y4 37 [(.t 29)]<|
 .nil)
 (.seq (.keep [(4,.ptr),(8,.ptr),(9,.ptr)] [] [] (.gdraw QY TJ [(4,.ptr),(8,.ptr)]))
 (.z (.O 35 y2 (.load (some 16) (.t 8))<|
 .op none y2 [4,35] (.store 16 (.t 4) (.t 35))<|
 .c 5 y9<|
 .nil)
 .ret)))
 .skip)))
 (.seq (.block 0 (.z (.m 44 0<|
 .n 45 44<|
 .f 46 0 45<|
 .k 47 .bool 38 [(.t 46),(.con (V.str ⟨7,22026814072246082⟩))]<|
 .m 43 47<|
 .nil)
 (.cond (.tmp 43) (.ops (.f 48 0 8<|
 .op none .any [48] (.store 1 (.t 48) (.i 1))<|
 .nil))
 (.z (.m 50 0<|
 .n 51 50<|
 .f 52 0 51<|
 .k 53 .bool 38 [(.t 52),wA]<|
 .m 49 53<|
 .nil)
 (.cond (.tmp 49) (.ops (.f 54 0 8<|
 .op none .any [54] (.store 1 (.t 54) (.i 4))<|
 .nil))
 (.z (.m 56 0<|
 .n 57 56<|
 .f 58 0 57<|
 .k 59 .bool 38 [(.t 58),wW]<|
 .m 55 59<|
 .nil)
 (.cond (.tmp 55) (.z (.f 60 0 8<|
 .op none .any [60] (.store 1 (.t 60) (.i 6))<|
 .nil)
 (.ops (.m 61 0<|
 .f 62 5 8<|
 .k 63 .bool 58 [(.t 61),(.t 62)]<|
 .m 7 63<|
 .nil)))
 (.z (.m 65 0<|
 .n 66 65<|
 .f 67 0 66<|
 .k 68 .bool 38 [(.t 67),(.con (V.str ⟨7,23157120498421321⟩))]<|
 .m 64 68<|
 .nil)
 (.cond (.tmp 64) (.z (.f 69 0 8<|
 .op none .any [69] (.store 1 (.t 69) (.i 2))<|
 .nil)
 (.ops (.m 70 0<|
 .n 71 70<|
 .f 72 0 71<|
 .k 73 .bool 38 [(.t 72),oF]<|
 .P 74 (.un .not (.t 73))<|
 .m 75 74<|
 .gO 75 false (.p 76 [0,75] y7<|
 .p 77 [8,75] (.faddr 5 (.t 8))<|
 .op (some 78) .bool [76,77,75] (.call 59 [(.t 76),(.t 77)])<|
 .p 79 [78,75] (.mov (.t 78))<|
 .grp 79 true (.p 80 [0,79] y7<|
 .p 81 [79] (.buildSlice 9 1 [y3] [(0,1,(.con (V.str ⟨1,41⟩)))])<|
 .op (some 82) .bool [80,81,79] (.call 16 [(.t 80),(.t 81)])<|
 .nil) 83 [79,82,75] (.t 79) (.t 82) (.con y1)<|
 .nil) 84 75 83<|
 .m 7 84<|
 .nil)))
 (.z (.m 86 0<|
 .n 87 86<|
 .f 88 0 87<|
 .k 89 .bool 38 [(.t 88),(.con (V.str ⟨5,361940403023⟩))]<|
 .m 85 89<|
 .nil)
 (.cond (.tmp 85) (.z (.f 90 0 8<|
 .op none .any [90] (.store 1 (.t 90) (.i 5))<|
 .nil)
 (.ops (.m 91 0<|
 .p 92 [] (.buildSlice 9 1 [y3] [(0,1,(.con (V.str ⟨6,78401563153491⟩)))])<|
 .k 93 .bool 16 [(.t 91),(.t 92)]<|
 .m 94 93<|
 .gA 94 true (.p 95 [0,94] y7<|
 .p 96 [8,94] (.faddr 5 (.t 8))<|
 .op (some 97) .bool [95,96,94] (.call 58 [(.t 95),(.t 96)])<|
 .nil) 98 94 97<|
 .m 7 98<|
 .nil)))
 (.z (.m 100 0<|
 .n 101 100<|
 .f 102 0 101<|
 .k 103 .bool 38 [(.t 102),wX]<|
 .m 99 103<|
 .nil)
 (.cond (.tmp 99) (.z (.f 104 0 8<|
 .op none .any [104] (.store 1 (.t 104) (.i 3))<|
 .nil)
 (.ops (.m 105 0<|
 .k 106 .bool 60 [(.t 105),(.t 8)]<|
 .m 7 106<|
 .nil)))
 (.z (.m 108 0<|
 .n 109 108<|
 .f 110 0 109<|
 .k 111 .bool 38 [(.t 110),(.con (V.str ⟨3,5522771⟩))]<|
 .m 107 111<|
 .nil)
 (.cond (.tmp 107) (.z (.f 112 0 8<|
 .op none .any [112] (.store 1 (.t 112) (.i 8))<|
 .nil)
 (.ops (.m 113 0<|
 .m 114 1<|
 .k 115 .bool 61 [(.t 113),(.t 8),(.t 114)]<|
 .m 7 115<|
 .nil)))
 (.z (.m 117 0<|
 .n 118 117<|
 .f 119 0 118<|
 .k 120 .bool 38 [(.t 119),(.con (V.str ⟨6,76155295057987⟩))]<|
 .m 116 120<|
 .nil)
 (.cond (.tmp 116) (.z (.f 121 0 8<|
 .op none .any [121] (.store 1 (.t 121) (.i 9))<|
 .nil)
 (.ops (.m 122 0<|
 .m 123 1<|
 .k 124 .bool 61 [(.t 122),(.t 8),(.t 123)]<|
 .m 7 124<|
 .nil)))
 (.z (.m 126 0<|
 .n 127 126<|
 .f 128 0 127<|
 .k 129 .bool 38 [(.t 128),wT]<|
 .m 125 129<|
 .nil)
 (.cond (.tmp 125) (.ops (.m 130 0<|
 .m 131 1<|
 .k 132 .bool 62 [(.t 130),(.t 8),(.t 131)]<|
 .m 7 132<|
 .nil))
 (.ops (.m 36 0<|
 .m 37 0<|
 .n 38 37<|
 .f 39 0 38<|
 .k 40 y4 18 [(.t 39)]<|
 .O 41 .i (.field 2 none (.t 40))<|
 .k 42 .bool 36 [(.t 36),(.t 41),(.i 7)]<|
 .m 7 42<|
 .nil)))))))))))))))))))))
 (.keep [(4,.ptr),(7,.bool),(8,.ptr)] [] [] cc1)))))))
def Gr (K1:Nat->Nat->Bool->Nat->Nat->H->AH) (a b:Nat) (c:Int) (Z:H):AH:=
 let s1:=CO Z (.cells [.int .i64 (AA 0),.str ⟨0,0⟩,.bool false,.int .i64 (AA 0),.int .i64 (AA 0),.bool false,.bool false,.bool false,.bool false,.int .i64 (AA 0),.int .i64 (AA 0),V.nils,V.nils,.int .i64 (AA 0),.bool false,.int .i64 (AA 0)]);
 AV (D 57 [.ptr a b] s1) fun u2 s3=>
 Cw u2 fun l4=>
 AP l4 fun x5 l6=>
 B7 x5 fun l7=>
 DQ l7 fun x10 l9=>
 BV .i64 l9 fun x13 l12=>
 BV .i64 l12 fun x16 l15=>
 AZ l15 (
 DQ l6 fun x19 l18=>
 AZ l18 (
 AI (not x19) (
 Dk 16 (H.next Z) 0 (V.agg [.int .i64 (AA 0),.str (BS.mk 0 0),.bool false,.int .i64 (AA 0),.int .i64 (AA 0),.bool false,.bool false,.bool false,.bool false,.int .i64 (AA 0),.int .i64 (AA 0),V.nils,V.nils,.int .i64 (AA 0),.bool false,.int .i64 (AA 0)]) s3 fun s20=>
 DB E s20 (H.next Z) 0 16 fun u21=>
 some ((V.tup [.agg u21,.bool false]),s20)) (
 let s22:=CO s3 (.cells [.int .i64 (AA 0),.str ⟨0,0⟩,.bool false,.int .i64 (AA 0),.int .i64 (AA 0),.bool false,.bool false,.bool false,.bool false,.int .i64 (AA 0),.int .i64 (AA 0),V.nils,V.nils,.int .i64 (AA 0),.bool false,.int .i64 (AA 0)]);
 Dk 16 (H.next s3) 0 (V.agg [.int .i64 (AA 0),.str (BS.mk 0 0),.bool x10,.int .i64 x13,.int .i64 x16,.bool false,.bool false,.bool false,.bool false,.int .i64 (AA 0),.int .i64 (AA 0),V.nils,V.nils,.int .i64 (AA 0),.bool false,.int .i64 (AA 0)]) s22 fun s23=>
 AV (D 18 [.ptr a b] s23) fun u24 s25=>
 B7 u24 fun l26=>
 BV .i64 l26 fun x29 l28=>
 EY l28 fun x32 l31=>
 BV .i64 l31 fun x35 l34=>
 AZ l34 (
 let s36:=CO s25 (.cells [.int .i64 (AA 0),.str ⟨0,0⟩,.int .i64 (AA 0)]);
 Dk 3 (H.next s25) 0 (V.agg [.int .i64 x29,.str x32,.int .i64 x35]) s36 fun s37=>
 Bm E s37 (H.next s25) 0 fun u38=>
 Al .i64 u38 fun x39=>
 AI (D0 x39 (AA 1)) (
 AV (D 37 [.ptr a b] s37) fun u40 s41=>
 B7 u40 fun l42=>
 BV .i64 l42 fun x45 l44=>
 EY l44 fun x48 l47=>
 BV .i64 l47 fun x51 l50=>
 AZ l50 (
 Ee (W QY TJ [(4,.ptr (H.next Z) 0),(8,.ptr (H.next s3) 0),(9,.ptr (H.next s25) 0)] s41) fun e52 s53=>
 E0 e52 4 fun u54=>
 Br u54 fun b55 o56=>
 E0 e52 8 fun u57=>
 Br u57 fun b58 o59=>
 DB E s53 b58 o59 16 fun l60=>
 BV .i64 l60 fun x63 l62=>
 EY l62 fun x66 l65=>
 DQ l65 fun x69 l68=>
 BV .i64 l68 fun x72 l71=>
 BV .i64 l71 fun x75 l74=>
 DQ l74 fun x78 l77=>
 DQ l77 fun x81 l80=>
 DQ l80 fun x84 l83=>
 DQ l83 fun x87 l86=>
 BV .i64 l86 fun x90 l89=>
 BV .i64 l89 fun x93 l92=>
 AP l92 fun x94 l95=>
 AP l95 fun x96 l97=>
 BV .i64 l97 fun x100 l99=>
 DQ l99 fun x103 l102=>
 BV .i64 l102 fun x106 l105=>
 AZ l105 (
 Dk 16 b55 o56 (V.agg [.int .i64 x63,.str x66,.bool x69,.int .i64 x72,.int .i64 x75,.bool x78,.bool x81,.bool x84,.bool x87,.int .i64 x90,.int .i64 x93,x94,x96,.int .i64 x100,.bool x103,.int .i64 x106]) s53 fun s107=>
 DB E s107 b55 o56 16 fun u108=>
 some ((V.tup [.agg u108,.bool true]),s107)))) (
 AV (D 38 [.ptr a b,.str (BS.mk 7 22026814072246082)] s37) fun u109 s110=>
 AT u109 fun x111=>
 AI x111 (
 Dk 1 (H.next s3) 0 (V.int .i64 (AA 1)) s110 fun s112=>
 K1 (H.next Z) 0 x19 (H.next s3) 0 s112) (
 AV (D 38 [.ptr a b,.str (BS.mk 4 1280070990)] s110) fun u113 s114=>
 AT u113 fun x115=>
 AI x115 (
 Dk 1 (H.next s3) 0 (V.int .i64 (AA 4)) s114 fun s116=>
 K1 (H.next Z) 0 x19 (H.next s3) 0 s116) (
 AV (D 38 [.ptr a b,.str (BS.mk 10 488440487847103610377301)] s114) fun u117 s118=>
 AT u117 fun x119=>
 AI x119 (
 Dk 1 (H.next s3) 0 (V.int .i64 (AA 6)) s118 fun s120=>
 AV (D 58 [.ptr a b,.ptr (H.next s3) 5] s120) fun u121 s122=>
 AT u121 fun x123=>
 K1 (H.next Z) 0 x123 (H.next s3) 0 s122) (
 AV (D 38 [.ptr a b,.str (BS.mk 7 23157120498421321)] s118) fun u124 s125=>
 AT u124 fun x126=>
 AI x126 (
 Dk 1 (H.next s3) 0 (V.int .i64 (AA 2)) s125 fun s127=>
 AV (D 38 [.ptr a b,.str (BS.mk 1 40)] s127) fun u128 s129=>
 AT u128 fun x130=>
 Ax (fun c131 s132=>
 K1 (H.next Z) 0 c131 (H.next s3) 0 s132) fun k133=>
 AI (not x130) (
 k133 true s129) (
 AV (D 59 [.ptr a b,.ptr (H.next s3) 5] s129) fun u134 s135=>
 AT u134 fun x136=>
 Ax (fun c137 s138=>
 k133 c137 s138) fun k139=>
 AI x136 (
 let s140:=CO s135 (.cells [.str (BS.mk 1 41)]);
 AV (D 16 [.ptr a b,.sl (H.next s135) 0 1 (.ex 1)] s140) fun u141 s142=>
 AT u141 fun x143=>
 k139 x143 s142) (
 k139 false s135))) (
 AV (D 38 [.ptr a b,.str (BS.mk 5 361940403023)] s125) fun u144 s145=>
 AT u144 fun x146=>
 AI x146 (
 Dk 1 (H.next s3) 0 (V.int .i64 (AA 5)) s145 fun s147=>
 let s148:=CO s147 (.cells [.str (BS.mk 6 78401563153491)]);
 AV (D 16 [.ptr a b,.sl (H.next s147) 0 1 (.ex 1)] s148) fun u149 s150=>
 AT u149 fun x151=>
 Ax (fun c152 s153=>
 K1 (H.next Z) 0 c152 (H.next s3) 0 s153) fun k154=>
 AI x151 (
 AV (D 58 [.ptr a b,.ptr (H.next s3) 5] s150) fun u155 s156=>
 AT u155 fun x157=>
 k154 x157 s156) (
 k154 false s150)) (
 AV (D 38 [.ptr a b,.str (BS.mk 10 322399817400452109389381)] s145) fun u158 s159=>
 AT u158 fun x160=>
 AI x160 (
 Dk 1 (H.next s3) 0 (V.int .i64 (AA 3)) s159 fun s161=>
 AV (D 60 [.ptr a b,.ptr (H.next s3) 0] s161) fun u162 s163=>
 AT u162 fun x164=>
 K1 (H.next Z) 0 x164 (H.next s3) 0 s163) (
 AV (D 38 [.ptr a b,.str (BS.mk 3 5522771)] s159) fun u165 s166=>
 AT u165 fun x167=>
 AI x167 (
 Dk 1 (H.next s3) 0 (V.int .i64 (AA 8)) s166 fun s168=>
 AV (D 61 [.ptr a b,.ptr (H.next s3) 0,.int .i64 c] s168) fun u169 s170=>
 AT u169 fun x171=>
 K1 (H.next Z) 0 x171 (H.next s3) 0 s170) (
 AV (D 38 [.ptr a b,.str (BS.mk 6 76155295057987)] s166) fun u172 s173=>
 AT u172 fun x174=>
 AI x174 (
 Dk 1 (H.next s3) 0 (V.int .i64 (AA 9)) s173 fun s175=>
 AV (D 61 [.ptr a b,.ptr (H.next s3) 0,.int .i64 c] s175) fun u176 s177=>
 AT u176 fun x178=>
 K1 (H.next Z) 0 x178 (H.next s3) 0 s177) (
 AV (D 38 [.ptr a b,.str (BS.mk 8 4990918871747741011)] s173) fun u179 s180=>
 AT u179 fun x181=>
 AI x181 (
 AV (D 62 [.ptr a b,.ptr (H.next s3) 0,.int .i64 c] s180) fun u182 s183=>
 AT u182 fun x184=>
 K1 (H.next Z) 0 x184 (H.next s3) 0 s183) (
 AV (D 18 [.ptr a b] s180) fun u185 s186=>
 B7 u185 fun l187=>
 BV .i64 l187 fun x190 l189=>
 EY l189 fun x193 l192=>
 BV .i64 l192 fun x196 l195=>
 AZ l195 (
 AV (D 36 [.ptr a b,.int .i64 x196,.int .i64 (AA 7)] s186) fun u197 s198=>
 AT u197 fun x199=>
 K1 (H.next Z) 0 x199 (H.next s3) 0 s198)))))))))))))))
def vK:XC:=(.z (.O 133 y2 (.load (some 16) (.t 8))<|
 .m 134 7<|
 .op none y2 [4,133] (.store 16 (.t 4) (.t 133))<|
 .m 5 134<|
 .nil)
 .ret)
def Sn (E:EB) (D:BB) (W:AJ) (a b:Nat) (c:Bool) (d e:Nat) (Z:H):AH:=
 DB E Z d e 16 fun l1=>
 BV .i64 l1 fun x4 l3=>
 EY l3 fun x7 l6=>
 DQ l6 fun x10 l9=>
 BV .i64 l9 fun x13 l12=>
 BV .i64 l12 fun x16 l15=>
 DQ l15 fun x19 l18=>
 DQ l18 fun x22 l21=>
 DQ l21 fun x25 l24=>
 DQ l24 fun x28 l27=>
 BV .i64 l27 fun x31 l30=>
 BV .i64 l30 fun x34 l33=>
 AP l33 fun x35 l36=>
 AP l36 fun x37 l38=>
 BV .i64 l38 fun x41 l40=>
 DQ l40 fun x44 l43=>
 BV .i64 l43 fun x47 l46=>
 AZ l46 (
 Dk 16 a b (V.agg [.int .i64 x4,.str x7,.bool x10,.int .i64 x13,.int .i64 x16,.bool x19,.bool x22,.bool x25,.bool x28,.int .i64 x31,.int .i64 x34,x35,x37,.int .i64 x41,.bool x44,.int .i64 x47]) Z fun s48=>
 DB E s48 a b 16 fun u49=>
 some ((V.tup [.agg u49,.bool c]),s48))
def tf (E:EB) (D:BB) (W:AJ) (N:Nat):=Sn E D W
def uP (args:List V) (Z:H):AH:=
 AP args fun x1 l2=>
 Br x1 fun b3 o4=>
 BV .i64 l2 fun x7 l6=>
 AZ l6 (
 Gr E D W (tf E D W N ) b3 o4 x7 Z)
def A48:Eg:=⟨135,[.ptr,.i],[(.cell 4 (some 16)),(.tmp 5)],(vL vK)⟩
theorem AAI (args:List V) (Z:H):CR E D W N A48 args Z=uP E D W N args Z:=by kernel_rfl
def vJ:XC:=(.z (.c 4 y1<|
 .nil)
 (.z (.m 5 0<|
 .P 6 (.conv .toStr (.t 5))<|
 .m 7 1<|
 .P 8 (.conv .toStr (.t 7))<|
 .b 9 .eql .none (.t 6) (.t 8)<|
 .m 4 9<|
 .nil)
 .ret))
def qg (E:EB) (D:BB) (W:AJ) (a b:V) (Z:H):AH:=
 Kd E Z a fun t1=>
 Kd E Z b fun t2=>
 some ((V.bool (BS.beq t1 t2)),Z)
def F49 (N:Nat) (args:List V) (Z:H):AH:=
 AP args fun x1 l2=>
 AP l2 fun x3 l4=>
 AZ l4 (
 qg E D W x1 x3 Z)
def A49:Eg:=⟨10,[.any,.any],[(.tmp 4)],vJ⟩
theorem AAH (args:List V) (Z:H):CR E D W N A49 args Z=F49 E D W N args Z:=by kernel_rfl
def Xp:List (Nat × EH):=[(0,.any),(1,.any),(2,.any),(7,.i)]
def Hz (E:EB):St->AH:=fun s=>Ek E s [(.tmp 6)] fun l=>some (FF l,s.Z)
def dB (c0:XC):Nat->St->AH:=CC 0 (dX E D W N (.keep [] [] [] c0) (Hz E) nX (Hz E)) nX
def aM (cc1:XC) (cc2:XC):XC:=(.z (.c 6 y1<|
 .nil)
 (.seq (.z (.m 8 0<|
 .u 9 8<|
 .m 10 1<|
 .u 11 10<|
 .b 12 .neq .none (.t 9) (.t 11)<|
 .nil)
 jR)
 (.seq (.z (.q 7 0<|
 .nil)
 (.block 0 (.loop Xp [] [] cc2)))
 (.keep [] [] [] cc1))))
def fY (E:EB) (D:BB) (W:AJ) (K2:V->V->V->Int->H->AH) (a b c:V) (Z:H):AH:=
 BG a fun n1=>
 BG b fun n2=>
 AI (not (D0 (AA n1) (AA n2))) (
 some ((V.bool false),Z)) (
 K2 a b c (AA 0) Z)
def Oz:XC:=(.z (.c 6 y9<|
 .nil)
 .ret)
def qf (E:EB) (D:BB) (W:AJ) (Z:H):AH:=
 some ((V.bool true),Z)
def Qh:XC:=(.seq (.z (.m 13 7<|
 .m 14 0<|
 .u 15 14<|
 .b 16 .lss .none (.t 13) (.t 15)<|
 .nil)
 W2)
 (.seq (.block 1 (.seq (.draw (.m 19 2<|
 .m 20 0<|
 .m 21 7<|
 .s 22 6 20 21<|
 .O 23 y5 (.load (some 6) (.t 22))<|
 .m 24 1<|
 .m 25 7<|
 .s 26 6 24 25<|
 .O 27 y5 (.load (some 6) (.t 26))<|
 .O 28 .bool (.callv (.t 19) [(.t 23),(.t 27)])<|
 .P 29 eL<|
 .nil) [0,0,0,6,14,0,0,96,224,511,1023])
 eN))
 y8))
def fX (E:EB) (D:BB) (W:AJ) (K1:H->AH) (R2:V->V->V->Int->H->AH) (a b c:V) (d:Int) (Z:H):AH:=
 BG a fun n1=>
 AI (Dt d (AA n1)) (
 Am 6 a d fun b2 o3=>
 DB E Z b2 o3 6 fun l4=>
 BV .i64 l4 fun x7 l6=>
 BV .i64 l6 fun x10 l9=>
 AP l9 fun x11 l12=>
 AP l12 fun x13 l14=>
 BV .i64 l14 fun x17 l16=>
 AP l16 fun x18 l19=>
 AZ l19 (
 Am 6 b d fun b20 o21=>
 DB E Z b20 o21 6 fun l22=>
 BV .i64 l22 fun x25 l24=>
 BV .i64 l24 fun x28 l27=>
 AP l27 fun x29 l30=>
 AP l30 fun x31 l32=>
 BV .i64 l32 fun x35 l34=>
 AP l34 fun x36 l37=>
 AZ l37 (
 Iv D c [.agg [.int .i64 x7,.int .i64 x10,x11,x13,.int .i64 x17,x18],.agg [.int .i64 x25,.int .i64 x28,x29,x31,.int .i64 x35,x36]] Z fun u38 s39=>
 AT u38 fun x40=>
 AI (not x40) (
 some ((V.bool false),s39)) (
 R2 a b c (CJ .i64 d (AA 1)) s39)))) (
 K1 Z)
def gP (a b c:V) (Z:H):St:=⟨[(0,a),(1,b),(2,c)],[],[],Z⟩
def gN (Z:H):St:=⟨[],[],[],Z⟩
def VT (a b c:V) (d:Int) (Z:H):St:=⟨[(0,a),(1,b),(2,c),(7,.int .i64 d)],[],[],Z⟩
theorem sC (cc1:XC) (cc2:XC) (a b c:V) (Z:H) :
 AW E D W N (aM cc1 cc2) (gP a b c Z) (Hz E) nX (Hz E) =
 fY E D W (fun a b c d Z=>BE (fun rec s'=>AW E D W N cc2 s' (kX Xp [] [] rec) (dB E D W N cc1) (Hz E)) N (VT a b c d Z)) a b c Z:=by kernel_rfl
theorem sB (cc1:XC) (li2:St->AH) (a b c:V) (d:Int) (Z:H) :
 AW E D W N (Qh ) (VT a b c d Z) (kX Xp [] [] li2) (dB E D W N cc1) (Hz E) =
 fX E D W (fun  Z=>AW E D W N cc1 (gN Z) (Hz E) nX (Hz E)) (fun a b c d Z=>li2 (VT a b c d Z)) a b c d Z:=by kernel_rfl
def ic (E:EB) (D:BB) (W:AJ) (N:Nat):=qf E D W
theorem mG (Z:H) :
 AW E D W N Oz (gN Z) (Hz E) nX (Hz E)=ic E D W N  Z:=by kernel_rfl
def iC (n:Nat):V->V->V->Int->H->AH:=
 Nat.rec (fun _ _ _ _ _=>none) (fun _ ih=>fX E D W (ic E D W N ) ih) n
theorem lB (n:Nat):∀(a b c:V) (d:Int) (Z:H),
 BE (fun rec s'=>AW E D W N Qh s' (kX Xp [] [] rec) (dB E D W N Oz) (Hz E)) n (VT a b c d Z)=iC E D W N n a b c d Z:=by
 induction n with
 | zero=>intro a b c d Z;rfl
 | succ n ihn=>
  intro a b c d Z
  rw[BP]
  refine(sB E D W N Oz (BE (fun rec s'=>AW E D W N Qh s' (kX Xp [] [] rec) (dB E D W N Oz) (Hz E)) n) a b c d Z).trans ?_
  simp only[ihn,mG]
  kernel_rfl
def ie:=fY E D W (iC E D W N N)
theorem mH (a b c:V) (Z:H) :
 AW E D W N (aM Oz Qh) (gP a b c Z) (Hz E) nX (Hz E)=ie E D W N a b c Z:=by
 refine(sC E D W N Oz Qh  a b c Z).trans ?_
 simp only[lB]
 kernel_rfl
def wK (args:List V) (Z:H):AH:=
 AP args fun x1 l2=>
 AP l2 fun x3 l4=>
 AP l4 fun x5 l6=>
 AZ l6 (
 ie E D W N x1 x3 x5 Z)
def A50:Eg:=⟨30,jQ,[(.tmp 6)],(aM Oz Qh)⟩
theorem AAG (args:List V) (Z:H):CR E D W N A50 args Z=wK E D W N args Z:=by
 unfold wK
 simp only[<-mH]
 kernel_rfl
def Xo:List (Nat × EH):=[(0,.any),(1,.any),(2,.any),(7,.i)]
def Hy (E:EB):St->AH:=fun s=>Ek E s [(.tmp 6)] fun l=>some (FF l,s.Z)
def dA (c0:XC):Nat->St->AH:=CC 0 (dX E D W N (.keep [] [] [] c0) (Hy E) nX (Hy E)) nX
def aL (cc1:XC) (cc2:XC):XC:=(.z (.c 6 y1<|
 .nil)
 (.seq (.z (.m 8 0<|
 .u 9 8<|
 .m 10 1<|
 .u 11 10<|
 .b 12 .neq .none (.t 9) (.t 11)<|
 .nil)
 jR)
 (.seq (.z (.q 7 0<|
 .nil)
 (.block 0 (.loop Xo [] [] cc2)))
 (.keep [] [] [] cc1))))
def fW (E:EB) (D:BB) (W:AJ) (K2:V->V->V->Int->H->AH) (a b c:V) (Z:H):AH:=
 BG a fun n1=>
 BG b fun n2=>
 AI (not (D0 (AA n1) (AA n2))) (
 some ((V.bool false),Z)) (
 K2 a b c (AA 0) Z)
def Oy:XC:=(.z (.c 6 y9<|
 .nil)
 .ret)
def qe (E:EB) (D:BB) (W:AJ) (Z:H):AH:=
 some ((V.bool true),Z)
def Qg:XC:=(.seq (.z (.m 13 7<|
 .m 14 0<|
 .u 15 14<|
 .b 16 .lss .none (.t 13) (.t 15)<|
 .nil)
 W2)
 (.seq (.block 1 (.seq (.draw (.m 19 2<|
 .m 20 0<|
 .m 21 7<|
 .s 22 2 20 21<|
 .O 23 (.agg [.i,.any]) (.load (some 2) (.t 22))<|
 .m 24 1<|
 .m 25 7<|
 .s 26 2 24 25<|
 .O 27 (.agg [.i,.any]) (.load (some 2) (.t 26))<|
 .O 28 .bool (.callv (.t 19) [(.t 23),(.t 27)])<|
 .P 29 eL<|
 .nil) [0,0,0,6,14,0,0,96,224,511,1023])
 eN))
 y8))
def fV (E:EB) (D:BB) (W:AJ) (K1:H->AH) (R2:V->V->V->Int->H->AH) (a b c:V) (d:Int) (Z:H):AH:=
 BG a fun n1=>
 AI (Dt d (AA n1)) (
 Am 2 a d fun b2 o3=>
 DB E Z b2 o3 2 fun l4=>
 BV .i64 l4 fun x7 l6=>
 AP l6 fun x8 l9=>
 AZ l9 (
 Am 2 b d fun b10 o11=>
 DB E Z b10 o11 2 fun l12=>
 BV .i64 l12 fun x15 l14=>
 AP l14 fun x16 l17=>
 AZ l17 (
 Iv D c [.agg [.int .i64 x7,x8],.agg [.int .i64 x15,x16]] Z fun u18 s19=>
 AT u18 fun x20=>
 AI (not x20) (
 some ((V.bool false),s19)) (
 R2 a b c (CJ .i64 d (AA 1)) s19)))) (
 K1 Z)
def gM (a b c:V) (Z:H):St:=⟨[(0,a),(1,b),(2,c)],[],[],Z⟩
def gL (Z:H):St:=⟨[],[],[],Z⟩
def VS (a b c:V) (d:Int) (Z:H):St:=⟨[(0,a),(1,b),(2,c),(7,.int .i64 d)],[],[],Z⟩
theorem sA (cc1:XC) (cc2:XC) (a b c:V) (Z:H) :
 AW E D W N (aL cc1 cc2) (gM a b c Z) (Hy E) nX (Hy E) =
 fW E D W (fun a b c d Z=>BE (fun rec s'=>AW E D W N cc2 s' (kX Xo [] [] rec) (dA E D W N cc1) (Hy E)) N (VS a b c d Z)) a b c Z:=by kernel_rfl
theorem rz (cc1:XC) (li2:St->AH) (a b c:V) (d:Int) (Z:H) :
 AW E D W N (Qg ) (VS a b c d Z) (kX Xo [] [] li2) (dA E D W N cc1) (Hy E) =
 fV E D W (fun  Z=>AW E D W N cc1 (gL Z) (Hy E) nX (Hy E)) (fun a b c d Z=>li2 (VS a b c d Z)) a b c d Z:=by kernel_rfl
def iZ (E:EB) (D:BB) (W:AJ) (N:Nat):=qe E D W
theorem mE (Z:H) :
 AW E D W N Oy (gL Z) (Hy E) nX (Hy E)=iZ E D W N  Z:=by kernel_rfl
def iB (n:Nat):V->V->V->Int->H->AH:=
 Nat.rec (fun _ _ _ _ _=>none) (fun _ ih=>fV E D W (iZ E D W N ) ih) n
theorem lA (n:Nat):∀(a b c:V) (d:Int) (Z:H),
 BE (fun rec s'=>AW E D W N Qg s' (kX Xo [] [] rec) (dA E D W N Oy) (Hy E)) n (VS a b c d Z)=iB E D W N n a b c d Z:=by
 induction n with
 | zero=>intro a b c d Z;rfl
 | succ n ihn=>
  intro a b c d Z
  rw[BP]
  refine(rz E D W N Oy (BE (fun rec s'=>AW E D W N Qg s' (kX Xo [] [] rec) (dA E D W N Oy) (Hy E)) n) a b c d Z).trans ?_
  simp only[ihn,mE]
  kernel_rfl
def ia:=fW E D W (iB E D W N N)
theorem mF (a b c:V) (Z:H) :
 AW E D W N (aL Oy Qg) (gM a b c Z) (Hy E) nX (Hy E)=ia E D W N a b c Z:=by
 refine(sA E D W N Oy Qg  a b c Z).trans ?_
 simp only[lA]
 kernel_rfl
def wJ (args:List V) (Z:H):AH:=
 AP args fun x1 l2=>
 AP l2 fun x3 l4=>
 AP l4 fun x5 l6=>
 AZ l6 (
 ia E D W N x1 x3 x5 Z)
def A51:Eg:=⟨30,jQ,[(.tmp 6)],(aL Oy Qg)⟩
theorem AAF (args:List V) (Z:H):CR E D W N A51 args Z=wJ E D W N args Z:=by
 unfold wJ
 simp only[<-mF]
 kernel_rfl
def vI:XC:=(.z (.P 2 (.box 104 (.t 0))<|
 .P 3 (.box 104 (.t 1))<|
 .c 4 y1<|
 .nil)
 (.z (.f 5 0 2<|
 .l 6 .i 5<|
 .f 7 0 3<|
 .l 8 .i 7<|
 .b 9 .eql .none (.t 6) (.t 8)<|
 .m 10 9<|
 .gA 10 true (.p 11 [2,10] (.faddr 1 (.t 2))<|
 .p 12 [11,10] (.load none (.t 11))<|
 .p 13 [3,10] (.faddr 1 (.t 3))<|
 .p 14 [13,10] (.load none (.t 13))<|
 .op (some 15) .bool [12,14,10] (.call 49 [(.t 12),(.t 14)])<|
 .nil) 16 10 15<|
 .m 4 16<|
 .nil)
 .ret))
def qd (E:EB) (D:BB) (W:AJ) (a:Int) (b:V) (c:Int) (d:V) (Z:H):AH:=
 PO [.int .i64 a,b] Z fun s1=>
 PO [.int .i64 c,d] s1 fun s2=>
 Bm E s2 (H.next Z) 0 fun u3=>
 Al .i64 u3 fun x4=>
 Bm E s2 (H.next s1) 0 fun u5=>
 Al .i64 u5 fun x6=>
 Ax (fun c7 s8=>
 some ((V.bool c7),s8)) fun k9=>
 AI (D0 x4 x6) (
 Bm E s2 (H.next Z) 1 fun u10=>
 Bm E s2 (H.next s1) 1 fun u11=>
 AV (D 49 [u10,u11] s2) fun u12 s13=>
 AT u12 fun x14=>
 k9 x14 s13) (
 k9 false s2)
def F52 (N:Nat) (args:List V) (Z:H):AH:=
 AP args fun x1 l2=>
 B7 x1 fun l3=>
 BV .i64 l3 fun x6 l5=>
 AP l5 fun x7 l8=>
 AZ l8 (
 AP l2 fun x9 l10=>
 B7 x9 fun l11=>
 BV .i64 l11 fun x14 l13=>
 AP l13 fun x15 l16=>
 AZ l16 (
 AZ l10 (
 qd E D W x6 x7 x14 x15 Z)))
def A52:Eg:=⟨17,[(.agg [.i,.any]),(.agg [.i,.any])],[(.tmp 4)],vI⟩
theorem AAE (args:List V) (Z:H):CR E D W N A52 args Z=F52 E D W N args Z:=by kernel_rfl
def vH:XC:=(.z (.c 4 y1<|
 .nil)
 (.z (.m 5 0<|
 .P 6 (.len true (.t 5))<|
 .m 7 1<|
 .P 8 (.len true (.t 7))<|
 .b 9 .geq .none (.t 6) (.t 8)<|
 .m 10 9<|
 .gA 10 true (.p 11 [0,10] y7<|
 .p 12 [1,10] (.mov (.t 1))<|
 .p 13 [12,10] (.len true (.t 12))<|
 .p 14 [11,13,10] (.sliceStr (.t 11) none (some (.t 13)))<|
 .p 15 [1,10] (.mov (.t 1))<|
 .p 16 [14,15,10] (.bin .eql .none (.t 14) (.t 15))<|
 .nil) 17 10 16<|
 .m 4 17<|
 .nil)
 .ret))
def ZM (E:EB) (D:BB) (W:AJ) (a b:BS) (Z:H):AH:=
 Ax (fun c1 s2=>
 some ((V.bool c1),s2)) fun k3=>
 AI (Ip (AA (BS.len b)) (AA (BS.len a))) (
 CW a none (some (V.int .i64 (AA (BS.len b)))) fun t4=>
 k3 (BS.beq t4 b) Z) (
 k3 false Z)
def uO (N:Nat) (args:List V) (Z:H):AH:=
 EY args fun x3 l2=>
 EY l2 fun x6 l5=>
 AZ l5 (
 ZM E D W x3 x6 Z)
def A53:Eg:=⟨18,[.str,.str],[(.tmp 4)],vH⟩
theorem AAD (args:List V) (Z:H):CR E D W N A53 args Z=uO E D W N args Z:=by kernel_rfl
def vG:XC:=(.z (.c 2 UN<|
 .nil)
 (.seq (.cond (.con y1) (.seq (.draw (.m 3 0<|
 .P 4 (.iaddrS 1 (.t 3) (.i 0))<|
 .l 5 (.int .u8) 4<|
 .P 6 (.conv (.toInt .u64) (.t 5))<|
 .m 7 0<|
 .P 8 (.iaddrS 1 (.t 7) (.i 1))<|
 .l 9 (.int .u8) 8<|
 .P 10 (.conv (.toInt .u64) (.t 9))<|
 .b 11 .shl .none (.t 10) (.con (V.int .u64 (AA 8)))<|
 .b 12 .or .none (.t 6) (.t 11)<|
 .m 13 0<|
 .P 14 (.iaddrS 1 (.t 13) (.i 2))<|
 .l 15 (.int .u8) 14<|
 .P 16 (.conv (.toInt .u64) (.t 15))<|
 .b 17 .shl .none (.t 16) (.con (V.int .u64 (AA 16)))<|
 .b 18 .or .none (.t 12) (.t 17)<|
 .m 19 0<|
 .P 20 (.iaddrS 1 (.t 19) (.i 3))<|
 .l 21 (.int .u8) 20<|
 .P 22 (.conv (.toInt .u64) (.t 21))<|
 .b 23 .shl .none (.t 22) (.con (V.int .u64 (AA 24)))<|
 .b 24 .or .none (.t 18) (.t 23)<|
 .m 2 24<|
 .nil) [0,1,3,7,0,16,48,112,240,511,0,1024,3072,7168,15360,32767,0,65536,196608,458752,983040,2097151,4194303])
 .ret)
 .skip)
 (.seq (.draw (.m 25 0<|
 .P 26 (.iaddrS 1 (.t 25) (.i 0))<|
 .l 27 (.int .u8) 26<|
 .P 28 (.conv (.toInt .u64) (.t 27))<|
 .m 29 0<|
 .P 30 (.iaddrS 1 (.t 29) (.i 1))<|
 .l 31 (.int .u8) 30<|
 .P 32 (.conv (.toInt .u64) (.t 31))<|
 .b 33 .shl .none (.t 32) (.con (V.int .u64 (AA 8)))<|
 .b 34 .or .none (.t 28) (.t 33)<|
 .m 35 0<|
 .P 36 (.iaddrS 1 (.t 35) (.i 2))<|
 .l 37 (.int .u8) 36<|
 .P 38 (.conv (.toInt .u64) (.t 37))<|
 .b 39 .shl .none (.t 38) (.con (V.int .u64 (AA 16)))<|
 .b 40 .or .none (.t 34) (.t 39)<|
 .m 41 0<|
 .P 42 (.iaddrS 1 (.t 41) (.i 3))<|
 .l 43 (.int .u8) 42<|
 .P 44 (.conv (.toInt .u64) (.t 43))<|
 .b 45 .shl .none (.t 44) (.con (V.int .u64 (AA 24)))<|
 .b 46 .or .none (.t 40) (.t 45)<|
 .m 47 0<|
 .P 48 (.iaddrS 1 (.t 47) (.i 4))<|
 .l 49 (.int .u8) 48<|
 .P 50 (.conv (.toInt .u64) (.t 49))<|
 .b 51 .shl .none (.t 50) (.con (V.int .u64 (AA 32)))<|
 .b 52 .or .none (.t 46) (.t 51)<|
 .m 53 0<|
 .P 54 (.iaddrS 1 (.t 53) (.i 5))<|
 .l 55 (.int .u8) 54<|
 .P 56 (.conv (.toInt .u64) (.t 55))<|
 .b 57 .shl .none (.t 56) (.con (V.int .u64 (AA 40)))<|
 .b 58 .or .none (.t 52) (.t 57)<|
 .m 59 0<|
 .P 60 (.iaddrS 1 (.t 59) (.i 6))<|
 .l 61 (.int .u8) 60<|
 .P 62 (.conv (.toInt .u64) (.t 61))<|
 .b 63 .shl .none (.t 62) (.con (V.int .u64 (AA 48)))<|
 .b 64 .or .none (.t 58) (.t 63)<|
 .m 65 0<|
 .P 66 (.iaddrS 1 (.t 65) (.i 7))<|
 .l 67 (.int .u8) 66<|
 .P 68 (.conv (.toInt .u64) (.t 67))<|
 .b 69 .shl .none (.t 68) (.con (V.int .u64 (AA 56)))<|
 .b 70 .or .none (.t 64) (.t 69)<|
 .m 2 70<|
 .nil) [0,1,3,7,0,16,48,112,240,511,0,1024,3072,7168,15360,32767,0,65536,196608,458752,983040,2097151,0,4194304,12582912,29360128,62914560,134217727,0,268435456,805306368,1879048192,4026531840,8589934591,0,17179869184,51539607552,120259084288,257698037760,549755813887,0,1099511627776,3298534883328,7696581394432,16492674416640,35184372088831,70368744177663])
 .ret)))
def ZK (E:EB) (D:BB) (W:AJ) (a:V) (Z:H):AH:=
 AI false (
 Am 1 a (AA 0) fun b1 o2=>
 Bm E Z b1 o2 fun u3=>
 Al .u8 u3 fun x4=>
 Am 1 a (AA 1) fun b5 o6=>
 Bm E Z b5 o6 fun u7=>
 Al .u8 u7 fun x8=>
 Am 1 a (AA 2) fun b9 o10=>
 Bm E Z b9 o10 fun u11=>
 Al .u8 u11 fun x12=>
 Am 1 a (AA 3) fun b13 o14=>
 Bm E Z b13 o14 fun u15=>
 Al .u8 u15 fun x16=>
 some ((V.int .u64 (J4 .u64 (J4 .u64 (J4 .u64 (B4 .u64 x4) (G3 .u64 (B4 .u64 x8) 8)) (G3 .u64 (B4 .u64 x12) 16)) (G3 .u64 (B4 .u64 x16) 24))),Z)) (
 Am 1 a (AA 0) fun b17 o18=>
 Bm E Z b17 o18 fun u19=>
 Al .u8 u19 fun x20=>
 Am 1 a (AA 1) fun b21 o22=>
 Bm E Z b21 o22 fun u23=>
 Al .u8 u23 fun x24=>
 Am 1 a (AA 2) fun b25 o26=>
 Bm E Z b25 o26 fun u27=>
 Al .u8 u27 fun x28=>
 Am 1 a (AA 3) fun b29 o30=>
 Bm E Z b29 o30 fun u31=>
 Al .u8 u31 fun x32=>
 Am 1 a (AA 4) fun b33 o34=>
 Bm E Z b33 o34 fun u35=>
 Al .u8 u35 fun x36=>
 Am 1 a (AA 5) fun b37 o38=>
 Bm E Z b37 o38 fun u39=>
 Al .u8 u39 fun x40=>
 Am 1 a (AA 6) fun b41 o42=>
 Bm E Z b41 o42 fun u43=>
 Al .u8 u43 fun x44=>
 Am 1 a (AA 7) fun b45 o46=>
 Bm E Z b45 o46 fun u47=>
 Al .u8 u47 fun x48=>
 some ((V.int .u64 (J4 .u64 (J4 .u64 (J4 .u64 (J4 .u64 (J4 .u64 (J4 .u64 (J4 .u64 (B4 .u64 x20) (G3 .u64 (B4 .u64 x24) 8)) (G3 .u64 (B4 .u64 x28) 16)) (G3 .u64 (B4 .u64 x32) 24)) (G3 .u64 (B4 .u64 x36) 32)) (G3 .u64 (B4 .u64 x40) 40)) (G3 .u64 (B4 .u64 x44) 48)) (G3 .u64 (B4 .u64 x48) 56))),Z))
def uN (N:Nat) (args:List V) (Z:H):AH:=
 AP args fun x1 l2=>
 AZ l2 (
 ZK E D W x1 Z)
def A56:Eg:=⟨71,[.any],[(.tmp 2)],vG⟩
theorem AAC (args:List V) (Z:H):CR E D W N A56 args Z=uN E D W N args Z:=by kernel_rfl
def vF (cc1:XC):XC:=(.z (.pal 2 [] 33 [y1,y0,y0]<|
 .c 3 y1<|
 .nil)
 (.seq (.z (.m 8 0<|
 .n 9 8<|
 .f 10 0 9<|
 .k 11 .bool 38 [(.t 10),(.con (V.str ⟨1,91⟩))]<|
 .P 12 (.un .not (.t 11))<|
 .nil)
 (.cond (.tmp 12) (.z (.op (some 13) Rh [] (.build [y1,y0,y0] [])<|
 .op none Rh [2,13] (.store 3 (.t 2) (.t 13))<|
 .c 3 y9<|
 .nil)
 .ret)
 .skip))
 (.z (.m 15 0<|
 .k 16 eK 68 [(.t 15)]<|
 .m 14 16<|
 .P 17 (.extract 0 (.t 14))<|
 .P 18 (.extract 1 (.t 14))<|
 .P 19 (.extract 2 (.t 14))<|
 .pal 5 [] 68 [y0,y3,y0]<|
 .m 4 17<|
 .op none y4 [5,18] (.store 3 (.t 5) (.t 18))<|
 .m 6 19<|
 .nil)
 (.seq (.block 0 (.z (.m 21 6<|
 .P 22 (.un .not (.t 21))<|
 .m 20 22<|
 .nil)
 (.cond (.tmp 20) (.z (.op (some 23) Rh [] (.build [y1,y0,y0] [])<|
 .op none Rh [2,23] (.store 3 (.t 2) (.t 23))<|
 .c 3 y1<|
 .nil)
 .ret)
 (.z (.m 25 4<|
 .b 26 .lss .none (.t 25) (.i 0)<|
 .m 27 26<|
 .gO 27 false (.p 28 [4,27] (.mov (.t 4))<|
 .p 29 [28,27] (.bin .gtr .none (.t 28) (.i 268435456))<|
 .nil) 30 27 29<|
 .m 24 30<|
 .nil)
 (.cond (.tmp 24) (.z (.op (some 31) Rh [] (.build [y1,y0,y0] [])<|
 .m 32 0<|
 .f 33 2 5<|
 .l 34 .i 33<|
 .k 35 .bool 36 [(.t 32),(.t 34),(.i 12)]<|
 .op none Rh [2,31] (.store 3 (.t 2) (.t 31))<|
 .m 3 35<|
 .nil)
 .ret)
 (.z (.m 37 0<|
 .p 38 [] (.buildSlice 9 1 [y3] [(0,1,(.con (V.str ⟨1,93⟩)))])<|
 .k 39 .bool 16 [(.t 37),(.t 38)]<|
 .P 40 (.un .not (.t 39))<|
 .m 36 40<|
 .nil)
 (.cond (.tmp 36) (.z (.op (some 41) Rh [] (.build [y1,y0,y0] [])<|
 .op none Rh [2,41] (.store 3 (.t 2) (.t 41))<|
 .c 3 y1<|
 .nil)
 .ret)
 .skip)))))))
 (.z (.m 42 4<|
 .op (some 43) Rh [42] (.build [y1,y0,y0] [(0,1,(.con y9)),(1,1,(.t 42))])<|
 .pal 7 [] 33 [y1,y0,y0]<|
 .op none Rh [7,43] (.store 3 (.t 7) (.t 43))<|
 .nil)
 (.seq (.block 1 (.z (.m 45 0<|
 .n 46 45<|
 .f 47 0 46<|
 .k 48 .bool 38 [(.t 47),wV]<|
 .m 44 48<|
 .nil)
 (.cond (.tmp 44) (.ops (.f 49 2 7<|
 .op none .any [49] (.store 1 (.t 49) (.i 1))<|
 .nil))
 (.z (.m 51 0<|
 .n 52 51<|
 .f 53 0 52<|
 .k 54 .bool 38 [(.t 53),wU]<|
 .m 50 54<|
 .nil)
 (.cond (.tmp 50) (.ops (.f 55 2 7<|
 .op none .any [55] (.store 1 (.t 55) (.i 2))<|
 .nil))
 .skip)))))
 (.keep [] [2,7] [(2,[.bool,.i,.i]),(7,[.bool,.i,.i])] cc1)))))))
def Mn (E:EB) (D:BB) (W:AJ) (K1:Bool->Int->Int->Bool->Int->Int->H->AH) (a b:Nat) (Z:H):AH:=
 AV (D 38 [.ptr a b,.str (BS.mk 1 91)] Z) fun u1 s2=>
 AT u1 fun x3=>
 AI (not x3) (
 some ((V.tup [.agg [.bool false,.int .i64 (AA 0),.int .i64 (AA 0)],.bool true]),s2)) (
 AV (D 68 [.ptr a b] s2) fun u4 s5=>
 Cw u4 fun l6=>
 BV .i64 l6 fun x9 l8=>
 AP l8 fun x10 l11=>
 B7 x10 fun l12=>
 BV .i64 l12 fun x15 l14=>
 EY l14 fun x18 l17=>
 BV .i64 l17 fun x21 l20=>
 AZ l20 (
 DQ l11 fun x24 l23=>
 AZ l23 (
 AI (not x24) (
 some ((V.tup [.agg [.bool false,.int .i64 (AA 0),.int .i64 (AA 0)],.bool false]),s5)) (
 Ax (fun c25 s26=>
 AI c25 (
 AV (D 36 [.ptr a b,.int .i64 x21,.int .i64 (AA 12)] s26) fun u28 s29=>
 AT u28 fun x30=>
 some ((V.tup [.agg [.bool false,.int .i64 (AA 0),.int .i64 (AA 0)],.bool x30]),s29)) (
 let s31:=CO s26 (.cells [.str (BS.mk 1 93)]);
 AV (D 16 [.ptr a b,.sl (H.next s26) 0 1 (.ex 1)] s31) fun u32 s33=>
 AT u32 fun x34=>
 AI (not x34) (
 some ((V.tup [.agg [.bool false,.int .i64 (AA 0),.int .i64 (AA 0)],.bool false]),s33)) (
 AV (D 38 [.ptr a b,.str (BS.mk 8 6073459554577832005)] s33) fun u35 s36=>
 AT u35 fun x37=>
 AI x37 (
 K1 false (AA 0) (AA 0) true x9 (AA 1) s36) (
 AV (D 38 [.ptr a b,.str (BS.mk 8 6073459554577829193)] s36) fun u38 s39=>
 AT u38 fun x40=>
 AI x40 (
 K1 false (AA 0) (AA 0) true x9 (AA 2) s39) (
 K1 false (AA 0) (AA 0) true x9 (AA 0) s39))))) fun k27=>
 AI (Dt x9 (AA 0)) (
 k27 true s5) (
 k27 (Dt (AA 268435456) x9) s5)))))
def vE:XC:=(.z (.O 56 Rh (.load (some 3) (.t 7))<|
 .op none Rh [2,56] (.store 3 (.t 2) (.t 56))<|
 .c 3 y9<|
 .nil)
 .ret)
def Mm (E:EB) (D:BB) (W:AJ) (a:Bool) (b c:Int) (d:Bool) (e f:Int) (Z:H):AH:=
 some ((V.tup [.agg [.bool d,.int .i64 e,.int .i64 f],.bool true]),Z)
def td (E:EB) (D:BB) (W:AJ) (N:Nat):=Mm E D W
def uM (args:List V) (Z:H):AH:=
 AP args fun x1 l2=>
 Br x1 fun b3 o4=>
 AZ l2 (
 Mn E D W (td E D W N ) b3 o4 Z)
def A57:Eg:=⟨57,[.ptr],[(.cell 2 (some 3)),(.tmp 3)],(vF vE)⟩
theorem AAB (args:List V) (Z:H):CR E D W N A57 args Z=uM E D W N args Z:=by kernel_rfl
def vD:XC:=(.z (.c 4 y1<|
 .nil)
 (.z (.m 5 0<|
 .n 6 5<|
 .f 7 0 6<|
 .k 8 .bool 38 [(.t 7),oF]<|
 .P 9 (.un .not (.t 8))<|
 .m 10 9<|
 .gO 10 false (.p 11 [0,10] y7<|
 .p 12 [10] (.buildSlice 9 2 [y3,y3] [(0,1,(.con (V.str ⟨4,1163544915⟩))),(1,1,oF)])<|
 .op (some 13) .bool [11,12,10] (.call 16 [(.t 11),(.t 12)])<|
 .p 14 [13,10] (.mov (.t 13))<|
 .grp 14 true (.p 15 [0,14] y7<|
 .p 16 [1,14] (.mov (.t 1))<|
 .op (some 17) .bool [15,16,14] (.call 59 [(.t 15),(.t 16)])<|
 .nil) 18 [14,17,10] (.t 14) (.t 17) (.con y1)<|
 .p 19 [18,10] (.mov (.t 18))<|
 .grp 19 true (.p 20 [0,19] y7<|
 .p 21 [19] (.buildSlice 9 2 [y3,y3] [(0,1,(.con (V.str ⟨1,41⟩))),(1,1,(.con (V.str ⟨1,41⟩)))])<|
 .op (some 22) .bool [20,21,19] (.call 16 [(.t 20),(.t 21)])<|
 .nil) 23 [19,22,10] (.t 19) (.t 22) (.con y1)<|
 .nil) 24 10 23<|
 .m 4 24<|
 .nil)
 .ret))
def QL (E:EB) (D:BB) (W:AJ) (a b:Nat) (c:V) (Z:H):AH:=
 AV (D 38 [.ptr a b,.str (BS.mk 1 40)] Z) fun u1 s2=>
 AT u1 fun x3=>
 Ax (fun c4 s5=>
 some ((V.bool c4),s5)) fun k6=>
 AI (not x3) (
 k6 true s2) (
 let s7:=CO s2 (.cells [.str (BS.mk 4 1163544915),.str (BS.mk 1 40)]);
 AV (D 16 [.ptr a b,.sl (H.next s2) 0 2 (.ex 2)] s7) fun u8 s9=>
 AT u8 fun x10=>
 Ax (fun c11 s12=>
 Ax (fun c14 s15=>
 k6 c14 s15) fun k16=>
 AI c11 (
 let s17:=CO s12 (.cells [.str (BS.mk 1 41),.str (BS.mk 1 41)]);
 AV (D 16 [.ptr a b,.sl (H.next s12) 0 2 (.ex 2)] s17) fun u18 s19=>
 AT u18 fun x20=>
 k16 x20 s19) (
 k16 false s12)) fun k13=>
 AI x10 (
 AV (D 59 [.ptr a b,c] s9) fun u21 s22=>
 AT u21 fun x23=>
 k13 x23 s22) (
 k13 false s9))
def uL (N:Nat) (args:List V) (Z:H):AH:=
 AP args fun x1 l2=>
 Br x1 fun b3 o4=>
 AP l2 fun x5 l6=>
 AZ l6 (
 QL E D W b3 o4 x5 Z)
def A58:Eg:=⟨25,[.ptr,.any],[(.tmp 4)],vD⟩
theorem AAA (args:List V) (Z:H):CR E D W N A58 args Z=uL E D W N args Z:=by kernel_rfl
def vC (cc1:XC):XC:=(.z (.c 4 y1<|
 .nil)
 (.z (.m 11 1<|
 .n 12 11<|
 .f 13 0 12<|
 .op none .any [13] (.store 1 (.t 13) (.con y9))<|
 .nil)
 (.seq (.z (.m 14 0<|
 .n 15 14<|
 .f 16 0 15<|
 .k 17 .bool 38 [(.t 16),(.con (V.str ⟨3,5130573⟩))]<|
 .P 18 (.un .not (.t 17))<|
 .nil)
 (.cond (.tmp 18) (.z (.m 20 0<|
 .k 21 eK 68 [(.t 20)]<|
 .m 19 21<|
 .P 22 (.extract 0 (.t 19))<|
 .P 23 (.extract 1 (.t 19))<|
 .P 24 (.extract 2 (.t 19))<|
 .pal 6 [] 68 [y0,y3,y0]<|
 .m 5 22<|
 .op none y4 [6,23] (.store 3 (.t 6) (.t 23))<|
 .m 7 24<|
 .nil)
 (.seq (.z (.m 25 7<|
 .P 26 (.un .not (.t 25))<|
 .nil)
 (.cond (.tmp 26) (.z (.c 4 y1<|
 .nil)
 .ret)
 .skip))
 (.ops (.m 27 1<|
 .m 28 1<|
 .m 29 5<|
 .n 30 27<|
 .f 31 1 30<|
 .op none .any [31] (.store 1 (.t 31) (.con y9))<|
 .n 32 28<|
 .f 33 4 32<|
 .w 1 33 29<|
 .nil))))
 .skip))
 (.keep [(0,.ptr),(1,.ptr)] [] [] cc1))))
def QK (E:EB) (D:BB) (W:AJ) (K1:Nat->Nat->Nat->Nat->H->AH) (a b c d:Nat) (Z:H):AH:=
 Dk 1 c d (V.bool true) Z fun s1=>
 AV (D 38 [.ptr a b,.str (BS.mk 3 5130573)] s1) fun u2 s3=>
 AT u2 fun x4=>
 AI (not x4) (
 AV (D 68 [.ptr a b] s3) fun u5 s6=>
 Cw u5 fun l7=>
 BV .i64 l7 fun x10 l9=>
 AP l9 fun x11 l12=>
 B7 x11 fun l13=>
 BV .i64 l13 fun x16 l15=>
 EY l15 fun x19 l18=>
 BV .i64 l18 fun x22 l21=>
 AZ l21 (
 DQ l12 fun x25 l24=>
 AZ l24 (
 AI (not x25) (
 some ((V.bool false),s6)) (
 Dk 1 c (AU d 1) (V.bool true) s6 fun s26=>
 Dk 1 c (AU d 4) (V.int .i64 x10) s26 fun s27=>
 K1 a b c d s27)))) (
 K1 a b c d s3)
def vB (cc2:XC):XC:=(.seq (.block 0 (.z (.m 35 0<|
 .n 36 35<|
 .f 37 0 36<|
 .k 38 .bool 38 [(.t 37),(.con (V.str ⟨2,11822⟩))]<|
 .P 39 (.un .not (.t 38))<|
 .m 34 39<|
 .nil)
 (.cond (.tmp 34) (.draw (.m 40 1<|
 .m 41 1<|
 .m 42 1<|
 .n 43 42<|
 .f 44 1 43<|
 .l 45 .bool 44<|
 .m 46 1<|
 .n 47 46<|
 .f 48 4 47<|
 .l 49 .i 48<|
 .n 50 40<|
 .f 51 2 50<|
 .w 1 51 45<|
 .n 52 41<|
 .f 53 5 52<|
 .w 1 53 49<|
 .nil) [0,0,0,4,12,28,0,64,192,448,1021,2045,4093,8191,16383,32767])
 (.z (.m 55 0<|
 .n 56 55<|
 .f 57 0 56<|
 .k 58 .bool 38 [(.t 57),(.con (V.str ⟨3,5783885⟩))]<|
 .P 59 (.un .not (.t 58))<|
 .m 54 59<|
 .nil)
 (.cond (.tmp 54) (.z (.m 61 0<|
 .k 62 eK 68 [(.t 61)]<|
 .m 60 62<|
 .P 63 (.extract 0 (.t 60))<|
 .P 64 (.extract 1 (.t 60))<|
 .P 65 (.extract 2 (.t 60))<|
 .pal 9 [] 68 [y0,y3,y0]<|
 .m 8 63<|
 .op none y4 [9,64] (.store 3 (.t 9) (.t 64))<|
 .m 10 65<|
 .nil)
 (.seq (.z (.m 66 10<|
 .P 67 (.un .not (.t 66))<|
 .nil)
 (.cond (.tmp 67) (.z (.c 4 y1<|
 .nil)
 .ret)
 .skip))
 (.ops (.m 68 1<|
 .m 69 1<|
 .m 70 8<|
 .n 71 68<|
 .f 72 2 71<|
 .op none .any [72] (.store 1 (.t 72) (.con y9))<|
 .n 73 69<|
 .f 74 5 73<|
 .w 1 74 70<|
 .nil))))
 .skip)))))
 (.keep [(0,.ptr),(1,.ptr)] [] [] cc2))
def Ml (E:EB) (D:BB) (W:AJ) (K2:Nat->Nat->Nat->Nat->H->AH) (a b c d:Nat) (Z:H):AH:=
 AV (D 38 [.ptr a b,.str (BS.mk 2 11822)] Z) fun u1 s2=>
 AT u1 fun x3=>
 AI (not x3) (
 Bm E s2 c (AU d 1) fun u4=>
 AT u4 fun x5=>
 Bm E s2 c (AU d 4) fun u6=>
 Al .i64 u6 fun x7=>
 Dk 1 c (AU d 2) (V.bool x5) s2 fun s8=>
 Dk 1 c (AU d 5) (V.int .i64 x7) s8 fun s9=>
 K2 a b c d s9) (
 AV (D 38 [.ptr a b,.str (BS.mk 3 5783885)] s2) fun u10 s11=>
 AT u10 fun x12=>
 AI (not x12) (
 AV (D 68 [.ptr a b] s11) fun u13 s14=>
 Cw u13 fun l15=>
 BV .i64 l15 fun x18 l17=>
 AP l17 fun x19 l20=>
 B7 x19 fun l21=>
 BV .i64 l21 fun x24 l23=>
 EY l23 fun x27 l26=>
 BV .i64 l26 fun x30 l29=>
 AZ l29 (
 DQ l20 fun x33 l32=>
 AZ l32 (
 AI (not x33) (
 some ((V.bool false),s14)) (
 Dk 1 c (AU d 2) (V.bool true) s14 fun s34=>
 Dk 1 c (AU d 5) (V.int .i64 x18) s34 fun s35=>
 K2 a b c d s35)))) (
 K2 a b c d s11))
def vA:XC:=(.seq (.z (.m 75 0<|
 .n 76 75<|
 .f 77 0 76<|
 .k 78 .bool 38 [(.t 77),nO]<|
 .nil)
 (.cond (.tmp 78) (.z (.m 79 1<|
 .n 80 79<|
 .f 81 3 80<|
 .op none .any [81] (.store 1 (.t 81) (.con y9))<|
 .nil)
 (.z (.m 82 0<|
 .p 83 [] (.buildSlice 9 1 [y3] [(0,1,v7)])<|
 .k 84 .bool 16 [(.t 82),(.t 83)]<|
 .m 4 84<|
 .nil)
 .ret))
 .skip))
 (.z (.c 4 y9<|
 .nil)
 .ret))
def OZ (E:EB) (D:BB) (W:AJ) (a b c d:Nat) (Z:H):AH:=
 AV (D 38 [.ptr a b,.str (BS.mk 1 44)] Z) fun u1 s2=>
 AT u1 fun x3=>
 AI x3 (
 Dk 1 c (AU d 3) (V.bool true) s2 fun s4=>
 let s5:=CO s4 (.cells [.str (BS.mk 3 3026478)]);
 AV (D 16 [.ptr a b,.sl (H.next s4) 0 1 (.ex 1)] s5) fun u6 s7=>
 AT u6 fun x8=>
 some ((V.bool x8),s7)) (
 some ((V.bool true),s2))
def ta (E:EB) (D:BB) (W:AJ) (N:Nat):=OZ E D W
def tc:=Ml E D W (ta E D W N )
def uK (args:List V) (Z:H):AH:=
 AP args fun x1 l2=>
 Br x1 fun b3 o4=>
 AP l2 fun x5 l6=>
 Br x5 fun b7 o8=>
 AZ l6 (
 QK E D W (tc E D W N ) b3 o4 b7 o8 Z)
def A59:Eg:=⟨85,[.ptr,.ptr],[(.tmp 4)],(vC (vB vA))⟩
theorem z7 (args:List V) (Z:H):CR E D W N A59 args Z=uK E D W N args Z:=by kernel_rfl
def Kk:List (Nat × EH):=[(0,.ptr),(1,.ptr)]
def Ms:List BR:=[⟨(some 48),.mov (.tmp 1),none⟩,⟨(some 49),.mov (.tmp 1),none⟩,⟨(some 50),.nilck (.tmp 49),none⟩,⟨(some 51),.faddr 11 (.tmp 50),none⟩,⟨(some 52),.load none (.tmp 51),none⟩,⟨(some 53),.load (some 3) (.tmp 5),none⟩,⟨(some 54),.buildSlice 79 1 [(V.str ⟨0,0⟩),(V.int .i64 (AA 0)),(V.bool false)] [(0,3,(.tmp 53))],none⟩,⟨(some 55),.append 79 3 32 (.tmp 52) (.tmp 54),none⟩,⟨(some 56),.nilck (.tmp 48),none⟩,⟨(some 57),.faddr 11 (.tmp 56),none⟩,⟨none,.store 1 (.tmp 57) (.tmp 55),none⟩]
def KW:List DP:=[⟨0,[1]⟩,⟨0,[1]⟩,⟨2,[49]⟩,⟨6,[50]⟩,⟨14,[51]⟩,⟨0,[5]⟩,⟨32,[53]⟩,⟨126,[52,54]⟩,⟨255,[48]⟩,⟨511,[56]⟩,⟨1023,[57,55]⟩]
def Et (E:EB):St->AH:=fun s=>Ek E s [(.tmp 4)] fun l=>some (FF l,s.Z)
def T3 (c0:XC):Nat->St->AH:=CC 0 (dX E D W N (.keep Kk [] [] c0) (Et E) nX (Et E)) nX
def aK (cc1:XC) (cc2:XC):XC:=(.z (.c 4 y1<|
 .nil)
 (.seq (.z (.m 7 0<|
 .p 8 [] (.buildSlice 9 1 [y3] [(0,1,(.con (V.str ⟨1,123⟩)))])<|
 .k 9 .bool 16 [(.t 7),(.t 8)]<|
 .P 10 (.un .not (.t 9))<|
 .nil)
 (.cond (.tmp 10) (.z (.c 4 y1<|
 .nil)
 .ret)
 .skip))
 (.seq (.block 0 (.loop Kk [] [] cc2))
 (.keep Kk [] [] cc1))))
def Sm (E:EB) (D:BB) (W:AJ) (K2:Nat->Nat->Nat->Nat->H->AH) (a b c d:Nat) (Z:H):AH:=
 let s1:=CO Z (.cells [.str (BS.mk 1 123)]);
 AV (D 16 [.ptr a b,.sl (H.next Z) 0 1 (.ex 1)] s1) fun u2 s3=>
 AT u2 fun x4=>
 AI (not x4) (
 some ((V.bool false),s3)) (
 K2 a b c d s3)
def KX (cc4:XC):XC:=(.seq (.z (.m 63 1<|
 .n 64 63<|
 .f 65 14 64<|
 .l 66 .bool 65<|
 .P 67 (.un .not (.t 66))<|
 .nil)
 (.cond (.tmp 67) (.ops (.m 68 1<|
 .m 69 1<|
 .n 70 69<|
 .f 71 11 70<|
 .l 72 .any 71<|
 .u 73 72<|
 .n 74 68<|
 .f 75 13 74<|
 .w 1 75 73<|
 .nil))
 .skip))
 (.keep [(0,.ptr)] [] [] cc4))
def QJ (E:EB) (D:BB) (W:AJ) (K4:Nat->Nat->H->AH) (a b c d:Nat) (Z:H):AH:=
 Bm E Z c (AU d 14) fun u1=>
 AT u1 fun x2=>
 AI (not x2) (
 Bm E Z c (AU d 11) fun u3=>
 BG u3 fun n4=>
 Dk 1 c (AU d 13) (V.int .i64 (AA n4)) Z fun s5=>
 K4 a b s5) (
 K4 a b Z)
def Qf (cc3:XC):XC:=(.block 1 (.seq (.z (.m 11 1<|
 .n 12 11<|
 .f 13 11 12<|
 .l 14 .any 13<|
 .u 15 14<|
 .b 16 .gtr .none (.t 15) (.i 0)<|
 .m 17 16<|
 .gA 17 true (.p 18 [1,17] (.mov (.t 1))<|
 .p 19 [18,17] (.nilck (.t 18))<|
 .p 20 [19,17] (.faddr 14 (.t 19))<|
 .op (some 21) .bool [20,17] (.load none (.t 20))<|
 .p 22 [21,17] (.un .not (.t 21))<|
 .nil) 23 17 22<|
 .m 24 23<|
 .gA 24 true (.p 25 [0,24] y7<|
 .p 26 [25,24] (.nilck (.t 25))<|
 .p 27 [26,24] (.faddr 0 (.t 26))<|
 .op (some 28) .bool [27,24] (.call 38 [(.t 27),v7])<|
 .nil) 29 24 28<|
 .nil)
 (.cond (.tmp 29) (.ops (.m 30 1<|
 .m 31 1<|
 .m 32 1<|
 .n 33 32<|
 .f 34 11 33<|
 .l 35 .any 34<|
 .u 36 35<|
 .n 37 30<|
 .f 38 14 37<|
 .op none .any [38] (.store 1 (.t 38) (.con y9))<|
 .n 39 31<|
 .f 40 13 39<|
 .w 1 40 36<|
 .nil))
 (.z (.m 42 0<|
 .k 43 (.tup [Wx,.bool]) 69 [(.t 42)]<|
 .m 41 43<|
 .P 44 (.extract 0 (.t 41))<|
 .P 45 (.extract 1 (.t 41))<|
 .p 5 [] (.alloc 79 [y3,y0,y1])<|
 .op none Wx [5,44] (.store 3 (.t 5) (.t 44))<|
 .m 6 45<|
 .nil)
 (.seq (.z (.m 46 6<|
 .P 47 (.un .not (.t 46))<|
 .nil)
 (.cond (.tmp 47) (.z (.c 4 y1<|
 .nil)
 .ret)
 .skip))
 (.keep [(0,.ptr),(1,.ptr),(5,.ptr)] [] [] (.gdraw Ms KW Kk))))))
 (.keep Kk [] [] cc3)))
def Sk (K3:Nat->Nat->Nat->Nat->H->AH) (a b c d:Nat) (Z:H):AH:=
 Bm E Z c (AU d 11) fun u1=>
 BG u1 fun n2=>
 Ax (fun c3 s4=>
 Ax (fun c6 s7=>
 AI c6 (
 Bm E s7 c (AU d 11) fun u9=>
 BG u9 fun n10=>
 Dk 1 c (AU d 14) (V.bool true) s7 fun s11=>
 Dk 1 c (AU d 13) (V.int .i64 (AA n10)) s11 fun s12=>
 K3 a b c d s12) (
 AV (D 69 [.ptr a b] s7) fun u13 s14=>
 Cw u13 fun l15=>
 AP l15 fun x16 l17=>
 B7 x16 fun l18=>
 EY l18 fun x21 l20=>
 BV .i64 l20 fun x24 l23=>
 DQ l23 fun x27 l26=>
 AZ l26 (
 DQ l17 fun x30 l29=>
 AZ l29 (
 let s31:=CO s14 (.cells [.str ⟨0,0⟩,.int .i64 (AA 0),.bool false]);
 Dk 3 (H.next s14) 0 (V.agg [.str x21,.int .i64 x24,.bool x27]) s31 fun s32=>
 AI (not x30) (
 some ((V.bool false),s32)) (
 Ee (W Ms KW [(0,.ptr a b),(1,.ptr c d),(5,.ptr (H.next s14) 0)] s32) fun e33 s34=>
 E0 e33 0 fun u35=>
 Br u35 fun b36 o37=>
 E0 e33 1 fun u38=>
 Br u38 fun b39 o40=>
 K3 b36 o37 b39 o40 s34))))) fun k8=>
 AI c3 (
 AV (D 38 [.ptr a b,.str (BS.mk 3 3026478)] s4) fun u41 s42=>
 AT u41 fun x43=>
 k8 x43 s42) (
 k8 false s4)) fun k5=>
 AI (Dt (AA 0) (AA n2)) (
 Bm E Z c (AU d 14) fun u44=>
 AT u44 fun x45=>
 k5 (not x45) Z) (
 k5 false Z)
def Mv:XC:=(.z (.m 58 0<|
 .n 59 58<|
 .f 60 0 59<|
 .k 61 .bool 38 [(.t 60),nO]<|
 .P 62 (.un .not (.t 61))<|
 .nil)
 (.cond (.tmp 62) Rf
 .skip))
def QI (E:EB) (D:BB) (W:AJ) (K1:Nat->Nat->Nat->Nat->H->AH) (R2:Nat->Nat->Nat->Nat->H->AH) (a b c d:Nat) (Z:H):AH:=
 AV (D 38 [.ptr a b,.str (BS.mk 1 44)] Z) fun u1 s2=>
 AT u1 fun x3=>
 AI (not x3) (
 K1 a b c d s2) (
 R2 a b c d s2)
def Jx:XC:=(.z (.m 76 0<|
 .p 77 [] wZ<|
 .k 78 .bool 16 [(.t 76),(.t 77)]<|
 .m 4 78<|
 .nil)
 .ret)
def ZJ (E:EB) (D:BB) (W:AJ) (a b:Nat) (Z:H):AH:=
 let s1:=CO Z (.cells [.str (BS.mk 1 125)]);
 AV (D 16 [.ptr a b,.sl (H.next Z) 0 1 (.ex 1)] s1) fun u2 s3=>
 AT u2 fun x4=>
 some ((V.bool x4),s3)
def If (a b c d:Nat) (Z:H):St:=⟨[(0,.ptr a b),(1,.ptr c d)],[],[],Z⟩
def gJ (a b:Nat) (Z:H):St:=⟨[(0,.ptr a b)],[],[],Z⟩
theorem ry (cc1:XC) (cc2:XC) (a b c d:Nat) (Z:H) :
 AW E D W N (aK cc1 cc2) (If a b c d Z) (Et E) nX (Et E) =
 Sm E D W (fun a b c d Z=>BE (fun rec s'=>AW E D W N cc2 s' (kX Kk [] [] rec) (T3 E D W N cc1) (Et E)) N (If a b c d Z)) a b c d Z:=by kernel_rfl
theorem rv (cc4:XC) (a b c d:Nat) (Z:H) :
 AW E D W N (KX cc4) (If a b c d Z) (Et E) nX (Et E) =
 QJ E D W (fun a b Z=>AW E D W N cc4 (gJ a b Z) (Et E) nX (Et E)) a b c d Z:=by kernel_rfl
theorem ru (cc1:XC) (cc3:XC) (li2:St->AH) (a b c d:Nat) (Z:H) :
 AW E D W N (Qf cc3) (If a b c d Z) (kX Kk [] [] li2) (T3 E D W N cc1) (Et E) =
 Sk E D W (fun a b c d Z=>AW E D W N cc3 (If a b c d Z) (kX Kk [] [] li2) (CC 1 (kX Kk [] [] li2) (T3 E D W N cc1)) (Et E)) a b c d Z:=by kernel_rfl
theorem rr (cc1:XC) (li2:St->AH) (a b c d:Nat) (Z:H) :
 AW E D W N (Mv ) (If a b c d Z) (kX Kk [] [] li2) (CC 1 (kX Kk [] [] li2) (T3 E D W N cc1)) (Et E) =
 QI E D W (fun a b c d Z=>AW E D W N cc1 (If a b c d Z) (Et E) nX (Et E)) (fun a b c d Z=>li2 (If a b c d Z)) a b c d Z:=by kernel_rfl
def iV (E:EB) (D:BB) (W:AJ) (N:Nat):=ZJ E D W
theorem mA (a b:Nat) (Z:H) :
 AW E D W N Jx (gJ a b Z) (Et E) nX (Et E)=iV E D W N a b Z:=by kernel_rfl
def iX:=QJ E D W (iV E D W N )
theorem mC (a b c d:Nat) (Z:H) :
 AW E D W N (KX Jx) (If a b c d Z) (Et E) nX (Et E)=iX E D W N a b c d Z:=by
 refine(rv E D W N Jx  a b c d Z).trans ?_
 simp only[mA]
 kernel_rfl
def iW (R2:Nat->Nat->Nat->Nat->H->AH):=QI E D W (iX E D W N ) R2
theorem mB (li2:St->AH) (a b c d:Nat) (Z:H) :
 AW E D W N Mv (If a b c d Z) (kX Kk [] [] li2) (CC 1 (kX Kk [] [] li2) (T3 E D W N (KX Jx))) (Et E)=iW E D W N (fun a b c d Z=>li2 (If a b c d Z)) a b c d Z:=by
 refine(rr E D W N (KX Jx) li2 a b c d Z).trans ?_
 simp only[mC]
 kernel_rfl
def S8 (n:Nat):Nat->Nat->Nat->Nat->H->AH:=
 Nat.rec (fun _ _ _ _ _=>none) (fun _ ih=>Sk E D W (iW E D W N ih)) n
theorem kz (n:Nat):∀(a b c d:Nat) (Z:H),
 BE (fun rec s'=>AW E D W N (Qf Mv) s' (kX Kk [] [] rec) (T3 E D W N (KX Jx)) (Et E)) n (If a b c d Z)=S8 E D W N n a b c d Z:=by
 induction n with
 | zero=>intro a b c d Z;rfl
 | succ n ihn=>
  intro a b c d Z
  rw[BP]
  refine(ru E D W N (KX Jx) Mv (BE (fun rec s'=>AW E D W N (Qf Mv) s' (kX Kk [] [] rec) (T3 E D W N (KX Jx)) (Et E)) n) a b c d Z).trans ?_
  simp only[ihn,mB]
  kernel_rfl
def iY:=Sm E D W (S8 E D W N N)
theorem mD (a b c d:Nat) (Z:H) :
 AW E D W N (aK (KX Jx) (Qf Mv)) (If a b c d Z) (Et E) nX (Et E)=iY E D W N a b c d Z:=by
 refine(ry E D W N (KX Jx) (Qf Mv)  a b c d Z).trans ?_
 simp only[kz]
 kernel_rfl
def nq (args:List V) (Z:H):AH:=
 AP args fun x1 l2=>
 Br x1 fun b3 o4=>
 AP l2 fun x5 l6=>
 Br x5 fun b7 o8=>
 AZ l6 (
 iY E D W N b3 o4 b7 o8 Z)
def A60:Eg:=⟨79,[.ptr,.ptr],[(.tmp 4)],(aK (KX Jx) (Qf Mv))⟩
theorem z6 (args:List V) (Z:H):CR E D W N A60 args Z=nq E D W N args Z:=by
 unfold nq
 simp only[<-mD]
 kernel_rfl
def Xn:List (Nat × EH):=[(0,.ptr),(1,.ptr),(2,.i),(7,.bool)]
def Hx (E:EB):St->AH:=fun s=>Ek E s [(.tmp 6)] fun l=>some (FF l,s.Z)
def cz (c0:XC):Nat->St->AH:=CC 0 (dX E D W N (.keep [(0,.ptr),(1,.ptr)] [] [] c0) (Hx E) nX (Hx E)) nX
def aJ (cc1:XC) (cc2:XC):XC:=(.z (.c 6 y1<|
 .nil)
 (.seq (.z (.m 8 0<|
 .p 9 [] (.buildSlice 9 1 [y3] [(0,1,(.con (V.str ⟨1,123⟩)))])<|
 .k 10 .bool 16 [(.t 8),(.t 9)]<|
 .P 11 (.un .not (.t 10))<|
 .nil)
 (.cond (.tmp 11) (.z (.c 6 y1<|
 .nil)
 .ret)
 .skip))
 (.seq (.z (.m 12 0<|
 .n 13 12<|
 .f 14 0 13<|
 .k 15 .bool 17 [(.t 14),(.con (V.str ⟨1,125⟩))]<|
 .P 16 (.un .not (.t 15))<|
 .m 7 16<|
 .nil)
 (.block 0 (.loop Xn [] [] cc2)))
 (.keep [(0,.ptr),(1,.ptr)] [] [] cc1))))
def Sj (E:EB) (D:BB) (W:AJ) (K2:Nat->Nat->Nat->Nat->Int->Bool->H->AH) (a b c d:Nat) (e:Int) (Z:H):AH:=
 let s1:=CO Z (.cells [.str (BS.mk 1 123)]);
 AV (D 16 [.ptr a b,.sl (H.next Z) 0 1 (.ex 1)] s1) fun u2 s3=>
 AT u2 fun x4=>
 AI (not x4) (
 some ((V.bool false),s3)) (
 AV (D 17 [.ptr a b,.str (BS.mk 1 125)] s3) fun u5 s6=>
 AT u5 fun x7=>
 K2 a b c d e (not x7) s6)
def Ow:XC:=(.z (.m 51 1<|
 .m 52 1<|
 .n 53 52<|
 .f 54 12 53<|
 .l 55 .any 54<|
 .u 56 55<|
 .n 57 51<|
 .f 58 13 57<|
 .w 1 58 56<|
 .nil)
 (.z (.m 59 0<|
 .p 60 [] wZ<|
 .k 61 .bool 16 [(.t 59),(.t 60)]<|
 .m 6 61<|
 .nil)
 .ret))
def ZI (E:EB) (D:BB) (W:AJ) (a b c d:Nat) (Z:H):AH:=
 Bm E Z c (AU d 12) fun u1=>
 BG u1 fun n2=>
 Dk 1 c (AU d 13) (V.int .i64 (AA n2)) Z fun s3=>
 let s4:=CO s3 (.cells [.str (BS.mk 1 125)]);
 AV (D 16 [.ptr a b,.sl (H.next s3) 0 1 (.ex 1)] s4) fun u5 s6=>
 AT u5 fun x7=>
 some ((V.bool x7),s6)
def Qe:XC:=(.seq (.z (.m 17 7<|
 .nil)
 (.cond (.tmp 17) .skip
 Rf))
 (.seq (.block 1 (.seq (.z (.m 22 0<|
 .n 23 22<|
 .f 24 0 23<|
 .k 25 .bool 38 [(.t 24),v7]<|
 .nil)
 (.cond (.tmp 25) (.z (.m 26 1<|
 .m 27 1<|
 .m 28 1<|
 .n 29 28<|
 .f 30 12 29<|
 .l 31 .any 30<|
 .u 32 31<|
 .n 33 26<|
 .f 34 14 33<|
 .op none .any [34] (.store 1 (.t 34) (.con y9))<|
 .n 35 27<|
 .f 36 13 35<|
 .w 1 36 32<|
 .nil)
 (.z (.m 37 0<|
 .m 38 1<|
 .m 39 2<|
 .k 40 .bool 70 [(.t 37),(.t 38),(.t 39)]<|
 .m 41 40<|
 .gA 41 true (.p 42 [0,41] y7<|
 .p 43 [41] wZ<|
 .op (some 44) .bool [42,43,41] (.call 16 [(.t 42),(.t 43)])<|
 .nil) 45 41 44<|
 .m 6 45<|
 .nil)
 .ret))
 .skip))
 (.z (.m 46 0<|
 .m 47 1<|
 .m 48 2<|
 .k 49 .bool 71 [(.t 46),(.t 47),(.i 0),(.t 48)]<|
 .P 50 (.un .not (.t 49))<|
 .nil)
 (.cond (.tmp 50) (.z (.c 6 y1<|
 .nil)
 .ret)
 .skip))))
 (.ops (.m 18 0<|
 .n 19 18<|
 .f 20 0 19<|
 .k 21 .bool 38 [(.t 20),nO]<|
 .m 7 21<|
 .nil))))
def Mk (E:EB) (D:BB) (W:AJ) (K1:Nat->Nat->Nat->Nat->H->AH) (R2:Nat->Nat->Nat->Nat->Int->Bool->H->AH) (a b c d:Nat) (e:Int) (f:Bool) (Z:H):AH:=
 AI f (
 AV (D 38 [.ptr a b,.str (BS.mk 3 3026478)] Z) fun u1 s2=>
 AT u1 fun x3=>
 AI x3 (
 Bm E s2 c (AU d 12) fun u4=>
 BG u4 fun n5=>
 Dk 1 c (AU d 14) (V.bool true) s2 fun s6=>
 Dk 1 c (AU d 13) (V.int .i64 (AA n5)) s6 fun s7=>
 AV (D 70 [.ptr a b,.ptr c d,.int .i64 e] s7) fun u8 s9=>
 AT u8 fun x10=>
 Ax (fun c11 s12=>
 some ((V.bool c11),s12)) fun k13=>
 AI x10 (
 let s14:=CO s9 (.cells [.str (BS.mk 1 125)]);
 AV (D 16 [.ptr a b,.sl (H.next s9) 0 1 (.ex 1)] s14) fun u15 s16=>
 AT u15 fun x17=>
 k13 x17 s16) (
 k13 false s9)) (
 AV (D 71 [.ptr a b,.ptr c d,.int .i64 (AA 0),.int .i64 e] s2) fun u18 s19=>
 AT u18 fun x20=>
 AI (not x20) (
 some ((V.bool false),s19)) (
 AV (D 38 [.ptr a b,.str (BS.mk 1 44)] s19) fun u21 s22=>
 AT u21 fun x23=>
 R2 a b c d e x23 s22))) (
 K1 a b c d Z)
def gI (a b c d:Nat) (e:Int) (Z:H):St:=⟨[(0,.ptr a b),(1,.ptr c d),(2,.int .i64 e)],[],[],Z⟩
def gH (a b c d:Nat) (Z:H):St:=⟨[(0,.ptr a b),(1,.ptr c d)],[],[],Z⟩
def VR (a b c d:Nat) (e:Int) (f:Bool) (Z:H):St:=⟨[(0,.ptr a b),(1,.ptr c d),(2,.int .i64 e),(7,.bool f)],[],[],Z⟩
theorem rq (cc1:XC) (cc2:XC) (a b c d:Nat) (e:Int) (Z:H) :
 AW E D W N (aJ cc1 cc2) (gI a b c d e Z) (Hx E) nX (Hx E) =
 Sj E D W (fun a b c d e f Z=>BE (fun rec s'=>AW E D W N cc2 s' (kX Xn [] [] rec) (cz E D W N cc1) (Hx E)) N (VR a b c d e f Z)) a b c d e Z:=by kernel_rfl
theorem rm (cc1:XC) (li2:St->AH) (a b c d:Nat) (e:Int) (f:Bool) (Z:H) :
 AW E D W N (Qe ) (VR a b c d e f Z) (kX Xn [] [] li2) (cz E D W N cc1) (Hx E) =
 Mk E D W (fun a b c d Z=>AW E D W N cc1 (gH a b c d Z) (Hx E) nX (Hx E)) (fun a b c d e f Z=>li2 (VR a b c d e f Z)) a b c d e f Z:=by kernel_rfl
def iT (E:EB) (D:BB) (W:AJ) (N:Nat):=ZI E D W
theorem lq (a b c d:Nat) (Z:H) :
 AW E D W N Ow (gH a b c d Z) (Hx E) nX (Hx E)=iT E D W N a b c d Z:=by kernel_rfl
def S7 (n:Nat):Nat->Nat->Nat->Nat->Int->Bool->H->AH:=
 Nat.rec (fun _ _ _ _ _ _ _=>none) (fun _ ih=>Mk E D W (iT E D W N ) ih) n
theorem ky (n:Nat):∀(a b c d:Nat) (e:Int) (f:Bool) (Z:H),
 BE (fun rec s'=>AW E D W N Qe s' (kX Xn [] [] rec) (cz E D W N Ow) (Hx E)) n (VR a b c d e f Z)=S7 E D W N n a b c d e f Z:=by
 induction n with
 | zero=>intro a b c d e f Z;rfl
 | succ n ihn=>
  intro a b c d e f Z
  rw[BP]
  refine(rm E D W N Ow (BE (fun rec s'=>AW E D W N Qe s' (kX Xn [] [] rec) (cz E D W N Ow) (Hx E)) n) a b c d e f Z).trans ?_
  simp only[ihn,lq]
  kernel_rfl
def iU:=Sj E D W (S7 E D W N N)
theorem lu (a b c d:Nat) (e:Int) (Z:H) :
 AW E D W N (aJ Ow Qe) (gI a b c d e Z) (Hx E) nX (Hx E)=iU E D W N a b c d e Z:=by
 refine(rq E D W N Ow Qe  a b c d e Z).trans ?_
 simp only[ky]
 kernel_rfl
def nn (args:List V) (Z:H):AH:=
 AP args fun x1 l2=>
 Br x1 fun b3 o4=>
 AP l2 fun x5 l6=>
 Br x5 fun b7 o8=>
 BV .i64 l6 fun x11 l10=>
 AZ l10 (
 iU E D W N b3 o4 b7 o8 x11 Z)
def A61:Eg:=⟨62,[.ptr,.ptr,.i],[(.tmp 6)],(aJ Ow Qe)⟩
theorem zy (args:List V) (Z:H):CR E D W N A61 args Z=nn E D W N args Z:=by
 unfold nn
 simp only[<-lu]
 kernel_rfl
def uz:XC:=(.z (.c 6 y1<|
 .nil)
 (.seq (.z (.m 8 0<|
 .n 9 8<|
 .f 10 0 9<|
 .k 11 .bool 17 [(.t 10),(.con (V.str ⟨1,123⟩))]<|
 .nil)
 (.cond (.tmp 11) (.z (.m 12 1<|
 .n 13 12<|
 .f 14 0 13<|
 .op none .any [14] (.store 1 (.t 14) (.i 7))<|
 .nil)
 (.z (.m 15 0<|
 .m 16 1<|
 .m 17 2<|
 .k 18 .bool 61 [(.t 15),(.t 16),(.t 17)]<|
 .m 6 18<|
 .nil)
 .ret))
 .skip))
 (.z (.m 19 1<|
 .n 20 19<|
 .f 21 0 20<|
 .op none .any [21] (.store 1 (.t 21) (.i 10))<|
 .nil)
 (.seq (.z (.m 22 0<|
 .m 23 1<|
 .n 24 23<|
 .f 25 5 24<|
 .k 26 .bool 58 [(.t 22),(.t 25)]<|
 .P 27 (.un .not (.t 26))<|
 .m 28 27<|
 .gO 28 false (.p 29 [0,28] y7<|
 .p 30 [28] (.buildSlice 9 1 [y3] [(0,1,(.con (V.str ⟨2,17999⟩)))])<|
 .op (some 31) .bool [29,30,28] (.call 16 [(.t 29),(.t 30)])<|
 .p 32 [31,28] (.un .not (.t 31))<|
 .nil) 33 28 32<|
 .nil)
 (.cond (.tmp 33) (.z (.c 6 y1<|
 .nil)
 .ret)
 .skip))
 (.z (.c 7 y1<|
 .nil)
 (.z (.m 35 1<|
 .m 36 0<|
 .m 37 2<|
 .b 38 .add .none (.t 37) (.i 1)<|
 .k 39 (.tup [.i,.bool]) 39 [(.t 36),(.t 38)]<|
 .m 34 39<|
 .P 40 (.extract 0 (.t 34))<|
 .P 41 (.extract 1 (.t 34))<|
 .n 42 35<|
 .f 43 15 42<|
 .w 1 43 40<|
 .m 7 41<|
 .nil)
 (.z (.m 44 7<|
 .m 6 44<|
 .nil)
 .ret)))))))
def QH (E:EB) (D:BB) (W:AJ) (a b c d:Nat) (e:Int) (Z:H):AH:=
 AV (D 17 [.ptr a b,.str (BS.mk 1 123)] Z) fun u1 s2=>
 AT u1 fun x3=>
 AI x3 (
 Dk 1 c d (V.int .i64 (AA 7)) s2 fun s4=>
 AV (D 61 [.ptr a b,.ptr c d,.int .i64 e] s4) fun u5 s6=>
 AT u5 fun x7=>
 some ((V.bool x7),s6)) (
 Dk 1 c d (V.int .i64 (AA 10)) s2 fun s8=>
 AV (D 58 [.ptr a b,.ptr c (AU d 5)] s8) fun u9 s10=>
 AT u9 fun x11=>
 Ax (fun c12 s13=>
 AI c12 (
 some ((V.bool false),s13)) (
 AV (D 39 [.ptr a b,.int .i64 (CJ .i64 e (AA 1))] s13) fun u15 s16=>
 Cw u15 fun l17=>
 BV .i64 l17 fun x20 l19=>
 DQ l19 fun x23 l22=>
 AZ l22 (
 Dk 1 c (AU d 15) (V.int .i64 x20) s16 fun s24=>
 some ((V.bool x23),s24)))) fun k14=>
 AI (not x11) (
 k14 true s10) (
 let s25:=CO s10 (.cells [.str (BS.mk 2 17999)]);
 AV (D 16 [.ptr a b,.sl (H.next s10) 0 1 (.ex 1)] s25) fun u26 s27=>
 AT u26 fun x28=>
 k14 (not x28) s27))
def uJ (N:Nat) (args:List V) (Z:H):AH:=
 AP args fun x1 l2=>
 Br x1 fun b3 o4=>
 AP l2 fun x5 l6=>
 Br x5 fun b7 o8=>
 BV .i64 l6 fun x11 l10=>
 AZ l10 (
 QH E D W b3 o4 b7 o8 x11 Z)
def A62:Eg:=⟨45,[.ptr,.ptr,.i],[(.tmp 6)],uz⟩
theorem zx (args:List V) (Z:H):CR E D W N A62 args Z=uJ E D W N args Z:=by kernel_rfl
def My:List (Nat × EH):=[(1,.i),(8,.bool),(9,.str),(10,(.int .u64)),(11,(.int .u64)),(12,.bool),(13,(.int .u64)),(99,.any),(100,.i),(101,.i)]
def pg:List (Nat × EH):=[(9,.str),(12,.bool),(13,(.int .u64))]
def Cv (E:EB):St->AH:=fun s=>Ek E s [(.tmp 6),(.tmp 7)] fun l=>some (FF l,s.Z)
def M4 (c0:XC):Nat->St->AH:=CC 3 (dX E D W N (.keep pg [] [] c0) (Cv E) nX (Cv E)) nX
def Wa (c0 c1:XC) (l0:St->AH):St->AH:=dX E D W N (.keep My [] [] c0) (kX My [] [] l0) (M4 E D W N c1) (Cv E)
def aI (cc1:XC):XC:=(.z (.c 6 UN<|
 .c 7 V.nili<|
 .nil)
 (.seq (.z (.m 18 0<|
 .b 19 .eql .none (.t 18) (.con y3)<|
 .nil)
 (.cond (.tmp 19) (.z (.P 20 (.mkifc 120 (.i 2))<|
 .c 6 UN<|
 .m 7 20<|
 .nil)
 .ret)
 .skip))
 (.z (.m 21 1<|
 .b 22 .eql .none (.t 21) (.i 0)<|
 .m 8 22<|
 .nil)
 (.z (.m 23 0<|
 .m 9 23<|
 .nil)
 (.seq (.block 0 (.z (.m 26 1<|
 .b 27 .leq .none (.i 2) (.t 26)<|
 .m 28 27<|
 .gA 28 true (.p 29 [1,28] (.mov (.t 1))<|
 .p 30 [29,28] (.bin .leq .none (.t 29) (.i 36))<|
 .nil) 31 28 30<|
 .m 25 31<|
 .nil)
 (.cond (.tmp 25) .skip
 (.z (.m 33 1<|
 .b 34 .eql .none (.t 33) (.i 0)<|
 .m 32 34<|
 .nil)
 (.cond (.tmp 32) (.z (.q 1 10<|
 .nil)
 (.z (.m 35 0<|
 .P 36 (.idxStr (.t 35) (.i 0))<|
 .b 37 .eql .none (.t 36) oH<|
 .nil)
 (.cond (.tmp 37) (.block 1 (.z (.m 41 0<|
 .P 42 (.len true (.t 41))<|
 .b 43 .geq .none (.t 42) (.i 3)<|
 .m 44 43<|
 .gA 44 true (.p 45 [0,44] y7<|
 .p 46 [45,44] (.idxStr (.t 45) (.i 1))<|
 .op (some 47) (.int .u8) [46,44] (.call 72 [(.t 46)])<|
 .p 48 [47,44] (.bin .eql .none (.t 47) (.con (V.int .u8 (AA 98))))<|
 .nil) 49 44 48<|
 .m 40 49<|
 .nil)
 (.cond (.tmp 40) (.z (.q 1 2<|
 .nil)
 (.ops (.m 50 0<|
 .p 51 [50] (.sliceStr (.t 50) (some (.i 2)) none)<|
 .m 0 51<|
 .nil)))
 (.z (.m 53 0<|
 .P 54 (.len true (.t 53))<|
 .b 55 .geq .none (.t 54) (.i 3)<|
 .m 56 55<|
 .gA 56 true (.p 57 [0,56] y7<|
 .p 58 [57,56] (.idxStr (.t 57) (.i 1))<|
 .op (some 59) (.int .u8) [58,56] (.call 72 [(.t 58)])<|
 .p 60 [59,56] (.bin .eql .none (.t 59) (.con (V.int .u8 (AA 111))))<|
 .nil) 61 56 60<|
 .m 52 61<|
 .nil)
 (.cond (.tmp 52) (.z (.q 1 8<|
 .nil)
 (.ops (.m 62 0<|
 .p 63 [62] (.sliceStr (.t 62) (some (.i 2)) none)<|
 .m 0 63<|
 .nil)))
 (.z (.m 65 0<|
 .P 66 (.len true (.t 65))<|
 .b 67 .geq .none (.t 66) (.i 3)<|
 .m 68 67<|
 .gA 68 true (.p 69 [0,68] y7<|
 .p 70 [69,68] (.idxStr (.t 69) (.i 1))<|
 .op (some 71) (.int .u8) [70,68] (.call 72 [(.t 70)])<|
 .p 72 [71,68] (.bin .eql .none (.t 71) (.con (V.int .u8 (AA 120))))<|
 .nil) 73 68 72<|
 .m 64 73<|
 .nil)
 (.cond (.tmp 64) (.z (.q 1 16<|
 .nil)
 (.ops (.m 74 0<|
 .p 75 [74] (.sliceStr (.t 74) (some (.i 2)) none)<|
 .m 0 75<|
 .nil)))
 (.z (.q 1 8<|
 .nil)
 (.ops (.m 38 0<|
 .p 39 [38] (.sliceStr (.t 38) (some (.i 1)) none)<|
 .m 0 39<|
 .nil))))))))))
 .skip)))
 (.z (.P 24 (.mkifc 120 (.i 3))<|
 .c 6 UN<|
 .m 7 24<|
 .nil)
 .ret))))))
 (.keep [(0,.str),(1,.i),(2,.i),(8,.bool),(9,.str)] [] [] cc1))))))
def VF (E:EB) (D:BB) (W:AJ) (K1:BS->Int->Int->Bool->BS->H->AH) (a:BS) (b c:Int) (Z:H):AH:=
 AI (BS.beq a (BS.mk 0 0)) (
 some ((V.tup [.int .u64 (AA 0),.ifc 120 (V.int .i64 (AA 2))]),Z)) (
 Ax (fun c1 s2=>
 AI c1 (
 K1 a b c (D0 b (AA 0)) a s2) (
 AI (D0 b (AA 0)) (
 Ei a (AA 0) fun x4=>
 AI (D0 x4 (AA 48)) (
 Ax (fun c5 s6=>
 AI c5 (
 CW a (some (V.int .i64 (AA 2))) none fun t8=>
 K1 t8 (AA 2) c (D0 b (AA 0)) a s6) (
 Ax (fun c9 s10=>
 AI c9 (
 CW a (some (V.int .i64 (AA 2))) none fun t12=>
 K1 t12 (AA 8) c (D0 b (AA 0)) a s10) (
 Ax (fun c13 s14=>
 AI c13 (
 CW a (some (V.int .i64 (AA 2))) none fun t16=>
 K1 t16 (AA 16) c (D0 b (AA 0)) a s14) (
 CW a (some (V.int .i64 (AA 1))) none fun t17=>
 K1 t17 (AA 8) c (D0 b (AA 0)) a s14)) fun k15=>
 AI (Ip (AA 3) (AA (BS.len a))) (
 Ei a (AA 1) fun x18=>
 AV (D 72 [.int .u8 x18] s10) fun u19 s20=>
 Al .u8 u19 fun x21=>
 k15 (D0 x21 (AA 120)) s20) (
 k15 false s10))) fun k11=>
 AI (Ip (AA 3) (AA (BS.len a))) (
 Ei a (AA 1) fun x22=>
 AV (D 72 [.int .u8 x22] s6) fun u23 s24=>
 Al .u8 u23 fun x25=>
 k11 (D0 x25 (AA 111)) s24) (
 k11 false s6))) fun k7=>
 AI (Ip (AA 3) (AA (BS.len a))) (
 Ei a (AA 1) fun x26=>
 AV (D 72 [.int .u8 x26] s2) fun u27 s28=>
 Al .u8 u27 fun x29=>
 k7 (D0 x29 (AA 98)) s28) (
 k7 false s2)) (
 K1 a (AA 10) c (D0 b (AA 0)) a s2)) (
 some ((V.tup [.int .u64 (AA 0),.ifc 120 (V.int .i64 (AA 3))]),s2)))) fun k3=>
 AI (Ip (AA 2) b) (
 k3 (Ip b (AA 36)) Z) (
 k3 false Z))
def TM (cc2:XC):XC:=(.seq (.z (.m 76 2<|
 .b 77 .eql .none (.t 76) (.i 0)<|
 .nil)
 (.cond (.tmp 77) (.ops (.q 2 64<|
 .nil))
 (.z (.m 78 2<|
 .b 79 .lss .none (.t 78) (.i 0)<|
 .m 80 79<|
 .gO 80 false (.p 81 [2,80] (.mov (.t 2))<|
 .p 82 [81,80] (.bin .gtr .none (.t 81) (.i 64))<|
 .nil) 83 80 82<|
 .nil)
 (.cond (.tmp 83) (.z (.P 84 (.mkifc 120 (.i 4))<|
 .c 6 UN<|
 .m 7 84<|
 .nil)
 .ret)
 .skip))))
 (.keep [(0,.str),(1,.i),(2,.i),(8,.bool),(9,.str)] [] [] cc2))
def VE (E:EB) (D:BB) (W:AJ) (K2:BS->Int->Int->Bool->BS->H->AH) (a:BS) (b c:Int) (d:Bool) (e:BS) (Z:H):AH:=
 AI (D0 c (AA 0)) (
 K2 a b (AA 64) d e Z) (
 Ax (fun c1 s2=>
 AI c1 (
 some ((V.tup [.int .u64 (AA 0),.ifc 120 (V.int .i64 (AA 4))]),s2)) (
 K2 a b c d e s2)) fun k3=>
 AI (Dt c (AA 0)) (
 k3 true Z) (
 k3 (Dt (AA 64) c) Z))
def Ov (cc3:XC):XC:=(.z (.c 10 UN<|
 .nil)
 (.seq (.z (.m 85 1<|
 .nil)
 (.block 2 (.z (.b 91 .eql .none (.t 85) (.i 10)<|
 .m 90 91<|
 .nil)
 (.cond (.tmp 90) (.ops (.c 10 (V.int .u64 (AA 1844674407370955162))<|
 .nil))
 (.z (.b 93 .eql .none (.t 85) (.i 16)<|
 .m 92 93<|
 .nil)
 (.cond (.tmp 92) (.ops (.c 10 (V.int .u64 (AA 1152921504606846976))<|
 .nil))
 (.ops (.m 86 1<|
 .P 87 (.conv (.toInt .u64) (.t 86))<|
 .b 88 .quo .none (.con (V.int .u64 (AA 18446744073709551615))) (.t 87)<|
 .b 89 .add .none (.t 88) (.con (V.int .u64 (AA 1)))<|
 .m 10 89<|
 .nil))))))))
 (.keep [(0,.str),(1,.i),(2,.i),(8,.bool),(9,.str),(10,(.int .u64))] [] [] cc3)))
def VD (E:EB) (D:BB) (W:AJ) (K3:BS->Int->Int->Bool->BS->Int->H->AH) (a:BS) (b c:Int) (d:Bool) (e:BS) (Z:H):AH:=
 AI (D0 b (AA 10)) (
 K3 a b c d e (AA 1844674407370955162) Z) (
 AI (D0 b (AA 16)) (
 K3 a b c d e (AA 1152921504606846976) Z) (
 po (B4 .u64 b) (
 K3 a b c d e (CJ .u64 (jz .u64 (AA 18446744073709551615) (B4 .u64 b)) (AA 1)) Z)))
def Lz (cc4:XC) (cc5:XC):XC:=(.z (.m 94 2<|
 .P 95 (.conv (.toInt .u64) (.t 94))<|
 .b 96 .shl .none (.con (V.int .u64 (AA 1))) (.t 95)<|
 .b 97 .sub .none (.t 96) (.con (V.int .u64 (AA 1)))<|
 .m 11 97<|
 .nil)
 (.z (.c 12 y1<|
 .nil)
 (.z (.c 13 UN<|
 .nil)
 (.seq (.z (.m 98 0<|
 .P 99 (.conv (.toBytes 5) (.t 98))<|
 .u 100 99<|
 .q 101 0<|
 .nil)
 (.block 3 (.loop My [] [] cc5)))
 (.keep pg [] [] cc4)))))
def VC (E:EB) (D:BB) (W:AJ) (K5:Int->Bool->BS->Int->Int->Bool->Int->V->Int->Int->H->AH) (a:BS) (b c:Int) (d:Bool) (e:BS) (f:Int) (Z:H):AH:=
 Td (B4 .u64 c) fun n1=>
 I5 (Ab (BS.len a) 1000000000000) (
 let s2:=CO Z (.cells (PS (BS.toList a)));
 BG (V.sl (H.next Z) 0 (BS.len a) (.op 1)) fun n3=>
 K5 b d e f (JQ .u64 (G3 .u64 (AA 1) n1) (AA 1)) false (AA 0) (V.sl (H.next Z) 0 (BS.len a) (.op 1)) (AA n3) (AA 0) s2)
def Fx:XC:=(.seq (.z (.m 164 12<|
 .m 165 164<|
 .gA 165 true (.p 166 [9,165] (.mov (.t 9))<|
 .op (some 167) .bool [166,165] (.call 73 [(.t 166)])<|
 .p 168 [167,165] (.un .not (.t 167))<|
 .nil) 169 165 168<|
 .nil)
 (.cond (.tmp 169) (.z (.P 170 (.mkifc 120 (.i 2))<|
 .c 6 UN<|
 .m 7 170<|
 .nil)
 .ret)
 .skip))
 (.z (.m 171 13<|
 .m 6 171<|
 .c 7 V.nili<|
 .nil)
 .ret))
def ZH (E:EB) (D:BB) (W:AJ) (a:BS) (b:Bool) (c:Int) (Z:H):AH:=
 Ax (fun c1 s2=>
 AI c1 (
 some ((V.tup [.int .u64 (AA 0),.ifc 120 (V.int .i64 (AA 2))]),s2)) (
 some ((V.tup [.int .u64 c,V.nili]),s2))) fun k3=>
 AI b (
 AV (D 73 [.str a] Z) fun u4 s5=>
 AT u4 fun x6=>
 k3 (not x6) s5) (
 k3 false Z)
def JB (cc6:XC) (cc7:XC):XC:=(.z (.b 102 .lss .none (.t 101) (.t 100)<|
 .nil)
 (.seq (.cond (.tmp 102) .skip
 (.exit 3))
 (.seq (.block 4 (.z (.s 103 1 99 101<|
 .l 104 (.int .u8) 103<|
 .m 15 104<|
 .nil)
 (.z (.c 16 eM<|
 .nil)
 (.seq (.block 5 (.z (.m 107 15<|
 .b 108 .eql .none (.t 107) (.con (V.int .u8 (AA 95)))<|
 .m 109 108<|
 .gA 109 true (.p 110 [8,109] (.mov (.t 8))<|
 .nil) 111 109 110<|
 .m 106 111<|
 .nil)
 (.cond (.tmp 106) (.z (.c 12 y9<|
 .nil)
 (.exit 4))
 (.z (.m 113 15<|
 .b 114 .leq .none oH (.t 113)<|
 .m 115 114<|
 .gA 115 true (.p 116 [15,115] (.mov (.t 15))<|
 .p 117 [116,115] (.bin .leq .none (.t 116) (.con (V.int .u8 (AA 57))))<|
 .nil) 118 115 117<|
 .m 112 118<|
 .nil)
 (.cond (.tmp 112) (.ops (.m 119 15<|
 .b 120 .sub .none (.t 119) oH<|
 .m 16 120<|
 .nil))
 (.z (.m 122 15<|
 .k 123 (.int .u8) 72 [(.t 122)]<|
 .b 124 .leq .none (.con (V.int .u8 (AA 97))) (.t 123)<|
 .m 125 124<|
 .gA 125 true (.p 126 [15,125] (.mov (.t 15))<|
 .op (some 127) (.int .u8) [126,125] (.call 72 [(.t 126)])<|
 .p 128 [127,125] (.bin .leq .none (.t 127) (.con (V.int .u8 (AA 122))))<|
 .nil) 129 125 128<|
 .m 121 129<|
 .nil)
 (.cond (.tmp 121) (.ops (.m 130 15<|
 .k 131 (.int .u8) 72 [(.t 130)]<|
 .b 132 .sub .none (.t 131) (.con (V.int .u8 (AA 97)))<|
 .b 133 .add .none (.t 132) (.con (V.int .u8 (AA 10)))<|
 .m 16 133<|
 .nil))
 (.z (.P 105 (.mkifc 120 (.i 2))<|
 .c 6 UN<|
 .m 7 105<|
 .nil)
 .ret))))))))
 (.keep [(1,.i),(8,.bool),(9,.str),(10,(.int .u64)),(11,(.int .u64)),(12,.bool),(13,(.int .u64)),(16,(.int .u8)),(99,.any),(100,.i),(101,.i)] [] [] cc7)))))
 (.keep My [] [] cc6))))
def OY (E:EB) (D:BB) (W:AJ) (K4:BS->Bool->Int->H->AH) (K6:Int->Bool->BS->Int->Int->Bool->Int->V->Int->Int->H->AH) (K7:Int->Bool->BS->Int->Int->Bool->Int->Int->V->Int->Int->H->AH) (a:Int) (b:Bool) (c:BS) (d e:Int) (f:Bool) (g:Int) (h:V) (i j:Int) (Z:H):AH:=
 AI (Dt j i) (
 Am 1 h j fun b1 o2=>
 Bm E Z b1 o2 fun u3=>
 Al .u8 u3 fun x4=>
 Ax (fun c5 s6=>
 AI c5 (
 K6 a b c d e true g h i j s6) (
 Ax (fun c8 s9=>
 AI c8 (
 K7 a b c d e f g (JQ .u8 x4 (AA 48)) h i j s9) (
 AV (D 72 [.int .u8 x4] s9) fun u11 s12=>
 Al .u8 u11 fun x13=>
 Ax (fun c14 s15=>
 AI c14 (
 AV (D 72 [.int .u8 x4] s15) fun u17 s18=>
 Al .u8 u17 fun x19=>
 K7 a b c d e f g (CJ .u8 (JQ .u8 x19 (AA 97)) (AA 10)) h i j s18) (
 some ((V.tup [.int .u64 (AA 0),.ifc 120 (V.int .i64 (AA 2))]),s15))) fun k16=>
 AI (Ip (AA 97) x13) (
 AV (D 72 [.int .u8 x4] s12) fun u20 s21=>
 Al .u8 u20 fun x22=>
 k16 (Ip x22 (AA 122)) s21) (
 k16 false s12))) fun k10=>
 AI (Ip (AA 48) x4) (
 k10 (Ip x4 (AA 57)) s6) (
 k10 false s6))) fun k7=>
 AI (D0 x4 (AA 95)) (
 k7 b Z) (
 k7 false Z)) (
 K4 c f g Z)
def Gt:XC:=(.ops (.b 163 .add .none (.t 101) (.i 1)<|
 .m 101 163<|
 .nil))
def VB (E:EB) (D:BB) (W:AJ) (R5:Int->Bool->BS->Int->Int->Bool->Int->V->Int->Int->H->AH) (a:Int) (b:Bool) (c:BS) (d e:Int) (f:Bool) (g:Int) (h:V) (i j:Int) (Z:H):AH:=
 R5 a b c d e f g h i (CJ .i64 j (AA 1)) Z
def IC:XC:=(.seq (.z (.m 134 16<|
 .m 135 1<|
 .P 136 (.conv (.toInt .u8) (.t 135))<|
 .b 137 .geq .none (.t 134) (.t 136)<|
 .nil)
 (.cond (.tmp 137) (.z (.P 138 (.mkifc 120 (.i 2))<|
 .c 6 UN<|
 .m 7 138<|
 .nil)
 .ret)
 .skip))
 (.seq (.z (.m 139 13<|
 .m 140 10<|
 .b 141 .geq .none (.t 139) (.t 140)<|
 .nil)
 (.cond (.tmp 141) (.z (.m 142 11<|
 .P 143 (.mkifc 120 (.i 1))<|
 .m 6 142<|
 .m 7 143<|
 .nil)
 .ret)
 .skip))
 (.z (.m 144 13<|
 .m 145 1<|
 .P 146 (.conv (.toInt .u64) (.t 145))<|
 .b 147 .mul .none (.t 144) (.t 146)<|
 .m 13 147<|
 .nil)
 (.z (.m 148 13<|
 .m 149 16<|
 .P 150 (.conv (.toInt .u64) (.t 149))<|
 .b 151 .add .none (.t 148) (.t 150)<|
 .m 17 151<|
 .nil)
 (.seq (.z (.m 152 17<|
 .m 153 13<|
 .b 154 .lss .none (.t 152) (.t 153)<|
 .m 155 154<|
 .gO 155 false (.p 156 [17,155] (.mov (.t 17))<|
 .p 157 [11,155] (.mov (.t 11))<|
 .p 158 [156,157,155] (.bin .gtr .none (.t 156) (.t 157))<|
 .nil) 159 155 158<|
 .nil)
 (.cond (.tmp 159) (.z (.m 160 11<|
 .P 161 (.mkifc 120 (.i 1))<|
 .m 6 160<|
 .m 7 161<|
 .nil)
 .ret)
 .skip))
 (.ops (.m 162 17<|
 .m 13 162<|
 .nil)))))))
def QG (E:EB) (D:BB) (W:AJ) (K6:Int->Bool->BS->Int->Int->Bool->Int->V->Int->Int->H->AH) (a:Int) (b:Bool) (c:BS) (d e:Int) (f:Bool) (g h:Int) (i:V) (j k:Int) (Z:H):AH:=
 AI (Ip (B4 .u8 a) h) (
 some ((V.tup [.int .u64 (AA 0),.ifc 120 (V.int .i64 (AA 2))]),Z)) (
 AI (Ip d g) (
 some ((V.tup [.int .u64 e,.ifc 120 (V.int .i64 (AA 1))]),Z)) (
 Ax (fun c1 s2=>
 AI c1 (
 some ((V.tup [.int .u64 e,.ifc 120 (V.int .i64 (AA 1))]),s2)) (
 K6 a b c d e f (CJ .u64 (Te .u64 g (B4 .u64 a)) (B4 .u64 h)) i j k s2)) fun k3=>
 AI (Dt (CJ .u64 (Te .u64 g (B4 .u64 a)) (B4 .u64 h)) (Te .u64 g (B4 .u64 a))) (
 k3 true Z) (
 k3 (Dt e (CJ .u64 (Te .u64 g (B4 .u64 a)) (B4 .u64 h))) Z)))
def gG (a:BS) (b c:Int) (Z:H):St:=⟨[(0,.str a),(1,.int .i64 b),(2,.int .i64 c)],[],[],Z⟩
def QO (a:BS) (b c:Int) (d:Bool) (e:BS) (Z:H):St:=⟨[(0,.str a),(1,.int .i64 b),(2,.int .i64 c),(8,.bool d),(9,.str e)],[],[],Z⟩
def Zg (a:BS) (b c:Int) (d:Bool) (e:BS) (f:Int) (Z:H):St:=⟨[(0,.str a),(1,.int .i64 b),(2,.int .i64 c),(8,.bool d),(9,.str e),(10,.int .u64 f)],[],[],Z⟩
def gF (a:BS) (b:Bool) (c:Int) (Z:H):St:=⟨[(9,.str a),(12,.bool b),(13,.int .u64 c)],[],[],Z⟩
def KU (a:Int) (b:Bool) (c:BS) (d e:Int) (f:Bool) (g:Int) (h:V) (i j:Int) (Z:H):St:=⟨[(1,.int .i64 a),(8,.bool b),(9,.str c),(10,.int .u64 d),(11,.int .u64 e),(12,.bool f),(13,.int .u64 g),(99,h),(100,.int .i64 i),(101,.int .i64 j)],[],[],Z⟩
def Zf (a:Int) (b:Bool) (c:BS) (d e:Int) (f:Bool) (g h:Int) (i:V) (j k:Int) (Z:H):St:=⟨[(1,.int .i64 a),(8,.bool b),(9,.str c),(10,.int .u64 d),(11,.int .u64 e),(12,.bool f),(13,.int .u64 g),(16,.int .u8 h),(99,i),(100,.int .i64 j),(101,.int .i64 k)],[],[],Z⟩
theorem rl (cc1:XC) (a:BS) (b c:Int) (Z:H) :
 AW E D W N (aI cc1) (gG a b c Z) (Cv E) nX (Cv E) =
 VF E D W (fun a b c d e Z=>AW E D W N cc1 (QO a b c d e Z) (Cv E) nX (Cv E)) a b c Z:=by kernel_rfl
theorem rk (cc2:XC) (a:BS) (b c:Int) (d:Bool) (e:BS) (Z:H) :
 AW E D W N (TM cc2) (QO a b c d e Z) (Cv E) nX (Cv E) =
 VE E D W (fun a b c d e Z=>AW E D W N cc2 (QO a b c d e Z) (Cv E) nX (Cv E)) a b c d e Z:=by kernel_rfl
theorem rj (cc3:XC) (a:BS) (b c:Int) (d:Bool) (e:BS) (Z:H) :
 AW E D W N (Ov cc3) (QO a b c d e Z) (Cv E) nX (Cv E) =
 VD E D W (fun a b c d e f Z=>AW E D W N cc3 (Zg a b c d e f Z) (Cv E) nX (Cv E)) a b c d e Z:=by kernel_rfl
theorem ri (cc4:XC) (cc5:XC) (a:BS) (b c:Int) (d:Bool) (e:BS) (f:Int) (Z:H) :
 AW E D W N (Lz cc4 cc5) (Zg a b c d e f Z) (Cv E) nX (Cv E) =
 VC E D W (fun b d e f g h i j k l Z=>BE (fun rec s'=>AW E D W N cc5 s' (kX My [] [] rec) (M4 E D W N cc4) (Cv E)) N (KU b d e f g h i j k l Z)) a b c d e f Z:=by kernel_rfl
theorem rh (cc4:XC) (cc6:XC) (cc7:XC) (li5:St->AH) (a:Int) (b:Bool) (c:BS) (d e:Int) (f:Bool) (g:Int) (h:V) (i j:Int) (Z:H) :
 AW E D W N (JB cc6 cc7) (KU a b c d e f g h i j Z) (kX My [] [] li5) (M4 E D W N cc4) (Cv E) =
 OY E D W (fun c f g Z=>AW E D W N cc4 (gF c f g Z) (Cv E) nX (Cv E)) (fun a b c d e f g h i j Z=>AW E D W N cc6 (KU a b c d e f g h i j Z) (kX My [] [] li5) (M4 E D W N cc4) (Cv E)) (fun a b c d e f g k h i j Z=>AW E D W N cc7 (Zf a b c d e f g k h i j Z) (Wa E D W N cc6 cc4 li5) (CC 4 (Wa E D W N cc6 cc4 li5) (M4 E D W N cc4)) (Cv E)) a b c d e f g h i j Z:=by kernel_rfl
theorem re (cc4:XC) (li5:St->AH) (a:Int) (b:Bool) (c:BS) (d e:Int) (f:Bool) (g:Int) (h:V) (i j:Int) (Z:H) :
 AW E D W N (Gt ) (KU a b c d e f g h i j Z) (kX My [] [] li5) (M4 E D W N cc4) (Cv E) =
 VB E D W (fun a b c d e f g h i j Z=>li5 (KU a b c d e f g h i j Z)) a b c d e f g h i j Z:=by kernel_rfl
theorem ra (cc4:XC) (cc6:XC) (li5:St->AH) (a:Int) (b:Bool) (c:BS) (d e:Int) (f:Bool) (g h:Int) (i:V) (j k:Int) (Z:H) :
 AW E D W N (IC ) (Zf a b c d e f g h i j k Z) (Wa E D W N cc6 cc4 li5) (CC 4 (Wa E D W N cc6 cc4 li5) (M4 E D W N cc4)) (Cv E) =
 QG E D W (fun a b c d e f g i j k Z=>AW E D W N cc6 (KU a b c d e f g i j k Z) (kX My [] [] li5) (M4 E D W N cc4) (Cv E)) a b c d e f g h i j k Z:=by kernel_rfl
def Zv (E:EB) (D:BB) (W:AJ) (N:Nat):=ZH E D W
theorem lZ (a:BS) (b:Bool) (c:Int) (Z:H) :
 AW E D W N Fx (gF a b c Z) (Cv E) nX (Cv E)=Zv E D W N a b c Z:=by kernel_rfl
def Mp (E:EB) (D:BB) (W:AJ) (N:Nat) (R5:Int->Bool->BS->Int->Int->Bool->Int->V->Int->Int->H->AH):=VB E D W R5
theorem Zq (li5:St->AH) (a:Int) (b:Bool) (c:BS) (d e:Int) (f:Bool) (g:Int) (h:V) (i j:Int) (Z:H) :
 AW E D W N Gt (KU a b c d e f g h i j Z) (kX My [] [] li5) (M4 E D W N Fx) (Cv E)=Mp E D W N (fun a b c d e f g h i j Z=>li5 (KU a b c d e f g h i j Z)) a b c d e f g h i j Z:=by
 refine(re E D W N Fx li5 a b c d e f g h i j Z).trans ?_
 kernel_rfl
def Zu (R5:Int->Bool->BS->Int->Int->Bool->Int->V->Int->Int->H->AH):=QG E D W (Mp E D W N R5)
theorem lY (li5:St->AH) (a:Int) (b:Bool) (c:BS) (d e:Int) (f:Bool) (g h:Int) (i:V) (j k:Int) (Z:H) :
 AW E D W N IC (Zf a b c d e f g h i j k Z) (Wa E D W N Gt Fx li5) (CC 4 (Wa E D W N Gt Fx li5) (M4 E D W N Fx)) (Cv E)=Zu E D W N (fun a b c d e f g i j k Z=>li5 (KU a b c d e f g i j k Z)) a b c d e f g h i j k Z:=by
 refine(ra E D W N Fx Gt li5 a b c d e f g h i j k Z).trans ?_
 simp only[Zq]
 kernel_rfl
def Vf (n:Nat):Int->Bool->BS->Int->Int->Bool->Int->V->Int->Int->H->AH:=
 Nat.rec (fun _ _ _ _ _ _ _ _ _ _ _=>none) (fun _ ih=>OY E D W (Zv E D W N ) (Mp E D W N ih) (Zu E D W N ih)) n
theorem kv (n:Nat):∀(a:Int) (b:Bool) (c:BS) (d e:Int) (f:Bool) (g:Int) (h:V) (i j:Int) (Z:H),
 BE (fun rec s'=>AW E D W N (JB Gt IC) s' (kX My [] [] rec) (M4 E D W N Fx) (Cv E)) n (KU a b c d e f g h i j Z)=Vf E D W N n a b c d e f g h i j Z:=by
 induction n with
 | zero=>intro a b c d e f g h i j Z;rfl
 | succ n ihn=>
  intro a b c d e f g h i j Z
  rw[BP]
  refine(rh E D W N Fx Gt IC (BE (fun rec s'=>AW E D W N (JB Gt IC) s' (kX My [] [] rec) (M4 E D W N Fx) (Cv E)) n) a b c d e f g h i j Z).trans ?_
  simp only[ihn,lZ,Zq,lY]
  kernel_rfl
def iP:=VC E D W (Vf E D W N N)
theorem la (a:BS) (b c:Int) (d:Bool) (e:BS) (f:Int) (Z:H) :
 AW E D W N (Lz Fx (JB Gt IC)) (Zg a b c d e f Z) (Cv E) nX (Cv E)=iP E D W N a b c d e f Z:=by
 refine(ri E D W N Fx (JB Gt IC)  a b c d e f Z).trans ?_
 simp only[kv]
 kernel_rfl
def iQ:=VD E D W (iP E D W N )
theorem lg (a:BS) (b c:Int) (d:Bool) (e:BS) (Z:H) :
 AW E D W N (Ov (Lz Fx (JB Gt IC))) (QO a b c d e Z) (Cv E) nX (Cv E)=iQ E D W N a b c d e Z:=by
 refine(rj E D W N (Lz Fx (JB Gt IC))  a b c d e Z).trans ?_
 simp only[la]
 kernel_rfl
def iR:=VE E D W (iQ E D W N )
theorem lh (a:BS) (b c:Int) (d:Bool) (e:BS) (Z:H) :
 AW E D W N (TM (Ov (Lz Fx (JB Gt IC)))) (QO a b c d e Z) (Cv E) nX (Cv E)=iR E D W N a b c d e Z:=by
 refine(rk E D W N (Ov (Lz Fx (JB Gt IC)))  a b c d e Z).trans ?_
 simp only[lg]
 kernel_rfl
def iS:=VF E D W (iR E D W N )
theorem lj (a:BS) (b c:Int) (Z:H) :
 AW E D W N (aI (TM (Ov (Lz Fx (JB Gt IC))))) (gG a b c Z) (Cv E) nX (Cv E)=iS E D W N a b c Z:=by
 refine(rl E D W N (TM (Ov (Lz Fx (JB Gt IC))))  a b c Z).trans ?_
 simp only[lh]
 kernel_rfl
def nk (args:List V) (Z:H):AH:=
 EY args fun x3 l2=>
 BV .i64 l2 fun x6 l5=>
 BV .i64 l5 fun x9 l8=>
 AZ l8 (
 iS E D W N x3 x6 x9 Z)
def A63:Eg:=⟨172,[.str,.i,.i],[(.tmp 6),(.tmp 7)],(aI (TM (Ov (Lz Fx (JB Gt IC)))))⟩
theorem zw (args:List V) (Z:H):CR E D W N A63 args Z=nk E D W N args Z:=by
 unfold nk
 simp only[<-lj]
 kernel_rfl
def uy:XC:=(.z (.q 2 0<|
 .pal 3 [] 68 [y0,y3,y0]<|
 .c 4 y1<|
 .nil)
 (.z (.m 10 0<|
 .k 11 (.tup [y4,.bool]) 15 [(.t 10),(.i 3)]<|
 .m 9 11<|
 .P 12 (.extract 0 (.t 9))<|
 .P 13 (.extract 1 (.t 9))<|
 .pal 5 [] 68 [y0,y3,y0]<|
 .op none y4 [5,12] (.store 3 (.t 5) (.t 12))<|
 .m 6 13<|
 .nil)
 (.seq (.z (.m 14 6<|
 .P 15 (.un .not (.t 14))<|
 .nil)
 (.cond (.tmp 15) (.seq (.draw (.O 16 y4 (.load (some 3) (.t 5))<|
 .q 2 0<|
 .op none y4 [3,16] (.store 3 (.t 3) (.t 16))<|
 .c 4 y1<|
 .nil) [0,0,3,7])
 .ret)
 .skip))
 (.z (.f 18 1 5<|
 .l 19 .str 18<|
 .k 20 (.tup [.i,.any]) 45 [(.t 19),(.i 10),(.i 64)]<|
 .m 17 20<|
 .P 21 (.extract 0 (.t 17))<|
 .P 22 (.extract 1 (.t 17))<|
 .m 7 21<|
 .m 8 22<|
 .nil)
 (.seq (.draw (.m 23 7<|
 .O 24 y4 (.load (some 3) (.t 5))<|
 .m 2 23<|
 .op none y4 [3,24] (.store 3 (.t 3) (.t 24))<|
 .c 4 y9<|
 .nil) [0,0,1,7,15])
 .ret)))))
def VA (E:EB) (D:BB) (W:AJ) (a:V) (Z:H):AH:=
 AV (D 15 [a,.int .i64 (AA 3)] Z) fun u1 s2=>
 Cw u1 fun l3=>
 AP l3 fun x4 l5=>
 B7 x4 fun l6=>
 BV .i64 l6 fun x9 l8=>
 EY l8 fun x12 l11=>
 BV .i64 l11 fun x15 l14=>
 AZ l14 (
 DQ l5 fun x18 l17=>
 AZ l17 (
 AI (not x18) (
 some ((V.tup [.int .i64 (AA 0),.agg [.int .i64 x9,.str x12,.int .i64 x15],.bool false]),s2)) (
 AV (D 45 [.str x12,.int .i64 (AA 10),.int .i64 (AA 64)] s2) fun u19 s20=>
 Cw u19 fun l21=>
 BV .i64 l21 fun x24 l23=>
 AP l23 fun x25 l26=>
 AZ l26 (
 some ((V.tup [.int .i64 x24,.agg [.int .i64 x9,.str x12,.int .i64 x15],.bool true]),s20)))))
def uI (N:Nat) (args:List V) (Z:H):AH:=
 AP args fun x1 l2=>
 AZ l2 (
 VA E D W x1 Z)
def A68:Eg:=⟨25,[.any],[(.tmp 2),(.cell 3 (some 3)),(.tmp 4)],uy⟩
theorem zu (args:List V) (Z:H):CR E D W N A68 args Z=uI E D W N args Z:=by kernel_rfl
def Mr:List BR:=[⟨(some 34),.load (some 3) (.tmp 6),none⟩,⟨(some 35),.mov (.tmp 5),none⟩,⟨(some 36),.mov (.tmp 35),none⟩,⟨(some 37),.mov (.tmp 0),(some (36,true))⟩,⟨(some 38),.buildSlice 9 1 [(V.str ⟨0,0⟩)] [(0,1,(.con (V.str ⟨1,41⟩)))],(some (36,true))⟩,⟨(some 39),.call 16 [(.tmp 37),(.tmp 38)],(some (36,true))⟩,⟨(some 40),.pick (.tmp 36) (.tmp 39) (.con (V.bool false)),none⟩,⟨none,.store 3 (.tmp 2) (.tmp 34),none⟩,⟨(some 3),.mov (.tmp 40),none⟩]
def QW:List DP:=[⟨0,[6]⟩,⟨0,[5]⟩,⟨2,[35]⟩,⟨6,[0,36]⟩,⟨6,[36]⟩,⟨30,[37,38,36]⟩,⟨62,[36,39]⟩,⟨63,[2,34]⟩,⟨255,[40]⟩]
def uv:XC:=(.z (.p 2 [] (.alloc 79 [y3,y0,y1])<|
 .c 3 y1<|
 .nil)
 (.z (.m 8 0<|
 .k 9 (.tup [y4,.bool]) 15 [(.t 8),(.i 2)]<|
 .m 7 9<|
 .P 10 (.extract 0 (.t 7))<|
 .P 11 (.extract 1 (.t 7))<|
 .pal 4 [] 68 [y0,y3,y0]<|
 .op none y4 [4,10] (.store 3 (.t 4) (.t 10))<|
 .m 5 11<|
 .nil)
 (.z (.f 12 1 4<|
 .l 13 .str 12<|
 .op (some 14) Wx [13] (.build [y3,y0,y1] [(0,1,(.t 13))])<|
 .p 6 [] (.alloc 79 [y3,y0,y1])<|
 .op none Wx [6,14] (.store 3 (.t 6) (.t 14))<|
 .nil)
 (.seq (.z (.m 15 5<|
 .P 16 (.un .not (.t 15))<|
 .m 17 16<|
 .gO 17 false (.p 18 [0,17] y7<|
 .p 19 [18,17] (.nilck (.t 18))<|
 .p 20 [19,17] (.faddr 0 (.t 19))<|
 .op (some 21) .bool [20,17] (.call 38 [(.t 20),oF])<|
 .p 22 [21,17] (.un .not (.t 21))<|
 .nil) 23 17 22<|
 .nil)
 (.cond (.tmp 23) (.z (.O 24 Wx (.load (some 3) (.t 6))<|
 .m 25 5<|
 .op none Wx [2,24] (.store 3 (.t 2) (.t 24))<|
 .m 3 25<|
 .nil)
 .ret)
 .skip))
 (.z (.f 26 2 6<|
 .op none .any [26] (.store 1 (.t 26) (.con y9))<|
 .nil)
 (.z (.m 28 0<|
 .k 29 eK 68 [(.t 28)]<|
 .m 27 29<|
 .P 30 (.extract 0 (.t 27))<|
 .P 31 (.extract 1 (.t 27))<|
 .P 32 (.extract 2 (.t 27))<|
 .f 33 1 6<|
 .w 1 33 30<|
 .m 5 32<|
 .nil)
 (.seq (.keep [(0,.ptr),(2,.ptr),(5,.bool),(6,.ptr)] [] [] (.gdraw Mr QW [(2,.ptr),(3,.bool)]))
 .ret)))))))
def Si (a b:Nat) (Z:H):AH:=
 let s1:=CO Z (.cells [.str ⟨0,0⟩,.int .i64 (AA 0),.bool false]);
 AV (D 15 [.ptr a b,.int .i64 (AA 2)] s1) fun u2 s3=>
 Cw u2 fun l4=>
 AP l4 fun x5 l6=>
 B7 x5 fun l7=>
 BV .i64 l7 fun x10 l9=>
 EY l9 fun x13 l12=>
 BV .i64 l12 fun x16 l15=>
 AZ l15 (
 DQ l6 fun x19 l18=>
 AZ l18 (
 let s20:=CO s3 (.cells [.str ⟨0,0⟩,.int .i64 (AA 0),.bool false]);
 Dk 3 (H.next s3) 0 (V.agg [.str x13,.int .i64 (AA 0),.bool false]) s20 fun s21=>
 Ax (fun c22 s23=>
 AI c22 (
 DB E s23 (H.next s3) 0 3 fun l25=>
 EY l25 fun x28 l27=>
 BV .i64 l27 fun x31 l30=>
 DQ l30 fun x34 l33=>
 AZ l33 (
 Dk 3 (H.next Z) 0 (V.agg [.str x28,.int .i64 x31,.bool x34]) s23 fun s35=>
 DB E s35 (H.next Z) 0 3 fun u36=>
 some ((V.tup [.agg u36,.bool x19]),s35))) (
 Dk 1 (H.next s3) 2 (V.bool true) s23 fun s37=>
 AV (D 68 [.ptr a b] s37) fun u38 s39=>
 Cw u38 fun l40=>
 BV .i64 l40 fun x43 l42=>
 AP l42 fun x44 l45=>
 B7 x44 fun l46=>
 BV .i64 l46 fun x49 l48=>
 EY l48 fun x52 l51=>
 BV .i64 l51 fun x55 l54=>
 AZ l54 (
 DQ l45 fun x58 l57=>
 AZ l57 (
 Dk 1 (H.next s3) 1 (V.int .i64 x43) s39 fun s59=>
 Ee (W Mr QW [(0,.ptr a b),(2,.ptr (H.next Z) 0),(5,.bool x58),(6,.ptr (H.next s3) 0)] s59) fun e60 s61=>
 E0 e60 2 fun u62=>
 Br u62 fun b63 o64=>
 E0 e60 3 fun u65=>
 AT u65 fun x66=>
 DB E s61 b63 o64 3 fun u67=>
 some ((V.tup [.agg u67,.bool x66]),s61))))) fun k24=>
 AI (not x19) (
 k24 true s21) (
 AV (D 38 [.ptr a b,.str (BS.mk 1 40)] s21) fun u68 s69=>
 AT u68 fun x70=>
 k24 (not x70) s69)))
def uH (N:Nat) (args:List V) (Z:H):AH:=
 AP args fun x1 l2=>
 Br x1 fun b3 o4=>
 AZ l2 (
 Si E D W b3 o4 Z)
def A69:Eg:=⟨41,[.ptr],[(.cell 2 (some 3)),(.tmp 3)],uv⟩
theorem zt (args:List V) (Z:H):CR E D W N A69 args Z=uH E D W N args Z:=by kernel_rfl
def Nr:List (Nat × EH):=[(0,.ptr),(1,.any),(2,.i),(7,.i)]
def Gs (E:EB):St->AH:=fun s=>Ek E s [(.tmp 6)] fun l=>some (FF l,s.Z)
def T2 (c0:XC):Nat->St->AH:=CC 0 (dX E D W N (.keep [] [] [] c0) (Gs E) nX (Gs E)) nX
def aH (cc1:XC) (cc2:XC):XC:=(.z (.c 6 y1<|
 .nil)
 (.z (.q 7 0<|
 .nil)
 (.seq (.block 0 (.loop Nr [] [] cc2))
 (.keep [] [] [] cc1))))
def fU (E:EB) (D:BB) (W:AJ) (K2:Nat->Nat->V->Int->Int->H->AH) (a b:Nat) (c:V) (d:Int) (Z:H):AH:=
 K2 a b c d (AA 0) Z
def Ly:XC:=(.z (.c 6 y9<|
 .nil)
 .ret)
def ZG (E:EB) (D:BB) (W:AJ) (Z:H):AH:=
 some ((V.bool true),Z)
def Qd (cc3:XC):XC:=(.seq (.z (.m 9 0<|
 .n 10 9<|
 .f 11 0 10<|
 .k 12 .bool 38 [(.t 11),nO]<|
 .nil)
 (.cond (.tmp 12) .skip
 Rf))
 (.block 1 (.z (.c 8 y1<|
 .nil)
 (.seq (.z (.m 13 0<|
 .n 14 13<|
 .f 15 0 14<|
 .k 16 .bool 38 [(.t 15),(.con (V.str ⟨2,23387⟩))]<|
 .nil)
 (.cond (.tmp 16) (.z (.m 17 7<|
 .b 18 .add .none (.t 17) (.i 1)<|
 .m 7 18<|
 .nil)
 (.ops (.m 19 0<|
 .m 20 1<|
 .m 21 7<|
 .m 22 2<|
 .k 23 .bool 77 [(.t 19),(.t 20),(.t 21),(.t 22)]<|
 .m 8 23<|
 .nil)))
 (.ops (.m 24 0<|
 .m 25 1<|
 .m 26 2<|
 .k 27 .bool 71 [(.t 24),(.t 25),(.i 0),(.t 26)]<|
 .m 8 27<|
 .nil))))
 (.keep [(0,.ptr),(1,.any),(2,.i),(7,.i),(8,.bool)] [] [] cc3)))))
def Mj (E:EB) (D:BB) (W:AJ) (K1:H->AH) (K3:Nat->Nat->V->Int->Int->Bool->H->AH) (a b:Nat) (c:V) (d e:Int) (Z:H):AH:=
 AV (D 38 [.ptr a b,.str (BS.mk 1 44)] Z) fun u1 s2=>
 AT u1 fun x3=>
 AI x3 (
 AV (D 38 [.ptr a b,.str (BS.mk 2 23387)] s2) fun u4 s5=>
 AT u4 fun x6=>
 AI x6 (
 AV (D 77 [.ptr a b,c,.int .i64 (CJ .i64 e (AA 1)),.int .i64 d] s5) fun u7 s8=>
 AT u7 fun x9=>
 K3 a b c d (CJ .i64 e (AA 1)) x9 s8) (
 AV (D 71 [.ptr a b,c,.int .i64 (AA 0),.int .i64 d] s5) fun u10 s11=>
 AT u10 fun x12=>
 K3 a b c d e x12 s11)) (
 K1 s2)
def Mu:XC:=(.z (.m 28 8<|
 .P 29 eL<|
 .nil)
 eN)
def OX (E:EB) (D:BB) (W:AJ) (R2:Nat->Nat->V->Int->Int->H->AH) (a b:Nat) (c:V) (d e:Int) (f:Bool) (Z:H):AH:=
 AI (not f) (
 some ((V.bool false),Z)) (
 R2 a b c d e Z)
def gE (a b:Nat) (c:V) (d:Int) (Z:H):St:=⟨[(0,.ptr a b),(1,c),(2,.int .i64 d)],[],[],Z⟩
def gD (Z:H):St:=⟨[],[],[],Z⟩
def S4 (a b:Nat) (c:V) (d e:Int) (Z:H):St:=⟨[(0,.ptr a b),(1,c),(2,.int .i64 d),(7,.int .i64 e)],[],[],Z⟩
def Ze (a b:Nat) (c:V) (d e:Int) (f:Bool) (Z:H):St:=⟨[(0,.ptr a b),(1,c),(2,.int .i64 d),(7,.int .i64 e),(8,.bool f)],[],[],Z⟩
theorem rZ (cc1:XC) (cc2:XC) (a b:Nat) (c:V) (d:Int) (Z:H) :
 AW E D W N (aH cc1 cc2) (gE a b c d Z) (Gs E) nX (Gs E) =
 fU E D W (fun a b c d e Z=>BE (fun rec s'=>AW E D W N cc2 s' (kX Nr [] [] rec) (T2 E D W N cc1) (Gs E)) N (S4 a b c d e Z)) a b c d Z:=by kernel_rfl
theorem rY (cc1:XC) (cc3:XC) (li2:St->AH) (a b:Nat) (c:V) (d e:Int) (Z:H) :
 AW E D W N (Qd cc3) (S4 a b c d e Z) (kX Nr [] [] li2) (T2 E D W N cc1) (Gs E) =
 Mj E D W (fun  Z=>AW E D W N cc1 (gD Z) (Gs E) nX (Gs E)) (fun a b c d e f Z=>AW E D W N cc3 (Ze a b c d e f Z) (kX Nr [] [] li2) (CC 1 (kX Nr [] [] li2) (T2 E D W N cc1)) (Gs E)) a b c d e Z:=by kernel_rfl
theorem rX (cc1:XC) (li2:St->AH) (a b:Nat) (c:V) (d e:Int) (f:Bool) (Z:H) :
 AW E D W N (Mu ) (Ze a b c d e f Z) (kX Nr [] [] li2) (CC 1 (kX Nr [] [] li2) (T2 E D W N cc1)) (Gs E) =
 OX E D W (fun a b c d e Z=>li2 (S4 a b c d e Z)) a b c d e f Z:=by kernel_rfl
def iN (E:EB) (D:BB) (W:AJ) (N:Nat):=ZG E D W
theorem lW (Z:H) :
 AW E D W N Ly (gD Z) (Gs E) nX (Gs E)=iN E D W N  Z:=by kernel_rfl
def iM (E:EB) (D:BB) (W:AJ) (N:Nat) (R2:Nat->Nat->V->Int->Int->H->AH):=OX E D W R2
theorem lV (li2:St->AH) (a b:Nat) (c:V) (d e:Int) (f:Bool) (Z:H) :
 AW E D W N Mu (Ze a b c d e f Z) (kX Nr [] [] li2) (CC 1 (kX Nr [] [] li2) (T2 E D W N Ly)) (Gs E)=iM E D W N (fun a b c d e Z=>li2 (S4 a b c d e Z)) a b c d e f Z:=by
 refine(rX E D W N Ly li2 a b c d e f Z).trans ?_
 kernel_rfl
def S6 (n:Nat):Nat->Nat->V->Int->Int->H->AH:=
 Nat.rec (fun _ _ _ _ _ _=>none) (fun _ ih=>Mj E D W (iN E D W N ) (iM E D W N ih)) n
theorem ku (n:Nat):∀(a b:Nat) (c:V) (d e:Int) (Z:H),
 BE (fun rec s'=>AW E D W N (Qd Mu) s' (kX Nr [] [] rec) (T2 E D W N Ly) (Gs E)) n (S4 a b c d e Z)=S6 E D W N n a b c d e Z:=by
 induction n with
 | zero=>intro a b c d e Z;rfl
 | succ n ihn=>
  intro a b c d e Z
  rw[BP]
  refine(rY E D W N Ly Mu (BE (fun rec s'=>AW E D W N (Qd Mu) s' (kX Nr [] [] rec) (T2 E D W N Ly) (Gs E)) n) a b c d e Z).trans ?_
  simp only[ihn,lW,lV]
  kernel_rfl
def iO:=fU E D W (S6 E D W N N)
theorem lX (a b:Nat) (c:V) (d:Int) (Z:H) :
 AW E D W N (aH Ly (Qd Mu)) (gE a b c d Z) (Gs E) nX (Gs E)=iO E D W N a b c d Z:=by
 refine(rZ E D W N Ly (Qd Mu)  a b c d Z).trans ?_
 simp only[ku]
 kernel_rfl
def nj (args:List V) (Z:H):AH:=
 AP args fun x1 l2=>
 Br x1 fun b3 o4=>
 AP l2 fun x5 l6=>
 BV .i64 l6 fun x9 l8=>
 AZ l8 (
 iO E D W N b3 o4 x5 x9 Z)
def A70:Eg:=⟨30,[.ptr,.any,.i],[(.tmp 6)],(aH Ly (Qd Mu))⟩
theorem zr (args:List V) (Z:H):CR E D W N A70 args Z=nj E D W N args Z:=by
 unfold nj
 simp only[<-lX]
 kernel_rfl
def QX:List BR:=[⟨(some 57),.mov (.tmp 1),none⟩,⟨(some 58),.mov (.tmp 1),none⟩,⟨(some 59),.nilck (.tmp 58),none⟩,⟨(some 60),.faddr 12 (.tmp 59),none⟩,⟨(some 61),.load none (.tmp 60),none⟩,⟨(some 62),.load (some 11) (.tmp 11),none⟩,⟨(some 63),.buildSlice 46 1 [(V.str ⟨0,0⟩),(V.int .i64 (AA 0)),(V.bool false),(V.bool false),(V.int .i64 (AA 0)),(V.int .i64 (AA 0)),V.nils,V.nils,(V.int .i64 (AA 0)),V.nils,(V.int .i64 (AA 0))] [(0,11,(.tmp 62))],none⟩,⟨(some 64),.append 46 11 136 (.tmp 61) (.tmp 63),none⟩,⟨(some 65),.nilck (.tmp 57),none⟩,⟨(some 66),.faddr 12 (.tmp 65),none⟩,⟨none,.store 1 (.tmp 66) (.tmp 64),none⟩]
def Mq:List DP:=[⟨0,[1]⟩,⟨0,[1]⟩,⟨2,[58]⟩,⟨6,[59]⟩,⟨14,[60]⟩,⟨0,[11]⟩,⟨32,[62]⟩,⟨126,[61,63]⟩,⟨255,[57]⟩,⟨511,[65]⟩,⟨1023,[66,64]⟩]
def uu (cc1:XC):XC:=(.z (.c 8 y1<|
 .nil)
 (.z (.m 13 0<|
 .k 14 (.tup [y4,.bool]) 15 [(.t 13),(.i 2)]<|
 .m 12 14<|
 .P 15 (.extract 0 (.t 12))<|
 .P 16 (.extract 1 (.t 12))<|
 .pal 9 [] 68 [y0,y3,y0]<|
 .op none y4 [9,15] (.store 3 (.t 9) (.t 15))<|
 .m 10 16<|
 .nil)
 (.seq (.z (.m 17 10<|
 .P 18 (.un .not (.t 17))<|
 .nil)
 (.cond (.tmp 18) (.z (.c 8 y1<|
 .nil)
 .ret)
 .skip))
 (.z (.f 19 1 9<|
 .l 20 .str 19<|
 .m 21 2<|
 .op (some 22) y6 [20,21] (.build [y3,y0,y1,y1,y0,y0,V.nils,V.nils,y0,V.nils,y0] [(0,1,(.t 20)),(10,1,(.t 21))])<|
 .p 11 [] (.alloc 46 [y3,y0,y1,y1,y0,y0,V.nils,V.nils,y0,V.nils,y0])<|
 .op none y6 [11,22] (.store 11 (.t 11) (.t 22))<|
 .nil)
 (.seq (.z (.m 24 0<|
 .m 25 3<|
 .b 26 .add .none (.t 25) (.i 1)<|
 .k 27 (.tup [.i,.bool]) 39 [(.t 24),(.t 26)]<|
 .m 23 27<|
 .P 28 (.extract 0 (.t 23))<|
 .P 29 (.extract 1 (.t 23))<|
 .f 30 1 11<|
 .w 1 30 28<|
 .m 10 29<|
 .nil)
 (.z (.m 31 10<|
 .P 32 (.un .not (.t 31))<|
 .nil)
 (.cond (.tmp 32) (.z (.c 8 y1<|
 .nil)
 .ret)
 .skip)))
 (.seq (.block 0 (.z (.m 34 1<|
 .n 35 34<|
 .f 36 0 35<|
 .l 37 .i 36<|
 .b 38 .eql .none (.t 37) (.i 9)<|
 .m 33 38<|
 .nil)
 (.cond (.tmp 33) .skip
 (.z (.m 40 0<|
 .n 41 40<|
 .f 42 0 41<|
 .k 43 .bool 38 [(.t 42),(.con (V.str ⟨8,5494759122808361039⟩))]<|
 .m 39 43<|
 .nil)
 (.cond (.tmp 39) (.ops (.f 44 2 11<|
 .op none .any [44] (.store 1 (.t 44) (.con y9))<|
 .nil))
 (.z (.m 46 0<|
 .n 47 46<|
 .f 48 0 47<|
 .k 49 .bool 38 [(.t 48),(.con (V.str ⟨7,23727827094750532⟩))]<|
 .m 45 49<|
 .nil)
 (.cond (.tmp 45) (.z (.f 50 3 11<|
 .op none .any [50] (.store 1 (.t 50) (.con y9))<|
 .nil)
 (.ops (.m 52 0<|
 .k 53 (.tup [y5,.bool]) 78 [(.t 52)]<|
 .m 51 53<|
 .P 54 (.extract 0 (.t 51))<|
 .P 55 (.extract 1 (.t 51))<|
 .f 56 4 11<|
 .op none y5 [56,54] (.store 6 (.t 56) (.t 54))<|
 .m 10 55<|
 .nil)))
 .skip)))))))
 (.keep [(1,.ptr),(10,.bool),(11,.ptr)] [] [] cc1)))))))
def Mi (E:EB) (D:BB) (W:AJ) (K1:Nat->Nat->Bool->Nat->Nat->H->AH) (a b c d:Nat) (e f:Int) (Z:H):AH:=
 AV (D 15 [.ptr a b,.int .i64 (AA 2)] Z) fun u1 s2=>
 Cw u1 fun l3=>
 AP l3 fun x4 l5=>
 B7 x4 fun l6=>
 BV .i64 l6 fun x9 l8=>
 EY l8 fun x12 l11=>
 BV .i64 l11 fun x15 l14=>
 AZ l14 (
 DQ l5 fun x18 l17=>
 AZ l17 (
 AI (not x18) (
 some ((V.bool false),s2)) (
 let s19:=CO s2 (.cells [.str ⟨0,0⟩,.int .i64 (AA 0),.bool false,.bool false,.int .i64 (AA 0),.int .i64 (AA 0),V.nils,V.nils,.int .i64 (AA 0),V.nils,.int .i64 (AA 0)]);
 Dk 11 (H.next s2) 0 (V.agg [.str x12,.int .i64 (AA 0),.bool false,.bool false,.int .i64 (AA 0),.int .i64 (AA 0),V.nils,V.nils,.int .i64 (AA 0),V.nils,.int .i64 e]) s19 fun s20=>
 AV (D 39 [.ptr a b,.int .i64 (CJ .i64 f (AA 1))] s20) fun u21 s22=>
 Cw u21 fun l23=>
 BV .i64 l23 fun x26 l25=>
 DQ l25 fun x29 l28=>
 AZ l28 (
 Dk 1 (H.next s2) 1 (V.int .i64 x26) s22 fun s30=>
 AI (not x29) (
 some ((V.bool false),s30)) (
 Bm E s30 c d fun u31=>
 Al .i64 u31 fun x32=>
 AI (D0 x32 (AA 9)) (
 K1 c d x29 (H.next s2) 0 s30) (
 AV (D 38 [.ptr a b,.str (BS.mk 8 5494759122808361039)] s30) fun u33 s34=>
 AT u33 fun x35=>
 AI x35 (
 Dk 1 (H.next s2) 2 (V.bool true) s34 fun s36=>
 K1 c d x29 (H.next s2) 0 s36) (
 AV (D 38 [.ptr a b,.str (BS.mk 7 23727827094750532)] s34) fun u37 s38=>
 AT u37 fun x39=>
 AI x39 (
 Dk 1 (H.next s2) 3 (V.bool true) s38 fun s40=>
 AV (D 78 [.ptr a b] s40) fun u41 s42=>
 Cw u41 fun l43=>
 AP l43 fun x44 l45=>
 B7 x44 fun l46=>
 BV .i64 l46 fun x49 l48=>
 BV .i64 l48 fun x52 l51=>
 AP l51 fun x53 l54=>
 AP l54 fun x55 l56=>
 BV .i64 l56 fun x59 l58=>
 AP l58 fun x60 l61=>
 AZ l61 (
 DQ l45 fun x64 l63=>
 AZ l63 (
 Dk 6 (H.next s2) 4 (V.agg [.int .i64 x49,.int .i64 x52,x53,x55,.int .i64 x59,x60]) s42 fun s65=>
 K1 c d x64 (H.next s2) 0 s65))) (
 K1 c d x29 (H.next s2) 0 s38))))))))
def ur:XC:=(.seq (.keep [(1,.ptr),(10,.bool),(11,.ptr)] [] [] (.gdraw QX Mq [(10,.bool)]))
 (.z (.m 67 10<|
 .m 8 67<|
 .nil)
 .ret))
def U9 (E:EB) (D:BB) (W:AJ) (a b:Nat) (c:Bool) (d e:Nat) (Z:H):AH:=
 Ee (W QX Mq [(1,.ptr a b),(10,.bool c),(11,.ptr d e)] Z) fun e1 s2=>
 E0 e1 10 fun u3=>
 AT u3 fun x4=>
 some ((V.bool x4),s2)
def tZ (E:EB) (D:BB) (W:AJ) (N:Nat):=U9 E D W
def uG (args:List V) (Z:H):AH:=
 AP args fun x1 l2=>
 Br x1 fun b3 o4=>
 AP l2 fun x5 l6=>
 Br x5 fun b7 o8=>
 BV .i64 l6 fun x11 l10=>
 BV .i64 l10 fun x14 l13=>
 AZ l13 (
 Mi E D W (tZ E D W N ) b3 o4 b7 o8 x11 x14 Z)
def A71:Eg:=⟨68,[.ptr,.ptr,.i,.i],[(.tmp 8)],(uu ur)⟩
theorem zq (args:List V) (Z:H):CR E D W N A71 args Z=uG E D W N args Z:=by kernel_rfl
def uq:XC:=(.z (.c 2 eM<|
 .nil)
 (.z (.m 3 0<|
 .b 4 .or .none (.t 3) (.con (V.int .u8 (AA 32)))<|
 .m 2 4<|
 .nil)
 .ret))
def qc (E:EB) (D:BB) (W:AJ) (a:Int) (Z:H):AH:=
 some ((V.int .u8 (J4 .u8 a (AA 32))),Z)
def uF (N:Nat) (args:List V) (Z:H):AH:=
 BV .u8 args fun x3 l2=>
 AZ l2 (
 qc E D W x3 Z)
def A72:Eg:=⟨5,[(.int .u8)],[(.tmp 2)],uq⟩
theorem zp (args:List V) (Z:H):CR E D W N A72 args Z=uF E D W N args Z:=by kernel_rfl
end
noncomputable section
variable (E:EB) (D:BB) (W:AJ) (N:Nat)
def Xm:List (Nat × EH):=[(0,.ptr),(1,.any),(2,.i),(3,.i)]
def JA (E:EB):St->AH:=fun s=>Ek E s [(.tmp 8)] fun l=>some (FF l,s.Z)
def aG (cc1:XC):XC:=(.z (.c 8 y1<|
 .nil)
 (.block 0 (.loop Xm [] [] cc1)))
def fT (E:EB) (D:BB) (W:AJ) (K1:Nat->Nat->V->Int->Int->H->AH) (a b:Nat) (c:V) (d e:Int) (Z:H):AH:=
 K1 a b c d e Z
def Qc:XC:=(.block 1 (.seq (.z (.m 9 0<|
 .m 10 1<|
 .m 11 2<|
 .m 12 3<|
 .k 13 .bool 71 [(.t 9),(.t 10),(.t 11),(.t 12)]<|
 .P 14 (.un .not (.t 13))<|
 .nil)
 (.cond (.tmp 14) (.z (.c 8 y1<|
 .nil)
 .ret)
 .skip))
 (.z (.m 15 0<|
 .n 16 15<|
 .f 17 0 16<|
 .k 18 .bool 38 [(.t 17),nO]<|
 .P 19 (.un .not (.t 18))<|
 .nil)
 (.cond (.tmp 19) (.z (.m 20 0<|
 .p 21 [] (.buildSlice 9 1 [y3] [(0,1,(.con (V.str ⟨2,23901⟩)))])<|
 .k 22 .bool 16 [(.t 20),(.t 21)]<|
 .m 8 22<|
 .nil)
 .ret)
 .skip))))
def QF (E:EB) (D:BB) (W:AJ) (R1:Nat->Nat->V->Int->Int->H->AH) (a b:Nat) (c:V) (d e:Int) (Z:H):AH:=
 AV (D 71 [.ptr a b,c,.int .i64 d,.int .i64 e] Z) fun u1 s2=>
 AT u1 fun x3=>
 AI (not x3) (
 some ((V.bool false),s2)) (
 AV (D 38 [.ptr a b,.str (BS.mk 1 44)] s2) fun u4 s5=>
 AT u4 fun x6=>
 AI (not x6) (
 let s7:=CO s5 (.cells [.str (BS.mk 2 23901)]);
 AV (D 16 [.ptr a b,.sl (H.next s5) 0 1 (.ex 1)] s7) fun u8 s9=>
 AT u8 fun x10=>
 some ((V.bool x10),s9)) (
 R1 a b c d e s5))
def QN (a b:Nat) (c:V) (d e:Int) (Z:H):St:=⟨[(0,.ptr a b),(1,c),(2,.int .i64 d),(3,.int .i64 e)],[],[],Z⟩
theorem rW (cc1:XC) (a b:Nat) (c:V) (d e:Int) (Z:H) :
 AW E D W N (aG cc1) (QN a b c d e Z) (JA E) nX (JA E) =
 fT E D W (fun a b c d e Z=>BE (fun rec s'=>AW E D W N cc1 s' (kX Xm [] [] rec) (CC 0 (JA E) nX) (JA E)) N (QN a b c d e Z)) a b c d e Z:=by kernel_rfl
theorem rV (li1:St->AH) (a b:Nat) (c:V) (d e:Int) (Z:H) :
 AW E D W N (Qc ) (QN a b c d e Z) (kX Xm [] [] li1) (CC 0 (JA E) nX) (JA E) =
 QF E D W (fun a b c d e Z=>li1 (QN a b c d e Z)) a b c d e Z:=by kernel_rfl
def Ve (E:EB) (D:BB) (W:AJ) (N:Nat) (n:Nat):Nat->Nat->V->Int->Int->H->AH:=
 Nat.rec (fun _ _ _ _ _ _=>none) (fun _ ih=>QF E D W ih) n
theorem kq (n:Nat):∀(a b:Nat) (c:V) (d e:Int) (Z:H),
 BE (fun rec s'=>AW E D W N Qc s' (kX Xm [] [] rec) (CC 0 (JA E) nX) (JA E)) n (QN a b c d e Z)=Ve E D W N n a b c d e Z:=by
 induction n with
 | zero=>intro a b c d e Z;rfl
 | succ n ihn=>
  intro a b c d e Z
  rw[BP]
  refine(rV E D W N  (BE (fun rec s'=>AW E D W N Qc s' (kX Xm [] [] rec) (CC 0 (JA E) nX) (JA E)) n) a b c d e Z).trans ?_
  simp only[ihn]
  kernel_rfl
def iL:=fT E D W (Ve E D W N N)
theorem lU (a b:Nat) (c:V) (d e:Int) (Z:H) :
 AW E D W N (aG Qc) (QN a b c d e Z) (JA E) nX (JA E)=iL E D W N a b c d e Z:=by
 refine(rW E D W N Qc  a b c d e Z).trans ?_
 simp only[kq]
 kernel_rfl
def nh (args:List V) (Z:H):AH:=
 AP args fun x1 l2=>
 Br x1 fun b3 o4=>
 AP l2 fun x5 l6=>
 BV .i64 l6 fun x9 l8=>
 BV .i64 l8 fun x12 l11=>
 AZ l11 (
 iL E D W N b3 o4 x5 x9 x12 Z)
def A77:Eg:=⟨23,[.ptr,.any,.i,.i],[(.tmp 8)],(aG Qc)⟩
theorem zo (args:List V) (Z:H):CR E D W N A77 args Z=nh E D W N args Z:=by
 unfold nh
 simp only[<-lU]
 kernel_rfl
def um (cc1:XC):XC:=(.z (.pal 2 [] 44 [y0,y0,V.nils,V.nils,y0,V.nils]<|
 .c 3 y1<|
 .nil)
 (.z (.m 9 0<|
 .n 10 9<|
 .f 11 0 10<|
 .k 12 y4 18 [(.t 11)]<|
 .pal 4 [] 68 [y0,y3,y0]<|
 .op none y4 [4,12] (.store 3 (.t 4) (.t 12))<|
 .nil)
 (.seq (.block 0 (.z (.m 14 0<|
 .n 15 14<|
 .f 16 0 15<|
 .k 17 .bool 38 [(.t 16),(.con (V.str ⟨4,1163219540⟩))]<|
 .m 13 17<|
 .nil)
 (.cond (.tmp 13) (.z (.op (some 18) y5 [] (.build [y0,y0,V.nils,V.nils,y0,V.nils] [(0,1,(.i 1)),(1,1,(.i 1))])<|
 .op none y5 [2,18] (.store 6 (.t 2) (.t 18))<|
 .c 3 y9<|
 .nil)
 .ret)
 (.z (.m 20 0<|
 .n 21 20<|
 .f 22 0 21<|
 .k 23 .bool 38 [(.t 22),(.con (V.str ⟨5,297750249798⟩))]<|
 .m 19 23<|
 .nil)
 (.cond (.tmp 19) (.z (.op (some 24) y5 [] (.build [y0,y0,V.nils,V.nils,y0,V.nils] [(0,1,(.i 1))])<|
 .op none y5 [2,24] (.store 6 (.t 2) (.t 24))<|
 .c 3 y9<|
 .nil)
 .ret)
 (.z (.m 26 0<|
 .n 27 26<|
 .f 28 0 27<|
 .k 29 .bool 38 [(.t 28),wA]<|
 .m 25 29<|
 .nil)
 (.cond (.tmp 25) (.z (.op (some 30) y5 [] (.build [y0,y0,V.nils,V.nils,y0,V.nils] [(0,1,(.i 4))])<|
 .op none y5 [2,30] (.store 6 (.t 2) (.t 30))<|
 .c 3 y9<|
 .nil)
 .ret)
 .skip)))))))
 (.z (.f 31 1 4<|
 .l 32 .str 31<|
 .P 33 (.conv (.toBytes 5) (.t 32))<|
 .op (some 34) y5 [33] (.build [y0,y0,V.nils,V.nils,y0,V.nils] [(2,1,(.t 33))])<|
 .pal 5 [] 44 [y0,y0,V.nils,V.nils,y0,V.nils]<|
 .op none y5 [5,34] (.store 6 (.t 5) (.t 34))<|
 .nil)
 (.seq (.z (.f 35 0 4<|
 .l 36 .i 35<|
 .nil)
 (.block 1 (.z (.b 43 .eql .none (.t 36) (.i 3)<|
 .m 42 43<|
 .nil)
 (.cond (.tmp 42) (.z (.m 45 0<|
 .k 46 eK 68 [(.t 45)]<|
 .m 44 46<|
 .P 47 (.extract 0 (.t 44))<|
 .P 48 (.extract 1 (.t 44))<|
 .P 49 (.extract 2 (.t 44))<|
 .pal 7 [] 68 [y0,y3,y0]<|
 .m 6 47<|
 .op none y4 [7,48] (.store 3 (.t 7) (.t 48))<|
 .m 8 49<|
 .nil)
 (.z (.m 50 6<|
 .op (some 51) y5 [50] (.build [y0,y0,V.nils,V.nils,y0,V.nils] [(0,1,(.i 2)),(1,1,(.t 50))])<|
 .op none y5 [2,51] (.store 6 (.t 2) (.t 51))<|
 .c 3 y9<|
 .nil)
 .ret))
 (.z (.b 53 .eql .none (.t 36) (.i 2)<|
 .m 52 53<|
 .nil)
 (.cond (.tmp 52) (.ops (.f 54 0 5<|
 .op none .any [54] (.store 1 (.t 54) (.i 3))<|
 .nil))
 (.z (.b 56 .eql .none (.t 36) (.i 7)<|
 .m 55 56<|
 .nil)
 (.cond (.tmp 55) (.ops (.f 57 0 5<|
 .op none .any [57] (.store 1 (.t 57) (.i 6))<|
 .nil))
 (.z (.b 59 .eql .none (.t 36) (.i 4)<|
 .m 58 59<|
 .nil)
 (.cond (.tmp 58) (.ops (.f 60 1 4<|
 .l 61 .str 60<|
 .k 62 .one 80 [(.t 61)]<|
 .f 63 0 5<|
 .op none .any [63] (.store 1 (.t 63) (.i 5))<|
 .f 64 2 5<|
 .w 1 64 62<|
 .nil))
 (.z (.op (some 37) y5 [] (.build [y0,y0,V.nils,V.nils,y0,V.nils] [])<|
 .m 38 0<|
 .f 39 2 4<|
 .l 40 .i 39<|
 .k 41 .bool 36 [(.t 38),(.t 40),(.i 7)]<|
 .op none y5 [2,37] (.store 6 (.t 2) (.t 37))<|
 .m 3 41<|
 .nil)
 .ret)))))))))))
 (.keep [(0,.ptr)] [2,5] [(2,[.i,.i,.any,.any,.i,.any]),(5,[.i,.i,.any,.any,.i,.any])] cc1))))))
def KO (E:EB) (D:BB) (W:AJ) (K1:Nat->Nat->Int->Int->V->V->Int->V->Int->Int->V->V->Int->V->H->AH) (a b:Nat) (Z:H):AH:=
 AV (D 18 [.ptr a b] Z) fun u1 s2=>
 B7 u1 fun l3=>
 BV .i64 l3 fun x6 l5=>
 EY l5 fun x9 l8=>
 BV .i64 l8 fun x12 l11=>
 AZ l11 (
 AV (D 38 [.ptr a b,.str (BS.mk 4 1163219540)] s2) fun u13 s14=>
 AT u13 fun x15=>
 AI x15 (
 some ((V.tup [.agg [.int .i64 (AA 1),.int .i64 (AA 1),V.nils,V.nils,.int .i64 (AA 0),V.nils],.bool true]),s14)) (
 AV (D 38 [.ptr a b,.str (BS.mk 5 297750249798)] s14) fun u16 s17=>
 AT u16 fun x18=>
 AI x18 (
 some ((V.tup [.agg [.int .i64 (AA 1),.int .i64 (AA 0),V.nils,V.nils,.int .i64 (AA 0),V.nils],.bool true]),s17)) (
 AV (D 38 [.ptr a b,.str (BS.mk 4 1280070990)] s17) fun u19 s20=>
 AT u19 fun x21=>
 AI x21 (
 some ((V.tup [.agg [.int .i64 (AA 4),.int .i64 (AA 0),V.nils,V.nils,.int .i64 (AA 0),V.nils],.bool true]),s20)) (
 I5 (Ab (BS.len x9) 1000000000000) (
 let s22:=CO s20 (.cells (PS (BS.toList x9)));
 AI (D0 x6 (AA 3)) (
 AV (D 68 [.ptr a b] s22) fun u23 s24=>
 Cw u23 fun l25=>
 BV .i64 l25 fun x28 l27=>
 AP l27 fun x29 l30=>
 B7 x29 fun l31=>
 BV .i64 l31 fun x34 l33=>
 EY l33 fun x37 l36=>
 BV .i64 l36 fun x40 l39=>
 AZ l39 (
 DQ l30 fun x43 l42=>
 AZ l42 (
 some ((V.tup [.agg [.int .i64 (AA 2),.int .i64 x28,V.nils,V.nils,.int .i64 (AA 0),V.nils],.bool true]),s24)))) (
 AI (D0 x6 (AA 2)) (
 K1 a b (AA 0) (AA 0) V.nils V.nils (AA 0) V.nils (AA 3) (AA 0) (V.sl (H.next s20) 0 (BS.len x9) (.op 1)) V.nils (AA 0) V.nils s22) (
 AI (D0 x6 (AA 7)) (
 K1 a b (AA 0) (AA 0) V.nils V.nils (AA 0) V.nils (AA 6) (AA 0) (V.sl (H.next s20) 0 (BS.len x9) (.op 1)) V.nils (AA 0) V.nils s22) (
 AI (D0 x6 (AA 4)) (
 AV (D 80 [.str x9] s22) fun u44 s45=>
 Fk u44 (
 Fk u44 (
 K1 a b (AA 0) (AA 0) V.nils V.nils (AA 0) V.nils (AA 5) (AA 0) u44 V.nils (AA 0) V.nils s45))) (
 AV (D 36 [.ptr a b,.int .i64 x12,.int .i64 (AA 7)] s22) fun u46 s47=>
 AT u46 fun x48=>
 some ((V.tup [.agg [.int .i64 (AA 0),.int .i64 (AA 0),V.nils,V.nils,.int .i64 (AA 0),V.nils],.bool x48]),s47))))))))))
def uk:XC:=(.z (.m 65 0<|
 .n 66 65<|
 .f 67 0 66<|
 .k 68 y4 37 [(.t 67)]<|
 .nil)
 (.z (.O 69 y5 (.load (some 6) (.t 5))<|
 .op none y5 [2,69] (.store 6 (.t 2) (.t 69))<|
 .c 3 y9<|
 .nil)
 .ret))
def U8 (E:EB) (D:BB) (W:AJ) (a b:Nat) (c d:Int) (e f:V) (g:Int) (h:V) (i j:Int) (k l:V) (m:Int) (o:V) (Z:H):AH:=
 AV (D 37 [.ptr a b] Z) fun u1 s2=>
 B7 u1 fun l3=>
 BV .i64 l3 fun x6 l5=>
 EY l5 fun x9 l8=>
 BV .i64 l8 fun x12 l11=>
 AZ l11 (
 I5 (BJ [.int .i64 i,.int .i64 j,k,l,.int .i64 m,o]) (
 some ((V.tup [.agg [.int .i64 i,.int .i64 j,k,l,.int .i64 m,o],.bool true]),s2)))
def tY (E:EB) (D:BB) (W:AJ) (N:Nat):=U8 E D W
def uE (args:List V) (Z:H):AH:=
 AP args fun x1 l2=>
 Br x1 fun b3 o4=>
 AZ l2 (
 KO E D W (tY E D W N ) b3 o4 Z)
def A78:Eg:=⟨70,[.ptr],[(.cell 2 (some 6)),(.tmp 3)],(um uk)⟩
theorem zn (args:List V) (Z:H):CR E D W N A78 args Z=uE E D W N args Z:=by kernel_rfl
def Xl:List (Nat × EH):=[(0,.str),(3,.any),(4,.i)]
def Hw (E:EB):St->AH:=fun s=>Ek E s [(.tmp 2)] fun l=>some (FF l,s.Z)
def cy (c0:XC):Nat->St->AH:=CC 0 (dX E D W N (.keep [(3,.any)] [] [] c0) (Hw E) nX (Hw E)) nX
def aF (cc1:XC) (cc2:XC):XC:=(.z (.c 2 V.nils<|
 .nil)
 (.z (.c 3 V.nils<|
 .nil)
 (.seq (.z (.q 4 0<|
 .nil)
 (.block 0 (.loop Xl [] [] cc2)))
 (.keep [(3,.any)] [] [] cc1))))
def fS (E:EB) (D:BB) (W:AJ) (K2:BS->V->Int->H->AH) (a:BS) (Z:H):AH:=
 K2 a V.nils (AA 0) Z
def Ou:XC:=(.z (.m 28 3<|
 .m 2 28<|
 .nil)
 .ret)
def U7 (E:EB) (D:BB) (W:AJ) (a:V) (Z:H):AH:=
 some (a,Z)
def Qb:XC:=(.seq (.z (.m 7 4<|
 .b 8 .add .none (.t 7) (.i 1)<|
 .m 9 0<|
 .P 10 (.len true (.t 9))<|
 .b 11 .lss .none (.t 8) (.t 10)<|
 .nil)
 (.cond (.tmp 11) .skip
 Rf))
 (.seq (.block 1 (.z (.m 15 0<|
 .m 16 4<|
 .m 17 4<|
 .b 18 .add .none (.t 17) (.i 2)<|
 .p 19 [15,16,18] (.sliceStr (.t 15) (some (.t 16)) (some (.t 18)))<|
 .k 20 (.tup [(.int .u64),.any]) 82 [(.t 19),(.i 16),(.i 8)]<|
 .m 14 20<|
 .P 21 (.extract 0 (.t 14))<|
 .P 22 (.extract 1 (.t 14))<|
 .m 5 21<|
 .m 6 22<|
 .nil)
 (.ops (.m 23 3<|
 .m 24 5<|
 .P 25 (.conv (.toInt .u8) (.t 24))<|
 .p 26 [25] (.buildSlice 5 1 [eM] [(0,1,(.t 25))])<|
 .O 27 .one (.append 5 1 1 (.t 23) (.t 26))<|
 .m 3 27<|
 .nil))))
 (.ops (.m 12 4<|
 .b 13 .add .none (.t 12) (.i 2)<|
 .m 4 13<|
 .nil))))
def QE (E:EB) (D:BB) (W:AJ) (K1:V->H->AH) (R2:BS->V->Int->H->AH) (a:BS) (b:V) (c:Int) (Z:H):AH:=
 AI (Dt (CJ .i64 c (AA 1)) (AA (BS.len a))) (
 CW a (some (V.int .i64 c)) (some (V.int .i64 (CJ .i64 c (AA 2)))) fun t1=>
 AV (D 82 [.str t1,.int .i64 (AA 16),.int .i64 (AA 8)] Z) fun u2 s3=>
 Cw u2 fun l4=>
 BV .u64 l4 fun x7 l6=>
 AP l6 fun x8 l9=>
 AZ l9 (
 let s10:=CO s3 (.cells [.int .u8 (B4 .u8 x7)]);
 Ix E 1 1 b (V.sl (H.next s3) 0 1 (.ex 1)) s10 fun u11 s12=>
 Fk u11 (
 R2 a u11 (CJ .i64 c (AA 2)) s12))) (
 K1 b Z)
def gC (a:BS) (Z:H):St:=⟨[(0,.str a)],[],[],Z⟩
def gB (a:V) (Z:H):St:=⟨[(3,a)],[],[],Z⟩
def VQ (a:BS) (b:V) (c:Int) (Z:H):St:=⟨[(0,.str a),(3,b),(4,.int .i64 c)],[],[],Z⟩
theorem rU (cc1:XC) (cc2:XC) (a:BS) (Z:H) :
 AW E D W N (aF cc1 cc2) (gC a Z) (Hw E) nX (Hw E) =
 fS E D W (fun a b c Z=>BE (fun rec s'=>AW E D W N cc2 s' (kX Xl [] [] rec) (cy E D W N cc1) (Hw E)) N (VQ a b c Z)) a Z:=by kernel_rfl
theorem rT (cc1:XC) (li2:St->AH) (a:BS) (b:V) (c:Int) (Z:H) :
 AW E D W N (Qb ) (VQ a b c Z) (kX Xl [] [] li2) (cy E D W N cc1) (Hw E) =
 QE E D W (fun b Z=>AW E D W N cc1 (gB b Z) (Hw E) nX (Hw E)) (fun a b c Z=>li2 (VQ a b c Z)) a b c Z:=by kernel_rfl
def iJ (E:EB) (D:BB) (W:AJ) (N:Nat):=U7 E D W
theorem lS (a:V) (Z:H) :
 AW E D W N Ou (gB a Z) (Hw E) nX (Hw E)=iJ E D W N a Z:=by kernel_rfl
def Vd (n:Nat):BS->V->Int->H->AH:=
 Nat.rec (fun _ _ _ _=>none) (fun _ ih=>QE E D W (iJ E D W N ) ih) n
theorem kp (n:Nat):∀(a:BS) (b:V) (c:Int) (Z:H),
 BE (fun rec s'=>AW E D W N Qb s' (kX Xl [] [] rec) (cy E D W N Ou) (Hw E)) n (VQ a b c Z)=Vd E D W N n a b c Z:=by
 induction n with
 | zero=>intro a b c Z;rfl
 | succ n ihn=>
  intro a b c Z
  rw[BP]
  refine(rT E D W N Ou (BE (fun rec s'=>AW E D W N Qb s' (kX Xl [] [] rec) (cy E D W N Ou) (Hw E)) n) a b c Z).trans ?_
  simp only[ihn,lS]
  kernel_rfl
def iK:=fS E D W (Vd E D W N N)
theorem lT (a:BS) (Z:H) :
 AW E D W N (aF Ou Qb) (gC a Z) (Hw E) nX (Hw E)=iK E D W N a Z:=by
 refine(rU E D W N Ou Qb  a Z).trans ?_
 simp only[kp]
 kernel_rfl
def nZ (args:List V) (Z:H):AH:=
 EY args fun x3 l2=>
 AZ l2 (
 iK E D W N x3 Z)
def A80:Eg:=⟨29,[.str],[(.tmp 2)],(aF Ou Qb)⟩
theorem zm (args:List V) (Z:H):CR E D W N A80 args Z=nZ E D W N args Z:=by
 unfold nZ
 simp only[<-lT]
 kernel_rfl
def uj:XC:=(.z (.c 6 UN<|
 .c 7 V.nili<|
 .nil)
 (.z (.m 11 0<|
 .m 12 1<|
 .m 13 2<|
 .k 14 (.tup [(.int .u64),.any]) 63 [(.t 11),(.t 12),(.t 13)]<|
 .m 10 14<|
 .P 15 (.extract 0 (.t 10))<|
 .P 16 (.extract 1 (.t 10))<|
 .m 8 15<|
 .m 9 16<|
 .nil)
 (.seq (.z (.m 17 9<|
 .b 18 .neq (.iface true) (.t 17) (.con V.nili)<|
 .nil)
 (.cond (.tmp 18) (.z (.m 19 8<|
 .m 20 0<|
 .m 21 1<|
 .m 22 2<|
 .m 23 9<|
 .k 24 .one 55 [(.con (V.str ⟨9,2147778296661251613008⟩)),(.t 20),(.t 21),(.t 22),(.t 23)]<|
 .m 6 19<|
 .m 7 24<|
 .nil)
 .ret)
 .skip))
 (.z (.m 25 8<|
 .m 6 25<|
 .c 7 V.nili<|
 .nil)
 .ret))))
def ZF (E:EB) (D:BB) (W:AJ) (a:BS) (b c:Int) (Z:H):AH:=
 AV (D 63 [.str a,.int .i64 b,.int .i64 c] Z) fun u1 s2=>
 Cw u1 fun l3=>
 BV .u64 l3 fun x6 l5=>
 AP l5 fun x7 l8=>
 AZ l8 (
 TQ (.iface true) x7 V.nili fun c9=>
 AI (not c9) (
 AV (D 55 [.str (BS.mk 9 2147778296661251613008),.str a,.int .i64 b,.int .i64 c,x7] s2) fun u10 s11=>
 Fk u10 (
 some ((V.tup [.int .u64 x6,u10]),s11))) (
 some ((V.tup [.int .u64 x6,V.nili]),s2)))
def uD (N:Nat) (args:List V) (Z:H):AH:=
 EY args fun x3 l2=>
 BV .i64 l2 fun x6 l5=>
 BV .i64 l5 fun x9 l8=>
 AZ l8 (
 ZF E D W x3 x6 x9 Z)
def A82:Eg:=⟨26,[.str,.i,.i],[(.tmp 6),(.tmp 7)],uj⟩
theorem zl (args:List V) (Z:H):CR E D W N A82 args Z=uD E D W N args Z:=by kernel_rfl
end
noncomputable section
def glob:Nat->Bool:=fun g=>Cf g 7
theorem follows:Tryd.prog.follows .mixedOrders=true:=by kernel_rfl
def Is (f:Nat) (A:Eg):Prop:=∃fn,Tryd.prog.funcs[f]? = some fn/\Lo Tryd.prog glob fn=some A.strip/\A.body.ok=true/\Hb Tryd.prog f=true
theorem Is.sound {f:Nat} {A:Eg} (h:Is f A) (E:EB) (D:BB) (hD:∀f,B5 Tryd.prog E glob f (D f)) (N:Nat):B5 Tryd.prog E glob f (CR E D (A2 E D) N A):=
 let ⟨_,h1,h2,h3,h4⟩:=h
 bg hD (SV hD follows) follows N h1 h2 rfl h3 h4
theorem Is.sf {f:Nat} {A:Eg} (h:Is f A) {E:EB} {D:BB} (hD:∀f,B5 Tryd.prog E glob f (D f)) {N:Nat} {F:List V->H->AH} (he:∀args Z,CR E D (A2 E D) N A args Z=F args Z):B5 Tryd.prog E glob f F:=by
 have h1:=h.sound E D hD N
 rwa [show CR E D (A2 E D) N A=F from funext fun a=>funext fun s=>he a s]at h1
abbrev E3 (f:Nat) (F:EB->BB->AJ->Nat->List V->H->AH):Prop:=∀(E:EB) (D:BB),(∀f,B5 Tryd.prog E glob f (D f))->∀N,B5 Tryd.prog E glob f (F E D (A2 E D) N)
noncomputable def xn:List (Nat × Func):=[(4,Tryd.f4),(45,Tryd.f45),(54,Tryd.f54)]
theorem jt:∀p∈xn,Tryd.prog.funcs[p.1]? = some p.2/\Hb Tryd.prog p.1=true:=by
 unfold xn
 simp only[LF]
 exact⟨⟨Tryd.func4,by kernel_rfl⟩,
  ⟨Tryd.func45,by kernel_rfl⟩,
  ⟨Tryd.func54,by kernel_rfl⟩,fun _ h=>by cases h⟩
def YK:List (Nat × Func)->Nat->Option Func:=fun l n=>List.rec none (fun p _ ih=>match Ag p.1 n with | true=>some p.2 | false=>ih) l
theorem Pz:∀(l:List (Nat × Func)) (n:Nat) (g:Func),YK l n=some g->(n,g)∈l
 | [],n,g,h=>by cases h
 | p::l,n,g,h=>by
  have h':(match Ag p.1 n with | true=>some p.2 | false=>YK l n)=some g:=h
  cases hb:Ag p.1 n with
  | true=>
   rw[hb]at h'
   simp only[AK.injEq]at h'
   have:=BO hb
   subst this;subst h'
   exact As
  | false=>
   rw[hb]at h'
   exact Ah _ (Pz l n g h')
theorem Sa (P:Program) (G:Nat->Bool) (n:Nat) (c:Code):(CB P G n c).strip=CB P G n c:=by
 fun_induction CB P G n c<;>simp_all[AC.strip]
theorem SZ {P:Program} {G:Nat->Bool} {fn:Func} {a:Wv} (h:Lo P G fn=some a):a.strip=a:=by
 unfold Lo at h
 split at h
 ·cases h
  unfold Wv.strip
  rw[Sa]
 ·cases h
theorem Cg {f:Nat} {fn:Func} {A:Eg} {F:EB->BB->AJ->Nat->List V->H->AH} (h1:Tryd.prog.funcs[f]? = some fn) (h2:Lo Tryd.prog glob fn=some A.strip) (h3:(A.body.ok&&Hb Tryd.prog f)=true) (he:∀E D W N args Z,CR E D W N A args Z=F E D W N args Z):E3 f F:=fun E D hD N=>by
 rw[AF]at h3
 exact Is.sf (A:=A) ⟨fn,h1,h2,h3.1,h3.2⟩ hD (he E D (A2 E D) N)
theorem SF3:E3 3 F3:=Cg Tryd.func3 (by kernel_rfl) (by kernel_rfl) FE3
theorem SF5:E3 5 F5:=Cg Tryd.func5 (by kernel_rfl) (by kernel_rfl) FE5
theorem SF6:E3 6 F6:=Cg Tryd.func6 (by kernel_rfl) (by kernel_rfl) FE6
theorem SF7:E3 7 F7:=Cg Tryd.func7 (by kernel_rfl) (by kernel_rfl) FE7
theorem SF8:E3 8 F8:=Cg Tryd.func8 (by kernel_rfl) (by kernel_rfl) FE8
theorem SF9:E3 9 F9:=Cg Tryd.func9 (by kernel_rfl) (by kernel_rfl) FE9
theorem zV:E3 10 F10:=Cg Tryd.func10 (by kernel_rfl) (by kernel_rfl) AAt
theorem zU:E3 11 wP:=Cg Tryd.func11 (by kernel_rfl) (by kernel_rfl) AAs
theorem zT:E3 12 F12:=Cg Tryd.func12 (by kernel_rfl) (by kernel_rfl) AAr
theorem zS:E3 13 oD:=Cg Tryd.func13 (by kernel_rfl) (by kernel_rfl) AAq
theorem zR:E3 14 uf:=Cg Tryd.func14 (by kernel_rfl) (by kernel_rfl) AAp
theorem zQ:E3 15 ue:=Cg Tryd.func15 (by kernel_rfl) (by kernel_rfl) AAo
theorem zP:E3 16 oC:=Cg Tryd.func16 (by kernel_rfl) (by kernel_rfl) AAn
theorem zO:E3 17 ud:=Cg Tryd.func17 (by kernel_rfl) (by kernel_rfl) AAm
theorem zN:E3 18 uc:=Cg Tryd.func18 (by kernel_rfl) (by kernel_rfl) AAl
theorem zL:E3 19 ub:=Cg Tryd.func19 (by kernel_rfl) (by kernel_rfl) AAk
theorem zK:E3 20 wO:=Cg Tryd.func20 (by kernel_rfl) (by kernel_rfl) AAj
theorem zJ:E3 21 F21:=Cg Tryd.func21 (by kernel_rfl) (by kernel_rfl) AAi
theorem zI:E3 22 wN:=Cg Tryd.func22 (by kernel_rfl) (by kernel_rfl) AAh
theorem zH:E3 23 F23:=Cg Tryd.func23 (by kernel_rfl) (by kernel_rfl) AAg
theorem zG:E3 24 F24:=Cg Tryd.func24 (by kernel_rfl) (by kernel_rfl) AAf
theorem zF:E3 25 wM:=Cg Tryd.func25 (by kernel_rfl) (by kernel_rfl) AAe
theorem zE:E3 26 F26:=Cg Tryd.func26 (by kernel_rfl) (by kernel_rfl) AAd
theorem zD:E3 27 ua:=Cg Tryd.func27 (by kernel_rfl) (by kernel_rfl) AAc
theorem zB:E3 28 uZ:=Cg Tryd.func28 (by kernel_rfl) (by kernel_rfl) AAb
theorem zA:E3 29 uY:=Cg Tryd.func29 (by kernel_rfl) (by kernel_rfl) AAa
theorem yz:E3 30 oB:=Cg Tryd.func30 (by kernel_rfl) (by kernel_rfl) AAZ
theorem yy:E3 31 uX:=Cg Tryd.func31 (by kernel_rfl) (by kernel_rfl) AAY
theorem yx:E3 32 oA:=Cg Tryd.func32 (by kernel_rfl) (by kernel_rfl) AAX
theorem yw:E3 33 n9:=Cg Tryd.func33 (by kernel_rfl) (by kernel_rfl) AAW
theorem yv:E3 34 n8:=Cg Tryd.func34 (by kernel_rfl) (by kernel_rfl) AAV
theorem yu:E3 35 ny:=Cg Tryd.func35 (by kernel_rfl) (by kernel_rfl) AAU
theorem yt:E3 36 uW:=Cg Tryd.func36 (by kernel_rfl) (by kernel_rfl) AAT
theorem yr:E3 37 uV:=Cg Tryd.func37 (by kernel_rfl) (by kernel_rfl) AAS
theorem yq:E3 38 uU:=Cg Tryd.func38 (by kernel_rfl) (by kernel_rfl) AAR
theorem yp:E3 39 uT:=Cg Tryd.func39 (by kernel_rfl) (by kernel_rfl) AAQ
theorem yo:E3 40 wL:=Cg Tryd.func40 (by kernel_rfl) (by kernel_rfl) AAP
theorem yn:E3 41 F41:=Cg Tryd.func41 (by kernel_rfl) (by kernel_rfl) AAO
theorem ym:E3 42 F42:=Cg Tryd.func42 (by kernel_rfl) (by kernel_rfl) AAN
theorem yl:E3 43 uS:=Cg Tryd.func43 (by kernel_rfl) (by kernel_rfl) AAM
theorem yk:E3 44 uR:=Cg Tryd.func44 (by kernel_rfl) (by kernel_rfl) AAL
theorem yj:E3 46 nw:=Cg Tryd.func46 (by kernel_rfl) (by kernel_rfl) AAK
theorem yi:E3 47 uQ:=Cg Tryd.func47 (by kernel_rfl) (by kernel_rfl) AAJ
theorem yh:E3 48 uP:=Cg Tryd.func48 (by kernel_rfl) (by kernel_rfl) AAI
theorem yg:E3 49 F49:=Cg Tryd.func49 (by kernel_rfl) (by kernel_rfl) AAH
theorem yf:E3 50 wK:=Cg Tryd.func50 (by kernel_rfl) (by kernel_rfl) AAG
theorem ye:E3 51 wJ:=Cg Tryd.func51 (by kernel_rfl) (by kernel_rfl) AAF
theorem yd:E3 52 F52:=Cg Tryd.func52 (by kernel_rfl) (by kernel_rfl) AAE
theorem yc:E3 53 uO:=Cg Tryd.func53 (by kernel_rfl) (by kernel_rfl) AAD
theorem yb:E3 56 uN:=Cg Tryd.func56 (by kernel_rfl) (by kernel_rfl) AAC
theorem ya:E3 57 uM:=Cg Tryd.func57 (by kernel_rfl) (by kernel_rfl) AAB
theorem yZ:E3 58 uL:=Cg Tryd.func58 (by kernel_rfl) (by kernel_rfl) AAA
theorem yY:E3 59 uK:=Cg Tryd.func59 (by kernel_rfl) (by kernel_rfl) z7
theorem yX:E3 60 nq:=Cg Tryd.func60 (by kernel_rfl) (by kernel_rfl) z6
theorem yW:E3 61 nn:=Cg Tryd.func61 (by kernel_rfl) (by kernel_rfl) zy
theorem yV:E3 62 uJ:=Cg Tryd.func62 (by kernel_rfl) (by kernel_rfl) zx
theorem yU:E3 63 nk:=Cg Tryd.func63 (by kernel_rfl) (by kernel_rfl) zw
theorem yT:E3 68 uI:=Cg Tryd.func68 (by kernel_rfl) (by kernel_rfl) zu
theorem yS:E3 69 uH:=Cg Tryd.func69 (by kernel_rfl) (by kernel_rfl) zt
theorem yR:E3 70 nj:=Cg Tryd.func70 (by kernel_rfl) (by kernel_rfl) zr
theorem yQ:E3 71 uG:=Cg Tryd.func71 (by kernel_rfl) (by kernel_rfl) zq
theorem yP:E3 72 uF:=Cg Tryd.func72 (by kernel_rfl) (by kernel_rfl) zp
theorem yO:E3 77 nh:=Cg Tryd.func77 (by kernel_rfl) (by kernel_rfl) zo
theorem yN:E3 78 uE:=Cg Tryd.func78 (by kernel_rfl) (by kernel_rfl) zn
theorem yM:E3 80 nZ:=Cg Tryd.func80 (by kernel_rfl) (by kernel_rfl) zm
theorem yL:E3 82 uD:=Cg Tryd.func82 (by kernel_rfl) (by kernel_rfl) zl
noncomputable def kN:List (Nat × (EB->BB->AJ->Nat->List V->H->AH)):=[(3,F3),(5,F5),(6,F6),(7,F7),(8,F8),(9,F9),(10,F10),(11,wP),(12,F12),(13,oD),(14,uf),(15,ue),(16,oC),(17,ud),(18,uc),(19,ub),(20,wO),(21,F21),(22,wN),(23,F23),(24,F24),(25,wM),(26,F26),(27,ua),(28,uZ),(29,uY),(30,oB),(31,uX),(32,oA),(33,n9),(34,n8),(35,ny),(36,uW),(37,uV),(38,uU),(39,uT),(40,wL),(41,F41),(42,F42),(43,uS),(44,uR),(46,nw),(47,uQ),(48,uP),(49,F49),(50,wK),(51,wJ),(52,F52),(53,uO),(56,uN),(57,uM),(58,uL),(59,uK),(60,nq),(61,nn),(62,uJ),(63,nk),(68,uI),(69,uH),(70,nj),(71,uG),(72,uF),(77,nh),(78,uE),(80,nZ),(82,uD)]
noncomputable def BD (E:EB) (N:Nat) (D:BB):BB:=fun f=>match Bl kN f with
 | some g=>g E D (A2 E D) N
 | none=>match YK xn f with
  | some g=>(match Lo Tryd.prog glob g with | some a=>Xh E D (A2 E D) N a | none=>fun _ _=>none)
  | none=>fun _ _=>none
theorem ae (E:EB) (N:Nat) (D:BB) (hD:∀f,B5 Tryd.prog E glob f (D f)) (f:FuncId):B5 Tryd.prog E glob f (BD E N D f):=by
 have hall:∀p∈kN,E3 p.1 p.2:=by
  unfold kN
  simp only[LF]
  exact⟨SF3,SF5,SF6,SF7,SF8,SF9,zV,zU,zT,zS,zR,zQ,zP,zO,zN,zL,zK,zJ,zI,zH,zG,zF,zE,zD,zB,zA,yz,yy,yx,yw,yv,yu,yt,yr,yq,yp,yo,yn,ym,yl,yk,yj,yi,yh,yg,yf,ye,yd,yc,yb,ya,yZ,yY,yX,yW,yV,yU,yT,yS,yR,yQ,yP,yO,yN,yM,yL,fun _ h=>by cases h⟩
 unfold BD
 split
 ·rename_i g hg
  rw[BH]at hg
  exact hall _ (Gg hg) E _ hD N
 ·split
  ·rename_i g hg
   have hq:=jt _ (Pz _ _ _ hg)
   split
   ·rename_i a ha
    exact Xg hD (SV hD follows) N hq.1 ha (SZ ha) hq.2
   ·intro C _ _ R Z w args xs v Z' h;cases h
  ·intro C _ _ R Z w args xs v Z' h;cases h
def DT (E:EB) (N:Nat) (d:Nat):BB:=Nat.rec (fun _ _ _=>none) (fun _ ih=>BD E N ih) d
theorem ug (E:EB) (N:Nat):∀(d:Nat) (f:FuncId),B5 Tryd.prog E glob f (DT E N d f):=by
 intro d
 induction d with
 | zero=>intro f C _ _ R Z w args xs v Z' h;cases h
 | succ d ih=>exact ae E N _ ih
theorem Yd:∀g,glob g=true->g<7:=fun g hg=>by simpa[glob]using hg
end
end Go.Proofs.YtnpcmeaplmfdlaaDoor
namespace Go.Og
noncomputable section
theorem OQ {a b:Nat} (h:a<=b):Ab a b=true:=by rw[Ai];exact h
def DZ (Z:H) (b:Nat) (l:List V):Prop:=Bl Z.bl b=some (.cells l)
def Ci (Z:H):Prop:=∀b,Z.next<=b->Bl Z.bl b=none
structure Fr (S:Nat->Prop) (Z Z':H):Prop where
 tidy:Ci Z'
 le:Z.next<=Z'.next
 same:∀b,b<Z.next->¬S b->Bl Z'.bl b=Bl Z.bl b
def BQ:Nat->Prop:=fun _=>False
def AS (v:V) (b:Nat):Prop:=match v with
 | .sl b' _ _ _=>b=b'
 | _=>False
section
variable {E:EB} {Z Z' Z'':H} {b b':Nat} {l m:List V} {S T:Nat->Prop}
theorem DZ.lt (h:DZ Z b l) (ht:Ci Z):b<Z.next:=by
 rcases Ad b Z.next with hl|hl
 ·exact hl
 ·have:=ht b hl;rw[show Bl Z.bl b=some (.cells l)from h]at this;cases this
theorem Fr.refl (ht:Ci Z):Fr S Z Z:=⟨ht,AG _,fun _ _ _=>rfl⟩
theorem Fr.mono (h:Fr S Z Z') (hs:∀b,b<Z.next->S b->T b):Fr T Z Z':=⟨h.tidy,h.le,fun b hb hn=>h.same b hb fun hS=>hn (hs b hb hS)⟩
theorem Fr.trans (h:Fr S Z Z') (k:Fr T Z' Z'') (hT:∀b,b<Z.next->T b->S b):Fr S Z Z'':=
 ⟨k.tidy,AN h.le k.le,fun b hb hn=>(k.same b (Cz hb h.le) fun hT'=>hn (hT b hb hT')).trans (h.same b hb hn)⟩
theorem Fr.at_ (h:Fr S Z Z') (ha:DZ Z b l) (ht:Ci Z) (hn:¬S b):DZ Z' b l:=(h.same b (ha.lt ht) hn).trans ha
theorem Kp (c:Gv) (k:Nat):Bl (Ke Z b c).bl k=if b=k then some c else Bl Z.bl k:=by
 rw[BH,BH];exact Py Z b c k
theorem ah (m:List V):DZ (Ke Z b (.cells m)) b m:=by
 show Bl _ _=_
 rw[Kp,if_pos rfl]
theorem Fr.set (ht:Ci Z) (hb:b<Z.next) (c:Gv):Fr (fun k=>k=b) Z (Ke Z b c):=by
 refine⟨fun k hk=>?_,AG _,fun k hk hn=>?_⟩
 ·have hk':Z.next<=k:=hk
  rw[Kp,if_neg (by omega)];exact ht k hk'
 ·rw[Kp,if_neg (fun h=>hn h.symm)]
theorem PD (l:List V):DZ (CO Z (.cells l)) Z.next l:=by
 show Bl ((Z.next,Gv.cells l)::Z.bl) _=_
 rw[Bc,if_pos rfl]
theorem Fr.new (ht:Ci Z) (c:Gv):Fr S Z (CO Z c):=by
 refine⟨fun k hk=>?_,D3 _,fun k hk hn=>?_⟩
 ·have hk':Z.next+1<=k:=hk
  show Bl ((Z.next,c)::Z.bl) _=_
  rw[Bc,if_neg (by omega)];exact ht k (by omega)
 ·show Bl ((Z.next,c)::Z.bl) _=_
  rw[Bc,if_neg (by omega)]
theorem Q2 {J:List V->AH} (h:DZ Z b l):bn E Z b J=J l:=by unfold bn;rw[show Bl Z.bl b=some (.cells l)from h]
theorem LV {J:V->AH} {o:Nat} {v:V} (h:X8 l o=some v):Jd l o J=J v:=by unfold Jd;rw[h]
theorem kF {J:V->AH} {o:Nat} {v:V} (h:DZ Z b l) (hv:X8 l o=some v):Bm E Z b o J=J v:=(Q2 h).trans (LV hv)
theorem RC {J:V->AH} {o:Nat} {v:V} (h:DZ Z b l) (hv:l[o]? = some v):Bm E Z b o J=J v:=kF h (by rw[LW];exact hv)
theorem NA {J:List V->AH} {o n:Nat} (h:o+n<=l.length):HN l o n J=J ((l.drop o).take n):=by
 unfold HN;rw[show Ab (AU o n) l.length=true from OQ h]
theorem Gl {c:Bool} {a:AH} (h:c=true):I5 c a=a:=by rw[h];rfl
theorem JR {J:H->AH} {n o:Nat} {v:V} (h:DZ Z b l) (hc:(Ag v.cells.length n&&Ab (AU o n) l.length&&BJ v.cells)=true):Dk n b o v Z J=J (Ke Z b (.cells (F0 l o v.cells))):=by
 unfold Dk;rw[show Bl Z.bl b=some (.cells l)from h];exact Gl hc
theorem RA (m n:Nat):Dt (AA m) (AA n)=decide (m<n):=by
 rw[YJ];simp
theorem cO (m n:Nat):Ip (AA m) (AA n)=decide (m<=n):=by
 rw[YQ];simp
theorem Ux (m n:Nat):D0 (AA m) (AA n)=decide (m=n):=by
 rw[Tt];rw[NR];simp only[beq_iff_eq,decide_eq_true_eq];exact⟨fun h=>AA.inj h,fun h=>by rw[h]⟩
theorem HG {k:IntKind} {m:Nat} (h:m<=IE k):B4 k (AA m)=AA m:=
 (Gb _ _).trans (Qw (show Ab m (IE k)=true from OQ h))
theorem Bw {m n:Nat} (h:m+n<=9223372036854775807):CJ .i64 (AA m) (AA n)=AA (m+n):=by
 exact HG (k := .i64) (m:=m+n) h
theorem JP {m n:Nat} (h:n<=m) (hm:m<=9223372036854775807):JQ .i64 (AA m) (AA n)=AA (m-n):=by
 have e:Int.sub (AA m) (AA n)=AA (m-n):=by
  show (m:Int)-(n:Int)=((m-n:Nat):Int)
  omega
 show B4 .i64 (Int.sub (AA m) (AA n))=_
 rw[e]
 exact HG (k := .i64) (show m-n<=9223372036854775807 by omega)
theorem Ji {s:BS} {i:Nat} {J:Int->AH} (h:i<s.len):Ei s (AA i) J=J (AA (s.get i)):=by
 show I5 (Cf i s.len) _=_
 exact Gl (by simpa[CK]using h)
theorem Ng {s:BS} {i:Nat} {J:BS->AH} (h:i<=s.len):CW s (some (.int .i64 (AA i))) none J=J (s.sub i s.len):=by
 show I5 (Ab i s.len&&Ab s.len s.len) _=_
 exact Gl (by simp[Ai,h])
theorem Qx {s:BS} {i:Nat} {J:BS->AH} (h:i<=s.len):CW s none (some (.int .i64 (AA i))) J=J (s.sub 0 i):=by
 show I5 (Ab 0 i&&Ab i s.len) _=_
 exact Gl (by simp[Ai,h])
theorem Nh {s:BS} {i j:Nat} {J:BS->AH} (h:i<=j) (hj:j<=s.len):CW s (some (.int .i64 (AA i))) (some (.int .i64 (AA j))) J=J (s.sub i j):=by
 show I5 (Ab i j&&Ab j s.len) _=_
 exact Gl (by simp[Ai,h,hj])
def Sl (Z:H) (esz k:Nat) (v:V) (l:List V):Prop:=(k=0/\v = .nils/\l=[])\/(∃b,v = .sl b 0 k (.op esz)/\DZ Z b l/\0<k/\l.length=k*esz)
theorem Sl.nil (Z:H) (esz:Nat):Sl Z esz 0 .nils [] := .inl ⟨rfl,rfl,rfl⟩
theorem Sl.length {esz k:Nat} {v:V} (h:Sl Z esz k v l):l.length=k*esz:=by
 rcases h with ⟨rfl,_,rfl⟩|⟨b,_,_,_,h⟩
 ·simp
 ·exact h
theorem Sl.fr {esz k:Nat} {v:V} (h:Sl Z esz k v l) (f:Fr S Z Z') (ht:Ci Z) (hn:∀b,AS v b->¬S b):Sl Z' esz k v l:=by
 rcases h with h|⟨b,rfl,ha,hk,hl⟩
 ·exact .inl h
 ·exact .inr ⟨b,rfl,f.at_ ha ht (hn b rfl),hk,hl⟩
theorem Sl.one {esz k:Nat} {v:V} (h:Sl Z esz k v l):v.one=true:=by
 rcases h with ⟨_,rfl,_⟩|⟨b,rfl,_⟩<;>rfl
theorem Sl.slen {esz k:Nat} {v:V} {J:Nat->AH} (h:Sl Z esz k v l):BG v J=J k:=by
 rcases h with ⟨rfl,rfl,_⟩|⟨b,rfl,_⟩<;>rfl
theorem Sl.lt {esz k:Nat} {v:V} (h:Sl Z esz k v l) (ht:Ci Z) (hb:AS v b):b<Z.next:=by
 rcases h with ⟨_,rfl,_⟩|⟨c,rfl,ha,_⟩
 ·exact hb.elim
 ·cases hb;exact ha.lt ht
theorem bU {esz n xb xo:Nat} {c':Vo} {J:Nat->List V->AH} (h:DZ Z xb m) (hl:xo+n*esz<=m.length):srcK E Z esz (.sl xb xo n c') J=J n ((m.drop xo).take (n*esz)):=
 (Q2 h).trans (NA hl)
theorem Rr {b o n:Nat} {c:Vo} {a:AH}:Fk (.sl b o n c) a=a:=rfl
theorem Dy {esz b o n i:Nat} {c:Vo} {J:Nat->Nat->AH} (h:i<n):Am esz (.sl b o n c) (AA i) J=J b (AU o (GY i esz)):=by
 show I5 (Cf i n) _=_
 exact Gl (by simpa[CK]using h)
theorem N0 (l:EB) (id id':Nat):Bl (drop l id) id'=if id=id' then none else Bl l id':=by
 rw[BH,BH];exact MJ l id id'
end
theorem IT (k:IntKind) (n:Int) (J:Int->AH):Al k (.int k n) J=J n:=by simp[Al]
theorem Ma (b:Bool) (J:Bool->AH):AT (.bool b) J=J b:=rfl
theorem Pg (s:BS) (J:BS->AH):DE (.str s) J=J s:=rfl
theorem Ph (b o:Nat) (J:Nat->Nat->AH):Br (.ptr b o) J=J b o:=rfl
theorem Pk (l:List V) (J:List V->AH):B7 (.agg l) J=J l:=rfl
theorem Pf (l:List V) (J:List V->AH):Cw (.tup l) J=J l:=rfl
theorem MZ (v:V) (l:List V) (J:V->List V->AH):AP (v::l) J=J v l:=rfl
theorem Pj (a:AH):AZ [] a=a:=rfl
theorem Mg (v:V) (Z:H) (J:V->H->AH):AV (some (v,Z)) J=J v Z:=rfl
def BS.nats (s:BS):List Nat:=s.toList.map UInt8.toNat
theorem BS.length_nats (s:BS):s.nats.length=s.len:=by simp[BS.nats,BS.length_toList]
theorem BS.nats_get {s:BS} {i:Nat} (h:i<s.len):s.nats[i]? = some (s.get i):=by
 simp only[BS.nats,Bk,BS.getElem?_toList,if_pos h,Bo,UInt8.toNat_ofNat']
 rw[Ew (s.get_lt i)]
theorem BS.nats_lt (s:BS):∀c∈s.nats,c<256:=by
 intro c hc
 simp only[BS.nats,I1]at hc
 obtain⟨u,_,rfl⟩:=hc
 exact u.toNat_lt
theorem BS.nats_sub {s:BS} {lo hi:Nat} (h:hi<=s.len):(s.sub lo hi).nats=(s.nats.drop lo).take (hi-lo):=by
 simp[BS.nats,BS.toList_sub h]
theorem SH {l m:List UInt8} (h:l.map UInt8.toNat=m.map UInt8.toNat):l=m:=by
 have hm:=congrArg (List.map UInt8.ofNat) h
 simpa[List.map_map,Function.comp_def]using hm
theorem BS.beq_nats (a b:BS):a.beq b=decide (a.nats=b.nats):=by
 rw[BS.beq_eq]
 rw[NR]
 simp only[decide_eq_true_eq]
 exact⟨fun h=>by rw[BS.nats,h,<-BS.nats],fun h=>SH h⟩
def BS.canon (s:BS):Prop:=s.val<2 ^ (8*s.len)
theorem BS.canon_low {s:BS} (h:s.canon):s.low=s.val:=Ew h
theorem BS.canon_ext {a b:BS} (ha:a.canon) (hb:b.canon) (h:a.nats=b.nats):a=b:=by
 have ht:=SH h
 obtain⟨hl,hg⟩:=BS.get_eq ht
 have:=(BS.low_eq hl).2 hg
 rw[BS.canon_low ha,BS.canon_low hb]at this
 cases a;cases b
 simp only[]at hl this
 subst hl;subst this;rfl
theorem BS.sub_canon (s:BS) (lo hi:Nat):(s.sub lo hi).canon:=Nat.mod_lt _ (Nat.pow_pos (by decide))
def Cj:List Nat->BS
 | []=>⟨0,0⟩
 | c::l=>⟨Nat.succ (Cj l).len,AU c (GY 256 (Cj l).val)⟩
theorem Q6:∀{l:List Nat},(∀c∈l,c<256)->Cj l=BS.ofList (l.map UInt8.ofNat)
 | [],_=>rfl
 | c::l,h=>by
  have hc:(UInt8.ofNat c).toNat=c:=by simp only[UInt8.toNat_ofNat'];exact Ew (h c (by simp))
  have ih:=Q6 (l:=l) (fun d hd=>h d (Ah _ hd))
  show BS.mk (Nat.succ (Cj l).len) (AU c (GY 256 (Cj l).val))=BS.mk (Nat.succ (BS.ofList (l.map UInt8.ofNat)).len) (AU (UInt8.ofNat c).toNat (GY 256 (BS.ofList (l.map UInt8.ofNat)).val))
  rw[ih,hc]
theorem Fo:∀l:List Nat,(Cj l).len=l.length
 | []=>rfl
 | c::l=>by simp[Cj,Fo l]
theorem LS {l:List Nat} (h:∀c∈l,c<256):(Cj l).nats=l:=by
 rw[Q6 h]
 apply FO
 intro i
 by_cases hi:i<l.length
 ·have hl:(BS.ofList (l.map UInt8.ofNat)).len=l.length:=by rw[BS.len_ofList,Ea]
  rw[BS.nats_get (by omega)]
  have hc:(l.map UInt8.ofNat)[i]? = some (UInt8.ofNat l[i]):=by simp[hi]
  rw[BS.get_ofList _ _ _ hc]
  simp only[UInt8.toNat_ofNat',AY hi]
  rw[Ew (h _ (UK hi))]
 ·rw[Af (by rw[BS.length_nats,BS.len_ofList,Ea];omega),Af (by omega)]
theorem Pu:∀{l:List Nat},(∀c∈l,c<256)->(Cj l).canon
 | [],_=>by show 0<2 ^ (8*0);decide
 | c::l,h=>by
  have ih:(Cj l).val<2 ^ (8*(Cj l).len):=Pu (fun d hd=>h d (by simp[hd]))
  have hc:=h c (by simp)
  show c+256*(Cj l).val<2 ^ (8*((Cj l).len+1))
  have e:2 ^ (8*((Cj l).len+1))=256*2 ^ (8*(Cj l).len):=by
   rw[Nat.mul_add,Nat.pow_add];simp[Nat.mul_comm]
  rw[e];omega
theorem bR {s:BS} {lo hi:Nat} (h:hi<=s.len):s.sub lo hi=Cj ((s.nats.drop lo).take (hi-lo)):=by
 have hb:∀c∈(s.nats.drop lo).take (hi-lo),c<256:=fun c hc=>s.nats_lt c (Bf (D4 hc))
 exact BS.canon_ext (s.sub_canon lo hi) (Pu hb) (by rw[BS.nats_sub h,LS hb])
def On (s:BS) (i:Nat) (r:List Nat):Prop:=i<=s.len/\s.nats.drop i=r
section
variable {s:BS} {i:Nat} {r:List Nat}
theorem On.start (s:BS):On s 0 s.nats:=⟨CD _,rfl⟩
theorem On.len (h:On s i r):i+r.length=s.len:=by
 have:=congrArg Ij h.2
 rw[Aa,BS.length_nats]at this
 have:=h.1;omega
theorem On.bd (h:On s i r):∀c∈r,c<256:=fun c hc=>s.nats_lt c (Bf (h.2 ▸ hc))
theorem On.drop (h:On s i r) {k:Nat} (hk:k<=r.length):On s (i+k) (r.drop k):=by
 refine⟨by have:=h.len;omega,?_⟩
 rw[<-h.2,C5]
theorem On.tail {c:Nat} (h:On s i (c::r)):On s (i+1) r:=h.drop (k:=1) (by simp)
theorem On.get? (h:On s i r) (k:Nat):r[k]? = if i+k<s.len then some (s.get (i+k))else none:=by
 rw[<-h.2,CL]
 by_cases hk:i+k<s.len
 ·rw[if_pos hk,BS.nats_get hk]
 ·rw[if_neg hk,Af (by rw[BS.length_nats];omega)]
theorem On.getD_lt (h:On s i r) {k:Nat} (hk:i+k<s.len):r.getD k 0=s.get (i+k):=by
 rw[BA,h.get?,if_pos hk];rfl
theorem On.sub (h:On s i r) {k:Nat} (hk:k<=r.length):s.sub i (i+k)=Cj (r.take k):=by
 have:=h.len
 rw[bR (by omega),h.2,Nat.add_sub_cancel_left]
theorem On.subAll (h:On s i r):s.sub i s.len=Cj r:=by
 have:=h.len
 rw[show s.len=i+r.length by omega,h.sub (AG _),UJ]
end
end
end Go.Og
namespace Go.Og
noncomputable section
section
variable {E:EB} {D:BB} {n0 n i:Nat} {o:BR} {l:List BR} {p:DP} {pl:List DP} {s:DS} {v:V}
theorem Yl (hg:o.guard=none) (hc:o.op.cls = .p) (hv:BU o.op (restr p.looks s.e)=some v) :
  B6 E D n0 n i (o::l) (p::pl) s=B6 E D n0 n (i+1) l pl { s with e:=Cb s.e o.dst v }:=by
 have h:Dd E D n0 n i o p s=some { s with e:=Cb s.e o.dst v }:=by unfold Dd;rw[hg];simp only[BZ,hc,hv]
 show (match Dd E D n0 n i o p s with | none=>none | some s'=>B6 E D n0 n (i+1) l pl s')=_
 rw[h]
theorem Ym {h:EB} {ss:List (EB)} (hg:o.guard=none) (hc:o.op.cls = .l) (hs:s.ss=h::ss) (hv:CU E o.op (restr p.looks s.e) ⟨s.nx,Cy n0 n (Dj p.anc s.am) h⟩=some v) :
  B6 E D n0 n i (o::l) (p::pl) s=B6 E D n0 n (i+1) l pl { s with e:=Cb s.e o.dst v,ls:=(i,o.op,restr p.looks s.e,v)::s.ls }:=by
 have h:Dd E D n0 n i o p s=some { s with e:=Cb s.e o.dst v,ls:=(i,o.op,restr p.looks s.e,v)::s.ls }:=by unfold Dd;rw[hg];simp only[BZ,hc,hs,hv]
 show (match Dd E D n0 n i o p s with | none=>none | some s'=>B6 E D n0 n (i+1) l pl s')=_
 rw[h]
theorem Yo {b:Gv} (hg:o.guard=none) (hc:o.op.cls = .a) (hv:CX o.op (restr p.looks s.e) (n0+i)=some (v,b)) :
  B6 E D n0 n i (o::l) (p::pl) s=B6 E D n0 n (i+1) l pl { s with e:=Cb s.e o.dst v,ss:=s.ss.map ((n0+i,b)::·),am:=s.am ||| 2 ^ i }:=by
 have h:Dd E D n0 n i o p s=some { s with e:=Cb s.e o.dst v,ss:=s.ss.map ((n0+i,b)::·),am:=s.am ||| 2 ^ i }:=by unfold Dd;rw[hg];simp only[BZ,hc,hv]
 show (match Dd E D n0 n i o p s with | none=>none | some s'=>B6 E D n0 n (i+1) l pl s')=_
 rw[h]
theorem WN {b:Gv} {id am':Nat} (hg:o.guard=none) (hc:o.op.cls = .a) (hid:n0+i=id) (ham:s.am ||| 2 ^ i=am') (hv:CX o.op (restr p.looks s.e) id=some (v,b)) :
  B6 E D n0 n i (o::l) (p::pl) s=B6 E D n0 n (i+1) l pl { s with e:=Cb s.e o.dst v,ss:=s.ss.map ((id,b)::·),am:=am' }:=by
 subst hid;subst ham
 exact Yo hg hc hv
theorem Yn {h:EB} {ss:List (EB)} {Z':H} (hg:o.guard=none) (hc:o.op.cls = .k) (hs:s.ss=h::ss) (hv:EO E D o.op (restr p.looks s.e) ⟨s.nx,Cy n0 n (Dj p.anc s.am) h⟩=some (v,Z')) :
  B6 E D n0 n i (o::l) (p::pl) s=B6 E D n0 n (i+1) l pl { s with e:=Cb s.e o.dst v,nx:=Z'.next,ss:=(E2 n0 n (Dj p.anc s.am) h++Z'.bl)::s.ss,ks:=i::s.ks }:=by
 have h:Dd E D n0 n i o p s=some { s with e:=Cb s.e o.dst v,nx:=Z'.next,ss:=(E2 n0 n (Dj p.anc s.am) h++Z'.bl)::s.ss,ks:=i::s.ks }:=by unfold Dd;rw[hg];simp only[BZ,hc,hs,hv]
 show (match Dd E D n0 n i o p s with | none=>none | some s'=>B6 E D n0 n (i+1) l pl s')=_
 rw[h]
theorem Kz:B6 E D n0 n i [] pl s=some s:=by cases pl<;>rfl
theorem SW {ops:List BR} {e:Bt} {Z:H} {h:EB} {ss:List (EB)} (hd:B6 E D Z.next ops.length 0 ops pl ⟨e,Z.next+ops.length,[Z.bl],[],0,[]⟩=some s)
  (hl:s.ls.all (fun(j,op,em,v)=>E9 E Z.next ops.length pl s.am j op em v s.ss s.ks [])=true) (hs:s.ss=h::ss) :
  A2 E D ops pl e Z=some (s.e,⟨s.nx,Cy Z.next ops.length (fun k=>s.am.testBit k) h⟩):=by
 unfold A2
 rw[hd]
 show (if s.ls.all (fun(j,op,em,v)=>E9 E Z.next ops.length pl s.am j op em v s.ss s.ks [])=true then _ else none)=_
 rw[if_pos hl,hs]
end
section
variable {E:EB} {n0 n am j:Nat} {pl:List DP} {op:EK} {em:Bt} {v:V} {h:EB} {ss:List (EB)} {k:Nat} {ks more:List Nat}
theorem OK (hl:I2 pl j (k::ks) more=false):E9 E n0 n pl am j op em v (h::ss) (k::ks) more=E9 E n0 n pl am j op em v ss ks (k::more):=by
 show ((!I2 pl j (k::ks) more || _)&&E9 E n0 n pl am j op em v ss ks (k::more))=_
 rw[hl];rfl
end
section
variable {n0 n:Nat} {p:Nat->Bool} {l:EB}
theorem GP:∀{l:EB},(∀i,i<n->p i=false->look l (n0+i)=none)->Cy n0 n p l=l/\E2 n0 n p l=[]
 | [],_=>⟨rfl,rfl⟩
 | (k,b)::l,h=>by
  have hc:(Ab n0 k&&Cf k (n0+n) && !p (k-n0))=false:=by
   cases hb:(Ab n0 k&&Cf k (n0+n) && !p (k-n0))with
   | false=>rfl
   | true=>
    exfalso
    simp only[AF,Ai,CK,Cq]at hb
    have:=h (k-n0) (by omega) hb.2
    rw[show n0+(k-n0)=k by omega]at this
    simp[look]at this
  have ih:=GP (l:=l) (fun i hi hp=>by
   have:=h i hi hp
   simp only[look]at this
   split at this
   ·cases this
   ·exact this)
  unfold Cy E2
  rw[hc]
  simp only[Cd,if_false]
  exact⟨by rw[ih.1],ih.2⟩
theorem Ci.gap {Z:H} (h:Ci Z) (n:Nat):∀id,Z.next<=id->id<Z.next+n->look Z.bl id=none:=fun id h1 _=>by
 have:=h id h1;rwa [BH]at this
theorem Ci.wide {Z:H} (h:Ci Z) (n:Nat):Ci ⟨Z.next+n,Z.bl⟩:=fun b hb=>h b (by have:Z.next+n<=b:=hb;omega)
theorem KK {id:Nat} (h:id<n0):look (Cy n0 n p l) id=look l id:=by
 rw[Dx,if_neg (by omega)]
theorem G7 {α:Type} {k id:Nat} {b:α} {l:List (Nat × α)} (h:k≠id):look ((k,b)::l) id=look l id:=by simp[look,h]
theorem cN {E:EB} {x:AO} {e:Bt} {b off nx:Nat} {h:EB} {c:List V} {v:V} (hx:CV e x = .ptr b off) (hl:look h b=some (.cells c)) (hv:c[off]? = some v) :
  CU E (.load none x) e ⟨nx,h⟩=some v:=by
 unfold CU
 simp only[hx,rd,hl,hv]
end
section
variable {E:EB} {D:BB} {n0 n i:Nat} {d:Option Nat} {o:EK} {l:List BR} {anc:Nat} {lk:List Nat} {pl:List DP} {e:Bt} {nx am:Nat} {ss:List (EB)} {h:EB} {ks:List Nat} {ls:List (Nat × EK × Bt × V)}
theorem dp (v:V) (hc:o.cls = .p) (hv:BU o (restr lk e)=some v):B6 E D n0 n i (⟨d,o,none⟩::l) (⟨anc,lk⟩::pl) ⟨e,nx,ss,ks,am,ls⟩=B6 E D n0 n (i+1) l pl ⟨Cb e d v,nx,ss,ks,am,ls⟩:=
 Yl rfl hc hv
theorem dl (v:V) (hc:o.cls = .l) (hv:CU E o (restr lk e) ⟨nx,Cy n0 n (Dj anc am) h⟩=some v):B6 E D n0 n i (⟨d,o,none⟩::l) (⟨anc,lk⟩::pl) ⟨e,nx,h::ss,ks,am,ls⟩=B6 E D n0 n (i+1) l pl ⟨Cb e d v,nx,h::ss,ks,am,(i,o,restr lk e,v)::ls⟩:=
 Ym rfl hc rfl hv
theorem da (v:V) (b:Gv) (id am':Nat) (hc:o.cls = .a) (hid:n0+i=id) (ham:am ||| 2 ^ i=am') (hv:CX o (restr lk e) id=some (v,b)):B6 E D n0 n i (⟨d,o,none⟩::l) (⟨anc,lk⟩::pl) ⟨e,nx,ss,ks,am,ls⟩=B6 E D n0 n (i+1) l pl ⟨Cb e d v,nx,ss.map ((id,b)::·),ks,am',ls⟩:=
 WN rfl hc hid ham hv
theorem dk (v:V) (nx':Nat) (bl':EB) (hc:o.cls = .k) (hk:Cy n0 n (Dj anc am) h=h/\E2 n0 n (Dj anc am) h=[]) (hv:EO E D o (restr lk e) ⟨nx,h⟩=some (v,⟨nx',bl'⟩)):B6 E D n0 n i (⟨d,o,none⟩::l) (⟨anc,lk⟩::pl) ⟨e,nx,h::ss,ks,am,ls⟩=B6 E D n0 n (i+1) l pl ⟨Cb e d v,nx',bl'::h::ss,i::ks,am,ls⟩:=by
 have:=Yn (E:=E) (D:=D) (n0:=n0) (n:=n) (i:=i) (o:=⟨d,o,none⟩) (l:=l) (p:=⟨anc,lk⟩) (pl:=pl) (s:=⟨e,nx,h::ss,ks,am,ls⟩) (v:=v) (Z':=⟨nx',bl'⟩) rfl hc rfl (by show EO E D o (restr lk e) ⟨nx,Cy n0 n (Dj anc am) h⟩=_;rw[hk.1];exact hv)
 rw[this]
 show B6 E D n0 n (i+1) l pl ⟨Cb e d v,nx',(E2 n0 n (Dj anc am) h++bl')::h::ss,i::ks,am,ls⟩=_
 rw[hk.2];rfl
end
end
end Go.Og
namespace Go.Og
noncomputable section
mutual
def V.rn (ρ:Nat->Nat):V->V
 | .ptr b o => .ptr (ρ b) o
 | .sl b o n c => .sl (ρ b) o n c
 | .sle b o k e => .sle (ρ b) o k e
 | .mp b => .mp (ρ b)
 | .fn f a c => .fn f (Pl ρ a) (Pl ρ c)
 | .ifc t v => .ifc t (V.rn ρ v)
 | .agg l => .agg (Pl ρ l)
 | .tup l => .tup (Pl ρ l)
 | v=>v
def Pl (ρ:Nat->Nat):List V->List V
 | []=>[]
 | v::l=>V.rn ρ v::Pl ρ l
end
mutual
def V.inn (p:Nat->Bool):V->Bool
 | .dead=>false
 | .ptr b _=>p b
 | .sl b _ _ _=>p b
 | .sle b _ _ _=>p b
 | .mp b=>p b
 | .fn _ a c=>JG p a&&JG p c
 | .ifc _ v=>V.inn p v
 | .agg l=>JG p l
 | .tup l=>JG p l
 | _=>true
def JG (p:Nat->Bool):List V->Bool
 | []=>true
 | v::l=>V.inn p v&&JG p l
end
section
variable {R S:Ren} {p:Nat->Bool} {ρ:Nat->Nat}
mutual
theorem Ir (h:∀b,p b=true->S (ρ b)=R b):∀v:V,V.inn p v=true->Ar S (V.rn ρ v)=Ar R v
 | .dead,hc=>by simp[V.inn]at hc
 | .ptr b o,hc=>by
  simp only[V.inn]at hc
  simp only[V.rn,Ar,h b hc]
 | .sl b o n (.ex c),hc=>by
  simp only[V.inn]at hc
  simp only[V.rn,Ar,h b hc]
 | .sl b o n (.op c),hc=>by
  simp only[V.inn]at hc
  simp only[V.rn,Ar,h b hc]
 | .sle b o k e,hc=>by
  simp only[V.inn]at hc
  simp only[V.rn,Ar,h b hc]
 | .mp b,hc=>by
  simp only[V.inn]at hc
  simp only[V.rn,Ar,h b hc]
 | .bool _,_=>rfl
 | .int _ _,_=>rfl
 | .str _,_=>rfl
 | .nilp,_=>rfl
 | .nils,_=>rfl
 | .nilm,_=>rfl
 | .nilf,_=>rfl
 | .nili,_=>rfl
 | .fn f a c,hc=>by
  simp only[V.inn,AF]at hc
  simp only[V.rn,Ar,IZ h a hc.1,IZ h c hc.2]
 | .ifc t v,hc=>by
  simp only[V.inn]at hc
  simp only[V.rn,Ar,Ir h v hc]
 | .agg l,hc=>by
  simp only[V.inn]at hc
  simp only[V.rn,Ar,IZ h l hc]
 | .tup l,hc=>by
  simp only[V.inn]at hc
  simp only[V.rn,Ar,IZ h l hc]
theorem IZ (h:∀b,p b=true->S (ρ b)=R b):∀l:List V,JG p l=true->Az S (Pl ρ l)=Az R l
 | [],_=>rfl
 | v::l,hc=>by
  simp only[JG,AF]at hc
  simp only[Pl,Az,Ir h v hc.1,IZ h l hc.2]
end
theorem Q1:∀(l:List V) (k:Nat),(Pl ρ l)[k]? = (l[k]?).map (V.rn ρ)
 | [],k=>by simp[Pl]
 | v::l,0=>by simp[Pl]
 | v::l,k+1=>by simpa[Pl]using Q1 l k
theorem Kh:∀(l:List V),(Pl ρ l).length=l.length
 | []=>rfl
 | v::l=>by simp[Pl,Kh l]
theorem N7:∀{l:List V} {k:Nat} {v:V},JG p l=true->l[k]? = some v->V.inn p v=true
 | [],k,v,_,h=>by simp at h
 | u::l,0,v,hc,h=>by
  simp only[JG,AF]at hc
  simp at h;subst h;exact hc.1
 | u::l,k+1,v,hc,h=>by
  simp only[JG,AF]at hc
  exact N7 hc.2 (by simpa using h)
def jy (ρ:Nat->Nat):List (V × V)->List (V × V)
 | []=>[]
 | q::l=>(V.rn ρ q.1,V.rn ρ q.2)::jy ρ l
def WD (p:Nat->Bool):List (V × V)->Bool
 | []=>true
 | q::l=>V.inn p q.1&&V.inn p q.2&&WD p l
def Gv.rn (ρ:Nat->Nat):Gv->Gv
 | .cells l => .cells (Pl ρ l)
 | .map l => .map (jy ρ l)
 | .siter s q => .siter s q
 | .unit t => .unit t
def Gv.inn (p:Nat->Bool):Gv->Bool
 | .cells l=>JG p l
 | .map l=>WD p l
 | .siter _ _=>true
 | .unit _=>true
theorem Cp.rn (h:∀b,p b=true->S (ρ b)=R b):∀{l:List (V × V)} {es:List MapEntry},WD p l=true->(Cp S (jy ρ l) es↔Cp R l es)
 | [],[],_=>Iff.rfl
 | (a,b)::l,e::es,hc=>by
  simp only[WD,AF]at hc
  simp only[jy,Cp,Ir h a hc.1.1,Ir h b hc.1.2,Cp.rn h hc.2]
 | [],_::_,_=>Iff.rfl
 | _::_,[],_=>Iff.rfl
theorem Hd.rn (h:∀b,p b=true->S (ρ b)=R b) {s:Nat} {l:List V} {arr:Array Value} (hc:JG p l=true):Hd S s (Pl ρ l) arr↔Hd R s l arr:=by
 constructor
 ·intro hh k v hk
  obtain⟨a,ha,h1,h2⟩:=hh k (V.rn ρ v) (by rw[Q1,hk];rfl)
  exact⟨a,(Ir h v (N7 hc hk)).symm.trans ha,h1,h2⟩
 ·intro hh k v hk
  rw[Q1,Ao]at hk
  obtain⟨u,hu,rfl⟩:=hk
  obtain⟨a,ha,h1,h2⟩:=hh k u hu
  exact⟨a,(Ir h u (N7 hc hu)).trans ha,h1,h2⟩
theorem E4.rn (h:∀b,p b=true->S (ρ b)=R b) {i:BI} {b:Gv} {w:World} (hc:b.inn p=true):E4 S i (b.rn ρ) w↔E4 R i b w:=by
 cases b with
 | cells l=>
  have e:=@Hd.rn R S p ρ h i.shift l
  constructor
  ·rintro⟨arr,el,lo,hi,h1,h2,h3,h4,h5⟩
   exact⟨arr,el,lo,hi,h1,(e hc).1 h2,h3,by rw[Kh]at h4;exact h4,h5⟩
  ·rintro⟨arr,el,lo,hi,h1,h2,h3,h4,h5⟩
   exact⟨arr,el,lo,hi,h1,(e hc).2 h2,h3,by rw[Kh];exact h4,h5⟩
 | map l=>
  constructor
  ·rintro⟨es,clock,h1,h2⟩
   exact⟨es,clock,h1,(Cp.rn h hc).1 h2⟩
  ·rintro⟨es,clock,h1,h2⟩
   exact⟨es,clock,h1,(Cp.rn h hc).2 h2⟩
 | siter s q=>exact Iff.rfl
 | unit t=>exact Iff.rfl
end
structure Ff where
 n0:Nat
 args:List V
 bl0:EB
 v:V
 n1:Nat
 bl1:EB
def D1 (l:EB) (b:Nat):Bool:=match Bl l b with
 | some _=>true
 | none=>false
def OS (l:EB) (q:Nat->Bool):Bool:=l.all fun x=>q x.1
def U4 (l:EB) (q:Nat->Bool):Bool:=l.all fun x=>x.2.inn q
def Ff.right (ng:Nat) (F:List V->H->AH) (e:Ff):Bool:=match F e.args ⟨e.n0,e.bl0⟩with
 | some (v,Z)=>V.beq v e.v&&(WG e.bl1 Z.bl&&(Ag Z.next e.n1&&(Ab e.n0 e.n1&&(Ab ng e.n0&&(OS e.bl0 (fun b=>Ab ng b&&Cf b e.n0)&&(U4 e.bl0 (D1 e.bl0)&&(JG (D1 e.bl0) e.args &&
   (OS e.bl1 (fun b=>Ab e.n0 b || D1 e.bl0 b)&&(U4 e.bl1 (D1 e.bl1)&&V.inn (D1 e.bl1) e.v)))))))))
 | none=>false
def Ff.to (e:Ff) (ρ:Nat->Nat) (Z:H) (id:Nat):Nat:=if id<e.n0 then ρ id else id-e.n0+Z.next
def LP (ρ:Nat->Nat) (l:EB):EB:=l.map fun x=>(ρ x.1,x.2.rn ρ)
def Ff.old (e:Ff) (ρ:Nat->Nat) (id:Nat):Bool:=e.bl0.any fun x=>Ag (ρ x.1) id
def Ff.ans (e:Ff) (ρ:Nat->Nat) (Z:H):V × H:=(e.v.rn (e.to ρ Z),⟨Z.next+(e.n1-e.n0),LP (e.to ρ Z) e.bl1++Z.bl.filter fun x=>!e.old ρ x.1⟩)
structure Ff.Fits (e:Ff) (ρ:Nat->Nat) (args:List V) (Z:H):Prop where
 args:args=Pl ρ e.args
 bl:∀id b,look e.bl0 id=some b->look Z.bl (ρ id)=some (b.rn ρ)
 inj:∀id id',D1 e.bl0 id=true->D1 e.bl0 id'=true->ρ id=ρ id'->id=id'
theorem DO {l:EB} {b:Nat}:D1 l b=true↔∃c,look l b=some c:=by
 unfold D1;rw[BH]
 cases look l b<;>simp
theorem Ht {l:EB} {q:Nat->Bool} (h:OS l q=true) {id:Nat} {b:Gv} (hb:look l id=some b):q id=true:=by
 have:=D6.1 h (id,b) (Gg hb)
 exact this
theorem OT {l:EB} {q:Nat->Bool} (h:U4 l q=true) {id:Nat} {b:Gv} (hb:look l id=some b):b.inn q=true:=by
 have:=D6.1 h (id,b) (Gg hb)
 exact this
theorem J7 {ρ:Nat->Nat}:∀{l:EB} {id:Nat} {b:Gv},look (LP ρ l) id=some b->∃k c,(k,c)∈l/\id=ρ k/\b=c.rn ρ
 | [],id,b,h=>by cases h
 | (k,c)::l,id,b,h=>by
  simp only[LP,B3,look]at h
  split at h
  ·rename_i he
   have he:=BO he
   simp only[AK.injEq]at h
   exact⟨k,c,As,he.symm,h.symm⟩
  ·obtain⟨k',c',h1,h2,h3⟩:=J7 (l:=l) h
   exact⟨k',c',Ah _ h1,h2,h3⟩
theorem Gh {q:Nat->Bool}:∀(l:EB) (id:Nat),look (l.filter fun x=>q x.1) id=if q id=true then look l id else none
 | [],id=>by simp[look]
 | (k,c)::l,id=>by
  by_cases hq:q k=true
  ·rw[List.filter_cons_of_pos (by exact hq)]
   simp only[look,Gh l id]
   by_cases hk:Ag k id=true
   ·have:=BO hk;subst this
    simp[hq]
   ·simp[hk]
  ·rw[List.filter_cons_of_neg (by exact hq),Gh l id]
   simp only[look]
   by_cases hk:Ag k id=true
   ·have:=BO hk;subst this
    simp[hq]
   ·simp[hk]
theorem Q3 {e:Ff} {ρ:Nat->Nat} {id:Nat}:e.old ρ id=true↔∃k c,(k,c)∈e.bl0/\ρ k=id:=by
 unfold Ff.old
 rw[List.any_eq_true]
 constructor
 ·rintro⟨⟨k,c⟩,h1,h2⟩;exact⟨k,c,h1,BO h2⟩
 ·rintro⟨k,c,h1,h2⟩;exact⟨(k,c),h1,by subst h2;exact EU _⟩
theorem HW:∀{l:EB} {k:Nat} {c:Gv},(k,c)∈l->∃d,look l k=some d
 | (j,d)::l,k,c,h=>by
  simp only[look]
  by_cases hk:Ag j k=true
  ·exact⟨d,by simp[hk]⟩
  ·simp only[hk]
   rcases BF.1 h with h|h
   ·cases h;exact(hk (EU _)).elim
   ·simpa using HW h
theorem kD {P:Program} {G:Nat->Bool} {f:FuncId} {F:List V->H->AH} (hS:B5 P [] G f F) {ng:Nat} (hG:∀g,G g=true->g<ng) {e:Ff} (h:e.right ng F=true)
  {C:Cx} (hGC:C.G=G) {R:Ren} {Z:H} {w:World} {args:List V} {xs:List Value} {ρ:Nat->Nat} (hm:e.Fits ρ args Z) (hrel:DL C R Z w) (hxs:Az R args=some xs) :
  Hb P f=true/\Calls P f xs.toArray w fun en w'=>∃R' x,Gw Z.next R R'/\Z.next<=(e.ans ρ Z).2.next/\DL C R' (e.ans ρ Z).2 w'/\Ar R' (e.ans ρ Z).1=some x/\en = .returned x:=by
 unfold Ff.right at h
 cases hr:F e.args ⟨e.n0,e.bl0⟩with
 | none=>rw[hr]at h;cases h
 | some q=>
  obtain⟨v,Z1⟩:=q
  rw[hr]at h
  simp only[AF,Ai]at h
  obtain⟨hv,hin,hnx,hn01,hng,hi0,hb0,ha0,hi1,hb1,hv1⟩:=h
  have hv:=MS _ _ hv
  subst hv
  have hin:=NI hin
  have hnx:=BO hnx
  let R0:Ren:=fun id=>match D1 e.bl0 id with
   | true=>R (ρ id)
   | false=>if id<ng then some ⟨id,0,0⟩else none
  have hR0:∀b,D1 e.bl0 b=true->R (ρ b)=R0 b:=fun b hb=>by
   show R (ρ b)=(match D1 e.bl0 b with | true=>R (ρ b) | false=>_)
   rw[hb]
  have hlt0:∀{id b},look e.bl0 id=some b->ng<=id/\id<e.n0:=fun hb=>by
   have:=Ht hi0 hb
   simpa[CK]using this
  have hxs0:Az R0 e.args=some xs:=by
   rw[hm.args,IZ hR0 _ ha0]at hxs;exact hxs
  have own0:∀id b,look e.bl0 id=some b->∃i,R (ρ id)=some i/\R0 id=some i/\C.O i.blk/\E4 R0 i b w:=fun id b hb=>by
   obtain⟨i,hi,hO,hok⟩:=hrel.own _ _ (hm.bl id b hb)
   exact⟨i,hi,(hR0 id (DO.2 ⟨_,hb⟩)).symm.trans hi,hO,(E4.rn hR0 (OT hb0 hb)).1 hok⟩
  let O0:Nat->Prop:=fun blk=>(∃id b i,look e.bl0 id=some b/\R (ρ id)=some i/\i.blk=blk)\/w.heap.size<=blk
  have hrel0:DL ⟨O0,w,[],G⟩ R0 ⟨e.n0,e.bl0⟩ w:=by
   refine⟨?_,?_,?_,fun id b hb=>by simp[look]at hb,?_,fun _ _=>rfl,AG _,fun blk hb => .inr hb,rfl,rfl,rfl⟩
   ·intro id hid
    have hid':e.n0<=id:=hid
    have hd:D1 e.bl0 id=false:=by
     cases hc:D1 e.bl0 id with
     | false=>rfl
     | true=>
      obtain⟨b,hb⟩:=DO.1 hc
      have:=(hlt0 hb).2;omega
    show (match D1 e.bl0 id with | true=>R (ρ id) | false=>_)=none
    rw[hd]
    exact if_neg (by omega)
   ·intro id b hb
    obtain⟨i,hi,hi0',_,hok⟩:=own0 id b hb
    exact⟨i,hi0',.inl ⟨id,b,i,hb,hi,rfl⟩,hok⟩
   ·intro id id' b b' i i' hb hb' hi hi' hbl
    obtain⟨j,hj,hj0,_,_⟩:=own0 id b hb
    obtain⟨j',hj',hj0',_,_⟩:=own0 id' b' hb'
    rw[hj0]at hi;cases hi
    rw[hj0']at hi';cases hi'
    exact hm.inj id id' (DO.2 ⟨_,hb⟩) (DO.2 ⟨_,hb'⟩) (hrel.inj _ _ _ _ _ _ (hm.bl _ _ hb) (hm.bl _ _ hb') hj hj' hbl)
   ·intro g hg
    have hgn:=hG g hg
    refine⟨⟨g,0,0⟩,?_,rfl,rfl⟩
    have hd:D1 e.bl0 g=false:=by
     cases hc:D1 e.bl0 g with
     | false=>rfl
     | true=>
      obtain⟨b,hb⟩:=DO.1 hc
      have:=(hlt0 hb).1;omega
    show (match D1 e.bl0 g with | true=>R (ρ g) | false=>_)=_
    rw[hd]
    exact if_pos hgn
  obtain⟨hok,hc⟩:=hS ⟨O0,w,[],G⟩ rfl rfl R0 ⟨e.n0,e.bl0⟩ w e.args xs _ Z1 hr hrel0 hxs0
  refine⟨hok,hc.mono ?_⟩
  rintro en w' ⟨R1,x,hE1,_,h3,h4,rfl⟩
  have hE1:∀id,id<e.n0->R1 id=R0 id:=hE1
  have keep:∀blk,¬O0 blk->w'.heap[blk]? = w.heap[blk]? := fun blk hb=>h3.fr blk hb
  let R':Ren:=fun id=>if id<Z.next then R id else R1 (id-Z.next+e.n0)
  have hext:Gw Z.next R R':=fun id hid=>by show (if id<Z.next then _ else _)=_;rw[if_pos hid]
  have hle:Le R R':=hext.le hrel.fresh
  have hto:∀b,D1 e.bl1 b=true->R' (e.to ρ Z b)=R1 b:=fun b hb=>by
   obtain⟨c,hc1⟩:=DO.1 hb
   have hid:=Ht hi1 hc1
   unfold Ff.to
   by_cases hl:b<e.n0
   ·rw[if_pos hl]
    have hd:D1 e.bl0 b=true:=by
     simp only[Bg,Ai]at hid
     rcases hid with h|h
     ·omega
     ·exact h
    obtain⟨c0,hc0⟩:=DO.1 hd
    have hlt:=hrel.next_of_own (hm.bl b c0 hc0)
    rw[hext _ hlt,hE1 b hl,hR0 b hd]
   ·rw[if_neg hl]
    show (if b-e.n0+Z.next<Z.next then _ else R1 (b-e.n0+Z.next-Z.next+e.n0))=_
    rw[if_neg (by omega)]
    congr 1;omega
  have hnew:∀{id b},look (LP (e.to ρ Z) e.bl1) id=some b->∃k c i,id=e.to ρ Z k/\look Z1.bl k=some c/\R1 k=some i/\R' id=some i/\O0 i.blk/\C.O i.blk/\E4 R' i b w':=fun {id b} hb=>by
   obtain⟨k,c,hk,rfl,rfl⟩:=J7 hb
   have hl1:=hin (k,c) hk
   obtain⟨d,hd⟩:=HW hk
   have hdb:D1 e.bl1 k=true:=DO.2 ⟨_,hd⟩
   obtain⟨i,hi,hO,hok'⟩:=h3.own k c hl1
   have hcin:c.inn (D1 e.bl1)=true:=D6.1 hb1 (k,c) hk
   refine⟨k,c,i,rfl,hl1,hi,(hto k hdb).trans hi,hO,?_,(E4.rn hto hcin).2 hok'⟩
   rcases hO with ⟨id',b',i',hb',hi',heq⟩|hO
   ·obtain⟨j,hj,_,hOj,_⟩:=own0 id' b' hb'
    rw[hj]at hi';cases hi'
    rw[<-heq];exact hOj
   ·exact hrel.new _ (AN hrel.size hO)
  have hrest:∀{id b},look (Z.bl.filter fun x=>!e.old ρ x.1) id=some b->id<Z.next/\look Z.bl id=some b/\e.old ρ id=false:=fun {id b} hb=>by
   rw[Gh (q:=fun k=>!e.old ρ k)]at hb
   split at hb
   ·rename_i hq
    exact⟨hrel.next_of_own hb,hb,by simpa using hq⟩
   ·cases hb
  have hkeep:∀{id b i},look Z.bl id=some b->e.old ρ id=false->R id=some i->¬O0 i.blk:=fun {id b i} hb ho hi hO=>by
   obtain⟨j,hj,_,hok'⟩:=hrel.own id b hb
   rw[hi]at hj;cases hj
   rcases hO with ⟨id',b',i',hb',hi',heq⟩|hO
   ·have:=hrel.inj _ _ _ _ _ _ hb (hm.bl id' b' hb') hi hi' heq.symm
    have:e.old ρ id=true:=Q3.2 ⟨id',b',Gg hb',this.symm⟩
    rw[this]at ho;cases ho
   ·have:=hok'.lt;omega
  have hsplit:∀{id b},look (LP (e.to ρ Z) e.bl1++Z.bl.filter fun x=>!e.old ρ x.1) id=some b->look (LP (e.to ρ Z) e.bl1) id=some b\/(id<Z.next/\look Z.bl id=some b/\e.old ρ id=false):=fun {id b} hb=>by
   rw[Jh]at hb
   cases hs:look (LP (e.to ρ Z) e.bl1) id with
   | some c=>rw[hs]at hb;exact .inl hb
   | none=>rw[hs]at hb;exact .inr (hrest hb)
  refine⟨R',x,hext,GD _ _,⟨?_,?_,?_,?_,?_,?_,AN hrel.size h3.size,hrel.new,h3.os.trans hrel.os,h3.tape.trans hrel.tape,h3.output.trans hrel.output⟩,(Ir hto _ hv1).trans h4,rfl⟩
  ·intro id hid
   have hid':Z.next+(e.n1-e.n0)<=id:=hid
   show (if id<Z.next then _ else R1 (id-Z.next+e.n0))=none
   rw[if_neg (by omega)]
   exact h3.fresh _ (by rw[hnx];omega)
  ·intro id b hb
   rcases hsplit hb with hb|⟨hl,hb,ho⟩
   ·obtain⟨k,c,i,_,_,_,hi,_,hO,hok'⟩:=hnew hb
    exact⟨i,hi,hO,hok'⟩
   ·obtain⟨i,hi,hO,hok'⟩:=hrel.own id b hb
    exact⟨i,hle _ _ hi,hO,hok'.mono hle (keep _ (hkeep hb ho hi))⟩
  ·intro id id' b b' i i' hb hb' hi hi' hbl
   have olds:∀{id b i},look Z.bl id=some b->R' id=some i->R id=some i:=fun {id b i} hb hi=>by
    obtain⟨j,hj,_,_⟩:=hrel.own id b hb
    have:=hle _ _ hj
    rw[hi]at this;cases this
    exact hj
   rcases hsplit hb with hb|⟨hl,hb,ho⟩<;>rcases hsplit hb' with hb'|⟨hl',hb',ho'⟩
   ·obtain⟨k,c,j,h1,h5,h6,h7,_⟩:=hnew hb
    obtain⟨k',c',j',h1',h5',h6',h7',_⟩:=hnew hb'
    rw[h7]at hi;cases hi
    rw[h7']at hi';cases hi'
    have:=h3.inj k k' c c' _ _ h5 h5' h6 h6' hbl
    rw[h1,h1',this]
   ·obtain⟨k,c,j,h1,h5,h6,h7,h8,_⟩:=hnew hb
    rw[h7]at hi;cases hi
    have hR:=olds hb' hi'
    exact(hkeep hb' ho' hR (hbl ▸ h8)).elim
   ·obtain⟨k,c,j,h1,h5,h6,h7,h8,_⟩:=hnew hb'
    rw[h7]at hi';cases hi'
    have hR:=olds hb hi
    exact(hkeep hb ho hR (hbl ▸ h8)).elim
   ·exact hrel.inj id id' b b' i i' hb hb' (olds hb hi) (olds hb' hi') hbl
  ·intro id b hb
   obtain⟨i,hi,hO,hok'⟩:=hrel.ext id b hb
   refine⟨i,hle _ _ hi,hO,hok'.mono hle (keep _ ?_)⟩
   rintro(⟨id',b',i',hb',hi',heq⟩|hn)
   ·obtain⟨j,hj,_,hOj,_⟩:=own0 id' b' hb'
    rw[hj]at hi';cases hi'
    exact hO (heq ▸ hOj)
   ·have:=hok'.lt;omega
  ·intro g hg
   obtain⟨i,hi,hb⟩:=hrel.glob g hg
   exact⟨i,hle _ _ hi,hb⟩
  ·intro blk hn
   rw[<-hrel.fr blk hn]
   refine keep blk ?_
   rintro(⟨id',b',i',hb',hi',heq⟩|hn')
   ·obtain⟨j,hj,_,hOj,_⟩:=own0 id' b' hb'
    rw[hj]at hi';cases hi'
    exact hn (heq ▸ hOj)
   ·exact hn (hrel.new _ (AN hrel.size hn'))
def RB (l:List Ff) (F:List V->H->AH):List V->H->AH:=fun args Z=>by
 classical
 exact if h:∃q:Ff × (Nat->Nat),q.1∈l/\q.1.Fits q.2 args Z then some ((Classical.choose h).1.ans (Classical.choose h).2 Z)else F args Z
theorem YL {l:List Ff} {F:List V->H->AH} {args:List V} {Z:H} {e:Ff} {ρ:Nat->Nat} (he:e∈l) (hm:e.Fits ρ args Z) :
  ∃e' ρ',e'∈l/\e'.Fits ρ' args Z/\RB l F args Z=some (e'.ans ρ' Z):=by
 have h:∃q:Ff × (Nat->Nat),q.1∈l/\q.1.Fits q.2 args Z:=⟨(e,ρ),he,hm⟩
 refine⟨(Classical.choose h).1,(Classical.choose h).2,(Classical.choose_spec h).1,(Classical.choose_spec h).2,?_⟩
 unfold RB
 exact dif_pos h
theorem cM {P:Program} {G:Nat->Bool} {f:FuncId} {F F':List V->H->AH} {E:EB} (hF:B5 P E G f F) (hF':B5 P [] G f F') {ng:Nat} (hG:∀g,G g=true->g<ng) {l:List Ff} (hl:∀e∈l,e.right ng F'=true):B5 P E G f (RB l F):=by
 intro C hE hGC R Z w args xs v Z' hr hrel hxs
 unfold RB at hr
 split at hr
 ·rename_i h
  simp only[AK.injEq]at hr
  have:=kD hF' hG (hl _ (Classical.choose_spec h).1) hGC (Classical.choose_spec h).2 hrel hxs
  rw[hr]at this
  exact this
 ·exact hF C hE hGC R Z w args xs v Z' hr hrel hxs
end
end Go.Og
namespace Go.Og
noncomputable section
def nY (l:EB) (ρ:Nat->Nat) (Z:H):Prop:=∀id b,look l id=some b->Bl Z.bl (ρ id)=some (b.rn ρ)
def nW (l:EB) (ρ:Nat->Nat):Prop:=∀id id',D1 l id=true->D1 l id'=true->ρ id=ρ id'->id=id'
theorem Uu {e:Ff} {ρ:Nat->Nat} {args:List V} {Z:H} (ha:args=Pl ρ e.args) (hb:nY e.bl0 ρ Z) (hi:nW e.bl0 ρ):e.Fits ρ args Z:=
 ⟨ha,fun id b h=>by rw[<-BH];exact hb id b h,hi⟩
def Ff.shape (e:Ff):Bool:=OS e.bl0 (fun b=>Cf b e.n0)&&(OS e.bl1 (fun b=>(Ab e.n0 b || D1 e.bl0 b)&&Cf b e.n1)&&Ab e.n0 e.n1)
section
variable {e:Ff} {ρ:Nat->Nat} {args:List V} {Z:H}
theorem Ff.shape0 (h:e.shape=true) {id:Nat} (hd:D1 e.bl0 id=true):id<e.n0:=by
 unfold Ff.shape at h
 simp only[AF]at h
 obtain⟨c,hc⟩:=DO.1 hd
 simpa[CK]using Ht h.1 hc
theorem Ff.shape1 (h:e.shape=true) {id:Nat} (hd:D1 e.bl1 id=true):id<e.n1/\(e.n0<=id\/D1 e.bl0 id=true):=by
 unfold Ff.shape at h
 simp only[AF]at h
 obtain⟨c,hc⟩:=DO.1 hd
 have:=Ht h.2.1 hc
 simp only[AF,Bg,Ai,CK]at this
 exact⟨this.2,this.1⟩
theorem Ff.shapeN (h:e.shape=true):e.n0<=e.n1:=by
 unfold Ff.shape at h
 simp only[AF,Ai]at h
 exact h.2.2
theorem Ff.Fits.lt (hm:e.Fits ρ args Z) (ht:Ci Z) {id:Nat} (hd:D1 e.bl0 id=true):ρ id<Z.next:=by
 obtain⟨c,hc⟩:=DO.1 hd
 have h:=hm.bl id c hc
 rcases Ad (ρ id) Z.next with hl|hl
 ·exact hl
 ·have:=ht _ hl;rw[BH,h]at this;cases this
theorem Ff.to_inj (hs:e.shape=true) (hm:e.Fits ρ args Z) (ht:Ci Z):nW e.bl1 (e.to ρ Z):=by
 intro id id' hd hd' h
 have h1:=(Ff.shape1 hs hd).2
 have h2:=(Ff.shape1 hs hd').2
 unfold Ff.to at h
 by_cases ha:id<e.n0
 ·have hda:D1 e.bl0 id=true:=by rcases h1 with h1 | h1;omega;exact h1
  by_cases hb:id'<e.n0
  ·have hdb:D1 e.bl0 id'=true:=by rcases h2 with h2 | h2;omega;exact h2
   rw[if_pos ha,if_pos hb]at h
   exact hm.inj _ _ hda hdb h
  ·rw[if_pos ha,if_neg hb]at h
   have:=hm.lt ht hda;omega
 ·by_cases hb:id'<e.n0
  ·have hdb:D1 e.bl0 id'=true:=by rcases h2 with h2 | h2;omega;exact h2
   rw[if_neg ha,if_pos hb]at h
   have:=hm.lt ht hdb;omega
  ·rw[if_neg ha,if_neg hb]at h;omega
theorem Ui {l:EB} {τ:Nat->Nat} (hi:∀id id',D1 l id=true->D1 l id'=true->τ id=τ id'->id=id'):∀{m:EB} {id:Nat} {b:Gv},(∀x∈m,D1 l x.1=true)->look m id=some b->look (LP τ m) (τ id)=some (b.rn τ)
 | [],id,b,_,h=>by cases h
 | (k,c)::m,id,b,hm,h=>by
  simp only[look]at h
  simp only[LP,B3,look]
  by_cases hk:Ag k id=true
  ·have:=BO hk;subst this
   rw[if_pos hk]at h
   cases h
   rw[if_pos (EU _)]
  ·rw[if_neg hk]at h
   have hkd:D1 l k=true:=hm (k,c) As
   have hid:D1 l id=true:=hm (id,b) (Ah _ (Gg h))
   rw[if_neg (fun hh=>hk (by have:=hi k id hkd hid (BO hh);subst this;exact EU _))]
   exact Ui hi (fun x hx=>hm x (Ah _ hx)) h
theorem Ff.has (hs:e.shape=true) (hm:e.Fits ρ args Z) (ht:Ci Z):nY e.bl1 (e.to ρ Z) (e.ans ρ Z).2:=by
 intro id b hb
 show Bl (LP (e.to ρ Z) e.bl1++Z.bl.filter fun x=>!e.old ρ x.1) _=_
 rw[BH,Jh]
 rw[Ui (l:=e.bl1) (Ff.to_inj hs hm ht) (fun x hx=>by
  obtain⟨d,hd⟩:=HW (k:=x.1) (c:=x.2) hx
  exact DO.2 ⟨_,hd⟩) hb]
theorem Ff.fr (hs:e.shape=true) (hm:e.Fits ρ args Z) (ht:Ci Z):Fr (fun b=>e.old ρ b=true) Z (e.ans ρ Z).2:=by
 have hn:=Ff.shapeN hs
 refine⟨fun b hb=>?_,GD _ _,fun b hb hS=>?_⟩
 ·have hb':Z.next+(e.n1-e.n0)<=b:=hb
  show Bl (LP (e.to ρ Z) e.bl1++Z.bl.filter fun x=>!e.old ρ x.1) b=none
  rw[BH,Jh]
  cases hc:look (LP (e.to ρ Z) e.bl1) b with
  | some c=>
   exfalso
   obtain⟨k,c',hk,he,_⟩:=J7 hc
   obtain⟨d,hd⟩:=HW hk
   have hkd:=Ff.shape1 hs (DO.2 ⟨d,hd⟩)
   unfold Ff.to at he
   by_cases hl:k<e.n0
   ·rw[if_pos hl]at he
    have hda:D1 e.bl0 k=true:=by rcases hkd.2 with h | h;omega;exact h
    have:=hm.lt ht hda;omega
   ·rw[if_neg hl]at he
    have:=hkd.1;omega
  | none=>
   simp only[]
   rw[Gh (q:=fun k=>!e.old ρ k)]
   split
   ·rw[<-BH];exact ht b (by omega)
   ·rfl
 ·show Bl (LP (e.to ρ Z) e.bl1++Z.bl.filter fun x=>!e.old ρ x.1) b=_
  rw[BH,Jh]
  cases hc:look (LP (e.to ρ Z) e.bl1) b with
  | some c=>
   exfalso
   obtain⟨k,c',hk,he,_⟩:=J7 hc
   obtain⟨d,hd⟩:=HW hk
   have hkd:=Ff.shape1 hs (DO.2 ⟨d,hd⟩)
   unfold Ff.to at he
   by_cases hl:k<e.n0
   ·rw[if_pos hl]at he
    have hda:D1 e.bl0 k=true:=by rcases hkd.2 with h | h;omega;exact h
    obtain⟨c0,hc0⟩:=DO.1 hda
    exact hS (Q3.2 ⟨k,c0,Gg hc0,he.symm⟩)
   ·rw[if_neg hl]at he;omega
  | none=>
   simp only[]
   rw[Gh (q:=fun k=>!e.old ρ k),if_pos (by
    cases ho:e.old ρ b with
    | true=>exact(hS ho).elim
    | false=>rfl),BH]
end
end
end Go.Og
namespace Go.Og
noncomputable section
section
variable {p:Nat->Bool} {ρ τ:Nat->Nat}
mutual
theorem rn_congr (h:∀b,p b=true->ρ b=τ b):∀v:V,V.inn p v=true->V.rn ρ v=V.rn τ v
 | .dead,hc=>by simp[V.inn]at hc
 | .ptr b o,hc=>by simp only[V.inn]at hc;simp only[V.rn,h b hc]
 | .sl b o n c,hc=>by simp only[V.inn]at hc;simp only[V.rn,h b hc]
 | .sle b o k e,hc=>by simp only[V.inn]at hc;simp only[V.rn,h b hc]
 | .mp b,hc=>by simp only[V.inn]at hc;simp only[V.rn,h b hc]
 | .bool _,_=>rfl
 | .int _ _,_=>rfl
 | .str _,_=>rfl
 | .nilp,_=>rfl
 | .nils,_=>rfl
 | .nilm,_=>rfl
 | .nilf,_=>rfl
 | .nili,_=>rfl
 | .fn f a c,hc=>by
  simp only[V.inn,AF]at hc
  simp only[V.rn,HH h a hc.1,HH h c hc.2]
 | .ifc t v,hc=>by
  simp only[V.inn]at hc
  simp only[V.rn,rn_congr h v hc]
 | .agg l,hc=>by
  simp only[V.inn]at hc
  simp only[V.rn,HH h l hc]
 | .tup l,hc=>by
  simp only[V.inn]at hc
  simp only[V.rn,HH h l hc]
theorem HH (h:∀b,p b=true->ρ b=τ b):∀l:List V,JG p l=true->Pl ρ l=Pl τ l
 | [],_=>rfl
 | v::l,hc=>by
  simp only[JG,AF]at hc
  simp only[Pl,rn_congr h v hc.1,HH h l hc.2]
end
theorem Po (h:∀b,p b=true->ρ b=τ b):∀l:List (V × V),WD p l=true->jy ρ l=jy τ l
 | [],_=>rfl
 | q::l,hc=>by
  simp only[WD,AF]at hc
  simp only[jy,rn_congr h q.1 hc.1.1,rn_congr h q.2 hc.1.2,Po h l hc.2]
theorem Gv.rn_congr (h:∀b,p b=true->ρ b=τ b) {b:Gv} (hc:b.inn p=true):b.rn ρ=b.rn τ:=by
 cases b with
 | cells l=>exact congrArg Gv.cells (HH h l hc)
 | map l=>exact congrArg Gv.map (Po h l hc)
 | siter s q=>rfl
 | unit t=>rfl
end
def Ff.still (e:Ff):Bool:=WG e.bl0 e.bl1&&(U4 e.bl0 (D1 e.bl0)&&WG e.bl0 e.bl0)
section
variable {e:Ff} {ρ:Nat->Nat} {args:List V} {Z:H}
theorem Ff.fr0 (hs:e.shape=true) (hw:e.still=true) (hm:e.Fits ρ args Z) (ht:Ci Z):Fr BQ Z (e.ans ρ Z).2:=by
 have f:=Ff.fr hs hm ht
 have hh:=Ff.has hs hm ht
 unfold Ff.still at hw
 simp only[AF]at hw
 obtain⟨h1,h2,h3⟩:=hw
 refine⟨f.tidy,f.le,fun b hb _=>?_⟩
 by_cases ho:e.old ρ b=true
 ·obtain⟨k,c,hk,rfl⟩:=Q3.1 ho
  have l0:=NI h3 (k,c) hk
  have l1:=NI h1 (k,c) hk
  have hd:D1 e.bl0 k=true:=DO.2 ⟨_,l0⟩
  have hlt:=Ff.shape0 hs hd
  have a1:=hh k c l1
  have et:e.to ρ Z k=ρ k:=by unfold Ff.to;rw[if_pos hlt]
  rw[et]at a1
  rw[a1,BH,hm.bl k c l0]
  congr 1
  refine(Gv.rn_congr (p:=D1 e.bl0) (fun b hb=>?_) (OT h2 l0)).symm
  unfold Ff.to
  rw[if_pos (Ff.shape0 hs hb)]
 ·exact f.same b hb ho
end
end
end Go.Og
namespace Go.Og
noncomputable section
section
variable {E:EB} {Z Z':H} {b b':Nat} {l m:List V}
theorem Av {J:V->AH} {o:Nat} (h:DZ Z b l):Bm E Z b o J=Jd l o J:=Q2 h
theorem Ho {J:List V->AH} {o n:Nat} (h:DZ Z b l):DB E Z b o n J=HN l o n J:=Q2 h
theorem Pv {a:V} {J:V->AH}:Jd (a::l) 0 J=J a:=rfl
theorem Pw {a:V} {n:Nat} {J:V->AH}:Jd (a::l) (n+1) J=Jd l n J:=rfl
theorem XY {a b:V} {J:List V->AH}:HN [a,b] 0 2 J=J [a,b]:=rfl
theorem XX {a b c d:V} {J:List V->AH}:HN [a,b,c,d] 0 4 J=J [a,b,c,d]:=rfl
theorem XW {a b c d e:V} {J:List V->AH}:HN [a,b,c,d,e] 0 4 J=J [a,b,c,d]:=rfl
theorem XV {a b c d e f:V} {J:List V->AH}:HN [a,b,c,d,e,f] 0 6 J=J [a,b,c,d,e,f]:=rfl
theorem UU {a b c d e f g h i j k l m:V} {J:List V->AH}:HN [a,b,c,d,e,f,g,h,i,j,k,l,m] 0 13 J=J [a,b,c,d,e,f,g,h,i,j,k,l,m]:=rfl
theorem Rm {a b c d e f g h i j k l m:V} {J:List V->AH}:HN [a,b,c,d,e,f,g,h,i,j,k,l,m] 2 6 J=J [c,d,e,f,g,h]:=rfl
theorem HK (l:List V):(V.agg l).cells=l:=rfl
theorem QC (k:IntKind) (n:Int):(V.int k n).cells=[.int k n]:=rfl
theorem QB (b o:Nat):(V.ptr b o).cells=[.ptr b o]:=rfl
theorem B8 (v:V) (l:List V):BJ (v::l)=(v.one&&BJ l):=rfl
theorem CS:BJ []=true:=rfl
theorem G5 (k:IntKind) (n:Int):(V.int k n).one=true:=rfl
theorem IW (c:Bool):(V.bool c).one=true:=rfl
theorem Hn (s:BS):(V.str s).one=true:=rfl
theorem HR:V.nils.one=true:=rfl
theorem X5 (b o n:Nat) (c:Vo):(V.sl b o n c).one=true:=rfl
theorem Ud (b o:Nat):(V.ptr b o).one=true:=rfl
theorem fP (a:AH):I5 true a=a:=rfl
theorem No {a:AH}:Fk .nils a=a:=rfl
theorem Rt {b o:Nat} {a:AH}:Fk (.ptr b o) a=a:=rfl
theorem HQ {v:V} {a:AH} (h:v.one=true):Fk v a=a:=by cases v<;>first | rfl | cases h
theorem Ni {J:Nat->AH}:BG .nils J=J 0:=rfl
theorem Ro {b o n:Nat} {c:Vo} {J:Nat->AH}:BG (.sl b o n c) J=J n:=rfl
theorem NH {n:Nat} {J:Nat->AH}:Td (AA n) J=J n:=rfl
theorem WU {c:Bool} {a b:AH} (h:c=true):AI c a b=a:=by rw[h];rfl
theorem WV {c:Bool} {a b:AH} (h:c=false):AI c a b=b:=by rw[h];rfl
theorem kV {c:Bool} {a:AH} (h:c=true):I5 c a=a:=by rw[h];rfl
theorem Un (f:Bool->H->AH) (c d:Bool) (Z:H):Ax f (fun k=>AI c (k true Z) (k d Z))=f (c || d) Z:=by cases c<;>rfl
theorem SM (f:Bool->H->AH) (c d:Bool) (Z:H):Ax f (fun k=>AI c (k d Z) (k false Z))=f (c&&d) Z:=by cases c<;>rfl
theorem Uo (f:Bool->H->AH) (c:Bool) (Z:H):Ax f (fun k=>k c Z)=f c Z:=rfl
def GA (Z:H) (esz n:Nat) (x:V) (m:List V):Prop:=(n=0/\x = .nils/\m=[])\/∃b o c L,x = .sl b o n c/\DZ Z b L/\o+n*esz<=L.length/\m=(L.drop o).take (n*esz)
def E6 (Z:H) (esz k:Nat) (v:V) (l:List V):Prop:=Sl Z esz k v l\/∃b,v = .sl b 0 k (.ex k)/\DZ Z b l/\l.length=k*esz
theorem GA.one {esz n:Nat} {x:V} (h:GA Z esz n x m):x.one=true:=by
 rcases h with ⟨_,rfl,_⟩|⟨_,_,_,_,rfl,_⟩<;>rfl
theorem GA.slen {esz n:Nat} {x:V} {J:Nat->AH} (h:GA Z esz n x m):BG x J=J n:=by
 rcases h with ⟨rfl,rfl,_⟩|⟨_,_,_,_,rfl,_⟩<;>rfl
theorem GA.length {esz n:Nat} {x:V} (h:GA Z esz n x m):m.length=n*esz:=by
 rcases h with ⟨rfl,_,rfl⟩|⟨_,o,_,L,_,_,h,rfl⟩
 ·simp
 ·simp only[Cl,Aa];omega
theorem GA.srcK {esz n:Nat} {x:V} {J:Nat->List V->AH} (h:GA Z esz n x m):srcK E Z esz x J=J n m:=by
 rcases h with ⟨rfl,rfl,rfl⟩|⟨b,o,c,L,rfl,ha,hl,rfl⟩
 ·rfl
 ·exact bU ha hl
theorem GA.cells {esz n:Nat} {x:V} (h:GA Z esz n x m):CY E Z esz x=some (n,m):=by
 rcases h with ⟨rfl,rfl,rfl⟩|⟨b,o,c,L,rfl,ha,hl,rfl⟩
 ·rfl
 ·show (PM E Z b o (n*esz)).map _=_
  unfold PM rd
  rw[<-BH,show Bl Z.bl b=some (.cells L)from ha]
  simp only[]
  rw[show Ab (o+n*esz) L.length=true from OQ hl]
  rfl
theorem GA.fr {S:Nat->Prop} {esz n:Nat} {x:V} (h:GA Z esz n x m) (f:Fr S Z Z') (ht:Ci Z) (hn:∀b,AS x b->¬S b):GA Z' esz n x m:=by
 rcases h with h|⟨b,o,c,L,rfl,ha,hl,rfl⟩
 ·exact .inl h
 ·exact .inr ⟨b,o,c,L,rfl,f.at_ ha ht (hn b rfl),hl,rfl⟩
theorem GA.lt {esz n:Nat} {x:V} (h:GA Z esz n x m) (ht:Ci Z) (hb:AS x b):b<Z.next:=by
 rcases h with ⟨_,rfl,_⟩|⟨_,_,_,_,rfl,ha,_⟩
 ·exact hb.elim
 ·cases hb;exact ha.lt ht
theorem E6.nil (Z:H) (esz:Nat):E6 Z esz 0 .nils [] := .inl (Sl.nil Z esz)
theorem E6.length {esz k:Nat} {v:V} (h:E6 Z esz k v l):l.length=k*esz:=by
 rcases h with h|⟨_,_,_,h⟩
 ·exact h.length
 ·exact h
theorem E6.one {esz k:Nat} {v:V} (h:E6 Z esz k v l):v.one=true:=by
 rcases h with h|⟨_,rfl,_⟩
 ·exact h.one
 ·rfl
theorem E6.slen {esz k:Nat} {v:V} {J:Nat->AH} (h:E6 Z esz k v l):BG v J=J k:=by
 rcases h with h|⟨_,rfl,_⟩
 ·exact h.slen
 ·rfl
theorem E6.lt {esz k:Nat} {v:V} (h:E6 Z esz k v l) (ht:Ci Z) (hb:AS v b):b<Z.next:=by
 rcases h with h|⟨_,rfl,ha,_⟩
 ·exact h.lt ht hb
 ·cases hb;exact ha.lt ht
theorem E6.fr {S:Nat->Prop} {esz k:Nat} {v:V} (h:E6 Z esz k v l) (f:Fr S Z Z') (ht:Ci Z) (hn:∀b,AS v b->¬S b):E6 Z' esz k v l:=by
 rcases h with h|⟨b,rfl,ha,hl⟩
 ·exact .inl (h.fr f ht hn)
 ·exact .inr ⟨b,rfl,f.at_ ha ht (hn b rfl),hl⟩
theorem E6.src {esz k:Nat} {v:V} (h:E6 Z esz k v l):GA Z esz k v l:=by
 rcases h with (⟨rfl,rfl,rfl⟩|⟨b,rfl,ha,_,hl⟩)|⟨b,rfl,ha,hl⟩
 ·exact .inl ⟨rfl,rfl,rfl⟩
 ·exact .inr ⟨b,0,_,l,rfl,ha,by omega,by rw[EV,<-hl,UJ]⟩
 ·exact .inr ⟨b,0,_,l,rfl,ha,by omega,by rw[EV,<-hl,UJ]⟩
theorem Wd {esz bytes k:Nat} {v x:V} {J:V->H->AH} (h:E6 Z esz k v l) (hs:∀J:Nat->List V->AH,srcK E Z esz x J=J 0 m) (hc:CY E Z esz x=some (0,m)):Ix E esz bytes v x Z J=J v Z:=by
 unfold Ix
 rw[hs]
 rcases h with (⟨rfl,rfl,rfl⟩|⟨b,rfl,ha,_,hl⟩)|⟨b,rfl,ha,hl⟩
 ·show AV (D7 E esz bytes .nils x Z) J=_
  unfold D7;rw[hc];rfl
 ·rfl
 ·show AV (D7 E esz bytes (.sl b 0 k (.ex k)) x Z) J=_
  unfold D7;rw[hc]
  simp only[]
  rw[if_pos (show Ab (k+0) k=true from OQ (AG _))]
  rfl
theorem Wc {esz bytes k n:Nat} {v x:V} (h:E6 Z esz k v l) (ht:Ci Z) (hs:∀J:Nat->List V->AH,srcK E Z esz x J=J n m) (hc:CY E Z esz x=some (n,m)) (hn:0<n) (ho:BJ m=true) (hg:Cn (k+n) bytes=true) :
  ∃Z',(∀J:V->H->AH,Ix E esz bytes v x Z J=J (.sl Z.next 0 (k+n) (.op esz)) Z')/\DZ Z' Z.next (l++m)/\Z'.next=Z.next+1/\Fr (AS v) Z Z':=by
 obtain⟨n',rfl⟩:∃q,n=q+1:=⟨n-1,by omega⟩
 rcases h with (⟨rfl,rfl,rfl⟩|⟨b,rfl,ha,hk,hl⟩)|⟨b,rfl,ha,hl⟩
 ·refine⟨CO Z (.cells m),fun J=>?_,by rw[JI];exact PD m,rfl,Fr.new ht _⟩
  unfold Ix
  rw[hs]
  show AV (D7 E esz bytes .nils x Z) J=_
  unfold D7;rw[hc]
  simp only[]
  rw[B2]at hg ⊢
  rw[if_neg (by omega),if_pos hg]
  rfl
 ·refine⟨⟨Z.next+1,(Z.next,.cells (l++m))::drop Z.bl b⟩,fun J=>?_,?_,rfl,?_⟩
  ·unfold Ix
   rw[hs]
   show (match Bl Z.bl b with
    | some (.cells l)=>I5 (Ag l.length (k*esz)&&Ag esz esz&&Cn (k+(n'+1)) bytes&&BJ m) (RE Z.bl b fun bl'=>J (.sl Z.next 0 (k+(n'+1)) (.op esz)) ⟨Z.next+1,(Z.next,.cells (l++m))::bl'⟩)
    | _=>none)=_
   rw[show Bl Z.bl b=some (.cells l)from ha]
   simp only[]
   rw[Gl (by rw[hg,ho,hl];simp),P4]
  ·show Bl ((Z.next,Gv.cells (l++m))::_) _=_
   rw[Bc,if_pos rfl]
  ·refine⟨fun k' hk'=>?_,D3 _,fun k' hk' hn=>?_⟩
   ·have hk2:Z.next+1<=k':=hk'
    show Bl ((Z.next,_)::drop Z.bl b) k'=none
    rw[Bc,if_neg (by simp only[];omega),N0]
    split
    ·rfl
    ·exact ht k' (by omega)
   ·show Bl ((Z.next,_)::drop Z.bl b) k'=_
    rw[Bc,if_neg (by simp only[];omega),N0,if_neg]
    intro hbk
    exact hn hbk.symm
 ·refine⟨CO Z (.cells (l++m)),fun J=>?_,PD _,rfl,Fr.new ht _⟩
  unfold Ix
  rw[hs]
  show AV (D7 E esz bytes (.sl b 0 k (.ex k)) x Z) J=_
  unfold D7;rw[hc]
  simp only[]
  rw[if_neg (show ¬Ab (k+(n'+1)) k=true from fun h=>by rw[Ai]at h;omega),if_pos hg]
  have hr:PM E Z b 0 (k*esz)=some l:=by
   unfold PM rd
   rw[<-BH,show Bl Z.bl b=some (.cells l)from ha]
   simp only[]
   rw[show Ab (0+k*esz) l.length=true from OQ (by omega)]
   rw[EV,<-hl,UJ];rfl
  rw[hr]
  rfl
theorem ZA {esz bytes k n:Nat} {v x:V} (h:E6 Z esz k v l) (ht:Ci Z) (hs:∀J:Nat->List V->AH,srcK E Z esz x J=J n m) (hc:CY E Z esz x=some (n,m)) (hm0:m.length=n*esz) (ho:BJ m=true) (hg:Cn (k+n) bytes=true) :
  ∃u Z',(∀J:V->H->AH,Ix E esz bytes v x Z J=J u Z')/\E6 Z' esz (k+n) u (l++m)/\(∀b,AS u b->AS v b\/Z.next<=b)/\Fr (AS v) Z Z':=by
 cases n with
 | zero=>
  have hm:m=[]:=Bh (by omega)
  subst hm
  exact⟨v,Z,fun J=>Wd h hs hc,by rw[Eb];exact h,fun b hb => .inl hb,Fr.refl ht⟩
 | succ n=>
  obtain⟨Z',g,a,nx,f⟩:=Wc (E:=E) h ht hs hc (eI n) ho hg
  refine⟨_,Z',g,.inl (.inr ⟨Z.next,rfl,a,by omega,?_⟩),fun b hb => .inr (by cases hb;exact AG _),f⟩
  rw[Aw,h.length,hm0,<-PJ]
theorem Hs {esz bytes k n:Nat} {v x:V} (h:E6 Z esz k v l) (ht:Ci Z) (hx:GA Z esz n x m) (ho:BJ m=true) (hg:Cn (k+n) bytes=true) :
  ∃u Z',(∀J:V->H->AH,Ix E esz bytes v x Z J=J u Z')/\E6 Z' esz (k+n) u (l++m)/\(∀b,AS u b->AS v b\/Z.next<=b)/\Fr (AS v) Z Z':=ZA h ht (fun _=>hx.srcK) hx.cells hx.length ho hg
theorem rP:(∀(a:V) (l:List V) (J:V->AH),Jd (a::l) 0 J=J a)/\(∀(a:V) (l:List V) (n:Nat) (J:V->AH),Jd (a::l) (n+1) J=Jd l n J) /\
  (∀(a b:V) (J:List V->AH),HN [a,b] 0 2 J=J [a,b])/\(∀(a b c d:V) (J:List V->AH),HN [a,b,c,d] 0 4 J=J [a,b,c,d])/\(∀(a b c d e:V) (J:List V->AH),HN [a,b,c,d,e] 0 4 J=J [a,b,c,d]) /\
  (∀(a b c d e f:V) (J:List V->AH),HN [a,b,c,d,e,f] 0 6 J=J [a,b,c,d,e,f])/\(∀(a b c d e f g h i j k l m:V) (J:List V->AH),HN [a,b,c,d,e,f,g,h,i,j,k,l,m] 0 13 J=J [a,b,c,d,e,f,g,h,i,j,k,l,m]) /\
  (∀(a b c d e f g h i j k l m:V) (J:List V->AH),HN [a,b,c,d,e,f,g,h,i,j,k,l,m] 2 6 J=J [c,d,e,f,g,h]) /\
  (∀(k:IntKind) (n:Int) (J:Int->AH),Al k (.int k n) J=J n)/\(∀(b:Bool) (J:Bool->AH),AT (.bool b) J=J b)/\(∀(s:BS) (J:BS->AH),DE (.str s) J=J s)/\(∀(b o:Nat) (J:Nat->Nat->AH),Br (.ptr b o) J=J b o) /\
  (∀(l:List V) (J:List V->AH),B7 (.agg l) J=J l)/\(∀(l:List V) (J:List V->AH),Cw (.tup l) J=J l)/\(∀(v:V) (l:List V) (J:V->List V->AH),AP (v::l) J=J v l)/\(∀a:AH,AZ [] a=a) /\
  (∀a:AH,Fk .nils a=a)/\(∀(b o:Nat) (a:AH),Fk (.ptr b o) a=a)/\(∀(b o n:Nat) (c:Vo) (a:AH),Fk (.sl b o n c) a=a)/\(∀J:Nat->AH,BG .nils J=J 0)/\(∀(b o n:Nat) (c:Vo) (J:Nat->AH),BG (.sl b o n c) J=J n) /\
  (∀(v:V) (Z:H) (J:V->H->AH),AV (some (v,Z)) J=J v Z)/\(∀(c:Bool) (a b:AH),c=true->AI c a b=a)/\(∀(c:Bool) (a b:AH),c=false->AI c a b=b)/\(∀(c:Bool) (a:AH),c=true->I5 c a=a) /\
  (∀(f:Bool->H->AH) (g:(Bool->H->AH)->AH),Ax f g=g f)/\(∀(k:IntKind) (n:Int) (l:List V) (J:Int->List V->AH),BV k (.int k n::l) J=J n l)/\(∀(b:Bool) (l:List V) (J:Bool->List V->AH),DQ (.bool b::l) J=J b l)/\(∀(s:BS) (l:List V) (J:BS->List V->AH),EY (.str s::l) J=J s l)/\(∀(l:List V) (Z:H) (J:H->AH),PO l Z J=I5 (BJ l) (J (CO Z (.cells l)))):=
 ⟨fun _ _ _=>rfl,fun _ _ _ _=>rfl,fun _ _ _=>rfl,fun _ _ _ _ _=>rfl,fun _ _ _ _ _ _=>rfl,fun _ _ _ _ _ _ _=>rfl,fun _ _ _ _ _ _ _ _ _ _ _ _ _ _=>rfl,fun _ _ _ _ _ _ _ _ _ _ _ _ _ _=>rfl,
  IT,fun _ _=>rfl,fun _ _=>rfl,fun _ _ _=>rfl,fun _ _=>rfl,fun _ _=>rfl,fun _ _ _=>rfl,fun _=>rfl,fun _=>rfl,fun _ _ _=>rfl,fun _ _ _ _ _=>rfl,fun _=>rfl,fun _ _ _ _ _=>rfl,
  fun _ _ _=>rfl,fun _ _ _ h=>WU h,fun _ _ _ h=>WV h,fun _ _ h=>kV h,fun _ _=>rfl,fun k n l J=>IT k n fun n=>J n l,fun _ _ _=>rfl,fun _ _ _=>rfl,fun _ _ _=>rfl⟩
theorem rC:(∀(k:IntKind) (n:Int) (l:List V) (J:Int->List V->AH),BV k (.int k n::l) J=J n l)/\(∀(b:Bool) (l:List V) (J:Bool->List V->AH),DQ (.bool b::l) J=J b l)/\(∀(s:BS) (l:List V) (J:BS->List V->AH),EY (.str s::l) J=J s l)/\(∀(l:List V) (Z:H) (J:H->AH),PO l Z J=I5 (BJ l) (J (CO Z (.cells l)))):=
 ⟨fun k n l J=>IT k n fun n=>J n l,fun _ _ _=>rfl,fun _ _ _=>rfl,fun _ _ _=>rfl⟩
theorem rS:(∀l:List V,(V.agg l).cells=l)/\(∀(k:IntKind) (n:Int),(V.int k n).cells=[.int k n])/\(∀b o:Nat,(V.ptr b o).cells=[.ptr b o])/\(∀(v:V) (l:List V),BJ (v::l)=(v.one&&BJ l))/\(BJ []=true) /\
  (∀(k:IntKind) (n:Int),(V.int k n).one=true)/\(∀c:Bool,(V.bool c).one=true)/\(∀s:BS,(V.str s).one=true)/\(V.nils.one=true)/\(∀(b o n:Nat) (c:Vo),(V.sl b o n c).one=true)/\(∀b o:Nat,(V.ptr b o).one=true) /\
  (∀b:Bool,(b&&true)=b)/\(∀a b:Nat,AU a b=a+b)/\(∀n:Nat,0+n=n)/\((!true)=false)/\((!false)=true):=
 ⟨fun _=>rfl,fun _ _=>rfl,fun _ _=>rfl,fun _ _=>rfl,rfl,fun _ _=>rfl,fun _=>rfl,fun _=>rfl,rfl,fun _ _ _ _=>rfl,fun _ _=>rfl,Be,fun _ _=>rfl,B2,rfl,rfl⟩
theorem rQ:(∀m n:Nat,D0 (AA m) (AA n)=decide (m=n))/\(∀m n:Nat,Dt (AA m) (AA n)=decide (m<n))/\(∀m n:Nat,Ip (AA m) (AA n)=decide (m<=n)) /\
  (∀b:Bool,(false || b)=b)/\(∀b:Bool,(true || b)=true)/\(∀b:Bool,(b || false)=b)/\(∀b:Bool,(b || true)=true)/\(∀b:Bool,(false&&b)=false)/\(∀b:Bool,(true&&b)=b)/\(∀b:Bool,(b&&false)=false):=
 ⟨Ux,RA,cO,E1,Bool.true_or,JK,Bool.or_true,EW,CQ,Rb⟩
theorem rD:(∀h:Decidable False,@decide False h=false)/\(∀h:Decidable True,@decide True h=true):=⟨fun _=>decide_false _,fun _=>decide_true _⟩
theorem rA:type_of% (And.intro rS (And.intro rQ rD)):=⟨rS,rQ,rD⟩
end
end
end Go.Og
namespace Go.Og
open Go Go.RowKit Go.Deep
theorem Ti {P:Program} {G:Nat->Bool} {f:FuncId} {F:List V->H->AH} {E:EB} (hS:B5 P E G f F) {ng n0:Nat} (hG:∀g,G g=true->g<ng) (hn:ng<=n0) (l:List (Nat × BI)) (args:List V) (xs:List Value) (w:World)
  (hl:∀id i,look l id=some i->id<n0) (hE:∀id b,look E id=some b->∃i,Lr ng l id=some i/\IB (Lr ng l) i b w) (hx:Az (Lr ng l) args=some xs) (h:wC (F args ⟨n0,[]⟩)=true) :
  Calls P f xs.toArray w fun e w'=>e = .returned (.bool true)/\RowKit.Below w.heap.size w w':=by
 obtain⟨Z,hσ⟩:=X6 h
 obtain⟨_,hc⟩:=hS ⟨fun blk=>w.heap.size<=blk,w,E,G⟩ rfl rfl (Lr ng l) ⟨n0,[]⟩ w args xs _ Z hσ (TU hG hn l E w hl hE) hx
 refine hc.mono ?_
 rintro en w' ⟨R',x,_,_,h3,h4,rfl⟩
 cases h4
 exact⟨rfl,h3.os,h3.tape,h3.output,h3.size,fun k hk=>h3.fr k (Nat.not_le.2 hk)⟩
section
variable {H:Type} {enc:TypeId × Value->H} {P:Program} {w:World} {t e:TypeId} {d:DataW H} {ps:List MemPlace} {blk off len cap:Nat}
end
theorem Sc {w:World} {blk off:Nat} {v:Value} (h:w.cell? ⟨blk,off,none⟩=some v):∃arr el fr,w.heap[blk]? = some (.cells arr el fr)/\arr[off]? = some v:=by
 unfold World.cell? at h
 simp only[]at h
 split at h
 ·rename_i c el fr hh
  exact⟨c,el,fr,hh,by simpa using h⟩
 ·cases h
theorem cg {R:Ren} {w:World} {blk off:Nat} {l:List V} (hne:l≠[]) (h:∀k v,l[k]? = some v->∃a,Ar R v=some a/\a.oneCell'=true/\w.cell? ⟨blk,off+k,none⟩=some a):IB R ⟨blk,off,0⟩ (.cells l) w:=by
 cases l with
 | nil=>exact(hne rfl).elim
 | cons u l=>
  obtain⟨a,_,_,h0⟩:=h 0 u rfl
  obtain⟨arr,el,fr,h1,_⟩:=Sc h0
  refine⟨arr,el,fr,h1,fun k v hk=>?_⟩
  obtain⟨a',h2,h3,h4⟩:=h k v hk
  obtain⟨arr',el',fr',h5,h6⟩:=Sc h4
  rw[h1]at h5
  cases h5
  exact⟨a',h2,h3,h6⟩
theorem OD {R:Ren} {w:World} {blk off len:Nat} {f:Nat->V} {g:Nat->Value} (hc:∀i,Ar R (f i)=some (g i)/\(g i).oneCell'=true) (h:∀i,i<len->w.cell? ⟨blk,off+i,none⟩=some (g i)) (h0:len≠0):IB R ⟨blk,off,0⟩ (.cells ((Hi len).map f)) w:=by
 refine cg (by simp[h0]) fun k v hk=>?_
 rw[Bk,Ao]at hk
 obtain⟨j,hj,rfl⟩:=hk
 obtain⟨hj1,rfl⟩:=List.getElem?_eq_some_iff.1 hj
 have hk':k<len:=by simpa using hj1
 refine⟨g k,?_,(hc k).2,h k hk'⟩
 simp[(hc k).1]
end Go.Og
namespace Go.Og
noncomputable section
def QS (E:EB) (Z:H) (n:Nat) (S:Nat->Prop) (o:EK) (e:Bt) (v:V):Prop:=V.beq v v=true/\∀(nx:Nat) (h:EB) (p:Nat->Bool),(∀id,id<Z.next->¬S id->look h id=look Z.bl id)->CU E o e ⟨nx,Cy Z.next n p h⟩=some v
structure EJ (E:EB) (Z:H) (n:Nat) (S:Nat->Prop) (nx:Nat) (ss:List (EB)) (am:Nat) (ls:List (Nat × EK × Bt × V)) (Zc:H):Prop where
 hd:nx=Zc.next/\∃r,ss=Zc.bl::r
 big:Z.next+n<=nx
 fr:Fr S Z Zc
 old:∀h∈ss,∀id,id<Z.next->¬S id->look h id=look Z.bl id
 gap:∀h∈ss,∀i,i<n->am.testBit i=false->look h (Z.next+i)=none
 ld:∀x∈ls,QS E Z n S x.2.1 x.2.2.1 x.2.2.2
def He (E:EB) (D:BB) (Z:H) (n i:Nat) (S:Nat->Prop) (ops:List BR) (pl:List DP) (s:DS) (env:Bt) (Z':H):Prop:=∃s',B6 E D Z.next n i ops pl s=some s'/\s'.e=env/\EJ E Z n S s'.nx s'.ss s'.am s'.ls Z'
section
variable {E:EB} {D:BB} {Z Zc Z':H} {n i:Nat} {S:Nat->Prop} {d:Option Nat} {o:EK} {l:List BR} {anc:Nat} {lk:List Nat} {pl:List DP} {e env:Bt} {nx am:Nat} {ss:List (EB)} {ks:List Nat} {ls:List (Nat × EK × Bt × V)}
theorem OA (hr:EJ E Z n S nx ss am ls Zc):He E D Z n i S [] pl ⟨e,nx,ss,ks,am,ls⟩ e Zc:=⟨_,Kz,rfl,hr⟩
theorem HU (v:V) (hc:o.cls = .p) (hv:BU o (restr lk e)=some v) (k:He E D Z n (i+1) S l pl ⟨Cb e d v,nx,ss,ks,am,ls⟩ env Z'):He E D Z n i S (⟨d,o,none⟩::l) (⟨anc,lk⟩::pl) ⟨e,nx,ss,ks,am,ls⟩ env Z':=by
 obtain⟨s',h1,h2,h3⟩:=k
 exact⟨s',(dp v hc hv).trans h1,h2,h3⟩
theorem Tn (v:V) (hr:EJ E Z n S nx ss am ls Zc) (hc:o.cls = .l) (hv:QS E Z n S o (restr lk e) v) (k:∀ls',EJ E Z n S nx ss am ls' Zc->He E D Z n (i+1) S l pl ⟨Cb e d v,nx,ss,ks,am,ls'⟩ env Z') :
  He E D Z n i S (⟨d,o,none⟩::l) (⟨anc,lk⟩::pl) ⟨e,nx,ss,ks,am,ls⟩ env Z':=by
 obtain⟨⟨hn,r,rfl⟩,h2,h3,h4,h5,h6⟩:=hr
 obtain⟨s',k1,k2,k3⟩:=k ((i,o,restr lk e,v)::ls) ⟨⟨hn,r,rfl⟩,h2,h3,h4,h5,fun x hx=>by
  rcases BF.1 hx with rfl|hx
  ·exact hv
  ·exact h6 x hx⟩
 exact⟨s',(dl v hc (hv.2 nx Zc.bl _ (h4 _ As))).trans k1,k2,k3⟩
theorem yC (v:V) (b:Gv) (am':Nat) (hr:EJ E Z n S nx ss am ls Zc) (hc:o.cls = .a) (hi:i<n) (ham:am ||| 2 ^ i=am') (hv:CX o (restr lk e) (Z.next+i)=some (v,b))
  (k:∀ss',EJ E Z n S nx ss' am' ls ⟨Zc.next,(Z.next+i,b)::Zc.bl⟩->He E D Z n (i+1) S l pl ⟨Cb e d v,nx,ss',ks,am',ls⟩ env Z') :
  He E D Z n i S (⟨d,o,none⟩::l) (⟨anc,lk⟩::pl) ⟨e,nx,ss,ks,am,ls⟩ env Z':=by
 obtain⟨⟨hn,r,rfl⟩,h2,h3,h4,h5,h6⟩:=hr
 subst ham
 suffices hr':EJ E Z n S nx ((Zc.bl::r).map ((Z.next+i,b)::·)) (am ||| 2 ^ i) ls ⟨Zc.next,(Z.next+i,b)::Zc.bl⟩by
  obtain⟨s',k1,k2,k3⟩:=k _ hr'
  exact⟨s',(da v b (Z.next+i) _ hc rfl rfl hv).trans k1,k2,k3⟩
 refine⟨⟨hn,_,rfl⟩,h2,⟨fun c hc=>?_,h3.le,fun c hc hS=>?_⟩,fun h hh id hid hS=>?_,fun h hh j hj hb=>?_,h6⟩
 ·have hc:Zc.next<=c:=hc
  show Bl ((Z.next+i,b)::Zc.bl) c=none
  rw[Bc,if_neg (by simp only[];omega)];exact h3.tidy c hc
 ·show Bl ((Z.next+i,b)::Zc.bl) c=_
  rw[Bc,if_neg (by simp only[];omega)];exact h3.same c hc hS
 ·obtain⟨h',hh',rfl⟩:=I1.1 hh
  rw[G7 (by omega)];exact h4 _ hh' id hid hS
 ·obtain⟨h',hh',rfl⟩:=I1.1 hh
  rw[RX,BN]at hb
  have hne:i≠j:=fun he=>by
   subst he
   have:=hb.2
   rw[ABh]at this
   cases this
  rw[G7 (by omega)];exact h5 _ hh' j hj hb.1
theorem SO (v:V) {Z2:H} (hr:EJ E Z n S nx ss am ls Zc) (hc:o.cls = .k) (hva:∀j,j<n->am.testBit j=true->anc.testBit j=true) {S':Nat->Prop} (hf:Fr S' Zc Z2) (hS:∀b,b<Z.next->S' b->S b) (hg:∀b,S' b->Z.next<=b->b<Z.next+n->False) (hv:EO E D o (restr lk e) Zc=some (v,Z2))
  (k:∀nx' ss' ks',EJ E Z n S nx' ss' am ls Z2->He E D Z n (i+1) S l pl ⟨Cb e d v,nx',ss',ks',am,ls⟩ env Z') :
  He E D Z n i S (⟨d,o,none⟩::l) (⟨anc,lk⟩::pl) ⟨e,nx,ss,ks,am,ls⟩ env Z':=by
 obtain⟨⟨hn,r,rfl⟩,h2,h3,h4,h5,h6⟩:=hr
 subst hn
 have le:=hf.le
 have f02:Fr S Z Z2:=h3.trans hf hS
 suffices hr':EJ E Z n S Z2.next (Z2.bl::Zc.bl::r) am ls Z2 by
  obtain⟨s',k1,k2,k3⟩:=k Z2.next (Z2.bl::Zc.bl::r) (i::ks) hr'
  refine⟨s',(dk v Z2.next Z2.bl hc (GP fun j hj hp=>?_) hv).trans k1,k2,k3⟩
  refine h5 _ As j hj ?_
  cases ha:am.testBit j with
  | false=>rfl
  | true=>
   exfalso
   unfold Dj at hp
   rw[ha,hva j hj ha]at hp
   cases hp
 refine⟨⟨rfl,_,rfl⟩,by omega,f02,fun h hh id hid hS=>?_,fun h hh j hj hb=>?_,h6⟩
 ·rcases BF.1 hh with rfl|hh
  ·rw[<-BH,<-BH];exact f02.same id hid hS
  ·exact h4 _ hh id hid hS
 ·rcases BF.1 hh with rfl|hh
  ·have:=hf.same (Z.next+j) (by omega) (fun hs=>hg _ hs (by omega) (by omega))
   rw[<-BH,this,BH]
   exact h5 _ As j hj hb
  ·exact h5 _ hh j hj hb
theorem Du (ht:Ci Z):EJ E Z n S (Z.next+n) [Z.bl] 0 [] ⟨Z.next+n,Z.bl⟩:=
  ⟨⟨rfl,[],rfl⟩,AG _,⟨ht.wide n,GD _ _,fun _ _ _=>rfl⟩,fun h hh id hid _=>by rw[Cc.1 hh],fun h hh i hi _=>by
    rw[Cc.1 hh];exact ht.gap n _ (by omega) (by omega),fun x hx=>by cases hx⟩
theorem KD {op:EK} {em:Bt} {v:V} {j:Nat} (hv:QS E Z n S op em v):∀(ss:List (EB)) (ks more:List Nat),(∀h∈ss,∀id,id<Z.next->¬S id->look h id=look Z.bl id)->E9 E Z.next n pl am j op em v ss ks more=true
 | [],_,_,_=>by unfold E9;rfl
 | h::ss,ks,more,ho=>by
  unfold E9
  rw[hv.2 0 h _ (ho h As)]
  simp only[hv.1,Bool.or_true,CQ]
  cases ks with
  | nil=>rfl
  | cons k ks=>exact KD hv ss ks (k::more) fun h' hh=>ho h' (Ah _ hh)
theorem Ld {ops:List BR} (h:He E D Z ops.length 0 S ops pl ⟨e,Z.next+ops.length,[Z.bl],[],0,[]⟩ env Z'):A2 E D ops pl e Z=some (env,Z')/\Fr S Z Z':=by
 obtain⟨s',h1,rfl,⟨hn,r,hs⟩,_,h3,h4,h5,h6⟩:=h
 refine⟨?_,h3⟩
 rw[SW h1 (D6.2 fun x hx=>KD (h6 x hx) _ _ _ h4) hs]
 have:=(GP (n0:=Z.next) (n:=ops.length) (p:=fun k=>s'.am.testBit k) (l:=Z'.bl) fun i hi hp=>h5 _ (by rw[hs];exact As) i hi hp).1
 rw[this,hn]
theorem G6 {x:AO} {em:Bt} {b off:Nat} {c:List V} {v:V} (hx:CV em x = .ptr b off) (ha:DZ Z b c) (hv:c[off]? = some v) (ht:Ci Z) (hS:¬S b) (hb:V.beq v v=true):QS E Z n S (.load none x) em v:=
  ⟨hb,fun nx h p ho=>cN hx (by
    have lt:=ha.lt ht
    rw[KK lt,ho b lt hS,<-BH];exact ha) hv⟩
theorem YM {x:AO} {e:Bt} {b off nx n:Nat} {h:EB} {c:List V} (hx:CV e x = .ptr b off) (hl:look h b=some (.cells c)) (hv:Ab (off+n) c.length=true) :
  CU E (.load (some n) x) e ⟨nx,h⟩=some (.agg ((c.drop off).take n)):=by
 unfold CU
 simp only[hx,PM,rd,hl]
 rw[if_pos hv]
theorem LR {x:AO} {em:Bt} {b off m:Nat} {c c':List V} (hx:CV em x = .ptr b off) (ha:DZ Z b c) (hv:Ab (off+m) c.length=true) (hc:(c.drop off).take m=c') (ht:Ci Z) (hS:¬S b) (hb:V.beq (.agg c') (.agg c')=true):QS E Z n S (.load (some m) x) em (.agg c'):=
  ⟨hb,fun nx h p ho=>by
    have lt:=ha.lt ht
    rw[<-hc]
    exact YM hx (by rw[KK lt,ho b lt hS,<-BH];exact ha) hv⟩
end
section
variable {E:EB} {D:BB} {Z:H}
theorem Uz {f:FuncId} {args:List AO} {e:Bt} {vs:List V} {r:AH} (hx:Fe e args=vs) (hl:vs.all V.live=true) (g:D f vs Z=r):EO E D (.call f args) e Z=r:=by
 show (if(Fe e args).all V.live then D f (Fe e args) Z else none)=r
 rw[hx,hl];exact g
end
theorem Ez {e:Bt} {t:Nat} {v:V} {J:V->AH} (h:Go.Og.look e t=some v) (hl:v.live=true):E0 e t J=J v:=by
 unfold E0
 rw[h]
 exact Gl hl
theorem NN {E:EB} {D:BB} {Z Z':H} {el esz bytes:Nat} {s x:AO} {e:Bt} {v y u:V} (hs:CV e s=v) (hx:CV e x=y) (g:∀J:V->H->AH,Ix E esz bytes v y Z J=J u Z'):EO E D (.append el esz bytes s x) e Z=some (u,Z'):=by
 show D7 E esz bytes (CV e s) (CV e x) Z=_
 rw[hs,hx]
 obtain⟨w,Z1,h1,h2⟩:=QD (g fun v Z=>some (v,Z))
 rw[h1]
 exact h2
mutual
theorem C8:∀v:V,V.inn (fun _=>true) v=true->V.beq v v=true
 | .dead,h=>by simp[V.inn]at h
 | .ptr b o,_=>by simp[V.beq]
 | .sl b o n (.ex c),_=>by simp[V.beq]
 | .sl b o n (.op c),_=>by simp[V.beq]
 | .sle b o k e,_=>by simp[V.beq]
 | .mp b,_=>by simp[V.beq]
 | .bool b,_=>by simp[V.beq]
 | .int k n,_=>by simp[V.beq]
 | .str s,_=>by simp[V.beq]
 | .nilp,_=>rfl
 | .nils,_=>rfl
 | .nilm,_=>rfl
 | .nilf,_=>rfl
 | .nili,_=>rfl
 | .fn f a c,h=>by
  simp only[V.inn,AF]at h
  simp[V.beq,Ic a h.1,Ic c h.2]
 | .ifc t v,h=>by
  simp only[V.inn]at h
  simp[V.beq,C8 v h]
 | .agg l,h=>by
  simp only[V.inn]at h
  simp[V.beq,Ic l h]
 | .tup l,h=>by
  simp only[V.inn]at h
  simp[V.beq,Ic l h]
theorem Ic:∀l:List V,JG (fun _=>true) l=true->M3 l l=true
 | [],_=>rfl
 | v::l,h=>by
  simp only[JG,AF]at h
  simp[M3,C8 v h.1,Ic l h.2]
end
end
end Go.Og
namespace Go.Og
noncomputable section
def G0 (Q:DS->Prop) (E:EB) (D:BB) (Z:H) (n i:Nat) (ops:List BR) (pl:List DP) (s:DS):Prop:=∃s',B6 E D Z.next n i ops pl s=some s'/\Q s'
section
variable {Q:DS->Prop} {E:EB} {D:BB} {Z Zc Z':H} {n i:Nat} {S:Nat->Prop} {d:Option Nat} {o:EK} {l:List BR} {anc:Nat} {lk:List Nat} {pl:List DP} {e env:Bt} {nx am:Nat} {ss:List (EB)} {ks:List Nat} {ls:List (Nat × EK × Bt × V)}
theorem Dm (v:V) (hc:o.cls = .p) (hv:BU o (restr lk e)=some v) (k:G0 Q E D Z n (i+1) l pl ⟨Cb e d v,nx,ss,ks,am,ls⟩):G0 Q E D Z n i (⟨d,o,none⟩::l) (⟨anc,lk⟩::pl) ⟨e,nx,ss,ks,am,ls⟩:=by
 obtain⟨s',h1,h2⟩:=k
 exact⟨s',(dp v hc hv).trans h1,h2⟩
theorem N8 (v:V) (hr:EJ E Z n S nx ss am ls Zc) (hc:o.cls = .l) (hv:QS E Z n S o (restr lk e) v) (k:EJ E Z n S nx ss am ((i,o,restr lk e,v)::ls) Zc->G0 Q E D Z n (i+1) l pl ⟨Cb e d v,nx,ss,ks,am,(i,o,restr lk e,v)::ls⟩) :
  G0 Q E D Z n i (⟨d,o,none⟩::l) (⟨anc,lk⟩::pl) ⟨e,nx,ss,ks,am,ls⟩:=by
 obtain⟨⟨hn,r,rfl⟩,h2,h3,h4,h5,h6⟩:=hr
 obtain⟨s',k1,k2⟩:=k ⟨⟨hn,r,rfl⟩,h2,h3,h4,h5,fun x hx=>by
  rcases BF.1 hx with rfl|hx
  ·exact hv
  ·exact h6 x hx⟩
 exact⟨s',(dl v hc (hv.2 nx Zc.bl _ (h4 _ As))).trans k1,k2⟩
theorem Ut (v:V) (b:Gv) (am':Nat) (hr:EJ E Z n S nx ss am ls Zc) (hc:o.cls = .a) (hi:i<n) (ham:am ||| 2 ^ i=am') (hv:CX o (restr lk e) (Z.next+i)=some (v,b))
  (k:∀ss',EJ E Z n S nx ss' am' ls ⟨Zc.next,(Z.next+i,b)::Zc.bl⟩->G0 Q E D Z n (i+1) l pl ⟨Cb e d v,nx,ss',ks,am',ls⟩) :
  G0 Q E D Z n i (⟨d,o,none⟩::l) (⟨anc,lk⟩::pl) ⟨e,nx,ss,ks,am,ls⟩:=by
 obtain⟨⟨hn,r,rfl⟩,h2,h3,h4,h5,h6⟩:=hr
 subst ham
 suffices hr':EJ E Z n S nx ((Zc.bl::r).map ((Z.next+i,b)::·)) (am ||| 2 ^ i) ls ⟨Zc.next,(Z.next+i,b)::Zc.bl⟩by
  obtain⟨s',k1,k2⟩:=k _ hr'
  exact⟨s',(da v b (Z.next+i) _ hc rfl rfl hv).trans k1,k2⟩
 refine⟨⟨hn,_,rfl⟩,h2,⟨fun c hc=>?_,h3.le,fun c hc hS=>?_⟩,fun h hh id hid hS=>?_,fun h hh j hj hb=>?_,h6⟩
 ·have hc:Zc.next<=c:=hc
  show Bl ((Z.next+i,b)::Zc.bl) c=none
  rw[Bc,if_neg (by simp only[];omega)];exact h3.tidy c hc
 ·show Bl ((Z.next+i,b)::Zc.bl) c=_
  rw[Bc,if_neg (by simp only[];omega)];exact h3.same c hc hS
 ·obtain⟨h',hh',rfl⟩:=I1.1 hh
  rw[G7 (by omega)];exact h4 _ hh' id hid hS
 ·obtain⟨h',hh',rfl⟩:=I1.1 hh
  rw[RX,BN]at hb
  have hne:i≠j:=fun he=>by
   subst he
   have:=hb.2
   rw[ABh]at this
   cases this
  rw[G7 (by omega)];exact h5 _ hh' j hj hb.1
theorem Ur (v:V) {Z2:H} (hr:EJ E Z n S nx ss am ls Zc) (hc:o.cls = .k) (hva:∀j,j<n->am.testBit j=true->anc.testBit j=true) {S':Nat->Prop} (hf:Fr S' Zc Z2) (hS:∀b,b<Z.next->S' b->S b) (hg:∀b,S' b->Z.next<=b->b<Z.next+n->False) (hv:EO E D o (restr lk e) Zc=some (v,Z2))
  (k:∀nx' ss',EJ E Z n S nx' ss' am ls Z2->G0 Q E D Z n (i+1) l pl ⟨Cb e d v,nx',ss',i::ks,am,ls⟩) :
  G0 Q E D Z n i (⟨d,o,none⟩::l) (⟨anc,lk⟩::pl) ⟨e,nx,ss,ks,am,ls⟩:=by
 obtain⟨⟨hn,r,rfl⟩,h2,h3,h4,h5,h6⟩:=hr
 subst hn
 have le:=hf.le
 have f02:Fr S Z Z2:=h3.trans hf hS
 suffices hr':EJ E Z n S Z2.next (Z2.bl::Zc.bl::r) am ls Z2 by
  obtain⟨s',k1,k2⟩:=k Z2.next (Z2.bl::Zc.bl::r) hr'
  refine⟨s',(dk v Z2.next Z2.bl hc (GP fun j hj hp=>?_) hv).trans k1,k2⟩
  refine h5 _ As j hj ?_
  cases ha:am.testBit j with
  | false=>rfl
  | true=>
   exfalso
   unfold Dj at hp
   rw[ha,hva j hj ha]at hp
   cases hp
 refine⟨⟨rfl,_,rfl⟩,by omega,f02,fun h hh id hid hS=>?_,fun h hh j hj hb=>?_,h6⟩
 ·rcases BF.1 hh with rfl|hh
  ·rw[<-BH,<-BH];exact f02.same id hid hS
  ·exact h4 _ hh id hid hS
 ·rcases BF.1 hh with rfl|hh
  ·have:=hf.same (Z.next+j) (by omega) (fun hs=>hg _ hs (by omega) (by omega))
   rw[<-BH,this,BH]
   exact h5 _ As j hj hb
  ·exact h5 _ hh j hj hb
def Mt (E:EB) (Z:H) (n:Nat) (pl:List DP) (env:Bt) (Z':H) (s:DS):Prop:=
 s.e=env/\s.nx=Z'.next/\(∃r,s.ss=Z'.bl::r)/\s.ls.all (fun(j,op,em,v)=>E9 E Z.next n pl s.am j op em v s.ss s.ks [])=true/\∀i,i<n->s.am.testBit i=false->look Z'.bl (Z.next+i)=none
theorem Us {pl0:List DP} {S2:Nat->Prop} {Z2:H} (v:V) (hr:EJ E Z n S nx ss am ls Zc) (hc:o.cls = .k) (hva:∀j,j<n->am.testBit j=true->anc.testBit j=true) (hf:Fr S2 Zc Z2) (hg:∀b,S2 b->Z.next<=b->b<Z.next+n->False)
  (hv:EO E D o (restr lk e) Zc=some (v,Z2)) (hl:∀x∈ls,I2 pl0 x.1 (i::ks) []=false):G0 (Mt E Z n pl0 (Cb e d v) Z2) E D Z n i [⟨d,o,none⟩] [⟨anc,lk⟩] ⟨e,nx,ss,ks,am,ls⟩:=by
 obtain⟨⟨hn,r,rfl⟩,h2,h3,h4,h5,h6⟩:=hr
 subst hn
 refine⟨_,(dk v Z2.next Z2.bl hc (GP fun j hj hp=>?_) hv).trans Kz,rfl,rfl,⟨_,rfl⟩,?_,fun j hj hb=>?_⟩
 ·refine h5 _ As j hj ?_
  cases ha:am.testBit j with
  | false=>rfl
  | true=>
   exfalso
   unfold Dj at hp
   rw[ha,hva j hj ha]at hp
   cases hp
 ·refine D6.2 fun x hx=>?_
  show E9 E Z.next n pl0 am x.1 x.2.1 x.2.2.1 x.2.2.2 (Z2.bl::Zc.bl::r) (i::ks) []=true
  rw[OK (hl x hx)]
  exact KD (h6 x hx) _ _ _ h4
 ·have:=hf.same (Z.next+j) (by omega) (fun hs=>hg _ hs (by omega) (by omega))
  rw[<-BH,this,BH]
  exact h5 _ As j hj hb
theorem N9 {ops:List BR} (h:G0 (Mt E Z ops.length pl env Z') E D Z ops.length 0 ops pl ⟨e,Z.next+ops.length,[Z.bl],[],0,[]⟩):A2 E D ops pl e Z=some (env,Z'):=by
 obtain⟨s',h1,rfl,hn,⟨r,hs⟩,hc,hg⟩:=h
 rw[SW h1 hc hs]
 have:=(GP (n0:=Z.next) (n:=ops.length) (p:=fun k=>s'.am.testBit k) (l:=Z'.bl) fun i hi hp=>hg i hi hp).1
 rw[this,hn]
end
end
end Go.Og
