/- What the last text leans on, part 4 of 10: merged out of smaller texts. No condition. -/
import Derived.KernelRfl
import Derived.Test.YtnpcmeaplmfdlaaGreatDoorProg
import Derived.Deep.Slices
import Derived.Carry
import Derived.Shelf.Strconv.ParseIntPublic10
import Derived.Test.YtnpcmeaplmfdlaaGreatDoorV2
open Int renaming ofNat -> AA,negSucc -> Bh
open Nat renaming reduceLeDiff -> AD,reduceEqDiff -> AE,reduceLT -> AF,le_refl -> AL,add -> AN,le_trans -> AU,ble -> Ac,ble_eq -> Ag,lt_or_ge -> Av,beq -> Ax,zero_le -> BF,zero_add -> BQ,lt_of_lt_of_le -> Cj,blt -> Cr,blt_eq -> Cs,le_succ -> C9,mul_one -> DO,mul -> FP,mod_eq_of_lt -> Fy,le_add_right -> HQ,succ_pos -> Ih,le_succ_of_le -> Ij,lt_irrefl -> JH,sub_zero -> OH,mul_comm -> OI,add_zero -> OJ,add_eq -> SW,testBit_or -> WM,add_mul -> jz,mod_lt -> AFa,testBit_two_pow_self -> AQB
open Bool renaming and_eq_true -> AI,and_true -> Au,true_and -> BX,false_and -> BY,or_eq_false_iff -> Ba,not_true -> B3,not_false -> CE,false_eq_true -> CF,false_or -> C7,not_eq_true' -> DL,or_false -> EW,and_false -> EX,eq_iff_iff -> QR,or_true -> xU
open List renaming length_cons -> AK,length_drop -> AQ,getElem?_eq_getElem -> AV,length_append -> AY,getElem?_eq_none -> Ae,mem_cons_of_mem -> Ar,mem_cons_self -> As,getD_eq_getElem?_getD -> A1,mem_cons -> BK,getElem?_map -> BR,drop_drop -> BU,eq_nil_of_length_eq_zero -> Bc,length_take -> Bn,mem_of_mem_drop -> Bq,mem_singleton -> B0,getElem?_drop -> CD,getElem?_take -> CY,append_nil -> CZ,map_cons -> Cf,length_map -> DD,length -> Du,drop_zero -> Dv,drop_eq_getElem_cons -> EE,mem_of_mem_take -> Eu,range -> Fz,ext_getElem? -> GZ,drop_succ_cons -> Gy,nil_append -> IW,all_eq_true -> Jj,mem_map -> Kl,map_nil -> Km,any_cons -> P0,take_length -> Z0,getElem_mem -> Z1,all_cons -> ig,map_map -> xT
open Option renaming map_eq_some_iff -> BC,map_some -> CH
open And renaming intro -> Ay
open Eq renaming trans -> j1
set_option linter.all false
set_option maxRecDepth 100000
set_option maxHeartbeats 0
namespace Go.Proofs.YtnpcmeaplmfdlaaGreatDoor
open Go Go.Og
noncomputable section
variable (E:EB) (D:Am) (W:AJ) (N:Nat)
def AA3:List (Nat × DN):=[(0,.str),(3,(.int .u8))]
def lX:List (Nat × DN):=[(0,.str),(125,.bool)]
def lW:List (Nat × DN):=[(0,.str),(166,.bool)]
def CW(E:EB):St->AH:=λs=>Dy E s [(.tmp 2)] λl=>some (Ek l,s.U)
def Ol(c0:XC)(a:St->AH):Nat->St->AH:=CQ 1 (kX [(0,.str)] [] [] a) (CQ 0 (dX E D W N (.keep [] [] [] c0) (CW E) nX (CW E)) nX)
def Nt(c0 b:XC)(a:St->AH):St->AH:=dX E D W N (.keep [(0,.str)] [] [] c0) (kX [(0,.str)] [] [] a) (CQ 4 (kX [(0,.str)] [] [] a) (Ol E D W N b a)) (CW E)
def IA(c0:XC)(a:St->AH):Nat->St->AH:=CQ 4 (kX [(0,.str)] [] [] a) (Ol E D W N c0 a)
def wc(c0 c b:XC)(a:St->AH):Nat->St->AH:=CQ 2 (dX E D W N (.keep [(0,.str)] [] [] c0) (dX E D W N (.keep AA3 [] [] c) (kX [(0,.str)] [] [] a) (Ol E D W N b a) (CW E)) (Ol E D W N b a) (CW E)) (Ol E D W N b a)
def wa(c0 b:XC)(a:St->AH):St->AH:=dX E D W N (.keep AA3 [] [] c0) (kX [(0,.str)] [] [] a) (Ol E D W N b a) (CW E)
def wZ(c0:XC):Nat->St->AH:=CQ 0 (dX E D W N (.keep [] [] [] c0) (CW E) nX (CW E)) nX
def tQ(b:XC)(a:XC):XC:=(.z (.aH 2 y1)
 (.seq (.block 0 (.loop [(0,.str)] [] [] a))
 (.keep [] [] [] b)))
def yv(E:EB)(D:Am)(W:AJ)(b:BS->H->AH)(a:BS)(U:H):AH:=
 b a U
def Dp:XC:=(.z (.aH 2 y9)
 .ret)
def AIl(E:EB)(D:Am)(W:AJ)(U:H):AH:=
 rB true U
def T5(b:XC)(c:XC)(a:XC):XC:=(.seq (.z (.aW 7 0<|
 .b 9 .gtr .none (.t 8) (.i 0)<|
 .nil)
 y58)
 (.block 1 (.z (.bF 10 0 0<|
 .m 3 11<|
 .nil)
 (.seq (.z (.m 12 3<|
 .b 13 .lss .none (.t 12) xd<|
 .nil)
 (.cond (.tmp 13) (.z (.aY 14 0 1<|
 .aC 0 15)
 (.seq (.z (.aW 16 0<|
 .bQ 18 17 8<|
 .gA 19 true (.cC 20 0 19 y6 19 86<|
 .bO 22 21 19 21 y21 19 Sp) 24 19 23<|
 .nil)
 (.cond (.tmp 24) (.z (.aY 25 0 8<|
 .aC 0 26)
 (.seq (.draw (.aW 27 0<|
 .bQ 29 28 16<|
 .gA 30 true (.cC 31 0 30 y6 30 86<|
 .bY 33 0 30 y6 30 8 30 86<|
 .p 36 [32,35,30] (.bin .or .none (.t 32) (.t 35))<|
 .bO 37 36 30 36 y21 30 Sp) 39 30 38<|
 .nil) [0,1,3,7,15,31,15,79,255,511,1023,2047,4095])
 (.cond (.tmp 39) (.z (.aY 40 0 16<|
 .aC 0 41)
 (.block 2 (.loop [(0,.str)] [] [] a)))
 .skip)))
 .skip))
 (.keep [(0,.str)] [] [] c)))
 .skip))
 (.keep AA3 [] [] b)))))
def HZ(E:EB)(D:Am)(W:AJ)(l:H->AH)(k:BS->Int->H->AH)(i:BS->H->AH)(j:BS->H->AH)(a:BS)(U:H):AH:=
 AG (Cw (AA 0) (AA (BS.len a))) (
 Az a (AA 0) λb=>
 AG (Cw b (AA 128)) (
 BA a (some (iN 1)) none λc=>
 Ab (λd e=>
 AG d (
 BA c (some (iN 8)) none λd=>
 Ab (λf g=>
 AG f (
 BA d (some (iN 16)) none λf=>
 j f g) (
 i d g)) λf=>
 AG (Cw (AA 16) (AA (BS.len d))) (
 BT (D 86 [.str d] e) λg h=>
 BZ .u64 g λg=>
 BA d (some (iN 8)) none λd=>
 BT (D 86 [.str d] h) λd h=>
 BZ .u64 d λd=>
 f (Cc (IP .u64 (Gt .u64 g d) (AA 9259542123273814144)) (AA 0)) h) (
 f false e)) (
 i c e)) λd=>
 AG (Cw (AA 8) (AA (BS.len c))) (
 BT (D 86 [.str c] U) λc e=>
 BZ .u64 c λc=>
 d (Cc (IP .u64 c (AA 9259542123273814144)) (AA 0)) e) (
 d false U)) (
 k a b U)) (
 l U)
def KP(b:XC)(a:XC):XC:=(.z (.m 65 3<|
 .P 66 (.iaddrA 256 1 (.con (V.ptr 0 0)) (.t 65))<|
 .l 67 (.int .u8) 66<|
 .aC 4 67)
 (.z (.m 68 4<|
 .b 69 .and .none (.t 68) (.con (V.int .u8 (AA 7)))<|
 .P 70 (.conv (.toInt .i64) (.t 69))<|
 .aC 5 70)
 (.z (.m 71 4<|
 .b 72 .shr .none (.t 71) (.con (V.int .u64 (AA 4)))<|
 .P 73 (.iaddrA 16 2 (.con (V.ptr 1 0)) (.t 72))<|
 .O 74 y72 (.load (some 2) (.t 73))<|
 .pal 6 [] 133 [Z6,Z6]<|
 .op none y72 [6,74] (.store 2 (.t 6) (.t 74))<|
 .nil)
 (.z (.aC 75 5)
 (.block 4 (.z (.aN 77 75 2 76)
 (.cond (.tmp 76) (.seq (.seq (.draw (.aW 78 0<|
 .bU 80 79 2<|
 .gO 81 false (.aZ 82 0 81 y6 81 1<|
 .aM 84 6 81 0 6 81<|
 .bJ 86 83 85 81 83 85) 87 81 86<|
 .m 88 87<|
 .gO 88 false (.aM 89 6 88 1 6 88<|
 .aZ 91 0 88 y6 88 1<|
 .bJ 93 90 92 88 90 92) 94 88 93<|
 .nil) [0,1,3,7,15,31,15,79,255,511,1023,2047,4095,2047,10239,32767,65535])
 (.cond (.tmp 94) (.z (.aH 2 y1)
 .ret)
 .skip))
 (.ops (.aY 95 0 2<|
 .aC 0 96)))
 (.z (.aN 98 75 3 97)
 (.cond (.tmp 97) (.keep [(0,.str)] [6] [(6,[(.int .u8),(.int .u8)])] b)
 (.z (.aN 129 75 4 128)
 (.cond (.tmp 128) (.keep [(0,.str)] [6] [(6,[(.int .u8),(.int .u8)])] a)
 (.z (.aH 2 y1)
 .ret))))))))))))
def Xh(E:EB)(D:Am)(W:AJ)(k:BS->Int->Int->H->AH)(j:BS->Int->Int->H->AH)(l:BS->H->AH)(a:BS)(b:Int)(U:H):AH:=
 Wt b λc=>
 JK (Cr c 256) (
 Ee E U 0 (AN 0 (FP c 1)) λc=>
 BZ .u8 c λc=>
 Wt (kz .u8 c 4) λd=>
 JK (Cr d 16) (
 Dt E U 1 (AN 0 (FP d 2)) 2 λd=>
 uAA d λd e=>
 AG (Cc (BH .i64 (IP .u8 c (AA 7))) (AA 2)) (
 Ab (λf g=>
 Ab (λh i=>
 AG h (
 rB false i) (
 BA a (some (iN 2)) none λh=>
 l h i)) λh=>
 AG f (
 h true g) (
 Az a (AA 1) λf=>
 h (Cw e f) g)) λf=>
 AG (Cw (AA (BS.len a)) (AA 2)) (
 f true U) (
 Az a (AA 1) λg=>
 f (Cw g d) U)) (
 AG (Cc (BH .i64 (IP .u8 c (AA 7))) (AA 3)) (
 k a d e U) (
 AG (Cc (BH .i64 (IP .u8 c (AA 7))) (AA 4)) (
 j a d e U) (
 rB false U)))))
def L2:XC:=(.exit 1)
def yu(E:EB)(D:Am)(W:AJ)(b:BS->H->AH)(a:BS)(U:H):AH:=
 b a U
def OE:XC:=(.seq (.seq (.draw (.aW 42 0<|
 .bQ 44 43 32<|
 .gA 45 true (.cC 46 0 45 y6 45 86<|
 .bY 48 0 45 y6 45 8 45 86<|
 .p 51 [47,50,45] (.bin .or .none (.t 47) (.t 50))<|
 .bY 52 0 45 y6 45 16 45 86<|
 .bY 55 0 45 y6 45 24 45 86<|
 .p 58 [54,57,45] (.bin .or .none (.t 54) (.t 57))<|
 .p 59 [51,58,45] (.bin .or .none (.t 51) (.t 58))<|
 .bO 60 59 45 59 y21 45 Sp) 62 45 61<|
 .nil) [0,1,3,7,15,31,15,79,255,511,15,1039,3583,15,8207,32255,65023,131071,262143,524287,1048575])
 (.cond (.tmp 62) .skip
 (.exit 2)))
 (.block 3 (.ops (.aY 63 0 32<|
 .aC 0 64))))
def Nz(E:EB)(D:Am)(W:AJ)(h:BS->H->AH)(i:BS->H->AH)(a:BS)(U:H):AH:=
 Ab (λb c=>
 AG b (
 BA a (some (iN 32)) none λb=>
 i b c) (
 h a c)) λb=>
 AG (Cw (AA 32) (AA (BS.len a))) (
 BT (D 86 [.str a] U) λc d=>
 BZ .u64 c λc=>
 BA a (some (iN 8)) none λe=>
 BT (D 86 [.str e] d) λd e=>
 BZ .u64 d λd=>
 BA a (some (iN 16)) none λf=>
 BT (D 86 [.str f] e) λe f=>
 BZ .u64 e λe=>
 BA a (some (iN 24)) none λg=>
 BT (D 86 [.str g] f) λf g=>
 BZ .u64 f λf=>
 b (Cc (IP .u64 (Gt .u64 (Gt .u64 c d) (Gt .u64 e f)) (AA 9259542123273814144)) (AA 0)) g) (
 b false U)
def JF(b:XC)(a:XC)(c:XL):XC:=(.seq (.seq (.draw (.aW 99 0<|
 .bU 101 100 3<|
 .gO 102 false (.aZ 103 0 102 y6 102 1<|
 .aM 105 6 102 0 6 102<|
 .bJ 107 104 106 102 104 106) 108 102 107<|
 .m 109 108<|
 .gO 109 false (.aM 110 6 109 1 6 109<|
 .aZ 112 0 109 y6 109 1<|
 .bJ 114 111 113 109 111 113) 115 109 114<|
 .m 116 115<|
 .gO 116 false (.aZ 117 0 116 y6 116 2<|
 .p 119 [118,116] (.bin .lss .none (.t 118) xd)<|
 .nil) 120 116 119<|
 c) [0,1,3,7,15,31,15,79,255,511,1023,2047,4095,2047,10239,32767,65535,131071,262143,524287,1048575,2097151,4194303,8388607,16777215,33554431,67108863])
 (.keep lX [] [] a))
 (.keep [(0,.str)] [] [] b))
def dq(E:EB)(D:Am)(W:AJ)(j:Bool->Bool->Bool->Bool->Bool->Bool->Bool->Int->BS->BS->Int->Int->H->AH)(a:BS)(b c:Int)(U:H):AH:=
 Ab (λd e=>
 Ab (λf g=>
 Ab (λh i=>
 j h f f d d (Cw (AA (BS.len a)) (AA 3)) (Cw (AA (BS.len a)) (AA 3)) (AA (BS.len a)) a a b c i) λh=>
 AG f (
 h true g) (
 Az a (AA 2) λf=>
 h (Cw f (AA 128)) g)) λf=>
 AG d (
 f true e) (
 Az a (AA 1) λd=>
 f (Cw c d) e)) λd=>
 AG (Cw (AA (BS.len a)) (AA 3)) (
 d true U) (
 Az a (AA 1) λe=>
 d (Cw e b) U)
def GV:XC:=(.ops (.aY 126 0 3<|
 .aC 0 127))
def dm(E:EB)(D:Am)(W:AJ)(c:BS->H->AH)(a:BS)(U:H):AH:=
 BA a (some (iN 3)) none λb=>
 c b U
def HJ:XC:=(.cond (.tmp 125) (.z (.aH 2 y1)
 .ret)
 .skip)
def di(E:EB)(D:Am)(W:AJ)(c:BS->H->AH)(a:BS)(b:Bool)(U:H):AH:=
 AG b (
 rB false U) (
 c a U)
def IG:XL := .m 121 120<|
 .gO 121 false (.aZ 122 0 121 y6 121 2<|
 .p 124 [123,121] (.bin .lss .none y41 (.t 123))<|
 .nil) 125 121 124<|
 .nil
def dh(E:EB)(D:Am)(W:AJ)(f:BS->Bool->H->AH)(g m j o i h n:Bool)(k:Int)(l e:BS)(a b:Int)(U:H):AH:=
 Ab (λc d=>
 f e c d) λc=>
 AG g (
 c true U) (
 Az e (AA 2) λd=>
 c (Cw (AA 191) d) U)
def Gh(c:XC)(a:XC)(b:XL):XC:=(.seq (.seq (.draw (.aW 130 0<|
 .bU 132 131 4<|
 .gO 133 false (.aZ 134 0 133 y6 133 1<|
 .aM 136 6 133 0 6 133<|
 .bJ 138 135 137 133 135 137) 139 133 138<|
 .m 140 139<|
 .gO 140 false (.aM 141 6 140 1 6 140<|
 .aZ 143 0 140 y6 140 1<|
 .bJ 145 142 144 140 142 144) 146 140 145<|
 .m 147 146<|
 .gO 147 false (.aZ 148 0 147 y6 147 2<|
 .p 150 [149,147] (.bin .lss .none (.t 149) xd)<|
 .nil) 151 147 150<|
 b) [0,1,3,7,15,31,15,79,255,511,1023,2047,4095,2047,10239,32767,65535,131071,262143,524287,1048575,2097151,4194303,8388607,16777215,33554431,67108863,134217727,268435455,536870911,1073741823,2147483647,4294967295,8589934591,17179869183,34359738367,68719476735])
 (.keep lW [] [] a))
 (.keep [(0,.str)] [] [] c))
def Vk(E:EB)(D:Am)(W:AJ)(j:Bool->Bool->Bool->Bool->Bool->Bool->Bool->Int->BS->BS->Int->Int->H->AH)(a:BS)(b c:Int)(U:H):AH:=
 Ab (λd e=>
 Ab (λf g=>
 Ab (λh i=>
 j h f f d d (Cw (AA (BS.len a)) (AA 4)) (Cw (AA (BS.len a)) (AA 4)) (AA (BS.len a)) a a b c i) λh=>
 AG f (
 h true g) (
 Az a (AA 2) λf=>
 h (Cw f (AA 128)) g)) λf=>
 AG d (
 f true e) (
 Az a (AA 1) λd=>
 f (Cw c d) e)) λd=>
 AG (Cw (AA (BS.len a)) (AA 4)) (
 d true U) (
 Az a (AA 1) λe=>
 d (Cw e b) U)
def Ep:XC:=(.ops (.aY 167 0 4<|
 .aC 0 168))
def Vj(E:EB)(D:Am)(W:AJ)(c:BS->H->AH)(a:BS)(U:H):AH:=
 BA a (some (iN 4)) none λb=>
 c b U
def FO:XC:=(.cond (.tmp 166) (.z (.aH 2 y1)
 .ret)
 .skip)
def Vi(E:EB)(D:Am)(W:AJ)(c:BS->H->AH)(a:BS)(b:Bool)(U:H):AH:=
 AG b (
 rB false U) (
 c a U)
def Fw:XL := .m 152 151<|
 .gO 152 false (.aZ 153 0 152 y6 152 2<|
 .p 155 [154,152] (.bin .lss .none y41 (.t 154))<|
 .nil) 156 152 155<|
 .m 157 156<|
 .gO 157 false (.aZ 158 0 157 y6 157 3<|
 .p 160 [159,157] (.bin .lss .none (.t 159) xd)<|
 .nil) 161 157 160<|
 .m 162 161<|
 .gO 162 false (.aZ 163 0 162 y6 162 3<|
 .p 165 [164,162] (.bin .lss .none y41 (.t 164))<|
 .nil) 166 162 165<|
 .nil
def Vh(E:EB)(D:Am)(W:AJ)(j:BS->Bool->H->AH)(k q n s m l r:Bool)(o:Int)(p i:BS)(a b:Int)(U:H):AH:=
 Ab (λc d=>
 Ab (λe f=>
 Ab (λg h=>
 j i g h) λg=>
 AG e (
 g true f) (
 Az i (AA 3) λe=>
 g (Cw (AA 191) e) f)) λe=>
 AG c (
 e true d) (
 Az i (AA 3) λc=>
 e (Cw c (AA 128)) d)) λc=>
 AG k (
 c true U) (
 Az i (AA 2) λd=>
 c (Cw (AA 191) d) U)
def Ds(a:BS)(U:H):St:=⟨[(0,.str a)],[],[],U⟩
def yy(U:H):St:=⟨[],[],[],U⟩
def qk(a:BS)(b:Int)(U:H):St:=⟨[(0,.str a),(3,.int .u8 b)],[],[],U⟩
def Te(a:BS)(b c:Int)(U:H):St:=⟨[(0,.str a)],[(6,(6,0))],[(6,[.int .u8 b,.int .u8 c])],U⟩
def qj(a:BS)(b:Bool)(U:H):St:=⟨[(0,.str a),(125,.bool b)],[],[],U⟩
def Zj(a:BS)(b:Bool)(U:H):St:=⟨[(0,.str a),(166,.bool b)],[],[],U⟩
theorem AJ6 d c a U:
 A0 E D W N (tQ d c) (Ds a U) (CW E) nX (CW E) =
 yv E D W (λa U=>Bw (λe f=>A0 E D W N c f (kX [(0,.str)] [] [] e) (wZ E D W N d) (CW E)) N (Ds a U)) a U:=by kernel_rfl
theorem AJ5 c d f g li2 a U:
 A0 E D W N (T5 d f g) (Ds a U) (kX [(0,.str)] [] [] li2) (wZ E D W N c) (CW E) =
 HZ E D W (fun  U=>A0 E D W N c (yy U) (CW E) nX (CW E)) (λa b U=>A0 E D W N d (qk a b U) (kX [(0,.str)] [] [] li2) (Ol E D W N c li2) (CW E)) (λa U=>A0 E D W N f (Ds a U) (wa E D W N d c li2) (Ol E D W N c li2) (CW E)) (λa U=>Bw (λh i=>A0 E D W N g i (kX [(0,.str)] [] [] h) (wc E D W N f d c li2) (CW E)) N (Ds a U)) a U:=by kernel_rfl
theorem AJ4 g h e li2 a b U:
 A0 E D W N (KP h e) (qk a b U) (kX [(0,.str)] [] [] li2) (Ol E D W N g li2) (CW E) =
 Xh E D W (λa c d U=>A0 E D W N h (Te a c d U) (kX [(0,.str)] [] [] li2) (IA E D W N g li2) (CW E)) (λa c d U=>A0 E D W N e (Te a c d U) (kX [(0,.str)] [] [] li2) (IA E D W N g li2) (CW E)) (λa U=>li2 (Ds a U)) a b U:=by kernel_rfl
theorem AJ3 c d li2 a U:
 A0 E D W N (L2 ) (Ds a U) (wa E D W N d c li2) (Ol E D W N c li2) (CW E) =
 yu E D W (λa U=>li2 (Ds a U)) a U:=by kernel_rfl
theorem AJ2 c e d li2 f a U:
 A0 E D W N (OE ) (Ds a U) (kX [(0,.str)] [] [] f) (wc E D W N d e c li2) (CW E) =
 Nz E D W (λa U=>A0 E D W N d (Ds a U) (wa E D W N e c li2) (Ol E D W N c li2) (CW E)) (λa U=>f (Ds a U)) a U:=by kernel_rfl
theorem AJ1 g l k i li2 c d f U (s:Hg [(6,(6,0))] (XL.pals (.m 99 0<|
 .P 100 (.len true (.t 99))<|
 .b 101 .lss .none (.t 100) (.i 3)<|
 .m 102 101<|
 .gO 102 false (.p 103 [0,102] (.mov (.t 0))<|
 .p 104 [103,102] (.idxStr (.t 103) (.i 1))<|
 .p 105 [6,102] (.faddr 0 (.t 6))<|
 .op (some 106) (.int .u8) [105,102] (.load none (.t 105))<|
 .p 107 [104,106,102] (.bin .lss .none (.t 104) (.t 106))<|
 .nil) 108 102 107<|
 .m 109 108<|
 .gO 109 false (.p 110 [6,109] (.faddr 1 (.t 6))<|
 .op (some 111) (.int .u8) [110,109] (.load none (.t 110))<|
 .p 112 [0,109] (.mov (.t 0))<|
 .p 113 [112,109] (.idxStr (.t 112) (.i 1))<|
 .p 114 [111,113,109] (.bin .lss .none (.t 111) (.t 113))<|
 .nil) 115 109 114<|
 .m 116 115<|
 .gO 116 false (.p 117 [0,116] (.mov (.t 0))<|
 .p 118 [117,116] (.idxStr (.t 117) (.i 2))<|
 .p 119 [118,116] (.bin .lss .none (.t 118) (.con (V.int .u8 (AA 128))))<|
 .nil) 120 116 119<|
 i))=true) :
 A0 E D W N (JF l k i) (Te c d f U) (kX [(0,.str)] [] [] li2) (IA E D W N g li2) (CW E) =
 dq E D W (λz t A w x v C y B u d f U=>Fg E D true true 0 i 22 [(120,(V.bool z)),(116,(V.bool t)),(115,(V.bool A)),(109,(V.bool w)),(108,(V.bool x)),(102,(V.bool v)),(101,(V.bool C)),(100,(V.int .i64 y)),(99,(V.str B)),(0,(V.str u))] [(6,(6,0))] [(6,[(V.int .u8 d),(V.int .u8 f)])] U (λe q r U=>(dX E D W N (.keep lX [] [] k) (Nt E D W N l g li2) (IA E D W N g li2) (CW E)) ⟨e,q,r,U⟩)) c d f U:=by
 refine j1 (b:=Fg E D true true 0 (.m 99 0<|
 .P 100 (.len true (.t 99))<|
 .b 101 .lss .none (.t 100) (.i 3)<|
 .m 102 101<|
 .gO 102 false (.p 103 [0,102] (.mov (.t 0))<|
 .p 104 [103,102] (.idxStr (.t 103) (.i 1))<|
 .p 105 [6,102] (.faddr 0 (.t 6))<|
 .op (some 106) (.int .u8) [105,102] (.load none (.t 105))<|
 .p 107 [104,106,102] (.bin .lss .none (.t 104) (.t 106))<|
 .nil) 108 102 107<|
 .m 109 108<|
 .gO 109 false (.p 110 [6,109] (.faddr 1 (.t 6))<|
 .op (some 111) (.int .u8) [110,109] (.load none (.t 110))<|
 .p 112 [0,109] (.mov (.t 0))<|
 .p 113 [112,109] (.idxStr (.t 112) (.i 1))<|
 .p 114 [111,113,109] (.bin .lss .none (.t 111) (.t 113))<|
 .nil) 115 109 114<|
 .m 116 115<|
 .gO 116 false (.p 117 [0,116] (.mov (.t 0))<|
 .p 118 [117,116] (.idxStr (.t 117) (.i 2))<|
 .p 119 [118,116] (.bin .lss .none (.t 118) (.con (V.int .u8 (AA 128))))<|
 .nil) 120 116 119<|
 i) 0 [(0,(V.str c))] [(6,(6,0))] [(6,[(V.int .u8 d),(V.int .u8 f)])] U (λe q r U=>(dX E D W N (.keep lX [] [] k) (Nt E D W N l g li2) (IA E D W N g li2) (CW E)) ⟨e,q,r,U⟩)) ?_ (by kernel_rfl)
 have F:∀q o a,Hg q o=true->Lk q o a=a:=λq o a h=>by unfold Lk;rw[h]
 exact F _ _ _ s
theorem AJ0 c li2 a U:
 A0 E D W N (GV ) (Ds a U) (kX [(0,.str)] [] [] li2) (IA E D W N c li2) (CW E) =
 dm E D W (λa U=>li2 (Ds a U)) a U:=by kernel_rfl
theorem AJz d e li2 a b U:
 A0 E D W N (HJ ) (qj a b U) (Nt E D W N e d li2) (IA E D W N d li2) (CW E) =
 di E D W (λa U=>A0 E D W N e (Ds a U) (kX [(0,.str)] [] [] li2) (IA E D W N d li2) (CW E)) a b U:=by kernel_rfl
theorem AJy f i h li2 k s l o m j u n p t a b U:
 Fg E D true true 0 (IG ) 22 [(120,(V.bool k)),(116,(V.bool s)),(115,(V.bool l)),(109,(V.bool o)),(108,(V.bool m)),(102,(V.bool j)),(101,(V.bool u)),(100,(V.int .i64 n)),(99,(V.str p)),(0,(V.str t))] [(6,(6,0))] [(6,[(V.int .u8 a),(V.int .u8 b)])] U (λe q r U=>(dX E D W N (.keep lX [] [] h) (Nt E D W N i f li2) (IA E D W N f li2) (CW E)) ⟨e,q,r,U⟩) =
 dh E D W (λc d U=>A0 E D W N h (qj c d U) (Nt E D W N i f li2) (IA E D W N f li2) (CW E)) k s l o m j u n p t a b U:=by kernel_rfl
theorem ACE k i j g li2 c d f U (s:Hg [(6,(6,0))] (XL.pals (.m 130 0<|
 .P 131 (.len true (.t 130))<|
 .b 132 .lss .none (.t 131) (.i 4)<|
 .m 133 132<|
 .gO 133 false (.p 134 [0,133] (.mov (.t 0))<|
 .p 135 [134,133] (.idxStr (.t 134) (.i 1))<|
 .p 136 [6,133] (.faddr 0 (.t 6))<|
 .op (some 137) (.int .u8) [136,133] (.load none (.t 136))<|
 .p 138 [135,137,133] (.bin .lss .none (.t 135) (.t 137))<|
 .nil) 139 133 138<|
 .m 140 139<|
 .gO 140 false (.p 141 [6,140] (.faddr 1 (.t 6))<|
 .op (some 142) (.int .u8) [141,140] (.load none (.t 141))<|
 .p 143 [0,140] (.mov (.t 0))<|
 .p 144 [143,140] (.idxStr (.t 143) (.i 1))<|
 .p 145 [142,144,140] (.bin .lss .none (.t 142) (.t 144))<|
 .nil) 146 140 145<|
 .m 147 146<|
 .gO 147 false (.p 148 [0,147] (.mov (.t 0))<|
 .p 149 [148,147] (.idxStr (.t 148) (.i 2))<|
 .p 150 [149,147] (.bin .lss .none (.t 149) (.con (V.int .u8 (AA 128))))<|
 .nil) 151 147 150<|
 g))=true) :
 A0 E D W N (Gh i j g) (Te c d f U) (kX [(0,.str)] [] [] li2) (IA E D W N k li2) (CW E) =
 Vk E D W (λy C z v u t x A B F d f U=>Fg E D true true 0 g 22 [(151,(V.bool y)),(147,(V.bool C)),(146,(V.bool z)),(140,(V.bool v)),(139,(V.bool u)),(133,(V.bool t)),(132,(V.bool x)),(131,(V.int .i64 A)),(130,(V.str B)),(0,(V.str F))] [(6,(6,0))] [(6,[(V.int .u8 d),(V.int .u8 f)])] U (λe q r U=>(dX E D W N (.keep lW [] [] j) (Nt E D W N i k li2) (IA E D W N k li2) (CW E)) ⟨e,q,r,U⟩)) c d f U:=by
 refine j1 (b:=Fg E D true true 0 (.m 130 0<|
 .P 131 (.len true (.t 130))<|
 .b 132 .lss .none (.t 131) (.i 4)<|
 .m 133 132<|
 .gO 133 false (.p 134 [0,133] (.mov (.t 0))<|
 .p 135 [134,133] (.idxStr (.t 134) (.i 1))<|
 .p 136 [6,133] (.faddr 0 (.t 6))<|
 .op (some 137) (.int .u8) [136,133] (.load none (.t 136))<|
 .p 138 [135,137,133] (.bin .lss .none (.t 135) (.t 137))<|
 .nil) 139 133 138<|
 .m 140 139<|
 .gO 140 false (.p 141 [6,140] (.faddr 1 (.t 6))<|
 .op (some 142) (.int .u8) [141,140] (.load none (.t 141))<|
 .p 143 [0,140] (.mov (.t 0))<|
 .p 144 [143,140] (.idxStr (.t 143) (.i 1))<|
 .p 145 [142,144,140] (.bin .lss .none (.t 142) (.t 144))<|
 .nil) 146 140 145<|
 .m 147 146<|
 .gO 147 false (.p 148 [0,147] (.mov (.t 0))<|
 .p 149 [148,147] (.idxStr (.t 148) (.i 2))<|
 .p 150 [149,147] (.bin .lss .none (.t 149) (.con (V.int .u8 (AA 128))))<|
 .nil) 151 147 150<|
 g) 0 [(0,(V.str c))] [(6,(6,0))] [(6,[(V.int .u8 d),(V.int .u8 f)])] U (λe q r U=>(dX E D W N (.keep lW [] [] j) (Nt E D W N i k li2) (IA E D W N k li2) (CW E)) ⟨e,q,r,U⟩)) ?_ (by kernel_rfl)
 have w:∀q o a,Hg q o=true->Lk q o a=a:=λq o a h=>by unfold Lk;rw[h]
 exact w _ _ _ s
theorem ACD c li2 a U:
 A0 E D W N (Ep ) (Ds a U) (kX [(0,.str)] [] [] li2) (IA E D W N c li2) (CW E) =
 Vj E D W (λa U=>li2 (Ds a U)) a U:=by kernel_rfl
theorem ACC e d li2 a b U:
 A0 E D W N (FO ) (Zj a b U) (Nt E D W N d e li2) (IA E D W N e li2) (CW E) =
 Vi E D W (λa U=>A0 E D W N d (Ds a U) (kX [(0,.str)] [] [] li2) (IA E D W N e li2) (CW E)) a b U:=by kernel_rfl
theorem ACB f h g li2 k p l s u j n m o t a b U:
 Fg E D true true 0 (Fw ) 22 [(151,(V.bool k)),(147,(V.bool p)),(146,(V.bool l)),(140,(V.bool s)),(139,(V.bool u)),(133,(V.bool j)),(132,(V.bool n)),(131,(V.int .i64 m)),(130,(V.str o)),(0,(V.str t))] [(6,(6,0))] [(6,[(V.int .u8 a),(V.int .u8 b)])] U (λe q r U=>(dX E D W N (.keep lW [] [] g) (Nt E D W N h f li2) (IA E D W N f li2) (CW E)) ⟨e,q,r,U⟩) =
 Vh E D W (λc d U=>A0 E D W N g (Zj c d U) (Nt E D W N h f li2) (IA E D W N f li2) (CW E)) k p l s u j n m o t a b U:=by kernel_rfl
def fX(E:EB)(D:Am)(W:AJ)(N:Nat):=AIl E D W
theorem ADG U:
 A0 E D W N Dp (yy U) (CW E) nX (CW E)=fX E D W N  U:=by kernel_rfl
def zK(E:EB)(D:Am)(W:AJ)(N:Nat)(a:BS->H->AH):=dm E D W a
theorem ADD li2 a U:
 A0 E D W N GV (Ds a U) (kX [(0,.str)] [] [] li2) (IA E D W N Dp li2) (CW E)=zK E D W N (λa U=>li2 (Ds a U)) a U:=by
 refine(AJ0 E D W N Dp li2 a U).trans ?_;kernel_rfl
def zJ(a:BS->H->AH):=di E D W (zK E D W N a)
theorem ADC li2 a b U:
 A0 E D W N HJ (qj a b U) (Nt E D W N GV Dp li2) (IA E D W N Dp li2) (CW E)=zJ E D W N (λa U=>li2 (Ds a U)) a b U:=by
 refine(AJz E D W N Dp GV li2 a b U).trans ?_;simp only[ADD];kernel_rfl
def zI(a:BS->H->AH):=dh E D W (zJ E D W N a)
theorem ADB li2 j n k h i g o m l p a b U:
 Fg E D true true 0 IG 22 [(120,(V.bool j)),(116,(V.bool n)),(115,(V.bool k)),(109,(V.bool h)),(108,(V.bool i)),(102,(V.bool g)),(101,(V.bool o)),(100,(V.int .i64 m)),(99,(V.str l)),(0,(V.str p))] [(6,(6,0))] [(6,[(V.int .u8 a),(V.int .u8 b)])] U (λe q r U=>(dX E D W N (.keep lX [] [] HJ) (Nt E D W N GV Dp li2) (IA E D W N Dp li2) (CW E)) ⟨e,q,r,U⟩)=zI E D W N (λc U=>li2 (Ds c U)) j n k h i g o m l p a b U:=by
 refine(AJy E D W N Dp GV HJ li2 j n k h i g o m l p a b U).trans ?_;simp only[ADC];kernel_rfl
def fV(a:BS->H->AH):=dq E D W (zI E D W N a)
theorem ADE li2 a b c U:
 A0 E D W N (JF GV HJ IG) (Te a b c U) (kX [(0,.str)] [] [] li2) (IA E D W N Dp li2) (CW E)=fV E D W N (λa U=>li2 (Ds a U)) a b c U:=by
 refine(AJ1 E D W N Dp GV HJ IG li2 a b c U (by kernel_rfl)).trans ?_;simp only[ADB];kernel_rfl
def ri(E:EB)(D:Am)(W:AJ)(N:Nat)(a:BS->H->AH):=Vj E D W a
theorem xF li2 a U:
 A0 E D W N Ep (Ds a U) (kX [(0,.str)] [] [] li2) (IA E D W N Dp li2) (CW E)=ri E D W N (λa U=>li2 (Ds a U)) a U:=by
 refine(ACD E D W N Dp li2 a U).trans ?_;kernel_rfl
def rh(a:BS->H->AH):=Vi E D W (ri E D W N a)
theorem xE li2 a b U:
 A0 E D W N FO (Zj a b U) (Nt E D W N Ep Dp li2) (IA E D W N Dp li2) (CW E)=rh E D W N (λa U=>li2 (Ds a U)) a b U:=by
 refine(ACC E D W N Dp Ep li2 a b U).trans ?_;simp only[xF];kernel_rfl
def re(a:BS->H->AH):=Vh E D W (rh E D W N a)
theorem xD li2 j n k h i g o m l p a b U:
 Fg E D true true 0 Fw 22 [(151,(V.bool j)),(147,(V.bool n)),(146,(V.bool k)),(140,(V.bool h)),(139,(V.bool i)),(133,(V.bool g)),(132,(V.bool o)),(131,(V.int .i64 m)),(130,(V.str l)),(0,(V.str p))] [(6,(6,0))] [(6,[(V.int .u8 a),(V.int .u8 b)])] U (λe q r U=>(dX E D W N (.keep lW [] [] FO) (Nt E D W N Ep Dp li2) (IA E D W N Dp li2) (CW E)) ⟨e,q,r,U⟩)=re E D W N (λc U=>li2 (Ds c U)) j n k h i g o m l p a b U:=by
 refine(ACB E D W N Dp Ep FO li2 j n k h i g o m l p a b U).trans ?_;simp only[xE];kernel_rfl
def WE(a:BS->H->AH):=Vk E D W (re E D W N a)
theorem xG li2 a b c U:
 A0 E D W N (Gh Ep FO Fw) (Te a b c U) (kX [(0,.str)] [] [] li2) (IA E D W N Dp li2) (CW E)=WE E D W N (λa U=>li2 (Ds a U)) a b c U:=by
 refine(ACE E D W N Dp Ep FO Fw li2 a b c U (by kernel_rfl)).trans ?_;simp only[xD];kernel_rfl
def fW(a:BS->H->AH):=Xh E D W (fV E D W N a) (WE E D W N a) a
theorem ADF li2 a b U:
 A0 E D W N (KP (JF GV HJ IG) (Gh Ep FO Fw)) (qk a b U) (kX [(0,.str)] [] [] li2) (Ol E D W N Dp li2) (CW E)=fW E D W N (λa U=>li2 (Ds a U)) a b U:=by
 refine(AJ4 E D W N Dp (JF GV HJ IG) (Gh Ep FO Fw) li2 a b U).trans ?_;simp only[ADE,xG];kernel_rfl
def YM(E:EB)(D:Am)(W:AJ)(N:Nat)(a:BS->H->AH):=yu E D W a
theorem qz li2 a U:
 A0 E D W N L2 (Ds a U) (wa E D W N (KP (JF GV HJ IG) (Gh Ep FO Fw)) Dp li2) (Ol E D W N Dp li2) (CW E)=YM E D W N (λa U=>li2 (Ds a U)) a U:=by
 refine(AJ3 E D W N Dp (KP (JF GV HJ IG) (Gh Ep FO Fw)) li2 a U).trans ?_;kernel_rfl
def X6(b:BS->H->AH)(n:Nat):BS->H->AH:=
 Nat.rec (λ_ _=>none) (λ_ a=>Nz E D W (YM E D W N b) a) n
theorem ACN li2 n:∀a U,
 Bw (λd h=>A0 E D W N OE h (kX [(0,.str)] [] [] d) (wc E D W N L2 (KP (JF GV HJ IG) (Gh Ep FO Fw)) Dp li2) (CW E)) n (Ds a U)=X6 E D W N (λa U=>li2 (Ds a U)) n a U:=by
 induction n with
 | zero=>intro a U;rfl | succ n g=>
  intro a U;rw[Kc];refine(AJ2 E D W N Dp (KP (JF GV HJ IG) (Gh Ep FO Fw)) L2 li2 (Bw (λd h=>A0 E D W N OE h (kX [(0,.str)] [] [] d) (wc E D W N L2 (KP (JF GV HJ IG) (Gh Ep FO Fw)) Dp li2) (CW E)) n) a U).trans ?_;simp only[g,qz];kernel_rfl
def OB(n:Nat):BS->H->AH:=
 Nat.rec (λ_ _=>none) (λ_ a=>HZ E D W (fX E D W N ) (fW E D W N a) (YM E D W N a) (X6 E D W N a N)) n
theorem ACO n:∀a U,
 Bw (λd h=>A0 E D W N (T5 (KP (JF GV HJ IG) (Gh Ep FO Fw)) L2 OE) h (kX [(0,.str)] [] [] d) (wZ E D W N Dp) (CW E)) n (Ds a U)=OB E D W N n a U:=by
 induction n with
 | zero=>intro a U;rfl | succ n g=>
  intro a U;rw[Kc];refine(AJ5 E D W N Dp (KP (JF GV HJ IG) (Gh Ep FO Fw)) L2 OE (Bw (λd h=>A0 E D W N (T5 (KP (JF GV HJ IG) (Gh Ep FO Fw)) L2 OE) h (kX [(0,.str)] [] [] d) (wZ E D W N Dp) (CW E)) n) a U).trans ?_;simp only[g,ADG,ADF,qz,ACN];kernel_rfl
def zL:=yv E D W (OB E D W N N)
theorem ADH a U:
 A0 E D W N (tQ Dp (T5 (KP (JF GV HJ IG) (Gh Ep FO Fw)) L2 OE)) (Ds a U) (CW E) nX (CW E)=zL E D W N a U:=by
 refine(AJ6 E D W N Dp (T5 (KP (JF GV HJ IG) (Gh Ep FO Fw)) L2 OE)  a U).trans ?_;simp only[ACO];kernel_rfl
def F74(c:List V)(U:H):AH:=
 NA c λa b=>
 BD b (
 zL E D W N a U)
def A74:Dg:=⟨169,[.str],[(.tmp 2)],(tQ Dp (T5 (KP (JF GV HJ IG) (Gh Ep FO Fw)) L2 OE))⟩
theorem AK1 b U:Bt E D W N A74 b U=F74 E D W N b U:=by
 unfold F74;simp only[<-ADH];kernel_rfl
def AMO:XC:=(.z (.aH 4 y1)
 (.z (.aD 5 0 1<|
 .k 7 .bool 87 [(.t 5),(.t 6)]<|
 .m 4 7<|
 .nil)
 .ret))
def pJ(E:EB)(D:Am)(W:AJ)(a b:BS)(U:H):AH:=
 cB (D 87 [.str a,.str b] U) λc d=>
 rB c d
def F75(N:Nat)(c:List V)(U:H):AH:=
 uT c λa b=>
 pJ E D W a b U
def A75:Dg:=⟨8,[.str,.str],[(.tmp 4)],AMO⟩
theorem AK0 b U:Bt E D W N A75 b U=F75 E D W N b U:=by kernel_rfl
def AMN(a:XC)(b:XC):XC:=(.z (.aH 2 y1)
 (.seq (.z (.aC 3 0)
 (.block 0 (.seq (.z (.aR 5 3 y49 4)
 (.cond (.tmp 4) .skip
 (.z (.aR 6 3 y29 4)
 (.cond (.tmp 4) .skip
 (.z (.aR 7 3 y30 4)
 (.cond (.tmp 4) .skip
 (.z (.aR 8 3 y53 4)
 (.cond (.tmp 4) .skip
 (.z (.aR 9 3 y50 4)
 (.cond (.tmp 4) .skip
 (.z (.aR 10 3 y68 4)
 (.cond (.tmp 4) .skip
 (.z (.aR 11 3 y79 4)
 (.cond (.tmp 4) .skip
 (.z (.aR 12 3 y33 4)
 (.cond (.tmp 4) .skip
 (.z (.aR 13 3 y34 4)
 (.cond (.tmp 4) .skip
 (.z (.b 14 .eql .none (.t 3) y25<|
 .aC 4 14)
 (.cond (.tmp 4) .skip
 (.z (.b 15 .eql .none (.t 3) xY<|
 .aC 4 15)
 (.cond (.tmp 4) .skip
 (.z (.b 16 .eql .none (.t 3) y47<|
 .aC 4 16)
 (.cond (.tmp 4) .skip
 (.z (.b 17 .eql .none (.t 3) y61<|
 .aC 4 17)
 (.cond (.tmp 4) .skip
 (.z (.b 18 .eql .none (.t 3) xZ<|
 .aC 4 18)
 (.cond (.tmp 4) .skip
 (.z (.b 19 .eql .none (.t 3) y31<|
 .aC 4 19)
 (.cond (.tmp 4) .skip
 (.z (.b 20 .eql .none (.t 3) y52<|
 .aC 4 20)
 (.cond (.tmp 4) .skip
 (.z (.b 21 .eql .none (.t 3) y40<|
 .aC 4 21)
 (.cond (.tmp 4) .skip
 (.z (.b 22 .eql .none (.t 3) (.con (V.str ⟨2,17999⟩))<|
 .aC 4 22)
 (.cond (.tmp 4) .skip
 (.z (.b 23 .eql .none (.t 3) y54<|
 .aC 4 23)
 (.cond (.tmp 4) .skip
 (.z (.b 24 .eql .none (.t 3) y56<|
 .aC 4 24)
 (.cond (.tmp 4) .skip
 (.z (.b 25 .eql .none (.t 3) y75<|
 .aC 4 25)
 (.cond (.tmp 4) .skip
 (.z (.b 26 .eql .none (.t 3) y80<|
 .aC 4 26)
 (.cond (.tmp 4) .skip
 (.z (.b 27 .eql .none (.t 3) y81<|
 .aC 4 27)
 (.cond (.tmp 4) .skip
 (.z (.b 28 .eql .none (.t 3) y76<|
 .aC 4 28)
 (.cond (.tmp 4) .skip
 (.ops (.b 29 .eql .none (.t 3) y70<|
 .aC 4 29))))))))))))))))))))))))))))))))))))))))))))))))))
 (.keep [(4,.bool)] [] [] b))))
 (.keep [] [] [] a)))
def pH(E:EB)(D:Am)(W:AJ)(b:Bool->H->AH)(a:BS)(U:H):AH:=
 AG (BS.beq a (BS.mk 11 100710650190388740279911748)) (
 b (BS.beq a (BS.mk 11 100710650190388740279911748)) U) (
 AG (BS.beq a (BS.mk 8 6073459554577832005)) (
 b (BS.beq a (BS.mk 8 6073459554577832005)) U) (
 AG (BS.beq a (BS.mk 8 6073459554577829193)) (
 b (BS.beq a (BS.mk 8 6073459554577829193)) U) (
 AG (BS.beq a (BS.mk 9 1241215773001651606849)) (
 b (BS.beq a (BS.mk 9 1241215773001651606849)) U) (
 AG (BS.beq a (BS.mk 4 1397178708)) (
 b (BS.beq a (BS.mk 4 1397178708)) U) (
 AG (BS.beq a (BS.mk 5 336236856642)) (
 b (BS.beq a (BS.mk 5 336236856642)) U) (
 AG (BS.beq a (BS.mk 3 4476485)) (
 b (BS.beq a (BS.mk 3 4476485)) U) (
 AG (BS.beq a (BS.mk 7 22026814072246082)) (
 b (BS.beq a (BS.mk 7 22026814072246082)) U) (
 AG (BS.beq a (BS.mk 7 23157120498421321)) (
 b (BS.beq a (BS.mk 7 23157120498421321)) U) (
 AG (BS.beq a (BS.mk 10 322399817400452109389381)) (
 b (BS.beq a (BS.mk 10 322399817400452109389381)) U) (
 AG (BS.beq a (BS.mk 4 1280070990)) (
 b (BS.beq a (BS.mk 4 1280070990)) U) (
 AG (BS.beq a (BS.mk 5 361940403023)) (
 b (BS.beq a (BS.mk 5 361940403023)) U) (
 AG (BS.beq a (BS.mk 6 78401563153491)) (
 b (BS.beq a (BS.mk 6 78401563153491)) U) (
 AG (BS.beq a (BS.mk 10 488440487847103610377301)) (
 b (BS.beq a (BS.mk 10 488440487847103610377301)) U) (
 AG (BS.beq a (BS.mk 8 4990918871747741011)) (
 b (BS.beq a (BS.mk 8 4990918871747741011)) U) (
 AG (BS.beq a (BS.mk 3 5522771)) (
 b (BS.beq a (BS.mk 3 5522771)) U) (
 AG (BS.beq a (BS.mk 6 76155295057987)) (
 b (BS.beq a (BS.mk 6 76155295057987)) U) (
 AG (BS.beq a (BS.mk 2 17999)) (
 b (BS.beq a (BS.mk 2 17999)) U) (
 AG (BS.beq a (BS.mk 8 5494759122808361039)) (
 b (BS.beq a (BS.mk 8 5494759122808361039)) U) (
 AG (BS.beq a (BS.mk 7 23727827094750532)) (
 b (BS.beq a (BS.mk 7 23727827094750532)) U) (
 AG (BS.beq a (BS.mk 4 1163544915)) (
 b (BS.beq a (BS.mk 4 1163544915)) U) (
 AG (BS.beq a (BS.mk 3 5130573)) (
 b (BS.beq a (BS.mk 3 5130573)) U) (
 AG (BS.beq a (BS.mk 3 5783885)) (
 b (BS.beq a (BS.mk 3 5783885)) U) (
 AG (BS.beq a (BS.mk 4 1163219540)) (
 b (BS.beq a (BS.mk 4 1163219540)) U) (
 b (BS.beq a (BS.mk 5 297750249798)) U))))))))))))))))))))))))
def AMM:XC:=(.z (.aH 2 y1)
 .ret)
def AIk(E:EB)(D:Am)(W:AJ)(U:H):AH:=
 rB false U
def AML:XC:=(.cond (.tmp 4) (.z (.aH 2 y9)
 .ret)
 .skip)
def AIj(E:EB)(D:Am)(W:AJ)(b:H->AH)(a:Bool)(U:H):AH:=
 AG a (
 rB true U) (
 b U)
def AKP(E:EB)(D:Am)(W:AJ)(N:Nat):=AIk E D W
def ra:=AIj E D W (AKP E D W N )
def F76(c:List V)(U:H):AH:=
 NA c λa b=>
 BD b (
 pH E D W (ra E D W N ) a U)
def A76:Dg:=⟨30,[.str],[(.tmp 2)],(AMN AMM AML)⟩
theorem AKz b U:Bt E D W N A76 b U=F76 E D W N b U:=by kernel_rfl
def AA2:List (Nat × DN):=[(0,.any),(3,(.int .u8))]
def lV:List (Nat × DN):=[(0,.any),(138,.bool)]
def lU:List (Nat × DN):=[(0,.any),(185,.bool)]
def CV(E:EB):St->AH:=λs=>Dy E s [(.tmp 2)] λl=>some (Ek l,s.U)
def Ok(c0:XC)(a:St->AH):Nat->St->AH:=CQ 1 (kX [(0,.any)] [] [] a) (CQ 0 (dX E D W N (.keep [] [] [] c0) (CV E) nX (CV E)) nX)
def Ns(c0 b:XC)(a:St->AH):St->AH:=dX E D W N (.keep [(0,.any)] [] [] c0) (kX [(0,.any)] [] [] a) (CQ 4 (kX [(0,.any)] [] [] a) (Ok E D W N b a)) (CV E)
def H9(c0:XC)(a:St->AH):Nat->St->AH:=CQ 4 (kX [(0,.any)] [] [] a) (Ok E D W N c0 a)
def wY(c0 c b:XC)(a:St->AH):Nat->St->AH:=CQ 2 (dX E D W N (.keep [(0,.any)] [] [] c0) (dX E D W N (.keep AA2 [] [] c) (kX [(0,.any)] [] [] a) (Ok E D W N b a) (CV E)) (Ok E D W N b a) (CV E)) (Ok E D W N b a)
def wX(c0 b:XC)(a:St->AH):St->AH:=dX E D W N (.keep AA2 [] [] c0) (kX [(0,.any)] [] [] a) (Ok E D W N b a) (CV E)
def wW(c0:XC):Nat->St->AH:=CQ 0 (dX E D W N (.keep [] [] [] c0) (CV E) nX (CV E)) nX
def tP(b:XC)(a:XC):XC:=(.z (.aH 2 y1)
 (.z (.aD 7 0 0<|
 .u 9 8<|
 .m 10 0<|
 .u 11 10<|
 .p 12 [7,9,11] (.sliceSl 1 (.t 7) none (some (.t 9)) (some (.t 11)))<|
 .aC 0 12)
 (.seq (.block 0 (.loop [(0,.any)] [] [] a))
 (.keep [] [] [] b))))
def Xg(E:EB)(D:Am)(W:AJ)(d:V->H->AH)(a:V)(U:H):AH:=
 BV a λb=>
 BV a λc=>
 gK (Dh 1 a none (some (V.int .i64 (AA b))) (some (V.int .i64 (AA c)))) λb=>
 d b U
def Dn:XC:=(.z (.aH 2 y9)
 .ret)
def AIi(E:EB)(D:Am)(W:AJ)(U:H):AH:=
 rB true U
def T4(b:XC)(c:XC)(a:XC):XC:=(.seq (.z (.m 13 0<|
 .u 14 13<|
 .b 15 .gtr .none (.t 14) (.i 0)<|
 .nil)
 (.cond (.tmp 15) .skip
 QU))
 (.block 1 (.z (.aV 16 0 1 0<|
 .aC 3 18)
 (.seq (.z (.m 19 3<|
 .b 20 .lss .none (.t 19) xd<|
 .nil)
 (.cond (.tmp 20) (.z (.bR 21 0 1 1<|
 .aC 0 22)
 (.seq (.z (.m 23 0<|
 .u 24 23<|
 .bQ 25 24 8<|
 .gA 26 true (.cC 27 0 26 y6 26 90<|
 .bO 29 28 26 28 y21 26 Sp) 31 26 30<|
 .nil)
 (.cond (.tmp 31) (.z (.bR 32 0 1 8<|
 .aC 0 33)
 (.seq (.draw (.m 34 0<|
 .u 35 34<|
 .bQ 36 35 16<|
 .gA 37 true (.cC 38 0 37 y6 37 90<|
 .bW 40 0 37 y6 37 1 8 37 90<|
 .p 43 [39,42,37] (.bin .or .none (.t 39) (.t 42))<|
 .bO 44 43 37 43 y21 37 Sp) 46 37 45<|
 .nil) [0,1,3,7,15,31,15,79,255,511,1023,2047,4095])
 (.cond (.tmp 46) (.z (.bR 47 0 1 16<|
 .aC 0 48)
 (.block 2 (.loop [(0,.any)] [] [] a)))
 .skip)))
 .skip))
 (.keep [(0,.any)] [] [] c)))
 .skip))
 (.keep AA2 [] [] b)))))
def HY(E:EB)(D:Am)(W:AJ)(m:H->AH)(l:V->Int->H->AH)(j:V->H->AH)(k:V->H->AH)(a:V)(U:H):AH:=
 BV a λb=>
 AG (Cw (AA 0) (AA b)) (
 iY E U 1 a (AA 0) λb=>
 BZ .u8 b λb=>
 AG (Cw b (AA 128)) (
 gK (Dh 1 a (some (iN 1)) none none) λc=>
 BV c λd=>
 Ab (λe f=>
 AG e (
 gK (Dh 1 c (some (iN 8)) none none) λe=>
 BV e λg=>
 Ab (λh i=>
 AG h (
 gK (Dh 1 e (some (iN 16)) none none) λh=>
 k h i) (
 j e i)) λh=>
 AG (Cw (AA 16) (AA g)) (
 BT (D 90 [e] f) λg i=>
 BZ .u64 g λg=>
 gK (Dh 1 e (some (iN 8)) none none) λe=>
 BT (D 90 [e] i) λe i=>
 BZ .u64 e λe=>
 h (Cc (IP .u64 (Gt .u64 g e) (AA 9259542123273814144)) (AA 0)) i) (
 h false f)) (
 j c f)) λe=>
 AG (Cw (AA 8) (AA d)) (
 BT (D 90 [c] U) λc d=>
 BZ .u64 c λc=>
 e (Cc (IP .u64 c (AA 9259542123273814144)) (AA 0)) d) (
 e false U)) (
 l a b U)) (
 m U)
def KO(b:XC)(a:XC):XC:=(.z (.m 72 3<|
 .P 73 (.iaddrA 256 1 (.con (V.ptr 0 0)) (.t 72))<|
 .l 74 (.int .u8) 73<|
 .aC 4 74)
 (.z (.m 75 4<|
 .b 76 .and .none (.t 75) (.con (V.int .u8 (AA 7)))<|
 .P 77 (.conv (.toInt .i64) (.t 76))<|
 .aC 5 77)
 (.z (.m 78 4<|
 .b 79 .shr .none (.t 78) (.con (V.int .u64 (AA 4)))<|
 .P 80 (.iaddrA 16 2 (.con (V.ptr 1 0)) (.t 79))<|
 .O 81 y72 (.load (some 2) (.t 80))<|
 .pal 6 [] 133 [Z6,Z6]<|
 .op none y72 [6,81] (.store 2 (.t 6) (.t 81))<|
 .nil)
 (.z (.aC 82 5)
 (.block 4 (.z (.aN 84 82 2 83)
 (.cond (.tmp 83) (.seq (.seq (.draw (.m 85 0<|
 .u 86 85<|
 .bU 87 86 2<|
 .gO 88 false (.aG 89 0 88 y6 88 1 1 88<|
 .aM 92 6 88 0 6 88<|
 .bJ 94 91 93 88 91 93) 95 88 94<|
 .m 96 95<|
 .gO 96 false (.aM 97 6 96 1 6 96<|
 .aG 99 0 96 y6 96 1 1 96<|
 .bJ 102 98 101 96 98 101) 103 96 102<|
 .nil) [0,1,3,7,15,31,63,15,143,511,1023,2047,4095,8191,4095,20479,53247,131071,262143])
 (.cond (.tmp 103) (.z (.aH 2 y1)
 .ret)
 .skip))
 (.ops (.bR 104 0 1 2<|
 .aC 0 105)))
 (.z (.aN 107 82 3 106)
 (.cond (.tmp 106) (.keep [(0,.any)] [6] [(6,[(.int .u8),(.int .u8)])] b)
 (.z (.aN 142 82 4 141)
 (.cond (.tmp 141) (.keep [(0,.any)] [6] [(6,[(.int .u8),(.int .u8)])] a)
 (.z (.aH 2 y1)
 .ret))))))))))))
def Xf(E:EB)(D:Am)(W:AJ)(l:V->Int->Int->H->AH)(k:V->Int->Int->H->AH)(m:V->H->AH)(a:V)(b:Int)(U:H):AH:=
 Wt b λc=>
 JK (Cr c 256) (
 Ee E U 0 (AN 0 (FP c 1)) λc=>
 BZ .u8 c λc=>
 Wt (kz .u8 c 4) λd=>
 JK (Cr d 16) (
 Dt E U 1 (AN 0 (FP d 2)) 2 λd=>
 uAA d λd e=>
 AG (Cc (BH .i64 (IP .u8 c (AA 7))) (AA 2)) (
 BV a λf=>
 Ab (λg h=>
 Ab (λi j=>
 AG i (
 rB false j) (
 gK (Dh 1 a (some (iN 2)) none none) λi=>
 m i j)) λi=>
 AG g (
 i true h) (
 iY E h 1 a (AA 1) λg=>
 BZ .u8 g λg=>
 i (Cw e g) h)) λg=>
 AG (Cw (AA f) (AA 2)) (
 g true U) (
 iY E U 1 a (AA 1) λf=>
 BZ .u8 f λf=>
 g (Cw f d) U)) (
 AG (Cc (BH .i64 (IP .u8 c (AA 7))) (AA 3)) (
 l a d e U) (
 AG (Cc (BH .i64 (IP .u8 c (AA 7))) (AA 4)) (
 k a d e U) (
 rB false U)))))
def L1:XC:=(.exit 1)
def yt(E:EB)(D:Am)(W:AJ)(b:V->H->AH)(a:V)(U:H):AH:=
 b a U
def OD:XC:=(.seq (.seq (.draw (.m 49 0<|
 .u 50 49<|
 .bQ 51 50 32<|
 .gA 52 true (.cC 53 0 52 y6 52 90<|
 .bW 55 0 52 y6 52 1 8 52 90<|
 .p 58 [54,57,52] (.bin .or .none (.t 54) (.t 57))<|
 .bW 59 0 52 y6 52 1 16 52 90<|
 .bW 62 0 52 y6 52 1 24 52 90<|
 .p 65 [61,64,52] (.bin .or .none (.t 61) (.t 64))<|
 .p 66 [58,65,52] (.bin .or .none (.t 58) (.t 65))<|
 .bO 67 66 52 66 y21 52 Sp) 69 52 68<|
 .nil) [0,1,3,7,15,31,15,79,255,511,15,1039,3583,15,8207,32255,65023,131071,262143,524287,1048575])
 (.cond (.tmp 69) .skip
 (.exit 2)))
 (.block 3 (.ops (.bR 70 0 1 32<|
 .aC 0 71))))
def Ny(E:EB)(D:Am)(W:AJ)(h:V->H->AH)(i:V->H->AH)(a:V)(U:H):AH:=
 BV a λb=>
 Ab (λc d=>
 AG c (
 gK (Dh 1 a (some (iN 32)) none none) λc=>
 i c d) (
 h a d)) λc=>
 AG (Cw (AA 32) (AA b)) (
 BT (D 90 [a] U) λb d=>
 BZ .u64 b λb=>
 gK (Dh 1 a (some (iN 8)) none none) λe=>
 BT (D 90 [e] d) λd e=>
 BZ .u64 d λd=>
 gK (Dh 1 a (some (iN 16)) none none) λf=>
 BT (D 90 [f] e) λe f=>
 BZ .u64 e λe=>
 gK (Dh 1 a (some (iN 24)) none none) λg=>
 BT (D 90 [g] f) λf g=>
 BZ .u64 f λf=>
 c (Cc (IP .u64 (Gt .u64 (Gt .u64 b d) (Gt .u64 e f)) (AA 9259542123273814144)) (AA 0)) g) (
 c false U)
def JE(b:XC)(a:XC)(c:XL):XC:=(.seq (.seq (.draw (.m 108 0<|
 .u 109 108<|
 .bU 110 109 3<|
 .gO 111 false (.aG 112 0 111 y6 111 1 1 111<|
 .aM 115 6 111 0 6 111<|
 .bJ 117 114 116 111 114 116) 118 111 117<|
 .m 119 118<|
 .gO 119 false (.aM 120 6 119 1 6 119<|
 .aG 122 0 119 y6 119 1 1 119<|
 .bJ 125 121 124 119 121 124) 126 119 125<|
 .m 127 126<|
 .gO 127 false (.aG 128 0 127 y6 127 1 2 127<|
 .p 131 [130,127] (.bin .lss .none (.t 130) xd)<|
 .nil) 132 127 131<|
 c) [0,1,3,7,15,31,63,15,143,511,1023,2047,4095,8191,4095,20479,53247,131071,262143,524287,1048575,2097151,4194303,8388607,16777215,33554431,67108863,134217727,268435455,536870911,1073741823])
 (.keep lV [] [] a))
 (.keep [(0,.any)] [] [] b))
def df(E:EB)(D:Am)(W:AJ)(k:Bool->Bool->Bool->Bool->Bool->Bool->Bool->Int->V->V->Int->Int->H->AH)(a:V)(b c:Int)(U:H):AH:=
 BV a λd=>
 Ab (λe f=>
 Ab (λg h=>
 Ab (λi j=>
 k i g g e e (Cw (AA d) (AA 3)) (Cw (AA d) (AA 3)) (AA d) a a b c j) λi=>
 AG g (
 i true h) (
 iY E h 1 a (AA 2) λg=>
 BZ .u8 g λg=>
 i (Cw g (AA 128)) h)) λg=>
 AG e (
 g true f) (
 iY E f 1 a (AA 1) λe=>
 BZ .u8 e λe=>
 g (Cw c e) f)) λe=>
 AG (Cw (AA d) (AA 3)) (
 e true U) (
 iY E U 1 a (AA 1) λd=>
 BZ .u8 d λd=>
 e (Cw d b) U)
def GU:XC:=(.ops (.bR 139 0 1 3<|
 .aC 0 140))
def de(E:EB)(D:Am)(W:AJ)(c:V->H->AH)(a:V)(U:H):AH:=
 gK (Dh 1 a (some (iN 3)) none none) λb=>
 c b U
def HI:XC:=(.cond (.tmp 138) (.z (.aH 2 y1)
 .ret)
 .skip)
def dc(E:EB)(D:Am)(W:AJ)(c:V->H->AH)(a:V)(b:Bool)(U:H):AH:=
 AG b (
 rB false U) (
 c a U)
def IF:XL := .m 133 132<|
 .gO 133 false (.aG 134 0 133 y6 133 1 2 133<|
 .p 137 [136,133] (.bin .lss .none y41 (.t 136))<|
 .nil) 138 133 137<|
 .nil
def dZ(E:EB)(D:Am)(W:AJ)(f:V->Bool->H->AH)(g m j o i h n:Bool)(k:Int)(l e:V)(a b:Int)(U:H):AH:=
 Ab (λc d=>
 f e c d) λc=>
 AG g (
 c true U) (
 iY E U 1 e (AA 2) λd=>
 BZ .u8 d λd=>
 c (Cw (AA 191) d) U)
def Gg(c:XC)(a:XC)(b:XL):XC:=(.seq (.seq (.draw (.m 143 0<|
 .u 144 143<|
 .bU 145 144 4<|
 .gO 146 false (.aG 147 0 146 y6 146 1 1 146<|
 .aM 150 6 146 0 6 146<|
 .bJ 152 149 151 146 149 151) 153 146 152<|
 .m 154 153<|
 .gO 154 false (.aM 155 6 154 1 6 154<|
 .aG 157 0 154 y6 154 1 1 154<|
 .bJ 160 156 159 154 156 159) 161 154 160<|
 .m 162 161<|
 .gO 162 false (.aG 163 0 162 y6 162 1 2 162<|
 .p 166 [165,162] (.bin .lss .none (.t 165) xd)<|
 .nil) 167 162 166<|
 b) [0,1,3,7,15,31,63,15,143,511,1023,2047,4095,8191,4095,20479,53247,131071,262143,524287,1048575,2097151,4194303,8388607,16777215,33554431,67108863,134217727,268435455,536870911,1073741823,2147483647,4294967295,8589934591,17179869183,34359738367,68719476735,137438953471,274877906943,549755813887,1099511627775,2199023255551,4398046511103])
 (.keep lU [] [] a))
 (.keep [(0,.any)] [] [] c))
def Vg(E:EB)(D:Am)(W:AJ)(k:Bool->Bool->Bool->Bool->Bool->Bool->Bool->Int->V->V->Int->Int->H->AH)(a:V)(b c:Int)(U:H):AH:=
 BV a λd=>
 Ab (λe f=>
 Ab (λg h=>
 Ab (λi j=>
 k i g g e e (Cw (AA d) (AA 4)) (Cw (AA d) (AA 4)) (AA d) a a b c j) λi=>
 AG g (
 i true h) (
 iY E h 1 a (AA 2) λg=>
 BZ .u8 g λg=>
 i (Cw g (AA 128)) h)) λg=>
 AG e (
 g true f) (
 iY E f 1 a (AA 1) λe=>
 BZ .u8 e λe=>
 g (Cw c e) f)) λe=>
 AG (Cw (AA d) (AA 4)) (
 e true U) (
 iY E U 1 a (AA 1) λd=>
 BZ .u8 d λd=>
 e (Cw d b) U)
def Eo:XC:=(.ops (.bR 186 0 1 4<|
 .aC 0 187))
def Vf(E:EB)(D:Am)(W:AJ)(c:V->H->AH)(a:V)(U:H):AH:=
 gK (Dh 1 a (some (iN 4)) none none) λb=>
 c b U
def FN:XC:=(.cond (.tmp 185) (.z (.aH 2 y1)
 .ret)
 .skip)
def Ve(E:EB)(D:Am)(W:AJ)(c:V->H->AH)(a:V)(b:Bool)(U:H):AH:=
 AG b (
 rB false U) (
 c a U)
def Fv:XL := .m 168 167<|
 .gO 168 false (.aG 169 0 168 y6 168 1 2 168<|
 .p 172 [171,168] (.bin .lss .none y41 (.t 171))<|
 .nil) 173 168 172<|
 .m 174 173<|
 .gO 174 false (.aG 175 0 174 y6 174 1 3 174<|
 .p 178 [177,174] (.bin .lss .none (.t 177) xd)<|
 .nil) 179 174 178<|
 .m 180 179<|
 .gO 180 false (.aG 181 0 180 y6 180 1 3 180<|
 .p 184 [183,180] (.bin .lss .none y41 (.t 183))<|
 .nil) 185 180 184<|
 .nil
def Vd(E:EB)(D:Am)(W:AJ)(j:V->Bool->H->AH)(k q n s m l r:Bool)(o:Int)(p i:V)(a b:Int)(U:H):AH:=
 Ab (λc d=>
 Ab (λe f=>
 Ab (λg h=>
 j i g h) λg=>
 AG e (
 g true f) (
 iY E f 1 i (AA 3) λe=>
 BZ .u8 e λe=>
 g (Cw (AA 191) e) f)) λe=>
 AG c (
 e true d) (
 iY E d 1 i (AA 3) λc=>
 BZ .u8 c λc=>
 e (Cw c (AA 128)) d)) λc=>
 AG k (
 c true U) (
 iY E U 1 i (AA 2) λd=>
 BZ .u8 d λd=>
 c (Cw (AA 191) d) U)
def Dr(a:V)(U:H):St:=⟨[(0,a)],[],[],U⟩
def yx(U:H):St:=⟨[],[],[],U⟩
def qi(a:V)(b:Int)(U:H):St:=⟨[(0,a),(3,.int .u8 b)],[],[],U⟩
def Td(a:V)(b c:Int)(U:H):St:=⟨[(0,a)],[(6,(6,0))],[(6,[.int .u8 b,.int .u8 c])],U⟩
def qh(a:V)(b:Bool)(U:H):St:=⟨[(0,a),(138,.bool b)],[],[],U⟩
def Zi(a:V)(b:Bool)(U:H):St:=⟨[(0,a),(185,.bool b)],[],[],U⟩
theorem AJx d c a U:
 A0 E D W N (tP d c) (Dr a U) (CV E) nX (CV E) =
 Xg E D W (λa U=>Bw (λe f=>A0 E D W N c f (kX [(0,.any)] [] [] e) (wW E D W N d) (CV E)) N (Dr a U)) a U:=by kernel_rfl
theorem AJw c d f g li2 a U:
 A0 E D W N (T4 d f g) (Dr a U) (kX [(0,.any)] [] [] li2) (wW E D W N c) (CV E) =
 HY E D W (fun  U=>A0 E D W N c (yx U) (CV E) nX (CV E)) (λa b U=>A0 E D W N d (qi a b U) (kX [(0,.any)] [] [] li2) (Ok E D W N c li2) (CV E)) (λa U=>A0 E D W N f (Dr a U) (wX E D W N d c li2) (Ok E D W N c li2) (CV E)) (λa U=>Bw (λh i=>A0 E D W N g i (kX [(0,.any)] [] [] h) (wY E D W N f d c li2) (CV E)) N (Dr a U)) a U:=by kernel_rfl
theorem AJv g h e li2 a b U:
 A0 E D W N (KO h e) (qi a b U) (kX [(0,.any)] [] [] li2) (Ok E D W N g li2) (CV E) =
 Xf E D W (λa c d U=>A0 E D W N h (Td a c d U) (kX [(0,.any)] [] [] li2) (H9 E D W N g li2) (CV E)) (λa c d U=>A0 E D W N e (Td a c d U) (kX [(0,.any)] [] [] li2) (H9 E D W N g li2) (CV E)) (λa U=>li2 (Dr a U)) a b U:=by kernel_rfl
theorem AJu c d li2 a U:
 A0 E D W N (L1 ) (Dr a U) (wX E D W N d c li2) (Ok E D W N c li2) (CV E) =
 yt E D W (λa U=>li2 (Dr a U)) a U:=by kernel_rfl
theorem AJt c e d li2 f a U:
 A0 E D W N (OD ) (Dr a U) (kX [(0,.any)] [] [] f) (wY E D W N d e c li2) (CV E) =
 Ny E D W (λa U=>A0 E D W N d (Dr a U) (wX E D W N e c li2) (Ok E D W N c li2) (CV E)) (λa U=>f (Dr a U)) a U:=by kernel_rfl
theorem AJs g l k i li2 c d f U (s:Hg [(6,(6,0))] (XL.pals (.m 108 0<|
 .u 109 108<|
 .b 110 .lss .none (.t 109) (.i 3)<|
 .m 111 110<|
 .gO 111 false (.p 112 [0,111] (.mov (.t 0))<|
 .p 113 [112,111] (.iaddrS 1 (.t 112) (.i 1))<|
 .op (some 114) (.int .u8) [113,111] (.load none (.t 113))<|
 .p 115 [6,111] (.faddr 0 (.t 6))<|
 .op (some 116) (.int .u8) [115,111] (.load none (.t 115))<|
 .p 117 [114,116,111] (.bin .lss .none (.t 114) (.t 116))<|
 .nil) 118 111 117<|
 .m 119 118<|
 .gO 119 false (.p 120 [6,119] (.faddr 1 (.t 6))<|
 .op (some 121) (.int .u8) [120,119] (.load none (.t 120))<|
 .p 122 [0,119] (.mov (.t 0))<|
 .p 123 [122,119] (.iaddrS 1 (.t 122) (.i 1))<|
 .op (some 124) (.int .u8) [123,119] (.load none (.t 123))<|
 .p 125 [121,124,119] (.bin .lss .none (.t 121) (.t 124))<|
 .nil) 126 119 125<|
 .m 127 126<|
 .gO 127 false (.p 128 [0,127] (.mov (.t 0))<|
 .p 129 [128,127] (.iaddrS 1 (.t 128) (.i 2))<|
 .op (some 130) (.int .u8) [129,127] (.load none (.t 129))<|
 .p 131 [130,127] (.bin .lss .none (.t 130) (.con (V.int .u8 (AA 128))))<|
 .nil) 132 127 131<|
 i))=true) :
 A0 E D W N (JE l k i) (Td c d f U) (kX [(0,.any)] [] [] li2) (H9 E D W N g li2) (CV E) =
 df E D W (λz t A w x v C y B u d f U=>Fg E D true true 0 i 25 [(132,(V.bool z)),(127,(V.bool t)),(126,(V.bool A)),(119,(V.bool w)),(118,(V.bool x)),(111,(V.bool v)),(110,(V.bool C)),(109,(V.int .i64 y)),(108,B),(0,u)] [(6,(6,0))] [(6,[(V.int .u8 d),(V.int .u8 f)])] U (λe q r U=>(dX E D W N (.keep lV [] [] k) (Ns E D W N l g li2) (H9 E D W N g li2) (CV E)) ⟨e,q,r,U⟩)) c d f U:=by
 refine j1 (b:=Fg E D true true 0 (.m 108 0<|
 .u 109 108<|
 .b 110 .lss .none (.t 109) (.i 3)<|
 .m 111 110<|
 .gO 111 false (.p 112 [0,111] (.mov (.t 0))<|
 .p 113 [112,111] (.iaddrS 1 (.t 112) (.i 1))<|
 .op (some 114) (.int .u8) [113,111] (.load none (.t 113))<|
 .p 115 [6,111] (.faddr 0 (.t 6))<|
 .op (some 116) (.int .u8) [115,111] (.load none (.t 115))<|
 .p 117 [114,116,111] (.bin .lss .none (.t 114) (.t 116))<|
 .nil) 118 111 117<|
 .m 119 118<|
 .gO 119 false (.p 120 [6,119] (.faddr 1 (.t 6))<|
 .op (some 121) (.int .u8) [120,119] (.load none (.t 120))<|
 .p 122 [0,119] (.mov (.t 0))<|
 .p 123 [122,119] (.iaddrS 1 (.t 122) (.i 1))<|
 .op (some 124) (.int .u8) [123,119] (.load none (.t 123))<|
 .p 125 [121,124,119] (.bin .lss .none (.t 121) (.t 124))<|
 .nil) 126 119 125<|
 .m 127 126<|
 .gO 127 false (.p 128 [0,127] (.mov (.t 0))<|
 .p 129 [128,127] (.iaddrS 1 (.t 128) (.i 2))<|
 .op (some 130) (.int .u8) [129,127] (.load none (.t 129))<|
 .p 131 [130,127] (.bin .lss .none (.t 130) (.con (V.int .u8 (AA 128))))<|
 .nil) 132 127 131<|
 i) 0 [(0,c)] [(6,(6,0))] [(6,[(V.int .u8 d),(V.int .u8 f)])] U (λe q r U=>(dX E D W N (.keep lV [] [] k) (Ns E D W N l g li2) (H9 E D W N g li2) (CV E)) ⟨e,q,r,U⟩)) ?_ (by kernel_rfl)
 have F:∀q o a,Hg q o=true->Lk q o a=a:=λq o a h=>by unfold Lk;rw[h]
 exact F _ _ _ s
theorem AJr c li2 a U:
 A0 E D W N (GU ) (Dr a U) (kX [(0,.any)] [] [] li2) (H9 E D W N c li2) (CV E) =
 de E D W (λa U=>li2 (Dr a U)) a U:=by kernel_rfl
theorem AJq d e li2 a b U:
 A0 E D W N (HI ) (qh a b U) (Ns E D W N e d li2) (H9 E D W N d li2) (CV E) =
 dc E D W (λa U=>A0 E D W N e (Dr a U) (kX [(0,.any)] [] [] li2) (H9 E D W N d li2) (CV E)) a b U:=by kernel_rfl
theorem AJp f i h li2 k s l o m j u n p t a b U:
 Fg E D true true 0 (IF ) 25 [(132,(V.bool k)),(127,(V.bool s)),(126,(V.bool l)),(119,(V.bool o)),(118,(V.bool m)),(111,(V.bool j)),(110,(V.bool u)),(109,(V.int .i64 n)),(108,p),(0,t)] [(6,(6,0))] [(6,[(V.int .u8 a),(V.int .u8 b)])] U (λe q r U=>(dX E D W N (.keep lV [] [] h) (Ns E D W N i f li2) (H9 E D W N f li2) (CV E)) ⟨e,q,r,U⟩) =
 dZ E D W (λc d U=>A0 E D W N h (qh c d U) (Ns E D W N i f li2) (H9 E D W N f li2) (CV E)) k s l o m j u n p t a b U:=by kernel_rfl
theorem ACA k i j g li2 c d f U (s:Hg [(6,(6,0))] (XL.pals (.m 143 0<|
 .u 144 143<|
 .b 145 .lss .none (.t 144) (.i 4)<|
 .m 146 145<|
 .gO 146 false (.p 147 [0,146] (.mov (.t 0))<|
 .p 148 [147,146] (.iaddrS 1 (.t 147) (.i 1))<|
 .op (some 149) (.int .u8) [148,146] (.load none (.t 148))<|
 .p 150 [6,146] (.faddr 0 (.t 6))<|
 .op (some 151) (.int .u8) [150,146] (.load none (.t 150))<|
 .p 152 [149,151,146] (.bin .lss .none (.t 149) (.t 151))<|
 .nil) 153 146 152<|
 .m 154 153<|
 .gO 154 false (.p 155 [6,154] (.faddr 1 (.t 6))<|
 .op (some 156) (.int .u8) [155,154] (.load none (.t 155))<|
 .p 157 [0,154] (.mov (.t 0))<|
 .p 158 [157,154] (.iaddrS 1 (.t 157) (.i 1))<|
 .op (some 159) (.int .u8) [158,154] (.load none (.t 158))<|
 .p 160 [156,159,154] (.bin .lss .none (.t 156) (.t 159))<|
 .nil) 161 154 160<|
 .m 162 161<|
 .gO 162 false (.p 163 [0,162] (.mov (.t 0))<|
 .p 164 [163,162] (.iaddrS 1 (.t 163) (.i 2))<|
 .op (some 165) (.int .u8) [164,162] (.load none (.t 164))<|
 .p 166 [165,162] (.bin .lss .none (.t 165) (.con (V.int .u8 (AA 128))))<|
 .nil) 167 162 166<|
 g))=true) :
 A0 E D W N (Gg i j g) (Td c d f U) (kX [(0,.any)] [] [] li2) (H9 E D W N k li2) (CV E) =
 Vg E D W (λy C z v u t x A B F d f U=>Fg E D true true 0 g 25 [(167,(V.bool y)),(162,(V.bool C)),(161,(V.bool z)),(154,(V.bool v)),(153,(V.bool u)),(146,(V.bool t)),(145,(V.bool x)),(144,(V.int .i64 A)),(143,B),(0,F)] [(6,(6,0))] [(6,[(V.int .u8 d),(V.int .u8 f)])] U (λe q r U=>(dX E D W N (.keep lU [] [] j) (Ns E D W N i k li2) (H9 E D W N k li2) (CV E)) ⟨e,q,r,U⟩)) c d f U:=by
 refine j1 (b:=Fg E D true true 0 (.m 143 0<|
 .u 144 143<|
 .b 145 .lss .none (.t 144) (.i 4)<|
 .m 146 145<|
 .gO 146 false (.p 147 [0,146] (.mov (.t 0))<|
 .p 148 [147,146] (.iaddrS 1 (.t 147) (.i 1))<|
 .op (some 149) (.int .u8) [148,146] (.load none (.t 148))<|
 .p 150 [6,146] (.faddr 0 (.t 6))<|
 .op (some 151) (.int .u8) [150,146] (.load none (.t 150))<|
 .p 152 [149,151,146] (.bin .lss .none (.t 149) (.t 151))<|
 .nil) 153 146 152<|
 .m 154 153<|
 .gO 154 false (.p 155 [6,154] (.faddr 1 (.t 6))<|
 .op (some 156) (.int .u8) [155,154] (.load none (.t 155))<|
 .p 157 [0,154] (.mov (.t 0))<|
 .p 158 [157,154] (.iaddrS 1 (.t 157) (.i 1))<|
 .op (some 159) (.int .u8) [158,154] (.load none (.t 158))<|
 .p 160 [156,159,154] (.bin .lss .none (.t 156) (.t 159))<|
 .nil) 161 154 160<|
 .m 162 161<|
 .gO 162 false (.p 163 [0,162] (.mov (.t 0))<|
 .p 164 [163,162] (.iaddrS 1 (.t 163) (.i 2))<|
 .op (some 165) (.int .u8) [164,162] (.load none (.t 164))<|
 .p 166 [165,162] (.bin .lss .none (.t 165) (.con (V.int .u8 (AA 128))))<|
 .nil) 167 162 166<|
 g) 0 [(0,c)] [(6,(6,0))] [(6,[(V.int .u8 d),(V.int .u8 f)])] U (λe q r U=>(dX E D W N (.keep lU [] [] j) (Ns E D W N i k li2) (H9 E D W N k li2) (CV E)) ⟨e,q,r,U⟩)) ?_ (by kernel_rfl)
 have w:∀q o a,Hg q o=true->Lk q o a=a:=λq o a h=>by unfold Lk;rw[h]
 exact w _ _ _ s
theorem AB9 c li2 a U:
 A0 E D W N (Eo ) (Dr a U) (kX [(0,.any)] [] [] li2) (H9 E D W N c li2) (CV E) =
 Vf E D W (λa U=>li2 (Dr a U)) a U:=by kernel_rfl
theorem AB8 e d li2 a b U:
 A0 E D W N (FN ) (Zi a b U) (Ns E D W N d e li2) (H9 E D W N e li2) (CV E) =
 Ve E D W (λa U=>A0 E D W N d (Dr a U) (kX [(0,.any)] [] [] li2) (H9 E D W N e li2) (CV E)) a b U:=by kernel_rfl
theorem AB7 f h g li2 k p l s u j n m o t a b U:
 Fg E D true true 0 (Fv ) 25 [(167,(V.bool k)),(162,(V.bool p)),(161,(V.bool l)),(154,(V.bool s)),(153,(V.bool u)),(146,(V.bool j)),(145,(V.bool n)),(144,(V.int .i64 m)),(143,o),(0,t)] [(6,(6,0))] [(6,[(V.int .u8 a),(V.int .u8 b)])] U (λe q r U=>(dX E D W N (.keep lU [] [] g) (Ns E D W N h f li2) (H9 E D W N f li2) (CV E)) ⟨e,q,r,U⟩) =
 Vd E D W (λc d U=>A0 E D W N g (Zi c d U) (Ns E D W N h f li2) (H9 E D W N f li2) (CV E)) k p l s u j n m o t a b U:=by kernel_rfl
def fU(E:EB)(D:Am)(W:AJ)(N:Nat):=AIi E D W
theorem AC9 U:
 A0 E D W N Dn (yx U) (CV E) nX (CV E)=fU E D W N  U:=by kernel_rfl
def zG(E:EB)(D:Am)(W:AJ)(N:Nat)(a:V->H->AH):=de E D W a
theorem AC6 li2 a U:
 A0 E D W N GU (Dr a U) (kX [(0,.any)] [] [] li2) (H9 E D W N Dn li2) (CV E)=zG E D W N (λa U=>li2 (Dr a U)) a U:=by
 refine(AJr E D W N Dn li2 a U).trans ?_;kernel_rfl
def zF(a:V->H->AH):=dc E D W (zG E D W N a)
theorem AC5 li2 a b U:
 A0 E D W N HI (qh a b U) (Ns E D W N GU Dn li2) (H9 E D W N Dn li2) (CV E)=zF E D W N (λa U=>li2 (Dr a U)) a b U:=by
 refine(AJq E D W N Dn GU li2 a b U).trans ?_;simp only[AC6];kernel_rfl
def zE(a:V->H->AH):=dZ E D W (zF E D W N a)
theorem AC4 li2 j n k h i g o m l p a b U:
 Fg E D true true 0 IF 25 [(132,(V.bool j)),(127,(V.bool n)),(126,(V.bool k)),(119,(V.bool h)),(118,(V.bool i)),(111,(V.bool g)),(110,(V.bool o)),(109,(V.int .i64 m)),(108,l),(0,p)] [(6,(6,0))] [(6,[(V.int .u8 a),(V.int .u8 b)])] U (λe q r U=>(dX E D W N (.keep lV [] [] HI) (Ns E D W N GU Dn li2) (H9 E D W N Dn li2) (CV E)) ⟨e,q,r,U⟩)=zE E D W N (λc U=>li2 (Dr c U)) j n k h i g o m l p a b U:=by
 refine(AJp E D W N Dn GU HI li2 j n k h i g o m l p a b U).trans ?_;simp only[AC5];kernel_rfl
def fS(a:V->H->AH):=df E D W (zE E D W N a)
theorem AC7 li2 a b c U:
 A0 E D W N (JE GU HI IF) (Td a b c U) (kX [(0,.any)] [] [] li2) (H9 E D W N Dn li2) (CV E)=fS E D W N (λa U=>li2 (Dr a U)) a b c U:=by
 refine(AJs E D W N Dn GU HI IF li2 a b c U (by kernel_rfl)).trans ?_;simp only[AC4];kernel_rfl
def rY(E:EB)(D:Am)(W:AJ)(N:Nat)(a:V->H->AH):=Vf E D W a
theorem xB li2 a U:
 A0 E D W N Eo (Dr a U) (kX [(0,.any)] [] [] li2) (H9 E D W N Dn li2) (CV E)=rY E D W N (λa U=>li2 (Dr a U)) a U:=by
 refine(AB9 E D W N Dn li2 a U).trans ?_;kernel_rfl
def rX(a:V->H->AH):=Ve E D W (rY E D W N a)
theorem xA li2 a b U:
 A0 E D W N FN (Zi a b U) (Ns E D W N Eo Dn li2) (H9 E D W N Dn li2) (CV E)=rX E D W N (λa U=>li2 (Dr a U)) a b U:=by
 refine(AB8 E D W N Dn Eo li2 a b U).trans ?_;simp only[xB];kernel_rfl
def rW(a:V->H->AH):=Vd E D W (rX E D W N a)
theorem w9 li2 j n k h i g o m l p a b U:
 Fg E D true true 0 Fv 25 [(167,(V.bool j)),(162,(V.bool n)),(161,(V.bool k)),(154,(V.bool h)),(153,(V.bool i)),(146,(V.bool g)),(145,(V.bool o)),(144,(V.int .i64 m)),(143,l),(0,p)] [(6,(6,0))] [(6,[(V.int .u8 a),(V.int .u8 b)])] U (λe q r U=>(dX E D W N (.keep lU [] [] FN) (Ns E D W N Eo Dn li2) (H9 E D W N Dn li2) (CV E)) ⟨e,q,r,U⟩)=rW E D W N (λc U=>li2 (Dr c U)) j n k h i g o m l p a b U:=by
 refine(AB7 E D W N Dn Eo FN li2 j n k h i g o m l p a b U).trans ?_;simp only[xA];kernel_rfl
def WD(a:V->H->AH):=Vg E D W (rW E D W N a)
theorem xC li2 a b c U:
 A0 E D W N (Gg Eo FN Fv) (Td a b c U) (kX [(0,.any)] [] [] li2) (H9 E D W N Dn li2) (CV E)=WD E D W N (λa U=>li2 (Dr a U)) a b c U:=by
 refine(ACA E D W N Dn Eo FN Fv li2 a b c U (by kernel_rfl)).trans ?_;simp only[w9];kernel_rfl
def fT(a:V->H->AH):=Xf E D W (fS E D W N a) (WD E D W N a) a
theorem AC8 li2 a b U:
 A0 E D W N (KO (JE GU HI IF) (Gg Eo FN Fv)) (qi a b U) (kX [(0,.any)] [] [] li2) (Ok E D W N Dn li2) (CV E)=fT E D W N (λa U=>li2 (Dr a U)) a b U:=by
 refine(AJv E D W N Dn (JE GU HI IF) (Gg Eo FN Fv) li2 a b U).trans ?_;simp only[AC7,xC];kernel_rfl
def YL(E:EB)(D:Am)(W:AJ)(N:Nat)(a:V->H->AH):=yt E D W a
theorem qy li2 a U:
 A0 E D W N L1 (Dr a U) (wX E D W N (KO (JE GU HI IF) (Gg Eo FN Fv)) Dn li2) (Ok E D W N Dn li2) (CV E)=YL E D W N (λa U=>li2 (Dr a U)) a U:=by
 refine(AJu E D W N Dn (KO (JE GU HI IF) (Gg Eo FN Fv)) li2 a U).trans ?_;kernel_rfl
def X5(b:V->H->AH)(n:Nat):V->H->AH:=
 Nat.rec (λ_ _=>none) (λ_ a=>Ny E D W (YL E D W N b) a) n
theorem ACK li2 n:∀a U,
 Bw (λd h=>A0 E D W N OD h (kX [(0,.any)] [] [] d) (wY E D W N L1 (KO (JE GU HI IF) (Gg Eo FN Fv)) Dn li2) (CV E)) n (Dr a U)=X5 E D W N (λa U=>li2 (Dr a U)) n a U:=by
 induction n with
 | zero=>intro a U;rfl | succ n g=>
  intro a U;rw[Kc];refine(AJt E D W N Dn (KO (JE GU HI IF) (Gg Eo FN Fv)) L1 li2 (Bw (λd h=>A0 E D W N OD h (kX [(0,.any)] [] [] d) (wY E D W N L1 (KO (JE GU HI IF) (Gg Eo FN Fv)) Dn li2) (CV E)) n) a U).trans ?_;simp only[g,qy];kernel_rfl
def Mi(n:Nat):V->H->AH:=
 Nat.rec (λ_ _=>none) (λ_ a=>HY E D W (fU E D W N ) (fT E D W N a) (YL E D W N a) (X5 E D W N a N)) n
theorem ACL n:∀a U,
 Bw (λd h=>A0 E D W N (T4 (KO (JE GU HI IF) (Gg Eo FN Fv)) L1 OD) h (kX [(0,.any)] [] [] d) (wW E D W N Dn) (CV E)) n (Dr a U)=Mi E D W N n a U:=by
 induction n with
 | zero=>intro a U;rfl | succ n g=>
  intro a U;rw[Kc];refine(AJw E D W N Dn (KO (JE GU HI IF) (Gg Eo FN Fv)) L1 OD (Bw (λd h=>A0 E D W N (T4 (KO (JE GU HI IF) (Gg Eo FN Fv)) L1 OD) h (kX [(0,.any)] [] [] d) (wW E D W N Dn) (CV E)) n) a U).trans ?_;simp only[g,AC9,AC8,qy,ACK];kernel_rfl
def zH:=Xg E D W (Mi E D W N N)
theorem ADA a U:
 A0 E D W N (tP Dn (T4 (KO (JE GU HI IF) (Gg Eo FN Fv)) L1 OD)) (Dr a U) (CV E) nX (CV E)=zH E D W N a U:=by
 refine(AJx E D W N Dn (T4 (KO (JE GU HI IF) (Gg Eo FN Fv)) L1 OD)  a U).trans ?_;simp only[ACL];kernel_rfl
def F78(c:List V)(U:H):AH:=
 Aj c λa b=>
 BD b (
 zH E D W N a U)
def A78:Dg:=⟨188,[.any],[(.tmp 2)],(tP Dn (T4 (KO (JE GU HI IF) (Gg Eo FN Fv)) L1 OD))⟩
theorem AKy b U:Bt E D W N A78 b U=F78 E D W N b U:=by
 unfold F78;simp only[<-ADA];kernel_rfl
def AMK(b:XC)(a:XC):XC:=(.z (.P 1 (.box 38 (.t 0))<|
 .aH 2 y1)
 (.seq (.z (.aO 3 0 1 .i<|
 .nil)
 (.block 0 (.z (.aN 6 4 1 5)
 (.cond (.tmp 5) (.z (.aH 2 y9)
 .ret)
 (.z (.aN 8 4 6 7)
 (.cond (.tmp 7) (.z (.aO 9 1 1 .str<|
 .aR 11 10 y60 2)
 .ret)
 (.z (.aN 13 4 5 12)
 (.cond (.tmp 12) (.z (.aO 14 1 1 .str<|
 .nil)
 (.block 1 (.seq (.z (.aR 17 15 y33 16)
 (.cond (.tmp 16) .skip
 (.z (.aR 18 15 xY 16)
 (.cond (.tmp 16) .skip
 (.z (.aR 19 15 xZ 16)
 (.cond (.tmp 16) .skip
 (.z (.aR 20 15 y34 16)
 (.cond (.tmp 16) .skip
 (.z (.aR 21 15 y47 16)
 (.cond (.tmp 16) .skip
 (.z (.aR 22 15 y25 16)
 (.cond (.tmp 16) .skip
 (.z (.aR 23 15 y31 16)
 (.cond (.tmp 16) .skip
 (.z (.aR 24 15 y52 16)
 (.cond (.tmp 16) .skip
 (.ops (.aR 25 15 y40 16))))))))))))))))))
 (.keep [(16,.bool)] [] [] a))))
 .skip))))))))
 (.keep [] [] [] b)))
def pG(E:EB)(D:Am)(W:AJ)(h:H->AH)(g:Bool->H->AH)(a:Int)(b:BS)(c:Int)(U:H):AH:=
 OU (eG a b c) U λd=>
 lI E d (H.next U) 0 λe=>
 AG (Cc e (AA 1)) (
 rB true d) (
 AG (Cc e (AA 6)) (
 lS E d (H.next U) 1 λf=>
 rB (BS.beq f (BS.mk 1 91)) d) (
 AG (Cc e (AA 5)) (
 lS E d (H.next U) 1 λe=>
 AG (BS.beq e (BS.mk 7 22026814072246082)) (
 g (BS.beq e (BS.mk 7 22026814072246082)) d) (
 AG (BS.beq e (BS.mk 4 1280070990)) (
 g (BS.beq e (BS.mk 4 1280070990)) d) (
 AG (BS.beq e (BS.mk 10 488440487847103610377301)) (
 g (BS.beq e (BS.mk 10 488440487847103610377301)) d) (
 AG (BS.beq e (BS.mk 7 23157120498421321)) (
 g (BS.beq e (BS.mk 7 23157120498421321)) d) (
 AG (BS.beq e (BS.mk 5 361940403023)) (
 g (BS.beq e (BS.mk 5 361940403023)) d) (
 AG (BS.beq e (BS.mk 10 322399817400452109389381)) (
 g (BS.beq e (BS.mk 10 322399817400452109389381)) d) (
 AG (BS.beq e (BS.mk 8 4990918871747741011)) (
 g (BS.beq e (BS.mk 8 4990918871747741011)) d) (
 AG (BS.beq e (BS.mk 3 5522771)) (
 g (BS.beq e (BS.mk 3 5522771)) d) (
 g (BS.beq e (BS.mk 6 76155295057987)) d))))))))) (
 h d)))
def AMJ:XC:=(.z (.aH 2 y1)
 .ret)
def pF(E:EB)(D:Am)(W:AJ)(U:H):AH:=
 rB false U
def AMI:XC:=(.cond (.tmp 16) (.z (.aH 2 y9)
 .ret)
 .skip)
def AIh(E:EB)(D:Am)(W:AJ)(b:H->AH)(a:Bool)(U:H):AH:=
 AG a (
 rB true U) (
 b U)
def zD(E:EB)(D:Am)(W:AJ)(N:Nat):=pF E D W
def rV:=AIh E D W (zD E D W N )
def F79(e:List V)(U:H):AH:=
 Aj e λa b=>
 Cl a λa=>
 uG a λa c d=>
 BD b (
 pG E D W (zD E D W N ) (rV E D W N ) a c d U)
def A79:Dg:=⟨26,[y4],[(.tmp 2)],(AMK AMJ AMI)⟩
theorem AKx b U:Bt E D W N A79 b U=F79 E D W N b U:=by kernel_rfl
def Tv:List Bf:=[⟨(some 31),.faddr 1 (.tmp 9),none⟩,⟨(some 32),.load none (.tmp 31),none⟩,⟨(some 33),.faddr 0 (.tmp 8),none⟩,⟨none,.store 1 (.tmp 33) (.con (V.int .i64 (AA 11))),none⟩,⟨(some 34),.faddr 1 (.tmp 8),none⟩,⟨none,.store 1 (.tmp 34) (.tmp 32),none⟩]
def YP:List DP:=[⟨0,[9]⟩,⟨1,[31]⟩,⟨0,[8]⟩,⟨4,[33]⟩,⟨15,[8]⟩,⟨31,[34,32]⟩]
def AMG(a:XC):XC:=(.z (.p 4 [] y37<|
 .aH 5 y1)
 (.z (.m 11 0<|
 .k 12 (.tup [Ud,.bool]) 91 [(.t 11)]<|
 .m 10 12<|
 .aB 13 0 10 1 10<|
 .pal 6 [] 41 [y1,y0,y0]<|
 .op none Ud [6,13] (.store 3 (.t 6) (.t 13))<|
 .m 7 14<|
 .nil)
 (.seq (.z (.m 15 7<|
 .aL 16 15)
 (.cond (.tmp 16) (.z (.op (some 17) y2 [] (.build [y0,y3,y1,y0,y0,y1,y1,y1,y1,y0,y0,V.nils,V.nils,y0,y1,y0] [])<|
 .op none y2 [4,17] (.store 16 (.t 4) (.t 17))<|
 .aH 5 y1)
 .ret)
 .skip))
 (.z (.O 18 Ud (.load (some 3) (.t 6))<|
 .op (some 19) y2 [18] (.build [y0,y3,y1,y0,y0,y1,y1,y1,y1,y0,y0,V.nils,V.nils,y0,y1,y0] [(2,3,(.t 18))])<|
 .p 8 [] y37<|
 .op none y2 [8,19] (.store 16 (.t 8) (.t 19))<|
 .nil)
 (.seq (.z (.aA 20 0 0<|
 .k 23 y4 29 [(.t 22)]<|
 .p 9 [] y74<|
 .op none y4 [9,23] (.store 3 (.t 9) (.t 23))<|
 .nil)
 (.z (.aO 24 0 9 .i<|
 .cE 26 25 1)
 (.cond (.tmp 26) (.z (.aA 27 0 0<|
 .k 30 y4 61 [(.t 29)]<|
 .nil)
 (.seq (.keep [(4,.ptr),(8,.ptr),(9,.ptr)] [] [] (.gdraw Tv YP [(4,.ptr),(8,.ptr)]))
 (.z (.aQ 35 y2 16 8 y2 4 16 4<|
 .aH 5 y9)
 .ret)))
 .skip)))
 (.seq (.block 0 (.z (.aA 44 0 0<|
 .aU 47 .bool 62 46 y33 43)
 (.cond (.tmp 43) (.ops (.aI 48 0 8 1 1<|
 .nil))
 (.z (.cL 50 0 0 .bool 62 xY<|
 .m 49 53<|
 .nil)
 (.cond (.tmp 49) (.ops (.aI 54 0 8 1 4<|
 .nil))
 (.z (.aA 56 0 0<|
 .k 59 .bool 62 [(.t 58),xZ]<|
 .m 55 59<|
 .nil)
 (.cond (.tmp 55) (.z (.aI 60 0 8 1 6<|
 .nil)
 (.ops (.m 61 0<|
 .f 62 5 8<|
 .k 63 .bool 92 [(.t 61),(.t 62)]<|
 .aC 7 63)))
 (.z (.aA 65 0 0<|
 .aU 68 .bool 62 67 y34 64)
 (.cond (.tmp 64) (.z (.aI 69 0 8 1 2<|
 .nil)
 (.ops (.cL 70 0 0 .bool 62 tZ<|
 .P 74 (.un .not (.t 73))<|
 .m 75 74<|
 .gO 75 false (.p 76 [0,75] y6<|
 .p 77 [8,75] (.faddr 5 (.t 8))<|
 .op (some 78) .bool [76,77,75] (.call 93 [(.t 76),(.t 77)])<|
 .p 79 [78,75] (.mov (.t 78))<|
 .grp 79 true (.p 80 [0,79] y6<|
 .p 81 [79] (.buildSlice 9 1 [y3] [(0,1,tu)])<|
 .op (some 82) .bool [80,81,79] (.call 27 [(.t 80),(.t 81)])<|
 .nil) 83 [79,82,75] (.t 79) (.t 82) WV<|
 .nil) 84 75 83<|
 .aC 7 84)))
 (.z (.aA 86 0 0<|
 .aU 89 .bool 62 88 y47 85)
 (.cond (.tmp 85) (.z (.aI 90 0 8 1 5<|
 .nil)
 (.ops (.m 91 0<|
 .p 92 [] (.buildSlice 9 1 [y3] [(0,1,y61)])<|
 .k 93 .bool 27 [(.t 91),(.t 92)]<|
 .m 94 93<|
 .gA 94 true (.p 95 [0,94] y6<|
 .p 96 [8,94] (.faddr 5 (.t 8))<|
 .op (some 97) .bool [95,96,94] (.call 92 [(.t 95),(.t 96)])<|
 .nil) 98 94 97<|
 .aC 7 98)))
 (.z (.aA 100 0 0<|
 .aU 103 .bool 62 102 y25 99)
 (.cond (.tmp 99) (.z (.aI 104 0 8 1 3<|
 .nil)
 (.ops (.m 105 0<|
 .k 106 .bool 94 [(.t 105),(.t 8)]<|
 .aC 7 106)))
 (.z (.aA 108 0 0<|
 .aU 111 .bool 62 110 y52 107)
 (.cond (.tmp 107) (.z (.aI 112 0 8 1 8<|
 .nil)
 (.ops (.aD 113 0 1<|
 .k 115 .bool 95 [(.t 113),(.t 8),(.t 114)]<|
 .aC 7 115)))
 (.z (.aA 117 0 0<|
 .aU 120 .bool 62 119 y40 116)
 (.cond (.tmp 116) (.z (.aI 121 0 8 1 9<|
 .nil)
 (.ops (.aD 122 0 1<|
 .k 124 .bool 95 [(.t 122),(.t 8),(.t 123)]<|
 .aC 7 124)))
 (.z (.aA 126 0 0<|
 .aU 129 .bool 62 128 y31 125)
 (.cond (.tmp 125) (.ops (.aD 130 0 1<|
 .k 132 .bool 96 [(.t 130),(.t 8),(.t 131)]<|
 .aC 7 132))
 (.ops (.m 36 0<|
 .aA 37 0 0<|
 .k 40 y4 29 [(.t 39)]<|
 .O 41 .i (.field 2 none (.t 40))<|
 .k 42 .bool 60 [(.t 36),(.t 41),(.i 7)]<|
 .aC 7 42)))))))))))))))))))))
 (.keep [(4,.ptr),(7,.bool),(8,.ptr)] [] [] a)))))))
def IC(z:Nat->Nat->Bool->Nat->Nat->H->AH)(a b:Nat)(c:Int)(U:H):AH:=
 let d:=B9 U (.cells [iN 0,.str ⟨0,0⟩,.bool false,iN 0,iN 0,.bool false,.bool false,.bool false,.bool false,iN 0,iN 0,V.nils,V.nils,iN 0,.bool false,iN 0]);
 cT (D 91 [.ptr a b] d) λd e=>
 Aj d λd f=>
 Cl d λd=>
 uO d λd g h=>
 LA f λf i=>
 BD i (
 AG (not f) (
 Cg 16 (H.next U) 0 (V.agg [iN 0,sN 0 0,.bool false,iN 0,iN 0,.bool false,.bool false,.bool false,.bool false,iN 0,iN 0,V.nils,V.nils,iN 0,.bool false,iN 0]) e λi=>
 Dt E i (H.next U) 0 16 λj=>
 some ((V.tup [.agg j,.bool false]),i)) (
 let i:=B9 e (.cells [iN 0,.str ⟨0,0⟩,.bool false,iN 0,iN 0,.bool false,.bool false,.bool false,.bool false,iN 0,iN 0,V.nils,V.nils,iN 0,.bool false,iN 0]);
 Cg 16 (H.next e) 0 (V.agg [iN 0,sN 0 0,.bool d,.int .i64 g,.int .i64 h,.bool false,.bool false,.bool false,.bool false,iN 0,iN 0,V.nils,V.nils,iN 0,.bool false,iN 0]) i λd=>
 cA (D 29 [.ptr a b] d) λd g=>
 uG d λd h i=>
 let j:=B9 g (.cells [iN 0,.str ⟨0,0⟩,iN 0]);
 Cg 3 (H.next g) 0 (V.agg (eG d h i)) j λd=>
 lI E d (H.next g) 0 λh=>
 AG (Cc h (AA 1)) (
 cA (D 61 [.ptr a b] d) λh i=>
 uG h λh j k=>
 DZ (W Tv YP [(4,.ptr (H.next U) 0),(8,.ptr (H.next e) 0),(9,.ptr (H.next g) 0)] i) λg h=>
 EO g 4 λi=>
 CM i λi j=>
 EO g 8 λg=>
 CM g λg k=>
 Dt E h g k 16 λg=>
 uK g λg k l m n o p q r s t u v w x y=>
 Cg 16 i j (V.agg (eK g k l m n o p q r s t u v w x y)) h λg=>
 Dt E g i j 16 λh=>
 some ((V.tup [.agg h,.bool true]),g)) (
 cB (D 62 [.ptr a b,sN 7 22026814072246082] d) λd g=>
 AG d (
 Cg 1 (H.next e) 0 (iN 1) g λd=>
 z (H.next U) 0 f (H.next e) 0 d) (
 cB (D 62 [.ptr a b,sN 4 1280070990] g) λd g=>
 AG d (
 Cg 1 (H.next e) 0 (iN 4) g λd=>
 z (H.next U) 0 f (H.next e) 0 d) (
 cB (D 62 [.ptr a b,sN 10 488440487847103610377301] g) λd f=>
 AG d (
 Cg 1 (H.next e) 0 (iN 6) f λd=>
 cB (D 92 [.ptr a b,.ptr (H.next e) 5] d) λd g=>
 z (H.next U) 0 d (H.next e) 0 g) (
 cB (D 62 [.ptr a b,sN 7 23157120498421321] f) λd f=>
 AG d (
 Cg 1 (H.next e) 0 (iN 2) f λd=>
 cB (D 62 [.ptr a b,sN 1 40] d) λd g=>
 Ab (λh i=>
 z (H.next U) 0 h (H.next e) 0 i) λh=>
 AG (not d) (
 h true g) (
 cB (D 93 [.ptr a b,.ptr (H.next e) 5] g) λd g=>
 Ab (λi j=>
 h i j) λh=>
 AG d (
 let d:=B9 g (.cells [sN 1 41]);
 cB (D 27 [.ptr a b,.sl (H.next g) 0 1 (.ex 1)] d) λd i=>
 h d i) (
 h false g))) (
 cB (D 62 [.ptr a b,sN 5 361940403023] f) λd f=>
 AG d (
 Cg 1 (H.next e) 0 (iN 5) f λd=>
 let g:=B9 d (.cells [sN 6 78401563153491]);
 cB (D 27 [.ptr a b,.sl (H.next d) 0 1 (.ex 1)] g) λd g=>
 Ab (λh i=>
 z (H.next U) 0 h (H.next e) 0 i) λh=>
 AG d (
 cB (D 92 [.ptr a b,.ptr (H.next e) 5] g) λd i=>
 h d i) (
 h false g)) (
 cB (D 62 [.ptr a b,sN 10 322399817400452109389381] f) λd f=>
 AG d (
 Cg 1 (H.next e) 0 (iN 3) f λd=>
 cB (D 94 [.ptr a b,.ptr (H.next e) 0] d) λd g=>
 z (H.next U) 0 d (H.next e) 0 g) (
 cB (D 62 [.ptr a b,sN 3 5522771] f) λd f=>
 AG d (
 Cg 1 (H.next e) 0 (iN 8) f λd=>
 cB (D 95 [.ptr a b,.ptr (H.next e) 0,.int .i64 c] d) λd g=>
 z (H.next U) 0 d (H.next e) 0 g) (
 cB (D 62 [.ptr a b,sN 6 76155295057987] f) λd f=>
 AG d (
 Cg 1 (H.next e) 0 (iN 9) f λd=>
 cB (D 95 [.ptr a b,.ptr (H.next e) 0,.int .i64 c] d) λd g=>
 z (H.next U) 0 d (H.next e) 0 g) (
 cB (D 62 [.ptr a b,sN 8 4990918871747741011] f) λd f=>
 AG d (
 cB (D 96 [.ptr a b,.ptr (H.next e) 0,.int .i64 c] f) λd g=>
 z (H.next U) 0 d (H.next e) 0 g) (
 cA (D 29 [.ptr a b] f) λd f=>
 uG d λd g h=>
 cB (D 60 [.ptr a b,.int .i64 h,iN 7] f) λd f=>
 z (H.next U) 0 d (H.next e) 0 f))))))))))))
def AMF:XC:=(.z (.O 133 y2 (.load (some 16) (.t 8))<|
 .m 134 7<|
 .op none y2 [4,133] (.store 16 (.t 4) (.t 133))<|
 .aC 5 134)
 .ret)
def Xd(E:EB)(D:Am)(W:AJ)(a b:Nat)(c:Bool)(d e:Nat)(U:H):AH:=
 Dt E U d e 16 λf=>
 uK f λf g h i j k l m n o p q r s t u=>
 Cg 16 a b (V.agg (eK f g h i j k l m n o p q r s t u)) U λf=>
 Dt E f a b 16 λg=>
 some ((V.tup [.agg g,.bool c]),f)
def AKO(E:EB)(D:Am)(W:AJ)(N:Nat):=Xd E D W
def F80(d:List V)(U:H):AH:=
 uI d λa b c=>
 IC E D W (AKO E D W N ) a b c U
def A80:Dg:=⟨135,[.ptr,.i],[(.cell 4 (some 16)),(.tmp 5)],(AMG AMF)⟩
theorem AKw b U:Bt E D W N A80 b U=F80 E D W N b U:=by kernel_rfl
def Tu:List Bf:=[⟨(some 35),.mov (.tmp 1),none⟩,⟨(some 36),.mov (.tmp 1),none⟩,⟨(some 37),.nilck (.tmp 36),none⟩,⟨(some 38),.faddr 12 (.tmp 37),none⟩,⟨(some 39),.load none (.tmp 38),none⟩,⟨(some 40),.load (some 11) (.tmp 8),none⟩,⟨(some 41),.buildSlice 96 1 [(V.str ⟨0,0⟩),(V.int .i64 (AA 0)),(V.bool false),(V.bool false),(V.int .i64 (AA 0)),(V.int .i64 (AA 0)),V.nils,V.nils,(V.int .i64 (AA 0)),V.nils,(V.int .i64 (AA 0))] [(0,11,(.tmp 40))],none⟩,⟨(some 42),.append 96 11 136 (.tmp 39) (.tmp 41),none⟩,⟨(some 43),.nilck (.tmp 35),none⟩,⟨(some 44),.faddr 12 (.tmp 43),none⟩,⟨none,.store 1 (.tmp 44) (.tmp 42),none⟩]
def PU:List DP:=[⟨0,[1]⟩,⟨0,[1]⟩,⟨2,[36]⟩,⟨6,[37]⟩,⟨14,[38]⟩,⟨0,[8]⟩,⟨32,[40]⟩,⟨126,[39,41]⟩,⟨255,[35]⟩,⟨511,[43]⟩,⟨1023,[44,42]⟩]
def AME(a:XC):XC:=(.z (.m 9 0<|
 .k 10 .str 12 [(.t 9),(.i 2)]<|
 .m 11 3<|
 .op (some 12) xh [10,11] (.build [y3,y0,y1,y1,y0,y0,V.nils,V.nils,y0,V.nils,y0] [(0,1,(.t 10)),(10,1,(.t 11))])<|
 .p 8 [] (.alloc 96 [y3,y0,y1,y1,y0,y0,V.nils,V.nils,y0,V.nils,y0])<|
 .op none xh [8,12] (.store 11 (.t 8) (.t 12))<|
 .nil)
 (.z (.aD 13 0 2<|
 .b 15 .add .none (.t 14) (.i 1)<|
 .k 16 .i 17 [(.t 13),(.t 15)]<|
 .aT 17 1 8 1 16)
 (.seq (.block 0 (.z (.aX 19 1 0 .i<|
 .aN 23 22 9 18)
 (.cond (.tmp 18) .skip
 (.z (.m 25 0<|
 .aU 26 .bool 14 25 y54 24)
 (.cond (.tmp 24) (.ops (.bA 27 2 8 1 OK<|
 .nil))
 (.z (.m 29 0<|
 .aU 30 .bool 14 29 y56 28)
 (.cond (.tmp 28) (.ops (.bP 31 0 y5 97<|
 .bA 33 3 8 1 OK<|
 .cM 34 4 8 y5 32 6 32<|
 .nil))
 .skip)))))))
 (.keep [(1,.ptr),(8,.ptr)] [] [] a))))
def TS(E:EB)(D:Am)(W:AJ)(o:Nat->Nat->Nat->Nat->H->AH)(a:V)(b c:Nat)(d e:Int)(U:H):AH:=
 cS (D 12 [a,iN 2] U) λf g=>
 let h:=B9 g (.cells [.str ⟨0,0⟩,iN 0,.bool false,.bool false,iN 0,iN 0,V.nils,V.nils,iN 0,V.nils,iN 0]);
 Cg 11 (H.next g) 0 (V.agg [.str f,iN 0,.bool false,.bool false,iN 0,iN 0,V.nils,V.nils,iN 0,V.nils,.int .i64 e]) h λf=>
 cI (D 17 [a,.int .i64 (BP .i64 d (AA 1))] f) λf h=>
 Cg 1 (H.next g) 1 (V.int .i64 f) h λf=>
 lI E f b c λh=>
 AG (Cc h (AA 9)) (
 o b c (H.next g) 0 f) (
 cB (D 14 [a,sN 8 5494759122808361039] f) λf h=>
 AG f (
 Cg 1 (H.next g) 2 (V.bool true) h λf=>
 o b c (H.next g) 0 f) (
 cB (D 14 [a,sN 7 23727827094750532] h) λf h=>
 AG f (
 cA (D 97 [a] h) λf i=>
 uV f λf j k l m n=>
 Cg 1 (H.next g) 3 (V.bool true) i λi=>
 Cg 6 (H.next g) 4 (V.agg (eV f j k l m n)) i λf=>
 o b c (H.next g) 0 f) (
 o b c (H.next g) 0 h)))
def AMD:XC:=(.keep [(1,.ptr),(8,.ptr)] [] [] (.gdraw Tu PU []))
def dY(E:EB)(D:Am)(W:AJ)(a b c d:Nat)(U:H):AH:=
 DZ (W Tu PU [(1,.ptr a b),(8,.ptr c d)] U) λe f=>
 r0 f
def AKN(E:EB)(D:Am)(W:AJ)(N:Nat):=dY E D W
def F81(f:List V)(U:H):AH:=
 uAB f λa b c d e=>
 TS E D W (AKN E D W N ) a b c d e U
def A81:Dg:=⟨45,[.any,.ptr,.i,.i],[],(AME AMD)⟩
theorem AKv b U:Bt E D W N A81 b U=F81 E D W N b U:=by kernel_rfl
def AMA:XC:=(.z (.aH 2 Sp)
 (.seq (.cond WV (.seq (.draw (.bF 3 0 0<|
 .P 5 (.conv (.toInt .u64) (.t 4))<|
 .bF 6 0 1<|
 .aJ 8 7 y67 5<|
 .bF 11 0 2<|
 .aJ 13 12 y62 10<|
 .bF 16 0 3<|
 .aJ 18 17 y63 15<|
 .aC 2 20) [0,1,3,0,8,24,56,127,0,256,768,1792,4095,0,8192,24576,57344,131071,262143])
 .ret)
 .skip)
 (.seq (.draw (.bF 21 0 0<|
 .P 23 (.conv (.toInt .u64) (.t 22))<|
 .bF 24 0 1<|
 .aJ 26 25 y67 23<|
 .bF 29 0 2<|
 .aJ 31 30 y62 28<|
 .bF 34 0 3<|
 .aJ 36 35 y63 33<|
 .bF 39 0 4<|
 .aP 41 40 32 38<|
 .bF 44 0 5<|
 .aP 46 45 40 43<|
 .bF 49 0 6<|
 .aP 51 50 48 48<|
 .bF 54 0 7<|
 .P 56 (.conv (.toInt .u64) (.t 55))<|
 .b 57 .shl .none (.t 56) (.con (V.int .u64 (AA 56)))<|
 .b 58 .or .none (.t 53) (.t 57)<|
 .aC 2 58) [0,1,3,0,8,24,56,127,0,256,768,1792,4095,0,8192,24576,57344,131071,0,262144,786432,1835008,4194303,0,8388608,25165824,58720256,134217727,0,268435456,805306368,1879048192,4294967295,0,8589934592,25769803776,60129542144,137438953471,274877906943])
 .ret)))
def oz(E:EB)(D:Am)(W:AJ)(a:BS)(U:H):AH:=
 AG false (
 Az a (AA 0) λb=>
 Az a (AA 1) λc=>
 Az a (AA 2) λd=>
 Az a (AA 3) λe=>
 some ((V.int .u64 (Gt .u64 (Gt .u64 (Gt .u64 (BH .u64 b) (Eb .u64 (BH .u64 c) 8)) (Eb .u64 (BH .u64 d) 16)) (Eb .u64 (BH .u64 e) 24))),U)) (
 Az a (AA 0) λb=>
 Az a (AA 1) λc=>
 Az a (AA 2) λd=>
 Az a (AA 3) λe=>
 Az a (AA 4) λf=>
 Az a (AA 5) λg=>
 Az a (AA 6) λh=>
 Az a (AA 7) λi=>
 some ((V.int .u64 (Gt .u64 (Gt .u64 (Gt .u64 (Gt .u64 (Gt .u64 (Gt .u64 (Gt .u64 (BH .u64 b) (Eb .u64 (BH .u64 c) 8)) (Eb .u64 (BH .u64 d) 16)) (Eb .u64 (BH .u64 e) 24)) (Eb .u64 (BH .u64 f) 32)) (Eb .u64 (BH .u64 g) 40)) (Eb .u64 (BH .u64 h) 48)) (Eb .u64 (BH .u64 i) 56))),U))
def F86(N:Nat)(c:List V)(U:H):AH:=
 NA c λa b=>
 BD b (
 oz E D W a U)
def A86:Dg:=⟨59,[.str],[(.tmp 2)],AMA⟩
theorem AKu b U:Bt E D W N A86 b U=F86 E D W N b U:=by kernel_rfl
def AL9:XC:=(.z (.aH 4 y1)
 (.z (.aW 5 0<|
 .aW 7 1<|
 .b 9 .geq .none (.t 6) (.t 8)<|
 .m 10 9<|
 .gA 10 true (.p 11 [0,10] y6<|
 .p 12 [1,10] M9<|
 .p 13 [12,10] (.len true (.t 12))<|
 .p 14 [11,13,10] (.sliceStr (.t 11) none (some (.t 13)))<|
 .p 15 [1,10] M9<|
 .bC 16 14 15 10 14 15) 17 10 16<|
 .aC 4 17)
 .ret))
def ow(E:EB)(D:Am)(W:AJ)(a b:BS)(U:H):AH:=
 Ab (λc d=>
 rB c d) λc=>
 AG (I2 (AA (BS.len b)) (AA (BS.len a))) (
 BA a none (some (V.int .i64 (AA (BS.len b)))) λd=>
 c (BS.beq d b) U) (
 c false U)
def F87(N:Nat)(c:List V)(U:H):AH:=
 uT c λa b=>
 ow E D W a b U
def A87:Dg:=⟨18,[.str,.str],[(.tmp 4)],AL9⟩
theorem AKt b U:Bt E D W N A87 b U=F87 E D W N b U:=by kernel_rfl
def AL8:XC:=(.z (.aH 2 Sp)
 (.seq (.cond WV (.seq (.draw (.aV 3 0 1 0<|
 .P 6 (.conv (.toInt .u64) (.t 5))<|
 .aV 7 0 1 1<|
 .aJ 10 9 y67 6<|
 .aV 13 0 1 2<|
 .aJ 16 15 y62 12<|
 .aV 19 0 1 3<|
 .aJ 22 21 y63 18<|
 .aC 2 24) [0,1,3,7,0,16,48,112,240,511,0,1024,3072,7168,15360,32767,0,65536,196608,458752,983040,2097151,4194303])
 .ret)
 .skip)
 (.seq (.draw (.aV 25 0 1 0<|
 .P 28 (.conv (.toInt .u64) (.t 27))<|
 .aV 29 0 1 1<|
 .aJ 32 31 y67 28<|
 .aV 35 0 1 2<|
 .aJ 38 37 y62 34<|
 .aV 41 0 1 3<|
 .aJ 44 43 y63 40<|
 .aV 47 0 1 4<|
 .aP 50 49 32 46<|
 .aV 53 0 1 5<|
 .aP 56 55 40 52<|
 .aV 59 0 1 6<|
 .aP 62 61 48 58<|
 .aV 65 0 1 7<|
 .aP 68 67 56 64<|
 .aC 2 70) [0,1,3,7,0,16,48,112,240,511,0,1024,3072,7168,15360,32767,0,65536,196608,458752,983040,2097151,0,4194304,12582912,29360128,62914560,134217727,0,268435456,805306368,1879048192,4026531840,8589934591,0,17179869184,51539607552,120259084288,257698037760,549755813887,0,1099511627776,3298534883328,7696581394432,16492674416640,35184372088831,70368744177663])
 .ret)))
def ov(E:EB)(D:Am)(W:AJ)(a:V)(U:H):AH:=
 AG false (
 iY E U 1 a (AA 0) λb=>
 BZ .u8 b λb=>
 iY E U 1 a (AA 1) λc=>
 BZ .u8 c λc=>
 iY E U 1 a (AA 2) λd=>
 BZ .u8 d λd=>
 iY E U 1 a (AA 3) λe=>
 BZ .u8 e λe=>
 some ((V.int .u64 (Gt .u64 (Gt .u64 (Gt .u64 (BH .u64 b) (Eb .u64 (BH .u64 c) 8)) (Eb .u64 (BH .u64 d) 16)) (Eb .u64 (BH .u64 e) 24))),U)) (
 iY E U 1 a (AA 0) λb=>
 BZ .u8 b λb=>
 iY E U 1 a (AA 1) λc=>
 BZ .u8 c λc=>
 iY E U 1 a (AA 2) λd=>
 BZ .u8 d λd=>
 iY E U 1 a (AA 3) λe=>
 BZ .u8 e λe=>
 iY E U 1 a (AA 4) λf=>
 BZ .u8 f λf=>
 iY E U 1 a (AA 5) λg=>
 BZ .u8 g λg=>
 iY E U 1 a (AA 6) λh=>
 BZ .u8 h λh=>
 iY E U 1 a (AA 7) λi=>
 BZ .u8 i λi=>
 some ((V.int .u64 (Gt .u64 (Gt .u64 (Gt .u64 (Gt .u64 (Gt .u64 (Gt .u64 (Gt .u64 (BH .u64 b) (Eb .u64 (BH .u64 c) 8)) (Eb .u64 (BH .u64 d) 16)) (Eb .u64 (BH .u64 e) 24)) (Eb .u64 (BH .u64 f) 32)) (Eb .u64 (BH .u64 g) 40)) (Eb .u64 (BH .u64 h) 48)) (Eb .u64 (BH .u64 i) 56))),U))
def F90(N:Nat)(c:List V)(U:H):AH:=
 Aj c λa b=>
 BD b (
 ov E D W a U)
def A90:Dg:=⟨71,[.any],[(.tmp 2)],AL8⟩
theorem AKs b U:Bt E D W N A90 b U=F90 E D W N b U:=by kernel_rfl
def AL7(a:XC):XC:=(.z (.pal 2 [] 41 [y1,y0,y0]<|
 .aH 3 y1)
 (.seq (.z (.cL 8 0 0 .bool 62 y60<|
 .aL 12 11)
 (.cond (.tmp 12) (.z (.op (some 13) Ud [] (.build [y1,y0,y0] [])<|
 .op none Ud [2,13] (.store 3 (.t 2) (.t 13))<|
 .aH 3 y9)
 .ret)
 .skip))
 (.z (.bP 15 0 y78 103<|
 .bE 14 0 1 2<|
 .pal 5 [] 38 [y0,y3,y0]<|
 .m 4 17<|
 .op none y4 [5,18] (.store 3 (.t 5) (.t 18))<|
 .aC 6 19)
 (.seq (.block 0 (.z (.m 21 6<|
 .P 22 (.un .not (.t 21))<|
 .m 20 22<|
 .nil)
 (.cond (.tmp 20) (.z (.op (some 23) Ud [] (.build [y1,y0,y0] [])<|
 .op none Ud [2,23] (.store 3 (.t 2) (.t 23))<|
 .aH 3 y1)
 .ret)
 (.z (.m 25 4<|
 .bU 26 25 0<|
 .gO 27 false (.p 28 [4,27] (.mov (.t 4))<|
 .p 29 [28,27] (.bin .gtr .none (.t 28) (.i 268435456))<|
 .nil) 30 27 29<|
 .m 24 30<|
 .nil)
 (.cond (.tmp 24) (.z (.op (some 31) Ud [] (.build [y1,y0,y0] [])<|
 .m 32 0<|
 .aO 33 2 5 .i<|
 .k 35 .bool 60 [(.t 32),(.t 34),(.i 12)]<|
 .op none Ud [2,31] (.store 3 (.t 2) (.t 31))<|
 .aC 3 35)
 .ret)
 (.z (.m 37 0<|
 .p 38 [] (.buildSlice 9 1 [y3] [(0,1,(.con (V.str ⟨1,93⟩)))])<|
 .k 39 .bool 27 [(.t 37),(.t 38)]<|
 .P 40 (.un .not (.t 39))<|
 .m 36 40<|
 .nil)
 (.cond (.tmp 36) (.z (.op (some 41) Ud [] (.build [y1,y0,y0] [])<|
 .op none Ud [2,41] (.store 3 (.t 2) (.t 41))<|
 .aH 3 y1)
 .ret)
 .skip)))))))
 (.z (.m 42 4<|
 .op (some 43) Ud [42] (.build [y1,y0,y0] [(0,1,OK),(1,1,(.t 42))])<|
 .pal 7 [] 41 [y1,y0,y0]<|
 .op none Ud [7,43] (.store 3 (.t 7) (.t 43))<|
 .nil)
 (.seq (.block 1 (.z (.aA 45 0 0<|
 .aU 48 .bool 62 47 y29 44)
 (.cond (.tmp 44) (.ops (.aI 49 2 7 1 1<|
 .nil))
 (.z (.cL 51 0 0 .bool 62 y30<|
 .m 50 54<|
 .nil)
 (.cond (.tmp 50) (.ops (.aI 55 2 7 1 2<|
 .nil))
 .skip)))))
 (.keep [] [2,7] [(2,[.bool,.i,.i]),(7,[.bool,.i,.i])] a)))))))
def PG(E:EB)(D:Am)(W:AJ)(i:Bool->Int->Int->Bool->Int->Int->H->AH)(a b:Nat)(U:H):AH:=
 cB (D 62 [.ptr a b,sN 1 91] U) λc d=>
 AG (not c) (
 some ((V.tup [.agg [.bool false,iN 0,iN 0],.bool true]),d)) (
 cT (D 103 [.ptr a b] d) λc d=>
 F0 .i64 c λc e=>
 Aj e λe f=>
 Cl e λe=>
 uG e λe g h=>
 LA f λe f=>
 BD f (
 AG (not e) (
 some ((V.tup [.agg [.bool false,iN 0,iN 0],.bool false]),d)) (
 Ab (λe f=>
 AG e (
 cB (D 60 [.ptr a b,.int .i64 h,iN 12] f) λe g=>
 some ((V.tup [.agg [.bool false,iN 0,iN 0],.bool e]),g)) (
 let e:=B9 f (.cells [sN 1 93]);
 cB (D 27 [.ptr a b,.sl (H.next f) 0 1 (.ex 1)] e) λe f=>
 AG (not e) (
 some ((V.tup [.agg [.bool false,iN 0,iN 0],.bool false]),f)) (
 cB (D 62 [.ptr a b,sN 8 6073459554577832005] f) λe f=>
 AG e (
 i false (AA 0) (AA 0) true c (AA 1) f) (
 cB (D 62 [.ptr a b,sN 8 6073459554577829193] f) λe f=>
 AG e (
 i false (AA 0) (AA 0) true c (AA 2) f) (
 i false (AA 0) (AA 0) true c (AA 0) f))))) λe=>
 AG (Cw c (AA 0)) (
 e true d) (
 e (Cw (AA 268435456) c) d))))
def AL6:XC:=(.z (.aQ 56 Ud 3 7 Ud 2 3 2<|
 .aH 3 y9)
 .ret)
def PF(E:EB)(D:Am)(W:AJ)(a:Bool)(b c:Int)(d:Bool)(e f:Int)(U:H):AH:=
 some ((V.tup [.agg (eO d e f),.bool true]),U)
def AKK(E:EB)(D:Am)(W:AJ)(N:Nat):=PF E D W
def F91(d:List V)(U:H):AH:=
 Aj d λa b=>
 CM a λa c=>
 BD b (
 PG E D W (AKK E D W N ) a c U)
def A91:Dg:=⟨57,[.ptr],[(.cell 2 (some 3)),(.tmp 3)],(AL7 AL6)⟩
theorem AKr b U:Bt E D W N A91 b U=F91 E D W N b U:=by kernel_rfl
def AL5:XC:=(.z (.aH 4 y1)
 (.z (.cL 5 0 0 .bool 62 tZ<|
 .P 9 (.un .not (.t 8))<|
 .m 10 9<|
 .gO 10 false (.p 11 [0,10] y6<|
 .p 12 [10] (.buildSlice 9 2 [y3,y3] [(0,1,y75),(1,1,tZ)])<|
 .op (some 13) .bool [11,12,10] (.call 27 [(.t 11),(.t 12)])<|
 .p 14 [13,10] (.mov (.t 13))<|
 .grp 14 true (.p 15 [0,14] y6<|
 .p 16 [1,14] M9<|
 .op (some 17) .bool [15,16,14] (.call 93 [(.t 15),(.t 16)])<|
 .nil) 18 [14,17,10] (.t 14) (.t 17) WV<|
 .p 19 [18,10] (.mov (.t 18))<|
 .grp 19 true (.p 20 [0,19] y6<|
 .p 21 [19] (.buildSlice 9 2 [y3,y3] [(0,1,tu),(1,1,tu)])<|
 .op (some 22) .bool [20,21,19] (.call 27 [(.t 20),(.t 21)])<|
 .nil) 23 [19,22,10] (.t 19) (.t 22) WV<|
 .nil) 24 10 23<|
 .aC 4 24)
 .ret))
def TR(E:EB)(D:Am)(W:AJ)(a b:Nat)(c:V)(U:H):AH:=
 cB (D 62 [.ptr a b,sN 1 40] U) λd e=>
 Ab (λf g=>
 rB f g) λf=>
 AG (not d) (
 f true e) (
 let d:=B9 e (.cells [sN 4 1163544915,sN 1 40]);
 cB (D 27 [.ptr a b,.sl (H.next e) 0 2 (.ex 2)] d) λd e=>
 Ab (λg h=>
 Ab (λi j=>
 f i j) λf=>
 AG g (
 let g:=B9 h (.cells [sN 1 41,sN 1 41]);
 cB (D 27 [.ptr a b,.sl (H.next h) 0 2 (.ex 2)] g) λg i=>
 f g i) (
 f false h)) λf=>
 AG d (
 cB (D 93 [.ptr a b,c] e) λd g=>
 f d g) (
 f false e))
def F92(N:Nat)(d:List V)(U:H):AH:=
 uP d λa b c=>
 TR E D W a b c U
def A92:Dg:=⟨25,[.ptr,.any],[(.tmp 4)],AL5⟩
theorem AKq b U:Bt E D W N A92 b U=F92 E D W N b U:=by kernel_rfl
def AL4(a:XC):XC:=(.z (.aH 4 y1)
 (.z (.aA 11 1 0<|
 .op none .any [13] (.store 1 (.t 13) OK)<|
 .nil)
 (.seq (.z (.cL 14 0 0 .bool 62 y80<|
 .aL 18 17)
 (.cond (.tmp 18) (.z (.bP 20 0 y78 103<|
 .bE 19 0 1 2<|
 .pal 6 [] 38 [y0,y3,y0]<|
 .m 5 22<|
 .op none y4 [6,23] (.store 3 (.t 6) (.t 23))<|
 .aC 7 24)
 (.seq (.z (.m 25 7<|
 .aL 26 25)
 (.cond (.tmp 26) (.z (.aH 4 y1)
 .ret)
 .skip))
 (.ops (.cP 27 1 1 5<|
 .n 30 27<|
 .bA 31 1 30 1 OK<|
 .n 32 28<|
 .aT 33 4 32 1 29))))
 .skip))
 (.keep [(0,.ptr),(1,.ptr)] [] [] a))))
def TQ(E:EB)(D:Am)(W:AJ)(l:Nat->Nat->Nat->Nat->H->AH)(a b c d:Nat)(U:H):AH:=
 Cg 1 c d (V.bool true) U λe=>
 cB (D 62 [.ptr a b,sN 3 5130573] e) λe f=>
 AG (not e) (
 cT (D 103 [.ptr a b] f) λe g=>
 F0 .i64 e λe h=>
 Aj h λh i=>
 Cl h λh=>
 uG h λh j k=>
 LA i λh i=>
 BD i (
 AG (not h) (
 rB false g) (
 Cg 1 c (AN d 1) (V.bool true) g λg=>
 Cg 1 c (AN d 4) (V.int .i64 e) g λe=>
 l a b c d e))) (
 l a b c d f)
def AL3(a:XC):XC:=(.seq (.block 0 (.z (.aA 35 0 0<|
 .k 38 .bool 62 [(.t 37),(.con (V.str ⟨2,11822⟩))]<|
 .P 39 (.un .not (.t 38))<|
 .m 34 39<|
 .nil)
 (.cond (.tmp 34) (.draw (.aD 40 1 1<|
 .aX 42 1 1 .bool<|
 .aX 46 1 4 .i<|
 .n 50 40<|
 .f 51 2 50<|
 .w 1 51 45<|
 .n 52 41<|
 .aT 53 5 52 1 49) [0,0,0,4,12,28,0,64,192,448,1021,2045,4093,8191,16383,32767])
 (.z (.aA 55 0 0<|
 .k 58 .bool 62 [(.t 57),y81]<|
 .P 59 (.un .not (.t 58))<|
 .m 54 59<|
 .nil)
 (.cond (.tmp 54) (.z (.bP 61 0 y78 103<|
 .bE 60 0 1 2<|
 .pal 9 [] 38 [y0,y3,y0]<|
 .m 8 63<|
 .op none y4 [9,64] (.store 3 (.t 9) (.t 64))<|
 .aC 10 65)
 (.seq (.z (.m 66 10<|
 .aL 67 66)
 (.cond (.tmp 67) (.z (.aH 4 y1)
 .ret)
 .skip))
 (.ops (.cP 68 1 1 8<|
 .n 71 68<|
 .bA 72 2 71 1 OK<|
 .n 73 69<|
 .aT 74 5 73 1 70))))
 .skip)))))
 (.keep [(0,.ptr),(1,.ptr)] [] [] a))
def PE(E:EB)(D:Am)(W:AJ)(l:Nat->Nat->Nat->Nat->H->AH)(a b c d:Nat)(U:H):AH:=
 cB (D 62 [.ptr a b,sN 2 11822] U) λe f=>
 AG (not e) (
 lB E f c (AN d 1) λe=>
 lI E f c (AN d 4) λg=>
 Cg 1 c (AN d 2) (V.bool e) f λe=>
 Cg 1 c (AN d 5) (V.int .i64 g) e λe=>
 l a b c d e) (
 cB (D 62 [.ptr a b,sN 3 5783885] f) λe f=>
 AG (not e) (
 cT (D 103 [.ptr a b] f) λe g=>
 F0 .i64 e λe h=>
 Aj h λh i=>
 Cl h λh=>
 uG h λh j k=>
 LA i λh i=>
 BD i (
 AG (not h) (
 rB false g) (
 Cg 1 c (AN d 2) (V.bool true) g λg=>
 Cg 1 c (AN d 5) (V.int .i64 e) g λe=>
 l a b c d e))) (
 l a b c d f))
def AL2:XC:=(.seq (.z (.cL 75 0 0 .bool 62 kF<|
 .nil)
 (.cond (.tmp 78) (.z (.aA 79 1 3<|
 .op none .any [81] (.store 1 (.t 81) OK)<|
 .nil)
 (.z (.m 82 0<|
 .p 83 [] (.buildSlice 9 1 [y3] [(0,1,xX)])<|
 .k 84 .bool 27 [(.t 82),(.t 83)]<|
 .aC 4 84)
 .ret))
 .skip))
 (.z (.aH 4 y9)
 .ret))
def RY(E:EB)(D:Am)(W:AJ)(a b c d:Nat)(U:H):AH:=
 cB (D 62 [.ptr a b,sN 1 44] U) λe f=>
 AG e (
 Cg 1 c (AN d 3) (V.bool true) f λe=>
 let g:=B9 e (.cells [sN 3 3026478]);
 cB (D 27 [.ptr a b,.sl (H.next e) 0 1 (.ex 1)] g) λe g=>
 rB e g) (
 rB true f)
def AKI(E:EB)(D:Am)(W:AJ)(N:Nat):=RY E D W
def AKJ:=PE E D W (AKI E D W N )
def F93(e:List V)(U:H):AH:=
 uY e λa b c d=>
 TQ E D W (AKJ E D W N ) a b c d U
def A93:Dg:=⟨85,[.ptr,.ptr],[(.tmp 4)],(AL4 (AL3 AL2))⟩
theorem AKp b U:Bt E D W N A93 b U=F93 E D W N b U:=by kernel_rfl
def Wi:List (Nat × DN):=[(0,.ptr),(1,.ptr)]
def PW:List Bf:=[⟨(some 48),.mov (.tmp 1),none⟩,⟨(some 49),.mov (.tmp 1),none⟩,⟨(some 50),.nilck (.tmp 49),none⟩,⟨(some 51),.faddr 11 (.tmp 50),none⟩,⟨(some 52),.load none (.tmp 51),none⟩,⟨(some 53),.load (some 3) (.tmp 5),none⟩,⟨(some 54),.buildSlice 88 1 [(V.str ⟨0,0⟩),(V.int .i64 (AA 0)),(V.bool false)] [(0,3,(.tmp 53))],none⟩,⟨(some 55),.append 88 3 32 (.tmp 52) (.tmp 54),none⟩,⟨(some 56),.nilck (.tmp 48),none⟩,⟨(some 57),.faddr 11 (.tmp 56),none⟩,⟨none,.store 1 (.tmp 57) (.tmp 55),none⟩]
def Mk:List DP:=[⟨0,[1]⟩,⟨0,[1]⟩,⟨2,[49]⟩,⟨6,[50]⟩,⟨14,[51]⟩,⟨0,[5]⟩,⟨32,[53]⟩,⟨126,[52,54]⟩,⟨255,[48]⟩,⟨511,[56]⟩,⟨1023,[57,55]⟩]
def PX(E:EB):St->AH:=λs=>Dy E s [(.tmp 4)] λl=>some (Ek l,s.U)
def AIK(c0:XC):Nat->St->AH:=CQ 0 (dX E D W N (.keep Wi [] [] c0) (PX E) nX (PX E)) nX
def ze(b:XC)(a:XC):XC:=(.z (.aH 4 y1)
 (.seq (.z (.m 7 0<|
 .p 8 [] (.buildSlice 9 1 [y3] [(0,1,ub)])<|
 .k 9 .bool 27 [(.t 7),(.t 8)]<|
 .aL 10 9)
 (.cond (.tmp 10) (.z (.aH 4 y1)
 .ret)
 .skip))
 (.seq (.block 0 (.loop Wi [] [] a))
 (.keep Wi [] [] b))))
def dW(E:EB)(D:Am)(W:AJ)(g:Nat->Nat->Nat->Nat->H->AH)(a b c d:Nat)(U:H):AH:=
 let e:=B9 U (.cells [sN 1 123]);
 cB (D 27 [.ptr a b,.sl (H.next U) 0 1 (.ex 1)] e) λe f=>
 AG (not e) (
 rB false f) (
 g a b c d f)
def Pf(a:XC):XC:=(.seq (.z (.aX 63 1 14 .bool<|
 .aL 67 66)
 (.cond (.tmp 67) (.ops (.m 68 1<|
 .aX 69 1 11 .any<|
 .u 73 72<|
 .n 74 68<|
 .aT 75 13 74 1 73))
 .skip))
 (.keep [(0,.ptr)] [] [] a))
def Xc(E:EB)(D:Am)(W:AJ)(f:Nat->Nat->H->AH)(a b c d:Nat)(U:H):AH:=
 lB E U c (AN d 14) λe=>
 AG (not e) (
 lL E U c (AN d 11) λe=>
 Cg 1 c (AN d 13) (V.int .i64 (AA e)) U λe=>
 f a b e) (
 f a b U)
def fp(a:XC):XC:=(.block 1 (.seq (.z (.m 11 1<|
 .n 12 11<|
 .aO 13 11 12 .any<|
 .u 15 14<|
 .bQ 16 15 0<|
 .gA 17 true (.p 18 [1,17] M9<|
 .p 19 [18,17] (.nilck (.t 18))<|
 .bD 20 19 17 14 19 17<|
 .cG 22 21 17 21) 23 17 22<|
 .m 24 23<|
 .gA 24 true (.p 25 [0,24] y6<|
 .bI 26 25 24 25 24 0<|
 .op (some 28) .bool [27,24] (.call 62 [(.t 27),xX])<|
 .nil) 29 24 28<|
 .nil)
 (.cond (.tmp 29) (.ops (.aD 30 1 1<|
 .aX 32 1 11 .any<|
 .u 36 35<|
 .n 37 30<|
 .bA 38 14 37 1 OK<|
 .n 39 31<|
 .aT 40 13 39 1 36))
 (.z (.m 42 0<|
 .k 43 (.tup [Z5,.bool]) 104 [(.t 42)]<|
 .m 41 43<|
 .aB 44 0 41 1 41<|
 .p 5 [] (.alloc 88 [y3,y0,y1])<|
 .op none Z5 [5,44] (.store 3 (.t 5) (.t 44))<|
 .aC 6 45)
 (.seq (.z (.m 46 6<|
 .aL 47 46)
 (.cond (.tmp 47) (.z (.aH 4 y1)
 .ret)
 .skip))
 (.keep [(0,.ptr),(1,.ptr),(5,.ptr)] [] [] (.gdraw PW Mk Wi))))))
 (.keep Wi [] [] a)))
def dV(n:Nat->Nat->Nat->Nat->H->AH)(a b c d:Nat)(U:H):AH:=
 lL E U c (AN d 11) λe=>
 Ab (λf g=>
 Ab (λh i=>
 AG h (
 lL E i c (AN d 11) λh=>
 Cg 1 c (AN d 14) (V.bool true) i λj=>
 Cg 1 c (AN d 13) (V.int .i64 (AA h)) j λh=>
 n a b c d h) (
 cT (D 104 [.ptr a b] i) λh i=>
 Aj h λh j=>
 Cl h λh=>
 uZ h λh k l=>
 LA j λj m=>
 BD m (
 let m:=B9 i (.cells [.str ⟨0,0⟩,iN 0,.bool false]);
 Cg 3 (H.next i) 0 (V.agg (eZ h k l)) m λh=>
 AG (not j) (
 rB false h) (
 DZ (W PW Mk [(0,.ptr a b),(1,.ptr c d),(5,.ptr (H.next i) 0)] h) λh i=>
 EO h 0 λj=>
 CM j λj k=>
 EO h 1 λh=>
 CM h λh l=>
 n j k h l i)))) λh=>
 AG f (
 cB (D 62 [.ptr a b,sN 3 3026478] g) λf i=>
 h f i) (
 h false g)) λf=>
 AG (Cw (AA 0) (AA e)) (
 lB E U c (AN d 14) λe=>
 f (not e) U) (
 f false U)
def T3:XC:=(.z (.aA 58 0 0<|
 .k 61 .bool 62 [(.t 60),kF]<|
 .aL 62 61)
 (.cond (.tmp 62) QU
 .skip))
def Xb(E:EB)(D:Am)(W:AJ)(g:Nat->Nat->Nat->Nat->H->AH)(h:Nat->Nat->Nat->Nat->H->AH)(a b c d:Nat)(U:H):AH:=
 cB (D 62 [.ptr a b,sN 1 44] U) λe f=>
 AG (not e) (
 g a b c d f) (
 h a b c d f)
def Pe:XC:=(.z (.m 76 0<|
 .p 77 [] (.buildSlice 9 1 [y3] [(0,1,ua)])<|
 .k 78 .bool 27 [(.t 76),(.t 77)]<|
 .aC 4 78)
 .ret)
def ou(E:EB)(D:Am)(W:AJ)(a b:Nat)(U:H):AH:=
 let c:=B9 U (.cells [sN 1 125]);
 cB (D 27 [.ptr a b,.sl (H.next U) 0 1 (.ex 1)] c) λc d=>
 rB c d
def Xz(a b c d:Nat)(U:H):St:=⟨[(0,.ptr a b),(1,.ptr c d)],[],[],U⟩
def AKH(E:EB)(D:Am)(W:AJ)(N:Nat):=ou E D W
def rO:=Xc E D W (AKH E D W N )
theorem AC0:
 (λa b c d U=>A0 E D W N (Pf Pe) (Xz a b c d U) (PX E) nX (PX E))=rO E D W N:=by
 unfold rO;kernel_rfl
def rN(a:Nat->Nat->Nat->Nat->H->AH):=Xb E D W (rO E D W N ) a
theorem ACz li2:
 (λa b c d U=>A0 E D W N T3 (Xz a b c d U) (kX Wi [] [] li2) (CQ 1 (kX Wi [] [] li2) (AIK E D W N (Pf Pe))) (PX E))=rN E D W N (λa b c d U=>li2 (Xz a b c d U)):=by
 unfold rN;rw[<-AC0];generalize Pf Pe=k;revert k;refine id ?_;intros;kernel_rfl
def X4(n:Nat):Nat->Nat->Nat->Nat->H->AH:=
 Nat.rec (λ_ _ _ _ _=>none) (λ_ a=>dV E D W (rN E D W N a)) n
theorem ACH n:
 (λa b c d U=>Bw (λj k=>A0 E D W N (fp T3) k (kX Wi [] [] j) (AIK E D W N (Pf Pe)) (PX E)) n (Xz a b c d U))=X4 E D W N n:=Yn (λli=>by rw[<-ACz];generalize Pf Pe=l,T3=m;revert l m;refine id ?_;intros;kernel_rfl) n
def rR:=dW E D W (X4 E D W N N)
theorem AC1:
 (λa b c d U=>A0 E D W N (ze (Pf Pe) (fp T3)) (Xz a b c d U) (PX E) nX (PX E))=rR E D W N:=by
 unfold rR;rw[<-ACH];generalize Pf Pe=k,fp T3=l;revert k l;refine id ?_;intros;kernel_rfl
def F94(e:List V)(U:H):AH:=
 uY e λa b c d=>
 rR E D W N a b c d U
def A94:Dg:=⟨79,[.ptr,.ptr],[(.tmp 4)],(ze (Pf Pe) (fp T3))⟩
theorem AKo b U:Bt E D W N A94 b U=F94 E D W N b U:=by
 unfold F94;rw[<-AC1];kernel_rfl
def AHC:List (Nat × DN):=[(0,.ptr),(1,.ptr),(2,.i),(7,.bool)]
def YT(E:EB):St->AH:=λs=>Dy E s [(.tmp 6)] λl=>some (Ek l,s.U)
def AOm(c0:XC):Nat->St->AH:=CQ 0 (dX E D W N (.keep [(0,.ptr),(1,.ptr)] [] [] c0) (YT E) nX (YT E)) nX
def zd(b:XC)(a:XC):XC:=(.z (.aH 6 y1)
 (.seq (.z (.m 8 0<|
 .p 9 [] (.buildSlice 9 1 [y3] [(0,1,ub)])<|
 .k 10 .bool 27 [(.t 8),(.t 9)]<|
 .aL 11 10)
 (.cond (.tmp 11) (.z (.aH 6 y1)
 .ret)
 .skip))
 (.seq (.z (.cL 12 0 0 .bool 28 ua<|
 .P 16 (.un .not (.t 15))<|
 .m 7 16<|
 .nil)
 (.block 0 (.loop AHC [] [] a)))
 (.keep [(0,.ptr),(1,.ptr)] [] [] b))))
def dU(E:EB)(D:Am)(W:AJ)(h:Nat->Nat->Nat->Nat->Int->Bool->H->AH)(a b c d:Nat)(e:Int)(U:H):AH:=
 let f:=B9 U (.cells [sN 1 123]);
 cB (D 27 [.ptr a b,.sl (H.next U) 0 1 (.ex 1)] f) λf g=>
 AG (not f) (
 rB false g) (
 cB (D 28 [.ptr a b,sN 1 125] g) λf g=>
 h a b c d e (not f) g)
def fm:XC:=(.z (.m 51 1<|
 .aX 52 1 12 .any<|
 .u 56 55<|
 .n 57 51<|
 .aT 58 13 57 1 56)
 (.z (.m 59 0<|
 .p 60 [] (.buildSlice 9 1 [y3] [(0,1,ua)])<|
 .k 61 .bool 27 [(.t 59),(.t 60)]<|
 .aC 6 61)
 .ret))
def ot(E:EB)(D:Am)(W:AJ)(a b c d:Nat)(U:H):AH:=
 lL E U c (AN d 12) λe=>
 Cg 1 c (AN d 13) (V.int .i64 (AA e)) U λe=>
 let f:=B9 e (.cells [sN 1 125]);
 cB (D 27 [.ptr a b,.sl (H.next e) 0 1 (.ex 1)] f) λe f=>
 rB e f
def fk:XC:=(.seq (.z (.aC 17 7)
 (.cond (.tmp 17) .skip
 QU))
 (.seq (.block 1 (.seq (.z (.cL 22 0 0 .bool 62 xX<|
 .nil)
 (.cond (.tmp 25) (.z (.aD 26 1 1<|
 .aX 28 1 12 .any<|
 .u 32 31<|
 .n 33 26<|
 .bA 34 14 33 1 OK<|
 .n 35 27<|
 .aT 36 13 35 1 32)
 (.z (.cP 37 0 1 2<|
 .k 40 .bool 105 [(.t 37),(.t 38),(.t 39)]<|
 .m 41 40<|
 .gA 41 true (.p 42 [0,41] y6<|
 .p 43 [41] (.buildSlice 9 1 [y3] [(0,1,ua)])<|
 .op (some 44) .bool [42,43,41] (.call 27 [(.t 42),(.t 43)])<|
 .nil) 45 41 44<|
 .aC 6 45)
 .ret))
 .skip))
 (.z (.cP 46 0 1 2<|
 .k 49 .bool 106 [(.t 46),(.t 47),(.i 0),(.t 48)]<|
 .aL 50 49)
 (.cond (.tmp 50) (.z (.aH 6 y1)
 .ret)
 .skip))))
 (.ops (.cL 18 0 0 .bool 62 kF<|
 .aC 7 21))))
def RX(E:EB)(D:Am)(W:AJ)(l:Nat->Nat->Nat->Nat->H->AH)(m:Nat->Nat->Nat->Nat->Int->Bool->H->AH)(a b c d:Nat)(e:Int)(f:Bool)(U:H):AH:=
 AG f (
 cB (D 62 [.ptr a b,sN 3 3026478] U) λg h=>
 AG g (
 lL E h c (AN d 12) λg=>
 Cg 1 c (AN d 14) (V.bool true) h λi=>
 Cg 1 c (AN d 13) (V.int .i64 (AA g)) i λg=>
 cB (D 105 [.ptr a b,.ptr c d,.int .i64 e] g) λg i=>
 Ab (λj k=>
 rB j k) λj=>
 AG g (
 let g:=B9 i (.cells [sN 1 125]);
 cB (D 27 [.ptr a b,.sl (H.next i) 0 1 (.ex 1)] g) λg k=>
 j g k) (
 j false i)) (
 cB (D 106 [.ptr a b,.ptr c d,iN 0,.int .i64 e] h) λg h=>
 AG (not g) (
 rB false h) (
 cB (D 62 [.ptr a b,sN 1 44] h) λg h=>
 m a b c d e g h))) (
 l a b c d U)
def AI3(a b c d:Nat)(e:Int)(U:H):St:=⟨[(0,.ptr a b),(1,.ptr c d),(2,.int .i64 e)],[],[],U⟩
def AI2(a b c d:Nat)(e:Int)(f:Bool)(U:H):St:=⟨[(0,.ptr a b),(1,.ptr c d),(2,.int .i64 e),(7,.bool f)],[],[],U⟩
def AKG(E:EB)(D:Am)(W:AJ)(N:Nat):=ot E D W
def X3(n:Nat):Nat->Nat->Nat->Nat->Int->Bool->H->AH:=
 Nat.rec (λ_ _ _ _ _ _ _=>none) (λ_ a=>RX E D W (AKG E D W N ) a) n
theorem ACG n:
 (λa b c d e f U=>Bw (λh i=>A0 E D W N fk i (kX AHC [] [] h) (AOm E D W N fm) (YT E)) n (AI2 a b c d e f U))=X3 E D W N n:=lp7 (λ_=>by kernel_rfl) n
def rM:=dU E D W (X3 E D W N N)
theorem ACy:
 (λa b c d e U=>A0 E D W N (zd fm fk) (AI3 a b c d e U) (YT E) nX (YT E))=rM E D W N:=by
 unfold rM;rw[<-ACG];generalize fm=l,fk=m;revert l m;refine id ?_;intros;kernel_rfl
def F95(f:List V)(U:H):AH:=
 uS f λa b c d e=>
 rM E D W N a b c d e U
def A95:Dg:=⟨62,[.ptr,.ptr,.i],[(.tmp 6)],(zd fm fk)⟩
theorem AKn b U:Bt E D W N A95 b U=F95 E D W N b U:=by
 unfold F95;rw[<-ACy];kernel_rfl
def AL1:XC:=(.z (.aH 6 y1)
 (.seq (.z (.cL 8 0 0 .bool 28 ub<|
 .nil)
 (.cond (.tmp 11) (.z (.bB 12 1 0 1 7)
 (.z (.cP 15 0 1 2<|
 .k 18 .bool 95 [(.t 15),(.t 16),(.t 17)]<|
 .aC 6 18)
 .ret))
 .skip))
 (.z (.bB 19 1 0 1 10)
 (.seq (.z (.m 22 0<|
 .aA 23 1 5<|
 .k 26 .bool 92 [(.t 22),(.t 25)]<|
 .P 27 (.un .not (.t 26))<|
 .m 28 27<|
 .gO 28 false (.p 29 [0,28] y6<|
 .p 30 [28] (.buildSlice 9 1 [y3] [(0,1,(.con (V.str ⟨2,17999⟩)))])<|
 .op (some 31) .bool [29,30,28] (.call 27 [(.t 29),(.t 30)])<|
 .cG 32 31 28 31) 33 28 32<|
 .nil)
 (.cond (.tmp 33) (.z (.aH 6 y1)
 .ret)
 .skip))
 (.z (.aH 7 y1)
 (.z (.aD 35 1 0<|
 .aK 37 2 1<|
 .k 39 (.tup [.i,.bool]) 63 [(.t 36),(.t 38)]<|
 .m 34 39<|
 .aB 40 0 34 1 34<|
 .n 42 35<|
 .f 43 15 42<|
 .w 1 43 40<|
 .aC 7 41)
 (.z (.m 44 7<|
 .aC 6 44)
 .ret)))))))
def TP(E:EB)(D:Am)(W:AJ)(a b c d:Nat)(e:Int)(U:H):AH:=
 cB (D 28 [.ptr a b,sN 1 123] U) λf g=>
 AG f (
 Cg 1 c d (iN 7) g λf=>
 cB (D 95 [.ptr a b,.ptr c d,.int .i64 e] f) λf h=>
 rB f h) (
 Cg 1 c d (iN 10) g λf=>
 cB (D 92 [.ptr a b,.ptr c (AN d 5)] f) λf g=>
 Ab (λh i=>
 AG h (
 rB false i) (
 cT (D 63 [.ptr a b,.int .i64 (BP .i64 e (AA 1))] i) λh i=>
 uR h λh j=>
 Cg 1 c (AN d 15) (V.int .i64 h) i λh=>
 rB j h)) λh=>
 AG (not f) (
 h true g) (
 let f:=B9 g (.cells [sN 2 17999]);
 cB (D 27 [.ptr a b,.sl (H.next g) 0 1 (.ex 1)] f) λf g=>
 h (not f) g))
def F96(N:Nat)(f:List V)(U:H):AH:=
 uS f λa b c d e=>
 TP E D W a b c d e U
def A96:Dg:=⟨45,[.ptr,.ptr,.i],[(.tmp 6)],AL1⟩
theorem AKm b U:Bt E D W N A96 b U=F96 E D W N b U:=by kernel_rfl
def AL0(a:XC):XC:=(.z (.pal 2 [] 94 [y0,y0,V.nils,V.nils,y0,V.nils]<|
 .nil)
 (.z (.bP 4 0 y4 15<|
 .pal 3 [] 38 [y0,y3,y0]<|
 .op none y4 [3,5] (.store 3 (.t 3) (.t 5))<|
 .nil)
 (.seq (.block 0 (.z (.cQ 10 0 7 0<|
 .m 9 14<|
 .nil)
 (.cond (.tmp 9) .skip
 (.z (.m 16 0<|
 .aU 17 .bool 14 16 y76 15)
 (.cond (.tmp 15) (.z (.op (some 18) y5 [] (.build [y0,y0,V.nils,V.nils,y0,V.nils] [(0,1,(.i 1)),(1,1,(.i 1))])<|
 .op none y5 [2,18] (.store 6 (.t 2) (.t 18))<|
 .nil)
 .ret)
 (.z (.m 20 0<|
 .aU 21 .bool 14 20 y70 19)
 (.cond (.tmp 19) (.z (.op (some 22) y5 [] (.build [y0,y0,V.nils,V.nils,y0,V.nils] [(0,1,(.i 1))])<|
 .op none y5 [2,22] (.store 6 (.t 2) (.t 22))<|
 .nil)
 .ret)
 (.z (.m 24 0<|
 .aU 25 .bool 14 24 xY 23)
 (.cond (.tmp 23) (.z (.op (some 26) y5 [] (.build [y0,y0,V.nils,V.nils,y0,V.nils] [(0,1,(.i 4))])<|
 .op none y5 [2,26] (.store 6 (.t 2) (.t 26))<|
 .nil)
 .ret)
 (.z (.aO 28 0 3 .i<|
 .aN 30 29 3 27)
 (.cond (.tmp 27) (.z (.m 31 0<|
 .k 32 y4 31 [(.t 31)]<|
 .O 33 .str (.field 1 none (.t 32))<|
 .k 34 .i 64 [(.t 33)]<|
 .op (some 35) y5 [34] (.build [y0,y0,V.nils,V.nils,y0,V.nils] [(0,1,(.i 2)),(1,1,(.t 34))])<|
 .op none y5 [2,35] (.store 6 (.t 2) (.t 35))<|
 .nil)
 .ret)
 (.z (.aO 37 0 3 .i<|
 .aN 39 38 2 36)
 (.cond (.tmp 36) (.z (.bP 40 0 y4 31<|
 .O 42 .str (.field 1 none (.t 41))<|
 .P 43 (.conv (.toBytes 5) (.t 42))<|
 .op (some 44) y5 [43] (.build [y0,y0,V.nils,V.nils,y0,V.nils] [(0,1,(.i 3)),(2,1,(.t 43))])<|
 .op none y5 [2,44] (.store 6 (.t 2) (.t 44))<|
 .nil)
 .ret)
 (.z (.aO 46 0 3 .i<|
 .aN 48 47 4 45)
 (.cond (.tmp 45) (.z (.bP 49 0 y4 31<|
 .O 51 .str (.field 1 none (.t 50))<|
 .k 52 .one 107 [(.t 51)]<|
 .op (some 53) y5 [52] (.build [y0,y0,V.nils,V.nils,y0,V.nils] [(0,1,(.i 5)),(2,1,(.t 52))])<|
 .op none y5 [2,53] (.store 6 (.t 2) (.t 53))<|
 .nil)
 .ret)
 (.z (.aO 55 0 3 .i<|
 .aN 57 56 7 54)
 (.cond (.tmp 54) (.z (.bP 58 0 y4 31<|
 .O 60 .str (.field 1 none (.t 59))<|
 .P 61 (.conv (.toBytes 5) (.t 60))<|
 .op (some 62) y5 [61] (.build [y0,y0,V.nils,V.nils,y0,V.nils] [(0,1,(.i 6)),(2,1,(.t 61))])<|
 .op none y5 [2,62] (.store 6 (.t 2) (.t 62))<|
 .nil)
 .ret)
 (.ops (.cK 6 0 y4 3 3<|
 .k 8 Jl 16 [(.t 6),(.i 7),(.t 7)]<|
 .nil)))))))))))))))))))
 (.keep [] [2] [(2,[.i,.i,.any,.any,.i,.any])] a))))
def Lp(E:EB)(D:Am)(W:AJ)(n:Int->Int->V->V->Int->V->H->AH)(a b:Nat)(U:H):AH:=
 cA (D 15 [.ptr a b] U) λc d=>
 uG c λc e f=>
 lI E d a (AN b 7) λg=>
 AG (not (Cc g (AA 0))) (
 n (AA 0) (AA 0) V.nils V.nils (AA 0) V.nils d) (
 cB (D 14 [.ptr a b,sN 4 1163219540] d) λd g=>
 AG d (
 some ((V.agg [iN 1,iN 1,V.nils,V.nils,iN 0,V.nils]),g)) (
 cB (D 14 [.ptr a b,sN 5 297750249798] g) λd g=>
 AG d (
 some ((V.agg [iN 1,iN 0,V.nils,V.nils,iN 0,V.nils]),g)) (
 cB (D 14 [.ptr a b,sN 4 1280070990] g) λd g=>
 AG d (
 some ((V.agg [iN 4,iN 0,V.nils,V.nils,iN 0,V.nils]),g)) (
 AG (Cc c (AA 3)) (
 cA (D 31 [.ptr a b] g) λd h=>
 uG d λd i j=>
 cI (D 64 [.str i] h) λd h=>
 some ((V.agg [iN 2,.int .i64 d,V.nils,V.nils,iN 0,V.nils]),h)) (
 AG (Cc c (AA 2)) (
 cA (D 31 [.ptr a b] g) λd h=>
 uG d λd i j=>
 JK (Ac (BS.len i) 1000000000000) (
 let d:=B9 h (.cells (Pu (BS.toList i)));
 some ((V.agg [iN 3,iN 0,.sl (H.next h) 0 (BS.len i) (.op 1),V.nils,iN 0,V.nils]),d))) (
 AG (Cc c (AA 4)) (
 cA (D 31 [.ptr a b] g) λd h=>
 uG d λd i j=>
 BT (D 107 [.str i] h) λd h=>
 E2 d (
 JQ [(0,1,(iN 5)),(2,1,d)] [iN 0,iN 0,V.nils,V.nils,iN 0,V.nils] λd=>
 uV d λd i j k l m=>
 JK (BM (eV d i j k l m)) (
 some ((V.agg (eV d i j k l m)),h)))) (
 AG (Cc c (AA 7)) (
 cA (D 31 [.ptr a b] g) λd h=>
 uG d λd i j=>
 JK (Ac (BS.len i) 1000000000000) (
 let d:=B9 h (.cells (Pu (BS.toList i)));
 some ((V.agg [iN 6,iN 0,.sl (H.next h) 0 (BS.len i) (.op 1),V.nils,iN 0,V.nils]),d))) (
 c0 (D 16 [.ptr a b,iN 7,.agg (eG c e f)] g) λc=>
 n (AA 0) (AA 0) V.nils V.nils (AA 0) V.nils c))))))))
def ALz:XC:=(.z (.op (some 63) y5 [] (.build [y0,y0,V.nils,V.nils,y0,V.nils] [])<|
 .op none y5 [2,63] (.store 6 (.t 2) (.t 63))<|
 .nil)
 .ret)
def dT(E:EB)(D:Am)(W:AJ)(a b:Int)(c d:V)(e:Int)(f:V)(U:H):AH:=
 some ((V.agg [iN 0,iN 0,V.nils,V.nils,iN 0,V.nils]),U)
def AKF(E:EB)(D:Am)(W:AJ)(N:Nat):=dT E D W
def F97(d:List V)(U:H):AH:=
 Aj d λa b=>
 CM a λa c=>
 BD b (
 Lp E D W (AKF E D W N ) a c U)
def A97:Dg:=⟨64,[.ptr],[(.cell 2 (some 6))],(AL0 ALz)⟩
theorem AKl b U:Bt E D W N A97 b U=F97 E D W N b U:=by kernel_rfl
end
noncomputable section
variable (E:EB) (D:Am) (W:AJ) (N:Nat)
def jA:List (Nat × DN):=[(1,.i),(8,.bool),(9,.str),(10,(.int .u64)),(11,(.int .u64)),(12,.bool),(13,(.int .u64)),(99,.any),(100,.i),(101,.i)]
def AHB:List (Nat × DN):=[(9,.str),(12,.bool),(13,(.int .u64))]
def JU(E:EB):St->AH:=λs=>Dy E s [(.tmp 6),(.tmp 7)] λl=>some (Ek l,s.U)
def wV(c0:XC):Nat->St->AH:=CQ 3 (dX E D W N (.keep AHB [] [] c0) (JU E) nX (JU E)) nX
def AIJ(c0 b:XC)(a:St->AH):St->AH:=dX E D W N (.keep jA [] [] c0) (kX jA [] [] a) (wV E D W N b) (JU E)
def zc(a:XC):XC:=(.z (.c 6 Sp<|
 .c 7 V.nili<|
 .nil)
 (.seq (.z (.m 18 0<|
 .b 19 .eql .none (.t 18) (.con y3)<|
 .nil)
 (.cond (.tmp 19) (.z (.P 20 (.mkifc 144 (.i 2))<|
 .c 6 Sp<|
 .aC 7 20)
 .ret)
 .skip))
 (.z (.m 21 1<|
 .b 22 .eql .none (.t 21) (.i 0)<|
 .aC 8 22)
 (.z (.m 23 0<|
 .aC 9 23)
 (.seq (.block 0 (.z (.m 26 1<|
 .b 27 .leq .none (.i 2) (.t 26)<|
 .m 28 27<|
 .gA 28 true (.p 29 [1,28] M9<|
 .p 30 [29,28] (.bin .leq .none (.t 29) (.i 36))<|
 .nil) 31 28 30<|
 .m 25 31<|
 .nil)
 (.cond (.tmp 25) .skip
 (.z (.m 33 1<|
 .aN 34 33 0 32)
 (.cond (.tmp 32) (.z (.q 1 10<|
 .nil)
 (.z (.bF 35 0 0<|
 .b 37 .eql .none (.t 36) UZ<|
 .nil)
 (.cond (.tmp 37) (.block 1 (.z (.aW 41 0<|
 .b 43 .geq .none (.t 42) (.i 3)<|
 .m 44 43<|
 .gA 44 true (.aZ 45 0 44 y6 44 1<|
 .op (some 47) (.int .u8) [46,44] (.call 108 [(.t 46)])<|
 .bM 48 47 44 47 98) 49 44 48<|
 .m 40 49<|
 .nil)
 (.cond (.tmp 40) (.z (.q 1 2<|
 .nil)
 (.ops (.aY 50 0 2<|
 .aC 0 51)))
 (.z (.aW 53 0<|
 .b 55 .geq .none (.t 54) (.i 3)<|
 .m 56 55<|
 .gA 56 true (.aZ 57 0 56 y6 56 1<|
 .op (some 59) (.int .u8) [58,56] (.call 108 [(.t 58)])<|
 .bM 60 59 56 59 111) 61 56 60<|
 .m 52 61<|
 .nil)
 (.cond (.tmp 52) (.z (.q 1 8<|
 .nil)
 (.ops (.aY 62 0 2<|
 .aC 0 63)))
 (.z (.aW 65 0<|
 .b 67 .geq .none (.t 66) (.i 3)<|
 .m 68 67<|
 .gA 68 true (.aZ 69 0 68 y6 68 1<|
 .op (some 71) (.int .u8) [70,68] (.call 108 [(.t 70)])<|
 .bM 72 71 68 71 120) 73 68 72<|
 .m 64 73<|
 .nil)
 (.cond (.tmp 64) (.z (.bV 1 16)
 (.ops (.aY 74 0 2<|
 .aC 0 75)))
 (.z (.q 1 8<|
 .nil)
 (.ops (.aY 38 0 1<|
 .aC 0 39))))))))))
 .skip)))
 (.z (.P 24 (.mkifc 144 (.i 3))<|
 .c 6 Sp<|
 .aC 7 24)
 .ret))))))
 (.keep [(0,.str),(1,.i),(2,.i),(8,.bool),(9,.str)] [] [] a))))))
def oq(E:EB)(D:Am)(W:AJ)(j:BS->Int->Int->Bool->BS->H->AH)(a:BS)(b c:Int)(U:H):AH:=
 AG (BS.beq a (BS.mk 0 0)) (
 some ((V.tup [.int .u64 (AA 0),.ifc 144 (iN 2)]),U)) (
 Ab (λd e=>
 AG d (
 j a b c (Cc b (AA 0)) a e) (
 AG (Cc b (AA 0)) (
 Az a (AA 0) λd=>
 AG (Cc d (AA 48)) (
 Ab (λd f=>
 AG d (
 BA a (some (iN 2)) none λd=>
 j d (AA 2) c (Cc b (AA 0)) a f) (
 Ab (λd g=>
 AG d (
 BA a (some (iN 2)) none λd=>
 j d (AA 8) c (Cc b (AA 0)) a g) (
 Ab (λd h=>
 AG d (
 BA a (some (iN 2)) none λd=>
 j d (AA 16) c (Cc b (AA 0)) a h) (
 BA a (some (iN 1)) none λd=>
 j d (AA 8) c (Cc b (AA 0)) a h)) λd=>
 AG (I2 (AA 3) (AA (BS.len a))) (
 Az a (AA 1) λh=>
 BT (D 108 [.int .u8 h] g) λh i=>
 BZ .u8 h λh=>
 d (Cc h (AA 120)) i) (
 d false g))) λd=>
 AG (I2 (AA 3) (AA (BS.len a))) (
 Az a (AA 1) λg=>
 BT (D 108 [.int .u8 g] f) λg h=>
 BZ .u8 g λg=>
 d (Cc g (AA 111)) h) (
 d false f))) λd=>
 AG (I2 (AA 3) (AA (BS.len a))) (
 Az a (AA 1) λf=>
 BT (D 108 [.int .u8 f] e) λf g=>
 BZ .u8 f λf=>
 d (Cc f (AA 98)) g) (
 d false e)) (
 j a (AA 10) c (Cc b (AA 0)) a e)) (
 some ((V.tup [.int .u64 (AA 0),.ifc 144 (iN 3)]),e)))) λd=>
 AG (I2 (AA 2) b) (
 d (I2 b (AA 36)) U) (
 d false U))
def fj(a:XC):XC:=(.seq (.z (.m 76 2<|
 .cE 77 76 0)
 (.cond (.tmp 77) (.ops (.bV 2 64))
 (.z (.m 78 2<|
 .bU 79 78 0<|
 .gO 80 false (.p 81 [2,80] (.mov (.t 2))<|
 .p 82 [81,80] (.bin .gtr .none (.t 81) (.i 64))<|
 .nil) 83 80 82<|
 .nil)
 (.cond (.tmp 83) (.z (.P 84 (.mkifc 144 (.i 4))<|
 .c 6 Sp<|
 .aC 7 84)
 .ret)
 .skip))))
 (.keep [(0,.str),(1,.i),(2,.i),(8,.bool),(9,.str)] [] [] a))
def om(E:EB)(D:Am)(W:AJ)(h:BS->Int->Int->Bool->BS->H->AH)(a:BS)(b c:Int)(d:Bool)(e:BS)(U:H):AH:=
 AG (Cc c (AA 0)) (
 h a b (AA 64) d e U) (
 Ab (λf g=>
 AG f (
 some ((V.tup [.int .u64 (AA 0),.ifc 144 (iN 4)]),g)) (
 h a b c d e g)) λf=>
 AG (Cw c (AA 0)) (
 f true U) (
 f (Cw (AA 64) c) U))
def T2(a:XC):XC:=(.z (.aH 10 Sp)
 (.seq (.z (.aC 85 1)
 (.block 2 (.z (.aN 91 85 10 90)
 (.cond (.tmp 90) (.ops (.c 10 (V.int .u64 (AA 1844674407370955162))<|
 .nil))
 (.z (.aN 93 85 16 92)
 (.cond (.tmp 92) (.ops (.c 10 (V.int .u64 (AA 1152921504606846976))<|
 .nil))
 (.ops (.m 86 1<|
 .P 87 (.conv (.toInt .u64) (.t 86))<|
 .b 88 .quo .none (.con (V.int .u64 (AA 18446744073709551615))) (.t 87)<|
 .b 89 .add .none (.t 88) y66<|
 .aC 10 89))))))))
 (.keep [(0,.str),(1,.i),(2,.i),(8,.bool),(9,.str),(10,(.int .u64))] [] [] a)))
def oh(E:EB)(D:Am)(W:AJ)(f:BS->Int->Int->Bool->BS->Int->H->AH)(a:BS)(b c:Int)(d:Bool)(e:BS)(U:H):AH:=
 AG (Cc b (AA 10)) (
 f a b c d e (AA 1844674407370955162) U) (
 AG (Cc b (AA 16)) (
 f a b c d e (AA 1152921504606846976) U) (
 nzK (BH .u64 b) (
 f a b c d e (BP .u64 (AA1 .u64 (AA 18446744073709551615) (BH .u64 b)) (AA 1)) U)))
def Pd(b:XC)(a:XC):XC:=(.z (.m 94 2<|
 .P 95 (.conv (.toInt .u64) (.t 94))<|
 .b 96 .shl .none y66 (.t 95)<|
 .b 97 .sub .none (.t 96) y66<|
 .aC 11 97)
 (.z (.aH 12 y1)
 (.z (.aH 13 Sp)
 (.seq (.z (.m 98 0<|
 .P 99 (.conv (.toBytes 5) (.t 98))<|
 .u 100 99<|
 .bV 101 0)
 (.block 3 (.loop jA [] [] a)))
 (.keep AHB [] [] b)))))
def og(E:EB)(D:Am)(W:AJ)(j:Int->Bool->BS->Int->Int->Bool->Int->V->Int->Int->H->AH)(a:BS)(b c:Int)(d:Bool)(e:BS)(f:Int)(U:H):AH:=
 Wt (BH .u64 c) λg=>
 JK (Ac (BS.len a) 1000000000000) (
 let h:=B9 U (.cells (Pu (BS.toList a)));
 BV (V.sl (H.next U) 0 (BS.len a) (.op 1)) λi=>
 j b d e f (Ez .u64 (Eb .u64 (AA 1) g) (AA 1)) false (AA 0) (V.sl (H.next U) 0 (BS.len a) (.op 1)) (AA i) (AA 0) h)
def IV:XC:=(.seq (.z (.m 164 12<|
 .m 165 164<|
 .gA 165 true (.p 166 [9,165] (.mov (.t 9))<|
 .op (some 167) .bool [166,165] (.call 109 [(.t 166)])<|
 .cG 168 167 165 167) 169 165 168<|
 .nil)
 (.cond (.tmp 169) (.z (.P 170 (.mkifc 144 (.i 2))<|
 .c 6 Sp<|
 .aC 7 170)
 .ret)
 .skip))
 (.z (.m 171 13<|
 .m 6 171<|
 .c 7 V.nili<|
 .nil)
 .ret))
def oe(E:EB)(D:Am)(W:AJ)(a:BS)(b:Bool)(c:Int)(U:H):AH:=
 Ab (λd e=>
 AG d (
 some ((V.tup [.int .u64 (AA 0),.ifc 144 (iN 2)]),e)) (
 some ((V.tup [.int .u64 c,V.nili]),e))) λd=>
 AG b (
 cB (D 109 [.str a] U) λe f=>
 d (not e) f) (
 d false U)
def Mm(b:XC)(a:XC):XC:=(.z (.aS 102 101 100)
 (.seq (.cond (.tmp 102) .skip
 (.exit 3))
 (.seq (.block 4 (.z (.s 103 1 99 101<|
 .l 104 (.int .u8) 103<|
 .aC 15 104)
 (.z (.aH 16 Z6)
 (.seq (.block 5 (.z (.m 107 15<|
 .b 108 .eql .none (.t 107) (.con (V.int .u8 (AA 95)))<|
 .m 109 108<|
 .gA 109 true (.p 110 [8,109] tY<|
 .nil) 111 109 110<|
 .m 106 111<|
 .nil)
 (.cond (.tmp 106) (.z (.aH 12 y9)
 (.exit 4))
 (.z (.m 113 15<|
 .b 114 .leq .none UZ (.t 113)<|
 .m 115 114<|
 .gA 115 true (.p 116 [15,115] (.mov (.t 15))<|
 .bG 117 116 115 116 57) 118 115 117<|
 .m 112 118<|
 .nil)
 (.cond (.tmp 112) (.ops (.m 119 15<|
 .b 120 .sub .none (.t 119) UZ<|
 .aC 16 120))
 (.z (.m 122 15<|
 .k 123 (.int .u8) 108 [(.t 122)]<|
 .b 124 .leq .none y65 (.t 123)<|
 .m 125 124<|
 .gA 125 true (.p 126 [15,125] (.mov (.t 15))<|
 .op (some 127) (.int .u8) [126,125] (.call 108 [(.t 126)])<|
 .bG 128 127 125 127 122) 129 125 128<|
 .m 121 129<|
 .nil)
 (.cond (.tmp 121) (.ops (.m 130 15<|
 .k 131 (.int .u8) 108 [(.t 130)]<|
 .b 132 .sub .none (.t 131) y65<|
 .b 133 .add .none (.t 132) y42<|
 .aC 16 133))
 (.z (.P 105 (.mkifc 144 (.i 2))<|
 .c 6 Sp<|
 .aC 7 105)
 .ret))))))))
 (.keep [(1,.i),(8,.bool),(9,.str),(10,(.int .u64)),(11,(.int .u64)),(12,.bool),(13,(.int .u64)),(16,(.int .u8)),(99,.any),(100,.i),(101,.i)] [] [] a)))))
 (.keep jA [] [] b))))
def TO(E:EB)(D:Am)(W:AJ)(t:BS->Bool->Int->H->AH)(s:Int->Bool->BS->Int->Int->Bool->Int->V->Int->Int->H->AH)(r:Int->Bool->BS->Int->Int->Bool->Int->Int->V->Int->Int->H->AH)(a:Int)(b:Bool)(c:BS)(d e:Int)(f:Bool)(g:Int)(h:V)(i j:Int)(U:H):AH:=
 AG (Cw j i) (
 iY E U 1 h j λk=>
 BZ .u8 k λk=>
 Ab (λl m=>
 AG l (
 s a b c d e true g h i j m) (
 Ab (λl n=>
 AG l (
 r a b c d e f g (Ez .u8 k (AA 48)) h i j n) (
 BT (D 108 [.int .u8 k] n) λl n=>
 BZ .u8 l λl=>
 Ab (λo p=>
 AG o (
 BT (D 108 [.int .u8 k] p) λo q=>
 BZ .u8 o λo=>
 r a b c d e f g (BP .u8 (Ez .u8 o (AA 97)) (AA 10)) h i j q) (
 some ((V.tup [.int .u64 (AA 0),.ifc 144 (iN 2)]),p))) λo=>
 AG (I2 (AA 97) l) (
 BT (D 108 [.int .u8 k] n) λl p=>
 BZ .u8 l λl=>
 o (I2 l (AA 122)) p) (
 o false n))) λl=>
 AG (I2 (AA 48) k) (
 l (I2 k (AA 57)) m) (
 l false m))) λl=>
 AG (Cc k (AA 95)) (
 l b U) (
 l false U)) (
 t c f g U)
def JD:XC:=(.ops (.b 163 .add .none (.t 101) (.i 1)<|
 .aC 101 163))
def ob(E:EB)(D:Am)(W:AJ)(k:Int->Bool->BS->Int->Int->Bool->Int->V->Int->Int->H->AH)(a:Int)(b:Bool)(c:BS)(d e:Int)(f:Bool)(g:Int)(h:V)(i j:Int)(U:H):AH:=
 k a b c d e f g h i (BP .i64 j (AA 1)) U
def Kr:XC:=(.seq (.z (.aD 134 16 1<|
 .P 136 (.conv (.toInt .u8) (.t 135))<|
 .b 137 .geq .none (.t 134) (.t 136)<|
 .nil)
 (.cond (.tmp 137) (.z (.P 138 (.mkifc 144 (.i 2))<|
 .c 6 Sp<|
 .aC 7 138)
 .ret)
 .skip))
 (.seq (.z (.aD 139 13 10<|
 .b 141 .geq .none (.t 139) (.t 140)<|
 .nil)
 (.cond (.tmp 141) (.z (.m 142 11<|
 .P 143 (.mkifc 144 (.i 1))<|
 .m 6 142<|
 .aC 7 143)
 .ret)
 .skip))
 (.z (.aD 144 13 1<|
 .P 146 (.conv (.toInt .u64) (.t 145))<|
 .b 147 .mul .none (.t 144) (.t 146)<|
 .aC 13 147)
 (.z (.aD 148 13 16<|
 .P 150 (.conv (.toInt .u64) (.t 149))<|
 .b 151 .add .none (.t 148) (.t 150)<|
 .aC 17 151)
 (.seq (.z (.aD 152 17 13<|
 .b 154 .lss .none (.t 152) (.t 153)<|
 .m 155 154<|
 .gO 155 false (.p 156 [17,155] (.mov (.t 17))<|
 .p 157 [11,155] (.mov (.t 11))<|
 .p 158 [156,157,155] (.bin .gtr .none (.t 156) (.t 157))<|
 .nil) 159 155 158<|
 .nil)
 (.cond (.tmp 159) (.z (.m 160 11<|
 .P 161 (.mkifc 144 (.i 1))<|
 .m 6 160<|
 .aC 7 161)
 .ret)
 .skip))
 (.ops (.m 162 17<|
 .aC 13 162)))))))
def Xa(E:EB)(D:Am)(W:AJ)(n:Int->Bool->BS->Int->Int->Bool->Int->V->Int->Int->H->AH)(a:Int)(b:Bool)(c:BS)(d e:Int)(f:Bool)(g h:Int)(i:V)(j k:Int)(U:H):AH:=
 AG (I2 (BH .u8 a) h) (
 some ((V.tup [.int .u64 (AA 0),.ifc 144 (iN 2)]),U)) (
 AG (I2 d g) (
 some ((V.tup [.int .u64 e,.ifc 144 (iN 1)]),U)) (
 Ab (λl m=>
 AG l (
 some ((V.tup [.int .u64 e,.ifc 144 (iN 1)]),m)) (
 n a b c d e f (BP .u64 (Qx .u64 g (BH .u64 a)) (BH .u64 h)) i j k m)) λl=>
 AG (Cw (BP .u64 (Qx .u64 g (BH .u64 a)) (BH .u64 h)) (Qx .u64 g (BH .u64 a))) (
 l true U) (
 l (Cw e (BP .u64 (Qx .u64 g (BH .u64 a)) (BH .u64 h))) U)))
def AI1(a:BS)(b c:Int)(U:H):St:=⟨[(0,.str a),(1,.int .i64 b),(2,.int .i64 c)],[],[],U⟩
def yw(a:BS)(b c:Int)(d:Bool)(e:BS)(U:H):St:=⟨[(0,.str a),(1,.int .i64 b),(2,.int .i64 c),(8,.bool d),(9,.str e)],[],[],U⟩
def AI0(a:BS)(b c:Int)(d:Bool)(e:BS)(f:Int)(U:H):St:=⟨[(0,.str a),(1,.int .i64 b),(2,.int .i64 c),(8,.bool d),(9,.str e),(10,.int .u64 f)],[],[],U⟩
def fL(a:Int)(b:Bool)(c:BS)(d e:Int)(f:Bool)(g:Int)(h:V)(i j:Int)(U:H):St:=⟨[(1,.int .i64 a),(8,.bool b),(9,.str c),(10,.int .u64 d),(11,.int .u64 e),(12,.bool f),(13,.int .u64 g),(99,h),(100,.int .i64 i),(101,.int .i64 j)],[],[],U⟩
def AIz(a:Int)(b:Bool)(c:BS)(d e:Int)(f:Bool)(g h:Int)(i:V)(j k:Int)(U:H):St:=⟨[(1,.int .i64 a),(8,.bool b),(9,.str c),(10,.int .u64 d),(11,.int .u64 e),(12,.bool f),(13,.int .u64 g),(16,.int .u8 h),(99,i),(100,.int .i64 j),(101,.int .i64 k)],[],[],U⟩
def zB(E:EB)(D:Am)(W:AJ)(N:Nat):=oe E D W
def OC(E:EB)(D:Am)(W:AJ)(N:Nat)(a:Int->Bool->BS->Int->Int->Bool->Int->V->Int->Int->H->AH):=ob E D W a
theorem qx m:
 (λa b c d e f g h i j U=>A0 E D W N JD (fL a b c d e f g h i j U) (kX jA [] [] m) (wV E D W N IV) (JU E))=OC E D W N (λa b c d e f g h i j U=>m (fL a b c d e f g h i j U)):=by
 unfold OC;generalize IV=r;revert r;refine id ?_;intros;kernel_rfl
def fR(a:Int->Bool->BS->Int->Int->Bool->Int->V->Int->Int->H->AH):=Xa E D W (OC E D W N a)
theorem ACt n:
 (λa b c d e f g h i j k U=>A0 E D W N Kr (AIz a b c d e f g h i j k U) (AIJ E D W N JD IV n) (CQ 4 (AIJ E D W N JD IV n) (wV E D W N IV)) (JU E))=fR E D W N (λa b c d e f g i j k U=>n (fL a b c d e f g i j k U)):=by
 unfold fR;rw[<-qx];generalize IV=s,JD=t;revert s t;refine id ?_;intros;kernel_rfl
def fO(n:Nat):Int->Bool->BS->Int->Int->Bool->Int->V->Int->Int->H->AH:=
 Nat.rec (λ_ _ _ _ _ _ _ _ _ _ _=>none) (λ_ a=>TO E D W (zB E D W N ) (OC E D W N a) (fR E D W N a)) n
theorem ACF n:
 (λa b c d e f g h i j U=>Bw (λq r=>A0 E D W N (Mm JD Kr) r (kX jA [] [] q) (wV E D W N IV) (JU E)) n (fL a b c d e f g h i j U))=fO E D W N n:=AOb (λli=>by rw[<-qx,<-ACt];generalize JD=s,Kr=t;revert s t;refine id ?_;intros;kernel_rfl) n
def rG:=og E D W (fO E D W N N)
theorem ACu:
 (λa b c d e f U=>A0 E D W N (Pd IV (Mm JD Kr)) (AI0 a b c d e f U) (JU E) nX (JU E))=rG E D W N:=by
 unfold rG;rw[<-ACF];generalize Mm JD Kr=m,IV=n;revert m n;refine id ?_;intros;kernel_rfl
def rH:=oh E D W (rG E D W N )
theorem ACv:
 (λa b c d e U=>A0 E D W N (T2 (Pd IV (Mm JD Kr))) (yw a b c d e U) (JU E) nX (JU E))=rH E D W N:=by
 unfold rH;rw[<-ACu];generalize Pd IV (Mm JD Kr)=l;revert l;refine id ?_;intros;kernel_rfl
def rJ:=om E D W (rH E D W N )
theorem ACw:
 (λa b c d e U=>A0 E D W N (fj (T2 (Pd IV (Mm JD Kr)))) (yw a b c d e U) (JU E) nX (JU E))=rJ E D W N:=by
 unfold rJ;rw[<-ACv];generalize T2 (Pd IV (Mm JD Kr))=l;revert l;refine id ?_;intros;kernel_rfl
def rK:=oq E D W (rJ E D W N )
theorem ACx:
 (λa b c U=>A0 E D W N (zc (fj (T2 (Pd IV (Mm JD Kr))))) (AI1 a b c U) (JU E) nX (JU E))=rK E D W N:=by
 unfold rK;rw[<-ACw];generalize fj (T2 (Pd IV (Mm JD Kr)))=j;revert j;refine id ?_;intros;kernel_rfl
def F98(d:List V)(U:H):AH:=
 uAC d λa b c=>
 rK E D W N a b c U
def A98:Dg:=⟨172,[.str,.i,.i],[(.tmp 6),(.tmp 7)],(zc (fj (T2 (Pd IV (Mm JD Kr)))))⟩
theorem AKk b U:Bt E D W N A98 b U=F98 E D W N b U:=by
 unfold F98;rw[<-ACx];kernel_rfl
def AFZ:XC:=(.z (.q 2 0<|
 .pal 3 [] 38 [y0,y3,y0]<|
 .aH 4 y1)
 (.z (.m 10 0<|
 .k 11 (.tup [y4,.bool]) 26 [(.t 10),(.i 3)]<|
 .m 9 11<|
 .aB 12 0 9 1 9<|
 .pal 5 [] 38 [y0,y3,y0]<|
 .op none y4 [5,12] (.store 3 (.t 5) (.t 12))<|
 .m 6 13<|
 .nil)
 (.seq (.z (.m 14 6<|
 .aL 15 14)
 (.cond (.tmp 15) (.seq (.draw (.O 16 y4 (.load (some 3) (.t 5))<|
 .q 2 0<|
 .op none y4 [3,16] (.store 3 (.t 3) (.t 16))<|
 .aH 4 y1) [0,0,3,7])
 .ret)
 .skip))
 (.z (.aO 18 1 5 .str<|
 .k 20 (.tup [.i,.any]) 77 [(.t 19),(.i 10),(.i 64)]<|
 .m 17 20<|
 .aB 21 0 17 1 17<|
 .m 7 21<|
 .aC 8 22)
 (.seq (.draw (.cK 23 7 y4 3 5<|
 .m 2 23<|
 .op none y4 [3,24] (.store 3 (.t 3) (.t 24))<|
 .aH 4 y9) [0,0,1,7,15])
 .ret)))))
def Vt(E:EB)(D:Am)(W:AJ)(a:V)(U:H):AH:=
 cT (D 26 [a,iN 3] U) λb c=>
 Aj b λb d=>
 Cl b λb=>
 uG b λb e f=>
 LA d λd g=>
 BD g (
 AG (not d) (
 some ((V.tup [iN 0,.agg (eG b e f),.bool false]),c)) (
 cT (D 77 [.str e,iN 10,iN 64] c) λc d=>
 uW c λc g=>
 some ((V.tup [.int .i64 c,.agg (eG b e f),.bool true]),d)))
def jx(N:Nat)(c:List V)(U:H):AH:=
 Aj c λa b=>
 BD b (
 Vt E D W a U)
def AQA:Dg:=⟨25,[.any],[(.tmp 2),(.cell 3 (some 3)),(.tmp 4)],AFZ⟩
theorem zZ b U:Bt E D W N AQA b U=jx E D W N b U:=by kernel_rfl
def L0:List Bf:=[⟨(some 34),.load (some 3) (.tmp 6),none⟩,⟨(some 35),.mov (.tmp 5),none⟩,⟨(some 36),.mov (.tmp 35),none⟩,⟨(some 37),.mov (.tmp 0),(some (36,true))⟩,⟨(some 38),.buildSlice 9 1 [(V.str ⟨0,0⟩)] [(0,1,(.con (V.str ⟨1,41⟩)))],(some (36,true))⟩,⟨(some 39),.call 27 [(.tmp 37),(.tmp 38)],(some (36,true))⟩,⟨(some 40),.pick (.tmp 36) (.tmp 39) (.con (V.bool false)),none⟩,⟨none,.store 3 (.tmp 2) (.tmp 34),none⟩,⟨(some 3),.mov (.tmp 40),none⟩]
def Ov:List DP:=[⟨0,[6]⟩,⟨0,[5]⟩,⟨2,[35]⟩,⟨6,[0,36]⟩,⟨6,[36]⟩,⟨30,[37,38,36]⟩,⟨62,[36,39]⟩,⟨63,[2,34]⟩,⟨255,[40]⟩]
def AFY:XC:=(.z (.p 2 [] (.alloc 88 [y3,y0,y1])<|
 .aH 3 y1)
 (.z (.m 8 0<|
 .k 9 (.tup [y4,.bool]) 26 [(.t 8),(.i 2)]<|
 .m 7 9<|
 .aB 10 0 7 1 7<|
 .pal 4 [] 38 [y0,y3,y0]<|
 .op none y4 [4,10] (.store 3 (.t 4) (.t 10))<|
 .m 5 11<|
 .nil)
 (.z (.aO 12 1 4 .str<|
 .op (some 14) Z5 [13] (.build [y3,y0,y1] [(0,1,(.t 13))])<|
 .p 6 [] (.alloc 88 [y3,y0,y1])<|
 .op none Z5 [6,14] (.store 3 (.t 6) (.t 14))<|
 .nil)
 (.seq (.z (.m 15 5<|
 .P 16 (.un .not (.t 15))<|
 .m 17 16<|
 .gO 17 false (.p 18 [0,17] y6<|
 .bI 19 18 17 18 17 0<|
 .op (some 21) .bool [20,17] (.call 62 [(.t 20),tZ])<|
 .cG 22 21 17 21) 23 17 22<|
 .nil)
 (.cond (.tmp 23) (.z (.O 24 Z5 (.load (some 3) (.t 6))<|
 .m 25 5<|
 .op none Z5 [2,24] (.store 3 (.t 2) (.t 24))<|
 .aC 3 25)
 .ret)
 .skip))
 (.z (.bA 26 2 6 1 OK<|
 .nil)
 (.z (.bP 28 0 y78 103<|
 .bE 27 0 1 2<|
 .f 33 1 6<|
 .w 1 33 30<|
 .aC 5 32)
 (.seq (.keep [(0,.ptr),(2,.ptr),(5,.bool),(6,.ptr)] [] [] (.gdraw L0 Ov [(2,.ptr),(3,.bool)]))
 .ret)))))))
def Ry(a b:Nat)(U:H):AH:=
 let c:=B9 U (.cells [.str ⟨0,0⟩,iN 0,.bool false]);
 cT (D 26 [.ptr a b,iN 2] c) λc d=>
 Aj c λc e=>
 Cl c λc=>
 uG c λc f g=>
 LA e λc e=>
 BD e (
 let e:=B9 d (.cells [.str ⟨0,0⟩,iN 0,.bool false]);
 Cg 3 (H.next d) 0 (V.agg [.str f,iN 0,.bool false]) e λe=>
 Ab (λf g=>
 AG f (
 Dt E g (H.next d) 0 3 λf=>
 uZ f λf h i=>
 Cg 3 (H.next U) 0 (V.agg (eZ f h i)) g λf=>
 Dt E f (H.next U) 0 3 λh=>
 some ((V.tup [.agg h,.bool c]),f)) (
 Cg 1 (H.next d) 2 (V.bool true) g λf=>
 cT (D 103 [.ptr a b] f) λf g=>
 F0 .i64 f λf h=>
 Aj h λh i=>
 Cl h λh=>
 uG h λh j k=>
 LA i λh i=>
 BD i (
 Cg 1 (H.next d) 1 (V.int .i64 f) g λf=>
 DZ (W L0 Ov [(0,.ptr a b),(2,.ptr (H.next U) 0),(5,.bool h),(6,.ptr (H.next d) 0)] f) λd f=>
 EO d 2 λg=>
 CM g λg h=>
 EO d 3 λd=>
 CN d λd=>
 Dt E f g h 3 λg=>
 some ((V.tup [.agg g,.bool d]),f)))) λd=>
 AG (not c) (
 d true e) (
 cB (D 62 [.ptr a b,sN 1 40] e) λc e=>
 d (not c) e))
def jw(N:Nat)(d:List V)(U:H):AH:=
 Aj d λa b=>
 CM a λa c=>
 BD b (
 Ry E D W a c U)
def AP9:Dg:=⟨41,[.ptr],[(.cell 2 (some 3)),(.tmp 3)],AFY⟩
theorem zY b U:Bt E D W N AP9 b U=jw E D W N b U:=by kernel_rfl
def bt:List (Nat × DN):=[(0,.ptr),(1,.any),(2,.i),(7,.i)]
def Oy(E:EB):St->AH:=λs=>Dy E s [(.tmp 6)] λl=>some (Ek l,s.U)
def yp(c0:XC):Nat->St->AH:=CQ 0 (dX E D W N (.keep [] [] [] c0) (Oy E) nX (Oy E)) nX
def tU(b:XC)(a:XC):XC:=(.z (.aH 6 y1)
 (.z (.bV 7 0)
 (.seq (.block 0 (.loop bt [] [] a))
 (.keep [] [] [] b))))
def ABx(E:EB)(D:Am)(W:AJ)(e:Nat->Nat->V->Int->Int->H->AH)(a b:Nat)(c:V)(d:Int)(U:H):AH:=
 e a b c d (AA 0) U
def O1:XC:=(.z (.aH 6 y9)
 .ret)
def Zg(E:EB)(D:Am)(W:AJ)(U:H):AH:=
 rB true U
def WL(a:XC):XC:=(.seq (.z (.cL 9 0 0 .bool 62 kF<|
 .nil)
 y77)
 (.block 1 (.z (.aH 8 y1)
 (.seq (.z (.aA 13 0 0<|
 .k 16 .bool 62 [(.t 15),(.con (V.str ⟨2,23387⟩))]<|
 .nil)
 (.cond (.tmp 16) (.z (.aK 17 7 1<|
 .aC 7 18)
 (.ops (.aD 19 0 1<|
 .aD 21 7 2<|
 .k 23 .bool 113 [(.t 19),(.t 20),(.t 21),(.t 22)]<|
 .aC 8 23)))
 (.ops (.cP 24 0 1 2<|
 .k 27 .bool 106 [(.t 24),(.t 25),(.i 0),(.t 26)]<|
 .aC 8 27))))
 (.keep [(0,.ptr),(1,.any),(2,.i),(7,.i),(8,.bool)] [] [] a)))))
def M7(E:EB)(D:Am)(W:AJ)(k:H->AH)(j:Nat->Nat->V->Int->Int->Bool->H->AH)(a b:Nat)(c:V)(d e:Int)(U:H):AH:=
 cB (D 62 [.ptr a b,sN 1 44] U) λf g=>
 AG f (
 cB (D 62 [.ptr a b,sN 2 23387] g) λf h=>
 AG f (
 cB (D 113 [.ptr a b,c,.int .i64 (BP .i64 e (AA 1)),.int .i64 d] h) λf i=>
 j a b c d (BP .i64 e (AA 1)) f i) (
 cB (D 106 [.ptr a b,c,iN 0,.int .i64 d] h) λf h=>
 j a b c d e f h)) (
 k g)
def O0:XC:=(.z (.m 28 8<|
 .P 29 xW<|
 .nil)
 xg)
def Oq(E:EB)(D:Am)(W:AJ)(g:Nat->Nat->V->Int->Int->H->AH)(a b:Nat)(c:V)(d e:Int)(f:Bool)(U:H):AH:=
 AG (not f) (
 rB false U) (
 g a b c d e U)
def AB6(a b:Nat)(c:V)(d:Int)(U:H):St:=⟨[(0,.ptr a b),(1,c),(2,.int .i64 d)],[],[],U⟩
def qp(a b:Nat)(c:V)(d e:Int)(U:H):St:=⟨[(0,.ptr a b),(1,c),(2,.int .i64 d),(7,.int .i64 e)],[],[],U⟩
def AB5(a b:Nat)(c:V)(d e:Int)(f:Bool)(U:H):St:=⟨[(0,.ptr a b),(1,c),(2,.int .i64 d),(7,.int .i64 e),(8,.bool f)],[],[],U⟩
def ADy(E:EB)(D:Am)(W:AJ)(N:Nat):=Zg E D W
def Zs(E:EB)(D:Am)(W:AJ)(N:Nat)(a:Nat->Nat->V->Int->Int->H->AH):=Oq E D W a
theorem xO li2:
 (λa b c d e f U=>A0 E D W N O0 (AB5 a b c d e f U) (kX bt [] [] li2) (CQ 1 (kX bt [] [] li2) (yp E D W N O1)) (Oy E))=Zs E D W N (λa b c d e U=>li2 (qp a b c d e U)):=by
 unfold Zs;generalize O1=m;revert m;refine id ?_;intros;kernel_rfl
def SN(n:Nat):Nat->Nat->V->Int->Int->H->AH:=
 Nat.rec (λ_ _ _ _ _ _=>none) (λ_ a=>M7 E D W (ADy E D W N ) (Zs E D W N a)) n
theorem w7 n:
 (λa b c d e U=>Bw (λk m=>A0 E D W N (WL O0) m (kX bt [] [] k) (yp E D W N O1) (Oy E)) n (qp a b c d e U))=SN E D W N n:=yQ (λli=>by rw[<-xO];generalize O0=l;revert l;refine id ?_;intros;kernel_rfl) n
def Zu:=ABx E D W (SN E D W N N)
theorem xP:
 (λa b c d U=>A0 E D W N (tU O1 (WL O0)) (AB6 a b c d U) (Oy E) nX (Oy E))=Zu E D W N:=by
 unfold Zu;rw[<-w7];generalize WL O0=k,O1=l;revert k l;refine id ?_;intros;kernel_rfl
def Zy(e:List V)(U:H):AH:=
 uAD e λa b c d=>
 Zu E D W N a b c d U
def AP8:Dg:=⟨30,[.ptr,.any,.i],[(.tmp 6)],(tU O1 (WL O0))⟩
theorem zX b U:Bt E D W N AP8 b U=Zy E D W N b U:=by
 unfold Zy;rw[<-xP];kernel_rfl
def Ow:List Bf:=[⟨(some 57),.mov (.tmp 1),none⟩,⟨(some 58),.mov (.tmp 1),none⟩,⟨(some 59),.nilck (.tmp 58),none⟩,⟨(some 60),.faddr 12 (.tmp 59),none⟩,⟨(some 61),.load none (.tmp 60),none⟩,⟨(some 62),.load (some 11) (.tmp 11),none⟩,⟨(some 63),.buildSlice 96 1 [(V.str ⟨0,0⟩),(V.int .i64 (AA 0)),(V.bool false),(V.bool false),(V.int .i64 (AA 0)),(V.int .i64 (AA 0)),V.nils,V.nils,(V.int .i64 (AA 0)),V.nils,(V.int .i64 (AA 0))] [(0,11,(.tmp 62))],none⟩,⟨(some 64),.append 96 11 136 (.tmp 61) (.tmp 63),none⟩,⟨(some 65),.nilck (.tmp 57),none⟩,⟨(some 66),.faddr 12 (.tmp 65),none⟩,⟨none,.store 1 (.tmp 66) (.tmp 64),none⟩]
def Lz:List DP:=[⟨0,[1]⟩,⟨0,[1]⟩,⟨2,[58]⟩,⟨6,[59]⟩,⟨14,[60]⟩,⟨0,[11]⟩,⟨32,[62]⟩,⟨126,[61,63]⟩,⟨255,[57]⟩,⟨511,[65]⟩,⟨1023,[66,64]⟩]
def AFX(a:XC):XC:=(.z (.aH 8 y1)
 (.z (.m 13 0<|
 .k 14 (.tup [y4,.bool]) 26 [(.t 13),(.i 2)]<|
 .m 12 14<|
 .aB 15 0 12 1 12<|
 .pal 9 [] 38 [y0,y3,y0]<|
 .op none y4 [9,15] (.store 3 (.t 9) (.t 15))<|
 .m 10 16<|
 .nil)
 (.seq (.z (.m 17 10<|
 .aL 18 17)
 (.cond (.tmp 18) (.z (.aH 8 y1)
 .ret)
 .skip))
 (.z (.aO 19 1 9 .str<|
 .m 21 2<|
 .op (some 22) xh [20,21] (.build [y3,y0,y1,y1,y0,y0,V.nils,V.nils,y0,V.nils,y0] [(0,1,(.t 20)),(10,1,(.t 21))])<|
 .p 11 [] (.alloc 96 [y3,y0,y1,y1,y0,y0,V.nils,V.nils,y0,V.nils,y0])<|
 .op none xh [11,22] (.store 11 (.t 11) (.t 22))<|
 .nil)
 (.seq (.z (.aD 24 0 3<|
 .b 26 .add .none (.t 25) (.i 1)<|
 .k 27 (.tup [.i,.bool]) 63 [(.t 24),(.t 26)]<|
 .m 23 27<|
 .aB 28 0 23 1 23<|
 .f 30 1 11<|
 .w 1 30 28<|
 .aC 10 29)
 (.z (.m 31 10<|
 .aL 32 31)
 (.cond (.tmp 32) (.z (.aH 8 y1)
 .ret)
 .skip)))
 (.seq (.block 0 (.z (.aX 34 1 0 .i<|
 .aN 38 37 9 33)
 (.cond (.tmp 33) .skip
 (.z (.aA 40 0 0<|
 .aU 43 .bool 62 42 y54 39)
 (.cond (.tmp 39) (.ops (.bA 44 2 11 1 OK<|
 .nil))
 (.z (.aA 46 0 0<|
 .aU 49 .bool 62 48 y56 45)
 (.cond (.tmp 45) (.z (.bA 50 3 11 1 OK<|
 .nil)
 (.ops (.m 52 0<|
 .k 53 (.tup [y5,.bool]) 114 [(.t 52)]<|
 .m 51 53<|
 .aB 54 0 51 1 51<|
 .cM 56 4 11 y5 54 6 54<|
 .aC 10 55)))
 .skip)))))))
 (.keep [(1,.ptr),(10,.bool),(11,.ptr)] [] [] a)))))))
def Lu(E:EB)(D:Am)(W:AJ)(s:Nat->Nat->Bool->Nat->Nat->H->AH)(a b c d:Nat)(e f:Int)(U:H):AH:=
 cT (D 26 [.ptr a b,iN 2] U) λg h=>
 Aj g λg i=>
 Cl g λg=>
 uG g λg j k=>
 LA i λg i=>
 BD i (
 AG (not g) (
 rB false h) (
 let g:=B9 h (.cells [.str ⟨0,0⟩,iN 0,.bool false,.bool false,iN 0,iN 0,V.nils,V.nils,iN 0,V.nils,iN 0]);
 Cg 11 (H.next h) 0 (V.agg [.str j,iN 0,.bool false,.bool false,iN 0,iN 0,V.nils,V.nils,iN 0,V.nils,.int .i64 e]) g λg=>
 cT (D 63 [.ptr a b,.int .i64 (BP .i64 f (AA 1))] g) λg i=>
 uR g λg j=>
 Cg 1 (H.next h) 1 (V.int .i64 g) i λg=>
 AG (not j) (
 rB false g) (
 lI E g c d λi=>
 AG (Cc i (AA 9)) (
 s c d j (H.next h) 0 g) (
 cB (D 62 [.ptr a b,sN 8 5494759122808361039] g) λg i=>
 AG g (
 Cg 1 (H.next h) 2 (V.bool true) i λg=>
 s c d j (H.next h) 0 g) (
 cB (D 62 [.ptr a b,sN 7 23727827094750532] i) λg i=>
 AG g (
 Cg 1 (H.next h) 3 (V.bool true) i λg=>
 cT (D 114 [.ptr a b] g) λg k=>
 Aj g λg l=>
 Cl g λg=>
 uV g λg m n o p q=>
 LA l λl r=>
 BD r (
 Cg 6 (H.next h) 4 (V.agg (eV g m n o p q)) k λg=>
 s c d l (H.next h) 0 g)) (
 s c d j (H.next h) 0 i))))))
def AFW:XC:=(.seq (.keep [(1,.ptr),(10,.bool),(11,.ptr)] [] [] (.gdraw Ow Lz [(10,.bool)]))
 (.z (.m 67 10<|
 .aC 8 67)
 .ret))
def Vs(E:EB)(D:Am)(W:AJ)(a b:Nat)(c:Bool)(d e:Nat)(U:H):AH:=
 DZ (W Ow Lz [(1,.ptr a b),(10,.bool c),(11,.ptr d e)] U) λf g=>
 EO f 10 λf=>
 CN f λf=>
 rB f g
def ADx(E:EB)(D:Am)(W:AJ)(N:Nat):=Vs E D W
def jv(g:List V)(U:H):AH:=
 uAE g λa b c d e f=>
 Lu E D W (ADx E D W N ) a b c d e f U
def AP7:Dg:=⟨68,[.ptr,.ptr,.i,.i],[(.tmp 8)],(AFX AFW)⟩
theorem zW b U:Bt E D W N AP7 b U=jv E D W N b U:=by kernel_rfl
def S0:List (Nat × DN):=[(0,.str),(3,.any),(4,.i),(5,(.int .u8)),(6,.i)]
def yK:List (Nat × DN):=[(0,.str),(3,.any),(4,.i),(5,(.int .u8))]
def Kn:List (Nat × DN):=[(0,.str),(3,.any),(4,.i)]
def Dm(E:EB):St->AH:=λs=>Dy E s [(.tmp 2)] λl=>some (Ek l,s.U)
def dM(c0 b a:XC)(c:St->AH):Nat->St->AH:=CQ 2 (dX E D W N (.keep yK [] [] c0) (dX E D W N (.keep Kn [] [] b) (kX Kn [] [] c) (CQ 0 (dX E D W N (.keep [(3,.any)] [] [] a) (Dm E) nX (Dm E)) nX) (Dm E)) (CQ 1 (dX E D W N (.keep Kn [] [] b) (kX Kn [] [] c) (CQ 0 (dX E D W N (.keep [(3,.any)] [] [] a) (Dm E) nX (Dm E)) nX) (Dm E)) (CQ 0 (dX E D W N (.keep [(3,.any)] [] [] a) (Dm E) nX (Dm E)) nX)) (Dm E)) (CQ 1 (dX E D W N (.keep Kn [] [] b) (kX Kn [] [] c) (CQ 0 (dX E D W N (.keep [(3,.any)] [] [] a) (Dm E) nX (Dm E)) nX) (Dm E)) (CQ 0 (dX E D W N (.keep [(3,.any)] [] [] a) (Dm E) nX (Dm E)) nX))
def dL(c0:XC):Nat->St->AH:=CQ 0 (dX E D W N (.keep [(3,.any)] [] [] c0) (Dm E) nX (Dm E)) nX
def yo(c0 b:XC)(a:St->AH):St->AH:=dX E D W N (.keep Kn [] [] c0) (kX Kn [] [] a) (dL E D W N b) (Dm E)
def yn(c0 b e a:XC)(c d:St->AH):St->AH:=dX E D W N (.keep S0 [] [] c0) (kX S0 [] [] c) (dM E D W N b e a d) (Dm E)
def tT(b:XC)(a:XC):XC:=(.z (.c 2 V.nils<|
 .nil)
 (.z (.c 3 V.nils<|
 .nil)
 (.seq (.z (.bV 4 0)
 (.block 0 (.loop Kn [] [] a)))
 (.keep [(3,.any)] [] [] b))))
def ABw(E:EB)(D:Am)(W:AJ)(b:BS->V->Int->H->AH)(a:BS)(U:H):AH:=
 b a V.nils (AA 0) U
def FZ:XC:=(.z (.m 43 3<|
 .aC 2 43)
 .ret)
def Vr(E:EB)(D:Am)(W:AJ)(a:V)(U:H):AH:=
 some (a,U)
def WK(b:XC)(c:XC)(a:XC):XC:=(.seq (.z (.aK 8 4 1<|
 .aW 10 0<|
 .aS 12 9 11)
 y77)
 (.seq (.block 1 (.z (.aH 5 Z6)
 (.seq (.z (.m 15 4<|
 .m 6 15<|
 .nil)
 (.block 2 (.loop S0 [] [] a)))
 (.keep yK [] [] c))))
 (.keep Kn [] [] b)))
def Oo(E:EB)(D:Am)(W:AJ)(e:V->H->AH)(d:BS->V->Int->Int->Int->H->AH)(a:BS)(b:V)(c:Int)(U:H):AH:=
 AG (Cw (BP .i64 c (AA 1)) (AA (BS.len a))) (
 d a b c (AA 0) c U) (
 e b U)
def Fx:XC:=(.ops (.aK 13 4 2<|
 .aC 4 14))
def Vq(E:EB)(D:Am)(W:AJ)(d:BS->V->Int->H->AH)(a:BS)(b:V)(c:Int)(U:H):AH:=
 d a b (BP .i64 c (AA 2)) U
def HK:XC:=(.ops (.aD 39 3 5<|
 .p 41 [40] (.buildSlice 5 1 [Z6] [(0,1,(.t 40))])<|
 .O 42 .one (.append 5 1 1 (.t 39) (.t 41))<|
 .aC 3 42))
def Vp(E:EB)(D:Am)(W:AJ)(g:BS->V->Int->H->AH)(a:BS)(b:V)(c d:Int)(U:H):AH:=
 let e:=B9 U (.cells [.int .u8 d]);
 Gv E 1 1 b (V.sl (H.next U) 0 1 (.ex 1)) e λe f=>
 E2 e (
 g a e c f)
def Oz(b:XC)(a:XC):XC:=(.seq (.z (.aD 16 6 4<|
 .b 18 .add .none (.t 17) (.i 2)<|
 .aS 19 16 18)
 (.cond (.tmp 19) .skip
 (.exit 2)))
 (.seq (.block 3 (.z (.bL 22 0 6<|
 .b 25 .sub .none (.t 24) UZ<|
 .aC 7 25)
 (.seq (.z (.bL 26 0 6<|
 .b 29 .geq .none (.t 28) y44<|
 .nil)
 (.cond (.tmp 29) (.ops (.bL 30 0 6<|
 .b 33 .sub .none (.t 32) y44<|
 .b 34 .add .none (.t 33) y42<|
 .aC 7 34))
 .skip))
 (.keep [(0,.str),(3,.any),(4,.i),(5,(.int .u8)),(6,.i),(7,(.int .u8))] [] [] a))))
 (.keep S0 [] [] b)))
def M6(E:EB)(D:Am)(W:AJ)(i:BS->V->Int->Int->H->AH)(h:BS->V->Int->Int->Int->Int->H->AH)(a:BS)(b:V)(c d e:Int)(U:H):AH:=
 AG (Cw e (BP .i64 c (AA 2))) (
 Az a e λf=>
 Az a e λg=>
 AG (I2 (AA 65) g) (
 Az a e λg=>
 h a b c d e (BP .u8 (Ez .u8 g (AA 65)) (AA 10)) U) (
 h a b c d e (Ez .u8 f (AA 48)) U)) (
 i a b c d U)
def JG:XC:=(.ops (.aK 20 6 1<|
 .aC 6 21))
def Vo(E:EB)(D:Am)(W:AJ)(f:BS->V->Int->Int->Int->H->AH)(a:BS)(b:V)(c d e:Int)(U:H):AH:=
 f a b c d (BP .i64 e (AA 1)) U
def L4:XC:=(.ops (.m 35 5<|
 .b 36 .shl .none (.t 35) (.con (V.int .u64 (AA 4)))<|
 .m 37 7<|
 .b 38 .or .none (.t 36) (.t 37)<|
 .aC 5 38))
def Vn(E:EB)(D:Am)(W:AJ)(g:BS->V->Int->Int->Int->H->AH)(a:BS)(b:V)(c d e f:Int)(U:H):AH:=
 g a b c (Gt .u8 (Eb .u8 d 4) f) e U
def AB4(a:BS)(U:H):St:=⟨[(0,.str a)],[],[],U⟩
def SF(a:BS)(b:V)(c:Int)(U:H):St:=⟨[(0,.str a),(3,b),(4,.int .i64 c)],[],[],U⟩
def AB3(a:BS)(b:V)(c d:Int)(U:H):St:=⟨[(0,.str a),(3,b),(4,.int .i64 c),(5,.int .u8 d)],[],[],U⟩
def V6(a:BS)(b:V)(c d e:Int)(U:H):St:=⟨[(0,.str a),(3,b),(4,.int .i64 c),(5,.int .u8 d),(6,.int .i64 e)],[],[],U⟩
def AB2(a:BS)(b:V)(c d e f:Int)(U:H):St:=⟨[(0,.str a),(3,b),(4,.int .i64 c),(5,.int .u8 d),(6,.int .i64 e),(7,.int .u8 f)],[],[],U⟩
def ADw(E:EB)(D:Am)(W:AJ)(N:Nat):=Vr E D W
def Zq(E:EB)(D:Am)(W:AJ)(N:Nat)(a:BS->V->Int->H->AH):=Vq E D W a
theorem xM li2:
 (λa b c U=>A0 E D W N Fx (SF a b c U) (kX Kn [] [] li2) (dL E D W N FZ) (Dm E))=Zq E D W N (λa b c U=>li2 (SF a b c U)):=by
 unfold Zq;generalize FZ=j;revert j;refine id ?_;intros;kernel_rfl
def M8(a:BS->V->Int->H->AH):=Vp E D W (Zq E D W N a)
theorem xL li2:
 (λa b c d U=>A0 E D W N HK (AB3 a b c d U) (yo E D W N Fx FZ li2) (CQ 1 (yo E D W N Fx FZ li2) (dL E D W N FZ)) (Dm E))=M8 E D W N (λa b c U=>li2 (SF a b c U)):=by
 unfold M8;rw[<-xM];generalize FZ=k,Fx=l;revert k l;refine id ?_;intros;kernel_rfl
def Zp(E:EB)(D:Am)(W:AJ)(N:Nat)(a:BS->V->Int->Int->Int->H->AH):=Vo E D W a
theorem xK li2(h:St->AH):
 (λa b c d e U=>A0 E D W N JG (V6 a b c d e U) (kX S0 [] [] h) (dM E D W N HK Fx FZ li2) (Dm E))=Zp E D W N (λa b c d e U=>h (V6 a b c d e U)):=by
 unfold Zp;generalize FZ=m,Fx=n,HK=o;revert m n o;refine id ?_;intros;kernel_rfl
def Zo(a:BS->V->Int->Int->Int->H->AH):=Vn E D W (Zp E D W N a)
theorem xJ li2(i:St->AH):
 (λa b c d e f U=>A0 E D W N L4 (AB2 a b c d e f U) (yn E D W N JG HK Fx FZ i li2) (CQ 3 (yn E D W N JG HK Fx FZ i li2) (dM E D W N HK Fx FZ li2)) (Dm E))=Zo E D W N (λa b c d e U=>i (V6 a b c d e U)):=by
 unfold Zo;rw[<-xK (li2:=li2)];generalize FZ=o,Fx=q,HK=p,JG=n;revert o q p n;refine id ?_;intros;kernel_rfl
def Ot(b:BS->V->Int->H->AH)(n:Nat):BS->V->Int->Int->Int->H->AH:=
 Nat.rec (λ_ _ _ _ _ _=>none) (λ_ a=>M6 E D W (M8 E D W N b) (Zo E D W N a)) n
theorem w5 li2 n:
 (λa b c d e U=>Bw (λk o=>A0 E D W N (Oz JG L4) o (kX S0 [] [] k) (dM E D W N HK Fx FZ li2) (Dm E)) n (V6 a b c d e U))=Ot E D W N (λa b c U=>li2 (SF a b c U)) n:=yQ (λli=>by rw[<-xL,<-xJ (li2:=li2)];generalize FZ=l,Fx=q,HK=p,JG=r,L4=m;revert l q p r m;refine id ?_;intros;kernel_rfl) n
def Ou(n:Nat):BS->V->Int->H->AH:=
 Nat.rec (λ_ _ _ _=>none) (λ_ a=>Oo E D W (ADw E D W N ) (Ot E D W N a N)) n
theorem w6 n:
 (λa b c U=>Bw (λi m=>A0 E D W N (WK Fx HK (Oz JG L4)) m (kX Kn [] [] i) (dL E D W N FZ) (Dm E)) n (SF a b c U))=Ou E D W N n:=vm (λli=>by rw[<-w5];generalize Oz JG L4=j,Fx=k,HK=l;revert j k l;refine id ?_;intros;kernel_rfl) n
def Zr:=ABw E D W (Ou E D W N N)
theorem xN:
 (λa U=>A0 E D W N (tT FZ (WK Fx HK (Oz JG L4))) (AB4 a U) (Dm E) nX (Dm E))=Zr E D W N:=by
 unfold Zr;rw[<-w6];generalize WK Fx HK (Oz JG L4)=h,FZ=i;revert h i;refine id ?_;intros;kernel_rfl
def Zx(c:List V)(U:H):AH:=
 NA c λa b=>
 BD b (
 Zr E D W N a U)
def AP6:Dg:=⟨44,[.str],[(.tmp 2)],(tT FZ (WK Fx HK (Oz JG L4)))⟩
theorem zV b U:Bt E D W N AP6 b U=Zx E D W N b U:=by
 unfold Zx;rw[<-xN];kernel_rfl
def AFV:XC:=(.z (.aH 2 Z6)
 (.z (.m 3 0<|
 .b 4 .or .none (.t 3) (.con (V.int .u8 (AA 32)))<|
 .m 2 4<|
 .nil)
 .ret))
def ABv(E:EB)(D:Am)(W:AJ)(a:Int)(U:H):AH:=
 some ((V.int .u8 (Gt .u8 a (AA 32))),U)
def ju(N:Nat)(c:List V)(U:H):AH:=
 F0 .u8 c λa b=>
 BD b (
 ABv E D W a U)
def AP5:Dg:=⟨5,[(.int .u8)],[(.tmp 2)],AFV⟩
theorem zU b U:Bt E D W N AP5 b U=ju E D W N b U:=by kernel_rfl
def yJ:List (Nat × DN):=[(0,.ptr),(1,.any),(2,.i),(3,.i)]
def WG(E:EB):St->AH:=λs=>Dy E s [(.tmp 8)] λl=>some (Ek l,s.U)
def tS(a:XC):XC:=(.z (.aH 8 y1)
 (.block 0 (.loop yJ [] [] a)))
def ABu(E:EB)(D:Am)(W:AJ)(f:Nat->Nat->V->Int->Int->H->AH)(a b:Nat)(c:V)(d e:Int)(U:H):AH:=
 f a b c d e U
def WJ:XC:=(.block 1 (.seq (.z (.aD 9 0 1<|
 .aD 11 2 3<|
 .k 13 .bool 106 [(.t 9),(.t 10),(.t 11),(.t 12)]<|
 .aL 14 13)
 (.cond (.tmp 14) (.z (.aH 8 y1)
 .ret)
 .skip))
 (.z (.cL 15 0 0 .bool 62 kF<|
 .aL 19 18)
 (.cond (.tmp 19) (.z (.m 20 0<|
 .p 21 [] (.buildSlice 9 1 [y3] [(0,1,(.con (V.str ⟨2,23901⟩)))])<|
 .k 22 .bool 27 [(.t 20),(.t 21)]<|
 .aC 8 22)
 .ret)
 .skip))))
def Rx(E:EB)(D:Am)(W:AJ)(i:Nat->Nat->V->Int->Int->H->AH)(a b:Nat)(c:V)(d e:Int)(U:H):AH:=
 cB (D 106 [.ptr a b,c,.int .i64 d,.int .i64 e] U) λf g=>
 AG (not f) (
 rB false g) (
 cB (D 62 [.ptr a b,sN 1 44] g) λf g=>
 AG (not f) (
 let f:=B9 g (.cells [sN 2 23901]);
 cB (D 27 [.ptr a b,.sl (H.next g) 0 1 (.ex 1)] f) λf h=>
 rB f h) (
 i a b c d e g))
def qo(a b:Nat)(c:V)(d e:Int)(U:H):St:=⟨[(0,.ptr a b),(1,c),(2,.int .i64 d),(3,.int .i64 e)],[],[],U⟩
def WC(E:EB)(D:Am)(W:AJ)(N:Nat)(n:Nat):Nat->Nat->V->Int->Int->H->AH:=
 Nat.rec (λ_ _ _ _ _ _=>none) (λ_ a=>Rx E D W a) n
theorem w4 n:
 (λa b c d e U=>Bw (λg h=>A0 E D W N WJ h (kX yJ [] [] g) (CQ 0 (WG E) nX) (WG E)) n (qo a b c d e U))=WC E D W N n:=yQ (λ_=>by kernel_rfl) n
def Zn:=ABu E D W (WC E D W N N)
theorem xI:
 (λa b c d e U=>A0 E D W N (tS WJ) (qo a b c d e U) (WG E) nX (WG E))=Zn E D W N:=by
 unfold Zn;rw[<-w4];generalize WJ=l;revert l;refine id ?_;intros;kernel_rfl
def Zw(f:List V)(U:H):AH:=
 uAF f λa b c d e=>
 Zn E D W N a b c d e U
def AP4:Dg:=⟨23,[.ptr,.any,.i,.i],[(.tmp 8)],(tS WJ)⟩
theorem zT b U:Bt E D W N AP4 b U=Zw E D W N b U:=by
 unfold Zw;rw[<-xI];kernel_rfl
def AFU(a:XC):XC:=(.z (.pal 2 [] 94 [y0,y0,V.nils,V.nils,y0,V.nils]<|
 .aH 3 y1)
 (.z (.aA 9 0 0<|
 .k 12 y4 29 [(.t 11)]<|
 .pal 4 [] 38 [y0,y3,y0]<|
 .op none y4 [4,12] (.store 3 (.t 4) (.t 12))<|
 .nil)
 (.seq (.block 0 (.z (.aA 14 0 0<|
 .aU 17 .bool 62 16 y76 13)
 (.cond (.tmp 13) (.z (.op (some 18) y5 [] (.build [y0,y0,V.nils,V.nils,y0,V.nils] [(0,1,(.i 1)),(1,1,(.i 1))])<|
 .op none y5 [2,18] (.store 6 (.t 2) (.t 18))<|
 .aH 3 y9)
 .ret)
 (.z (.aA 20 0 0<|
 .aU 23 .bool 62 22 y70 19)
 (.cond (.tmp 19) (.z (.op (some 24) y5 [] (.build [y0,y0,V.nils,V.nils,y0,V.nils] [(0,1,(.i 1))])<|
 .op none y5 [2,24] (.store 6 (.t 2) (.t 24))<|
 .aH 3 y9)
 .ret)
 (.z (.aA 26 0 0<|
 .aU 29 .bool 62 28 xY 25)
 (.cond (.tmp 25) (.z (.op (some 30) y5 [] (.build [y0,y0,V.nils,V.nils,y0,V.nils] [(0,1,(.i 4))])<|
 .op none y5 [2,30] (.store 6 (.t 2) (.t 30))<|
 .aH 3 y9)
 .ret)
 .skip)))))))
 (.z (.aO 31 1 4 .str<|
 .P 33 (.conv (.toBytes 5) (.t 32))<|
 .op (some 34) y5 [33] (.build [y0,y0,V.nils,V.nils,y0,V.nils] [(2,1,(.t 33))])<|
 .pal 5 [] 94 [y0,y0,V.nils,V.nils,y0,V.nils]<|
 .op none y5 [5,34] (.store 6 (.t 5) (.t 34))<|
 .nil)
 (.seq (.z (.aO 35 0 4 .i<|
 .nil)
 (.block 1 (.z (.aN 43 36 3 42)
 (.cond (.tmp 42) (.z (.bP 45 0 y78 103<|
 .bE 44 0 1 2<|
 .pal 7 [] 38 [y0,y3,y0]<|
 .m 6 47<|
 .op none y4 [7,48] (.store 3 (.t 7) (.t 48))<|
 .aC 8 49)
 (.z (.m 50 6<|
 .op (some 51) y5 [50] (.build [y0,y0,V.nils,V.nils,y0,V.nils] [(0,1,(.i 2)),(1,1,(.t 50))])<|
 .op none y5 [2,51] (.store 6 (.t 2) (.t 51))<|
 .aH 3 y9)
 .ret))
 (.z (.aN 53 36 2 52)
 (.cond (.tmp 52) (.ops (.aI 54 0 5 1 3<|
 .nil))
 (.z (.aN 56 36 7 55)
 (.cond (.tmp 55) (.ops (.aI 57 0 5 1 6<|
 .nil))
 (.z (.aN 59 36 4 58)
 (.cond (.tmp 58) (.ops (.aO 60 1 4 .str<|
 .k 62 .one 116 [(.t 61)]<|
 .aI 63 0 5 1 5<|
 .aT 64 2 5 1 62))
 (.z (.op (some 37) y5 [] (.build [y0,y0,V.nils,V.nils,y0,V.nils] [])<|
 .m 38 0<|
 .aO 39 2 4 .i<|
 .k 41 .bool 60 [(.t 38),(.t 40),(.i 7)]<|
 .op none y5 [2,37] (.store 6 (.t 2) (.t 37))<|
 .aC 3 41)
 .ret)))))))))))
 (.keep [(0,.ptr)] [2,5] [(2,[.i,.i,.any,.any,.i,.any]),(5,[.i,.i,.any,.any,.i,.any])] a))))))
def Je(E:EB)(D:Am)(W:AJ)(n:Nat->Nat->Int->Int->V->V->Int->V->Int->Int->V->V->Int->V->H->AH)(a b:Nat)(U:H):AH:=
 cA (D 29 [.ptr a b] U) λc d=>
 uG c λc e f=>
 cB (D 62 [.ptr a b,sN 4 1163219540] d) λd g=>
 AG d (
 some ((V.tup [.agg [iN 1,iN 1,V.nils,V.nils,iN 0,V.nils],.bool true]),g)) (
 cB (D 62 [.ptr a b,sN 5 297750249798] g) λd g=>
 AG d (
 some ((V.tup [.agg [iN 1,iN 0,V.nils,V.nils,iN 0,V.nils],.bool true]),g)) (
 cB (D 62 [.ptr a b,sN 4 1280070990] g) λd g=>
 AG d (
 some ((V.tup [.agg [iN 4,iN 0,V.nils,V.nils,iN 0,V.nils],.bool true]),g)) (
 JK (Ac (BS.len e) 1000000000000) (
 let d:=B9 g (.cells (Pu (BS.toList e)));
 AG (Cc c (AA 3)) (
 cT (D 103 [.ptr a b] d) λh i=>
 F0 .i64 h λh j=>
 Aj j λj k=>
 Cl j λj=>
 uG j λj l m=>
 LA k λj k=>
 BD k (
 some ((V.tup [.agg [iN 2,.int .i64 h,V.nils,V.nils,iN 0,V.nils],.bool true]),i))) (
 AG (Cc c (AA 2)) (
 n a b (AA 0) (AA 0) V.nils V.nils (AA 0) V.nils (AA 3) (AA 0) (V.sl (H.next g) 0 (BS.len e) (.op 1)) V.nils (AA 0) V.nils d) (
 AG (Cc c (AA 7)) (
 n a b (AA 0) (AA 0) V.nils V.nils (AA 0) V.nils (AA 6) (AA 0) (V.sl (H.next g) 0 (BS.len e) (.op 1)) V.nils (AA 0) V.nils d) (
 AG (Cc c (AA 4)) (
 BT (D 116 [.str e] d) λc e=>
 E2 c (
 E2 c (
 n a b (AA 0) (AA 0) V.nils V.nils (AA 0) V.nils (AA 5) (AA 0) c V.nils (AA 0) V.nils e))) (
 cB (D 60 [.ptr a b,.int .i64 f,iN 7] d) λc d=>
 some ((V.tup [.agg [iN 0,iN 0,V.nils,V.nils,iN 0,V.nils],.bool c]),d)))))))))
def AFT:XC:=(.z (.aA 65 0 0<|
 .k 68 y4 61 [(.t 67)]<|
 .nil)
 (.z (.aQ 69 y5 6 5 y5 2 6 2<|
 .aH 3 y9)
 .ret))
def Vm(E:EB)(D:Am)(W:AJ)(a b:Nat)(c d:Int)(e f:V)(g:Int)(h:V)(i j:Int)(k l:V)(m:Int)(o:V)(U:H):AH:=
 cA (D 61 [.ptr a b] U) λn p=>
 uG n λn q r=>
 JK (BM (eV i j k l m o)) (
 some ((V.tup [.agg (eV i j k l m o),.bool true]),p))
def ADv(E:EB)(D:Am)(W:AJ)(N:Nat):=Vm E D W
def jt(d:List V)(U:H):AH:=
 Aj d λa b=>
 CM a λa c=>
 BD b (
 Je E D W (ADv E D W N ) a c U)
def AP3:Dg:=⟨70,[.ptr],[(.cell 2 (some 6)),(.tmp 3)],(AFU AFT)⟩
theorem zS b U:Bt E D W N AP3 b U=jt E D W N b U:=by kernel_rfl
def yI:List (Nat × DN):=[(0,.str),(3,.any),(4,.i)]
def SS(E:EB):St->AH:=λs=>Dy E s [(.tmp 2)] λl=>some (Ek l,s.U)
def AIT(c0:XC):Nat->St->AH:=CQ 0 (dX E D W N (.keep [(3,.any)] [] [] c0) (SS E) nX (SS E)) nX
def tR(b:XC)(a:XC):XC:=(.z (.c 2 V.nils<|
 .nil)
 (.z (.c 3 V.nils<|
 .nil)
 (.seq (.z (.bV 4 0)
 (.block 0 (.loop yI [] [] a)))
 (.keep [(3,.any)] [] [] b))))
def ABt(E:EB)(D:Am)(W:AJ)(b:BS->V->Int->H->AH)(a:BS)(U:H):AH:=
 b a V.nils (AA 0) U
def WI:XC:=(.z (.m 28 3<|
 .aC 2 28)
 .ret)
def Vl(E:EB)(D:Am)(W:AJ)(a:V)(U:H):AH:=
 some (a,U)
def WH:XC:=(.seq (.z (.aK 7 4 1<|
 .aW 9 0<|
 .aS 11 8 10)
 (.cond (.tmp 11) .skip
 QU))
 (.seq (.block 1 (.z (.aD 15 0 4<|
 .aK 17 4 2<|
 .p 19 [15,16,18] (.sliceStr (.t 15) (some (.t 16)) (some (.t 18)))<|
 .k 20 (.tup [(.int .u64),.any]) 118 [(.t 19),(.i 16),(.i 8)]<|
 .m 14 20<|
 .aB 21 0 14 1 14<|
 .m 5 21<|
 .aC 6 22)
 (.ops (.aD 23 3 5<|
 .P 25 (.conv (.toInt .u8) (.t 24))<|
 .p 26 [25] (.buildSlice 5 1 [Z6] [(0,1,(.t 25))])<|
 .O 27 .one (.append 5 1 1 (.t 23) (.t 26))<|
 .aC 3 27))))
 (.ops (.aK 12 4 2<|
 .m 4 13<|
 .nil))))
def Rw(E:EB)(D:Am)(W:AJ)(g:V->H->AH)(h:BS->V->Int->H->AH)(a:BS)(b:V)(c:Int)(U:H):AH:=
 AG (Cw (BP .i64 c (AA 1)) (AA (BS.len a))) (
 BA a (some (V.int .i64 c)) (some (V.int .i64 (BP .i64 c (AA 2)))) λd=>
 cT (D 118 [.str d,iN 16,iN 8] U) λd e=>
 uAG d λd f=>
 let f:=B9 e (.cells [.int .u8 (BH .u8 d)]);
 Gv E 1 1 b (V.sl (H.next e) 0 1 (.ex 1)) f λd e=>
 E2 d (
 h a d (BP .i64 c (AA 2)) e)) (
 g b U)
def AB1(a:BS)(U:H):St:=⟨[(0,.str a)],[],[],U⟩
def AB0(a:BS)(b:V)(c:Int)(U:H):St:=⟨[(0,.str a),(3,b),(4,.int .i64 c)],[],[],U⟩
def ADu(E:EB)(D:Am)(W:AJ)(N:Nat):=Vl E D W
def WB(n:Nat):BS->V->Int->H->AH:=
 Nat.rec (λ_ _ _ _=>none) (λ_ a=>Rw E D W (ADu E D W N ) a) n
theorem w3 n:
 (λa b c U=>Bw (λe f=>A0 E D W N WH f (kX yI [] [] e) (AIT E D W N WI) (SS E)) n (AB0 a b c U))=WB E D W N n:=vm (λ_=>by kernel_rfl) n
def Zm:=ABt E D W (WB E D W N N)
theorem xH:
 (λa U=>A0 E D W N (tR WI WH) (AB1 a U) (SS E) nX (SS E))=Zm E D W N:=by
 unfold Zm;rw[<-w3];generalize WI=h,WH=i;revert h i;refine id ?_;intros;kernel_rfl
def Zv(c:List V)(U:H):AH:=
 NA c λa b=>
 BD b (
 Zm E D W N a U)
def AP2:Dg:=⟨29,[.str],[(.tmp 2)],(tR WI WH)⟩
theorem zR b U:Bt E D W N AP2 b U=Zv E D W N b U:=by
 unfold Zv;rw[<-xH];kernel_rfl
def AFS:XC:=(.z (.c 6 Sp<|
 .c 7 V.nili<|
 .nil)
 (.z (.cP 11 0 1 2<|
 .k 14 (.tup [(.int .u64),.any]) 98 [(.t 11),(.t 12),(.t 13)]<|
 .m 10 14<|
 .aB 15 0 10 1 10<|
 .m 8 15<|
 .m 9 16<|
 .nil)
 (.seq (.z (.m 17 9<|
 .b 18 .neq (.iface true) (.t 17) (.con V.nili)<|
 .nil)
 (.cond (.tmp 18) (.z (.aD 19 8 0<|
 .cP 21 1 2 9<|
 .k 24 .one 89 [(.con (V.str ⟨9,2147778296661251613008⟩)),(.t 20),(.t 21),(.t 22),(.t 23)]<|
 .m 6 19<|
 .aC 7 24)
 .ret)
 .skip))
 (.z (.m 25 8<|
 .m 6 25<|
 .c 7 V.nili<|
 .nil)
 .ret))))
def Zf(E:EB)(D:Am)(W:AJ)(a:BS)(b c:Int)(U:H):AH:=
 cT (D 98 (eAC a b c) U) λd e=>
 uAG d λd f=>
 Sh (.iface true) f V.nili λg=>
 AG (not g) (
 BT (D 89 [sN 9 2147778296661251613008,.str a,.int .i64 b,.int .i64 c,f] e) λf g=>
 E2 f (
 some ((V.tup [.int .u64 d,f]),g))) (
 some ((V.tup [.int .u64 d,V.nili]),e))
def js(N:Nat)(d:List V)(U:H):AH:=
 uAC d λa b c=>
 Zf E D W a b c U
def AP1:Dg:=⟨26,[.str,.i,.i],[(.tmp 6),(.tmp 7)],AFS⟩
theorem zQ b U:Bt E D W N AP1 b U=js E D W N b U:=by kernel_rfl
end
noncomputable section
def glob:Nat->Bool:=λg=>Cr g 7
theorem follows:Tryz.prog.follows .mixedOrders=true:=by kernel_rfl
def Is(f:Nat)(A:Dg):Prop:=∃b,Tryz.prog.funcs[f]? = some b/\dG Tryz.prog glob b=some A.strip/\A.body.ok=true/\Ln Tryz.prog f=true
theorem Is.sound{f A}(h:Is f A) E D (b:∀f,DB Tryz.prog E glob f (D f)) N:DB Tryz.prog E glob f (Bt E D (AZ E D) N A):=
 let ⟨_,c,g,d,e⟩:=h;vK b (nk b follows) follows N c g rfl d e
theorem Is.sf{f A}(h:Is f A){E D}(g:∀f,DB Tryz.prog E glob f (D f)){N}{F:List V->H->AH}(i:∀b U,Bt E D (AZ E D) N A b U=F b U):DB Tryz.prog E glob f F:=by
 have e:=h.sound E D g N;rwa [show Bt E D (AZ E D) N A=F from funext λa=>funext λs=>i a s]at e
abbrev Snd(f:Nat)(F:EB->Am->AJ->Nat->List V->H->AH):Prop:=∀E D,(∀f,DB Tryz.prog E glob f (D f))->∀N,DB Tryz.prog E glob f (F E D (AZ E D) N)
theorem A2{f:Nat}{c}{A:Dg}{F}(h:Tryz.prog.funcs[f]? = some c)(g:(dG Tryz.prog glob c,A.body.ok&&Ln Tryz.prog f)=(some A.strip,true))(i:∀E D W N b U,Bt E D W N A b U=F E D W N b U):Snd f F:=λE D j N=>by
 have e:=(Prod.mk.inj g).2;rw[AI]at e;exact Is.sf ⟨c,h,(Prod.mk.inj g).1,e.1,e.2⟩ j (i E D (AZ E D) N)
theorem nM:∀g,glob g=true->g<7:=λg b=>by simpa[glob]using b
end
end Go.Proofs.YtnpcmeaplmfdlaaGreatDoor
namespace Go.Og
noncomputable section
theorem Oi{a b:Nat}(h:a<=b):Ac a b=true:=by rw[Ag];exact h
def DQ(U:H)(b:Nat)(l:List V):Prop:=CB U.bl b=some (.cells l)
def CI(U:H):Prop:=∀b,U.next<=b->CB U.bl b=none
structure Fr(S:Nat->Prop)(U U':H):Prop where
 tidy:CI U'
 le:U.next<=U'.next
 same:∀b,b<U.next->¬S b->CB U'.bl b=CB U.bl b
def Af:Nat->Prop:=λ_=>False
def AS(v:V)(b:Nat):Prop:=match v with
 | .sl a _ _ _=>b=a
 | _=>False
section
variable {E:EB}{U U' U'':H}{b b':Nat}{l m:List V}{S T:Nat->Prop}
theorem DQ.lt(h:DQ U b l)(f:CI U):b<U.next:=by
 rcases Av b U.next with d|d
 ·exact d
 ·have:=f b d;rw[show CB U.bl b=some (.cells l)from h]at this;cases this
theorem Fr.refl(a:CI U):Fr S U U:=⟨a,AL _,λ_ _ _=>rfl⟩
theorem Fr.mono(h:Fr S U U')(e:∀b,b<U.next->S b->T b):Fr T U U':=⟨h.tidy,h.le,λb a d=>h.same b a λc=>d (e b a c)⟩
theorem Fr.trans(h:Fr S U U')(k:Fr T U' U'')(f:∀b,b<U.next->T b->S b):Fr S U U'':=
 ⟨k.tidy,AU h.le k.le,λb a e=>(k.same b (Cj a h.le) λc=>e (f b a c)).trans (h.same b a e)⟩
theorem Fr.at_(h:Fr S U U')(a:DQ U b l)(c:CI U)(d:¬S b):DQ U' b l:=(h.same b (a.lt c) d).trans a
theorem Mz c k:CB (Mq U b c).bl k=if b=k then some c else CB U.bl k:=by
 rw[B8,B8];exact S7 U b c k
theorem tV m:DQ (Mq U b (.cells m)) b m:=by
 show CB _ _=_;rw[Mz,if_pos rfl]
theorem Fr.set(l:CI U)(m:b<U.next) c:Fr (λk=>k=b) U (Mq U b c):=by
 refine⟨λk g=>?_,AL _,λk g j=>?_⟩
 ·have f:U.next<=k:=g
  rw[Mz,if_neg (by omega)];exact l k f
 ·rw[Mz,if_neg (λh=>j h.symm)]
theorem SU l:DQ (B9 U (.cells l)) U.next l:=by
 show CB ((U.next,MP.cells l)::U.bl) _=_;rw[Bb,if_pos rfl]
theorem Fr.new(h:CI U) c:Fr S U (B9 U c):=by
 refine⟨λk e=>?_,C9 _,λk e i=>?_⟩
 ·have f:U.next+1<=k:=e
  show CB ((U.next,c)::U.bl) _=_;rw[Bb,if_neg (by omega)];exact h k (by omega)
 ·show CB ((U.next,c)::U.bl) _=_
  rw[Bb,if_neg (by omega)]
theorem VD{J}(h:DQ U b l):vO E U b J=J l:=by unfold vO;rw[show CB U.bl b=some (.cells l)from h]
theorem P6{J o v}(h:mL l o=some v):LU l o J=J v:=by unfold LU;rw[h]
theorem VM{J o v}(h:DQ U b l)(a:mL l o=some v):Ee E U b o J=J v:=(VD h).trans (P6 a)
theorem MI{J o v}(h:DQ U b l)(c:l[o]? = some v):Ee E U b o J=J v:=VM h (by rw[KW];exact c)
theorem P3{J o n}(h:o+n<=l.length):He l o n J=J ((l.drop o).take n):=by
 unfold He;rw[show Ac (AN o n) l.length=true from Oi h]
theorem H6{c a}(h:c=true):JK c a=a:=by rw[h];rfl
theorem LH{J}{n o:Nat}{v:V}(h:DQ U b l)(d:(Ax v.cells.length n&&Ac (AN o n) l.length&&BM v.cells)=true):Cg n b o v U J=J (Mq U b (.cells (Gj l o v.cells))):=by
 unfold Cg;rw[show CB U.bl b=some (.cells l)from h];exact H6 d
theorem P7 m n:Cw (AA m) (AA n)=decide (m<n):=by
 rw[mW];simp
theorem vu m n:I2 (AA m) (AA n)=decide (m<=n):=by
 rw[ml];simp
theorem QG m n:Cc (AA m) (AA n)=decide (m=n):=by
 rw[VX];rw[QR];simp only[beq_iff_eq,decide_eq_true_eq];exact⟨λh=>AA.inj h,λh=>by rw[h]⟩
theorem Cq{k m}(h:m<=JX k):BH k (AA m)=AA m:=
 (G0 _ _).trans (Ug (show Ac m (JX k)=true from Oi h))
theorem BB{m n}(h:m+n<=9223372036854775807):BP .i64 (AA m) (AA n)=AA (m+n):=by
 exact Cq h
theorem G5{m n}(h:n<=m)(d:m<=9223372036854775807):Ez .i64 (AA m) (AA n)=AA (m-n):=by
 have e:Int.sub (AA m) (AA n)=AA (m-n):=by
  show m-n=((m-n:Nat):Int);omega
 show BH .i64 (Int.sub (AA m) (AA n))=_;rw[e];exact Cq (show m-n<=9223372036854775807 by omega)
theorem JO{s:BS}{i J}(h:i<s.len):Az s (AA i) J=J (AA (s.get i)):=by
 show JK (Cr i s.len) _=_;exact H6 (by simpa[Cs]using h)
theorem G7{s:BS}{i J}(h:i<=s.len):BA s (some (.int .i64 (AA i))) none J=J (s.sub i s.len):=by
 show JK (Ac i s.len&&Ac s.len s.len) _=_;exact H6 (by simp[Ag,h])
theorem KT{s:BS}{i J}(h:i<=s.len):BA s none (some (.int .i64 (AA i))) J=J (s.sub 0 i):=by
 show JK (Ac 0 i&&Ac i s.len) _=_;exact H6 (by simp[Ag,h])
theorem G8{s:BS}{i j J}(h:i<=j)(c:j<=s.len):BA s (some (.int .i64 (AA i))) (some (.int .i64 (AA j))) J=J (s.sub i j):=by
 show JK (Ac i j&&Ac j s.len) _=_;exact H6 (by simp[Ag,h,c])
def Sl(U:H)(a k:Nat)(v:V)(l:List V):Prop:=(k=0/\v = .nils/\l=[])\/(∃b,v = .sl b 0 k (.op a)/\DQ U b l/\0<k/\l.length=k*a)
theorem Sl.nil U a:Sl U a 0 .nils [] := .inl ⟨rfl,rfl,rfl⟩
theorem Sl.length{a k v}(h:Sl U a k v l):l.length=k*a:=by
 rcases h with ⟨rfl,_,rfl⟩|⟨b,_,_,_,h⟩
 ·simp
 ·exact h
theorem Sl.fr{c k v}(h:Sl U c k v l)(f:Fr S U U')(j:CI U)(e:∀b,AS v b->¬S b):Sl U' c k v l:=by
 rcases h with h|⟨b,rfl,m,g,i⟩
 ·exact .inl h
 ·exact .inr ⟨b,rfl,f.at_ m j (e b rfl),g,i⟩
theorem Sl.one{c k}{v:V}(h:Sl U c k v l):v.one=true:=by
 rcases h with ⟨_,rfl,_⟩|⟨b,rfl,_⟩<;>rfl
theorem Sl.slen{c k v J}(h:Sl U c k v l):BV v J=J k:=by
 rcases h with ⟨rfl,rfl,_⟩|⟨b,rfl,_⟩<;>rfl
theorem Sl.lt{f k v}(h:Sl U f k v l)(j:CI U)(g:AS v b):b<U.next:=by
 rcases h with ⟨_,rfl,_⟩|⟨c,rfl,i,_⟩
 ·exact g.elim
 ·cases g;exact i.lt j
theorem u3{a n c b e J}(h:DQ U c m)(d:b+n*a<=m.length):srcK E U a (.sl c b n e) J=J n ((m.drop b).take (n*a)):=
 (VD h).trans (P3 d)
theorem LN{b o n c a}:E2 (.sl b o n c) a=a:=rfl
theorem DG{a b o n i c J}(h:i<n):Bl a (.sl b o n c) (AA i) J=J b (AN o (FP i a)):=by
 show JK (Cr i n) _=_;exact H6 (by simpa[Cs]using h)
theorem Q1(l:EB) id a:CB (drop l id) a=if id=a then none else CB l a:=by
 rw[B8,B8];exact OW l id a
end
theorem Gk k n J:BZ k (.int k n) J=J n:=by simp[BZ]
theorem Hy b J:CN (.bool b) J=J b:=rfl
theorem Jw s J:JM (.str s) J=J s:=rfl
theorem Jx b o J:CM (.ptr b o) J=J b o:=rfl
theorem Jz l J:Cl (.agg l) J=J l:=rfl
theorem Jv l J:HV (.tup l) J=J l:=rfl
theorem Hx v l J:Aj (v::l) J=J v l:=rfl
theorem Jy a:BD [] a=a:=rfl
theorem H7 v U J:BT (some (v,U)) J=J v U:=rfl
def BS.nats(s:BS):List Nat:=s.toList.map UInt8.toNat
theorem BS.length_nats(s:BS):s.nats.length=s.len:=by simp[BS.nats,BS.length_toList]
theorem BS.nats_get{s:BS}{i}(h:i<s.len):s.nats[i]? = some (s.get i):=by
 simp only[BS.nats,BR,BS.getElem?_toList,if_pos h,CH,UInt8.toNat_ofNat'];rw[Fy (s.get_lt i)]
theorem BS.nats_lt(s:BS):∀c∈s.nats,c<256:=by
 intro c g;simp only[BS.nats,Kl]at g;obtain⟨u,_,rfl⟩:=g;exact u.toNat_lt
theorem BS.nats_cat(a b:BS):(a.cat b).nats=a.nats++b.nats:=by simp[BS.nats,BS.toList_cat]
theorem BS.nats_sub{s:BS}{lo a}(h:a<=s.len):(s.sub lo a).nats=(s.nats.drop lo).take (a-lo):=by
 simp[BS.nats,BS.toList_sub h]
theorem Wy{l m:List UInt8}(h:l.map UInt8.toNat=m.map UInt8.toNat):l=m:=by
 have c:=congrArg (List.map UInt8.ofNat) h;simpa[xT,Function.comp_def]using c
theorem BS.beq_nats(a b:BS):a.beq b=decide (a.nats=b.nats):=by
 rw[BS.beq_eq];rw[QR];simp only[decide_eq_true_eq];exact⟨λh=>by rw[BS.nats,h,<-BS.nats],λh=>Wy h⟩
def BS.canon(s:BS):Prop:=s.val<2 ^ (8*s.len)
theorem BS.canon_low{s:BS}(h:s.canon):s.low=s.val:=Fy h
theorem BS.canon_ext{a b:BS}(k:a.canon)(j:b.canon)(h:a.nats=b.nats):a=b:=by
 have l:=Wy h;obtain⟨f,m⟩:=BS.get_eq l;have:=(BS.low_eq f).2 m;rw[BS.canon_low k,BS.canon_low j]at this;cases a;cases b;simp only[]at f this;subst f;subst this;rfl
theorem BS.sub_canon(s:BS) lo a:(s.sub lo a).canon:=AFa _ (Nat.pow_pos (by decide))
def BO:List Nat->BS
 | []=>⟨0,0⟩
 | c::l=>⟨Nat.succ (BO l).len,AN c (FP 256 (BO l).val)⟩
theorem VH:∀{l:List Nat},(∀c∈l,c<256)->BO l=BS.ofList (l.map UInt8.ofNat)
 | [],_=>rfl | c::l,h=>by
  have i:(UInt8.ofNat c).toNat=c:=by simp only[UInt8.toNat_ofNat'];exact Fy (h c (by simp))
  have f:=VH (λd g=>h d (Ar _ g));show BS.mk (Nat.succ (BO l).len) (AN c (FP 256 (BO l).val))=BS.mk (Nat.succ (BS.ofList (l.map UInt8.ofNat)).len) (AN (UInt8.ofNat c).toNat (FP 256 (BS.ofList (l.map UInt8.ofNat)).val));rw[f,i]
theorem DR:∀l,(BO l).len=l.length
 | []=>rfl | c::l=>by simp[BO,DR l]
theorem Dk{l:List Nat}(h:∀c∈l,c<256):(BO l).nats=l:=by
 rw[VH h];apply GZ;intro i;by_cases j:i<l.length
 ·have n:(BS.ofList (l.map UInt8.ofNat)).len=l.length:=by rw[BS.len_ofList,DD]
  rw[BS.nats_get (by omega)];have m:(l.map UInt8.ofNat)[i]? = some (UInt8.ofNat l[i]):=by simp[j]
  rw[BS.get_ofList _ _ _ m];simp only[UInt8.toNat_ofNat',AV j];rw[Fy (h _ (Z1 j))]
 ·rw[Ae (by rw[BS.length_nats,BS.len_ofList,DD];omega),Ae (by omega)]
theorem ME:∀{l},(∀c∈l,c<256)->(BO l).canon
 | [],_=>by show 0<2 ^ (8*0);decide
 | c::l,h=>by
  have j:(BO l).val<2 ^ (8*(BO l).len):=ME (λd g=>h d (by simp[g]));have i:=h c (by simp);show c+256*(BO l).val<2 ^ (8*((BO l).len+1));have e:2 ^ (8*((BO l).len+1))=256*2 ^ (8*(BO l).len):=by
   rw[Nat.mul_add,Nat.pow_add];simp[OI]
  rw[e];omega
theorem Ur{s:BS}{lo a}(h:a<=s.len):s.sub lo a=BO ((s.nats.drop lo).take (a-lo)):=by
 have d:∀c∈(s.nats.drop lo).take (a-lo),c<256:=λc e=>s.nats_lt c (Bq (Eu e));exact BS.canon_ext (s.sub_canon lo a) (ME d) (by rw[BS.nats_sub h,Dk d])
def OM(s:BS)(i:Nat)(r:List Nat):Prop:=i<=s.len/\s.nats.drop i=r
section
variable {s:BS}{i:Nat}{r:List Nat}
theorem OM.start(s:BS):OM s 0 s.nats:=⟨BF _,rfl⟩
theorem OM.len(h:OM s i r):i+r.length=s.len:=by
 have:=congrArg Du h.2;rw[AQ,BS.length_nats]at this;have:=h.1;omega
theorem OM.bd(h:OM s i r):∀c∈r,c<256:=λc a=>s.nats_lt c (Bq (h.2 ▸ a))
theorem OM.drop(h:OM s i r){k}(c:k<=r.length):OM s (i+k) (r.drop k):=by
 refine⟨by have:=h.len;omega,?_⟩;rw[<-h.2,BU]
theorem OM.tail{c}(h:OM s i (c::r)):OM s (i+1) r:=h.drop (by simp)
theorem OM.get?(h:OM s i r) k:r[k]? = if i+k<s.len then some (s.get (i+k))else none:=by
 rw[<-h.2,CD];by_cases d:i+k<s.len
 ·rw[if_pos d,BS.nats_get d]
 ·rw[if_neg d,Ae (by rw[BS.length_nats];omega)]
theorem OM.getD_lt(h:OM s i r){k}(a:i+k<s.len):r.getD k 0=s.get (i+k):=by
 rw[A1,h.get?,if_pos a];rfl
theorem OM.sub(h:OM s i r){k}(b:k<=r.length):s.sub i (i+k)=BO (r.take k):=by
 have:=h.len;rw[Ur (by omega),h.2,Nat.add_sub_cancel_left]
theorem OM.subAll(h:OM s i r):s.sub i s.len=BO r:=by
 have:=h.len;rw[show s.len=i+r.length by omega,h.sub (AL _),Z0]
end
end
end Go.Og
namespace Go.Og
noncomputable section
section
variable {E:EB}{D:Am}{n0 n i:Nat}{o:Bf}{l:List Bf}{p:DP}{pl:List DP}{s:DS}{v:V}
theorem nY(d:o.guard=none)(k:o.op.cls = .p)(g:Bp o.op (B7 p.looks s.e)=some v):
  Ca E D n0 n i (o::l) (p::pl) s=Ca E D n0 n (i+1) l pl { s with e:=DF s.e o.dst v }:=by
 have h:EK E D n0 n i o p s=some { s with e:=DF s.e o.dst v }:=by unfold EK;rw[d];simp only[B6,k,g]
 show (match EK E D n0 n i o p s with | none=>none | some j=>Ca E D n0 n (i+1) l pl j)=_;rw[h]
theorem nZ{h f}(d:o.guard=none)(r:o.op.cls = .l)(q:s.ss=h::f)(k:Cy E o.op (B7 p.looks s.e) ⟨s.nx,DU n0 n (EN p.anc s.am) h⟩=some v):
  Ca E D n0 n i (o::l) (p::pl) s=Ca E D n0 n (i+1) l pl { s with e:=DF s.e o.dst v,ls:=(i,o.op,B7 p.looks s.e,v)::s.ls }:=by
 have h:EK E D n0 n i o p s=some { s with e:=DF s.e o.dst v,ls:=(i,o.op,B7 p.looks s.e,v)::s.ls }:=by unfold EK;rw[d];simp only[B6,r,q,k]
 show (match EK E D n0 n i o p s with | none=>none | some m=>Ca E D n0 n (i+1) l pl m)=_;rw[h]
theorem nj{b}(f:o.guard=none)(r:o.op.cls = .a)(m:Cz o.op (B7 p.looks s.e) (n0+i)=some (v,b)):
  Ca E D n0 n i (o::l) (p::pl) s=Ca E D n0 n (i+1) l pl { s with e:=DF s.e o.dst v,ss:=s.ss.map ((n0+i,b)::·),am:=s.am ||| 2 ^ i }:=by
 have h:EK E D n0 n i o p s=some { s with e:=DF s.e o.dst v,ss:=s.ss.map ((n0+i,b)::·),am:=s.am ||| 2 ^ i }:=by unfold EK;rw[f];simp only[B6,r,m]
 show (match EK E D n0 n i o p s with | none=>none | some q=>Ca E D n0 n (i+1) l pl q)=_;rw[h]
theorem jR{b id c}(j:o.guard=none)(k:o.op.cls = .a)(f:n0+i=id)(d:s.am ||| 2 ^ i=c)(h:Cz o.op (B7 p.looks s.e) id=some (v,b)):
  Ca E D n0 n i (o::l) (p::pl) s=Ca E D n0 n (i+1) l pl { s with e:=DF s.e o.dst v,ss:=s.ss.map ((id,b)::·),am:=c }:=by
 subst f;subst d;exact nj j k h
theorem nh{h ss}{U':H}(t:o.guard=none)(r:o.op.cls = .k)(q:s.ss=h::ss)(k:FW E D o.op (B7 p.looks s.e) ⟨s.nx,DU n0 n (EN p.anc s.am) h⟩=some (v,U')):
  Ca E D n0 n i (o::l) (p::pl) s=Ca E D n0 n (i+1) l pl { s with e:=DF s.e o.dst v,nx:=U'.next,ss:=(GD n0 n (EN p.anc s.am) h++U'.bl)::s.ss,ks:=i::s.ks }:=by
 have h:EK E D n0 n i o p s=some { s with e:=DF s.e o.dst v,nx:=U'.next,ss:=(GD n0 n (EN p.anc s.am) h++U'.bl)::s.ss,ks:=i::s.ks }:=by unfold EK;rw[t];simp only[B6,r,q,k]
 show (match EK E D n0 n i o p s with | none=>none | some m=>Ca E D n0 n (i+1) l pl m)=_;rw[h]
theorem M4:Ca E D n0 n i [] pl s=some s:=by cases pl<;>rfl
theorem XK{ops:List Bf}{e}{U:H}{h f}(c:Ca E D U.next ops.length 0 ops pl ⟨e,U.next+ops.length,[U.bl],[],0,[]⟩=some s)
  (g:s.ls.all (λ(j,op,b,v)=>GH E U.next ops.length pl s.am j op b v s.ss s.ks [])=true) (i:s.ss=h::f) :
  AZ E D ops pl e U=some (s.e,⟨s.nx,DU U.next ops.length (λk=>s.am.testBit k) h⟩):=by
 unfold AZ;rw[c];show (if s.ls.all (λ(j,op,b,v)=>GH E U.next ops.length pl s.am j op b v s.ss s.ks [])=true then _ else none)=_;rw[if_pos g,i]
end
section
variable {E:EB}{n0 n am j:Nat}{pl:List DP}{op:Eg}{em:Cb}{v:V}{h:EB}{ss:List (EB)}{k:Nat}{ks more:List Nat}
theorem RP(g:IQ pl j (k::ks) more=false):GH E n0 n pl am j op em v (h::ss) (k::ks) more=GH E n0 n pl am j op em v ss ks (k::more):=by
 show ((!IQ pl j (k::ks) more || _)&&GH E n0 n pl am j op em v ss ks (k::more))=_;rw[g];rfl
end
section
variable {n0 n:Nat}{p:Nat->Bool}{l:EB}
theorem Hl:∀{l:EB},(∀i,i<n->p i=false->look l (n0+i)=none)->DU n0 n p l=l/\GD n0 n p l=[]
 | [],_=>⟨rfl,rfl⟩ | (k,b)::l,h=>by
  have t:(Ac n0 k&&Cr k (n0+n) && !p (k-n0))=false:=by
   cases r:(Ac n0 k&&Cr k (n0+n) && !p (k-n0))with
   | false=>rfl | true=>
    exfalso;simp only[AI,Ag,Cs,DL]at r;have:=h (k-n0) (by omega) r.2;rw[show n0+(k-n0)=k by omega]at this;simp[look]at this
  have q:=Hl (λi u s=>by
   have:=h i u s;simp only[look]at this;split at this
   ·cases this
   ·exact this)
  unfold DU GD;rw[t];simp only[CF,if_false];exact⟨by rw[q.1],q.2⟩
theorem CI.gap{U:H}(h:CI U) n:∀id,U.next<=id->id<U.next+n->look U.bl id=none:=λid b _=>by
 have:=h id b;rwa [B8]at this
theorem CI.wide{U:H}(h:CI U) n:CI ⟨U.next+n,U.bl⟩:=λb c=>h b (by have:U.next+n<=b:=c;omega)
theorem Mb{id}(h:id<n0):look (DU n0 n p l) id=look l id:=by
 rw[El,if_neg (by omega)]
theorem Ib{α k id b}{l:List (Nat × α)}(h:k≠id):look ((k,b)::l) id=look l id:=by simp[look,h]
theorem vr{E x e b off g}{h:EB}{c v}(k:Cv e x = .ptr b off)(i:look h b=some (.cells c))(j:c[off]? = some v):
  Cy E (.load none x) e ⟨g,h⟩=some v:=by
 unfold Cy;simp only[k,rd,i,j]
end
section
variable {E:EB}{D:Am}{n0 n i:Nat}{d:Option Nat}{o:Eg}{l:List Bf}{anc:Nat}{lk:List Nat}{pl:List DP}{e:Cb}{nx am:Nat}{ss:List (EB)}{h:EB}{ks:List Nat}{ls:List (Nat × Eg × Cb × V)}
theorem dp v (k:o.cls = .p)(h:Bp o (B7 lk e)=some v):Ca E D n0 n i (⟨d,o,none⟩::l) (⟨anc,lk⟩::pl) ⟨e,nx,ss,ks,am,ls⟩=Ca E D n0 n (i+1) l pl ⟨DF e d v,nx,ss,ks,am,ls⟩:=
 nY rfl k h
theorem dl v (m:o.cls = .l)(j:Cy E o (B7 lk e) ⟨nx,DU n0 n (EN anc am) h⟩=some v):Ca E D n0 n i (⟨d,o,none⟩::l) (⟨anc,lk⟩::pl) ⟨e,nx,h::ss,ks,am,ls⟩=Ca E D n0 n (i+1) l pl ⟨DF e d v,nx,h::ss,ks,am,(i,o,B7 lk e,v)::ls⟩:=
 nZ rfl m rfl j
theorem da v b id a (q:o.cls = .a)(c:n0+i=id)(f:am ||| 2 ^ i=a)(k:Cz o (B7 lk e) id=some (v,b)):Ca E D n0 n i (⟨d,o,none⟩::l) (⟨anc,lk⟩::pl) ⟨e,nx,ss,ks,am,ls⟩=Ca E D n0 n (i+1) l pl ⟨DF e d v,nx,ss.map ((id,b)::·),ks,a,ls⟩:=
 jR rfl q c f k
theorem dk v c a (w:o.cls = .k)(r:DU n0 n (EN anc am) h=h/\GD n0 n (EN anc am) h=[])(u:FW E D o (B7 lk e) ⟨nx,h⟩=some (v,⟨c,a⟩)):Ca E D n0 n i (⟨d,o,none⟩::l) (⟨anc,lk⟩::pl) ⟨e,nx,h::ss,ks,am,ls⟩=Ca E D n0 n (i+1) l pl ⟨DF e d v,c,a::h::ss,i::ks,am,ls⟩:=by
 have:=nh (i:=i) (o:=⟨d,o,none⟩) (l:=l) (p:=⟨anc,lk⟩) (pl:=pl) (s:=⟨e,nx,h::ss,ks,am,ls⟩) rfl w rfl (by show FW E D o (B7 lk e) ⟨nx,DU n0 n (EN anc am) h⟩=_;rw[r.1];exact u);rw[this];show Ca E D n0 n (i+1) l pl ⟨DF e d v,c,(GD n0 n (EN anc am) h++a)::h::ss,i::ks,am,ls⟩=_;rw[r.2];rfl
end
end
end Go.Og
namespace Go.Og
noncomputable section
mutual
def V.inn(p:Nat->Bool):V->Bool
 | .dead=>false
 | .ptr b _=>p b
 | .sl b _ _ _=>p b
 | .sle b _ _ _=>p b
 | .mp b=>p b
 | .fn _ a c=>W9 p a&&W9 p c
 | .ifc _ v=>V.inn p v
 | .agg l=>W9 p l
 | .tup l=>W9 p l
 | _=>true
def W9(p:Nat->Bool):List V->Bool
 | []=>true
 | v::l=>V.inn p v&&W9 p l
end
section
variable {R S:Ren}{p:Nat->Bool}{ρ:Nat->Nat}
end
structure Few where
 n0:Nat
 args:List V
 bl0:EB
 v:V
 n1:Nat
 bl1:EB
end
end Go.Og
namespace Go.Og
noncomputable section
section
variable {e:Few}{ρ:Nat->Nat}{args:List V}{U:H}
end
end
end Go.Og
namespace Go.Og
noncomputable section
section
variable {p:Nat->Bool}{ρ τ:Nat->Nat}
end
section
variable {e:Few}{ρ:Nat->Nat}{args:List V}{U:H}
end
end
end Go.Og
namespace Go.Og
noncomputable section
section
variable {E:EB}{U U':H}{b b':Nat}{l m:List V}
theorem AT{J o}(h:DQ U b l):Ee E U b o J=LU l o J:=VD h
theorem Ev{J o n}(h:DQ U b l):Dt E U b o n J=He l o n J:=VD h
theorem J2{a J}:LU (a::l) 0 J=J a:=rfl
theorem J3{a n J}:LU (a::l) (n+1) J=LU l n J:=rfl
theorem Qc{a b J}:He [a,b] 0 2 J=J [a,b]:=rfl
theorem Qb{a b c d J}:He [a,b,c,d] 0 4 J=J [a,b,c,d]:=rfl
theorem Qa{a b c d e J}:He [a,b,c,d,e] 0 4 J=J [a,b,c,d]:=rfl
theorem QZ{a b c d e f J}:He [a,b,c,d,e,f] 0 6 J=J [a,b,c,d,e,f]:=rfl
theorem NJ{a b c d e f g h i j k l m J}:He [a,b,c,d,e,f,g,h,i,j,k,l,m] 0 13 J=J [a,b,c,d,e,f,g,h,i,j,k,l,m]:=rfl
theorem LG{a b c d e f g h i j k l m J}:He [a,b,c,d,e,f,g,h,i,j,k,l,m] 2 6 J=J [c,d,e,f,g,h]:=rfl
theorem GB l:(V.agg l).cells=l:=rfl
theorem KA k n:(V.int k n).cells=[.int k n]:=rfl
theorem J9 b o:(V.ptr b o).cells=[.ptr b o]:=rfl
theorem BW(v:V) l:BM (v::l)=(v.one&&BM l):=rfl
theorem Bg:BM []=true:=rfl
theorem Ed k n:(V.int k n).one=true:=rfl
theorem GP c:(V.bool c).one=true:=rfl
theorem FF s:(V.str s).one=true:=rfl
theorem FR:V.nils.one=true:=rfl
theorem Qr b o n c:(V.sl b o n c).one=true:=rfl
theorem NS b o:(V.ptr b o).one=true:=rfl
theorem XO a:JK true a=a:=rfl
theorem Iy{a}:E2 .nils a=a:=rfl
theorem LO{b o a}:E2 (.ptr b o) a=a:=rfl
theorem Ec{v:V}{a}(h:v.one=true):E2 v a=a:=by cases v<;>first | rfl | cases h
theorem Iw{J}:BV .nils J=J 0:=rfl
theorem LJ{b o n c J}:BV (.sl b o n c) J=J n:=rfl
theorem KX{n J}:Wt (AA n) J=J n:=rfl
theorem jX{c a b}(h:c=true):AG c a b=a:=by rw[h];rfl
theorem jY{c a b}(h:c=false):AG c a b=b:=by rw[h];rfl
theorem ABb{c a}(h:c=true):JK c a=a:=by rw[h];rfl
theorem Nc f c d U:Ab f (λk=>AG c (k true U) (k d U))=f (c || d) U:=by cases c<;>rfl
theorem Lc f c d U:Ab f (λk=>AG c (k d U) (k false U))=f (c&&d) U:=by cases c<;>rfl
theorem Nd f c U:Ab f (λk=>k c U)=f c U:=rfl
def D0(U:H)(a n:Nat)(x:V)(m:List V):Prop:=(n=0/\x = .nils/\m=[])\/∃b o c L,x = .sl b o n c/\DQ U b L/\o+n*a<=L.length/\m=(L.drop o).take (n*a)
def ES(U:H)(a k:Nat)(v:V)(l:List V):Prop:=Sl U a k v l\/∃b,v = .sl b 0 k (.ex k)/\DQ U b l/\l.length=k*a
theorem D0.one{b n}{x:V}(h:D0 U b n x m):x.one=true:=by
 rcases h with ⟨_,rfl,_⟩|⟨_,_,_,_,rfl,_⟩<;>rfl
theorem D0.slen{b n x J}(h:D0 U b n x m):BV x J=J n:=by
 rcases h with ⟨rfl,rfl,_⟩|⟨_,_,_,_,rfl,_⟩<;>rfl
theorem D0.length{b n x}(h:D0 U b n x m):m.length=n*b:=by
 rcases h with ⟨rfl,_,rfl⟩|⟨_,o,_,L,_,_,h,rfl⟩
 ·simp
 ·simp only[Bn,AQ];omega
theorem D0.srcK{a n x J}(h:D0 U a n x m):srcK E U a x J=J n m:=by
 rcases h with ⟨rfl,rfl,rfl⟩|⟨b,o,c,L,rfl,f,g,rfl⟩
 ·rfl
 ·exact u3 f g
theorem D0.cells{a n x}(h:D0 U a n x m):C1 E U a x=some (n,m):=by
 rcases h with ⟨rfl,rfl,rfl⟩|⟨b,o,c,L,rfl,k,j,rfl⟩
 ·rfl
 ·show (Sb E U b o (n*a)).map _=_
  unfold Sb rd;rw[<-B8,show CB U.bl b=some (.cells L)from k];simp only[];rw[show Ac (o+n*a) L.length=true from Oi j];rfl
theorem D0.fr{S d n x}(h:D0 U d n x m)(f:Fr S U U')(j:CI U)(g:∀b,AS x b->¬S b):D0 U' d n x m:=by
 rcases h with h|⟨b,o,c,L,rfl,k,i,rfl⟩
 ·exact .inl h
 ·exact .inr ⟨b,o,c,L,rfl,f.at_ k j (g b rfl),i,rfl⟩
theorem D0.lt{e n x}(h:D0 U e n x m)(i:CI U)(f:AS x b):b<U.next:=by
 rcases h with ⟨_,rfl,_⟩|⟨_,_,_,_,rfl,g,_⟩
 ·exact f.elim
 ·cases f;exact g.lt i
theorem ES.nil U a:ES U a 0 .nils [] := .inl (Sl.nil U a)
theorem ES.length{b k v}(h:ES U b k v l):l.length=k*b:=by
 rcases h with h|⟨_,_,_,h⟩
 ·exact h.length
 ·exact h
theorem ES.one{c k}{v:V}(h:ES U c k v l):v.one=true:=by
 rcases h with h|⟨_,rfl,_⟩
 ·exact h.one
 ·rfl
theorem ES.slen{c k v J}(h:ES U c k v l):BV v J=J k:=by
 rcases h with h|⟨_,rfl,_⟩
 ·exact h.slen
 ·rfl
theorem ES.lt{e k v}(h:ES U e k v l)(f:CI U)(g:AS v b):b<U.next:=by
 rcases h with h|⟨_,rfl,i,_⟩
 ·exact h.lt f g
 ·cases g;exact i.lt f
theorem ES.fr{S c k v}(h:ES U c k v l)(f:Fr S U U')(e:CI U)(g:∀b,AS v b->¬S b):ES U' c k v l:=by
 rcases h with h|⟨b,rfl,i,j⟩
 ·exact .inl (h.fr f e g)
 ·exact .inr ⟨b,rfl,f.at_ i e (g b rfl),j⟩
theorem ES.src{d k v}(h:ES U d k v l):D0 U d k v l:=by
 rcases h with (⟨rfl,rfl,rfl⟩|⟨b,rfl,f,_,g⟩)|⟨b,rfl,f,g⟩
 ·exact .inl ⟨rfl,rfl,rfl⟩
 ·exact .inr ⟨b,0,_,l,rfl,f,by omega,by rw[Dv,<-g,Z0]⟩
 ·exact .inr ⟨b,0,_,l,rfl,f,by omega,by rw[Dv,<-g,Z0]⟩
theorem jg{c bytes k v x J}(h:ES U c k v l)(j:∀J,srcK E U c x J=J 0 m)(g:C1 E U c x=some (0,m)):Gv E c bytes v x U J=J v U:=by
 unfold Gv;rw[j];rcases h with (⟨rfl,rfl,rfl⟩|⟨b,rfl,o,_,n⟩)|⟨b,rfl,o,n⟩
 ·show BT (Ex E c bytes .nils x U) J=_
  unfold Ex;rw[g];rfl
 ·rfl
 ·show BT (Ex E c bytes (.sl b 0 k (.ex k)) x U) J=_
  unfold Ex;rw[g];simp only[];rw[if_pos (show Ac (k+0) k=true from Oi (AL _))];rfl
theorem jf{d bytes k n v x}(h:ES U d k v l)(z:CI U)(A:∀J,srcK E U d x J=J n m)(G:C1 E U d x=some (n,m))(I:0<n)(M:BM m=true)(s:CX (k+n) bytes=true):
  ∃U',(∀J,Gv E d bytes v x U J=J (.sl U.next 0 (k+n) (.op d)) U')/\DQ U' U.next (l++m)/\U'.next=U.next+1/\Fr (AS v) U U':=by
 obtain⟨F,rfl⟩:∃q,n=q+1:=⟨n-1,by omega⟩;rcases h with (⟨rfl,rfl,rfl⟩|⟨b,rfl,D,N,B⟩)|⟨b,rfl,D,B⟩
 ·refine⟨B9 U (.cells m),λJ=>?_,by rw[IW];exact SU m,rfl,Fr.new z _⟩
  unfold Gv;rw[A];show BT (Ex E d bytes .nils x U) J=_;unfold Ex;rw[G];simp only[];rw[BQ]at s ⊢;rw[if_neg (by omega),if_pos s];rfl
 ·refine⟨⟨U.next+1,(U.next,.cells (l++m))::drop U.bl b⟩,λJ=>?_,?_,rfl,?_⟩
  ·unfold Gv
   rw[A];show (match CB U.bl b with
    | some (.cells l)=>JK (Ax l.length (k*d)&&Ax d d&&CX (k+(F+1)) bytes&&BM m) (VR U.bl b λu=>J (.sl U.next 0 (k+(F+1)) (.op d)) ⟨U.next+1,(U.next,.cells (l++m))::u⟩) | _=>none)=_
   rw[show CB U.bl b=some (.cells l)from D];simp only[];rw[H6 (by rw[s,M,B];simp),TD]
  ·show CB ((U.next,MP.cells (l++m))::_) _=_
   rw[Bb,if_pos rfl]
  ·refine⟨λp o=>?_,C9 _,λp o I=>?_⟩
   ·have K:U.next+1<=p:=o
    show CB ((U.next,_)::drop U.bl b) p=none;rw[Bb,if_neg (by simp only[];omega),Q1];split
    ·rfl
    ·exact z p (by omega)
   ·show CB ((U.next,_)::drop U.bl b) p=_
    rw[Bb,if_neg (by simp only[];omega),Q1,if_neg];intro w;exact I w.symm
 ·refine⟨B9 U (.cells (l++m)),λJ=>?_,SU _,rfl,Fr.new z _⟩
  unfold Gv;rw[A];show BT (Ex E d bytes (.sl b 0 k (.ex k)) x U) J=_;unfold Ex;rw[G];simp only[];rw[if_neg (show ¬Ac (k+(F+1)) k=true from λh=>by rw[Ag]at h;omega),if_pos s];have L:Sb E U b 0 (k*d)=some l:=by
   unfold Sb rd;rw[<-B8,show CB U.bl b=some (.cells l)from D];simp only[];rw[show Ac (0+k*d) l.length=true from Oi (by omega)];rw[Dv,<-B,Z0];rfl
  rw[L];rfl
theorem oU{c bytes k n v x}(h:ES U c k v l)(w:CI U)(y:∀J,srcK E U c x J=J n m)(z:C1 E U c x=some (n,m))(p:m.length=n*c)(D:BM m=true)(B:CX (k+n) bytes=true):
  ∃u U',(∀J,Gv E c bytes v x U J=J u U')/\ES U' c (k+n) u (l++m)/\(∀b,AS u b->AS v b\/U.next<=b)/\Fr (AS v) U U':=by
 cases n with
 | zero=>
  have A:m=[]:=Bc (by omega);subst A;exact⟨v,U,λJ=>jg h y z,by rw[CZ];exact h,λb r => .inl r,Fr.refl w⟩
 | succ n=>
  obtain⟨U',g,a,F,f⟩:=jf h w y z (Ih n) D B;refine⟨_,U',g,.inl (.inr ⟨U.next,rfl,a,by omega,?_⟩),λb r => .inr (by cases r;exact AL _),f⟩;rw[AY,h.length,p,<-jz]
theorem Fa{a bytes k n v x}(h:ES U a k v l)(e:CI U)(c:D0 U a n x m)(d:BM m=true)(f:CX (k+n) bytes=true):
  ∃u U',(∀J,Gv E a bytes v x U J=J u U')/\ES U' a (k+n) u (l++m)/\(∀b,AS u b->AS v b\/U.next<=b)/\Fr (AS v) U U':=oU h e (λ_=>c.srcK) c.cells c.length d f
theorem rP0:(∀a l J,LU (a::l) 0 J=J a)/\(∀a l n J,LU (a::l) (n+1) J=LU l n J) /\
  (∀a b J,He [a,b] 0 2 J=J [a,b])/\(∀a b c d J,He [a,b,c,d] 0 4 J=J [a,b,c,d])/\(∀a b c d e J,He [a,b,c,d,e] 0 4 J=J [a,b,c,d]) /\
  (∀a b c d e f J,He [a,b,c,d,e,f] 0 6 J=J [a,b,c,d,e,f])/\(∀a b c d e f g h i j k l m J,He [a,b,c,d,e,f,g,h,i,j,k,l,m] 0 13 J=J [a,b,c,d,e,f,g,h,i,j,k,l,m]) /\
  (∀a b c d e f g h i j k l m J,He [a,b,c,d,e,f,g,h,i,j,k,l,m] 2 6 J=J [c,d,e,f,g,h]) /\
  (∀k n J,BZ k (.int k n) J=J n)/\(∀b J,CN (.bool b) J=J b)/\(∀s J,JM (.str s) J=J s)/\(∀b o J,CM (.ptr b o) J=J b o) /\
  (∀l J,Cl (.agg l) J=J l)/\(∀l J,HV (.tup l) J=J l)/\(∀v l J,Aj (v::l) J=J v l)/\(∀a,BD [] a=a) /\
  (∀a,E2 .nils a=a)/\(∀b o a,E2 (.ptr b o) a=a)/\(∀b o n c a,E2 (.sl b o n c) a=a)/\(∀J,BV .nils J=J 0)/\(∀b o n c J,BV (.sl b o n c) J=J n) /\
  (∀v U J,BT (some (v,U)) J=J v U)/\(∀c a b,c=true->AG c a b=a)/\(∀c a b,c=false->AG c a b=b)/\(∀c a,c=true->JK c a=a) /\
  (∀f g,Ab f g=g f)/\(∀k n l J,F0 k (.int k n::l) J=J n l)/\(∀b l J,LA (.bool b::l) J=J b l)/\(∀s l J,NA (.str s::l) J=J s l)/\(∀l U J,OU l U J=JK (BM l) (J (B9 U (.cells l)))):=
 ⟨λ_ _ _=>rfl,λ_ _ _ _=>rfl,λ_ _ _=>rfl,λ_ _ _ _ _=>rfl,λ_ _ _ _ _ _=>rfl,λ_ _ _ _ _ _ _=>rfl,λ_ _ _ _ _ _ _ _ _ _ _ _ _ _=>rfl,λ_ _ _ _ _ _ _ _ _ _ _ _ _ _=>rfl,
  Gk,λ_ _=>rfl,λ_ _=>rfl,λ_ _ _=>rfl,λ_ _=>rfl,λ_ _=>rfl,λ_ _ _=>rfl,λ_=>rfl,λ_=>rfl,λ_ _ _=>rfl,λ_ _ _ _ _=>rfl,λ_=>rfl,λ_ _ _ _ _=>rfl,
  λ_ _ _=>rfl,λ_ _ _ h=>jX h,λ_ _ _ h=>jY h,λ_ _ h=>ABb h,λ_ _=>rfl,λk n l J=>Gk k n λn=>J n l,λ_ _ _=>rfl,λ_ _ _=>rfl,λ_ _ _=>rfl⟩
theorem rC0:(∀k n l J,F0 k (.int k n::l) J=J n l)/\(∀b l J,LA (.bool b::l) J=J b l)/\(∀s l J,NA (.str s::l) J=J s l)/\(∀l U J,OU l U J=JK (BM l) (J (B9 U (.cells l)))):=
 ⟨λk n l J=>Gk k n λn=>J n l,λ_ _ _=>rfl,λ_ _ _=>rfl,λ_ _ _=>rfl⟩
theorem rP:type_of% (Ay rZ rP0):=⟨rZ,rP0⟩
theorem rC:type_of% (Ay rZ rC0):=⟨rZ,rC0⟩
theorem rS:(∀l,(V.agg l).cells=l)/\(∀k n,(V.int k n).cells=[.int k n])/\(∀b o,(V.ptr b o).cells=[.ptr b o])/\(∀(v:V) l,BM (v::l)=(v.one&&BM l))/\(BM []=true) /\
  (∀k n,(V.int k n).one=true)/\(∀c,(V.bool c).one=true)/\(∀s,(V.str s).one=true)/\(V.nils.one=true)/\(∀b o n c,(V.sl b o n c).one=true)/\(∀b o,(V.ptr b o).one=true) /\
  (∀b,(b&&true)=b)/\(∀a b:Nat,AN a b=a+b)/\(∀n,0+n=n)/\((!true)=false)/\((!false)=true):=
 ⟨λ_=>rfl,λ_ _=>rfl,λ_ _=>rfl,λ_ _=>rfl,rfl,λ_ _=>rfl,λ_=>rfl,λ_=>rfl,rfl,λ_ _ _ _=>rfl,λ_ _=>rfl,Au,λ_ _=>rfl,BQ,rfl,rfl⟩
theorem rQ:(∀m n,Cc (AA m) (AA n)=decide (m=n))/\(∀m n,Cw (AA m) (AA n)=decide (m<n))/\(∀m n,I2 (AA m) (AA n)=decide (m<=n)) /\
  (∀b,(false || b)=b)/\(∀b,(true || b)=true)/\(∀b,(b || false)=b)/\(∀b,(b || true)=true)/\(∀b,(false&&b)=false)/\(∀b,(true&&b)=b)/\(∀b,(b&&false)=false):=
 ⟨QG,P7,vu,C7,Bool.true_or,EW,xU,BY,BX,EX⟩
theorem rD:(∀h,@decide False h=false)/\(∀h,@decide True h=true):=⟨λ_=>decide_false _,λ_=>decide_true _⟩
theorem rA:type_of% (Ay rS (Ay rQ rD)):=⟨rS,rQ,rD⟩
end
end
end Go.Og
namespace Go.Og
open Go Go.RowKit Go.Deep
theorem Q2{P G f}{F:List V->H->AH}{E}(t:DB P E G f F){d n0}(B:∀g,G g=true->g<d)(u:d<=n0) l a (xs:List Value)(w:World)
  (A:∀id i,look l id=some i->id<n0) (C:∀id b,look E id=some b->∃i,Ki d l id=some i/\Hb (Ki d l) i b w) (D:BL (Ki d l) a=some xs) (h:okB (F a ⟨n0,[]⟩)=true) :
  Calls P f xs.toArray w λe w'=>e = .returned (.bool true)/\RowKit.Below w.heap.size w w':=by
 obtain⟨U,p⟩:=mC h;obtain⟨_,z⟩:=t ⟨λr=>w.heap.size<=r,w,E,G⟩ rfl rfl (Ki d l) ⟨n0,[]⟩ w a xs _ U p (Y1 B u l E w A C) D;refine z.mono ?_;rintro I w' ⟨J,x,_,_,j,v,rfl⟩;cases v;exact⟨rfl,j.os,j.tape,j.output,j.size,λk y=>j.fr k (Nat.not_le.2 y)⟩
section
variable {H:Type}{enc:TypeId × Value->H}{P:Program}{w:World}{t e:TypeId}{d:DataW H}{ps:List MemPlace}{blk off len cap:Nat}
end
theorem XR{w:World}{b off v}(h:w.cell? ⟨b,off,none⟩=some v):∃d l f,w.heap[b]? = some (.cells d l f)/\d[off]? = some v:=by
 unfold World.cell? at h;simp only[]at h;split at h
 ·rename_i c l f o
  exact⟨c,l,f,o,by simpa using h⟩
 ·cases h
theorem wH{R}{w:World}{e off l}(g:l≠[])(h:∀k v,l[k]? = some v->∃a,BE R v=some a/\a.oneCell'=true/\w.cell? ⟨e,off+k,none⟩=some a):Hb R ⟨e,off,0⟩ (.cells l) w:=by
 cases l with
 | nil=>exact(g rfl).elim | cons u l=>
  obtain⟨a,_,_,z⟩:=h 0 u rfl;obtain⟨i,q,t,m,_⟩:=XR z;refine⟨i,q,t,m,λk v x=>?_⟩;obtain⟨y,C,B,r⟩:=h k v x;obtain⟨j,o,A,n,p⟩:=XR r;rw[m]at n;cases n;exact⟨y,C,B,p⟩
theorem J6{R}{w:World}{c off len f}{g:Nat->Value}(o:∀i,BE R (f i)=some (g i)/\(g i).oneCell'=true)(h:∀i,i<len->w.cell? ⟨c,off+i,none⟩=some (g i))(q:len≠0):Hb R ⟨c,off,0⟩ (.cells ((Fz len).map f)) w:=by
 refine wH (by simp[q]) λk v n=>?_;rw[BR,BC]at n;obtain⟨j,p,rfl⟩:=n;obtain⟨m,rfl⟩:=List.getElem?_eq_some_iff.1 p;have e:k<len:=by simpa using m
 refine⟨g k,?_,(o k).2,h k e⟩;simp[(o k).1]
end Go.Og
namespace Go.Og
noncomputable section
def Tg(E:EB)(U:H)(n:Nat)(S:Nat->Prop)(o:Eg)(e:Cb)(v:V):Prop:=V.beq v v=true/\∀a (h:EB) p,(∀id,id<U.next->¬S id->look h id=look U.bl id)->Cy E o e ⟨a,DU U.next n p h⟩=some v
structure FC(E:EB)(U:H)(n:Nat)(S:Nat->Prop)(nx:Nat)(ss:List (EB))(am:Nat)(ls:List (Nat × Eg × Cb × V))(Uc:H):Prop where
 hd:nx=Uc.next/\∃r,ss=Uc.bl::r
 big:U.next+n<=nx
 fr:Fr S U Uc
 old:∀h∈ss,∀id,id<U.next->¬S id->look h id=look U.bl id
 gap:∀h∈ss,∀i,i<n->am.testBit i=false->look h (U.next+i)=none
 ld:∀x∈ls,Tg E U n S x.2.1 x.2.2.1 x.2.2.2
def ID(E:EB)(D:Am)(U:H)(n i:Nat)(S:Nat->Prop)(ops:List Bf)(pl:List DP)(s:DS)(b:Cb)(U':H):Prop:=∃a,Ca E D U.next n i ops pl s=some a/\a.e=b/\FC E U n S a.nx a.ss a.am a.ls U'
section
variable {E:EB}{D:Am}{U Uc U':H}{n i:Nat}{S:Nat->Prop}{d:Option Nat}{o:Eg}{l:List Bf}{anc:Nat}{lk:List Nat}{pl:List DP}{e env:Cb}{nx am:Nat}{ss:List (EB)}{ks:List Nat}{ls:List (Nat × Eg × Cb × V)}
theorem Li(b:FC E U n S nx ss am ls Uc):ID E D U n i S [] pl ⟨e,nx,ss,ks,am,ls⟩ e Uc:=⟨_,M4,rfl,b⟩
theorem EI v (s:o.cls = .p)(h:Bp o (B7 lk e)=some v)(k:ID E D U n (i+1) S l pl ⟨DF e d v,nx,ss,ks,am,ls⟩ env U'):ID E D U n i S (⟨d,o,none⟩::l) (⟨anc,lk⟩::pl) ⟨e,nx,ss,ks,am,ls⟩ env U':=by
 obtain⟨r,m,u,q⟩:=k;exact⟨r,(dp v s h).trans m,u,q⟩
theorem RA v (B:FC E U n S nx ss am ls Uc)(z:o.cls = .l)(w:Tg E U n S o (B7 lk e) v)(k:∀c,FC E U n S nx ss am c Uc->ID E D U n (i+1) S l pl ⟨DF e d v,nx,ss,ks,am,c⟩ env U'):
  ID E D U n i S (⟨d,o,none⟩::l) (⟨anc,lk⟩::pl) ⟨e,nx,ss,ks,am,ls⟩ env U':=by
 obtain⟨⟨A,r,rfl⟩,L,G,q,J,K⟩:=B;obtain⟨I,F,M,y⟩:=k ((i,o,B7 lk e,v)::ls) ⟨⟨A,r,rfl⟩,L,G,q,J,λx j=>by
  rcases BK.1 j with rfl|j
  ·exact w
  ·exact K x j⟩
 exact⟨I,(dl v z (w.2 nx Uc.bl _ (q _ As))).trans F,M,y⟩
theorem AOg v b t (hr:FC E U n S nx ss am ls Uc)(p:o.cls = .a)(hi:i<n)(O:am ||| 2 ^ i=t)(hv:Cz o (B7 lk e) (U.next+i)=some (v,b))
  (k:∀y,FC E U n S nx y t ls ⟨Uc.next,(U.next+i,b)::Uc.bl⟩->ID E D U n (i+1) S l pl ⟨DF e d v,nx,y,ks,t,ls⟩ env U') :
  ID E D U n i S (⟨d,o,none⟩::l) (⟨anc,lk⟩::pl) ⟨e,nx,ss,ks,am,ls⟩ env U':=by
 obtain⟨⟨R,r,rfl⟩,h2,L,T,h5,h6⟩:=hr;subst O;suffices F:FC E U n S nx ((Uc.bl::r).map ((U.next+i,b)::·)) (am ||| 2 ^ i) ls ⟨Uc.next,(U.next+i,b)::Uc.bl⟩by
  obtain⟨Z,X,k2,k3⟩:=k _ F;exact⟨Z,(da v b (U.next+i) _ p rfl rfl hv).trans X,k2,k3⟩
 refine⟨⟨R,_,rfl⟩,h2,⟨λc p=>?_,L.le,λc p G=>?_⟩,λh J id N G=>?_,λh J j hj I=>?_,h6⟩
 ·have p:Uc.next<=c:=p
  show CB ((U.next+i,b)::Uc.bl) c=none;rw[Bb,if_neg (by simp only[];omega)];exact L.tidy c p
 ·show CB ((U.next+i,b)::Uc.bl) c=_
  rw[Bb,if_neg (by simp only[];omega)];exact L.same c p G
 ·obtain⟨W,s,rfl⟩:=Kl.1 J
  rw[Ib (by omega)];exact T _ s id N G
 ·obtain⟨W,s,rfl⟩:=Kl.1 J
  rw[WM,Ba]at I;have Q:i≠j:=λhe=>by
   subst he;have:=I.2;rw[AQB]at this;cases this
  rw[Ib (by omega)];exact h5 _ s j hj I.1
theorem OZ v {g:H}(hr:FC E U n S nx ss am ls Uc)(hc:o.cls = .k)(O:∀j,j<n->am.testBit j=true->anc.testBit j=true){S'}(P:Fr S' Uc g)(F:∀b,b<U.next->S' b->S b)(X:∀b,S' b->U.next<=b->b<U.next+n->False)(hv:FW E D o (B7 lk e) Uc=some (v,g))
  (k:∀A w M,FC E U n S A w am ls g->ID E D U n (i+1) S l pl ⟨DF e d v,A,w,M,am,ls⟩ env U') :
  ID E D U n i S (⟨d,o,none⟩::l) (⟨anc,lk⟩::pl) ⟨e,nx,ss,ks,am,ls⟩ env U':=by
 obtain⟨⟨hn,r,rfl⟩,h2,Z,h4,N,h6⟩:=hr;subst hn;have le:=P.le;have u:=Z.trans P F;suffices L:FC E U n S g.next (g.bl::Uc.bl::r) am ls g by
  obtain⟨s',k1,k2,k3⟩:=k g.next (g.bl::Uc.bl::r) (i::ks) L;refine⟨s',(dk v g.next g.bl hc (Hl λj z J=>?_) hv).trans k1,k2,k3⟩;refine N _ As j z ?_;cases Q:am.testBit j with
  | false=>rfl | true=>
   exfalso;unfold EN at J;rw[Q,O j z Q]at J;cases J
 refine⟨⟨rfl,_,rfl⟩,by omega,u,λh s id y F=>?_,λh s j z T=>?_,h6⟩
 ·rcases BK.1 s with rfl|s
  ·rw[<-B8,<-B8];exact u.same id y F
  ·exact h4 _ s id y F
 ·rcases BK.1 s with rfl|s
  ·have:=P.same (U.next+j) (by omega) (λY=>X _ Y (by omega) (by omega))
   rw[<-B8,this,B8];exact N _ As j z T
  ·exact N _ s j z T
theorem Cn(e:CI U):FC E U n S (U.next+n) [U.bl] 0 [] ⟨U.next+n,U.bl⟩:=
  ⟨⟨rfl,[],rfl⟩,AL _,⟨e.wide n,HQ _ _,λ_ _ _=>rfl⟩,λh c id j _=>by rw[B0.1 c],λh c i k _=>by
    rw[B0.1 c];exact e.gap n _ (by omega) (by omega),λx f=>by cases f⟩
theorem MM{op l v j}(f:Tg E U n S op l v):∀(d:List (EB)) c a,(∀h∈d,∀id,id<U.next->¬S id->look h id=look U.bl id)->GH E U.next n pl am j op l v d c a=true
 | [],_,_,_=>by unfold GH;rfl
 | h::d,c,a,o=>by
  unfold GH;rw[f.2 0 h _ (o h As)];simp only[f.1,xU,BX];cases c with
  | nil=>rfl | cons k c=>exact MM f d c (k::a) λr p=>o r (Ar _ p)
theorem JP{ops:List Bf}(h:ID E D U ops.length 0 S ops pl ⟨e,U.next+ops.length,[U.bl],[],0,[]⟩ env U'):AZ E D ops pl e U=some (env,U')/\Fr S U U':=by
 obtain⟨t,o,rfl,⟨m,r,f⟩,_,n,k,q,j⟩:=h;refine⟨?_,n⟩;rw[XK o (Jj.2 λx l=>MM (j x l) _ _ _ k) f];have:=(Hl λi p s=>q _ (by rw[f];exact As) i p s).1;rw[this,m]
theorem FG{x e b off c v}(m:Cv e x = .ptr b off)(f:DQ U b c)(i:c[off]? = some v)(k:CI U)(l:¬S b)(g:V.beq v v=true):Tg E U n S (.load none x) e v:=
  ⟨g,λq h p j=>vr m (by
    have d:=f.lt k;rw[Mb d,j b d l,<-B8];exact f) i⟩
theorem mY{x e b off g n}{h:EB}{c:List V}(k:Cv e x = .ptr b off)(j:look h b=some (.cells c))(i:Ac (off+n) c.length=true):
  Cy E (.load (some n) x) e ⟨g,h⟩=some (.agg ((c.drop off).take n)):=by
 unfold Cy;simp only[k,Sb,rd,j];rw[if_pos i]
theorem KV{x e b off m}{c d:List V}(q:Cv e x = .ptr b off)(f:DQ U b c)(j:Ac (off+m) c.length=true)(r:(c.drop off).take m=d)(l:CI U)(o:¬S b)(i:V.beq (.agg d) (.agg d)=true):Tg E U n S (.load (some m) x) e (.agg d):=
  ⟨i,λt h p k=>by
    have g:=f.lt l;rw[<-r];exact mY q (by rw[Mb g,k b g o,<-B8];exact f) j⟩
end
section
variable {E:EB}{D:Am}{U:H}
theorem dH{f a e}{vs:List V}{r:AH}(c:Gu e a=vs)(d:vs.all V.live=true)(g:D f vs U=r):FW E D (.call f a) e U=r:=by
 show (if(Gu e a).all V.live then D f (Gu e a) U else none)=r;rw[c,d];exact g
end
theorem D4{e:Cb}{t}{v:V}{J}(h:Go.Og.look e t=some v)(c:v.live=true):EO e t J=J v:=by
 unfold EO;rw[h];exact H6 c
theorem MN{E D U U'}{d a bytes:Nat}{s x e v y u}(j:Cv e s=v)(h:Cv e x=y)(g:∀J,Gv E a bytes v y U J=J u U'):FW E D (.append d a bytes s x) e U=some (u,U'):=by
 show Ex E a bytes (Cv e s) (Cv e x) U=_;rw[j,h];obtain⟨w,l,k,i⟩:=TN (g λv U=>some (v,U));rw[k];exact i
mutual
theorem Bz:∀v:V,V.inn (λ_=>true) v=true->V.beq v v=true
 | .dead,h=>by simp[V.inn]at h
 | .ptr b o,_=>by simp[V.beq]
 | .sl b o n (.ex c),_=>by simp[V.beq]
 | .sl b o n (.op c),_=>by simp[V.beq]
 | .sle b o k e,_=>by simp[V.beq]
 | .mp b,_=>by simp[V.beq]
 | .bool b,_=>by simp[V.beq]
 | .int k n,_=>by simp[V.beq]
 | .str s,_=>by simp[V.beq]
 | .nilp,_=>rfl
 | .nils,_=>rfl
 | .nilm,_=>rfl
 | .nilf,_=>rfl
 | .nili,_=>rfl
 | .fn f a c,h=>by
  simp only[V.inn,AI]at h
  simp[V.beq,KD a h.1,KD c h.2]
 | .ifc t v,h=>by
  simp only[V.inn]at h
  simp[V.beq,Bz v h]
 | .agg l,h=>by
  simp only[V.inn]at h
  simp[V.beq,KD l h]
 | .tup l,h=>by
  simp only[V.inn]at h
  simp[V.beq,KD l h]
theorem KD:∀l:List V,W9 (λ_=>true) l=true->RU l l=true
 | [],_=>rfl
 | v::l,h=>by
  simp only[W9,AI]at h
  simp[RU,Bz v h.1,KD l h.2]
end
end
end Go.Og
namespace Go.Og
noncomputable section
def Ha(Q:DS->Prop)(E:EB)(D:Am)(U:H)(n i:Nat)(ops:List Bf)(pl:List DP)(s:DS):Prop:=∃a,Ca E D U.next n i ops pl s=some a/\Q a
section
variable {Q:DS->Prop}{E:EB}{D:Am}{U Uc U':H}{n i:Nat}{S:Nat->Prop}{d:Option Nat}{o:Eg}{l:List Bf}{anc:Nat}{lk:List Nat}{pl:List DP}{e env:Cb}{nx am:Nat}{ss:List (EB)}{ks:List Nat}{ls:List (Nat × Eg × Cb × V)}
theorem DC v (r:o.cls = .p)(h:Bp o (B7 lk e)=some v)(k:Ha Q E D U n (i+1) l pl ⟨DF e d v,nx,ss,ks,am,ls⟩):Ha Q E D U n i (⟨d,o,none⟩::l) (⟨anc,lk⟩::pl) ⟨e,nx,ss,ks,am,ls⟩:=by
 obtain⟨q,m,t⟩:=k;exact⟨q,(dp v r h).trans m,t⟩
theorem Lg v (w:FC E U n S nx ss am ls Uc)(B:o.cls = .l)(q:Tg E U n S o (B7 lk e) v)(k:FC E U n S nx ss am ((i,o,B7 lk e,v)::ls) Uc->Ha Q E D U n (i+1) l pl ⟨DF e d v,nx,ss,ks,am,(i,o,B7 lk e,v)::ls⟩):
  Ha Q E D U n i (⟨d,o,none⟩::l) (⟨anc,lk⟩::pl) ⟨e,nx,ss,ks,am,ls⟩:=by
 obtain⟨⟨y,r,rfl⟩,J,C,t,z,I⟩:=w;obtain⟨F,u,G⟩:=k ⟨⟨y,r,rfl⟩,J,C,t,z,λx m=>by
  rcases BK.1 m with rfl|m
  ·exact q
  ·exact I x m⟩
 exact⟨F,(dl v B (q.2 nx Uc.bl _ (t _ As))).trans u,G⟩
theorem TC v b p (hr:FC E U n S nx ss am ls Uc)(q:o.cls = .a)(hi:i<n)(L:am ||| 2 ^ i=p)(hv:Cz o (B7 lk e) (U.next+i)=some (v,b))
  (k:∀w,FC E U n S nx w p ls ⟨Uc.next,(U.next+i,b)::Uc.bl⟩->Ha Q E D U n (i+1) l pl ⟨DF e d v,nx,w,ks,p,ls⟩) :
  Ha Q E D U n i (⟨d,o,none⟩::l) (⟨anc,lk⟩::pl) ⟨e,nx,ss,ks,am,ls⟩:=by
 obtain⟨⟨R,r,rfl⟩,h2,M,T,h5,X⟩:=hr;subst L;suffices K:FC E U n S nx ((Uc.bl::r).map ((U.next+i,b)::·)) (am ||| 2 ^ i) ls ⟨Uc.next,(U.next+i,b)::Uc.bl⟩by
  obtain⟨s',O,k2⟩:=k _ K;exact⟨s',(da v b (U.next+i) _ q rfl rfl hv).trans O,k2⟩
 refine⟨⟨R,_,rfl⟩,h2,⟨λc q=>?_,M.le,λc q N=>?_⟩,λh I id C N=>?_,λh I j hj G=>?_,X⟩
 ·have q:Uc.next<=c:=q
  show CB ((U.next+i,b)::Uc.bl) c=none;rw[Bb,if_neg (by simp only[];omega)];exact M.tidy c q
 ·show CB ((U.next+i,b)::Uc.bl) c=_
  rw[Bb,if_neg (by simp only[];omega)];exact M.same c q N
 ·obtain⟨W,t,rfl⟩:=Kl.1 I
  rw[Ib (by omega)];exact T _ t id C N
 ·obtain⟨W,t,rfl⟩:=Kl.1 I
  rw[WM,Ba]at G;have P:i≠j:=λZ=>by
   subst Z;have:=G.2;rw[AQB]at this;cases this
  rw[Ib (by omega)];exact h5 _ t j hj G.1
theorem TA v {g:H}(hr:FC E U n S nx ss am ls Uc)(hc:o.cls = .k)(J:∀j,j<n->am.testBit j=true->anc.testBit j=true){S'}(N:Fr S' Uc g)(C:∀b,b<U.next->S' b->S b)(hg:∀b,S' b->U.next<=b->b<U.next+n->False)(X:FW E D o (B7 lk e) Uc=some (v,g))
  (k:∀A w,FC E U n S A w am ls g->Ha Q E D U n (i+1) l pl ⟨DF e d v,A,w,i::ks,am,ls⟩) :
  Ha Q E D U n i (⟨d,o,none⟩::l) (⟨anc,lk⟩::pl) ⟨e,nx,ss,ks,am,ls⟩:=by
 obtain⟨⟨hn,r,rfl⟩,h2,h3,h4,I,W⟩:=hr;subst hn;have le:=N.le;have u:=h3.trans N C;suffices M:FC E U n S g.next (g.bl::Uc.bl::r) am ls g by
  obtain⟨s',Y,k2⟩:=k g.next (g.bl::Uc.bl::r) M;refine⟨s',(dk v g.next g.bl hc (Hl λj z K=>?_) X).trans Y,k2⟩;refine I _ As j z ?_;cases P:am.testBit j with
  | false=>rfl | true=>
   exfalso;unfold EN at K;rw[P,J j z P]at K;cases K
 refine⟨⟨rfl,_,rfl⟩,by omega,u,λh s id y C=>?_,λh s j z O=>?_,W⟩
 ·rcases BK.1 s with rfl|s
  ·rw[<-B8,<-B8];exact u.same id y C
  ·exact h4 _ s id y C
 ·rcases BK.1 s with rfl|s
  ·have:=N.same (U.next+j) (by omega) (λT=>hg _ T (by omega) (by omega))
   rw[<-B8,this,B8];exact I _ As j z O
  ·exact I _ s j z O
def Ml(E:EB)(U:H)(n:Nat)(pl:List DP)(a:Cb)(U':H)(s:DS):Prop:=
 s.e=a/\s.nx=U'.next/\(∃r,s.ss=U'.bl::r)/\s.ls.all (λ(j,op,b,v)=>GH E U.next n pl s.am j op b v s.ss s.ks [])=true/\∀i,i<n->s.am.testBit i=false->look U'.bl (U.next+i)=none
theorem QB{pl0 C}{h:H} v (L:FC E U n S nx ss am ls Uc)(M:o.cls = .k)(w:∀j,j<n->am.testBit j=true->anc.testBit j=true)(R:Fr C Uc h)(W:∀b,C b->U.next<=b->b<U.next+n->False)
  (P:FW E D o (B7 lk e) Uc=some (v,h)) (O:∀x∈ls,IQ pl0 x.1 (i::ks) []=false):Ha (Ml E U n pl0 (DF e d v) h) E D U n i [⟨d,o,none⟩] [⟨anc,lk⟩] ⟨e,nx,ss,ks,am,ls⟩:=by
 obtain⟨⟨X,r,rfl⟩,Z,h3,J,F,I⟩:=L;subst X;refine⟨_,(dk v h.next h.bl M (Hl λj m s=>?_) P).trans M4,rfl,rfl,⟨_,rfl⟩,?_,λj m K=>?_⟩
 ·refine F _ As j m ?_
  cases B:am.testBit j with
  | false=>rfl | true=>
   exfalso;unfold EN at s;rw[B,w j m B]at s;cases s
 ·refine Jj.2 λx G=>?_
  show GH E U.next n pl0 am x.1 x.2.1 x.2.2.1 x.2.2.2 (h.bl::Uc.bl::r) (i::ks) []=true;rw[RP (O x G)];exact MM (I x G) _ _ _ J
 ·have:=R.same (U.next+j) (by omega) (λY=>W _ Y (by omega) (by omega))
  rw[<-B8,this,B8];exact F _ As j m K
theorem Lh{ops:List Bf}(h:Ha (Ml E U ops.length pl env U') E D U ops.length 0 ops pl ⟨e,U.next+ops.length,[U.bl],[],0,[]⟩):AZ E D ops pl e U=some (env,U'):=by
 obtain⟨n,f,rfl,c,⟨r,j⟩,k,g⟩:=h;rw[XK f k j];have:=(Hl λi d m=>g i d m).1;rw[this,c]
end
end
end Go.Og
namespace Go.Og
noncomputable section
theorem Fj{E D}{U:H}{b off n:Nat}{l c:List V}{x y}{e:Cb}(j:CI U)(h:DQ U b l)(t:Cv e x = .ptr b off)(s:(Cv e y).cells=c)(r:(Ax c.length n&&Ac (off+n) l.length&&BM c)=true):
  ∃U',FW E D (.store n x y) e U=some (.dead,U')/\Fr (λk=>k=b) U U'/\DQ U' b (Gj l off c):=by
 have o:look U.bl b=some (.cells l):=by rw[<-B8];exact h
 refine⟨U.set b (.cells (Gj l off c)),?_,⟨λk g=>?_,AL _,λk g q=>?_⟩,?_⟩
 ·show (match Cv e x with
   | .ptr b off=>match look U.bl b with
    | some (.cells l)=>if(Ax (Cv e y).cells.length n&&Ac (off+n) l.length&&BM (Cv e y).cells)=true then some (V.dead,U.set b (.cells (Gj l off (Cv e y).cells)))else none | _=>none
   | _=>none)=_
  rw[t];simp only[o];rw[s,if_pos r]
 ·have g:U.next<=k:=g
  have:=h.lt j;show CB (MS U.bl b _) k=none;rw[B8,Io,if_neg (by omega),<-B8];exact j k g
 ·show CB (MS U.bl b _) k=_
  rw[B8,Io,if_neg (λe=>q e.symm),B8]
 ·show CB (MS U.bl b _) b=_
  rw[B8,Io,if_pos rfl,o];rfl
end
noncomputable section
section
variable {E:EB}{D:Am}{U Uc U':H}{n i:Nat}{S:Nat->Prop}{d:Option Nat}{o:Eg}{g:Option (Nat × Bool)}{l:List Bf}{anc:Nat}{lk:List Nat}{pl:List DP}{e env:Cb}{nx am:Nat}{ss:List (EB)}{ks:List Nat}{ls:List (Nat × Eg × Cb × V)}
theorem AHw v (y:B6 (B7 lk e) g=some true)(F:o.cls = .p)(z:Bp o (B7 lk e)=some v)(k:ID E D U n (i+1) S l pl ⟨DF e d v,nx,ss,ks,am,ls⟩ env U'):ID E D U n i S (⟨d,o,g⟩::l) (⟨anc,lk⟩::pl) ⟨e,nx,ss,ks,am,ls⟩ env U':=by
 obtain⟨t,B,C,A⟩:=k;refine⟨t,?_,C,A⟩;have h:EK E D U.next n i ⟨d,o,g⟩ ⟨anc,lk⟩ ⟨e,nx,ss,ks,am,ls⟩=some ⟨DF e d v,nx,ss,ks,am,ls⟩:=by unfold EK;simp only[y,F,z]
 show (match EK E D U.next n i ⟨d,o,g⟩ ⟨anc,lk⟩ ⟨e,nx,ss,ks,am,ls⟩with | none=>none | some t=>Ca E D U.next n (i+1) l pl t)=_;rw[h];exact B
theorem nL(x:B6 (B7 lk e) g=some false)(k:ID E D U n (i+1) S l pl ⟨DF e d Eh,nx,ss,ks,am,ls⟩ env U'):ID E D U n i S (⟨d,o,g⟩::l) (⟨anc,lk⟩::pl) ⟨e,nx,ss,ks,am,ls⟩ env U':=by
 obtain⟨s,y,z,A⟩:=k;refine⟨s,?_,z,A⟩;have h:EK E D U.next n i ⟨d,o,g⟩ ⟨anc,lk⟩ ⟨e,nx,ss,ks,am,ls⟩=some ⟨DF e d Eh,nx,ss,ks,am,ls⟩:=by unfold EK;simp only[x]
 show (match EK E D U.next n i ⟨d,o,g⟩ ⟨anc,lk⟩ ⟨e,nx,ss,ks,am,ls⟩with | none=>none | some s=>Ca E D U.next n (i+1) l pl s)=_;rw[h];exact y
theorem AHx v {A}(K:FC E U n S nx ss am ls Uc)(G:B6 (B7 lk e) g=some true)(I:o.cls = .k)(y:∀j,j<n->am.testBit j=true->anc.testBit j=true){S'}(J:Fr S' Uc A)(M:∀b,b<U.next->S' b->S b)(L:∀b,S' b->U.next<=b->b<U.next+n->False)(F:FW E D o (B7 lk e) Uc=some (v,A))
  (k:∀q h z,FC E U n S q h am ls A->ID E D U n (i+1) S l pl ⟨DF e d v,q,h,z,am,ls⟩ env U') :
  ID E D U n i S (⟨d,o,g⟩::l) (⟨anc,lk⟩::pl) ⟨e,nx,ss,ks,am,ls⟩ env U':=by
 obtain⟨p,O,N,P⟩:=OZ v K I y J M L F k;refine⟨p,?_,N,P⟩;rw[<-O];show (match EK E D U.next n i ⟨d,o,g⟩ ⟨anc,lk⟩ ⟨e,nx,ss,ks,am,ls⟩with | none=>none | some p=>Ca E D U.next n (i+1) l pl p)=(match EK E D U.next n i ⟨d,o,none⟩ ⟨anc,lk⟩ ⟨e,nx,ss,ks,am,ls⟩with | none=>none | some p=>Ca E D U.next n (i+1) l pl p);have:EK E D U.next n i ⟨d,o,g⟩ ⟨anc,lk⟩ ⟨e,nx,ss,ks,am,ls⟩=EK E D U.next n i ⟨d,o,none⟩ ⟨anc,lk⟩ ⟨e,nx,ss,ks,am,ls⟩:=by
  unfold EK;rw[G,show B6 (B7 lk e) none=some true from rfl]
 rw[this]
end
end
end Go.Og
namespace Go.Og
noncomputable section
section
variable {E:EB}{D:Am}{U Uc U':H}{n i:Nat}{S:Nat->Prop}{d:Option Nat}{o:Eg}{l:List Bf}{anc:Nat}{lk:List Nat}{pl:List DP}{e env:Cb}{nx am:Nat}{ss:List (EB)}{ks:List Nat}{ls:List (Nat × Eg × Cb × V)}
end
end
end Go.Og
namespace Go.Og
noncomputable section
end
noncomputable section
def Sr(l:List Int):List V:=l.map λc => .int .u8 c
theorem ui l m:Sr (l++m)=Sr l++Sr m:=by simp[Sr]
theorem bc:∀l,BM (Sr l)=true
 | []=>rfl | c::l=>bc l
theorem L9:∀l,GX (Sr l)=some (l.map λc=>UInt8.ofNat c.toNat)
 | []=>rfl | c::l=>by
  show (GX (Sr l)).map _=_;rw[L9 l];rfl
def By(U:H)(v:V)(l:List Int):Prop:=D0 U 1 l.length v (Sr l)
theorem By.slen{U v}{l:List Int}(h:By U v l) J:BV v J=J l.length:=D0.slen h
theorem By.str{E U v}{l:List Int}(h:By U v l) J:KS E U v J=J (BS.ofList (l.map λc=>UInt8.ofNat c.toNat)):=by
 have g:∀f,srcK E U 1 v f=f l.length (Sr l):=λf=>D0.srcK h;unfold KS;rcases h with ⟨_,rfl,_⟩|⟨_,_,_,_,rfl,_⟩
 ·simp only[];rw[g,L9]
 ·simp only[];rw[g,L9]
theorem E3{v:V}(h:v.one=true):v.live=true/\v.cells=[v]:=by
 cases v<;>first | exact⟨rfl,rfl⟩ | cases h
theorem yd{u w:V}(h:u.one=true)(k:w.one=true) J:JQ [(0,1,u),(1,1,w)] [.nils,.nils] J=J [u,w]:=by
 obtain⟨c,e⟩:=E3 h;obtain⟨f,d⟩:=E3 k;unfold JQ I3 I3;rw[c,e,f,d];rfl
end
noncomputable section
end
noncomputable section
def nI(L:List Nat):List Int:=L.map AA
end
open Go
noncomputable section
def MU(c:TypeId)(a:List V)(U:H):AH:=match a with
 | [.str s,.int .i64 (.ofNat 10),.int .i64 (.ofNat 64)]=>if s.len<=1000000 then(match Go.Lib.parseIntB 64 s.toList with
  | .ok v=>some (.tup [.int .i64 v,.nili],U)
  | .range=>some (.tup [.int .i64 (Go.Lib.intSat 64 s.toList),.ifc c (.ptr U.next 0)],⟨U.next+1,U.bl⟩)
  | _=>none)else none
 | _=>none
theorem ER.mark{C R}{U:H}{w}(h:ER C R U w) i:ER C (JJ R U.next i) ⟨U.next+1,U.bl⟩ w:=by
 have n:=(FD R U.next i).le h.fresh;refine⟨λid m=>?_,λid b l=>?_,λid r b y j v l o f p e=>?_,λid b l=>?_,λg t=>?_,h.fr,h.size,h.new,h.os,h.tape,h.output⟩
 ·have m:U.next+1<=id:=m
  rw[Bv (by omega)];exact h.fresh id (by omega)
 ·obtain⟨j,f,s,k⟩:=h.own id b l
  exact⟨j,n _ _ f,s,k.mono n rfl⟩
 ·have A:=h.next_of_own l
  have B:=h.next_of_own o;rw[Bv (by omega)]at f p;exact h.inj id r b y j v l o f p e
 ·obtain⟨j,f,s,k⟩:=h.ext id b l
  exact⟨j,n _ _ f,s,k.mono n rfl⟩
 ·obtain⟨j,f,z,u⟩:=h.glob g t
  exact⟨j,n _ _ f,z,u⟩
theorem ER.below{C R U}{w w':World}(h:ER C R U w)(a:Go.RowKit.Below w.heap.size w w'):ER C R U w':=
 h.grow (λk b=>a.block k b) a.size a.os a.tape a.output
theorem AA5{P}{E:EB}{G}{ρ:Go.Shelf.Ren}(L:Go.Proofs.LaysC.n174 P ρ)(hg:G (ρ.g 16)=true){ti u}(hE:look E (ρ.g 16)=some (.cells [.ifc ti u]))(S:Ln P (ρ.f 174)=true):
  DB P E G (ρ.f 174) (MU (ρ.t 168)):=by
 intro C Q M R U w ab xs v U' h g Y;refine⟨S,?_⟩;unfold MU at h;split at h
 ·rename_i s
  split at h
  ·rename_i ac
   obtain⟨x0,ad,c0,O,rfl⟩:=Bm.1 Y;obtain⟨x1,ag,c1,N,rfl⟩:=Bm.1 O;obtain⟨x2,ae,c2,W,rfl⟩:=Bm.1 N;cases W;cases c0;cases c1;cases c2;have D:(⟨s.toList.toArray⟩:ByteArray).size=s.len:=by
    show s.toList.toArray.size=s.len;rw[List.size_toArray,BS.length_toList]
   have F:(⟨s.toList.toArray⟩:ByteArray).data.toList=s.toList:=rfl;split at h
   ·rename_i n T
    cases h;refine(Go.Proofs.Any.strconv_ParseInt_10_at64_ok L ⟨s.toList.toArray⟩ (by rw[D];omega) n (by rw[F];exact T) w).mono ?_;rintro en w' ⟨rfl,hw⟩;refine⟨R,_,Jf.refl _ _,AL _,?_,rfl,rfl⟩;rcases hw with rfl|⟨t,rfl⟩
    ·exact g
    ·exact g.below (Go.Lib.bytesWorld_below w _ t)
   ·rename_i T
    cases h;subst Q;subst M;obtain⟨j,hj,_,z⟩:=g.ext _ _ hE;obtain⟨j',B,hb,hs⟩:=g.glob _ hg;rw[hj]at B;cases B;obtain⟨af,el,fr,h1,h2⟩:=z;obtain⟨a,I,_,hc⟩:=h2 0 _ rfl;obtain⟨y,rfl⟩:∃y,a = .iface ti y:=by
     simp only[BE]at I;split at I
     ·cases I;exact⟨_,rfl⟩
     ·cases I
    have r:w.cell? ⟨ρ.g 16,0,none⟩=some (.iface ti y):=by
     rw[hb]at h1;unfold World.cell?;simp only[h1];rw[hs]at hc;simpa using hc
    refine(Go.Proofs.Any.strconv_ParseInt_10_at64_range L ⟨s.toList.toArray⟩ (by rw[D];omega) (by rw[F];exact T) _ w r (.inr ⟨ti,y,rfl⟩)).mono ?_;rintro en w' ⟨q,rfl,_,_,aa⟩;refine⟨JJ R U.next ⟨q,0,0⟩,_,FD _ _ _,C9 _,(g.below aa).mark ⟨q,0,0⟩,?_,rfl⟩;simp[BE,BL,CT]
   ·cases h
  ·cases h
 ·cases h
end
noncomputable section
section
variable {Q:DS->Prop}{E:EB}{D:Am}{U Uc U':H}{n i:Nat}{S:Nat->Prop}{d:Option Nat}{o:Eg}{l:List Bf}{anc:Nat}{lk:List Nat}{pl:List DP}{e env:Cb}{nx am:Nat}{ss:List (EB)}{ks:List Nat}{ls:List (Nat × Eg × Cb × V)}{g:Option (Nat × Bool)}
end
end
end Go.Og
namespace Go.Og
noncomputable section
structure qq(E:EB)(U:H)(n:Nat)(pl0:List DP)(nx:Nat)(ss:List (EB))(ks:List Nat)(am:Nat)(ls:List (Nat × Eg × Cb × V))(Uc:H):Prop where
 hd:nx=Uc.next/\∃r,ss=Uc.bl::r
 gap:∀i,i<n->am.testBit i=false->look Uc.bl (U.next+i)=none
 ld:∀x∈ls,∀more,GH E U.next n pl0 am x.1 x.2.1 x.2.2.1 x.2.2.2 ss ks more=true
section
variable {E:EB}{D:Am}{U Uc U2 U':H}{n i:Nat}{S S2:Nat->Prop}{d:Option Nat}{o:Eg}{l:List Bf}{anc:Nat}{lk:List Nat}{pl pl0:List DP}{e env:Cb}{nx am:Nat}{ss:List (EB)}{ks:List Nat}{ls:List (Nat × Eg × Cb × V)}
theorem FC.c(j:FC E U n S nx ss am ls Uc):qq E U n pl0 nx ss ks am ls Uc:=by
 obtain⟨⟨f,r,rfl⟩,v,u,h,d,g⟩:=j;exact⟨⟨f,r,rfl⟩,λi k s=>d _ As i k s,λx m c=>MM (g x m) _ _ _ h⟩
theorem mg{j k a}(h:(pl0.getD k ⟨0,[]⟩).anc.testBit j=true):IQ pl0 j (k::ks) a=false:=by
 unfold IQ;rw[ig,h];simp
theorem yZ v (hr:qq E U n pl0 nx ss ks am ls Uc)(hb:U.next+n<=Uc.next)(T:o.cls = .k)(J:∀j,j<n->am.testBit j=true->anc.testBit j=true)(hf:Fr S2 Uc U2)(hg:∀b,S2 b->U.next<=b->b<U.next+n->False)
  (hv:FW E D o (B7 lk e) Uc=some (v,U2)) (Y:∀x∈ls,(pl0.getD i ⟨0,[]⟩).anc.testBit x.1=true)
  (k:∀w t q,qq E U n pl0 w t q am ls U2->Ha (Ml E U n pl0 env U') E D U n (i+1) l pl ⟨DF e d v,w,t,q,am,ls⟩) :
  Ha (Ml E U n pl0 env U') E D U n i (⟨d,o,none⟩::l) (⟨anc,lk⟩::pl) ⟨e,nx,ss,ks,am,ls⟩:=by
 obtain⟨⟨W,r,rfl⟩,P,X⟩:=hr;subst W;have C:qq E U n pl0 U2.next (U2.bl::Uc.bl::r) (i::ks) am ls U2:=by
  refine⟨⟨rfl,_,rfl⟩,λj z I=>?_,λx O N=>?_⟩
  ·have:=hf.same (U.next+j) (by omega) (λhs=>hg _ hs (by omega) (by omega))
   rw[<-B8,this,B8];exact P j z I
  ·rw[RP (mg (Y x O))]
   exact X x O _
 obtain⟨S,Q,k2⟩:=k U2.next (U2.bl::Uc.bl::r) (i::ks) C;refine⟨S,(dk v U2.next U2.bl T (Hl λj z K=>?_) hv).trans Q,k2⟩;refine P j z ?_;cases L:am.testBit j with
 | false=>rfl | true=>
  exfalso;unfold EN at K;rw[L,J j z L]at K;cases K
theorem wE(o:qq E U n pl0 nx ss ks am ls Uc):Ha (Ml E U n pl0 e Uc) E D U n i [] pl ⟨e,nx,ss,ks,am,ls⟩:=by
 obtain⟨⟨h,r,rfl⟩,c,g⟩:=o;exact⟨_,M4,rfl,h,⟨r,rfl⟩,Jj.2 λx m=>g x m _,λj d t=>c j d t⟩
end
end
end Go.Og
namespace Go.Proofs.YtnpcmeaplmfdlaaGreatDoor
open Go Go.Og
noncomputable section
theorem Ia{U:H}(b:CI U) z:∃a,B9 U (.cells z)=a/\Fr Af U a/\DQ a U.next z/\a.next=U.next+1:=⟨_,rfl,Fr.new b _,SU _,rfl⟩
theorem yO{U b l}(c:CI U)(h:DQ U b l) z:∃a,Mq U b (.cells z)=a/\Fr (λk=>k=b) U a/\DQ a b z:=⟨_,rfl,Fr.set c (h.lt c) _,tV _⟩
def Em(c:Nat):Bool:=(decide (97<=c)&&decide (c<=122)) || (decide (65<=c)&&decide (c<=90))
def Ai(c:Nat):Bool:=decide (48<=c)&&decide (c<=57)
def Se(c:Nat):Bool:=((decide (c=32) || decide (c=9)) || decide (c=10)) || decide (c=13)
def Fq(c:Nat)(r:List Nat):Bool:=decide (c=45)&&decide (r.headD 0=45)
def MC:List Nat->List Nat
 | []=>[]
 | c::r=>match decide (c=10)with
  | true=>c::r
  | false=>match Fq c r with
   | true=>r.drop 1
   | false=>MC r
def HS:Nat->List Nat->List Nat
 | 0,r=>r
 | _+1,[]=>[]
 | n+1,c::r=>match Se c with
  | true=>HS n r
  | false=>match Fq c r with
   | true=>HS n (MC (r.drop 1))
   | false=>c::r
theorem Mt:∀r,(MC r).length<=r.length
 | []=>AL _ | c::r=>by
  unfold MC;have:=Mt r;split
  ·exact AL _
  ·split
   ·simp;omega
   ·simp;omega
theorem P4:∀r,∃k,k<=r.length/\MC r=r.drop k
 | []=>⟨0,AL _,rfl⟩ | c::r=>by
  unfold MC;split
  ·exact⟨0,BF _,rfl⟩
  ·split
   ·rename_i h
    have n:r≠[]:=λe=>by subst e;simp[Fq]at h
    exact⟨2,by cases r with | nil=>exact absurd rfl n | cons _ _=>simp,by simp⟩
   ·obtain⟨k,p,n⟩:=P4 r
    exact⟨k+1,by simp;omega,by rw[n];rfl⟩
theorem G1:∀n (r:List Nat),(HS n r).length<=r.length
 | 0,_=>AL _ | _+1,[]=>AL _ | n+1,c::r=>by
  unfold HS;split
  ·exact Ij (G1 n r)
  ·split
   ·have h:=G1 n (MC (r.drop 1))
    have i:=Mt (r.drop 1);simp only[AK,AQ]at *;omega
   ·exact AL _
structure HN(s:BS)(i:Nat)(r:List Nat):Prop where
 r:OM s i r
 few:s.len<=10000
section
variable {s:BS}{i c:Nat}{r:List Nat}
theorem HN.len(h:HN s i r):i+r.length=s.len:=h.r.len
theorem HN.le(h:HN s i r):i<=10000:=by have:=h.len;have:=h.few;omega
theorem HN.tl(h:HN s i (c::r)):HN s (i+1) r:=⟨h.r.tail,h.few⟩
theorem HN.dr(h:HN s i r){k}(a:k<=r.length):HN s (i+k) (r.drop k):=⟨h.r.drop a,h.few⟩
theorem HN.lt(h:HN s i (c::r)):i<s.len:=by have:=h.len;simp at this;omega
theorem HN.ix(h:HN s i (c::r)) J:Az s (AA i) J=J (AA c):=by
 rw[JO h.lt];have:=h.r.getD_lt (k:=0) h.lt;rw[OJ]at this;rw[<-this];rfl
theorem HN.nil(h:HN s i []):i=s.len:=by have:=h.len;simpa using this
theorem HN.hd(h:HN s i r) J (f:i<s.len):Az s (AA i) J=J (AA (r.headD 0)):=by
 cases r with
 | nil=>have:=h.nil;omega | cons c r=>exact h.ix J
end
def KJ(F:List V->H->AH):Prop:=∀U s i (r:List Nat),HN s i r->F [.str s,.int .i64 (AA i)] U=some (.int .u8 (AA (r.headD 0)),U)
def SA(F:List V->H->AH):Prop:=∀U c,F [.int .u8 (AA c)] U=some (.bool (Em c),U)
def Mg(F:List V->H->AH):Prop:=∀U c,F [.int .u8 (AA c)] U=some (.bool (Ai c),U)
def Xv(N:Nat)(F:List V->H->AH):Prop:=∀U s i (r:List Nat),HN s i r->∃k,k<=r.length/\HS N r=r.drop k/\F [.str s,.int .i64 (AA i)] U=some (.int .i64 (AA (i+k)),U)
section
variable {E:EB}{D:Am}{W:AJ}{N:Nat}
theorem yH:KJ (F42 E D W N):=by
 intro U s i r h;show pZ E D W s (AA i) U=_;unfold pZ;cases r with
 | nil=>
  have k:decide (s.len<=i)=true:=decide_eq_true (by have:=h.nil;omega);simp only[↓rP,rA,AE,AF,AD,Nat.not_lt_zero,k];rfl
 | cons c r=>
  have k:decide (s.len<=i)=false:=decide_eq_false (by have:=h.lt;omega);have e:=h.ix;simp only[↓rP,rA,AE,AF,AD,Nat.not_lt_zero,k,↓e];rfl
theorem lO:SA (F43 E D W N):=by
 intro U c;show pY E D W (AA c) U=_;unfold pY Em;simp only[GB,KA,J9,BW,Bg,Ed,GP,FF,FR,Qr,NS,Au,XO,J2,J3,Qc,Qb,Qa,QZ,NJ,LG,Gk,Hy,Jw,Jx,Jz,Jv,Hx,Jy,Iy,LO,LN,Iw,LJ,H7,CC,Bx,Nc,Lc,Nd,SW,BQ,B3,CE,rC,rQ,decide_false,decide_true,AE,AF,AD]
theorem lT:Mg (F46 E D W N):=by
 intro U c;show pV E D W (AA c) U=_;unfold pV Ai;simp only[GB,KA,J9,BW,Bg,Ed,GP,FF,FR,Qr,NS,Au,XO,J2,J3,Qc,Qb,Qa,QZ,NJ,LG,Gk,Hy,Jw,Jx,Jz,Jv,Hx,Jy,Iy,LO,LN,Iw,LJ,H7,CC,Bx,Nc,Lc,Nd,SW,BQ,B3,CE,rC,rQ,decide_false,decide_true,AE,AF,AD]
theorem yF(I:KJ (D 42)) K U (s:BS):∀(r:List Nat) n i,r.length<n->HN s i r->∃k,k<=r.length/\MC r=r.drop k/\Tl E D W N K n s (AA i) U=K s (AA (i+k)) U
 | [],n,i,G,h=>by
  obtain⟨n,rfl⟩:∃m,n=m+1:=⟨n-1,by omega⟩;refine⟨0,AL _,rfl,?_⟩;show Lt E D W K _ s (AA i) U=_;have y:decide (i<s.len)=false:=decide_eq_false (by have:=h.nil;omega);have p:∀R,Lt E D W K R s (AA i) U=K s (AA i) U:=by
   intro R;unfold Lt;simp only[↓rP,rA,AE,AF,AD,y]
  exact p _
 | c::r,n,i,G,h=>by
  obtain⟨n,rfl⟩:∃m,n=m+1:=⟨n-1,by omega⟩;have e:=h.ix;have Q:=h.lt;have J:=h.le;have y:=decide_eq_true Q;have g:=I U s (i+1) r h.tl;have B:BP .i64 (AA i) (AA 1)=AA (i+1):=BB (by omega);have L:BP .i64 (AA i) (AA 2)=AA (i+2):=BB (by omega);show ∃k,k<=_/\MC (c::r)=_/\Lt E D W K (Tl E D W N K n) s (AA i) U=_;by_cases w:c=10
  ·refine⟨0,BF _,by unfold MC;rw[decide_eq_true w];rfl,?_⟩
   have x:=decide_eq_true w;have p:∀R,Lt E D W K R s (AA i) U=K s (AA i) U:=by
    intro R;unfold Lt;simp only[↓rP,rA,AE,AF,AD,y,↓e,x]
   exact p _
  ·have x:=decide_eq_false w
   cases u:Fq c r with
   | true=>
    obtain⟨k,X,F⟩:∃k,k<=(c::r).length/\MC (c::r)=(c::r).drop 2:=by
     refine⟨0,BF _,?_⟩;unfold MC;rw[x,u];rfl
    have M:r≠[]:=λe=>by subst e;simp[Fq]at u
    refine⟨2,by cases r with | nil=>exact absurd rfl M | cons _ _=>simp,F,?_⟩;unfold Fq at u;rw[AI]at u;have p:∀R,Lt E D W K R s (AA i) U=K s (AA (i+2)) U:=by
     intro R;unfold Lt;simp only[↓rP,rA,AE,AF,AD,y,↓e,x,u.1,B,L,↓g,u.2]
    exact p _
   | false=>
    obtain⟨k,T,S,O⟩:=yF I K U s r n (i+1) (by simp at G;omega) h.tl;refine⟨k+1,by simp;omega,by unfold MC;rw[x,u];exact S,?_⟩;unfold Fq at u;have p:∀R,Lt E D W K R s (AA i) U=R s (AA (i+1)) U:=by
     intro R;unfold Lt;cases v:decide (c=45)with
     | true=>
      rw[v,BX]at u;simp only[↓rP,rA,AE,AF,AD,y,↓e,x,v,B,↓g,u]
     | false=>simp only[↓rP,rA,AE,AF,AD,y,↓e,x,v,B]
    rw[p,O,show i+1+k=i+(k+1)by omega]
theorem kM(y:KJ (D 42))(M:10000<N) U (s:BS):∀n (r:List Nat) i,r.length<n->HN s i r->∃k,k<=r.length/\HS n r=r.drop k/\PR E D W N n s (AA i) U=some (.int .i64 (AA (i+k)),U)
 | 0,r,i,A,h=>by omega
 | n+1,[],i,A,h=>by
  refine⟨0,AL _,rfl,?_⟩;show Ru E D W (sX E D W N) (Tl E D W N (PR E D W N n) N) (PR E D W N n) s (AA i) U=_;have F:decide (i<s.len)=false:=decide_eq_false (by have:=h.nil;omega);have u:∀v R,Ru E D W (qC E D W) v R s (AA i) U=some (.int .i64 (AA i),U):=by
   intro v R;unfold Ru qC;simp only[↓rP,rA,AE,AF,AD,F]
  exact u _ _
 | n+1,c::r,i,A,h=>by
  have e:=h.ix;have Y:=h.lt;have Z:=h.le;have F:=decide_eq_true Y;have g:=y U s (i+1) r h.tl;have P:BP .i64 (AA i) (AA 1)=AA (i+1):=BB (by omega);have a2:BP .i64 (AA i) (AA 2)=AA (i+2):=BB (by omega);show ∃k,k<=_/\HS (n+1) (c::r)=_/\Ru E D W (sX E D W N) (Tl E D W N (PR E D W N n) N) (PR E D W N n) s (AA i) U=_;have u:∀O v R,Ru E D W O v R s (AA i) U=AG (Se c) (R s (AA (i+1)) U) (AG (Fq c r) (v s (AA (i+2)) U) (some (.int .i64 (AA i),U))):=by
   intro O v R;unfold Ru Se Fq;simp only[GB,KA,J9,BW,Bg,Ed,GP,FF,FR,Qr,NS,Au,XO,J2,J3,Qc,Qb,Qa,QZ,NJ,LG,Gk,Hy,Jw,Jx,Jz,Jv,Hx,Jy,Iy,LO,LN,Iw,LJ,H7,CC,Bx,Nc,Lc,Nd,SW,BQ,B3,CE,rC,rQ,decide_false,decide_true,AE,AF,AD,F,e,P,a2,g]
  rw[u];cases z:Se c with
  | true=>
   obtain⟨k,G,w,B⟩:=kM y M U s n r (i+1) (by simp at A;omega) h.tl;refine⟨k+1,by simp;omega,by unfold HS;rw[z];exact w,?_⟩;rw[CC,B,show i+1+k=i+(k+1)by omega]
  | false=>
   rw[Bx];cases I:Fq c r with
   | true=>
    have S:r≠[]:=λe=>by subst e;simp[Fq]at I
    have C:1<=r.length:=by cases r with | nil=>exact absurd rfl S | cons _ _=>simp
    have x:=h.tl.dr C;obtain⟨k,G,w,B⟩:=yF y (PR E D W N n) U s (r.drop 1) N (i+2) (by have:=h.len;have:=h.few;simp only[AK,AQ]at *;omega) x;have L:=x.dr G;rw[<-w]at L;have K:=Mt (r.drop 1);obtain⟨j,h5,Q,h7⟩:=kM y M U s n (MC (r.drop 1)) (i+2+k) (by simp only[AK,AQ]at *;omega) L;have T:(MC (r.drop 1)).length=r.length-1-k:=by rw[w];simp only[AQ]
    simp only[AQ]at G;refine⟨2+k+j,by simp only[AK];omega,?_,?_⟩
    ·unfold HS
     rw[z,I];show HS n (MC (r.drop 1))=_;rw[Q,w,BU,BU,show 2+k+j=(1+(k+j))+1 by omega,Gy]
    ·rw[CC,B,h7,show i+2+k+j=i+(2+k+j)by omega]
   | false=>exact⟨0,BF _,by unfold HS;rw[z,I];rfl,by rw[Bx];rfl⟩
theorem xj(l:KJ (D 42))(e:10000<N):Xv N (F22 E D W N):=by
 intro U s i r h;obtain⟨k,j,g,f⟩:=kM l e U s N r i (by have:=h.len;have:=h.few;omega) h;exact⟨k,j,g,f⟩
end
def KQ:List BS:=[BS.mk 11 100710650190388740279911748,BS.mk 8 6073459554577832005,BS.mk 8 6073459554577829193,BS.mk 9 1241215773001651606849,BS.mk 4 1397178708,BS.mk 5 336236856642,BS.mk 3 4476485,BS.mk 7 22026814072246082,BS.mk 7 23157120498421321,BS.mk 10 322399817400452109389381,BS.mk 4 1280070990,BS.mk 5 361940403023,BS.mk 6 78401563153491,BS.mk 10 488440487847103610377301,BS.mk 8 4990918871747741011,BS.mk 3 5522771,BS.mk 6 76155295057987,BS.mk 2 17999,BS.mk 8 5494759122808361039,BS.mk 7 23727827094750532,BS.mk 4 1163544915,BS.mk 3 5130573,BS.mk 3 5783885,BS.mk 4 1163219540,BS.mk 5 297750249798]
def Cp:List BS:=[BS.mk 3 4012602,BS.mk 3 3026478,BS.mk 2 11822,BS.mk 2 23387,BS.mk 2 23901,BS.mk 1 123,BS.mk 1 125,BS.mk 1 91,BS.mk 1 93,BS.mk 1 40,BS.mk 1 41,BS.mk 1 44,BS.mk 1 58]
def kY(t:BS):Bool:=KQ.any λw=>w.beq t
def OT(c:Nat)(r:List Nat):Bool:=(Em c || Ai c) || (decide (c=45) && !decide (r.headD 0=45))
def Fm:List Nat->Nat
 | []=>0
 | c::r=>match OT c r with
  | true=>Fm r+1
  | false=>0
def Ma(w:List Nat):Bool:=decide (w.getD (w.length-1) 0=45) || decide (60<w.length)
def IY:List BS->List Nat->Nat
 | [],_=>0
 | t::l,r=>match decide (t.len<=r.length)&&decide (r.take t.len=t.nats)with
  | true=>t.len
  | false=>IY l r
def C4:Nat->List Nat->Nat
 | a,[]=>a
 | a,d::l=>C4 (10*a+(d-48)) l
def De(m:Bool)(a:List Nat):List Nat:=if m=true then 45::a else a
theorem LV c r:Fm (c::r)=match OT c r with
 | true=>Fm r+1 | false=>0:=rfl
theorem Js(t:BS) l (r:List Nat):IY (t::l) r=match decide (t.len<=r.length)&&decide (r.take t.len=t.nats)with
 | true=>t.len | false=>IY l r:=rfl
theorem Qv:∀r,Fm r<=r.length
 | []=>AL _ | c::r=>by
  unfold Fm;have:=Qv r;split<;>simp only[AK]<;>omega
def fI(F:List V->H->AH):Prop:=∀U v (l:List BS) b,D0 U 1 l.length v (l.map .str)->l.length<=9000->F [v,.str b] U=some (.bool (l.any λx=>x.beq b),U)
def QJ(F:List V->H->AH):Prop:=∀U b,CI U->∃U',F [.str b] U=some (.bool (kY b),U')/\Fr Af U U'
def QM(F:List V->H->AH):Prop:=∀U s i c r,HN s i (c::r)->Em c=true ->
 F [.str s,.int .i64 (AA i)] U=some (.int .i64 (if Ma ((c::r).take (Fm (c::r)))=true then Bh 0 else AA (i+Fm (c::r))),U)
def QK(F:List V->H->AH):Prop:=∀U s i r,CI U->HN s i r->∃U',F [.str s,.int .i64 (AA i)] U=some (.int .i64 (AA (IY Cp r)),U')/\Fr Af U U'
section
variable {E:EB}{D:Am}{W:AJ}{N:Nat}
theorem yX(S:10000<N):fI (F72 E D W N):=by
 intro U v l b w Q;have y:∀m i n,i+m=l.length->m<n->fP E D W N n v b (AA i) U=some (.bool ((l.drop i).any λx=>x.beq b),U):=by
  intro m;induction m with
  | zero=>
   intro i n M I;obtain⟨n,rfl⟩:∃k,n=k+1:=⟨n-1,by omega⟩;rw[List.drop_eq_nil_of_le (by omega)];show Ra E D W (Xi E D W) _ v b (AA i) U=_;have A:decide (i<l.length)=false:=decide_eq_false (by omega);have u:∀J,BV v J=J l.length:=λJ=>w.slen;have k:∀R,Ra E D W (Xi E D W) R v b (AA i) U=some (.bool false,U):=by
    intro R;unfold Ra Xi;simp only[↓rP,rA,AE,AF,AD,↓u,A]
   exact k _
  | succ m O=>
   intro i n M I;obtain⟨n,rfl⟩:∃k,n=k+1:=⟨n-1,by omega⟩;have h:i<l.length:=by omega
   rw[EE h,P0];show Ra E D W (Xi E D W) (fP E D W N n) v b (AA i) U=_;have A:=decide_eq_true h;have u:∀J,BV v J=J l.length:=λJ=>w.slen;have rd:∀J,Bl 1 v (AA i) (λb o=>Ee E U b o J)=J (.str l[i]):=λJ=>by
    rcases w with ⟨T,_,_⟩|⟨X,o,c,L,rfl,P,F,G⟩
    ·omega
    ·rw[DG h]
     refine MI P ?_;have:(l.map V.str)[i]? = some (.str l[i]):=by rw[BR,AV h];rfl
     rw[G,CY,if_pos (by omega),CD]at this;show L[o+i*1]? = _;rw[DO];exact this
   have k:∀K R,Ra E D W K R v b (AA i) U=AG (l[i].beq b) (some (.bool true,U)) (R v b (AA (i+1)) U):=by
    intro K R;unfold Ra;simp only[↓rP,rA,AE,AF,AD,↓u,A,↓rd,BB (show i+1<=9223372036854775807 by omega)]
   rw[k,O (i+1) n (by omega) (by omega)];cases l[i].beq b<;>rfl
 exact y l.length 0 N (by omega) (by omega)
theorem bh(n:fI (D 72))(j:∀U,D 73 [] U=some (.sl U.next 0 25 (.ex 25),B9 U (.cells (KQ.map .str)))):QJ (F45 E D W N):=by
 intro U b l;obtain⟨i,m,f1,o,p⟩:=Ia l (KQ.map .str);have f:=j U;rw[m]at f;have k:=n i (.sl U.next 0 25 (.ex 25)) KQ b (.inr ⟨U.next,0,_,_,rfl,o,by decide,rfl⟩) (by decide);refine⟨i,?_,f1⟩;show pW E D W b U=_;unfold pW;simp only[↓rP,rS,↓f,↓k];rfl
theorem Wd:∀U,F73 E D W N [] U=some (.sl U.next 0 25 (.ex 25),B9 U (.cells (KQ.map .str))):=λ_=>rfl
theorem AHe(x:KJ (D 42))(w:SA (D 43))(v:Mg (D 46)) U (s:BS) f:∀(r:List Nat) n i,r.length<n->HN s i r->YF E D W N n s (AA i) f U=Tq E D W N s (AA (i+Fm r)) f U
 | [],n,i,y,h=>by
  obtain⟨n,rfl⟩:∃m,n=m+1:=⟨n-1,by omega⟩;show Rn E D W (Tq E D W N) _ s (AA i) f U=_;have u:decide (i<s.len)=false:=decide_eq_false (by have:=h.nil;omega);have o:∀K R,Rn E D W K R s (AA i) f U=K s (AA i) f U:=by
   intro K R;unfold Rn;simp only[↓rP,rA,AE,AF,AD,u]
  exact o _ _
 | c::r,n,i,y,h=>by
  obtain⟨n,rfl⟩:∃m,n=m+1:=⟨n-1,by omega⟩;have e:=h.ix;have B:=h.le;have u:=decide_eq_true h.lt;have g:=x U s (i+1) r h.tl;have I:=w U c;have J:=v U c;have A:BP .i64 (AA i) (AA 1)=AA (i+1):=BB (by omega);show Rn E D W (Tq E D W N) (YF E D W N n) s (AA i) f U=_;have o:∀K R,Rn E D W K R s (AA i) f U=AG (OT c r) (R s (AA (i+1)) f U) (K s (AA i) f U):=by
   intro K R;unfold Rn OT;cases C:Em c<;>cases G:Ai c<;>cases F:decide (c=45)<;>simp only[↓rP,rA,AE,AF,AD,u,↓e,↓I,↓J,C,G,F,A,↓g]<;>rfl
  rw[o];cases z:OT c r with
  | true=>
   rw[CC,AHe x w v U s f r n (i+1) (by simp at y;omega) h.tl];rw[LV,z];show Tq E D W N s (AA (i+1+Fm r)) f U=Tq E D W N s (AA (i+(Fm r+1))) f U;rw[show i+1+Fm r=i+(Fm r+1)by omega]
  | false=>rw[Bx,LV,z];rfl
theorem bn(C:KJ (D 42))(K:SA (D 43))(x:Mg (D 46))(M:10000<N):QM (F44 E D W N):=by
 intro U s i c r h F;have t:=h.le;have q:=h.len;have o:=h.few;have w:=Qv (c::r);have v:OT c r=true:=by unfold OT;rw[F];rfl
 have A:1<=Fm (c::r):=by unfold Fm;rw[v];exact Ih _
 obtain⟨m,g⟩:∃m,Fm (c::r)=m:=⟨_,rfl⟩;rw[g]at w A ⊢;have z:((c::r).take m).length=m:=by rw[Bn];omega
 have u:HN s (i+(m-1)) ((c::r).drop (m-1)):=h.dr (by omega);have G:((c::r).drop (m-1)).headD 0=((c::r).take m).getD (m-1) 0:=by
  rw[A1,CY,if_pos (by omega),List.headD_eq_head?_getD,List.head?_drop]
 have e:=λJ=>u.hd J (by omega);rw[G]at e;have I:Ez .i64 (AA (i+m)) (AA 1)=AA (i+(m-1)):=by rw[G5 (by omega) (by omega),show i+m-1=i+(m-1)by omega]
 have B:Ez .i64 (AA (i+m)) (AA i)=AA m:=by rw[G5 (by omega) (by omega),show i+m-i=m by omega]
 show YF E D W N N s (AA i) (AA i) U=_;rw[AHe C K x U s _ (c::r) N i (by omega) h,g];show pX E D W s (AA (i+m)) (AA i) U=_;unfold pX Ma;rw[z];cases y:decide (((c::r).take m).getD (m-1) 0=45)<;>cases L:decide (60<m)<;>simp only[↓rP,rA,AE,AF,AD,I,B,↓e,y,L]<;>rfl
theorem AG8(C:100<N) U (r:List Nat)(y:∀c∈r,c<256) b (B:DQ U b (Cp.map .str)):∀m j n,j+m=13->m<n->YC E D W N n (BO r) (.sl b 0 13 (.ex 13)) (AA j) U=some (.int .i64 (AA (IY (Cp.drop j) r)),U)
 | 0,j,n,F,G=>by
  obtain⟨n,rfl⟩:∃k,n=k+1:=⟨n-1,by omega⟩;obtain rfl:j=13:=by omega
  show Rk E D W (Xn E D W) _ (BO r) (.sl b 0 13 (.ex 13)) (AA 13) U=_;have q:∀R,Rk E D W (Xn E D W) R (BO r) (.sl b 0 13 (.ex 13)) (AA 13) U=some (.int .i64 (AA 0),U):=by
   intro R;unfold Rk Xn;simp only[↓rP,rA,AE,AF,AD,JH]
  exact q _
 | m+1,j,n,F,G=>by
  obtain⟨n,rfl⟩:∃k,n=k+1:=⟨n-1,by omega⟩;have A:j<Cp.length:=by show j<13;omega
  rw[EE A];have z:decide (j<13)=true:=decide_eq_true (by omega);have rd:∀J,Bl 1 (.sl b 0 13 (.ex 13)) (AA j) (λb o=>Ee E U b o J)=J (.str Cp[j]):=λJ=>by
   rw[DG (show j<13 by omega)];refine MI B ?_;show (Cp.map V.str)[0+j*1]? = _;rw[BQ,DO,BR,AV A];rfl
  show Rk E D W (Xn E D W) (YC E D W N n) (BO r) (.sl b 0 13 (.ex 13)) (AA j) U=_;have M:=AG8 C U r y b B m (j+1) n (by omega) (by omega);generalize Cp[j]=t at rd ⊢;have q:∀K R,Rk E D W K R (BO r) (.sl b 0 13 (.ex 13)) (AA j) U=AG (decide (t.len<=r.length)&&decide (r.take t.len=t.nats)) (some (.int .i64 (AA t.len),U)) (R (BO r) (.sl b 0 13 (.ex 13)) (AA (j+1)) U):=by
   intro K R;have g:=DR r;unfold Rk;by_cases v:t.len<=r.length
   ·have I:∀J,BA (BO r) none (some (.int .i64 (AA t.len))) J=J ((BO r).sub 0 t.len):=λJ=>KT (by rw[g];exact v)
    have L:((BO r).sub 0 t.len).beq t=decide (r.take t.len=t.nats):=by
     rw[BS.beq_nats,BS.nats_sub (by rw[g];exact v),Dk y,Dv,OH]
    simp only[↓rP,rA,AE,AF,AD,z,↓rd,g,decide_eq_true v,↓I,L,BB (show j+1<=9223372036854775807 by omega)]
   ·simp only[↓rP,rA,AE,AF,AD,z,↓rd,g,decide_eq_false v,BB (show j+1<=9223372036854775807 by omega)]
  rw[q,M,Js];cases decide (t.len<=r.length)&&decide (r.take t.len=t.nats)<;>rfl
theorem bj(q:100<N):QK (F50 E D W N):=by
 intro U s i r t h;obtain⟨m,k,f1,u,v⟩:=Ia t (Cp.map .str);refine⟨m,?_,f1⟩;have o:∀J,BA s (some (.int .i64 (AA i))) none J=J (BO r):=λJ=>by
  rw[G7 (by have:=h.len;omega),h.r.subAll]
 have g:=AG8 (E:=E) (D:=D) (W:=W) q m r h.r.bd U.next u 13 0 N rfl (by omega);unfold Cp at k;simp only[Cf,Km]at k;show eg E D W (YC E D W N N) s (AA i) U=_;have n:∀K,eg E D W K s (AA i) U=K (BO r) (.sl U.next 0 13 (.ex 13)) (AA 0) m:=by
  intro K;unfold eg;simp only[↓rP,rS,↓o,↓k]
 rw[n];exact g
end
theorem av l:∀a,a<=C4 a l:=by
 induction l with
 | nil=>intro a;exact AL a | cons d l g=>
  intro a;have:=g (10*a+(d-48));show a<=C4 (10*a+(d-48)) l;omega
theorem GW{c}(h:Ai c=true):48<=c/\c<=57:=by
 unfold Ai at h;rwa [AI,decide_eq_true_eq,decide_eq_true_eq]at h
theorem Uw:∀l (r:List Nat),IY l r<=r.length
 | [],_=>BF _ | t::l,r=>by
  rw[Js];cases h:decide (t.len<=r.length)&&decide (r.take t.len=t.nats)with
  | true=>
   rw[AI,decide_eq_true_eq]at h;exact h.1
  | false=>exact Uw l r
abbrev Ad:=Nat × List Nat × Nat
def Dq(ts:List Ad):List V:=ts.flatMap λt=>[.int .i64 (AA t.1),.str (BO t.2.1),.int .i64 (AA t.2.2)]
theorem O4 a b:Dq (a++b)=Dq a++Dq b:=List.flatMap_append
section
variable {E:EB}{D:Am}{W:AJ}{N:Nat}
end
end
end Go.Proofs.YtnpcmeaplmfdlaaGreatDoor
