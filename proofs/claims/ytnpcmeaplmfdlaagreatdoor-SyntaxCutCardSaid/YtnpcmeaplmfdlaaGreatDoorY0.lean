/- What the last text leans on, part 10 of 10: merged out of smaller texts. No condition. -/
import Derived.Test.YtnpcmeaplmfdlaaGreatDoorCards
import Derived.Lib.LaidU8
import Derived.Stop.LaidErr
import Derived.LaidSub
import Derived.Test.YtnpcmeaplmfdlaaGreatDoorV6
open Int renaming ofNat -> AA
open Nat renaming reduceLeDiff -> AD,reduceEqDiff -> AE,reduceLT -> AF,le_refl -> AL,add -> AN,lt_or_ge -> Av,beq -> Ax,zero_add -> BQ,eq_of_beq_eq_true -> CJ,succ_ne_zero -> Df,min_eq_left -> Gi,mul_comm -> OI,mod_lt -> AFa
open Bool renaming and_eq_true -> AI,false_and -> BY,false_or -> C7
open List renaming length_cons -> AK,length_drop -> AQ,getElem?_eq_getElem -> AV,length_append -> AY,getElem?_eq_none -> Ae,getD_eq_getElem?_getD -> A1,getElem?_map -> BR,drop_drop -> BU,eq_nil_of_length_eq_zero -> Bc,getElem?_drop -> CD,append_assoc -> CK,getElem?_take -> CY,append_nil -> CZ,take_append_of_le_length -> Co,append_cancel_right -> C6,length_map -> DD,length -> Du,range -> Fz,drop_append_of_le_length -> GL,nil_append -> IW,cons_append -> Ji,getElem?_range -> O2,drop_take -> WQ,take_append_drop -> Yr,forall_mem_cons -> j0,take_left -> AFb
open Option renaming some -> AP,map_some -> CH
open Array renaming getElem?_toList -> ET
set_option linter.all false
set_option maxRecDepth 100000
set_option maxHeartbeats 0
namespace Go.Proofs.YtnpcmeaplmfdlaaGreatDoor
open Go Go.Og
noncomputable section
variable (E:EB) (D:Am) (W:AJ) (N:Nat)
def APz:XC:=(.z (.aH 4 y1)
 (.z (.m 17 0<|
 .k 18 (.tup [.any,.i,.i]) 9 [(.t 17)]<|
 .bE 16 0 1 2<|
 .aD 5 19 20<|
 .aC 7 21)
 (.z (.m 23 0<|
 .k 24 (.tup [y8,.i,.i]) 7 [(.t 23)]<|
 .bE 22 0 1 2<|
 .pal 8 [] 27 [y3,y0,V.nils,V.nils,V.nils]<|
 .op none y8 [8,25] (.store 5 (.t 8) (.t 25))<|
 .m 9 26<|
 .aC 10 27)
 (.seq (.z (.aW 28 0<|
 .bQ 30 29 3000<|
 .gO 31 false (.p 32 [7,31] (.mov (.t 7))<|
 .p 33 [32,31] (.bin .neq .none (.t 32) (.i 0))<|
 .nil) 34 31 33<|
 .m 35 34<|
 .gO 35 false (.p 36 [10,35] (.mov (.t 10))<|
 .p 37 [36,35] (.bin .neq .none (.t 36) (.i 0))<|
 .nil) 38 35 37<|
 .m 39 38<|
 .gO 39 false (.p 40 [5,39] j3<|
 .p 41 [40,39] (.len false (.t 40))<|
 .p 42 [41,39] (.bin .lss .none (.t 41) (.i 2))<|
 .nil) 43 39 42<|
 .nil)
 (.cond (.tmp 43) (.z (.k 44 .bool 5 []<|
 .aC 4 44)
 .ret)
 .skip))
 (.z (.m 45 1<|
 .P 46 (.conv (.toInt .u64) (.t 45))<|
 .m 47 5<|
 .u 48 47<|
 .b 49 .sub .none (.t 48) (.i 1)<|
 .P 50 (.conv (.toInt .u64) (.t 49))<|
 .b 51 .rem .none (.t 46) (.t 50)<|
 .P 52 (.conv (.toInt .i64) (.t 51))<|
 .aC 11 52)
 (.z (.cP 53 0 5 11<|
 .s 56 3 54 55<|
 .aO 57 2 56 .i<|
 .p 59 [53,58] (.sliceStr (.t 53) none (some (.t 58)))<|
 .aC 12 59)
 (.z (.m 61 12<|
 .k 62 (.tup [y8,.i,.i]) 6 [(.t 61)]<|
 .bE 60 0 1 2<|
 .pal 13 [] 27 [y3,y0,V.nils,V.nils,V.nils]<|
 .op none y8 [13,63] (.store 5 (.t 13) (.t 63))<|
 .m 14 64<|
 .aC 15 65)
 (.z (.k 66 .bool 5 []<|
 .m 67 66<|
 .gA 67 true (.p 68 [15,67] (.mov (.t 15))<|
 .cJ 69 68 67 68 7) 70 67 69<|
 .m 71 70<|
 .gA 71 true (.p 72 [14,71] (.mov (.t 14))<|
 .p 73 [12,71] (.mov (.t 12))<|
 .p 74 [73,71] (.len true (.t 73))<|
 .bC 75 72 74 71 72 74) 76 71 75<|
 .m 77 76<|
 .gA 77 true (.aE 78 13 77 4 13 77<|
 .p 80 [79,77] (.len false (.t 79))<|
 .cJ 81 80 77 80 0) 82 77 81<|
 .aC 4 82)
 .ret))))))))
def jl(E:EB)(D:Am)(W:AJ)(a:BS)(b:Int)(U:H):AH:=
 cT (D 9 [.str a] U) λc d=>
 uC c λc e f=>
 cT (D 7 [.str a] d) λd e=>
 Aj d λd g=>
 Cl d λd=>
 uA d λd h i j k=>
 uB g λg l=>
 JK (BM (eA d h i j k)) (
 Ab (λd g=>
 Ab (λh i=>
 Ab (λj k=>
 AG j (
 cB (D 5 [] k) λj m=>
 rB j m) (
 BV c λj=>
 nzK (BH .u64 (Ez .i64 (AA j) (AA 1))) (
 Bl 3 c (BH .i64 (Int.tmod (BH .u64 b) (BH .u64 (Ez .i64 (AA j) (AA 1))))) λj m=>
 lI E k j (AN m 2) λj=>
 BA a none (some (V.int .i64 j)) λj=>
 cT (D 6 [.str j] k) λk m=>
 Aj k λk n=>
 Cl k λk=>
 uA k λk o p q r=>
 uB n λn s=>
 JK (BM (eA k o p q r)) (
 cB (D 5 [] m) λk m=>
 Ab (λo p=>
 Ab (λq t=>
 Ab (λu v=>
 rB u v) λu=>
 AG q (
 BV r λq=>
 u (Cc (AA q) (AA 0)) t) (
 u false t)) λq=>
 AG o (
 q (Cc n (AA (BS.len j))) p) (
 q false p)) λj=>
 AG k (
 j (Cc s (AA 7)) m) (
 j false m))))) λj=>
 AG h (
 j true i) (
 BV c λc=>
 j (Cw (AA c) (AA 2)) i)) λc=>
 AG d (
 c true g) (
 c (not (Cc l (AA 0))) g)) λc=>
 AG (Cw (AA 3000) (AA (BS.len a))) (
 c true e) (
 c (not (Cc f (AA 0))) e))
def F4(N:Nat)(c:List V)(U:H):AH:=
 uD c λa b=>
 jl E D W a b U
def A4:Dg:=⟨83,[.str,.i],[(.tmp 4)],APz⟩
theorem FE4 b U:Bt E D W N A4 b U=F4 E D W N b U:=by kernel_rfl
end
noncomputable section
def VQ:List (Nat × (EB->Am->AJ->Nat->List V->H->AH)):=[(4,F4),(5,F5),(6,F6),(7,F7),(9,F9),(10,F10),(11,F11),(12,F12),(13,F13),(14,F14),(15,F15),(16,F16),(17,F17),(22,F22),(23,F23),(24,F24),(25,F25),(26,F26),(27,F27),(28,F28),(29,F29),(30,F30),(31,F31),(32,F32),(33,F33),(34,F34),(42,F42),(43,F43),(44,F44),(45,F45),(46,F46),(47,F47),(48,F48),(49,F49),(50,F50),(51,F51),(52,F52),(53,F53),(54,F54),(55,F55),(56,F56),(57,F57),(58,F58),(59,F59),(60,F60),(61,F61),(62,F62),(63,F63),(64,F64),(65,F65),(66,F66),(67,F67),(68,F68),(72,F72),(73,F73),(74,F74),(75,F75),(76,F76),(78,F78),(79,F79),(80,F80),(81,F81),(86,F86),(87,F87),(90,F90),(91,F91),(92,F92),(93,F93),(94,F94),(95,F95),(96,F96),(97,F97),(98,F98),(103,jx),(104,jw),(105,Zy),(106,jv),(107,Zx),(108,ju),(113,Zw),(114,jt),(116,Zv),(118,js)]
abbrev lg:TypeId:=147
def TW(E:EB)(d:Nat):Am:=Nat.rec (λ_ _ _=>none) (λ_ a f=>match Ax f 77 with
 | true=>MU lg
 | false=>match CB VQ f with
  | some g=>g E a (AZ E a) 600000
  | none=>λ_ _=>none) d
theorem oa(E:EB)(hp:DB Tryz.prog E glob 77 (MU lg)):∀(d:Nat) (f:FuncId),DB Tryz.prog E glob f (TW E d f):=by
 have hall:∀p∈VQ,Snd p.1 p.2:=by
  unfold VQ;simp only[j0];exact⟨A2 Tryz.func4 (by kernel_rfl) FE4,A2 Tryz.func5 (by kernel_rfl) FE5,A2 Tryz.func6 (by kernel_rfl) FE6,A2 Tryz.func7 (by kernel_rfl) FE7,A2 Tryz.func9 (by kernel_rfl) FE9,A2 Tryz.func10 (by kernel_rfl) ALp,A2 Tryz.func11 (by kernel_rfl) ALo,A2 Tryz.func12 (by kernel_rfl) ALn,A2 Tryz.func13 (by kernel_rfl) ALm,A2 Tryz.func14 (by kernel_rfl) ALl,A2 Tryz.func15 (by kernel_rfl) ALk,A2 Tryz.func16 (by kernel_rfl) ALj,A2 Tryz.func17 (by kernel_rfl) ALi,A2 Tryz.func22 (by kernel_rfl) ALh,A2 Tryz.func23 (by kernel_rfl) ALg,A2 Tryz.func24 (by kernel_rfl) ALf,A2 Tryz.func25 (by kernel_rfl) ALe,A2 Tryz.func26 (by kernel_rfl) ALd,A2 Tryz.func27 (by kernel_rfl) ALc,A2 Tryz.func28 (by kernel_rfl) ALb,A2 Tryz.func29 (by kernel_rfl) ALa,A2 Tryz.func30 (by kernel_rfl) ALZ,A2 Tryz.func31 (by kernel_rfl) ALY,A2 Tryz.func32 (by kernel_rfl) ALX,A2 Tryz.func33 (by kernel_rfl) ALW,A2 Tryz.func34 (by kernel_rfl) ALV,A2 Tryz.func42 (by kernel_rfl) ALU,A2 Tryz.func43 (by kernel_rfl) ALT,A2 Tryz.func44 (by kernel_rfl) ALS,A2 Tryz.func45 (by kernel_rfl) ALR,A2 Tryz.func46 (by kernel_rfl) ALQ,A2 Tryz.func47 (by kernel_rfl) ALP,A2 Tryz.func48 (by kernel_rfl) ALO,A2 Tryz.func49 (by kernel_rfl) ALN,A2 Tryz.func50 (by kernel_rfl) ALM,A2 Tryz.func51 (by kernel_rfl) ALL,A2 Tryz.func52 (by kernel_rfl) ALK,A2 Tryz.func53 (by kernel_rfl) ALJ,A2 Tryz.func54 (by kernel_rfl) ALI,A2 Tryz.func55 (by kernel_rfl) ALH,A2 Tryz.func56 (by kernel_rfl) ALG,A2 Tryz.func57 (by kernel_rfl) ALF,A2 Tryz.func58 (by kernel_rfl) ALE,A2 Tryz.func59 (by kernel_rfl) ALD,A2 Tryz.func60 (by kernel_rfl) ALC,A2 Tryz.func61 (by kernel_rfl) ALB,A2 Tryz.func62 (by kernel_rfl) ALA,A2 Tryz.func63 (by kernel_rfl) AK9,A2 Tryz.func64 (by kernel_rfl) AK8,A2 Tryz.func65 (by kernel_rfl) AK7,A2 Tryz.func66 (by kernel_rfl) AK6,A2 Tryz.func67 (by kernel_rfl) AK5,A2 Tryz.func68 (by kernel_rfl) AK4,A2 Tryz.func72 (by kernel_rfl) AK3,A2 Tryz.func73 (by kernel_rfl) AK2,A2 Tryz.func74 (by kernel_rfl) AK1,A2 Tryz.func75 (by kernel_rfl) AK0,A2 Tryz.func76 (by kernel_rfl) AKz,A2 Tryz.func78 (by kernel_rfl) AKy,A2 Tryz.func79 (by kernel_rfl) AKx,A2 Tryz.func80 (by kernel_rfl) AKw,A2 Tryz.func81 (by kernel_rfl) AKv,A2 Tryz.func86 (by kernel_rfl) AKu,A2 Tryz.func87 (by kernel_rfl) AKt,A2 Tryz.func90 (by kernel_rfl) AKs,A2 Tryz.func91 (by kernel_rfl) AKr,A2 Tryz.func92 (by kernel_rfl) AKq,A2 Tryz.func93 (by kernel_rfl) AKp,A2 Tryz.func94 (by kernel_rfl) AKo,A2 Tryz.func95 (by kernel_rfl) AKn,A2 Tryz.func96 (by kernel_rfl) AKm,A2 Tryz.func97 (by kernel_rfl) AKl,A2 Tryz.func98 (by kernel_rfl) AKk,A2 Tryz.func103 (by kernel_rfl) zZ,A2 Tryz.func104 (by kernel_rfl) zY,A2 Tryz.func105 (by kernel_rfl) zX,A2 Tryz.func106 (by kernel_rfl) zW,A2 Tryz.func107 (by kernel_rfl) zV,A2 Tryz.func108 (by kernel_rfl) zU,A2 Tryz.func113 (by kernel_rfl) zT,A2 Tryz.func114 (by kernel_rfl) zS,A2 Tryz.func116 (by kernel_rfl) zR,A2 Tryz.func118 (by kernel_rfl) zQ,λ_ h=>by cases h⟩
 intro d;induction d with
 | zero=>intro f C _ _ R U w m xs v U' h;cases h | succ d ih=>
  intro f;show DB Tryz.prog E glob f (match Ax f 77 with
   | true=>MU lg | false=>match CB VQ f with
    | some g=>g E (TW E d) (AZ E (TW E d)) 600000 | none=>λ_ _=>none)
  split
  ·rename_i h
   rw[CJ h];exact hp
  ·split
   ·rename_i g hg
    rw[B8]at hg;exact hall _ (Qz hg) E _ ih 600000
   ·intro C _ _ R U w m xs v U' h;cases h
theorem SFl:Snd 4 F4:=A2 Tryz.func4 (by kernel_rfl) FE4
abbrev tw(E:EB)(d:Nat)(F:EB->Am->AJ->Nat->List V->H->AH):List V->H->AH:=F E (TW E d) (AZ E (TW E d)) 600000
section
variable (E:EB) (d:Nat)
theorem DE4:TW E (d+1) 4=tw E d F4:=by kernel_rfl
theorem DE5:TW E (d+1) 5=tw E d F5:=by kernel_rfl
theorem DE6:TW E (d+1) 6=tw E d F6:=by kernel_rfl
theorem DE7:TW E (d+1) 7=tw E d F7:=by kernel_rfl
theorem DE9:TW E (d+1) 9=tw E d F9:=by kernel_rfl
theorem AFR:TW E (d+1) 10=tw E d F10:=by kernel_rfl
theorem AFQ:TW E (d+1) 11=tw E d F11:=by kernel_rfl
theorem AFP:TW E (d+1) 12=tw E d F12:=by kernel_rfl
theorem AFO:TW E (d+1) 13=tw E d F13:=by kernel_rfl
theorem AFN:TW E (d+1) 14=tw E d F14:=by kernel_rfl
theorem AFM:TW E (d+1) 15=tw E d F15:=by kernel_rfl
theorem AFL:TW E (d+1) 16=tw E d F16:=by kernel_rfl
theorem so:TW E (d+1) 17=tw E d F17:=by kernel_rfl
theorem AFK:TW E (d+1) 22=tw E d F22:=by kernel_rfl
theorem AFJ:TW E (d+1) 23=tw E d F23:=by kernel_rfl
theorem AFI:TW E (d+1) 24=tw E d F24:=by kernel_rfl
theorem AFH:TW E (d+1) 25=tw E d F25:=by kernel_rfl
theorem AFG:TW E (d+1) 26=tw E d F26:=by kernel_rfl
theorem AFF:TW E (d+1) 27=tw E d F27:=by kernel_rfl
theorem AFE:TW E (d+1) 28=tw E d F28:=by kernel_rfl
theorem AFD:TW E (d+1) 29=tw E d F29:=by kernel_rfl
theorem AFC:TW E (d+1) 30=tw E d F30:=by kernel_rfl
theorem AFB:TW E (d+1) 31=tw E d F31:=by kernel_rfl
theorem AFA:TW E (d+1) 32=tw E d F32:=by kernel_rfl
theorem AE9:TW E (d+1) 33=tw E d F33:=by kernel_rfl
theorem AE8:TW E (d+1) 34=tw E d F34:=by kernel_rfl
theorem AE7:TW E (d+1) 42=tw E d F42:=by kernel_rfl
theorem AE6:TW E (d+1) 43=tw E d F43:=by kernel_rfl
theorem AE5:TW E (d+1) 44=tw E d F44:=by kernel_rfl
theorem AE4:TW E (d+1) 45=tw E d F45:=by kernel_rfl
theorem AE3:TW E (d+1) 46=tw E d F46:=by kernel_rfl
theorem AE2:TW E (d+1) 47=tw E d F47:=by kernel_rfl
theorem AE1:TW E (d+1) 48=tw E d F48:=by kernel_rfl
theorem AE0:TW E (d+1) 49=tw E d F49:=by kernel_rfl
theorem AEz:TW E (d+1) 50=tw E d F50:=by kernel_rfl
theorem AEy:TW E (d+1) 51=tw E d F51:=by kernel_rfl
theorem AEx:TW E (d+1) 52=tw E d F52:=by kernel_rfl
theorem AEw:TW E (d+1) 53=tw E d F53:=by kernel_rfl
theorem AEv:TW E (d+1) 54=tw E d F54:=by kernel_rfl
theorem AEu:TW E (d+1) 55=tw E d F55:=by kernel_rfl
theorem AEt:TW E (d+1) 56=tw E d F56:=by kernel_rfl
theorem AEs:TW E (d+1) 57=tw E d F57:=by kernel_rfl
theorem AEr:TW E (d+1) 58=tw E d F58:=by kernel_rfl
theorem AEq:TW E (d+1) 59=tw E d F59:=by kernel_rfl
theorem AEp:TW E (d+1) 60=tw E d F60:=by kernel_rfl
theorem AEo:TW E (d+1) 61=tw E d F61:=by kernel_rfl
theorem AEn:TW E (d+1) 62=tw E d F62:=by kernel_rfl
theorem sn:TW E (d+1) 63=tw E d F63:=by kernel_rfl
theorem AEm:TW E (d+1) 64=tw E d F64:=by kernel_rfl
theorem AEl:TW E (d+1) 65=tw E d F65:=by kernel_rfl
theorem AEk:TW E (d+1) 66=tw E d F66:=by kernel_rfl
theorem AEj:TW E (d+1) 67=tw E d F67:=by kernel_rfl
theorem AEi:TW E (d+1) 68=tw E d F68:=by kernel_rfl
theorem AEh:TW E (d+1) 72=tw E d F72:=by kernel_rfl
theorem AEg:TW E (d+1) 73=tw E d F73:=by kernel_rfl
theorem AEf:TW E (d+1) 74=tw E d F74:=by kernel_rfl
theorem AEe:TW E (d+1) 75=tw E d F75:=by kernel_rfl
theorem AEd:TW E (d+1) 76=tw E d F76:=by kernel_rfl
theorem AEc:TW E (d+1) 78=tw E d F78:=by kernel_rfl
theorem AEb:TW E (d+1) 79=tw E d F79:=by kernel_rfl
theorem AEa:TW E (d+1) 80=tw E d F80:=by kernel_rfl
theorem AEZ:TW E (d+1) 81=tw E d F81:=by kernel_rfl
theorem AEY:TW E (d+1) 86=tw E d F86:=by kernel_rfl
theorem AEX:TW E (d+1) 87=tw E d F87:=by kernel_rfl
theorem AEW:TW E (d+1) 90=tw E d F90:=by kernel_rfl
theorem AEV:TW E (d+1) 91=tw E d F91:=by kernel_rfl
theorem AEU:TW E (d+1) 92=tw E d F92:=by kernel_rfl
theorem AET:TW E (d+1) 93=tw E d F93:=by kernel_rfl
theorem AES:TW E (d+1) 94=tw E d F94:=by kernel_rfl
theorem AER:TW E (d+1) 95=tw E d F95:=by kernel_rfl
theorem AEQ:TW E (d+1) 96=tw E d F96:=by kernel_rfl
theorem AEP:TW E (d+1) 97=tw E d F97:=by kernel_rfl
theorem AEO:TW E (d+1) 98=tw E d F98:=by kernel_rfl
theorem tO:TW E (d+1) 103=tw E d jx:=by kernel_rfl
theorem tN:TW E (d+1) 104=tw E d jw:=by kernel_rfl
theorem tM:TW E (d+1) 105=tw E d Zy:=by kernel_rfl
theorem tL:TW E (d+1) 106=tw E d jv:=by kernel_rfl
theorem tK:TW E (d+1) 107=tw E d Zx:=by kernel_rfl
theorem tJ:TW E (d+1) 108=tw E d ju:=by kernel_rfl
theorem sy:TW E (d+1) 113=tw E d Zw:=by kernel_rfl
theorem sx:TW E (d+1) 114=tw E d jt:=by kernel_rfl
theorem su:TW E (d+1) 116=tw E d Zv:=by kernel_rfl
theorem sr:TW E (d+1) 118=tw E d js:=by kernel_rfl
theorem sk:TW E (d+1) 77=MU lg:=by kernel_rfl
end
abbrev E0(c:Nat):List Ad:=[(0,[],c)]
def Ct(c:Nat)(l m:List Ad):Prop:=∃p a q e,l=p++a::(q++[e])/\m=p++E0 c/\∀t∈p++a::q,t.1≠0
theorem Mc{c l m}(h:Ct c l m):m=E0 c\/(BJ m=BJ l/\Ct c (Fh l) (Fh m)):=by
 obtain⟨p,a,q,e,rfl,rfl,h⟩:=h;match p with
 | []=>exact .inl rfl | [t]=>exact .inr ⟨rfl,[],a,q,e,rfl,rfl,λt f=>h t (.tail _ f)⟩ | t::u::p=>exact .inr ⟨rfl,u::p,a,q,e,rfl,rfl,λt f=>h t (.tail _ f)⟩
theorem AOk{c l m}(h:Ct c l m):(BJ l).1≠0:=by
 obtain⟨p,a,q,e,rfl,rfl,h⟩:=h;cases p with
 | nil=>exact h a (.head _) | cons t p=>exact h t (.head _)
abbrev Rr(α:Type):=Bool × α × List Ad × Er
def Dd{α:Type}(c:Nat)(er:Er)(y:Rr α):Prop:=(y.1=true/\y.2.2.1=E0 c/\y.2.2.2=er)\/(y.1=false/\y.2.2.2=EJ er c 7)
def Sm{α:Type}(c:Nat)(er:Er)(x y:Rr α):Prop:=∃a l' b,x=(true,a,l',er)/\y=(true,a,b,er)/\Ct c l' b
structure Gp{α:Type}(g:List Ad->Er->Rr α):Prop where
 pe:∀l er,(g l er).1=true->(g l er).2.2.2=er
 ct:∀{c er l m},Ct c l m->(g l er).1=true->Sm c er (g l er) (g m er)\/Dd c er (g m er)
structure Gd{α:Type}(g:List Ad->Er->Rr α):Prop extends Gp g where
 dd:∀c er,Dd c er (g (E0 c) er)
structure Gs{α:Type}(g:List Ad->Er->Rr α):Prop where
 pe:∀l er,(g l er).1=true->(g l er).2.2.2=er
 ct:∀{c er l m},Ct c l m->(g l er).1=true->Sm c er (g l er) (g m er)\/((g m er).1=false/\(g m er).2.2.2=EJ er c 7)
 fl:∀c er,(g (E0 c) er).1=false/\(g (E0 c) er).2.2.2=EJ er c 7
structure Bd{α β:Type}(g:List Ad->Er->Rr α)(f:α->List Ad->Er->Rr β)(k:List Ad->Er->Rr β):Prop where
 b:∀l er,match g l er with
  | (false,_,_,e)=>(k l er).1=false/\(k l er).2.2.2=e
  | (true,a,l',e)=>k l er=f a l' e
section
variable {α β:Type}{g:List Ad->Er->Rr α}{f:α->List Ad->Er->Rr β}{k f0 f1:List Ad->Er->Rr β}
theorem tru{x:Rr α}(h:x.1=true):∃a l e,x=(true,a,l,e):=by
 obtain⟨b,a,l,e⟩:=x;cases h;exact⟨a,l,e,rfl⟩
theorem Bd.no(h:Bd g f k){l er}(m:(g l er).1=false):(k l er).1=false/\(k l er).2.2.2=(g l er).2.2.2:=by
 have:=h.b l er;revert this m;rcases g l er with ⟨_|_,a,l',e⟩
 ·exact λ_ h=>h
 ·intro h;cases h
theorem Bd.ok(h:Bd g f k){l er a l' e}(c:g l er=(true,a,l',e)):k l er=f a l' e:=by
 have:=h.b l er;rw[c]at this;exact this
theorem Bd.tr{l er}(h:Bd g f k)(b:(k l er).1=true):(g l er).1=true:=by
 cases c:(g l er).1 with
 | true=>rfl | false=>rw[(h.no c).1]at b;cases b
theorem Bd.pe(h:Bd g f k)(p:∀l er,(g l er).1=true->(g l er).2.2.2=er)(o:∀a,Gp (f a))(l er)(c:(k l er).1=true):(k l er).2.2.2=er:=by
 obtain⟨a,l',e,j⟩:=tru (h.tr c);have m:=p l er (h.tr c);rw[j]at m;cases m;have q:=h.ok j;rw[q]at c ⊢;exact(o a).pe _ _ c
theorem Bd.sm(h:Bd g f k)(o:∀a,Gp (f a)){c er l m}(e:(k l er).1=true)(p:Sm c er (g l er) (g m er)):Sm c er (k l er) (k m er)\/Dd c er (k m er):=by
 obtain⟨a,l',r,i,q,n⟩:=p;rw[h.ok i]at e ⊢;rw[h.ok q];exact(o a).ct n e
theorem Bd.dd(h:Bd g f k)(p:∀a,Gd (f a)){c er m}(q:Dd c er (g m er)):Dd c er (k m er):=by
 rcases q with ⟨l,d,n⟩|⟨l,d⟩
 ·obtain⟨a,r,e,o⟩:=tru l
  rw[o]at d n;have d:r=E0 c:=d;have n:e=er:=n;rw[h.ok o,d,n];exact(p a).dd c er
 ·exact .inr ⟨(h.no l).1,(h.no l).2.trans d⟩
theorem Gd.bind(d:Gd g)(h:Bd g f k)(b:∀a,Gd (f a)):Gd k:=
 ⟨⟨h.pe d.pe λa=>(b a).toGp,λj e=>(d.ct j (h.tr e)).elim (h.sm (λa=>(b a).toGp) e) λi => .inr (h.dd b i)⟩,λc er=>h.dd b (d.dd c er)⟩
theorem Gs.bind(b:Gs g)(h:Bd g f k)(i:∀a,Gp (f a)):Gd k:=
 ⟨⟨h.pe b.pe i,λj e=>(b.ct j (h.tr e)).elim (h.sm i e) λd => .inr (.inr ⟨(h.no d.1).1,(h.no d.1).2.trans d.2⟩)⟩,λc er => .inr ⟨(h.no (b.fl c er).1).1,(h.no (b.fl c er).1).2.trans (b.fl c er).2⟩⟩
theorem Gd.pure(a:α):Gd (λl er=>(true,a,l,er)):=⟨⟨λ_ _ _=>rfl,λ{_ _ l m} b _ => .inl ⟨a,l,m,rfl,rfl,b⟩⟩,λ_ _ => .inl ⟨rfl,rfl,rfl⟩⟩
theorem Gp.no(h:∀l er,(k l er).1=false):Gp k:=⟨λl er b=>by rw[h]at b;(cases b),λ_ b=>by rw[h]at b;cases b⟩
theorem Gd.no(h:∀l er,(k l er).1=false/\(k l er).2.2.2=EJ er (BJ l).2.2 7):Gd k:=⟨.no λl er=>(h l er).1,λc er => .inr (h _ er)⟩
theorem Gd.hd{f:Ad->List Ad->Er->Rr β}(b:∀l er,k l er=f (BJ l) l er)(h:∀t,Gd (f t)):Gd k:=by
 refine⟨⟨λl er d=>?_,λ{c er l m} j d=>?_⟩,λc er=>by rw[b];exact(h _).dd c er⟩
 ·rw[b]at d ⊢;exact(h _).pe _ _ d
 ·rcases Mc j with rfl|⟨n,_⟩
  ·exact .inr (by rw[b];exact(h _).dd c er)
  ·rw[b]at d;rw[b,b,n];exact(h _).ct j d
theorem Gd.cond{p:Ad->Bool}{u:Bool}(r:∀c,p (0,[],c)=false)(i:∀l er,p (BJ l)=false->k l er=f0 l er)(q:∀l er,p (BJ l)=true->k l er=f1 (if u then Fh l else l) er)(j:Gd f0)(t:Gp f1):Gd k:=by
 refine⟨⟨λl er d=>?_,λ{c er l m} s d=>?_⟩,λc er=>by rw[i (E0 c) _ (r c)];exact j.dd c er⟩
 ·cases f:p (BJ l)with
  | false=>rw[i _ _ f]at d ⊢;exact j.pe _ _ d | true=>rw[q _ _ f]at d ⊢;exact t.pe _ _ d
 ·rcases Mc s with rfl|⟨e,v⟩
  ·exact .inr (by rw[i (E0 c) _ (r c)];exact j.dd c er)
  ·cases f:p (BJ l)with
   | false=>rw[i _ _ f]at d;rw[i _ _ f,i _ _ (e ▸ f)];exact j.ct s d | true=>rw[q _ _ f]at d;rw[q _ _ f,q _ _ (e ▸ f)];exact t.ct (by cases u<;>assumption) d
theorem Gd.cond0{p:Ad->Bool}(a:∀c,p (0,[],c)=false)(d:∀l er,p (BJ l)=false->k l er=f0 l er)(f:∀l er,p (BJ l)=true->k l er=f1 l er)(b:Gd f0)(e:Gp f1):Gd k := .cond (u:=false) a d f b e
theorem Gd.nxt(h:Gd k):Gd (λl er=>k (Fh l) er):=by
 refine⟨⟨λl er e=>h.pe _ _ e,λ{c er l m} f e=>?_⟩,h.dd⟩;rcases Mc f with rfl|⟨_,g⟩
 ·exact .inr (h.dd c er)
 ·exact h.ct g e
theorem Gd.tk(v:Ad->β):Gd (λl er=>(true,v (BJ l),Fh l,er)):=by
 refine⟨⟨λl er h=>rfl,λ{c er l m} f h=>?_⟩,λc er => .inl ⟨rfl,rfl,rfl⟩⟩;rcases Mc f with rfl|⟨e,g⟩
 ·exact .inr (.inl ⟨rfl,rfl,rfl⟩)
 ·rw[e];exact .inl ⟨_,_,_,rfl,rfl,g⟩
def Gc(k:List Ad->Er->Rr β):Prop:=∀c er l m,Ct c l m->(k l er).1=true->(k m er).1=false/\(k m er).2.2.2=EJ er c 7
structure Gz(k:List Ad->Er->Rr β):Prop where
 ct:Gc k
 fl:∀c er,(k (E0 c) er).1=false/\(k (E0 c) er).2.2.2=EJ er c 7
theorem Gs.bz(i:Gs g)(h:Bd g f k)(q:∀a,Gc (f a)):Gz k:=by
 refine⟨λc er l m r j=>?_,λc er=>⟨(h.no (i.fl c er).1).1,(h.no (i.fl c er).1).2.trans (i.fl c er).2⟩⟩;rcases i.ct r (h.tr j)with ⟨a,l',u,o,p,s⟩|n
 ·rw[h.ok o]at j
  rw[h.ok p];exact q a _ _ _ _ s j
 ·exact⟨(h.no n.1).1,(h.no n.1).2.trans n.2⟩
theorem Gd.bz(w:Gd g)(h:Bd g f k)(x:∀a,Gz (f a)):Gz k:=by
 have u:∀{c er m},Dd c er (g m er)->(k m er).1=false/\(k m er).2.2.2=EJ er c 7:=by
  intro c er m y;rcases y with ⟨n,i,j⟩|⟨n,i⟩
  ·obtain⟨a,v,e,t⟩:=tru n
   rw[t]at i j;have i:v=E0 c:=i;have j:e=er:=j;rw[h.ok t,i,j];exact(x a).fl c er
  ·exact⟨(h.no n).1,(h.no n).2.trans i⟩
 refine⟨λc er l m A s=>?_,λc er=>u (w.dd c er)⟩;rcases w.ct A (h.tr s)with ⟨a,l',v,n,i,j⟩|z
 ·rw[h.ok n]at s
  rw[h.ok i];exact(x a).ct _ _ _ _ j s
 ·exact u z
theorem Gz.hd{f:Ad->List Ad->Er->Rr β}(b:∀l er,k l er=f (BJ l) l er)(h:∀t,Gz (f t)):Gz k:=by
 refine⟨λc er l m i j=>?_,λc er=>by rw[b];exact(h _).fl c er⟩;rcases Mc i with rfl|⟨n,_⟩
 ·rw[b];exact(h _).fl c er
 ·rw[b]at j;rw[b,n];exact(h _).ct _ _ _ _ i j
theorem Gz.cond{p:Ad->Bool}(r:∀c,p (0,[],c)=false)(g:∀l er,p (BJ l)=false->k l er=f0 l er)(q:∀l er,p (BJ l)=true->k l er=f1 l er)(o:Gz f0)(s:Gc f1):Gz k:=by
 refine⟨λc er l m n d=>?_,λc er=>by rw[g (E0 c) _ (r c)];exact o.fl c er⟩;rcases Mc n with rfl|⟨e,t⟩
 ·rw[g (E0 c) _ (r c)];exact o.fl c er
 ·cases i:p (BJ l)with
  | false=>rw[g _ _ i]at d;rw[g _ _ (e ▸ i)];exact o.ct _ _ _ _ n d | true=>rw[q _ _ i]at d;rw[q _ _ (e ▸ i)];exact s _ _ _ _ n d
theorem Gz.no(h:∀l er,(k l er).1=false/\(k l er).2.2.2=EJ er (BJ l).2.2 7):Gz k:=⟨λ_ _ _ _ _ b=>by rw[(h _ _).1]at b;(cases b),λc er=>h _ er⟩
theorem Gd.is s (g:∀l er,match CP s l with | (false,d)=>k l er=f0 d er | (true,d)=>k l er=f1 d er)(e:Gd f0)(f:Gp f1):Gd k:=by
 refine .cond (p:=λt=>FE s [t]) (u:=true) (λ_=>rfl) (λl er h=>?_) (λl er h=>?_) e f<;>have h:FE s l=_:=h<;>have:=g l er<;>unfold CP at this<;>rw[h]at this<;>exact this
end
def uG(w:List Ad->Er->Bool × List Ad × Er)(l:List Ad)(er:Er):Rr Unit:=((w l er).1,(),(w l er).2.1,(w l er).2.2)
def cv{β:Type}(x:Bool × β × List Ad × Er × List AM):Rr (β × List AM):=(x.1,(x.2.1,x.2.2.2.2),x.2.2.1,x.2.2.2.1)
section
variable {α β:Type}{w:List Ad->Er->Bool × List Ad × Er}{k f:List Ad->Er->Rr β}{G:List Ad->Er->Bool × α × List Ad × Er × List AM}{f2:α->List AM->List Ad->Er->Rr β}
theorem Gd.pv(a:β) b:Gd (λl er=>cv (true,a,l,er,b)):=Gd.pure (a,b)
theorem Bd.u(g:∀l er,match w l er with
 | (false,_,e)=>(k l er).1=false/\(k l er).2.2.2=e | (true,l',e)=>k l er=f l' e):Bd (uG w) (λ_=>f) k:=
 ⟨λl er=>by have:=g l er;revert this;unfold uG;rcases w l er with ⟨_ | _,_,_⟩<;>exact id⟩
theorem Bd.v(i:∀l er,match G l er with
 | (false,_,_,e,_)=>(k l er).1=false/\(k l er).2.2.2=e | (true,a,l',e,m)=>k l er=f2 a m l' e):Bd (λl er=>cv (G l er)) (λa=>f2 a.1 a.2) k:=
 ⟨λl er=>by have:=i l er;revert this;unfold cv;(try dsimp only);rcases G l er with ⟨_ | _,_,_,_,_⟩<;>exact id⟩
theorem Gs.bu(h:Gs (uG w))(a:∀l er,match w l er with
 | (false,_,e)=>(k l er).1=false/\(k l er).2.2.2=e | (true,l',e)=>k l er=f l' e) (b:Gp f):Gd k:=h.bind (.u a) λ_=>b
theorem Gs.buz(h:Gs (uG w))(a:∀l er,match w l er with
 | (false,_,e)=>(k l er).1=false/\(k l er).2.2.2=e | (true,l',e)=>k l er=f l' e) (b:Gc f):Gz k:=h.bz (.u a) λ_=>b
theorem Gd.bv(h:Gd (λl er=>cv (G l er)))(c:∀l er,match G l er with
 | (false,_,_,e,_)=>(k l er).1=false/\(k l er).2.2.2=e | (true,a,l',e,b)=>k l er=f2 a b l' e) (d:∀a b,Gd (f2 a b)):Gd k:=h.bind (.v c) λa=>d a.1 a.2
theorem Gd.bvz(h:Gd (λl er=>cv (G l er)))(c:∀l er,match G l er with
 | (false,_,_,e,_)=>(k l er).1=false/\(k l er).2.2.2=e | (true,a,l',e,b)=>k l er=f2 a b l' e) (d:∀a b,Gz (f2 a b)):Gz k:=h.bz (.v c) λa=>d a.1 a.2
theorem xm{F:Nat->List Ad->Er->Rr β}(h:∀n,Gd (F n)):∀w,Gd (λl er=>F (LD w l).1 (LD w l).2 er)
 | []=>h 0 | (s,n)::w=>by
  apply Gd.is s
  ·intro l er;unfold LD;generalize CP s l=y;rcases y with ⟨_ | _,_⟩<;>rfl
  ·exact xm h w
  ·exact(h n).toGp
end
theorem G2 s:∀p,Gs (uG (Ao (s::p))):=by
 intro p;induction p generalizing s with
 | nil=>
  refine⟨λl er=>?_,λ{c er l m} r j=>?_,λc er=>⟨rfl,rfl⟩⟩
  ·unfold uG Ao Ao;cases FE s l with
   | true=>exact λ_=>rfl | false=>intro h;cases h
  ·unfold uG Ao Ao at *
   rcases Mc r with rfl|⟨e,q⟩
   ·exact .inr ⟨rfl,rfl⟩
   ·have e:FE s m=FE s l:=by unfold FE;rw[e]
    rw[e];cases o:FE s l with
    | true=>exact .inl ⟨(),_,_,rfl,rfl,q⟩ | false=>rw[o]at j;cases j
 | cons u p t=>
  refine⟨λl er=>?_,λ{c er l m} r j=>?_,λc er=>⟨rfl,rfl⟩⟩
  ·unfold uG Ao;cases FE s l with
   | true=>exact(t u).pe (Fh l) er | false=>intro h;cases h
  ·unfold uG Ao at *
   rcases Mc r with rfl|⟨e,q⟩
   ·exact .inr ⟨rfl,rfl⟩
   ·have e:FE s m=FE s l:=by unfold FE;rw[e]
    rw[e];cases o:FE s l with
    | true=>rw[o]at j;exact(t u).ct q j | false=>rw[o]at j;cases j
theorem mD n:Gs (uG (Jk (n+1))):=by
 refine⟨λl er=>?_,λ{c er l m} p j=>?_,λc er=>⟨rfl,rfl⟩⟩
 ·unfold uG Jk;cases decide ((BJ l).1=n+1)with
  | true=>exact λ_=>rfl | false=>intro h;cases h
 ·unfold uG Jk at *
  rcases Mc p with rfl|⟨e,k⟩
  ·exact .inr ⟨rfl,rfl⟩
  ·rw[e]
   cases q:decide ((BJ l).1=n+1)with
   | true=>exact .inl ⟨(),_,_,rfl,rfl,k⟩ | false=>rw[q]at j;cases j
theorem VI:Gs Fl:=by
 refine⟨λl er=>?_,λ{c er l m} o j=>?_,λc er=>⟨rfl,rfl⟩⟩
 ·unfold Fl;cases decide ((BJ l).1=3)with
  | true=>exact λ_=>rfl | false=>intro h;cases h
 ·unfold Fl at *
  rcases Mc o with rfl|⟨e,k⟩
  ·exact .inr ⟨rfl,rfl⟩
  ·rw[e]
   cases p:decide ((BJ l).1=3)with
   | true=>exact .inl ⟨_,_,_,rfl,rfl,k⟩ | false=>rw[p]at j;cases j
theorem AHl(x):Gd (MV x):=by
 apply Gd.is (BS.mk 3 5130573)
 ·intro l er;unfold MV;(try dsimp only);generalize CP _ l=y;rcases y with ⟨_ | _,_⟩<;>(try dsimp only)<;>rfl
 ·apply Gs.bind VI
  ·constructor;intro l er;(try dsimp only);generalize Fl l er=y;rcases y with ⟨_ | _,_,_,_⟩<;>(try dsimp only)<;>first | exact⟨rfl,rfl⟩ | rfl
  intro a;exact(Gd.pure _).toGp
 ·exact(Gd.pure _).toGp
theorem ABM(x):Gd (IT x):=by
 apply Gd.is (BS.mk 2 11822)
 ·intro l er;unfold IT;(try dsimp only);generalize CP _ l=y;rcases y with ⟨_ | _,_⟩<;>(try dsimp only)<;>rfl
 ·exact Gd.pure _
 ·refine Gd.toGp ?_
  apply Gd.is (BS.mk 3 5783885)
  ·intro l er;(try dsimp only);generalize CP _ l=y;rcases y with ⟨_ | _,_⟩<;>(try dsimp only)<;>rfl
  ·apply Gs.bind VI
   ·constructor;intro l er;(try dsimp only);generalize Fl l er=y;rcases y with ⟨_ | _,_,_,_⟩<;>(try dsimp only)<;>first | exact⟨rfl,rfl⟩ | rfl
   intro a;exact(Gd.pure _).toGp
  ·exact(Gd.pure _).toGp
theorem ABW(x):Gd (JR x):=by
 apply Gd.is (BS.mk 1 44)
 ·intro l er;unfold JR;(try dsimp only);generalize CP _ l=y;rcases y with ⟨_ | _,_⟩<;>(try dsimp only)<;>rfl
 ·exact Gd.pure _
 ·refine Gd.toGp ?_
  apply Gs.bu (G2 _ _)
  ·intro l er;(try dsimp only);generalize Ao _ l er=y;rcases y with ⟨_ | _,_,_⟩<;>(try dsimp only)<;>first | exact⟨rfl,rfl⟩ | rfl
  exact(Gd.pure _).toGp
theorem XV(x):Gd (Dc x):=by
 apply Gd.bind (AHl _)
 ·constructor;intro l er;unfold Dc;(try dsimp only);generalize MV _ l er=y;rcases y with ⟨_ | _,_,_,_⟩<;>(try dsimp only)<;>first | exact⟨rfl,rfl⟩ | rfl
 intro a;apply Gd.bind (ABM _)
 ·constructor;intro l er;(try dsimp only);generalize IT _ l er=y;rcases y with ⟨_ | _,_,_,_⟩<;>(try dsimp only)<;>first | exact⟨rfl,rfl⟩ | rfl
 intro a;exact ABW _
theorem Y3(x):Gd (Ea x):=by
 apply Gd.is (BS.mk 1 40)
 ·intro l er;unfold Ea;(try dsimp only);generalize CP _ l=y;rcases y with ⟨_ | _,_⟩<;>(try dsimp only)<;>rfl
 ·exact Gd.pure _
 ·refine Gd.toGp ?_
  apply Gs.bu (G2 _ _)
  ·intro l er;(try dsimp only);generalize Ao _ l er=y;rcases y with ⟨_ | _,_,_⟩<;>(try dsimp only)<;>first | exact⟨rfl,rfl⟩ | rfl
  refine Gd.toGp ?_;apply Gd.bind (XV _)
  ·constructor;intro l er;(try dsimp only);generalize Dc _ l er=y;rcases y with ⟨_ | _,_,_,_⟩<;>(try dsimp only)<;>first | exact⟨rfl,rfl⟩ | rfl
  intro a;apply Gs.bu (G2 _ _)
  ·intro l er;(try dsimp only);generalize Ao _ l er=y;rcases y with ⟨_ | _,_,_⟩<;>(try dsimp only)<;>first | exact⟨rfl,rfl⟩ | rfl
  exact(Gd.pure _).toGp
theorem ABC:Gd H0:=by
 apply Gd.is (BS.mk 1 91)
 ·intro l er;unfold H0;(try dsimp only);generalize CP _ l=y;rcases y with ⟨_ | _,_⟩<;>(try dsimp only)<;>rfl
 ·exact Gd.pure _
 ·refine Gd.toGp ?_
  apply Gd.hd (f:=λt l er=>match Fl l er with
   | (false,_,r,o)=>(false,(false,0,0),r,o) | (true,n,r,o)=>match Cw n (AA 0) || Cw (AA 268435456) n with
    | true=>(false,(false,0,0),r,EJ o t.2.2 12) | false=>match Ao [BS.mk 1 93] r o with
     | (false,w,m)=>(false,(false,0,0),w,m) | (true,w,m)=>match CP (BS.mk 8 6073459554577832005) w with
      | (true,l4)=>(true,(true,n,1),l4,m) | (false,l4)=>match CP (BS.mk 8 6073459554577829193) l4 with
       | (true,v)=>(true,(true,n,2),v,m) | (false,v)=>(true,(true,n,0),v,m)) (λ_ _=>rfl)
  intro t;apply Gs.bind VI
  ·constructor;intro l er;(try dsimp only);generalize Fl l er=y;rcases y with ⟨_ | _,_,_,_⟩<;>(try dsimp only)<;>first | exact⟨rfl,rfl⟩ | rfl
  intro a;(try dsimp only);generalize (Cw a (AA 0) || Cw (AA 268435456) a)=b;cases b with
  | true=>exact .no λ_ _=>rfl | false=>
   refine Gd.toGp ?_;apply Gs.bu (G2 _ _)
   ·intro l er;(try dsimp only);generalize Ao _ l er=y;rcases y with ⟨_ | _,_,_⟩<;>(try dsimp only)<;>first | exact⟨rfl,rfl⟩ | rfl
   refine Gd.toGp ?_;apply Gd.is (BS.mk 8 6073459554577832005)
   ·intro l er;(try dsimp only);generalize CP _ l=y;rcases y with ⟨_ | _,_⟩<;>(try dsimp only)<;>rfl
   ·apply Gd.is (BS.mk 8 6073459554577829193)
    ·intro l er;(try dsimp only);generalize CP _ l=y;rcases y with ⟨_ | _,_⟩<;>(try dsimp only)<;>rfl
    ·exact Gd.pure _
    ·exact(Gd.pure _).toGp
   ·exact(Gd.pure _).toGp
theorem nB:Gd Fo:=by
 apply Gd.hd (f:=λt l er=>match Jk 2 l er with
  | (false,q,er1)=>(false,Fu.mk t.2.1 0 false,q,er1) | (true,q,er1)=>match CP (BS.mk 1 40) q with
   | (false,r)=>(true,Fu.mk t.2.1 0 false,r,er1) | (true,r)=>match Fl r er1 with
    | (b,n,v,s)=>match Dj b [BS.mk 1 41] v s with
     | (u,l4,er4)=>(u,Fu.mk t.2.1 n true,l4,er4)) (λ_ _=>rfl)
 intro t;apply Gs.bu (mD 1)
 ·intro l er;(try dsimp only);generalize Jk _ l er=y;rcases y with ⟨_ | _,_,_⟩<;>(try dsimp only)<;>first | exact⟨rfl,rfl⟩ | rfl
 refine Gd.toGp ?_;apply Gd.is (BS.mk 1 40)
 ·intro l er;(try dsimp only);generalize CP _ l=y;rcases y with ⟨_ | _,_⟩<;>(try dsimp only)<;>rfl
 ·exact Gd.pure _
 ·refine Gd.toGp ?_
  apply Gs.bind VI
  ·constructor;intro l er;(try dsimp only);generalize Fl l er=y;rcases y with ⟨_ | _,_,_,_⟩<;>(try dsimp only)<;>first | exact⟨rfl,rfl⟩ | rfl
  intro a;refine Gd.toGp ?_;apply Gs.bu (G2 _ _)
  ·intro l er;unfold Dj;(try dsimp only);generalize Ao _ l er=y;rcases y with ⟨_ | _,_,_⟩<;>(try dsimp only)<;>first | exact⟨rfl,rfl⟩ | rfl
  exact(Gd.pure _).toGp
theorem AAu(s):Gd (GN s):=by
 unfold GN;generalize (decide (0<s.1.length) && !s.2.1)=b;cases b with
 | false=>
  apply Gd.bind nB
  ·constructor;intro l er;(try dsimp only);generalize Fo l er=y;rcases y with ⟨_ | _,_,_,_⟩<;>(try dsimp only)<;>first | exact⟨rfl,rfl⟩ | rfl
  intro a;exact Gd.pure _
 | true=>
  apply Gd.is (BS.mk 3 3026478)
  ·intro l er;(try dsimp only);generalize CP _ l=y;rcases y with ⟨_ | _,_⟩<;>(try dsimp only)<;>rfl
  ·apply Gd.bind nB
   ·constructor;intro l er;(try dsimp only);generalize Fo l er=y;rcases y with ⟨_ | _,_,_,_⟩<;>(try dsimp only)<;>first | exact⟨rfl,rfl⟩ | rfl
   intro a;exact Gd.pure _
  ·exact(Gd.pure _).toGp
theorem AH6(s):Gd (jQ s):=by
 apply Gs.bu (G2 _ _)
 ·intro l er;unfold jQ;(try dsimp only);generalize Ao _ l er=y;rcases y with ⟨_ | _,_,_⟩<;>(try dsimp only)<;>first | exact⟨rfl,rfl⟩ | rfl
 exact(Gd.pure _).toGp
theorem nA(n):∀s,Gd (GG n s):=by
 induction n with
 | zero=>exact λs => .no λ_ _=>⟨rfl,rfl⟩ | succ n q=>
  intro s;apply Gd.bind (AAu _)
  ·constructor;intro l er;unfold GG;(try dsimp only);generalize GN _ l er=y;rcases y with ⟨_ | _,_,_,_⟩<;>(try dsimp only)<;>first | exact⟨rfl,rfl⟩ | rfl
  intro a;apply Gd.is (BS.mk 1 44)
  ·intro l er;(try dsimp only);generalize CP _ l=y;rcases y with ⟨_ | _,_⟩<;>(try dsimp only)<;>rfl
  ·exact AH6 _
  ·exact(q _).toGp
theorem wA(s):Gd (HB s):=by
 apply Gs.bu (G2 _ _)
 ·intro l er;unfold HB;(try dsimp only);generalize Ao _ l er=y;rcases y with ⟨_ | _,_,_⟩<;>(try dsimp only)<;>first | exact⟨rfl,rfl⟩ | rfl
 exact(nA fu s).toGp
theorem AGv:Gd Ks:=by
 have i:∀{k} s x {f0:List Ad->Er->Rr dR},(∀l er,k l er=match CP s l with | (true,r)=>(true,x,r,er) | (false,r)=>f0 l er)->Gd f0->Gd k:=λs x f0 j q=>
  .cond (p:=λt=>FE s [t]) (u:=true) (λ_=>rfl) (λl er h=>by have h:FE s l=_:=h;rw[j];unfold CP;rw[h]) (λl er h=>by have h:FE s l=_:=h;rw[j];unfold CP;rw[h];rfl) q (Gd.pure x).toGp
 have d:∀{k} n (v:Ad->dR) {f0},(∀l er,k l er=match decide ((BJ l).1=n+1)with | true=>(true,v (BJ l),Fh l,er) | false=>f0 l er)->Gd f0->Gd k:=λn v f0 j q=>
  .cond (p:=λt=>decide (t.1=n+1)) (u:=false) (λ_=>rfl) (λl er h=>by rw[j];have h:=h;rw[h]) (λl er h=>by rw[j];have h:=h;rw[h];rfl) q (Gd.tk v).toGp
 have e:∀s l (x y:Rr dR),(match CP s l with | (true,_)=>x | (false,_)=>y)=match FE s l with | true=>x | false=>y:=λs l x y=>by unfold CP;cases FE s l<;>rfl
 refine i (BS.mk 4 1163219540) (1,1,[]) (f0:=λl er=>match CP (BS.mk 5 297750249798) l with
  | (true,w)=>(true,(1,0,[]),w,er) | (false,_)=>match CP (BS.mk 4 1280070990) l with
   | (true,z)=>(true,(4,0,[]),z,er) | (false,_)=>match decide ((BJ l).1=3)with
    | true=>(true,(2,Pt (BJ l).2.1,[]),Fh l,er) | false=>match decide ((BJ l).1=2)with
     | true=>(true,(3,0,(BJ l).2.1),Fh l,er) | false=>match decide ((BJ l).1=7)with
      | true=>(true,(6,0,(BJ l).2.1),Fh l,er) | false=>match decide ((BJ l).1=4)with
       | true=>(true,(5,0,JV (BJ l).2.1),Fh l,er) | false=>(false,(0,0,[]),l,EJ er (BJ l).2.2 7)) (λl er=>?_) ?_
 ·unfold Ks Fl CP
  cases FE (BS.mk 4 1163219540) l<;>dsimp only;cases FE (BS.mk 5 297750249798) l<;>dsimp only;cases FE (BS.mk 4 1280070990) l<;>dsimp only;cases decide ((BJ l).1=3)<;>rfl
 ·exact i _ _ (λ_ _=>rfl) (i _ _ (λ_ _=>rfl) (d 2 (λt=>(2,Pt t.2.1,[])) (λ_ _=>rfl) (d 1 (λt=>(3,0,t.2.1)) (λ_ _=>rfl) (d 6 (λt=>(6,0,t.2.1)) (λ_ _=>rfl) (d 3 (λt=>(5,0,JV t.2.1)) (λ_ _=>rfl) (.no λ_ _=>⟨rfl,rfl⟩))))))
theorem ABP(nd w g i):Gd (Pv nd w g i):=by
 unfold Pv;cases decide (nd.kind=9)with
 | true=>exact Gd.pure _ | false=>
  apply Gd.is (BS.mk 8 5494759122808361039)
  ·intro l er;(try dsimp only);generalize CP _ l=y;rcases y with ⟨_ | _,_⟩<;>(try dsimp only)<;>rfl
  ·apply Gd.is (BS.mk 7 23727827094750532)
   ·intro l er;(try dsimp only);generalize CP _ l=y;rcases y with ⟨_ | _,_⟩<;>(try dsimp only)<;>rfl
   ·exact Gd.pure _
   ·refine Gd.toGp ?_
    apply Gd.bind AGv
    ·constructor;intro l er;(try dsimp only);generalize Ks l er=y;rcases y with ⟨_ | _,_,_,_⟩<;>(try dsimp only)<;>first | exact⟨rfl,rfl⟩ | rfl
    intro a;exact Gd.pure _
  ·exact(Gd.pure _).toGp
def GT(T:DA):Prop:=∀d a,Gd (λl er=>cv (T.go d l er a))
section
variable {T:DA} (hT:GT T)
include hT
theorem VT(d g nd s):Gd (λl er=>cv (Ci T d g nd l er s)):=by
 apply Gd.hd (f:=λt l er=>cv (match Jk 2 l er with
  | (false,w,er1)=>(false,nd,w,er1,s) | (true,w,er1)=>match T.go (d+1) w er1 s with
   | (false,_,z,r,q)=>(false,nd,z,r,q) | (true,i,z,r,q)=>match Pv nd t.2.1 g i z r with
    | (b,x,A,v)=>(b,nd.af x,A,v,q))) (λ_ _=>rfl)
 intro t;apply Gs.bu (mD 1)
 ·intro l er;(try dsimp only);generalize Jk _ l er=y;rcases y with ⟨_ | _,_,_⟩<;>(try dsimp only)<;>first | exact⟨rfl,rfl⟩ | rfl
 refine Gd.toGp ?_;apply Gd.bv (hT (d+1) s)
 ·intro l er;(try dsimp only);generalize T.go _ l er s=y;rcases y with ⟨_ | _,_,_,_,_⟩<;>(try dsimp only)<;>first | exact⟨rfl,rfl⟩ | rfl
 intro a s;apply Gd.bind (ABP _ _ _ _)
 ·constructor;intro l er;(try dsimp only);generalize Pv _ _ _ _ l er=y;rcases y with ⟨_ | _,_,_,_⟩<;>(try dsimp only)<;>first | exact⟨rfl,rfl⟩ | rfl
 intro a;exact .pv _ _
theorem AOl(d g n):∀nd p,Gd (λl er=>cv (Yq T d g n nd l er p)):=by
 induction n with
 | zero=>exact λ_ _ => .no λ_ _=>⟨rfl,rfl⟩ | succ n s=>
  intro nd p;apply Gd.bv (VT hT d g nd p)
  ·intro l er;unfold Yq;(try dsimp only);generalize Ci T _ _ _ l er _=y;rcases y with ⟨_ | _,_,_,_,_⟩<;>(try dsimp only)<;>first | exact⟨rfl,rfl⟩ | rfl
  intro a p;apply Gd.is (BS.mk 1 44)
  ·intro l er;(try dsimp only);generalize CP _ l=y;rcases y with ⟨_ | _,_⟩<;>(try dsimp only)<;>rfl
  ·apply Gs.bu (G2 _ _)
   ·intro l er;(try dsimp only);generalize Ao _ l er=y;rcases y with ⟨_ | _,_,_⟩<;>(try dsimp only)<;>first | exact⟨rfl,rfl⟩ | rfl
   exact(Gd.pv _ _).toGp
  ·exact(s _ _).toGp
theorem AIH(d g nd c):Gd (λl er=>cv (XU T d g nd l er c)):=by
 unfold XU;exact AOl hT d g 9001 nd c
theorem APB(d n):∀g nd p,Gd (λl er=>cv (Px T d n g nd l er p)):=by
 induction n with
 | zero=>exact λ_ _ _ => .no λ_ _=>⟨rfl,rfl⟩ | succ n s=>
  intro g nd p;apply Gd.is (BS.mk 1 44)
  ·intro l er;unfold Px;(try dsimp only);generalize CP _ l=y;rcases y with ⟨_ | _,_⟩<;>(try dsimp only)<;>rfl
  ·exact .pv _ _
  ·refine Gd.toGp ?_
   apply Gd.is (BS.mk 2 23387)
   ·intro l er;(try dsimp only);generalize CP _ l=y;rcases y with ⟨_ | _,_⟩<;>(try dsimp only)<;>rfl
   ·apply Gd.bv (VT hT d 0 nd p)
    ·intro l er;(try dsimp only);generalize Ci T _ _ _ l er _=y;rcases y with ⟨_ | _,_,_,_,_⟩<;>(try dsimp only)<;>first | exact⟨rfl,rfl⟩ | rfl
    intro a p;exact s _ _ _
   ·refine Gd.toGp ?_
    apply Gd.bv (AIH hT d (g+1) nd p)
    ·intro l er;(try dsimp only);generalize XU T _ _ _ l er _=y;rcases y with ⟨_ | _,_,_,_,_⟩<;>(try dsimp only)<;>first | exact⟨rfl,rfl⟩ | rfl
    intro a p;exact s _ _ _
theorem AIe(d nd c):Gd (λl er=>cv (Zb T d nd l er c)):=by
 unfold Zb;exact APB hT d 9001 0 nd c
theorem AOh(d n):∀f nd p,Gd (λl er=>cv (QC T d n f nd l er p)):=by
 induction n with
 | zero=>exact λ_ _ _ => .no λ_ _=>⟨rfl,rfl⟩ | succ n t=>
  intro f nd p;cases f with
  | false=>
   apply Gs.bu (G2 _ _)
   ·intro l er;unfold QC;(try dsimp only);generalize Ao _ l er=y;rcases y with ⟨_ | _,_,_⟩<;>(try dsimp only)<;>first | exact⟨rfl,rfl⟩ | rfl
   exact(Gd.pv _ _).toGp
  | true=>
   apply Gd.is (BS.mk 3 3026478)
   ·intro l er;unfold QC;(try dsimp only);generalize CP _ l=y;rcases y with ⟨_ | _,_⟩<;>(try dsimp only)<;>rfl
   ·apply Gd.bv (VT hT d 0 nd p)
    ·intro l er;(try dsimp only);generalize Ci T _ _ _ l er _=y;rcases y with ⟨_ | _,_,_,_,_⟩<;>(try dsimp only)<;>first | exact⟨rfl,rfl⟩ | rfl
    intro a p;apply Gd.is (BS.mk 1 44)
    ·intro l er;(try dsimp only);generalize CP _ l=y;rcases y with ⟨_ | _,_⟩<;>(try dsimp only)<;>rfl
    ·exact t _ _ _
    ·exact(t _ _ _).toGp
   ·refine Gd.toGp ?_
    apply Gd.bv (AIe hT d _ p)
    ·intro l er;(try dsimp only);generalize Zb T _ _ l er _=y;rcases y with ⟨_ | _,_,_,_,_⟩<;>(try dsimp only)<;>first | exact⟨rfl,rfl⟩ | rfl
    intro a p;apply Gs.bu (G2 _ _)
    ·intro l er;unfold Dj;(try dsimp only);generalize Ao _ l er=y;rcases y with ⟨_ | _,_,_⟩<;>(try dsimp only)<;>first | exact⟨rfl,rfl⟩ | rfl
    exact(Gd.pv _ _).toGp
theorem yb(d f nd c):Gd (λl er=>cv (dC T d f nd l er c)):=by
 unfold dC;exact AOh hT d 9002 f nd c
theorem RD(d nd m):Gd (λl er=>cv (DK T d nd l er m)):=by
 apply Gs.bu (G2 _ _)
 ·intro l er;unfold DK;(try dsimp only);generalize Ao _ l er=y;rcases y with ⟨_ | _,_,_⟩<;>(try dsimp only)<;>first | exact⟨rfl,rfl⟩ | rfl
 refine Gd.toGp ?_;exact .cond0 (p:=λt=>FE (BS.mk 1 125) [t]) (λ_=>rfl) (f0:=λl er=>cv (dC T d true nd l er m)) (f1:=λl er=>cv (dC T d false nd l er m)) (λl er h=>by have h:FE (BS.mk 1 125) l=false:=h;rw[h];rfl) (λl er h=>by have h:FE (BS.mk 1 125) l=true:=h;rw[h];rfl) (yb hT d _ _ _) (yb hT d _ _ _).toGp
theorem AG9(d nd o):Gd (λl er=>cv (Ju T d nd l er o)):=by
 apply Gd.cond0 (p:=λt=>FE (BS.mk 1 123) [t]) (λ_=>rfl)
 ·intro l er h;have h:FE (BS.mk 1 123) l=false:=h;unfold Ju;rw[h]
 ·intro l er h;have h:FE (BS.mk 1 123) l=true:=h;unfold Ju;rw[h]
 ·apply Gd.bind (Y3 _)
  ·constructor;intro l er;(try dsimp only);generalize Ea _ l er=y;rcases y with ⟨_ | _,_,_,_⟩<;>(try dsimp only)<;>first | exact⟨rfl,rfl⟩ | rfl
  intro a;apply Gs.bu (G2 _ _)
  ·intro l er;(try dsimp only);generalize Ao _ l er=y;rcases y with ⟨_ | _,_,_⟩<;>(try dsimp only)<;>first | exact⟨rfl,rfl⟩ | rfl
  refine Gd.toGp ?_;apply Gd.bv (hT (d+1) o)
  ·intro l er;(try dsimp only);generalize T.go _ l er o=y;rcases y with ⟨_ | _,_,_,_,_⟩<;>(try dsimp only)<;>first | exact⟨rfl,rfl⟩ | rfl
  intro a o;exact .pv _ _
 ·exact(RD hT d _ o).toGp
theorem AHp(d nd p n):Gd (λl er=>cv (J4 T d nd l er p n)):=by
 match n with
 | 0=>exact .no λ_ _=>⟨rfl,rfl⟩ | 1=>exact .pv _ _ | 2=>
  show Gd λl er=>cv (W8 (nd.kd 2) l er p);apply Gd.is (BS.mk 1 40)
  ·intro l er;unfold W8;(try dsimp only);generalize CP _ l=y;rcases y with ⟨_ | _,_⟩<;>(try dsimp only)<;>rfl
  ·exact .pv _ _
  ·refine Gd.toGp ?_
   apply Gd.bind (XV _)
   ·constructor;intro l er;(try dsimp only);generalize Dc _ l er=y;rcases y with ⟨_ | _,_,_,_⟩<;>(try dsimp only)<;>first | exact⟨rfl,rfl⟩ | rfl
   intro a;apply Gs.bu (G2 _ _)
   ·intro l er;unfold Dj;(try dsimp only);generalize Ao _ l er=y;rcases y with ⟨_ | _,_,_⟩<;>(try dsimp only)<;>first | exact⟨rfl,rfl⟩ | rfl
   exact(Gd.pv _ _).toGp
 | 3=>
  show Gd λl er=>cv (ye (nd.kd 3) l er p);apply Gd.bind (wA _)
  ·constructor;intro l er;unfold ye;(try dsimp only);generalize HB _ l er=y;rcases y with ⟨_ | _,_,_,_⟩<;>(try dsimp only)<;>first | exact⟨rfl,rfl⟩ | rfl
  intro a;exact .pv _ _
 | 4=>exact .pv _ _ | 5=>
  show Gd λl er=>cv (O5 (nd.kd 5) l er p);apply Gs.bu (G2 _ _)
  ·intro l er;unfold O5;(try dsimp only);generalize Ao _ l er=y;rcases y with ⟨_ | _,_,_⟩<;>(try dsimp only)<;>first | exact⟨rfl,rfl⟩ | rfl
  refine Gd.toGp ?_;apply Gd.bind (Y3 _)
  ·constructor;intro l er;(try dsimp only);generalize Ea _ l er=y;rcases y with ⟨_ | _,_,_,_⟩<;>(try dsimp only)<;>first | exact⟨rfl,rfl⟩ | rfl
  intro a;exact .pv _ _
 | 6=>
  show Gd λl er=>cv (xz (nd.kd 6) l er p);apply Gd.bind (Y3 _)
  ·constructor;intro l er;unfold xz;(try dsimp only);generalize Ea _ l er=y;rcases y with ⟨_ | _,_,_,_⟩<;>(try dsimp only)<;>first | exact⟨rfl,rfl⟩ | rfl
  intro a;exact .pv _ _
 | 7=>exact AG9 hT d nd p | 8=>exact RD hT d _ p | 9=>exact RD hT d _ p | n+10=>exact .pv _ _
theorem ABA(d o):Gd (λl er=>cv (Gm T d l er o)):=by
 apply Gd.bind ABC
 ·constructor;intro l er;unfold Gm;(try dsimp only);generalize H0 l er=y;rcases y with ⟨_ | _,_,_,_⟩<;>(try dsimp only)<;>first | exact⟨rfl,rfl⟩ | rfl
 intro a;apply Gd.cond0 (p:=λt=>decide (t.1=1)) (λ_=>rfl)
 ·intro l er h;have h:=h;rw[h]
 ·intro l er h;have h:=h;rw[h]
 ·exact xm (λn=>AHp hT d _ o n) WX
 ·exact(Gd.tk (λt=>((CA a).rf t.2.1,o))).toGp
theorem AGx:GT (Sa T):=by
 intro d o;show Gd λl er=>cv (Kt T d l er o);apply Gd.cond0 (p:=XW) (λ_=>rfl)
 ·intro l er h;unfold Kt;rw[h]
 ·intro l er h;unfold Kt;rw[h]
 ·exact .no λ_ _=>⟨rfl,rfl⟩
 ·(try dsimp only)
  generalize (decide (16<d) || decide (300<=o.length))=b;cases b with
  | true=>exact .no λ_ _=>rfl | false=>
   refine Gd.toGp ?_;apply Gd.bv (ABA hT d _)
   ·intro l er;(try dsimp only);generalize Gm T d l er _=y;rcases y with ⟨_ | _,_,_,_,_⟩<;>(try dsimp only)<;>first | exact⟨rfl,rfl⟩ | rfl
   intro a o;exact .pv _ _
theorem AIW(z o)(h:decide (40<=z.1.length)=false):Gd (λl er=>cv (Jd T z l er o)):=by
 have K:∀t:Ad,Gd (λl er=>cv (match Ao [BS.mk 3 4012602] l er with
   | (false,s,k)=>(false,z,s,k,o) | (true,s,k)=>match T.go 0 s k o with
    | (b,i,v,r,u)=>(b,(z.1++[t.2.1],z.2++[i]),v,r,u))):=by
  intro t;apply Gs.bu (G2 _ _)
  ·intro l er;(try dsimp only);generalize Ao _ l er=y;rcases y with ⟨_ | _,_,_⟩<;>(try dsimp only)<;>first | exact⟨rfl,rfl⟩ | rfl
  refine Gd.toGp ?_;apply Gd.bv (hT 0 o)
  ·intro l er;(try dsimp only);generalize T.go _ l er o=y;rcases y with ⟨_ | _,_,_,_,_⟩<;>(try dsimp only)<;>first | exact⟨rfl,rfl⟩ | rfl
  intro a o;exact .pv _ _
 exact Gd.hd (λl er=>by unfold Jd;rw[h]<;>rfl) λt=>(K t).nxt
theorem ABo(n):∀z u,Gz (λl er=>cv (Kh T n z l er u)):=by
 induction n with
 | zero=>exact λ_ _ => .no λ_ _=>⟨rfl,rfl⟩ | succ n D=>
  intro z u;apply Gz.cond (p:=λt=>decide (t.1=1)) (λ_=>rfl)
  ·intro l er h;have h:=h;unfold Kh;rw[h]
  ·intro l er h;have h:=h;unfold Kh;rw[h]
  ·apply Gs.buz (G2 _ _)
   ·intro l er;(try dsimp only);generalize Ao _ l er=y;rcases y with ⟨_ | _,_,_⟩<;>(try dsimp only)<;>first | exact⟨rfl,rfl⟩ | rfl
   ·intro c er l m A q
    dsimp only[Jk]at q;rw[decide_eq_false (AOk A)]at q;cases q
  ·cases x:decide (40<=z.1.length)with
   | true=>intro c er l m A q;unfold Jd at q;rw[x]at q;cases q | false=>
    refine Gz.ct ?_;apply Gd.bvz (AIW hT z u x)
    ·intro l er;(try dsimp only);generalize Jd T _ l er _=y;rcases y with ⟨_ | _,_,_,_,_⟩<;>(try dsimp only)<;>first | exact⟨rfl,rfl⟩ | rfl
    intro a u;exact D _ _
theorem AIY:Gz (λl er=>cv (j7 T l er)):=by
 unfold j7;exact ABo hT fu ([],[]) []
end
theorem kg:∀q,GT (NG q)
 | 0=>λ_ _ => .no λ_ _=>⟨rfl,rfl⟩ | q+1=>AGx (kg q)
theorem AOV:∀m i o,Gd (Uq m i o):=by
 intro m;induction m with
 | nil=>exact λi o => .pure _ | cons w m u=>
  intro i o;apply Gd.cond0 (p:=λt=>FE w [t]) (λ_=>rfl)
  ·intro l er h;have h:FE w l=_:=h;unfold Uq;rw[h]
  ·intro l er h;have h:FE w l=_:=h;unfold Uq;rw[h]
  ·exact u _ _
  ·refine Gd.toGp ?_
   apply Gs.bu (G2 _ _)
   ·intro l er;(try dsimp only);generalize Ao _ l er=y;rcases y with ⟨_ | _,_,_⟩<;>(try dsimp only)<;>first | exact⟨rfl,rfl⟩ | rfl
   exact(Gd.pure _).toGp
def cm(x:Bool × WT × Er):Rr WT:=(x.1,x.2.1,[],x.2.2)
theorem asK{A:List Ad->Er->Bool × NT × List Ad × Er × List AM}(h:Gz λl er=>cv (A l er))(v:NT->List AM->WT):Gz (λl er=>cm (match A l er with
 | (false,_,_,g,_)=>(false,mT,g) | (true,z,_,g,o)=>(true,v z o,g))):=by
 refine⟨λc er l m p n=>?_,λc er=>?_⟩
 ·have k:=h.ct _ er _ _ p
  revert k n;generalize A l er=x;intro n k;rcases x with ⟨_|_,_,_,_,_⟩
  ·cases n
  ·have k:=k rfl
   revert k;generalize A m er=y;rcases y with ⟨_|_,_,_,_,_⟩
   ·exact id
   ·intro k;cases k.1
 ·have k:=h.fl c er
  revert k;generalize A (E0 c) er=y;rcases y with ⟨_|_,_,_,_,_⟩
  ·exact id
  ·intro k;cases k.1
theorem AHg{T}(u:GT T):Gz (λl er=>cm (KY T l er)):=by
 apply Gz.hd (f:=λt l er=>cm (match Jk 1 l er with
  | (false,_,er1)=>(false,mT,er1) | (true,v,er1)=>match Ao [BS.mk 11 100710650190388740279911748] v er1 with
   | (false,_,o)=>(false,mT,o) | (true,w,o)=>match Uq NH 0 0 w o with
    | (false,_,_,n)=>(false,mT,n) | (true,s,r,n)=>match Ao [BS.mk 3 4012602,BS.mk 5 336236856642] r n with
     | (false,_,er4)=>(false,mT,er4) | (true,l4,er4)=>match j7 T l4 er4 with
      | (false,_,_,p,_)=>(false,mT,p) | (true,z,_,p,q)=>(true,(t.2.1,s,z,q),p))) (λ_ _=>rfl)
 intro t;apply Gs.buz (mD 0)
 ·intro l er;(try dsimp only);generalize Jk _ l er=y;rcases y with ⟨_ | _,_,_⟩<;>(try dsimp only)<;>first | exact⟨rfl,rfl⟩ | rfl
 refine Gz.ct ?_;apply Gs.buz (G2 _ _)
 ·intro l er;(try dsimp only);generalize Ao _ l er=y;rcases y with ⟨_ | _,_,_⟩<;>(try dsimp only)<;>first | exact⟨rfl,rfl⟩ | rfl
 refine Gz.ct ?_;apply Gd.bz (AOV _ _ _)
 ·constructor;intro l er;(try dsimp only);generalize Uq _ _ _ l er=y;rcases y with ⟨_ | _,_,_,_⟩<;>(try dsimp only)<;>first | exact⟨rfl,rfl⟩ | rfl
 intro a;apply Gs.buz (G2 _ _)
 ·intro l er;(try dsimp only);generalize Ao _ l er=y;rcases y with ⟨_ | _,_,_⟩<;>(try dsimp only)<;>first | exact⟨rfl,rfl⟩ | rfl
 refine Gz.ct ?_;exact asK (AIY u) (λz q=>(t.2.1,a,z,q))
theorem vi{q c l m}(b:Ct c l m)(a:(KY (NG q) l (0,0)).1=true):(KY (NG q) m (0,0)).1=false/\(KY (NG q) m (0,0)).2.2=(c,7):=(AHg (kg q)).ct _ _ _ _ b a
theorem ABF{x y b:List Nat}(h:x=y++b):b.length<=x.length:=by subst h;simp
theorem VB{b}:∀x {y},MC (x++b)=y++b->MC x=y
 | [],y,h=>by
  have m:=Mt b;rw[IW]at h;rw[h,AY]at m;exact(Bc (by omega)).symm
 | c::x,y,h=>by
  have h:(match decide (c=10)with | true=>c::(x++b) | false=>match Fq c (x++b)with | true=>(x++b).drop 1 | false=>MC (x++b))=y++b:=h;unfold MC;cases m:decide (c=10)with
  | true=>rw[m]at h;exact C6 (show c::x++b=_ from h) | false=>
   rw[m]at h;cases x with
   | nil=>
    have n:Fq c []=false:=by unfold Fq;cases decide (c=45)<;>rfl
    simp only[n];cases j:Fq c ([]++b)with
    | false=>rw[j]at h;exact VB [] h | true=>
     rw[j]at h;have p:=ABF h;cases b with
     | nil=>rw[CZ,n]at j;cases j | cons d b=>simp at p;omega
   | cons d x=>
    have n:Fq c (d::x)=Fq c (d::x++b):=rfl;simp only[n];cases j:Fq c (d::x++b)with
    | false=>rw[j]at h;exact VB (d::x) h | true=>rw[j]at h;exact C6 (show x++b=_ from h)
theorem P2{b}:∀n (x:List Nat) {y},HS n (x++b)=y++b->HS n x=y
 | 0,x,y,h=>C6 h | n+1,[],y,h=>by
  have q:=G1 (n+1) b;rw[IW]at h;rw[h,AY]at q;exact(Bc (by omega)).symm
 | n+1,c::x,y,h=>by
  have h:(match Se c with | true=>HS n (x++b) | false=>match Fq c (x++b)with | true=>HS n (MC ((x++b).drop 1)) | false=>c::(x++b))=y++b:=h;unfold HS;cases q:Se c with
  | true=>rw[q]at h;exact P2 n x h | false=>
   rw[q]at h;cases x with
   | nil=>
    have s:Fq c []=false:=by unfold Fq;cases decide (c=45)<;>rfl
    simp only[s];cases o:Fq c ([]++b)with
    | false=>rw[o]at h;exact C6 (show [c]++b=_ from h) | true=>
     rw[o]at h;have u:=ABF h;have v:=G1 n (MC (([]++b).drop 1));have w:=Mt (([]++b).drop 1);cases b with
     | nil=>rw[CZ,s]at o;cases o | cons d b=>simp at u v w;omega
   | cons d x=>
    have s:Fq c (d::x)=Fq c (d::x++b):=rfl;simp only[s];cases o:Fq c (d::x++b)with
    | false=>rw[o]at h;exact C6 (show c::d::x++b=_ from h) | true=>
     rw[o]at h;have h:HS n (MC (x++b))=y++b:=h;have u:=ABF h;have v:=G1 n (MC (x++b));obtain⟨k,z,r⟩:=P4 (x++b);rw[r,AQ,AY]at v;have e:(x++b).drop k=x.drop k++b:=GL (by rw[AY]at z;rw[r]at h;have:=congrArg Du h;simp only[AY]at this u;omega);show HS n (MC x)=y;rw[VB x (r.trans e)];exact P2 n _ (by rw[<-e,<-r];exact h)
theorem Qn{p b}:∀x,Al p (x++b)<=x.length->Al p x=Al p (x++b)
 | [],h=>by
  have h:Al p ([]++b)<=0:=h;show 0=_;omega
 | c::x,h=>by
  have e:Al p (c::x++b)=match p c with | true=>Al p (x++b)+1 | false=>0:=rfl
  rw[ED,e];rw[e]at h;cases j:p c with
  | false=>rfl | true=>
   rw[j]at h;have:=Qn x (Nat.le_of_succ_le_succ h);simp only[this]
theorem cY{b}:∀x,Fm (x++b)<=x.length->¬(b.headD 0=45/\x.drop (Fm (x++b))=[45])->Fm x=Fm (x++b)
 | [],h,_=>by
  have h:Fm ([]++b)<=0:=h;show 0=_;omega
 | c::x,h,g=>by
  have e:Fm (c::x++b)=match OT c (x++b)with | true=>Fm (x++b)+1 | false=>0:=rfl
  rw[e]at h g;rw[LV,e];cases x with
  | cons d x=>
   have o:OT c (d::x)=OT c (d::x++b):=rfl;rw[o];cases f:OT c (d::x++b)with
   | false=>rfl | true=>
    rw[f]at h g;have:=cY (d::x) (Nat.le_of_succ_le_succ h) g;simp only[this]
  | nil=>
   cases f:OT c ([]++b)with
   | true=>
    rw[f]at h g;have h:Fm b+1<=1:=h;have o:OT c []=true:=by
     unfold OT at f ⊢;revert f;cases (Em c || Ai c)<;>cases decide (c=45)<;>intro f<;>first | rfl | cases f
    rw[o];show 0+1=Fm b+1;omega
   | false=>
    rw[f]at g;have o:OT c []=false:=by
     unfold OT at f ⊢;revert f;cases (Em c || Ai c)with
     | true=>intro f;cases f | false=>
      cases v:decide (c=45)with
      | false=>exact λ_=>rfl | true=>
       intro f;refine absurd ⟨?_,?_⟩ g
       ·cases s:decide (([]++b:List Nat).headD 0=45)with
        | true=>exact of_decide_eq_true s | false=>rw[s]at f;cases f
       ·rw[of_decide_eq_true v];rfl
    rw[o]
theorem bq:∀(r:List Nat) (p:List Nat × List Nat),D1 false r=some p->p.2.length<r.length
 | [],p,h=>by cases h
 | c::r,p,h=>by
  have h:(match decide (c=34)with | true=>D1 true r | false=>(D1 false r).map λp=>(c::p.1,p.2))=some p:=h;have g:=λs=>NQ s r;cases f:decide (c=34)with
  | true=>rw[f]at h;exact Nat.lt_succ_of_le (g _ _ h) | false=>
   rw[f]at h;cases d:D1 false r with
   | none=>rw[d]at h;cases h | some q=>rw[d]at h;cases h;exact Nat.lt_succ_of_le (g _ q d)
theorem NR{b}:∀s x {w y},D1 s (x++b)=some (w,y++b)->D1 s x=some (w,y)
 | false,[],w,y,h=>by
  have:=bq _ _ h;simp at this;omega
 | true,[],w,y,h=>by
  cases b with
  | nil=>rw[CZ,CZ]at h;exact h | cons c b=>
   have h:(match decide (c=34)with | true=>(D1 false b).map λp=>(34::p.1,p.2) | false=>some ([],c::b))=some (w,y++c::b):=h;cases j:decide (c=34)with
   | true=>
    rw[j]at h;cases e:D1 false b with
    | none=>rw[e]at h;cases h | some q=>
     have g:=bq _ _ e;rw[e]at h;have i:=(Prod.mk.inj (AP.inj h)).2;rw[i]at g;simp at g;omega
   | false=>
    rw[j]at h;have g:=(Prod.mk.inj (AP.inj h)).1;have i:=(Prod.mk.inj (AP.inj h)).2;rw[<-g,<-C6 (show []++(c::b)=_ from i)];rfl
 | false,c::x,w,y,h=>by
  have h:(match decide (c=34)with | true=>D1 true (x++b) | false=>(D1 false (x++b)).map λp=>(c::p.1,p.2))=some (w,y++b):=h;show (match decide (c=34)with | true=>D1 true x | false=>(D1 false x).map λp=>(c::p.1,p.2))=some (w,y);cases j:decide (c=34)with
  | true=>rw[j]at h;exact NR true x h | false=>
   rw[j]at h;cases e:D1 false (x++b)with
   | none=>rw[e]at h;cases h | some q=>
    rw[e]at h;have g:=(Prod.mk.inj (AP.inj h)).1;have i:=(Prod.mk.inj (AP.inj h)).2;have n:=NR false x (e.trans (congrArg some (Prod.ext rfl i)));simp only[n,<-g];rfl
 | true,c::x,w,y,h=>by
  have h:(match decide (c=34)with | true=>(D1 false (x++b)).map λp=>(34::p.1,p.2) | false=>some ([],c::x++b))=some (w,y++b):=h;show (match decide (c=34)with | true=>(D1 false x).map λp=>(34::p.1,p.2) | false=>some ([],c::x))=some (w,y);cases j:decide (c=34)with
  | false=>
   rw[j]at h;have g:=(Prod.mk.inj (AP.inj h)).1;have i:=(Prod.mk.inj (AP.inj h)).2;rw[<-g,<-C6 i]
  | true=>
   rw[j]at h;cases e:D1 false (x++b)with
   | none=>rw[e]at h;cases h | some q=>
    rw[e]at h;have g:=(Prod.mk.inj (AP.inj h)).1;have i:=(Prod.mk.inj (AP.inj h)).2;have n:=NR false x (e.trans (congrArg some (Prod.ext rfl i)));simp only[n,<-g];rfl
theorem Qm{b x:List Nat}:∀l,IY l (x++b)<=x.length->IY l (x++b)≠0->IY l x=IY l (x++b)
 | [],h,e=>absurd rfl e | t::l,h,e=>by
  have j:t.len<=x.length->(decide (t.len<=x.length)&&decide (x.take t.len=t.nats))=(decide (t.len<=(x++b).length)&&decide ((x++b).take t.len=t.nats)):=λf=>by
   rw[Co f,decide_eq_true f,decide_eq_true (show t.len<=(x++b).length by simp;omega)]
  rw[Js]at h e ⊢;rw[Js];by_cases f:t.len<=x.length
  ·rw[j f]
   cases i:(decide (t.len<=(x++b).length)&&decide ((x++b).take t.len=t.nats))with
   | true=>rfl | false=>rw[i]at h e;exact Qm l h e
  ·rw[decide_eq_false f,BY]
   cases i:(decide (t.len<=(x++b).length)&&decide ((x++b).take t.len=t.nats))with
   | true=>rw[i]at h;exact absurd h f | false=>rw[i]at h e;exact Qm l h e
theorem Nn{x y b:List Nat}{n}(h:(x++b).drop n=y++b)(i:n<=(x++b).length):n<=x.length/\x.drop n=y:=by
 have g:=congrArg Du h;simp only[AQ,AY]at g i;have d:n<=x.length:=by omega
 rw[GL d]at h;exact⟨d,C6 h⟩
theorem km c (r:List Nat):Hc (c::r)=(if Em c=true then NU c r else if(Ai c || (decide (c=45)&&Ai (r.headD 0)))=true then Kw (c::r)else if c=39 then Kx (c::r)else if c=34 then OL (c::r)else Ql (c::r)):=rfl
theorem vd{c x b o w y}(h:NU c (x++b)=(o+1,w,y++b))(t:¬(b.headD 0=45/\y=[45])):NU c x=(o+1,w,y):=by
 have r:(c::x++b).drop (Fm (c::x++b))=y++b:=by rw[<-show (NU c (x++b)).2.2=y++b by rw[h]];exact(Qu c (x++b)).symm
 obtain⟨m,n⟩:=Nn r (Qv _);have p:=cY (c::x) m (λe=>t ⟨e.1,n.symm.trans e.2⟩);unfold NU at h ⊢;rw[<-p]at m n;have s:Fm (c::(x++b))=Fm (c::x):=p.symm;have q:(c::(x++b)).take (Fm (c::x))=(c::x).take (Fm (c::x)):=Co m;rw[s,q]at h;revert h;cases Ma ((c::x).take (Fm (c::x)))with
 | true=>intro h;cases h | false=>
  intro h;rw[n];have a:=(Prod.mk.inj h).1;have b:=(Prod.mk.inj (Prod.mk.inj h).2).1;exact Prod.ext a (Prod.ext b rfl)
theorem Ww(r:List Nat):(Kw r).2.2=(if decide (r.headD 0=45)=true then r.drop 1 else r).drop (Al Ai (if decide (r.headD 0=45)=true then r.drop 1 else r)):=by
 have a:∀m (q:List Nat),(if EU m (q.take (Al Ai q)) ((q.drop (Al Ai q)).headD 0)=true then((3,De m (q.take (Al Ai q)),q.drop (Al Ai q)):Sg)else(0,[],q.drop (Al Ai q))).2.2=q.drop (Al Ai q):=λm q=>by split<;>rfl
 exact a _ _
theorem vf{c x b l w y}(h:Kw (c::x++b)=(l+1,w,y++b)):Kw (c::x)=(l+1,w,y):=by
 have A:∀m (q:List Nat),(let k:=(q++b).take (Al Ai (q++b));let j:=(q++b).drop (Al Ai (q++b));if EU m k (j.headD 0)=true then((3,De m k,j):Sg)else(0,[],j))=(l+1,w,y++b) ->
   (let k:=q.take (Al Ai q);let j:=q.drop (Al Ai q);if EU m k (j.headD 0)=true then((3,De m k,j):Sg)else(0,[],j))=(l+1,w,y):=by
  intro m q h;dsimp only at h ⊢;cases g:EU m ((q++b).take (Al Ai (q++b))) (((q++b).drop (Al Ai (q++b))).headD 0)with
  | false=>rw[g,if_neg (by decide)]at h;cases h | true=>
   rw[g,if_pos rfl]at h;have G:=(Prod.mk.inj h).1;have z:=(Prod.mk.inj (Prod.mk.inj h).2).1;have r:=(Prod.mk.inj (Prod.mk.inj h).2).2;obtain⟨v,t⟩:=Nn r (Hs _ _);have D:=Qn q v;rw[<-D]at v t z g r;rw[Co v]at z g;have E:EU m (q.take (Al Ai q)) ((q.drop (Al Ai q)).headD 0)=true:=by
    rw[t];rw[r]at g;unfold EU at g ⊢;cases y with
    | cons d y=>exact g | nil=>
     rw[AI]at g ⊢;refine⟨g.1,?_⟩;have:=g.2;rw[AI]at this ⊢;exact⟨this.1,rfl⟩
   rw[E,if_pos rfl,t];exact Prod.ext G (Prod.ext z rfl)
 have e:(if decide ((c::x++b).headD 0=45)=true then(c::x++b).drop 1 else c::x++b)=(if decide ((c::x).headD 0=45)=true then(c::x).drop 1 else c::x)++b:=by
  show (if decide (c=45)=true then x++b else c::x++b)=(if decide (c=45)=true then x else c::x)++b;cases decide (c=45)<;>rfl
 have C:=A (decide (c=45)) (if decide ((c::x).headD 0=45)=true then(c::x).drop 1 else c::x);rw[<-e]at C;exact C h
theorem wB{c x b i w y}(h:Kx (c::x++b)=(i+1,w,y++b)):Kx (c::x)=(i+1,w,y):=by
 have h:(if(decide (((x++b).take (Al Bk (x++b))).length % 2=0)&&Pw (BS.mk 2 18471) ((x++b).drop (Al Bk (x++b))))=true then((4,(x++b).take (Al Bk (x++b)),((x++b).drop (Al Bk (x++b))).drop 2):Sg)else(0,[],(x++b).drop (Al Bk (x++b))))=(i+1,w,y++b):=h;show (if(decide ((x.take (Al Bk x)).length % 2=0)&&Pw (BS.mk 2 18471) (x.drop (Al Bk x)))=true then((4,x.take (Al Bk x),(x.drop (Al Bk x)).drop 2):Sg)else(0,[],x.drop (Al Bk x)))=(i+1,w,y);cases e:(decide (((x++b).take (Al Bk (x++b))).length % 2=0)&&Pw (BS.mk 2 18471) ((x++b).drop (Al Bk (x++b))))with
 | false=>rw[e,if_neg (by decide)]at h;cases h | true=>
  rw[e,if_pos rfl]at h;rw[AI]at e;have t:=(Prod.mk.inj h).1;have k:=(Prod.mk.inj (Prod.mk.inj h).2).1;have o:=(Prod.mk.inj (Prod.mk.inj h).2).2;have l:=e.2;unfold Pw at l;rw[AI,decide_eq_true_eq]at l;have u:2<=((x++b).drop (Al Bk (x++b))).length:=l.1;rw[AQ]at u;rw[BU]at o;obtain⟨z,r⟩:=Nn o (by omega);have v:=Qn (p:=Bk) (b:=b) x (by omega);rw[<-v]at z r k e;have q:Al Bk x<=x.length:=by omega
  rw[Co q]at k e;rw[GL q]at e;have A:Pw (BS.mk 2 18471) (x.drop (Al Bk x))=true:=by
   have n:=e.2;unfold Pw at n ⊢;have s:(BS.mk 2 18471).len<=(x.drop (Al Bk x)).length:=by show 2<=_;rw[AQ];omega
   rw[Co s,AI]at n;rw[decide_eq_true s,n.2];rfl
  rw[e.1,A,BU,r];exact Prod.ext t (Prod.ext k rfl)
theorem uk{c x b l w y}(h:OL (c::x++b)=(l+1,w,y++b)):OL (c::x)=(l+1,w,y):=by
 have h:GF [] (x++b)=(l+1,w,y++b):=h;show GF [] x=_;unfold GF quo at h ⊢;cases k:D1 false (x++b)with
 | none=>rw[k]at h;cases h | some p=>
  rw[k]at h;dsimp only at h;cases i:CR ([]++p.1)with
  | false=>rw[i]at h;cases h | true=>
   rw[i]at h;have o:=(Prod.mk.inj h).1;have m:=(Prod.mk.inj (Prod.mk.inj h).2).1;have q:=(Prod.mk.inj (Prod.mk.inj h).2).2;have n:=NR false x (k.trans (congrArg some (Prod.ext (show p.1=w from m) q)));have i:CR ([]++w)=true:=by rw[<-m];exact i
   rw[n];dsimp only;rw[i];exact Prod.ext o rfl
theorem u7{x b k w y}(h:Ql (x++b)=(k+1,w,y++b)):Ql x=(k+1,w,y):=by
 unfold Ql at h ⊢;cases e:IY Cp (x++b)with
 | zero=>rw[e]at h;cases h | succ n=>
  rw[e]at h;have s:=(Prod.mk.inj h).1;have o:=(Prod.mk.inj (Prod.mk.inj h).2).1;have r:=(Prod.mk.inj (Prod.mk.inj h).2).2;have j:=Uw Cp (x++b);rw[e]at j;obtain⟨m,q⟩:=Nn r j;have p:=Qm Cp (by rw[e];exact m) (by rw[e];exact Df _);rw[p,e];rw[Co m]at o;show (6,x.take (n+1),x.drop (n+1))=_;rw[q,o];exact Prod.ext s rfl
theorem uq{c x b r w y}(h:Hc (c::x++b)=(r+1,w,y++b))(A:¬(b.headD 0=45/\y=[45])):Hc (c::x)=(r+1,w,y):=by
 have h:Hc (c::(x++b))=(r+1,w,y++b):=h;rw[km]at h ⊢;by_cases z:Em c=true
 ·rw[if_pos z]at h ⊢;exact vd h A
 rw[if_neg z]at h ⊢;have e:(Ai c || (decide (c=45)&&Ai ((x++b).headD 0)))=true->(Ai c || (decide (c=45)&&Ai (x.headD 0)))=true\/(x=[]/\c=45):=by
  intro g;cases x with
  | cons d x=>exact .inl g | nil=>
   cases p:Ai c with
   | true=>exact .inl rfl | false=>
    rw[p,C7,AI]at g;exact .inr ⟨rfl,of_decide_eq_true g.1⟩
 have B:(Ai c || (decide (c=45)&&Ai (x.headD 0)))=true->(Ai c || (decide (c=45)&&Ai ((x++b).headD 0)))=true:=by
  intro g;cases x with
  | cons d x=>exact g | nil=>
   cases p:Ai c with
   | true=>rfl | false=>
    rw[p,C7,AI]at g;exact absurd g.2 (by decide)
 by_cases l:(Ai c || (decide (c=45)&&Ai ((x++b).headD 0)))=true
 ·rw[if_pos l]at h
  rcases e l with g|⟨rfl,rfl⟩
  ·rw[if_pos g];exact vf h
  ·have n:=Ww (45::([]++b))
   rw[h]at n;have n:y++b=b.drop (Al Ai b):=n;have g:=l;cases b with
   | nil=>exact absurd g (by decide) | cons d b=>
    have g:Ai d=true:=g;rw[ED,g]at n;have:=congrArg Du n;simp only[AQ,AY,AK]at this;omega
 rw[if_neg l]at h;rw[if_neg (λg=>l (B g))];by_cases v:c=39
 ·rw[if_pos v]at h ⊢;exact wB h
 rw[if_neg v]at h ⊢;by_cases u:c=34
 ·rw[if_pos u]at h ⊢;exact uk h
 rw[if_neg u]at h ⊢;exact u7 h
theorem NO:∀s r (p:List Nat × List Nat),D1 s r=some p->∃w,r=w++p.2
 | false,[],p,h=>by cases h
 | true,[],p,h=>by cases h;exact⟨[],rfl⟩
 | false,c::r,p,h=>by
  have h:(match decide (c=34)with | true=>D1 true r | false=>(D1 false r).map λp=>(c::p.1,p.2))=some p:=h;cases i:decide (c=34)with
  | true=>rw[i]at h;obtain⟨w,e⟩:=NO true r p h;exact⟨c::w,congrArg (c::·) e⟩ | false=>
   rw[i]at h;cases f:D1 false r with
   | none=>rw[f]at h;cases h | some q=>rw[f]at h;cases h;obtain⟨w,e⟩:=NO false r q f;exact⟨c::w,congrArg (c::·) e⟩
 | true,c::r,p,h=>by
  have h:(match decide (c=34)with | true=>(D1 false r).map λp=>(34::p.1,p.2) | false=>some ([],c::r))=some p:=h;cases i:decide (c=34)with
  | false=>rw[i]at h;cases h;exact⟨[],rfl⟩ | true=>
   rw[i]at h;cases f:D1 false r with
   | none=>rw[f]at h;cases h | some q=>rw[f]at h;cases h;obtain⟨w,e⟩:=NO false r q f;exact⟨c::w,congrArg (c::·) e⟩
theorem J8(r:List Nat) n:∃w,r=w++r.drop n:=⟨r.take n,(Yr n r).symm⟩
theorem um c r:∃w,c::r=w++(Hc (c::r)).2.2:=by
 rw[km];split
 ·rw[Qu];exact J8 _ _
 split
 ·rw[Ww]
  have:∀q,(∃v,c::r=v++q)->∃w,c::r=w++q.drop (Al Ai q):=λq ⟨v,e⟩=>by
   obtain⟨u,m⟩:=J8 q (Al Ai q);exact⟨v++u,by rw[CK,<-m];exact e⟩
  exact this (if decide ((c::r).headD 0=45)=true then(c::r).drop 1 else c::r) (by split;exact⟨[c],rfl⟩;exact⟨[],rfl⟩)
 split
 ·unfold Kx
  dsimp only;split
  ·rw[BU,BU];exact J8 _ _
  ·rw[BU];exact J8 _ _
 split
 ·unfold OL GF quo
  cases o:D1 false ((c::r).drop 1)with
  | none=>exact⟨c::r,(CZ _).symm⟩ | some p=>
   obtain⟨w,e⟩:=NO _ _ _ o;dsimp only;cases CR ([]++p.1)<;>exact⟨c::w,congrArg (c::·) e⟩
 ·unfold Ql
  cases IY Cp (c::r)with
  | zero=>exact⟨[],rfl⟩ | succ n=>exact J8 _ _
theorem P1:∀n (r:List Nat),∃w,r=w++HS n r
 | 0,r=>⟨[],rfl⟩ | n+1,[]=>⟨[],rfl⟩ | n+1,c::r=>by
  unfold HS;cases Se c with
  | true=>obtain⟨w,e⟩:=P1 n r;exact⟨c::w,congrArg (c::·) e⟩ | false=>
   cases Fq c r with
   | false=>exact⟨[],rfl⟩ | true=>
    obtain⟨w,e⟩:=P1 n (MC (r.drop 1));obtain⟨k,_,j⟩:=P4 (r.drop 1);obtain⟨u,i⟩:=J8 (c::r) (k+2);refine⟨u++w,?_⟩;show c::r=u++w++HS n (MC (r.drop 1));rw[CK,<-e,j,BU];rw[Nat.add_comm 1 k];exact i
theorem W3{M len}(hM:0<M):∀k (r:List Nat) (ts:List Ad),r.length<=len->HA M len k r = .ok ts->∀j,j+1<ts.length ->
  ∃x b,r=x++b/\(∃t,ts[j]? = some t/\t.2.2=len-b.length)/\∀y,x.length<y->HA M (len-b.length) y x = .ok (ts.take j++E0 (len-b.length))
 | 0,r,ts,_,h,j,L=>by cases h
 | k+1,[],ts,_,h,j,L=>by cases h;simp at L
 | k+1,c::r,ts,hl,h,j,L=>by
  unfold HA at h;cases hk:(Hc (c::r)).1 with
  | zero=>rw[hk]at h;cases h | succ kd=>
   have R:=Up (c:=c) (r:=r) (by omega);have hw:=G1 M (Hc (c::r)).2.2;rw[hk]at h;cases S:HA M len k (HS M (Hc (c::r)).2.2)with
   | error e=>simp only[S]at h;cases h | ok ts'=>
    simp only[S]at h;cases h;cases j with
    | zero=>
     refine⟨[],c::r,rfl,⟨_,rfl,rfl⟩,λy C=>?_⟩;obtain⟨y,rfl⟩:∃m,y=m+1:=⟨y-1,by have:=C;omega⟩;rfl
    | succ j=>
     obtain⟨q,b,e,⟨t,Q,ht2⟩,hx⟩:=W3 hM k _ ts' (by omega) S j (by simpa using L);obtain⟨v,ev⟩:=P1 M (Hc (c::r)).2.2;obtain⟨u,eu⟩:=um c r;have er:(Hc (c::r)).2.2=(v++q)++b:=by rw[CK,<-e];exact ev
     have ec:c::r=(u++(v++q))++b:=by rw[CK,<-er];exact eu
     have hu:0<u.length:=by
      have:=congrArg Du eu;rw[AY]at this;simp only[AK]at this R;omega
     obtain⟨c',N,rfl⟩:∃a l,u=a::l:=by
      cases u with
      | nil=>exact absurd hu (by decide) | cons a l=>exact⟨a,l,rfl⟩
     have P:=(List.cons.inj ec).1;have J:r=(N++(v++q))++b:=(List.cons.inj ec).2;subst P;have G:HS M ((v++q)++b)=q++b:=by rw[<-er];exact e
     have hy:¬(b.headD 0=45/\v++q=[45]):=by
      rintro⟨K,g2⟩;rw[g2]at G;obtain⟨m,rfl⟩:∃m,M=m+1:=⟨M-1,by omega⟩;cases b with
      | nil=>exact absurd K (by decide) | cons d b=>
       have K:=K;subst K;have G:HS m (MC b)=q++45::b:=G;have q1:=G1 m (MC b);have q2:=Mt b;rw[G,AY,AK]at q1;omega
     have hx':HS M (v++q)=q:=P2 M _ G;have htk:Hc (c::(N++(v++q)))=(kd+1,(Hc (c::r)).2.1,v++q):=by
      refine uq ?_ hy;rw[Ji,<-J];exact Prod.ext hk (Prod.ext rfl er)
     refine⟨c::(N++(v++q)),b,ec,⟨t,by simpa using Q,ht2⟩,λy C=>?_⟩;obtain⟨y,rfl⟩:∃m,y=m+1:=⟨y-1,by omega⟩;have hl':q.length<y:=by simp only[AK,AY]at C;omega
     have I:=congrArg Du J;rw[AY]at I;unfold HA;rw[htk];dsimp only;rw[hx',hx y hl'];dsimp only;rw[show len-b.length-((N++(v++q)).length+1)=len-(r.length+1)by omega];rfl
theorem ma{M}{s:BS}{ts:List Ad}(G:0<M)(h:IK M s = .ok ts){j}(C:j+1<ts.length):
  ∃p,(∃t,ts[j]? = some t/\t.2.2=p)/\p<=s.len/\IK M (BO (s.nats.take p)) = .ok (ts.take j++E0 p)/\Ct p ts (ts.take j++E0 p):=by
 have R:=BS.length_nats s;have u:=(Kb h).1.fin;unfold IK at h;cases z:decide (8000<s.len)with
 | true=>rw[z]at h;cases h | false=>
  rw[z]at h;have S:s.len<=8000:=by have:=of_decide_eq_false z;omega
  cases A:HA M s.len (s.len+1) (HS M s.nats)with
  | error e=>simp only[A]at h;cases h | ok K=>
   simp only[A]at h;cases h;obtain⟨x,b,e,q,P⟩:=W3 G _ _ _ (by have:=G1 M s.nats;omega) A j C;obtain⟨v,ev⟩:=P1 M s.nats;have o:s.nats=(v++x)++b:=by rw[CK,<-e];exact ev
   have E:=congrArg Du o;rw[AY,R]at E;have y:(v++x).length=s.len-b.length:=by omega
   have J:s.nats.take (s.len-b.length)=v++x:=by rw[o,<-y,AFb]
   have F:HS M (v++x)=x:=P2 M _ (by rw[<-o];exact e);have I:=λc N=>s.nats_lt c (by rw[o];exact List.mem_append_left _ N);refine⟨s.len-b.length,q,Nat.sub_le _ _,?_,?_⟩
   ·rw[J]
    unfold IK;have L:(BO (v++x)).len=s.len-b.length:=by rw[DR];exact y
    rw[L,Dk I,decide_eq_false (by omega),F];dsimp only;rw[P _ (by rw[AY]at y;omega)]
   ·obtain⟨p,e,B,T,Q⟩:=u
    have O:j<p.length:=by rw[B]at C;simp at C;omega
    have D:p[j]::p.drop (j+1)=p.drop j:=List.getElem_cons_drop ..;refine⟨p.take j,p[j],p.drop (j+1),e,?_,?_,λt q=>Q t ?_⟩
    ·rw[B,<-Ji,D,<-CK,Yr]
    ·rw[B,Co (by omega)]
    ·rw[D,Yr]at q;exact q
theorem cl{M}{s:BS}{e:Nat × Nat}(h:IK M s = .error e):e.2≠0:=by
 unfold IK at h;cases j:decide (8000<s.len)with
 | true=>rw[j]at h;cases h;decide | false=>
  rw[j]at h;cases i:HA M s.len (s.len+1) (HS M s.nats)with
  | error p=>simp only[i]at h;cases h;exact(by decide:6≠0) | ok ts=>simp only[i]at h;cases h
theorem lh{M s}{e:Nat × Nat}(h:Fk M s = .error e):e.2≠0:=by
 unfold Fk at h;cases f:IK M s with
 | error u=>rw[f]at h;cases h;exact cl f | ok ts=>
  rw[f]at h;have o:oZ GO JN:=by
   have:=Uj 18;unfold GO JN;exact this
  have l:Py JN:=by
   have:=GM 18;unfold JN;exact this
  rcases mQ o l (mZ f) (Kb f).1.few with ⟨m,k,q⟩|⟨t,er,r,k,q,p⟩
  ·simp only[k]at h;cases h
  ·simp only[k]at h;cases h;exact p
theorem jB{M}{s:BS}{m}{ts:List Ad}(y:0<M)(h:Fk M s = .ok m)(u:IK M s = .ok ts){j}(w:j+1<ts.length):
  ∃p t,ts[j]? = some t/\t.2.2=p/\p<=s.len/\Fk M (s.sub 0 p) = .error (p,7):=by
 obtain⟨p,⟨t,x,A⟩,k,B,z⟩:=ma y u w;refine⟨p,t,x,A,k,?_⟩;unfold Fk at h ⊢;rw[u]at h;have v:(KY GO ts (0,0)).1=true:=by
  revert h;dsimp only;rcases KY GO ts (0,0)with ⟨_|_,_,_⟩
  ·intro h;cases h
  ·exact λ_=>rfl
 have n:(KY GO (ts.take j++E0 p) (0,0)).1=false/\(KY GO (ts.take j++E0 p) (0,0)).2.2=(p,7):=by
  unfold GO at v ⊢;exact vi z v
 have e:s.sub 0 p=BO (s.nats.take p):=by rw[Ur k];rfl
 rw[e,B];revert n;dsimp only;rcases KY GO (ts.take j++E0 p) (0,0)with ⟨_|_,_,er⟩
 ·intro n;exact congrArg Except.error n.2
 ·intro n;cases n.1
theorem AHA a m (g:0<m)(i:m<=1000000):∃r,r<m/\BH .i64 (Int.tmod (BH .u64 a) (AA m))=AA r:=by
 obtain⟨k,f⟩:∃k,BH .u64 a=AA k:=by
  rw[show BH .u64 a=a % 18446744073709551616 by rw[G0];rfl];exact Int.eq_ofNat_of_zero_le (Int.emod_nonneg _ (by decide))
 have h:Int.tmod (AA k) (AA m)=AA (k % m):=rfl;have:=AFa k g;exact⟨k % m,this,by rw[f,h];exact Cq (show k % m<=9223372036854775807 by omega)⟩
theorem AGz{E U n}{ts:List Ad}{k}{t:Ad}(h:D0 U 3 ts.length n (Dq ts))(j:ts[k]? = some t) J:Bl 3 n (AA k) (λb o=>Ee E U b (AN o 2) λu=>BZ .i64 u J)=J (AA t.2.2):=by
 have g:k<ts.length:=by
  rcases Av k ts.length with h|h
  ·exact h
  ·rw[Ae h]at j;cases j
 rcases h with ⟨w,_,_⟩|⟨b,o,c,L,rfl,v,r,s⟩
 ·omega
 ·rw[DG g]
  show Ee E U b (o+k*3+2) _=_;have l:=Un ts k t j;rw[s,WQ,List.take_take,Gi (by omega),BU]at l;have p:=congrArg (·[2]?) l;simp only[CY,CD]at p;rw[VM v (by rw[KW];exact p)];rfl
section
variable {E:EB}{D:Am}{W:AJ}{N:Nat}
theorem vx{M}(hM:0<M)(hP:KK E M (D 6))(hR:Lw E M (D 7))(hL:N8 E M (D 9))(hA:∀U,CI U->KF E U->PD (D 5) [] U) U (s:BS)(b:Int)(ht:CI U)(B:KF E U):PD (F4 E D W N) [.str s,.int .i64 b] U:=by
 show ∃U',jl E D W s b U=_/\_;have hl:=hL U s ht B;cases hx:IK M s with
 | error e=>
  have hp:Fk M s = .error e:=by unfold Fk;rw[hx]
  have he:decide (e.2=0)=false:=decide_eq_false (cl hx);rw[hx]at hl;obtain⟨U1,A,f1⟩:=hl;have hr:=hR U1 s f1.tidy (B.fr f1 (λ_ h=>h.elim));rw[LS,hp]at hr;obtain⟨U2,u,r⟩:=hr;obtain⟨U3,w,y⟩:=hA U2 r.tidy (B.fr (f1.trans r (λ_ _ h=>h)) (λ_ h=>h.elim));refine⟨U3,?_,(f1.trans r (λ_ _ h=>h)).trans y (λ_ _ h=>h)⟩;have C:BM [.str (BS.mk 0 0),.int .i64 (AA 0),.nils,.nils,.nils]=true:=rfl;unfold jl;cases q:decide (3000<s.len)with
  | true=>simp only[↓rP,rA,AE,AF,AD,↓A,C,↓u,q,↓w] | false=>simp only[↓rP,rA,AE,AF,AD,↓A,C,↓u,q,he,↓w]
 | ok ts=>
  rw[hx]at hl;obtain⟨v,U1,A,q,_,f1⟩:=hl;have hv:=q.one;have hr:=hR U1 s f1.tidy (B.fr f1 (λ_ h=>h.elim));cases hp:Fk M s with
  | error e=>
   rw[LS,hp]at hr;have he:decide (e.2=0)=false:=decide_eq_false (lh hp);obtain⟨U2,u,r⟩:=hr;obtain⟨U3,w,y⟩:=hA U2 r.tidy (B.fr (f1.trans r (λ_ _ h=>h)) (λ_ h=>h.elim));refine⟨U3,?_,(f1.trans r (λ_ _ h=>h)).trans y (λ_ _ h=>h)⟩;have C:BM [.str (BS.mk 0 0),.int .i64 (AA 0),.nils,.nils,.nils]=true:=rfl;have ez:decide ((0:Nat)=0)=true:=rfl;unfold jl;cases q:decide (3000<s.len)with
   | true=>simp only[↓rP,rA,AE,AF,AD,↓A,hv,C,↓u,q,ez,↓w] | false=>simp only[↓rP,rA,AE,AF,AD,↓A,hv,C,↓u,q,ez,he,↓w]
  | ok m=>
   rw[LS,hp]at hr;obtain⟨nv,tv,dv,U2,u,hs,_,r⟩:=hr;have z:=f1.trans r (λ_ _ h=>h);have ez:decide ((0:Nat)=0)=true:=rfl;obtain⟨ws,hd2,_,_⟩:=hs.d;have o1:=hs.n.one;have o2:=hs.t.one;have o3:=hd2.one;have sl:∀J:Nat->AH,BV v J=J ts.length:=λJ=>q.src.slen;unfold Ym at u;by_cases hb:3000<s.len\/ts.length<2
   ·obtain⟨U3,w,y⟩:=hA U2 r.tidy (B.fr (f1.trans r (λ_ _ h=>h)) (λ_ h=>h.elim))
    refine⟨U3,?_,z.trans y (λ_ _ h=>h)⟩;unfold jl;cases q:decide (3000<s.len)with
    | true=>simp only[↓rP,rA,AE,AF,AD,↓A,hv,o1,o2,o3,↓u,q,ez,↓w] | false=>
     have h2:decide (ts.length<2)=true:=decide_eq_true (hb.resolve_left (of_decide_eq_false q));simp only[↓rP,rA,AE,AF,AD,↓A,hv,o1,o2,o3,↓u,q,ez,↓sl,h2,↓w]
   ·have hd0:decide (3000<s.len)=false:=decide_eq_false λh=>hb (.inl h)
    have h2:decide (ts.length<2)=false:=decide_eq_false λh=>hb (.inr h);have hlen:2<=ts.length:=by have:=of_decide_eq_false h2;omega
    have hfew:=(Kb hx).1.few;obtain⟨k,hk,ek⟩:=AHA b (ts.length-1) (by omega) (by omega);obtain⟨p,t,ht',hpt,hle,hc⟩:=jB hM hp hx (j:=k) (by omega);have e1:Ez .i64 (AA ts.length) (AA 1)=AA (ts.length-1):=G5 (by omega) (by omega);have e2:BH .u64 (AA (ts.length-1))=AA (ts.length-1):=Cq (show ts.length-1<=18446744073709551615 by omega);have nz:∀a:AH,nzK (AA (ts.length-1)) a=a:=λa=>by
     obtain⟨n,hn⟩:∃n,ts.length-1=n+1:=⟨ts.length-2,by omega⟩;rw[hn];rfl
    have rd:=λJ=>AGz (E:=E) (q.fr r f1.tidy (λ_ _ h=>h)).src ht' J;rw[hpt]at rd;have sc:∀J:BS->AH,BA s none (some (.int .i64 (AA p))) J=J (s.sub 0 p):=λJ=>KT hle;have hq:=hP U2 (s.sub 0 p) r.tidy (B.fr z (λ_ h=>h.elim));rw[hc]at hq;obtain⟨U3,w,y⟩:=hq;obtain⟨U4,g4,f4⟩:=hA U3 y.tidy (B.fr (z.trans y (λ_ _ h=>h)) (λ_ h=>h.elim));have C:BM [.str (BS.mk 0 0),.int .i64 (AA 0),.nils,.nils,.nils]=true:=rfl;have lp:(s.sub 0 p).len=p:=by rw[Ur hle,DR];simp[BS.length_nats];omega
    have d1:decide (p=p)=true:=decide_eq_true rfl;have d7:decide ((7:Nat)=7)=true:=rfl;refine⟨U4,?_,(z.trans y (λ_ _ h=>h)).trans f4 (λ_ _ h=>h)⟩;unfold jl;simp only[↓rP,rA,AE,AF,AD,↓A,hv,o1,o2,o3,↓u,hd0,ez,↓sl,h2,e1,e2,nz,ek,↓rd,↓sc,↓w,C,↓g4,lp,d1,d7]
end
section
variable {E:EB}
theorem ik d:MY (TW E (d+1) 51):=by rw[AEy];exact AHa
theorem Yy d:PO (TW E (d+1) 53):=by rw[AEw];exact yP
theorem Uf d:Mh (TW E (d+1) 55):=by rw[AEu];exact yf
theorem AAi d:Xy (TW E (d+1) 87):=by rw[AEX];exact yR
theorem AAa d:Xy (TW E (d+2) 75):=by rw[AEe];exact yC (AAi d)
theorem xAh d:V5 (TW E (d+3) 52):=by rw[AEx];exact AIb (AAa d)
theorem xSk d:qV 600000 (TW E (d+4) 24):=by rw[AFI];exact AG6 (ik (d+2)) (xAh d) (by decide)
theorem xWd d:wy (TW E (d+1) 76):=by rw[AEd];exact AGp
theorem AAe d:MX (λr=>∃c l,r=c::l/\Em c=true) (λr=>NU (r.headD 0) (r.drop 1)) (TW E (d+2) 54):=by rw[AEv];exact cc (ik d) (Yy d) (Uf d) (xWd d) (by decide)
theorem AAZ d:MX (λ_=>True) Ql (TW E (d+4) 59):=by rw[AEq];exact bg (xAh d) (by decide)
theorem AAd d:MX (λr=>(∃c l,r=c::l/\Ai c=true)\/∃l,r=45::l/\Ai (l.headD 0)=true) Kw (TW E (d+2) 56):=by rw[AEt];exact mI (ik d) (Yy d) (Uf d) (sk E _) (by decide)
theorem AAj d:MX (λr=>∃l,r=39::l) Kx (TW E (d+4) 57):=by rw[AEs];exact nJ (ik (d+2)) (Uf (d+2)) (xAh d) (by decide)
theorem xW8 d:jm E (TW E (d+1) 90):=by rw[AEW];exact AGq
theorem xVl d:qP E (TW E (d+2) 78):=by rw[AEc];exact AGt (xW8 d) (by decide)
theorem AAX d:Vw E (λr=>∃q,r=34::q) OL (TW E (d+3) 58):=by rw[AEr];exact ko (ik (d+1)) (xVl d) (by decide)
theorem AAY d:Vw E (λr=>r≠[]) Hc (TW E (d+5) 25):=by rw[AFH];exact xw (ik (d+3)) (Yy (d+3)) (Uf (d+3)) (AAe (d+2)) (AAd (d+2)) (AAj d) (AAX (d+1)) (AAZ d)
theorem AAh d:N8 E 600000 (TW E (d+6) 10):=by rw[AFR];exact yS (xSk (d+1)) (AAY d) (by decide)
theorem Hv d:C0 (TW E (d+1) 29):=by rw[AFD];exact cR
theorem LC d:FL (TW E (d+1) 61):=by rw[AEo];exact ca
theorem ud d:PL (TW E (d+2) 28):=by rw[AFE];exact Su (Hv d)
theorem Pq d:Gr (TW E (d+3) 62):=by rw[AEn];exact yV (ud d) (LC (d+1))
theorem Hw d:HH (TW E (d+1) 60):=by rw[AEp];exact dE
theorem Fi d:D6 (TW E (d+4) 27):=by rw[AFF];exact Z9 (Pq d) (Hv (d+2)) (Hw (d+2)) (by decide)
theorem ue d:PN (TW E (d+2) 26):=by rw[AFG];exact yM (Hv d) (LC d) (Hw d)
theorem Ue d:Kj (TW E (d+3) 103):=by rw[tO];exact mK (ue d) (sk E _)
theorem kL d:V4 (TW E (d+1) 79):=by rw[AEb];exact oR
theorem kI d:QO (TW E (d+5) 91):=by rw[AEV];exact ck (Pq (d+1)) (Ue (d+1)) (Hw (d+3)) (Fi d)
theorem kK d:SC (TW E (d+5) 93):=by rw[AET];exact oM (Pq (d+1)) (Ue (d+1)) (Fi d)
theorem xSz d:Xx (TW E (d+6) 92):=by rw[AEU];exact yA (Pq (d+2)) (Fi (d+1)) (kK d)
theorem kJ d:OA (TW E (d+5) 104):=by rw[tN];exact cz (ue (d+2)) (Pq (d+1)) (Ue (d+1)) (Fi d)
theorem Yz d:N9 (TW E (d+6) 94):=by rw[AES];exact W6 (Pq (d+2)) (Fi (d+1)) (kJ d) (by decide)
theorem AAg d:R8 (TW E (d+1) 108):=by rw[tJ];exact mX
theorem AAb d:PM (TW E (d+2) 98):=by rw[AEO];exact yL (AAg d) (by decide)
theorem xPu d:PM (TW E (d+3) 118):=by rw[sr];exact AHW (AAb d)
theorem AAc d:Lx (TW E (d+4) 116):=by rw[su];exact mF (xPu d) (by decide)
theorem AAW d:Vv (TW E (d+5) 114):=by rw[sx];exact kb (Hv (d+3)) (Pq (d+1)) (Ue (d+1)) (LC (d+3)) (Hw (d+3)) (AAc d)
theorem kH{T}(e:dS T) k (h:∀d,HG T (TW E (k+d+10) 63)):∀d,HG (Sa T) (TW E (k+d+17) 63):=by
 have f:∀d,JB T (TW E (k+d+11) 106):=λd=>by rw[tL];exact XG (ue (k+d+8)) (Pq (k+d+7)) (AAW (k+d+5)) (h d)
 have i:∀d,fJ T (TW E (k+d+12) 113):=λd=>by rw[sy];exact ym (λd l er c=>(e d l er c).l) (Pq (k+d+8)) (Fi (k+d+7)) (f d) (by decide)
 have j:∀d,fK T (TW E (k+d+13) 105):=λd=>by rw[tM];exact yr (λd l er c=>(e d l er c).l) (Pq (k+d+9)) (i d) (f (d+1)) (by decide)
 have g:∀d,KL T (TW E (k+d+14) 95):=λd=>by rw[AER];exact TI (λd l er c=>(e d l er c).l) (Pq (k+d+10)) (ud (k+d+11)) (Fi (k+d+9)) (j d) (f (d+2)) (by decide)
 have m:∀d,Vy T (TW E (k+d+15) 96):=λd=>by rw[AEQ];exact lK (ud (k+d+12)) (xSz (k+d+8)) (Fi (k+d+10)) (g d) (h (d+4))
 have nd:∀d,QN T (TW E (k+d+16) 80):=λd=>by rw[AEa];exact cX (Hv (k+d+14)) (LC (k+d+14)) (kI (k+d+10)) (Pq (k+d+12)) (Hw (k+d+14)) (Fi (k+d+11)) (xSz (k+d+9)) (kK (k+d+10)) (Yz (k+d+9)) (g (d+1)) (m d)
 have ty:∀d,HG (Sa T) (TW E (k+d+17) 63):=λd=>by rw[sn];exact Ul e (Hv (k+d+15)) (kL (k+d+15)) (Hw (k+d+15)) (λ_=>nd d)
 exact ty
theorem WW:∀q d,HG (NG (q+1)) (TW E (7*q+d+10) 63)
 | 0,d=>by rw[show 7*0+d+10=d+9+1 by omega,sn];exact Ul (KR 0) (Hv (d+8)) (kL (d+8)) (Hw (d+8)) (λh=>absurd h (by decide))
 | q+1,d=>by rw[show 7*(q+1)+d+10=7*q+d+17 by omega];exact kH (KR (q+1)) (7*q) (WW q) d
theorem kG d:HG GO (TW E (d+129) 63):=by unfold GO;rw[show d+129=7*17+d+10 by omega];exact WW 17 d
theorem VF:dS GO:=by unfold GO;exact KR 18
theorem VE:GO.lo=0:=by unfold GO;rfl
theorem AAk d:SD GO (TW E (d+130) 30):=by rw[AFC];exact oT (LC (d+128)) (Hw (d+128)) (Fi (d+125)) (kG d) VE
theorem AAf d:V1 GO (TW E (d+131) 11):=by rw[AFQ];exact mR VF (Hv (d+129)) (ud (d+128)) (ue (d+128)) (Fi (d+126)) (AAk d) (by decide)
theorem QV d:KK E 600000 (TW E (d+132) 6):=by rw[DE6];exact Wm (AAh (d+125)) (AAf d)
theorem ON d:KJ (TW E (d+1) 42):=by rw[AE7];exact yH
theorem Yw d:SA (TW E (d+1) 43):=by rw[AE6];exact lO
theorem UY d:Mg (TW E (d+1) 46):=by rw[AE3];exact lT
theorem AAK d:Xv 600000 (TW E (d+2) 22):=by rw[AFK];exact xj (ON d) (by decide)
theorem AAS d:fI (TW E (d+1) 72):=by rw[AEh];exact yX (by decide)
theorem Yt d:∀U,(TW E (d+1) 73) [] U=some (.sl U.next 0 25 (.ex 25),B9 U (.cells (KQ.map .str))):=by rw[AEg];exact Wd
theorem j9 d:QJ (TW E (d+2) 45):=by rw[AE4];exact bh (AAS d) (Yt d)
theorem kC d:QM (TW E (d+2) 44):=by rw[AE5];exact bn (ON d) (Yw d) (UY d) (by decide)
theorem kB d:QK (TW E (d+1) 50):=by rw[AEz];exact bj (by decide)
theorem AAQ d:QL (TW E (d+2) 47):=by rw[AE2];exact bm (ON d) (Yw d) (UY d) (by decide)
theorem AAT d:V0 (TW E (d+2) 48):=by rw[AE1];exact lP (ON d) (UY d) (by decide)
theorem yW8 d:Tc (TW E (d+1) 86):=by rw[AEY];exact xp
theorem yVl d:Xw E (TW E (d+2) 74):=by rw[AEf];exact xq (yW8 d) (by decide)
theorem AAN d:Vz E (TW E (d+3) 49):=by rw[AE0];exact lM (ON (d+1)) (yVl d) (by decide)
theorem AAO d:R7 E (TW E (d+4) 23):=by rw[AFJ];exact mB (ON (d+2)) (Yw (d+2)) (UY (d+2)) (kC (d+1)) (j9 (d+1)) (AAQ (d+1)) (AAT (d+1)) (AAN d) (kB (d+2))
theorem tq d:N8 E 600000 (TW E (d+5) 9):=by rw[DE9];exact lN (AAK (d+2)) (AAO d) (by decide)
theorem Kz d:C0 (TW E (d+1) 15):=by rw[AFM];exact mM
theorem UX d:FL (TW E (d+1) 31):=by rw[AFB];exact cZ
theorem Ir d:Fc (TW E (d+1) 16):=by rw[AFL];exact dD
theorem QT d:Ft (TW E (d+2) 14):=by rw[AFN];exact yU (Kz d) (UX d)
theorem Hu d:Di (TW E (d+3) 13):=by rw[AFO];exact cd (QT d) (Kz (d+1)) (Ir (d+1))
theorem NC d:GY (TW E (d+2) 12):=by rw[AFP];exact cr (Kz d) (UX d) (Ir d)
theorem yWh d:Tb (TW E (d+1) 64):=by rw[AEm];exact xl (by decide)
theorem NB d:JA (TW E (d+3) 33):=by rw[AE9];exact mJ (NC d) (yWh (d+1))
theorem kE d:V3 (TW E (d+1) 32):=by rw[AFA];exact oP (by decide)
theorem kD d:SB (TW E (d+4) 66):=by rw[AEk];exact oL (QT (d+1)) (NB d) (Hu d)
theorem AAM d:Vx (TW E (d+5) 65):=by rw[AEl];exact ky (QT (d+2)) (Hu (d+1)) (kD d)
theorem AAR d:V2 (TW E (d+4) 67):=by rw[AEj];exact my (NC (d+1)) (QT (d+1)) (NB d) (Hu d) (by decide)
theorem AAP d:Lx (TW E (d+1) 107):=by rw[tK];exact nK (by decide)
theorem AAL d:Vu (TW E (d+3) 97):=by rw[AEP];exact ka (Kz (d+1)) (QT d) (yWh (d+1)) (UX (d+1)) (Ir (d+1)) (AAP (d+1))
theorem kA{T}(c:Py T) k (e:∀d,Fs T (TW E (k+d+6) 17)):∀d,Fs (O3 T) (TW E (k+d+10) 17):=by
 have f:∀d,KM T (TW E (k+d+7) 81):=λd=>by rw[AEZ];exact XE (NC (k+d+4)) (QT (k+d+4)) (AAL (k+d+3)) (e d)
 have g:∀d,MO T (TW E (k+d+8) 68):=λd=>by rw[AEi];exact TH c (QT (k+d+5)) (Hu (k+d+4)) (f d) (by decide)
 have h:∀d,QP T (TW E (k+d+9) 34):=λd=>by rw[AE8];exact dK (Kz (k+d+7)) (UX (k+d+7)) (QT (k+d+6)) (Ir (k+d+7)) (Hu (k+d+5)) (AAM (k+d+3)) (kD (k+d+4)) (AAR (k+d+4)) (g d) (e (d+2))
 have ty:∀d,Fs (O3 T) (TW E (k+d+10) 17):=λd=>by rw[so];exact Uh c (Kz (k+d+8)) (kE (k+d+8)) (Ir (k+d+8)) (QT (k+d+7)) (NB (k+d+6)) (Hu (k+d+6)) (λ_=>h d)
 exact ty
theorem WU:∀q d,Fs (Jn (q+1)) (TW E (4*q+d+6) 17)
 | 0,d=>by rw[show 4*0+d+6=d+5+1 by omega,so];exact Uh (GM 0) (Kz (d+4)) (kE (d+4)) (Ir (d+4)) (QT (d+3)) (NB (d+2)) (Hu (d+2)) (λh=>absurd h (by decide))
 | q+1,d=>by rw[show 4*(q+1)+d+6=4*q+d+10 by omega];exact kA (GM (q+1)) (4*q) (WU q) d
theorem Yu d:Fs (Jn 18) (TW E (d+74) 17):=by rw[show d+74=4*17+d+6 by omega];exact WU 17 d
theorem Yv d:Lw E 600000 (TW E (d+75) 7):=by rw[DE7];exact Wk (GM 18) (by unfold JN;rfl) (tq (d+69)) (Kz (d+73)) (NC (d+72)) (QT (d+72)) (Ir (d+73)) (Hu (d+71)) (Yu d) rfl (by decide)
theorem xAw d U (c:CI U)(b:KF E U):PD (TW E (d+133) 5) [] U:=by rw[DE5];exact AIV (QV d) U c b
theorem ZH d U s b (e:CI U)(c:KF E U):PD (TW E (d+134) 4) [.str s,.int .i64 b] U:=by rw[DE4];exact vx (by decide) (QV (d+1)) (Yv (d+58)) (tq (d+128)) (xAw d) U s b e c
end
def E5(a:TypeId):EB:=[(0,.cells (WR EP)),(1,.cells (WR E9)),(3,.cells [.ifc a (.ptr 60 0)])]
theorem OQ a:KF (E5 a) ⟨100,[]⟩:=⟨AL _,rfl,rfl,rfl,rfl⟩
theorem AA6 b:DB Tryz.prog (E5 b) glob 77 (MU lg):=S5 rfl
theorem VN a s b:okB (F4 (E5 a) (TW (E5 a) 133) (AZ (E5 a) (TW (E5 a) 133)) 600000 [.str s,.int .i64 b] ⟨100,[]⟩)=true:=by
 have f:CI ⟨100,[]⟩:=λ_ _=>rfl;obtain⟨U',g,_⟩:=ZH 0 ⟨100,[]⟩ s b f (OQ a);have h:F4 (E5 a) (TW (E5 a) 133) (AZ (E5 a) (TW (E5 a) 133)) 600000 [.str s,.int .i64 b] ⟨100,[]⟩=some (.bool true,U'):=by
  have e:=DE4 (E5 a) 133;rw[e]at g;exact g
 rw[h];rfl
end
end Go.Proofs.YtnpcmeaplmfdlaaGreatDoor
namespace Go.Proofs.YtnpcmeaplmfdlaaGreatDoor
open Go Go.Og Go.Lib
noncomputable section
theorem Lj {W:World} (h:laidMet Tryz.prog [("unicode/utf8.first",tabData .u8 (EP.map AA))] W) i (k:i<256):W.cell? ⟨0,0+i,none⟩=some (.int .u8 (AA (EP.getD i 0))):=by
 have f:=tabIs_of_head (g:=0) (by kernel_rfl) (by kernel_rfl) Tryz.underlying131 Tryz.underlying5 (by kernel_rfl) (by kernel_rfl) h;have l:EP.length=256:=by decide +kernel
 have j:=f.cell (g:=0) (by kernel_rfl) i (by rw[DD];omega);rw[BQ,j];rw[A1,BR,AV (by omega),A1,AV (by omega)];rfl
def oW:DataW Unit := .agg ((Fz 16).map λi => .agg ([AA (E9.getD (2*i) 0),AA (E9.getD (2*i+1) 0)].map λz => .lit (.int .u8 z)))
theorem On {W:World} (h:VarReads Tryz.prog W "unicode/utf8.acceptRanges" oW) i (hi:i<32):W.cell? ⟨1,0+i,none⟩=some (.int .u8 (AA (E9.getD i 0))):=by
  obtain⟨g,t,I,fuel,p,hg,G,x,hd⟩:=h;have C:Tryz.prog.globalNamed "unicode/utf8.acceptRanges" = some 1:=by kernel_rfl
  obtain rfl:=AP.inj (C.symm.trans hg);have E:(Tryz.prog.globals[1]?).map (·.type)=some 134:=by kernel_rfl
  obtain rfl:=AP.inj (E.symm.trans G);have u:Tryz.prog.cellsOf 133=2:=by kernel_rfl
  have A:Tryz.prog.cellsOf 5=1:=by kernel_rfl
  have z:∀k,k<16->I[2*k]? = some (.int .u8 (AA (E9.getD (2*k) 0)))/\I[2*k+1]? = some (.int .u8 (AA (E9.getD (2*k+1) 0))):=by
    intro k hk;obtain⟨B,d,q,y,he⟩:=array_elem Tryz.underlying134 hd k hk;simp only[BR,O2 hk,CH,AP.injEq]at y;subst y;rw[u]at he;have v:=ints_of_struct Tryz.underlying133 (λj f o=>by
      match j,o with
      | 0,o=>simp at o;subst o;exact⟨Tryz.underlying5,rfl,A⟩ | 1,o=>simp at o;subst o;exact⟨Tryz.underlying5,rfl,A⟩ | j+2,o=>simp at o) (by rw[u];rfl) he
    have e0:=congrArg (·[0]?) v;have e1:=congrArg (·[1]?) v;simp only[CY,CD]at e0 e1;rw[<-ET,<-ET];constructor
    · simpa[OI]using e0
    · simpa[OI]using e1
  rw[BQ,World.var?_cell hg x i];obtain⟨k,rfl|rfl⟩:∃k,i=2*k\/i=2*k+1:=⟨i / 2,by omega⟩
  · exact(z k (by omega)).1
  · exact(z k (by omega)).2
theorem WZ : "*" ++ "errors.errorString" = "*errors.errorString" := by decide
theorem Y7 u (h:Tryz.prog.typeName? 3 u=some "*errors.errorString"):u=164:=
 typeName_ptr_named (by rw[WZ];kernel_rfl) (by kernel_rfl) (by decide) u (by rw[WZ];exact h)
theorem RJ {W:World}{text} (h:laidMet Tryz.prog [("strconv.ErrRange",.iface "*errors.errorString" (.ptr (.agg [.lit (.string text)])))] W):∃a s,W.cell? ⟨3,0,none⟩=some (.iface 164 (.pointer (some a)))/\W.cell? a=some (.string s):=by
 obtain⟨a,s,i,f,_,_⟩:=laid_sentinel (g:=3) h (by kernel_rfl) (by kernel_rfl) Tryz.underlying117 Y7 Tryz.underlying164 Tryz.underlying166 rfl rfl Tryz.underlying9 (by kernel_rfl) (by kernel_rfl);refine⟨a,s,?_,f⟩;rw[World.var?_cell (by kernel_rfl) i 0];rfl
theorem ABT{w:World}{e off}(h0:∀i,i<256->w.cell? ⟨0,0+i,none⟩=some (.int .u8 (AA (EP.getD i 0))))(h1:∀i,i<32->w.cell? ⟨1,0+i,none⟩=some (.int .u8 (AA (E9.getD i 0))))
  (h3:w.cell? ⟨3,0,none⟩=some (.iface 164 (.pointer (some ⟨e,off,none⟩)))):∀id b,Go.Og.look (E5 164) id=some b->∃i,Ki 7 [(60,⟨e,off,0⟩)] id=some i/\Hb (Ki 7 [(60,⟨e,off,0⟩)]) i b w:=by
 have s:WR EP=(Fz 256).map λi => .int .u8 (AA (EP.getD i 0)):=by kernel_rfl
 have e1:WR E9=(Fz 32).map λi => .int .u8 (AA (E9.getD i 0)):=by kernel_rfl
 have x0:Hb (Ki 7 [(60,⟨e,off,0⟩)]) ⟨0,0,0⟩ (.cells (WR EP)) w:=by rw[s];exact J6 (λi=>⟨rfl,rfl⟩) h0 (by decide)
 have x1:Hb (Ki 7 [(60,⟨e,off,0⟩)]) ⟨1,0,0⟩ (.cells (WR E9)) w:=by rw[e1];exact J6 (λi=>⟨rfl,rfl⟩) h1 (by decide)
 have x3:Hb (Ki 7 [(60,⟨e,off,0⟩)]) ⟨3,0,0⟩ (.cells [.ifc 164 (.ptr 60 0)]) w:=
  J6 (len:=1) (f:=λ_ => .ifc 164 (.ptr 60 0)) (g:=λ_ => .iface 164 (.pointer (some ⟨e,off,none⟩))) (λi=>⟨rfl,rfl⟩) (λi hi=>by
   have:i=0:=by omega
   subst this;exact h3) (by decide)
 intro id b l;unfold E5 at l;simp only[Go.Og.look]at l;split at l
 ·rename_i m
  have:=CJ m;subst this;cases l;exact⟨⟨0,0,0⟩,rfl,x0⟩
 ·split at l
  ·rename_i m
   have:=CJ m;subst this;cases l;exact⟨⟨1,0,0⟩,rfl,x1⟩
  ·split at l
   ·rename_i m
    have:=CJ m;subst this;cases l;exact⟨⟨3,0,0⟩,rfl,x3⟩
   ·cases l
theorem kZ(n:ByteArray) p (w:World)(A:∀i,i<256->w.cell? ⟨0,0+i,none⟩=some (.int .u8 (AA (EP.getD i 0))))(y:∀i,i<32->w.cell? ⟨1,0+i,none⟩=some (.int .u8 (AA (E9.getD i 0))))
  {a s} (x:w.cell? ⟨3,0,none⟩=some (.iface 164 (.pointer (some a)))) (m:w.cell? a=some (.string s)):Calls Tryz.prog 4 #[.string n,.int .i64 p] w λe w'=>e = .returned (.bool true)/\RowKit.Below w.heap.size w w':=by
 obtain⟨r,off,u⟩:=a;obtain rfl:u=none:=by
  cases u with
  | none=>rfl | some q=>
   exfalso;simp[World.cell?]at m;split at m<;>cases m
 exact Q2 (SFl (E5 164) (TW (E5 164) 133) (oa (E5 164) (AA6 164) 133) 600000) nM (by decide:7<=100) [(60,⟨r,off,0⟩)] [.str (BS.ofList n.data.toList),.int .i64 p] [.string n,.int .i64 p] w
  (fun id i h=>by
   simp only[Go.Og.look]at h;split at h
   ·rename_i z
    have:=CJ z;omega
   ·cases h) (ABT A y x) (by simp[BL,BE,BS.toList_ofList]) (VN 164 _ _)
end
end Go.Proofs.YtnpcmeaplmfdlaaGreatDoor
