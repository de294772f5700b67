/- What the last text leans on, part 5 of 7: merged out of smaller texts. No condition. -/
import Derived.Test.YtgblfbajgpboiaaGreatDoorProg
import Derived.Deep.Slices
import Derived.Carry
import Derived.Test.YtgblfbajgpboiaaGreatDoorQ3
open Int renaming ofNat -> AA,negSucc -> Az,fdiv_eq_ediv_of_nonneg -> ABd
open Nat renaming reduceEqDiff -> AB,reduceLeDiff -> AD,reduceLT -> AE,le_refl -> AK,add -> AP,ble_eq -> Ac,ble -> Ag,beq -> Ak,lt_or_ge -> Av,zero_add -> BA,le_trans -> Bc,eq_of_beq_eq_true -> Bo,blt_eq -> Bu,blt -> B2,mul_one -> B8,mod_eq_of_lt -> CY,not_lt_zero -> Cw,lt_irrefl -> C7,zero_le -> DZ,add_assoc -> D3,le_succ -> EM,min_eq_left -> Em,min -> Ex,lt_of_lt_of_le -> E3,beq_refl -> F9,le_add_right -> GF,add_sub_cancel_left -> IL,add_zero -> JH,mul -> Ma,mod_lt -> QI,add_eq -> QK,testBit_or -> Tt,sub_zero -> Tu,add_mul -> fN,testBit_two_pow_self -> AOO
open Bool renaming and_eq_true -> AG,and_true -> A8,or_eq_false_iff -> Bd,or_eq_true -> Bk,true_and -> Co,not_eq_true' -> C8,false_eq_true -> DE,false_or -> Dc,not_true -> E9,not_false -> FJ,eq_iff_iff -> Fg,not_eq_true -> Mb,or_true -> tO,false_and -> ABe,and_false -> ABf
open List renaming getElem?_eq_getElem -> AM,length_cons -> AN,length_append -> AS,getElem?_eq_some_iff -> AY,mem_cons_self -> Ab,getElem?_map -> Aw,mem_cons -> Ax,getElem?_eq_none -> BF,mem_cons_of_mem -> BM,length_nil -> BQ,getD_eq_getElem?_getD -> BT,eq_nil_of_length_eq_zero -> BW,length_take -> BY,getElem?_cons_succ -> Bb,getElem?_drop -> Bm,map_cons -> B3,length_drop -> CA,length_map -> CD,drop_drop -> CJ,mem_singleton -> Cn,drop_eq_getElem_cons -> DB,append_assoc -> DN,range -> Da,all_eq_true -> Dk,append_nil -> EC,take_length -> EN,not_mem_nil -> E5,drop_zero -> FI,nil_append -> Ff,mem_map -> GA,getElem?_take -> Gg,map_nil -> HJ,length -> HK,ext_getElem? -> HL,drop_take -> Ln,drop_eq_nil_of_le -> Tx,take_append_drop -> WW,mem_of_mem_drop -> fO,forall_mem_cons -> fP,flatMap_append -> oq,take_take -> ABZ,drop_left -> ABc
open Option renaming some -> AQ,bind_eq_some_iff -> AV,map_eq_some_iff -> Aa,map_some -> CC
open And renaming intro -> Aj
open BitVec renaming ofInt -> BG
set_option linter.all false
set_option maxRecDepth 100000
set_option maxHeartbeats 0
namespace Go.Proofs.YtgblfbajgpboiaaGreatDoor
open Go Go.Og
noncomputable section
def glob:Nat->Bool:=fun g=>B2 g 2
theorem follows:Tryz.prog.follows .mixedOrders=true:=by kernel_rfl
def Is (f:Nat) (A:Dv):Prop:=∃fn,Tryz.prog.funcs[f]? = some fn/\MO Tryz.prog glob fn=some A.strip/\A.body.ok=true/\JB Tryz.prog f=true
theorem Is.sound {f:Nat} {A:Dv} (h:Is f A) (E:EB) (D:Ai) (hD:∀f,Ce Tryz.prog E glob f (D f)) (N:Nat):Ce Tryz.prog E glob f (B9 E D (AT E D) N A):=
 let ⟨_,h1,h2,h3,h4⟩:=h
 pe hD (VH hD follows) follows N h1 h2 rfl h3 h4
theorem Is.sf {f:Nat} {A:Dv} (h:Is f A) {E:EB} {D:Ai} (hD:∀f,Ce Tryz.prog E glob f (D f)) {N:Nat} {F:List V->H->AF} (he:∀args U,B9 E D (AT E D) N A args U=F args U):Ce Tryz.prog E glob f F:=by
 have h1:=h.sound E D hD N
 rwa [show B9 E D (AT E D) N A=F from funext fun a=>funext fun s=>he a s]at h1
abbrev EF (f:Nat) (F:EB->Ai->AH->Nat->List V->H->AF):Prop:=∀(E:EB) (D:Ai),(∀f,Ce Tryz.prog E glob f (D f))->∀N,Ce Tryz.prog E glob f (F E D (AT E D) N)
noncomputable def tab:List (Nat × Func):=[(5,Tryz.f5)]
theorem wx:∀p∈tab,Tryz.prog.funcs[p.1]? = some p.2/\JB Tryz.prog p.1=true:=by
 unfold tab
 simp only[fP]
 exact⟨⟨Tryz.func5,by kernel_rfl⟩,fun _ h=>by cases h⟩
def iM:List (Nat × Func)->Nat->Option Func:=fun l n=>List.rec none (fun p _ ih=>match Ak p.1 n with | true=>some p.2 | false=>ih) l
theorem Qt:∀(l:List (Nat × Func)) (n:Nat) (g:Func),iM l n=some g->(n,g)∈l
 | [],n,g,h=>by cases h
 | p::l,n,g,h=>by
  have h':(match Ak p.1 n with | true=>some p.2 | false=>iM l n)=some g:=h
  cases hb:Ak p.1 n with
  | true=>
   rw[hb]at h'
   simp only[AQ.injEq]at h'
   have:=Bo hb
   subst this;subst h'
   exact Ab
  | false=>
   rw[hb]at h'
   exact BM _ (Qt l n g h')
theorem VL (P:Program) (G:Nat->Bool) (n:Nat) (c:Code):(CV P G n c).strip=CV P G n c:=by
 fun_induction CV P G n c<;>simp_all[AC.strip]
theorem VK {P:Program} {G:Nat->Bool} {fn:Func} {a:fL} (h:MO P G fn=some a):a.strip=a:=by
 unfold MO at h
 split at h
 ·cases h
  unfold fL.strip
  rw[VL]
 ·cases h
theorem CL {f:Nat} {fn:Func} {A:Dv} {F:EB->Ai->AH->Nat->List V->H->AF} (h1:Tryz.prog.funcs[f]? = some fn) (h2:MO Tryz.prog glob fn=some A.strip) (h3:(A.body.ok&&JB Tryz.prog f)=true) (he:∀E D W N args U,B9 E D W N A args U=F E D W N args U):EF f F:=fun E D hD N=>by
 rw[AG]at h3
 exact Is.sf (A:=A) ⟨fn,h1,h2,h3.1,h3.2⟩ hD (he E D (AT E D) N)
theorem SF4:EF 4 F4:=CL Tryz.func4 (by kernel_rfl) (by kernel_rfl) FE4
theorem SF6:EF 6 F6:=CL Tryz.func6 (by kernel_rfl) (by kernel_rfl) FE6
theorem SF7:EF 7 F7:=CL Tryz.func7 (by kernel_rfl) (by kernel_rfl) FE7
theorem AL2:EF 10 F10:=CL Tryz.func10 (by kernel_rfl) (by kernel_rfl) ANC
theorem AL1:EF 11 F11:=CL Tryz.func11 (by kernel_rfl) (by kernel_rfl) ANB
theorem AL0:EF 12 F12:=CL Tryz.func12 (by kernel_rfl) (by kernel_rfl) ANA
theorem ALz:EF 13 F13:=CL Tryz.func13 (by kernel_rfl) (by kernel_rfl) AM9
theorem ALy:EF 14 F14:=CL Tryz.func14 (by kernel_rfl) (by kernel_rfl) AM8
theorem ALx:EF 16 F16:=CL Tryz.func16 (by kernel_rfl) (by kernel_rfl) AM7
theorem ALw:EF 17 F17:=CL Tryz.func17 (by kernel_rfl) (by kernel_rfl) AM6
theorem ALv:EF 18 F18:=CL Tryz.func18 (by kernel_rfl) (by kernel_rfl) AM5
theorem ALu:EF 19 F19:=CL Tryz.func19 (by kernel_rfl) (by kernel_rfl) AM4
theorem ALt:EF 20 F20:=CL Tryz.func20 (by kernel_rfl) (by kernel_rfl) AM3
theorem ALs:EF 21 F21:=CL Tryz.func21 (by kernel_rfl) (by kernel_rfl) AM2
theorem ALr:EF 22 F22:=CL Tryz.func22 (by kernel_rfl) (by kernel_rfl) AM1
theorem ALq:EF 23 F23:=CL Tryz.func23 (by kernel_rfl) (by kernel_rfl) AM0
theorem ALp:EF 25 F25:=CL Tryz.func25 (by kernel_rfl) (by kernel_rfl) AMz
theorem ALo:EF 26 F26:=CL Tryz.func26 (by kernel_rfl) (by kernel_rfl) AMy
theorem ALn:EF 27 F27:=CL Tryz.func27 (by kernel_rfl) (by kernel_rfl) AMx
theorem ALm:EF 30 vZ:=CL Tryz.func30 (by kernel_rfl) (by kernel_rfl) AMw
theorem ALl:EF 31 F31:=CL Tryz.func31 (by kernel_rfl) (by kernel_rfl) AMv
theorem ALk:EF 32 F32:=CL Tryz.func32 (by kernel_rfl) (by kernel_rfl) AMu
theorem ALj:EF 33 F33:=CL Tryz.func33 (by kernel_rfl) (by kernel_rfl) AMt
theorem ALi:EF 34 F34:=CL Tryz.func34 (by kernel_rfl) (by kernel_rfl) AMs
theorem ALh:EF 35 vY:=CL Tryz.func35 (by kernel_rfl) (by kernel_rfl) AMr
theorem ALg:EF 36 F36:=CL Tryz.func36 (by kernel_rfl) (by kernel_rfl) AMq
theorem ALf:EF 37 F37:=CL Tryz.func37 (by kernel_rfl) (by kernel_rfl) AMp
theorem ALe:EF 38 F38:=CL Tryz.func38 (by kernel_rfl) (by kernel_rfl) AMo
theorem ALd:EF 39 F39:=CL Tryz.func39 (by kernel_rfl) (by kernel_rfl) AMn
theorem ALc:EF 40 F40:=CL Tryz.func40 (by kernel_rfl) (by kernel_rfl) AMm
theorem ALb:EF 41 F41:=CL Tryz.func41 (by kernel_rfl) (by kernel_rfl) AMl
theorem ALa:EF 42 F42:=CL Tryz.func42 (by kernel_rfl) (by kernel_rfl) AMk
theorem ALZ:EF 43 F43:=CL Tryz.func43 (by kernel_rfl) (by kernel_rfl) AMj
theorem ALY:EF 44 F44:=CL Tryz.func44 (by kernel_rfl) (by kernel_rfl) AMi
theorem ALX:EF 45 F45:=CL Tryz.func45 (by kernel_rfl) (by kernel_rfl) AMh
theorem ALW:EF 47 F47:=CL Tryz.func47 (by kernel_rfl) (by kernel_rfl) AMg
theorem ALV:EF 48 F48:=CL Tryz.func48 (by kernel_rfl) (by kernel_rfl) AMf
theorem ALU:EF 49 F49:=CL Tryz.func49 (by kernel_rfl) (by kernel_rfl) AMe
theorem ALT:EF 51 F51:=CL Tryz.func51 (by kernel_rfl) (by kernel_rfl) AMd
theorem ALS:EF 52 F52:=CL Tryz.func52 (by kernel_rfl) (by kernel_rfl) AMc
theorem ALR:EF 56 F56:=CL Tryz.func56 (by kernel_rfl) (by kernel_rfl) AMb
theorem ALQ:EF 57 F57:=CL Tryz.func57 (by kernel_rfl) (by kernel_rfl) AMa
theorem ALP:EF 58 F58:=CL Tryz.func58 (by kernel_rfl) (by kernel_rfl) AMZ
theorem ALO:EF 59 F59:=CL Tryz.func59 (by kernel_rfl) (by kernel_rfl) AMY
theorem ALN:EF 60 F60:=CL Tryz.func60 (by kernel_rfl) (by kernel_rfl) AMX
theorem ALM:EF 61 F61:=CL Tryz.func61 (by kernel_rfl) (by kernel_rfl) AMW
theorem ALL:EF 62 F62:=CL Tryz.func62 (by kernel_rfl) (by kernel_rfl) AMV
theorem ALK:EF 63 F63:=CL Tryz.func63 (by kernel_rfl) (by kernel_rfl) AMU
theorem ALJ:EF 64 F64:=CL Tryz.func64 (by kernel_rfl) (by kernel_rfl) AMT
theorem ALI:EF 65 F65:=CL Tryz.func65 (by kernel_rfl) (by kernel_rfl) AMS
theorem ALH:EF 66 F66:=CL Tryz.func66 (by kernel_rfl) (by kernel_rfl) AMR
theorem ALG:EF 67 F67:=CL Tryz.func67 (by kernel_rfl) (by kernel_rfl) AMQ
theorem ALF:EF 68 F68:=CL Tryz.func68 (by kernel_rfl) (by kernel_rfl) AMP
theorem ALE:EF 69 F69:=CL Tryz.func69 (by kernel_rfl) (by kernel_rfl) AMO
theorem ALD:EF 72 F72:=CL Tryz.func72 (by kernel_rfl) (by kernel_rfl) AMN
theorem ALC:EF 73 F73:=CL Tryz.func73 (by kernel_rfl) (by kernel_rfl) AMM
theorem ALB:EF 77 F77:=CL Tryz.func77 (by kernel_rfl) (by kernel_rfl) AML
theorem ALA:EF 79 F79:=CL Tryz.func79 (by kernel_rfl) (by kernel_rfl) AMK
theorem AK9:EF 80 F80:=CL Tryz.func80 (by kernel_rfl) (by kernel_rfl) AMJ
theorem AK8:EF 82 F82:=CL Tryz.func82 (by kernel_rfl) (by kernel_rfl) AMI
theorem AK7:EF 83 F83:=CL Tryz.func83 (by kernel_rfl) (by kernel_rfl) AMH
theorem AK6:EF 90 F90:=CL Tryz.func90 (by kernel_rfl) (by kernel_rfl) AMG
theorem AK5:EF 93 F93:=CL Tryz.func93 (by kernel_rfl) (by kernel_rfl) AMF
theorem AK4:EF 94 F94:=CL Tryz.func94 (by kernel_rfl) (by kernel_rfl) AME
theorem AK3:EF 95 F95:=CL Tryz.func95 (by kernel_rfl) (by kernel_rfl) AMD
theorem AK2:EF 96 F96:=CL Tryz.func96 (by kernel_rfl) (by kernel_rfl) AMC
theorem AK1:EF 97 F97:=CL Tryz.func97 (by kernel_rfl) (by kernel_rfl) AMB
theorem AK0:EF 98 F98:=CL Tryz.func98 (by kernel_rfl) (by kernel_rfl) AMA
theorem AFV:EF 100 oH:=CL Tryz.func100 (by kernel_rfl) (by kernel_rfl) AHX
theorem AFU:EF 103 fJ:=CL Tryz.func103 (by kernel_rfl) (by kernel_rfl) AHW
theorem AFT:EF 111 fI:=CL Tryz.func111 (by kernel_rfl) (by kernel_rfl) AHV
theorem AFS:EF 116 fH:=CL Tryz.func116 (by kernel_rfl) (by kernel_rfl) AHU
theorem AFR:EF 117 X6:=CL Tryz.func117 (by kernel_rfl) (by kernel_rfl) AHT
theorem AFQ:EF 118 fG:=CL Tryz.func118 (by kernel_rfl) (by kernel_rfl) AHS
theorem AFP:EF 120 oG:=CL Tryz.func120 (by kernel_rfl) (by kernel_rfl) AHR
theorem AFO:EF 124 fF:=CL Tryz.func124 (by kernel_rfl) (by kernel_rfl) AHQ
theorem AFN:EF 130 oE:=CL Tryz.func130 (by kernel_rfl) (by kernel_rfl) AHP
theorem AFM:EF 131 fE:=CL Tryz.func131 (by kernel_rfl) (by kernel_rfl) AHO
theorem AFL:EF 133 oD:=CL Tryz.func133 (by kernel_rfl) (by kernel_rfl) AHN
theorem AFK:EF 134 oC:=CL Tryz.func134 (by kernel_rfl) (by kernel_rfl) AHM
theorem AFJ:EF 136 fD:=CL Tryz.func136 (by kernel_rfl) (by kernel_rfl) AHL
theorem AFI:EF 137 fC:=CL Tryz.func137 (by kernel_rfl) (by kernel_rfl) AHK
theorem AFH:EF 138 fB:=CL Tryz.func138 (by kernel_rfl) (by kernel_rfl) AHJ
theorem AFG:EF 142 fA:=CL Tryz.func142 (by kernel_rfl) (by kernel_rfl) AHI
theorem AFF:EF 144 e9:=CL Tryz.func144 (by kernel_rfl) (by kernel_rfl) AHH
noncomputable def xm:List (Nat × (EB->Ai->AH->Nat->List V->H->AF)):=[(4,F4),(6,F6),(7,F7),(10,F10),(11,F11),(12,F12),(13,F13),(14,F14),(16,F16),(17,F17),(18,F18),(19,F19),(20,F20),(21,F21),(22,F22),(23,F23),(25,F25),(26,F26),(27,F27),(30,vZ),(31,F31),(32,F32),(33,F33),(34,F34),(35,vY),(36,F36),(37,F37),(38,F38),(39,F39),(40,F40),(41,F41),(42,F42),(43,F43),(44,F44),(45,F45),(47,F47),(48,F48),(49,F49),(51,F51),(52,F52),(56,F56),(57,F57),(58,F58),(59,F59),(60,F60),(61,F61),(62,F62),(63,F63),(64,F64),(65,F65),(66,F66),(67,F67),(68,F68),(69,F69),(72,F72),(73,F73),(77,F77),(79,F79),(80,F80),(82,F82),(83,F83),(90,F90),(93,F93),(94,F94),(95,F95),(96,F96),(97,F97),(98,F98),(100,oH),(103,fJ),(111,fI),(116,fH),(117,X6),(118,fG),(120,oG),(124,fF),(130,oE),(131,fE),(133,oD),(134,oC),(136,fD),(137,fC),(138,fB),(142,fA),(144,e9)]
noncomputable def BD (E:EB) (N:Nat) (D:Ai):Ai:=fun f=>match BU xm f with
 | some g=>g E D (AT E D) N
 | none=>match iM tab f with
  | some g=>(match MO Tryz.prog glob g with | some a=>gT E D (AT E D) N a | none=>fun _ _=>none)
  | none=>fun _ _=>none
theorem oW (E:EB) (N:Nat) (D:Ai) (hD:∀f,Ce Tryz.prog E glob f (D f)) (f:FuncId):Ce Tryz.prog E glob f (BD E N D f):=by
 have hall:∀p∈xm,EF p.1 p.2:=by
  unfold xm
  simp only[fP]
  exact⟨SF4,SF6,SF7,AL2,AL1,AL0,ALz,ALy,ALx,ALw,ALv,ALu,ALt,ALs,ALr,ALq,ALp,ALo,ALn,ALm,ALl,ALk,ALj,ALi,ALh,ALg,ALf,ALe,ALd,ALc,ALb,ALa,ALZ,ALY,ALX,ALW,ALV,ALU,ALT,ALS,ALR,ALQ,ALP,ALO,ALN,ALM,ALL,ALK,ALJ,ALI,ALH,ALG,ALF,ALE,ALD,ALC,ALB,ALA,AK9,AK8,AK7,AK6,AK5,AK4,AK3,AK2,AK1,AK0,AFV,AFU,AFT,AFS,AFR,AFQ,AFP,AFO,AFN,AFM,AFL,AFK,AFJ,AFI,AFH,AFG,AFF,fun _ h=>by cases h⟩
 unfold BD
 split
 ·rename_i g hg
  rw[A5]at hg
  exact hall _ (Gq hg) E _ hD N
 ·split
  ·rename_i g hg
   have hq:=wx _ (Qt _ _ _ hg)
   split
   ·rename_i a ha
    exact gS hD (VH hD follows) N hq.1 ha (VK ha) hq.2
   ·intro C _ _ R U w args xs v U' h;cases h
  ·intro C _ _ R U w args xs v U' h;cases h
def DT (E:EB) (N:Nat) (d:Nat):Ai:=Nat.rec (fun _ _ _=>none) (fun _ ih=>BD E N ih) d
theorem AH1 (E:EB) (N:Nat):∀(d:Nat) (f:FuncId),Ce Tryz.prog E glob f (DT E N d f):=by
 intro d
 induction d with
 | zero=>intro f C _ _ R U w args xs v U' h;cases h
 | succ d ih=>exact oW E N _ ih
theorem Wt:∀g,glob g=true->g<2:=fun g hg=>by simpa[glob]using hg
end
end Go.Proofs.YtgblfbajgpboiaaGreatDoor
namespace Go.Og
noncomputable section
theorem II {a b:Nat} (h:a<=b):Ag a b=true:=by rw[Ac];exact h
def CQ (U:H) (b:Nat) (l:List V):Prop:=BU U.bl b=some (.cells l)
def Ar (U:H):Prop:=∀b,U.next<=b->BU U.bl b=none
structure Fr (S:Nat->Prop) (U U':H):Prop where
 tidy:Ar U'
 le:U.next<=U'.next
 same:∀b,b<U.next->¬S b->BU U'.bl b=BU U.bl b
def AL:Nat->Prop:=fun _=>False
def AJ (v:V) (b:Nat):Prop:=match v with
 | .sl b' _ _ _=>b=b'
 | _=>False
section
variable {E:EB} {U U' U'':H} {b b':Nat} {l m:List V} {S T:Nat->Prop}
theorem CQ.lt (h:CQ U b l) (ht:Ar U):b<U.next:=by
 rcases Av b U.next with hl|hl
 ·exact hl
 ·have:=ht b hl;rw[show BU U.bl b=some (.cells l)from h]at this;cases this
theorem Fr.refl (ht:Ar U):Fr S U U:=⟨ht,AK _,fun _ _ _=>rfl⟩
theorem Fr.mono (h:Fr S U U') (hs:∀b,b<U.next->S b->T b):Fr T U U':=⟨h.tidy,h.le,fun b hb hn=>h.same b hb fun hS=>hn (hs b hb hS)⟩
theorem Fr.trans (h:Fr S U U') (k:Fr T U' U'') (hT:∀b,b<U.next->T b->S b):Fr S U U'':=
 ⟨k.tidy,Bc h.le k.le,fun b hb hn=>(k.same b (E3 hb h.le) fun hT'=>hn (hT b hb hT')).trans (h.same b hb hn)⟩
theorem Fr.at_ (h:Fr S U U') (ha:CQ U b l) (ht:Ar U) (hn:¬S b):CQ U' b l:=(h.same b (ha.lt ht) hn).trans ha
theorem LO (c:GM) (k:Nat):BU (GP U b c).bl k=if b=k then some c else BU U.bl k:=by
 rw[A5,A5];exact Qr U b c k
theorem WT (m:List V):CQ (GP U b (.cells m)) b m:=by
 show BU _ _=_
 rw[LO,if_pos rfl]
theorem Fr.set (ht:Ar U) (hb:b<U.next) (c:GM):Fr (fun k=>k=b) U (GP U b c):=by
 refine⟨fun k hk=>?_,AK _,fun k hk hn=>?_⟩
 ·have hk':U.next<=k:=hk
  rw[LO,if_neg (by omega)];exact ht k hk'
 ·rw[LO,if_neg (fun h=>hn h.symm)]
theorem Gz (l:List V):CQ (Br U (.cells l)) U.next l:=by
 show BU ((U.next,GM.cells l)::U.bl) _=_
 rw[Au,if_pos rfl]
theorem Fr.new (ht:Ar U) (c:GM):Fr S U (Br U c):=by
 refine⟨fun k hk=>?_,EM _,fun k hk hn=>?_⟩
 ·have hk':U.next+1<=k:=hk
  show BU ((U.next,c)::U.bl) _=_
  rw[Au,if_neg (by omega)];exact ht k (by omega)
 ·show BU ((U.next,c)::U.bl) _=_
  rw[Au,if_neg (by omega)]
theorem SQ {J:List V->AF} (h:CQ U b l):gh E U b J=J l:=by unfold gh;rw[show BU U.bl b=some (.cells l)from h]
theorem OA {J:V->AF} {o:Nat} {v:V} (h:qR l o=some v):JY l o J=J v:=by unfold JY;rw[h]
theorem xd {J:V->AF} {o:Nat} {v:V} (h:CQ U b l) (hv:qR l o=some v):EG E U b o J=J v:=(SQ h).trans (OA hv)
theorem I4 {J:V->AF} {o:Nat} {v:V} (h:CQ U b l) (hv:l[o]? = some v):EG E U b o J=J v:=xd h (by rw[L6];exact hv)
theorem D6 {J:List V->AF} {o n:Nat} (h:o+n<=l.length):EI l o n J=J ((l.drop o).take n):=by
 unfold EI;rw[show Ag (AP o n) l.length=true from II h]
theorem FP {c:Bool} {a:AF} (h:c=true):GK c a=a:=by rw[h];rfl
theorem ER {J:H->AF} {n o:Nat} {v:V} (h:CQ U b l) (hc:(Ak v.cells.length n&&Ag (AP o n) l.length&&An v.cells)=true):DX n b o v U J=J (GP U b (.cells (FC l o v.cells))):=by
 unfold DX;rw[show BU U.bl b=some (.cells l)from h];exact FP hc
theorem C5 (m n:Nat):Ci (AA m) (AA n)=decide (m<n):=by
 rw[iL];simp
theorem OC (m n:Nat):I3 (AA m) (AA n)=decide (m<=n):=by
 rw[iR];simp
theorem KX (m n:Nat):Bt (AA m) (AA n)=decide (m=n):=by
 rw[Se];rw[Fg];simp only[beq_iff_eq,decide_eq_true_eq];exact⟨fun h=>AA.inj h,fun h=>by rw[h]⟩
theorem BZ {k:IntKind} {m:Nat} (h:m<=Ms k):BE k (AA m)=AA m:=
 (DO _ _).trans (SE (show Ag m (Ms k)=true from II h))
theorem A3 {m n:Nat} (h:m+n<=9223372036854775807):Ba .i64 (AA m) (AA n)=AA (m+n):=by
 exact BZ (k := .i64) (m:=m+n) h
theorem Fs {m n:Nat} (h:n<=m) (hm:m<=9223372036854775807):Dp .i64 (AA m) (AA n)=AA (m-n):=by
 have e:Int.sub (AA m) (AA n)=AA (m-n):=by
  show (m:Int)-(n:Int)=((m-n:Nat):Int)
  omega
 show BE .i64 (Int.sub (AA m) (AA n))=_
 rw[e]
 exact BZ (k := .i64) (show m-n<=9223372036854775807 by omega)
theorem Ut {s:BS} {i:Nat} {J:Int->AF} (h:i<s.len):Cv s (AA i) J=J (AA (s.get i)):=by
 show GK (B2 i s.len) _=_
 exact FP (by simpa[Bu]using h)
theorem Jn {s:BS} {i:Nat} {J:BS->AF} (h:i<=s.len):C3 s (some (.int .i64 (AA i))) none J=J (s.sub i s.len):=by
 show GK (Ag i s.len&&Ag s.len s.len) _=_
 exact FP (by simp[Ac,h])
theorem SI {s:BS} {i:Nat} {J:BS->AF} (h:i<=s.len):C3 s none (some (.int .i64 (AA i))) J=J (s.sub 0 i):=by
 show GK (Ag 0 i&&Ag i s.len) _=_
 exact FP (by simp[Ac,h])
theorem He {s:BS} {i j:Nat} {J:BS->AF} (h:i<=j) (hj:j<=s.len):C3 s (some (.int .i64 (AA i))) (some (.int .i64 (AA j))) J=J (s.sub i j):=by
 show GK (Ag i j&&Ag j s.len) _=_
 exact FP (by simp[Ac,h,hj])
def Sl (U:H) (esz k:Nat) (v:V) (l:List V):Prop:=(k=0/\v = .nils/\l=[])\/(∃b,v = .sl b 0 k (.op esz)/\CQ U b l/\0<k/\l.length=k*esz)
theorem Sl.nil (U:H) (esz:Nat):Sl U esz 0 .nils [] := .inl ⟨rfl,rfl,rfl⟩
theorem Sl.length {esz k:Nat} {v:V} (h:Sl U esz k v l):l.length=k*esz:=by
 rcases h with ⟨rfl,_,rfl⟩|⟨b,_,_,_,h⟩
 ·simp
 ·exact h
theorem Sl.fr {esz k:Nat} {v:V} (h:Sl U esz k v l) (f:Fr S U U') (ht:Ar U) (hn:∀b,AJ v b->¬S b):Sl U' esz k v l:=by
 rcases h with h|⟨b,rfl,ha,hk,hl⟩
 ·exact .inl h
 ·exact .inr ⟨b,rfl,f.at_ ha ht (hn b rfl),hk,hl⟩
theorem Sl.one {esz k:Nat} {v:V} (h:Sl U esz k v l):v.one=true:=by
 rcases h with ⟨_,rfl,_⟩|⟨b,rfl,_⟩<;>rfl
theorem Sl.slen {esz k:Nat} {v:V} {J:Nat->AF} (h:Sl U esz k v l):A0 v J=J k:=by
 rcases h with ⟨rfl,rfl,_⟩|⟨b,rfl,_⟩<;>rfl
theorem Sl.lt {esz k:Nat} {v:V} (h:Sl U esz k v l) (ht:Ar U) (hb:AJ v b):b<U.next:=by
 rcases h with ⟨_,rfl,_⟩|⟨c,rfl,ha,_⟩
 ·exact hb.elim
 ·cases hb;exact ha.lt ht
theorem YR {esz n xb xo:Nat} {c':Ri} {J:Nat->List V->AF} (h:CQ U xb m) (hl:xo+n*esz<=m.length):srcK E U esz (.sl xb xo n c') J=J n ((m.drop xo).take (n*esz)):=
 (SQ h).trans (D6 hl)
theorem cj {b o n:Nat} {c:Ri} {J:BS->AF}:Jk E U (.sl b o n c) J=srcK E U 1 (.sl b o n c) fun _ l=>match FV l with | some s=>J (BS.ofList s) | none=>none:=rfl
theorem Ib {b o n:Nat} {c:Ri} {a:AF}:CB (.sl b o n c) a=a:=rfl
theorem Cb {esz b o n i:Nat} {c:Ri} {J:Nat->Nat->AF} (h:i<n):AW esz (.sl b o n c) (AA i) J=J b (AP o (Ma i esz)):=by
 show GK (B2 i n) _=_
 exact FP (by simpa[Bu]using h)
theorem I1 (l:EB) (id id':Nat):BU (drop l id) id'=if id=id' then none else BU l id':=by
 rw[A5,A5];exact Mt l id id'
end
theorem E7 (k:IntKind) (n:Int) (J:Int->AF):Ch k (.int k n) J=J n:=by simp[Ch]
theorem Fj (b:Bool) (J:Bool->AF):Ct (.bool b) J=J b:=rfl
theorem HO (s:BS) (J:BS->AF):G7 (.str s) J=J s:=rfl
theorem HP (b o:Nat) (J:Nat->Nat->AF):B4 (.ptr b o) J=J b o:=rfl
theorem HR (l:List V) (J:List V->AF):CW (.agg l) J=J l:=rfl
theorem HN (l:List V) (J:List V->AF):L0 (.tup l) J=J l:=rfl
theorem Fh (v:V) (l:List V) (J:V->List V->AF):Ae (v::l) J=J v l:=rfl
theorem HQ (a:AF):BJ [] a=a:=rfl
theorem E2 (v:V) (U:H) (J:V->H->AF):CM (some (v,U)) J=J v U:=rfl
def BS.nats (s:BS):List Nat:=s.toList.map UInt8.toNat
theorem BS.length_nats (s:BS):s.nats.length=s.len:=by simp[BS.nats,BS.length_toList]
theorem BS.nats_get {s:BS} {i:Nat} (h:i<s.len):s.nats[i]? = some (s.get i):=by
 simp only[BS.nats,Aw,BS.getElem?_toList,if_pos h,CC,UInt8.toNat_ofNat']
 rw[CY (s.get_lt i)]
theorem BS.nats_lt (s:BS):∀c∈s.nats,c<256:=by
 intro c hc
 simp only[BS.nats,GA]at hc
 obtain⟨u,_,rfl⟩:=hc
 exact u.toNat_lt
theorem BS.nats_cat (a b:BS):(a.cat b).nats=a.nats++b.nats:=by simp[BS.nats,BS.toList_cat]
theorem BS.nats_sub {s:BS} {lo hi:Nat} (h:hi<=s.len):(s.sub lo hi).nats=(s.nats.drop lo).take (hi-lo):=by
 simp[BS.nats,BS.toList_sub h]
theorem UY {l m:List UInt8} (h:l.map UInt8.toNat=m.map UInt8.toNat):l=m:=by
 have hm:=congrArg (List.map UInt8.ofNat) h
 simpa[List.map_map,Function.comp_def]using hm
theorem BS.beq_nats (a b:BS):a.beq b=decide (a.nats=b.nats):=by
 rw[BS.beq_eq]
 rw[Fg]
 simp only[decide_eq_true_eq]
 exact⟨fun h=>by rw[BS.nats,h,<-BS.nats],fun h=>UY h⟩
def BS.canon (s:BS):Prop:=s.val<2 ^ (8*s.len)
theorem BS.canon_low {s:BS} (h:s.canon):s.low=s.val:=CY h
theorem BS.canon_ext {a b:BS} (ha:a.canon) (hb:b.canon) (h:a.nats=b.nats):a=b:=by
 have ht:=UY h
 obtain⟨hl,hg⟩:=BS.get_eq ht
 have:=(BS.low_eq hl).2 hg
 rw[BS.canon_low ha,BS.canon_low hb]at this
 cases a;cases b
 simp only[]at hl this
 subst hl;subst this;rfl
theorem BS.sub_canon (s:BS) (lo hi:Nat):(s.sub lo hi).canon:=QI _ (Nat.pow_pos (by decide))
def BB:List Nat->BS
 | []=>⟨0,0⟩
 | c::l=>⟨Nat.succ (BB l).len,AP c (Ma 256 (BB l).val)⟩
theorem Wk:∀{l:List Nat},(∀c∈l,c<256)->BB l=BS.ofList (l.map UInt8.ofNat)
 | [],_=>rfl
 | c::l,h=>by
  have hc:(UInt8.ofNat c).toNat=c:=by simp only[UInt8.toNat_ofNat'];exact CY (h c (by simp))
  have ih:=Wk (l:=l) (fun d hd=>h d (BM _ hd))
  show BS.mk (Nat.succ (BB l).len) (AP c (Ma 256 (BB l).val))=BS.mk (Nat.succ (BS.ofList (l.map UInt8.ofNat)).len) (AP (UInt8.ofNat c).toNat (Ma 256 (BS.ofList (l.map UInt8.ofNat)).val))
  rw[ih,hc]
theorem FT:∀l:List Nat,(BB l).len=l.length
 | []=>rfl
 | c::l=>by simp[BB,FT l]
theorem Gl {l:List Nat} (h:∀c∈l,c<256):(BB l).nats=l:=by
 rw[Wk h]
 apply HL
 intro i
 by_cases hi:i<l.length
 ·have hl:(BS.ofList (l.map UInt8.ofNat)).len=l.length:=by rw[BS.len_ofList,CD]
  rw[BS.nats_get (by omega)]
  have hc:(l.map UInt8.ofNat)[i]? = some (UInt8.ofNat l[i]):=by simp[hi]
  rw[BS.get_ofList _ _ _ hc]
  simp only[UInt8.toNat_ofNat',AM hi]
  rw[CY (h _ (List.getElem_mem hi))]
 ·rw[BF (by rw[BS.length_nats,BS.len_ofList,CD];omega),BF (by omega)]
theorem KN:∀{l:List Nat},(∀c∈l,c<256)->(BB l).canon
 | [],_=>by show 0<2 ^ (8*0);decide
 | c::l,h=>by
  have ih:(BB l).val<2 ^ (8*(BB l).len):=KN (fun d hd=>h d (by simp[hd]))
  have hc:=h c (by simp)
  show c+256*(BB l).val<2 ^ (8*((BB l).len+1))
  have e:2 ^ (8*((BB l).len+1))=256*2 ^ (8*(BB l).len):=by
   rw[Nat.mul_add,Nat.pow_add];simp[Nat.mul_comm]
  rw[e];omega
theorem pR {s:BS} {lo hi:Nat} (h:hi<=s.len):s.sub lo hi=BB ((s.nats.drop lo).take (hi-lo)):=by
 have hb:∀c∈(s.nats.drop lo).take (hi-lo),c<256:=fun c hc=>s.nats_lt c (fO (List.mem_of_mem_take hc))
 exact BS.canon_ext (s.sub_canon lo hi) (KN hb) (by rw[BS.nats_sub h,Gl hb])
def P3 (s:BS) (i:Nat) (r:List Nat):Prop:=i<=s.len/\s.nats.drop i=r
section
variable {s:BS} {i:Nat} {r:List Nat}
theorem P3.start (s:BS):P3 s 0 s.nats:=⟨DZ _,rfl⟩
theorem P3.len (h:P3 s i r):i+r.length=s.len:=by
 have:=congrArg HK h.2
 rw[CA,BS.length_nats]at this
 have:=h.1;omega
theorem P3.bd (h:P3 s i r):∀c∈r,c<256:=fun c hc=>s.nats_lt c (fO (h.2 ▸ hc))
theorem P3.drop (h:P3 s i r) {k:Nat} (hk:k<=r.length):P3 s (i+k) (r.drop k):=by
 refine⟨by have:=h.len;omega,?_⟩
 rw[<-h.2,CJ]
theorem P3.tail {c:Nat} (h:P3 s i (c::r)):P3 s (i+1) r:=h.drop (k:=1) (by simp)
theorem P3.get? (h:P3 s i r) (k:Nat):r[k]? = if i+k<s.len then some (s.get (i+k))else none:=by
 rw[<-h.2,Bm]
 by_cases hk:i+k<s.len
 ·rw[if_pos hk,BS.nats_get hk]
 ·rw[if_neg hk,BF (by rw[BS.length_nats];omega)]
theorem P3.getD_lt (h:P3 s i r) {k:Nat} (hk:i+k<s.len):r.getD k 0=s.get (i+k):=by
 rw[BT,h.get?,if_pos hk];rfl
theorem P3.sub (h:P3 s i r) {k:Nat} (hk:k<=r.length):s.sub i (i+k)=BB (r.take k):=by
 have:=h.len
 rw[pR (by omega),h.2,IL]
theorem P3.subAll (h:P3 s i r):s.sub i s.len=BB r:=by
 have:=h.len
 rw[show s.len=i+r.length by omega,h.sub (AK _),EN]
end
end
end Go.Og
namespace Go.Og
noncomputable section
section
variable {E:EB} {D:Ai} {n0 n i:Nat} {o:BO} {l:List BO} {p:DP} {pl:List DP} {s:DS} {v:V}
theorem Fz (hg:o.guard=none) (hc:o.op.cls = .p) (hv:BV o.op (restr p.looks s.e)=some v) :
  CX E D n0 n i (o::l) (p::pl) s=CX E D n0 n (i+1) l pl { s with e:=Cu s.e o.dst v }:=by
 have h:FO E D n0 n i o p s=some { s with e:=Cu s.e o.dst v }:=by unfold FO;rw[hg];simp only[Bq,hc,hv]
 show (match FO E D n0 n i o p s with | none=>none | some s'=>CX E D n0 n (i+1) l pl s')=_
 rw[h]
theorem VC {h:EB} {ss:List (EB)} (hg:o.guard=none) (hc:o.op.cls = .l) (hs:s.ss=h::ss) (hv:Cf E o.op (restr p.looks s.e) ⟨s.nx,CS n0 n (DQ p.anc s.am) h⟩=some v) :
  CX E D n0 n i (o::l) (p::pl) s=CX E D n0 n (i+1) l pl { s with e:=Cu s.e o.dst v,ls:=(i,o.op,restr p.looks s.e,v)::s.ls }:=by
 have h:FO E D n0 n i o p s=some { s with e:=Cu s.e o.dst v,ls:=(i,o.op,restr p.looks s.e,v)::s.ls }:=by unfold FO;rw[hg];simp only[Bq,hc,hs,hv]
 show (match FO E D n0 n i o p s with | none=>none | some s'=>CX E D n0 n (i+1) l pl s')=_
 rw[h]
theorem iz {b:GM} (hg:o.guard=none) (hc:o.op.cls = .a) (hv:Cm o.op (restr p.looks s.e) (n0+i)=some (v,b)) :
  CX E D n0 n i (o::l) (p::pl) s=CX E D n0 n (i+1) l pl { s with e:=Cu s.e o.dst v,ss:=s.ss.map ((n0+i,b)::·),am:=s.am ||| 2 ^ i }:=by
 have h:FO E D n0 n i o p s=some { s with e:=Cu s.e o.dst v,ss:=s.ss.map ((n0+i,b)::·),am:=s.am ||| 2 ^ i }:=by unfold FO;rw[hg];simp only[Bq,hc,hv]
 show (match FO E D n0 n i o p s with | none=>none | some s'=>CX E D n0 n (i+1) l pl s')=_
 rw[h]
theorem Qz {b:GM} {id am':Nat} (hg:o.guard=none) (hc:o.op.cls = .a) (hid:n0+i=id) (ham:s.am ||| 2 ^ i=am') (hv:Cm o.op (restr p.looks s.e) id=some (v,b)) :
  CX E D n0 n i (o::l) (p::pl) s=CX E D n0 n (i+1) l pl { s with e:=Cu s.e o.dst v,ss:=s.ss.map ((id,b)::·),am:=am' }:=by
 subst hid;subst ham
 exact iz hg hc hv
theorem VD {h:EB} {ss:List (EB)} {U':H} (hg:o.guard=none) (hc:o.op.cls = .k) (hs:s.ss=h::ss) (hv:Dx E D o.op (restr p.looks s.e) ⟨s.nx,CS n0 n (DQ p.anc s.am) h⟩=some (v,U')) :
  CX E D n0 n i (o::l) (p::pl) s=CX E D n0 n (i+1) l pl { s with e:=Cu s.e o.dst v,nx:=U'.next,ss:=(Ei n0 n (DQ p.anc s.am) h++U'.bl)::s.ss,ks:=i::s.ks }:=by
 have h:FO E D n0 n i o p s=some { s with e:=Cu s.e o.dst v,nx:=U'.next,ss:=(Ei n0 n (DQ p.anc s.am) h++U'.bl)::s.ss,ks:=i::s.ks }:=by unfold FO;rw[hg];simp only[Bq,hc,hs,hv]
 show (match FO E D n0 n i o p s with | none=>none | some s'=>CX E D n0 n (i+1) l pl s')=_
 rw[h]
theorem Hi:CX E D n0 n i [] pl s=some s:=by cases pl<;>rfl
theorem PD {ops:List BO} {e:B6} {U:H} {h:EB} {ss:List (EB)} (hd:CX E D U.next ops.length 0 ops pl ⟨e,U.next+ops.length,[U.bl],[],0,[]⟩=some s)
  (hl:s.ls.all (fun(j,op,em,v)=>FE E U.next ops.length pl s.am j op em v s.ss s.ks [])=true) (hs:s.ss=h::ss) :
  AT E D ops pl e U=some (s.e,⟨s.nx,CS U.next ops.length (fun k=>s.am.testBit k) h⟩):=by
 unfold AT
 rw[hd]
 show (if s.ls.all (fun(j,op,em,v)=>FE E U.next ops.length pl s.am j op em v s.ss s.ks [])=true then _ else none)=_
 rw[if_pos hl,hs]
end
section
variable {E:EB} {n0 n am j:Nat} {pl:List DP} {op:Eb} {em:B6} {v:V} {h:EB} {ss:List (EB)} {k:Nat} {ks more:List Nat}
theorem PH (hl:FA pl j (k::ks) more=false):FE E n0 n pl am j op em v (h::ss) (k::ks) more=FE E n0 n pl am j op em v ss ks (k::more):=by
 show ((!FA pl j (k::ks) more || _)&&FE E n0 n pl am j op em v ss ks (k::more))=_
 rw[hl];rfl
end
section
variable {n0 n:Nat} {p:Nat->Bool} {l:EB}
theorem Uu:∀{l:EB},(∀id,n0<=id->id<n0+n->look l id=none)->CS n0 n p l=l
 | [],_=>rfl
 | (k,b)::l,h=>by
  have hk:¬(n0<=k/\k<n0+n):=fun⟨h1,h2⟩=>by
   have:=h k h1 h2
   simp[look]at this
  have hc:(Ag n0 k&&B2 k (n0+n) && !p (k-n0))=false:=by
   cases hb:(Ag n0 k&&B2 k (n0+n) && !p (k-n0))with
   | false=>rfl
   | true=>simp only[AG,Ac,Bu]at hb;exact(hk hb.1).elim
  unfold CS
  rw[hc]
  simp only[DE,if_false]
  rw[Uu]
  intro id h1 h2
  have:=h id h1 h2
  simp only[look]at this
  split at this
  ·cases this
  ·exact this
theorem Uo:∀{l:EB},(∀id,n0<=id->id<n0+n->look l id=none)->Ei n0 n p l=[]
 | [],_=>rfl
 | (k,b)::l,h=>by
  have hk:¬(n0<=k/\k<n0+n):=fun⟨h1,h2⟩=>by
   have:=h k h1 h2
   simp[look]at this
  have hc:(Ag n0 k&&B2 k (n0+n) && !p (k-n0))=false:=by
   cases hb:(Ag n0 k&&B2 k (n0+n) && !p (k-n0))with
   | false=>rfl
   | true=>simp only[AG,Ac,Bu]at hb;exact(hk hb.1).elim
  unfold Ei
  rw[hc]
  simp only[DE,if_false]
  rw[Uo]
  intro id h1 h2
  have:=h id h1 h2
  simp only[look]at this
  split at this
  ·cases this
  ·exact this
theorem GZ:∀{l:EB},(∀i,i<n->p i=false->look l (n0+i)=none)->CS n0 n p l=l/\Ei n0 n p l=[]
 | [],_=>⟨rfl,rfl⟩
 | (k,b)::l,h=>by
  have hc:(Ag n0 k&&B2 k (n0+n) && !p (k-n0))=false:=by
   cases hb:(Ag n0 k&&B2 k (n0+n) && !p (k-n0))with
   | false=>rfl
   | true=>
    exfalso
    simp only[AG,Ac,Bu,C8]at hb
    have:=h (k-n0) (by omega) hb.2
    rw[show n0+(k-n0)=k by omega]at this
    simp[look]at this
  have ih:=GZ (l:=l) (fun i hi hp=>by
   have:=h i hi hp
   simp only[look]at this
   split at this
   ·cases this
   ·exact this)
  unfold CS Ei
  rw[hc]
  simp only[DE,if_false]
  exact⟨by rw[ih.1],ih.2⟩
theorem Ar.gap {U:H} (h:Ar U) (n:Nat):∀id,U.next<=id->id<U.next+n->look U.bl id=none:=fun id h1 _=>by
 have:=h id h1;rwa [A5]at this
theorem Ar.wide {U:H} (h:Ar U) (n:Nat):Ar ⟨U.next+n,U.bl⟩:=fun b hb=>h b (by have:U.next+n<=b:=hb;omega)
theorem Fr.wide {S:Nat->Prop} {U U':H} {n:Nat} (f:Fr S ⟨U.next+n,U.bl⟩ U'):Fr S U U':=
 ⟨f.tidy,by have:U.next+n<=U'.next:=f.le;omega,fun b hb hn=>f.same b (show b<U.next+n by omega) hn⟩
theorem Fr.gap {S:Nat->Prop} {U U':H} {n:Nat} (f:Fr S ⟨U.next+n,U.bl⟩ U') (ht:Ar U) (hS:∀b,S b->b<U.next):∀id,U.next<=id->id<U.next+n->look U'.bl id=none:=fun id h1 h2=>by
 have:=f.same id h2 (fun hs=>by have:=hS id hs;omega)
 rw[<-A5,this]
 exact ht id h1
theorem IF {id:Nat} (h:id<n0):look (CS n0 n p l) id=look l id:=by
 rw[DY,if_neg (by omega)]
theorem Ov {i:Nat} (h:p i=true):look (CS n0 n p l) (n0+i)=look l (n0+i):=by
 rw[DY,if_neg]
 rintro⟨_,_,h2⟩
 rw[IL,h]at h2
 cases h2
theorem QT {id:Nat} (h:n0+n<=id):look (CS n0 n p l) id=look l id:=by
 rw[DY,if_neg (by omega)]
theorem E8 {α:Type} {k id:Nat} {b:α} {l:List (Nat × α)} (h:k≠id):look ((k,b)::l) id=look l id:=by simp[look,h]
theorem Sa {α:Type} {k:Nat} {b:α} {l:List (Nat × α)}:look ((k,b)::l) k=some b:=by simp[look]
theorem qf {E:EB} {x:AO} {e:B6} {b off nx:Nat} {h:EB} {c:List V} {v:V} (hx:CP e x = .ptr b off) (hl:look h b=some (.cells c)) (hv:c[off]? = some v) :
  Cf E (.load none x) e ⟨nx,h⟩=some v:=by
 unfold Cf
 simp only[hx,rd,hl,hv]
end
section
variable {E:EB} {D:Ai} {n0 n i:Nat} {d:Option Nat} {o:Eb} {l:List BO} {anc:Nat} {lk:List Nat} {pl:List DP} {e:B6} {nx am:Nat} {ss:List (EB)} {h:EB} {ks:List Nat} {ls:List (Nat × Eb × B6 × V)}
theorem dp (v:V) (hc:o.cls = .p) (hv:BV o (restr lk e)=some v):CX E D n0 n i (⟨d,o,none⟩::l) (⟨anc,lk⟩::pl) ⟨e,nx,ss,ks,am,ls⟩=CX E D n0 n (i+1) l pl ⟨Cu e d v,nx,ss,ks,am,ls⟩:=
 Fz rfl hc hv
theorem dl (v:V) (hc:o.cls = .l) (hv:Cf E o (restr lk e) ⟨nx,CS n0 n (DQ anc am) h⟩=some v):CX E D n0 n i (⟨d,o,none⟩::l) (⟨anc,lk⟩::pl) ⟨e,nx,h::ss,ks,am,ls⟩=CX E D n0 n (i+1) l pl ⟨Cu e d v,nx,h::ss,ks,am,(i,o,restr lk e,v)::ls⟩:=
 VC rfl hc rfl hv
theorem da (v:V) (b:GM) (id am':Nat) (hc:o.cls = .a) (hid:n0+i=id) (ham:am ||| 2 ^ i=am') (hv:Cm o (restr lk e) id=some (v,b)):CX E D n0 n i (⟨d,o,none⟩::l) (⟨anc,lk⟩::pl) ⟨e,nx,ss,ks,am,ls⟩=CX E D n0 n (i+1) l pl ⟨Cu e d v,nx,ss.map ((id,b)::·),ks,am',ls⟩:=
 Qz rfl hc hid ham hv
theorem dk (v:V) (nx':Nat) (bl':EB) (hc:o.cls = .k) (hk:CS n0 n (DQ anc am) h=h/\Ei n0 n (DQ anc am) h=[]) (hv:Dx E D o (restr lk e) ⟨nx,h⟩=some (v,⟨nx',bl'⟩)):CX E D n0 n i (⟨d,o,none⟩::l) (⟨anc,lk⟩::pl) ⟨e,nx,h::ss,ks,am,ls⟩=CX E D n0 n (i+1) l pl ⟨Cu e d v,nx',bl'::h::ss,i::ks,am,ls⟩:=by
 have:=VD (E:=E) (D:=D) (n0:=n0) (n:=n) (i:=i) (o:=⟨d,o,none⟩) (l:=l) (p:=⟨anc,lk⟩) (pl:=pl) (s:=⟨e,nx,h::ss,ks,am,ls⟩) (v:=v) (U':=⟨nx',bl'⟩) rfl hc rfl (by show Dx E D o (restr lk e) ⟨nx,CS n0 n (DQ anc am) h⟩=_;rw[hk.1];exact hv)
 rw[this]
 show CX E D n0 n (i+1) l pl ⟨Cu e d v,nx',(Ei n0 n (DQ anc am) h++bl')::h::ss,i::ks,am,ls⟩=_
 rw[hk.2];rfl
end
end
end Go.Og
namespace Go.Og
noncomputable section
mutual
def V.rn (ρ:Nat->Nat):V->V
 | .ptr b o => .ptr (ρ b) o
 | .sl b o n c => .sl (ρ b) o n c
 | .sle b o k e => .sle (ρ b) o k e
 | .mp b => .mp (ρ b)
 | .fn f a c => .fn f (Qf ρ a) (Qf ρ c)
 | .ifc t v => .ifc t (V.rn ρ v)
 | .agg l => .agg (Qf ρ l)
 | .tup l => .tup (Qf ρ l)
 | v=>v
def Qf (ρ:Nat->Nat):List V->List V
 | []=>[]
 | v::l=>V.rn ρ v::Qf ρ l
end
mutual
def V.inn (p:Nat->Bool):V->Bool
 | .dead=>false
 | .ptr b _=>p b
 | .sl b _ _ _=>p b
 | .sle b _ _ _=>p b
 | .mp b=>p b
 | .fn _ a c=>Jx p a&&Jx p c
 | .ifc _ v=>V.inn p v
 | .agg l=>Jx p l
 | .tup l=>Jx p l
 | _=>true
def Jx (p:Nat->Bool):List V->Bool
 | []=>true
 | v::l=>V.inn p v&&Jx p l
end
section
variable {R S:Cz} {p:Nat->Bool} {ρ:Nat->Nat}
mutual
theorem I8 (h:∀b,p b=true->S (ρ b)=R b):∀v:V,V.inn p v=true->Ao S (V.rn ρ v)=Ao R v
 | .dead,hc=>by simp[V.inn]at hc
 | .ptr b o,hc=>by
  simp only[V.inn]at hc
  simp only[V.rn,Ao,h b hc]
 | .sl b o n (.ex c),hc=>by
  simp only[V.inn]at hc
  simp only[V.rn,Ao,h b hc]
 | .sl b o n (.op c),hc=>by
  simp only[V.inn]at hc
  simp only[V.rn,Ao,h b hc]
 | .sle b o k e,hc=>by
  simp only[V.inn]at hc
  simp only[V.rn,Ao,h b hc]
 | .mp b,hc=>by
  simp only[V.inn]at hc
  simp only[V.rn,Ao,h b hc]
 | .bool _,_=>rfl
 | .int _ _,_=>rfl
 | .str _,_=>rfl
 | .nilp,_=>rfl
 | .nils,_=>rfl
 | .nilm,_=>rfl
 | .nilf,_=>rfl
 | .nili,_=>rfl
 | .fn f a c,hc=>by
  simp only[V.inn,AG]at hc
  simp only[V.rn,Ao,Ig h a hc.1,Ig h c hc.2]
 | .ifc t v,hc=>by
  simp only[V.inn]at hc
  simp only[V.rn,Ao,I8 h v hc]
 | .agg l,hc=>by
  simp only[V.inn]at hc
  simp only[V.rn,Ao,Ig h l hc]
 | .tup l,hc=>by
  simp only[V.inn]at hc
  simp only[V.rn,Ao,Ig h l hc]
theorem Ig (h:∀b,p b=true->S (ρ b)=R b):∀l:List V,Jx p l=true->A1 S (Qf ρ l)=A1 R l
 | [],_=>rfl
 | v::l,hc=>by
  simp only[Jx,AG]at hc
  simp only[Qf,A1,I8 h v hc.1,Ig h l hc.2]
end
theorem SP:∀(l:List V) (k:Nat),(Qf ρ l)[k]? = (l[k]?).map (V.rn ρ)
 | [],k=>by simp[Qf]
 | v::l,0=>by simp[Qf]
 | v::l,k+1=>by simpa[Qf]using SP l k
theorem LJ:∀(l:List V),(Qf ρ l).length=l.length
 | []=>rfl
 | v::l=>by simp[Qf,LJ l]
theorem O4:∀{l:List V} {k:Nat} {v:V},Jx p l=true->l[k]? = some v->V.inn p v=true
 | [],k,v,_,h=>by simp at h
 | u::l,0,v,hc,h=>by
  simp only[Jx,AG]at hc
  simp at h;subst h;exact hc.1
 | u::l,k+1,v,hc,h=>by
  simp only[Jx,AG]at hc
  exact O4 hc.2 (by simpa using h)
def w9 (ρ:Nat->Nat):List (V × V)->List (V × V)
 | []=>[]
 | q::l=>(V.rn ρ q.1,V.rn ρ q.2)::w9 ρ l
def dV (p:Nat->Bool):List (V × V)->Bool
 | []=>true
 | q::l=>V.inn p q.1&&V.inn p q.2&&dV p l
def GM.rn (ρ:Nat->Nat):GM->GM
 | .cells l => .cells (Qf ρ l)
 | .map l => .map (w9 ρ l)
 | .siter s q => .siter s q
 | .unit t => .unit t
def GM.inn (p:Nat->Bool):GM->Bool
 | .cells l=>Jx p l
 | .map l=>dV p l
 | .siter _ _=>true
 | .unit _=>true
theorem C4.rn (h:∀b,p b=true->S (ρ b)=R b):∀{l:List (V × V)} {es:List MapEntry},dV p l=true->(C4 S (w9 ρ l) es↔C4 R l es)
 | [],[],_=>Iff.rfl
 | (a,b)::l,e::es,hc=>by
  simp only[dV,AG]at hc
  simp only[w9,C4,I8 h a hc.1.1,I8 h b hc.1.2,C4.rn h hc.2]
 | [],_::_,_=>Iff.rfl
 | _::_,[],_=>Iff.rfl
theorem Hr.rn (h:∀b,p b=true->S (ρ b)=R b) {s:Nat} {l:List V} {arr:Array Value} (hc:Jx p l=true):Hr S s (Qf ρ l) arr↔Hr R s l arr:=by
 constructor
 ·intro hh k v hk
  obtain⟨a,ha,h1,h2⟩:=hh k (V.rn ρ v) (by rw[SP,hk];rfl)
  exact⟨a,(I8 h v (O4 hc hk)).symm.trans ha,h1,h2⟩
 ·intro hh k v hk
  rw[SP,Aa]at hk
  obtain⟨u,hu,rfl⟩:=hk
  obtain⟨a,ha,h1,h2⟩:=hh k u hu
  exact⟨a,(I8 h u (O4 hc hu)).trans ha,h1,h2⟩
theorem FB.rn (h:∀b,p b=true->S (ρ b)=R b) {i:BI} {b:GM} {w:World} (hc:b.inn p=true):FB S i (b.rn ρ) w↔FB R i b w:=by
 cases b with
 | cells l=>
  have e:=@Hr.rn R S p ρ h i.shift l
  constructor
  ·rintro⟨arr,el,lo,hi,h1,h2,h3,h4,h5⟩
   exact⟨arr,el,lo,hi,h1,(e hc).1 h2,h3,by rw[LJ]at h4;exact h4,h5⟩
  ·rintro⟨arr,el,lo,hi,h1,h2,h3,h4,h5⟩
   exact⟨arr,el,lo,hi,h1,(e hc).2 h2,h3,by rw[LJ];exact h4,h5⟩
 | map l=>
  constructor
  ·rintro⟨es,clock,h1,h2⟩
   exact⟨es,clock,h1,(C4.rn h hc).1 h2⟩
  ·rintro⟨es,clock,h1,h2⟩
   exact⟨es,clock,h1,(C4.rn h hc).2 h2⟩
 | siter s q=>exact Iff.rfl
 | unit t=>exact Iff.rfl
end
structure F8 where
 n0:Nat
 args:List V
 bl0:EB
 v:V
 n1:Nat
 bl1:EB
def EK (l:EB) (b:Nat):Bool:=match BU l b with
 | some _=>true
 | none=>false
def PM (l:EB) (q:Nat->Bool):Bool:=l.all fun x=>q x.1
def Y9 (l:EB) (q:Nat->Bool):Bool:=l.all fun x=>x.2.inn q
def F8.right (ng:Nat) (F:List V->H->AF) (e:F8):Bool:=match F e.args ⟨e.n0,e.bl0⟩with
 | some (v,U)=>V.beq v e.v&&(dW e.bl1 U.bl&&(Ak U.next e.n1&&(Ag e.n0 e.n1&&(Ag ng e.n0&&(PM e.bl0 (fun b=>Ag ng b&&B2 b e.n0)&&(Y9 e.bl0 (EK e.bl0)&&(Jx (EK e.bl0) e.args &&
   (PM e.bl1 (fun b=>Ag e.n0 b || EK e.bl0 b)&&(Y9 e.bl1 (EK e.bl1)&&V.inn (EK e.bl1) e.v)))))))))
 | none=>false
def F8.to (e:F8) (ρ:Nat->Nat) (U:H) (id:Nat):Nat:=if id<e.n0 then ρ id else id-e.n0+U.next
def L3 (ρ:Nat->Nat) (l:EB):EB:=l.map fun x=>(ρ x.1,x.2.rn ρ)
def F8.old (e:F8) (ρ:Nat->Nat) (id:Nat):Bool:=e.bl0.any fun x=>Ak (ρ x.1) id
def F8.ans (e:F8) (ρ:Nat->Nat) (U:H):V × H:=(e.v.rn (e.to ρ U),⟨U.next+(e.n1-e.n0),L3 (e.to ρ U) e.bl1++U.bl.filter fun x=>!e.old ρ x.1⟩)
structure F8.Fits (e:F8) (ρ:Nat->Nat) (args:List V) (U:H):Prop where
 args:args=Qf ρ e.args
 bl:∀id b,look e.bl0 id=some b->look U.bl (ρ id)=some (b.rn ρ)
 inj:∀id id',EK e.bl0 id=true->EK e.bl0 id'=true->ρ id=ρ id'->id=id'
theorem De {l:EB} {b:Nat}:EK l b=true↔∃c,look l b=some c:=by
 unfold EK;rw[A5]
 cases look l b<;>simp
theorem H8 {l:EB} {q:Nat->Bool} (h:PM l q=true) {id:Nat} {b:GM} (hb:look l id=some b):q id=true:=by
 have:=Dk.1 h (id,b) (Gq hb)
 exact this
theorem PN {l:EB} {q:Nat->Bool} (h:Y9 l q=true) {id:Nat} {b:GM} (hb:look l id=some b):b.inn q=true:=by
 have:=Dk.1 h (id,b) (Gq hb)
 exact this
theorem KQ {ρ:Nat->Nat}:∀{l:EB} {id:Nat} {b:GM},look (L3 ρ l) id=some b->∃k c,(k,c)∈l/\id=ρ k/\b=c.rn ρ
 | [],id,b,h=>by cases h
 | (k,c)::l,id,b,h=>by
  simp only[L3,B3,look]at h
  split at h
  ·rename_i he
   have he:=Bo he
   simp only[AQ.injEq]at h
   exact⟨k,c,Ab,he.symm,h.symm⟩
  ·obtain⟨k',c',h1,h2,h3⟩:=KQ (l:=l) h
   exact⟨k',c',BM _ h1,h2,h3⟩
theorem Gr {q:Nat->Bool}:∀(l:EB) (id:Nat),look (l.filter fun x=>q x.1) id=if q id=true then look l id else none
 | [],id=>by simp[look]
 | (k,c)::l,id=>by
  by_cases hq:q k=true
  ·rw[List.filter_cons_of_pos (by exact hq)]
   simp only[look,Gr l id]
   by_cases hk:Ak k id=true
   ·have:=Bo hk;subst this
    simp[hq]
   ·simp[hk]
  ·rw[List.filter_cons_of_neg (by exact hq),Gr l id]
   simp only[look]
   by_cases hk:Ak k id=true
   ·have:=Bo hk;subst this
    simp[hq]
   ·simp[hk]
theorem SU {e:F8} {ρ:Nat->Nat} {id:Nat}:e.old ρ id=true↔∃k c,(k,c)∈e.bl0/\ρ k=id:=by
 unfold F8.old
 rw[List.any_eq_true]
 constructor
 ·rintro⟨⟨k,c⟩,h1,h2⟩;exact⟨k,c,h1,Bo h2⟩
 ·rintro⟨k,c,h1,h2⟩;exact⟨(k,c),h1,by subst h2;exact F9 _⟩
theorem Hl:∀{l:EB} {k:Nat} {c:GM},(k,c)∈l->∃d,look l k=some d
 | (j,d)::l,k,c,h=>by
  simp only[look]
  by_cases hk:Ak j k=true
  ·exact⟨d,by simp[hk]⟩
  ·simp only[hk]
   rcases Ax.1 h with h|h
   ·cases h;exact(hk (F9 _)).elim
   ·simpa using Hl h
theorem xY {P:Program} {G:Nat->Bool} {f:FuncId} {F:List V->H->AF} (hS:Ce P [] G f F) {ng:Nat} (hG:∀g,G g=true->g<ng) {e:F8} (h:e.right ng F=true)
  {C:Cx} (hGC:C.G=G) {R:Cz} {U:H} {w:World} {args:List V} {xs:List Value} {ρ:Nat->Nat} (hm:e.Fits ρ args U) (hrel:Dt C R U w) (hxs:A1 R args=some xs) :
  JB P f=true/\Calls P f xs.toArray w fun en w'=>∃R' x,G6 U.next R R'/\U.next<=(e.ans ρ U).2.next/\Dt C R' (e.ans ρ U).2 w'/\Ao R' (e.ans ρ U).1=some x/\en = .returned x:=by
 unfold F8.right at h
 cases hr:F e.args ⟨e.n0,e.bl0⟩with
 | none=>rw[hr]at h;cases h
 | some q=>
  obtain⟨v,U1⟩:=q
  rw[hr]at h
  simp only[AG,Ac]at h
  obtain⟨hv,hin,hnx,hn01,hng,hi0,hb0,ha0,hi1,hb1,hv1⟩:=h
  have hv:=M3 _ _ hv
  subst hv
  have hin:=OD hin
  have hnx:=Bo hnx
  let R0:Cz:=fun id=>match EK e.bl0 id with
   | true=>R (ρ id)
   | false=>if id<ng then some ⟨id,0,0⟩else none
  have hR0:∀b,EK e.bl0 b=true->R (ρ b)=R0 b:=fun b hb=>by
   show R (ρ b)=(match EK e.bl0 b with | true=>R (ρ b) | false=>_)
   rw[hb]
  have hlt0:∀{id b},look e.bl0 id=some b->ng<=id/\id<e.n0:=fun hb=>by
   have:=H8 hi0 hb
   simpa[Bu]using this
  have hxs0:A1 R0 e.args=some xs:=by
   rw[hm.args,Ig hR0 _ ha0]at hxs;exact hxs
  have own0:∀id b,look e.bl0 id=some b->∃i,R (ρ id)=some i/\R0 id=some i/\C.O i.blk/\FB R0 i b w:=fun id b hb=>by
   obtain⟨i,hi,hO,hok⟩:=hrel.own _ _ (hm.bl id b hb)
   exact⟨i,hi,(hR0 id (De.2 ⟨_,hb⟩)).symm.trans hi,hO,(FB.rn hR0 (PN hb0 hb)).1 hok⟩
  let O0:Nat->Prop:=fun blk=>(∃id b i,look e.bl0 id=some b/\R (ρ id)=some i/\i.blk=blk)\/w.heap.size<=blk
  have hrel0:Dt ⟨O0,w,[],G⟩ R0 ⟨e.n0,e.bl0⟩ w:=by
   refine⟨?_,?_,?_,fun id b hb=>by simp[look]at hb,?_,fun _ _=>rfl,AK _,fun blk hb => .inr hb,rfl,rfl,rfl⟩
   ·intro id hid
    have hid':e.n0<=id:=hid
    have hd:EK e.bl0 id=false:=by
     cases hc:EK e.bl0 id with
     | false=>rfl
     | true=>
      obtain⟨b,hb⟩:=De.1 hc
      have:=(hlt0 hb).2;omega
    show (match EK e.bl0 id with | true=>R (ρ id) | false=>_)=none
    rw[hd]
    exact if_neg (by omega)
   ·intro id b hb
    obtain⟨i,hi,hi0',_,hok⟩:=own0 id b hb
    exact⟨i,hi0',.inl ⟨id,b,i,hb,hi,rfl⟩,hok⟩
   ·intro id id' b b' i i' hb hb' hi hi' hbl
    obtain⟨j,hj,hj0,_,_⟩:=own0 id b hb
    obtain⟨j',hj',hj0',_,_⟩:=own0 id' b' hb'
    rw[hj0]at hi;cases hi
    rw[hj0']at hi';cases hi'
    exact hm.inj id id' (De.2 ⟨_,hb⟩) (De.2 ⟨_,hb'⟩) (hrel.inj _ _ _ _ _ _ (hm.bl _ _ hb) (hm.bl _ _ hb') hj hj' hbl)
   ·intro g hg
    have hgn:=hG g hg
    refine⟨⟨g,0,0⟩,?_,rfl,rfl⟩
    have hd:EK e.bl0 g=false:=by
     cases hc:EK e.bl0 g with
     | false=>rfl
     | true=>
      obtain⟨b,hb⟩:=De.1 hc
      have:=(hlt0 hb).1;omega
    show (match EK e.bl0 g with | true=>R (ρ g) | false=>_)=_
    rw[hd]
    exact if_pos hgn
  obtain⟨hok,hc⟩:=hS ⟨O0,w,[],G⟩ rfl rfl R0 ⟨e.n0,e.bl0⟩ w e.args xs _ U1 hr hrel0 hxs0
  refine⟨hok,hc.mono ?_⟩
  rintro en w' ⟨R1,x,hE1,_,h3,h4,rfl⟩
  have hE1:∀id,id<e.n0->R1 id=R0 id:=hE1
  have keep:∀blk,¬O0 blk->w'.heap[blk]? = w.heap[blk]? := fun blk hb=>h3.fr blk hb
  let R':Cz:=fun id=>if id<U.next then R id else R1 (id-U.next+e.n0)
  have hext:G6 U.next R R':=fun id hid=>by show (if id<U.next then _ else _)=_;rw[if_pos hid]
  have hle:Le R R':=hext.le hrel.fresh
  have hto:∀b,EK e.bl1 b=true->R' (e.to ρ U b)=R1 b:=fun b hb=>by
   obtain⟨c,hc1⟩:=De.1 hb
   have hid:=H8 hi1 hc1
   unfold F8.to
   by_cases hl:b<e.n0
   ·rw[if_pos hl]
    have hd:EK e.bl0 b=true:=by
     simp only[Bk,Ac]at hid
     rcases hid with h|h
     ·omega
     ·exact h
    obtain⟨c0,hc0⟩:=De.1 hd
    have hlt:=hrel.next_of_own (hm.bl b c0 hc0)
    rw[hext _ hlt,hE1 b hl,hR0 b hd]
   ·rw[if_neg hl]
    show (if b-e.n0+U.next<U.next then _ else R1 (b-e.n0+U.next-U.next+e.n0))=_
    rw[if_neg (by omega)]
    congr 1;omega
  have hnew:∀{id b},look (L3 (e.to ρ U) e.bl1) id=some b->∃k c i,id=e.to ρ U k/\look U1.bl k=some c/\R1 k=some i/\R' id=some i/\O0 i.blk/\C.O i.blk/\FB R' i b w':=fun {id b} hb=>by
   obtain⟨k,c,hk,rfl,rfl⟩:=KQ hb
   have hl1:=hin (k,c) hk
   obtain⟨d,hd⟩:=Hl hk
   have hdb:EK e.bl1 k=true:=De.2 ⟨_,hd⟩
   obtain⟨i,hi,hO,hok'⟩:=h3.own k c hl1
   have hcin:c.inn (EK e.bl1)=true:=Dk.1 hb1 (k,c) hk
   refine⟨k,c,i,rfl,hl1,hi,(hto k hdb).trans hi,hO,?_,(FB.rn hto hcin).2 hok'⟩
   rcases hO with ⟨id',b',i',hb',hi',heq⟩|hO
   ·obtain⟨j,hj,_,hOj,_⟩:=own0 id' b' hb'
    rw[hj]at hi';cases hi'
    rw[<-heq];exact hOj
   ·exact hrel.new _ (Bc hrel.size hO)
  have hrest:∀{id b},look (U.bl.filter fun x=>!e.old ρ x.1) id=some b->id<U.next/\look U.bl id=some b/\e.old ρ id=false:=fun {id b} hb=>by
   rw[Gr (q:=fun k=>!e.old ρ k)]at hb
   split at hb
   ·rename_i hq
    exact⟨hrel.next_of_own hb,hb,by simpa using hq⟩
   ·cases hb
  have hkeep:∀{id b i},look U.bl id=some b->e.old ρ id=false->R id=some i->¬O0 i.blk:=fun {id b i} hb ho hi hO=>by
   obtain⟨j,hj,_,hok'⟩:=hrel.own id b hb
   rw[hi]at hj;cases hj
   rcases hO with ⟨id',b',i',hb',hi',heq⟩|hO
   ·have:=hrel.inj _ _ _ _ _ _ hb (hm.bl id' b' hb') hi hi' heq.symm
    have:e.old ρ id=true:=SU.2 ⟨id',b',Gq hb',this.symm⟩
    rw[this]at ho;cases ho
   ·have:=hok'.lt;omega
  have hsplit:∀{id b},look (L3 (e.to ρ U) e.bl1++U.bl.filter fun x=>!e.old ρ x.1) id=some b->look (L3 (e.to ρ U) e.bl1) id=some b\/(id<U.next/\look U.bl id=some b/\e.old ρ id=false):=fun {id b} hb=>by
   rw[Jw]at hb
   cases hs:look (L3 (e.to ρ U) e.bl1) id with
   | some c=>rw[hs]at hb;exact .inl hb
   | none=>rw[hs]at hb;exact .inr (hrest hb)
  refine⟨R',x,hext,GF _ _,⟨?_,?_,?_,?_,?_,?_,Bc hrel.size h3.size,hrel.new,h3.os.trans hrel.os,h3.tape.trans hrel.tape,h3.output.trans hrel.output⟩,(I8 hto _ hv1).trans h4,rfl⟩
  ·intro id hid
   have hid':U.next+(e.n1-e.n0)<=id:=hid
   show (if id<U.next then _ else R1 (id-U.next+e.n0))=none
   rw[if_neg (by omega)]
   exact h3.fresh _ (by rw[hnx];omega)
  ·intro id b hb
   rcases hsplit hb with hb|⟨hl,hb,ho⟩
   ·obtain⟨k,c,i,_,_,_,hi,_,hO,hok'⟩:=hnew hb
    exact⟨i,hi,hO,hok'⟩
   ·obtain⟨i,hi,hO,hok'⟩:=hrel.own id b hb
    exact⟨i,hle _ _ hi,hO,hok'.mono hle (keep _ (hkeep hb ho hi))⟩
  ·intro id id' b b' i i' hb hb' hi hi' hbl
   have olds:∀{id b i},look U.bl id=some b->R' id=some i->R id=some i:=fun {id b i} hb hi=>by
    obtain⟨j,hj,_,_⟩:=hrel.own id b hb
    have:=hle _ _ hj
    rw[hi]at this;cases this
    exact hj
   rcases hsplit hb with hb|⟨hl,hb,ho⟩<;>rcases hsplit hb' with hb'|⟨hl',hb',ho'⟩
   ·obtain⟨k,c,j,h1,h5,h6,h7,_⟩:=hnew hb
    obtain⟨k',c',j',h1',h5',h6',h7',_⟩:=hnew hb'
    rw[h7]at hi;cases hi
    rw[h7']at hi';cases hi'
    have:=h3.inj k k' c c' _ _ h5 h5' h6 h6' hbl
    rw[h1,h1',this]
   ·obtain⟨k,c,j,h1,h5,h6,h7,h8,_⟩:=hnew hb
    rw[h7]at hi;cases hi
    have hR:=olds hb' hi'
    exact(hkeep hb' ho' hR (hbl ▸ h8)).elim
   ·obtain⟨k,c,j,h1,h5,h6,h7,h8,_⟩:=hnew hb'
    rw[h7]at hi';cases hi'
    have hR:=olds hb hi
    exact(hkeep hb ho hR (hbl ▸ h8)).elim
   ·exact hrel.inj id id' b b' i i' hb hb' (olds hb hi) (olds hb' hi') hbl
  ·intro id b hb
   obtain⟨i,hi,hO,hok'⟩:=hrel.ext id b hb
   refine⟨i,hle _ _ hi,hO,hok'.mono hle (keep _ ?_)⟩
   rintro(⟨id',b',i',hb',hi',heq⟩|hn)
   ·obtain⟨j,hj,_,hOj,_⟩:=own0 id' b' hb'
    rw[hj]at hi';cases hi'
    exact hO (heq ▸ hOj)
   ·have:=hok'.lt;omega
  ·intro g hg
   obtain⟨i,hi,hb⟩:=hrel.glob g hg
   exact⟨i,hle _ _ hi,hb⟩
  ·intro blk hn
   rw[<-hrel.fr blk hn]
   refine keep blk ?_
   rintro(⟨id',b',i',hb',hi',heq⟩|hn')
   ·obtain⟨j,hj,_,hOj,_⟩:=own0 id' b' hb'
    rw[hj]at hi';cases hi'
    exact hn (heq ▸ hOj)
   ·exact hn (hrel.new _ (Bc hrel.size hn'))
def Ui (l:List F8) (F:List V->H->AF):List V->H->AF:=fun args U=>by
 classical
 exact if h:∃q:F8 × (Nat->Nat),q.1∈l/\q.1.Fits q.2 args U then some ((Classical.choose h).1.ans (Classical.choose h).2 U)else F args U
theorem iO {l:List F8} {F:List V->H->AF} {args:List V} {U:H} {e:F8} {ρ:Nat->Nat} (he:e∈l) (hm:e.Fits ρ args U) :
  ∃e' ρ',e'∈l/\e'.Fits ρ' args U/\Ui l F args U=some (e'.ans ρ' U):=by
 have h:∃q:F8 × (Nat->Nat),q.1∈l/\q.1.Fits q.2 args U:=⟨(e,ρ),he,hm⟩
 refine⟨(Classical.choose h).1,(Classical.choose h).2,(Classical.choose_spec h).1,(Classical.choose_spec h).2,?_⟩
 unfold Ui
 exact dif_pos h
theorem qe {P:Program} {G:Nat->Bool} {f:FuncId} {F F':List V->H->AF} {E:EB} (hF:Ce P E G f F) (hF':Ce P [] G f F') {ng:Nat} (hG:∀g,G g=true->g<ng) {l:List F8} (hl:∀e∈l,e.right ng F'=true):Ce P E G f (Ui l F):=by
 intro C hE hGC R U w args xs v U' hr hrel hxs
 unfold Ui at hr
 split at hr
 ·rename_i h
  simp only[AQ.injEq]at hr
  have:=xY hF' hG (hl _ (Classical.choose_spec h).1) hGC (Classical.choose_spec h).2 hrel hxs
  rw[hr]at this
  exact this
 ·exact hF C hE hGC R U w args xs v U' hr hrel hxs
end
end Go.Og
namespace Go.Og
noncomputable section
def Has (l:EB) (ρ:Nat->Nat) (U:H):Prop:=∀id b,look l id=some b->BU U.bl (ρ id)=some (b.rn ρ)
def Inj (l:EB) (ρ:Nat->Nat):Prop:=∀id id',EK l id=true->EK l id'=true->ρ id=ρ id'->id=id'
theorem qo {e:F8} {ρ:Nat->Nat} {args:List V} {U:H} (ha:args=Qf ρ e.args) (hb:Has e.bl0 ρ U) (hi:Inj e.bl0 ρ):e.Fits ρ args U:=
 ⟨ha,fun id b h=>by rw[<-A5];exact hb id b h,hi⟩
def F8.shape (e:F8):Bool:=PM e.bl0 (fun b=>B2 b e.n0)&&(PM e.bl1 (fun b=>(Ag e.n0 b || EK e.bl0 b)&&B2 b e.n1)&&Ag e.n0 e.n1)
section
variable {e:F8} {ρ:Nat->Nat} {args:List V} {U:H}
theorem F8.shape0 (h:e.shape=true) {id:Nat} (hd:EK e.bl0 id=true):id<e.n0:=by
 unfold F8.shape at h
 simp only[AG]at h
 obtain⟨c,hc⟩:=De.1 hd
 simpa[Bu]using H8 h.1 hc
theorem F8.shape1 (h:e.shape=true) {id:Nat} (hd:EK e.bl1 id=true):id<e.n1/\(e.n0<=id\/EK e.bl0 id=true):=by
 unfold F8.shape at h
 simp only[AG]at h
 obtain⟨c,hc⟩:=De.1 hd
 have:=H8 h.2.1 hc
 simp only[AG,Bk,Ac,Bu]at this
 exact⟨this.2,this.1⟩
theorem F8.shapeN (h:e.shape=true):e.n0<=e.n1:=by
 unfold F8.shape at h
 simp only[AG,Ac]at h
 exact h.2.2
theorem F8.Fits.lt (hm:e.Fits ρ args U) (ht:Ar U) {id:Nat} (hd:EK e.bl0 id=true):ρ id<U.next:=by
 obtain⟨c,hc⟩:=De.1 hd
 have h:=hm.bl id c hc
 rcases Av (ρ id) U.next with hl|hl
 ·exact hl
 ·have:=ht _ hl;rw[A5,h]at this;cases this
theorem F8.to_inj (hs:e.shape=true) (hm:e.Fits ρ args U) (ht:Ar U):Inj e.bl1 (e.to ρ U):=by
 intro id id' hd hd' h
 have h1:=(F8.shape1 hs hd).2
 have h2:=(F8.shape1 hs hd').2
 unfold F8.to at h
 by_cases ha:id<e.n0
 ·have hda:EK e.bl0 id=true:=by rcases h1 with h1 | h1;omega;exact h1
  by_cases hb:id'<e.n0
  ·have hdb:EK e.bl0 id'=true:=by rcases h2 with h2 | h2;omega;exact h2
   rw[if_pos ha,if_pos hb]at h
   exact hm.inj _ _ hda hdb h
  ·rw[if_pos ha,if_neg hb]at h
   have:=hm.lt ht hda;omega
 ·by_cases hb:id'<e.n0
  ·have hdb:EK e.bl0 id'=true:=by rcases h2 with h2 | h2;omega;exact h2
   rw[if_neg ha,if_pos hb]at h
   have:=hm.lt ht hdb;omega
  ·rw[if_neg ha,if_neg hb]at h;omega
theorem Yq {l:EB} {τ:Nat->Nat} (hi:∀id id',EK l id=true->EK l id'=true->τ id=τ id'->id=id'):∀{m:EB} {id:Nat} {b:GM},(∀x∈m,EK l x.1=true)->look m id=some b->look (L3 τ m) (τ id)=some (b.rn τ)
 | [],id,b,_,h=>by cases h
 | (k,c)::m,id,b,hm,h=>by
  simp only[look]at h
  simp only[L3,B3,look]
  by_cases hk:Ak k id=true
  ·have:=Bo hk;subst this
   rw[if_pos hk]at h
   cases h
   rw[if_pos (F9 _)]
  ·rw[if_neg hk]at h
   have hkd:EK l k=true:=hm (k,c) Ab
   have hid:EK l id=true:=hm (id,b) (BM _ (Gq h))
   rw[if_neg (fun hh=>hk (by have:=hi k id hkd hid (Bo hh);subst this;exact F9 _))]
   exact Yq hi (fun x hx=>hm x (BM _ hx)) h
theorem F8.has (hs:e.shape=true) (hm:e.Fits ρ args U) (ht:Ar U):Has e.bl1 (e.to ρ U) (e.ans ρ U).2:=by
 intro id b hb
 show BU (L3 (e.to ρ U) e.bl1++U.bl.filter fun x=>!e.old ρ x.1) _=_
 rw[A5,Jw]
 rw[Yq (l:=e.bl1) (F8.to_inj hs hm ht) (fun x hx=>by
  obtain⟨d,hd⟩:=Hl (k:=x.1) (c:=x.2) hx
  exact De.2 ⟨_,hd⟩) hb]
theorem F8.fr (hs:e.shape=true) (hm:e.Fits ρ args U) (ht:Ar U):Fr (fun b=>e.old ρ b=true) U (e.ans ρ U).2:=by
 have hn:=F8.shapeN hs
 refine⟨fun b hb=>?_,GF _ _,fun b hb hS=>?_⟩
 ·have hb':U.next+(e.n1-e.n0)<=b:=hb
  show BU (L3 (e.to ρ U) e.bl1++U.bl.filter fun x=>!e.old ρ x.1) b=none
  rw[A5,Jw]
  cases hc:look (L3 (e.to ρ U) e.bl1) b with
  | some c=>
   exfalso
   obtain⟨k,c',hk,he,_⟩:=KQ hc
   obtain⟨d,hd⟩:=Hl hk
   have hkd:=F8.shape1 hs (De.2 ⟨d,hd⟩)
   unfold F8.to at he
   by_cases hl:k<e.n0
   ·rw[if_pos hl]at he
    have hda:EK e.bl0 k=true:=by rcases hkd.2 with h | h;omega;exact h
    have:=hm.lt ht hda;omega
   ·rw[if_neg hl]at he
    have:=hkd.1;omega
  | none=>
   simp only[]
   rw[Gr (q:=fun k=>!e.old ρ k)]
   split
   ·rw[<-A5];exact ht b (by omega)
   ·rfl
 ·show BU (L3 (e.to ρ U) e.bl1++U.bl.filter fun x=>!e.old ρ x.1) b=_
  rw[A5,Jw]
  cases hc:look (L3 (e.to ρ U) e.bl1) b with
  | some c=>
   exfalso
   obtain⟨k,c',hk,he,_⟩:=KQ hc
   obtain⟨d,hd⟩:=Hl hk
   have hkd:=F8.shape1 hs (De.2 ⟨d,hd⟩)
   unfold F8.to at he
   by_cases hl:k<e.n0
   ·rw[if_pos hl]at he
    have hda:EK e.bl0 k=true:=by rcases hkd.2 with h | h;omega;exact h
    obtain⟨c0,hc0⟩:=De.1 hda
    exact hS (SU.2 ⟨k,c0,Gq hc0,he.symm⟩)
   ·rw[if_neg hl]at he;omega
  | none=>
   simp only[]
   rw[Gr (q:=fun k=>!e.old ρ k),if_pos (by
    cases ho:e.old ρ b with
    | true=>exact(hS ho).elim
    | false=>rfl),A5]
end
end
end Go.Og
namespace Go.Og
noncomputable section
section
variable {p:Nat->Bool} {ρ τ:Nat->Nat}
mutual
theorem rn_congr (h:∀b,p b=true->ρ b=τ b):∀v:V,V.inn p v=true->V.rn ρ v=V.rn τ v
 | .dead,hc=>by simp[V.inn]at hc
 | .ptr b o,hc=>by simp only[V.inn]at hc;simp only[V.rn,h b hc]
 | .sl b o n c,hc=>by simp only[V.inn]at hc;simp only[V.rn,h b hc]
 | .sle b o k e,hc=>by simp only[V.inn]at hc;simp only[V.rn,h b hc]
 | .mp b,hc=>by simp only[V.inn]at hc;simp only[V.rn,h b hc]
 | .bool _,_=>rfl
 | .int _ _,_=>rfl
 | .str _,_=>rfl
 | .nilp,_=>rfl
 | .nils,_=>rfl
 | .nilm,_=>rfl
 | .nilf,_=>rfl
 | .nili,_=>rfl
 | .fn f a c,hc=>by
  simp only[V.inn,AG]at hc
  simp only[V.rn,HS h a hc.1,HS h c hc.2]
 | .ifc t v,hc=>by
  simp only[V.inn]at hc
  simp only[V.rn,rn_congr h v hc]
 | .agg l,hc=>by
  simp only[V.inn]at hc
  simp only[V.rn,HS h l hc]
 | .tup l,hc=>by
  simp only[V.inn]at hc
  simp only[V.rn,HS h l hc]
theorem HS (h:∀b,p b=true->ρ b=τ b):∀l:List V,Jx p l=true->Qf ρ l=Qf τ l
 | [],_=>rfl
 | v::l,hc=>by
  simp only[Jx,AG]at hc
  simp only[Qf,rn_congr h v hc.1,HS h l hc.2]
end
theorem Qg (h:∀b,p b=true->ρ b=τ b):∀l:List (V × V),dV p l=true->w9 ρ l=w9 τ l
 | [],_=>rfl
 | q::l,hc=>by
  simp only[dV,AG]at hc
  simp only[w9,rn_congr h q.1 hc.1.1,rn_congr h q.2 hc.1.2,Qg h l hc.2]
theorem GM.rn_congr (h:∀b,p b=true->ρ b=τ b) {b:GM} (hc:b.inn p=true):b.rn ρ=b.rn τ:=by
 cases b with
 | cells l=>exact congrArg GM.cells (HS h l hc)
 | map l=>exact congrArg GM.map (Qg h l hc)
 | siter s q=>rfl
 | unit t=>rfl
end
def F8.still (e:F8):Bool:=dW e.bl0 e.bl1&&(Y9 e.bl0 (EK e.bl0)&&dW e.bl0 e.bl0)
section
variable {e:F8} {ρ:Nat->Nat} {args:List V} {U:H}
theorem F8.fr0 (hs:e.shape=true) (hw:e.still=true) (hm:e.Fits ρ args U) (ht:Ar U):Fr AL U (e.ans ρ U).2:=by
 have f:=F8.fr hs hm ht
 have hh:=F8.has hs hm ht
 unfold F8.still at hw
 simp only[AG]at hw
 obtain⟨h1,h2,h3⟩:=hw
 refine⟨f.tidy,f.le,fun b hb _=>?_⟩
 by_cases ho:e.old ρ b=true
 ·obtain⟨k,c,hk,rfl⟩:=SU.1 ho
  have l0:=OD h3 (k,c) hk
  have l1:=OD h1 (k,c) hk
  have hd:EK e.bl0 k=true:=De.2 ⟨_,l0⟩
  have hlt:=F8.shape0 hs hd
  have a1:=hh k c l1
  have et:e.to ρ U k=ρ k:=by unfold F8.to;rw[if_pos hlt]
  rw[et]at a1
  rw[a1,A5,hm.bl k c l0]
  congr 1
  refine(GM.rn_congr (p:=EK e.bl0) (fun b hb=>?_) (PN h2 l0)).symm
  unfold F8.to
  rw[if_pos (F8.shape0 hs hb)]
 ·exact f.same b hb ho
end
end
end Go.Og
namespace Go.Og
noncomputable section
section
variable {E:EB} {U U':H} {b b':Nat} {l m:List V}
theorem AZ {J:V->AF} {o:Nat} (h:CQ U b l):EG E U b o J=JY l o J:=SQ h
theorem BX {J:List V->AF} {o n:Nat} (h:CQ U b l):Bv E U b o n J=EI l o n J:=SQ h
theorem HU {a:V} {J:V->AF}:JY (a::l) 0 J=J a:=rfl
theorem HV {a:V} {n:Nat} {J:V->AF}:JY (a::l) (n+1) J=JY l n J:=rfl
theorem Mm {a b:V} {J:List V->AF}:EI [a,b] 0 2 J=J [a,b]:=rfl
theorem Ml {a b c d:V} {J:List V->AF}:EI [a,b,c,d] 0 4 J=J [a,b,c,d]:=rfl
theorem Mj {a b c d e:V} {J:List V->AF}:EI [a,b,c,d,e] 0 4 J=J [a,b,c,d]:=rfl
theorem Mi {a b c d e f:V} {J:List V->AF}:EI [a,b,c,d,e,f] 0 6 J=J [a,b,c,d,e,f]:=rfl
theorem KJ {a b c d e f g h i j k l m:V} {J:List V->AF}:EI [a,b,c,d,e,f,g,h,i,j,k,l,m] 0 13 J=J [a,b,c,d,e,f,g,h,i,j,k,l,m]:=rfl
theorem IT {a b c d e f g h i j k l m:V} {J:List V->AF}:EI [a,b,c,d,e,f,g,h,i,j,k,l,m] 2 6 J=J [c,d,e,f,g,h]:=rfl
theorem Cl (l:List V):(V.agg l).cells=l:=rfl
theorem Fm (k:IntKind) (n:Int):(V.int k n).cells=[.int k n]:=rfl
theorem HY (b o:Nat):(V.ptr b o).cells=[.ptr b o]:=rfl
theorem BC (v:V) (l:List V):An (v::l)=(v.one&&An l):=rfl
theorem BP:An []=true:=rfl
theorem Ed (k:IntKind) (n:Int):(V.int k n).one=true:=rfl
theorem ET (c:Bool):(V.bool c).one=true:=rfl
theorem Dg (s:BS):(V.str s).one=true:=rfl
theorem Fu:V.nils.one=true:=rfl
theorem Mq (b o n:Nat) (c:Ri):(V.sl b o n c).one=true:=rfl
theorem KL (b o:Nat):(V.ptr b o).one=true:=rfl
theorem Q3 (a:AF):GK true a=a:=rfl
theorem GR {a:AF}:CB .nils a=a:=rfl
theorem Ic {b o:Nat} {a:AF}:CB (.ptr b o) a=a:=rfl
theorem Bl {v:V} {a:AF} (h:v.one=true):CB v a=a:=by cases v<;>first | rfl | cases h
theorem GO {J:Nat->AF}:A0 .nils J=J 0:=rfl
theorem IX {b o n:Nat} {c:Ri} {J:Nat->AF}:A0 (.sl b o n c) J=J n:=rfl
theorem Iw {n:Nat} {J:Nat->AF}:T4 (AA n) J=J n:=rfl
theorem eL {c:Bool} {a b:AF} (h:c=true):AI c a b=a:=by rw[h];rfl
theorem Q2 {c:Bool} {a b:AF} (h:c=false):AI c a b=b:=by rw[h];rfl
theorem yK {c:Bool} {a:AF} (h:c=true):GK c a=a:=by rw[h];rfl
theorem KS (f:Bool->H->AF) (c d:Bool) (U:H):Af f (fun k=>AI c (k true U) (k d U))=f (c || d) U:=by cases c<;>rfl
theorem Gs (f:Bool->H->AF) (c d:Bool) (U:H):Af f (fun k=>AI c (k d U) (k false U))=f (c&&d) U:=by cases c<;>rfl
theorem I5 (f:Bool->H->AF) (c:Bool) (U:H):Af f (fun k=>k c U)=f c U:=rfl
def DL (U:H) (esz n:Nat) (x:V) (m:List V):Prop:=(n=0/\x = .nils/\m=[])\/∃b o c L,x = .sl b o n c/\CQ U b L/\o+n*esz<=L.length/\m=(L.drop o).take (n*esz)
def DM (U:H) (esz k:Nat) (v:V) (l:List V):Prop:=Sl U esz k v l\/∃b,v = .sl b 0 k (.ex k)/\CQ U b l/\l.length=k*esz
theorem DL.one {esz n:Nat} {x:V} (h:DL U esz n x m):x.one=true:=by
 rcases h with ⟨_,rfl,_⟩|⟨_,_,_,_,rfl,_⟩<;>rfl
theorem DL.slen {esz n:Nat} {x:V} {J:Nat->AF} (h:DL U esz n x m):A0 x J=J n:=by
 rcases h with ⟨rfl,rfl,_⟩|⟨_,_,_,_,rfl,_⟩<;>rfl
theorem DL.length {esz n:Nat} {x:V} (h:DL U esz n x m):m.length=n*esz:=by
 rcases h with ⟨rfl,_,rfl⟩|⟨_,o,_,L,_,_,h,rfl⟩
 ·simp
 ·simp only[BY,CA];omega
theorem DL.srcK {esz n:Nat} {x:V} {J:Nat->List V->AF} (h:DL U esz n x m):srcK E U esz x J=J n m:=by
 rcases h with ⟨rfl,rfl,rfl⟩|⟨b,o,c,L,rfl,ha,hl,rfl⟩
 ·rfl
 ·exact YR ha hl
theorem DL.cells {esz n:Nat} {x:V} (h:DL U esz n x m):C1 E U esz x=some (n,m):=by
 rcases h with ⟨rfl,rfl,rfl⟩|⟨b,o,c,L,rfl,ha,hl,rfl⟩
 ·rfl
 ·show (Lq E U b o (n*esz)).map _=_
  unfold Lq rd
  rw[<-A5,show BU U.bl b=some (.cells L)from ha]
  simp only[]
  rw[show Ag (o+n*esz) L.length=true from II hl]
  rfl
theorem DL.fr {S:Nat->Prop} {esz n:Nat} {x:V} (h:DL U esz n x m) (f:Fr S U U') (ht:Ar U) (hn:∀b,AJ x b->¬S b):DL U' esz n x m:=by
 rcases h with h|⟨b,o,c,L,rfl,ha,hl,rfl⟩
 ·exact .inl h
 ·exact .inr ⟨b,o,c,L,rfl,f.at_ ha ht (hn b rfl),hl,rfl⟩
theorem DL.lt {esz n:Nat} {x:V} (h:DL U esz n x m) (ht:Ar U) (hb:AJ x b):b<U.next:=by
 rcases h with ⟨_,rfl,_⟩|⟨_,_,_,_,rfl,ha,_⟩
 ·exact hb.elim
 ·cases hb;exact ha.lt ht
theorem DM.nil (U:H) (esz:Nat):DM U esz 0 .nils [] := .inl (Sl.nil U esz)
theorem DM.length {esz k:Nat} {v:V} (h:DM U esz k v l):l.length=k*esz:=by
 rcases h with h|⟨_,_,_,h⟩
 ·exact h.length
 ·exact h
theorem DM.one {esz k:Nat} {v:V} (h:DM U esz k v l):v.one=true:=by
 rcases h with h|⟨_,rfl,_⟩
 ·exact h.one
 ·rfl
theorem DM.slen {esz k:Nat} {v:V} {J:Nat->AF} (h:DM U esz k v l):A0 v J=J k:=by
 rcases h with h|⟨_,rfl,_⟩
 ·exact h.slen
 ·rfl
theorem DM.lt {esz k:Nat} {v:V} (h:DM U esz k v l) (ht:Ar U) (hb:AJ v b):b<U.next:=by
 rcases h with h|⟨_,rfl,ha,_⟩
 ·exact h.lt ht hb
 ·cases hb;exact ha.lt ht
theorem DM.fr {S:Nat->Prop} {esz k:Nat} {v:V} (h:DM U esz k v l) (f:Fr S U U') (ht:Ar U) (hn:∀b,AJ v b->¬S b):DM U' esz k v l:=by
 rcases h with h|⟨b,rfl,ha,hl⟩
 ·exact .inl (h.fr f ht hn)
 ·exact .inr ⟨b,rfl,f.at_ ha ht (hn b rfl),hl⟩
theorem DM.src {esz k:Nat} {v:V} (h:DM U esz k v l):DL U esz k v l:=by
 rcases h with (⟨rfl,rfl,rfl⟩|⟨b,rfl,ha,_,hl⟩)|⟨b,rfl,ha,hl⟩
 ·exact .inl ⟨rfl,rfl,rfl⟩
 ·exact .inr ⟨b,0,_,l,rfl,ha,by omega,by rw[FI,<-hl,EN]⟩
 ·exact .inr ⟨b,0,_,l,rfl,ha,by omega,by rw[FI,<-hl,EN]⟩
def P5 (v:V) (n:Nat):Prop:=v.one=true/\∀J:Nat->AF,A0 v J=J n
theorem P5.nils:P5 .nils 0:=⟨rfl,fun _=>rfl⟩
theorem P5.sl {b o n:Nat} {c:Ri}:P5 (.sl b o n c) n:=⟨rfl,fun _=>rfl⟩
theorem VP {esz bytes k:Nat} {v x:V} {J:V->H->AF} (h:DM U esz k v l) (hx:DL U esz 0 x m):DV E esz bytes v x U J=J v U:=by
 unfold DV
 rw[hx.srcK]
 rcases h with (⟨rfl,rfl,rfl⟩|⟨b,rfl,ha,_,hl⟩)|⟨b,rfl,ha,hl⟩
 ·show CM (C6 E esz bytes .nils x U) J=_
  unfold C6;rw[hx.cells];rfl
 ·rfl
 ·show CM (C6 E esz bytes (.sl b 0 k (.ex k)) x U) J=_
  unfold C6;rw[hx.cells]
  simp only[]
  rw[if_pos (show Ag (k+0) k=true from II (AK _))]
  rfl
theorem jo {esz bytes k n:Nat} {v x:V} (h:DM U esz k v l) (ht:Ar U) (hx:DL U esz n x m) (hn:0<n) (ho:An m=true) (hg:Bw (k+n) bytes=true) :
  ∃U',(∀J:V->H->AF,DV E esz bytes v x U J=J (.sl U.next 0 (k+n) (.op esz)) U')/\CQ U' U.next (l++m)/\U'.next=U.next+1/\Fr (AJ v) U U':=by
 obtain⟨n',rfl⟩:∃q,n=q+1:=⟨n-1,by omega⟩
 rcases h with (⟨rfl,rfl,rfl⟩|⟨b,rfl,ha,hk,hl⟩)|⟨b,rfl,ha,hl⟩
 ·refine⟨Br U (.cells m),fun J=>?_,by rw[Ff];exact Gz m,rfl,Fr.new ht _⟩
  unfold DV
  rw[hx.srcK]
  show CM (C6 E esz bytes .nils x U) J=_
  unfold C6;rw[hx.cells]
  simp only[]
  rw[BA]at hg ⊢
  rw[if_neg (by omega),if_pos hg]
  rfl
 ·refine⟨⟨U.next+1,(U.next,.cells (l++m))::drop U.bl b⟩,fun J=>?_,?_,rfl,?_⟩
  ·unfold DV
   rw[hx.srcK]
   show (match BU U.bl b with
    | some (.cells l)=>GK (Ak l.length (k*esz)&&Ak esz esz&&Bw (k+(n'+1)) bytes&&An m) (O6 U.bl b fun bl'=>J (.sl U.next 0 (k+(n'+1)) (.op esz)) ⟨U.next+1,(U.next,.cells (l++m))::bl'⟩)
    | _=>none)=_
   rw[show BU U.bl b=some (.cells l)from ha]
   simp only[]
   rw[FP (by rw[hg,ho,hl];simp),Mv]
  ·show BU ((U.next,GM.cells (l++m))::_) _=_
   rw[Au,if_pos rfl]
  ·refine⟨fun k' hk'=>?_,EM _,fun k' hk' hn=>?_⟩
   ·have hk2:U.next+1<=k':=hk'
    show BU ((U.next,_)::drop U.bl b) k'=none
    rw[Au,if_neg (by simp only[];omega),I1]
    split
    ·rfl
    ·exact ht k' (by omega)
   ·show BU ((U.next,_)::drop U.bl b) k'=_
    rw[Au,if_neg (by simp only[];omega),I1,if_neg]
    intro hbk
    exact hn hbk.symm
 ·refine⟨Br U (.cells (l++m)),fun J=>?_,Gz _,rfl,Fr.new ht _⟩
  unfold DV
  rw[hx.srcK]
  show CM (C6 E esz bytes (.sl b 0 k (.ex k)) x U) J=_
  unfold C6;rw[hx.cells]
  simp only[]
  rw[if_neg (show ¬Ag (k+(n'+1)) k=true from fun h=>by rw[Ac]at h;omega),if_pos hg]
  have hr:Lq E U b 0 (k*esz)=some l:=by
   unfold Lq rd
   rw[<-A5,show BU U.bl b=some (.cells l)from ha]
   simp only[]
   rw[show Ag (0+k*esz) l.length=true from II (by omega)]
   rw[FI,<-hl,EN];rfl
  rw[hr]
  rfl
theorem Du {esz bytes k n:Nat} {v x:V} (h:DM U esz k v l) (ht:Ar U) (hx:DL U esz n x m) (ho:An m=true) (hg:Bw (k+n) bytes=true) :
  ∃u U',(∀J:V->H->AF,DV E esz bytes v x U J=J u U')/\DM U' esz (k+n) u (l++m)/\(∀b,AJ u b->AJ v b\/U.next<=b)/\Fr (AJ v) U U':=by
 cases n with
 | zero=>
  have hm:m=[]:=BW (by rw[hx.length];omega)
  subst hm
  exact⟨v,U,fun J=>VP h hx,by rw[EC];exact h,fun b hb => .inl hb,Fr.refl ht⟩
 | succ n=>
  obtain⟨U',g,a,nx,f⟩:=jo (E:=E) h ht hx (Nat.succ_pos n) ho hg
  refine⟨_,U',g,.inl (.inr ⟨U.next,rfl,a,by omega,?_⟩),fun b hb => .inr (by cases hb;exact AK _),f⟩
  rw[AS,h.length,hx.length,<-fN]
theorem rP0:(∀(a:V) (l:List V) (J:V->AF),JY (a::l) 0 J=J a)/\(∀(a:V) (l:List V) (n:Nat) (J:V->AF),JY (a::l) (n+1) J=JY l n J) /\
  (∀(a b:V) (J:List V->AF),EI [a,b] 0 2 J=J [a,b])/\(∀(a b c d:V) (J:List V->AF),EI [a,b,c,d] 0 4 J=J [a,b,c,d])/\(∀(a b c d e:V) (J:List V->AF),EI [a,b,c,d,e] 0 4 J=J [a,b,c,d]) /\
  (∀(a b c d e f:V) (J:List V->AF),EI [a,b,c,d,e,f] 0 6 J=J [a,b,c,d,e,f])/\(∀(a b c d e f g h i j k l m:V) (J:List V->AF),EI [a,b,c,d,e,f,g,h,i,j,k,l,m] 0 13 J=J [a,b,c,d,e,f,g,h,i,j,k,l,m]) /\
  (∀(a b c d e f g h i j k l m:V) (J:List V->AF),EI [a,b,c,d,e,f,g,h,i,j,k,l,m] 2 6 J=J [c,d,e,f,g,h]) /\
  (∀(k:IntKind) (n:Int) (J:Int->AF),Ch k (.int k n) J=J n)/\(∀(b:Bool) (J:Bool->AF),Ct (.bool b) J=J b)/\(∀(s:BS) (J:BS->AF),G7 (.str s) J=J s)/\(∀(b o:Nat) (J:Nat->Nat->AF),B4 (.ptr b o) J=J b o) /\
  (∀(l:List V) (J:List V->AF),CW (.agg l) J=J l)/\(∀(l:List V) (J:List V->AF),L0 (.tup l) J=J l)/\(∀(v:V) (l:List V) (J:V->List V->AF),Ae (v::l) J=J v l)/\(∀a:AF,BJ [] a=a) /\
  (∀a:AF,CB .nils a=a)/\(∀(b o:Nat) (a:AF),CB (.ptr b o) a=a)/\(∀(b o n:Nat) (c:Ri) (a:AF),CB (.sl b o n c) a=a)/\(∀J:Nat->AF,A0 .nils J=J 0)/\(∀(b o n:Nat) (c:Ri) (J:Nat->AF),A0 (.sl b o n c) J=J n) /\
  (∀(v:V) (U:H) (J:V->H->AF),CM (some (v,U)) J=J v U)/\(∀(c:Bool) (a b:AF),c=true->AI c a b=a)/\(∀(c:Bool) (a b:AF),c=false->AI c a b=b)/\(∀(c:Bool) (a:AF),c=true->GK c a=a) /\
  (∀(f:Bool->H->AF) (g:(Bool->H->AF)->AF),Af f g=g f)/\(∀(k:IntKind) (n:Int) (l:List V) (J:Int->List V->AF),Dy k (.int k n::l) J=J n l)/\(∀(b:Bool) (l:List V) (J:Bool->List V->AF),Lr (.bool b::l) J=J b l)/\(∀(s:BS) (l:List V) (J:BS->List V->AF),T0 (.str s::l) J=J s l)/\(∀(l:List V) (U:H) (J:H->AF),Ix l U J=GK (An l) (J (Br U (.cells l)))):=
 ⟨fun _ _ _=>rfl,fun _ _ _ _=>rfl,fun _ _ _=>rfl,fun _ _ _ _ _=>rfl,fun _ _ _ _ _ _=>rfl,fun _ _ _ _ _ _ _=>rfl,fun _ _ _ _ _ _ _ _ _ _ _ _ _ _=>rfl,fun _ _ _ _ _ _ _ _ _ _ _ _ _ _=>rfl,
  E7,fun _ _=>rfl,fun _ _=>rfl,fun _ _ _=>rfl,fun _ _=>rfl,fun _ _=>rfl,fun _ _ _=>rfl,fun _=>rfl,fun _=>rfl,fun _ _ _=>rfl,fun _ _ _ _ _=>rfl,fun _=>rfl,fun _ _ _ _ _=>rfl,
  fun _ _ _=>rfl,fun _ _ _ h=>eL h,fun _ _ _ h=>Q2 h,fun _ _ h=>yK h,fun _ _=>rfl,fun k n l J=>E7 k n fun n=>J n l,fun _ _ _=>rfl,fun _ _ _=>rfl,fun _ _ _=>rfl⟩
theorem rC0:(∀(k:IntKind) (n:Int) (l:List V) (J:Int->List V->AF),Dy k (.int k n::l) J=J n l)/\(∀(b:Bool) (l:List V) (J:Bool->List V->AF),Lr (.bool b::l) J=J b l)/\(∀(s:BS) (l:List V) (J:BS->List V->AF),T0 (.str s::l) J=J s l)/\(∀(l:List V) (U:H) (J:H->AF),Ix l U J=GK (An l) (J (Br U (.cells l)))):=
 ⟨fun k n l J=>E7 k n fun n=>J n l,fun _ _ _=>rfl,fun _ _ _=>rfl,fun _ _ _=>rfl⟩
theorem rP:type_of% (Aj rZ rP0):=⟨rZ,rP0⟩
theorem rC:type_of% (Aj rZ rC0):=⟨rZ,rC0⟩
theorem rS:(∀l:List V,(V.agg l).cells=l)/\(∀(k:IntKind) (n:Int),(V.int k n).cells=[.int k n])/\(∀b o:Nat,(V.ptr b o).cells=[.ptr b o])/\(∀(v:V) (l:List V),An (v::l)=(v.one&&An l))/\(An []=true) /\
  (∀(k:IntKind) (n:Int),(V.int k n).one=true)/\(∀c:Bool,(V.bool c).one=true)/\(∀s:BS,(V.str s).one=true)/\(V.nils.one=true)/\(∀(b o n:Nat) (c:Ri),(V.sl b o n c).one=true)/\(∀b o:Nat,(V.ptr b o).one=true) /\
  (∀b:Bool,(b&&true)=b)/\(∀a b:Nat,AP a b=a+b)/\(∀n:Nat,0+n=n)/\((!true)=false)/\((!false)=true):=
 ⟨fun _=>rfl,fun _ _=>rfl,fun _ _=>rfl,fun _ _=>rfl,rfl,fun _ _=>rfl,fun _=>rfl,fun _=>rfl,rfl,fun _ _ _ _=>rfl,fun _ _=>rfl,A8,fun _ _=>rfl,BA,rfl,rfl⟩
theorem rQ:(∀m n:Nat,Bt (AA m) (AA n)=decide (m=n))/\(∀m n:Nat,Ci (AA m) (AA n)=decide (m<n))/\(∀m n:Nat,I3 (AA m) (AA n)=decide (m<=n)) /\
  (∀b:Bool,(false || b)=b)/\(∀b:Bool,(true || b)=true)/\(∀b:Bool,(b || false)=b)/\(∀b:Bool,(b || true)=true)/\(∀b:Bool,(false&&b)=false)/\(∀b:Bool,(true&&b)=b)/\(∀b:Bool,(b&&false)=false):=
 ⟨KX,C5,OC,Dc,Bool.true_or,Bool.or_false,tO,ABe,Co,ABf⟩
theorem rD:(∀h:Decidable False,@decide False h=false)/\(∀h:Decidable True,@decide True h=true):=⟨fun _=>decide_false _,fun _=>decide_true _⟩
theorem rA:type_of% (Aj rS (Aj rQ rD)):=⟨rS,rQ,rD⟩
end
end
end Go.Og
namespace Go.Og
open Go Go.RowKit Go.Deep
theorem Ow {P:Program} {G:Nat->Bool} {f:FuncId} {F:List V->H->AF} {E:EB} (hS:Ce P E G f F) {ng n0:Nat} (hG:∀g,G g=true->g<ng) (hn:ng<=n0) (l:List (Nat × BI)) (args:List V) (xs:List Value) (w:World)
  (hl:∀id i,look l id=some i->id<n0) (hE:∀id b,look E id=some b->∃i,PL ng l id=some i/\Ip (PL ng l) i b w) (hx:A1 (PL ng l) args=some xs) (h:okB (F args ⟨n0,[]⟩)=true) :
  Calls P f xs.toArray w fun e w'=>e = .returned (.bool true)/\RowKit.Below w.heap.size w w':=by
 obtain⟨U,hσ⟩:=iD h
 obtain⟨_,hc⟩:=hS ⟨fun blk=>w.heap.size<=blk,w,E,G⟩ rfl rfl (PL ng l) ⟨n0,[]⟩ w args xs _ U hσ (We hG hn l E w hl hE) hx
 refine hc.mono ?_
 rintro en w' ⟨R',x,_,_,h3,h4,rfl⟩
 cases h4
 exact⟨rfl,h3.os,h3.tape,h3.output,h3.size,fun k hk=>h3.fr k (Nat.not_le.2 hk)⟩
theorem js (b o i:Nat):(⟨b,o,none⟩:Addr).add i=⟨b,o+i,none⟩:=by
 unfold Addr.add
 split
 ·rename_i h;subst h;rfl
 ·rfl
section
variable {H:Type} {enc:TypeId × Value->H} {P:Program} {w:World} {t e:TypeId} {d:DataW H} {ps:List MemPlace} {blk off len cap:Nat}
theorem dB (ht:P.underlying t=some (.slice e)) (hc:P.cellsOf e=1) (h:DataW.Trod enc P w 0 (fun _=>true) true t (.slice (some ⟨blk,off,none⟩) len cap) d ps) :
  ∃V:Nat->Value,∀i,i<len->w.cell? ⟨blk,off+i,none⟩=some (V i)/\∃n D p,DataW.trod enc P w 0 (fun _=>true) true n e [V i]=some (D,p):=by
 obtain⟨fuel,hf⟩:=h
 rcases open_slice1 ht hc hf with ⟨h0,_⟩|⟨a,len',cap',m,n,V,D,Pl,hcs,_,hl,_,hm,_,hx⟩
 ·simp[Value.cells]at h0
 ·simp only[Value.cells,List.cons.injEq,Value.slice.injEq,AQ.injEq,and_true]at hcs
  obtain⟨rfl,rfl,rfl⟩:=hcs
  refine⟨V,fun i hi=>?_⟩
  obtain⟨h1,h2⟩:=hx i (by rw[hm];simp only[if_true];omega)
  rw[js]at h1
  exact⟨h1,_,_,_,h2⟩
theorem gZ {k:IntKind} (ht:P.underlying t=some (.slice e)) (he:P.underlying e=some (.int k)) (hc:P.cellsOf e=1) (h:DataW.Trod enc P w 0 (fun _=>true) true t (.slice (some ⟨blk,off,none⟩) len cap) d ps) :
  ∃B:Nat->Int,∀i,i<len->w.cell? ⟨blk,off+i,none⟩=some (.int k (B i))/\(Lit.int k (B i)).wf=true:=by
 obtain⟨V,hV⟩:=dB ht hc h
 have:∀i,i<len->∃b,V i = .int k b/\(Lit.int k b).wf=true:=fun i hi=>by
  obtain⟨_,n,D,p,h2⟩:=hV i hi
  cases n with
  | zero=>simp[DataW.trod]at h2
  | succ n=>
   unfold DataW.trod at h2
   rw[he]at h2
   split at h2<;>simp_all
 obtain⟨B,hB⟩:=choose_lt this
 exact⟨B,fun i hi=>⟨by rw[(hV i hi).1,(hB i hi).1],(hB i hi).2⟩⟩
end
theorem VN {w:World} {blk off:Nat} {v:Value} (h:w.cell? ⟨blk,off,none⟩=some v):∃arr el fr,w.heap[blk]? = some (.cells arr el fr)/\arr[off]? = some v:=by
 unfold World.cell? at h
 simp only[]at h
 split at h
 ·rename_i c el fr hh
  exact⟨c,el,fr,hh,by simpa using h⟩
 ·cases h
theorem qt {R:Cz} {w:World} {blk off:Nat} {l:List V} (hne:l≠[]) (h:∀k v,l[k]? = some v->∃a,Ao R v=some a/\a.oneCell'=true/\w.cell? ⟨blk,off+k,none⟩=some a):Ip R ⟨blk,off,0⟩ (.cells l) w:=by
 cases l with
 | nil=>exact(hne rfl).elim
 | cons u l=>
  obtain⟨a,_,_,h0⟩:=h 0 u rfl
  obtain⟨arr,el,fr,h1,_⟩:=VN h0
  refine⟨arr,el,fr,h1,fun k v hk=>?_⟩
  obtain⟨a',h2,h3,h4⟩:=h k v hk
  obtain⟨arr',el',fr',h5,h6⟩:=VN h4
  rw[h1]at h5
  cases h5
  exact⟨a',h2,h3,h6⟩
theorem qu {R:Cz} {w:World} {id:Nat} {i:BI} {b:GM} (hR:R id=some i) (h:Ip R i b w):∀id' b',look [(id,b)] id'=some b'->∃j,R id'=some j/\Ip R j b' w:=by
 intro id' b' hb
 simp only[look]at hb
 split at hb
 ·rename_i he
  have:=Bo he
  subst this
  cases hb
  exact⟨i,hR,h⟩
 ·cases hb
theorem iw {R:Cz} {w:World} {blk off len:Nat} {f:Nat->V} {g:Nat->Value} (hc:∀i,Ao R (f i)=some (g i)/\(g i).oneCell'=true) (h:∀i,i<len->w.cell? ⟨blk,off+i,none⟩=some (g i)) (h0:len≠0):Ip R ⟨blk,off,0⟩ (.cells ((Da len).map f)) w:=by
 refine qt (by simp[h0]) fun k v hk=>?_
 rw[Aw,Aa]at hk
 obtain⟨j,hj,rfl⟩:=hk
 obtain⟨hj1,rfl⟩:=AY.1 hj
 have hk':k<len:=by simpa using hj1
 refine⟨g k,?_,(hc k).2,h k hk'⟩
 simp[(hc k).1]
end Go.Og
namespace Go.Og
noncomputable section
def P4 (E:EB) (U:H) (n:Nat) (S:Nat->Prop) (o:Eb) (e:B6) (v:V):Prop:=V.beq v v=true/\∀(nx:Nat) (h:EB) (p:Nat->Bool),(∀id,id<U.next->¬S id->look h id=look U.bl id)->Cf E o e ⟨nx,CS U.next n p h⟩=some v
structure Ev (E:EB) (U:H) (n:Nat) (S:Nat->Prop) (nx:Nat) (ss:List (EB)) (am:Nat) (ls:List (Nat × Eb × B6 × V)) (Uc:H):Prop where
 hd:nx=Uc.next/\∃r,ss=Uc.bl::r
 big:U.next+n<=nx
 fr:Fr S U Uc
 old:∀h∈ss,∀id,id<U.next->¬S id->look h id=look U.bl id
 gap:∀h∈ss,∀i,i<n->am.testBit i=false->look h (U.next+i)=none
 ld:∀x∈ls,P4 E U n S x.2.1 x.2.2.1 x.2.2.2
def Ll (E:EB) (D:Ai) (U:H) (n i:Nat) (S:Nat->Prop) (ops:List BO) (pl:List DP) (s:DS) (env:B6) (U':H):Prop:=∃s',CX E D U.next n i ops pl s=some s'/\s'.e=env/\Ev E U n S s'.nx s'.ss s'.am s'.ls U'
section
variable {E:EB} {D:Ai} {U Uc U':H} {n i:Nat} {S:Nat->Prop} {d:Option Nat} {o:Eb} {l:List BO} {anc:Nat} {lk:List Nat} {pl:List DP} {e env:B6} {nx am:Nat} {ss:List (EB)} {ks:List Nat} {ls:List (Nat × Eb × B6 × V)}
theorem O5 (hr:Ev E U n S nx ss am ls Uc):Ll E D U n i S [] pl ⟨e,nx,ss,ks,am,ls⟩ e Uc:=⟨_,Hi,rfl,hr⟩
theorem Eo (v:V) (hc:o.cls = .p) (hv:BV o (restr lk e)=some v) (k:Ll E D U n (i+1) S l pl ⟨Cu e d v,nx,ss,ks,am,ls⟩ env U'):Ll E D U n i S (⟨d,o,none⟩::l) (⟨anc,lk⟩::pl) ⟨e,nx,ss,ks,am,ls⟩ env U':=by
 obtain⟨s',h1,h2,h3⟩:=k
 exact⟨s',(dp v hc hv).trans h1,h2,h3⟩
theorem N0 (v:V) (hr:Ev E U n S nx ss am ls Uc) (hc:o.cls = .l) (hv:P4 E U n S o (restr lk e) v) (k:∀ls',Ev E U n S nx ss am ls' Uc->Ll E D U n (i+1) S l pl ⟨Cu e d v,nx,ss,ks,am,ls'⟩ env U') :
  Ll E D U n i S (⟨d,o,none⟩::l) (⟨anc,lk⟩::pl) ⟨e,nx,ss,ks,am,ls⟩ env U':=by
 obtain⟨⟨hn,r,rfl⟩,h2,h3,h4,h5,h6⟩:=hr
 obtain⟨s',k1,k2,k3⟩:=k ((i,o,restr lk e,v)::ls) ⟨⟨hn,r,rfl⟩,h2,h3,h4,h5,fun x hx=>by
  rcases Ax.1 hx with rfl|hx
  ·exact hv
  ·exact h6 x hx⟩
 exact⟨s',(dl v hc (hv.2 nx Uc.bl _ (h4 _ Ab))).trans k1,k2,k3⟩
theorem xk (v:V) (b:GM) (am':Nat) (hr:Ev E U n S nx ss am ls Uc) (hc:o.cls = .a) (hi:i<n) (ham:am ||| 2 ^ i=am') (hv:Cm o (restr lk e) (U.next+i)=some (v,b))
  (k:∀ss',Ev E U n S nx ss' am' ls ⟨Uc.next,(U.next+i,b)::Uc.bl⟩->Ll E D U n (i+1) S l pl ⟨Cu e d v,nx,ss',ks,am',ls⟩ env U') :
  Ll E D U n i S (⟨d,o,none⟩::l) (⟨anc,lk⟩::pl) ⟨e,nx,ss,ks,am,ls⟩ env U':=by
 obtain⟨⟨hn,r,rfl⟩,h2,h3,h4,h5,h6⟩:=hr
 subst ham
 suffices hr':Ev E U n S nx ((Uc.bl::r).map ((U.next+i,b)::·)) (am ||| 2 ^ i) ls ⟨Uc.next,(U.next+i,b)::Uc.bl⟩by
  obtain⟨s',k1,k2,k3⟩:=k _ hr'
  exact⟨s',(da v b (U.next+i) _ hc rfl rfl hv).trans k1,k2,k3⟩
 refine⟨⟨hn,_,rfl⟩,h2,⟨fun c hc=>?_,h3.le,fun c hc hS=>?_⟩,fun h hh id hid hS=>?_,fun h hh j hj hb=>?_,h6⟩
 ·have hc:Uc.next<=c:=hc
  show BU ((U.next+i,b)::Uc.bl) c=none
  rw[Au,if_neg (by simp only[];omega)];exact h3.tidy c hc
 ·show BU ((U.next+i,b)::Uc.bl) c=_
  rw[Au,if_neg (by simp only[];omega)];exact h3.same c hc hS
 ·obtain⟨h',hh',rfl⟩:=GA.1 hh
  rw[E8 (by omega)];exact h4 _ hh' id hid hS
 ·obtain⟨h',hh',rfl⟩:=GA.1 hh
  rw[Tt,Bd]at hb
  have hne:i≠j:=fun he=>by
   subst he
   have:=hb.2
   rw[AOO]at this
   cases this
  rw[E8 (by omega)];exact h5 _ hh' j hj hb.1
theorem QW (v:V) {U2:H} (hr:Ev E U n S nx ss am ls Uc) (hc:o.cls = .k) (hva:∀j,j<n->am.testBit j=true->anc.testBit j=true) {S':Nat->Prop} (hf:Fr S' Uc U2) (hS:∀b,b<U.next->S' b->S b) (hg:∀b,S' b->U.next<=b->b<U.next+n->False) (hv:Dx E D o (restr lk e) Uc=some (v,U2))
  (k:∀nx' ss' ks',Ev E U n S nx' ss' am ls U2->Ll E D U n (i+1) S l pl ⟨Cu e d v,nx',ss',ks',am,ls⟩ env U') :
  Ll E D U n i S (⟨d,o,none⟩::l) (⟨anc,lk⟩::pl) ⟨e,nx,ss,ks,am,ls⟩ env U':=by
 obtain⟨⟨hn,r,rfl⟩,h2,h3,h4,h5,h6⟩:=hr
 subst hn
 have le:=hf.le
 have f02:Fr S U U2:=h3.trans hf hS
 suffices hr':Ev E U n S U2.next (U2.bl::Uc.bl::r) am ls U2 by
  obtain⟨s',k1,k2,k3⟩:=k U2.next (U2.bl::Uc.bl::r) (i::ks) hr'
  refine⟨s',(dk v U2.next U2.bl hc (GZ fun j hj hp=>?_) hv).trans k1,k2,k3⟩
  refine h5 _ Ab j hj ?_
  cases ha:am.testBit j with
  | false=>rfl
  | true=>
   exfalso
   unfold DQ at hp
   rw[ha,hva j hj ha]at hp
   cases hp
 refine⟨⟨rfl,_,rfl⟩,by omega,f02,fun h hh id hid hS=>?_,fun h hh j hj hb=>?_,h6⟩
 ·rcases Ax.1 hh with rfl|hh
  ·rw[<-A5,<-A5];exact f02.same id hid hS
  ·exact h4 _ hh id hid hS
 ·rcases Ax.1 hh with rfl|hh
  ·have:=hf.same (U.next+j) (by omega) (fun hs=>hg _ hs (by omega) (by omega))
   rw[<-A5,this,A5]
   exact h5 _ Ab j hj hb
  ·exact h5 _ hh j hj hb
theorem CO (ht:Ar U):Ev E U n S (U.next+n) [U.bl] 0 [] ⟨U.next+n,U.bl⟩:=
  ⟨⟨rfl,[],rfl⟩,AK _,⟨ht.wide n,GF _ _,fun _ _ _=>rfl⟩,fun h hh id hid _=>by rw[Cn.1 hh],fun h hh i hi _=>by
    rw[Cn.1 hh];exact ht.gap n _ (by omega) (by omega),fun x hx=>by cases hx⟩
theorem Ih {op:Eb} {em:B6} {v:V} {j:Nat} (hv:P4 E U n S op em v):∀(ss:List (EB)) (ks more:List Nat),(∀h∈ss,∀id,id<U.next->¬S id->look h id=look U.bl id)->FE E U.next n pl am j op em v ss ks more=true
 | [],_,_,_=>by unfold FE;rfl
 | h::ss,ks,more,ho=>by
  unfold FE
  rw[hv.2 0 h _ (ho h Ab)]
  simp only[hv.1,tO,Co]
  cases ks with
  | nil=>rfl
  | cons k ks=>exact Ih hv ss ks (k::more) fun h' hh=>ho h' (BM _ hh)
theorem ME {ops:List BO} (h:Ll E D U ops.length 0 S ops pl ⟨e,U.next+ops.length,[U.bl],[],0,[]⟩ env U'):AT E D ops pl e U=some (env,U')/\Fr S U U':=by
 obtain⟨s',h1,rfl,⟨hn,r,hs⟩,_,h3,h4,h5,h6⟩:=h
 refine⟨?_,h3⟩
 rw[PD h1 (Dk.2 fun x hx=>Ih (h6 x hx) _ _ _ h4) hs]
 have:=(GZ (n0:=U.next) (n:=ops.length) (p:=fun k=>s'.am.testBit k) (l:=U'.bl) fun i hi hp=>h5 _ (by rw[hs];exact Ab) i hi hp).1
 rw[this,hn]
theorem DC {x:AO} {em:B6} {b off:Nat} {c:List V} {v:V} (hx:CP em x = .ptr b off) (ha:CQ U b c) (hv:c[off]? = some v) (ht:Ar U) (hS:¬S b) (hb:V.beq v v=true):P4 E U n S (.load none x) em v:=
  ⟨hb,fun nx h p ho=>qf hx (by
    have lt:=ha.lt ht
    rw[IF lt,ho b lt hS,<-A5];exact ha) hv⟩
theorem iP {x:AO} {e:B6} {b off nx n:Nat} {h:EB} {c:List V} (hx:CP e x = .ptr b off) (hl:look h b=some (.cells c)) (hv:Ag (off+n) c.length=true) :
  Cf E (.load (some n) x) e ⟨nx,h⟩=some (.agg ((c.drop off).take n)):=by
 unfold Cf
 simp only[hx,Lq,rd,hl]
 rw[if_pos hv]
theorem KM {x:AO} {em:B6} {b off m:Nat} {c c':List V} (hx:CP em x = .ptr b off) (ha:CQ U b c) (hv:Ag (off+m) c.length=true) (hc:(c.drop off).take m=c') (ht:Ar U) (hS:¬S b) (hb:V.beq (.agg c') (.agg c')=true):P4 E U n S (.load (some m) x) em (.agg c'):=
  ⟨hb,fun nx h p ho=>by
    have lt:=ha.lt ht
    rw[<-hc]
    exact iP hx (by rw[IF lt,ho b lt hS,<-A5];exact ha) hv⟩
theorem W7 {ty:TypeId} {x:AO} {em:B6} {id:Nat} {u:V} (hx:CP em x=u) (h:u.one=true):Cm (.buildSlice ty 1 [.nils] [(0,1,x)]) em id=some (.sl id 0 1 (.ex 1),.cells [u]):=by
 have h12:u.live=true/\u.cells=[u]:=by cases u<;>first | exact⟨rfl,rfl⟩ | cases h
 show (match Ez [(0,1,CP em x)] [V.nils]with
  | some l=>if An l then some (V.sl id 0 1 (.ex 1),GM.cells l)else none
  | none=>none)=_
 rw[hx]
 unfold Ez
 rw[h12.1,h12.2]
 show (if(u.one&&true)=true then _ else none)=_
 rw[h];rfl
end
section
variable {E:EB} {D:Ai} {U:H}
theorem Cp {v:V} (h:v.one=true):v.live=true:=by cases v<;>first | rfl | cases h
theorem H6 {f:FuncId} {args:List AO} {e:B6} {vs:List V} {r:AF} (hx:Fo e args=vs) (hl:vs.all V.live=true) (g:D f vs U=r):Dx E D (.call f args) e U=r:=by
 show (if(Fo e args).all V.live then D f (Fo e args) U else none)=r
 rw[hx,hl];exact g
theorem Fw {x:AO} {e:B6} {v:V} (hx:CP e x=v) (hl:v.live=true):BV (.mov x) e=some v:=by
 show (if(CP e x).live=true then some (CP e x)else none)=_
 rw[hx,hl];rfl
end
theorem BH {e:B6} {t:Nat} {v:V} {J:V->AF} (h:Go.Og.look e t=some v) (hl:v.live=true):BL e t J=J v:=by
 unfold BL
 rw[h]
 exact FP hl
theorem H7 {E:EB} {D:Ai} {U U':H} {el esz bytes:Nat} {s x:AO} {e:B6} {v y u:V} (hs:CP e s=v) (hx:CP e x=y) (g:∀J:V->H->AF,DV E esz bytes v y U J=J u U'):Dx E D (.append el esz bytes s x) e U=some (u,U'):=by
 show C6 E esz bytes (CP e s) (CP e x) U=_
 rw[hs,hx]
 obtain⟨w,U1,h1,h2⟩:=Q7 (g fun v U=>some (v,U))
 rw[h1]
 exact h2
mutual
theorem B0:∀v:V,V.inn (fun _=>true) v=true->V.beq v v=true
 | .dead,h=>by simp[V.inn]at h
 | .ptr b o,_=>by simp[V.beq]
 | .sl b o n (.ex c),_=>by simp[V.beq]
 | .sl b o n (.op c),_=>by simp[V.beq]
 | .sle b o k e,_=>by simp[V.beq]
 | .mp b,_=>by simp[V.beq]
 | .bool b,_=>by simp[V.beq]
 | .int k n,_=>by simp[V.beq]
 | .str s,_=>by simp[V.beq]
 | .nilp,_=>rfl
 | .nils,_=>rfl
 | .nilm,_=>rfl
 | .nilf,_=>rfl
 | .nili,_=>rfl
 | .fn f a c,h=>by
  simp only[V.inn,AG]at h
  simp[V.beq,Ij a h.1,Ij c h.2]
 | .ifc t v,h=>by
  simp only[V.inn]at h
  simp[V.beq,B0 v h]
 | .agg l,h=>by
  simp only[V.inn]at h
  simp[V.beq,Ij l h]
 | .tup l,h=>by
  simp only[V.inn]at h
  simp[V.beq,Ij l h]
theorem Ij:∀l:List V,Jx (fun _=>true) l=true->Kh l l=true
 | [],_=>rfl
 | v::l,h=>by
  simp only[Jx,AG]at h
  simp[Kh,B0 v h.1,Ij l h.2]
end
end
end Go.Og
namespace Go.Og
noncomputable section
def Ew (Q:DS->Prop) (E:EB) (D:Ai) (U:H) (n i:Nat) (ops:List BO) (pl:List DP) (s:DS):Prop:=∃s',CX E D U.next n i ops pl s=some s'/\Q s'
section
variable {Q:DS->Prop} {E:EB} {D:Ai} {U Uc U':H} {n i:Nat} {S:Nat->Prop} {d:Option Nat} {o:Eb} {l:List BO} {anc:Nat} {lk:List Nat} {pl:List DP} {e env:B6} {nx am:Nat} {ss:List (EB)} {ks:List Nat} {ls:List (Nat × Eb × B6 × V)}
theorem B5 (v:V) (hc:o.cls = .p) (hv:BV o (restr lk e)=some v) (k:Ew Q E D U n (i+1) l pl ⟨Cu e d v,nx,ss,ks,am,ls⟩):Ew Q E D U n i (⟨d,o,none⟩::l) (⟨anc,lk⟩::pl) ⟨e,nx,ss,ks,am,ls⟩:=by
 obtain⟨s',h1,h2⟩:=k
 exact⟨s',(dp v hc hv).trans h1,h2⟩
theorem G8 (v:V) (hr:Ev E U n S nx ss am ls Uc) (hc:o.cls = .l) (hv:P4 E U n S o (restr lk e) v) (k:Ev E U n S nx ss am ((i,o,restr lk e,v)::ls) Uc->Ew Q E D U n (i+1) l pl ⟨Cu e d v,nx,ss,ks,am,(i,o,restr lk e,v)::ls⟩) :
  Ew Q E D U n i (⟨d,o,none⟩::l) (⟨anc,lk⟩::pl) ⟨e,nx,ss,ks,am,ls⟩:=by
 obtain⟨⟨hn,r,rfl⟩,h2,h3,h4,h5,h6⟩:=hr
 obtain⟨s',k1,k2⟩:=k ⟨⟨hn,r,rfl⟩,h2,h3,h4,h5,fun x hx=>by
  rcases Ax.1 hx with rfl|hx
  ·exact hv
  ·exact h6 x hx⟩
 exact⟨s',(dl v hc (hv.2 nx Uc.bl _ (h4 _ Ab))).trans k1,k2⟩
theorem Qv (v:V) (b:GM) (am':Nat) (hr:Ev E U n S nx ss am ls Uc) (hc:o.cls = .a) (hi:i<n) (ham:am ||| 2 ^ i=am') (hv:Cm o (restr lk e) (U.next+i)=some (v,b))
  (k:∀ss',Ev E U n S nx ss' am' ls ⟨Uc.next,(U.next+i,b)::Uc.bl⟩->Ew Q E D U n (i+1) l pl ⟨Cu e d v,nx,ss',ks,am',ls⟩) :
  Ew Q E D U n i (⟨d,o,none⟩::l) (⟨anc,lk⟩::pl) ⟨e,nx,ss,ks,am,ls⟩:=by
 obtain⟨⟨hn,r,rfl⟩,h2,h3,h4,h5,h6⟩:=hr
 subst ham
 suffices hr':Ev E U n S nx ((Uc.bl::r).map ((U.next+i,b)::·)) (am ||| 2 ^ i) ls ⟨Uc.next,(U.next+i,b)::Uc.bl⟩by
  obtain⟨s',k1,k2⟩:=k _ hr'
  exact⟨s',(da v b (U.next+i) _ hc rfl rfl hv).trans k1,k2⟩
 refine⟨⟨hn,_,rfl⟩,h2,⟨fun c hc=>?_,h3.le,fun c hc hS=>?_⟩,fun h hh id hid hS=>?_,fun h hh j hj hb=>?_,h6⟩
 ·have hc:Uc.next<=c:=hc
  show BU ((U.next+i,b)::Uc.bl) c=none
  rw[Au,if_neg (by simp only[];omega)];exact h3.tidy c hc
 ·show BU ((U.next+i,b)::Uc.bl) c=_
  rw[Au,if_neg (by simp only[];omega)];exact h3.same c hc hS
 ·obtain⟨h',hh',rfl⟩:=GA.1 hh
  rw[E8 (by omega)];exact h4 _ hh' id hid hS
 ·obtain⟨h',hh',rfl⟩:=GA.1 hh
  rw[Tt,Bd]at hb
  have hne:i≠j:=fun he=>by
   subst he
   have:=hb.2
   rw[AOO]at this
   cases this
  rw[E8 (by omega)];exact h5 _ hh' j hj hb.1
theorem MC (v:V) {U2:H} (hr:Ev E U n S nx ss am ls Uc) (hc:o.cls = .k) (hva:∀j,j<n->am.testBit j=true->anc.testBit j=true) {S':Nat->Prop} (hf:Fr S' Uc U2) (hS:∀b,b<U.next->S' b->S b) (hg:∀b,S' b->U.next<=b->b<U.next+n->False) (hv:Dx E D o (restr lk e) Uc=some (v,U2))
  (k:∀nx' ss',Ev E U n S nx' ss' am ls U2->Ew Q E D U n (i+1) l pl ⟨Cu e d v,nx',ss',i::ks,am,ls⟩) :
  Ew Q E D U n i (⟨d,o,none⟩::l) (⟨anc,lk⟩::pl) ⟨e,nx,ss,ks,am,ls⟩:=by
 obtain⟨⟨hn,r,rfl⟩,h2,h3,h4,h5,h6⟩:=hr
 subst hn
 have le:=hf.le
 have f02:Fr S U U2:=h3.trans hf hS
 suffices hr':Ev E U n S U2.next (U2.bl::Uc.bl::r) am ls U2 by
  obtain⟨s',k1,k2⟩:=k U2.next (U2.bl::Uc.bl::r) hr'
  refine⟨s',(dk v U2.next U2.bl hc (GZ fun j hj hp=>?_) hv).trans k1,k2⟩
  refine h5 _ Ab j hj ?_
  cases ha:am.testBit j with
  | false=>rfl
  | true=>
   exfalso
   unfold DQ at hp
   rw[ha,hva j hj ha]at hp
   cases hp
 refine⟨⟨rfl,_,rfl⟩,by omega,f02,fun h hh id hid hS=>?_,fun h hh j hj hb=>?_,h6⟩
 ·rcases Ax.1 hh with rfl|hh
  ·rw[<-A5,<-A5];exact f02.same id hid hS
  ·exact h4 _ hh id hid hS
 ·rcases Ax.1 hh with rfl|hh
  ·have:=hf.same (U.next+j) (by omega) (fun hs=>hg _ hs (by omega) (by omega))
   rw[<-A5,this,A5]
   exact h5 _ Ab j hj hb
  ·exact h5 _ hh j hj hb
def JQ (E:EB) (U:H) (n:Nat) (pl:List DP) (env:B6) (U':H) (s:DS):Prop:=
 s.e=env/\s.nx=U'.next/\(∃r,s.ss=U'.bl::r)/\s.ls.all (fun(j,op,em,v)=>FE E U.next n pl s.am j op em v s.ss s.ks [])=true/\∀i,i<n->s.am.testBit i=false->look U'.bl (U.next+i)=none
theorem MD {pl0:List DP} {S2:Nat->Prop} {U2:H} (v:V) (hr:Ev E U n S nx ss am ls Uc) (hc:o.cls = .k) (hva:∀j,j<n->am.testBit j=true->anc.testBit j=true) (hf:Fr S2 Uc U2) (hg:∀b,S2 b->U.next<=b->b<U.next+n->False)
  (hv:Dx E D o (restr lk e) Uc=some (v,U2)) (hl:∀x∈ls,FA pl0 x.1 (i::ks) []=false):Ew (JQ E U n pl0 (Cu e d v) U2) E D U n i [⟨d,o,none⟩] [⟨anc,lk⟩] ⟨e,nx,ss,ks,am,ls⟩:=by
 obtain⟨⟨hn,r,rfl⟩,h2,h3,h4,h5,h6⟩:=hr
 subst hn
 refine⟨_,(dk v U2.next U2.bl hc (GZ fun j hj hp=>?_) hv).trans Hi,rfl,rfl,⟨_,rfl⟩,?_,fun j hj hb=>?_⟩
 ·refine h5 _ Ab j hj ?_
  cases ha:am.testBit j with
  | false=>rfl
  | true=>
   exfalso
   unfold DQ at hp
   rw[ha,hva j hj ha]at hp
   cases hp
 ·refine Dk.2 fun x hx=>?_
  show FE E U.next n pl0 am x.1 x.2.1 x.2.2.1 x.2.2.2 (U2.bl::Uc.bl::r) (i::ks) []=true
  rw[PH (hl x hx)]
  exact Ih (h6 x hx) _ _ _ h4
 ·have:=hf.same (U.next+j) (by omega) (fun hs=>hg _ hs (by omega) (by omega))
  rw[<-A5,this,A5]
  exact h5 _ Ab j hj hb
theorem Gt {ops:List BO} (h:Ew (JQ E U ops.length pl env U') E D U ops.length 0 ops pl ⟨e,U.next+ops.length,[U.bl],[],0,[]⟩):AT E D ops pl e U=some (env,U'):=by
 obtain⟨s',h1,rfl,hn,⟨r,hs⟩,hc,hg⟩:=h
 rw[PD h1 hc hs]
 have:=(GZ (n0:=U.next) (n:=ops.length) (p:=fun k=>s'.am.testBit k) (l:=U'.bl) fun i hi hp=>hg i hi hp).1
 rw[this,hn]
end
end
end Go.Og
namespace Go.Og
noncomputable section
theorem Jl {E:EB} {D:Ai} {U:H} {b off n:Nat} {l cs:List V} {x y:AO} {e:B6} (ht:Ar U) (h:CQ U b l) (hx:CP e x = .ptr b off) (hy:(CP e y).cells=cs) (hc:(Ak cs.length n&&Ag (off+n) l.length&&An cs)=true) :
  ∃U',Dx E D (.store n x y) e U=some (.dead,U')/\Fr (fun k=>k=b) U U'/\CQ U' b (FC l off cs):=by
 have hl:look U.bl b=some (.cells l):=by rw[<-A5];exact h
 refine⟨U.set b (.cells (FC l off cs)),?_,⟨fun k hk=>?_,AK _,fun k hk hn=>?_⟩,?_⟩
 ·show (match CP e x with
   | .ptr b off=>match look U.bl b with
    | some (.cells l)=>if(Ak (CP e y).cells.length n&&Ag (off+n) l.length&&An (CP e y).cells)=true then some (V.dead,U.set b (.cells (FC l off (CP e y).cells)))else none
    | _=>none
   | _=>none)=_
  rw[hx]
  simp only[hl]
  rw[hy,if_pos hc]
 ·have hk:U.next<=k:=hk
  have:=h.lt ht
  show BU (Ke U.bl b _) k=none
  rw[A5,HW,if_neg (by omega),<-A5]
  exact ht k hk
 ·show BU (Ke U.bl b _) k=_
  rw[A5,HW,if_neg (fun e=>hn e.symm),A5]
 ·show BU (Ke U.bl b _) b=_
  rw[A5,HW,if_pos rfl,hl];rfl
end
noncomputable section
section
variable {E:EB} {D:Ai} {U Uc U':H} {n i:Nat} {S:Nat->Prop} {d:Option Nat} {o:Eb} {g:Option (Nat × Bool)} {l:List BO} {anc:Nat} {lk:List Nat} {pl:List DP} {e env:B6} {nx am:Nat} {ss:List (EB)} {ks:List Nat} {ls:List (Nat × Eb × B6 × V)}
end
end
end Go.Og
namespace Go.Og
noncomputable section
section
variable {E:EB} {D:Ai} {U Uc U':H} {n i:Nat} {S:Nat->Prop} {d:Option Nat} {o:Eb} {l:List BO} {anc:Nat} {lk:List Nat} {pl:List DP} {e env:B6} {nx am:Nat} {ss:List (EB)} {ks:List Nat} {ls:List (Nat × Eb × B6 × V)}
end
end
end Go.Og
namespace Go.Og
noncomputable section
end
noncomputable section
def JC (v:Int) (j:Nat):Int:=(v / 2 ^ (8*j)) % 256
def GI (v:Int):Nat->List Int
 | 0=>[]
 | n+1=>JC v n::GI v n
theorem Fv (v:Int):∀n,(GI v n).length=n
 | 0=>rfl
 | n+1=>by simp[GI,Fv v n]
theorem Ql (v:Int):∀{n i:Nat},i<n->(GI v n)[i]? = some (JC v (n-1-i))
 | n+1,0,_=>rfl
 | n+1,i+1,h=>by
  have:=Ql v (n:=n) (i:=i) (by omega)
  simp only[GI,Bb,this]
  congr 2;omega
def Gb (v:Int) (n:Nat):Bool:=decide (v / 2 ^ (8*n-1)=0) || decide (v / 2 ^ (8*n-1) = -1)
def FM (v:Int):Nat:=if Gb v 1=true then 1 else if Gb v 2=true then 2 else if Gb v 3=true then 3 else if Gb v 4=true then 4 else if Gb v 5=true then 5 else if Gb v 6=true then 6 else if Gb v 7=true then 7 else 8
theorem I2 (v:Int):1<=FM v/\FM v<=8:=by
 unfold FM
 repeat' split
 all_goals omega
theorem dQ (v:Int) {n:Nat} (h1:1<=n) (h2:n<FM v):Gb v n=false:=by
  unfold FM at h2
  repeat' split at h2
  all_goals first
    | omega
    | (have:n=1\/n=2\/n=3\/n=4\/n=5\/n=6\/n=7:=by omega
       rcases this with rfl|rfl|rfl|rfl|rfl|rfl|rfl<;>first|omega|simp_all)
theorem qi (v:Int) (h:FM v<8):Gb v (FM v)=true:=by
 unfold FM at h ⊢
 repeat' split
 all_goals first | assumption | (exfalso;simp_all)
def V7 (v:Int):Prop:=-9223372036854775808<=v/\v<=9223372036854775807
theorem Uj {v:Int} (hv:V7 v):Gb v (FM v)=true:=by
 have hr:=I2 v
 rcases Av (FM v) 8 with h|h
 ·exact qi v h
 ·have e:FM v=8:=by omega
  rw[e]
  unfold Gb
  simp only[show (2:Int) ^ (8*8-1)=9223372036854775808 from rfl,Bk,decide_eq_true_eq]
  obtain⟨h1,h2⟩:=hv
  omega
theorem O8 (a:Int) (n:Nat):a.fdiv (2 ^ n)=a / 2 ^ n:=ABd _ (Int.le_of_lt (Int.pow_pos (by decide)))
theorem YS (v:Int) {n:Nat} (h:n<=64):Kc .i64 v n=v / 2 ^ n:=by
 rw[N8,show Ex n (IntKind.bits .i64)=n from Em h,O8]
theorem SL (v:Int) {n:Nat} (h:n<=64):Kc .u64 v n=v / 2 ^ n:=by
 rw[N8,show Ex n (IntKind.bits .u64)=n from Em h,O8]
theorem SD (v:Int):BE .u8 v=v % 256:=by rw[DO];rfl
theorem T7 (v:Int):BE .u64 v=v % 18446744073709551616:=by rw[DO];rfl
theorem VO (v:Int) {j:Nat} (h:j<8):BE .u8 (Kc .u64 (BE .u64 v) (8*j))=JC v j:=by
 rw[SL _ (by omega),SD,T7]
 unfold JC
 have:j=0\/j=1\/j=2\/j=3\/j=4\/j=5\/j=6\/j=7:=by omega
 rcases this with rfl|rfl|rfl|rfl|rfl|rfl|rfl|rfl
 ·simp only[show (2:Int) ^ (8*0)=1 from rfl];omega
 ·simp only[show (2:Int) ^ (8*1)=256 from rfl];omega
 ·simp only[show (2:Int) ^ (8*2)=65536 from rfl];omega
 ·simp only[show (2:Int) ^ (8*3)=16777216 from rfl];omega
 ·simp only[show (2:Int) ^ (8*4)=4294967296 from rfl];omega
 ·simp only[show (2:Int) ^ (8*5)=1099511627776 from rfl];omega
 ·simp only[show (2:Int) ^ (8*6)=281474976710656 from rfl];omega
 ·simp only[show (2:Int) ^ (8*7)=72057594037927936 from rfl];omega
theorem gL:∀(a:List V) (x:V) (r:List V) (c:V),FC (a++x::r) a.length [c]=a++c::r
 | [],x,r,c=>by cases r<;>simp[FC]
 | y::a,x,r,c=>by
  show y::FC (a++x::r) a.length [c]=_
  rw[gL a x r c];rfl
def Je (l:List Int):List V:=l.map fun c => .int .u8 c
theorem It (l:List Int):(Je l).length=l.length:=by simp[Je]
theorem YK (l m:List Int):Je (l++m)=Je l++Je m:=by simp[Je]
theorem YJ:∀l:List Int,An (Je l)=true
 | []=>rfl
 | c::l=>YJ l
theorem Mh:∀l:List Int,FV (Je l)=some (l.map fun c=>UInt8.ofNat c.toNat)
 | []=>rfl
 | c::l=>by
  show (FV (Je l)).map _=_
  rw[Mh l];rfl
def By (U:H) (v:V) (l:List Int):Prop:=DL U 1 l.length v (Je l)
def Nb (U0 U:H) (v:V) (l:List Int):Prop:=DM U 1 l.length v (Je l)/\∀b,AJ v b->U0.next<=b
theorem Nb.by_ {U0 U:H} {v:V} {l:List Int} (h:Nb U0 U v l):By U v l:=h.1.src
theorem By.slen {U:H} {v:V} {l:List Int} (h:By U v l) (J:Nat->AF):A0 v J=J l.length:=DL.slen h
theorem Nb.fr {U0 U U':H} {v:V} {l:List Int} (h:Nb U0 U v l) (f:Fr AL U U') (ht:Ar U):Nb U0 U' v l:=⟨h.1.fr f ht (fun _ _ h=>h),h.2⟩
theorem Nb.mono {U0 U1 U:H} {v:V} {l:List Int} (h:Nb U1 U v l) (hl:U0.next<=U1.next):Nb U0 U v l:=⟨h.1,fun b hb=>Bc hl (h.2 b hb)⟩
theorem Nb.nil (U0 U:H):Nb U0 U .nils []:=⟨DM.nil U 1,fun _ h=>h.elim⟩
theorem Nb.lit {U0 U:H} {b:Nat} {l:List Int} (ha:CQ U b (Je l)) (hb:U0.next<=b):Nb U0 U (.sl b 0 l.length (.ex l.length)) l:=
 ⟨.inr ⟨b,rfl,ha,by rw[It,B8]⟩,fun c hc=>by cases hc;exact hb⟩
theorem By.str {E:EB} {U:H} {v:V} {l:List Int} (h:By U v l) (J:BS->AF):Jk E U v J=J (BS.ofList (l.map fun c=>UInt8.ofNat c.toNat)):=by
 have hs:∀J',srcK E U 1 v J'=J' l.length (Je l):=fun J'=>DL.srcK h
 unfold Jk
 rcases h with ⟨_,rfl,_⟩|⟨_,_,_,_,rfl,_⟩
 ·simp only[];rw[hs,Mh]
 ·simp only[];rw[hs,Mh]
theorem D7 {v:V} (h:v.one=true):v.live=true/\v.cells=[v]:=by
 cases v<;>first | exact⟨rfl,rfl⟩ | cases h
theorem fill1 {u:V} (h:u.one=true) (J:List V->AF):D9 [(0,1,u)] [.nils] J=J [u]:=by
 obtain⟨h1,h2⟩:=D7 h
 unfold D9 Ez
 rw[h1,h2]
 rfl
theorem ua {u w:V} (h:u.one=true) (k:w.one=true) (J:List V->AF):D9 [(0,1,u),(1,1,w)] [.nils,.nils] J=J [u,w]:=by
 obtain⟨h1,h2⟩:=D7 h
 obtain⟨k1,k2⟩:=D7 k
 unfold D9 Ez Ez
 rw[h1,h2,k1,k2]
 rfl
theorem AD5 {u w x:V} (h:u.one=true) (k:w.one=true) (l:x.one=true) (J:List V->AF):D9 [(0,1,u),(1,1,w),(2,1,x)] [.nils,.nils,.nils] J=J [u,w,x]:=by
 obtain⟨h1,h2⟩:=D7 h
 obtain⟨k1,k2⟩:=D7 k
 obtain⟨l1,l2⟩:=D7 l
 unfold D9 Ez Ez Ez
 rw[h1,h2,k1,k2,l1,l2]
 rfl
end
noncomputable section
end
noncomputable section
theorem Qk (n a:Nat):(BG n (AA a)).toNat=a % 2 ^ n:=by
 rw[show AA a=((a:Nat):Int)from rfl,BitVec.ofInt_natCast,BitVec.toNat_ofNat]
theorem pV {k:IntKind} {a n:Nat} (h:n<=k.bits):Kc k (AA a) n=AA (a / 2 ^ n):=by
 rw[N8,show Ex n k.bits=n from Em h,O8]
 rw[show AA a=((a:Nat):Int)from rfl,show AA (a / 2 ^ n)=((a / 2 ^ n:Nat):Int)from rfl,Int.natCast_ediv,Int.natCast_pow];rfl
def nI (L:List Nat):List Int:=L.map AA
theorem KO (L:List Nat):(nI L).length=L.length:=by simp[nI]
end
end Go.Og
namespace Go.Proofs.YtgblfbajgpboiaaGreatDoor
open Go Go.Og
noncomputable section
def eAw:F8:=⟨100,[],
 [],
 .bool true,236,
 []⟩
theorem dn:eAw.right 2 ((DT [] 100000 60) 5)=true:=by kernel_rfl
theorem dm:eAw.shape=true:=by kernel_rfl
def kn:List (Nat × List F8):=[(5,[eAw])]
def TW (E:EB) (d:Nat):Ai:=Nat.rec (fun _ _ _=>none) (fun _ ih f=>match BU kn f with
 | some l=>Ui l (BD E 600000 ih f)
 | none=>BD E 600000 ih f) d
theorem iS:∀p∈kn,∀e∈p.2,e.right 2 (DT [] 100000 60 p.1)=true:=by
 unfold kn
 simp only[fP,E5,false_implies,implies_true,and_true]
 exact dn
theorem AEg (E:EB):∀(d:Nat) (f:FuncId),Ce Tryz.prog E glob f (TW E d f):=by
 intro d
 induction d with
 | zero=>intro f C _ _ R U w args xs v U' h;cases h
 | succ d ih=>
  intro f
  show Ce Tryz.prog E glob f (match BU kn f with
   | some l=>Ui l (BD E 600000 (TW E d) f)
   | none=>BD E 600000 (TW E d) f)
  split
  ·rename_i l hl
   rw[A5]at hl
   exact qe (oW E 600000 (TW E d) ih f) (AH1 [] 100000 60 f) Wt (iS _ (Gq hl))
  ·exact oW E 600000 (TW E d) ih f
abbrev tw (E:EB) (d:Nat) (F:EB->Ai->AH->Nat->List V->H->AF):List V->H->AF:=F E (TW E d) (AT E (TW E d)) 600000
section
variable (E:EB) (d:Nat)
theorem DE6:TW E (d+1) 6=tw E d F6:=by kernel_rfl
theorem DE7:TW E (d+1) 7=tw E d F7:=by kernel_rfl
theorem AN4:TW E (d+1) 10=tw E d F10:=by kernel_rfl
theorem AN3:TW E (d+1) 11=tw E d F11:=by kernel_rfl
theorem AN2:TW E (d+1) 12=tw E d F12:=by kernel_rfl
theorem AN1:TW E (d+1) 13=tw E d F13:=by kernel_rfl
theorem AN0:TW E (d+1) 14=tw E d F14:=by kernel_rfl
theorem ANz:TW E (d+1) 16=tw E d F16:=by kernel_rfl
theorem AIC:TW E (d+1) 17=tw E d F17:=by kernel_rfl
theorem AIB:TW E (d+1) 18=tw E d F18:=by kernel_rfl
theorem ANy:TW E (d+1) 19=tw E d F19:=by kernel_rfl
theorem ANx:TW E (d+1) 20=tw E d F20:=by kernel_rfl
theorem ANw:TW E (d+1) 21=tw E d F21:=by kernel_rfl
theorem ANv:TW E (d+1) 22=tw E d F22:=by kernel_rfl
theorem ANu:TW E (d+1) 23=tw E d F23:=by kernel_rfl
theorem AIA:TW E (d+1) 25=tw E d F25:=by kernel_rfl
theorem ANt:TW E (d+1) 26=tw E d F26:=by kernel_rfl
theorem AH9:TW E (d+1) 27=tw E d F27:=by kernel_rfl
theorem AH8:TW E (d+1) 30=tw E d vZ:=by kernel_rfl
theorem AH7:TW E (d+1) 31=tw E d F31:=by kernel_rfl
theorem ANs:TW E (d+1) 32=tw E d F32:=by kernel_rfl
theorem ANr:TW E (d+1) 33=tw E d F33:=by kernel_rfl
theorem ANq:TW E (d+1) 34=tw E d F34:=by kernel_rfl
theorem ANp:TW E (d+1) 35=tw E d vY:=by kernel_rfl
theorem ANo:TW E (d+1) 36=tw E d F36:=by kernel_rfl
theorem ANn:TW E (d+1) 37=tw E d F37:=by kernel_rfl
theorem ANm:TW E (d+1) 38=tw E d F38:=by kernel_rfl
theorem ANl:TW E (d+1) 39=tw E d F39:=by kernel_rfl
theorem ANk:TW E (d+1) 40=tw E d F40:=by kernel_rfl
theorem ANj:TW E (d+1) 41=tw E d F41:=by kernel_rfl
theorem AH6:TW E (d+1) 42=tw E d F42:=by kernel_rfl
theorem ANi:TW E (d+1) 43=tw E d F43:=by kernel_rfl
theorem AH5:TW E (d+1) 44=tw E d F44:=by kernel_rfl
theorem ANh:TW E (d+1) 45=tw E d F45:=by kernel_rfl
theorem AH4:TW E (d+1) 47=tw E d F47:=by kernel_rfl
theorem ANg:TW E (d+1) 48=tw E d F48:=by kernel_rfl
theorem ANf:TW E (d+1) 49=tw E d F49:=by kernel_rfl
theorem ANe:TW E (d+1) 51=tw E d F51:=by kernel_rfl
theorem ANd:TW E (d+1) 52=tw E d F52:=by kernel_rfl
theorem ANc:TW E (d+1) 56=tw E d F56:=by kernel_rfl
theorem ANb:TW E (d+1) 57=tw E d F57:=by kernel_rfl
theorem ANa:TW E (d+1) 58=tw E d F58:=by kernel_rfl
theorem ANZ:TW E (d+1) 59=tw E d F59:=by kernel_rfl
theorem ANY:TW E (d+1) 60=tw E d F60:=by kernel_rfl
theorem ANX:TW E (d+1) 61=tw E d F61:=by kernel_rfl
theorem ANW:TW E (d+1) 62=tw E d F62:=by kernel_rfl
theorem ANV:TW E (d+1) 63=tw E d F63:=by kernel_rfl
theorem ANU:TW E (d+1) 64=tw E d F64:=by kernel_rfl
theorem ANT:TW E (d+1) 65=tw E d F65:=by kernel_rfl
theorem ANS:TW E (d+1) 66=tw E d F66:=by kernel_rfl
theorem ANR:TW E (d+1) 67=tw E d F67:=by kernel_rfl
theorem ANQ:TW E (d+1) 68=tw E d F68:=by kernel_rfl
theorem ANP:TW E (d+1) 69=tw E d F69:=by kernel_rfl
theorem ANO:TW E (d+1) 72=tw E d F72:=by kernel_rfl
theorem ANN:TW E (d+1) 73=tw E d F73:=by kernel_rfl
theorem AH3:TW E (d+1) 77=tw E d F77:=by kernel_rfl
theorem ANM:TW E (d+1) 79=tw E d F79:=by kernel_rfl
theorem ANL:TW E (d+1) 80=tw E d F80:=by kernel_rfl
theorem AH2:TW E (d+1) 82=tw E d F82:=by kernel_rfl
theorem ANK:TW E (d+1) 83=tw E d F83:=by kernel_rfl
theorem ANJ:TW E (d+1) 90=tw E d F90:=by kernel_rfl
theorem ANI:TW E (d+1) 93=tw E d F93:=by kernel_rfl
theorem ANH:TW E (d+1) 94=tw E d F94:=by kernel_rfl
theorem ANG:TW E (d+1) 95=tw E d F95:=by kernel_rfl
theorem ANF:TW E (d+1) 96=tw E d F96:=by kernel_rfl
theorem ANE:TW E (d+1) 97=tw E d F97:=by kernel_rfl
theorem AND:TW E (d+1) 98=tw E d F98:=by kernel_rfl
theorem va:TW E (d+1) 100=tw E d oH:=by kernel_rfl
theorem AIT:TW E (d+1) 103=tw E d fJ:=by kernel_rfl
theorem AIS:TW E (d+1) 111=tw E d fI:=by kernel_rfl
theorem AIR:TW E (d+1) 116=tw E d fH:=by kernel_rfl
theorem AIQ:TW E (d+1) 117=tw E d X6:=by kernel_rfl
theorem AIP:TW E (d+1) 118=tw E d fG:=by kernel_rfl
theorem AIO:TW E (d+1) 120=tw E d oG:=by kernel_rfl
theorem AIN:TW E (d+1) 124=tw E d fF:=by kernel_rfl
theorem AIM:TW E (d+1) 130=tw E d oE:=by kernel_rfl
theorem AIL:TW E (d+1) 131=tw E d fE:=by kernel_rfl
theorem AIK:TW E (d+1) 133=tw E d oD:=by kernel_rfl
theorem AIJ:TW E (d+1) 134=tw E d oC:=by kernel_rfl
theorem AII:TW E (d+1) 136=tw E d fD:=by kernel_rfl
theorem AIH:TW E (d+1) 137=tw E d fC:=by kernel_rfl
theorem AIF:TW E (d+1) 138=tw E d fB:=by kernel_rfl
theorem AIE:TW E (d+1) 142=tw E d fA:=by kernel_rfl
theorem AID:TW E (d+1) 144=tw E d e9:=by kernel_rfl
end
theorem DE5 (E:EB) (d:Nat):TW E (d+1) 5=Ui [eAw] (BD E 600000 (TW E d) 5):=by kernel_rfl
theorem Ca {U:H} (ht:Ar U) (z:List V):∃U1,Br U (.cells z)=U1/\Fr AL U U1/\CQ U1 U.next z/\U1.next=U.next+1:=⟨_,rfl,Fr.new ht _,Gz _,rfl⟩
theorem Mr {U:H} {b:Nat} {l:List V} (ht:Ar U) (h:CQ U b l) (z:List V):∃U1,GP U b (.cells z)=U1/\Fr (fun k=>k=b) U U1/\CQ U1 b z:=⟨_,rfl,Fr.set ht (h.lt ht) _,WT _⟩
section
variable {E:EB} {U U1 U2:H} {w:Nat} {u u1 u2:V} {L L1 L2:List Nat}
theorem iI (a b:Nat):Nz (AA a) (AA b)=AA (max a b):=by
 unfold Nz
 split
 ·rename_i h;have h:(b:Int) > (a:Int):=h;rw[Nat.max_eq_right (by omega)]
 ·rename_i h;have h:¬(b:Int) > (a:Int):=h;rw[Nat.max_eq_left (by omega)]
end
def vc (k n:Int) (b l:V) (r:Int) (m:V):List V:=[.int .i64 k,.int .i64 n,b,l,.int .i64 r,m]
def rj (u:Int) (k:Nat):Bool:=!Bt (JE .i64 u (AA k)) (AA 0)
def SS (u k n:Int) (nb nl:Nat) (r:Int) (nm:Nat):Bool:=
 (((rj u 1 || Bt n (AA 0))&&(rj u 2 || Bt (AA nb) (AA 0)))&&(rj u 4 || Bt (AA nl) (AA 0)))&&(rj u 8 || (Bt r (AA 0)&&Bt (AA nm) (AA 0)))
def H9 (F:List V->H->AF):Prop:=∀(U:H) (u k n r:Int) (b l m:V) (nb nl nm:Nat),Ar U->P5 b nb->P5 l nl->P5 m nm ->
 ∃U',F [.agg (vc k n b l r m),.int .i64 u] U=some (.bool (SS u k n nb nl r nm),U')/\Fr AL U U'
section
variable {E:EB} {D:Ai} {W:AH} {N:Nat}
theorem qJ:H9 (F51 E D W N):=by
 intro U u k n r b l m nb nl nm ht hb hl hm
 obtain⟨U1,e1,f1,a1,n1⟩:=Ca ht (vc k n b l r m)
 refine⟨U1,?_,f1⟩
 unfold vc at *
 show kP E D W k n b l r m u U=_
 unfold kP
 simp -implicitDefEqProofs only [Cl,Fm,HY,BC,BP,Ed,ET,Dg,Fu,Mq,KL,A8,Q3,HU,HV,Mm,Ml,Mj,Mi,KJ,IT,E7,Fj,HO,HP,HR,HN,Fh,HQ,GR,Ic,Ib,GO,IX,E2,Cy,Bz,KS,Gs,I5,QK,BA,E9,FJ,rC,hb.1,hl.1,hm.1,e1,AZ a1,BX a1,hb.2,hl.2,hm.2]
 rfl
theorem jv (hP:H9 (D 51)) {U:H} (ht:Ar U) {k n r:Int} {b l m:V} {nb nl nm:Nat} (hb:P5 b nb) (hl:P5 l nl) (hm:P5 m nm) :
  ∃U',F61 E D W N [.agg (vc k n b l r m)] U=some (.bool (Bt k (AA 0)&&SS (AA 0) k n nb nl r nm),U')/\Fr AL U U':=by
 obtain⟨U1,e1,f1,a1,n1⟩:=Ca ht (vc k n b l r m)
 obtain⟨U2,g2,f2⟩:=hP U1 (AA 0) k n r b l m nb nl nm f1.tidy hb hl hm
 unfold vc at e1 a1 g2 ⊢
 show ∃U',kG E D W k n b l r m U=_/\_
 unfold kG
 simp -implicitDefEqProofs only [Cl,Fm,HY,BC,BP,Ed,ET,Dg,Fu,Mq,KL,A8,Q3,HU,HV,Mm,Ml,Mj,Mi,KJ,IT,E7,Fj,HO,HP,HR,HN,Fh,HQ,GR,Ic,Ib,GO,IX,E2,Cy,Bz,KS,Gs,I5,QK,BA,E9,FJ,rC,hb.1,hl.1,hm.1,e1,AZ a1,BX a1,g2]
 cases Bt k (AA 0)with
 | true=>exact⟨U2,rfl,f1.trans f2 (fun _ _ h=>h)⟩
 | false=>exact⟨U1,rfl,f1⟩
def N7 (h hl hh:Bool) (lo hi v:Int):Bool:=!h || ((!hl || I3 lo v)&&(!hh || I3 v hi))
theorem fj {U:H} (ht:Ar U) (h hl hh mo:Bool) (lo hi v:Int) :
  ∃U',F52 E D W N [.agg [.bool h,.bool hl,.bool hh,.bool mo,.int .i64 lo,.int .i64 hi],.int .i64 v] U=some (.bool (N7 h hl hh lo hi v),U')/\Fr AL U U':=by
 obtain⟨U1,e1,f1,a1,n1⟩:=Ca ht [.bool h,.bool hl,.bool hh,.bool mo,.int .i64 lo,.int .i64 hi]
 refine⟨U1,?_,f1⟩
 show kO E D W h hl hh mo lo hi v U=_
 unfold kO
 simp -implicitDefEqProofs only [Cl,Fm,HY,BC,BP,Ed,ET,Dg,Fu,Mq,KL,A8,Q3,HU,HV,Mm,Ml,Mj,Mi,KJ,IT,E7,Fj,HO,HP,HR,HN,Fh,HQ,GR,Ic,Ib,GO,IX,E2,Cy,Bz,KS,Gs,I5,QK,BA,E9,FJ,rC,e1,AZ a1,BX a1]
 rfl
structure Ty where
 kind:Int
 tags:V
 has:Bool
 hasLow:Bool
 hasHigh:Bool
 conMore:Bool
 low:Int
 high:Int
 items:V
 fields:V
 root:Int
 more:Bool
 of_:Int
 oneT:tags.one=true
 oneI:items.one=true
 oneF:fields.one=true
def Ty.c (x:Ty):List V:=[.int .i64 x.kind,x.tags,.bool x.has,.bool x.hasLow,.bool x.hasHigh,.bool x.conMore,.int .i64 x.low,.int .i64 x.high,x.items,x.fields,.int .i64 x.root,.bool x.more,.int .i64 x.of_]
structure Fd where
 name:BS
 type:Int
 opt:Bool
 has:Bool
 d0:Int
 d1:Int
 d2:V
 d3:V
 d4:Int
 d5:V
 group:Int
 one2:d2.one=true
 one3:d3.one=true
 one5:d5.one=true
def Fd.c (x:Fd):List V:=[.str x.name,.int .i64 x.type,.bool x.opt,.bool x.has,.int .i64 x.d0,.int .i64 x.d1,x.d2,x.d3,.int .i64 x.d4,x.d5,.int .i64 x.group]
def Cel (L:List V) (esz k:Nat) (c:List V):Prop:=k*esz+esz<=L.length/\(L.drop (k*esz)).take esz=c
theorem Cel.sub {L:List V} {esz k:Nat} {c:List V} (h:Cel L esz k c) (J:List V->AF):EI L (0+k*esz) esz J=J c:=by
 rw[BA,D6 h.1,h.2]
theorem Cel.get {L:List V} {esz k:Nat} {c:List V} (h:Cel L esz k c) {j:Nat} {v:V} (hj:c[j]? = some v) (J:V->AF):JY L (0+k*esz+j) J=J v:=by
 refine OA ?_
 rw[L6,<-hj,<-h.2]
 obtain⟨hlt,_⟩:=AY.1 hj
 have hc:c.length<=esz:=by rw[<-h.2];simp only[BY];omega
 rw[Gg,if_pos (by omega),Bm,BA]
structure IA (U:H) (esz n:Nat) (v:V) (g:Nat->List V):Prop where
 is:(n=0/\v = .nils)\/∃b c L,v = .sl b 0 n c/\CQ U b L/\∀k,k<n->Cel L esz k (g k)
theorem IA.len {U:H} {esz n:Nat} {v:V} {g:Nat->List V} (h:IA U esz n v g):P5 v n:=by
 rcases h.is with ⟨rfl,rfl⟩|⟨b,c,L,rfl,_⟩
 ·exact P5.nils
 ·exact P5.sl
theorem IA.fr {S:Nat->Prop} {U U':H} {esz n:Nat} {v:V} {g:Nat->List V} (h:IA U esz n v g) (f:Fr S U U') (ht:Ar U) (hS:∀b,AJ v b->¬S b):IA U' esz n v g:=by
 rcases h.is with h|⟨b,c,L,rfl,ha,hc⟩
 ·exact⟨.inl h⟩
 ·exact⟨.inr ⟨b,c,L,rfl,f.at_ ha ht (hS b rfl),hc⟩⟩
theorem IA.fr0 {U U':H} {esz n:Nat} {v:V} {g:Nat->List V} (h:IA U esz n v g) (f:Fr AL U U') (ht:Ar U):IA U' esz n v g:=h.fr f ht (fun _ _ h=>h)
theorem IA.all {E:EB} {U:H} {esz n:Nat} {v:V} {g:Nat->List V} (h:IA U esz n v g) {k:Nat} (hk:k<n) (J:List V->AF) :
  AW esz v (AA k) (fun b o=>Bv E U b o esz J)=J (g k):=by
 rcases h.is with ⟨rfl,rfl⟩|⟨b,c,L,rfl,ha,hc⟩
 ·omega
 ·rw[Cb hk]
  show Bv E U b (0+k*esz) esz J=_
  rw[BX ha,(hc k hk).sub]
theorem IA.one {E:EB} {U:H} {esz n:Nat} {v:V} {g:Nat->List V} (h:IA U esz n v g) {k:Nat} (hk:k<n) {j:Nat} {u:V} (hj:(g k)[j]? = some u) (J:V->AF) :
  AW esz v (AA k) (fun b o=>EG E U b (o+j) J)=J u:=by
 rcases h.is with ⟨rfl,rfl⟩|⟨b,c,L,rfl,ha,hc⟩
 ·omega
 ·rw[Cb hk]
  show EG E U b (0+k*esz+j) J=_
  rw[AZ ha,(hc k hk).get hj]
end
def Ps (F:List V->H->AF):Prop:=∀(U:H) (h hl hh mo:Bool) (lo hi v:Int),Ar U->∃U',F [.agg [.bool h,.bool hl,.bool hh,.bool mo,.int .i64 lo,.int .i64 hi],.int .i64 v] U=some (.bool (N7 h hl hh lo hi v),U')/\Fr AL U U'
structure Ck (U:H) (p nT:Nat) (ty:Nat->Ty) (nm:BS) (nv rv tv:V) (rest:List V):Prop where
 at_:CQ U p ([.str nm,nv,rv,tv]++rest)
 n1:nv.one=true
 r1:rv.one=true
 t1:tv.one=true
 row:IA U 13 nT tv fun i=>(ty i).c
 apart:∀b,AJ tv b->b≠p
section
variable {E:EB} {D:Ai} {W:AH} {N:Nat} {U U':H} {p nT:Nat} {ty:Nat->Ty} {nm:BS} {nv rv tv:V} {rest:List V}
theorem Ck.fr (h:Ck U p nT ty nm nv rv tv rest) (f:Fr AL U U') (ht:Ar U):Ck U' p nT ty nm nv rv tv rest:=⟨f.at_ h.at_ ht (fun h=>h),h.n1,h.r1,h.t1,h.row.fr0 f ht,h.apart⟩
theorem Ck.types {E:EB} (h:Ck U p nT ty nm nv rv tv rest) (J:V->AF):EG E U p 3 J=J tv:=by
 rw[AZ h.at_];rfl
def Fa (n:Int):List V:=vc (AA 2) n .nils .nils (AA 0) .nils
theorem dg (hP:H9 (D 51)) (hW:Ps (D 52)) (ht:Ar U) (hc:Ck U p nT ty nm nv rv tv rest) {i dp:Nat} (hi:i<nT) (hd:dp<=17) (hk:(ty i).kind=AA 2) {n:Int} (hw:((ty i).conMore || N7 (ty i).has (ty i).hasLow (ty i).hasHigh (ty i).low (ty i).high n)=true) :
  ∃U',vZ E D W N [.ptr p 0,.int .i64 (AA i),.agg (Fa n),.int .i64 (AA dp)] U=some (.bool true,U')/\Fr AL U U':=by
 obtain⟨U1,e1,f1,a1,n1⟩:=Ca ht (Fa n)
 have c1:=hc.fr f1 ht
 obtain⟨U2,g2,f2⟩:=hP U1 (AA 1) (AA 2) n (AA 0) .nils .nils .nils 0 0 0 f1.tidy P5.nils P5.nils P5.nils
 have a2:=f2.at_ a1 f1.tidy (fun h=>h)
 obtain⟨U3,g3,f3⟩:=hW U2 (ty i).has (ty i).hasLow (ty i).hasHigh (ty i).conMore (ty i).low (ty i).high n f2.tidy
 have f12:=f1.trans f2 (fun _ _ h=>h)
 have rd:∀J,AW 13 tv (AA i) (fun b o=>Bv E U1 b o 13 J)=J (ty i).c:=fun J=>c1.row.all hi J
 have hp:SS (AA 1) (AA 2) n 0 0 (AA 0) 0=true:=rfl
 have hl:=c1.row.len
 rw[hp]at g2
 unfold Fa at e1 a1 a2 ⊢
 unfold vc at e1 a1 a2 g2 ⊢
 have d1:decide (nT<=i)=false:=decide_eq_false (by omega)
 have d2:decide (17<dp)=false:=decide_eq_false (by omega)
 show ∃U',Vl E D W _ p 0 (AA i) (AA 2) n .nils .nils (AA 0) .nils (AA dp) U=_/\_
 unfold Vl
 simp -implicitDefEqProofs only [↓rP,rA,AB,AE,AD,Cw,↓e1,↓c1.types,↓hl.2,d1,d2,↓rd,Ty.c,hk,(ty i).oneT,(ty i).oneI,(ty i).oneF,↓AZ a1,↓BX a1,↓g2,↓AZ a2,↓g3]
 cases hm:(ty i).conMore with
 | true=>exact⟨U2,rfl,f12⟩
 | false=>
  rw[hm,Dc]at hw
  rw[hw]
  exact⟨U3,rfl,f12.trans f3 (fun _ _ h=>h)⟩
end
structure Vc where
 k:Int
 n:Int
 b:V
 l:V
 r:Int
 m:V
 oneB:b.one=true
 oneL:l.one=true
 oneM:m.one=true
def Vc.c (x:Vc):List V:=[.int .i64 x.k,.int .i64 x.n,x.b,x.l,.int .i64 x.r,x.m]
def Vc.int (n:Int):Vc:=⟨AA 2,n,.nils,.nils,AA 0,.nils,rfl,rfl,rfl⟩
def NR (p:Nat->Bool):Nat->Nat->Int
 | 0,_=>Az 0
 | m+1,i=>if p i=true then AA i else NR p m (i+1)
def eZ (p:Nat->Bool):Nat->Nat->Bool
 | 0,_=>false
 | m+1,i=>p i || eZ p m (i+1)
theorem Uw (p:Nat->Bool):∀m i,I3 (AA 0) (NR p m i)=eZ p m i
 | 0,i=>rfl
 | m+1,i=>by
  unfold NR eZ
  by_cases h:p i=true
  ·rw[if_pos h,h];simp only[OC,DZ,decide_true,Bool.true_or]
  ·rw[if_neg h,Uw p m (i+1)];simp only[Mb]at h;rw[h,Dc]
theorem VQ {p:Nat->Bool}:∀{m i:Nat},(∀k,i<=k->k<i+m->p k=false)->eZ p m i=false
 | 0,i,_=>rfl
 | m+1,i,h=>by
  unfold eZ
  rw[h i (AK _) (by omega),VQ (fun k h1 h2=>h k (by omega) (by omega))];rfl
section
variable {E:EB} {D:Ai} {W:AH} {N:Nat} {U U':H} {p nT:Nat} {ty:Nat->Ty} {nm:BS} {nv rv tv:V} {rest:List V}
def ABY (D:Ai) (U:H) (f:Nat) (caps:List V) (n:Nat) (g:Nat->Vc) (q:Nat->Bool):Prop:=∀(U1:H) (k:Nat),k<n->Fr AL U U1->∃U2,D f ([]++[.agg (g k).c]++caps) U1=some (.bool (q k),U2)/\Fr AL U1 U2
theorem ADz {v:V} {n:Nat} {g:Nat->Vc} {f:Nat} {caps:List V} {q:Nat->Bool} (ht:Ar U) (hr:IA U 6 n v fun k=>(g k).c) (hq:ABY D U f caps n g q) (hN:n<N) (hn:n<=1000000) :
  ∃U',F57 E D W N [v,.fn f [] caps] U=some (.int .i64 (NR q n 0),U')/\Fr AL U U':=by
 have loop:∀(m n' i:Nat) (U1:H),i+m=n->m<n'->Fr AL U U1->∃U2,Vx E D W N n' v (.fn f [] caps) (AA n) (AA i) U1=some (.int .i64 (NR q m i),U2)/\Fr AL U U2:=by
  intro m
  induction m with
  | zero=>
   intro n' i U1 hi hn' f1
   obtain⟨n',rfl⟩:∃k,n'=k+1:=⟨n'-1,by omega⟩
   refine⟨U1,?_,f1⟩
   show Ve E D W _ _ v (.fn f [] caps) (AA n) (AA i) U1=_
   unfold Ve
   rw[C5,decide_eq_false (by omega),Bz];rfl
  | succ m ih=>
   intro n' i U1 hi hn' f1
   obtain⟨n',rfl⟩:∃k,n'=k+1:=⟨n'-1,by omega⟩
   have hlt:i<n:=by omega
   have r1:=hr.fr0 f1 ht
   have rd:∀J,AW 6 v (AA i) (fun b o=>Bv E U1 b o 6 J)=J (g i).c:=fun J=>r1.all hlt J
   obtain⟨U2,g2,f2⟩:=hq U1 i hlt f1
   have f12:=f1.trans f2 (fun _ _ h=>h)
   show ∃U',Ve E D W _ (Vx E D W N n') v (.fn f [] caps) (AA n) (AA i) U1=_/\_
   unfold Ve
   have cv:∀J,M1 D (.fn f [] caps) [.agg (g i).c] U1 J=J (.bool (q i)) U2:=fun J=>by
    show CM (D f ([]++[.agg (g i).c]++caps) U1) J=_
    rw[g2];rfl
   unfold Vc.c at rd cv
   have d1:decide (i<n)=true:=decide_eq_true hlt
   simp -implicitDefEqProofs only [↓rP,rA,AB,AE,AD,d1,↓rd,(g i).oneB,(g i).oneL,(g i).oneM,↓cv]
   unfold NR
   by_cases hqi:q i=true
   ·rw[hqi,Cy,if_pos rfl]
    exact⟨U2,rfl,f12⟩
   ·rw[Mb]at hqi
    rw[hqi,Bz,if_neg (by simp),A3 (by omega)]
    exact ih n' (i+1) U2 (by omega) (by omega) f12
 obtain⟨U2,h1,h2⟩:=loop n N 0 U (by omega) hN (Fr.refl ht)
 refine⟨U2,?_,h2⟩
 show kK E D W (Vx E D W N N) v (.fn f [] caps) U=_
 unfold kK
 rw[hr.len.2]
 exact h1
def AFE (F:List V->H->AF) (D:Ai):Prop:=∀{U:H} {v:V} {n:Nat} {g:Nat->Vc} {f:Nat} {caps:List V} {q:Nat->Bool},Ar U->IA U 6 n v (fun k=>(g k).c)->ABY D U f caps n g q->n<=10000 ->
  ∃U',F [v,.fn f [] caps] U=some (.int .i64 (NR q n 0),U')/\Fr AL U U'
def sF (F:List V->H->AF) (D:Ai):Prop:=∀{U:H} {v:V} {n:Nat} {g:Nat->Vc} {f:Nat} {caps:List V} {q:Nat->Bool},Ar U->IA U 6 n v (fun k=>(g k).c)->ABY D U f caps n g q->n<=10000 ->
  ∃U',F [v,.fn f [] caps] U=some (.bool (eZ q n 0),U')/\Fr AL U U'
theorem AED {D':Ai} (hI:AFE (D 57) D'):sF (F32 E D W N) D':=by
 intro U v n g f caps q ht hr hq hn
 obtain⟨U2,h1,h2⟩:=hI ht hr hq hn
 refine⟨U2,?_,h2⟩
 show km E D W v (.fn f [] caps) U=_
 unfold km
 rw[h1]
 show some (V.bool (I3 (AA 0) (NR q n 0)),U2)=_
 rw[Uw]
def lK (F:List V->H->AF) (nT:Nat) (ty:Nat->Ty) (i:Nat) (v:Vc):Prop:=∀(U:H) (p dp:Nat) (nm:BS) (nv rv tv:V) (rest:List V),Ar U->Ck U p nT ty nm nv rv tv rest->dp<=17 ->
 ∃U',F [.ptr p 0,.int .i64 (AA i),.agg v.c,.int .i64 (AA dp)] U=some (.bool true,U')/\Fr AL U U'
end
section
variable {E:EB} {D:Ai} {W:AH} {N:Nat} {U U':H} {p nT:Nat} {ty:Nat->Ty} {nm:BS} {nv rv tv:V} {rest:List V}
theorem Y5 {v:Vc} {n:Nat} {g:Nat->Vc} (hN:n<N) (hn:n<=10000) (ht:Ar U) (hr:IA U 6 n v.l fun k=>(g k).c)
  (hq:∀(U1:H) (k:Nat),k<n->Fr AL U U1->∃U2,D 31 [.agg (g k).c] U1=some (.int .i64 (AA 1),U2)/\Fr AL U1 U2) :
  ∃U',F31 E D W N [.agg v.c] U=some (.int .i64 (AA (1+n)),U')/\Fr AL U U':=by
 have loop:∀(m n' i:Nat) (U1:H),i+m=n->m<n'->Fr AL U U1->∃U2,mA E D W N n' (AA (1+i)) v.l (AA n) (AA i) U1=some (.int .i64 (AA (1+n)),U2)/\Fr AL U U2:=by
  intro m
  induction m with
  | zero=>
   intro n' i U1 hi hn' f1
   obtain⟨n',rfl⟩:∃k,n'=k+1:=⟨n'-1,by omega⟩
   refine⟨U1,?_,f1⟩
   show Vk E D W _ _ (AA (1+i)) v.l (AA n) (AA i) U1=_
   unfold Vk
   rw[C5,decide_eq_false (by omega),Bz]
   obtain rfl:i=n:=by omega
   rfl
  | succ m ih=>
   intro n' i U1 hi hn' f1
   obtain⟨n',rfl⟩:∃k,n'=k+1:=⟨n'-1,by omega⟩
   have hlt:i<n:=by omega
   have rd:∀J,AW 6 v.l (AA i) (fun b o=>Bv E U1 b o 6 J)=J (g i).c:=fun J=>(hr.fr0 f1 ht).all hlt J
   obtain⟨U2,g2,f2⟩:=hq U1 i hlt f1
   obtain⟨U3,g3,f3⟩:=ih n' (i+1) U2 (by omega) (by omega) (f1.trans f2 (fun _ _ h=>h))
   refine⟨U3,?_,f3⟩
   unfold Vc.c at rd g2
   have d1:decide (i<n)=true:=decide_eq_true hlt
   have key:∀K1 K2,Vk E D W K1 K2 (AA (1+i)) v.l (AA n) (AA i) U1=K2 (AA (1+(i+1))) v.l (AA n) (AA (i+1)) U2:=by
    intro K1 K2
    unfold Vk
    simp -implicitDefEqProofs only [↓rP,rA,AB,AE,AD,d1,↓rd,(g i).oneB,(g i).oneL,(g i).oneM,↓g2,A3 (show 1+i+1<=9223372036854775807 by omega),A3 (show i+1<=9223372036854775807 by omega),D3]
   exact(key _ _).trans g3
 obtain⟨U1,e1,f1,a1,n1⟩:=Ca ht v.c
 obtain⟨U2,h1,h2⟩:=loop n N 0 U1 (by omega) hN f1
 refine⟨U2,?_,h2⟩
 unfold Vc.c at e1 a1
 have hln:=hr.len.2
 have key:∀K,ko E D W K v.k v.n v.b v.l v.r v.m U=K (AA 1) v.l (AA n) (AA 0) U1:=by
  intro K
  unfold ko
  simp -implicitDefEqProofs only [↓rP,rA,AB,AE,AD,v.oneB,v.oneL,v.oneM,↓e1,↓hln,↓AZ a1]
 exact(key _).trans h1
theorem YT {D':Ai} (hC:sF (D 32) D') {v:Vc} {n:Nat} {g:Nat->Vc} {ru:Int} (hn:n<=10000) (hv:(Bt v.r (AA 0) || Bt v.r ru)=true) (ht:Ar U) (hr:IA U 6 n v.l fun k=>(g k).c)
  (hq:∀(U1:H) (q k:Nat),k<n->Fr AL U U1->CQ U1 q [.int .i64 ru]->∃U2,D' 33 ([]++[.agg (g k).c]++[.ptr q 0]) U1=some (.bool false,U2)/\Fr AL U1 U2) :
  ∃U',F17 E D W N [.agg v.c,.int .i64 ru] U=some (.bool true,U')/\Fr AL U U':=by
 obtain⟨U1,e1,f1,a1,n1⟩:=Ca ht v.c
 obtain⟨U2,e2,f2,a2,n2⟩:=Ca f1.tidy [.int .i64 ru]
 have f02:=f1.trans f2 (fun _ _ h=>h)
 have a12:=f2.at_ a1 f1.tidy (fun h=>h)
 obtain⟨U3,g3,f3⟩:=hC (U:=U2) (caps:=[.ptr U1.next 0]) (f:=33) (q:=fun _=>false) f02.tidy (hr.fr0 f02 ht) (fun U9 k hk f9=>hq U9 U1.next k hk (f02.trans f9 (fun _ _ h=>h)) (f9.at_ a2 f02.tidy (fun h=>h))) hn
 rw[VQ (fun _ _ _=>rfl)]at g3
 refine⟨U3,?_,f02.trans f3 (fun _ _ h=>h)⟩
 unfold Vc.c at e1 a12
 show lA E D W v.k v.n v.b v.l v.r v.m ru U=_
 unfold lA
 cases h0:Bt v.r (AA 0)with
 | true=>simp -implicitDefEqProofs only [↓rP,rS,C5,OC,v.oneB,v.oneL,v.oneM,↓e1,↓e2,↓AZ a12,↓AZ a2,h0,↓g3]
 | false=>
  rw[h0,Dc]at hv
  simp -implicitDefEqProofs only [↓rP,rS,C5,OC,v.oneB,v.oneL,v.oneM,↓e1,↓e2,↓AZ a12,↓AZ a2,h0,hv,↓g3]
theorem ABK {i n:Nat} {v:Vc} (hn:n<=5000) (ht:Ar U) (hr:IA U 13 nT tv fun i=>(ty i).c) (h1:nv.one=true) (h2:rv.one=true) (h3:tv.one=true)
  (hF:∀(U1:H) (p:Nat),Ar U1->Fr AL U U1->Ck U1 p nT ty nm nv rv tv [.bool false]->∃U2,D 30 [.ptr p 0,.int .i64 (AA i),.agg v.c,.int .i64 (AA 1)] U1=some (.bool true,U2)/\Fr AL U1 U2)
  (hC:∀U1:H,Ar U1->Fr AL U U1->∃U2,D 31 [.agg v.c] U1=some (.int .i64 (AA n),U2)/\Fr AL U1 U2) :
  ∃U',F16 E D W N [.agg [.str nm,nv,rv,tv],.int .i64 (AA i),.agg v.c] U=some (.bool true,U')/\Fr AL U U':=by
 obtain⟨U1,e1,f1,a1,n1⟩:=Ca ht [.str nm,nv,rv,tv]
 obtain⟨U2,e2,f2,a2,n2⟩:=Ca f1.tidy v.c
 obtain⟨U3,e3,f3,a3,n3⟩:=Ca f2.tidy [.str nm,nv,rv,tv,.bool false]
 have f02:=f1.trans f2 (fun _ _ h=>h)
 have f03:=f02.trans f3 (fun _ _ h=>h)
 have r3:=hr.fr0 f03 ht
 have c3:Ck U3 U2.next nT ty nm nv rv tv [.bool false]:=⟨a3,h1,h2,h3,r3,fun b hb e=>by
  subst e
  have lo:=f02.le
  rcases hr.is with ⟨_,rfl⟩|⟨b,c,L,rfl,ha,_⟩
  ·exact hb
  ·have:=ha.lt ht
   have hb:U2.next=b:=hb
   omega⟩
 obtain⟨U4,g4,f4⟩:=hF U3 U2.next f3.tidy f03 c3
 have f04:=f03.trans f4 (fun _ _ h=>h)
 obtain⟨U5,g5,f5⟩:=hC U4 f4.tidy f04
 have a12:=f2.at_ a1 f1.tidy (fun h=>h)
 have a23:=f3.at_ a2 f2.tidy (fun h=>h)
 have a24:=f4.at_ a23 f3.tidy (fun h=>h)
 have d1:decide (n<=5000)=true:=decide_eq_true hn
 refine⟨U5,?_,f04.trans f5 (fun _ _ h=>h)⟩
 unfold Vc.c at e2 a2 a23 a24 g4 g5
 show lC E D W nm nv rv tv (AA i) v.k v.n v.b v.l v.r v.m U=_
 unfold lC
 simp -implicitDefEqProofs only [↓rP,rA,AB,AE,AD,h1,h2,h3,v.oneB,v.oneL,v.oneM,↓e1,↓e2,↓e3,↓BX a12,↓BX a23,↓BX a24,↓g4,↓g5,d1]
end
section
variable {E:EB} {D:Ai} {W:AH} {N:Nat} {nT:Nat} {ty:Nat->Ty} {nm:BS} {nv rv tv:V}
end
theorem JI {U:H} (ht:Ar U) (z:List V):∃U1,Br U (.cells z)=U1/\Fr AL U U1/\CQ U1 U.next z/\U1.next=U.next+1:=⟨_,rfl,Fr.new ht _,Gz _,rfl⟩
theorem Yk {U:H} {b:Nat} {l:List V} (ht:Ar U) (h:CQ U b l) (z:List V):∃U1,GP U b (.cells z)=U1/\Fr (fun k=>k=b) U U1/\CQ U1 b z:=⟨_,rfl,Fr.set ht (h.lt ht) _,WT _⟩
def LP (c:Nat):Bool:=(decide (97<=c)&&decide (c<=122)) || (decide (65<=c)&&decide (c<=90))
def Gv (c:Nat):Bool:=decide (48<=c)&&decide (c<=57)
def Ur (c:Nat):Bool:=((decide (c=32) || decide (c=9)) || decide (c=10)) || decide (c=13)
def ML (c:Nat) (r:List Nat):Bool:=decide (c=45)&&decide (r.headD 0=45)
def YV:List Nat->List Nat
 | []=>[]
 | c::r=>match decide (c=10)with
  | true=>c::r
  | false=>match ML c r with
   | true=>r.drop 1
   | false=>YV r
def T1:Nat->List Nat->List Nat
 | 0,r=>r
 | _+1,[]=>[]
 | n+1,c::r=>match Ur c with
  | true=>T1 n r
  | false=>match ML c r with
   | true=>T1 n (YV (r.drop 1))
   | false=>c::r
theorem Wh:∀r:List Nat,(YV r).length<=r.length
 | []=>AK _
 | c::r=>by
  unfold YV
  have:=Wh r
  split
  ·exact AK _
  ·split
   ·simp;omega
   ·simp;omega
theorem Wb:∀(n:Nat) (r:List Nat),(T1 n r).length<=r.length
 | 0,_=>AK _
 | _+1,[]=>AK _
 | n+1,c::r=>by
  unfold T1
  split
  ·exact Nat.le_succ_of_le (Wb n r)
  ·split
   ·have h1:=Wb n (YV (r.drop 1))
    have h2:=Wh (r.drop 1)
    simp only[AN,CA]at *;omega
   ·exact AK _
structure Hv (s:BS) (i:Nat) (r:List Nat):Prop where
 r:P3 s i r
 few:s.len<=10000
section
variable {s:BS} {i c:Nat} {r:List Nat}
theorem Hv.len (h:Hv s i r):i+r.length=s.len:=h.r.len
theorem Hv.le (h:Hv s i r):i<=10000:=by have:=h.len;have:=h.few;omega
theorem Hv.tl (h:Hv s i (c::r)):Hv s (i+1) r:=⟨h.r.tail,h.few⟩
theorem Hv.dr (h:Hv s i r) {k:Nat} (hk:k<=r.length):Hv s (i+k) (r.drop k):=⟨h.r.drop hk,h.few⟩
theorem Hv.lt (h:Hv s i (c::r)):i<s.len:=by have:=h.len;simp at this;omega
theorem Hv.ix (h:Hv s i (c::r)) (J:Int->AF):Cv s (AA i) J=J (AA c):=by
 rw[Ut h.lt]
 have:=h.r.getD_lt (k:=0) h.lt
 rw[JH]at this
 rw[<-this];rfl
theorem Hv.nil (h:Hv s i []):i=s.len:=by have:=h.len;simpa using this
theorem Hv.hd (h:Hv s i r) (J:Int->AF) (hi:i<s.len):Cv s (AA i) J=J (AA (r.headD 0)):=by
 cases r with
 | nil=>have:=h.nil;omega
 | cons c r=>exact h.ix J
end
def MV (F:List V->H->AF):Prop:=∀(U:H) (s:BS) (i:Nat) (r:List Nat),Hv s i r->F [.str s,.int .i64 (AA i)] U=some (.int .u8 (AA (r.headD 0)),U)
def RN (F:List V->H->AF):Prop:=∀(U:H) (c:Nat),F [.int .u8 (AA c)] U=some (.bool (LP c),U)
def Pv (F:List V->H->AF):Prop:=∀(U:H) (c:Nat),F [.int .u8 (AA c)] U=some (.bool (Gv c),U)
def Zg (N:Nat) (F:List V->H->AF):Prop:=∀(U:H) (s:BS) (i:Nat) (r:List Nat),Hv s i r->∃k,k<=r.length/\T1 N r=r.drop k/\F [.str s,.int .i64 (AA i)] U=some (.int .i64 (AA (i+k)),U)
section
variable {E:EB} {D:Ai} {W:AH} {N:Nat}
theorem ADD:MV (F64 E D W N):=by
 intro U s i r h
 show kE E D W s (AA i) U=_
 unfold kE
 cases r with
 | nil=>
  have d2:decide (s.len<=i)=true:=decide_eq_true (by have:=h.nil;omega)
  simp -implicitDefEqProofs only [↓rP,rA,AB,AE,AD,Cw,d2]
  rfl
 | cons c r=>
  have d2:decide (s.len<=i)=false:=decide_eq_false (by have:=h.lt;omega)
  have e:=h.ix
  simp -implicitDefEqProofs only [↓rP,rA,AB,AE,AD,Cw,d2,↓e]
  rfl
theorem xA:RN (F65 E D W N):=by
 intro U c
 show kD E D W (AA c) U=_
 unfold kD LP
 simp -implicitDefEqProofs only [Cl,Fm,HY,BC,BP,Ed,ET,Dg,Fu,Mq,KL,A8,Q3,HU,HV,Mm,Ml,Mj,Mi,KJ,IT,E7,Fj,HO,HP,HR,HN,Fh,HQ,GR,Ic,Ib,GO,IX,E2,Cy,Bz,KS,Gs,I5,QK,BA,E9,FJ,rC,rQ,decide_false,decide_true,AB,AE,AD]
theorem xB:Pv (F68 E D W N):=by
 intro U c
 show kA E D W (AA c) U=_
 unfold kA Gv
 simp -implicitDefEqProofs only [Cl,Fm,HY,BC,BP,Ed,ET,Dg,Fu,Mq,KL,A8,Q3,HU,HV,Mm,Ml,Mj,Mi,KJ,IT,E7,Fj,HO,HP,HR,HN,Fh,HQ,GR,Ic,Ib,GO,IX,E2,Cy,Bz,KS,Gs,I5,QK,BA,E9,FJ,rC,rQ,decide_false,decide_true,AB,AE,AD]
theorem tX (hA:MV (D 64)) (K:BS->Int->H->AF) (U:H) (s:BS):∀(r:List Nat) (n i:Nat),r.length<n->Hv s i r->∃k,k<=r.length/\YV r=r.drop k/\RP E D W N K n s (AA i) U=K s (AA (i+k)) U
 | [],n,i,hn,h=>by
  obtain⟨n,rfl⟩:∃m,n=m+1:=⟨n-1,by omega⟩
  refine⟨0,AK _,rfl,?_⟩
  show J6 E D W K _ s (AA i) U=_
  have d1:decide (i<s.len)=false:=decide_eq_false (by have:=h.nil;omega)
  have key:∀R,J6 E D W K R s (AA i) U=K s (AA i) U:=by
   intro R
   unfold J6
   simp -implicitDefEqProofs only [↓rP,rA,AB,AE,AD,d1]
  exact key _
 | c::r,n,i,hn,h=>by
  obtain⟨n,rfl⟩:∃m,n=m+1:=⟨n-1,by omega⟩
  have e:=h.ix
  have hl:=h.lt
  have hle:=h.le
  have d1:decide (i<s.len)=true:=decide_eq_true hl
  have g:=hA U s (i+1) r h.tl
  have a1:Ba .i64 (AA i) (AA 1)=AA (i+1):=A3 (by omega)
  have a2:Ba .i64 (AA i) (AA 2)=AA (i+2):=A3 (by omega)
  show ∃k,k<=_/\YV (c::r)=_/\J6 E D W K (RP E D W N K n) s (AA i) U=_
  by_cases h10:c=10
  ·refine⟨0,DZ _,by unfold YV;rw[decide_eq_true h10];rfl,?_⟩
   have d2:decide (c=10)=true:=decide_eq_true h10
   have key:∀R,J6 E D W K R s (AA i) U=K s (AA i) U:=by
    intro R
    unfold J6
    simp -implicitDefEqProofs only [↓rP,rA,AB,AE,AD,d1,↓e,d2]
   exact key _
  ·have d2:decide (c=10)=false:=decide_eq_false h10
   cases hd:ML c r with
   | true=>
    obtain⟨k,hk,hk'⟩:∃k,k<=(c::r).length/\YV (c::r)=(c::r).drop 2:=by
     refine⟨0,DZ _,?_⟩
     unfold YV;rw[d2,hd];rfl
    have hr:r≠[]:=fun e=>by subst e;simp[ML]at hd
    refine⟨2,by cases r with | nil=>exact absurd rfl hr | cons _ _=>simp,hk',?_⟩
    unfold ML at hd
    rw[AG]at hd
    have key:∀R,J6 E D W K R s (AA i) U=K s (AA (i+2)) U:=by
     intro R
     unfold J6
     simp -implicitDefEqProofs only [↓rP,rA,AB,AE,AD,d1,↓e,d2,hd.1,a1,a2,↓g,hd.2]
    exact key _
   | false=>
    obtain⟨k,h1,h2,h3⟩:=tX hA K U s r n (i+1) (by simp at hn;omega) h.tl
    refine⟨k+1,by simp;omega,by unfold YV;rw[d2,hd];exact h2,?_⟩
    unfold ML at hd
    have key:∀R,J6 E D W K R s (AA i) U=R s (AA (i+1)) U:=by
     intro R
     unfold J6
     cases h45:decide (c=45)with
     | true=>
      rw[h45,Co]at hd
      simp -implicitDefEqProofs only [↓rP,rA,AB,AE,AD,d1,↓e,d2,h45,a1,↓g,hd]
     | false=>simp -implicitDefEqProofs only [↓rP,rA,AB,AE,AD,d1,↓e,d2,h45,a1]
    rw[key,h3,show i+1+k=i+(k+1)by omega]
theorem fk (hA:MV (D 64)) (hN:10000<N) (U:H) (s:BS):∀(n:Nat) (r:List Nat) (i:Nat),r.length<n->Hv s i r->∃k,k<=r.length/\T1 n r=r.drop k/\Ni E D W N n s (AA i) U=some (.int .i64 (AA (i+k)),U)
 | 0,r,i,hn,h=>by omega
 | n+1,[],i,hn,h=>by
  refine⟨0,AK _,rfl,?_⟩
  show PZ E D W (nF E D W N) (RP E D W N (Ni E D W N n) N) (Ni E D W N n) s (AA i) U=_
  have d1:decide (i<s.len)=false:=decide_eq_false (by have:=h.nil;omega)
  have key:∀K3 R,PZ E D W (kb E D W) K3 R s (AA i) U=some (.int .i64 (AA i),U):=by
   intro K3 R
   unfold PZ kb
   simp -implicitDefEqProofs only [↓rP,rA,AB,AE,AD,d1]
  exact key _ _
 | n+1,c::r,i,hn,h=>by
  have e:=h.ix
  have hl:=h.lt
  have hle:=h.le
  have d1:decide (i<s.len)=true:=decide_eq_true hl
  have g:=hA U s (i+1) r h.tl
  have a1:Ba .i64 (AA i) (AA 1)=AA (i+1):=A3 (by omega)
  have a2:Ba .i64 (AA i) (AA 2)=AA (i+2):=A3 (by omega)
  show ∃k,k<=_/\T1 (n+1) (c::r)=_/\PZ E D W (nF E D W N) (RP E D W N (Ni E D W N n) N) (Ni E D W N n) s (AA i) U=_
  have key:∀K1 K3 R,PZ E D W K1 K3 R s (AA i) U=AI (Ur c) (R s (AA (i+1)) U) (AI (ML c r) (K3 s (AA (i+2)) U) (some (.int .i64 (AA i),U))):=by
   intro K1 K3 R
   unfold PZ Ur ML
   simp -implicitDefEqProofs only [Cl,Fm,HY,BC,BP,Ed,ET,Dg,Fu,Mq,KL,A8,Q3,HU,HV,Mm,Ml,Mj,Mi,KJ,IT,E7,Fj,HO,HP,HR,HN,Fh,HQ,GR,Ic,Ib,GO,IX,E2,Cy,Bz,KS,Gs,I5,QK,BA,E9,FJ,rC,rQ,decide_false,decide_true,AB,AE,AD,d1,e,a1,a2,g]
  rw[key]
  cases hw:Ur c with
  | true=>
   obtain⟨k,h1,h2,h3⟩:=fk hA hN U s n r (i+1) (by simp at hn;omega) h.tl
   refine⟨k+1,by simp;omega,by unfold T1;rw[hw];exact h2,?_⟩
   rw[Cy,h3,show i+1+k=i+(k+1)by omega]
  | false=>
   rw[Bz]
   cases hd:ML c r with
   | true=>
    have hr:r≠[]:=fun e=>by subst e;simp[ML]at hd
    have hr1:1<=r.length:=by cases r with | nil=>exact absurd rfl hr | cons _ _=>simp
    have h2':Hv s (i+2) (r.drop 1):=h.tl.dr hr1
    obtain⟨k,h1,h2,h3⟩:=tX (E:=E) (W:=W) (N:=N) hA (Ni E D W N n) U s (r.drop 1) N (i+2) (by have:=h.len;have:=h.few;simp only[AN,CA]at *;omega) h2'
    have h4:=h2'.dr h1
    rw[<-h2]at h4
    have hle':=Wh (r.drop 1)
    obtain⟨j,h5,h6,h7⟩:=fk hA hN U s n (YV (r.drop 1)) (i+2+k) (by simp only[AN,CA]at *;omega) h4
    have hkl:(YV (r.drop 1)).length=r.length-1-k:=by rw[h2];simp only[CA]
    simp only[CA]at h1
    refine⟨2+k+j,by simp only[AN];omega,?_,?_⟩
    ·unfold T1
     rw[hw,hd]
     show T1 n (YV (r.drop 1))=_
     rw[h6,h2,CJ,CJ,show 2+k+j=(1+(k+j))+1 by omega,List.drop_succ_cons]
    ·rw[Cy,h3,h7,show i+2+k+j=i+(2+k+j)by omega]
   | false=>exact⟨0,DZ _,by unfold T1;rw[hw,hd];rfl,by rw[Bz];rfl⟩
theorem ACt (hA:MV (D 64)) (hN:10000<N):Zg N (F37 E D W N):=by
 intro U s i r h
 obtain⟨k,h1,h2,h3⟩:=fk (E:=E) (W:=W) hA hN U s N r i (by have:=h.len;have:=h.few;omega) h
 exact⟨k,h1,h2,h3⟩
end
def Mf:List BS:=[BS.mk 11 100710650190388740279911748,BS.mk 8 6073459554577832005,BS.mk 8 6073459554577829193,BS.mk 9 1241215773001651606849,BS.mk 4 1397178708,BS.mk 5 336236856642,BS.mk 3 4476485,BS.mk 7 22026814072246082,BS.mk 7 23157120498421321,BS.mk 10 322399817400452109389381,BS.mk 4 1280070990,BS.mk 5 361940403023,BS.mk 6 78401563153491,BS.mk 10 488440487847103610377301,BS.mk 8 4990918871747741011,BS.mk 3 5522771,BS.mk 6 76155295057987,BS.mk 2 17999,BS.mk 8 5494759122808361039,BS.mk 7 23727827094750532,BS.mk 4 1163544915,BS.mk 3 5130573,BS.mk 3 5783885,BS.mk 4 1163219540,BS.mk 5 297750249798]
def DI:List BS:=[BS.mk 3 4012602,BS.mk 3 3026478,BS.mk 2 11822,BS.mk 2 23387,BS.mk 2 23901,BS.mk 1 123,BS.mk 1 125,BS.mk 1 91,BS.mk 1 93,BS.mk 1 40,BS.mk 1 41,BS.mk 1 44,BS.mk 1 58]
def wj (t:BS):Bool:=Mf.any fun w=>w.beq t
def fQ (c:Nat) (r:List Nat):Bool:=(LP c || Gv c) || (decide (c=45) && !decide (r.headD 0=45))
def NN:List Nat->Nat
 | []=>0
 | c::r=>match fQ c r with
  | true=>NN r+1
  | false=>0
def Qn (w:List Nat):Bool:=decide (w.getD (w.length-1) 0=45) || decide (60<w.length)
def Hx:List BS->List Nat->Nat
 | [],_=>0
 | t::l,r=>match decide (t.len<=r.length)&&decide (r.take t.len=t.nats)with
  | true=>t.len
  | false=>Hx l r
def En:Nat->List Nat->Nat
 | a,[]=>a
 | a,d::l=>En (10*a+(d-48)) l
structure IB (m:Bool) (ds r:List Nat):Prop where
 dig:∀d∈ds,Gv d=true
 n1:1<=ds.length
 n19:ds.length<=19
 lead:ds.length=1\/ds.headD 0≠48
 mi:m=true->ds.headD 0≠48
 nd:Gv (r.headD 0)=false
 nl:LP (r.headD 0)=false
 v:En 0 ds<=9223372036854775808
 vp:m=false->En 0 ds<9223372036854775808
def GB (m:Bool) (ds:List Nat):List Nat:=if m=true then 45::ds else ds
theorem Jt (c:Nat) (r:List Nat):NN (c::r)=match fQ c r with
 | true=>NN r+1
 | false=>0:=rfl
theorem IZ (t:BS) (l:List BS) (r:List Nat):Hx (t::l) r=match decide (t.len<=r.length)&&decide (r.take t.len=t.nats)with
 | true=>t.len
 | false=>Hx l r:=rfl
theorem SX:∀r:List Nat,NN r<=r.length
 | []=>AK _
 | c::r=>by
  unfold NN
  have:=SX r
  split<;>simp only[AN]<;>omega
def Vn (F:List V->H->AF):Prop:=∀(U:H) (v:V) (l:List BS) (b:BS),DL U 1 l.length v (l.map .str)->l.length<=9000->F [v,.str b] U=some (.bool (l.any fun x=>x.beq b),U)
def S8 (F:List V->H->AF):Prop:=∀(U:H) (b:BS),Ar U->∃U',F [.str b] U=some (.bool (wj b),U')/\Fr AL U U'
def TA (F:List V->H->AF):Prop:=∀(U:H) (s:BS) (i c:Nat) (r:List Nat),Hv s i (c::r)->LP c=true ->
 F [.str s,.int .i64 (AA i)] U=some (.int .i64 (if Qn ((c::r).take (NN (c::r)))=true then Az 0 else AA (i+NN (c::r))),U)
def S9 (F:List V->H->AF):Prop:=∀(U:H) (s:BS) (i:Nat) (r:List Nat),Ar U->Hv s i r->∃U',F [.str s,.int .i64 (AA i)] U=some (.int .i64 (AA (Hx DI r)),U')/\Fr AL U U'
def XX (F:List V->H->AF):Prop:=∀(U:H) (s:BS) (i:Nat) (m:Bool) (ds r:List Nat),Hv s i (GB m ds++r)->IB m ds r ->
 F [.str s,.int .i64 (AA i)] U=some (.int .i64 (AA (i+(GB m ds).length)),U)
section
variable {E:EB} {D:Ai} {W:AH} {N:Nat}
theorem AD3 (hN:10000<N):Vn (F43 E D W N):=by
 intro U v l b hv hl
 have key:∀(m i n:Nat),i+m=l.length->m<n->Zz E D W N n v b (AA i) U=some (.bool ((l.drop i).any fun x=>x.beq b),U):=by
  intro m
  induction m with
  | zero=>
   intro i n hi hn
   obtain⟨n,rfl⟩:∃k,n=k+1:=⟨n-1,by omega⟩
   rw[Tx (by omega)]
   show PX E D W (Vg E D W) _ v b (AA i) U=_
   have d1:decide (i<l.length)=false:=decide_eq_false (by omega)
   have sl:∀J:Nat->AF,A0 v J=J l.length:=fun J=>hv.slen
   have k:∀R,PX E D W (Vg E D W) R v b (AA i) U=some (.bool false,U):=by
    intro R
    unfold PX Vg
    simp -implicitDefEqProofs only [↓rP,rA,AB,AE,AD,↓sl,d1]
   exact k _
  | succ m ih=>
   intro i n hi hn
   obtain⟨n,rfl⟩:∃k,n=k+1:=⟨n-1,by omega⟩
   have hlt:i<l.length:=by omega
   rw[DB hlt,List.any_cons]
   show PX E D W (Vg E D W) (Zz E D W N n) v b (AA i) U=_
   have d1:decide (i<l.length)=true:=decide_eq_true hlt
   have sl:∀J:Nat->AF,A0 v J=J l.length:=fun J=>hv.slen
   have rd:∀J,AW 1 v (AA i) (fun b o=>EG E U b o J)=J (.str l[i]):=fun J=>by
    rcases hv with ⟨h0,_,_⟩|⟨bb,o,c,L,rfl,ha,hle,hm⟩
    ·omega
    ·rw[Cb hlt]
     refine I4 ha ?_
     have:(l.map V.str)[i]? = some (.str l[i]):=by rw[Aw,AM hlt];rfl
     rw[hm,Gg,if_pos (by omega),Bm]at this
     show L[o+i*1]? = _
     rw[B8];exact this
   have k:∀K R,PX E D W K R v b (AA i) U=AI (l[i].beq b) (some (.bool true,U)) (R v b (AA (i+1)) U):=by
    intro K R
    unfold PX
    simp -implicitDefEqProofs only [↓rP,rA,AB,AE,AD,↓sl,d1,↓rd,A3 (show i+1<=9223372036854775807 by omega)]
   rw[k,ih (i+1) n (by omega) (by omega)]
   cases l[i].beq b<;>rfl
 exact key l.length 0 N (by omega) (by omega)
theorem pa (hI:Vn (D 43)) (hW:∀U:H,D 98 [] U=some (.sl U.next 0 25 (.ex 25),Br U (.cells (Mf.map .str)))):S8 (F67 E D W N):=by
 intro U b ht
 obtain⟨U1,e1,f1,a1,n1⟩:=JI ht (Mf.map .str)
 have g0:=hW U
 rw[e1]at g0
 have g1:=hI U1 (.sl U.next 0 25 (.ex 25)) Mf b (.inr ⟨U.next,0,_,_,rfl,a1,by decide,rfl⟩) (by decide)
 refine⟨U1,?_,f1⟩
 show kB E D W b U=_
 unfold kB
 simp -implicitDefEqProofs only [↓rP,rS,↓g0,↓g1]
 rfl
theorem gR:∀U:H,F98 E D W N [] U=some (.sl U.next 0 25 (.ex 25),Br U (.cells (Mf.map .str))):=fun _=>rfl
theorem ADq (hA:MV (D 64)) (hL:RN (D 65)) (hD:Pv (D 68)) (U:H) (s:BS) (f:Int):∀(r:List Nat) (n i:Nat),r.length<n->Hv s i r->Vv E D W N n s (AA i) f U=RV E D W N s (AA (i+NN r)) f U
 | [],n,i,hn,h=>by
  obtain⟨n,rfl⟩:∃m,n=m+1:=⟨n-1,by omega⟩
  show PV E D W (RV E D W N) _ s (AA i) f U=_
  have d1:decide (i<s.len)=false:=decide_eq_false (by have:=h.nil;omega)
  have key:∀K R,PV E D W K R s (AA i) f U=K s (AA i) f U:=by
   intro K R
   unfold PV
   simp -implicitDefEqProofs only [↓rP,rA,AB,AE,AD,d1]
  exact key _ _
 | c::r,n,i,hn,h=>by
  obtain⟨n,rfl⟩:∃m,n=m+1:=⟨n-1,by omega⟩
  have e:=h.ix
  have hle:=h.le
  have d1:decide (i<s.len)=true:=decide_eq_true h.lt
  have g:=hA U s (i+1) r h.tl
  have g1:=hL U c
  have g2:=hD U c
  have a1:Ba .i64 (AA i) (AA 1)=AA (i+1):=A3 (by omega)
  show PV E D W (RV E D W N) (Vv E D W N n) s (AA i) f U=_
  have key:∀K R,PV E D W K R s (AA i) f U=AI (fQ c r) (R s (AA (i+1)) f U) (K s (AA i) f U):=by
   intro K R
   unfold PV fQ
   cases h1:LP c<;>cases h2:Gv c<;>cases h3:decide (c=45)<;>simp -implicitDefEqProofs only [↓rP,rA,AB,AE,AD,d1,↓e,↓g1,↓g2,h1,h2,h3,a1,↓g]<;>rfl
  rw[key]
  cases hc:fQ c r with
  | true=>
   rw[Cy,ADq hA hL hD U s f r n (i+1) (by simp at hn;omega) h.tl]
   rw[Jt,hc]
   show RV E D W N s (AA (i+1+NN r)) f U=RV E D W N s (AA (i+(NN r+1))) f U
   rw[show i+1+NN r=i+(NN r+1)by omega]
  | false=>rw[Bz,Jt,hc];rfl
theorem ph (hA:MV (D 64)) (hL:RN (D 65)) (hD:Pv (D 68)) (hN:10000<N):TA (F66 E D W N):=by
 intro U s i c r h hc
 have hle:=h.le
 have hlen:=h.len
 have hfew:=h.few
 have hm:=SX (c::r)
 have h1:fQ c r=true:=by unfold fQ;rw[hc];rfl
 have h0:1<=NN (c::r):=by unfold NN;rw[h1];exact Nat.succ_pos _
 obtain⟨m,hm'⟩:∃m,NN (c::r)=m:=⟨_,rfl⟩
 rw[hm']at hm h0 ⊢
 have lt:((c::r).take m).length=m:=by rw[BY];omega
 have h5:Hv s (i+(m-1)) ((c::r).drop (m-1)):=h.dr (by omega)
 have hd:((c::r).drop (m-1)).headD 0=((c::r).take m).getD (m-1) 0:=by
  rw[BT,Gg,if_pos (by omega),List.headD_eq_head?_getD,List.head?_drop]
 have e:=fun J=>h5.hd J (by omega)
 rw[hd]at e
 have a1:Dp .i64 (AA (i+m)) (AA 1)=AA (i+(m-1)):=by rw[Fs (by omega) (by omega),show i+m-1=i+(m-1)by omega]
 have a2:Dp .i64 (AA (i+m)) (AA i)=AA m:=by rw[Fs (by omega) (by omega),show i+m-i=m by omega]
 show Vv E D W N N s (AA i) (AA i) U=_
 rw[ADq hA hL hD U s _ (c::r) N i (by omega) h,hm']
 show kC E D W s (AA (i+m)) (AA i) U=_
 unfold kC Qn
 rw[lt]
 cases h6:decide (((c::r).take m).getD (m-1) 0=45)<;>cases h7:decide (60<m)<;>simp -implicitDefEqProofs only [↓rP,rA,AB,AE,AD,a1,a2,↓e,h6,h7]<;>rfl
theorem AC7 (hN:100<N) (U:H) (r:List Nat) (hb:∀c∈r,c<256) (b:Nat) (ha:CQ U b (DI.map .str)):∀(m j n:Nat),j+m=13->m<n->Vt E D W N n (BB r) (.sl b 0 13 (.ex 13)) (AA j) U=some (.int .i64 (AA (Hx (DI.drop j) r)),U)
 | 0,j,n,hj,hn=>by
  obtain⟨n,rfl⟩:∃k,n=k+1:=⟨n-1,by omega⟩
  obtain rfl:j=13:=by omega
  show PS E D W (VZ E D W) _ (BB r) (.sl b 0 13 (.ex 13)) (AA 13) U=_
  have key:∀R,PS E D W (VZ E D W) R (BB r) (.sl b 0 13 (.ex 13)) (AA 13) U=some (.int .i64 (AA 0),U):=by
   intro R
   unfold PS VZ
   simp -implicitDefEqProofs only [↓rP,rA,AB,AE,AD,C7]
  exact key _
 | m+1,j,n,hj,hn=>by
  obtain⟨n,rfl⟩:∃k,n=k+1:=⟨n-1,by omega⟩
  have hl:j<DI.length:=by show j<13;omega
  rw[DB hl]
  have d1:decide (j<13)=true:=decide_eq_true (by omega)
  have rd:∀J,AW 1 (.sl b 0 13 (.ex 13)) (AA j) (fun b o=>EG E U b o J)=J (.str DI[j]):=fun J=>by
   rw[Cb (show j<13 by omega)]
   refine I4 ha ?_
   show (DI.map V.str)[0+j*1]? = _
   rw[BA,B8,Aw,AM hl];rfl
  show PS E D W (VZ E D W) (Vt E D W N n) (BB r) (.sl b 0 13 (.ex 13)) (AA j) U=_
  have ih:=AC7 hN U r hb b ha m (j+1) n (by omega) (by omega)
  generalize DI[j]=t at rd ⊢
  have key:∀K R,PS E D W K R (BB r) (.sl b 0 13 (.ex 13)) (AA j) U=AI (decide (t.len<=r.length)&&decide (r.take t.len=t.nats)) (some (.int .i64 (AA t.len),U)) (R (BB r) (.sl b 0 13 (.ex 13)) (AA (j+1)) U):=by
   intro K R
   have hn':(BB r).len=r.length:=FT r
   unfold PS
   by_cases h1:t.len<=r.length
   ·have sp:∀J,C3 (BB r) none (some (.int .i64 (AA t.len))) J=J ((BB r).sub 0 t.len):=fun J=>SI (by rw[hn'];exact h1)
    have eb:((BB r).sub 0 t.len).beq t=decide (r.take t.len=t.nats):=by
     rw[BS.beq_nats,BS.nats_sub (by rw[hn'];exact h1),Gl hb,FI,Tu]
    simp -implicitDefEqProofs only [↓rP,rA,AB,AE,AD,d1,↓rd,hn',decide_eq_true h1,↓sp,eb,A3 (show j+1<=9223372036854775807 by omega)]
   ·simp -implicitDefEqProofs only [↓rP,rA,AB,AE,AD,d1,↓rd,hn',decide_eq_false h1,A3 (show j+1<=9223372036854775807 by omega)]
  rw[key,ih,IZ]
  cases decide (t.len<=r.length)&&decide (r.take t.len=t.nats)<;>rfl
theorem pg (hN:100<N):S9 (F72 E D W N):=by
 intro U s i r ht h
 obtain⟨U1,e1,f1,a1,n1⟩:=JI ht (DI.map .str)
 refine⟨U1,?_,f1⟩
 have sp:∀J,C3 s (some (.int .i64 (AA i))) none J=J (BB r):=fun J=>by
  rw[Jn (by have:=h.len;omega),h.r.subAll]
 have g:=AC7 (E:=E) (D:=D) (W:=W) (N:=N) hN U1 r h.r.bd U.next a1 13 0 N rfl (by omega)
 unfold DI at e1
 simp only[B3,HJ]at e1
 show ZN E D W (Vt E D W N N) s (AA i) U=_
 have key:∀K,ZN E D W K s (AA i) U=K (BB r) (.sl U.next 0 13 (.ex 13)) (AA 0) U1:=by
  intro K
  unfold ZN
  simp -implicitDefEqProofs only [↓rP,rS,↓sp,↓e1]
 rw[key]
 exact g
end
theorem SG (l:List Nat):∀a:Nat,a<=En a l:=by
 induction l with
 | nil=>intro a;exact AK a
 | cons d l ih=>
  intro a
  have:=ih (10*a+(d-48))
  show a<=En (10*a+(d-48)) l
  omega
theorem H4 {c:Nat} (h:Gv c=true):48<=c/\c<=57:=by
 unfold Gv at h
 rwa [AG,decide_eq_true_eq,decide_eq_true_eq]at h
inductive Tk:List Nat->Nat->List Nat->List Nat->Prop
 | name {c:Nat} {r:List Nat} {k:Nat}:LP c=true->Qn ((c::r).take (NN (c::r)))=false->k=(if wj (BB ((c::r).take (NN (c::r))))=true then 5 else if c<=90 then 1 else 2) ->
   Tk (c::r) k ((c::r).take (NN (c::r))) ((c::r).drop (NN (c::r)))
 | num {m:Bool} {ds r:List Nat}:IB m ds r->Tk (GB m ds++r) 3 (GB m ds) r
 | sign {c:Nat} {r:List Nat}:LP c=false->Gv c=false->(c=45->Gv (r.headD 0)=false)->c≠39->c≠34->0<Hx DI (c::r) ->
   Tk (c::r) 6 ((c::r).take (Hx DI (c::r))) ((c::r).drop (Hx DI (c::r)))
theorem SN:∀(l:List BS) (r:List Nat),Hx l r<=r.length
 | [],_=>DZ _
 | t::l,r=>by
  rw[IZ]
  cases h:decide (t.len<=r.length)&&decide (r.take t.len=t.nats)with
  | true=>
   rw[AG,decide_eq_true_eq]at h
   exact h.1
  | false=>exact SN l r
theorem Tk.app {r w r':List Nat} {k:Nat} (h:Tk r k w r'):r=w++r'/\0<w.length:=by
 cases h with
 | @name c r1 _ hc=>
  refine⟨(WW _ _).symm,?_⟩
  have h1:fQ c r1=true:=by unfold fQ;rw[hc];rfl
  have:=SX (c::r1)
  rw[BY,Jt,h1]at *
  simp only[AN]at *;omega
 | num hn=>
  rename_i m ds
  have:=hn.n1
  exact⟨rfl,by unfold GB;split<;>(try simp only[AN])<;>omega⟩
 | @sign c r1 _ _ _ _ _ h0=>
  refine⟨(WW _ _).symm,?_⟩
  have:=SN DI (c::r1)
  rw[BY];omega
abbrev CK:=Nat × List Nat × Nat
inductive JZ (N len:Nat):List Nat->List CK->Prop
 | fin {r:List Nat}:T1 N r=[]->JZ N len r [(0,[],len)]
 | one {r r1 w r2:List Nat} {k:Nat} {ts:List CK}:T1 N r=r1->Tk r1 k w r2->JZ N len r2 ts->JZ N len r ((k,w,len-r1.length)::ts)
def Et (ts:List CK):List V:=ts.flatMap fun t=>[.int .i64 (AA t.1),.str (BB t.2.1),.int .i64 (AA t.2.2)]
theorem UE (a b:List CK):Et (a++b)=Et a++Et b:=oq
theorem JZ.len {N len:Nat} {r:List Nat} {ts:List CK} (h:JZ N len r ts):ts.length<=r.length+1:=by
 induction h with
 | fin _=>exact Nat.succ_le_succ (DZ _)
 | one h1 h2 _ ih=>
  rename_i r r1 w r2 k ts hh
  have h3:=Wb N r
  obtain⟨h4,h5⟩:=h2.app
  rw[h1,h4,AS]at h3
  simp only[AN];omega
def Zj (F:List V->H->AF):Prop:=∀(U:H) (s:BS) (i k:Nat) (r w r':List Nat),Ar U->Hv s i r->Tk r k w r' ->
 ∃U',F [.str s,.int .i64 (AA i)] U=some (.tup [.agg [.int .i64 (AA k),.str (BB w),.int .i64 (AA i)],.int .i64 (AA (i+w.length))],U')/\Fr AL U U'
def Zi (N:Nat) (F:List V->H->AF):Prop:=∀(U:H) (s:BS) (ts:List CK),Ar U->s.len<=8000->JZ N s.len s.nats ts ->
 ∃v U',F [.str s] U=some (.tup [v,.int .i64 (AA 0),.int .i64 (AA 0)],U')/\DM U' 3 ts.length v (Et ts)/\(∀b,AJ v b->U.next<=b)/\Fr AL U U'
section
variable {E:EB} {D:Ai} {W:AH} {N:Nat}
theorem tt (hD:Pv (D 68)) (U:H) (s:BS) (m:Bool) (f:Nat) (r:List Nat) (hr:Gv (r.headD 0)=false):∀(ds:List Nat) (n i k v:Nat),(∀d∈ds,Gv d=true)->ds.length<n->Hv s i (ds++r)->i=f+k->k+ds.length<=19->En v ds<=9223372036854775808 ->
  Vu E D W N n s (AA i) m (AA f) (AA v) U=RT E D W N s (AA (i+ds.length)) m (AA f) (AA (En v ds)) U
 | [],n,i,k,v,hd,hn,h,hi,hk,hv=>by
  obtain⟨n,rfl⟩:∃j,n=j+1:=⟨n-1,by omega⟩
  show PT E D W (RT E D W N) _ s (AA i) m (AA f) (AA v) U=RT E D W N s (AA i) m (AA f) (AA v) U
  have key:∀K R,PT E D W K R s (AA i) m (AA f) (AA v) U=K s (AA i) m (AA f) (AA v) U:=by
   intro K R
   unfold PT
   cases r with
   | nil=>
    have d1:decide (i<s.len)=false:=decide_eq_false (by have:=h.nil;omega)
    simp -implicitDefEqProofs only [↓rP,rA,AB,AE,AD,d1]
   | cons c r=>
    have d1:decide (i<s.len)=true:=decide_eq_true h.lt
    have e:=h.ix
    have g:=hD U c
    have hr:Gv c=false:=hr
    rw[hr]at g
    simp -implicitDefEqProofs only [↓rP,rA,AB,AE,AD,d1,↓e,↓g]
  exact key _ _
 | c::ds,n,i,k,v,hd,hn,h,hi,hk,hv=>by
  obtain⟨n,rfl⟩:∃j,n=j+1:=⟨n-1,by omega⟩
  have hc:=hd c (Ab ..)
  have hc':=H4 hc
  have hle:=h.le
  have e:=Hv.ix (show Hv s i (c::(ds++r))from h)
  have hlt:=Hv.lt (show Hv s i (c::(ds++r))from h)
  have htl:=Hv.tl (show Hv s i (c::(ds++r))from h)
  have d1:decide (i<s.len)=true:=decide_eq_true hlt
  have g:=hD U c
  rw[hc]at g
  have hv1:En (10*v+(c-48)) ds<=9223372036854775808:=hv
  have hv2:=SG ds (10*v+(c-48))
  simp only[AN]at hk hn
  have a1:Ba .i64 (AA i) (AA 1)=AA (i+1):=A3 (by omega)
  have a2:Dp .i64 (AA i) (AA f)=AA k:=by rw[Fs (by omega) (by omega),show i-f=k by omega]
  have a3:Dp .u8 (AA c) (AA 48)=AA (c-48):=by
   show BE .u8 (AA c-AA 48)=_
   rw[show AA c-AA 48=AA (c-48)from(Int.ofNat_sub hc'.1).symm]
   exact BZ (show c-48<=255 by omega)
  have a4:BE .u64 (AA (c-48))=AA (c-48):=BZ (show c-48<=18446744073709551615 by omega)
  have a5:Iy .u64 (AA 10) (AA v)=AA (10*v):=by
   show BE .u64 (AA (10*v))=_
   exact BZ (show 10*v<=18446744073709551615 by omega)
  have a6:Ba .u64 (AA (10*v)) (AA (c-48))=AA (10*v+(c-48)):=by
   show BE .u64 (AA (10*v+(c-48)))=_
   exact BZ (show 10*v+(c-48)<=18446744073709551615 by omega)
  have d2:decide (k<19)=true:=decide_eq_true (by omega)
  have ih:=tt hD U s m f r hr ds n (i+1) (k+1) (10*v+(c-48)) (fun d h=>hd d (BM _ h)) (by omega) htl (by omega) (by omega) hv1
  show PT E D W (RT E D W N) (ZO E D W (Vu E D W N n)) s (AA i) m (AA f) (AA v) U=RT E D W N s (AA (i+(ds.length+1))) m (AA f) (AA (En (10*v+(c-48)) ds)) U
  have key:∀K R,PT E D W K (ZO E D W R) s (AA i) m (AA f) (AA v) U=R s (AA (i+1)) m (AA f) (AA (10*v+(c-48))) U:=by
   intro K R
   unfold PT ZO
   simp -implicitDefEqProofs only [↓rP,rA,AB,AE,AD,d1,↓e,↓g,a1,a2,d2,a3,a4,a5,a6]
  rw[key,ih,show i+1+ds.length=i+(ds.length+1)by omega]
theorem w8 (hA:MV (D 64)) (hL:RN (D 65)) (hD:Pv (D 68)) (hN:100<N):XX (F69 E D W N):=by
  intro U s i m ds r h hk
  have hle:=h.le
  have tail:∀f,Hv s f (ds++r)->f<=10001->RU E D W N s (AA f) m U=some (.int .i64 (AA (f+ds.length)),U):=by
    intro f hf hfl
    show Vu E D W N N s (AA f) m (AA f) (AA 0) U=_
    have h19:=hk.n19
    have h1:=hk.n1
    rw[tt hD U s m f r hk.nd ds N f 0 0 hk.dig (by omega) hf rfl (by omega) hk.v]
    have hb:=hf.dr (k:=ds.length) (by simp)
    rw[ABc]at hb
    have ga:=hA U s (f+ds.length) r hb
    have gl:=hL U (r.headD 0)
    rw[hk.nl]at gl
    have a2:Dp .i64 (AA (f+ds.length)) (AA f)=AA ds.length:=by rw[Fs (by omega) (by omega),show f+ds.length-f=ds.length by omega]
    have e:∀J:Int->AF,Cv s (AA f) J=J (AA (ds.headD 0)):=by
      obtain⟨d,l,rfl⟩:∃d l,ds=d::l:=by
        cases ds with
        | nil=>simp at h1
        | cons d l=>exact⟨d,l,rfl⟩
      exact Hv.ix (show Hv s f (d::(l++r))from hf)
    have d1:decide (ds.length<1)=false:=decide_eq_false (by omega)
    have d2:decide (19<ds.length)=false:=decide_eq_false (by omega)
    have d6:decide (9223372036854775808<En 0 ds)=false:=decide_eq_false (by have:=hk.v;omega)
    have d3:(decide (1<ds.length)&&decide (ds.headD 0=48))=false:=by
      rcases hk.lead with h|h
      · rw[decide_eq_false (by omega)];rfl
      · rw[decide_eq_false h,ABf]
    have d4:(m&&decide (ds.headD 0=48))=false:=by
      cases hm:m with
      | false=>rfl
      | true=>rw[decide_eq_false (hk.mi hm)];rfl
    have d5:(!m&&decide (En 0 ds=9223372036854775808))=false:=by
      cases hm:m with
      | true=>rfl
      | false=>rw[decide_eq_false (by have:=hk.vp hm;omega)];rfl
    show j9 E D W s (AA (f+ds.length)) m (AA f) (AA (En 0 ds)) U=_
    unfold j9
    cases h8:decide (1<ds.length)<;>cases h9:decide (ds.headD 0=48)<;>cases hm:m<;>(rw[h8,h9]at d3;rw[h9,hm]at d4;rw[hm]at d5) <;>
      first
      | (exact absurd d3 (by decide))
      | (exact absurd d4 (by decide))
      | (simp only[FJ,E9,Co,ABe]at d5
         simp -implicitDefEqProofs only [↓rP,rA,AB,AE,AD,a2,d1,d2,h8,↓e,h9,↓ga,↓gl,d5,d6])
  cases m with
  | false=>
    have h':Hv s i (ds++r):=h
    obtain⟨d,l,rfl⟩:∃d l,ds=d::l:=by
      have:=hk.n1
      cases ds with
      | nil=>simp at this
      | cons d l=>exact⟨d,l,rfl⟩
    have e:=Hv.ix (show Hv s i (d::(l++r))from h')
    have hd:=H4 (hk.dig d (Ab ..))
    have d0:decide (d=45)=false:=decide_eq_false (by omega)
    show PU E D W (RU E D W N) s (AA i) U=_
    have key:∀K,PU E D W K s (AA i) U=K s (AA i) false U:=by
      intro K
      unfold PU
      simp -implicitDefEqProofs only [↓rP,rA,AB,AE,AD,↓e,d0]
    rw[key]
    exact tail i h' (by omega)
  | true=>
    have h':Hv s i (45::(ds++r)):=h
    have e:=h'.ix
    have a1:Ba .i64 (AA i) (AA 1)=AA (i+1):=A3 (by omega)
    show PU E D W (RU E D W N) s (AA i) U=_
    have key:∀K,PU E D W K s (AA i) U=K s (AA (i+1)) true U:=by
      intro K
      unfold PU
      simp -implicitDefEqProofs only [↓rP,rA,AB,AE,AD,↓e,a1]
    rw[key,tail (i+1) h'.tl (by omega)]
    show some (V.int .i64 (AA (i+1+ds.length)),U)=some (V.int .i64 (AA (i+(ds.length+1))),U)
    rw[show i+1+ds.length=i+(ds.length+1)by omega]
end
section
variable {E:EB} {D:Ai} {W:AH} {N:Nat}
theorem qO (m:Bool) {ds r:List Nat} (h:IB m ds r):∃c l,GB m ds++r=c::l/\((m=false/\Gv c=true)\/(m=true/\c=45/\Gv (l.headD 0)=true)):=by
 obtain⟨d,ds',rfl⟩:∃d l,ds=d::l:=by
  have:=h.n1
  cases ds with
  | nil=>simp at this
  | cons d l=>exact⟨d,l,rfl⟩
 have hd:=h.dig d (Ab ..)
 cases m with
 | false=>exact⟨d,ds'++r,rfl,.inl ⟨rfl,hd⟩⟩
 | true=>exact⟨45,d::(ds'++r),rfl,.inr ⟨rfl,rfl,hd⟩⟩
theorem rT {c:Nat} (h:Gv c=true):LP c=false:=by
 obtain⟨h1,h2⟩:=H4 h
 unfold LP
 rw[decide_eq_false (show ¬97<=c by omega),decide_eq_false (show ¬65<=c by omega)];rfl
theorem ADm (hA:MV (D 64)) (hL:RN (D 65)) (hD:Pv (D 68)) (hNm:TA (D 66)) (hW:S8 (D 67)) (hNu:XX (D 69)) (hS:S9 (D 72)):Zj (F38 E D W N):=by
 intro U s i k r w r' ht h hk
 have hle:=h.le
 have hlen:=h.len
 have hfew:=h.few
 have bd:=h.r.bd
 cases hk with
 | @name c r1 k hc hb hkk=>
  have e:=h.ix
  have g1:=hL U c
  rw[hc]at g1
  have g2:=hNm U s i c r1 h hc
  rw[hb,if_neg (by decide)]at g2
  have hm:=SX (c::r1)
  obtain⟨m,hm'⟩:∃m,NN (c::r1)=m:=⟨_,rfl⟩
  rw[hm']at g2 hm hkk ⊢
  have sp:∀J,C3 s (some (.int .i64 (AA i))) (some (.int .i64 (AA (i+m)))) J=J (BB ((c::r1).take m)):=fun J=>by
   rw[He (by omega) (by omega),h.r.sub hm]
  obtain⟨U3,g3,f3⟩:=hW U (BB ((c::r1).take m)) ht
  have lt:((c::r1).take m).length=m:=by rw[BY];omega
  refine⟨U3,?_,f3⟩
  rw[lt]
  show MS E D W (nE E D W N) (V5 E D W N) s (AA i) U=_
  have d0:Ci (AA (i+m)) (AA 0)=false:=by rw[C5];exact decide_eq_false (by omega)
  have k2:∀kk:Nat,V5 E D W N (AA (i+m)) (AA 0) (BS.mk 0 0) (AA 0) (AA kk) (BB ((c::r1).take m)) (AA i) U=some (.tup [.agg [.int .i64 (AA (if wj (BB ((c::r1).take m))=true then 5 else kk)),.str (BB ((c::r1).take m)),.int .i64 (AA i)],.int .i64 (AA (i+m))],U3):=by
   intro kk
   show ka E D W (NZ E D W) _ _ _ _ _ _ _ U=_
   unfold ka NZ
   cases hw:wj (BB ((c::r1).take m))<;>(rw[hw]at g3;simp -implicitDefEqProofs only [↓rP,rS,↓g3])<;>rfl
  have key:∀K1 K2,MS E D W K1 K2 s (AA i) U=K2 (AA (i+m)) (AA 0) (BS.mk 0 0) (AA 0) (AA (if c<=90 then 1 else 2)) (BB ((c::r1).take m)) (AA i) U:=by
   intro K1 K2
   unfold MS
   by_cases h9:c<=90
   ·rw[if_pos h9]
    simp -implicitDefEqProofs only [↓rP,rA,AB,AE,AD,↓e,↓g1,↓g2,d0,Cw,↓sp,decide_eq_true h9]
   ·rw[if_neg h9]
    simp -implicitDefEqProofs only [↓rP,rA,AB,AE,AD,↓e,↓g1,↓g2,d0,Cw,↓sp,decide_eq_false h9]
  rw[key,k2,hkk]
 | @num m ds _ hn=>
  obtain⟨c,l,hcl,hc⟩:=qO m hn
  have g2:=hNu U s i m ds r' h hn
  have hsub:∀J,C3 s (some (.int .i64 (AA i))) (some (.int .i64 (AA (i+(GB m ds).length)))) J=J (BB (GB m ds)):=fun J=>by
   rw[He (by omega) (by rw[AS]at hlen;omega),h.r.sub (k:=(GB m ds).length) (by rw[AS];omega),List.take_left]
  have h':Hv s i (c::l):=hcl ▸ h
  have e:=h'.ix
  have g1:=hL U c
  have gd:=hD U c
  have a1:Ba .i64 (AA i) (AA 1)=AA (i+1):=A3 (by omega)
  have ga:=hA U s (i+1) l h'.tl
  have gd2:=hD U (l.headD 0)
  refine⟨U,?_,Fr.refl ht⟩
  show MS E D W (NZ E D W) (V5 E D W N) s (AA i) U=_
  rcases hc with ⟨_,hc⟩|⟨_,rfl,hc⟩
  ·rw[rT hc]at g1
   rw[hc]at gd
   unfold MS NZ
   simp -implicitDefEqProofs only [↓rP,rA,AB,AE,AD,↓e,↓g1,↓gd,↓g2,Cw,↓hsub]
  ·rw[show LP 45=false from rfl]at g1
   rw[show Gv 45=false from rfl]at gd
   rw[hc]at gd2
   unfold MS NZ
   simp -implicitDefEqProofs only [↓rP,rA,AB,AE,AD,↓e,↓g1,↓gd,a1,↓ga,↓gd2,↓g2,Cw,↓hsub]
 | @sign c r1 hc hd hm h39 h34 h0=>
  have e:=h.ix
  have g1:=hL U c
  rw[hc]at g1
  have gd:=hD U c
  rw[hd]at gd
  have a1:Ba .i64 (AA i) (AA 1)=AA (i+1):=A3 (by omega)
  have ga:=hA U s (i+1) r1 h.tl
  have gd2:=hD U (r1.headD 0)
  obtain⟨U2,g2,f2⟩:=hS U s i (c::r1) ht h
  have hsl:=SN DI (c::r1)
  obtain⟨m,hm'⟩:∃m,Hx DI (c::r1)=m:=⟨_,rfl⟩
  rw[hm']at g2 h0 hsl ⊢
  have lt:((c::r1).take m).length=m:=by rw[BY];omega
  have lm:m<=10000:=by omega
  have a2:Ba .i64 (AA i) (AA m)=AA (i+m):=A3 (by omega)
  have sp:∀J,C3 s (some (.int .i64 (AA i))) (some (.int .i64 (AA (i+m)))) J=J (BB ((c::r1).take m)):=fun J=>by
   rw[He (by omega) (by omega),h.r.sub hsl]
  refine⟨U2,?_,f2⟩
  rw[lt]
  show MS E D W (NZ E D W) (V5 E D W N) s (AA i) U=_
  unfold MS NZ
  by_cases h45:c=45
  ·rw[hm h45]at gd2
   simp -implicitDefEqProofs only [↓rP,rA,AB,AE,AD,↓e,↓g1,↓gd,decide_eq_true h45,a1,↓ga,↓gd2,decide_eq_false h39,decide_eq_false h34,↓g2,decide_eq_true h0,a2,↓sp]
  ·simp -implicitDefEqProofs only [↓rP,rA,AB,AE,AD,↓e,↓g1,↓gd,decide_eq_false h45,decide_eq_false h39,decide_eq_false h34,↓g2,decide_eq_true h0,a2,↓sp]
theorem ACx (hW:Zg N (D 37)) (hO:Zj (D 38)) (s:BS) (hs:s.len<=8000) (U0:H):∀(r:List Nat) (ts:List CK),JZ N s.len r ts->∀(n i:Nat) (acc:List CK) (v:V) (U:H),ts.length<n->acc.length+ts.length<=9000->Hv s i r->Fr AL U0 U->DM U 3 acc.length v (Et acc)->(∀b,AJ v b->U0.next<=b) ->
  ∃u U',V1 E D W N n s v (AA i) U=some (.tup [u,.int .i64 (AA 0),.int .i64 (AA 0)],U')/\DM U' 3 (acc++ts).length u (Et (acc++ts))/\(∀b,AJ u b->U0.next<=b)/\Fr AL U0 U':=by
 intro r ts hts
 have grow:∀k,k<=9001->Bw k 32=true:=fun k hk=>by unfold Bw;simp only[AG,Ac];omega
 have push:∀(t:CK) (acc:List CK) (v:V) (U:H),acc.length+1<=9001->Fr AL U0 U->DM U 3 acc.length v (Et acc)->(∀b,AJ v b->U0.next<=b) ->
   ∃u U1 U2,Br U (.cells [.int .i64 (AA t.1),.str (BB t.2.1),.int .i64 (AA t.2.2)])=U1/\(∀J:V->H->AF,DV E 3 32 v (.sl U.next 0 1 (.ex 1)) U1 J=J u U2)/\DM U2 3 (acc++[t]).length u (Et (acc++[t]))/\(∀b,AJ u b->U0.next<=b)/\Fr AL U0 U2:=by
  intro t acc v U ha f hv hn
  obtain⟨U1,e1,f1,a1,n1⟩:=JI f.tidy [.int .i64 (AA t.1),.str (BB t.2.1),.int .i64 (AA t.2.2)]
  have xs:DL U1 3 1 (V.sl U.next 0 1 (.ex 1)) [.int .i64 (AA t.1),.str (BB t.2.1),.int .i64 (AA t.2.2)] := .inr ⟨_,_,_,_,rfl,a1,AK _,rfl⟩
  obtain⟨u,U2,g,d,nm,f2⟩:=Du (E:=E) (bytes:=32) (hv.fr f1 f.tidy (fun _ _ h=>h)) f1.tidy xs rfl (grow _ ha)
  have l1:=f1.le
  have l0:=f.le
  refine⟨u,U1,U2,e1,g,?_,fun b hb=>(nm b hb).elim (hn b) (fun h=>by omega),(f.trans f1 (fun _ _ h=>h)).trans f2 fun b hb h=>by have:=hn b h;omega⟩
  rw[UE,AS];exact d
 induction hts with
 | @fin r hw=>
  intro n i acc v U hn ha h f hv hnm
  obtain⟨n,rfl⟩:∃j,n=j+1:=⟨n-1,by omega⟩
  obtain⟨k,h1,h2,h3⟩:=hW U s i r h
  have hik:i+k=s.len:=by
   rw[hw]at h2
   have:=congrArg HK h2
   rw[CA,BQ]at this
   have:=h.len
   omega
  rw[hik]at h3
  simp only[AN,BQ]at ha
  obtain⟨u,U1,U2,e1,g,d,nm,f2⟩:=push (0,[],s.len) acc v U (by omega) f hv hnm
  refine⟨u,U2,?_,d,nm,f2⟩
  have e1':Br U (.cells [.int .i64 (AA 0),.str (BS.mk 0 0),.int .i64 (AA s.len)])=U1:=e1
  have d1:decide (s.len<=s.len)=true:=decide_eq_true (AK _)
  show Pc E D W _ s v (AA i) U=_
  have key:∀R,Pc E D W R s v (AA i) U=some (.tup [u,.int .i64 (AA 0),.int .i64 (AA 0)],U2):=by
   intro R
   unfold Pc
   simp -implicitDefEqProofs only [↓rP,rA,AB,AE,AD,↓h3,d1,↓e1',↓g,↓Bl d.one]
  exact key _
 | @one r r1 w r2 kd ts hw htk hrest ih=>
  intro n i acc v U hn ha h f hv hnm
  obtain⟨n,rfl⟩:∃j,n=j+1:=⟨n-1,by omega⟩
  obtain⟨k,h1,h2,h3⟩:=hW U s i r h
  have hb:=h.dr h1
  rw[<-h2,hw]at hb
  obtain⟨happ,hw0⟩:=htk.app
  have hlen:=hb.len
  have hr1:0<r1.length:=by rw[happ,AS];omega
  have eat:s.len-r1.length=i+k:=by omega
  obtain⟨U1,g1,f1⟩:=hO U s (i+k) kd r1 w r2 f.tidy hb htk
  have f01:=f.trans f1 (fun _ _ h=>h)
  simp only[AN]at ha hn
  obtain⟨u,U2,U3,e2,g,d,nm,f3⟩:=push (kd,w,s.len-r1.length) acc v U1 (by omega) f01 (hv.fr f1 f.tidy (fun _ _ h=>h)) hnm
  have hnx:=hb.dr (k:=w.length) (by rw[happ,AS];omega)
  rw[happ,ABc]at hnx
  obtain⟨u',U',g',d',nm',f'⟩:=ih n (i+k+w.length) (acc++[(kd,w,s.len-r1.length)]) u U3 (by omega) (by rw[AS,AN,BQ];omega) hnx f3 d nm
  rw[DN]at d'
  refine⟨u',U',?_,d',nm',f'⟩
  rw[eat]at e2
  have e2':Br U1 (.cells [.int .i64 (AA kd),.str (BB w),.int .i64 (AA (i+k))])=U2:=e2
  have d1:decide (s.len<=i+k)=false:=decide_eq_false (by omega)
  show Pc E D W (V1 E D W N n) s v (AA i) U=_
  have key:∀R,Pc E D W R s v (AA i) U=R s u (AA (i+k+w.length)) U3:=by
   intro R
   unfold Pc
   simp -implicitDefEqProofs only [↓rP,rA,AB,AE,AD,↓h3,d1,↓g1,Cw,↓e2',↓g,↓Bl d.one]
  rw[key,g']
theorem dA (hW:Zg N (D 37)) (hO:Zj (D 38)) (hN:10000<N):Zi N (F19 E D W N):=by
 intro U s ts ht hs hts
 have hl:=hts.len
 rw[BS.length_nats]at hl
 obtain⟨u,U',g,d,nm,f⟩:=ACx (E:=E) (W:=W) hW hO s hs U s.nats ts hts N 0 [] .nils U (by omega) (by simp only[BQ];omega) ⟨P3.start s,by omega⟩ (Fr.refl ht) (DM.nil U 3) (fun _ h=>h.elim)
 refine⟨u,U',?_,d,nm,f⟩
 have d1:decide (8000<s.len)=false:=decide_eq_false (by omega)
 show Za E D W (V1 E D W N N) s U=_
 have key:∀K,Za E D W K s U=K s .nils (AA 0) U:=by
  intro K
  unfold Za
  simp -implicitDefEqProofs only [↓rP,rA,AB,AE,AD,d1]
 rw[key];exact g
end
def Hw (t:CK):List V:=[.int .i64 (AA t.1),.str (BB t.2.1),.int .i64 (AA t.2.2)]
theorem gC:∀(ts:List CK) (i:Nat) (t:CK),ts[i]? = some t->((Et ts).drop (i*3)).take 3=Hw t
 | [],i,t,h=>by simp at h
 | u::ts,0,t,h=>by simp at h;subst h;rfl
 | u::ts,i+1,t,h=>by
  have:ts[i]? = some t:=by simpa using h
  show ((Hw u++Et ts).drop ((i+1)*3)).take 3=_
  rw[show (i+1)*3=3+i*3 by omega,<-CJ,show (Hw u++Et ts).drop 3=Et ts from rfl]
  exact gC ts i t this
structure Rs where
 nm:BS
 tg:Int
 nv:V
 tv:V
 dv:V
def pc (lv:V) (a:Nat) (R:Rs):List V:=[lv,.int .i64 (AA a),.str R.nm,.int .i64 R.tg,R.nv,R.tv,R.dv,.int .i64 (AA 0),.int .i64 (AA 0)]
structure AEf (ts:List CK):Prop where
 few:ts.length<=9000
 fin:∃p e,ts=p++[e]/\e.1=0
 nums:∀t∈ts,t.1=3->∃m ds r,t.2.1=GB m ds/\IB m ds r
structure Pz (U:H) (xb:Nat) (lv:V) (ts l:List CK) (R:Rs):Prop where
 ex:∃a,CQ U xb (pc lv a R)/\ts.drop a=l
 src:DL U 3 ts.length lv (Et ts)
 ne:l≠[]
 nx:∀b,AJ lv b->b≠xb
 ok:AEf ts
 ht:Ar U
section
variable {E:EB} {U U':H} {xb:Nat} {lv:V} {ts l:List CK} {R:Rs} {t t2:CK}
theorem Pz.fr {S:Nat->Prop} (h:Pz U xb lv ts l R) (f:Fr S U U') (h1:¬S xb) (h2:∀b,AJ lv b->¬S b):Pz U' xb lv ts l R:=by
 obtain⟨a,ha,hl⟩:=h.ex
 exact⟨⟨a,f.at_ ha h.ht h1,hl⟩,h.src.fr f h.ht h2,h.ne,h.nx,h.ok,f.tidy⟩
theorem tS {a:Nat} (h:DL U 3 ts.length lv (Et ts)) (hl:ts.drop a=t::l) (J:List V->AF):AW 3 lv (AA a) (fun b o=>Bv E U b o 3 J)=J (Hw t):=by
 have hlt:a<ts.length:=by
  have:=congrArg HK hl
  simp only[CA,AN]at this;omega
 have hg:ts[a]? = some t:=by
  have:=congrArg (fun x:List CK=>x[0]?) hl
  simpa using this
 rcases h with ⟨h0,_,_⟩|⟨b,o,c,L,rfl,ha,hle,hm⟩
 ·omega
 ·rw[Cb hlt]
  show Bv E U b (o+a*3) 3 J=_
  rw[BX ha,D6 (by omega)]
  have:=gC ts a t hg
  rw[hm,Ln,ABZ,Em (by omega),CJ]at this
  rw[this]
theorem Pz.lt (h:Pz U xb lv ts l R):xb<U.next:=by
 obtain⟨a,ha,_⟩:=h.ex
 exact ha.lt h.ht
theorem Pz.adv (h:Pz U xb lv ts (t::t2::l) R) {a:Nat} (ha:CQ U xb (pc lv a R)) (hl:ts.drop a=t::t2::l) :
  ∃U',(∀J:H->AF,DX 1 xb 1 (.int .i64 (AA (a+1))) U J=J U')/\Pz U' xb lv ts (t2::l) R/\Fr (fun k=>k=xb) U U':=by
 obtain⟨U',e,f,a'⟩:=Yk h.ht ha (pc lv (a+1) R)
 refine⟨U',fun J=>?_,⟨⟨a+1,a',?_⟩,h.src.fr f h.ht fun b hb e=>h.nx b hb e,by simp,h.nx,h.ok,f.tidy⟩,f⟩
 ·rw[ER ha rfl]
  show J (GP U xb (.cells (pc lv (a+1) R)))=_
  rw[e]
 ·rw[<-CJ,hl];rfl
end
def EJ (s:BS):List CK->Bool × List CK
 | t::t2::l=>match (decide (t.1=5) || decide (t.1=6))&&(BB t.2.1).beq s with
  | true=>(true,t2::l)
  | false=>(false,t::t2::l)
 | l=>(false,l)
theorem ic (s:BS) (t t2:CK) (l:List CK):EJ s (t::t2::l)=match (decide (t.1=5) || decide (t.1=6))&&(BB t.2.1).beq s with
 | true=>(true,t2::l)
 | false=>(false,t::t2::l):=rfl
def D8 (s:BS) (l:List CK):Option (List CK):=match EJ s l with
 | (true,l')=>some l'
 | (false,_)=>none
def JK (k:Nat):List CK->Option (List Nat × List CK)
 | t::t2::l=>match decide (t.1=k)with
  | true=>some (t.2.1,t2::l)
  | false=>none
 | _=>none
def L5 (w:List Nat):Int:=match w with
 | []=>0
 | c::ds=>match decide (c=45)with
  | true=>-AA (En 0 ds)
  | false=>AA (En 0 (c::ds))
def qP (l:List CK):Option (Int × List CK):=(JK 3 l).map fun p=>(L5 p.1,p.2)
def Ks (F:List V->H->AF):Prop:=∀{U:H} {xb:Nat} {lv:V} {ts:List CK} {l:List CK} {R:Rs} {t:CK},Pz U xb lv ts (t::l) R->F [.ptr xb 0] U=some (.agg (Hw t),U)
def TE (F:List V->H->AF):Prop:=∀{U:H} {xb:Nat} {lv:V} {ts:List CK} {l:List CK} {R:Rs} {t t2:CK},Pz U xb lv ts (t::t2::l) R->∃U',F [.ptr xb 0] U=some (.agg (Hw t),U')/\Pz U' xb lv ts (t2::l) R/\Fr (fun k=>k=xb) U U'
def N4 (F:List V->H->AF):Prop:=∀{U:H} {xb:Nat} {lv:V} {ts:List CK} {l:List CK} {R:Rs} (s:BS),Pz U xb lv ts l R->∃U',F [.ptr xb 0,.str s] U=some (.bool (EJ s l).1,U')/\Pz U' xb lv ts (EJ s l).2 R/\Fr (fun k=>k=xb) U U'
def JF (F:List V->H->AF):Prop:=∀{U:H} {xb:Nat} {lv:V} {ts:List CK} {l l':List CK} {R:Rs} {s:BS},Pz U xb lv ts l R->D8 s l=some l'->∃U',F [.ptr xb 0,.str s] U=some (.tup [],U')/\Pz U' xb lv ts l' R/\Fr (fun k=>k=xb) U U'
def Li (F:List V->H->AF):Prop:=∀{U:H} {xb:Nat} {lv:V} {ts:List CK} {l l':List CK} {R:Rs} {k:Nat} {w:List Nat},Pz U xb lv ts l R->JK k l=some (w,l')->∃U',F [.ptr xb 0,.int .i64 (AA k)] U=some (.str (BB w),U')/\Pz U' xb lv ts l' R/\Fr (fun k=>k=xb) U U'
def S4 (F:List V->H->AF):Prop:=∀(U:H) (m:Bool) (ds r:List Nat),IB m ds r->F [.str (BB (GB m ds))] U=some (.int .i64 (L5 (GB m ds)),U)
def XZ (F:List V->H->AF):Prop:=∀{U:H} {xb:Nat} {lv:V} {ts:List CK} {l l':List CK} {R:Rs} {v:Int},Pz U xb lv ts l R->qP l=some (v,l')->∃U',F [.ptr xb 0] U=some (.int .i64 v,U')/\Pz U' xb lv ts l' R/\Fr (fun k=>k=xb) U U'
section
variable {E:EB} {D:Ai} {W:AH} {N:Nat}
theorem ADp:Ks (F23 E D W N):=by
 intro U xb lv ts l R t h
 obtain⟨a,ha,hl⟩:=h.ex
 have rd:=fun J=>tS (E:=E) h.src hl J
 unfold Hw at rd ⊢
 unfold pc at ha
 show kv E D W xb 0 U=_
 unfold kv
 simp -implicitDefEqProofs only [↓rP,rA,AB,AE,AD,↓AZ ha,↓rd]
theorem xO:TE (F39 E D W N):=by
 intro U xb lv ts l R t t2 h
 obtain⟨a,ha,hl⟩:=h.ex
 obtain⟨U',g,p,f⟩:=h.adv ha hl
 refine⟨U',?_,p,f⟩
 have rd:=fun J=>tS (E:=E) h.src hl J
 have hlen:a+2<=ts.length:=by
  have:=congrArg HK hl
  simp only[CA,AN]at this;omega
 have hf:=h.ok.few
 have d1:decide (a+1<ts.length)=true:=decide_eq_true (by omega)
 have a1:Ba .i64 (AA a) (AA 1)=AA (a+1):=A3 (by omega)
 have sl:∀J:Nat->AF,A0 lv J=J ts.length:=fun J=>h.src.slen
 unfold Hw at rd ⊢
 unfold pc at ha
 show kZ E D W (kY E D W) xb 0 U=_
 unfold kZ kY
 simp -implicitDefEqProofs only [↓rP,rA,AB,AE,AD,↓AZ ha,↓rd,a1,↓sl,d1,↓g]
theorem AKU (hN:Ks (D 23)) (hX:TE (D 39)):N4 (F22 E D W N):=by
  intro U xb lv ts l R s h
  obtain⟨a,ha,hl⟩:=h.ex
  obtain⟨t,l1,rfl⟩:∃t l1,l=t::l1:=by
    cases l with
    | nil=>exact absurd rfl h.ne
    | cons t l1=>exact⟨t,l1,rfl⟩
  have gn:=hN h
  unfold Hw at gn
  unfold pc at ha
  show ∃U',ZZ E D W xb 0 s U=_/\_
  cases l1 with
  | nil=>
    have h0:t.1=0:=by
      obtain⟨p,e,rfl,he⟩:=h.ok.fin
      have hlen:=congrArg HK hl
      simp only[CA,AS,AN,BQ]at hlen
      have:a=p.length:=by omega
      rw[this,ABc]at hl
      cases hl;exact he
    refine⟨U,?_,h,Fr.refl h.ht⟩
    unfold ZZ
    simp -implicitDefEqProofs only [↓rP,rA,AB,AE,AD,↓gn,↓AZ ha,h0,AB]
    rfl
  | cons t2 l2=>
    obtain⟨U',g,p,f⟩:=hX h
    unfold Hw at g
    rw[ic]
    unfold ZZ
    cases h5:decide (t.1=5)<;>cases h6:decide (t.1=6)<;>cases hb:(BB t.2.1).beq s
    all_goals first
      | (refine⟨U,?_,h,Fr.refl h.ht⟩
         simp -implicitDefEqProofs only [↓rP,rA,AB,AE,AD,↓gn,↓AZ ha,h5,h6,hb];done)
      | (refine⟨U',?_,p,f⟩
         simp -implicitDefEqProofs only [↓rP,rA,AB,AE,AD,↓gn,↓AZ ha,h5,h6,hb,↓g];done)
theorem xP (hI:N4 (D 22)):JF (F21 E D W N):=by
 intro U xb lv ts l l' R s h hm
 obtain⟨a,ha,hl⟩:=h.ex
 obtain⟨U',g,p,f⟩:=hI s h
 unfold D8 at hm
 cases hi:EJ s l with
 | mk c l1=>
  rw[hi]at hm g p
  cases c with
  | false=>cases hm
  | true=>
   cases hm
   refine⟨U',?_,p,f⟩
   unfold pc at ha
   show ky E D W xb 0 s U=_
   unfold ky
   simp -implicitDefEqProofs only [↓rP,rA,AB,AE,AD,↓AZ ha,↓g]
theorem xe (hN:Ks (D 23)) (hX:TE (D 39)):Li (F20 E D W N):=by
 intro U xb lv ts l l' R k w h hk
 obtain⟨a,ha,hl⟩:=h.ex
 cases l with
 | nil=>exact absurd rfl h.ne
 | cons t l1=>
  cases l1 with
  | nil=>cases hk
  | cons t2 l2=>
   have gn:=hN h
   obtain⟨U',g,p,f⟩:=hX h
   unfold Hw at gn g
   have hk:(match decide (t.1=k)with | true=>some (t.2.1,t2::l2) | false=>none:Option (List Nat × List CK))=some (w,l'):=hk
   cases hd:decide (t.1=k)with
   | false=>rw[hd]at hk;cases hk
   | true=>
    rw[hd]at hk
    cases hk
    refine⟨U',?_,p,f⟩
    unfold pc at ha
    show kz E D W xb 0 (AA k) U=_
    unfold kz
    simp -implicitDefEqProofs only [↓rP,rA,AB,AE,AD,↓gn,↓AZ ha,hd,↓g]
theorem Yg {m:Bool} {ds r:List Nat} (h:IB m ds r):∀c∈GB m ds,c<256:=by
 intro c hc
 unfold GB at hc
 have hd:∀c∈ds,c<256:=fun c hc=>by have:=H4 (h.dig c hc);omega
 split at hc
 ·rcases Ax.1 hc with rfl|hc
  ·decide
  ·exact hd c hc
 ·exact hd c hc
theorem ACu (U:H) (m:Bool) (s:BS) (hs:s.len<=100):∀(ds:List Nat) (n i v:Nat),(∀d∈ds,Gv d=true)->ds.length<n->Hv s i ds->En v ds<=9223372036854775808 ->
  Zw E D W N n s m (AA v) (AA i) U=RR E D W N m (AA (En v ds)) U
 | [],n,i,v,hd,hn,h,hv=>by
  obtain⟨n,rfl⟩:∃j,n=j+1:=⟨n-1,by omega⟩
  have d1:decide (i<s.len)=false:=decide_eq_false (by have:=h.nil;omega)
  show PQ E D W (RR E D W N) _ s m (AA v) (AA i) U=_
  have key:∀K R,PQ E D W K R s m (AA v) (AA i) U=K m (AA v) U:=by
   intro K R
   unfold PQ
   simp -implicitDefEqProofs only [↓rP,rA,AB,AE,AD,d1]
  exact key _ _
 | c::ds,n,i,v,hd,hn,h,hv=>by
  obtain⟨n,rfl⟩:∃j,n=j+1:=⟨n-1,by omega⟩
  have hc':=H4 (hd c (Ab ..))
  have hle:=h.le
  have e:=h.ix
  have d1:decide (i<s.len)=true:=decide_eq_true h.lt
  have hv1:En (10*v+(c-48)) ds<=9223372036854775808:=hv
  have hv2:=SG ds (10*v+(c-48))
  have a1:Ba .i64 (AA i) (AA 1)=AA (i+1):=A3 (by omega)
  have a3:Dp .u8 (AA c) (AA 48)=AA (c-48):=by
   show BE .u8 (AA c-AA 48)=_
   rw[show AA c-AA 48=AA (c-48)from(Int.ofNat_sub hc'.1).symm]
   exact BZ (show c-48<=255 by omega)
  have a4:BE .u64 (AA (c-48))=AA (c-48):=BZ (show c-48<=18446744073709551615 by omega)
  have a5:Iy .u64 (AA 10) (AA v)=AA (10*v):=by
   show BE .u64 (AA (10*v))=_
   exact BZ (show 10*v<=18446744073709551615 by omega)
  have a6:Ba .u64 (AA (10*v)) (AA (c-48))=AA (10*v+(c-48)):=by
   show BE .u64 (AA (10*v+(c-48)))=_
   exact BZ (show 10*v+(c-48)<=18446744073709551615 by omega)
  have ih:=ACu U m s hs ds n (i+1) (10*v+(c-48)) (fun d h=>hd d (BM _ h)) (by simp at hn;omega) h.tl hv1
  show PQ E D W (RR E D W N) (Zw E D W N n) s m (AA v) (AA i) U=RR E D W N m (AA (En (10*v+(c-48)) ds)) U
  have key:∀K R,PQ E D W K R s m (AA v) (AA i) U=R s m (AA (10*v+(c-48))) (AA (i+1)) U:=by
   intro K R
   unfold PQ
   simp -implicitDefEqProofs only [↓rP,rA,AB,AE,AD,d1,↓e,a1,a3,a4,a5,a6]
  rw[key,ih]
theorem fh {z:Int} (h1 : -9223372036854775808<=z) (h2:z<=9223372036854775807):BE .i64 z=z:=by
 unfold BE
 have:xh .i64 z=true:=by
  cases z with
  | ofNat m=>
   show Ag m 9223372036854775807=true
   rw[Ac];have h2:(m:Int)<=9223372036854775807:=h2;omega
  | negSucc m=>
   show B2 m 9223372036854775808=true
   rw[Bu];have h1 : -9223372036854775808<=Az m:=h1;omega
 rw[this]
theorem qT {v:Nat} (h1:1<=v) (h:v<=9223372036854775808):Dp .i64 (iH .i64 (BE .i64 (Dp .u64 (AA v) (AA 1)))) (AA 1) = -AA v:=by
 have e1:Dp .u64 (AA v) (AA 1)=AA (v-1):=by
  show BE .u64 (AA v-AA 1)=_
  rw[show AA v-AA 1=AA (v-1)from(Int.ofNat_sub h1).symm]
  exact BZ (show v-1<=18446744073709551615 by omega)
 have e2:BE .i64 (AA (v-1))=AA (v-1):=BZ (show v-1<=9223372036854775807 by omega)
 rw[e1,e2]
 have e3:iH .i64 (AA (v-1)) = -AA (v-1):=by
  show BE .i64 (Int.sub 0 (AA (v-1)))=_
  rw[show Int.sub 0 (AA (v-1)) = -AA (v-1)from Int.zero_sub _]
  exact fh (z:=-((v-1:Nat):Int)) (by omega) (by omega)
 rw[e3]
 show BE .i64 (-AA (v-1)-AA 1)=_
 have e4 : -AA (v-1)-AA 1 = -(v:Int):=by
  show -((v-1:Nat):Int)-1=_
  omega
 rw[e4]
 exact fh (by omega) (by omega)
end
structure X7 where
 has:Bool
 hasLow:Bool
 hasHigh:Bool
 more:Bool
 low:Int
 high:Int
def AKX:X7:=⟨false,false,false,false,0,0⟩
def NK:List BS:=[BS.mk 1 91,BS.mk 7 22026814072246082,BS.mk 4 1280070990,BS.mk 10 488440487847103610377301,BS.mk 7 23157120498421321,BS.mk 5 361940403023,BS.mk 10 322399817400452109389381,BS.mk 3 5522771,BS.mk 6 76155295057987,BS.mk 8 4990918871747741011]
def eR (t:CK):Bool:=(NK.any fun x=>x.beq (BB t.2.1)&&(decide (t.1=5) || decide (t.1=6))) || decide (t.1=1)
def lO (F:List V->H->AF):Prop:=∀(U:H) (t:CK),Ar U->∃U',F [.agg (Hw t)] U=some (.bool (eR t),U')/\Fr AL U U'
section
variable {E:EB} {D:Ai} {W:AH} {N:Nat}
theorem pM (hN:200<N):S4 (F73 E D W N):=by
 intro U m ds r h
 have hlt:=Yg h
 have hd:∀c∈ds,c<256:=fun c hc=>by have:=H4 (h.dig c hc);omega
 have h1:=h.n1
 have h19:=h.n19
 have at0:∀w:List Nat,(∀c∈w,c<256)->w.length<=100->Hv (BB w) 0 w:=fun w hw hl=>⟨by have:=P3.start (BB w);rwa [Gl hw]at this,by rw[FT];omega⟩
 have run:RS E D W N (BB ds) m U=RR E D W N m (AA (En 0 ds)) U:=ACu U m (BB ds) (by rw[FT];omega) ds N 0 0 h.dig (by omega) (at0 ds hd (by omega)) h.v
 cases m with
 | false=>
  obtain⟨c,l,rfl⟩:∃c l,ds=c::l:=by
   cases ds with
   | nil=>simp at h1
   | cons c l=>exact⟨c,l,rfl⟩
  have hc:=H4 (h.dig c (Ab ..))
  have d0:decide (c=45)=false:=decide_eq_false (by omega)
  have e:=(at0 (c::l) hd (by omega)).ix
  have hv:L5 (GB false (c::l))=AA (En 0 (c::l)):=by
   show (match decide (c=45)with | true=>_ | false=>_:Int)=_
   rw[d0]
  rw[hv]
  show PR E D W (RS E D W N) (BB (c::l)) U=_
  have key:∀K,PR E D W K (BB (c::l)) U=K (BB (c::l)) false U:=by
   intro K
   unfold PR
   simp -implicitDefEqProofs only [↓rP,rA,AB,AE,AD,↓e,d0]
  rw[key,run]
  show VY E D W false (AA (En 0 (c::l))) U=_
  have ew:BE .i64 (AA (En 0 (c::l)))=AA (En 0 (c::l)):=BZ (show En 0 (c::l)<=9223372036854775807 by have:=h.vp rfl;omega)
  unfold VY
  simp -implicitDefEqProofs only [↓rP,rS,ew]
 | true=>
  have hw:∀c∈45::ds,c<256:=hlt
  have e:=(at0 (45::ds) hw (by simp only[AN];omega)).ix
  have sp:∀J,C3 (BB (45::ds)) (some (.int .i64 (AA 1))) none J=J (BB ds):=fun J=>by
   rw[Jn (by rw[FT,AN];omega),((at0 (45::ds) hw (by simp only[AN];omega)).tl).r.subAll]
  show PR E D W (RS E D W N) (BB (45::ds)) U=some (.int .i64 (-AA (En 0 ds)),U)
  have key:∀K,PR E D W K (BB (45::ds)) U=K (BB ds) true U:=by
   intro K
   unfold PR
   simp -implicitDefEqProofs only [↓rP,rA,AB,AE,AD,↓e,↓sp]
  rw[key,run]
  have hv1:1<=En 0 ds:=by
   obtain⟨c,l,rfl⟩:∃c l,ds=c::l:=by
    cases ds with
    | nil=>simp at h1
    | cons c l=>exact⟨c,l,rfl⟩
   have hc:=H4 (h.dig c (Ab ..))
   have h48:c≠48:=h.mi rfl
   have:=SG l (10*0+(c-48))
   show 1<=En (10*0+(c-48)) l
   omega
  have ev:=qT hv1 h.v
  show VY E D W true (AA (En 0 ds)) U=_
  unfold VY
  simp -implicitDefEqProofs only [↓rP,rS,ev]
theorem xM (hK:Li (D 20)) (hW:S4 (D 73)):XZ (F41 E D W N):=by
 intro U xb lv ts l l' R v h hv
 obtain⟨a,ha,hl⟩:=h.ex
 unfold qP at hv
 cases hk:JK 3 l with
 | none=>rw[hk]at hv;cases hv
 | some p=>
  obtain⟨w,l1⟩:=p
  rw[hk]at hv
  cases hv
  obtain⟨U',g,p,f⟩:=hK h hk
  obtain⟨m,ds,r,hw,hn⟩:∃m ds r,w=GB m ds/\IB m ds r:=by
   cases l with
   | nil=>cases hk
   | cons t l2=>
    cases l2 with
    | nil=>cases hk
    | cons t2 l3=>
     have hk:(match decide (t.1=3)with | true=>some (t.2.1,t2::l3) | false=>none:Option (List Nat × List CK))=some (w,l1):=hk
     cases hd:decide (t.1=3)with
     | false=>rw[hd]at hk;cases hk
     | true=>
      rw[hd]at hk
      cases hk
      exact h.ok.nums t (fO (hl ▸ Ab ..)) (of_decide_eq_true hd)
  subst hw
  have gw:=hW U' m ds r hn
  have hne:(BB (GB m ds)).beq (BS.mk 0 0)=false:=by
   rw[BS.beq_nats,Gl (Yg hn)]
   refine decide_eq_false fun e=>?_
   have:=congrArg HK e
   have h1:=hn.n1
   have h0:(BS.mk 0 0).nats.length=0:=rfl
   rw[h0]at this
   unfold GB at this
   split at this<;>(try simp only[AN]at this)<;>omega
  refine⟨U',?_,p,f⟩
  show kW E D W (.ptr xb 0) U=_
  unfold kW
  simp -implicitDefEqProofs only [↓rP,rS,↓g,hne,↓gw]
theorem AEF (hN:100<N):lO (F40 E D W N):=by
 intro U t ht
 obtain⟨U1,e1,f1,a1,n1⟩:=JI ht (Hw t)
 obtain⟨U2,e2,f2,a2,n2⟩:=JI f1.tidy (NK.map .str)
 have b1:=f2.at_ a1 f1.tidy (fun h=>h)
 refine⟨U2,?_,f1.trans f2 (fun _ _ h=>h)⟩
 have run:∀(m j n:Nat),j+m=10->m<n->Vz E D W N n U.next 0 (.sl U1.next 0 10 (.ex 10)) (AA j) U2=some (.bool (((NK.drop j).any fun x=>x.beq (BB t.2.1)&&(decide (t.1=5) || decide (t.1=6))) || decide (t.1=1)),U2):=by
  intro m
  induction m with
  | zero=>
   intro j n hj hn
   obtain⟨n,rfl⟩:∃k,n=k+1:=⟨n-1,by omega⟩
   obtain rfl:j=10:=by omega
   show PY E D W (Vh E D W) _ U.next 0 (.sl U1.next 0 10 (.ex 10)) (AA 10) U2=_
   unfold Hw at b1
   have key:∀R,PY E D W (Vh E D W) R U.next 0 (.sl U1.next 0 10 (.ex 10)) (AA 10) U2=some (.bool (decide (t.1=1)),U2):=by
    intro R
    unfold PY Vh
    simp -implicitDefEqProofs only [↓rP,rA,AB,AE,AD,C7,↓AZ b1]
   rw[key];rfl
  | succ m ih=>
   intro j n hj hn
   obtain⟨n,rfl⟩:∃k,n=k+1:=⟨n-1,by omega⟩
   have hl:j<NK.length:=by show j<10;omega
   rw[DB hl,List.any_cons]
   have d1:decide (j<10)=true:=decide_eq_true (by omega)
   have rd:∀J,AW 1 (.sl U1.next 0 10 (.ex 10)) (AA j) (fun b o=>EG E U2 b o J)=J (.str NK[j]):=fun J=>by
    rw[Cb (show j<10 by omega)]
    refine I4 a2 ?_
    show (NK.map V.str)[0+j*1]? = _
    rw[BA,B8,Aw,AM hl];rfl
   have ih':=ih (j+1) n (by omega) (by omega)
   show PY E D W (Vh E D W) (Vz E D W N n) U.next 0 (.sl U1.next 0 10 (.ex 10)) (AA j) U2=_
   generalize NK[j]=u at rd ⊢
   unfold Hw at b1
   have key:∀K R,PY E D W K R U.next 0 (.sl U1.next 0 10 (.ex 10)) (AA j) U2=AI (u.beq (BB t.2.1)&&(decide (t.1=5) || decide (t.1=6))) (some (.bool true,U2)) (R U.next 0 (.sl U1.next 0 10 (.ex 10)) (AA (j+1)) U2):=by
    intro K R
    unfold PY
    cases h1:u.beq (BB t.2.1)<;>cases h5:decide (t.1=5)<;>cases h6:decide (t.1=6)<;>simp -implicitDefEqProofs only [↓rP,rA,AB,AE,AD,d1,↓rd,↓AZ b1,h1,h5,h6,A3 (show j+1<=9223372036854775807 by omega)]<;>rfl
   rw[key,ih']
   cases u.beq (BB t.2.1)&&(decide (t.1=5) || decide (t.1=6))<;>rfl
 have g:=run 10 0 N rfl (by omega)
 unfold NK at e2
 simp only[B3,HJ]at e2
 unfold Hw at e1 ⊢
 show ZS E D W (Vz E D W N N) (AA t.1) (BB t.2.1) (AA t.2.2) U=_
 have key:∀K,ZS E D W K (AA t.1) (BB t.2.1) (AA t.2.2) U=K U.next 0 (.sl U1.next 0 10 (.ex 10)) (AA 0) U2:=by
  intro K
  unfold ZS
  simp -implicitDefEqProofs only [↓rP,rS,↓e1,↓e2]
 rw[key,g];rfl
end
section
variable {E:EB} {D:Ai} {N:Nat}
theorem dh {U:H} {nb ib:Nat} {l:List V} {v:V} {k:Nat} {m:List V} {s:BS} {n:Int} {c:Bool} {gr:Int}  (ht:Ar U) (ha:CQ U nb l) (hv:l[12]? = some v) (hi:CQ U ib [.str s,.int .i64 n,.bool c,.bool false,.int .i64 (AA 0),.int .i64 (AA 0),.nils,.nils,.int .i64 (AA 0),.nils,.int .i64 gr]) (hd:DM U 11 k v m) (hk:k<=9000) (hne:nb≠ib) (nv:¬AJ v nb) (ni:¬AJ v ib) :
    ∃e' u U',AT E D M9 KA [(1,.ptr nb 0),(8,.ptr ib 0)] U=some (e',U')/\Go.Og.look e' 1=some (.ptr nb 0)/\CQ U' nb (FC l 12 [u])/\DM U' 11 (k+1) u (m++[.str s,.int .i64 n,.bool c,.bool false,.int .i64 (AA 0),.int .i64 (AA 0),.nils,.nils,.int .i64 (AA 0),.nils,.int .i64 gr])/\(∀b,AJ u b->AJ v b\/U.next<=b)/\¬AJ u nb/\Fr (fun b=>b=nb\/AJ v b) U U':=by
  have fw:Fr AL U ⟨U.next+11,U.bl⟩:=(CO (E:=E) (n:=11) (S:=AL) ht).fr
  have lb:=ha.lt ht
  have li:=hi.lt ht
  obtain⟨Ua,ha'⟩:∃Ua,Ua=(⟨U.next+11,(U.next+6,.cells [.str s,.int .i64 n,.bool c,.bool false,.int .i64 (AA 0),.int .i64 (AA 0),.nils,.nils,.int .i64 (AA 0),.nils,.int .i64 gr])::U.bl⟩:H):=⟨_,rfl⟩
  have fa:Fr AL U Ua:=by
    rw[ha']
    refine⟨fun b hb=>?_,GF _ _,fun b hb hn=>?_⟩
    · have hb:U.next+11<=b:=hb
      show BU ((U.next+6,_)::U.bl) b=none
      rw[Au,if_neg (by simp only[];omega)]
      exact ht b (by omega)
    · show BU ((U.next+6,_)::U.bl) b=_
      rw[Au,if_neg (by simp only[];omega)]
  have aa:CQ Ua (U.next+6) [.str s,.int .i64 n,.bool c,.bool false,.int .i64 (AA 0),.int .i64 (AA 0),.nils,.nils,.int .i64 (AA 0),.nils,.int .i64 gr]:=by
    rw[ha']
    show BU ((U.next+6,_)::U.bl) _=_
    rw[Au,if_pos rfl]
  have xs:DL Ua 11 1 (V.sl (U.next+6) 0 1 (.ex 1)) [.str s,.int .i64 n,.bool c,.bool false,.int .i64 (AA 0),.int .i64 (AA 0),.nils,.nils,.int .i64 (AA 0),.nils,.int .i64 gr] := .inr ⟨_,_,_,_,rfl,aa,AK _,rfl⟩
  have ho:An [.str s,.int .i64 n,.bool c,.bool false,.int .i64 (AA 0),.int .i64 (AA 0),.nils,.nils,.int .i64 (AA 0),.nils,.int .i64 gr]=true:=by simp only[BC,BP,Dg,Ed,ET,Fu,A8]
  obtain⟨u,U2,g2,d2,m2,f2⟩:=Du (E:=E) (bytes:=136) (hd.fr fa ht (fun _ _ h=>h)) fa.tidy xs ho (by unfold Bw;simp only[AG,Ac];omega)
  have na:Ua.next=U.next+11:=by rw[ha']
  have vl:∀b,AJ v b->b<U.next:=fun b hb=>hd.lt ht hb
  have a2:CQ U2 nb l:=f2.at_ (fa.at_ ha ht (fun h=>h)) fa.tidy nv
  obtain⟨o1,o2⟩:=D7 d2.one
  have st:∃U3,Dx E D (.store 1 (.tmp 44) (.tmp 42)) [(44,.ptr nb 12),(42,u)] U2=some (.dead,U3)/\Fr (fun k=>k=nb) U2 U3/\CQ U3 nb (FC l 12 [u]):=by
    obtain⟨U3,q1,q2,q3⟩:=Jl (E:=E) (D:=D) (n:=1) (x := .tmp 44) (y := .tmp 42) (e:=[(44,.ptr nb 12),(42,u)]) f2.tidy a2 rfl (show (CP [(44,.ptr nb 12),(42,u)] (.tmp 42)).cells=[u] from o2) (by
      have:12<l.length:=by
        rcases Av 12 l.length with h|h
        · exact h
        · rw[BF h]at hv;cases hv
      simp only[BC,BP,d2.one,A8,AN,BQ,BA,F9,Co,Ac];omega)
    exact⟨U3,q1,q2,q3⟩
  obtain⟨U3,g3,f3,c3⟩:=st
  have un:¬AJ u nb:=fun h=>(m2 nb h).elim nv fun h=>by omega
  have vb:V.beq v v=true:=by
    rcases hd with h|⟨b,rfl,_⟩
    · rcases h with ⟨_,rfl,_⟩ | ⟨_,rfl,_⟩<;>exact B0 _ rfl
    · exact B0 _ rfl
  have go:Ew (JQ E U 11 KA _ U3) E D U 11 0 M9 KA ⟨[(1,.ptr nb 0),(8,.ptr ib 0)],U.next+11,[U.bl],[],0,[]⟩:=
    B5 (.ptr nb 0) rfl rfl <|
    B5 (.ptr nb 0) rfl rfl <|
    B5 (.ptr nb 0) rfl rfl <|
    B5 (.ptr nb 12) rfl rfl <|
    G8 v (CO (S:=AJ v) ht) rfl (DC (b:=nb) (off:=12) rfl ha hv ht nv vb) fun r1=>
    G8 (.agg [.str s,.int .i64 n,.bool c,.bool false,.int .i64 (AA 0),.int .i64 (AA 0),.nils,.nils,.int .i64 (AA 0),.nils,.int .i64 gr]) r1 rfl (KM (b:=ib) (off:=0) rfl hi rfl rfl ht ni (B0 _ rfl)) fun r2=>
    Qv (.sl (U.next+6) 0 1 (.ex 1)) (.cells [.str s,.int .i64 n,.bool c,.bool false,.int .i64 (AA 0),.int .i64 (AA 0),.nils,.nils,.int .i64 (AA 0),.nils,.int .i64 gr]) 64 r2 rfl (by decide) (by decide) rfl fun _ r3=>
    MC u (by rw[<-ha']at r3;exact r3) rfl (by decide) (S':=AJ v) f2 (fun _ _ h=>h) (fun b h h1 _=>by have:=vl b h;omega) (H7 rfl rfl g2) fun _ _ r4=>
    B5 (.ptr nb 0) rfl rfl <|
    B5 (.ptr nb 12) rfl rfl <|
    MD .dead r4 rfl (by decide) f3 (fun b h h1 _=>by omega) g3 (fun x hx=>by
      simp only[Ax,E5,or_false]at hx
      rcases hx with rfl|rfl
      · show FA KA 5 [10,7] []=false
        decide
      · show FA KA 4 [10,7] []=false
        decide)
  have d:=Gt (ops:=M9) go
  refine⟨_,u,U3,d,rfl,c3,d2.fr f3 f2.tidy (fun b hb e=>un (e ▸ hb)),fun b hb=>(m2 b hb).elim .inl (fun h => .inr (by omega)),un,?_⟩
  exact((fa.mono (fun _ _ h=>h.elim):Fr (fun b=>b=nb\/AJ v b) U Ua).trans f2 (fun _ _ h => .inr h)).trans f3 (fun _ _ h => .inl h)
end
structure RW where
 name:List Nat
 num:Int
 has:Bool
def RW.c (x:RW):List V:=[.str (BB x.name),.int .i64 x.num,.bool x.has]
structure Bj where
 name:List Nat
 type:Nat
 opt:Bool
 group:Nat
def Bj.c (x:Bj):List V:=[.str (BB x.name),.int .i64 (AA x.type),.bool x.opt,.bool false,.int .i64 (AA 0),.int .i64 (AA 0),.nils,.nils,.int .i64 (AA 0),.nils,.int .i64 (AA x.group)]
structure Am where
 kind:Nat
 name:List Nat
 mHas:Bool
 mNum:Int
 mMode:Nat
 con:X7
 items:List RW
 fields:List Bj
 root:Nat
 more:Bool
 of_:Nat
def iT (l:List RW):List V:=l.flatMap RW.c
def Ir (l:List Bj):List V:=l.flatMap Bj.c
def Am.c (x:Am) (iv fv:V):List V:=[.int .i64 (AA x.kind),.str (BB x.name),.bool x.mHas,.int .i64 x.mNum,.int .i64 (AA x.mMode),.bool x.con.has,.bool x.con.hasLow,.bool x.con.hasHigh,.bool x.con.more,.int .i64 x.con.low,.int .i64 x.con.high,iv,fv,.int .i64 (AA x.root),.bool x.more,.int .i64 (AA x.of_)]
structure Nq (U:H) (nb:Nat) (nd:Am) (iv fv:V):Prop where
 a:CQ U nb (nd.c iv fv)
 i:DM U 3 nd.items.length iv (iT nd.items)
 f:DM U 11 nd.fields.length fv (Ir nd.fields)
 ni:¬AJ iv nb
 nf:¬AJ fv nb
 d:∀b,AJ iv b->¬AJ fv b
structure Ap (xb:Nat) (lv:V) (nb:Nat) (iv fv:V):Prop where
 x:nb≠xb
 l:¬AJ lv nb
 i:∀b,AJ iv b->b≠xb/\¬AJ lv b
 f:∀b,AJ fv b->b≠xb/\¬AJ lv b
theorem qs (l m:List Bj):Ir (l++m)=Ir l++Ir m:=oq
theorem Wd {U:H} {b off:Nat} {y:V} {l:List V} (ht:Ar U) (a:CQ U b l) (hy:y.one=true) (ho:off<l.length):∃U',(∀J:H->AF,DX 1 b off y U J=J U')/\Fr (fun k=>k=b) U U'/\CQ U' b (FC l off [y]):=by
 obtain⟨U',e,f,a'⟩:=Yk ht a (FC l off [y])
 obtain⟨_,o2⟩:=D7 hy
 refine⟨U',fun J=>?_,f,a'⟩
 rw[ER a (by rw[o2];simp only[AN,BQ,BC,BP,hy,A8,BA,F9,Co,Ac,QK];omega),o2,e]
section
variable {U U':H} {nb:Nat} {nd:Am} {iv fv:V} {xb:Nat} {lv:V}
theorem Nq.fr {S:Nat->Prop} (h:Nq U nb nd iv fv) (f:Fr S U U') (ht:Ar U) (h1:¬S nb) (h2:∀b,AJ iv b->¬S b) (h3:∀b,AJ fv b->¬S b):Nq U' nb nd iv fv:=
 ⟨f.at_ h.a ht h1,h.i.fr f ht h2,h.f.fr f ht h3,h.ni,h.nf,h.d⟩
theorem Nq.frx (h:Nq U nb nd iv fv) (f:Fr (fun k=>k=xb) U U') (ht:Ar U) (ap:Ap xb lv nb iv fv):Nq U' nb nd iv fv:=
 h.fr f ht ap.x (fun b hb=>(ap.i b hb).1) (fun b hb=>(ap.f b hb).1)
theorem Nq.set (h:Nq U nb nd iv fv) (ht:Ar U) {off:Nat} {y:V} (nd':Am) (hy:y.one=true) (ho:off<16) (hc:FC (nd.c iv fv) off [y]=nd'.c iv fv) (h1:nd'.items=nd.items) (h2:nd'.fields=nd.fields) :
  ∃U',(∀J:H->AF,DX 1 nb off y U J=J U')/\Fr (fun k=>k=nb) U U'/\Nq U' nb nd' iv fv:=by
 obtain⟨U',g,f,a⟩:=Wd ht h.a hy ho
 rw[hc]at a
 exact⟨U',g,f,a,by rw[h1];exact h.i.fr f ht (fun b hb e=>h.ni (e ▸ hb)),by rw[h2];exact h.f.fr f ht (fun b hb e=>h.nf (e ▸ hb)),h.ni,h.nf,h.d⟩
end
section
variable {E:EB} {D:Ai} {N:Nat}
end
def Gm:Am:=⟨0,[],false,0,0,AKX,[],[],0,false,0⟩
def Hf:List Am->List (V × V)->List V
 | nd::ns,u::ws=>nd.c u.1 u.2++Hf ns ws
 | _,_=>[]
theorem OB (nd:Am) (iv fv:V):(nd.c iv fv).length=16:=rfl
theorem UX:∀(ns:List Am) (ws:List (V × V)) (nd:Am) (u:V × V),ws.length=ns.length->Hf (ns++[nd]) (ws++[u])=Hf ns ws++nd.c u.1 u.2
 | [],[],nd,u,_=>by simp[Hf]
 | x::ns,y::ws,nd,u,h=>by
  have ih:=UX ns ws nd u (by simpa using h)
  show x.c y.1 y.2++Hf (ns++[nd]) (ws++[u])=(x.c y.1 y.2++Hf ns ws)++_
  rw[ih,DN]
 | [],_::_,_,_,h=>by simp at h
 | _::_,[],_,_,h=>by simp at h
theorem L7:∀(ns:List Am) (ws:List (V × V)),ws.length=ns.length->(Hf ns ws).length=ns.length*16
 | [],[],_=>rfl
 | x::ns,y::ws,h=>by
  have ih:=L7 ns ws (by simpa using h)
  show (x.c y.1 y.2++Hf ns ws).length=_
  rw[AS,ih,OB,AN];omega
 | [],_::_,h=>by simp at h
 | _::_,[],h=>by simp at h
theorem IU:∀(a b:List V) (n:Nat) (cs:List V),FC (a++b) (a.length+n) cs=a++FC b n cs
 | [],b,n,cs=>by simp
 | x::a,b,n,cs=>by
  rw[AN,show a.length+1+n=(a.length+n)+1 by omega]
  show FC (x::(a++b)) (a.length+n+1) cs=x::(a++FC b n cs)
  rw[<-IU a b n cs]
  cases cs with
  | nil=>simp[FC]
  | cons c cs=>rfl
theorem UG:∀(a b cs:List V),cs.length=a.length->FC (a++b) 0 cs=cs++b
 | [],b,[],_=>by cases b<;>rfl
 | x::a,b,c::cs,h=>by
  show c::FC (a++b) 0 cs=_
  rw[UG a b cs (by simpa using h)];rfl
 | [],_,_::_,h=>by simp at h
 | _::_,_,[],h=>by simp at h
theorem UW:∀(ns:List Am) (ws:List (V × V)) (i:Nat) (nd:Am) (u:V × V),ws.length=ns.length->i<ns.length->FC (Hf ns ws) (i*16) (nd.c u.1 u.2)=Hf (ns.set i nd) (ws.set i u)
 | x::ns,y::ws,0,nd,u,_,_=>by
  show FC (x.c y.1 y.2++Hf ns ws) 0 _=nd.c u.1 u.2++Hf ns ws
  exact UG _ _ _ rfl
 | x::ns,y::ws,i+1,nd,u,h,hi=>by
  have ih:=UW ns ws i nd u (by simpa using h) (by simpa using hi)
  show FC (x.c y.1 y.2++Hf ns ws) ((i+1)*16) _=x.c y.1 y.2++Hf (ns.set i nd) (ws.set i u)
  rw[<-ih,show (i+1)*16=(x.c y.1 y.2).length+i*16 by rw[OB];omega,IU]
 | [],_,_,_,_,_,h=>by simp at h
 | _::_,[],_,_,_,h,_=>by simp at h
def PB (xb:Nat) (dv:V):Nat->Prop:=fun b=>b=xb\/AJ dv b
def NdL (U:H) (xb:Nat) (dv:V) (Q:Nat->Prop) (nd:Am) (u:V × V):Prop:=DL U 3 nd.items.length u.1 (iT nd.items)/\DL U 11 nd.fields.length u.2 (Ir nd.fields)/\∀b,AJ u.1 b\/AJ u.2 b->b≠xb/\¬AJ dv b/\¬Q b
structure Pn (U:H) (xb:Nat) (lv:V) (ts l:List CK) (R:Rs) (ns:List Am) (Q:Nat->Prop):Prop where
 p:Pz U xb lv ts l R
 w:∃ws:List (V × V),DM U 16 ns.length R.dv (Hf ns ws)/\ws.length=ns.length/\∀(k:Nat) (nd:Am) (u:V × V),ns[k]? = some nd->ws[k]? = some u->NdL U xb R.dv Q nd u
 dx:∀b,AJ R.dv b->b≠xb/\¬AJ lv b
structure Aq (xb:Nat) (lv dv:V) (nb:Nat) (iv fv:V):Prop where
 a:Ap xb lv nb iv fv
 d:¬AJ dv nb
 i:∀b,AJ iv b->¬AJ dv b
 f:∀b,AJ fv b->¬AJ dv b
section
variable {U U':H} {nb:Nat} {nd:Am} {iv fv:V} {xb:Nat} {lv dv dv':V} {ts l l':List CK} {R:Rs} {ns:List Am} {Q Q':Nat->Prop}
theorem NdL.lt {u:V × V} (h:NdL U xb dv Q nd u) (ht:Ar U) {b:Nat} (hb:AJ u.1 b\/AJ u.2 b):b<U.next:=hb.elim (h.1.lt ht) (h.2.1.lt ht)
theorem Pn.go (h:Pn U xb lv ts l R ns Q) (p:Pz U' xb lv ts l' R) (f:Fr (fun k=>k=xb) U U'):Pn U' xb lv ts l' R ns Q:=by
 obtain⟨ws,h1,h2,h3⟩:=h.w
 refine⟨p,⟨ws,h1.fr f h.p.ht fun b hb e=>(h.dx b hb).1 e,h2,fun k nd u hn hu=>?_⟩,h.dx⟩
 obtain⟨a,b,c⟩:=h3 k nd u hn hu
 exact⟨a.fr f h.p.ht fun b hb e=>(c b (.inl hb)).1 e,b.fr f h.p.ht fun b hb e=>(c b (.inr hb)).1 e,c⟩
theorem Pn.fr {S:Nat->Prop} (h:Pn U xb lv ts l R ns Q) (f:Fr S U U') (h1:¬S xb) (h2:∀b,AJ lv b->¬S b) (h3:∀b,AJ R.dv b->¬S b) (h4:∀b,b<U.next->S b->Q b):Pn U' xb lv ts l R ns Q:=by
 obtain⟨ws,k1,k2,k3⟩:=h.w
 refine⟨h.p.fr f h1 h2,⟨ws,k1.fr f h.p.ht h3,k2,fun k nd u hn hu=>?_⟩,h.dx⟩
 have hN:=k3 k nd u hn hu
 obtain⟨a,b,c⟩:=hN
 exact⟨a.fr f h.p.ht fun x hb e=>(c x (.inl hb)).2.2 (h4 x (a.lt h.p.ht hb) e),b.fr f h.p.ht fun x hb e=>(c x (.inr hb)).2.2 (h4 x (b.lt h.p.ht hb) e),c⟩
theorem Pn.dlt (h:Pn U xb lv ts l R ns Q) {b:Nat} (hb:AJ R.dv b):b<U.next:=by
 obtain⟨ws,k1,_⟩:=h.w
 exact k1.lt h.p.ht hb
theorem Pn.llt (h:Pn U xb lv ts l R ns Q) {b:Nat} (hb:AJ lv b):b<U.next:=h.p.src.lt h.p.ht hb
theorem Pn.ext (h:Pn U xb lv ts l R ns Q) (hQ:∀b,Q' b->Q b\/U.next<=b):Pn U xb lv ts l R ns Q':=by
 obtain⟨ws,k1,k2,k3⟩:=h.w
 refine⟨h.p,⟨ws,k1,k2,fun k nd u hn hu=>?_⟩,h.dx⟩
 have hN:=k3 k nd u hn hu
 exact⟨hN.1,hN.2.1,fun b hb=>⟨(hN.2.2 b hb).1,(hN.2.2 b hb).2.1,fun q=>(hQ b q).elim (hN.2.2 b hb).2.2 fun h'=>by have:=hN.lt h.p.ht hb;omega⟩⟩
theorem Nq.frq (h:Nq U nb nd iv fv) (f:Fr (PB xb dv) U U') (ht:Ar U) (ap:Aq xb lv dv nb iv fv):Nq U' nb nd iv fv:=
 h.fr f ht (fun e=>e.elim ap.a.x ap.d) (fun b hb e=>e.elim (ap.a.i b hb).1 (ap.i b hb)) (fun b hb e=>e.elim (ap.a.f b hb).1 (ap.f b hb))
theorem Nq.lt_i (h:Nq U nb nd iv fv) (ht:Ar U) {b:Nat} (hb:AJ iv b):b<U.next:=h.i.lt ht hb
theorem Nq.lt_f (h:Nq U nb nd iv fv) (ht:Ar U) {b:Nat} (hb:AJ fv b):b<U.next:=h.f.lt ht hb
theorem Aq.ndv (ap:Aq xb lv dv nb iv fv) (q:Nq U nb nd iv fv) (ht:Ar U) (h:∀b,AJ dv' b->AJ dv b\/U.next<=b):Aq xb lv dv' nb iv fv:=
 ⟨ap.a,fun e=>(h nb e).elim ap.d fun h=>by have:=q.a.lt ht;omega,fun b hb e=>(h b e).elim (ap.i b hb) fun h=>by have:=q.lt_i ht hb;omega,fun b hb e=>(h b e).elim (ap.f b hb) fun h=>by have:=q.lt_f ht hb;omega⟩
end
abbrev Er:=Nat->List CK->List Am->Option (Nat × List CK × List Am)
abbrev Vq:=Option (Am × List CK × List Am)
def LB (nb:Nat) (iv fv:V):Nat->Prop:=fun b=>b=nb\/AJ iv b\/AJ fv b
def Rs.wd (R:Rs) (dv:V):Rs:=⟨R.nm,R.tg,R.nv,R.tv,dv⟩
def I7 (T:Er) (d:Nat) (nd:Am) (l:List CK) (ns:List Am):Vq:=
 (JK 2 l).bind fun a=>(T (d+1) a.2 ns).bind fun t=>
  match decide (nd.kind=9)with
  | true=>some ({ nd with fields:=nd.fields++[⟨a.1,t.1,false,0⟩] },t.2.1,t.2.2)
  | false=>match EJ (BS.mk 8 5494759122808361039) t.2.1 with
   | (true,l3)=>some ({ nd with fields:=nd.fields++[⟨a.1,t.1,true,0⟩] },l3,t.2.2)
   | (false,l3)=>match EJ (BS.mk 7 23727827094750532) l3 with
    | (true,_)=>none
    | (false,l4)=>some ({ nd with fields:=nd.fields++[⟨a.1,t.1,false,0⟩] },l4,t.2.2)
def Lh (T:Er) (F:List V->H->AF):Prop:=∀{U:H} {xb:Nat} {lv:V} {ts l l':List CK} {R:Rs} {ns ns':List Am} {Q:Nat->Prop} {d i:Nat},Pn U xb lv ts l R ns Q->(∀b,Q b->b<U.next)->d<=1000->T d l ns=some (i,l',ns') ->
 ∃dv' U',F [.ptr xb 0,.int .i64 (AA d)] U=some (.int .i64 (AA i),U')/\Pn U' xb lv ts l' (R.wd dv') ns' Q/\Fr (PB xb R.dv) U U'/\(∀b,AJ dv' b->AJ R.dv b\/U.next<=b)
def Im (T:Er) (F:List V->H->AF):Prop:=∀{U:H} {xb:Nat} {lv:V} {ts l l':List CK} {R:Rs} {ns ns':List Am} {Q:Nat->Prop} {nb:Nat} {nd nd':Am} {iv fv:V} {d:Nat},
 Pn U xb lv ts l R ns (fun b=>Q b\/LB nb iv fv b)->(∀b,Q b->b<U.next)->Nq U nb nd iv fv->Aq xb lv R.dv nb iv fv->nd.fields.length<=5000->d<=900->I7 T d nd l ns=some (nd',l',ns') ->
 ∃dv' fv' U',F [.ptr xb 0,.ptr nb 0,.int .i64 (AA d),.int .i64 (AA 0)] U=some (.tup [],U')/\Pn U' xb lv ts l' (R.wd dv') ns' (fun b=>Q b\/LB nb iv fv' b)/\Nq U' nb nd' iv fv'/\Aq xb lv dv' nb iv fv' /\
  (∀b,AJ fv' b->AJ fv b\/U.next<=b)/\(∀b,AJ dv' b->AJ R.dv b\/U.next<=b)/\Fr (fun b=>PB xb R.dv b\/b=nb\/AJ fv b) U U'/\nd'.fields.length=nd.fields.length+1/\nd'.kind=nd.kind/\nd'.more=nd.more/\nd'.root=nd.root
section
variable {E:EB} {D:Ai} {N:Nat}
theorem Yz {T:Er} (hI:N4 (D 22)) (hK:Li (D 20)) (hT:Lh T (D 25)):Im T (oH E D (AT E D) N):=by
 intro U xb lv ts l l' R ns ns' Q nb nd nd' iv fv d h hQ q ap hfl hd hs
 obtain⟨⟨w,l1⟩,hk,hs⟩:=AV.1 hs
 obtain⟨⟨i,l2,ns2⟩,ht,hs⟩:=AV.1 hs
 obtain⟨U1,g1,p1,f1⟩:=hK h.p hk
 have h1:=h.go p1 f1
 have q1:=q.frx f1 h.p.ht ap.a
 obtain⟨U2,e2,f2,a2,n2⟩:=JI p1.ht [.str ⟨0,0⟩,.int .i64 (AA 0),.bool false,.bool false,.int .i64 (AA 0),.int .i64 (AA 0),.nils,.nils,.int .i64 (AA 0),.nils,.int .i64 (AA 0)]
 obtain⟨U3,e3,f3,a3⟩:=Yk f2.tidy a2 (Bj.c ⟨w,0,false,0⟩)
 have s3:∀J:H->AF,DX 11 U1.next 0 (.agg [.str (BB w),.int .i64 (AA 0),.bool false,.bool false,.int .i64 (AA 0),.int .i64 (AA 0),.nils,.nils,.int .i64 (AA 0),.nils,.int .i64 (AA 0)]) U2 J=J U3:=fun J=>by
  rw[ER a2 rfl]
  show J (GP U2 U1.next (.cells (Bj.c ⟨w,0,false,0⟩)))=_
  rw[e3]
 have f13:Fr AL U1 U3:=f2.trans f3 (fun b hb e=>by omega)
 have le1:=f1.le
 have le3:=f13.le
 have lfb:U1.next<U3.next:=a3.lt f3.tidy
 have h3:Pn U3 xb lv ts l1 R ns (fun b=>(Q b\/LB nb iv fv b)\/b=U1.next):=(h1.ext (Q':=fun b=>(Q b\/LB nb iv fv b)\/b=U1.next) fun b hb=>hb.elim .inl fun e => .inr (by omega)).fr f13 (fun h=>h) (fun _ _ h=>h) (fun _ _ h=>h) (fun _ _ h=>h.elim)
 have q3:=q1.fr f13 p1.ht (fun h=>h) (fun _ _ h=>h) (fun _ _ h=>h)
 have lnb:=q1.a.lt p1.ht
 obtain⟨dv',U4,g4,h4,f4,m4⟩:=hT (d:=d+1) h3 (fun b hb=>by
  rcases hb with (hb|hb|hb|hb)|hb
  ·have:=hQ b hb;omega
  ·omega
  ·have:=q1.lt_i p1.ht hb;omega
  ·have:=q1.lt_f p1.ht hb;omega
  ·omega) (by omega) ht
 have xlt:=p1.lt
 have dlt:∀b,AJ R.dv b->b<U1.next:=fun b hb=>by
  obtain⟨ws,k1,_⟩:=h1.w
  exact k1.lt p1.ht hb
 have b4:=f4.at_ a3 f3.tidy (fun e=>by
  rcases e with e|e
  ·omega
  ·have:=dlt _ e;omega)
 have q4:=q3.frq f4 f3.tidy ap
 have ap4:Aq xb lv dv' nb iv fv:=ap.ndv q3 f3.tidy m4
 obtain⟨U5,g5,f5,a5⟩:=Wd (off:=1) (y := .int .i64 (AA i)) h4.p.ht b4 rfl (show 1<11 by decide)
 have a5:CQ U5 U1.next (Bj.c ⟨w,i,false,0⟩):=a5
 have le4:=f4.le
 have dlt4:∀b,AJ dv' b->b≠U1.next:=fun b hb e=>by
  rcases m4 b hb with h|h
  ·have:=dlt b h;omega
  ·omega
 have llt:∀b,AJ lv b->b<U1.next:=fun b hb=>p1.src.lt p1.ht hb
 have h5:=h4.fr f5 (by omega) (fun b hb e=>by have:=llt b hb;omega) dlt4 (fun b _ e => .inr e)
 have q5:=q4.fr f5 h4.p.ht (by omega) (fun b hb e=>by have:=q1.lt_i p1.ht hb;omega) (fun b hb e=>by have:=q1.lt_f p1.ht hb;omega)
 have q5a:=q5.a
 unfold Am.c at q5a
 have ad:Ba .i64 (AA d) (AA 1)=AA (d+1):=A3 (by omega)
 have fin:∀(op:Bool) (U6:H) (l6:List CK),Pn U6 xb lv ts l6 (R.wd dv') ns2 (fun b=>(Q b\/LB nb iv fv b)\/b=U1.next)->Nq U6 nb nd iv fv->CQ U6 U1.next (Bj.c ⟨w,i,op,0⟩)->Fr (fun b=>PB xb R.dv b\/b=nb\/AJ fv b) U U6->U1.next<=U6.next ->
   ∃fv' U',S3 E D (AT E D) nb 0 U1.next 0 U6=some (.tup [],U')/\Pn U' xb lv ts l6 (R.wd dv') ns2 (fun b=>Q b\/LB nb iv fv' b)/\Nq U' nb { nd with fields:=nd.fields++[⟨w,i,op,0⟩] } iv fv'/\Aq xb lv dv' nb iv fv' /\
    (∀b,AJ fv' b->AJ fv b\/U.next<=b)/\Fr (fun b=>PB xb R.dv b\/b=nb\/AJ fv b) U U':=by
  intro op U6 l6 p6 q6 b6 f06 le16
  have q6a:=q6.a
  unfold Am.c at q6a
  unfold Bj.c at b6
  obtain⟨e',u,U7,g7,t1,a7,d7,m7,n7,f7⟩:=dh (E:=E) (D:=D) (v:=fv) p6.p.ht q6a rfl b6 q6.f (by omega) (by omega) q6.nf (fun h=>by have:=q1.lt_f p1.ht h;omega)
  have le6:=f06.le
  have q7:Nq U7 nb { nd with fields:=nd.fields++[⟨w,i,op,0⟩] } iv u:=⟨a7,q6.i.fr f7 p6.p.ht (fun b hb e=>by
    rcases e with e|e
    ·exact q6.ni (e ▸ hb)
    ·exact q6.d b hb e),by
    have e1:(nd.fields++[(⟨w,i,op,0⟩:Bj)]).length=nd.fields.length+1:=by simp
    show DM U7 11 (nd.fields++[(⟨w,i,op,0⟩:Bj)]).length u (Ir (nd.fields++[⟨w,i,op,0⟩]))
    rw[e1,qs];exact d7,q6.ni,n7,fun b hb hu=>by
    rcases m7 b hu with h|h
    ·exact q6.d b hb h
    ·have:=q6.lt_i p6.p.ht hb;omega⟩
  have dl6:∀b,AJ dv' b->b<U6.next:=fun b hb=>by
   obtain⟨ws,k1,_⟩:=p6.w
   exact k1.lt p6.p.ht hb
  have h7:=(p6.ext (Q':=fun b=>((Q b\/LB nb iv fv b)\/b=U1.next)\/U6.next<=b) fun b hb=>hb).fr f7 (fun e=>by
    rcases e with e|e
    ·exact ap.a.x e.symm
    ·exact(ap.a.f _ e).1 rfl) (fun b hb e=>by
    rcases e with e|e
    ·exact ap.a.l (e ▸ hb)
    ·exact(ap.a.f _ e).2 hb) (fun b hb e=>by
    rcases e with e|e
    ·exact ap4.d (e ▸ hb)
    ·exact ap4.f _ e hb) (fun b _ e => .inl (.inl (.inr (e.elim .inl fun e => .inr (.inr e)))))
  refine⟨u,U7,?_,h7.ext fun b hb=>?_,q7,⟨⟨ap.a.x,ap.a.l,ap.a.i,fun b hb=>?_⟩,ap4.d,ap4.i,fun b hb=>?_⟩,fun b hb=>(m7 b hb).elim .inl (fun h => .inr (by omega)),f06.trans f7 (fun b _ e => .inr e)⟩
  ·have gd:∀J:B6->H->AF,Cc (AT E D M9 KA [(1,.ptr nb 0),(8,.ptr U1.next 0)] U6) J=J e' U7:=fun J=>by rw[g7];rfl
   unfold S3
   simp -implicitDefEqProofs only [↓rP,rS,↓gd]
  ·rcases hb with hb|hb|hb|hb
   ·exact .inl (.inl (.inl (.inl hb)))
   ·exact .inl (.inl (.inl (.inr (.inl hb))))
   ·exact .inl (.inl (.inl (.inr (.inr (.inl hb)))))
   ·rcases m7 b hb with h|h
    ·exact .inl (.inl (.inl (.inr (.inr (.inr h)))))
    ·exact .inl (.inr h)
  ·rcases m7 b hb with h|h
   ·exact ap.a.f b h
   ·exact⟨by omega,fun hn=>by have:=llt b hn;omega⟩
  ·rcases m7 b hb with h|h
   ·exact ap4.f b h
   ·exact fun hn=>by have:=dl6 b hn;omega
 have f05:Fr (fun b=>PB xb R.dv b\/b=nb\/AJ fv b) U U5:=(((f1.mono (fun _ _ h => .inl (.inl h)):Fr (fun b=>PB xb R.dv b\/b=nb\/AJ fv b) U U1).trans f13 (fun _ _ h=>h.elim)).trans f4 (fun _ _ h => .inl h)).trans f5 (fun b hb e=>by omega)
 have le5:=f5.le
 have mdv:∀b,AJ dv' b->AJ R.dv b\/U.next<=b:=fun b hb=>(m4 b hb).imp id fun h=>by omega
 show ∃dv' fv' U',Pr E D (AT E D) (S3 E D (AT E D)) (.ptr xb 0) nb 0 (AA d) (AA 0) U=_/\_
 have hs:(match decide (nd.kind=9)with
  | true=>some ({ nd with fields:=nd.fields++[⟨w,i,false,0⟩] },l2,ns2)
  | false=>match EJ (BS.mk 8 5494759122808361039) l2 with
   | (true,l3)=>some ({ nd with fields:=nd.fields++[⟨w,i,true,0⟩] },l3,ns2)
   | (false,l3)=>match EJ (BS.mk 7 23727827094750532) l3 with
    | (true,_)=>none
    | (false,l4)=>some ({ nd with fields:=nd.fields++[⟨w,i,false,0⟩] },l4,ns2):Vq)=some (nd',l',ns'):=hs
 cases hk9:decide (nd.kind=9)with
 | true=>
  rw[hk9]at hs
  cases hs
  obtain⟨fv',U',g,p,q',ap',m,f⟩:=fin false U5 _ h5 q5 a5 f05 (by omega)
  refine⟨dv',fv',U',?_,p,q',ap',m,mdv,f,by simp,rfl,rfl,rfl⟩
  rw[<-g]
  unfold Pr
  simp -implicitDefEqProofs only [↓rP,rA,AB,AE,AD,↓g1,↓e2,↓s3,ad,↓g4,↓g5,↓AZ q5a,hk9]
 | false=>
  rw[hk9]at hs
  obtain⟨U6,g6,p6,f6⟩:=hI (BS.mk 8 5494759122808361039) h5.p
  have h6:=h5.go p6 f6
  have q6:=q5.frx f6 h5.p.ht ap.a
  have b6:=f6.at_ a5 h5.p.ht (by omega)
  have f06:=f05.trans f6 (fun _ _ h => .inl (.inl h))
  have le6:=f6.le
  have hs:(match EJ (BS.mk 8 5494759122808361039) l2 with
   | (true,l3)=>some ({ nd with fields:=nd.fields++[⟨w,i,true,0⟩] },l3,ns2)
   | (false,l3)=>match EJ (BS.mk 7 23727827094750532) l3 with
    | (true,_)=>none
    | (false,l4)=>some ({ nd with fields:=nd.fields++[⟨w,i,false,0⟩] },l4,ns2):Vq)=some (nd',l',ns'):=hs
  cases hi6:EJ (BS.mk 8 5494759122808361039) l2 with
  | mk b6' l3=>
   rw[hi6]at hs g6 p6 h6
   cases b6' with
   | true=>
    cases hs
    obtain⟨U7,g7,f7,a7⟩:=Wd (off:=2) (y := .bool true) p6.ht b6 rfl (show 2<11 by decide)
    have a7:CQ U7 U1.next (Bj.c ⟨w,i,true,0⟩):=a7
    have h7:=h6.fr f7 (by omega) (fun b hb e=>by have:=llt b hb;omega) dlt4 (fun b _ e => .inr e)
    have q7:=q6.fr f7 p6.ht (by omega) (fun b hb e=>by have:=q1.lt_i p1.ht hb;omega) (fun b hb e=>by have:=q1.lt_f p1.ht hb;omega)
    obtain⟨fv',U',g,p,q',ap',m,f⟩:=fin true U7 _ h7 q7 a7 (f06.trans f7 (fun b hb e=>by omega)) (by have:=f7.le;omega)
    refine⟨dv',fv',U',?_,p,q',ap',m,mdv,f,by simp,rfl,rfl,rfl⟩
    rw[<-g]
    unfold Pr
    simp -implicitDefEqProofs only [↓rP,rA,AB,AE,AD,↓g1,↓e2,↓s3,ad,↓g4,↓g5,↓AZ q5a,hk9,↓g6,↓g7]
   | false=>
    obtain⟨U7,g7,p7,f7⟩:=hI (BS.mk 7 23727827094750532) p6
    have h7:=h6.go p7 f7
    have q7:=q6.frx f7 p6.ht ap.a
    have b7:=f7.at_ b6 p6.ht (by omega)
    have hs:(match EJ (BS.mk 7 23727827094750532) l3 with
     | (true,_)=>none
     | (false,l4)=>some ({ nd with fields:=nd.fields++[⟨w,i,false,0⟩] },l4,ns2):Vq)=some (nd',l',ns'):=hs
    cases hi7:EJ (BS.mk 7 23727827094750532) l3 with
    | mk b7' l4=>
     rw[hi7]at hs g7 p7 h7
     cases b7' with
     | true=>cases hs
     | false=>
      cases hs
      obtain⟨fv',U',g,p,q',ap',m,f⟩:=fin false U7 _ h7 q7 b7 (f06.trans f7 (fun _ _ h => .inl (.inl h))) (by have:=f7.le;omega)
      refine⟨dv',fv',U',?_,p,q',ap',m,mdv,f,by simp,rfl,rfl,rfl⟩
      rw[<-g]
      unfold Pr
      simp -implicitDefEqProofs only [↓rP,rA,AB,AE,AD,↓g1,↓e2,↓s3,ad,↓g4,↓g5,↓AZ q5a,hk9,↓g6,↓g7]
end
def Lx (T:Er) (d:Nat) (nd:Am) (l:List CK) (ns:List Am):Vq:=
 match (if nd.more=true then(false,l)else EJ (BS.mk 3 3026478) l)with
 | (true,l1)=>some ({ nd with more:=true,root:=nd.fields.length },l1,ns)
 | (false,l1)=>match (if nd.more=true then EJ (BS.mk 2 23387) l1 else(false,l1))with
  | (true,_)=>none
  | (false,l2)=>I7 T d nd l2 ns
def NQ (T:Er) (d:Nat):Nat->Am->List CK->List Am->Vq
 | 0,_,_,_=>none
 | n+1,nd,l,ns=>(Lx T d nd l ns).bind fun s=>match EJ (BS.mk 1 44) s.2.1 with
  | (true,l2)=>NQ T d n s.1 l2 s.2.2
  | (false,l2)=>(D8 (BS.mk 1 125) l2).map fun l3=>(if s.1.more=true then s.1 else { s.1 with root:=s.1.fields.length },l3,s.2.2)
def H3 (T:Er) (d:Nat) (nd:Am) (l:List CK) (ns:List Am):Vq:=match EJ (BS.mk 1 125) l with
 | (true,l1)=>some (nd,l1,ns)
 | (false,l1)=>NQ T d 1000 nd l1 ns
structure Cq (U U':H) (xb:Nat) (lv:V) (ts l':List CK) (R:Rs) (ns':List Am) (Q:Nat->Prop) (nb:Nat) (nd':Am) (iv fv fv' dv':V):Prop where
 p:Pn U' xb lv ts l' (R.wd dv') ns' (fun b=>Q b\/LB nb iv fv' b)
 q:Nq U' nb nd' iv fv'
 ap:Aq xb lv dv' nb iv fv'
 mf:∀b,AJ fv' b->AJ fv b\/U.next<=b
 md:∀b,AJ dv' b->AJ R.dv b\/U.next<=b
 f:Fr (fun b=>PB xb R.dv b\/b=nb\/AJ fv b) U U'
def Kb (T:Er) (F:List V->H->AF):Prop:=∀{U:H} {xb:Nat} {lv:V} {ts l l':List CK} {R:Rs} {ns ns':List Am} {Q:Nat->Prop} {nb:Nat} {nd nd':Am} {iv fv:V} {d:Nat},
 Pn U xb lv ts l R ns (fun b=>Q b\/LB nb iv fv b)->(∀b,Q b->b<U.next)->Nq U nb nd iv fv->Aq xb lv R.dv nb iv fv->nd.fields=[]->d<=900->H3 T d nd l ns=some (nd',l',ns') ->
 ∃dv' fv' U',F [.ptr xb 0,.ptr nb 0,.int .i64 (AA d)] U=some (.tup [],U')/\Cq U U' xb lv ts l' R ns' Q nb nd' iv fv fv' dv'
section
variable {U U1 U2:H} {xb:Nat} {lv:V} {ts l l1 l2:List CK} {R:Rs} {ns ns1 ns2:List Am} {Q:Nat->Prop} {nb:Nat} {nd nd1 nd2:Am} {iv fv fv1 fv2 dv1 dv2:V}
theorem Cq.trans (h:Cq U U1 xb lv ts l1 R ns1 Q nb nd1 iv fv fv1 dv1) (k:Cq U1 U2 xb lv ts l2 (R.wd dv1) ns2 Q nb nd2 iv fv1 fv2 dv2):Cq U U2 xb lv ts l2 R ns2 Q nb nd2 iv fv fv2 dv2:=by
 have le:=h.f.le
 refine⟨k.p,k.q,k.ap,fun b hb=>(k.mf b hb).elim (h.mf b) (fun e => .inr (by omega)),fun b hb=>(k.md b hb).elim (h.md b) (fun e => .inr (by omega)),h.f.trans k.f fun b hb e=>?_⟩
 rcases e with (e|e)|e|e
 ·exact .inl (.inl e)
 ·exact(h.md b e).elim (fun h => .inl (.inr h)) (fun h=>by omega)
 ·exact .inr (.inl e)
 ·exact(h.mf b e).elim (fun h => .inr (.inr h)) (fun h=>by omega)
theorem Cq.go (h:Pn U xb lv ts l R ns (fun b=>Q b\/LB nb iv fv b)) (q:Nq U nb nd iv fv) (ap:Aq xb lv R.dv nb iv fv) (p:Pz U1 xb lv ts l1 R) (f:Fr (fun k=>k=xb) U U1):Cq U U1 xb lv ts l1 R ns Q nb nd iv fv fv R.dv:=
 ⟨h.go p f,q.frx f h.p.ht ap.a,ap,fun _ h => .inl h,fun _ h => .inl h,f.mono fun _ _ e => .inl (.inl e)⟩
theorem Cq.own (h:Pn U xb lv ts l R ns (fun b=>Q b\/LB nb iv fv b)) (ap:Aq xb lv R.dv nb iv fv) (q:Nq U1 nb nd1 iv fv) (f:Fr (fun k=>k=nb) U U1):Cq U U1 xb lv ts l R ns Q nb nd1 iv fv fv R.dv:=
 ⟨h.fr f (fun e=>ap.a.x e.symm) (fun b hb e=>ap.a.l (e ▸ hb)) (fun b hb e=>ap.d (e ▸ hb)) (fun b _ e => .inr (.inl e)),q,ap,fun _ h => .inl h,fun _ h => .inl h,f.mono fun _ _ e => .inr (.inl e)⟩
end
section
variable {E:EB} {D:Ai} {N:Nat}
theorem db {T:Er} (hI:N4 (D 22)) (hF:Im T (D 100)) {U:H} {xb:Nat} {lv:V} {ts l l':List CK} {R:Rs} {ns ns':List Am} {Q:Nat->Prop} {nb:Nat} {nd nd':Am} {iv fv:V} {d:Nat}
  (h:Pn U xb lv ts l R ns (fun b=>Q b\/LB nb iv fv b)) (hQ:∀b,Q b->b<U.next) (q:Nq U nb nd iv fv) (ap:Aq xb lv R.dv nb iv fv) (hl:nd.fields.length<=5000) (hd:d<=900) (hs:Lx T d nd l ns=some (nd',l',ns')) :
  ∃dv' fv' U',(∀K1 K3 K5,RC E D (AT E D) K1 K3 K5 xb 0 nb 0 (AA d) (AA 0) U=K3 xb 0 nb 0 (AA d) (AA 0) U')/\Cq U U' xb lv ts l' R ns' Q nb nd' iv fv fv' dv'/\nd'.fields.length<=nd.fields.length+1:=by
 obtain⟨a,ha,_⟩:=h.p.ex
 unfold pc at ha
 have qa:=q.a
 unfold Am.c at qa
 have field:∀{U1:H} {l1:List CK},Pz U1 xb lv ts l1 R->Fr (fun k=>k=xb) U U1->I7 T d nd l1 ns=some (nd',l',ns')->∃dv' fv' U',D 100 [.ptr xb 0,.ptr nb 0,.int .i64 (AA d),.int .i64 (AA 0)] U1=some (.tup [],U')/\Cq U U' xb lv ts l' R ns' Q nb nd' iv fv fv' dv'/\nd'.fields.length<=nd.fields.length+1:=by
  intro U1 l1 p1 f1 hf
  have s1:=Cq.go h q ap p1 f1
  have le1:=f1.le
  obtain⟨dv',fv',U',g,p,q',ap',mf,md,f,hl',_⟩:=hF s1.p (fun b hb=>by have:=hQ b hb;omega) s1.q s1.ap hl hd hf
  exact⟨dv',fv',U',g,s1.trans ⟨p,q',ap',mf,md,f⟩,by omega⟩
 unfold Lx at hs
 cases hm:nd.more with
 | false=>
  rw[hm]at qa
  rw[hm,if_neg (by decide)]at hs
  obtain⟨U1,g1,p1,f1⟩:=hI (BS.mk 3 3026478) h.p
  have s1:=Cq.go h q ap p1 f1
  have qa1:=s1.q.a
  unfold Am.c at qa1
  rw[hm]at qa1
  cases hp:EJ (BS.mk 3 3026478) l with
  | mk c l1=>
   rw[hp]at hs g1 p1 s1
   cases c with
   | true=>
    have hs:some ({ nd with more:=true,root:=nd.fields.length },l1,ns)=some (nd',l',ns'):=hs
    cases hs
    obtain⟨U2,g2,f2,q2⟩:=s1.q.set (off:=14) (y := .bool true) p1.ht { nd with more:=true } rfl (by decide) rfl rfl rfl
    obtain⟨U3,g3,f3,q3⟩:=q2.set (off:=13) (y := .int .i64 (AA nd.fields.length)) f2.tidy { nd with more:=true,root:=nd.fields.length } rfl (by decide) rfl rfl rfl
    have s3:=s1.trans (Cq.own s1.p s1.ap q3 (f2.trans f3 (fun _ _ h=>h)))
    have sl:∀J:Nat->AF,A0 fv J=J nd.fields.length:=fun J=>s1.q.f.slen
    refine⟨R.dv,fv,U3,fun K1 K3 K5=>?_,s3,EM _⟩
    unfold RC
    simp -implicitDefEqProofs only [↓rP,rA,AB,AE,AD,↓AZ ha,↓AZ qa,↓g1,↓AZ qa1,↓sl,↓g2,↓g3]
   | false=>
    have hs:I7 T d nd l1 ns=some (nd',l',ns'):=hs
    obtain⟨dv',fv',U',g,s,hl'⟩:=field p1 f1 hs
    refine⟨dv',fv',U',fun K1 K3 K5=>?_,s,hl'⟩
    unfold RC
    simp -implicitDefEqProofs only [↓rP,rA,AB,AE,AD,↓AZ ha,↓AZ qa,↓g1,↓AZ qa1,↓g]
 | true=>
  rw[hm]at qa
  rw[hm,if_pos rfl]at hs
  have hs:(match EJ (BS.mk 2 23387) l with | (true,_)=>none | (false,l2)=>I7 T d nd l2 ns:Vq)=some (nd',l',ns'):=hs
  obtain⟨U1,g1,p1,f1⟩:=hI (BS.mk 2 23387) h.p
  cases hp:EJ (BS.mk 2 23387) l with
  | mk c l1=>
   rw[hp]at hs g1 p1
   cases c with
   | true=>cases hs
   | false=>
    obtain⟨dv',fv',U',g,s,hl'⟩:=field p1 f1 hs
    refine⟨dv',fv',U',fun K1 K3 K5=>?_,s,hl'⟩
    unfold RC
    simp -implicitDefEqProofs only [↓rP,rA,AB,AE,AD,↓AZ ha,↓AZ qa,↓g1,↓g]
theorem xn {T:Er} (hI:N4 (D 22)) (hM:JF (D 21)) (hF:Im T (D 100)) {xb:Nat} {lv:V} {ts:List CK} {nb:Nat} {iv:V} {d:Nat} {Q:Nat->Prop} (hd:d<=900):∀(n k:Nat) {U:H} {l l':List CK} {R:Rs} {ns ns':List Am} {nd nd':Am} {fv:V},
  Pn U xb lv ts l R ns (fun b=>Q b\/LB nb iv fv b)->(∀b,Q b->b<U.next)->Nq U nb nd iv fv->Aq xb lv R.dv nb iv fv->nd.fields.length+n<=1001->n<k->NQ T d n nd l ns=some (nd',l',ns') ->
  ∃dv' fv' U',Vs E D (AT E D) N k xb 0 nb 0 (AA d) (AA 0) U=some (.tup [],U')/\Cq U U' xb lv ts l' R ns' Q nb nd' iv fv fv' dv':=by
 intro n
 induction n with
 | zero=>intro k U l l' R ns ns' nd nd' fv h hQ q ap hl hk hs;cases hs
 | succ n ih=>
  intro k U l l' R ns ns' nd nd' fv h hQ q ap hl hk hs
  obtain⟨k,rfl⟩:∃j,k=j+1:=⟨k-1,by omega⟩
  obtain⟨⟨nd1,l1,ns1⟩,h1,hs⟩:=AV.1 hs
  obtain⟨dv1,fv1,U1,g1,s1,hl1⟩:=db (E:=E) hI hF h hQ q ap (by omega) hd h1
  obtain⟨U2,g2,p2,f2⟩:=hI (BS.mk 1 44) s1.p.p
  have s2:=s1.trans (Cq.go s1.p s1.q s1.ap p2 f2)
  have le2:=s2.f.le
  show ∃dv' fv' U',RC E D (AT E D) (VW E D (AT E D)) (VV E D (AT E D) (VW E D (AT E D)) (Vs E D (AT E D) N k)) _ xb 0 nb 0 (AA d) (AA 0) U=_/\_
  have hs:(match EJ (BS.mk 1 44) l1 with | (true,l2)=>NQ T d n nd1 l2 ns1 | (false,l2)=>(D8 (BS.mk 1 125) l2).map fun l3=>(if nd1.more=true then nd1 else { nd1 with root:=nd1.fields.length },l3,ns1):Vq)=some (nd',l',ns'):=hs
  cases hp:EJ (BS.mk 1 44) l1 with
  | mk b l2=>
   rw[hp]at hs g2 p2 s2
   cases b with
   | true=>
    obtain⟨dv',fv',U',g',s'⟩:=ih k s2.p (fun b hb=>by have:=hQ b hb;omega) s2.q s2.ap (by have:=hl1;omega) (by omega) hs
    refine⟨dv',fv',U',?_,s2.trans s'⟩
    rw[g1]
    unfold VV
    simp -implicitDefEqProofs only [↓rP,rS,↓g2]
    exact g'
   | false=>
    obtain⟨l3,h3,he⟩:=Aa.1 hs
    obtain⟨U3,g3,p3,f3⟩:=hM p2 h3
    have s3:=s2.trans (Cq.go s2.p s2.q s2.ap p3 f3)
    have qa:=s3.q.a
    unfold Am.c at qa
    have sl:∀J:Nat->AF,A0 fv1 J=J nd1.fields.length:=fun J=>s3.q.f.slen
    cases hm:nd1.more with
    | true=>
     rw[hm,if_pos rfl]at he
     cases he
     rw[hm]at qa
     refine⟨_,fv1,U3,?_,s3⟩
     rw[g1]
     unfold VV VW
     simp -implicitDefEqProofs only [↓rP,rS,↓g2,↓g3,↓AZ qa]
    | false=>
     rw[hm,if_neg (by decide)]at he
     cases he
     rw[hm]at qa
     obtain⟨U4,g4,f4,q4⟩:=s3.q.set (off:=13) (y := .int .i64 (AA nd1.fields.length)) s3.p.p.ht { nd1 with root:=nd1.fields.length } rfl (by decide) rfl rfl rfl
     rw[hm]at q4
     refine⟨_,fv1,U4,?_,s3.trans (Cq.own s3.p s3.ap q4 f4)⟩
     rw[g1]
     unfold VV VW
     simp -implicitDefEqProofs only [↓rP,rS,↓g2,↓g3,↓AZ qa,↓sl,↓g4]
theorem Ux {T:Er} (hI:N4 (D 22)) (hM:JF (D 21)) (hF:Im T (D 100)) (hN:2000<N):Kb T (F77 E D (AT E D) N):=by
 intro U xb lv ts l l' R ns ns' Q nb nd nd' iv fv d h hQ q ap h0 hd hs
 obtain⟨U1,g1,p1,f1⟩:=hI (BS.mk 1 125) h.p
 have s1:=Cq.go h q ap p1 f1
 unfold H3 at hs
 show ∃dv' fv' U',VX E D (AT E D) (Vs E D (AT E D) N N) xb 0 nb 0 (AA d) U=_/\_
 cases hp:EJ (BS.mk 1 125) l with
 | mk b l1=>
  rw[hp]at hs g1 p1 s1
  cases b with
  | true=>
   cases hs
   refine⟨_,fv,U1,?_,s1⟩
   unfold VX
   simp -implicitDefEqProofs only [↓rP,rS,↓g1]
  | false=>
   have le1:=f1.le
   obtain⟨dv',fv',U',g',s'⟩:=xn (E:=E) (N:=N) hI hM hF hd 1000 N s1.p (fun b hb=>by have:=hQ b hb;omega) s1.q s1.ap (by rw[h0];simp) (by omega) hs
   refine⟨dv',fv',U',?_,s1.trans s'⟩
   have key:∀K,VX E D (AT E D) K xb 0 nb 0 (AA d) U=K xb 0 nb 0 (AA d) (AA 0) U1:=by
    intro K
    unfold VX
    simp -implicitDefEqProofs only [↓rP,rS,↓g1]
   rw[key,g']
end
def JM (T:Er) (d:Nat) (nd:Am) (l:List CK) (ns:List Am):Vq:=match EJ (BS.mk 7 22026814072246082) l with
 | (true,_)=>none
 | (false,l1)=>match EJ (BS.mk 4 1280070990) l1 with
 | (true,_)=>none
 | (false,l2)=>match EJ (BS.mk 10 488440487847103610377301) l2 with
 | (true,_)=>none
 | (false,l3)=>match EJ (BS.mk 7 23157120498421321) l3 with
 | (true,l4)=>(match EJ (BS.mk 1 40) l4 with
  | (true,_)=>none
  | (false,l5)=>some ({ nd with kind:=2 },l5,ns))
 | (false,l4)=>match EJ (BS.mk 5 361940403023) l4 with
 | (true,_)=>none
 | (false,l5)=>match EJ (BS.mk 10 322399817400452109389381) l5 with
 | (true,_)=>none
 | (false,l6)=>match EJ (BS.mk 3 5522771) l6 with
 | (true,l7)=>(D8 (BS.mk 1 123) l7).bind fun l8=>H3 T d { nd with kind:=8 } l8 ns
 | (false,_)=>none
structure X8 (U U':H) (xb:Nat) (lv:V) (ts l':List CK) (R:Rs) (ns':List Am) (Q:Nat->Prop) (nb:Nat) (nd':Am) (iv fv iv' fv' dv':V):Prop where
 p:Pn U' xb lv ts l' (R.wd dv') ns' (fun b=>Q b\/LB nb iv' fv' b)
 q:Nq U' nb nd' iv' fv'
 ap:Aq xb lv dv' nb iv' fv'
 mi:∀b,AJ iv' b->AJ iv b\/U.next<=b
 mf:∀b,AJ fv' b->AJ fv b\/U.next<=b
 md:∀b,AJ dv' b->AJ R.dv b\/U.next<=b
 f:Fr (fun b=>PB xb R.dv b\/LB nb iv fv b) U U'
def OO (T:Er) (F:List V->H->AF):Prop:=∀{U:H} {xb:Nat} {lv:V} {ts l l':List CK} {R:Rs} {ns ns':List Am} {Q:Nat->Prop} {nb:Nat} {nd nd':Am} {iv fv:V} {d:Nat},
 Pn U xb lv ts l R ns (fun b=>Q b\/LB nb iv fv b)->(∀b,Q b->b<U.next)->Nq U nb nd iv fv->Aq xb lv R.dv nb iv fv->nd.items=[]->nd.fields=[]->d<=900->JM T d nd l ns=some (nd',l',ns') ->
 ∃dv' iv' fv' U',F [.ptr xb 0,.ptr nb 0,.int .i64 (AA d)] U=some (.tup [],U')/\X8 U U' xb lv ts l' R ns' Q nb nd' iv fv iv' fv' dv'
section
variable {U U1 U2:H} {xb:Nat} {lv:V} {ts l l1 l2:List CK} {R:Rs} {ns ns1 ns2:List Am} {Q:Nat->Prop} {nb:Nat} {nd nd1 nd2:Am} {iv fv fv1 fv2 dv1 dv2:V}
theorem Cq.base (h:Cq U U1 xb lv ts l1 R ns1 Q nb nd1 iv fv fv1 dv1):X8 U U1 xb lv ts l1 R ns1 Q nb nd1 iv fv iv fv1 dv1:=
 ⟨h.p,h.q,h.ap,fun _ h => .inl h,h.mf,h.md,h.f.mono fun _ _ e=>e.imp id fun e=>e.imp id .inr⟩
end
section
variable {E:EB} {D:Ai} {N:Nat}
theorem jh {T:Er} (hNow:Ks (D 23)) (hI:N4 (D 22)) (hM:JF (D 21)) (hF:Kb T (D 77)):OO T (F42 E D (AT E D) N):=by
 intro U xb lv ts l l' R ns ns' Q nb nd nd' iv fv d h hQ q ap hi0 hf0 hd hs
 obtain⟨t,l0,rfl⟩:∃t l0,l=t::l0:=by
  cases l with
  | nil=>exact absurd rfl h.p.ne
  | cons t l0=>exact⟨t,l0,rfl⟩
 have gn:=hNow h.p
 obtain⟨U1,e1,f1,a1,n1⟩:=JI h.p.ht [.int .i64 (AA 0),.str ⟨0,0⟩,.int .i64 (AA 0)]
 obtain⟨U2,e2,f2,a2⟩:=Yk f1.tidy a1 (Hw t)
 unfold Hw at gn e2 a2
 have s2:∀J:H->AF,DX 3 U.next 0 (.agg [.int .i64 (AA t.1),.str (BB t.2.1),.int .i64 (AA t.2.2)]) U1 J=J U2:=fun J=>by
  rw[ER a1 rfl]
  show J (GP U1 U.next (.cells [.int .i64 (AA t.1),.str (BB t.2.1),.int .i64 (AA t.2.2)]))=_
  rw[e2]
 have f02:Fr AL U U2:=f1.trans f2 (fun b hb e=>by omega)
 have le2:=f02.le
 have h2:=h.fr f02 (fun h=>h) (fun _ _ h=>h) (fun _ _ h=>h) (fun _ _ h=>h.elim)
 have q2:=q.fr f02 h.p.ht (fun h=>h) (fun _ _ h=>h) (fun _ _ h=>h)
 obtain⟨a,ha,_⟩:=h2.p.ex
 unfold pc at ha
 suffices key:∃dv' iv' fv' U',F42 E D (AT E D) N [.ptr xb 0,.ptr nb 0,.int .i64 (AA d)] U=some (.tup [],U')/\X8 U2 U' xb lv ts l' R ns' Q nb nd' iv fv iv' fv' dv' by
  obtain⟨dv',iv',fv',U',g,s⟩:=key
  exact⟨dv',iv',fv',U',g,s.p,s.q,s.ap,fun b hb=>(s.mi b hb).imp id (fun e=>by omega),fun b hb=>(s.mf b hb).imp id (fun e=>by omega),fun b hb=>(s.md b hb).imp id (fun e=>by omega),(f02.mono (fun _ _ h=>h.elim):Fr (fun b=>PB xb R.dv b\/LB nb iv fv b) U U2).trans s.f (fun _ _ e=>e)⟩
 have hQ2:∀b,Q b->b<U2.next:=fun b hb=>by have:=hQ b hb;omega
 show ∃dv' iv' fv' U',kV E D (AT E D) xb 0 nb 0 (AA d) U=some (.tup [],U')/\_
 have word:∀{U':H} {l1:List CK} (s:BS),Cq U2 U' xb lv ts l1 R ns Q nb nd iv fv fv R.dv->∃U'',D 22 [.ptr xb 0,.str s] U'=some (.bool (EJ s l1).1,U'')/\Cq U2 U'' xb lv ts (EJ s l1).2 R ns Q nb nd iv fv fv R.dv:=by
  intro U' l1 s st
  obtain⟨U'',g,p,f⟩:=hI s st.p.p
  exact⟨U'',g,st.trans (Cq.go st.p st.q st.ap p f)⟩
 have kind:∀{U':H} {l1:List CK} (k:Nat),Cq U2 U' xb lv ts l1 R ns Q nb nd iv fv fv R.dv->∃U'',(∀J:H->AF,DX 1 nb 0 (.int .i64 (AA k)) U' J=J U'')/\Cq U2 U'' xb lv ts l1 R ns Q nb { nd with kind:=k } iv fv fv R.dv:=by
  intro U' l1 k st
  obtain⟨U'',g,f,q'⟩:=st.q.set (off:=0) (y := .int .i64 (AA k)) st.p.p.ht { nd with kind:=k } rfl (by decide) rfl rfl rfl
  exact⟨U'',g,st.trans (Cq.own st.p st.ap q' f)⟩
 have must:∀{U':H} {l1 l2:List CK} {nd1:Am} {s:BS},Cq U2 U' xb lv ts l1 R ns Q nb nd1 iv fv fv R.dv->D8 s l1=some l2->∃U'',D 21 [.ptr xb 0,.str s] U'=some (.tup [],U'')/\Cq U2 U'' xb lv ts l2 R ns Q nb nd1 iv fv fv R.dv:=by
  intro U' l1 l2 nd1 s st hm
  obtain⟨U'',g,p,f⟩:=hM st.p.p hm
  exact⟨U'',g,st.trans (Cq.go st.p st.q st.ap p f)⟩
 have flds:∀{U':H} {l1:List CK} {nd1:Am},Cq U2 U' xb lv ts l1 R ns Q nb nd1 iv fv fv R.dv->nd1.fields=[]->H3 T d nd1 l1 ns=some (nd',l',ns')->∃dv' fv' U'',D 77 [.ptr xb 0,.ptr nb 0,.int .i64 (AA d)] U'=some (.tup [],U'')/\Cq U2 U'' xb lv ts l' R ns' Q nb nd' iv fv fv' dv':=by
  intro U' l1 nd1 st h0 hm
  have le:=st.f.le
  obtain⟨dv',fv',U'',g,s⟩:=hF st.p (fun b hb=>by have:=hQ2 b hb;omega) st.q st.ap h0 hd hm
  exact⟨dv',fv',U'',g,st.trans s⟩
 have t0:Cq U2 U2 xb lv ts (t::l0) R ns Q nb nd iv fv fv R.dv:=⟨h2,q2,ap,fun _ h => .inl h,fun _ h => .inl h,Fr.refl h2.p.ht⟩
 unfold JM at hs
 unfold kV
 simp -implicitDefEqProofs only [↓rP,rA,AB,AE,AD,↓gn,↓e1,↓s2,↓AZ ha]
 obtain⟨U3,g3,t3⟩:=word (BS.mk 7 22026814072246082) t0
 cases c3:EJ (BS.mk 7 22026814072246082) (t::l0)with
 | mk b l1=>
 rw[c3]at hs g3 t3
 rcases b with _|_
 rotate_left
 ·cases hs
 replace hs:(match EJ (BS.mk 4 1280070990) l1 with | (true,_)=>_ | (false,_)=>_:Vq)=_:=hs
 obtain⟨U4,g4,t4⟩:=word (BS.mk 4 1280070990) t3
 cases c4:EJ (BS.mk 4 1280070990) l1 with
 | mk b l2=>
 rw[c4]at hs g4 t4
 rcases b with _|_
 rotate_left
 ·cases hs
 replace hs:(match EJ (BS.mk 10 488440487847103610377301) l2 with | (true,_)=>_ | (false,_)=>_:Vq)=_:=hs
 obtain⟨U5,g5,t5⟩:=word (BS.mk 10 488440487847103610377301) t4
 cases c5:EJ (BS.mk 10 488440487847103610377301) l2 with
 | mk b l3=>
 rw[c5]at hs g5 t5
 rcases b with _|_
 rotate_left
 ·cases hs
 replace hs:(match EJ (BS.mk 7 23157120498421321) l3 with | (true,_)=>_ | (false,_)=>_:Vq)=_:=hs
 obtain⟨U6,g6,t6⟩:=word (BS.mk 7 23157120498421321) t5
 cases c6:EJ (BS.mk 7 23157120498421321) l3 with
 | mk b l4=>
 rw[c6]at hs g6 t6
 rcases b with _|_
 rotate_left
 ·replace hs:(match EJ (BS.mk 1 40) l4 with | (true,_)=>_ | (false,_)=>_:Vq)=_:=hs
  obtain⟨_,ga,ta⟩:=kind 2 t6
  obtain⟨Uq,gq,pq,fq⟩:=hI (BS.mk 1 40) ta.p.p
  have tq:=ta.trans (Cq.go ta.p ta.q ta.ap pq fq)
  cases cq:EJ (BS.mk 1 40) l4 with
  | mk b lq=>
  rw[cq]at hs gq tq
  rcases b with _|_
  ·cases hs
   exact⟨_,_,_,_,by simp -implicitDefEqProofs only [↓rP,rS,↓g3,↓g4,↓g5,↓g6,↓ga,↓gq],tq.base⟩
  ·cases hs
 replace hs:(match EJ (BS.mk 5 361940403023) l4 with | (true,_)=>_ | (false,_)=>_:Vq)=_:=hs
 obtain⟨U7,g7,t7⟩:=word (BS.mk 5 361940403023) t6
 cases c7:EJ (BS.mk 5 361940403023) l4 with
 | mk b l5=>
 rw[c7]at hs g7 t7
 rcases b with _|_
 rotate_left
 ·cases hs
 replace hs:(match EJ (BS.mk 10 322399817400452109389381) l5 with | (true,_)=>_ | (false,_)=>_:Vq)=_:=hs
 obtain⟨U8,g8,t8⟩:=word (BS.mk 10 322399817400452109389381) t7
 cases c8:EJ (BS.mk 10 322399817400452109389381) l5 with
 | mk b l6=>
 rw[c8]at hs g8 t8
 rcases b with _|_
 rotate_left
 ·cases hs
 replace hs:(match EJ (BS.mk 3 5522771) l6 with | (true,_)=>_ | (false,_)=>_:Vq)=_:=hs
 obtain⟨U9,g9,t9⟩:=word (BS.mk 3 5522771) t8
 cases c9:EJ (BS.mk 3 5522771) l6 with
 | mk b l7=>
 rw[c9]at hs g9 t9
 rcases b with _|_
 rotate_left
 ·obtain⟨lm,hm,hs⟩:=AV.1 hs
  obtain⟨_,gk,tk⟩:=kind 8 t9
  obtain⟨Um,gm,tm⟩:=must tk hm
  obtain⟨_,_,_,gf,tf⟩:=flds tm hf0 hs
  exact⟨_,_,_,_,by simp -implicitDefEqProofs only [↓rP,rS,↓g3,↓g4,↓g5,↓g6,↓g7,↓g8,↓g9,↓gk,↓gm,↓gf],tf.base⟩
 cases hs
end
end
end Go.Proofs.YtgblfbajgpboiaaGreatDoor
