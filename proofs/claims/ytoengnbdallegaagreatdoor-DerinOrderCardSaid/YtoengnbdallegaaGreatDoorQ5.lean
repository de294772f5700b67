/- What the last text leans on, part 6 of 7: merged out of smaller texts. No condition. -/
import Derived.Shelf.SlGeneric
import Derived.Ground.SlgnProg
import Derived.Test.YtoengnbdallegaaGreatDoorQ4
open Int renaming ofNat -> AA,negSucc -> CG,reducePow -> EN,tmod -> EW,natCast_pow -> fX
open Bool renaming and_eq_true -> AF,or_eq_true -> BE,or_eq_false_iff -> BP,not_eq_true' -> CR,eq_iff_iff -> De,true_and -> FW,not_true -> Mw,not_false -> SV,and_true -> Wj
open Nat renaming reduceLeDiff -> AH,reduceEqDiff -> AI,beq -> AK,reduceLT -> AP,le_refl -> AQ,beq_eq -> AU,ble -> Ag,add -> Ar,lt_or_ge -> Ax,ble_eq -> A1,le_trans -> BO,zero_add -> Bp,blt_eq -> CC,blt -> CJ,mul_one -> CQ,mod_eq_of_lt -> DA,le_succ -> DQ,min -> Dk,reduceSub -> EJ,reduceMul -> EK,add_sub_cancel_left -> Eb,lt_of_lt_of_le -> GA,sub_self -> Gv,min_eq_left -> Ip,sub_zero -> Lk,le_add_right -> Ll,add_zero -> Lm,lt_irrefl -> Mv,add_mul -> Oj,pow_le_pow_right -> X9,not_lt_zero -> fV,zero_mul -> kU,mod_lt -> wF
open Option renaming some -> AL
open List renaming mem_cons -> AS,length_append -> AW,replicate -> AY,mem_cons_self -> Aq,length_cons -> Av,getElem?_eq_getElem -> A6,getElem?_eq_none -> BH,getElem?_eq_some_iff -> BL,eq_nil_of_length_eq_zero -> Bc,getElem?_append_right -> Bd,getElem?_map -> Bh,length_map -> Bm,all_cons -> Bq,mem_cons_of_mem -> CE,map_cons -> CF,all_eq_true -> CP,mem_of_getElem? -> Cd,getElem?_append_left -> Ce,drop_zero -> Cl,getElem?_drop -> C5,append_nil -> C6,take_of_length_le -> DB,take_length -> DC,mem_map -> Du,nil_append -> Dy,length_take -> EE,getElem?_take_of_lt -> EM,flatten_cons -> Ec,ext_getElem? -> Ed,replicate_succ -> Et,range -> GB,getD_eq_getElem?_getD -> GC,length_singleton -> JP,length_replicate -> JQ,mem_of_mem_drop -> Kg,map_nil -> Ln,length_drop -> Lp,append_assoc -> SU,flatten_append -> fm,map_map -> kV,take_zero -> wG,length_eraseIdx_of_lt -> wI,drop_drop -> wK
open BitVec renaming ofInt -> Ay
set_option linter.all false
set_option maxRecDepth 100000
namespace Go.Proofs.YtoengnbdallegaaGreatDoor
open Go Go.Og
noncomputable section
inductive wT:List Nat->Nat->Nat->Prop
 | short {c:Nat} {r:List Nat}:c % 32<31->wT (c::r) (c % 32) 0
inductive X1:List Nat->Nat->Nat->Prop
 | short {c:Nat} {r:List Nat}:c<128->X1 (c::r) c 1
theorem yF:∀c:Fin 256,HI .u8 (AA c.val) (AA 31)=AA (c.val % 32):=by decide +kernel
theorem qi:∀c:Fin 256,(AA c.val).fdiv (2 ^ (Dk (AA 6).toNat 8))=AA (c.val / 64)/\IntKind.wrap .u8 (Ay 8 (AA c.val) &&& Ay 8 (AA 32)).toNat=AA (c.val / 32 % 2*32):=by decide +kernel
def sE (F:List V->H->AG):Prop:=∀{Z:H} {u:V} {L:List Nat} {no n:Nat},Oc Z u L->Kk L->wT L no n->F [u] Z=some (.tup [.int .i64 (AA no),.int .i64 (AA n),.int .i64 (AA 0)],Z)
def cL (F:List V->H->AG):Prop:=∀{Z:H} {u:V} {L:List Nat} {l k:Nat},Oc Z u L->Kk L->X1 L l k->F [u] Z=some (.tup [.int .i64 (AA l),.int .i64 (AA k),.int .i64 (AA 0)],Z)
structure wU (L:List Nat) (c:Nat) (mk:Bool) (no l h:Nat):Prop where
 c:∃x r,L=x::r/\x / 64=c/\(x / 32 % 2=1↔mk=true)
 p:∃n k,wT L no n/\X1 (L.drop (1+n)) l k/\h=1+n+k/\1+n<=L.length/\n<=9/\k<=9
def V9 (F:List V->H->AG):Prop:=∀{Z:H} {u:V} {L:List Nat} {c no l h:Nat} {mk:Bool},BG Z->Oc Z u L->Kk L->wU L c mk no l h ->
 ∃Z',F [u] Z=some (.tup [.agg [.int .i64 (AA c),.int .i64 (AA no)],.bool mk,.int .i64 (AA l),.int .i64 (AA h),.int .i64 (AA 0)],Z')/\Fr AN Z Z'
section
variable {E:EB} {D:Al} {W:AE} {N:Nat}
theorem ADq:sE (ei E D W N):=by
 intro Z u L no n h hb hn
 cases hn with
 | @short c r hc=>
  have hc256:c<256:=hb c Aq
  have g:=h.get (E:=E) (k:=0) (c:=c) rfl
  have e1:As .i64 (HI .u8 (AA c) (AA 31))=AA (c % 32):=by
   have:HI .u8 (AA c) (AA 31)=AA (c % 32):=yF ⟨c,hc256⟩
   rw[this];exact B7 (show c % 32<=9223372036854775807 by omega)
  have d1:decide (c % 32<31)=true:=decide_eq_true hc
  show Uf E D W u Z=_
  unfold Uf
  simp -implicitDefEqProofs only [↓rP,rA,AI,AP,AH,↓g,e1,d1]
theorem xY:cL (eh E D W N):=by
 intro Z u L l k h hb hl
 cases hl with
 | @short c r hc=>
  have g:=h.get (E:=E) (k:=0) (c:=l) rfl
  have sl:=h.slen
  have e1:As .i64 (AA l)=AA l:=B7 (show l<=9223372036854775807 by omega)
  have d1:decide (l<128)=true:=decide_eq_true hc
  have d0:decide ((l::r).length=0)=false:=decide_eq_false (by simp)
  show Ue E D W u Z=_
  unfold Ue
  simp -implicitDefEqProofs only [↓rP,rA,AI,AP,AH,↓g,↓sl,e1,d1,d0]
theorem xA (hN:sE (D 116)) (hL:cL (D 117)):V9 (F93 E D (AZ E D) N):=by
 intro Z u L c no l h mk ht hu hb hh
 obtain⟨x,r,rfl,rfl,hmk⟩:=hh.c
 obtain⟨n,k,hn,hl,rfl,hle,hn9,hk9⟩:=hh.p
 have hx256:x<256:=hb x Aq
 obtain⟨Z1,e1,f1,a1,n1⟩:=MY ht [.int .i64 (AA 0),.int .i64 (AA 0)]
 have h1:=hu.fr0 f1 ht
 have g1:=hN h1 hb hn
 have sl:=hu.slen
 have d0:decide ((x::r).length=0)=false:=decide_eq_false (by simp)
 have ad:CM .i64 (AA 1) (AA n)=AA (1+n):=DN (by omega)
 obtain⟨w,gw,sw,_⟩:=h1.from hle (by simp)
 have g2:=hL sw (fun c hc=>hb c (Kg hc)) hl
 have gk:∀J:V->AG,gK (Dm 1 u (some (.int .i64 (AA (1+n)))) none none) J=J w:=fun J=>by rw[gw];rfl
 obtain⟨b,o,cp,M,hv,ha,hM⟩:∃b o cp M,u = .sl b o (x::r).length cp/\CU Z1 b M/\M[o]? = some (.int .u8 (AA x)):=by
  rcases h1 with ⟨h0,_⟩|⟨b,o,cp,M,hv,_,ha,h2,h3⟩
  ·cases h0
  ·refine⟨b,o,cp,M,hv,ha,?_⟩
   have:=Y7 (L:=x::r) (k:=0) rfl
   rw[<-h3,EM (by simp),C5]at this
   exact this
 have ex:=qi ⟨x,hx256⟩
 have ex1:(AA x).fdiv (2 ^ (Dk (AA 6).toNat 8))=AA (x / 64):=ex.1
 have ex2:IntKind.wrap .u8 (Ay 8 (AA x) &&& Ay 8 (AA 32)).toNat=AA (x / 32 % 2*32):=ex.2
 have fw:Fr AN Z1 ⟨Z1.next+22,Z1.bl⟩:=(Cu (E:=E) (n:=22) (S:=AN) f1.tidy).fr
 have bne:b≠Z.next:=fun e=>by
  have:b<Z.next:=hu.lt ht b (by rw[hv];rfl)
  omega
 obtain⟨Z4,g4,f4,a4⟩:∃Z4,Dc E D (.store 2 (.tmp 2) (.tmp 45)) [(2,.ptr Z.next 0),(45,.agg [.int .i64 (AA (x / 64)),.int .i64 (AA no)])] ⟨Z1.next+22,Z1.bl⟩=some (.dead,Z4)/\Fr (fun k=>k=Z.next) ⟨Z1.next+22,Z1.bl⟩ Z4/\CU Z4 Z.next [.int .i64 (AA (x / 64)),.int .i64 (AA no)]:=by
  obtain⟨Z4,q1,q2,q3⟩:=J3 (E:=E) (D:=D) (n:=2) (x := .tmp 2) (y := .tmp 45) (e:=[(2,.ptr Z.next 0),(45,.agg [.int .i64 (AA (x / 64)),.int .i64 (AA no)])]) fw.tidy (fw.at_ a1 f1.tidy (fun h=>h)) rfl (show (B4 [(2,.ptr Z.next 0),(45,.agg [.int .i64 (AA (x / 64)),.int .i64 (AA no)])] (.tmp 45)).cells=[.int .i64 (AA (x / 64)),.int .i64 (AA no)] from rfl) rfl
  exact⟨Z4,q1,q2,q3⟩
 have uo:=hu.one
 have a6:CM .i64 (AA (1+n)) (AA k)=AA (1+n+k):=DN (by omega)
 have w5:=(La .i64 (AA 1) (AA n)).symm.trans ad
 have w6:=(La .i64 (AA (1+n)) (AA k)).symm.trans a6
 have wc:IntKind.wrap .i64 (AA (x / 64))=AA (x / 64):=by rw[<-DJ];exact B7 (show x / 64<=9223372036854775807 by omega)
 have bm:HH .neq .none (.int .u8 (AA (x / 32 % 2*32))) (.int .u8 (AA 0))=some (.bool mk):=by
  rcases(by omega:x / 32 % 2=0\/x / 32 % 2=1)with e|e
  ·have:mk=false:=by cases mk with
    | false=>rfl
    | true=>have:=hmk.2 rfl;omega
   rw[e,this];rfl
  ·rw[e,hmk.1 e];rfl
 have go:HZ (QA E Z1 22 Wf _ Z4) E D Z1 22 0 Wg Wf ⟨[(0,u),(2,.ptr Z.next 0),(7,.int .i64 (AA no)),(8,.int .i64 (AA n)),(10,.int .i64 (AA l)),(11,.int .i64 (AA k))],Z1.next+22,[Z1.bl],[],0,[]⟩:=
  Cn u rfl (Fl rfl (CK uo)) <|
  Cn (.ptr b (o+0*1)) rfl (LG hv rfl (by simp)) <|
  VW (.int .u8 (AA x)) (Cu (S:=fun k=>k=Z.next) f1.tidy) rfl (Gh (b:=b) (off:=o+0*1) rfl ha hM f1.tidy bne (Cv _ rfl)) fun r1=>
  Cn (.int .u8 (AA (x / 64))) rfl (congrArg (fun z=>some (V.int .u8 z)) ex1) <|
  Cn (.int .i64 (AA (x / 64))) rfl (congrArg (fun z=>some (V.int .i64 z)) wc) <|
  Cn (.int .i64 (AA no)) rfl rfl <|
  Cn (.agg [.int .i64 (AA (x / 64)),.int .i64 (AA no)]) rfl rfl <|
  Cn u rfl (Fl rfl (CK uo)) <|
  Cn (.ptr b (o+0*1)) rfl (LG hv rfl (by simp)) <|
  VW (.int .u8 (AA x)) r1 rfl (Gh (b:=b) (off:=o+0*1) rfl ha hM f1.tidy bne (Cv _ rfl)) fun r2=>
  Cn (.int .u8 (AA (x / 32 % 2*32))) rfl (congrArg (fun z=>some (V.int .u8 z)) ex2) <|
  Cn (.bool mk) rfl bm <|
  Cn (.int .i64 (AA l)) rfl rfl <|
  Cn (.int .i64 (AA n)) rfl rfl <|
  Cn (.int .i64 (AA (1+n))) rfl (congrArg (fun z=>some (V.int .i64 z)) w5) <|
  Cn (.int .i64 (AA k)) rfl rfl <|
  Cn (.int .i64 (AA (1+n+k))) rfl (congrArg (fun z=>some (V.int .i64 z)) w6) <|
  S8 .dead r2 rfl (by decide) (S':=fun k=>k=Z.next) f4 (fun _ _ h=>h) (fun b h h1 _=>by omega) g4 fun _ _ r3=>
  Cn (.bool mk) rfl rfl <|
  Cn (.int .i64 (AA l)) rfl rfl <|
  Cn (.int .i64 (AA (1+n+k))) rfl rfl <|
  Cn (.int .i64 (AA 0)) rfl rfl <|
  VX r3
 have d:=Nu (ops:=Wg) go
 refine⟨Z4,?_,(f1.trans fw (fun _ _ h=>h)).trans f4 (fun b hb e=>by omega)⟩
 show ak E D (AZ E D) u Z=_
 unfold ak
 simp -implicitDefEqProofs only [↓rP,rS,Ca,decide_true,↓e1,↓sl,d0,↓g1,ad,↓gk,↓g2]
 rw[d]
 show BV E Z4 Z.next 0 2 _=_
 rw[Bo a4]
 rfl
end
theorem NU {x:AO} {em:Bk} {v z:V} {lo hi:Option AO} (hx:B4 em x=v) (g:Dm 1 v (Ct em lo) (Ct em hi) none=some z):BJ (.sliceSl 1 x lo hi none) em=some z:=by
 show Dm 1 (B4 em x) (Ct em lo) (Ct em hi) none=_
 rw[hx];exact g
theorem GH {Z:H} {b n o:Nat} {l:List V} {v:V} (ht:BG Z) (h:CU Z b l) (hc:(AK v.cells.length n&&Ag (Ar o n) l.length&&allOne v.cells)=true) :
  ∃Z',(∀J:H->AG,FY n b o v Z J=J Z')/\Fr (fun k=>k=b) Z Z'/\CU Z' b (HQ l o v.cells)/\Z'.next=Z.next:=
 ⟨_,fun J=>YL h hc,Fr.set ht (h.lt ht) _,T0 _,rfl⟩
def Rz (F:List V->H->AG):Prop:=∀{Z:H} {u:V} {L:List Nat} {c no l h:Nat} {mk:Bool},BG Z->Oc Z u L->Kk L->wU L c mk no l h->h+l<=L.length->L.length<=1000000 ->
 ∃w Z',F [u] Z=some (.tup [.agg [.int .i64 (AA c),.int .i64 (AA no)],.bool mk,w,.int .i64 (AA (h+l)),.int .i64 (AA 0)],Z')/\Oc Z' w ((L.drop h).take l)/\(∀b,BK w b->Z.next<=b)/\Fr AN Z Z'
section
variable {E:EB} {D:Al} {N:Nat}
theorem p7 (hH:V9 (D 93)):Rz (F57 E D (AZ E D) N):=by
 intro Z u L c no l h mk ht hu hb hh hle hL
 obtain⟨x,r,hLx,_,_⟩:=hh.c
 have hL0:0<L.length:=by rw[hLx];simp
 obtain⟨Z1,e1,f1,a1,n1⟩:=MY ht [.int .i64 (AA 0),.int .i64 (AA 0)]
 obtain⟨Z2,g2,f2⟩:=hH f1.tidy (hu.fr0 f1 ht) hb hh
 obtain⟨Z3,e3,f3,a3,n3⟩:=MY f2.tidy [.int .i64 (AA 0),.int .i64 (AA 0)]
 obtain⟨Z4,g4,f4,a4,n4⟩:=GH (n:=2) (o:=0) (v := .agg [.int .i64 (AA c),.int .i64 (AA no)]) f3.tidy a3 rfl
 have a4:CU Z4 Z2.next [.int .i64 (AA c),.int .i64 (AA no)]:=a4
 have hu4:Oc Z4 u L:=(((hu.fr0 f1 ht).fr0 f2 f1.tidy).fr0 f3 f2.tidy).fr f4 f3.tidy fun b hb e=>by
  have h1:=hu.lt ht b hb
  have h2:=f1.le
  have h3:=f2.le
  omega
 have a14:CU Z4 Z.next [.int .i64 (AA 0),.int .i64 (AA 0)]:=f4.at_ (f3.at_ (f2.at_ a1 f1.tidy (fun h=>h)) f2.tidy (fun h=>h)) f3.tidy (fun e=>by
  have h2:=f2.le
  omega)
 have sl:=hu.slen
 have es:D2 .i64 (AA L.length) (AA h)=AA (L.length-h):=H0 (by omega) (by omega)
 have d1:decide (L.length-h<l)=false:=decide_eq_false (by omega)
 obtain⟨z,gz,oz,nz⟩:=hu4.cut (lo:=h) (hi:=h+l) (by omega) hle hL0 (some (.int .i64 (AA h))) (some (.int .i64 (AA (h+l)))) (.inl rfl) (.inl rfl)
 rw[Eb]at oz
 have lz:((L.drop h).take l).length=l:=by rw[EE,Lp];omega
 have fw:Fr AN Z4 ⟨Z4.next+17,Z4.bl⟩:=(Cu (E:=E) (n:=17) (S:=AN) f4.tidy).fr
 obtain⟨w,Z5,g5,d5,m5,f5⟩:=(oz.fr0 fw f4.tidy).copy (E:=E) fw.tidy (by omega)
 have n12:Z1.next<=Z2.next:=f2.le
 have bne:Z2.next≠Z.next:=fun e=>by omega
 have a15:CU Z5 Z.next [.int .i64 (AA 0),.int .i64 (AA 0)]:=f5.at_ (fw.at_ a14 f4.tidy (fun h=>h)) fw.tidy (fun h=>h)
 obtain⟨Z6,g6,f6,a6⟩:∃Z6,Dc E D (.store 2 (.tmp 2) (.tmp 34)) [(2,.ptr Z.next 0),(34,.agg [.int .i64 (AA c),.int .i64 (AA no)])] Z5=some (.dead,Z6)/\Fr (fun k=>k=Z.next) Z5 Z6/\CU Z6 Z.next [.int .i64 (AA c),.int .i64 (AA no)]:=by
  obtain⟨Z6,q1,q2,q3⟩:=J3 (E:=E) (D:=D) (n:=2) (x := .tmp 2) (y := .tmp 34) (e:=[(2,.ptr Z.next 0),(34,.agg [.int .i64 (AA c),.int .i64 (AA no)])]) f5.tidy a15 rfl (show (B4 [(2,.ptr Z.next 0),(34,.agg [.int .i64 (AA c),.int .i64 (AA no)])] (.tmp 34)).cells=[.int .i64 (AA c),.int .i64 (AA no)] from rfl) rfl
  exact⟨Z6,q1,q2,q3⟩
 have uo:=hu.one
 have zo:=oz.one
 have wo:=d5.one
 have ad:HH .add .none (.int .i64 (AA h)) (.int .i64 (AA l))=some (.int .i64 (AA (h+l))):=congrArg (fun z=>some (V.int .i64 z)) ((La .i64 (AA h) (AA l)).symm.trans (DN (by omega)))
 have m6:Z4.next+17<=Z5.next:=f5.le
 have go:HZ (QA E Z4 17 P3 _ Z6) E D Z4 17 0 P4 P3 ⟨[(0,u),(2,.ptr Z.next 0),(7,.ptr Z2.next 0),(8,.bool mk),(9,.int .i64 (AA l)),(10,.int .i64 (AA h))],Z4.next+17,[Z4.bl],[],0,[]⟩:=
  VW (.agg [.int .i64 (AA c),.int .i64 (AA no)]) (Cu (S:=fun k=>k=Z.next) f4.tidy) rfl (HS (b:=Z2.next) (off:=0) (c:=[.int .i64 (AA c),.int .i64 (AA no)]) rfl a4 rfl rfl f4.tidy bne (Cv _ rfl)) fun r1=>
  Cn (.bool mk) rfl rfl <|
  Cn u rfl (Fl rfl (CK uo)) <|
  Cn (.int .i64 (AA h)) rfl rfl <|
  Cn (.int .i64 (AA h)) rfl rfl <|
  Cn (.int .i64 (AA l)) rfl rfl <|
  Cn (.int .i64 (AA (h+l))) rfl ad <|
  Cn z rfl (NU rfl gz) <|
  S8 w r1 rfl (by decide) (S':=AN) f5 (fun _ _ h=>h.elim) (fun _ h _ _=>h.elim) (Rv rfl rfl g5) fun _ _ r2=>
  Cn (.int .i64 (AA h)) rfl rfl <|
  Cn (.int .i64 (AA l)) rfl rfl <|
  Cn (.int .i64 (AA (h+l))) rfl ad <|
  S8 .dead r2 rfl (by decide) (S':=fun k=>k=Z.next) f6 (fun _ _ h=>h) (fun b h h1 _=>by omega) g6 fun _ _ r3=>
  Cn (.bool mk) rfl rfl <|
  Cn w rfl (Fl rfl (CK wo)) <|
  Cn (.int .i64 (AA (h+l))) rfl rfl <|
  Cn (.int .i64 (AA 0)) rfl rfl <|
  VX r3
 obtain⟨ev,d,y2,y3,y4,y5,y6⟩:∃ev,AZ E D P4 P3 [(0,u),(2,.ptr Z.next 0),(7,.ptr Z2.next 0),(8,.bool mk),(9,.int .i64 (AA l)),(10,.int .i64 (AA h))] Z4=some (ev,Z6)/\Go.Og.look ev 2=some (.ptr Z.next 0)/\Go.Og.look ev 3=some (.bool mk)/\Go.Og.look ev 4=some w/\Go.Og.look ev 5=some (.int .i64 (AA (h+l)))/\Go.Og.look ev 6=some (.int .i64 (AA 0)):=⟨_,Nu (ops:=P4) go,rfl,rfl,rfl,rfl,rfl⟩
 have gd:∀J:Bk->H->AG,Cp (AZ E D P4 P3 [(0,u),(2,.ptr Z.next 0),(7,.ptr Z2.next 0),(8,.bool mk),(9,.int .i64 (AA l)),(10,.int .i64 (AA h))] Z4) J=J ev Z6:=fun J=>by rw[d];rfl
 have z2:∀J:V->AG,BR ev 2 J=J (.ptr Z.next 0):=fun J=>Bg y2 rfl
 have z3:∀J:V->AG,BR ev 3 J=J (.bool mk):=fun J=>Bg y3 rfl
 have z4:∀J:V->AG,BR ev 4 J=J w:=fun J=>Bg y4 (CK wo)
 have z5:∀J:V->AG,BR ev 5 J=J (.int .i64 (AA (h+l))):=fun J=>Bg y5 rfl
 have z6:∀J:V->AG,BR ev 6 J=J (.int .i64 (AA 0)):=fun J=>Bg y6 rfl
 have nw:∀b,BK w b->Z4.next+17<=b:=m5
 rw[lz]at d5
 have ow:Oc Z6 w ((L.drop h).take l):=(Oc.of_dst (by rw[lz];exact d5)).fr f6 f5.tidy fun b hb e=>by
  have:=nw b hb
  omega
 have F12:Fr AN Z Z2:=f1.trans f2 (fun _ _ h=>h)
 have F3:Fr AN Z Z3:=F12.trans f3 (fun _ _ h=>h)
 have F4:Fr AN Z Z4:=F3.trans f4 (fun b hb e=>by omega)
 have F5:Fr AN Z Z5:=(F4.trans fw (fun _ _ h=>h)).trans f5 (fun _ _ h=>h)
 refine⟨w,Z6,?_,ow,fun b hb=>by have:=nw b hb;omega,F5.trans f6 (fun b hb e=>by omega)⟩
 show bC E D (AZ E D) (dh E D (AZ E D) N) u Z=_
 have k1:bB E D (AZ E D) u Z.next 0 Z2.next 0 mk (AA l) (AA h) (AA 0) Z4=some (.tup [.agg [.int .i64 (AA c),.int .i64 (AA no)],.bool mk,w,.int .i64 (AA (h+l)),.int .i64 (AA 0)],Z6):=by
  unfold bB
  simp -implicitDefEqProofs only [↓rP,rA,AI,AP,AH,Ca,decide_true,↓gd,↓z2,↓z3,↓z4,↓z5,↓z6,↓Bo a6]
 rw[<-k1]
 unfold bC dh
 simp -implicitDefEqProofs only [↓rP,rA,AI,AP,AH,↓e1,↓g2,↓e3,↓g4,Ca,decide_true,↓sl,es,d1]
end
theorem p5 {Z:H} (ht:BG Z) {n i:Nat} (hi:i<n) (c:List V):Fr AN Z ⟨Z.next+n,(Z.next+i,.cells c)::Z.bl⟩/\CU ⟨Z.next+n,(Z.next+i,.cells c)::Z.bl⟩ (Z.next+i) c:=by
 refine⟨⟨fun k hk=>?_,Ll _ _,fun k hk _=>?_⟩,?_⟩
 ·have hk:Z.next+n<=k:=hk
  show BB ((Z.next+i,Ea.cells c)::Z.bl) k=none
  rw[BA,if_neg (by simp only[];omega)];exact ht k (by omega)
 ·show BB ((Z.next+i,Ea.cells c)::Z.bl) k=_
  rw[BA,if_neg (by simp only[];omega)]
 ·show BB ((Z.next+i,Ea.cells c)::Z.bl) _=_
  rw[BA,if_pos rfl]
theorem xe (a b c d:Nat) (J:Bool->AG):YA (.flat [(0,.int),(1,.int)]) (.agg [.int .i64 (AA a),.int .i64 (AA b)]) (.agg [.int .i64 (AA c),.int .i64 (AA d)]) J=J (decide ((a,b)=(c,d))):=by
 have h:JA (.flat [(0,.int),(1,.int)]) (.agg [.int .i64 (AA a),.int .i64 (AA b)]) (.agg [.int .i64 (AA c),.int .i64 (AA d)])=some (AK a c&&(AK b d&&true)):=rfl
 unfold YA;rw[h]
 show J _=J _
 have nb:∀x y:Nat,AK x y=decide (x=y):=fun x y=>by rw[De,AU];simp
 rw[nb,nb]
 congr 1
 by_cases h1:a=c
 ·by_cases h2:b=d
  ·subst h1;subst h2;simp
  ·simp[h1,h2]
 ·simp[h1]
structure kS (e:List Nat) (c no:Nat) (mk:Bool) (body:List Nat) (h:Nat):Prop where
 hd:wU e c mk no body.length h
 len:h+body.length=e.length
 body:e.drop h=body
theorem wT.app {L r:List Nat} {no n:Nat} (h:wT L no n):wT (L++r) no n:=by
 cases h with
 | short h=>exact .short h
theorem X1.app {L r:List Nat} {l k:Nat} (h:X1 L l k):X1 (L++r) l k:=by
 cases h with
 | short h=>exact .short h
theorem wU.app {L r:List Nat} {c no l h:Nat} {mk:Bool} (hd:wU L c mk no l h):wU (L++r) c mk no l h:=by
 obtain⟨⟨x,t,rfl,h1,h2⟩,n,k,h3,h4,h5,h6,h7⟩:=hd
 refine⟨⟨x,t++r,rfl,h1,h2⟩,n,k,h3.app,?_,h5,by rw[AW];omega,h7⟩
 rw[List.drop_append_of_le_length h6]
 exact h4.app
def Lc (F:List V->H->AG):Prop:=∀{Z:H} {p:Nat} {rest:List V} {u tv:V} {L body:List Nat} {c no h:Nat} {mk:Bool},BG Z->CU Z p (.bool false::rest)->Oc Z u L->Kk L->kS L c no mk body h->L.length<=1000000->IH Z 2 1 tv [.int .i64 (AA c),.int .i64 (AA no)] ->
 ∃w Z',F [.ptr p 0,tv,u] Z=some (w,Z')/\Oc Z' w body/\(∀b,BK w b->Z.next<=b)/\Fr AN Z Z'
def T2 (Z0 Z:H) (v:V) (EL:List (List Nat)):Prop:=∃pvs:List V,JK Z 1 EL.length v pvs/\(∀b,BK v b->Z0.next<=b)/\∀(i:Nat) (e:List Nat),EL[i]? = some e->∃u,pvs[i]? = some u/\Oc Z u e/\∀b,BK u b->b<Z0.next
def R7 (N:Nat) (F:List V->H->AG):Prop:=∀{Z:H} {p:Nat} {rest:List V} {u:V} {EL:List (List Nat)},BG Z->CU Z p (.bool false::rest)->Oc Z u EL.flatten->Kk EL.flatten->(∀e∈EL,∃c no mk body h,kS e c no mk body h)->EL.flatten.length<=1000000->EL.length<N->EL.length<=10000 ->
 ∃w Z',F [.ptr p 0,u] Z=some (w,Z')/\T2 Z Z' w EL/\Fr AN Z Z'
theorem xF {Z:H} {tv a b:V} (h:IH Z 2 1 tv [a,b]) (J:List V->AG) {E:EB}:Ab 2 tv (AA 0) (fun b o=>BV E Z b o 2 J)=J [a,b]:=by
 rcases h with ⟨h0,_,_⟩|⟨q,o,cp,M,rfl,ha,hl,hm⟩
 ·omega
 ·rw[Dr (by decide)]
  show BV E Z q (o+0*2) 2 J=_
  rw[kU,Lm,Bo ha,show GR M o 2 J=J ((M.drop o).take 2)from Kp (by omega)]
  rw[<-hm]
section
variable {E:EB} {D:Al} {N:Nat}
theorem ZM (hT:Rz (D 57)) (hN:2<N):Lc (wa E D (AZ E D) N):=by
 intro Z p rest u tv L body c no h mk ht hp hu hb hE hL ht2
 obtain⟨w,Z1,g1,o1,n1,f1⟩:=hT ht hu hb hE.hd (by rw[hE.len];omega) hL
 have g1:=g1
 rw[hE.len]at g1
 rw[hE.body,DC]at o1
 refine⟨w,Z1,?_,o1,n1,f1⟩
 obtain⟨N,rfl⟩:∃q,N=q+2:=⟨N-2,by omega⟩
 have sl:=hu.slen
 have st:=fun J=>ht2.slen (J:=J)
 have rd:=fun J=>xF ht2 J (E:=E)
 have k1:∀R,Pm E D (AZ E D) (bG E D (AZ E D)) R p 0 u tv (AA 1) (AA 0) Z=R p 0 w tv (AA 1) (AA 1) Z1:=by
  intro R
  unfold Pm
  have ek:=xe c no c no
  simp -implicitDefEqProofs only [↓rP,rA,AI,AP,AH,↓rd,↓g1,↓sl,↓ek,Ca,decide_true,DN (show 0+1<=9223372036854775807 by omega),show decide (0<1)=true from rfl]
 have k2:∀R,Pm E D (AZ E D) (bG E D (AZ E D)) R p 0 w tv (AA 1) (AA 1) Z1=some (w,Z1):=by
  intro R
  unfold Pm
  simp -implicitDefEqProofs only [↓rP,rA,AI,AP,AH,show decide (1<1)=false from rfl]
  rfl
 show Tf E D (AZ E D) (dJ E D (AZ E D) (N+2) (N+2)) p 0 tv u Z=_
 have k0:∀K,Tf E D (AZ E D) K p 0 tv u Z=K p 0 u tv (AA 1) (AA 0) Z:=by
  intro K
  unfold Tf
  simp -implicitDefEqProofs only [↓rP,rA,AI,AP,AH,↓st]
 rw[k0]
 exact(k1 _).trans (k2 _)
theorem T2.nil (Z0 Z:H):T2 Z0 Z .nils []:=⟨[],JK.nil Z 1,fun _ h=>h.elim,fun i e h=>by simp at h⟩
theorem T2.one {Z0 Z:H} {v:V} {EL:List (List Nat)} (h:T2 Z0 Z v EL):v.one=true:=by obtain⟨_,h,_⟩:=h;exact h.one
theorem T2.fr {Z0 Z Z':H} {v:V} {EL:List (List Nat)} (h:T2 Z0 Z v EL) (f0:Fr AN Z0 Z) (f:Fr AN Z Z'):T2 Z0 Z' v EL:=by
 obtain⟨pvs,h1,h2,h3⟩:=h
 exact⟨pvs,h1.fr f f0.tidy (fun _ _ h=>h),h2,fun i e hi=>by
  obtain⟨u,a,b,c⟩:=h3 i e hi
  exact⟨u,a,b.fr0 f f0.tidy,c⟩⟩
theorem T2.app {Z0 Z:H} {v u:V} {EL:List (List Nat)} {e:List Nat} {xb:Nat} (h:T2 Z0 Z v EL) (f0:Fr AN Z0 Z) (hu:Oc Z u e) (hun:∀b,BK u b->b<Z0.next) (hx:CU Z xb [u]) (hn:EL.length<=10000) :
  ∃v' Z',(∀J:V->H->AG,DI E 1 24 v (.sl xb 0 1 (.ex 1)) Z J=J v' Z')/\T2 Z0 Z' v' (EL++[e])/\Fr AN Z0 Z'/\Fr (BK v) Z Z':=by
 obtain⟨pvs,h1,h2,h3⟩:=h
 obtain⟨Z',g,a,n,f⟩:=TV (E:=E) (bytes:=24) (n:=1) h1 f0.tidy (x := .sl xb 0 1 (.ex 1)) (m:=[u]) (.inr ⟨xb,0,_,[u],rfl,hx,by simp,rfl⟩) (by decide) (by simp[allOne,hu.one]) (by
  unfold CT
  simp only[AF,A1];omega)
 have hlen:=h1.length
 have keep:∀w m,Oc Z w m->(∀b,BK w b->b<Z0.next)->Oc Z' w m:=fun w m hw hn=>hw.fr f f0.tidy fun b hb hv=>by
  have:=hn b hb;have:=h2 b hv;omega
 refine⟨_,Z',g,⟨pvs++[u],?_,fun b hb=>by cases hb;exact f0.le,fun i e' hi=>?_⟩,f0.trans f (fun b hb hn=>by have:=h2 b hn;omega),f⟩
 ·rw[AW]
  exact .inl (.inr ⟨Z.next,rfl,a,by simp,by simp;omega⟩)
 ·by_cases hl:i<EL.length
  ·rw[Ce hl]at hi
   obtain⟨w,w1,w2,w3⟩:=h3 i e' hi
   exact⟨w,by rw[Ce (by omega)];exact w1,keep w _ w2 w3,w3⟩
  ·have hlt:=(BL.1 hi).1
   rw[AW]at hlt
   simp only[Av,List.length_nil]at hlt
   have hi':i=EL.length:=by omega
   subst hi'
   rw[Bd (AQ _)]at hi
   simp at hi
   subst hi
   exact⟨u,by rw[Bd (by omega)];simp[hlen],keep u _ hu hun,hun⟩
theorem Wp {Z0 Z : H} {p : Nat} {u d : V} {e r : List Nat} {EL : List (List Nat)} (f0 : Fr AN Z0 Z) (hu : Oc Z u (e ++ r)) (hun : ∀ b, BK u b → b < Z0.next) (he : 0 < e.length) (hd : T2 Z0 Z d EL) (hn : EL.length ≤ 10000) :
  ∃ ev z d' Z', AZ E D P8 Tt [(0, .ptr p 0), (1, u), (5, d), (9, .int .i64 (AA e.length))] Z = some (ev, Z') ∧ Go.Og.look ev 0 = some (.ptr p 0) ∧ Go.Og.look ev 1 = some z ∧ Go.Og.look ev 5 = some d' ∧
   T2 Z0 Z' d' (EL ++ [e]) ∧ Oc Z' z r ∧ (∀ b, BK z b → b < Z0.next) ∧ Fr AN Z0 Z' := by
 have ht := f0.tidy
 have len : (e ++ r).length = e.length + r.length := AW
 obtain ⟨z1, g1, o1, n1⟩ := hu.to (k := e.length) (by omega) (by omega)
 obtain ⟨z2, g2, o2, n2⟩ := hu.from (k := e.length) (by omega) (by omega)
 rw [List.take_left] at o1
 rw [List.drop_left] at o2
 obtain ⟨fb, ab⟩ := p5 ht (n := 11) (i := 4) (by decide) [z1]
 obtain ⟨d', Z', g, hd', f0', f'⟩ := (hd.fr f0 fb).app (E := E) (f0.trans fb (fun _ _ h => h)) (o1.fr0 fb ht) (fun b hb => hun b (n1 b hb)) ab hn
 have uo := hu.one
 have o1o := o1.one
 have o2o := o2.one
 have do_ := hd.one
 have nd : ∀ b, BK d b → Z0.next ≤ b := by obtain ⟨_, _, h, _⟩ := hd; exact h
 have ndlt : ∀ b, BK d b → b < Z.next := fun b hb => by obtain ⟨_, h, _, _⟩ := hd; exact h.lt ht hb
 have go : Fz E D Z 11 0 (BK d) P8 Tt ⟨[(0, .ptr p 0), (1, u), (5, d), (9, .int .i64 (AA e.length))], Z.next + 11, [Z.bl], [], 0, []⟩ _ Z' :=
  DW d rfl (Fl rfl (CK do_)) <|
  DW u rfl (Fl rfl (CK uo)) <|
  DW (.int .i64 (AA e.length)) rfl rfl <|
  DW z1 rfl (NU rfl g1) <|
  iH (.sl (Z.next + 4) 0 1 (.ex 1)) (.cells [z1]) 16 (Cu ht) rfl (by decide) rfl (q7 rfl o1o) fun _ r1 =>
  Qt d' r1 rfl (by decide) f' (fun _ _ h => h) (fun b h h1 _ => by have := ndlt b h; omega) (Rv rfl rfl g) fun _ _ _ r2 =>
  DW u rfl (Fl rfl (CK uo)) <|
  DW (.int .i64 (AA e.length)) rfl rfl <|
  DW z2 rfl (NU rfl g2) <|
  DW d' rfl (Fl rfl (CK hd'.one)) <|
  DW z2 rfl (Fl rfl (CK o2o)) <|
  KF r2
 obtain ⟨q1, q2⟩ := IT (ops := P8) go
 exact ⟨_, z2, d', Z', q1, rfl, rfl, rfl, hd', o2.fr q2 ht (fun b hb hn => by have := hun b (n2 b hb); have := nd b hn; omega), fun b hb => hun b (n2 b hb), f0'⟩
theorem gH (hT:Rz (D 57)):R7 N (wZ E D (AZ E D) N):=by
 intro Z0 p rest u EL ht hp hu hb hE hL hNl hn
 have loop:∀(R done:List (List Nat)) (n':Nat) (Z:H) (u d:V),done++R=EL->R.length<n'->Fr AN Z0 Z->Oc Z u R.flatten->(∀b,BK u b->b<Z0.next)->T2 Z0 Z d done ->
   ∃w Z',dI E D (AZ E D) N n' p 0 u d Z=some (w,Z')/\T2 Z0 Z' w EL/\Fr AN Z0 Z':=by
  intro R
  induction R with
  | nil=>
   intro done n' Z u d he hn' f hu hun hd
   obtain⟨n',rfl⟩:∃q,n'=q+1:=⟨n'-1,by omega⟩
   rw[C6]at he
   refine⟨d,Z,?_,he ▸ hd,f⟩
   have sl:=hu.slen
   have key:∀R,Pk E D (AZ E D) (V2 E D (AZ E D)) R p 0 u d Z=some (d,Z):=by
    intro R
    unfold Pk V2
    simp -implicitDefEqProofs only [↓rP,rA,AI,AP,AH,↓sl,show decide (0<([]:List (List Nat)).flatten.length)=false from rfl]
   exact key _
  | cons e R ih=>
   intro done n' Z u d he hn' f hu hun hd
   obtain⟨n',rfl⟩:∃q,n'=q+1:=⟨n'-1,by omega⟩
   rw[Ec]at hu
   have hmem:e∈EL:=by rw[<-he];simp
   obtain⟨c,no,mk,body,h,hel⟩:=hE e hmem
   have hlen:EL.flatten.length=done.flatten.length+(e.length+R.flatten.length):=by rw[<-he,fm,Ec,AW,AW]
   have lapp:(e++R.flatten).length=e.length+R.flatten.length:=AW
   have bL:Kk (e++R.flatten):=fun c hc=>hb c (by rw[<-he,fm,Ec];exact List.mem_append_right _ hc)
   have he0:0<e.length:=by
    obtain⟨x,r,hx,_⟩:=hel.hd.c
    rw[hx];simp
   obtain⟨w,Z1,g1,_,_,f1⟩:=hT f.tidy hu bL hel.hd.app (by rw[lapp,hel.len];omega) (by omega)
   have g1:=g1
   rw[hel.len]at g1
   have f01:=f.trans f1 (fun _ _ h=>h)
   obtain⟨ev,z,d',Z2,q,y0,y1,y5,hd',oz,nz,f02⟩:=Wp (E:=E) (D:=D) (p:=p) f01 (hu.fr0 f1 f.tidy) hun he0 (hd.fr f f1) (by
    have:=congrArg List.length he
    rw[AW]at this;omega)
   obtain⟨w',Z',g',h1,h2⟩:=ih (done++[e]) n' Z2 z d' (by rw[<-he];simp) (by simp only[Av]at hn';omega) f02 oz nz hd'
   refine⟨w',Z',?_,h1,h2⟩
   rw[<-g']
   have sl:=hu.slen
   have hp':CU Z p (.bool false::rest):=f.at_ hp ht (fun h=>h)
   have lp:∀J:V->AG,BY E Z p 0 J=J (.bool false):=fun J=>Cm hp' rfl
   have gd:∀J:Bk->H->AG,Cp (AZ E D P8 Tt [(0,.ptr p 0),(1,u),(5,d),(9,.int .i64 (AA e.length))] Z1) J=J ev Z2:=fun J=>by rw[q];rfl
   have z0:∀J:V->AG,BR ev 0 J=J (.ptr p 0):=fun J=>Bg y0 rfl
   have z1:∀J:V->AG,BR ev 1 J=J z:=fun J=>Bg y1 (CK oz.one)
   have z5:∀J:V->AG,BR ev 5 J=J d':=fun J=>Bg y5 (CK hd'.one)
   have d1:decide (0<(e++R.flatten).length)=true:=decide_eq_true (by omega)
   have key:∀R,Pk E D (AZ E D) (V2 E D (AZ E D)) R p 0 u d Z=R p 0 z d' Z2:=by
    intro R
    unfold Pk
    simp -implicitDefEqProofs only [↓rP,rA,AI,AP,AH,↓sl,d1,↓lp,↓g1,Ca,decide_true,↓gd,↓z0,↓z1,↓z5]
   exact key _
 exact loop EL [] N Z0 u .nils rfl hNl (Fr.refl ht) hu (fun b hb=>hu.lt ht b hb) (T2.nil Z0 Z0)
end
theorem kj {w:V} {l:List V} (h:w.live=true):[w,.agg l].all V.live=true:=by rw[Bq,h];rfl
abbrev El:=List Nat × (Nat × Nat)
def SO (x:El):Prop:=Kk x.1/\x.1.length<=100000/\∃mk body h,kS x.1 x.2.1 x.2.2 mk body h
def ka (t:Nat):List V:=[.int .i64 (AA 2),.int .i64 (AA t)]
def sH (F:List V->H->AG):Prop:=∀{Z:H} {w:V} {t c no:Nat},BG Z->IH Z 2 1 w (ka t)->∃Z',F [w,.agg [.int .i64 (AA c),.int .i64 (AA no)]] Z=some (.bool (decide ((c,no)=(2,t))),Z')/\Fr AN Z Z'
def sG (F:List V->H->AG):Prop:=∀{Z:H} {w:V} {t c no:Nat},BG Z->IH Z 2 1 w (ka t)->∃Z' r,F [w,.agg [.int .i64 (AA c),.int .i64 (AA no)]] Z=some (.int .i64 r,Z')/\I7 (AA 0) r=decide ((c,no)=(2,t))/\Fr AN Z Z'
structure Bw (B W:List V->H->AG) (Pt:H->Prop) (Fa:List V) (j t:Nat):Prop where
 b:∀Z,BG Z->Pt Z->∃w Z',B [.agg Fa,.int .i64 (AA j)] Z=some (w,Z')/\IH Z' 2 1 w (ka t)/\Fr AN Z Z'
 w:∀Z,BG Z->Pt Z->∃Z',W [.agg Fa,.int .i64 (AA j)] Z=some (.bool false,Z')/\Fr AN Z Z'
structure lA (Fa:List V):Prop where
 ex:∃nm nv rv tv,Fa=[.str nm,nv,rv,tv]/\nv.one=true/\rv.one=true/\tv.one=true/\V.beq nv nv=true/\V.beq rv rv=true/\V.beq tv tv=true
def R6 (B W:List V->H->AG) (F:List V->H->AG):Prop:=∀{Pt:H->Prop} {Fa:List V} {Z:H} {p j t:Nat} {u:V} {x:El},(∀Z Z',BG Z->Fr AN Z Z'->Pt Z->Pt Z')->lA Fa->BG Z->CU Z p (.bool false::Fa)->Pt Z->Oc Z u x.1->SO x->Bw B W Pt Fa j t ->
 ∃Z',F [.ptr p 0,.int .i64 (AA j),u] Z=some (.bool (decide (x.2=(2,t))),Z')/\Fr AN Z Z'
section
variable {E:EB} {D:Al} {N:Nat}
theorem ADw (hN:3<N):sG (X5 E D (AZ E D) N):=by
 intro Z w t c no ht hw
 obtain⟨N,rfl⟩:∃q,N=q+3:=⟨N-3,by omega⟩
 obtain⟨Z1,e1,f1,a1,n1⟩:=MY ht [.int .i64 (AA c),.int .i64 (AA no)]
 have hw1:IH Z1 2 1 w (ka t):=hw.fr f1 ht (fun _ _ h=>h)
 have rd:=fun J=>xF hw1 J (E:=E)
 have sl:=fun J=>hw.slen (J:=J)
 have ek:=xe c no 2 t
 have ho:allOne (V.cells (.agg [.int .i64 (AA c),.int .i64 (AA no)]))=true:=rfl
 have k0:∀K,ME E D (AZ E D) K w (AA c) (AA no) Z=K w Z.next 0 (AA 1) (AA 0) Z1:=by
  intro K
  unfold ME
  simp -implicitDefEqProofs only [↓rP,rA,AI,AP,AH,ho,↓e1,↓sl]
 have k1:∀R,MD E D (AZ E D) (Rx E D (AZ E D)) R w Z.next 0 (AA 1) (AA 0) Z1=(match decide ((c,no)=(2,t))with | true=>some (.int .i64 (AA 0),Z1) | false=>R w Z.next 0 (AA 1) (AA 1) Z1):=by
  intro R
  unfold MD
  simp -implicitDefEqProofs only [↓rP,rA,AI,AP,AH,↓rd,↓Bo a1,↓ek,DN (show 0+1<=9223372036854775807 by omega),show decide (0<1)=true from rfl]
  cases decide ((c,no)=(2,t))<;>rfl
 have k2:∀R,MD E D (AZ E D) (Rx E D (AZ E D)) R w Z.next 0 (AA 1) (AA 1) Z1=some (.int .i64 (CG 0),Z1):=by
  intro R
  unfold MD Rx
  simp -implicitDefEqProofs only [↓rP,rA,AI,AP,AH,show decide (1<1)=false from rfl]
 cases hd:decide ((c,no)=(2,t))with
 | true=>
  refine⟨Z1,AA 0,?_,rfl,f1⟩
  show ME E D (AZ E D) (SM E D (AZ E D) (N+3) (N+3)) w (AA c) (AA no) Z=_
  rw[k0]
  refine(k1 _).trans ?_
  rw[hd]
 | false=>
  refine⟨Z1,CG 0,?_,rfl,f1⟩
  show ME E D (AZ E D) (SM E D (AZ E D) (N+3) (N+3)) w (AA c) (AA no) Z=_
  rw[k0]
  refine(k1 _).trans ?_
  rw[hd]
  exact k2 _
theorem ADx (hX:sG (D 118)):sH (F95 E D (AZ E D) N):=by
 intro Z w t c no ht hw
 obtain⟨Z1,e1,f1,a1,n1⟩:=MY ht [.int .i64 (AA c),.int .i64 (AA no)]
 obtain⟨Z2,r,g2,hr,f2⟩:=hX f1.tidy (hw.fr f1 ht (fun _ _ h=>h)) (c:=c) (no:=no)
 refine⟨Z2,?_,f1.trans f2 (fun _ _ h=>h)⟩
 rw[<-hr]
 show aj E D (AZ E D) w (AA c) (AA no) Z=_
 unfold aj
 have ho:allOne (V.cells (.agg [.int .i64 (AA c),.int .i64 (AA no)]))=true:=rfl
 simp -implicitDefEqProofs only [↓rP,rA,AI,AP,AH,ho,↓e1,↓Bo a1,↓g2]
theorem gC (hH:V9 (D 93)) (hC:sH (D 95)):R6 (D 96) (D 97) (F62 E D (AZ E D) N):=by
 intro Pt Fa Z p j t u x hPt h4 ht hp hP hu hx hB
 obtain⟨nm,nv,rv,tv,rfl,o1,o2,o3,q1,q2,q3⟩:=h4.ex
 obtain⟨hb,_,mk,body,h,he⟩:=hx
 obtain⟨Z1,g1,f1⟩:=hH ht hu hb he.hd
 obtain⟨Z2,e2,f2,a2,n2⟩:=MY f1.tidy [.int .i64 (AA 0),.int .i64 (AA 0)]
 obtain⟨Z3,g3,f3,a3,n3⟩:=GH (n:=2) (o:=0) (v := .agg [.int .i64 (AA x.2.1),.int .i64 (AA x.2.2)]) f2.tidy a2 rfl
 have a3:CU Z3 Z1.next [.int .i64 (AA x.2.1),.int .i64 (AA x.2.2)]:=a3
 have F3:Fr AN Z Z3:=(f1.trans f2 (fun _ _ h=>h)).trans f3 (fun b hb e=>by have:=f1.le;omega)
 have fw:Fr AN Z3 ⟨Z3.next+21,Z3.bl⟩:=(Cu (E:=E) (n:=21) (S:=AN) F3.tidy).fr
 have Fw:=F3.trans fw (fun _ _ h=>h)
 obtain⟨w,Z4,g4,s4,f4⟩:=hB.b _ fw.tidy (hPt _ _ ht Fw hP)
 obtain⟨Z5,g5,f5⟩:=hC f4.tidy s4 (c:=x.2.1) (no:=x.2.2)
 have F5:Fr AN Z Z5:=(Fw.trans f4 (fun _ _ h=>h)).trans f5 (fun _ _ h=>h)
 obtain⟨Z6,g6,f6⟩:=hB.w Z5 F5.tidy (hPt _ _ ht F5 hP)
 have F6:Fr AN Z Z6:=F5.trans f6 (fun _ _ h=>h)
 have hp3:CU Z3 p (.bool false::[.str nm,nv,rv,tv]):=F3.at_ hp ht (fun h=>h)
 have ab:V.beq (.agg [.str nm,nv,rv,tv]) (.agg [.str nm,nv,rv,tv])=true:=by simp[V.beq,KR,q1,q2,q3]
 have al:(V.agg [.str nm,nv,rv,tv]).live=true:=rfl
 obtain⟨ev,Z',d,y6,fe⟩:∃ev Z',AZ E D Ml P2 [(0,.ptr p 0),(1,.int .i64 (AA j)),(7,.ptr Z1.next 0),(11,.int .i64 (AA 0))] Z3=some (ev,Z')/\Go.Og.look ev 6=some (.bool (decide (x.2=(2,t))))/\Fr AN Z Z':=by
  cases hd:decide (x.2=(2,t))with
  | true=>
   have g5:D 95 [w,.agg [.int .i64 (AA x.2.1),.int .i64 (AA x.2.2)]] Z4=some (.bool true,Z5):=by rw[g5];exact congrArg (fun b=>some (V.bool b,Z5)) hd
   have go:Fz E D Z3 21 0 AN Ml P2 ⟨[(0,.ptr p 0),(1,.int .i64 (AA j)),(7,.ptr Z1.next 0),(11,.int .i64 (AA 0))],Z3.next+21,[Z3.bl],[],0,[]⟩ _ Z5:=
    DW (.int .i64 (AA 0)) rfl rfl <|
    DW (.bool true) rfl rfl <|
    DW (.bool true) rfl rfl <|
    GX (.ptr p 0) rfl rfl rfl <|
    GX (.ptr p 0) rfl rfl rfl <|
    GX (.ptr p 1) rfl rfl rfl <|
    TA (.agg [.str nm,nv,rv,tv]) (Cu F3.tidy) rfl rfl (HS (b:=p) (off:=1) (m:=4) rfl hp3 rfl rfl F3.tidy (fun h=>h) ab) fun _ r1=>
    GX (.int .i64 (AA j)) rfl rfl rfl <|
    TC w r1 rfl rfl (by decide) f4 (fun _ _ h=>h) (fun _ h _ _=>h) (FH (vs:=[.agg [.str nm,nv,rv,tv],.int .i64 (AA j)]) rfl rfl g4) fun _ _ _ r2=>
    TA (.agg [.int .i64 (AA x.2.1),.int .i64 (AA x.2.2)]) r2 rfl rfl (HS (b:=Z1.next) (off:=0) (m:=2) rfl a3 rfl rfl F3.tidy (fun h=>h) (Cv _ rfl)) fun _ r3=>
    TC (.bool true) r3 rfl rfl (by decide) f5 (fun _ _ h=>h) (fun _ h _ _=>h) (FH (vs:=[w,.agg [.int .i64 (AA x.2.1),.int .i64 (AA x.2.2)]]) rfl (kj (CK s4.one)) g5) fun _ _ _ r4=>
    GX (.bool true) rfl rfl rfl <|
    PR rfl <| PR rfl <| PR rfl <| PR rfl <| PR rfl <| PR rfl <|
    GX (.bool true) rfl rfl rfl <|
    DW (.bool true) rfl rfl <|
    DW (.bool true) rfl rfl <|
    KF r4
   obtain⟨q1,q2⟩:=IT (ops:=Ml) go
   exact⟨_,Z5,q1,rfl,F5⟩
  | false=>
   have g5:D 95 [w,.agg [.int .i64 (AA x.2.1),.int .i64 (AA x.2.2)]] Z4=some (.bool false,Z5):=by rw[g5];exact congrArg (fun b=>some (V.bool b,Z5)) hd
   have go:Fz E D Z3 21 0 AN Ml P2 ⟨[(0,.ptr p 0),(1,.int .i64 (AA j)),(7,.ptr Z1.next 0),(11,.int .i64 (AA 0))],Z3.next+21,[Z3.bl],[],0,[]⟩ _ Z6:=
    DW (.int .i64 (AA 0)) rfl rfl <|
    DW (.bool true) rfl rfl <|
    DW (.bool true) rfl rfl <|
    GX (.ptr p 0) rfl rfl rfl <|
    GX (.ptr p 0) rfl rfl rfl <|
    GX (.ptr p 1) rfl rfl rfl <|
    TA (.agg [.str nm,nv,rv,tv]) (Cu F3.tidy) rfl rfl (HS (b:=p) (off:=1) (m:=4) rfl hp3 rfl rfl F3.tidy (fun h=>h) ab) fun _ r1=>
    GX (.int .i64 (AA j)) rfl rfl rfl <|
    TC w r1 rfl rfl (by decide) f4 (fun _ _ h=>h) (fun _ h _ _=>h) (FH (vs:=[.agg [.str nm,nv,rv,tv],.int .i64 (AA j)]) rfl rfl g4) fun _ _ _ r2=>
    TA (.agg [.int .i64 (AA x.2.1),.int .i64 (AA x.2.2)]) r2 rfl rfl (HS (b:=Z1.next) (off:=0) (m:=2) rfl a3 rfl rfl F3.tidy (fun h=>h) (Cv _ rfl)) fun _ r3=>
    TC (.bool false) r3 rfl rfl (by decide) f5 (fun _ _ h=>h) (fun _ h _ _=>h) (FH (vs:=[w,.agg [.int .i64 (AA x.2.1),.int .i64 (AA x.2.2)]]) rfl (kj (CK s4.one)) g5) fun _ _ _ r4=>
    GX (.bool false) rfl rfl rfl <|
    GX (.ptr p 0) rfl rfl rfl <|
    GX (.ptr p 0) rfl rfl rfl <|
    GX (.ptr p 1) rfl rfl rfl <|
    TA (.agg [.str nm,nv,rv,tv]) r4 rfl rfl (HS (b:=p) (off:=1) (m:=4) rfl hp3 rfl rfl F3.tidy (fun h=>h) ab) fun _ r5=>
    GX (.int .i64 (AA j)) rfl rfl rfl <|
    TC (.bool false) r5 rfl rfl (by decide) f6 (fun _ _ h=>h) (fun _ h _ _=>h) (FH (vs:=[.agg [.str nm,nv,rv,tv],.int .i64 (AA j)]) rfl rfl g6) fun _ _ _ r6=>
    GX (.bool false) rfl rfl rfl <|
    DW (.bool false) rfl rfl <|
    DW (.bool false) rfl rfl <|
    KF r6
   obtain⟨q1,q2⟩:=IT (ops:=Ml) go
   exact⟨_,Z6,q1,rfl,F6⟩
 refine⟨Z',?_,fe⟩
 have gd:∀J:Bk->H->AG,Cp (AZ E D Ml P2 [(0,.ptr p 0),(1,.int .i64 (AA j)),(7,.ptr Z1.next 0),(11,.int .i64 (AA 0))] Z3) J=J ev Z':=fun J=>by rw[d];rfl
 have z6:∀J:V->AG,BR ev 6 J=J (.bool (decide (x.2=(2,t)))):=fun J=>Bg y6 rfl
 show az E D (AZ E D) p 0 (AA j) u Z=_
 unfold az
 simp -implicitDefEqProofs only [↓rP,rA,AI,AP,AH,↓g1,↓e2,↓g3,↓gd,↓z6]
end
def eo (Z:H) (v:V) (EL:List (List Nat)):Prop:=∃pvs:List V,IH Z 1 EL.length v pvs/\∀(i:Nat) (e:List Nat),EL[i]? = some e->∃u,pvs[i]? = some u/\Oc Z u e
theorem eo.fr0 {Z Z':H} {v:V} {EL:List (List Nat)} (h:eo Z v EL) (f:Fr AN Z Z') (ht:BG Z):eo Z' v EL:=by
 obtain⟨pvs,h1,h3⟩:=h
 exact⟨pvs,h1.fr f ht (fun _ _ h=>h),fun i e hi=>by obtain⟨u,a,b⟩:=h3 i e hi;exact⟨u,a,b.fr0 f ht⟩⟩
theorem eo.one {Z:H} {v:V} {EL:List (List Nat)} (h:eo Z v EL):v.one=true:=by obtain⟨_,h,_⟩:=h;exact h.one
theorem eo.slen {Z:H} {v:V} {EL:List (List Nat)} (h:eo Z v EL) (J:Nat->AG):A0 v J=J EL.length:=by obtain⟨_,h,_⟩:=h;exact h.slen
theorem eo.get {E:EB} {Z:H} {v:V} {EL:List (List Nat)} (h:eo Z v EL) {i:Nat} {e:List Nat} (hi:EL[i]? = some e):∃u,(∀J:V->AG,Ab 1 v (AA i) (fun b o=>BY E Z b o J)=J u)/\Oc Z u e:=by
 obtain⟨pvs,h1,h3⟩:=h
 obtain⟨u,hu,ou⟩:=h3 i e hi
 have hlt:=(BL.1 hi).1
 refine⟨u,fun J=>?_,ou⟩
 rcases h1 with ⟨h0,_,_⟩|⟨q,o,cp,M,rfl,ha,hl,hm⟩
 ·omega
 ·rw[Dr hlt]
  show BY E Z q (o+i*1) J=_
  rw[CQ]
  refine Cm ha ?_
  rw[hm,EM (by omega),C5]at hu
  exact hu
def ko (t:Nat):List El->Nat->Option Nat
 | [],_=>none
 | x::r,i=>if x.2=(2,t)then some i else ko t r (i+1)
def oI:Option Nat->Int
 | some i=>AA i
 | none=>CG 0
theorem S6 {t:Nat}:∀{X:List El} {i k:Nat},ko t X i=some k->i<=k/\∃x,X[k-i]? = some x/\x.2=(2,t)
 | [],_,_,h=>by cases h
 | x::r,i,k,h=>by
  unfold ko at h
  split at h
  ·rename_i e
   cases h
   exact⟨AQ _,x,by rw[Gv];rfl,e⟩
  ·obtain⟨h1,y,h2,h3⟩:=S6 h
   refine⟨by omega,y,?_,h3⟩
   rw[show k-i=(k-(i+1))+1 by omega]
   exact h2
def Ti (N:Nat) (C F:List V->H->AG):Prop:=∀{Z:H} {v:V} {X:List El} {cb fq t:Nat},BG Z->eo Z v (X.map (·.1))->X.length<N->X.length<=10000 ->
 (∀(Z1:H) (u:V) (x:El),x∈X->Fr AN Z Z1->Oc Z1 u x.1->∃Z2,C [u,.ptr cb 0,.ptr fq 0] Z1=some (.bool (decide (x.2=(2,t))),Z2)/\Fr AN Z1 Z2) ->
 ∃Z',F [v,.fn 64 [] [.ptr cb 0,.ptr fq 0]] Z=some (.int .i64 (oI (ko t X 0)),Z')/\Fr AN Z Z'
section
variable {E:EB} {D:Al} {N:Nat}
theorem yB {B W:List V->H->AG} (hS:R6 B W (D 62)) {Pt:H->Prop} {Fa L:List V} {Z:H} {p cb fq j t:Nat} {u:V} {x:El} (hPt:∀Z Z',BG Z->Fr AN Z Z'->Pt Z->Pt Z') (h4:lA Fa) (ht:BG Z) (hp:CU Z p (.bool false::Fa)) (hP:Pt Z) (hu:Oc Z u x.1) (hx:SO x) (hB:Bw B W Pt Fa j t)
  (ac:CU Z cb [.ptr p 0]) (aq:CU Z fq L) (hj:L[1]? = some (.int .i64 (AA j))):∃Z',F64 E D (AZ E D) N [u,.ptr cb 0,.ptr fq 0] Z=some (.bool (decide (x.2=(2,t))),Z')/\Fr AN Z Z':=by
 obtain⟨Z1,g,f⟩:=hS hPt h4 ht hp hP hu hx hB
 refine⟨Z1,?_,f⟩
 have uo:=hu.one
 have l1:∀J:V->AG,BY E Z cb 0 J=J (.ptr p 0):=fun J=>Cm ac rfl
 have l2:∀J:V->AG,BY E Z fq (Ar 0 1) J=J (.int .i64 (AA j)):=fun J=>Cm aq hj
 show ay E D (AZ E D) u (.ptr cb 0) (.ptr fq 0) Z=_
 unfold ay
 simp -implicitDefEqProofs only [↓rP,rA,AI,AP,AH,↓l1,↓l2,↓g]
theorem xi:Ti N (D 64) (wW E D (AZ E D) N):=by
 intro Z v X cb fq t ht hv hN hn hC
 have loop:∀(R done:List El) (n':Nat) (Z1:H),done++R=X->R.length<n'->Fr AN Z Z1->∃Z',WZ E D (AZ E D) N n' v (.fn 64 [] [.ptr cb 0,.ptr fq 0]) (AA X.length) (AA done.length) Z1=some (.int .i64 (oI (ko t R done.length)),Z')/\Fr AN Z Z':=by
  intro R
  induction R with
  | nil=>
   intro done n' Z1 he hn' f
   obtain⟨n',rfl⟩:∃q,n'=q+1:=⟨n'-1,by omega⟩
   have hl:X.length=done.length:=by rw[<-he,C6]
   refine⟨Z1,?_,f⟩
   rw[hl]
   have d1:decide (done.length<done.length)=false:=decide_eq_false (Mv _)
   have key:∀R,Pf E D (AZ E D) (Vy E D (AZ E D)) R v (.fn 64 [] [.ptr cb 0,.ptr fq 0]) (AA done.length) (AA done.length) Z1=some (.int .i64 (CG 0),Z1):=by
    intro R
    unfold Pf Vy
    simp -implicitDefEqProofs only [↓rP,rA,AI,AP,AH,d1]
   exact key _
  | cons x R ih=>
   intro done n' Z1 he hn' f
   obtain⟨n',rfl⟩:∃q,n'=q+1:=⟨n'-1,by omega⟩
   have hl:X.length=done.length+(R.length+1):=by rw[<-he,AW,Av]
   have hx:X[done.length]? = some x:=by rw[<-he,Bd (AQ _),Gv];rfl
   obtain⟨u,g,ou⟩:=(hv.fr0 f ht).get (E:=E) (i:=done.length) (e:=x.1) (by rw[Bh,hx];rfl)
   obtain⟨Z2,g2,f2⟩:=hC Z1 u x (Cd hx) f ou
   have f02:=f.trans f2 (fun _ _ h=>h)
   have d1:decide (done.length<X.length)=true:=decide_eq_true (by omega)
   have cv:∀J:V->H->AG,GV D (.fn 64 [] [.ptr cb 0,.ptr fq 0]) [u] Z1 J=J (.bool (decide (x.2=(2,t)))) Z2:=fun J=>by
    show AV (D 64 ([]++[u]++[.ptr cb 0,.ptr fq 0]) Z1) J=_
    rw[show ([]++[u]++[V.ptr cb 0,V.ptr fq 0])=[u,.ptr cb 0,.ptr fq 0] from rfl,g2];rfl
   have uo:=ou.one
   have key:∀R',Pf E D (AZ E D) (Vy E D (AZ E D)) R' v (.fn 64 [] [.ptr cb 0,.ptr fq 0]) (AA X.length) (AA done.length) Z1=(match decide (x.2=(2,t))with | true=>some (.int .i64 (AA done.length),Z2) | false=>R' v (.fn 64 [] [.ptr cb 0,.ptr fq 0]) (AA X.length) (AA (done.length+1)) Z2):=by
    intro R'
    unfold Pf
    simp -implicitDefEqProofs only [↓rP,rA,AI,AP,AH,d1,↓g,↓cv,DN (show done.length+1<=9223372036854775807 by omega)]
    cases decide (x.2=(2,t))<;>rfl
   unfold ko
   cases hd:decide (x.2=(2,t))with
   | true=>
    refine⟨Z2,?_,f02⟩
    rw[if_pos (of_decide_eq_true hd)]
    refine(key _).trans ?_
    rw[hd];rfl
   | false=>
    rw[if_neg (of_decide_eq_false hd)]
    obtain⟨Z',g',f'⟩:=ih (done++[x]) n' Z2 (by rw[<-he];simp) (by simp only[Av]at hn';omega) f02
    rw[AW,JP]at g'
    refine⟨Z',?_,f'⟩
    refine(key _).trans ?_
    rw[hd]
    exact g'
 obtain⟨Z',g,f⟩:=loop X [] N Z rfl hN (Fr.refl ht)
 refine⟨Z',?_,f⟩
 have sl:=hv.slen
 rw[Bm]at sl
 have k0:∀K,Tb E D (AZ E D) K v (.fn 64 [] [.ptr cb 0,.ptr fq 0]) Z=K v (.fn 64 [] [.ptr cb 0,.ptr fq 0]) (AA X.length) (AA 0) Z:=by
  intro K
  unfold Tb
  simp -implicitDefEqProofs only [↓rP,rA,AI,AP,AH,↓sl]
 show Tb E D (AZ E D) (WZ E D (AZ E D) N N) v (.fn 64 [] [.ptr cb 0,.ptr fq 0]) Z=_
 rw[k0]
 exact g
end
def OE (C X:List V->H->AG):Prop:=∀{Z:H} {v:V} {n i:Nat} {pvs:List V},BG Z->IH Z 1 n v pvs->allOne pvs=true->i<n->n<=10000 ->
 ∃u Z1 w Z2,C [v] Z=some (u,Z1)/\u.one=true/\X [u,.int .i64 (AA i),.int .i64 (AA (i+1))] Z1=some (w,Z2)/\w.one=true/\IH Z2 1 (n-1) w (pvs.eraseIdx i)/\(∀b,BK w b->Z.next<=b)/\Fr AN Z Z2
theorem TY:∀{l:List V},(∀(k:Nat) (u:V),l[k]? = some u->u.one=true)->allOne l=true
 | [],_=>rfl
 | v::l,h=>by
  rw[Cj,h 0 v rfl,TY fun k u hk=>h (k+1) u hk];rfl
theorem qE {Z:H} {b:Nat} {l m:List V} (ht:BG Z) (h:CU Z b l):Fr (fun k=>k=b) Z (Z.set b (.cells m))/\CU (Z.set b (.cells m)) b m:=by
 have hb:=h.lt ht
 have hl:Go.Og.look Z.bl b=some (.cells l):=(Ap _ _).symm.trans h
 refine⟨⟨fun k hk=>?_,AQ _,fun k hk hn=>?_⟩,?_⟩
 ·have hk:Z.next<=k:=hk
  show BB (IL Z.bl b _) k=none
  rw[Ap,EH,if_neg (by omega),<-Ap]
  exact ht k hk
 ·show BB (IL Z.bl b _) k=_
  rw[Ap,EH,if_neg (fun e=>hn e.symm),Ap]
 ·show BB (IL Z.bl b _) b=_
  rw[Ap,EH,if_pos rfl,hl];rfl
section
variable {E:EB} {D:Al} {N:Nat}
theorem qQ:OE (F66 E D (AZ E D) N) UQ:=by
 intro Z v n i pvs ht h1 ho hi hn
 obtain⟨Z1,e1,f1,a1,n1⟩:=MY ht []
 have h2:=h1.fr f1 ht (fun _ _ h=>h)
 obtain⟨Z2,g2,a2,n2,f2⟩:=MB (E:=E) (esz:=1) (bytes:=24) (k:=0) (n:=n) (v := .sl Z.next 0 0 (.ex 0)) (l:=[]) (.inr ⟨_,rfl,a1,rfl⟩) f1.tidy (fun J=>h2.srcK) h2.cells (by omega) ho (by unfold CT;simp only[AF,A1];omega)
 rw[Dy]at a2
 rw[Bp]at g2
 have hl:pvs.length=n:=by rw[h1.length,CQ]
 have F2:Fr AN Z Z2:=f1.trans f2 (fun b hb e=>by cases e;omega)
 obtain⟨f3,a3⟩:=qE (m:=pvs.take i++pvs.drop (i+1)++AY 1 .nils) F2.tidy a2
 refine⟨.sl Z1.next 0 n (.op 1),Z2,.sl Z1.next 0 (n-1) (.op 1),Z2.set Z1.next (.cells (pvs.take i++pvs.drop (i+1)++AY 1 .nils)),?_,rfl,?_,rfl,?_,fun b hb=>by cases hb;exact f1.le,F2.trans f3 fun b hb e=>by omega⟩
 ·have ek:∀J:Bool->AG,YA .slice v .nils J=J false:=fun J=>by
   rcases h1 with ⟨h0,_,_⟩|⟨q,o,cp,M,rfl,_⟩
   ·omega
   ·rfl
  show ax E D (AZ E D) v Z=_
  unfold ax
  simp -implicitDefEqProofs only [↓rP,rA,AI,AP,AH,↓ek,↓e1,↓g2]
 ·show (match Go.Og.look Z2.bl Z1.next with
   | some (.cells l)=>if l.length=n/\i<=i+1/\i+1<=n then some (V.sl Z1.next 0 (n-(i+1-i)) (.op 1),Z2.set Z1.next (.cells (l.take i++l.drop (i+1)++AY (i+1-i) V.nils)))else none
   | _=>none)=_
  rw[show Go.Og.look Z2.bl Z1.next=some (.cells pvs)from(Ap _ _).symm.trans a2]
  simp only[]
  rw[if_pos ⟨hl,by omega,by omega⟩,show i+1-i=1 by omega]
 ·have pe:(pvs.take i++pvs.drop (i+1))=pvs.eraseIdx i:=(List.eraseIdx_eq_take_drop_succ pvs i).symm
  have pl:(pvs.eraseIdx i).length=n-1:=by rw[wI (by omega),hl]
  refine .inr ⟨Z1.next,0,.op 1,_,rfl,a3,by rw[pe,AW,pl];simp,?_⟩
  rw[pe,Cl,CQ,List.take_append_of_le_length (by omega),<-pl,DC]
end
theorem G8 {Z:H} (ht:BG Z) (z:List V):∃Z1,B6 Z (.cells z)=Z1/\Fr AN Z Z1/\CU Z1 Z.next z/\Z1.next=Z.next+1:=⟨_,rfl,Fr.new ht _,HN _,rfl⟩
theorem qV {Z:H} {b:Nat} {l:List V} (ht:BG Z) (h:CU Z b l) (z:List V):∃Z1,Qf Z b (.cells z)=Z1/\Fr (fun k=>k=b) Z Z1/\CU Z1 b z:=⟨_,rfl,Fr.set ht (h.lt ht) _,T0 _⟩
section
variable {E:EB} {Z Z1 Z2:H} {w:Nat} {u u1 u2:V} {L L1 L2:List Nat}
end
def vc (k n:Int) (b l:V) (r:Int) (m:V):List V:=[.int .i64 k,.int .i64 n,b,l,.int .i64 r,m]
def iS (u:Int) (k:Nat):Bool:=!B5 (HI .i64 u (AA k)) (AA 0)
def Yv (u k n:Int) (nb nl:Nat) (r:Int) (nm:Nat):Bool:=
 (((iS u 1 || B5 n (AA 0))&&(iS u 2 || B5 (AA nb) (AA 0)))&&(iS u 4 || B5 (AA nl) (AA 0)))&&(iS u 8 || (B5 r (AA 0)&&B5 (AA nm) (AA 0)))
def R8 (F:List V->H->AG):Prop:=∀(Z:H) (u k n r:Int) (b l m:V) (nb nl nm:Nat),BG Z->Tm b nb->Tm l nl->Tm m nm ->
 ∃Z',F [.agg (vc k n b l r m),.int .i64 u] Z=some (.bool (Yv u k n nb nl r nm),Z')/\Fr AN Z Z'
section
variable {E:EB} {D:Al} {W:AE} {N:Nat}
theorem gf:R8 (F99 E D W N):=by
 intro Z u k n r b l m nb nl nm ht hb hl hm
 obtain⟨Z1,e1,f1,a1,n1⟩:=G8 ht (vc k n b l r m)
 refine⟨Z1,?_,f1⟩
 unfold vc at *
 show ai E D W k n b l r m u Z=_
 unfold ai
 simp -implicitDefEqProofs only [Jg,L7,Xr,Cj,DM,Gg,K7,Ql,Y4,qS,gi,Wj,yC,W3,W4,qD,qC,qB,qA,gD,YI,JU,Sc,Wu,Wv,Wx,Wt,Sb,Ww,UB,YW,YV,UA,YQ,Mf,IU,Md,iD,Ns,VV,Nat.add_eq,Bp,Mw,SV,rC,hb.1,hl.1,hm.1,e1,Ez a1,Bo a1,hb.2,hl.2,hm.2]
 rfl
structure Ty where
 kind:Int
 tags:V
 has:Bool
 hasLow:Bool
 hasHigh:Bool
 conMore:Bool
 low:Int
 high:Int
 items:V
 fields:V
 root:Int
 more:Bool
 of_:Int
 oneT:tags.one=true
 oneI:items.one=true
 oneF:fields.one=true
def Ty.c (x:Ty):List V:=[.int .i64 x.kind,x.tags,.bool x.has,.bool x.hasLow,.bool x.hasHigh,.bool x.conMore,.int .i64 x.low,.int .i64 x.high,x.items,x.fields,.int .i64 x.root,.bool x.more,.int .i64 x.of_]
structure Fd where
 name:BS
 type:Int
 opt:Bool
 has:Bool
 d0:Int
 d1:Int
 d2:V
 d3:V
 d4:Int
 d5:V
 group:Int
 one2:d2.one=true
 one3:d3.one=true
 one5:d5.one=true
def Fd.c (x:Fd):List V:=[.str x.name,.int .i64 x.type,.bool x.opt,.bool x.has,.int .i64 x.d0,.int .i64 x.d1,x.d2,x.d3,.int .i64 x.d4,x.d5,.int .i64 x.group]
def Cel (L:List V) (esz k:Nat) (c:List V):Prop:=k*esz+esz<=L.length/\(L.drop (k*esz)).take esz=c
theorem Cel.sub {L:List V} {esz k:Nat} {c:List V} (h:Cel L esz k c) (J:List V->AG):GR L (0+k*esz) esz J=J c:=by
 rw[Bp,Kp h.1,h.2]
structure Jw (Z:H) (esz n:Nat) (v:V) (g:Nat->List V):Prop where
 is:(n=0/\v = .nils)\/∃b c L,v = .sl b 0 n c/\CU Z b L/\∀k,k<n->Cel L esz k (g k)
theorem Jw.len {Z:H} {esz n:Nat} {v:V} {g:Nat->List V} (h:Jw Z esz n v g):Tm v n:=by
 rcases h.is with ⟨rfl,rfl⟩|⟨b,c,L,rfl,_⟩
 ·exact Tm.nils
 ·exact Tm.sl
theorem Jw.fr {S:Nat->Prop} {Z Z':H} {esz n:Nat} {v:V} {g:Nat->List V} (h:Jw Z esz n v g) (f:Fr S Z Z') (ht:BG Z) (hS:∀b,BK v b->¬S b):Jw Z' esz n v g:=by
 rcases h.is with h|⟨b,c,L,rfl,ha,hc⟩
 ·exact⟨.inl h⟩
 ·exact⟨.inr ⟨b,c,L,rfl,f.at_ ha ht (hS b rfl),hc⟩⟩
theorem Jw.fr0 {Z Z':H} {esz n:Nat} {v:V} {g:Nat->List V} (h:Jw Z esz n v g) (f:Fr AN Z Z') (ht:BG Z):Jw Z' esz n v g:=h.fr f ht (fun _ _ h=>h)
theorem Jw.all {E:EB} {Z:H} {esz n:Nat} {v:V} {g:Nat->List V} (h:Jw Z esz n v g) {k:Nat} (hk:k<n) (J:List V->AG) :
  Ab esz v (AA k) (fun b o=>BV E Z b o esz J)=J (g k):=by
 rcases h.is with ⟨rfl,rfl⟩|⟨b,c,L,rfl,ha,hc⟩
 ·omega
 ·rw[Dr hk]
  show BV E Z b (0+k*esz) esz J=_
  rw[Bo ha,(hc k hk).sub]
end
structure Ck (Z:H) (p nT:Nat) (ty:Nat->Ty) (nm:BS) (nv rv tv:V) (rest:List V):Prop where
 at_:CU Z p ([.str nm,nv,rv,tv]++rest)
 n1:nv.one=true
 r1:rv.one=true
 t1:tv.one=true
 row:Jw Z 13 nT tv fun i=>(ty i).c
 apart:∀b,BK tv b->b≠p
section
variable {E:EB} {D:Al} {W:AE} {N:Nat} {Z Z':H} {p nT:Nat} {ty:Nat->Ty} {nm:BS} {nv rv tv:V} {rest:List V}
theorem Ck.fr (h:Ck Z p nT ty nm nv rv tv rest) (f:Fr AN Z Z') (ht:BG Z):Ck Z' p nT ty nm nv rv tv rest:=⟨f.at_ h.at_ ht (fun h=>h),h.n1,h.r1,h.t1,h.row.fr0 f ht,h.apart⟩
theorem Ck.types {E:EB} (h:Ck Z p nT ty nm nv rv tv rest) (J:V->AG):BY E Z p 3 J=J tv:=by
 rw[Ez h.at_];rfl
end
structure Vc where
 k:Int
 n:Int
 b:V
 l:V
 r:Int
 m:V
 oneB:b.one=true
 oneL:l.one=true
 oneM:m.one=true
def Vc.c (x:Vc):List V:=[.int .i64 x.k,.int .i64 x.n,x.b,x.l,.int .i64 x.r,x.m]
def Vc.int (n:Int):Vc:=⟨AA 2,n,.nils,.nils,AA 0,.nils,rfl,rfl,rfl⟩
def Vc.abs:Vc:=⟨AA 0,AA 0,.nils,.nils,AA 0,.nils,rfl,rfl,rfl⟩
section
variable {E:EB} {D:Al} {W:AE} {N:Nat} {Z Z':H} {p nT:Nat} {ty:Nat->Ty} {nm:BS} {nv rv tv:V} {rest:List V}
end
section
variable {E:EB} {D:Al} {W:AE} {N:Nat} {Z Z':H} {p nT:Nat} {ty:Nat->Ty} {nm:BS} {nv rv tv:V} {rest:List V}
end
section
variable {E:EB} {D:Al} {W:AE} {N:Nat} {nT:Nat} {ty:Nat->Ty} {nm:BS} {nv rv tv:V}
end
def Nd (x:Nat):Nat->List Nat
 | 0=>[]
 | n+1=>(x / 2 ^ (8*n)) % 256::Nd x n
theorem MX (x:Nat):∀n,(Nd x n).length=n
 | 0=>rfl
 | n+1=>by simp[Nd,MX x n]
theorem VK (x:Nat):∀n,∀c∈Nd x n,c<256
 | 0,c,h=>by cases h
 | n+1,c,h=>by
  rcases AS.1 h with rfl|h
  ·exact wF _ (by decide)
  ·exact VK x n c h
def YH (v:Int):Nat:=(v % 18446744073709551616).toNat
theorem G4 (v:Int):(YH v:Int)=v % 18446744073709551616:=Int.toNat_of_nonneg (Int.emod_nonneg _ (by decide))
theorem YG (v:Int):As .u64 v=AA (YH v):=by rw[NM];exact(G4 v).symm
theorem VL (v:Int):∀n:Nat,n<=8->Fe v n=nI (Nd (YH v) n)
 | 0,_=>rfl
 | n+1,h=>by
  show IZ v n::Fe v n=AA ((YH v / 2 ^ (8*n)) % 256)::nI (Nd (YH v) n)
  rw[VL v n (by omega),<-TS v (show n<8 by omega),YG]
  congr 1
  rw[U6 _ (by omega),QW]
  show (AA (YH v) / 2 ^ (8*n)) % 256=_
  have:((2 ^ (8*n):Nat):Int)=(2:Int) ^ (8*n):=by simp
  rw[<-this];rfl
def WY (F:List V->H->AG) (args:List V) (Z:H) (l:List Int):Prop:=∃u Z',F args Z=some (u,Z')/\Nb Z Z' u l/\Fr AN Z Z'
def xI (v:Int):List Int:=Fe v (DR v)
def sD (F:List V->H->AG):Prop:=∀(Z:H) (v:Int) (n:Nat),BG Z->n<=8->WY F [.int .u64 (As .u64 v),.int .i64 (AA n)] Z (Fe v n)
def OD (F:List V->H->AG):Prop:=∀{Z:H} {v:Int},D8 v->BG Z->WY F [.int .i64 v] Z (nI (Nd (YH v) (DR v)))
section
variable {E:EB} {D:Al} {W:AE} {N:Nat} {Z Z':H}
theorem ku (a b:Int):B5 a b=decide (a=b):=by rw[KK];rw[De];simp
theorem Y6 {v:Int} {n:Nat} (hn:n<=8) (hN:8<N) (ht:BG Z) :
  ∃u Z',vK E D W N [.int .u64 (As .u64 v),.int .i64 (AA n)] Z=some (u,Z')/\Nb Z Z' u (Fe v n)/\Fr AN Z Z':=by
 obtain⟨Z1,e1,f1,a1,n1⟩:=G8 ht (AY n [V.int .u8 (AA 0)]).flatten
 have hz:(AY n [V.int .u8 (AA 0)]).flatten=Iq (AY n (AA 0)):=by
  simp[Iq,List.flatten_replicate_singleton]
 have loop:∀(m n' i:Nat) (Z1:H),i+m=n->m<n'->Fr AN Z Z1->Z.next<Z1.next->CU Z1 Z.next (Iq ((Fe v n).take i++AY m (AA 0))) ->
   ∃Z',Tn E D W N n' (As .u64 v) (AA n) (.sl Z.next 0 n (.ex n)) (AA n) (AA i) Z1=some (.sl Z.next 0 n (.ex n),Z')/\CU Z' Z.next (Iq (Fe v n))/\Fr AN Z Z':=by
  intro m
  induction m with
  | zero=>
   intro n' i Z1 hi hn' f1 hx ha
   obtain⟨n',rfl⟩:∃k,n'=k+1:=⟨n'-1,by omega⟩
   refine⟨Z1,?_,?_,f1⟩
   ·show Pe E D W _ _ (As .u64 v) (AA n) (.sl Z.next 0 n (.ex n)) (AA n) (AA i) Z1=_
    unfold Pe
    rw[LA,decide_eq_false (by omega),Md];rfl
   ·rw[DB (by rw[Ex];omega)]at ha
    simpa using ha
  | succ m ih=>
   intro n' i Z1 hi hn' f1 hx ha
   obtain⟨n',rfl⟩:∃k,n'=k+1:=⟨n'-1,by omega⟩
   have hlt:i<n:=by omega
   obtain⟨Z2,e2,f2,a2⟩:=qV f1.tidy ha (HQ (Iq ((Fe v n).take i++AY (m+1) (AA 0))) i [.int .u8 (IZ v (n-1-i))])
   have hsp:HQ (Iq ((Fe v n).take i++AY (m+1) (AA 0))) i [.int .u8 (IZ v (n-1-i))]=Iq ((Fe v n).take (i+1)++AY m (AA 0)):=by
    have hl:((Fe v n).take i).length=i:=by rw[EE,Ex];omega
    have:=YO (Iq ((Fe v n).take i)) (.int .u8 (AA 0)) (Iq (AY m (AA 0))) (.int .u8 (IZ v (n-1-i)))
    rw[G3,hl]at this
    rw[QZ,Et,show Iq (AA 0::AY m (AA 0)) = .int .u8 (AA 0)::Iq (AY m (AA 0))from rfl,this]
    rw[List.take_add_one,PK v hlt]
    simp[Iq]
   rw[hsp]at e2 a2
   have f02:=f1.trans f2 (fun b hb h=>by have h:b=Z.next:=h;omega)
   obtain⟨Z3,g3,h3,f3⟩:=ih n' (i+1) Z2 (by omega) (by omega) f02 (by have:=f2.le;omega) a2
   refine⟨Z3,?_,h3,f3⟩
   have d1:decide (i<n)=true:=decide_eq_true hlt
   have en:Hr .i64 (AA 8) (D2 .i64 (D2 .i64 (AA n) (AA 1)) (AA i))=AA (8*(n-1-i)):=by
    rw[H0 (by omega) (by omega),H0 (by omega) (by omega)]
    exact B7 (k := .i64) (m:=8*(n-1-i)) (show 8*(n-1-i)<=9223372036854775807 by omega)
   have st:∀J:H->AG,FY 1 Z.next i (.int .u8 (IZ v (n-1-i))) Z1 J=J Z2:=fun J=>by
    rw[YL ha (by
     simp only[L7,Av,List.length_nil,G3,AW,EE,Ex,JQ,AF]
     refine⟨⟨rfl,?_⟩,rfl⟩
     rw[A1]
     show i+1<=_
     omega)]
    rw[L7,hsp,e2]
   have ia:∀J:Nat->Nat->AG,Ab 1 (.sl Z.next 0 n (.ex n)) (AA i) J=J Z.next i:=fun J=>by
    rw[Dr hlt]
    show J Z.next (0+i*1)=_
    rw[Bp,CQ]
   have key:∀K1 K2,Pe E D W K1 K2 (As .u64 v) (AA n) (.sl Z.next 0 n (.ex n)) (AA n) (AA i) Z1=K2 (As .u64 v) (AA n) (.sl Z.next 0 n (.ex n)) (AA n) (AA (i+1)) Z2:=by
    intro K1 K2
    unfold Pe
    rw[LA,d1,IU,en,HT,ia,TS v (by omega),st,DN (by omega)]
   exact(key _ _).trans g3
 rw[hz]at a1
 obtain⟨Z',g,a,f⟩:=loop n N 0 Z1 (by omega) (by omega) f1 (by omega) (by rw[wG,Dy];exact a1)
 refine⟨_,Z',?_,⟨.inr ⟨Z.next,by rw[Ex],a,by rw[G3];simp⟩,fun b hb=>by cases hb;exact AQ _⟩,f⟩
 show Vx E D W (Tn E D W N N) (As .u64 v) (AA n) Z=_
 unfold Vx
 rw[HT,HT,D7 (by simp only[AF,A1];refine⟨⟨AQ _,?_⟩,?_⟩<;>omega)]
 show Tn E D W N N _ _ _ _ _ (B6 Z (.cells _))=_
 rw[e1]
 exact g
theorem YR {v:Int} (hv:D8 v) (hO:∀(Z:H) (n:Nat),BG Z->n<=8->WY (D 94) [.int .u64 (As .u64 v),.int .i64 (AA n)] Z (Fe v n)) (hN:8<N) (ht:BG Z):WY (pS E D W N) [.int .i64 v] Z (xI v):=by
 have hr:=Eh v
 have loop:∀(m n' n:Nat),n+m=DR v->1<=n->m<n'->Wa E D W N n' v (AA n) Z=dg E D W N v (AA (DR v)) Z:=by
  intro m
  induction m with
  | zero=>
   intro n' n hn h1 hn'
   obtain⟨n',rfl⟩:∃k,n'=k+1:=⟨n'-1,by omega⟩
   have hn:n=DR v:=by omega
   subst hn
   have en:D2 .i64 (Hr .i64 (AA 8) (AA (DR v))) (AA 1)=AA (8*DR v-1):=by
    rw[show Hr .i64 (AA 8) (AA (DR v))=AA (8*DR v)from B7 (k := .i64) (m:=8*DR v) (show _<=9223372036854775807 by omega),H0 (by omega) (by omega)]
   have hw:=HU hv
   unfold D5 at hw
   show Pg E D W _ _ v (AA (DR v)) Z=_
   unfold Pg
   rw[en]
   simp -implicitDefEqProofs only [HT,Ns,Qc v (show 8*DR v-1<=64 by omega),LA,ku,show AA 0=(0:Int)from rfl,show CG 0=(-1:Int)from rfl]
   rw[PW]
   rw[BE]at hw
   rcases hw with h|h
   ·rw[h];simp
   ·rw[h];simp
  | succ m ih=>
   intro n' n hn h1 hn'
   obtain⟨n',rfl⟩:∃k,n'=k+1:=⟨n'-1,by omega⟩
   have en:D2 .i64 (Hr .i64 (AA 8) (AA n)) (AA 1)=AA (8*n-1):=by
    rw[show Hr .i64 (AA 8) (AA n)=AA (8*n)from B7 (k := .i64) (m:=8*n) (show _<=9223372036854775807 by omega),H0 (by omega) (by omega)]
   have hw:=PO v h1 (by omega)
   unfold D5 at hw
   rw[BP]at hw
   have key:∀K1 K2,Pg E D W K1 K2 v (AA n) Z=K2 v (AA (n+1)) Z:=by
    intro K1 K2
    unfold Pg
    rw[en]
    simp -implicitDefEqProofs only [HT,Ns,Qc v (show 8*n-1<=64 by omega),LA,ku,show AA 0=(0:Int)from rfl,show CG 0=(-1:Int)from rfl,hw.1,hw.2,show decide (n<8)=true from decide_eq_true (by omega),SV,Wj,IU]
    simp -implicitDefEqProofs only [VV,IU,show CM .i64 (AA n) (AA 1)=AA (n+1)from DN (by omega)]
   refine(key _ _).trans ?_
   exact ih n' (n+1) (by omega) (by omega) (by omega)
 obtain⟨u,Z',g,hu,f⟩:=hO Z (DR v) ht hr.2
 refine⟨u,Z',?_,hu,f⟩
 refine(show pS E D W N [.int .i64 v] Z=Wa E D W N N v (AA 1) Z from rfl).trans ?_
 rw[loop (DR v-1) N 1 (by omega) (AQ _) (by omega)]
 show bA E D W v (AA (DR v)) Z=_
 unfold bA
 simp -implicitDefEqProofs only [↓g,↓Mf,↓BQ hu.1.one]
theorem ADo (hN:8<N):sD (vK E D W N):=fun Z v n ht hn=>Y6 hn hN ht
theorem xH (hO:sD (D 94)) (hN:8<N):OD (pS E D W N):=by
 intro Z v hv ht
 have:=YR (E:=E) (W:=W) hv (fun Z n h1 h2=>hO Z v n h1 h2) hN ht
 unfold xI at this
 rwa [VL v _ (Eh v).2]at this
end
theorem gv {Z:H} (ht:BG Z) (z:List V):∃Z1,B6 Z (.cells z)=Z1/\Fr AN Z Z1/\CU Z1 Z.next z/\Z1.next=Z.next+1:=⟨_,rfl,Fr.new ht _,HN _,rfl⟩
structure sM (E:EB) (Z:H) (esz n:Nat) (x:V) (m:List V):Prop where
 k:∀J:Nat->List V->AG,srcK E Z esz x J=J n m
 c:CH E Z esz x=some (n,m)
 l:m.length=n*esz
 o:x.one=true
 s:∀J:Nat->AG,A0 x J=J n
 lt:∀b,BK x b->b<Z.next
theorem sM.of {E:EB} {Z:H} {esz n:Nat} {x:V} {m:List V} (h:IH Z esz n x m) (ht:BG Z):sM E Z esz n x m:=⟨fun J=>h.srcK,h.cells,h.length,h.one,fun J=>h.slen,fun b hb=>h.lt ht hb⟩
section
variable {E:EB} {Z Z':H} {l m:List V}
theorem Xv {esz bytes k:Nat} {v x:V} {J:V->H->AG} (h:JK Z esz k v l) (hx:sM E Z esz 0 x m):DI E esz bytes v x Z J=J v Z:=by
 unfold DI
 rw[hx.k]
 rcases h with (⟨rfl,rfl,rfl⟩|⟨b,rfl,ha,_,hl⟩)|⟨b,rfl,ha,hl⟩
 ·show AV (Cb E esz bytes .nils x Z) J=_
  unfold Cb;rw[hx.c];rfl
 ·rfl
 ·show AV (Cb E esz bytes (.sl b 0 k (.ex k)) x Z) J=_
  unfold Cb;rw[hx.c]
  simp only[]
  rw[if_pos (show Ag (k+0) k=true from GW (AQ _))]
  rfl
theorem Xu {esz bytes k n:Nat} {v x:V} (h:JK Z esz k v l) (ht:BG Z) (hx:sM E Z esz n x m) (hn:0<n) (ho:allOne m=true) (hg:CT (k+n) bytes=true) :
  ∃Z',(∀J:V->H->AG,DI E esz bytes v x Z J=J (.sl Z.next 0 (k+n) (.op esz)) Z')/\CU Z' Z.next (l++m)/\Z'.next=Z.next+1/\Fr (BK v) Z Z':=by
 obtain⟨n',rfl⟩:∃q,n=q+1:=⟨n-1,by omega⟩
 rcases h with (⟨rfl,rfl,rfl⟩|⟨b,rfl,ha,hk,hl⟩)|⟨b,rfl,ha,hl⟩
 ·refine⟨B6 Z (.cells m),fun J=>?_,by rw[Dy];exact HN m,rfl,Fr.new ht _⟩
  unfold DI
  rw[hx.k]
  show AV (Cb E esz bytes .nils x Z) J=_
  unfold Cb;rw[hx.c]
  simp only[]
  rw[Bp]at hg ⊢
  rw[if_neg (by omega),if_pos hg]
  rfl
 ·refine⟨⟨Z.next+1,(Z.next,.cells (l++m))::drop Z.bl b⟩,fun J=>?_,?_,rfl,?_⟩
  ·unfold DI
   rw[hx.k]
   show (match BB Z.bl b with
    | some (.cells l)=>Fx (AK l.length (k*esz)&&AK esz esz&&CT (k+(n'+1)) bytes&&allOne m) (Nw Z.bl b fun bl'=>J (.sl Z.next 0 (k+(n'+1)) (.op esz)) ⟨Z.next+1,(Z.next,.cells (l++m))::bl'⟩)
    | _=>none)=_
   rw[show BB Z.bl b=some (.cells l)from ha]
   simp only[]
   rw[D7 (by rw[hg,ho,hl];simp),Lz]
  ·show BB ((Z.next,Ea.cells (l++m))::_) _=_
   rw[BA,if_pos rfl]
  ·refine⟨fun k' hk'=>?_,DQ _,fun k' hk' hn=>?_⟩
   ·have hk2:Z.next+1<=k':=hk'
    show BB ((Z.next,_)::drop Z.bl b) k'=none
    rw[BA,if_neg (by simp only[];omega),IQ]
    split
    ·rfl
    ·exact ht k' (by omega)
   ·show BB ((Z.next,_)::drop Z.bl b) k'=_
    rw[BA,if_neg (by simp only[];omega),IQ,if_neg]
    intro hbk
    exact hn hbk.symm
 ·refine⟨B6 Z (.cells (l++m)),fun J=>?_,HN _,rfl,Fr.new ht _⟩
  unfold DI
  rw[hx.k]
  show AV (Cb E esz bytes (.sl b 0 k (.ex k)) x Z) J=_
  unfold Cb;rw[hx.c]
  simp only[]
  rw[if_neg (show ¬Ag (k+(n'+1)) k=true from fun h=>by rw[A1]at h;omega),if_pos hg]
  have hr:Ki E Z b 0 (k*esz)=some l:=by
   unfold Ki rd
   rw[<-Ap,show BB Z.bl b=some (.cells l)from ha]
   simp only[]
   rw[show Ag (0+k*esz) l.length=true from GW (by omega)]
   rw[Cl,<-hl,DC];rfl
  rw[hr]
  rfl
theorem aY {esz bytes k n:Nat} {v x:V} (h:JK Z esz k v l) (ht:BG Z) (hx:sM E Z esz n x m) (ho:allOne m=true) (hg:CT (k+n) bytes=true) :
  ∃u Z',(∀J:V->H->AG,DI E esz bytes v x Z J=J u Z')/\JK Z' esz (k+n) u (l++m)/\(∀b,BK u b->BK v b\/Z.next<=b)/\Fr (BK v) Z Z':=by
 cases n with
 | zero=>
  have hm:m=[]:=Bc (by rw[hx.l];omega)
  subst hm
  exact⟨v,Z,fun J=>Xv h hx,by rw[C6];exact h,fun b hb => .inl hb,Fr.refl ht⟩
 | succ n=>
  obtain⟨Z',g,a,nx,f⟩:=Xu h ht hx (Nat.succ_pos n) ho hg
  refine⟨_,Z',g,.inl (.inr ⟨Z.next,rfl,a,by omega,?_⟩),fun b hb => .inr (by cases hb;exact AQ _),f⟩
  rw[AW,h.length,hx.l,<-Oj]
end
def Bx (E:EB) (Z:H) (x:V) (l:List Int):Prop:=sM E Z 1 l.length x (Iq l)
section
variable {E:EB} {D:Al} {W:AE} {N:Nat} {Z Z0 Z1:H} {x v:V} {l m:List Int}
theorem Bx.of (h:By Z x l) (ht:BG Z):Bx E Z x l:=sM.of h ht
theorem Bx.fr (h:Bx E Z x l) (f:Fr AN Z Z1):Bx E Z1 x l:=by
 have rk:∀b,BK x b->∀J:List V->AG,Yb E Z1 b J=Yb E Z b J:=fun b hb J=>by
  unfold Yb
  rw[f.same b (h.lt b hb) (fun h=>h)]
 have rn:∀b o n,BK x b->Ki E Z1 b o n=Ki E Z b o n:=fun b o n hb=>by
  unfold Ki rd
  simp only[<-Ap]
  rw[f.same b (h.lt b hb) (fun h=>h)]
 refine⟨fun J=>?_,?_,h.l,h.o,h.s,fun b hb=>GA (h.lt b hb) f.le⟩
 ·rw[<-h.k J]
  cases x with
  | sl b o n c=>exact rk b rfl _
  | _=>rfl
 ·rw[<-h.c]
  cases x with
  | sl b o n c=>
   show (Ki E Z1 b o (n*1)).map _=(Ki E Z b o (n*1)).map _
   rw[rn b o _ rfl]
  | _=>rfl
theorem MC (h:Nb Z0 Z v l) (f0:Fr AN Z0 Z) (hx:Bx E Z x m) (hs:l.length+m.length<=10000000) :
  ∃u Z',(∀J:V->H->AG,DI E 1 1 v x Z J=J u Z')/\Nb Z0 Z' u (l++m)/\Fr AN Z0 Z'/\Fr (BK v) Z Z':=by
 obtain⟨u,Z',g,d,n,f⟩:=aY (bytes:=1) h.1 f0.tidy hx (Ko m) (by
  unfold CT
  simp only[CQ,AF,A1];omega)
 have hle:=f0.le
 refine⟨u,Z',g,⟨by rw[AW,QZ];exact d,fun b hb=>?_⟩,f0.trans f (fun b hb hn=>by have:=h.2 b hn;omega),f⟩
 rcases n b hb with h'|h'
 ·exact h.2 b h'
 ·omega
end
def OI (F:List V->H->AG) (args:List V) (Z:H) (l:List Int):Prop:=∃u Z',F args Z=some (u,Z')/\Nb Z Z' u l/\Fr AN Z Z'
theorem rF (k:IntKind) {x:Nat} (hb:7<=k.bits) (hx:x<2 ^ k.bits) (hw:∀m:Nat,m<=127->k.wrap m=AA m):HI k (AA x) (AA 127)=AA (x % 128):=by
 have h127:(127:Nat)<2 ^ k.bits:=GA (show 127<2 ^ 7 by decide) (X9 (by decide) hb)
 rw[Vt,BitVec.toNat_and,JV,JV,DA hx,DA h127,show (127:Nat)=2 ^ 7-1 from rfl,Nat.and_two_pow_sub_one_eq_mod]
 exact hw _ (by have:=wF x (show 0<2 ^ 7 by decide);omega)
theorem Pc {x:Nat} (hx:x<=18446744073709551615):HI .u64 (AA x) (AA 127)=AA (x % 128):=rF .u64 (by decide) (show x<2 ^ 64 by omega) fun m hm=>(DJ .u64 _).symm.trans (B7 (k := .u64) (show m<=18446744073709551615 by omega))
theorem Wm (x:Nat):As .u8 (AA x)=AA (x % 256):=by
 rw[QW];rfl
def XJ (k:Nat):List Int:=match decide (127<k)with
 | false=>[AA k]
 | true=>[K0 .u8 (AA (k / 128)) (AA 128),AA (k % 128)]
def KD (n:Nat):List Int:=match decide (255<n)with
 | false=>[AA n]
 | true=>[AA (n / 256),AA (n % 256)]
theorem S7 (k:Nat):(XJ k).length<=2:=by unfold XJ;split<;>simp
theorem S3 (n:Nat):1<=(KD n).length/\(KD n).length<=2:=by unfold KD;split<;>simp
def WA (F:List V->H->AG):Prop:=∀{Z:H} {k:Nat},BG Z->k<16384->OI F [.int .u64 (AA k)] Z (XJ k)
def jF (F:List V->H->AG):Prop:=∀{Z:H} {n:Nat},BG Z->n<65536->OI F [.int .u64 (AA n)] Z (KD n)
section
variable {E:EB} {D:Al} {W:AE} {N:Nat}
theorem ADk (k:Nat):Ge .u64 (AA k) 7=AA (k / 128):=U7 (k := .u64) (show 7<=64 by decide)
theorem ADj (k:Nat):Ge .u64 (AA k) 8=AA (k / 256):=U7 (k := .u64) (show 8<=64 by decide)
theorem VE {Z0 Z:H} {x:V} {l:List Int} (f0:Fr AN Z0 Z) (hx:Nb Z0 Z x l) (c:Int) (hl:l.length<=1000) :
  ∃Z1 u Z2,B6 Z (.cells [.int .u8 c])=Z1/\(∀J:V->H->AG,DI E 1 1 (.sl Z.next 0 1 (.ex 1)) x Z1 J=J u Z2)/\Nb Z0 Z2 u (c::l)/\Fr AN Z0 Z2:=by
 obtain⟨Z1,e1,f1,a1,n1⟩:=gv f0.tidy (Iq [c])
 have f01:=f0.trans f1 (fun _ _ h=>h)
 have x1:=Bx.of (E:=E) (hx.fr f1 f0.tidy).by_ f1.tidy
 obtain⟨u,Z2,g,h,f,_⟩:=MC (E:=E) (Nb.lit (Z0:=Z0) a1 f0.le) f01 x1 (by simp;omega)
 exact⟨Z1,u,Z2,e1,g,h,f⟩
theorem qK (hN:3<N):WA (wg E D W N):=by
 intro Z k ht hk
 obtain⟨N,rfl⟩:∃m,N=m+4:=⟨N-4,by omega⟩
 obtain⟨Z1,e1,f1,a1,n1⟩:=gv ht [.int .u8 (AA (k % 128))]
 have b1:Nb Z Z1 (.sl Z.next 0 1 (.ex 1)) [AA (k % 128)]:=Nb.lit (l:=[AA (k % 128)]) a1 (AQ _)
 have w1:As .u8 (AA (k % 128))=AA (k % 128):=B7 (k := .u8) (show k % 128<=255 by omega)
 have an:=Pc (x:=k) (by omega)
 have key0:∀K,V4 E D W K (AA k) Z=K (AA k) (.sl Z.next 0 1 (.ex 1)) Z1:=fun K=>by
  unfold V4
  simp -implicitDefEqProofs only [↓rP,rA,AI,AP,AH,an,w1,↓e1]
 have endd:∀(R:Int->V->H->AG) (j:Nat) (u:V) (Z':H),j<=127->Po E D W (bI E D W) R (AA j) u Z'=some (u,Z'):=fun R j u Z' hj=>by
  have d:decide (127<j)=false:=decide_eq_false (by omega)
  unfold Po bI
  simp -implicitDefEqProofs only [↓rP,rA,AI,AP,AH,d]
 cases hd:decide (127<k)with
 | false=>
  have hk':=of_decide_eq_false hd
  refine⟨.sl Z.next 0 1 (.ex 1),Z1,?_,?_,f1⟩
  ·exact(key0 _).trans (endd _ k _ _ (by omega))
  ·unfold XJ;rw[hd]
   rw[DA (by omega)]at b1;exact b1
 | true=>
  have hk':=of_decide_eq_true hd
  obtain⟨Z2,u,Z3,e2,g2,h2,f2⟩:=VE (E:=E) f1 b1 (K0 .u8 (AA (k / 128)) (AA 128)) (by simp)
  have an2:=Pc (x:=k / 128) (by omega)
  rw[DA (show k / 128<128 by omega)]at an2
  have w2:As .u8 (AA (k / 128))=AA (k / 128):=B7 (k := .u8) (show k / 128<=255 by omega)
  have step:∀K R,Po E D W K R (AA k) (.sl Z.next 0 1 (.ex 1)) Z1=R (AA (k / 128)) u Z3:=fun K R=>by
   unfold Po
   simp -implicitDefEqProofs only [↓rP,rA,AI,AP,AH,hd,ADk,an2,w2,↓e2,↓g2,↓BQ h2.1.one]
  refine⟨u,Z3,?_,?_,f2⟩
  ·exact(key0 _).trans ((step _ _).trans (endd _ (k / 128) _ _ (by omega)))
  ·unfold XJ;rw[hd];exact h2
theorem qJ (hN:3<N):jF (we E D W N):=by
 intro Z k ht hk
 obtain⟨N,rfl⟩:∃m,N=m+4:=⟨N-4,by omega⟩
 obtain⟨Z1,e1,f1,a1,n1⟩:=gv ht [.int .u8 (AA (k % 256))]
 have b1:Nb Z Z1 (.sl Z.next 0 1 (.ex 1)) [AA (k % 256)]:=Nb.lit (l:=[AA (k % 256)]) a1 (AQ _)
 have w1:=Wm k
 have key0:∀K,V3 E D W K (AA k) Z=K (AA k) (.sl Z.next 0 1 (.ex 1)) Z1:=fun K=>by
  unfold V3
  simp -implicitDefEqProofs only [↓rP,rA,AI,AP,AH,w1,↓e1]
 have endd:∀(R:Int->V->H->AG) (j:Nat) (u:V) (Z':H),j<=255->Pn E D W (bH E D W) R (AA j) u Z'=some (u,Z'):=fun R j u Z' hj=>by
  have d:decide (255<j)=false:=decide_eq_false (by omega)
  unfold Pn bH
  simp -implicitDefEqProofs only [↓rP,rA,AI,AP,AH,d]
 cases hd:decide (255<k)with
 | false=>
  have hk':=of_decide_eq_false hd
  refine⟨.sl Z.next 0 1 (.ex 1),Z1,?_,?_,f1⟩
  ·exact(key0 _).trans (endd _ k _ _ (by omega))
  ·unfold KD;rw[hd]
   rw[DA (by omega)]at b1;exact b1
 | true=>
  have hk':=of_decide_eq_true hd
  obtain⟨Z2,u,Z3,e2,g2,h2,f2⟩:=VE (E:=E) f1 b1 (AA (k / 256)) (by simp)
  have w2:As .u8 (AA (k / 256))=AA (k / 256):=B7 (k := .u8) (show k / 256<=255 by omega)
  have step:∀K R,Pn E D W K R (AA k) (.sl Z.next 0 1 (.ex 1)) Z1=R (AA (k / 256)) u Z3:=fun K R=>by
   unfold Pn
   simp -implicitDefEqProofs only [↓rP,rA,AI,AP,AH,hd,ADj,w2,↓e2,↓g2,↓BQ h2.1.one]
  refine⟨u,Z3,?_,?_,f2⟩
  ·exact(key0 _).trans ((step _ _).trans (endd _ (k / 256) _ _ (by omega)))
  ·unfold KD;rw[hd];exact h2
end
section
variable {E:EB} {D:Al} {W:AE} {N:Nat} {Z Z':H}
end
def Rt (c:Nat) (made:Bool):Nat:=(if c=0 then 0 else 128)+(if made=true then 32 else 0)
def T7 (c:Nat) (made:Bool) (k:Nat):List Int:=match decide (k<31)with
 | true=>[K0 .u8 (AA (Rt c made)) (AA k)]
 | false=>K0 .u8 (AA (Rt c made)) (AA 31)::XJ k
def iA (n:Nat):List Int:=match decide (n<128)with
 | true=>[AA n]
 | false=>K0 .u8 (AA 128) (AA (KD n).length)::KD n
def elI (c:Nat) (made:Bool) (k:Nat) (l:List Int):List Int:=(T7 c made k++iA l.length)++l
theorem SY (c:Nat) (made:Bool) (k:Nat):(T7 c made k).length<=3:=by
 have:=S7 k
 unfold T7;split
 ·simp
 ·rw[Av];omega
theorem hU (n:Nat):(iA n).length<=3:=by
 have:=(S3 n).2
 unfold iA;split
 ·simp
 ·rw[Av];omega
theorem mx0 (n:Nat):K9 (AA 0) (AA n)=AA n:=by
 unfold K9
 split
 ·rfl
 ·rename_i h
  have:n=0:=by
   have h:¬((0:Int)<(n:Int)):=h
   omega
  subst this;rfl
def sF (F:List V->H->AG):Prop:=∀{Z:H} {c k n:Nat} (made:Bool),BG Z->c=0\/c=2->k<16384->n<65536->OI F [.agg [.int .i64 (AA c),.int .i64 (AA k)],.bool made,.int .i64 (AA n)] Z (T7 c made k++iA n)
def Pv (E:EB) (F:List V->H->AG):Prop:=∀{Z:H} {c k:Nat} {x:V} {l:List Int} (made:Bool),BG Z->c=0\/c=2->k<16384->l.length<60000->Bx E Z x l->OI F [.agg [.int .i64 (AA c),.int .i64 (AA k)],.bool made,x] Z (elI c made k l)
section
variable {E:EB} {D:Al} {W:AE} {N:Nat} {Z0 Z Z':H}
theorem r_1 (hG:WA (D 31)) {q c k n:Nat} {made:Bool} (f0:Fr AN Z0 Z) (aq:CU Z q [.int .i64 (AA c),.int .i64 (AA k)]) (hk:k<16384) :
  ∃u Z2,(∀K,Pr E D W K (AA n) q 0 (AA (Rt c made)) Z=K (AA n) u Z2)/\Nb Z0 Z2 u (T7 c made k)/\Fr AN Z0 Z2:=by
 have ht:=f0.tidy
 unfold T7
 cases hd:decide (k<31)with
 | true=>
  have:=of_decide_eq_true hd
  obtain⟨Z2,e2,f2,a2,n2⟩:=gv ht (Iq [K0 .u8 (AA (Rt c made)) (AA k)])
  have e2':B6 Z (.cells [V.int .u8 (K0 .u8 (AA (Rt c made)) (AA k))])=Z2:=e2
  have w1:As .u8 (AA k)=AA k:=B7 (k := .u8) (show k<=255 by omega)
  refine⟨.sl Z.next 0 1 (.ex 1),Z2,fun K=>?_,Nb.lit a2 f0.le,f0.trans f2 (fun _ _ h=>h)⟩
  unfold Pr
  simp -implicitDefEqProofs only [↓rP,rA,AI,AP,AH,↓Ez aq,mx0,hd,w1,↓e2']
 | false=>
  obtain⟨Z2,e2,f2,a2,n2⟩:=gv ht (Iq [K0 .u8 (AA (Rt c made)) (AA 31)])
  have e2':B6 Z (.cells [V.int .u8 (K0 .u8 (AA (Rt c made)) (AA 31))])=Z2:=e2
  have w1:As .u64 (AA k)=AA k:=B7 (k := .u64) (show k<=18446744073709551615 by omega)
  have f02:=f0.trans f2 (fun _ _ h=>h)
  obtain⟨u3,Z3,g3,h3,f3⟩:=hG f2.tidy hk
  have f03:=f02.trans f3 (fun _ _ h=>h)
  have b2:Nb Z0 Z2 (.sl Z.next 0 1 (.ex 1)) [K0 .u8 (AA (Rt c made)) (AA 31)]:=Nb.lit a2 f0.le
  have:=S7 k
  obtain⟨u4,Z4,g4,h4,f4,_⟩:=MC (E:=E) (b2.fr f3 f2.tidy) f03 (Bx.of h3.by_ f3.tidy) (by simp;omega)
  refine⟨u4,Z4,fun K=>?_,h4,f4⟩
  unfold Pr
  simp -implicitDefEqProofs only [↓rP,rA,AI,AP,AH,↓Ez aq,mx0,hd,w1,↓e2',↓g3,↓BQ h3.1.one,↓g4,↓BQ h4.1.one]
theorem r_2 (hL:jF (D 32)) {n:Nat} {u:V} {A:List Int} (f0:Fr AN Z0 Z) (hu:Nb Z0 Z u A) (hA:A.length<=10) (hn:n<65536) :
  ∃u' Z2,Pq E D W (AA n) u Z=some (u',Z2)/\Nb Z0 Z2 u' (A++iA n)/\Fr AN Z0 Z2:=by
 have ht:=f0.tidy
 unfold iA
 cases hd:decide (n<128)with
 | true=>
  have:=of_decide_eq_true hd
  obtain⟨Z2,e2,f2,a2,n2⟩:=gv ht (Iq [AA n])
  have e2':B6 Z (.cells [V.int .u8 (AA n)])=Z2:=e2
  have w1:As .u8 (AA n)=AA n:=B7 (k := .u8) (show n<=255 by omega)
  have f02:=f0.trans f2 (fun _ _ h=>h)
  obtain⟨u4,Z4,g4,h4,f4,_⟩:=MC (E:=E) (hu.fr f2 ht) f02 (Bx.of (Nb.lit (Z0:=Z) (l:=[AA n]) a2 (AQ _)).by_ f2.tidy) (by simp;omega)
  refine⟨u4,Z4,?_,h4,f4⟩
  have g4:∀J:V->H->AG,DI E 1 1 u (.sl Z.next 0 1 (.ex 1)) Z2 J=J u4 Z4:=g4
  unfold Pq
  simp -implicitDefEqProofs only [↓rP,rA,AI,AP,AH,mx0,hd,w1,↓e2',↓g4,↓BQ h4.1.one]
 | false=>
  have w1:As .u64 (AA n)=AA n:=B7 (k := .u64) (show n<=18446744073709551615 by omega)
  obtain⟨u3,Z3,g3,h3,f3⟩:=hL ht hn
  have f03:=f0.trans f3 (fun _ _ h=>h)
  have ll:=S3 n
  have w2:As .u8 (AA (KD n).length)=AA (KD n).length:=B7 (k := .u8) (show (KD n).length<=255 by omega)
  obtain⟨Z4,e4,f4,a4,n4⟩:=gv f3.tidy (Iq [K0 .u8 (AA 128) (AA (KD n).length)])
  have e4':B6 Z3 (.cells [V.int .u8 (K0 .u8 (AA 128) (AA (KD n).length))])=Z4:=e4
  have f04:=f03.trans f4 (fun _ _ h=>h)
  have hu4:=(hu.fr f3 ht).fr f4 f3.tidy
  obtain⟨u5,Z5,g5,h5,f5,f5'⟩:=MC (E:=E) hu4 f04 (Bx.of (Nb.lit (Z0:=Z3) (l:=[K0 .u8 (AA 128) (AA (KD n).length)]) a4 (AQ _)).by_ f4.tidy) (by simp;omega)
  have g5:∀J:V->H->AG,DI E 1 1 u (.sl Z3.next 0 1 (.ex 1)) Z4 J=J u5 Z5:=g5
  have b3:By Z5 u3 (KD n):=IH.fr (h3.fr f4 f3.tidy).by_ f5' f4.tidy (fun b hb e=>by have:=h3.2 b hb;have:=hu.1.lt ht e;omega)
  obtain⟨u6,Z6,g6,h6,f6,_⟩:=MC (E:=E) h5 f5 (Bx.of b3 f5.tidy) (by simp;omega)
  have sl:=h3.by_.slen
  refine⟨u6,Z6,?_,?_,f6⟩
  ·unfold Pq
   simp -implicitDefEqProofs only [↓rP,rA,AI,AP,AH,mx0,hd,w1,↓g3,↓BQ h3.1.one,↓sl,w2,↓e4',↓g5,↓BQ h5.1.one,↓g6,↓BQ h6.1.one]
  ·rw[SU]at h6;exact h6
theorem gR (hG:WA (D 31)) (hL:jF (D 32)):sF (fj E D W N):=by
 intro Z c k n made ht hc hk hn
 obtain⟨Z1,e1,f1,a1,n1⟩:=gv ht [.int .i64 (AA c),.int .i64 (AA k)]
 obtain⟨u2,Z2,g2,h2,f2⟩:=r_1 (E:=E) (W:=W) (n:=n) (c:=c) (made:=made) hG f1 a1 hk
 have tl:=SY c made k
 obtain⟨u3,Z3,g3,h3,f3⟩:=r_2 (E:=E) (W:=W) hL f2 h2 (by omega) hn
 refine⟨u3,Z3,?_,h3,f3⟩
 have tail:Pr E D W (Pq E D W) (AA n) Z.next 0 (AA (Rt c made)) Z1=some (u3,Z3):=(g2 _).trans g3
 show bY E D W (Pr E D W (Pq E D W)) (AA c) (AA k) made (AA n) Z=_
 unfold bY
 simp -implicitDefEqProofs only [↓rP,rS,↓e1,↓Ez a1]
 rcases hc with rfl|rfl<;>cases made
 ·exact tail
 ·exact tail
 ·exact tail
 ·exact tail
theorem gV (hH:sF (D 14)):Pv E (F8 E D W N):=by
 intro Z c k x l made ht hc hk hl hx
 obtain⟨Z1,e1,f1,a1,n1⟩:=gv ht [.int .i64 (AA c),.int .i64 (AA k)]
 obtain⟨u2,Z2,g2,h2,f2⟩:=hH (Z:=Z1) (n:=l.length) made f1.tidy hc hk (by omega)
 have f02:=f1.trans f2 (fun _ _ h=>h)
 have tl:=SY c made k
 have ll:=hU l.length
 have h2':Nb Z Z2 u2 (T7 c made k++iA l.length):=h2.mono f1.le
 obtain⟨u3,Z3,g3,h3,f3,_⟩:=MC (E:=E) h2' f02 (hx.fr f02) (by rw[AW];omega)
 refine⟨u3,Z3,?_,h3,f3⟩
 have hs:=hx.s
 show rH E D W (AA c) (AA k) made x Z=_
 unfold rH
 simp -implicitDefEqProofs only [↓rP,rS,↓e1,↓Bo a1,↓hs,↓g2,↓g3,↓BQ h2.1.one,↓BQ h3.1.one]
end
section
variable {E:EB} {D:Al} {W:AE} {N:Nat} {Z0 Z Z':H}
end
def tgC (l:List (Nat × Nat)):List V:=l.flatMap fun t=>[.int .i64 (AA t.1),.int .i64 (AA t.2)]
section
variable {Z Z':H} {l:List (Nat × Nat)} {v:V}
end
section
variable {E:EB} {D:Al} {W:AE} {N:Nat}
end
section
variable {E:EB} {D:Al} {W:AE} {N:Nat} {Z Z':H}
end
inductive Lf (E:EB) (Z:H):Vc->List Int->Prop
 | b1:Lf E Z ⟨AA 1,AA 1,.nils,.nils,AA 0,.nils,rfl,rfl,rfl⟩ [AA 255]
 | b0:Lf E Z ⟨AA 1,AA 0,.nils,.nils,AA 0,.nils,rfl,rfl,rfl⟩ [AA 0]
 | int {n:Int} (h:D8 n):Lf E Z (Vc.int n) (nI (Nd (YH n) (DR n)))
 | oct {b:V} {hb:b.one=true} {x:List Int} (h:Bx E Z b x) (hl:x.length<=40000):Lf E Z ⟨AA 5,AA 0,b,.nils,AA 0,.nils,hb,rfl,rfl⟩ x
 | nul:Lf E Z ⟨AA 4,AA 0,.nils,.nils,AA 0,.nils,rfl,rfl,rfl⟩ []
theorem gn (E:EB) (Z:H):Bx E Z .nils []:=⟨fun _=>rfl,rfl,rfl,rfl,fun _=>rfl,fun _ h=>h.elim⟩
section
variable {E:EB} {D:Al} {N:Nat}
end
section
variable {E:EB} {D:Al} {W:AE} {N:Nat} {Z:H}
end
section
variable {E:EB} {D:Al} {W:AE} {N:Nat} {Z:H} {n p nT:Nat} {ty:Nat->Ty} {nm:BS} {nv rv tv:V} {rest:List V}
end
section
variable {E:EB} {D:Al} {W:AE} {N:Nat} {nT:Nat} {ty:Nat->Ty} {nm:BS} {nv rv tv:V}
end
def sN (v:Int):List Nat:=Nd (YH v) (DR v)
theorem NW (v:Int):(sN v).length=DR v:=MX _ _
theorem qG (v:Int):Kk (sN v):=VK _ _
def Va (a:Nat):List Nat->Nat
 | []=>a
 | c::r=>Va (a*256+c) r
theorem aW:∀(L:List Nat) (a k:Nat),Kk L->a<256 ^ k->Va a L<256 ^ (k+L.length)
 | [],a,k,_,h=>h
 | c::r,a,k,hb,h=>by
  have hc:=hb c Aq
  have:=aW r (a*256+c) (k+1) (fun x hx=>hb x (CE _ hx)) (by rw[Nat.pow_succ];omega)
  show Va (a*256+c) r<_
  rw[Av,show k+(r.length+1)=k+1+r.length by omega];exact this
theorem TU (x:Nat):∀(n a:Nat),Va a (Nd x n)=a*2 ^ (8*n)+x % 2 ^ (8*n)
 | 0,a=>by show a=_;simp[Nat.mod_one]
 | n+1,a=>by
  show Va (a*256+(x / 2 ^ (8*n)) % 256) (Nd x n)=_
  rw[TU x n]
  have e:2 ^ (8*(n+1))=2 ^ (8*n)*256:=by rw[show 8*(n+1)=8*n+8 by omega,Nat.pow_add]
  rw[e,Nat.mod_mul,Oj,Nat.mul_assoc,Nat.mul_comm 256]
  rw[Nat.mul_comm (x / 2 ^ (8*n) % 256)];omega
theorem T6 (n:Int):As .i64 n=(n+9223372036854775808) % 18446744073709551616-9223372036854775808:=by
 rw[DJ]
 unfold IntKind.wrap
 simp only[show (2:Int) ^ IntKind.bits .i64=18446744073709551616 from rfl,show (2:Int) ^ (IntKind.bits .i64-1)=9223372036854775808 from rfl,show IntKind.signed .i64=true from rfl,FW]
 split
 ·rename_i h
  have h:=of_decide_eq_true h
  omega
 ·rename_i h
  have h:¬_:=fun e=>h (decide_eq_true e)
  omega
def Wn (k x:Nat):Int:=match decide (0<64-8*k)with
 | true=>Ge .i64 (Kt .i64 (As .i64 (AA x)) (64-8*k)) (64-8*k)
 | false=>As .i64 (AA x)
theorem p6 {k x:Nat} (h1:1<=k) (h8:k<=8) (hx:x<256 ^ k):D8 (Wn k x)/\∀n,D8 n->D5 n k=true->(x:Int)=(YH n:Int) % 2 ^ (8*k)->Wn k x=n:=by
 have hc:k=1\/k=2\/k=3\/k=4\/k=5\/k=6\/k=7\/k=8:=by omega
 have e:AA x=(x:Int):=rfl
 have P:∀q:Nat,q<=64->Wn k x=(As .i64 ((As .i64 (x:Int))*2 ^ q)) / 2 ^ q->True:=fun _ _ _=>trivial
 unfold D8
 have key:∀q:Nat,0<q->q<=64->64-8*k=q->Wn k x=(As .i64 ((As .i64 (x:Int))*2 ^ q)) / 2 ^ q:=fun q h0 hq hk=>by
  unfold Wn
  rw[hk,decide_eq_true h0]
  show Ge .i64 (Kt .i64 (As .i64 (AA x)) q) q=_
  rw[Qc _ hq,Qe,show Dk q (IntKind.bits .i64)=q from Ip hq,<-DJ]
  rfl
 have key8:k=8->Wn k x=As .i64 (x:Int):=fun hk=>by unfold Wn;rw[hk];rfl
 unfold D5
 simp only[BE,decide_eq_true_eq]
 rcases hc with rfl|rfl|rfl|rfl|rfl|rfl|rfl|rfl
 ·rw[key 56 (by decide) (by decide) rfl,T6,T6]
  refine⟨by omega,fun n hn h1 h2=>?_⟩
  have:=G4 n
  simp only[EK,EJ,EN]at *
  omega
 ·rw[key 48 (by decide) (by decide) rfl,T6,T6]
  refine⟨by omega,fun n hn h1 h2=>?_⟩
  have:=G4 n
  simp only[EK,EJ,EN]at *
  omega
 ·rw[key 40 (by decide) (by decide) rfl,T6,T6]
  refine⟨by omega,fun n hn h1 h2=>?_⟩
  have:=G4 n
  simp only[EK,EJ,EN]at *
  omega
 ·rw[key 32 (by decide) (by decide) rfl,T6,T6]
  refine⟨by omega,fun n hn h1 h2=>?_⟩
  have:=G4 n
  simp only[EK,EJ,EN]at *
  omega
 ·rw[key 24 (by decide) (by decide) rfl,T6,T6]
  refine⟨by omega,fun n hn h1 h2=>?_⟩
  have:=G4 n
  simp only[EK,EJ,EN]at *
  omega
 ·rw[key 16 (by decide) (by decide) rfl,T6,T6]
  refine⟨by omega,fun n hn h1 h2=>?_⟩
  have:=G4 n
  simp only[EK,EJ,EN]at *
  omega
 ·rw[key 8 (by decide) (by decide) rfl,T6,T6]
  refine⟨by omega,fun n hn h1 h2=>?_⟩
  have:=G4 n
  simp only[EK,EJ,EN]at *
  omega
 ·rw[key8 rfl,T6]
  refine⟨by omega,fun n hn h1 h2=>?_⟩
  have:=G4 n
  simp only[EK,EJ,EN]at *
  omega
theorem gJ {v:Int} (hv:D8 v):∃c r,sN v=c::r/\(c<128↔0<=v):=by
  have hr:=Eh v
  have he:=HU hv
  unfold sN
  have ht:=G4 v
  unfold D8 at hv
  unfold D5 at he
  simp only[BE,decide_eq_true_eq]at he
  have hc:DR v=1\/DR v=2\/DR v=3\/DR v=4\/DR v=5\/DR v=6\/DR v=7\/DR v=8:=by omega
  rcases hc with h|h|h|h|h|h|h|h <;>
    (rw[h]at he ⊢
     refine⟨_,_,rfl,?_⟩
     simp only[EK,EJ,EN,Nat.reducePow]at he ⊢
     omega)
theorem qF {v:Int} (hv:D8 v) {c d:Nat} {r:List Nat} (h:sN v=c::d::r):¬(c=0/\d<128)/\¬(c=255/\128<=d):=by
  have hr:=Eh v
  have he:=HU hv
  have hl:2<=DR v:=by rw[<-NW,h];simp
  have hs:=PO v (n:=DR v-1) (by omega) (by omega)
  unfold sN at h
  have ht:=G4 v
  unfold D8 at hv
  unfold D5 at he hs
  simp only[BE,decide_eq_true_eq,BP,decide_eq_false_iff_not]at he hs
  have hc:DR v=2\/DR v=3\/DR v=4\/DR v=5\/DR v=6\/DR v=7\/DR v=8:=by omega
  rcases hc with e|e|e|e|e|e|e <;>
    (rw[e]at he hs h
     injection h with h1 h2
     injection h2 with h2 h3
     simp only[EK,EJ,EN,Nat.reducePow]at he hs h1 h2
     omega)
def cI (F:List V->H->AG):Prop:=∀{Z:H} {u:V} {L:List Nat},Oc Z u L->Kk L->L.length<=8->F [u] Z=some (.int .u64 (AA (Va 0 L)),Z)
def WC (E:EB) (F:List V->H->AG):Prop:=∀{Z:H} {u v:V} {L M:List Nat},Oc Z u L->Oc Z v M->Kk L->Kk M->0<L.length->0<M.length->F [u,v] Z=some (.bool (decide (L=M)),Z)
def sC (F:List V->H->AG):Prop:=∀{Z:H} {u:V} {L:List Nat},BG Z->Oc Z u L->Kk L->∃v e Z',F [u] Z=some (.tup [.int .i64 v,.int .i64 e],Z')/\D8 v/\(∀n,D8 n->L=sN n->v=n)/\Fr AN Z Z'
section
variable {E:EB} {D:Al} {N:Nat}
theorem Ys {a c:Nat} (hc:c<256) (h:a*256+c<=18446744073709551615):K0 .u64 (Kt .u64 (AA a) 8) (As .u64 (AA c))=AA (a*256+c):=by
 rw[B7 (by rw[Ng];omega),Qe,show Dk 8 (IntKind.bits .u64)=8 from rfl,show AA a*2 ^ 8=AA (a*2 ^ 8)from rfl,PC (by rw[Ng];omega),Y2,BitVec.toNat_or,JV,JV,show IntKind.bits .u64=64 from rfl,DA (show a*2 ^ 8<2 ^ 64 by omega),DA (show c<2 ^ 64 by omega),qR (show c<2 ^ 8 by omega)]
 exact PC (by rw[Ng];omega)
theorem w9 (hN:9<N):cI (wX E D (AZ E D) N):=by
 intro Z u L hu hb hl
 have loop:∀(R done:List Nat) (n' a:Nat),done++R=L->R.length<n'->a<256 ^ done.length->Wb E D (AZ E D) N n' (AA a) u (AA L.length) (AA done.length) Z=some (.int .u64 (AA (Va a R)),Z):=by
  intro R
  induction R with
  | nil=>
   intro done n' a he hn' ha
   obtain⟨n',rfl⟩:∃q,n'=q+1:=⟨n'-1,by omega⟩
   have hl:L.length=done.length:=by rw[<-he,C6]
   rw[hl]
   have d1:decide (done.length<done.length)=false:=decide_eq_false (Mv _)
   have key:∀R,Ph E D (AZ E D) (Vz E D (AZ E D)) R (AA a) u (AA done.length) (AA done.length) Z=some (.int .u64 (AA a),Z):=by
    intro R
    unfold Ph Vz
    simp -implicitDefEqProofs only [↓rP,rA,AI,AP,AH,d1]
   exact key _
  | cons c R ih=>
   intro done n' a he hn' ha
   obtain⟨n',rfl⟩:∃q,n'=q+1:=⟨n'-1,by omega⟩
   have hlL:L.length=done.length+(R.length+1):=by rw[<-he,AW,Av]
   have hx:L[done.length]? = some c:=by rw[<-he,Bd (AQ _),Gv];rfl
   have hc:c<256:=hb c (Cd hx)
   have g:=hu.get (E:=E) hx
   have d1:decide (done.length<L.length)=true:=decide_eq_true (by omega)
   have hp:a*256+c<256 ^ (done.length+1):=by rw[Nat.pow_succ];omega
   have hp8:256 ^ (done.length+1)<=256 ^ 8:=X9 (by decide) (by omega)
   have pu:=Ys (a:=a) hc (by
    have:(256:Nat) ^ 8=18446744073709551616:=rfl
    omega)
   have key:∀R',Ph E D (AZ E D) (Vz E D (AZ E D)) R' (AA a) u (AA L.length) (AA done.length) Z=R' (AA (a*256+c)) u (AA L.length) (AA (done.length+1)) Z:=by
    intro R'
    unfold Ph
    simp -implicitDefEqProofs only [↓rP,rA,AI,AP,AH,d1,↓g,pu,DN (show done.length+1<=9223372036854775807 by omega)]
   have:=ih (done++[c]) n' (a*256+c) (by rw[<-he];simp) (by simp only[Av]at hn';omega) (by rw[AW];exact hp)
   rw[AW,JP]at this
   exact(key _).trans this
 have sl:=hu.slen
 have k0:∀K,Tc E D (AZ E D) K u Z=K (AA 0) u (AA L.length) (AA 0) Z:=by
  intro K
  unfold Tc
  simp -implicitDefEqProofs only [↓rP,rA,AI,AP,AH,↓sl]
 show Tc E D (AZ E D) (Wb E D (AZ E D) N N) u Z=_
 rw[k0]
 exact loop L [] N 0 rfl (by omega) (by show 0<256 ^ 0;decide)
theorem Oc.str {Z:H} {v:V} {L:List Nat} (h:Oc Z v L) (h0:0<L.length) (J:BS->AG):Iv E Z v J=J (BS.ofList ((nI L).map fun c=>UInt8.ofNat c.toNat)):=by
 have hs:=h.srcK (E:=E)
 unfold Iv
 rcases h with ⟨rfl,_⟩|⟨b,o,c,M,rfl,_⟩
 ·cases h0
 ·simp only[]
  rw[hs]
  unfold oC
  rw[PD]
theorem gr {L M:List Nat} (hL:Kk L) (hM:Kk M):BS.beq (BS.ofList ((nI L).map fun c=>UInt8.ofNat c.toNat)) (BS.ofList ((nI M).map fun c=>UInt8.ofNat c.toNat))=decide (L=M):=by
 have e:∀{K:List Nat},Kk K->(BS.ofList ((nI K).map fun c=>UInt8.ofNat c.toNat)).nats=K:=fun {K} hK=>by
  unfold BS.nats nI
  rw[BS.toList_ofList,kV,kV]
  refine(List.map_congr_left fun c hc=>?_).trans (List.map_id K)
  show (UInt8.ofNat (AA c).toNat).toNat=c
  have:=hK c hc
  rw[show (AA c).toNat=c from rfl]
  simp;omega
 rw[BS.beq_nats,e hL,e hM]
theorem yD:WC E (vN E D (AZ E D) N):=by
 intro Z u v L M hu hv hL hM h1 h2
 show bK E D (AZ E D) u v Z=_
 unfold bK
 rw[hu.str h1,hv.str h2,gr hL hM]
theorem ADi (hT:cI (D 58)) (hS:OD (D 59)) (hE:WC E (D 17)):sC (F34 E D (AZ E D) N):=by
 intro Z u L ht hu hb
 have sl:=hu.slen
 have hlen:∀n,D8 n->L=sN n->1<=L.length/\L.length<=8:=fun n _ h=>by rw[h,NW];exact Eh n
 have i0:D8 0:=⟨by decide,by decide⟩
 by_cases c0:L.length=0
 ·refine⟨AA 0,AA 3,Z,?_,i0,fun n hn h=>by have:=hlen n hn h;omega,Fr.refl ht⟩
  show Lb E D (AZ E D) _ u Z=_
  unfold Lb
  simp -implicitDefEqProofs only [↓rP,rA,AI,AP,AH,↓sl,Ca,c0,decide_true]
 by_cases c8:8<L.length
 ·refine⟨AA 0,AA 4,Z,?_,i0,fun n hn h=>by have:=hlen n hn h;omega,Fr.refl ht⟩
  show Lb E D (AZ E D) _ u Z=_
  unfold Lb
  simp -implicitDefEqProofs only [↓rP,rA,AI,AP,AH,↓sl,Ca,decide_eq_false c0,decide_eq_true c8]
 have h8:L.length<=8:=by omega
 have g1:=hT hu hb h8
 have hx:Va 0 L<256 ^ L.length:=by
  have:=aW L 0 0 hb (by decide)
  rwa [Bp]at this
 obtain⟨hv,hvn⟩:=p6 (k:=L.length) (by omega) h8 hx
 obtain⟨w,Z1,g2,w2,f2⟩:=hS hv ht
 have hw:Oc Z1 w (sN (Wn L.length (Va 0 L))):=Oc.of_dst (by
  have:=w2.1
  rw[G1]at this
  exact this)
 have wo:=hw.one
 have g3:=hE hw (hu.fr0 f2 ht) (qG _) hb (by rw[NW];exact(Eh _).1) (by omega)
 have hn:∀n,D8 n->L=sN n->Wn L.length (Va 0 L)=n:=fun n hn h=>by
  refine hvn n hn ?_ ?_
  ·rw[h,NW];exact HU hn
  ·have:Va 0 L=YH n % 2 ^ (8*L.length):=by
    conv=>lhs;rw[h]
    unfold sN
    rw[TU,kU,Bp,<-NW n,<-h]
   rw[this,Int.natCast_emod,fX];rfl
 have key:∀K,Lb E D (AZ E D) K u Z=K u (Wn L.length (Va 0 L)) Z:=by
  intro K
  have hk:L.length=1\/L.length=2\/L.length=3\/L.length=4\/L.length=5\/L.length=6\/L.length=7\/L.length=8:=by omega
  have e:∀q:Nat,q<=8->D2 .i64 (AA 64) (Hr .i64 (AA 8) (AA q))=AA (64-8*q):=fun q hq=>by
   rw[show Hr .i64 (AA 8) (AA q)=AA (8*q)from B7 (k := .i64) (m:=8*q) (show 8*q<=9223372036854775807 by omega)]
   exact H0 (by omega) (by omega)
  have e:=e L.length h8
  unfold Lb Wn
  simp -implicitDefEqProofs only [↓rP,rA,AI,AP,AH,↓sl,Ca,decide_eq_false c0,decide_eq_false c8,↓g1,e]
  cases decide (0<64-8*L.length)with
  | true=>simp -implicitDefEqProofs only [↓rP,rA,AI,AP,AH,↓HT]
  | false=>simp -implicitDefEqProofs only [↓rP,rA,AI,AP,AH]
 cases hd:decide (sN (Wn L.length (Va 0 L))=L)with
 | true=>
  rw[hd]at g3
  refine⟨Wn L.length (Va 0 L),AA 0,Z1,?_,hv,hn,f2⟩
  show Lb E D (AZ E D) (dn E D (AZ E D) N) u Z=_
  rw[key]
  show Te E D (AZ E D) u _ Z=_
  unfold Te
  simp -implicitDefEqProofs only [↓rP,rA,AI,AP,AH,↓g2,↓BQ wo,↓g3]
 | false=>
  rw[hd]at g3
  refine⟨AA 0,AA 4,Z1,?_,i0,fun n h1 h2=>?_,f2⟩
  ·show Lb E D (AZ E D) (dn E D (AZ E D) N) u Z=_
   rw[key]
   show Te E D (AZ E D) u _ Z=_
   unfold Te
   simp -implicitDefEqProofs only [↓rP,rA,AI,AP,AH,↓g2,↓BQ wo,↓g3]
  ·exfalso
   have:=hn n h1 h2
   rw[this]at hd
   exact of_decide_eq_false hd h2.symm
end
def vB (k n:Nat):Vc:=⟨AA k,AA n,.nils,.nils,AA 0,.nils,rfl,rfl,rfl⟩
inductive Dv (Z:H):Nat->Vc->List Nat->Prop
 | b1 {c:Nat} {r:List Nat} (h:c≠0):Dv Z 1 (vB 1 1) (c::r)
 | b0 {r:List Nat} (h:∀c s,r=c::s->c=0):Dv Z 1 (vB 1 0) r
 | int {n:Int} {r:List Nat} (h:D8 n) (h2:∀m,D8 m->r=sN m->n=m):Dv Z 2 (Vc.int n) r
 | oct {b:V} {hb:b.one=true} {r:List Nat} (h:Oc Z b r):Dv Z 5 ⟨AA 5,AA 0,b,.nils,AA 0,.nils,hb,rfl,rfl⟩ r
 | nul {r:List Nat}:Dv Z 4 (vB 4 0) r
theorem Dv.frS {S:Nat->Prop} {Z Z':H} {k:Nat} {v:Vc} {r:List Nat} (h:Dv Z k v r) (f:Fr S Z Z') (ht:BG Z) (hn:∀b,BK v.b b->¬S b):Dv Z' k v r:=by
 cases h with
 | b1 h=>exact .b1 h
 | b0 h=>exact .b0 h
 | int h h2=>exact .int h h2
 | oct h=>exact .oct (h.fr f ht hn)
 | nul=>exact .nul
def Px (F:List V->H->AG):Prop:=∀{Z:H} {u:V} {L:List Nat},BG Z->Oc Z u L->L.length<=1000000->∃w Z',F [u] Z=some (w,Z')/\Oc Z' w L/\(∀b,BK w b->Z.next<=b)/\Fr AN Z Z'
structure Lt (Z:H) (p nT:Nat) (ty:Nat->Ty) (Fa:List V) (tv:V) (j t:Nat):Prop where
 tb:∃nm nv rv,Fa=[.str nm,nv,rv,tv]
 at_:CU Z p (.bool false::Fa)
 row:Jw Z 13 nT tv fun i=>(ty i).c
 lt:j<nT
 tags:IH Z 2 1 (ty j).tags (ka t)
def X0 (E:EB) (F:List V->H->AG):Prop:=∀{Z:H} {p nT j t K dp:Nat} {ty:Nat->Ty} {Fa:List V} {tv u:V} {L body:List Nat} {mk:Bool} {h:Nat},BG Z->Lt Z p nT ty Fa tv j t->(ty j).kind=AA K->(K=1\/K=2\/K=4\/K=5)->Oc Z u L->Kk L->kS L 2 t mk body h->L.length<=1000000->dp<=17 ->
 ∃v Z',F [.ptr p 0,.int .i64 (AA j),u,.int .i64 (AA dp)] Z=some (.agg v.c,Z')/\Dv Z' K v body/\(∀b,BK v.b b->Z.next<=b)/\Fr AN Z Z'
theorem PY {v:V} (h:v.one=true):v.cells=[v]:=by cases v<;>first | rfl | cases h
theorem Fr.to_any {S:Nat->Prop} {Z Z':H} (f:Fr AN Z Z'):Fr S Z Z':=⟨f.tidy,f.le,fun b h _=>f.same b h (fun e=>e)⟩
def Ee:List V:=[.int .i64 (AA 0),.int .i64 (AA 0),.nils,.nils,.int .i64 (AA 0),.nils]
section
variable {E:EB} {D:Al} {N:Nat}
theorem yE:Px (F36 E D (AZ E D) N):=by
 intro Z u L ht hu hl
 show ∃w Z',bF E D (AZ E D) u Z=some (w,Z')/\_
 by_cases hz:u = .nils
 ·subst hz
  have hL:L=[]:=by
   rcases hu with ⟨h,_⟩|⟨b,o,c,M,h,_⟩
   ·exact h
   ·cases h
  subst hL
  exact⟨.nils,Z,rfl,Oc.nil Z,fun _ h=>h.elim,Fr.refl ht⟩
 ·have ek:∀J:Bool->AG,YA .slice u .nils J=J false:=fun J=>by
   rcases hu with ⟨_,h⟩|⟨b,o,c,M,rfl,_⟩
   ·rcases h with rfl|⟨b,o,k,rfl⟩
    ·exact absurd rfl hz
    ·rfl
   ·rfl
  obtain⟨Z1,e1,f1,a1,n1⟩:=MY ht []
  have hu1:=hu.fr0 f1 ht
  obtain⟨w,Z',g,d,n,f⟩:=OA (E:=E) (esz:=1) (bytes:=1) (k:=0) (n:=L.length) (v := .sl Z.next 0 0 (.ex 0)) (l:=[]) (.inr ⟨_,rfl,a1,rfl⟩) f1.tidy (fun J=>hu1.srcK J) hu1.cells (by rw[I1,CQ]) (Ko _) (by unfold CT;rw[GW (by omega),GW (by omega)];rfl)
  rw[Bp,Dy]at d
  have F1:Fr AN Z Z':=f1.trans f (fun b hb e=>by cases e;omega)
  have wo:=d.one
  refine⟨w,Z',?_,Oc.of_dst d,fun b hb=>(n b hb).elim (fun e=>by cases e;exact AQ _) (fun h=>by have:=f1.le;omega),F1⟩
  unfold bF
  simp -implicitDefEqProofs only [↓rP,rA,AI,AP,AH,↓ek,↓e1,↓g,↓BQ wo]
theorem ft {Z:H} {f q:Nat} {v:Vc} {z:List V} (ht:BG Z) (af:CU Z f z) (hz:z.length=6) (aq:CU Z q v.c) (N':Nat):∃Z',Mh E D (AZ E D) f 0 q 0 Z=some (.agg v.c,Z')/\Fr (fun k=>k=f) Z Z':=by
 have ho:allOne v.c=true:=by unfold Vc.c;simp[Cj,DM,v.oneB,v.oneL,v.oneM,Gg]
 obtain⟨Z',g,f',a',n'⟩:=GH (n:=6) (o:=0) (v := .agg v.c) ht af (by
  show (AK v.c.length 6&&Ag (Ar 0 6) z.length&&allOne v.c)=true
  rw[ho,hz];rfl)
 have a':CU Z' f v.c:=by
  have:HQ z 0 v.c=v.c:=by
   match z,hz with
   | [a,b,c,d,e,f],_=>rfl
  rw[<-this];exact a'
 refine⟨Z',?_,f'⟩
 unfold Vc.c at g aq a'
 unfold Mh
 simp -implicitDefEqProofs only [↓rP,rA,AI,AP,AH,↓Bo aq,v.oneB,v.oneL,v.oneM,↓g,↓Bo a']
 rfl
def PB:List V:=[.int .i64 (AA 0),.nils,.bool false,.bool false,.bool false,.bool false,.int .i64 (AA 0),.int .i64 (AA 0),.nils,.nils,.int .i64 (AA 0),.bool false,.int .i64 (AA 0)]
theorem qZ (hI:Lc (D 33)) (hT:sC (D 34)) (hC:Px (D 36)):X0 E (kK E D (AZ E D) N):=by
 intro Z p nT j t K dp ty Fa tv u L body mk h ht hl hK hKs hu hb hel hL hdp
 obtain⟨nm,nv,rv,rfl⟩:=hl.tb
 obtain⟨Z1,e1,f1,a1,n1⟩:=MY ht Ee
 have hp1:=f1.at_ hl.at_ ht (fun h=>h)
 have rd:∀J,Ab 13 tv (AA j) (fun b o=>BV E Z1 b o 13 J)=J (ty j).c:=fun J=>(hl.row.fr0 f1 ht).all hl.lt J
 have tlen:=hl.row.len.2
 obtain⟨Z2,e2,f2,a2,n2⟩:=MY f1.tidy PB
 obtain⟨Z3,g3,f3,a3,n3⟩:=GH (n:=13) (o:=0) (v := .agg (ty j).c) f2.tidy a2 (by unfold Ty.c;simp[PB,Jg,Cj,DM,Gg,K7,(ty j).oneT,(ty j).oneI,(ty j).oneF])
 have a3:CU Z3 Z1.next (ty j).c:=a3
 have F3:Fr AN Z Z3:=(f1.trans f2 (fun _ _ h=>h)).trans f3 (fun b hb e=>by omega)
 have hp3:=F3.at_ hl.at_ ht (fun h=>h)
 obtain⟨w,Z4,g4,ow,nw,f4⟩:=hI F3.tidy hp3 (hu.fr0 F3 ht) hb hel hL (hl.tags.fr F3 ht (fun _ _ h=>h))
 have wo:=ow.one
 have F4:Fr AN Z Z4:=F3.trans f4 (fun _ _ h=>h)
 have a4:=f4.at_ a3 F3.tidy (fun h=>h)
 obtain⟨Z5,e5,f5,a5,n5⟩:=MY F4.tidy Ee
 obtain⟨Z6,g6,f6,a6,n6⟩:=GH (n:=6) (o:=0) (v := .agg [.int .i64 (AA K),.int .i64 (AA 0),.nils,.nils,.int .i64 (AA 0),.nils]) f5.tidy a5 rfl
 have a6:CU Z6 Z4.next [.int .i64 (AA K),.int .i64 (AA 0),.nils,.nils,.int .i64 (AA 0),.nils]:=a6
 have le1:=f1.le
 have le34:=f4.le
 have le23:Z2.next<=Z3.next:=f3.le
 have F5:Fr AN Z Z5:=F4.trans f5 (fun _ _ h=>h)
 have F6:Fr AN Z Z6:=F5.trans f6 (fun b hb e=>by omega)
 have a46:CU Z6 Z1.next (ty j).c:=f6.at_ (f5.at_ a4 F4.tidy (fun h=>h)) f5.tidy (fun e=>by omega)
 have af1:CU Z1 Z.next Ee:=a1
 have af6:CU Z6 Z.next Ee:=by
  have x2:=f2.at_ af1 f1.tidy (fun h=>h)
  have x3:=f3.at_ x2 f2.tidy (fun e=>by omega)
  have x4:=f4.at_ x3 F3.tidy (fun h=>h)
  have x5:=f5.at_ x4 F4.tidy (fun h=>h)
  exact f6.at_ x5 f5.tidy (fun e=>by omega)
 have ow6:Oc Z6 w body:=(ow.fr0 f5 F4.tidy).fr f6 f5.tidy fun b hb e=>by
  have:=ow.lt F4.tidy b hb
  omega
 have lf:∀J:V->AG,BY E Z1 p 0 J=J (.bool false):=fun J=>Cm hp1 rfl
 have lt4:∀J:V->AG,BY E Z1 p (Ar (Ar 0 1) 3) J=J tv:=fun J=>Cm hp1 rfl
 have l1:∀J:V->AG,BY E Z3 Z1.next 1 J=J (ty j).tags:=fun J=>Cm a3 rfl
 have l0:∀J:V->AG,BY E Z4 Z1.next 0 J=J (.int .i64 (AA K)):=fun J=>Cm a4 (by rw[<-hK];rfl)
 have l06:∀J:V->AG,BY E Z6 Z1.next 0 J=J (.int .i64 (AA K)):=fun J=>Cm a46 (by rw[<-hK];rfl)
 have dj:decide (nT<=j)=false:=decide_eq_false (by have:=hl.lt;omega)
 have dd:decide (17<dp)=false:=decide_eq_false (by omega)
 have j0:decide (j<0)=false:=decide_eq_false (by omega)
 unfold Ee at e1 e5
 unfold PB at e2
 unfold Ty.c at rd g3
 have k0:∀K1,Mi E D (AZ E D) K1 p 0 (AA j) u (AA dp) Z=K1 p 0 (AA j) u (AA dp) Z.next 0 Z1:=fun K1=>by
  unfold Mi
  simp -implicitDefEqProofs only [↓rP,rA,AI,AP,AH,↓e1,↓lt4,↓tlen,j0,dj,dd]
 show ∃(v:Vc) (Z':H),Mi E D (AZ E D) (We E D (AZ E D) N) p 0 (AA j) u (AA dp) Z=some (.agg v.c,Z')/\_
 have q6:Z4.next<Z6.next:=by omega
 have done:∀(Zc Z7:H) (v:Vc),Fr AN Z6 Zc->Dv Zc K v body->(∀b,BK v.b b->Z6.next<=b)->Fr (fun k=>k=Z4.next) Zc Z7->CU Z7 Z4.next v.c->∃Z',Mh E D (AZ E D) Z.next 0 Z4.next 0 Z7=some (.agg v.c,Z')/\Dv Z' K v body/\(∀b,BK v.b b->Z.next<=b)/\Fr AN Z Z':=fun Zc Z7 v fc hv hn f7 a7=>by
  have Fc:Fr AN Z Zc:=F6.trans fc (fun _ _ h=>h)
  have F7:Fr AN Z Z7:=Fc.trans f7 (fun b hb e=>by omega)
  have af7:=f7.at_ (fc.at_ af6 F6.tidy (fun h=>h)) Fc.tidy (fun e=>by omega)
  obtain⟨Z8,g8,f8⟩:=ft (E:=E) (D:=D) F7.tidy af7 rfl a7 N
  have F8:Fr AN Z Z8:=F7.trans f8 (fun b hb e=>by omega)
  exact⟨Z8,g8,(hv.frS f7 Fc.tidy (fun b hb e=>by have:=hn b hb;omega)).frS f8 F7.tidy (fun b hb e=>by have:=hn b hb;omega),fun b hb=>by have:=hn b hb;omega,F8⟩
 have so:=ow6.slen
 rw[k0]
 show ∃(v:Vc) (Z':H),JE E D (AZ E D) _ _ p 0 (AA j) u (AA dp) Z.next 0 Z1=some (.agg v.c,Z')/\_
 rcases hKs with rfl|rfl|rfl|rfl
 ·
  have set1:∀c:Nat,c≠0->(∃r,body=c::r)->∃v Z7 Z',(∀J:H->AG,FY 1 Z4.next 1 (.int .i64 (AA 1)) Z6 J=J Z7)/\Mh E D (AZ E D) Z.next 0 Z4.next 0 Z7=some (.agg (Vc.c v),Z')/\Dv Z' 1 v body/\(∀b,BK v.b b->Z.next<=b)/\Fr AN Z Z':=fun c hc ⟨r,hr⟩=>by
   obtain⟨Z7,g7,f7,a7,n7⟩:=GH (n:=1) (o:=1) (v := .int .i64 (AA 1)) F6.tidy a6 rfl
   obtain⟨Z',g',d',f'⟩:=done Z6 Z7 (vB 1 1) (Fr.refl F6.tidy) (hr ▸ Dv.b1 hc) (fun _ h=>h.elim) f7 a7
   exact⟨_,Z7,Z',g7,g',d',f'⟩
  have set0:(∀c s,body=c::s->c=0)->∃v Z',Mh E D (AZ E D) Z.next 0 Z4.next 0 Z6=some (.agg (Vc.c v),Z')/\Dv Z' 1 v body/\(∀b,BK v.b b->Z.next<=b)/\Fr AN Z Z':=fun hb0=>by
   obtain⟨Z',g',d',f'⟩:=done Z6 Z6 (vB 1 0) (Fr.refl F6.tidy) (.b0 hb0) (fun _ h=>h.elim) (Fr.to_any (Fr.refl F6.tidy)) a6
   exact⟨_,Z',g',d',f'⟩
  match hbd:body,ow6,so with
  | [],ow6,so=>
   obtain⟨v,Z',g',d',f'⟩:=set0 (fun c s e=>by cases e)
   refine⟨v,Z',?_,d',f'⟩
   rw[<-g']
   unfold JE
   simp -implicitDefEqProofs only [↓rP,rA,AI,AP,AH,↓lf,↓lt4,↓rd,(ty j).oneT,(ty j).oneI,(ty j).oneF,↓e2,↓g3,↓l1,↓g4,↓BQ wo,↓l0,↓e5,↓g6,↓l06,Ca,decide_true,↓so,show decide (0<([]:List Nat).length)=false from rfl]
   all_goals rfl
  | c::r,ow6,so=>
   have g0:=ow6.get (E:=E) (k:=0) (c:=c) rfl
   have d0:decide (0<(c::r).length)=true:=rfl
   by_cases hc:c=0
   ·obtain⟨v,Z',g',d',f'⟩:=set0 (fun c' s e=>by cases e;exact hc)
    refine⟨v,Z',?_,d',f'⟩
    rw[<-g']
    unfold JE
    simp -implicitDefEqProofs only [↓rP,rA,AI,AP,AH,↓lf,↓lt4,↓rd,(ty j).oneT,(ty j).oneI,(ty j).oneF,↓e2,↓g3,↓l1,↓g4,↓BQ wo,↓l0,↓e5,↓g6,↓l06,Ca,decide_true,↓so,d0,↓g0,decide_eq_true hc]
    all_goals rfl
   ·obtain⟨v,Z7,Z',g7,g',d',f'⟩:=set1 c hc ⟨r,rfl⟩
    refine⟨v,Z',?_,d',f'⟩
    rw[<-g']
    unfold JE
    simp -implicitDefEqProofs only [↓rP,rA,AI,AP,AH,↓lf,↓lt4,↓rd,(ty j).oneT,(ty j).oneI,(ty j).oneF,↓e2,↓g3,↓l1,↓g4,↓BQ wo,↓l0,↓e5,↓g6,↓l06,Ca,decide_true,↓so,d0,↓g0,decide_eq_false hc,↓g7]
    all_goals rfl
 ·
  obtain⟨n,e,Z7,g7,hn,hu7,f7⟩:=hT F6.tidy ow6 (fun c hc=>hb c (Kg (hel.body ▸ hc)))
  have a7:=f7.at_ a6 F6.tidy (fun h=>h)
  obtain⟨Z8,g8,f8,a8,n8⟩:=GH (n:=1) (o:=1) (v := .int .i64 n) f7.tidy a7 rfl
  obtain⟨Z',g',d',f'⟩:=done Z7 Z8 (Vc.int n) f7 (.int hn hu7) (fun _ h=>h.elim) f8 a8
  refine⟨Vc.int n,Z',?_,d',f'⟩
  rw[<-g']
  unfold JE
  simp -implicitDefEqProofs only [↓rP,rA,AI,AP,AH,↓lf,↓lt4,↓rd,(ty j).oneT,(ty j).oneI,(ty j).oneF,↓e2,↓g3,↓l1,↓g4,↓BQ wo,↓l0,↓e5,↓g6,↓l06,Ca,decide_true,show decide (2=1)=false from rfl,↓g7,↓g8]
  all_goals rfl
 ·
  obtain⟨Z',g',d',f'⟩:=done Z6 Z6 (vB 4 0) (Fr.refl F6.tidy) .nul (fun _ h=>h.elim) (Fr.to_any (Fr.refl F6.tidy)) a6
  refine⟨_,Z',?_,d',f'⟩
  rw[<-g']
  have k3:Tp E D (AZ E D) N p 0 (AA dp) Z.next 0 Z1.next 0 w Z4.next 0 (AA 4) false Z6=Mh E D (AZ E D) Z.next 0 Z4.next 0 Z6:=rfl
  rw[<-k3]
  unfold JE
  simp -implicitDefEqProofs only [↓rP,rA,AI,AP,AH,↓lf,↓lt4,↓rd,(ty j).oneT,(ty j).oneI,(ty j).oneF,↓e2,↓g3,↓l1,↓g4,↓BQ wo,↓l0,↓e5,↓g6,↓l06,Ca,decide_true,show decide (4=1)=false from rfl,show decide (4=2)=false from rfl,show decide (4=3)=false from rfl,show decide (4=5)=false from rfl,show decide (4=6)=false from rfl]
  all_goals rfl
 ·
  have hbl:body.length<=1000000:=by have:=hel.len;omega
  obtain⟨b,Z7,g7,ob,nb,f7⟩:=hC F6.tidy ow6 hbl
  have a7:=f7.at_ a6 F6.tidy (fun h=>h)
  have bo:=ob.one
  obtain⟨Z8,g8,f8,a8,n8⟩:=GH (n:=1) (o:=2) (v:=b) f7.tidy a7 (by rw[PY bo];simp[Cj,DM,bo])
  have a8:CU Z8 Z4.next [.int .i64 (AA 5),.int .i64 (AA 0),b,.nils,.int .i64 (AA 0),.nils]:=by rw[PY bo]at a8;exact a8
  obtain⟨Z',g',d',f'⟩:=done Z7 Z8 ⟨AA 5,AA 0,b,.nils,AA 0,.nils,bo,rfl,rfl⟩ f7 (.oct ob) (fun c hc=>nb c hc) f8 a8
  refine⟨_,Z',?_,d',f'⟩
  rw[<-g']
  have k3:Tp E D (AZ E D) N p 0 (AA dp) Z.next 0 Z1.next 0 w Z4.next 0 (AA 5) true Z6=Mh E D (AZ E D) Z.next 0 Z4.next 0 Z8:=by
   show V8 E D (AZ E D) _ _ _ p 0 (AA dp) Z.next 0 Z1.next 0 w Z4.next 0 (AA 5) true Z6=_
   unfold V8
   have g8:∀J:H->AG,FY 1 Z4.next (Ar 0 2) b Z7 J=J Z8:=g8
   simp -implicitDefEqProofs only [↓rP,rA,AI,AP,AH,↓g7,↓BQ bo,↓g8]
   rfl
  rw[<-k3]
  unfold JE
  simp -implicitDefEqProofs only [↓rP,rA,AI,AP,AH,↓lf,↓lt4,↓rd,(ty j).oneT,(ty j).oneI,(ty j).oneF,↓e2,↓g3,↓l1,↓g4,↓BQ wo,↓l0,↓e5,↓g6,↓l06,Ca,decide_true,show decide (5=1)=false from rfl,show decide (5=2)=false from rfl,show decide (5=3)=false from rfl]
  all_goals rfl
end
theorem xZ {u:V} {p:Nat} {i j:Int} (h:u.live=true):[V.ptr p 0,.int .i64 i,u,.int .i64 j].all V.live=true:=by rw[Bq,Bq,Bq,h];rfl
def HP (gs:List Vc):List V:=gs.flatMap Vc.c
theorem Kn:∀gs:List Vc,(HP gs).length=gs.length*6
 | []=>rfl
 | v::gs=>by
  show (v.c++HP gs).length=_
  rw[AW,Kn gs,Av,show v.c.length=6 from rfl];omega
theorem U3:∀(gs:List Vc) (k:Nat) (v:Vc),gs[k]? = some v->((HP gs).drop (k*6)).take 6=v.c
 | [],_,_,h=>by simp at h
 | w::gs,0,v,h=>by
  simp at h;subst h;rfl
 | w::gs,k+1,v,h=>by
  show ((w.c++HP gs).drop ((k+1)*6)).take 6=_
  rw[show (k+1)*6=6+k*6 by omega,<-wK,show (w.c++HP gs).drop 6=HP gs from rfl]
  exact U3 gs k v (by simpa using h)
theorem QY:∀(gs:List Vc) (k:Nat) (v:Vc),k<gs.length->HQ (HP gs) (k*6) v.c=HP (gs.set k v)
 | [],_,_,h=>by simp at h
 | w::gs,0,v,_=>by
  have e:∀m:List V,HQ m 0 []=m:=fun m=>by cases m<;>simp[HQ]
  rw[kU]
  show v.c++HQ (HP gs) 0 []=v.c++HP gs
  rw[e]
 | w::gs,k+1,v,h=>by
  have ih:=QY gs k v (by simpa using h)
  rw[List.set_cons_succ]
  show HQ (w.c++HP gs) ((k+1)*6) v.c=w.c++HP (gs.set k v)
  rw[<-ih,show (k+1)*6=k*6+1+1+1+1+1+1 by omega]
  rfl
theorem Vc.allOne (v:Vc):allOne v.c=true:=by unfold Vc.c;simp[Cj,DM,v.oneB,v.oneL,v.oneM,Gg]
def pk (sq:Bool) (t:Nat) (X:List El):Option El × List El:=match ko t X 0 with
 | none=>(none,X)
 | some i=>match sq&&decide (0<i)with
  | true=>(none,X)
  | false=>(X[i]?,X.eraseIdx i)
def MW (sq:Bool):List Nat->List El->List (Option El) × List El
 | [],X=>([],X)
 | t::ts,X=>((pk sq t X).1::(MW sq ts (pk sq t X).2).1,(MW sq ts (pk sq t X).2).2)
structure kE (B W:List V->H->AG) (Pt:H->Prop) (Z:H) (p nT:Nat) (ty:Nat->Ty) (Fa:List V) (tv:V) (x:Ty) (nf:Nat) (fd:Nat->Fd) (jt tg kd:Nat->Nat):Prop where
 row:Jw Z 11 nf x.fields fun k=>(fd k).c
 leaf:∀k,k<nf->(fd k).type=AA (jt k)/\(ty (jt k)).kind=AA (kd k)/\(kd k=1\/kd k=2\/kd k=4\/kd k=5)/\Lt Z p nT ty Fa tv (jt k) (tg k)/\Bw B W Pt Fa (jt k) (tg k)
 t4:lA Fa
 pt:Pt Z
 ptf:∀Z Z',BG Z->Fr AN Z Z'->Pt Z->Pt Z'
 at_:CU Z p (.bool false::Fa)
 itm:V.beq x.items x.items=true
theorem Lt.fr {Z Z':H} {p nT j t:Nat} {ty:Nat->Ty} {Fa:List V} {tv:V} (h:Lt Z p nT ty Fa tv j t) (f:Fr AN Z Z') (ht:BG Z):Lt Z' p nT ty Fa tv j t:=⟨h.tb,f.at_ h.at_ ht (fun h=>h),h.row.fr0 f ht,h.lt,h.tags.fr f ht (fun _ _ h=>h)⟩
theorem kE.fr {B W:List V->H->AG} {Pt:H->Prop} {Z Z':H} {p nT:Nat} {ty:Nat->Ty} {Fa:List V} {tv:V} {x:Ty} {nf:Nat} {fd:Nat->Fd} {jt tg kd:Nat->Nat} (h:kE B W Pt Z p nT ty Fa tv x nf fd jt tg kd) (f:Fr AN Z Z') (ht:BG Z):kE B W Pt Z' p nT ty Fa tv x nf fd jt tg kd:=
 ⟨h.row.fr0 f ht,fun k hk=>by obtain⟨a,b,c,d,e⟩:=h.leaf k hk;exact⟨a,b,c,d.fr f ht,e⟩,h.t4,h.ptf _ _ ht f h.pt,h.ptf,f.at_ h.at_ ht (fun h=>h),h.itm⟩
structure Fs (Z0 Z:H) (p:Nat) (K:Nat) (x:Ty) (gs:List Vc):Prop where
 fr:Fr AN Z0 Z
 cb:CU Z Z0.next [.ptr p 0]
 xb:CU Z (Z0.next+1) x.c
 rb:CU Z (Z0.next+2) Ee
 qv:CU Z (Z0.next+10) [.int .i64 (AA K),.int .i64 (AA 0),.nils,.sl (Z0.next+8) 0 gs.length (.ex gs.length),.int .i64 (AA 0),.nils]
 lb:CU Z (Z0.next+8) (HP gs)
 lt:Z0.next+12<=Z.next
theorem Fs.fr' {Z0 Z Z':H} {p K:Nat} {x:Ty} {gs:List Vc} (h:Fs Z0 Z p K x gs) (f:Fr AN Z Z'):Fs Z0 Z' p K x gs:=by
 have ht:=h.fr.tidy
 exact⟨h.fr.trans f (fun _ _ h=>h),f.at_ h.cb ht (fun h=>h),f.at_ h.xb ht (fun h=>h),f.at_ h.rb ht (fun h=>h),f.at_ h.qv ht (fun h=>h),f.at_ h.lb ht (fun h=>h),BO h.lt f.le⟩
def Gd (Z0 Z:H) (t kd:Nat) (o:Option El) (v:Vc):Prop:=match o with
 | none=>v=Vc.abs
 | some e=>∃mk body h,kS e.1 2 t mk body h/\Kk e.1/\e.1.length<=100000/\Dv Z kd v body/\∀b,BK v.b b->Z0.next+12<=b
theorem Gd.fr {S:Nat->Prop} {Z0 Z Z':H} {t kd:Nat} {o:Option El} {v:Vc} (h:Gd Z0 Z t kd o v) (f:Fr S Z Z') (ht:BG Z) (hS:∀b,Z0.next+12<=b->¬S b):Gd Z0 Z' t kd o v:=by
 match o,h with
 | none,h=>exact h
 | some e,⟨mk,body,h,a,b,l,c,d⟩=>exact⟨mk,body,h,a,b,l,c.frS f ht (fun b hb=>hS b (d b hb)),d⟩
def SX (Z0 Z:H) (v:V) (EL:List (List Nat)):Prop:=∃pvs:List V,IH Z 1 EL.length v pvs/\(∀b,BK v b->b<Z0.next\/Z0.next+12<=b)/\∀(i:Nat) (e:List Nat),EL[i]? = some e->∃u,pvs[i]? = some u/\Oc Z u e/\∀b,BK u b->b<Z0.next
theorem SX.fr {S:Nat->Prop} {Z0 Z Z':H} {v:V} {EL:List (List Nat)} (h:SX Z0 Z v EL) (f:Fr S Z Z') (ht:BG Z) (hS:∀b,S b->Z0.next<=b/\b<Z0.next+12):SX Z0 Z' v EL:=by
  obtain⟨pvs,h1,h2,h3⟩:=h
  exact⟨pvs,h1.fr f ht (fun b hb hs=>by have:=h2 b hb;have:=hS b hs;omega),h2,fun i e hi=>by
    obtain⟨u,a,b,c⟩:=h3 i e hi
    exact⟨u,a,b.fr f ht (fun b hb hs=>by have:=c b hb;have:=hS b hs;omega),c⟩⟩
theorem SX.ela {Z0 Z:H} {v:V} {EL:List (List Nat)} (h:SX Z0 Z v EL):eo Z v EL:=by
 obtain⟨pvs,h1,_,h3⟩:=h
 exact⟨pvs,h1,fun i e hi=>by obtain⟨u,a,b,_⟩:=h3 i e hi;exact⟨u,a,b⟩⟩
section
variable {E:EB} {D:Al} {N:Nat} {B W:List V->H->AG} {Pt:H->Prop} {Z0 Z:H} {p nT:Nat} {ty:Nat->Ty} {Fa:List V} {tv:V} {x:Ty} {nf:Nat} {fd:Nat->Fd} {jt tg kd:Nat->Nat}
theorem iI (hV:X0 E (D 15)) (hF:kE B W Pt Z p nT ty Fa tv x nf fd jt tg kd) {K k at_ fq dp:Nat} {gs:List Vc} (hs:Fs Z0 Z p K x gs) (hk:k<nf) (hg:gs.length=nf) (hdp:dp<=16) {a fv:V} {X:List El} {e:El} (ha:SX Z0 Z a (X.map (·.1))) (he:X[at_]? = some e) (ht2:e.2=(2,tg k)) (hE:SO e) (aq:CU Z fq (fd k).c) (hqn:fq≠Z0.next+8) (hpn:p≠Z0.next+8) (fvl:fv.live=true) {l:Int} :
    ∃ev Z' v,AZ E D P6 Tq [(2,a),(3,.int .i64 (AA dp)),(4,.ptr Z0.next 0),(5,.ptr (Z0.next+1) 0),(8,.ptr (Z0.next+2) 0),(9,.ptr (Z0.next+10) 0),(10,.int .i64 (AA k)),(11,.ptr fq 0),(12,.int .i64 (AA at_)),(23,fv),(24,.int .i64 l),(25,.int .i64 (AA k))] Z=some (ev,Z') /\
      (Go.Og.look ev 2=some a/\Go.Og.look ev 3=some (.int .i64 (AA dp))/\Go.Og.look ev 4=some (.ptr Z0.next 0)/\Go.Og.look ev 5=some (.ptr (Z0.next+1) 0)/\Go.Og.look ev 8=some (.ptr (Z0.next+2) 0)/\Go.Og.look ev 9=some (.ptr (Z0.next+10) 0)/\Go.Og.look ev 12=some (.int .i64 (AA at_))/\Go.Og.look ev 23=some fv/\Go.Og.look ev 24=some (.int .i64 l)/\Go.Og.look ev 25=some (.int .i64 (AA k))) /\
      Fr (fun b=>b=Z0.next+8) Z Z'/\CU Z' (Z0.next+8) (HP (gs.set k v))/\Gd Z0 Z' (tg k) (kd k) (some e) v:=by
  have ht:=hs.fr.tidy
  obtain⟨q1,q2,q3,q4,_⟩:=hF.leaf k hk
  obtain⟨hb,hlen,mk,body,h,hel⟩:=hE
  rw[ht2]at hel
  have fw:Fr AN Z ⟨Z.next+15,Z.bl⟩:=(Cu (E:=E) (n:=15) (S:=AN) ht).fr
  obtain⟨pvs,hsrc,hnm,hpv⟩:=ha
  have hlx:at_<X.length:=(BL.1 he).1
  obtain⟨u,hu,ou,nu⟩:=hpv at_ e.1 (by rw[Bh,he];rfl)
  have el:(X.map (·.1)).length=X.length:=Bm ..
  obtain⟨ab,ao,ac,aL,hav,aat,alen,aget⟩:∃b o c L,a = .sl b o X.length c/\CU Z b L/\o+X.length<=L.length/\L[o+at_*1]? = some u:=by
    rcases hsrc with ⟨h0,_,_⟩|⟨b,o,c,L,h1,h2,h3,h4⟩
    · omega
    · refine⟨b,o,c,L,by rw[h1,el],h2,by omega,?_⟩
      rw[h4,EM (by omega),C5]at hu
      rw[CQ];exact hu
  have bne:ab≠Z0.next+8:=by have:=hnm ab (by rw[hav];rfl);omega
  obtain⟨v,Z1,g1,d1,nv1,f1⟩:=hV (Z:=⟨Z.next+15,Z.bl⟩) (dp:=dp+1) fw.tidy (q4.fr fw ht) q2 q3 (ou.fr0 fw ht) hb hel (by omega) (by omega)
  have lt:=hs.lt
  have F1:Fr AN Z Z1:=fw.trans f1 (fun _ _ h=>h)
  have lb1:CU Z1 (Z0.next+8) (HP gs):=F1.at_ hs.lb ht (fun h=>h)
  have hkl:k<gs.length:=by omega
  obtain⟨Z2,g2,f2,a2⟩:∃Z2,Dc E D (.store 6 (.tmp 57) (.tmp 56)) [(57,.ptr (Z0.next+8) (0+k*6)),(56,.agg v.c)] Z1=some (.dead,Z2)/\Fr (fun b=>b=Z0.next+8) Z1 Z2/\CU Z2 (Z0.next+8) (HP (gs.set k v)):=by
    obtain⟨Z2,r1,r2,r3⟩:=J3 (E:=E) (D:=D) (n:=6) (x := .tmp 57) (y := .tmp 56) (e:=[(57,.ptr (Z0.next+8) (0+k*6)),(56,.agg v.c)]) F1.tidy lb1 rfl (show (B4 [(57,.ptr (Z0.next+8) (0+k*6)),(56,.agg v.c)] (.tmp 56)).cells=v.c from rfl) (by
      rw[Kn,v.allOne,show v.c.length=6 from rfl]
      simp;omega)
    rw[Bp,QY gs k v hkl]at r3
    exact⟨Z2,by rw[Bp];rw[Bp]at r1;exact r1,r2,r3⟩
  have ao1:a.one=true:=by rw[hav];rfl
  have uo:=ou.one
  have lsl:V.beq (.sl (Z0.next+8) 0 gs.length (.ex gs.length)) (.sl (Z0.next+8) 0 gs.length (.ex gs.length))=true:=Cv _ rfl
  have ad:HH .add .none (.int .i64 (AA dp)) (.int .i64 (AA 1))=some (.int .i64 (AA (dp+1))):=congrArg (fun z=>some (V.int .i64 z)) ((La .i64 (AA dp) (AA 1)).symm.trans (DN (by omega)))
  have h1:Z.next+15<=Z1.next:=f1.le
  have go:Fz E D Z 15 0 (fun b=>b=Z0.next+8) P6 Tq ⟨[(2,a),(3,.int .i64 (AA dp)),(4,.ptr Z0.next 0),(5,.ptr (Z0.next+1) 0),(8,.ptr (Z0.next+2) 0),(9,.ptr (Z0.next+10) 0),(10,.int .i64 (AA k)),(11,.ptr fq 0),(12,.int .i64 (AA at_)),(23,fv),(24,.int .i64 l),(25,.int .i64 (AA k))],Z.next+15,[Z.bl],[],0,[]⟩ _ Z2:=
    DW (.ptr (Z0.next+10) 3) rfl rfl <|
    TB (.sl (Z0.next+8) 0 gs.length (.ex gs.length)) (Cu ht) rfl (Gh (b:=Z0.next+10) (off:=3) rfl hs.qv rfl ht (fun e=>by omega) lsl) fun _ r1=>
    DW (.int .i64 (AA k)) rfl rfl <|
    TB (.ptr p 0) r1 rfl (Gh (b:=Z0.next) (off:=0) rfl hs.cb rfl ht (fun e=>by omega) (Cv _ rfl)) fun _ r2=>
    DW (.ptr fq 1) rfl rfl <|
    TB (.int .i64 (AA (jt k))) r2 rfl (Gh (b:=fq) (off:=1) rfl aq (by rw[<-q1];rfl) ht hqn (Cv _ rfl)) fun _ r3=>
    DW a rfl (Fl rfl (CK ao1)) <|
    DW (.int .i64 (AA at_)) rfl rfl <|
    DW (.ptr ab (ao+at_*1)) rfl (LG hav rfl hlx) <|
    TB u r3 rfl (Gh (b:=ab) (off:=ao+at_*1) rfl aat aget ht bne ou.beq) fun _ r4=>
    DW (.int .i64 (AA dp)) rfl rfl <|
    DW (.int .i64 (AA (dp+1))) rfl ad <|
    Qt (.agg v.c) r4 rfl (by decide) f1 (fun _ _ h=>h.elim) (fun _ h _ _=>h.elim) (FH (vs:=[.ptr p 0,.int .i64 (AA (jt k)),u,.int .i64 (AA (dp+1))]) rfl (xZ (CK uo)) g1) fun _ _ _ r5=>
    DW (.ptr (Z0.next+8) (0+k*6)) rfl (LG rfl rfl hkl) <|
    Qt .dead r5 rfl (by decide) (S':=fun b=>b=Z0.next+8) f2 (fun _ _ h=>h) (fun b h h1 _=>by omega) g2 fun _ _ _ r6=>
    KF r6
  obtain⟨x1,x2⟩:=IT (ops:=P6) go
  refine⟨_,Z2,v,x1,⟨rfl,rfl,rfl,rfl,rfl,rfl,rfl,rfl,rfl,rfl⟩,x2,a2,⟨mk,body,h,hel,hb,hlen,d1.frS f2 F1.tidy (fun b hb e=>by have:=nv1 b hb;have:Z.next+15<=b:=this;omega),fun b hb=>by have:=nv1 b hb;have:Z.next+15<=b:=this;omega⟩⟩
end
def WB (B W F:List V->H->AG):Prop:=∀{Pt:H->Prop} {Fa L:List V} {Z:H} {p cb fq j t:Nat} {u:V} {x:El},(∀Z Z',BG Z->Fr AN Z Z'->Pt Z->Pt Z')->lA Fa->BG Z->CU Z p (.bool false::Fa)->Pt Z->Oc Z u x.1->SO x->Bw B W Pt Fa j t ->
 CU Z cb [.ptr p 0]->CU Z fq L->L[1]? = some (.int .i64 (AA j))->∃Z',F [u,.ptr cb 0,.ptr fq 0] Z=some (.bool (decide (x.2=(2,t))),Z')/\Fr AN Z Z'
def YC:List V:=[.str ⟨0,0⟩,.int .i64 (AA 0),.bool false,.bool false,.int .i64 (AA 0),.int .i64 (AA 0),.nils,.nils,.int .i64 (AA 0),.nils,.int .i64 (AA 0)]
theorem Yw {sq:Bool} {t:Nat} {X:List El}:∀e∈(pk sq t X).2,e∈X:=by
 intro e he
 unfold pk at he
 split at he
 ·exact he
 ·split at he
  ·exact he
  ·exact List.mem_of_mem_eraseIdx he
theorem Yx {sq:Bool} {t:Nat} {X:List El}:(pk sq t X).2.length<=X.length:=by
 unfold pk
 split
 ·exact AQ _
 ·split
  ·exact AQ _
  ·exact List.length_eraseIdx_le ..
section
variable {E:EB} {D:Al} {N M:Nat} {B W:List V->H->AG} {Pt:H->Prop} {Z0:H} {p nT:Nat} {ty:Nat->Ty} {Fa:List V} {tv:V} {x:Ty} {nf:Nat} {fd:Nat->Fd} {jt tg kd:Nat->Nat}
theorem ZP (hV:X0 E (D 15)) {C:List V->H->AG} (hC:WB B W C) (hI:Ti M C (D 63)) (hP:OE (D 66) (D 65)) {Z:H} (hF:kE B W Pt Z p nT ty Fa tv x nf fd jt tg kd) {K k dp:Nat} (hK:x.kind=AA K) {gs:List Vc} (hs:Fs Z0 Z p K x gs) (hp0:p<Z0.next) (hk:k<nf) (hg:gs.length=nf) (hgk:gs[k]? = some Vc.abs) (hdp:dp<=16) {a:V} {X:List El} (ha:SX Z0 Z a (X.map (·.1))) (hX:∀e∈X,SO e) (hXn:X.length<=5000) (hM:X.length<M) :
  ∃a' Z' v,(∀(K1:V->Nat->Nat->Nat->Nat->H->AG) (K3:V->Int->Nat->Nat->Nat->Nat->Nat->Nat->Nat->Nat->V->Int->Int->H->AG),Ij E D (AZ E D) K1 K3 a (AA dp) Z0.next 0 (Z0.next+1) 0 (Z0.next+2) 0 (Z0.next+10) 0 x.fields (AA nf) (AA k) Z=K3 a' (AA dp) Z0.next 0 (Z0.next+1) 0 (Z0.next+2) 0 (Z0.next+10) 0 x.fields (AA nf) (AA k) Z') /\
   Fs Z0 Z' p K x (gs.set k v)/\Fr (fun b=>b=Z0.next+8) Z Z'/\SX Z0 Z' a' ((pk (decide (K=7)) (tg k) X).2.map (·.1))/\Gd Z0 Z' (tg k) (kd k) (pk (decide (K=7)) (tg k) X).1 v:=by
 have ht:=hs.fr.tidy
 have lt:=hs.lt
 obtain⟨q1,q2,q3,q4,q5⟩:=hF.leaf k hk
 have rd:=fun J=>hF.row.all (E:=E) hk J
 obtain⟨Z1,e1,f1,a1,n1⟩:=MY ht YC
 obtain⟨Z2,g2,f2,a2,n2⟩:=GH (n:=11) (o:=0) (v := .agg (fd k).c) f1.tidy a1 (by unfold Fd.c;simp[YC,Jg,Cj,DM,Gg,K7,Ql,(fd k).one2,(fd k).one3,(fd k).one5])
 have a2:CU Z2 Z.next (fd k).c:=a2
 have F2:Fr AN Z Z2:=f1.trans f2 (fun b hb e=>by omega)
 have ha2:SX Z0 Z2 a (X.map (·.1)):=ha.fr F2 ht (fun _ h=>h.elim)
 have hF2:=hF.fr F2 ht
 have hs2:=hs.fr' F2
 obtain⟨Z3,g3,f3⟩:=hI (t:=tg k) F2.tidy ha2.ela hM (by omega) (cb:=Z0.next) (fq:=Z.next) fun Z' u e he f ou=>
  hC hF.ptf hF.t4 f.tidy (f.at_ hF2.at_ F2.tidy (fun h=>h)) (hF.ptf _ _ F2.tidy f hF2.pt) ou (hX e he) q5 (f.at_ hs2.cb F2.tidy (fun h=>h)) (f.at_ a2 F2.tidy (fun h=>h)) (by rw[<-q1];rfl)
 have F3:Fr AN Z Z3:=F2.trans f3 (fun _ _ h=>h)
 have ha3:=ha2.fr f3 F2.tidy (fun _ h=>h.elim)
 have hF3:=hF2.fr f3 F2.tidy
 have hs3:=hs2.fr' f3
 have a3:=f3.at_ a2 F2.tidy (fun h=>h)
 have dk:decide (k<nf)=true:=decide_eq_true hk
 have self:gs.set k Vc.abs=gs:=by
  refine Ed fun i=>?_
  rw[List.getElem?_set]
  split
  ·rename_i e
   subst e
   rw[if_pos (by omega),hgk]
  ·rfl
 unfold Fd.c at rd g2
 unfold YC at e1
 have skip:(pk (decide (K=7)) (tg k) X)=(none,X)->(∀(K1:V->Nat->Nat->Nat->Nat->H->AG) (K3:V->Int->Nat->Nat->Nat->Nat->Nat->Nat->Nat->Nat->V->Int->Int->H->AG),Ij E D (AZ E D) K1 K3 a (AA dp) Z0.next 0 (Z0.next+1) 0 (Z0.next+2) 0 (Z0.next+10) 0 x.fields (AA nf) (AA k) Z=K3 a (AA dp) Z0.next 0 (Z0.next+1) 0 (Z0.next+2) 0 (Z0.next+10) 0 x.fields (AA nf) (AA k) Z3) ->
   ∃a' Z' v,(∀(K1:V->Nat->Nat->Nat->Nat->H->AG) (K3:V->Int->Nat->Nat->Nat->Nat->Nat->Nat->Nat->Nat->V->Int->Int->H->AG),Ij E D (AZ E D) K1 K3 a (AA dp) Z0.next 0 (Z0.next+1) 0 (Z0.next+2) 0 (Z0.next+10) 0 x.fields (AA nf) (AA k) Z=K3 a' (AA dp) Z0.next 0 (Z0.next+1) 0 (Z0.next+2) 0 (Z0.next+10) 0 x.fields (AA nf) (AA k) Z') /\
   Fs Z0 Z' p K x (gs.set k v)/\Fr (fun b=>b=Z0.next+8) Z Z'/\SX Z0 Z' a' ((pk (decide (K=7)) (tg k) X).2.map (·.1))/\Gd Z0 Z' (tg k) (kd k) (pk (decide (K=7)) (tg k) X).1 v:=fun e hg=>by
  rw[e]
  exact⟨a,Z3,Vc.abs,hg,by rw[self];exact hs3,Fr.to_any F3,ha3,rfl⟩
 cases hix:ko (tg k) X 0 with
 | none=>
  rw[hix]at g3
  have g3:D 63 [a,.fn 64 [] [.ptr Z0.next 0,.ptr Z.next 0]] Z2=some (.int .i64 (CG 0),Z3):=g3
  refine skip (by unfold pk;rw[hix]) fun K1 K3=>?_
  unfold Ij
  simp -implicitDefEqProofs only [↓rP,rA,AI,AP,AH,dk,↓rd,(fd k).one2,(fd k).one3,(fd k).one5,↓e1,↓g2,↓g3,show Cr (CG 0) (AA 0)=true from rfl]
 | some i=>
  rw[hix]at g3
  have g3:D 63 [a,.fn 64 [] [.ptr Z0.next 0,.ptr Z.next 0]] Z2=some (.int .i64 (AA i),Z3):=g3
  obtain⟨_,e,he,het⟩:=S6 hix
  rw[Lk]at he
  have hil:i<X.length:=(BL.1 he).1
  have l0:∀J:V->AG,BY E Z3 (Z0.next+1) 0 J=J (.int .i64 (AA K)):=fun J=>Cm hs3.xb (by rw[<-hK];rfl)
  have i0:decide (i<0)=false:=decide_eq_false (by omega)
  cases hsk:(decide (K=7)&&decide (0<i))with
  | true=>
   obtain⟨h7,hpos⟩:=Bool.and_eq_true_iff.1 hsk
   refine skip (by unfold pk;rw[hix];simp only[hsk]) fun K1 K3=>?_
   unfold Ij
   simp -implicitDefEqProofs only [↓rP,rA,AI,AP,AH,dk,↓rd,(fd k).one2,(fd k).one3,(fd k).one5,↓e1,↓g2,↓g3,i0,hpos,↓l0,Ca,h7]
  | false=>
   obtain⟨ev,Z4,v,d4,⟨y2,y3,y4,y5,y8,y9,Io,Kl,wj,pW⟩,f4,b4,gd4⟩:=iI (E:=E) (D:=D) (fv:=x.fields) (l:=AA nf) hV hF3 hs3 hk hg hdp ha3 he het (hX e (Cd he)) a3 (by omega) (by omega) (CK x.oneF)
   have F4:Fr (fun b=>b=Z0.next+8) Z Z4:=(Fr.to_any F3).trans f4 (fun _ _ h=>h)
   have ha4:=ha3.fr f4 F3.tidy (fun b hb=>by omega)
   obtain⟨pvs,s1,s2,s3⟩:=ha4
   have hl4:(X.map (·.1)).length=X.length:=Bm ..
   obtain⟨u,Z5,w,Z6,g5,uo,g6,wo,s6,nw,f6⟩:=hP F4.tidy s1 (TY fun j c hj=>by
    have hj':=(BL.1 hj).1
    have hlen:=s1.length
    obtain⟨c',hc',oc,_⟩:=s3 j _ (A6 (by omega))
    rw[hj]at hc';cases hc'
    exact oc.one) (i:=i) (by omega) (by omega)
   have gd:∀J:Bk->H->AG,Cp (AZ E D P6 Tq [(2,a),(3,.int .i64 (AA dp)),(4,.ptr Z0.next 0),(5,.ptr (Z0.next+1) 0),(8,.ptr (Z0.next+2) 0),(9,.ptr (Z0.next+10) 0),(10,.int .i64 (AA k)),(11,.ptr Z.next 0),(12,.int .i64 (AA i)),(23,x.fields),(24,.int .i64 (AA nf)),(25,.int .i64 (AA k))] Z3) J=J ev Z4:=fun J=>by rw[d4];rfl
   have z2:∀J:V->AG,BR ev 2 J=J a:=fun J=>Bg y2 (CK ha.ela.one)
   have z3:∀J:V->AG,BR ev 3 J=J (.int .i64 (AA dp)):=fun J=>Bg y3 rfl
   have z4:∀J:V->AG,BR ev 4 J=J (.ptr Z0.next 0):=fun J=>Bg y4 rfl
   have z5:∀J:V->AG,BR ev 5 J=J (.ptr (Z0.next+1) 0):=fun J=>Bg y5 rfl
   have z8:∀J:V->AG,BR ev 8 J=J (.ptr (Z0.next+2) 0):=fun J=>Bg y8 rfl
   have z9:∀J:V->AG,BR ev 9 J=J (.ptr (Z0.next+10) 0):=fun J=>Bg y9 rfl
   have z12:∀J:V->AG,BR ev 12 J=J (.int .i64 (AA i)):=fun J=>Bg Io rfl
   have z23:∀J:V->AG,BR ev 23 J=J x.fields:=fun J=>Bg Kl (CK x.oneF)
   have z24:∀J:V->AG,BR ev 24 J=J (.int .i64 (AA nf)):=fun J=>Bg wj rfl
   have z25:∀J:V->AG,BR ev 25 J=J (.int .i64 (AA k)):=fun J=>Bg pW rfl
   have lt3:Z0.next+12<=Z4.next:=BO hs3.lt f4.le
   have hs4:Fs Z0 Z4 p K x (gs.set k v):=by
    have fr4:Fr AN Z0 Z4:=hs3.fr.trans f4 (fun b hb e=>by omega)
    refine⟨fr4,f4.at_ hs3.cb F3.tidy (fun e=>by omega),f4.at_ hs3.xb F3.tidy (fun e=>by omega),f4.at_ hs3.rb F3.tidy (fun e=>by omega),?_,b4,lt3⟩
    rw[List.length_set]
    exact f4.at_ hs3.qv F3.tidy (fun e=>by omega)
   have F6:Fr (fun b=>b=Z0.next+8) Z Z6:=F4.trans (Fr.to_any f6) (fun _ _ h=>h)
   have hpk:pk (decide (K=7)) (tg k) X=(some e,X.eraseIdx i):=by unfold pk;rw[hix];simp only[hsk,he]
   refine⟨w,Z6,v,fun K1 K3=>?_,hs4.fr' f6,F6,?_,?_⟩
   ·have step:∀b7:Bool,decide (K=7)=b7->(b7&&decide (0<i))=false->Ij E D (AZ E D) K1 K3 a (AA dp) Z0.next 0 (Z0.next+1) 0 (Z0.next+2) 0 (Z0.next+10) 0 x.fields (AA nf) (AA k) Z=K3 w (AA dp) Z0.next 0 (Z0.next+1) 0 (Z0.next+2) 0 (Z0.next+10) 0 x.fields (AA nf) (AA k) Z6:=fun b7 h7 hb=>by
     have ad:=DN (show i+1<=9223372036854775807 by omega)
     cases hpos:decide (0<i)with
     | true=>
      rw[hpos,Wj]at hb
      subst hb
      unfold Ij
      simp -implicitDefEqProofs only [↓rP,rA,AI,AP,AH,dk,↓rd,(fd k).one2,(fd k).one3,(fd k).one5,↓e1,↓g2,↓g3,i0,hpos,↓l0,Ca,h7,↓gd,↓z2,↓z3,↓z4,↓z5,↓z8,↓z9,↓z12,↓z23,↓z24,↓z25,↓g5,↓BQ uo,ad,↓g6,↓BQ wo]
     | false=>
      unfold Ij
      simp -implicitDefEqProofs only [↓rP,rA,AI,AP,AH,dk,↓rd,(fd k).one2,(fd k).one3,(fd k).one5,↓e1,↓g2,↓g3,i0,hpos,↓gd,↓z2,↓z3,↓z4,↓z5,↓z8,↓z9,↓z12,↓z23,↓z24,↓z25,↓g5,↓BQ uo,ad,↓g6,↓BQ wo]
    exact step _ rfl hsk
   ·rw[hpk]
    refine⟨pvs.eraseIdx i,?_,fun b hb => .inr (BO lt3 (nw b hb)),fun j c hj=>?_⟩
    ·rw[Bm,wI hil,<-hl4];exact s6
    ·rw[Bh,List.getElem?_eraseIdx]at hj
     rw[List.getElem?_eraseIdx]
     split at hj
     ·rename_i hlt
      rw[if_pos hlt]
      obtain⟨u,a,b,c⟩:=s3 j c (by rw[Bh];exact hj)
      exact⟨u,a,b.fr0 f6 F4.tidy,c⟩
     ·rename_i hlt
      rw[if_neg hlt]
      obtain⟨u,a,b,c⟩:=s3 (j+1) c (by rw[Bh];exact hj)
      exact⟨u,a,b.fr0 f6 F4.tidy,c⟩
   ·rw[hpk]
    exact gd4.fr (S:=AN) f6 F4.tidy (fun _ _ h=>h)
end
section
variable {E:EB} {D:Al} {N M:Nat} {B W:List V->H->AG} {Pt:H->Prop} {Z0:H} {p nT:Nat} {ty:Nat->Ty} {Fa:List V} {tv:V} {x:Ty} {nf:Nat} {fd:Nat->Fd} {jt tg kd:Nat->Nat}
theorem ZQ (hV:X0 E (D 15)) {C:List V->H->AG} (hC:WB B W C) (hI:Ti M C (D 63)) (hP:OE (D 66) (D 65)) (ht0:BG Z0) (hF0:kE B W Pt Z0 p nT ty Fa tv x nf fd jt tg kd) {K dp:Nat} (hK:x.kind=AA K) (hp0:p<Z0.next) (hnf:nf<=10000) (hdp:dp<=16) :
    ∀(ts:List Nat) (k n':Nat) (Z:H) (a:V) (X:List El) (gs:List Vc) (os:List (Option El)),k+ts.length=nf->(∀i t,ts[i]? = some t->t=tg (k+i))->ts.length<n'->Fs Z0 Z p K x gs->gs.length=nf->(∀i,k<=i->i<nf->gs[i]? = some Vc.abs)->os.length=k->(∀i,i<k->∃o v,os[i]? = some o/\gs[i]? = some v/\Gd Z0 Z (tg i) (kd i) o v)->SX Z0 Z a (X.map (·.1))->(∀e∈X,SO e)->X.length<=5000->X.length<M ->
      ∃a' Z' gs',To E D (AZ E D) N n' a (AA dp) Z0.next 0 (Z0.next+1) 0 (Z0.next+2) 0 (Z0.next+10) 0 x.fields (AA nf) (AA k) Z=dm E D (AZ E D) N a' (Z0.next+2) 0 (Z0.next+10) 0 Z' /\
        Fs Z0 Z' p K x gs'/\gs'.length=nf/\SX Z0 Z' a' ((MW (decide (K=7)) ts X).2.map (·.1))/\(∀i,i<nf->∃o v,(os++(MW (decide (K=7)) ts X).1)[i]? = some o/\gs'[i]? = some v/\Gd Z0 Z' (tg i) (kd i) o v):=by
  intro ts
  induction ts with
  | nil=>
    intro k n' Z a X gs os hkn _ hn' hs hg _ ho hos ha _ _ _
    obtain⟨n',rfl⟩:∃q,n'=q+1:=⟨n'-1,by omega⟩
    have hk:k=nf:=hkn
    refine⟨a,Z,gs,?_,hs,hg,ha,fun i hi=>?_⟩
    · have d1:decide (k<nf)=false:=decide_eq_false (by omega)
      have key:∀K1 K3,Ij E D (AZ E D) K1 K3 a (AA dp) Z0.next 0 (Z0.next+1) 0 (Z0.next+2) 0 (Z0.next+10) 0 x.fields (AA nf) (AA k) Z=K1 a (Z0.next+2) 0 (Z0.next+10) 0 Z:=by
        intro K1 K3
        unfold Ij
        simp -implicitDefEqProofs only [↓rP,rA,AI,AP,AH,d1]
      exact key _ _
    · obtain⟨o,v,h1,h2,h3⟩:=hos i (by omega)
      exact⟨o,v,by rw[show (MW (decide (K=7)) [] X).1=[] from rfl,C6];exact h1,h2,h3⟩
  | cons t ts ih=>
    intro k n' Z a X gs os hkn hts hn' hs hg hga ho hos ha hX hX5 hXM
    obtain⟨n',rfl⟩:∃q,n'=q+1:=⟨n'-1,by omega⟩
    rw[Av]at hkn hn'
    have ht:t=tg k:=hts 0 t rfl
    subst ht
    obtain⟨a1,Z1,v,g1,hs1,f1,ha1,gd1⟩:=ZP (E:=E) (D:=D) hV hC hI hP (hF0.fr hs.fr ht0) hK hs hp0 (by omega) hg (hga k (AQ _) (by omega)) hdp ha hX hX5 hXM
    have pl:(pk (decide (K=7)) (tg k) X).2.length<=X.length:=Yx
    obtain⟨a',Z',gs',g',h1,h2,h3,h4⟩:=ih (k+1) n' Z1 a1 (pk (decide (K=7)) (tg k) X).2 (gs.set k v) (os++[(pk (decide (K=7)) (tg k) X).1]) (by omega) (fun i u hu=>by rw[hts (i+1) u hu];congr 1;omega) (by omega) hs1 (by rw[List.length_set];exact hg)
      (fun i h1 h2=>by rw[List.getElem?_set_ne (by omega)];exact hga i (by omega) h2) (by rw[AW,ho];rfl)
      (fun i hi=>by
        by_cases hik:i=k
        · subst hik
          refine⟨_,v,by rw[Bd (by omega),ho,Gv];rfl,by rw[List.getElem?_set_self (by omega)],gd1⟩
        · obtain⟨o,w,h1,h2,h3⟩:=hos i (by omega)
          exact⟨o,w,by rw[Ce (by omega)];exact h1,by rw[List.getElem?_set_ne (by omega)];exact h2,h3.fr f1 hs.fr.tidy (fun b hb e=>by omega)⟩)
      ha1 (fun e he=>hX e (Yw e he)) (by omega) (by omega)
    refine⟨a',Z',gs',?_,h1,h2,h3,fun i hi=>?_⟩
    · rw[<-g']
      refine(g1 _ _).trans ?_
      show To E D (AZ E D) N n' a1 (AA dp) Z0.next 0 (Z0.next+1) 0 (Z0.next+2) 0 (Z0.next+10) 0 x.fields (AA nf) (CM .i64 (AA k) (AA 1)) Z1=_
      rw[DN (show k+1<=9223372036854775807 by omega)]
    · obtain⟨o,w,q1,q2,q3⟩:=h4 i hi
      refine⟨o,w,?_,q2,q3⟩
      rw[SU]at q1
      exact q1
theorem Vu:∀n:Nat,HP (AY n Vc.abs)=(AY n Ee).flatten
 | 0=>rfl
 | n+1=>by
  rw[Et,Et,Ec,<-Vu n];rfl
theorem qY {y:AO} {em:Bk} {v:V} {b n:Nat} {c:T3} (hv:v = .sl b 0 n c) (h:B4 em y=v):BJ (.len false y) em=some (.int .i64 (AA n)):=by
 show (match B4 em y with
  | .nils=>some (V.int .i64 0)
  | .sl _ _ n _=>some (.int .i64 n)
  | .sle _ _ _ _=>some (.int .i64 0)
  | _=>none)=_
 rw[h,hv];rfl
theorem qU {el:TypeId} {y z:AO} {em:Bk} {n id:Nat} (hy:B4 em y = .int .i64 (AA n)) (hz:B4 em z = .int .i64 (AA n)) (hn:n<=10000):CN (.mkslice el 6 96 Ee y z) em id=some (.sl id 0 n (.ex n),.cells (HP (AY n Vc.abs))):=by
 show (match B4 em y,B4 em z with
  | .int .i64 n,.int .i64 c=>if 0<=n/\n<=c/\c*(96:Nat)<=281474976710656/\c<=1000000000000 then some (V.sl id 0 n.toNat (.ex c.toNat),Ea.cells (AY c.toNat Ee).flatten)else none
  | _,_=>none)=_
 rw[hy,hz]
 simp only[]
 rw[if_pos (by
  have:(AA n:Int)=(n:Int):=rfl
  refine⟨?_,?_,?_,?_⟩<;>omega),Vu]
 rfl
theorem XK {Z:H} {K dp:Nat} {l:V} (ht:BG Z) (hK:x.kind=AA K) (hr:Jw Z 11 nf x.fields fun k=>(fd k).c) (h0:0<nf) (hnf:nf<=10000) (lo:l.one=true) :
  ∃Z',(∀K2:V->Int->Nat->Nat->Nat->Nat->Nat->Nat->Nat->Nat->V->Int->Int->H->AG,Td E D (AZ E D) K2 (.ptr p 0) x.kind x.tags x.has x.hasLow x.hasHigh x.conMore x.low x.high x.items x.fields x.root x.more x.of_ l (AA dp) Z=K2 l (AA dp) Z.next 0 (Z.next+1) 0 (Z.next+2) 0 (Z.next+10) 0 x.fields (AA nf) (AA 0) Z') /\
   Fs Z Z' p K x (AY nf Vc.abs):=by
 obtain⟨fb,fc,fL,hfv,hfa,_⟩:∃b c L,x.fields = .sl b 0 nf c/\CU Z b L/\True:=by
  rcases hr.is with ⟨h,_⟩|⟨b,c,L,h1,h2,_⟩
  ·omega
  ·exact⟨b,c,L,h1,h2,trivial⟩
 obtain⟨Z1,e1,f1,a1,n1⟩:=MY ht [.ptr p 0]
 obtain⟨Z2,e2,f2,a2,n2⟩:=MY f1.tidy x.c
 obtain⟨Z3,e3,f3,a3,n3⟩:=MY f2.tidy Ee
 have F3:Fr AN Z Z3:=(f1.trans f2 (fun _ _ h=>h)).trans f3 (fun _ _ h=>h)
 have n13:Z3.next=Z.next+3:=by omega
 have c1:CU Z3 Z.next [.ptr p 0]:=f3.at_ (f2.at_ a1 f1.tidy (fun h=>h)) f2.tidy (fun h=>h)
 have c2:CU Z3 (Z.next+1) x.c:=by rw[<-n1];exact f3.at_ a2 f2.tidy (fun h=>h)
 have c3:CU Z3 (Z.next+2) Ee:=by rw[show Z.next+2=Z2.next by omega];exact a3
 let Z4:H:=⟨Z3.next+9,(Z3.next+7,.cells Ee)::(Z3.next+5,.cells (HP (AY nf Vc.abs)))::Z3.bl⟩
 have f4:Fr AN Z3 Z4:=by
  refine⟨fun k hk=>?_,Ll _ _,fun k hk _=>?_⟩
  ·have hk:Z3.next+9<=k:=hk
   show BB ((Z3.next+7,_)::(Z3.next+5,_)::Z3.bl) k=none
   rw[BA,if_neg (by simp only[];omega),BA,if_neg (by simp only[];omega)];exact f3.tidy k (by omega)
  ·show BB ((Z3.next+7,_)::(Z3.next+5,_)::Z3.bl) k=_
   rw[BA,if_neg (by simp only[];omega),BA,if_neg (by simp only[];omega)]
 have b5:CU Z4 (Z3.next+5) (HP (AY nf Vc.abs)):=by
  show BB ((Z3.next+7,_)::(Z3.next+5,_)::Z3.bl) _=_
  rw[BA,if_neg (by simp only[];omega),BA,if_pos rfl]
 have b7:CU Z4 (Z3.next+7) Ee:=by
  show BB ((Z3.next+7,_)::(Z3.next+5,_)::Z3.bl) _=_
  rw[BA,if_pos rfl]
 have F4:Fr AN Z Z4:=F3.trans f4 (fun _ _ h=>h)
 obtain⟨Z5,g5,f5,a5⟩:∃Z5,Dc E D (.store 6 (.tmp 9) (.tmp 21)) [(9,.ptr (Z3.next+7) 0),(21,.agg [.int .i64 (AA K),.int .i64 (AA 0),.nils,.sl (Z3.next+5) 0 nf (.ex nf),.int .i64 (AA 0),.nils])] Z4=some (.dead,Z5)/\Fr (fun b=>b=Z3.next+7) Z4 Z5/\CU Z5 (Z3.next+7) [.int .i64 (AA K),.int .i64 (AA 0),.nils,.sl (Z3.next+5) 0 nf (.ex nf),.int .i64 (AA 0),.nils]:=by
  obtain⟨Z5,r1,r2,r3⟩:=J3 (E:=E) (D:=D) (n:=6) (x := .tmp 9) (y := .tmp 21) (e:=[(9,.ptr (Z3.next+7) 0),(21,.agg [.int .i64 (AA K),.int .i64 (AA 0),.nils,.sl (Z3.next+5) 0 nf (.ex nf),.int .i64 (AA 0),.nils])]) F4.tidy b7 rfl (show (B4 [(9,.ptr (Z3.next+7) 0),(21,.agg [.int .i64 (AA K),.int .i64 (AA 0),.nils,.sl (Z3.next+5) 0 nf (.ex nf),.int .i64 (AA 0),.nils])] (.tmp 21)).cells=[.int .i64 (AA K),.int .i64 (AA 0),.nils,.sl (Z3.next+5) 0 nf (.ex nf),.int .i64 (AA 0),.nils] from rfl) rfl
  exact⟨Z5,r1,r2,r3⟩
 have fv1:=x.oneF
 have fb2:V.beq x.fields x.fields=true:=by rw[hfv];cases fc<;>simp[V.beq]
 have k0:x.c[0]? = some (.int .i64 (AA K)):=by rw[<-hK];rfl
 have go:Fz E D Z3 9 0 AN P7 Ts ⟨[(2,l),(3,.int .i64 (AA dp)),(4,.ptr Z.next 0),(5,.ptr (Z.next+1) 0),(8,.ptr (Z.next+2) 0)],Z3.next+9,[Z3.bl],[],0,[]⟩ _ Z5:=
  DW (.ptr (Z.next+1) 0) rfl rfl <|
  TB (.int .i64 (AA K)) (Cu (S:=AN) f3.tidy) rfl (Gh (b:=Z.next+1) (off:=0) rfl c2 k0 f3.tidy (fun h=>h) (Cv _ rfl)) fun _ r1=>
  DW (.ptr (Z.next+1) 9) rfl rfl <|
  TB x.fields r1 rfl (Gh (b:=Z.next+1) (off:=9) rfl c2 rfl f3.tidy (fun h=>h) fb2) fun _ r2=>
  DW (.int .i64 (AA nf)) rfl (qY (b:=fb) (c:=fc) hfv rfl) <|
  iH (.sl (Z3.next+5) 0 nf (.ex nf)) (.cells (HP (AY nf Vc.abs))) 32 r2 rfl (by decide) (by decide) (qU rfl rfl hnf) fun _ r3=>
  DW (.agg [.int .i64 (AA K),.int .i64 (AA 0),.nils,.sl (Z3.next+5) 0 nf (.ex nf),.int .i64 (AA 0),.nils]) rfl rfl <|
  iH (.ptr (Z3.next+7) 0) (.cells Ee) 160 r3 rfl (by decide) (by decide) rfl fun _ r4=>
  kq .dead r4 rfl (by decide) f5 (fun b h e=>by omega) (fun b e h1 h2=>by subst e;rw[Eb];decide) g5 fun _ _ _ r5=>
  KF r5
 obtain⟨q1,q2⟩:=IT (ops:=P7) go
 have q8:Z3.next+5=Z.next+8:=by omega
 have q10:Z3.next+7=Z.next+10:=by omega
 have F5:Fr AN Z Z5:=F3.trans q2 (fun _ _ h=>h)
 have s5:Z4.next<=Z5.next:=f5.le
 have s4:Z4.next=Z3.next+9:=rfl
 refine⟨Z5,fun K2=>?_,F5,q2.at_ c1 f3.tidy (fun h=>h),q2.at_ c2 f3.tidy (fun h=>h),q2.at_ c3 f3.tidy (fun h=>h),?_,?_,by omega⟩
 ·obtain⟨ev,d,y2,y3,y4,y5,y8,y9⟩:∃ev,AZ E D P7 Ts [(2,l),(3,.int .i64 (AA dp)),(4,.ptr Z.next 0),(5,.ptr (Z.next+1) 0),(8,.ptr (Z.next+2) 0)] Z3=some (ev,Z5)/\Go.Og.look ev 2=some l/\Go.Og.look ev 3=some (.int .i64 (AA dp))/\Go.Og.look ev 4=some (.ptr Z.next 0)/\Go.Og.look ev 5=some (.ptr (Z.next+1) 0)/\Go.Og.look ev 8=some (.ptr (Z.next+2) 0)/\Go.Og.look ev 9=some (.ptr (Z3.next+7) 0):=⟨_,q1,rfl,rfl,rfl,rfl,rfl,rfl⟩
  rw[q10]at y9
  have gd:∀J:Bk->H->AG,Cp (AZ E D P7 Ts [(2,l),(3,.int .i64 (AA dp)),(4,.ptr Z.next 0),(5,.ptr (Z.next+1) 0),(8,.ptr (Z.next+2) 0)] Z3) J=J ev Z5:=fun J=>by rw[d];rfl
  have z2:∀J:V->AG,BR ev 2 J=J l:=fun J=>Bg y2 (CK lo)
  have z3:∀J:V->AG,BR ev 3 J=J (.int .i64 (AA dp)):=fun J=>Bg y3 rfl
  have z4:∀J:V->AG,BR ev 4 J=J (.ptr Z.next 0):=fun J=>Bg y4 rfl
  have z5:∀J:V->AG,BR ev 5 J=J (.ptr (Z.next+1) 0):=fun J=>Bg y5 rfl
  have z8:∀J:V->AG,BR ev 8 J=J (.ptr (Z.next+2) 0):=fun J=>Bg y8 rfl
  have z9:∀J:V->AG,BR ev 9 J=J (.ptr (Z.next+10) 0):=fun J=>Bg y9 rfl
  have l9:∀J:V->AG,BY E Z5 (Z.next+1) (Ar 0 9) J=J x.fields:=fun J=>Cm (q2.at_ c2 f3.tidy (fun h=>h)) rfl
  have sl:=hr.len.2
  have ho:allOne (V.cells (.ptr p 0))=true:=rfl
  have e1:B6 Z (.cells (V.cells (.ptr p 0)))=Z1:=e1
  have hx:=x.oneT
  have hx2:=x.oneI
  unfold Ty.c at e2
  unfold Ee at e3
  have n2':Z2.next=Z.next+2:=by omega
  unfold Td Gi
  simp -implicitDefEqProofs only [↓rP,rA,AI,AP,AH,D7 ho,↓e1,hx,hx2,fv1,D7,↓e2,↓e3,n1,n2',↓gd,↓z2,↓z3,↓z4,↓z5,↓z8,↓z9,↓l9,↓sl]
 ·rw[JQ,<-q8,<-q10];exact a5
 ·rw[<-q8];exact f5.at_ b5 F4.tidy (fun e=>by omega)
end
def rwc (bs:List V):List V:=bs.flatMap fun b=>[.int .i64 (AA 0),b]
theorem gL (bs:List V) (b:V):rwc (bs++[b])=rwc bs++[.int .i64 (AA 0),b]:=by unfold rwc;simp
def KU (Z0 Z:H) (m:V) (ES:List (List Nat)):Prop:=∃bs:List V,JK Z 2 ES.length m (rwc bs)/\bs.length=ES.length/\(∀b,BK m b->Z0.next+12<=b)/\∀(i:Nat) (e:List Nat),ES[i]? = some e->∃b,bs[i]? = some b/\Oc Z b e/\(∀c,BK b c->Z0.next+12<=c)/\∀c,BK b c->¬BK m c
theorem KU.nil (Z0 Z:H):KU Z0 Z .nils []:=⟨[],JK.nil Z 2,rfl,fun _ h=>h.elim,fun i e h=>by simp at h⟩
theorem KU.one {Z0 Z:H} {m:V} {ES:List (List Nat)} (h:KU Z0 Z m ES):m.one=true:=by obtain⟨_,h,_⟩:=h;exact h.one
theorem KU.fr {S:Nat->Prop} {Z0 Z Z':H} {m:V} {ES:List (List Nat)} (h:KU Z0 Z m ES) (f:Fr S Z Z') (ht:BG Z) (hS:∀b,Z0.next+12<=b->b<Z.next->¬S b):KU Z0 Z' m ES:=by
 obtain⟨bs,h1,h2,h3,h4⟩:=h
 exact⟨bs,h1.fr f ht (fun b hb=>hS b (h3 b hb) (h1.lt ht hb)),h2,h3,fun i e hi=>by
  obtain⟨b,q1,q2,q3,q4⟩:=h4 i e hi
  exact⟨b,q1,q2.fr f ht (fun c hc=>hS c (q3 c hc) (q2.lt ht c hc)),q3,q4⟩⟩
theorem ADz {x:AO} {em:Bk} {z b:V} (hx:B4 em x=b) (h:b.one=true):BJ (.build [z,.nils] [(1,1,x)]) em=some (.agg [z,b]):=by
 have h12:b.live=true/\b.cells=[b]:=by cases b<;>first | exact⟨rfl,rfl⟩ | cases h
 show (match GY [(1,1,B4 em x)] [z,V.nils]with
  | some l=>some (V.agg l)
  | none=>none)=_
 rw[hx]
 unfold GY
 rw[h12.1,h12.2]
 rfl
theorem q0 {ty:TypeId} {x:AO} {em:Bk} {id:Nat} {b z y:V} (hx:B4 em x = .agg [z,b]) (hz:z.one=true) (h:b.one=true):CN (.buildSlice ty 1 [y,.nils] [(0,2,x)]) em id=some (.sl id 0 1 (.ex 1),.cells [z,b]):=by
 show (match GY [(0,2,B4 em x)] [y,V.nils]with
  | some l=>if allOne l then some (V.sl id 0 1 (.ex 1),Ea.cells l)else none
  | none=>none)=_
 rw[hx]
 show (if(z.one&&(b.one&&true))=true then _ else none)=_
 rw[hz,h];rfl
section
variable {E:EB} {D:Al} {N:Nat}
theorem gW (hC:Px (D 36)) {Z0 Z:H} {qb rb:Nat} {m u a:V} {c0 c1 c2 c3 r:V} {ES:List (List Nat)} {e:List Nat} {l k:Int} (ht:BG Z) (aq:CU Z qb [c0,c1,c2,c3,r,m]) (hm:KU Z0 Z m ES) (hn:ES.length<=10000) (hqb:Z0.next<=qb/\qb<Z0.next+12) (h12:Z0.next+12<=Z.next) (hu:Oc Z u e) (he:e.length<=1000000) (ao:a.one=true) :
    ∃ev Z' m',AZ E D P5 OJ [(8,.ptr rb 0),(9,.ptr qb 0),(14,u),(65,a),(66,.int .i64 l),(67,.int .i64 k)] Z=some (ev,Z') /\
      (Go.Og.look ev 8=some (.ptr rb 0)/\Go.Og.look ev 9=some (.ptr qb 0)/\Go.Og.look ev 65=some a/\Go.Og.look ev 66=some (.int .i64 l)/\Go.Og.look ev 67=some (.int .i64 k)) /\
      CU Z' qb [c0,c1,c2,c3,r,m']/\KU Z0 Z' m' (ES++[e])/\(∀c,BK m' c->Z.next<=c)/\Fr (fun b=>b=qb\/BK m b) Z Z':=by
  have fw:Fr AN Z ⟨Z.next+9,Z.bl⟩:=(Cu (E:=E) (n:=9) (S:=AN) ht).fr
  obtain⟨b,Z1,g1,ob,nb,f1⟩:=hC fw.tidy (hu.fr0 fw ht) he
  have F1:Fr AN Z Z1:=fw.trans f1 (fun _ _ h=>h)
  have n1:Z.next+9<=Z1.next:=f1.le
  have bo:=ob.one
  let Z2:H:=⟨Z1.next,(Z.next+5,.cells [.int .i64 (AA 0),b])::Z1.bl⟩
  have F2:Fr AN Z Z2:=⟨fun c hc=>by
    have hc:Z1.next<=c:=hc
    show BB ((Z.next+5,_)::Z1.bl) c=none
    rw[BA,if_neg (by simp only[];omega)];exact f1.tidy c hc,F1.le,fun c hc _=>by
    show BB ((Z.next+5,_)::Z1.bl) c=_
    rw[BA,if_neg (by simp only[];omega)];exact F1.same c hc (fun h=>h)⟩
  have a2:CU Z2 (Z.next+5) [.int .i64 (AA 0),b]:=by
    show BB ((Z.next+5,_)::Z1.bl) _=_
    rw[BA,if_pos rfl]
  have ob2:Oc Z2 b e:=by
    rcases ob with h|⟨q,o,c,M,rfl,hc,ha,h1,h2⟩
    · exact .inl h
    · have hq:Z.next+9<=q:=nb q rfl
      refine .inr ⟨q,o,c,M,rfl,hc,?_,h1,h2⟩
      show BB ((Z.next+5,_)::Z1.bl) q=_
      rw[BA,if_neg (by simp only[];omega)];exact ha
  obtain⟨bs,d1,hl,hnm,hbs⟩:=hm
  have d2:=d1.fr F2 ht (fun _ _ h=>h)
  obtain⟨Z3,g3,a3,n3,f3⟩:=TV (E:=E) (esz:=2) (bytes:=32) (n:=1) d2 F2.tidy (x := .sl (Z.next+5) 0 1 (.ex 1)) (m:=[.int .i64 (AA 0),b]) (.inr ⟨_,0,_,_,rfl,a2,by simp,rfl⟩) (by decide) (by simp[Cj,DM,bo,Gg]) (by
    unfold CT
    simp only[AF,A1];omega)
  have mlt:∀c,BK m c->c<Z.next:=fun c hc=>d1.lt ht hc
  have aq2:=F2.at_ aq ht (fun h=>h)
  have aq3:=f3.at_ aq2 F2.tidy (fun e=>by have:=hnm qb e;omega)
  have F3:Fr (BK m) Z Z3:=(Fr.to_any F2).trans f3 (fun _ _ h=>h)
  obtain⟨Z4,g4,f4,a4⟩:∃Z4,Dc E D (.store 1 (.tmp 79) (.tmp 78)) [(79,.ptr qb 5),(78,.sl Z2.next 0 (ES.length+1) (.op 2))] Z3=some (.dead,Z4)/\Fr (fun k=>k=qb) Z3 Z4/\CU Z4 qb [c0,c1,c2,c3,r,.sl Z2.next 0 (ES.length+1) (.op 2)]:=by
    obtain⟨Z4,r1,r2,r3⟩:=J3 (E:=E) (D:=D) (n:=1) (x := .tmp 79) (y := .tmp 78) (e:=[(79,.ptr qb 5),(78,.sl Z2.next 0 (ES.length+1) (.op 2))]) F3.tidy aq3 rfl (show (B4 [(79,.ptr qb 5),(78,.sl Z2.next 0 (ES.length+1) (.op 2))] (.tmp 78)).cells=[.sl Z2.next 0 (ES.length+1) (.op 2)] from rfl) rfl
    exact⟨Z4,r1,r2,r3⟩
  have uo:=hu.one
  have mb:V.beq m m=true:=by
    rcases d1 with (⟨_,h,_⟩|⟨q,h,_⟩)|⟨q,h,_⟩<;>subst h
    · rfl
    · simp[V.beq]
    · simp[V.beq]
  have go:HZ (QA E Z 9 OJ _ Z4) E D Z 9 0 P5 OJ ⟨[(8,.ptr rb 0),(9,.ptr qb 0),(14,u),(65,a),(66,.int .i64 l),(67,.int .i64 k)],Z.next+9,[Z.bl],[],0,[]⟩:=
    Cn (.ptr qb 5) rfl rfl <|
    VW m (Cu (S:=BK m) ht) rfl (Gh (b:=qb) (off:=5) rfl aq rfl ht (fun e=>by have:=hnm qb e;omega) mb) fun r1=>
    Cn u rfl (Fl rfl (CK uo)) <|
    S8 b r1 rfl (by decide) (S':=AN) f1 (fun _ _ h=>h.elim) (fun _ h _ _=>h.elim) (FH (vs:=[u]) rfl (by rw[Bq,CK uo];rfl) g1) fun _ _ r2=>
    Cn (.agg [.int .i64 (AA 0),b]) rfl (ADz rfl bo) <|
    xk (.sl (Z.next+5) 0 1 (.ex 1)) (.cells [.int .i64 (AA 0),b]) 32 r2 rfl (by decide) (by decide) (q0 rfl rfl bo) fun _ r3=>
    S8 (.sl Z2.next 0 (ES.length+1) (.op 2)) r3 rfl (by decide) f3 (fun _ _ h=>h) (fun c h h1 _=>by have:=mlt c h;omega) (Rv rfl rfl g3) fun _ _ r4=>
    Cn (.ptr qb 5) rfl rfl <|
    iG .dead r4 rfl (by decide) f4 (fun c h h1 _=>by omega) g4 (fun x hx=>by
      rcases AS.1 hx with rfl|hx
      · show Nj OJ 1 [8,6,3] []=false
        decide
      · cases hx)
  have d:=Nu (ops:=P5) go
  have F4:Fr (fun b=>b=qb\/BK m b) Z Z4:=(F3.mono fun _ _ h => .inr h).trans (f4.mono fun _ _ h => .inl h) (fun _ _ h=>h)
  refine⟨_,Z4,_,d,⟨rfl,rfl,rfl,rfl,rfl⟩,a4,⟨bs++[b],?_,by rw[AW,AW,hl];rfl,fun c hc=>by cases hc;show Z0.next+12<=Z1.next;omega,fun i e' hi=>?_⟩,fun c hc=>by cases hc;show Z.next<=Z1.next;omega,F4⟩
  · rw[AW,gL]
    exact .inl (.inr ⟨Z2.next,rfl,f4.at_ a3 F3.tidy (fun e=>by have:Z1.next=qb:=e;omega),by simp,by rw[AW,d1.length];simp;omega⟩)
  · have nnew:∀w e',Oc Z2 w e'->∀c,BK w c->¬BK (V.sl Z2.next 0 (ES.length+1) (.op 2)) c:=fun w e' ow c hc hc'=>by
      have:=ow.lt F2.tidy c hc
      have hc':c=Z2.next:=hc'
      omega
    by_cases hil:i<ES.length
    · rw[Ce hil]at hi
      obtain⟨b',q1,q2,q3,q4⟩:=hbs i e' hi
      have q22:=q2.fr0 F2 ht
      exact⟨b',by rw[Ce (by omega)];exact q1,(q22.fr f3 F2.tidy q4).fr f4 F3.tidy (fun c hc e=>by have:=q3 c hc;omega),q3,nnew _ _ q22⟩
    · have hlt:=(BL.1 hi).1
      rw[AW,JP]at hlt
      have:i=ES.length:=by omega
      subst this
      rw[Bd (AQ _)]at hi
      simp at hi
      subst hi
      refine⟨b,by rw[Bd (by omega)];simp[hl],(ob2.fr f3 F2.tidy (fun c hc e=>by have:Z.next+9<=c:=nb c hc;have:=mlt c e;omega)).fr f4 F3.tidy (fun c hc e=>by have:Z.next+9<=c:=nb c hc;omega),fun c hc=>by have:Z.next+9<=c:=nb c hc;omega,nnew _ _ ob2⟩
end
def wP (ES:List (List Nat)):Nat:=match ES with
 | []=>0
 | _=>1
def cK (B W:List V->H->AG) (M:Nat) (F:List V->H->AG):Prop:=∀{Pt:H->Prop} {Z:H} {p nT nf K dp:Nat} {ty:Nat->Ty} {Fa:List V} {tv l:V} {x:Ty} {fd:Nat->Fd} {jt tg kd:Nat->Nat} {X:List El} {ts:List Nat},BG Z->kE B W Pt Z p nT ty Fa tv x nf fd jt tg kd->x.kind=AA K->p<Z.next->0<nf->nf<=1000->dp<=16->SX Z Z l (X.map (·.1))->(∀e∈X,SO e)->X.length<=5000->X.length<M->ts.length=nf->(∀i t,ts[i]? = some t->t=tg i) ->
 ∃Z' gs m,F [.ptr p 0,.agg x.c,l,.int .i64 (AA dp)] Z=some (.agg [.int .i64 (AA K),.int .i64 (AA 0),.nils,.sl (Z.next+8) 0 nf (.ex nf),.int .i64 (AA (wP ((MW (decide (K=7)) ts X).2.map (·.1)))),m],Z') /\
  gs.length=nf/\CU Z' (Z.next+8) (HP gs)/\(∀i,i<nf->∃o v,(MW (decide (K=7)) ts X).1[i]? = some o/\gs[i]? = some v/\Gd Z Z' (tg i) (kd i) o v)/\KU Z Z' m ((MW (decide (K=7)) ts X).2.map (·.1))/\((MW (decide (K=7)) ts X).2=[]->m = .nils)/\Fr AN Z Z'
theorem SX.get {E:EB} {Z0 Z:H} {v:V} {EL:List (List Nat)} (h:SX Z0 Z v EL) {i:Nat} {e:List Nat} (hi:EL[i]? = some e):∃u,(∀J:V->AG,Ab 1 v (AA i) (fun b o=>BY E Z b o J)=J u)/\Oc Z u e/\∀b,BK u b->b<Z0.next:=by
 obtain⟨pvs,h1,_,h3⟩:=h
 obtain⟨u,hu,ou,nu⟩:=h3 i e hi
 have hlt:=(BL.1 hi).1
 refine⟨u,fun J=>?_,ou,nu⟩
 rcases h1 with ⟨h0,_,_⟩|⟨q,o,cp,M,rfl,ha,hl,hm⟩
 ·omega
 ·rw[Dr hlt]
  show BY E Z q (o+i*1) J=_
  rw[CQ]
  refine Cm ha ?_
  rw[hm,EM (by omega),C5]at hu
  exact hu
theorem VG {sq:Bool}:∀{ts:List Nat} {X:List El},∀e∈(MW sq ts X).2,e∈X
 | [],X,e,h=>h
 | t::ts,X,e,h=>Yw e (VG (ts:=ts) e h)
theorem VH {sq:Bool}:∀{ts:List Nat} {X:List El},(MW sq ts X).2.length<=X.length
 | [],X=>AQ _
 | t::ts,X=>BO (VH (ts:=ts)) Yx
section
variable {E:EB} {D:Al} {N M:Nat} {B W:List V->H->AG}
theorem gp {Z:H} {f q:Nat} {k n r:Int} {b l m:V} {z:List V} (ht:BG Z) (af:CU Z f z) (hz:z.length=6) (aq:CU Z q [.int .i64 k,.int .i64 n,b,l,.int .i64 r,m]) (bo:b.one=true) (lo:l.one=true) (mo:m.one=true):∃Z',V0 E D (AZ E D) f 0 q 0 Z=some (.agg [.int .i64 k,.int .i64 n,b,l,.int .i64 r,m],Z')/\Fr (fun k=>k=f) Z Z':=by
 have ho:allOne [.int .i64 k,.int .i64 n,b,l,.int .i64 r,m]=true:=by simp[Cj,DM,bo,lo,mo,Gg]
 obtain⟨Z',g,f',a',n'⟩:=GH (n:=6) (o:=0) (v := .agg [.int .i64 k,.int .i64 n,b,l,.int .i64 r,m]) ht af (by
  show (AK 6 6&&Ag (Ar 0 6) z.length&&allOne [.int .i64 k,.int .i64 n,b,l,.int .i64 r,m])=true
  rw[ho,hz];rfl)
 have a':CU Z' f [.int .i64 k,.int .i64 n,b,l,.int .i64 r,m]:=by
  match z,hz,a' with
  | [a,b,c,d,e,f],_,a'=>exact a'
 refine⟨Z',?_,f'⟩
 unfold V0
 simp -implicitDefEqProofs only [↓rP,rA,AI,AP,AH,↓Bo aq,bo,lo,mo,↓g,↓Bo a']
theorem W9 (hC:Px (D 36)) {Z0 Zs:H} {rb qb:Nat} {a S:V} {kk:Int} {ES:List (List Nat)} (hs:BG Zs) (f0:Fr AN Z0 Zs) (hqb:Z0.next<=qb/\qb<Z0.next+12) (h12:Z0.next+12<=Zs.next) (hES:∀e∈ES,e.length<=1000000) (hn:ES.length<=9000) (ha:SX Z0 Zs a ES) (So:S.one=true) :
  ∀(R done:List (List Nat)) (n':Nat) (Z:H) (m:V),done++R=ES->R.length<n'->Fr (fun b=>b=qb) Zs Z->CU Z qb [.int .i64 kk,.int .i64 (AA 0),.nils,S,.int .i64 (AA (wP done)),m]->KU Z0 Z m done->(∀b,BK m b->Zs.next<=b) ->
   ∃Z' m',dH E D (AZ E D) N n' rb 0 qb 0 a (AA ES.length) (AA done.length) Z=V0 E D (AZ E D) rb 0 qb 0 Z'/\Fr (fun b=>b=qb) Zs Z'/\CU Z' qb [.int .i64 kk,.int .i64 (AA 0),.nils,S,.int .i64 (AA (wP ES)),m']/\KU Z0 Z' m' ES/\(R=[]->m'=m):=by
 intro R
 induction R with
 | nil=>
  intro done n' Z m he hn' f aq hm _
  obtain⟨n',rfl⟩:∃q,n'=q+1:=⟨n'-1,by omega⟩
  rw[C6]at he
  refine⟨Z,m,?_,f,he ▸ aq,he ▸ hm,fun _=>rfl⟩
  rw[<-he]
  have d1:decide (done.length<done.length)=false:=decide_eq_false (Mv _)
  have key:∀K4 R5,Pj E D (AZ E D) K4 R5 rb 0 qb 0 a (AA done.length) (AA done.length) Z=K4 rb 0 qb 0 Z:=by
   intro K4 R5
   unfold Pj
   simp -implicitDefEqProofs only [↓rP,rA,AI,AP,AH,d1]
  exact key _ _
 | cons e R ih=>
  intro done n' Z m he hn' f aq hm hmn
  obtain⟨n',rfl⟩:∃q,n'=q+1:=⟨n'-1,by omega⟩
  have hl:ES.length=done.length+(R.length+1):=by rw[<-he,AW,Av]
  have hx:ES[done.length]? = some e:=by rw[<-he,Bd (AQ _),Gv];rfl
  have hmem:=Cd hx
  have haσ:SX Z0 Z a ES:=ha.fr f hs (fun b hb=>by omega)
  obtain⟨u,g,ou,nu⟩:=haσ.get (E:=E) hx
  have s0n:Z0.next<=Zs.next:=f0.le
  obtain⟨Z1,g1,f1,a1,n1⟩:=GH (n:=1) (o:=4) (v := .int .i64 (AA 1)) f.tidy aq rfl
  have a1:CU Z1 qb [.int .i64 kk,.int .i64 (AA 0),.nils,S,.int .i64 (AA 1),m]:=a1
  have g1:∀J:H->AG,FY 1 qb (Ar 0 4) (.int .i64 (AA 1)) Z J=J Z1:=g1
  have lf:Zs.next<=Z.next:=f.le
  have lf1:Z.next<=Z1.next:=f1.le
  have ou1:Oc Z1 u e:=ou.fr f1 f.tidy (fun b hb e=>by have:=nu b hb;omega)
  have hm1:KU Z0 Z1 m done:=hm.fr f1 f.tidy (fun b hb _ e=>by omega)
  have ao:=ha.ela.one
  obtain⟨ev,Z2,m',d,⟨y8,y9,y65,y66,y67⟩,aq2,hm2,nm2,f2⟩:=gW (E:=E) (D:=D) (rb:=rb) (l:=AA ES.length) (k:=AA done.length) hC f1.tidy a1 hm1 (by omega) hqb (by omega) ou1 (hES e hmem) ao
  have F1:Fr (fun b=>b=qb) Zs Z1:=f.trans f1 (fun _ _ h=>h)
  have F2:Fr (fun b=>b=qb) Zs Z2:=F1.trans f2 (fun b hb h=>h.elim id (fun h=>by have:=hmn b h;omega))
  have r1:wP (done++[e])=1:=by cases done<;>rfl
  obtain⟨Z',m'',g',q1,q2,q3,_⟩:=ih (done++[e]) n' Z2 m' (by rw[<-he];simp) (by simp only[Av]at hn';omega) F2 (by rw[r1];exact aq2) hm2 (fun b hb=>by have:=nm2 b hb;omega)
  rw[AW,JP]at g'
  refine⟨Z',m'',?_,q1,q2,q3,fun h=>by cases h⟩
  rw[<-g']
  have d1:decide (done.length<ES.length)=true:=decide_eq_true (by omega)
  have gd:∀J:Bk->H->AG,Cp (AZ E D P5 OJ [(8,.ptr rb 0),(9,.ptr qb 0),(14,u),(65,a),(66,.int .i64 (AA ES.length)),(67,.int .i64 (AA done.length))] Z1) J=J ev Z2:=fun J=>by rw[d];rfl
  have z8:∀J:V->AG,BR ev 8 J=J (.ptr rb 0):=fun J=>Bg y8 rfl
  have z9:∀J:V->AG,BR ev 9 J=J (.ptr qb 0):=fun J=>Bg y9 rfl
  have z65:∀J:V->AG,BR ev 65 J=J a:=fun J=>Bg y65 (CK ao)
  have z66:∀J:V->AG,BR ev 66 J=J (.int .i64 (AA ES.length)):=fun J=>Bg y66 rfl
  have z67:∀J:V->AG,BR ev 67 J=J (.int .i64 (AA done.length)):=fun J=>Bg y67 rfl
  have key:∀K4 R5,Pj E D (AZ E D) K4 R5 rb 0 qb 0 a (AA ES.length) (AA done.length) Z=R5 rb 0 qb 0 a (AA ES.length) (AA (done.length+1)) Z2:=by
   intro K4 R5
   unfold Pj
   simp -implicitDefEqProofs only [↓rP,rA,AI,AP,AH,d1,↓g,↓g1,↓gd,↓z8,↓z9,↓z65,↓z66,↓z67,DN (show done.length+1<=9223372036854775807 by omega)]
  exact key _ _
theorem xT (hV:X0 E (D 15)) {C:List V->H->AG} (hCl:WB B W C) (hI:Ti M C (D 63)) (hP:OE (D 66) (D 65)) (hC:Px (D 36)) (hN:9000<N):cK B W M (wY E D (AZ E D) N):=by
 intro Pt Z p nT nf K dp ty Fa tv l x fd jt tg kd X ts ht hF hK hp h0 hnf hdp hl hX hX5 hXM hts htg
 obtain⟨Z1,g1,s1⟩:=XK (E:=E) (D:=D) (p:=p) (dp:=dp) (l:=l) ht hK hF.row h0 (by omega) hl.ela.one
 obtain⟨a,Z2,gs,g2,s2,hg,ha,hgd⟩:=ZQ (E:=E) (D:=D) (N:=N) hV hCl hI hP ht hF hK hp (by omega) hdp ts 0 N Z1 l X (AY nf Vc.abs) [] (by omega) (fun i t h=>by rw[Bp];exact htg i t h) (by omega) s1 JQ
  (fun i _ hi=>by rw[List.getElem?_replicate,if_pos hi]) rfl (fun i hi=>absurd hi (fV i)) (hl.fr s1.fr ht (fun _ h=>h.elim)) hX hX5 hXM
 have lES:((MW (decide (K=7)) ts X).2.map (·.1)).length<=X.length:=by rw[Bm];exact VH
 obtain⟨Z3,m,g3,f3,a3,r3,hm0⟩:=W9 (E:=E) (D:=D) (N:=N) (rb:=Z.next+2) (qb:=Z.next+10) (a:=a) (S := .sl (Z.next+8) 0 gs.length (.ex gs.length)) (kk:=AA K) (ES:=(MW (decide (K=7)) ts X).2.map (·.1)) hC s2.fr.tidy s2.fr ⟨by omega,by omega⟩ s2.lt (fun e he=>by
   obtain⟨y,hy,rfl⟩:=Du.1 he
   have:=(hX y (VG y hy)).2.1
   omega) (by omega) ha rfl _ [] N Z2 .nils (Dy _) (by omega) (Fr.refl s2.fr.tidy) s2.qv (KU.nil _ _) (fun _ h=>h.elim)
 have rb3:=f3.at_ s2.rb s2.fr.tidy (fun e=>by omega)
 have F3:Fr AN Z Z3:=s2.fr.trans f3 (fun b hb e=>by omega)
 obtain⟨Z4,g4,f4⟩:=gp (E:=E) (D:=D) F3.tidy rb3 rfl a3 rfl rfl r3.one
 have l12:=s2.lt
 have n3:Z2.next<=Z3.next:=f3.le
 refine⟨Z4,gs,m,?_,hg,?_,fun i hi=>?_,r3.fr f4 F3.tidy (fun b hb _ e=>by omega),fun h=>hm0 (by rw[h];rfl),F3.trans f4 (fun b hb e=>by omega)⟩
 ·rw[hg]at g4
  rw[<-g4]
  show Td E D (AZ E D) (To E D (AZ E D) N N) (.ptr p 0) x.kind x.tags x.has x.hasLow x.hasHigh x.conMore x.low x.high x.items x.fields x.root x.more x.of_ l (AA dp) Z=_
  rw[g1]
  refine g2.trans ?_
  rw[<-g3]
  have sl:=ha.ela.slen
  have key:∀K5,V1 E D (AZ E D) K5 a (Z.next+2) 0 (Z.next+10) 0 Z2=K5 (Z.next+2) 0 (Z.next+10) 0 a (AA ((MW (decide (K=7)) ts X).2.map (·.1)).length) (AA 0) Z2:=by
   intro K5
   unfold V1
   simp -implicitDefEqProofs only [↓rP,rA,AI,AP,AH,↓sl]
  exact key _
 ·exact f4.at_ (f3.at_ s2.lb s2.fr.tidy (fun e=>by omega)) F3.tidy (fun e=>by omega)
 ·obtain⟨o,v,h1,h2,h3⟩:=hgd i hi
  exact⟨o,v,h1,h2,(h3.fr f3 s2.fr.tidy (fun b hb e=>by omega)).fr f4 F3.tidy (fun b hb e=>by omega)⟩
end
def sB (B W:List V->H->AG) (M:Nat) (F:List V->H->AG):Prop:=∀{Pt:H->Prop} {Z:H} {p nT i0 nf K dp un:Nat} {ty:Nat->Ty} {Fa:List V} {tv u:V} {fd:Nat->Fd} {jt tg kd:Nat->Nat} {X:List El} {ts:List Nat} {L:List Nat} {mk:Bool} {h:Nat},BG Z->kE B W Pt Z p nT ty Fa tv (ty i0) nf fd jt tg kd->(∃nm nv rv,Fa=[.str nm,nv,rv,tv])->Jw Z 13 nT tv (fun i=>(ty i).c)->i0<nT->(ty i0).kind=AA K->(K=7\/K=8)->IH Z 2 1 (ty i0).tags [.int .i64 (AA 0),.int .i64 (AA un)]->Oc Z u L->Kk L->kS L 0 un mk (X.map (·.1)).flatten h->L.length<=1000000 ->
 0<nf->nf<=1000->dp<=16->(∀e∈X,SO e)->X.length<=5000->X.length<M->ts.length=nf->(∀i t,ts[i]? = some t->t=tg i) ->
 ∃Zb Z' q gs m,F [.ptr p 0,.int .i64 (AA i0),u,.int .i64 (AA dp)] Z=some (.agg [.int .i64 (AA K),.int .i64 (AA 0),.nils,.sl q 0 nf (.ex nf),.int .i64 (AA (wP ((MW (decide (K=7)) ts X).2.map (·.1)))),m],Z') /\
  gs.length=nf/\CU Z' q (HP gs)/\(∀i,i<nf->∃o v,(MW (decide (K=7)) ts X).1[i]? = some o/\gs[i]? = some v/\Gd Zb Z' (tg i) (kd i) o v)/\KU Zb Z' m ((MW (decide (K=7)) ts X).2.map (·.1))/\((MW (decide (K=7)) ts X).2=[]->m = .nils)/\Fr AN Z Z'
theorem xa {p:Nat} {l:List V} {u:V} {j:Int} (h:u.live=true):[V.ptr p 0,.agg l,u,.int .i64 j].all V.live=true:=by rw[Bq,Bq,Bq,h];rfl
theorem xd {p:Nat} {u:V} (h:u.live=true):[V.ptr p 0,u].all V.live=true:=by rw[Bq,Bq,h];rfl
section
variable {E:EB} {D:Al} {N M:Nat} {B W:List V->H->AG}
theorem xK {N2:Nat} (hI:Lc (D 33)) (hS:R7 N2 (D 38)) (hN2:M<=N2) (hNf:cK B W M (D 39)):sB B W M (kK E D (AZ E D) N):=by
 intro Pt Z p nT i0 nf K dp un ty Fa tv u fd jt tg kd X ts L mk h ht hF htab hrow hi hK hKs htags hu hb hel hL h0 hnf hdp hX hX5 hXM hts htg
 obtain⟨nm,nv,rv,rfl⟩:=htab
 obtain⟨Z1,e1,f1,a1,n1⟩:=MY ht Ee
 have hp1:=f1.at_ hF.at_ ht (fun h=>h)
 have rd:∀J,Ab 13 tv (AA i0) (fun b o=>BV E Z1 b o 13 J)=J (ty i0).c:=fun J=>(hrow.fr0 f1 ht).all hi J
 have tlen:=hrow.len.2
 obtain⟨Z2,e2,f2,a2,n2⟩:=MY f1.tidy PB
 obtain⟨Z3,g3,f3,a3,n3⟩:=GH (n:=13) (o:=0) (v := .agg (ty i0).c) f2.tidy a2 (by unfold Ty.c;simp[PB,Jg,Cj,DM,Gg,K7,(ty i0).oneT,(ty i0).oneI,(ty i0).oneF])
 have a3:CU Z3 Z1.next (ty i0).c:=a3
 have F3:Fr AN Z Z3:=(f1.trans f2 (fun _ _ h=>h)).trans f3 (fun b hb e=>by omega)
 have hp3:=F3.at_ hF.at_ ht (fun h=>h)
 obtain⟨w,Z4,g4,ow,nw,f4⟩:=hI F3.tidy hp3 (hu.fr0 F3 ht) hb hel hL (htags.fr F3 ht (fun _ _ h=>h))
 have wo:=ow.one
 have F4:Fr AN Z Z4:=F3.trans f4 (fun _ _ h=>h)
 have a4:=f4.at_ a3 F3.tidy (fun h=>h)
 obtain⟨Z5,e5,f5,a5,n5⟩:=MY F4.tidy Ee
 obtain⟨Z6,g6,f6,a6,n6⟩:=GH (n:=6) (o:=0) (v := .agg [.int .i64 (AA K),.int .i64 (AA 0),.nils,.nils,.int .i64 (AA 0),.nils]) f5.tidy a5 rfl
 have le1:=f1.le
 have le34:=f4.le
 have le23:Z2.next<=Z3.next:=f3.le
 have le56:Z5.next<=Z6.next:=f6.le
 have F5:Fr AN Z Z5:=F4.trans f5 (fun _ _ h=>h)
 have F6:Fr AN Z Z6:=F5.trans f6 (fun b hb e=>by omega)
 have a46:CU Z6 Z1.next (ty i0).c:=f6.at_ (f5.at_ a4 F4.tidy (fun h=>h)) f5.tidy (fun e=>by omega)
 have af6:CU Z6 Z.next Ee:=by
  have x2:=f2.at_ a1 f1.tidy (fun h=>h)
  have x3:=f3.at_ x2 f2.tidy (fun e=>by omega)
  have x4:=f4.at_ x3 F3.tidy (fun h=>h)
  have x5:=f5.at_ x4 F4.tidy (fun h=>h)
  exact f6.at_ x5 f5.tidy (fun e=>by omega)
 have ow6:Oc Z6 w (X.map (·.1)).flatten:=(ow.fr0 f5 F4.tidy).fr f6 f5.tidy fun b hb e=>by
  have:=ow.lt F4.tidy b hb
  omega
 have lf:∀J:V->AG,BY E Z1 p 0 J=J (.bool false):=fun J=>Cm hp1 rfl
 have lt4:∀J:V->AG,BY E Z1 p (Ar (Ar 0 1) 3) J=J tv:=fun J=>Cm hp1 rfl
 have l1:∀J:V->AG,BY E Z3 Z1.next 1 J=J (ty i0).tags:=fun J=>Cm a3 rfl
 have l0:∀J:V->AG,BY E Z4 Z1.next 0 J=J (.int .i64 (AA K)):=fun J=>Cm a4 (by rw[<-hK];rfl)
 have l06:∀J:V->AG,BY E Z6 Z1.next 0 J=J (.int .i64 (AA K)):=fun J=>Cm a46 (by rw[<-hK];rfl)
 have dj:decide (nT<=i0)=false:=decide_eq_false (by omega)
 have dd:decide (17<dp)=false:=decide_eq_false (by omega)
 have j0:decide (i0<0)=false:=decide_eq_false (by omega)
 have hp6:=F6.at_ hF.at_ ht (fun h=>h)
 have fw:Fr AN Z6 ⟨Z6.next+10,Z6.bl⟩:=(Cu (E:=E) (n:=10) (S:=AN) F6.tidy).fr
 have Fw:=F6.trans fw (fun _ _ h=>h)
 have hbody:Kk (X.map (·.1)).flatten:=fun c hc=>hb c (Kg (hel.body ▸ hc))
 have hlb:(X.map (·.1)).flatten.length<=1000000:=by have:=hel.len;omega
 obtain⟨l,Z7,g7,els,f7⟩:=hS fw.tidy (Fw.at_ hF.at_ ht (fun h=>h)) (ow6.fr0 fw F6.tidy) hbody (fun e he=>by
  obtain⟨y,hy,rfl⟩:=Du.1 he
  obtain⟨_,_,mk,body,h,hh⟩:=hX y hy
  exact⟨_,_,mk,body,h,hh⟩) hlb (by rw[Bm];omega) (by rw[Bm];omega)
 have F7:Fr AN Z Z7:=Fw.trans f7 (fun _ _ h=>h)
 have lo:=els.one
 have elx:SX Z7 Z7 l (X.map (·.1)):=by
  obtain⟨pvs,d1,_,d3⟩:=els
  have:=f7.le
  exact⟨pvs,d1.src,fun b hb => .inl (d1.lt f7.tidy hb),fun i e hi=>by
   obtain⟨u,q1,q2,q3⟩:=d3 i e hi
   exact⟨u,q1,q2,fun b hb=>by have:=q3 b hb;omega⟩⟩
 have pl:p<Z.next:=hF.at_.lt ht
 have nn7:=F7.le
 obtain⟨Z8,gs,m,g8,hg,hlb8,hgd,hr8,hm0,f8⟩:=hNf (dp:=dp) (ts:=ts) f7.tidy (hF.fr F7 ht) hK (by omega) h0 hnf hdp elx hX hX5 hXM hts htg
 have F8:Fr AN Z Z8:=F7.trans f8 (fun _ _ h=>h)
 have af8:CU Z8 Z.next Ee:=f8.at_ (f7.at_ (fw.at_ af6 F6.tidy (fun h=>h)) fw.tidy (fun h=>h)) f7.tidy (fun h=>h)
 have mo:=hr8.one
 have n67:Z6.next+10<=Z7.next:=f7.le
 have s1:Z1.next=Z.next+1:=n1
 obtain⟨vc,hvc⟩:∃vc,vc=[V.int .i64 (AA K),.int .i64 (AA 0),.nils,.sl (Z7.next+8) 0 nf (.ex nf),.int .i64 (AA (wP ((MW (decide (K=7)) ts X).2.map (·.1)))),m]:=⟨_,rfl⟩
 have vo:allOne vc=true:=by rw[hvc];simp[Cj,DM,mo,Gg];exact⟨rfl,rfl⟩
 have vl:vc.length=6:=by rw[hvc];rfl
 rw[<-hvc]at g8
 obtain⟨Z9,g9,f9,a9⟩:∃Z9,Dc E D (.store 6 (.tmp 8) (.tmp 165)) [(8,.ptr Z.next 0),(165,.agg vc)] Z8=some (.dead,Z9)/\Fr (fun b=>b=Z.next) Z8 Z9/\CU Z9 Z.next vc:=by
  obtain⟨Z9,r1,r2,r3⟩:=J3 (E:=E) (D:=D) (n:=6) (x := .tmp 8) (y := .tmp 165) (e:=[(8,.ptr Z.next 0),(165,.agg vc)]) F8.tidy af8 rfl (show (B4 [(8,.ptr Z.next 0),(165,.agg vc)] (.tmp 165)).cells=vc from rfl) (by rw[vo,vl];rfl)
  have:HQ Ee 0 vc=vc:=by rw[hvc];rfl
  rw[this]at r3
  exact⟨Z9,r1,r2,r3⟩
 have cb:V.beq (.agg (ty i0).c) (.agg (ty i0).c)=true:=by
  have h1:V.beq (ty i0).tags (ty i0).tags=true:=by
   rcases htags with ⟨h,_,_⟩|⟨b,o,c,M',h,_⟩
   ·omega
   ·rw[h];cases c<;>simp[V.beq]
  have h2:V.beq (ty i0).fields (ty i0).fields=true:=by
   rcases hF.row.is with ⟨_,h⟩|⟨b,c,M',h,_⟩
   ·rw[h];rfl
   ·rw[h];cases c<;>simp[V.beq]
  have h3:=hF.itm
  unfold Ty.c
  simp[V.beq,KR,h1,h2,h3]
 have go:Fz E D Z6 10 0 (fun b=>b=Z.next) P9 Tu ⟨[(0,.ptr p 0),(3,.int .i64 (AA dp)),(8,.ptr Z.next 0),(9,.ptr Z1.next 0),(10,w)],Z6.next+10,[Z6.bl],[],0,[]⟩ _ Z9:=
  DW (.ptr p 0) rfl rfl <|
  TB (.agg (ty i0).c) (Cu F6.tidy) rfl (HS (b:=Z1.next) (off:=0) (m:=13) rfl a46 rfl rfl F6.tidy (fun e=>by omega) cb) fun _ r1=>
  DW (.ptr p 0) rfl rfl <|
  DW (.ptr p 0) rfl rfl <|
  DW (.ptr p 0) rfl rfl <|
  DW w rfl (Fl rfl (CK wo)) <|
  Qt l r1 rfl (by decide) f7 (fun _ _ h=>h.elim) (fun _ h _ _=>h.elim) (FH (vs:=[.ptr p 0,w]) rfl (xd (CK wo)) g7) fun _ _ _ r2=>
  DW (.int .i64 (AA dp)) rfl rfl <|
  Qt (.agg vc) r2 rfl (by decide) f8 (fun _ _ h=>h.elim) (fun _ h _ _=>h.elim) (FH (vs:=[.ptr p 0,.agg (ty i0).c,l,.int .i64 (AA dp)]) rfl (xa (CK lo)) g8) fun _ _ _ r3=>
  Qt .dead r3 rfl (by decide) (S':=fun b=>b=Z.next) f9 (fun _ _ h=>h) (fun b h h1 _=>by omega) g9 fun _ _ _ r4=>
  KF r4
 obtain⟨ev,d,y8⟩:∃ev,AZ E D P9 Tu [(0,.ptr p 0),(3,.int .i64 (AA dp)),(8,.ptr Z.next 0),(9,.ptr Z1.next 0),(10,w)] Z6=some (ev,Z9)/\Go.Og.look ev 8=some (.ptr Z.next 0):=⟨_,(IT (ops:=P9) go).1,rfl⟩
 have gd:∀J:Bk->H->AG,Cp (AZ E D P9 Tu [(0,.ptr p 0),(3,.int .i64 (AA dp)),(8,.ptr Z.next 0),(9,.ptr Z1.next 0),(10,w)] Z6) J=J ev Z9:=fun J=>by rw[d];rfl
 have z8:∀J:V->AG,BR ev 8 J=J (.ptr Z.next 0):=fun J=>Bg y8 rfl
 have ld9:∀J:List V->AG,BV E Z9 Z.next 0 6 J=J vc:=fun J=>by
  rw[Bo a9,Kp (by omega),Cl,<-vl,DC]
 have F9:Fr AN Z Z9:=F8.trans f9 (fun b hb e=>by omega)
 refine⟨Z7,Z9,Z7.next+8,gs,m,?_,hg,f9.at_ hlb8 F8.tidy (fun e=>by omega),fun i hi=>?_,hr8.fr f9 F8.tidy (fun b hb _ e=>by omega),hm0,F9⟩
 ·rw[<-hvc]
  have k5:∀K2,V7 E D (AZ E D) K2 p 0 (AA dp) Z.next 0 Z1.next 0 w Z4.next 0 true Z6=some (.agg vc,Z9):=fun K2=>by
   unfold V7
   simp -implicitDefEqProofs only [↓rP,rA,AI,AP,AH,↓gd,↓z8,↓ld9]
  have k3:Tp E D (AZ E D) N p 0 (AA dp) Z.next 0 Z1.next 0 w Z4.next 0 (AA K) false Z6=some (.agg vc,Z9):=by
   refine Eq.trans ?_ (k5 (P1 E D (AZ E D) N))
   rcases hKs with rfl|rfl<;>rfl
  rw[<-k3]
  unfold Ee at e1 e5
  unfold PB at e2
  unfold Ty.c at rd g3
  have k0:∀K1,Mi E D (AZ E D) K1 p 0 (AA i0) u (AA dp) Z=K1 p 0 (AA i0) u (AA dp) Z.next 0 Z1:=fun K1=>by
   unfold Mi
   simp -implicitDefEqProofs only [↓rP,rA,AI,AP,AH,↓e1,↓lt4,↓tlen,j0,dj,dd]
  show Mi E D (AZ E D) (We E D (AZ E D) N) p 0 (AA i0) u (AA dp) Z=_
  rw[k0]
  show JE E D (AZ E D) _ _ p 0 (AA i0) u (AA dp) Z.next 0 Z1=_
  have c1:decide (K=1)=false:=decide_eq_false (by omega)
  have c2:decide (K=2)=false:=decide_eq_false (by omega)
  have c3:decide (K=3)=false:=decide_eq_false (by omega)
  have c5:decide (K=5)=false:=decide_eq_false (by omega)
  have c6:decide (K=6)=false:=decide_eq_false (by omega)
  unfold JE
  simp -implicitDefEqProofs only [↓rP,rA,AI,AP,AH,↓lf,↓lt4,↓rd,(ty i0).oneT,(ty i0).oneI,(ty i0).oneF,↓e2,↓g3,↓l1,↓g4,↓BQ wo,↓l0,↓e5,↓g6,↓l06,Ca,c1,c2,c3,c5,c6]
 ·obtain⟨o,v,h1,h2,h3⟩:=hgd i hi
  exact⟨o,v,h1,h2,h3.fr f9 F8.tidy (fun b hb e=>by omega)⟩
end
def Vr (K:Nat) (l:V) (hl:l.one=true) (r:Int) (m:V) (hm:m.one=true):Vc:=⟨AA K,AA 0,.nils,l,r,m,rfl,hl,hm⟩
section
variable {E:EB} {D:Al} {W:AE} {N:Nat} {Z0:H} {p nT:Nat} {ty:Nat->Ty} {nm:BS} {nv rv tv:V} {rest:List V}
end
section
variable {E:EB} {D:Al} {W:AE} {N:Nat} {p nT:Nat} {ty:Nat->Ty} {nm:BS} {nv rv tv:V} {rest:List V}
theorem gT {Z:H} {K i dp:Nat} {l:V} {hl:l.one=true} {r:Int} {m:V} {hm:m.one=true} {fb:Bool} (hK:K=7\/K=8) (ht:BG Z) (hc:Ck Z p nT ty nm nv rv tv rest) (hi:i<nT) (hd:dp<=17) (hk:(ty i).kind=AA K)
  (hF:∀Z1,BG Z1->Fr AN Z Z1->∃Z2,D 103 [.ptr p 0,.int .i64 (AA i),.agg (Vr K l hl r m hm).c,.int .i64 (AA dp)] Z1=some (.bool fb,Z2)/\Fr AN Z1 Z2) :
  ∃Z',wV E D W N [.ptr p 0,.int .i64 (AA i),.agg (Vr K l hl r m hm).c,.int .i64 (AA dp)] Z=some (.bool fb,Z')/\Fr AN Z Z':=by
 obtain⟨Z1,e1,f1,a1,n1⟩:=G8 ht (Vr K l hl r m hm).c
 obtain⟨Z2,g,f2⟩:=hF Z1 f1.tidy f1
 have c1:=hc.fr f1 ht
 have rd:∀J,Ab 13 tv (AA i) (fun b o=>BV E Z1 b o 13 J)=J (ty i).c:=fun J=>c1.row.all hi J
 have hln:=c1.row.len.2
 unfold Vc.c Vr at e1 a1 g
 have d1:decide (nT<=i)=false:=decide_eq_false (by omega)
 have d2:decide (17<dp)=false:=decide_eq_false (by omega)
 refine⟨Z2,?_,f1.trans f2 (fun _ _ h=>h)⟩
 show aw E D W (av E D W (au E D W (oG E D W N))) p 0 (AA i) (AA K) (AA 0) .nils l r m (AA dp) Z=_
 unfold aw av au
 rcases hK with rfl|rfl
 ·simp -implicitDefEqProofs only [↓rP,rA,AI,AP,AH,fV,hl,hm,↓e1,↓c1.types,↓hln,d1,d2,↓rd,Ty.c,hk,(ty i).oneT,(ty i).oneI,(ty i).oneF,↓Ez a1,↓Bo a1,↓g]
 ·simp -implicitDefEqProofs only [↓rP,rA,AI,AP,AH,fV,hl,hm,↓e1,↓c1.types,↓hln,d1,d2,↓rd,Ty.c,hk,(ty i).oneT,(ty i).oneI,(ty i).oneF,↓Ez a1,↓Bo a1,↓g]
theorem qo {Z:H} {i:Nat} {v:Vc} {O:List Int} {fb:Bool} (ht:BG Z) (hr:Jw Z 13 nT tv fun i=>(ty i).c) (h1:nv.one=true) (h2:rv.one=true) (h3:tv.one=true)
  (hFi:∀Z1,BG Z1->Fr AN Z Z1->∃Z',D 40 [.agg [.str nm,nv,rv,tv],.int .i64 (AA i),.agg v.c] Z1=some (.bool fb,Z')/\Fr AN Z1 Z')
  (hRu:fb=true->∀Z1,BG Z1->Fr AN Z Z1->∃Z',D 41 [.agg v.c,.int .i64 (AA 1)] Z1=some (.bool true,Z')/\Fr AN Z1 Z')
  (hE:fb=true->O.length<=70000/\∀Z1 q,Fr AN Z Z1->Ck Z1 q nT ty nm nv rv tv []->OI (D 42) [.ptr q 0,.int .i64 (AA i),.agg v.c] Z1 O) :
  ∃w e Z',pT E D W N [.agg [.str nm,nv,rv,tv],.int .i64 (AA i),.agg v.c] Z=some (.tup [w,.int .i64 e],Z')/\w.one=true/\Fr AN Z Z'/\(fb=true->e=AA 0/\Nb Z Z' w O)/\(fb=false->e=AA 13):=by
 obtain⟨Z1,e1,f1,a1,n1⟩:=G8 ht [.str nm,nv,rv,tv]
 obtain⟨Z2,e2,f2,a2,n2⟩:=G8 f1.tidy v.c
 have f02:=f1.trans f2 (fun _ _ h=>h)
 obtain⟨Z3,g3,f3⟩:=hFi Z2 f02.tidy f02
 have f03:=f02.trans f3 (fun _ _ h=>h)
 have a12:=f2.at_ a1 f1.tidy (fun h=>h)
 have a13:=f3.at_ a12 f02.tidy (fun h=>h)
 have a23:=f3.at_ a2 f02.tidy (fun h=>h)
 show ∃w e Z',V6 E D W nm nv rv tv (AA i) v.k v.n v.b v.l v.r v.m Z=some (.tup [w,.int .i64 e],Z')/\_
 cases fb with
 | false=>
  refine⟨.nils,AA 13,Z3,?_,rfl,f03,fun h=>(by cases h),fun _=>rfl⟩
  unfold Vc.c at e2 a2 g3
  unfold V6
  simp -implicitDefEqProofs only [↓rP,rA,AI,AP,AH,h1,h2,h3,v.oneB,v.oneL,v.oneM,↓e1,↓Bo a12,↓e2,↓Bo a2,↓g3]
 | true=>
  obtain⟨Z4,g4,f4⟩:=hRu rfl Z3 f03.tidy f03
  obtain⟨hO,hE⟩:=hE rfl
  have f04:=f03.trans f4 (fun _ _ h=>h)
  obtain⟨Z5,e5,f5,a5,n5⟩:=G8 f04.tidy [.str nm,nv,rv,tv]
  have f05:=f04.trans f5 (fun _ _ h=>h)
  have r5:=hr.fr0 f05 ht
  have c5:Ck Z5 Z4.next nT ty nm nv rv tv []:=⟨a5,h1,h2,h3,r5,fun b hb e=>by
   subst e
   have lo:=f04.le
   rcases hr.is with ⟨_,rfl⟩|⟨b,c,L,rfl,ha,_⟩
   ·exact hb
   ·have:=ha.lt ht
    have hb:Z4.next=b:=hb
    omega⟩
  obtain⟨u,Z6,g6,h6,f6⟩:=hE Z5 Z4.next f05 c5
  have a14:=f4.at_ a13 f03.tidy (fun h=>h)
  have a24:=f4.at_ a23 f03.tidy (fun h=>h)
  have a25:=f5.at_ a24 f04.tidy (fun h=>h)
  have sl:=h6.by_.slen
  have d7:decide (70000<O.length)=false:=decide_eq_false (by omega)
  have o6:=h6.1.one
  refine⟨u,AA 0,Z6,?_,o6,f05.trans f6 (fun _ _ h=>h),fun _=>⟨rfl,h6.mono f05.le⟩,fun h=>(by cases h)⟩
  unfold Vc.c at e2 a2 a23 a24 a25 g3 g4 g6
  unfold V6
  simp -implicitDefEqProofs only [↓rP,rA,AI,AP,AH,h1,h2,h3,v.oneB,v.oneL,v.oneM,↓e1,↓Bo a12,↓e2,↓Bo a2,↓g3,↓Bo a23,↓g4,↓Bo a14,↓e5,↓Bo a25,↓g6,↓BQ o6,↓sl,d7]
end
section
variable {E:EB} {D:Al} {W:AE} {N:Nat} {Z Z':H} {p:Nat}
end
section
variable {E:EB} {D:Al} {W:AE} {N:Nat}
end
section
variable {E:EB} {D:Al} {N:Nat}
end
section
variable {E:EB} {D D':Al} {N:Nat}
theorem xu {Z:H} {i0:Nat} {nm:BS} {nv rv tv u:V} {L:List Nat} {ok:Bool} {nT:Nat} {Q:H->List V->Prop} (ht:BG Z) (h1:nv.one=true) (h2:rv.one=true) (h3:tv.one=true) (hlen:∀J:Nat->AG,A0 tv J=J nT) (hi:i0<nT) (hu:Oc Z u L) (hL:L.length<=70000)
  (hV:∀Z1 p,Fr AN Z Z1->CU Z1 p [.bool false,.str nm,nv,rv,tv]->∃a b c d e f Z2,D 15 [.ptr p 0,.int .i64 (AA i0),u,.int .i64 (AA 1)] Z1=some (.agg [.int .i64 a,.int .i64 b,c,d,.int .i64 e,f],Z2)/\c.one=true/\d.one=true/\f.one=true/\Q Z2 [.int .i64 a,.int .i64 b,c,d,.int .i64 e,f]/\Fr AN Z1 Z2)
  (hQ:∀Z1 Z2 l,BG Z1->Fr AN Z1 Z2->Q Z1 l->Q Z2 l)
  (hE:∀Z2 a b c d e f,Fr AN Z Z2->Q Z2 [.int .i64 a,.int .i64 b,c,d,.int .i64 e,f]->∃w er Z3,D 16 [.agg [.str nm,nv,rv,tv],.int .i64 (AA i0),.agg [.int .i64 a,.int .i64 b,c,d,.int .i64 e,f]] Z2=some (.tup [w,.int .i64 er],Z3)/\w.one=true/\Fr AN Z2 Z3 /\
   ((B5 er (AA 0)=false/\ok=false)\/(er=AA 0/\∀Z4,Fr AN Z3 Z4->D 17 [w,u] Z4=some (.bool ok,Z4)))) :
  ∃vc er Z',F9 E D (AZ E D) N [.agg [.str nm,nv,rv,tv],.int .i64 (AA i0),u] Z=some (.tup [.agg vc,.int .i64 (AA er)],Z')/\Fr AN Z Z'/\(ok=true->er=0/\Q Z' vc)/\(ok=false->er=4/\vc=Ee):=by
 obtain⟨Z1,e1,f1,a1,n1⟩:=MY ht [.str nm,nv,rv,tv]
 obtain⟨Z2,e2,f2,a2,n2⟩:=MY f1.tidy [.bool false,.str nm,nv,rv,tv]
 have f02:=f1.trans f2 (fun _ _ h=>h)
 obtain⟨a,b,c,d,e,f,Z3,g3,oc,od,of_,q3,f3⟩:=hV Z2 Z1.next f02 a2
 have f03:=f02.trans f3 (fun _ _ h=>h)
 have a13:=f3.at_ (f2.at_ a1 f1.tidy (fun h=>h)) f2.tidy (fun h=>h)
 have a23:=f3.at_ a2 f2.tidy (fun h=>h)
 obtain⟨w,er,Z4,g4,wo,f4,hcase⟩:=hE Z3 a b c d e f f03 q3
 have f04:=f03.trans f4 (fun _ _ h=>h)
 have uo:=hu.one
 have su:=hu.slen
 have dL:decide (70000<L.length)=false:=decide_eq_false (by omega)
 have di:decide (nT<=i0)=false:=decide_eq_false (by omega)
 have d0:decide (i0<0)=false:=decide_eq_false (by omega)
 have l3:∀J:V->AG,BY E Z1 Z.next 3 J=J tv:=fun J=>Cm a1 rfl
 have l0:∀J:V->AG,BY E Z3 Z1.next 0 J=J (.bool false):=fun J=>Cm a23 rfl
 have main:∀r:Bool,(B5 er (AA 0)=false/\r=false)\/(er=AA 0/\D 17 [w,u] Z4=some (.bool r,Z4))->F9 E D (AZ E D) N [.agg [.str nm,nv,rv,tv],.int .i64 (AA i0),u] Z=(match r with
   | true=>some (.tup [.agg [.int .i64 a,.int .i64 b,c,d,.int .i64 e,f],.int .i64 (AA 0)],Z4)
   | false=>some (.tup [.agg Ee,.int .i64 (AA 4)],Z4)):=by
  intro r hr
  have mid:F9 E D (AZ E D) N [.agg [.str nm,nv,rv,tv],.int .i64 (AA i0),u] Z=ah E D (AZ E D) nm nv rv tv (AA i0) u Z:=rfl
  rw[mid]
  rcases hr with ⟨h,rfl⟩|⟨h,hb⟩
  ·unfold ah Gi
   simp -implicitDefEqProofs only [↓rP,rA,AI,AP,AH,D7,h1,h2,h3,↓e1,d0,↓l3,↓hlen,di,↓su,dL,↓Bo a1,↓e2,↓g3,oc,od,of_,↓l0,↓Bo a13,↓g4,h]
   rfl
  ·subst h
   cases r with
   | true=>
    unfold ah Gi
    simp -implicitDefEqProofs only [↓rP,rA,AI,AP,AH,D7,h1,h2,h3,↓e1,d0,↓l3,↓hlen,di,↓su,dL,↓Bo a1,↓e2,↓g3,oc,od,of_,↓l0,↓Bo a13,↓g4,Ca,decide_true,↓hb]
   | false=>
    unfold ah Gi
    simp -implicitDefEqProofs only [↓rP,rA,AI,AP,AH,D7,h1,h2,h3,↓e1,d0,↓l3,↓hlen,di,↓su,dL,↓Bo a1,↓e2,↓g3,oc,od,of_,↓l0,↓Bo a13,↓g4,Ca,decide_true,↓hb]
    rfl
 have hm:=main ok (hcase.imp id fun h=>⟨h.1,h.2 Z4 (Fr.refl f4.tidy)⟩)
 cases ok with
 | true=>exact⟨_,0,Z4,hm,f04,fun _=>⟨rfl,hQ _ _ _ f3.tidy f4 q3⟩,fun h=>(by cases h)⟩
 | false=>exact⟨_,4,Z4,hm,f04,fun h=>(by cases h),fun _=>⟨rfl,rfl⟩⟩
end
section
variable {E:EB} {D:Al} {W:AE} {N:Nat} {Z Z':H} {p nT:Nat} {ty:Nat->Ty} {nm:BS} {nv rv tv:V} {rest:List V}
end
def wrN (k:Nat) (v:Vc) (body:List Nat):List Nat:=match k with
 | 1=>match v.n with
  | .ofNat 1=>[255]
  | _=>[0]
 | 2=>sN v.n
 | 5=>body
 | _=>[]
def T1 (F:List V->H->AG) (a:List V) (Z:H):Prop:=∃Z',F a Z=some (.bool true,Z')/\Fr AN Z Z'
def Nl (v:Vc):Prop:=v.b = .nils/\v.l = .nils/\v.m = .nils
def jE (F:List V->H->AG):Prop:=∀Z:H,F [.nils,.nils] Z=some (.bool true,Z)
def Th (F:List V->H->AG) (f:V):Prop:=∀Z:H,F [.nils,.nils,f] Z=some (.bool true,Z)
def Ps (F:List V->H->AG):Prop:=∀{Z:H} (v:Vc),BG Z->Nl v->T1 F [.agg v.c,.agg v.c] Z
def cJ (F:List V->H->AG):Prop:=∀{Z:H} {l l':V} {n:Nat} {g:Nat->Vc},BG Z->Jw Z 6 n l (fun k=>(g k).c)->Jw Z 6 n l' (fun k=>(g k).c)->(∀k,k<n->Nl (g k))->n<=1000->T1 F [l,l',.fn 11 [] []] Z
def Tg (F:List V->H->AG):Prop:=∀{Z:H} {l l':V} {hl:l.one=true} {hl':l'.one=true} {K n:Nat} {g:Nat->Vc},BG Z->Jw Z 6 n l (fun k=>(g k).c)->Jw Z 6 n l' (fun k=>(g k).c)->(∀k,k<n->Nl (g k))->n<=1000->T1 F [.agg (Vr K l hl (AA 0) .nils rfl).c,.agg (Vr K l' hl' (AA 0) .nils rfl).c] Z
section
variable {E:EB} {D:Al} {W:AE} {N:Nat}
theorem ADr:jE (vM E D W N):=fun Z=>rfl
theorem xG (h:Ps (D 11)) (hN:1000<N):cJ (vL E D W N):=by
 intro Z l l' n g ht h1 h2 hn h10
 have loop:∀(m n' i:Nat) (Z1:H),i+m=n->m<n'->Fr AN Z Z1->∃Z',Wc E D W N n' l l' (.fn 11 [] []) (AA i) Z1=some (.bool true,Z')/\Fr AN Z Z':=by
  intro m
  induction m with
  | zero=>
   intro n' i Z1 hi hn' f
   obtain⟨n',rfl⟩:∃q,n'=q+1:=⟨n'-1,by omega⟩
   have hi:i=n:=hi
   subst hi
   have sl:=h1.len.2
   have d1:decide (i<i)=false:=decide_eq_false (Mv _)
   refine⟨Z1,?_,f⟩
   show Pp E D W (bJ E D W) _ l l' (.fn 11 [] []) (AA i) Z1=_
   unfold Pp bJ
   simp -implicitDefEqProofs only [↓rP,rA,AI,AP,AH,↓sl,d1]
  | succ m ih=>
   intro n' i Z1 hi hn' f
   obtain⟨n',rfl⟩:∃q,n'=q+1:=⟨n'-1,by omega⟩
   have hlt:i<n:=by omega
   have sl:=h1.len.2
   have d1:decide (i<n)=true:=decide_eq_true hlt
   have r1:∀J,Ab 6 l (AA i) (fun b o=>BV E Z1 b o 6 J)=J (g i).c:=fun J=>(h1.fr0 f ht).all hlt J
   have r2:∀J,Ab 6 l' (AA i) (fun b o=>BV E Z1 b o 6 J)=J (g i).c:=fun J=>(h2.fr0 f ht).all hlt J
   obtain⟨Z2,g2,f2⟩:=h (g i) f.tidy (hn i hlt)
   obtain⟨Z',g',f'⟩:=ih n' (i+1) Z2 (by omega) (by omega) (f.trans f2 (fun _ _ h=>h))
   refine⟨Z',?_,f'⟩
   rw[<-g']
   have cv:∀J,GV D (.fn 11 [] []) [.agg (g i).c,.agg (g i).c] Z1 J=J (.bool true) Z2:=fun J=>by
    show AV (D 11 ([]++[.agg (g i).c,.agg (g i).c]++[]) Z1) J=_
    rw[show ([]++[V.agg (g i).c,.agg (g i).c]++[])=[.agg (g i).c,.agg (g i).c] from rfl,g2];rfl
   unfold Vc.c at r1 r2 cv
   show Pp E D W _ _ l l' (.fn 11 [] []) (AA i) Z1=_
   unfold Pp
   simp -implicitDefEqProofs only [↓rP,rA,AI,AP,AH,↓sl,d1,↓r1,(g i).oneB,(g i).oneL,(g i).oneM,↓r2,↓cv,DN (show i+1<=9223372036854775807 by omega)]
   all_goals rfl
 obtain⟨Z',g',f'⟩:=loop n N 0 Z (by omega) (by omega) (Fr.refl ht)
 refine⟨Z',?_,f'⟩
 have s1:=h1.len.2
 have s2:=h2.len.2
 have d:decide (n=n)=true:=decide_eq_true rfl
 rw[<-g']
 show V5 E D W (Wc E D W N N) l l' (.fn 11 [] []) Z=_
 unfold V5
 simp -implicitDefEqProofs only [↓rP,rA,AI,AP,AH,↓s1,↓s2,Ca,d]
theorem ADs {f:V} (hN:0<N):Th (wh E D W N) f:=by
 intro Z
 obtain⟨N,rfl⟩:∃q,N=q+1:=⟨N-1,by omega⟩
 rfl
theorem xB {Z:H} {v w:Vc} (ht:BG Z) (hk:v.k=w.k) (hn:v.n=w.n) (hr:v.r=w.r) (hm:v.m = .nils) (hm':w.m = .nils)
  (hB:∀Z1,D 18 [v.b,w.b] Z1=some (.bool true,Z1)) (hL:∀Z1,BG Z1->Fr AN Z Z1->T1 (D 19) [v.l,w.l,.fn 11 [] []] Z1) (hM:Th (D 20) (.fn 21 [] [])):T1 (vY E D W N) [.agg v.c,.agg w.c] Z:=by
 obtain⟨Z1,e1,f1,a1,n1⟩:=MY ht v.c
 obtain⟨Z2,e2,f2,a2,n2⟩:=MY f1.tidy w.c
 have f02:=f1.trans f2 (fun _ _ h=>h)
 have a12:=f2.at_ a1 f1.tidy (fun h=>h)
 obtain⟨Z3,g3,f3⟩:=hL Z2 f02.tidy f02
 have a13:=f3.at_ a12 f02.tidy (fun h=>h)
 have a23:=f3.at_ a2 f02.tidy (fun h=>h)
 have gB:=hB Z2
 have gM:=hM Z3
 have o1:=v.allOne
 have o2:=w.allOne
 refine⟨Z3,?_,f02.trans f3 (fun _ _ h=>h)⟩
 have ek:B5 v.k w.k=true:=by rw[hk,KK];simp
 have en:B5 v.n w.n=true:=by rw[hn,KK];simp
 have er:B5 v.r w.r=true:=by rw[hr,KK];simp
 unfold Vc.c at e1 e2 a12 a2 a13 a23
 rw[hm]at e1 a12 a13
 rw[hm']at e2 a2 a23
 show cB E D W v.k v.n v.b v.l v.r v.m w.k w.n w.b w.l w.r w.m Z=_
 rw[hm,hm']
 unfold cB
 simp -implicitDefEqProofs only [↓rP,rA,AI,AP,AH,v.oneB,v.oneL,w.oneB,w.oneL,↓e1,↓e2,↓Ez a12,↓Ez a2,↓Ez a13,↓Ez a23,ek,en,er,↓gB,↓g3,↓gM]
theorem xD (hB:jE (D 18)) (hL:Th (D 19) (.fn 11 [] [])) (hM:Th (D 20) (.fn 21 [] [])):Ps (vY E D W N):=by
 intro Z v ht ⟨h1,h2,h3⟩
 exact xB ht rfl rfl rfl h3 h3 (fun Z1=>by rw[h1];exact hB Z1) (fun Z1 h f=>⟨Z1,by rw[h2];exact hL Z1,Fr.refl h⟩) hM
theorem xC (hB:jE (D 18)) (hL:cJ (D 19)) (hM:Th (D 20) (.fn 21 [] [])):Tg (vY E D W N):=by
 intro Z l l' hl hl' K n g ht h1 h2 hn h10
 exact xB (v:=Vr K l hl (AA 0) .nils rfl) (w:=Vr K l' hl' (AA 0) .nils rfl) ht rfl rfl rfl rfl rfl hB (fun Z1 h f=>hL h (h1.fr0 f ht) (h2.fr0 f ht) hn h10) hM
end
def kdS:Nat->Nat
 | 0=>1
 | 1=>2
 | _=>5
def XQ (t:Nat) (w:List Nat):List Nat:=(128+t)::w.length::w
theorem xX {n:Nat} (h:n<128):iA n=[AA n]:=by unfold iA;rw[decide_eq_true h]
theorem UM {x t c:Nat} {mk:Bool} {body:List Nat} (hx:x<256) (h1:x / 64=c) (h2:x % 32=t) (h3:t<31) (h4:x / 32 % 2=1↔mk=true) (hl:body.length<128) (hb:Kk body):kS (x::body.length::body) c t mk body 2/\Kk (x::body.length::body):=by
 refine⟨⟨⟨⟨x,_,rfl,h1,h4⟩,0,1,?_,?_,rfl,by simp,by omega,by omega⟩,by simp only[Av];omega,rfl⟩,fun c hc=>?_⟩
 ·rw[<-h2];exact .short (by omega)
 ·exact .short hl
 ·rcases AS.1 hc with rfl|hc
  ·exact hx
  ·rcases AS.1 hc with rfl|hc
   ·omega
   ·exact hb c hc
def gS (gs:List Vc) (k:Nat):Vc:=gs.getD k Vc.abs
def fbS (t:Nat) (v:Vc):Bool:=match t with
 | 1=>!decide (v.n=5)
 | _=>true
section
variable {E:EB} {D:Al} {W:AE} {N:Nat}
end
section
variable {E:EB} {D:Al} {W:AE} {N:Nat} {B Wi Sl:List V->H->AG} {Pt:H->Prop} {nm:BS} {nv rv tv:V} {ty:Nat->Ty} {fd:Nat->Fd}
end
section
variable {E:EB} {D D':Al} {W:AE} {N:Nat} {B Wi Sl:List V->H->AG} {Pt:H->Prop} {nm:BS} {nv rv tv:V} {ty:Nat->Ty} {fd:Nat->Fd}
end
section
variable {E:EB} {D:Al} {N M:Nat} {B Wi Sl:List V->H->AG} {Pt:H->Prop} {nm:BS} {nv rv tv:V} {ty:Nat->Ty} {fd:Nat->Fd}
end
theorem qt {Z:H} {v:Vc} {body:List Nat} (h:Dv Z 2 v body):∃n,v=Vc.int n/\D8 n/\∀m,D8 m->body=sN m->n=m:=by
 cases h with
 | @int n _ h h2=>exact⟨n,rfl,h,h2⟩
theorem ZA {n:Int} (hn:D8 n) {m:Int} (hm:D8 m):sN m≠(if n<0 then 255 else 0)::sN n:=by
 intro e
 obtain⟨c,r,hc,hs⟩:=gJ hn
 rw[hc]at e
 obtain⟨h1,h2⟩:=qF hm e
 by_cases h:n<0
 ·rw[if_pos h]at h2
  exact h2 ⟨rfl,by
   rcases Ax c 128 with h'|h'
   ·have:=hs.1 h';omega
   ·exact h'⟩
 ·rw[if_neg h]at h1
  exact h1 ⟨rfl,hs.2 (by omega)⟩
theorem ZN {n:Int} (hn:D8 n) (Z:H) (v:Vc) (h:Dv Z (kdS 1) v ((if n<0 then 255 else 0)::sN n)):(fbS 1 v&&decide (XQ 1 (wrN (kdS 1) v ((if n<0 then 255 else 0)::sN n))=129::((if n<0 then 255 else 0)::sN n).length::((if n<0 then 255 else 0)::sN n)))=false:=by
 obtain⟨m,rfl,h1,h2⟩:=qt h
 have e:¬XQ 1 (wrN (kdS 1) (Vc.int m) ((if n<0 then 255 else 0)::sN n))=129::((if n<0 then 255 else 0)::sN n).length::((if n<0 then 255 else 0)::sN n):=fun e=>by
  have e:129::(sN m).length::sN m=129::((if n<0 then 255 else 0)::sN n).length::((if n<0 then 255 else 0)::sN n):=e
  injection e with _ e
  injection e with _ e
  exact ZA hn h1 e
 rw[decide_eq_false e,Bool.and_false]
def jG (F:List V->H->AG):Prop:=∀Z:H,BG Z->∃Z',F [] Z=some (.bool true,Z')/\Fr AN Z Z'
section
variable {E:EB} {D:Al} {N:Nat} {Pt:H->Prop} {nm:BS} {nv rv tv:V}
end
def Oh:Nat->Nat
 | 0=>1
 | 1=>3
 | 2=>0
 | _=>2
def fy:List Nat:=[2,0,3,1]
def Kr (set:Bool) (a b:Nat):Bool:=match set with
 | true=>CJ a b
 | false=>CJ (Oh a) (Oh b)
def C3 (set:Bool):List Nat->Bool
 | []=>true
 | [_]=>true
 | a::b::r=>Kr set a b&&C3 set (b::r)
def elX (k:Nat):El:=(XQ k [],(2,k))
def XA (ks:List Nat):List El:=ks.map elX
def GM (ks:List Nat):List Nat:=(ks.map fun k=>XQ k []).flatten
def Jt (o:List (Option El)):List Bool:=o.map fun x=>match x with
 | some _=>true
 | none=>false
def PZ (ks:List Nat):List Bool:=fy.map fun t=>ks.any (AK t)
def NO (b:Bool):Vc:=match b with
 | true=>vB 4 0
 | false=>Vc.abs
def N0 (set:Bool) (bits:List Bool):List Nat:=((match set with
 | true=>[0,1,2,3]
 | false=>fy).flatMap fun t=>match bits.getD (Oh t) false with
 | true=>XQ t []
 | false=>[])
def IM (set:Bool) (e:List Nat):List Nat:=(match set with
 | true=>49
 | false=>48)::e.length::e
def UX:List Nat->List Nat->Bool
 | [],[]=>true
 | a::r,b::s=>AK a b&&UX r s
 | _,_=>false
theorem VZ:∀{a b:List Nat},UX a b=true↔a=b
 | [],[]=>by simp[UX]
 | [],_::_=>by simp[UX]
 | _::_,[]=>by simp[UX]
 | a::r,b::s=>by simp[UX,VZ (a:=r) (b:=s)]
def Pa:List Bool->List Bool->Bool
 | [],[]=>true
 | a::r,b::s=>(a==b)&&Pa r s
 | _,_=>false
theorem TT:∀{a b:List Bool},Pa a b=true->a=b
 | [],[],_=>rfl
 | [],_::_,h=>by simp[Pa]at h
 | _::_,[],h=>by simp[Pa]at h
 | a::r,b::s,h=>by
  simp only[Pa,AF,beq_iff_eq]at h
  rw[h.1,TT h.2]
def pO (set:Bool) (ks:List Nat):List (Option El) × List El:=MW (!set) fy (XA ks)
def aP (set:Bool) (ks:List Nat):Bool:=match (pO set ks).2 with
 | []=>(C3 set ks==UX (N0 set (Jt (pO set ks).1)) (GM ks))&&(!(C3 set ks) || Pa (Jt (pO set ks).1) (PZ ks))
 | _=>!(C3 set ks)
def Pd:Nat->List (List Nat)
 | 0=>[[]]
 | n+1=>[]::(Pd n).flatMap fun l=>[0::l,1::l,2::l,3::l]
theorem Nf:∀{n:Nat} {l:List Nat},l.length<=n->(∀k∈l,k<4)->l∈Pd n
 | 0,[],_,_=>by simp[Pd]
 | 0,_::_,h,_=>by simp at h
 | n+1,[],_,_=>by simp[Pd]
 | n+1,a::l,h,ha=>by
  have ih:=Nf (n:=n) (l:=l) (by simpa using h) (fun k hk=>ha k (CE _ hk))
  refine CE _ (List.mem_flatMap.2 ⟨l,ih,?_⟩)
  have:a<4:=ha a Aq
  have:a=0\/a=1\/a=2\/a=3:=by omega
  rcases this with rfl|rfl|rfl|rfl<;>simp
theorem iQ:((Pd 4).all (aP true)&&(Pd 4).all (aP false))=true:=by kernel_rfl
theorem aO (set:Bool) {ks:List Nat} (h:ks.length<=4) (hk:∀k∈ks,k<4):aP set ks=true:=by
 have:=iQ
 rw[AF]at this
 cases set with
 | true=>exact CP.1 this.1 ks (Nf h hk)
 | false=>exact CP.1 this.2 ks (Nf h hk)
def mkO (set:Bool) (a:Nat):Nat:=match set with
 | true=>a
 | false=>Oh a
theorem ZB {set:Bool} {a:Nat} (h:a<4):mkO set a<4:=by
 have:a=0\/a=1\/a=2\/a=3:=by omega
 rcases this with rfl|rfl|rfl|rfl<;>cases set<;>decide
theorem gG {set:Bool} {a b:Nat} (h:Kr set a b=true):mkO set a<mkO set b:=by
 cases set with
 | true=>exact CC ▸ (show CJ a b=true from h)
 | false=>exact CC ▸ (show CJ (Oh a) (Oh b)=true from h)
theorem S9 {set:Bool}:∀(r:List Nat) (a:Nat),(∀k∈a::r,k<4)->C3 set (a::r)=true->r.length+mkO set a<4
 | [],a,h,_=>by
  have:=ZB (set:=set) (h a Aq)
  simp only[List.length_nil];omega
 | b::r,a,h,hg=>by
  have hg:(Kr set a b&&C3 set (b::r))=true:=hg
  rw[AF]at hg
  have:=S9 r b (fun k hk=>h k (CE _ hk)) hg.2
  have:=gG hg.1
  simp only[Av];omega
theorem gh {sq:Bool} {t:Nat} {X:List El}:X.length<=(pk sq t X).2.length+1:=by
 unfold pk
 split
 ·exact DQ _
 ·split
  ·exact DQ _
  ·rw[List.length_eraseIdx];split<;>omega
theorem Su {sq:Bool}:∀{ts:List Nat} {X:List El},X.length<=(MW sq ts X).2.length+ts.length
 | [],X=>AQ _
 | t::ts,X=>by
  have h1:=gh (sq:=sq) (t:=t) (X:=X)
  have h2:=Su (sq:=sq) (ts:=ts) (X:=(pk sq t X).2)
  show X.length<=(MW sq ts (pk sq t X).2).2.length+(ts.length+1)
  omega
theorem Sv {sq:Bool}:∀{ts:List Nat} {X:List El},(MW sq ts X).1.length=ts.length
 | [],X=>rfl
 | t::ts,X=>by
  show (MW sq ts (pk sq t X).2).1.length+1=ts.length+1
  rw[Sv]
theorem Sx {set:Bool} {ks:List Nat} (hk:∀k∈ks,k<4) (h:(pO set ks).2≠[]):C3 set ks=false:=by
 by_cases hl:ks.length<=4
 ·have:=aO set hl hk
  unfold aP at this
  split at this
  ·rename_i e;exact absurd e h
  ·simpa using this
 ·cases hg:C3 set ks with
  | false=>rfl
  | true=>
   exfalso
   match ks,hl with
   | a::r,hl=>
    have:=S9 r a hk hg
    simp only[Av]at hl;omega
   | [],hl=>simp at hl
theorem Sw {set:Bool} {ks:List Nat} (hk:∀k∈ks,k<4) (h:(pO set ks).2=[]):C3 set ks=decide (N0 set (Jt (pO set ks).1)=GM ks)/\(C3 set ks=true->Jt (pO set ks).1=PZ ks):=by
 have hl:ks.length<=4:=by
  have:=Su (sq:=!set) (ts:=fy) (X:=XA ks)
  have e:(MW (!set) fy (XA ks)).2=[]:=h
  rw[e]at this
  have l1:(XA ks).length=ks.length:=by unfold XA;rw[Bm]
  rw[l1]at this
  exact this
 have:=aO set hl hk
 unfold aP at this
 rw[h]at this
 simp only[AF,beq_iff_eq,BE,CR]at this
 refine⟨?_,fun hg=>?_⟩
 ·rw[this.1,De,decide_eq_true_iff,VZ]
 ·rcases this.2 with h2|h2
  ·rw[hg]at h2;cases h2
  ·exact TT h2
theorem Nv {set:Bool} {a b:Nat}:∀l:List Nat,C3 set (l++[a,b])=(C3 set (l++[a])&&Kr set a b)
 | []=>by simp[C3]
 | [c]=>by simp[C3,Bool.and_assoc]
 | c::d::l=>by
  have ih:=Nv (set:=set) (a:=a) (b:=b) (d::l)
  have ih:C3 set (d::(l++[a,b]))=(C3 set (d::(l++[a]))&&Kr set a b):=ih
  show (Kr set c d&&C3 set (d::(l++[a,b])))=((Kr set c d&&C3 set (d::(l++[a])))&&Kr set a b)
  rw[ih,Bool.and_assoc]
def XI (ks:List Nat):List Vc:=(PZ ks).map NO
theorem aZ (ks:List Nat) (k t:Nat):(ks++[k]).any (AK t)=(ks.any (AK t) || AK t k):=by
 rw[List.any_append];simp
theorem ZO {ks:List Nat} {k:Nat} (hk:k<4):(XI ks).set (Oh k) (vB 4 0)=XI (ks++[k]):=by
 have:k=0\/k=1\/k=2\/k=3:=by omega
 unfold XI PZ fy
 simp only[CF,Ln,aZ]
 rcases this with rfl|rfl|rfl|rfl<;>simp[Oh,NO,show AK 0 0=true from rfl,show AK 0 1=false from rfl,show AK 0 2=false from rfl,show AK 0 3=false from rfl,show AK 1 0=false from rfl,show AK 1 1=true from rfl,show AK 1 2=false from rfl,show AK 1 3=false from rfl,show AK 2 0=false from rfl,show AK 2 1=false from rfl,show AK 2 2=true from rfl,show AK 2 3=false from rfl,show AK 3 0=false from rfl,show AK 3 1=false from rfl,show AK 3 2=false from rfl,show AK 3 3=true from rfl]
theorem M1 (ks:List Nat):(XI ks).length=4:=rfl
theorem Xq (ks:List Nat) (k:Nat):GM (ks++[k])=GM ks++XQ k []:=by
 unfold GM;rw[List.map_append,fm];simp
theorem LV:∀ks:List Nat,(GM ks).length=2*ks.length
 | []=>rfl
 | k::ks=>by
  show (XQ k []++GM ks).length=_
  rw[AW,LV ks,Av]
  show 2+2*ks.length=_
  omega
theorem qy (ks:List Nat):((XA ks).map (·.1)).flatten=GM ks:=by
 unfold XA GM;rw[kV];rfl
def kO (set:Bool):Nat:=match set with
 | true=>8
 | false=>7
def Om (set:Bool):Nat:=match set with
 | true=>17
 | false=>16
def wN:Nat->Nat
 | 0=>2
 | 1=>0
 | 2=>3
 | _=>1
structure mF (B W:List V->H->AG) (Pt:H->Prop) (set:Bool) (nm:BS) (nv rv tv:V) (ty:Nat->Ty) (fd:Nat->Fd):Prop where
 t4:lA [.str nm,nv,rv,tv]
 ptf:∀Z Z',BG Z->Fr AN Z Z'->Pt Z->Pt Z'
 row:∀Z,Pt Z->Jw Z 13 5 tv fun i=>(ty i).c
 frow:∀Z,Pt Z->Jw Z 11 4 (ty 0).fields fun k=>(fd k).c
 tg0:∀Z,Pt Z->IH Z 2 1 (ty 0).tags (tgC [(0,Om set)])
 tg:∀Z k,Pt Z->k<4->IH Z 2 1 (ty (k+1)).tags (ka (wN k))
 k0:(ty 0).kind=AA (kO set)
 itm:V.beq (ty 0).items (ty 0).items=true
 mor:(ty 0).more=false
 kd:∀k,k<4->(ty (k+1)).kind=AA 4
 fty:∀k,k<4->(fd k).type=AA (k+1)
 bw:∀k,k<4->Bw B W Pt [.str nm,nv,rv,tv] (k+1) (wN k)
def Ug (F:List V->H->AG):Prop:=∀{Z:H} {p nT i n:Nat} {ty:Nat->Ty} {nm:BS} {nv rv tv:V} {rest:List V},BG Z->Ck Z p nT ty nm nv rv tv rest->i<nT->(ty i).more=false->∀v:Vc,Tm v.m n->0<n->∃Z',F [.ptr p 0,.int .i64 (AA i),.agg v.c] Z=some (.bool false,Z')/\Fr AN Z Z'
def Pu (F:List V->H->AG):Prop:=∀{Z:H} {p nT i nf n K dp:Nat} {ty:Nat->Ty} {fd:Nat->Fd} {nm:BS} {nv rv tv l m:V} {hl:l.one=true} {hm:m.one=true} {r:Int} {g:Nat->Vc},BG Z->Ck Z p nT ty nm nv rv tv [.bool false]->i<nT->(ty i).more=false->(ty i).kind=AA K->(K=7\/K=8)->Jw Z 11 nf (ty i).fields (fun k=>(fd k).c)->Jw Z 6 nf l (fun k=>(g k).c)->Tm m n->0<n->dp<=17->∃Z',F [.ptr p 0,.int .i64 (AA i),.agg (Vr K l hl r m hm).c,.int .i64 (AA dp)] Z=some (.bool false,Z')/\Fr AN Z Z'
def cM (F:List V->H->AG):Prop:=∀{Z:H} {nT i nf n K:Nat} {ty:Nat->Ty} {fd:Nat->Fd} {nm:BS} {nv rv tv l m:V} {hl:l.one=true} {hm:m.one=true} {r:Int} {g:Nat->Vc},BG Z->Jw Z 13 nT tv (fun i=>(ty i).c)->nv.one=true->rv.one=true->tv.one=true->i<nT->(ty i).more=false->(ty i).kind=AA K->(K=7\/K=8)->Jw Z 11 nf (ty i).fields (fun k=>(fd k).c)->Jw Z 6 nf l (fun k=>(g k).c)->Tm m n->0<n->∃Z',F [.agg [.str nm,nv,rv,tv],.int .i64 (AA i),.agg (Vr K l hl r m hm).c] Z=some (.bool false,Z')/\Fr AN Z Z'
section
variable {E:EB} {D:Al} {W:AE} {N:Nat}
theorem qL:Ug (X4 E D W N):=by
 intro Z p nT i n ty nm nv rv tv rest ht hc hi hmo v hm h0
 obtain⟨Z1,e1,f1,a1,n1⟩:=G8 ht v.c
 have c1:=hc.fr f1 ht
 have rd:∀J,Ab 13 tv (AA i) (fun b o=>BV E Z1 b o 13 J)=J (ty i).c:=fun J=>c1.row.all hi J
 refine⟨Z1,?_,f1⟩
 have sl:=hm.2
 have d0:decide (n=0)=false:=decide_eq_false (by omega)
 show Rw E D W _ p 0 (AA i) v.k v.n v.b v.l v.r v.m Z=_
 unfold Rw
 unfold Vc.c at e1 a1
 have cond:(ty i).more=false:=hmo
 simp -implicitDefEqProofs only [↓rP,rA,AI,AP,AH,v.oneB,v.oneL,v.oneM,↓e1,↓c1.types,↓rd,Ty.c,(ty i).oneT,(ty i).oneI,(ty i).oneF,↓Ez a1,↓Bo a1,↓sl,Ca,d0,cond,SV]
theorem xr (hP:R8 (D 99)) (hR:Ug (D 125)):Pu (X6 E D W N):=by
 intro Z p nT i nf n K dp ty fd nm nv rv tv l m hl hm r g ht hc hi hmo hk hK hf hr hml h0 hd
 obtain⟨Z1,e1,f1,a1,n1⟩:=G8 ht (Vr K l hl r m hm).c
 have c1:=hc.fr f1 ht
 have rd:∀J,Ab 13 tv (AA i) (fun b o=>BV E Z1 b o 13 J)=J (ty i).c:=fun J=>c1.row.all hi J
 obtain⟨Z2,g2,f2⟩:=hP Z1 (AA 12) (AA K) (AA 0) r .nils l m 0 nf n f1.tidy Tm.nils hr.len hml
 rw[show Yv (AA 12) (AA K) (AA 0) 0 nf r n=true from rfl]at g2
 have f02:=f1.trans f2 (fun _ _ h=>h)
 obtain⟨Z3,g3,f3⟩:=hR f2.tidy (hc.fr f02 ht) hi hmo (Vr K l hl r m hm) hml h0
 have f03:=f02.trans f3 (fun _ _ h=>h)
 have a2:CU Z2 Z.next [.int .i64 (AA K),.int .i64 (AA 0),.nils,l,.int .i64 r,m]:=f2.at_ a1 f1.tidy (fun h=>h)
 have hln:=hr.len.2
 have hlf:=hf.len.2
 have e1':B6 Z (.cells [.int .i64 (AA K),.int .i64 (AA 0),.nils,l,.int .i64 r,m])=Z1:=e1
 have a1':CU Z1 Z.next [.int .i64 (AA K),.int .i64 (AA 0),.nils,l,.int .i64 r,m]:=a1
 have g3':D 125 [.ptr p 0,.int .i64 (AA i),.agg [.int .i64 (AA K),.int .i64 (AA 0),.nils,l,.int .i64 r,m]] Z2=some (.bool false,Z3):=g3
 unfold vc at g2
 have d1:decide (nf=nf)=true:=decide_eq_true rfl
 refine⟨Z3,?_,f03⟩
 show Ry E D W _ p 0 (AA i) (AA K) (AA 0) .nils l r m (AA dp) Z=_
 unfold Ry
 simp -implicitDefEqProofs only [↓rP,rA,AI,AP,AH,hl,hm,↓e1',↓c1.types,↓rd,Ty.c,(ty i).oneT,(ty i).oneI,(ty i).oneF,↓Ez a1',↓Bo a1',↓g2,↓Ez a2,↓Bo a2,↓hln,↓hlf,d1,↓g3']
theorem xm (hF:Pu (D 103)):Pu (wV E D W N):=by
 intro Z p nT i nf n K dp ty fd nm nv rv tv l m hl hm r g ht hc hi hmo hk hK hf hr hml h0 hd
 exact gT hK ht hc hi hd hk (fun Z1 h1 f=>hF h1 (hc.fr f ht) hi hmo hk hK (hf.fr0 f ht) (hr.fr0 f ht) hml h0 hd)
theorem xn (hV:Pu (D 67)):cM (F40 E D W N):=by
 intro Z nT i nf n K ty fd nm nv rv tv l m hl hm r g ht hrow h1 h2 h3 hi hmo hk hK hf hr hml h0
 obtain⟨Z1,e1,f1,a1,n1⟩:=G8 ht [.str nm,nv,rv,tv]
 obtain⟨Z2,e2,f2,a2,n2⟩:=G8 f1.tidy (Vr K l hl r m hm).c
 obtain⟨Z3,e3,f3,a3,n3⟩:=G8 f2.tidy [.str nm,nv,rv,tv,.bool false]
 have f02:=f1.trans f2 (fun _ _ h=>h)
 have f03:=f02.trans f3 (fun _ _ h=>h)
 have r3:=hrow.fr0 f03 ht
 have c3:Ck Z3 Z2.next nT ty nm nv rv tv [.bool false]:=⟨a3,h1,h2,h3,r3,fun b hb e=>by
  subst e
  have lo:=f02.le
  rcases hrow.is with ⟨_,rfl⟩|⟨b,c,L,rfl,ha,_⟩
  ·exact hb
  ·have:=ha.lt ht
   have hb:Z2.next=b:=hb
   omega⟩
 obtain⟨Z4,g4,f4⟩:=hV (dp:=1) (hl:=hl) (hm:=hm) (r:=r) f3.tidy c3 hi hmo hk hK (hf.fr0 f03 ht) (hr.fr0 f03 ht) hml h0 (by decide)
 have f04:=f03.trans f4 (fun _ _ h=>h)
 have a12:=f2.at_ a1 f1.tidy (fun h=>h)
 have a23:=f3.at_ a2 f2.tidy (fun h=>h)
 refine⟨Z4,?_,f04⟩
 unfold Vc.c Vr at e2 a2 a23 g4
 show bE E D W nm nv rv tv (AA i) (AA K) (AA 0) .nils l r m Z=_
 unfold bE
 simp -implicitDefEqProofs only [↓rP,rA,AI,AP,AH,h1,h2,h3,hl,hm,↓e1,↓e2,↓e3,↓Bo a12,↓Bo a23,↓g4]
end
theorem qH {Z:H} {q:Nat} {gs:List Vc} (h:CU Z q (HP gs)) (hl:gs.length=4):Jw Z 6 4 (.sl q 0 4 (.ex 4)) fun k=>(gS gs k).c:=
 ⟨.inr ⟨q,_,_,rfl,h,fun k hk=>⟨by rw[Kn,hl];omega,by
  have:gs[k]? = some (gS gs k):=by unfold gS;rw[GC,A6 (by rw[hl];exact hk)];rfl
  exact U3 gs k _ this⟩⟩⟩
def R9 (Pt:H->Prop) (set:Bool) (nm:BS) (nv rv tv:V) (F:List V->H->AG):Prop:=∀{Z:H} {q n:Nat} {m:V} (hm:m.one=true) {r:Int} {gs:List Vc},BG Z->Pt Z->gs.length=4->CU Z q (HP gs)->Tm m n->0<n ->
 ∃w Z',F [.agg [.str nm,nv,rv,tv],.int .i64 (AA 0),.agg (Vr (kO set) (.sl q 0 4 (.ex 4)) rfl r m hm).c] Z=some (.tup [w,.int .i64 (AA 13)],Z')/\w.one=true/\Fr AN Z Z'
def Uh (Pt:H->Prop) (set:Bool) (nm:BS) (nv rv tv:V) (F:List V->H->AG):Prop:=∀{Z:H} {q:Nat} {bits:List Bool},BG Z->Pt Z->bits.length=4->CU Z q (HP (bits.map NO)) ->
 ∃w Z',F [.agg [.str nm,nv,rv,tv],.int .i64 (AA 0),.agg (Vr (kO set) (.sl q 0 4 (.ex 4)) rfl (AA 0) .nils rfl).c] Z=some (.tup [w,.int .i64 (AA 0)],Z')/\Oc Z' w (IM set (N0 set bits))/\Fr AN Z Z'
section
variable {E:EB} {D:Al} {W:AE} {N:Nat} {B Wi:List V->H->AG} {Pt:H->Prop} {set:Bool} {nm:BS} {nv rv tv:V} {ty:Nat->Ty} {fd:Nat->Fd}
theorem mF.ones (hT:mF B Wi Pt set nm nv rv tv ty fd):nv.one=true/\rv.one=true/\tv.one=true:=by
 obtain⟨_,_,_,_,e,o1,o2,o3,_,_,_⟩:=hT.t4.ex
 injection e with e1 e
 injection e with e2 e
 injection e with e3 e
 injection e with e4 e
 subst e2;subst e3;subst e4
 exact⟨o1,o2,o3⟩
theorem km:kO set=7\/kO set=8:=by cases set;exact .inl rfl;exact .inr rfl
theorem ZX (hT:mF B Wi Pt set nm nv rv tv ty fd) (hFi:cM (D 40)):R9 Pt set nm nv rv tv (pT E D W N):=by
 intro Z q n m hm r gs ht hp hg ha hml h0
 obtain⟨o1,o2,o3⟩:=hT.ones
 obtain⟨w,e,Z',g1,wo,f,_,h⟩:=qo (E:=E) (D:=D) (W:=W) (N:=N) (v:=Vr (kO set) (.sl q 0 4 (.ex 4)) rfl r m hm) (O:=[]) (fb:=false) (i:=0) (nm:=nm) ht (hT.row Z hp) o1 o2 o3 (fun Z1 h1 f=>hFi h1 (hT.row Z1 (hT.ptf _ _ ht f hp)) o1 o2 o3 (by decide) hT.mor hT.k0 km (hT.frow Z1 (hT.ptf _ _ ht f hp)) ((qH ha hg).fr0 f ht) hml h0) (fun h=>by cases h) (fun h=>by cases h)
 rw[h rfl]at g1
 exact⟨w,Z',g1,wo,f⟩
end
def Qo (set:Bool) (ks:List Nat) (Z:H) (vc:List V):Prop:=∃(q:Nat) (gs:List Vc) (m:V) (r:Int) (hm:m.one=true),vc=(Vr (kO set) (.sl q 0 4 (.ex 4)) rfl r m hm).c/\CU Z q (HP gs)/\gs=(Jt (pO set ks).1).map NO/\((pO set ks).2=[]->m = .nils/\r=AA 0)/\((pO set ks).2≠[]->∃n,Tm m n/\0<n)
def Pw (Pt:H->Prop) (set:Bool) (nm:BS) (nv rv tv:V) (F:List V->H->AG):Prop:=∀{Z:H} {u:V} {ks:List Nat},BG Z->Pt Z->Oc Z u (IM set (GM ks))->(∀k∈ks,k<4)->ks.length<=8 ->
 ∃vc er Z',F [.agg [.str nm,nv,rv,tv],.int .i64 (AA 0),u] Z=some (.tup [.agg vc,.int .i64 (AA er)],Z')/\Fr AN Z Z'/\(C3 set ks=true->er=0/\∃q,vc=(Vr (kO set) (.sl q 0 4 (.ex 4)) rfl (AA 0) .nils rfl).c/\CU Z' q (HP (XI ks)))/\(C3 set ks=false->er=4/\vc=Ee)
theorem ZZ {k:Nat} (hk:k<4):kS (XQ k []) 2 k false [] 2/\Kk (XQ k []):=by
 have:k=0\/k=1\/k=2\/k=3:=by omega
 have key:=UM (x:=128+k) (t:=k) (c:=2) (mk:=false) (body:=[]) (by omega) (by omega) (by omega) (by omega) (by rcases this with rfl | rfl | rfl | rfl<;>decide) (by decide) (by decide)
 exact key
theorem qd {ks:List Nat} (hk:∀k∈ks,k<4):∀e∈XA ks,SO e:=by
 intro e he
 unfold XA at he
 obtain⟨k,h1,rfl⟩:=Du.1 he
 obtain⟨a,b⟩:=ZZ (hk k h1)
 exact⟨b,by show (XQ k []).length<=_;exact(show 2<=100000 by decide),false,[],2,a⟩
theorem aN {ks:List Nat} (hk:∀k∈ks,k<4):Kk (GM ks):=by
 intro c hc
 unfold GM at hc
 rw[List.mem_flatten]at hc
 obtain⟨l,h1,h2⟩:=hc
 obtain⟨k,h3,rfl⟩:=Du.1 h1
 exact(ZZ (hk k h3)).2 c h2
theorem ZV (set:Bool):∀bits:List Bool,bits.length=4->(N0 set bits).length<=8
 | [a,b,c,d],_=>by cases a<;>cases b<;>cases c<;>cases d<;>cases set<;>decide
theorem ZW (set:Bool):∀bits:List Bool,bits.length=4->Kk (N0 set bits)
 | [a,b,c,d],_=>by cases a<;>cases b<;>cases c<;>cases d<;>cases set<;>(unfold Kk;decide)
theorem Sd {set:Bool} {e:List Nat} (h:Kk e) (hl:e.length<256):Kk (IM set e):=by
 intro c hc
 unfold IM at hc
 rcases AS.1 hc with rfl|hc
 ·cases set<;>decide
 ·rcases AS.1 hc with rfl|hc
  ·exact hl
  ·exact h c hc
theorem YZ {set:Bool} {a b:List Nat}:IM set a=IM set b↔a=b:=⟨fun h=>by unfold IM at h;injection h with _ h;injection h with _ h,fun h=>by rw[h]⟩
theorem Ya {set:Bool} {e:List Nat} (h:Kk e) (hl:e.length<128):kS (IM set e) 0 (Om set) true e 2:=by
 cases set with
 | true=>exact(UM (x:=49) (t:=17) (c:=0) (mk:=true) (body:=e) (by decide) rfl rfl (by decide) (by decide) hl h).1
 | false=>exact(UM (x:=48) (t:=16) (c:=0) (mk:=true) (body:=e) (by decide) rfl rfl (by decide) (by decide) hl h).1
theorem qg (set:Bool):decide (kO set=7)=!set:=by cases set<;>rfl
section
variable {E:EB} {D:Al} {N M:Nat} {B Wi:List V->H->AG} {Pt:H->Prop} {set:Bool} {nm:BS} {nv rv tv:V} {ty:Nat->Ty} {fd:Nat->Fd}
theorem mF.fty' (hT:mF B Wi Pt set nm nv rv tv ty fd) {Z:H} {p:Nat} (hp:Pt Z) (hd:CU Z p [.bool false,.str nm,nv,rv,tv]):kE B Wi Pt Z p 5 ty [.str nm,nv,rv,tv] tv (ty 0) 4 fd (fun k=>k+1) wN (fun _=>4):=
 ⟨hT.frow Z hp,fun k hk=>⟨hT.fty k hk,hT.kd k hk,.inr (.inr (.inl rfl)),⟨⟨nm,nv,rv,rfl⟩,hd,hT.row Z hp,by omega,hT.tg Z k hp hk⟩,hT.bw k hk⟩,hT.t4,hp,hT.ptf,hd,hT.itm⟩
theorem iF {Zb Z':H} {o:List (Option El)} {gs:List Vc} (ho:o.length=4) (hg:gs.length=4) (h:∀i,i<4->∃x v,o[i]? = some x/\gs[i]? = some v/\Gd Zb Z' (wN i) 4 x v):gs=(Jt o).map NO:=by
 refine Ed fun i=>?_
 by_cases hi:i<4
 ·obtain⟨x,v,h1,h2,h3⟩:=h i hi
  rw[h2]
  unfold Jt
  rw[kV,Bh,h1]
  cases x with
  | none=>rw[show v=Vc.abs from h3];rfl
  | some e=>
   obtain⟨_,_,_,_,_,_,hd,_⟩:=h3
   cases hd
   rfl
 ·unfold Jt
  rw[BH (by omega),BH (by rw[Bm,Bm];omega)]
theorem aI (hT:mF B Wi Pt set nm nv rv tv ty fd) (hVr:sB B Wi M (D 15)) (hM:8<M) (hEn:R9 Pt set nm nv rv tv (D 16)) (hEy:Uh Pt set nm nv rv tv (D 16)) (hB:WC E (D 17)):Pw Pt set nm nv rv tv (F9 E D (AZ E D) N):=by
  intro Z u ks ht hp hu hk hl
  obtain⟨o1,o2,o3⟩:=hT.ones
  have cb:=aN hk
  have cl:=LV ks
  have cl':(GM ks).length<=16:=by omega
  have rl:(IM set (GM ks)).length=(GM ks).length+2:=rfl
  have rb:=Sd (set:=set) cb (by omega)
  have rm:=Ya (set:=set) cb (by omega)
  have lX:(XA ks).length=ks.length:=by unfold XA;rw[Bm]
  have pl:(pO set ks).1.length=4:=Sv
  have bl:(Jt (pO set ks).1).length=4:=by unfold Jt;rw[Bm,pl]
  obtain⟨vc,er,Z',g,f,h1,h2⟩:=xu (E:=E) (D:=D) (N:=N) (nT:=5) (Q:=Qo set ks) (L:=IM set (GM ks)) (i0:=0) (nm:=nm) (ok:=C3 set ks) ht o1 o2 o3 (hT.row Z hp).len.2 (by decide) hu (by omega) (fun Z1 p f hd=>by
      have hp1:=hT.ptf _ _ ht f hp
      obtain⟨Zb,Z',q,gs,m,g,hg,hat,hgd,hrw,hmn,f'⟩:=hVr (X:=XA ks) (ts:=fy) (K:=kO set) (un:=Om set) (i0:=0) (dp:=1) (nf:=4) (L:=IM set (GM ks)) (mk:=true) (h:=2) f.tidy (hT.fty' hp1 hd) ⟨nm,nv,rv,rfl⟩ (hT.row Z1 hp1) (by decide) hT.k0 km (hT.tg0 Z1 hp1) (hu.fr0 f ht) rb (by rw[qy];exact rm) (by omega) (by decide) (by decide) (by decide) (qd hk) (by omega) (by omega) rfl (fun i t' hi=>by
        match i,hi with
        | 0,hi=>cases hi;rfl
        | 1,hi=>cases hi;rfl
        | 2,hi=>cases hi;rfl
        | 3,hi=>cases hi;rfl
        | i+4,hi=>simp[fy]at hi)
      rw[qg]at g hgd hrw hmn
      have hmo:m.one=true:=hrw.one
      refine⟨AA (kO set),AA 0,.nils,.sl q 0 4 (.ex 4),_,m,Z',g,rfl,rfl,hmo,⟨q,gs,m,_,hmo,rfl,hat,iF pl hg hgd,fun e=>⟨hmn e,?_⟩,fun e=>?_⟩,f'⟩
      · have e:(MW (!set) fy (XA ks)).2=[]:=e
        rw[e];rfl
      · obtain⟨bs,d,_⟩:=hrw
        refine⟨_,⟨d.one,fun J=>d.src.slen⟩,?_⟩
        rw[Bm]
        exact List.length_pos_iff.2 e)
    (fun Z1 Z2 l h1 f ⟨q,gs,m,r,hm,hv,hat,hr⟩=>⟨q,gs,m,r,hm,hv,f.at_ hat h1 (fun h=>h),hr⟩) (fun Z2 a b c d e f' f hq=>by
      obtain⟨q,gs,m,r,hm,hv,hat,hgs,hn,hs⟩:=hq
      rw[hv]
      have hp2:=hT.ptf _ _ ht f hp
      by_cases hX:(pO set ks).2=[]
      · obtain⟨rfl,rfl⟩:=hn hX
        obtain⟨hgood,_⟩:=Sw hk hX
        subst hgs
        obtain⟨w,Z3,g,ow,f3⟩:=hEy f.tidy hp2 bl hat
        refine⟨w,_,Z3,g,ow.one,f3,.inr ⟨rfl,fun Z4 f4=>?_⟩⟩
        have el:=ZV set _ bl
        have:=hB (ow.fr0 f4 f3.tidy) ((hu.fr0 (f.trans f3 (fun _ _ h=>h)) ht).fr0 f4 f3.tidy) (Sd (ZW set _ bl) (by omega)) rb (by show 0<(_::_).length;simp) (by show 0<(_::_).length;simp)
        rw[this,hgood]
        rw[decide_eq_decide.2 YZ]
      · obtain⟨n,hml,h0⟩:=hs hX
        obtain⟨w,Z3,g,ow,f3⟩:=hEn hm (r:=r) f.tidy hp2 (by rw[hgs,Bm];exact bl) hat hml h0
        exact⟨w,_,Z3,g,ow,f3,.inl ⟨rfl,Sx hk hX⟩⟩)
  refine⟨vc,er,Z',g,f,fun hg=>?_,h2⟩
  obtain⟨e0,q,gs,m,r,hm,hv,hat,hgs,hn,hs⟩:=h1 hg
  have hX:(pO set ks).2=[]:=by
    by_cases hX:(pO set ks).2=[]
    · exact hX
    · rw[Sx hk hX]at hg;cases hg
  obtain⟨rfl,rfl⟩:=hn hX
  obtain⟨_,hb⟩:=Sw hk hX
  rw[hgs,hb hg]at hat
  exact⟨e0,q,hv,hat⟩
end
theorem qj (ks:List Nat) (k:Nat) (hk:k<4):Nl (gS (XI ks) k):=by
 have:k=0\/k=1\/k=2\/k=3:=by omega
 have h:∀b,Nl (NO b):=fun b=>by cases b<;>exact⟨rfl,rfl,rfl⟩
 rcases this with rfl|rfl|rfl|rfl<;>exact h _
theorem qp {set:Bool} {e:List Nat} (he:e.length<128):elI 0 true (Om set) (nI e)=nI (IM set e):=by
 unfold elI
 rw[G1,xX he]
 cases set<;>rfl
section
variable {E:EB} {D:Al} {N:Nat} {Pt:H->Prop} {set:Bool} {nm:BS} {nv rv tv:V}
theorem xW (hEl:Pv E (D 8)) (hDc:Pw Pt set nm nv rv tv (D 9)) (hAw:jG (D 10)) (hZ:Ps (D 11)) (hV:Tg (D 11)) (hptf:∀Z Z',BG Z->Fr AN Z Z'->Pt Z->Pt Z') (h4:lA [.str nm,nv,rv,tv])
    {Z:H} {bv:V} {tb wb wl:Nat} {ks:List Nat} (ht:BG Z) (hp:Pt Z) (atb:CU Z tb [.str nm,nv,rv,tv]) (hb:By Z bv (nI (GM ks))) (awb:CU Z wb [.int .i64 (AA (kO set)),.int .i64 (AA 0),.nils,.sl wl 0 4 (.ex 4),.int .i64 (AA 0),.nils]) (awl:CU Z wl (HP (XI ks)))
    (hk:∀k∈ks,k<4) (hl:ks.length<=8) :
    ∃Z',jD E D (AZ E D) (AA (Om set)) tb 0 true bv wb 0 (C3 set ks) Z=some (.bool true,Z'):=by
  obtain⟨_,_,_,_,e,o1,o2,o3,b1,b2,b3⟩:=h4.ex
  injection e with e1 e
  injection e with e2 e
  injection e with e3 e
  injection e with e4 e
  subst e2;subst e3;subst e4
  have cl:=LV ks
  have fw:Fr AN Z ⟨Z.next+12,Z.bl⟩:=(Cu (E:=E) (n:=12) (S:=AN) ht).fr
  obtain⟨u1,Z1,g1,h1,f1⟩:=hEl (c:=0) (k:=Om set) (l:=nI (GM ks)) true fw.tidy (.inl rfl) (by cases set<;>decide) (by rw[G1];omega) (Bx.of (hb.fr fw ht) fw.tidy)
  rw[qp (by omega)]at h1
  have F1:Fr AN Z Z1:=fw.trans f1 (fun _ _ h=>h)
  have ou:Oc Z1 u1 (IM set (GM ks)):=Oc.of_dst (by
    have:=h1.1
    rw[G1]at this
    exact this)
  obtain⟨vc,er,Z2,g2,f2,k1,k2⟩:=hDc F1.tidy (hptf _ _ ht F1 hp) ou hk hl
  have F2:Fr AN Z Z2:=F1.trans f2 (fun _ _ h=>h)
  have n1:Z.next+12<=Z1.next:=f1.le
  have n2:Z1.next<=Z2.next:=f2.le
  obtain⟨good,hgd⟩:∃b,b=C3 set ks:=⟨_,rfl⟩
  rw[<-hgd]at k1 k2 ⊢
  have hvc:vc.length=6/\allOne vc=true:=by
    cases good with
    | true=>
      obtain⟨_,q,rfl,_⟩:=k1 rfl
      exact⟨rfl,Vc.allOne _⟩
    | false=>
      obtain⟨_,rfl⟩:=k2 rfl
      exact⟨rfl,rfl⟩
  obtain⟨vl,vo⟩:=hvc
  let Z3:H:=⟨Z2.next,(Z.next+9,.cells Ee)::Z2.bl⟩
  have F3:Fr AN Z Z3:=⟨fun c hc=>by
    have hc:Z2.next<=c:=hc
    show BB ((Z.next+9,_)::Z2.bl) c=none
    rw[BA,if_neg (by simp only[];omega)];exact f2.tidy c hc,F2.le,fun c hc _=>by
    show BB ((Z.next+9,_)::Z2.bl) c=_
    rw[BA,if_neg (by simp only[];omega)];exact F2.same c hc (fun h=>h)⟩
  have a3:CU Z3 (Z.next+9) Ee:=by
    show BB ((Z.next+9,_)::Z2.bl) _=_
    rw[BA,if_pos rfl]
  obtain⟨Z4,g4,f4,a4⟩:∃Z4,Dc E D (.store 6 (.tmp 16) (.tmp 102)) [(16,.ptr (Z.next+9) 0),(102,.agg vc)] Z3=some (.dead,Z4)/\Fr (fun b=>b=Z.next+9) Z3 Z4/\CU Z4 (Z.next+9) vc:=by
    obtain⟨Z4,r1,r2,r3⟩:=J3 (E:=E) (D:=D) (n:=6) (x := .tmp 16) (y := .tmp 102) (e:=[(16,.ptr (Z.next+9) 0),(102,.agg vc)]) F3.tidy a3 rfl (show (B4 [(16,.ptr (Z.next+9) 0),(102,.agg vc)] (.tmp 102)).cells=vc from rfl) (by rw[vl,vo];rfl)
    have:HQ Ee 0 vc=vc:=by
      match vc,vl with
      | [a,b,c,d,e,f],_=>rfl
    rw[this]at r3
    exact⟨Z4,r1,r2,r3⟩
  have bo:=hb.one
  have ab:V.beq (.agg [.str nm,nv,rv,tv]) (.agg [.str nm,nv,rv,tv])=true:=by simp[V.beq,KR,b1,b2,b3]
  have go:Fz E D Z 12 0 AN X3 ec ⟨[(6,.int .i64 (AA (Om set))),(7,.ptr tb 0),(8,.bool true),(10,bv),(11,.ptr wb 0),(12,.bool good)],Z.next+12,[Z.bl],[],0,[]⟩ _ Z4:=
    TB (.agg [.str nm,nv,rv,tv]) (Cu ht) rfl (HS (b:=tb) (off:=0) (m:=4) rfl atb rfl rfl ht (fun h=>h) ab) fun _ r1=>
    DW (.int .i64 (AA (Om set))) rfl rfl <|
    DW (.agg [.int .i64 (AA 0),.int .i64 (AA (Om set))]) rfl rfl <|
    DW bv rfl (Fl rfl (CK bo)) <|
    Qt u1 r1 rfl (by decide) f1 (fun _ _ h=>h) (fun _ h _ _=>h) (FH (vs:=[.agg [.int .i64 (AA 0),.int .i64 (AA (Om set))],.bool true,bv]) rfl (by rw[Bq,Bq,Bq,CK bo];rfl) g1) fun _ _ _ r2=>
    Qt (.tup [.agg vc,.int .i64 (AA er)]) r2 rfl (by decide) f2 (fun _ _ h=>h) (fun _ h _ _=>h) (FH (vs:=[.agg [.str nm,nv,rv,tv],.int .i64 (AA 0),u1]) rfl (by rw[Bq,Bq,Bq,CK h1.1.one];rfl) g2) fun _ _ _ r3=>
    DW (.tup [.agg vc,.int .i64 (AA er)]) rfl rfl <|
    DW (.agg vc) rfl rfl <|
    DW (.int .i64 (AA er)) rfl rfl <|
    iH (.ptr (Z.next+9) 0) (.cells Ee) 512 r3 rfl (by decide) (by decide) rfl fun _ r4=>
    kq .dead r4 rfl (by decide) f4 (fun b h e=>by omega) (fun b e h1 h2=>by subst e;rw[Eb];decide) g4 fun _ _ _ r5=>
    DW (.int .i64 (AA er)) rfl rfl <|
    KF r5
  obtain⟨ev,d,y8,kY,Io,Wl,fZ⟩:∃ev,AZ E D X3 ec [(6,.int .i64 (AA (Om set))),(7,.ptr tb 0),(8,.bool true),(10,bv),(11,.ptr wb 0),(12,.bool good)] Z=some (ev,Z4)/\Go.Og.look ev 8=some (.bool true)/\Go.Og.look ev 11=some (.ptr wb 0)/\Go.Og.look ev 12=some (.bool good)/\Go.Og.look ev 16=some (.ptr (Z.next+9) 0)/\Go.Og.look ev 17=some (.int .i64 (AA er)):=⟨_,(IT (ops:=X3) go).1,rfl,rfl,rfl,rfl,rfl⟩
  have F4:Fr AN Z Z4:=F3.trans f4 (fun b hb e=>by omega)
  have gd:∀J:Bk->H->AG,Cp (AZ E D X3 ec [(6,.int .i64 (AA (Om set))),(7,.ptr tb 0),(8,.bool true),(10,bv),(11,.ptr wb 0),(12,.bool good)] Z) J=J ev Z4:=fun J=>by rw[d];rfl
  have z8:∀J:V->AG,BR ev 8 J=J (.bool true):=fun J=>Bg y8 rfl
  have z11:∀J:V->AG,BR ev 11 J=J (.ptr wb 0):=fun J=>Bg kY rfl
  have z12:∀J:V->AG,BR ev 12 J=J (.bool good):=fun J=>Bg Io rfl
  have z16:∀J:V->AG,BR ev 16 J=J (.ptr (Z.next+9) 0):=fun J=>Bg Wl rfl
  have z17:∀J:V->AG,BR ev 17 J=J (.int .i64 (AA er)):=fun J=>Bg fZ rfl
  obtain⟨Z5,g5,f5⟩:=hAw Z4 F4.tidy
  have F5:Fr AN Z Z5:=F4.trans f5 (fun _ _ h=>h)
  have a5:=f5.at_ a4 F4.tidy (fun h=>h)
  have ld:∀J:List V->AG,BV E Z5 (Z.next+9) 0 6 J=J vc:=fun J=>by
    rw[Bo a5,Kp (by omega),Cl,<-vl,DC]
  cases good with
  | false=>
    obtain⟨rfl,rfl⟩:=k2 rfl
    obtain⟨Z6,g6,f6⟩:=hZ (Z:=Z5) Vc.abs F5.tidy ⟨rfl,rfl,rfl⟩
    refine⟨Z6,?_⟩
    unfold Vc.c Vc.abs at g6
    unfold Ee at ld
    unfold jD
    simp -implicitDefEqProofs only [↓rP,rA,AI,AP,AH,↓gd,↓z8,↓z11,↓z12,↓z16,↓z17,↓g5,Ca,decide_true,↓ld,↓g6,SV]
  | true=>
    obtain⟨rfl,q,rfl,hat⟩:=k1 rfl
    have qlt:q<Z2.next:=hat.lt f2.tidy
    have n8:BB Z2.bl (Z.next+9)=none:=by
      have e1:BB Z2.bl (Z.next+9)=BB Z1.bl (Z.next+9):=f2.same _ (by omega) (fun h=>h)
      have e2:BB Z1.bl (Z.next+9)=BB Z.bl (Z.next+9):=f1.same _ (by show Z.next+9<Z.next+12;omega) (fun h=>h)
      rw[e1,e2]
      exact ht _ (by omega)
    have qne:q≠Z.next+9:=fun e=>by
      have:BB Z2.bl q=some (.cells (HP (XI ks))):=hat
      rw[e,n8]at this
      cases this
    have aq3:CU Z3 q (HP (XI ks)):=by
      show BB ((Z.next+9,_)::Z2.bl) q=_
      rw[BA,if_neg (by simp only[];omega)];exact hat
    have aq5:=f5.at_ (f4.at_ aq3 F3.tidy (fun e=>qne e)) F4.tidy (fun h=>h)
    have aw5:=F5.at_ awb ht (fun h=>h)
    obtain⟨Z6,g6,f6⟩:=hV (Z:=Z5) (l := .sl q 0 4 (.ex 4)) (l' := .sl wl 0 4 (.ex 4)) (hl:=rfl) (hl':=rfl) (K:=kO set) (g:=gS (XI ks)) F5.tidy (qH aq5 (M1 ks)) (qH (F5.at_ awl ht (fun h=>h)) (M1 ks)) (qj ks) (by decide)
    refine⟨Z6,?_⟩
    have ldw:∀J:List V->AG,BV E Z5 wb 0 6 J=J [.int .i64 (AA (kO set)),.int .i64 (AA 0),.nils,.sl wl 0 4 (.ex 4),.int .i64 (AA 0),.nils]:=fun J=>by rw[Bo aw5];rfl
    unfold Vc.c Vr at g6
    unfold Vc.c Vr at ld
    unfold jD
    simp -implicitDefEqProofs only [↓rP,rA,AI,AP,AH,↓gd,↓z8,↓z11,↓z12,↓z16,↓z17,↓g5,Ca,decide_true,↓ld,↓ldw,↓g6,Mw]
end
structure wi (E:EB) (v:V) (n:Nat) (f:Nat->Int):Prop where
 len:∀J:Nat->AG,A0 v J=J n
 rd:∀(Z:H) (i:Nat) (J:V->AG),i<n->BB Z.bl 50=none->Ab 1 v (AA i) (fun b o=>BY E Z b o J)=J (.int .i64 (f i))
theorem xJ (c:Int):∃r:Nat,r<4/\EW (As .u64 c) (AA 4)=AA r:=by
 obtain⟨k,hk⟩:∃k:Nat,As .u64 c=AA k:=by
  rw[NM]
  exact Int.eq_ofNat_of_zero_le (Int.emod_nonneg _ (by decide))
 exact⟨k % 4,wF _ (by decide),by rw[hk];rfl⟩
def kf (f:Nat->Int) (i:Nat):Nat:=(EW (As .u64 (f i)) (AA 4)).toNat
theorem ZJ (f:Nat->Int) (i:Nat):kf f i<4:=by
 obtain⟨r,hr,er⟩:=xJ (f i)
 unfold kf;rw[er];exact hr
theorem kl (f:Nat->Int) (i:Nat):As .i64 (EW (As .u64 (f i)) (AA 4))=AA (kf f i):=by
 obtain⟨r,hr,er⟩:=xJ (f i)
 unfold kf;rw[er]
 exact B7 (show r<=9223372036854775807 by omega)
def Kj (f:Nat->Int) (i:Nat):List Nat:=(GB i).map (kf f)
theorem LD (f:Nat->Int) (i:Nat):Kj f (i+1)=Kj f i++[kf f i]:=by
 unfold Kj;rw[List.range_succ,List.map_append];rfl
theorem VS (f:Nat->Int) (i:Nat):(Kj f i).length=i:=by unfold Kj;rw[Bm,List.length_range]
theorem qe (f:Nat->Int) (i:Nat):∀k∈Kj f i,k<4:=by
 intro k hk
 unfold Kj at hk
 obtain⟨j,_,rfl⟩:=Du.1 hk
 exact ZJ f j
theorem qq {t:Nat} (ht:t<4):elI 2 false t []=nI (XQ t []):=by
 have:t=0\/t=1\/t=2\/t=3:=by omega
 rcases this with rfl|rfl|rfl|rfl<;>rfl
def xS:List V:=[.int .i64 (AA 1),.int .i64 (AA 3),.int .i64 (AA 0),.int .i64 (AA 2)]
theorem gg {k:Nat} (hk:k<4):xS[k]? = some (.int .i64 (AA (Oh k))):=by
 have:k=0\/k=1\/k=2\/k=3:=by omega
 rcases this with rfl|rfl|rfl|rfl<;>rfl
theorem qP {k:Nat} (hk:k<4):Oh k<4:=ZB (set:=false) hk
structure Lo (Z1 ZL Z:H) (pb wb wl tb:Nat) (Fa:List V) (K:Nat) (ks:List Nat) (h:V):Prop where
 f1:Fr AN Z1 Z
 lo:ZL.next<=Z.next
 dst:JK Z 1 (nI (GM ks)).length h (Iq (nI (GM ks)))
 nh:∀b,BK h b->ZL.next<=b
 pl:CU Z pb xS
 wt:CU Z wb [.int .i64 (AA K),.int .i64 (AA 0),.nils,.sl wl 0 4 (.ex 4),.int .i64 (AA 0),.nils]
 ls:CU Z wl (HP (XI ks))
 tb:CU Z tb Fa
section
variable {E:EB} {D:Al} {N:Nat}
theorem Y0 (hEl:Pv E (D 8)) {Z1 ZL Z:H} {pb wb wl tb n un:Nat} {Fa:List V} {K:Nat} {set:Bool} {a h:V} {f:Nat->Int} {i:Nat} (h100:100<=Z1.next) (h50:BB Z1.bl 50=none) (ha:wi E a n f) (hi:i<n) (hn:n<=8) (hl1:Z1.next<=wl) (hlL:wl<ZL.next) (hw:wb<ZL.next/\wb≠wl) (hpb:pb<ZL.next/\pb≠wl) (htb:tb<ZL.next/\tb≠wl)
  (hs:Lo Z1 ZL Z pb wb wl tb Fa K (Kj f i) h) :
  ∃h' Z',(∀K3 K5,Xz E D (AZ E D) K3 K5 a set (AA un) tb 0 true (.sl pb 0 4 (.ex 4)) h wb 0 (C3 set (Kj f i)) (AA i) Z=K5 a set (AA un) tb 0 true (.sl pb 0 4 (.ex 4)) h' wb 0 (C3 set (Kj f (i+1))) (AA i) Z')/\Lo Z1 ZL Z' pb wb wl tb Fa K (Kj f (i+1)) h':=by
 have ht:=hs.f1.tidy
 have hk:=ZJ f i
 have cl:=LV (Kj f i)
 rw[VS]at cl
 obtain⟨u,Z2,g2,h2,f2⟩:=hEl (c:=2) (k:=kf f i) (l:=[]) false ht (.inr rfl) (by omega) (by decide) (gn E Z)
 rw[qq hk]at h2
 have d2:JK Z2 1 (nI (GM (Kj f i))).length h (Iq (nI (GM (Kj f i)))):=hs.dst.fr f2 ht (fun _ _ h=>h)
 obtain⟨h',Z3,g3,d3,nm3,f3⟩:=jA (E:=E) (bytes:=1) d2 f2.tidy h2.by_ (Ko _) (by
  unfold CT
  rw[G1,G1]
  have:(XQ (kf f i) []).length=2:=rfl
  simp only[CQ,AF,A1];omega)
 have nl:¬BK h wl:=fun e=>by have:=hs.nh _ e;omega
 have nh2:∀b,BK h b->ZL.next<=b:=hs.nh
 have F13:Fr AN Z1 Z3:=(hs.f1.trans f2 (fun _ _ h=>h)).trans f3 (fun b hb e=>by have:=nh2 b e;omega)
 have out:∀b,b<ZL.next->¬BK h b:=fun b hb e=>by have:=nh2 b e;omega
 have p3:=f3.at_ (f2.at_ hs.pl ht (fun h=>h)) f2.tidy (out _ hpb.1)
 have w3:=f3.at_ (f2.at_ hs.wt ht (fun h=>h)) f2.tidy (out _ hw.1)
 have l3:=f3.at_ (f2.at_ hs.ls ht (fun h=>h)) f2.tidy nl
 have t3:=f3.at_ (f2.at_ hs.tb ht (fun h=>h)) f2.tidy (out _ htb.1)
 have hp:=qP hk
 obtain⟨Z4,g4,f4,a4,n4⟩:=GH (n:=6) (o:=0+Oh (kf f i)*6) (v := .agg (vB 4 0).c) f3.tidy l3 (by
  rw[show (V.agg (vB 4 0).c).cells=(vB 4 0).c from rfl,Kn,M1,(vB 4 0).allOne,Wj]
  show (true&&Ag (0+Oh (kf f i)*6+6) (4*6))=true
  rw[FW,A1];omega)
 rw[Bp]at a4
 have a4:CU Z4 wl (HP (XI (Kj f (i+1)))):=by
  rw[LD,<-ZO hk,<-QY _ _ _ (by rw[M1];exact hp)]
  exact a4
 have fj:Fr AN Z1 Z4:=F13.trans f4 (fun b hb e=>by omega)
 have uo:=h2.1.one
 have ho':=d3.one
 have le2:=f2.le
 have le3:=f3.le
 have l50:∀Z',Fr AN Z1 Z'->BB Z'.bl 50=none:=fun Z' f=>by rw[f.same 50 (by omega) (fun h=>h)];exact h50
 have r1:∀J,Ab 1 a (AA i) (fun b o=>BY E Z b o J)=J (.int .i64 (f i)):=fun J=>ha.rd Z i J hi (l50 _ hs.f1)
 have sl:=ha.len
 have d1:decide (i<n)=true:=decide_eq_true hi
 have wl3:∀J:V->AG,BY E Z3 wb 3 J=J (.sl wl 0 4 (.ex 4)):=fun J=>Cm w3 rfl
 have pr:∀Z':H,CU Z' pb xS->∀(k:Nat),k<4->∀J:V->AG,Ab 1 (.sl pb 0 4 (.ex 4)) (AA k) (fun b o=>BY E Z' b o J)=J (.int .i64 (AA (Oh k))):=fun Z' h k hk J=>by
  rw[Dr hk]
  show BY E Z' pb (0+k*1) J=_
  rw[Bp,CQ]
  exact Cm h (gg hk)
 have pr3:=pr Z3 p3 _ hk
 have ia:∀J:Nat->Nat->AG,Ab 6 (.sl wl 0 4 (.ex 4)) (AA (Oh (kf f i))) J=J wl (0+Oh (kf f i)*6):=fun J=>Dr hp
 have ek:=kl f i
 have p4:=f4.at_ p3 f3.tidy hpb.2
 refine⟨h',Z4,fun K3 K5=>?_,⟨fj,by have:=hs.lo;have:=f4.le;omega,?_,fun b hb=>?_,p4,f4.at_ w3 f3.tidy hw.2,a4,f4.at_ t3 f3.tidy htb.2⟩⟩
 ·unfold Vc.c vB at g4
  have g4:∀J:H->AG,FY 6 wl (0+Oh (kf f i)*6) (.agg [.int .i64 (AA 4),.int .i64 (AA 0),.nils,.nils,.int .i64 (AA 0),.nils]) Z3 J=J Z4:=g4
  unfold Xz
  cases i with
  | zero=>
   have e1:C3 set (Kj f (0+1))=true:=rfl
   have e0:C3 set (Kj f 0)=true:=rfl
   rw[e1,e0]
   simp -implicitDefEqProofs only [↓rP,rA,AI,AP,AH,↓sl,d1,↓r1,ek,↓g2,↓BQ uo,↓g3,↓BQ ho',↓wl3,↓pr3,↓ia,↓g4,show decide (0<0)=false from rfl]
  | succ j=>
   have hj:=ZJ f j
   have r4:∀J,Ab 1 a (AA j) (fun b o=>BY E Z4 b o J)=J (.int .i64 (f j)):=fun J=>ha.rd Z4 j J (by omega) (l50 _ fj)
   have pk4:=pr Z4 p4 _ hk
   have pj4:=pr Z4 p4 _ hj
   have ej:=kl f j
   have es:D2 .i64 (AA (j+1)) (AA 1)=AA j:=by
    show As .i64 ((j:Int)+1-1)=_
    rw[Int.add_sub_cancel]
    exact B7 (show j<=9223372036854775807 by omega)
   have eg:C3 set (Kj f (j+1+1))=(C3 set (Kj f (j+1))&&Kr set (kf f j) (kf f (j+1))):=by
    rw[LD f (j+1),LD f j,SU]
    exact Nv (Kj f j)
   rw[eg]
   have dj:decide (0<j+1)=true:=rfl
   have b1:decide (kf f j<kf f (j+1))=CJ (kf f j) (kf f (j+1)):=by rw[De,decide_eq_true_iff,CC]
   have b2:decide (Oh (kf f j)<Oh (kf f (j+1)))=CJ (Oh (kf f j)) (Oh (kf f (j+1))):=by rw[De,decide_eq_true_iff,CC]
   cases hg:C3 set (Kj f (j+1))with
   | false=>
    rw[Bool.false_and]
    simp -implicitDefEqProofs only [↓rP,rA,AI,AP,AH,↓sl,d1,↓r1,ek,↓g2,↓BQ uo,↓g3,↓BQ ho',↓wl3,↓pr3,↓ia,↓g4,dj,es,↓r4]
    all_goals rfl
   | true=>
    rw[FW]
    cases set with
    | true=>
     show _=K5 a true _ tb 0 true _ h' wb 0 (CJ (kf f j) (kf f (j+1))) _ Z4
     cases hb:CJ (kf f j) (kf f (j+1))with
     | true=>
      rw[hb]at b1
      simp -implicitDefEqProofs only [↓rP,rA,AI,AP,AH,↓sl,d1,↓r1,ek,↓g2,↓BQ uo,↓g3,↓BQ ho',↓wl3,↓pr3,↓ia,↓g4,dj,es,↓r4,ej,b1]
      all_goals rfl
     | false=>
      rw[hb]at b1
      simp -implicitDefEqProofs only [↓rP,rA,AI,AP,AH,↓sl,d1,↓r1,ek,↓g2,↓BQ uo,↓g3,↓BQ ho',↓wl3,↓pr3,↓ia,↓g4,dj,es,↓r4,ej,b1,Mw]
      all_goals rfl
    | false=>
     show _=K5 a false _ tb 0 true _ h' wb 0 (CJ (Oh (kf f j)) (Oh (kf f (j+1)))) _ Z4
     simp -implicitDefEqProofs only [↓rP,rA,AI,AP,AH,↓sl,d1,↓r1,ek,↓g2,↓BQ uo,↓g3,↓BQ ho',↓wl3,↓pr3,↓ia,↓g4,dj,es,↓r4,ej,SV,↓pk4,↓pj4,b2]
     all_goals rfl
 ·have e:nI (GM (Kj f (i+1)))=nI (GM (Kj f i))++nI (XQ (kf f i) []):=by
   rw[LD,Xq];unfold nI;rw[List.map_append]
  rw[e,QZ,AW]
  refine d3.fr f4 f3.tidy (fun b hb e=>?_)
  subst e
  rcases nm3 _ hb with h|h
  ·exact nl h
  ·have:=hs.lo;omega
 ·rcases nm3 b hb with h|h
  ·exact nh2 b h
  ·have:=hs.lo;omega
end
def tO (set:Bool):BS:=match set with
 | true=>BS.mk 138 57987243301318357961613520139607604673822627952982652566025814236398654562048788722478310846072890700261229482982660612190748111962610501778807459203318855905182519884284709559400346901265642121092783640768047690938571103374970691682782198104516458775994960123674089388849412969072552300974926521068578029322544093238250572274212941
 | false=>BS.mk 143 63757648272475499809165130852109316184823023196885995117161306326298479145574592081781239079220519830989956937257348061293210125991208570861088732968731827397861222352351368169083663183869663723144595844787859751513466469174277387912616159777616146877177985486051834103864788821092212486038904369095870163147999041458435314894488491261184712781
def wO (set:Bool):BS:=match set with
 | true=>BS.mk 3 5522771
 | false=>BS.mk 8 4990918871747741011
theorem ADy (set:Bool) (J:BS->AG):(O7 (BS.mk 44 1155320174116467081354871280520271169385037154877160308527937316829095560925391585709334377032552200544333) (wO set) fun t=>O7 t (BS.mk 91 376750722060844764761047080813703211005890847229666167588776160204479610214849528601957395999892368467174249122725897177763287309276704095147666812449212167016852892595614218623795691234562836319994691495043923760413472) J)=J (tO set):=by
 cases set<;>kernel_rfl
def mG (D:Al) (F:List V->H->AG) (set:Bool):Prop:=∀Z:H,BG Z->∃Pt nm nv rv tv Z',F [.str (tO set)] Z=some (.tup [.agg [.str nm,nv,rv,tv],.bool true],Z')/\Fr AN Z Z'/\Pt Z'/\(∀Z Z',BG Z->Fr AN Z Z'->Pt Z->Pt Z')/\lA [.str nm,nv,rv,tv]/\Pw Pt set nm nv rv tv (D 9)
section
variable {E:EB} {D:Al} {N:Nat}
theorem Y1 {Pt:H->Prop} {nm:BS} {nv rv tv:V} {set:Bool} (hEl:Pv E (D 8)) (hDc:Pw Pt set nm nv rv tv (D 9)) (hAw:jG (D 10)) (hZ:Ps (D 11)) (hV:Tg (D 11)) (hptf:∀Z Z',BG Z->Fr AN Z Z'->Pt Z->Pt Z') (h4:lA [.str nm,nv,rv,tv])
  {Z1 ZL:H} {pb wb wl tb n:Nat} {a:V} {f:Nat->Int} (ht1:BG Z1) (hp1:Pt Z1) (h100:100<=Z1.next) (h50:BB Z1.bl 50=none) (ha:wi E a n f) (hn:n<=8) (hl1:Z1.next<=wl) (hlL:wl<ZL.next) (hw:wb<ZL.next/\wb≠wl) (hpb:pb<ZL.next/\pb≠wl) (htb:tb<ZL.next/\tb≠wl) :
  ∀(q i n':Nat) (Z:H) (h:V),i+q=n->q<n'->Lo Z1 ZL Z pb wb wl tb [.str nm,nv,rv,tv] (kO set) (Kj f i) h ->
   ∃Z',jc E D (AZ E D) N n' a set (AA (Om set)) tb 0 true (.sl pb 0 4 (.ex 4)) h wb 0 (C3 set (Kj f i)) (AA i) Z=some (.bool true,Z'):=by
 intro q
 induction q with
 | zero=>
  intro i n' Z h hi hn' hs
  obtain⟨n',rfl⟩:∃k,n'=k+1:=⟨n'-1,by omega⟩
  have hi:i=n:=by omega
  subst hi
  obtain⟨Z',g⟩:=xW (E:=E) (D:=D) (ks:=Kj f i) hEl hDc hAw hZ hV hptf h4 hs.f1.tidy (hptf _ _ ht1 hs.f1 hp1) hs.tb hs.dst.src hs.wt hs.ls (qe f i) (by rw[VS];omega)
  refine⟨Z',?_⟩
  rw[<-g]
  have sl:=ha.len
  have d1:decide (i<i)=false:=decide_eq_false (Mv _)
  have key:∀K3 K5,Xz E D (AZ E D) K3 K5 a set (AA (Om set)) tb 0 true (.sl pb 0 4 (.ex 4)) h wb 0 (C3 set (Kj f i)) (AA i) Z=K3 (AA (Om set)) tb 0 true h wb 0 (C3 set (Kj f i)) Z:=by
   intro K3 K5
   unfold Xz
   simp -implicitDefEqProofs only [↓rP,rA,AI,AP,AH,↓sl,d1]
  exact key _ _
 | succ q ih=>
  intro i n' Z h hi hn' hs
  obtain⟨n',rfl⟩:∃k,n'=k+1:=⟨n'-1,by omega⟩
  obtain⟨h',Z2,step,hs2⟩:=Y0 (E:=E) (D:=D) (un:=Om set) (set:=set) hEl h100 h50 ha (by omega) hn hl1 hlL hw hpb htb hs
  obtain⟨Z',g⟩:=ih (i+1) n' Z2 h' (by omega) (by omega) hs2
  refine⟨Z',?_⟩
  rw[<-g]
  refine(step _ _).trans ?_
  show jC E D (AZ E D) (jc E D (AZ E D) N n') a set (AA (Om set)) tb 0 true (.sl pb 0 4 (.ex 4)) h' wb 0 (C3 set (Kj f (i+1))) (AA i) Z2=_
  unfold jC
  rw[DN (show i+1<=9223372036854775807 by omega)]
theorem qc (hTb:∀set,mG D (D 6) set) (hEl:Pv E (D 8)) (hAw:jG (D 10)) (hZ:Ps (D 11)) (hV:Tg (D 11)) (hN:8<N) {Z:H} (ht:BG Z) (h100:100<=Z.next) (h50:BB Z.bl 50=none) {a:V} {n:Nat} {f:Nat->Int} (ha:wi E a n f) (ho:a.one=true) (set:Bool) :
  ∃Z',F4 E D (AZ E D) N [a,.bool set] Z=some (.bool true,Z'):=by
 have sl:=ha.len
 by_cases h8:8<n
 ·obtain⟨Z',g,f⟩:=hAw Z ht
  refine⟨Z',?_⟩
  have d8:decide (8<n)=true:=decide_eq_true h8
  show Ud E D (AZ E D) (X2 E D (AZ E D) N) a set Z=_
  unfold Ud
  simp -implicitDefEqProofs only [↓rP,rA,AI,AP,AH,↓sl,d8,↓g]
 ·have d8:decide (8<n)=false:=decide_eq_false h8
  obtain⟨Pt,nm,nv,rv,tv,Z1,g1,f1,hp1,hptf,h4,hDc⟩:=hTb set Z ht
  obtain⟨_,_,_,_,e,o1,o2,o3,b1,b2,b3⟩:=h4.ex
  injection e with e1 e
  injection e with e2 e
  injection e with e3 e
  injection e with e4 e
  subst e2;subst e3;subst e4
  obtain⟨Z2,e2,f2,a2,n2⟩:=MY f1.tidy [.str ⟨0,0⟩,.nils,.nils,.nils]
  obtain⟨Z3,g3,f3,a3,n3⟩:=GH (n:=4) (o:=0) (v := .agg [.str nm,nv,rv,tv]) f2.tidy a2 (by
   show (AK 4 4&&Ag (0+4) 4&&allOne [.str nm,nv,rv,tv])=true
   simp[Cj,DM,o1,o2,o3,Ql])
  have a3:CU Z3 Z1.next [.str nm,nv,rv,tv]:=a3
  obtain⟨Z4,e4,f4,a4,n4⟩:=MY f3.tidy xS
  obtain⟨Z5,e5,f5,a5,n5⟩:=MY f4.tidy (AY 4 [V.int .i64 (AA 0),.int .i64 (AA 0),.nils,.nils,.int .i64 (AA 0),.nils]).flatten
  obtain⟨Z6,e6,f6,a6,n6⟩:=MY f5.tidy Ee
  obtain⟨Z7,g7,f7,a7,n7⟩:=GH (n:=6) (o:=0) (v := .agg [.int .i64 (AA 7),.int .i64 (AA 0),.nils,.sl Z4.next 0 4 (.ex 4),.int .i64 (AA 0),.nils]) f6.tidy a6 rfl
  have a7:CU Z7 Z5.next [.int .i64 (AA 7),.int .i64 (AA 0),.nils,.sl Z4.next 0 4 (.ex 4),.int .i64 (AA 0),.nils]:=a7
  obtain⟨Z8,g8,f8,a8⟩:∃Z8,(∀J:H->AG,(match set with
    | true=>FY 1 Z5.next 0 (.int .i64 (AA 8)) Z7 J
    | false=>J Z7)=J Z8)/\Fr (fun b=>b=Z5.next) Z7 Z8/\CU Z8 Z5.next [.int .i64 (AA (kO set)),.int .i64 (AA 0),.nils,.sl Z4.next 0 4 (.ex 4),.int .i64 (AA 0),.nils]:=by
   cases set with
   | true=>
    obtain⟨Z8,q1,q2,q3,_⟩:=GH (n:=1) (o:=0) (v := .int .i64 (AA 8)) f7.tidy a7 rfl
    exact⟨Z8,q1,q2,q3⟩
   | false=>exact⟨Z7,fun J=>rfl,Fr.refl f7.tidy,a7⟩
  have ch:(Ag 4 4&&Ag (4*96) 281474976710656&&Ag 4 1000000000000)=true:=rfl
  have F13:Fr AN Z1 Z3:=f2.trans f3 (fun b hb e=>by omega)
  have fj:Fr AN Z1 Z4:=F13.trans f4 (fun _ _ h=>h)
  have kK:Fr AN Z1 Z5:=fj.trans f5 (fun _ _ h=>h)
  have n3':Z3.next=Z1.next+1:=by omega
  have pT:Fr AN Z1 Z6:=kK.trans f6 (fun _ _ h=>h)
  have vN:Fr AN Z1 Z7:=pT.trans f7 (fun b hb e=>by omega)
  have vM:Fr AN Z1 Z8:=vN.trans f8 (fun b hb e=>by omega)
  have le78:=f8.le
  have f58:Fr (fun b=>b=Z5.next) Z5 Z8:=((Fr.to_any f6).trans f7 (fun b hb e=>e)).trans f8 (fun b hb e=>e)
  have t8:=f58.at_ (f5.at_ (f4.at_ a3 f3.tidy (fun h=>h)) f4.tidy (fun h=>h)) f5.tidy (fun e=>by omega)
  have p8:=f58.at_ (f5.at_ a4 f4.tidy (fun h=>h)) f5.tidy (fun e=>by omega)
  have l8:CU Z8 Z4.next (HP (XI (Kj f 0))):=f58.at_ a5 f5.tidy (fun e=>by omega)
  have hf1:=f1.le
  obtain⟨Z',g⟩:=Y1 (E:=E) (D:=D) (N:=N) (set:=set) (Z1:=Z1) (ZL:=Z8) (pb:=Z3.next) (wb:=Z5.next) (wl:=Z4.next) (tb:=Z1.next) hEl hDc hAw hZ hV hptf h4 f1.tidy hp1 (by omega) (by rw[f1.same 50 (by omega) (fun h=>h)];exact h50) ha (by omega) (by omega) (by omega) ⟨by omega,by omega⟩ ⟨by omega,by omega⟩ ⟨by omega,by omega⟩ n 0 N Z8 .nils (by omega) (by omega)
   ⟨vM,AQ _,JK.nil Z8 1,fun b hb=>hb.elim,p8,a8,l8,t8⟩
  refine⟨Z',?_⟩
  rw[<-g]
  unfold Ee at e6
  unfold xS at e4
  have key1:Ud E D (AZ E D) (X2 E D (AZ E D) N) a set Z=X2 E D (AZ E D) N a set (wO set) (AA (Om set)) Z:=by
   unfold Ud
   cases set with
   | true=>
    simp -implicitDefEqProofs only [↓rP,rA,AI,AP,AH,↓sl,d8]
    all_goals rfl
   | false=>
    simp -implicitDefEqProofs only [↓rP,rA,AI,AP,AH,↓sl,d8]
    all_goals rfl
  have key2:∀K,bD E D (AZ E D) K a set (wO set) (AA (Om set)) Z=K a set (AA (Om set)) Z1.next 0 true (.sl Z3.next 0 4 (.ex 4)) .nils Z5.next 0 Z8:=by
   intro K
   unfold bD
   rw[ADy set]
   cases set with
   | true=>
    have g8:∀J:H->AG,FY 1 Z5.next 0 (.int .i64 (AA 8)) Z7 J=J Z8:=g8
    simp -implicitDefEqProofs only [↓rP,rA,AI,AP,AH,↓g1,o1,o2,o3,↓e2,↓g3,↓e4,↓HT,ch,↓e5,↓e6,↓g7,↓g8]
   | false=>
    have g8:∀J:H->AG,J Z7=J Z8:=g8
    simp -implicitDefEqProofs only [↓rP,rA,AI,AP,AH,↓g1,o1,o2,o3,↓e2,↓g3,↓e4,↓HT,ch,↓e5,↓e6,↓g7]
    exact g8 _
  show Ud E D (AZ E D) (X2 E D (AZ E D) N) a set Z=_
  rw[key1]
  show bD E D (AZ E D) (vG E D (AZ E D) N) a set (wO set) (AA (Om set)) Z=_
  rw[key2]
  rfl
end
end
end Go.Proofs.YtoengnbdallegaaGreatDoor
namespace Go.Proofs.YtoengnbdallegaaGreatDoor
open Go Go.Og Go.Proofs Go.Shelf
def D3:Go.Shelf.Ren:=⟨fun | 45=>65 | n=>n,fun | 22=>104 | 23=>29 | 3=>3 | 4=>4 | 0=>0 | n=>n,fun | n=>n⟩
theorem fz:Go.Proofs.SlLaysE.n45 Tryz.prog D3:={
  mixed:=by kernel_rfl
  f45:=⟨Tryz.f65.name,by decide,Tryz.func65.trans (congrArg some (by kernel_rfl))⟩
  t0:=Tryz.underlying0
  a0:=Tryz.isAgg0
  z0:=Tryz.sizeOf0
  v0:=Tryz.zeroValue0
  t3:=Tryz.underlying3
  a3:=Tryz.isAgg3
  z3:=Tryz.sizeOf3
  v3:=Tryz.zeroValue3
  t4:=Tryz.underlying4
  a4:=Tryz.isAgg4
  z4:=Tryz.sizeOf4
  v4:=Tryz.zeroValue4
  t22:=Tryz.underlying104
  a22:=Tryz.isAgg104
  z22:=Tryz.sizeOf104
  v22:=Tryz.zeroValue104
  a23:=Tryz.isAgg29
  z23:=Tryz.sizeOf29 }
theorem yA:D3.f 45=65:=by kernel_rfl
theorem xy:(Tryz.prog.info? (D3.t 23)).map (fun i=>i.size)=some 1:=by kernel_rfl
theorem xz:∃i0:TypeInfo,Tryz.prog.info? (D3.t 23)=some i0/\i0.size=1:=by
 have h:=xy
 cases hi:Tryz.prog.info? (D3.t 23)with
 | none=>rw[hi]at h;cases h
 | some i0=>
  rw[hi]at h
  exact⟨i0,rfl,AL.inj h⟩
theorem qx:HF Tryz.prog (D3.f 45)=true:=by kernel_rfl
theorem xw:∀w,(zeroValue (D3.t 23)).run Tryz.prog w = .ok (.slice none 0 0) w:=by intro w;kernel_rfl
theorem Xn (E:EB):CB Tryz.prog E glob 65 UQ:=by
 obtain⟨i0,h1,h2⟩:=xz
 have:=qw (E:=E) (G:=glob) fz xw h1 h2 qx
 rw[yA]at this
 exact this
end Go.Proofs.YtoengnbdallegaaGreatDoor
