/- What the last text leans on, part 6 of 7: merged out of smaller texts. No condition. -/
import Derived.Test.YtoengnbdallegaaGreatDoorQ4
open Int renaming ofNat -> AA,negSucc -> BZ,reducePow -> Eg,natCast_pow -> eU
open Nat renaming reduceLeDiff -> AB,reduceEqDiff -> AD,reduceLT -> AG,le_refl -> AL,beq_eq -> AQ,beq -> AY,ble -> Ac,add -> Ar,ble_eq -> BB,le_trans -> BJ,zero_add -> Bc,mul_one -> CE,mod_eq_of_lt -> CH,not_lt_zero -> Dd,min -> Dr,le_succ -> D9,reduceSub -> Ed,reduceMul -> Ee,add_sub_cancel_left -> Eu,lt_irrefl -> FX,add_assoc -> FY,lt_of_lt_of_le -> GG,min_eq_left -> Gq,zero_le -> Gz,sub_self -> G0,le_add_right -> H3,sub_zero -> Lp,add_zero -> Lq,add_mul -> O1,pow_le_pow_right -> Xx,zero_mul -> jZ,mod_lt -> tq
open Bool renaming and_eq_true -> AJ,or_eq_true -> BC,or_eq_false_iff -> BM,false_or -> Ct,true_and -> DW,eq_iff_iff -> De,not_true -> FZ,and_true -> Fa,not_eq_true -> Fe,not_false -> H6,false_and -> Rh
open List renaming length_append -> AS,replicate -> AW,mem_cons -> Al,getElem?_eq_getElem -> Am,length_cons -> As,mem_cons_self -> Ay,getElem?_eq_some_iff -> BE,getElem?_append_right -> BL,eq_nil_of_length_eq_zero -> Bg,all_cons -> Bh,getElem?_append_left -> B6,getElem?_map -> CR,getElem?_drop -> CT,append_nil -> CZ,mem_of_getElem? -> Ci,drop_zero -> Cq,mem_cons_of_mem -> DA,nil_append -> DB,take_length -> DF,length_take -> Dn,take_of_length_le -> D4,length_map -> EA,length_singleton -> EI,getElem?_take_of_lt -> Ef,flatten_cons -> Ev,replicate_succ -> FA,mem_map -> G2,ext_getElem? -> G3,getElem?_take -> Iq,length_replicate -> Ja,mem_of_mem_drop -> Kt,length_drop -> Lr,drop_drop -> Re,append_assoc -> Rf,take_zero -> tr,length_eraseIdx_of_lt -> tu,drop_take -> tz
open BitVec renaming ofInt -> A2
set_option linter.all false
set_option maxRecDepth 100000
namespace Go.Proofs.YtoengnbdallegaaGreatDoor
open Go Go.Og
noncomputable section
inductive qZ:List Nat->Nat->Nat->Prop
 | short {c:Nat} {r:List Nat}:c % 32<31->qZ (c::r) (c % 32) 0
inductive UQ:List Nat->Nat->Nat->Prop
 | short {c:Nat} {r:List Nat}:c<128->UQ (c::r) c 1
theorem wR:∀c:Fin 256,GX .u8 (AA c.val) (AA 31)=AA (c.val % 32):=by decide +kernel
theorem oN:∀c:Fin 256,(AA c.val).fdiv (2 ^ (Dr (AA 6).toNat 8))=AA (c.val / 64)/\IntKind.wrap .u8 (A2 8 (AA c.val) &&& A2 8 (AA 32)).toNat=AA (c.val / 32 % 2*32):=by decide +kernel
def pW (F:List V->H->AH):Prop:=∀{Z:H} {u:V} {L:List Nat} {no n:Nat},Oc Z u L->Lu L->qZ L no n->F [u] Z=some (.tup [.int .i64 (AA no),.int .i64 (AA n),.int .i64 (AA 0)],Z)
def av (F:List V->H->AH):Prop:=∀{Z:H} {u:V} {L:List Nat} {l k:Nat},Oc Z u L->Lu L->UQ L l k->F [u] Z=some (.tup [.int .i64 (AA l),.int .i64 (AA k),.int .i64 (AA 0)],Z)
structure uI (L:List Nat) (c:Nat) (mk:Bool) (no l h:Nat):Prop where
 c:∃x r,L=x::r/\x / 64=c/\(x / 32 % 2=1↔mk=true)
 p:∃n k,qZ L no n/\UQ (L.drop (1+n)) l k/\h=1+n+k/\1+n<=L.length/\n<=9/\k<=9
def V8 (F:List V->H->AH):Prop:=∀{Z:H} {u:V} {L:List Nat} {c no l h:Nat} {mk:Bool},Ao Z->Oc Z u L->Lu L->uI L c mk no l h ->
 ∃Z',F [u] Z=some (.tup [.agg [.int .i64 (AA c),.int .i64 (AA no)],.bool mk,.int .i64 (AA l),.int .i64 (AA h),.int .i64 (AA 0)],Z')/\Fr AF Z Z'
section
variable {E:EB} {D:Ai} {W:AI} {N:Nat}
theorem ADG:pW (dY E D W N):=by
 intro Z u L no n h hb hn
 cases hn with
 | @short c r hc=>
  have hc256:c<256:=hb c Ay
  have g:=h.get (E:=E) (k:=0) (c:=c) rfl
  have e1:Ap .i64 (GX .u8 (AA c) (AA 31))=AA (c % 32):=by
   have:GX .u8 (AA c) (AA 31)=AA (c % 32):=wR ⟨c,hc256⟩
   rw[this];exact Ba (show c % 32<=9223372036854775807 by omega)
  have d1:decide (c % 32<31)=true:=decide_eq_true hc
  show UG E D W u Z=_
  unfold UG
  simp -implicitDefEqProofs only [↓rP,rA,AD,AG,AB,↓g,e1,d1]
theorem vd:av (dW E D W N):=by
 intro Z u L l k h hb hl
 cases hl with
 | @short c r hc=>
  have g:=h.get (E:=E) (k:=0) (c:=l) rfl
  have sl:=h.slen
  have e1:Ap .i64 (AA l)=AA l:=Ba (show l<=9223372036854775807 by omega)
  have d1:decide (l<128)=true:=decide_eq_true hc
  have d0:decide ((l::r).length=0)=false:=decide_eq_false (by simp)
  show UF E D W u Z=_
  unfold UF
  simp -implicitDefEqProofs only [↓rP,rA,AD,AG,AB,↓g,↓sl,e1,d1,d0]
theorem ur (hN:pW (D 116)) (hL:av (D 117)):V8 (F93 E D (AT E D) N):=by
 intro Z u L c no l h mk ht hu hb hh
 obtain⟨x,r,rfl,rfl,hmk⟩:=hh.c
 obtain⟨n,k,hn,hl,rfl,hle,hn9,hk9⟩:=hh.p
 have hx256:x<256:=hb x Ay
 obtain⟨Z1,e1,f1,a1,n1⟩:=Jo ht [.int .i64 (AA 0),.int .i64 (AA 0)]
 have h1:=hu.fr0 f1 ht
 have g1:=hN h1 hb hn
 have sl:=hu.slen
 have d0:decide ((x::r).length=0)=false:=decide_eq_false (by simp)
 have ad:CK .i64 (AA 1) (AA n)=AA (1+n):=CG (by omega)
 obtain⟨w,gw,sw,_⟩:=h1.from hle (by simp)
 have g2:=hL sw (fun c hc=>hb c (Kt hc)) hl
 have gk:∀J:V->AH,gK (Du 1 u (some (.int .i64 (AA (1+n)))) none none) J=J w:=fun J=>by rw[gw];rfl
 obtain⟨b,o,cp,M,hv,ha,hM⟩:∃b o cp M,u = .sl b o (x::r).length cp/\CM Z1 b M/\M[o]? = some (.int .u8 (AA x)):=by
  rcases h1 with ⟨h0,_⟩|⟨b,o,cp,M,hv,_,ha,h2,h3⟩
  ·cases h0
  ·refine⟨b,o,cp,M,hv,ha,?_⟩
   have:=Yk (L:=x::r) (k:=0) rfl
   rw[<-h3,Ef (by simp),CT]at this
   exact this
 have ex:=oN ⟨x,hx256⟩
 have ex1:(AA x).fdiv (2 ^ (Dr (AA 6).toNat 8))=AA (x / 64):=ex.1
 have ex2:IntKind.wrap .u8 (A2 8 (AA x) &&& A2 8 (AA 32)).toNat=AA (x / 32 % 2*32):=ex.2
 have fw:Fr AF Z1 ⟨Z1.next+22,Z1.bl⟩:=(CW (E:=E) (n:=22) (S:=AF) f1.tidy).fr
 have bne:b≠Z.next:=fun e=>by
  have:b<Z.next:=hu.lt ht b (by rw[hv];rfl)
  omega
 obtain⟨Z4,g4,f4,a4⟩:∃Z4,Db E D (.store 2 (.tmp 2) (.tmp 45)) [(2,.ptr Z.next 0),(45,.agg [.int .i64 (AA (x / 64)),.int .i64 (AA no)])] ⟨Z1.next+22,Z1.bl⟩=some (.dead,Z4)/\Fr (fun k=>k=Z.next) ⟨Z1.next+22,Z1.bl⟩ Z4/\CM Z4 Z.next [.int .i64 (AA (x / 64)),.int .i64 (AA no)]:=by
  obtain⟨Z4,q1,q2,q3⟩:=KI (E:=E) (D:=D) (n:=2) (x := .tmp 2) (y := .tmp 45) (e:=[(2,.ptr Z.next 0),(45,.agg [.int .i64 (AA (x / 64)),.int .i64 (AA no)])]) fw.tidy (fw.at_ a1 f1.tidy (fun h=>h)) rfl (show (B8 [(2,.ptr Z.next 0),(45,.agg [.int .i64 (AA (x / 64)),.int .i64 (AA no)])] (.tmp 45)).cells=[.int .i64 (AA (x / 64)),.int .i64 (AA no)] from rfl) rfl
  exact⟨Z4,q1,q2,q3⟩
 have uo:=hu.one
 have a6:CK .i64 (AA (1+n)) (AA k)=AA (1+n+k):=CG (by omega)
 have w5:=(Ld .i64 (AA 1) (AA n)).symm.trans ad
 have w6:=(Ld .i64 (AA (1+n)) (AA k)).symm.trans a6
 have wc:IntKind.wrap .i64 (AA (x / 64))=AA (x / 64):=by rw[<-DC];exact Ba (show x / 64<=9223372036854775807 by omega)
 have bm:HM .neq .none (.int .u8 (AA (x / 32 % 2*32))) (.int .u8 (AA 0))=some (.bool mk):=by
  rcases(by omega:x / 32 % 2=0\/x / 32 % 2=1)with e|e
  ·have:mk=false:=by cases mk with
    | false=>rfl
    | true=>have:=hmk.2 rfl;omega
   rw[e,this];rfl
  ·rw[e,hmk.1 e];rfl
 have go:Hd (QB E Z1 22 Wj _ Z4) E D Z1 22 0 Wk Wj ⟨[(0,u),(2,.ptr Z.next 0),(7,.int .i64 (AA no)),(8,.int .i64 (AA n)),(10,.int .i64 (AA l)),(11,.int .i64 (AA k))],Z1.next+22,[Z1.bl],[],0,[]⟩:=
  Cr u rfl (EJ rfl (Bb uo)) <|
  Cr (.ptr b (o+0*1)) rfl (JH hv rfl (by simp)) <|
  VN (.int .u8 (AA x)) (CW (S:=fun k=>k=Z.next) f1.tidy) rfl (EE (b:=b) (off:=o+0*1) rfl ha hM f1.tidy bne (CX _ rfl)) fun r1=>
  Cr (.int .u8 (AA (x / 64))) rfl (congrArg (fun z=>some (V.int .u8 z)) ex1) <|
  Cr (.int .i64 (AA (x / 64))) rfl (congrArg (fun z=>some (V.int .i64 z)) wc) <|
  Cr (.int .i64 (AA no)) rfl rfl <|
  Cr (.agg [.int .i64 (AA (x / 64)),.int .i64 (AA no)]) rfl rfl <|
  Cr u rfl (EJ rfl (Bb uo)) <|
  Cr (.ptr b (o+0*1)) rfl (JH hv rfl (by simp)) <|
  VN (.int .u8 (AA x)) r1 rfl (EE (b:=b) (off:=o+0*1) rfl ha hM f1.tidy bne (CX _ rfl)) fun r2=>
  Cr (.int .u8 (AA (x / 32 % 2*32))) rfl (congrArg (fun z=>some (V.int .u8 z)) ex2) <|
  Cr (.bool mk) rfl bm <|
  Cr (.int .i64 (AA l)) rfl rfl <|
  Cr (.int .i64 (AA n)) rfl rfl <|
  Cr (.int .i64 (AA (1+n))) rfl (congrArg (fun z=>some (V.int .i64 z)) w5) <|
  Cr (.int .i64 (AA k)) rfl rfl <|
  Cr (.int .i64 (AA (1+n+k))) rfl (congrArg (fun z=>some (V.int .i64 z)) w6) <|
  SI .dead r2 rfl (by decide) (S':=fun k=>k=Z.next) f4 (fun _ _ h=>h) (fun b h h1 _=>by omega) g4 fun _ _ r3=>
  Cr (.bool mk) rfl rfl <|
  Cr (.int .i64 (AA l)) rfl rfl <|
  Cr (.int .i64 (AA (1+n+k))) rfl rfl <|
  Cr (.int .i64 (AA 0)) rfl rfl <|
  VO r3
 have d:=Nz (ops:=Wk) go
 refine⟨Z4,?_,(f1.trans fw (fun _ _ h=>h)).trans f4 (fun b hb e=>by omega)⟩
 show Zh E D (AT E D) u Z=_
 unfold Zh
 simp -implicitDefEqProofs only [↓rP,rS,Bl,decide_true,↓e1,↓sl,d0,↓g1,ad,↓gk,↓g2]
 rw[d]
 show BP E Z4 Z.next 0 2 _=_
 rw[Az a4]
 rfl
end
theorem Na {x:AO} {em:Bp} {v z:V} {lo hi:Option AO} (hx:B8 em x=v) (g:Du 1 v (Cz em lo) (Cz em hi) none=some z):BN (.sliceSl 1 x lo hi none) em=some z:=by
 show Du 1 (B8 em x) (Cz em lo) (Cz em hi) none=_
 rw[hx];exact g
theorem Ff {Z:H} {b n o:Nat} {l:List V} {v:V} (ht:Ao Z) (h:CM Z b l) (hc:(AY v.cells.length n&&Ac (Ar o n) l.length&&allOne v.cells)=true) :
  ∃Z',(∀J:H->AH,Fg n b o v Z J=J Z')/\Fr (fun k=>k=b) Z Z'/\CM Z' b (HT l o v.cells)/\Z'.next=Z.next:=
 ⟨_,fun J=>TS h hc,Fr.set ht (h.lt ht) _,TK _,rfl⟩
def RF (F:List V->H->AH):Prop:=∀{Z:H} {u:V} {L:List Nat} {c no l h:Nat} {mk:Bool},Ao Z->Oc Z u L->Lu L->uI L c mk no l h->h+l<=L.length->L.length<=1000000 ->
 ∃w Z',F [u] Z=some (.tup [.agg [.int .i64 (AA c),.int .i64 (AA no)],.bool mk,w,.int .i64 (AA (h+l)),.int .i64 (AA 0)],Z')/\Oc Z' w ((L.drop h).take l)/\(∀b,A0 w b->Z.next<=b)/\Fr AF Z Z'
section
variable {E:EB} {D:Ai} {N:Nat}
theorem nS (hH:V8 (D 93)):RF (jS E D (AT E D) N):=by
 intro Z u L c no l h mk ht hu hb hh hle hL
 obtain⟨x,r,hLx,_,_⟩:=hh.c
 have hL0:0<L.length:=by rw[hLx];simp
 obtain⟨Z1,e1,f1,a1,n1⟩:=Jo ht [.int .i64 (AA 0),.int .i64 (AA 0)]
 obtain⟨Z2,g2,f2⟩:=hH f1.tidy (hu.fr0 f1 ht) hb hh
 obtain⟨Z3,e3,f3,a3,n3⟩:=Jo f2.tidy [.int .i64 (AA 0),.int .i64 (AA 0)]
 obtain⟨Z4,g4,f4,a4,n4⟩:=Ff (n:=2) (o:=0) (v := .agg [.int .i64 (AA c),.int .i64 (AA no)]) f3.tidy a3 rfl
 have a4:CM Z4 Z2.next [.int .i64 (AA c),.int .i64 (AA no)]:=a4
 have hu4:Oc Z4 u L:=(((hu.fr0 f1 ht).fr0 f2 f1.tidy).fr0 f3 f2.tidy).fr f4 f3.tidy fun b hb e=>by
  have h1:=hu.lt ht b hb
  have h2:=f1.le
  have h3:=f2.le
  omega
 have a14:CM Z4 Z.next [.int .i64 (AA 0),.int .i64 (AA 0)]:=f4.at_ (f3.at_ (f2.at_ a1 f1.tidy (fun h=>h)) f2.tidy (fun h=>h)) f3.tidy (fun e=>by
  have h2:=f2.le
  omega)
 have sl:=hu.slen
 have es:Dt .i64 (AA L.length) (AA h)=AA (L.length-h):=IA (by omega) (by omega)
 have d1:decide (L.length-h<l)=false:=decide_eq_false (by omega)
 obtain⟨z,gz,oz,nz⟩:=hu4.cut (lo:=h) (hi:=h+l) (by omega) hle hL0 (some (.int .i64 (AA h))) (some (.int .i64 (AA (h+l)))) (.inl rfl) (.inl rfl)
 rw[Eu]at oz
 have lz:((L.drop h).take l).length=l:=by rw[Dn,Lr];omega
 have fw:Fr AF Z4 ⟨Z4.next+17,Z4.bl⟩:=(CW (E:=E) (n:=17) (S:=AF) f4.tidy).fr
 obtain⟨w,Z5,g5,d5,m5,f5⟩:=(oz.fr0 fw f4.tidy).copy (E:=E) fw.tidy (by omega)
 have n12:Z1.next<=Z2.next:=f2.le
 have bne:Z2.next≠Z.next:=fun e=>by omega
 have a15:CM Z5 Z.next [.int .i64 (AA 0),.int .i64 (AA 0)]:=f5.at_ (fw.at_ a14 f4.tidy (fun h=>h)) fw.tidy (fun h=>h)
 obtain⟨Z6,g6,f6,a6⟩:∃Z6,Db E D (.store 2 (.tmp 2) (.tmp 34)) [(2,.ptr Z.next 0),(34,.agg [.int .i64 (AA c),.int .i64 (AA no)])] Z5=some (.dead,Z6)/\Fr (fun k=>k=Z.next) Z5 Z6/\CM Z6 Z.next [.int .i64 (AA c),.int .i64 (AA no)]:=by
  obtain⟨Z6,q1,q2,q3⟩:=KI (E:=E) (D:=D) (n:=2) (x := .tmp 2) (y := .tmp 34) (e:=[(2,.ptr Z.next 0),(34,.agg [.int .i64 (AA c),.int .i64 (AA no)])]) f5.tidy a15 rfl (show (B8 [(2,.ptr Z.next 0),(34,.agg [.int .i64 (AA c),.int .i64 (AA no)])] (.tmp 34)).cells=[.int .i64 (AA c),.int .i64 (AA no)] from rfl) rfl
  exact⟨Z6,q1,q2,q3⟩
 have uo:=hu.one
 have zo:=oz.one
 have wo:=d5.one
 have ad:HM .add .none (.int .i64 (AA h)) (.int .i64 (AA l))=some (.int .i64 (AA (h+l))):=congrArg (fun z=>some (V.int .i64 z)) ((Ld .i64 (AA h) (AA l)).symm.trans (CG (by omega)))
 have m6:Z4.next+17<=Z5.next:=f5.le
 have go:Hd (QB E Z4 17 P1 _ Z6) E D Z4 17 0 P3 P1 ⟨[(0,u),(2,.ptr Z.next 0),(7,.ptr Z2.next 0),(8,.bool mk),(9,.int .i64 (AA l)),(10,.int .i64 (AA h))],Z4.next+17,[Z4.bl],[],0,[]⟩:=
  VN (.agg [.int .i64 (AA c),.int .i64 (AA no)]) (CW (S:=fun k=>k=Z.next) f4.tidy) rfl (FF (b:=Z2.next) (off:=0) (c:=[.int .i64 (AA c),.int .i64 (AA no)]) rfl a4 rfl rfl f4.tidy bne (CX _ rfl)) fun r1=>
  Cr (.bool mk) rfl rfl <|
  Cr u rfl (EJ rfl (Bb uo)) <|
  Cr (.int .i64 (AA h)) rfl rfl <|
  Cr (.int .i64 (AA h)) rfl rfl <|
  Cr (.int .i64 (AA l)) rfl rfl <|
  Cr (.int .i64 (AA (h+l))) rfl ad <|
  Cr z rfl (Na rfl gz) <|
  SI w r1 rfl (by decide) (S':=AF) f5 (fun _ _ h=>h.elim) (fun _ h _ _=>h.elim) (NM rfl rfl g5) fun _ _ r2=>
  Cr (.int .i64 (AA h)) rfl rfl <|
  Cr (.int .i64 (AA l)) rfl rfl <|
  Cr (.int .i64 (AA (h+l))) rfl ad <|
  SI .dead r2 rfl (by decide) (S':=fun k=>k=Z.next) f6 (fun _ _ h=>h) (fun b h h1 _=>by omega) g6 fun _ _ r3=>
  Cr (.bool mk) rfl rfl <|
  Cr w rfl (EJ rfl (Bb wo)) <|
  Cr (.int .i64 (AA (h+l))) rfl rfl <|
  Cr (.int .i64 (AA 0)) rfl rfl <|
  VO r3
 obtain⟨ev,d,y2,y3,y4,y5,y6⟩:∃ev,AT E D P3 P1 [(0,u),(2,.ptr Z.next 0),(7,.ptr Z2.next 0),(8,.bool mk),(9,.int .i64 (AA l)),(10,.int .i64 (AA h))] Z4=some (ev,Z6)/\Go.Og.look ev 2=some (.ptr Z.next 0)/\Go.Og.look ev 3=some (.bool mk)/\Go.Og.look ev 4=some w/\Go.Og.look ev 5=some (.int .i64 (AA (h+l)))/\Go.Og.look ev 6=some (.int .i64 (AA 0)):=⟨_,Nz (ops:=P3) go,rfl,rfl,rfl,rfl,rfl⟩
 have gd:∀J:Bp->H->AH,Ch (AT E D P3 P1 [(0,u),(2,.ptr Z.next 0),(7,.ptr Z2.next 0),(8,.bool mk),(9,.int .i64 (AA l)),(10,.int .i64 (AA h))] Z4) J=J ev Z6:=fun J=>by rw[d];rfl
 have z2:∀J:V->AH,BO ev 2 J=J (.ptr Z.next 0):=fun J=>BQ y2 rfl
 have z3:∀J:V->AH,BO ev 3 J=J (.bool mk):=fun J=>BQ y3 rfl
 have z4:∀J:V->AH,BO ev 4 J=J w:=fun J=>BQ y4 (Bb wo)
 have z5:∀J:V->AH,BO ev 5 J=J (.int .i64 (AA (h+l))):=fun J=>BQ y5 rfl
 have z6:∀J:V->AH,BO ev 6 J=J (.int .i64 (AA 0)):=fun J=>BQ y6 rfl
 have nw:∀b,A0 w b->Z4.next+17<=b:=m5
 rw[lz]at d5
 have ow:Oc Z6 w ((L.drop h).take l):=(Oc.of_dst (by rw[lz];exact d5)).fr f6 f5.tidy fun b hb e=>by
  have:=nw b hb
  omega
 have F12:Fr AF Z Z2:=f1.trans f2 (fun _ _ h=>h)
 have F3:Fr AF Z Z3:=F12.trans f3 (fun _ _ h=>h)
 have F4:Fr AF Z Z4:=F3.trans f4 (fun b hb e=>by omega)
 have F5:Fr AF Z Z5:=(F4.trans fw (fun _ _ h=>h)).trans f5 (fun _ _ h=>h)
 refine⟨w,Z6,?_,ow,fun b hb=>by have:=nw b hb;omega,F5.trans f6 (fun b hb e=>by omega)⟩
 show Zr E D (AT E D) (cX E D (AT E D) N) u Z=_
 have k1:Zq E D (AT E D) u Z.next 0 Z2.next 0 mk (AA l) (AA h) (AA 0) Z4=some (.tup [.agg [.int .i64 (AA c),.int .i64 (AA no)],.bool mk,w,.int .i64 (AA (h+l)),.int .i64 (AA 0)],Z6):=by
  unfold Zq
  simp -implicitDefEqProofs only [↓rP,rA,AD,AG,AB,Bl,decide_true,↓gd,↓z2,↓z3,↓z4,↓z5,↓z6,↓Az a6]
 rw[<-k1]
 unfold Zr cX
 simp -implicitDefEqProofs only [↓rP,rA,AD,AG,AB,↓e1,↓g2,↓e3,↓g4,Bl,decide_true,↓sl,es,d1]
end
theorem nN {Z:H} (ht:Ao Z) {n i:Nat} (hi:i<n) (c:List V):Fr AF Z ⟨Z.next+n,(Z.next+i,.cells c)::Z.bl⟩/\CM ⟨Z.next+n,(Z.next+i,.cells c)::Z.bl⟩ (Z.next+i) c:=by
 refine⟨⟨fun k hk=>?_,H3 _ _,fun k hk _=>?_⟩,?_⟩
 ·have hk:Z.next+n<=k:=hk
  show BG ((Z.next+i,FW.cells c)::Z.bl) k=none
  rw[Av,if_neg (by simp only[];omega)];exact ht k (by omega)
 ·show BG ((Z.next+i,FW.cells c)::Z.bl) k=_
  rw[Av,if_neg (by simp only[];omega)]
 ·show BG ((Z.next+i,FW.cells c)::Z.bl) _=_
  rw[Av,if_pos rfl]
theorem vn (a b c d:Nat) (J:Bool->AH):Xz (.flat [(0,.int),(1,.int)]) (.agg [.int .i64 (AA a),.int .i64 (AA b)]) (.agg [.int .i64 (AA c),.int .i64 (AA d)]) J=J (decide ((a,b)=(c,d))):=by
 have h:JJ (.flat [(0,.int),(1,.int)]) (.agg [.int .i64 (AA a),.int .i64 (AA b)]) (.agg [.int .i64 (AA c),.int .i64 (AA d)])=some (AY a c&&(AY b d&&true)):=rfl
 unfold Xz;rw[h]
 show J _=J _
 have nb:∀x y:Nat,AY x y=decide (x=y):=fun x y=>by rw[De,AQ];simp
 rw[nb,nb]
 congr 1
 by_cases h1:a=c
 ·by_cases h2:b=d
  ·subst h1;subst h2;simp
  ·simp[h1,h2]
 ·simp[h1]
structure jY (e:List Nat) (c no:Nat) (mk:Bool) (body:List Nat) (h:Nat):Prop where
 hd:uI e c mk no body.length h
 len:h+body.length=e.length
 body:e.drop h=body
theorem qZ.app {L r:List Nat} {no n:Nat} (h:qZ L no n):qZ (L++r) no n:=by
 cases h with
 | short h=>exact .short h
theorem UQ.app {L r:List Nat} {l k:Nat} (h:UQ L l k):UQ (L++r) l k:=by
 cases h with
 | short h=>exact .short h
theorem uI.app {L r:List Nat} {c no l h:Nat} {mk:Bool} (hd:uI L c mk no l h):uI (L++r) c mk no l h:=by
 obtain⟨⟨x,t,rfl,h1,h2⟩,n,k,h3,h4,h5,h6,h7⟩:=hd
 refine⟨⟨x,t++r,rfl,h1,h2⟩,n,k,h3.app,?_,h5,by rw[AS];omega,h7⟩
 rw[List.drop_append_of_le_length h6]
 exact h4.app
def Lj (F:List V->H->AH):Prop:=∀{Z:H} {p:Nat} {rest:List V} {u tv:V} {L body:List Nat} {c no h:Nat} {mk:Bool},Ao Z->CM Z p (.bool false::rest)->Oc Z u L->Lu L->jY L c no mk body h->L.length<=1000000->HN Z 2 1 tv [.int .i64 (AA c),.int .i64 (AA no)] ->
 ∃w Z',F [.ptr p 0,tv,u] Z=some (w,Z')/\Oc Z' w body/\(∀b,A0 w b->Z.next<=b)/\Fr AF Z Z'
def TL (Z0 Z:H) (v:V) (EL:List (List Nat)):Prop:=∃pvs:List V,JV Z 1 EL.length v pvs/\(∀b,A0 v b->Z0.next<=b)/\∀(i:Nat) (e:List Nat),EL[i]? = some e->∃u,pvs[i]? = some u/\Oc Z u e/\∀b,A0 u b->b<Z0.next
def RH (N:Nat) (F:List V->H->AH):Prop:=∀{Z:H} {p:Nat} {rest:List V} {u:V} {EL:List (List Nat)},Ao Z->CM Z p (.bool false::rest)->Oc Z u EL.flatten->Lu EL.flatten->(∀e∈EL,∃c no mk body h,jY e c no mk body h)->EL.flatten.length<=1000000->EL.length<N->EL.length<=10000 ->
 ∃w Z',F [.ptr p 0,u] Z=some (w,Z')/\TL Z Z' w EL/\Fr AF Z Z'
theorem u0 {Z:H} {tv a b:V} (h:HN Z 2 1 tv [a,b]) (J:List V->AH) {E:EB}:AV 2 tv (AA 0) (fun b o=>BP E Z b o 2 J)=J [a,b]:=by
 rcases h with ⟨h0,_,_⟩|⟨q,o,cp,M,rfl,ha,hl,hm⟩
 ·omega
 ·rw[Di (by decide)]
  show BP E Z q (o+0*2) 2 J=_
  rw[jZ,Lq,Az ha,show GN M o 2 J=J ((M.drop o).take 2)from Jd (by omega)]
  rw[<-hm]
section
variable {E:EB} {D:Ai} {N:Nat}
theorem Yw (hT:RF (D 57)) (hN:2<N):Lj (uR E D (AT E D) N):=by
 intro Z p rest u tv L body c no h mk ht hp hu hb hE hL ht2
 obtain⟨w,Z1,g1,o1,n1,f1⟩:=hT ht hu hb hE.hd (by rw[hE.len];omega) hL
 have g1:=g1
 rw[hE.len]at g1
 rw[hE.body,DF]at o1
 refine⟨w,Z1,?_,o1,n1,f1⟩
 obtain⟨N,rfl⟩:∃q,N=q+2:=⟨N-2,by omega⟩
 have sl:=hu.slen
 have st:=fun J=>ht2.slen (J:=J)
 have rd:=fun J=>u0 ht2 J (E:=E)
 have k1:∀R,Pm E D (AT E D) (Zv E D (AT E D)) R p 0 u tv (AA 1) (AA 0) Z=R p 0 w tv (AA 1) (AA 1) Z1:=by
  intro R
  unfold Pm
  have ek:=vn c no c no
  simp -implicitDefEqProofs only [↓rP,rA,AD,AG,AB,↓rd,↓g1,↓sl,↓ek,Bl,decide_true,CG (show 0+1<=9223372036854775807 by omega),show decide (0<1)=true from rfl]
 have k2:∀R,Pm E D (AT E D) (Zv E D (AT E D)) R p 0 w tv (AA 1) (AA 1) Z1=some (w,Z1):=by
  intro R
  unfold Pm
  simp -implicitDefEqProofs only [↓rP,rA,AD,AG,AB,show decide (1<1)=false from rfl]
  rfl
 show Sv E D (AT E D) (cJ E D (AT E D) (N+2) (N+2)) p 0 tv u Z=_
 have k0:∀K,Sv E D (AT E D) K p 0 tv u Z=K p 0 u tv (AA 1) (AA 0) Z:=by
  intro K
  unfold Sv
  simp -implicitDefEqProofs only [↓rP,rA,AD,AG,AB,↓st]
 rw[k0]
 exact(k1 _).trans (k2 _)
theorem TL.nil (Z0 Z:H):TL Z0 Z .nils []:=⟨[],JV.nil Z 1,fun _ h=>h.elim,fun i e h=>by simp at h⟩
theorem TL.one {Z0 Z:H} {v:V} {EL:List (List Nat)} (h:TL Z0 Z v EL):v.one=true:=by obtain⟨_,h,_⟩:=h;exact h.one
theorem TL.fr {Z0 Z Z':H} {v:V} {EL:List (List Nat)} (h:TL Z0 Z v EL) (f0:Fr AF Z0 Z) (f:Fr AF Z Z'):TL Z0 Z' v EL:=by
 obtain⟨pvs,h1,h2,h3⟩:=h
 exact⟨pvs,h1.fr f f0.tidy (fun _ _ h=>h),h2,fun i e hi=>by
  obtain⟨u,a,b,c⟩:=h3 i e hi
  exact⟨u,a,b.fr0 f f0.tidy,c⟩⟩
theorem TL.app {Z0 Z:H} {v u:V} {EL:List (List Nat)} {e:List Nat} {xb:Nat} (h:TL Z0 Z v EL) (f0:Fr AF Z0 Z) (hu:Oc Z u e) (hun:∀b,A0 u b->b<Z0.next) (hx:CM Z xb [u]) (hn:EL.length<=10000) :
  ∃v' Z',(∀J:V->H->AH,C8 E 1 24 v (.sl xb 0 1 (.ex 1)) Z J=J v' Z')/\TL Z0 Z' v' (EL++[e])/\Fr AF Z0 Z'/\Fr (A0 v) Z Z':=by
 obtain⟨pvs,h1,h2,h3⟩:=h
 obtain⟨Z',g,a,n,f⟩:=OI (E:=E) (bytes:=24) (n:=1) h1 f0.tidy (x := .sl xb 0 1 (.ex 1)) (m:=[u]) (.inr ⟨xb,0,_,[u],rfl,hx,by simp,rfl⟩) (by decide) (by simp[allOne,hu.one]) (by
  unfold CO
  simp only[AJ,BB];omega)
 have hlen:=h1.length
 have keep:∀w m,Oc Z w m->(∀b,A0 w b->b<Z0.next)->Oc Z' w m:=fun w m hw hn=>hw.fr f f0.tidy fun b hb hv=>by
  have:=hn b hb;have:=h2 b hv;omega
 refine⟨_,Z',g,⟨pvs++[u],?_,fun b hb=>by cases hb;exact f0.le,fun i e' hi=>?_⟩,f0.trans f (fun b hb hn=>by have:=h2 b hn;omega),f⟩
 ·rw[AS]
  exact .inl (.inr ⟨Z.next,rfl,a,by simp,by simp;omega⟩)
 ·by_cases hl:i<EL.length
  ·rw[B6 hl]at hi
   obtain⟨w,w1,w2,w3⟩:=h3 i e' hi
   exact⟨w,by rw[B6 (by omega)];exact w1,keep w _ w2 w3,w3⟩
  ·have hlt:=(BE.1 hi).1
   rw[AS]at hlt
   simp only[As,List.length_nil]at hlt
   have hi':i=EL.length:=by omega
   subst hi'
   rw[BL (AL _)]at hi
   simp at hi
   subst hi
   exact⟨u,by rw[BL (by omega)];simp[hlen],keep u _ hu hun,hun⟩
theorem Wp {Z0 Z : H} {p : Nat} {u d : V} {e r : List Nat} {EL : List (List Nat)} (f0 : Fr AF Z0 Z) (hu : Oc Z u (e ++ r)) (hun : ∀ b, A0 u b → b < Z0.next) (he : 0 < e.length) (hd : TL Z0 Z d EL) (hn : EL.length ≤ 10000) :
  ∃ ev z d' Z', AT E D P9 TD [(0, .ptr p 0), (1, u), (5, d), (9, .int .i64 (AA e.length))] Z = some (ev, Z') ∧ Go.Og.look ev 0 = some (.ptr p 0) ∧ Go.Og.look ev 1 = some z ∧ Go.Og.look ev 5 = some d' ∧
   TL Z0 Z' d' (EL ++ [e]) ∧ Oc Z' z r ∧ (∀ b, A0 z b → b < Z0.next) ∧ Fr AF Z0 Z' := by
 have ht := f0.tidy
 have len : (e ++ r).length = e.length + r.length := AS
 obtain ⟨z1, g1, o1, n1⟩ := hu.to (k := e.length) (by omega) (by omega)
 obtain ⟨z2, g2, o2, n2⟩ := hu.from (k := e.length) (by omega) (by omega)
 rw [List.take_left] at o1
 rw [List.drop_left] at o2
 obtain ⟨fb, ab⟩ := nN ht (n := 11) (i := 4) (by decide) [z1]
 obtain ⟨d', Z', g, hd', f0', f'⟩ := (hd.fr f0 fb).app (E := E) (f0.trans fb (fun _ _ h => h)) (o1.fr0 fb ht) (fun b hb => hun b (n1 b hb)) ab hn
 have uo := hu.one
 have o1o := o1.one
 have o2o := o2.one
 have do_ := hd.one
 have nd : ∀ b, A0 d b → Z0.next ≤ b := by obtain ⟨_, _, h, _⟩ := hd; exact h
 have ndlt : ∀ b, A0 d b → b < Z.next := fun b hb => by obtain ⟨_, h, _, _⟩ := hd; exact h.lt ht hb
 have go : E8 E D Z 11 0 (A0 d) P9 TD ⟨[(0, .ptr p 0), (1, u), (5, d), (9, .int .i64 (AA e.length))], Z.next + 11, [Z.bl], [], 0, []⟩ _ Z' :=
  Cp d rfl (EJ rfl (Bb do_)) <|
  Cp u rfl (EJ rfl (Bb uo)) <|
  Cp (.int .i64 (AA e.length)) rfl rfl <|
  Cp z1 rfl (Na rfl g1) <|
  XG (.sl (Z.next + 4) 0 1 (.ex 1)) (.cells [z1]) 16 (CW ht) rfl (by decide) rfl (T2 rfl o1o) fun _ r1 =>
  KU d' r1 rfl (by decide) f' (fun _ _ h => h) (fun b h h1 _ => by have := ndlt b h; omega) (NM rfl rfl g) fun _ _ _ r2 =>
  Cp u rfl (EJ rfl (Bb uo)) <|
  Cp (.int .i64 (AA e.length)) rfl rfl <|
  Cp z2 rfl (Na rfl g2) <|
  Cp d' rfl (EJ rfl (Bb hd'.one)) <|
  Cp z2 rfl (EJ rfl (Bb o2o)) <|
  Hx r2
 obtain ⟨q1, q2⟩ := GK (ops := P9) go
 exact ⟨_, z2, d', Z', q1, rfl, rfl, rfl, hd', o2.fr q2 ht (fun b hb hn => by have := hun b (n2 b hb); have := nd b hn; omega), fun b hb => hun b (n2 b hb), f0'⟩
theorem ej (hT:RF (D 57)):RH N (uQ E D (AT E D) N):=by
 intro Z0 p rest u EL ht hp hu hb hE hL hNl hn
 have loop:∀(R done:List (List Nat)) (n':Nat) (Z:H) (u d:V),done++R=EL->R.length<n'->Fr AF Z0 Z->Oc Z u R.flatten->(∀b,A0 u b->b<Z0.next)->TL Z0 Z d done ->
   ∃w Z',cI E D (AT E D) N n' p 0 u d Z=some (w,Z')/\TL Z0 Z' w EL/\Fr AF Z0 Z':=by
  intro R
  induction R with
  | nil=>
   intro done n' Z u d he hn' f hu hun hd
   obtain⟨n',rfl⟩:∃q,n'=q+1:=⟨n'-1,by omega⟩
   rw[CZ]at he
   refine⟨d,Z,?_,he ▸ hd,f⟩
   have sl:=hu.slen
   have key:∀R,Pl E D (AT E D) (V0 E D (AT E D)) R p 0 u d Z=some (d,Z):=by
    intro R
    unfold Pl V0
    simp -implicitDefEqProofs only [↓rP,rA,AD,AG,AB,↓sl,show decide (0<([]:List (List Nat)).flatten.length)=false from rfl]
   exact key _
  | cons e R ih=>
   intro done n' Z u d he hn' f hu hun hd
   obtain⟨n',rfl⟩:∃q,n'=q+1:=⟨n'-1,by omega⟩
   rw[Ev]at hu
   have hmem:e∈EL:=by rw[<-he];simp
   obtain⟨c,no,mk,body,h,hel⟩:=hE e hmem
   have hlen:EL.flatten.length=done.flatten.length+(e.length+R.flatten.length):=by rw[<-he,List.flatten_append,Ev,AS,AS]
   have lapp:(e++R.flatten).length=e.length+R.flatten.length:=AS
   have bL:Lu (e++R.flatten):=fun c hc=>hb c (by rw[<-he,List.flatten_append,Ev];exact List.mem_append_right _ hc)
   have he0:0<e.length:=by
    obtain⟨x,r,hx,_⟩:=hel.hd.c
    rw[hx];simp
   obtain⟨w,Z1,g1,_,_,f1⟩:=hT f.tidy hu bL hel.hd.app (by rw[lapp,hel.len];omega) (by omega)
   have g1:=g1
   rw[hel.len]at g1
   have f01:=f.trans f1 (fun _ _ h=>h)
   obtain⟨ev,z,d',Z2,q,y0,y1,y5,hd',oz,nz,f02⟩:=Wp (E:=E) (D:=D) (p:=p) f01 (hu.fr0 f1 f.tidy) hun he0 (hd.fr f f1) (by
    have:=congrArg List.length he
    rw[AS]at this;omega)
   obtain⟨w',Z',g',h1,h2⟩:=ih (done++[e]) n' Z2 z d' (by rw[<-he];simp) (by simp only[As]at hn';omega) f02 oz nz hd'
   refine⟨w',Z',?_,h1,h2⟩
   rw[<-g']
   have sl:=hu.slen
   have hp':CM Z p (.bool false::rest):=f.at_ hp ht (fun h=>h)
   have lp:∀J:V->AH,BY E Z p 0 J=J (.bool false):=fun J=>CU hp' rfl
   have gd:∀J:Bp->H->AH,Ch (AT E D P9 TD [(0,.ptr p 0),(1,u),(5,d),(9,.int .i64 (AA e.length))] Z1) J=J ev Z2:=fun J=>by rw[q];rfl
   have z0:∀J:V->AH,BO ev 0 J=J (.ptr p 0):=fun J=>BQ y0 rfl
   have z1:∀J:V->AH,BO ev 1 J=J z:=fun J=>BQ y1 (Bb oz.one)
   have z5:∀J:V->AH,BO ev 5 J=J d':=fun J=>BQ y5 (Bb hd'.one)
   have d1:decide (0<(e++R.flatten).length)=true:=decide_eq_true (by omega)
   have key:∀R,Pl E D (AT E D) (V0 E D (AT E D)) R p 0 u d Z=R p 0 z d' Z2:=by
    intro R
    unfold Pl
    simp -implicitDefEqProofs only [↓rP,rA,AD,AG,AB,↓sl,d1,↓lp,↓g1,Bl,decide_true,↓gd,↓z0,↓z1,↓z5]
   exact key _
 exact loop EL [] N Z0 u .nils rfl hNl (Fr.refl ht) hu (fun b hb=>hu.lt ht b hb) (TL.nil Z0 Z0)
end
theorem jl {w:V} {l:List V} (h:w.live=true):[w,.agg l].all V.live=true:=by rw[Bh,h];rfl
abbrev El:=List Nat × (Nat × Nat)
def TF (x:El):Prop:=Lu x.1/\x.1.length<=100000/\∃mk body h,jY x.1 x.2.1 x.2.2 mk body h
def uu (t:Nat):List V:=[.int .i64 (AA 2),.int .i64 (AA t)]
def pZ (F:List V->H->AH):Prop:=∀{Z:H} {w:V} {t c no:Nat},Ao Z->HN Z 2 1 w (uu t)->∃Z',F [w,.agg [.int .i64 (AA c),.int .i64 (AA no)]] Z=some (.bool (decide ((c,no)=(2,t))),Z')/\Fr AF Z Z'
def pY (F:List V->H->AH):Prop:=∀{Z:H} {w:V} {t c no:Nat},Ao Z->HN Z 2 1 w (uu t)->∃Z' r,F [w,.agg [.int .i64 (AA c),.int .i64 (AA no)]] Z=some (.int .i64 r,Z')/\IT (AA 0) r=decide ((c,no)=(2,t))/\Fr AF Z Z'
structure Bw (B W:List V->H->AH) (Pt:H->Prop) (Ge:List V) (j t:Nat):Prop where
 b:∀Z,Ao Z->Pt Z->∃w Z',B [.agg Ge,.int .i64 (AA j)] Z=some (w,Z')/\HN Z' 2 1 w (uu t)/\Fr AF Z Z'
 w:∀Z,Ao Z->Pt Z->∃Z',W [.agg Ge,.int .i64 (AA j)] Z=some (.bool false,Z')/\Fr AF Z Z'
structure ov (Ge:List V):Prop where
 ex:∃nm nv rv tv,Ge=[.str nm,nv,rv,tv]/\nv.one=true/\rv.one=true/\tv.one=true/\V.beq nv nv=true/\V.beq rv rv=true/\V.beq tv tv=true
def RG (B W:List V->H->AH) (F:List V->H->AH):Prop:=∀{Pt:H->Prop} {Ge:List V} {Z:H} {p j t:Nat} {u:V} {x:El},(∀Z Z',Ao Z->Fr AF Z Z'->Pt Z->Pt Z')->ov Ge->Ao Z->CM Z p (.bool false::Ge)->Pt Z->Oc Z u x.1->TF x->Bw B W Pt Ge j t ->
 ∃Z',F [.ptr p 0,.int .i64 (AA j),u] Z=some (.bool (decide (x.2=(2,t))),Z')/\Fr AF Z Z'
section
variable {E:EB} {D:Ai} {N:Nat}
theorem ADO (hN:3<N):pY (Xs E D (AT E D) N):=by
 intro Z w t c no ht hw
 obtain⟨N,rfl⟩:∃q,N=q+3:=⟨N-3,by omega⟩
 obtain⟨Z1,e1,f1,a1,n1⟩:=Jo ht [.int .i64 (AA c),.int .i64 (AA no)]
 have hw1:HN Z1 2 1 w (uu t):=hw.fr f1 ht (fun _ _ h=>h)
 have rd:=fun J=>u0 hw1 J (E:=E)
 have sl:=fun J=>hw.slen (J:=J)
 have ek:=vn c no 2 t
 have ho:allOne (V.cells (.agg [.int .i64 (AA c),.int .i64 (AA no)]))=true:=rfl
 have k0:∀K,ML E D (AT E D) K w (AA c) (AA no) Z=K w Z.next 0 (AA 1) (AA 0) Z1:=by
  intro K
  unfold ML
  simp -implicitDefEqProofs only [↓rP,rA,AD,AG,AB,ho,↓e1,↓sl]
 have k1:∀R,MK E D (AT E D) (RC E D (AT E D)) R w Z.next 0 (AA 1) (AA 0) Z1=(match decide ((c,no)=(2,t))with | true=>some (.int .i64 (AA 0),Z1) | false=>R w Z.next 0 (AA 1) (AA 1) Z1):=by
  intro R
  unfold MK
  simp -implicitDefEqProofs only [↓rP,rA,AD,AG,AB,↓rd,↓Az a1,↓ek,CG (show 0+1<=9223372036854775807 by omega),show decide (0<1)=true from rfl]
  cases decide ((c,no)=(2,t))<;>rfl
 have k2:∀R,MK E D (AT E D) (RC E D (AT E D)) R w Z.next 0 (AA 1) (AA 1) Z1=some (.int .i64 (BZ 0),Z1):=by
  intro R
  unfold MK RC
  simp -implicitDefEqProofs only [↓rP,rA,AD,AG,AB,show decide (1<1)=false from rfl]
 cases hd:decide ((c,no)=(2,t))with
 | true=>
  refine⟨Z1,AA 0,?_,rfl,f1⟩
  show ML E D (AT E D) (RV E D (AT E D) (N+3) (N+3)) w (AA c) (AA no) Z=_
  rw[k0]
  refine(k1 _).trans ?_
  rw[hd]
 | false=>
  refine⟨Z1,BZ 0,?_,rfl,f1⟩
  show ML E D (AT E D) (RV E D (AT E D) (N+3) (N+3)) w (AA c) (AA no) Z=_
  rw[k0]
  refine(k1 _).trans ?_
  rw[hd]
  exact k2 _
theorem ADP (hX:pY (D 118)):pZ (F95 E D (AT E D) N):=by
 intro Z w t c no ht hw
 obtain⟨Z1,e1,f1,a1,n1⟩:=Jo ht [.int .i64 (AA c),.int .i64 (AA no)]
 obtain⟨Z2,r,g2,hr,f2⟩:=hX f1.tidy (hw.fr f1 ht (fun _ _ h=>h)) (c:=c) (no:=no)
 refine⟨Z2,?_,f1.trans f2 (fun _ _ h=>h)⟩
 rw[<-hr]
 show Zg E D (AT E D) w (AA c) (AA no) Z=_
 unfold Zg
 have ho:allOne (V.cells (.agg [.int .i64 (AA c),.int .i64 (AA no)]))=true:=rfl
 simp -implicitDefEqProofs only [↓rP,rA,AD,AG,AB,ho,↓e1,↓Az a1,↓g2]
theorem eg (hH:V8 (D 93)) (hC:pZ (D 95)):RG (D 96) (D 97) (F62 E D (AT E D) N):=by
 intro Pt Ge Z p j t u x hPt h4 ht hp hP hu hx hB
 obtain⟨nm,nv,rv,tv,rfl,o1,o2,o3,q1,q2,q3⟩:=h4.ex
 obtain⟨hb,_,mk,body,h,he⟩:=hx
 obtain⟨Z1,g1,f1⟩:=hH ht hu hb he.hd
 obtain⟨Z2,e2,f2,a2,n2⟩:=Jo f1.tidy [.int .i64 (AA 0),.int .i64 (AA 0)]
 obtain⟨Z3,g3,f3,a3,n3⟩:=Ff (n:=2) (o:=0) (v := .agg [.int .i64 (AA x.2.1),.int .i64 (AA x.2.2)]) f2.tidy a2 rfl
 have a3:CM Z3 Z1.next [.int .i64 (AA x.2.1),.int .i64 (AA x.2.2)]:=a3
 have F3:Fr AF Z Z3:=(f1.trans f2 (fun _ _ h=>h)).trans f3 (fun b hb e=>by have:=f1.le;omega)
 have fw:Fr AF Z3 ⟨Z3.next+21,Z3.bl⟩:=(CW (E:=E) (n:=21) (S:=AF) F3.tidy).fr
 have Fw:=F3.trans fw (fun _ _ h=>h)
 obtain⟨w,Z4,g4,s4,f4⟩:=hB.b _ fw.tidy (hPt _ _ ht Fw hP)
 obtain⟨Z5,g5,f5⟩:=hC f4.tidy s4 (c:=x.2.1) (no:=x.2.2)
 have F5:Fr AF Z Z5:=(Fw.trans f4 (fun _ _ h=>h)).trans f5 (fun _ _ h=>h)
 obtain⟨Z6,g6,f6⟩:=hB.w Z5 F5.tidy (hPt _ _ ht F5 hP)
 have F6:Fr AF Z Z6:=F5.trans f6 (fun _ _ h=>h)
 have hp3:CM Z3 p (.bool false::[.str nm,nv,rv,tv]):=F3.at_ hp ht (fun h=>h)
 have ab:V.beq (.agg [.str nm,nv,rv,tv]) (.agg [.str nm,nv,rv,tv])=true:=by simp[V.beq,I1,q1,q2,q3]
 have al:(V.agg [.str nm,nv,rv,tv]).live=true:=rfl
 obtain⟨ev,Z',d,y6,fe⟩:∃ev Z',AT E D Mt P0 [(0,.ptr p 0),(1,.int .i64 (AA j)),(7,.ptr Z1.next 0),(11,.int .i64 (AA 0))] Z3=some (ev,Z')/\Go.Og.look ev 6=some (.bool (decide (x.2=(2,t))))/\Fr AF Z Z':=by
  cases hd:decide (x.2=(2,t))with
  | true=>
   have g5:D 95 [w,.agg [.int .i64 (AA x.2.1),.int .i64 (AA x.2.2)]] Z4=some (.bool true,Z5):=by rw[g5];exact congrArg (fun b=>some (V.bool b,Z5)) hd
   have go:E8 E D Z3 21 0 AF Mt P0 ⟨[(0,.ptr p 0),(1,.int .i64 (AA j)),(7,.ptr Z1.next 0),(11,.int .i64 (AA 0))],Z3.next+21,[Z3.bl],[],0,[]⟩ _ Z5:=
    Cp (.int .i64 (AA 0)) rfl rfl <|
    Cp (.bool true) rfl rfl <|
    Cp (.bool true) rfl rfl <|
    Gl (.ptr p 0) rfl rfl rfl <|
    Gl (.ptr p 0) rfl rfl rfl <|
    Gl (.ptr p 1) rfl rfl rfl <|
    SJ (.agg [.str nm,nv,rv,tv]) (CW F3.tidy) rfl rfl (FF (b:=p) (off:=1) (m:=4) rfl hp3 rfl rfl F3.tidy (fun h=>h) ab) fun _ r1=>
    Gl (.int .i64 (AA j)) rfl rfl rfl <|
    SK w r1 rfl rfl (by decide) f4 (fun _ _ h=>h) (fun _ h _ _=>h) (D3 (vs:=[.agg [.str nm,nv,rv,tv],.int .i64 (AA j)]) rfl rfl g4) fun _ _ _ r2=>
    SJ (.agg [.int .i64 (AA x.2.1),.int .i64 (AA x.2.2)]) r2 rfl rfl (FF (b:=Z1.next) (off:=0) (m:=2) rfl a3 rfl rfl F3.tidy (fun h=>h) (CX _ rfl)) fun _ r3=>
    SK (.bool true) r3 rfl rfl (by decide) f5 (fun _ _ h=>h) (fun _ h _ _=>h) (D3 (vs:=[w,.agg [.int .i64 (AA x.2.1),.int .i64 (AA x.2.2)]]) rfl (jl (Bb s4.one)) g5) fun _ _ _ r4=>
    Gl (.bool true) rfl rfl rfl <|
    PS rfl <| PS rfl <| PS rfl <| PS rfl <| PS rfl <| PS rfl <|
    Gl (.bool true) rfl rfl rfl <|
    Cp (.bool true) rfl rfl <|
    Cp (.bool true) rfl rfl <|
    Hx r4
   obtain⟨q1,q2⟩:=GK (ops:=Mt) go
   exact⟨_,Z5,q1,rfl,F5⟩
  | false=>
   have g5:D 95 [w,.agg [.int .i64 (AA x.2.1),.int .i64 (AA x.2.2)]] Z4=some (.bool false,Z5):=by rw[g5];exact congrArg (fun b=>some (V.bool b,Z5)) hd
   have go:E8 E D Z3 21 0 AF Mt P0 ⟨[(0,.ptr p 0),(1,.int .i64 (AA j)),(7,.ptr Z1.next 0),(11,.int .i64 (AA 0))],Z3.next+21,[Z3.bl],[],0,[]⟩ _ Z6:=
    Cp (.int .i64 (AA 0)) rfl rfl <|
    Cp (.bool true) rfl rfl <|
    Cp (.bool true) rfl rfl <|
    Gl (.ptr p 0) rfl rfl rfl <|
    Gl (.ptr p 0) rfl rfl rfl <|
    Gl (.ptr p 1) rfl rfl rfl <|
    SJ (.agg [.str nm,nv,rv,tv]) (CW F3.tidy) rfl rfl (FF (b:=p) (off:=1) (m:=4) rfl hp3 rfl rfl F3.tidy (fun h=>h) ab) fun _ r1=>
    Gl (.int .i64 (AA j)) rfl rfl rfl <|
    SK w r1 rfl rfl (by decide) f4 (fun _ _ h=>h) (fun _ h _ _=>h) (D3 (vs:=[.agg [.str nm,nv,rv,tv],.int .i64 (AA j)]) rfl rfl g4) fun _ _ _ r2=>
    SJ (.agg [.int .i64 (AA x.2.1),.int .i64 (AA x.2.2)]) r2 rfl rfl (FF (b:=Z1.next) (off:=0) (m:=2) rfl a3 rfl rfl F3.tidy (fun h=>h) (CX _ rfl)) fun _ r3=>
    SK (.bool false) r3 rfl rfl (by decide) f5 (fun _ _ h=>h) (fun _ h _ _=>h) (D3 (vs:=[w,.agg [.int .i64 (AA x.2.1),.int .i64 (AA x.2.2)]]) rfl (jl (Bb s4.one)) g5) fun _ _ _ r4=>
    Gl (.bool false) rfl rfl rfl <|
    Gl (.ptr p 0) rfl rfl rfl <|
    Gl (.ptr p 0) rfl rfl rfl <|
    Gl (.ptr p 1) rfl rfl rfl <|
    SJ (.agg [.str nm,nv,rv,tv]) r4 rfl rfl (FF (b:=p) (off:=1) (m:=4) rfl hp3 rfl rfl F3.tidy (fun h=>h) ab) fun _ r5=>
    Gl (.int .i64 (AA j)) rfl rfl rfl <|
    SK (.bool false) r5 rfl rfl (by decide) f6 (fun _ _ h=>h) (fun _ h _ _=>h) (D3 (vs:=[.agg [.str nm,nv,rv,tv],.int .i64 (AA j)]) rfl rfl g6) fun _ _ _ r6=>
    Gl (.bool false) rfl rfl rfl <|
    Cp (.bool false) rfl rfl <|
    Cp (.bool false) rfl rfl <|
    Hx r6
   obtain⟨q1,q2⟩:=GK (ops:=Mt) go
   exact⟨_,Z6,q1,rfl,F6⟩
 refine⟨Z',?_,fe⟩
 have gd:∀J:Bp->H->AH,Ch (AT E D Mt P0 [(0,.ptr p 0),(1,.int .i64 (AA j)),(7,.ptr Z1.next 0),(11,.int .i64 (AA 0))] Z3) J=J ev Z':=fun J=>by rw[d];rfl
 have z6:∀J:V->AH,BO ev 6 J=J (.bool (decide (x.2=(2,t)))):=fun J=>BQ y6 rfl
 show Zo E D (AT E D) p 0 (AA j) u Z=_
 unfold Zo
 simp -implicitDefEqProofs only [↓rP,rA,AD,AG,AB,↓g1,↓e2,↓g3,↓gd,↓z6]
end
def de (Z:H) (v:V) (EL:List (List Nat)):Prop:=∃pvs:List V,HN Z 1 EL.length v pvs/\∀(i:Nat) (e:List Nat),EL[i]? = some e->∃u,pvs[i]? = some u/\Oc Z u e
theorem de.fr0 {Z Z':H} {v:V} {EL:List (List Nat)} (h:de Z v EL) (f:Fr AF Z Z') (ht:Ao Z):de Z' v EL:=by
 obtain⟨pvs,h1,h3⟩:=h
 exact⟨pvs,h1.fr f ht (fun _ _ h=>h),fun i e hi=>by obtain⟨u,a,b⟩:=h3 i e hi;exact⟨u,a,b.fr0 f ht⟩⟩
theorem de.one {Z:H} {v:V} {EL:List (List Nat)} (h:de Z v EL):v.one=true:=by obtain⟨_,h,_⟩:=h;exact h.one
theorem de.slen {Z:H} {v:V} {EL:List (List Nat)} (h:de Z v EL) (J:Nat->AH):A6 v J=J EL.length:=by obtain⟨_,h,_⟩:=h;exact h.slen
theorem de.get {E:EB} {Z:H} {v:V} {EL:List (List Nat)} (h:de Z v EL) {i:Nat} {e:List Nat} (hi:EL[i]? = some e):∃u,(∀J:V->AH,AV 1 v (AA i) (fun b o=>BY E Z b o J)=J u)/\Oc Z u e:=by
 obtain⟨pvs,h1,h3⟩:=h
 obtain⟨u,hu,ou⟩:=h3 i e hi
 have hlt:=(BE.1 hi).1
 refine⟨u,fun J=>?_,ou⟩
 rcases h1 with ⟨h0,_,_⟩|⟨q,o,cp,M,rfl,ha,hl,hm⟩
 ·omega
 ·rw[Di hlt]
  show BY E Z q (o+i*1) J=_
  rw[CE]
  refine CU ha ?_
  rw[hm,Ef (by omega),CT]at hu
  exact hu
def jn (t:Nat):List El->Nat->Option Nat
 | [],_=>none
 | x::r,i=>if x.2=(2,t)then some i else jn t r (i+1)
def oI:Option Nat->Int
 | some i=>AA i
 | none=>BZ 0
theorem SG {t:Nat}:∀{X:List El} {i k:Nat},jn t X i=some k->i<=k/\∃x,X[k-i]? = some x/\x.2=(2,t)
 | [],_,_,h=>by cases h
 | x::r,i,k,h=>by
  unfold jn at h
  split at h
  ·rename_i e
   cases h
   exact⟨AL _,x,by rw[G0];rfl,e⟩
  ·obtain⟨h1,y,h2,h3⟩:=SG h
   refine⟨by omega,y,?_,h3⟩
   rw[show k-i=(k-(i+1))+1 by omega]
   exact h2
def Sy (N:Nat) (C F:List V->H->AH):Prop:=∀{Z:H} {v:V} {X:List El} {cb fq t:Nat},Ao Z->de Z v (X.map (·.1))->X.length<N->X.length<=10000 ->
 (∀(Z1:H) (u:V) (x:El),x∈X->Fr AF Z Z1->Oc Z1 u x.1->∃Z2,C [u,.ptr cb 0,.ptr fq 0] Z1=some (.bool (decide (x.2=(2,t))),Z2)/\Fr AF Z1 Z2) ->
 ∃Z',F [v,.fn 64 [] [.ptr cb 0,.ptr fq 0]] Z=some (.int .i64 (oI (jn t X 0)),Z')/\Fr AF Z Z'
section
variable {E:EB} {D:Ai} {N:Nat}
theorem wM {B W:List V->H->AH} (hS:RG B W (D 62)) {Pt:H->Prop} {Ge L:List V} {Z:H} {p cb fq j t:Nat} {u:V} {x:El} (hPt:∀Z Z',Ao Z->Fr AF Z Z'->Pt Z->Pt Z') (h4:ov Ge) (ht:Ao Z) (hp:CM Z p (.bool false::Ge)) (hP:Pt Z) (hu:Oc Z u x.1) (hx:TF x) (hB:Bw B W Pt Ge j t)
  (ac:CM Z cb [.ptr p 0]) (aq:CM Z fq L) (hj:L[1]? = some (.int .i64 (AA j))):∃Z',F64 E D (AT E D) N [u,.ptr cb 0,.ptr fq 0] Z=some (.bool (decide (x.2=(2,t))),Z')/\Fr AF Z Z':=by
 obtain⟨Z1,g,f⟩:=hS hPt h4 ht hp hP hu hx hB
 refine⟨Z1,?_,f⟩
 have uo:=hu.one
 have l1:∀J:V->AH,BY E Z cb 0 J=J (.ptr p 0):=fun J=>CU ac rfl
 have l2:∀J:V->AH,BY E Z fq (Ar 0 1) J=J (.int .i64 (AA j)):=fun J=>CU aq hj
 show Zn E D (AT E D) u (.ptr cb 0) (.ptr fq 0) Z=_
 unfold Zn
 simp -implicitDefEqProofs only [↓rP,rA,AD,AG,AB,↓l1,↓l2,↓g]
theorem vq:Sy N (D 64) (uN E D (AT E D) N):=by
 intro Z v X cb fq t ht hv hN hn hC
 have loop:∀(R done:List El) (n':Nat) (Z1:H),done++R=X->R.length<n'->Fr AF Z Z1->∃Z',Wa E D (AT E D) N n' v (.fn 64 [] [.ptr cb 0,.ptr fq 0]) (AA X.length) (AA done.length) Z1=some (.int .i64 (oI (jn t R done.length)),Z')/\Fr AF Z Z':=by
  intro R
  induction R with
  | nil=>
   intro done n' Z1 he hn' f
   obtain⟨n',rfl⟩:∃q,n'=q+1:=⟨n'-1,by omega⟩
   have hl:X.length=done.length:=by rw[<-he,CZ]
   refine⟨Z1,?_,f⟩
   rw[hl]
   have d1:decide (done.length<done.length)=false:=decide_eq_false (FX _)
   have key:∀R,Pf E D (AT E D) (Vw E D (AT E D)) R v (.fn 64 [] [.ptr cb 0,.ptr fq 0]) (AA done.length) (AA done.length) Z1=some (.int .i64 (BZ 0),Z1):=by
    intro R
    unfold Pf Vw
    simp -implicitDefEqProofs only [↓rP,rA,AD,AG,AB,d1]
   exact key _
  | cons x R ih=>
   intro done n' Z1 he hn' f
   obtain⟨n',rfl⟩:∃q,n'=q+1:=⟨n'-1,by omega⟩
   have hl:X.length=done.length+(R.length+1):=by rw[<-he,AS,As]
   have hx:X[done.length]? = some x:=by rw[<-he,BL (AL _),G0];rfl
   obtain⟨u,g,ou⟩:=(hv.fr0 f ht).get (E:=E) (i:=done.length) (e:=x.1) (by rw[CR,hx];rfl)
   obtain⟨Z2,g2,f2⟩:=hC Z1 u x (Ci hx) f ou
   have f02:=f.trans f2 (fun _ _ h=>h)
   have d1:decide (done.length<X.length)=true:=decide_eq_true (by omega)
   have cv:∀J:V->H->AH,GC D (.fn 64 [] [.ptr cb 0,.ptr fq 0]) [u] Z1 J=J (.bool (decide (x.2=(2,t)))) Z2:=fun J=>by
    show AU (D 64 ([]++[u]++[.ptr cb 0,.ptr fq 0]) Z1) J=_
    rw[show ([]++[u]++[V.ptr cb 0,V.ptr fq 0])=[u,.ptr cb 0,.ptr fq 0] from rfl,g2];rfl
   have uo:=ou.one
   have key:∀R',Pf E D (AT E D) (Vw E D (AT E D)) R' v (.fn 64 [] [.ptr cb 0,.ptr fq 0]) (AA X.length) (AA done.length) Z1=(match decide (x.2=(2,t))with | true=>some (.int .i64 (AA done.length),Z2) | false=>R' v (.fn 64 [] [.ptr cb 0,.ptr fq 0]) (AA X.length) (AA (done.length+1)) Z2):=by
    intro R'
    unfold Pf
    simp -implicitDefEqProofs only [↓rP,rA,AD,AG,AB,d1,↓g,↓cv,CG (show done.length+1<=9223372036854775807 by omega)]
    cases decide (x.2=(2,t))<;>rfl
   unfold jn
   cases hd:decide (x.2=(2,t))with
   | true=>
    refine⟨Z2,?_,f02⟩
    rw[if_pos (of_decide_eq_true hd)]
    refine(key _).trans ?_
    rw[hd];rfl
   | false=>
    rw[if_neg (of_decide_eq_false hd)]
    obtain⟨Z',g',f'⟩:=ih (done++[x]) n' Z2 (by rw[<-he];simp) (by simp only[As]at hn';omega) f02
    rw[AS,EI]at g'
    refine⟨Z',?_,f'⟩
    refine(key _).trans ?_
    rw[hd]
    exact g'
 obtain⟨Z',g,f⟩:=loop X [] N Z rfl hN (Fr.refl ht)
 refine⟨Z',?_,f⟩
 have sl:=hv.slen
 rw[EA]at sl
 have k0:∀K,Sn E D (AT E D) K v (.fn 64 [] [.ptr cb 0,.ptr fq 0]) Z=K v (.fn 64 [] [.ptr cb 0,.ptr fq 0]) (AA X.length) (AA 0) Z:=by
  intro K
  unfold Sn
  simp -implicitDefEqProofs only [↓rP,rA,AD,AG,AB,↓sl]
 show Sn E D (AT E D) (Wa E D (AT E D) N N) v (.fn 64 [] [.ptr cb 0,.ptr fq 0]) Z=_
 rw[k0]
 exact g
end
def OR (C X:List V->H->AH):Prop:=∀{Z:H} {v:V} {n i:Nat} {pvs:List V},Ao Z->HN Z 1 n v pvs->allOne pvs=true->i<n->n<=10000 ->
 ∃u Z1 w Z2,C [v] Z=some (u,Z1)/\u.one=true/\X [u,.int .i64 (AA i),.int .i64 (AA (i+1))] Z1=some (w,Z2)/\w.one=true/\HN Z2 1 (n-1) w (pvs.eraseIdx i)/\(∀b,A0 w b->Z.next<=b)/\Fr AF Z Z2
theorem Sg:∀{l:List V},(∀(k:Nat) (u:V),l[k]? = some u->u.one=true)->allOne l=true
 | [],_=>rfl
 | v::l,h=>by
  rw[Bk,h 0 v rfl,Sg fun k u hk=>h (k+1) u hk];rfl
theorem nW {Z:H} {b:Nat} {l m:List V} (ht:Ao Z) (h:CM Z b l):Fr (fun k=>k=b) Z (Z.set b (.cells m))/\CM (Z.set b (.cells m)) b m:=by
 have hb:=h.lt ht
 have hl:Go.Og.look Z.bl b=some (.cells l):=(Au _ _).symm.trans h
 refine⟨⟨fun k hk=>?_,AL _,fun k hk hn=>?_⟩,?_⟩
 ·have hk:Z.next<=k:=hk
  show BG (IX Z.bl b _) k=none
  rw[Au,Ea,if_neg (by omega),<-Au]
  exact ht k hk
 ·show BG (IX Z.bl b _) k=_
  rw[Au,Ea,if_neg (fun e=>hn e.symm),Au]
 ·show BG (IX Z.bl b _) b=_
  rw[Au,Ea,if_pos rfl,hl];rfl
section
variable {E:EB} {D:Ai} {N:Nat}
theorem nr:OR (F66 E D (AT E D) N) Tv:=by
 intro Z v n i pvs ht h1 ho hi hn
 obtain⟨Z1,e1,f1,a1,n1⟩:=Jo ht []
 have h2:=h1.fr f1 ht (fun _ _ h=>h)
 obtain⟨Z2,g2,a2,n2,f2⟩:=MG (E:=E) (esz:=1) (bytes:=24) (k:=0) (n:=n) (v := .sl Z.next 0 0 (.ex 0)) (l:=[]) (.inr ⟨_,rfl,a1,rfl⟩) f1.tidy (fun J=>h2.srcK) h2.cells (by omega) ho (by unfold CO;simp only[AJ,BB];omega)
 rw[DB]at a2
 rw[Bc]at g2
 have hl:pvs.length=n:=by rw[h1.length,CE]
 have F2:Fr AF Z Z2:=f1.trans f2 (fun b hb e=>by cases e;omega)
 obtain⟨f3,a3⟩:=nW (m:=pvs.take i++pvs.drop (i+1)++AW 1 .nils) F2.tidy a2
 refine⟨.sl Z1.next 0 n (.op 1),Z2,.sl Z1.next 0 (n-1) (.op 1),Z2.set Z1.next (.cells (pvs.take i++pvs.drop (i+1)++AW 1 .nils)),?_,rfl,?_,rfl,?_,fun b hb=>by cases hb;exact f1.le,F2.trans f3 fun b hb e=>by omega⟩
 ·have ek:∀J:Bool->AH,Xz .slice v .nils J=J false:=fun J=>by
   rcases h1 with ⟨h0,_,_⟩|⟨q,o,cp,M,rfl,_⟩
   ·omega
   ·rfl
  show Zm E D (AT E D) v Z=_
  unfold Zm
  simp -implicitDefEqProofs only [↓rP,rA,AD,AG,AB,↓ek,↓e1,↓g2]
 ·show (match Go.Og.look Z2.bl Z1.next with
   | some (.cells l)=>if l.length=n/\i<=i+1/\i+1<=n then some (V.sl Z1.next 0 (n-(i+1-i)) (.op 1),Z2.set Z1.next (.cells (l.take i++l.drop (i+1)++AW (i+1-i) V.nils)))else none
   | _=>none)=_
  rw[show Go.Og.look Z2.bl Z1.next=some (.cells pvs)from(Au _ _).symm.trans a2]
  simp only[]
  rw[if_pos ⟨hl,by omega,by omega⟩,show i+1-i=1 by omega]
 ·have pe:(pvs.take i++pvs.drop (i+1))=pvs.eraseIdx i:=(List.eraseIdx_eq_take_drop_succ pvs i).symm
  have pl:(pvs.eraseIdx i).length=n-1:=by rw[tu (by omega),hl]
  refine .inr ⟨Z1.next,0,.op 1,_,rfl,a3,by rw[pe,AS,pl];simp,?_⟩
  rw[pe,Cq,CE,List.take_append_of_le_length (by omega),<-pl,DF]
end
theorem Cg {Z:H} (ht:Ao Z) (z:List V):∃Z1,Bn Z (.cells z)=Z1/\Fr AF Z Z1/\CM Z1 Z.next z/\Z1.next=Z.next+1:=⟨_,rfl,Fr.new ht _,HS _,rfl⟩
theorem Yo {Z:H} {b:Nat} {l:List V} (ht:Ao Z) (h:CM Z b l) (z:List V):∃Z1,O5 Z b (.cells z)=Z1/\Fr (fun k=>k=b) Z Z1/\CM Z1 b z:=⟨_,rfl,Fr.set ht (h.lt ht) _,TK _⟩
section
variable {E:EB} {Z Z1 Z2:H} {w:Nat} {u u1 u2:V} {L L1 L2:List Nat}
end
def vc (k n:Int) (b l:V) (r:Int) (m:V):List V:=[.int .i64 k,.int .i64 n,b,l,.int .i64 r,m]
def gN (u:Int) (k:Nat):Bool:=!Bv (GX .i64 u (AA k)) (AA 0)
def I9 (u k n:Int) (nb nl:Nat) (r:Int) (nm:Nat):Bool:=
 (((gN u 1 || Bv n (AA 0))&&(gN u 2 || Bv (AA nb) (AA 0)))&&(gN u 4 || Bv (AA nl) (AA 0)))&&(gN u 8 || (Bv r (AA 0)&&Bv (AA nm) (AA 0)))
def FH (F:List V->H->AH):Prop:=∀(Z:H) (u k n r:Int) (b l m:V) (nb nl nm:Nat),Ao Z->GM b nb->GM l nl->GM m nm ->
 ∃Z',F [.agg (vc k n b l r m),.int .i64 u] Z=some (.bool (I9 u k n nb nl r nm),Z')/\Fr AF Z Z'
section
variable {E:EB} {D:Ai} {W:AI} {N:Nat}
theorem fN:FH (F99 E D W N):=by
 intro Z u k n r b l m nb nl nm ht hb hl hm
 obtain⟨Z1,e1,f1,a1,n1⟩:=Cg ht (vc k n b l r m)
 refine⟨Z1,?_,f1⟩
 unfold vc at *
 show Zf E D W k n b l r m u Z=_
 unfold Zf
 simp -implicitDefEqProofs only [Ec,G8,Jy,Bk,B4,ED,FE,Jk,LN,Qp,ND,Fa,VS,Jl,Jn,Qf,Qe,Qc,Qb,M7,K8,Fp,HX,Jg,Jh,Jj,Jf,HW,Ji,IW,LF,LD,IV,LB,GW,EN,Cn,Js,IH,LR,Nat.add_eq,Bc,FZ,H6,rC,hb.1,hl.1,hm.1,e1,BK a1,Az a1,hb.2,hl.2,hm.2]
 rfl
theorem Sh (hP:FH (D 99)) {Z:H} (ht:Ao Z) {k n r:Int} {b l m:V} {nb nl nm:Nat} (hb:GM b nb) (hl:GM l nl) (hm:GM m nm) :
  ∃Z',UY E D W N [.agg (vc k n b l r m)] Z=some (.bool (Bv k (AA 0)&&I9 (AA 0) k n nb nl r nm),Z')/\Fr AF Z Z':=by
 obtain⟨Z1,e1,f1,a1,n1⟩:=Cg ht (vc k n b l r m)
 obtain⟨Z2,g2,f2⟩:=hP Z1 (AA 0) k n r b l m nb nl nm f1.tidy hb hl hm
 unfold vc at e1 a1 g2 ⊢
 show ∃Z',UH E D W k n b l r m Z=_/\_
 unfold UH
 simp -implicitDefEqProofs only [Ec,G8,Jy,Bk,B4,ED,FE,Jk,LN,Qp,ND,Fa,VS,Jl,Jn,Qf,Qe,Qc,Qb,M7,K8,Fp,HX,Jg,Jh,Jj,Jf,HW,Ji,IW,LF,LD,IV,LB,GW,EN,Cn,Js,IH,LR,Nat.add_eq,Bc,FZ,H6,rC,hb.1,hl.1,hm.1,e1,BK a1,Az a1,g2]
 cases Bv k (AA 0)with
 | true=>exact⟨Z2,rfl,f1.trans f2 (fun _ _ h=>h)⟩
 | false=>exact⟨Z1,rfl,f1⟩
def M5 (h hl hh:Bool) (lo hi v:Int):Bool:=!h || ((!hl || IT lo v)&&(!hh || IT v hi))
theorem X5 {Z:H} (ht:Ao Z) (h hl hh mo:Bool) (lo hi v:Int) :
  ∃Z',dc E D W N [.agg [.bool h,.bool hl,.bool hh,.bool mo,.int .i64 lo,.int .i64 hi],.int .i64 v] Z=some (.bool (M5 h hl hh lo hi v),Z')/\Fr AF Z Z':=by
 obtain⟨Z1,e1,f1,a1,n1⟩:=Cg ht [.bool h,.bool hl,.bool hh,.bool mo,.int .i64 lo,.int .i64 hi]
 refine⟨Z1,?_,f1⟩
 show UL E D W h hl hh mo lo hi v Z=_
 unfold UL
 simp -implicitDefEqProofs only [Ec,G8,Jy,Bk,B4,ED,FE,Jk,LN,Qp,ND,Fa,VS,Jl,Jn,Qf,Qe,Qc,Qb,M7,K8,Fp,HX,Jg,Jh,Jj,Jf,HW,Ji,IW,LF,LD,IV,LB,GW,EN,Cn,Js,IH,LR,Nat.add_eq,Bc,FZ,H6,rC,e1,BK a1,Az a1]
 rfl
structure Ty where
 kind:Int
 tags:V
 has:Bool
 hasLow:Bool
 hasHigh:Bool
 conMore:Bool
 low:Int
 high:Int
 items:V
 fields:V
 root:Int
 more:Bool
 of_:Int
 oneT:tags.one=true
 oneI:items.one=true
 oneF:fields.one=true
def Ty.c (x:Ty):List V:=[.int .i64 x.kind,x.tags,.bool x.has,.bool x.hasLow,.bool x.hasHigh,.bool x.conMore,.int .i64 x.low,.int .i64 x.high,x.items,x.fields,.int .i64 x.root,.bool x.more,.int .i64 x.of_]
structure Fd where
 name:BS
 type:Int
 opt:Bool
 has:Bool
 d0:Int
 d1:Int
 d2:V
 d3:V
 d4:Int
 d5:V
 group:Int
 one2:d2.one=true
 one3:d3.one=true
 one5:d5.one=true
def Fd.c (x:Fd):List V:=[.str x.name,.int .i64 x.type,.bool x.opt,.bool x.has,.int .i64 x.d0,.int .i64 x.d1,x.d2,x.d3,.int .i64 x.d4,x.d5,.int .i64 x.group]
def tM (L:List V) (esz k:Nat) (c:List V):Prop:=k*esz+esz<=L.length/\(L.drop (k*esz)).take esz=c
theorem tM.sub {L:List V} {esz k:Nat} {c:List V} (h:tM L esz k c) (J:List V->AH):GN L (0+k*esz) esz J=J c:=by
 rw[Bc,Jd h.1,h.2]
theorem tM.get {L:List V} {esz k:Nat} {c:List V} (h:tM L esz k c) {j:Nat} {v:V} (hj:c[j]? = some v) (J:V->AH):I0 L (0+k*esz+j) J=J v:=by
 refine VE ?_
 rw[Qr,<-hj,<-h.2]
 obtain⟨hlt,_⟩:=BE.1 hj
 have hc:c.length<=esz:=by rw[<-h.2];simp only[Dn];omega
 rw[Iq,if_pos (by omega),CT,Bc]
structure Fj (Z:H) (esz n:Nat) (v:V) (g:Nat->List V):Prop where
 is:(n=0/\v = .nils)\/∃b c L,v = .sl b 0 n c/\CM Z b L/\∀k,k<n->tM L esz k (g k)
theorem Fj.len {Z:H} {esz n:Nat} {v:V} {g:Nat->List V} (h:Fj Z esz n v g):GM v n:=by
 rcases h.is with ⟨rfl,rfl⟩|⟨b,c,L,rfl,_⟩
 ·exact GM.nils
 ·exact GM.sl
theorem Fj.fr {S:Nat->Prop} {Z Z':H} {esz n:Nat} {v:V} {g:Nat->List V} (h:Fj Z esz n v g) (f:Fr S Z Z') (ht:Ao Z) (hS:∀b,A0 v b->¬S b):Fj Z' esz n v g:=by
 rcases h.is with h|⟨b,c,L,rfl,ha,hc⟩
 ·exact⟨.inl h⟩
 ·exact⟨.inr ⟨b,c,L,rfl,f.at_ ha ht (hS b rfl),hc⟩⟩
theorem Fj.fr0 {Z Z':H} {esz n:Nat} {v:V} {g:Nat->List V} (h:Fj Z esz n v g) (f:Fr AF Z Z') (ht:Ao Z):Fj Z' esz n v g:=h.fr f ht (fun _ _ h=>h)
theorem Fj.all {E:EB} {Z:H} {esz n:Nat} {v:V} {g:Nat->List V} (h:Fj Z esz n v g) {k:Nat} (hk:k<n) (J:List V->AH) :
  AV esz v (AA k) (fun b o=>BP E Z b o esz J)=J (g k):=by
 rcases h.is with ⟨rfl,rfl⟩|⟨b,c,L,rfl,ha,hc⟩
 ·omega
 ·rw[Di hk]
  show BP E Z b (0+k*esz) esz J=_
  rw[Az ha,(hc k hk).sub]
theorem Fj.one {E:EB} {Z:H} {esz n:Nat} {v:V} {g:Nat->List V} (h:Fj Z esz n v g) {k:Nat} (hk:k<n) {j:Nat} {u:V} (hj:(g k)[j]? = some u) (J:V->AH) :
  AV esz v (AA k) (fun b o=>BY E Z b (o+j) J)=J u:=by
 rcases h.is with ⟨rfl,rfl⟩|⟨b,c,L,rfl,ha,hc⟩
 ·omega
 ·rw[Di hk]
  show BY E Z b (0+k*esz+j) J=_
  rw[BK ha,(hc k hk).get hj]
theorem ff {Z:H} (ht:Ao Z) (x:Ty) {nf:Nat} {fd:Nat->Fd} (hf:Fj Z 11 nf x.fields fun k=>(fd k).c) {k:Nat} (hk:k<nf) :
  ∃Z',Xr E D W N [.agg x.c,.int .i64 (AA k)] Z=some (.bool (((fd k).opt || (fd k).has) || IT x.root (AA k)),Z')/\Fr AF Z Z':=by
 obtain⟨Z1,e1,f1,a1,n1⟩:=Cg ht x.c
 refine⟨Z1,?_,f1⟩
 have hf1:=hf.fr0 f1 ht
 have r2:∀J,AV 11 x.fields (AA k) (fun b o=>BY E Z1 b (o+2) J)=J (.bool (fd k).opt):=fun J=>hf1.one hk rfl J
 have r3:∀J,AV 11 x.fields (AA k) (fun b o=>BY E Z1 b (o+3) J)=J (.bool (fd k).has):=fun J=>hf1.one hk rfl J
 unfold Ty.c at e1 a1
 show UE E D W x.kind x.tags x.has x.hasLow x.hasHigh x.conMore x.low x.high x.items x.fields x.root x.more x.of_ (AA k) Z=_
 unfold UE
 simp -implicitDefEqProofs only [Ec,G8,Jy,Bk,B4,ED,FE,Jk,LN,Qp,ND,Fa,VS,Jl,Jn,Qf,Qe,Qc,Qb,M7,K8,Fp,HX,Jg,Jh,Jj,Jf,HW,Ji,IW,LF,LD,IV,LB,GW,EN,Cn,Js,IH,LR,Nat.add_eq,Bc,FZ,H6,rC,x.oneT,x.oneI,x.oneF,e1,BK a1,Az a1,r2,r3]
end
def JQ (F:List V->H->AH):Prop:=∀(Z:H) (h hl hh mo:Bool) (lo hi v:Int),Ao Z->∃Z',F [.agg [.bool h,.bool hl,.bool hh,.bool mo,.int .i64 lo,.int .i64 hi],.int .i64 v] Z=some (.bool (M5 h hl hh lo hi v),Z')/\Fr AF Z Z'
structure Ck (Z:H) (p nT:Nat) (ty:Nat->Ty) (nm:BS) (nv rv tv:V) (rest:List V):Prop where
 at_:CM Z p ([.str nm,nv,rv,tv]++rest)
 n1:nv.one=true
 r1:rv.one=true
 t1:tv.one=true
 row:Fj Z 13 nT tv fun i=>(ty i).c
 apart:∀b,A0 tv b->b≠p
section
variable {E:EB} {D:Ai} {W:AI} {N:Nat} {Z Z':H} {p nT:Nat} {ty:Nat->Ty} {nm:BS} {nv rv tv:V} {rest:List V}
theorem Ck.fr (h:Ck Z p nT ty nm nv rv tv rest) (f:Fr AF Z Z') (ht:Ao Z):Ck Z' p nT ty nm nv rv tv rest:=⟨f.at_ h.at_ ht (fun h=>h),h.n1,h.r1,h.t1,h.row.fr0 f ht,h.apart⟩
theorem Ck.types {E:EB} (h:Ck Z p nT ty nm nv rv tv rest) (J:V->AH):BY E Z p 3 J=J tv:=by
 rw[BK h.at_];rfl
def W9 (n:Int):List V:=vc (AA 2) n .nils .nils (AA 0) .nils
theorem XI (hP:FH (D 99)) (hW:JQ (D 100)) (ht:Ao Z) (hc:Ck Z p nT ty nm nv rv tv rest) {i dp:Nat} (hi:i<nT) (hd:dp<=17) (hk:(ty i).kind=AA 2) {n:Int} (hw:((ty i).conMore || M5 (ty i).has (ty i).hasLow (ty i).hasHigh (ty i).low (ty i).high n)=true) :
  ∃Z',jR E D W N [.ptr p 0,.int .i64 (AA i),.agg (W9 n),.int .i64 (AA dp)] Z=some (.bool true,Z')/\Fr AF Z Z':=by
 obtain⟨Z1,e1,f1,a1,n1⟩:=Cg ht (W9 n)
 have c1:=hc.fr f1 ht
 obtain⟨Z2,g2,f2⟩:=hP Z1 (AA 1) (AA 2) n (AA 0) .nils .nils .nils 0 0 0 f1.tidy GM.nils GM.nils GM.nils
 have a2:=f2.at_ a1 f1.tidy (fun h=>h)
 obtain⟨Z3,g3,f3⟩:=hW Z2 (ty i).has (ty i).hasLow (ty i).hasHigh (ty i).conMore (ty i).low (ty i).high n f2.tidy
 have f12:=f1.trans f2 (fun _ _ h=>h)
 have rd:∀J,AV 13 tv (AA i) (fun b o=>BP E Z1 b o 13 J)=J (ty i).c:=fun J=>c1.row.all hi J
 have hp:I9 (AA 1) (AA 2) n 0 0 (AA 0) 0=true:=rfl
 have hl:=c1.row.len
 rw[hp]at g2
 unfold W9 at e1 a1 a2 ⊢
 unfold vc at e1 a1 a2 g2 ⊢
 have d1:decide (nT<=i)=false:=decide_eq_false (by omega)
 have d2:decide (17<dp)=false:=decide_eq_false (by omega)
 show ∃Z',Hb E D W _ p 0 (AA i) (AA 2) n .nils .nils (AA 0) .nils (AA dp) Z=_/\_
 unfold Hb
 simp -implicitDefEqProofs only [↓rP,rA,AD,AG,AB,Dd,↓e1,↓c1.types,↓hl.2,d1,d2,↓rd,Ty.c,hk,(ty i).oneT,(ty i).oneI,(ty i).oneF,↓BK a1,↓Az a1,↓g2,↓BK a2,↓g3]
 cases hm:(ty i).conMore with
 | true=>exact⟨Z2,rfl,f12⟩
 | false=>
  rw[hm,Ct]at hw
  rw[hw]
  exact⟨Z3,rfl,f12.trans f3 (fun _ _ h=>h)⟩
end
structure Vc where
 k:Int
 n:Int
 b:V
 l:V
 r:Int
 m:V
 oneB:b.one=true
 oneL:l.one=true
 oneM:m.one=true
def Vc.c (x:Vc):List V:=[.int .i64 x.k,.int .i64 x.n,x.b,x.l,.int .i64 x.r,x.m]
def Vc.int (n:Int):Vc:=⟨AA 2,n,.nils,.nils,AA 0,.nils,rfl,rfl,rfl⟩
def Vc.abs:Vc:=⟨AA 0,AA 0,.nils,.nils,AA 0,.nils,rfl,rfl,rfl⟩
def Mi (p:Nat->Bool):Nat->Nat->Int
 | 0,_=>BZ 0
 | m+1,i=>if p i=true then AA i else Mi p m (i+1)
def Xg (p:Nat->Bool):Nat->Nat->Bool
 | 0,_=>false
 | m+1,i=>p i || Xg p m (i+1)
theorem SL (p:Nat->Bool):∀m i,IT (AA 0) (Mi p m i)=Xg p m i
 | 0,i=>rfl
 | m+1,i=>by
  unfold Mi Xg
  by_cases h:p i=true
  ·rw[if_pos h,h];simp only[NH,Gz,decide_true,Bool.true_or]
  ·rw[if_neg h,SL p m (i+1)];simp only[Fe]at h;rw[h,Ct]
theorem Se {p:Nat->Bool}:∀{m i:Nat},(∀k,i<=k->k<i+m->p k=false)->Xg p m i=false
 | 0,i,_=>rfl
 | m+1,i,h=>by
  unfold Xg
  rw[h i (AL _) (by omega),Se (fun k h1 h2=>h k (by omega) (by omega))];rfl
section
variable {E:EB} {D:Ai} {W:AI} {N:Nat} {Z Z':H} {p nT:Nat} {ty:Nat->Ty} {nm:BS} {nv rv tv:V} {rest:List V}
def tp (D:Ai) (Z:H) (f:Nat) (caps:List V) (n:Nat) (g:Nat->Vc) (q:Nat->Bool):Prop:=∀(Z1:H) (k:Nat),k<n->Fr AF Z Z1->∃Z2,D f ([]++[.agg (g k).c]++caps) Z1=some (.bool (q k),Z2)/\Fr AF Z1 Z2
theorem vu {v:V} {n:Nat} {g:Nat->Vc} {f:Nat} {caps:List V} {q:Nat->Bool} (ht:Ao Z) (hr:Fj Z 6 n v fun k=>(g k).c) (hq:tp D Z f caps n g q) (hN:n<N) (hn:n<=1000000) :
  ∃Z',Xu E D W N [v,.fn f [] caps] Z=some (.int .i64 (Mi q n 0),Z')/\Fr AF Z Z':=by
 have loop:∀(m n' i:Nat) (Z1:H),i+m=n->m<n'->Fr AF Z Z1->∃Z2,OV E D W N n' v (.fn f [] caps) (AA n) (AA i) Z1=some (.int .i64 (Mi q m i),Z2)/\Fr AF Z Z2:=by
  intro m
  induction m with
  | zero=>
   intro n' i Z1 hi hn' f1
   obtain⟨n',rfl⟩:∃k,n'=k+1:=⟨n'-1,by omega⟩
   refine⟨Z1,?_,f1⟩
   show MN E D W _ _ v (.fn f [] caps) (AA n) (AA i) Z1=_
   unfold MN
   rw[EZ,decide_eq_false (by omega),Cn];rfl
  | succ m ih=>
   intro n' i Z1 hi hn' f1
   obtain⟨n',rfl⟩:∃k,n'=k+1:=⟨n'-1,by omega⟩
   have hlt:i<n:=by omega
   have r1:=hr.fr0 f1 ht
   have rd:∀J,AV 6 v (AA i) (fun b o=>BP E Z1 b o 6 J)=J (g i).c:=fun J=>r1.all hlt J
   obtain⟨Z2,g2,f2⟩:=hq Z1 i hlt f1
   have f12:=f1.trans f2 (fun _ _ h=>h)
   show ∃Z',MN E D W _ (OV E D W N n') v (.fn f [] caps) (AA n) (AA i) Z1=_/\_
   unfold MN
   have cv:∀J,GC D (.fn f [] caps) [.agg (g i).c] Z1 J=J (.bool (q i)) Z2:=fun J=>by
    show AU (D f ([]++[.agg (g i).c]++caps) Z1) J=_
    rw[g2];rfl
   unfold Vc.c at rd cv
   have d1:decide (i<n)=true:=decide_eq_true hlt
   simp -implicitDefEqProofs only [↓rP,rA,AD,AG,AB,d1,↓rd,(g i).oneB,(g i).oneL,(g i).oneM,↓cv]
   unfold Mi
   by_cases hqi:q i=true
   ·rw[hqi,EN,if_pos rfl]
    exact⟨Z2,rfl,f12⟩
   ·rw[Fe]at hqi
    rw[hqi,Cn,if_neg (by simp),CG (by omega)]
    exact ih n' (i+1) Z2 (by omega) (by omega) f12
 obtain⟨Z2,h1,h2⟩:=loop n N 0 Z (by omega) hN (Fr.refl ht)
 refine⟨Z2,?_,h2⟩
 show RE E D W (OV E D W N N) v (.fn f [] caps) Z=_
 unfold RE
 rw[hr.len.2]
 exact h1
def xK (F:List V->H->AH) (D:Ai):Prop:=∀{Z:H} {v:V} {n:Nat} {g:Nat->Vc} {f:Nat} {caps:List V} {q:Nat->Bool},Ao Z->Fj Z 6 n v (fun k=>(g k).c)->tp D Z f caps n g q->n<=10000 ->
  ∃Z',F [v,.fn f [] caps] Z=some (.int .i64 (Mi q n 0),Z')/\Fr AF Z Z'
def bG (F:List V->H->AH) (D:Ai):Prop:=∀{Z:H} {v:V} {n:Nat} {g:Nat->Vc} {f:Nat} {caps:List V} {q:Nat->Bool},Ao Z->Fj Z 6 n v (fun k=>(g k).c)->tp D Z f caps n g q->n<=10000 ->
  ∃Z',F [v,.fn f [] caps] Z=some (.bool (Xg q n 0),Z')/\Fr AF Z Z'
theorem wN {D':Ai} (hI:xK (D 104) D'):bG (F69 E D W N) D':=by
 intro Z v n g f caps q ht hr hq hn
 obtain⟨Z2,h1,h2⟩:=hI ht hr hq hn
 refine⟨Z2,?_,h2⟩
 show Zk E D W v (.fn f [] caps) Z=_
 unfold Zk
 rw[h1]
 show some (V.bool (IT (AA 0) (Mi q n 0)),Z2)=_
 rw[SL]
end
section
variable {E:EB} {D:Ai} {W:AI} {N:Nat} {Z Z':H} {p nT:Nat} {ty:Nat->Ty} {nm:BS} {nv rv tv:V} {rest:List V}
theorem VR {v:Vc} {n:Nat} {g:Nat->Vc} (hN:n<N) (hn:n<=10000) (ht:Ao Z) (hr:Fj Z 6 n v.l fun k=>(g k).c)
  (hq:∀(Z1:H) (k:Nat),k<n->Fr AF Z Z1->∃Z2,D 68 [.agg (g k).c] Z1=some (.int .i64 (AA 1),Z2)/\Fr AF Z1 Z2) :
  ∃Z',nE E D W N [.agg v.c] Z=some (.int .i64 (AA (1+n)),Z')/\Fr AF Z Z':=by
 have loop:∀(m n' i:Nat) (Z1:H),i+m=n->m<n'->Fr AF Z Z1->∃Z2,cG E D W N n' (AA (1+i)) v.l (AA n) (AA i) Z1=some (.int .i64 (AA (1+n)),Z2)/\Fr AF Z Z2:=by
  intro m
  induction m with
  | zero=>
   intro n' i Z1 hi hn' f1
   obtain⟨n',rfl⟩:∃k,n'=k+1:=⟨n'-1,by omega⟩
   refine⟨Z1,?_,f1⟩
   show Pe E D W _ _ (AA (1+i)) v.l (AA n) (AA i) Z1=_
   unfold Pe
   rw[EZ,decide_eq_false (by omega),Cn]
   obtain rfl:i=n:=by omega
   rfl
  | succ m ih=>
   intro n' i Z1 hi hn' f1
   obtain⟨n',rfl⟩:∃k,n'=k+1:=⟨n'-1,by omega⟩
   have hlt:i<n:=by omega
   have rd:∀J,AV 6 v.l (AA i) (fun b o=>BP E Z1 b o 6 J)=J (g i).c:=fun J=>(hr.fr0 f1 ht).all hlt J
   obtain⟨Z2,g2,f2⟩:=hq Z1 i hlt f1
   obtain⟨Z3,g3,f3⟩:=ih n' (i+1) Z2 (by omega) (by omega) (f1.trans f2 (fun _ _ h=>h))
   refine⟨Z3,?_,f3⟩
   unfold Vc.c at rd g2
   have d1:decide (i<n)=true:=decide_eq_true hlt
   have key:∀K1 K2,Pe E D W K1 K2 (AA (1+i)) v.l (AA n) (AA i) Z1=K2 (AA (1+(i+1))) v.l (AA n) (AA (i+1)) Z2:=by
    intro K1 K2
    unfold Pe
    simp -implicitDefEqProofs only [↓rP,rA,AD,AG,AB,d1,↓rd,(g i).oneB,(g i).oneL,(g i).oneM,↓g2,CG (show 1+i+1<=9223372036854775807 by omega),CG (show i+1<=9223372036854775807 by omega),FY]
   exact(key _ _).trans g3
 obtain⟨Z1,e1,f1,a1,n1⟩:=Cg ht v.c
 obtain⟨Z2,h1,h2⟩:=loop n N 0 Z1 (by omega) hN f1
 refine⟨Z2,?_,h2⟩
 unfold Vc.c at e1 a1
 have hln:=hr.len.2
 have key:∀K,Vv E D W K v.k v.n v.b v.l v.r v.m Z=K (AA 1) v.l (AA n) (AA 0) Z1:=by
  intro K
  unfold Vv
  simp -implicitDefEqProofs only [↓rP,rA,AD,AG,AB,v.oneB,v.oneL,v.oneM,↓e1,↓hln,↓BK a1]
 exact(key _).trans h1
theorem U3 {D':Ai} (hC:bG (D 69) D') {v:Vc} {n:Nat} {g:Nat->Vc} {ru:Int} (hn:n<=10000) (hv:(Bv v.r (AA 0) || Bv v.r ru)=true) (ht:Ao Z) (hr:Fj Z 6 n v.l fun k=>(g k).c)
  (hq:∀(Z1:H) (q k:Nat),k<n->Fr AF Z Z1->CM Z1 q [.int .i64 ru]->∃Z2,D' 70 ([]++[.agg (g k).c]++[.ptr q 0]) Z1=some (.bool false,Z2)/\Fr AF Z1 Z2) :
  ∃Z',sy E D W N [.agg v.c,.int .i64 ru] Z=some (.bool true,Z')/\Fr AF Z Z':=by
 obtain⟨Z1,e1,f1,a1,n1⟩:=Cg ht v.c
 obtain⟨Z2,e2,f2,a2,n2⟩:=Cg f1.tidy [.int .i64 ru]
 have f02:=f1.trans f2 (fun _ _ h=>h)
 have a12:=f2.at_ a1 f1.tidy (fun h=>h)
 obtain⟨Z3,g3,f3⟩:=hC (Z:=Z2) (caps:=[.ptr Z1.next 0]) (f:=70) (q:=fun _=>false) f02.tidy (hr.fr0 f02 ht) (fun Z9 k hk f9=>hq Z9 Z1.next k hk (f02.trans f9 (fun _ _ h=>h)) (f9.at_ a2 f02.tidy (fun h=>h))) hn
 rw[Se (fun _ _ _=>rfl)]at g3
 refine⟨Z3,?_,f02.trans f3 (fun _ _ h=>h)⟩
 unfold Vc.c at e1 a12
 show Zt E D W v.k v.n v.b v.l v.r v.m ru Z=_
 unfold Zt
 cases h0:Bv v.r (AA 0)with
 | true=>simp -implicitDefEqProofs only [↓rP,rS,EZ,NH,v.oneB,v.oneL,v.oneM,↓e1,↓e2,↓BK a12,↓BK a2,h0,↓g3]
 | false=>
  rw[h0,Ct]at hv
  simp -implicitDefEqProofs only [↓rP,rS,EZ,NH,v.oneB,v.oneL,v.oneM,↓e1,↓e2,↓BK a12,↓BK a2,h0,hv,↓g3]
theorem sk {i n:Nat} {v:Vc} (hn:n<=5000) (ht:Ao Z) (hr:Fj Z 13 nT tv fun i=>(ty i).c) (h1:nv.one=true) (h2:rv.one=true) (h3:tv.one=true)
  (hF:∀(Z1:H) (p:Nat),Ao Z1->Fr AF Z Z1->Ck Z1 p nT ty nm nv rv tv [.bool false]->∃Z2,D 67 [.ptr p 0,.int .i64 (AA i),.agg v.c,.int .i64 (AA 1)] Z1=some (.bool true,Z2)/\Fr AF Z1 Z2)
  (hC:∀Z1:H,Ao Z1->Fr AF Z Z1->∃Z2,D 68 [.agg v.c] Z1=some (.int .i64 (AA n),Z2)/\Fr AF Z1 Z2) :
  ∃Z',sz E D W N [.agg [.str nm,nv,rv,tv],.int .i64 (AA i),.agg v.c] Z=some (.bool true,Z')/\Fr AF Z Z':=by
 obtain⟨Z1,e1,f1,a1,n1⟩:=Cg ht [.str nm,nv,rv,tv]
 obtain⟨Z2,e2,f2,a2,n2⟩:=Cg f1.tidy v.c
 obtain⟨Z3,e3,f3,a3,n3⟩:=Cg f2.tidy [.str nm,nv,rv,tv,.bool false]
 have f02:=f1.trans f2 (fun _ _ h=>h)
 have f03:=f02.trans f3 (fun _ _ h=>h)
 have r3:=hr.fr0 f03 ht
 have c3:Ck Z3 Z2.next nT ty nm nv rv tv [.bool false]:=⟨a3,h1,h2,h3,r3,fun b hb e=>by
  subst e
  have lo:=f02.le
  rcases hr.is with ⟨_,rfl⟩|⟨b,c,L,rfl,ha,_⟩
  ·exact hb
  ·have:=ha.lt ht
   have hb:Z2.next=b:=hb
   omega⟩
 obtain⟨Z4,g4,f4⟩:=hF Z3 Z2.next f3.tidy f03 c3
 have f04:=f03.trans f4 (fun _ _ h=>h)
 obtain⟨Z5,g5,f5⟩:=hC Z4 f4.tidy f04
 have a12:=f2.at_ a1 f1.tidy (fun h=>h)
 have a23:=f3.at_ a2 f2.tidy (fun h=>h)
 have a24:=f4.at_ a23 f3.tidy (fun h=>h)
 have d1:decide (n<=5000)=true:=decide_eq_true hn
 refine⟨Z5,?_,f04.trans f5 (fun _ _ h=>h)⟩
 unfold Vc.c at e2 a2 a23 a24 g4 g5
 show Sr E D W nm nv rv tv (AA i) v.k v.n v.b v.l v.r v.m Z=_
 unfold Sr
 simp -implicitDefEqProofs only [↓rP,rA,AD,AG,AB,h1,h2,h3,v.oneB,v.oneL,v.oneM,↓e1,↓e2,↓e3,↓Az a12,↓Az a23,↓Az a24,↓g4,↓g5,d1]
end
section
variable {E:EB} {D:Ai} {W:AI} {N:Nat} {nT:Nat} {ty:Nat->Ty} {nm:BS} {nv rv tv:V}
end
def KR (x:Nat):Nat->List Nat
 | 0=>[]
 | n+1=>(x / 2 ^ (8*n)) % 256::KR x n
theorem JC (x:Nat):∀n,(KR x n).length=n
 | 0=>rfl
 | n+1=>by simp[KR,JC x n]
theorem VD (x:Nat):∀n,∀c∈KR x n,c<256
 | 0,c,h=>by cases h
 | n+1,c,h=>by
  rcases Al.1 h with rfl|h
  ·exact tq _ (by decide)
  ·exact VD x n c h
def TQ (v:Int):Nat:=(v % 18446744073709551616).toNat
theorem HA (v:Int):(TQ v:Int)=v % 18446744073709551616:=Int.toNat_of_nonneg (Int.emod_nonneg _ (by decide))
theorem Rl (v:Int):Ap .u64 v=AA (TQ v):=by rw[NS];exact(HA v).symm
theorem NF (v:Int):∀n:Nat,n<=8->E3 v n=nI (KR (TQ v) n)
 | 0,_=>rfl
 | n+1,h=>by
  show Ek v n::E3 v n=AA ((TQ v / 2 ^ (8*n)) % 256)::nI (KR (TQ v) n)
  rw[NF v n (by omega),<-Sb v (show n<8 by omega),Rl]
  congr 1
  rw[Qj _ (by omega),M4]
  show (AA (TQ v) / 2 ^ (8*n)) % 256=_
  have:((2 ^ (8*n):Nat):Int)=(2:Int) ^ (8*n):=by simp
  rw[<-this];rfl
def Gf (x:Nat):Nat:=if x<2 ^ 8 then 1 else if x<2 ^ 16 then 2 else if x<2 ^ 24 then 3 else if x<2 ^ 32 then 4 else if x<2 ^ 40 then 5 else if x<2 ^ 48 then 6 else if x<2 ^ 56 then 7 else 8
theorem Ta (x:Nat):1<=Gf x/\Gf x<=8:=by
 unfold Gf
 repeat' split
 all_goals omega
theorem W2 (x:Nat) {n:Nat} (h1:1<=n) (h2:n<Gf x):2 ^ (8*n)<=x:=by
  unfold Gf at h2
  repeat' split at h2
  all_goals first
    | omega
    | (have:n=1\/n=2\/n=3\/n=4\/n=5\/n=6\/n=7:=by omega
       rcases this with rfl|rfl|rfl|rfl|rfl|rfl|rfl<;>omega)
theorem fk (x:Nat) (h:Gf x<8):x<2 ^ (8*Gf x):=by
 unfold Gf at h ⊢
 repeat' split
 all_goals first | assumption | (exfalso;simp_all)
def Py (F:List V->H->AH) (args:List V) (Z:H) (l:List Int):Prop:=∃u Z',F args Z=some (u,Z')/\Nb Z Z' u l/\Fr AF Z Z'
def Ws (v:Int):List Int:=E3 v (C4 v)
def iA (F:List V->H->AH):Prop:=∀(Z:H) (v:Int) (n:Nat),Ao Z->n<=8->Py F [.int .u64 (Ap .u64 v),.int .i64 (AA n)] Z (E3 v n)
def GZ (F:List V->H->AH):Prop:=∀{Z:H} {v:Int},DQ v->Ao Z->Py F [.int .i64 v] Z (nI (KR (TQ v) (C4 v)))
def Kg (F:List V->H->AH):Prop:=∀{Z:H} {x:Nat},x<18446744073709551616->Ao Z->Py F [.int .u64 (AA x)] Z (nI (KR x (Gf x)))
section
variable {E:EB} {D:Ai} {W:AI} {N:Nat} {Z Z':H}
theorem jr (a b:Int):Bv a b=decide (a=b):=by rw[Ie];rw[De];simp
theorem Yj {v:Int} {n:Nat} (hn:n<=8) (hN:8<N) (ht:Ao Z) :
  ∃u Z',sr E D W N [.int .u64 (Ap .u64 v),.int .i64 (AA n)] Z=some (u,Z')/\Nb Z Z' u (E3 v n)/\Fr AF Z Z':=by
 obtain⟨Z1,e1,f1,a1,n1⟩:=Cg ht (AW n [V.int .u8 (AA 0)]).flatten
 have hz:(AW n [V.int .u8 (AA 0)]).flatten=Hv (AW n (AA 0)):=by
  simp[Hv,List.flatten_replicate_singleton]
 have loop:∀(m n' i:Nat) (Z1:H),i+m=n->m<n'->Fr AF Z Z1->Z.next<Z1.next->CM Z1 Z.next (Hv ((E3 v n).take i++AW m (AA 0))) ->
   ∃Z',S4 E D W N n' (Ap .u64 v) (AA n) (.sl Z.next 0 n (.ex n)) (AA n) (AA i) Z1=some (.sl Z.next 0 n (.ex n),Z')/\CM Z' Z.next (Hv (E3 v n))/\Fr AF Z Z':=by
  intro m
  induction m with
  | zero=>
   intro n' i Z1 hi hn' f1 hx ha
   obtain⟨n',rfl⟩:∃k,n'=k+1:=⟨n'-1,by omega⟩
   refine⟨Z1,?_,?_,f1⟩
   ·show Pd E D W _ _ (Ap .u64 v) (AA n) (.sl Z.next 0 n (.ex n)) (AA n) (AA i) Z1=_
    unfold Pd
    rw[EZ,decide_eq_false (by omega),Cn];rfl
   ·rw[D4 (by rw[EY];omega)]at ha
    simpa using ha
  | succ m ih=>
   intro n' i Z1 hi hn' f1 hx ha
   obtain⟨n',rfl⟩:∃k,n'=k+1:=⟨n'-1,by omega⟩
   have hlt:i<n:=by omega
   obtain⟨Z2,e2,f2,a2⟩:=Yo f1.tidy ha (HT (Hv ((E3 v n).take i++AW (m+1) (AA 0))) i [.int .u8 (Ek v (n-1-i))])
   have hsp:HT (Hv ((E3 v n).take i++AW (m+1) (AA 0))) i [.int .u8 (Ek v (n-1-i))]=Hv ((E3 v n).take (i+1)++AW m (AA 0)):=by
    have hl:((E3 v n).take i).length=i:=by rw[Dn,EY];omega
    have:=YC (Hv ((E3 v n).take i)) (.int .u8 (AA 0)) (Hv (AW m (AA 0))) (.int .u8 (Ek v (n-1-i)))
    rw[Fl,hl]at this
    rw[QZ,FA,show Hv (AA 0::AW m (AA 0)) = .int .u8 (AA 0)::Hv (AW m (AA 0))from rfl,this]
    rw[List.take_add_one,PM v hlt]
    simp[Hv]
   rw[hsp]at e2 a2
   have f02:=f1.trans f2 (fun b hb h=>by have h:b=Z.next:=h;omega)
   obtain⟨Z3,g3,h3,f3⟩:=ih n' (i+1) Z2 (by omega) (by omega) f02 (by have:=f2.le;omega) a2
   refine⟨Z3,?_,h3,f3⟩
   have d1:decide (i<n)=true:=decide_eq_true hlt
   have en:HU .i64 (AA 8) (Dt .i64 (Dt .i64 (AA n) (AA 1)) (AA i))=AA (8*(n-1-i)):=by
    rw[IA (by omega) (by omega),IA (by omega) (by omega)]
    exact Ba (k := .i64) (m:=8*(n-1-i)) (show 8*(n-1-i)<=9223372036854775807 by omega)
   have st:∀J:H->AH,Fg 1 Z.next i (.int .u8 (Ek v (n-1-i))) Z1 J=J Z2:=fun J=>by
    rw[TS ha (by
     simp only[G8,As,List.length_nil,Fl,AS,Dn,EY,Ja,AJ]
     refine⟨⟨rfl,?_⟩,rfl⟩
     rw[BB]
     show i+1<=_
     omega)]
    rw[G8,hsp,e2]
   have ia:∀J:Nat->Nat->AH,AV 1 (.sl Z.next 0 n (.ex n)) (AA i) J=J Z.next i:=fun J=>by
    rw[Di hlt]
    show J Z.next (0+i*1)=_
    rw[Bc,CE]
   have key:∀K1 K2,Pd E D W K1 K2 (Ap .u64 v) (AA n) (.sl Z.next 0 n (.ex n)) (AA n) (AA i) Z1=K2 (Ap .u64 v) (AA n) (.sl Z.next 0 n (.ex n)) (AA n) (AA (i+1)) Z2:=by
    intro K1 K2
    unfold Pd
    rw[EZ,d1,EN,en,EF,ia,Sb v (by omega),st,CG (by omega)]
   exact(key _ _).trans g3
 rw[hz]at a1
 obtain⟨Z',g,a,f⟩:=loop n N 0 Z1 (by omega) (by omega) f1 (by omega) (by rw[tr,DB];exact a1)
 refine⟨_,Z',?_,⟨.inr ⟨Z.next,by rw[EY],a,by rw[Fl];simp⟩,fun b hb=>by cases hb;exact AL _⟩,f⟩
 show Vp E D W (S4 E D W N N) (Ap .u64 v) (AA n) Z=_
 unfold Vp
 rw[EF,EF,D7 (by simp only[AJ,BB];refine⟨⟨AL _,?_⟩,?_⟩<;>omega)]
 show S4 E D W N N _ _ _ _ _ (Bn Z (.cells _))=_
 rw[e1]
 exact g
theorem YD {v:Int} (hv:DQ v) (hO:∀(Z:H) (n:Nat),Ao Z->n<=8->Py (D 94) [.int .u64 (Ap .u64 v),.int .i64 (AA n)] Z (E3 v n)) (hN:8<N) (ht:Ao Z):Py (nF E D W N) [.int .i64 v] Z (Ws v):=by
 have hr:=C7 v
 have loop:∀(m n' n:Nat),n+m=C4 v->1<=n->m<n'->Wb E D W N n' v (AA n) Z=cW E D W N v (AA (C4 v)) Z:=by
  intro m
  induction m with
  | zero=>
   intro n' n hn h1 hn'
   obtain⟨n',rfl⟩:∃k,n'=k+1:=⟨n'-1,by omega⟩
   have hn:n=C4 v:=by omega
   subst hn
   have en:Dt .i64 (HU .i64 (AA 8) (AA (C4 v))) (AA 1)=AA (8*C4 v-1):=by
    rw[show HU .i64 (AA 8) (AA (C4 v))=AA (8*C4 v)from Ba (k := .i64) (m:=8*C4 v) (show _<=9223372036854775807 by omega),IA (by omega) (by omega)]
   have hw:=GU hv
   unfold D0 at hw
   show Pg E D W _ _ v (AA (C4 v)) Z=_
   unfold Pg
   rw[en]
   simp -implicitDefEqProofs only [EF,IH,M8 v (show 8*C4 v-1<=64 by omega),EZ,jr,show AA 0=(0:Int)from rfl,show BZ 0=(-1:Int)from rfl]
   rw[MC]
   rw[BC]at hw
   rcases hw with h|h
   ·rw[h];simp
   ·rw[h];simp
  | succ m ih=>
   intro n' n hn h1 hn'
   obtain⟨n',rfl⟩:∃k,n'=k+1:=⟨n'-1,by omega⟩
   have en:Dt .i64 (HU .i64 (AA 8) (AA n)) (AA 1)=AA (8*n-1):=by
    rw[show HU .i64 (AA 8) (AA n)=AA (8*n)from Ba (k := .i64) (m:=8*n) (show _<=9223372036854775807 by omega),IA (by omega) (by omega)]
   have hw:=L6 v h1 (by omega)
   unfold D0 at hw
   rw[BM]at hw
   have key:∀K1 K2,Pg E D W K1 K2 v (AA n) Z=K2 v (AA (n+1)) Z:=by
    intro K1 K2
    unfold Pg
    rw[en]
    simp -implicitDefEqProofs only [EF,IH,M8 v (show 8*n-1<=64 by omega),EZ,jr,show AA 0=(0:Int)from rfl,show BZ 0=(-1:Int)from rfl,hw.1,hw.2,show decide (n<8)=true from decide_eq_true (by omega),H6,Fa,EN]
    simp -implicitDefEqProofs only [LR,EN,show CK .i64 (AA n) (AA 1)=AA (n+1)from CG (by omega)]
   refine(key _ _).trans ?_
   exact ih n' (n+1) (by omega) (by omega) (by omega)
 obtain⟨u,Z',g,hu,f⟩:=hO Z (C4 v) ht hr.2
 refine⟨u,Z',?_,hu,f⟩
 refine(show nF E D W N [.int .i64 v] Z=Wb E D W N N v (AA 1) Z from rfl).trans ?_
 rw[loop (C4 v-1) N 1 (by omega) (AL _) (by omega)]
 show Zp E D W v (AA (C4 v)) Z=_
 unfold Zp
 simp -implicitDefEqProofs only [↓g,↓GW,↓Aj hu.1.one]
theorem ADD (hN:8<N):iA (sr E D W N):=fun Z v n ht hn=>Yj hn hN ht
theorem vD (hO:iA (D 94)) (hN:8<N):GZ (nF E D W N):=by
 intro Z v hv ht
 have:=YD (E:=E) (W:=W) hv (fun Z n h1 h2=>hO Z v n h1 h2) hN ht
 unfold Ws at this
 rwa [NF v _ (C7 v).2]at this
theorem um (hO:iA (D 94)) (hN:8<N):Kg (UU E D W N):=by
 intro Z x hx ht
 have hr:=Ta x
 have tx:TQ (x:Int)=x:=by
  unfold TQ
  rw[Int.emod_eq_of_lt (by omega) (by omega)];rfl
 have ew:Ap .u64 (x:Int)=AA x:=by rw[Rl,tx]
 have sh:∀n:Nat,n<=8->Bv (GO .u64 (AA x) (8*n)) (AA 0)=decide (x / 2 ^ (8*n)=0):=fun n hn=>by
  rw[Qj _ (by omega)]
  have:((2 ^ (8*n):Nat):Int)=(2:Int) ^ (8*n):=by simp
  rw[<-this]
  exact Bl (x / 2 ^ (8*n)) 0
 have ml:∀n:Nat,n<=8->HU .i64 (AA 8) (AA n)=AA (8*n):=fun n hn=>Ba (k := .i64) (m:=8*n) (show _<=9223372036854775807 by omega)
 have loop:∀(m n' n:Nat),n+m=Gf x->1<=n->m<n'->RU E D W N n' (AA x) (AA n) Z=US E D W N (AA x) (AA (Gf x)) Z:=by
  intro m
  induction m with
  | zero=>
   intro n' n hn h1 hn'
   obtain⟨n',rfl⟩:∃k,n'=k+1:=⟨n'-1,by omega⟩
   have hn:n=Gf x:=by omega
   subst hn
   show Kf E D W _ _ (AA x) (AA (Gf x)) Z=_
   have key:∀K1 R2,Kf E D W K1 R2 (AA x) (AA (Gf x)) Z=K1 (AA x) (AA (Gf x)) Z:=by
    intro K1 R2
    unfold Kf
    cases h8:decide (Gf x<8)with
    | true=>
     have h0:decide (x / 2 ^ (8*Gf x)=0)=true:=decide_eq_true (Nat.div_eq_of_lt (fk x (of_decide_eq_true h8)))
     simp -implicitDefEqProofs only [↓rP,rA,AD,AG,AB,h8,ml _ hr.2,↓EF,sh _ hr.2,h0]
    | false=>simp -implicitDefEqProofs only [↓rP,rA,AD,AG,AB,h8]
   exact key _ _
  | succ m ih=>
   intro n' n hn h1 hn'
   obtain⟨n',rfl⟩:∃k,n'=k+1:=⟨n'-1,by omega⟩
   have h8:decide (n<8)=true:=decide_eq_true (by omega)
   have h0:decide (x / 2 ^ (8*n)=0)=false:=decide_eq_false fun e=>by
    have:=W2 x h1 (by omega)
    have:=(Nat.div_eq_zero_iff).1 e
    have hp:0<2 ^ (8*n):=Nat.pow_pos (by decide)
    omega
   have key:∀K1 R2,Kf E D W K1 R2 (AA x) (AA n) Z=R2 (AA x) (AA (n+1)) Z:=by
    intro K1 R2
    unfold Kf
    simp -implicitDefEqProofs only [↓rP,rA,AD,AG,AB,h8,ml n (by omega),↓EF,sh n (by omega),h0,CG (show n+1<=9223372036854775807 by omega)]
   refine(key _ _).trans ?_
   exact ih n' (n+1) (by omega) (by omega) (by omega)
 obtain⟨u,Z',g,hu,f⟩:=hO Z x (Gf x) ht hr.2
 rw[ew]at g
 rw[NF x _ hr.2,tx]at hu
 refine⟨u,Z',?_,hu,f⟩
 refine(show UU E D W N [.int .u64 (AA x)] Z=RU E D W N N (AA x) (AA 1) Z from rfl).trans ?_
 rw[loop (Gf x-1) N 1 (by omega) (AL _) (by omega)]
 show UA E D W (AA x) (AA (Gf x)) Z=_
 unfold UA
 simp -implicitDefEqProofs only [↓rP,rS,↓g,↓Aj hu.1.one]
end
theorem Oy {Z:H} (ht:Ao Z) (z:List V):∃Z1,Bn Z (.cells z)=Z1/\Fr AF Z Z1/\CM Z1 Z.next z/\Z1.next=Z.next+1:=⟨_,rfl,Fr.new ht _,HS _,rfl⟩
structure pg (E:EB) (Z:H) (esz n:Nat) (x:V) (m:List V):Prop where
 k:∀J:Nat->List V->AH,srcK E Z esz x J=J n m
 c:CF E Z esz x=some (n,m)
 l:m.length=n*esz
 o:x.one=true
 s:∀J:Nat->AH,A6 x J=J n
 lt:∀b,A0 x b->b<Z.next
theorem pg.of {E:EB} {Z:H} {esz n:Nat} {x:V} {m:List V} (h:HN Z esz n x m) (ht:Ao Z):pg E Z esz n x m:=⟨fun J=>h.srcK,h.cells,h.length,h.one,fun J=>h.slen,fun b hb=>h.lt ht hb⟩
section
variable {E:EB} {Z Z':H} {l m:List V}
theorem Xd {esz bytes k:Nat} {v x:V} {J:V->H->AH} (h:JV Z esz k v l) (hx:pg E Z esz 0 x m):C8 E esz bytes v x Z J=J v Z:=by
 unfold C8
 rw[hx.k]
 rcases h with (⟨rfl,rfl,rfl⟩|⟨b,rfl,ha,_,hl⟩)|⟨b,rfl,ha,hl⟩
 ·show AU (Cd E esz bytes .nils x Z) J=_
  unfold Cd;rw[hx.c];rfl
 ·rfl
 ·show AU (Cd E esz bytes (.sl b 0 k (.ex k)) x Z) J=_
  unfold Cd;rw[hx.c]
  simp only[]
  rw[if_pos (show Ac (k+0) k=true from Gi (AL _))]
  rfl
theorem Xc {esz bytes k n:Nat} {v x:V} (h:JV Z esz k v l) (ht:Ao Z) (hx:pg E Z esz n x m) (hn:0<n) (ho:allOne m=true) (hg:CO (k+n) bytes=true) :
  ∃Z',(∀J:V->H->AH,C8 E esz bytes v x Z J=J (.sl Z.next 0 (k+n) (.op esz)) Z')/\CM Z' Z.next (l++m)/\Z'.next=Z.next+1/\Fr (A0 v) Z Z':=by
 obtain⟨n',rfl⟩:∃q,n=q+1:=⟨n-1,by omega⟩
 rcases h with (⟨rfl,rfl,rfl⟩|⟨b,rfl,ha,hk,hl⟩)|⟨b,rfl,ha,hl⟩
 ·refine⟨Bn Z (.cells m),fun J=>?_,by rw[DB];exact HS m,rfl,Fr.new ht _⟩
  unfold C8
  rw[hx.k]
  show AU (Cd E esz bytes .nils x Z) J=_
  unfold Cd;rw[hx.c]
  simp only[]
  rw[Bc]at hg ⊢
  rw[if_neg (by omega),if_pos hg]
  rfl
 ·refine⟨⟨Z.next+1,(Z.next,.cells (l++m))::drop Z.bl b⟩,fun J=>?_,?_,rfl,?_⟩
  ·unfold C8
   rw[hx.k]
   show (match BG Z.bl b with
    | some (.cells l)=>GB (AY l.length (k*esz)&&AY esz esz&&CO (k+(n'+1)) bytes&&allOne m) (N0 Z.bl b fun bl'=>J (.sl Z.next 0 (k+(n'+1)) (.op esz)) ⟨Z.next+1,(Z.next,.cells (l++m))::bl'⟩)
    | _=>none)=_
   rw[show BG Z.bl b=some (.cells l)from ha]
   simp only[]
   rw[D7 (by rw[hg,ho,hl];simp),L8]
  ·show BG ((Z.next,FW.cells (l++m))::_) _=_
   rw[Av,if_pos rfl]
  ·refine⟨fun k' hk'=>?_,D9 _,fun k' hk' hn=>?_⟩
   ·have hk2:Z.next+1<=k':=hk'
    show BG ((Z.next,_)::drop Z.bl b) k'=none
    rw[Av,if_neg (by simp only[];omega),Ib]
    split
    ·rfl
    ·exact ht k' (by omega)
   ·show BG ((Z.next,_)::drop Z.bl b) k'=_
    rw[Av,if_neg (by simp only[];omega),Ib,if_neg]
    intro hbk
    exact hn hbk.symm
 ·refine⟨Bn Z (.cells (l++m)),fun J=>?_,HS _,rfl,Fr.new ht _⟩
  unfold C8
  rw[hx.k]
  show AU (Cd E esz bytes (.sl b 0 k (.ex k)) x Z) J=_
  unfold Cd;rw[hx.c]
  simp only[]
  rw[if_neg (show ¬Ac (k+(n'+1)) k=true from fun h=>by rw[BB]at h;omega),if_pos hg]
  have hr:Kw E Z b 0 (k*esz)=some l:=by
   unfold Kw rd
   rw[<-Au,show BG Z.bl b=some (.cells l)from ha]
   simp only[]
   rw[show Ac (0+k*esz) l.length=true from Gi (by omega)]
   rw[Cq,<-hl,DF];rfl
  rw[hr]
  rfl
theorem ZX {esz bytes k n:Nat} {v x:V} (h:JV Z esz k v l) (ht:Ao Z) (hx:pg E Z esz n x m) (ho:allOne m=true) (hg:CO (k+n) bytes=true) :
  ∃u Z',(∀J:V->H->AH,C8 E esz bytes v x Z J=J u Z')/\JV Z' esz (k+n) u (l++m)/\(∀b,A0 u b->A0 v b\/Z.next<=b)/\Fr (A0 v) Z Z':=by
 cases n with
 | zero=>
  have hm:m=[]:=Bg (by rw[hx.l];omega)
  subst hm
  exact⟨v,Z,fun J=>Xd h hx,by rw[CZ];exact h,fun b hb => .inl hb,Fr.refl ht⟩
 | succ n=>
  obtain⟨Z',g,a,nx,f⟩:=Xc h ht hx (Nat.succ_pos n) ho hg
  refine⟨_,Z',g,.inl (.inr ⟨Z.next,rfl,a,by omega,?_⟩),fun b hb => .inr (by cases hb;exact AL _),f⟩
  rw[AS,h.length,hx.l,<-O1]
end
def Bx (E:EB) (Z:H) (x:V) (l:List Int):Prop:=pg E Z 1 l.length x (Hv l)
section
variable {E:EB} {D:Ai} {W:AI} {N:Nat} {Z Z0 Z1:H} {x v:V} {l m:List Int}
theorem Bx.of (h:By Z x l) (ht:Ao Z):Bx E Z x l:=pg.of h ht
theorem Bx.fr (h:Bx E Z x l) (f:Fr AF Z Z1):Bx E Z1 x l:=by
 have rk:∀b,A0 x b->∀J:List V->AH,eW E Z1 b J=eW E Z b J:=fun b hb J=>by
  unfold eW
  rw[f.same b (h.lt b hb) (fun h=>h)]
 have rn:∀b o n,A0 x b->Kw E Z1 b o n=Kw E Z b o n:=fun b o n hb=>by
  unfold Kw rd
  simp only[<-Au]
  rw[f.same b (h.lt b hb) (fun h=>h)]
 refine⟨fun J=>?_,?_,h.l,h.o,h.s,fun b hb=>GG (h.lt b hb) f.le⟩
 ·rw[<-h.k J]
  cases x with
  | sl b o n c=>exact rk b rfl _
  | _=>rfl
 ·rw[<-h.c]
  cases x with
  | sl b o n c=>
   show (Kw E Z1 b o (n*1)).map _=(Kw E Z b o (n*1)).map _
   rw[rn b o _ rfl]
  | _=>rfl
theorem JM (h:Nb Z0 Z v l) (f0:Fr AF Z0 Z) (hx:Bx E Z x m) (hs:l.length+m.length<=10000000) :
  ∃u Z',(∀J:V->H->AH,C8 E 1 1 v x Z J=J u Z')/\Nb Z0 Z' u (l++m)/\Fr AF Z0 Z'/\Fr (A0 v) Z Z':=by
 obtain⟨u,Z',g,d,n,f⟩:=ZX (bytes:=1) h.1 f0.tidy hx (K7 m) (by
  unfold CO
  simp only[CE,AJ,BB];omega)
 have hle:=f0.le
 refine⟨u,Z',g,⟨by rw[AS,QZ];exact d,fun b hb=>?_⟩,f0.trans f (fun b hb hn=>by have:=h.2 b hn;omega),f⟩
 rcases n b hb with h'|h'
 ·exact h.2 b h'
 ·omega
end
def Gj (F:List V->H->AH) (args:List V) (Z:H) (l:List Int):Prop:=∃u Z',F args Z=some (u,Z')/\Nb Z Z' u l/\Fr AF Z Z'
theorem ZZ (k:IntKind) {x:Nat} (hb:7<=k.bits) (hx:x<2 ^ k.bits) (hw:∀m:Nat,m<=127->k.wrap m=AA m):GX k (AA x) (AA 127)=AA (x % 128):=by
 have h127:(127:Nat)<2 ^ k.bits:=GG (show 127<2 ^ 7 by decide) (Xx (by decide) hb)
 rw[Q8,BitVec.toNat_and,G7,G7,CH hx,CH h127,show (127:Nat)=2 ^ 7-1 from rfl,Nat.and_two_pow_sub_one_eq_mod]
 exact hw _ (by have:=tq x (show 0<2 ^ 7 by decide);omega)
theorem Pc {x:Nat} (hx:x<=18446744073709551615):GX .u64 (AA x) (AA 127)=AA (x % 128):=ZZ .u64 (by decide) (show x<2 ^ 64 by omega) fun m hm=>(DC .u64 _).symm.trans (Ba (k := .u64) (show m<=18446744073709551615 by omega))
theorem ZY {x:Nat} (hx:x<=255):GX .u8 (AA x) (AA 127)=AA (x % 128):=ZZ .u8 (by decide) (show x<2 ^ 8 by omega) fun m hm=>(DC .u8 _).symm.trans (Ba (k := .u8) (show m<=255 by omega))
theorem PD (x:Nat):Ap .u8 (AA x)=AA (x % 256):=by
 rw[M4];rfl
def SH (k:Nat):List Int:=match decide (127<k)with
 | false=>[AA k]
 | true=>[IY .u8 (AA (k / 128)) (AA 128),AA (k % 128)]
def Gu (n:Nat):List Int:=match decide (255<n)with
 | false=>[AA n]
 | true=>[AA (n / 256),AA (n % 256)]
theorem Ny (k:Nat):(SH k).length<=2:=by unfold SH;split<;>simp
theorem Np (n:Nat):1<=(Gu n).length/\(Gu n).length<=2:=by unfold Gu;split<;>simp
def Mq (F:List V->H->AH):Prop:=∀{Z:H} {k:Nat},Ao Z->k<16384->Gj F [.int .u64 (AA k)] Z (SH k)
def Sx (F:List V->H->AH):Prop:=∀{Z:H} {n:Nat},Ao Z->n<65536->Gj F [.int .u64 (AA n)] Z (Gu n)
section
variable {E:EB} {D:Ai} {W:AI} {N:Nat}
theorem nV (k:Nat):GO .u64 (AA k) 7=AA (k / 128):=U1 (k := .u64) (show 7<=64 by decide)
theorem AC7 (k:Nat):GO .u64 (AA k) 8=AA (k / 256):=U1 (k := .u64) (show 8<=64 by decide)
theorem Qo {Z0 Z:H} {x:V} {l:List Int} (f0:Fr AF Z0 Z) (hx:Nb Z0 Z x l) (c:Int) (hl:l.length<=1000) :
  ∃Z1 u Z2,Bn Z (.cells [.int .u8 c])=Z1/\(∀J:V->H->AH,C8 E 1 1 (.sl Z.next 0 1 (.ex 1)) x Z1 J=J u Z2)/\Nb Z0 Z2 u (c::l)/\Fr AF Z0 Z2:=by
 obtain⟨Z1,e1,f1,a1,n1⟩:=Oy f0.tidy (Hv [c])
 have f01:=f0.trans f1 (fun _ _ h=>h)
 have x1:=Bx.of (E:=E) (hx.fr f1 f0.tidy).by_ f1.tidy
 obtain⟨u,Z2,g,h,f,_⟩:=JM (E:=E) (Nb.lit (Z0:=Z0) a1 f0.le) f01 x1 (by simp;omega)
 exact⟨Z1,u,Z2,e1,g,h,f⟩
theorem ni (hN:3<N):Mq (uT E D W N):=by
 intro Z k ht hk
 obtain⟨N,rfl⟩:∃m,N=m+4:=⟨N-4,by omega⟩
 obtain⟨Z1,e1,f1,a1,n1⟩:=Oy ht [.int .u8 (AA (k % 128))]
 have b1:Nb Z Z1 (.sl Z.next 0 1 (.ex 1)) [AA (k % 128)]:=Nb.lit (l:=[AA (k % 128)]) a1 (AL _)
 have w1:Ap .u8 (AA (k % 128))=AA (k % 128):=Ba (k := .u8) (show k % 128<=255 by omega)
 have an:=Pc (x:=k) (by omega)
 have key0:∀K,V2 E D W K (AA k) Z=K (AA k) (.sl Z.next 0 1 (.ex 1)) Z1:=fun K=>by
  unfold V2
  simp -implicitDefEqProofs only [↓rP,rA,AD,AG,AB,an,w1,↓e1]
 have endd:∀(R:Int->V->H->AH) (j:Nat) (u:V) (Z':H),j<=127->Po E D W (Zx E D W) R (AA j) u Z'=some (u,Z'):=fun R j u Z' hj=>by
  have d:decide (127<j)=false:=decide_eq_false (by omega)
  unfold Po Zx
  simp -implicitDefEqProofs only [↓rP,rA,AD,AG,AB,d]
 cases hd:decide (127<k)with
 | false=>
  have hk':=of_decide_eq_false hd
  refine⟨.sl Z.next 0 1 (.ex 1),Z1,?_,?_,f1⟩
  ·exact(key0 _).trans (endd _ k _ _ (by omega))
  ·unfold SH;rw[hd]
   rw[CH (by omega)]at b1;exact b1
 | true=>
  have hk':=of_decide_eq_true hd
  obtain⟨Z2,u,Z3,e2,g2,h2,f2⟩:=Qo (E:=E) f1 b1 (IY .u8 (AA (k / 128)) (AA 128)) (by simp)
  have an2:=Pc (x:=k / 128) (by omega)
  rw[CH (show k / 128<128 by omega)]at an2
  have w2:Ap .u8 (AA (k / 128))=AA (k / 128):=Ba (k := .u8) (show k / 128<=255 by omega)
  have step:∀K R,Po E D W K R (AA k) (.sl Z.next 0 1 (.ex 1)) Z1=R (AA (k / 128)) u Z3:=fun K R=>by
   unfold Po
   simp -implicitDefEqProofs only [↓rP,rA,AD,AG,AB,hd,nV,an2,w2,↓e2,↓g2,↓Aj h2.1.one]
  refine⟨u,Z3,?_,?_,f2⟩
  ·exact(key0 _).trans ((step _ _).trans (endd _ (k / 128) _ _ (by omega)))
  ·unfold SH;rw[hd];exact h2
theorem oB (hN:3<N):Mq (Xo E D W N):=by
 intro Z k ht hk
 obtain⟨N,rfl⟩:∃m,N=m+4:=⟨N-4,by omega⟩
 obtain⟨Z1,e1,f1,a1,n1⟩:=Oy ht [.int .u8 (AA (k % 128))]
 have b1:Nb Z Z1 (.sl Z.next 0 1 (.ex 1)) [AA (k % 128)]:=Nb.lit (l:=[AA (k % 128)]) a1 (AL _)
 have w1:=PD k
 have an:=ZY (x:=k % 256) (by omega)
 rw[show k % 256 % 128=k % 128 by omega]at an
 have key0:∀K,Q9 E D W K (AA k) Z=K (AA (k / 128)) (.sl Z.next 0 1 (.ex 1)) Z1:=fun K=>by
  unfold Q9
  simp -implicitDefEqProofs only [↓rP,rA,AD,AG,AB,w1,an,↓e1,nV]
 have endd:∀(R:Int->V->H->AH) (u:V) (Z':H),MH E D W (UB E D W) R (AA 0) u Z'=some (u,Z'):=fun R u Z'=>by
  unfold MH UB
  simp -implicitDefEqProofs only [↓rP,rA,AD,AG,AB,FX]
 cases hd:decide (127<k)with
 | false=>
  have hk':=of_decide_eq_false hd
  refine⟨.sl Z.next 0 1 (.ex 1),Z1,?_,?_,f1⟩
  ·simp only[show k / 128=0 by omega]at key0
   exact(key0 _).trans (endd _ _ _)
  ·unfold SH;rw[hd]
   rw[CH (by omega)]at b1;exact b1
 | true=>
  have hk':=of_decide_eq_true hd
  obtain⟨Z2,u,Z3,e2,g2,h2,f2⟩:=Qo (E:=E) f1 b1 (IY .u8 (AA (k / 128)) (AA 128)) (by simp)
  have w2:Ap .u8 (AA (k / 128))=AA (k / 128):=Ba (k := .u8) (show k / 128<=255 by omega)
  have d2:decide (0<k / 128)=true:=decide_eq_true (by omega)
  have s2:k / 128 / 128=0:=by omega
  have step:∀K R,MH E D W K R (AA (k / 128)) (.sl Z.next 0 1 (.ex 1)) Z1=R (AA 0) u Z3:=fun K R=>by
   unfold MH
   simp -implicitDefEqProofs only [↓rP,rA,AD,AG,AB,d2,nV,w2,↓e2,↓g2,↓Aj h2.1.one,s2]
  refine⟨u,Z3,?_,?_,f2⟩
  ·exact(key0 _).trans ((step _ _).trans (endd _ _ _))
  ·unfold SH;rw[hd];exact h2
theorem nh (hN:3<N):Sx (uS E D W N):=by
 intro Z k ht hk
 obtain⟨N,rfl⟩:∃m,N=m+4:=⟨N-4,by omega⟩
 obtain⟨Z1,e1,f1,a1,n1⟩:=Oy ht [.int .u8 (AA (k % 256))]
 have b1:Nb Z Z1 (.sl Z.next 0 1 (.ex 1)) [AA (k % 256)]:=Nb.lit (l:=[AA (k % 256)]) a1 (AL _)
 have w1:=PD k
 have key0:∀K,V1 E D W K (AA k) Z=K (AA k) (.sl Z.next 0 1 (.ex 1)) Z1:=fun K=>by
  unfold V1
  simp -implicitDefEqProofs only [↓rP,rA,AD,AG,AB,w1,↓e1]
 have endd:∀(R:Int->V->H->AH) (j:Nat) (u:V) (Z':H),j<=255->Pn E D W (Zw E D W) R (AA j) u Z'=some (u,Z'):=fun R j u Z' hj=>by
  have d:decide (255<j)=false:=decide_eq_false (by omega)
  unfold Pn Zw
  simp -implicitDefEqProofs only [↓rP,rA,AD,AG,AB,d]
 cases hd:decide (255<k)with
 | false=>
  have hk':=of_decide_eq_false hd
  refine⟨.sl Z.next 0 1 (.ex 1),Z1,?_,?_,f1⟩
  ·exact(key0 _).trans (endd _ k _ _ (by omega))
  ·unfold Gu;rw[hd]
   rw[CH (by omega)]at b1;exact b1
 | true=>
  have hk':=of_decide_eq_true hd
  obtain⟨Z2,u,Z3,e2,g2,h2,f2⟩:=Qo (E:=E) f1 b1 (AA (k / 256)) (by simp)
  have w2:Ap .u8 (AA (k / 256))=AA (k / 256):=Ba (k := .u8) (show k / 256<=255 by omega)
  have step:∀K R,Pn E D W K R (AA k) (.sl Z.next 0 1 (.ex 1)) Z1=R (AA (k / 256)) u Z3:=fun K R=>by
   unfold Pn
   simp -implicitDefEqProofs only [↓rP,rA,AD,AG,AB,hd,AC7,w2,↓e2,↓g2,↓Aj h2.1.one]
  refine⟨u,Z3,?_,?_,f2⟩
  ·exact(key0 _).trans ((step _ _).trans (endd _ (k / 256) _ _ (by omega)))
  ·unfold Gu;rw[hd];exact h2
end
theorem Wz {n:Nat} (h:n<65536):nI (KR n (Gf n))=Gu n:=by
 unfold Gu
 cases hd:decide (255<n)with
 | false=>
  have:=of_decide_eq_false hd
  have e:Gf n=1:=by unfold Gf;rw[if_pos (by omega)]
  rw[e]
  show [AA (n / 2 ^ (8*0) % 256)]=_
  simp only[Nat.mul_zero,Nat.pow_zero,Nat.div_one]
  rw[CH (by omega)]
 | true=>
  have:=of_decide_eq_true hd
  have e:Gf n=2:=by unfold Gf;rw[if_neg (by omega),if_pos (by omega)]
  rw[e]
  show [AA (n / 2 ^ (8*1) % 256),AA (n / 2 ^ (8*0) % 256)]=[AA (n / 256),AA (n % 256)]
  simp only[Nat.mul_zero,Nat.pow_zero,Nat.div_one,CE]
  rw[show (2:Nat) ^ 8=256 from rfl,CH (show n / 256<256 by omega)]
theorem oA {F:List V->H->AH} (h:Kg F):Sx F:=fun {Z n} ht hn=>by
 have:=h (Z:=Z) (x:=n) (by omega) ht
 rw[Wz hn]at this
 exact this
def E0 (pl:Nat->List Int):Nat->Nat->List Int
 | 0,_=>[]
 | m+1,i=>pl i++E0 pl m (i+1)
def Gx (E:EB) (F:List V->H->AH):Prop:=∀{Z:H} {n:Nat} {v:V} {pv:Nat->V} {pl:Nat->List Int},Ao Z->Fj Z 1 n v (fun k=>[pv k])->(∀k,k<n->Bx E Z (pv k) (pl k))->(E0 pl n 0).length<=1000000->n<=10000 ->
 ∃u Z',F [v] Z=some (u,Z')/\Nb Z Z' u (E0 pl n 0)/\Fr AF Z Z'
section
variable {E:EB} {D:Ai} {W:AI} {N:Nat} {Z Z':H}
theorem fp (hN:10000<N):Gx E (Xt E D W N):=by
 intro Z n v pv pl ht hr hp hs hn
 have loop:∀(m n' i:Nat) (A:List Int) (u:V) (Z1:H),i+m=n->m<n'->Fr AF Z Z1->Nb Z Z1 u A->A.length+(E0 pl m i).length<=1000000 ->
   ∃u' Z',RW E D W N n' u v (AA n) (AA i) Z1=some (u',Z')/\Nb Z Z' u' (A++E0 pl m i)/\Fr AF Z Z':=by
  intro m
  induction m with
  | zero=>
   intro n' i A u Z1 hi hn' f1 hu hl
   obtain⟨n',rfl⟩:∃k,n'=k+1:=⟨n'-1,by omega⟩
   refine⟨u,Z1,?_,by rw[show E0 pl 0 i=[] from rfl,CZ];exact hu,f1⟩
   show MM E D W _ _ u v (AA n) (AA i) Z1=_
   unfold MM
   rw[EZ,decide_eq_false (by omega),Cn];rfl
  | succ m ih=>
   intro n' i A u Z1 hi hn' f1 hu hl
   obtain⟨n',rfl⟩:∃k,n'=k+1:=⟨n'-1,by omega⟩
   have hlt:i<n:=by omega
   simp only[E0,AS]at hl
   obtain⟨u2,Z2,g2,h2,f2,_⟩:=JM (E:=E) hu f1 ((hp i hlt).fr f1) (by omega)
   obtain⟨u3,Z3,g3,h3,f3⟩:=ih n' (i+1) (A++pl i) u2 Z2 (by omega) (by omega) f2 h2 (by rw[AS];omega)
   refine⟨u3,Z3,?_,by rw[show E0 pl (m+1) i=pl i++E0 pl m (i+1)from rfl,<-Rf];exact h3,f3⟩
   have rd:∀J,AV 1 v (AA i) (fun b o=>BY E Z1 b o J)=J (pv i):=fun J=>(hr.fr0 f1 ht).one (j:=0) hlt rfl J
   have d1:decide (i<n)=true:=decide_eq_true hlt
   have key:∀K1 K2,MM E D W K1 K2 u v (AA n) (AA i) Z1=K2 u2 v (AA n) (AA (i+1)) Z2:=by
    intro K1 K2
    unfold MM
    simp -implicitDefEqProofs only [↓rP,rA,AD,AG,AB,d1,↓rd,↓g2,↓Aj h2.1.one,CG (show i+1<=9223372036854775807 by omega)]
   exact(key _ _).trans g3
 obtain⟨u,Z',h1,h2,h3⟩:=loop n N 0 [] .nils Z (by omega) (by omega) (Fr.refl ht) (Nb.nil Z Z) (by simpa using hs)
 refine⟨u,Z',?_,h2,h3⟩
 show RD E D W (RW E D W N N) v Z=_
 unfold RD
 rw[hr.len.2]
 exact h1
end
def J4 (c:Nat) (made:Bool):Nat:=(if c=0 then 0 else 128)+(if made=true then 32 else 0)
def Qa (c:Nat) (made:Bool) (k:Nat):List Int:=match decide (k<31)with
 | true=>[IY .u8 (AA (J4 c made)) (AA k)]
 | false=>IY .u8 (AA (J4 c made)) (AA 31)::SH k
def Ys (n:Nat):List Int:=match decide (n<128)with
 | true=>[AA n]
 | false=>IY .u8 (AA 128) (AA (Gu n).length)::Gu n
def Mz (c:Nat) (made:Bool) (k:Nat) (l:List Int):List Int:=(Qa c made k++Ys l.length)++l
theorem I5 (c:Nat) (made:Bool) (k:Nat):(Qa c made k).length<=3:=by
 have:=Ny k
 unfold Qa;split
 ·simp
 ·rw[As];omega
theorem Qu (n:Nat):(Ys n).length<=3:=by
 have:=(Np n).2
 unfold Ys;split
 ·simp
 ·rw[As];omega
theorem gD (c:Nat) (made:Bool) (k:Nat) (l:List Int):(Mz c made k l).length<=l.length+6:=by
 have:=I5 c made k
 have:=Qu l.length
 unfold Mz;rw[AS,AS];omega
theorem mx0 (n:Nat):J2 (AA 0) (AA n)=AA n:=by
 unfold J2
 split
 ·rfl
 ·rename_i h
  have:n=0:=by
   have h:¬((0:Int)<(n:Int)):=h
   omega
  subst this;rfl
theorem mx1 (n:Nat):J2 (AA n) (AA 0)=AA n:=by
 unfold J2;cases n<;>rfl
def Xm (F:List V->H->AH):Prop:=∀{Z:H} {c k n:Nat} (made:Bool),Ao Z->c=0\/c=2->k<16384->n<65536->Gj F [.agg [.int .i64 (AA c),.int .i64 (AA k)],.bool made,.int .i64 (AA n)] Z (Qa c made k++Ys n)
def WB (E:EB) (F:List V->H->AH):Prop:=∀{Z:H} {c k:Nat} {x:V} {l:List Int} (made:Bool),Ao Z->c=0\/c=2->k<16384->l.length<60000->Bx E Z x l->Gj F [.agg [.int .i64 (AA c),.int .i64 (AA k)],.bool made,x] Z (Mz c made k l)
section
variable {E:EB} {D:Ai} {W:AI} {N:Nat} {Z0 Z Z':H}
theorem r_1 (hG:Mq (D 31)) {q c k n:Nat} {made:Bool} (f0:Fr AF Z0 Z) (aq:CM Z q [.int .i64 (AA c),.int .i64 (AA k)]) (hk:k<16384) :
  ∃u Z2,(∀K,Pr E D W K (AA n) q 0 (AA (J4 c made)) Z=K (AA n) u Z2)/\Nb Z0 Z2 u (Qa c made k)/\Fr AF Z0 Z2:=by
 have ht:=f0.tidy
 unfold Qa
 cases hd:decide (k<31)with
 | true=>
  have:=of_decide_eq_true hd
  obtain⟨Z2,e2,f2,a2,n2⟩:=Oy ht (Hv [IY .u8 (AA (J4 c made)) (AA k)])
  have e2':Bn Z (.cells [V.int .u8 (IY .u8 (AA (J4 c made)) (AA k))])=Z2:=e2
  have w1:Ap .u8 (AA k)=AA k:=Ba (k := .u8) (show k<=255 by omega)
  refine⟨.sl Z.next 0 1 (.ex 1),Z2,fun K=>?_,Nb.lit a2 f0.le,f0.trans f2 (fun _ _ h=>h)⟩
  unfold Pr
  simp -implicitDefEqProofs only [↓rP,rA,AD,AG,AB,↓BK aq,mx0,hd,w1,↓e2']
 | false=>
  obtain⟨Z2,e2,f2,a2,n2⟩:=Oy ht (Hv [IY .u8 (AA (J4 c made)) (AA 31)])
  have e2':Bn Z (.cells [V.int .u8 (IY .u8 (AA (J4 c made)) (AA 31))])=Z2:=e2
  have w1:Ap .u64 (AA k)=AA k:=Ba (k := .u64) (show k<=18446744073709551615 by omega)
  have f02:=f0.trans f2 (fun _ _ h=>h)
  obtain⟨u3,Z3,g3,h3,f3⟩:=hG f2.tidy hk
  have f03:=f02.trans f3 (fun _ _ h=>h)
  have b2:Nb Z0 Z2 (.sl Z.next 0 1 (.ex 1)) [IY .u8 (AA (J4 c made)) (AA 31)]:=Nb.lit a2 f0.le
  have:=Ny k
  obtain⟨u4,Z4,g4,h4,f4,_⟩:=JM (E:=E) (b2.fr f3 f2.tidy) f03 (Bx.of h3.by_ f3.tidy) (by simp;omega)
  refine⟨u4,Z4,fun K=>?_,h4,f4⟩
  unfold Pr
  simp -implicitDefEqProofs only [↓rP,rA,AD,AG,AB,↓BK aq,mx0,hd,w1,↓e2',↓g3,↓Aj h3.1.one,↓g4,↓Aj h4.1.one]
theorem r_2 (hL:Sx (D 32)) {n:Nat} {u:V} {A:List Int} (f0:Fr AF Z0 Z) (hu:Nb Z0 Z u A) (hA:A.length<=10) (hn:n<65536) :
  ∃u' Z2,Pq E D W (AA n) u Z=some (u',Z2)/\Nb Z0 Z2 u' (A++Ys n)/\Fr AF Z0 Z2:=by
 have ht:=f0.tidy
 unfold Ys
 cases hd:decide (n<128)with
 | true=>
  have:=of_decide_eq_true hd
  obtain⟨Z2,e2,f2,a2,n2⟩:=Oy ht (Hv [AA n])
  have e2':Bn Z (.cells [V.int .u8 (AA n)])=Z2:=e2
  have w1:Ap .u8 (AA n)=AA n:=Ba (k := .u8) (show n<=255 by omega)
  have f02:=f0.trans f2 (fun _ _ h=>h)
  obtain⟨u4,Z4,g4,h4,f4,_⟩:=JM (E:=E) (hu.fr f2 ht) f02 (Bx.of (Nb.lit (Z0:=Z) (l:=[AA n]) a2 (AL _)).by_ f2.tidy) (by simp;omega)
  refine⟨u4,Z4,?_,h4,f4⟩
  have g4:∀J:V->H->AH,C8 E 1 1 u (.sl Z.next 0 1 (.ex 1)) Z2 J=J u4 Z4:=g4
  unfold Pq
  simp -implicitDefEqProofs only [↓rP,rA,AD,AG,AB,mx0,hd,w1,↓e2',↓g4,↓Aj h4.1.one]
 | false=>
  have w1:Ap .u64 (AA n)=AA n:=Ba (k := .u64) (show n<=18446744073709551615 by omega)
  obtain⟨u3,Z3,g3,h3,f3⟩:=hL ht hn
  have f03:=f0.trans f3 (fun _ _ h=>h)
  have ll:=Np n
  have w2:Ap .u8 (AA (Gu n).length)=AA (Gu n).length:=Ba (k := .u8) (show (Gu n).length<=255 by omega)
  obtain⟨Z4,e4,f4,a4,n4⟩:=Oy f3.tidy (Hv [IY .u8 (AA 128) (AA (Gu n).length)])
  have e4':Bn Z3 (.cells [V.int .u8 (IY .u8 (AA 128) (AA (Gu n).length))])=Z4:=e4
  have f04:=f03.trans f4 (fun _ _ h=>h)
  have hu4:=(hu.fr f3 ht).fr f4 f3.tidy
  obtain⟨u5,Z5,g5,h5,f5,f5'⟩:=JM (E:=E) hu4 f04 (Bx.of (Nb.lit (Z0:=Z3) (l:=[IY .u8 (AA 128) (AA (Gu n).length)]) a4 (AL _)).by_ f4.tidy) (by simp;omega)
  have g5:∀J:V->H->AH,C8 E 1 1 u (.sl Z3.next 0 1 (.ex 1)) Z4 J=J u5 Z5:=g5
  have b3:By Z5 u3 (Gu n):=HN.fr (h3.fr f4 f3.tidy).by_ f5' f4.tidy (fun b hb e=>by have:=h3.2 b hb;have:=hu.1.lt ht e;omega)
  obtain⟨u6,Z6,g6,h6,f6,_⟩:=JM (E:=E) h5 f5 (Bx.of b3 f5.tidy) (by simp;omega)
  have sl:=h3.by_.slen
  refine⟨u6,Z6,?_,?_,f6⟩
  ·unfold Pq
   simp -implicitDefEqProofs only [↓rP,rA,AD,AG,AB,mx0,hd,w1,↓g3,↓Aj h3.1.one,↓sl,w2,↓e4',↓g5,↓Aj h5.1.one,↓g6,↓Aj h6.1.one]
  ·rw[Rf]at h6;exact h6
theorem fB (hG:Mq (D 31)) (hL:Sx (D 32)):Xm (jV E D W N):=by
 intro Z c k n made ht hc hk hn
 obtain⟨Z1,e1,f1,a1,n1⟩:=Oy ht [.int .i64 (AA c),.int .i64 (AA k)]
 obtain⟨u2,Z2,g2,h2,f2⟩:=r_1 (E:=E) (W:=W) (n:=n) (c:=c) (made:=made) hG f1 a1 hk
 have tl:=I5 c made k
 obtain⟨u3,Z3,g3,h3,f3⟩:=r_2 (E:=E) (W:=W) hL f2 h2 (by omega) hn
 refine⟨u3,Z3,?_,h3,f3⟩
 have tail:Pr E D W (Pq E D W) (AA n) Z.next 0 (AA (J4 c made)) Z1=some (u3,Z3):=(g2 _).trans g3
 show aI E D W (Pr E D W (Pq E D W)) (AA c) (AA k) made (AA n) Z=_
 unfold aI
 simp -implicitDefEqProofs only [↓rP,rS,↓e1,↓BK a1]
 rcases hc with rfl|rfl<;>cases made
 ·exact tail
 ·exact tail
 ·exact tail
 ·exact tail
theorem fE (hH:Xm (D 14)):WB E (F8 E D W N):=by
 intro Z c k x l made ht hc hk hl hx
 obtain⟨Z1,e1,f1,a1,n1⟩:=Oy ht [.int .i64 (AA c),.int .i64 (AA k)]
 obtain⟨u2,Z2,g2,h2,f2⟩:=hH (Z:=Z1) (n:=l.length) made f1.tidy hc hk (by omega)
 have f02:=f1.trans f2 (fun _ _ h=>h)
 have tl:=I5 c made k
 have ll:=Qu l.length
 have h2':Nb Z Z2 u2 (Qa c made k++Ys l.length):=h2.mono f1.le
 obtain⟨u3,Z3,g3,h3,f3,_⟩:=JM (E:=E) h2' f02 (hx.fr f02) (by rw[AS];omega)
 refine⟨u3,Z3,?_,h3,f3⟩
 have hs:=hx.s
 show o0 E D W (AA c) (AA k) made x Z=_
 unfold o0
 simp -implicitDefEqProofs only [↓rP,rS,↓e1,↓Az a1,↓hs,↓g2,↓g3,↓Aj h2.1.one,↓Aj h3.1.one]
end
theorem YI {Z:H} {b:Nat} {v:V} (h:CM Z b [v]):Fj Z 1 1 (.sl b 0 1 (.ex 1)) (fun _=>[v]):=⟨.inr ⟨b,_,_,rfl,h,fun k hk=>by
 obtain rfl:k=0:=by omega
 exact⟨AL _,rfl⟩⟩⟩
theorem vG {Z:H} {b:Nat} {v w:V} (h:CM Z b [v,w]):Fj Z 1 2 (.sl b 0 2 (.ex 2)) (fun k=>[if k=0 then v else w]):=⟨.inr ⟨b,_,_,rfl,h,fun k hk=>by
 have:k=0\/k=1:=by omega
 rcases this with rfl|rfl
 ·exact⟨by simp,rfl⟩
 ·exact⟨by simp,rfl⟩⟩⟩
theorem vF {Z:H} {b:Nat} {v w x:V} (h:CM Z b [v,w,x]):Fj Z 1 3 (.sl b 0 3 (.ex 3)) (fun k=>[if k=0 then v else if k=1 then w else x]):=⟨.inr ⟨b,_,_,rfl,h,fun k hk=>by
 have:k=0\/k=1\/k=2:=by omega
 rcases this with rfl|rfl|rfl
 ·exact⟨by simp,rfl⟩
 ·exact⟨by simp,rfl⟩
 ·exact⟨by simp,rfl⟩⟩⟩
def az (E:EB) (F:List V->H->AH):Prop:=∀{Z:H} {c k n:Nat} {v:V} {pv:Nat->V} {pl:Nat->List Int} (made:Bool),Ao Z->c=0\/c=2->k<16384->Fj Z 1 n v (fun k=>[pv k])->(∀k,k<n->Bx E Z (pv k) (pl k))->(E0 pl n 0).length<60000->n<=10000->Gj F [.agg [.int .i64 (AA c),.int .i64 (AA k)],.bool made,v] Z (Mz c made k (E0 pl n 0))
section
variable {E:EB} {D:Ai} {W:AI} {N:Nat} {Z0 Z Z':H}
theorem jm (hJ:Gx E (D 105)) (f0:Fr AF Z0 Z) {u w:V} {A B:List Int} (hu:Bx E Z u A) (hw:Bx E Z w B) (hl:A.length+B.length<=100000) :
  ∃Z1 x Z2,Bn Z (.cells [u,w])=Z1/\D 105 [.sl Z.next 0 2 (.ex 2)] Z1=some (x,Z2)/\Nb Z0 Z2 x (A++B)/\Fr AF Z0 Z2:=by
 obtain⟨Z1,e1,f1,a1,n1⟩:=Oy f0.tidy [u,w]
 obtain⟨x,Z2,g,h,f⟩:=hJ (Z:=Z1) (n:=2) (pv:=fun q=>if q=0 then u else w) (pl:=fun q=>if q=0 then A else B) f1.tidy (vG a1) (fun q hq=>by
  have:q=0\/q=1:=by omega
  rcases this with rfl|rfl
  ·exact hu.fr f1
  ·exact hw.fr f1) (by simp[E0];omega) (by omega)
 have f01:=f0.trans f1 (fun _ _ h=>h)
 refine⟨Z1,x,Z2,e1,g,?_,f01.trans f (fun _ _ h=>h)⟩
 have e:E0 (fun q=>if q=0 then A else B) 2 0=A++B:=by simp[E0]
 rw[e]at h
 exact h.mono f01.le
theorem vj (hJ:Gx E (D 105)) (f0:Fr AF Z0 Z) {u w y:V} {A B C:List Int} (hu:Bx E Z u A) (hw:Bx E Z w B) (hy:Bx E Z y C) (hl:A.length+B.length+C.length<=100000) :
  ∃Z1 x Z2,Bn Z (.cells [u,w,y])=Z1/\D 105 [.sl Z.next 0 3 (.ex 3)] Z1=some (x,Z2)/\Nb Z0 Z2 x (A++(B++C))/\Fr AF Z0 Z2:=by
 obtain⟨Z1,e1,f1,a1,n1⟩:=Oy f0.tidy [u,w,y]
 obtain⟨x,Z2,g,h,f⟩:=hJ (Z:=Z1) (n:=3) (pv:=fun q=>if q=0 then u else if q=1 then w else y) (pl:=fun q=>if q=0 then A else if q=1 then B else C) f1.tidy (vF a1) (fun q hq=>by
  have:q=0\/q=1\/q=2:=by omega
  rcases this with rfl|rfl|rfl
  ·exact hu.fr f1
  ·exact hw.fr f1
  ·exact hy.fr f1) (by simp[E0];omega) (by omega)
 have f01:=f0.trans f1 (fun _ _ h=>h)
 refine⟨Z1,x,Z2,e1,g,?_,f01.trans f (fun _ _ h=>h)⟩
 have e:E0 (fun q=>if q=0 then A else if q=1 then B else C) 3 0=A++(B++C):=by simp[E0]
 rw[e]at h
 exact h.mono f01.le
theorem o_1 (hJ:Gx E (D 105)) (hG:Mq (D 152)) {q c k n:Nat} {made:Bool} (f0:Fr AF Z0 Z) (aq:CM Z q [.int .i64 (AA c),.int .i64 (AA k)]) (hk:k<16384) :
  ∃u Z2,(∀K,MJ E D W K (AA n) q 0 (AA (J4 c made)) Z=K (AA n) u Z2)/\Nb Z0 Z2 u (Qa c made k)/\Fr AF Z0 Z2:=by
 have ht:=f0.tidy
 unfold Qa
 cases hd:decide (k<31)with
 | true=>
  have:=of_decide_eq_true hd
  obtain⟨Z2,e2,f2,a2,n2⟩:=Oy ht (Hv [IY .u8 (AA (J4 c made)) (AA k)])
  have e2':Bn Z (.cells [V.int .u8 (IY .u8 (AA (J4 c made)) (AA k))])=Z2:=e2
  have w1:Ap .u8 (AA k)=AA k:=Ba (k := .u8) (show k<=255 by omega)
  refine⟨.sl Z.next 0 1 (.ex 1),Z2,fun K=>?_,Nb.lit a2 f0.le,f0.trans f2 (fun _ _ h=>h)⟩
  unfold MJ
  simp -implicitDefEqProofs only [↓rP,rA,AD,AG,AB,↓BK aq,mx1,hd,w1,↓e2']
 | false=>
  obtain⟨Z2,e2,f2,a2,n2⟩:=Oy ht (Hv [IY .u8 (AA (J4 c made)) (AA 31)])
  have e2':Bn Z (.cells [V.int .u8 (IY .u8 (AA (J4 c made)) (AA 31))])=Z2:=e2
  have w1:Ap .u64 (AA k)=AA k:=Ba (k := .u64) (show k<=18446744073709551615 by omega)
  have f02:=f0.trans f2 (fun _ _ h=>h)
  obtain⟨u3,Z3,g3,h3,f3⟩:=hG f2.tidy hk
  have f03:=f02.trans f3 (fun _ _ h=>h)
  have b2:Nb Z Z2 (.sl Z.next 0 1 (.ex 1)) [IY .u8 (AA (J4 c made)) (AA 31)]:=Nb.lit a2 (AL _)
  have:=Ny k
  obtain⟨Z4,u5,Z5,e4,g5,h5,f5⟩:=jm (D:=D) hJ f03 (Bx.of (b2.fr f3 f2.tidy).by_ f3.tidy) (Bx.of h3.by_ f3.tidy) (by simp;omega)
  refine⟨u5,Z5,fun K=>?_,h5,f5⟩
  have o3:=h3.1.one
  unfold MJ
  simp -implicitDefEqProofs only [↓rP,rA,AD,AG,AB,↓BK aq,mx1,hd,w1,↓e2',↓g3,↓Aj o3,↓jq (show (V.sl Z.next 0 1 (.ex 1)).one=true from rfl) o3,o3,↓e4,↓g5,↓Aj h5.1.one]
theorem o_2 (hJ:Gx E (D 105)) (hL:Sx (D 153)) {n:Nat} {u:V} {A:List Int} (f0:Fr AF Z0 Z) (hu:Nb Z0 Z u A) (hA:A.length<=10) (hn:n<65536) :
  ∃u' Z2,MI E D W (AA n) u Z=some (u',Z2)/\Nb Z0 Z2 u' (A++Ys n)/\Fr AF Z0 Z2:=by
 have ht:=f0.tidy
 unfold Ys
 cases hd:decide (n<128)with
 | true=>
  have:=of_decide_eq_true hd
  obtain⟨Z2,e2,f2,a2,n2⟩:=Oy ht (Hv [AA n])
  have e2':Bn Z (.cells [V.int .u8 (AA n)])=Z2:=e2
  have w1:Ap .u8 (AA n)=AA n:=Ba (k := .u8) (show n<=255 by omega)
  have f02:=f0.trans f2 (fun _ _ h=>h)
  obtain⟨u4,Z4,g4,h4,f4,_⟩:=JM (E:=E) (hu.fr f2 ht) f02 (Bx.of (Nb.lit (Z0:=Z) (l:=[AA n]) a2 (AL _)).by_ f2.tidy) (by simp;omega)
  refine⟨u4,Z4,?_,h4,f4⟩
  have g4:∀J:V->H->AH,C8 E 1 1 u (.sl Z.next 0 1 (.ex 1)) Z2 J=J u4 Z4:=g4
  unfold MI
  simp -implicitDefEqProofs only [↓rP,rA,AD,AG,AB,mx1,hd,w1,↓e2',↓g4,↓Aj h4.1.one]
 | false=>
  have w1:Ap .u64 (AA n)=AA n:=Ba (k := .u64) (show n<=18446744073709551615 by omega)
  obtain⟨u3,Z3,g3,h3,f3⟩:=hL ht hn
  have f03:=f0.trans f3 (fun _ _ h=>h)
  have ll:=Np n
  have w2:Ap .u8 (AA (Gu n).length)=AA (Gu n).length:=Ba (k := .u8) (show (Gu n).length<=255 by omega)
  obtain⟨Z4,e4,f4,a4,n4⟩:=Oy f3.tidy (Hv [IY .u8 (AA 128) (AA (Gu n).length)])
  have e4':Bn Z3 (.cells [V.int .u8 (IY .u8 (AA 128) (AA (Gu n).length))])=Z4:=e4
  have f04:=f03.trans f4 (fun _ _ h=>h)
  have hu4:=(hu.fr f3 ht).fr f4 f3.tidy
  have b4:Bx E Z4 (.sl Z3.next 0 1 (.ex 1)) [IY .u8 (AA 128) (AA (Gu n).length)]:=Bx.of (Nb.lit (Z0:=Z3) (l:=[IY .u8 (AA 128) (AA (Gu n).length)]) a4 (AL _)).by_ f4.tidy
  obtain⟨Z5,u6,Z6,e5,g6,h6,f6⟩:=vj (D:=D) hJ f04 (Bx.of hu4.by_ f4.tidy) b4 (Bx.of (h3.fr f4 f3.tidy).by_ f4.tidy) (by simp;omega)
  have sl:=h3.by_.slen
  have o3:=h3.1.one
  have ou:=hu.1.one
  refine⟨u6,Z6,?_,h6,f6⟩
  unfold MI
  simp -implicitDefEqProofs only [↓rP,rA,AD,AG,AB,mx1,hd,w1,↓g3,↓Aj o3,↓sl,w2,↓e4',↓v5 ou (show (V.sl Z3.next 0 1 (.ex 1)).one=true from rfl) o3,ou,o3,↓e5,↓g6,↓Aj h6.1.one]
theorem fQ (hJ:Gx E (D 105)) (hG:Mq (D 152)) (hL:Sx (D 153)):Xm (dU E D W N):=by
 intro Z c k n made ht hc hk hn
 obtain⟨Z1,e1,f1,a1,n1⟩:=Oy ht [.int .i64 (AA c),.int .i64 (AA k)]
 obtain⟨u2,Z2,g2,h2,f2⟩:=o_1 (E:=E) (W:=W) (n:=n) (c:=c) (made:=made) hJ hG f1 a1 hk
 have tl:=I5 c made k
 obtain⟨u3,Z3,g3,h3,f3⟩:=o_2 (E:=E) (W:=W) hJ hL f2 h2 (by omega) hn
 refine⟨u3,Z3,?_,h3,f3⟩
 have tail:MJ E D W (MI E D W) (AA n) Z.next 0 (AA (J4 c made)) Z1=some (u3,Z3):=(g2 _).trans g3
 show UC E D W (MJ E D W (MI E D W)) (AA c) (AA k) made (AA n) Z=_
 unfold UC
 simp -implicitDefEqProofs only [↓rP,rS,↓e1,↓BK a1]
 rcases hc with rfl|rfl<;>cases made
 ·exact tail
 ·exact tail
 ·exact tail
 ·exact tail
theorem vV (hJ:Gx E (D 105)) (hH:Xm (D 129)):az E (dZ E D W N):=by
 intro Z c k n v pv pl made ht hc hk hr hp hl hn
 obtain⟨Z1,e1,f1,a1,n1⟩:=Oy ht [.int .i64 (AA c),.int .i64 (AA k)]
 obtain⟨u2,Z2,g2,h2,f2⟩:=hJ f1.tidy (hr.fr0 f1 ht) (fun k hk=>(hp k hk).fr f1) (by omega) hn
 have f02:=f1.trans f2 (fun _ _ h=>h)
 have a12:=f2.at_ a1 f1.tidy (fun h=>h)
 obtain⟨u3,Z3,g3,h3,f3⟩:=hH (Z:=Z2) (n:=(E0 pl n 0).length) made f2.tidy hc hk (by omega)
 have f03:=f02.trans f3 (fun _ _ h=>h)
 have tl:=I5 c made k
 have ll:=Qu (E0 pl n 0).length
 obtain⟨Z4,u5,Z5,e4,g5,h5,f5⟩:=jm (D:=D) hJ f03 (Bx.of h3.by_ f3.tidy) (Bx.of (h2.fr f3 f2.tidy).by_ f3.tidy) (by rw[AS];omega)
 refine⟨u5,Z5,?_,h5,f5⟩
 have sl:=h2.by_.slen
 have o2:=h2.1.one
 have o3:=h3.1.one
 show UI E D W (AA c) (AA k) made v Z=_
 unfold UI
 simp -implicitDefEqProofs only [↓rP,rS,hr.len.1,↓e1,↓Az a12,↓sl,↓g2,↓g3,↓jq o3 o2,o3,o2,↓e4,↓g5,↓Aj o2,↓Aj o3,↓Aj h5.1.one]
end
def nQ (l:List (Nat × Nat)):List V:=l.flatMap fun t=>[.int .i64 (AA t.1),.int .i64 (AA t.2)]
structure jv (Z:H) (l:List (Nat × Nat)) (v:V):Prop where
 s:HN Z 2 l.length v (nQ l)
 e:l.length=1->∃b,v = .sl b 0 1 (.ex 1)
section
variable {Z Z':H} {l:List (Nat × Nat)} {v:V}
theorem jv.fr {S:Nat->Prop} (h:jv Z l v) (f:Fr S Z Z') (ht:Ao Z) (hn:∀b,A0 v b->¬S b):jv Z' l v:=⟨h.s.fr f ht hn,h.e⟩
end
theorem Qg {E:EB} {Z:H} {l:List (Nat × Nat)} {v:V} (h:HN Z 2 l.length v (nQ l)) {i:Nat} {t:Nat × Nat} (hi:l[i]? = some t) (hl:l.length<=2) (J:List V->AH) :
  AV 2 v (AA i) (fun b o=>BP E Z b o 2 J)=J [.int .i64 (AA t.1),.int .i64 (AA t.2)]:=by
 have hlt:i<l.length:=(BE.1 hi).1
 rcases h with ⟨h0,_⟩|⟨b,o,c,L,rfl,ha,hle,hm⟩
 ·omega
 ·rw[Di hlt,Az ha]
  show GN L (o+i*2) 2 J=_
  rw[Jd (by omega)]
  congr 1
  have e:(L.drop (o+i*2)).take 2=((nQ l).drop (i*2)).take 2:=by
   rw[hm,tz,Re,List.take_take,Gq (by omega)]
  rw[e]
  match l,hl with
  | [],_=>simp at hlt
  | [a],_=>
   have:i=0:=by simpa using hlt
   subst this
   cases hi;rfl
  | [a,b],_=>
   have:i=0\/i=1:=by simp at hlt;omega
   rcases this with rfl|rfl<;>(cases hi;rfl)
  | _::_::_::_,h=>simp at h
def SA (made:Bool):List (Nat × Nat)->List Int->List Int
 | [],x=>x
 | [t],x=>Mz t.1 made t.2 x
 | t::s::_,x=>Mz t.1 true t.2 (Mz s.1 made s.2 x)
def Vo (l:List (Nat × Nat)):Prop:=(l.length=1\/l.length=2)/\∀t∈l,(t.1=0\/t.1=2)/\t.2<16384
def hU (E:EB) (F:List V->H->AH):Prop:=∀{Z:H} {l:List (Nat × Nat)} {tv v p:V} {x:List Int} (made:Bool),Ao Z->HN Z 2 l.length tv (nQ l)->Vo l->Fj Z 1 1 v (fun _=>[p])->Bx E Z p x->x.length<50000->Gj F [tv,.bool made,v] Z (SA made l x)
section
variable {E:EB} {D:Ai} {W:AI} {N:Nat}
end
section
variable {E:EB} {D:Ai} {W:AI} {N:Nat} {Z Z':H}
theorem YB {l:List (Nat × Nat)} {v:V} (h:jv Z l v):V.beq v v=true:=by
 rcases h.s with ⟨_,rfl,_⟩|⟨b,o,c,L,rfl,_⟩<;>exact CX _ rfl
theorem ZD (hS:GZ (D 59)) (hW:hU E (D 71)) {v:Int} (hv:DQ v) {x:Ty} {tl:List (Nat × Nat)} (ht:Ao Z) {b5 b7:Nat} (a5:CM Z b5 (W9 v)) (a7:CM Z b7 x.c) (hT:jv Z tl x.tags) (hok:Vo tl) :
    ∃env u Z',AT E D P5 TA [(5,.ptr b5 0),(7,.ptr b7 0)] Z=some (env,Z')/\Go.Og.look env 6=some u/\Nb Z Z' u (SA false tl (nI (KR (TQ v) (C4 v))))/\Fr AF Z Z':=by
  obtain⟨u1,Z1,g1,h1,f1⟩:=hS (Z:=⟨Z.next+8,Z.bl⟩) hv (ht.wide 8)
  have le1:Z.next+8<=Z1.next:=f1.le
  have f01:Fr AF Z Z1:=f1.wide
  have ln:=(C7 v).2
  have fb:Fr AF Z ⟨Z1.next,(Z.next+5,.cells [u1])::Z1.bl⟩:=⟨fun c hc=>by
    have hc:Z1.next<=c:=hc
    show BG ((Z.next+5,_)::Z1.bl) c=none
    rw[Av,if_neg (by simp only[];omega)];exact f1.tidy c hc,f01.le,fun c hc _=>by
    show BG ((Z.next+5,_)::Z1.bl) c=_
    rw[Av,if_neg (by simp only[];omega)];exact f01.same c hc (fun h=>h)⟩
  have ab:CM ⟨Z1.next,(Z.next+5,.cells [u1])::Z1.bl⟩ (Z.next+5) [u1]:=by
    show BG ((Z.next+5,_)::Z1.bl) _=_
    rw[Av,if_pos rfl]
  have hu:By ⟨Z1.next,(Z.next+5,.cells [u1])::Z1.bl⟩ u1 (nI (KR (TQ v) (C4 v))):=by
    have hs:=h1.by_
    rcases hs with h|⟨b,o,c,L,rfl,ha,hl,hm⟩
    · exact .inl h
    · have hb:Z.next+8<=b:=h1.2 b rfl
      refine .inr ⟨b,o,c,L,rfl,?_,hl,hm⟩
      show BG ((Z.next+5,_)::Z1.bl) b=_
      rw[Av,if_neg (by simp only[];omega)];exact ha
  obtain⟨u2,Z2,g2,h2,f2⟩:=hW (Z:=⟨Z1.next,(Z.next+5,.cells [u1])::Z1.bl⟩) (v := .sl (Z.next+5) 0 1 (.ex 1)) (p:=u1) false fb.tidy (hT.s.fr fb ht (fun _ _ h=>h)) hok (YI ab) (Bx.of hu fb.tidy) (by rw[B9,JC];omega)
  have go:E8 E D Z 8 0 AF P5 TA ⟨[(5,.ptr b5 0),(7,.ptr b7 0)],Z.next+8,[Z.bl],[],0,[]⟩ _ Z2:=
    Cp (.ptr b7 1) rfl rfl <|
    J3 x.tags (CW ht) rfl (EE (b:=b7) (off:=1) rfl a7 rfl ht (fun h=>h) (YB hT)) fun _ r1=>
    Cp (.ptr b5 1) rfl rfl <|
    J3 (.int .i64 v) r1 rfl (EE (b:=b5) (off:=1) rfl a5 rfl ht (fun h=>h) (CX _ rfl)) fun _ r2=>
    KU u1 r2 rfl (by decide) f1 (fun _ _ h=>h) (fun _ h _ _=>h) g1 fun _ _ _ r3=>
    XG (.sl (Z.next+5) 0 1 (.ex 1)) (.cells [u1]) 32 r3 rfl (by decide) (by decide) (T2 rfl h1.1.one) fun _ r4=>
    KU u2 r4 rfl (by decide) f2 (fun _ _ h=>h) (fun _ h _ _=>h) (D3 (vs:=[x.tags,.bool false,.sl (Z.next+5) 0 1 (.ex 1)]) rfl (by rw[Bh,Bb x.oneT];rfl) g2) fun _ _ _ r5=>
    Cp u2 rfl (EJ rfl (Bb h2.1.one)) <|
    Hx r5
  obtain⟨d1,d2⟩:=GK (ops:=P5) go
  exact⟨_,u2,Z2,d1,rfl,h2.mono f01.le,d2⟩
end
inductive Lf (E:EB) (Z:H):Vc->List Int->Prop
 | b1:Lf E Z ⟨AA 1,AA 1,.nils,.nils,AA 0,.nils,rfl,rfl,rfl⟩ [AA 255]
 | b0:Lf E Z ⟨AA 1,AA 0,.nils,.nils,AA 0,.nils,rfl,rfl,rfl⟩ [AA 0]
 | int {n:Int} (h:DQ n):Lf E Z (Vc.int n) (nI (KR (TQ n) (C4 n)))
 | oct {b:V} {hb:b.one=true} {x:List Int} (h:Bx E Z b x) (hl:x.length<=40000):Lf E Z ⟨AA 5,AA 0,b,.nils,AA 0,.nils,hb,rfl,rfl⟩ x
 | nul:Lf E Z ⟨AA 4,AA 0,.nils,.nils,AA 0,.nils,rfl,rfl,rfl⟩ []
theorem Lf.fr {E:EB} {Z Z':H} {v:Vc} {x:List Int} (h:Lf E Z v x) (f:Fr AF Z Z'):Lf E Z' v x:=by
 cases h with
 | b1=>exact .b1
 | b0=>exact .b0
 | int h=>exact .int h
 | oct h hl=>exact .oct (h.fr f) hl
 | nul=>exact .nul
def pX (E:EB) (F:List V->H->AH):Prop:=∀{Z:H} {p nT i:Nat} {ty:Nat->Ty} {nm:BS} {nv rv tv:V} {v:Vc} {x:List Int} {tl:List (Nat × Nat)},Ao Z->Ck Z p nT ty nm nv rv tv []->i<nT->(ty i).kind=v.k->jv Z tl (ty i).tags->Vo tl->Lf E Z v x ->
 Gj F [.ptr p 0,.int .i64 (AA i),.agg v.c] Z (SA false tl x)
theorem fU (E:EB) (Z:H):Bx E Z .nils []:=⟨fun _=>rfl,rfl,rfl,rfl,fun _=>rfl,fun _ h=>h.elim⟩
section
variable {E:EB} {D:Ai} {N:Nat}
theorem gH (hS:GZ (D 59)) (hW:hU E (D 71)):pX E (sx E D (AT E D) N):=by
 intro Z p nT i ty nm nv rv tv v x tl ht hc hi hk hT hok hv
 obtain⟨Z1,e1,f1,a1,n1⟩:=Cg ht v.c
 have c1:=hc.fr f1 ht
 have rd:∀J,AV 13 tv (AA i) (fun b o=>BP E Z1 b o 13 J)=J (ty i).c:=fun J=>c1.row.all hi J
 obtain⟨Z2,e2,f2,a2,n2⟩:=Cg f1.tidy [.int .i64 (AA 0),.nils,.bool false,.bool false,.bool false,.bool false,.int .i64 (AA 0),.int .i64 (AA 0),.nils,.nils,.int .i64 (AA 0),.bool false,.int .i64 (AA 0)]
 obtain⟨Z3,e3,f3,a3⟩:=Yo f2.tidy a2 (ty i).c
 have f02:=f1.trans f2 (fun _ _ h=>h)
 have le1:=f1.le
 have f03:Fr AF Z Z3:=f02.trans f3 (fun c hc h=>by have h:c=Z1.next:=h;omega)
 have a13:CM Z3 Z.next v.c:=f3.at_ (f2.at_ a1 f1.tidy (fun h=>h)) f2.tidy (by show ¬Z.next=Z1.next;omega)
 have st:∀J:H->AH,Fg 13 Z1.next 0 (.agg (ty i).c) Z2 J=J Z3:=fun J=>by
  rw[TS a2 (by unfold Ty.c;simp[Ec,Bk,B4,ED,FE,(ty i).oneT,(ty i).oneI,(ty i).oneF])]
  show J (O5 Z2 Z1.next (.cells (ty i).c))=_
  rw[e3]
 have hT3:=hT.fr f03 ht (fun _ _ h=>h)
 have ttp:=fun J=>c1.types (E:=E) (J:=J)
 have put:∀(Z0:H) (q:V),Fr AF Z Z0->q.one=true->Bx E Z0 q x->x.length<=40000->∃Z4 u Z5,Bn Z0 (.cells [q])=Z4/\D 71 [(ty i).tags,.bool false,.sl Z0.next 0 1 (.ex 1)] Z4=some (u,Z5)/\Nb Z Z5 u (SA false tl x)/\Fr AF Z Z5:=fun Z0 q f0 ho hb hl=>by
  obtain⟨Z4,e4,f4,a4,n4⟩:=Oy f0.tidy [q]
  have f04:=f0.trans f4 (fun _ _ h=>h)
  obtain⟨u,Z5,g5,h5,f5⟩:=hW (Z:=Z4) (p:=q) false f4.tidy (hT.fr f04 ht (fun _ _ h=>h)).s hok (YI a4) (hb.fr f4) (by omega)
  exact⟨Z4,u,Z5,e4,g5,h5.mono f04.le,f04.trans f5 (fun _ _ h=>h)⟩
 show ∃u Z',Hc E D (AT E D) (Wg E D (AT E D) N) p 0 (AA i) v.k v.n v.b v.l v.r v.m Z=some (u,Z')/\_
 have hv3:=hv.fr f03
 unfold Vc.c at e1 a13
 unfold Ty.c at rd st a3
 cases hv with
 | b1=>
  have hk:(ty i).kind=AA 1:=hk
  obtain⟨Z4,e4,f4,a4,n4⟩:=Oy f3.tidy (Hv [AA 255])
  have e4':Bn Z3 (.cells [V.int .u8 (AA 255)])=Z4:=e4
  obtain⟨Z5,u,Z6,e5,g6,h6,f6⟩:=put Z4 (.sl Z3.next 0 1 (.ex 1)) (f03.trans f4 (fun _ _ h=>h)) rfl (Bx.of (Nb.lit (Z0:=Z3) (l:=[AA 255]) a4 (AL _)).by_ f4.tidy) (by simp)
  refine⟨u,Z6,?_,h6,f6⟩
  have o6:=h6.1.one
  unfold Hc
  simp -implicitDefEqProofs only [↓rP,rA,AD,AG,AB,↓e1,↓ttp,↓rd,(ty i).oneT,(ty i).oneI,(ty i).oneF,↓e2,↓st,↓BK a3,hk,↓BK a13,↓e4',↓e5,↓g6,↓Aj o6]
 | b0=>
  have hk:(ty i).kind=AA 1:=hk
  obtain⟨Z4,e4,f4,a4,n4⟩:=Oy f3.tidy (Hv [AA 0])
  have e4':Bn Z3 (.cells [V.int .u8 (AA 0)])=Z4:=e4
  obtain⟨Z5,u,Z6,e5,g6,h6,f6⟩:=put Z4 (.sl Z3.next 0 1 (.ex 1)) (f03.trans f4 (fun _ _ h=>h)) rfl (Bx.of (Nb.lit (Z0:=Z3) (l:=[AA 0]) a4 (AL _)).by_ f4.tidy) (by simp)
  refine⟨u,Z6,?_,h6,f6⟩
  have o6:=h6.1.one
  unfold Hc
  simp -implicitDefEqProofs only [↓rP,rA,AD,AG,AB,↓e1,↓ttp,↓rd,(ty i).oneT,(ty i).oneI,(ty i).oneF,↓e2,↓st,↓BK a3,hk,↓BK a13,↓e4',↓e5,↓g6,↓Aj o6]
 | int h=>
  rename_i n
  have hk:(ty i).kind=AA 2:=hk
  have e1':Bn Z (.cells (W9 n))=Z1:=e1
  unfold W9 vc at e1'
  obtain⟨env,u,Z4,g4,l4,h4,f4⟩:=ZD (E:=E) (D:=D) (x:=ty i) hS hW h f3.tidy (b5:=Z.next) (b7:=Z1.next) a13 a3 hT3 hok
  refine⟨u,Z4,?_,h4.mono f03.le,f03.trans f4 (fun _ _ h=>h)⟩
  have gd:∀J:Bp->H->AH,Ch (AT E D P5 TA [(5,.ptr Z.next 0),(7,.ptr Z1.next 0)] Z3) J=J env Z4:=fun J=>by rw[g4];rfl
  have m6:∀J:V->AH,BO env 6 J=J u:=fun J=>BQ l4 (Bb h4.1.one)
  have key:∀K,Hc E D (AT E D) K p 0 (AA i) (AA 2) n .nils .nils (AA 0) .nils Z=K p 0 Z.next 0 Z1.next 0 (AA 2) true Z3:=fun K=>by
   unfold Hc
   simp -implicitDefEqProofs only [↓rP,rA,AD,AG,AB,↓e1',↓ttp,↓rd,(ty i).oneT,(ty i).oneI,(ty i).oneF,↓e2,↓st,↓BK a3,hk]
  refine(key _).trans ?_
  show KA E D (AT E D) _ _ p 0 Z.next 0 Z1.next 0 (AA 2) true Z3=_
  unfold KA
  simp -implicitDefEqProofs only [↓rP,rA,AD,AG,AB,↓gd,↓m6]
 | oct h hl=>
  rename_i b hb
  have hk:(ty i).kind=AA 5:=hk
  obtain⟨Z5,u,Z6,e5,g6,h6,f6⟩:=put Z3 b f03 hb (h.fr f03) hl
  refine⟨u,Z6,?_,h6,f6⟩
  have o6:=h6.1.one
  have fl:∀J:List V->AH,D6 [(0,1,b)] [V.nils] J=J [b]:=fun J=>Go.Og.fill1 hb J
  have key:∀K,Hc E D (AT E D) K p 0 (AA i) (AA 5) (AA 0) b .nils (AA 0) .nils Z=K p 0 Z.next 0 Z1.next 0 (AA 5) false Z3:=fun K=>by
   unfold Hc
   simp -implicitDefEqProofs only [↓rP,rA,AD,AG,AB,hb,↓e1,↓ttp,↓rd,(ty i).oneT,(ty i).oneI,(ty i).oneF,↓e2,↓st,↓BK a3,hk]
  refine(key _).trans ?_
  show KA E D (AT E D) _ (Mn E D (AT E D) (Pj E D (AT E D))) p 0 Z.next 0 Z1.next 0 (AA 5) false Z3=_
  unfold KA Mn Pj
  simp -implicitDefEqProofs only [↓rP,rA,AD,AG,AB,↓BK a3,↓BK a13,↓fl,hb,↓e5,↓g6,↓Aj o6]
 | nul=>
  have hk:(ty i).kind=AA 4:=hk
  obtain⟨Z5,u,Z6,e5,g6,h6,f6⟩:=put Z3 .nils f03 rfl (fU E Z3) (by simp)
  refine⟨u,Z6,?_,h6,f6⟩
  have o6:=h6.1.one
  have fl:∀J:List V->AH,D6 [(0,1,V.nils)] [V.nils] J=J [V.nils]:=fun J=>Go.Og.fill1 rfl J
  have key:∀K,Hc E D (AT E D) K p 0 (AA i) (AA 4) (AA 0) .nils .nils (AA 0) .nils Z=K p 0 Z.next 0 Z1.next 0 (AA 4) false Z3:=fun K=>by
   unfold Hc
   simp -implicitDefEqProofs only [↓rP,rA,AD,AG,AB,↓e1,↓ttp,↓rd,(ty i).oneT,(ty i).oneI,(ty i).oneF,↓e2,↓st,↓BK a3,hk]
  refine(key _).trans ?_
  show KA E D (AT E D) _ (Mn E D (AT E D) (Pj E D (AT E D))) p 0 Z.next 0 Z1.next 0 (AA 4) false Z3=_
  unfold KA Mn Pj
  simp -implicitDefEqProofs only [↓rP,rA,AD,AG,AB,↓BK a3,↓BK a13,↓fl,↓e5,↓g6,↓Aj o6]
end
def WA (E:EB) (F:List V->H->AH):Prop:=∀{Z:H} {a b:V} {x:Ty} {n:Nat},Ao Z->x.kind=AA 5->x.has=false->GM b n->n<=40000 ->
 ∃Z',F [a,.agg x.c,.agg [.int .i64 (AA 5),.int .i64 (AA 0),b,.nils,.int .i64 (AA 0),.nils]] Z=some (.bool true,Z')/\Fr AF Z Z'
section
variable {E:EB} {D:Ai} {W:AI} {N:Nat} {Z:H}
theorem uy (hP:FH (D 99)) (hW:JQ (D 100)):WA E (db E D W N):=by
 intro Z a b x n ht hk hh hb hn
 obtain⟨kd,tg,has,hlw,hhg,cm,lo,hi,its,fds,rt,mr,ofv,o1,o2,o3⟩:=x
 dsimp only at hk hh
 subst hk
 subst hh
 obtain⟨Z1,e1,f1,a1,n1⟩:=Cg ht [.int .i64 (AA 5),tg,.bool false,.bool hlw,.bool hhg,.bool cm,.int .i64 lo,.int .i64 hi,its,fds,.int .i64 rt,.bool mr,.int .i64 ofv]
 obtain⟨Z2,e2,f2,a2,n2⟩:=Cg f1.tidy [.int .i64 (AA 5),.int .i64 (AA 0),b,.nils,.int .i64 (AA 0),.nils]
 obtain⟨Z3,g3,f3⟩:=hP Z2 (AA 2) (AA 5) (AA 0) (AA 0) b .nils .nils n 0 0 f2.tidy hb GM.nils GM.nils
 obtain⟨Z4,g4,f4⟩:=hW Z3 false hlw hhg cm lo hi (AA n) f3.tidy
 have hp:I9 (AA 2) (AA 5) (AA 0) n 0 (AA 0) 0=true:=rfl
 have hw:M5 false hlw hhg lo hi (AA n)=true:=rfl
 rw[hp]at g3
 rw[hw]at g4
 have f13:=(f2.trans f3 (fun _ _ h=>h))
 have a13:=f13.at_ a1 f1.tidy (fun h=>h)
 have a23:=f3.at_ a2 f2.tidy (fun h=>h)
 have a14:=f4.at_ a13 f3.tidy (fun h=>h)
 have bo:=hb.1
 have bs:=hb.2
 have d1:decide (n<=70000)=true:=decide_eq_true (by omega)
 have f03:=f1.trans f13 (fun _ _ h=>h)
 unfold vc at g3
 show ∃Z',UK E D W a (AA 5) tg false hlw hhg cm lo hi its fds rt mr ofv (AA 5) (AA 0) b .nils (AA 0) .nils Z=_/\_
 unfold UK
 cases cm with
 | true=>
  refine⟨Z3,?_,f03⟩
  simp -implicitDefEqProofs only [↓rP,rA,AD,AG,AB,o1,o2,o3,bo,↓e1,↓e2,↓Az a2,↓g3,↓BK a23,↓bs,d1,↓BK a13]
 | false=>
  refine⟨Z4,?_,f03.trans f4 (fun _ _ h=>h)⟩
  simp -implicitDefEqProofs only [↓rP,rA,AD,AG,AB,o1,o2,o3,bo,↓e1,↓e2,↓Az a2,↓g3,↓BK a23,↓bs,d1,↓BK a13,↓Az a13,↓g4,↓BK a14]
end
section
variable {E:EB} {D:Ai} {W:AI} {N:Nat} {Z:H} {n p nT:Nat} {ty:Nat->Ty} {nm:BS} {nv rv tv:V} {rest:List V}
theorem og {Z:H} {b:V} {x:List Int} (h:Bx E Z b x):GM b x.length:=⟨h.o,h.s⟩
theorem fy (hP:FH (D 99)) (hW:JQ (D 100)) (hS:WA E (D 101)) {i dp:Nat} {v:Vc} {x:List Int} (ht:Ao Z) (hc:Ck Z p nT ty nm nv rv tv rest) (hi:i<nT) (hd:dp<=17) (hk:(ty i).kind=v.k) (hh:(ty i).has=false) (hv:Lf E Z v x) :
  ∃Z',jR E D W N [.ptr p 0,.int .i64 (AA i),.agg v.c,.int .i64 (AA dp)] Z=some (.bool true,Z')/\Fr AF Z Z':=by
 have d1:decide (nT<=i)=false:=decide_eq_false (by omega)
 have d2:decide (17<dp)=false:=decide_eq_false (by omega)
 obtain⟨Z1,e1,f1,a1,n1⟩:=Cg ht v.c
 have c1:=hc.fr f1 ht
 have rd:∀J,AV 13 tv (AA i) (fun b o=>BP E Z1 b o 13 J)=J (ty i).c:=fun J=>c1.row.all hi J
 have hl:=c1.row.len
 have ttp:=fun J=>c1.types (E:=E) (J:=J)
 cases hv with
 | int h=>
  exact XI hP hW ht hc hi hd hk (by rw[hh];exact Bool.or_true _)
 | b1=>
  have hk:(ty i).kind=AA 1:=hk
  obtain⟨Z2,g2,f2⟩:=hP Z1 (AA 1) (AA 1) (AA 1) (AA 0) .nils .nils .nils 0 0 0 f1.tidy GM.nils GM.nils GM.nils
  have hp:I9 (AA 1) (AA 1) (AA 1) 0 0 (AA 0) 0=true:=rfl
  rw[hp]at g2
  unfold vc at g2
  unfold Vc.c at e1 a1
  have a2:=f2.at_ a1 f1.tidy (fun h=>h)
  refine⟨Z2,?_,f1.trans f2 (fun _ _ h=>h)⟩
  show Hb E D W _ p 0 (AA i) (AA 1) (AA 1) .nils .nils (AA 0) .nils (AA dp) Z=_
  unfold Hb
  simp -implicitDefEqProofs only [↓rP,rA,AD,AG,AB,Dd,↓e1,↓ttp,↓hl.2,d1,d2,↓rd,Ty.c,hk,(ty i).oneT,(ty i).oneI,(ty i).oneF,↓BK a1,↓Az a1,↓g2,↓BK a2]
 | b0=>
  have hk:(ty i).kind=AA 1:=hk
  obtain⟨Z2,g2,f2⟩:=hP Z1 (AA 1) (AA 1) (AA 0) (AA 0) .nils .nils .nils 0 0 0 f1.tidy GM.nils GM.nils GM.nils
  have hp:I9 (AA 1) (AA 1) (AA 0) 0 0 (AA 0) 0=true:=rfl
  rw[hp]at g2
  unfold vc at g2
  unfold Vc.c at e1 a1
  have a2:=f2.at_ a1 f1.tidy (fun h=>h)
  refine⟨Z2,?_,f1.trans f2 (fun _ _ h=>h)⟩
  show Hb E D W _ p 0 (AA i) (AA 1) (AA 0) .nils .nils (AA 0) .nils (AA dp) Z=_
  unfold Hb
  simp -implicitDefEqProofs only [↓rP,rA,AD,AG,AB,Dd,↓e1,↓ttp,↓hl.2,d1,d2,↓rd,Ty.c,hk,(ty i).oneT,(ty i).oneI,(ty i).oneF,↓BK a1,↓Az a1,↓g2,↓BK a2]
 | nul=>
  have hk:(ty i).kind=AA 4:=hk
  obtain⟨Z2,g2,f2⟩:=hP Z1 (AA 0) (AA 4) (AA 0) (AA 0) .nils .nils .nils 0 0 0 f1.tidy GM.nils GM.nils GM.nils
  have hp:I9 (AA 0) (AA 4) (AA 0) 0 0 (AA 0) 0=true:=rfl
  rw[hp]at g2
  unfold vc at g2
  unfold Vc.c at e1 a1
  refine⟨Z2,?_,f1.trans f2 (fun _ _ h=>h)⟩
  show Hb E D W _ p 0 (AA i) (AA 4) (AA 0) .nils .nils (AA 0) .nils (AA dp) Z=_
  unfold Hb
  simp -implicitDefEqProofs only [↓rP,rA,AD,AG,AB,Dd,↓e1,↓ttp,↓hl.2,d1,d2,↓rd,Ty.c,hk,(ty i).oneT,(ty i).oneI,(ty i).oneF,↓BK a1,↓Az a1,↓g2]
 | oct h hl'=>
  rename_i b hb
  have hk:(ty i).kind=AA 5:=hk
  obtain⟨Z2,g2,f2⟩:=hS (Z:=Z1) (a := .ptr p 0) (x:=ty i) f1.tidy hk hh (og (h.fr f1)) hl'
  unfold Vc.c at e1 a1
  unfold Ty.c at g2
  rw[hk]at g2
  refine⟨Z2,?_,f1.trans f2 (fun _ _ h=>h)⟩
  have key:∀K,Hb E D W K p 0 (AA i) (AA 5) (AA 0) b .nils (AA 0) .nils (AA dp) Z=K p 0 (AA i) (AA dp) Z.next 0 (AA 5) true (AA 5) (ty i).tags (ty i).has (ty i).hasLow (ty i).hasHigh (ty i).conMore (ty i).low (ty i).high (ty i).items (ty i).fields (ty i).root (ty i).more (ty i).of_ Z1:=fun K=>by
   unfold Hb
   simp -implicitDefEqProofs only [↓rP,rA,AD,AG,AB,Dd,hb,↓e1,↓ttp,↓hl.2,d1,d2,↓rd,Ty.c,hk,(ty i).oneT,(ty i).oneI,(ty i).oneF,↓BK a1,↓Az a1]
  show Hb E D W (mO E D W N) p 0 (AA i) (AA 5) (AA 0) b .nils (AA 0) .nils (AA dp) Z=_
  refine(key _).trans ?_
  show Sm E D W _ p 0 (AA i) (AA dp) Z.next 0 (AA 5) true (AA 5) (ty i).tags (ty i).has (ty i).hasLow (ty i).hasHigh (ty i).conMore (ty i).low (ty i).high (ty i).items (ty i).fields (ty i).root (ty i).more (ty i).of_ Z1=_
  unfold Sm
  simp -implicitDefEqProofs only [↓rP,rA,AD,AG,AB,hb,↓Az a1,↓g2]
end
section
variable {E:EB} {D:Ai} {W:AI} {N:Nat} {nT:Nat} {ty:Nat->Ty} {nm:BS} {nv rv tv:V}
end
def sN (v:Int):List Nat:=KR (TQ v) (C4 v)
theorem KJ (v:Int):(sN v).length=C4 v:=JC _ _
theorem Nd (v:Int):Lu (sN v):=VD _ _
def VU (a:Nat):List Nat->Nat
 | []=>a
 | c::r=>VU (a*256+c) r
theorem ZU:∀(L:List Nat) (a k:Nat),Lu L->a<256 ^ k->VU a L<256 ^ (k+L.length)
 | [],a,k,_,h=>h
 | c::r,a,k,hb,h=>by
  have hc:=hb c Ay
  have:=ZU r (a*256+c) (k+1) (fun x hx=>hb x (DA _ hx)) (by rw[Nat.pow_succ];omega)
  show VU (a*256+c) r<_
  rw[As,show k+(r.length+1)=k+1+r.length by omega];exact this
theorem Sd (x:Nat):∀(n a:Nat),VU a (KR x n)=a*2 ^ (8*n)+x % 2 ^ (8*n)
 | 0,a=>by show a=_;simp[Nat.mod_one]
 | n+1,a=>by
  show VU (a*256+(x / 2 ^ (8*n)) % 256) (KR x n)=_
  rw[Sd x n]
  have e:2 ^ (8*(n+1))=2 ^ (8*n)*256:=by rw[show 8*(n+1)=8*n+8 by omega,Nat.pow_add]
  rw[e,Nat.mod_mul,O1,Nat.mul_assoc,Nat.mul_comm 256]
  rw[Nat.mul_comm (x / 2 ^ (8*n) % 256)];omega
theorem TP (n:Int):Ap .i64 n=(n+9223372036854775808) % 18446744073709551616-9223372036854775808:=by
 rw[DC]
 unfold IntKind.wrap
 simp only[show (2:Int) ^ IntKind.bits .i64=18446744073709551616 from rfl,show (2:Int) ^ (IntKind.bits .i64-1)=9223372036854775808 from rfl,show IntKind.signed .i64=true from rfl,DW]
 split
 ·rename_i h
  have h:=of_decide_eq_true h
  omega
 ·rename_i h
  have h:¬_:=fun e=>h (decide_eq_true e)
  omega
def Wn (k x:Nat):Int:=match decide (0<64-8*k)with
 | true=>GO .i64 (LC .i64 (Ap .i64 (AA x)) (64-8*k)) (64-8*k)
 | false=>Ap .i64 (AA x)
theorem nP {k x:Nat} (h1:1<=k) (h8:k<=8) (hx:x<256 ^ k):DQ (Wn k x)/\∀n,DQ n->D0 n k=true->(x:Int)=(TQ n:Int) % 2 ^ (8*k)->Wn k x=n:=by
 have hc:k=1\/k=2\/k=3\/k=4\/k=5\/k=6\/k=7\/k=8:=by omega
 have e:AA x=(x:Int):=rfl
 have P:∀q:Nat,q<=64->Wn k x=(Ap .i64 ((Ap .i64 (x:Int))*2 ^ q)) / 2 ^ q->True:=fun _ _ _=>trivial
 unfold DQ
 have key:∀q:Nat,0<q->q<=64->64-8*k=q->Wn k x=(Ap .i64 ((Ap .i64 (x:Int))*2 ^ q)) / 2 ^ q:=fun q h0 hq hk=>by
  unfold Wn
  rw[hk,decide_eq_true h0]
  show GO .i64 (LC .i64 (Ap .i64 (AA x)) q) q=_
  rw[M8 _ hq,Qk,show Dr q (IntKind.bits .i64)=q from Gq hq,<-DC]
  rfl
 have key8:k=8->Wn k x=Ap .i64 (x:Int):=fun hk=>by unfold Wn;rw[hk];rfl
 unfold D0
 simp only[BC,decide_eq_true_eq]
 rcases hc with rfl|rfl|rfl|rfl|rfl|rfl|rfl|rfl
 ·rw[key 56 (by decide) (by decide) rfl,TP,TP]
  refine⟨by omega,fun n hn h1 h2=>?_⟩
  have:=HA n
  simp only[Ee,Ed,Eg]at *
  omega
 ·rw[key 48 (by decide) (by decide) rfl,TP,TP]
  refine⟨by omega,fun n hn h1 h2=>?_⟩
  have:=HA n
  simp only[Ee,Ed,Eg]at *
  omega
 ·rw[key 40 (by decide) (by decide) rfl,TP,TP]
  refine⟨by omega,fun n hn h1 h2=>?_⟩
  have:=HA n
  simp only[Ee,Ed,Eg]at *
  omega
 ·rw[key 32 (by decide) (by decide) rfl,TP,TP]
  refine⟨by omega,fun n hn h1 h2=>?_⟩
  have:=HA n
  simp only[Ee,Ed,Eg]at *
  omega
 ·rw[key 24 (by decide) (by decide) rfl,TP,TP]
  refine⟨by omega,fun n hn h1 h2=>?_⟩
  have:=HA n
  simp only[Ee,Ed,Eg]at *
  omega
 ·rw[key 16 (by decide) (by decide) rfl,TP,TP]
  refine⟨by omega,fun n hn h1 h2=>?_⟩
  have:=HA n
  simp only[Ee,Ed,Eg]at *
  omega
 ·rw[key 8 (by decide) (by decide) rfl,TP,TP]
  refine⟨by omega,fun n hn h1 h2=>?_⟩
  have:=HA n
  simp only[Ee,Ed,Eg]at *
  omega
 ·rw[key8 rfl,TP]
  refine⟨by omega,fun n hn h1 h2=>?_⟩
  have:=HA n
  simp only[Ee,Ed,Eg]at *
  omega
theorem eu {v:Int} (hv:DQ v):∃c r,sN v=c::r/\(c<128↔0<=v):=by
  have hr:=C7 v
  have he:=GU hv
  unfold sN
  have ht:=HA v
  unfold DQ at hv
  unfold D0 at he
  simp only[BC,decide_eq_true_eq]at he
  have hc:C4 v=1\/C4 v=2\/C4 v=3\/C4 v=4\/C4 v=5\/C4 v=6\/C4 v=7\/C4 v=8:=by omega
  rcases hc with h|h|h|h|h|h|h|h <;>
    (rw[h]at he ⊢
     refine⟨_,_,rfl,?_⟩
     simp only[Ee,Ed,Eg,Nat.reducePow]at he ⊢
     omega)
theorem nY {v:Int} (hv:DQ v) {c d:Nat} {r:List Nat} (h:sN v=c::d::r):¬(c=0/\d<128)/\¬(c=255/\128<=d):=by
  have hr:=C7 v
  have he:=GU hv
  have hl:2<=C4 v:=by rw[<-KJ,h];simp
  have hs:=L6 v (n:=C4 v-1) (by omega) (by omega)
  unfold sN at h
  have ht:=HA v
  unfold DQ at hv
  unfold D0 at he hs
  simp only[BC,decide_eq_true_eq,BM,decide_eq_false_iff_not]at he hs
  have hc:C4 v=2\/C4 v=3\/C4 v=4\/C4 v=5\/C4 v=6\/C4 v=7\/C4 v=8:=by omega
  rcases hc with e|e|e|e|e|e|e <;>
    (rw[e]at he hs h
     injection h with h1 h2
     injection h2 with h2 h3
     simp only[Ee,Ed,Eg,Nat.reducePow]at he hs h1 h2
     omega)
def ae (F:List V->H->AH):Prop:=∀{Z:H} {u:V} {L:List Nat},Oc Z u L->Lu L->L.length<=8->F [u] Z=some (.int .u64 (AA (VU 0 L)),Z)
def WD (E:EB) (F:List V->H->AH):Prop:=∀{Z:H} {u v:V} {L M:List Nat},Oc Z u L->Oc Z v M->Lu L->Lu M->0<L.length->0<M.length->F [u,v] Z=some (.bool (decide (L=M)),Z)
def pU (F:List V->H->AH):Prop:=∀{Z:H} {u:V} {L:List Nat},Ao Z->Oc Z u L->Lu L->∃v e Z',F [u] Z=some (.tup [.int .i64 v,.int .i64 e],Z')/\DQ v/\(∀n,DQ n->L=sN n->v=n)/\Fr AF Z Z'
section
variable {E:EB} {D:Ai} {N:Nat}
theorem Ya {a c:Nat} (hc:c<256) (h:a*256+c<=18446744073709551615):IY .u64 (LC .u64 (AA a) 8) (Ap .u64 (AA c))=AA (a*256+c):=by
 rw[Ba (by rw[Nk];omega),Qk,show Dr 8 (IntKind.bits .u64)=8 from rfl,show AA a*2 ^ 8=AA (a*2 ^ 8)from rfl,Lx (by rw[Nk];omega),Yg,BitVec.toNat_or,G7,G7,show IntKind.bits .u64=64 from rfl,CH (show a*2 ^ 8<2 ^ 64 by omega),CH (show c<2 ^ 64 by omega),ny (show c<2 ^ 8 by omega)]
 exact Lx (by rw[Nk];omega)
theorem uq (hN:9<N):ae (uO E D (AT E D) N):=by
 intro Z u L hu hb hl
 have loop:∀(R done:List Nat) (n' a:Nat),done++R=L->R.length<n'->a<256 ^ done.length->Wc E D (AT E D) N n' (AA a) u (AA L.length) (AA done.length) Z=some (.int .u64 (AA (VU a R)),Z):=by
  intro R
  induction R with
  | nil=>
   intro done n' a he hn' ha
   obtain⟨n',rfl⟩:∃q,n'=q+1:=⟨n'-1,by omega⟩
   have hl:L.length=done.length:=by rw[<-he,CZ]
   rw[hl]
   have d1:decide (done.length<done.length)=false:=decide_eq_false (FX _)
   have key:∀R,Ph E D (AT E D) (Vx E D (AT E D)) R (AA a) u (AA done.length) (AA done.length) Z=some (.int .u64 (AA a),Z):=by
    intro R
    unfold Ph Vx
    simp -implicitDefEqProofs only [↓rP,rA,AD,AG,AB,d1]
   exact key _
  | cons c R ih=>
   intro done n' a he hn' ha
   obtain⟨n',rfl⟩:∃q,n'=q+1:=⟨n'-1,by omega⟩
   have hlL:L.length=done.length+(R.length+1):=by rw[<-he,AS,As]
   have hx:L[done.length]? = some c:=by rw[<-he,BL (AL _),G0];rfl
   have hc:c<256:=hb c (Ci hx)
   have g:=hu.get (E:=E) hx
   have d1:decide (done.length<L.length)=true:=decide_eq_true (by omega)
   have hp:a*256+c<256 ^ (done.length+1):=by rw[Nat.pow_succ];omega
   have hp8:256 ^ (done.length+1)<=256 ^ 8:=Xx (by decide) (by omega)
   have pu:=Ya (a:=a) hc (by
    have:(256:Nat) ^ 8=18446744073709551616:=rfl
    omega)
   have key:∀R',Ph E D (AT E D) (Vx E D (AT E D)) R' (AA a) u (AA L.length) (AA done.length) Z=R' (AA (a*256+c)) u (AA L.length) (AA (done.length+1)) Z:=by
    intro R'
    unfold Ph
    simp -implicitDefEqProofs only [↓rP,rA,AD,AG,AB,d1,↓g,pu,CG (show done.length+1<=9223372036854775807 by omega)]
   have:=ih (done++[c]) n' (a*256+c) (by rw[<-he];simp) (by simp only[As]at hn';omega) (by rw[AS];exact hp)
   rw[AS,EI]at this
   exact(key _).trans this
 have sl:=hu.slen
 have k0:∀K,Sp E D (AT E D) K u Z=K (AA 0) u (AA L.length) (AA 0) Z:=by
  intro K
  unfold Sp
  simp -implicitDefEqProofs only [↓rP,rA,AD,AG,AB,↓sl]
 show Sp E D (AT E D) (Wc E D (AT E D) N N) u Z=_
 rw[k0]
 exact loop L [] N 0 rfl (by omega) (by show 0<256 ^ 0;decide)
theorem Oc.str {Z:H} {v:V} {L:List Nat} (h:Oc Z v L) (h0:0<L.length) (J:BS->AH):I4 E Z v J=J (BS.ofList ((nI L).map fun c=>UInt8.ofNat c.toNat)):=by
 have hs:=h.srcK (E:=E)
 unfold I4
 rcases h with ⟨rfl,_⟩|⟨b,o,c,M,rfl,_⟩
 ·cases h0
 ·simp only[]
  rw[hs]
  unfold oC
  rw[PE]
theorem fX {L M:List Nat} (hL:Lu L) (hM:Lu M):BS.beq (BS.ofList ((nI L).map fun c=>UInt8.ofNat c.toNat)) (BS.ofList ((nI M).map fun c=>UInt8.ofNat c.toNat))=decide (L=M):=by
 have e:∀{K:List Nat},Lu K->(BS.ofList ((nI K).map fun c=>UInt8.ofNat c.toNat)).nats=K:=fun {K} hK=>by
  unfold BS.nats nI
  rw[BS.toList_ofList,List.map_map,List.map_map]
  refine(List.map_congr_left fun c hc=>?_).trans (List.map_id K)
  show (UInt8.ofNat (AA c).toNat).toNat=c
  have:=hK c hc
  rw[show (AA c).toNat=c from rfl]
  simp;omega
 rw[BS.beq_nats,e hL,e hM]
theorem wO:WD E (Kx E D (AT E D) N):=by
 intro Z u v L M hu hv hL hM h1 h2
 show Zz E D (AT E D) u v Z=_
 unfold Zz
 rw[hu.str h1,hv.str h2,fX hL hM]
theorem AC6 (hT:ae (D 58)) (hS:GZ (D 59)) (hE:WD E (D 17)):pU (F34 E D (AT E D) N):=by
 intro Z u L ht hu hb
 have sl:=hu.slen
 have hlen:∀n,DQ n->L=sN n->1<=L.length/\L.length<=8:=fun n _ h=>by rw[h,KJ];exact C7 n
 have i0:DQ 0:=⟨by decide,by decide⟩
 by_cases c0:L.length=0
 ·refine⟨AA 0,AA 3,Z,?_,i0,fun n hn h=>by have:=hlen n hn h;omega,Fr.refl ht⟩
  show Lh E D (AT E D) _ u Z=_
  unfold Lh
  simp -implicitDefEqProofs only [↓rP,rA,AD,AG,AB,↓sl,Bl,c0,decide_true]
 by_cases c8:8<L.length
 ·refine⟨AA 0,AA 4,Z,?_,i0,fun n hn h=>by have:=hlen n hn h;omega,Fr.refl ht⟩
  show Lh E D (AT E D) _ u Z=_
  unfold Lh
  simp -implicitDefEqProofs only [↓rP,rA,AD,AG,AB,↓sl,Bl,decide_eq_false c0,decide_eq_true c8]
 have h8:L.length<=8:=by omega
 have g1:=hT hu hb h8
 have hx:VU 0 L<256 ^ L.length:=by
  have:=ZU L 0 0 hb (by decide)
  rwa [Bc]at this
 obtain⟨hv,hvn⟩:=nP (k:=L.length) (by omega) h8 hx
 obtain⟨w,Z1,g2,w2,f2⟩:=hS hv ht
 have hw:Oc Z1 w (sN (Wn L.length (VU 0 L))):=Oc.of_dst (by
  have:=w2.1
  rw[B9]at this
  exact this)
 have wo:=hw.one
 have g3:=hE hw (hu.fr0 f2 ht) (Nd _) hb (by rw[KJ];exact(C7 _).1) (by omega)
 have hn:∀n,DQ n->L=sN n->Wn L.length (VU 0 L)=n:=fun n hn h=>by
  refine hvn n hn ?_ ?_
  ·rw[h,KJ];exact GU hn
  ·have:VU 0 L=TQ n % 2 ^ (8*L.length):=by
    conv=>lhs;rw[h]
    unfold sN
    rw[Sd,jZ,Bc,<-KJ n,<-h]
   rw[this,Int.natCast_emod,eU];rfl
 have key:∀K,Lh E D (AT E D) K u Z=K u (Wn L.length (VU 0 L)) Z:=by
  intro K
  have hk:L.length=1\/L.length=2\/L.length=3\/L.length=4\/L.length=5\/L.length=6\/L.length=7\/L.length=8:=by omega
  have e:∀q:Nat,q<=8->Dt .i64 (AA 64) (HU .i64 (AA 8) (AA q))=AA (64-8*q):=fun q hq=>by
   rw[show HU .i64 (AA 8) (AA q)=AA (8*q)from Ba (k := .i64) (m:=8*q) (show 8*q<=9223372036854775807 by omega)]
   exact IA (by omega) (by omega)
  have e:=e L.length h8
  unfold Lh Wn
  simp -implicitDefEqProofs only [↓rP,rA,AD,AG,AB,↓sl,Bl,decide_eq_false c0,decide_eq_false c8,↓g1,e]
  cases decide (0<64-8*L.length)with
  | true=>simp -implicitDefEqProofs only [↓rP,rA,AD,AG,AB,↓EF]
  | false=>simp -implicitDefEqProofs only [↓rP,rA,AD,AG,AB]
 cases hd:decide (sN (Wn L.length (VU 0 L))=L)with
 | true=>
  rw[hd]at g3
  refine⟨Wn L.length (VU 0 L),AA 0,Z1,?_,hv,hn,f2⟩
  show Lh E D (AT E D) (cZ E D (AT E D) N) u Z=_
  rw[key]
  show Su E D (AT E D) u _ Z=_
  unfold Su
  simp -implicitDefEqProofs only [↓rP,rA,AD,AG,AB,↓g2,↓Aj wo,↓g3]
 | false=>
  rw[hd]at g3
  refine⟨AA 0,AA 4,Z1,?_,i0,fun n h1 h2=>?_,f2⟩
  ·show Lh E D (AT E D) (cZ E D (AT E D) N) u Z=_
   rw[key]
   show Su E D (AT E D) u _ Z=_
   unfold Su
   simp -implicitDefEqProofs only [↓rP,rA,AD,AG,AB,↓g2,↓Aj wo,↓g3]
  ·exfalso
   have:=hn n h1 h2
   rw[this]at hd
   exact of_decide_eq_false hd h2.symm
end
def vB (k n:Nat):Vc:=⟨AA k,AA n,.nils,.nils,AA 0,.nils,rfl,rfl,rfl⟩
inductive Dv (Z:H):Nat->Vc->List Nat->Prop
 | b1 {c:Nat} {r:List Nat} (h:c≠0):Dv Z 1 (vB 1 1) (c::r)
 | b0 {r:List Nat} (h:∀c s,r=c::s->c=0):Dv Z 1 (vB 1 0) r
 | int {n:Int} {r:List Nat} (h:DQ n) (h2:∀m,DQ m->r=sN m->n=m):Dv Z 2 (Vc.int n) r
 | oct {b:V} {hb:b.one=true} {r:List Nat} (h:Oc Z b r):Dv Z 5 ⟨AA 5,AA 0,b,.nils,AA 0,.nils,hb,rfl,rfl⟩ r
 | nul {r:List Nat}:Dv Z 4 (vB 4 0) r
theorem Dv.frS {S:Nat->Prop} {Z Z':H} {k:Nat} {v:Vc} {r:List Nat} (h:Dv Z k v r) (f:Fr S Z Z') (ht:Ao Z) (hn:∀b,A0 v.b b->¬S b):Dv Z' k v r:=by
 cases h with
 | b1 h=>exact .b1 h
 | b0 h=>exact .b0 h
 | int h h2=>exact .int h h2
 | oct h=>exact .oct (h.fr f ht hn)
 | nul=>exact .nul
theorem Dv.fr {Z Z':H} {k:Nat} {v:Vc} {r:List Nat} (h:Dv Z k v r) (f:Fr AF Z Z') (ht:Ao Z):Dv Z' k v r:=h.frS f ht fun _ _ e=>e
def Pu (F:List V->H->AH):Prop:=∀{Z:H} {u:V} {L:List Nat},Ao Z->Oc Z u L->L.length<=1000000->∃w Z',F [u] Z=some (w,Z')/\Oc Z' w L/\(∀b,A0 w b->Z.next<=b)/\Fr AF Z Z'
structure Lt (Z:H) (p nT:Nat) (ty:Nat->Ty) (Ge:List V) (tv:V) (j t:Nat):Prop where
 tb:∃nm nv rv,Ge=[.str nm,nv,rv,tv]
 at_:CM Z p (.bool false::Ge)
 row:Fj Z 13 nT tv fun i=>(ty i).c
 lt:j<nT
 tags:HN Z 2 1 (ty j).tags (uu t)
def Xk (E:EB) (F:List V->H->AH):Prop:=∀{Z:H} {p nT j t K dp:Nat} {ty:Nat->Ty} {Ge:List V} {tv u:V} {L body:List Nat} {mk:Bool} {h:Nat},Ao Z->Lt Z p nT ty Ge tv j t->(ty j).kind=AA K->(K=1\/K=2\/K=4\/K=5)->Oc Z u L->Lu L->jY L 2 t mk body h->L.length<=1000000->dp<=17 ->
 ∃v Z',F [.ptr p 0,.int .i64 (AA j),u,.int .i64 (AA dp)] Z=some (.agg v.c,Z')/\Dv Z' K v body/\(∀b,A0 v.b b->Z.next<=b)/\Fr AF Z Z'
theorem Pa {v:V} (h:v.one=true):v.cells=[v]:=by cases v<;>first | rfl | cases h
theorem Fr.to_any {S:Nat->Prop} {Z Z':H} (f:Fr AF Z Z'):Fr S Z Z':=⟨f.tidy,f.le,fun b h _=>f.same b h (fun e=>e)⟩
def EW:List V:=[.int .i64 (AA 0),.int .i64 (AA 0),.nils,.nils,.int .i64 (AA 0),.nils]
section
variable {E:EB} {D:Ai} {N:Nat}
theorem wP:Pu (F36 E D (AT E D) N):=by
 intro Z u L ht hu hl
 show ∃w Z',Zu E D (AT E D) u Z=some (w,Z')/\_
 by_cases hz:u = .nils
 ·subst hz
  have hL:L=[]:=by
   rcases hu with ⟨h,_⟩|⟨b,o,c,M,h,_⟩
   ·exact h
   ·cases h
  subst hL
  exact⟨.nils,Z,rfl,Oc.nil Z,fun _ h=>h.elim,Fr.refl ht⟩
 ·have ek:∀J:Bool->AH,Xz .slice u .nils J=J false:=fun J=>by
   rcases hu with ⟨_,h⟩|⟨b,o,c,M,rfl,_⟩
   ·rcases h with rfl|⟨b,o,k,rfl⟩
    ·exact absurd rfl hz
    ·rfl
   ·rfl
  obtain⟨Z1,e1,f1,a1,n1⟩:=Jo ht []
  have hu1:=hu.fr0 f1 ht
  obtain⟨w,Z',g,d,n,f⟩:=OJ (E:=E) (esz:=1) (bytes:=1) (k:=0) (n:=L.length) (v := .sl Z.next 0 0 (.ex 0)) (l:=[]) (.inr ⟨_,rfl,a1,rfl⟩) f1.tidy (fun J=>hu1.srcK J) hu1.cells (by rw[L3,CE]) (K7 _) (by unfold CO;rw[Gi (by omega),Gi (by omega)];rfl)
  rw[Bc,DB]at d
  have F1:Fr AF Z Z':=f1.trans f (fun b hb e=>by cases e;omega)
  have wo:=d.one
  refine⟨w,Z',?_,Oc.of_dst d,fun b hb=>(n b hb).elim (fun e=>by cases e;exact AL _) (fun h=>by have:=f1.le;omega),F1⟩
  unfold Zu
  simp -implicitDefEqProofs only [↓rP,rA,AD,AG,AB,↓ek,↓e1,↓g,↓Aj wo]
theorem ee {Z:H} {f q:Nat} {v:Vc} {z:List V} (ht:Ao Z) (af:CM Z f z) (hz:z.length=6) (aq:CM Z q v.c) (N':Nat):∃Z',Mo E D (AT E D) f 0 q 0 Z=some (.agg v.c,Z')/\Fr (fun k=>k=f) Z Z':=by
 have ho:allOne v.c=true:=by unfold Vc.c;simp[Bk,B4,v.oneB,v.oneL,v.oneM,ED]
 obtain⟨Z',g,f',a',n'⟩:=Ff (n:=6) (o:=0) (v := .agg v.c) ht af (by
  show (AY v.c.length 6&&Ac (Ar 0 6) z.length&&allOne v.c)=true
  rw[ho,hz];rfl)
 have a':CM Z' f v.c:=by
  have:HT z 0 v.c=v.c:=by
   match z,hz with
   | [a,b,c,d,e,f],_=>rfl
  rw[<-this];exact a'
 refine⟨Z',?_,f'⟩
 unfold Vc.c at g aq a'
 unfold Mo
 simp -implicitDefEqProofs only [↓rP,rA,AD,AG,AB,↓Az aq,v.oneB,v.oneL,v.oneM,↓g,↓Az a']
 rfl
def Ky:List V:=[.int .i64 (AA 0),.nils,.bool false,.bool false,.bool false,.bool false,.int .i64 (AA 0),.int .i64 (AA 0),.nils,.nils,.int .i64 (AA 0),.bool false,.int .i64 (AA 0)]
theorem oJ (hI:Lj (D 33)) (hT:pU (D 34)) (hC:Pu (D 36)):Xk E (tA E D (AT E D) N):=by
 intro Z p nT j t K dp ty Ge tv u L body mk h ht hl hK hKs hu hb hel hL hdp
 obtain⟨nm,nv,rv,rfl⟩:=hl.tb
 obtain⟨Z1,e1,f1,a1,n1⟩:=Jo ht EW
 have hp1:=f1.at_ hl.at_ ht (fun h=>h)
 have rd:∀J,AV 13 tv (AA j) (fun b o=>BP E Z1 b o 13 J)=J (ty j).c:=fun J=>(hl.row.fr0 f1 ht).all hl.lt J
 have tlen:=hl.row.len.2
 obtain⟨Z2,e2,f2,a2,n2⟩:=Jo f1.tidy Ky
 obtain⟨Z3,g3,f3,a3,n3⟩:=Ff (n:=13) (o:=0) (v := .agg (ty j).c) f2.tidy a2 (by unfold Ty.c;simp[Ky,Ec,Bk,B4,ED,FE,(ty j).oneT,(ty j).oneI,(ty j).oneF])
 have a3:CM Z3 Z1.next (ty j).c:=a3
 have F3:Fr AF Z Z3:=(f1.trans f2 (fun _ _ h=>h)).trans f3 (fun b hb e=>by omega)
 have hp3:=F3.at_ hl.at_ ht (fun h=>h)
 obtain⟨w,Z4,g4,ow,nw,f4⟩:=hI F3.tidy hp3 (hu.fr0 F3 ht) hb hel hL (hl.tags.fr F3 ht (fun _ _ h=>h))
 have wo:=ow.one
 have F4:Fr AF Z Z4:=F3.trans f4 (fun _ _ h=>h)
 have a4:=f4.at_ a3 F3.tidy (fun h=>h)
 obtain⟨Z5,e5,f5,a5,n5⟩:=Jo F4.tidy EW
 obtain⟨Z6,g6,f6,a6,n6⟩:=Ff (n:=6) (o:=0) (v := .agg [.int .i64 (AA K),.int .i64 (AA 0),.nils,.nils,.int .i64 (AA 0),.nils]) f5.tidy a5 rfl
 have a6:CM Z6 Z4.next [.int .i64 (AA K),.int .i64 (AA 0),.nils,.nils,.int .i64 (AA 0),.nils]:=a6
 have le1:=f1.le
 have le34:=f4.le
 have le23:Z2.next<=Z3.next:=f3.le
 have F5:Fr AF Z Z5:=F4.trans f5 (fun _ _ h=>h)
 have F6:Fr AF Z Z6:=F5.trans f6 (fun b hb e=>by omega)
 have a46:CM Z6 Z1.next (ty j).c:=f6.at_ (f5.at_ a4 F4.tidy (fun h=>h)) f5.tidy (fun e=>by omega)
 have af1:CM Z1 Z.next EW:=a1
 have af6:CM Z6 Z.next EW:=by
  have x2:=f2.at_ af1 f1.tidy (fun h=>h)
  have x3:=f3.at_ x2 f2.tidy (fun e=>by omega)
  have x4:=f4.at_ x3 F3.tidy (fun h=>h)
  have x5:=f5.at_ x4 F4.tidy (fun h=>h)
  exact f6.at_ x5 f5.tidy (fun e=>by omega)
 have ow6:Oc Z6 w body:=(ow.fr0 f5 F4.tidy).fr f6 f5.tidy fun b hb e=>by
  have:=ow.lt F4.tidy b hb
  omega
 have lf:∀J:V->AH,BY E Z1 p 0 J=J (.bool false):=fun J=>CU hp1 rfl
 have lt4:∀J:V->AH,BY E Z1 p (Ar (Ar 0 1) 3) J=J tv:=fun J=>CU hp1 rfl
 have l1:∀J:V->AH,BY E Z3 Z1.next 1 J=J (ty j).tags:=fun J=>CU a3 rfl
 have l0:∀J:V->AH,BY E Z4 Z1.next 0 J=J (.int .i64 (AA K)):=fun J=>CU a4 (by rw[<-hK];rfl)
 have l06:∀J:V->AH,BY E Z6 Z1.next 0 J=J (.int .i64 (AA K)):=fun J=>CU a46 (by rw[<-hK];rfl)
 have dj:decide (nT<=j)=false:=decide_eq_false (by have:=hl.lt;omega)
 have dd:decide (17<dp)=false:=decide_eq_false (by omega)
 have j0:decide (j<0)=false:=decide_eq_false (by omega)
 unfold EW at e1 e5
 unfold Ky at e2
 unfold Ty.c at rd g3
 have k0:∀K1,Mp E D (AT E D) K1 p 0 (AA j) u (AA dp) Z=K1 p 0 (AA j) u (AA dp) Z.next 0 Z1:=fun K1=>by
  unfold Mp
  simp -implicitDefEqProofs only [↓rP,rA,AD,AG,AB,↓e1,↓lt4,↓tlen,j0,dj,dd]
 show ∃(v:Vc) (Z':H),Mp E D (AT E D) (Wh E D (AT E D) N) p 0 (AA j) u (AA dp) Z=some (.agg v.c,Z')/\_
 have q6:Z4.next<Z6.next:=by omega
 have done:∀(Zc Z7:H) (v:Vc),Fr AF Z6 Zc->Dv Zc K v body->(∀b,A0 v.b b->Z6.next<=b)->Fr (fun k=>k=Z4.next) Zc Z7->CM Z7 Z4.next v.c->∃Z',Mo E D (AT E D) Z.next 0 Z4.next 0 Z7=some (.agg v.c,Z')/\Dv Z' K v body/\(∀b,A0 v.b b->Z.next<=b)/\Fr AF Z Z':=fun Zc Z7 v fc hv hn f7 a7=>by
  have Fc:Fr AF Z Zc:=F6.trans fc (fun _ _ h=>h)
  have F7:Fr AF Z Z7:=Fc.trans f7 (fun b hb e=>by omega)
  have af7:=f7.at_ (fc.at_ af6 F6.tidy (fun h=>h)) Fc.tidy (fun e=>by omega)
  obtain⟨Z8,g8,f8⟩:=ee (E:=E) (D:=D) F7.tidy af7 rfl a7 N
  have F8:Fr AF Z Z8:=F7.trans f8 (fun b hb e=>by omega)
  exact⟨Z8,g8,(hv.frS f7 Fc.tidy (fun b hb e=>by have:=hn b hb;omega)).frS f8 F7.tidy (fun b hb e=>by have:=hn b hb;omega),fun b hb=>by have:=hn b hb;omega,F8⟩
 have so:=ow6.slen
 rw[k0]
 show ∃(v:Vc) (Z':H),JO E D (AT E D) _ _ p 0 (AA j) u (AA dp) Z.next 0 Z1=some (.agg v.c,Z')/\_
 rcases hKs with rfl|rfl|rfl|rfl
 ·
  have set1:∀c:Nat,c≠0->(∃r,body=c::r)->∃v Z7 Z',(∀J:H->AH,Fg 1 Z4.next 1 (.int .i64 (AA 1)) Z6 J=J Z7)/\Mo E D (AT E D) Z.next 0 Z4.next 0 Z7=some (.agg (Vc.c v),Z')/\Dv Z' 1 v body/\(∀b,A0 v.b b->Z.next<=b)/\Fr AF Z Z':=fun c hc ⟨r,hr⟩=>by
   obtain⟨Z7,g7,f7,a7,n7⟩:=Ff (n:=1) (o:=1) (v := .int .i64 (AA 1)) F6.tidy a6 rfl
   obtain⟨Z',g',d',f'⟩:=done Z6 Z7 (vB 1 1) (Fr.refl F6.tidy) (hr ▸ Dv.b1 hc) (fun _ h=>h.elim) f7 a7
   exact⟨_,Z7,Z',g7,g',d',f'⟩
  have set0:(∀c s,body=c::s->c=0)->∃v Z',Mo E D (AT E D) Z.next 0 Z4.next 0 Z6=some (.agg (Vc.c v),Z')/\Dv Z' 1 v body/\(∀b,A0 v.b b->Z.next<=b)/\Fr AF Z Z':=fun hb0=>by
   obtain⟨Z',g',d',f'⟩:=done Z6 Z6 (vB 1 0) (Fr.refl F6.tidy) (.b0 hb0) (fun _ h=>h.elim) (Fr.to_any (Fr.refl F6.tidy)) a6
   exact⟨_,Z',g',d',f'⟩
  match hbd:body,ow6,so with
  | [],ow6,so=>
   obtain⟨v,Z',g',d',f'⟩:=set0 (fun c s e=>by cases e)
   refine⟨v,Z',?_,d',f'⟩
   rw[<-g']
   unfold JO
   simp -implicitDefEqProofs only [↓rP,rA,AD,AG,AB,↓lf,↓lt4,↓rd,(ty j).oneT,(ty j).oneI,(ty j).oneF,↓e2,↓g3,↓l1,↓g4,↓Aj wo,↓l0,↓e5,↓g6,↓l06,Bl,decide_true,↓so,show decide (0<([]:List Nat).length)=false from rfl]
   all_goals rfl
  | c::r,ow6,so=>
   have g0:=ow6.get (E:=E) (k:=0) (c:=c) rfl
   have d0:decide (0<(c::r).length)=true:=rfl
   by_cases hc:c=0
   ·obtain⟨v,Z',g',d',f'⟩:=set0 (fun c' s e=>by cases e;exact hc)
    refine⟨v,Z',?_,d',f'⟩
    rw[<-g']
    unfold JO
    simp -implicitDefEqProofs only [↓rP,rA,AD,AG,AB,↓lf,↓lt4,↓rd,(ty j).oneT,(ty j).oneI,(ty j).oneF,↓e2,↓g3,↓l1,↓g4,↓Aj wo,↓l0,↓e5,↓g6,↓l06,Bl,decide_true,↓so,d0,↓g0,decide_eq_true hc]
    all_goals rfl
   ·obtain⟨v,Z7,Z',g7,g',d',f'⟩:=set1 c hc ⟨r,rfl⟩
    refine⟨v,Z',?_,d',f'⟩
    rw[<-g']
    unfold JO
    simp -implicitDefEqProofs only [↓rP,rA,AD,AG,AB,↓lf,↓lt4,↓rd,(ty j).oneT,(ty j).oneI,(ty j).oneF,↓e2,↓g3,↓l1,↓g4,↓Aj wo,↓l0,↓e5,↓g6,↓l06,Bl,decide_true,↓so,d0,↓g0,decide_eq_false hc,↓g7]
    all_goals rfl
 ·
  obtain⟨n,e,Z7,g7,hn,hu7,f7⟩:=hT F6.tidy ow6 (fun c hc=>hb c (Kt (hel.body ▸ hc)))
  have a7:=f7.at_ a6 F6.tidy (fun h=>h)
  obtain⟨Z8,g8,f8,a8,n8⟩:=Ff (n:=1) (o:=1) (v := .int .i64 n) f7.tidy a7 rfl
  obtain⟨Z',g',d',f'⟩:=done Z7 Z8 (Vc.int n) f7 (.int hn hu7) (fun _ h=>h.elim) f8 a8
  refine⟨Vc.int n,Z',?_,d',f'⟩
  rw[<-g']
  unfold JO
  simp -implicitDefEqProofs only [↓rP,rA,AD,AG,AB,↓lf,↓lt4,↓rd,(ty j).oneT,(ty j).oneI,(ty j).oneF,↓e2,↓g3,↓l1,↓g4,↓Aj wo,↓l0,↓e5,↓g6,↓l06,Bl,decide_true,show decide (2=1)=false from rfl,↓g7,↓g8]
  all_goals rfl
 ·
  obtain⟨Z',g',d',f'⟩:=done Z6 Z6 (vB 4 0) (Fr.refl F6.tidy) .nul (fun _ h=>h.elim) (Fr.to_any (Fr.refl F6.tidy)) a6
  refine⟨_,Z',?_,d',f'⟩
  rw[<-g']
  have k3:S7 E D (AT E D) N p 0 (AA dp) Z.next 0 Z1.next 0 w Z4.next 0 (AA 4) false Z6=Mo E D (AT E D) Z.next 0 Z4.next 0 Z6:=rfl
  rw[<-k3]
  unfold JO
  simp -implicitDefEqProofs only [↓rP,rA,AD,AG,AB,↓lf,↓lt4,↓rd,(ty j).oneT,(ty j).oneI,(ty j).oneF,↓e2,↓g3,↓l1,↓g4,↓Aj wo,↓l0,↓e5,↓g6,↓l06,Bl,decide_true,show decide (4=1)=false from rfl,show decide (4=2)=false from rfl,show decide (4=3)=false from rfl,show decide (4=5)=false from rfl,show decide (4=6)=false from rfl]
  all_goals rfl
 ·
  have hbl:body.length<=1000000:=by have:=hel.len;omega
  obtain⟨b,Z7,g7,ob,nb,f7⟩:=hC F6.tidy ow6 hbl
  have a7:=f7.at_ a6 F6.tidy (fun h=>h)
  have bo:=ob.one
  obtain⟨Z8,g8,f8,a8,n8⟩:=Ff (n:=1) (o:=2) (v:=b) f7.tidy a7 (by rw[Pa bo];simp[Bk,B4,bo])
  have a8:CM Z8 Z4.next [.int .i64 (AA 5),.int .i64 (AA 0),b,.nils,.int .i64 (AA 0),.nils]:=by rw[Pa bo]at a8;exact a8
  obtain⟨Z',g',d',f'⟩:=done Z7 Z8 ⟨AA 5,AA 0,b,.nils,AA 0,.nils,bo,rfl,rfl⟩ f7 (.oct ob) (fun c hc=>nb c hc) f8 a8
  refine⟨_,Z',?_,d',f'⟩
  rw[<-g']
  have k3:S7 E D (AT E D) N p 0 (AA dp) Z.next 0 Z1.next 0 w Z4.next 0 (AA 5) true Z6=Mo E D (AT E D) Z.next 0 Z4.next 0 Z8:=by
   show V6 E D (AT E D) _ _ _ p 0 (AA dp) Z.next 0 Z1.next 0 w Z4.next 0 (AA 5) true Z6=_
   unfold V6
   have g8:∀J:H->AH,Fg 1 Z4.next (Ar 0 2) b Z7 J=J Z8:=g8
   simp -implicitDefEqProofs only [↓rP,rA,AD,AG,AB,↓g7,↓Aj bo,↓g8]
   rfl
  rw[<-k3]
  unfold JO
  simp -implicitDefEqProofs only [↓rP,rA,AD,AG,AB,↓lf,↓lt4,↓rd,(ty j).oneT,(ty j).oneI,(ty j).oneF,↓e2,↓g3,↓l1,↓g4,↓Aj wo,↓l0,↓e5,↓g6,↓l06,Bl,decide_true,show decide (5=1)=false from rfl,show decide (5=2)=false from rfl,show decide (5=3)=false from rfl]
  all_goals rfl
end
theorem ve {u:V} {p:Nat} {i j:Int} (h:u.live=true):[V.ptr p 0,.int .i64 i,u,.int .i64 j].all V.live=true:=by rw[Bh,Bh,Bh,h];rfl
def Kv (gs:List Vc):List V:=gs.flatMap Vc.c
theorem M6:∀gs:List Vc,(Kv gs).length=gs.length*6
 | []=>rfl
 | v::gs=>by
  show (v.c++Kv gs).length=_
  rw[AS,M6 gs,As,show v.c.length=6 from rfl];omega
theorem QY:∀(gs:List Vc) (k:Nat) (v:Vc),gs[k]? = some v->((Kv gs).drop (k*6)).take 6=v.c
 | [],_,_,h=>by simp at h
 | w::gs,0,v,h=>by
  simp at h;subst h;rfl
 | w::gs,k+1,v,h=>by
  show ((w.c++Kv gs).drop ((k+1)*6)).take 6=_
  rw[show (k+1)*6=6+k*6 by omega,<-Re,show (w.c++Kv gs).drop 6=Kv gs from rfl]
  exact QY gs k v (by simpa using h)
theorem QX:∀(gs:List Vc) (k:Nat) (v:Vc),k<gs.length->HT (Kv gs) (k*6) v.c=Kv (gs.set k v)
 | [],_,_,h=>by simp at h
 | w::gs,0,v,_=>by
  have e:∀m:List V,HT m 0 []=m:=fun m=>by cases m<;>simp[HT]
  rw[jZ]
  show v.c++HT (Kv gs) 0 []=v.c++Kv gs
  rw[e]
 | w::gs,k+1,v,h=>by
  have ih:=QX gs k v (by simpa using h)
  rw[List.set_cons_succ]
  show HT (w.c++Kv gs) ((k+1)*6) v.c=w.c++Kv (gs.set k v)
  rw[<-ih,show (k+1)*6=k*6+1+1+1+1+1+1 by omega]
  rfl
theorem Vc.allOne (v:Vc):allOne v.c=true:=by unfold Vc.c;simp[Bk,B4,v.oneB,v.oneL,v.oneM,ED]
def pk (sq:Bool) (t:Nat) (X:List El):Option El × List El:=match jn t X 0 with
 | none=>(none,X)
 | some i=>match sq&&decide (0<i)with
  | true=>(none,X)
  | false=>(X[i]?,X.eraseIdx i)
def NC (sq:Bool):List Nat->List El->List (Option El) × List El
 | [],X=>([],X)
 | t::ts,X=>((pk sq t X).1::(NC sq ts (pk sq t X).2).1,(NC sq ts (pk sq t X).2).2)
structure jQ (B W:List V->H->AH) (Pt:H->Prop) (Z:H) (p nT:Nat) (ty:Nat->Ty) (Ge:List V) (tv:V) (x:Ty) (nf:Nat) (fd:Nat->Fd) (jt tg kd:Nat->Nat):Prop where
 row:Fj Z 11 nf x.fields fun k=>(fd k).c
 leaf:∀k,k<nf->(fd k).type=AA (jt k)/\(ty (jt k)).kind=AA (kd k)/\(kd k=1\/kd k=2\/kd k=4\/kd k=5)/\Lt Z p nT ty Ge tv (jt k) (tg k)/\Bw B W Pt Ge (jt k) (tg k)
 t4:ov Ge
 pt:Pt Z
 ptf:∀Z Z',Ao Z->Fr AF Z Z'->Pt Z->Pt Z'
 at_:CM Z p (.bool false::Ge)
 itm:V.beq x.items x.items=true
theorem Lt.fr {Z Z':H} {p nT j t:Nat} {ty:Nat->Ty} {Ge:List V} {tv:V} (h:Lt Z p nT ty Ge tv j t) (f:Fr AF Z Z') (ht:Ao Z):Lt Z' p nT ty Ge tv j t:=⟨h.tb,f.at_ h.at_ ht (fun h=>h),h.row.fr0 f ht,h.lt,h.tags.fr f ht (fun _ _ h=>h)⟩
theorem jQ.fr {B W:List V->H->AH} {Pt:H->Prop} {Z Z':H} {p nT:Nat} {ty:Nat->Ty} {Ge:List V} {tv:V} {x:Ty} {nf:Nat} {fd:Nat->Fd} {jt tg kd:Nat->Nat} (h:jQ B W Pt Z p nT ty Ge tv x nf fd jt tg kd) (f:Fr AF Z Z') (ht:Ao Z):jQ B W Pt Z' p nT ty Ge tv x nf fd jt tg kd:=
 ⟨h.row.fr0 f ht,fun k hk=>by obtain⟨a,b,c,d,e⟩:=h.leaf k hk;exact⟨a,b,c,d.fr f ht,e⟩,h.t4,h.ptf _ _ ht f h.pt,h.ptf,f.at_ h.at_ ht (fun h=>h),h.itm⟩
structure Fs (Z0 Z:H) (p:Nat) (K:Nat) (x:Ty) (gs:List Vc):Prop where
 fr:Fr AF Z0 Z
 cb:CM Z Z0.next [.ptr p 0]
 xb:CM Z (Z0.next+1) x.c
 rb:CM Z (Z0.next+2) EW
 qv:CM Z (Z0.next+10) [.int .i64 (AA K),.int .i64 (AA 0),.nils,.sl (Z0.next+8) 0 gs.length (.ex gs.length),.int .i64 (AA 0),.nils]
 lb:CM Z (Z0.next+8) (Kv gs)
 lt:Z0.next+12<=Z.next
theorem Fs.fr' {Z0 Z Z':H} {p K:Nat} {x:Ty} {gs:List Vc} (h:Fs Z0 Z p K x gs) (f:Fr AF Z Z'):Fs Z0 Z' p K x gs:=by
 have ht:=h.fr.tidy
 exact⟨h.fr.trans f (fun _ _ h=>h),f.at_ h.cb ht (fun h=>h),f.at_ h.xb ht (fun h=>h),f.at_ h.rb ht (fun h=>h),f.at_ h.qv ht (fun h=>h),f.at_ h.lb ht (fun h=>h),BJ h.lt f.le⟩
def Gd (Z0 Z:H) (t kd:Nat) (o:Option El) (v:Vc):Prop:=match o with
 | none=>v=Vc.abs
 | some e=>∃mk body h,jY e.1 2 t mk body h/\Lu e.1/\e.1.length<=100000/\Dv Z kd v body/\∀b,A0 v.b b->Z0.next+12<=b
theorem Gd.fr {S:Nat->Prop} {Z0 Z Z':H} {t kd:Nat} {o:Option El} {v:Vc} (h:Gd Z0 Z t kd o v) (f:Fr S Z Z') (ht:Ao Z) (hS:∀b,Z0.next+12<=b->¬S b):Gd Z0 Z' t kd o v:=by
 match o,h with
 | none,h=>exact h
 | some e,⟨mk,body,h,a,b,l,c,d⟩=>exact⟨mk,body,h,a,b,l,c.frS f ht (fun b hb=>hS b (d b hb)),d⟩
def Rk (Z0 Z:H) (v:V) (EL:List (List Nat)):Prop:=∃pvs:List V,HN Z 1 EL.length v pvs/\(∀b,A0 v b->b<Z0.next\/Z0.next+12<=b)/\∀(i:Nat) (e:List Nat),EL[i]? = some e->∃u,pvs[i]? = some u/\Oc Z u e/\∀b,A0 u b->b<Z0.next
theorem Rk.fr {S:Nat->Prop} {Z0 Z Z':H} {v:V} {EL:List (List Nat)} (h:Rk Z0 Z v EL) (f:Fr S Z Z') (ht:Ao Z) (hS:∀b,S b->Z0.next<=b/\b<Z0.next+12):Rk Z0 Z' v EL:=by
  obtain⟨pvs,h1,h2,h3⟩:=h
  exact⟨pvs,h1.fr f ht (fun b hb hs=>by have:=h2 b hb;have:=hS b hs;omega),h2,fun i e hi=>by
    obtain⟨u,a,b,c⟩:=h3 i e hi
    exact⟨u,a,b.fr f ht (fun b hb hs=>by have:=c b hb;have:=hS b hs;omega),c⟩⟩
theorem Rk.ela {Z0 Z:H} {v:V} {EL:List (List Nat)} (h:Rk Z0 Z v EL):de Z v EL:=by
 obtain⟨pvs,h1,_,h3⟩:=h
 exact⟨pvs,h1,fun i e hi=>by obtain⟨u,a,b,_⟩:=h3 i e hi;exact⟨u,a,b⟩⟩
section
variable {E:EB} {D:Ai} {N:Nat} {B W:List V->H->AH} {Pt:H->Prop} {Z0 Z:H} {p nT:Nat} {ty:Nat->Ty} {Ge:List V} {tv:V} {x:Ty} {nf:Nat} {fd:Nat->Fd} {jt tg kd:Nat->Nat}
theorem fx (hV:Xk E (D 15)) (hF:jQ B W Pt Z p nT ty Ge tv x nf fd jt tg kd) {K k at_ fq dp:Nat} {gs:List Vc} (hs:Fs Z0 Z p K x gs) (hk:k<nf) (hg:gs.length=nf) (hdp:dp<=16) {a fv:V} {X:List El} {e:El} (ha:Rk Z0 Z a (X.map (·.1))) (he:X[at_]? = some e) (ht2:e.2=(2,tg k)) (hE:TF e) (aq:CM Z fq (fd k).c) (hqn:fq≠Z0.next+8) (hpn:p≠Z0.next+8) (fvl:fv.live=true) {l:Int} :
    ∃ev Z' v,AT E D P7 TB [(2,a),(3,.int .i64 (AA dp)),(4,.ptr Z0.next 0),(5,.ptr (Z0.next+1) 0),(8,.ptr (Z0.next+2) 0),(9,.ptr (Z0.next+10) 0),(10,.int .i64 (AA k)),(11,.ptr fq 0),(12,.int .i64 (AA at_)),(23,fv),(24,.int .i64 l),(25,.int .i64 (AA k))] Z=some (ev,Z') /\
      (Go.Og.look ev 2=some a/\Go.Og.look ev 3=some (.int .i64 (AA dp))/\Go.Og.look ev 4=some (.ptr Z0.next 0)/\Go.Og.look ev 5=some (.ptr (Z0.next+1) 0)/\Go.Og.look ev 8=some (.ptr (Z0.next+2) 0)/\Go.Og.look ev 9=some (.ptr (Z0.next+10) 0)/\Go.Og.look ev 12=some (.int .i64 (AA at_))/\Go.Og.look ev 23=some fv/\Go.Og.look ev 24=some (.int .i64 l)/\Go.Og.look ev 25=some (.int .i64 (AA k))) /\
      Fr (fun b=>b=Z0.next+8) Z Z'/\CM Z' (Z0.next+8) (Kv (gs.set k v))/\Gd Z0 Z' (tg k) (kd k) (some e) v:=by
  have ht:=hs.fr.tidy
  obtain⟨q1,q2,q3,q4,_⟩:=hF.leaf k hk
  obtain⟨hb,hlen,mk,body,h,hel⟩:=hE
  rw[ht2]at hel
  have fw:Fr AF Z ⟨Z.next+15,Z.bl⟩:=(CW (E:=E) (n:=15) (S:=AF) ht).fr
  obtain⟨pvs,hsrc,hnm,hpv⟩:=ha
  have hlx:at_<X.length:=(BE.1 he).1
  obtain⟨u,hu,ou,nu⟩:=hpv at_ e.1 (by rw[CR,he];rfl)
  have el:(X.map (·.1)).length=X.length:=EA ..
  obtain⟨ab,ao,ac,aL,hav,aat,alen,aget⟩:∃b o c L,a = .sl b o X.length c/\CM Z b L/\o+X.length<=L.length/\L[o+at_*1]? = some u:=by
    rcases hsrc with ⟨h0,_,_⟩|⟨b,o,c,L,h1,h2,h3,h4⟩
    · omega
    · refine⟨b,o,c,L,by rw[h1,el],h2,by omega,?_⟩
      rw[h4,Ef (by omega),CT]at hu
      rw[CE];exact hu
  have bne:ab≠Z0.next+8:=by have:=hnm ab (by rw[hav];rfl);omega
  obtain⟨v,Z1,g1,d1,nv1,f1⟩:=hV (Z:=⟨Z.next+15,Z.bl⟩) (dp:=dp+1) fw.tidy (q4.fr fw ht) q2 q3 (ou.fr0 fw ht) hb hel (by omega) (by omega)
  have lt:=hs.lt
  have F1:Fr AF Z Z1:=fw.trans f1 (fun _ _ h=>h)
  have lb1:CM Z1 (Z0.next+8) (Kv gs):=F1.at_ hs.lb ht (fun h=>h)
  have hkl:k<gs.length:=by omega
  obtain⟨Z2,g2,f2,a2⟩:∃Z2,Db E D (.store 6 (.tmp 57) (.tmp 56)) [(57,.ptr (Z0.next+8) (0+k*6)),(56,.agg v.c)] Z1=some (.dead,Z2)/\Fr (fun b=>b=Z0.next+8) Z1 Z2/\CM Z2 (Z0.next+8) (Kv (gs.set k v)):=by
    obtain⟨Z2,r1,r2,r3⟩:=KI (E:=E) (D:=D) (n:=6) (x := .tmp 57) (y := .tmp 56) (e:=[(57,.ptr (Z0.next+8) (0+k*6)),(56,.agg v.c)]) F1.tidy lb1 rfl (show (B8 [(57,.ptr (Z0.next+8) (0+k*6)),(56,.agg v.c)] (.tmp 56)).cells=v.c from rfl) (by
      rw[M6,v.allOne,show v.c.length=6 from rfl]
      simp;omega)
    rw[Bc,QX gs k v hkl]at r3
    exact⟨Z2,by rw[Bc];rw[Bc]at r1;exact r1,r2,r3⟩
  have ao1:a.one=true:=by rw[hav];rfl
  have uo:=ou.one
  have lsl:V.beq (.sl (Z0.next+8) 0 gs.length (.ex gs.length)) (.sl (Z0.next+8) 0 gs.length (.ex gs.length))=true:=CX _ rfl
  have ad:HM .add .none (.int .i64 (AA dp)) (.int .i64 (AA 1))=some (.int .i64 (AA (dp+1))):=congrArg (fun z=>some (V.int .i64 z)) ((Ld .i64 (AA dp) (AA 1)).symm.trans (CG (by omega)))
  have h1:Z.next+15<=Z1.next:=f1.le
  have go:E8 E D Z 15 0 (fun b=>b=Z0.next+8) P7 TB ⟨[(2,a),(3,.int .i64 (AA dp)),(4,.ptr Z0.next 0),(5,.ptr (Z0.next+1) 0),(8,.ptr (Z0.next+2) 0),(9,.ptr (Z0.next+10) 0),(10,.int .i64 (AA k)),(11,.ptr fq 0),(12,.int .i64 (AA at_)),(23,fv),(24,.int .i64 l),(25,.int .i64 (AA k))],Z.next+15,[Z.bl],[],0,[]⟩ _ Z2:=
    Cp (.ptr (Z0.next+10) 3) rfl rfl <|
    J3 (.sl (Z0.next+8) 0 gs.length (.ex gs.length)) (CW ht) rfl (EE (b:=Z0.next+10) (off:=3) rfl hs.qv rfl ht (fun e=>by omega) lsl) fun _ r1=>
    Cp (.int .i64 (AA k)) rfl rfl <|
    J3 (.ptr p 0) r1 rfl (EE (b:=Z0.next) (off:=0) rfl hs.cb rfl ht (fun e=>by omega) (CX _ rfl)) fun _ r2=>
    Cp (.ptr fq 1) rfl rfl <|
    J3 (.int .i64 (AA (jt k))) r2 rfl (EE (b:=fq) (off:=1) rfl aq (by rw[<-q1];rfl) ht hqn (CX _ rfl)) fun _ r3=>
    Cp a rfl (EJ rfl (Bb ao1)) <|
    Cp (.int .i64 (AA at_)) rfl rfl <|
    Cp (.ptr ab (ao+at_*1)) rfl (JH hav rfl hlx) <|
    J3 u r3 rfl (EE (b:=ab) (off:=ao+at_*1) rfl aat aget ht bne ou.beq) fun _ r4=>
    Cp (.int .i64 (AA dp)) rfl rfl <|
    Cp (.int .i64 (AA (dp+1))) rfl ad <|
    KU (.agg v.c) r4 rfl (by decide) f1 (fun _ _ h=>h.elim) (fun _ h _ _=>h.elim) (D3 (vs:=[.ptr p 0,.int .i64 (AA (jt k)),u,.int .i64 (AA (dp+1))]) rfl (ve (Bb uo)) g1) fun _ _ _ r5=>
    Cp (.ptr (Z0.next+8) (0+k*6)) rfl (JH rfl rfl hkl) <|
    KU .dead r5 rfl (by decide) (S':=fun b=>b=Z0.next+8) f2 (fun _ _ h=>h) (fun b h h1 _=>by omega) g2 fun _ _ _ r6=>
    Hx r6
  obtain⟨x1,x2⟩:=GK (ops:=P7) go
  refine⟨_,Z2,v,x1,⟨rfl,rfl,rfl,rfl,rfl,rfl,rfl,rfl,rfl,rfl⟩,x2,a2,⟨mk,body,h,hel,hb,hlen,d1.frS f2 F1.tidy (fun b hb e=>by have:=nv1 b hb;have:Z.next+15<=b:=this;omega),fun b hb=>by have:=nv1 b hb;have:Z.next+15<=b:=this;omega⟩⟩
end
def WC (B W F:List V->H->AH):Prop:=∀{Pt:H->Prop} {Ge L:List V} {Z:H} {p cb fq j t:Nat} {u:V} {x:El},(∀Z Z',Ao Z->Fr AF Z Z'->Pt Z->Pt Z')->ov Ge->Ao Z->CM Z p (.bool false::Ge)->Pt Z->Oc Z u x.1->TF x->Bw B W Pt Ge j t ->
 CM Z cb [.ptr p 0]->CM Z fq L->L[1]? = some (.int .i64 (AA j))->∃Z',F [u,.ptr cb 0,.ptr fq 0] Z=some (.bool (decide (x.2=(2,t))),Z')/\Fr AF Z Z'
def X0:List V:=[.str ⟨0,0⟩,.int .i64 (AA 0),.bool false,.bool false,.int .i64 (AA 0),.int .i64 (AA 0),.nils,.nils,.int .i64 (AA 0),.nils,.int .i64 (AA 0)]
theorem Yc {sq:Bool} {t:Nat} {X:List El}:∀e∈(pk sq t X).2,e∈X:=by
 intro e he
 unfold pk at he
 split at he
 ·exact he
 ·split at he
  ·exact he
  ·exact List.mem_of_mem_eraseIdx he
theorem Yd {sq:Bool} {t:Nat} {X:List El}:(pk sq t X).2.length<=X.length:=by
 unfold pk
 split
 ·exact AL _
 ·split
  ·exact AL _
  ·exact List.length_eraseIdx_le ..
section
variable {E:EB} {D:Ai} {N M:Nat} {B W:List V->H->AH} {Pt:H->Prop} {Z0:H} {p nT:Nat} {ty:Nat->Ty} {Ge:List V} {tv:V} {x:Ty} {nf:Nat} {fd:Nat->Fd} {jt tg kd:Nat->Nat}
theorem Yz (hV:Xk E (D 15)) {C:List V->H->AH} (hC:WC B W C) (hI:Sy M C (D 63)) (hP:OR (D 66) (D 65)) {Z:H} (hF:jQ B W Pt Z p nT ty Ge tv x nf fd jt tg kd) {K k dp:Nat} (hK:x.kind=AA K) {gs:List Vc} (hs:Fs Z0 Z p K x gs) (hp0:p<Z0.next) (hk:k<nf) (hg:gs.length=nf) (hgk:gs[k]? = some Vc.abs) (hdp:dp<=16) {a:V} {X:List El} (ha:Rk Z0 Z a (X.map (·.1))) (hX:∀e∈X,TF e) (hXn:X.length<=5000) (hM:X.length<M) :
  ∃a' Z' v,(∀(K1:V->Nat->Nat->Nat->Nat->H->AH) (K3:V->Int->Nat->Nat->Nat->Nat->Nat->Nat->Nat->Nat->V->Int->Int->H->AH),Iv E D (AT E D) K1 K3 a (AA dp) Z0.next 0 (Z0.next+1) 0 (Z0.next+2) 0 (Z0.next+10) 0 x.fields (AA nf) (AA k) Z=K3 a' (AA dp) Z0.next 0 (Z0.next+1) 0 (Z0.next+2) 0 (Z0.next+10) 0 x.fields (AA nf) (AA k) Z') /\
   Fs Z0 Z' p K x (gs.set k v)/\Fr (fun b=>b=Z0.next+8) Z Z'/\Rk Z0 Z' a' ((pk (decide (K=7)) (tg k) X).2.map (·.1))/\Gd Z0 Z' (tg k) (kd k) (pk (decide (K=7)) (tg k) X).1 v:=by
 have ht:=hs.fr.tidy
 have lt:=hs.lt
 obtain⟨q1,q2,q3,q4,q5⟩:=hF.leaf k hk
 have rd:=fun J=>hF.row.all (E:=E) hk J
 obtain⟨Z1,e1,f1,a1,n1⟩:=Jo ht X0
 obtain⟨Z2,g2,f2,a2,n2⟩:=Ff (n:=11) (o:=0) (v := .agg (fd k).c) f1.tidy a1 (by unfold Fd.c;simp[X0,Ec,Bk,B4,ED,FE,Jk,(fd k).one2,(fd k).one3,(fd k).one5])
 have a2:CM Z2 Z.next (fd k).c:=a2
 have F2:Fr AF Z Z2:=f1.trans f2 (fun b hb e=>by omega)
 have ha2:Rk Z0 Z2 a (X.map (·.1)):=ha.fr F2 ht (fun _ h=>h.elim)
 have hF2:=hF.fr F2 ht
 have hs2:=hs.fr' F2
 obtain⟨Z3,g3,f3⟩:=hI (t:=tg k) F2.tidy ha2.ela hM (by omega) (cb:=Z0.next) (fq:=Z.next) fun Z' u e he f ou=>
  hC hF.ptf hF.t4 f.tidy (f.at_ hF2.at_ F2.tidy (fun h=>h)) (hF.ptf _ _ F2.tidy f hF2.pt) ou (hX e he) q5 (f.at_ hs2.cb F2.tidy (fun h=>h)) (f.at_ a2 F2.tidy (fun h=>h)) (by rw[<-q1];rfl)
 have F3:Fr AF Z Z3:=F2.trans f3 (fun _ _ h=>h)
 have ha3:=ha2.fr f3 F2.tidy (fun _ h=>h.elim)
 have hF3:=hF2.fr f3 F2.tidy
 have hs3:=hs2.fr' f3
 have a3:=f3.at_ a2 F2.tidy (fun h=>h)
 have dk:decide (k<nf)=true:=decide_eq_true hk
 have self:gs.set k Vc.abs=gs:=by
  refine G3 fun i=>?_
  rw[List.getElem?_set]
  split
  ·rename_i e
   subst e
   rw[if_pos (by omega),hgk]
  ·rfl
 unfold Fd.c at rd g2
 unfold X0 at e1
 have skip:(pk (decide (K=7)) (tg k) X)=(none,X)->(∀(K1:V->Nat->Nat->Nat->Nat->H->AH) (K3:V->Int->Nat->Nat->Nat->Nat->Nat->Nat->Nat->Nat->V->Int->Int->H->AH),Iv E D (AT E D) K1 K3 a (AA dp) Z0.next 0 (Z0.next+1) 0 (Z0.next+2) 0 (Z0.next+10) 0 x.fields (AA nf) (AA k) Z=K3 a (AA dp) Z0.next 0 (Z0.next+1) 0 (Z0.next+2) 0 (Z0.next+10) 0 x.fields (AA nf) (AA k) Z3) ->
   ∃a' Z' v,(∀(K1:V->Nat->Nat->Nat->Nat->H->AH) (K3:V->Int->Nat->Nat->Nat->Nat->Nat->Nat->Nat->Nat->V->Int->Int->H->AH),Iv E D (AT E D) K1 K3 a (AA dp) Z0.next 0 (Z0.next+1) 0 (Z0.next+2) 0 (Z0.next+10) 0 x.fields (AA nf) (AA k) Z=K3 a' (AA dp) Z0.next 0 (Z0.next+1) 0 (Z0.next+2) 0 (Z0.next+10) 0 x.fields (AA nf) (AA k) Z') /\
   Fs Z0 Z' p K x (gs.set k v)/\Fr (fun b=>b=Z0.next+8) Z Z'/\Rk Z0 Z' a' ((pk (decide (K=7)) (tg k) X).2.map (·.1))/\Gd Z0 Z' (tg k) (kd k) (pk (decide (K=7)) (tg k) X).1 v:=fun e hg=>by
  rw[e]
  exact⟨a,Z3,Vc.abs,hg,by rw[self];exact hs3,Fr.to_any F3,ha3,rfl⟩
 cases hix:jn (tg k) X 0 with
 | none=>
  rw[hix]at g3
  have g3:D 63 [a,.fn 64 [] [.ptr Z0.next 0,.ptr Z.next 0]] Z2=some (.int .i64 (BZ 0),Z3):=g3
  refine skip (by unfold pk;rw[hix]) fun K1 K3=>?_
  unfold Iv
  simp -implicitDefEqProofs only [↓rP,rA,AD,AG,AB,dk,↓rd,(fd k).one2,(fd k).one3,(fd k).one5,↓e1,↓g2,↓g3,show Cv (BZ 0) (AA 0)=true from rfl]
 | some i=>
  rw[hix]at g3
  have g3:D 63 [a,.fn 64 [] [.ptr Z0.next 0,.ptr Z.next 0]] Z2=some (.int .i64 (AA i),Z3):=g3
  obtain⟨_,e,he,het⟩:=SG hix
  rw[Lp]at he
  have hil:i<X.length:=(BE.1 he).1
  have l0:∀J:V->AH,BY E Z3 (Z0.next+1) 0 J=J (.int .i64 (AA K)):=fun J=>CU hs3.xb (by rw[<-hK];rfl)
  have i0:decide (i<0)=false:=decide_eq_false (by omega)
  cases hsk:(decide (K=7)&&decide (0<i))with
  | true=>
   obtain⟨h7,hpos⟩:=Bool.and_eq_true_iff.1 hsk
   refine skip (by unfold pk;rw[hix];simp only[hsk]) fun K1 K3=>?_
   unfold Iv
   simp -implicitDefEqProofs only [↓rP,rA,AD,AG,AB,dk,↓rd,(fd k).one2,(fd k).one3,(fd k).one5,↓e1,↓g2,↓g3,i0,hpos,↓l0,Bl,h7]
  | false=>
   obtain⟨ev,Z4,v,d4,⟨y2,y3,y4,y5,y8,y9,Iz,Kz,uW,nK⟩,f4,b4,gd4⟩:=fx (E:=E) (D:=D) (fv:=x.fields) (l:=AA nf) hV hF3 hs3 hk hg hdp ha3 he het (hX e (Ci he)) a3 (by omega) (by omega) (Bb x.oneF)
   have F4:Fr (fun b=>b=Z0.next+8) Z Z4:=(Fr.to_any F3).trans f4 (fun _ _ h=>h)
   have ha4:=ha3.fr f4 F3.tidy (fun b hb=>by omega)
   obtain⟨pvs,s1,s2,s3⟩:=ha4
   have hl4:(X.map (·.1)).length=X.length:=EA ..
   obtain⟨u,Z5,w,Z6,g5,uo,g6,wo,s6,nw,f6⟩:=hP F4.tidy s1 (Sg fun j c hj=>by
    have hj':=(BE.1 hj).1
    have hlen:=s1.length
    obtain⟨c',hc',oc,_⟩:=s3 j _ (Am (by omega))
    rw[hj]at hc';cases hc'
    exact oc.one) (i:=i) (by omega) (by omega)
   have gd:∀J:Bp->H->AH,Ch (AT E D P7 TB [(2,a),(3,.int .i64 (AA dp)),(4,.ptr Z0.next 0),(5,.ptr (Z0.next+1) 0),(8,.ptr (Z0.next+2) 0),(9,.ptr (Z0.next+10) 0),(10,.int .i64 (AA k)),(11,.ptr Z.next 0),(12,.int .i64 (AA i)),(23,x.fields),(24,.int .i64 (AA nf)),(25,.int .i64 (AA k))] Z3) J=J ev Z4:=fun J=>by rw[d4];rfl
   have z2:∀J:V->AH,BO ev 2 J=J a:=fun J=>BQ y2 (Bb ha.ela.one)
   have z3:∀J:V->AH,BO ev 3 J=J (.int .i64 (AA dp)):=fun J=>BQ y3 rfl
   have z4:∀J:V->AH,BO ev 4 J=J (.ptr Z0.next 0):=fun J=>BQ y4 rfl
   have z5:∀J:V->AH,BO ev 5 J=J (.ptr (Z0.next+1) 0):=fun J=>BQ y5 rfl
   have z8:∀J:V->AH,BO ev 8 J=J (.ptr (Z0.next+2) 0):=fun J=>BQ y8 rfl
   have z9:∀J:V->AH,BO ev 9 J=J (.ptr (Z0.next+10) 0):=fun J=>BQ y9 rfl
   have z12:∀J:V->AH,BO ev 12 J=J (.int .i64 (AA i)):=fun J=>BQ Iz rfl
   have z23:∀J:V->AH,BO ev 23 J=J x.fields:=fun J=>BQ Kz (Bb x.oneF)
   have z24:∀J:V->AH,BO ev 24 J=J (.int .i64 (AA nf)):=fun J=>BQ uW rfl
   have z25:∀J:V->AH,BO ev 25 J=J (.int .i64 (AA k)):=fun J=>BQ nK rfl
   have lt3:Z0.next+12<=Z4.next:=BJ hs3.lt f4.le
   have hs4:Fs Z0 Z4 p K x (gs.set k v):=by
    have fr4:Fr AF Z0 Z4:=hs3.fr.trans f4 (fun b hb e=>by omega)
    refine⟨fr4,f4.at_ hs3.cb F3.tidy (fun e=>by omega),f4.at_ hs3.xb F3.tidy (fun e=>by omega),f4.at_ hs3.rb F3.tidy (fun e=>by omega),?_,b4,lt3⟩
    rw[List.length_set]
    exact f4.at_ hs3.qv F3.tidy (fun e=>by omega)
   have F6:Fr (fun b=>b=Z0.next+8) Z Z6:=F4.trans (Fr.to_any f6) (fun _ _ h=>h)
   have hpk:pk (decide (K=7)) (tg k) X=(some e,X.eraseIdx i):=by unfold pk;rw[hix];simp only[hsk,he]
   refine⟨w,Z6,v,fun K1 K3=>?_,hs4.fr' f6,F6,?_,?_⟩
   ·have step:∀b7:Bool,decide (K=7)=b7->(b7&&decide (0<i))=false->Iv E D (AT E D) K1 K3 a (AA dp) Z0.next 0 (Z0.next+1) 0 (Z0.next+2) 0 (Z0.next+10) 0 x.fields (AA nf) (AA k) Z=K3 w (AA dp) Z0.next 0 (Z0.next+1) 0 (Z0.next+2) 0 (Z0.next+10) 0 x.fields (AA nf) (AA k) Z6:=fun b7 h7 hb=>by
     have ad:=CG (show i+1<=9223372036854775807 by omega)
     cases hpos:decide (0<i)with
     | true=>
      rw[hpos,Fa]at hb
      subst hb
      unfold Iv
      simp -implicitDefEqProofs only [↓rP,rA,AD,AG,AB,dk,↓rd,(fd k).one2,(fd k).one3,(fd k).one5,↓e1,↓g2,↓g3,i0,hpos,↓l0,Bl,h7,↓gd,↓z2,↓z3,↓z4,↓z5,↓z8,↓z9,↓z12,↓z23,↓z24,↓z25,↓g5,↓Aj uo,ad,↓g6,↓Aj wo]
     | false=>
      unfold Iv
      simp -implicitDefEqProofs only [↓rP,rA,AD,AG,AB,dk,↓rd,(fd k).one2,(fd k).one3,(fd k).one5,↓e1,↓g2,↓g3,i0,hpos,↓gd,↓z2,↓z3,↓z4,↓z5,↓z8,↓z9,↓z12,↓z23,↓z24,↓z25,↓g5,↓Aj uo,ad,↓g6,↓Aj wo]
    exact step _ rfl hsk
   ·rw[hpk]
    refine⟨pvs.eraseIdx i,?_,fun b hb => .inr (BJ lt3 (nw b hb)),fun j c hj=>?_⟩
    ·rw[EA,tu hil,<-hl4];exact s6
    ·rw[CR,List.getElem?_eraseIdx]at hj
     rw[List.getElem?_eraseIdx]
     split at hj
     ·rename_i hlt
      rw[if_pos hlt]
      obtain⟨u,a,b,c⟩:=s3 j c (by rw[CR];exact hj)
      exact⟨u,a,b.fr0 f6 F4.tidy,c⟩
     ·rename_i hlt
      rw[if_neg hlt]
      obtain⟨u,a,b,c⟩:=s3 (j+1) c (by rw[CR];exact hj)
      exact⟨u,a,b.fr0 f6 F4.tidy,c⟩
   ·rw[hpk]
    exact gd4.fr (S:=AF) f6 F4.tidy (fun _ _ h=>h)
end
section
variable {E:EB} {D:Ai} {N M:Nat} {B W:List V->H->AH} {Pt:H->Prop} {Z0:H} {p nT:Nat} {ty:Nat->Ty} {Ge:List V} {tv:V} {x:Ty} {nf:Nat} {fd:Nat->Fd} {jt tg kd:Nat->Nat}
theorem Y0 (hV:Xk E (D 15)) {C:List V->H->AH} (hC:WC B W C) (hI:Sy M C (D 63)) (hP:OR (D 66) (D 65)) (ht0:Ao Z0) (hF0:jQ B W Pt Z0 p nT ty Ge tv x nf fd jt tg kd) {K dp:Nat} (hK:x.kind=AA K) (hp0:p<Z0.next) (hnf:nf<=10000) (hdp:dp<=16) :
    ∀(ts:List Nat) (k n':Nat) (Z:H) (a:V) (X:List El) (gs:List Vc) (os:List (Option El)),k+ts.length=nf->(∀i t,ts[i]? = some t->t=tg (k+i))->ts.length<n'->Fs Z0 Z p K x gs->gs.length=nf->(∀i,k<=i->i<nf->gs[i]? = some Vc.abs)->os.length=k->(∀i,i<k->∃o v,os[i]? = some o/\gs[i]? = some v/\Gd Z0 Z (tg i) (kd i) o v)->Rk Z0 Z a (X.map (·.1))->(∀e∈X,TF e)->X.length<=5000->X.length<M ->
      ∃a' Z' gs',S6 E D (AT E D) N n' a (AA dp) Z0.next 0 (Z0.next+1) 0 (Z0.next+2) 0 (Z0.next+10) 0 x.fields (AA nf) (AA k) Z=cY E D (AT E D) N a' (Z0.next+2) 0 (Z0.next+10) 0 Z' /\
        Fs Z0 Z' p K x gs'/\gs'.length=nf/\Rk Z0 Z' a' ((NC (decide (K=7)) ts X).2.map (·.1))/\(∀i,i<nf->∃o v,(os++(NC (decide (K=7)) ts X).1)[i]? = some o/\gs'[i]? = some v/\Gd Z0 Z' (tg i) (kd i) o v):=by
  intro ts
  induction ts with
  | nil=>
    intro k n' Z a X gs os hkn _ hn' hs hg _ ho hos ha _ _ _
    obtain⟨n',rfl⟩:∃q,n'=q+1:=⟨n'-1,by omega⟩
    have hk:k=nf:=hkn
    refine⟨a,Z,gs,?_,hs,hg,ha,fun i hi=>?_⟩
    · have d1:decide (k<nf)=false:=decide_eq_false (by omega)
      have key:∀K1 K3,Iv E D (AT E D) K1 K3 a (AA dp) Z0.next 0 (Z0.next+1) 0 (Z0.next+2) 0 (Z0.next+10) 0 x.fields (AA nf) (AA k) Z=K1 a (Z0.next+2) 0 (Z0.next+10) 0 Z:=by
        intro K1 K3
        unfold Iv
        simp -implicitDefEqProofs only [↓rP,rA,AD,AG,AB,d1]
      exact key _ _
    · obtain⟨o,v,h1,h2,h3⟩:=hos i (by omega)
      exact⟨o,v,by rw[show (NC (decide (K=7)) [] X).1=[] from rfl,CZ];exact h1,h2,h3⟩
  | cons t ts ih=>
    intro k n' Z a X gs os hkn hts hn' hs hg hga ho hos ha hX hX5 hXM
    obtain⟨n',rfl⟩:∃q,n'=q+1:=⟨n'-1,by omega⟩
    rw[As]at hkn hn'
    have ht:t=tg k:=hts 0 t rfl
    subst ht
    obtain⟨a1,Z1,v,g1,hs1,f1,ha1,gd1⟩:=Yz (E:=E) (D:=D) hV hC hI hP (hF0.fr hs.fr ht0) hK hs hp0 (by omega) hg (hga k (AL _) (by omega)) hdp ha hX hX5 hXM
    have pl:(pk (decide (K=7)) (tg k) X).2.length<=X.length:=Yd
    obtain⟨a',Z',gs',g',h1,h2,h3,h4⟩:=ih (k+1) n' Z1 a1 (pk (decide (K=7)) (tg k) X).2 (gs.set k v) (os++[(pk (decide (K=7)) (tg k) X).1]) (by omega) (fun i u hu=>by rw[hts (i+1) u hu];congr 1;omega) (by omega) hs1 (by rw[List.length_set];exact hg)
      (fun i h1 h2=>by rw[List.getElem?_set_ne (by omega)];exact hga i (by omega) h2) (by rw[AS,ho];rfl)
      (fun i hi=>by
        by_cases hik:i=k
        · subst hik
          refine⟨_,v,by rw[BL (by omega),ho,G0];rfl,by rw[List.getElem?_set_self (by omega)],gd1⟩
        · obtain⟨o,w,h1,h2,h3⟩:=hos i (by omega)
          exact⟨o,w,by rw[B6 (by omega)];exact h1,by rw[List.getElem?_set_ne (by omega)];exact h2,h3.fr f1 hs.fr.tidy (fun b hb e=>by omega)⟩)
      ha1 (fun e he=>hX e (Yc e he)) (by omega) (by omega)
    refine⟨a',Z',gs',?_,h1,h2,h3,fun i hi=>?_⟩
    · rw[<-g']
      refine(g1 _ _).trans ?_
      show S6 E D (AT E D) N n' a1 (AA dp) Z0.next 0 (Z0.next+1) 0 (Z0.next+2) 0 (Z0.next+10) 0 x.fields (AA nf) (CK .i64 (AA k) (AA 1)) Z1=_
      rw[CG (show k+1<=9223372036854775807 by omega)]
    · obtain⟨o,w,q1,q2,q3⟩:=h4 i hi
      refine⟨o,w,?_,q2,q3⟩
      rw[Rf]at q1
      exact q1
theorem Vl:∀n:Nat,Kv (AW n Vc.abs)=(AW n EW).flatten
 | 0=>rfl
 | n+1=>by
  rw[FA,FA,Ev,<-Vl n];rfl
theorem oH {y:AO} {em:Bp} {v:V} {b n:Nat} {c:Ua} (hv:v = .sl b 0 n c) (h:B8 em y=v):BN (.len false y) em=some (.int .i64 (AA n)):=by
 show (match B8 em y with
  | .nils=>some (V.int .i64 0)
  | .sl _ _ n _=>some (.int .i64 n)
  | .sle _ _ _ _=>some (.int .i64 0)
  | _=>none)=_
 rw[h,hv];rfl
theorem oE {el:TypeId} {y z:AO} {em:Bp} {n id:Nat} (hy:B8 em y = .int .i64 (AA n)) (hz:B8 em z = .int .i64 (AA n)) (hn:n<=10000):CP (.mkslice el 6 96 EW y z) em id=some (.sl id 0 n (.ex n),.cells (Kv (AW n Vc.abs))):=by
 show (match B8 em y,B8 em z with
  | .int .i64 n,.int .i64 c=>if 0<=n/\n<=c/\c*(96:Nat)<=281474976710656/\c<=1000000000000 then some (V.sl id 0 n.toNat (.ex c.toNat),FW.cells (AW c.toNat EW).flatten)else none
  | _,_=>none)=_
 rw[hy,hz]
 simp only[]
 rw[if_pos (by
  have:(AA n:Int)=(n:Int):=rfl
  refine⟨?_,?_,?_,?_⟩<;>omega),Vl]
 rfl
theorem XH {Z:H} {K dp:Nat} {l:V} (ht:Ao Z) (hK:x.kind=AA K) (hr:Fj Z 11 nf x.fields fun k=>(fd k).c) (h0:0<nf) (hnf:nf<=10000) (lo:l.one=true) :
  ∃Z',(∀K2:V->Int->Nat->Nat->Nat->Nat->Nat->Nat->Nat->Nat->V->Int->Int->H->AH,Ss E D (AT E D) K2 (.ptr p 0) x.kind x.tags x.has x.hasLow x.hasHigh x.conMore x.low x.high x.items x.fields x.root x.more x.of_ l (AA dp) Z=K2 l (AA dp) Z.next 0 (Z.next+1) 0 (Z.next+2) 0 (Z.next+10) 0 x.fields (AA nf) (AA 0) Z') /\
   Fs Z Z' p K x (AW nf Vc.abs):=by
 obtain⟨fb,fc,fL,hfv,hfa,_⟩:∃b c L,x.fields = .sl b 0 nf c/\CM Z b L/\True:=by
  rcases hr.is with ⟨h,_⟩|⟨b,c,L,h1,h2,_⟩
  ·omega
  ·exact⟨b,c,L,h1,h2,trivial⟩
 obtain⟨Z1,e1,f1,a1,n1⟩:=Jo ht [.ptr p 0]
 obtain⟨Z2,e2,f2,a2,n2⟩:=Jo f1.tidy x.c
 obtain⟨Z3,e3,f3,a3,n3⟩:=Jo f2.tidy EW
 have F3:Fr AF Z Z3:=(f1.trans f2 (fun _ _ h=>h)).trans f3 (fun _ _ h=>h)
 have n13:Z3.next=Z.next+3:=by omega
 have c1:CM Z3 Z.next [.ptr p 0]:=f3.at_ (f2.at_ a1 f1.tidy (fun h=>h)) f2.tidy (fun h=>h)
 have c2:CM Z3 (Z.next+1) x.c:=by rw[<-n1];exact f3.at_ a2 f2.tidy (fun h=>h)
 have c3:CM Z3 (Z.next+2) EW:=by rw[show Z.next+2=Z2.next by omega];exact a3
 let Z4:H:=⟨Z3.next+9,(Z3.next+7,.cells EW)::(Z3.next+5,.cells (Kv (AW nf Vc.abs)))::Z3.bl⟩
 have f4:Fr AF Z3 Z4:=by
  refine⟨fun k hk=>?_,H3 _ _,fun k hk _=>?_⟩
  ·have hk:Z3.next+9<=k:=hk
   show BG ((Z3.next+7,_)::(Z3.next+5,_)::Z3.bl) k=none
   rw[Av,if_neg (by simp only[];omega),Av,if_neg (by simp only[];omega)];exact f3.tidy k (by omega)
  ·show BG ((Z3.next+7,_)::(Z3.next+5,_)::Z3.bl) k=_
   rw[Av,if_neg (by simp only[];omega),Av,if_neg (by simp only[];omega)]
 have b5:CM Z4 (Z3.next+5) (Kv (AW nf Vc.abs)):=by
  show BG ((Z3.next+7,_)::(Z3.next+5,_)::Z3.bl) _=_
  rw[Av,if_neg (by simp only[];omega),Av,if_pos rfl]
 have b7:CM Z4 (Z3.next+7) EW:=by
  show BG ((Z3.next+7,_)::(Z3.next+5,_)::Z3.bl) _=_
  rw[Av,if_pos rfl]
 have F4:Fr AF Z Z4:=F3.trans f4 (fun _ _ h=>h)
 obtain⟨Z5,g5,f5,a5⟩:∃Z5,Db E D (.store 6 (.tmp 9) (.tmp 21)) [(9,.ptr (Z3.next+7) 0),(21,.agg [.int .i64 (AA K),.int .i64 (AA 0),.nils,.sl (Z3.next+5) 0 nf (.ex nf),.int .i64 (AA 0),.nils])] Z4=some (.dead,Z5)/\Fr (fun b=>b=Z3.next+7) Z4 Z5/\CM Z5 (Z3.next+7) [.int .i64 (AA K),.int .i64 (AA 0),.nils,.sl (Z3.next+5) 0 nf (.ex nf),.int .i64 (AA 0),.nils]:=by
  obtain⟨Z5,r1,r2,r3⟩:=KI (E:=E) (D:=D) (n:=6) (x := .tmp 9) (y := .tmp 21) (e:=[(9,.ptr (Z3.next+7) 0),(21,.agg [.int .i64 (AA K),.int .i64 (AA 0),.nils,.sl (Z3.next+5) 0 nf (.ex nf),.int .i64 (AA 0),.nils])]) F4.tidy b7 rfl (show (B8 [(9,.ptr (Z3.next+7) 0),(21,.agg [.int .i64 (AA K),.int .i64 (AA 0),.nils,.sl (Z3.next+5) 0 nf (.ex nf),.int .i64 (AA 0),.nils])] (.tmp 21)).cells=[.int .i64 (AA K),.int .i64 (AA 0),.nils,.sl (Z3.next+5) 0 nf (.ex nf),.int .i64 (AA 0),.nils] from rfl) rfl
  exact⟨Z5,r1,r2,r3⟩
 have fv1:=x.oneF
 have fb2:V.beq x.fields x.fields=true:=by rw[hfv];cases fc<;>simp[V.beq]
 have k0:x.c[0]? = some (.int .i64 (AA K)):=by rw[<-hK];rfl
 have go:E8 E D Z3 9 0 AF P8 TC ⟨[(2,l),(3,.int .i64 (AA dp)),(4,.ptr Z.next 0),(5,.ptr (Z.next+1) 0),(8,.ptr (Z.next+2) 0)],Z3.next+9,[Z3.bl],[],0,[]⟩ _ Z5:=
  Cp (.ptr (Z.next+1) 0) rfl rfl <|
  J3 (.int .i64 (AA K)) (CW (S:=AF) f3.tidy) rfl (EE (b:=Z.next+1) (off:=0) rfl c2 k0 f3.tidy (fun h=>h) (CX _ rfl)) fun _ r1=>
  Cp (.ptr (Z.next+1) 9) rfl rfl <|
  J3 x.fields r1 rfl (EE (b:=Z.next+1) (off:=9) rfl c2 rfl f3.tidy (fun h=>h) fb2) fun _ r2=>
  Cp (.int .i64 (AA nf)) rfl (oH (b:=fb) (c:=fc) hfv rfl) <|
  XG (.sl (Z3.next+5) 0 nf (.ex nf)) (.cells (Kv (AW nf Vc.abs))) 32 r2 rfl (by decide) (by decide) (oE rfl rfl hnf) fun _ r3=>
  Cp (.agg [.int .i64 (AA K),.int .i64 (AA 0),.nils,.sl (Z3.next+5) 0 nf (.ex nf),.int .i64 (AA 0),.nils]) rfl rfl <|
  XG (.ptr (Z3.next+7) 0) (.cells EW) 160 r3 rfl (by decide) (by decide) rfl fun _ r4=>
  jo .dead r4 rfl (by decide) f5 (fun b h e=>by omega) (fun b e h1 h2=>by subst e;rw[Eu];decide) g5 fun _ _ _ r5=>
  Hx r5
 obtain⟨q1,q2⟩:=GK (ops:=P8) go
 have q8:Z3.next+5=Z.next+8:=by omega
 have q10:Z3.next+7=Z.next+10:=by omega
 have F5:Fr AF Z Z5:=F3.trans q2 (fun _ _ h=>h)
 have s5:Z4.next<=Z5.next:=f5.le
 have s4:Z4.next=Z3.next+9:=rfl
 refine⟨Z5,fun K2=>?_,F5,q2.at_ c1 f3.tidy (fun h=>h),q2.at_ c2 f3.tidy (fun h=>h),q2.at_ c3 f3.tidy (fun h=>h),?_,?_,by omega⟩
 ·obtain⟨ev,d,y2,y3,y4,y5,y8,y9⟩:∃ev,AT E D P8 TC [(2,l),(3,.int .i64 (AA dp)),(4,.ptr Z.next 0),(5,.ptr (Z.next+1) 0),(8,.ptr (Z.next+2) 0)] Z3=some (ev,Z5)/\Go.Og.look ev 2=some l/\Go.Og.look ev 3=some (.int .i64 (AA dp))/\Go.Og.look ev 4=some (.ptr Z.next 0)/\Go.Og.look ev 5=some (.ptr (Z.next+1) 0)/\Go.Og.look ev 8=some (.ptr (Z.next+2) 0)/\Go.Og.look ev 9=some (.ptr (Z3.next+7) 0):=⟨_,q1,rfl,rfl,rfl,rfl,rfl,rfl⟩
  rw[q10]at y9
  have gd:∀J:Bp->H->AH,Ch (AT E D P8 TC [(2,l),(3,.int .i64 (AA dp)),(4,.ptr Z.next 0),(5,.ptr (Z.next+1) 0),(8,.ptr (Z.next+2) 0)] Z3) J=J ev Z5:=fun J=>by rw[d];rfl
  have z2:∀J:V->AH,BO ev 2 J=J l:=fun J=>BQ y2 (Bb lo)
  have z3:∀J:V->AH,BO ev 3 J=J (.int .i64 (AA dp)):=fun J=>BQ y3 rfl
  have z4:∀J:V->AH,BO ev 4 J=J (.ptr Z.next 0):=fun J=>BQ y4 rfl
  have z5:∀J:V->AH,BO ev 5 J=J (.ptr (Z.next+1) 0):=fun J=>BQ y5 rfl
  have z8:∀J:V->AH,BO ev 8 J=J (.ptr (Z.next+2) 0):=fun J=>BQ y8 rfl
  have z9:∀J:V->AH,BO ev 9 J=J (.ptr (Z.next+10) 0):=fun J=>BQ y9 rfl
  have l9:∀J:V->AH,BY E Z5 (Z.next+1) (Ar 0 9) J=J x.fields:=fun J=>CU (q2.at_ c2 f3.tidy (fun h=>h)) rfl
  have sl:=hr.len.2
  have ho:allOne (V.cells (.ptr p 0))=true:=rfl
  have e1:Bn Z (.cells (V.cells (.ptr p 0)))=Z1:=e1
  have hx:=x.oneT
  have hx2:=x.oneI
  unfold Ty.c at e2
  unfold EW at e3
  have n2':Z2.next=Z.next+2:=by omega
  unfold Ss Gk
  simp -implicitDefEqProofs only [↓rP,rA,AD,AG,AB,D7 ho,↓e1,hx,hx2,fv1,D7,↓e2,↓e3,n1,n2',↓gd,↓z2,↓z3,↓z4,↓z5,↓z8,↓z9,↓l9,↓sl]
 ·rw[Ja,<-q8,<-q10];exact a5
 ·rw[<-q8];exact f5.at_ b5 F4.tidy (fun e=>by omega)
end
def rwc (bs:List V):List V:=bs.flatMap fun b=>[.int .i64 (AA 0),b]
theorem ey (bs:List V) (b:V):rwc (bs++[b])=rwc bs++[.int .i64 (AA 0),b]:=by unfold rwc;simp
def Ki (Z0 Z:H) (m:V) (ES:List (List Nat)):Prop:=∃bs:List V,JV Z 2 ES.length m (rwc bs)/\bs.length=ES.length/\(∀b,A0 m b->Z0.next+12<=b)/\∀(i:Nat) (e:List Nat),ES[i]? = some e->∃b,bs[i]? = some b/\Oc Z b e/\(∀c,A0 b c->Z0.next+12<=c)/\∀c,A0 b c->¬A0 m c
theorem Ki.nil (Z0 Z:H):Ki Z0 Z .nils []:=⟨[],JV.nil Z 2,rfl,fun _ h=>h.elim,fun i e h=>by simp at h⟩
theorem Ki.one {Z0 Z:H} {m:V} {ES:List (List Nat)} (h:Ki Z0 Z m ES):m.one=true:=by obtain⟨_,h,_⟩:=h;exact h.one
theorem Ki.fr {S:Nat->Prop} {Z0 Z Z':H} {m:V} {ES:List (List Nat)} (h:Ki Z0 Z m ES) (f:Fr S Z Z') (ht:Ao Z) (hS:∀b,Z0.next+12<=b->b<Z.next->¬S b):Ki Z0 Z' m ES:=by
 obtain⟨bs,h1,h2,h3,h4⟩:=h
 exact⟨bs,h1.fr f ht (fun b hb=>hS b (h3 b hb) (h1.lt ht hb)),h2,h3,fun i e hi=>by
  obtain⟨b,q1,q2,q3,q4⟩:=h4 i e hi
  exact⟨b,q1,q2.fr f ht (fun c hc=>hS c (q3 c hc) (q2.lt ht c hc)),q3,q4⟩⟩
theorem ADQ {x:AO} {em:Bp} {z b:V} (hx:B8 em x=b) (h:b.one=true):BN (.build [z,.nils] [(1,1,x)]) em=some (.agg [z,b]):=by
 have h12:b.live=true/\b.cells=[b]:=by cases b<;>first | exact⟨rfl,rfl⟩ | cases h
 show (match Ei [(1,1,B8 em x)] [z,V.nils]with
  | some l=>some (V.agg l)
  | none=>none)=_
 rw[hx]
 unfold Ei
 rw[h12.1,h12.2]
 rfl
theorem oh {ty:TypeId} {x:AO} {em:Bp} {id:Nat} {b z y:V} (hx:B8 em x = .agg [z,b]) (hz:z.one=true) (h:b.one=true):CP (.buildSlice ty 1 [y,.nils] [(0,2,x)]) em id=some (.sl id 0 1 (.ex 1),.cells [z,b]):=by
 show (match Ei [(0,2,B8 em x)] [y,V.nils]with
  | some l=>if allOne l then some (V.sl id 0 1 (.ex 1),FW.cells l)else none
  | none=>none)=_
 rw[hx]
 show (if(z.one&&(b.one&&true))=true then _ else none)=_
 rw[hz,h];rfl
section
variable {E:EB} {D:Ai} {N:Nat}
theorem fH (hC:Pu (D 36)) {Z0 Z:H} {qb rb:Nat} {m u a:V} {c0 c1 c2 c3 r:V} {ES:List (List Nat)} {e:List Nat} {l k:Int} (ht:Ao Z) (aq:CM Z qb [c0,c1,c2,c3,r,m]) (hm:Ki Z0 Z m ES) (hn:ES.length<=10000) (hqb:Z0.next<=qb/\qb<Z0.next+12) (h12:Z0.next+12<=Z.next) (hu:Oc Z u e) (he:e.length<=1000000) (ao:a.one=true) :
    ∃ev Z' m',AT E D P6 OX [(8,.ptr rb 0),(9,.ptr qb 0),(14,u),(65,a),(66,.int .i64 l),(67,.int .i64 k)] Z=some (ev,Z') /\
      (Go.Og.look ev 8=some (.ptr rb 0)/\Go.Og.look ev 9=some (.ptr qb 0)/\Go.Og.look ev 65=some a/\Go.Og.look ev 66=some (.int .i64 l)/\Go.Og.look ev 67=some (.int .i64 k)) /\
      CM Z' qb [c0,c1,c2,c3,r,m']/\Ki Z0 Z' m' (ES++[e])/\(∀c,A0 m' c->Z.next<=c)/\Fr (fun b=>b=qb\/A0 m b) Z Z':=by
  have fw:Fr AF Z ⟨Z.next+9,Z.bl⟩:=(CW (E:=E) (n:=9) (S:=AF) ht).fr
  obtain⟨b,Z1,g1,ob,nb,f1⟩:=hC fw.tidy (hu.fr0 fw ht) he
  have F1:Fr AF Z Z1:=fw.trans f1 (fun _ _ h=>h)
  have n1:Z.next+9<=Z1.next:=f1.le
  have bo:=ob.one
  let Z2:H:=⟨Z1.next,(Z.next+5,.cells [.int .i64 (AA 0),b])::Z1.bl⟩
  have F2:Fr AF Z Z2:=⟨fun c hc=>by
    have hc:Z1.next<=c:=hc
    show BG ((Z.next+5,_)::Z1.bl) c=none
    rw[Av,if_neg (by simp only[];omega)];exact f1.tidy c hc,F1.le,fun c hc _=>by
    show BG ((Z.next+5,_)::Z1.bl) c=_
    rw[Av,if_neg (by simp only[];omega)];exact F1.same c hc (fun h=>h)⟩
  have a2:CM Z2 (Z.next+5) [.int .i64 (AA 0),b]:=by
    show BG ((Z.next+5,_)::Z1.bl) _=_
    rw[Av,if_pos rfl]
  have ob2:Oc Z2 b e:=by
    rcases ob with h|⟨q,o,c,M,rfl,hc,ha,h1,h2⟩
    · exact .inl h
    · have hq:Z.next+9<=q:=nb q rfl
      refine .inr ⟨q,o,c,M,rfl,hc,?_,h1,h2⟩
      show BG ((Z.next+5,_)::Z1.bl) q=_
      rw[Av,if_neg (by simp only[];omega)];exact ha
  obtain⟨bs,d1,hl,hnm,hbs⟩:=hm
  have d2:=d1.fr F2 ht (fun _ _ h=>h)
  obtain⟨Z3,g3,a3,n3,f3⟩:=OI (E:=E) (esz:=2) (bytes:=32) (n:=1) d2 F2.tidy (x := .sl (Z.next+5) 0 1 (.ex 1)) (m:=[.int .i64 (AA 0),b]) (.inr ⟨_,0,_,_,rfl,a2,by simp,rfl⟩) (by decide) (by simp[Bk,B4,bo,ED]) (by
    unfold CO
    simp only[AJ,BB];omega)
  have mlt:∀c,A0 m c->c<Z.next:=fun c hc=>d1.lt ht hc
  have aq2:=F2.at_ aq ht (fun h=>h)
  have aq3:=f3.at_ aq2 F2.tidy (fun e=>by have:=hnm qb e;omega)
  have F3:Fr (A0 m) Z Z3:=(Fr.to_any F2).trans f3 (fun _ _ h=>h)
  obtain⟨Z4,g4,f4,a4⟩:∃Z4,Db E D (.store 1 (.tmp 79) (.tmp 78)) [(79,.ptr qb 5),(78,.sl Z2.next 0 (ES.length+1) (.op 2))] Z3=some (.dead,Z4)/\Fr (fun k=>k=qb) Z3 Z4/\CM Z4 qb [c0,c1,c2,c3,r,.sl Z2.next 0 (ES.length+1) (.op 2)]:=by
    obtain⟨Z4,r1,r2,r3⟩:=KI (E:=E) (D:=D) (n:=1) (x := .tmp 79) (y := .tmp 78) (e:=[(79,.ptr qb 5),(78,.sl Z2.next 0 (ES.length+1) (.op 2))]) F3.tidy aq3 rfl (show (B8 [(79,.ptr qb 5),(78,.sl Z2.next 0 (ES.length+1) (.op 2))] (.tmp 78)).cells=[.sl Z2.next 0 (ES.length+1) (.op 2)] from rfl) rfl
    exact⟨Z4,r1,r2,r3⟩
  have uo:=hu.one
  have mb:V.beq m m=true:=by
    rcases d1 with (⟨_,h,_⟩|⟨q,h,_⟩)|⟨q,h,_⟩<;>subst h
    · rfl
    · simp[V.beq]
    · simp[V.beq]
  have go:Hd (QB E Z 9 OX _ Z4) E D Z 9 0 P6 OX ⟨[(8,.ptr rb 0),(9,.ptr qb 0),(14,u),(65,a),(66,.int .i64 l),(67,.int .i64 k)],Z.next+9,[Z.bl],[],0,[]⟩:=
    Cr (.ptr qb 5) rfl rfl <|
    VN m (CW (S:=A0 m) ht) rfl (EE (b:=qb) (off:=5) rfl aq rfl ht (fun e=>by have:=hnm qb e;omega) mb) fun r1=>
    Cr u rfl (EJ rfl (Bb uo)) <|
    SI b r1 rfl (by decide) (S':=AF) f1 (fun _ _ h=>h.elim) (fun _ h _ _=>h.elim) (D3 (vs:=[u]) rfl (by rw[Bh,Bb uo];rfl) g1) fun _ _ r2=>
    Cr (.agg [.int .i64 (AA 0),b]) rfl (ADQ rfl bo) <|
    vw (.sl (Z.next+5) 0 1 (.ex 1)) (.cells [.int .i64 (AA 0),b]) 32 r2 rfl (by decide) (by decide) (oh rfl rfl bo) fun _ r3=>
    SI (.sl Z2.next 0 (ES.length+1) (.op 2)) r3 rfl (by decide) f3 (fun _ _ h=>h) (fun c h h1 _=>by have:=mlt c h;omega) (NM rfl rfl g3) fun _ _ r4=>
    Cr (.ptr qb 5) rfl rfl <|
    fu .dead r4 rfl (by decide) f4 (fun c h h1 _=>by omega) g4 (fun x hx=>by
      rcases Al.1 hx with rfl|hx
      · show Nq OX 1 [8,6,3] []=false
        decide
      · cases hx)
  have d:=Nz (ops:=P6) go
  have F4:Fr (fun b=>b=qb\/A0 m b) Z Z4:=(F3.mono fun _ _ h => .inr h).trans (f4.mono fun _ _ h => .inl h) (fun _ _ h=>h)
  refine⟨_,Z4,_,d,⟨rfl,rfl,rfl,rfl,rfl⟩,a4,⟨bs++[b],?_,by rw[AS,AS,hl];rfl,fun c hc=>by cases hc;show Z0.next+12<=Z1.next;omega,fun i e' hi=>?_⟩,fun c hc=>by cases hc;show Z.next<=Z1.next;omega,F4⟩
  · rw[AS,ey]
    exact .inl (.inr ⟨Z2.next,rfl,f4.at_ a3 F3.tidy (fun e=>by have:Z1.next=qb:=e;omega),by simp,by rw[AS,d1.length];simp;omega⟩)
  · have nnew:∀w e',Oc Z2 w e'->∀c,A0 w c->¬A0 (V.sl Z2.next 0 (ES.length+1) (.op 2)) c:=fun w e' ow c hc hc'=>by
      have:=ow.lt F2.tidy c hc
      have hc':c=Z2.next:=hc'
      omega
    by_cases hil:i<ES.length
    · rw[B6 hil]at hi
      obtain⟨b',q1,q2,q3,q4⟩:=hbs i e' hi
      have q22:=q2.fr0 F2 ht
      exact⟨b',by rw[B6 (by omega)];exact q1,(q22.fr f3 F2.tidy q4).fr f4 F3.tidy (fun c hc e=>by have:=q3 c hc;omega),q3,nnew _ _ q22⟩
    · have hlt:=(BE.1 hi).1
      rw[AS,EI]at hlt
      have:i=ES.length:=by omega
      subst this
      rw[BL (AL _)]at hi
      simp at hi
      subst hi
      refine⟨b,by rw[BL (by omega)];simp[hl],(ob2.fr f3 F2.tidy (fun c hc e=>by have:Z.next+9<=c:=nb c hc;have:=mlt c e;omega)).fr f4 F3.tidy (fun c hc e=>by have:Z.next+9<=c:=nb c hc;omega),fun c hc=>by have:Z.next+9<=c:=nb c hc;omega,nnew _ _ ob2⟩
end
def nZ (ES:List (List Nat)):Nat:=match ES with
 | []=>0
 | _=>1
def au (B W:List V->H->AH) (M:Nat) (F:List V->H->AH):Prop:=∀{Pt:H->Prop} {Z:H} {p nT nf K dp:Nat} {ty:Nat->Ty} {Ge:List V} {tv l:V} {x:Ty} {fd:Nat->Fd} {jt tg kd:Nat->Nat} {X:List El} {ts:List Nat},Ao Z->jQ B W Pt Z p nT ty Ge tv x nf fd jt tg kd->x.kind=AA K->p<Z.next->0<nf->nf<=1000->dp<=16->Rk Z Z l (X.map (·.1))->(∀e∈X,TF e)->X.length<=5000->X.length<M->ts.length=nf->(∀i t,ts[i]? = some t->t=tg i) ->
 ∃Z' gs m,F [.ptr p 0,.agg x.c,l,.int .i64 (AA dp)] Z=some (.agg [.int .i64 (AA K),.int .i64 (AA 0),.nils,.sl (Z.next+8) 0 nf (.ex nf),.int .i64 (AA (nZ ((NC (decide (K=7)) ts X).2.map (·.1)))),m],Z') /\
  gs.length=nf/\CM Z' (Z.next+8) (Kv gs)/\(∀i,i<nf->∃o v,(NC (decide (K=7)) ts X).1[i]? = some o/\gs[i]? = some v/\Gd Z Z' (tg i) (kd i) o v)/\Ki Z Z' m ((NC (decide (K=7)) ts X).2.map (·.1))/\((NC (decide (K=7)) ts X).2=[]->m = .nils)/\Fr AF Z Z'
theorem Rk.get {E:EB} {Z0 Z:H} {v:V} {EL:List (List Nat)} (h:Rk Z0 Z v EL) {i:Nat} {e:List Nat} (hi:EL[i]? = some e):∃u,(∀J:V->AH,AV 1 v (AA i) (fun b o=>BY E Z b o J)=J u)/\Oc Z u e/\∀b,A0 u b->b<Z0.next:=by
 obtain⟨pvs,h1,_,h3⟩:=h
 obtain⟨u,hu,ou,nu⟩:=h3 i e hi
 have hlt:=(BE.1 hi).1
 refine⟨u,fun J=>?_,ou,nu⟩
 rcases h1 with ⟨h0,_,_⟩|⟨q,o,cp,M,rfl,ha,hl,hm⟩
 ·omega
 ·rw[Di hlt]
  show BY E Z q (o+i*1) J=_
  rw[CE]
  refine CU ha ?_
  rw[hm,Ef (by omega),CT]at hu
  exact hu
theorem U9 {sq:Bool}:∀{ts:List Nat} {X:List El},∀e∈(NC sq ts X).2,e∈X
 | [],X,e,h=>h
 | t::ts,X,e,h=>Yc e (U9 (ts:=ts) e h)
theorem VA {sq:Bool}:∀{ts:List Nat} {X:List El},(NC sq ts X).2.length<=X.length
 | [],X=>AL _
 | t::ts,X=>BJ (VA (ts:=ts)) Yd
section
variable {E:EB} {D:Ai} {N M:Nat} {B W:List V->H->AH}
theorem fV {Z:H} {f q:Nat} {k n r:Int} {b l m:V} {z:List V} (ht:Ao Z) (af:CM Z f z) (hz:z.length=6) (aq:CM Z q [.int .i64 k,.int .i64 n,b,l,.int .i64 r,m]) (bo:b.one=true) (lo:l.one=true) (mo:m.one=true):∃Z',Vy E D (AT E D) f 0 q 0 Z=some (.agg [.int .i64 k,.int .i64 n,b,l,.int .i64 r,m],Z')/\Fr (fun k=>k=f) Z Z':=by
 have ho:allOne [.int .i64 k,.int .i64 n,b,l,.int .i64 r,m]=true:=by simp[Bk,B4,bo,lo,mo,ED]
 obtain⟨Z',g,f',a',n'⟩:=Ff (n:=6) (o:=0) (v := .agg [.int .i64 k,.int .i64 n,b,l,.int .i64 r,m]) ht af (by
  show (AY 6 6&&Ac (Ar 0 6) z.length&&allOne [.int .i64 k,.int .i64 n,b,l,.int .i64 r,m])=true
  rw[ho,hz];rfl)
 have a':CM Z' f [.int .i64 k,.int .i64 n,b,l,.int .i64 r,m]:=by
  match z,hz,a' with
  | [a,b,c,d,e,f],_,a'=>exact a'
 refine⟨Z',?_,f'⟩
 unfold Vy
 simp -implicitDefEqProofs only [↓rP,rA,AD,AG,AB,↓Az aq,bo,lo,mo,↓g,↓Az a']
theorem W3 (hC:Pu (D 36)) {Z0 Zs:H} {rb qb:Nat} {a S:V} {kk:Int} {ES:List (List Nat)} (hs:Ao Zs) (f0:Fr AF Z0 Zs) (hqb:Z0.next<=qb/\qb<Z0.next+12) (h12:Z0.next+12<=Zs.next) (hES:∀e∈ES,e.length<=1000000) (hn:ES.length<=9000) (ha:Rk Z0 Zs a ES) (So:S.one=true) :
  ∀(R done:List (List Nat)) (n':Nat) (Z:H) (m:V),done++R=ES->R.length<n'->Fr (fun b=>b=qb) Zs Z->CM Z qb [.int .i64 kk,.int .i64 (AA 0),.nils,S,.int .i64 (AA (nZ done)),m]->Ki Z0 Z m done->(∀b,A0 m b->Zs.next<=b) ->
   ∃Z' m',cH E D (AT E D) N n' rb 0 qb 0 a (AA ES.length) (AA done.length) Z=Vy E D (AT E D) rb 0 qb 0 Z'/\Fr (fun b=>b=qb) Zs Z'/\CM Z' qb [.int .i64 kk,.int .i64 (AA 0),.nils,S,.int .i64 (AA (nZ ES)),m']/\Ki Z0 Z' m' ES/\(R=[]->m'=m):=by
 intro R
 induction R with
 | nil=>
  intro done n' Z m he hn' f aq hm _
  obtain⟨n',rfl⟩:∃q,n'=q+1:=⟨n'-1,by omega⟩
  rw[CZ]at he
  refine⟨Z,m,?_,f,he ▸ aq,he ▸ hm,fun _=>rfl⟩
  rw[<-he]
  have d1:decide (done.length<done.length)=false:=decide_eq_false (FX _)
  have key:∀K4 R5,Pk E D (AT E D) K4 R5 rb 0 qb 0 a (AA done.length) (AA done.length) Z=K4 rb 0 qb 0 Z:=by
   intro K4 R5
   unfold Pk
   simp -implicitDefEqProofs only [↓rP,rA,AD,AG,AB,d1]
  exact key _ _
 | cons e R ih=>
  intro done n' Z m he hn' f aq hm hmn
  obtain⟨n',rfl⟩:∃q,n'=q+1:=⟨n'-1,by omega⟩
  have hl:ES.length=done.length+(R.length+1):=by rw[<-he,AS,As]
  have hx:ES[done.length]? = some e:=by rw[<-he,BL (AL _),G0];rfl
  have hmem:=Ci hx
  have haσ:Rk Z0 Z a ES:=ha.fr f hs (fun b hb=>by omega)
  obtain⟨u,g,ou,nu⟩:=haσ.get (E:=E) hx
  have s0n:Z0.next<=Zs.next:=f0.le
  obtain⟨Z1,g1,f1,a1,n1⟩:=Ff (n:=1) (o:=4) (v := .int .i64 (AA 1)) f.tidy aq rfl
  have a1:CM Z1 qb [.int .i64 kk,.int .i64 (AA 0),.nils,S,.int .i64 (AA 1),m]:=a1
  have g1:∀J:H->AH,Fg 1 qb (Ar 0 4) (.int .i64 (AA 1)) Z J=J Z1:=g1
  have lf:Zs.next<=Z.next:=f.le
  have lf1:Z.next<=Z1.next:=f1.le
  have ou1:Oc Z1 u e:=ou.fr f1 f.tidy (fun b hb e=>by have:=nu b hb;omega)
  have hm1:Ki Z0 Z1 m done:=hm.fr f1 f.tidy (fun b hb _ e=>by omega)
  have ao:=ha.ela.one
  obtain⟨ev,Z2,m',d,⟨y8,y9,y65,y66,y67⟩,aq2,hm2,nm2,f2⟩:=fH (E:=E) (D:=D) (rb:=rb) (l:=AA ES.length) (k:=AA done.length) hC f1.tidy a1 hm1 (by omega) hqb (by omega) ou1 (hES e hmem) ao
  have F1:Fr (fun b=>b=qb) Zs Z1:=f.trans f1 (fun _ _ h=>h)
  have F2:Fr (fun b=>b=qb) Zs Z2:=F1.trans f2 (fun b hb h=>h.elim id (fun h=>by have:=hmn b h;omega))
  have r1:nZ (done++[e])=1:=by cases done<;>rfl
  obtain⟨Z',m'',g',q1,q2,q3,_⟩:=ih (done++[e]) n' Z2 m' (by rw[<-he];simp) (by simp only[As]at hn';omega) F2 (by rw[r1];exact aq2) hm2 (fun b hb=>by have:=nm2 b hb;omega)
  rw[AS,EI]at g'
  refine⟨Z',m'',?_,q1,q2,q3,fun h=>by cases h⟩
  rw[<-g']
  have d1:decide (done.length<ES.length)=true:=decide_eq_true (by omega)
  have gd:∀J:Bp->H->AH,Ch (AT E D P6 OX [(8,.ptr rb 0),(9,.ptr qb 0),(14,u),(65,a),(66,.int .i64 (AA ES.length)),(67,.int .i64 (AA done.length))] Z1) J=J ev Z2:=fun J=>by rw[d];rfl
  have z8:∀J:V->AH,BO ev 8 J=J (.ptr rb 0):=fun J=>BQ y8 rfl
  have z9:∀J:V->AH,BO ev 9 J=J (.ptr qb 0):=fun J=>BQ y9 rfl
  have z65:∀J:V->AH,BO ev 65 J=J a:=fun J=>BQ y65 (Bb ao)
  have z66:∀J:V->AH,BO ev 66 J=J (.int .i64 (AA ES.length)):=fun J=>BQ y66 rfl
  have z67:∀J:V->AH,BO ev 67 J=J (.int .i64 (AA done.length)):=fun J=>BQ y67 rfl
  have key:∀K4 R5,Pk E D (AT E D) K4 R5 rb 0 qb 0 a (AA ES.length) (AA done.length) Z=R5 rb 0 qb 0 a (AA ES.length) (AA (done.length+1)) Z2:=by
   intro K4 R5
   unfold Pk
   simp -implicitDefEqProofs only [↓rP,rA,AD,AG,AB,d1,↓g,↓g1,↓gd,↓z8,↓z9,↓z65,↓z66,↓z67,CG (show done.length+1<=9223372036854775807 by omega)]
  exact key _ _
theorem vW (hV:Xk E (D 15)) {C:List V->H->AH} (hCl:WC B W C) (hI:Sy M C (D 63)) (hP:OR (D 66) (D 65)) (hC:Pu (D 36)) (hN:9000<N):au B W M (uP E D (AT E D) N):=by
 intro Pt Z p nT nf K dp ty Ge tv l x fd jt tg kd X ts ht hF hK hp h0 hnf hdp hl hX hX5 hXM hts htg
 obtain⟨Z1,g1,s1⟩:=XH (E:=E) (D:=D) (p:=p) (dp:=dp) (l:=l) ht hK hF.row h0 (by omega) hl.ela.one
 obtain⟨a,Z2,gs,g2,s2,hg,ha,hgd⟩:=Y0 (E:=E) (D:=D) (N:=N) hV hCl hI hP ht hF hK hp (by omega) hdp ts 0 N Z1 l X (AW nf Vc.abs) [] (by omega) (fun i t h=>by rw[Bc];exact htg i t h) (by omega) s1 Ja
  (fun i _ hi=>by rw[List.getElem?_replicate,if_pos hi]) rfl (fun i hi=>absurd hi (Dd i)) (hl.fr s1.fr ht (fun _ h=>h.elim)) hX hX5 hXM
 have lES:((NC (decide (K=7)) ts X).2.map (·.1)).length<=X.length:=by rw[EA];exact VA
 obtain⟨Z3,m,g3,f3,a3,r3,hm0⟩:=W3 (E:=E) (D:=D) (N:=N) (rb:=Z.next+2) (qb:=Z.next+10) (a:=a) (S := .sl (Z.next+8) 0 gs.length (.ex gs.length)) (kk:=AA K) (ES:=(NC (decide (K=7)) ts X).2.map (·.1)) hC s2.fr.tidy s2.fr ⟨by omega,by omega⟩ s2.lt (fun e he=>by
   obtain⟨y,hy,rfl⟩:=G2.1 he
   have:=(hX y (U9 y hy)).2.1
   omega) (by omega) ha rfl _ [] N Z2 .nils (DB _) (by omega) (Fr.refl s2.fr.tidy) s2.qv (Ki.nil _ _) (fun _ h=>h.elim)
 have rb3:=f3.at_ s2.rb s2.fr.tidy (fun e=>by omega)
 have F3:Fr AF Z Z3:=s2.fr.trans f3 (fun b hb e=>by omega)
 obtain⟨Z4,g4,f4⟩:=fV (E:=E) (D:=D) F3.tidy rb3 rfl a3 rfl rfl r3.one
 have l12:=s2.lt
 have n3:Z2.next<=Z3.next:=f3.le
 refine⟨Z4,gs,m,?_,hg,?_,fun i hi=>?_,r3.fr f4 F3.tidy (fun b hb _ e=>by omega),fun h=>hm0 (by rw[h];rfl),F3.trans f4 (fun b hb e=>by omega)⟩
 ·rw[hg]at g4
  rw[<-g4]
  show Ss E D (AT E D) (S6 E D (AT E D) N N) (.ptr p 0) x.kind x.tags x.has x.hasLow x.hasHigh x.conMore x.low x.high x.items x.fields x.root x.more x.of_ l (AA dp) Z=_
  rw[g1]
  refine g2.trans ?_
  rw[<-g3]
  have sl:=ha.ela.slen
  have key:∀K5,Vz E D (AT E D) K5 a (Z.next+2) 0 (Z.next+10) 0 Z2=K5 (Z.next+2) 0 (Z.next+10) 0 a (AA ((NC (decide (K=7)) ts X).2.map (·.1)).length) (AA 0) Z2:=by
   intro K5
   unfold Vz
   simp -implicitDefEqProofs only [↓rP,rA,AD,AG,AB,↓sl]
  exact key _
 ·exact f4.at_ (f3.at_ s2.lb s2.fr.tidy (fun e=>by omega)) F3.tidy (fun e=>by omega)
 ·obtain⟨o,v,h1,h2,h3⟩:=hgd i hi
  exact⟨o,v,h1,h2,(h3.fr f3 s2.fr.tidy (fun b hb e=>by omega)).fr f4 F3.tidy (fun b hb e=>by omega)⟩
end
def pT (B W:List V->H->AH) (M:Nat) (F:List V->H->AH):Prop:=∀{Pt:H->Prop} {Z:H} {p nT i0 nf K dp un:Nat} {ty:Nat->Ty} {Ge:List V} {tv u:V} {fd:Nat->Fd} {jt tg kd:Nat->Nat} {X:List El} {ts:List Nat} {L:List Nat} {mk:Bool} {h:Nat},Ao Z->jQ B W Pt Z p nT ty Ge tv (ty i0) nf fd jt tg kd->(∃nm nv rv,Ge=[.str nm,nv,rv,tv])->Fj Z 13 nT tv (fun i=>(ty i).c)->i0<nT->(ty i0).kind=AA K->(K=7\/K=8)->HN Z 2 1 (ty i0).tags [.int .i64 (AA 0),.int .i64 (AA un)]->Oc Z u L->Lu L->jY L 0 un mk (X.map (·.1)).flatten h->L.length<=1000000 ->
 0<nf->nf<=1000->dp<=16->(∀e∈X,TF e)->X.length<=5000->X.length<M->ts.length=nf->(∀i t,ts[i]? = some t->t=tg i) ->
 ∃Zb Z' q gs m,F [.ptr p 0,.int .i64 (AA i0),u,.int .i64 (AA dp)] Z=some (.agg [.int .i64 (AA K),.int .i64 (AA 0),.nils,.sl q 0 nf (.ex nf),.int .i64 (AA (nZ ((NC (decide (K=7)) ts X).2.map (·.1)))),m],Z') /\
  gs.length=nf/\CM Z' q (Kv gs)/\(∀i,i<nf->∃o v,(NC (decide (K=7)) ts X).1[i]? = some o/\gs[i]? = some v/\Gd Zb Z' (tg i) (kd i) o v)/\Ki Zb Z' m ((NC (decide (K=7)) ts X).2.map (·.1))/\((NC (decide (K=7)) ts X).2=[]->m = .nils)/\Fr AF Z Z'
theorem vf {p:Nat} {l:List V} {u:V} {j:Int} (h:u.live=true):[V.ptr p 0,.agg l,u,.int .i64 j].all V.live=true:=by rw[Bh,Bh,Bh,h];rfl
theorem vg {p:Nat} {u:V} (h:u.live=true):[V.ptr p 0,u].all V.live=true:=by rw[Bh,Bh,h];rfl
section
variable {E:EB} {D:Ai} {N M:Nat} {B W:List V->H->AH}
theorem vK {N2:Nat} (hI:Lj (D 33)) (hS:RH N2 (D 38)) (hN2:M<=N2) (hNf:au B W M (D 39)):pT B W M (tA E D (AT E D) N):=by
 intro Pt Z p nT i0 nf K dp un ty Ge tv u fd jt tg kd X ts L mk h ht hF htab hrow hi hK hKs htags hu hb hel hL h0 hnf hdp hX hX5 hXM hts htg
 obtain⟨nm,nv,rv,rfl⟩:=htab
 obtain⟨Z1,e1,f1,a1,n1⟩:=Jo ht EW
 have hp1:=f1.at_ hF.at_ ht (fun h=>h)
 have rd:∀J,AV 13 tv (AA i0) (fun b o=>BP E Z1 b o 13 J)=J (ty i0).c:=fun J=>(hrow.fr0 f1 ht).all hi J
 have tlen:=hrow.len.2
 obtain⟨Z2,e2,f2,a2,n2⟩:=Jo f1.tidy Ky
 obtain⟨Z3,g3,f3,a3,n3⟩:=Ff (n:=13) (o:=0) (v := .agg (ty i0).c) f2.tidy a2 (by unfold Ty.c;simp[Ky,Ec,Bk,B4,ED,FE,(ty i0).oneT,(ty i0).oneI,(ty i0).oneF])
 have a3:CM Z3 Z1.next (ty i0).c:=a3
 have F3:Fr AF Z Z3:=(f1.trans f2 (fun _ _ h=>h)).trans f3 (fun b hb e=>by omega)
 have hp3:=F3.at_ hF.at_ ht (fun h=>h)
 obtain⟨w,Z4,g4,ow,nw,f4⟩:=hI F3.tidy hp3 (hu.fr0 F3 ht) hb hel hL (htags.fr F3 ht (fun _ _ h=>h))
 have wo:=ow.one
 have F4:Fr AF Z Z4:=F3.trans f4 (fun _ _ h=>h)
 have a4:=f4.at_ a3 F3.tidy (fun h=>h)
 obtain⟨Z5,e5,f5,a5,n5⟩:=Jo F4.tidy EW
 obtain⟨Z6,g6,f6,a6,n6⟩:=Ff (n:=6) (o:=0) (v := .agg [.int .i64 (AA K),.int .i64 (AA 0),.nils,.nils,.int .i64 (AA 0),.nils]) f5.tidy a5 rfl
 have le1:=f1.le
 have le34:=f4.le
 have le23:Z2.next<=Z3.next:=f3.le
 have le56:Z5.next<=Z6.next:=f6.le
 have F5:Fr AF Z Z5:=F4.trans f5 (fun _ _ h=>h)
 have F6:Fr AF Z Z6:=F5.trans f6 (fun b hb e=>by omega)
 have a46:CM Z6 Z1.next (ty i0).c:=f6.at_ (f5.at_ a4 F4.tidy (fun h=>h)) f5.tidy (fun e=>by omega)
 have af6:CM Z6 Z.next EW:=by
  have x2:=f2.at_ a1 f1.tidy (fun h=>h)
  have x3:=f3.at_ x2 f2.tidy (fun e=>by omega)
  have x4:=f4.at_ x3 F3.tidy (fun h=>h)
  have x5:=f5.at_ x4 F4.tidy (fun h=>h)
  exact f6.at_ x5 f5.tidy (fun e=>by omega)
 have ow6:Oc Z6 w (X.map (·.1)).flatten:=(ow.fr0 f5 F4.tidy).fr f6 f5.tidy fun b hb e=>by
  have:=ow.lt F4.tidy b hb
  omega
 have lf:∀J:V->AH,BY E Z1 p 0 J=J (.bool false):=fun J=>CU hp1 rfl
 have lt4:∀J:V->AH,BY E Z1 p (Ar (Ar 0 1) 3) J=J tv:=fun J=>CU hp1 rfl
 have l1:∀J:V->AH,BY E Z3 Z1.next 1 J=J (ty i0).tags:=fun J=>CU a3 rfl
 have l0:∀J:V->AH,BY E Z4 Z1.next 0 J=J (.int .i64 (AA K)):=fun J=>CU a4 (by rw[<-hK];rfl)
 have l06:∀J:V->AH,BY E Z6 Z1.next 0 J=J (.int .i64 (AA K)):=fun J=>CU a46 (by rw[<-hK];rfl)
 have dj:decide (nT<=i0)=false:=decide_eq_false (by omega)
 have dd:decide (17<dp)=false:=decide_eq_false (by omega)
 have j0:decide (i0<0)=false:=decide_eq_false (by omega)
 have hp6:=F6.at_ hF.at_ ht (fun h=>h)
 have fw:Fr AF Z6 ⟨Z6.next+10,Z6.bl⟩:=(CW (E:=E) (n:=10) (S:=AF) F6.tidy).fr
 have Fw:=F6.trans fw (fun _ _ h=>h)
 have hbody:Lu (X.map (·.1)).flatten:=fun c hc=>hb c (Kt (hel.body ▸ hc))
 have hlb:(X.map (·.1)).flatten.length<=1000000:=by have:=hel.len;omega
 obtain⟨l,Z7,g7,els,f7⟩:=hS fw.tidy (Fw.at_ hF.at_ ht (fun h=>h)) (ow6.fr0 fw F6.tidy) hbody (fun e he=>by
  obtain⟨y,hy,rfl⟩:=G2.1 he
  obtain⟨_,_,mk,body,h,hh⟩:=hX y hy
  exact⟨_,_,mk,body,h,hh⟩) hlb (by rw[EA];omega) (by rw[EA];omega)
 have F7:Fr AF Z Z7:=Fw.trans f7 (fun _ _ h=>h)
 have lo:=els.one
 have elx:Rk Z7 Z7 l (X.map (·.1)):=by
  obtain⟨pvs,d1,_,d3⟩:=els
  have:=f7.le
  exact⟨pvs,d1.src,fun b hb => .inl (d1.lt f7.tidy hb),fun i e hi=>by
   obtain⟨u,q1,q2,q3⟩:=d3 i e hi
   exact⟨u,q1,q2,fun b hb=>by have:=q3 b hb;omega⟩⟩
 have pl:p<Z.next:=hF.at_.lt ht
 have nn7:=F7.le
 obtain⟨Z8,gs,m,g8,hg,hlb8,hgd,hr8,hm0,f8⟩:=hNf (dp:=dp) (ts:=ts) f7.tidy (hF.fr F7 ht) hK (by omega) h0 hnf hdp elx hX hX5 hXM hts htg
 have F8:Fr AF Z Z8:=F7.trans f8 (fun _ _ h=>h)
 have af8:CM Z8 Z.next EW:=f8.at_ (f7.at_ (fw.at_ af6 F6.tidy (fun h=>h)) fw.tidy (fun h=>h)) f7.tidy (fun h=>h)
 have mo:=hr8.one
 have n67:Z6.next+10<=Z7.next:=f7.le
 have s1:Z1.next=Z.next+1:=n1
 obtain⟨vc,hvc⟩:∃vc,vc=[V.int .i64 (AA K),.int .i64 (AA 0),.nils,.sl (Z7.next+8) 0 nf (.ex nf),.int .i64 (AA (nZ ((NC (decide (K=7)) ts X).2.map (·.1)))),m]:=⟨_,rfl⟩
 have vo:allOne vc=true:=by rw[hvc];simp[Bk,B4,mo,ED];exact⟨rfl,rfl⟩
 have vl:vc.length=6:=by rw[hvc];rfl
 rw[<-hvc]at g8
 obtain⟨Z9,g9,f9,a9⟩:∃Z9,Db E D (.store 6 (.tmp 8) (.tmp 165)) [(8,.ptr Z.next 0),(165,.agg vc)] Z8=some (.dead,Z9)/\Fr (fun b=>b=Z.next) Z8 Z9/\CM Z9 Z.next vc:=by
  obtain⟨Z9,r1,r2,r3⟩:=KI (E:=E) (D:=D) (n:=6) (x := .tmp 8) (y := .tmp 165) (e:=[(8,.ptr Z.next 0),(165,.agg vc)]) F8.tidy af8 rfl (show (B8 [(8,.ptr Z.next 0),(165,.agg vc)] (.tmp 165)).cells=vc from rfl) (by rw[vo,vl];rfl)
  have:HT EW 0 vc=vc:=by rw[hvc];rfl
  rw[this]at r3
  exact⟨Z9,r1,r2,r3⟩
 have cb:V.beq (.agg (ty i0).c) (.agg (ty i0).c)=true:=by
  have h1:V.beq (ty i0).tags (ty i0).tags=true:=by
   rcases htags with ⟨h,_,_⟩|⟨b,o,c,M',h,_⟩
   ·omega
   ·rw[h];cases c<;>simp[V.beq]
  have h2:V.beq (ty i0).fields (ty i0).fields=true:=by
   rcases hF.row.is with ⟨_,h⟩|⟨b,c,M',h,_⟩
   ·rw[h];rfl
   ·rw[h];cases c<;>simp[V.beq]
  have h3:=hF.itm
  unfold Ty.c
  simp[V.beq,I1,h1,h2,h3]
 have go:E8 E D Z6 10 0 (fun b=>b=Z.next) QA TE ⟨[(0,.ptr p 0),(3,.int .i64 (AA dp)),(8,.ptr Z.next 0),(9,.ptr Z1.next 0),(10,w)],Z6.next+10,[Z6.bl],[],0,[]⟩ _ Z9:=
  Cp (.ptr p 0) rfl rfl <|
  J3 (.agg (ty i0).c) (CW F6.tidy) rfl (FF (b:=Z1.next) (off:=0) (m:=13) rfl a46 rfl rfl F6.tidy (fun e=>by omega) cb) fun _ r1=>
  Cp (.ptr p 0) rfl rfl <|
  Cp (.ptr p 0) rfl rfl <|
  Cp (.ptr p 0) rfl rfl <|
  Cp w rfl (EJ rfl (Bb wo)) <|
  KU l r1 rfl (by decide) f7 (fun _ _ h=>h.elim) (fun _ h _ _=>h.elim) (D3 (vs:=[.ptr p 0,w]) rfl (vg (Bb wo)) g7) fun _ _ _ r2=>
  Cp (.int .i64 (AA dp)) rfl rfl <|
  KU (.agg vc) r2 rfl (by decide) f8 (fun _ _ h=>h.elim) (fun _ h _ _=>h.elim) (D3 (vs:=[.ptr p 0,.agg (ty i0).c,l,.int .i64 (AA dp)]) rfl (vf (Bb lo)) g8) fun _ _ _ r3=>
  KU .dead r3 rfl (by decide) (S':=fun b=>b=Z.next) f9 (fun _ _ h=>h) (fun b h h1 _=>by omega) g9 fun _ _ _ r4=>
  Hx r4
 obtain⟨ev,d,y8⟩:∃ev,AT E D QA TE [(0,.ptr p 0),(3,.int .i64 (AA dp)),(8,.ptr Z.next 0),(9,.ptr Z1.next 0),(10,w)] Z6=some (ev,Z9)/\Go.Og.look ev 8=some (.ptr Z.next 0):=⟨_,(GK (ops:=QA) go).1,rfl⟩
 have gd:∀J:Bp->H->AH,Ch (AT E D QA TE [(0,.ptr p 0),(3,.int .i64 (AA dp)),(8,.ptr Z.next 0),(9,.ptr Z1.next 0),(10,w)] Z6) J=J ev Z9:=fun J=>by rw[d];rfl
 have z8:∀J:V->AH,BO ev 8 J=J (.ptr Z.next 0):=fun J=>BQ y8 rfl
 have ld9:∀J:List V->AH,BP E Z9 Z.next 0 6 J=J vc:=fun J=>by
  rw[Az a9,Jd (by omega),Cq,<-vl,DF]
 have F9:Fr AF Z Z9:=F8.trans f9 (fun b hb e=>by omega)
 refine⟨Z7,Z9,Z7.next+8,gs,m,?_,hg,f9.at_ hlb8 F8.tidy (fun e=>by omega),fun i hi=>?_,hr8.fr f9 F8.tidy (fun b hb _ e=>by omega),hm0,F9⟩
 ·rw[<-hvc]
  have k5:∀K2,V5 E D (AT E D) K2 p 0 (AA dp) Z.next 0 Z1.next 0 w Z4.next 0 true Z6=some (.agg vc,Z9):=fun K2=>by
   unfold V5
   simp -implicitDefEqProofs only [↓rP,rA,AD,AG,AB,↓gd,↓z8,↓ld9]
  have k3:S7 E D (AT E D) N p 0 (AA dp) Z.next 0 Z1.next 0 w Z4.next 0 (AA K) false Z6=some (.agg vc,Z9):=by
   refine Eq.trans ?_ (k5 (Pz E D (AT E D) N))
   rcases hKs with rfl|rfl<;>rfl
  rw[<-k3]
  unfold EW at e1 e5
  unfold Ky at e2
  unfold Ty.c at rd g3
  have k0:∀K1,Mp E D (AT E D) K1 p 0 (AA i0) u (AA dp) Z=K1 p 0 (AA i0) u (AA dp) Z.next 0 Z1:=fun K1=>by
   unfold Mp
   simp -implicitDefEqProofs only [↓rP,rA,AD,AG,AB,↓e1,↓lt4,↓tlen,j0,dj,dd]
  show Mp E D (AT E D) (Wh E D (AT E D) N) p 0 (AA i0) u (AA dp) Z=_
  rw[k0]
  show JO E D (AT E D) _ _ p 0 (AA i0) u (AA dp) Z.next 0 Z1=_
  have c1:decide (K=1)=false:=decide_eq_false (by omega)
  have c2:decide (K=2)=false:=decide_eq_false (by omega)
  have c3:decide (K=3)=false:=decide_eq_false (by omega)
  have c5:decide (K=5)=false:=decide_eq_false (by omega)
  have c6:decide (K=6)=false:=decide_eq_false (by omega)
  unfold JO
  simp -implicitDefEqProofs only [↓rP,rA,AD,AG,AB,↓lf,↓lt4,↓rd,(ty i0).oneT,(ty i0).oneI,(ty i0).oneF,↓e2,↓g3,↓l1,↓g4,↓Aj wo,↓l0,↓e5,↓g6,↓l06,Bl,c1,c2,c3,c5,c6]
 ·obtain⟨o,v,h1,h2,h3⟩:=hgd i hi
  exact⟨o,v,h1,h2,h3.fr f9 F8.tidy (fun b hb e=>by omega)⟩
end
def Vr (K:Nat) (l:V) (hl:l.one=true) (r:Int) (m:V) (hm:m.one=true):Vc:=⟨AA K,AA 0,.nils,l,r,m,rfl,hl,hm⟩
def sel (b:Bool) (x y:AH):AH:=match b with
 | true=>x
 | false=>y
theorem U2 (x y:AH):sel true x y=x:=rfl
theorem jh (x y:AH):sel false x y=y:=rfl
def Xh (ok:Nat->Bool):Nat->Nat->Bool
 | 0,_=>true
 | m+1,k=>ok k&&Xh ok m (k+1)
def sn (F:List V->H->AH) (Z0:H) (nT:Nat) (ty:Nat->Ty) (j:Nat) (v:Vc):Prop:=∀(Z:H) (p dp:Nat) (nm:BS) (nv rv tv:V) (rest:List V),Ao Z->Fr AF Z0 Z->Ck Z p nT ty nm nv rv tv rest->dp<=17->∃Z',F [.ptr p 0,.int .i64 (AA j),.agg v.c,.int .i64 (AA dp)] Z=some (.bool true,Z')/\Fr AF Z Z'
def SmA (S:List V->H->AH) (Z0:H) (v:Vc) (f:Fd) (b:Bool):Prop:=∀Z:H,Ao Z->Fr AF Z0 Z->∃Z',S [.agg v.c,.agg [.int .i64 f.d0,.int .i64 f.d1,f.d2,f.d3,.int .i64 f.d4,f.d5]] Z=some (.bool b,Z')/\Fr AF Z Z'
inductive uJ (F S:List V->H->AH) (Z0:H) (nT:Nat) (ty:Nat->Ty) (f:Fd) (v:Vc):Bool->Prop
 | abs (h:v=Vc.abs) (ho:(f.opt || f.has)=true):uJ F S Z0 nT ty f v true
 | val {j:Nat} (h:Bv v.k (AA 0)=false) (hj:f.type=AA j) (hf:sn F Z0 nT ty j v) (hh:f.has=false):uJ F S Z0 nT ty f v true
 | dft {j:Nat} {b:Bool} (h:Bv v.k (AA 0)=false) (hj:f.type=AA j) (hf:sn F Z0 nT ty j v) (hh:f.has=true) (hs:SmA S Z0 v f b):uJ F S Z0 nT ty f v (!b)
def Sz (F:List V->H->AH):Prop:=∀{Z:H},Ao Z->∃Z',F [.agg Vc.abs.c] Z=some (.bool true,Z')/\Fr AF Z Z'
def Xl (F:List V->H->AH):Prop:=∀{Z:H},Ao Z->∀(x:Ty) {nf:Nat} {fd:Nat->Fd},Fj Z 11 nf x.fields (fun k=>(fd k).c)->∀{k:Nat},k<nf->((fd k).opt || (fd k).has)=true->∃Z',F [.agg x.c,.int .i64 (AA k)] Z=some (.bool true,Z')/\Fr AF Z Z'
section
variable {E:EB} {D:Ai} {W:AI} {N:Nat} {Z0:H} {p nT:Nat} {ty:Nat->Ty} {nm:BS} {nv rv tv:V} {rest:List V}
theorem ADS (hP:FH (D 99)):Sz (UY E D W N):=by
 intro Z ht
 exact Sh hP ht (k:=AA 0) (n:=AA 0) (r:=AA 0) GM.nils GM.nils GM.nils
theorem ADJ:Xl (Xr E D W N):=by
 intro Z ht x nf fd hf k hk ho
 obtain⟨Z',g,f⟩:=ff (E:=E) (D:=D) (W:=W) (N:=N) ht x hf hk
 rw[ho,Bool.true_or]at g
 exact⟨Z',g,f⟩
theorem fF (hA:Sz (D 107)) (hL:Xl (D 126)) {Z:H} {x:Ty} {nf:Nat} {fd:Nat->Fd} {g:Nat->Vc} {l r m:V} {kk:Int} {i dp q k:Nat} {ok:Bool} (hok:uJ (D 67) (D 127) Z0 nT ty (fd k) (g k) ok) (f0:Fr AF Z0 Z) (hd:dp<=16) (hlt:k<nf) (hc:Ck Z p nT ty nm nv rv tv rest) (hf:Fj Z 11 nf x.fields fun k=>(fd k).c) (hr:Fj Z 6 nf l (fun k=>(g k).c)) (qa:CM Z q [.int .i64 kk,.int .i64 (AA 0),.nils,l,r,m]) :
  ∃Z2,Fr AF Z Z2/\∀K1 K3,Ik E D W K1 K3 p 0 (AA i) (AA dp) q 0 x.fields (AA nf) (AA k) x.kind x.tags x.has x.hasLow x.hasHigh x.conMore x.low x.high x.items x.fields x.root x.more x.of_ Z=sel ok (K3 p 0 (AA i) (AA dp) q 0 x.fields (AA nf) (AA k) x.kind x.tags x.has x.hasLow x.hasHigh x.conMore x.low x.high x.items x.fields x.root x.more x.of_ Z2) (some (.bool false,Z2)):=by
 have ht:=f0.tidy
 have rf:∀J,AV 11 x.fields (AA k) (fun b o=>BP E Z b o 11 J)=J (fd k).c:=fun J=>hf.all hlt J
 have rg:∀J,AV 6 l (AA k) (fun b o=>BP E Z b o 6 J)=J (g k).c:=fun J=>hr.all hlt J
 have d1:decide (k<nf)=true:=decide_eq_true hlt
 unfold Fd.c at rf
 cases hok with
 | abs h ho=>
  obtain⟨Z1,g1,f1⟩:=hA ht
  obtain⟨Z2,g2,f2⟩:=hL f1.tidy x (hf.fr0 f1 ht) hlt ho
  rw[h]at rg
  unfold Vc.c Vc.abs at rg g1
  unfold Ty.c at g2
  refine⟨Z2,f1.trans f2 (fun _ _ h=>h),fun K1 K3=>?_⟩
  unfold Ik
  simp -implicitDefEqProofs only [↓rP,rA,AD,AG,AB,d1,↓rf,(fd k).one2,(fd k).one3,(fd k).one5,↓BK qa,↓rg,Bl,decide_true,↓g1,↓g2,U2]
 | val hv hj hfit hh=>
  obtain⟨Z2,g2,f2⟩:=hfit Z p (dp+1) nm nv rv tv rest ht f0 hc (by omega)
  unfold Vc.c at rg g2
  refine⟨Z2,f2,fun K1 K3=>?_⟩
  unfold Ik
  simp -implicitDefEqProofs only [↓rP,rA,AD,AG,AB,d1,↓rf,(fd k).one2,(fd k).one3,(fd k).one5,↓BK qa,↓rg,(g k).oneB,(g k).oneL,(g k).oneM,hv,hh,hj,CG (show dp+1<=9223372036854775807 by omega),↓g2,U2]
 | @dft j b hv hj hfit hh hs=>
  obtain⟨Z2,g2,f2⟩:=hfit Z p (dp+1) nm nv rv tv rest ht f0 hc (by omega)
  obtain⟨Z3,g3,f3⟩:=hs Z2 f2.tidy (f0.trans f2 (fun _ _ h=>h))
  unfold Vc.c at rg g2 g3
  refine⟨Z3,f2.trans f3 (fun _ _ h=>h),fun K1 K3=>?_⟩
  unfold Ik
  cases b with
  | true=>simp -implicitDefEqProofs only [↓rP,rA,AD,AG,AB,d1,↓rf,(fd k).one2,(fd k).one3,(fd k).one5,↓BK qa,↓rg,(g k).oneB,(g k).oneL,(g k).oneM,hv,hh,hj,CG (show dp+1<=9223372036854775807 by omega),↓g2,↓g3,FZ,H6,U2,jh]
  | false=>simp -implicitDefEqProofs only [↓rP,rA,AD,AG,AB,d1,↓rf,(fd k).one2,(fd k).one3,(fd k).one5,↓BK qa,↓rg,(g k).oneB,(g k).oneL,(g k).oneM,hv,hh,hj,CG (show dp+1<=9223372036854775807 by omega),↓g2,↓g3,FZ,H6,U2,jh]
theorem fG (hA:Sz (D 107)) (hL:Xl (D 126)) {x:Ty} {nf:Nat} {fd:Nat->Fd} {g:Nat->Vc} {l r m:V} {kk:Int} {i dp q:Nat} {ok:Nat->Bool} (hok:∀k,k<nf->uJ (D 67) (D 127) Z0 nT ty (fd k) (g k) (ok k)) (hd:dp<=16) (hnf:nf<=10000) :
  ∀(c n' k:Nat) (Z:H),k+c=nf->c<n'->Fr AF Z0 Z->Ck Z p nT ty nm nv rv tv rest->Fj Z 11 nf x.fields (fun k=>(fd k).c)->Fj Z 6 nf l (fun k=>(g k).c)->CM Z q [.int .i64 kk,.int .i64 (AA 0),.nils,l,r,m] ->
   ∃Z',OW E D W N n' p 0 (AA i) (AA dp) q 0 x.fields (AA nf) (AA k) x.kind x.tags x.has x.hasLow x.hasHigh x.conMore x.low x.high x.items x.fields x.root x.more x.of_ Z=sel (Xh ok c k) (RY E D W N p 0 (AA i) q 0 Z') (some (.bool false,Z'))/\Fr AF Z Z':=by
 intro c
 induction c with
 | zero=>
  intro n' k Z hk hn' f0 hc hf hr hq
  obtain⟨n',rfl⟩:∃k,n'=k+1:=⟨n'-1,by omega⟩
  refine⟨Z,?_,Fr.refl f0.tidy⟩
  show Ik E D W _ _ p 0 (AA i) (AA dp) q 0 x.fields (AA nf) (AA k) _ _ _ _ _ _ _ _ _ _ _ _ _ Z=_
  unfold Ik
  rw[EZ,decide_eq_false (by omega),Cn]
  rfl
 | succ c ih=>
  intro n' k Z hk hn' f0 hc hf hr hq
  obtain⟨n',rfl⟩:∃k,n'=k+1:=⟨n'-1,by omega⟩
  have ht:=f0.tidy
  obtain⟨Z2,f2,step⟩:=fF (E:=E) (W:=W) (i:=i) hA hL (hok k (by omega)) f0 hd (by omega) hc hf hr hq
  show ∃Z',Ik E D W _ (OQ E D W (OW E D W N n')) p 0 (AA i) (AA dp) q 0 x.fields (AA nf) (AA k) _ _ _ _ _ _ _ _ _ _ _ _ _ Z=_/\_
  rw[step]
  unfold Xh
  cases hokk:ok k with
  | false=>exact⟨Z2,rfl,f2⟩
  | true=>
   obtain⟨Z3,h3,f3⟩:=ih n' (k+1) Z2 (by omega) (by omega) (f0.trans f2 (fun _ _ h=>h)) (hc.fr f2 ht) (hf.fr0 f2 ht) (hr.fr0 f2 ht) (f2.at_ hq ht (fun h=>h))
   refine⟨Z3,?_,f2.trans f3 (fun _ _ h=>h)⟩
   rw[DW,<-h3]
   show OQ E D W (OW E D W N n') p 0 (AA i) (AA dp) q 0 x.fields (AA nf) (AA k) x.kind x.tags x.has x.hasLow x.hasHigh x.conMore x.low x.high x.items x.fields x.root x.more x.of_ Z2=_
   unfold OQ
   rw[CG (by omega)]
theorem Ro (hP:FH (D 99)) (hA:Sz (D 107)) (hL:Xl (D 126)) {Z:H} {nf K:Nat} {fd:Nat->Fd} {g:Nat->Vc} {l:V} {hl:l.one=true} {r:Int} {mv:V} {hm:mv.one=true} {i dp:Nat} {ok:Nat->Bool} {rb:Bool} (hok:∀k,k<nf->uJ (D 67) (D 127) Z nT ty (fd k) (g k) (ok k)) (hd:dp<=16) (hi:i<nT) (hN:nf<N) (hnf:nf<=10000)
  {nm':Nat} (hml:GM mv nm')
  (hR:∀Z1,Ao Z1->Fr AF Z Z1->∃Z',D 125 [.ptr p 0,.int .i64 (AA i),.agg (Vr K l hl r mv hm).c] Z1=some (.bool rb,Z')/\Fr AF Z1 Z')
  (hG:∀Z1,Ao Z1->Fr AF Z Z1->∃Z',D 128 [.ptr p 0,.int .i64 (AA i),.agg (Vr K l hl r mv hm).c] Z1=some (.bool true,Z')/\Fr AF Z1 Z')
  (ht:Ao Z) (hc:Ck Z p nT ty nm nv rv tv [.bool false]) (hf:Fj Z 11 nf (ty i).fields fun k=>(fd k).c) (hr:Fj Z 6 nf l (fun k=>(g k).c)) :
  ∃Z',UZ E D W N [.ptr p 0,.int .i64 (AA i),.agg (Vr K l hl r mv hm).c,.int .i64 (AA dp)] Z=some (.bool (rb&&Xh ok nf 0),Z')/\Fr AF Z Z':=by
 obtain⟨Z1,e1,f1,a1,n1⟩:=Cg ht (Vr K l hl r mv hm).c
 have c1:=hc.fr f1 ht
 have rd:∀J,AV 13 tv (AA i) (fun b o=>BP E Z1 b o 13 J)=J (ty i).c:=fun J=>c1.row.all hi J
 obtain⟨Z2,g2,f2⟩:=hP Z1 (AA 12) (AA K) (AA 0) r .nils l mv 0 nf nm' f1.tidy GM.nils hr.len hml
 rw[show I9 (AA 12) (AA K) (AA 0) 0 nf r nm'=true from rfl]at g2
 have f02:=f1.trans f2 (fun _ _ h=>h)
 obtain⟨Z3,g3,f3⟩:=hR Z2 f2.tidy f02
 have f03:=f02.trans f3 (fun _ _ h=>h)
 have a2:CM Z2 Z.next [.int .i64 (AA K),.int .i64 (AA 0),.nils,l,.int .i64 r,mv]:=f2.at_ a1 f1.tidy (fun h=>h)
 have a3:CM Z3 Z.next [.int .i64 (AA K),.int .i64 (AA 0),.nils,l,.int .i64 r,mv]:=f3.at_ a2 f2.tidy (fun h=>h)
 obtain⟨Z4,h4,f4⟩:=fG (E:=E) (W:=W) (N:=N) (x:=ty i) (i:=i) (q:=Z.next) hA hL hok hd hnf nf N 0 Z3 (by omega) hN f03 (hc.fr f03 ht) (hf.fr0 f03 ht) (hr.fr0 f03 ht) a3
 have f04:=f03.trans f4 (fun _ _ h=>h)
 obtain⟨Z5,g5,f5⟩:=hG Z4 f4.tidy f04
 have a4:CM Z4 Z.next [.int .i64 (AA K),.int .i64 (AA 0),.nils,l,.int .i64 r,mv]:=f4.at_ a3 f3.tidy (fun h=>h)
 have hln:=hr.len.2
 have hlf:=hf.len.2
 have e1':Bn Z (.cells [.int .i64 (AA K),.int .i64 (AA 0),.nils,l,.int .i64 r,mv])=Z1:=e1
 have a1':CM Z1 Z.next [.int .i64 (AA K),.int .i64 (AA 0),.nils,l,.int .i64 r,mv]:=a1
 have g3':D 125 [.ptr p 0,.int .i64 (AA i),.agg [.int .i64 (AA K),.int .i64 (AA 0),.nils,l,.int .i64 r,mv]] Z2=some (.bool rb,Z3):=g3
 have g5':D 128 [.ptr p 0,.int .i64 (AA i),.agg [.int .i64 (AA K),.int .i64 (AA 0),.nils,l,.int .i64 r,mv]] Z4=some (.bool true,Z5):=g5
 unfold vc at g2
 have d1:decide (nf=nf)=true:=decide_eq_true rfl
 cases rb with
 | false=>
  refine⟨Z3,?_,f03⟩
  show MO E D W _ p 0 (AA i) (AA K) (AA 0) .nils l r mv (AA dp) Z=_
  unfold MO
  simp -implicitDefEqProofs only [↓rP,rA,AD,AG,AB,hl,hm,↓e1',↓c1.types,↓rd,Ty.c,(ty i).oneT,(ty i).oneI,(ty i).oneF,↓BK a1',↓Az a1',↓g2,↓BK a2,↓Az a2,↓hln,↓hlf,d1,↓g3',Rh]
 | true=>
  have key:∀K',MO E D W K' p 0 (AA i) (AA K) (AA 0) .nils l r mv (AA dp) Z=K' p 0 (AA i) (AA dp) Z.next 0 (ty i).fields (AA nf) (AA 0) (ty i).kind (ty i).tags (ty i).has (ty i).hasLow (ty i).hasHigh (ty i).conMore (ty i).low (ty i).high (ty i).items (ty i).fields (ty i).root (ty i).more (ty i).of_ Z3:=by
   intro K'
   unfold MO
   simp -implicitDefEqProofs only [↓rP,rA,AD,AG,AB,hl,hm,↓e1',↓c1.types,↓rd,Ty.c,(ty i).oneT,(ty i).oneI,(ty i).oneF,↓BK a1',↓Az a1',↓g2,↓BK a2,↓Az a2,↓hln,↓hlf,d1,↓g3']
  have tail:RY E D W N p 0 (AA i) Z.next 0 Z4=some (.bool true,Z5):=by
   show UJ E D W p 0 (AA i) Z.next 0 Z4=_
   unfold UJ
   simp -implicitDefEqProofs only [↓rP,rA,AD,AG,AB,hl,hm,↓Az a4,↓g5']
  rw[DW]
  cases hb:Xh ok nf 0 with
  | true=>
   rw[hb]at h4
   exact⟨Z5,((key _).trans h4).trans tail,f04.trans f5 (fun _ _ h=>h)⟩
  | false=>
   rw[hb]at h4
   exact⟨Z4,(key _).trans h4,f04⟩
end
section
variable {E:EB} {D:Ai} {W:AI} {N:Nat} {p nT:Nat} {ty:Nat->Ty} {nm:BS} {nv rv tv:V} {rest:List V}
theorem fC {Z:H} {K i dp:Nat} {l:V} {hl:l.one=true} {r:Int} {m:V} {hm:m.one=true} {fb:Bool} (hK:K=7\/K=8) (ht:Ao Z) (hc:Ck Z p nT ty nm nv rv tv rest) (hi:i<nT) (hd:dp<=17) (hk:(ty i).kind=AA K)
  (hF:∀Z1,Ao Z1->Fr AF Z Z1->∃Z2,D 103 [.ptr p 0,.int .i64 (AA i),.agg (Vr K l hl r m hm).c,.int .i64 (AA dp)] Z1=some (.bool fb,Z2)/\Fr AF Z1 Z2) :
  ∃Z',jR E D W N [.ptr p 0,.int .i64 (AA i),.agg (Vr K l hl r m hm).c,.int .i64 (AA dp)] Z=some (.bool fb,Z')/\Fr AF Z Z':=by
 obtain⟨Z1,e1,f1,a1,n1⟩:=Cg ht (Vr K l hl r m hm).c
 obtain⟨Z2,g,f2⟩:=hF Z1 f1.tidy f1
 have c1:=hc.fr f1 ht
 have rd:∀J,AV 13 tv (AA i) (fun b o=>BP E Z1 b o 13 J)=J (ty i).c:=fun J=>c1.row.all hi J
 have hln:=c1.row.len.2
 unfold Vc.c Vr at e1 a1 g
 have d1:decide (nT<=i)=false:=decide_eq_false (by omega)
 have d2:decide (17<dp)=false:=decide_eq_false (by omega)
 refine⟨Z2,?_,f1.trans f2 (fun _ _ h=>h)⟩
 show Hb E D W (Sm E D W (Zl E D W (mP E D W N))) p 0 (AA i) (AA K) (AA 0) .nils l r m (AA dp) Z=_
 unfold Hb Sm Zl
 rcases hK with rfl|rfl
 ·simp -implicitDefEqProofs only [↓rP,rA,AD,AG,AB,Dd,hl,hm,↓e1,↓c1.types,↓hln,d1,d2,↓rd,Ty.c,hk,(ty i).oneT,(ty i).oneI,(ty i).oneF,↓BK a1,↓Az a1,↓g]
 ·simp -implicitDefEqProofs only [↓rP,rA,AD,AG,AB,Dd,hl,hm,↓e1,↓c1.types,↓hln,d1,d2,↓rd,Ty.c,hk,(ty i).oneT,(ty i).oneI,(ty i).oneF,↓BK a1,↓Az a1,↓g]
theorem jP {Z:H} {i n:Nat} {v:Vc} {fb:Bool} (hn:n<=5000) (ht:Ao Z) (hr:Fj Z 13 nT tv fun i=>(ty i).c) (h1:nv.one=true) (h2:rv.one=true) (h3:tv.one=true)
  (hF:∀(Z1:H) (p:Nat),Ao Z1->Fr AF Z Z1->Ck Z1 p nT ty nm nv rv tv [.bool false]->∃Z2,D 67 [.ptr p 0,.int .i64 (AA i),.agg v.c,.int .i64 (AA 1)] Z1=some (.bool fb,Z2)/\Fr AF Z1 Z2)
  (hC:∀Z1:H,Ao Z1->Fr AF Z Z1->∃Z2,D 68 [.agg v.c] Z1=some (.int .i64 (AA n),Z2)/\Fr AF Z1 Z2) :
  ∃Z',sz E D W N [.agg [.str nm,nv,rv,tv],.int .i64 (AA i),.agg v.c] Z=some (.bool fb,Z')/\Fr AF Z Z':=by
 cases fb with
 | true=>exact sk hn ht hr h1 h2 h3 hF hC
 | false=>
  obtain⟨Z1,e1,f1,a1,n1⟩:=Cg ht [.str nm,nv,rv,tv]
  obtain⟨Z2,e2,f2,a2,n2⟩:=Cg f1.tidy v.c
  obtain⟨Z3,e3,f3,a3,n3⟩:=Cg f2.tidy [.str nm,nv,rv,tv,.bool false]
  have f02:=f1.trans f2 (fun _ _ h=>h)
  have f03:=f02.trans f3 (fun _ _ h=>h)
  have r3:=hr.fr0 f03 ht
  have c3:Ck Z3 Z2.next nT ty nm nv rv tv [.bool false]:=⟨a3,h1,h2,h3,r3,fun b hb e=>by
   subst e
   have lo:=f02.le
   rcases hr.is with ⟨_,rfl⟩|⟨b,c,L,rfl,ha,_⟩
   ·exact hb
   ·have:=ha.lt ht
    have hb:Z2.next=b:=hb
    omega⟩
  obtain⟨Z4,g4,f4⟩:=hF Z3 Z2.next f3.tidy f03 c3
  have f04:=f03.trans f4 (fun _ _ h=>h)
  have a12:=f2.at_ a1 f1.tidy (fun h=>h)
  have a23:=f3.at_ a2 f2.tidy (fun h=>h)
  refine⟨Z4,?_,f04⟩
  unfold Vc.c at e2 a2 a23 g4
  show Sr E D W nm nv rv tv (AA i) v.k v.n v.b v.l v.r v.m Z=_
  unfold Sr
  simp -implicitDefEqProofs only [↓rP,rA,AD,AG,AB,h1,h2,h3,v.oneB,v.oneL,v.oneM,↓e1,↓e2,↓e3,↓Az a12,↓Az a23,↓g4]
theorem oU {Z:H} {i:Nat} {v:Vc} {O:List Int} {fb:Bool} (ht:Ao Z) (hr:Fj Z 13 nT tv fun i=>(ty i).c) (h1:nv.one=true) (h2:rv.one=true) (h3:tv.one=true)
  (hFi:∀Z1,Ao Z1->Fr AF Z Z1->∃Z',D 40 [.agg [.str nm,nv,rv,tv],.int .i64 (AA i),.agg v.c] Z1=some (.bool fb,Z')/\Fr AF Z1 Z')
  (hRu:fb=true->∀Z1,Ao Z1->Fr AF Z Z1->∃Z',D 41 [.agg v.c,.int .i64 (AA 1)] Z1=some (.bool true,Z')/\Fr AF Z1 Z')
  (hE:fb=true->O.length<=70000/\∀Z1 q,Fr AF Z Z1->Ck Z1 q nT ty nm nv rv tv []->Gj (D 42) [.ptr q 0,.int .i64 (AA i),.agg v.c] Z1 O) :
  ∃w e Z',uV E D W N [.agg [.str nm,nv,rv,tv],.int .i64 (AA i),.agg v.c] Z=some (.tup [w,.int .i64 e],Z')/\w.one=true/\Fr AF Z Z'/\(fb=true->e=AA 0/\Nb Z Z' w O)/\(fb=false->e=AA 13):=by
 obtain⟨Z1,e1,f1,a1,n1⟩:=Cg ht [.str nm,nv,rv,tv]
 obtain⟨Z2,e2,f2,a2,n2⟩:=Cg f1.tidy v.c
 have f02:=f1.trans f2 (fun _ _ h=>h)
 obtain⟨Z3,g3,f3⟩:=hFi Z2 f02.tidy f02
 have f03:=f02.trans f3 (fun _ _ h=>h)
 have a12:=f2.at_ a1 f1.tidy (fun h=>h)
 have a13:=f3.at_ a12 f02.tidy (fun h=>h)
 have a23:=f3.at_ a2 f02.tidy (fun h=>h)
 show ∃w e Z',V4 E D W nm nv rv tv (AA i) v.k v.n v.b v.l v.r v.m Z=some (.tup [w,.int .i64 e],Z')/\_
 cases fb with
 | false=>
  refine⟨.nils,AA 13,Z3,?_,rfl,f03,fun h=>(by cases h),fun _=>rfl⟩
  unfold Vc.c at e2 a2 g3
  unfold V4
  simp -implicitDefEqProofs only [↓rP,rA,AD,AG,AB,h1,h2,h3,v.oneB,v.oneL,v.oneM,↓e1,↓Az a12,↓e2,↓Az a2,↓g3]
 | true=>
  obtain⟨Z4,g4,f4⟩:=hRu rfl Z3 f03.tidy f03
  obtain⟨hO,hE⟩:=hE rfl
  have f04:=f03.trans f4 (fun _ _ h=>h)
  obtain⟨Z5,e5,f5,a5,n5⟩:=Cg f04.tidy [.str nm,nv,rv,tv]
  have f05:=f04.trans f5 (fun _ _ h=>h)
  have r5:=hr.fr0 f05 ht
  have c5:Ck Z5 Z4.next nT ty nm nv rv tv []:=⟨a5,h1,h2,h3,r5,fun b hb e=>by
   subst e
   have lo:=f04.le
   rcases hr.is with ⟨_,rfl⟩|⟨b,c,L,rfl,ha,_⟩
   ·exact hb
   ·have:=ha.lt ht
    have hb:Z4.next=b:=hb
    omega⟩
  obtain⟨u,Z6,g6,h6,f6⟩:=hE Z5 Z4.next f05 c5
  have a14:=f4.at_ a13 f03.tidy (fun h=>h)
  have a24:=f4.at_ a23 f03.tidy (fun h=>h)
  have a25:=f5.at_ a24 f04.tidy (fun h=>h)
  have sl:=h6.by_.slen
  have d7:decide (70000<O.length)=false:=decide_eq_false (by omega)
  have o6:=h6.1.one
  refine⟨u,AA 0,Z6,?_,o6,f05.trans f6 (fun _ _ h=>h),fun _=>⟨rfl,h6.mono f05.le⟩,fun h=>(by cases h)⟩
  unfold Vc.c at e2 a2 a23 a24 a25 g3 g4 g6
  unfold V4
  simp -implicitDefEqProofs only [↓rP,rA,AD,AG,AB,h1,h2,h3,v.oneB,v.oneL,v.oneM,↓e1,↓Az a12,↓e2,↓Az a2,↓g3,↓Az a23,↓g4,↓Az a14,↓e5,↓Az a25,↓g6,↓Aj o6,↓sl,d7]
end
end
end Go.Proofs.YtoengnbdallegaaGreatDoor
