/- What the last text leans on, part 7 of 7: merged out of smaller texts. No condition. -/
import Derived.Test.YtcpdffccolffaaaGreatDoorChecked
import Derived.Test.YtcpdffccolffaaaGreatDoorCards
import Derived.KernelRfl
import Derived.Test.YtcpdffccolffaaaGreatDoorQ5
open Int renaming ofNat -> AA,tmod -> Fq
open Nat renaming reduceLeDiff -> AB,reduceEqDiff -> AD,reduceLT -> AG,le_refl -> AN,add -> Ac,le_trans -> Ae,lt_or_ge -> Al,ble -> A0,ble_eq -> BC,lt_of_lt_of_le -> Bg,lt_irrefl -> CD,zero_le -> CH,zero_add -> CJ,le_of_ble_eq_true -> Gr,add_sub_cancel_left -> IL,le_add_right -> M7,mod_lt -> Re,eq_zero_or_pos -> ye
open Bool renaming and_eq_true -> AK,not_true -> Cn,false_or -> DL,not_false -> FN,or_false -> Jj
open List renaming length_append -> AL,getElem?_eq_getElem -> AZ,getElem?_eq_none -> Aa,append_assoc -> Ab,getD_eq_getElem?_getD -> Ad,length_cons -> Aj,append_nil -> Am,getElem?_map -> BM,replicate -> Bj,map_cons -> B3,drop_eq_getElem_cons -> B4,length_nil -> CA,drop_zero -> CO,length_singleton -> Cc,nil_append -> Cy,drop_eq_nil_of_le -> DD,length_map -> DH,getElem_mem -> DK,range' -> Da,getElem?_append_left -> Dl,drop_drop -> IP,mem_singleton -> JN,map_nil -> JO,all_cons -> Ji,take_length -> M8,map_append -> PN,range'_succ -> Yh,map_map -> qY
set_option linter.all false
set_option maxRecDepth 100000
namespace Go.Proofs.YtcpdffccolffaaaGreatDoor
open Go Go.Og
noncomputable section
structure xl (J0 J:H) (eb w q6 q7 lo:Nat) (u sv bv:V) (cs c6 c7:List V) (L S:List Nat) (bl:Nat->Nat) (B:List Bool):Prop where
 wk:Wk J0 J eb w u cs L
 k6:Kp J w u q6 c6
 k7:Kp J w u q7 c7
 ks:Sk J w u sv S bl
 kb:Bk J w u bv B
 nb:∀c,Ai bv c->lo<=c/\c≠q6/\c≠q7
 lo0:J0.next<=lo
 le:eb<lo
 ls:∀c,Ai sv c->c<lo
 lb:∀j,j<S.length->bl j<lo
 ln:lo<=J.next
section
variable {E:EB} {D D':Az} {W:AM} {N:Nat} {nT:Nat} {ty:Nat->Ty} {nm:BS} {nv rv tv:V} {nf:Nat} {fd:Nat->Fd} {g:Nat->Vc} {ab:Nat->Bool} {X:Nat->List Nat} {S:List Nat} {x:Ty}
theorem ext_one {J0 J:H} {eb w q6 q7 lo:Nat} {u sv bv:V} {cs c6 c7:List V} {L:List Nat} {bl:Nat->Nat} {B:List Bool} (h:xl J0 J eb w q6 q7 lo u sv bv cs c6 c7 L S bl B) (hB:B.length<=1000) (b:Bool) :
    ∃bv' J',(∀U:V->H->AH,Ee E 1 1 bv (V.sl (H.next J) 0 1 (.ex 1)) (DR J (.cells [.bool b])) U=U bv' J')/\xl J0 J' eb w q6 q7 lo u sv bv' cs c6 c7 L S bl (B++[b])/\bv'.one=true/\Fr (fun c=>lo<=c) J J':=by
  have ht:=h.wk.tidy
  obtain⟨J1,e1,f1,a1,n1⟩:=Ay ht [.bool b]
  rw[e1]
  have xs:EY J1 1 1 (V.sl J.next 0 1 (.ex 1)) [.bool b] := .inr ⟨_,_,_,_,rfl,a1,AN _,rfl⟩
  obtain⟨bv',J',g,d',nm',f⟩:=HP (E:=E) (bytes:=1) (h.kb.d.fr f1 ht (fun _ _ h=>h)) f1.tidy xs rfl (by unfold CV;simp only[AK,BC];omega)
  have F:Fr (Ai bv) J J':=(Fr.to_any f1).trans f (fun _ _ h=>h)
  have le:=F.le
  have lw:=h.wk.pw.at_.lt ht
  have lu:∀c,Ai u c->c<J.next:=fun c hc=>h.wk.pw.d.lt ht hc
  have l6:=h.k6.o.1
  have l7:=h.k7.o.1
  have hle:=h.le
  have h0:=h.lo0
  have hln:=h.ln
  have up:∀{c:Nat},E4 J w u c->E4 J' w u c:=fun o=>⟨Bg o.1 le,o.2⟩
  refine⟨bv',J',g,⟨⟨h.wk.pw.frS F ht (fun e=>(h.kb.o w e).2.1 rfl) (fun c hc e=>(h.kb.o c e).2.2 hc),h.wk.f.trans F (fun c hc e=>by have:=(h.nb c e).1;omega),h.wk.lo,F.at_ h.wk.e ht (fun e=>by have:=(h.nb eb e).1;omega),up h.wk.eo⟩,⟨F.at_ h.k6.a ht (fun e=>(h.nb q6 e).2.1 rfl),up h.k6.o⟩,⟨F.at_ h.k7.a ht (fun e=>(h.nb q7 e).2.2 rfl),up h.k7.o⟩,⟨⟨h.ks.s.row.fr F ht (fun c hc e=>by have:=(h.nb c e).1;have:=h.ls c hc;omega),fun j k hk=>F.at_ (h.ks.s.at_ j k hk) ht (fun e=>by
    have hj:j<S.length:=by
      rcases Al j S.length with h'|h'
      · exact h'
      · rw[Aa h']at hk;cases hk
    have:=(h.nb _ e).1;have:=h.lb j hj;omega),h.ks.s.one⟩,fun c hc=>up (h.ks.o c hc),fun j hj=>up (h.ks.p j hj)⟩,⟨?_,fun c hc=>?_⟩,fun c hc=>?_,h0,hle,h.ls,h.lb,Ae hln le⟩,d'.one,F.mono fun c _ e=>(h.nb c e).1⟩
  · rw[AL]
    unfold bI at d' ⊢
    rw[PN];exact d'
  · rcases nm' c hc with h' | h'
    · exact up (h.kb.o c h')
    · exact⟨d'.lt f.tidy hc,by omega,fun e=>by have:=lu c e;omega⟩
  · rcases nm' c hc with h' | h'
    · exact h.nb c h'
    · exact⟨by omega,by omega,by omega⟩
theorem uU {J0:H} {eb w q6 q7 lo:Nat} {u sv mv xv:V} {cs c6 c7:List V} {L:List Nat} {bl:Nat->Nat} {s:Nat} {len idx:Int} (hs:s<=1000) (R2:Nat->Nat->V->V->Nat->Nat->Nat->Nat->V->Int->Int->H->AH) :
  ∀(d n':Nat) (B:List Bool) (bv:V) (J:H),B.length+d=s->d<n'->xl J0 J eb w q6 q7 lo u sv bv cs c6 c7 L S bl B ->
   ∃bv' B' J',RI E D W N R2 n' eb 0 sv bv q6 0 q7 0 mv len idx (AA s) xv J=RP E D W N R2 eb 0 sv bv' q6 0 q7 0 mv len idx J'/\xl J0 J' eb w q6 q7 lo u sv bv' cs c6 c7 L S bl B'/\(∃M,B'=B++M)/\B'.length=s/\Fr (fun c=>lo<=c) J J':=by
 intro d
 induction d with
 | zero=>
  intro n' B bv J hd hn' h
  obtain⟨n',rfl⟩:∃k,n'=k+1:=⟨n'-1,by omega⟩
  have sl:∀U:Nat->AH,BA bv U=U B.length:=fun U=>h.kb.d.slen
  have d1:decide (B.length<s)=false:=decide_eq_false (by omega)
  refine⟨bv,B,J,?_,h,⟨[],(Am _).symm⟩,by omega,Fr.refl h.wk.tidy⟩
  show KK E D W (RP E D W N R2) _ eb 0 sv bv q6 0 q7 0 mv len idx (AA s) xv J=_
  have key:∀K R,KK E D W K R eb 0 sv bv q6 0 q7 0 mv len idx (AA s) xv J=K eb 0 sv bv q6 0 q7 0 mv len idx J:=by
   intro K R
   unfold KK
   simp -implicitDefEqProofs only [↓rP,rA,AD,AG,AB,↓sl,d1]
  exact key _ _
 | succ d ih=>
  intro n' B bv J hd hn' h
  obtain⟨n',rfl⟩:∃k,n'=k+1:=⟨n'-1,by omega⟩
  have sl:∀U:Nat->AH,BA bv U=U B.length:=fun U=>h.kb.d.slen
  have d1:decide (B.length<s)=true:=decide_eq_true (by omega)
  obtain⟨bv1,J1,g1,h1,o1,f1⟩:=ext_one (E:=E) h (by omega) false
  obtain⟨bv',B',J',g',h',⟨M,rfl⟩,hl,f'⟩:=ih n' (B++[false]) bv1 J1 (by rw[AL,Cc];omega) (by omega) h1
  refine⟨bv',_,J',?_,h',⟨[false]++M,by rw[Ab]⟩,hl,f1.trans f' (fun _ _ h=>h)⟩
  rw[<-g']
  show KK E D W (RP E D W N R2) (RI E D W N R2 n') eb 0 sv bv q6 0 q7 0 mv len idx (AA s) xv J=_
  have key:∀K R,KK E D W K R eb 0 sv bv q6 0 q7 0 mv len idx (AA s) xv J=R eb 0 sv bv1 q6 0 q7 0 mv len idx (AA s) xv J1:=by
   intro K R
   unfold KK
   simp -implicitDefEqProofs only [↓rP,rA,AD,AG,AB,↓sl,d1,↓g1,↓CM o1]
  exact key _ _
theorem nE {J0:H} (ht0:Af J0) {eb w q6 q7 lo:Nat} {u sv mv:V} {cs c6 c7:List V} {L C Rs:List Nat} {bl:Nat->Nat} (hR:Zn J0 mv C Rs) (hlt:∀s∈Rs,s<100) (hN:1001<N) :
  ∀(q n' i:Nat) (B:List Bool) (bv:V) (J:H),i+q=Rs.length->q<n'->WJ B.length (Rs.drop i)->B.length<=100->Rs.length<=1000->xl J0 J eb w q6 q7 lo u sv bv cs c6 c7 L S bl B ->
   ∃bv' B' J',Ly E D W N n' eb 0 sv bv q6 0 q7 0 mv (AA Rs.length) (AA i) J=RQ E D W N eb 0 sv bv' q6 0 q7 0 J'/\xl J0 J' eb w q6 q7 lo u sv bv' cs c6 c7 L S bl B'/\(∃M,B'=B++M)/\B'.length<=100/\Fr (fun c=>lo<=c) J J':=by
 intro q
 induction q with
 | zero=>
  intro n' i B bv J hi hn' hinc hB hRl h
  obtain⟨n',rfl⟩:∃k,n'=k+1:=⟨n'-1,by omega⟩
  have d1:decide (i<Rs.length)=false:=decide_eq_false (by omega)
  refine⟨bv,B,J,?_,h,⟨[],(Am _).symm⟩,hB,Fr.refl h.wk.tidy⟩
  show KL E D W (RQ E D W N) _ eb 0 sv bv q6 0 q7 0 mv (AA Rs.length) (AA i) J=_
  have key:∀K R,KL E D W K R eb 0 sv bv q6 0 q7 0 mv (AA Rs.length) (AA i) J=K eb 0 sv bv q6 0 q7 0 J:=by
   intro K R
   unfold KL
   simp -implicitDefEqProofs only [↓rP,rA,AD,AG,AB,d1]
  exact key _ _
 | succ q ih=>
  intro n' i B bv J hi hn' hinc hB hRl h
  obtain⟨n',rfl⟩:∃k,n'=k+1:=⟨n'-1,by omega⟩
  have hil:i<Rs.length:=by omega
  rw[B4 hil]at hinc
  obtain⟨s,hs⟩:∃s,s=Rs[i]:=⟨_,rfl⟩
  rw[<-hs]at hinc
  have hs100:=hlt s (by rw[hs];exact DK hil)
  have hgd:Rs.getD i 0=s:=by rw[Ad,AZ hil,hs];rfl
  cases hinc with
  | cons hls hinc=>
  obtain⟨us,row,hus⟩:=hR.fr0 h.wk.f ht0
  have r1:∀U,AT 2 mv (AA i) (fun b o=>BQ E J b o 2 U)=U [.int .i64 (AA s),us i]:=fun U=>by rw[<-hgd];exact row.all hil U
  have bo:(us i).one=true:=EY.one (hus i hil)
  have ho:allOne [V.int .i64 (AA s),us i]=true:=by simp[Bd,Bo,bo,DN]
  have d1:decide (i<Rs.length)=true:=decide_eq_true hil
  obtain⟨bv1,B1,J1,g1,h1,⟨M1,rfl⟩,hl1,f1⟩:=uU (E:=E) (D:=D) (W:=W) (N:=N) (s:=s) (mv:=mv) (xv:=us i) (len:=AA Rs.length) (idx:=AA i) (by omega) (Ly E D W N n') (s-B.length) N B bv J (by omega) (by omega) h
  obtain⟨bv2,J2,g2,h2,o2,f2⟩:=ext_one (E:=E) h1 (by omega) true
  obtain⟨bv',B',J',g',h',⟨M,rfl⟩,hl,f'⟩:=ih n' (i+1) ((B++M1)++[true]) bv2 J2 (by omega) (by omega) (by rw[AL,Cc,hl1];exact hinc) (by rw[AL,Cc,hl1];omega) hRl h2
  refine⟨bv',_,J',?_,h',⟨M1++[true]++M,by simp only[Ab]⟩,hl,(f1.trans f2 (fun _ _ h=>h)).trans f' (fun _ _ h=>h)⟩
  rw[<-g']
  show KL E D W (RQ E D W N) (RI E D W N (Ly E D W N n') N) eb 0 sv bv q6 0 q7 0 mv (AA Rs.length) (AA i) J=_
  have key:∀K R,KL E D W K R eb 0 sv bv q6 0 q7 0 mv (AA Rs.length) (AA i) J=R eb 0 sv bv q6 0 q7 0 mv (AA Rs.length) (AA i) (AA s) (us i) J:=by
   intro K R
   unfold KL
   simp -implicitDefEqProofs only [↓rP,rA,AD,AG,AB,DU,d1,↓r1,bo,ho]
  refine(key _ _).trans (g1.trans ?_)
  show Qv E D W (Ts E D W (Ly E D W N n')) eb 0 sv bv1 q6 0 q7 0 mv (AA Rs.length) (AA i) J1=_
  have k4:∀K,Qv E D W K eb 0 sv bv1 q6 0 q7 0 mv (AA Rs.length) (AA i) J1=K eb 0 sv bv2 q6 0 q7 0 mv (AA Rs.length) (AA i) J2:=by
   intro K
   unfold Qv
   simp -implicitDefEqProofs only [↓rP,rA,AD,AG,AB,↓g2,↓CM o2]
  rw[k4]
  unfold Ts
  rw[BX (show i+1<=9223372036854775807 by omega)]
theorem zt (hP:Mu (D 121)) {J0 J:H} {eb w qb s:Nat} {u xv mv:V} {cs:List V} {L C:List Nat} {len idx:Int} (wk:Wk J0 J eb w u cs L) (aq:B8 J qb [.int .i64 (AA s),xv]) (oq:E4 J w u qb) (hx:By J xv (nI C)) (ox:∀c,Ai xv c->E4 J w u c) (xb:V.beq xv xv=true) (hC:L0 C) (hl:L.length<4000000) :
  ∃e' Z u' J',Ao E D Nx RR [(0,.ptr eb 0),(19,.ptr qb 0),(101,mv),(102,.int .i64 len),(103,.int .i64 idx)] J=some (e',J')/\(Go.Og.look e' 0=some (.ptr eb 0)/\Go.Og.look e' 101=some mv/\Go.Og.look e' 102=some (.int .i64 len)/\Go.Og.look e' 103=some (.int .i64 idx))/\D1 J w u J' u' (L++Z)/\Z.length<=2000:=by
 have ht:=wk.tidy
 have xo:=EY.one hx
 have fw:Fr AJ J ⟨J.next+8,J.bl⟩:=(CN (E:=E) (n:=8) (S:=AJ) ht).fr
 obtain⟨Ja,ha⟩:∃Ja,Ja=(⟨J.next+8,(J.next+6,.cells [xv])::J.bl⟩:H):=⟨_,rfl⟩
 have f0a:Fr AJ J Ja:=by
  rw[ha]
  refine⟨fun b hb=>?_,M7 _ _,fun b hb hn=>?_⟩
  ·have hb:J.next+8<=b:=hb
   show Ba ((J.next+6,_)::J.bl) b=none
   rw[BH,if_neg (by simp only[];omega)]
   exact ht b (by omega)
  ·show Ba ((J.next+6,_)::J.bl) b=_
   rw[BH,if_neg (by simp only[];omega)]
 have aa:B8 Ja (J.next+6) [xv]:=by
  rw[ha]
  show Ba ((J.next+6,_)::J.bl) _=_
  rw[BH,if_pos rfl]
 have va:By Ja xv (nI C):=hx.fr f0a ht
 have wa:=wk.fr f0a
 have few:=hC.few
 obtain⟨Z,u5,J5,lZ,g5,s5⟩:=hP Ja w (J.next+6) u xv L C wa.pw wa.tidy (by omega) (by omega) hC.oct aa va
 have lw:∀b,Ht w u b->b<J.next:=fun b hb=>by
  rcases hb with hb|hb
  ·subst hb;exact wk.pw.at_.lt ht
  ·exact wk.pw.d.lt ht hb
 have ae:=wk.e
 have go:Fo E D J 8 0 (Ht w u) Nx RR ⟨[(0,.ptr eb 0),(19,.ptr qb 0),(101,mv),(102,.int .i64 len),(103,.int .i64 idx)],J.next+8,[J.bl],[],0,[]⟩ _ J5:=
   B5 (.ptr eb 0) rfl rfl <|
   B5 (.ptr eb 0) rfl rfl <|
   B5 (.ptr eb 0) rfl rfl <|
   D0 (.ptr w 0) (CN ht) rfl (Bb (b:=eb) (off:=0) rfl ae rfl ht wk.eo.not (As _ rfl)) fun _ r1=>
   B5 (.ptr qb 1) rfl rfl <|
   D0 xv r1 rfl (Bb (b:=qb) (off:=1) rfl aq rfl ht oq.not xb) fun _ r2=>
   Th (.sl (J.next+6) 0 1 (.ex 1)) (.cells [xv]) 64 r2 rfl (by decide) (by decide) (fD rfl xo) fun _ r4=>
   IE (.tup []) (by rw[<-ha]at r4;exact r4) rfl (by decide) (S':=Ht w u) s5.f (fun _ _ h=>h) (fun b h h1 _=>by have:=lw b h;omega) (DO (vs:=[.ptr w 0,.sl (J.next+6) 0 1 (.ex 1)]) rfl rfl g5) fun _ _ _ r5=>
   Fv r5
 obtain⟨d1,d2⟩:=El (ops:=Nx) go
 exact⟨_,Z,u5,J5,d1,⟨rfl,rfl,rfl,rfl⟩,D1.behind f0a s5,by omega⟩
theorem lj {J:H} {u:V} {l:List Int} (h:By J u l):V.beq u u=true:=by
 rcases h with ⟨_,rfl,_⟩|⟨b,o,c,M,rfl,_⟩
 ·rfl
 ·exact As _ rfl
theorem tj (hP:Mu (D 121)) {J0:H} (ht0:Af J0) {eb w:Nat} {mv:V} {cs:List V} {C Rs:List Nat} (hR:Zn J0 mv C Rs) (hC:L0 C) (hmo:mv.one=true) (hRl:Rs.length<=100) :
  ∀(q n' i:Nat) (u:V) (J:H) (L:List Nat),i+q=Rs.length->q<n'->Wk J0 J eb w u cs L->L.length+2000*q<4000000 ->
   ∃Z u' J',Mz E D (Ao E D) N n' eb 0 mv (AA Rs.length) (AA i) J=some (.tup [],J')/\D1 J w u J' u' (L++Z)/\Z.length<=2000*q:=by
 intro q
 induction q with
 | zero=>
  intro n' i u J L hi hn' wk hl
  obtain⟨n',rfl⟩:∃k,n'=k+1:=⟨n'-1,by omega⟩
  have d1:decide (i<Rs.length)=false:=decide_eq_false (by omega)
  refine⟨[],u,J,?_,by rw[Am];exact D1.refl wk.pw wk.tidy,CH _⟩
  show Ky E D (Ao E D) _ eb 0 mv (AA Rs.length) (AA i) J=_
  unfold Ky
  simp -implicitDefEqProofs only [↓rP,rA,AD,AG,AB,d1]
 | succ q ih=>
  intro n' i u J L hi hn' wk hl
  obtain⟨n',rfl⟩:∃k,n'=k+1:=⟨n'-1,by omega⟩
  have hil:i<Rs.length:=by omega
  have ht:=wk.tidy
  obtain⟨us,row,hus⟩:=hR.fr0 wk.f ht0
  obtain⟨us0,row0,hus0⟩:=hR
  obtain⟨s,hgd⟩:∃s,s=Rs.getD i 0:=⟨_,rfl⟩
  have r1:∀U,AT 2 mv (AA i) (fun b o=>BQ E J b o 2 U)=U [.int .i64 (AA s),us0 i]:=fun U=>by rw[hgd];exact(row0.fr0 wk.f ht0).all hil U
  have hx0:=hus0 i hil
  have bo:(us0 i).one=true:=EY.one hx0
  have ho:allOne [V.int .i64 (AA s),us0 i]=true:=by simp[Bd,Bo,bo,DN]
  have d1:decide (i<Rs.length)=true:=decide_eq_true hil
  obtain⟨J1,e1,f1,a1,n1⟩:=Ay ht [.int .i64 (AA 0),.nils]
  obtain⟨J2,e2,f2,a2⟩:=Ci f1.tidy a1 [.int .i64 (AA s),us0 i]
  have f02:Fr AJ J J2:=f1.trans f2 (fun b hb e=>by omega)
  have w2:=wk.fr f02
  have oq:E4 J2 w u J.next:=E4.pw wk.pw ht (AN _) (a2.lt f2.tidy)
  have ox:∀c,Ai (us0 i) c->E4 J2 w u c:=fun c hc=>by
   have h1:=EY.lt hx0 ht0 hc
   have h2:=wk.f.le
   have h3:=f02.le
   exact⟨by omega,fun e=>by have:=wk.lo w (.inl rfl);omega,fun e=>by have:=wk.lo c (.inr e);omega⟩
  obtain⟨e',Z1,u3,J3,g3,⟨q0,q101,q102,q103⟩,s3,lZ⟩:=zt (E:=E) (mv:=mv) (len:=AA Rs.length) (idx:=AA i) hP w2 a2 oq ((hx0.fr wk.f ht0).fr f02 ht) ox (lj hx0) hC (by omega)
  have s03:=D1.behind f02 s3
  obtain⟨Z2,u4,J4,g4,s4,lZ2⟩:=ih n' (i+1) u3 J3 (L++Z1) (by omega) (by omega) (wk.step s03) (by rw[AL];omega)
  refine⟨Z1++Z2,u4,J4,?_,by have:=s03.trans s4;rw[Ab]at this;exact this,by rw[AL];omega⟩
  rw[<-g4]
  have st:∀U:H->AH,Dt 2 J.next 0 (V.agg [.int .i64 (AA s),us0 i]) J1 U=U J2:=fun U=>by
   rw[Cg a1 (by show (true&&true&&allOne [V.int .i64 (AA s),us0 i])=true;rw[ho];rfl)]
   show U (EV J1 J.next (.cells [.int .i64 (AA s),us0 i]))=_
   rw[e2]
  have gd:∀U:CF->H->AH,DA (Ao E D Nx RR [(0,.ptr eb 0),(19,.ptr J.next 0),(101,mv),(102,.int .i64 (AA Rs.length)),(103,.int .i64 (AA i))] J2) U=U e' J3:=fun U=>by rw[g3];rfl
  have m0:∀U:V->AH,BW e' 0 U=U (.ptr eb 0):=fun U=>BG q0 rfl
  have m1:∀U:V->AH,BW e' 101 U=U mv:=fun U=>BG q101 (DI hmo)
  have m2:∀U:V->AH,BW e' 102 U=U (.int .i64 (AA Rs.length)):=fun U=>BG q102 rfl
  have m3:∀U:V->AH,BW e' 103 U=U (.int .i64 (AA i)):=fun U=>BG q103 rfl
  show Ky E D (Ao E D) (Mz E D (Ao E D) N n') eb 0 mv (AA Rs.length) (AA i) J=_
  unfold Ky
  simp -implicitDefEqProofs only [↓rP,rA,AD,AG,AB,d1,↓r1,bo,↓e1,↓st,↓gd,↓m0,↓m1,↓m2,↓m3,BX (show i+1<=9223372036854775807 by omega)]
theorem W5 (hF:Gq (D 118)) {W:AM} {B:List Bool} {J0:H} {eb w q6 q7:Nat} {cs:List V} {sv bv:V} (hB:B.length<=1000) :
  ∀(m n' j:Nat) (u:V) (J:H) (L:List Nat),j+m=B.length->m<n'->Wk J0 J eb w u cs L->Bk J w u bv B->L.length+m<8000000 ->
   ∃u' J',Ua E D W N n' eb 0 sv bv q6 0 q7 0 bv (AA B.length) (AA j) J=YC E D W N eb 0 sv bv q6 0 q7 0 J'/\D1 J w u J' u' (L++(B.drop j).map W0):=by
 intro m
 induction m with
 | zero=>
  intro n' j u J L hj hn' wk kb hl
  obtain⟨n',rfl⟩:∃k,n'=k+1:=⟨n'-1,by omega⟩
  refine⟨u,J,?_,by rw[DD (by omega),JO,Am];exact D1.refl wk.pw wk.tidy⟩
  have k0:∀K1 R,NZ E D W K1 R eb 0 sv bv q6 0 q7 0 bv (AA B.length) (AA j) J=K1 eb 0 sv bv q6 0 q7 0 J:=by
   intro K1 R
   unfold NZ
   rw[Ek,decide_eq_false (by omega),Co]
  exact k0 _ _
 | succ m ih=>
  intro n' j u J L hj hn' wk kb hl
  obtain⟨n',rfl⟩:∃k,n'=k+1:=⟨n'-1,by omega⟩
  have hlt:j<B.length:=by omega
  have d1:decide (j<B.length)=true:=decide_eq_true hlt
  have rd:∀U,AT 1 bv (AA j) (fun b o=>BL E J b o U)=U (.bool B[j]):=fun U=>Jm kb.d.src (by unfold bI;rw[BM,AZ hlt];rfl) U
  obtain⟨u2,J2,g2,s2⟩:=hF J eb w u L B[j] _ wk.e wk.pw wk.tidy (by omega)
  obtain⟨u3,J3,g3,s3⟩:=ih n' (j+1) u2 J2 _ (by omega) (by omega) (wk.step s2) (kb.step s2 wk.tidy) (by rw[AL,Cc];omega)
  refine⟨u3,J3,?_,?_⟩
  ·have k1:∀K1 R,NZ E D W K1 R eb 0 sv bv q6 0 q7 0 bv (AA B.length) (AA j) J=R eb 0 sv bv q6 0 q7 0 bv (AA B.length) (AA (j+1)) J2:=by
    intro K1 R
    unfold NZ
    simp -implicitDefEqProofs only [↓rP,rA,AD,AG,AB,d1,↓rd,↓g2,BX (show j+1<=9223372036854775807 by omega)]
   exact(k1 _ _).trans g3
  ·have:=s2.trans s3
   rw[Ab]at this
   rw[B4 hlt,B3]
   exact this
theorem W4 {B:List Bool} (hB:∀(j k:Nat),S[j]? = some k->B[j]? = some (!ab k)) (hO:PI (D 202) D') (hQ:Zf (D' 238) nT ty nf fd g ab X) (hX:∀k,(X k).length<=1000) (hX0:∀k∈S,ab k=false->0<(X k).length) (hS:∀k∈S,k<nf) (hSl:S.length<=64) (hg:∀k∈S,(fd k).group=AA 0) (hfb:∀k,k<nf->V.beq (.agg (fd k).c) (.agg (fd k).c)=true)
  {J0:H} (ht0:Af J0) (T:Tb J0 nT ty nv rv tv) (hs:Iq J0 x nf fd) {v0:Vc} (hr:GO J0 6 nf v0.l fun k=>(g k).c) {eb w q6 q7:Nat} {sv bv:V} {bl:Nat->Nat} :
  ∀(m n' j:Nat) (u:V) (J:H) (L:List Nat),j+m=S.length->m<n'->Wk J0 J eb w u [.str nm,nv,rv,tv] L->Kp J w u q6 x.c->Kp J w u q7 v0.c->Sk J w u sv S bl->Bk J w u bv B->L.length+1100*m<1000000 ->
   ∃u' J',M0 E D (Ao E D) N n' eb 0 bv q6 0 q7 0 sv (AA S.length) (AA j) J=YB E D (Ao E D) N eb 0 q7 0 J'/\D1 J w u J' u' (L++Mp ab X (S.drop j)):=by
 intro m
 induction m with
 | zero=>
  intro n' j u J L hj hn' wk k6 k7 ks kb hl
  obtain⟨n',rfl⟩:∃k,n'=k+1:=⟨n'-1,by omega⟩
  refine⟨u,J,?_,by rw[DD (by omega),show Mp ab X []=[] from rfl,Am];exact D1.refl wk.pw wk.tidy⟩
  have k0:∀K1 K11,I8 E D (Ao E D) K1 K11 eb 0 bv q6 0 q7 0 sv (AA S.length) (AA j) J=K1 eb 0 q7 0 J:=by
   intro K1 K11
   unfold I8
   rw[Ek,decide_eq_false (by omega),Co]
  exact k0 _ _
 | succ m ih=>
  intro n' j u J L hj hn' wk k6 k7 ks kb hl
  obtain⟨n',rfl⟩:∃k,n'=k+1:=⟨n'-1,by omega⟩
  have ht:=wk.tidy
  have hlt:j<S.length:=by omega
  have hk:S[j]? = some S[j]:=AZ hlt
  have hm':S[j]∈S:=DK hlt
  have hkn:=hS _ hm'
  have d1:decide (j<S.length)=true:=decide_eq_true hlt
  have r1:∀U,AT 1 sv (AA j) (fun b o=>BL E J b o U)=U (.sl (bl j) 0 1 (.ex 1)):=fun U=>ks.s.rd hk U
  obtain⟨J1,e1,f1,a1,n1⟩:=Ay ht [.nils]
  obtain⟨J2,e2,f2,a2⟩:=Ci f1.tidy a1 [.sl (bl j) 0 1 (.ex 1)]
  have f02:Fr AJ J J2:=f1.trans f2 (fun b hb e=>by omega)
  have w2:=wk.fr f02
  have k62:=k6.fr f02 ht
  have k72:=k7.fr f02 ht
  have ks2:=ks.fr f02 ht
  have kb2:=kb.fr f02 ht
  obtain⟨e',J3,g3,q0,q4,q6',q7',q15,q16,q17,q69,q70,q71,a17,f3⟩:=fP (E:=E) (D:=D) (eb:=eb) (q7:=q7) (j:=j) (sv:=sv) (bv:=bv) (len:=AA S.length) w2.tidy hkn (hs.fr w2.f ht0) k62.a a2 (ks2.s.at_ j _ hk) (hfb _ hkn)
  have f03:=f02.trans f3 (fun _ _ h=>h)
  have w3:=w2.fr f3
  have k63:=k62.fr f3 w2.tidy
  have k73:=k72.fr f3 w2.tidy
  have ks3:=ks2.fr f3 w2.tidy
  have kb3:=kb2.fr f3 w2.tidy
  have a16:=f3.at_ a2 w2.tidy (fun h=>h)
  have rb:∀U,AT 1 bv (AA j) (fun b o=>BL E J3 b o U)=U (.bool (!ab S[j])):=fun U=>Jm kb3.d.src (by unfold bI;rw[BM,hB _ _ hk];rfl) U
  have st:∀U:H->AH,Dt 1 J.next 0 (.sl (bl j) 0 1 (.ex 1)) J1 U=U J2:=fun U=>by
   rw[Cg a1 rfl]
   show U (EV J1 J.next (.cells [.sl (bl j) 0 1 (.ex 1)]))=_
   rw[e2]
  have gd:∀U:CF->H->AH,DA (Ao E D Ny RS [(0,.ptr eb 0),(4,bv),(6,.ptr q6 0),(7,.ptr q7 0),(15,.int .i64 (AA j)),(16,.ptr J.next 0),(69,sv),(70,.int .i64 (AA S.length)),(71,.int .i64 (AA j))] J2) U=U e' J3:=fun U=>by rw[g3];rfl
  have m0:∀U:V->AH,BW e' 0 U=U (.ptr eb 0):=fun U=>BG q0 rfl
  have m4:∀U:V->AH,BW e' 4 U=U bv:=fun U=>BG q4 (DI kb.d.one)
  have m6:∀U:V->AH,BW e' 6 U=U (.ptr q6 0):=fun U=>BG q6' rfl
  have m7:∀U:V->AH,BW e' 7 U=U (.ptr q7 0):=fun U=>BG q7' rfl
  have m15:∀U:V->AH,BW e' 15 U=U (.int .i64 (AA j)):=fun U=>BG q15 rfl
  have m16:∀U:V->AH,BW e' 16 U=U (.ptr J.next 0):=fun U=>BG q16 rfl
  have m17:∀U:V->AH,BW e' 17 U=U (.ptr (J2.next+7) 0):=fun U=>BG q17 rfl
  have m69:∀U:V->AH,BW e' 69 U=U sv:=fun U=>BG q69 (DI ks.s.one)
  have m70:∀U:V->AH,BW e' 70 U=U (.int .i64 (AA S.length)):=fun U=>BG q70 rfl
  have m71:∀U:V->AH,BW e' 71 U=U (.int .i64 (AA j)):=fun U=>BG q71 rfl
  obtain⟨u4,J4,g4,s4⟩:∃u4 J4,(∀K1 K11,I8 E D (Ao E D) K1 K11 eb 0 bv q6 0 q7 0 sv (AA S.length) (AA j) J=K11 eb 0 bv q6 0 q7 0 sv (AA S.length) (AA j) J4)/\D1 J w u J4 u4 (L++(if ab S[j]=true then [] else SJ (X S[j]))):=by
   cases ha:ab S[j]with
   | true=>
    rw[ha]at rb
    refine⟨u,J3,fun K1 K11=>?_,by rw[if_pos rfl,Am];exact D1.behind f03 (D1.refl w3.pw w3.tidy)⟩
    unfold I8
    simp -implicitDefEqProofs only [↓rP,rA,AD,AG,AB,d1,↓r1,↓e1,↓st,↓gd,↓m0,↓m4,↓m6,↓m7,↓m15,↓m16,↓m17,↓m69,↓m70,↓m71,↓rb]
   | false=>
    rw[ha]at rb
    obtain⟨u4,J4,g4,s4⟩:=hO (f:=238) (caps:=[.ptr (J2.next+7) 0,.ptr q7 0,.ptr J.next 0]) (X:=X S[j]) w3 T.n1 T.r1 T.t1 (by omega) (hX0 _ hm' ha) (hX _) fun J9 eb1 w1 wk9=>
     hQ hkn ha w3.tidy (T.fr w3.f ht0) (hr.fr0 w3.f ht0) a17 k73.a a16 (ks3.s.at_ j _ hk) wk9
    have a17':=a17
    unfold Fd.c at a17'
    rw[hg _ hm']at a17'
    refine⟨u4,J4,fun K1 K11=>?_,by rw[if_neg (show ¬false=true by decide)];exact D1.behind f03 s4⟩
    unfold I8
    simp -implicitDefEqProofs only [↓rP,rA,AD,AG,AB,d1,↓r1,↓e1,↓st,↓gd,↓m0,↓m4,↓m6,↓m7,↓m15,↓m16,↓m17,↓m69,↓m70,↓m71,↓rb,↓AY a17',CD,↓g4]
  have hx:=SI (hX S[j])
  have hlen:(L++(if ab S[j]=true then [] else SJ (X S[j]))).length<=L.length+1100:=by
   rw[AL];split
   ·rw[CA];omega
   ·omega
  obtain⟨u5,J5,g5,s5⟩:=ih n' (j+1) u4 J4 _ (by omega) (by omega) (wk.step s4) (k6.step s4 ht) (k7.step s4 ht) (ks.step s4 ht) (kb.step s4 ht) (by omega)
  refine⟨u5,J5,?_,?_⟩
  ·refine(g4 _ _).trans ?_
   show M0 E D (Ao E D) N n' eb 0 bv q6 0 q7 0 sv (AA S.length) (CU .i64 (AA j) (AA 1)) J4=_
   rw[BX (by omega)]
   exact g5
  ·have:=s4.trans s5
   rw[Ab]at this
   rw[B4 hlt,Mp]
   exact this
end
def Rj (x0 x1:Bool):Nat->Bool
 | 0=>!x0
 | _=>!x1
def Xo (F:List V->H->AH):Prop:=∀(J:H) (w:Nat) (u:V) (L:List Nat) (n:Nat),Pw J w u L->Af J->L.length<7000000->n<16384 ->
 ∃X u' J',X.length<=16/\F [.ptr w 0,.int .i64 (AA n)] J=some (.tup [],J')/\D1 J w u J' u' (L++X)
theorem tZ {J:H} {sv:V} {S:List Nat} {bl:Nat->Nat} (h:JT J sv S bl):V.beq sv sv=true:=by
 rcases h.row.is with ⟨_,rfl⟩|⟨b,c,M,rfl,_⟩
 ·rfl
 ·exact As _ rfl
theorem lz {J:H} {mv:V} {C Rs:List Nat} (h:Zn J mv C Rs):V.beq mv mv=true:=by
 obtain⟨us,row,_⟩:=h
 rcases row.is with ⟨_,rfl⟩|⟨b,c,M,rfl,_⟩
 ·rfl
 ·exact As _ rfl
section
variable {E:EB} {D D':Az} {W:AM} {N:Nat}
section
variable {nT:Nat} {ty:Nat->Ty} {nm:BS} {nv rv tv:V}
theorem tS {i:Nat} (hi:i<nT) (hk:(ty i).kind=AA 7) {l:V} {hl:l.one=true} {r:Int} {mv:V} {hm:mv.one=true} {PZ:List Nat->Prop} {J0 J:H} {eb w:Nat} {u:V} {L:List Nat} (ht0:Af J0) (T:Tb J0 nT ty nv rv tv) (wk:Wk J0 J eb w u [.str nm,nv,rv,tv] L)
  (hF:∀J1,Wk J0 J1 eb w u [.str nm,nv,rv,tv] L->∃Z u' J',D 131 [.ptr eb 0,.int .i64 (AA i),.agg (Vc.sq l hl r mv hm).c] J1=some (.tup [],J')/\D1 J1 w u J' u' (L++Z)/\PZ Z) :
  ∃Z u' J',xd E D W N [.ptr eb 0,.int .i64 (AA i),.agg (Vc.sq l hl r mv hm).c] J=some (.tup [],J')/\D1 J w u J' u' (L++Z)/\PZ Z:=by
 obtain⟨J1,e1,f1,a1,n1⟩:=Ay wk.tidy [.ptr eb 0]
 obtain⟨J2,e2,f2,a2,n2⟩:=Ay f1.tidy (Vc.sq l hl r mv hm).c
 obtain⟨J3,e3,f3,a3,n3⟩:=Ay f2.tidy [.int .i64 (AA 0),.nils,.bool false,.bool false,.bool false,.bool false,.int .i64 (AA 0),.int .i64 (AA 0),.nils,.nils,.int .i64 (AA 0),.bool false,.int .i64 (AA 0)]
 obtain⟨J4,e4,f4,a4⟩:=Ci f3.tidy a3 (ty i).c
 have f02:=f1.trans f2 (fun _ _ h=>h)
 have l2:=f02.le
 have f24:Fr AJ J2 J4:=f3.trans f4 (fun b hb e=>by omega)
 have f04:=f02.trans f24 (fun _ _ h=>h)
 have k2:=wk.fr f02
 have k4:=wk.fr f04
 obtain⟨Z,u5,J5,g5,s5,hz⟩:=hF J4 k4
 refine⟨Z,u5,J5,?_,D1.behind f04 s5,hz⟩
 have a12:=f2.at_ a1 f1.tidy (fun h=>h)
 have a14:=f24.at_ a12 f2.tidy (fun h=>h)
 have a24:=f24.at_ a2 f2.tidy (fun h=>h)
 have rd:∀U,AT 13 tv (AA i) (fun b o=>BQ E J2 b o 13 U)=U (ty i).c:=fun U=>(T.row.fr0 k2.f ht0).all hi U
 have st:∀U:H->AH,Dt 13 J2.next 0 (.agg (ty i).c) J3 U=U J4:=fun U=>by
  rw[Cg a3 (by unfold Ty.c;simp[E8,Bd,Bo,DN,Gu,(ty i).oneT,(ty i).oneI,(ty i).oneF])]
  show U (EV J3 J2.next (.cells (ty i).c))=_
  rw[e4]
 have ee:=k2.e
 unfold Ty.c at rd st a4
 unfold Vc.sq Vc.c at e2 a2 a24 g5
 show Vo E D W (fg E D W) (.ptr eb 0) (AA i) (AA 7) (AA 0) .nils l r mv J=_
 unfold Vo fg
 simp -implicitDefEqProofs only [↓rP,rA,AD,AG,AB,hl,hm,↓e1,↓e2,↓AY a12,↓AY ee,↓rd,↓e3,↓st,↓AY a4,↓BT a4,hk,↓AY a14,↓BT a24,↓g5]
theorem AAW {i:Nat} {v:Vc} {J:H} (ht:Af J) (h1:nv.one=true) (h2:rv.one=true) (h3:tv.one=true)
  (hFi:∀J1,Af J1->Fr AJ J J1->∃J',D 21 [.agg [.str nm,nv,rv,tv],.int .i64 (AA i),.agg v.c] J1=some (.bool true,J')/\Fr AJ J1 J')
  (hRo:∀J1,Af J1->Fr AJ J J1->∃J',D 38 [.agg [.str nm,nv,rv,tv]] J1=some (.bool true,J')/\Fr AJ J1 J')
  (hRu:∀J1,Af J1->Fr AJ J J1->∃J',D 61 [.agg v.c,.int .i64 (AA 2)] J1=some (.bool true,J')/\Fr AJ J1 J')
  (hV:∀(J0 J1:H) (eb w:Nat),Af J0->Fr AJ J J0->Wk J0 J1 eb w .nils [.str nm,nv,rv,tv] []->∃Z u' J',D 62 [.ptr eb 0,.int .i64 (AA i),.agg v.c] J1=some (.tup [],J')/\D1 J1 w .nils J' u' Z/\0<Z.length/\Z.length<=500000)
  (hB:Fx (D 63)) :
  ∃b J',zB E D W N [.agg [.str nm,nv,rv,tv],.int .i64 (AA i),.agg v.c] J=some (.tup [b,.int .i64 (AA 0)],J')/\b.one=true/\Fr AJ J J':=by
 obtain⟨J1,e1,f1,a1,n1⟩:=Ay ht [.str nm,nv,rv,tv]
 obtain⟨J2,e2,f2,a2,n2⟩:=Ay f1.tidy v.c
 have f02:=f1.trans f2 (fun _ _ h=>h)
 obtain⟨J3,g3,f3⟩:=hFi J2 f02.tidy f02
 have f03:=f02.trans f3 (fun _ _ h=>h)
 obtain⟨J4,g4,f4⟩:=hRo J3 f03.tidy f03
 have f04:=f03.trans f4 (fun _ _ h=>h)
 obtain⟨J5,g5,f5⟩:=hRu J4 f04.tidy f04
 have f05:=f04.trans f5 (fun _ _ h=>h)
 obtain⟨J6,e6,f6,a6,n6⟩:=Ay f05.tidy [.nils,.int .i64 (AA 0)]
 obtain⟨J7,e7,f7,a7,n7⟩:=Ay f6.tidy [.ptr J5.next 0,.str nm,nv,rv,tv]
 have f57:=f6.trans f7 (fun _ _ h=>h)
 have l6:=f6.le
 have a67:=f7.at_ a6 f6.tidy (fun h=>h)
 have p7:Pw J7 J5.next .nils []:=⟨a67,GH.nil J7 1,fun h=>h.elim,fun b hb=>by cases hb⟩
 have k7:Wk J5 J7 J6.next J5.next .nils [.str nm,nv,rv,tv] []:=⟨p7,f57,fun b hb=>by
  rcases hb with hb|hb
  ·exact Nat.le_of_eq hb.symm
  ·exact hb.elim,a7,⟨a7.lt f7.tidy,by omega,fun h=>h.elim⟩⟩
 obtain⟨Z,u8,J8,g8,s8,hZ,hZ'⟩:=hV J5 J7 J6.next J5.next f05.tidy f05 k7
 have k8:=k7.step s8
 obtain⟨b,J9,g9,n9,f9⟩:=hB J8 J5.next u8 Z k8.pw k8.tidy (by omega) hZ
 have l5:=f05.le
 have l58:=k8.f.le
 refine⟨b,J9,?_,n9.1.one,(f05.trans k8.f (fun _ _ h=>h)).trans f9 (fun _ _ h=>h)⟩
 have a12:=f2.at_ a1 f1.tidy (fun h=>h)
 have a13:=f3.at_ a12 f02.tidy (fun h=>h)
 have a23:=f3.at_ a2 f02.tidy (fun h=>h)
 have a24:=f4.at_ a23 f03.tidy (fun h=>h)
 have a14:=f4.at_ a13 f03.tidy (fun h=>h)
 have a15:=f5.at_ a14 f04.tidy (fun h=>h)
 have a16:=f6.at_ a15 f05.tidy (fun h=>h)
 have a25:=f5.at_ a24 f04.tidy (fun h=>h)
 have a27:=f57.at_ a25 f05.tidy (fun h=>h)
 have ee:∀U:V->AH,BL E J8 J6.next 0 U=U (.ptr J5.next 0):=k8.enc
 have lb:∀U:Nat->AH,BA b U=U (Cs Z.length):=fun U=>by rw[n9.by_.slen,Bf,Dg]
 have d7:decide (70000<Cs Z.length)=false:=decide_eq_false (by unfold Cs;omega)
 unfold Vc.c at e2 a12 a2 a23 a24 a25 a27 g3 g5 g8
 show gP E D W nm nv rv tv (AA i) v.k v.n v.b v.l v.r v.m J=_
 unfold gP
 simp -implicitDefEqProofs only [↓rP,rA,AD,AG,AB,h1,h2,h3,v.oneB,v.oneL,v.oneM,↓e1,↓BT a12,↓e2,↓BT a2,↓g3,↓BT a13,↓g4,↓BT a24,↓g5,↓e6,↓BT a16,↓e7,↓BT a27,↓g8,↓ee,↓g9,↓CM n9.1.one,↓lb,d7]
end
theorem tm (hP:O9 (D 200)):Xo (j8 E D W N):=by
 intro J w u L n h ht hl hn
 obtain⟨X,u1,J1,hx,g1,s1⟩:=hP J w u L n h ht hl (.inl hn)
 rw[decide_eq_false (show ¬16384<=n by omega)]at g1
 refine⟨X,u1,J1,hx.2,?_,s1⟩
 show W9 E D W (.ptr w 0) (AA n) J=_
 unfold W9
 simp -implicitDefEqProofs only [↓rP,rA,AD,AG,AB,↓g1]
theorem AAg (hP:H6 (D 111)) (x0 x1:Bool):RC (WE E D W N) 2 (gU x0 x1) (Rj x0 x1):=by
 have one:∀(b:Bool) (J:H),Af J->∃J',WE E D W N [.agg (Rh b).c] J=some (.bool (!b),J')/\Fr AJ J J':=by
  intro b J ht
  cases b with
  | true=>exact Qk hP ht (k:=AA 1) (n:=AA 1) (r:=AA 0) NB.nils NB.nils NB.nils
  | false=>exact Qk hP ht (k:=AA 0) (n:=AA 0) (r:=AA 0) NB.nils NB.nils NB.nils
 intro J k hk ht
 cases k with
 | zero=>exact one x0 J ht
 | succ k=>exact one x1 J ht
theorem zf (hF:Gq (D 118)) {nT j:Nat} {ty:Nat->Ty} (hj:j<nT) (hk:(ty j).kind=AA 1):So (xd E D W N) nT ty j (Rh true) [1]:=by
 intro J0 J eb w u L nm nv rv tv ht0 T wk hL
 obtain⟨J1,e1,f1,a1,n1⟩:=Ay wk.tidy [.ptr eb 0]
 obtain⟨J2,e2,f2,a2,n2⟩:=Ay f1.tidy (Rh true).c
 obtain⟨J3,e3,f3,a3,n3⟩:=Ay f2.tidy [.int .i64 (AA 0),.nils,.bool false,.bool false,.bool false,.bool false,.int .i64 (AA 0),.int .i64 (AA 0),.nils,.nils,.int .i64 (AA 0),.bool false,.int .i64 (AA 0)]
 obtain⟨J4,e4,f4,a4⟩:=Ci f3.tidy a3 (ty j).c
 have f02:=f1.trans f2 (fun _ _ h=>h)
 have l2:=f02.le
 have f24:Fr AJ J2 J4:=f3.trans f4 (fun b hb e=>by omega)
 have f04:=f02.trans f24 (fun _ _ h=>h)
 have k2:=wk.fr f02
 have k4:=wk.fr f04
 obtain⟨u5,J5,g5,s5⟩:=hF J4 eb w u L true _ k4.e k4.pw k4.tidy (by omega)
 refine⟨u5,J5,?_,D1.behind f04 s5⟩
 have a12:=f2.at_ a1 f1.tidy (fun h=>h)
 have a14:=f24.at_ a12 f2.tidy (fun h=>h)
 have a24:=f24.at_ a2 f2.tidy (fun h=>h)
 have rd:∀U,AT 13 tv (AA j) (fun b o=>BQ E J2 b o 13 U)=U (ty j).c:=fun U=>(T.row.fr0 k2.f ht0).all hj U
 have st:∀U:H->AH,Dt 13 J2.next 0 (.agg (ty j).c) J3 U=U J4:=fun U=>by
  rw[Cg a3 (by unfold Ty.c;simp[E8,Bd,Bo,DN,Gu,(ty j).oneT,(ty j).oneI,(ty j).oneF])]
  show U (EV J3 J2.next (.cells (ty j).c))=_
  rw[e4]
 have ee:=k2.e
 unfold Ty.c at rd st a4
 unfold Rh Vc.c at e2 a2 a24 ⊢
 show Vo E D W _ (.ptr eb 0) (AA j) (AA 1) (AA 1) .nils .nils (AA 0) .nils J=_
 unfold Vo
 simp -implicitDefEqProofs only [↓rP,rA,AD,AG,AB,↓e1,↓e2,↓AY a12,↓AY ee,↓rd,(ty j).oneT,(ty j).oneI,(ty j).oneF,↓e3,↓st,↓AY a4,↓BT a4,hk,↓AY a14,↓AY a24,decide_true,↓g5]
theorem uY {ty:Nat->Ty} {fd:Nat->Fd} {x0 x1:Bool} (hfd:∀k,k<2->(fd k).type=AA (k+1)) (hV:∀k,k<2->So (D 62) 3 ty (k+1) (Rh true) [1]):Zf (bW E D (Ao E D) N) 3 ty 2 fd (gU x0 x1) (Rj x0 x1) (fun _=>[1]):=by
 intro k J0 J1 q17 q7 q16 bk eb1 w1 v0 nm nv rv tv hk hab ht0 T hr a17 a7 a16 ak wk
 have hg:gU x0 x1 k=Rh true:=by
  have:k=0\/k=1:=by omega
  rcases this with rfl|rfl
  ·have hab:(!x0)=false:=hab
   show Rh x0=_
   cases x0 with
   | true=>rfl
   | false=>cases hab
  ·have hab:(!x1)=false:=hab
   show Rh x1=_
   cases x1 with
   | true=>rfl
   | false=>cases hab
 exact eK hk (hfd k hk) (by rw[hg];exact hV k hk) rfl ht0 T hr a17 a7 a16 ak wk
theorem eM {ty:Nat->Ty} {fd:Nat->Fd} {x0 x1:Bool} {x:Ty} {v0:Vc} {C Rs:List Nat} (hB:Ip (D 193)) (hF:Gq (D 118)) (hPD:Xo (D 236)) (hP:Mu (D 121)) (hO:PI (D 202) D') (hQ:Zf (D' 238) 3 ty 2 fd (gU x0 x1) (Rj x0 x1) (fun _=>[1])) (hg:∀k,k<2->(fd k).group=AA 0) (hfb:∀k,k<2->V.beq (.agg (fd k).c) (.agg (fd k).c)=true)
  (hinc:WJ 2 Rs) (hlt:∀s∈Rs,s<100) (hRl:Rs.length<=100) (hC:L0 C) (hN:1001<N):Mw (bb E D (Ao E D) N) x v0 [0,1] ([0,1].map fun k=>!Rj x0 x1 k) (gU x0 x1) 3 ty 2 fd 300000 (fun J=>Zn J v0.m C Rs):=by
 intro J0 J eb w u sv bv bl L nm nv rv tv lo ht0 hRw T hs hr wk ks kb hl _ _ _ h0 hln hle hls hlb hbv
 obtain⟨J1,e1,f1,a1,n1⟩:=Ay wk.tidy x.c
 obtain⟨J2,e2,f2,a2,n2⟩:=Ay f1.tidy v0.c
 have f02:=f1.trans f2 (fun _ _ h=>h)
 have l1:=f1.le
 have w2:=wk.fr f02
 have a12:=f2.at_ a1 f1.tidy (fun h=>h)
 have k6:Kp J2 w u J.next x.c:=Kp.new wk.pw wk.tidy (AN _) f2.tidy a12
 have k7:Kp J2 w u J1.next v0.c:=Kp.new wk.pw wk.tidy l1 f2.tidy a2
 have I2:xl J0 J2 eb w J.next J1.next lo u sv bv [.str nm,nv,rv,tv] x.c v0.c L [0,1] bl ([0,1].map fun k=>!Rj x0 x1 k):=
  ⟨w2,k6,k7,ks.fr f02 wk.tidy,kb.fr f02 wk.tidy,fun c hc=>⟨hbv c hc,by have:=(kb.o c hc).1;omega,by have:=(kb.o c hc).1;omega⟩,h0,hle,hls,hlb,by have:=f02.le;omega⟩
 have hRw':=hRw
 obtain⟨us,row,_⟩:=hRw'
 have rl:=row.len.2
 obtain⟨bv',B',J3,g3,I3,⟨M,hB'⟩,hBl,F3⟩:=nE (E:=E) (W:=Ao E D) (N:=N) ht0 hRw hlt hN Rs.length N 0 _ bv J2 (by omega) (by omega) (by rw[CO];exact hinc) (by simp) (by omega) I2
 have hB2:2<=B'.length:=by rw[hB',AL];simp
 have hBj:∀(j k:Nat),([0,1]:List Nat)[j]? = some k->B'[j]? = some (!Rj x0 x1 k):=by
  intro j k hj
  have hjl:j<([0,1]:List Nat).length:=by
   rcases Al j ([0,1]:List Nat).length with h|h
   ·exact h
   ·rw[Aa h]at hj;cases hj
  rw[hB',Dl (by rw[DH];exact hjl),BM,hj];rfl
 have sb:∀U:Nat->AH,BA bv' U=U B'.length:=fun U=>I3.kb.d.slen
 have ls:∀U:Nat->AH,BA sv U=U 2:=fun U=>I3.ks.s.row.len.2 U
 obtain⟨Z4,u4,J4,g4,s4,l4⟩:∃Z4 u4 J4,(∀K,Na E D (Ao E D) K eb 0 sv bv' J.next 0 J1.next 0 J3=K eb 0 sv bv' J.next 0 J1.next 0 J4)/\D1 J3 w u J4 u4 (L++Z4)/\Z4.length<=17:=by
  have ee:=I3.wk.e
  have ee':∀U:V->AH,BL E J3 eb 0 U=U (.ptr w 0):=fun U=>(AY ee).trans rfl
  by_cases h64:B'.length<=64
  ·obtain⟨u4,J4,g4,s4⟩:=hB J3 w u L (B'.length-1) 7 I3.wk.pw I3.wk.tidy (by omega) (by omega) (by decide)
   have en:BP .u64 (E6 .i64 (AA B'.length) (AA 1))=AA (B'.length-1):=by
    rw[Fs (by omega) (by omega),BV (by rw[Db];omega)]
   have d64:decide (B'.length<=64)=true:=decide_eq_true h64
   refine⟨_,u4,J4,fun K=>?_,s4,by rw[A2];decide⟩
   unfold Na
   simp -implicitDefEqProofs only [↓rP,rA,AD,AG,AB,↓sb,d64,↓ee',en,↓g4]
  ·obtain⟨u4,J4,g4,s4⟩:=hF J3 eb w u L true _ I3.wk.e I3.wk.pw I3.wk.tidy (by omega)
   have w4:=I3.wk.step s4
   obtain⟨X,u5,J5,hX,g5,s5⟩:=hPD J4 w u4 _ B'.length w4.pw w4.tidy (by rw[AL];simp only[Cc];omega) (by omega)
   have ee4:=w4.e
   have ee4':∀U:V->AH,BL E J4 eb 0 U=U (.ptr w 0):=fun U=>(AY ee4).trans rfl
   have d64:decide (B'.length<=64)=false:=decide_eq_false h64
   have s45:=s4.trans s5
   rw[Ab]at s45
   refine⟨_,u5,J5,fun K=>?_,s45,by rw[AL,Cc];omega⟩
   unfold Na
   simp -implicitDefEqProofs only [↓rP,rA,AD,AG,AB,↓sb,d64,↓g4,↓ee4',↓g5]
 have w4:=I3.wk.step s4
 have t3:=I3.wk.tidy
 have len4:(L++Z4).length<=L.length+17:=by rw[AL];omega
 obtain⟨u5,J5,g5,s5⟩:=W5 (N:=N) (E:=E) (W:=Ao E D) (q6:=J.next) (q7:=J1.next) (sv:=sv) hF (B:=B') (by omega) B'.length N 0 u4 J4 _ (by omega) (by omega) w4 (I3.kb.step s4 t3) (by omega)
 rw[CO]at s5
 have s35:=s4.trans s5
 have w5:=I3.wk.step s35
 have len5:((L++Z4)++B'.map W0).length<=L.length+117:=by rw[AL,DH];omega
 obtain⟨u6,J6,g6,s6⟩:=W4 (N:=N) (E:=E) (D:=D) (S:=[0,1]) hBj hO hQ (fun _=>by decide) (fun _ _ _=>by decide) (fun k hk=>by
  have:k=0\/k=1:=by simpa using hk
  omega) (by decide) (fun k hk=>hg k (by
  have:k=0\/k=1:=by simpa using hk
  omega)) hfb ht0 T hs hr 2 N 0 u5 J5 _ (by decide) (by omega) w5 (I3.k6.step s35 t3) (I3.k7.step s35 t3) (I3.ks.step s35 t3) (I3.kb.step s35 t3) (by omega)
 rw[CO]at s6
 have s36:=s35.trans s6
 have w6:=I3.wk.step s36
 have a7:=(I3.k7.step s36 t3).a
 have la:(Mp (Rj x0 x1) (fun _=>[1]) [0,1]).length<=2200:=by
  have ho:(SJ [1]).length<=1100:=SI (by decide)
  unfold Mp Mp Mp
  simp only[AL]
  split<;>split<;>simp<;>omega
 have len6:(((L++Z4)++B'.map W0)++Mp (Rj x0 x1) (fun _=>[1]) [0,1]).length<=L.length+2317:=by rw[AL];omega
 obtain⟨Z7,u7,J7,g7,s7,l7⟩:=tj (E:=E) (N:=N) hP ht0 hRw hC v0.oneM hRl Rs.length N 0 u6 J6 _ (by omega) (by omega) w6 (by omega)
 have s37:=s36.trans s7
 have F2:Fr (fun c=>Ht w u c\/lo<=c) J J3:=(Fr.to_any f02).trans F3 (fun _ _ h => .inr h)
 refine⟨_,u7,J7,?_,by have:=s37.wr;simp only[Ab]at this;exact this,?_,F2.trans s37.f (fun b _ h => .inl h),fun b hb=>?_⟩
 ·have a2':=a2
  unfold Ty.c at e1
  unfold Vc.c at e2 a2' a7
  have rl':∀U:Nat->AH,BA v0.m U=U Rs.length:=rl
  show Qw E D (Ao E D) (Ly E D (Ao E D) N N) eb 0 x.kind x.tags x.has x.hasLow x.hasHigh x.conMore x.low x.high x.items x.fields x.root x.more x.of_ v0.k v0.n v0.b v0.l v0.r v0.m sv bv J=_
  have k0:∀K2,Qw E D (Ao E D) K2 eb 0 x.kind x.tags x.has x.hasLow x.hasHigh x.conMore x.low x.high x.items x.fields x.root x.more x.of_ v0.k v0.n v0.b v0.l v0.r v0.m sv bv J=K2 eb 0 sv bv J.next 0 J1.next 0 v0.m (AA Rs.length) (AA 0) J2:=by
   intro K2
   unfold Qw
   simp -implicitDefEqProofs only [↓rP,rS,x.oneT,x.oneI,x.oneF,v0.oneB,v0.oneL,v0.oneM,↓e1,↓e2,↓AY a2',↓rl']
  rw[k0,g3]
  show Na E D (Ao E D) (Qu E D (Ao E D) (Ua E D (Ao E D) N N)) eb 0 sv bv' J.next 0 J1.next 0 J3=_
  rw[g4]
  have k6':∀K8,Qu E D (Ao E D) K8 eb 0 sv bv' J.next 0 J1.next 0 J4=K8 eb 0 sv bv' J.next 0 J1.next 0 bv' (AA B'.length) (AA 0) J4:=by
   intro K8
   unfold Qu
   exact sb _
  rw[k6',g5]
  show Qt E D (Ao E D) (M0 E D (Ao E D) N N) eb 0 sv bv' J.next 0 J1.next 0 J5=_
  have k7':∀K10,Qt E D (Ao E D) K10 eb 0 sv bv' J.next 0 J1.next 0 J5=K10 eb 0 bv' J.next 0 J1.next 0 sv (AA 2) (AA 0) J5:=by
   intro K10
   unfold Qt
   exact ls _
  rw[k7']
  refine g6.trans ?_
  show Qr E D (Ao E D) (Mz E D (Ao E D) N N) eb 0 J1.next 0 J6=_
  have k9:∀K,Qr E D (Ao E D) K eb 0 J1.next 0 J6=K eb 0 v0.m (AA Rs.length) (AA 0) J6:=by
   intro K
   unfold Qr
   simp -implicitDefEqProofs only [↓rP,rA,AD,AG,AB,↓AY a7,↓rl']
  rw[k9]
  exact g7
 ·simp only[AL,DH]at *
  omega
 ·rcases s37.g b hb with h|h
  ·exact .inl h
  ·exact .inr (by have:=F2.le;omega)
end
def iB (g:Nat->Vc) (ab:Nat->Bool) (F:List V->H->AH):Prop:=∀(J:H) (q k:Nat) (l:V) (hl:l.one=true) (r:Int) (mv:V) (hm:mv.one=true),Af J->GO J 6 2 l (fun k=>(g k).c)->k<2->B8 J q (Vc.sq l hl r mv hm).c->∃J',F ([]++[.int .i64 (AA k)]++[.ptr q 0]) J=some (.bool (!ab k),J')/\Fr AJ J J'
def Np (Pt:H->Prop) (nm:BS) (nv rv tv:V) (F:List V->H->AH):Prop:=∀{J0 J:H} {eb w lb:Nat} {u mv:V} {hm:mv.one=true} {C A L:List Nat},Af J0->Pt J0->bQ J0 lb C A mv->Wk J0 J eb w u [.str nm,nv,rv,tv] L->L.length<1000 ->
 ∃Z u' J',F [.ptr eb 0,.int .i64 (AA 0),.agg (vU lb (HX A) mv hm).c] J=some (.tup [],J')/\D1 J w u J' u' (L++Z)/\0<Z.length/\Z.length<=500000
section
variable {E:EB} {D D' D2:Az} {W:AM} {N:Nat} {Sl Fl:List V->H->AH} {m:Nat} {Pt:H->Prop} {nm:BS} {nv rv tv:V} {ty:Nat->Ty} {fd:Nat->Fd}
theorem AAX {x0 x1:Bool} (hA:RC (D 188) 2 (gU x0 x1) (Rj x0 x1)):iB (gU x0 x1) (Rj x0 x1) (be E D W N):=fun _ _ _ _ _ _ _ _ ht hr hk aq=>Wm hA ht hr hk aq
theorem LM.tbl (hT:LM Sl Fl m Pt nm nv rv tv ty fd) {J:H} (hp:Pt J):Tb J 3 ty nv rv tv:=⟨hT.row J hp,hT.o1,hT.o2,(hT.ab hp).2⟩
theorem AAT {x0 x1:Bool} (hA:RC (D 188) 2 (gU x0 x1) (Rj x0 x1)) (hF:Gq (D 118)) (hT:LM Sl Fl m Pt nm nv rv tv ty fd) (hV:∀k,k<2->So (D 62) 3 ty (k+1) (Rh true) [1]) (hN:1000<N):Mv (YG E D W N) 3 ty 2 fd (gU x0 x1) (Rj x0 x1) (fun _=>[1]):=by
 intro J0 x l lv K eb w v0 u J L nm' nv' rv' tv' ht0 T hs hr hKn hv0 wk hK hl hk
 refine tY hA hF ⟨fun k hk hab=>⟨k+1,(hT.fty k hk).1,?_⟩,fun _=>by decide⟩ ht0 T hs hr hKn hv0 wk hK hl hk hN
 have hg:gU x0 x1 k=Rh true:=by
  have:k=0\/k=1:=by omega
  rcases this with rfl|rfl
  ·have hab:(!x0)=false:=hab
   show Rh x0=_
   cases x0 with
   | true=>rfl
   | false=>cases hab
  ·have hab:(!x1)=false:=hab
   show Rh x1=_
   cases x1 with
   | true=>rfl
   | false=>cases hab
 rw[hg];exact hV k hk
theorem AAY (hT:LM (D 176) (D 103) m Pt nm nv rv tv ty fd) (hA:∀x0 x1,RC (D 188) 2 (gU x0 x1) (Rj x0 x1)) (hC:V3 (D 204) D') (hq:∀x0 x1,iB (gU x0 x1) (Rj x0 x1) (D' 205)) (hCB:oO (D 206)) (hFl:Gq (D 118)) (hSo:∀x0 x1,Mv (D 207) 3 ty 2 fd (gU x0 x1) (Rj x0 x1) (fun _=>[1]))
  (hAd:∀{x0 x1:Bool} {v0:Vc} {C Rs:List Nat},WJ 2 Rs->(∀s∈Rs,s<100)->Rs.length<=100->L0 C->Mw (D 208) (ty 0) v0 [0,1] ([0,1].map fun k=>!Rj x0 x1 k) (gU x0 x1) 3 ty 2 fd 300000 (fun J=>Zn J v0.m C Rs)) (hN:1001<N):Np Pt nm nv rv tv (YL E D (Ao E D) N):=by
 intro J0 J eb w lb u mv hm C A L ht0 hp hr wk hL
 obtain⟨us,row,hus⟩:=hr.rw
 have hS:∀k∈([0,1]:List Nat),k<2:=fun k hk=>by
  have:k=0\/k=1:=by simpa using hk
  omega
 have mb:=lz hr.rw
 have rlen:=Ow A
 have few:=hr.few
 have hAd':=@hAd (OP A) (OO A) (Vc.sq (.sl lb 0 2 (.ex 2)) rfl (AA (HX A)) mv hm) C (Gt A) (Yr hr.inc 2 (AN _) (.inr rfl)) (fun s hs=>hr.lt s (Yq s hs)) (by omega) hr.ct
 have vb:V.beq (.agg [.int .i64 (AA 7),.int .i64 (AA 0),.nils,.sl lb 0 2 (.ex 2),.int .i64 (AA (HX A)),mv]) (.agg [.int .i64 (AA 7),.int .i64 (AA 0),.nils,.sl lb 0 2 (.ex 2),.int .i64 (AA (HX A)),mv])=true:=by simp[V.beq,KF,mb]
 obtain⟨Z,u',J',g,s,h1,h2⟩:=aW (E:=E) (N:=N) (i:=0) (K:=[]) (S:=[0,1]) (g:=gU (OP A) (OO A)) (ab:=Rj (OP A) (OO A)) (X:=fun _=>[1]) (Q:=fun J=>Zn J mv C (Gt A)) (l := .sl lb 0 2 (.ex 2)) (hl:=rfl) (r:=AA (HX A)) (mv:=mv) (hm:=hm) hT.pn hT.sl (hA _ _) hC (hq _ _) hCB hFl hT.fl (hSo _ _) row.len (My:=300000) (by decide) (fun _=>@hAd') hS (by decide) (fun k hk=>by cases hk) (by decide) (fun _=>by decide) hN ht0 hp hr.rw (hT.tbl hp) (by decide) ⟨hT.k0,hT.frow J0 hp,by decide⟩ (Ko hr.alb) wk (by omega) (hT.tb hp) vb (hT.ab hp).1 (fun _ _ _ h=>tZ h)
 rw[hT.mor,if_pos rfl]at h1
 exact⟨Z,u',J',g,s,by omega,by simp only[CA]at h2;omega⟩
theorem AAS (hT:LM Sl Fl m Pt nm nv rv tv ty fd) (hF:Np Pt nm nv rv tv (D 131)):Np Pt nm nv rv tv (xd E D W N):=by
 intro J0 J eb w lb u mv hm C A L ht0 hp hr wk hL
 obtain⟨Z,u',J',g,s,h1,h2⟩:=tS (E:=E) (D:=D) (W:=W) (N:=N) (i:=0) (l := .sl lb 0 2 (.ex 2)) (hl:=rfl) (r:=AA (HX A)) (mv:=mv) (hm:=hm) (PZ:=fun Z=>0<Z.length/\Z.length<=500000) (by decide) hT.k0 ht0 (hT.tbl hp) wk (fun J1 k1=>hF (hm:=hm) ht0 hp hr k1 hL)
 exact⟨Z,u',J',g,s,h1,h2⟩
theorem uX (hT:LM Sl Fl m Pt nm nv rv tv ty fd) (hFi:Ze Pt nm nv rv tv (D 21)) (hRo:PG Pt nm nv rv tv (D 38)) (hRu:gu (D 61)) (hV:Np Pt nm nv rv tv (D 62)) (hB:Fx (D 63)) {J:H} {lb:Nat} {mv:V} {hm:mv.one=true} {C A:List Nat} (ht:Af J) (hp:Pt J) (hr:bQ J lb C A mv) :
  ∃b J',zB E D W N [.agg [.str nm,nv,rv,tv],.int .i64 (AA 0),.agg (vU lb (HX A) mv hm).c] J=some (.tup [b,.int .i64 (AA 0)],J')/\b.one=true/\Fr AJ J J':=
 AAW (i:=0) (v:=vU lb (HX A) mv hm) ht hT.o1 hT.o2 (hT.ab hp).2 (fun J1 h1 f=>hFi h1 (hT.pn _ _ ht f hp) (hr.fr0 f ht)) (fun J1 h1 f=>hRo J1 h1 (hT.pn _ _ ht f hp)) (fun J1 h1 f=>hRu h1 (hr.fr0 f ht)) (fun J0 J1 eb w h0 f wk=>by
  obtain⟨Z,u',J',g,s,h1,h2⟩:=hV (hm:=hm) h0 (hT.pn _ _ ht f hp) (hr.fr0 f ht) wk (by decide)
  exact⟨Z,u',J',g,s,h1,h2⟩) hB
theorem tr (hT:LM Sl Fl m Pt nm nv rv tv ty fd) {Fi En:List V->H->AH} (hFi:Ze Pt nm nv rv tv Fi) (hEn:∀{J:H} {lb:Nat} {mv:V} {hm:mv.one=true} {C A:List Nat},Af J->Pt J->bQ J lb C A mv->∃b J',En [.agg [.str nm,nv,rv,tv],.int .i64 (AA 0),.agg (vU lb (HX A) mv hm).c] J=some (.tup [b,.int .i64 (AA 0)],J')/\b.one=true/\Fr AJ J J') {C:List Nat} (hC:L0 C):rN Pt nm nv rv tv C Fi En:=by
 intro lo J lb A mv ht hp hr hinc hlt hne hlen
 have hv:bQ J lb C A mv:=⟨hr.alb,hr.rw.i,hinc,hlt,hlen,hC⟩
 exact⟨hFi (hm:=hr.rw.one) ht hp hv,hEn (hm:=hr.rw.one) ht hp hv⟩
end
structure RdS (E:EB) (J:H) (esz n:Nat) (x:V) (m:List V):Prop where
 k:∀U:Nat->List V->AH,srcK E J esz x U=U n m
 c:Ch E J esz x=some (n,m)
 l:m.length=n*esz
 o:x.one=true
 s:∀U:Nat->AH,BA x U=U n
 lt:∀b,Ai x b->b<J.next
theorem RdS.of {E:EB} {J:H} {esz n:Nat} {x:V} {m:List V} (h:EY J esz n x m) (ht:Af J):RdS E J esz n x m:=⟨fun U=>h.srcK,h.cells,h.length,h.one,fun U=>h.slen,fun b hb=>h.lt ht hb⟩
section
variable {E:EB} {J J':H} {l m:List V}
end
def Bx (E:EB) (J:H) (x:V) (l:List Int):Prop:=RdS E J 1 l.length x (H0 l)
section
variable {E:EB} {D:Az} {W:AM} {N:Nat} {J J0 J1:H} {x v:V} {l m:List Int}
theorem Bx.of (h:By J x l) (ht:Af J):Bx E J x l:=RdS.of h ht
theorem Bx.fr (h:Bx E J x l) (f:Fr AJ J J1):Bx E J1 x l:=by
 have rk:∀b,Ai x b->∀U:List V->AH,WW E J1 b U=WW E J b U:=fun b hb U=>by
  unfold WW
  rw[f.same b (h.lt b hb) (fun h=>h)]
 have rn:∀b o n,Ai x b->NA E J1 b o n=NA E J b o n:=fun b o n hb=>by
  unfold NA rd
  simp only[<-BK]
  rw[f.same b (h.lt b hb) (fun h=>h)]
 refine⟨fun U=>?_,?_,h.l,h.o,h.s,fun b hb=>Bg (h.lt b hb) f.le⟩
 ·rw[<-h.k U]
  cases x with
  | sl b o n c=>exact rk b rfl _
  | _=>rfl
 ·rw[<-h.c]
  cases x with
  | sl b o n c=>
   show (NA E J1 b o (n*1)).map _=(NA E J b o (n*1)).map _
   rw[rn b o _ rfl]
  | _=>rfl
end
def T1 (F:List V->H->AH) (a:List V) (J:H):Prop:=∃J',F a J=some (.bool true,J')/\Fr AJ J J'
theorem Vc.allOne (v:Vc):Og.allOne v.c=true:=by unfold Vc.c;simp[Bd,Bo,DN,v.oneB,v.oneL,v.oneM]
def Nl (v:Vc):Prop:=v.b = .nils/\v.l = .nils/\v.m = .nils
def oN (F:List V->H->AH):Prop:=∀J:H,F [.nils,.nils] J=some (.bool true,J)
def Xt (F:List V->H->AH) (f:V):Prop:=∀J:H,F [.nils,.nils,f] J=some (.bool true,J)
def V2 (F:List V->H->AH):Prop:=∀{J:H} (v:Vc),Af J->Nl v->T1 F [.agg v.c,.agg v.c] J
def gn (F:List V->H->AH):Prop:=∀{J:H} {l l':V} {n:Nat} {g:Nat->Vc},Af J->GO J 6 n l (fun k=>(g k).c)->GO J 6 n l' (fun k=>(g k).c)->(∀k,k<n->Nl (g k))->n<=1000->T1 F [l,l',.fn 10 [] []] J
section
variable {E:EB} {D:Az} {W:AM} {N:Nat}
theorem AF6:oN (yz E D W N):=fun J=>rfl
theorem zl (h:V2 (D 10)) (hN:1000<N):gn (xi E D W N):=by
 intro J l l' n g ht h1 h2 hn h10
 have loop:∀(m n' i:Nat) (J1:H),i+m=n->m<n'->Fr AJ J J1->∃J',Zt E D W N n' l l' (.fn 10 [] []) (AA i) J1=some (.bool true,J')/\Fr AJ J J':=by
  intro m
  induction m with
  | zero=>
   intro n' i J1 hi hn' f
   obtain⟨n',rfl⟩:∃q,n'=q+1:=⟨n'-1,by omega⟩
   have hi:i=n:=hi
   subst hi
   have sl:=h1.len.2
   have d1:decide (i<i)=false:=decide_eq_false (CD _)
   refine⟨J1,?_,f⟩
   show Sm E D W (gG E D W) _ l l' (.fn 10 [] []) (AA i) J1=_
   unfold Sm gG
   simp -implicitDefEqProofs only [↓rP,rA,AD,AG,AB,↓sl,d1]
  | succ m ih=>
   intro n' i J1 hi hn' f
   obtain⟨n',rfl⟩:∃q,n'=q+1:=⟨n'-1,by omega⟩
   have hlt:i<n:=by omega
   have sl:=h1.len.2
   have d1:decide (i<n)=true:=decide_eq_true hlt
   have r1:∀U,AT 6 l (AA i) (fun b o=>BQ E J1 b o 6 U)=U (g i).c:=fun U=>(h1.fr0 f ht).all hlt U
   have r2:∀U,AT 6 l' (AA i) (fun b o=>BQ E J1 b o 6 U)=U (g i).c:=fun U=>(h2.fr0 f ht).all hlt U
   obtain⟨J2,g2,f2⟩:=h (g i) f.tidy (hn i hlt)
   obtain⟨J',g',f'⟩:=ih n' (i+1) J2 (by omega) (by omega) (f.trans f2 (fun _ _ h=>h))
   refine⟨J',?_,f'⟩
   rw[<-g']
   have cv:∀U,Ed D (.fn 10 [] []) [.agg (g i).c,.agg (g i).c] J1 U=U (.bool true) J2:=fun U=>by
    show AW (D 10 ([]++[.agg (g i).c,.agg (g i).c]++[]) J1) U=_
    rw[show ([]++[V.agg (g i).c,.agg (g i).c]++[])=[.agg (g i).c,.agg (g i).c] from rfl,g2];rfl
   unfold Vc.c at r1 r2 cv
   show Sm E D W _ _ l l' (.fn 10 [] []) (AA i) J1=_
   unfold Sm
   simp -implicitDefEqProofs only [↓rP,rA,AD,AG,AB,↓sl,d1,↓r1,(g i).oneB,(g i).oneL,(g i).oneM,↓r2,↓cv,BX (show i+1<=9223372036854775807 by omega)]
   all_goals rfl
 obtain⟨J',g',f'⟩:=loop n N 0 J (by omega) (by omega) (Fr.refl ht)
 refine⟨J',?_,f'⟩
 have s1:=h1.len.2
 have s2:=h2.len.2
 have d:decide (n=n)=true:=decide_eq_true rfl
 rw[<-g']
 show ZZ E D W (Zt E D W N N) l l' (.fn 10 [] []) J=_
 unfold ZZ
 simp -implicitDefEqProofs only [↓rP,rA,AD,AG,AB,↓s1,↓s2,DY,d]
theorem AF7 {f:V} (hN:0<N):Xt (xh E D W N) f:=by
 intro J
 obtain⟨N,rfl⟩:∃q,N=q+1:=⟨N-1,by omega⟩
 rfl
theorem AFz {J:H} {v w:Vc} (ht:Af J) (hk:v.k=w.k) (hn:v.n=w.n) (hr:v.r=w.r) (hm:v.m = .nils) (hm':w.m = .nils)
  (hB:∀J1,D 24 [v.b,w.b] J1=some (.bool true,J1)) (hL:∀J1,Af J1->Fr AJ J J1->T1 (D 25) [v.l,w.l,.fn 10 [] []] J1) (hM:Xt (D 26) (.fn 27 [] [])):T1 (xk E D W N) [.agg v.c,.agg w.c] J:=by
 obtain⟨J1,e1,f1,a1,n1⟩:=Ay ht v.c
 obtain⟨J2,e2,f2,a2,n2⟩:=Ay f1.tidy w.c
 have f02:=f1.trans f2 (fun _ _ h=>h)
 have a12:=f2.at_ a1 f1.tidy (fun h=>h)
 obtain⟨J3,g3,f3⟩:=hL J2 f02.tidy f02
 have a13:=f3.at_ a12 f02.tidy (fun h=>h)
 have a23:=f3.at_ a2 f02.tidy (fun h=>h)
 have gB:=hB J2
 have gM:=hM J3
 have o1:=v.allOne
 have o2:=w.allOne
 refine⟨J3,?_,f02.trans f3 (fun _ _ h=>h)⟩
 have ek:Cu v.k w.k=true:=by rw[hk,Lo];simp
 have en:Cu v.n w.n=true:=by rw[hn,Lo];simp
 have er:Cu v.r w.r=true:=by rw[hr,Lo];simp
 unfold Vc.c at e1 e2 a12 a2 a13 a23
 rw[hm]at e1 a12 a13
 rw[hm']at e2 a2 a23
 show V1 E D W v.k v.n v.b v.l v.r v.m w.k w.n w.b w.l w.r w.m J=_
 rw[hm,hm']
 unfold V1
 simp -implicitDefEqProofs only [↓rP,rA,AD,AG,AB,v.oneB,v.oneL,w.oneB,w.oneL,↓e1,↓e2,↓AY a12,↓AY a2,↓AY a13,↓AY a23,ek,en,er,↓gB,↓g3,↓gM]
theorem zh (hB:oN (D 24)) (hL:Xt (D 25) (.fn 10 [] [])) (hM:Xt (D 26) (.fn 27 [] [])):V2 (xk E D W N):=by
 intro J v ht ⟨h1,h2,h3⟩
 exact AFz ht rfl rfl rfl h3 h3 (fun J1=>by rw[h1];exact hB J1) (fun J1 h f=>⟨J1,by rw[h2];exact hL J1,Fr.refl h⟩) hM
end
structure Ob (E:EB) (J:H) (v:V) (C:List Nat):Prop where
 bx:Bx E J v (nI C)
 ns:∀s,v ≠ .str s
theorem Ob.by_ {E:EB} {J:H} {v:V} {C:List Nat} (h:By J v (nI C)) (ht:Af J):Ob E J v C:=⟨Bx.of h ht,fun s e=>by
 rcases h with ⟨_,e',_⟩|⟨_,_,_,_,e',_⟩<;>rw[e]at e'<;>cases e'⟩
def g0 (E:EB) (F:List V->H->AH):Prop:=∀{J:H} {u v:V} {C:List Nat},Ob E J u C->Ob E J v C->F [u,v] J=some (.bool true,J)
def gx (E:EB) (F:List V->H->AH):Prop:=∀{J:H} {u v:V} {C:List Nat} {s:Nat},Af J->(∀J',Fr AJ J J'->Ob E J' u C)->(∀J',Fr AJ J J'->Ob E J' v C)->∃J',F [.agg [.int .i64 (AA s),u],.agg [.int .i64 (AA s),v]] J=some (.bool true,J')/\Fr AJ J J'
def oR (E:EB) (J:H) (m:V) (C Rs:List Nat):Prop:=∃us:Nat->V,GO J 2 Rs.length m (fun i=>[.int .i64 (AA (Rs.getD i 0)),us i])/\∀i,i<Rs.length->∀J',Fr AJ J J'->Ob E J' (us i) C
theorem oR.fr0 {E:EB} {J J':H} {m:V} {C Rs:List Nat} (h:oR E J m C Rs) (f:Fr AJ J J') (ht:Af J):oR E J' m C Rs:=by
 obtain⟨us,h1,h2⟩:=h
 exact⟨us,h1.fr0 f ht,fun i hi J2 f2=>h2 i hi J2 (f.trans f2 (fun _ _ h=>h))⟩
theorem Zn.b {E:EB} {J:H} {m:V} {C Rs:List Nat} (h:Zn J m C Rs) (ht:Af J):oR E J m C Rs:=by
 obtain⟨us,h1,h2⟩:=h
 exact⟨us,h1,fun i hi J' f=>Ob.by_ ((h2 i hi).fr f ht) f.tidy⟩
def Xu (E:EB) (F:List V->H->AH):Prop:=∀{J:H} {m m':V} {C Rs:List Nat},Af J->oR E J m C Rs->oR E J m' C Rs->Rs.length<=1000->∃J',F [m,m',.fn 27 [] []] J=some (.bool true,J')/\Fr AJ J J'
def Zc (E:EB) (F:List V->H->AH):Prop:=∀{J:H} {l l' m m':V} {hl:l.one=true} {hl':l'.one=true} {hm:m.one=true} {hm':m'.one=true} {K n:Nat} {r:Int} {g:Nat->Vc} {C Rs:List Nat},Af J->GO J 6 n l (fun k=>(g k).c)->GO J 6 n l' (fun k=>(g k).c)->(∀k,k<n->Nl (g k))->n<=1000->oR E J m C Rs->oR E J m' C Rs->Rs.length<=1000->T1 F [.agg (Vr K l hl r m hm).c,.agg (Vr K l' hl' r m' hm').c] J
theorem AAM (x0 x1:Bool) (k:Nat):Nl (gU x0 x1 k):=by
 have one:∀b,Nl (Rh b):=fun b=>by cases b<;>exact⟨rfl,rfl,rfl⟩
 cases k with
 | zero=>exact one x0
 | succ k=>exact one x1
section
variable {E:EB} {D:Az} {W:AM} {N:Nat}
theorem q9 {J:H} {v:V} {C:List Nat} (h:Ob E J v C) (U:BS->AH):NF E J v U=U (BS.ofList ((nI C).map fun c=>UInt8.ofNat c.toNat)):=by
 have e:NF E J v U=srcK E J 1 v fun _ l=>match FW l with
  | some s=>U (BS.ofList s)
  | none=>none:=by
  have ns:=h.ns
  cases v<;>first | rfl | exact absurd rfl (ns _)
 rw[e,h.bx.k]
 show (match FW (H0 (nI C))with
  | some s=>U (BS.ofList s)
  | none=>none)=_
 rw[Ry]
theorem AAJ:g0 E (yz E D W N):=by
 intro J u v C h k
 show gH E D W u v J=_
 unfold gH
 rw[q9 h,q9 k,BS.beq_nats,decide_eq_true rfl]
theorem AAI (hB:g0 E (D 24)):gx E (F27 E D W N):=by
 intro J u v C s ht hu hv
 obtain⟨J1,e1,f1,a1,n1⟩:=Ay ht [.int .i64 (AA s),u]
 obtain⟨J2,e2,f2,a2,n2⟩:=Ay f1.tidy [.int .i64 (AA s),v]
 have F2:=f1.trans f2 (fun _ _ h=>h)
 have a12:=f2.at_ a1 f1.tidy (fun h=>h)
 have g:=hB (hu J2 F2) (hv J2 F2)
 have uo:=(hu J2 F2).bx.o
 have vo:=(hv J2 F2).bx.o
 refine⟨J2,?_,F2⟩
 show gE E D W (AA s) u (AA s) v J=_
 unfold gE
 simp -implicitDefEqProofs only [↓rP,rA,AD,AG,AB,uo,vo,↓e1,↓e2,↓AY a12,↓AY a2,DY,decide_true,↓g]
theorem uM (h:gx E (D 27)) (hN:1000<N):Xu E (xh E D W N):=by
 intro J m m' C Rs ht h1 h2 h10
 obtain⟨bs,r1,o1⟩:=h1
 obtain⟨bs',r2,o2⟩:=h2
 have loop:∀(q n' i:Nat) (J1:H),i+q=Rs.length->q<n'->Fr AJ J J1->∃J',Zs E D W N n' m m' (.fn 27 [] []) (AA i) J1=some (.bool true,J')/\Fr AJ J J':=by
  intro q
  induction q with
  | zero=>
   intro n' i J1 hi hn' f
   obtain⟨n',rfl⟩:∃q,n'=q+1:=⟨n'-1,by omega⟩
   have hi:i=Rs.length:=hi
   subst hi
   have sl:=r1.len.2
   have d1:decide (Rs.length<Rs.length)=false:=decide_eq_false (CD _)
   refine⟨J1,?_,f⟩
   show Sj E D W (gF E D W) _ m m' (.fn 27 [] []) (AA Rs.length) J1=_
   unfold Sj gF
   simp -implicitDefEqProofs only [↓rP,rA,AD,AG,AB,↓sl,d1]
  | succ q ih=>
   intro n' i J1 hi hn' f
   obtain⟨n',rfl⟩:∃q,n'=q+1:=⟨n'-1,by omega⟩
   have hlt:i<Rs.length:=by omega
   have sl:=r1.len.2
   have d1:decide (i<Rs.length)=true:=decide_eq_true hlt
   obtain⟨s,hs⟩:∃s,s=Rs.getD i 0:=⟨_,rfl⟩
   have q1:∀U,AT 2 m (AA i) (fun b o=>BQ E J1 b o 2 U)=U [.int .i64 (AA s),bs i]:=fun U=>by rw[hs];exact(r1.fr0 f ht).all hlt U
   have q2:∀U,AT 2 m' (AA i) (fun b o=>BQ E J1 b o 2 U)=U [.int .i64 (AA s),bs' i]:=fun U=>by rw[hs];exact(r2.fr0 f ht).all hlt U
   have oa:=o1 i hlt
   have ob:=o2 i hlt
   have ua:=(oa J1 f).bx.o
   have ub:=(ob J1 f).bx.o
   obtain⟨J2,g2,f2⟩:=h (s:=s) f.tidy (fun J' f'=>oa J' (f.trans f' (fun _ _ h=>h))) (fun J' f'=>ob J' (f.trans f' (fun _ _ h=>h)))
   obtain⟨J',g',f'⟩:=ih n' (i+1) J2 (by omega) (by omega) (f.trans f2 (fun _ _ h=>h))
   refine⟨J',?_,f'⟩
   rw[<-g']
   have cv:∀U,Ed D (.fn 27 [] []) [.agg [.int .i64 (AA s),bs i],.agg [.int .i64 (AA s),bs' i]] J1 U=U (.bool true) J2:=fun U=>by
    show AW (D 27 ([]++[.agg [.int .i64 (AA s),bs i],.agg [.int .i64 (AA s),bs' i]]++[]) J1) U=_
    rw[show ([]++[V.agg [.int .i64 (AA s),bs i],.agg [.int .i64 (AA s),bs' i]]++[])=[.agg [.int .i64 (AA s),bs i],.agg [.int .i64 (AA s),bs' i]] from rfl,g2];rfl
   show Sj E D W _ _ m m' (.fn 27 [] []) (AA i) J1=_
   unfold Sj
   simp -implicitDefEqProofs only [↓rP,rA,AD,AG,AB,↓sl,d1,↓q1,↓q2,ua,ub,↓cv,BX (show i+1<=9223372036854775807 by omega),Cn]
   all_goals rfl
 obtain⟨J',g',f'⟩:=loop Rs.length N 0 J (by omega) (by omega) (Fr.refl ht)
 refine⟨J',?_,f'⟩
 have s1:=r1.len.2
 have s2:=r2.len.2
 have d:decide (Rs.length=Rs.length)=true:=decide_eq_true rfl
 rw[<-g']
 show ZY E D W (Zs E D W N N) m m' (.fn 27 [] []) J=_
 unfold ZY
 simp -implicitDefEqProofs only [↓rP,rA,AD,AG,AB,↓s1,↓s2,DY,d,Cn]
theorem zg (hB:oN (D 24)) (hL:gn (D 25)) (hM:Xu E (D 26)):Zc E (xk E D W N):=by
 intro J l l' m m' hl hl' hm hm' K n r g C Rs ht h1 h2 hn h10 hr hr' hES
 obtain⟨J1,e1,f1,a1,n1⟩:=Ay ht (Vr K l hl r m hm).c
 obtain⟨J2,e2,f2,a2,n2⟩:=Ay f1.tidy (Vr K l' hl' r m' hm').c
 have f02:=f1.trans f2 (fun _ _ h=>h)
 have a12:=f2.at_ a1 f1.tidy (fun h=>h)
 obtain⟨J3,g3,f3⟩:=hL (J:=J2) f02.tidy (h1.fr0 f02 ht) (h2.fr0 f02 ht) hn h10
 have F3:=f02.trans f3 (fun _ _ h=>h)
 have a13:=f3.at_ a12 f02.tidy (fun h=>h)
 have a23:=f3.at_ a2 f02.tidy (fun h=>h)
 obtain⟨J4,g4,f4⟩:=hM F3.tidy (hr.fr0 F3 ht) (hr'.fr0 F3 ht) hES
 have gB:=hB J2
 refine⟨J4,?_,F3.trans f4 (fun _ _ h=>h)⟩
 have er:Cu r r=true:=by rw[Lo];simp
 unfold Vc.c Vr at e1 e2 a12 a2 a13 a23
 show V1 E D W (AA K) (AA 0) .nils l r m (AA K) (AA 0) .nils l' r m' J=_
 unfold V1
 simp -implicitDefEqProofs only [↓rP,rA,AD,AG,AB,hl,hm,hl',hm',↓e1,↓e2,↓AY a12,↓AY a2,↓AY a13,↓AY a23,DY,decide_true,er,↓gB,↓g3,↓g4]
end
structure lG (E:EB) (J0:H) (bv:V) (th:List Bool):Prop where
 s:∀U:Nat->AH,BA bv U=U th.length
 k:∀J:H,Fr AJ J0 J->∀(i:Nat) (x:Bool),th[i]? = some x->∀U:V->AH,AT 1 bv (AA i) (fun b o=>BL E J b o U)=U (.bool x)
def LP (th:List Bool) (i:Nat):Bool:=th.getD i false
structure Wn (J0 J:H) (w:Nat) (u:V) (L:List Nat):Prop where
 wr:Wr J w u L
 f:Fr AJ J0 J
 lo:∀b,Ht w u b->J0.next<=b
theorem Wn.step {J0 J J':H} {w:Nat} {u u':V} {L L':List Nat} (h:Wn J0 J w u L) (s:Jh J w u J' u' L'):Wn J0 J' w u' L':=by
 refine⟨s.wr,h.f.trans s.f (fun b hb e=>by have:=h.lo b e;omega),fun b hb=>?_⟩
 rcases hb with hb|hb
 ·exact h.lo b (.inl hb)
 ·rcases s.g b hb with h'|h'
  ·exact h.lo b (.inr h')
  ·exact Ae h.f.le h'
section
variable {E:EB} {D:Az} {W:AM} {N:Nat}
theorem nB (hB:Nr (D 6)) {J0:H} {bv cv:V} {th:List Bool} (hth:lG E J0 bv th) {n w tb wb:Nat} {ok:Bool} (hn:n<=1000) :
  ∀(q n' i:Nat) (sm:Bool) (u:V) (J:H) (L:List Nat),i+q=n->q<n'->Wn J0 J w u L->L.length+q<1000000 ->
   ∃u' J',X6 E D W N n' (AA n) bv cv tb 0 ok w 0 wb 0 sm (AA i) J=jI E D W N (AA n) bv cv tb 0 ok w 0 wb 0 (sm || (Da i q).any (LP th)) J'/\Jh J w u J' u' (L++(Da i q).map fun i=>Ul (LP th i)):=by
 intro q
 induction q with
 | zero=>
  intro n' i sm u J L hi hn' h hl
  obtain⟨n',rfl⟩:∃k,n'=k+1:=⟨n'-1,by omega⟩
  have d1:decide (i<n)=false:=decide_eq_false (by omega)
  refine⟨u,J,?_,by rw[show Da i 0=[] from rfl,JO,Am];exact Jh.refl h.wr h.f.tidy⟩
  rw[show Da i 0=[] from rfl,List.any_nil,Jj]
  show Vt E D W (jI E D W N) _ (AA n) bv cv tb 0 ok w 0 wb 0 sm (AA i) J=_
  have key:∀K R,Vt E D W K R (AA n) bv cv tb 0 ok w 0 wb 0 sm (AA i) J=K (AA n) bv cv tb 0 ok w 0 wb 0 sm J:=by
   intro K R
   unfold Vt
   simp -implicitDefEqProofs only [↓rP,rA,AD,AG,AB,d1]
  exact key _ _
 | succ q ih=>
  intro n' i sm u J L hi hn' h hl
  obtain⟨n',rfl⟩:∃k,n'=k+1:=⟨n'-1,by omega⟩
  have d1:decide (i<n)=true:=decide_eq_true (by omega)
  have sb:=hth.s
  obtain⟨u1,J1,g1,s1⟩:=hB J w u L (Ul (LP th i)) 1 h.wr h.f.tidy (by omega) (by have:=fL (LP th i);omega) (by decide)
  have e1:Bq 1 (Ul (LP th i))=[Ul (LP th i)]:=by cases LP th i<;>rfl
  rw[e1]at s1
  obtain⟨u',J',g',s'⟩:=ih n' (i+1) (sm || LP th i) u1 J1 _ (by omega) (by omega) (h.step s1) (by rw[AL,Cc];omega)
  refine⟨u',J',?_,?_⟩
  ·rw[Yh,List.any_cons,<-Bool.or_assoc,<-g']
   show Vt E D W (jI E D W N) (oM E D W (X6 E D W N n')) (AA n) bv cv tb 0 ok w 0 wb 0 sm (AA i) J=_
   have key:∀K R,Vt E D W K R (AA n) bv cv tb 0 ok w 0 wb 0 sm (AA i) J=R (AA n) bv cv tb 0 ok w 0 wb 0 (sm || LP th i) (AA i) J1:=by
    intro K R
    unfold Vt
    by_cases hil:i<th.length
    ·have d2:decide (i<th.length)=true:=decide_eq_true hil
     have eg:th[i]? = some (LP th i):=by unfold LP;rw[Ad,AZ hil];rfl
     have rk:=hth.k J h.f i _ eg
     generalize LP th i=is at *
     cases is<;>cases sm<;>simp -implicitDefEqProofs only [↓rP,rA,AD,AG,AB,d1,↓sb,d2,↓rk,Ul,↓g1]<;>(unfold Ul at g1;simp -implicitDefEqProofs only [↓rP,rS,↓g1])<;>rfl
    ·have d2:decide (i<th.length)=false:=decide_eq_false hil
     have eg:LP th i=false:=by unfold LP;rw[Ad,Aa (by omega)];rfl
     rw[eg]at g1 ⊢
     unfold Ul at g1
     cases sm<;>simp -implicitDefEqProofs only [↓rP,rA,AD,AG,AB,d1,↓sb,d2,↓g1]<;>rfl
   rw[key]
   unfold oM
   rw[BX (show i+1<=9223372036854775807 by omega)]
  ·have:=s1.trans s'
   rw[Ab]at this
   rw[Yh,B3]
   exact this
end
set_option maxHeartbeats 1000000
def lC (cv:V) (Rs:List Nat):List V:=Rs.flatMap fun s=>[.int .i64 (AA s),cv]
theorem mA (cv:V) (Rs:List Nat) (s:Nat):lC cv (Rs++[s])=lC cv Rs++[.int .i64 (AA s),cv]:=by unfold lC;simp
structure Wt (J0 J:H) (w:Nat) (u:V) (wb lb:Nat) (cv:V) (A:List Nat) (mv:V):Prop where
 at_:B8 J wb [.int .i64 (AA 7),.int .i64 (AA 0),.nils,.sl lb 0 2 (.ex 2),.int .i64 (AA (HX A)),mv]
 alb:B8 J lb (Oz (OP A) (OO A))
 rw:GH J 2 (Gt A).length mv (lC cv (Gt A))
 nm:∀b,Ai mv b->J0.next<=b/\b≠wb/\b≠lb/\E4 J w u b
 ne:wb≠lb
 ow:E4 J w u wb
 ol:E4 J w u lb
 lw:J0.next<=wb
 ll:J0.next<=lb
section
variable {E:EB} {D:Az} {W:AM} {N:Nat} {J0 J J':H} {w wb lb:Nat} {u u' cv mv:V} {A L L':List Nat}
theorem Wt.step (h:Wt J0 J w u wb lb cv A mv) (ht:Af J) (s:Jh J w u J' u' L'):Wt J0 J' w u' wb lb cv A mv:=
 ⟨s.at_ ht h.ow h.at_,s.at_ ht h.ol h.alb,h.rw.fr s.f ht (fun b hb=>(h.nm b hb).2.2.2.not),fun b hb=>⟨(h.nm b hb).1,(h.nm b hb).2.1,(h.nm b hb).2.2.1,s.off (h.nm b hb).2.2.2⟩,h.ne,s.off h.ow,s.off h.ol,h.lw,h.ll⟩
theorem Wt.fr0 (h:Wt J0 J w u wb lb cv A mv) (ht:Af J) (f:Fr AJ J J'):Wt J0 J' w u wb lb cv A mv:=
 ⟨f.at_ h.at_ ht (fun h=>h),f.at_ h.alb ht (fun h=>h),h.rw.fr f ht (fun _ _ h=>h),fun b hb=>⟨(h.nm b hb).1,(h.nm b hb).2.1,(h.nm b hb).2.2.1,(h.nm b hb).2.2.2.fr f⟩,h.ne,h.ow.fr f,h.ol.fr f,h.lw,h.ll⟩
theorem Wn.fr0 (h:Wn J0 J w u L) (f:Fr AJ J J'):Wn J0 J' w u L:=⟨h.wr.fr f h.f.tidy,h.f.trans f (fun _ _ h=>h.elim),h.lo⟩
theorem Wn.frS {S:Nat->Prop} (h:Wn J0 J w u L) (f:Fr S J J') (hS:∀b,S b->J0.next<=b/\b≠w/\¬Ai u b):Wn J0 J' w u L:=
 ⟨⟨f.at_ h.wr.at_ h.f.tidy (fun e=>(hS w e).2.1 rfl),h.wr.d.fr f h.f.tidy (fun b hb e=>(hS b e).2.2 hb),h.wr.ne⟩,h.f.trans f (fun b hb e=>by have:=(hS b e).1;omega),h.lo⟩
theorem mS (hP:Sp E (D 7)) {C:List Nat} {s n tb:Nat} {ok sm:Bool} {bv:V} {th:List Bool} (hth:lG E J0 bv th) (hs:s<2) (hsn:s<n) (hx:th[s]? = some true) (hw:Wn J0 J w u L) (h:Wt J0 J w u wb lb cv A mv) (hl:L.length<1000000) :
  ∃u' J',(∀K R,KI E D W K R (AA n) bv cv tb 0 ok w 0 wb 0 sm (AA s) J=R (AA n) bv cv tb 0 ok w 0 wb 0 sm (AA s) J')/\Wn J0 J' w u' (L++HH (Ri C s))/\Wt J0 J' w u' wb lb cv (A++[s]) mv:=by
 have ht:=hw.f.tidy
 have ecb:Ri C s=[128]:=by unfold Ri;rw[if_pos hs]
 obtain⟨J1,e1,f1,a1,n1⟩:=Ay ht [.int .u8 (AA 128)]
 have w1:=hw.fr0 f1
 have h1:=h.fr0 ht f1
 have l1:J.next<J1.next:=by omega
 have sq:Sq E J1 (.sl J.next 0 1 (.ex 1)) (nI [128]) := .inr (.inr ⟨J.next,0,.ex 1,[.int .u8 (AA 128)],rfl,.inl a1,by decide,rfl⟩)
 obtain⟨u2,J2,g2,s2⟩:=hP J1 w u (.sl J.next 0 1 (.ex 1)) L [128] w1.wr f1.tidy (by simp only[Cc];omega) (by decide) (by decide) sq (AN _) (fun b hb=>by
  have hb:b=J.next:=hb
  subst hb
  exact E4.new hw.wr ht (AN _) l1)
 have w2:=w1.step s2
 have h2:=h1.step f1.tidy s2
 obtain⟨J3,e3,f3,a3⟩:=Ci w2.f.tidy h2.alb (Oz (OP (A++[s])) (OO (A++[s])))
 have hh2:=h2
 refine⟨u2,J3,fun K R=>?_,?_,⟨?_,a3,?_,?_,h2.ne,⟨Bg h2.ow.1 f3.le,h2.ow.2⟩,⟨Bg h2.ol.1 f3.le,h2.ol.2⟩,h2.lw,h2.ll⟩⟩
 ·have sb:=hth.s
  have hlt:s<th.length:=by
   rcases Al s th.length with h|h
   ·exact h
   ·rw[Aa h]at hx;cases hx
  have rk:=hth.k J hw.f s _ hx
  have d1:decide (s<n)=true:=decide_eq_true hsn
  have d2:decide (s<th.length)=true:=decide_eq_true hlt
  have d3:decide (s<2)=true:=decide_eq_true hs
  have aw:=h2.at_
  have ia:∀U:Nat->Nat->AH,AT 6 (.sl lb 0 2 (.ex 2)) (AA s) U=U lb (s*6):=fun U=>by
   rw[CR hs]
   show U lb (0+s*6)=_
   rw[CJ]
  have kl:∀U:V->AH,BL E J2 wb (Ac 0 3) U=U (.sl lb 0 2 (.ex 2)):=fun U=>Gp aw rfl
  have st:∀U:H->AH,Dt 6 lb (s*6) (V.agg [.int .i64 (AA 1),.int .i64 (AA 1),.nils,.nils,.int .i64 (AA 0),.nils]) J2 U=U J3:=fun U=>by
   have hlen:(Oz (OP A) (OO A)).length=12:=by cases OP A<;>cases OO A<;>rfl
   rw[Cg h2.alb (by
    show (true&&A0 (Ac (s*6) 6) (Oz (OP A) (OO A)).length&&true)=true
    rw[hlen]
    have:s=0\/s=1:=by omega
    rcases this with rfl|rfl<;>rfl)]
   have e:Hg (Oz (OP A) (OO A)) (s*6) (V.agg [.int .i64 (AA 1),.int .i64 (AA 1),.nils,.nils,.int .i64 (AA 0),.nils]).cells=Oz (OP (A++[s])) (OO (A++[s])):=by
    rw[Oq,Oo]
    have:s=0\/s=1:=by omega
    rcases this with rfl|rfl<;>cases OP A<;>cases OO A<;>rfl
   rw[e,e3]
  unfold KI
  simp -implicitDefEqProofs only [↓rP,rA,AD,AG,AB,d1,↓sb,d2,↓rk,d3,Cn,↓e1,↓g2,↓kl,↓ia,↓st]
 ·rw[ecb]
  exact w2.frS f3 (fun b e=>by rw[e];exact⟨h2.ll,h2.ol.2.1,h2.ol.2.2⟩)
 ·rw[ch hs];exact f3.at_ h2.at_ w2.f.tidy h2.ne
 ·rw[TM hs];exact h2.rw.fr f3 w2.f.tidy (fun b hb e=>(h2.nm b hb).2.2.1 e)
 ·exact fun b hb=>⟨(h2.nm b hb).1,(h2.nm b hb).2.1,(h2.nm b hb).2.2.1,⟨Bg (h2.nm b hb).2.2.2.1 f3.le,(h2.nm b hb).2.2.2.2⟩⟩
theorem mT (hP:Sp E (D 7)) {C:List Nat} {s n tb:Nat} {ok sm:Bool} {bv:V} {th:List Bool} (hth:lG E J0 bv th) (hC:L0 C) (hc:∀J,Fr AJ J0 J->Sq E J cv (nI C)) (hcc:Uh cv) (hcn:∀b,Ai cv b->b<J0.next) (hs:2<=s) (hsn:s<n) (hn:n<=1000) (hx:th[s]? = some true) (hw:Wn J0 J w u L) (h:Wt J0 J w u wb lb cv A mv) (hl:L.length<1000000) (hA:A.length<=1000) :
  ∃u' J' mv',(∀K R,KI E D W K R (AA n) bv cv tb 0 ok w 0 wb 0 sm (AA s) J=R (AA n) bv cv tb 0 ok w 0 wb 0 sm (AA s) J')/\Wn J0 J' w u' (L++HH (Ri C s))/\Wt J0 J' w u' wb lb cv (A++[s]) mv':=by
 have ht:=hw.f.tidy
 have ecb:Ri C s=C:=by unfold Ri;rw[if_neg (by omega)]
 have few:=hC.few
 have rlen:=Ow A
 have cvo:cv.one=true:=(hc J hw.f).one
 have le0:=hw.f.le
 obtain⟨u2,J2,g2,s2⟩:=hP J w u cv L C hw.wr ht (by omega) (by omega) hC.oct (hc J hw.f) hcc (fun b hb=>⟨by have:=hcn b hb;omega,fun e=>by have:=hcn b hb;have:=hw.lo w (.inl rfl);omega,fun e=>by have:=hcn b hb;have:=hw.lo b (.inr e);omega⟩)
 have w2:=hw.step s2
 have h2:=h.step ht s2
 obtain⟨J3,e3,f3,a3⟩:=Ci w2.f.tidy h2.at_ [.int .i64 (AA 7),.int .i64 (AA 0),.nils,.sl lb 0 2 (.ex 2),.int .i64 (AA 2),mv]
 have w3:=w2.frS f3 (fun b e=>by rw[e];exact⟨h2.lw,h2.ow.2.1,h2.ow.2.2⟩)
 obtain⟨J4,e4,f4,a4,n4⟩:=Ay f3.tidy [.int .i64 (AA s),cv]
 have l4:J3.next<J4.next:=by omega
 have d3:=h2.rw.fr f3 w2.f.tidy (fun b hb e=>(h2.nm b hb).2.1 e)
 have d4:=d3.fr f4 f3.tidy (fun _ _ h=>h)
 have xs:EY J4 2 1 (V.sl J3.next 0 1 (.ex 1)) [.int .i64 (AA s),cv] := .inr ⟨_,0,_,_,rfl,a4,by simp,rfl⟩
 have ho:allOne [V.int .i64 (AA s),cv]=true:=by simp[Bd,Bo,DN,cvo]
 obtain⟨mv',J5,g5,d5,nm5,f5⟩:=HP (E:=E) (bytes:=32) d4 f4.tidy xs ho (by unfold CV;simp only[AK,BC];omega)
 have aw4:=f4.at_ a3 f3.tidy (fun h=>h)
 have aw5:=f5.at_ aw4 f4.tidy (fun e=>(h2.nm wb e).2.1 rfl)
 obtain⟨J6,e6,f6,a6⟩:=Ci f5.tidy aw5 [.int .i64 (AA 7),.int .i64 (AA 0),.nils,.sl lb 0 2 (.ex 2),.int .i64 (AA 2),mv']
 have w4:=w3.fr0 f4
 have w5:=w4.frS f5 (fun b e=>⟨(h2.nm b e).1,(h2.nm b e).2.2.2.2.1,(h2.nm b e).2.2.2.2.2⟩)
 have w6:=w5.frS f6 (fun b e=>by rw[e];exact⟨h2.lw,h2.ow.2.1,h2.ow.2.2⟩)
 have up:∀{b:Nat},E4 J2 w u2 b->E4 J6 w u2 b:=fun o=>⟨Bg o.1 (Ae f3.le (Ae f4.le (Ae f5.le f6.le))),o.2⟩
 have mo:=d5.one
 have alb6:=f6.at_ (f5.at_ (f4.at_ (f3.at_ h2.alb w2.f.tidy (fun e=>h2.ne e.symm)) f3.tidy (fun h=>h)) f4.tidy (fun e=>(h2.nm lb e).2.2.1 rfl)) f5.tidy (fun e=>h2.ne e.symm)
 have nm':∀b,Ai mv' b->J0.next<=b/\b≠wb/\b≠lb/\E4 J6 w u2 b:=fun b hb=>by
  rcases nm5 b hb with h'|h'
  ·exact⟨(h2.nm b h').1,(h2.nm b h').2.1,(h2.nm b h').2.2.1,up (h2.nm b h').2.2.2⟩
  ·have o1:=h2.ow.1
   have o2:=h2.ol.1
   have le23:=f3.le
   have lw2:=w2.wr.at_.lt w2.f.tidy
   have le2:=w2.f.le
   exact⟨by omega,by omega,by omega,⟨Bg (d5.lt f5.tidy hb) f6.le,by omega,fun e=>by have:=w2.wr.d.lt w2.f.tidy e;omega⟩⟩
 refine⟨u2,J6,mv',fun K R=>?_,by rw[ecb];exact w6,⟨?_,?_,?_,nm',h2.ne,up h2.ow,up h2.ol,h2.lw,h2.ll⟩⟩
 ·have sb:=hth.s
  have hlt:s<th.length:=by
   rcases Al s th.length with h|h
   ·exact h
   ·rw[Aa h]at hx;cases hx
  have rk:=hth.k J hw.f s _ hx
  have q1:decide (s<n)=true:=decide_eq_true hsn
  have q2:decide (s<th.length)=true:=decide_eq_true hlt
  have q3:decide (s<2)=false:=decide_eq_false (by omega)
  have st3:∀U:H->AH,Dt 1 wb (Ac 0 4) (V.int .i64 (AA 2)) J2 U=U J3:=fun U=>by
   rw[Cg h2.at_ rfl]
   show U (EV J2 wb (.cells [.int .i64 (AA 7),.int .i64 (AA 0),.nils,.sl lb 0 2 (.ex 2),.int .i64 (AA 2),mv]))=_
   rw[e3]
  have km:∀U:V->AH,BL E J3 wb (Ac 0 5) U=U mv:=fun U=>Gp a3 rfl
  have fk:∀U:List V->AH,HA [(0,1,(V.int .i64 (AA s))),(1,1,cv)] [.int .i64 (AA 0),V.nils] U=U [.int .i64 (AA s),cv]:=fun U=>by
   have h12:cv.live=true/\cv.cells=[cv]:=by cases cv<;>first | exact⟨rfl,rfl⟩ | cases cvo
   unfold HA FQ
   rw[show (V.int .i64 (AA s)).cells=[.int .i64 (AA s)] from rfl]
   unfold FQ
   rw[h12.1,h12.2]
   rfl
  have st6:∀U:H->AH,Dt 1 wb (Ac 0 5) mv' J5 U=U J6:=fun U=>by
   obtain⟨_,o'⟩:=Hi mo
   rw[Cg aw5 (by rw[o'];show (true&&true&&(mv'.one&&true))=true;rw[mo];rfl),o']
   show U (EV J5 wb (.cells [.int .i64 (AA 7),.int .i64 (AA 0),.nils,.sl lb 0 2 (.ex 2),.int .i64 (AA 2),mv']))=_
   rw[e6]
  unfold KI
  simp -implicitDefEqProofs only [↓rP,rA,AD,AG,AB,DU,q1,↓sb,q2,↓rk,q3,Cn,↓g2,↓st3,↓km,↓fk,ho,cvo,↓e4,↓g5,↓CM mo,↓st6]
 ·rw[cj hs];exact a6
 ·rw[Oq,Oo,decide_eq_false (show ¬s=0 by omega),decide_eq_false (show ¬s=1 by omega),Jj,Jj]
  exact alb6
 ·rw[TN hs,AL,mA]
  exact d5.fr f6 f5.tidy (fun b hb e=>(nm' b hb).2.1 e)
end
theorem VJ {th:List Bool}:∀(q i j:Nat),th.length<=i->CX ((Da i q).map (LP th)) j=[]
 | 0,_,_,_=>rfl
 | q+1,i,j,h=>by
  have e:LP th i=false:=by unfold LP;rw[Ad,Aa h];rfl
  rw[Yh,B3,e]
  exact VJ q (i+1) (j+1) (by omega)
section
variable {E:EB} {D:Az} {W:AM} {N:Nat} {J0:H} {w wb lb:Nat} {cv:V}
theorem dB (hP:Sp E (D 7)) {C:List Nat} {n tb:Nat} {ok sm:Bool} {bv:V} {th:List Bool} (hth:lG E J0 bv th) (hC:L0 C) (hc:∀J,Fr AJ J0 J->Sq E J cv (nI C)) (hcc:Uh cv) (hcn:∀b,Ai cv b->b<J0.next) (hn:n<=100) :
  ∀(q n' i:Nat) (A:List Nat) (mv u:V) (J:H) (L:List Nat),i+q=n->q<n'->Wn J0 J w u L->Wt J0 J w u wb lb cv A mv->A.length<=i->L.length+2000*q<900000 ->
   ∃u' J' mv',WA E D W N n' (AA n) bv cv tb 0 ok w 0 wb 0 sm (AA i) J=YA E D W N tb 0 ok w 0 wb 0 sm J'/\Wn J0 J' w u' (L++Gg C (CX ((Da i q).map (LP th)) i))/\Wt J0 J' w u' wb lb cv (A++CX ((Da i q).map (LP th)) i) mv':=by
 intro q
 induction q with
 | zero=>
  intro n' i A mv u J L hi hn' hw h hA hl
  obtain⟨n',rfl⟩:∃k,n'=k+1:=⟨n'-1,by omega⟩
  have d1:decide (i<n)=false:=decide_eq_false (by omega)
  refine⟨u,J,mv,?_,by rw[show CX ((Da i 0).map (LP th)) i=[] from rfl,show Gg C []=[] from rfl,Am];exact hw,by rw[show CX ((Da i 0).map (LP th)) i=[] from rfl,Am];exact h⟩
  show KI E D W (YA E D W N) _ (AA n) bv cv tb 0 ok w 0 wb 0 sm (AA i) J=_
  have key:∀K R,KI E D W K R (AA n) bv cv tb 0 ok w 0 wb 0 sm (AA i) J=K tb 0 ok w 0 wb 0 sm J:=by
   intro K R
   unfold KI
   simp -implicitDefEqProofs only [↓rP,rA,AD,AG,AB,d1]
  exact key _ _
 | succ q ih=>
  intro n' i A mv u J L hi hn' hw h hA hl
  obtain⟨n',rfl⟩:∃k,n'=k+1:=⟨n'-1,by omega⟩
  have d1:decide (i<n)=true:=decide_eq_true (by omega)
  have sb:=hth.s
  by_cases hil:i<th.length
  ·have d2:decide (i<th.length)=true:=decide_eq_true hil
   have eg:th[i]? = some (LP th i):=by unfold LP;rw[Ad,AZ hil];rfl
   have next:∀J1,bR E D W (WA E D W N n') (AA n) bv cv tb 0 ok w 0 wb 0 sm (AA i) J1=WA E D W N n' (AA n) bv cv tb 0 ok w 0 wb 0 sm (AA (i+1)) J1:=fun J1=>by
    unfold bR
    rw[BX (show i+1<=9223372036854775807 by omega)]
   rw[Yh,B3]
   cases hx:LP th i with
   | false=>
    have rk:=hth.k J hw.f i _ eg
    rw[hx]at rk
    obtain⟨u',J',mv',g',hw',h'⟩:=ih n' (i+1) A mv u J L (by omega) (by omega) hw h (by omega) (by omega)
    refine⟨u',J',mv',?_,hw',h'⟩
    rw[<-g',<-next]
    show KI E D W (YA E D W N) (bR E D W (WA E D W N n')) (AA n) bv cv tb 0 ok w 0 wb 0 sm (AA i) J=_
    have key:∀K R,KI E D W K R (AA n) bv cv tb 0 ok w 0 wb 0 sm (AA i) J=R (AA n) bv cv tb 0 ok w 0 wb 0 sm (AA i) J:=by
     intro K R
     unfold KI
     simp -implicitDefEqProofs only [↓rP,rA,AD,AG,AB,d1,↓sb,d2,↓rk,FN]
    exact key _ _
   | true=>
    rw[hx]at eg
    have hpl:=MU (hC.cb i)
    obtain⟨u1,J1,mv1,g1,hw1,h1⟩:∃u1 J1 mv1,(∀K R,KI E D W K R (AA n) bv cv tb 0 ok w 0 wb 0 sm (AA i) J=R (AA n) bv cv tb 0 ok w 0 wb 0 sm (AA i) J1)/\Wn J0 J1 w u1 (L++HH (Ri C i))/\Wt J0 J1 w u1 wb lb cv (A++[i]) mv1:=by
     by_cases h2:i<2
     ·obtain⟨u1,J1,g1,hw1,h1⟩:=mS (E:=E) (W:=W) (C:=C) (n:=n) (tb:=tb) (ok:=ok) (sm:=sm) hP hth h2 (by omega) eg hw h (by omega)
      exact⟨u1,J1,mv,g1,hw1,h1⟩
     ·exact mT (E:=E) (W:=W) (n:=n) (tb:=tb) (ok:=ok) (sm:=sm) hP hth hC hc hcc hcn (by omega) (by omega) (by omega) eg hw h (by omega) (by omega)
    obtain⟨u',J',mv',g',hw',h'⟩:=ih n' (i+1) (A++[i]) mv1 u1 J1 _ (by omega) (by omega) hw1 h1 (by rw[AL,Cc];omega) (by rw[AL];omega)
    refine⟨u',J',mv',?_,?_,?_⟩
    ·rw[<-g',<-next]
     show KI E D W (YA E D W N) (bR E D W (WA E D W N n')) (AA n) bv cv tb 0 ok w 0 wb 0 sm (AA i) J=_
     exact g1 _ _
    ·rw[Ab]at hw';exact hw'
    ·rw[Ab]at h';exact h'
  ·have d2:decide (i<th.length)=false:=decide_eq_false hil
   rw[VJ (q+1) i i (by omega)]
   refine⟨u,J,mv,?_,by rw[show Gg C []=[] from rfl,Am];exact hw,by rw[Am];exact h⟩
   show KI E D W (YA E D W N) _ (AA n) bv cv tb 0 ok w 0 wb 0 sm (AA i) J=_
   have key:∀K R,KI E D W K R (AA n) bv cv tb 0 ok w 0 wb 0 sm (AA i) J=K tb 0 ok w 0 wb 0 sm J:=by
    intro K R
    unfold KI
    simp -implicitDefEqProofs only [↓rP,rA,AD,AG,AB,d1,↓sb,d2]
   exact key _ _
end
def iI (F:List V->H->AH):Prop:=∀(J:H),Af J->∃J',F [] J=some (.bool true,J')/\Fr AJ J J'
def iG (F:List V->H->AH):Prop:=∀{J:H} {w:Nat} {u:V} {L:List Nat},Wr J w u L->Af J->PK L->L.length<=200000->0<L.length->∃v J',F [.ptr w 0] J=some (v,J')/\Nb J J' v (nI (Es L))/\Fr AJ J J'
theorem eV {J:H} {cv mv:V} {Rs:List Nat} (h:GH J 2 Rs.length mv (lC cv Rs)):GO J 2 Rs.length mv (fun i=>[.int .i64 (AA (Rs.getD i 0)),cv]):=by
 have cel:∀(Rs:List Nat) (k:Nat),k<Rs.length->lH (lC cv Rs) 2 k [.int .i64 (AA (Rs.getD k 0)),cv]:=by
  intro Rs
  induction Rs with
  | nil=>intro k h;simp at h
  | cons s Rs ih=>
   intro k hk
   cases k with
   | zero=>exact⟨by show 0*2+2<=_;simp[lC],rfl⟩
   | succ k=>
    obtain⟨h1,h2⟩:=ih k (by simpa using hk)
    refine⟨?_,?_⟩
    ·show (k+1)*2+2<=([V.int .i64 (AA s),cv]++lC cv Rs).length
     rw[AL]
     show (k+1)*2+2<=2+(lC cv Rs).length
     omega
    ·show (([V.int .i64 (AA s),cv]++lC cv Rs).drop ((k+1)*2)).take 2=_
     rw[show (k+1)*2=2+k*2 by omega,<-IP]
     exact h2
 refine⟨?_⟩
 rcases h with (⟨h0,rfl,_⟩|⟨b,rfl,ha,_,_⟩)|⟨b,rfl,ha,_⟩
 ·exact .inl ⟨h0,rfl⟩
 ·exact .inr ⟨b,_,_,rfl,ha,cel Rs⟩
 ·exact .inr ⟨b,_,_,rfl,ha,cel Rs⟩
section
variable {E:EB} {D:Az} {N:Nat}
theorem AAV {Pt:H->Prop} {nm:BS} {nv rv tv:V} (hptf:∀J J',Af J->Fr AJ J J'->Pt J->Pt J') (o1:nv.one=true) (o2:rv.one=true) (o3:tv.one=true) (ab:V.beq (.agg [.str nm,nv,rv,tv]) (.agg [.str nm,nv,rv,tv])=true) (hDc:UD Pt nm nv rv tv (D 8)) (hBy:iG (D 9)) (hAw:iI (D 4)) (hZ:V2 (D 10)) (hV:Zc E (D 10))
  {J0 J:H} {tb w wb lb:Nat} {u cv mv:V} {C:List Nat} {fl:List Bool} {sm:Bool} (hsm:sm=!(CX fl 0).isEmpty) (hp:Pt J) (atb:B8 J tb [.str nm,nv,rv,tv]) (hw:Wn J0 J w u (Of fl C)) (h:Wt J0 J w u wb lb cv (CX fl 0) mv) (h0:0<fl.length) (h100:fl.length<=100) (hC:L0 C) (hcv:∀J',Fr AJ J0 J'->Ob E J' cv C) :
  ∃J',oL E D (Ao E D) tb 0 true w 0 wb 0 sm J=some (.bool true,J'):=by
 have ht:=hw.f.tidy
 have tl:=Up hC h100
 have fw:Fr AJ J ⟨J.next+10,J.bl⟩:=(CN (E:=E) (n:=10) (S:=AJ) ht).fr
 obtain⟨u1,J1,g1,h1,f1⟩:=hBy (hw.wr.fr fw ht) fw.tidy (Uq hC fl) tl.2 (by omega)
 have F1:Fr AJ J J1:=fw.trans f1 (fun _ _ h=>h)
 obtain⟨vc,er,J2,g2,f2,k1,k2⟩:=hDc (fl:=fl) (C:=C) F1.tidy (hptf _ _ ht F1 hp) h1.by_ h0 h100 hC
 have F2:Fr AJ J J2:=F1.trans f2 (fun _ _ h=>h)
 have n1:J.next+10<=J1.next:=f1.le
 have n2:J1.next<=J2.next:=f2.le
 have hvc:vc.length=6/\allOne vc=true:=by
  by_cases he:CX fl 0=[]
  ·obtain⟨_,rfl⟩:=k1 he;exact⟨rfl,rfl⟩
  ·obtain⟨_,lb',mv',mo,rfl,_⟩:=k2 he
   refine⟨rfl,?_⟩
   unfold TG
   simp[Bd,Bo,DN,mo]
   exact⟨rfl,rfl⟩
 obtain⟨vl,vo⟩:=hvc
 let J3:H:=⟨J2.next,(J.next+7,.cells vz)::J2.bl⟩
 have f23:Fr (fun b=>b=J.next+7) J2 J3:=⟨fun c hc=>by
  have hc:J2.next<=c:=hc
  show Ba ((J.next+7,_)::J2.bl) c=none
  rw[BH,if_neg (by simp only[];omega)];exact f2.tidy c hc,AN _,fun c hc hn=>by
  show Ba ((J.next+7,_)::J2.bl) c=_
  rw[BH,if_neg (fun e=>hn e.symm)]⟩
 have F3:Fr AJ J J3:=F2.trans f23 (fun b hb e=>by omega)
 have a3:B8 J3 (J.next+7) vz:=by
  show Ba ((J.next+7,_)::J2.bl) _=_
  rw[BH,if_pos rfl]
 obtain⟨J4,g4,f4,a4⟩:∃J4,EO E D (.store 6 (.tmp 15) (.tmp 123)) [(15,.ptr (J.next+7) 0),(123,.agg vc)] J3=some (.dead,J4)/\Fr (fun b=>b=J.next+7) J3 J4/\B8 J4 (J.next+7) vc:=by
  obtain⟨J4,r1,r2,r3⟩:=LQ (E:=E) (D:=D) (n:=6) (x := .tmp 15) (y := .tmp 123) (e:=[(15,.ptr (J.next+7) 0),(123,.agg vc)]) F3.tidy a3 rfl (show (CZ [(15,.ptr (J.next+7) 0),(123,.agg vc)] (.tmp 123)).cells=vc from rfl) (by rw[vl,vo];rfl)
  have:Hg vz 0 vc=vc:=by
   match vc,vl with
   | [a,b,c,d,e,f],_=>rfl
  rw[this]at r3
  exact⟨J4,r1,r2,r3⟩
 have ltb:V.live (.agg [.str nm,nv,rv,tv])=true:=by
  simp[DI o1,DI o2,DI o3,V.live]
 have go:Fo E D J 10 0 AJ bV j4 ⟨[(7,.ptr tb 0),(8,.bool true),(9,.ptr w 0),(10,.ptr wb 0),(11,.bool sm)],J.next+10,[J.bl],[],0,[]⟩ _ J4:=
  D0 (.agg [.str nm,nv,rv,tv]) (CN ht) rfl (HI (b:=tb) (off:=0) (m:=4) rfl atb rfl rfl ht (fun h=>h) ab) fun _ r1=>
  B5 (.ptr w 0) rfl rfl <|
  IE u1 r1 rfl (by decide) f1 (fun _ _ h=>h) (fun _ h _ _=>h) (DO (vs:=[.ptr w 0]) rfl rfl g1) fun _ _ _ r2=>
  IE (.tup [.agg vc,.int .i64 (AA er)]) r2 rfl (by decide) f2 (fun _ _ h=>h) (fun _ h _ _=>h) (DO (vs:=[.agg [.str nm,nv,rv,tv],.int .i64 (AA 0),u1]) rfl (by rw[Ji,Ji,Ji,ltb,DI h1.1.one];rfl) g2) fun _ _ _ r3=>
  B5 (.tup [.agg vc,.int .i64 (AA er)]) rfl rfl <|
  B5 (.agg vc) rfl rfl <|
  B5 (.int .i64 (AA er)) rfl rfl <|
  Th (.ptr (J.next+7) 0) (.cells vz) 128 r3 rfl (by decide) (by decide) rfl fun _ r4=>
  eB .dead r4 rfl (by decide) f4 (fun b h e=>by omega) (fun b e h1 h2=>by subst e;rw[IL];decide) g4 fun _ _ _ r5=>
  B5 (.int .i64 (AA er)) rfl rfl <|
  Fv r5
 obtain⟨ev,d,y8,su,lI,Z8,Rv⟩:∃ev,Ao E D bV j4 [(7,.ptr tb 0),(8,.bool true),(9,.ptr w 0),(10,.ptr wb 0),(11,.bool sm)] J=some (ev,J4)/\Go.Og.look ev 8=some (.bool true)/\Go.Og.look ev 10=some (.ptr wb 0)/\Go.Og.look ev 11=some (.bool sm)/\Go.Og.look ev 15=some (.ptr (J.next+7) 0)/\Go.Og.look ev 16=some (.int .i64 (AA er)):=⟨_,(El (ops:=bV) go).1,rfl,rfl,rfl,rfl,rfl⟩
 have F4:Fr AJ J J4:=F3.trans f4 (fun b hb e=>by omega)
 have gd:∀U:CF->H->AH,DA (Ao E D bV j4 [(7,.ptr tb 0),(8,.bool true),(9,.ptr w 0),(10,.ptr wb 0),(11,.bool sm)] J) U=U ev J4:=fun U=>by rw[d];rfl
 have z8:∀U:V->AH,BW ev 8 U=U (.bool true):=fun U=>BG y8 rfl
 have z10:∀U:V->AH,BW ev 10 U=U (.ptr wb 0):=fun U=>BG su rfl
 have z11:∀U:V->AH,BW ev 11 U=U (.bool sm):=fun U=>BG lI rfl
 have z15:∀U:V->AH,BW ev 15 U=U (.ptr (J.next+7) 0):=fun U=>BG Z8 rfl
 have z16:∀U:V->AH,BW ev 16 U=U (.int .i64 (AA er)):=fun U=>BG Rv rfl
 obtain⟨J5,g5,f5⟩:=hAw J4 F4.tidy
 have F5:Fr AJ J J5:=F4.trans f5 (fun _ _ h=>h)
 have a5:=f5.at_ a4 F4.tidy (fun h=>h)
 have ld:∀U:List V->AH,BQ E J5 (J.next+7) 0 6 U=U vc:=fun U=>by
  rw[BT a5,Ot (by omega),CO,<-vl,M8]
 by_cases he:CX fl 0=[]
 ·obtain⟨rfl,rfl⟩:=k1 he
  have e:sm=false:=by rw[hsm,he];rfl
  subst e
  obtain⟨J6,g6,f6⟩:=hZ (J:=J5) Vc.abs F5.tidy ⟨rfl,rfl,rfl⟩
  refine⟨J6,?_⟩
  unfold Vc.c Vc.abs at g6
  unfold vz at ld
  unfold oL
  simp -implicitDefEqProofs only [↓rP,rA,AD,AG,AB,↓gd,↓z8,↓z10,↓z11,↓z15,↓z16,↓g5,DY,decide_true,↓ld,↓g6,FN]
 ·obtain⟨rfl,lb',mv',mo,rfl,rv⟩:=k2 he
  have e:sm=true:=by
   rw[hsm]
   cases hx:CX fl 0 with
   | nil=>exact absurd hx he
   | cons _ _=>rfl
  subst e
  have f24:Fr (fun b=>b=J.next+7) J2 J4:=f23.trans f4 (fun _ _ h=>h)
  have rv5:vF J1.next J5 lb' C (CX fl 0) mv':=(rv.fr f24 f2.tidy (fun b hb _ e=>by omega)).fr f5 F4.tidy (fun _ _ _ h=>h)
  have w5:=h.fr0 ht F5
  have rwB:oR E J5 mv C (Gt (CX fl 0)):=⟨fun _=>cv,eV w5.rw,fun i _ J' f'=>hcv J' ((hw.f.trans F5 (fun _ _ h=>h)).trans f' (fun _ _ h=>h))⟩
  have rlen:=Ow (CX fl 0)
  have ilen:=If fl 0
  have mo2:=w5.rw.one
  obtain⟨J6,g6,f6⟩:=hV (J:=J5) (l := .sl lb' 0 2 (.ex 2)) (l' := .sl lb 0 2 (.ex 2)) (m:=mv') (m':=mv) (hl:=rfl) (hl':=rfl) (hm:=mo) (hm':=mo2) (K:=7) (r:=AA (HX (CX fl 0))) (g:=gU (OP (CX fl 0)) (OO (CX fl 0))) F5.tidy (Ko rv5.alb) (Ko w5.alb) (fun k _=>AAM _ _ k) (by decide) (rv5.rw.i.b F5.tidy) rwB (by omega)
  refine⟨J6,?_⟩
  have aw5:=w5.at_
  have ldw:∀U:List V->AH,BQ E J5 wb 0 6 U=U [.int .i64 (AA 7),.int .i64 (AA 0),.nils,.sl lb 0 2 (.ex 2),.int .i64 (AA (HX (CX fl 0))),mv]:=fun U=>by rw[BT aw5];rfl
  unfold Vc.c Vr at g6
  unfold TG at ld
  unfold oL
  simp -implicitDefEqProofs only [↓rP,rA,AD,AG,AB,↓gd,↓z8,↓z10,↓z11,↓z15,↓z16,↓g5,DY,decide_true,↓ld,mo,↓ldw,mo2,↓g6,Cn]
end
def rM (D:Az) (F:List V->H->AH) (t0:BS):Prop:=∀J:H,Af J->∃Pt nm nv rv tv J',F [.str t0] J=some (.tup [.agg [.str nm,nv,rv,tv],.bool true],J')/\Fr AJ J J'/\Pt J'/\(∀J J',Af J->Fr AJ J J'->Pt J->Pt J')/\nv.one=true/\rv.one=true/\tv.one=true/\V.beq (.agg [.str nm,nv,rv,tv]) (.agg [.str nm,nv,rv,tv])=true/\UD Pt nm nv rv tv (D 8)
section
variable {E:EB} {D:Az} {N:Nat}
theorem AFv (v:Int):BP .u64 v=v % 18446744073709551616:=by rw[FO];rfl
theorem zr (a:Int) (m:Nat) (h0:0<m) (hm:m<=1000000):∃r:Nat,r<m/\BP .i64 (Fq (BP .u64 a) (AA m))=AA r:=by
 obtain⟨k,hk⟩:∃k:Nat,BP .u64 a=AA k:=by
  rw[AFv]
  exact Int.eq_ofNat_of_zero_le (Int.emod_nonneg _ (by decide))
 have h2:Fq (AA k) (AA m)=AA (k % m):=rfl
 have:=Re k h0
 exact⟨k % m,this,by rw[hk,h2];exact BV (show k % m<=9223372036854775807 by omega)⟩
theorem Y9:∀(l:List Bool) (i:Nat),(!(CX l i).isEmpty)=l.any id
 | [],_=>rfl
 | true::_,_=>rfl
 | false::r,i=>Y9 r (i+1)
theorem AAa (hB:Nr (D 6)) {J0 J:H} {w n:Nat} {u:V} (hw:Wn J0 J w u []) (hn:1<=n) (hn':n<=100) :
  ∃u' J',Jh J w u J' u' (1::GJ n)/\((n<=64/\∃Ja,D 6 [.ptr w 0,.int .u64 (AA 1),.int .i64 (AA 1)] J=some (.tup [],Ja)/\D 6 [.ptr w 0,.int .u64 (AA (n-1)),.int .i64 (AA 7)] Ja=some (.tup [],J')) \/
   (¬n<=64/\∃Ja Jb,D 6 [.ptr w 0,.int .u64 (AA 1),.int .i64 (AA 1)] J=some (.tup [],Ja)/\D 6 [.ptr w 0,.int .u64 (AA 1),.int .i64 (AA 1)] Ja=some (.tup [],Jb)/\D 6 [.ptr w 0,.int .u64 (AA n),.int .i64 (AA 8)] Jb=some (.tup [],J'))):=by
 have ht:=hw.f.tidy
 obtain⟨u1,J1,g1,s1⟩:=hB J w u [] 1 1 hw.wr ht (by decide) (by decide) (by decide)
 have e1:[]++Bq 1 1=[1]:=rfl
 rw[e1]at s1
 by_cases h64:n<=64
 ·obtain⟨u2,J2,g2,s2⟩:=hB J1 w u1 [1] (n-1) 7 s1.wr s1.f.tidy (by decide) (by omega) (by decide)
  exact⟨u2,J2,by have:=s1.trans s2;unfold GJ;rw[if_pos h64];exact this,.inl ⟨h64,J1,g1,g2⟩⟩
 ·obtain⟨u2,J2,g2,s2⟩:=hB J1 w u1 [1] 1 1 s1.wr s1.f.tidy (by decide) (by decide) (by decide)
  obtain⟨u3,J3,g3,s3⟩:=hB J2 w u2 _ n 8 s2.wr s2.f.tidy (by decide) (by omega) (by decide)
  exact⟨u3,J3,by have:=(s1.trans s2).trans s3;unfold GJ;rw[if_neg h64];exact this,.inr ⟨h64,J1,J2,g1,g2,g3⟩⟩
theorem AAD (hTb:rM D (D 5) (BS.mk 94 6320828242170758418337056517095621675984223683767383315806049650650199460465984701476669794443264855643114264876275454276703474501171439788583232407371408961472629243036152532782837683824085474433307533511660324626747898470477)) (hB:Nr (D 6)) (hP:Sp E (D 7)) (hBy:iG (D 9)) (hAw:iI (D 4)) (hZ:V2 (D 10)) (hV:Zc E (D 10)) (hN:1000<N)
  {J:H} (ht:Af J) (a:Int) {bv cv:V} {th:List Bool} {C:List Nat} (hth:lG E J bv th) (sc:∀U:Nat->AH,BA cv U=U C.length) (oct:∀c∈C,c<256) (hc:∀J',Fr AJ J J'->Sq E J' cv (nI C)) (hcc:Uh cv) (hcn:∀b,Ai cv b->b<J.next) (hcv:∀J',Fr AJ J J'->Ob E J' cv C) :
  ∃J',F3 E D (Ao E D) N [.int .i64 a,bv,cv] J=some (.bool true,J'):=by
 obtain⟨r,hr,er⟩:=zr a 100 (by decide) (by decide)
 have e1:CU .i64 (AA 1) (BP .i64 (Fq (BP .u64 a) (AA 100)))=AA (1+r):=by rw[er,BX (by omega)]
 show ∃J',Vu E D (Ao E D) (W6 E D (Ao E D) (X6 E D (Ao E D) N N)) a bv cv J=_
 by_cases hCt:L0 C
 ·obtain⟨Pt,nm,nv,rv,tv,J1,g1,f1,p1,hptf,o1,o2,o3,ab,hDc⟩:=hTb J ht
  obtain⟨J2,e2,f2,a2,n2⟩:=Ay f1.tidy [.str ⟨0,0⟩,.nils,.nils,.nils]
  obtain⟨J3,e3,f3,a3⟩:=Ci f2.tidy a2 [.str nm,nv,rv,tv]
  obtain⟨J4,e4,f4,a4,n4⟩:=Ay f3.tidy [.nils]
  have f13:Fr AJ J1 J3:=f2.trans f3 (fun b hb e=>by omega)
  have l13:=f13.le
  have l1:=f1.le
  have f14:Fr AJ J1 J4:=f13.trans f4 (fun _ _ h=>h)
  have F4:Fr AJ J J4:=f1.trans f14 (fun _ _ h=>h)
  have f03:Fr AJ J J3:=f1.trans f13 (fun _ _ h=>h)
  have w4:Wn J3 J4 J3.next .nils []:=⟨⟨a4,GH.nil J4 1,fun h=>h⟩,f4,fun b hb=>by
   rcases hb with hb|hb
   ·omega
   ·exact hb.elim⟩
  obtain⟨u5,J5,s5,k5⟩:=AAa hB w4 (show 1<=1+r by omega) (show 1+r<=100 by omega)
  have w5:=w4.step s5
  have hth3:lG E J3 bv th:=⟨hth.s,fun J' f=>hth.k J' (f03.trans f (fun _ _ h=>h))⟩
  have hc3:∀J',Fr AJ J3 J'->Sq E J' cv (nI C):=fun J' f=>hc J' (f03.trans f (fun _ _ h=>h))
  have hcv3:∀J',Fr AJ J3 J'->Ob E J' cv C:=fun J' f=>hcv J' (f03.trans f (fun _ _ h=>h))
  have hcn3:∀b,Ai cv b->b<J3.next:=fun b hb=>Bg (hcn b hb) f03.le
  obtain⟨J6,e6,f6,a6,n6⟩:=Ay s5.f.tidy (Oz false false)
  obtain⟨J7,e7,f7,a7,n7⟩:=Ay f6.tidy vz
  obtain⟨J8,e8,f8,a8⟩:=Ci f7.tidy a7 [.int .i64 (AA 7),.int .i64 (AA 0),.nils,.sl J5.next 0 2 (.ex 2),.int .i64 (AA 0),.nils]
  have f58:Fr AJ J5 J8:=(f6.trans f7 (fun _ _ h=>h)).trans f8 (fun b hb e=>by omega)
  have l58:=f58.le
  have w8:=w5.fr0 f58
  have le5:=w5.f.le
  have wt8:Wt J3 J8 J3.next u5 J6.next J5.next cv [] .nils:=⟨a8,f8.at_ (f7.at_ a6 f6.tidy (fun h=>h)) f7.tidy (by omega),GH.nil J8 2,fun b hb=>hb.elim,by omega,E4.new w5.wr w5.f.tidy (by omega) (a8.lt f8.tidy),E4.new w5.wr w5.f.tidy (AN _) (by have:=a8.lt f8.tidy;omega),by omega,by omega⟩
  have cl:=VY (1+r)
  obtain⟨u9,J9,g9,s9⟩:=nB (E:=E) (W:=Ao E D) (N:=N) (cv:=cv) (tb:=J1.next) (wb:=J6.next) (ok:=true) hB hth3 (show 1+r<=1000 by omega) (1+r) N 0 false u5 J8 _ (by omega) (by omega) w8 (by rw[Aj];omega)
  have w9:=w8.step s9
  have wt9:=wt8.step w8.f.tidy s9
  obtain⟨u10,J10,mv,g10,w10,wt10⟩:=dB (E:=E) (W:=Ao E D) (N:=N) (tb:=J1.next) (ok:=true) (sm:=(false || (Da 0 (1+r)).any (LP th))) hP hth3 hCt hc3 hcc hcn3 (show 1+r<=100 by omega) (1+r) N 0 [] .nils u9 J9 _ (by omega) (by omega) w9 wt9 (AN _) (by rw[AL,Aj,DH,List.length_range'];omega)
  rw[Cy]at wt10
  have hfl:((Da 0 (1+r)).map (LP th)).length=1+r:=by rw[DH,List.length_range']
  have eL:(1::GJ (1+r))++((Da 0 (1+r)).map fun i=>Ul (LP th i))++Gg C (CX ((Da 0 (1+r)).map (LP th)) 0)=Of ((Da 0 (1+r)).map (LP th)) C:=by
   unfold Of
   rw[hfl,qY,Ab];rfl
  rw[eL]at w10
  have p10:Pt J10:=hptf _ _ f3.tidy w10.f (hptf _ _ f1.tidy f13 p1)
  have atb10:B8 J10 J1.next [.str nm,nv,rv,tv]:=w10.f.at_ a3 f3.tidy (fun h=>h)
  obtain⟨J',g⟩:=AAV (E:=E) (fl:=(Da 0 (1+r)).map (LP th)) (sm:=(false || (Da 0 (1+r)).any (LP th))) hptf o1 o2 o3 ab hDc hBy hAw hZ hV (by rw[DL,Y9,List.any_map];rfl) p10 atb10 w10 wt10 (by omega) (by omega) hCt hcv3
  refine⟨J',?_⟩
  have hpos:=hCt.pos
  have hfew:=hCt.few
  have st3:∀U:H->AH,Dt 4 J1.next 0 (V.agg [.str nm,nv,rv,tv]) J2 U=U J3:=fun U=>by
   rw[Cg a2 (by show (true&&true&&Og.allOne [V.str nm,nv,rv,tv])=true;simp[Bd,Bo,Iu,o1,o2,o3])]
   show U (EV J2 J1.next (.cells [.str nm,nv,rv,tv]))=_
   rw[e3]
  have k0:∀K,Vu E D (Ao E D) K a bv cv J=K (AA (1+r)) bv cv J1.next 0 true J3.next 0 J5:=by
   intro K
   unfold Vu G9
   have en1:BP .u64 (E6 .i64 (AA (1+r)) (AA 1))=AA (1+r-1):=by
    rw[Fs (by omega) (by omega),BV (by rw[Db];omega)]
   have en2:BP .u64 (AA (1+r))=AA (1+r):=BV (by rw[Db];omega)
   rcases k5 with ⟨h64,Ja,c1,c2⟩|⟨h64,Ja,Jb,c1,c2,c3⟩
   ·simp -implicitDefEqProofs only [↓rP,rA,AD,AG,AB,DU,↓sc,decide_eq_false (show ¬C.length=0 by omega),decide_eq_false (show ¬200<C.length by omega),↓g1,o1,o2,o3,↓e2,↓st3,↓e4,e1,↓c1,decide_eq_true h64,en1,↓c2]
   ·simp -implicitDefEqProofs only [↓rP,rA,AD,AG,AB,DU,↓sc,decide_eq_false (show ¬C.length=0 by omega),decide_eq_false (show ¬200<C.length by omega),↓g1,o1,o2,o3,↓e2,↓st3,↓e4,e1,↓c1,decide_eq_false h64,↓c2,en2,↓c3]
  have st8:∀U:H->AH,Dt 6 J6.next 0 (V.agg [.int .i64 (AA 7),.int .i64 (AA 0),.nils,.sl J5.next 0 2 (.ex 2),.int .i64 (AA 0),.nils]) J7 U=U J8:=fun U=>by
   rw[Cg a7 rfl]
   show U (EV J7 J6.next (.cells [.int .i64 (AA 7),.int .i64 (AA 0),.nils,.sl J5.next 0 2 (.ex 2),.int .i64 (AA 0),.nils]))=_
   rw[e8]
  have e6':DR J5 (.cells (Bj 2 [V.int .i64 (AA 0),.int .i64 (AA 0),V.nils,V.nils,.int .i64 (AA 0),V.nils]).flatten)=J6:=e6
  have k1:∀K,W6 E D (Ao E D) K (AA (1+r)) bv cv J1.next 0 true J3.next 0 J5=K (AA (1+r)) bv cv J1.next 0 true J3.next 0 J6.next 0 false (AA 0) J8:=by
   intro K
   unfold W6
   unfold vz at e7
   rw[HJ,HJ,DU (by decide)]
   simp -implicitDefEqProofs only [↓rP,rS,↓e6',↓e7,↓st8]
  rw[k0,k1,g9]
  show WA E D (Ao E D) N N _ _ _ _ _ _ _ _ _ _ _ _ J9=_
  rw[g10]
  exact g
 ·have hbad:C.length=0\/200<C.length:=by
   rcases ye C.length with h|h
   ·exact .inl h
   ·rcases Al 200 C.length with h'|h'
    ·exact .inr h'
    ·exact absurd ⟨h,h',oct⟩ hCt
  obtain⟨J',g,_⟩:=hAw J ht
  refine⟨J',?_⟩
  unfold Vu
  by_cases h0:C.length=0
  ·simp -implicitDefEqProofs only [↓rP,rA,AD,AG,AB,↓sc,decide_eq_true h0,↓g]
  ·simp -implicitDefEqProofs only [↓rP,rA,AD,AG,AB,↓sc,decide_eq_false h0,decide_eq_true (show 200<C.length by omega),↓g]
end
set_option maxHeartbeats 0
theorem aT {e:Eh} {F:List V->H->AH} {args:List V} {J:H} {ρ:Nat->Nat} (hm:e.Fits ρ args J):∃ρ',e.Fits ρ' args J/\NO [e] F args J=some (e.ans ρ' J):=by
 obtain⟨e',ρ',he,hf,hr⟩:=dh (F:=F) (l:=[e]) (JN.2 rfl) hm
 have:=JN.1 he
 subst this
 exact⟨ρ',hf,hr⟩
theorem cF.nil {ρ:Nat->Nat} {J:H}:cF [] ρ J:=fun id b h=>by cases h
theorem xZ.nil {ρ:Nat->Nat}:xZ [] ρ:=fun id id' h=>by cases h
theorem AAA {E:EB} {D:Az} {W:AM} {N:Nat} {f:V} (hN:0<N):Xt (xi E D W N) f:=by
 intro J
 obtain⟨N,rfl⟩:∃q,N=q+1:=⟨N-1,by omega⟩
 rfl
section
variable {E:EB}
theorem AFs (d:Nat):iH (TW E (d+1) 13):=by rw[AIA];exact cm
theorem qh (d:Nat):Nr (TW E (d+2) 6):=by rw[DE6];exact ui (AFs d) (by decide)
theorem AFt (d:Nat):RA (TW E (d+1) 78):=by rw[AHm];exact fH (by decide)
theorem zS (d:Nat):Xq E (TW E (d+2) 37):=by rw[AHz];exact tt (AFt d) (by decide)
theorem zT (d:Nat):Xr E (TW E (d+3) 16):=by rw[AH7];exact tu (zS d)
theorem za (d:Nat):Xw (TW E (d+1) 14):=by rw[AH9];exact ud (by decide)
theorem AFm (d:Nat):iC (TW E (d+3) 15):=by rw[AH8];exact AAZ (qh d)
theorem AFX (d:Nat):Sp E (TW E (d+4) 7):=by rw[DE7];exact zx (za (d+2)) (AFm d) (zT d) (by decide)
theorem tK (d:Nat):UF 200000 (TW E (d+1) 23):=by rw[AH1];exact WY (by decide) (by decide)
theorem AFr (d:Nat):iG (TW E (d+2) 9):=by
 rw[DE9]
 intro J w u L h ht hb hl h0
 exact WX (tK d) h ht hb hl h0
theorem zR (d:Nat):Xp (TW E (d+1) 180):=by rw[AD8];exact tp
theorem WL (d:Nat):Ms (TW E (d+2) 109):=by rw[AEN];exact mW (zR d) (by decide)
theorem cL (d:Nat):KP (TW E (d+1) 108):=by rw[AEO];exact uH
theorem cK (d:Nat):PF (TW E (d+2) 155):=by rw[AEE];exact mM (cL d)
theorem zc (d:Nat):bT 32 (TW E (d+1) 154):=by rw[se];exact uq
theorem tG (d:Nat):T9 (TW E (d+3) 83):=by rw[AHk];exact mN (zc (d+1)) (cK d) (WL d)
theorem qd (d:Nat):T8 (TW E (d+1) 106):=by rw[AEQ];exact tf
theorem Uo (d:Nat):KQ (TW E (d+2) 56):=by rw[AHq];exact AAU (qd d)
theorem tF (d:Nat):KP (TW E (d+2) 107):=by rw[AEP];exact mH (cL d)
theorem cH (d:Nat):PA (TW E (d+3) 57):=by rw[AHp];exact lS (tF d)
theorem zb (d:Nat):bT 64 (TW E (d+1) 82):=by rw[ADc];exact um
theorem TD (d:Nat):Kz (TW E (d+4) 45):=by rw[AHu];exact lU (zb (d+2)) (Uo (d+1)) (cH d) (tG d)
theorem tE (d:Nat):T7 (TW E (d+3) 95):=by rw[AHg];exact mG (cK d) (WL d) (by decide)
theorem tB (d:Nat):T0 (TW E (d+4) 51):=by rw[AHs];exact lR (Uo (d+1)) (tE d)
theorem zX (d:Nat):Xv (TW E (d+3) 81):=by rw[AHl];exact uT (Uo d)
theorem zd (d:Nat):Xy (TW E (d+3) 158) (TW E (d+2)):=by rw[AED];exact ur (Uo d)
theorem lL (d:Nat):Q8 (TW E (d+5) 220):=by rw[ADs];exact cT (TD d)
theorem cJ (d:Nat):Mq (TW E (d+7) 171):=by rw[AEC];exact lY (zd (d+3)) (lL d)
theorem lM (d:Nat):Mr (TW E (d+5) 93):=by rw[AHh];exact dH (tB d)
theorem cI (d:Nat):JD (TW E (d+9) 48):=by rw[AHt];exact lX (cJ d) (Uo (d+5)) (Uo (d+6)) (lM (d+2)) (by decide) (AHi E (d+7))
theorem zU (d:Nat):Xs (TW E (d+1) 41):=by rw[AHx];exact tz
theorem qe (d:Nat):UA (TW E (d+2) 18):=by rw[AH5];exact tx (zU d)
theorem zO (d:Nat):Xn (TW E (d+3) 58):=by rw[AHo];exact ti (qd (d+1)) (cL (d+1)) (WL d)
theorem qc (d:Nat):T4 (TW E (d+4) 20):=by rw[AH4];exact tQ (Uo (d+1)) (cH d) (zO d)
theorem yi (d:Nat):Q9 (TW E (d+3) 44):=by rw[AHv];exact AF4 (Uo d)
theorem qg (d:Nat):UC (TW E (d+5) 84):=by rw[AHj];exact uR (TD d)
theorem PT (d:Nat):H7 (TW E (d+1) 42):=by rw[ADh];exact nd
theorem lN (d:Nat):RB (TW E (d+4) 42):=by rw[ADh];exact fK (zX d)
theorem Yl (d:Nat):JE (TW E (d+1) 43):=by rw[AHw];exact uC
theorem xDt (d:Nat):vC (TW E (d+8) 222):=by rw[ADr];exact AGA (cJ d)
theorem AFT (d:Nat):gq (TW E (d+9) 177):=by rw[AEA];exact zm (qg (d+3)) (TD (d+4)) (xDt d) (yi (d+5)) (PT (d+7)) (lN (d+4)) (by decide)
theorem xWb (d:Nat):Xm (TW E (d+1) 250):=by rw[ADj];exact tR
theorem tM (d:Nat):Ss 32 (TW E (d+1) 154):=by rw[se];exact na
theorem tL (d:Nat):Ss 64 (TW E (d+1) 82):=by rw[ADc];exact nZ
theorem zP (d:Nat):PC (TW E (d+2) 232):=by rw[ADq];exact dA (xWb d) (tM d) (by decide)
theorem xWw (d:Nat):Ip (TW E (d+3) 193):=by rw[AD1];exact cO (zP d) (tL (d+1))
theorem xFl (d:Nat):Gq (TW E (d+4) 118):=by rw[AEI];exact nG (xWw d)
theorem AFZ (d:Nat):No (TW E (d+1) 209):=by rw[ADt];exact mR
theorem zK (d:Nat):No (TW E (d+2) 132):=by rw[AEG];exact lP (AFZ d)
theorem xPB (d:Nat):Fx (TW E (d+1) 133):=by rw[AEF];exact aG
theorem xWB (d:Nat):Fx (TW E (d+3) 63):=by rw[AHn];exact Z9 (zK d) (xPB (d+1))
theorem xPO (d:Nat):Xl (TW E (d+3) 201):=by rw[sY];exact mQ (zP d) (by decide)
theorem xWO (d:Nat):PB (TW E (d+4) 124):=by rw[sg];exact lO (xPO d)
theorem zI (d:Nat):Xj (TW E (d+4) 200):=by rw[sZ];exact uE (xWw d)
theorem qf (d:Nat):PH (TW E (d+1) 198):=by rw[AD0];exact mq (by decide)
theorem qZ (d:Nat) {J:H} {n:Nat} (hn:n<16384):TW E (d+1) 233 [.int .i64 (AA n)] J=some (.tup [.int .i64 (AA n),.bool false],J):=by rw[sX];exact uJ hn
theorem tA (d:Nat):UE (TW E (d+2) 199):=by rw[sa];exact mn (fun J n hn=>qZ d hn) (by decide)
theorem zJ (d:Nat):UB (TW E (d+5) 121):=by rw[si];exact uK (qf (d+3)) (tA (d+2)) (zI d) (xWO d) (by decide)
theorem cG (d:Nat):O9 (TW E (d+4) 200):=by rw[sZ];exact lQ (xWw d)
theorem lK (d:Nat):Xx (TW E (d+2) 199):=by rw[sa];exact dv (fun J n hn=>qZ d hn) (fun J n h1 h2=>by rw[sX];exact mj h1 h2) (by decide)
theorem AFY (d:Nat) (J:H) (w p:Nat) (z:V) (hz:Emp z) (ap:B8 J p [z]):TW E (d+1) 201 [.ptr w 0,.sl p 0 1 (.ex 1)] J=some (.tup [],J):=by rw[sY];exact c9 hz ap (by decide)
theorem AFO (d:Nat):T5 (TW E (d+2) 124):=by rw[sg];exact cM (AFY d)
theorem sw (d:Nat):Mu (TW E (d+5) 121):=by rw[si];exact mm (qf (d+3)) (lK (d+2)) (cG d) (xWO d) (AFO (d+2)) (by decide)
theorem zQ (d:Nat):Xo (TW E (d+5) 236):=by rw[ADn];exact tm (cG d)
theorem TE (d:Nat):H6 (TW E (d+1) 111):=by rw[AEM];exact mV
theorem tP (x0 x1:Bool) (d:Nat):RC (TW E (d+2) 188) 2 (gU x0 x1) (Rj x0 x1):=by rw[sd];exact AAg (TE d) x0 x1
theorem AFu (d:Nat):Su (TW E (d+2) 188):=by rw[sd];exact AAf (TE d)
theorem xLs (d:Nat):bS (TW E (d+1) 189):=by rw[AD5];exact AF8
theorem xIx (d:Nat):AAn (TW E (d+1) 192) (TW E d):=by rw[AD2];exact fun ht hr hq hn=>AAE ht hr hq (by omega) (by omega)
theorem xCf (d:Nat):iF (TW E (d+2) 116) (TW E d):=by rw[AEK];exact AAd (xIx d)
theorem AFp (d:Nat):iE (TW E (d+1) 60):=by rw[ADf];exact AAc (by decide)
theorem AFo (d:Nat):iD (TW E (d+2) 60):=by rw[ADf];exact AAb (AFp d) (by decide)
theorem AFW (d:Nat):gv (TW E (d+3) 61):=by rw[ADe];exact zq (xCf d)
theorem xR1 (d:Nat):vB (TW E (d+4) 117):=by rw[AEJ];exact AF1 (AFW d)
theorem AFV (d:Nat):gu (TW E (d+7) 61):=by rw[ADe];exact zp (xCf (d+4)) (xR1 d)
theorem tC (d:Nat):T6 (TW E (d+1) 182):=by rw[AD7];exact lV
theorem AFb (d:Nat):rO (TW E (d+1) 235):=by rw[ADo];exact(fun J v B hx hb=>AAG hx (by omega) (by omega))
theorem xCB (d:Nat):oO (TW E (d+2) 206):=by rw[ADw];exact AGB (AFb d)
theorem AFa (d:Nat):gw (TW E (d+1) 234) (TW E d):=by rw[ADp];exact AAF (by decide)
theorem AFq (d:Nat):V3 (TW E (d+2) 204) (TW E d):=by rw[ADy];exact AAe (AFa d)
theorem AFi (x0 x1:Bool) (d:Nat):iB (gU x0 x1) (Rj x0 x1) (TW E (d+3) 205):=by rw[ADx];exact AAX (tP x0 x1 d)
theorem xHn (d:Nat):oN (TW E (d+1) 24):=by rw[ADl];exact AF6
theorem xHb (d:Nat):g0 E (TW E (d+1) 24):=by rw[ADl];exact AAJ
theorem xHr (d:Nat):gx E (TW E (d+2) 27):=by rw[AH0];exact AAI (xHb d)
theorem AFc (d:Nat):Xu E (TW E (d+3) 26):=by rw[ADi];exact uM (xHr d) (by decide)
theorem xH3 (d:Nat):Xt (TW E (d+1) 25) (.fn 10 [] []):=by rw[ADk];exact AAA (by decide)
theorem xH4 (d:Nat):Xt (TW E (d+1) 26) (.fn 27 [] []):=by rw[ADi];exact AF7 (by decide)
theorem zM (d:Nat):V2 (TW E (d+2) 10):=by rw[AEV];exact zh (xHn d) (xH3 d) (xH4 d)
theorem AFS (d:Nat):gn (TW E (d+3) 25):=by rw[ADk];exact zl (zM d) (by decide)
theorem AFR (d:Nat):Zc E (TW E (d+4) 10):=by rw[AEV];exact zg (xHn (d+2)) (AFS d) (AFc d)
end
def aB (τ:Nat->Nat):Nat->Ty
 | 0=>⟨AA 7,(.sl (τ 3291) 0 1 (.ex 1)),false,false,false,false,AA 0,AA 0,.nils,(.sl (τ 3387) 0 2 (.op 11)),AA 0,true,AA 0,rfl,rfl,rfl⟩
 | 1=>⟨AA 1,(.sl (τ 3355) 0 1 (.ex 1)),false,false,false,false,AA 0,AA 0,.nils,.nils,AA 0,false,AA 0,rfl,rfl,rfl⟩
 | _=>⟨AA 1,(.sl (τ 3385) 0 1 (.ex 1)),false,false,false,false,AA 0,AA 0,.nils,.nils,AA 0,false,AA 0,rfl,rfl,rfl⟩
def fdU (τ:Nat->Nat):Nat->Fd
 | 0=>⟨⟨1,97⟩,AA 1,false,false,AA 0,AA 0,.nils,.nils,AA 0,.nils,AA 0,rfl,rfl,rfl⟩
 | _=>⟨⟨1,98⟩,AA 2,false,false,AA 0,AA 0,.nils,.nils,AA 0,.nils,AA 0,rfl,rfl,rfl⟩
def RG (m:Nat) (τ:Nat->Nat) (J:H):Prop:=xZ eT.bl1 τ/\cF eT.bl1 τ J/\m<=J.next
def UX (m:Nat) (τ:Nat->Nat):Prop:=∀id,Dv eT.bl1 id=true->τ id<m
section
variable {E:EB} {τ:Nat->Nat} {m:Nat}
theorem zy (hl:UX m τ) {S:Nat->Prop} {J J':H} (ht:Af J) (f:Fr S J J') (hS:∀b,S b->m<=b) (h:RG m τ J):RG m τ J':=
 ⟨h.1,h.2.1.fr f ht fun id hd e=>by
  have h1:=hl id hd
  have h2:=hS _ e
  omega,Ae h.2.2 f.le⟩
theorem xMd (c:Nat):PG (RG m τ) ⟨1,77⟩ (.sl (τ 3273) 0 1 (.op 1)) (.sl (τ 3605) 0 1 (.op 1)) (.sl (τ 3384) 0 3 (.op 13)) (TW E (c+1) 17):=by
 intro J ht hP
 obtain⟨ρ,hf,hr⟩:=aT (e:=yo) (F:=BD E 600000 (TW E c) 17) (Kt (e:=yo) (ρ:=τ) (args:=[.agg [.str ⟨1,77⟩,(.sl (τ 3273) 0 1 (.op 1)),(.sl (τ 3605) 0 1 (.op 1)),(.sl (τ 3384) 0 3 (.op 13))]]) rfl hP.2.1 hP.1)
 exact⟨_,by rw[AH6,hr];rfl,Eh.fr0 aj (by kernel_rfl) hf ht⟩
theorem xRo (c:Nat):PG (RG m τ) ⟨1,77⟩ (.sl (τ 3273) 0 1 (.op 1)) (.sl (τ 3605) 0 1 (.op 1)) (.sl (τ 3384) 0 3 (.op 13)) (TW E (c+1) 38):=by
 intro J ht hP
 obtain⟨ρ,hf,hr⟩:=aT (e:=yn) (F:=BD E 600000 (TW E c) 38) (Kt (e:=yn) (ρ:=τ) (args:=[.agg [.str ⟨1,77⟩,(.sl (τ 3273) 0 1 (.op 1)),(.sl (τ 3605) 0 1 (.op 1)),(.sl (τ 3384) 0 3 (.op 13))]]) rfl hP.2.1 hP.1)
 exact⟨_,by rw[AHy,hr];rfl,Eh.fr0 ag (by kernel_rfl) hf ht⟩
theorem xOs (c:Nat):PE (RG m τ) [0,1] 0 ⟨1,77⟩ (.sl (τ 3273) 0 1 (.op 1)) (.sl (τ 3605) 0 1 (.op 1)) (.sl (τ 3384) 0 3 (.op 13)) (TW E (c+1) 176):=by
 intro J ht hP
 obtain⟨ρ,hf,hr⟩:=aT (e:=SX) (F:=BD E 600000 (TW E c) 176) (Kt (e:=SX) (ρ:=τ) (args:=[.agg [.str ⟨1,77⟩,(.sl (τ 3273) 0 1 (.op 1)),(.sl (τ 3605) 0 1 (.op 1)),(.sl (τ 3384) 0 3 (.op 13))],.int .i64 (AA 0)]) rfl hP.2.1 hP.1)
 have hh:=Eh.has SW hf ht
 have a0:B8 (SX.ans ρ J).2 (SX.to ρ J 3626) [.int .i64 (AA 0)]:=hh 3626 _ rfl
 have a1:B8 (SX.ans ρ J).2 (SX.to ρ J 3629) [.int .i64 (AA 1)]:=hh 3629 _ rfl
 have a2:B8 (SX.ans ρ J).2 (SX.to ρ J 3631) [.sl (SX.to ρ J 3626) 0 1 (.ex 1),.sl (SX.to ρ J 3629) 0 1 (.ex 1)]:=hh 3631 _ rfl
 have hn:∀id,3618<=id->J.next<=SX.to ρ J id:=fun id hid=>by
  unfold Eh.to
  have h0:SX.n0=3618:=rfl
  rw[h0,if_neg (by omega)];omega
 refine⟨.sl (SX.to ρ J 3631) 0 2 (.op 1),fun j=>SX.to ρ J (if j=0 then 3626 else 3629),(SX.ans ρ J).2,by rw[AEB,hr];rfl,⟨⟨.inr ⟨_,_,_,rfl,a2,fun k hk=>?_⟩⟩,fun j k hk=>?_,rfl⟩,Eh.fr0 SW (by kernel_rfl) hf ht,fun b hb=>by have hb:b=SX.to ρ J 3631:=hb;rw[hb];exact hn _ (by decide),fun j _=>hn _ (by split<;>decide)⟩
 ·have:k=0\/k=1:=by
   have hk:k<2:=hk
   omega
  rcases this with rfl|rfl<;>exact⟨Gr rfl,rfl⟩
 ·match j,hk with
  | 0,hk=>cases hk;exact a0
  | 1,hk=>cases hk;exact a1
  | j+2,hk=>cases hk
theorem xOf (c:Nat):Zd (RG m τ) 0 ⟨1,77⟩ (.sl (τ 3273) 0 1 (.op 1)) (.sl (τ 3605) 0 1 (.op 1)) (.sl (τ 3384) 0 3 (.op 13)) (aB τ 0).root [] (TW E (c+1) 103):=by
 intro J ht hP
 obtain⟨ρ,hf,hr⟩:=aT (e:=WI) (F:=BD E 600000 (TW E c) 103) (Kt (e:=WI) (ρ:=τ) (args:=[.agg [.str ⟨1,77⟩,(.sl (τ 3273) 0 1 (.op 1)),(.sl (τ 3605) 0 1 (.op 1)),(.sl (τ 3384) 0 3 (.op 13))],.int .i64 (AA 0)]) rfl hP.2.1 hP.1)
 have hh:=Eh.has SY hf ht
 have a:B8 (WI.ans ρ J).2 (WI.to ρ J 3625) (Ig [0,1]):=hh 3625 _ rfl
 have h1:J.next<=WI.to ρ J 3625:=by
  unfold Eh.to
  have h0:WI.n0=3618:=rfl
  rw[h0,if_neg (by omega)];omega
 obtain⟨lv,hsl,o,hlv,hc⟩:∃lv,CP 1 (.sl (WI.to ρ J 3625) 0 2 (.op 1)) none (some (.int .i64 (AA 0))) none=some lv/\lv.one=true/\(∀b,Ai lv b->b=WI.to ρ J 3625)/\∃c,lv = .sl (WI.to ρ J 3625) 0 0 c:=⟨_,rfl,rfl,fun b hb=>hb,_,rfl⟩
 obtain⟨c,rfl⟩:=hc
 exact⟨.sl (WI.to ρ J 3625) 0 2 (.op 1),.sl (WI.to ρ J 3625) 0 0 c,(WI.ans ρ J).2,by rw[AET,hr];rfl,rfl,rfl,hsl,.inr ⟨_,_,_,_,rfl,a,by decide,rfl⟩,fun b hb=>by rw[hlv b hb];exact h1,Eh.fr0 SY (by kernel_rfl) hf ht⟩
theorem Un (hl:UX m τ) (a b:Nat):LM (TW E (a+1) 176) (TW E (b+1) 103) m (RG m τ) ⟨1,77⟩ (.sl (τ 3273) 0 1 (.op 1)) (.sl (τ 3605) 0 1 (.op 1)) (.sl (τ 3384) 0 3 (.op 13)) (aB τ) (fdU τ) where
 o1:=rfl
 o2:=rfl
 b1:=As _ rfl
 b2:=As _ rfl
 ptf:=fun ht f hS h=>zy hl ht f hS h
 row:=fun J h=>⟨.inr ⟨τ 3384,_,_,rfl,h.2.1 3384 _ rfl,fun k hk=>by
  have:k=0\/k=1\/k=2:=by omega
  rcases this with rfl|rfl|rfl<;>exact⟨Gr rfl,rfl⟩⟩⟩
 frow:=fun J h=>⟨.inr ⟨τ 3387,_,_,rfl,h.2.1 3387 _ rfl,fun k hk=>by
  have:k=0\/k=1:=by omega
  rcases this with rfl|rfl<;>exact⟨Gr rfl,rfl⟩⟩⟩
 k0:=rfl
 root:=rfl
 mor:=rfl
 bt:=As _ rfl
 bi:=As _ rfl
 kd:=fun k hk=>by
  have:k=0\/k=1:=by omega
  rcases this with rfl|rfl<;>rfl
 fty:=fun k hk=>by
  have:k=0\/k=1:=by omega
  rcases this with rfl|rfl<;>exact⟨rfl,rfl,rfl,rfl⟩
 fb:=fun k hk=>by
  have:k=0\/k=1:=by omega
  rcases this with rfl|rfl<;>exact As _ rfl
 fm:=fun b hb=>by
  have hb:b=τ 3387:=hb
  rw[hb];exact hl 3387 (by kernel_rfl)
 sl:=xOs a
 fl:=xOf b
theorem tD (d:Nat):PD (aB τ) (TW E (d+1) 104):=by rw[AES];exact lq (by decide)
theorem AFP (hl:UX m τ) (d:Nat):gk m (RG m τ) ⟨1,77⟩ (.sl (τ 3273) 0 1 (.op 1)) (.sl (τ 3605) 0 1 (.op 1)) (.sl (τ 3384) 0 3 (.op 13)) (TW E (d+5) 19):=by rw[AD4];exact ze (Un (E:=E) hl (d+3) (d+3)) (Yl (d+3)) (PT (d+3)) (yi (d+1)) (TD d)
theorem tO (hl:UX m τ) (d:Nat):Mx m (RG m τ) ⟨1,77⟩ (.sl (τ 3273) 0 1 (.op 1)) (.sl (τ 3605) 0 1 (.op 1)) (.sl (τ 3384) 0 3 (.op 13)) (aB τ) (TW E (d+6) 179):=by rw[AD9];exact oF (Un (E:=E) hl (d+4) (d+4)) (AFP hl d)
theorem tH (hl:UX m τ) (d:Nat):Mt m (RG m τ) ⟨1,77⟩ (.sl (τ 3273) 0 1 (.op 1)) (.sl (τ 3605) 0 1 (.op 1)) (.sl (τ 3384) 0 3 (.op 13)) (TW E (d+9)) (TW E (d+10) 101):=by rw[AEU];exact mY (Un (E:=E) hl (d+8) (d+8)) (cI d) (PT (d+8)) (yi (d+6)) (qe (d+7)) (qc (d+5))
theorem tN (hl:UX m τ) (d:Nat):UG m (RG m τ) ⟨1,77⟩ (.sl (τ 3273) 0 1 (.op 1)) (.sl (τ 3605) 0 1 (.op 1)) (.sl (τ 3384) 0 3 (.op 13)) (TW E (d+11) 105):=by rw[AER];exact oE (Un (E:=E) hl (d+9) (d+9)) (AFT (d+1)) (yi (d+7)) (Yl (d+9)) (tH hl (d+0)) (tO hl (d+3)) (cI (d+1)) (by decide)
theorem zW (hl:UX m τ) (d:Nat):Nq m (RG m τ) ⟨1,77⟩ (.sl (τ 3273) 0 1 (.op 1)) (.sl (τ 3605) 0 1 (.op 1)) (.sl (τ 3384) 0 3 (.op 13)) 1 (TW E (d+12) 55):=by rw[AHr];exact uQ (Un (E:=E) hl (d+10) (d+10)) (Yl (d+10)) (PT (d+10)) (qg (d+6)) (tD (d+10)) (yi (d+8)) (tN hl d)
theorem zN (hl:UX m τ) (d:Nat):Nq m (RG m τ) ⟨1,77⟩ (.sl (τ 3273) 0 1 (.op 1)) (.sl (τ 3605) 0 1 (.op 1)) (.sl (τ 3384) 0 3 (.op 13)) 0 (TW E (d+13) 19):=by rw[AD4];exact td (Un (E:=E) hl (d+11) (d+11)) (Yl (d+11)) (PT (d+11)) (yi (d+9)) (zW hl d)
theorem AFU (hl:UX m τ) (d:Nat):gr (RG m τ) ⟨1,77⟩ (.sl (τ 3273) 0 1 (.op 1)) (.sl (τ 3605) 0 1 (.op 1)) (.sl (τ 3384) 0 3 (.op 13)) (aB τ) (TW E (d+2) 187):=by rw[AD6];exact zo (Un (E:=E) hl d d) (tC d) (by decide)
theorem AFd (hl:UX m τ) (d:Nat):hU (RG m τ) ⟨1,77⟩ (.sl (τ 3273) 0 1 (.op 1)) (.sl (τ 3605) 0 1 (.op 1)) (.sl (τ 3384) 0 3 (.op 13)) (aB τ) (TW E (d+2) 191):=by rw[AD3];exact AAK (Un (E:=E) hl d d) (by decide)
theorem AFf (d:Nat):iA (TW E (d+2) 59):=by rw[ADg];exact AAO (TE d)
theorem AFg (hl:UX m τ) (d:Nat):Sr (RG m τ) ⟨1,77⟩ (.sl (τ 3273) 0 1 (.op 1)) (.sl (τ 3605) 0 1 (.op 1)) (.sl (τ 3384) 0 3 (.op 13)) (aB τ) (TW E (d+3) 115):=by rw[AEL];exact AAQ (Un (E:=E) hl (d+1) (d+1)) (TE (d+1)) (AFu d) (xLs (d+1)) (AFf d) (AFU hl d) (AFd hl d) (by decide)
theorem AFe (hl:UX m τ) (d:Nat):Sr (RG m τ) ⟨1,77⟩ (.sl (τ 3273) 0 1 (.op 1)) (.sl (τ 3605) 0 1 (.op 1)) (.sl (τ 3384) 0 3 (.op 13)) (aB τ) (TW E (d+4) 59):=by rw[ADg];exact AAN (Un (E:=E) hl (d+2) (d+2)) (AFg hl d)
theorem zV (hl:UX m τ) (d:Nat):Ze (RG m τ) ⟨1,77⟩ (.sl (τ 3273) 0 1 (.op 1)) (.sl (τ 3605) 0 1 (.op 1)) (.sl (τ 3384) 0 3 (.op 13)) (TW E (d+5) 21):=by rw[AH3];exact AAP (Un (E:=E) hl (d+3) (d+3)) (AFe hl d) (AFo (d+2))
theorem zL (d:Nat):∀k,k<2->So (TW E (d+5) 62) 3 (aB τ) (k+1) (Rh true) [1]:=by
 intro k hk
 rw[ADd]
 exact zf (xFl d) (by omega) (by
  have:k=0\/k=1:=by omega
  rcases this with rfl|rfl<;>rfl)
theorem AFk (x0 x1:Bool) (d:Nat):Zf (TW E (d+6) 238) 3 (aB τ) 2 (fdU τ) (gU x0 x1) (Rj x0 x1) (fun _=>[1]):=by
 rw[ADm]
 exact uY (fun k hk=>by
  have:k=0\/k=1:=by omega
  rcases this with rfl|rfl<;>rfl) (zL d)
theorem tI (d:Nat):PI (TW E (d+7) 202) (TW E (d+6)):=by rw[ADz];exact nF (xWB (d+3)) (zJ (d+1))
theorem tJ (d:Nat) {x0 x1:Bool} {v0:Vc} {C Rs:List Nat} (hinc:WJ 2 Rs) (hlt:∀s∈Rs,s<100) (hRl:Rs.length<=100) (hC:L0 C):Mw (TW E (d+8) 208) (aB τ 0) v0 [0,1] ([0,1].map fun k=>!Rj x0 x1 k) (gU x0 x1) 3 (aB τ) 2 (fdU τ) 300000 (fun J=>Zn J v0.m C Rs):=by
 rw[ADu]
 exact eM (xWw (d+4)) (xFl (d+3)) (zQ (d+2)) (sw (d+2)) (tI (d+0)) (AFk x0 x1 (d+0)) (fun k hk=>by
  have:k=0\/k=1:=by omega
  rcases this with rfl|rfl<;>rfl) (fun k hk=>by
  have:k=0\/k=1:=by omega
  rcases this with rfl|rfl<;>exact As _ rfl) hinc hlt hRl hC (by decide)
theorem AFl (hl:UX m τ) (x0 x1:Bool) (d:Nat):Mv (TW E (d+6) 207) 3 (aB τ) 2 (fdU τ) (gU x0 x1) (Rj x0 x1) (fun _=>[1]):=by
 rw[ADv]
 exact AAT (tP x0 x1 (d+3)) (xFl (d+1)) (Un (E:=E) hl d d) (zL (d+0)) (by decide)
theorem AFj (hl:UX m τ) (d:Nat):Np (RG m τ) ⟨1,77⟩ (.sl (τ 3273) 0 1 (.op 1)) (.sl (τ 3605) 0 1 (.op 1)) (.sl (τ 3384) 0 3 (.op 13)) (TW E (d+9) 131):=by
 rw[AEH]
 exact AAY (Un (E:=E) hl (d+7) (d+7)) (fun x0 x1=>tP x0 x1 (d+6)) (AFq (d+6)) (fun x0 x1=>AFi x0 x1 (d+3)) (xCB (d+6)) (xFl (d+4)) (fun x0 x1=>AFl hl x0 x1 (d+2)) (fun h1 h2 h3 h4=>tJ (d+0) h1 h2 h3 h4) (by decide)
theorem AFh (hl:UX m τ) (d:Nat):Np (RG m τ) ⟨1,77⟩ (.sl (τ 3273) 0 1 (.op 1)) (.sl (τ 3605) 0 1 (.op 1)) (.sl (τ 3384) 0 3 (.op 13)) (TW E (d+10) 62):=by rw[ADd];exact AAS (Un (E:=E) hl (d+8) (d+8)) (AFj hl d)
theorem zY (hl:UX m τ) (d:Nat) {J:H} {lb:Nat} {mv:V} {hm:mv.one=true} {C A:List Nat} (ht:Af J) (hp:RG m τ J) (hr:bQ J lb C A mv) :
  ∃b J',TW E (d+11) 22 [.agg [.str ⟨1,77⟩,(.sl (τ 3273) 0 1 (.op 1)),(.sl (τ 3605) 0 1 (.op 1)),(.sl (τ 3384) 0 3 (.op 13))],.int .i64 (AA 0),.agg (vU lb (HX A) mv hm).c] J=some (.tup [b,.int .i64 (AA 0)],J')/\b.one=true/\Fr AJ J J':=by
 rw[AH2]
 exact uX (Un (E:=E) hl d d) (zV hl (d+5)) (xRo (d+9)) (AFV (d+3)) (AFh hl (d+0)) (xWB (d+7)) ht hp hr
theorem zZ (hl:UX m τ) (d:Nat):UD (RG m τ) ⟨1,77⟩ (.sl (τ 3273) 0 1 (.op 1)) (.sl (τ 3605) 0 1 (.op 1)) (.sl (τ 3384) 0 3 (.op 13)) (TW E (d+14) 8):=by
 rw[DE8]
 exact uc (Un (E:=E) hl d d) (fun J _ h=>h.2.2) (xMd (d+12)) (qe (d+11)) (zN hl (d+0)) (qc (d+9)) (fun C hC=>tr (Un (E:=E) hl d d) (zV hl (d+8)) (fun ht hp hr=>zY hl (d+2) ht hp hr) hC)
end
section
variable {E:EB}
theorem AFQ (d:Nat):rM (TW E (d+14)) (TW E (d+14) 5) t0:=by
 intro J ht
 obtain⟨ρ,hf,hr⟩:=aT (e:=eT) (F:=BD E 600000 (TW E (d+13)) 5) (Kt (e:=eT) (ρ:=fun x=>x) (args:=[.str t0]) (J:=J) rfl cF.nil xZ.nil)
 have ff:=Eh.fr0 QN (by kernel_rfl) hf ht
 have hh:=Eh.has QN hf ht
 have hl:UX (eT.ans ρ J).2.next (eT.to ρ J):=fun id hd=>hh.lt ff.tidy hd
 exact⟨RG (eT.ans ρ J).2.next (eT.to ρ J),_,_,_,_,_,by rw[show d+14=(d+13)+1 from rfl,DE5,hr];rfl,ff,⟨Eh.to_inj QN hf ht,hh,AN _⟩,fun J1 J2 h1 f h=>zy hl h1 f (fun _ h=>h.elim) h,rfl,rfl,rfl,As _ rfl,zZ hl d⟩
theorem xAw (d:Nat):iI (TW E (d+1) 4):=by
 intro J ht
 obtain⟨ρ,hf,hr⟩:=aT (e:=yp) (F:=BD E 600000 (TW E d) 4) (Kt (e:=yp) (ρ:=fun x=>x) (args:=[]) (J:=J) rfl cF.nil xZ.nil)
 exact⟨_,by rw[DE4,hr];rfl,Eh.fr0 au (by kernel_rfl) hf ht⟩
theorem Ou {bv cv:V} (a:Int) (sc:∀U:Nat->AH,BA cv U=U 0) :
  yk (F3 E (TW E 59) (Ao E (TW E 59)) 600000 [.int .i64 a,bv,cv] ⟨100,[]⟩)=true:=by
 have ht:Af ⟨100,[]⟩:=fun _ _=>rfl
 obtain⟨J',g,_⟩:=xAw (E:=E) 58 ⟨100,[]⟩ ht
 have h:F3 E (TW E 59) (Ao E (TW E 59)) 600000 [.int .i64 a,bv,cv] ⟨100,[]⟩=some (.bool true,J'):=by
  show Vu E (TW E 59) (Ao E (TW E 59)) (W6 E (TW E 59) (Ao E (TW E 59)) (X6 E (TW E 59) (Ao E (TW E 59)) 600000 600000)) a bv cv _=_
  generalize W6 E (TW E 59) (Ao E (TW E 59)) (X6 E (TW E 59) (Ao E (TW E 59)) 600000 600000)=K
  generalize Ao E (TW E 59)=W
  unfold Vu
  simp -implicitDefEqProofs only [↓rP,rA,AD,AG,AB,↓sc,decide_eq_true (show 0=0 from rfl),↓g]
 rw[h];rfl
theorem tX {bv cv:V} {th:List Bool} {C:List Nat} (a:Int) (hth:lG E ⟨100,[]⟩ bv th) (sc:∀U:Nat->AH,BA cv U=U C.length) (oct:∀c∈C,c<256) (hc:∀J',Fr AJ ⟨100,[]⟩ J'->Sq E J' cv (nI C)) (hcc:Uh cv) (hcn:∀b,Ai cv b->b<100) (hcv:∀J',Fr AJ ⟨100,[]⟩ J'->Ob E J' cv C) :
  yk (F3 E (TW E 59) (Ao E (TW E 59)) 600000 [.int .i64 a,bv,cv] ⟨100,[]⟩)=true:=by
 have ht:Af ⟨100,[]⟩:=fun _ _=>rfl
 obtain⟨J',h⟩:=AAD (E:=E) (D:=TW E 59) (N:=600000) (AFQ 45) (qh 57) (AFX 55) (AFr 57) (xAw 58) (zM 57) (AFR 55) (by decide) ht a hth sc oct hc hcc hcn hcv
 rw[h];rfl
end
end
end Go.Proofs.YtcpdffccolffaaaGreatDoor
namespace Go.Proofs.YtcpdffccolffaaaGreatDoor.uperinSlots
open Go
theorem aN:(Rows.uperinSlotsRow.inPlace==Tryz.pinned.checked.prog.inPlace 3)=true:=by kernel_rfl
theorem Tc:(Rows.uperinSlotsRow.unfollowed==Tryz.pinned.checked.prog.unfollowed 3)=true:=by kernel_rfl
theorem Wf:(Rows.uperinSlotsRow.recurses==Tryz.pinned.checked.prog.recurses 3)=true:=by kernel_rfl
theorem VI:(Rows.uperinSlotsRow.named==Tryz.pinned.checked.prog.varsNamed 3)=true:=by kernel_rfl
end Go.Proofs.YtcpdffccolffaaaGreatDoor.uperinSlots
