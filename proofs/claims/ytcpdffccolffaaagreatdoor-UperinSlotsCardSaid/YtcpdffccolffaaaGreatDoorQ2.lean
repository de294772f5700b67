/- What the last text leans on, part 3 of 7: merged out of smaller texts. No condition. -/
import GoSem.ClaimChange
import Derived.Below
import Derived.KernelRfl
import Derived.Test.YtcpdffccolffaaaGreatDoorQ1
open Int renaming ofNat -> AA,negSucc -> FM,tmod -> Fq
open Nat renaming le_refl -> AN,beq_eq -> AV,add -> Ac,le_trans -> Ae,lt_or_ge -> Al,beq -> Ax,ble -> A0,lt_of_lt_of_le -> Bg,lt_succ_self -> Bz,zero_le -> CH,blt -> DQ,le_succ -> Ec,strongRecOn -> PL,lt_succ_of_lt -> Uj,sub_zero -> qW,lt_trichotomy -> AFK
open Bool renaming and_eq_true -> AK,or_eq_false_iff -> B2,or_eq_true -> CB,not_eq_true' -> C4,false_eq_true -> E3
open List renaming getElem?_eq_getElem -> AZ,getElem?_eq_none -> Aa,getD_eq_getElem?_getD -> Ad,mem_cons -> BJ,getElem?_map -> BM,mem_cons_self -> BZ,replicate -> Bj,map_cons -> B3,getElem?_cons_succ -> CK,range -> Cj,mem_cons_of_mem -> ED,cons_append -> Ez,mem_map -> FA,mem_range -> MC,mapM_cons -> Uk,eq_nil_iff_forall_not_mem -> Yi
open Option renaming some -> AP
open Array renaming getElem?_setIfInBounds -> BE,getElem?_eq_none -> CE,getElem?_eq_getElem -> Dm,size_setIfInBounds -> Dx,getD_eq_getD_getElem? -> EF,replicate -> HE,mem_of_getElem? -> Kg,getElem?_append_left -> MD,mapM_eq_mapM_toList -> NC,getElem?_toList -> WK,getElem?_eq_some_iff -> yh,getElem?_replicate -> AI5
set_option linter.unusedSimpArgs false
namespace Go.Og
variable {P:Program} {D:Az} {C:Cx}
theorem SL:∀{l:List BY},VE l=true->∀o∈l,o.op ≠ .bad
 | [],_,o,ho=>by simp at ho
 | a::l,h,o,ho=>by
  simp only[VE,AK]at h
  rcases BJ.1 ho with rfl|ho
  ·intro hb;rw[hb]at h;cases h.1
  ·exact SL h.2 o ho
def uw (R:Cz) (B:Bs) (x:Option Value):Oc->Prop
 | .val v=>∃y,x=some y/\Au R v=some y
 | .mark m off=>∃i,B m=some i/\x=some (.pointer (some ⟨i.blk,i.shift+off,none⟩))
 | .pal d _=>∃i,B d=some i/\x=some (.pointer (some ⟨i.blk,i.shift+0,none⟩))
theorem uw.mono {R R':Cz} {B B':Bs} {x:Option Value} {c:Oc} (h:uw R B x c) (hR:Le R R') (hB:∀m i,B m=some i->B' m=some i):uw R' B' x c:=by
 cases c with
 | val v=>obtain⟨y,h1,h2⟩:=h;exact⟨y,h1,Cq hR v y h2⟩
 | mark m off=>obtain⟨i,h1,h2⟩:=h;exact⟨i,hB _ _ h1,h2⟩
 | pal d z=>obtain⟨i,h1,h2⟩:=h;exact⟨i,hB _ _ h1,h2⟩
set_option maxHeartbeats 2000000 in
theorem nK (hD:∀f,Cb P C.E C.G f (D f)) (hmix:P.follows .mixedOrders=true) {nR:Nat} {R0:Cz} {nt:Nat} (rid:Nat) {ops:Array Oper} {l:XL} {ancs:List Nat}
    (hflat:l.flat none=ops.toList.map (BN P C.G nt ops)) (hpl:List.zipWith DP.mk ancs l.lks=GS ops) (hplan:Pp ops (ops.toList.map (BN P C.G nt ops)) (GS ops)=true)
    (hok:l.okG none none=true) (hdo:eW (l.flat none) ancs=true) (hanl:ancs.length=l.lks.length) (hmk:l.makes=false) (hnb:VE (l.flat none)=true)
    {s:St} {a0:Act} {w00:World} {U:CF->Qs->Rg->H->AH} {res:V × H} (hpo:Pu s.q l.pals=true)
    (h:Ih C.E D true true 0 l 0 s.e s.q s.r s.J U=some res) (hI:Ok C nR R0 nt s a0 w00) (Q:Exit->Act->World->Prop)
    (hQ:∀s' a' w',U s'.e s'.q s'.r s'.J=some res->Ok C nR R0 nt s' a' w'->Q .normal a' w'):(Code.region rid ops true).wp P Q a0 w00:=by
  obtain⟨s',hrun,hκ,_⟩:=Hn l none none none true 0 s U res h hok (.inl ⟨rfl,rfl⟩) (fun _=>hmk)
  obtain⟨sts,oc,ex,hst0,hs',hat⟩:=aE hrun
  rw[TB]at hs'
  obtain⟨hfl1,hfl2⟩:=Gz l none
  have hsz:l.size=ops.size:=by rw[<-hfl1,hflat];simp
  generalize hnn:ops.size=n at *
  rw[hsz]at hs'
  have F:=SG (l:=ops.toList.map (BN P C.G nt ops)) (by simp) hplan
  have hgood:∀(i:Nat) (o:Oper),ops[i]? = some o->∃g,BN P C.G nt ops o=⟨o.dst,Ag P C.G o.op,g⟩/\QT ops o.guard=some g/\GN nt o.dst=true:=by
    intro i o ho
    have hmem:BN P C.G nt ops o∈l.flat none:=by
      rw[hflat,FA]
      exact⟨o,by simpa using Kg ho,rfl⟩
    have hb:=SL hnb _ hmem
    unfold BN at hb ⊢
    split at hb
    · rename_i g h1 h2;exact⟨g,rfl,h1,h2⟩
    · exact(hb rfl).elim
  have hlt:∀{i:Nat} {o:Oper},ops[i]? = some o->i<n:=fun {i o} ho=>by
    rcases Al i ops.size with h|h
    · omega
    · rw[CE h]at ho;cases ho
  have some3:∀(i:Nat),i<n->∃(o:Oper) (p:DP),ops[i]? = some o/\(GS ops)[i]? = some p/\ancs.getD i 0=p.anc/\(l.flat none)[i]? = some (BN P C.G nt ops o)/\At C.E D (sts i) (BN P C.G nt ops o) p.looks (oc i) (ex i) (sts (i+1)):=by
    intro i hi
    have h1:i<ops.size:=by omega
    have ho:ops[i]? = some ops[i]:=Dm h1
    have hf:(l.flat none)[i]? = some (BN P C.G nt ops ops[i]):=by
      rw[hflat,BM,WK,ho];rfl
    have hk:l.lks[i]? = some (l.lks[i]'(by omega)):=AZ _
    have ha:ancs[i]? = some (ancs[i]'(by omega)):=AZ _
    refine⟨ops[i],⟨ancs[i]'(by omega),l.lks[i]'(by omega)⟩,ho,?_,?_,hf,?_⟩
    · rw[<-hpl,List.getElem?_zipWith,ha,hk]
    · rw[Ad,ha];rfl
    · exact hat i _ _ (by rw[List.getElem?_zip_eq_some];exact⟨hf,hk⟩)
  have hdlt:∀(i:Nat) (o:Oper) (t:Nat),ops[i]? = some o->o.dst=some t->t<nt:=by
    intro i o t ho ht
    obtain⟨g,_,_,hd⟩:=hgood i o ho
    rw[ht]at hd;simpa[GN]using hd
  have hdu:∀(i k:Nat) (o o':Oper) (t:Nat),i≠k->ops[i]? = some o->ops[k]? = some o'->o.dst=some t->o'.dst≠some t:=by
    intro i k o o' t hne ho ho' ht
    obtain⟨o1,p1,h1,h2,_⟩:=some3 i (hlt ho)
    obtain⟨o2,p2,h3,h4,_⟩:=some3 k (hlt ho')
    exact(F.dsts i k o o' p1 p2 hne ho ho' h2 h4 t ht).1
  have hpald:∀(k m:Nat) (z:List V),k<n->oc k = .pal m z->ex k=true/\∃(o:Oper) (el:TypeId),ops[k]? = some o/\o.dst=some m/\Ag P C.G o.op = .alloc el z:=by
    intro k m z hk hc
    obtain⟨o,p,ho,_,_,_,hA⟩:=some3 k hk
    obtain⟨g,hg,_,_⟩:=hgood k o ho
    rw[hg]at hA
    rw[hc]at hA
    generalize ex k=x at hA ⊢
    cases hA with
    | pal _ d el z hd ho' hw h=>exact⟨rfl,o,el,ho,hd,ho'⟩
  have hpalu:∀(k k' m:Nat) (z z':List V),k<n->k'<n->oc k = .pal m z->oc k' = .pal m z'->k=k':=by
    intro k k' m z z' hk hk' h1 h2
    rcases Nat.decEq k k' with hne|he
    · exfalso
      obtain⟨_,o,_,ho,hd,_⟩:=hpald k m z hk h1
      obtain⟨_,o',_,ho',hd',_⟩:=hpald k' m z' hk' h2
      exact hdu k k' o o' m hne ho ho' hd hd'
    · exact he
  let W:Nat->Prop:=fun i=>ex i=true/\∃o:Oper,ops[i]? = some o/\(Ag P C.G o.op).cls = .k
  have seg:∀(p i:Nat),p<=i->i<=n->(∀k:Nat,p<=k->k<i->¬W k)->(sts i).J=(sts p).J/\(∀m,(∀k z,p<=k->k<i->oc k ≠ .pal m z)->look (sts i).r m=look (sts p).r m) /\
      (∀k m z,p<=k->k<i->oc k = .pal m z->look (sts i).r m=some z):=by
    intro p i
    induction i with
    | zero=>
      intro hpi _ _
      have:p=0:=by omega
      subst this
      exact⟨rfl,fun _ _=>rfl,fun k m z h1 h2=>by omega⟩
    | succ i ih=>
      intro hpi' hin hW
      by_cases hpe:p=i+1
      · subst hpe;exact⟨rfl,fun _ _=>rfl,fun k m z h1 h2=>by omega⟩
      have hpi:p<=i:=by omega
      have ih:=ih hpi
      obtain⟨h1,h2,h3⟩:=ih (by omega) (fun k hk1 hk2=>hW k hk1 (by omega))
      obtain⟨o,p',ho,_,_,_,hA⟩:=some3 i (by omega)
      obtain⟨g,hg,_,_⟩:=hgood i o ho
      rw[hg]at hA
      have same:(sts (i+1)).J=(sts i).J->(sts (i+1)).r=(sts i).r->(∀m z,oc i ≠ .pal m z)->(sts (i+1)).J=(sts p).J/\(∀m,(∀k z,p<=k->k<i+1->oc k ≠ .pal m z)->look (sts (i+1)).r m=look (sts p).r m) /\
          (∀k m z,p<=k->k<i+1->oc k = .pal m z->look (sts (i+1)).r m=some z):=by
        intro e1 e2 hnp
        refine⟨e1.trans h1,fun m hm=>by rw[e2];exact h2 m (fun k z hk1 hk2=>hm k z hk1 (by omega)),fun k m z hk1 hk2 hkc=>?_⟩
        rw[e2]
        by_cases hki:k=i
        · subst hki;exact(hnp _ _ hkc).elim
        · exact h3 k m z hk1 (by omega) hkc
      have hWi:=hW i hpi (by omega)
      generalize hoc:oc i=c at hA
      generalize hex:ex i=x at hA
      cases hA with
      | skip _ hw h=>exact same h.2.2.2 h.2.2.1 (fun m z hh=>by rw[hoc]at hh;cases hh)
      | val _ pw v r' J' hw hs hl hna h=>
        obtain⟨e1,e2⟩:=Pb hs (fun hk=>hWi ⟨hex,o,ho,hk⟩) hna
        exact same (h.2.2.2.trans e2) (h.2.2.1.trans e1) (fun m z hh=>by rw[hoc]at hh;cases hh)
      | mark _ pw id nx m off hw hs h=>exact same h.2.2.2 h.2.2.1 (fun m z hh=>by rw[hoc]at hh;cases hh)
      | pal _ d el z hd ho' hw h=>
        have hr:(sts (i+1)).r=(d,z)::Bl [d] (sts i).r:=h.2.2.1
        have hne:∀m,m≠d->look (sts (i+1)).r m=look (sts i).r m:=fun m hm=>by
          rw[hr]
          simp only[look,AV]
          rw[if_neg (Ne.symm hm),CQ,if_neg (fun hh=>hm ((Gv d m).1 hh).symm)]
        refine⟨h.2.2.2.trans h1,fun m hm=>?_,fun k m z' hk1 hk2 hkc=>?_⟩
        · have hmd:m≠d:=fun he=>hm i z hpi (by omega) (by rw[hoc,he])
          rw[hne m hmd]
          exact h2 m (fun k z hk1 hk2=>hm k z hk1 (by omega))
        · by_cases hki:k=i
          · subst hki
            rw[hoc]at hkc;cases hkc
            rw[hr];simp[look]
          · have hmd:m≠d:=fun he=>hki (hpalu k i d z' z (by omega) (by omega) (by rw[hkc,he]) hoc)
            rw[hne m hmd]
            exact h3 k m z' hk1 (by omega) hkc
  have roots:∀(i:Nat),i<=n->∀(t m off:Nat),look (sts i).q t=some (m,off)->∀k z,k<n->oc k = .pal m z->k<i:=by
    intro i
    induction i with
    | zero=>
      intro _ t m off hl k z hk hc
      exfalso
      obtain⟨_,o,el,ho,hd,hcc⟩:=hpald k m z hk hc
      obtain⟨g,hg,_,_⟩:=hgood k o ho
      have hmem:BN P C.G nt ops o∈l.flat none:=by
        rw[hflat,FA]
        exact⟨o,by simpa using Kg ho,rfl⟩
      have:=IY l none hmk _ hmem m (by rw[hg];simp only[hcc];rfl) (by rw[hg];exact hd)
      exact Lb hpo m this t off (hst0.2.1 t _ hl)
    | succ i ih=>
      intro hin t m off hl k z hk hc
      have ih:=ih (by omega)
      obtain⟨o,p',ho,_,_,_,hA⟩:=some3 i (by omega)
      generalize hoc:oc i=c at hA
      generalize hex:ex i=x at hA
      have old:∀t,look (sts i).q t=some (m,off)->k<i+1:=fun t ht=>Uj (ih t m off ht k z hk hc)
      cases hA with
      | skip _ hw h=>
        have:=h.2.1 t _ hl
        rw[CG]at this
        split at this
        · cases this
        · exact old t this
      | val _ pw v r' J' hw hs hl' hna h=>
        have:=h.2.1 t _ hl
        rw[CG]at this
        split at this
        · cases this
        · exact old t this
      | mark _ pw id nx m' off' hw hs h=>
        have:=h.2.1 t _ hl
        rw[Kn]at this
        split at this
        · simp only[AP.injEq,Prod.mk.injEq]at this
          obtain⟨rfl,rfl⟩:=this
          obtain⟨x,off2,hx⟩:=aK hs
          cases x with
          | con v=>cases hx
          | tmp u=>
            have hx:look (LX p'.looks (sts i).q) u=some (m',off2):=hx
            exact Uj (ih u m' off2 (Gw _ _ _ _ hx).1 k z hk hc)
        · rw[CG]at this
          split at this
          · cases this
          · exact old t this
      | pal _ d el z' hd ho' hw h=>
        have:=h.2.1 t _ hl
        simp only[look,AV]at this
        split at this
        · simp only[AP.injEq,Prod.mk.injEq]at this
          obtain⟨rfl,rfl⟩:=this
          have:=hpalu k i d z z' hk (by omega) hc hoc
          omega
        · have h2:=(Jw _ _ _ _ this).2
          rw[CQ]at h2
          split at h2
          · cases h2
          · exact old t h2
  have srcE:∀(i:Nat),i<=n->∀(t:Nat) (v:V),look (sts i).e t=some v->(∃(k:Nat) (o':Oper),k<i/\ops[k]? = some o'/\o'.dst=some t/\oc k = .val v)\/(look s.e t=some v/\∀(k:Nat) (o':Oper),k<i->ops[k]? = some o'->o'.dst≠some t):=by
    intro i
    induction i with
    | zero=>intro _ t v hl;exact .inr ⟨hst0.1 t v hl,fun k o' hk=>by omega⟩
    | succ i ih=>
      intro hin t v hl
      have ih:=ih (by omega)
      obtain⟨o,p',ho,_,_,_,hA⟩:=some3 i (by omega)
      obtain⟨g,hg,_,_⟩:=hgood i o ho
      rw[hg]at hA
      generalize hoc:oc i=c at hA
      generalize hex:ex i=x at hA
      have old:o.dst≠some t->look (sts i).e t=some v->(∃(k:Nat) (o':Oper),k<i+1/\ops[k]? = some o'/\o'.dst=some t/\oc k = .val v)\/(look s.e t=some v/\∀(k:Nat) (o':Oper),k<i+1->ops[k]? = some o'->o'.dst≠some t):=by
        intro hne ht
        rcases ih t v ht with ⟨k,o',h1,h2,h3,h4⟩|⟨h1,h2⟩
        · exact .inl ⟨k,o',by omega,h2,h3,h4⟩
        · refine .inr ⟨h1,fun k o' hk ho'=>?_⟩
          by_cases hki:k=i
          · subst hki;rw[ho]at ho';cases ho';exact hne
          · exact h2 k o' (by omega) ho'
      cases hA with
      | skip _ hw h=>
        have:=h.1 t _ hl
        rw[GY]at this
        split at this
        · rename_i hd;cases this;exact .inl ⟨i,o,by omega,ho,hd,hoc⟩
        · rename_i hd;exact old hd this
      | val _ pw v' r' J' hw hs hl' hna h=>
        have:=h.1 t _ hl
        rw[GY]at this
        split at this
        · rename_i hd;cases this;exact .inl ⟨i,o,by omega,ho,hd,hoc⟩
        · rename_i hd;exact old hd this
      | mark _ pw id nx m' off' hw hs h=>
        have:=h.1 t _ hl
        rw[CG]at this
        split at this
        · cases this
        · rename_i hd;exact old hd this
      | pal _ d el z' hd ho' hw h=>
        have:=h.1 t _ hl
        rw[CQ]at this
        split at this
        · cases this
        · rename_i hm
          exact old (fun hh=>hm ((Gv d t).2 (by rw[show o.dst=some d from hd]at hh;simpa using hh))) this
  have srcQ:∀(i:Nat),i<=n->∀(t m off:Nat),look (sts i).q t=some (m,off)->(∃(k:Nat) (o':Oper),k<i/\ops[k]? = some o'/\o'.dst=some t/\(oc k = .mark m off\/∃z,oc k = .pal m z/\off=0)) \/
      (look s.q t=some (m,off)/\∀(k:Nat) (o':Oper),k<i->ops[k]? = some o'->o'.dst≠some t):=by
    intro i
    induction i with
    | zero=>intro _ t m off hl;exact .inr ⟨hst0.2.1 t _ hl,fun k o' hk=>by omega⟩
    | succ i ih=>
      intro hin t m off hl
      have ih:=ih (by omega)
      obtain⟨o,p',ho,_,_,_,hA⟩:=some3 i (by omega)
      obtain⟨g,hg,_,_⟩:=hgood i o ho
      rw[hg]at hA
      generalize hoc:oc i=c at hA
      generalize hex:ex i=x at hA
      have old:o.dst≠some t->look (sts i).q t=some (m,off)->(∃(k:Nat) (o':Oper),k<i+1/\ops[k]? = some o'/\o'.dst=some t/\(oc k = .mark m off\/∃z,oc k = .pal m z/\off=0)) \/
          (look s.q t=some (m,off)/\∀(k:Nat) (o':Oper),k<i+1->ops[k]? = some o'->o'.dst≠some t):=by
        intro hne ht
        rcases ih t m off ht with ⟨k,o',h1,h2,h3,h4⟩|⟨h1,h2⟩
        · exact .inl ⟨k,o',by omega,h2,h3,h4⟩
        · refine .inr ⟨h1,fun k o' hk ho'=>?_⟩
          by_cases hki:k=i
          · subst hki;rw[ho]at ho';cases ho';exact hne
          · exact h2 k o' (by omega) ho'
      cases hA with
      | skip _ hw h=>
        have:=h.2.1 t _ hl
        rw[CG]at this
        split at this
        · cases this
        · rename_i hd;exact old hd this
      | val _ pw v' r' J' hw hs hl' hna h=>
        have:=h.2.1 t _ hl
        rw[CG]at this
        split at this
        · cases this
        · rename_i hd;exact old hd this
      | mark _ pw id nx m' off' hw hs h=>
        have:=h.2.1 t _ hl
        rw[Kn]at this
        split at this
        · rename_i hd
          simp only[AP.injEq,Prod.mk.injEq]at this
          obtain⟨rfl,rfl⟩:=this
          exact .inl ⟨i,o,by omega,ho,hd,.inl hoc⟩
        · rename_i hd
          rw[CG,if_neg hd]at this
          exact old hd this
      | pal _ d el z' hd ho' hw h=>
        have:=h.2.1 t _ hl
        simp only[look,AV]at this
        split at this
        · rename_i hdt
          simp only[AP.injEq,Prod.mk.injEq]at this
          obtain⟨rfl,rfl⟩:=this
          exact .inl ⟨i,o,by omega,ho,by rw[<-hdt];exact hd,.inr ⟨z',hoc,rfl⟩⟩
        · rename_i hdt
          have h2:=(Jw _ _ _ _ this).2
          rw[CQ]at h2
          split at h2
          · cases h2
          · exact old (fun hh=>hdt (by rw[show o.dst=some d from hd]at hh;simpa using hh)) h2
  obtain⟨Rs,Bs0,hx0,hn0,hm0,he0,hq0,hnt0,hd0⟩:=hI
  let Bi:Bs:=fun m=>if Bp l.pals m=true then none else Bs0 m
  have hpalm:∀(k m:Nat) (z:List V),k<n->oc k = .pal m z->Bp l.pals m=true:=by
    intro k m z hk hc
    obtain⟨_,o,el,ho,hd,hcc⟩:=hpald k m z hk hc
    obtain⟨g,hg,_,_⟩:=hgood k o ho
    have hmem:BN P C.G nt ops o∈l.flat none:=by
      rw[hflat,FA]
      exact⟨o,by simpa using Kg ho,rfl⟩
    exact IY l none hmk _ hmem m (by rw[hg];simp only[hcc];rfl) (by rw[hg];exact hd)
  let Inv:Array Bool->Act->World->Prop:=fun listed a w=>
    listed.size=n/\(∀(i:Nat) (o:Oper),listed.getD i false=true->ops[i]? = some o->∀ed∈o.after,Region.binds .any ed=true->listed.getD ed.on false=true)/\a.defers=[] /\
    ∃(R:Cz) (B:Bs) (p:Nat) (rL:Rg),p<=n/\(p=0\/∃j,p=j+1/\W j/\listed.getD j false=true)/\(∀j,j<n->W j->(listed.getD j false=true↔j<p))/\G8 nR R0 R/\nR<=(sts p).J.next /\
      UW C R B rL (sts p).J w/\(∀k m z,p<=k->k<n->listed.getD k false=true->oc k = .pal m z->look rL m=some z) /\
      (∀m,(∀k z,p<=k->k<n->listed.getD k false=true->oc k ≠ .pal m z)->look rL m=look (sts p).r m) /\
      (∀k m z,k<n->oc k = .pal m z->listed.getD k false=false->B m=none)/\nt<=a.tmps.size /\
      (∀(i:Nat) (o:Oper) (t:Nat),listed.getD i false=true->ops[i]? = some o->o.dst=some t->uw R B a.tmps[t]? (oc i)) /\
      (∀t v,look s.e t=some v->(∀(i:Nat) (o:Oper),listed.getD i false=true->ops[i]? = some o->o.dst≠some t)->∃x,a.tmps[t]? = some x/\Au R v=some x) /\
      (∀t m off,look s.q t=some (m,off)->(∀(i:Nat) (o:Oper),listed.getD i false=true->ops[i]? = some o->o.dst≠some t)->∃i,B m=some i/\a.tmps[t]? = some (.pointer (some ⟨i.blk,i.shift+off,none⟩)))
  have hanc:∀(listed:Array Bool),(∀(i:Nat) (o:Oper),listed.getD i false=true->ops[i]? = some o->∀ed∈o.after,Region.binds .any ed=true->listed.getD ed.on false=true) ->
      ∀(i:Nat) (o:Oper) (p:DP),ops[i]? = some o->(GS ops)[i]? = some p->(∀ed∈o.after,Region.binds .any ed=true->listed.getD ed.on false=true)->∀(k:Nat),k<n->p.anc.testBit k=true->listed.getD k false=true:=by
    intro listed hcl i
    induction i using PL with
    | _ i ih=>
      intro o p ho hp hed k hk hb
      obtain⟨ed,hem,hbe,hr⟩:=F.anc i o p ho hp k (by omega) hb
      have hlt':=F.edges i o ho ed hem hbe
      have hli:=hed ed hem hbe
      rcases hr with rfl|hr
      · exact hli
      · have hin:i<n:=hlt ho
        obtain⟨o2,p2,h1,h3,_⟩:=some3 ed.on (by omega)
        exact ih ed.on hlt' o2 p2 h1 h3 (fun ed2 hm2 hb2=>hcl ed.on o2 hli h1 ed2 hm2 hb2) k hk (by rw[<-Io h3];exact hr)
  have hready_nil:∀listed:Array Bool,listed.size=n->Region.ready .any ops listed=[]->∀k,k<n->listed.getD k false=true:=by
    intro listed hsz' hr k
    induction k using PL with
    | _ k ih=>
      intro hk
      cases hb:listed.getD k false with
      | true=>rfl
      | false=>
        exfalso
        obtain⟨o,p,h1,_⟩:=some3 k hk
        have:k∈Region.ready .any ops listed:=mem_ready.2 ⟨by rw[Di hsz' hk];exact hb,o,h1,fun ed hm hbd=>ih ed.on (F.edges k o h1 ed hm hbd) (by have:=F.edges k o h1 ed hm hbd;omega)⟩
        rw[hr]at this;cases this
  have hnone:∀(listed:Array Bool),(∀(i:Nat) (o:Oper),listed.getD i false=true->ops[i]? = some o->∀ed∈o.after,Region.binds .any ed=true->listed.getD ed.on false=true) ->
      ∀(j:Nat) (t:Nat),j<=n->(j<n->∃o p,ops[j]? = some o/\(GS ops)[j]? = some p/\listed.getD j false=false/\Bp p.looks t=true) ->
      (∀(k:Nat) (o':Oper),k<j->ops[k]? = some o'->o'.dst≠some t)->∀(i:Nat) (o:Oper),listed.getD i false=true->ops[i]? = some o->o.dst≠some t:=by
    intro listed hcl j t hj hrd hk2 i oi hli hoi hdst
    have hin:i<n:=hlt hoi
    by_cases hij:i<j
    · exact hk2 i oi hij hoi hdst
    · have hjn:j<n:=by omega
      obtain⟨o,p,ho,hp,hnl,hlook⟩:=hrd hjn
      by_cases hie:i=j
      · subst hie;rw[hnl]at hli;cases hli
      · obtain⟨o3,p3,h1,h3,_⟩:=some3 i hin
        rw[hoi]at h1;cases h1
        have hd:=(F.dsts i j oi o p3 p hie hoi ho h3 hp t hdst).2 hlook
        rcases hd with hd|hd
        · have:=F.ancLt j p hp i (by omega) hd;omega
        · have:=hanc listed hcl i oi p3 hoi h3 (fun ed hm hb=>hcl i oi hli hoi ed hm hb) j hjn hd
          rw[hnl]at this;cases this
  have hwritten:∀(listed:Array Bool),(∀(i:Nat) (o:Oper),listed.getD i false=true->ops[i]? = some o->∀ed∈o.after,Region.binds .any ed=true->listed.getD ed.on false=true) ->
      ∀(j t k:Nat) (ok:Oper),j<=n->(j=n->∀k,k<n->listed.getD k false=true)->(j<n->∃o p,ops[j]? = some o/\(GS ops)[j]? = some p/\Bp p.looks t=true/\(∀ed∈o.after,Region.binds .any ed=true->listed.getD ed.on false=true)) ->
      k<j->ops[k]? = some ok->ok.dst=some t->listed.getD k false=true:=by
    intro listed hcl j t k ok hj hall hrd hk hok' hdst
    by_cases hjn:j<n
    · obtain⟨o,p,ho,hp,hlook,hed⟩:=hrd hjn
      obtain⟨o3,p3,h1,h3,_⟩:=some3 k (by omega)
      rw[hok']at h1;cases h1
      have hd:=(F.dsts k j ok o p3 p (by omega) hok' ho h3 hp t hdst).2 hlook
      rcases hd with hd|hd
      · exact hanc listed hcl j o p ho hp hed k (by omega) hd
      · have:=F.ancLt k p3 h3 j (by omega) hd;omega
    · exact hall (by omega) k (by omega)
  have hput:∀(a:Act) (d:Option Nat) (x:Value) (t:Nat),d≠some t->(a.put d x).tmps[t]? = a.tmps[t]? := by
    intro a d x t hne
    cases d with
    | none=>rfl
    | some d=>
      simp only[Act.put,BE]
      rw[if_neg (fun h=>hne (by rw[h]))]
  have hputsz:∀(a:Act) (d:Option Nat) (x:Value),(a.put d x).tmps.size=a.tmps.size:=by
    intro a d x;cases d<;>simp[Act.put]
  have hclsk:∀(listed:Array Bool),(∀(i:Nat) (o:Oper),listed.getD i false=true->ops[i]? = some o->∀ed∈o.after,Region.binds .any ed=true->listed.getD ed.on false=true) ->
      ∀(i:Nat) (o:Oper),ops[i]? = some o->listed.getD i false=false->(∀ed∈o.after,Region.binds .any ed=true->listed.getD ed.on false=true)->∀j,j<n->W j ->
        ((Ag P C.G o.op).cls = .k->(j<i->listed.getD j false=true)/\(i<j->listed.getD j false=false)) /\
        ((Ag P C.G o.op).cls = .l->(j<i->listed.getD j false=true)/\(i<j->listed.getD j false=false)) /\
        ((Ag P C.G o.op).cls = .a->(i<j->listed.getD j false=false)):=by
    intro listed hcl i o ho hnl hed j hj hWj
    obtain⟨hexj,oj,hoj,hcj⟩:=hWj
    have hi:i<n:=hlt ho
    obtain⟨o1,p1,e1,e2,e3,e4,_⟩:=some3 i hi
    rw[ho]at e1;cases e1
    obtain⟨o2,p2,f1,f2,f3,f4,_⟩:=some3 j hj
    rw[hoj]at f1;cases f1
    obtain⟨g1,hg1,_⟩:=hgood i o ho
    obtain⟨g2,hg2,_⟩:=hgood j oj hoj
    have hup:∀k,k<n->p1.anc.testBit k=true->listed.getD k false=true:=hanc listed hcl i o p1 ho e2 hed
    have hdown:p2.anc.testBit i=true->listed.getD j false=false:=by
      intro hb
      cases hlj:listed.getD j false with
      | false=>rfl
      | true=>
        exfalso
        have:=hanc listed hcl j oj p2 hoj f2 (fun ed hm hb=>hcl j oj hlj hoj ed hm hb) i hi hb
        rw[hnl]at this;cases this
    have hl1:(ops.toList.map (BN P C.G nt ops))[i]? = some (BN P C.G nt ops o):=by rw[<-hflat];exact e4
    have hl2:(ops.toList.map (BN P C.G nt ops))[j]? = some (BN P C.G nt ops oj):=by rw[<-hflat];exact f4
    have hkj:(BN P C.G nt ops oj).op.cls = .k:=by rw[hg2];exact hcj
    have hdoj:=HQ hdo j (by rw[hfl1];omega)
    rw[f4]at hdoj
    simp only[hkj]at hdoj
    have hdoji:=HQ hdoj i (by rw[hfl1];omega)
    rw[e4]at hdoji
    rw[e3,f3]at hdoji
    refine⟨fun hk=>?_,fun hk=>?_,fun hk=>?_⟩
    · have hki:(BN P C.G nt ops o).op.cls = .k:=by rw[hg1];exact hk
      exact⟨fun hji=>hup j hj (F.kk j i _ _ p1 hji hl2 hl1 e2 hkj hki),fun hij=>hdown (F.kk i j _ _ p2 hij hl1 hl2 f2 hki hkj)⟩
    · have hki:(BN P C.G nt ops o).op.cls = .l:=by rw[hg1];exact hk
      simp only[hki,CB]at hdoji
      rcases hdoji with hb|hb
      · have:=F.ancLt i p1 e2 j (by omega) hb
        exact⟨fun _=>hup j hj hb,fun hij=>by omega⟩
      · have:=F.ancLt j p2 f2 i (by omega) hb
        exact⟨fun hji=>by omega,fun _=>hdown hb⟩
    · have hki:(BN P C.G nt ops o).op.cls = .a:=by rw[hg1];exact hk
      simp only[hki,CB,C4]at hdoji
      intro hij
      rcases hdoji with hb|hb
      · have:DQ i j=true:=by simpa using hij
        rw[this]at hb;cases hb
      · exact hdown hb
  have hallk:∀(listed:Array Bool),(∀(i:Nat) (o:Oper),listed.getD i false=true->ops[i]? = some o->∀ed∈o.after,Region.binds .any ed=true->listed.getD ed.on false=true) ->
      ∀(i:Nat) (o:Oper),ops[i]? = some o->(∀ed∈o.after,Region.binds .any ed=true->listed.getD ed.on false=true)->(Ag P C.G o.op).cls = .k->∀k m z,k<i->oc k = .pal m z->listed.getD k false=true:=by
    intro listed hcl i o ho hed hk k m z hki hc
    have hi:i<n:=hlt ho
    obtain⟨o1,p1,e1,e2,e3,e4,_⟩:=some3 i hi
    rw[ho]at e1;cases e1
    obtain⟨g1,hg1,_⟩:=hgood i o ho
    obtain⟨_,ok,el,hok',hdk,hck⟩:=hpald k m z (by omega) hc
    obtain⟨o2,p2,f1,f2,f3,f4,_⟩:=some3 k (by omega)
    rw[hok']at f1;cases f1
    obtain⟨g2,hg2,_⟩:=hgood k ok hok'
    have hkk:(BN P C.G nt ops o).op.cls = .k:=by rw[hg1];exact hk
    have hdoj:=HQ hdo i (by rw[hfl1];omega)
    rw[e4]at hdoj
    simp only[hkk]at hdoj
    have hdoji:=HQ hdoj k (by rw[hfl1];omega)
    rw[f4]at hdoji
    have hka:(BN P C.G nt ops ok).op.cls = .a:=by rw[hg2];simp only[hck];rfl
    rw[e3]at hdoji
    simp only[hka,CB,C4]at hdoji
    rcases hdoji with hb|hb
    · have:DQ k i=true:=by simpa using hki
      rw[this]at hb;cases hb
    · exact hanc listed hcl i o p1 ho e2 hed k (by omega) hb
  have hfin:∀listed a w,Inv listed a w->(∀k,k<n->listed.getD k false=true)->Q .normal a w:=by
    intro listed a w hI hall
    obtain⟨hls,hcl,hd,R,B,p,rL,hpn,hp0,hpw,hx,hnp,hmem,hr1,hr2,hbs,htsz,hw,hu,hqq⟩:=hI
    have hnW:∀k,p<=k->k<n->¬W k:=fun k h1 h2 hW=>by have:=(hpw k h2 hW).1 (hall k h2);omega
    obtain⟨s1,s2,s3⟩:=seg p n hpn (AN _) hnW
    have hrr:∀m,look rL m=look (sts n).r m:=by
      intro m
      by_cases hex2:∃k z,p<=k/\k<n/\oc k = .pal m z
      · obtain⟨k,z,h1,h2,h3⟩:=hex2
        rw[hr1 k m z h1 h2 (hall k h2) h3,s3 k m z h1 h2 h3]
      · have hno:∀k z,p<=k->k<n->oc k ≠ .pal m z:=fun k z h1 h2 h3=>hex2 ⟨k,z,h1,h2,h3⟩
        rw[hr2 m (fun k z h1 h2 _=>hno k z h1 h2),s2 m hno]
    rw[hs']at hκ
    refine hQ (sts n) a w hκ ⟨R,B,hx,by rw[s1];exact hnp,⟨by rw[s1];exact hmem.rel,⟨fun m i hm=>?_,hmem.priv.inj,by rw[s1];exact hmem.priv.apart⟩⟩,⟨fun t v hv=>?_⟩,⟨fun t m off hv=>?_⟩,htsz,hd⟩
    · obtain⟨h1,l',h2,h3⟩:=hmem.priv.at_ m i hm
      exact⟨h1,l',by rw[<-hrr];exact h2,h3⟩
    · rcases srcE n (AN _) t v hv with ⟨k,o',h1,h2,h3,h4⟩ | ⟨h1,h2⟩
      · have:=hw k o' t (hall k h1) h2 h3
        rw[h4]at this;exact this
      · exact hu t v h1 (hnone listed hcl n t (AN _) (fun h=>by omega) h2)
    · rcases srcQ n (AN _) t m off hv with ⟨k,o',h1,h2,h3,h4⟩ | ⟨h1,h2⟩
      · have:=hw k o' t (hall k h1) h2 h3
        rcases h4 with h4|⟨z,h4,rfl⟩
        · rw[h4]at this;exact this
        · rw[h4]at this;exact this
      · exact hqq t m off h1 (hnone listed hcl n t (AN _) (fun h=>by omega) h2)
  have hstep:∀listed a w,Inv listed a w->∀i,i∈Region.ready .any ops listed->∀K:Act->World->Prop,(∀a' w',Inv (listed.setIfInBounds i true) a' w'->K a' w')->wpOp P ops Q i K a w:=by
    intro listed a w hI i hi K hK
    obtain⟨hls,hcl,hd,R,B,p,rL,hpn,hp0,hpw,hx,hnp,hmem,hr1,hr2,hbs,htsz,hw,hu,hqq⟩:=hI
    obtain⟨hli,o,ho,hed⟩:=mem_ready.1 hi
    have hin:i<n:=hlt ho
    have hnl:listed.getD i false=false:=by rw[<-Di hls hin];exact hli
    obtain⟨o2,pi,ho2,hpi,_,_,hA⟩:=some3 i hin
    rw[ho]at ho2;cases ho2
    obtain⟨g,hg,hcg,hdok⟩:=hgood i o ho
    rw[hg]at hA
    have hsz':i<listed.size:=by omega
    have hLs:∀k,(listed.setIfInBounds i true).getD k false=(decide (k=i) || listed.getD k false):=fun k=>IX hsz'
    have hLi:(listed.setIfInBounds i true).getD i false=true:=by rw[hLs];simp
    have hLo:∀k,k≠i->(listed.setIfInBounds i true).getD k false=listed.getD k false:=fun k hk=>by rw[hLs];simp[hk]
    have hclk:=hclsk listed hcl i o ho hnl hed
    have hmw:=hmem.rel
    have hem:HR R (D4 true pi.looks (sts i).e) a.tmps:=by
      refine⟨fun t v hv=>?_⟩
      obtain⟨ht,hmemt⟩:=GX _ _ _ _ hv
      rcases srcE i (by omega) t v ht with ⟨k,o',h1,h2,h3,h4⟩|⟨h1,h2⟩
      · have:=hw k o' t (hwritten listed hcl i t k o' (by omega) (fun h=>by omega) (fun _=>⟨o,pi,ho,hpi,hmemt,hed⟩) h1 h2 h3) h2 h3
        rw[h4]at this;exact this
      · exact hu t v h1 (hnone listed hcl i t (by omega) (fun _=>⟨o,pi,ho,hpi,hnl,hmemt⟩) h2)
    have hqm:UU B (LB true pi.looks (sts i).q) a.tmps:=by
      refine⟨fun t m off hv=>?_⟩
      obtain⟨ht,hmemt⟩:=Gw _ _ _ _ hv
      rcases srcQ i (by omega) t m off ht with ⟨k,o',h1,h2,h3,h4⟩|⟨h1,h2⟩
      · have:=hw k o' t (hwritten listed hcl i t k o' (by omega) (fun h=>by omega) (fun _=>⟨o,pi,ho,hpi,hmemt,hed⟩) h1 h2 h3) h2 h3
        rcases h4 with h4|⟨z,h4,rfl⟩
        · rw[h4]at this;exact this
        · rw[h4]at this;exact this
      · exact hqq t m off h1 (hnone listed hcl i t (by omega) (fun _=>⟨o,pi,ho,hpi,hnl,hmemt⟩) h2)
    have mk:∀(R':Cz) (B':Bs) (p':Nat) (rL':Rg) (w':World) (x:Value),p'<=n->(p'=0\/∃j,p'=j+1/\W j/\(listed.setIfInBounds i true).getD j false=true) ->
        (∀j,j<n->W j->((listed.setIfInBounds i true).getD j false=true↔j<p'))->G8 nR R0 R'->nR<=(sts p').J.next->UW C R' B' rL' (sts p').J w' ->
        (∀k m z,p'<=k->k<n->(listed.setIfInBounds i true).getD k false=true->oc k = .pal m z->look rL' m=some z) ->
        (∀m,(∀k z,p'<=k->k<n->(listed.setIfInBounds i true).getD k false=true->oc k ≠ .pal m z)->look rL' m=look (sts p').r m) ->
        (∀k m z,k<n->oc k = .pal m z->(listed.setIfInBounds i true).getD k false=false->B' m=none)->Le R R'->(∀m b,B m=some b->B' m=some b) ->
        (∀t,o.dst=some t->uw R' B' (some x) (oc i))->K (a.put o.dst x) w':=by
      intro R' B' p' rL' w' x h1 h2 h3 h4 h5 h6 h7 h8 h9 h10 h11 h12
      refine hK _ _ ⟨by rw[Dx];exact hls,?_,by rw[Ev];exact hd,R',B',p',rL',h1,h2,h3,h4,h5,h6,h7,h8,h9,by rw[hputsz];exact htsz,?_,?_,?_⟩
      · intro i' o' hi' ho' ed hm' hb'
        rw[hLs]at hi' ⊢
        simp only[CB,decide_eq_true_eq]at hi' ⊢
        rcases hi' with rfl|hi'
        · rw[ho]at ho';cases ho'
          exact .inr (hed ed hm' hb')
        · exact .inr (hcl i' o' hi' ho' ed hm' hb')
      · intro i' o' t hi' ho' hdt
        rw[hLs]at hi'
        simp only[CB,decide_eq_true_eq]at hi'
        by_cases he:i'=i
        · subst he
          rw[ho]at ho';cases ho'
          have:=h12 t hdt
          have htl:t<a.tmps.size:=Bg (hdlt i' o t ho hdt) htsz
          have hpt:(a.put o.dst x).tmps[t]? = some x:=by rw[hdt];simp[Act.put,BE,htl]
          rw[hpt];exact this
        · have:=hw i' o' t (hi'.resolve_left he) ho' hdt
          rw[hput a o.dst x t (hdu i' i o' o t he ho' ho hdt)]
          exact this.mono h10 h11
      · intro t v hv hno
        rw[hput a o.dst x t (hno i o hLi ho)]
        obtain⟨y,hy1,hy2⟩:=hu t v hv (fun i' o' hi' ho'=>hno i' o' (by rw[hLs,hi'];simp) ho')
        exact⟨y,hy1,Cq h10 v y hy2⟩
      · intro t m off hv hno
        rw[hput a o.dst x t (hno i o hLi ho)]
        obtain⟨b,hb1,hb2⟩:=hqq t m off hv (fun i' o' hi' ho'=>hno i' o' (by rw[hLs,hi'];simp) ho')
        exact⟨b,h11 m b hb1,hb2⟩
    have mk0:∀(R':Cz) (w':World) (x:Value),¬W i->(∀m z,oc i ≠ .pal m z)->G8 nR R0 R'->UW C R' B rL (sts p).J w'->Le R R'->(∀t,o.dst=some t->uw R' B (some x) (oc i))->K (a.put o.dst x) w':=by
      intro R' w' x hnW hnp' h1 h2 h3 h4
      refine mk R' B p rL w' x hpn ?_ ?_ h1 hnp h2 ?_ ?_ ?_ h3 (fun _ _ h=>h) h4
      · rcases hp0 with h | ⟨j,h5,h6,h7⟩
        · exact .inl h
        · exact .inr ⟨j,h5,h6,by rw[hLs,h7];simp⟩
      · intro j hj hWj
        by_cases hji:j=i
        · subst hji;exact(hnW hWj).elim
        · rw[hLo j hji];exact hpw j hj hWj
      · intro k m z hk1 hk2 hk3 hk4
        by_cases hki:k=i
        · subst hki;exact(hnp' m z hk4).elim
        · rw[hLo k hki]at hk3;exact hr1 k m z hk1 hk2 hk3 hk4
      · intro m hm
        refine hr2 m (fun k z hk1 hk2 hk3=>?_)
        exact hm k z hk1 hk2 (by rw[hLs,hk3];simp)
      · intro k m z hk1 hk2 hk3
        by_cases hki:k=i
        · subst hki;rw[hLi]at hk3;cases hk3
        · rw[hLo k hki]at hk3;exact hbs k m z hk1 hk2 hk3
    have hext:∀R',(∀k,k<(sts p).J.next->k≠(sts p).J.next->R' k=R k)->G8 nR R0 R':=fun R' hk k hkn=>by rw[hk k (by omega) (by omega)];exact hx k hkn
    have hpi':(∀j,j<n->W j->i<j->listed.getD j false=false)->p<=i:=by
      intro hno
      rcases hp0 with h|⟨j,h1,h2,h3⟩
      · omega
      · rcases AFK j i with h4 | h4 | h4
        · omega
        · subst h4;rw[hnl]at h3;cases h3
        · have hW:=h2
          obtain⟨_,oj,hoj,_⟩:=h2
          rw[hno j (hlt hoj) hW h4]at h3;cases h3
    have hnoW:(∀j,j<n->W j->j<i->listed.getD j false=true)->∀k,p<=k->k<i->¬W k:=by
      intro hyes k hk1 hk2 hWk
      have:=(hpw k (by omega) hWk).1 (hyes k (by omega) hWk hk2)
      omega
    have hsame:p<=i->(∀k,p<=k->k<i->¬W k)->(sts i).J=(sts p).J/\∀x m off,Fh (LB true pi.looks (sts i).q) x=some (m,off)->look rL m=look (sts i).r m:=by
      intro hpi2 hnW
      obtain⟨s1,s2,s3⟩:=seg p i hpi2 (by omega) hnW
      refine⟨s1,fun x m off hmx=>?_⟩
      cases x with
      | con v=>cases hmx
      | tmp u=>
        have hmx:look (LB true pi.looks (sts i).q) u=some (m,off):=hmx
        obtain⟨b,hb,_⟩:=hqm.at_ u m off hmx
        have hroot:=roots i (by omega) u m off (Gw _ _ _ _ hmx).1
        by_cases hex2:∃k z,p<=k/\k<i/\oc k = .pal m z
        · obtain⟨k,z,h1,h2,h3⟩:=hex2
          have hlk:listed.getD k false=true:=by
            cases hlk:listed.getD k false with
            | true=>rfl
            | false=>have:=hbs k m z (by omega) h3 hlk;rw[hb]at this;cases this
          rw[hr1 k m z h1 (by omega) hlk h3,s3 k m z h1 h2 h3]
        · have hno:∀k z,p<=k->k<i->oc k ≠ .pal m z:=fun k z h1 h2 h3=>hex2 ⟨k,z,h1,h2,h3⟩
          rw[hr2 m (fun k z h1 h2 _ h3=>hno k z h1 (hroot k z h2 h3) h3),s2 m hno]
    have hgl:=hmw.globOk
    unfold wpOp
    rw[ho]
    simp only
    generalize hoc:oc i=c at hA
    generalize hexi:ex i=xx at hA
    cases hA with
    | skip _ hwn h=>
      rw[if_neg (by rw[DW hem.env hcg hwn];simp)]
      exact mk0 R w undef (fun hW=>by have h9:=hW.1;rw[hexi]at h9;cases h9) (fun m z hh=>by rw[hoc]at hh;cases hh) hx hmem (Le.refl _) (fun t _=>by rw[hoc];exact⟨_,rfl,rfl⟩)
    | mark _ pw id nx m off hwn hs h=>
      rw[if_pos (DW hem.env hcg hwn)]
      left
      have hs2:GK C.E D pw (sts p).J.next ((sts p).J.next+1) (Ag P C.G o.op) (D4 true pi.looks (sts i).e) (LB true pi.looks (sts i).q) rL (sts p).J (.mark m off):=dW hs
      refine MF hD hmem hem hqm o (hmw.fresh _ (AN _)) (Bz _) (Ec _) hs2 K Q (fun v2 r2 J2 heq=>by cases heq) (fun m2 off2 heq b hb=>?_)
      cases heq
      refine mk0 R w _ (fun hW=>?_) (fun m z hh=>by rw[hoc]at hh;cases hh) hx hmem (Le.refl _) (fun t _=>by rw[hoc];exact⟨b,hb,rfl⟩)
      obtain⟨_,o3,ho3,hc3⟩:=hW
      rw[ho]at ho3;cases ho3
      cases hs with
      | mv x _ _ hoo _=>have hoo:Ag P C.G o.op=_\/Ag P C.G o.op=_:=hoo;rcases hoo with hoo | hoo<;>(rw[hoo]at hc3;cases hc3)
      | fa d x _ _ hoo _=>have hoo:Ag P C.G o.op=_:=hoo;rw[hoo]at hc3;cases hc3
    | pal _ d el z hdd hoo hwn h=>
      rw[if_pos (DW hem.env hcg hwn)]
      left
      have hoo:Ag P C.G o.op = .alloc el z:=hoo
      have hdd:o.dst=some d:=hdd
      have hca:(Ag P C.G o.op).cls = .a:=by rw[hoo];rfl
      have hple:=hpi' (fun j hj hW hij=>(hclk j hj hW).2.2 hca hij)
      have hBd:B d=none:=hbs i d z hin hoc hnl
      refine dJ hmem o (d:=d) hoo K Q (fun b w' hmem'=>?_)
      refine mk R (fun m=>if m=d then some b else B m) p ((d,z)::Bl [d] rL) w' _ hpn ?_ ?_ hx hnp hmem' ?_ ?_ ?_ (Le.refl _) (fun m b' hb'=>?_) (fun t _=>?_)
      · rcases hp0 with h | ⟨j,h5,h6,h7⟩
        · exact .inl h
        · exact .inr ⟨j,h5,h6,by rw[hLs,h7];simp⟩
      · intro j hj hWj
        by_cases hji:j=i
        · subst hji
          obtain⟨_,o3,ho3,hc3⟩:=hWj
          rw[ho]at ho3;cases ho3
          rw[hca]at hc3;cases hc3
        · rw[hLo j hji];exact hpw j hj hWj
      · intro k m z' hk1 hk2 hk3 hk4
        by_cases hki:k=i
        · subst hki;rw[hoc]at hk4;cases hk4;simp[look]
        · rw[hLo k hki]at hk3
          have hmd:¬d=m:=fun he=>hki (hpalu k i m z' z hk2 hin hk4 (by rw[hoc,he]))
          simp only[look,AV]
          rw[if_neg hmd,CQ,if_neg (fun hh=>hmd ((Gv d m).1 hh))]
          exact hr1 k m z' hk1 hk2 hk3 hk4
      · intro m hm
        have hmd:¬d=m:=fun he=>hm i z hple hin hLi (by rw[hoc,he])
        simp only[look,AV]
        rw[if_neg hmd,CQ,if_neg (fun hh=>hmd ((Gv d m).1 hh))]
        exact hr2 m (fun k z' hk1 hk2 hk3=>hm k z' hk1 hk2 (by rw[hLs,hk3];simp))
      · intro k m z' hk1 hk2 hk3
        by_cases hki:k=i
        · subst hki;rw[hLi]at hk3;cases hk3
        · rw[hLo k hki]at hk3
          have hmd:¬m=d:=fun he=>hki (hpalu k i m z' z hk1 hin hk2 (by rw[hoc,he]))
          rw[if_neg hmd];exact hbs k m z' hk1 hk2 hk3
      · by_cases hmd:m=d
        · subst hmd;rw[hBd]at hb';cases hb'
        · rw[if_neg hmd];exact hb'
      · rw[hoc];exact⟨b,by simp,rfl⟩
    | val _ pw v r' J' hwn hs hl' hna h=>
      rw[if_pos (DW hem.env hcg hwn)]
      left
      have hs:GK C.E D pw (sts i).J.next ((sts i).J.next+1) (Ag P C.G o.op) (D4 true pi.looks (sts i).e) (LB true pi.looks (sts i).q) (sts i).r (sts i).J (.val v r' J'):=hs
      have hl':o.dst=none\/v.live=true\/(Ag P C.G o.op).cls ≠ .k:=hl'
      have hna:(Ag P C.G o.op).cls ≠ .a:=hna
      have htok:∀(R':Cz) (x:Value),((v = .dead/\(Ag P C.G o.op).cls = .k)\/Au R' v=some x)->∀t,o.dst=some t->uw R' B (some x) (oc i):=by
        intro R' x hv t ht
        rw[hoc]
        refine⟨x,rfl,?_⟩
        rcases hv with ⟨rfl,hc⟩|hv
        · rcases hl' with h | h | h
          · rw[ht]at h;cases h
          · cases h
          · exact(h hc).elim
        · exact hv
      by_cases hck:(Ag P C.G o.op).cls = .k
      ·
        have hWi:W i:=⟨hexi,o,ho,hck⟩
        have hple:=hpi' (fun j hj hW hij=>((hclk j hj hW).1 hck).2 hij)
        have hnW:=hnoW (fun j hj hW hji=>((hclk j hj hW).1 hck).1 hji)
        obtain⟨hσ,hrm⟩:=hsame hple hnW
        obtain⟨s1,s2,s3⟩:=seg p i hple (by omega) hnW
        rw[hσ]at hs
        obtain⟨rL',hs2,hrel⟩:=Rz (rL:=rL) hs hrm
        refine MF hD hmem hem hqm o (hmw.fresh _ (AN _)) (Bz _) (Ec _) hs2 K Q (fun v2 r2 J2 heq R' w' x hle hk hn' hmem' hv=>?_) (fun m off heq=>by cases heq)
        cases heq
        have hσ':(sts (i+1)).J=J':=h.2.2.2
        have hr':(sts (i+1)).r=r':=h.2.2.1
        have hall:=hallk listed hcl i o ho hed hck
        have hold:∀m,(∀k z,i<=k->k<n->(listed.setIfInBounds i true).getD k false=true->oc k ≠ .pal m z)->look rL m=look (sts i).r m:=by
          intro m hm
          by_cases hex2:∃k z,p<=k/\k<i/\oc k = .pal m z
          · obtain⟨k,z,h1,h2,h3⟩:=hex2
            rw[hr1 k m z h1 (by omega) (hall k m z h2 h3) h3,s3 k m z h1 h2 h3]
          · have hno:∀k z,p<=k->k<i->oc k ≠ .pal m z:=fun k z h1 h2 h3=>hex2 ⟨k,z,h1,h2,h3⟩
            rw[hr2 m (fun k z h1 h2 h3 h4=>?_),s2 m hno]
            rcases Al k i with h5|h5
            · exact hno k z h1 h5 h4
            · exact hm k z h5 h2 (by rw[hLs,h3];simp) h4
        have hmroot:∀x m off,Fh (LB true pi.looks (sts i).q) x=some (m,off)->∀k z,k<n->oc k = .pal m z->k<i:=by
          intro x m off hmx
          cases x with
          | con v=>cases hmx
          | tmp u=>
            have hmx:look (LB true pi.looks (sts i).q) u=some (m,off):=hmx
            exact roots i (by omega) u m off (Gw _ _ _ _ hmx).1
        refine mk R' B (i+1) rL' w' x (by omega) (.inr ⟨i,rfl,hWi,hLi⟩) ?_ (hext R' hk) (by rw[hσ'];omega) (by rw[hσ'];exact hmem') ?_ ?_ ?_ hle (fun _ _ h=>h) (htok R' x hv)
        · intro j hj hWj
          by_cases hji:j=i
          · subst hji;rw[hLi];simp
          · rw[hLo j hji]
            rcases AFK j i with h4|h4|h4
            · rw[((hclk j hj hWj).1 hck).1 h4];simp;omega
            · exact(hji h4).elim
            · rw[((hclk j hj hWj).1 hck).2 h4];simp;omega
        · intro k m z hk1 hk2 hk3 hk4
          have hk3':listed.getD k false=true:=by rw[hLo k (by omega)]at hk3;exact hk3
          have hb:=hr1 k m z (by omega) hk2 hk3' hk4
          rcases hrel with ⟨_,h6⟩|⟨x',m',off',c',l',h6,h7,_,h8⟩
          · rw[h6];exact hb
          · rw[h8]
            have hne:¬m'=m:=fun he=>by have:=hmroot x' m' off' h6 k z hk2 (by rw[he];exact hk4);omega
            rw[Hj (by rw[hrm x' m' off' h6];exact h7),if_neg hne];exact hb
        · intro m hm
          have hb:=hold m (fun k z hk1 hk2 hk3 hk4=>by
            rcases Nat.eq_or_lt_of_le hk1 with h5|h5
            · subst h5;rw[hoc]at hk4;cases hk4
            · exact hm k z (by omega) hk2 hk3 hk4)
          rw[hr']
          rcases hrel with ⟨h5,h6⟩|⟨x',m',off',c',l',h6,h7,h8,h9⟩
          · rw[h5,h6];exact hb
          · rw[h8,h9,Hj (by rw[hrm x' m' off' h6];exact h7),Hj h7,hb]
        · intro k m z hk1 hk2 hk3
          by_cases hki:k=i
          · subst hki;rw[hLi]at hk3;cases hk3
          · rw[hLo k hki]at hk3;exact hbs k m z hk1 hk2 hk3
      ·
        have hnWi:¬W i:=fun hW=>by
          obtain⟨_,o3,ho3,hc3⟩:=hW
          rw[ho]at ho3;cases ho3
          exact hck hc3
        have go:GK C.E D pw (sts p).J.next ((sts p).J.next+1) (Ag P C.G o.op) (D4 true pi.looks (sts i).e) (LB true pi.looks (sts i).q) rL (sts p).J (.val v rL (sts p).J)->o.wp P a w K Q:=by
          intro hs2
          refine MF hD hmem hem hqm o (hmw.fresh _ (AN _)) (Bz _) (Ec _) hs2 K Q (fun v2 r2 J2 heq R' w' x hle hk hn' hmem' hv=>?_) (fun m off heq=>by cases heq)
          cases heq
          exact mk0 R' w' x hnWi (fun m z hh=>by rw[hoc]at hh;cases hh) (hext R' hk) hmem' hle (htok R' x hv)
        cases hcls:(Ag P C.G o.op).cls with
        | k=>exact(hck hcls).elim
        | a=>exact(hna hcls).elim
        | p=>
          refine go ?_
          cases hs with
          | p _ hc h9=>exact .p v hc h9
          | l _ hc h9=>rw[hcls]at hc;cases hc
          | a _ b hc h9=>rw[hcls]at hc;cases hc
          | k _ J1 _ hc h hs=>rw[hcls]at hc;cases hc
          | ld x m off l _ hoo hm hl h=>rw[hoo]at hcls;cases hcls
          | ldn n x m off l hoo hm hl h=>rw[hoo]at hcls;cases hcls
          | st n x y m off l cs u hw hoo hm hl hn hu hlu hcs h1 hlen h=>rw[hoo]at hcls;cases hcls
        | l=>
          have hple:=hpi' (fun j hj hW hij=>((hclk j hj hW).2.1 hcls).2 hij)
          have hnW:=hnoW (fun j hj hW hji=>((hclk j hj hW).2.1 hcls).1 hji)
          obtain⟨hσ,hrm⟩:=hsame hple hnW
          rw[hσ]at hs
          obtain⟨rL',hs2,_⟩:=Rz (rL:=rL) hs hrm
          obtain⟨e1,e2⟩:=Pb hs2 hck hna
          rw[e1,e2]at hs2
          exact go hs2
  have hany:∀fuel listed a w,Inv listed a w->(Cj n).countP (fun k=>!listed.getD k false)<=fuel->wpAny P .any ops Q fuel listed a w:=by
    intro fuel
    induction fuel with
    | zero=>
      intro listed a w hI hcnt
      have hall:∀k,k<n->listed.getD k false=true:=by
        intro k hk
        have h0:(Cj n).countP (fun k=>!listed.getD k false)=0:=by omega
        have:=List.countP_eq_zero.1 h0 k (MC.2 hk)
        simpa using this
      refine⟨?_,hfin listed a w hI hall⟩
      apply Yi.2
      intro j hj
      obtain⟨h1,o,h2,_⟩:=mem_ready.1 hj
      have hjn:j<n:=hlt h2
      rw[Di hI.1 hjn,hall j hjn]at h1
      cases h1
    | succ fuel ih=>
      intro listed a w hI hcnt
      refine⟨fun hr=>hfin listed a w hI (hready_nil listed hI.1 hr),fun i hi=>?_⟩
      have hin:i<n:=by
        obtain⟨_,o,h2,_⟩:=mem_ready.1 hi
        exact hlt h2
      have hnl:listed.getD i false=false:=by rw[<-Di hI.1 hin];exact(mem_ready.1 hi).1
      refine hstep listed a w hI i hi _ (fun a' w' hI'=>ih _ a' w' hI' ?_)
      have hsz':i<listed.size:=by rw[hI.1];exact hin
      have:=Wv (p:=fun k=>!(listed.setIfInBounds i true).getD k false) (q:=fun k=>!listed.getD k false) (fun k hk=>by
        simp only[C4]at hk ⊢
        rw[IX hsz']at hk
        simp only[B2]at hk
        exact hk.2) (i:=i) (by simp only[hnl];rfl) (by simp only[IX hsz'];simp) (Cj n) (MC.2 hin)
      omega
  refine wp_region_any hmix ?_
  rw[hnn]
  have hrepl:∀k,(HE n false).getD k false=false:=fun k=>by
    simp only[EF,AI5]
    split<;>rfl
  refine hany n _ a0 _ ⟨by simp,?_,hd0,Rs,Bi,0,s.r,CH _,.inl rfl,?_,hx0,by rw[hst0.2.2.2];exact hn0,?_,?_,?_,?_,hnt0,?_,?_,?_⟩ ?_
  · intro i o hi;rw[hrepl]at hi;cases hi
  · intro j hj hW;rw[hrepl];simp
  · rw[hst0.2.2.2]
    refine⟨hm0.rel.drawn _,⟨fun m i hm=>?_,fun m m' i i' hm hm' hb=>?_,fun m i hm=>?_⟩⟩
    · simp only[Bi]at hm
      split at hm
      · cases hm
      · exact hm0.priv.at_ m i hm
    · simp only[Bi]at hm hm'
      split at hm
      · cases hm
      · split at hm'
        · cases hm'
        · exact hm0.priv.inj m m' i i' hm hm' hb
    · simp only[Bi]at hm
      split at hm
      · cases hm
      · exact hm0.priv.apart m i hm
  · intro k m z h1 h2 h3;rw[hrepl]at h3;cases h3
  · intro m _;rw[hst0.2.2.1]
  · intro k m z h1 h2 _
    simp only[Bi]
    rw[if_pos (hpalm k m z h1 h2)]
  · intro i o t hi;rw[hrepl]at hi;cases hi
  · intro t v hv _;exact he0.at_ t v hv
  · intro t m off hv _
    obtain⟨i,h1,h2⟩:=hq0.at_ t m off hv
    refine⟨i,?_,h2⟩
    simp only[Bi]
    rw[if_neg (fun hh=>Lb hpo m hh t off hv)]
    exact h1
  · refine Ae (List.countP_le_length) (by simp)
end Go.Og
namespace Go.Og
variable {P:Program} {D:Az} {C:Cx}
theorem Gx {α:Type}:∀{l:List (Nat × α)} {k:Nat} {a:α},look l k=some a->(k,a)∈l
 | [],k,a,h=>by simp[look]at h
 | (m,b)::l,k,a,h=>by
  simp only[look,AV]at h
  split at h
  ·rename_i he;subst he;cases h;exact BZ
  ·exact ED _ (Gx h)
theorem QH {e:CF}:∀(ts:List (Nat × DM)) (U:CF->AH) (res:V × H),Y8 e ts U=some res->∃e',(∀t v,look e' t=some v->look e t=some v)/\U e'=some res
 | [],U,res,h=>⟨[],fun t v hv=>by simp[look]at hv,h⟩
 | (t,ty)::l,U,res,h=>by
  simp only[Y8]at h
  unfold CS at h
  simp only at h
  cases hl:look e t with
  | none=>rw[hl]at h;cases h
  | some v=>
   rw[hl]at h
   have h2:=HG _ _ _ _ h
   obtain⟨e',h3,h4⟩:=QH l _ res h2
   refine⟨_,fun u w hu=>?_,h4⟩
   simp only[look,AV]at hu
   split at hu
   ·rename_i he;subst he;cases hu;exact hl
   ·exact h3 u w hu
theorem QG {e:CF}:∀(ts:List (Nat × DM)) (U:CF->AH) (res:V × H),VH e ts U=some res->∃e',(∀t v,look e' t=some v->look e t=some v/\v.live=true)/\U e'=some res
 | [],U,res,h=>⟨[],fun t v hv=>by simp[look]at hv,h⟩
 | (t,ty)::l,U,res,h=>by
  simp only[VH,BW]at h
  cases hl:look e t with
  | none=>rw[hl]at h;cases h
  | some v=>
   rw[hl]at h
   obtain⟨hlv,h⟩:=Dp h
   have h2:=HG _ _ _ _ h
   obtain⟨e',h3,h4⟩:=QG l _ res h2
   refine⟨_,fun u w hu=>?_,h4⟩
   simp only[look,AV]at hu
   split at hu
   ·rename_i he;subst he;cases hu;exact⟨hl,hlv⟩
   ·exact h3 u w hu
theorem QE {r:Rg}:∀(rs:List (Nat × List DM)) (U:Rg->AH) (res:V × H),Y7 r rs U=some res->∃r',(∀m l,look r' m=some l->look r m=some l)/\(∀m,Bp (rs.map Prod.fst) m=true->∃l,look r' m=some l)/\U r'=some res
 | [],U,res,h=>⟨[],fun t v hv=>by simp[look]at hv,fun m hm=>by simp[Bp]at hm,h⟩
 | (m,tys)::l,U,res,h=>by
  simp only[Y7]at h
  cases hl:look r m with
  | none=>rw[hl]at h;cases h
  | some cs=>
   rw[hl]at h
   have h2:=Jo _ _ _ _ h
   obtain⟨r',h3,h4,h5⟩:=QE l _ res h2
   refine⟨_,fun u w hu=>?_,fun u hu=>?_,h5⟩
   ·simp only[look,AV]at hu
    split at hu
    ·rename_i he;subst he;cases hu;exact hl
    ·exact h3 u w hu
   ·simp only[look,AV]
    by_cases he:m=u
    ·exact⟨cs,by rw[if_pos he]⟩
    ·rw[if_neg he]
     simp only[B3]at hu
     exact h4 u (((DE m _ u).1 hu).resolve_left he)
theorem Iw:∀(ms rs:List Nat) (q:Qs) (t:Nat) (p:Nat × Nat),look (QF ms rs q) t=some p->look q t=some p/\Bp rs p.1=true
 | [],rs,q,t,p,h=>by simp[QF,look]at h
 | a::l,rs,q,t,p,h=>by
  simp only[QF]at h
  split at h
  ·rename_i p' hp
   split at h
   ·rename_i hm
    simp only[look,AV]at h
    split at h
    ·rename_i he;subst he;cases h;exact⟨hp,hm⟩
    ·exact Iw l rs q t p h
   ·exact Iw l rs q t p h
  ·exact Iw l rs q t p h
theorem QD {nR:Nat} {R0:Cz} {nt:Nat} {ts:List (Nat × DM)} {ms:List Nat} {rs:List (Nat × List DM)} {s:St} {U:St->AH} {res:V × H} (h:JR ts ms rs s U=some res) {a:Act} {w:World} (hI:Ok C nR R0 nt s a w) :
  ∃s0,U s0=some res/\Ok C nR R0 nt s0 a w:=by
 unfold JR at h
 obtain⟨e',he',h⟩:=QH _ _ _ h
 obtain⟨r',hr1,hr2,h⟩:=QE _ _ _ h
 obtain⟨R,B,h1,h2,h3,h4,h5,h6,h7⟩:=hI
 refine⟨_,h,R,fun m=>if Bp (rs.map Prod.fst) m=true then B m else none,h1,h2,⟨h3.rel,⟨fun m i hm=>?_,fun m m' i i' hm hm'=>?_,fun m i hm=>?_⟩⟩,h4.sub he',⟨fun t m off hq=>?_⟩,h6,h7⟩
 ·split at hm
  ·rename_i hmem
   obtain⟨hO,l,hl,hok'⟩:=h3.priv.at_ m i hm
   obtain⟨l',hl'⟩:=hr2 m hmem
   have:=hr1 m l' hl'
   rw[hl]at this;cases this
   exact⟨hO,l,hl',hok'⟩
  ·cases hm
 ·split at hm
  ·split at hm'
   ·exact h3.priv.inj m m' i i' hm hm'
   ·cases hm'
  ·cases hm
 ·split at hm
  ·exact h3.priv.apart m i hm
  ·cases hm
 ·obtain⟨hq1,hq2⟩:=Iw _ _ _ _ _ hq
  obtain⟨i,hi1,hi2⟩:=h5.at_ t m off hq1
  refine⟨i,?_,hi2⟩
  rw[if_pos hq2];exact hi1
theorem nM (hD:∀f,Cb P C.E C.G f (D f)) {W:AM} (hW:RD P C.E C.G W) (hmix:P.follows .mixedOrders=true) (N nt:Nat) {nR:Nat} {R0:Cz} {res:V × H} :
  ∀(xc:XC) (c:Code),xc.strip=CT P C.G nt c->xc.ok=true->∀(s:St) (kn:St->AH) (kx:Nat->St->AH) (kr:St->AH),AU C.E D W N xc s kn kx kr=some res ->
   ∀(a:Act) (w:World) (Q:Exit->Act->World->Prop),Ok C nR R0 nt s a w->(∀s' a' w',kn s'=some res->Ok C nR R0 nt s' a' w'->Q .normal a' w') ->
    (∀id s' a' w',kx id s'=some res->Ok C nR R0 nt s' a' w'->Q (.exit id) a' w')->(∀s' a' w',kr s'=some res->Ok C nR R0 nt s' a' w'->Q .ret a' w')->c.wp P Q a w:=by
 intro xc
 induction xc with
 | bad=>intro c _ _ s kn kx kr h;cases h
 | keep ts ms rs xc ih=>
  intro c hs hok s kn kx kr h a w Q hI hn hx hr
  rw[bC]at h
  obtain⟨s0,h,hI⟩:=QD h hI
  exact ih c hs hok s0 kn kx kr h a w Q hI hn hx hr
 | skip=>
  intro c hs hok s kn kx kr h a w Q hI hn hx hr
  cases c<;>simp only[XC.strip,CT]at hs<;>(try (cases hs;done))
  ·exact wp_skip (hn s a w h hI)
  ·rename_i i o d;cases d<;>(first | (cases hs;done) | (simp only[CT]at hs;split at hs<;>cases hs))
 | exit id=>
  intro c hs hok s kn kx kr h a w Q hI hn hx hr
  cases c<;>simp only[XC.strip,CT]at hs<;>(try (cases hs;done))
  ·rename_i i o d;cases d<;>(first | (cases hs;done) | (simp only[CT]at hs;split at hs<;>cases hs))
  ·cases hs;exact wp_exit (hx id s a w h hI)
 | ret=>
  intro c hs hok s kn kx kr h a w Q hI hn hx hr
  cases c<;>simp only[XC.strip,CT]at hs<;>(try (cases hs;done))
  ·rename_i i o d;cases d<;>(first | (cases hs;done) | (simp only[CT]at hs;split at hs<;>cases hs))
  ·exact wp_ret (hr s a w h hI)
 | ops l=>
  intro c hs hok s kn kx kr h a w Q hI hn hx hr
  cases c<;>simp only[XC.strip,CT]at hs<;>(try (cases hs;done))
  rename_i i o d
  cases d
  case true=>simp only[CT]at hs;split at hs<;>cases hs
  simp only[CT,AC.region.injEq]at hs
  rw[ei]at h
  obtain⟨s',hrun,hκ,_⟩:=Hn l none none none true 0 s _ res h hok (.inl ⟨rfl,rfl⟩) (fun h=>by cases h)
  refine wp_region_list (mB hD hrun o.toList a w ?_ hI (fun a' w' hI'=>hn _ a' w' hκ hI'))
  obtain⟨h1,h2⟩:=Gz l none
  rw[List.map_fst_zip (by omega),hs]
 | draw l ancs=>
  intro c hs hok s kn kx kr h a w Q hI hn hx hr
  cases c<;>simp only[XC.strip,CT]at hs<;>(try (cases hs;done))
  rename_i i o d
  cases d<;>simp only[CT]at hs<;>(try (cases hs;done))
  split at hs
  case isFalse=>cases hs
  rename_i hplan
  simp only[AC.draw.injEq]at hs
  rw[bD]at h
  unfold eX at h
  split at h
  ·rename_i hpo
   simp only[XC.ok,AK,AV,C4]at hok
   obtain⟨⟨⟨⟨k1,k2⟩,k3⟩,k4⟩,k5⟩:=hok
   exact nK hD hmix i hs.1 hs.2 hplan k1 k2 k3 k4 k5 hpo h hI Q (fun s' a' w' hκ hI'=>hn s' a' w' hκ hI')
  ·cases h
 | gdraw ops pl ts=>
  intro c hs hok s kn kx kr h a w Q hI hn hx hr
  cases c<;>simp only[XC.strip,CT]at hs<;>(try (cases hs;done))
  rename_i i o d
  cases d<;>simp only[CT]at hs<;>(try (cases hs;done))
  split at hs
  case isFalse=>cases hs
  rename_i hplan
  simp only[AC.draw.injEq]at hs
  obtain⟨rfl,rfl⟩:=hs
  rw[Wp]at h
  cases h1:W (o.toList.map (BN P C.G nt o)) (GS o) s.e s.J with
  | none=>rw[h1]at h;cases h
  | some q=>
   obtain⟨e1,J1⟩:=q
   rw[h1]at h
   obtain⟨e',he',h⟩:=QG _ _ _ h
   obtain⟨R,B,g1,g2,g3,g4,g5,g6,g7⟩:=hI
   refine hW C rfl rfl nt i o s.e s.J e1 J1 hplan h1 R a w Q g3.rel g4.env g6 g7 (fun R' a' w' hx' hn' hrel' he1 hsz hd=>?_)
   refine hn _ a' w' h ⟨R',fun _=>none,g1.trans hx' g2,Ae g2 hn',⟨hrel',⟨fun m i hm=>(by cases hm),fun m m' i i' hm=>(by cases hm),fun m i hm=>(by cases hm)⟩⟩,⟨fun t v hv=>?_⟩,⟨fun t m off hq=>(by simp[look]at hq)⟩,hsz,hd⟩
   obtain⟨h2,h3⟩:=he' t v hv
   rcases he1.at_ t v h2 with rfl|h4
   ·cases h3
   ·exact h4
 | seq p q ihp ihq=>
  intro c hs hok s kn kx kr h a w Q hI hn hx hr
  cases c<;>simp only[XC.strip,CT]at hs<;>(try (cases hs;done))
  ·rename_i i o d;cases d<;>(first | (cases hs;done) | (simp only[CT]at hs;split at hs<;>cases hs))
  rename_i c1 c2
  simp only[AC.seq.injEq]at hs
  simp only[XC.ok,AK]at hok
  rw[ef]at h
  refine wp_seq (ihp c1 hs.1 hok.1 s _ kx kr h a w _ hI (fun s' a' w' h' hI'=>?_) (fun id s' a' w' h' hI'=>hx id s' a' w' h' hI') (fun s' a' w' h' hI'=>hr s' a' w' h' hI'))
  exact ihq c2 hs.2 hok.2 s' kn kx kr h' a' w' Q hI' hn hx hr
 | cond o p q ihp ihq=>
  intro c hs hok s kn kx kr h a w Q hI hn hx hr
  cases c<;>simp only[XC.strip,CT]at hs<;>(try (cases hs;done))
  ·rename_i i o d;cases d<;>(first | (cases hs;done) | (simp only[CT]at hs;split at hs<;>cases hs))
  rename_i co c1 c2
  simp only[AC.cond.injEq]at hs
  obtain⟨rfl,h1,h2⟩:=hs
  simp only[XC.ok,AK]at hok
  rw[bE]at h
  obtain⟨v,hv,_,h⟩:=Ak h
  obtain⟨cb,rfl,h9⟩:=Ff h
  have hI2:=hI
  obtain⟨R,B,g1,g2,g3,g4,g5,g6,g7⟩:=hI2
  have hev:=Ku (a:=a) g4.env g3.rel.globOk hv
  cases cb with
  | true=>exact wp_cond_true hev (ihp c1 h1 hok.1 s kn kx kr h9 a w Q hI hn hx hr)
  | false=>exact wp_cond_false hev (ihq c2 h2 hok.2 s kn kx kr h9 a w Q hI hn hx hr)
 | block id p ih=>
  intro c hs hok s kn kx kr h a w Q hI hn hx hr
  cases c<;>simp only[XC.strip,CT]at hs<;>(try (cases hs;done))
  ·rename_i i o d;cases d<;>(first | (cases hs;done) | (simp only[CT]at hs;split at hs<;>cases hs))
  rename_i i c1
  simp only[AC.block.injEq]at hs
  obtain⟨rfl,hs⟩:=hs
  rw[Wq]at h
  refine wp_block (ih c1 hs hok s kn _ kr h a w _ hI (fun s' a' w' h' hI'=>hn s' a' w' h' hI') (fun j s' a' w' h' hI'=>?_) (fun s' a' w' h' hI'=>hr s' a' w' h' hI'))
  show Exit.inBlock id Q (.exit j) a' w'
  simp only[Exit.inBlock]
  unfold Bn at h'
  split at h'
  ·rename_i hj
   rw[AV]at hj
   rw[if_pos hj];exact hn s' a' w' h' hI'
  ·rename_i hj
   rw[if_neg (fun hh=>by rw[<-AV,hj]at hh;cases hh)];exact hx j s' a' w' h' hI'
 | loop ts ms rs p ih=>
  intro c hs hok s kn kx kr h a w Q hI hn hx hr
  cases c<;>simp only[XC.strip,CT]at hs<;>(try (cases hs;done))
  ·rename_i i o d;cases d<;>(first | (cases hs;done) | (simp only[CT]at hs;split at hs<;>cases hs))
  rename_i c1
  simp only[AC.loop.injEq]at hs
  rw[bB]at h
  obtain⟨s0,h,hI⟩:=QD h hI
  have key:∀(n:Nat) (s:St) (a:Act) (w:World),Aw (fun rec s'=>AU C.E D W N p s' (fun s''=>JR ts ms rs s'' rec) kx kr) n s=some res->Ok C nR R0 nt s a w->Code.rounds P c1 Q n a w:=by
   intro n
   induction n with
   | zero=>intro s a w h;cases h
   | succ n ihn=>
    intro s a w h hI
    have h:AU C.E D W N p s (fun s''=>JR ts ms rs s'' (Aw (fun rec s'=>AU C.E D W N p s' (fun s''=>JR ts ms rs s'' rec) kx kr) n)) kx kr=some res:=h
    rw[rounds_succ]
    refine ih c1 hs hok s _ kx kr h a w _ hI (fun s' a' w' h' hI'=>?_) (fun id s' a' w' h' hI'=>hx id s' a' w' h' hI') (fun s' a' w' h' hI'=>hr s' a' w' h' hI')
    obtain⟨s2,h2,hI2⟩:=QD h' hI'
    exact ihn s2 a' w' h2 hI2
  exact wp_loop_rounds N (key N s0 a w h hI)
theorem Vi {α β:Type} {x:Result α} {g:α->World->Result β} {z:β} {w:World} (h:Result.andThen x g = .ok z w):∃y w2,x = .ok y w2/\g y w2 = .ok z w:=by
 cases x with
 | ok y w2=>exact⟨y,w2,rfl,h⟩
 | _=>cases h
theorem Yt {R:Cz} {B:Bs} {s:St} {w:World} {a:Act} (hm:UW C R B s.r s.J w) (he:HR R s.e a.tmps) (hq:UU B s.q a.tmps):∀(rs:List ResultVar) (as:List AR) (U:List V->AH) (res:V × H),Ge P rs=some as->EA C.E s as U=some res ->
  ∃l xs,U l=some res/\A5 R l=some xs/\(rs.mapM (m:=Sem) fun
   | .tmp t=>pure (a.tmps.getD t undef)
   | .cell b t=>do loadVar t (<-asAddr (a.tmps.getD b undef))).run P w = .ok xs w
 | [],as,U,res,hc,h=>by
  simp only[Ge,AP.injEq]at hc;subst hc
  exact⟨[],[],h,rfl,rfl⟩
 | r::rs,as,U,res,hc,h=>by
  simp only[Ge]at hc
  cases hr:QS P r with
  | none=>rw[hr]at hc;cases hc
  | some ar=>
   cases hrs:Ge P rs with
   | none=>rw[hr,hrs]at hc;cases hc
   | some as'=>
    rw[hr,hrs]at hc
    simp only[AP.injEq]at hc
    subst hc
    have one:∀(C2:Cx) (R2:Cz) (J2:H) (e2:CF) (v:V),Ds C2 R2 J2 w->B9 R2 e2 a.tmps->LY C2.E e2 J2 [ar]=some [v]->Le R R2->(∃x,Au R v=some x)->EA C.E s as' (fun l=>U (v::l))=some res ->
      ∃l xs,U l=some res/\A5 R l=some xs/\((r::rs).mapM (m:=Sem) fun
       | .tmp t=>pure (a.tmps.getD t undef)
       | .cell b t=>do loadVar t (<-asAddr (a.tmps.getD b undef))).run P w = .ok xs w:=by
     intro C2 R2 J2 e2 v h1 h2 h3 hle ⟨x,hx⟩ h4
     obtain⟨xs,h5,h6⟩:=Ox (P:=P) h1 h2 [r] [ar] [v] (by simp only[Ge,hr]) h3
     obtain⟨y,ys,h7,h8,rfl⟩:=Bh.1 h5
     simp only[A5,AP.injEq]at h8;subst h8
     have:=Cq hle v x hx
     rw[h7]at this;cases this
     obtain⟨l,xs,g1,g2,g3⟩:=Yt hm he hq rs as' _ res hrs h4
     refine⟨v::l,_,g1,Bh.2 ⟨_,_,hx,g2,rfl⟩,?_⟩
     rw[Uk]at h6 ⊢
     rw[Sem.run_bind]at h6 ⊢
     obtain⟨y2,w2,e1,e2⟩:=Vi h6
     simp only[Sem.run_bind,List.mapM_nil,Sem.run_pure,Result.andThen_ok,Result.ok.injEq,List.cons.injEq,and_true]at e2
     obtain⟨rfl,rfl⟩:=e2
     refine(congrArg (fun r=>Result.andThen r _) e1).trans ?_
     simp only[Result.andThen_ok,Sem.run_bind,g3,Sem.run_pure]
    cases r with
    | tmp t=>
     simp only[QS,AP.injEq]at hr
     subst hr
     simp only[EA]at h
     unfold CS at h
     simp only at h
     cases hl:look s.e t with
     | none=>rw[hl]at h;cases h
     | some v=>
      rw[hl]at h
      obtain⟨x,hx1,hx2⟩:=he.at_ t v hl
      have hge:Gb s.e t=v:=by simp only[Gb,hl]
      refine one C R s.J s.e v hm.rel he.env ?_ (Le.refl _) ⟨x,hx2⟩ h
      simp only[LY,hge,Ma hx2]
    | cell t ty=>
     simp only[QS]at hr
     cases hs:Gn P ty with
     | none=>rw[hs]at hr;cases hr
     | some n=>
      rw[hs]at hr
      simp only[AP.injEq]at hr
      subst hr
      simp only[EA]at h
      split at h
      ·rename_i m off hqt
       obtain⟨i,hi1,hi2⟩:=hq.at_ t m off hqt
       split at h
       ·rename_i cs hcs
        have hr2:=hm.priv.one hm.rel hi1 hcs
        have he2:B9 (IS R s.J.next i) [(t,.ptr s.J.next off)] a.tmps:=B9.cons ⟨fun k v hk=>by simp[look]at hk⟩ hi2 (DG (CL _ _ _))
        have hle:Le R (IS R s.J.next i):=(E5 R s.J.next i).le hm.rel.fresh
        obtain⟨_,l',hl',hok⟩:=hm.priv.at_ m i hi1
        rw[hcs]at hl';cases hl'
        obtain⟨arr,el,lo,hi,_,hh,_⟩:=hok
        have hgp:Gb [(t,V.ptr s.J.next off)] t = .ptr s.J.next off:=by simp[Gb,look]
        have hrd:rd C.E ⟨s.J.next+1,[(s.J.next,.cells cs)]⟩ s.J.next=some cs:=by simp[rd,look]
        split at h
        ·obtain⟨v,hv,h⟩:=GU h
         obtain⟨x,hx,_⟩:=hh off v hv
         refine one _ _ _ _ v hr2 he2 ?_ hle ⟨x,hx⟩ h
         simp only[LY,hgp,hrd,hv]
        ·rename_i n
         obtain⟨hb,h⟩:=GP h
         obtain⟨xs,hxs,_⟩:=hh.cells (by simpa using hb)
         refine one _ _ _ _ _ hr2 he2 ?_ hle ⟨_,Dj hxs⟩ h
         simp only[LY,hgp,NA,hrd,hb,if_true]
       ·cases h
      ·obtain⟨p,hp,_,h⟩:=Ak h
       obtain⟨b,o,rfl,h9⟩:=D5 h
       have hgp:Gb s.e t = .ptr b o:=hp
       cases n with
       | none=>
        simp only at h9
        obtain⟨l,hl,h9⟩:=Jt h9
        obtain⟨v,hv,h9⟩:=GU h9
        obtain⟨i,arr,el,fr,_,_,hold⟩:=hm.rel.read hl
        obtain⟨x,hx,_⟩:=hold o v hv
        refine one C R s.J s.e v hm.rel he.env ?_ (Le.refl _) ⟨x,hx⟩ h9
        simp only[LY,hgp,hl,hv]
       | some n=>
        simp only at h9
        obtain⟨l,hl,h9⟩:=Jt h9
        obtain⟨hb,h9⟩:=GP h9
        obtain⟨i,arr,el,fr,_,_,hold⟩:=hm.rel.read hl
        obtain⟨xs,hxs,_⟩:=hold.cells (by simpa using hb)
        refine one C R s.J s.e _ hm.rel he.env ?_ (Le.refl _) ⟨_,Dj hxs⟩ h9
        simp only[LY,hgp,NA,hl,hb,if_true]
theorem mC {E:EB} {G:Nat->Bool} (hD:∀f,Cb P E G f (D f)) {W:AM} (hW:RD P E G W) (hmix:P.follows .mixedOrders=true) (N:Nat) {f:FuncId} {fn:Func} (hf:P.funcs[f]? = some fn)
  {xf:DV} {af':cB} (hc:Mk P G fn=some af') (hs:xf.strip=af') (hxok:xf.body.ok=true) (hok:I6 P f=true):Cb P E G f (Br E D W N xf):=by
 intro C hE hG R J w args xs v J' h hrel hxs
 subst hE hG
 refine⟨hok,?_⟩
 unfold Mk at hc
 cases hb:fn.body with
 | none=>rw[hb]at hc;cases hc
 | some c=>
  cases hr:Ge P fn.results.toList with
  | none=>rw[hb,hr]at hc;cases hc
  | some rs=>
   rw[hb,hr]at hc
   simp only[AP.injEq]at hc
   rw[<-hs]at hc
   obtain⟨nt,params,resl,body⟩:=xf
   simp only[DV.strip,cB.mk.injEq]at hc
   obtain⟨rfl,rfl,_,hbody⟩:=hc
   unfold Br at h
   simp only at h
   have h:=Jo _ _ _ _ h
   have hlen:=Bm hxs
   refine calls_of_wp hf hb ?_
   have hsz:fn.ntmps<=(xs.toArray++HE (fn.ntmps-xs.toArray.size) undef).size:=by simp;omega
   have harg:∀(l:List V) (ys:List Value) (k:Nat),A5 R l=some ys->∀(t:Nat) (v:V),look (Oj k l) t=some v->∃y,k<=t/\ys[t-k]? = some y/\Au R v=some y:=by
    intro l
    induction l with
    | nil=>intro ys k _ t v h;simp[Oj,look]at h
    | cons u l ih=>
     intro ys k hc t v h
     obtain⟨y,zs,hy,hz,rfl⟩:=Bh.1 hc
     simp only[Oj,look]at h
     by_cases hk:k=t
     ·subst hk
      rw[if_pos (by simp)]at h
      cases h
      exact⟨y,AN _,by simp,hy⟩
     ·rw[if_neg (by simpa using hk)]at h
      obtain⟨q,h1,h2,h3⟩:=ih zs (k+1) hz t v h
      exact⟨q,by omega,by rw[show t-k=(t-(k+1))+1 by omega,CK];exact h2,h3⟩
   have he0:HR R (Oj 0 args) (xs.toArray++HE (fn.ntmps-xs.toArray.size) undef):=by
    refine⟨fun k u hk=>?_⟩
    obtain⟨y,_,h2,h3⟩:=harg args xs 0 hxs k u hk
    refine⟨y,?_,h3⟩
    rw[qW]at h2
    have hlt:k<xs.length:=by
     rcases Al k xs.length with h|h
     ·exact h
     ·rw[Aa h]at h2;cases h2
    rw[MD (by simpa using hlt)]
    simpa using h2
   have fin:∀(s':St) (a':Act) (w':World),(EA C.E s' rs fun l=>some (EW l,s'.J))=some (v,J')->Ok C J.next R fn.ntmps s' a' w' ->
     a'.defers=[]/\∃x,(results fn a'.tmps).run P w' = .ok x w'/\∃R' x',G8 J.next R R'/\J.next<=J'.next/\Ds C R' J' w'/\Au R' v=some x'/\Ending.returned x = .returned x':=by
    intro s' a' w' h' ⟨R1,B1,k1,k2,k3,k4,k5,k6,k7⟩
    obtain⟨l,ys,g1,g2,g3⟩:=Yt (P:=P) k3 k4 k5 fn.results.toList rs _ _ hr h'
    simp only[AP.injEq,Prod.mk.injEq]at g1
    obtain⟨rfl,rfl⟩:=g1
    have hres:(results fn a'.tmps).run P w' = .ok (if h:ys.toArray.size=1 then ys.toArray[0] else .tuple ys.toArray) w':=by
     unfold results
     refine(Sem.run_bind P w' _ _).trans ?_
     rw[NC,Sem.run_map]
     refine(congrArg (fun r=>Result.andThen (Result.andThen r _) _) g3).trans rfl
    exact⟨k7,_,hres,R1,_,k1,k2,k3.rel,Y0 g2,rfl⟩
   refine nM (C:=C) hD hW hmix N fn.ntmps body c hbody.symm hxok _ _ _ _ h _ w _ ⟨R,fun _=>none,G8.refl _ _,AN _,⟨hrel,⟨fun m i hm=>(by cases hm),fun m m' i i' hm=>(by cases hm),fun m i hm=>(by cases hm)⟩⟩,he0,⟨fun t m off hq=>(by simp[look]at hq)⟩,hsz,rfl⟩ ?_ ?_ ?_
   ·intro s' a' w' h' hI'
    obtain⟨h1,x,h2,h3⟩:=fin s' a' w' h' hI'
    exact⟨h1,x,h2,h3⟩
   ·intro id s' a' w' h' _;cases h'
   ·intro s' a' w' h' hI'
    obtain⟨h1,x,h2,h3⟩:=fin s' a' w' h' hI'
    exact⟨h1,x,h2,h3⟩
end Go.Og
namespace Go.Og
def yk (a:AH):Bool:=match a with
 | some (.bool true,_)=>true
 | _=>false
theorem dP {a:AH} (h:yk a=true):∃J,a=some (.bool true,J):=by
 unfold yk at h
 split at h
 ·exact⟨_,rfl⟩
 ·cases h
def Lt (ng:Nat) (l:List (Nat × BI)):Cz:=fun id=>if id<ng then some ⟨id,0,0⟩else look l id
theorem HC.lt {R:Cz} {i:BI} {b:GL} {w:World} (h:HC R i b w):i.blk<w.heap.size:=by
 cases b with
 | cells l=>
  obtain⟨arr,el,fr,h1,_⟩:=h
  exact(yh.1 h1).1
 | _=>exact h.elim
theorem WS {G:Nat->Bool} {ng n0:Nat} (hG:∀g,G g=true->g<ng) (hn:ng<=n0) (l:List (Nat × BI)) (E:EB) (w:World) (hl:∀id i,look l id=some i->id<n0)
  (hE:∀id b,look E id=some b->∃i,Lt ng l id=some i/\HC (Lt ng l) i b w) :
  Ds ⟨fun blk=>w.heap.size<=blk,w,E,G⟩ (Lt ng l) ⟨n0,[]⟩ w where
 fresh id hid:=by
  have hid':n0<=id:=hid
  unfold Lt;rw[if_neg (by omega)]
  cases hk:look l id with
  | none=>rfl
  | some i=>have:=hl id i hk;omega
 own id b hb:=by simp[look]at hb
 inj id id' b b' i i' hb:=by simp[look]at hb
 ext id b hb:=by
  obtain⟨i,h1,h2⟩:=hE id b hb
  exact⟨i,h1,Nat.not_le.2 h2.lt,h2⟩
 glob g hg:=⟨⟨g,0,0⟩,by unfold Lt;rw[if_pos (hG g hg)],rfl,rfl⟩
 fr _ _:=rfl
 size:=AN _
 new _ h:=h
 os:=rfl
 tape:=rfl
 output:=rfl
set_option linter.unusedVariables false
noncomputable section
section
variable {R S:Cz} {n0 d:Nat}
theorem Ib {α:Type}:∀(l m:List (Nat × α)) (id:Nat),look (l++m) id=match look l id with | some b=>some b | none=>look m id
 | [],m,id=>rfl
 | (k,b)::l,m,id=>by
  simp only[Ez,look]
  cases Ax k id with
  | true=>rfl
  | false=>simpa using Ib l m id
end
def Yw:List (V × V)->List (V × V)->Bool
 | [],[]=>true
 | p::l,q::m=>V.beq p.1 q.1&&V.beq p.2 q.2&&Yw l m
 | _,_=>false
theorem U8:∀{l m:List (V × V)},Yw l m=true->l=m
 | [],[],_=>rfl
 | (a,b)::l,(c,d)::m,h=>by
  simp only[Yw,AK]at h
  rw[NX _ _ h.1.1,NX _ _ h.1.2,U8 h.2]
 | [],_::_,h=>by cases h
 | _::_,[],h=>by cases h
def fG:GL->GL->Bool
 | .cells a,.cells b=>KF a b
 | .map a,.map b=>Yw a b
 | _,_=>false
theorem fF {a b:GL} (h:fG a b=true):a=b:=by
 cases a<;>cases b<;>simp only[fG,E3]at h
 ·rw[Kx _ _ h]
 ·rw[U8 h]
def aS:EB->EB->Bool
 | [],_=>true
 | p::l,m=>(match Ba m p.1 with
  | some b=>fG b p.2
  | none=>false)&&aS l m
theorem O1:∀{l m:EB},aS l m=true->∀p∈l,look m p.1=some p.2
 | [],_,_,p,hp=>by cases hp
 | q::l,m,h,p,hp=>by
  simp only[aS,AK,BK]at h
  rcases BJ.1 hp with rfl|hp
  ·have h1:=h.1
   cases hb:look m p.1 with
   | none=>rw[hb]at h1;cases h1
   | some b=>rw[hb]at h1;rw[fF h1]
  ·exact O1 h.2 p hp
theorem fC {P:Program} {w:World} {r:Reach} {base:Nat} {t:TypeId} {k:IntKind} {v:Value} (ht:P.underlying t=some (.int k)) (h:Cell.okWide P w r base t v):∃n,v = .int k n:=by
 unfold Cell.okWide at h
 rw[ht]at h
 unfold Cell.ok at h
 rw[ht]at h
 cases v<;>simp at h
 obtain⟨rfl,_⟩:=h
 exact⟨_,rfl⟩
theorem QU {P:Program} {w:World} {r:Reach} {base:Nat} {t e:TypeId} {v:Value} (ht:P.underlying t=some (.slice e)) (h:Cell.okWide P w r base t v) :
  v = .slice none 0 0\/∃blk off len cap,v = .slice (some ⟨blk,off,none⟩) len cap:=by
 unfold Cell.okWide at h
 rw[ht]at h
 unfold Cell.ok at h
 rw[ht]at h
 cases v<;>simp at h
 rename_i a len cap
 cases a with
 | none=>
  cases len<;>cases cap<;>first | exact .inl rfl | simp at h
 | some a=>
  obtain⟨b,o,s⟩:=a
  simp only at h
  obtain⟨_,_,_,hs,_⟩:=h
  simp only at hs
  subst hs
  exact .inr ⟨_,_,_,_,rfl⟩
end
end Go.Og
set_option linter.all false
set_option maxRecDepth 100000
set_option maxHeartbeats 0
namespace Go.Proofs.YtcpdffccolffaaaGreatDoor
open Go Go.Og
noncomputable section
variable (E:EB) (D:Az) (W:AM) (N:Nat)
def y0:DM:=(.agg [.i,.i,.any,.any,.i,.any])
def Rv:Int:=(AA 0)
def y1:V:=(V.int .i64 Rv)
def y2:DM:=(.agg [.i,.any,.bool,.bool,.bool,.bool,.i,.i,.any,.any,.i,.bool,.i])
def y3:V:=(V.bool false)
def y4:DM:=(.agg [.str,.any,.any,.any])
def y5:Ej:=(.buildSlice 5 1 [(V.int .u8 Rv)] [(0,1,(.con (V.int .u8 Rv)))])
def y6:DM:=(.tup [])
def y7:Ej:=(.alloc 111 [y1,V.nils,y3,y3,y3,y3,y1,y1,V.nils,V.nils,y1,y3,y1])
def y8:DM:=(.agg [.bool,.bool,.bool,.bool,.i,.i])
def y9:DM:=(.agg [.str,.i,.bool,.bool,.i,.i,.any,.any,.i,.any,.i])
def su:Ej:=(.alloc 43 [y1,y1,V.nils,V.nils,y1,V.nils])
def lI:AO:=(.con (V.int .u64 (AA 1)))
def TC:V:=(V.bool true)
def Oe:XC:=(.exit 0)
def y14:XC:=(.cond (.tmp 4) (.z (.q 2 0<|
.nil)
 .ret)
 .skip)
def Z8:DM:=(.agg [.i,.any])
def y17:XC:=(.cond (.tmp 16) (.z (.m 17 5<|
.m 4 17<|
.nil)
 .ret)
 .skip)
def Z6:Ej:=(.mov (.t 0))
def Z5:AO:=(.con V.nilp)
def y20:XC:=(.ops (.b 18 .add .none (.t 8) (.i 1)<|
.m 8 18<|
.nil))
def cE:Ej:=(.mov (.t 1))
def zG:V:=(V.int .i64 (FM 0))
def zF:XC:=(.cond (.tmp 9) .skip
 Oe)
def sp:Ej:=(.faddr 1 (.t 6))
def lB:List DM:=[.any,.any]
def Z3:List DM:=[.any,.i]
def zE:DM:=(.agg [.any,.i,.i])
def nX:Nat->St->AH:=fun _ _=>none
def kX (ts:List (Nat × DM)) (ms:List Nat) (rs:List (Nat × List DM)) (U:St->AH):St->AH:=fun s=>JR ts ms rs s U
def dX (E:EB) (D:Az) (W:AM) (N:Nat) (c:XC) (k:St->AH) (x:Nat->St->AH) (r:St->AH):St->AH:=fun s=>AU E D W N c s k x r
def mP:List (Nat × DM):=[(0,.i),(1,.any),(2,.any),(7,.ptr),(8,.bool),(9,.ptr),(10,.ptr),(11,.bool),(12,.i)]
def mO:List (Nat × DM):=[(0,.i),(1,.any),(2,.any),(7,.ptr),(8,.bool),(9,.ptr),(10,.ptr),(11,.bool),(14,.i)]
def q3c:List (Nat × DM):=[(0,.i),(1,.any),(2,.any),(7,.ptr),(8,.bool),(9,.ptr),(10,.ptr),(11,.bool)]
def q3d:List (Nat × DM):=[(7,.ptr),(8,.bool),(9,.ptr),(10,.ptr),(11,.bool)]
def bV:List BY:=[⟨(some 119),.load (some 4) (.tmp 7),none⟩,⟨(some 120),.mov (.tmp 9),none⟩,⟨(some 121),.call 9 [(.tmp 120)],none⟩,⟨(some 122),.call 8 [(.tmp 119),(.con (V.int .i64 (AA 0))),(.tmp 121)],none⟩,⟨(some 118),.mov (.tmp 122),none⟩,⟨(some 123),.extract 0 (.tmp 118),none⟩,⟨(some 124),.extract 1 (.tmp 118),none⟩,⟨(some 15),.alloc 43 [(V.int .i64 (AA 0)),(V.int .i64 (AA 0)),V.nils,V.nils,(V.int .i64 (AA 0)),V.nils],none⟩,⟨none,.store 6 (.tmp 15) (.tmp 123),none⟩,⟨(some 16),.mov (.tmp 124),none⟩]
def j4:List DP:=[⟨0,[7]⟩,⟨0,[9]⟩,⟨2,[120]⟩,⟨7,[119,121]⟩,⟨15,[122]⟩,⟨31,[118]⟩,⟨31,[118]⟩,⟨0,[]⟩,⟨191,[15,123]⟩,⟨511,[124]⟩]
def Eb (E:EB):St->AH:=fun s=>EA E s [(.tmp 6)] fun l=>some (EW l,s.J)
def uv (c0:XC):Nat->St->AH:=Bn 0 (dX E D W N (.keep q3c [] [] c0) (Eb E) nX (Eb E)) nX
def uu (c0:XC):Nat->St->AH:=Bn 2 (dX E D W N (.keep q3d [] [] c0) (Eb E) nX (Eb E)) nX
def xp (cc1:XC):XC:=(.z (.c 6 y3<|
.nil)
 (.z (.m 17 0<|
.P 18 (.conv (.toInt .u64) (.t 17))<|
.b 19 .rem .none (.t 18) (.con (V.int .u64 (AA 100)))<|
.P 20 (.conv (.toInt .i64) (.t 19))<|
.b 21 .add .none (.i 1) (.t 20)<|
.m 0 21<|
.nil)
 (.seq (.z (.m 22 2<|
.u 23 22<|
.b 24 .eql .none (.t 23) (.i 0)<|
.m 25 24<|
.gO 25 false (.p 26 [2,25] (.mov (.t 2))<|
.p 27 [26,25] (.len false (.t 26))<|
.p 28 [27,25] (.bin .gtr .none (.t 27) (.i 200))<|
.nil) 29 25 28<|
.nil)
 (.cond (.tmp 29) (.z (.k 30 .bool 4 []<|
.m 6 30<|
.nil)
 .ret)
 .skip))
 (.z (.k 32 (.tup [y4,.bool]) 5 [(.con (V.str ⟨94,6320828242170758418337056517095621675984223683767383315806049650650199460465984701476669794443264855643114264876275454276703474501171439788583232407371408961472629243036152532782837683824085474433307533511660324626747898470477⟩))]<|
.m 31 32<|
.P 33 (.extract 0 (.t 31))<|
.P 34 (.extract 1 (.t 31))<|
.p 7 [] (.alloc 30 [(V.str ⟨0,0⟩),V.nils,V.nils,V.nils])<|
.op none y4 [7,33] (.store 4 (.t 7) (.t 33))<|
.m 8 34<|
.nil)
 (.z (.op (some 35) (.agg [.any]) [] (.build [V.nils] [])<|
.P 36 (.box 37 (.t 35))<|
.m 9 36<|
.nil)
 (.z (.m 37 9<|
.k 38 y6 6 [(.t 37),lI,(.i 1)]<|
.nil)
 (.seq (.z (.m 39 0<|
.b 40 .leq .none (.t 39) (.i 64)<|
.nil)
 (.cond (.tmp 40) (.ops (.m 41 9<|
.m 42 0<|
.b 43 .sub .none (.t 42) (.i 1)<|
.P 44 (.conv (.toInt .u64) (.t 43))<|
.k 45 y6 6 [(.t 41),(.t 44),(.i 7)]<|
.nil))
 (.z (.m 46 9<|
.k 47 y6 6 [(.t 46),lI,(.i 1)]<|
.nil)
 (.ops (.m 48 9<|
.m 49 0<|
.P 50 (.conv (.toInt .u64) (.t 49))<|
.k 51 y6 6 [(.t 48),(.t 50),(.i 8)]<|
.nil)))))
 (.keep [(0,.i),(1,.any),(2,.any),(7,.ptr),(8,.bool),(9,.ptr)] [] [] cc1))))))))
def Vu (E:EB) (D:Az) (W:AM) (K1:Int->V->V->Nat->Nat->Bool->Nat->Nat->H->AH) (a:Int) (b c:V) (J:H):AH:=
 BA c fun n1=>
 BR (fun c2 s3=>
 AS c2 (
 AW (D 4 [] s3) fun u5 s6=>
 An u5 fun x7=>
 some ((V.bool x7),s6)) (
 AW (D 5 [.str (BS.mk 94 6320828242170758418337056517095621675984223683767383315806049650650199460465984701476669794443264855643114264876275454276703474501171439788583232407371408961472629243036152532782837683824085474433307533511660324626747898470477)] s3) fun u8 s9=>
 Bc u8 fun l10=>
 AE l10 fun x11 l12=>
 Cw x11 fun l13=>
 Rx l13 fun x16 l15=>
 AE l15 fun x17 l18=>
 AE l18 fun x19 l20=>
 AE l20 fun x21 l22=>
 AQ l22 (
 De l12 fun x25 l24=>
 AQ l24 (
 let s26:=DR s9 (.cells [.str ⟨0,0⟩,V.nils,V.nils,V.nils]);
 Dt 4 (H.next s9) 0 (V.agg [.str x16,x17,x19,x21]) s26 fun s27=>
 G9 [V.nils] s27 fun s28=>
 AW (D 6 [.ptr (H.next s27) 0,.int .u64 (AA 1),.int .i64 (AA 1)] s28) fun u29 s30=>
 Bc u29 fun l31=>
 AQ l31 (
 AS (Hk (CU .i64 (AA 1) (BP .i64 (Fq (BP .u64 a) (AA 100)))) (AA 64)) (
 AW (D 6 [.ptr (H.next s27) 0,.int .u64 (BP .u64 (E6 .i64 (CU .i64 (AA 1) (BP .i64 (Fq (BP .u64 a) (AA 100)))) (AA 1))),.int .i64 (AA 7)] s30) fun u32 s33=>
 Bc u32 fun l34=>
 AQ l34 (
 K1 (CU .i64 (AA 1) (BP .i64 (Fq (BP .u64 a) (AA 100)))) b c (H.next s9) 0 x25 (H.next s27) 0 s33)) (
 AW (D 6 [.ptr (H.next s27) 0,.int .u64 (AA 1),.int .i64 (AA 1)] s30) fun u35 s36=>
 Bc u35 fun l37=>
 AQ l37 (
 AW (D 6 [.ptr (H.next s27) 0,.int .u64 (BP .u64 (CU .i64 (AA 1) (BP .i64 (Fq (BP .u64 a) (AA 100))))),.int .i64 (AA 8)] s36) fun u38 s39=>
 Bc u38 fun l40=>
 AQ l40 (
 K1 (CU .i64 (AA 1) (BP .i64 (Fq (BP .u64 a) (AA 100)))) b c (H.next s9) 0 x25 (H.next s27) 0 s39)))))))) fun k4=>
 AS (Cu (AA n1) (AA 0)) (
 k4 true J) (
 BA c fun n41=>
 k4 (Ep (AA 200) (AA n41)) J)
def ka (cc2:XC) (cc3:XC):XC:=(.z (.P 52 (.mkslice 43 6 96 [y1,y1,V.nils,V.nils,y1,V.nils] (.i 2) (.i 2))<|
.op (some 53) y0 [52] (.build [y1,y1,V.nils,V.nils,y1,V.nils] [(0,1,(.i 7)),(3,1,(.t 52))])<|
.p 10 [] su<|
.op none y0 [10,53] (.store 6 (.t 10) (.t 53))<|
.nil)
 (.z (.c 11 y3<|
.nil)
 (.seq (.z (.q 12 0<|
.nil)
 (.block 0 (.loop mP [] [] cc3)))
 (.keep q3c [] [] cc2))))
def W6 (E:EB) (D:Az) (W:AM) (K3:Int->V->V->Nat->Nat->Bool->Nat->Nat->Nat->Nat->Bool->Int->H->AH) (a:Int) (b c:V) (d e:Nat) (f:Bool) (g h:Nat) (J:H):AH:=
 Pz (AA 2) fun n1=>
 Pz (AA 2) fun n2=>
 IT (A0 n1 n2&&A0 (n2*96) 281474976710656&&A0 n2 1000000000000) (
 let s3:=DR J (.cells (Bj n2 [.int .i64 (AA 0),.int .i64 (AA 0),V.nils,V.nils,.int .i64 (AA 0),V.nils]).flatten);
 let s4:=DR s3 (.cells [.int .i64 (AA 0),.int .i64 (AA 0),V.nils,V.nils,.int .i64 (AA 0),V.nils]);
 Dt 6 (H.next s3) 0 (V.agg [.int .i64 (AA 7),.int .i64 (AA 0),V.nils,.sl (H.next J) 0 n1 (.ex n2),.int .i64 (AA 0),V.nils]) s4 fun s5=>
 K3 a b c d e f g h (H.next s3) 0 false (AA 0) s5)
def On (cc5:XC) (cc6:XC):XC:=(.seq (.z (.q 14 0<|
.nil)
 (.block 2 (.loop mO [] [] cc6)))
 (.keep q3d [] [] cc5))
def AAl (E:EB) (D:Az) (W:AM) (K6:Int->V->V->Nat->Nat->Bool->Nat->Nat->Nat->Nat->Bool->Int->H->AH) (a:Int) (b c:V) (d e:Nat) (f:Bool) (g h i j:Nat) (k:Bool) (J:H):AH:=
 K6 a b c d e f g h i j k (AA 0) J
def WH (cc4:XC):XC:=(.seq (.z (.m 54 12<|
.m 55 0<|
.b 56 .lss .none (.t 54) (.t 55)<|
.nil)
 (.cond (.tmp 56) .skip
 Oe))
 (.seq (.block 1 (.z (.m 59 12<|
.m 60 1<|
.u 61 60<|
.b 62 .lss .none (.t 59) (.t 61)<|
.m 63 62<|
.gA 63 true (.p 64 [1,63] cE<|
.p 65 [12,63] (.mov (.t 12))<|
.p 66 [64,65,63] (.iaddrS 1 (.t 64) (.t 65))<|
.op (some 67) .bool [66,63] (.load none (.t 66))<|
.nil) 68 63 67<|
.m 13 68<|
.nil)
 (.z (.m 69 11<|
.m 70 69<|
.gO 70 false (.p 71 [13,70] (.mov (.t 13))<|
.nil) 72 70 71<|
.m 11 72<|
.nil)
 (.z (.m 73 13<|
.nil)
 (.cond (.tmp 73) (.ops (.m 74 9<|
.k 75 y6 6 [(.t 74),lI,(.i 1)]<|
.nil))
 (.ops (.m 76 9<|
.k 77 y6 6 [(.t 76),(.con (V.int .u64 Rv)),(.i 1)]<|
.nil)))))))
 (.keep mP [] [] cc4)))
def Vt (E:EB) (D:Az) (W:AM) (K2:Int->V->V->Nat->Nat->Bool->Nat->Nat->Nat->Nat->Bool->H->AH) (K4:Int->V->V->Nat->Nat->Bool->Nat->Nat->Nat->Nat->Bool->Int->H->AH) (a:Int) (b c:V) (d e:Nat) (f:Bool) (g h i j:Nat) (k:Bool) (l:Int) (J:H):AH:=
 AS (Ep l a) (
 BA b fun n1=>
 BR (fun c2 s3=>
 BR (fun c5 s6=>
 AS c2 (
 AW (D 6 [.ptr g h,.int .u64 (AA 1),.int .i64 (AA 1)] s6) fun u8 s9=>
 Bc u8 fun l10=>
 AQ l10 (
 K4 a b c d e f g h i j c5 l s9)) (
 AW (D 6 [.ptr g h,.int .u64 (AA 0),.int .i64 (AA 1)] s6) fun u11 s12=>
 Bc u11 fun l13=>
 AQ l13 (
 K4 a b c d e f g h i j c5 l s12))) fun k7=>
 AS k (
 k7 true s3) (
 k7 c2 s3)) fun k4=>
 AS (Ep l (AA n1)) (
 AT 1 b l fun b14 o15=>
 BL E J b14 o15 fun u16=>
 An u16 fun x17=>
 k4 x17 J) (
 k4 false J)) (
 K2 a b c d e f g h i j k J)
def Rt:XC:=(.ops (.m 57 12<|
.b 58 .add .none (.t 57) (.i 1)<|
.m 12 58<|
.nil))
def oM (E:EB) (D:Az) (W:AM) (R3:Int->V->V->Nat->Nat->Bool->Nat->Nat->Nat->Nat->Bool->Int->H->AH) (a:Int) (b c:V) (d e:Nat) (f:Bool) (g h i j:Nat) (k:Bool) (l:Int) (J:H):AH:=
 R3 a b c d e f g h i j k (CU .i64 l (AA 1)) J
def Jf:XC:=(.seq (.keep q3d [] [] (.gdraw bV j4 [(8,.bool),(10,.ptr),(11,.bool),(15,.ptr),(16,.i)]))
 (.seq (.z (.m 125 11<|
.P 126 (.un .not (.t 125))<|
.nil)
 (.cond (.tmp 126) (.z (.k 127 .bool 4 []<|
.m 128 127<|
.gA 128 true (.p 129 [8,128] (.mov (.t 8))<|
.nil) 130 128 129<|
.m 131 130<|
.gA 131 true (.p 132 [16,131] (.mov (.t 16))<|
.p 133 [132,131] (.bin .eql .none (.t 132) (.i 4))<|
.nil) 134 131 133<|
.m 135 134<|
.gA 135 true (.op (some 136) y0 [15,135] (.load (some 6) (.t 15))<|
.op (some 137) y0 [135] (.build [y1,y1,V.nils,V.nils,y1,V.nils] [])<|
.op (some 138) .bool [136,137,135] (.call 10 [(.t 136),(.t 137)])<|
.nil) 139 135 138<|
.m 6 139<|
.nil)
 .ret)
 .skip))
 (.z (.k 140 .bool 4 []<|
.m 141 140<|
.gA 141 true (.p 142 [8,141] (.mov (.t 8))<|
.nil) 143 141 142<|
.m 144 143<|
.gA 144 true (.p 145 [16,144] (.mov (.t 16))<|
.p 146 [145,144] (.bin .eql .none (.t 145) (.i 0))<|
.nil) 147 144 146<|
.m 148 147<|
.gA 148 true (.op (some 149) y0 [15,148] (.load (some 6) (.t 15))<|
.op (some 150) y0 [10,148] (.load (some 6) (.t 10))<|
.op (some 151) .bool [149,150,148] (.call 10 [(.t 149),(.t 150)])<|
.nil) 152 148 151<|
.m 6 152<|
.nil)
 .ret)))
def oL (a b:Nat) (c:Bool) (d e f g:Nat) (h:Bool) (J:H):AH:=
 DA (W bV j4 [(7,.ptr a b),(8,.bool c),(9,.ptr d e),(10,.ptr f g),(11,.bool h)] J) fun e1 s2=>
 BW e1 8 fun u3=>
 An u3 fun x4=>
 BW e1 10 fun u5=>
 Ar u5 fun b6 o7=>
 BW e1 11 fun u8=>
 An u8 fun x9=>
 BW e1 15 fun u10=>
 Ar u10 fun b11 o12=>
 BW e1 16 fun u13=>
 Ah .i64 u13 fun x14=>
 AS (not x9) (
 AW (D 4 [] s2) fun u15 s16=>
 An u15 fun x17=>
 BR (fun c18 s19=>
 BR (fun c21 s22=>
 BR (fun c24 s25=>
 some ((V.bool c24),s25)) fun k26=>
 AS c21 (
 BQ E s22 b11 o12 6 fun l27=>
 A4 .i64 l27 fun x30 l29=>
 A4 .i64 l29 fun x33 l32=>
 AE l32 fun x34 l35=>
 AE l35 fun x36 l37=>
 A4 .i64 l37 fun x40 l39=>
 AE l39 fun x41 l42=>
 AQ l42 (
 AW (D 10 [.agg [.int .i64 x30,.int .i64 x33,x34,x36,.int .i64 x40,x41],.agg [.int .i64 (AA 0),.int .i64 (AA 0),V.nils,V.nils,.int .i64 (AA 0),V.nils]] s22) fun u43 s44=>
 An u43 fun x45=>
 k26 x45 s44)) (
 k26 false s22)) fun k23=>
 AS c18 (
 k23 (Cu x14 (AA 4)) s19) (
 k23 false s19)) fun k20=>
 AS x17 (
 k20 x4 s16) (
 k20 false s16)) (
 AW (D 4 [] s2) fun u46 s47=>
 An u46 fun x48=>
 BR (fun c49 s50=>
 BR (fun c52 s53=>
 BR (fun c55 s56=>
 some ((V.bool c55),s56)) fun k57=>
 AS c52 (
 BQ E s53 b11 o12 6 fun l58=>
 A4 .i64 l58 fun x61 l60=>
 A4 .i64 l60 fun x64 l63=>
 AE l63 fun x65 l66=>
 AE l66 fun x67 l68=>
 A4 .i64 l68 fun x71 l70=>
 AE l70 fun x72 l73=>
 AQ l73 (
 BQ E s53 b6 o7 6 fun l74=>
 A4 .i64 l74 fun x77 l76=>
 A4 .i64 l76 fun x80 l79=>
 AE l79 fun x81 l82=>
 AE l82 fun x83 l84=>
 A4 .i64 l84 fun x87 l86=>
 AE l86 fun x88 l89=>
 AQ l89 (
 AW (D 10 [.agg [.int .i64 x61,.int .i64 x64,x65,x67,.int .i64 x71,x72],.agg [.int .i64 x77,.int .i64 x80,x81,x83,.int .i64 x87,x88]] s53) fun u90 s91=>
 An u90 fun x92=>
 k57 x92 s91))) (
 k57 false s53)) fun k54=>
 AS c49 (
 k54 (Cu x14 (AA 0)) s50) (
 k54 false s50)) fun k51=>
 AS x48 (
 k51 x4 s47) (
 k51 false s47))
def L3 (cc7:XC):XC:=(.seq (.z (.m 78 14<|
.m 79 0<|
.b 80 .lss .none (.t 78) (.t 79)<|
.m 81 80<|
.gA 81 true (.p 82 [14,81] (.mov (.t 14))<|
.p 83 [1,81] cE<|
.p 84 [83,81] (.len false (.t 83))<|
.p 85 [82,84,81] (.bin .lss .none (.t 82) (.t 84))<|
.nil) 86 81 85<|
.nil)
 (.cond (.tmp 86) .skip
 (.exit 2)))
 (.seq (.block 3 (.block 4 (.z (.m 102 1<|
.m 103 14<|
.s 104 1 102 103<|
.l 105 .bool 104<|
.P 106 (.un .not (.t 105))<|
.m 101 106<|
.nil)
 (.cond (.tmp 101) .skip
 (.z (.m 108 14<|
.b 109 .lss .none (.t 108) (.i 2)<|
.m 107 109<|
.nil)
 (.cond (.tmp 107) (.z (.m 110 9<|
.p 111 [] (.buildSlice 5 1 [(V.int .u8 Rv)] [(0,1,(.con (V.int .u8 (AA 128))))])<|
.k 112 y6 7 [(.t 110),(.t 111)]<|
.nil)
 (.ops (.f 113 3 10<|
.l 114 .any 113<|
.m 115 14<|
.op (some 116) y0 [] (.build [y1,y1,V.nils,V.nils,y1,V.nils] [(0,1,(.i 1)),(1,1,(.i 1))])<|
.s 117 6 114 115<|
.op none y0 [117,116] (.store 6 (.t 117) (.t 116))<|
.nil)))
 (.z (.m 89 9<|
.m 90 2<|
.k 91 y6 7 [(.t 89),(.t 90)]<|
.nil)
 (.z (.f 92 4 10<|
.op none .any [92] (.store 1 (.t 92) (.i 2))<|
.nil)
 (.ops (.f 93 5 10<|
.l 94 .any 93<|
.m 95 14<|
.m 96 2<|
.op (some 97) Z8 [95,96] (.build [y1,V.nils] [(0,1,(.t 95)),(1,1,(.t 96))])<|
.p 98 [97] (.buildSlice 46 1 [y1,V.nils] [(0,2,(.t 97))])<|
.O 99 .one (.append 46 2 32 (.t 94) (.t 98))<|
.f 100 5 10<|
.w 1 100 99<|
.nil))))))))))
 (.keep mO [] [] cc7)))
def KI (E:EB) (D:Az) (W:AM) (K5:Nat->Nat->Bool->Nat->Nat->Nat->Nat->Bool->H->AH) (K7:Int->V->V->Nat->Nat->Bool->Nat->Nat->Nat->Nat->Bool->Int->H->AH) (a:Int) (b c:V) (d e:Nat) (f:Bool) (g h i j:Nat) (k:Bool) (l:Int) (J:H):AH:=
 BR (fun c1 s2=>
 AS c1 (
 AT 1 b l fun b4 o5=>
 BL E s2 b4 o5 fun u6=>
 An u6 fun x7=>
 AS (not x7) (
 K7 a b c d e f g h i j k l s2) (
 AS (Ep l (AA 2)) (
 let s8:=DR s2 (.cells [.int .u8 (AA 128)]);
 AW (D 7 [.ptr g h,.sl (H.next s2) 0 1 (.ex 1)] s8) fun u9 s10=>
 Bc u9 fun l11=>
 AQ l11 (
 BL E s10 i (Ac j 3) fun u12=>
 AT 6 u12 l fun b13 o14=>
 Dt 6 b13 o14 (V.agg [.int .i64 (AA 1),.int .i64 (AA 1),V.nils,V.nils,.int .i64 (AA 0),V.nils]) s10 fun s15=>
 K7 a b c d e f g h i j k l s15)) (
 AW (D 7 [.ptr g h,c] s2) fun u16 s17=>
 Bc u16 fun l18=>
 AQ l18 (
 Dt 1 i (Ac j 4) (V.int .i64 (AA 2)) s17 fun s19=>
 BL E s19 i (Ac j 5) fun u20=>
 HA [(0,1,(V.int .i64 l)),(1,1,c)] [.int .i64 (AA 0),V.nils] fun l21=>
 A4 .i64 l21 fun x24 l23=>
 AE l23 fun x25 l26=>
 AQ l26 (
 IT (allOne [.int .i64 x24,x25]) (
 let s27:=DR s19 (.cells [.int .i64 x24,x25]);
 Ee E 2 32 u20 (V.sl (H.next s19) 0 1 (.ex 1)) s27 fun u28 s29=>
 Cm u28 (
 Dt 1 i (Ac j 5) u28 s29 fun s30=>
 K7 a b c d e f g h i j k l s30))))))) (
 K5 d e f g h i j k s2)) fun k3=>
 AS (Ep l a) (
 BA b fun n31=>
 k3 (Ep l (AA n31)) J) (
 k3 false J)
def KY:XC:=(.ops (.m 87 14<|
.b 88 .add .none (.t 87) (.i 1)<|
.m 14 88<|
.nil))
def bR (E:EB) (D:Az) (W:AM) (R6:Int->V->V->Nat->Nat->Bool->Nat->Nat->Nat->Nat->Bool->Int->H->AH) (a:Int) (b c:V) (d e:Nat) (f:Bool) (g h i j:Nat) (k:Bool) (l:Int) (J:H):AH:=
 R6 a b c d e f g h i j k (CU .i64 l (AA 1)) J
def ABg (a:Int) (b c:V) (J:H):St:=⟨[(0,.int .i64 a),(1,b),(2,c)],[],[],J⟩
def vE (a:Int) (b c:V) (d e:Nat) (f:Bool) (g h:Nat) (J:H):St:=⟨[(0,.int .i64 a),(1,b),(2,c),(7,.ptr d e),(8,.bool f),(9,.ptr g h)],[],[],J⟩
def vD (a:Int) (b c:V) (d e:Nat) (f:Bool) (g h i j:Nat) (k:Bool) (J:H):St:=⟨[(0,.int .i64 a),(1,b),(2,c),(7,.ptr d e),(8,.bool f),(9,.ptr g h),(10,.ptr i j),(11,.bool k)],[],[],J⟩
def V6 (a:Int) (b c:V) (d e:Nat) (f:Bool) (g h i j:Nat) (k:Bool) (l:Int) (J:H):St:=⟨[(0,.int .i64 a),(1,b),(2,c),(7,.ptr d e),(8,.bool f),(9,.ptr g h),(10,.ptr i j),(11,.bool k),(12,.int .i64 l)],[],[],J⟩
def ABf (a b:Nat) (c:Bool) (d e f g:Nat) (h:Bool) (J:H):St:=⟨[(7,.ptr a b),(8,.bool c),(9,.ptr d e),(10,.ptr f g),(11,.bool h)],[],[],J⟩
def V5 (a:Int) (b c:V) (d e:Nat) (f:Bool) (g h i j:Nat) (k:Bool) (l:Int) (J:H):St:=⟨[(0,.int .i64 a),(1,b),(2,c),(7,.ptr d e),(8,.bool f),(9,.ptr g h),(10,.ptr i j),(11,.bool k),(14,.int .i64 l)],[],[],J⟩
theorem AG1 (cc1:XC) (a:Int) (b c:V) (J:H) :
 AU E D W N (xp cc1) (ABg a b c J) (Eb E) nX (Eb E) =
 Vu E D W (fun a b c d e f g h J=>AU E D W N cc1 (vE a b c d e f g h J) (Eb E) nX (Eb E)) a b c J:=by kernel_rfl
theorem AG0 (cc2:XC) (cc3:XC) (a:Int) (b c:V) (d e:Nat) (f:Bool) (g h:Nat) (J:H) :
 AU E D W N (ka cc2 cc3) (vE a b c d e f g h J) (Eb E) nX (Eb E) =
 W6 E D W (fun a b c d e f g h i j k l J=>Aw (fun rec s'=>AU E D W N cc3 s' (kX mP [] [] rec) (uv E D W N cc2) (Eb E)) N (V6 a b c d e f g h i j k l J)) a b c d e f g h J:=by kernel_rfl
theorem AGz (cc5:XC) (cc6:XC) (a:Int) (b c:V) (d e:Nat) (f:Bool) (g h i j:Nat) (k:Bool) (J:H) :
 AU E D W N (On cc5 cc6) (vD a b c d e f g h i j k J) (Eb E) nX (Eb E) =
 AAl E D W (fun a b c d e f g h i j k l J=>Aw (fun rec s'=>AU E D W N cc6 s' (kX mO [] [] rec) (uu E D W N cc5) (Eb E)) N (V5 a b c d e f g h i j k l J)) a b c d e f g h i j k J:=by kernel_rfl
theorem AGy (cc2:XC) (cc4:XC) (li3:St->AH) (a:Int) (b c:V) (d e:Nat) (f:Bool) (g h i j:Nat) (k:Bool) (l:Int) (J:H) :
 AU E D W N (WH cc4) (V6 a b c d e f g h i j k l J) (kX mP [] [] li3) (uv E D W N cc2) (Eb E) =
 Vt E D W (fun a b c d e f g h i j k J=>AU E D W N cc2 (vD a b c d e f g h i j k J) (Eb E) nX (Eb E)) (fun a b c d e f g h i j k l J=>AU E D W N cc4 (V6 a b c d e f g h i j k l J) (kX mP [] [] li3) (uv E D W N cc2) (Eb E)) a b c d e f g h i j k l J:=by kernel_rfl
theorem AGx (cc2:XC) (li3:St->AH) (a:Int) (b c:V) (d e:Nat) (f:Bool) (g h i j:Nat) (k:Bool) (l:Int) (J:H) :
 AU E D W N (Rt ) (V6 a b c d e f g h i j k l J) (kX mP [] [] li3) (uv E D W N cc2) (Eb E) =
 oM E D W (fun a b c d e f g h i j k l J=>li3 (V6 a b c d e f g h i j k l J)) a b c d e f g h i j k l J:=by kernel_rfl
theorem AGw (cc5:XC) (cc7:XC) (li6:St->AH) (a:Int) (b c:V) (d e:Nat) (f:Bool) (g h i j:Nat) (k:Bool) (l:Int) (J:H) :
 AU E D W N (L3 cc7) (V5 a b c d e f g h i j k l J) (kX mO [] [] li6) (uu E D W N cc5) (Eb E) =
 KI E D W (fun d e f g h i j k J=>AU E D W N cc5 (ABf d e f g h i j k J) (Eb E) nX (Eb E)) (fun a b c d e f g h i j k l J=>AU E D W N cc7 (V5 a b c d e f g h i j k l J) (kX mO [] [] li6) (uu E D W N cc5) (Eb E)) a b c d e f g h i j k l J:=by kernel_rfl
theorem AGv (cc5:XC) (li6:St->AH) (a:Int) (b c:V) (d e:Nat) (f:Bool) (g h i j:Nat) (k:Bool) (l:Int) (J:H) :
 AU E D W N (KY ) (V5 a b c d e f g h i j k l J) (kX mO [] [] li6) (uu E D W N cc5) (Eb E) =
 bR E D W (fun a b c d e f g h i j k l J=>li6 (V5 a b c d e f g h i j k l J)) a b c d e f g h i j k l J:=by kernel_rfl
def YA (E:EB) (D:Az) (W:AM) (N:Nat):=oL E D W
theorem ACA (a b:Nat) (c:Bool) (d e f g:Nat) (h:Bool) (J:H) :
 AU E D W N Jf (ABf a b c d e f g h J) (Eb E) nX (Eb E)=YA E D W N a b c d e f g h J:=by kernel_rfl
def ACL (E:EB) (D:Az) (W:AM) (N:Nat) (R6:Int->V->V->Nat->Nat->Bool->Nat->Nat->Nat->Nat->Bool->Int->H->AH):=bR E D W R6
theorem AB9 (li6:St->AH) (a:Int) (b c:V) (d e:Nat) (f:Bool) (g h i j:Nat) (k:Bool) (l:Int) (J:H) :
 AU E D W N KY (V5 a b c d e f g h i j k l J) (kX mO [] [] li6) (uu E D W N Jf) (Eb E)=ACL E D W N (fun a b c d e f g h i j k l J=>li6 (V5 a b c d e f g h i j k l J)) a b c d e f g h i j k l J:=by
 refine(AGv E D W N Jf li6 a b c d e f g h i j k l J).trans ?_
 kernel_rfl
def WA (n:Nat):Int->V->V->Nat->Nat->Bool->Nat->Nat->Nat->Nat->Bool->Int->H->AH:=
 Nat.rec (fun _ _ _ _ _ _ _ _ _ _ _ _ _=>none) (fun _ ih=>KI E D W (YA E D W N ) (ACL E D W N ih)) n
theorem AB5 (n:Nat):∀(a:Int) (b c:V) (d e:Nat) (f:Bool) (g h i j:Nat) (k:Bool) (l:Int) (J:H),
 Aw (fun rec s'=>AU E D W N (L3 KY) s' (kX mO [] [] rec) (uu E D W N Jf) (Eb E)) n (V5 a b c d e f g h i j k l J)=WA E D W N n a b c d e f g h i j k l J:=by
 induction n with
 | zero=>intro a b c d e f g h i j k l J;rfl
 | succ n ihn=>
  intro a b c d e f g h i j k l J
  rw[BB]
  refine(AGw E D W N Jf KY (Aw (fun rec s'=>AU E D W N (L3 KY) s' (kX mO [] [] rec) (uu E D W N Jf) (Eb E)) n) a b c d e f g h i j k l J).trans ?_
  simp only[ihn,ACA,AB9]
  kernel_rfl
def jI:=AAl E D W (WA E D W N N)
theorem ACC (a:Int) (b c:V) (d e:Nat) (f:Bool) (g h i j:Nat) (k:Bool) (J:H) :
 AU E D W N (On Jf (L3 KY)) (vD a b c d e f g h i j k J) (Eb E) nX (Eb E)=jI E D W N a b c d e f g h i j k J:=by
 refine(AGz E D W N Jf (L3 KY)  a b c d e f g h i j k J).trans ?_
 simp only[AB5]
 kernel_rfl
def ACN (E:EB) (D:Az) (W:AM) (N:Nat) (R3:Int->V->V->Nat->Nat->Bool->Nat->Nat->Nat->Nat->Bool->Int->H->AH):=oM E D W R3
theorem ACB (li3:St->AH) (a:Int) (b c:V) (d e:Nat) (f:Bool) (g h i j:Nat) (k:Bool) (l:Int) (J:H) :
 AU E D W N Rt (V6 a b c d e f g h i j k l J) (kX mP [] [] li3) (uv E D W N (On Jf (L3 KY))) (Eb E)=ACN E D W N (fun a b c d e f g h i j k l J=>li3 (V6 a b c d e f g h i j k l J)) a b c d e f g h i j k l J:=by
 refine(AGx E D W N (On Jf (L3 KY)) li3 a b c d e f g h i j k l J).trans ?_
 kernel_rfl
def X6 (n:Nat):Int->V->V->Nat->Nat->Bool->Nat->Nat->Nat->Nat->Bool->Int->H->AH:=
 Nat.rec (fun _ _ _ _ _ _ _ _ _ _ _ _ _=>none) (fun _ ih=>Vt E D W (jI E D W N ) (ACN E D W N ih)) n
theorem AB6 (n:Nat):∀(a:Int) (b c:V) (d e:Nat) (f:Bool) (g h i j:Nat) (k:Bool) (l:Int) (J:H),
 Aw (fun rec s'=>AU E D W N (WH Rt) s' (kX mP [] [] rec) (uv E D W N (On Jf (L3 KY))) (Eb E)) n (V6 a b c d e f g h i j k l J)=X6 E D W N n a b c d e f g h i j k l J:=by
 induction n with
 | zero=>intro a b c d e f g h i j k l J;rfl
 | succ n ihn=>
  intro a b c d e f g h i j k l J
  rw[BB]
  refine(AGy E D W N (On Jf (L3 KY)) Rt (Aw (fun rec s'=>AU E D W N (WH Rt) s' (kX mP [] [] rec) (uv E D W N (On Jf (L3 KY))) (Eb E)) n) a b c d e f g h i j k l J).trans ?_
  simp only[ihn,ACC,ACB]
  kernel_rfl
def ACO:=W6 E D W (X6 E D W N N)
theorem ACD (a:Int) (b c:V) (d e:Nat) (f:Bool) (g h:Nat) (J:H) :
 AU E D W N (ka (On Jf (L3 KY)) (WH Rt)) (vE a b c d e f g h J) (Eb E) nX (Eb E)=ACO E D W N a b c d e f g h J:=by
 refine(AG0 E D W N (On Jf (L3 KY)) (WH Rt)  a b c d e f g h J).trans ?_
 simp only[AB6]
 kernel_rfl
def ACP:=Vu E D W (ACO E D W N )
theorem ACE (a:Int) (b c:V) (J:H) :
 AU E D W N (xp (ka (On Jf (L3 KY)) (WH Rt))) (ABg a b c J) (Eb E) nX (Eb E)=ACP E D W N a b c J:=by
 refine(AG1 E D W N (ka (On Jf (L3 KY)) (WH Rt))  a b c J).trans ?_
 simp only[ACD]
 kernel_rfl
def F3 (args:List V) (J:H):AH:=
 A4 .i64 args fun x3 l2=>
 AE l2 fun x4 l5=>
 AE l5 fun x6 l7=>
 AQ l7 (
 ACP E D W N x3 x4 x6 J)
def A3:DV:=⟨153,[.i,.any,.any],[(.tmp 6)],(xp (ka (On Jf (L3 KY)) (WH Rt)))⟩
theorem FE3 (args:List V) (J:H):Br E D W N A3 args J=F3 E D W N args J:=by
 unfold F3
 simp only[<-ACE]
 kernel_rfl
def zw:List (Nat × DM):=[(0,.ptr),(1,(.int .u64)),(6,.i)]
def Om (E:EB):St->AH:=fun s=>EA E s [] fun l=>some (EW l,s.J)
def xn (cc1:XC):XC:=(.z (.m 7 2<|
.p 8 [7] (.min (.t 7) [(.i 64)])<|
.p 9 [8] (.max (.i 0) [(.t 8)])<|
.m 2 9<|
.nil)
 (.z (.m 10 2<|
.b 11 .sub .none (.t 10) (.i 1)<|
.m 6 11<|
.nil)
 (.block 0 (.loop zw [] [] cc1))))
def oK (E:EB) (D:Az) (W:AM) (K1:Nat->Nat->Int->Int->H->AH) (a b:Nat) (c d:Int) (J:H):AH:=
 K1 a b c (E6 .i64 (GW (AA 0) (HL d (AA 64))) (AA 1)) J
def cA:XC:=(.seq (.z (.m 12 6<|
.b 13 .geq .none (.t 12) (.i 0)<|
.nil)
 (.cond (.tmp 13) .skip
 Oe))
 (.seq (.block 1 (.ops (.m 16 0<|
.n 17 16<|
.f 18 0 17<|
.m 19 1<|
.m 20 6<|
.P 21 (.conv (.toInt .u64) (.t 20))<|
.b 22 .shr .none (.t 19) (.t 21)<|
.b 23 .and .none (.t 22) lI<|
.P 24 (.conv (.toInt .i64) (.t 23))<|
.k 25 y6 13 [(.t 18),(.t 24)]<|
.nil)))
 (.ops (.m 14 6<|
.b 15 .sub .none (.t 14) (.i 1)<|
.m 6 15<|
.nil))))
def oJ (E:EB) (D:Az) (W:AM) (R1:Nat->Nat->Int->Int->H->AH) (a b:Nat) (c d:Int) (J:H):AH:=
 AS (Hk (AA 0) d) (
 Pz (BP .u64 d) fun n1=>
 AW (D 13 [.ptr a b,.int .i64 (BP .i64 (Je .u64 (LA .u64 c n1) (AA 1)))] J) fun u2 s3=>
 Bc u2 fun l4=>
 AQ l4 (
 R1 a b c (E6 .i64 d (AA 1)) s3)) (
 some ((V.tup []),J))
def ABe (a b:Nat) (c d:Int) (J:H):St:=⟨[(0,.ptr a b),(1,.int .u64 c),(2,.int .i64 d)],[],[],J⟩
def oQ (a b:Nat) (c d:Int) (J:H):St:=⟨[(0,.ptr a b),(1,.int .u64 c),(6,.int .i64 d)],[],[],J⟩
theorem AGu (cc1:XC) (a b:Nat) (c d:Int) (J:H) :
 AU E D W N (xn cc1) (ABe a b c d J) (Om E) nX (Om E) =
 oK E D W (fun a b c e J=>Aw (fun rec s'=>AU E D W N cc1 s' (kX zw [] [] rec) (Bn 0 (Om E) nX) (Om E)) N (oQ a b c e J)) a b c d J:=by kernel_rfl
theorem AGt (li1:St->AH) (a b:Nat) (c d:Int) (J:H) :
 AU E D W N (cA ) (oQ a b c d J) (kX zw [] [] li1) (Bn 0 (Om E) nX) (Om E) =
 oJ E D W (fun a b c d J=>li1 (oQ a b c d J)) a b c d J:=by kernel_rfl
def pL (E:EB) (D:Az) (W:AM) (N:Nat) (n:Nat):Nat->Nat->Int->Int->H->AH:=
 Nat.rec (fun _ _ _ _ _=>none) (fun _ ih=>oJ E D W ih) n
theorem AB4 (n:Nat):∀(a b:Nat) (c d:Int) (J:H),
 Aw (fun rec s'=>AU E D W N cA s' (kX zw [] [] rec) (Bn 0 (Om E) nX) (Om E)) n (oQ a b c d J)=pL E D W N n a b c d J:=by
 induction n with
 | zero=>intro a b c d J;rfl
 | succ n ihn=>
  intro a b c d J
  rw[BB]
  refine(AGt E D W N  (Aw (fun rec s'=>AU E D W N cA s' (kX zw [] [] rec) (Bn 0 (Om E) nX) (Om E)) n) a b c d J).trans ?_
  simp only[ihn]
  kernel_rfl
def ACG:=oK E D W (pL E D W N N)
theorem AB8 (a b:Nat) (c d:Int) (J:H) :
 AU E D W N (xn cA) (ABe a b c d J) (Om E) nX (Om E)=ACG E D W N a b c d J:=by
 refine(AGu E D W N cA  a b c d J).trans ?_
 simp only[AB4]
 kernel_rfl
def F6 (args:List V) (J:H):AH:=
 AE args fun x1 l2=>
 Ar x1 fun b3 o4=>
 A4 .u64 l2 fun x7 l6=>
 A4 .i64 l6 fun x10 l9=>
 AQ l9 (
 ACG E D W N b3 o4 x7 x10 J)
def A6:DV:=⟨26,[.ptr,(.int .u64),.i],[],(xn cA)⟩
theorem FE6 (args:List V) (J:H):Br E D W N A6 args J=F6 E D W N args J:=by
 unfold F6
 simp only[<-AB8]
 kernel_rfl
def zu:List (Nat × DM):=[(0,.any),(1,.any),(4,.any),(5,.i)]
def Ol (E:EB):St->AH:=fun s=>EA E s [] fun l=>some (EW l,s.J)
def xm (cc1:XC):XC:=(.z (.m 6 1<|
.u 7 6<|
.k 8 .one 14 [(.t 7)]<|
.m 4 8<|
.nil)
 (.z (.q 5 0<|
.nil)
 (.block 0 (.loop zu [] [] cc1))))
def fc (E:EB) (D:Az) (W:AM) (K1:V->V->V->Int->H->AH) (a b:V) (J:H):AH:=
 BA b fun n1=>
 AW (D 14 [.int .i64 (AA n1)] J) fun u2 s3=>
 Cm u2 (
 K1 a b u2 (AA 0) s3)
def bz:XC:=(.seq (.z (.m 9 5<|
.m 10 4<|
.u 11 10<|
.b 12 .lss .none (.t 9) (.t 11)<|
.nil)
 (.cond (.tmp 12) .skip
 Oe))
 (.seq (.block 1 (.z (.m 15 0<|
.m 16 4<|
.m 17 5<|
.s 18 1 16 17<|
.l 19 .i 18<|
.k 20 y6 15 [(.t 15),(.t 19)]<|
.nil)
 (.z (.m 21 0<|
.m 22 1<|
.m 23 4<|
.m 24 5<|
.s 25 1 23 24<|
.l 26 .i 25<|
.p 27 [22,26] (.sliceSl 1 (.t 22) none (some (.t 26)) none)<|
.k 28 y6 16 [(.t 21),(.t 27)]<|
.nil)
 (.ops (.m 29 1<|
.m 30 4<|
.m 31 5<|
.s 32 1 30 31<|
.l 33 .i 32<|
.p 34 [29,33] (.sliceSl 1 (.t 29) (some (.t 33)) none none)<|
.m 1 34<|
.nil)))))
 (.ops (.m 13 5<|
.b 14 .add .none (.t 13) (.i 1)<|
.m 5 14<|
.nil))))
def Vn (E:EB) (D:Az) (W:AM) (R1:V->V->V->Int->H->AH) (a b c:V) (d:Int) (J:H):AH:=
 BA c fun n1=>
 AS (Ep d (AA n1)) (
 AT 1 c d fun b2 o3=>
 BL E J b2 o3 fun u4=>
 Ah .i64 u4 fun x5=>
 AW (D 15 [a,.int .i64 x5] J) fun u6 s7=>
 Bc u6 fun l8=>
 AQ l8 (
 AT 1 c d fun b9 o10=>
 BL E s7 b9 o10 fun u11=>
 Ah .i64 u11 fun x12=>
 gK (CP 1 b none (some (V.int .i64 x12)) none) fun u13=>
 AW (D 16 [a,u13] s7) fun u14 s15=>
 Bc u14 fun l16=>
 AQ l16 (
 AT 1 c d fun b17 o18=>
 BL E s15 b17 o18 fun u19=>
 Ah .i64 u19 fun x20=>
 gK (CP 1 b (some (V.int .i64 x20)) none none) fun u21=>
 R1 a u21 c (CU .i64 d (AA 1)) s15))) (
 some ((V.tup []),J))
def ABd (a b:V) (J:H):St:=⟨[(0,a),(1,b)],[],[],J⟩
def oP (a b c:V) (d:Int) (J:H):St:=⟨[(0,a),(1,b),(4,c),(5,.int .i64 d)],[],[],J⟩
theorem AGs (cc1:XC) (a b:V) (J:H) :
 AU E D W N (xm cc1) (ABd a b J) (Ol E) nX (Ol E) =
 fc E D W (fun a b c d J=>Aw (fun rec s'=>AU E D W N cc1 s' (kX zu [] [] rec) (Bn 0 (Ol E) nX) (Ol E)) N (oP a b c d J)) a b J:=by kernel_rfl
theorem AGr (li1:St->AH) (a b c:V) (d:Int) (J:H) :
 AU E D W N (bz ) (oP a b c d J) (kX zu [] [] li1) (Bn 0 (Ol E) nX) (Ol E) =
 Vn E D W (fun a b c d J=>li1 (oP a b c d J)) a b c d J:=by kernel_rfl
def xB (E:EB) (D:Az) (W:AM) (N:Nat) (n:Nat):V->V->V->Int->H->AH:=
 Nat.rec (fun _ _ _ _ _=>none) (fun _ ih=>Vn E D W ih) n
theorem AB3 (n:Nat):∀(a b c:V) (d:Int) (J:H),
 Aw (fun rec s'=>AU E D W N bz s' (kX zu [] [] rec) (Bn 0 (Ol E) nX) (Ol E)) n (oP a b c d J)=xB E D W N n a b c d J:=by
 induction n with
 | zero=>intro a b c d J;rfl
 | succ n ihn=>
  intro a b c d J
  rw[BB]
  refine(AGr E D W N  (Aw (fun rec s'=>AU E D W N bz s' (kX zu [] [] rec) (Bn 0 (Ol E) nX) (Ol E)) n) a b c d J).trans ?_
  simp only[ihn]
  kernel_rfl
def ACF:=fc E D W (xB E D W N N)
theorem AB7 (a b:V) (J:H) :
 AU E D W N (xm bz) (ABd a b J) (Ol E) nX (Ol E)=ACF E D W N a b J:=by
 refine(AGs E D W N bz  a b J).trans ?_
 simp only[AB3]
 kernel_rfl
def F7 (args:List V) (J:H):AH:=
 AE args fun x1 l2=>
 AE l2 fun x3 l4=>
 AQ l4 (
 ACF E D W N x1 x3 J)
def A7:DV:=⟨35,lB,[],(xm bz)⟩
theorem FE7 (args:List V) (J:H):Br E D W N A7 args J=F7 E D W N args J:=by
 unfold F7
 simp only[<-AB7]
 kernel_rfl
def bU:List BY:=[⟨(some 38),.mov (.tmp 2),none⟩,⟨(some 39),.call 18 [(.tmp 38)],none⟩,⟨(some 40),.load (some 4) (.tmp 3),none⟩,⟨(some 41),.build [(V.int .i64 (AA 0))] [],none⟩,⟨(some 42),.box 70 (.tmp 41),none⟩,⟨(some 43),.build [V.nilp,(V.str ⟨0,0⟩),V.nils,V.nils,V.nils,V.nilp] [(0,1,(.tmp 39)),(1,4,(.tmp 40)),(5,1,(.tmp 42))],none⟩,⟨(some 44),.box 72 (.tmp 43),none⟩,⟨(some 8),.mov (.tmp 44),none⟩]
def j3:List DP:=[⟨0,[2]⟩,⟨1,[38]⟩,⟨0,[3]⟩,⟨0,[]⟩,⟨8,[41]⟩,⟨31,[39,40,42]⟩,⟨63,[43]⟩,⟨127,[44]⟩]
def AIC:XC:=(.z (.P 3 (.box 30 (.t 0))<|
.p 6 [] su<|
.q 7 0<|
.nil)
 (.seq (.block 0 (.z (.m 13 1<|
.b 14 .lss .none (.t 13) (.i 0)<|
.m 15 14<|
.gO 15 false (.p 16 [1,15] cE<|
.p 17 [3,15] (.faddr 3 (.t 3))<|
.p 18 [17,15] (.load none (.t 17))<|
.p 19 [18,15] (.len false (.t 18))<|
.p 20 [16,19,15] (.bin .geq .none (.t 16) (.t 19))<|
.nil) 21 15 20<|
.m 12 21<|
.nil)
 (.cond (.tmp 12) (.z (.op (some 22) y0 [] (.build [y1,y1,V.nils,V.nils,y1,V.nils] [])<|
.op none y0 [6,22] (.store 6 (.t 6) (.t 22))<|
.q 7 9<|
.nil)
 .ret)
 (.z (.m 24 2<|
.u 25 24<|
.b 26 .gtr .none (.t 25) (.i 70000)<|
.m 23 26<|
.nil)
 (.cond (.tmp 23) (.z (.op (some 27) y0 [] (.build [y1,y1,V.nils,V.nils,y1,V.nils] [])<|
.op none y0 [6,27] (.store 6 (.t 6) (.t 27))<|
.q 7 5<|
.nil)
 .ret)
 (.z (.m 29 2<|
.u 30 29<|
.b 31 .eql .none (.t 30) (.i 0)<|
.m 32 31<|
.gO 32 false (.op (some 33) y4 [3,32] (.load (some 4) (.t 3))<|
.op (some 34) .bool [33,32] (.call 17 [(.t 33)])<|
.p 35 [34,32] (.un .not (.t 34))<|
.nil) 36 32 35<|
.m 28 36<|
.nil)
 (.cond (.tmp 28) (.z (.op (some 37) y0 [] (.build [y1,y1,V.nils,V.nils,y1,V.nils] [])<|
.op none y0 [6,37] (.store 6 (.t 6) (.t 37))<|
.q 7 4<|
.nil)
 .ret)
 .skip)))))))
 (.seq (.keep [(1,.i),(2,.any),(3,.ptr),(6,.ptr)] [] [] (.gdraw bU j3 [(1,.i),(3,.ptr),(6,.ptr),(8,.ptr)]))
 (.z (.m 45 8<|
.m 46 1<|
.k 47 y0 19 [(.t 45),(.t 46),(.i 1)]<|
.pal 9 [] 43 [y1,y1,V.nils,V.nils,y1,V.nils]<|
.op none y0 [9,47] (.store 6 (.t 9) (.t 47))<|
.nil)
 (.seq (.z (.m 48 8<|
.n 49 48<|
.f 50 0 49<|
.l 51 .any 50<|
.k 52 .i 20 [(.t 51)]<|
.b 53 .neq .none (.t 52) (.i 0)<|
.m 54 53<|
.gO 54 false (.op (some 55) y4 [3,54] (.load (some 4) (.t 3))<|
.p 56 [1,54] cE<|
.op (some 57) y0 [9,54] (.load (some 6) (.t 9))<|
.op (some 58) .bool [55,56,57,54] (.call 21 [(.t 55),(.t 56),(.t 57)])<|
.p 59 [58,54] (.un .not (.t 58))<|
.nil) 60 54 59<|
.nil)
 (.cond (.tmp 60) (.z (.op (some 61) y0 [] (.build [y1,y1,V.nils,V.nils,y1,V.nils] [])<|
.op none y0 [6,61] (.store 6 (.t 6) (.t 61))<|
.q 7 4<|
.nil)
 .ret)
 .skip))
 (.seq (.z (.O 63 y4 (.load (some 4) (.t 3))<|
.m 64 1<|
.O 65 y0 (.load (some 6) (.t 9))<|
.k 66 (.tup Z3) 22 [(.t 63),(.t 64),(.t 65)]<|
.m 62 66<|
.P 67 (.extract 0 (.t 62))<|
.P 68 (.extract 1 (.t 62))<|
.m 10 67<|
.m 11 68<|
.nil)
 (.z (.m 69 11<|
.b 70 .neq .none (.t 69) (.i 0)<|
.nil)
 (.cond (.tmp 70) (.z (.op (some 71) y0 [] (.build [y1,y1,V.nils,V.nils,y1,V.nils] [])<|
.op none y0 [6,71] (.store 6 (.t 6) (.t 71))<|
.q 7 4<|
.nil)
 .ret)
 .skip)))
 (.z (.O 72 y0 (.load (some 6) (.t 9))<|
.op none y0 [6,72] (.store 6 (.t 6) (.t 72))<|
.q 7 0<|
.nil)
 .ret)))))))
def fV (a:BS) (b c d:V) (e:Int) (f:V) (J:H):AH:=
 G9 [.str a,b,c,d] J fun s1=>
 let s2:=DR s1 (.cells [.int .i64 (AA 0),.int .i64 (AA 0),V.nils,V.nils,.int .i64 (AA 0),V.nils]);
 BR (fun c3 s4=>
 AS c3 (
 Dt 6 (H.next s1) 0 (V.agg [.int .i64 (AA 0),.int .i64 (AA 0),V.nils,V.nils,.int .i64 (AA 0),V.nils]) s4 fun s6=>
 BQ E s6 (H.next s1) 0 6 fun u7=>
 some ((V.tup [.agg u7,.int .i64 (AA 9)]),s6)) (
 BA f fun n8=>
 AS (Ep (AA 70000) (AA n8)) (
 Dt 6 (H.next s1) 0 (V.agg [.int .i64 (AA 0),.int .i64 (AA 0),V.nils,V.nils,.int .i64 (AA 0),V.nils]) s4 fun s9=>
 BQ E s9 (H.next s1) 0 6 fun u10=>
 some ((V.tup [.agg u10,.int .i64 (AA 5)]),s9)) (
 BA f fun n11=>
 BR (fun c12 s13=>
 AS c12 (
 Dt 6 (H.next s1) 0 (V.agg [.int .i64 (AA 0),.int .i64 (AA 0),V.nils,V.nils,.int .i64 (AA 0),V.nils]) s13 fun s15=>
 BQ E s15 (H.next s1) 0 6 fun u16=>
 some ((V.tup [.agg u16,.int .i64 (AA 4)]),s15)) (
 DA (W bU j3 [(1,.int .i64 e),(2,f),(3,.ptr (H.next J) 0),(6,.ptr (H.next s1) 0)] s13) fun e17 s18=>
 BW e17 1 fun u19=>
 Ah .i64 u19 fun x20=>
 BW e17 3 fun u21=>
 Ar u21 fun b22 o23=>
 BW e17 6 fun u24=>
 Ar u24 fun b25 o26=>
 BW e17 8 fun u27=>
 Ar u27 fun b28 o29=>
 AW (D 19 [.ptr b28 o29,.int .i64 x20,.int .i64 (AA 1)] s18) fun u30 s31=>
 Cw u30 fun l32=>
 A4 .i64 l32 fun x35 l34=>
 A4 .i64 l34 fun x38 l37=>
 AE l37 fun x39 l40=>
 AE l40 fun x41 l42=>
 A4 .i64 l42 fun x45 l44=>
 AE l44 fun x46 l47=>
 AQ l47 (
 IT (allOne [.int .i64 x35,.int .i64 x38,x39,x41,.int .i64 x45,x46]) (
 BL E s31 b28 o29 fun u48=>
 AW (D 20 [u48] s31) fun u49 s50=>
 Ah .i64 u49 fun x51=>
 BR (fun c52 s53=>
 AS c52 (
 Dt 6 b25 o26 (V.agg [.int .i64 (AA 0),.int .i64 (AA 0),V.nils,V.nils,.int .i64 (AA 0),V.nils]) s53 fun s55=>
 BQ E s55 b25 o26 6 fun u56=>
 some ((V.tup [.agg u56,.int .i64 (AA 4)]),s55)) (
 BQ E s53 b22 o23 4 fun l57=>
 Rx l57 fun x60 l59=>
 AE l59 fun x61 l62=>
 AE l62 fun x63 l64=>
 AE l64 fun x65 l66=>
 AQ l66 (
 AW (D 22 [.agg [.str x60,x61,x63,x65],.int .i64 x20,.agg [.int .i64 x35,.int .i64 x38,x39,x41,.int .i64 x45,x46]] s53) fun u67 s68=>
 Bc u67 fun l69=>
 AE l69 fun x70 l71=>
 A4 .i64 l71 fun x74 l73=>
 AQ l73 (
 AS (not (Cu x74 (AA 0))) (
 Dt 6 b25 o26 (V.agg [.int .i64 (AA 0),.int .i64 (AA 0),V.nils,V.nils,.int .i64 (AA 0),V.nils]) s68 fun s75=>
 BQ E s75 b25 o26 6 fun u76=>
 some ((V.tup [.agg u76,.int .i64 (AA 4)]),s75)) (
 Dt 6 b25 o26 (V.agg [.int .i64 x35,.int .i64 x38,x39,x41,.int .i64 x45,x46]) s68 fun s77=>
 BQ E s77 b25 o26 6 fun u78=>
 some ((V.tup [.agg u78,.int .i64 (AA 0)]),s77)))))) fun k54=>
 AS (not (Cu x51 (AA 0))) (
 k54 true s50) (
 BQ E s50 b22 o23 4 fun l79=>
 Rx l79 fun x82 l81=>
 AE l81 fun x83 l84=>
 AE l84 fun x85 l86=>
 AE l86 fun x87 l88=>
 AQ l88 (
 AW (D 21 [.agg [.str x82,x83,x85,x87],.int .i64 x20,.agg [.int .i64 x35,.int .i64 x38,x39,x41,.int .i64 x45,x46]] s50) fun u89 s90=>
 An u89 fun x91=>
 k54 (not x91) s90)))))) fun k14=>
 AS (Cu (AA n11) (AA 0)) (
 k14 true s4) (
 BQ E s4 (H.next J) 0 4 fun l92=>
 Rx l92 fun x95 l94=>
 AE l94 fun x96 l97=>
 AE l97 fun x98 l99=>
 AE l99 fun x100 l101=>
 AQ l101 (
 AW (D 17 [.agg [.str x95,x96,x98,x100]] s4) fun u102 s103=>
 An u102 fun x104=>
 k14 (not x104) s103))))) fun k5=>
 AS (Ep e (AA 0)) (
 k5 true s2) (
 BL E s2 (H.next J) 3 fun u105=>
 BA u105 fun n106=>
 k5 (Hk (AA n106) e) s2)
def F8 (N:Nat) (args:List V) (J:H):AH:=
 AE args fun x1 l2=>
 Cw x1 fun l3=>
 Rx l3 fun x6 l5=>
 AE l5 fun x7 l8=>
 AE l8 fun x9 l10=>
 AE l10 fun x11 l12=>
 AQ l12 (
 A4 .i64 l2 fun x15 l14=>
 AE l14 fun x16 l17=>
 AQ l17 (
 fV E D W x6 x7 x9 x11 x15 x16 J))
def A8:DV:=⟨73,[y4,.i,.any],[(.cell 6 (some 6)),(.tmp 7)],AIC⟩
theorem FE8 (args:List V) (J:H):Br E D W N A8 args J=F8 E D W N args J:=by kernel_rfl
def AIB:XC:=(.z (.c 2 V.nils<|
.nil)
 (.z (.m 4 0<|
.n 5 4<|
.f 6 0 5<|
.k 7 .one 23 [(.t 6)]<|
.m 3 7<|
.nil)
 (.seq (.z (.m 8 3<|
.u 9 8<|
.b 10 .eql .none (.t 9) (.i 0)<|
.nil)
 (.cond (.tmp 10) (.z (.p 11 [] y5<|
.m 2 11<|
.nil)
 .ret)
 .skip))
 (.z (.m 12 3<|
.m 2 12<|
.nil)
 .ret))))
def ux (E:EB) (D:Az) (W:AM) (a b:Nat) (J:H):AH:=
 AW (D 23 [.ptr a b] J) fun u1 s2=>
 Cm u1 (
 BA u1 fun n3=>
 AS (Cu (AA n3) (AA 0)) (
 let s4:=DR s2 (.cells [.int .u8 (AA 0)]);
 some ((V.sl (H.next s2) 0 1 (.ex 1)),s4)) (
 some (u1,s2)))
def F9 (N:Nat) (args:List V) (J:H):AH:=
 AE args fun x1 l2=>
 Ar x1 fun b3 o4=>
 AQ l2 (
 ux E D W b3 o4 J)
def A9:DV:=⟨13,[.ptr],[(.tmp 2)],AIB⟩
theorem FE9 (args:List V) (J:H):Br E D W N A9 args J=F9 E D W N args J:=by kernel_rfl
def AE8:XC:=(.z (.P 2 (.box 43 (.t 0))<|
.P 3 (.box 43 (.t 1))<|
.c 4 y3<|
.nil)
 (.z (.f 5 0 2<|
.l 6 .i 5<|
.f 7 0 3<|
.l 8 .i 7<|
.b 9 .eql .none (.t 6) (.t 8)<|
.m 10 9<|
.gA 10 true (.p 11 [2,10] (.faddr 1 (.t 2))<|
.op (some 12) .i [11,10] (.load none (.t 11))<|
.p 13 [3,10] (.faddr 1 (.t 3))<|
.op (some 14) .i [13,10] (.load none (.t 13))<|
.p 15 [12,14,10] (.bin .eql .none (.t 12) (.t 14))<|
.nil) 16 10 15<|
.m 17 16<|
.gA 17 true (.p 18 [2,17] (.faddr 2 (.t 2))<|
.p 19 [18,17] (.load none (.t 18))<|
.p 20 [3,17] (.faddr 2 (.t 3))<|
.p 21 [20,17] (.load none (.t 20))<|
.op (some 22) .bool [19,21,17] (.call 24 [(.t 19),(.t 21)])<|
.nil) 23 17 22<|
.m 24 23<|
.gA 24 true (.p 25 [2,24] (.faddr 3 (.t 2))<|
.p 26 [25,24] (.load none (.t 25))<|
.p 27 [3,24] (.faddr 3 (.t 3))<|
.p 28 [27,24] (.load none (.t 27))<|
.op (some 29) .bool [26,28,24] (.call 25 [(.t 26),(.t 28),(.con (V.fn 10 [] []))])<|
.nil) 30 24 29<|
.m 31 30<|
.gA 31 true (.p 32 [2,31] (.faddr 4 (.t 2))<|
.op (some 33) .i [32,31] (.load none (.t 32))<|
.p 34 [3,31] (.faddr 4 (.t 3))<|
.op (some 35) .i [34,31] (.load none (.t 34))<|
.p 36 [33,35,31] (.bin .eql .none (.t 33) (.t 35))<|
.nil) 37 31 36<|
.m 38 37<|
.gA 38 true (.p 39 [2,38] (.faddr 5 (.t 2))<|
.p 40 [39,38] (.load none (.t 39))<|
.p 41 [3,38] (.faddr 5 (.t 3))<|
.p 42 [41,38] (.load none (.t 41))<|
.op (some 43) .bool [40,42,38] (.call 26 [(.t 40),(.t 42),(.con (V.fn 27 [] []))])<|
.nil) 44 38 43<|
.m 4 44<|
.nil)
 .ret))
def V1 (E:EB) (D:Az) (W:AM) (a b:Int) (c d:V) (e:Int) (f:V) (g h:Int) (i j:V) (k:Int) (l:V) (J:H):AH:=
 G9 [.int .i64 a,.int .i64 b,c,d,.int .i64 e,f] J fun s1=>
 G9 [.int .i64 g,.int .i64 h,i,j,.int .i64 k,l] s1 fun s2=>
 BL E s2 (H.next J) 0 fun u3=>
 Ah .i64 u3 fun x4=>
 BL E s2 (H.next s1) 0 fun u5=>
 Ah .i64 u5 fun x6=>
 BR (fun c7 s8=>
 BR (fun c10 s11=>
 BR (fun c13 s14=>
 BR (fun c16 s17=>
 BR (fun c19 s20=>
 some ((V.bool c19),s20)) fun k21=>
 AS c16 (
 BL E s17 (H.next J) 5 fun u22=>
 BL E s17 (H.next s1) 5 fun u23=>
 AW (D 26 [u22,u23,.fn 27 [] []] s17) fun u24 s25=>
 An u24 fun x26=>
 k21 x26 s25) (
 k21 false s17)) fun k18=>
 AS c13 (
 BL E s14 (H.next J) 4 fun u27=>
 Ah .i64 u27 fun x28=>
 BL E s14 (H.next s1) 4 fun u29=>
 Ah .i64 u29 fun x30=>
 k18 (Cu x28 x30) s14) (
 k18 false s14)) fun k15=>
 AS c10 (
 BL E s11 (H.next J) 3 fun u31=>
 BL E s11 (H.next s1) 3 fun u32=>
 AW (D 25 [u31,u32,.fn 10 [] []] s11) fun u33 s34=>
 An u33 fun x35=>
 k15 x35 s34) (
 k15 false s11)) fun k12=>
 AS c7 (
 BL E s8 (H.next J) 2 fun u36=>
 BL E s8 (H.next s1) 2 fun u37=>
 AW (D 24 [u36,u37] s8) fun u38 s39=>
 An u38 fun x40=>
 k12 x40 s39) (
 k12 false s8)) fun k9=>
 AS (Cu x4 x6) (
 BL E s2 (H.next J) 1 fun u41=>
 Ah .i64 u41 fun x42=>
 BL E s2 (H.next s1) 1 fun u43=>
 Ah .i64 u43 fun x44=>
 k9 (Cu x42 x44) s2) (
 k9 false s2)
def xk (N:Nat) (args:List V) (J:H):AH:=
 AE args fun x1 l2=>
 Cw x1 fun l3=>
 A4 .i64 l3 fun x6 l5=>
 A4 .i64 l5 fun x9 l8=>
 AE l8 fun x10 l11=>
 AE l11 fun x12 l13=>
 A4 .i64 l13 fun x16 l15=>
 AE l15 fun x17 l18=>
 AQ l18 (
 AE l2 fun x19 l20=>
 Cw x19 fun l21=>
 A4 .i64 l21 fun x24 l23=>
 A4 .i64 l23 fun x27 l26=>
 AE l26 fun x28 l29=>
 AE l29 fun x30 l31=>
 A4 .i64 l31 fun x34 l33=>
 AE l33 fun x35 l36=>
 AQ l36 (
 AQ l20 (
 V1 E D W x6 x9 x10 x12 x16 x17 x24 x27 x28 x30 x34 x35 J)))
def A10:DV:=⟨45,[y0,y0],[(.tmp 4)],AE8⟩
theorem AHf (args:List V) (J:H):Br E D W N A10 args J=xk E D W N args J:=by kernel_rfl
def AE7:XC:=(.z (.m 4 1<|
.b 5 .neq .none (.t 4) (.i 0)<|
.nil)
 (.cond (.tmp 5) (.ops (.m 6 0<|
.m 7 0<|
.n 8 7<|
.f 9 0 8<|
.l 10 .any 9<|
.p 11 [] (.buildSlice 5 1 [(V.int .u8 Rv)] [(0,1,(.con (V.int .u8 (AA 1))))])<|
.O 12 .one (.append 5 1 1 (.t 10) (.t 11))<|
.n 13 6<|
.f 14 0 13<|
.w 1 14 12<|
.nil))
 (.ops (.m 15 0<|
.m 16 0<|
.n 17 16<|
.f 18 0 17<|
.l 19 .any 18<|
.p 20 [] y5<|
.O 21 .one (.append 5 1 1 (.t 19) (.t 20))<|
.n 22 15<|
.f 23 0 22<|
.w 1 23 21<|
.nil))))
def gg (E:EB) (D:Az) (W:AM) (a b:Nat) (c:Int) (J:H):AH:=
 AS (not (Cu c (AA 0))) (
 BL E J a b fun u1=>
 let s2:=DR J (.cells [.int .u8 (AA 1)]);
 Ee E 1 1 u1 (V.sl (H.next J) 0 1 (.ex 1)) s2 fun u3 s4=>
 Cm u3 (
 Dt 1 a b u3 s4 fun s5=>
 some ((V.tup []),s5))) (
 BL E J a b fun u6=>
 let s7:=DR J (.cells [.int .u8 (AA 0)]);
 Ee E 1 1 u6 (V.sl (H.next J) 0 1 (.ex 1)) s7 fun u8 s9=>
 Cm u8 (
 Dt 1 a b u8 s9 fun s10=>
 some ((V.tup []),s10)))
def F13 (N:Nat) (args:List V) (J:H):AH:=
 AE args fun x1 l2=>
 Ar x1 fun b3 o4=>
 A4 .i64 l2 fun x7 l6=>
 AQ l6 (
 gg E D W b3 o4 x7 J)
def A13:DV:=⟨24,[.ptr,.i],[],AE7⟩
theorem AHe (args:List V) (J:H):Br E D W N A13 args J=F13 E D W N args J:=by kernel_rfl
def WZ:List (Nat × DM):=[(0,.i),(3,.any)]
def IC (E:EB):St->AH:=fun s=>EA E s [(.tmp 2)] fun l=>some (EW l,s.J)
def oA (c0:XC):Nat->St->AH:=Bn 0 (dX E D W N (.keep WZ [] [] c0) (IC E) nX (IC E)) nX
def kp (cc1:XC) (cc2:XC):XC:=(.z (.c 2 V.nils<|
.nil)
 (.z (.m 5 0<|
.p 6 [5] (.max (.i 0) [(.t 5)])<|
.m 0 6<|
.nil)
 (.z (.c 3 V.nils<|
.nil)
 (.seq (.block 0 (.loop WZ [] [] cc2))
 (.keep WZ [] [] cc1)))))
def V0 (E:EB) (D:Az) (W:AM) (K2:Int->V->H->AH) (a:Int) (J:H):AH:=
 K2 (GW (AA 0) a) V.nils J
def Rb:XC:=(.z (.m 21 3<|
.m 22 0<|
.p 23 [22] (.buildSlice 3 1 [y1] [(0,1,(.t 22))])<|
.O 24 .one (.append 3 1 8 (.t 21) (.t 23))<|
.m 2 24<|
.nil)
 .ret)
def gf (E:EB) (D:Az) (W:AM) (a:Int) (b:V) (J:H):AH:=
 let s1:=DR J (.cells [.int .i64 a]);
 Ee E 1 8 b (V.sl (H.next J) 0 1 (.ex 1)) s1 fun u2 s3=>
 Cm u2 (
 some (u2,s3))
def TA:XC:=(.seq (.z (.m 7 0<|
.b 8 .geq .none (.t 7) (.i 16384)<|
.nil)
 (.cond (.tmp 8) .skip
 Oe))
 (.block 1 (.z (.m 9 0<|
.b 10 .quo .none (.t 9) (.i 16384)<|
.p 11 [10] (.min (.t 10) [(.i 4)])<|
.m 4 11<|
.nil)
 (.z (.m 12 3<|
.m 13 4<|
.b 14 .mul .none (.t 13) (.i 16384)<|
.p 15 [14] (.buildSlice 3 1 [y1] [(0,1,(.t 14))])<|
.O 16 .one (.append 3 1 8 (.t 12) (.t 15))<|
.m 3 16<|
.nil)
 (.ops (.m 17 0<|
.m 18 4<|
.b 19 .mul .none (.t 18) (.i 16384)<|
.b 20 .sub .none (.t 17) (.t 19)<|
.m 0 20<|
.nil))))))
def Vz (E:EB) (D:Az) (W:AM) (K1:Int->V->H->AH) (R2:Int->V->H->AH) (a:Int) (b:V) (J:H):AH:=
 AS (Hk (AA 16384) a) (
 let s1:=DR J (.cells [.int .i64 (P8 .i64 (HL (JX .i64 a (AA 16384)) (AA 4)) (AA 16384))]);
 Ee E 1 8 b (V.sl (H.next J) 0 1 (.ex 1)) s1 fun u2 s3=>
 Cm u2 (
 R2 (E6 .i64 a (P8 .i64 (HL (JX .i64 a (AA 16384)) (AA 4)) (AA 16384))) u2 s3)) (
 K1 a b J)
def rp (a:Int) (J:H):St:=⟨[(0,.int .i64 a)],[],[],J⟩
def Sv (a:Int) (b:V) (J:H):St:=⟨[(0,.int .i64 a),(3,b)],[],[],J⟩
theorem AB2 (cc1:XC) (cc2:XC) (a:Int) (J:H) :
 AU E D W N (kp cc1 cc2) (rp a J) (IC E) nX (IC E) =
 V0 E D W (fun a b J=>Aw (fun rec s'=>AU E D W N cc2 s' (kX WZ [] [] rec) (oA E D W N cc1) (IC E)) N (Sv a b J)) a J:=by kernel_rfl
theorem AB1 (cc1:XC) (li2:St->AH) (a:Int) (b:V) (J:H) :
 AU E D W N (TA ) (Sv a b J) (kX WZ [] [] li2) (oA E D W N cc1) (IC E) =
 Vz E D W (fun a b J=>AU E D W N cc1 (Sv a b J) (IC E) nX (IC E)) (fun a b J=>li2 (Sv a b J)) a b J:=by kernel_rfl
def sR (E:EB) (D:Az) (W:AM) (N:Nat):=gf E D W
theorem xV (a:Int) (b:V) (J:H) :
 AU E D W N Rb (Sv a b J) (IC E) nX (IC E)=sR E D W N a b J:=by kernel_rfl
def jE (n:Nat):Int->V->H->AH:=
 Nat.rec (fun _ _ _=>none) (fun _ ih=>Vz E D W (sR E D W N ) ih) n
theorem xA (n:Nat):∀(a:Int) (b:V) (J:H),
 Aw (fun rec s'=>AU E D W N TA s' (kX WZ [] [] rec) (oA E D W N Rb) (IC E)) n (Sv a b J)=jE E D W N n a b J:=by
 induction n with
 | zero=>intro a b J;rfl
 | succ n ihn=>
  intro a b J
  rw[BB]
  refine(AB1 E D W N Rb (Aw (fun rec s'=>AU E D W N TA s' (kX WZ [] [] rec) (oA E D W N Rb) (IC E)) n) a b J).trans ?_
  simp only[ihn,xV]
  kernel_rfl
def sT:=V0 E D W (jE E D W N N)
theorem xW (a:Int) (J:H) :
 AU E D W N (kp Rb TA) (rp a J) (IC E) nX (IC E)=sT E D W N a J:=by
 refine(AB2 E D W N Rb TA  a J).trans ?_
 simp only[xA]
 kernel_rfl
def zD (args:List V) (J:H):AH:=
 A4 .i64 args fun x3 l2=>
 AQ l2 (
 sT E D W N x3 J)
def A14:DV:=⟨25,[.i],[(.tmp 2)],(kp Rb TA)⟩
theorem AHd (args:List V) (J:H):Br E D W N A14 args J=zD E D W N args J:=by
 unfold zD
 simp only[<-xW]
 kernel_rfl
def AE6:XC:=(.block 0 (.z (.m 11 1<|
.b 12 .lss .none (.t 11) (.i 128)<|
.m 10 12<|
.nil)
 (.cond (.tmp 10) (.ops (.m 13 0<|
.m 14 1<|
.P 15 (.conv (.toInt .u64) (.t 14))<|
.k 16 y6 6 [(.t 13),(.t 15),(.i 8)]<|
.nil))
 (.z (.m 18 1<|
.b 19 .lss .none (.t 18) (.i 16384)<|
.m 17 19<|
.nil)
 (.cond (.tmp 17) (.ops (.m 20 0<|
.m 21 1<|
.b 22 .add .none (.i 32768) (.t 21)<|
.P 23 (.conv (.toInt .u64) (.t 22))<|
.k 24 y6 6 [(.t 20),(.t 23),(.i 16)]<|
.nil))
 (.ops (.m 4 0<|
.m 5 1<|
.b 6 .quo .none (.t 5) (.i 16384)<|
.b 7 .add .none (.i 192) (.t 6)<|
.P 8 (.conv (.toInt .u64) (.t 7))<|
.k 9 y6 6 [(.t 4),(.t 8),(.i 8)]<|
.nil)))))))
def Vy (E:EB) (D:Az) (W:AM) (a:V) (b:Int) (J:H):AH:=
 AS (Ep b (AA 128)) (
 AW (D 6 [a,.int .u64 (BP .u64 b),.int .i64 (AA 8)] J) fun u1 s2=>
 Bc u1 fun l3=>
 AQ l3 (
 some ((V.tup []),s2))) (
 AS (Ep b (AA 16384)) (
 AW (D 6 [a,.int .u64 (BP .u64 (CU .i64 (AA 32768) b)),.int .i64 (AA 16)] J) fun u4 s5=>
 Bc u4 fun l6=>
 AQ l6 (
 some ((V.tup []),s5))) (
 AW (D 6 [a,.int .u64 (BP .u64 (CU .i64 (AA 192) (JX .i64 b (AA 16384)))),.int .i64 (AA 8)] J) fun u7 s8=>
 Bc u7 fun l9=>
 AQ l9 (
 some ((V.tup []),s8))))
def F15 (N:Nat) (args:List V) (J:H):AH:=
 AE args fun x1 l2=>
 A4 .i64 l2 fun x5 l4=>
 AQ l4 (
 Vy E D W x1 x5 J)
def A15:DV:=⟨25,Z3,[],AE6⟩
theorem AHc (args:List V) (J:H):Br E D W N A15 args J=F15 E D W N args J:=by kernel_rfl
def AE5:XC:=(.ops (.m 4 0<|
.n 5 4<|
.f 6 0 5<|
.m 7 1<|
.p 8 [7] (.buildSlice 23 1 [V.nils] [(0,1,(.t 7))])<|
.k 9 y6 37 [(.t 6),(.t 8)]<|
.nil))
def ga (E:EB) (D:Az) (W:AM) (a b:Nat) (c:V) (J:H):AH:=
 HA [(0,1,c)] [V.nils] fun l1=>
 IT (allOne l1) (
 let s2:=DR J (.cells l1);
 AW (D 37 [.ptr a b,.sl (H.next J) 0 1 (.ex 1)] s2) fun u3 s4=>
 Bc u3 fun l5=>
 AQ l5 (
 some ((V.tup []),s4)))
def F16 (N:Nat) (args:List V) (J:H):AH:=
 AE args fun x1 l2=>
 Ar x1 fun b3 o4=>
 AE l2 fun x5 l6=>
 AQ l6 (
 ga E D W b3 o4 x5 J)
def A16:DV:=⟨10,[.ptr,.any],[],AE5⟩
theorem AHb (args:List V) (J:H):Br E D W N A16 args J=F16 E D W N args J:=by kernel_rfl
def AE4:XC:=(.z (.c 2 V.nilp<|
.nil)
 (.z (.m 3 0<|
.k 4 .one 41 [(.t 3)]<|
.m 5 0<|
.u 6 5<|
.b 7 .eql .none (.t 6) (.i 1)<|
.m 8 7<|
.gA 8 true (.p 9 [0,8] Z6<|
.p 10 [9,8] (.iaddrS 1 (.t 9) (.i 0))<|
.op (some 11) (.int .u8) [10,8] (.load none (.t 10))<|
.p 12 [11,8] (.bin .eql .none (.t 11) (.con (V.int .u8 Rv)))<|
.nil) 13 8 12<|
.op (some 14) (.agg [.any,.i,.bool]) [4,13] (.build [V.nilp,y1,y3] [(0,1,(.t 4)),(2,1,(.t 13))])<|
.P 15 (.box 116 (.t 14))<|
.m 2 15<|
.nil)
 .ret))
def gZ (E:EB) (D:Az) (W:AM) (a:V) (J:H):AH:=
 AW (D 41 [a] J) fun u1 s2=>
 Cm u1 (
 BA a fun n3=>
 BR (fun c4 s5=>
 HA [(0,1,u1),(2,1,(V.bool c4))] [V.nilp,.int .i64 (AA 0),.bool false] fun l7=>
 AE l7 fun x8 l9=>
 A4 .i64 l9 fun x12 l11=>
 De l11 fun x15 l14=>
 AQ l14 (
 G9 [x8,.int .i64 x12,.bool x15] s5 fun s16=>
 some ((V.ptr (H.next s5) 0),s16))) fun k6=>
 AS (Cu (AA n3) (AA 1)) (
 AT 1 a (AA 0) fun b17 o18=>
 BL E s2 b17 o18 fun u19=>
 Ah .u8 u19 fun x20=>
 k6 (Cu x20 (AA 0)) s2) (
 k6 false s2))
def F18 (N:Nat) (args:List V) (J:H):AH:=
 AE args fun x1 l2=>
 AQ l2 (
 gZ E D W x1 J)
def A18:DV:=⟨16,[.any],[(.tmp 2)],AE4⟩
theorem AHa (args:List V) (J:H):Br E D W N A18 args J=F18 E D W N args J:=by kernel_rfl
def AF3:List (Nat × DM):=[(6,.ptr),(8,.ptr)]
def KX:List BY:=[⟨(some 9),.load none (.tmp 3),none⟩,⟨(some 10),.load none (.tmp 3),none⟩,⟨(some 11),.nilck (.tmp 10),none⟩,⟨(some 12),.faddr 5 (.tmp 11),none⟩,⟨(some 13),.load none (.tmp 12),none⟩,⟨(some 14),.call 43 [(.tmp 13),(.con (V.int .i64 (AA 1)))],none⟩,⟨(some 15),.un .not (.tmp 14),none⟩,⟨(some 16),.mov (.tmp 15),none⟩,⟨(some 17),.mov (.tmp 1),(some (16,false))⟩,⟨(some 18),.bin .lss .none (.tmp 17) (.con (V.int .i64 (AA 0))),(some (16,false))⟩,⟨(some 19),.pick (.tmp 16) (.con (V.bool true)) (.tmp 18),none⟩,⟨(some 20),.mov (.tmp 19),none⟩,⟨(some 21),.mov (.tmp 1),(some (20,false))⟩,⟨(some 22),.load none (.tmp 3),(some (20,false))⟩,⟨(some 23),.nilck (.tmp 22),(some (20,false))⟩,⟨(some 24),.faddr 1 (.tmp 23),(some (20,false))⟩,⟨(some 25),.faddr 3 (.tmp 24),(some (20,false))⟩,⟨(some 26),.load none (.tmp 25),(some (20,false))⟩,⟨(some 27),.len false (.tmp 26),(some (20,false))⟩,⟨(some 28),.bin .geq .none (.tmp 21) (.tmp 27),(some (20,false))⟩,⟨(some 29),.pick (.tmp 20) (.con (V.bool true)) (.tmp 28),none⟩,⟨(some 30),.mov (.tmp 29),none⟩,⟨(some 31),.mov (.tmp 2),(some (30,false))⟩,⟨(some 32),.bin .gtr .none (.tmp 31) (.con (V.int .i64 (AA 17))),(some (30,false))⟩,⟨(some 33),.pick (.tmp 30) (.con (V.bool true)) (.tmp 32),none⟩,⟨(some 34),.call 42 [(.tmp 9),(.tmp 33)],none⟩]
def OZ:List DP:=[⟨0,[3]⟩,⟨0,[3]⟩,⟨2,[10]⟩,⟨6,[11]⟩,⟨14,[12]⟩,⟨30,[13]⟩,⟨62,[14]⟩,⟨126,[15]⟩,⟨254,[1,16]⟩,⟨510,[17,16]⟩,⟨1022,[16,18]⟩,⟨2046,[19]⟩,⟨4094,[1,20]⟩,⟨4094,[3,20]⟩,⟨12286,[22,20]⟩,⟨28670,[23,20]⟩,⟨61438,[24,20]⟩,⟨126974,[25,20]⟩,⟨258046,[26,20]⟩,⟨524286,[21,27,20]⟩,⟨1048574,[20,28]⟩,⟨2097150,[29]⟩,⟨4194302,[2,30]⟩,⟨8388606,[31,30]⟩,⟨16777214,[30,32]⟩,⟨33554431,[9,33]⟩]
def AE3 (cc1:XC) (cc2:XC):XC:=(.z (.P 3 (.box 65 (.t 0))<|
.p 6 [] su<|
.nil)
 (.seq (.seq (.keep [(1,.i),(2,.i),(3,.ptr),(6,.ptr)] [] [] (.gdraw KX OZ [(1,.i),(2,.i),(3,.ptr),(6,.ptr)]))
 (.z (.l 35 .any 3<|
.k 36 .bool 44 [(.t 35)]<|
.P 37 (.un .not (.t 36))<|
.nil)
 (.cond (.tmp 37) (.z (.op (some 38) y0 [] (.build [y1,y1,V.nils,V.nils,y1,V.nils] [])<|
.op none y0 [6,38] (.store 6 (.t 6) (.t 38))<|
.nil)
 .ret)
 .skip)))
 (.z (.l 39 .any 3<|
.n 40 39<|
.f 41 1 40<|
.f 42 3 41<|
.l 43 .any 42<|
.m 44 1<|
.s 45 13 43 44<|
.O 46 y2 (.load (some 13) (.t 45))<|
.pal 7 [] 111 [y1,V.nils,y3,y3,y3,y3,y1,y1,V.nils,V.nils,y1,y3,y1]<|
.op none y2 [7,46] (.store 13 (.t 7) (.t 46))<|
.nil)
 (.z (.f 47 0 7<|
.l 48 .i 47<|
.op (some 49) y0 [48] (.build [y1,y1,V.nils,V.nils,y1,V.nils] [(0,1,(.t 48))])<|
.p 8 [] su<|
.op none y0 [8,49] (.store 6 (.t 8) (.t 49))<|
.nil)
 (.seq (.z (.f 50 0 7<|
.l 51 .i 50<|
.nil)
 (.block 0 (.z (.b 53 .eql .none (.t 51) (.i 1)<|
.m 52 53<|
.nil)
 (.cond (.tmp 52) (.ops (.l 54 .any 3<|
.n 55 54<|
.f 56 0 55<|
.l 57 .any 56<|
.k 58 (.int .u64) 45 [(.t 57),(.i 1)]<|
.P 59 (.conv (.toInt .i64) (.t 58))<|
.f 60 1 8<|
.w 1 60 59<|
.nil))
 (.z (.b 62 .eql .none (.t 51) (.i 2)<|
.m 61 62<|
.nil)
 (.cond (.tmp 61) (.ops (.l 63 .any 3<|
.f 64 2 7<|
.O 65 y8 (.load (some 6) (.t 64))<|
.k 66 .i 46 [(.t 63),(.t 65)]<|
.f 67 1 8<|
.w 1 67 66<|
.nil))
 (.z (.b 69 .eql .none (.t 51) (.i 3)<|
.m 68 69<|
.nil)
 (.cond (.tmp 68) (.z (.l 70 .any 3<|
.m 71 1<|
.k 72 y0 47 [(.t 70),(.t 71)]<|
.op none y0 [6,72] (.store 6 (.t 6) (.t 72))<|
.nil)
 .ret)
 (.z (.b 74 .eql .none (.t 51) (.i 6)<|
.m 73 74<|
.nil)
 (.cond (.tmp 73) (.ops (.l 75 .any 3<|
.n 76 75<|
.f 77 0 76<|
.l 78 .any 77<|
.k 79 .one 48 [(.t 78),(.i 70000)]<|
.f 80 2 8<|
.w 1 80 79<|
.nil))
 (.z (.b 82 .eql .none (.t 51) (.i 5)<|
.m 81 82<|
.nil)
 (.cond (.tmp 81) (.ops (.l 83 .any 3<|
.f 84 2 7<|
.O 85 y8 (.load (some 6) (.t 84))<|
.p 86 [3,8] (.mkfn 50 [] [(.t 3),(.t 8)])<|
.p 87 [3,8] (.mkfn 52 [] [(.t 3),(.t 8)])<|
.k 88 y6 49 [(.t 83),(.t 85),(.t 86),(.t 87)]<|
.nil))
 (.z (.b 90 .eql .none (.t 51) (.i 10)<|
.m 89 90<|
.nil)
 (.cond (.tmp 89) (.ops (.l 91 .any 3<|
.O 92 y2 (.load (some 13) (.t 7))<|
.m 93 2<|
.k 94 y6 53 [(.t 91),(.t 92),(.t 8),(.t 93)]<|
.nil))
 (.z (.b 96 .eql .none (.t 51) (.i 9)<|
.m 95 96<|
.nil)
 (.cond (.tmp 95) (.z (.l 97 .any 3<|
.m 98 1<|
.m 99 2<|
.k 100 y0 54 [(.t 97),(.t 98),(.t 99)]<|
.op none y0 [6,100] (.store 6 (.t 6) (.t 100))<|
.nil)
 .ret)
 (.seq (.z (.b 102 .eql .none (.t 51) (.i 7)<|
.m 101 102<|
.nil)
 (.cond (.tmp 101) .skip
 (.ops (.b 103 .eql .none (.t 51) (.i 8)<|
.m 101 103<|
.nil))))
 (.keep [(1,.i),(2,.i),(3,.ptr),(6,.ptr),(8,.ptr),(101,.bool)] [] [] cc2))))))))))))))))))
 (.keep AF3 [] [] cc1))))))
def Qy (K1:Nat->Nat->Nat->Nat->H->AH) (K2:Int->Int->Nat->Nat->Nat->Nat->Nat->Nat->Bool->H->AH) (a:V) (b c:Int) (J:H):AH:=
 G9 (V.cells a) J fun s1=>
 let s2:=DR s1 (.cells [.int .i64 (AA 0),.int .i64 (AA 0),V.nils,V.nils,.int .i64 (AA 0),V.nils]);
 DA (W KX OZ [(1,.int .i64 b),(2,.int .i64 c),(3,.ptr (H.next J) 0),(6,.ptr (H.next s1) 0)] s2) fun e3 s4=>
 BW e3 1 fun u5=>
 Ah .i64 u5 fun x6=>
 BW e3 2 fun u7=>
 Ah .i64 u7 fun x8=>
 BW e3 3 fun u9=>
 Ar u9 fun b10 o11=>
 BW e3 6 fun u12=>
 Ar u12 fun b13 o14=>
 BL E s4 b10 o11 fun u15=>
 AW (D 44 [u15] s4) fun u16 s17=>
 An u16 fun x18=>
 AS (not x18) (
 Dt 6 b13 o14 (V.agg [.int .i64 (AA 0),.int .i64 (AA 0),V.nils,V.nils,.int .i64 (AA 0),V.nils]) s17 fun s19=>
 BQ E s19 b13 o14 6 fun u20=>
 some ((V.agg u20),s19)) (
 BL E s17 b10 o11 fun u21=>
 Ar u21 fun b22 o23=>
 BL E s17 b22 (Ac (Ac o23 1) 3) fun u24=>
 AT 13 u24 x6 fun b25 o26=>
 BQ E s17 b25 o26 13 fun l27=>
 A4 .i64 l27 fun x30 l29=>
 AE l29 fun x31 l32=>
 De l32 fun x35 l34=>
 De l34 fun x38 l37=>
 De l37 fun x41 l40=>
 De l40 fun x44 l43=>
 A4 .i64 l43 fun x47 l46=>
 A4 .i64 l46 fun x50 l49=>
 AE l49 fun x51 l52=>
 AE l52 fun x53 l54=>
 A4 .i64 l54 fun x57 l56=>
 De l56 fun x60 l59=>
 A4 .i64 l59 fun x63 l62=>
 AQ l62 (
 IT (allOne [.int .i64 x30,x31,.bool x35,.bool x38,.bool x41,.bool x44,.int .i64 x47,.int .i64 x50,x51,x53,.int .i64 x57,.bool x60,.int .i64 x63]) (
 let s64:=DR s17 (.cells [.int .i64 (AA 0),.int .i64 (AA 0),V.nils,V.nils,.int .i64 (AA 0),V.nils]);
 Dt 6 (H.next s17) 0 (V.agg [.int .i64 x30,.int .i64 (AA 0),V.nils,V.nils,.int .i64 (AA 0),V.nils]) s64 fun s65=>
 AS (Cu x30 (AA 1)) (
 BL E s65 b10 o11 fun u66=>
 Ar u66 fun b67 o68=>
 BL E s65 b67 o68 fun u69=>
 AW (D 45 [u69,.int .i64 (AA 1)] s65) fun u70 s71=>
 Ah .u64 u70 fun x72=>
 Dt 1 (H.next s17) 1 (V.int .i64 (BP .i64 x72)) s71 fun s73=>
 K1 b13 o14 (H.next s17) 0 s73) (
 AS (Cu x30 (AA 2)) (
 BL E s65 b10 o11 fun u74=>
 AW (D 46 [u74,.agg [.bool x35,.bool x38,.bool x41,.bool x44,.int .i64 x47,.int .i64 x50]] s65) fun u75 s76=>
 Ah .i64 u75 fun x77=>
 Dt 1 (H.next s17) 1 (V.int .i64 x77) s76 fun s78=>
 K1 b13 o14 (H.next s17) 0 s78) (
 AS (Cu x30 (AA 3)) (
 BL E s65 b10 o11 fun u79=>
 AW (D 47 [u79,.int .i64 x6] s65) fun u80 s81=>
 Cw u80 fun l82=>
 A4 .i64 l82 fun x85 l84=>
 A4 .i64 l84 fun x88 l87=>
 AE l87 fun x89 l90=>
 AE l90 fun x91 l92=>
 A4 .i64 l92 fun x95 l94=>
 AE l94 fun x96 l97=>
 AQ l97 (
 Dt 6 b13 o14 (V.agg [.int .i64 x85,.int .i64 x88,x89,x91,.int .i64 x95,x96]) s81 fun s98=>
 BQ E s98 b13 o14 6 fun u99=>
 some ((V.agg u99),s98))) (
 AS (Cu x30 (AA 6)) (
 BL E s65 b10 o11 fun u100=>
 Ar u100 fun b101 o102=>
 BL E s65 b101 o102 fun u103=>
 AW (D 48 [u103,.int .i64 (AA 70000)] s65) fun u104 s105=>
 Cm u104 (
 Dt 1 (H.next s17) 2 u104 s105 fun s106=>
 K1 b13 o14 (H.next s17) 0 s106)) (
 AS (Cu x30 (AA 5)) (
 BL E s65 b10 o11 fun u107=>
 AW (D 49 [u107,.agg [.bool x35,.bool x38,.bool x41,.bool x44,.int .i64 x47,.int .i64 x50],.fn 50 [] [.ptr b10 o11,.ptr (H.next s17) 0],.fn 52 [] [.ptr b10 o11,.ptr (H.next s17) 0]] s65) fun u108 s109=>
 Bc u108 fun l110=>
 AQ l110 (
 K1 b13 o14 (H.next s17) 0 s109)) (
 AS (Cu x30 (AA 10)) (
 BL E s65 b10 o11 fun u111=>
 AW (D 53 [u111,.agg [.int .i64 x30,x31,.bool x35,.bool x38,.bool x41,.bool x44,.int .i64 x47,.int .i64 x50,x51,x53,.int .i64 x57,.bool x60,.int .i64 x63],.ptr (H.next s17) 0,.int .i64 x8] s65) fun u112 s113=>
 Bc u112 fun l114=>
 AQ l114 (
 K1 b13 o14 (H.next s17) 0 s113)) (
 AS (Cu x30 (AA 9)) (
 BL E s65 b10 o11 fun u115=>
 AW (D 54 [u115,.int .i64 x6,.int .i64 x8] s65) fun u116 s117=>
 Cw u116 fun l118=>
 A4 .i64 l118 fun x121 l120=>
 A4 .i64 l120 fun x124 l123=>
 AE l123 fun x125 l126=>
 AE l126 fun x127 l128=>
 A4 .i64 l128 fun x131 l130=>
 AE l130 fun x132 l133=>
 AQ l133 (
 Dt 6 b13 o14 (V.agg [.int .i64 x121,.int .i64 x124,x125,x127,.int .i64 x131,x132]) s117 fun s134=>
 BQ E s134 b13 o14 6 fun u135=>
 some ((V.agg u135),s134))) (
 AS (Cu x30 (AA 7)) (
 K2 x6 x8 b10 o11 b13 o14 (H.next s17) 0 (Cu x30 (AA 7)) s65) (
 K2 x6 x8 b10 o11 b13 o14 (H.next s17) 0 (Cu x30 (AA 8)) s65)))))))))))
def AE2:XC:=(.z (.O 108 y0 (.load (some 6) (.t 8))<|
.op none y0 [6,108] (.store 6 (.t 6) (.t 108))<|
.nil)
 .ret)
def Sn (E:EB) (D:Az) (W:AM) (a b c d:Nat) (J:H):AH:=
 BQ E J c d 6 fun l1=>
 A4 .i64 l1 fun x4 l3=>
 A4 .i64 l3 fun x7 l6=>
 AE l6 fun x8 l9=>
 AE l9 fun x10 l11=>
 A4 .i64 l11 fun x14 l13=>
 AE l13 fun x15 l16=>
 AQ l16 (
 Dt 6 a b (V.agg [.int .i64 x4,.int .i64 x7,x8,x10,.int .i64 x14,x15]) J fun s17=>
 BQ E s17 a b 6 fun u18=>
 some ((V.agg u18),s17))
def AE1:XC:=(.cond (.tmp 101) (.z (.l 104 .any 3<|
.m 105 1<|
.m 106 2<|
.k 107 y0 55 [(.t 104),(.t 105),(.t 106)]<|
.op none y0 [6,107] (.store 6 (.t 6) (.t 107))<|
.nil)
 .ret)
 .skip)
def Zb (E:EB) (D:Az) (W:AM) (K1:Nat->Nat->Nat->Nat->H->AH) (a b:Int) (c d e f g h:Nat) (i:Bool) (J:H):AH:=
 AS i (
 BL E J c d fun u1=>
 AW (D 55 [u1,.int .i64 a,.int .i64 b] J) fun u2 s3=>
 Cw u2 fun l4=>
 A4 .i64 l4 fun x7 l6=>
 A4 .i64 l6 fun x10 l9=>
 AE l9 fun x11 l12=>
 AE l12 fun x13 l14=>
 A4 .i64 l14 fun x17 l16=>
 AE l16 fun x18 l19=>
 AQ l19 (
 Dt 6 e f (V.agg [.int .i64 x7,.int .i64 x10,x11,x13,.int .i64 x17,x18]) s3 fun s20=>
 BQ E s20 e f 6 fun u21=>
 some ((V.agg u21),s20))) (
 K1 e f g h J)
def sQ (E:EB) (D:Az) (W:AM) (N:Nat):=Sn E D W
def ACQ:=Zb E D W (sQ E D W N )
def zC (args:List V) (J:H):AH:=
 AE args fun x1 l2=>
 A4 .i64 l2 fun x5 l4=>
 A4 .i64 l4 fun x8 l7=>
 AQ l7 (
 Qy E D W (sQ E D W N ) (ACQ E D W N ) x1 x5 x8 J)
def A19:DV:=⟨109,[.any,.i,.i],[(.cell 6 (some 6))],(AE3 AE2 AE1)⟩
theorem AHZ (args:List V) (J:H):Br E D W N A19 args J=zC E D W N args J:=by kernel_rfl
def AE0:XC:=(.z (.q 2 0<|
.nil)
 (.seq (.z (.m 4 0<|
.k 5 .i 56 [(.t 4)]<|
.m 3 5<|
.nil)
 (.block 0 (.z (.m 7 3<|
.b 8 .neq .none (.t 7) (.i 0)<|
.m 6 8<|
.nil)
 (.cond (.tmp 6) (.z (.m 9 3<|
.m 2 9<|
.nil)
 .ret)
 (.z (.m 11 0<|
.n 12 11<|
.f 13 2 12<|
.l 14 .bool 13<|
.m 15 14<|
.gA 15 true (.p 16 [0,15] Z6<|
.op (some 17) .i [16,15] (.call 57 [(.t 16)])<|
.p 18 [17,15] (.bin .eql .none (.t 17) (.i 8))<|
.nil) 19 15 18<|
.m 10 19<|
.nil)
 (.cond (.tmp 10) (.z (.q 2 0<|
.nil)
 .ret)
 .skip))))))
 (.z (.m 20 0<|
.n 21 20<|
.f 22 0 21<|
.l 23 .any 22<|
.k 24 .i 58 [(.t 23)]<|
.m 2 24<|
.nil)
 .ret)))
def Vx (E:EB) (D:Az) (W:AM) (a b:Nat) (J:H):AH:=
 AW (D 56 [.ptr a b] J) fun u1 s2=>
 Ah .i64 u1 fun x3=>
 AS (not (Cu x3 (AA 0))) (
 some ((V.int .i64 x3),s2)) (
 BL E s2 a (Ac b 2) fun u4=>
 An u4 fun x5=>
 BR (fun c6 s7=>
 AS c6 (
 some ((V.int .i64 (AA 0)),s7)) (
 BL E s7 a b fun u9=>
 AW (D 58 [u9] s7) fun u10 s11=>
 Ah .i64 u10 fun x12=>
 some ((V.int .i64 x12),s11))) fun k8=>
 AS x5 (
 AW (D 57 [.ptr a b] s2) fun u13 s14=>
 Ah .i64 u13 fun x15=>
 k8 (Cu x15 (AA 8)) s14) (
 k8 false s2))
def F20 (N:Nat) (args:List V) (J:H):AH:=
 AE args fun x1 l2=>
 Ar x1 fun b3 o4=>
 AQ l2 (
 Vx E D W b3 o4 J)
def A20:DV:=⟨25,[.ptr],[(.tmp 2)],AE0⟩
theorem AHY (args:List V) (J:H):Br E D W N A20 args J=F20 E D W N args J:=by kernel_rfl
def AEz:XC:=(.z (.P 3 (.box 30 (.t 0))<|
.P 5 (.box 43 (.t 2))<|
.c 6 y3<|
.nil)
 (.z (.O 8 y4 (.load (some 4) (.t 3))<|
.op (some 9) y4 [8] (.build [(V.str ⟨0,0⟩),V.nils,V.nils,V.nils] [(0,4,(.t 8))])<|
.op (some 10) (.agg [.str,.any,.any,.any,.bool]) [9] (.build [(V.str ⟨0,0⟩),V.nils,V.nils,V.nils,y3] [(0,4,(.t 9))])<|
.P 11 (.box 132 (.t 10))<|
.m 7 11<|
.nil)
 (.z (.m 12 7<|
.m 13 1<|
.O 14 y0 (.load (some 6) (.t 5))<|
.k 15 .bool 59 [(.t 12),(.t 13),(.t 14),(.i 1)]<|
.m 16 15<|
.gA 16 true (.op (some 17) y0 [5,16] (.load (some 6) (.t 5))<|
.op (some 18) .i [17,16] (.call 60 [(.t 17)])<|
.p 19 [18,16] (.bin .leq .none (.t 18) (.i 5000))<|
.nil) 20 16 19<|
.m 6 20<|
.nil)
 .ret)))
def Vw (E:EB) (D:Az) (W:AM) (a:BS) (b c d:V) (e f g:Int) (h i:V) (j:Int) (k:V) (J:H):AH:=
 G9 [.str a,b,c,d] J fun s1=>
 G9 [.int .i64 f,.int .i64 g,h,i,.int .i64 j,k] s1 fun s2=>
 BQ E s2 (H.next J) 0 4 fun l3=>
 Rx l3 fun x6 l5=>
 AE l5 fun x7 l8=>
 AE l8 fun x9 l10=>
 AE l10 fun x11 l12=>
 AQ l12 (
 G9 [.str x6,x7,x9,x11,.bool false] s2 fun s13=>
 BQ E s13 (H.next s1) 0 6 fun l14=>
 A4 .i64 l14 fun x17 l16=>
 A4 .i64 l16 fun x20 l19=>
 AE l19 fun x21 l22=>
 AE l22 fun x23 l24=>
 A4 .i64 l24 fun x27 l26=>
 AE l26 fun x28 l29=>
 AQ l29 (
 AW (D 59 [.ptr (H.next s2) 0,.int .i64 e,.agg [.int .i64 x17,.int .i64 x20,x21,x23,.int .i64 x27,x28],.int .i64 (AA 1)] s13) fun u30 s31=>
 An u30 fun x32=>
 BR (fun c33 s34=>
 some ((V.bool c33),s34)) fun k35=>
 AS x32 (
 BQ E s31 (H.next s1) 0 6 fun l36=>
 A4 .i64 l36 fun x39 l38=>
 A4 .i64 l38 fun x42 l41=>
 AE l41 fun x43 l44=>
 AE l44 fun x45 l46=>
 A4 .i64 l46 fun x49 l48=>
 AE l48 fun x50 l51=>
 AQ l51 (
 AW (D 60 [.agg [.int .i64 x39,.int .i64 x42,x43,x45,.int .i64 x49,x50]] s31) fun u52 s53=>
 Ah .i64 u52 fun x54=>
 k35 (Hk x54 (AA 5000)) s53)) (
 k35 false s31)))
def xj (N:Nat) (args:List V) (J:H):AH:=
 AE args fun x1 l2=>
 Cw x1 fun l3=>
 Rx l3 fun x6 l5=>
 AE l5 fun x7 l8=>
 AE l8 fun x9 l10=>
 AE l10 fun x11 l12=>
 AQ l12 (
 A4 .i64 l2 fun x15 l14=>
 AE l14 fun x16 l17=>
 Cw x16 fun l18=>
 A4 .i64 l18 fun x21 l20=>
 A4 .i64 l20 fun x24 l23=>
 AE l23 fun x25 l26=>
 AE l26 fun x27 l28=>
 A4 .i64 l28 fun x31 l30=>
 AE l30 fun x32 l33=>
 AQ l33 (
 AQ l17 (
 Vw E D W x6 x7 x9 x11 x15 x21 x24 x25 x27 x31 x32 J)))
def A21:DV:=⟨21,[y4,.i,y0],[(.tmp 6)],AEz⟩
theorem AHX (args:List V) (J:H):Br E D W N A21 args J=xj E D W N args J:=by kernel_rfl
def AEy:XC:=(.z (.P 3 (.box 30 (.t 0))<|
.P 5 (.box 43 (.t 2))<|
.c 6 V.nils<|
.q 7 0<|
.nil)
 (.seq (.block 0 (.z (.O 11 y4 (.load (some 4) (.t 3))<|
.m 12 1<|
.O 13 y0 (.load (some 6) (.t 5))<|
.k 14 .bool 21 [(.t 11),(.t 12),(.t 13)]<|
.P 15 (.un .not (.t 14))<|
.m 16 15<|
.gO 16 false (.op (some 17) y4 [3,16] (.load (some 4) (.t 3))<|
.op (some 18) .bool [17,16] (.call 38 [(.t 17)])<|
.p 19 [18,16] (.un .not (.t 18))<|
.nil) 20 16 19<|
.m 10 20<|
.nil)
 (.cond (.tmp 10) (.z (.c 6 V.nils<|
.q 7 13<|
.nil)
 .ret)
 (.z (.O 22 y0 (.load (some 6) (.t 5))<|
.k 23 .bool 61 [(.t 22),(.i 2)]<|
.P 24 (.un .not (.t 23))<|
.m 21 24<|
.nil)
 (.cond (.tmp 21) (.z (.c 6 V.nils<|
.q 7 16<|
.nil)
 .ret)
 .skip)))))
 (.z (.op (some 25) (.agg Z3) [] (.build [V.nils,y1] [])<|
.P 26 (.box 141 (.t 25))<|
.O 27 y4 (.load (some 4) (.t 3))<|
.op (some 28) (.agg [.any,.str,.any,.any,.any]) [26,27] (.build [V.nilp,(V.str ⟨0,0⟩),V.nils,V.nils,V.nils] [(0,1,(.t 26)),(1,4,(.t 27))])<|
.P 29 (.box 143 (.t 28))<|
.m 8 29<|
.nil)
 (.z (.m 30 8<|
.m 31 1<|
.O 32 y0 (.load (some 6) (.t 5))<|
.k 33 y6 62 [(.t 30),(.t 31),(.t 32)]<|
.nil)
 (.z (.m 34 8<|
.n 35 34<|
.f 36 0 35<|
.l 37 .any 36<|
.k 38 .one 63 [(.t 37)]<|
.m 9 38<|
.nil)
 (.seq (.z (.m 39 9<|
.u 40 39<|
.b 41 .gtr .none (.t 40) (.i 70000)<|
.nil)
 (.cond (.tmp 41) (.z (.c 6 V.nils<|
.q 7 5<|
.nil)
 .ret)
 .skip))
 (.z (.m 42 9<|
.m 6 42<|
.q 7 0<|
.nil)
 .ret)))))))
def gP (E:EB) (D:Az) (W:AM) (a:BS) (b c d:V) (e f g:Int) (h i:V) (j:Int) (k:V) (J:H):AH:=
 G9 [.str a,b,c,d] J fun s1=>
 G9 [.int .i64 f,.int .i64 g,h,i,.int .i64 j,k] s1 fun s2=>
 BQ E s2 (H.next J) 0 4 fun l3=>
 Rx l3 fun x6 l5=>
 AE l5 fun x7 l8=>
 AE l8 fun x9 l10=>
 AE l10 fun x11 l12=>
 AQ l12 (
 BQ E s2 (H.next s1) 0 6 fun l13=>
 A4 .i64 l13 fun x16 l15=>
 A4 .i64 l15 fun x19 l18=>
 AE l18 fun x20 l21=>
 AE l21 fun x22 l23=>
 A4 .i64 l23 fun x26 l25=>
 AE l25 fun x27 l28=>
 AQ l28 (
 AW (D 21 [.agg [.str x6,x7,x9,x11],.int .i64 e,.agg [.int .i64 x16,.int .i64 x19,x20,x22,.int .i64 x26,x27]] s2) fun u29 s30=>
 An u29 fun x31=>
 BR (fun c32 s33=>
 AS c32 (
 some ((V.tup [V.nils,.int .i64 (AA 13)]),s33)) (
 BQ E s33 (H.next s1) 0 6 fun l35=>
 A4 .i64 l35 fun x38 l37=>
 A4 .i64 l37 fun x41 l40=>
 AE l40 fun x42 l43=>
 AE l43 fun x44 l45=>
 A4 .i64 l45 fun x48 l47=>
 AE l47 fun x49 l50=>
 AQ l50 (
 AW (D 61 [.agg [.int .i64 x38,.int .i64 x41,x42,x44,.int .i64 x48,x49],.int .i64 (AA 2)] s33) fun u51 s52=>
 An u51 fun x53=>
 AS (not x53) (
 some ((V.tup [V.nils,.int .i64 (AA 16)]),s52)) (
 G9 [V.nils,.int .i64 (AA 0)] s52 fun s54=>
 BQ E s54 (H.next J) 0 4 fun l55=>
 Rx l55 fun x58 l57=>
 AE l57 fun x59 l60=>
 AE l60 fun x61 l62=>
 AE l62 fun x63 l64=>
 AQ l64 (
 G9 [.ptr (H.next s52) 0,.str x58,x59,x61,x63] s54 fun s65=>
 BQ E s65 (H.next s1) 0 6 fun l66=>
 A4 .i64 l66 fun x69 l68=>
 A4 .i64 l68 fun x72 l71=>
 AE l71 fun x73 l74=>
 AE l74 fun x75 l76=>
 A4 .i64 l76 fun x79 l78=>
 AE l78 fun x80 l81=>
 AQ l81 (
 AW (D 62 [.ptr (H.next s54) 0,.int .i64 e,.agg [.int .i64 x69,.int .i64 x72,x73,x75,.int .i64 x79,x80]] s65) fun u82 s83=>
 Bc u82 fun l84=>
 AQ l84 (
 BL E s83 (H.next s54) 0 fun u85=>
 AW (D 63 [u85] s83) fun u86 s87=>
 Cm u86 (
 BA u86 fun n88=>
 AS (Ep (AA 70000) (AA n88)) (
 some ((V.tup [V.nils,.int .i64 (AA 5)]),s87)) (
 some ((V.tup [u86,.int .i64 (AA 0)]),s87)))))))))) fun k34=>
 AS (not x31) (
 k34 true s30) (
 BQ E s30 (H.next J) 0 4 fun l89=>
 Rx l89 fun x92 l91=>
 AE l91 fun x93 l94=>
 AE l94 fun x95 l96=>
 AE l96 fun x97 l98=>
 AQ l98 (
 AW (D 38 [.agg [.str x92,x93,x95,x97]] s30) fun u99 s100=>
 An u99 fun x101=>
 k34 (not x101) s100))))
def zB (N:Nat) (args:List V) (J:H):AH:=
 AE args fun x1 l2=>
 Cw x1 fun l3=>
 Rx l3 fun x6 l5=>
 AE l5 fun x7 l8=>
 AE l8 fun x9 l10=>
 AE l10 fun x11 l12=>
 AQ l12 (
 A4 .i64 l2 fun x15 l14=>
 AE l14 fun x16 l17=>
 Cw x16 fun l18=>
 A4 .i64 l18 fun x21 l20=>
 A4 .i64 l20 fun x24 l23=>
 AE l23 fun x25 l26=>
 AE l26 fun x27 l28=>
 A4 .i64 l28 fun x31 l30=>
 AE l30 fun x32 l33=>
 AQ l33 (
 AQ l17 (
 gP E D W x6 x7 x9 x11 x15 x21 x24 x25 x27 x31 x32 J)))
def A22:DV:=⟨43,[y4,.i,y0],[(.tmp 6),(.tmp 7)],AEy⟩
theorem AHW (args:List V) (J:H):Br E D W N A22 args J=zB E D W N args J:=by kernel_rfl
def Oi:List (Nat × DM):=[(0,.ptr),(3,.any),(4,.i)]
def FV (E:EB):St->AH:=fun s=>EA E s [(.tmp 2)] fun l=>some (EW l,s.J)
def QZ (c0:XC):Nat->St->AH:=Bn 0 (dX E D W N (.keep [(3,.any)] [] [] c0) (FV E) nX (FV E)) nX
def bK (c0 c1:XC) (l0:St->AH):St->AH:=dX E D W N (.keep Oi [] [] c0) (kX Oi [] [] l0) (QZ E D W N c1) (FV E)
def kj (cc1:XC) (cc2:XC):XC:=(.z (.c 2 V.nils<|
.nil)
 (.z (.c 3 V.nils<|
.nil)
 (.seq (.z (.q 4 0<|
.nil)
 (.block 0 (.loop Oi [] [] cc2)))
 (.keep [(3,.any)] [] [] cc1))))
def rK (E:EB) (D:Az) (W:AM) (K2:Nat->Nat->V->Int->H->AH) (a b:Nat) (J:H):AH:=
 K2 a b V.nils (AA 0) J
def Ir:XC:=(.z (.m 42 3<|
.m 2 42<|
.nil)
 .ret)
def AAm (E:EB) (D:Az) (W:AM) (a:V) (J:H):AH:=
 some (a,J)
def S9 (cc3:XC) (cc4:XC):XC:=(.seq (.z (.m 5 4<|
.m 6 0<|
.n 7 6<|
.f 8 0 7<|
.l 9 .any 8<|
.u 10 9<|
.b 11 .lss .none (.t 5) (.t 10)<|
.nil)
 (.cond (.tmp 11) .skip
 Oe))
 (.seq (.block 1 (.seq (.z (.m 14 4<|
.b 15 .rem .none (.t 14) (.i 8)<|
.b 16 .eql .none (.t 15) (.i 0)<|
.nil)
 (.cond (.tmp 16) (.ops (.m 17 3<|
.p 18 [] y5<|
.O 19 .one (.append 5 1 1 (.t 17) (.t 18))<|
.m 3 19<|
.nil))
 .skip))
 (.keep Oi [] [] cc4)))
 (.keep Oi [] [] cc3)))
def OY (E:EB) (D:Az) (W:AM) (K1:V->H->AH) (K4:Nat->Nat->V->Int->H->AH) (a b:Nat) (c:V) (d:Int) (J:H):AH:=
 BL E J a b fun u1=>
 BA u1 fun n2=>
 AS (Ep d (AA n2)) (
 AS (Cu (Fq d (AA 8)) (AA 0)) (
 let s3:=DR J (.cells [.int .u8 (AA 0)]);
 Ee E 1 1 c (V.sl (H.next J) 0 1 (.ex 1)) s3 fun u4 s5=>
 Cm u4 (
 K4 a b u4 d s5)) (
 K4 a b c d J)) (
 K1 c J)
def KZ:XC:=(.ops (.m 12 4<|
.b 13 .add .none (.t 12) (.i 1)<|
.m 4 13<|
.nil))
def gI (E:EB) (D:Az) (W:AM) (R2:Nat->Nat->V->Int->H->AH) (a b:Nat) (c:V) (d:Int) (J:H):AH:=
 R2 a b c (CU .i64 d (AA 1)) J
def Od:XC:=(.draw (.m 20 3<|
.m 21 4<|
.b 22 .quo .none (.t 21) (.i 8)<|
.m 23 3<|
.m 24 4<|
.b 25 .quo .none (.t 24) (.i 8)<|
.s 26 1 23 25<|
.l 27 (.int .u8) 26<|
.m 28 0<|
.n 29 28<|
.f 30 0 29<|
.l 31 .any 30<|
.m 32 4<|
.s 33 1 31 32<|
.l 34 (.int .u8) 33<|
.m 35 4<|
.b 36 .rem .none (.t 35) (.i 8)<|
.b 37 .sub .none (.i 7) (.t 36)<|
.P 38 (.conv (.toInt .u64) (.t 37))<|
.b 39 .shl .none (.t 34) (.t 38)<|
.b 40 .or .none (.t 27) (.t 39)<|
.s 41 1 20 22<|
.w 1 41 40<|
.nil) [0,0,2,0,0,16,56,120,0,256,768,1792,0,7936,16128,0,32768,98304,229376,524032,1048568,2097151,4194303])
def Vv (E:EB) (D:Az) (W:AM) (K3:Nat->Nat->V->Int->H->AH) (a b:Nat) (c:V) (d:Int) (J:H):AH:=
 AT 1 c (JX .i64 d (AA 8)) fun b1 o2=>
 BL E J b1 o2 fun u3=>
 Ah .u8 u3 fun x4=>
 BL E J a b fun u5=>
 AT 1 u5 d fun b6 o7=>
 BL E J b6 o7 fun u8=>
 Ah .u8 u8 fun x9=>
 Pz (BP .u64 (E6 .i64 (AA 7) (Fq d (AA 8)))) fun n10=>
 AT 1 c (JX .i64 d (AA 8)) fun b11 o12=>
 Dt 1 b11 o12 (V.int .u8 (Yz .u8 x4 (MI .u8 x9 n10))) J fun s13=>
 K3 a b c d s13
def rm (a b:Nat) (J:H):St:=⟨[(0,.ptr a b)],[],[],J⟩
def rj (a:V) (J:H):St:=⟨[(3,a)],[],[],J⟩
def JU (a b:Nat) (c:V) (d:Int) (J:H):St:=⟨[(0,.ptr a b),(3,c),(4,.int .i64 d)],[],[],J⟩
theorem AB0 (cc1:XC) (cc2:XC) (a b:Nat) (J:H) :
 AU E D W N (kj cc1 cc2) (rm a b J) (FV E) nX (FV E) =
 rK E D W (fun a b c d J=>Aw (fun rec s'=>AU E D W N cc2 s' (kX Oi [] [] rec) (QZ E D W N cc1) (FV E)) N (JU a b c d J)) a b J:=by kernel_rfl
theorem ABz (cc1:XC) (cc3:XC) (cc4:XC) (li2:St->AH) (a b:Nat) (c:V) (d:Int) (J:H) :
 AU E D W N (S9 cc3 cc4) (JU a b c d J) (kX Oi [] [] li2) (QZ E D W N cc1) (FV E) =
 OY E D W (fun c J=>AU E D W N cc1 (rj c J) (FV E) nX (FV E)) (fun a b c d J=>AU E D W N cc4 (JU a b c d J) (bK E D W N cc3 cc1 li2) (Bn 1 (bK E D W N cc3 cc1 li2) (QZ E D W N cc1)) (FV E)) a b c d J:=by kernel_rfl
theorem ABy (cc1:XC) (li2:St->AH) (a b:Nat) (c:V) (d:Int) (J:H) :
 AU E D W N (KZ ) (JU a b c d J) (kX Oi [] [] li2) (QZ E D W N cc1) (FV E) =
 gI E D W (fun a b c d J=>li2 (JU a b c d J)) a b c d J:=by kernel_rfl
theorem ABx (cc1:XC) (cc3:XC) (li2:St->AH) (a b:Nat) (c:V) (d:Int) (J:H) :
 AU E D W N (Od ) (JU a b c d J) (bK E D W N cc3 cc1 li2) (Bn 1 (bK E D W N cc3 cc1 li2) (QZ E D W N cc1)) (FV E) =
 Vv E D W (fun a b c d J=>AU E D W N cc3 (JU a b c d J) (kX Oi [] [] li2) (QZ E D W N cc1) (FV E)) a b c d J:=by kernel_rfl
def sO (E:EB) (D:Az) (W:AM) (N:Nat):=AAm E D W
theorem xT (a:V) (J:H) :
 AU E D W N Ir (rj a J) (FV E) nX (FV E)=sO E D W N a J:=by kernel_rfl
def sN (E:EB) (D:Az) (W:AM) (N:Nat) (R2:Nat->Nat->V->Int->H->AH):=gI E D W R2
theorem xS (li2:St->AH) (a b:Nat) (c:V) (d:Int) (J:H) :
 AU E D W N KZ (JU a b c d J) (kX Oi [] [] li2) (QZ E D W N Ir) (FV E)=sN E D W N (fun a b c d J=>li2 (JU a b c d J)) a b c d J:=by
 refine(ABy E D W N Ir li2 a b c d J).trans ?_
 kernel_rfl
def sM (R2:Nat->Nat->V->Int->H->AH):=Vv E D W (sN E D W N R2)
theorem xR (li2:St->AH) (a b:Nat) (c:V) (d:Int) (J:H) :
 AU E D W N Od (JU a b c d J) (bK E D W N KZ Ir li2) (Bn 1 (bK E D W N KZ Ir li2) (QZ E D W N Ir)) (FV E)=sM E D W N (fun a b c d J=>li2 (JU a b c d J)) a b c d J:=by
 refine(ABx E D W N Ir KZ li2 a b c d J).trans ?_
 simp only[xS]
 kernel_rfl
def WB (n:Nat):Nat->Nat->V->Int->H->AH:=
 Nat.rec (fun _ _ _ _ _=>none) (fun _ ih=>OY E D W (sO E D W N ) (sM E D W N ih)) n
theorem wz (n:Nat):∀(a b:Nat) (c:V) (d:Int) (J:H),
 Aw (fun rec s'=>AU E D W N (S9 KZ Od) s' (kX Oi [] [] rec) (QZ E D W N Ir) (FV E)) n (JU a b c d J)=WB E D W N n a b c d J:=by
 induction n with
 | zero=>intro a b c d J;rfl
 | succ n ihn=>
  intro a b c d J
  rw[BB]
  refine(ABz E D W N Ir KZ Od (Aw (fun rec s'=>AU E D W N (S9 KZ Od) s' (kX Oi [] [] rec) (QZ E D W N Ir) (FV E)) n) a b c d J).trans ?_
  simp only[ihn,xT,xR]
  kernel_rfl
def sP:=rK E D W (WB E D W N N)
theorem xU (a b:Nat) (J:H) :
 AU E D W N (kj Ir (S9 KZ Od)) (rm a b J) (FV E) nX (FV E)=sP E D W N a b J:=by
 refine(AB0 E D W N Ir (S9 KZ Od)  a b J).trans ?_
 simp only[wz]
 kernel_rfl
def zA (args:List V) (J:H):AH:=
 AE args fun x1 l2=>
 Ar x1 fun b3 o4=>
 AQ l2 (
 sP E D W N b3 o4 J)
def A23:DV:=⟨43,[.ptr],[(.tmp 2)],(kj Ir (S9 KZ Od))⟩
theorem AHV (args:List V) (J:H):Br E D W N A23 args J=zA E D W N args J:=by
 unfold zA
 simp only[<-xU]
 kernel_rfl
def AEx:XC:=(.z (.c 4 y3<|
.nil)
 (.z (.m 5 0<|
.P 6 (.conv .toStr (.t 5))<|
.m 7 1<|
.P 8 (.conv .toStr (.t 7))<|
.b 9 .eql .none (.t 6) (.t 8)<|
.m 4 9<|
.nil)
 .ret))
def gH (E:EB) (D:Az) (W:AM) (a b:V) (J:H):AH:=
 NF E J a fun t1=>
 NF E J b fun t2=>
 some ((V.bool (BS.beq t1 t2)),J)
def yz (N:Nat) (args:List V) (J:H):AH:=
 AE args fun x1 l2=>
 AE l2 fun x3 l4=>
 AQ l4 (
 gH E D W x1 x3 J)
def A24:DV:=⟨10,lB,[(.tmp 4)],AEx⟩
theorem AHU (args:List V) (J:H):Br E D W N A24 args J=yz E D W N args J:=by kernel_rfl
def cz:List (Nat × DM):=[(0,.any),(1,.any),(2,.any),(7,.i)]
def IB (E:EB):St->AH:=fun s=>EA E s [(.tmp 6)] fun l=>some (EW l,s.J)
def nz (c0:XC):Nat->St->AH:=Bn 0 (dX E D W N (.keep [] [] [] c0) (IB E) nX (IB E)) nX
def ki (cc1:XC) (cc2:XC):XC:=(.z (.c 6 y3<|
.nil)
 (.seq (.z (.m 8 0<|
.u 9 8<|
.m 10 1<|
.u 11 10<|
.b 12 .neq .none (.t 9) (.t 11)<|
.nil)
 (.cond (.tmp 12) (.z (.c 6 y3<|
.nil)
 .ret)
 .skip))
 (.seq (.z (.q 7 0<|
.nil)
 (.block 0 (.loop cz [] [] cc2)))
 (.keep [] [] [] cc1))))
def ZZ (E:EB) (D:Az) (W:AM) (K2:V->V->V->Int->H->AH) (a b c:V) (J:H):AH:=
 BA a fun n1=>
 BA b fun n2=>
 AS (not (Cu (AA n1) (AA n2))) (
 some ((V.bool false),J)) (
 K2 a b c (AA 0) J)
def RZ:XC:=(.z (.c 6 TC<|
.nil)
 .ret)
def gG (E:EB) (D:Az) (W:AM) (J:H):AH:=
 some ((V.bool true),J)
def S8:XC:=(.seq (.z (.m 13 7<|
.m 14 0<|
.u 15 14<|
.b 16 .lss .none (.t 13) (.t 15)<|
.nil)
 (.cond (.tmp 16) .skip
 Oe))
 (.seq (.block 1 (.seq (.draw (.m 19 2<|
.m 20 0<|
.m 21 7<|
.s 22 6 20 21<|
.O 23 y0 (.load (some 6) (.t 22))<|
.m 24 1<|
.m 25 7<|
.s 26 6 24 25<|
.O 27 y0 (.load (some 6) (.t 26))<|
.O 28 .bool (.callv (.t 19) [(.t 23),(.t 27)])<|
.P 29 (.un .not (.t 28))<|
.nil) [0,0,0,6,14,0,0,96,224,511,1023])
 (.cond (.tmp 29) (.z (.c 6 y3<|
.nil)
 .ret)
 .skip)))
 (.ops (.m 17 7<|
.b 18 .add .none (.t 17) (.i 1)<|
.m 7 18<|
.nil))))
def Sm (E:EB) (D:Az) (W:AM) (K1:H->AH) (R2:V->V->V->Int->H->AH) (a b c:V) (d:Int) (J:H):AH:=
 BA a fun n1=>
 AS (Ep d (AA n1)) (
 AT 6 a d fun b2 o3=>
 BQ E J b2 o3 6 fun l4=>
 A4 .i64 l4 fun x7 l6=>
 A4 .i64 l6 fun x10 l9=>
 AE l9 fun x11 l12=>
 AE l12 fun x13 l14=>
 A4 .i64 l14 fun x17 l16=>
 AE l16 fun x18 l19=>
 AQ l19 (
 AT 6 b d fun b20 o21=>
 BQ E J b20 o21 6 fun l22=>
 A4 .i64 l22 fun x25 l24=>
 A4 .i64 l24 fun x28 l27=>
 AE l27 fun x29 l30=>
 AE l30 fun x31 l32=>
 A4 .i64 l32 fun x35 l34=>
 AE l34 fun x36 l37=>
 AQ l37 (
 Ed D c [.agg [.int .i64 x7,.int .i64 x10,x11,x13,.int .i64 x17,x18],.agg [.int .i64 x25,.int .i64 x28,x29,x31,.int .i64 x35,x36]] J fun u38 s39=>
 An u38 fun x40=>
 AS (not x40) (
 some ((V.bool false),s39)) (
 R2 a b c (CU .i64 d (AA 1)) s39)))) (
 K1 J)
def ri (a b c:V) (J:H):St:=⟨[(0,a),(1,b),(2,c)],[],[],J⟩
def re (J:H):St:=⟨[],[],[],J⟩
def Zm (a b c:V) (d:Int) (J:H):St:=⟨[(0,a),(1,b),(2,c),(7,.int .i64 d)],[],[],J⟩
theorem ABw (cc1:XC) (cc2:XC) (a b c:V) (J:H) :
 AU E D W N (ki cc1 cc2) (ri a b c J) (IB E) nX (IB E) =
 ZZ E D W (fun a b c d J=>Aw (fun rec s'=>AU E D W N cc2 s' (kX cz [] [] rec) (nz E D W N cc1) (IB E)) N (Zm a b c d J)) a b c J:=by kernel_rfl
theorem ABv (cc1:XC) (li2:St->AH) (a b c:V) (d:Int) (J:H) :
 AU E D W N (S8 ) (Zm a b c d J) (kX cz [] [] li2) (nz E D W N cc1) (IB E) =
 Sm E D W (fun  J=>AU E D W N cc1 (re J) (IB E) nX (IB E)) (fun a b c d J=>li2 (Zm a b c d J)) a b c d J:=by kernel_rfl
def sK (E:EB) (D:Az) (W:AM) (N:Nat):=gG E D W
theorem xP (J:H) :
 AU E D W N RZ (re J) (IB E) nX (IB E)=sK E D W N  J:=by kernel_rfl
def Zt (n:Nat):V->V->V->Int->H->AH:=
 Nat.rec (fun _ _ _ _ _=>none) (fun _ ih=>Sm E D W (sK E D W N ) ih) n
theorem wy (n:Nat):∀(a b c:V) (d:Int) (J:H),
 Aw (fun rec s'=>AU E D W N S8 s' (kX cz [] [] rec) (nz E D W N RZ) (IB E)) n (Zm a b c d J)=Zt E D W N n a b c d J:=by
 induction n with
 | zero=>intro a b c d J;rfl
 | succ n ihn=>
  intro a b c d J
  rw[BB]
  refine(ABv E D W N RZ (Aw (fun rec s'=>AU E D W N S8 s' (kX cz [] [] rec) (nz E D W N RZ) (IB E)) n) a b c d J).trans ?_
  simp only[ihn,xP]
  kernel_rfl
def sL:=ZZ E D W (Zt E D W N N)
theorem xQ (a b c:V) (J:H) :
 AU E D W N (ki RZ S8) (ri a b c J) (IB E) nX (IB E)=sL E D W N a b c J:=by
 refine(ABw E D W N RZ S8  a b c J).trans ?_
 simp only[wy]
 kernel_rfl
def xi (args:List V) (J:H):AH:=
 AE args fun x1 l2=>
 AE l2 fun x3 l4=>
 AE l4 fun x5 l6=>
 AQ l6 (
 sL E D W N x1 x3 x5 J)
def A25:DV:=⟨30,[.any,.any,.any],[(.tmp 6)],(ki RZ S8)⟩
theorem AHT (args:List V) (J:H):Br E D W N A25 args J=xi E D W N args J:=by
 unfold xi
 simp only[<-xQ]
 kernel_rfl
def cy:List (Nat × DM):=[(0,.any),(1,.any),(2,.any),(7,.i)]
def IA (E:EB):St->AH:=fun s=>EA E s [(.tmp 6)] fun l=>some (EW l,s.J)
def nq (c0:XC):Nat->St->AH:=Bn 0 (dX E D W N (.keep [] [] [] c0) (IA E) nX (IA E)) nX
def kh (cc1:XC) (cc2:XC):XC:=(.z (.c 6 y3<|
.nil)
 (.seq (.z (.m 8 0<|
.u 9 8<|
.m 10 1<|
.u 11 10<|
.b 12 .neq .none (.t 9) (.t 11)<|
.nil)
 (.cond (.tmp 12) (.z (.c 6 y3<|
.nil)
 .ret)
 .skip))
 (.seq (.z (.q 7 0<|
.nil)
 (.block 0 (.loop cy [] [] cc2)))
 (.keep [] [] [] cc1))))
def ZY (E:EB) (D:Az) (W:AM) (K2:V->V->V->Int->H->AH) (a b c:V) (J:H):AH:=
 BA a fun n1=>
 BA b fun n2=>
 AS (not (Cu (AA n1) (AA n2))) (
 some ((V.bool false),J)) (
 K2 a b c (AA 0) J)
def RY:XC:=(.z (.c 6 TC<|
.nil)
 .ret)
def gF (E:EB) (D:Az) (W:AM) (J:H):AH:=
 some ((V.bool true),J)
def S5:XC:=(.seq (.z (.m 13 7<|
.m 14 0<|
.u 15 14<|
.b 16 .lss .none (.t 13) (.t 15)<|
.nil)
 (.cond (.tmp 16) .skip
 Oe))
 (.seq (.block 1 (.seq (.draw (.m 19 2<|
.m 20 0<|
.m 21 7<|
.s 22 2 20 21<|
.O 23 Z8 (.load (some 2) (.t 22))<|
.m 24 1<|
.m 25 7<|
.s 26 2 24 25<|
.O 27 Z8 (.load (some 2) (.t 26))<|
.O 28 .bool (.callv (.t 19) [(.t 23),(.t 27)])<|
.P 29 (.un .not (.t 28))<|
.nil) [0,0,0,6,14,0,0,96,224,511,1023])
 (.cond (.tmp 29) (.z (.c 6 y3<|
.nil)
 .ret)
 .skip)))
 (.ops (.m 17 7<|
.b 18 .add .none (.t 17) (.i 1)<|
.m 7 18<|
.nil))))
def Sj (E:EB) (D:Az) (W:AM) (K1:H->AH) (R2:V->V->V->Int->H->AH) (a b c:V) (d:Int) (J:H):AH:=
 BA a fun n1=>
 AS (Ep d (AA n1)) (
 AT 2 a d fun b2 o3=>
 BQ E J b2 o3 2 fun l4=>
 A4 .i64 l4 fun x7 l6=>
 AE l6 fun x8 l9=>
 AQ l9 (
 AT 2 b d fun b10 o11=>
 BQ E J b10 o11 2 fun l12=>
 A4 .i64 l12 fun x15 l14=>
 AE l14 fun x16 l17=>
 AQ l17 (
 Ed D c [.agg [.int .i64 x7,x8],.agg [.int .i64 x15,x16]] J fun u18 s19=>
 An u18 fun x20=>
 AS (not x20) (
 some ((V.bool false),s19)) (
 R2 a b c (CU .i64 d (AA 1)) s19)))) (
 K1 J)
def ra (a b c:V) (J:H):St:=⟨[(0,a),(1,b),(2,c)],[],[],J⟩
def rZ (J:H):St:=⟨[],[],[],J⟩
def Zl (a b c:V) (d:Int) (J:H):St:=⟨[(0,a),(1,b),(2,c),(7,.int .i64 d)],[],[],J⟩
theorem ABu (cc1:XC) (cc2:XC) (a b c:V) (J:H) :
 AU E D W N (kh cc1 cc2) (ra a b c J) (IA E) nX (IA E) =
 ZY E D W (fun a b c d J=>Aw (fun rec s'=>AU E D W N cc2 s' (kX cy [] [] rec) (nq E D W N cc1) (IA E)) N (Zl a b c d J)) a b c J:=by kernel_rfl
theorem ABt (cc1:XC) (li2:St->AH) (a b c:V) (d:Int) (J:H) :
 AU E D W N (S5 ) (Zl a b c d J) (kX cy [] [] li2) (nq E D W N cc1) (IA E) =
 Sj E D W (fun  J=>AU E D W N cc1 (rZ J) (IA E) nX (IA E)) (fun a b c d J=>li2 (Zl a b c d J)) a b c d J:=by kernel_rfl
def sI (E:EB) (D:Az) (W:AM) (N:Nat):=gF E D W
theorem xN (J:H) :
 AU E D W N RY (rZ J) (IA E) nX (IA E)=sI E D W N  J:=by kernel_rfl
def Zs (n:Nat):V->V->V->Int->H->AH:=
 Nat.rec (fun _ _ _ _ _=>none) (fun _ ih=>Sj E D W (sI E D W N ) ih) n
theorem wx (n:Nat):∀(a b c:V) (d:Int) (J:H),
 Aw (fun rec s'=>AU E D W N S5 s' (kX cy [] [] rec) (nq E D W N RY) (IA E)) n (Zl a b c d J)=Zs E D W N n a b c d J:=by
 induction n with
 | zero=>intro a b c d J;rfl
 | succ n ihn=>
  intro a b c d J
  rw[BB]
  refine(ABt E D W N RY (Aw (fun rec s'=>AU E D W N S5 s' (kX cy [] [] rec) (nq E D W N RY) (IA E)) n) a b c d J).trans ?_
  simp only[ihn,xN]
  kernel_rfl
def sJ:=ZY E D W (Zs E D W N N)
theorem xO (a b c:V) (J:H) :
 AU E D W N (kh RY S5) (ra a b c J) (IA E) nX (IA E)=sJ E D W N a b c J:=by
 refine(ABu E D W N RY S5  a b c J).trans ?_
 simp only[wx]
 kernel_rfl
def xh (args:List V) (J:H):AH:=
 AE args fun x1 l2=>
 AE l2 fun x3 l4=>
 AE l4 fun x5 l6=>
 AQ l6 (
 sJ E D W N x1 x3 x5 J)
def A26:DV:=⟨30,[.any,.any,.any],[(.tmp 6)],(kh RY S5)⟩
theorem AHS (args:List V) (J:H):Br E D W N A26 args J=xh E D W N args J:=by
 unfold xh
 simp only[<-xO]
 kernel_rfl
def AEw:XC:=(.z (.P 2 (.box 46 (.t 0))<|
.P 3 (.box 46 (.t 1))<|
.c 4 y3<|
.nil)
 (.z (.f 5 0 2<|
.l 6 .i 5<|
.f 7 0 3<|
.l 8 .i 7<|
.b 9 .eql .none (.t 6) (.t 8)<|
.m 10 9<|
.gA 10 true (.p 11 [2,10] (.faddr 1 (.t 2))<|
.p 12 [11,10] (.load none (.t 11))<|
.p 13 [3,10] (.faddr 1 (.t 3))<|
.p 14 [13,10] (.load none (.t 13))<|
.op (some 15) .bool [12,14,10] (.call 24 [(.t 12),(.t 14)])<|
.nil) 16 10 15<|
.m 4 16<|
.nil)
 .ret))
def gE (E:EB) (D:Az) (W:AM) (a:Int) (b:V) (c:Int) (d:V) (J:H):AH:=
 G9 [.int .i64 a,b] J fun s1=>
 G9 [.int .i64 c,d] s1 fun s2=>
 BL E s2 (H.next J) 0 fun u3=>
 Ah .i64 u3 fun x4=>
 BL E s2 (H.next s1) 0 fun u5=>
 Ah .i64 u5 fun x6=>
 BR (fun c7 s8=>
 some ((V.bool c7),s8)) fun k9=>
 AS (Cu x4 x6) (
 BL E s2 (H.next J) 1 fun u10=>
 BL E s2 (H.next s1) 1 fun u11=>
 AW (D 24 [u10,u11] s2) fun u12 s13=>
 An u12 fun x14=>
 k9 x14 s13) (
 k9 false s2)
def F27 (N:Nat) (args:List V) (J:H):AH:=
 AE args fun x1 l2=>
 Cw x1 fun l3=>
 A4 .i64 l3 fun x6 l5=>
 AE l5 fun x7 l8=>
 AQ l8 (
 AE l2 fun x9 l10=>
 Cw x9 fun l11=>
 A4 .i64 l11 fun x14 l13=>
 AE l13 fun x15 l16=>
 AQ l16 (
 AQ l10 (
 gE E D W x6 x7 x14 x15 J)))
def A27:DV:=⟨17,[Z8,Z8],[(.tmp 4)],AEw⟩
theorem AHR (args:List V) (J:H):Br E D W N A27 args J=F27 E D W N args J:=by kernel_rfl
def cx:List (Nat × DM):=[(0,.any),(1,.any),(4,.i),(5,.i)]
def Oh:List (Nat × DM):=[(0,.any),(1,.any),(4,.i)]
def Ea (E:EB):St->AH:=fun s=>EA E s [] fun l=>some (EW l,s.J)
def nj (c0:XC) (l0:St->AH):Nat->St->AH:=Bn 2 (dX E D W N (.keep Oh [] [] c0) (kX Oh [] [] l0) (Bn 0 (Ea E) nX) (Ea E)) (Bn 1 (dX E D W N (.keep Oh [] [] c0) (kX Oh [] [] l0) (Bn 0 (Ea E) nX) (Ea E)) (Bn 0 (Ea E) nX))
def kg (cc1:XC):XC:=(.z (.q 4 0<|
.nil)
 (.block 0 (.loop Oh [] [] cc1)))
def rJ (E:EB) (D:Az) (W:AM) (K1:V->V->Int->H->AH) (a b:V) (J:H):AH:=
 K1 a b (AA 0) J
def S4 (cc2:XC) (cc3:XC):XC:=(.seq (.z (.m 6 4<|
.m 7 1<|
.u 8 7<|
.b 9 .lss .none (.t 6) (.t 8)<|
.nil)
 zF)
 (.seq (.block 1 (.z (.q 5 0<|
.nil)
 (.block 2 (.loop cx [] [] cc3))))
 (.keep Oh [] [] cc2)))
def Qn (E:EB) (D:Az) (W:AM) (K3:V->V->Int->Int->H->AH) (a b:V) (c:Int) (J:H):AH:=
 BA b fun n1=>
 AS (Ep c (AA n1)) (
 K3 a b c (AA 0) J) (
 some ((V.tup []),J))
def LN:XC:=(.ops (.m 10 4<|
.b 11 .add .none (.t 10) (.i 1)<|
.m 4 11<|
.nil))
def rI (E:EB) (D:Az) (W:AM) (R1:V->V->Int->H->AH) (a b:V) (c:Int) (J:H):AH:=
 R1 a b (CU .i64 c (AA 1)) J
def M3:XC:=(.seq (.z (.m 12 5<|
.m 13 1<|
.m 14 4<|
.s 15 1 13 14<|
.l 16 .any 15<|
.u 17 16<|
.b 18 .lss .none (.t 12) (.t 17)<|
.nil)
 (.cond (.tmp 18) .skip
 (.exit 2)))
 (.seq (.block 3 (.ops (.m 21 0<|
.m 22 1<|
.m 23 4<|
.s 24 1 22 23<|
.l 25 .any 24<|
.m 26 5<|
.s 27 1 25 26<|
.l 28 (.int .u8) 27<|
.P 29 (.conv (.toInt .u32) (.t 28))<|
.k 30 y6 78 [(.t 21),(.t 29),(.i 8)]<|
.nil)))
 (.ops (.m 19 5<|
.b 20 .add .none (.t 19) (.i 1)<|
.m 5 20<|
.nil))))
def Qm (E:EB) (D:Az) (W:AM) (K2:V->V->Int->H->AH) (R3:V->V->Int->Int->H->AH) (a b:V) (c d:Int) (J:H):AH:=
 AT 1 b c fun b1 o2=>
 BL E J b1 o2 fun u3=>
 BA u3 fun n4=>
 AS (Ep d (AA n4)) (
 AT 1 b c fun b5 o6=>
 BL E J b5 o6 fun u7=>
 AT 1 u7 d fun b8 o9=>
 BL E J b8 o9 fun u10=>
 Ah .u8 u10 fun x11=>
 AW (D 78 [a,.int .u32 (BP .u32 x11),.int .i64 (AA 8)] J) fun u12 s13=>
 Bc u12 fun l14=>
 AQ l14 (
 R3 a b c (CU .i64 d (AA 1)) s13)) (
 K2 a b c J)
def rY (a b:V) (J:H):St:=⟨[(0,a),(1,b)],[],[],J⟩
def RE (a b:V) (c:Int) (J:H):St:=⟨[(0,a),(1,b),(4,.int .i64 c)],[],[],J⟩
def Zk (a b:V) (c d:Int) (J:H):St:=⟨[(0,a),(1,b),(4,.int .i64 c),(5,.int .i64 d)],[],[],J⟩
theorem ABs (cc1:XC) (a b:V) (J:H) :
 AU E D W N (kg cc1) (rY a b J) (Ea E) nX (Ea E) =
 rJ E D W (fun a b c J=>Aw (fun rec s'=>AU E D W N cc1 s' (kX Oh [] [] rec) (Bn 0 (Ea E) nX) (Ea E)) N (RE a b c J)) a b J:=by kernel_rfl
theorem ABr (cc2:XC) (cc3:XC) (li1:St->AH) (a b:V) (c:Int) (J:H) :
 AU E D W N (S4 cc2 cc3) (RE a b c J) (kX Oh [] [] li1) (Bn 0 (Ea E) nX) (Ea E) =
 Qn E D W (fun a b c d J=>Aw (fun rec s'=>AU E D W N cc3 s' (kX cx [] [] rec) (nj E D W N cc2 li1) (Ea E)) N (Zk a b c d J)) a b c J:=by kernel_rfl
theorem ABq (cc2:XC) (li1:St->AH) (li3:St->AH) (a b:V) (c d:Int) (J:H) :
 AU E D W N (M3 ) (Zk a b c d J) (kX cx [] [] li3) (nj E D W N cc2 li1) (Ea E) =
 Qm E D W (fun a b c J=>AU E D W N cc2 (RE a b c J) (kX Oh [] [] li1) (Bn 0 (Ea E) nX) (Ea E)) (fun a b c d J=>li3 (Zk a b c d J)) a b c d J:=by kernel_rfl
def sG (E:EB) (D:Az) (W:AM) (N:Nat) (R1:V->V->Int->H->AH):=rI E D W R1
theorem xL (li1:St->AH) (a b:V) (c:Int) (J:H) :
 AU E D W N LN (RE a b c J) (kX Oh [] [] li1) (Bn 0 (Ea E) nX) (Ea E)=sG E D W N (fun a b c J=>li1 (RE a b c J)) a b c J:=by kernel_rfl
def Zq (R1:V->V->Int->H->AH) (n:Nat):V->V->Int->Int->H->AH:=
 Nat.rec (fun _ _ _ _ _=>none) (fun _ ih=>Qm E D W (sG E D W N R1) ih) n
theorem wu (li1:St->AH) (n:Nat):∀(a b:V) (c d:Int) (J:H),
 Aw (fun rec s'=>AU E D W N M3 s' (kX cx [] [] rec) (nj E D W N LN li1) (Ea E)) n (Zk a b c d J)=Zq E D W N (fun a b c J=>li1 (RE a b c J)) n a b c d J:=by
 induction n with
 | zero=>intro a b c d J;rfl
 | succ n ihn=>
  intro a b c d J
  rw[BB]
  refine(ABq E D W N LN li1 (Aw (fun rec s'=>AU E D W N M3 s' (kX cx [] [] rec) (nj E D W N LN li1) (Ea E)) n) a b c d J).trans ?_
  simp only[ihn,xL]
  kernel_rfl
def Zr (n:Nat):V->V->Int->H->AH:=
 Nat.rec (fun _ _ _ _=>none) (fun _ ih=>Qn E D W (Zq E D W N ih N)) n
theorem wv (n:Nat):∀(a b:V) (c:Int) (J:H),
 Aw (fun rec s'=>AU E D W N (S4 LN M3) s' (kX Oh [] [] rec) (Bn 0 (Ea E) nX) (Ea E)) n (RE a b c J)=Zr E D W N n a b c J:=by
 induction n with
 | zero=>intro a b c J;rfl
 | succ n ihn=>
  intro a b c J
  rw[BB]
  refine(ABr E D W N LN M3 (Aw (fun rec s'=>AU E D W N (S4 LN M3) s' (kX Oh [] [] rec) (Bn 0 (Ea E) nX) (Ea E)) n) a b c J).trans ?_
  simp only[ihn,wu]
  kernel_rfl
def sH:=rJ E D W (Zr E D W N N)
theorem xM (a b:V) (J:H) :
 AU E D W N (kg (S4 LN M3)) (rY a b J) (Ea E) nX (Ea E)=sH E D W N a b J:=by
 refine(ABs E D W N (S4 LN M3)  a b J).trans ?_
 simp only[wv]
 kernel_rfl
def yy (args:List V) (J:H):AH:=
 AE args fun x1 l2=>
 AE l2 fun x3 l4=>
 AQ l4 (
 sH E D W N x1 x3 J)
def A37:DV:=⟨31,lB,[],(kg (S4 LN M3))⟩
theorem AHQ (args:List V) (J:H):Br E D W N A37 args J=yy E D W N args J:=by
 unfold yy
 simp only[<-xM]
 kernel_rfl
def AEv:XC:=(.z (.c 2 V.nilp<|
.nil)
 (.z (.m 3 0<|
.O 4 .one (.append 5 1 1 (.con V.nils) (.t 3))<|
.op (some 5) (.agg Z3) [4] (.build [V.nils,y1] [(0,1,(.t 4))])<|
.op (some 6) zE [5] (.build [V.nils,y1,y1] [(0,2,(.t 5))])<|
.P 7 (.box 172 (.t 6))<|
.m 2 7<|
.nil)
 .ret))
def gD (E:EB) (D:Az) (W:AM) (a:V) (J:H):AH:=
 Ee E 1 1 V.nils a J fun u1 s2=>
 Cm u1 (
 HA [(0,1,u1)] [V.nils,.int .i64 (AA 0)] fun l3=>
 AE l3 fun x4 l5=>
 A4 .i64 l5 fun x8 l7=>
 AQ l7 (
 G9 [x4,.int .i64 x8,.int .i64 (AA 0)] s2 fun s9=>
 some ((V.ptr (H.next s2) 0),s9)))
def F41 (N:Nat) (args:List V) (J:H):AH:=
 AE args fun x1 l2=>
 AQ l2 (
 gD E D W x1 J)
def A41:DV:=⟨8,[.any],[(.tmp 2)],AEv⟩
theorem AHP (args:List V) (J:H):Br E D W N A41 args J=F41 E D W N args J:=by kernel_rfl
def AEu:XC:=(.z (.m 4 1<|
.nil)
 (.cond (.tmp 4) (.ops (.m 5 0<|
.n 6 5<|
.f 7 0 6<|
.l 8 .any 7<|
.k 9 y6 81 [(.t 8),(.i 4)]<|
.nil))
 .skip))
def Vs (E:EB) (D:Az) (W:AM) (a b:Nat) (c:Bool) (J:H):AH:=
 AS c (
 BL E J a b fun u1=>
 AW (D 81 [u1,.int .i64 (AA 4)] J) fun u2 s3=>
 Bc u2 fun l4=>
 AQ l4 (
 some ((V.tup []),s3))) (
 some ((V.tup []),J))
def yx (N:Nat) (args:List V) (J:H):AH:=
 AE args fun x1 l2=>
 Ar x1 fun b3 o4=>
 De l2 fun x7 l6=>
 AQ l6 (
 Vs E D W b3 o4 x7 J)
def A42:DV:=⟨10,[.ptr,.bool],[],AEu⟩
theorem AHO (args:List V) (J:H):Br E D W N A42 args J=yx E D W N args J:=by kernel_rfl
def AEt:XC:=(.z (.c 4 y3<|
.nil)
 (.z (.m 5 0<|
.n 6 5<|
.f 7 0 6<|
.l 8 .i 7<|
.m 9 1<|
.b 10 .add .none (.t 8) (.t 9)<|
.n 11 5<|
.f 12 0 11<|
.w 1 12 10<|
.nil)
 (.z (.m 13 0<|
.n 14 13<|
.f 15 0 14<|
.l 16 .i 15<|
.b 17 .leq .none (.t 16) (.i 5000)<|
.m 4 17<|
.nil)
 .ret)))
def gC (E:EB) (D:Az) (W:AM) (a b:Nat) (c:Int) (J:H):AH:=
 BL E J a b fun u1=>
 Ah .i64 u1 fun x2=>
 Dt 1 a b (V.int .i64 (CU .i64 x2 c)) J fun s3=>
 BL E s3 a b fun u4=>
 Ah .i64 u4 fun x5=>
 some ((V.bool (Hk x5 (AA 5000))),s3)
def F43 (N:Nat) (args:List V) (J:H):AH:=
 AE args fun x1 l2=>
 Ar x1 fun b3 o4=>
 A4 .i64 l2 fun x7 l6=>
 AQ l6 (
 gC E D W b3 o4 x7 J)
def A43:DV:=⟨18,[.ptr,.i],[(.tmp 4)],AEt⟩
theorem AHN (args:List V) (J:H):Br E D W N A43 args J=F43 E D W N args J:=by kernel_rfl
def AEs:XC:=(.z (.c 2 y3<|
.nil)
 (.z (.m 3 0<|
.n 4 3<|
.f 5 0 4<|
.l 6 .any 5<|
.k 7 .i 56 [(.t 6)]<|
.b 8 .eql .none (.t 7) (.i 0)<|
.m 2 8<|
.nil)
 .ret))
def fz (E:EB) (D:Az) (W:AM) (a b:Nat) (J:H):AH:=
 BL E J a b fun u1=>
 AW (D 56 [u1] J) fun u2 s3=>
 Ah .i64 u2 fun x4=>
 some ((V.bool (Cu x4 (AA 0))),s3)
def F44 (N:Nat) (args:List V) (J:H):AH:=
 AE args fun x1 l2=>
 Ar x1 fun b3 o4=>
 AQ l2 (
 fz E D W b3 o4 J)
def A44:DV:=⟨9,[.ptr],[(.tmp 2)],AEs⟩
theorem AHM (args:List V) (J:H):Br E D W N A44 args J=F44 E D W N args J:=by kernel_rfl
def AEr:XC:=(.z (.c 4 (V.int .u64 Rv)<|
.nil)
 (.z (.m 6 1<|
.k 7 .i 82 [(.t 6)]<|
.m 1 7<|
.nil)
 (.seq (.z (.m 8 0<|
.k 9 .i 56 [(.t 8)]<|
.b 10 .neq .none (.t 9) (.i 0)<|
.nil)
 (.cond (.tmp 10) (.z (.c 4 (V.int .u64 Rv)<|
.nil)
 .ret)
 .skip))
 (.seq (.z (.m 11 1<|
.m 12 0<|
.k 13 .i 57 [(.t 12)]<|
.b 14 .gtr .none (.t 11) (.t 13)<|
.nil)
 (.cond (.tmp 14) (.z (.m 15 0<|
.k 16 y6 81 [(.t 15),(.i 3)]<|
.nil)
 (.z (.c 4 (V.int .u64 Rv)<|
.nil)
 .ret))
 .skip))
 (.z (.m 17 0<|
.n 18 17<|
.f 19 0 18<|
.l 20 .any 19<|
.m 21 1<|
.b 22 .sub .none (.t 21) (.i 32)<|
.k 23 (.int .u32) 83 [(.t 20),(.t 22)]<|
.P 24 (.conv (.toInt .u64) (.t 23))<|
.m 5 24<|
.nil)
 (.seq (.draw (.m 25 5<|
.m 26 1<|
.p 27 [26] (.min (.t 26) [(.i 32)])<|
.b 28 .shl .none (.t 25) (.t 27)<|
.m 29 0<|
.n 30 29<|
.f 31 0 30<|
.l 32 .any 31<|
.m 33 1<|
.p 34 [33] (.min (.t 33) [(.i 32)])<|
.k 35 (.int .u32) 83 [(.t 32),(.t 34)]<|
.P 36 (.conv (.toInt .u64) (.t 35))<|
.b 37 .or .none (.t 28) (.t 36)<|
.m 4 37<|
.nil) [0,0,2,7,0,16,48,112,0,256,1008,2032,4095,8191])
 .ret))))))
def fy (E:EB) (D:Az) (W:AM) (a b:Nat) (c:Int) (J:H):AH:=
 AW (D 82 [.int .i64 c] J) fun u1 s2=>
 Ah .i64 u1 fun x3=>
 AW (D 56 [.ptr a b] s2) fun u4 s5=>
 Ah .i64 u4 fun x6=>
 AS (not (Cu x6 (AA 0))) (
 some ((V.int .u64 (AA 0)),s5)) (
 AW (D 57 [.ptr a b] s5) fun u7 s8=>
 Ah .i64 u7 fun x9=>
 AS (Ep x9 x3) (
 AW (D 81 [.ptr a b,.int .i64 (AA 3)] s8) fun u10 s11=>
 Bc u10 fun l12=>
 AQ l12 (
 some ((V.int .u64 (AA 0)),s11))) (
 BL E s8 a b fun u13=>
 AW (D 83 [u13,.int .i64 (E6 .i64 x3 (AA 32))] s8) fun u14 s15=>
 Ah .u32 u14 fun x16=>
 Pz (HL x3 (AA 32)) fun n17=>
 BL E s15 a b fun u18=>
 AW (D 83 [u18,.int .i64 (HL x3 (AA 32))] s15) fun u19 s20=>
 Ah .u32 u19 fun x21=>
 some ((V.int .u64 (Yz .u64 (MI .u64 (BP .u64 x16) n17) (BP .u64 x21))),s20)))
def F45 (N:Nat) (args:List V) (J:H):AH:=
 AE args fun x1 l2=>
 Ar x1 fun b3 o4=>
 A4 .i64 l2 fun x7 l6=>
 AQ l6 (
 fy E D W b3 o4 x7 J)
def A45:DV:=⟨38,[.ptr,.i],[(.tmp 4)],AEr⟩
theorem AHL (args:List V) (J:H):Br E D W N A45 args J=F45 E D W N args J:=by kernel_rfl
def AEq:XC:=(.z (.P 2 (.box 66 (.t 0))<|
.c 4 V.nils<|
.nil)
 (.z (.p 5 [] (.alloc 23 [V.nils])<|
.nil)
 (.z (.l 6 .any 2<|
.m 7 1<|
.p 8 [5,2] (.mkfn 93 [] [(.t 5),(.t 2)])<|
.k 9 .i 92 [(.t 6),(.t 7),(.t 8)]<|
.nil)
 (.seq (.z (.l 10 .any 2<|
.k 11 .i 56 [(.t 10)]<|
.b 12 .neq .none (.t 11) (.i 0)<|
.nil)
 (.cond (.tmp 12) (.z (.c 4 V.nils<|
.nil)
 .ret)
 .skip))
 (.z (.l 13 .any 5<|
.m 4 13<|
.nil)
 .ret)))))
def fx (E:EB) (D:Az) (W:AM) (a:V) (b:Int) (J:H):AH:=
 G9 (V.cells a) J fun s1=>
 let s2:=DR s1 (.cells [V.nils]);
 BL E s2 (H.next J) 0 fun u3=>
 AW (D 92 [u3,.int .i64 b,.fn 93 [] [.ptr (H.next s1) 0,.ptr (H.next J) 0]] s2) fun u4 s5=>
 Ah .i64 u4 fun x6=>
 BL E s5 (H.next J) 0 fun u7=>
 AW (D 56 [u7] s5) fun u8 s9=>
 Ah .i64 u8 fun x10=>
 AS (not (Cu x10 (AA 0))) (
 some (V.nils,s9)) (
 BL E s9 (H.next s1) 0 fun u11=>
 some (u11,s9))
def F48 (N:Nat) (args:List V) (J:H):AH:=
 AE args fun x1 l2=>
 A4 .i64 l2 fun x5 l4=>
 AQ l4 (
 fx E D W x1 x5 J)
def A48:DV:=⟨14,Z3,[(.tmp 4)],AEq⟩
theorem AHK (args:List V) (J:H):Br E D W N A48 args J=F48 E D W N args J:=by kernel_rfl
def AEp:XC:=(.z (.c 4 V.nils<|
.nil)
 (.seq (.z (.m 5 0<|
.k 6 .i 56 [(.t 5)]<|
.b 7 .neq .none (.t 6) (.i 0)<|
.nil)
 (.cond (.tmp 7) (.z (.c 4 V.nils<|
.nil)
 .ret)
 .skip))
 (.z (.m 8 0<|
.n 9 8<|
.f 10 0 9<|
.l 11 .any 10<|
.m 12 1<|
.k 13 .one 95 [(.t 11),(.t 12)]<|
.m 4 13<|
.nil)
 .ret)))
def fu (E:EB) (D:Az) (W:AM) (a b:Nat) (c:Int) (J:H):AH:=
 AW (D 56 [.ptr a b] J) fun u1 s2=>
 Ah .i64 u1 fun x3=>
 AS (not (Cu x3 (AA 0))) (
 some (V.nils,s2)) (
 BL E s2 a b fun u4=>
 AW (D 95 [u4,.int .i64 c] s2) fun u5 s6=>
 Cm u5 (
 some (u5,s6)))
def F51 (N:Nat) (args:List V) (J:H):AH:=
 AE args fun x1 l2=>
 Ar x1 fun b3 o4=>
 A4 .i64 l2 fun x7 l6=>
 AQ l6 (
 fu E D W b3 o4 x7 J)
def A51:DV:=⟨14,[.ptr,.i],[(.tmp 4)],AEp⟩
theorem AHJ (args:List V) (J:H):Br E D W N A51 args J=F51 E D W N args J:=by kernel_rfl
def Sz:List BY:=[⟨(some 18),.faddr 0 (.tmp 7),none⟩,⟨(some 19),.load none (.tmp 18),none⟩,⟨(some 20),.faddr 9 (.tmp 7),none⟩,⟨(some 21),.load none (.tmp 20),none⟩,⟨(some 22),.len false (.tmp 21),none⟩,⟨(some 23),.mkslice 43 6 96 [(V.int .i64 (AA 0)),(V.int .i64 (AA 0)),V.nils,V.nils,(V.int .i64 (AA 0)),V.nils] (.tmp 22) (.tmp 22),none⟩,⟨(some 24),.build [(V.int .i64 (AA 0)),(V.int .i64 (AA 0)),V.nils,V.nils,(V.int .i64 (AA 0)),V.nils] [(0,1,(.tmp 19)),(3,1,(.tmp 23))],none⟩,⟨(some 8),.alloc 43 [(V.int .i64 (AA 0)),(V.int .i64 (AA 0)),V.nils,V.nils,(V.int .i64 (AA 0)),V.nils],none⟩,⟨none,.store 6 (.tmp 8) (.tmp 24),none⟩]
def WD:List DP:=[⟨0,[7]⟩,⟨1,[18]⟩,⟨0,[7]⟩,⟨4,[20]⟩,⟨12,[21]⟩,⟨28,[22,22]⟩,⟨63,[19,23]⟩,⟨0,[]⟩,⟨255,[8,24]⟩]
def Sy:List BY:=[⟨(some 42),.mov (.tmp 0),none⟩,⟨(some 43),.load (some 13) (.tmp 7),none⟩,⟨(some 44),.mov (.tmp 0),none⟩,⟨(some 45),.nilck (.tmp 44),none⟩,⟨(some 46),.faddr 1 (.tmp 45),none⟩,⟨(some 47),.load (some 4) (.tmp 46),none⟩,⟨(some 48),.mov (.tmp 1),none⟩,⟨(some 49),.call 103 [(.tmp 47),(.tmp 48)],none⟩,⟨(some 50),.faddr 10 (.tmp 7),none⟩,⟨(some 51),.load none (.tmp 50),none⟩,⟨(some 52),.sliceSl 1 (.tmp 49) none (some (.tmp 51)) none,none⟩,⟨(some 53),.mov (.tmp 2),none⟩,⟨(some 54),.call 104 [(.tmp 42),(.tmp 43),(.tmp 8),(.tmp 52),(.tmp 53)],none⟩]
def WC:List DP:=[⟨0,[0]⟩,⟨0,[7]⟩,⟨0,[0]⟩,⟨4,[44]⟩,⟨12,[45]⟩,⟨28,[46]⟩,⟨0,[1]⟩,⟨124,[47,48]⟩,⟨0,[7]⟩,⟨256,[50]⟩,⟨1020,[49,51]⟩,⟨0,[2]⟩,⟨4095,[42,43,8,52,53]⟩]
def AEo (cc1:XC):XC:=(.z (.p 6 [] su<|
.nil)
 (.z (.m 10 0<|
.n 11 10<|
.f 12 1 11<|
.f 13 3 12<|
.l 14 .any 13<|
.m 15 1<|
.s 16 13 14 15<|
.O 17 y2 (.load (some 13) (.t 16))<|
.p 7 [] y7<|
.op none y2 [7,17] (.store 13 (.t 7) (.t 17))<|
.nil)
 (.seq (.keep [(0,.ptr),(1,.i),(2,.i),(6,.ptr),(7,.ptr)] [] [] (.gdraw Sz WD [(0,.ptr),(1,.i),(2,.i),(6,.ptr),(7,.ptr),(8,.ptr)]))
 (.seq (.draw (.m 25 0<|
.m 26 0<|
.n 27 26<|
.f 28 5 27<|
.l 29 .any 28<|
.f 30 9 7<|
.l 31 .any 30<|
.u 32 31<|
.k 33 .bool 43 [(.t 29),(.t 32)]<|
.P 34 (.un .not (.t 33))<|
.k 35 y6 42 [(.t 25),(.t 34)]<|
.nil) [0,0,2,6,14,0,32,96,254,510,1023])
 (.z (.f 36 11 7<|
.l 37 .bool 36<|
.m 38 37<|
.gA 38 true (.p 39 [0,38] Z6<|
.op (some 40) .bool [39,38] (.call 84 [(.t 39)])<|
.nil) 41 38 40<|
.m 9 41<|
.nil)
 (.seq (.keep [(0,.ptr),(1,.i),(2,.i),(6,.ptr),(7,.ptr),(8,.ptr),(9,.bool)] [] [] (.gdraw Sy WC [(0,.ptr),(1,.i),(2,.i),(6,.ptr),(8,.ptr),(9,.bool)]))
 (.seq (.z (.m 55 9<|
.m 56 55<|
.gA 56 true (.p 57 [0,56] Z6<|
.op (some 58) .bool [57,56] (.call 44 [(.t 57)])<|
.nil) 59 56 58<|
.nil)
 (.cond (.tmp 59) (.ops (.m 60 0<|
.m 61 1<|
.m 62 2<|
.k 63 y6 105 [(.t 60),(.t 61),(.t 8),(.t 62)]<|
.nil))
 .skip))
 (.keep [(6,.ptr),(8,.ptr)] [] [] cc1))))))))
def ZX (K1:Nat->Nat->Nat->Nat->H->AH) (a b:Nat) (c d:Int) (J:H):AH:=
 let s1:=DR J (.cells [.int .i64 (AA 0),.int .i64 (AA 0),V.nils,V.nils,.int .i64 (AA 0),V.nils]);
 BL E s1 a (Ac (Ac b 1) 3) fun u2=>
 AT 13 u2 c fun b3 o4=>
 BQ E s1 b3 o4 13 fun l5=>
 A4 .i64 l5 fun x8 l7=>
 AE l7 fun x9 l10=>
 De l10 fun x13 l12=>
 De l12 fun x16 l15=>
 De l15 fun x19 l18=>
 De l18 fun x22 l21=>
 A4 .i64 l21 fun x25 l24=>
 A4 .i64 l24 fun x28 l27=>
 AE l27 fun x29 l30=>
 AE l30 fun x31 l32=>
 A4 .i64 l32 fun x35 l34=>
 De l34 fun x38 l37=>
 A4 .i64 l37 fun x41 l40=>
 AQ l40 (
 let s42:=DR s1 (.cells [.int .i64 (AA 0),V.nils,.bool false,.bool false,.bool false,.bool false,.int .i64 (AA 0),.int .i64 (AA 0),V.nils,V.nils,.int .i64 (AA 0),.bool false,.int .i64 (AA 0)]);
 Dt 13 (H.next s1) 0 (V.agg [.int .i64 x8,x9,.bool x13,.bool x16,.bool x19,.bool x22,.int .i64 x25,.int .i64 x28,x29,x31,.int .i64 x35,.bool x38,.int .i64 x41]) s42 fun s43=>
 DA (W Sz WD [(0,.ptr a b),(1,.int .i64 c),(2,.int .i64 d),(6,.ptr (H.next J) 0),(7,.ptr (H.next s1) 0)] s43) fun e44 s45=>
 BW e44 0 fun u46=>
 Ar u46 fun b47 o48=>
 BW e44 1 fun u49=>
 Ah .i64 u49 fun x50=>
 BW e44 2 fun u51=>
 Ah .i64 u51 fun x52=>
 BW e44 6 fun u53=>
 Ar u53 fun b54 o55=>
 BW e44 7 fun u56=>
 Ar u56 fun b57 o58=>
 BW e44 8 fun u59=>
 Ar u59 fun b60 o61=>
 BL E s45 b47 (Ac o48 5) fun u62=>
 BL E s45 b57 (Ac o58 9) fun u63=>
 BA u63 fun n64=>
 AW (D 43 [u62,.int .i64 (AA n64)] s45) fun u65 s66=>
 An u65 fun x67=>
 AW (D 42 [.ptr b47 o48,.bool (not x67)] s66) fun u68 s69=>
 Bc u68 fun l70=>
 AQ l70 (
 BL E s69 b57 (Ac o58 11) fun u71=>
 An u71 fun x72=>
 BR (fun c73 s74=>
 DA (W Sy WC [(0,.ptr b47 o48),(1,.int .i64 x50),(2,.int .i64 x52),(6,.ptr b54 o55),(7,.ptr b57 o58),(8,.ptr b60 o61),(9,.bool c73)] s74) fun e76 s77=>
 BW e76 0 fun u78=>
 Ar u78 fun b79 o80=>
 BW e76 1 fun u81=>
 Ah .i64 u81 fun x82=>
 BW e76 2 fun u83=>
 Ah .i64 u83 fun x84=>
 BW e76 6 fun u85=>
 Ar u85 fun b86 o87=>
 BW e76 8 fun u88=>
 Ar u88 fun b89 o90=>
 BW e76 9 fun u91=>
 An u91 fun x92=>
 BR (fun c93 s94=>
 AS c93 (
 AW (D 105 [.ptr b79 o80,.int .i64 x82,.ptr b89 o90,.int .i64 x84] s94) fun u96 s97=>
 Bc u96 fun l98=>
 AQ l98 (
 K1 b86 o87 b89 o90 s97)) (
 K1 b86 o87 b89 o90 s94)) fun k95=>
 AS x92 (
 AW (D 44 [.ptr b79 o80] s77) fun u99 s100=>
 An u99 fun x101=>
 k95 x101 s100) (
 k95 false s77)) fun k75=>
 AS x72 (
 AW (D 84 [.ptr b47 o48] s69) fun u102 s103=>
 An u102 fun x104=>
 k75 x104 s103) (
 k75 false s69)))
def AEn:XC:=(.z (.O 64 y0 (.load (some 6) (.t 8))<|
.op none y0 [6,64] (.store 6 (.t 6) (.t 64))<|
.nil)
 .ret)
def ft (E:EB) (D:Az) (W:AM) (a b c d:Nat) (J:H):AH:=
 BQ E J c d 6 fun l1=>
 A4 .i64 l1 fun x4 l3=>
 A4 .i64 l3 fun x7 l6=>
 AE l6 fun x8 l9=>
 AE l9 fun x10 l11=>
 A4 .i64 l11 fun x14 l13=>
 AE l13 fun x15 l16=>
 AQ l16 (
 Dt 6 a b (V.agg [.int .i64 x4,.int .i64 x7,x8,x10,.int .i64 x14,x15]) J fun s17=>
 BQ E s17 a b 6 fun u18=>
 some ((V.agg u18),s17))
def ACK (E:EB) (D:Az) (W:AM) (N:Nat):=ft E D W
def yw (args:List V) (J:H):AH:=
 AE args fun x1 l2=>
 Ar x1 fun b3 o4=>
 A4 .i64 l2 fun x7 l6=>
 A4 .i64 l6 fun x10 l9=>
 AQ l9 (
 ZX E D W (ACK E D W N ) b3 o4 x7 x10 J)
def A55:DV:=⟨65,[.ptr,.i,.i],[(.cell 6 (some 6))],(AEo AEn)⟩
theorem AHI (args:List V) (J:H):Br E D W N A55 args J=yw E D W N args J:=by kernel_rfl
def AEm:XC:=(.z (.q 2 0<|
.nil)
 (.seq (.block 0 (.z (.m 4 0<|
.b 5 .eql .ptr (.t 4) Z5<|
.m 3 5<|
.nil)
 (.cond (.tmp 3) (.z (.q 2 2<|
.nil)
 .ret)
 (.z (.m 7 0<|
.n 8 7<|
.f 9 1 8<|
.l 10 .i 9<|
.b 11 .neq .none (.t 10) (.i 0)<|
.m 6 11<|
.nil)
 (.cond (.tmp 6) (.z (.m 12 0<|
.n 13 12<|
.f 14 1 13<|
.l 15 .i 14<|
.m 2 15<|
.nil)
 .ret)
 .skip)))))
 (.z (.m 16 0<|
.n 17 16<|
.f 18 0 17<|
.l 19 .any 18<|
.k 20 .i 106 [(.t 19)]<|
.m 2 20<|
.nil)
 .ret)))
def fq (E:EB) (D:Az) (W:AM) (a:V) (J:H):AH:=
 SV .ptr a V.nilp fun c1=>
 AS c1 (
 some ((V.int .i64 (AA 2)),J)) (
 Ar a fun b2 o3=>
 BL E J b2 (Ac o3 1) fun u4=>
 Ah .i64 u4 fun x5=>
 AS (not (Cu x5 (AA 0))) (
 Ar a fun b6 o7=>
 BL E J b6 (Ac o7 1) fun u8=>
 Ah .i64 u8 fun x9=>
 some ((V.int .i64 x9),J)) (
 Ar a fun b10 o11=>
 BL E J b10 o11 fun u12=>
 AW (D 106 [u12] J) fun u13 s14=>
 Ah .i64 u13 fun x15=>
 some ((V.int .i64 x15),s14)))
def F56 (N:Nat) (args:List V) (J:H):AH:=
 AE args fun x1 l2=>
 AQ l2 (
 fq E D W x1 J)
def A56:DV:=⟨21,[.any],[(.tmp 2)],AEm⟩
theorem AHH (args:List V) (J:H):Br E D W N A56 args J=F56 E D W N args J:=by kernel_rfl
def AEl:XC:=(.z (.q 2 0<|
.nil)
 (.seq (.z (.m 3 0<|
.b 4 .eql .ptr (.t 3) Z5<|
.nil)
 y14)
 (.z (.m 5 0<|
.n 6 5<|
.f 7 0 6<|
.l 8 .any 7<|
.k 9 .i 107 [(.t 8)]<|
.m 2 9<|
.nil)
 .ret)))
def fp (E:EB) (D:Az) (W:AM) (a:V) (J:H):AH:=
 SV .ptr a V.nilp fun c1=>
 AS c1 (
 some ((V.int .i64 (AA 0)),J)) (
 Ar a fun b2 o3=>
 BL E J b2 o3 fun u4=>
 AW (D 107 [u4] J) fun u5 s6=>
 Ah .i64 u5 fun x7=>
 some ((V.int .i64 x7),s6))
def F57 (N:Nat) (args:List V) (J:H):AH:=
 AE args fun x1 l2=>
 AQ l2 (
 fp E D W x1 J)
def A57:DV:=⟨10,[.any],[(.tmp 2)],AEl⟩
theorem AHG (args:List V) (J:H):Br E D W N A57 args J=F57 E D W N args J:=by kernel_rfl
def AEk:XC:=(.z (.q 2 0<|
.nil)
 (.seq (.z (.m 6 0<|
.k 7 .i 106 [(.t 6)]<|
.m 3 7<|
.nil)
 (.z (.m 8 3<|
.b 9 .neq .none (.t 8) (.i 0)<|
.nil)
 (.cond (.tmp 9) (.z (.m 10 3<|
.m 2 10<|
.nil)
 .ret)
 .skip)))
 (.z (.m 11 0<|
.n 12 11<|
.f 13 0 12<|
.O 14 (.agg Z3) (.load (some 2) (.t 13))<|
.p 4 [] (.alloc 170 [V.nils,y1])<|
.op none (.agg Z3) [4,14] (.store 2 (.t 4) (.t 14))<|
.nil)
 (.seq (.z (.k 15 .i 108 [(.t 4)]<|
.m 5 15<|
.nil)
 (.z (.m 16 5<|
.b 17 .geq .none (.t 16) (.i 8)<|
.m 18 17<|
.gO 18 false (.p 19 [5,18] (.mov (.t 5))<|
.op (some 20) (.int .u32) [4,19,18] (.call 109 [(.t 4),(.t 19)])<|
.p 21 [20,18] (.bin .neq .none (.t 20) (.con (V.int .u32 Rv)))<|
.nil) 22 18 21<|
.nil)
 (.cond (.tmp 22) (.z (.q 2 4<|
.nil)
 .ret)
 .skip)))
 (.z (.q 2 0<|
.nil)
 .ret)))))
def Vq (E:EB) (D:Az) (W:AM) (a b:Nat) (J:H):AH:=
 AW (D 106 [.ptr a b] J) fun u1 s2=>
 Ah .i64 u1 fun x3=>
 AS (not (Cu x3 (AA 0))) (
 some ((V.int .i64 x3),s2)) (
 BQ E s2 a b 2 fun l4=>
 AE l4 fun x5 l6=>
 A4 .i64 l6 fun x9 l8=>
 AQ l8 (
 let s10:=DR s2 (.cells [V.nils,.int .i64 (AA 0)]);
 Dt 2 (H.next s2) 0 (V.agg [x5,.int .i64 x9]) s10 fun s11=>
 AW (D 108 [.ptr (H.next s2) 0] s11) fun u12 s13=>
 Ah .i64 u12 fun x14=>
 BR (fun c15 s16=>
 AS c15 (
 some ((V.int .i64 (AA 4)),s16)) (
 some ((V.int .i64 (AA 0)),s16))) fun k17=>
 AS (Hk (AA 8) x14) (
 k17 true s13) (
 AW (D 109 [.ptr (H.next s2) 0,.int .i64 x14] s13) fun u18 s19=>
 Ah .u32 u18 fun x20=>
 k17 (not (Cu x20 (AA 0))) s19)))
def F58 (N:Nat) (args:List V) (J:H):AH:=
 AE args fun x1 l2=>
 Ar x1 fun b3 o4=>
 AQ l2 (
 Vq E D W b3 o4 J)
def A58:DV:=⟨23,[.ptr],[(.tmp 2)],AEk⟩
theorem AHF (args:List V) (J:H):Br E D W N A58 args J=F58 E D W N args J:=by kernel_rfl
def AEj (cc1:XC) (cc2:XC):XC:=(.z (.P 6 (.box 43 (.t 2))<|
.c 8 y3<|
.nil)
 (.seq (.z (.m 10 1<|
.b 11 .lss .none (.t 10) (.i 0)<|
.m 12 11<|
.gO 12 false (.p 13 [1,12] cE<|
.p 14 [0,12] Z6<|
.p 15 [14,12] (.nilck (.t 14))<|
.p 16 [15,12] (.faddr 0 (.t 15))<|
.p 17 [16,12] (.faddr 0 (.t 16))<|
.p 18 [17,12] (.faddr 3 (.t 17))<|
.p 19 [18,12] (.load none (.t 18))<|
.p 20 [19,12] (.len false (.t 19))<|
.p 21 [13,20,12] (.bin .geq .none (.t 13) (.t 20))<|
.nil) 22 12 21<|
.m 23 22<|
.gO 23 false (.p 24 [3,23] (.mov (.t 3))<|
.p 25 [24,23] (.bin .gtr .none (.t 24) (.i 17))<|
.nil) 26 23 25<|
.nil)
 (.cond (.tmp 26) (.z (.c 8 y3<|
.nil)
 .ret)
 .skip))
 (.z (.m 27 0<|
.n 28 27<|
.f 29 0 28<|
.f 30 0 29<|
.f 31 3 30<|
.l 32 .any 31<|
.m 33 1<|
.s 34 13 32 33<|
.O 35 y2 (.load (some 13) (.t 34))<|
.pal 9 [] 111 [y1,V.nils,y3,y3,y3,y3,y1,y1,V.nils,V.nils,y1,y3,y1]<|
.op none y2 [9,35] (.store 13 (.t 9) (.t 35))<|
.nil)
 (.seq (.z (.f 36 0 6<|
.l 37 .i 36<|
.b 38 .eql .none (.t 37) (.i 12)<|
.nil)
 (.cond (.tmp 38) (.z (.m 39 0<|
.m 40 1<|
.O 41 y0 (.load (some 6) (.t 6))<|
.k 42 .bool 110 [(.t 39),(.t 40),(.t 41)]<|
.m 8 42<|
.nil)
 .ret)
 .skip))
 (.seq (.z (.f 43 0 6<|
.l 44 .i 43<|
.f 45 0 9<|
.l 46 .i 45<|
.b 47 .neq .none (.t 44) (.t 46)<|
.nil)
 (.cond (.tmp 47) (.z (.c 8 y3<|
.nil)
 .ret)
 .skip))
 (.seq (.z (.f 48 0 9<|
.l 49 .i 48<|
.nil)
 (.block 0 (.z (.b 51 .eql .none (.t 49) (.i 1)<|
.m 50 51<|
.nil)
 (.cond (.tmp 50) (.z (.O 52 y0 (.load (some 6) (.t 6))<|
.k 53 .bool 111 [(.t 52),(.i 1)]<|
.m 54 53<|
.gA 54 true (.p 55 [6,54] sp<|
.op (some 56) .i [55,54] (.load none (.t 55))<|
.p 57 [56,54] (.bin .eql .none (.t 56) (.i 0))<|
.p 58 [57,54] (.mov (.t 57))<|
.grp 58 false (.p 59 [6,58] sp<|
.op (some 60) .i [59,58] (.load none (.t 59))<|
.p 61 [60,58] (.bin .eql .none (.t 60) (.i 1))<|
.nil) 62 [58,61,54] (.t 58) (.con TC) (.t 61)<|
.nil) 63 54 62<|
.m 8 63<|
.nil)
 .ret)
 (.z (.b 65 .eql .none (.t 49) (.i 2)<|
.m 64 65<|
.nil)
 (.cond (.tmp 64) (.z (.O 66 y0 (.load (some 6) (.t 6))<|
.k 67 .bool 111 [(.t 66),(.i 1)]<|
.m 68 67<|
.gA 68 true (.p 69 [9,68] (.faddr 2 (.t 9))<|
.p 70 [69,68] (.faddr 3 (.t 69))<|
.op (some 71) .bool [70,68] (.load none (.t 70))<|
.p 72 [71,68] (.mov (.t 71))<|
.grp 72 false (.p 73 [9,72] (.faddr 2 (.t 9))<|
.op (some 74) y8 [73,72] (.load (some 6) (.t 73))<|
.p 75 [6,72] sp<|
.op (some 76) .i [75,72] (.load none (.t 75))<|
.op (some 77) .bool [74,76,72] (.call 89 [(.t 74),(.t 76)])<|
.nil) 78 [72,77,68] (.t 72) (.con TC) (.t 77)<|
.nil) 79 68 78<|
.m 8 79<|
.nil)
 .ret)
 (.z (.b 81 .eql .none (.t 49) (.i 3)<|
.m 80 81<|
.nil)
 (.cond (.tmp 80) (.z (.O 82 y0 (.load (some 6) (.t 6))<|
.k 83 .bool 111 [(.t 82),(.i 1)]<|
.m 84 83<|
.gA 84 true (.op (some 85) y2 [9,84] (.load (some 13) (.t 9))<|
.p 86 [6,84] sp<|
.op (some 87) .i [86,84] (.load none (.t 86))<|
.op (some 88) .i [85,87,84] (.call 112 [(.t 85),(.t 87)])<|
.p 89 [88,84] (.bin .geq .none (.t 88) (.i 0))<|
.nil) 90 84 89<|
.m 8 90<|
.nil)
 .ret)
 (.z (.b 92 .eql .none (.t 49) (.i 4)<|
.m 91 92<|
.nil)
 (.cond (.tmp 91) (.z (.O 93 y0 (.load (some 6) (.t 6))<|
.k 94 .bool 111 [(.t 93),(.i 0)]<|
.m 8 94<|
.nil)
 .ret)
 (.seq (.z (.b 96 .eql .none (.t 49) (.i 5)<|
.m 95 96<|
.nil)
 (.cond (.tmp 95) .skip
 (.ops (.b 97 .eql .none (.t 49) (.i 6)<|
.m 95 97<|
.nil))))
 (.keep [(0,.ptr),(1,.i),(3,.i),(6,.ptr),(49,.i),(95,.bool)] [9] [(9,[.i,.any,.bool,.bool,.bool,.bool,.i,.i,.any,.any,.i,.bool,.i])] cc2))))))))))))
 (.keep [] [] [] cc1)))))))
def Vp (E:EB) (D:Az) (W:AM) (K2:Nat->Nat->Int->Int->Nat->Nat->Int->Bool->Int->V->Bool->Bool->Bool->Bool->Int->Int->V->V->Int->Bool->Int->H->AH) (a b:Nat) (c d e:Int) (f g:V) (h:Int) (i:V) (j:Int) (J:H):AH:=
 G9 [.int .i64 d,.int .i64 e,f,g,.int .i64 h,i] J fun s1=>
 BR (fun c2 s3=>
 BR (fun c5 s6=>
 AS c5 (
 some ((V.bool false),s6)) (
 BL E s6 a (Ac b 3) fun u8=>
 AT 13 u8 c fun b9 o10=>
 BQ E s6 b9 o10 13 fun l11=>
 A4 .i64 l11 fun x14 l13=>
 AE l13 fun x15 l16=>
 De l16 fun x19 l18=>
 De l18 fun x22 l21=>
 De l21 fun x25 l24=>
 De l24 fun x28 l27=>
 A4 .i64 l27 fun x31 l30=>
 A4 .i64 l30 fun x34 l33=>
 AE l33 fun x35 l36=>
 AE l36 fun x37 l38=>
 A4 .i64 l38 fun x41 l40=>
 De l40 fun x44 l43=>
 A4 .i64 l43 fun x47 l46=>
 AQ l46 (
 IT (allOne [.int .i64 x14,x15,.bool x19,.bool x22,.bool x25,.bool x28,.int .i64 x31,.int .i64 x34,x35,x37,.int .i64 x41,.bool x44,.int .i64 x47]) (
 BL E s6 (H.next J) 0 fun u48=>
 Ah .i64 u48 fun x49=>
 AS (Cu x49 (AA 12)) (
 BQ E s6 (H.next J) 0 6 fun l50=>
 A4 .i64 l50 fun x53 l52=>
 A4 .i64 l52 fun x56 l55=>
 AE l55 fun x57 l58=>
 AE l58 fun x59 l60=>
 A4 .i64 l60 fun x63 l62=>
 AE l62 fun x64 l65=>
 AQ l65 (
 AW (D 110 [.ptr a b,.int .i64 c,.agg [.int .i64 x53,.int .i64 x56,x57,x59,.int .i64 x63,x64]] s6) fun u66 s67=>
 An u66 fun x68=>
 some ((V.bool x68),s67))) (
 BL E s6 (H.next J) 0 fun u69=>
 Ah .i64 u69 fun x70=>
 AS (not (Cu x70 x14)) (
 some ((V.bool false),s6)) (
 AS (Cu x14 (AA 1)) (
 BQ E s6 (H.next J) 0 6 fun l71=>
 A4 .i64 l71 fun x74 l73=>
 A4 .i64 l73 fun x77 l76=>
 AE l76 fun x78 l79=>
 AE l79 fun x80 l81=>
 A4 .i64 l81 fun x84 l83=>
 AE l83 fun x85 l86=>
 AQ l86 (
 AW (D 111 [.agg [.int .i64 x74,.int .i64 x77,x78,x80,.int .i64 x84,x85],.int .i64 (AA 1)] s6) fun u87 s88=>
 An u87 fun x89=>
 BR (fun c90 s91=>
 some ((V.bool c90),s91)) fun k92=>
 AS x89 (
 BL E s88 (H.next J) 1 fun u93=>
 Ah .i64 u93 fun x94=>
 BR (fun c95 s96=>
 k92 c95 s96) fun k97=>
 AS (Cu x94 (AA 0)) (
 k97 true s88) (
 BL E s88 (H.next J) 1 fun u98=>
 Ah .i64 u98 fun x99=>
 k97 (Cu x99 (AA 1)) s88)) (
 k92 false s88))) (
 AS (Cu x14 (AA 2)) (
 BQ E s6 (H.next J) 0 6 fun l100=>
 A4 .i64 l100 fun x103 l102=>
 A4 .i64 l102 fun x106 l105=>
 AE l105 fun x107 l108=>
 AE l108 fun x109 l110=>
 A4 .i64 l110 fun x113 l112=>
 AE l112 fun x114 l115=>
 AQ l115 (
 AW (D 111 [.agg [.int .i64 x103,.int .i64 x106,x107,x109,.int .i64 x113,x114],.int .i64 (AA 1)] s6) fun u116 s117=>
 An u116 fun x118=>
 BR (fun c119 s120=>
 some ((V.bool c119),s120)) fun k121=>
 AS x118 (
 BR (fun c122 s123=>
 k121 c122 s123) fun k124=>
 AS x28 (
 k124 true s117) (
 BL E s117 (H.next J) 1 fun u125=>
 Ah .i64 u125 fun x126=>
 AW (D 89 [.agg [.bool x19,.bool x22,.bool x25,.bool x28,.int .i64 x31,.int .i64 x34],.int .i64 x126] s117) fun u127 s128=>
 An u127 fun x129=>
 k124 x129 s128)) (
 k121 false s117))) (
 AS (Cu x14 (AA 3)) (
 BQ E s6 (H.next J) 0 6 fun l130=>
 A4 .i64 l130 fun x133 l132=>
 A4 .i64 l132 fun x136 l135=>
 AE l135 fun x137 l138=>
 AE l138 fun x139 l140=>
 A4 .i64 l140 fun x143 l142=>
 AE l142 fun x144 l145=>
 AQ l145 (
 AW (D 111 [.agg [.int .i64 x133,.int .i64 x136,x137,x139,.int .i64 x143,x144],.int .i64 (AA 1)] s6) fun u146 s147=>
 An u146 fun x148=>
 BR (fun c149 s150=>
 some ((V.bool c149),s150)) fun k151=>
 AS x148 (
 BL E s147 (H.next J) 1 fun u152=>
 Ah .i64 u152 fun x153=>
 AW (D 112 [.agg [.int .i64 x14,x15,.bool x19,.bool x22,.bool x25,.bool x28,.int .i64 x31,.int .i64 x34,x35,x37,.int .i64 x41,.bool x44,.int .i64 x47],.int .i64 x153] s147) fun u154 s155=>
 Ah .i64 u154 fun x156=>
 k151 (Hk (AA 0) x156) s155) (
 k151 false s147))) (
 AS (Cu x14 (AA 4)) (
 BQ E s6 (H.next J) 0 6 fun l157=>
 A4 .i64 l157 fun x160 l159=>
 A4 .i64 l159 fun x163 l162=>
 AE l162 fun x164 l165=>
 AE l165 fun x166 l167=>
 A4 .i64 l167 fun x170 l169=>
 AE l169 fun x171 l172=>
 AQ l172 (
 AW (D 111 [.agg [.int .i64 x160,.int .i64 x163,x164,x166,.int .i64 x170,x171],.int .i64 (AA 0)] s6) fun u173 s174=>
 An u173 fun x175=>
 some ((V.bool x175),s174))) (
 AS (Cu x14 (AA 5)) (
 K2 a b c j (H.next J) 0 x14 (Cu x14 (AA 5)) x14 x15 x19 x22 x25 x28 x31 x34 x35 x37 x41 x44 x47 s6) (
 K2 a b c j (H.next J) 0 x14 (Cu x14 (AA 6)) x14 x15 x19 x22 x25 x28 x31 x34 x35 x37 x41 x44 x47 s6))))))))))) fun k7=>
 AS c2 (
 k7 true s3) (
 k7 (Ep (AA 17) j) s3)) fun k4=>
 AS (Ep c (AA 0)) (
 k4 true s1) (
 BL E s1 a (Ac b 3) fun u176=>
 BA u176 fun n177=>
 k4 (Hk (AA n177) c) s1)
def AEi:XC:=(.z (.c 8 y3<|
.nil)
 .ret)
def AAk (E:EB) (D:Az) (W:AM) (J:H):AH:=
 some ((V.bool false),J)
def AEh (cc3:XC):XC:=(.cond (.tmp 95) (.z (.m 98 0<|
.O 99 y2 (.load (some 13) (.t 9))<|
.O 100 y0 (.load (some 6) (.t 6))<|
.k 101 .bool 113 [(.t 98),(.t 99),(.t 100)]<|
.m 8 101<|
.nil)
 .ret)
 (.z (.b 103 .eql .none (.t 49) (.i 10)<|
.m 102 103<|
.nil)
 (.cond (.tmp 102) (.z (.m 104 0<|
.O 105 y2 (.load (some 13) (.t 9))<|
.O 106 y0 (.load (some 6) (.t 6))<|
.m 107 3<|
.k 108 .bool 114 [(.t 104),(.t 105),(.t 106),(.t 107)]<|
.m 8 108<|
.nil)
 .ret)
 (.z (.b 110 .eql .none (.t 49) (.i 9)<|
.m 109 110<|
.nil)
 (.cond (.tmp 109) (.seq (.draw (.O 111 y0 (.load (some 6) (.t 6))<|
.k 112 .bool 111 [(.t 111),(.i 5)]<|
.m 113 112<|
.gA 113 true (.p 114 [6,113] sp<|
.op (some 115) .i [114,113] (.load none (.t 114))<|
.p 116 [115,113] (.bin .geq .none (.t 115) (.i 0))<|
.nil) 117 113 116<|
.m 118 117<|
.gA 118 true (.p 119 [6,118] sp<|
.op (some 120) .i [119,118] (.load none (.t 119))<|
.p 121 [9,118] (.faddr 9 (.t 9))<|
.p 122 [121,118] (.load none (.t 121))<|
.p 123 [122,118] (.len false (.t 122))<|
.p 124 [120,123,118] (.bin .lss .none (.t 120) (.t 123))<|
.nil) 125 118 124<|
.m 126 125<|
.gA 126 true (.p 127 [6,126] (.faddr 3 (.t 6))<|
.p 128 [127,126] (.load none (.t 127))<|
.p 129 [128,126] (.len false (.t 128))<|
.p 130 [129,126] (.bin .eql .none (.t 129) (.i 1))<|
.nil) 131 126 130<|
.m 132 131<|
.gA 132 true (.p 133 [0,132] Z6<|
.p 134 [9,132] (.faddr 9 (.t 9))<|
.p 135 [134,132] (.load none (.t 134))<|
.p 136 [6,132] sp<|
.op (some 137) .i [136,132] (.load none (.t 136))<|
.p 138 [135,137,132] (.iaddrS 11 (.t 135) (.t 137))<|
.p 139 [138,132] (.faddr 1 (.t 138))<|
.op (some 140) .i [139,132] (.load none (.t 139))<|
.p 141 [6,132] (.faddr 3 (.t 6))<|
.p 142 [141,132] (.load none (.t 141))<|
.p 143 [142,132] (.iaddrS 6 (.t 142) (.i 0))<|
.op (some 144) y0 [143,132] (.load (some 6) (.t 143))<|
.p 145 [3,132] (.mov (.t 3))<|
.p 146 [145,132] (.bin .add .none (.t 145) (.i 1))<|
.op (some 147) .bool [133,140,144,146,132] (.call 59 [(.t 133),(.t 140),(.t 144),(.t 146)])<|
.nil) 148 132 147<|
.m 8 148<|
.nil) [0,1,3,7,15,31,63,127,255,511,255,1279,3327,8191,16383,32767,65535,131071,262143,524287,1048575,2097151,4194303,4194303,12582911,4194303,37748735,130023423,264241151,532676607,4194303,1077936127,3225419775,7520387071,4194303,17184063487,68719476735,137438953471,274877906943])
 .ret)
 (.seq (.z (.b 150 .eql .none (.t 49) (.i 7)<|
.m 149 150<|
.nil)
 (.cond (.tmp 149) .skip
 (.ops (.b 151 .eql .none (.t 49) (.i 8)<|
.m 149 151<|
.nil))))
 (.keep [(0,.ptr),(1,.i),(3,.i),(6,.ptr),(149,.bool)] [] [] cc3)))))))
def fj (E:EB) (D:Az) (W:AM) (K3:Nat->Nat->Int->Int->Nat->Nat->Bool->H->AH) (a b:Nat) (c d:Int) (e f:Nat) (g:Int) (h:Bool) (i:Int) (j:V) (k l m o:Bool) (p q:Int) (r s:V) (t:Int) (u:Bool) (v:Int) (J:H):AH:=
 AS h (
 BQ E J e f 6 fun l1=>
 A4 .i64 l1 fun x4 l3=>
 A4 .i64 l3 fun x7 l6=>
 AE l6 fun x8 l9=>
 AE l9 fun x10 l11=>
 A4 .i64 l11 fun x14 l13=>
 AE l13 fun x15 l16=>
 AQ l16 (
 AW (D 113 [.ptr a b,.agg [.int .i64 i,j,.bool k,.bool l,.bool m,.bool o,.int .i64 p,.int .i64 q,r,s,.int .i64 t,.bool u,.int .i64 v],.agg [.int .i64 x4,.int .i64 x7,x8,x10,.int .i64 x14,x15]] J) fun u17 s18=>
 An u17 fun x19=>
 some ((V.bool x19),s18))) (
 AS (Cu g (AA 10)) (
 BQ E J e f 6 fun l20=>
 A4 .i64 l20 fun x23 l22=>
 A4 .i64 l22 fun x26 l25=>
 AE l25 fun x27 l28=>
 AE l28 fun x29 l30=>
 A4 .i64 l30 fun x33 l32=>
 AE l32 fun x34 l35=>
 AQ l35 (
 AW (D 114 [.ptr a b,.agg [.int .i64 i,j,.bool k,.bool l,.bool m,.bool o,.int .i64 p,.int .i64 q,r,s,.int .i64 t,.bool u,.int .i64 v],.agg [.int .i64 x23,.int .i64 x26,x27,x29,.int .i64 x33,x34],.int .i64 d] J) fun u36 s37=>
 An u36 fun x38=>
 some ((V.bool x38),s37))) (
 AS (Cu g (AA 9)) (
 BQ E J e f 6 fun l39=>
 A4 .i64 l39 fun x42 l41=>
 A4 .i64 l41 fun x45 l44=>
 AE l44 fun x46 l47=>
 AE l47 fun x48 l49=>
 A4 .i64 l49 fun x52 l51=>
 AE l51 fun x53 l54=>
 AQ l54 (
 AW (D 111 [.agg [.int .i64 x42,.int .i64 x45,x46,x48,.int .i64 x52,x53],.int .i64 (AA 5)] J) fun u55 s56=>
 An u55 fun x57=>
 BR (fun c58 s59=>
 BR (fun c61 s62=>
 BR (fun c64 s65=>
 BR (fun c67 s68=>
 some ((V.bool c67),s68)) fun k69=>
 AS c64 (
 BL E s65 e (Ac f 1) fun u70=>
 Ah .i64 u70 fun x71=>
 AT 11 s x71 fun b72 o73=>
 BL E s65 b72 (Ac o73 1) fun u74=>
 Ah .i64 u74 fun x75=>
 BL E s65 e (Ac f 3) fun u76=>
 AT 6 u76 (AA 0) fun b77 o78=>
 BQ E s65 b77 o78 6 fun l79=>
 A4 .i64 l79 fun x82 l81=>
 A4 .i64 l81 fun x85 l84=>
 AE l84 fun x86 l87=>
 AE l87 fun x88 l89=>
 A4 .i64 l89 fun x92 l91=>
 AE l91 fun x93 l94=>
 AQ l94 (
 AW (D 59 [.ptr a b,.int .i64 x75,.agg [.int .i64 x82,.int .i64 x85,x86,x88,.int .i64 x92,x93],.int .i64 (CU .i64 d (AA 1))] s65) fun u95 s96=>
 An u95 fun x97=>
 k69 x97 s96)) (
 k69 false s65)) fun k66=>
 AS c61 (
 BL E s62 e (Ac f 3) fun u98=>
 BA u98 fun n99=>
 k66 (Cu (AA n99) (AA 1)) s62) (
 k66 false s62)) fun k63=>
 AS c58 (
 BL E s59 e (Ac f 1) fun u100=>
 Ah .i64 u100 fun x101=>
 BA s fun n102=>
 k63 (Ep x101 (AA n102)) s59) (
 k63 false s59)) fun k60=>
 AS x57 (
 BL E s56 e (Ac f 1) fun u103=>
 Ah .i64 u103 fun x104=>
 k60 (Hk (AA 0) x104) s56) (
 k60 false s56))) (
 AS (Cu g (AA 7)) (
 K3 a b c d e f (Cu g (AA 7)) J) (
 K3 a b c d e f (Cu g (AA 8)) J))))
def AEg:XC:=(.cond (.tmp 149) (.z (.m 152 0<|
.m 153 1<|
.O 154 y0 (.load (some 6) (.t 6))<|
.m 155 3<|
.k 156 .bool 115 [(.t 152),(.t 153),(.t 154),(.t 155)]<|
.m 8 156<|
.nil)
 .ret)
 .skip)
def fi (E:EB) (D:Az) (W:AM) (K1:H->AH) (a b:Nat) (c d:Int) (e f:Nat) (g:Bool) (J:H):AH:=
 AS g (
 BQ E J e f 6 fun l1=>
 A4 .i64 l1 fun x4 l3=>
 A4 .i64 l3 fun x7 l6=>
 AE l6 fun x8 l9=>
 AE l9 fun x10 l11=>
 A4 .i64 l11 fun x14 l13=>
 AE l13 fun x15 l16=>
 AQ l16 (
 AW (D 115 [.ptr a b,.int .i64 c,.agg [.int .i64 x4,.int .i64 x7,x8,x10,.int .i64 x14,x15],.int .i64 d] J) fun u17 s18=>
 An u17 fun x19=>
 some ((V.bool x19),s18))) (
 K1 J)
def sF (E:EB) (D:Az) (W:AM) (N:Nat):=AAk E D W
def ACI:=fi E D W (sF E D W N )
def ACJ:=fj E D W (ACI E D W N )
def xg (args:List V) (J:H):AH:=
 AE args fun x1 l2=>
 Ar x1 fun b3 o4=>
 A4 .i64 l2 fun x7 l6=>
 AE l6 fun x8 l9=>
 Cw x8 fun l10=>
 A4 .i64 l10 fun x13 l12=>
 A4 .i64 l12 fun x16 l15=>
 AE l15 fun x17 l18=>
 AE l18 fun x19 l20=>
 A4 .i64 l20 fun x23 l22=>
 AE l22 fun x24 l25=>
 AQ l25 (
 A4 .i64 l9 fun x28 l27=>
 AQ l27 (
 Vp E D W (ACJ E D W N ) b3 o4 x7 x13 x16 x17 x19 x23 x24 x28 J))
def A59:DV:=⟨157,[.ptr,.i,y0,.i],[(.tmp 8)],(AEj AEi (AEh AEg))⟩
theorem AHE (args:List V) (J:H):Br E D W N A59 args J=xg E D W N args J:=by kernel_rfl
def cu:List (Nat × DM):=[(3,.i),(7,.any),(8,.i),(9,.i)]
def H9 (E:EB):St->AH:=fun s=>EA E s [(.tmp 2)] fun l=>some (EW l,s.J)
def ni (c0:XC):Nat->St->AH:=Bn 0 (dX E D W N (.keep [(3,.i)] [] [] c0) (H9 E) nX (H9 E)) nX
def kZ (cc1:XC) (cc2:XC):XC:=(.z (.P 1 (.box 43 (.t 0))<|
.q 2 0<|
.nil)
 (.z (.q 3 1<|
.nil)
 (.seq (.z (.f 6 3 1<|
.l 7 .any 6<|
.u 8 7<|
.q 9 0<|
.nil)
 (.block 0 (.loop cu [] [] cc2)))
 (.keep [(3,.i)] [] [] cc1))))
def ZW (E:EB) (D:Az) (W:AM) (K2:Int->V->Int->Int->H->AH) (a b:Int) (c d:V) (e:Int) (f:V) (J:H):AH:=
 G9 [.int .i64 a,.int .i64 b,c,d,.int .i64 e,f] J fun s1=>
 BL E s1 (H.next J) 3 fun u2=>
 BA u2 fun n3=>
 K2 (AA 1) u2 (AA n3) (AA 0) s1
def RX:XC:=(.z (.m 18 3<|
.m 2 18<|
.nil)
 .ret)
def AAj (E:EB) (D:Az) (W:AM) (a:Int) (J:H):AH:=
 some ((V.int .i64 a),J)
def S3:XC:=(.z (.b 10 .lss .none (.t 9) (.t 8)<|
.nil)
 (.seq (.cond (.tmp 10) .skip
 Oe)
 (.seq (.block 1 (.z (.s 11 6 7 9<|
.O 12 y0 (.load (some 6) (.t 11))<|
.pal 5 [] 43 [y1,y1,V.nils,V.nils,y1,V.nils]<|
.op none y0 [5,12] (.store 6 (.t 5) (.t 12))<|
.nil)
 (.ops (.m 13 3<|
.O 14 y0 (.load (some 6) (.t 5))<|
.k 15 .i 60 [(.t 14)]<|
.b 16 .add .none (.t 13) (.t 15)<|
.m 3 16<|
.nil))))
 (.ops (.b 17 .add .none (.t 9) (.i 1)<|
.m 9 17<|
.nil)))))
def Si (E:EB) (D:Az) (W:AM) (K1:Int->H->AH) (R2:Int->V->Int->Int->H->AH) (a:Int) (b:V) (c d:Int) (J:H):AH:=
 AS (Ep d c) (
 AT 6 b d fun b1 o2=>
 BQ E J b1 o2 6 fun l3=>
 A4 .i64 l3 fun x6 l5=>
 A4 .i64 l5 fun x9 l8=>
 AE l8 fun x10 l11=>
 AE l11 fun x12 l13=>
 A4 .i64 l13 fun x16 l15=>
 AE l15 fun x17 l18=>
 AQ l18 (
 IT (allOne [.int .i64 x6,.int .i64 x9,x10,x12,.int .i64 x16,x17]) (
 AW (D 60 [.agg [.int .i64 x6,.int .i64 x9,x10,x12,.int .i64 x16,x17]] J) fun u19 s20=>
 Ah .i64 u19 fun x21=>
 R2 (CU .i64 a x21) b c (CU .i64 d (AA 1)) s20))) (
 K1 a J)
def rX (a b:Int) (c d:V) (e:Int) (f:V) (J:H):St:=⟨[(0,.agg [.int .i64 a,.int .i64 b,c,d,.int .i64 e,f])],[],[],J⟩
def rW (a:Int) (J:H):St:=⟨[(3,.int .i64 a)],[],[],J⟩
def Zj (a:Int) (b:V) (c d:Int) (J:H):St:=⟨[(3,.int .i64 a),(7,b),(8,.int .i64 c),(9,.int .i64 d)],[],[],J⟩
theorem ABp (cc1:XC) (cc2:XC) (a b:Int) (c d:V) (e:Int) (f:V) (J:H) :
 AU E D W N (kZ cc1 cc2) (rX a b c d e f J) (H9 E) nX (H9 E) =
 ZW E D W (fun g h i j J=>Aw (fun rec s'=>AU E D W N cc2 s' (kX cu [] [] rec) (ni E D W N cc1) (H9 E)) N (Zj g h i j J)) a b c d e f J:=by kernel_rfl
theorem ABo (cc1:XC) (li2:St->AH) (a:Int) (b:V) (c d:Int) (J:H) :
 AU E D W N (S3 ) (Zj a b c d J) (kX cu [] [] li2) (ni E D W N cc1) (H9 E) =
 Si E D W (fun a J=>AU E D W N cc1 (rW a J) (H9 E) nX (H9 E)) (fun a b c d J=>li2 (Zj a b c d J)) a b c d J:=by kernel_rfl
def sD (E:EB) (D:Az) (W:AM) (N:Nat):=AAj E D W
theorem xJ (a:Int) (J:H) :
 AU E D W N RX (rW a J) (H9 E) nX (H9 E)=sD E D W N a J:=by kernel_rfl
def jC (n:Nat):Int->V->Int->Int->H->AH:=
 Nat.rec (fun _ _ _ _ _=>none) (fun _ ih=>Si E D W (sD E D W N ) ih) n
theorem wq (n:Nat):∀(a:Int) (b:V) (c d:Int) (J:H),
 Aw (fun rec s'=>AU E D W N S3 s' (kX cu [] [] rec) (ni E D W N RX) (H9 E)) n (Zj a b c d J)=jC E D W N n a b c d J:=by
 induction n with
 | zero=>intro a b c d J;rfl
 | succ n ihn=>
  intro a b c d J
  rw[BB]
  refine(ABo E D W N RX (Aw (fun rec s'=>AU E D W N S3 s' (kX cu [] [] rec) (ni E D W N RX) (H9 E)) n) a b c d J).trans ?_
  simp only[ihn,xJ]
  kernel_rfl
def sE:=ZW E D W (jC E D W N N)
theorem xK (a b:Int) (c d:V) (e:Int) (f:V) (J:H) :
 AU E D W N (kZ RX S3) (rX a b c d e f J) (H9 E) nX (H9 E)=sE E D W N a b c d e f J:=by
 refine(ABp E D W N RX S3  a b c d e f J).trans ?_
 simp only[wq]
 kernel_rfl
def sW (args:List V) (J:H):AH:=
 AE args fun x1 l2=>
 Cw x1 fun l3=>
 A4 .i64 l3 fun x6 l5=>
 A4 .i64 l5 fun x9 l8=>
 AE l8 fun x10 l11=>
 AE l11 fun x12 l13=>
 A4 .i64 l13 fun x16 l15=>
 AE l15 fun x17 l18=>
 AQ l18 (
 AQ l2 (
 sE E D W N x6 x9 x10 x12 x16 x17 J))
def A60:DV:=⟨19,[y0],[(.tmp 2)],(kZ RX S3)⟩
theorem AHD (args:List V) (J:H):Br E D W N A60 args J=sW E D W N args J:=by
 unfold sW
 simp only[<-xK]
 kernel_rfl
def AEf:XC:=(.z (.P 2 (.box 43 (.t 0))<|
.P 3 (.box 3 (.t 1))<|
.c 4 y3<|
.nil)
 (.z (.f 5 4 2<|
.l 6 .i 5<|
.b 7 .eql .none (.t 6) (.i 0)<|
.m 8 7<|
.gO 8 false (.p 9 [2,8] (.faddr 4 (.t 2))<|
.op (some 10) .i [9,8] (.load none (.t 9))<|
.op (some 11) .i [3,8] (.load none (.t 3))<|
.p 12 [10,11,8] (.bin .eql .none (.t 10) (.t 11))<|
.nil) 13 8 12<|
.m 14 13<|
.gA 14 true (.p 15 [2,14] (.faddr 3 (.t 2))<|
.p 16 [15,14] (.load none (.t 15))<|
.p 17 [3,14] (.mkfn 117 [] [(.t 3)])<|
.op (some 18) .bool [16,17,14] (.call 116 [(.t 16),(.t 17)])<|
.p 19 [18,14] (.un .not (.t 18))<|
.nil) 20 14 19<|
.m 4 20<|
.nil)
 .ret))
def fh (E:EB) (D:Az) (W:AM) (a b:Int) (c d:V) (e:Int) (f:V) (g:Int) (J:H):AH:=
 G9 [.int .i64 a,.int .i64 b,c,d,.int .i64 e,f] J fun s1=>
 G9 (V.cells (V.int .i64 g)) s1 fun s2=>
 BL E s2 (H.next J) 4 fun u3=>
 Ah .i64 u3 fun x4=>
 BR (fun c5 s6=>
 BR (fun c8 s9=>
 some ((V.bool c8),s9)) fun k10=>
 AS c5 (
 BL E s6 (H.next J) 3 fun u11=>
 AW (D 116 [u11,.fn 117 [] [.ptr (H.next s1) 0]] s6) fun u12 s13=>
 An u12 fun x14=>
 k10 (not x14) s13) (
 k10 false s6)) fun k7=>
 AS (Cu x4 (AA 0)) (
 k7 true s2) (
 BL E s2 (H.next J) 4 fun u15=>
 Ah .i64 u15 fun x16=>
 BL E s2 (H.next s1) 0 fun u17=>
 Ah .i64 u17 fun x18=>
 k7 (Cu x16 x18) s2)
def xe (N:Nat) (args:List V) (J:H):AH:=
 AE args fun x1 l2=>
 Cw x1 fun l3=>
 A4 .i64 l3 fun x6 l5=>
 A4 .i64 l5 fun x9 l8=>
 AE l8 fun x10 l11=>
 AE l11 fun x12 l13=>
 A4 .i64 l13 fun x16 l15=>
 AE l15 fun x17 l18=>
 AQ l18 (
 A4 .i64 l2 fun x21 l20=>
 AQ l20 (
 fh E D W x6 x9 x10 x12 x16 x17 x21 J))
def A61:DV:=⟨21,[y0,.i],[(.tmp 4)],AEf⟩
theorem AHC (args:List V) (J:H):Br E D W N A61 args J=xe E D W N args J:=by kernel_rfl
def sV:List BY:=[⟨(some 40),.load none (.tmp 3),none⟩,⟨(some 41),.nilck (.tmp 40),none⟩,⟨(some 42),.faddr 0 (.tmp 41),none⟩,⟨(some 43),.load none (.tmp 42),none⟩,⟨(some 44),.faddr 2 (.tmp 5),none⟩,⟨(some 45),.load none (.tmp 44),none⟩,⟨(some 46),.buildSlice 23 1 [V.nils] [(0,1,(.tmp 45))],none⟩,⟨(some 47),.call 121 [(.tmp 43),(.tmp 46)],none⟩]
def sU:List DP:=[⟨0,[3]⟩,⟨1,[40]⟩,⟨3,[41]⟩,⟨7,[42]⟩,⟨0,[5]⟩,⟨16,[44]⟩,⟨48,[45]⟩,⟨127,[43,46]⟩]
def AEe (cc1:XC):XC:=(.z (.P 3 (.box 136 (.t 0))<|
.P 5 (.box 43 (.t 2))<|
.nil)
 (.z (.l 7 .any 3<|
.n 8 7<|
.f 9 1 8<|
.f 10 3 9<|
.l 11 .any 10<|
.m 12 1<|
.s 13 13 11 12<|
.O 14 y2 (.load (some 13) (.t 13))<|
.p 6 [] y7<|
.op none y2 [6,14] (.store 13 (.t 6) (.t 14))<|
.nil)
 (.z (.f 15 0 6<|
.l 16 .i 15<|
.nil)
 (.block 0 (.z (.b 18 .eql .none (.t 16) (.i 1)<|
.m 17 18<|
.nil)
 (.cond (.tmp 17) (.ops (.l 19 .any 3<|
.f 20 1 5<|
.l 21 .i 20<|
.b 22 .eql .none (.t 21) (.i 1)<|
.k 23 y6 118 [(.t 19),(.t 22)]<|
.nil))
 (.z (.b 25 .eql .none (.t 16) (.i 2)<|
.m 24 25<|
.nil)
 (.cond (.tmp 24) (.ops (.l 26 .any 3<|
.f 27 2 6<|
.O 28 y8 (.load (some 6) (.t 27))<|
.f 29 1 5<|
.l 30 .i 29<|
.k 31 y6 119 [(.t 26),(.t 28),(.t 30)]<|
.nil))
 (.z (.b 33 .eql .none (.t 16) (.i 3)<|
.m 32 33<|
.nil)
 (.cond (.tmp 32) (.ops (.l 34 .any 3<|
.m 35 1<|
.O 36 y0 (.load (some 6) (.t 5))<|
.k 37 y6 120 [(.t 34),(.t 35),(.t 36)]<|
.nil))
 (.z (.b 39 .eql .none (.t 16) (.i 6)<|
.m 38 39<|
.nil)
 (.cond (.tmp 38) (.keep [(3,.ptr),(5,.ptr)] [] [] (.gdraw sV sU []))
 (.z (.b 49 .eql .none (.t 16) (.i 5)<|
.m 48 49<|
.nil)
 (.cond (.tmp 48) (.ops (.l 50 .any 3<|
.f 51 2 6<|
.O 52 y8 (.load (some 6) (.t 51))<|
.f 53 2 5<|
.l 54 .any 53<|
.u 55 54<|
.p 56 [3,5] (.mkfn 123 [] [(.t 3),(.t 5)])<|
.p 57 [3,5] (.mkfn 125 [] [(.t 3),(.t 5)])<|
.k 58 y6 122 [(.t 50),(.t 52),(.t 55),(.t 56),(.t 57)]<|
.nil))
 (.z (.b 60 .eql .none (.t 16) (.i 10)<|
.m 59 60<|
.nil)
 (.cond (.tmp 59) (.ops (.l 61 .any 3<|
.f 62 2 6<|
.O 63 y8 (.load (some 6) (.t 62))<|
.f 64 3 5<|
.l 65 .any 64<|
.u 66 65<|
.p 67 [5,3,6] (.mkfn 126 [] [(.t 5),(.t 3),(.t 6)])<|
.p 68 [3,5,6] (.mkfn 127 [] [(.t 3),(.t 5),(.t 6)])<|
.k 69 y6 122 [(.t 61),(.t 63),(.t 66),(.t 67),(.t 68)]<|
.nil))
 (.z (.b 71 .eql .none (.t 16) (.i 9)<|
.m 70 71<|
.nil)
 (.cond (.tmp 70) (.ops (.l 72 .any 3<|
.m 73 1<|
.O 74 y0 (.load (some 6) (.t 5))<|
.k 75 y6 130 [(.t 72),(.t 73),(.t 74)]<|
.nil))
 (.seq (.z (.b 77 .eql .none (.t 16) (.i 7)<|
.m 76 77<|
.nil)
 (.cond (.tmp 76) .skip
 (.ops (.b 78 .eql .none (.t 16) (.i 8)<|
.m 76 78<|
.nil))))
 (.keep [(1,.i),(3,.ptr),(5,.ptr),(76,.bool)] [] [] cc1))))))))))))))))))))
def Vo (K1:Int->Nat->Nat->Nat->Nat->Bool->H->AH) (a:V) (b c d:Int) (e f:V) (g:Int) (h:V) (J:H):AH:=
 G9 (V.cells a) J fun s1=>
 G9 [.int .i64 c,.int .i64 d,e,f,.int .i64 g,h] s1 fun s2=>
 BL E s2 (H.next J) 0 fun u3=>
 Ar u3 fun b4 o5=>
 BL E s2 b4 (Ac (Ac o5 1) 3) fun u6=>
 AT 13 u6 b fun b7 o8=>
 BQ E s2 b7 o8 13 fun l9=>
 A4 .i64 l9 fun x12 l11=>
 AE l11 fun x13 l14=>
 De l14 fun x17 l16=>
 De l16 fun x20 l19=>
 De l19 fun x23 l22=>
 De l22 fun x26 l25=>
 A4 .i64 l25 fun x29 l28=>
 A4 .i64 l28 fun x32 l31=>
 AE l31 fun x33 l34=>
 AE l34 fun x35 l36=>
 A4 .i64 l36 fun x39 l38=>
 De l38 fun x42 l41=>
 A4 .i64 l41 fun x45 l44=>
 AQ l44 (
 let s46:=DR s2 (.cells [.int .i64 (AA 0),V.nils,.bool false,.bool false,.bool false,.bool false,.int .i64 (AA 0),.int .i64 (AA 0),V.nils,V.nils,.int .i64 (AA 0),.bool false,.int .i64 (AA 0)]);
 Dt 13 (H.next s2) 0 (V.agg [.int .i64 x12,x13,.bool x17,.bool x20,.bool x23,.bool x26,.int .i64 x29,.int .i64 x32,x33,x35,.int .i64 x39,.bool x42,.int .i64 x45]) s46 fun s47=>
 BL E s47 (H.next s2) 0 fun u48=>
 Ah .i64 u48 fun x49=>
 AS (Cu x49 (AA 1)) (
 BL E s47 (H.next J) 0 fun u50=>
 BL E s47 (H.next s1) 1 fun u51=>
 Ah .i64 u51 fun x52=>
 AW (D 118 [u50,.bool (Cu x52 (AA 1))] s47) fun u53 s54=>
 Bc u53 fun l55=>
 AQ l55 (
 some ((V.tup []),s54))) (
 AS (Cu x49 (AA 2)) (
 BL E s47 (H.next J) 0 fun u56=>
 BQ E s47 (H.next s2) 2 6 fun l57=>
 De l57 fun x60 l59=>
 De l59 fun x63 l62=>
 De l62 fun x66 l65=>
 De l65 fun x69 l68=>
 A4 .i64 l68 fun x72 l71=>
 A4 .i64 l71 fun x75 l74=>
 AQ l74 (
 BL E s47 (H.next s1) 1 fun u76=>
 Ah .i64 u76 fun x77=>
 AW (D 119 [u56,.agg [.bool x60,.bool x63,.bool x66,.bool x69,.int .i64 x72,.int .i64 x75],.int .i64 x77] s47) fun u78 s79=>
 Bc u78 fun l80=>
 AQ l80 (
 some ((V.tup []),s79)))) (
 AS (Cu x49 (AA 3)) (
 BL E s47 (H.next J) 0 fun u81=>
 BQ E s47 (H.next s1) 0 6 fun l82=>
 A4 .i64 l82 fun x85 l84=>
 A4 .i64 l84 fun x88 l87=>
 AE l87 fun x89 l90=>
 AE l90 fun x91 l92=>
 A4 .i64 l92 fun x95 l94=>
 AE l94 fun x96 l97=>
 AQ l97 (
 AW (D 120 [u81,.int .i64 b,.agg [.int .i64 x85,.int .i64 x88,x89,x91,.int .i64 x95,x96]] s47) fun u98 s99=>
 Bc u98 fun l100=>
 AQ l100 (
 some ((V.tup []),s99)))) (
 AS (Cu x49 (AA 6)) (
 DA (W sV sU [(3,.ptr (H.next J) 0),(5,.ptr (H.next s1) 0)] s47) fun e101 s102=>
 some ((V.tup []),s102)) (
 AS (Cu x49 (AA 5)) (
 BL E s47 (H.next J) 0 fun u103=>
 BQ E s47 (H.next s2) 2 6 fun l104=>
 De l104 fun x107 l106=>
 De l106 fun x110 l109=>
 De l109 fun x113 l112=>
 De l112 fun x116 l115=>
 A4 .i64 l115 fun x119 l118=>
 A4 .i64 l118 fun x122 l121=>
 AQ l121 (
 BL E s47 (H.next s1) 2 fun u123=>
 BA u123 fun n124=>
 AW (D 122 [u103,.agg [.bool x107,.bool x110,.bool x113,.bool x116,.int .i64 x119,.int .i64 x122],.int .i64 (AA n124),.fn 123 [] [.ptr (H.next J) 0,.ptr (H.next s1) 0],.fn 125 [] [.ptr (H.next J) 0,.ptr (H.next s1) 0]] s47) fun u125 s126=>
 Bc u125 fun l127=>
 AQ l127 (
 some ((V.tup []),s126)))) (
 AS (Cu x49 (AA 10)) (
 BL E s47 (H.next J) 0 fun u128=>
 BQ E s47 (H.next s2) 2 6 fun l129=>
 De l129 fun x132 l131=>
 De l131 fun x135 l134=>
 De l134 fun x138 l137=>
 De l137 fun x141 l140=>
 A4 .i64 l140 fun x144 l143=>
 A4 .i64 l143 fun x147 l146=>
 AQ l146 (
 BL E s47 (H.next s1) 3 fun u148=>
 BA u148 fun n149=>
 AW (D 122 [u128,.agg [.bool x132,.bool x135,.bool x138,.bool x141,.int .i64 x144,.int .i64 x147],.int .i64 (AA n149),.fn 126 [] [.ptr (H.next s1) 0,.ptr (H.next J) 0,.ptr (H.next s2) 0],.fn 127 [] [.ptr (H.next J) 0,.ptr (H.next s1) 0,.ptr (H.next s2) 0]] s47) fun u150 s151=>
 Bc u150 fun l152=>
 AQ l152 (
 some ((V.tup []),s151)))) (
 AS (Cu x49 (AA 9)) (
 BL E s47 (H.next J) 0 fun u153=>
 BQ E s47 (H.next s1) 0 6 fun l154=>
 A4 .i64 l154 fun x157 l156=>
 A4 .i64 l156 fun x160 l159=>
 AE l159 fun x161 l162=>
 AE l162 fun x163 l164=>
 A4 .i64 l164 fun x167 l166=>
 AE l166 fun x168 l169=>
 AQ l169 (
 AW (D 130 [u153,.int .i64 b,.agg [.int .i64 x157,.int .i64 x160,x161,x163,.int .i64 x167,x168]] s47) fun u170 s171=>
 Bc u170 fun l172=>
 AQ l172 (
 some ((V.tup []),s171)))) (
 AS (Cu x49 (AA 7)) (
 K1 b (H.next J) 0 (H.next s1) 0 (Cu x49 (AA 7)) s47) (
 K1 b (H.next J) 0 (H.next s1) 0 (Cu x49 (AA 8)) s47)))))))))
def AEd:XC:=(.cond (.tmp 76) (.ops (.l 79 .any 3<|
.m 80 1<|
.O 81 y0 (.load (some 6) (.t 5))<|
.k 82 y6 131 [(.t 79),(.t 80),(.t 81)]<|
.nil))
 .skip)
def fg (E:EB) (D:Az) (W:AM) (a:Int) (b c d e:Nat) (f:Bool) (J:H):AH:=
 AS f (
 BL E J b c fun u1=>
 BQ E J d e 6 fun l2=>
 A4 .i64 l2 fun x5 l4=>
 A4 .i64 l4 fun x8 l7=>
 AE l7 fun x9 l10=>
 AE l10 fun x11 l12=>
 A4 .i64 l12 fun x15 l14=>
 AE l14 fun x16 l17=>
 AQ l17 (
 AW (D 131 [u1,.int .i64 a,.agg [.int .i64 x5,.int .i64 x8,x9,x11,.int .i64 x15,x16]] J) fun u18 s19=>
 Bc u18 fun l20=>
 AQ l20 (
 some ((V.tup []),s19)))) (
 some ((V.tup []),J))
def ACH (E:EB) (D:Az) (W:AM) (N:Nat):=fg E D W
def xd (args:List V) (J:H):AH:=
 AE args fun x1 l2=>
 A4 .i64 l2 fun x5 l4=>
 AE l4 fun x6 l7=>
 Cw x6 fun l8=>
 A4 .i64 l8 fun x11 l10=>
 A4 .i64 l10 fun x14 l13=>
 AE l13 fun x15 l16=>
 AE l16 fun x17 l18=>
 A4 .i64 l18 fun x21 l20=>
 AE l20 fun x22 l23=>
 AQ l23 (
 AQ l7 (
 Vo E D W (ACH E D W N ) x1 x5 x11 x14 x15 x17 x21 x22 J))
def A62:DV:=⟨83,[.any,.i,y0],[],(AEe AEd)⟩
theorem AHB (args:List V) (J:H):Br E D W N A62 args J=xd E D W N args J:=by kernel_rfl
def AEc:XC:=(.z (.c 2 V.nils<|
.nil)
 (.seq (.z (.m 3 0<|
.b 4 .eql .ptr (.t 3) Z5<|
.nil)
 (.cond (.tmp 4) (.z (.c 2 V.nils<|
.nil)
 .ret)
 .skip))
 (.seq (.z (.m 5 0<|
.k 6 .i 132 [(.t 5)]<|
.b 7 .eql .none (.t 6) (.i 0)<|
.nil)
 (.cond (.tmp 7) (.z (.p 8 [] y5<|
.m 2 8<|
.nil)
 .ret)
 .skip))
 (.z (.m 9 0<|
.n 10 9<|
.f 11 0 10<|
.k 12 .one 133 [(.t 11)]<|
.m 2 12<|
.nil)
 .ret))))
def fe (E:EB) (D:Az) (W:AM) (a:V) (J:H):AH:=
 SV .ptr a V.nilp fun c1=>
 AS c1 (
 some (V.nils,J)) (
 AW (D 132 [a] J) fun u2 s3=>
 Ah .i64 u2 fun x4=>
 AS (Cu x4 (AA 0)) (
 let s5:=DR s3 (.cells [.int .u8 (AA 0)]);
 some ((V.sl (H.next s3) 0 1 (.ex 1)),s5)) (
 Ar a fun b6 o7=>
 AW (D 133 [.ptr b6 o7] s3) fun u8 s9=>
 Cm u8 (
 some (u8,s9))))
def F63 (N:Nat) (args:List V) (J:H):AH:=
 AE args fun x1 l2=>
 AQ l2 (
 fe E D W x1 J)
def A63:DV:=⟨13,[.any],[(.tmp 2)],AEc⟩
theorem AHA (args:List V) (J:H):Br E D W N A63 args J=F63 E D W N args J:=by kernel_rfl
def cq:List (Nat × DM):=[(0,.ptr),(1,(.int .u32)),(6,.i)]
def JW (E:EB):St->AH:=fun s=>EA E s [] fun l=>some (EW l,s.J)
def kY (cc1:XC):XC:=(.z (.m 7 2<|
.p 8 [7] (.min (.t 7) [(.i 32)])<|
.p 9 [8] (.max (.i 0) [(.t 8)])<|
.m 2 9<|
.nil)
 (.z (.m 10 2<|
.b 11 .sub .none (.t 10) (.i 1)<|
.m 6 11<|
.nil)
 (.block 0 (.loop cq [] [] cc1))))
def ZV (E:EB) (D:Az) (W:AM) (K1:Nat->Nat->Int->Int->H->AH) (a b:Nat) (c d:Int) (J:H):AH:=
 K1 a b c (E6 .i64 (GW (AA 0) (HL d (AA 32))) (AA 1)) J
def S1:XC:=(.seq (.z (.m 12 6<|
.b 13 .geq .none (.t 12) (.i 0)<|
.nil)
 (.cond (.tmp 13) .skip
 Oe))
 (.seq (.block 1 (.ops (.m 16 0<|
.m 17 0<|
.n 18 17<|
.f 19 0 18<|
.l 20 .any 19<|
.m 21 1<|
.m 22 6<|
.P 23 (.conv (.toInt .u64) (.t 22))<|
.b 24 .shr .none (.t 21) (.t 23)<|
.b 25 .and .none (.t 24) (.con (V.int .u32 (AA 1)))<|
.P 26 (.conv (.toInt .u8) (.t 25))<|
.p 27 [26] (.buildSlice 5 1 [(V.int .u8 Rv)] [(0,1,(.t 26))])<|
.O 28 .one (.append 5 1 1 (.t 20) (.t 27))<|
.n 29 16<|
.f 30 0 29<|
.w 1 30 28<|
.nil)))
 (.ops (.m 14 6<|
.b 15 .sub .none (.t 14) (.i 1)<|
.m 6 15<|
.nil))))
def ZU (E:EB) (D:Az) (W:AM) (R1:Nat->Nat->Int->Int->H->AH) (a b:Nat) (c d:Int) (J:H):AH:=
 AS (Hk (AA 0) d) (
 BL E J a b fun u1=>
 Pz (BP .u64 d) fun n2=>
 let s3:=DR J (.cells [.int .u8 (BP .u8 (Je .u32 (LA .u32 c n2) (AA 1)))]);
 Ee E 1 1 u1 (V.sl (H.next J) 0 1 (.ex 1)) s3 fun u4 s5=>
 Cm u4 (
 Dt 1 a b u4 s5 fun s6=>
 R1 a b c (E6 .i64 d (AA 1)) s6)) (
 some ((V.tup []),J))
def rV (a b:Nat) (c d:Int) (J:H):St:=⟨[(0,.ptr a b),(1,.int .u32 c),(2,.int .i64 d)],[],[],J⟩
def Zi (a b:Nat) (c d:Int) (J:H):St:=⟨[(0,.ptr a b),(1,.int .u32 c),(6,.int .i64 d)],[],[],J⟩
theorem ABn (cc1:XC) (a b:Nat) (c d:Int) (J:H) :
 AU E D W N (kY cc1) (rV a b c d J) (JW E) nX (JW E) =
 ZV E D W (fun a b c e J=>Aw (fun rec s'=>AU E D W N cc1 s' (kX cq [] [] rec) (Bn 0 (JW E) nX) (JW E)) N (Zi a b c e J)) a b c d J:=by kernel_rfl
theorem ABm (li1:St->AH) (a b:Nat) (c d:Int) (J:H) :
 AU E D W N (S1 ) (Zi a b c d J) (kX cq [] [] li1) (Bn 0 (JW E) nX) (JW E) =
 ZU E D W (fun a b c d J=>li1 (Zi a b c d J)) a b c d J:=by kernel_rfl
def Zp (E:EB) (D:Az) (W:AM) (N:Nat) (n:Nat):Nat->Nat->Int->Int->H->AH:=
 Nat.rec (fun _ _ _ _ _=>none) (fun _ ih=>ZU E D W ih) n
theorem wm (n:Nat):∀(a b:Nat) (c d:Int) (J:H),
 Aw (fun rec s'=>AU E D W N S1 s' (kX cq [] [] rec) (Bn 0 (JW E) nX) (JW E)) n (Zi a b c d J)=Zp E D W N n a b c d J:=by
 induction n with
 | zero=>intro a b c d J;rfl
 | succ n ihn=>
  intro a b c d J
  rw[BB]
  refine(ABm E D W N  (Aw (fun rec s'=>AU E D W N S1 s' (kX cq [] [] rec) (Bn 0 (JW E) nX) (JW E)) n) a b c d J).trans ?_
  simp only[ihn]
  kernel_rfl
def sC:=ZV E D W (Zp E D W N N)
theorem xI (a b:Nat) (c d:Int) (J:H) :
 AU E D W N (kY S1) (rV a b c d J) (JW E) nX (JW E)=sC E D W N a b c d J:=by
 refine(ABn E D W N S1  a b c d J).trans ?_
 simp only[wm]
 kernel_rfl
def yv (args:List V) (J:H):AH:=
 AE args fun x1 l2=>
 Ar x1 fun b3 o4=>
 A4 .u32 l2 fun x7 l6=>
 A4 .i64 l6 fun x10 l9=>
 AQ l9 (
 sC E D W N b3 o4 x7 x10 J)
def A78:DV:=⟨31,[.ptr,(.int .u32),.i],[],(kY S1)⟩
theorem AG9 (args:List V) (J:H):Br E D W N A78 args J=yv E D W N args J:=by
 unfold yv
 simp only[<-xI]
 kernel_rfl
def AEb:XC:=(.z (.m 4 0<|
.k 5 .i 56 [(.t 4)]<|
.b 6 .eql .none (.t 5) (.i 0)<|
.nil)
 (.cond (.tmp 6) (.ops (.m 7 0<|
.m 8 1<|
.n 9 7<|
.f 10 1 9<|
.w 1 10 8<|
.nil))
 .skip))
def fZ (E:EB) (D:Az) (W:AM) (a b:Nat) (c:Int) (J:H):AH:=
 AW (D 56 [.ptr a b] J) fun u1 s2=>
 Ah .i64 u1 fun x3=>
 AS (Cu x3 (AA 0)) (
 Dt 1 a (Ac b 1) (V.int .i64 c) s2 fun s4=>
 some ((V.tup []),s4)) (
 some ((V.tup []),s2))
def F81 (N:Nat) (args:List V) (J:H):AH:=
 AE args fun x1 l2=>
 Ar x1 fun b3 o4=>
 A4 .i64 l2 fun x7 l6=>
 AQ l6 (
 fZ E D W b3 o4 x7 J)
def A81:DV:=⟨11,[.ptr,.i],[],AEb⟩
theorem AG8 (args:List V) (J:H):Br E D W N A81 args J=F81 E D W N args J:=by kernel_rfl
def AEa:XC:=(.z (.q 2 0<|
.nil)
 (.z (.m 3 0<|
.p 4 [3] (.min (.t 3) [(.i 64)])<|
.p 5 [4] (.max (.i 0) [(.t 4)])<|
.m 2 5<|
.nil)
 .ret))
def fY (E:EB) (D:Az) (W:AM) (a:Int) (J:H):AH:=
 some ((V.int .i64 (GW (AA 0) (HL a (AA 64)))),J)
def yu (N:Nat) (args:List V) (J:H):AH:=
 A4 .i64 args fun x3 l2=>
 AQ l2 (
 fY E D W x3 J)
def A82:DV:=⟨6,[.i],[(.tmp 2)],AEa⟩
theorem AG7 (args:List V) (J:H):Br E D W N A82 args J=yu E D W N args J:=by kernel_rfl
def AEZ:XC:=(.z (.c 4 (V.int .u32 Rv)<|
.nil)
 (.z (.m 5 1<|
.k 6 .i 154 [(.t 5)]<|
.m 1 6<|
.nil)
 (.seq (.z (.m 7 0<|
.m 8 1<|
.k 9 .bool 155 [(.t 7),(.t 8)]<|
.P 10 (.un .not (.t 9))<|
.nil)
 (.cond (.tmp 10) (.z (.c 4 (V.int .u32 Rv)<|
.nil)
 .ret)
 .skip))
 (.z (.m 11 0<|
.n 12 11<|
.f 13 0 12<|
.m 14 1<|
.k 15 (.int .u32) 109 [(.t 13),(.t 14)]<|
.m 4 15<|
.nil)
 .ret))))
def fX (E:EB) (D:Az) (W:AM) (a b:Nat) (c:Int) (J:H):AH:=
 AW (D 154 [.int .i64 c] J) fun u1 s2=>
 Ah .i64 u1 fun x3=>
 AW (D 155 [.ptr a b,.int .i64 x3] s2) fun u4 s5=>
 An u4 fun x6=>
 AS (not x6) (
 some ((V.int .u32 (AA 0)),s5)) (
 AW (D 109 [.ptr a b,.int .i64 x3] s5) fun u7 s8=>
 Ah .u32 u7 fun x9=>
 some ((V.int .u32 x9),s8))
def F83 (N:Nat) (args:List V) (J:H):AH:=
 AE args fun x1 l2=>
 Ar x1 fun b3 o4=>
 A4 .i64 l2 fun x7 l6=>
 AQ l6 (
 fX E D W b3 o4 x7 J)
def A83:DV:=⟨16,[.ptr,.i],[(.tmp 4)],AEZ⟩
theorem AG6 (args:List V) (J:H):Br E D W N A83 args J=F83 E D W N args J:=by kernel_rfl
def AEY:XC:=(.z (.c 2 y3<|
.nil)
 (.z (.m 3 0<|
.n 4 3<|
.f 5 0 4<|
.l 6 .any 5<|
.k 7 (.int .u64) 45 [(.t 6),(.i 1)]<|
.b 8 .eql .none (.t 7) lI<|
.m 2 8<|
.nil)
 .ret))
def fW (E:EB) (D:Az) (W:AM) (a b:Nat) (J:H):AH:=
 BL E J a b fun u1=>
 AW (D 45 [u1,.int .i64 (AA 1)] J) fun u2 s3=>
 Ah .u64 u2 fun x4=>
 some ((V.bool (Cu x4 (AA 1))),s3)
def F84 (N:Nat) (args:List V) (J:H):AH:=
 AE args fun x1 l2=>
 Ar x1 fun b3 o4=>
 AQ l2 (
 fW E D W b3 o4 J)
def A84:DV:=⟨9,[.ptr],[(.tmp 2)],AEY⟩
theorem AG5 (args:List V) (J:H):Br E D W N A84 args J=F84 E D W N args J:=by kernel_rfl
def TQ:List (Nat × DM):=[(0,.any),(1,.i),(2,.any),(7,.i),(8,.bool)]
def HB (E:EB):St->AH:=fun s=>EA E s [(.tmp 6)] fun l=>some (EW l,s.J)
def kW (cc1:XC):XC:=(.z (.q 6 0<|
.nil)
 (.z (.q 7 0<|
.nil)
 (.z (.c 8 y3<|
.nil)
 (.block 0 (.loop TQ [] [] cc1)))))
def rH (E:EB) (D:Az) (W:AM) (K1:V->Int->V->Int->Bool->H->AH) (a:V) (b:Int) (c:V) (J:H):AH:=
 K1 a b c (AA 0) false J
def S0 (cc2:XC):XC:=(.block 1 (.z (.m 12 0<|
.m 13 8<|
.k 14 (.tup [.i,.bool]) 171 [(.t 12),(.t 13)]<|
.m 11 14<|
.P 15 (.extract 0 (.t 11))<|
.P 16 (.extract 1 (.t 11))<|
.m 9 15<|
.m 10 16<|
.nil)
 (.seq (.z (.m 17 9<|
.m 18 1<|
.p 19 [18] (.max (.t 18) [(.i 0)])<|
.m 20 7<|
.b 21 .sub .none (.t 19) (.t 20)<|
.b 22 .gtr .none (.t 17) (.t 21)<|
.nil)
 (.cond (.tmp 22) (.ops (.m 23 0<|
.k 24 y6 81 [(.t 23),(.i 5)]<|
.nil))
 .skip))
 (.keep [(0,.any),(1,.i),(2,.any),(7,.i),(9,.i),(10,.bool)] [] [] cc2))))
def ZT (E:EB) (D:Az) (W:AM) (K2:V->Int->V->Int->Int->Bool->H->AH) (a:V) (b:Int) (c:V) (d:Int) (e:Bool) (J:H):AH:=
 AW (D 171 [a,.bool e] J) fun u1 s2=>
 Bc u1 fun l3=>
 A4 .i64 l3 fun x6 l5=>
 De l5 fun x9 l8=>
 AQ l8 (
 AS (Ep (E6 .i64 (GW b (AA 0)) d) x6) (
 AW (D 81 [a,.int .i64 (AA 5)] s2) fun u10 s11=>
 Bc u10 fun l12=>
 AQ l12 (
 K2 a b c d x6 x9 s11)) (
 K2 a b c d x6 x9 s2))
def RW:XC:=(.seq (.z (.m 25 0<|
.k 26 .i 56 [(.t 25)]<|
.b 27 .neq .none (.t 26) (.i 0)<|
.m 28 27<|
.gO 28 false (.p 29 [2,28] (.mov (.t 2))<|
.p 30 [9,28] (.mov (.t 9))<|
.op (some 31) .bool [29,30,28] (.callv (.t 29) [(.t 30)])<|
.p 32 [31,28] (.un .not (.t 31))<|
.nil) 33 28 32<|
.m 34 33<|
.gO 34 false (.p 35 [0,34] Z6<|
.op (some 36) .i [35,34] (.call 56 [(.t 35)])<|
.p 37 [36,34] (.bin .neq .none (.t 36) (.i 0))<|
.nil) 38 34 37<|
.nil)
 (.cond (.tmp 38) (.z (.q 6 0<|
.nil)
 .ret)
 .skip))
 (.z (.m 39 7<|
.m 40 9<|
.b 41 .add .none (.t 39) (.t 40)<|
.m 7 41<|
.nil)
 (.seq (.z (.m 42 10<|
.P 43 (.un .not (.t 42))<|
.nil)
 (.cond (.tmp 43) (.z (.m 44 7<|
.m 6 44<|
.nil)
 .ret)
 .skip))
 (.ops (.m 45 9<|
.b 46 .lss .none (.t 45) (.i 65536)<|
.m 8 46<|
.nil)))))
def fU (E:EB) (D:Az) (W:AM) (R1:V->Int->V->Int->Bool->H->AH) (a:V) (b:Int) (c:V) (d e:Int) (f:Bool) (J:H):AH:=
 AW (D 56 [a] J) fun u1 s2=>
 Ah .i64 u1 fun x3=>
 BR (fun c4 s5=>
 BR (fun c7 s8=>
 AS c7 (
 some ((V.int .i64 (AA 0)),s8)) (
 AS (not f) (
 some ((V.int .i64 (CU .i64 d e)),s8)) (
 R1 a b c (CU .i64 d e) (Ep e (AA 65536)) s8))) fun k9=>
 AS c4 (
 k9 true s5) (
 AW (D 56 [a] s5) fun u10 s11=>
 Ah .i64 u10 fun x12=>
 k9 (not (Cu x12 (AA 0))) s11)) fun k6=>
 AS (not (Cu x3 (AA 0))) (
 k6 true s2) (
 Ed D c [.int .i64 e] s2 fun u13 s14=>
 An u13 fun x15=>
 k6 (not x15) s14)
def rU (a:V) (b:Int) (c:V) (J:H):St:=⟨[(0,a),(1,.int .i64 b),(2,c)],[],[],J⟩
def Zh (a:V) (b:Int) (c:V) (d:Int) (e:Bool) (J:H):St:=⟨[(0,a),(1,.int .i64 b),(2,c),(7,.int .i64 d),(8,.bool e)],[],[],J⟩
def rT (a:V) (b:Int) (c:V) (d e:Int) (f:Bool) (J:H):St:=⟨[(0,a),(1,.int .i64 b),(2,c),(7,.int .i64 d),(9,.int .i64 e),(10,.bool f)],[],[],J⟩
theorem ABl (cc1:XC) (a:V) (b:Int) (c:V) (J:H) :
 AU E D W N (kW cc1) (rU a b c J) (HB E) nX (HB E) =
 rH E D W (fun a b c d e J=>Aw (fun rec s'=>AU E D W N cc1 s' (kX TQ [] [] rec) (Bn 0 (HB E) nX) (HB E)) N (Zh a b c d e J)) a b c J:=by kernel_rfl
theorem ABk (cc2:XC) (li1:St->AH) (a:V) (b:Int) (c:V) (d:Int) (e:Bool) (J:H) :
 AU E D W N (S0 cc2) (Zh a b c d e J) (kX TQ [] [] li1) (Bn 0 (HB E) nX) (HB E) =
 ZT E D W (fun a b c d f g J=>AU E D W N cc2 (rT a b c d f g J) (kX TQ [] [] li1) (Bn 1 (kX TQ [] [] li1) (Bn 0 (HB E) nX)) (HB E)) a b c d e J:=by kernel_rfl
def rz (E:EB) (D:Az) (W:AM) (N:Nat) (R1:V->Int->V->Int->Bool->H->AH):=fU E D W R1
theorem xG (li1:St->AH) (a:V) (b:Int) (c:V) (d e:Int) (f:Bool) (J:H) :
 AU E D W N RW (rT a b c d e f J) (kX TQ [] [] li1) (Bn 1 (kX TQ [] [] li1) (Bn 0 (HB E) nX)) (HB E)=rz E D W N (fun a b c d g J=>li1 (Zh a b c d g J)) a b c d e f J:=by kernel_rfl
def V9 (n:Nat):V->Int->V->Int->Bool->H->AH:=
 Nat.rec (fun _ _ _ _ _ _=>none) (fun _ ih=>ZT E D W (rz E D W N ih)) n
theorem wj (n:Nat):∀(a:V) (b:Int) (c:V) (d:Int) (e:Bool) (J:H),
 Aw (fun rec s'=>AU E D W N (S0 RW) s' (kX TQ [] [] rec) (Bn 0 (HB E) nX) (HB E)) n (Zh a b c d e J)=V9 E D W N n a b c d e J:=by
 induction n with
 | zero=>intro a b c d e J;rfl
 | succ n ihn=>
  intro a b c d e J
  rw[BB]
  refine(ABk E D W N RW (Aw (fun rec s'=>AU E D W N (S0 RW) s' (kX TQ [] [] rec) (Bn 0 (HB E) nX) (HB E)) n) a b c d e J).trans ?_
  simp only[ihn,xG]
  kernel_rfl
def sB:=rH E D W (V9 E D W N N)
theorem xH (a:V) (b:Int) (c:V) (J:H) :
 AU E D W N (kW (S0 RW)) (rU a b c J) (HB E) nX (HB E)=sB E D W N a b c J:=by
 refine(ABl E D W N (S0 RW)  a b c J).trans ?_
 simp only[wj]
 kernel_rfl
def yt (args:List V) (J:H):AH:=
 AE args fun x1 l2=>
 A4 .i64 l2 fun x5 l4=>
 AE l4 fun x6 l7=>
 AQ l7 (
 sB E D W N x1 x5 x6 J)
def A92:DV:=⟨47,[.any,.i,.any],[(.tmp 6)],(kW (S0 RW))⟩
theorem AG4 (args:List V) (J:H):Br E D W N A92 args J=yt E D W N args J:=by
 unfold yt
 simp only[<-xH]
 kernel_rfl
end
end Go.Proofs.YtcpdffccolffaaaGreatDoor
