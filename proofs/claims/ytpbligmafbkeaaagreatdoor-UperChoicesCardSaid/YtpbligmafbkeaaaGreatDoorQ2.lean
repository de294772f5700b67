/- What the last text leans on, part 3 of 8: merged out of smaller texts. No condition. -/
import GoSem.ClaimChange
import Derived.Below
import Derived.KernelRfl
import Derived.Test.YtpbligmafbkeaaaGreatDoorQ1
open Int renaming ofNat -> AA,negSucc -> A1,tmod -> EW
open Nat renaming le_refl -> AL,add -> AM,beq_eq -> AW,beq -> Ar,lt_or_ge -> A2,le_trans -> BE,blt -> B9,zero_le -> CA,lt_succ_self -> DK,lt_of_lt_of_le -> Eh,le_succ -> El,sub_zero -> NH,strongRecOn -> Pa,lt_trichotomy -> WX,lt_succ_of_lt -> WY
open List renaming getElem?_eq_getElem -> AI,mem_cons_self -> AZ,getElem?_map -> As,mem_cons_of_mem -> Az,mem_cons -> A0,getElem?_eq_none -> A4,getD_eq_getElem?_getD -> BK,getElem?_cons_succ -> Bh,range -> CW,cons_append -> D9,mem_range -> EV,mem_map -> Fb,mapM_cons -> Wa,eq_nil_iff_forall_not_mem -> e9,countP_eq_zero -> xp
open Bool renaming and_eq_true -> AQ,or_eq_false_iff -> CX,or_eq_true -> Cn,not_eq_true' -> Dv,false_eq_true -> FV
open Option renaming some -> AY
open And renaming intro -> Ad
open Array renaming getElem?_setIfInBounds -> BT,getElem?_eq_none -> CR,getElem?_eq_getElem -> EI,size_setIfInBounds -> EY,getD_eq_getD_getElem? -> Ep,replicate -> Hc,mem_of_getElem? -> Kw,getElem?_append_left -> MX,mapM_eq_mapM_toList -> NK,getElem?_toList -> Y4,getElem?_eq_some_iff -> AJF,getElem?_replicate -> AY5
set_option linter.unusedSimpArgs false
namespace Go.Og
variable {P:Program}{D:Ac}{C:Cx}
theorem Sd:∀{l},XM l=true->∀o∈l,o.op ≠ .pu
 | [],_,o,b=>by simp at b
 | a::l,h,o,b=>by
  simp only[XM,AQ]at h;rcases A0.1 b with rfl|b
  ·intro j;rw[j]at h;cases h.1
  ·exact Sd h.2 o b
def Bm(R:DN)(B:Bs)(x:Option Value):Oc->Prop
 | .val v=>∃y,x=some y/\Av R v=some y
 | .mark m off=>∃i,B m=some i/\x=some (.pointer (some ⟨i.i2,i.shift+off,none⟩))
 | .ol d _=>∃i,B d=some i/\x=some (.pointer (some ⟨i.i2,i.shift+0,none⟩))
theorem Bm.mono{R g B j x c}(h:Bm R B x c)(l:Le R g)(f:∀m i,B m=some i->j m=some i):Bm g j x c:=by
 cases c with
 | val v=>have ⟨y,h1,b⟩:=h;exact⟨y,h1,DA l v y b⟩ | mark m off=>have ⟨i,h1,b⟩:=h;exact⟨i,f _ _ h1,b⟩ | ol d z=>have ⟨i,h1,b⟩:=h;exact⟨i,f _ _ h1,b⟩
set_option maxHeartbeats 2000000 in
theorem zi (hD:∀f,Cr P C.E C.G f (D f)) (hmix:P.follows .mixedOrders=true) {nR:Nat} {R0:DN} {nt:Nat} (rid:Nat) {ops:Array Oper} {l:XL} {ancs:List Nat}
    (hflat:l.pm none=ops.toList.map (BN P C.G nt ops)) (hpl:List.zipWith DP.mk ancs l.lks=Gn ops) (hplan:P4 ops (ops.toList.map (BN P C.G nt ops)) (Gn ops)=true)
    (hok:l.okG none none=true) (hdo:qc (l.pm none) ancs=true) (hanl:ancs.length=l.lks.length) (hmk:l.makes=false) (hnb:XM (l.pm none)=true)
    {s:St}{a0:Act}{w00:World}{J:CF->Qs->Rg->H->AE}{res:V × H} (hpo:P7 s.q l.pals=true)
    (h:JG C.E D true true 0 l 0 s.e s.q s.r s.U J=some res) (hI:O9 C nR R0 nt s a0 w00) (Q:Exit->Act->World->Prop)
    (hQ:∀s' a' w',J s'.e s'.q s'.r s'.U=some res->O9 C nR R0 nt s' a' w'->Q .normal a' w'):(Code.region rid ops true).wp P Q a0 w00:=by
  obtain⟨s',hrun,hκ,_⟩:=ID l none none none true 0 s J res h hok (.inl ⟨rfl,rfl⟩) (λ_=>hmk)
  obtain⟨sts,oc,ex,hst0,hs',hat⟩:=kc hrun
  rw[Th]at hs'
  obtain⟨hfl1,hfl2⟩:=HH l none
  have hsz:l.size=ops.size:=by rw[<-hfl1,hflat];simp
  generalize hnn:ops.size=n at *
  rw[hsz]at hs'
  have F:=SY (l:=ops.toList.map (BN P C.G nt ops)) (by simp) hplan
  have hgood:∀(i:Nat) (o:Oper),ops[i]? = some o->∃g,BN P C.G nt ops o=⟨o.dst,Af P C.G o.op,g⟩/\Qc ops o.guard=some g/\Gi nt o.dst=true:=by
    intro i o ho
    have hmem:BN P C.G nt ops o∈l.pm none:=by
      rw[hflat,Fb]
      exact⟨o,by simpa using Kw ho,rfl⟩
    have hb:=Sd hnb _ hmem
    unfold BN at hb ⊢
    split at hb
    · rename_i g h1 h2;exact⟨g,rfl,h1,h2⟩
    · exact(hb rfl).elim
  have hlt:∀{i:Nat}{o:Oper},ops[i]? = some o->i<n:=λ{i o} ho=>by
    rcases A2 i ops.size with h|h
    · omega
    · rw[CR h]at ho;cases ho
  have some3:∀(i:Nat),i<n->∃(o:Oper) (p:DP),ops[i]? = some o/\(Gn ops)[i]? = some p/\ancs.getD i 0=p.wt/\(l.pm none)[i]? = some (BN P C.G nt ops o)/\At C.E D (sts i) (BN P C.G nt ops o) p.looks (oc i) (ex i) (sts (i+1)):=by
    intro i hi
    have h1:i<ops.size:=by omega
    have ho:ops[i]? = some ops[i]:=EI h1
    have hf:(l.pm none)[i]? = some (BN P C.G nt ops ops[i]):=by
      rw[hflat,As,Y4,ho];rfl
    have hk:l.lks[i]? = some (l.lks[i]'(by omega)):=AI _
    have ha:ancs[i]? = some (ancs[i]'(by omega)):=AI _
    refine⟨ops[i],⟨ancs[i]'(by omega),l.lks[i]'(by omega)⟩,ho,?_,?_,hf,?_⟩
    · rw[<-hpl,List.getElem?_zipWith,ha,hk]
    · rw[BK,ha];rfl
    · exact hat i _ _ (by rw[List.getElem?_zip_eq_some];exact⟨hf,hk⟩)
  have hdlt:∀(i:Nat) (o:Oper) (t:Nat),ops[i]? = some o->o.dst=some t->t<nt:=by
    intro i o t ho ht
    obtain⟨g,_,_,hd⟩:=hgood i o ho
    rw[ht]at hd;simpa[Gi]using hd
  have hdu:∀(i k:Nat) (o o':Oper) (t:Nat),i≠k->ops[i]? = some o->ops[k]? = some o'->o.dst=some t->o'.dst≠some t:=by
    intro i k o o' t hne ho ho' ht
    obtain⟨o1,p1,h1,h2,_⟩:=some3 i (hlt ho)
    obtain⟨o2,p2,h3,h4,_⟩:=some3 k (hlt ho')
    exact(F.ce i k o o' p1 p2 hne ho ho' h2 h4 t ht).1
  have hpald:∀(k m:Nat) (z:List V),k<n->oc k = .ol m z->ex k=true/\∃(o:Oper) (el:TypeId),ops[k]? = some o/\o.dst=some m/\Af P C.G o.op = .alloc el z:=by
    intro k m z hk hc
    obtain⟨o,p,ho,_,_,_,hA⟩:=some3 k hk
    obtain⟨g,hg,_,_⟩:=hgood k o ho
    rw[hg]at hA
    rw[hc]at hA
    generalize ex k=x at hA ⊢
    cases hA with
    | ol _ d el z hd ho' hw h=>exact⟨rfl,o,el,ho,hd,ho'⟩
  have hpalu:∀(k k' m:Nat) (z z':List V),k<n->k'<n->oc k = .ol m z->oc k' = .ol m z'->k=k':=by
    intro k k' m z z' hk hk' h1 h2
    rcases Nat.decEq k k' with hne|he
    · exfalso
      obtain⟨_,o,_,ho,hd,_⟩:=hpald k m z hk h1
      obtain⟨_,o',_,ho',hd',_⟩:=hpald k' m z' hk' h2
      exact hdu k k' o o' m hne ho ho' hd hd'
    · exact he
  let W:Nat->Prop:=λi=>ex i=true/\∃o:Oper,ops[i]? = some o/\(Af P C.G o.op).d8 = .k
  have seg:∀(p i:Nat),p<=i->i<=n->(∀k:Nat,p<=k->k<i->¬W k)->(sts i).U=(sts p).U/\(∀m,(∀k z,p<=k->k<i->oc k ≠ .ol m z)->look (sts i).r m=look (sts p).r m) /\
      (∀k m z,p<=k->k<i->oc k = .ol m z->look (sts i).r m=some z):=by
    intro p i
    induction i with
    | zero=>
      intro hpi _ _
      have:p=0:=by omega
      subst this
      exact⟨rfl,λ_ _=>rfl,λk m z h1 h2=>by omega⟩
    | succ i ih=>
      intro hpi' hin hW
      by_cases hpe:p=i+1
      · subst hpe;exact⟨rfl,λ_ _=>rfl,λk m z h1 h2=>by omega⟩
      have hpi:p<=i:=by omega
      have ih:=ih hpi
      obtain⟨h1,h2,h3⟩:=ih (by omega) (λk hk1 hk2=>hW k hk1 (by omega))
      obtain⟨o,p',ho,_,_,_,hA⟩:=some3 i (by omega)
      obtain⟨g,hg,_,_⟩:=hgood i o ho
      rw[hg]at hA
      have same:(sts (i+1)).U=(sts i).U->(sts (i+1)).r=(sts i).r->(∀m z,oc i ≠ .ol m z)->(sts (i+1)).U=(sts p).U/\(∀m,(∀k z,p<=k->k<i+1->oc k ≠ .ol m z)->look (sts (i+1)).r m=look (sts p).r m) /\
          (∀k m z,p<=k->k<i+1->oc k = .ol m z->look (sts (i+1)).r m=some z):=by
        intro e1 e2 hnp
        refine⟨e1.trans h1,λm hm=>by rw[e2];exact h2 m (λk z hk1 hk2=>hm k z hk1 (by omega)),λk m z hk1 hk2 hkc=>?_⟩
        rw[e2]
        by_cases hki:k=i
        · subst hki;exact(hnp _ _ hkc).elim
        · exact h3 k m z hk1 (by omega) hkc
      have hWi:=hW i hpi (by omega)
      generalize hoc:oc i=c at hA
      generalize hex:ex i=x at hA
      cases hA with
      | skip _ hw h=>exact same h.2.2.2 h.2.2.1 (λm z hh=>by rw[hoc]at hh;cases hh)
      | val _ pw v r' U' hw hs hl hna h=>
        obtain⟨e1,e2⟩:=Po hs (λhk=>hWi ⟨hex,o,ho,hk⟩) hna
        exact same (h.2.2.2.trans e2) (h.2.2.1.trans e1) (λm z hh=>by rw[hoc]at hh;cases hh)
      | mark _ pw id nx m off hw hs h=>exact same h.2.2.2 h.2.2.1 (λm z hh=>by rw[hoc]at hh;cases hh)
      | ol _ d el z hd ho' hw h=>
        have hr:(sts (i+1)).r=(d,z)::Bo [d] (sts i).r:=h.2.2.1
        have hne:∀m,m≠d->look (sts (i+1)).r m=look (sts i).r m:=λm hm=>by
          rw[hr]
          simp only[look,AW]
          rw[if_neg (Ne.symm hm),Cf,if_neg (λhh=>hm ((G9 d m).1 hh).symm)]
        refine⟨h.2.2.2.trans h1,λm hm=>?_,λk m z' hk1 hk2 hkc=>?_⟩
        · have hmd:m≠d:=λhe=>hm i z hpi (by omega) (by rw[hoc,he])
          rw[hne m hmd]
          exact h2 m (λk z hk1 hk2=>hm k z hk1 (by omega))
        · by_cases hki:k=i
          · subst hki
            rw[hoc]at hkc;cases hkc
            rw[hr];simp[look]
          · have hmd:m≠d:=λhe=>hki (hpalu k i d z' z (by omega) (by omega) (by rw[hkc,he]) hoc)
            rw[hne m hmd]
            exact h3 k m z' hk1 (by omega) hkc
  have roots:∀(i:Nat),i<=n->∀(t m off:Nat),look (sts i).q t=some (m,off)->∀k z,k<n->oc k = .ol m z->k<i:=by
    intro i
    induction i with
    | zero=>
      intro _ t m off hl k z hk hc
      exfalso
      obtain⟨_,o,el,ho,hd,hcc⟩:=hpald k m z hk hc
      obtain⟨g,hg,_,_⟩:=hgood k o ho
      have hmem:BN P C.G nt ops o∈l.pm none:=by
        rw[hflat,Fb]
        exact⟨o,by simpa using Kw ho,rfl⟩
      have:=JB l none hmk _ hmem m (by rw[hg];simp only[hcc];rfl) (by rw[hg];exact hd)
      exact Lz hpo m this t off (hst0.2.1 t _ hl)
    | succ i ih=>
      intro hin t m off hl k z hk hc
      have ih:=ih (by omega)
      obtain⟨o,p',ho,_,_,_,hA⟩:=some3 i (by omega)
      generalize hoc:oc i=c at hA
      generalize hex:ex i=x at hA
      have old:∀t,look (sts i).q t=some (m,off)->k<i+1:=λt ht=>WY (ih t m off ht k z hk hc)
      cases hA with
      | skip _ hw h=>
        have:=h.2.1 t _ hl
        rw[CU]at this
        split at this
        · cases this
        · exact old t this
      | val _ pw v r' U' hw hs hl' hna h=>
        have:=h.2.1 t _ hl
        rw[CU]at this
        split at this
        · cases this
        · exact old t this
      | mark _ pw id nx m' off' hw hs h=>
        have:=h.2.1 t _ hl
        rw[LA]at this
        split at this
        · simp only[AY.injEq,Prod.mk.injEq]at this
          obtain⟨rfl,rfl⟩:=this
          obtain⟨x,off2,hx⟩:=kz hs
          cases x with
          | T v=>cases hx
          | tmp u=>
            have hx:look (Lw p'.looks (sts i).q) u=some (m',off2):=hx
            exact WY (ih u m' off2 (HB _ _ _ _ hx).1 k z hk hc)
        · rw[CU]at this
          split at this
          · cases this
          · exact old t this
      | ol _ d el z' hd ho' hw h=>
        have:=h.2.1 t _ hl
        simp only[look,AW]at this
        split at this
        · simp only[AY.injEq,Prod.mk.injEq]at this
          obtain⟨rfl,rfl⟩:=this
          have:=hpalu k i d z z' hk (by omega) hc hoc
          omega
        · have h2:=(KI _ _ _ _ this).2
          rw[Cf]at h2
          split at h2
          · cases h2
          · exact old t h2
  have srcE:∀(i:Nat),i<=n->∀(t:Nat) (v:V),look (sts i).e t=some v->(∃(k:Nat) (o':Oper),k<i/\ops[k]? = some o'/\o'.dst=some t/\oc k = .val v)\/(look s.e t=some v/\∀(k:Nat) (o':Oper),k<i->ops[k]? = some o'->o'.dst≠some t):=by
    intro i
    induction i with
    | zero=>intro _ t v hl;exact .inr ⟨hst0.1 t v hl,λk o' hk=>by omega⟩
    | succ i ih=>
      intro hin t v hl
      have ih:=ih (by omega)
      obtain⟨o,p',ho,_,_,_,hA⟩:=some3 i (by omega)
      obtain⟨g,hg,_,_⟩:=hgood i o ho
      rw[hg]at hA
      generalize hoc:oc i=c at hA
      generalize hex:ex i=x at hA
      have old:o.dst≠some t->look (sts i).e t=some v->(∃(k:Nat) (o':Oper),k<i+1/\ops[k]? = some o'/\o'.dst=some t/\oc k = .val v)\/(look s.e t=some v/\∀(k:Nat) (o':Oper),k<i+1->ops[k]? = some o'->o'.dst≠some t):=by
        intro hne ht
        rcases ih t v ht with ⟨k,o',h1,h2,h3,h4⟩|⟨h1,h2⟩
        · exact .inl ⟨k,o',by omega,h2,h3,h4⟩
        · refine .inr ⟨h1,λk o' hk ho'=>?_⟩
          by_cases hki:k=i
          · subst hki;rw[ho]at ho';cases ho';exact hne
          · exact h2 k o' (by omega) ho'
      cases hA with
      | skip _ hw h=>
        have:=h.1 t _ hl
        rw[Gt]at this
        split at this
        · rename_i hd;cases this;exact .inl ⟨i,o,by omega,ho,hd,hoc⟩
        · rename_i hd;exact old hd this
      | val _ pw v' r' U' hw hs hl' hna h=>
        have:=h.1 t _ hl
        rw[Gt]at this
        split at this
        · rename_i hd;cases this;exact .inl ⟨i,o,by omega,ho,hd,hoc⟩
        · rename_i hd;exact old hd this
      | mark _ pw id nx m' off' hw hs h=>
        have:=h.1 t _ hl
        rw[CU]at this
        split at this
        · cases this
        · rename_i hd;exact old hd this
      | ol _ d el z' hd ho' hw h=>
        have:=h.1 t _ hl
        rw[Cf]at this
        split at this
        · cases this
        · rename_i hm
          exact old (λhh=>hm ((G9 d t).2 (by rw[show o.dst=some d from hd]at hh;simpa using hh))) this
  have srcQ:∀(i:Nat),i<=n->∀(t m off:Nat),look (sts i).q t=some (m,off)->(∃(k:Nat) (o':Oper),k<i/\ops[k]? = some o'/\o'.dst=some t/\(oc k = .mark m off\/∃z,oc k = .ol m z/\off=0)) \/
      (look s.q t=some (m,off)/\∀(k:Nat) (o':Oper),k<i->ops[k]? = some o'->o'.dst≠some t):=by
    intro i
    induction i with
    | zero=>intro _ t m off hl;exact .inr ⟨hst0.2.1 t _ hl,λk o' hk=>by omega⟩
    | succ i ih=>
      intro hin t m off hl
      have ih:=ih (by omega)
      obtain⟨o,p',ho,_,_,_,hA⟩:=some3 i (by omega)
      obtain⟨g,hg,_,_⟩:=hgood i o ho
      rw[hg]at hA
      generalize hoc:oc i=c at hA
      generalize hex:ex i=x at hA
      have old:o.dst≠some t->look (sts i).q t=some (m,off)->(∃(k:Nat) (o':Oper),k<i+1/\ops[k]? = some o'/\o'.dst=some t/\(oc k = .mark m off\/∃z,oc k = .ol m z/\off=0)) \/
          (look s.q t=some (m,off)/\∀(k:Nat) (o':Oper),k<i+1->ops[k]? = some o'->o'.dst≠some t):=by
        intro hne ht
        rcases ih t m off ht with ⟨k,o',h1,h2,h3,h4⟩|⟨h1,h2⟩
        · exact .inl ⟨k,o',by omega,h2,h3,h4⟩
        · refine .inr ⟨h1,λk o' hk ho'=>?_⟩
          by_cases hki:k=i
          · subst hki;rw[ho]at ho';cases ho';exact hne
          · exact h2 k o' (by omega) ho'
      cases hA with
      | skip _ hw h=>
        have:=h.2.1 t _ hl
        rw[CU]at this
        split at this
        · cases this
        · rename_i hd;exact old hd this
      | val _ pw v' r' U' hw hs hl' hna h=>
        have:=h.2.1 t _ hl
        rw[CU]at this
        split at this
        · cases this
        · rename_i hd;exact old hd this
      | mark _ pw id nx m' off' hw hs h=>
        have:=h.2.1 t _ hl
        rw[LA]at this
        split at this
        · rename_i hd
          simp only[AY.injEq,Prod.mk.injEq]at this
          obtain⟨rfl,rfl⟩:=this
          exact .inl ⟨i,o,by omega,ho,hd,.inl hoc⟩
        · rename_i hd
          rw[CU,if_neg hd]at this
          exact old hd this
      | ol _ d el z' hd ho' hw h=>
        have:=h.2.1 t _ hl
        simp only[look,AW]at this
        split at this
        · rename_i hdt
          simp only[AY.injEq,Prod.mk.injEq]at this
          obtain⟨rfl,rfl⟩:=this
          exact .inl ⟨i,o,by omega,ho,by rw[<-hdt];exact hd,.inr ⟨z',hoc,rfl⟩⟩
        · rename_i hdt
          have h2:=(KI _ _ _ _ this).2
          rw[Cf]at h2
          split at h2
          · cases h2
          · exact old (λhh=>hdt (by rw[show o.dst=some d from hd]at hh;simpa using hh)) h2
  obtain⟨Rs,Bs0,hx0,hn0,hm0,he0,hq0,hnt0,hd0⟩:=hI
  let Bi:Bs:=λm=>if Br l.pals m=true then none else Bs0 m
  have hpalm:∀(k m:Nat) (z:List V),k<n->oc k = .ol m z->Br l.pals m=true:=by
    intro k m z hk hc
    obtain⟨_,o,el,ho,hd,hcc⟩:=hpald k m z hk hc
    obtain⟨g,hg,_,_⟩:=hgood k o ho
    have hmem:BN P C.G nt ops o∈l.pm none:=by
      rw[hflat,Fb]
      exact⟨o,by simpa using Kw ho,rfl⟩
    exact JB l none hmk _ hmem m (by rw[hg];simp only[hcc];rfl) (by rw[hg];exact hd)
  let Inv:Array Bool->Act->World->Prop:=λlisted a w=>
    listed.size=n/\(∀(i:Nat) (o:Oper),listed.getD i false=true->ops[i]? = some o->∀ed∈o.after,Region.binds .any ed=true->listed.getD ed.on false=true)/\a.defers=[] /\
    ∃(R:DN) (B:Bs) (p:Nat) (rL:Rg),p<=n/\(p=0\/∃j,p=j+1/\W j/\listed.getD j false=true)/\(∀j,j<n->W j->(listed.getD j false=true↔j<p))/\HU nR R0 R/\nR<=(sts p).U.j /\
      Va C R B rL (sts p).U w/\(∀k m z,p<=k->k<n->listed.getD k false=true->oc k = .ol m z->look rL m=some z) /\
      (∀m,(∀k z,p<=k->k<n->listed.getD k false=true->oc k ≠ .ol m z)->look rL m=look (sts p).r m) /\
      (∀k m z,k<n->oc k = .ol m z->listed.getD k false=false->B m=none)/\nt<=a.tmps.size /\
      (∀(i:Nat) (o:Oper) (t:Nat),listed.getD i false=true->ops[i]? = some o->o.dst=some t->Bm R B a.tmps[t]? (oc i)) /\
      (∀t v,look s.e t=some v->(∀(i:Nat) (o:Oper),listed.getD i false=true->ops[i]? = some o->o.dst≠some t)->∃x,a.tmps[t]? = some x/\Av R v=some x) /\
      (∀t m off,look s.q t=some (m,off)->(∀(i:Nat) (o:Oper),listed.getD i false=true->ops[i]? = some o->o.dst≠some t)->∃i,B m=some i/\a.tmps[t]? = some (.pointer (some ⟨i.i2,i.shift+off,none⟩)))
  have hanc:∀(listed:Array Bool),(∀(i:Nat) (o:Oper),listed.getD i false=true->ops[i]? = some o->∀ed∈o.after,Region.binds .any ed=true->listed.getD ed.on false=true) ->
      ∀(i:Nat) (o:Oper) (p:DP),ops[i]? = some o->(Gn ops)[i]? = some p->(∀ed∈o.after,Region.binds .any ed=true->listed.getD ed.on false=true)->∀(k:Nat),k<n->p.wt.testBit k=true->listed.getD k false=true:=by
    intro listed hcl i
    induction i using Pa with
    | _ i ih=>
      intro o p ho hp hed k hk hb
      obtain⟨ed,hem,hbe,hr⟩:=F.wt i o p ho hp k (by omega) hb
      have hlt':=F.edges i o ho ed hem hbe
      have hli:=hed ed hem hbe
      rcases hr with rfl|hr
      · exact hli
      · have hin:i<n:=hlt ho
        obtain⟨o2,p2,h1,h3,_⟩:=some3 ed.on (by omega)
        exact ih ed.on hlt' o2 p2 h1 h3 (λed2 hm2 hb2=>hcl ed.on o2 hli h1 ed2 hm2 hb2) k hk (by rw[<-JM h3];exact hr)
  have hready_nil:∀listed:Array Bool,listed.size=n->Region.ready .any ops listed=[]->∀k,k<n->listed.getD k false=true:=by
    intro listed hsz' hr k
    induction k using Pa with
    | _ k ih=>
      intro hk
      cases hb:listed.getD k false with
      | true=>rfl
      | false=>
        exfalso
        obtain⟨o,p,h1,_⟩:=some3 k hk
        have:k∈Region.ready .any ops listed:=mem_ready.2 ⟨by rw[ED hsz' hk];exact hb,o,h1,λed hm hbd=>ih ed.on (F.edges k o h1 ed hm hbd) (by have:=F.edges k o h1 ed hm hbd;omega)⟩
        rw[hr]at this;cases this
  have hnone:∀(listed:Array Bool),(∀(i:Nat) (o:Oper),listed.getD i false=true->ops[i]? = some o->∀ed∈o.after,Region.binds .any ed=true->listed.getD ed.on false=true) ->
      ∀(j:Nat) (t:Nat),j<=n->(j<n->∃o p,ops[j]? = some o/\(Gn ops)[j]? = some p/\listed.getD j false=false/\Br p.looks t=true) ->
      (∀(k:Nat) (o':Oper),k<j->ops[k]? = some o'->o'.dst≠some t)->∀(i:Nat) (o:Oper),listed.getD i false=true->ops[i]? = some o->o.dst≠some t:=by
    intro listed hcl j t hj hrd hk2 i oi hli hoi hdst
    have hin:i<n:=hlt hoi
    by_cases hij:i<j
    · exact hk2 i oi hij hoi hdst
    · have hjn:j<n:=by omega
      obtain⟨o,p,ho,hp,hnl,hlook⟩:=hrd hjn
      by_cases hie:i=j
      · subst hie;rw[hnl]at hli;cases hli
      · obtain⟨o3,p3,h1,h3,_⟩:=some3 i hin
        rw[hoi]at h1;cases h1
        have hd:=(F.ce i j oi o p3 p hie hoi ho h3 hp t hdst).2 hlook
        rcases hd with hd|hd
        · have:=F.ancLt j p hp i (by omega) hd;omega
        · have:=hanc listed hcl i oi p3 hoi h3 (λed hm hb=>hcl i oi hli hoi ed hm hb) j hjn hd
          rw[hnl]at this;cases this
  have hwritten:∀(listed:Array Bool),(∀(i:Nat) (o:Oper),listed.getD i false=true->ops[i]? = some o->∀ed∈o.after,Region.binds .any ed=true->listed.getD ed.on false=true) ->
      ∀(j t k:Nat) (ok:Oper),j<=n->(j=n->∀k,k<n->listed.getD k false=true)->(j<n->∃o p,ops[j]? = some o/\(Gn ops)[j]? = some p/\Br p.looks t=true/\(∀ed∈o.after,Region.binds .any ed=true->listed.getD ed.on false=true)) ->
      k<j->ops[k]? = some ok->ok.dst=some t->listed.getD k false=true:=by
    intro listed hcl j t k ok hj hall hrd hk hok' hdst
    by_cases hjn:j<n
    · obtain⟨o,p,ho,hp,hlook,hed⟩:=hrd hjn
      obtain⟨o3,p3,h1,h3,_⟩:=some3 k (by omega)
      rw[hok']at h1;cases h1
      have hd:=(F.ce k j ok o p3 p (by omega) hok' ho h3 hp t hdst).2 hlook
      rcases hd with hd|hd
      · exact hanc listed hcl j o p ho hp hed k (by omega) hd
      · have:=F.ancLt k p3 h3 j (by omega) hd;omega
    · exact hall (by omega) k (by omega)
  have hput:∀(a:Act) (d:Option Nat) (x:Value) (t:Nat),d≠some t->(a.put d x).tmps[t]? = a.tmps[t]? := by
    intro a d x t hne
    cases d with
    | none=>rfl
    | some d=>
      simp only[Act.put,BT]
      rw[if_neg (λh=>hne (by rw[h]))]
  have hputsz:∀(a:Act) (d:Option Nat) (x:Value),(a.put d x).tmps.size=a.tmps.size:=by
    intro a d x;cases d<;>simp[Act.put]
  have hclsk:∀(listed:Array Bool),(∀(i:Nat) (o:Oper),listed.getD i false=true->ops[i]? = some o->∀ed∈o.after,Region.binds .any ed=true->listed.getD ed.on false=true) ->
      ∀(i:Nat) (o:Oper),ops[i]? = some o->listed.getD i false=false->(∀ed∈o.after,Region.binds .any ed=true->listed.getD ed.on false=true)->∀j,j<n->W j ->
        ((Af P C.G o.op).d8 = .k->(j<i->listed.getD j false=true)/\(i<j->listed.getD j false=false)) /\
        ((Af P C.G o.op).d8 = .l->(j<i->listed.getD j false=true)/\(i<j->listed.getD j false=false)) /\
        ((Af P C.G o.op).d8 = .a->(i<j->listed.getD j false=false)):=by
    intro listed hcl i o ho hnl hed j hj hWj
    obtain⟨hexj,oj,hoj,hcj⟩:=hWj
    have hi:i<n:=hlt ho
    obtain⟨o1,p1,e1,e2,e3,e4,_⟩:=some3 i hi
    rw[ho]at e1;cases e1
    obtain⟨o2,p2,f1,f2,f3,f4,_⟩:=some3 j hj
    rw[hoj]at f1;cases f1
    obtain⟨g1,hg1,_⟩:=hgood i o ho
    obtain⟨g2,hg2,_⟩:=hgood j oj hoj
    have hup:∀k,k<n->p1.wt.testBit k=true->listed.getD k false=true:=hanc listed hcl i o p1 ho e2 hed
    have hdown:p2.wt.testBit i=true->listed.getD j false=false:=by
      intro hb
      cases hlj:listed.getD j false with
      | false=>rfl
      | true=>
        exfalso
        have:=hanc listed hcl j oj p2 hoj f2 (λed hm hb=>hcl j oj hlj hoj ed hm hb) i hi hb
        rw[hnl]at this;cases this
    have hl1:(ops.toList.map (BN P C.G nt ops))[i]? = some (BN P C.G nt ops o):=by rw[<-hflat];exact e4
    have hl2:(ops.toList.map (BN P C.G nt ops))[j]? = some (BN P C.G nt ops oj):=by rw[<-hflat];exact f4
    have hkj:(BN P C.G nt ops oj).op.d8 = .k:=by rw[hg2];exact hcj
    have hdoj:=Hk hdo j (by rw[hfl1];omega)
    rw[f4]at hdoj
    simp only[hkj]at hdoj
    have hdoji:=Hk hdoj i (by rw[hfl1];omega)
    rw[e4]at hdoji
    rw[e3,f3]at hdoji
    refine⟨λhk=>?_,λhk=>?_,λhk=>?_⟩
    · have hki:(BN P C.G nt ops o).op.d8 = .k:=by rw[hg1];exact hk
      exact⟨λhji=>hup j hj (F.kk j i _ _ p1 hji hl2 hl1 e2 hkj hki),λhij=>hdown (F.kk i j _ _ p2 hij hl1 hl2 f2 hki hkj)⟩
    · have hki:(BN P C.G nt ops o).op.d8 = .l:=by rw[hg1];exact hk
      simp only[hki,Cn]at hdoji
      rcases hdoji with hb|hb
      · have:=F.ancLt i p1 e2 j (by omega) hb
        exact⟨λ_=>hup j hj hb,λhij=>by omega⟩
      · have:=F.ancLt j p2 f2 i (by omega) hb
        exact⟨λhji=>by omega,λ_=>hdown hb⟩
    · have hki:(BN P C.G nt ops o).op.d8 = .a:=by rw[hg1];exact hk
      simp only[hki,Cn,Dv]at hdoji
      intro hij
      rcases hdoji with hb|hb
      · have:B9 i j=true:=by simpa using hij
        rw[this]at hb;cases hb
      · exact hdown hb
  have hallk:∀(listed:Array Bool),(∀(i:Nat) (o:Oper),listed.getD i false=true->ops[i]? = some o->∀ed∈o.after,Region.binds .any ed=true->listed.getD ed.on false=true) ->
      ∀(i:Nat) (o:Oper),ops[i]? = some o->(∀ed∈o.after,Region.binds .any ed=true->listed.getD ed.on false=true)->(Af P C.G o.op).d8 = .k->∀k m z,k<i->oc k = .ol m z->listed.getD k false=true:=by
    intro listed hcl i o ho hed hk k m z hki hc
    have hi:i<n:=hlt ho
    obtain⟨o1,p1,e1,e2,e3,e4,_⟩:=some3 i hi
    rw[ho]at e1;cases e1
    obtain⟨g1,hg1,_⟩:=hgood i o ho
    obtain⟨_,ok,el,hok',hdk,hck⟩:=hpald k m z (by omega) hc
    obtain⟨o2,p2,f1,f2,f3,f4,_⟩:=some3 k (by omega)
    rw[hok']at f1;cases f1
    obtain⟨g2,hg2,_⟩:=hgood k ok hok'
    have hkk:(BN P C.G nt ops o).op.d8 = .k:=by rw[hg1];exact hk
    have hdoj:=Hk hdo i (by rw[hfl1];omega)
    rw[e4]at hdoj
    simp only[hkk]at hdoj
    have hdoji:=Hk hdoj k (by rw[hfl1];omega)
    rw[f4]at hdoji
    have hka:(BN P C.G nt ops ok).op.d8 = .a:=by rw[hg2];simp only[hck];rfl
    rw[e3]at hdoji
    simp only[hka,Cn,Dv]at hdoji
    rcases hdoji with hb|hb
    · have:B9 k i=true:=by simpa using hki
      rw[this]at hb;cases hb
    · exact hanc listed hcl i o p1 ho e2 hed k (by omega) hb
  have hfin:∀listed a w,Inv listed a w->(∀k,k<n->listed.getD k false=true)->Q .normal a w:=by
    intro listed a w hI hall
    obtain⟨hls,hcl,hd,R,B,p,rL,hpn,hp0,hpw,hx,hnp,hmem,hr1,hr2,hbs,htsz,hw,hu,hqq⟩:=hI
    have hnW:∀k,p<=k->k<n->¬W k:=λk h1 h2 hW=>by have:=(hpw k h2 hW).1 (hall k h2);omega
    obtain⟨s1,s2,s3⟩:=seg p n hpn (AL _) hnW
    have hrr:∀m,look rL m=look (sts n).r m:=by
      intro m
      by_cases hex2:∃k z,p<=k/\k<n/\oc k = .ol m z
      · obtain⟨k,z,h1,h2,h3⟩:=hex2
        rw[hr1 k m z h1 h2 (hall k h2) h3,s3 k m z h1 h2 h3]
      · have hno:∀k z,p<=k->k<n->oc k ≠ .ol m z:=λk z h1 h2 h3=>hex2 ⟨k,z,h1,h2,h3⟩
        rw[hr2 m (λk z h1 h2 _=>hno k z h1 h2),s2 m hno]
    rw[hs']at hκ
    refine hQ (sts n) a w hκ ⟨R,B,hx,by rw[s1];exact hnp,⟨by rw[s1];exact hmem.rel,⟨λm i hm=>?_,hmem.priv.inj,by rw[s1];exact hmem.priv.apart⟩⟩,⟨λt v hv=>?_⟩,⟨λt m off hv=>?_⟩,htsz,hd⟩
    · obtain⟨h1,l',h2,h3⟩:=hmem.priv.X m i hm
      exact⟨h1,l',by rw[<-hrr];exact h2,h3⟩
    · rcases srcE n (AL _) t v hv with ⟨k,o',h1,h2,h3,h4⟩ | ⟨h1,h2⟩
      · have:=hw k o' t (hall k h1) h2 h3
        rw[h4]at this;exact this
      · exact hu t v h1 (hnone listed hcl n t (AL _) (λh=>by omega) h2)
    · rcases srcQ n (AL _) t m off hv with ⟨k,o',h1,h2,h3,h4⟩ | ⟨h1,h2⟩
      · have:=hw k o' t (hall k h1) h2 h3
        rcases h4 with h4|⟨z,h4,rfl⟩
        · rw[h4]at this;exact this
        · rw[h4]at this;exact this
      · exact hqq t m off h1 (hnone listed hcl n t (AL _) (λh=>by omega) h2)
  have hstep:∀listed a w,Inv listed a w->∀i,i∈Region.ready .any ops listed->∀K:Act->World->Prop,(∀a' w',Inv (listed.setIfInBounds i true) a' w'->K a' w')->wpOp P ops Q i K a w:=by
    intro listed a w hI i hi K hK
    obtain⟨hls,hcl,hd,R,B,p,rL,hpn,hp0,hpw,hx,hnp,hmem,hr1,hr2,hbs,htsz,hw,hu,hqq⟩:=hI
    obtain⟨hli,o,ho,hed⟩:=mem_ready.1 hi
    have hin:i<n:=hlt ho
    have hnl:listed.getD i false=false:=by rw[<-ED hls hin];exact hli
    obtain⟨o2,pi,ho2,hpi,_,_,hA⟩:=some3 i hin
    rw[ho]at ho2;cases ho2
    obtain⟨g,hg,hcg,hdok⟩:=hgood i o ho
    rw[hg]at hA
    have hsz':i<listed.size:=by omega
    have hLs:∀k,(listed.setIfInBounds i true).getD k false=(decide (k=i) || listed.getD k false):=λk=>I9 hsz'
    have hLi:(listed.setIfInBounds i true).getD i false=true:=by rw[hLs];simp
    have hLo:∀k,k≠i->(listed.setIfInBounds i true).getD k false=listed.getD k false:=λk hk=>by rw[hLs];simp[hk]
    have hclk:=hclsk listed hcl i o ho hnl hed
    have hmw:=hmem.rel
    have hem:Hl R (Ee true pi.looks (sts i).e) a.tmps:=by
      refine⟨λt v hv=>?_⟩
      obtain⟨ht,hmemt⟩:=Gs _ _ _ _ hv
      rcases srcE i (by omega) t v ht with ⟨k,o',h1,h2,h3,h4⟩|⟨h1,h2⟩
      · have:=hw k o' t (hwritten listed hcl i t k o' (by omega) (λh=>by omega) (λ_=>⟨o,pi,ho,hpi,hmemt,hed⟩) h1 h2 h3) h2 h3
        rw[h4]at this;exact this
      · exact hu t v h1 (hnone listed hcl i t (by omega) (λ_=>⟨o,pi,ho,hpi,hnl,hmemt⟩) h2)
    have hqm:VZ B (LN true pi.looks (sts i).q) a.tmps:=by
      refine⟨λt m off hv=>?_⟩
      obtain⟨ht,hmemt⟩:=HB _ _ _ _ hv
      rcases srcQ i (by omega) t m off ht with ⟨k,o',h1,h2,h3,h4⟩|⟨h1,h2⟩
      · have:=hw k o' t (hwritten listed hcl i t k o' (by omega) (λh=>by omega) (λ_=>⟨o,pi,ho,hpi,hmemt,hed⟩) h1 h2 h3) h2 h3
        rcases h4 with h4|⟨z,h4,rfl⟩
        · rw[h4]at this;exact this
        · rw[h4]at this;exact this
      · exact hqq t m off h1 (hnone listed hcl i t (by omega) (λ_=>⟨o,pi,ho,hpi,hnl,hmemt⟩) h2)
    have mk:∀(R':DN) (B':Bs) (p':Nat) (rL':Rg) (w':World) (x:Value),p'<=n->(p'=0\/∃j,p'=j+1/\W j/\(listed.setIfInBounds i true).getD j false=true) ->
        (∀j,j<n->W j->((listed.setIfInBounds i true).getD j false=true↔j<p'))->HU nR R0 R'->nR<=(sts p').U.j->Va C R' B' rL' (sts p').U w' ->
        (∀k m z,p'<=k->k<n->(listed.setIfInBounds i true).getD k false=true->oc k = .ol m z->look rL' m=some z) ->
        (∀m,(∀k z,p'<=k->k<n->(listed.setIfInBounds i true).getD k false=true->oc k ≠ .ol m z)->look rL' m=look (sts p').r m) ->
        (∀k m z,k<n->oc k = .ol m z->(listed.setIfInBounds i true).getD k false=false->B' m=none)->Le R R'->(∀m b,B m=some b->B' m=some b) ->
        (∀t,o.dst=some t->Bm R' B' (some x) (oc i))->K (a.put o.dst x) w':=by
      intro R' B' p' rL' w' x h1 h2 h3 h4 h5 h6 h7 h8 h9 h10 h11 h12
      refine hK _ _ ⟨by rw[EY];exact hls,?_,by rw[FO];exact hd,R',B',p',rL',h1,h2,h3,h4,h5,h6,h7,h8,h9,by rw[hputsz];exact htsz,?_,?_,?_⟩
      · intro i' o' hi' ho' ed hm' hb'
        rw[hLs]at hi' ⊢
        simp only[Cn,decide_eq_true_eq]at hi' ⊢
        rcases hi' with rfl|hi'
        · rw[ho]at ho';cases ho'
          exact .inr (hed ed hm' hb')
        · exact .inr (hcl i' o' hi' ho' ed hm' hb')
      · intro i' o' t hi' ho' hdt
        rw[hLs]at hi'
        simp only[Cn,decide_eq_true_eq]at hi'
        by_cases he:i'=i
        · subst he
          rw[ho]at ho';cases ho'
          have:=h12 t hdt
          have htl:t<a.tmps.size:=Eh (hdlt i' o t ho hdt) htsz
          have hpt:(a.put o.dst x).tmps[t]? = some x:=by rw[hdt];simp[Act.put,BT,htl]
          rw[hpt];exact this
        · have:=hw i' o' t (hi'.resolve_left he) ho' hdt
          rw[hput a o.dst x t (hdu i' i o' o t he ho' ho hdt)]
          exact this.mono h10 h11
      · intro t v hv hno
        rw[hput a o.dst x t (hno i o hLi ho)]
        obtain⟨y,hy1,hy2⟩:=hu t v hv (λi' o' hi' ho'=>hno i' o' (by rw[hLs,hi'];simp) ho')
        exact⟨y,hy1,DA h10 v y hy2⟩
      · intro t m off hv hno
        rw[hput a o.dst x t (hno i o hLi ho)]
        obtain⟨b,hb1,hb2⟩:=hqq t m off hv (λi' o' hi' ho'=>hno i' o' (by rw[hLs,hi'];simp) ho')
        exact⟨b,h11 m b hb1,hb2⟩
    have mk0:∀(R':DN) (w':World) (x:Value),¬W i->(∀m z,oc i ≠ .ol m z)->HU nR R0 R'->Va C R' B rL (sts p).U w'->Le R R'->(∀t,o.dst=some t->Bm R' B (some x) (oc i))->K (a.put o.dst x) w':=by
      intro R' w' x hnW hnp' h1 h2 h3 h4
      refine mk R' B p rL w' x hpn ?_ ?_ h1 hnp h2 ?_ ?_ ?_ h3 (λ_ _ h=>h) h4
      · rcases hp0 with h | ⟨j,h5,h6,h7⟩
        · exact .inl h
        · exact .inr ⟨j,h5,h6,by rw[hLs,h7];simp⟩
      · intro j hj hWj
        by_cases hji:j=i
        · subst hji;exact(hnW hWj).elim
        · rw[hLo j hji];exact hpw j hj hWj
      · intro k m z hk1 hk2 hk3 hk4
        by_cases hki:k=i
        · subst hki;exact(hnp' m z hk4).elim
        · rw[hLo k hki]at hk3;exact hr1 k m z hk1 hk2 hk3 hk4
      · intro m hm
        refine hr2 m (λk z hk1 hk2 hk3=>?_)
        exact hm k z hk1 hk2 (by rw[hLs,hk3];simp)
      · intro k m z hk1 hk2 hk3
        by_cases hki:k=i
        · subst hki;rw[hLi]at hk3;cases hk3
        · rw[hLo k hki]at hk3;exact hbs k m z hk1 hk2 hk3
    have hext:∀R',(∀k,k<(sts p).U.j->k≠(sts p).U.j->R' k=R k)->HU nR R0 R':=λR' hk k hkn=>by rw[hk k (by omega) (by omega)];exact hx k hkn
    have hpi':(∀j,j<n->W j->i<j->listed.getD j false=false)->p<=i:=by
      intro hno
      rcases hp0 with h|⟨j,h1,h2,h3⟩
      · omega
      · rcases WX j i with h4 | h4 | h4
        · omega
        · subst h4;rw[hnl]at h3;cases h3
        · have hW:=h2
          obtain⟨_,oj,hoj,_⟩:=h2
          rw[hno j (hlt hoj) hW h4]at h3;cases h3
    have hnoW:(∀j,j<n->W j->j<i->listed.getD j false=true)->∀k,p<=k->k<i->¬W k:=by
      intro hyes k hk1 hk2 hWk
      have:=(hpw k (by omega) hWk).1 (hyes k (by omega) hWk hk2)
      omega
    have hsame:p<=i->(∀k,p<=k->k<i->¬W k)->(sts i).U=(sts p).U/\∀x m off,GI (LN true pi.looks (sts i).q) x=some (m,off)->look rL m=look (sts i).r m:=by
      intro hpi2 hnW
      obtain⟨s1,s2,s3⟩:=seg p i hpi2 (by omega) hnW
      refine⟨s1,λx m off hmx=>?_⟩
      cases x with
      | T v=>cases hmx
      | tmp u=>
        have hmx:look (LN true pi.looks (sts i).q) u=some (m,off):=hmx
        obtain⟨b,hb,_⟩:=hqm.X u m off hmx
        have hroot:=roots i (by omega) u m off (HB _ _ _ _ hmx).1
        by_cases hex2:∃k z,p<=k/\k<i/\oc k = .ol m z
        · obtain⟨k,z,h1,h2,h3⟩:=hex2
          have hlk:listed.getD k false=true:=by
            cases hlk:listed.getD k false with
            | true=>rfl
            | false=>have:=hbs k m z (by omega) h3 hlk;rw[hb]at this;cases this
          rw[hr1 k m z h1 (by omega) hlk h3,s3 k m z h1 h2 h3]
        · have hno:∀k z,p<=k->k<i->oc k ≠ .ol m z:=λk z h1 h2 h3=>hex2 ⟨k,z,h1,h2,h3⟩
          rw[hr2 m (λk z h1 h2 _ h3=>hno k z h1 (hroot k z h2 h3) h3),s2 m hno]
    have hgl:=hmw.globOk
    unfold wpOp
    rw[ho]
    simp only
    generalize hoc:oc i=c at hA
    generalize hexi:ex i=xx at hA
    cases hA with
    | skip _ hwn h=>
      rw[if_neg (by rw[Dy hem.env hcg hwn];simp)]
      exact mk0 R w undef (λhW=>by have h9:=hW.1;rw[hexi]at h9;cases h9) (λm z hh=>by rw[hoc]at hh;cases hh) hx hmem (Le.refl _) (λt _=>by rw[hoc];exact⟨_,rfl,rfl⟩)
    | mark _ pw id nx m off hwn hs h=>
      rw[if_pos (Dy hem.env hcg hwn)]
      left
      have hs2:Ge C.E D pw (sts p).U.j ((sts p).U.j+1) (Af P C.G o.op) (Ee true pi.looks (sts i).e) (LN true pi.looks (sts i).q) rL (sts p).U (.mark m off):=pz hs
      refine Mb hD hmem hem hqm o (hmw.kw _ (AL _)) (DK _) (El _) hs2 K Q (λv2 r2 U2 heq=>by cases heq) (λm2 off2 heq b hb=>?_)
      cases heq
      refine mk0 R w _ (λhW=>?_) (λm z hh=>by rw[hoc]at hh;cases hh) hx hmem (Le.refl _) (λt _=>by rw[hoc];exact⟨b,hb,rfl⟩)
      obtain⟨_,o3,ho3,hc3⟩:=hW
      rw[ho]at ho3;cases ho3
      cases hs with
      | mv x _ _ hoo _=>have hoo:Af P C.G o.op=_\/Af P C.G o.op=_:=hoo;rcases hoo with hoo | hoo<;>(rw[hoo]at hc3;cases hc3)
      | fa d x _ _ hoo _=>have hoo:Af P C.G o.op=_:=hoo;rw[hoo]at hc3;cases hc3
    | ol _ d el z hdd hoo hwn h=>
      rw[if_pos (Dy hem.env hcg hwn)]
      left
      have hoo:Af P C.G o.op = .alloc el z:=hoo
      have hdd:o.dst=some d:=hdd
      have hca:(Af P C.G o.op).d8 = .a:=by rw[hoo];rfl
      have hple:=hpi' (λj hj hW hij=>(hclk j hj hW).2.2 hca hij)
      have hBd:B d=none:=hbs i d z hin hoc hnl
      refine pa hmem o (d:=d) hoo K Q (λb w' hmem'=>?_)
      refine mk R (λm=>if m=d then some b else B m) p ((d,z)::Bo [d] rL) w' _ hpn ?_ ?_ hx hnp hmem' ?_ ?_ ?_ (Le.refl _) (λm b' hb'=>?_) (λt _=>?_)
      · rcases hp0 with h | ⟨j,h5,h6,h7⟩
        · exact .inl h
        · exact .inr ⟨j,h5,h6,by rw[hLs,h7];simp⟩
      · intro j hj hWj
        by_cases hji:j=i
        · subst hji
          obtain⟨_,o3,ho3,hc3⟩:=hWj
          rw[ho]at ho3;cases ho3
          rw[hca]at hc3;cases hc3
        · rw[hLo j hji];exact hpw j hj hWj
      · intro k m z' hk1 hk2 hk3 hk4
        by_cases hki:k=i
        · subst hki;rw[hoc]at hk4;cases hk4;simp[look]
        · rw[hLo k hki]at hk3
          have hmd:¬d=m:=λhe=>hki (hpalu k i m z' z hk2 hin hk4 (by rw[hoc,he]))
          simp only[look,AW]
          rw[if_neg hmd,Cf,if_neg (λhh=>hmd ((G9 d m).1 hh))]
          exact hr1 k m z' hk1 hk2 hk3 hk4
      · intro m hm
        have hmd:¬d=m:=λhe=>hm i z hple hin hLi (by rw[hoc,he])
        simp only[look,AW]
        rw[if_neg hmd,Cf,if_neg (λhh=>hmd ((G9 d m).1 hh))]
        exact hr2 m (λk z' hk1 hk2 hk3=>hm k z' hk1 hk2 (by rw[hLs,hk3];simp))
      · intro k m z' hk1 hk2 hk3
        by_cases hki:k=i
        · subst hki;rw[hLi]at hk3;cases hk3
        · rw[hLo k hki]at hk3
          have hmd:¬m=d:=λhe=>hki (hpalu k i m z' z hk1 hin hk2 (by rw[hoc,he]))
          rw[if_neg hmd];exact hbs k m z' hk1 hk2 hk3
      · by_cases hmd:m=d
        · subst hmd;rw[hBd]at hb';cases hb'
        · rw[if_neg hmd];exact hb'
      · rw[hoc];exact⟨b,by simp,rfl⟩
    | val _ pw v r' U' hwn hs hl' hna h=>
      rw[if_pos (Dy hem.env hcg hwn)]
      left
      have hs:Ge C.E D pw (sts i).U.j ((sts i).U.j+1) (Af P C.G o.op) (Ee true pi.looks (sts i).e) (LN true pi.looks (sts i).q) (sts i).r (sts i).U (.val v r' U'):=hs
      have hl':o.dst=none\/v.J=true\/(Af P C.G o.op).d8 ≠ .k:=hl'
      have hna:(Af P C.G o.op).d8 ≠ .a:=hna
      have htok:∀(R':DN) (x:Value),((v = .i5/\(Af P C.G o.op).d8 = .k)\/Av R' v=some x)->∀t,o.dst=some t->Bm R' B (some x) (oc i):=by
        intro R' x hv t ht
        rw[hoc]
        refine⟨x,rfl,?_⟩
        rcases hv with ⟨rfl,hc⟩|hv
        · rcases hl' with h | h | h
          · rw[ht]at h;cases h
          · cases h
          · exact(h hc).elim
        · exact hv
      by_cases hck:(Af P C.G o.op).d8 = .k
      ·
        have hWi:W i:=⟨hexi,o,ho,hck⟩
        have hple:=hpi' (λj hj hW hij=>((hclk j hj hW).1 hck).2 hij)
        have hnW:=hnoW (λj hj hW hji=>((hclk j hj hW).1 hck).1 hji)
        obtain⟨hσ,hrm⟩:=hsame hple hnW
        obtain⟨s1,s2,s3⟩:=seg p i hple (by omega) hnW
        rw[hσ]at hs
        obtain⟨rL',hs2,hrel⟩:=SK (rL:=rL) hs hrm
        refine Mb hD hmem hem hqm o (hmw.kw _ (AL _)) (DK _) (El _) hs2 K Q (λv2 r2 U2 heq R' w' x hle hk hn' hmem' hv=>?_) (λm off heq=>by cases heq)
        cases heq
        have hσ':(sts (i+1)).U=U':=h.2.2.2
        have hr':(sts (i+1)).r=r':=h.2.2.1
        have hall:=hallk listed hcl i o ho hed hck
        have hold:∀m,(∀k z,i<=k->k<n->(listed.setIfInBounds i true).getD k false=true->oc k ≠ .ol m z)->look rL m=look (sts i).r m:=by
          intro m hm
          by_cases hex2:∃k z,p<=k/\k<i/\oc k = .ol m z
          · obtain⟨k,z,h1,h2,h3⟩:=hex2
            rw[hr1 k m z h1 (by omega) (hall k m z h2 h3) h3,s3 k m z h1 h2 h3]
          · have hno:∀k z,p<=k->k<i->oc k ≠ .ol m z:=λk z h1 h2 h3=>hex2 ⟨k,z,h1,h2,h3⟩
            rw[hr2 m (λk z h1 h2 h3 h4=>?_),s2 m hno]
            rcases A2 k i with h5|h5
            · exact hno k z h1 h5 h4
            · exact hm k z h5 h2 (by rw[hLs,h3];simp) h4
        have hmroot:∀x m off,GI (LN true pi.looks (sts i).q) x=some (m,off)->∀k z,k<n->oc k = .ol m z->k<i:=by
          intro x m off hmx
          cases x with
          | T v=>cases hmx
          | tmp u=>
            have hmx:look (LN true pi.looks (sts i).q) u=some (m,off):=hmx
            exact roots i (by omega) u m off (HB _ _ _ _ hmx).1
        refine mk R' B (i+1) rL' w' x (by omega) (.inr ⟨i,rfl,hWi,hLi⟩) ?_ (hext R' hk) (by rw[hσ'];omega) (by rw[hσ'];exact hmem') ?_ ?_ ?_ hle (λ_ _ h=>h) (htok R' x hv)
        · intro j hj hWj
          by_cases hji:j=i
          · subst hji;rw[hLi];simp
          · rw[hLo j hji]
            rcases WX j i with h4|h4|h4
            · rw[((hclk j hj hWj).1 hck).1 h4];simp;omega
            · exact(hji h4).elim
            · rw[((hclk j hj hWj).1 hck).2 h4];simp;omega
        · intro k m z hk1 hk2 hk3 hk4
          have hk3':listed.getD k false=true:=by rw[hLo k (by omega)]at hk3;exact hk3
          have hb:=hr1 k m z (by omega) hk2 hk3' hk4
          rcases hrel with ⟨_,h6⟩|⟨x',m',off',c',l',h6,h7,_,h8⟩
          · rw[h6];exact hb
          · rw[h8]
            have hne:¬m'=m:=λhe=>by have:=hmroot x' m' off' h6 k z hk2 (by rw[he];exact hk4);omega
            rw[H7 (by rw[hrm x' m' off' h6];exact h7),if_neg hne];exact hb
        · intro m hm
          have hb:=hold m (λk z hk1 hk2 hk3 hk4=>by
            rcases Nat.eq_or_lt_of_le hk1 with h5|h5
            · subst h5;rw[hoc]at hk4;cases hk4
            · exact hm k z (by omega) hk2 hk3 hk4)
          rw[hr']
          rcases hrel with ⟨h5,h6⟩|⟨x',m',off',c',l',h6,h7,h8,h9⟩
          · rw[h5,h6];exact hb
          · rw[h8,h9,H7 (by rw[hrm x' m' off' h6];exact h7),H7 h7,hb]
        · intro k m z hk1 hk2 hk3
          by_cases hki:k=i
          · subst hki;rw[hLi]at hk3;cases hk3
          · rw[hLo k hki]at hk3;exact hbs k m z hk1 hk2 hk3
      ·
        have hnWi:¬W i:=λhW=>by
          obtain⟨_,o3,ho3,hc3⟩:=hW
          rw[ho]at ho3;cases ho3
          exact hck hc3
        have go:Ge C.E D pw (sts p).U.j ((sts p).U.j+1) (Af P C.G o.op) (Ee true pi.looks (sts i).e) (LN true pi.looks (sts i).q) rL (sts p).U (.val v rL (sts p).U)->o.wp P a w K Q:=by
          intro hs2
          refine Mb hD hmem hem hqm o (hmw.kw _ (AL _)) (DK _) (El _) hs2 K Q (λv2 r2 U2 heq R' w' x hle hk hn' hmem' hv=>?_) (λm off heq=>by cases heq)
          cases heq
          exact mk0 R' w' x hnWi (λm z hh=>by rw[hoc]at hh;cases hh) (hext R' hk) hmem' hle (htok R' x hv)
        cases hcls:(Af P C.G o.op).d8 with
        | k=>exact(hck hcls).elim
        | a=>exact(hna hcls).elim
        | p=>
          refine go ?_
          cases hs with
          | p _ hc h9=>exact .p v hc h9
          | l _ hc h9=>rw[hcls]at hc;cases hc
          | a _ b hc h9=>rw[hcls]at hc;cases hc
          | k _ U1 _ hc h hs=>rw[hcls]at hc;cases hc
          | ld x m off l _ hoo hm hl h=>rw[hoo]at hcls;cases hcls
          | ldn n x m off l hoo hm hl h=>rw[hoo]at hcls;cases hcls
          | st n x y m off l cs u hw hoo hm hl hn hu hlu hcs h1 hlen h=>rw[hoo]at hcls;cases hcls
        | l=>
          have hple:=hpi' (λj hj hW hij=>((hclk j hj hW).2.1 hcls).2 hij)
          have hnW:=hnoW (λj hj hW hji=>((hclk j hj hW).2.1 hcls).1 hji)
          obtain⟨hσ,hrm⟩:=hsame hple hnW
          rw[hσ]at hs
          obtain⟨rL',hs2,_⟩:=SK (rL:=rL) hs hrm
          obtain⟨e1,e2⟩:=Po hs2 hck hna
          rw[e1,e2]at hs2
          exact go hs2
  have hany:∀fuel listed a w,Inv listed a w->(CW n).countP (λk=>!listed.getD k false)<=fuel->wpAny P .any ops Q fuel listed a w:=by
    intro fuel
    induction fuel with
    | zero=>
      intro listed a w hI hcnt
      have hall:∀k,k<n->listed.getD k false=true:=by
        intro k hk
        have h0:(CW n).countP (λk=>!listed.getD k false)=0:=by omega
        have:=xp.1 h0 k (EV.2 hk)
        simpa using this
      refine⟨?_,hfin listed a w hI hall⟩
      apply e9.2
      intro j hj
      obtain⟨h1,o,h2,_⟩:=mem_ready.1 hj
      have hjn:j<n:=hlt h2
      rw[ED hI.1 hjn,hall j hjn]at h1
      cases h1
    | succ fuel ih=>
      intro listed a w hI hcnt
      refine⟨λhr=>hfin listed a w hI (hready_nil listed hI.1 hr),λi hi=>?_⟩
      have hin:i<n:=by
        obtain⟨_,o,h2,_⟩:=mem_ready.1 hi
        exact hlt h2
      have hnl:listed.getD i false=false:=by rw[<-ED hI.1 hin];exact(mem_ready.1 hi).1
      refine hstep listed a w hI i hi _ (λa' w' hI'=>ih _ a' w' hI' ?_)
      have hsz':i<listed.size:=by rw[hI.1];exact hin
      have:=Zp (p:=λk=>!(listed.setIfInBounds i true).getD k false) (q:=λk=>!listed.getD k false) (λk hk=>by
        simp only[Dv]at hk ⊢
        rw[I9 hsz']at hk
        simp only[CX]at hk
        exact hk.2) (i:=i) (by simp only[hnl];rfl) (by simp only[I9 hsz'];simp) (CW n) (EV.2 hin)
      omega
  refine wp_region_any hmix ?_
  rw[hnn]
  have hrepl:∀k,(Hc n false).getD k false=false:=λk=>by
    simp only[Ep,AY5]
    split<;>rfl
  refine hany n _ a0 _ ⟨by simp,?_,hd0,Rs,Bi,0,s.r,CA _,.inl rfl,?_,hx0,by rw[hst0.2.2.2];exact hn0,?_,?_,?_,?_,hnt0,?_,?_,?_⟩ ?_
  · intro i o hi;rw[hrepl]at hi;cases hi
  · intro j hj hW;rw[hrepl];simp
  · rw[hst0.2.2.2]
    refine⟨hm0.rel.drawn _,⟨λm i hm=>?_,λm m' i i' hm hm' hb=>?_,λm i hm=>?_⟩⟩
    · simp only[Bi]at hm
      split at hm
      · cases hm
      · exact hm0.priv.X m i hm
    · simp only[Bi]at hm hm'
      split at hm
      · cases hm
      · split at hm'
        · cases hm'
        · exact hm0.priv.inj m m' i i' hm hm' hb
    · simp only[Bi]at hm
      split at hm
      · cases hm
      · exact hm0.priv.apart m i hm
  · intro k m z h1 h2 h3;rw[hrepl]at h3;cases h3
  · intro m _;rw[hst0.2.2.1]
  · intro k m z h1 h2 _
    simp only[Bi]
    rw[if_pos (hpalm k m z h1 h2)]
  · intro i o t hi;rw[hrepl]at hi;cases hi
  · intro t v hv _;exact he0.X t v hv
  · intro t m off hv _
    obtain⟨i,h1,h2⟩:=hq0.X t m off hv
    refine⟨i,?_,h2⟩
    simp only[Bi]
    rw[if_neg (λhh=>Lz hpo m hh t off hv)]
    exact h1
  · refine BE (List.countP_le_length) (by simp)
end Go.Og
namespace Go.Og
variable {P:Program}{D:Ac}{C:Cx}
theorem HC{α}:∀{l k}{a:α},look l k=some a->(k,a)∈l
 | [],k,a,h=>by simp[look]at h
 | (m,b)::l,k,a,h=>by
  simp only[look,AW]at h;split at h
  ·rename_i n;subst n;cases h;exact AZ
  ·exact Az _ (HC h)
theorem QR{e}:∀y J b,gV e y J=some b->∃e',(∀t v,look e' t=some v->look e t=some v)/\J e'=some b
 | [],J,b,h=>⟨[],λt v p=>by simp[look]at p,h⟩ | (t,ty)::l,J,b,h=>by
  simp only[gV]at h;unfold Cg at h;simp only at h;cases o:look e t with
  | none=>rw[o]at h;cases h | some v=>
   rw[o]at h;have z:=He _ _ _ _ h;have ⟨e',s,q⟩:=QR l _ b z;refine⟨_,λu w k=>?_,q⟩;simp only[look,AW]at k;split at k
   ·rename_i x;subst x;cases k;exact o
   ·exact s u w k
theorem QQ{e}:∀q J b,XU e q J=some b->∃e',(∀t v,look e' t=some v->look e t=some v/\v.J=true)/\J e'=some b
 | [],J,b,h=>⟨[],λt v y=>by simp[look]at y,h⟩ | (t,ty)::l,J,b,h=>by
  simp only[XU,Bj]at h;cases m:look e t with
  | none=>rw[m]at h;cases h | some v=>
   rw[m]at h;have ⟨o,h⟩:=EK h;have z:=He _ _ _ _ h;have ⟨e',r,p⟩:=QQ l _ b z;refine⟨_,λu w j=>?_,p⟩;simp only[look,AW]at j;split at j
   ·rename_i s;subst s;cases j;exact⟨m,o⟩
   ·exact r u w j
theorem QO{r}:∀(x:List (Nat × List Cc)) J d,gT r x J=some d->∃n,(∀m l,look n m=some l->look r m=some l)/\(∀m,Br (x.map Prod.fst) m=true->∃l,look n m=some l)/\J n=some d
 | [],J,d,h=>⟨[],λt v B=>by simp[look]at B,λm F=>by simp[Br]at F,h⟩ | (m,z)::l,J,d,h=>by
  simp only[gT]at h;cases p:look r m with
  | none=>rw[p]at h;cases h | some y=>
   rw[p]at h;have E:=KB _ _ _ _ h;have ⟨n,A,C,D⟩:=QO l _ d E;refine⟨_,λu w i=>?_,λu i=>?_,D⟩
   ·simp only[look,AW]at i
    split at i
    ·rename_i j;subst j;cases i;exact p
    ·exact A u w i
   ·simp only[look,AW]
    by_cases j:m=u
    ·exact⟨y,by rw[if_pos j]⟩
    ·rw[if_neg j]
     exact C u (((Df m _ u).1 i).resolve_left j)
theorem Ja:∀n f q t (p:Nat × Nat),look (QP n f q) t=some p->look q t=some p/\Br f p.1=true
 | [],f,q,t,p,h=>by simp[QP,look]at h
 | a::l,f,q,t,p,h=>by
  simp only[QP]at h;split at h
  ·rename_i r o
   split at h
   ·rename_i k
    simp only[look,AW]at h;split at h
    ·rename_i m;subst m;cases h;exact⟨o,k⟩
    ·exact Ja l f q t p h
   ·exact Ja l f q t p h
  ·exact Ja l f q t p h
theorem QN{D G I O P}{F:List (Nat × List Cc)}{s J p}(h:KM O P F s J=some p){a w}(M:O9 C D G I s a w):
  ∃E,J E=some p/\O9 C D G I E a w:=by
 have ⟨e',A,h⟩:=QR _ _ _ h;have ⟨Z,x,r,h⟩:=QO _ _ _ h;have ⟨R,B,h1,W,q,Q,K,S,T⟩:=M;refine⟨_,h,R,λm=>if Br (F.map Prod.fst) m=true then B m else none,h1,W,⟨q.rel,⟨λm i e=>?_,λm m' i Y e g=>?_,λm i e=>?_⟩⟩,Q.sub A,⟨λt m off L=>?_⟩,S,T⟩
 ·split at e
  ·rename_i o
   have ⟨U,l,N,k⟩:=q.priv.X m i e;have ⟨l',n⟩:=r m o;have:=x m l' n;rw[N]at this;cases this;exact⟨U,l,n,k⟩
  ·cases e
 ·split at e
  ·split at g
   ·exact q.priv.inj m m' i Y e g
   ·cases g
  ·cases e
 ·split at e
  ·exact q.priv.apart m i e
  ·cases e
 ·have ⟨y,u⟩:=Ja _ _ _ _ _ L
  have ⟨i,z,v⟩:=K.X t m off y;refine⟨i,?_,v⟩;rw[if_pos u];exact z
theorem zl(hD:∀f,Cr P C.E C.G f (D f)){W}(hW:RT P C.E C.G W)(hmix:P.follows .mixedOrders=true)(N nt:Nat){nR:Nat}{R0:DN}{ab:V × H}:
  ∀(xc:XC) (c:Code),xc.i4=Ci P C.G nt c->xc.ok=true->∀(s:St) (U:St->AE) (O:Nat->St->AE) (M:St->AE),Au C.E D W N xc s U O M=some ab ->
   ∀(a:Act) (w:World) (Q:Exit->Act->World->Prop),O9 C nR R0 nt s a w->(∀I G w',U I=some ab->O9 C nR R0 nt I G w'->Q .normal G w') ->
    (∀id I G w',O id I=some ab->O9 C nR R0 nt I G w'->Q (.exit id) G w')->(∀I G w',M I=some ab->O9 C nR R0 nt I G w'->Q .ret G w')->c.wp P Q a w:=by
 intro xc;induction xc with
 | pu=>intro c _ _ s U O M h;cases h | Q ts ms rs xc ih=>
  intro c r F s U O M h a w Q K T Z X;rw[lz]at h;have ⟨s0,h,K⟩:=QN h K;exact ih c r F s0 U O M h a w Q K T Z X
 | skip=>
  intro c r F s U O M h a w Q K T Z X;cases c<;>simp only[XC.i4,Ci]at r<;>(try (cases r;done))
  ·exact wp_skip (T s a w h K)
  ·rename_i i o d;cases d<;>(first | (cases r;done) | (simp only[Ci]at r;split at r<;>cases r))
 | exit id=>
  intro c r F s U O M h a w Q K T Z X;cases c<;>simp only[XC.i4,Ci]at r<;>(try (cases r;done))
  ·rename_i i o d;cases d<;>(first | (cases r;done) | (simp only[Ci]at r;split at r<;>cases r))
  ·cases r;exact wp_exit (Z id s a w h K)
 | ret=>
  intro c r F s U O M h a w Q K T Z X;cases c<;>simp only[XC.i4,Ci]at r<;>(try (cases r;done))
  ·rename_i i o d;cases d<;>(first | (cases r;done) | (simp only[Ci]at r;split at r<;>cases r))
  ·exact wp_ret (X s a w h K)
 | Y l=>
  intro c r F s U O M h a w Q K T Z X;cases c<;>simp only[XC.i4,Ci]at r<;>(try (cases r;done));rename_i i o d
  cases d
  case true=>simp only[Ci]at r;split at r<;>cases r
  simp only[Ci,AC.region.injEq]at r
  rw[qj]at h
  have ⟨I,hrun,hκ,_⟩:=ID l none none none true 0 s _ ab h F (.inl ⟨rfl,rfl⟩) (λh=>by cases h)
  refine wp_region_list (yb hD hrun o.toList a w ?_ K (λG w' E=>T _ G w' hκ E))
  have ⟨h1,h2⟩:=HH l none
  rw[List.map_fst_zip (by omega),r]
 | us l ancs=>
  intro c r F s U O M h a w Q K T Z X
  cases c<;>simp only[XC.i4,Ci]at r<;>(try (cases r;done))
  rename_i i o d
  cases d<;>simp only[Ci]at r<;>(try (cases r;done))
  split at r
  case isFalse=>cases r
  rename_i aa
  simp only[AC.us.injEq]at r
  rw[mA]at h
  unfold qd at h
  split at h
  ·rename_i hpo
   simp only[XC.ok,AQ,AW,Dv]at F
   have ⟨⟨⟨⟨k1,k2⟩,k3⟩,k4⟩,k5⟩:=F
   exact zi hD hmix i r.1 r.2 aa k1 k2 k3 k4 k5 hpo h K Q (λI G w' hκ E=>T I G w' hκ E)
  ·cases h
 | wl ops pl ts=>
  intro c r F s U O M h a w Q K T Z X
  cases c<;>simp only[XC.i4,Ci]at r<;>(try (cases r;done))
  rename_i i o d
  cases d<;>simp only[Ci]at r<;>(try (cases r;done))
  split at r
  case isFalse=>cases r
  rename_i aa
  simp only[AC.us.injEq]at r
  obtain⟨rfl,rfl⟩:=r
  rw[Zk]at h
  cases h1:W (o.toList.map (BN P C.G nt o)) (Gn o) s.e s.U with
  | none=>rw[h1]at h;cases h
  | some q=>
   obtain⟨e1,U1⟩:=q
   rw[h1]at h
   obtain⟨e',he',h⟩:=QQ _ _ _ h
   obtain⟨R,B,g1,g2,g3,g4,g5,g6,g7⟩:=K
   refine hW C rfl rfl nt i o s.e s.U e1 U1 aa h1 R a w Q g3.rel g4.env g6 g7 (λR' G w' hx' hn' hrel' he1 hsz hd=>?_)
   refine T _ G w' h ⟨R',λ_=>none,g1.trans hx' g2,BE g2 hn',⟨hrel',⟨λm i hm=>(by cases hm),λm m' i i' hm=>(by cases hm),λm i hm=>(by cases hm)⟩⟩,⟨λt v hv=>?_⟩,⟨λt m off hq=>(by simp[look]at hq)⟩,hsz,hd⟩
   obtain⟨h2,h3⟩:=he' t v hv
   rcases he1.X t v h2 with rfl|h4
   ·cases h3
   ·exact h4
 | seq p q ihp ihq=>
  intro c r F s U O M h a w Q K T Z X
  cases c<;>simp only[XC.i4,Ci]at r<;>(try (cases r;done))
  ·rename_i i o d;cases d<;>(first | (cases r;done) | (simp only[Ci]at r;split at r<;>cases r))
  rename_i c1 c2
  simp only[AC.seq.injEq]at r
  simp only[XC.ok,AQ]at F
  rw[qh]at h
  refine wp_seq (ihp c1 r.1 F.1 s _ O M h a w _ K (λI G w' S E=>?_) (λid I G w' S E=>Z id I G w' S E) (λI G w' S E=>X I G w' S E))
  exact ihq c2 r.2 F.2 I U O M S G w' Q E T Z X
 | cond o p q ihp ihq=>
  intro c r F s U O M h a w Q K T Z X
  cases c<;>simp only[XC.i4,Ci]at r<;>(try (cases r;done))
  ·rename_i i o d;cases d<;>(first | (cases r;done) | (simp only[Ci]at r;split at r<;>cases r))
  rename_i co c1 c2
  simp only[AC.cond.injEq]at r
  obtain⟨rfl,h1,h2⟩:=r
  simp only[XC.ok,AQ]at F
  rw[mB]at h
  obtain⟨v,hv,_,h⟩:=Ah h
  obtain⟨cb,rfl,h9⟩:=GF h
  have hI2:=K
  obtain⟨R,B,g1,g2,g3,g4,g5,g6,g7⟩:=hI2
  have hev:=LG g4.env g3.rel.globOk hv
  cases cb with
  | true=>exact wp_cond_true hev (ihp c1 h1 F.1 s U O M h9 a w Q K T Z X)
  | false=>exact wp_cond_false hev (ihq c2 h2 F.2 s U O M h9 a w Q K T Z X)
 | block id p ih=>
  intro c r F s U O M h a w Q K T Z X
  cases c<;>simp only[XC.i4,Ci]at r<;>(try (cases r;done))
  ·rename_i i o d;cases d<;>(first | (cases r;done) | (simp only[Ci]at r;split at r<;>cases r))
  rename_i i c1
  simp only[AC.block.injEq]at r
  obtain⟨rfl,r⟩:=r
  rw[Zl]at h
  refine wp_block (ih c1 r F s U _ M h a w _ K (λI G w' S E=>T I G w' S E) (λj I G w' S E=>?_) (λI G w' S E=>X I G w' S E))
  show Exit.inBlock id Q (.exit j) G w'
  simp only[Exit.inBlock]
  unfold BR at S
  split at S
  ·rename_i hj
   rw[AW]at hj
   rw[if_pos hj];exact T I G w' S E
  ·rename_i hj
   rw[if_neg (λhh=>by rw[<-AW,hj]at hh;cases hh)];exact Z j I G w' S E
 | loop ts ms rs p ih=>
  intro c r F s U O M h a w Q K T Z X
  cases c<;>simp only[XC.i4,Ci]at r<;>(try (cases r;done))
  ·rename_i i o d;cases d<;>(first | (cases r;done) | (simp only[Ci]at r;split at r<;>cases r))
  rename_i c1
  simp only[AC.loop.injEq]at r
  rw[lu]at h
  obtain⟨s0,h,K⟩:=QN h K
  have key:∀(n:Nat) (s:St) (a:Act) (w:World),BM (λrec I=>Au C.E D W N p I (λs''=>KM ts ms rs s'' rec) O M) n s=some ab->O9 C nR R0 nt s a w->Code.rounds P c1 Q n a w:=by
   intro n
   induction n with
   | zero=>intro s a w h;cases h
   | succ n ihn=>
    intro s a w h K
    have h:Au C.E D W N p s (λs''=>KM ts ms rs s'' (BM (λrec I=>Au C.E D W N p I (λs''=>KM ts ms rs s'' rec) O M) n)) O M=some ab:=h
    rw[rounds_succ]
    refine ih c1 r F s _ O M h a w _ K (λI G w' S E=>?_) (λid I G w' S E=>Z id I G w' S E) (λI G w' S E=>X I G w' S E)
    obtain⟨s2,h2,hI2⟩:=QN S E
    exact ihn s2 G w' h2 hI2
  exact wp_loop_rounds N (key N s0 a w h K)
theorem X2{α β x}{g:α->World->Result β}{z w}(h:Result.andThen x g = .ok z w):∃y b,x = .ok y b/\g y b = .ok z w:=by
 cases x with
 | ok y b=>exact⟨y,b,rfl,h⟩ | _=>cases h
theorem fZ {R B} {s:St} {w} {a:Act} (K:Va C R B s.r s.U w) (he:Hl R s.e a.tmps) (hq:VZ B s.q a.tmps):∀(W:List ResultVar) as J u,Gw P W=some as->Dc C.E s as J=some u ->
  ∃l xs,J l=some u/\BF R l=some xs/\(W.mapM (m:=Sem) fun
   | .tmp t=>pure (a.tmps.getD t undef) | .cell b t=>do loadVar t (<-asAddr (a.tmps.getD b undef))).run P w = .ok xs w
 | [],as,J,u,E,h=>by
  simp only[Gw,AY.injEq]at E;subst E;exact⟨[],[],h,rfl,rfl⟩
 | r::W,as,J,u,E,h=>by
  simp only[Gw]at E;cases z:Qb P r with
  | none=>rw[z]at E;cases E | some ar=>
   cases S:Gw P W with
   | none=>rw[z,S]at E;cases E | some ab=>
    rw[z,S]at E;simp at E;subst E;have F:∀(C2:Cx) R2 U2 T v,EN C2 R2 U2 w->CK R2 T a.tmps->Lx C2.E T U2 [ar]=some [v]->Le R R2->(∃x,Av R v=some x)->Dc C.E s ab (λl=>J (v::l))=some u ->
      ∃l xs,J l=some u/\BF R l=some xs/\((r::W).mapM (m:=Sem) fun
       | .tmp t=>pure (a.tmps.getD t undef) | .cell b t=>do loadVar t (<-asAddr (a.tmps.getD b undef))).run P w = .ok xs w:=by
     intro C2 R2 U2 T v h1 h2 h3 N ⟨x,U⟩ h4;have ⟨xs,h5,h6⟩:=PD (P:=P) h1 h2 [r] [ar] [v] (by simp only[Gw,z]) h3;obtain⟨y,ys,h7,h8,rfl⟩:=Bl.1 h5;simp only[BF,AY.injEq]at h8;subst h8;have:=DA N v x U;rw[h7]at this;cases this;have ⟨l,xs,g1,g2,g3⟩:=fZ K he hq W ab _ u S h4;refine⟨v::l,_,g1,Bl.2 ⟨_,_,U,g2,rfl⟩,?_⟩;rw[Wa]at h6 ⊢;rw[Sem.run_bind]at h6 ⊢;have ⟨y2,w2,e1,T⟩:=X2 h6;simp only[Sem.run_bind,List.mapM_nil,Sem.run_pure,Result.andThen_ok,Result.ok.injEq,List.cons.injEq,and_true]at T;have ⟨rfl,rfl⟩:=T;refine(congrArg (λr=>Result.andThen r _) e1).trans ?_;simp only[Result.andThen_ok,Sem.run_bind,g3,Sem.run_pure]
    cases r with
    | tmp t=>
     simp only[Qb,AY.injEq]at z;subst z;simp only[Dc]at h;unfold Cg at h;simp only at h;cases M:look s.e t with
     | none=>rw[M]at h;cases h | some v=>
      rw[M]at h;have ⟨x,hx1,ae⟩:=he.X t v M;have hge:Gu s.e t=v:=by simp only[Gu,M]
      refine F C R s.U s.e v K.rel he.env ?_ (Le.refl _) ⟨x,ae⟩ h;simp only[Lx,hge,Mo ae]
    | cell t ty=>
     simp only[Qb]at z;cases hs:G2 P ty with
     | none=>rw[hs]at z;cases z | some n=>
      rw[hs]at z;simp only[AY.injEq]at z;subst z;simp only[Dc]at h;split at h
      ·rename_i m off hqt
       have ⟨i,hi1,hi2⟩:=hq.X t m off hqt;split at h
       ·rename_i cs ac
        have Y:=K.priv.S K.rel hi1 ac;have ad:CK (I1 R s.U.j i) [(t,.o s.U.j off)] a.tmps:=CK.cons ⟨λk v hk=>by simp[look]at hk⟩ hi2 (Di (CZ _ _ _));have N:=(FX R s.U.j i).le K.rel.kw;have ⟨_,l',aa,hok⟩:=K.priv.X m i hi1;rw[ac]at aa;cases aa;have ⟨af,el,lo,hi,_,hh,_⟩:=hok;have I:Gu [(t,V.o s.U.j off)] t = .o s.U.j off:=by simp[Gu,look]
        have X:rd C.E ⟨s.U.j+1,[(s.U.j,.cells cs)]⟩ s.U.j=some cs:=by simp[rd,look]
        split at h
        ·have ⟨v,Z,h⟩:=Gp h
         have ⟨x,U,_⟩:=hh off v Z;refine F _ _ _ _ v Y ad ?_ N ⟨x,U⟩ h;simp only[Lx,I,X,Z]
        ·rename_i n
         obtain⟨hb,h⟩:=Gk h;obtain⟨xs,O,_⟩:=hh.cells (by simpa using hb);refine F _ _ _ _ _ Y ad ?_ N ⟨_,EE O⟩ h;simp only[Lx,I,P0,X,hb,if_true]
       ·cases h
      ·obtain⟨p,hp,_,h⟩:=Ah h
       obtain⟨b,o,rfl,A⟩:=Ef h;have I:Gu s.e t = .o b o:=hp;cases n with
       | none=>
        simp only at A;obtain⟨l,M,A⟩:=KC A;obtain⟨v,Z,A⟩:=Gp A;obtain⟨i,af,el,fr,_,_,D⟩:=K.rel.read M;obtain⟨x,U,_⟩:=D o v Z;refine F C R s.U s.e v K.rel he.env ?_ (Le.refl _) ⟨x,U⟩ A;simp only[Lx,I,M,Z]
       | some n=>
        simp only at A;obtain⟨l,M,A⟩:=KC A;obtain⟨hb,A⟩:=Gk A;obtain⟨i,af,el,fr,_,_,D⟩:=K.rel.read M;obtain⟨xs,O,_⟩:=D.cells (by simpa using hb);refine F C R s.U s.e _ K.rel he.env ?_ (Le.refl _) ⟨_,EE O⟩ A;simp only[Lx,I,P0,M,hb,if_true]
theorem yc{E G}(hD:∀f,Cr P E G f (D f)){W}(hW:RT P E G W)(Y:P.follows .mixedOrders=true)(N:Nat){f:FuncId}{o:Func}(hf:P.funcs[f]? = some o)
  {xf:DD}{ad:nN} (p:M2 P G o=some ad) (hs:xf.i4=ad) (aa:xf.body.ok=true) (hok:Jp P f=true):Cr P E G f (BZ E D W N xf):=by
 intro C hE hG R U w args xs v U' h hrel hxs;subst hE hG;refine⟨hok,?_⟩;unfold M2 at p;cases hb:o.body with
 | none=>rw[hb]at p;cases p | some c=>
  cases hr:Gw P o.results.toList with
  | none=>rw[hb,hr]at p;cases p | some rs=>
   rw[hb,hr]at p;simp at p;rw[<-hs]at p;have ⟨nt,params,resl,ac⟩:=xf;simp only[DD.i4,nN.mk.injEq]at p;have ⟨rfl,rfl,_,S⟩:=p;unfold BZ at h;have h:=KB _ _ _ _ h;refine calls_of_wp hf hb ?_;have hsz:o.ntmps<=(xs.toArray++Hc (o.ntmps-xs.toArray.size) undef).size:=by simp;omega
   have harg:∀(l:List V) (J:List Value) (k:Nat),BF R l=some J->∀(t:Nat) (v:V),look (O8 k l) t=some v->∃y,k<=t/\J[t-k]? = some y/\Av R v=some y:=by
    intro l;induction l with
    | nil=>intro J k _ t v h;simp[O8,look]at h | cons u l ih=>
     intro J k p t v h;obtain⟨y,zs,hy,hz,rfl⟩:=Bl.1 p;simp only[O8,look]at h;by_cases hk:k=t
     ·subst hk
      rw[if_pos (by simp)]at h;cases h;exact⟨y,AL _,by simp,hy⟩
     ·rw[if_neg (by simpa using hk)]at h
      have ⟨q,h1,A,M⟩:=ih zs (k+1) hz t v h;exact⟨q,by omega,by rw[show t-k=(t-(k+1))+1 by omega,Bh];exact A,M⟩
   have he0:Hl R (O8 0 args) (xs.toArray++Hc (o.ntmps-xs.toArray.size) undef):=by
    refine⟨λk u hk=>?_⟩;obtain⟨y,_,A,M⟩:=harg args xs 0 hxs k u hk;refine⟨y,?_,M⟩;rw[NH]at A;have hlt:k<xs.length:=by
     rcases A2 k xs.length with h|h
     ·exact h
     ·rw[A4 h]at A;cases A
    rw[MX (by simpa using hlt)];simpa using A
   have ab:∀(I:St) (B:Act) (w':World),(Dc C.E I rs λl=>some (Dq l,I.U))=some (v,U')->O9 C U.j R o.ntmps I B w' ->
     B.defers=[]/\∃x,(results o B.tmps).run P w' = .ok x w'/\∃R' x',HU U.j R R'/\U.j<=U'.j/\EN C R' U' w'/\Av R' v=some x'/\Ending.returned x = .returned x':=by
    intro I B w' O ⟨R1,B1,k1,k2,k3,k4,k5,k6,k7⟩;obtain⟨l,J,g1,g2,g3⟩:=fZ k3 k4 k5 o.results.toList rs _ _ hr O;simp at g1;obtain⟨rfl,rfl⟩:=g1;have X:(results o B.tmps).run P w' = .ok (if h:J.toArray.size=1 then J.toArray[0] else .tuple J.toArray) w':=by
     unfold results;refine(Sem.run_bind P w' _ _).trans ?_;rw[NK,Sem.run_map];refine(congrArg (λr=>Result.andThen (Result.andThen r _) _) g3).trans rfl
    exact⟨k7,_,X,R1,_,k1,k2,k3.rel,gF g2,rfl⟩
   refine zl hD hW Y N o.ntmps ac c S.symm aa _ _ _ _ h _ w _ ⟨R,λ_=>none,HU.refl _ _,AL _,⟨hrel,⟨λm i hm=>(by cases hm),λm m' i i' hm=>(by cases hm),λm i hm=>(by cases hm)⟩⟩,he0,⟨λt m off hq=>(by simp[look]at hq)⟩,hsz,rfl⟩ ?_ ?_ ?_
   ·intro I B w' O L
    obtain⟨h1,x,A,M⟩:=ab I B w' O L;exact⟨h1,x,A,M⟩
   ·intro id I B w' O _;cases O
   ·intro I B w' O L
    obtain⟨h1,x,A,M⟩:=ab I B w' O L;exact⟨h1,x,A,M⟩
end Go.Og
namespace Go.Og
def okB(a:AE):Bool:=match a with
 | some (.bool true,_)=>true
 | _=>false
theorem pk{a}(h:okB a=true):∃U,a=some (.bool true,U):=by
 unfold okB at h;split at h
 ·exact⟨_,rfl⟩
 ·cases h
def Qi(a:Nat)(l:List (Nat × BI)):DN:=λid=>if id<a then some ⟨id,0,0⟩else look l id
theorem JS.lt{R}{i:BI}{b}{w:World}(h:JS R i b w):i.i2<w.heap.size:=by
 cases b with
 | cells l=>
  have ⟨e,f,g,h1,_⟩:=h;exact(AJF.1 h1).1
 | _=>exact h.elim
theorem ZD{G e n0}(x:∀g,G g=true->g<e)(K:e<=n0) l (E:EB)(w:World)(y:∀id i,look l id=some i->id<n0)
  (u:∀id b,look E id=some b->∃i,Qi e l id=some i/\JS (Qi e l) i b w) :
  EN ⟨λk=>w.heap.size<=k,w,E,G⟩ (Qi e l) ⟨n0,[]⟩ w where
 kw id m:=by
  have q:n0<=id:=m;unfold Qi;rw[if_neg (by omega)];cases D:look l id with
  | none=>rfl | some i=>have:=y id i D;omega
 own id b d:=by simp[look]at d
 inj id z b L i J d:=by simp[look]at d
 ext id b d:=by
  have ⟨i,h1,t⟩:=u id b d;exact⟨i,h1,Nat.not_le.2 t.lt,t⟩
 glob g F:=⟨⟨g,0,0⟩,by unfold Qi;rw[if_pos (x g F)],rfl,rfl⟩;Z _ _:=rfl;size:=AL _;new _ h:=h;os:=rfl;tape:=rfl;output:=rfl
set_option linter.unusedVariables false
noncomputable section
section
variable {R S:DN}{n0 d:Nat}
theorem KK{α}:∀(l m:List (Nat × α)) id,look (l++m) id=match look l id with | some b=>some b | none=>look m id
 | [],m,id=>rfl | (k,b)::l,m,id=>by
  simp only[D9,look];cases Ar k id with
  | true=>rfl | false=>simpa using KK l m id
end
def gC:List (V × V)->List (V × V)->Bool
 | [],[]=>true
 | p::l,q::m=>V.beq p.1 q.1&&V.beq p.2 q.2&&gC l m
 | _,_=>false
theorem XE:∀{l m},gC l m=true->l=m
 | [],[],_=>rfl | (a,b)::l,(c,d)::m,h=>by
  simp only[gC,AQ]at h;rw[Nd _ _ h.1.1,Nd _ _ h.1.2,XE h.2]
 | [],_::_,h=>by cases h
 | _::_,[],h=>by cases h
def rG:G5->G5->Bool
 | .cells a,.cells b=>O6 a b
 | .map a,.map b=>gC a b
 | _,_=>false
theorem rF{a b}(h:rG a b=true):a=b:=by
 cases a<;>cases b<;>simp only[rG,FV]at h
 ·rw[LI _ _ h]
 ·rw[XE h]
def lQ:EB->EB->Bool
 | [],_=>true
 | p::l,m=>(match BX m p.1 with
  | some b=>rG b p.2
  | none=>false)&&lQ l m
theorem PG:∀{l m},lQ l m=true->∀p∈l,look m p.1=some p.2
 | [],_,_,p,c=>by cases c
 | q::l,m,h,p,c=>by
  simp only[lQ,AQ,BG]at h;rcases A0.1 c with rfl|c
  ·have h1:=h.1
   cases j:look m p.1 with
   | none=>rw[j]at h1;cases h1 | some b=>rw[j]at h1;rw[rF h1]
  ·exact PG h.2 p c
theorem Xs{P:Program}{w r base t k v}(f:P.underlying t=some (.int k))(h:Cell.okWide P w r base t v):∃n,v = .int k n:=by
 unfold Cell.okWide at h;unfold Cell.ok at h;rw[f]at h;cases v<;>simp at h;have ⟨rfl,_⟩:=h;exact⟨_,rfl⟩
theorem Zs{P:Program}{w r base t e v}(n:P.underlying t=some (.slice e))(h:Cell.okWide P w r base t v):
  v = .slice none 0 0\/∃k off len cap,v = .slice (some ⟨k,off,none⟩) len cap:=by
 unfold Cell.okWide at h;unfold Cell.ok at h;rw[n]at h;cases v<;>simp at h;rename_i a len cap;cases a with
 | none=>
  cases len<;>cases cap<;>first | exact .inl rfl | simp at h
 | some a=>
  have ⟨b,o,s⟩:=a;have ⟨_,_,_,p,_⟩:=h;subst p;exact .inr ⟨_,_,_,_,rfl⟩
end
end Go.Og
set_option linter.all false
namespace Go.Og
def XL.aA(b:Nat)(a d:Nat)(c:Cc)(r:XL):XL := .f b a d<|.l (b+1) c b<|r
def XL.aB(b:Nat)(a c:Nat)(r:XL):XL := .m b a<|.m (b+1) c<|r
def XL.aC(b:Nat)(a d c:Nat):XL := .b b .add .none (.t a) (.i d)<|.m c b<|.nil
def XL.aD(b:Nat)(a d c:Nat):XL := .b b .eql .none (.t a) (.i d)<|.m c b<|.nil
def XL.aE(b:Nat)(a c:Nat):XL := .b b .lss .none (.t a) (.t c)<|.nil
def XL.aF(b:Nat)(f g a e d c:Nat)(r:XL):XL := .p b [f,g] (.C a (.t e))<|.p (b+1) [b,d] (.load none (.t b))<|.p (b+2) [(b+1),c] (.len false (.t (b+1)))<|r
def XL.aG(b:Nat)(a:Nat):XL := .m b a<|.nil
def XL.aH(b:Nat)(a d c f e:Nat)(r:XL):XL := .p b [a,d] (.C c (.t f))<|.op (some (b+1)) .i [b,e] (.load none (.t b))<|r
def XL.aI(b:Nat)(a:Nat)(r:XL):XL := .m b a<|.n (b+1) b<|r
def XL.aJ(b:Nat)(a d c e:Nat)(r:XL):XL := .f b a d<|.op none .any [b] (.store c (.t b) (.i e))<|r
def XL.aK(b:Nat)(a d c:Nat)(r:XL):XL := .aA b a d .i<|.b (b+2) .eql .none (.t (b+1)) (.i c)<|r
def XL.aL(b:Nat)(a:Nat):XL := .q b a<|.nil
def XL.aM(b:Nat)(a d c e:Nat)(r:XL):XL := .P b (.extract a (.t d))<|.P (b+1) (.extract c (.t e))<|r
def XL.aN(b:Nat)(a d c:Nat)(f:Cc)(e:Nat)(r:XL):XL := .s b a d c<|.O (b+1) f (.load (some e) (.t b))<|r
def XL.aO(b:Nat)(a:Nat)(d:Cc)(c e:Nat)(r:XL):XL := .P b (.i7 (.jp .u64) (.t a))<|.k (b+1) d c [(.t b)]<|.b (b+2) .add .none (.t e) (.t (b+1))<|r
def XL.aP(b:Nat)(a c:Nat)(r:XL):XL := .aA b a c .any<|.u (b+2) (b+1)<|r
def XL.aQ(b:Nat)(j k l:Nat)(h:V)(f e g:Nat)(m:Cc)(i d c a:Nat)(r:XL):XL := .p b [j] (.buildSlice k l [h] [(f,e,(.t g))])<|.O (b+1) m (.append i d c (.t a) (.t b))<|r
def XL.aR(b:Nat)(a e d h g c f:Nat)(r:XL):XL := .p b [a,e] (.L (.t d))<|.p (b+1) [h,b,g] (.qr c (.t f) (.t b))<|r
def XL.aS(b:Nat):XL := .c b V.h<|.nil
def XL.aT(b:Nat)(a d c e:Nat):XL := .p b [a,d] (.pp .eql .none (.t c) (.i e))<|.nil
def XL.aU(b:Nat)(a c:Nat)(r:XL):XL := .m b a<|.b (b+1) .lss .none (.t b) (.i c)<|r
def XL.aV(b:Nat)(a:Nat)(d:Cc)(c f e:Nat)(r:XL):XL := .m b a<|.k (b+1) d c [(.t b),(.T (V.N ⟨f,e⟩))]<|r
def XL.aW(b:Nat)(a d c:Nat)(r:XL):XL := .aA b a d .i<|.b (b+2) .neq .none (.t (b+1)) (.i c)<|r
def XL.aX(b:Nat)(a:V):XL := .c b a<|.nil
def XL.aY(b:Nat)(a:Nat)(d:Cc)(c e:Nat)(r:XL):XL := .m b a<|.O (b+1) d (.load (some c) (.t e))<|r
def XL.aZ(b:Nat)(a d c e:Nat)(r:XL):XL := .b b .add .none (.t a) (.T (V.N ⟨d,c⟩))<|.m (b+1) e<|r
def XL.bA(b:Nat)(a:Nat)(d:Cc)(c f e:Nat):XL := .P b (.i7 (.jp .u64) (.t a))<|.k (b+1) d c [(.t f),(.t b),(.i e)]<|.nil
def XL.bB(b:Nat)(a:Nat)(d:Cc)(c f e:Nat):XL := .m b a<|.k (b+1) d c [(.t b),(.T (V.N ⟨f,e⟩))]<|.nil
def XL.bC(b:Nat)(a d c e:Nat):XL := .f b a d<|.w c b e<|.nil
def XL.bD(b:Nat)(a:Cc)(d c f e:Nat):XL := .k b a d [(.t c),(.t f),(.t e)]<|.nil
def XL.bE(b:Nat)(a:Cc)(d c e:Nat):XL := .k b a d [(.t c),(.t e)]<|.nil
def XL.bF(b:Nat)(a d c:Nat)(r:XL):XL := .aA b a d .any<|.m (b+2) c<|r
def XL.bG(b:Nat)(a d:Nat)(c:Cc)(e:Nat)(r:XL):XL := .aB b a d<|.k (b+2) c e [(.t b),(.t (b+1))]<|r
def XL.bH(b:Nat)(a d c f e:Nat)(r:XL):XL := .p b [a,d] (.C c (.t f))<|.op (some (b+1)) .bool [b,e] (.load none (.t b))<|r
def XL.bI(b:Nat)(g:Cc)(h a:Nat)(f:Cc)(d c e:Nat)(r:XL):XL := .O b g (.load (some h) (.t a))<|.op none f [d,b] (.store c (.t e) (.t b))<|r
def XL.bJ(b:Nat)(a d c e:Nat):XL := .p b [a,d] (.pp .gtr .none (.t c) (.i e))<|.nil
def XL.bK(b:Nat)(a:Nat):XL := .P b (.un .not (.t a))<|.nil
def XL.bL(b:Nat)(a d c:Nat)(e:Cc)(r:XL):XL := .aB b a d<|.s (b+2) c b (b+1)<|.l (b+3) e (b+2)<|r
def XL.bM(b:Nat)(a c:Nat):XL := .b b .gtr .none (.t a) (.i c)<|.nil
def XL.bN(b:Nat)(a d:Nat)(c:Ek)(e:Nat)(r:XL):XL := .p b [a,d] c<|.p (b+1) [b,e] (.rg (.t b))<|r
def XL.bO(b:Nat)(a d c f e:Nat):XL := .p b [a,d,c] (.pp .geq .none (.t f) (.t e))<|.nil
def XL.bP(b:Nat)(h i:Nat)(j:Ek)(g e d f a c:Nat)(r:XL):XL := .p b [h,i] j<|.p (b+1) [b,g] (.pp .add .none (.t b) (.i e))<|.op (some (b+2)) (.int .u8) [d,(b+1),f] (.call a [(.t c),(.t (b+1))])<|r
def XL.bQ(b:Nat)(a e:Nat)(d:Ek)(g f c:Nat)(r:XL):XL := .p b [a,e] d<|.p (b+1) [g,b,f] (.idxStr (.t c) (.t b))<|r
def XL.bR(b:Nat)(a c:Nat)(r:XL):XL := .aB b a c<|.P (b+2) (.idxStr (.t b) (.t (b+1)))<|r
def XL.bS(b:Nat)(a d c:Nat)(r:XL):XL := .aB b a d<|.m (b+2) c<|r
def XL.bT(b:Nat)(a c:Nat)(r:XL):XL := .aI b a<|.aA (b+2) c (b+1) .any<|r
def XL.bU(b:Nat)(a:Nat):XL := .m b a<|.b (b+1) .eql .o (.t b) (.T V.nilp)<|.nil
def XL.bV(b:Nat):XL := .m b (b+2)<|.nil
def XL.bW(b:Nat)(a d:Nat)(c:Ek)(e:Nat)(r:XL):XL := .p b [a,d] c<|.op (some (b+1)) .i [b,e] (.load none (.t b))<|r
def XL.bX(b:Nat)(a c:Nat):XL := .m b a<|.b (b+1) .neq .none (.t b) (.i c)<|.nil
def XL.bY(b:Nat)(a d c f e:Nat)(r:XL):XL := .p b [a,d] (.pp .eql .none (.t c) (.i f))<|.p (b+1) [b,e] (.L (.t b))<|r
def XL.bZ(b:Nat)(a:Nat)(r:XL):XL := .m b a<|.u (b+1) b<|r
def XL.cA(b:Nat)(a d c f:Nat)(e:Cc)(r:XL):XL := .bS b a d c<|.s (b+3) f (b+1) (b+2)<|.l (b+4) e (b+3)<|r
def XL.cB(b:Nat)(a c:Nat)(r:XL):XL := .m b a<|.b (b+1) .sub .none (.t b) (.i c)<|r
def XL.cC(b:Nat)(a e:Nat)(d:Cc)(g f c:Nat):XL := .f b a e<|.op none d [b,g] (.store f (.t b) (.t c))<|.nil
def XL.cD(b:Nat):XL := .c b (V.bool true)<|.nil
def XL.cE(b:Nat)(a c:Nat)(r:XL):XL := .aI b a<|.f (b+2) c (b+1)<|r
def XL.cF(b:Nat)(a d c f e:Nat)(r:XL):XL := .p b [a,d] (.C c (.t f))<|.p (b+1) [b,e] (.load none (.t b))<|r
def XL.cG(b:Nat)(a:Nat)(d:Cc)(c:Nat)(r:XL):XL := .m b a<|.k (b+1) d c [(.t b)]<|r
def XL.cH(b:Nat)(a d c:Nat)(r:XL):XL := .m b a<|.p (b+1) [b] (.min (.t b) [(.i d)])<|.p (b+2) [(b+1)] (.max (.i c) [(.t (b+1))])<|r
def XL.cI(b:Nat)(a c:Nat):XL := .b b .eql .none (.t a) (.i c)<|.nil
def XL.cJ(b:Nat)(a c:Nat)(r:XL):XL := .aB b a c<|.P (b+2) (.len true (.t (b+1)))<|r
noncomputable section
section
variable {A B C H I AdZ K L O P Q R AdY V α β γ δ ε ζ η θ ι:Type}{F:(St->AE)->St->AE}
theorem lp3{S:A->B->C->St}{T:(A->B->C->AE)->A->B->C->AE}(X:∀Y,(λa b c=>F Y (S a b c))=T λa b c=>Y (S a b c)) M:(λa b c=>BM F M (S a b c))=Nat.rec (λ_ _ _=>none) (λ_ Z=>T Z) M:=by
 induction M with
 | zero=>rfl | succ M Z=>exact(X (BM F M)).trans (congrArg T Z)
theorem xi{S:A->B->C->H->St}{T:(A->B->C->H->AE)->A->B->C->H->AE}(X:∀Y,(λa b c d=>F Y (S a b c d))=T λa b c d=>Y (S a b c d)) M:(λa b c d=>BM F M (S a b c d))=Nat.rec (λ_ _ _ _=>none) (λ_ Z=>T Z) M:=by
 induction M with
 | zero=>rfl | succ M Z=>exact(X (BM F M)).trans (congrArg T Z)
theorem O4{S:A->B->C->H->I->St}{T:(A->B->C->H->I->AE)->A->B->C->H->I->AE}(X:∀Y,(λa b c d e=>F Y (S a b c d e))=T λa b c d e=>Y (S a b c d e)) M:(λa b c d e=>BM F M (S a b c d e))=Nat.rec (λ_ _ _ _ _=>none) (λ_ Z=>T Z) M:=by
 induction M with
 | zero=>rfl | succ M Z=>exact(X (BM F M)).trans (congrArg T Z)
theorem lp6{S:A->B->C->H->I->AdZ->St}{T:(A->B->C->H->I->AdZ->AE)->A->B->C->H->I->AdZ->AE}(X:∀Y,(λa b c d e f=>F Y (S a b c d e f))=T λa b c d e f=>Y (S a b c d e f)) M:(λa b c d e f=>BM F M (S a b c d e f))=Nat.rec (λ_ _ _ _ _ _=>none) (λ_ Z=>T Z) M:=by
 induction M with
 | zero=>rfl | succ M Z=>exact(X (BM F M)).trans (congrArg T Z)
theorem zH{S:A->B->C->H->I->AdZ->K->St}{T:(A->B->C->H->I->AdZ->K->AE)->A->B->C->H->I->AdZ->K->AE}(X:∀Y,(λa b c d e f g=>F Y (S a b c d e f g))=T λa b c d e f g=>Y (S a b c d e f g)) M:(λa b c d e f g=>BM F M (S a b c d e f g))=Nat.rec (λ_ _ _ _ _ _ _=>none) (λ_ Z=>T Z) M:=by
 induction M with
 | zero=>rfl | succ M Z=>exact(X (BM F M)).trans (congrArg T Z)
theorem lp8{S:A->B->C->H->I->AdZ->K->L->St}{T:(A->B->C->H->I->AdZ->K->L->AE)->A->B->C->H->I->AdZ->K->L->AE}(X:∀Y,(λa b c d e f g h=>F Y (S a b c d e f g h))=T λa b c d e f g h=>Y (S a b c d e f g h)) M:(λa b c d e f g h=>BM F M (S a b c d e f g h))=Nat.rec (λ_ _ _ _ _ _ _ _=>none) (λ_ Z=>T Z) M:=by
 induction M with
 | zero=>rfl | succ M Z=>exact(X (BM F M)).trans (congrArg T Z)
theorem lp9{S:A->B->C->H->I->AdZ->K->L->O->St}{T:(A->B->C->H->I->AdZ->K->L->O->AE)->A->B->C->H->I->AdZ->K->L->O->AE}(X:∀Y,(λa b c d e f g h i=>F Y (S a b c d e f g h i))=T λa b c d e f g h i=>Y (S a b c d e f g h i)) M:(λa b c d e f g h i=>BM F M (S a b c d e f g h i))=Nat.rec (λ_ _ _ _ _ _ _ _ _=>none) (λ_ Z=>T Z) M:=by
 induction M with
 | zero=>rfl | succ M Z=>exact(X (BM F M)).trans (congrArg T Z)
theorem AE2{S:A->B->C->H->I->AdZ->K->L->O->P->St}{T:(A->B->C->H->I->AdZ->K->L->O->P->AE)->A->B->C->H->I->AdZ->K->L->O->P->AE}(X:∀Y,(λa b c d e f g h i j=>F Y (S a b c d e f g h i j))=T λa b c d e f g h i j=>Y (S a b c d e f g h i j)) M:(λa b c d e f g h i j=>BM F M (S a b c d e f g h i j))=Nat.rec (λ_ _ _ _ _ _ _ _ _ _=>none) (λ_ Z=>T Z) M:=by
 induction M with
 | zero=>rfl | succ M Z=>exact(X (BM F M)).trans (congrArg T Z)
theorem AUI{S:A->B->C->H->I->AdZ->K->L->O->P->Q->R->St}{T:(A->B->C->H->I->AdZ->K->L->O->P->Q->R->AE)->A->B->C->H->I->AdZ->K->L->O->P->Q->R->AE}(X:∀Y,(λa b c d e f g h i j k l=>F Y (S a b c d e f g h i j k l))=T λa b c d e f g h i j k l=>Y (S a b c d e f g h i j k l)) M:(λa b c d e f g h i j k l=>BM F M (S a b c d e f g h i j k l))=Nat.rec (λ_ _ _ _ _ _ _ _ _ _ _ _=>none) (λ_ Z=>T Z) M:=by
 induction M with
 | zero=>rfl | succ M Z=>exact(X (BM F M)).trans (congrArg T Z)
theorem ALq{S:A->B->C->H->I->AdZ->K->L->O->P->Q->R->AdY->St}{T:(A->B->C->H->I->AdZ->K->L->O->P->Q->R->AdY->AE)->A->B->C->H->I->AdZ->K->L->O->P->Q->R->AdY->AE}(X:∀Y,(λa b c d e f g h i j k l m=>F Y (S a b c d e f g h i j k l m))=T λa b c d e f g h i j k l m=>Y (S a b c d e f g h i j k l m)) M:(λa b c d e f g h i j k l m=>BM F M (S a b c d e f g h i j k l m))=Nat.rec (λ_ _ _ _ _ _ _ _ _ _ _ _ _=>none) (λ_ Z=>T Z) M:=by
 induction M with
 | zero=>rfl | succ M Z=>exact(X (BM F M)).trans (congrArg T Z)
theorem AUH{S:A->B->C->H->I->AdZ->K->L->O->P->Q->R->AdY->V->α->β->γ->δ->ε->ζ->η->θ->ι->St}{T:(A->B->C->H->I->AdZ->K->L->O->P->Q->R->AdY->V->α->β->γ->δ->ε->ζ->η->θ->ι->AE)->A->B->C->H->I->AdZ->K->L->O->P->Q->R->AdY->V->α->β->γ->δ->ε->ζ->η->θ->ι->AE}(X:∀Y,(λa b c d e f g h i j k l m n o p q r s t u v w=>F Y (S a b c d e f g h i j k l m n o p q r s t u v w))=T λa b c d e f g h i j k l m n o p q r s t u v w=>Y (S a b c d e f g h i j k l m n o p q r s t u v w)) M:(λa b c d e f g h i j k l m n o p q r s t u v w=>BM F M (S a b c d e f g h i j k l m n o p q r s t u v w))=Nat.rec (λ_ _ _ _ _ _ _ _ _ _ _ _ _ _ _ _ _ _ _ _ _ _ _=>none) (λ_ Z=>T Z) M:=by
 induction M with
 | zero=>rfl | succ M Z=>exact(X (BM F M)).trans (congrArg T Z)
end
def cB(a:AE)(J:Bool->H->AE):AE:=CD a λu s=>DB u λx=>J x s
def cI(a:AE)(J:Int->H->AE):AE:=CD a λu s=>DZ .i64 u λx=>J x s
def cS(a:AE)(J:BS->H->AE):AE:=CD a λu s=>HY u λx=>J x s
def cT(a:AE)(J:List V->H->AE):AE:=CD a λu s=>H3 u λl=>J l s
def cA(a:AE)(J:List V->H->AE):AE:=CD a λu s=>Cp u λl=>J l s
def c0(a:AE)(J:H->AE):AE:=CD a λu s=>H3 u λl=>Ay l (J s)
def lI(E:EB)(U:H)(b o:Nat)(J:Int->AE):AE:=DF E U b o λu=>DZ .i64 u J
def lB(E:EB)(U:H)(b o:Nat)(J:Bool->AE):AE:=DF E U b o λu=>DB u J
def lS(E:EB)(U:H)(b o:Nat)(J:BS->AE):AE:=DF E U b o λu=>HY u J
def lP(E:EB)(U:H)(b o:Nat)(J:Nat->Nat->AE):AE:=DF E U b o λu=>BL u J
def lL(E:EB)(U:H)(b o:Nat)(J:Nat->AE):AE:=DF E U b o λu=>Ao u J
def iX(E:EB)(U:H)(n:Nat)(u:V)(i:Int)(J:List V->AE):AE:=AS n u i λb o=>Bv E U b o n J
def iY(E:EB)(U:H)(n:Nat)(u:V)(i:Int)(J:V->AE):AE:=AS n u i λb o=>DF E U b o J
def jX(E:EB)(U:H)(b o n:Nat)(i:Int)(J:List V->AE):AE:=DF E U b o λu=>AS n u i λb o=>Bv E U b o n J
def jY(E:EB)(U:H)(b o n:Nat)(i:Int)(J:V->AE):AE:=DF E U b o λu=>AS n u i λb o=>DF E U b o J
def r0(U:H):AE:=some (.B [],U)
def rB(b:Bool)(U:H):AE:=some (.bool b,U)
def rI(n:Int)(U:H):AE:=some (.int .i64 n,U)
def iN(n:Nat):V := .int .i64 (AA n)
def sN(n w:Nat):V := .N (BS.mk n w)
def uA(l:List V)(J:BS->V->V->V->AE):AE:=Ti l λc l=>Ab l λa l=>Ab l λd l=>Ab l λb l=>Ay l (J c a d b)
def uB(l:List V)(J:V->Int->AE):AE:=Ab l λb l=>D3 .i64 l λa l=>Ay l (J b a)
def uC(l:List V)(J:V->Int->Int->AE):AE:=Ab l λb l=>D3 .i64 l λa l=>D3 .i64 l λc l=>Ay l (J b a c)
def uD(l:List V)(J:BS->Int->V->V->V->AE):AE:=Ti l λd l=>D3 .i64 l λa l=>Ab l λe l=>Ab l λc l=>Ab l λb l=>Ay l (J d a e c b)
def uE(l:List V)(J:Int->Int->AE):AE:=D3 .i64 l λb l=>D3 .i64 l λa l=>Ay l (J b a)
def uF(l:List V)(J:Nat->Nat->Int->Int->AE):AE:=Ab l λc l=>BL c λa b=>D3 .u64 l λe l=>D3 .i64 l λd l=>Ay l (J a b e d)
def uG(l:List V)(J:V->Int->Int->AE):AE:=Ab l λb l=>D3 .u64 l λa l=>D3 .u64 l λc l=>Ay l (J b a c)
def uH(l:List V)(J:V->V->AE):AE:=Ab l λa l=>Ab l λb l=>Ay l (J a b)
def uI(l:List V)(J:Int->Int->V->V->Int->V->AE):AE:=D3 .i64 l λe l=>D3 .i64 l λa l=>Ab l λf l=>Ab l λd l=>D3 .i64 l λc l=>Ab l λb l=>Ay l (J e a f d c b)
def uJ(l:List V)(J:V->Int->BS->Int->V->V->V->Int->Int->AE):AE:=Ab l λg l=>D3 .i64 l λi l=>Ti l λh l=>D3 .i64 l λf l=>Ab l λe l=>Ab l λc l=>Ab l λd l=>D3 .i64 l λa l=>D3 .i64 l λb l=>Ay l (J g i h f e c d a b)
def uK(l:List V)(J:Int->BS->Int->AE):AE:=D3 .i64 l λb l=>Ti l λa l=>D3 .i64 l λc l=>Ay l (J b a c)
def uL(l:List V)(J:Nat->Nat->Int->AE):AE:=Ab l λc l=>BL c λa b=>D3 .i64 l λd l=>Ay l (J a b d)
def uM(l:List V)(J:Nat->Nat->V->AE):AE:=Ab l λc l=>BL c λa b=>Ab l λd l=>Ay l (J a b d)
def uN(l:List V)(J:Int->V->Bool->Bool->Bool->Bool->Int->Int->V->V->Int->Bool->Int->AE):AE:=D3 .i64 l λj l=>Ab l λk l=>OG l λg l=>OG l λe l=>OG l λn l=>OG l λf l=>D3 .i64 l λi l=>D3 .i64 l λm l=>Ab l λh l=>Ab l λd l=>D3 .i64 l λc l=>OG l λa l=>D3 .i64 l λb l=>Ay l (J j k g e n f i m h d c a b)
def uO(l:List V)(J:Bool->Bool->Bool->Bool->Int->Int->AE):AE:=OG l λe l=>OG l λa l=>OG l λf l=>OG l λd l=>D3 .i64 l λc l=>D3 .i64 l λb l=>Ay l (J e a f d c b)
def uP(l:List V)(J:Nat->Nat->BS->AE):AE:=Ab l λc l=>BL c λa b=>Ti l λd l=>Ay l (J a b d)
def uQ(l:List V)(J:Int->BS->Bool->Int->Int->Bool->Bool->Bool->Bool->Int->Int->V->V->Int->Bool->Int->AE):AE:=D3 .i64 l λn l=>Ti l λo l=>OG l λj l=>D3 .i64 l λi l=>D3 .i64 l λh l=>OG l λq l=>OG l λm l=>OG l λp l=>OG l λk l=>D3 .i64 l λg l=>D3 .i64 l λf l=>Ab l λd l=>Ab l λa l=>D3 .i64 l λe l=>OG l λc l=>D3 .i64 l λb l=>Ay l (J n o j i h q m p k g f d a e c b)
def uR(l:List V)(J:V->Bool->AE):AE:=Ab l λb l=>OG l λa l=>Ay l (J b a)
def uS(l:List V)(J:Nat->Nat->Int->Int->AE):AE:=Ab l λc l=>BL c λa b=>D3 .i64 l λe l=>D3 .i64 l λd l=>Ay l (J a b e d)
def uT(l:List V)(J:Nat->Nat->Bool->AE):AE:=Ab l λc l=>BL c λa b=>OG l λd l=>Ay l (J a b d)
def uU(l:List V)(J:BS->Int->AE):AE:=Ti l λb l=>D3 .i64 l λa l=>Ay l (J b a)
def uV(l:List V)(J:Int->BS->AE):AE:=D3 .i64 l λb l=>Ti l λa l=>Ay l (J b a)
def uW(l:List V)(J:Nat->Nat->Nat->Nat->Int->AE):AE:=Ab l λd l=>BL d λg b=>Ab l λf l=>BL f λc a=>D3 .i64 l λe l=>Ay l (J g b c a e)
def uX(l:List V)(J:V->BS->AE):AE:=Ab l λb l=>Ti l λa l=>Ay l (J b a)
def uY(l:List V)(J:Int->Int->V->AE):AE:=D3 .i64 l λb l=>D3 .i64 l λa l=>Ab l λc l=>Ay l (J b a c)
def uZ(l:List V)(J:Nat->Nat->Int->Int->Int->AE):AE:=Ab l λd l=>BL d λa b=>D3 .i64 l λf l=>D3 .i64 l λe l=>D3 .i64 l λc l=>Ay l (J a b f e c)
def uAA(l:List V)(J:Nat->Nat->Int->Int->AE):AE:=Ab l λc l=>BL c λa b=>D3 .u32 l λe l=>D3 .i64 l λd l=>Ay l (J a b e d)
def uAB(l:List V)(J:V->Int->Int->AE):AE:=Ab l λb l=>D3 .u64 l λa l=>D3 .i64 l λc l=>Ay l (J b a c)
def uAC(l:List V)(J:Int->Bool->AE):AE:=D3 .i64 l λb l=>OG l λa l=>Ay l (J b a)
def uAD(l:List V)(J:V->Int->Bool->AE):AE:=Ab l λb l=>D3 .i64 l λa l=>OG l λc l=>Ay l (J b a c)
def uAE(l:List V)(J:V->V->V->V->AE):AE:=Ab l λc l=>Ab l λd l=>Ab l λa l=>Ab l λb l=>Ay l (J c d a b)
def uAF(l:List V)(J:Nat->Nat->Nat->Nat->AE):AE:=Ab l λd l=>BL d λf b=>Ab l λe l=>BL e λc a=>Ay l (J f b c a)
def uAG(l:List V)(J:BS->Int->Bool->AE):AE:=Ti l λb l=>D3 .i64 l λa l=>OG l λc l=>Ay l (J b a c)
def uAH(l:List V)(J:BS->Int->Bool->Bool->Int->Int->V->V->Int->V->Int->AE):AE:=Ti l λi l=>D3 .i64 l λj l=>OG l λf l=>OG l λe l=>D3 .i64 l λd l=>D3 .i64 l λc l=>Ab l λh l=>Ab l λk l=>D3 .i64 l λg l=>Ab l λb l=>D3 .i64 l λa l=>Ay l (J i j f e d c h k g b a)
def uAI(l:List V)(J:V->Int->Int->AE):AE:=Ab l λb l=>D3 .u32 l λa l=>D3 .i64 l λc l=>Ay l (J b a c)
def uAJ(l:List V)(J:V->V->V->AE):AE:=Ab l λb l=>Ab l λc l=>Ab l λa l=>Ay l (J b c a)
def uAK(l:List V)(J:Int->Int->V->V->AE):AE:=D3 .i64 l λc l=>D3 .i64 l λa l=>Ab l λd l=>Ab l λb l=>Ay l (J c a d b)
def uAL(l:List V)(J:V->Nat->Nat->Int->Int->AE):AE:=Ab l λd l=>Ab l λf l=>BL f λb a=>D3 .i64 l λe l=>D3 .i64 l λc l=>Ay l (J d b a e c)
def uAM(l:List V)(J:Nat->Nat->V->Bool->AE):AE:=Ab l λc l=>BL c λa b=>Ab l λe l=>OG l λd l=>Ay l (J a b e d)
def uAN(l:List V)(J:V->Int->V->AE):AE:=Ab l λb l=>D3 .i64 l λa l=>Ab l λc l=>Ay l (J b a c)
def uAO(l:List V)(J:Nat->Nat->Int->Nat->Nat->V->AE):AE:=Ab l λe l=>BL e λh c=>D3 .i64 l λg l=>Ab l λf l=>BL f λb a=>Ab l λd l=>Ay l (J h c g b a d)
def uAP(l:List V)(J:V->Int->Int->V->AE):AE:=Ab l λc l=>D3 .i64 l λa l=>D3 .i64 l λd l=>Ab l λb l=>Ay l (J c a d b)
def eA(a:BS)(c:V)(b:V)(d:V):List V:=[.N a,c,b,d]
def eC(a:V)(c:Int)(b:Int):List V:=[a,.int .i64 c,.int .i64 b]
def eD(a:BS)(c:Int)(b:V)(e:V)(d:V):List V:=[.N a,.int .i64 c,b,e,d]
def eI(a:Int)(d:Int)(c:V)(f:V)(e:Int)(b:V):List V:=[.int .i64 a,.int .i64 d,c,f,.int .i64 e,b]
def eJ(g:V)(h:Int)(i:BS)(f:Int)(d:V)(c:V)(e:V)(a:Int)(b:Int):List V:=[g,.int .i64 h,.N i,.int .i64 f,d,c,e,.int .i64 a,.int .i64 b]
def eK(a:Int)(c:BS)(b:Int):List V:=[.int .i64 a,.N c,.int .i64 b]
def eN(i:Int)(j:V)(k:Bool)(g:Bool)(e:Bool)(m:Bool)(f:Int)(l:Int)(d:V)(h:V)(b:Int)(c:Bool)(a:Int):List V:=[.int .i64 i,j,.bool k,.bool g,.bool e,.bool m,.int .i64 f,.int .i64 l,d,h,.int .i64 b,.bool c,.int .i64 a]
def eO(a:Bool)(d:Bool)(c:Bool)(f:Bool)(e:Int)(b:Int):List V:=[.bool a,.bool d,.bool c,.bool f,.int .i64 e,.int .i64 b]
def eQ(k:Int)(m:BS)(n:Bool)(h:Int)(l:Int)(i:Bool)(p:Bool)(o:Bool)(g:Bool)(j:Int)(f:Int)(e:V)(a:V)(c:Int)(b:Bool)(d:Int):List V:=[.int .i64 k,.N m,.bool n,.int .i64 h,.int .i64 l,.bool i,.bool p,.bool o,.bool g,.int .i64 j,.int .i64 f,e,a,.int .i64 c,.bool b,.int .i64 d]
def eAG(a:BS)(c:Int)(b:Bool):List V:=[.N a,.int .i64 c,.bool b]
def eAH(h:BS)(i:Int)(j:Bool)(g:Bool)(e:Int)(d:Int)(f:V)(k:V)(c:Int)(b:V)(a:Int):List V:=[.N h,.int .i64 i,.bool j,.bool g,.int .i64 e,.int .i64 d,f,k,.int .i64 c,b,.int .i64 a]
theorem rZ:type_of% (Ad @cB.eq_1 (Ad @cI.eq_1 (Ad @cS.eq_1 (Ad @cT.eq_1 (Ad @cA.eq_1 (Ad @c0.eq_1 (Ad @lI.eq_1 (Ad @lB.eq_1 (Ad @lS.eq_1 (Ad @lP.eq_1 (Ad @lL.eq_1 (Ad @iX.eq_1 (Ad @iY.eq_1 (Ad @jX.eq_1 (Ad @jY.eq_1 (Ad @r0.eq_1 (Ad @rB.eq_1 (Ad @rI.eq_1 (Ad @iN.eq_1 (Ad @sN.eq_1 (Ad @uA.eq_1 (Ad @uB.eq_1 (Ad @uC.eq_1 (Ad @uD.eq_1 (Ad @uE.eq_1 (Ad @uF.eq_1 (Ad @uG.eq_1 (Ad @uH.eq_1 (Ad @uI.eq_1 (Ad @uJ.eq_1 (Ad @uK.eq_1 (Ad @uL.eq_1 (Ad @uM.eq_1 (Ad @uN.eq_1 (Ad @uO.eq_1 (Ad @uP.eq_1 (Ad @uQ.eq_1 (Ad @uR.eq_1 (Ad @uS.eq_1 (Ad @uT.eq_1 (Ad @uU.eq_1 (Ad @uV.eq_1 (Ad @uW.eq_1 (Ad @uX.eq_1 (Ad @uY.eq_1 (Ad @uZ.eq_1 (Ad @uAA.eq_1 (Ad @uAB.eq_1 (Ad @uAC.eq_1 (Ad @uAD.eq_1 (Ad @uAE.eq_1 (Ad @uAF.eq_1 (Ad @uAG.eq_1 (Ad @uAH.eq_1 (Ad @uAI.eq_1 (Ad @uAJ.eq_1 (Ad @uAK.eq_1 (Ad @uAL.eq_1 (Ad @uAM.eq_1 (Ad @uAN.eq_1 (Ad @uAO.eq_1 (Ad @uAP.eq_1 (Ad @eA.eq_1 (Ad @eC.eq_1 (Ad @eD.eq_1 (Ad @eI.eq_1 (Ad @eJ.eq_1 (Ad @eK.eq_1 (Ad @eN.eq_1 (Ad @eO.eq_1 (Ad @eQ.eq_1 (Ad @eAG.eq_1 (@eAH.eq_1))))))))))))))))))))))))))))))))))))))))))))))))))))))))))))))))))))))))):=⟨@cB.eq_1,@cI.eq_1,@cS.eq_1,@cT.eq_1,@cA.eq_1,@c0.eq_1,@lI.eq_1,@lB.eq_1,@lS.eq_1,@lP.eq_1,@lL.eq_1,@iX.eq_1,@iY.eq_1,@jX.eq_1,@jY.eq_1,@r0.eq_1,@rB.eq_1,@rI.eq_1,@iN.eq_1,@sN.eq_1,@uA.eq_1,@uB.eq_1,@uC.eq_1,@uD.eq_1,@uE.eq_1,@uF.eq_1,@uG.eq_1,@uH.eq_1,@uI.eq_1,@uJ.eq_1,@uK.eq_1,@uL.eq_1,@uM.eq_1,@uN.eq_1,@uO.eq_1,@uP.eq_1,@uQ.eq_1,@uR.eq_1,@uS.eq_1,@uT.eq_1,@uU.eq_1,@uV.eq_1,@uW.eq_1,@uX.eq_1,@uY.eq_1,@uZ.eq_1,@uAA.eq_1,@uAB.eq_1,@uAC.eq_1,@uAD.eq_1,@uAE.eq_1,@uAF.eq_1,@uAG.eq_1,@uAH.eq_1,@uAI.eq_1,@uAJ.eq_1,@uAK.eq_1,@uAL.eq_1,@uAM.eq_1,@uAN.eq_1,@uAO.eq_1,@uAP.eq_1,@eA.eq_1,@eC.eq_1,@eD.eq_1,@eI.eq_1,@eJ.eq_1,@eK.eq_1,@eN.eq_1,@eO.eq_1,@eQ.eq_1,@eAG.eq_1,@eAH.eq_1⟩
end
end Go.Og
set_option maxRecDepth 100000
set_option maxHeartbeats 0
namespace Go.Proofs.YtpbligmafbkeaaaGreatDoor
open Go Go.Og
noncomputable section
variable (E:EB) (D:Ac) (W:AF) (N:Nat)
def y0:V:=(V.int .i64 (AA 0))
def y1:Cc:=(.agg [.i,.any,.bool,.bool,.bool,.bool,.i,.i,.any,.any,.i,.bool,.i])
def y2:V:=(V.bool false)
def y3:Cc:=(.agg [.i,.i,.any,.any,.i,.any])
def y4:Cc:=(.agg [.i,.N,.bool,.i,.i,.bool,.bool,.bool,.bool,.i,.i,.any,.any,.i,.bool,.i])
def y5:V:=(V.N ⟨0,0⟩)
def y6:Cc:=(.agg [.N,.any,.any,.any])
def y7:Cc:=(.agg [.i,.N,.i])
def y8:Cc:=(.B [])
def y9:Cc:=(.agg [.bool,.bool,.bool,.bool,.i,.i])
def xt:Cc:=(.agg [.N,.i,.bool,.bool,.i,.i,.any,.any,.i,.any,.i])
def Y1:Cc:=(.agg [.N,.i,.any,.any,.any])
def Il:Cc:=(.agg [.i,.i])
def y34:V:=(V.int .u8 (AA 0))
def y13:Ek:=(.buildSlice 5 1 [y34] [(0,1,(.T y34))])
def JT:Ek:=(.L (.t 0))
def LM:XC:=(.exit 0)
def nW:XC:=(.cond (.tmp 9) .skip
 LM)
def y16:Ek:=(.alloc 113 [y0,V.h,y2,y2,y2,y2,y0,y0,V.h,V.h,y0,y2,y0])
def Y5:V:=(V.int .i64 (A1 0))
def LU:Ek:=(.L (.t 1))
def xe:AO:=(.T (V.int .u8 (AA 45)))
def We:AO:=(.T (V.bool true))
def nV:Cc:=(.agg [.N,.i,.bool])
def xr:AO:=(.T (V.int .u64 (AA 1)))
def y23:XC:=(.cond (.tmp 16) (.z (.m 17 5<|
 .aG 4 17)
 .ret)
 .skip)
def y25:XC:=(.Y (.aC 18 8 1 8))
def y26:XC:=(.Y (.m 10 5<|
 .aC 11 10 1 5))
def y27:XC:=(.Y (.m 10 4<|
 .aC 11 10 1 4))
def y28:XC:=(.cond (.tmp 17) (.z (.cD 4)
 .ret)
 .skip)
def y29:AO:=(.T (V.int .u8 (AA 48)))
def y30:V:=(V.int .u64 (AA 0))
def y31:Ek:=(.alloc 31 [y5,V.h,V.h,V.h])
def nj:Ek:=(.L (.t 5))
def nU:List Cc:=[.any,.any]
def y35:AO:=(.T (V.N ⟨10,488440487847103610377301⟩))
def y36:AO:=(.T (V.N ⟨10,322399817400452109389381⟩))
def y37:AO:=(.T (V.N ⟨4,1397178708⟩))
def y38:Ek:=(.C 1 (.t 6))
def y39:AO:=(.T (V.N ⟨1,123⟩))
def y40:AO:=(.T (V.N ⟨1,41⟩))
def y41:XC:=(.cond (.tmp 13) .skip
 LM)
def xq:Ek:=(.L (.t 8))
def y43:AO:=(.T (V.N ⟨8,6073459554577832005⟩))
def y44:AO:=(.T (V.N ⟨8,6073459554577829193⟩))
def y45:AO:=(.T (V.N ⟨8,4990918871747741011⟩))
def nX:Nat->St->AE:=λ_ _=>none
def kX(c:List (Nat × Cc))(b:List Nat)(a:List (Nat × List Cc))(J:St->AE):St->AE:=λs=>KM c b a s J
def dX(E:EB)(D:Ac)(W:AF)(N:Nat)(c:XC)(k:St->AE)(x:Nat->St->AE)(r:St->AE):St->AE:=λs=>Au E D W N c s k x r
def q3a:List (Nat × Cc):=[(9,.any),(13,.o),(15,.i),(16,.o),(17,.o),(18,.i),(19,.i),(20,.i)]
def q3b:List (Nat × Cc):=[(9,.any),(13,.o),(15,.i),(16,.o),(17,.o),(18,.i),(19,.i)]
def q3c:List (Nat × Cc):=[(0,.any),(1,.i),(2,.i),(7,.N),(8,.N),(9,.any),(10,.i)]
def q3d:List (Nat × Cc):=[(1,.i),(2,.i),(7,.N),(8,.N),(9,.any),(12,.i)]
def q3e:List (Nat × Cc):=[(13,.o),(15,.i),(16,.o),(17,.o),(18,.i)]
def q3f:List (Nat × Cc):=[(1,.i),(2,.i),(7,.N),(8,.N),(9,.any)]
def mg:List BO:=[⟨(some 227),.load (some 4) (.tmp 13),none⟩,⟨(some 228),.C 2 (.tmp 13),none⟩,⟨(some 229),.load none (.tmp 228),none⟩,⟨(some 230),.qr 1 (.tmp 229) (.T (V.int .i64 (AA 0))),none⟩,⟨(some 231),.load none (.tmp 230),none⟩,⟨(some 232),.L (.tmp 15),none⟩,⟨(some 233),.build [(V.int .i64 (AA 0)),(V.int .i64 (AA 0)),V.h,V.h,(V.int .i64 (AA 0)),V.h] [(0,1,(.T (V.int .i64 (AA 4))))],none⟩,⟨(some 234),.buildSlice 49 1 [(V.int .i64 (AA 0)),(V.int .i64 (AA 0)),V.h,V.h,(V.int .i64 (AA 0)),V.h] [(0,6,(.tmp 233))],none⟩,⟨(some 235),.build [(V.int .i64 (AA 0)),(V.int .i64 (AA 0)),V.h,V.h,(V.int .i64 (AA 0)),V.h] [(0,1,(.T (V.int .i64 (AA 9)))),(1,1,(.tmp 232)),(3,1,(.tmp 234))],none⟩,⟨(some 236),.call 11 [(.tmp 227),(.tmp 231),(.tmp 235)],none⟩,⟨(some 226),.L (.tmp 236),none⟩,⟨(some 237),.extract 0 (.tmp 226),none⟩,⟨(some 238),.extract 1 (.tmp 226),none⟩,⟨(some 21),.L (.tmp 237),none⟩,⟨(some 22),.L (.tmp 238),none⟩]
def wG:List DP:=[⟨0,[13]⟩,⟨0,[13]⟩,⟨2,[228]⟩,⟨6,[229]⟩,⟨14,[230]⟩,⟨0,[15]⟩,⟨0,[]⟩,⟨64,[233]⟩,⟨224,[232,234]⟩,⟨511,[227,231,235]⟩,⟨1023,[236]⟩,⟨2047,[226]⟩,⟨2047,[226]⟩,⟨4095,[237]⟩,⟨16383,[238]⟩]
def IJ(E:EB):St->AE:=λs=>Dc E s [(.tmp 6)] λl=>some (Dq l,s.U)
def b3a(c0:XC):Nat->St->AE:=BR 0 (dX E D W N (.Q q3f [] [] c0) (IJ E) nX (IJ E)) nX
def b3b(c0 a:XC):Nat->St->AE:=BR 4 (dX E D W N (.Q q3b [] [] c0) (dX E D W N (.Q q3e [] [] a) (IJ E) nX (IJ E)) nX (IJ E)) nX
def b3c(c0 b:XC)(a:St->AE):St->AE:=dX E D W N (.Q q3c [] [] c0) (kX q3c [] [] a) (b3a E D W N b) (IJ E)
def b3d(c0:XC):Nat->St->AE:=BR 2 (dX E D W N (.Q q3f [] [] c0) (IJ E) nX (IJ E)) nX
def ASX(b:XC)(a:XC):XC:=(.z (.aX 6 y2)
 (.z (.m 25 2<|
 .P 26 (.i7 (.jp .u64) (.t 25))<|
 .b 27 .rem .none (.t 26) (.T (V.int .u64 (AA 4)))<|
 .P 28 (.i7 (.jp .i64) (.t 27))<|
 .aG 2 28)
 (.seq (.z (.bZ 29 0<|
 .b 31 .eql .none (.t 30) (.i 0)<|
 .m 32 31<|
 .gO 32 false (.p 33 [0,32] JT<|
 .p 34 [33,32] (.len false (.t 33))<|
 .bJ 35 34 32 34 9) 36 32 35<|
 .nil)
 (.cond (.tmp 36) (.z (.k 37 .bool 4 []<|
 .aG 6 37)
 .ret)
 .skip))
 (.z (.c 7 y5<|
 .aX 8 y5)
 (.z (.aS 9)
 (.seq (.z (.aL 10 0)
 (.block 0 (.loop q3c [] [] a)))
 (.Q q3f [] [] b)))))))
def YI(E:EB)(D:Ac)(W:AF)(K2:V->Int->Int->BS->BS->V->Int->H->AE)(a:V)(b c:Int)(U:H):AE:=
 Ao a λd=>
 Ax (λe f=>
 AK e (
 cB (D 4 [] f) λe g=>
 rB e g) (
 K2 a b (An .i64 (EW (An .u64 c) (AA 4))) (BS.mk 0 0) (BS.mk 0 0) V.h (AA 0) f)) λe=>
 AK (B8 (AA d) (AA 0)) (
 e true U) (
 Ao a λd=>
 e (C5 (AA 9) (AA d)) U)
def PA(a:XC)(b:XC):XC:=(.z (.m 89 7<|
 .aZ 90 89 5 198343270444 8<|
 .b 92 .add .none (.t 91) (.T (V.N ⟨5,198343270444⟩))<|
 .aB 7 90 92<|
 .nil)
 (.seq (.z (.aL 12 0)
 (.block 2 (.loop q3d [] [] b)))
 (.Q q3f [] [] a)))
def AAH(E:EB)(D:Ac)(W:AF)(h:Int->Int->BS->BS->V->Int->H->AE)(a b:Int)(c d:BS)(e:V)(U:H):AE:=
 DI c (BS.mk 5 198343270444) λf=>
 DI d (BS.mk 5 198343270444) λg=>
 h a b f g e (AA 0) U
def ABu(b:XC)(a:XC):XC:=(.seq (.z (.aB 38 10 0<|
 .u 40 39<|
 .aE 41 38 40)
 (.cond (.tmp 41) .skip
 LM))
 (.seq (.block 1 (.z (.bL 44 0 10 1 .i<|
 .P 48 (.i7 (.jp .u64) (.t 47))<|
 .b 49 .rem .none (.t 48) (.T (V.int .u64 (AA 60)))<|
 .P 50 (.i7 (.jp .i64) (.t 49))<|
 .aG 11 50)
 (.seq (.z (.bG 51 9 11 .bool 5<|
 .nil)
 (.cond (.tmp 53) (.z (.k 54 .bool 4 []<|
 .aG 6 54)
 .ret)
 .skip))
 (.z (.aB 55 9 11<|
 .aQ 57 56 3 1 y0 0 1 56 .S 3 1 8 55<|
 .aG 9 58)
 (.seq (.z (.m 59 10<|
 .bM 60 59 0)
 (.cond (.tmp 60) (.Y (.m 61 7<|
 .aZ 62 61 2 8236 8<|
 .b 64 .add .none (.t 63) (.T (V.N ⟨2,8236⟩))<|
 .aB 7 62 64<|
 .nil))
 .skip))
 (.Q [(0,.any),(1,.i),(2,.i),(7,.N),(8,.N),(9,.any),(10,.i),(11,.i)] [] [] a))))))
 (.Q q3c [] [] b)))
def mX(E:EB)(D:Ac)(W:AF)(K1:Int->Int->BS->BS->V->H->AE)(m:V->Int->Int->BS->BS->V->Int->Int->H->AE)(a:V)(b c:Int)(d e:BS)(f:V)(g:Int)(U:H):AE:=
 Ao a λh=>
 AK (C5 g (AA h)) (
 AS 1 a g λh i=>
 lI E U h i λh=>
 cB (D 5 [f,.int .i64 (An .i64 (EW (An .u64 h) (AA 60)))] U) λi j=>
 AK i (
 cB (D 4 [] j) λi k=>
 rB i k) (
 let i:=Cb j (.cells [.int .i64 (An .i64 (EW (An .u64 h) (AA 60)))]);
 Dx E 1 8 f (V.D (H.j j) 0 1 (.ex 1)) i λi j=>
 CI i (
 AK (C5 (AA 0) g) (
 DI d (BS.mk 2 8236) λk=>
 DI e (BS.mk 2 8236) λl=>
 m a b c k l i g (An .i64 (EW (An .u64 h) (AA 60))) j) (
 m a b c d e i g (An .i64 (EW (An .u64 h) (AA 60))) j)))) (
 K1 b c d e f U)
def Vz:XC:=(.Y (.m 42 10<|
 .aC 43 42 1 10))
def AFj(E:EB)(D:Ac)(W:AF)(h:V->Int->Int->BS->BS->V->Int->H->AE)(a:V)(b c:Int)(d e:BS)(f:V)(g:Int)(U:H):AE:=
 h a b c d e f (BQ .i64 g (AA 1)) U
def nM:XC:=(.z (.m 65 7<|
 .aZ 66 65 1 102 10<|
 .aO 68 67 .N 6 66<|
 .aZ 71 70 2 23328 11<|
 .aO 73 72 .N 6 71<|
 .b 76 .add .none (.t 75) (.T (V.N ⟨6,83890732408925⟩))<|
 .aG 7 76)
 (.Y (.m 77 8<|
 .aZ 78 77 1 101 10<|
 .aO 80 79 .N 6 78<|
 .aZ 83 82 2 10272 11<|
 .aO 85 84 .N 6 83<|
 .b 88 .add .none (.t 87) y40<|
 .aG 8 88)))
def AAG(E:EB)(D:Ac)(W:AF)(m:V->Int->Int->BS->BS->V->Int->H->AE)(a:V)(b c:Int)(d e:BS)(f:V)(g h:Int)(U:H):AE:=
 DI d (BS.mk 1 102) λi=>
 cS (D 6 [.int .u64 (An .u64 g)] U) λj k=>
 DI i j λi=>
 DI i (BS.mk 2 23328) λi=>
 cS (D 6 [.int .u64 (An .u64 h)] k) λj k=>
 DI i j λi=>
 DI i (BS.mk 6 83890732408925) λi=>
 DI e (BS.mk 1 101) λj=>
 cS (D 6 [.int .u64 (An .u64 g)] k) λk l=>
 DI j k λj=>
 DI j (BS.mk 2 10272) λj=>
 cS (D 6 [.int .u64 (An .u64 h)] l) λk l=>
 DI j k λj=>
 DI j (BS.mk 1 41) λj=>
 m a b c i j f g l
def LS(b:XC)(a:XC)(c:XC):XC:=(.z (.m 125 7<|
 .b 126 .add .none (.T (V.N ⟨53,5496763711135271144596069228817180630319383752282117835684320943235763312723540517957519438352911482027856154633734985712148557⟩)) (.t 125)<|
 .aZ 127 126 22 12152570324601215902917285970018452556113797795839264 8<|
 .b 129 .add .none (.t 127) (.t 128)<|
 .b 130 .add .none (.t 129) (.T (V.N ⟨6,75102957894944⟩))<|
 .k 131 (.B [y6,.bool]) 7 [(.t 130)]<|
 .m 124 131<|
 .aM 132 0 124 1 124<|
 .p 13 [] y31<|
 .op none y6 [13,132] (.store 4 (.t 13) (.t 132))<|
 .aG 14 133)
 (.seq (.z (.m 134 14<|
 .P 135 (.un .not (.t 134))<|
 .m 136 135<|
 .gO 136 false (.aF 137 13 136 2 13 136 136<|
 .p 140 [139,136] (.pp .neq .none (.t 139) (.i 2))<|
 .nil) 141 136 140<|
 .nil)
 (.cond (.tmp 141) (.z (.aX 6 y2)
 .ret)
 .skip))
 (.z (.m 142 1<|
 .P 143 (.i7 (.jp .u64) (.t 142))<|
 .bZ 144 9<|
 .m 146 2<|
 .b 147 .add .none (.t 145) (.t 146)<|
 .P 148 (.i7 (.jp .u64) (.t 147))<|
 .b 149 .rem .none (.t 143) (.t 148)<|
 .P 150 (.i7 (.jp .i64) (.t 149))<|
 .aG 15 150)
 (.z (.op (some 151) (.agg [.any]) [] (.build [V.h] [])<|
 .P 152 (.box 39 (.t 151))<|
 .op (some 153) (.agg [.any]) [] (.build [V.h] [])<|
 .P 154 (.box 39 (.t 153))<|
 .aB 16 152 154<|
 .nil)
 (.z (.m 155 15<|
 .b 156 .add .none (.i 70) (.t 155)<|
 .bZ 157 9<|
 .b 159 .sub .none (.t 156) (.t 158)<|
 .aG 18 159)
 (.seq (.z (.aB 160 15 9<|
 .u 162 161<|
 .aE 163 160 162)
 (.cond (.tmp 163) (.z (.bL 164 9 15 1 .i<|
 .aG 18 167)
 (.z (.aL 19 0)
 (.seq (.z (.aL 20 0)
 (.block 4 (.loop q3a [] [] c)))
 (.Q q3b [] [] a))))
 (.z (.m 205 16<|
 .k 206 y8 8 [(.t 205),xr,(.i 1)]<|
 .nil)
 (.z (.bS 207 16 15 9<|
 .u 210 209<|
 .b 211 .sub .none (.t 208) (.t 210)<|
 .bA 212 211 y8 8 207 7)
 (.z (.m 214 16<|
 .p 215 [] y13<|
 .bE 216 y8 10 214 215)
 (.z (.m 217 17<|
 .k 218 y8 8 [(.t 217),xr,(.i 1)]<|
 .nil)
 (.Y (.bS 219 17 15 9<|
 .u 222 221<|
 .b 223 .sub .none (.t 220) (.t 222)<|
 .bA 224 223 y8 8 219 7))))))))
 (.Q q3e [] [] b)))))))
def Z0(E:EB)(D:Ac)(W:AF)(K7:Nat->Nat->Int->Nat->Nat->Nat->Nat->Int->H->AE)(p:V->Nat->Nat->Int->Nat->Nat->Nat->Nat->Int->Int->Int->H->AE)(a b:Int)(c d:BS)(e:V)(U:H):AE:=
 DI (BS.mk 53 5496763711135271144596069228817180630319383752282117835684320943235763312723540517957519438352911482027856154633734985712148557) c λf=>
 DI f (BS.mk 22 12152570324601215902917285970018452556113797795839264) λf=>
 DI f d λf=>
 DI f (BS.mk 6 75102957894944) λf=>
 cT (D 7 [.N f] U) λf g=>
 Ab f λf h=>
 Cp f λf=>
 uA f λf i j k=>
 OG h λh l=>
 Ay l (
 let l:=Cb g (.cells [.N ⟨0,0⟩,V.h,V.h,V.h]);
 DO 4 (H.j g) 0 (V.agg (eA f i j k)) l λf=>
 Ax (λi j=>
 AK i (
 rB false j) (
 Ao e λi=>
 nzK (An .u64 (BQ .i64 (AA i) b)) (
 Ht [V.h] j λk=>
 Ht [V.h] k λl=>
 Ao e λm=>
 Ao e λn=>
 AK (C5 (An .i64 (EW (An .u64 a) (An .u64 (BQ .i64 (AA i) b)))) (AA n)) (
 AS 1 e (An .i64 (EW (An .u64 a) (An .u64 (BQ .i64 (AA i) b)))) λn o=>
 lI E l n o λn=>
 p e (H.j g) 0 (An .i64 (EW (An .u64 a) (An .u64 (BQ .i64 (AA i) b)))) (H.j j) 0 (H.j k) 0 n (AA 0) (AA 0) l) (
 c0 (D 8 [.o (H.j j) 0,.int .u64 (AA 1),iN 1] l) λl=>
 Ao e λn=>
 CD (D 8 [.o (H.j j) 0,.int .u64 (An .u64 (Dj .i64 (An .i64 (EW (An .u64 a) (An .u64 (BQ .i64 (AA i) b)))) (AA n))),iN 7] l) λl n=>
 H3 l λl=>
 Ay l (
 let l:=Cb n (.cells [.int .u8 (AA 0)]);
 c0 (D 10 [.o (H.j j) 0,.D (H.j n) 0 1 (.ex 1)] l) λl=>
 c0 (D 8 [.o (H.j k) 0,.int .u64 (AA 1),iN 1] l) λl=>
 Ao e λn=>
 CD (D 8 [.o (H.j k) 0,.int .u64 (An .u64 (Dj .i64 (An .i64 (EW (An .u64 a) (An .u64 (BQ .i64 (AA i) b)))) (AA n))),iN 7] l) λl n=>
 H3 l λl=>
 Ay l (
 K7 (H.j g) 0 (An .i64 (EW (An .u64 a) (An .u64 (BQ .i64 (AA i) b)))) (H.j j) 0 (H.j k) 0 (Dj .i64 (BQ .i64 (AA 70) (An .i64 (EW (An .u64 a) (An .u64 (BQ .i64 (AA i) b))))) (AA m)) n)))))) λi=>
 AK (not h) (
 i true f) (
 lL E f (H.j g) 2 λg=>
 i (not (B8 (AA g) (AA 2))) f))
def NF:XC:=(.seq (.z (.aB 93 12 2<|
 .aE 95 93 94)
 (.cond (.tmp 95) .skip
 (.exit 2)))
 (.seq (.block 3 (.z (.m 98 7<|
 .aZ 99 98 3 6758444 12<|
 .aO 101 100 .N 6 99<|
 .aZ 104 103 2 23328 12<|
 .b 106 .add .none (.i 70) (.t 105)<|
 .aO 107 106 .N 6 104<|
 .b 110 .add .none (.t 109) (.T (V.N ⟨6,83890732408925⟩))<|
 .aG 7 110)
 (.Y (.m 111 8<|
 .aZ 112 111 3 6823980 12<|
 .aO 114 113 .N 6 112<|
 .aZ 117 116 2 10272 12<|
 .b 119 .add .none (.i 70) (.t 118)<|
 .aO 120 119 .N 6 117<|
 .b 123 .add .none (.t 122) y40<|
 .aG 8 123))))
 (.Y (.m 96 12<|
 .aC 97 96 1 12))))
def sj(E:EB)(D:Ac)(W:AF)(K5:Int->Int->BS->BS->V->H->AE)(k:Int->Int->BS->BS->V->Int->H->AE)(a b:Int)(c d:BS)(e:V)(f:Int)(U:H):AE:=
 AK (C5 f b) (
 DI c (BS.mk 3 6758444) λg=>
 cS (D 6 [.int .u64 (An .u64 f)] U) λh i=>
 DI g h λg=>
 DI g (BS.mk 2 23328) λg=>
 cS (D 6 [.int .u64 (An .u64 (BQ .i64 (AA 70) f))] i) λh i=>
 DI g h λg=>
 DI g (BS.mk 6 83890732408925) λg=>
 DI d (BS.mk 3 6823980) λh=>
 cS (D 6 [.int .u64 (An .u64 f)] i) λi j=>
 DI h i λh=>
 DI h (BS.mk 2 10272) λh=>
 cS (D 6 [.int .u64 (An .u64 (BQ .i64 (AA 70) f))] j) λi j=>
 DI h i λh=>
 DI h (BS.mk 1 41) λh=>
 k a b g h e (BQ .i64 f (AA 1)) j) (
 K5 a b c d e U)
def Iv:XC:=(.seq (.Q q3e [] [] (.wl mg wG [(13,.o),(16,.o),(17,.o),(18,.i),(21,.any),(22,.i)]))
 (.seq (.us (.O 240 y6 (.load (some 4) (.t 13))<|
 .aA 241 2 13 .any<|
 .P 243 (.qr 1 (.t 242) (.i 1))<|
 .l 244 .i 243<|
 .m 245 18<|
 .op (some 246) y3 [245] (.build [y0,y0,V.h,V.h,y0,V.h] [(0,1,(.i 3)),(1,1,(.t 245))])<|
 .k 247 (.B [.any,.i]) 11 [(.t 240),(.t 244),(.t 246)]<|
 .m 239 247<|
 .aM 248 0 239 1 239<|
 .aB 23 248 249<|
 .nil) [0,0,2,6,14,0,32,127,255,511,511,1023,4095])
 (.z (.k 250 .bool 4 []<|
 .m 251 250<|
 .gA 251 true (.p 252 [22,251] (.L (.t 22))<|
 .aT 253 252 251 252 0) 254 251 253<|
 .m 255 254<|
 .gA 255 true (.p 256 [24,255] (.L (.t 24))<|
 .aT 257 256 255 256 0) 258 255 257<|
 .m 259 258<|
 .gA 259 true (.p 260 [21,259] (.L (.t 21))<|
 .p 261 [16,259] (.L (.t 16))<|
 .op (some 262) .S [261,259] (.call 13 [(.t 261)])<|
 .op (some 263) .bool [260,262,259] (.call 12 [(.t 260),(.t 262)])<|
 .nil) 264 259 263<|
 .m 265 264<|
 .gA 265 true (.p 266 [23,265] (.L (.t 23))<|
 .p 267 [17,265] (.L (.t 17))<|
 .op (some 268) .S [267,265] (.call 13 [(.t 267)])<|
 .op (some 269) .bool [266,268,265] (.call 12 [(.t 266),(.t 268)])<|
 .nil) 270 265 269<|
 .aG 6 270)
 .ret)))
def mW(a b:Nat)(c:Int)(d e f g:Nat)(h:Int)(U:H):AE:=
 CM (W mg wG [(13,.o a b),(15,.int .i64 c),(16,.o d e),(17,.o f g),(18,.int .i64 h)] U) λi j=>
 Bj i 13 λk=>
 BL k λk l=>
 Bj i 16 λm=>
 BL m λm n=>
 Bj i 17 λo=>
 BL o λo p=>
 Bj i 18 λq=>
 DZ .i64 q λq=>
 Bj i 21 λr=>
 Bj i 22 λi=>
 DZ .i64 i λi=>
 Bv E j k l 4 λs=>
 uA s λs t u v=>
 DF E j k (AM l 2) λk=>
 AS 1 k (AA 1) λk l=>
 lI E j k l λk=>
 cT (D 11 [.agg (eA s t u v),.int .i64 k,.agg [iN 3,.int .i64 q,V.h,V.h,iN 0,V.h]] j) λj k=>
 uB j λj l=>
 cB (D 4 [] k) λk q=>
 Ax (λs t=>
 Ax (λu v=>
 Ax (λw x=>
 Ax (λy z=>
 rB y z) λy=>
 AK w (
 CD (D 13 [.o o p] x) λo p=>
 CI o (
 cB (D 12 [j,o] p) λj o=>
 y j o)) (
 y false x)) λj=>
 AK u (
 CD (D 13 [.o m n] v) λm n=>
 CI m (
 cB (D 12 [r,m] n) λm n=>
 j m n)) (
 j false v)) λj=>
 AK s (
 j (B8 l (AA 0)) t) (
 j false t)) λj=>
 AK k (
 j (B8 i (AA 0)) q) (
 j false q)
def IT:XC:=(.z (.m 185 16<|
 .k 186 y8 8 [(.t 185),(.T y30),(.i 1)]<|
 .nil)
 (.z (.aB 187 16 19<|
 .P 189 (.i7 (.jp .u64) (.t 188))<|
 .bZ 190 9<|
 .b 192 .sub .none (.t 191) (.i 1)<|
 .P 193 (.i7 (.jp .u64) (.t 192))<|
 .bD 194 y8 9 187 189 193)
 (.z (.m 195 17<|
 .k 196 y8 8 [(.t 195),(.T y30),(.i 1)]<|
 .nil)
 (.Y (.aB 197 17 19<|
 .P 199 (.i7 (.jp .u64) (.t 198))<|
 .bZ 200 9<|
 .b 202 .sub .none (.t 201) (.i 1)<|
 .P 203 (.i7 (.jp .u64) (.t 202))<|
 .bD 204 y8 9 197 199 203)))))
def AFi(E:EB)(D:Ac)(W:AF)(K7:Nat->Nat->Int->Nat->Nat->Nat->Nat->Int->H->AE)(a:V)(b c:Nat)(d:Int)(e f g h:Nat)(i j:Int)(U:H):AE:=
 c0 (D 8 [.o e f,.int .u64 (AA 0),iN 1] U) λk=>
 Ao a λl=>
 c0 (D 9 [.o e f,.int .u64 (An .u64 j),.int .u64 (An .u64 (Dj .i64 (AA l) (AA 1)))] k) λk=>
 c0 (D 8 [.o g h,.int .u64 (AA 0),iN 1] k) λk=>
 Ao a λl=>
 c0 (D 9 [.o g h,.int .u64 (An .u64 j),.int .u64 (An .u64 (Dj .i64 (AA l) (AA 1)))] k) λk=>
 K7 b c d e f g h i k
def J4(a:XC):XC:=(.seq (.z (.aB 168 20 9<|
 .u 170 169<|
 .aE 171 168 170)
 (.cond (.tmp 171) .skip
 (.exit 4)))
 (.seq (.block 5 (.seq (.us (.bL 174 9 20 1 .i<|
 .bL 178 9 15 1 .i<|
 .aE 182 177 181) [0,0,3,7,0,0,48,112,255])
 (.cond (.tmp 182) (.Y (.m 183 19<|
 .aC 184 183 1 19))
 .skip)))
 (.Q q3a [] [] a)))
def sg(E:EB)(D:Ac)(W:AF)(K8:V->Nat->Nat->Int->Nat->Nat->Nat->Nat->Int->Int->H->AE)(o:V->Nat->Nat->Int->Nat->Nat->Nat->Nat->Int->Int->Int->H->AE)(a:V)(b c:Nat)(d:Int)(e f g h:Nat)(i j k:Int)(U:H):AE:=
 Ao a λl=>
 AK (C5 k (AA l)) (
 AS 1 a k λl m=>
 lI E U l m λl=>
 AS 1 a d λm n=>
 lI E U m n λm=>
 AK (C5 l m) (
 o a b c d e f g h i (BQ .i64 j (AA 1)) k U) (
 o a b c d e f g h i j k U)) (
 K8 a b c d e f g h i j U)
def GL:XC:=(.Y (.m 172 20<|
 .aC 173 172 1 20))
def iR(E:EB)(D:Ac)(W:AF)(l:V->Nat->Nat->Int->Nat->Nat->Nat->Nat->Int->Int->Int->H->AE)(a:V)(b c:Nat)(d:Int)(e f g h:Nat)(i j k:Int)(U:H):AE:=
 l a b c d e f g h i j (BQ .i64 k (AA 1)) U
def AV3(a:V)(b c:Int)(U:H):St:=⟨[(0,a),(1,.int .i64 b),(2,.int .i64 c)],[],[],U⟩
def AOM(a b:Int)(c d:BS)(e:V)(U:H):St:=⟨[(1,.int .i64 a),(2,.int .i64 b),(7,.N c),(8,.N d),(9,e)],[],[],U⟩
def AAM(a:V)(b c:Int)(d e:BS)(f:V)(g:Int)(U:H):St:=⟨[(0,a),(1,.int .i64 b),(2,.int .i64 c),(7,.N d),(8,.N e),(9,f),(10,.int .i64 g)],[],[],U⟩
def AV2(a:V)(b c:Int)(d e:BS)(f:V)(g h:Int)(U:H):St:=⟨[(0,a),(1,.int .i64 b),(2,.int .i64 c),(7,.N d),(8,.N e),(9,f),(10,.int .i64 g),(11,.int .i64 h)],[],[],U⟩
def AV1(a b:Int)(c d:BS)(e:V)(f:Int)(U:H):St:=⟨[(1,.int .i64 a),(2,.int .i64 b),(7,.N c),(8,.N d),(9,e),(12,.int .i64 f)],[],[],U⟩
def AV0(a:V)(b c:Nat)(d:Int)(e f g h:Nat)(i j:Int)(U:H):St:=⟨[(9,a),(13,.o b c),(15,.int .i64 d),(16,.o e f),(17,.o g h),(18,.int .i64 i),(19,.int .i64 j)],[],[],U⟩
def AGL(a:V)(b c:Nat)(d:Int)(e f g h:Nat)(i j k:Int)(U:H):St:=⟨[(9,a),(13,.o b c),(15,.int .i64 d),(16,.o e f),(17,.o g h),(18,.int .i64 i),(19,.int .i64 j),(20,.int .i64 k)],[],[],U⟩
def APG(E:EB)(D:Ac)(W:AF)(N:Nat):=mW E D W
def ABi:=AFi E D W (APG E D W N )
theorem AOr:
 (λa b c d e f g h i j U=>Au E D W N IT (AV0 a b c d e f g h i j U) (dX E D W N (.Q q3e [] [] Iv) (IJ E) nX (IJ E)) nX (IJ E))=ABi E D W N:=by
 unfold ABi;kernel_rfl
def vg(E:EB)(D:Ac)(W:AF)(N:Nat)(a:V->Nat->Nat->Int->Nat->Nat->Nat->Nat->Int->Int->Int->H->AE):=iR E D W a
theorem AHn li9:
 (λa b c d e f g h i j k U=>Au E D W N GL (AGL a b c d e f g h i j k U) (kX q3a [] [] li9) (b3b E D W N IT Iv) (IJ E))=vg E D W N (λa b c d e f g h i j k U=>li9 (AGL a b c d e f g h i j k U)):=by
 unfold vg;generalize Iv=r,IT=s;revert r s;refine id ?_;intros;kernel_rfl
def uj(n:Nat):V->Nat->Nat->Int->Nat->Nat->Nat->Nat->Int->Int->Int->H->AE:=
 Nat.rec (λ_ _ _ _ _ _ _ _ _ _ _ _=>none) (λ_ a=>sg E D W (ABi E D W N ) (vg E D W N a)) n
theorem AOl n:
 (λa b c d e f g h i j k U=>BM (λr t=>Au E D W N (J4 GL) t (kX q3a [] [] r) (b3b E D W N IT Iv) (IJ E)) n (AGL a b c d e f g h i j k U))=uj E D W N n:=AUI (λx=>by rw[<-AOr,<-AHn];generalize GL=s,Iv=u,IT=v;revert s u v;refine id ?_;intros;kernel_rfl) n
def vf:=Z0 E D W (APG E D W N ) (uj E D W N N)
theorem AOs:
 (λa b c d e U=>Au E D W N (LS Iv IT (J4 GL)) (AOM a b c d e U) (IJ E) nX (IJ E))=vf E D W N:=by
 unfold vf;rw[<-AOl];generalize J4 GL=l,IT=m;revert l m;refine id ?_;intros;kernel_rfl
def AAz(n:Nat):Int->Int->BS->BS->V->Int->H->AE:=
 Nat.rec (λ_ _ _ _ _ _ _=>none) (λ_ a=>sj E D W (vf E D W N ) a) n
theorem AOm n:
 (λa b c d e f U=>BM (λl o=>Au E D W N NF o (kX q3d [] [] l) (b3d E D W N (LS Iv IT (J4 GL))) (IJ E)) n (AV1 a b c d e f U))=AAz E D W N n:=zH (λq=>by rw[<-AOs];generalize LS Iv IT (J4 GL)=m;revert m;refine id ?_;intros;kernel_rfl) n
def ABj:=AAH E D W (AAz E D W N N)
theorem AOv:
 (λa b c d e U=>Au E D W N (PA (LS Iv IT (J4 GL)) NF) (AOM a b c d e U) (IJ E) nX (IJ E))=ABj E D W N:=by
 unfold ABj;rw[<-AOm];generalize LS Iv IT (J4 GL)=l,NF=m;revert l m;refine id ?_;intros;kernel_rfl
def AIA(E:EB)(D:Ac)(W:AF)(N:Nat)(a:V->Int->Int->BS->BS->V->Int->H->AE):=AFj E D W a
theorem AOu j:
 (λa b c d e f g U=>Au E D W N Vz (AAM a b c d e f g U) (kX q3c [] [] j) (b3a E D W N (PA (LS Iv IT (J4 GL)) NF)) (IJ E))=AIA E D W N (λa b c d e f g U=>j (AAM a b c d e f g U)):=by
 unfold AIA;generalize PA (LS Iv IT (J4 GL)) NF=o;revert o;refine id ?_;intros;kernel_rfl
def AH9(a:V->Int->Int->BS->BS->V->Int->H->AE):=AAG E D W (AIA E D W N a)
theorem AOt k:
 (λa b c d e f g h U=>Au E D W N nM (AV2 a b c d e f g h U) (b3c E D W N Vz (PA (LS Iv IT (J4 GL)) NF) k) (BR 1 (b3c E D W N Vz (PA (LS Iv IT (J4 GL)) NF) k) (b3a E D W N (PA (LS Iv IT (J4 GL)) NF))) (IJ E))=AH9 E D W N (λa b c d e f g U=>k (AAM a b c d e f g U)):=by
 unfold AH9;rw[<-AOu];generalize PA (LS Iv IT (J4 GL)) NF=p,Vz=q;revert p q;refine id ?_;intros;kernel_rfl
def AA0(n:Nat):V->Int->Int->BS->BS->V->Int->H->AE:=
 Nat.rec (λ_ _ _ _ _ _ _ _=>none) (λ_ a=>mX E D W (ABj E D W N ) (AH9 E D W N a)) n
theorem AOn n:
 (λa b c d e f g U=>BM (λm p=>Au E D W N (ABu Vz nM) p (kX q3c [] [] m) (b3a E D W N (PA (LS Iv IT (J4 GL)) NF)) (IJ E)) n (AAM a b c d e f g U))=AA0 E D W N n:=lp8 (λt=>by rw[<-AOv,<-AOt];generalize PA (LS Iv IT (J4 GL)) NF=o,Vz=q,nM=r;revert o q r;refine id ?_;intros;kernel_rfl) n
def AIB:=YI E D W (AA0 E D W N N)
theorem AOw:
 (λa b c U=>Au E D W N (ASX (PA (LS Iv IT (J4 GL)) NF) (ABu Vz nM)) (AV3 a b c U) (IJ E) nX (IJ E))=AIB E D W N:=by
 unfold AIB;rw[<-AOn];generalize PA (LS Iv IT (J4 GL)) NF=j,ABu Vz nM=k;revert j k;refine id ?_;intros;kernel_rfl
def F3(args:List V)(U:H):AE:=
 uC args λa b c=>
 AIB E D W N a b c U
def A3:DD:=⟨271,[.any,.i,.i],[(.tmp 6)],(ASX (PA (LS Iv IT (J4 GL)) NF) (ABu Vz nM))⟩
theorem FE3 args U:BZ E D W N A3 args U=F3 E D W N args U:=by
 unfold F3;rw[<-AOw];kernel_rfl
def q5a:List (Nat × Cc):=[(0,.any),(1,.i),(5,.i)]
def wM(E:EB):St->AE:=λs=>Dc E s [(.tmp 4)] λl=>some (Dq l,s.U)
def ASL(b:XC)(a:XC):XC:=(.z (.aX 4 y2)
 (.seq (.z (.aL 5 0)
 (.block 0 (.loop q5a [] [] a)))
 (.Q [] [] [] b)))
def AUp(E:EB)(D:Ac)(W:AF)(K2:V->Int->Int->H->AE)(a:V)(b:Int)(U:H):AE:=
 K2 a b (AA 0) U
def ABt:XC:=(.z (.aX 4 y2)
 .ret)
def mV(E:EB)(D:Ac)(W:AF)(U:H):AE:=
 rB false U
def ABs:XC:=(.seq (.z (.aB 6 5 0<|
 .u 8 7<|
 .aE 9 6 8)
 nW)
 (.seq (.block 1 (.z (.bL 12 0 5 1 .i<|
 .m 16 1<|
 .b 17 .eql .none (.t 15) (.t 16)<|
 .nil)
 y28))
 y26))
def Zz(E:EB)(D:Ac)(W:AF)(K1:H->AE)(f:V->Int->Int->H->AE)(a:V)(b c:Int)(U:H):AE:=
 Ao a λd=>
 AK (C5 c (AA d)) (
 AS 1 a c λd e=>
 lI E U d e λd=>
 AK (B8 d b) (
 rB true U) (
 f a b (BQ .i64 c (AA 1)) U)) (
 K1 U)
def AVz(a:V)(b:Int)(U:H):St:=⟨[(0,a),(1,.int .i64 b)],[],[],U⟩
def AVy(a:V)(b c:Int)(U:H):St:=⟨[(0,a),(1,.int .i64 b),(5,.int .i64 c)],[],[],U⟩
def AV6(E:EB)(D:Ac)(W:AF)(N:Nat):=mV E D W
def AAy(n:Nat):V->Int->Int->H->AE:=
 Nat.rec (λ_ _ _ _=>none) (λ_ a=>Zz E D W (AV6 E D W N ) a) n
theorem AOk n:
 (λa b c U=>BM (λe f=>Au E D W N ABs f (kX q5a [] [] e) (BR 0 (dX E D W N (.Q [] [] [] ABt) (wM E) nX (wM E)) nX) (wM E)) n (AVy a b c U))=AAy E D W N n:=xi (λ_=>by kernel_rfl) n
def AH8:=AUp E D W (AAy E D W N N)
theorem AOq:
 (λa b U=>Au E D W N (ASL ABt ABs) (AVz a b U) (wM E) nX (wM E))=AH8 E D W N:=by
 unfold AH8;rw[<-AOk];generalize ABt=i,ABs=j;revert i j;refine id ?_;intros;kernel_rfl
def F5(args:List V)(U:H):AE:=
 uB args λa b=>
 AH8 E D W N a b U
def A5:DD:=⟨18,[.any,.i],[(.tmp 4)],(ASL ABt ABs)⟩
theorem FE5 args U:BZ E D W N A5 args U=F5 E D W N args U:=by
 unfold F5;rw[<-AOq];kernel_rfl
def AIX:List BO:=[⟨(some 10),.L (.tmp 0),none⟩,⟨(some 11),.pp .quo .none (.tmp 10) (.T (V.int .u64 (AA 10))),none⟩,⟨(some 12),.call 6 [(.tmp 11)],none⟩,⟨(some 13),.L (.tmp 0),none⟩,⟨(some 14),.pp .rem .none (.tmp 13) (.T (V.int .u64 (AA 10))),none⟩,⟨(some 15),.pp .add .none (.T (V.int .u64 (AA 48))) (.tmp 14),none⟩,⟨(some 16),.i7 (.jp .u8) (.tmp 15),none⟩,⟨(some 17),.buildSlice 5 1 [(V.int .u8 (AA 0))] [(0,1,(.tmp 16))],none⟩,⟨(some 18),.i7 .toStr (.tmp 17),none⟩,⟨(some 19),.pp .add .none (.tmp 12) (.tmp 18),none⟩,⟨(some 2),.L (.tmp 19),none⟩]
def wF:List DP:=[⟨0,[0]⟩,⟨1,[10]⟩,⟨3,[11]⟩,⟨0,[0]⟩,⟨8,[13]⟩,⟨24,[14]⟩,⟨56,[15]⟩,⟨120,[16]⟩,⟨248,[17]⟩,⟨511,[12,18]⟩,⟨1023,[19]⟩]
def AYD:XC:=(.z (.aX 2 y5)
 (.seq (.z (.m 3 0<|
 .b 4 .lss .none (.t 3) (.T (V.int .u64 (AA 10)))<|
 .nil)
 (.cond (.tmp 4) (.z (.m 5 0<|
 .b 6 .add .none (.T (V.int .u64 (AA 48))) (.t 5)<|
 .P 7 (.i7 (.jp .u8) (.t 6))<|
 .p 8 [7] (.buildSlice 5 1 [y34] [(0,1,(.t 7))])<|
 .P 9 (.i7 .toStr (.t 8))<|
 .m 2 9<|
 .nil)
 .ret)
 .skip))
 (.seq (.Q [(0,(.int .u64))] [] [] (.wl AIX wF [(2,.N)]))
 .ret)))
def sP(E:EB)(D:Ac)(W:AF)(a:Int)(U:H):AE:=
 AK (C5 a (AA 10)) (
 let b:=Cb U (.cells [.int .u8 (An .u8 (BQ .u64 (AA 48) a))]);
 J7 E b (V.D (H.j U) 0 1 (.ex 1)) λc=>
 some ((V.N c),b)) (
 CM (W AIX wF [(0,.int .u64 a)] U) λb c=>
 Bj b 2 λb=>
 HY b λb=>
 some ((V.N b),c))
def F6(N:Nat)(args:List V)(U:H):AE:=
 D3 .u64 args λa b=>
 Ay b (
 sP E D W a U)
def A6:DD:=⟨20,[(.int .u64)],[(.tmp 2)],AYD⟩
theorem FE6 args U:BZ E D W N A6 args U=F6 E D W N args U:=by kernel_rfl
def me:List BO:=[⟨(some 29),.load (some 4) (.tmp 7),none⟩,⟨(some 30),.L (.tmp 9),none⟩,⟨(some 31),.pp .eql .none (.tmp 30) (.T (V.int .i64 (AA 0))),none⟩,⟨(some 32),.L (.tmp 31),none⟩,⟨(some 33),.C 3 (.tmp 7),(some (32,true))⟩,⟨(some 34),.load none (.tmp 33),(some (32,true))⟩,⟨(some 35),.len false (.tmp 34),(some (32,true))⟩,⟨(some 36),.pp .leq .none (.tmp 35) (.T (V.int .i64 (AA 120))),(some (32,true))⟩,⟨(some 37),.pick (.tmp 32) (.tmp 36) (.T (V.bool false)),none⟩,⟨none,.store 4 (.tmp 2) (.tmp 29),none⟩,⟨(some 3),.L (.tmp 37),none⟩]
def ma:List DP:=[⟨0,[7]⟩,⟨0,[9]⟩,⟨2,[30]⟩,⟨6,[31]⟩,⟨14,[7,32]⟩,⟨30,[33,32]⟩,⟨62,[34,32]⟩,⟨126,[35,32]⟩,⟨254,[32,36]⟩,⟨15,[2,29]⟩,⟨1023,[37]⟩]
def AYC:XC:=(.z (.p 2 [] y31<|
 .aX 3 y2)
 (.seq (.z (.m 10 0<|
 .P 11 (.len true (.t 10))<|
 .bM 12 11 3000)
 (.cond (.tmp 12) (.z (.op (some 13) y6 [] (.build [y5,V.h,V.h,V.h] [])<|
 .op none y6 [2,13] (.store 4 (.t 2) (.t 13))<|
 .aX 3 y2)
 .ret)
 .skip))
 (.z (.m 15 0<|
 .k 16 (.B [Y1,.i,.i]) 14 [(.t 15)]<|
 .m 14 16<|
 .aM 17 0 14 1 14<|
 .P 19 (.extract 2 (.t 14))<|
 .ol 4 [] 55 [y5,y0,V.h,V.h,V.h]<|
 .op none Y1 [4,17] (.store 5 (.t 4) (.t 17))<|
 .aB 5 18 19<|
 .nil)
 (.seq (.z (.bX 20 6 0)
 (.cond (.tmp 21) (.z (.op (some 22) y6 [] (.build [y5,V.h,V.h,V.h] [])<|
 .op none y6 [2,22] (.store 4 (.t 2) (.t 22))<|
 .aX 3 y2)
 .ret)
 .skip))
 (.z (.O 24 Y1 (.load (some 5) (.t 4))<|
 .k 25 (.B [y6,.i,.i]) 15 [(.t 24)]<|
 .m 23 25<|
 .aM 26 0 23 1 23<|
 .P 28 (.extract 2 (.t 23))<|
 .p 7 [] y31<|
 .op none y6 [7,26] (.store 4 (.t 7) (.t 26))<|
 .aB 8 27 28<|
 .nil)
 (.seq (.Q [(2,.o),(7,.o),(9,.i)] [] [] (.wl me ma [(2,.o),(3,.bool)]))
 .ret))))))
def AFh(a:BS)(U:H):AE:=
 let b:=Cb U (.cells [.N ⟨0,0⟩,V.h,V.h,V.h]);
 AK (C5 (AA 3000) (AA (BS.len a))) (
 DO 4 (H.j U) 0 (V.agg [sN 0 0,V.h,V.h,V.h]) b λc=>
 Bv E c (H.j U) 0 4 λd=>
 some ((V.B [.agg d,.bool false]),c)) (
 cT (D 14 [.N a] b) λb c=>
 Ab b λb d=>
 Cp b λb=>
 uD b λb e f g h=>
 uE d λd i=>
 JI (BH (eD b e f g h)) (
 AK (not (B8 i (AA 0))) (
 DO 4 (H.j U) 0 (V.agg [sN 0 0,V.h,V.h,V.h]) c λd=>
 Bv E d (H.j U) 0 4 λi=>
 some ((V.B [.agg i,.bool false]),d)) (
 cT (D 15 [.agg (eD b e f g h)] c) λb c=>
 Ab b λb d=>
 Cp b λb=>
 uA b λb e f g=>
 uE d λd h=>
 let d:=Cb c (.cells [.N ⟨0,0⟩,V.h,V.h,V.h]);
 DO 4 (H.j c) 0 (V.agg (eA b e f g)) d λb=>
 CM (W me ma [(2,.o (H.j U) 0),(7,.o (H.j c) 0),(9,.int .i64 h)] b) λb c=>
 Bj b 2 λd=>
 BL d λd e=>
 Bj b 3 λb=>
 DB b λb=>
 Bv E c d e 4 λd=>
 some ((V.B [.agg d,.bool b]),c))))
def F7(N:Nat)(args:List V)(U:H):AE:=
 Ti args λa b=>
 Ay b (
 AFh E D W a U)
def A7:DD:=⟨38,[.N],[(.cell 2 (some 4)),(.tmp 3)],AYC⟩
theorem FE7 args U:BZ E D W N A7 args U=F7 E D W N args U:=by kernel_rfl
def q8a:List (Nat × Cc):=[(0,.o),(1,(.int .u64)),(6,.i)]
def ABn(E:EB):St->AE:=λs=>Dc E s [] λl=>some (Dq l,s.U)
def ARz(a:XC):XC:=(.z (.cH 7 2 64 0<|
 .m 2 9<|
 .nil)
 (.z (.cB 10 2 1<|
 .m 6 11<|
 .nil)
 (.block 0 (.loop q8a [] [] a))))
def AFg(E:EB)(D:Ac)(W:AF)(K1:Nat->Nat->Int->Int->H->AE)(a b:Nat)(c d:Int)(U:H):AE:=
 K1 a b c (Dj .i64 (Gr (AA 0) (G8 d (AA 64))) (AA 1)) U
def ABr:XC:=(.seq (.z (.m 12 6<|
 .b 13 .geq .none (.t 12) (.i 0)<|
 .nil)
 y41)
 (.seq (.block 1 (.Y (.cE 16 0 0<|
 .aB 19 1 6<|
 .P 21 (.i7 (.jp .u64) (.t 20))<|
 .b 22 .shr .none (.t 19) (.t 21)<|
 .b 23 .and .none (.t 22) xr<|
 .P 24 (.i7 (.jp .i64) (.t 23))<|
 .bE 25 y8 16 18 24)))
 (.Y (.cB 14 6 1<|
 .m 6 15<|
 .nil))))
def AFf(E:EB)(D:Ac)(W:AF)(f:Nat->Nat->Int->Int->H->AE)(a b:Nat)(c d:Int)(U:H):AE:=
 AK (HL (AA 0) d) (
 T7 (An .u64 d) λe=>
 c0 (D 16 [.o a b,.int .i64 (An .i64 (MD .u64 (J0 .u64 c e) (AA 1)))] U) λe=>
 f a b c (Dj .i64 d (AA 1)) e) (
 r0 U)
def AVx(a b:Nat)(c d:Int)(U:H):St:=⟨[(0,.o a b),(1,.int .u64 c),(2,.int .i64 d)],[],[],U⟩
def AVw(a b:Nat)(c d:Int)(U:H):St:=⟨[(0,.o a b),(1,.int .u64 c),(6,.int .i64 d)],[],[],U⟩
def AAx(E:EB)(D:Ac)(W:AF)(N:Nat)(n:Nat):Nat->Nat->Int->Int->H->AE:=
 Nat.rec (λ_ _ _ _ _=>none) (λ_ a=>AFf E D W a) n
theorem AOj n:
 (λa b c d U=>BM (λf g=>Au E D W N ABr g (kX q8a [] [] f) (BR 0 (ABn E) nX) (ABn E)) n (AVw a b c d U))=AAx E D W N n:=O4 (λ_=>by kernel_rfl) n
def AH7:=AFg E D W (AAx E D W N N)
theorem AOo:
 (λa b c d U=>Au E D W N (ARz ABr) (AVx a b c d U) (ABn E) nX (ABn E))=AH7 E D W N:=by
 unfold AH7;rw[<-AOj];generalize ABr=k;revert k;refine id ?_;intros;kernel_rfl
def F8(args:List V)(U:H):AE:=
 uF args λa b c d=>
 AH7 E D W N a b c d U
def A8:DD:=⟨26,[.o,(.int .u64),.i],[],(ARz ABr)⟩
theorem FE8 args U:BZ E D W N A8 args U=F8 E D W N args U:=by
 unfold F8;rw[<-AOo];kernel_rfl
def AYB:XC:=(.Y (.bS 6 0 1 2<|
 .p 9 [7,8] (.min (.t 7) [(.t 8)])<|
 .m 10 2<|
 .k 11 .i 17 [(.t 10)]<|
 .bD 12 y8 8 6 9 11))
def AFe(E:EB)(D:Ac)(W:AF)(a:V)(b c:Int)(U:H):AE:=
 cI (D 17 [.int .u64 c] U) λd e=>
 c0 (D 8 [a,.int .u64 (G8 b c),.int .i64 d] e) λd=>
 r0 d
def F9(N:Nat)(args:List V)(U:H):AE:=
 uG args λa b c=>
 AFe E D W a b c U
def A9:DD:=⟨13,[.any,(.int .u64),(.int .u64)],[],AYB⟩
theorem FE9 args U:BZ E D W N A9 args U=F9 E D W N args U:=by kernel_rfl
def ALW:List (Nat × Cc):=[(0,.any),(1,.any),(4,.any),(5,.i)]
def jj(E:EB):St->AE:=λs=>Dc E s [] λl=>some (Dq l,s.U)
def ADg(a:XC):XC:=(.z (.bZ 6 1<|
 .k 8 .S 18 [(.t 7)]<|
 .m 4 8<|
 .nil)
 (.z (.aL 5 0)
 (.block 0 (.loop ALW [] [] a))))
def iy(E:EB)(D:Ac)(W:AF)(K1:V->V->V->Int->H->AE)(a b:V)(U:H):AE:=
 Ao b λc=>
 CD (D 18 [.int .i64 (AA c)] U) λc d=>
 CI c (
 K1 a b c (AA 0) d)
def kL:XC:=(.seq (.z (.aB 9 5 4<|
 .u 11 10<|
 .aE 12 9 11)
 (.cond (.tmp 12) .skip
 LM))
 (.seq (.block 1 (.z (.cA 15 0 4 5 1 .i<|
 .bE 20 y8 19 15 19)
 (.z (.aB 21 0 1<|
 .bL 23 4 5 1 .i<|
 .p 27 [22,26] (.sliceSl 1 (.t 22) none (some (.t 26)) none)<|
 .bE 28 y8 20 21 27)
 (.Y (.cA 29 1 4 5 1 .i<|
 .p 34 [29,33] (.sliceSl 1 (.t 29) (some (.t 33)) none none)<|
 .aG 1 34)))))
 (.Y (.m 13 5<|
 .aC 14 13 1 5))))
def RN(E:EB)(D:Ac)(W:AF)(h:V->V->V->Int->H->AE)(a b c:V)(d:Int)(U:H):AE:=
 Ao c λe=>
 AK (C5 d (AA e)) (
 AS 1 c d λe f=>
 lI E U e f λe=>
 c0 (D 19 [a,.int .i64 e] U) λe=>
 AS 1 c d λf g=>
 lI E e f g λf=>
 gK (CT 1 b none (some (V.int .i64 f)) none) λf=>
 c0 (D 20 [a,f] e) λe=>
 AS 1 c d λf g=>
 lI E e f g λf=>
 gK (CT 1 b (some (V.int .i64 f)) none none) λf=>
 h a f c (BQ .i64 d (AA 1)) e) (
 r0 U)
def AOh(a b:V)(U:H):St:=⟨[(0,a),(1,b)],[],[],U⟩
def AOg(a b c:V)(d:Int)(U:H):St:=⟨[(0,a),(1,b),(4,c),(5,.int .i64 d)],[],[],U⟩
def vD(E:EB)(D:Ac)(W:AF)(N:Nat)(n:Nat):V->V->V->Int->H->AE:=
 Nat.rec (λ_ _ _ _ _=>none) (λ_ a=>RN E D W a) n
theorem AHV n:
 (λa b c d U=>BM (λf g=>Au E D W N kL g (kX ALW [] [] f) (BR 0 (jj E) nX) (jj E)) n (AOg a b c d U))=vD E D W N n:=O4 (λ_=>by kernel_rfl) n
def wE:=iy E D W (vD E D W N N)
theorem AH6:
 (λa b U=>Au E D W N (ADg kL) (AOh a b U) (jj E) nX (jj E))=wE E D W N:=by
 unfold wE;rw[<-AHV];generalize kL=i;revert i;refine id ?_;intros;kernel_rfl
def F10(args:List V)(U:H):AE:=
 uH args λa b=>
 wE E D W N a b U
def A10:DD:=⟨35,nU,[],(ADg kL)⟩
theorem AXD args U:BZ E D W N A10 args U=F10 E D W N args U:=by
 unfold F10;rw[<-AH6];kernel_rfl
def ASz:XC:=(.z (.P 3 (.box 31 (.t 0))<|
 .P 5 (.box 49 (.t 2))<|
 .c 6 V.h<|
 .aL 7 0)
 (.seq (.block 0 (.z (.O 11 y6 (.load (some 4) (.t 3))<|
 .aY 12 1 y3 6 5<|
 .k 14 .bool 21 [(.t 11),(.t 12),(.t 13)]<|
 .P 15 (.un .not (.t 14))<|
 .m 16 15<|
 .gO 16 false (.op (some 17) y6 [3,16] (.load (some 4) (.t 3))<|
 .op (some 18) .bool [17,16] (.call 22 [(.t 17)])<|
 .p 19 [18,16] (.un .not (.t 18))<|
 .nil) 20 16 19<|
 .aG 10 20)
 (.cond (.tmp 10) (.z (.c 6 V.h<|
 .q 7 13<|
 .nil)
 .ret)
 (.z (.O 22 y3 (.load (some 6) (.t 5))<|
 .k 23 .bool 23 [(.t 22),(.i 2)]<|
 .P 24 (.un .not (.t 23))<|
 .m 21 24<|
 .nil)
 (.cond (.tmp 21) (.z (.c 6 V.h<|
 .q 7 16<|
 .nil)
 .ret)
 .skip)))))
 (.z (.op (some 25) (.agg [.any,.i]) [] (.build [V.h,y0] [])<|
 .P 26 (.box 73 (.t 25))<|
 .O 27 y6 (.load (some 4) (.t 3))<|
 .op (some 28) (.agg [.any,.N,.any,.any,.any]) [26,27] (.build [V.nilp,y5,V.h,V.h,V.h] [(0,1,(.t 26)),(1,4,(.t 27))])<|
 .P 29 (.box 75 (.t 28))<|
 .aG 8 29)
 (.z (.aB 30 8 1<|
 .O 32 y3 (.load (some 6) (.t 5))<|
 .bD 33 y8 24 30 31 32)
 (.z (.bT 34 8 0<|
 .k 38 .S 25 [(.t 37)]<|
 .aG 9 38)
 (.seq (.z (.bZ 39 9<|
 .bM 41 40 70000)
 (.cond (.tmp 41) (.z (.c 6 V.h<|
 .aL 7 5)
 .ret)
 .skip))
 (.z (.m 42 9<|
 .m 6 42<|
 .aL 7 0)
 .ret)))))))
def tN(E:EB)(D:Ac)(W:AF)(a:BS)(b c d:V)(e f g:Int)(h i:V)(j:Int)(k:V)(U:H):AE:=
 Ht (eA a b c d) U λl=>
 Ht (eI f g h i j k) l λm=>
 Bv E m (H.j U) 0 4 λn=>
 uA n λn o p q=>
 Bv E m (H.j l) 0 6 λr=>
 uI r λr s t u v w=>
 cB (D 21 [.agg (eA n o p q),.int .i64 e,.agg (eI r s t u v w)] m) λm n=>
 Ax (λo p=>
 AK o (
 some ((V.B [V.h,iN 13]),p)) (
 Bv E p (H.j l) 0 6 λo=>
 uI o λo q r s t u=>
 cB (D 23 [.agg (eI o q r s t u),iN 2] p) λo p=>
 AK (not o) (
 some ((V.B [V.h,iN 16]),p)) (
 Ht [V.h,iN 0] p λo=>
 Bv E o (H.j U) 0 4 λq=>
 uA q λq r s t=>
 Ht [.o (H.j p) 0,.N q,r,s,t] o λp=>
 Bv E p (H.j l) 0 6 λl=>
 uI l λl q r s t u=>
 c0 (D 24 [.o (H.j o) 0,.int .i64 e,.agg (eI l q r s t u)] p) λl=>
 DF E l (H.j o) 0 λo=>
 CD (D 25 [o] l) λl o=>
 CI l (
 Ao l λp=>
 AK (C5 (AA 70000) (AA p)) (
 some ((V.B [V.h,iN 5]),o)) (
 some ((V.B [l,iN 0]),o)))))) λl=>
 AK (not m) (
 l true n) (
 Bv E n (H.j U) 0 4 λm=>
 uA m λm o p q=>
 cB (D 22 [.agg (eA m o p q)] n) λm n=>
 l (not m) n)
def F11(N:Nat)(args:List V)(U:H):AE:=
 Ab args λa b=>
 Cp a λa=>
 uA a λa c d e=>
 D3 .i64 b λb f=>
 Ab f λf g=>
 Cp f λf=>
 uI f λf h i j k l=>
 Ay g (
 tN E D W a c d e b f h i j k l U)
def A11:DD:=⟨43,[y6,.i,y3],[(.tmp 6),(.tmp 7)],ASz⟩
theorem AXC args U:BZ E D W N A11 args U=F11 E D W N args U:=by kernel_rfl
def ASy:XC:=(.z (.aX 4 y2)
 (.z (.m 5 0<|
 .P 6 (.i7 .toStr (.t 5))<|
 .m 7 1<|
 .P 8 (.i7 .toStr (.t 7))<|
 .b 9 .eql .none (.t 6) (.t 8)<|
 .m 4 9<|
 .nil)
 .ret))
def tM(E:EB)(D:Ac)(W:AF)(a b:V)(U:H):AE:=
 J7 E U a λc=>
 J7 E U b λd=>
 rB (BS.beq c d) U
def F12(N:Nat)(args:List V)(U:H):AE:=
 uH args λa b=>
 tM E D W a b U
def A12:DD:=⟨10,nU,[(.tmp 4)],ASy⟩
theorem AXB args U:BZ E D W N A12 args U=F12 E D W N args U:=by kernel_rfl
def ASx:XC:=(.z (.aS 2)
 (.z (.cE 4 0 0<|
 .k 7 .S 26 [(.t 6)]<|
 .m 3 7<|
 .nil)
 (.seq (.z (.bZ 8 3<|
 .cI 10 9 0)
 (.cond (.tmp 10) (.z (.p 11 [] y13<|
 .m 2 11<|
 .nil)
 .ret)
 .skip))
 (.z (.m 12 3<|
 .aG 2 12)
 .ret))))
def iw(E:EB)(D:Ac)(W:AF)(a b:Nat)(U:H):AE:=
 CD (D 26 [.o a b] U) λc d=>
 CI c (
 Ao c λe=>
 AK (B8 (AA e) (AA 0)) (
 let e:=Cb d (.cells [.int .u8 (AA 0)]);
 some ((V.D (H.j d) 0 1 (.ex 1)),e)) (
 some (c,d)))
def F13(N:Nat)(args:List V)(U:H):AE:=
 Ab args λa b=>
 BL a λa c=>
 Ay b (
 iw E D W a c U)
def A13:DD:=⟨13,[.o],[(.tmp 2)],ASx⟩
theorem AXA args U:BZ E D W N A13 args U=F13 E D W N args U:=by kernel_rfl
def Tu:List (Nat × Cc):=[(2,.o),(8,.o)]
def ADF:List BO:=[⟨(some 140),.build [(V.N ⟨0,0⟩),(V.int .i64 (AA 0)),V.h,V.h,V.h] [],none⟩,⟨(some 141),.L (.tmp 8),none⟩,⟨(some 142),.rg (.tmp 141),none⟩,⟨(some 143),.C 8 (.tmp 142),none⟩,⟨(some 144),.load none (.tmp 143),none⟩,⟨(some 145),.L (.tmp 8),none⟩,⟨(some 146),.rg (.tmp 145),none⟩,⟨(some 147),.C 7 (.tmp 146),none⟩,⟨(some 148),.load none (.tmp 147),none⟩,⟨none,.store 5 (.tmp 2) (.tmp 140),none⟩,⟨(some 3),.L (.tmp 144),none⟩,⟨(some 4),.L (.tmp 148),none⟩]
def AC9:List DP:=[⟨0,[]⟩,⟨0,[8]⟩,⟨2,[141]⟩,⟨6,[142]⟩,⟨14,[143]⟩,⟨0,[8]⟩,⟨32,[145]⟩,⟨96,[146]⟩,⟨224,[147]⟩,⟨1,[2,140]⟩,⟨543,[144]⟩,⟨2047,[148]⟩]
def Lh(E:EB):St->AE:=λs=>Dc E s [(.cell 2 (some 5)),(.tmp 3),(.tmp 4)] λl=>some (Dq l,s.U)
def AMa(c0:XC):Nat->St->AE:=BR 1 (dX E D W N (.Q Tu [] [] c0) (Lh E) nX (Lh E)) nX
def ADf(a:XC):XC:=(.z (.p 2 [] (.alloc 55 [y5,y0,V.h,V.h,V.h])<|
 .q 3 0<|
 .aL 4 0)
 (.z (.m 13 0<|
 .k 14 (.B [.any,.i,.i]) 27 [(.t 13)]<|
 .m 12 14<|
 .aM 15 0 12 1 12<|
 .P 17 (.extract 2 (.t 12))<|
 .aB 5 15 16<|
 .aG 7 17)
 (.seq (.z (.bX 18 7 0)
 (.cond (.tmp 19) (.z (.op (some 20) Y1 [] (.build [y5,y0,V.h,V.h,V.h] [])<|
 .aB 21 6 7<|
 .op none Y1 [2,20] (.store 5 (.t 2) (.t 20))<|
 .aB 3 21 22<|
 .nil)
 .ret)
 .skip))
 (.z (.m 23 5<|
 .op (some 24) (.agg [.any,.i,.N,.i,.any,.any,.any,.i,.i]) [23] (.build [V.h,y0,y5,y0,V.h,V.h,V.h,y0,y0] [(0,1,(.t 23))])<|
 .P 25 (.box 82 (.t 24))<|
 .aG 8 25)
 (.z (.aB 26 8 8<|
 .k 28 .N 28 [(.t 27),(.i 1)]<|
 .n 29 26<|
 .f 30 2 29<|
 .bC 31 0 30 1 28)
 (.z (.bB 32 8 y8 29 11 100710650190388740279911748)
 (.seq (.block 0 (.z (.m 35 8<|
 .k 36 .bool 30 [(.t 35),y43]<|
 .bV 34)
 (.cond (.tmp 34) (.Y (.m 37 8<|
 .k 38 y8 29 [(.t 37),y37]<|
 .nil))
 (.z (.m 40 8<|
 .k 41 .bool 30 [(.t 40),y44]<|
 .bV 39)
 (.cond (.tmp 39) (.z (.cE 42 8 2<|
 .aJ 45 1 44 1 1<|
 .nil)
 (.Y (.m 46 8<|
 .k 47 y8 29 [(.t 46),y37]<|
 .nil)))
 (.z (.aV 49 8 .bool 30 9 1241215773001651606849<|
 .bV 48)
 (.cond (.tmp 48) (.z (.cE 51 8 2<|
 .aJ 54 1 53 1 2<|
 .nil)
 (.Y (.m 55 8<|
 .k 56 y8 29 [(.t 55),y37]<|
 .nil)))
 .skip)))))))
 (.Q Tu [] [] a))))))))
def iu(E:EB)(D:Ac)(W:AF)(K1:Nat->Nat->Nat->Nat->H->AE)(a:BS)(U:H):AE:=
 let b:=Cb U (.cells [.N ⟨0,0⟩,iN 0,V.h,V.h,V.h]);
 cT (D 27 [.N a] b) λb c=>
 uC b λb d e=>
 AK (not (B8 e (AA 0))) (
 DO 5 (H.j U) 0 (V.agg [sN 0 0,iN 0,V.h,V.h,V.h]) c λf=>
 Bv E f (H.j U) 0 5 λg=>
 some ((V.B [.agg g,.int .i64 d,.int .i64 e]),f)) (
 H9 [(0,1,b)] [V.h,iN 0,.N ⟨0,0⟩,iN 0,V.h,V.h,V.h,iN 0,iN 0] λb=>
 uJ b λb d e f g h i j k=>
 Ht (eJ b d e f g h i j k) c λb=>
 cS (D 28 [.o (H.j c) 0,iN 1] b) λb d=>
 DO 1 (H.j c) 2 (V.N b) d λb=>
 c0 (D 29 [.o (H.j c) 0,sN 11 100710650190388740279911748] b) λb=>
 cB (D 30 [.o (H.j c) 0,sN 8 6073459554577832005] b) λb d=>
 AK b (
 c0 (D 29 [.o (H.j c) 0,sN 4 1397178708] d) λb=>
 K1 (H.j U) 0 (H.j c) 0 b) (
 cB (D 30 [.o (H.j c) 0,sN 8 6073459554577829193] d) λb d=>
 AK b (
 DO 1 (H.j c) 3 (iN 1) d λb=>
 c0 (D 29 [.o (H.j c) 0,sN 4 1397178708] b) λb=>
 K1 (H.j U) 0 (H.j c) 0 b) (
 cB (D 30 [.o (H.j c) 0,sN 9 1241215773001651606849] d) λb d=>
 AK b (
 DO 1 (H.j c) 3 (iN 2) d λb=>
 c0 (D 29 [.o (H.j c) 0,sN 4 1397178708] b) λb=>
 K1 (H.j U) 0 (H.j c) 0 b) (
 K1 (H.j U) 0 (H.j c) 0 d))))
def kK(a:XC)(b:XC):XC:=(.z (.bB 57 8 y8 29 3 4012602)
 (.z (.bB 59 8 y8 29 5 336236856642)
 (.seq (.block 1 (.loop Tu [] [] b))
 (.Q Tu [] [] a))))
def ir(E:EB)(D:Ac)(W:AF)(f:Nat->Nat->Nat->Nat->H->AE)(a b c d:Nat)(U:H):AE:=
 c0 (D 29 [.o c d,sN 3 4012602] U) λe=>
 c0 (D 29 [.o c d,sN 5 336236856642] e) λe=>
 f a b c d e
def Ln(a:XC):XC:=(.seq (.z (.aI 120 8<|
 .aK 122 7 121 0<|
 .m 125 124<|
 .gA 125 true (.p 126 [8,125] xq<|
 .op (some 127) y7 [126,125] (.call 31 [(.t 126)])<|
 .op (some 128) .i [127,125] (.field 0 none (.t 127))<|
 .p 129 [128,125] (.pp .neq .none (.t 128) (.i 0))<|
 .nil) 130 125 129<|
 .nil)
 (.cond (.tmp 130) (.Y (.aB 131 8 8<|
 .k 133 y7 31 [(.t 132)]<|
 .k 134 y8 32 [(.t 131),(.i 7),(.t 133)]<|
 .nil))
 .skip))
 (.Q Tu [] [] a))
def TD(E:EB)(D:Ac)(W:AF)(K5:Nat->Nat->Nat->Nat->H->AE)(a b c d:Nat)(U:H):AE:=
 lI E U c (AM d 7) λe=>
 Ax (λf g=>
 AK f (
 cA (D 31 [.o c d] g) λf h=>
 uK f λf i j=>
 c0 (D 32 [.o c d,iN 7,.agg (eK f i j)] h) λf=>
 K5 a b c d f) (
 K5 a b c d g)) λf=>
 AK (B8 e (AA 0)) (
 cA (D 31 [.o c d] U) λe g=>
 uK e λe h i=>
 f (not (B8 e (AA 0))) g) (
 f false U)
def Tg(a:XC):XC:=(.seq (.z (.aI 61 8<|
 .aK 63 7 62 0<|
 .m 66 65<|
 .gA 66 true (.p 67 [8,66] xq<|
 .op (some 68) .bool [67,66] (.call 30 [(.t 67),(.T (V.N ⟨3,4476485⟩))])<|
 .p 69 [68,66] (.un .not (.t 68))<|
 .nil) 70 66 69<|
 .nil)
 (.cond (.tmp 70) .skip
 (.exit 1)))
 (.block 2 (.z (.m 71 8<|
 .k 72 y7 31 [(.t 71)]<|
 .ol 9 [] 87 [y0,y5,y0]<|
 .op none y7 [9,72] (.store 3 (.t 9) (.t 72))<|
 .nil)
 (.z (.m 73 8<|
 .k 74 .N 28 [(.t 73),(.i 1)]<|
 .aG 10 74)
 (.seq (.z (.aI 75 8<|
 .aK 77 7 76 0<|
 .m 80 79<|
 .gA 80 true (.bN 81 8 80 xq 80<|
 .p 83 [82,80] (.C 2 (.t 82))<|
 .aF 84 83 80 2 83 80 80<|
 .p 87 [86,80] (.pp .geq .none (.t 86) (.i 40))<|
 .nil) 88 80 87<|
 .nil)
 (.cond (.tmp 88) (.Y (.aY 89 8 y7 3 9<|
 .k 91 y8 32 [(.t 89),(.i 5),(.t 90)]<|
 .nil))
 .skip))
 (.Q [(2,.o),(8,.o),(10,.N)] [] [] a))))))
def TC(E:EB)(D:Ac)(W:AF)(K2:Nat->Nat->Nat->Nat->H->AE)(o:Nat->Nat->Nat->Nat->BS->H->AE)(a b c d:Nat)(U:H):AE:=
 lI E U c (AM d 7) λe=>
 Ax (λf g=>
 AK f (
 cA (D 31 [.o c d] g) λf h=>
 uK f λf i j=>
 cS (D 28 [.o c d,iN 1] h) λh k=>
 lI E k c (AM d 7) λl=>
 Ax (λm n=>
 AK m (
 c0 (D 32 [.o c d,iN 5,.agg (eK f i j)] n) λf=>
 o a b c d h f) (
 o a b c d h n)) λf=>
 AK (B8 l (AA 0)) (
 lL E k c (AM (AM d 2) 2) λh=>
 f (HL (AA 40) (AA h)) k) (
 f false k)) (
 K2 a b c d g)) λf=>
 AK (B8 e (AA 0)) (
 cB (D 30 [.o c d,sN 3 4476485] U) λe g=>
 f (not e) g) (
 f false U)
def O1:XC:=(.z (.bB 92 8 y8 29 3 4012602)
 (.z (.m 94 8<|
 .k 95 .i 33 [(.t 94),(.i 0)]<|
 .aG 11 95)
 (.z (.aB 96 8 8<|
 .n 98 97<|
 .f 99 2 98<|
 .bF 100 2 99 10<|
 .aQ 103 102 9 1 y5 0 1 102 .S 9 1 16 101<|
 .n 105 96<|
 .f 106 2 105<|
 .bC 107 2 106 1 104)
 (.Y (.aB 108 8 8<|
 .n 110 109<|
 .f 111 2 110<|
 .bF 112 3 111 11<|
 .aQ 115 114 3 1 y0 0 1 114 .S 3 1 8 113<|
 .n 117 108<|
 .f 118 2 117<|
 .bC 119 3 118 1 116)))))
def iq(E:EB)(D:Ac)(W:AF)(j:Nat->Nat->Nat->Nat->H->AE)(a b c d:Nat)(e:BS)(U:H):AE:=
 c0 (D 29 [.o c d,sN 3 4012602] U) λf=>
 cI (D 33 [.o c d,iN 0] f) λf g=>
 DF E g c (AM (AM d 2) 2) λh=>
 let i:=Cb g (.cells [.N e]);
 Dx E 1 16 h (V.D (H.j g) 0 1 (.ex 1)) i λg h=>
 CI g (
 DO 1 c (AM (AM d 2) 2) g h λg=>
 DF E g c (AM (AM d 2) 3) λh=>
 let i:=Cb g (.cells [.int .i64 f]);
 Dx E 1 8 h (V.D (H.j g) 0 1 (.ex 1)) i λf g=>
 CI f (
 DO 1 c (AM (AM d 2) 3) f g λf=>
 j a b c d f))
def Lm:XC:=(.seq (.z (.aI 135 8<|
 .aW 137 7 136 0<|
 .nil)
 (.cond (.tmp 139) (.seq (.Q Tu [] [] (.wl ADF AC9 [(2,.o),(3,.i),(4,.i)]))
 .ret)
 .skip))
 (.z (.cE 149 8 2<|
 .bI 152 Y1 5 151 Y1 2 5 2<|
 .q 3 0<|
 .aL 4 0)
 .ret))
def TB(E:EB)(D:Ac)(W:AF)(a b c d:Nat)(U:H):AE:=
 lI E U c (AM d 7) λe=>
 AK (not (B8 e (AA 0))) (
 CM (W ADF AC9 [(2,.o a b),(8,.o c d)] U) λe f=>
 Bj e 2 λg=>
 BL g λg h=>
 Bj e 3 λi=>
 DZ .i64 i λi=>
 Bj e 4 λe=>
 DZ .i64 e λe=>
 Bv E f g h 5 λg=>
 some ((V.B [.agg g,.int .i64 i,.int .i64 e]),f)) (
 Bv E U c (AM d 2) 5 λe=>
 uD e λe f g h i=>
 DO 5 a b (V.agg (eD e f g h i)) U λe=>
 Bv E e a b 5 λf=>
 some ((V.B [.agg f,iN 0,iN 0]),e))
def AOf(a:BS)(U:H):St:=⟨[(0,.N a)],[],[],U⟩
def jN(a b c d:Nat)(U:H):St:=⟨[(2,.o a b),(8,.o c d)],[],[],U⟩
def AOe(a b c d:Nat)(e:BS)(U:H):St:=⟨[(2,.o a b),(8,.o c d),(10,.N e)],[],[],U⟩
def APV(E:EB)(D:Ac)(W:AF)(N:Nat):=TB E D W
def v8:=TD E D W (APV E D W N )
theorem AH3:
 (λa b c d U=>Au E D W N (Ln Lm) (jN a b c d U) (Lh E) nX (Lh E))=v8 E D W N:=by
 unfold v8;kernel_rfl
def vz(E:EB)(D:Ac)(W:AF)(N:Nat)(a:Nat->Nat->Nat->Nat->H->AE):=iq E D W a
theorem AH2 h:
 (λa b c d e U=>Au E D W N O1 (AOe a b c d e U) (kX Tu [] [] h) (BR 2 (kX Tu [] [] h) (AMa E D W N (Ln Lm))) (Lh E))=vz E D W N (λa b c d U=>h (jN a b c d U)):=by
 unfold vz;generalize Ln Lm=m;revert m;refine id ?_;intros;kernel_rfl
def Yf(n:Nat):Nat->Nat->Nat->Nat->H->AE:=
 Nat.rec (λ_ _ _ _ _=>none) (λ_ a=>TC E D W (v8 E D W N ) (vz E D W N a)) n
theorem AHU n:
 (λa b c d U=>BM (λj l=>Au E D W N (Tg O1) l (kX Tu [] [] j) (AMa E D W N (Ln Lm)) (Lh E)) n (jN a b c d U))=Yf E D W N n:=O4 (λp=>by rw[<-AH3,<-AH2];generalize Ln Lm=k,O1=m;revert k m;refine id ?_;intros;kernel_rfl) n
def wA:=ir E D W (Yf E D W N N)
theorem AH4:
 (λa b c d U=>Au E D W N (kK (Ln Lm) (Tg O1)) (jN a b c d U) (Lh E) nX (Lh E))=wA E D W N:=by
 unfold wA;rw[<-AHU];generalize Ln Lm=k,Tg O1=l;revert k l;refine id ?_;intros;kernel_rfl
def wB:=iu E D W (wA E D W N )
theorem AH5:
 (λa U=>Au E D W N (ADf (kK (Ln Lm) (Tg O1))) (AOf a U) (Lh E) nX (Lh E))=wB E D W N:=by
 unfold wB;rw[<-AH4];generalize kK (Ln Lm) (Tg O1)=h;revert h;refine id ?_;intros;kernel_rfl
def F14(args:List V)(U:H):AE:=
 Ti args λa b=>
 Ay b (
 wB E D W N a U)
def A14:DD:=⟨153,[.N],[(.cell 2 (some 5)),(.tmp 3),(.tmp 4)],(ADf (kK (Ln Lm) (Tg O1)))⟩
theorem AW9 args U:BZ E D W N A14 args U=F14 E D W N args U:=by
 unfold F14;rw[<-AH5];kernel_rfl
def yl:List (Nat × Cc):=[(1,.o),(2,.o),(8,.o),(9,.o),(10,.i)]
def ALV:List (Nat × Cc):=[(2,.o),(8,.o),(9,.o)]
def TS:List BO:=[⟨(some 25),.C 0 (.tmp 1),none⟩,⟨(some 26),.load none (.tmp 25),none⟩,⟨(some 27),.C 2 (.tmp 1),none⟩,⟨(some 28),.load none (.tmp 27),none⟩,⟨(some 29),.append 9 1 16 (.T V.h) (.tmp 28),none⟩,⟨(some 30),.build [(V.N ⟨0,0⟩),V.h,V.h,V.h] [(0,1,(.tmp 26)),(1,1,(.tmp 29))],none⟩,⟨(some 9),.alloc 31 [(V.N ⟨0,0⟩),V.h,V.h,V.h],none⟩,⟨none,.store 4 (.tmp 9) (.tmp 30),none⟩]
def Ow:List DP:=[⟨0,[1]⟩,⟨1,[25]⟩,⟨0,[1]⟩,⟨4,[27]⟩,⟨12,[28]⟩,⟨31,[26,29]⟩,⟨0,[]⟩,⟨127,[9,30]⟩]
def TR:List BO:=[⟨(some 38),.C 2 (.tmp 9),none⟩,⟨(some 39),.load none (.tmp 38),none⟩,⟨(some 40),.L (.tmp 8),none⟩,⟨(some 41),.C 3 (.tmp 1),none⟩,⟨(some 42),.load none (.tmp 41),none⟩,⟨(some 43),.L (.tmp 10),none⟩,⟨(some 44),.qr 1 (.tmp 42) (.tmp 43),none⟩,⟨(some 45),.load none (.tmp 44),none⟩,⟨(some 46),.call 35 [(.tmp 40),(.tmp 45),(.T (V.int .i64 (AA 0)))],none⟩,⟨(some 47),.buildSlice 3 1 [(V.int .i64 (AA 0))] [(0,1,(.tmp 46))],none⟩,⟨(some 48),.append 3 1 8 (.tmp 39) (.tmp 47),none⟩,⟨(some 49),.C 2 (.tmp 9),none⟩,⟨none,.store 1 (.tmp 49) (.tmp 48),none⟩]
def ND:List DP:=[⟨0,[9]⟩,⟨1,[38]⟩,⟨0,[8]⟩,⟨0,[1]⟩,⟨8,[41]⟩,⟨0,[10]⟩,⟨56,[42,43]⟩,⟨120,[44]⟩,⟨252,[40,45]⟩,⟨508,[46]⟩,⟨1023,[39,47]⟩,⟨2047,[9]⟩,⟨4095,[49,48]⟩]
def ADE:List BO:=[⟨(some 55),.build [(V.N ⟨0,0⟩),V.h,V.h,V.h] [],none⟩,⟨(some 56),.L (.tmp 10),none⟩,⟨(some 57),.L (.tmp 8),none⟩,⟨(some 58),.rg (.tmp 57),none⟩,⟨(some 59),.C 6 (.tmp 58),none⟩,⟨(some 60),.load none (.tmp 59),none⟩,⟨none,.store 4 (.tmp 2) (.tmp 55),none⟩,⟨(some 3),.L (.tmp 56),none⟩,⟨(some 4),.L (.tmp 60),none⟩]
def AC8:List DP:=[⟨0,[]⟩,⟨0,[10]⟩,⟨0,[8]⟩,⟨4,[57]⟩,⟨12,[58]⟩,⟨28,[59]⟩,⟨1,[2,55]⟩,⟨67,[56]⟩,⟨255,[60]⟩]
def Yy(E:EB):St->AE:=λs=>Dc E s [(.cell 2 (some 4)),(.tmp 3),(.tmp 4)] λl=>some (Dq l,s.U)
def AUn(c0:XC):Nat->St->AE:=BR 0 (dX E D W N (.Q ALV [] [] c0) (Yy E) nX (Yy E)) nX
def ADe(b:XC)(a:XC):XC:=(.z (.P 1 (.box 55 (.t 0))<|
 .p 2 [] y31<|
 .q 3 0<|
 .aL 4 0)
 (.z (.O 12 Y1 (.load (some 5) (.t 1))<|
 .k 13 (.B [.any,.i,.i]) 34 [(.t 12)]<|
 .m 11 13<|
 .aM 14 0 11 1 11<|
 .P 16 (.extract 2 (.t 11))<|
 .m 5 14<|
 .m 6 15<|
 .m 7 16<|
 .nil)
 (.seq (.z (.bX 17 7 0)
 (.cond (.tmp 18) (.z (.op (some 19) y6 [] (.build [y5,V.h,V.h,V.h] [])<|
 .aB 20 6 7<|
 .op none y6 [2,19] (.store 4 (.t 2) (.t 19))<|
 .aB 3 20 21<|
 .nil)
 .ret)
 .skip))
 (.z (.O 22 Y1 (.load (some 5) (.t 1))<|
 .op (some 23) (.agg [.N,.i,.any,.any,.any,.any,.i]) [22] (.build [y5,y0,V.h,V.h,V.h,V.h,y0] [(0,5,(.t 22))])<|
 .P 24 (.box 95 (.t 23))<|
 .aG 8 24)
 (.seq (.Q [(1,.o),(2,.o),(8,.o)] [] [] (.wl TS Ow [(1,.o),(2,.o),(8,.o),(9,.o)]))
 (.seq (.z (.aL 10 0)
 (.block 0 (.loop yl [] [] a)))
 (.Q ALV [] [] b)))))))
def ij(K2:Nat->Nat->Nat->Nat->Nat->Nat->Nat->Nat->Int->H->AE)(a:BS)(b:Int)(c d e:V)(U:H):AE:=
 Ht (eD a b c d e) U λf=>
 let g:=Cb f (.cells [.N ⟨0,0⟩,V.h,V.h,V.h]);
 Bv E g (H.j U) 0 5 λh=>
 uD h λh i j k l=>
 cT (D 34 [.agg (eD h i j k l)] g) λg h=>
 uC g λg i j=>
 AK (not (B8 j (AA 0))) (
 DO 4 (H.j f) 0 (V.agg [sN 0 0,V.h,V.h,V.h]) h λg=>
 Bv E g (H.j f) 0 4 λk=>
 some ((V.B [.agg k,.int .i64 i,.int .i64 j]),g)) (
 Bv E h (H.j U) 0 5 λg=>
 uD g λg i j k l=>
 Ht [.N g,.int .i64 i,j,k,l,V.h,iN 0] h λg=>
 CM (W TS Ow [(1,.o (H.j U) 0),(2,.o (H.j f) 0),(8,.o (H.j h) 0)] g) λf g=>
 Bj f 1 λh=>
 BL h λh i=>
 Bj f 2 λj=>
 BL j λj k=>
 Bj f 8 λl=>
 BL l λl m=>
 Bj f 9 λf=>
 BL f λf n=>
 K2 h i j k l m f n (AA 0) g)
def kJ:XC:=(.z (.bT 61 8 5<|
 .bC 65 3 9 1 64)
 (.z (.bI 66 y6 4 9 y6 2 4 2<|
 .q 3 0<|
 .aL 4 0)
 .ret))
def TA(E:EB)(D:Ac)(W:AF)(a b c d e f:Nat)(U:H):AE:=
 DF E U c (AM d 5) λg=>
 DO 1 e (AM f 3) g U λg=>
 Bv E g e f 4 λh=>
 uA h λh i j k=>
 DO 4 a b (V.agg (eA h i j k)) g λg=>
 Bv E g a b 4 λh=>
 some ((V.B [.agg h,iN 0,iN 0]),g)
def kI:XC:=(.seq (.z (.m 31 10<|
 .aP 32 2 1<|
 .aE 35 31 34)
 (.cond (.tmp 35) .skip
 LM))
 (.seq (.block 1 (.seq (.Q yl [] [] (.wl TR ND yl))
 (.z (.aI 50 8<|
 .aW 52 6 51 0<|
 .nil)
 (.cond (.tmp 54) (.seq (.Q [(2,.o),(8,.o),(10,.i)] [] [] (.wl ADE AC8 [(2,.o),(3,.i),(4,.i)]))
 .ret)
 .skip))))
 (.Y (.m 36 10<|
 .aC 37 36 1 10))))
def Q7(E:EB)(D:Ac)(W:AF)(K1:Nat->Nat->Nat->Nat->Nat->Nat->H->AE)(y:Nat->Nat->Nat->Nat->Nat->Nat->Nat->Nat->Int->H->AE)(a b c d e f g h:Nat)(i:Int)(U:H):AE:=
 lL E U a (AM b 2) λj=>
 AK (C5 i (AA j)) (
 CM (W TR ND [(1,.o a b),(2,.o c d),(8,.o e f),(9,.o g h),(10,.int .i64 i)] U) λj k=>
 Bj j 1 λl=>
 BL l λl m=>
 Bj j 2 λn=>
 BL n λn o=>
 Bj j 8 λp=>
 BL p λp q=>
 Bj j 9 λr=>
 BL r λr s=>
 Bj j 10 λj=>
 DZ .i64 j λj=>
 lI E k p (AM q 6) λt=>
 AK (not (B8 t (AA 0))) (
 CM (W ADE AC8 [(2,.o n o),(8,.o p q),(10,.int .i64 j)] k) λt u=>
 Bj t 2 λv=>
 BL v λv w=>
 Bj t 3 λx=>
 DZ .i64 x λx=>
 Bj t 4 λt=>
 DZ .i64 t λt=>
 Bv E u v w 4 λv=>
 some ((V.B [.agg v,.int .i64 x,.int .i64 t]),u)) (
 y l m n o p q r s (BQ .i64 j (AA 1)) k)) (
 K1 c d e f g h U)
def AOd(a:BS)(b:Int)(c d e:V)(U:H):St:=⟨[(0,.agg [.N a,.int .i64 b,c,d,e])],[],[],U⟩
def AOc(a b c d e f g h:Nat)(i:Int)(U:H):St:=⟨[(1,.o a b),(2,.o c d),(8,.o e f),(9,.o g h),(10,.int .i64 i)],[],[],U⟩
def APU(E:EB)(D:Ac)(W:AF)(N:Nat):=TA E D W
def Ye(n:Nat):Nat->Nat->Nat->Nat->Nat->Nat->Nat->Nat->Int->H->AE:=
 Nat.rec (λ_ _ _ _ _ _ _ _ _ _=>none) (λ_ a=>Q7 E D W (APU E D W N ) a) n
theorem AHT n:
 (λa b c d e f g h i U=>BM (λk l=>Au E D W N kI l (kX yl [] [] k) (AUn E D W N kJ) (Yy E)) n (AOc a b c d e f g h i U))=Ye E D W N n:=AE2 (λ_=>by kernel_rfl) n
def vy:=ij E D W (Ye E D W N N)
theorem AH1:
 (λa b c d e U=>Au E D W N (ADe kJ kI) (AOd a b c d e U) (Yy E) nX (Yy E))=vy E D W N:=by
 unfold vy;rw[<-AHT];generalize kJ=l,kI=m;revert l m;refine id ?_;intros;kernel_rfl
def F15(args:List V)(U:H):AE:=
 Ab args λa b=>
 Cp a λa=>
 uD a λa c d e f=>
 Ay b (
 vy E D W N a c d e f U)
def A15:DD:=⟨67,[Y1],[(.cell 2 (some 4)),(.tmp 3),(.tmp 4)],(ADe kJ kI)⟩
theorem AW8 args U:BZ E D W N A15 args U=F15 E D W N args U:=by
 unfold F15;rw[<-AH1];kernel_rfl
def ASw:XC:=(.z (.bX 4 1 0)
 (.cond (.tmp 5) (.Y (.aB 6 0 0<|
 .n 8 7<|
 .aA 9 0 8 .any<|
 .p 11 [] (.buildSlice 5 1 [y34] [(0,1,(.T (V.int .u8 (AA 1))))])<|
 .O 12 .S (.append 5 1 1 (.t 10) (.t 11))<|
 .n 13 6<|
 .bC 14 0 13 1 12))
 (.Y (.aB 15 0 0<|
 .n 17 16<|
 .aA 18 0 17 .any<|
 .p 20 [] y13<|
 .O 21 .S (.append 5 1 1 (.t 19) (.t 20))<|
 .n 22 15<|
 .bC 23 0 22 1 21))))
def tJ(E:EB)(D:Ac)(W:AF)(a b:Nat)(c:Int)(U:H):AE:=
 AK (not (B8 c (AA 0))) (
 DF E U a b λd=>
 let e:=Cb U (.cells [.int .u8 (AA 1)]);
 Dx E 1 1 d (V.D (H.j U) 0 1 (.ex 1)) e λd e=>
 CI d (
 DO 1 a b d e λd=>
 r0 d)) (
 DF E U a b λd=>
 let e:=Cb U (.cells [.int .u8 (AA 0)]);
 Dx E 1 1 d (V.D (H.j U) 0 1 (.ex 1)) e λd e=>
 CI d (
 DO 1 a b d e λd=>
 r0 d))
def F16(N:Nat)(args:List V)(U:H):AE:=
 uL args λa b c=>
 tJ E D W a b c U
def A16:DD:=⟨24,[.o,.i],[],ASw⟩
theorem AW7 args U:BZ E D W N A16 args U=F16 E D W N args U:=by kernel_rfl
def ALU:List (Nat × Cc):=[(0,(.int .u64)),(3,.i)]
def Yx(E:EB):St->AE:=λs=>Dc E s [(.tmp 2)] λl=>some (Dq l,s.U)
def AUm(c0:XC):Nat->St->AE:=BR 0 (dX E D W N (.Q [(3,.i)] [] [] c0) (Yx E) nX (Yx E)) nX
def ADd(b:XC)(a:XC):XC:=(.z (.aL 2 0)
 (.z (.aL 3 0)
 (.seq (.block 0 (.loop ALU [] [] a))
 (.Q [(3,.i)] [] [] b))))
def AM6(E:EB)(D:Ac)(W:AF)(K2:Int->Int->H->AE)(a:Int)(U:H):AE:=
 K2 a (AA 0) U
def kH:XC:=(.z (.m 10 3<|
 .m 2 10<|
 .nil)
 .ret)
def AM5(E:EB)(D:Ac)(W:AF)(a:Int)(U:H):AE:=
 rI a U
def kG:XC:=(.seq (.z (.m 4 0<|
 .b 5 .gtr .none (.t 4) (.T y30)<|
 .nil)
 (.cond (.tmp 5) .skip
 LM))
 (.block 1 (.Y (.m 6 3<|
 .b 7 .add .none (.t 6) (.i 1)<|
 .m 8 0<|
 .b 9 .shr .none (.t 8) xr<|
 .m 3 7<|
 .m 0 9<|
 .nil))))
def AM4(E:EB)(D:Ac)(W:AF)(K1:Int->H->AE)(c:Int->Int->H->AE)(a b:Int)(U:H):AE:=
 AK (C5 (AA 0) a) (
 c (J0 .u64 a 1) (BQ .i64 b (AA 1)) U) (
 K1 b U)
def AOb(a:Int)(U:H):St:=⟨[(0,.int .u64 a)],[],[],U⟩
def AOa(a b:Int)(U:H):St:=⟨[(0,.int .u64 a),(3,.int .i64 b)],[],[],U⟩
def APT(E:EB)(D:Ac)(W:AF)(N:Nat):=AM5 E D W
def AC0(n:Nat):Int->Int->H->AE:=
 Nat.rec (λ_ _ _=>none) (λ_ a=>AM4 E D W (APT E D W N ) a) n
theorem AHS n:
 (λa b U=>BM (λd e=>Au E D W N kG e (kX ALU [] [] d) (AUm E D W N kH) (Yx E)) n (AOa a b U))=AC0 E D W N n:=lp3 (λ_=>by kernel_rfl) n
def vx:=AM6 E D W (AC0 E D W N N)
theorem AH0:
 (λa U=>Au E D W N (ADd kH kG) (AOb a U) (Yx E) nX (Yx E))=vx E D W N:=by
 unfold vx;rw[<-AHS];generalize kH=h,kG=i;revert h i;refine id ?_;intros;kernel_rfl
def F17(args:List V)(U:H):AE:=
 D3 .u64 args λa b=>
 Ay b (
 vx E D W N a U)
def A17:DD:=⟨11,[(.int .u64)],[(.tmp 2)],(ADd kH kG)⟩
theorem AW6 args U:BZ E D W N A17 args U=F17 E D W N args U:=by
 unfold F17;rw[<-AH0];kernel_rfl
def yk:List (Nat × Cc):=[(0,.i),(3,.any)]
def Yw(E:EB):St->AE:=λs=>Dc E s [(.tmp 2)] λl=>some (Dq l,s.U)
def AUl(c0:XC):Nat->St->AE:=BR 0 (dX E D W N (.Q yk [] [] c0) (Yw E) nX (Yw E)) nX
def ADc(b:XC)(a:XC):XC:=(.z (.aS 2)
 (.z (.m 5 0<|
 .p 6 [5] (.max (.i 0) [(.t 5)])<|
 .m 0 6<|
 .nil)
 (.z (.aS 3)
 (.seq (.block 0 (.loop yk [] [] a))
 (.Q yk [] [] b)))))
def ig(E:EB)(D:Ac)(W:AF)(K2:Int->V->H->AE)(a:Int)(U:H):AE:=
 K2 (Gr (AA 0) a) V.h U
def kF:XC:=(.z (.aB 21 3 0<|
 .aQ 23 22 3 1 y0 0 1 22 .S 3 1 8 21<|
 .aG 2 24)
 .ret)
def tH(E:EB)(D:Ac)(W:AF)(a:Int)(b:V)(U:H):AE:=
 let c:=Cb U (.cells [.int .i64 a]);
 Dx E 1 8 b (V.D (H.j U) 0 1 (.ex 1)) c λc d=>
 CI c (
 some (c,d))
def kE:XC:=(.seq (.z (.m 7 0<|
 .b 8 .geq .none (.t 7) (.i 16384)<|
 .nil)
 (.cond (.tmp 8) .skip
 LM))
 (.block 1 (.z (.m 9 0<|
 .b 10 .quo .none (.t 9) (.i 16384)<|
 .p 11 [10] (.min (.t 10) [(.i 4)])<|
 .m 4 11<|
 .nil)
 (.z (.aB 12 3 4<|
 .b 14 .mul .none (.t 13) (.i 16384)<|
 .aQ 15 14 3 1 y0 0 1 14 .S 3 1 8 12<|
 .aG 3 16)
 (.Y (.aB 17 0 4<|
 .b 19 .mul .none (.t 18) (.i 16384)<|
 .b 20 .sub .none (.t 17) (.t 19)<|
 .aG 0 20))))))
def ie(E:EB)(D:Ac)(W:AF)(K1:Int->V->H->AE)(e:Int->V->H->AE)(a:Int)(b:V)(U:H):AE:=
 AK (HL (AA 16384) a) (
 let c:=Cb U (.cells [.int .i64 (O3 .i64 (G8 (NQ .i64 a (AA 16384)) (AA 4)) (AA 16384))]);
 Dx E 1 8 b (V.D (H.j U) 0 1 (.ex 1)) c λc d=>
 CI c (
 e (Dj .i64 a (O3 .i64 (G8 (NQ .i64 a (AA 16384)) (AA 4)) (AA 16384))) c d)) (
 K1 a b U)
def AOZ(a:Int)(U:H):St:=⟨[(0,.int .i64 a)],[],[],U⟩
def AOY(a:Int)(b:V)(U:H):St:=⟨[(0,.int .i64 a),(3,b)],[],[],U⟩
def APS(E:EB)(D:Ac)(W:AF)(N:Nat):=tH E D W
def uy(n:Nat):Int->V->H->AE:=
 Nat.rec (λ_ _ _=>none) (λ_ a=>ie E D W (APS E D W N ) a) n
theorem AHR n:
 (λa b U=>BM (λd e=>Au E D W N kE e (kX yk [] [] d) (AUl E D W N kF) (Yw E)) n (AOY a b U))=uy E D W N n:=lp3 (λ_=>by kernel_rfl) n
def vw:=ig E D W (uy E D W N N)
theorem AHz:
 (λa U=>Au E D W N (ADc kF kE) (AOZ a U) (Yw E) nX (Yw E))=vw E D W N:=by
 unfold vw;rw[<-AHR];generalize kF=h,kE=i;revert h i;refine id ?_;intros;kernel_rfl
def F18(args:List V)(U:H):AE:=
 D3 .i64 args λa b=>
 Ay b (
 vw E D W N a U)
def A18:DD:=⟨25,[.i],[(.tmp 2)],(ADc kF kE)⟩
theorem AW5 args U:BZ E D W N A18 args U=F18 E D W N args U:=by
 unfold F18;rw[<-AHz];kernel_rfl
def ASv:XC:=(.block 0 (.z (.aU 11 1 128<|
 .bV 10)
 (.cond (.tmp 10) (.Y (.aB 13 0 1<|
 .bA 15 14 y8 8 13 8))
 (.z (.aU 18 1 16384<|
 .bV 17)
 (.cond (.tmp 17) (.Y (.aB 20 0 1<|
 .b 22 .add .none (.i 32768) (.t 21)<|
 .bA 23 22 y8 8 20 16))
 (.Y (.aB 4 0 1<|
 .b 6 .quo .none (.t 5) (.i 16384)<|
 .b 7 .add .none (.i 192) (.t 6)<|
 .P 8 (.i7 (.jp .u64) (.t 7))<|
 .k 9 y8 8 [(.t 4),(.t 8),(.i 8)]<|
 .nil)))))))
def YN(E:EB)(D:Ac)(W:AF)(a:V)(b:Int)(U:H):AE:=
 AK (C5 b (AA 128)) (
 c0 (D 8 [a,.int .u64 (An .u64 b),iN 8] U) λc=>
 r0 c) (
 AK (C5 b (AA 16384)) (
 c0 (D 8 [a,.int .u64 (An .u64 (BQ .i64 (AA 32768) b)),iN 16] U) λc=>
 r0 c) (
 c0 (D 8 [a,.int .u64 (An .u64 (BQ .i64 (AA 192) (NQ .i64 b (AA 16384)))),iN 8] U) λc=>
 r0 c))
def F19(N:Nat)(args:List V)(U:H):AE:=
 uB args λa b=>
 YN E D W a b U
def A19:DD:=⟨25,[.any,.i],[],ASv⟩
theorem AW4 args U:BZ E D W N A19 args U=F19 E D W N args U:=by kernel_rfl
def ASu:XC:=(.Y (.cE 4 0 0<|
 .m 7 1<|
 .p 8 [7] (.buildSlice 35 1 [V.h] [(0,1,(.t 7))])<|
 .bE 9 y8 36 6 8))
def tG(E:EB)(D:Ac)(W:AF)(a b:Nat)(c:V)(U:H):AE:=
 H9 [(0,1,c)] [V.h] λd=>
 JI (BH d) (
 let e:=Cb U (.cells d);
 c0 (D 36 [.o a b,.D (H.j U) 0 1 (.ex 1)] e) λd=>
 r0 d)
def F20(N:Nat)(args:List V)(U:H):AE:=
 uM args λa b c=>
 tG E D W a b c U
def A20:DD:=⟨10,[.o,.any],[],ASu⟩
theorem AW3 args U:BZ E D W N A20 args U=F20 E D W N args U:=by kernel_rfl
def ASt:XC:=(.z (.P 3 (.box 31 (.t 0))<|
 .P 5 (.box 49 (.t 2))<|
 .aX 6 y2)
 (.z (.O 8 y6 (.load (some 4) (.t 3))<|
 .op (some 9) y6 [8] (.build [y5,V.h,V.h,V.h] [(0,4,(.t 8))])<|
 .op (some 10) (.agg [.N,.any,.any,.any,.bool]) [9] (.build [y5,V.h,V.h,V.h,y2] [(0,4,(.t 9))])<|
 .P 11 (.box 103 (.t 10))<|
 .m 7 11<|
 .nil)
 (.z (.aB 12 7 1<|
 .O 14 y3 (.load (some 6) (.t 5))<|
 .k 15 .bool 37 [(.t 12),(.t 13),(.t 14),(.i 1)]<|
 .m 16 15<|
 .gA 16 true (.op (some 17) y3 [5,16] (.load (some 6) (.t 5))<|
 .op (some 18) .i [17,16] (.call 38 [(.t 17)])<|
 .p 19 [18,16] (.pp .leq .none (.t 18) (.i 5000))<|
 .nil) 20 16 19<|
 .aG 6 20)
 .ret)))
def tF(E:EB)(D:Ac)(W:AF)(a:BS)(b c d:V)(e f g:Int)(h i:V)(j:Int)(k:V)(U:H):AE:=
 Ht (eA a b c d) U λl=>
 Ht (eI f g h i j k) l λm=>
 Bv E m (H.j U) 0 4 λn=>
 uA n λn o p q=>
 Ht [.N n,o,p,q,.bool false] m λn=>
 Bv E n (H.j l) 0 6 λo=>
 uI o λo p q r s t=>
 cB (D 37 [.o (H.j m) 0,.int .i64 e,.agg (eI o p q r s t),iN 1] n) λm n=>
 Ax (λo p=>
 rB o p) λo=>
 AK m (
 Bv E n (H.j l) 0 6 λl=>
 uI l λl m p q r s=>
 cI (D 38 [.agg (eI l m p q r s)] n) λl m=>
 o (HL l (AA 5000)) m) (
 o false n)
def F21(N:Nat)(args:List V)(U:H):AE:=
 Ab args λa b=>
 Cp a λa=>
 uA a λa c d e=>
 D3 .i64 b λb f=>
 Ab f λf g=>
 Cp f λf=>
 uI f λf h i j k l=>
 Ay g (
 tF E D W a c d e b f h i j k l U)
def A21:DD:=⟨21,[y6,.i,y3],[(.tmp 6)],ASt⟩
theorem AW2 args U:BZ E D W N A21 args U=F21 E D W N args U:=by kernel_rfl
def ASs:XC:=(.z (.P 1 (.box 31 (.t 0))<|
 .aX 2 y2)
 (.z (.f 3 3 1<|
 .l 4 .any 3<|
 .k 5 .bool 39 [(.t 4),(.T (V.fn 40 [] []))]<|
 .P 6 (.un .not (.t 5))<|
 .m 2 6<|
 .nil)
 .ret))
def tE(E:EB)(D:Ac)(W:AF)(a:BS)(b c d:V)(U:H):AE:=
 Ht (eA a b c d) U λe=>
 DF E e (H.j U) 3 λf=>
 cB (D 39 [f,.fn 40 [] []] e) λe f=>
 rB (not e) f
def F22(N:Nat)(args:List V)(U:H):AE:=
 Ab args λa b=>
 Cp a λa=>
 uA a λa c d e=>
 Ay b (
 tE E D W a c d e U)
def A22:DD:=⟨7,[y6],[(.tmp 2)],ASs⟩
theorem AW1 args U:BZ E D W N A22 args U=F22 E D W N args U:=by kernel_rfl
def ASr:XC:=(.z (.P 2 (.box 49 (.t 0))<|
 .P 3 (.box 3 (.t 1))<|
 .aX 4 y2)
 (.z (.aK 5 4 2 0<|
 .m 8 7<|
 .gO 8 false (.aH 9 2 8 4 2 8<|
 .op (some 11) .i [3,8] (.load none (.t 3))<|
 .p 12 [10,11,8] (.pp .eql .none (.t 10) (.t 11))<|
 .nil) 13 8 12<|
 .m 14 13<|
 .gA 14 true (.cF 15 2 14 3 2 14<|
 .p 17 [3,14] (.mkfn 42 [] [(.t 3)])<|
 .op (some 18) .bool [16,17,14] (.call 41 [(.t 16),(.t 17)])<|
 .p 19 [18,14] (.un .not (.t 18))<|
 .nil) 20 14 19<|
 .aG 4 20)
 .ret))
def tD(E:EB)(D:Ac)(W:AF)(a b:Int)(c d:V)(e:Int)(f:V)(g:Int)(U:H):AE:=
 Ht (eI a b c d e f) U λh=>
 Ht (V.cells (V.int .i64 g)) h λi=>
 lI E i (H.j U) 4 λj=>
 Ax (λk l=>
 Ax (λm n=>
 rB m n) λm=>
 AK k (
 DF E l (H.j U) 3 λk=>
 cB (D 41 [k,.fn 42 [] [.o (H.j h) 0]] l) λk n=>
 m (not k) n) (
 m false l)) λk=>
 AK (B8 j (AA 0)) (
 k true i) (
 lI E i (H.j U) 4 λj=>
 lI E i (H.j h) 0 λh=>
 k (B8 j h) i)
def F23(N:Nat)(args:List V)(U:H):AE:=
 Ab args λa b=>
 Cp a λa=>
 uI a λa c d e f g=>
 D3 .i64 b λb h=>
 Ay h (
 tD E D W a c d e f g b U)
def A23:DD:=⟨21,[y3,.i],[(.tmp 4)],ASr⟩
theorem AW0 args U:BZ E D W N A23 args U=F23 E D W N args U:=by kernel_rfl
def ADD:List BO:=[⟨(some 40),.load none (.tmp 3),none⟩,⟨(some 41),.rg (.tmp 40),none⟩,⟨(some 42),.C 0 (.tmp 41),none⟩,⟨(some 43),.load none (.tmp 42),none⟩,⟨(some 44),.C 2 (.tmp 5),none⟩,⟨(some 45),.load none (.tmp 44),none⟩,⟨(some 46),.buildSlice 35 1 [V.h] [(0,1,(.tmp 45))],none⟩,⟨(some 47),.call 46 [(.tmp 43),(.tmp 46)],none⟩]
def AC7:List DP:=[⟨0,[3]⟩,⟨1,[40]⟩,⟨3,[41]⟩,⟨7,[42]⟩,⟨0,[5]⟩,⟨16,[44]⟩,⟨48,[45]⟩,⟨127,[43,46]⟩]
def ASq(a:XC):XC:=(.z (.P 3 (.box 68 (.t 0))<|
 .P 5 (.box 49 (.t 2))<|
 .nil)
 (.z (.l 7 .any 3<|
 .n 8 7<|
 .f 9 1 8<|
 .bF 10 3 9 1<|
 .s 13 13 11 12<|
 .O 14 y1 (.load (some 13) (.t 13))<|
 .p 6 [] y16<|
 .op none y1 [6,14] (.store 13 (.t 6) (.t 14))<|
 .nil)
 (.z (.aA 15 0 6 .i<|
 .nil)
 (.block 0 (.z (.aD 18 16 1 17)
 (.cond (.tmp 17) (.Y (.l 19 .any 3<|
 .aK 20 1 5 1<|
 .bE 23 y8 43 19 22))
 (.z (.aD 25 16 2 24)
 (.cond (.tmp 24) (.Y (.l 26 .any 3<|
 .f 27 2 6<|
 .O 28 y9 (.load (some 6) (.t 27))<|
 .aA 29 1 5 .i<|
 .bD 31 y8 44 26 28 30))
 (.z (.aD 33 16 3 32)
 (.cond (.tmp 32) (.Y (.l 34 .any 3<|
 .aY 35 1 y3 6 5<|
 .k 37 y8 45 [(.t 34),(.t 35),(.t 36)]<|
 .nil))
 (.z (.aD 39 16 6 38)
 (.cond (.tmp 38) (.Q [(3,.o),(5,.o)] [] [] (.wl ADD AC7 []))
 (.z (.aD 49 16 5 48)
 (.cond (.tmp 48) (.Y (.l 50 .any 3<|
 .f 51 2 6<|
 .O 52 y9 (.load (some 6) (.t 51))<|
 .aP 53 2 5<|
 .p 56 [3,5] (.mkfn 48 [] [(.t 3),(.t 5)])<|
 .p 57 [3,5] (.mkfn 50 [] [(.t 3),(.t 5)])<|
 .k 58 y8 47 [(.t 50),(.t 52),(.t 55),(.t 56),(.t 57)]<|
 .nil))
 (.z (.aD 60 16 10 59)
 (.cond (.tmp 59) (.Y (.l 61 .any 3<|
 .f 62 2 6<|
 .O 63 y9 (.load (some 6) (.t 62))<|
 .aP 64 3 5<|
 .p 67 [5,3,6] (.mkfn 51 [] [(.t 5),(.t 3),(.t 6)])<|
 .p 68 [3,5,6] (.mkfn 52 [] [(.t 3),(.t 5),(.t 6)])<|
 .k 69 y8 47 [(.t 61),(.t 63),(.t 66),(.t 67),(.t 68)]<|
 .nil))
 (.z (.aD 71 16 9 70)
 (.cond (.tmp 70) (.Y (.l 72 .any 3<|
 .aY 73 1 y3 6 5<|
 .bD 75 y8 55 72 73 74))
 (.seq (.z (.aD 77 16 7 76)
 (.cond (.tmp 76) .skip
 (.Y (.aD 78 16 8 76))))
 (.Q [(1,.i),(3,.o),(5,.o),(76,.bool)] [] [] a))))))))))))))))))))
def Qy(K1:Int->Nat->Nat->Nat->Nat->Bool->H->AE)(a:V)(b c d:Int)(e f:V)(g:Int)(h:V)(U:H):AE:=
 Ht (V.cells a) U λi=>
 Ht (eI c d e f g h) i λj=>
 lP E j (H.j U) 0 λk l=>
 jX E j k (AM (AM l 1) 3) 13 b λk=>
 uN k λk l m n o p q r s t u v w=>
 let x:=Cb j (.cells [iN 0,V.h,.bool false,.bool false,.bool false,.bool false,iN 0,iN 0,V.h,V.h,iN 0,.bool false,iN 0]);
 DO 13 (H.j j) 0 (V.agg (eN k l m n o p q r s t u v w)) x λk=>
 lI E k (H.j j) 0 λl=>
 AK (B8 l (AA 1)) (
 DF E k (H.j U) 0 λm=>
 lI E k (H.j i) 1 λn=>
 c0 (D 43 [m,.bool (B8 n (AA 1))] k) λm=>
 r0 m) (
 AK (B8 l (AA 2)) (
 DF E k (H.j U) 0 λm=>
 Bv E k (H.j j) 2 6 λn=>
 uO n λn o p q r s=>
 lI E k (H.j i) 1 λt=>
 c0 (D 44 [m,.agg (eO n o p q r s),.int .i64 t] k) λm=>
 r0 m) (
 AK (B8 l (AA 3)) (
 DF E k (H.j U) 0 λm=>
 Bv E k (H.j i) 0 6 λn=>
 uI n λn o p q r s=>
 c0 (D 45 [m,.int .i64 b,.agg (eI n o p q r s)] k) λm=>
 r0 m) (
 AK (B8 l (AA 6)) (
 CM (W ADD AC7 [(3,.o (H.j U) 0),(5,.o (H.j i) 0)] k) λm n=>
 r0 n) (
 AK (B8 l (AA 5)) (
 DF E k (H.j U) 0 λm=>
 Bv E k (H.j j) 2 6 λn=>
 uO n λn o p q r s=>
 lL E k (H.j i) 2 λt=>
 c0 (D 47 [m,.agg (eO n o p q r s),.int .i64 (AA t),.fn 48 [] [.o (H.j U) 0,.o (H.j i) 0],.fn 50 [] [.o (H.j U) 0,.o (H.j i) 0]] k) λm=>
 r0 m) (
 AK (B8 l (AA 10)) (
 DF E k (H.j U) 0 λm=>
 Bv E k (H.j j) 2 6 λn=>
 uO n λn o p q r s=>
 lL E k (H.j i) 3 λt=>
 c0 (D 47 [m,.agg (eO n o p q r s),.int .i64 (AA t),.fn 51 [] [.o (H.j i) 0,.o (H.j U) 0,.o (H.j j) 0],.fn 52 [] [.o (H.j U) 0,.o (H.j i) 0,.o (H.j j) 0]] k) λj=>
 r0 j) (
 AK (B8 l (AA 9)) (
 DF E k (H.j U) 0 λj=>
 Bv E k (H.j i) 0 6 λm=>
 uI m λm n o p q r=>
 c0 (D 55 [j,.int .i64 b,.agg (eI m n o p q r)] k) λj=>
 r0 j) (
 AK (B8 l (AA 7)) (
 K1 b (H.j U) 0 (H.j i) 0 (B8 l (AA 7)) k) (
 K1 b (H.j U) 0 (H.j i) 0 (B8 l (AA 8)) k))))))))
def ASp:XC:=(.cond (.tmp 76) (.Y (.l 79 .any 3<|
 .aY 80 1 y3 6 5<|
 .bD 82 y8 56 79 80 81))
 .skip)
def YM(E:EB)(D:Ac)(W:AF)(a:Int)(b c d e:Nat)(f:Bool)(U:H):AE:=
 AK f (
 DF E U b c λg=>
 Bv E U d e 6 λh=>
 uI h λh i j k l m=>
 c0 (D 56 [g,.int .i64 a,.agg (eI h i j k l m)] U) λg=>
 r0 g) (
 r0 U)
def APR(E:EB)(D:Ac)(W:AF)(N:Nat):=YM E D W
def F24(args:List V)(U:H):AE:=
 Ab args λa b=>
 D3 .i64 b λb c=>
 Ab c λc d=>
 Cp c λc=>
 uI c λc e f g h i=>
 Ay d (
 Qy E D W (APR E D W N ) a b c e f g h i U)
def A24:DD:=⟨83,[.any,.i,y3],[],(ASq ASp)⟩
theorem AWz args U:BZ E D W N A24 args U=F24 E D W N args U:=by kernel_rfl
def ASo:XC:=(.z (.aS 2)
 (.seq (.z (.bU 3 0)
 (.cond (.tmp 4) (.z (.aS 2)
 .ret)
 .skip))
 (.seq (.z (.cG 5 0 .i 57<|
 .cI 7 6 0)
 (.cond (.tmp 7) (.z (.p 8 [] y13<|
 .m 2 8<|
 .nil)
 .ret)
 .skip))
 (.z (.cE 9 0 0<|
 .k 12 .S 58 [(.t 11)]<|
 .aG 2 12)
 .ret))))
def YL(E:EB)(D:Ac)(W:AF)(a:V)(U:H):AE:=
 Zh .o a V.nilp λb=>
 AK b (
 some (V.h,U)) (
 cI (D 57 [a] U) λb c=>
 AK (B8 b (AA 0)) (
 let b:=Cb c (.cells [.int .u8 (AA 0)]);
 some ((V.D (H.j c) 0 1 (.ex 1)),b)) (
 BL a λb d=>
 CD (D 58 [.o b d] c) λb c=>
 CI b (
 some (b,c))))
def F25(N:Nat)(args:List V)(U:H):AE:=
 Ab args λa b=>
 Ay b (
 YL E D W a U)
def A25:DD:=⟨13,[.any],[(.tmp 2)],ASo⟩
theorem AWy args U:BZ E D W N A25 args U=F25 E D W N args U:=by kernel_rfl
def ZO:List (Nat × Cc):=[(0,.o),(3,.any),(4,.i)]
def Ox(E:EB):St->AE:=λs=>Dc E s [(.tmp 2)] λl=>some (Dq l,s.U)
def z9(c0:XC):Nat->St->AE:=BR 0 (dX E D W N (.Q [(3,.any)] [] [] c0) (Ox E) nX (Ox E)) nX
def AMQ(c0 b:XC)(a:St->AE):St->AE:=dX E D W N (.Q ZO [] [] c0) (kX ZO [] [] a) (z9 E D W N b) (Ox E)
def ADb(b:XC)(a:XC):XC:=(.z (.aS 2)
 (.z (.aS 3)
 (.seq (.z (.aL 4 0)
 (.block 0 (.loop ZO [] [] a)))
 (.Q [(3,.any)] [] [] b))))
def AM3(E:EB)(D:Ac)(W:AF)(K2:Nat->Nat->V->Int->H->AE)(a b:Nat)(U:H):AE:=
 K2 a b V.h (AA 0) U
def Ll:XC:=(.z (.m 42 3<|
 .aG 2 42)
 .ret)
def AM2(E:EB)(D:Ac)(W:AF)(a:V)(U:H):AE:=
 some (a,U)
def kD(b:XC)(a:XC):XC:=(.seq (.z (.aB 5 4 0<|
 .n 7 6<|
 .aP 8 0 7<|
 .aE 11 5 10)
 (.cond (.tmp 11) .skip
 LM))
 (.seq (.block 1 (.seq (.z (.m 14 4<|
 .b 15 .rem .none (.t 14) (.i 8)<|
 .cI 16 15 0)
 (.cond (.tmp 16) (.Y (.m 17 3<|
 .p 18 [] y13<|
 .O 19 .S (.append 5 1 1 (.t 17) (.t 18))<|
 .aG 3 19))
 .skip))
 (.Q ZO [] [] a)))
 (.Q ZO [] [] b)))
def Qx(E:EB)(D:Ac)(W:AF)(K1:V->H->AE)(g:Nat->Nat->V->Int->H->AE)(a b:Nat)(c:V)(d:Int)(U:H):AE:=
 lL E U a b λe=>
 AK (C5 d (AA e)) (
 AK (B8 (EW d (AA 8)) (AA 0)) (
 let e:=Cb U (.cells [.int .u8 (AA 0)]);
 Dx E 1 1 c (V.D (H.j U) 0 1 (.ex 1)) e λe f=>
 CI e (
 g a b e d f)) (
 g a b c d U)) (
 K1 c U)
def NG:XC:=(.Y (.m 12 4<|
 .aC 13 12 1 4))
def ACs(E:EB)(D:Ac)(W:AF)(e:Nat->Nat->V->Int->H->AE)(a b:Nat)(c:V)(d:Int)(U:H):AE:=
 e a b c (BQ .i64 d (AA 1)) U
def Tf:XC:=(.us (.aB 20 3 4<|
 .b 22 .quo .none (.t 21) (.i 8)<|
 .aB 23 3 4<|
 .b 25 .quo .none (.t 24) (.i 8)<|
 .s 26 1 23 25<|
 .l 27 (.int .u8) 26<|
 .aI 28 0<|
 .bF 30 0 29 4<|
 .s 33 1 31 32<|
 .l 34 (.int .u8) 33<|
 .m 35 4<|
 .b 36 .rem .none (.t 35) (.i 8)<|
 .b 37 .sub .none (.i 7) (.t 36)<|
 .P 38 (.i7 (.jp .u64) (.t 37))<|
 .b 39 .shl .none (.t 34) (.t 38)<|
 .b 40 .or .none (.t 27) (.t 39)<|
 .s 41 1 20 22<|
 .w 1 41 40<|
 .nil) [0,0,2,0,0,16,56,120,0,256,768,1792,0,7936,16128,0,32768,98304,229376,524032,1048568,2097151,4194303])
def ic(E:EB)(D:Ac)(W:AF)(j:Nat->Nat->V->Int->H->AE)(a b:Nat)(c:V)(d:Int)(U:H):AE:=
 iY E U 1 c (NQ .i64 d (AA 8)) λe=>
 DZ .u8 e λe=>
 jY E U a b 1 d λf=>
 DZ .u8 f λf=>
 T7 (An .u64 (Dj .i64 (AA 7) (EW d (AA 8)))) λg=>
 AS 1 c (NQ .i64 d (AA 8)) λh i=>
 DO 1 h i (V.int .u8 (orF .u8 e (ZG .u8 f g))) U λe=>
 j a b c d e
def AOX(a b:Nat)(U:H):St:=⟨[(0,.o a b)],[],[],U⟩
def YW(a b:Nat)(c:V)(d:Int)(U:H):St:=⟨[(0,.o a b),(3,c),(4,.int .i64 d)],[],[],U⟩
def APQ(E:EB)(D:Ac)(W:AF)(N:Nat):=AM2 E D W
def vr(E:EB)(D:Ac)(W:AF)(N:Nat)(a:Nat->Nat->V->Int->H->AE):=ACs E D W a
theorem AHx g:
 (λa b c d U=>Au E D W N NG (YW a b c d U) (kX ZO [] [] g) (z9 E D W N Ll) (Ox E))=vr E D W N (λa b c d U=>g (YW a b c d U)):=by
 unfold vr;generalize Ll=l;revert l;refine id ?_;intros;kernel_rfl
def vq(a:Nat->Nat->V->Int->H->AE):=ic E D W (vr E D W N a)
theorem AHw g:
 (λa b c d U=>Au E D W N Tf (YW a b c d U) (AMQ E D W N NG Ll g) (BR 1 (AMQ E D W N NG Ll g) (z9 E D W N Ll)) (Ox E))=vq E D W N (λa b c d U=>g (YW a b c d U)):=by
 unfold vq;rw[<-AHx];generalize Ll=l,NG=m;revert l m;refine id ?_;intros;kernel_rfl
def Yd(n:Nat):Nat->Nat->V->Int->H->AE:=
 Nat.rec (λ_ _ _ _ _=>none) (λ_ a=>Qx E D W (APQ E D W N ) (vq E D W N a)) n
theorem AHQ n:
 (λa b c d U=>BM (λj l=>Au E D W N (kD NG Tf) l (kX ZO [] [] j) (z9 E D W N Ll) (Ox E)) n (YW a b c d U))=Yd E D W N n:=O4 (λp=>by rw[<-AHw];generalize NG=k,Tf=m;revert k m;refine id ?_;intros;kernel_rfl) n
def vu:=AM3 E D W (Yd E D W N N)
theorem AHy:
 (λa b U=>Au E D W N (ADb Ll (kD NG Tf)) (AOX a b U) (Ox E) nX (Ox E))=vu E D W N:=by
 unfold vu;rw[<-AHQ];generalize kD NG Tf=i,Ll=j;revert i j;refine id ?_;intros;kernel_rfl
def F26(args:List V)(U:H):AE:=
 Ab args λa b=>
 BL a λa c=>
 Ay b (
 vu E D W N a c U)
def A26:DD:=⟨43,[.o],[(.tmp 2)],(ADb Ll (kD NG Tf))⟩
theorem AWx args U:BZ E D W N A26 args U=F26 E D W N args U:=by
 unfold F26;rw[<-AHy];kernel_rfl
def ALT:List (Nat × Cc):=[(0,.N),(5,.any),(6,.i)]
def ji(E:EB):St->AE:=λs=>Dc E s [(.tmp 2),(.tmp 3),(.tmp 4)] λl=>some (Dq l,s.U)
def ADa(a:XC):XC:=(.z (.c 2 V.h<|
 .q 3 0<|
 .aL 4 0)
 (.seq (.z (.m 9 0<|
 .P 10 (.len true (.t 9))<|
 .bM 11 10 8000)
 (.cond (.tmp 11) (.z (.c 2 V.h<|
 .q 3 0<|
 .q 4 5<|
 .nil)
 .ret)
 .skip))
 (.z (.aS 5)
 (.z (.aL 6 0)
 (.block 0 (.loop ALT [] [] a))))))
def iZ(E:EB)(D:Ac)(W:AF)(K1:BS->V->Int->H->AE)(a:BS)(U:H):AE:=
 AK (C5 (AA 8000) (AA (BS.len a))) (
 some ((V.B [V.h,iN 0,iN 5]),U)) (
 K1 a V.h (AA 0) U)
def kC:XC:=(.block 1 (.z (.bG 12 0 6 .i 59<|
 .m 6 14<|
 .nil)
 (.seq (.z (.cJ 15 6 0<|
 .b 18 .geq .none (.t 15) (.t 17)<|
 .nil)
 (.cond (.tmp 18) (.z (.cJ 19 5 0<|
 .op (some 22) y7 [21] (.build [y0,y5,y0] [(2,1,(.t 21))])<|
 .p 23 [22] (.buildSlice 87 1 [y0,y5,y0] [(0,3,(.t 22))])<|
 .O 24 .S (.append 87 3 32 (.t 19) (.t 23))<|
 .m 2 24<|
 .q 3 0<|
 .aL 4 0)
 .ret)
 .skip))
 (.z (.aB 26 0 6<|
 .k 28 (.B [y7,.i]) 60 [(.t 26),(.t 27)]<|
 .m 25 28<|
 .aM 29 0 25 1 25<|
 .ol 7 [] 87 [y0,y5,y0]<|
 .op none y7 [7,29] (.store 3 (.t 7) (.t 29))<|
 .aG 8 30)
 (.seq (.z (.aU 31 8 0<|
 .nil)
 (.cond (.tmp 32) (.z (.m 33 6<|
 .c 2 V.h<|
 .m 3 33<|
 .q 4 6<|
 .nil)
 .ret)
 .skip))
 (.z (.aY 34 5 y7 3 7<|
 .p 36 [35] (.buildSlice 87 1 [y0,y5,y0] [(0,3,(.t 35))])<|
 .O 37 .S (.append 87 3 32 (.t 34) (.t 36))<|
 .aG 5 37)
 (.Y (.m 38 8<|
 .aG 6 38))))))))
def Qw(E:EB)(D:Ac)(W:AF)(k:BS->V->Int->H->AE)(a:BS)(b:V)(c:Int)(U:H):AE:=
 cI (D 59 [.N a,.int .i64 c] U) λd e=>
 AK (HL (AA (BS.len a)) d) (
 let f:=Cb e (.cells [iN 0,sN 0 0,.int .i64 (AA (BS.len a))]);
 Dx E 3 32 b (V.D (H.j e) 0 1 (.ex 1)) f λf g=>
 CI f (
 some ((V.B [f,iN 0,iN 0]),g))) (
 cT (D 60 [.N a,.int .i64 d] e) λe f=>
 Ab e λe g=>
 Cp e λe=>
 uK e λe h i=>
 D3 .i64 g λg j=>
 Ay j (
 AK (C5 g (AA 0)) (
 some ((V.B [V.h,.int .i64 d,iN 6]),f)) (
 let d:=Cb f (.cells (eK e h i));
 Dx E 3 32 b (V.D (H.j f) 0 1 (.ex 1)) d λd e=>
 CI d (
 k a d g e))))
def AOW(a:BS)(U:H):St:=⟨[(0,.N a)],[],[],U⟩
def AOV(a:BS)(b:V)(c:Int)(U:H):St:=⟨[(0,.N a),(5,b),(6,.int .i64 c)],[],[],U⟩
def Yc(E:EB)(D:Ac)(W:AF)(N:Nat)(n:Nat):BS->V->Int->H->AE:=
 Nat.rec (λ_ _ _ _=>none) (λ_ a=>Qw E D W a) n
theorem AHP n:
 (λa b c U=>BM (λe f=>Au E D W N kC f (kX ALT [] [] e) (BR 0 (ji E) nX) (ji E)) n (AOV a b c U))=Yc E D W N n:=xi (λ_=>by kernel_rfl) n
def vm:=iZ E D W (Yc E D W N N)
theorem AHv:
 (λa U=>Au E D W N (ADa kC) (AOW a U) (ji E) nX (ji E))=vm E D W N:=by
 unfold vm;rw[<-AHP];generalize kC=h;revert h;refine id ?_;intros;kernel_rfl
def F27(args:List V)(U:H):AE:=
 Ti args λa b=>
 Ay b (
 vm E D W N a U)
def A27:DD:=⟨39,[.N],[(.tmp 2),(.tmp 3),(.tmp 4)],(ADa kC)⟩
theorem AWw args U:BZ E D W N A27 args U=F27 E D W N args U:=by
 unfold F27;rw[<-AHv];kernel_rfl
def ASn:XC:=(.z (.aX 4 y5)
 (.z (.m 6 0<|
 .k 7 y7 31 [(.t 6)]<|
 .ol 5 [] 87 [y0,y5,y0]<|
 .op none y7 [5,7] (.store 3 (.t 5) (.t 7))<|
 .nil)
 (.seq (.z (.aI 8 0<|
 .aW 10 7 9 0<|
 .m 13 12<|
 .gO 13 false (.aH 14 5 13 0 5 13<|
 .p 16 [1,13] LU<|
 .p 17 [15,16,13] (.pp .neq .none (.t 15) (.t 16))<|
 .nil) 18 13 17<|
 .nil)
 (.cond (.tmp 18) (.z (.aY 19 0 y7 3 5<|
 .k 21 y8 32 [(.t 19),(.i 7),(.t 20)]<|
 .nil)
 (.z (.aX 4 y5)
 .ret))
 .skip))
 (.z (.m 22 0<|
 .k 23 y7 61 [(.t 22)]<|
 .O 24 .N (.field 1 none (.t 23))<|
 .aG 4 24)
 .ret))))
def tC(E:EB)(D:Ac)(W:AF)(a b:Nat)(c:Int)(U:H):AE:=
 cA (D 31 [.o a b] U) λd e=>
 uK d λd f g=>
 lI E e a (AM b 7) λh=>
 Ax (λi j=>
 AK i (
 c0 (D 32 [.o a b,iN 7,.agg (eK d f g)] j) λf=>
 some ((V.N (BS.mk 0 0)),f)) (
 cA (D 61 [.o a b] j) λf g=>
 uK f λf i j=>
 some ((V.N i),g))) λf=>
 AK (not (B8 h (AA 0))) (
 f true e) (
 f (not (B8 d c)) e)
def F28(N:Nat)(args:List V)(U:H):AE:=
 uL args λa b c=>
 tC E D W a b c U
def A28:DD:=⟨25,[.o,.i],[(.tmp 4)],ASn⟩
theorem AWv args U:BZ E D W N A28 args U=F28 E D W N args U:=by kernel_rfl
def ASm:XC:=(.z (.aI 4 0<|
 .f 6 7 5<|
 .l 7 .i 6<|
 .b 8 .eql .none (.t 7) (.i 0)<|
 .m 9 8<|
 .gA 9 true (.p 10 [0,9] JT<|
 .p 11 [1,9] LU<|
 .op (some 12) .bool [10,11,9] (.call 30 [(.t 10),(.t 11)])<|
 .p 13 [12,9] (.un .not (.t 12))<|
 .nil) 14 9 13<|
 .nil)
 (.cond (.tmp 14) (.Y (.aB 15 0 0<|
 .k 17 y7 31 [(.t 16)]<|
 .k 18 y8 32 [(.t 15),(.i 7),(.t 17)]<|
 .nil))
 .skip))
def tB(E:EB)(D:Ac)(W:AF)(a b:Nat)(c:BS)(U:H):AE:=
 lI E U a (AM b 7) λd=>
 Ax (λe f=>
 AK e (
 cA (D 31 [.o a b] f) λe g=>
 uK e λe h i=>
 c0 (D 32 [.o a b,iN 7,.agg (eK e h i)] g) λe=>
 r0 e) (
 r0 f)) λe=>
 AK (B8 d (AA 0)) (
 cB (D 30 [.o a b,.N c] U) λd f=>
 e (not d) f) (
 e false U)
def F29(N:Nat)(args:List V)(U:H):AE:=
 uP args λa b c=>
 tB E D W a b c U
def A29:DD:=⟨19,[.o,.N],[],ASm⟩
theorem AWu args U:BZ E D W N A29 args U=F29 E D W N args U:=by kernel_rfl
def ASl:XC:=(.z (.aX 4 y2)
 (.z (.m 6 0<|
 .k 7 y7 31 [(.t 6)]<|
 .ol 5 [] 87 [y0,y5,y0]<|
 .op none y7 [5,7] (.store 3 (.t 5) (.t 7))<|
 .nil)
 (.seq (.z (.aI 8 0<|
 .aK 10 7 9 0<|
 .m 13 12<|
 .gA 13 true (.aH 14 5 13 0 5 13<|
 .bY 16 15 13 15 5 13<|
 .grp 17 false (.p 18 [5,17] (.C 0 (.t 5))<|
 .op (some 19) .i [18,17] (.load none (.t 18))<|
 .aT 20 19 17 19 6) 21 [17,20,13] (.t 17) We (.t 20)<|
 .nil) 22 13 21<|
 .m 23 22<|
 .gA 23 true (.p 24 [5,23] (.C 1 (.t 5))<|
 .op (some 25) .N [24,23] (.load none (.t 24))<|
 .p 26 [1,23] LU<|
 .p 27 [25,26,23] (.pp .eql .none (.t 25) (.t 26))<|
 .nil) 28 23 27<|
 .nil)
 (.cond (.tmp 28) (.z (.m 29 0<|
 .k 30 y7 61 [(.t 29)]<|
 .nil)
 (.z (.cD 4)
 .ret))
 .skip))
 (.z (.aX 4 y2)
 .ret))))
def iW(E:EB)(D:Ac)(W:AF)(a b:Nat)(c:BS)(U:H):AE:=
 cA (D 31 [.o a b] U) λd e=>
 uK d λd f g=>
 lI E e a (AM b 7) λg=>
 Ax (λh i=>
 Ax (λj k=>
 AK j (
 cA (D 61 [.o a b] k) λj l=>
 uK j λj m n=>
 rB true l) (
 rB false k)) λj=>
 AK h (
 j (BS.beq f c) i) (
 j false i)) λf=>
 AK (B8 g (AA 0)) (
 Ax (λg h=>
 f g h) λg=>
 AK (B8 d (AA 5)) (
 g true e) (
 g (B8 d (AA 6)) e)) (
 f false e)
def F30(N:Nat)(args:List V)(U:H):AE:=
 uP args λa b c=>
 iW E D W a b c U
def A30:DD:=⟨31,[.o,.N],[(.tmp 4)],ASl⟩
theorem AWt args U:BZ E D W N A30 args U=F30 E D W N args U:=by kernel_rfl
def ASk:XC:=(.z (.ol 2 [] 87 [y0,y5,y0]<|
 .nil)
 (.seq (.us (.bT 3 0 0<|
 .aI 7 0<|
 .aA 9 1 8 .i<|
 .aN 11 3 6 10 y7 3<|
 .op none y7 [2,12] (.store 3 (.t 2) (.t 12))<|
 .nil) [0,1,3,7,0,16,48,112,255,511,1023])
 .ret))
def sz(E:EB)(D:Ac)(W:AF)(a b:Nat)(U:H):AE:=
 DF E U a b λc=>
 lI E U a (AM b 1) λd=>
 iX E U 3 c d λc=>
 uK c λc d e=>
 some ((V.agg (eK c d e)),U)
def F31(N:Nat)(args:List V)(U:H):AE:=
 Ab args λa b=>
 BL a λa c=>
 Ay b (
 sz E D W a c U)
def A31:DD:=⟨13,[.o],[(.cell 2 (some 3))],ASk⟩
theorem AWs args U:BZ E D W N A31 args U=F31 E D W N args U:=by kernel_rfl
def AUE:List (Nat × Cc):=[(0,.o),(1,.i),(5,.i),(6,.o)]
def ASj(b:XC)(a:XC):XC:=(.z (.aL 4 0)
 (.seq (.z (.aI 9 0<|
 .aW 11 7 10 0<|
 .nil)
 (.cond (.tmp 13) (.z (.aL 4 0)
 .ret)
 .skip))
 (.seq (.z (.m 14 0<|
 .k 15 y7 31 [(.t 14)]<|
 .k 16 .bool 62 [(.t 15)]<|
 .bK 17 16)
 (.cond (.tmp 17) (.z (.aB 18 0 0<|
 .k 20 y7 31 [(.t 19)]<|
 .k 21 y8 32 [(.t 18),(.i 7),(.t 20)]<|
 .nil)
 (.z (.aL 4 0)
 .ret))
 .skip))
 (.seq (.z (.m 22 1<|
 .b 23 .gtr .none (.t 22) (.i 16)<|
 .m 24 23<|
 .gO 24 false (.bN 25 0 24 JT 24<|
 .p 27 [26,24] (.C 2 (.t 26))<|
 .aF 28 27 24 4 27 24 24<|
 .p 31 [30,24] (.pp .geq .none (.t 30) (.i 300))<|
 .nil) 32 24 31<|
 .nil)
 (.cond (.tmp 32) (.z (.aB 33 0 0<|
 .k 35 y7 31 [(.t 34)]<|
 .k 36 y8 32 [(.t 33),(.i 5),(.t 35)]<|
 .nil)
 (.z (.aL 4 0)
 .ret))
 .skip))
 (.z (.cE 37 0 2<|
 .aP 40 4 39<|
 .aG 5 42)
 (.z (.aB 43 0 0<|
 .n 45 44<|
 .f 46 2 45<|
 .aA 47 4 46 .any<|
 .op (some 49) y4 [] (.build [y0,y5,y2,y0,y0,y2,y2,y2,y2,y0,y0,V.h,V.h,y0,y2,y0] [])<|
 .p 50 [49] (.buildSlice 131 1 [y0,y5,y2,y0,y0,y2,y2,y2,y2,y0,y0,V.h,V.h,y0,y2,y0] [(0,16,(.t 49))])<|
 .O 51 .S (.append 131 16 144 (.t 48) (.t 50))<|
 .n 52 43<|
 .f 53 2 52<|
 .bC 54 4 53 1 51)
 (.z (.op (some 55) y4 [] (.build [y0,y5,y2,y0,y0,y2,y2,y2,y2,y0,y0,V.h,V.h,y0,y2,y0] [])<|
 .p 6 [] (.alloc 131 [y0,y5,y2,y0,y0,y2,y2,y2,y2,y0,y0,V.h,V.h,y0,y2,y0])<|
 .op none y4 [6,55] (.store 16 (.t 6) (.t 55))<|
 .nil)
 (.seq (.z (.aV 56 0 .bool 30 1 91<|
 .nil)
 (.cond (.tmp 57) (.z (.m 58 0<|
 .k 59 y7 31 [(.t 58)]<|
 .ol 7 [] 87 [y0,y5,y0]<|
 .op none y7 [7,59] (.store 3 (.t 7) (.t 59))<|
 .nil)
 (.z (.m 60 0<|
 .k 61 .i 63 [(.t 60)]<|
 .aG 8 61)
 (.seq (.z (.aI 62 0<|
 .aK 64 7 63 0<|
 .m 67 66<|
 .gA 67 true (.p 68 [8,67] xq<|
 .p 69 [68,67] (.pp .lss .none (.t 68) (.i 0))<|
 .p 70 [69,67] (.L (.t 69))<|
 .grp 70 false (.p 71 [8,70] xq<|
 .bJ 72 71 70 71 268435456) 73 [70,72,67] (.t 70) We (.t 72)<|
 .nil) 74 67 73<|
 .nil)
 (.cond (.tmp 74) (.Y (.aY 75 0 y7 3 7<|
 .k 77 y8 32 [(.t 75),(.i 12),(.t 76)]<|
 .nil))
 .skip))
 (.Q [(0,.o),(1,.i),(5,.i),(6,.o),(8,.i)] [] [] a))))
 .skip))
 (.Q AUE [] [] b)))))))))
def S9(E:EB)(D:Ac)(W:AF)(K1:Nat->Nat->Int->Int->Nat->Nat->H->AE)(K2:Nat->Nat->Int->Int->Nat->Nat->Int->H->AE)(a b:Nat)(c:Int)(U:H):AE:=
 lI E U a (AM b 7) λd=>
 AK (not (B8 d (AA 0))) (
 rI (AA 0) U) (
 cA (D 31 [.o a b] U) λd e=>
 uK d λd f g=>
 cB (D 62 [.agg (eK d f g)] e) λd e=>
 AK (not d) (
 cA (D 31 [.o a b] e) λd f=>
 uK d λd g h=>
 c0 (D 32 [.o a b,iN 7,.agg (eK d g h)] f) λd=>
 rI (AA 0) d) (
 Ax (λd f=>
 AK d (
 cA (D 31 [.o a b] f) λd g=>
 uK d λd h i=>
 c0 (D 32 [.o a b,iN 5,.agg (eK d h i)] g) λd=>
 rI (AA 0) d) (
 lL E f a (AM (AM b 2) 4) λd=>
 DF E f a (AM (AM b 2) 4) λg=>
 let h:=Cb f (.cells [iN 0,sN 0 0,.bool false,iN 0,iN 0,.bool false,.bool false,.bool false,.bool false,iN 0,iN 0,V.h,V.h,iN 0,.bool false,iN 0]);
 Dx E 16 144 g (V.D (H.j f) 0 1 (.ex 1)) h λf g=>
 CI f (
 DO 1 a (AM (AM b 2) 4) f g λf=>
 let g:=Cb f (.cells [iN 0,.N ⟨0,0⟩,.bool false,iN 0,iN 0,.bool false,.bool false,.bool false,.bool false,iN 0,iN 0,V.h,V.h,iN 0,.bool false,iN 0]);
 DO 16 (H.j f) 0 (V.agg [iN 0,sN 0 0,.bool false,iN 0,iN 0,.bool false,.bool false,.bool false,.bool false,iN 0,iN 0,V.h,V.h,iN 0,.bool false,iN 0]) g λg=>
 cB (D 30 [.o a b,sN 1 91] g) λg h=>
 AK g (
 cA (D 31 [.o a b] h) λg i=>
 uK g λg j k=>
 cI (D 63 [.o a b] i) λi l=>
 lI E l a (AM b 7) λm=>
 Ax (λn o=>
 AK n (
 c0 (D 32 [.o a b,iN 12,.agg (eK g j k)] o) λg=>
 K2 a b c (AA d) (H.j f) 0 i g) (
 K2 a b c (AA d) (H.j f) 0 i o)) λg=>
 AK (B8 m (AA 0)) (
 Ax (λj k=>
 g j k) λj=>
 AK (C5 i (AA 0)) (
 j true l) (
 j (C5 (AA 268435456) i) l)) (
 g false l)) (
 K1 a b c (AA d) (H.j f) 0 h)))) λd=>
 AK (C5 (AA 16) c) (
 d true e) (
 lL E e a (AM (AM b 2) 4) λf=>
 d (HL (AA 300) (AA f)) e)))
def ASi:XC:=(.z (.aB 91 0 1<|
 .bD 93 y8 64 91 6 92)
 (.seq (.z (.aI 94 0<|
 .aW 96 7 95 0<|
 .nil)
 (.cond (.tmp 98) (.z (.aL 4 0)
 .ret)
 .skip))
 (.seq (.us (.cE 99 0 2<|
 .aA 102 4 101 .any<|
 .aY 104 5 y4 16 6<|
 .s 106 16 103 104<|
 .op none y4 [106,105] (.store 16 (.t 106) (.t 105))<|
 .nil) [0,1,3,7,15,0,0,127,255])
 (.z (.m 107 5<|
 .aG 4 107)
 .ret))))
def iV(E:EB)(D:Ac)(W:AF)(a b:Nat)(c d:Int)(e f:Nat)(U:H):AE:=
 c0 (D 64 [.o a b,.o e f,.int .i64 c] U) λg=>
 lI E g a (AM b 7) λh=>
 AK (not (B8 h (AA 0))) (
 rI (AA 0) g) (
 DF E g a (AM (AM b 2) 4) λh=>
 Bv E g e f 16 λi=>
 uQ i λi j k l m n o p q r s t u v w x=>
 AS 16 h d λh y=>
 DO 16 h y (V.agg (eQ i j k l m n o p q r s t u v w x)) g λg=>
 rI d g)
def ASh:XC:=(.z (.bB 78 0 y8 29 1 93)
 (.z (.m 80 8<|
 .op (some 81) (.agg [.bool,.i,.i]) [80] (.build [y2,y0,y0] [(0,1,We),(1,1,(.t 80))])<|
 .f 82 2 6<|
 .op none (.agg [.bool,.i,.i]) [82,81] (.store 3 (.t 82) (.t 81))<|
 .nil)
 (.z (.m 83 0<|
 .k 84 .bool 30 [(.t 83),y43]<|
 .nil)
 (.cond (.tmp 84) (.Y (.f 85 2 6<|
 .aJ 86 2 85 1 1<|
 .nil))
 (.z (.m 87 0<|
 .k 88 .bool 30 [(.t 87),y44]<|
 .nil)
 (.cond (.tmp 88) (.Y (.f 89 2 6<|
 .aJ 90 2 89 1 2<|
 .nil))
 .skip))))))
def Oq(E:EB)(D:Ac)(W:AF)(K1:Nat->Nat->Int->Int->Nat->Nat->H->AE)(a b:Nat)(c d:Int)(e f:Nat)(g:Int)(U:H):AE:=
 c0 (D 29 [.o a b,sN 1 93] U) λh=>
 DO 3 e (AM f 2) (V.agg [.bool true,.int .i64 g,iN 0]) h λh=>
 cB (D 30 [.o a b,sN 8 6073459554577832005] h) λh i=>
 AK h (
 DO 1 e (AM (AM f 2) 2) (iN 1) i λh=>
 K1 a b c d e f h) (
 cB (D 30 [.o a b,sN 8 6073459554577829193] i) λh i=>
 AK h (
 DO 1 e (AM (AM f 2) 2) (iN 2) i λh=>
 K1 a b c d e f h) (
 K1 a b c d e f i))
def AC2(E:EB)(D:Ac)(W:AF)(N:Nat):=iV E D W
def APP:=Oq E D W (AC2 E D W N )
def F33(args:List V)(U:H):AE:=
 uL args λa b c=>
 S9 E D W (AC2 E D W N ) (APP E D W N ) a b c U
def A33:DD:=⟨108,[.o,.i],[(.tmp 4)],(ASj ASi ASh)⟩
theorem AWr args U:BZ E D W N A33 args U=F33 E D W N args U:=by kernel_rfl
end
end Go.Proofs.YtpbligmafbkeaaaGreatDoor
