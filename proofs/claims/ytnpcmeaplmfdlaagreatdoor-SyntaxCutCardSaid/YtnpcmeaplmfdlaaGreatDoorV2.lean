/- What the last text leans on, part 3 of 10: merged out of smaller texts. No condition. -/
import GoSem.ClaimChange
import Derived.Below
import Derived.KernelRfl
import Derived.Test.YtnpcmeaplmfdlaaGreatDoorV1
open Int renaming ofNat -> AA,negSucc -> Bh
open Nat renaming le_refl -> AL,add -> AN,le_trans -> AU,beq_eq -> AW,lt_or_ge -> Av,zero_le -> BF,lt_of_lt_of_le -> Cj,blt -> Cr,le_succ -> C9,lt_succ_self -> Jg,sub_zero -> OH,strongRecOn -> QQ,lt_succ_of_lt -> WN,lt_trichotomy -> ANy
open Bool renaming and_eq_true -> AI,or_eq_false_iff -> Ba,or_eq_true -> B5,not_eq_true' -> DL
open List renaming getElem?_eq_getElem -> AV,getElem?_eq_none -> Ae,mem_cons_of_mem -> Ar,mem_cons_self -> As,getD_eq_getElem?_getD -> A1,mem_cons -> BK,getElem?_map -> BR,map_cons -> Cf,getElem?_cons_succ -> DH,range -> Fz,mem_map -> Kl,mapM_cons -> WO,eq_nil_iff_forall_not_mem -> Z2,mem_range -> AFc
open Option renaming some -> AP
open And renaming intro -> Ay
open Array renaming getElem?_setIfInBounds -> BN,getElem?_eq_none -> CO,getElem?_eq_getElem -> EF,getElem?_toList -> ET,size_setIfInBounds -> EY,getD_eq_getD_getElem? -> Ey,mem_of_getElem? -> Ht,replicate -> tX,getElem?_eq_some_iff -> AFf,getElem?_append_left -> AFg,mapM_eq_mapM_toList -> ANH,getElem?_replicate -> AQD
set_option linter.unusedSimpArgs false
namespace Go.Og
variable {P:Program}{D:Am}{C:Cx}
theorem S6:∀{l},Ws l=true->∀o∈l,o.op ≠ .bad
 | [],_,o,b=>by simp at b
 | a::l,h,o,b=>by
  simp only[Ws,AI]at h;rcases BK.1 b with rfl|b
  ·intro j;rw[j]at h;cases h.1
  ·exact S6 h.2 o b
def Ad(R:Ren)(B:Bs)(x:Option Value):Oc->Prop
 | .val v=>∃y,x=some y/\BE R v=some y
 | .mark m off=>∃i,B m=some i/\x=some (.pointer (some ⟨i.blk,i.shift+off,none⟩))
 | .pal d _=>∃i,B d=some i/\x=some (.pointer (some ⟨i.blk,i.shift+0,none⟩))
theorem Ad.mono{R k B l x c}(h:Ad R B x c)(p:Le R k)(j:∀m i,B m=some i->l m=some i):Ad k l x c:=by
 cases c with
 | val v=>obtain⟨y,f,e⟩:=h;exact⟨y,f,C8 p v y e⟩ | mark m off=>obtain⟨i,f,e⟩:=h;exact⟨i,j _ _ f,e⟩ | pal d z=>obtain⟨i,f,e⟩:=h;exact⟨i,j _ _ f,e⟩
set_option maxHeartbeats 2000000 in
theorem wI (hD:∀f,DB P C.E C.G f (D f)) (hmix:P.follows .mixedOrders=true) {nR:Nat} {R0:Ren} {nt:Nat} (rid:Nat) {ops:Array Oper} {l:XL} {ancs:List Nat}
    (hflat:l.flat none=ops.toList.map (Bj P C.G nt ops)) (hpl:List.zipWith DP.mk ancs l.lks=IJ ops) (hplan:Qp ops (ops.toList.map (Bj P C.G nt ops)) (IJ ops)=true)
    (hok:l.okG none none=true) (hdo:nn (l.flat none) ancs=true) (hanl:ancs.length=l.lks.length) (hmk:l.makes=false) (hnb:Ws (l.flat none)=true)
    {s:St}{a0:Act}{w00:World}{J:Cb->Qs->Rg->H->AH}{res:V × H} (hpo:Hg s.q l.pals=true)
    (h:Fg C.E D true true 0 l 0 s.e s.q s.r s.U J=some res) (hI:Pz C nR R0 nt s a0 w00) (Q:Exit->Act->World->Prop)
    (hQ:∀s' a' w',J s'.e s'.q s'.r s'.U=some res->Pz C nR R0 nt s' a' w'->Q .normal a' w'):(Code.region rid ops true).wp P Q a0 w00:=by
  obtain⟨s',hrun,hκ,_⟩:=I5 l none none none true 0 s J res h hok (.inl ⟨rfl,rfl⟩) (λ_=>hmk)
  obtain⟨sts,oc,ex,hst0,hs',hat⟩:=iw hrun
  rw[UW]at hs'
  obtain⟨hfl1,hfl2⟩:=H5 l none
  have hsz:l.size=ops.size:=by rw[<-hfl1,hflat];simp
  generalize hnn:ops.size=n at *
  rw[hsz]at hs'
  have F:=S1 (l:=ops.toList.map (Bj P C.G nt ops)) (by simp) hplan
  have hgood:∀(i:Nat) (o:Oper),ops[i]? = some o->∃g,Bj P C.G nt ops o=⟨o.dst,Ah P C.G o.op,g⟩/\TL ops o.guard=some g/\I4 nt o.dst=true:=by
    intro i o ho
    have hmem:Bj P C.G nt ops o∈l.flat none:=by
      rw[hflat,Kl]
      exact⟨o,by simpa using Ht ho,rfl⟩
    have hb:=S6 hnb _ hmem
    unfold Bj at hb ⊢
    split at hb
    · rename_i g h1 h2;exact⟨g,rfl,h1,h2⟩
    · exact(hb rfl).elim
  have hlt:∀{i:Nat}{o:Oper},ops[i]? = some o->i<n:=λ{i o} ho=>by
    rcases Av i ops.size with h|h
    · omega
    · rw[CO h]at ho;cases ho
  have some3:∀(i:Nat),i<n->∃(o:Oper) (p:DP),ops[i]? = some o/\(IJ ops)[i]? = some p/\ancs.getD i 0=p.anc/\(l.flat none)[i]? = some (Bj P C.G nt ops o)/\At C.E D (sts i) (Bj P C.G nt ops o) p.looks (oc i) (ex i) (sts (i+1)):=by
    intro i hi
    have h1:i<ops.size:=by omega
    have ho:ops[i]? = some ops[i]:=EF h1
    have hf:(l.flat none)[i]? = some (Bj P C.G nt ops ops[i]):=by
      rw[hflat,BR,ET,ho];rfl
    have hk:l.lks[i]? = some (l.lks[i]'(by omega)):=AV _
    have ha:ancs[i]? = some (ancs[i]'(by omega)):=AV _
    refine⟨ops[i],⟨ancs[i]'(by omega),l.lks[i]'(by omega)⟩,ho,?_,?_,hf,?_⟩
    · rw[<-hpl,List.getElem?_zipWith,ha,hk]
    · rw[A1,ha];rfl
    · exact hat i _ _ (by rw[List.getElem?_zip_eq_some];exact⟨hf,hk⟩)
  have hdlt:∀(i:Nat) (o:Oper) (t:Nat),ops[i]? = some o->o.dst=some t->t<nt:=by
    intro i o t ho ht
    obtain⟨g,_,_,hd⟩:=hgood i o ho
    rw[ht]at hd;simpa[I4]using hd
  have hdu:∀(i k:Nat) (o o':Oper) (t:Nat),i≠k->ops[i]? = some o->ops[k]? = some o'->o.dst=some t->o'.dst≠some t:=by
    intro i k o o' t hne ho ho' ht
    obtain⟨o1,p1,h1,h2,_⟩:=some3 i (hlt ho)
    obtain⟨o2,p2,h3,h4,_⟩:=some3 k (hlt ho')
    exact(F.dsts i k o o' p1 p2 hne ho ho' h2 h4 t ht).1
  have hpald:∀(k m:Nat) (z:List V),k<n->oc k = .pal m z->ex k=true/\∃(o:Oper) (el:TypeId),ops[k]? = some o/\o.dst=some m/\Ah P C.G o.op = .alloc el z:=by
    intro k m z hk hc
    obtain⟨o,p,ho,_,_,_,hA⟩:=some3 k hk
    obtain⟨g,hg,_,_⟩:=hgood k o ho
    rw[hg]at hA
    rw[hc]at hA
    generalize ex k=x at hA ⊢
    cases hA with
    | pal _ d el z hd ho' hw h=>exact⟨rfl,o,el,ho,hd,ho'⟩
  have hpalu:∀(k k' m:Nat) (z z':List V),k<n->k'<n->oc k = .pal m z->oc k' = .pal m z'->k=k':=by
    intro k k' m z z' hk hk' h1 h2
    rcases Nat.decEq k k' with hne|he
    · exfalso
      obtain⟨_,o,_,ho,hd,_⟩:=hpald k m z hk h1
      obtain⟨_,o',_,ho',hd',_⟩:=hpald k' m z' hk' h2
      exact hdu k k' o o' m hne ho ho' hd hd'
    · exact he
  let W:Nat->Prop:=λi=>ex i=true/\∃o:Oper,ops[i]? = some o/\(Ah P C.G o.op).cls = .k
  have seg:∀(p i:Nat),p<=i->i<=n->(∀k:Nat,p<=k->k<i->¬W k)->(sts i).U=(sts p).U/\(∀m,(∀k z,p<=k->k<i->oc k ≠ .pal m z)->look (sts i).r m=look (sts p).r m) /\
      (∀k m z,p<=k->k<i->oc k = .pal m z->look (sts i).r m=some z):=by
    intro p i
    induction i with
    | zero=>
      intro hpi _ _
      have:p=0:=by omega
      subst this
      exact⟨rfl,λ_ _=>rfl,λk m z h1 h2=>by omega⟩
    | succ i ih=>
      intro hpi' hin hW
      by_cases hpe:p=i+1
      · subst hpe;exact⟨rfl,λ_ _=>rfl,λk m z h1 h2=>by omega⟩
      have hpi:p<=i:=by omega
      have ih:=ih hpi
      obtain⟨h1,h2,h3⟩:=ih (by omega) (λk hk1 hk2=>hW k hk1 (by omega))
      obtain⟨o,p',ho,_,_,_,hA⟩:=some3 i (by omega)
      obtain⟨g,hg,_,_⟩:=hgood i o ho
      rw[hg]at hA
      have same:(sts (i+1)).U=(sts i).U->(sts (i+1)).r=(sts i).r->(∀m z,oc i ≠ .pal m z)->(sts (i+1)).U=(sts p).U/\(∀m,(∀k z,p<=k->k<i+1->oc k ≠ .pal m z)->look (sts (i+1)).r m=look (sts p).r m) /\
          (∀k m z,p<=k->k<i+1->oc k = .pal m z->look (sts (i+1)).r m=some z):=by
        intro e1 e2 hnp
        refine⟨e1.trans h1,λm hm=>by rw[e2];exact h2 m (λk z hk1 hk2=>hm k z hk1 (by omega)),λk m z hk1 hk2 hkc=>?_⟩
        rw[e2]
        by_cases hki:k=i
        · subst hki;exact(hnp _ _ hkc).elim
        · exact h3 k m z hk1 (by omega) hkc
      have hWi:=hW i hpi (by omega)
      generalize hoc:oc i=c at hA
      generalize hex:ex i=x at hA
      cases hA with
      | skip _ hw h=>exact same h.2.2.2 h.2.2.1 (λm z hh=>by rw[hoc]at hh;cases hh)
      | val _ pw v r' U' hw hs hl hna h=>
        obtain⟨e1,e2⟩:=Qe hs (λhk=>hWi ⟨hex,o,ho,hk⟩) hna
        exact same (h.2.2.2.trans e2) (h.2.2.1.trans e1) (λm z hh=>by rw[hoc]at hh;cases hh)
      | mark _ pw id nx m off hw hs h=>exact same h.2.2.2 h.2.2.1 (λm z hh=>by rw[hoc]at hh;cases hh)
      | pal _ d el z hd ho' hw h=>
        have hr:(sts (i+1)).r=(d,z)::Br [d] (sts i).r:=h.2.2.1
        have hne:∀m,m≠d->look (sts (i+1)).r m=look (sts i).r m:=λm hm=>by
          rw[hr]
          simp only[look,AW]
          rw[if_neg (Ne.symm hm),Cd,if_neg (λhh=>hm ((Hz d m).1 hh).symm)]
        refine⟨h.2.2.2.trans h1,λm hm=>?_,λk m z' hk1 hk2 hkc=>?_⟩
        · have hmd:m≠d:=λhe=>hm i z hpi (by omega) (by rw[hoc,he])
          rw[hne m hmd]
          exact h2 m (λk z hk1 hk2=>hm k z hk1 (by omega))
        · by_cases hki:k=i
          · subst hki
            rw[hoc]at hkc;cases hkc
            rw[hr];simp[look]
          · have hmd:m≠d:=λhe=>hki (hpalu k i d z' z (by omega) (by omega) (by rw[hkc,he]) hoc)
            rw[hne m hmd]
            exact h3 k m z' hk1 (by omega) hkc
  have roots:∀(i:Nat),i<=n->∀(t m off:Nat),look (sts i).q t=some (m,off)->∀k z,k<n->oc k = .pal m z->k<i:=by
    intro i
    induction i with
    | zero=>
      intro _ t m off hl k z hk hc
      exfalso
      obtain⟨_,o,el,ho,hd,hcc⟩:=hpald k m z hk hc
      obtain⟨g,hg,_,_⟩:=hgood k o ho
      have hmem:Bj P C.G nt ops o∈l.flat none:=by
        rw[hflat,Kl]
        exact⟨o,by simpa using Ht ho,rfl⟩
      have:=J0 l none hmk _ hmem m (by rw[hg];simp only[hcc];rfl) (by rw[hg];exact hd)
      exact Mx hpo m this t off (hst0.2.1 t _ hl)
    | succ i ih=>
      intro hin t m off hl k z hk hc
      have ih:=ih (by omega)
      obtain⟨o,p',ho,_,_,_,hA⟩:=some3 i (by omega)
      generalize hoc:oc i=c at hA
      generalize hex:ex i=x at hA
      have old:∀t,look (sts i).q t=some (m,off)->k<i+1:=λt ht=>WN (ih t m off ht k z hk hc)
      cases hA with
      | skip _ hw h=>
        have:=h.2.1 t _ hl
        rw[CS]at this
        split at this
        · cases this
        · exact old t this
      | val _ pw v r' U' hw hs hl' hna h=>
        have:=h.2.1 t _ hl
        rw[CS]at this
        split at this
        · cases this
        · exact old t this
      | mark _ pw id nx m' off' hw hs h=>
        have:=h.2.1 t _ hl
        rw[MH]at this
        split at this
        · simp only[AP.injEq,Prod.mk.injEq]at this
          obtain⟨rfl,rfl⟩:=this
          obtain⟨x,off2,hx⟩:=jD hs
          cases x with
          | con v=>cases hx
          | tmp u=>
            have hx:look (Mu p'.looks (sts i).q) u=some (m',off2):=hx
            exact WN (ih u m' off2 (H2 _ _ _ _ hx).1 k z hk hc)
        · rw[CS]at this
          split at this
          · cases this
          · exact old t this
      | pal _ d el z' hd ho' hw h=>
        have:=h.2.1 t _ hl
        simp only[look,AW]at this
        split at this
        · simp only[AP.injEq,Prod.mk.injEq]at this
          obtain⟨rfl,rfl⟩:=this
          have:=hpalu k i d z z' hk (by omega) hc hoc
          omega
        · have h2:=(LZ _ _ _ _ this).2
          rw[Cd]at h2
          split at h2
          · cases h2
          · exact old t h2
  have srcE:∀(i:Nat),i<=n->∀(t:Nat) (v:V),look (sts i).e t=some v->(∃(k:Nat) (o':Oper),k<i/\ops[k]? = some o'/\o'.dst=some t/\oc k = .val v)\/(look s.e t=some v/\∀(k:Nat) (o':Oper),k<i->ops[k]? = some o'->o'.dst≠some t):=by
    intro i
    induction i with
    | zero=>intro _ t v hl;exact .inr ⟨hst0.1 t v hl,λk o' hk=>by omega⟩
    | succ i ih=>
      intro hin t v hl
      have ih:=ih (by omega)
      obtain⟨o,p',ho,_,_,_,hA⟩:=some3 i (by omega)
      obtain⟨g,hg,_,_⟩:=hgood i o ho
      rw[hg]at hA
      generalize hoc:oc i=c at hA
      generalize hex:ex i=x at hA
      have old:o.dst≠some t->look (sts i).e t=some v->(∃(k:Nat) (o':Oper),k<i+1/\ops[k]? = some o'/\o'.dst=some t/\oc k = .val v)\/(look s.e t=some v/\∀(k:Nat) (o':Oper),k<i+1->ops[k]? = some o'->o'.dst≠some t):=by
        intro hne ht
        rcases ih t v ht with ⟨k,o',h1,h2,h3,h4⟩|⟨h1,h2⟩
        · exact .inl ⟨k,o',by omega,h2,h3,h4⟩
        · refine .inr ⟨h1,λk o' hk ho'=>?_⟩
          by_cases hki:k=i
          · subst hki;rw[ho]at ho';cases ho';exact hne
          · exact h2 k o' (by omega) ho'
      cases hA with
      | skip _ hw h=>
        have:=h.1 t _ hl
        rw[Hk]at this
        split at this
        · rename_i hd;cases this;exact .inl ⟨i,o,by omega,ho,hd,hoc⟩
        · rename_i hd;exact old hd this
      | val _ pw v' r' U' hw hs hl' hna h=>
        have:=h.1 t _ hl
        rw[Hk]at this
        split at this
        · rename_i hd;cases this;exact .inl ⟨i,o,by omega,ho,hd,hoc⟩
        · rename_i hd;exact old hd this
      | mark _ pw id nx m' off' hw hs h=>
        have:=h.1 t _ hl
        rw[CS]at this
        split at this
        · cases this
        · rename_i hd;exact old hd this
      | pal _ d el z' hd ho' hw h=>
        have:=h.1 t _ hl
        rw[Cd]at this
        split at this
        · cases this
        · rename_i hm
          exact old (λhh=>hm ((Hz d t).2 (by rw[show o.dst=some d from hd]at hh;simpa using hh))) this
  have srcQ:∀(i:Nat),i<=n->∀(t m off:Nat),look (sts i).q t=some (m,off)->(∃(k:Nat) (o':Oper),k<i/\ops[k]? = some o'/\o'.dst=some t/\(oc k = .mark m off\/∃z,oc k = .pal m z/\off=0)) \/
      (look s.q t=some (m,off)/\∀(k:Nat) (o':Oper),k<i->ops[k]? = some o'->o'.dst≠some t):=by
    intro i
    induction i with
    | zero=>intro _ t m off hl;exact .inr ⟨hst0.2.1 t _ hl,λk o' hk=>by omega⟩
    | succ i ih=>
      intro hin t m off hl
      have ih:=ih (by omega)
      obtain⟨o,p',ho,_,_,_,hA⟩:=some3 i (by omega)
      obtain⟨g,hg,_,_⟩:=hgood i o ho
      rw[hg]at hA
      generalize hoc:oc i=c at hA
      generalize hex:ex i=x at hA
      have old:o.dst≠some t->look (sts i).q t=some (m,off)->(∃(k:Nat) (o':Oper),k<i+1/\ops[k]? = some o'/\o'.dst=some t/\(oc k = .mark m off\/∃z,oc k = .pal m z/\off=0)) \/
          (look s.q t=some (m,off)/\∀(k:Nat) (o':Oper),k<i+1->ops[k]? = some o'->o'.dst≠some t):=by
        intro hne ht
        rcases ih t m off ht with ⟨k,o',h1,h2,h3,h4⟩|⟨h1,h2⟩
        · exact .inl ⟨k,o',by omega,h2,h3,h4⟩
        · refine .inr ⟨h1,λk o' hk ho'=>?_⟩
          by_cases hki:k=i
          · subst hki;rw[ho]at ho';cases ho';exact hne
          · exact h2 k o' (by omega) ho'
      cases hA with
      | skip _ hw h=>
        have:=h.2.1 t _ hl
        rw[CS]at this
        split at this
        · cases this
        · rename_i hd;exact old hd this
      | val _ pw v' r' U' hw hs hl' hna h=>
        have:=h.2.1 t _ hl
        rw[CS]at this
        split at this
        · cases this
        · rename_i hd;exact old hd this
      | mark _ pw id nx m' off' hw hs h=>
        have:=h.2.1 t _ hl
        rw[MH]at this
        split at this
        · rename_i hd
          simp only[AP.injEq,Prod.mk.injEq]at this
          obtain⟨rfl,rfl⟩:=this
          exact .inl ⟨i,o,by omega,ho,hd,.inl hoc⟩
        · rename_i hd
          rw[CS,if_neg hd]at this
          exact old hd this
      | pal _ d el z' hd ho' hw h=>
        have:=h.2.1 t _ hl
        simp only[look,AW]at this
        split at this
        · rename_i hdt
          simp only[AP.injEq,Prod.mk.injEq]at this
          obtain⟨rfl,rfl⟩:=this
          exact .inl ⟨i,o,by omega,ho,by rw[<-hdt];exact hd,.inr ⟨z',hoc,rfl⟩⟩
        · rename_i hdt
          have h2:=(LZ _ _ _ _ this).2
          rw[Cd]at h2
          split at h2
          · cases h2
          · exact old (λhh=>hdt (by rw[show o.dst=some d from hd]at hh;simpa using hh)) h2
  obtain⟨Rs,Bs0,hx0,hn0,hm0,he0,hq0,hnt0,hd0⟩:=hI
  let Bi:Bs:=λm=>if B2 l.pals m=true then none else Bs0 m
  have hpalm:∀(k m:Nat) (z:List V),k<n->oc k = .pal m z->B2 l.pals m=true:=by
    intro k m z hk hc
    obtain⟨_,o,el,ho,hd,hcc⟩:=hpald k m z hk hc
    obtain⟨g,hg,_,_⟩:=hgood k o ho
    have hmem:Bj P C.G nt ops o∈l.flat none:=by
      rw[hflat,Kl]
      exact⟨o,by simpa using Ht ho,rfl⟩
    exact J0 l none hmk _ hmem m (by rw[hg];simp only[hcc];rfl) (by rw[hg];exact hd)
  let Inv:Array Bool->Act->World->Prop:=λlisted a w=>
    listed.size=n/\(∀(i:Nat) (o:Oper),listed.getD i false=true->ops[i]? = some o->∀ed∈o.after,Region.binds .any ed=true->listed.getD ed.on false=true)/\a.defers=[] /\
    ∃(R:Ren) (B:Bs) (p:Nat) (rL:Rg),p<=n/\(p=0\/∃j,p=j+1/\W j/\listed.getD j false=true)/\(∀j,j<n->W j->(listed.getD j false=true↔j<p))/\Jf nR R0 R/\nR<=(sts p).U.next /\
      V9 C R B rL (sts p).U w/\(∀k m z,p<=k->k<n->listed.getD k false=true->oc k = .pal m z->look rL m=some z) /\
      (∀m,(∀k z,p<=k->k<n->listed.getD k false=true->oc k ≠ .pal m z)->look rL m=look (sts p).r m) /\
      (∀k m z,k<n->oc k = .pal m z->listed.getD k false=false->B m=none)/\nt<=a.tmps.size /\
      (∀(i:Nat) (o:Oper) (t:Nat),listed.getD i false=true->ops[i]? = some o->o.dst=some t->Ad R B a.tmps[t]? (oc i)) /\
      (∀t v,look s.e t=some v->(∀(i:Nat) (o:Oper),listed.getD i false=true->ops[i]? = some o->o.dst≠some t)->∃x,a.tmps[t]? = some x/\BE R v=some x) /\
      (∀t m off,look s.q t=some (m,off)->(∀(i:Nat) (o:Oper),listed.getD i false=true->ops[i]? = some o->o.dst≠some t)->∃i,B m=some i/\a.tmps[t]? = some (.pointer (some ⟨i.blk,i.shift+off,none⟩)))
  have hanc:∀(listed:Array Bool),(∀(i:Nat) (o:Oper),listed.getD i false=true->ops[i]? = some o->∀ed∈o.after,Region.binds .any ed=true->listed.getD ed.on false=true) ->
      ∀(i:Nat) (o:Oper) (p:DP),ops[i]? = some o->(IJ ops)[i]? = some p->(∀ed∈o.after,Region.binds .any ed=true->listed.getD ed.on false=true)->∀(k:Nat),k<n->p.anc.testBit k=true->listed.getD k false=true:=by
    intro listed hcl i
    induction i using QQ with
    | _ i ih=>
      intro o p ho hp hed k hk hb
      obtain⟨ed,hem,hbe,hr⟩:=F.anc i o p ho hp k (by omega) hb
      have hlt':=F.edges i o ho ed hem hbe
      have hli:=hed ed hem hbe
      rcases hr with rfl|hr
      · exact hli
      · have hin:i<n:=hlt ho
        obtain⟨o2,p2,h1,h3,_⟩:=some3 ed.on (by omega)
        exact ih ed.on hlt' o2 p2 h1 h3 (λed2 hm2 hb2=>hcl ed.on o2 hli h1 ed2 hm2 hb2) k hk (by rw[<-KE h3];exact hr)
  have hready_nil:∀listed:Array Bool,listed.size=n->Region.ready .any ops listed=[]->∀k,k<n->listed.getD k false=true:=by
    intro listed hsz' hr k
    induction k using QQ with
    | _ k ih=>
      intro hk
      cases hb:listed.getD k false with
      | true=>rfl
      | false=>
        exfalso
        obtain⟨o,p,h1,_⟩:=some3 k hk
        have:k∈Region.ready .any ops listed:=mem_ready.2 ⟨by rw[D9 hsz' hk];exact hb,o,h1,λed hm hbd=>ih ed.on (F.edges k o h1 ed hm hbd) (by have:=F.edges k o h1 ed hm hbd;omega)⟩
        rw[hr]at this;cases this
  have hnone:∀(listed:Array Bool),(∀(i:Nat) (o:Oper),listed.getD i false=true->ops[i]? = some o->∀ed∈o.after,Region.binds .any ed=true->listed.getD ed.on false=true) ->
      ∀(j:Nat) (t:Nat),j<=n->(j<n->∃o p,ops[j]? = some o/\(IJ ops)[j]? = some p/\listed.getD j false=false/\B2 p.looks t=true) ->
      (∀(k:Nat) (o':Oper),k<j->ops[k]? = some o'->o'.dst≠some t)->∀(i:Nat) (o:Oper),listed.getD i false=true->ops[i]? = some o->o.dst≠some t:=by
    intro listed hcl j t hj hrd hk2 i oi hli hoi hdst
    have hin:i<n:=hlt hoi
    by_cases hij:i<j
    · exact hk2 i oi hij hoi hdst
    · have hjn:j<n:=by omega
      obtain⟨o,p,ho,hp,hnl,hlook⟩:=hrd hjn
      by_cases hie:i=j
      · subst hie;rw[hnl]at hli;cases hli
      · obtain⟨o3,p3,h1,h3,_⟩:=some3 i hin
        rw[hoi]at h1;cases h1
        have hd:=(F.dsts i j oi o p3 p hie hoi ho h3 hp t hdst).2 hlook
        rcases hd with hd|hd
        · have:=F.ancLt j p hp i (by omega) hd;omega
        · have:=hanc listed hcl i oi p3 hoi h3 (λed hm hb=>hcl i oi hli hoi ed hm hb) j hjn hd
          rw[hnl]at this;cases this
  have hwritten:∀(listed:Array Bool),(∀(i:Nat) (o:Oper),listed.getD i false=true->ops[i]? = some o->∀ed∈o.after,Region.binds .any ed=true->listed.getD ed.on false=true) ->
      ∀(j t k:Nat) (ok:Oper),j<=n->(j=n->∀k,k<n->listed.getD k false=true)->(j<n->∃o p,ops[j]? = some o/\(IJ ops)[j]? = some p/\B2 p.looks t=true/\(∀ed∈o.after,Region.binds .any ed=true->listed.getD ed.on false=true)) ->
      k<j->ops[k]? = some ok->ok.dst=some t->listed.getD k false=true:=by
    intro listed hcl j t k ok hj hall hrd hk hok' hdst
    by_cases hjn:j<n
    · obtain⟨o,p,ho,hp,hlook,hed⟩:=hrd hjn
      obtain⟨o3,p3,h1,h3,_⟩:=some3 k (by omega)
      rw[hok']at h1;cases h1
      have hd:=(F.dsts k j ok o p3 p (by omega) hok' ho h3 hp t hdst).2 hlook
      rcases hd with hd|hd
      · exact hanc listed hcl j o p ho hp hed k (by omega) hd
      · have:=F.ancLt k p3 h3 j (by omega) hd;omega
    · exact hall (by omega) k (by omega)
  have hput:∀(a:Act) (d:Option Nat) (x:Value) (t:Nat),d≠some t->(a.put d x).tmps[t]? = a.tmps[t]? := by
    intro a d x t hne
    cases d with
    | none=>rfl
    | some d=>
      simp only[Act.put,BN]
      rw[if_neg (λh=>hne (by rw[h]))]
  have hputsz:∀(a:Act) (d:Option Nat) (x:Value),(a.put d x).tmps.size=a.tmps.size:=by
    intro a d x;cases d<;>simp[Act.put]
  have hclsk:∀(listed:Array Bool),(∀(i:Nat) (o:Oper),listed.getD i false=true->ops[i]? = some o->∀ed∈o.after,Region.binds .any ed=true->listed.getD ed.on false=true) ->
      ∀(i:Nat) (o:Oper),ops[i]? = some o->listed.getD i false=false->(∀ed∈o.after,Region.binds .any ed=true->listed.getD ed.on false=true)->∀j,j<n->W j ->
        ((Ah P C.G o.op).cls = .k->(j<i->listed.getD j false=true)/\(i<j->listed.getD j false=false)) /\
        ((Ah P C.G o.op).cls = .l->(j<i->listed.getD j false=true)/\(i<j->listed.getD j false=false)) /\
        ((Ah P C.G o.op).cls = .a->(i<j->listed.getD j false=false)):=by
    intro listed hcl i o ho hnl hed j hj hWj
    obtain⟨hexj,oj,hoj,hcj⟩:=hWj
    have hi:i<n:=hlt ho
    obtain⟨o1,p1,e1,e2,e3,e4,_⟩:=some3 i hi
    rw[ho]at e1;cases e1
    obtain⟨o2,p2,f1,f2,f3,f4,_⟩:=some3 j hj
    rw[hoj]at f1;cases f1
    obtain⟨g1,hg1,_⟩:=hgood i o ho
    obtain⟨g2,hg2,_⟩:=hgood j oj hoj
    have hup:∀k,k<n->p1.anc.testBit k=true->listed.getD k false=true:=hanc listed hcl i o p1 ho e2 hed
    have hdown:p2.anc.testBit i=true->listed.getD j false=false:=by
      intro hb
      cases hlj:listed.getD j false with
      | false=>rfl
      | true=>
        exfalso
        have:=hanc listed hcl j oj p2 hoj f2 (λed hm hb=>hcl j oj hlj hoj ed hm hb) i hi hb
        rw[hnl]at this;cases this
    have hl1:(ops.toList.map (Bj P C.G nt ops))[i]? = some (Bj P C.G nt ops o):=by rw[<-hflat];exact e4
    have hl2:(ops.toList.map (Bj P C.G nt ops))[j]? = some (Bj P C.G nt ops oj):=by rw[<-hflat];exact f4
    have hkj:(Bj P C.G nt ops oj).op.cls = .k:=by rw[hg2];exact hcj
    have hdoj:=If hdo j (by rw[hfl1];omega)
    rw[f4]at hdoj
    simp only[hkj]at hdoj
    have hdoji:=If hdoj i (by rw[hfl1];omega)
    rw[e4]at hdoji
    rw[e3,f3]at hdoji
    refine⟨λhk=>?_,λhk=>?_,λhk=>?_⟩
    · have hki:(Bj P C.G nt ops o).op.cls = .k:=by rw[hg1];exact hk
      exact⟨λhji=>hup j hj (F.kk j i _ _ p1 hji hl2 hl1 e2 hkj hki),λhij=>hdown (F.kk i j _ _ p2 hij hl1 hl2 f2 hki hkj)⟩
    · have hki:(Bj P C.G nt ops o).op.cls = .l:=by rw[hg1];exact hk
      simp only[hki,B5]at hdoji
      rcases hdoji with hb|hb
      · have:=F.ancLt i p1 e2 j (by omega) hb
        exact⟨λ_=>hup j hj hb,λhij=>by omega⟩
      · have:=F.ancLt j p2 f2 i (by omega) hb
        exact⟨λhji=>by omega,λ_=>hdown hb⟩
    · have hki:(Bj P C.G nt ops o).op.cls = .a:=by rw[hg1];exact hk
      simp only[hki,B5,DL]at hdoji
      intro hij
      rcases hdoji with hb|hb
      · have:Cr i j=true:=by simpa using hij
        rw[this]at hb;cases hb
      · exact hdown hb
  have hallk:∀(listed:Array Bool),(∀(i:Nat) (o:Oper),listed.getD i false=true->ops[i]? = some o->∀ed∈o.after,Region.binds .any ed=true->listed.getD ed.on false=true) ->
      ∀(i:Nat) (o:Oper),ops[i]? = some o->(∀ed∈o.after,Region.binds .any ed=true->listed.getD ed.on false=true)->(Ah P C.G o.op).cls = .k->∀k m z,k<i->oc k = .pal m z->listed.getD k false=true:=by
    intro listed hcl i o ho hed hk k m z hki hc
    have hi:i<n:=hlt ho
    obtain⟨o1,p1,e1,e2,e3,e4,_⟩:=some3 i hi
    rw[ho]at e1;cases e1
    obtain⟨g1,hg1,_⟩:=hgood i o ho
    obtain⟨_,ok,el,hok',hdk,hck⟩:=hpald k m z (by omega) hc
    obtain⟨o2,p2,f1,f2,f3,f4,_⟩:=some3 k (by omega)
    rw[hok']at f1;cases f1
    obtain⟨g2,hg2,_⟩:=hgood k ok hok'
    have hkk:(Bj P C.G nt ops o).op.cls = .k:=by rw[hg1];exact hk
    have hdoj:=If hdo i (by rw[hfl1];omega)
    rw[e4]at hdoj
    simp only[hkk]at hdoj
    have hdoji:=If hdoj k (by rw[hfl1];omega)
    rw[f4]at hdoji
    have hka:(Bj P C.G nt ops ok).op.cls = .a:=by rw[hg2];simp only[hck];rfl
    rw[e3]at hdoji
    simp only[hka,B5,DL]at hdoji
    rcases hdoji with hb|hb
    · have:Cr k i=true:=by simpa using hki
      rw[this]at hb;cases hb
    · exact hanc listed hcl i o p1 ho e2 hed k (by omega) hb
  have hfin:∀listed a w,Inv listed a w->(∀k,k<n->listed.getD k false=true)->Q .normal a w:=by
    intro listed a w hI hall
    obtain⟨hls,hcl,hd,R,B,p,rL,hpn,hp0,hpw,hx,hnp,hmem,hr1,hr2,hbs,htsz,hw,hu,hqq⟩:=hI
    have hnW:∀k,p<=k->k<n->¬W k:=λk h1 h2 hW=>by have:=(hpw k h2 hW).1 (hall k h2);omega
    obtain⟨s1,s2,s3⟩:=seg p n hpn (AL _) hnW
    have hrr:∀m,look rL m=look (sts n).r m:=by
      intro m
      by_cases hex2:∃k z,p<=k/\k<n/\oc k = .pal m z
      · obtain⟨k,z,h1,h2,h3⟩:=hex2
        rw[hr1 k m z h1 h2 (hall k h2) h3,s3 k m z h1 h2 h3]
      · have hno:∀k z,p<=k->k<n->oc k ≠ .pal m z:=λk z h1 h2 h3=>hex2 ⟨k,z,h1,h2,h3⟩
        rw[hr2 m (λk z h1 h2 _=>hno k z h1 h2),s2 m hno]
    rw[hs']at hκ
    refine hQ (sts n) a w hκ ⟨R,B,hx,by rw[s1];exact hnp,⟨by rw[s1];exact hmem.rel,⟨λm i hm=>?_,hmem.priv.inj,by rw[s1];exact hmem.priv.apart⟩⟩,⟨λt v hv=>?_⟩,⟨λt m off hv=>?_⟩,htsz,hd⟩
    · obtain⟨h1,l',h2,h3⟩:=hmem.priv.at_ m i hm
      exact⟨h1,l',by rw[<-hrr];exact h2,h3⟩
    · rcases srcE n (AL _) t v hv with ⟨k,o',h1,h2,h3,h4⟩ | ⟨h1,h2⟩
      · have:=hw k o' t (hall k h1) h2 h3
        rw[h4]at this;exact this
      · exact hu t v h1 (hnone listed hcl n t (AL _) (λh=>by omega) h2)
    · rcases srcQ n (AL _) t m off hv with ⟨k,o',h1,h2,h3,h4⟩ | ⟨h1,h2⟩
      · have:=hw k o' t (hall k h1) h2 h3
        rcases h4 with h4|⟨z,h4,rfl⟩
        · rw[h4]at this;exact this
        · rw[h4]at this;exact this
      · exact hqq t m off h1 (hnone listed hcl n t (AL _) (λh=>by omega) h2)
  have hstep:∀listed a w,Inv listed a w->∀i,i∈Region.ready .any ops listed->∀K:Act->World->Prop,(∀a' w',Inv (listed.setIfInBounds i true) a' w'->K a' w')->wpOp P ops Q i K a w:=by
    intro listed a w hI i hi K hK
    obtain⟨hls,hcl,hd,R,B,p,rL,hpn,hp0,hpw,hx,hnp,hmem,hr1,hr2,hbs,htsz,hw,hu,hqq⟩:=hI
    obtain⟨hli,o,ho,hed⟩:=mem_ready.1 hi
    have hin:i<n:=hlt ho
    have hnl:listed.getD i false=false:=by rw[<-D9 hls hin];exact hli
    obtain⟨o2,pi,ho2,hpi,_,_,hA⟩:=some3 i hin
    rw[ho]at ho2;cases ho2
    obtain⟨g,hg,hcg,hdok⟩:=hgood i o ho
    rw[hg]at hA
    have hsz':i<listed.size:=by omega
    have hLs:∀k,(listed.setIfInBounds i true).getD k false=(decide (k=i) || listed.getD k false):=λk=>Jt hsz'
    have hLi:(listed.setIfInBounds i true).getD i false=true:=by rw[hLs];simp
    have hLo:∀k,k≠i->(listed.setIfInBounds i true).getD k false=listed.getD k false:=λk hk=>by rw[hLs];simp[hk]
    have hclk:=hclsk listed hcl i o ho hnl hed
    have hmw:=hmem.rel
    have hem:Ig R (Ei true pi.looks (sts i).e) a.tmps:=by
      refine⟨λt v hv=>?_⟩
      obtain⟨ht,hmemt⟩:=I0 _ _ _ _ hv
      rcases srcE i (by omega) t v ht with ⟨k,o',h1,h2,h3,h4⟩|⟨h1,h2⟩
      · have:=hw k o' t (hwritten listed hcl i t k o' (by omega) (λh=>by omega) (λ_=>⟨o,pi,ho,hpi,hmemt,hed⟩) h1 h2 h3) h2 h3
        rw[h4]at this;exact this
      · exact hu t v h1 (hnone listed hcl i t (by omega) (λ_=>⟨o,pi,ho,hpi,hnl,hmemt⟩) h2)
    have hqm:V7 B (MR true pi.looks (sts i).q) a.tmps:=by
      refine⟨λt m off hv=>?_⟩
      obtain⟨ht,hmemt⟩:=H2 _ _ _ _ hv
      rcases srcQ i (by omega) t m off ht with ⟨k,o',h1,h2,h3,h4⟩|⟨h1,h2⟩
      · have:=hw k o' t (hwritten listed hcl i t k o' (by omega) (λh=>by omega) (λ_=>⟨o,pi,ho,hpi,hmemt,hed⟩) h1 h2 h3) h2 h3
        rcases h4 with h4|⟨z,h4,rfl⟩
        · rw[h4]at this;exact this
        · rw[h4]at this;exact this
      · exact hqq t m off h1 (hnone listed hcl i t (by omega) (λ_=>⟨o,pi,ho,hpi,hnl,hmemt⟩) h2)
    have mk:∀(R':Ren) (B':Bs) (p':Nat) (rL':Rg) (w':World) (x:Value),p'<=n->(p'=0\/∃j,p'=j+1/\W j/\(listed.setIfInBounds i true).getD j false=true) ->
        (∀j,j<n->W j->((listed.setIfInBounds i true).getD j false=true↔j<p'))->Jf nR R0 R'->nR<=(sts p').U.next->V9 C R' B' rL' (sts p').U w' ->
        (∀k m z,p'<=k->k<n->(listed.setIfInBounds i true).getD k false=true->oc k = .pal m z->look rL' m=some z) ->
        (∀m,(∀k z,p'<=k->k<n->(listed.setIfInBounds i true).getD k false=true->oc k ≠ .pal m z)->look rL' m=look (sts p').r m) ->
        (∀k m z,k<n->oc k = .pal m z->(listed.setIfInBounds i true).getD k false=false->B' m=none)->Le R R'->(∀m b,B m=some b->B' m=some b) ->
        (∀t,o.dst=some t->Ad R' B' (some x) (oc i))->K (a.put o.dst x) w':=by
      intro R' B' p' rL' w' x h1 h2 h3 h4 h5 h6 h7 h8 h9 h10 h11 h12
      refine hK _ _ ⟨by rw[EY];exact hls,?_,by rw[Hm];exact hd,R',B',p',rL',h1,h2,h3,h4,h5,h6,h7,h8,h9,by rw[hputsz];exact htsz,?_,?_,?_⟩
      · intro i' o' hi' ho' ed hm' hb'
        rw[hLs]at hi' ⊢
        simp only[B5,decide_eq_true_eq]at hi' ⊢
        rcases hi' with rfl|hi'
        · rw[ho]at ho';cases ho'
          exact .inr (hed ed hm' hb')
        · exact .inr (hcl i' o' hi' ho' ed hm' hb')
      · intro i' o' t hi' ho' hdt
        rw[hLs]at hi'
        simp only[B5,decide_eq_true_eq]at hi'
        by_cases he:i'=i
        · subst he
          rw[ho]at ho';cases ho'
          have:=h12 t hdt
          have htl:t<a.tmps.size:=Cj (hdlt i' o t ho hdt) htsz
          have hpt:(a.put o.dst x).tmps[t]? = some x:=by rw[hdt];simp[Act.put,BN,htl]
          rw[hpt];exact this
        · have:=hw i' o' t (hi'.resolve_left he) ho' hdt
          rw[hput a o.dst x t (hdu i' i o' o t he ho' ho hdt)]
          exact this.mono h10 h11
      · intro t v hv hno
        rw[hput a o.dst x t (hno i o hLi ho)]
        obtain⟨y,hy1,hy2⟩:=hu t v hv (λi' o' hi' ho'=>hno i' o' (by rw[hLs,hi'];simp) ho')
        exact⟨y,hy1,C8 h10 v y hy2⟩
      · intro t m off hv hno
        rw[hput a o.dst x t (hno i o hLi ho)]
        obtain⟨b,hb1,hb2⟩:=hqq t m off hv (λi' o' hi' ho'=>hno i' o' (by rw[hLs,hi'];simp) ho')
        exact⟨b,h11 m b hb1,hb2⟩
    have mk0:∀(R':Ren) (w':World) (x:Value),¬W i->(∀m z,oc i ≠ .pal m z)->Jf nR R0 R'->V9 C R' B rL (sts p).U w'->Le R R'->(∀t,o.dst=some t->Ad R' B (some x) (oc i))->K (a.put o.dst x) w':=by
      intro R' w' x hnW hnp' h1 h2 h3 h4
      refine mk R' B p rL w' x hpn ?_ ?_ h1 hnp h2 ?_ ?_ ?_ h3 (λ_ _ h=>h) h4
      · rcases hp0 with h | ⟨j,h5,h6,h7⟩
        · exact .inl h
        · exact .inr ⟨j,h5,h6,by rw[hLs,h7];simp⟩
      · intro j hj hWj
        by_cases hji:j=i
        · subst hji;exact(hnW hWj).elim
        · rw[hLo j hji];exact hpw j hj hWj
      · intro k m z hk1 hk2 hk3 hk4
        by_cases hki:k=i
        · subst hki;exact(hnp' m z hk4).elim
        · rw[hLo k hki]at hk3;exact hr1 k m z hk1 hk2 hk3 hk4
      · intro m hm
        refine hr2 m (λk z hk1 hk2 hk3=>?_)
        exact hm k z hk1 hk2 (by rw[hLs,hk3];simp)
      · intro k m z hk1 hk2 hk3
        by_cases hki:k=i
        · subst hki;rw[hLi]at hk3;cases hk3
        · rw[hLo k hki]at hk3;exact hbs k m z hk1 hk2 hk3
    have hext:∀R',(∀k,k<(sts p).U.next->k≠(sts p).U.next->R' k=R k)->Jf nR R0 R':=λR' hk k hkn=>by rw[hk k (by omega) (by omega)];exact hx k hkn
    have hpi':(∀j,j<n->W j->i<j->listed.getD j false=false)->p<=i:=by
      intro hno
      rcases hp0 with h|⟨j,h1,h2,h3⟩
      · omega
      · rcases ANy j i with h4 | h4 | h4
        · omega
        · subst h4;rw[hnl]at h3;cases h3
        · have hW:=h2
          obtain⟨_,oj,hoj,_⟩:=h2
          rw[hno j (hlt hoj) hW h4]at h3;cases h3
    have hnoW:(∀j,j<n->W j->j<i->listed.getD j false=true)->∀k,p<=k->k<i->¬W k:=by
      intro hyes k hk1 hk2 hWk
      have:=(hpw k (by omega) hWk).1 (hyes k (by omega) hWk hk2)
      omega
    have hsame:p<=i->(∀k,p<=k->k<i->¬W k)->(sts i).U=(sts p).U/\∀x m off,Gq (MR true pi.looks (sts i).q) x=some (m,off)->look rL m=look (sts i).r m:=by
      intro hpi2 hnW
      obtain⟨s1,s2,s3⟩:=seg p i hpi2 (by omega) hnW
      refine⟨s1,λx m off hmx=>?_⟩
      cases x with
      | con v=>cases hmx
      | tmp u=>
        have hmx:look (MR true pi.looks (sts i).q) u=some (m,off):=hmx
        obtain⟨b,hb,_⟩:=hqm.at_ u m off hmx
        have hroot:=roots i (by omega) u m off (H2 _ _ _ _ hmx).1
        by_cases hex2:∃k z,p<=k/\k<i/\oc k = .pal m z
        · obtain⟨k,z,h1,h2,h3⟩:=hex2
          have hlk:listed.getD k false=true:=by
            cases hlk:listed.getD k false with
            | true=>rfl
            | false=>have:=hbs k m z (by omega) h3 hlk;rw[hb]at this;cases this
          rw[hr1 k m z h1 (by omega) hlk h3,s3 k m z h1 h2 h3]
        · have hno:∀k z,p<=k->k<i->oc k ≠ .pal m z:=λk z h1 h2 h3=>hex2 ⟨k,z,h1,h2,h3⟩
          rw[hr2 m (λk z h1 h2 _ h3=>hno k z h1 (hroot k z h2 h3) h3),s2 m hno]
    have hgl:=hmw.globOk
    unfold wpOp
    rw[ho]
    simp only
    generalize hoc:oc i=c at hA
    generalize hexi:ex i=xx at hA
    cases hA with
    | skip _ hwn h=>
      rw[if_neg (by rw[EC hem.env hcg hwn];simp)]
      exact mk0 R w undef (λhW=>by have h9:=hW.1;rw[hexi]at h9;cases h9) (λm z hh=>by rw[hoc]at hh;cases hh) hx hmem (Le.refl _) (λt _=>by rw[hoc];exact⟨_,rfl,rfl⟩)
    | mark _ pw id nx m off hwn hs h=>
      rw[if_pos (EC hem.env hcg hwn)]
      left
      have hs2:HP C.E D pw (sts p).U.next ((sts p).U.next+1) (Ah P C.G o.op) (Ei true pi.looks (sts i).e) (MR true pi.looks (sts i).q) rL (sts p).U (.mark m off):=mU hs
      refine NK hD hmem hem hqm o (hmw.fresh _ (AL _)) (Jg _) (C9 _) hs2 K Q (λv2 r2 U2 heq=>by cases heq) (λm2 off2 heq b hb=>?_)
      cases heq
      refine mk0 R w _ (λhW=>?_) (λm z hh=>by rw[hoc]at hh;cases hh) hx hmem (Le.refl _) (λt _=>by rw[hoc];exact⟨b,hb,rfl⟩)
      obtain⟨_,o3,ho3,hc3⟩:=hW
      rw[ho]at ho3;cases ho3
      cases hs with
      | mv x _ _ hoo _=>have hoo:Ah P C.G o.op=_\/Ah P C.G o.op=_:=hoo;rcases hoo with hoo | hoo<;>(rw[hoo]at hc3;cases hc3)
      | fa d x _ _ hoo _=>have hoo:Ah P C.G o.op=_:=hoo;rw[hoo]at hc3;cases hc3
    | pal _ d el z hdd hoo hwn h=>
      rw[if_pos (EC hem.env hcg hwn)]
      left
      have hoo:Ah P C.G o.op = .alloc el z:=hoo
      have hdd:o.dst=some d:=hdd
      have hca:(Ah P C.G o.op).cls = .a:=by rw[hoo];rfl
      have hple:=hpi' (λj hj hW hij=>(hclk j hj hW).2.2 hca hij)
      have hBd:B d=none:=hbs i d z hin hoc hnl
      refine lu hmem o (d:=d) hoo K Q (λb w' hmem'=>?_)
      refine mk R (λm=>if m=d then some b else B m) p ((d,z)::Br [d] rL) w' _ hpn ?_ ?_ hx hnp hmem' ?_ ?_ ?_ (Le.refl _) (λm b' hb'=>?_) (λt _=>?_)
      · rcases hp0 with h | ⟨j,h5,h6,h7⟩
        · exact .inl h
        · exact .inr ⟨j,h5,h6,by rw[hLs,h7];simp⟩
      · intro j hj hWj
        by_cases hji:j=i
        · subst hji
          obtain⟨_,o3,ho3,hc3⟩:=hWj
          rw[ho]at ho3;cases ho3
          rw[hca]at hc3;cases hc3
        · rw[hLo j hji];exact hpw j hj hWj
      · intro k m z' hk1 hk2 hk3 hk4
        by_cases hki:k=i
        · subst hki;rw[hoc]at hk4;cases hk4;simp[look]
        · rw[hLo k hki]at hk3
          have hmd:¬d=m:=λhe=>hki (hpalu k i m z' z hk2 hin hk4 (by rw[hoc,he]))
          simp only[look,AW]
          rw[if_neg hmd,Cd,if_neg (λhh=>hmd ((Hz d m).1 hh))]
          exact hr1 k m z' hk1 hk2 hk3 hk4
      · intro m hm
        have hmd:¬d=m:=λhe=>hm i z hple hin hLi (by rw[hoc,he])
        simp only[look,AW]
        rw[if_neg hmd,Cd,if_neg (λhh=>hmd ((Hz d m).1 hh))]
        exact hr2 m (λk z' hk1 hk2 hk3=>hm k z' hk1 hk2 (by rw[hLs,hk3];simp))
      · intro k m z' hk1 hk2 hk3
        by_cases hki:k=i
        · subst hki;rw[hLi]at hk3;cases hk3
        · rw[hLo k hki]at hk3
          have hmd:¬m=d:=λhe=>hki (hpalu k i m z' z hk1 hin hk2 (by rw[hoc,he]))
          rw[if_neg hmd];exact hbs k m z' hk1 hk2 hk3
      · by_cases hmd:m=d
        · subst hmd;rw[hBd]at hb';cases hb'
        · rw[if_neg hmd];exact hb'
      · rw[hoc];exact⟨b,by simp,rfl⟩
    | val _ pw v r' U' hwn hs hl' hna h=>
      rw[if_pos (EC hem.env hcg hwn)]
      left
      have hs:HP C.E D pw (sts i).U.next ((sts i).U.next+1) (Ah P C.G o.op) (Ei true pi.looks (sts i).e) (MR true pi.looks (sts i).q) (sts i).r (sts i).U (.val v r' U'):=hs
      have hl':o.dst=none\/v.live=true\/(Ah P C.G o.op).cls ≠ .k:=hl'
      have hna:(Ah P C.G o.op).cls ≠ .a:=hna
      have htok:∀(R':Ren) (x:Value),((v = .dead/\(Ah P C.G o.op).cls = .k)\/BE R' v=some x)->∀t,o.dst=some t->Ad R' B (some x) (oc i):=by
        intro R' x hv t ht
        rw[hoc]
        refine⟨x,rfl,?_⟩
        rcases hv with ⟨rfl,hc⟩|hv
        · rcases hl' with h | h | h
          · rw[ht]at h;cases h
          · cases h
          · exact(h hc).elim
        · exact hv
      by_cases hck:(Ah P C.G o.op).cls = .k
      ·
        have hWi:W i:=⟨hexi,o,ho,hck⟩
        have hple:=hpi' (λj hj hW hij=>((hclk j hj hW).1 hck).2 hij)
        have hnW:=hnoW (λj hj hW hji=>((hclk j hj hW).1 hck).1 hji)
        obtain⟨hσ,hrm⟩:=hsame hple hnW
        obtain⟨s1,s2,s3⟩:=seg p i hple (by omega) hnW
        rw[hσ]at hs
        obtain⟨rL',hs2,hrel⟩:=Ss (rL:=rL) hs hrm
        refine NK hD hmem hem hqm o (hmw.fresh _ (AL _)) (Jg _) (C9 _) hs2 K Q (λv2 r2 U2 heq R' w' x hle hk hn' hmem' hv=>?_) (λm off heq=>by cases heq)
        cases heq
        have hσ':(sts (i+1)).U=U':=h.2.2.2
        have hr':(sts (i+1)).r=r':=h.2.2.1
        have hall:=hallk listed hcl i o ho hed hck
        have hold:∀m,(∀k z,i<=k->k<n->(listed.setIfInBounds i true).getD k false=true->oc k ≠ .pal m z)->look rL m=look (sts i).r m:=by
          intro m hm
          by_cases hex2:∃k z,p<=k/\k<i/\oc k = .pal m z
          · obtain⟨k,z,h1,h2,h3⟩:=hex2
            rw[hr1 k m z h1 (by omega) (hall k m z h2 h3) h3,s3 k m z h1 h2 h3]
          · have hno:∀k z,p<=k->k<i->oc k ≠ .pal m z:=λk z h1 h2 h3=>hex2 ⟨k,z,h1,h2,h3⟩
            rw[hr2 m (λk z h1 h2 h3 h4=>?_),s2 m hno]
            rcases Av k i with h5|h5
            · exact hno k z h1 h5 h4
            · exact hm k z h5 h2 (by rw[hLs,h3];simp) h4
        have hmroot:∀x m off,Gq (MR true pi.looks (sts i).q) x=some (m,off)->∀k z,k<n->oc k = .pal m z->k<i:=by
          intro x m off hmx
          cases x with
          | con v=>cases hmx
          | tmp u=>
            have hmx:look (MR true pi.looks (sts i).q) u=some (m,off):=hmx
            exact roots i (by omega) u m off (H2 _ _ _ _ hmx).1
        refine mk R' B (i+1) rL' w' x (by omega) (.inr ⟨i,rfl,hWi,hLi⟩) ?_ (hext R' hk) (by rw[hσ'];omega) (by rw[hσ'];exact hmem') ?_ ?_ ?_ hle (λ_ _ h=>h) (htok R' x hv)
        · intro j hj hWj
          by_cases hji:j=i
          · subst hji;rw[hLi];simp
          · rw[hLo j hji]
            rcases ANy j i with h4|h4|h4
            · rw[((hclk j hj hWj).1 hck).1 h4];simp;omega
            · exact(hji h4).elim
            · rw[((hclk j hj hWj).1 hck).2 h4];simp;omega
        · intro k m z hk1 hk2 hk3 hk4
          have hk3':listed.getD k false=true:=by rw[hLo k (by omega)]at hk3;exact hk3
          have hb:=hr1 k m z (by omega) hk2 hk3' hk4
          rcases hrel with ⟨_,h6⟩|⟨x',m',off',c',l',h6,h7,_,h8⟩
          · rw[h6];exact hb
          · rw[h8]
            have hne:¬m'=m:=λhe=>by have:=hmroot x' m' off' h6 k z hk2 (by rw[he];exact hk4);omega
            rw[I1 (by rw[hrm x' m' off' h6];exact h7),if_neg hne];exact hb
        · intro m hm
          have hb:=hold m (λk z hk1 hk2 hk3 hk4=>by
            rcases Nat.eq_or_lt_of_le hk1 with h5|h5
            · subst h5;rw[hoc]at hk4;cases hk4
            · exact hm k z (by omega) hk2 hk3 hk4)
          rw[hr']
          rcases hrel with ⟨h5,h6⟩|⟨x',m',off',c',l',h6,h7,h8,h9⟩
          · rw[h5,h6];exact hb
          · rw[h8,h9,I1 (by rw[hrm x' m' off' h6];exact h7),I1 h7,hb]
        · intro k m z hk1 hk2 hk3
          by_cases hki:k=i
          · subst hki;rw[hLi]at hk3;cases hk3
          · rw[hLo k hki]at hk3;exact hbs k m z hk1 hk2 hk3
      ·
        have hnWi:¬W i:=λhW=>by
          obtain⟨_,o3,ho3,hc3⟩:=hW
          rw[ho]at ho3;cases ho3
          exact hck hc3
        have go:HP C.E D pw (sts p).U.next ((sts p).U.next+1) (Ah P C.G o.op) (Ei true pi.looks (sts i).e) (MR true pi.looks (sts i).q) rL (sts p).U (.val v rL (sts p).U)->o.wp P a w K Q:=by
          intro hs2
          refine NK hD hmem hem hqm o (hmw.fresh _ (AL _)) (Jg _) (C9 _) hs2 K Q (λv2 r2 U2 heq R' w' x hle hk hn' hmem' hv=>?_) (λm off heq=>by cases heq)
          cases heq
          exact mk0 R' w' x hnWi (λm z hh=>by rw[hoc]at hh;cases hh) (hext R' hk) hmem' hle (htok R' x hv)
        cases hcls:(Ah P C.G o.op).cls with
        | k=>exact(hck hcls).elim
        | a=>exact(hna hcls).elim
        | p=>
          refine go ?_
          cases hs with
          | p _ hc h9=>exact .p v hc h9
          | l _ hc h9=>rw[hcls]at hc;cases hc
          | a _ b hc h9=>rw[hcls]at hc;cases hc
          | k _ U1 _ hc h hs=>rw[hcls]at hc;cases hc
          | ld x m off l _ hoo hm hl h=>rw[hoo]at hcls;cases hcls
          | ldn n x m off l hoo hm hl h=>rw[hoo]at hcls;cases hcls
          | st n x y m off l cs u hw hoo hm hl hn hu hlu hcs h1 hlen h=>rw[hoo]at hcls;cases hcls
        | l=>
          have hple:=hpi' (λj hj hW hij=>((hclk j hj hW).2.1 hcls).2 hij)
          have hnW:=hnoW (λj hj hW hji=>((hclk j hj hW).2.1 hcls).1 hji)
          obtain⟨hσ,hrm⟩:=hsame hple hnW
          rw[hσ]at hs
          obtain⟨rL',hs2,_⟩:=Ss (rL:=rL) hs hrm
          obtain⟨e1,e2⟩:=Qe hs2 hck hna
          rw[e1,e2]at hs2
          exact go hs2
  have hany:∀fuel listed a w,Inv listed a w->(Fz n).countP (λk=>!listed.getD k false)<=fuel->wpAny P .any ops Q fuel listed a w:=by
    intro fuel
    induction fuel with
    | zero=>
      intro listed a w hI hcnt
      have hall:∀k,k<n->listed.getD k false=true:=by
        intro k hk
        have h0:(Fz n).countP (λk=>!listed.getD k false)=0:=by omega
        have:=List.countP_eq_zero.1 h0 k (AFc.2 hk)
        simpa using this
      refine⟨?_,hfin listed a w hI hall⟩
      apply Z2.2
      intro j hj
      obtain⟨h1,o,h2,_⟩:=mem_ready.1 hj
      have hjn:j<n:=hlt h2
      rw[D9 hI.1 hjn,hall j hjn]at h1
      cases h1
    | succ fuel ih=>
      intro listed a w hI hcnt
      refine⟨λhr=>hfin listed a w hI (hready_nil listed hI.1 hr),λi hi=>?_⟩
      have hin:i<n:=by
        obtain⟨_,o,h2,_⟩:=mem_ready.1 hi
        exact hlt h2
      have hnl:listed.getD i false=false:=by rw[<-D9 hI.1 hin];exact(mem_ready.1 hi).1
      refine hstep listed a w hI i hi _ (λa' w' hI'=>ih _ a' w' hI' ?_)
      have hsz':i<listed.size:=by rw[hI.1];exact hin
      have:=ZV (p:=λk=>!(listed.setIfInBounds i true).getD k false) (q:=λk=>!listed.getD k false) (λk hk=>by
        simp only[DL]at hk ⊢
        rw[Jt hsz']at hk
        simp only[Ba]at hk
        exact hk.2) (i:=i) (by simp only[hnl];rfl) (by simp only[Jt hsz'];simp) (Fz n) (AFc.2 hin)
      omega
  refine wp_region_any hmix ?_
  rw[hnn]
  have hrepl:∀k,(tX n false).getD k false=false:=λk=>by
    simp only[Ey,AQD]
    split<;>rfl
  refine hany n _ a0 _ ⟨by simp,?_,hd0,Rs,Bi,0,s.r,BF _,.inl rfl,?_,hx0,by rw[hst0.2.2.2];exact hn0,?_,?_,?_,?_,hnt0,?_,?_,?_⟩ ?_
  · intro i o hi;rw[hrepl]at hi;cases hi
  · intro j hj hW;rw[hrepl];simp
  · rw[hst0.2.2.2]
    refine⟨hm0.rel.drawn _,⟨λm i hm=>?_,λm m' i i' hm hm' hb=>?_,λm i hm=>?_⟩⟩
    · simp only[Bi]at hm
      split at hm
      · cases hm
      · exact hm0.priv.at_ m i hm
    · simp only[Bi]at hm hm'
      split at hm
      · cases hm
      · split at hm'
        · cases hm'
        · exact hm0.priv.inj m m' i i' hm hm' hb
    · simp only[Bi]at hm
      split at hm
      · cases hm
      · exact hm0.priv.apart m i hm
  · intro k m z h1 h2 h3;rw[hrepl]at h3;cases h3
  · intro m _;rw[hst0.2.2.1]
  · intro k m z h1 h2 _
    simp only[Bi]
    rw[if_pos (hpalm k m z h1 h2)]
  · intro i o t hi;rw[hrepl]at hi;cases hi
  · intro t v hv _;exact he0.at_ t v hv
  · intro t m off hv _
    obtain⟨i,h1,h2⟩:=hq0.at_ t m off hv
    refine⟨i,?_,h2⟩
    simp only[Bi]
    rw[if_neg (λhh=>Mx hpo m hh t off hv)]
    exact h1
  · refine AU (List.countP_le_length) (by simp)
end Go.Og
namespace Go.Og
variable {P:Program}{D:Am}{C:Cx}
theorem Qz{α}:∀{l k}{a:α},look l k=some a->(k,a)∈l
 | [],k,a,h=>by simp[look]at h
 | (m,b)::l,k,a,h=>by
  simp only[look,AW]at h;split at h
  ·rename_i n;subst n;cases h;exact As
  ·exact Ar _ (Qz h)
theorem Q8{e}:∀ts J b,cw e ts J=some b->∃n,(∀t v,look n t=some v->look e t=some v)/\J n=some b
 | [],J,b,h=>⟨[],λt v r=>by simp[look]at r,h⟩ | (t,ty)::l,J,b,h=>by
  simp only[cw]at h;unfold Ce at h;simp only at h;cases q:look e t with
  | none=>rw[q]at h;cases h | some v=>
   rw[q]at h;have y:=IZ _ _ _ _ h;obtain⟨n,A,x⟩:=Q8 l _ b y;refine⟨_,λu w k=>?_,x⟩;simp only[look,AW]at k;split at k
   ·rename_i s;subst s;cases k;exact q
   ·exact A u w k
theorem Q7{e}:∀ts J b,W4 e ts J=some b->∃n,(∀t v,look n t=some v->look e t=some v/\v.live=true)/\J n=some b
 | [],J,b,h=>⟨[],λt v r=>by simp[look]at r,h⟩ | (t,ty)::l,J,b,h=>by
  simp only[W4,EO]at h;cases p:look e t with
  | none=>rw[p]at h;cases h | some v=>
   rw[p]at h;obtain⟨o,h⟩:=EL h;have y:=IZ _ _ _ _ h;obtain⟨n,x,s⟩:=Q7 l _ b y;refine⟨_,λu w j=>?_,s⟩;simp only[look,AW]at j;split at j
   ·rename_i z;subst z;cases j;exact⟨p,o⟩
   ·exact x u w j
theorem Q5{r}:∀(y:List (Nat × List DN)) J c,cu r y J=some c->∃n,(∀m l,look n m=some l->look r m=some l)/\(∀m,B2 (y.map Prod.fst) m=true->∃l,look n m=some l)/\J n=some c
 | [],J,c,h=>⟨[],λt v z=>by simp[look]at z,λm C=>by simp[B2]at C,h⟩ | (m,F)::l,J,c,h=>by
  simp only[cu]at h;cases x:look r m with
  | none=>rw[x]at h;cases h | some D=>
   rw[x]at h;have E:=LM _ _ _ _ h;obtain⟨n,A,B,G⟩:=Q5 l _ c E;refine⟨_,λu w f=>?_,λu f=>?_,G⟩
   ·simp only[look,AW]at f
    split at f
    ·rename_i j;subst j;cases f;exact x
    ·exact A u w f
   ·simp only[look,AW]
    by_cases j:m=u
    ·exact⟨D,by rw[if_pos j]⟩
    ·rw[if_neg j]
     simp only[Cf]at f;exact B u (((DV m _ u).1 f).resolve_left j)
theorem Ka:∀n f q t (p:Nat × Nat),look (Q6 n f q) t=some p->look q t=some p/\B2 f p.1=true
 | [],f,q,t,p,h=>by simp[Q6,look]at h
 | a::l,f,q,t,p,h=>by
  simp only[Q6]at h;split at h
  ·rename_i r o
   split at h
   ·rename_i k
    simp only[look,AW]at h;split at h
    ·rename_i m;subst m;cases h;exact⟨o,k⟩
    ·exact Ka l f q t p h
   ·exact Ka l f q t p h
  ·exact Ka l f q t p h
theorem Q4{L G F ts S}{K:List (Nat × List DN)}{s J q}(h:Ko ts S K s J=some q){a w}(O:Pz C L G F s a w):
  ∃I,J I=some q/\Pz C L G F I a w:=by
 unfold Ko at h;obtain⟨e',y,h⟩:=Q8 _ _ _ h;obtain⟨r',D,v,h⟩:=Q5 _ _ _ h;obtain⟨R,B,h1,Y,u,T,N,h6,Z⟩:=O;refine⟨_,h,R,λm=>if B2 (K.map Prod.fst) m=true then B m else none,h1,Y,⟨u.rel,⟨λm i f=>?_,λm Q i U f j=>?_,λm i f=>?_⟩⟩,T.sub y,⟨λt m off M=>?_⟩,h6,Z⟩
 ·split at f
  ·rename_i p
   obtain⟨X,l,P,o⟩:=u.priv.at_ m i f;obtain⟨l',n⟩:=v m p;have:=D m l' n;rw[P]at this;cases this;exact⟨X,l,n,o⟩
  ·cases f
 ·split at f
  ·split at j
   ·exact u.priv.inj m Q i U f j
   ·cases j
  ·cases f
 ·split at f
  ·exact u.priv.apart m i f
  ·cases f
 ·obtain⟨x,A⟩:=Ka _ _ _ _ _ M
  obtain⟨i,z,E⟩:=N.at_ t m off x;refine⟨i,?_,E⟩;rw[if_pos A];exact z
theorem wL(hD:∀f,DB P C.E C.G f (D f)){W}(hW:Zh P C.E C.G W)(hmix:P.follows .mixedOrders=true)(N nt:Nat){nR:Nat}{R0:Ren}{res:V × H}:
  ∀(xc:XC) (c:Code),xc.strip=Ef P C.G nt c->xc.ok=true->∀(s:St) (U:St->AH) (O:Nat->St->AH) (M:St->AH),A0 C.E D W N xc s U O M=some res ->
   ∀(a:Act) (w:World) (Q:Exit->Act->World->Prop),Pz C nR R0 nt s a w->(∀I G w',U I=some res->Pz C nR R0 nt I G w'->Q .normal G w') ->
    (∀id I G w',O id I=some res->Pz C nR R0 nt I G w'->Q (.exit id) G w')->(∀I G w',M I=some res->Pz C nR R0 nt I G w'->Q .ret G w')->c.wp P Q a w:=by
 intro xc;induction xc with
 | bad=>intro c _ _ s U O M h;cases h | keep ts ms rs xc ih=>
  intro c r F s U O M h a w Q K T X Y;rw[jU]at h;obtain⟨s0,h,K⟩:=Q4 h K;exact ih c r F s0 U O M h a w Q K T X Y
 | skip=>
  intro c r F s U O M h a w Q K T X Y;cases c<;>simp only[XC.strip,Ef]at r<;>(try (cases r;done))
  ·exact wp_skip (T s a w h K)
  ·rename_i i o d;cases d<;>(first | (cases r;done) | (simp only[Ef]at r;split at r<;>cases r))
 | exit id=>
  intro c r F s U O M h a w Q K T X Y;cases c<;>simp only[XC.strip,Ef]at r<;>(try (cases r;done))
  ·rename_i i o d;cases d<;>(first | (cases r;done) | (simp only[Ef]at r;split at r<;>cases r))
  ·cases r;exact wp_exit (X id s a w h K)
 | ret=>
  intro c r F s U O M h a w Q K T X Y;cases c<;>simp only[XC.strip,Ef]at r<;>(try (cases r;done))
  ·rename_i i o d;cases d<;>(first | (cases r;done) | (simp only[Ef]at r;split at r<;>cases r))
  ·exact wp_ret (Y s a w h K)
 | ops l=>
  intro c r F s U O M h a w Q K T X Y;cases c<;>simp only[XC.strip,Ef]at r<;>(try (cases r;done));rename_i i o d;cases d
  case true=>simp only[Ef]at r;split at r<;>cases r
  simp only[Ef,AC.region.injEq]at r
  rw[oB]at h
  obtain⟨I,hrun,hκ,_⟩:=I5 l none none none true 0 s _ res h F (.inl ⟨rfl,rfl⟩) (λh=>by cases h)
  refine wp_region_list (vJ hD hrun o.toList a w ?_ K (λG w' E=>T _ G w' hκ E))
  obtain⟨h1,h2⟩:=H5 l none
  rw[List.map_fst_zip (by omega),r]
 | draw l ancs=>
  intro c r F s U O M h a w Q K T X Y
  cases c<;>simp only[XC.strip,Ef]at r<;>(try (cases r;done))
  rename_i i o d
  cases d<;>simp only[Ef]at r<;>(try (cases r;done))
  split at r
  case isFalse=>cases r
  rename_i hplan
  simp only[AC.draw.injEq]at r
  rw[jV]at h
  unfold Lk at h
  split at h
  ·rename_i hpo
   simp only[XC.ok,AI,AW,DL]at F
   obtain⟨⟨⟨⟨k1,k2⟩,k3⟩,k4⟩,k5⟩:=F
   exact wI hD hmix i r.1 r.2 hplan k1 k2 k3 k4 k5 hpo h K Q (λI G w' hκ E=>T I G w' hκ E)
  ·cases h
 | gdraw ops pl ts=>
  intro c r F s U O M h a w Q K T X Y
  cases c<;>simp only[XC.strip,Ef]at r<;>(try (cases r;done))
  rename_i i o d
  cases d<;>simp only[Ef]at r<;>(try (cases r;done))
  split at r
  case isFalse=>cases r
  rename_i hplan
  simp only[AC.draw.injEq]at r
  obtain⟨rfl,rfl⟩:=r
  rw[ZR]at h
  cases h1:W (o.toList.map (Bj P C.G nt o)) (IJ o) s.e s.U with
  | none=>rw[h1]at h;cases h
  | some q=>
   obtain⟨e1,U1⟩:=q
   rw[h1]at h
   obtain⟨e',he',h⟩:=Q7 _ _ _ h
   obtain⟨R,B,g1,g2,g3,g4,g5,g6,g7⟩:=K
   refine hW C rfl rfl nt i o s.e s.U e1 U1 hplan h1 R a w Q g3.rel g4.env g6 g7 (λR' G w' hx' hn' hrel' he1 hsz hd=>?_)
   refine T _ G w' h ⟨R',λ_=>none,g1.trans hx' g2,AU g2 hn',⟨hrel',⟨λm i hm=>(by cases hm),λm m' i i' hm=>(by cases hm),λm i hm=>(by cases hm)⟩⟩,⟨λt v hv=>?_⟩,⟨λt m off hq=>(by simp[look]at hq)⟩,hsz,hd⟩
   obtain⟨h2,h3⟩:=he' t v hv
   rcases he1.at_ t v h2 with rfl|h4
   ·cases h3
   ·exact h4
 | seq p q ihp ihq=>
  intro c r F s U O M h a w Q K T X Y
  cases c<;>simp only[XC.strip,Ef]at r<;>(try (cases r;done))
  ·rename_i i o d;cases d<;>(first | (cases r;done) | (simp only[Ef]at r;split at r<;>cases r))
  rename_i c1 c2
  simp only[AC.seq.injEq]at r
  simp only[XC.ok,AI]at F
  rw[oA]at h
  refine wp_seq (ihp c1 r.1 F.1 s _ O M h a w _ K (λI G w' S E=>?_) (λid I G w' S E=>X id I G w' S E) (λI G w' S E=>Y I G w' S E))
  exact ihq c2 r.2 F.2 I U O M S G w' Q E T X Y
 | cond o p q ihp ihq=>
  intro c r F s U O M h a w Q K T X Y
  cases c<;>simp only[XC.strip,Ef]at r<;>(try (cases r;done))
  ·rename_i i o d;cases d<;>(first | (cases r;done) | (simp only[Ef]at r;split at r<;>cases r))
  rename_i co c1 c2
  simp only[AC.cond.injEq]at r
  obtain⟨rfl,h1,h2⟩:=r
  simp only[XC.ok,AI]at F
  rw[jW]at h
  obtain⟨v,hv,_,h⟩:=Ak h
  obtain⟨cb,rfl,h9⟩:=Gl h
  have hI2:=K
  obtain⟨R,B,g1,g2,g3,g4,g5,g6,g7⟩:=hI2
  have hev:=QF g4.env g3.rel.globOk hv
  cases cb with
  | true=>exact wp_cond_true hev (ihp c1 h1 F.1 s U O M h9 a w Q K T X Y)
  | false=>exact wp_cond_false hev (ihq c2 h2 F.2 s U O M h9 a w Q K T X Y)
 | block id p ih=>
  intro c r F s U O M h a w Q K T X Y
  cases c<;>simp only[XC.strip,Ef]at r<;>(try (cases r;done))
  ·rename_i i o d;cases d<;>(first | (cases r;done) | (simp only[Ef]at r;split at r<;>cases r))
  rename_i i c1
  simp only[AC.block.injEq]at r
  obtain⟨rfl,r⟩:=r
  rw[ZS]at h
  refine wp_block (ih c1 r F s U _ M h a w _ K (λI G w' S E=>T I G w' S E) (λj I G w' S E=>?_) (λI G w' S E=>Y I G w' S E))
  show Exit.inBlock id Q (.exit j) G w'
  simp only[Exit.inBlock]
  unfold CQ at S
  split at S
  ·rename_i hj
   rw[AW]at hj
   rw[if_pos hj];exact T I G w' S E
  ·rename_i hj
   rw[if_neg (λhh=>by rw[<-AW,hj]at hh;cases hh)];exact X j I G w' S E
 | loop ts ms rs p ih=>
  intro c r F s U O M h a w Q K T X Y
  cases c<;>simp only[XC.strip,Ef]at r<;>(try (cases r;done))
  ·rename_i i o d;cases d<;>(first | (cases r;done) | (simp only[Ef]at r;split at r<;>cases r))
  rename_i c1
  simp only[AC.loop.injEq]at r
  rw[jT]at h
  obtain⟨s0,h,K⟩:=Q4 h K
  have key:∀(n:Nat) (s:St) (a:Act) (w:World),Bw (λrec I=>A0 C.E D W N p I (λs''=>Ko ts ms rs s'' rec) O M) n s=some res->Pz C nR R0 nt s a w->Code.rounds P c1 Q n a w:=by
   intro n
   induction n with
   | zero=>intro s a w h;cases h
   | succ n ihn=>
    intro s a w h K
    have h:A0 C.E D W N p s (λs''=>Ko ts ms rs s'' (Bw (λrec I=>A0 C.E D W N p I (λs''=>Ko ts ms rs s'' rec) O M) n)) O M=some res:=h
    rw[rounds_succ]
    refine ih c1 r F s _ O M h a w _ K (λI G w' S E=>?_) (λid I G w' S E=>X id I G w' S E) (λI G w' S E=>Y I G w' S E)
    obtain⟨s2,h2,hI2⟩:=Q4 S E
    exact ihn s2 G w' h2 hI2
  exact wp_loop_rounds N (key N s0 a w h K)
theorem XX{α β x}{g:α->World->Result β}{z w}(h:Result.andThen x g = .ok z w):∃y b,x = .ok y b/\g y b = .ok z w:=by
 cases x with
 | ok y b=>exact⟨y,b,rfl,h⟩ | _=>cases h
theorem bo{R B}{s:St}{w}{a:Act}(K:V9 C R B s.r s.U w)(he:Ig R s.e a.tmps)(hq:V7 B s.q a.tmps):∀(W:List ResultVar) as J u,IM P W=some as->Dy C.E s as J=some u ->
  ∃l xs,J l=some u/\BL R l=some xs/\(W.mapM (m:=Sem) fun
   | .tmp t=>pure (a.tmps.getD t undef) | .cell b t=>do loadVar t (<-asAddr (a.tmps.getD b undef))).run P w = .ok xs w
 | [],as,J,u,E,h=>by
  simp only[IM,AP.injEq]at E;subst E;exact⟨[],[],h,rfl,rfl⟩
 | r::W,as,J,u,E,h=>by
  simp only[IM]at E;cases z:RO P r with
  | none=>rw[z]at E;cases E | some ar=>
   cases S:IM P W with
   | none=>rw[z,S]at E;cases E | some aa=>
    rw[z,S]at E;simp only[AP.injEq]at E;subst E;have F:∀(C2:Cx) R2 U2 T v,ER C2 R2 U2 w->Ch R2 T a.tmps->Pr C2.E T U2 [ar]=some [v]->Le R R2->(∃x,BE R v=some x)->Dy C.E s aa (λl=>J (v::l))=some u ->
      ∃l xs,J l=some u/\BL R l=some xs/\((r::W).mapM (m:=Sem) fun
       | .tmp t=>pure (a.tmps.getD t undef) | .cell b t=>do loadVar t (<-asAddr (a.tmps.getD b undef))).run P w = .ok xs w:=by
     intro C2 R2 U2 T v h1 h2 h3 N ⟨x,U⟩ h4;obtain⟨xs,h5,h6⟩:=VC (P:=P) h1 h2 [r] [ar] [v] (by simp only[IM,z]) h3;obtain⟨y,ys,h7,h8,rfl⟩:=Bm.1 h5;simp only[BL,AP.injEq]at h8;subst h8;have:=C8 N v x U;rw[h7]at this;cases this;obtain⟨l,xs,g1,g2,g3⟩:=bo K he hq W aa _ u S h4;refine⟨v::l,_,g1,Bm.2 ⟨_,_,U,g2,rfl⟩,?_⟩;rw[WO]at h6 ⊢;rw[Sem.run_bind]at h6 ⊢;obtain⟨y2,w2,e1,T⟩:=XX h6;simp only[Sem.run_bind,List.mapM_nil,Sem.run_pure,Result.andThen_ok,Result.ok.injEq,List.cons.injEq,and_true]at T;obtain⟨rfl,rfl⟩:=T;refine(congrArg (λr=>Result.andThen r _) e1).trans ?_;simp only[Result.andThen_ok,Sem.run_bind,g3,Sem.run_pure]
    cases r with
    | tmp t=>
     simp only[RO,AP.injEq]at z;subst z;simp only[Dy]at h;unfold Ce at h;simp only at h;cases M:look s.e t with
     | none=>rw[M]at h;cases h | some v=>
      rw[M]at h;obtain⟨x,hx1,ae⟩:=he.at_ t v M;have an:H4 s.e t=v:=by simp only[H4,M]
      refine F C R s.U s.e v K.rel he.env ?_ (Le.refl _) ⟨x,ae⟩ h;simp only[Pr,an,NZ ae]
    | cell t ty=>
     simp only[RO]at z;cases hs:Hr P ty with
     | none=>rw[hs]at z;cases z | some n=>
      rw[hs]at z;simp only[AP.injEq]at z;subst z;simp only[Dy]at h;split at h
      ·rename_i m off ak
       obtain⟨i,ag,aj⟩:=hq.at_ t m off ak;split at h
       ·rename_i cs ac
        have ab:=K.priv.one K.rel ag ac;have ad:Ch (JJ R s.U.next i) [(t,.ptr s.U.next off)] a.tmps:=Ch.cons ⟨λk v hk=>by simp[look]at hk⟩ aj (DX (CT _ _ _));have N:=(FD R s.U.next i).le K.rel.fresh;obtain⟨_,l',Z,ai⟩:=K.priv.at_ m i ag;rw[ac]at Z;cases Z;obtain⟨af,el,lo,hi,_,hh,_⟩:=ai;have I:H4 [(t,V.ptr s.U.next off)] t = .ptr s.U.next off:=by simp[H4,look]
        have X:rd C.E ⟨s.U.next+1,[(s.U.next,.cells cs)]⟩ s.U.next=some cs:=by simp[rd,look]
        split at h
        ·obtain⟨v,Y,h⟩:=Hi h
         obtain⟨x,U,_⟩:=hh off v Y;refine F _ _ _ _ v ab ad ?_ N ⟨x,U⟩ h;simp only[Pr,I,X,Y]
        ·rename_i n
         obtain⟨hb,h⟩:=Hd h;obtain⟨xs,O,_⟩:=hh.cells (by simpa using hb);refine F _ _ _ _ _ ab ad ?_ N ⟨_,EA O⟩ h;simp only[Pr,I,Sb,X,hb,if_true]
       ·cases h
      ·obtain⟨p,hp,_,h⟩:=Ak h
       obtain⟨b,o,rfl,A⟩:=Ej h;have I:H4 s.e t = .ptr b o:=hp;cases n with
       | none=>
        simp only at A;obtain⟨l,M,A⟩:=LP A;obtain⟨v,Y,A⟩:=Hi A;obtain⟨i,af,el,fr,_,_,D⟩:=K.rel.read M;obtain⟨x,U,_⟩:=D o v Y;refine F C R s.U s.e v K.rel he.env ?_ (Le.refl _) ⟨x,U⟩ A;simp only[Pr,I,M,Y]
       | some n=>
        simp only at A;obtain⟨l,M,A⟩:=LP A;obtain⟨hb,A⟩:=Hd A;obtain⟨i,af,el,fr,_,_,D⟩:=K.rel.read M;obtain⟨xs,O,_⟩:=D.cells (by simpa using hb);refine F C R s.U s.e _ K.rel he.env ?_ (Le.refl _) ⟨_,EA O⟩ A;simp only[Pr,I,Sb,M,hb,if_true]
theorem vK{E G}(hD:∀f,DB P E G f (D f)){W}(hW:Zh P E G W)(ad:P.follows .mixedOrders=true) N {f}{p:Func}(hf:P.funcs[f]? = some p)
  {xf:Dg}{ah:AFn} (s:dG P G p=some ah) (hs:xf.strip=ah) (Z:xf.body.ok=true) (al:Ln P f=true):DB P E G f (Bt E D W N xf):=by
 intro C hE hG R U w K xs v U' h ab ac;subst hE hG;refine⟨al,?_⟩;unfold dG at s;cases hb:p.body with
 | none=>rw[hb]at s;cases s | some c=>
  cases hr:IM P p.results.toList with
  | none=>rw[hb,hr]at s;cases s | some rs=>
   rw[hb,hr]at s;simp only[AP.injEq]at s;rw[<-hs]at s;obtain⟨nt,ai,resl,af⟩:=xf;simp only[Dg.strip,AFn.mk.injEq]at s;obtain⟨rfl,rfl,_,Q⟩:=s;unfold Bt at h;simp only at h;have h:=LM _ _ _ _ h;have ao:=B4 ac;refine calls_of_wp hf hb ?_;have am:p.ntmps<=(xs.toArray++tX (p.ntmps-xs.toArray.size) undef).size:=by simp;omega
   have ae:∀(l:List V) (L:List Value) (k:Nat),BL R l=some L->∀(t:Nat) (v:V),look (je k l) t=some v->∃y,k<=t/\L[t-k]? = some y/\BE R v=some y:=by
    intro l;induction l with
    | nil=>intro L k _ t v h;simp[je,look]at h | cons u l ih=>
     intro L k s t v h;obtain⟨y,zs,hy,hz,rfl⟩:=Bm.1 s;simp only[je,look]at h;by_cases hk:k=t
     ·subst hk
      rw[if_pos (by simp)]at h;cases h;exact⟨y,AL _,by simp,hy⟩
     ·rw[if_neg (by simpa using hk)]at h
      obtain⟨q,h1,B,M⟩:=ih zs (k+1) hz t v h;exact⟨q,by omega,by rw[show t-k=(t-(k+1))+1 by omega,DH];exact B,M⟩
   have ak:Ig R (je 0 K) (xs.toArray++tX (p.ntmps-xs.toArray.size) undef):=by
    refine⟨λk u hk=>?_⟩;obtain⟨y,_,B,M⟩:=ae K xs 0 ac k u hk;refine⟨y,?_,M⟩;rw[OH]at B;have an:k<xs.length:=by
     rcases Av k xs.length with h|h
     ·exact h
     ·rw[Ae h]at B;cases B
    rw[AFg (by simpa using an)];simpa using B
   have aa:∀(J:St) (F:Act) (w':World),(Dy C.E J rs λl=>some (Ek l,J.U))=some (v,U')->Pz C U.next R p.ntmps J F w' ->
     F.defers=[]/\∃x,(results p F.tmps).run P w' = .ok x w'/\∃R' x',Jf U.next R R'/\U.next<=U'.next/\ER C R' U' w'/\BE R' v=some x'/\Ending.returned x = .returned x':=by
    intro J F w' O ⟨R1,B1,k1,k2,k3,k4,k5,k6,k7⟩;obtain⟨l,L,g1,g2,g3⟩:=bo k3 k4 k5 p.results.toList rs _ _ hr O;simp only[AP.injEq,Prod.mk.injEq]at g1;obtain⟨rfl,rfl⟩:=g1;have ag:(results p F.tmps).run P w' = .ok (if h:L.toArray.size=1 then L.toArray[0] else .tuple L.toArray) w':=by
     unfold results;refine(Sem.run_bind P w' _ _).trans ?_;rw[ANH,Sem.run_map];refine(congrArg (λr=>Result.andThen (Result.andThen r _) _) g3).trans rfl
    exact⟨k7,_,ag,R1,_,k1,k2,k3.rel,vX g2,rfl⟩
   refine wL hD hW ad N p.ntmps af c Q.symm Z _ _ _ _ h _ w _ ⟨R,λ_=>none,Jf.refl _ _,AL _,⟨ab,⟨λm i hm=>(by cases hm),λm m' i i' hm=>(by cases hm),λm i hm=>(by cases hm)⟩⟩,ak,⟨λt m off hq=>(by simp[look]at hq)⟩,am,rfl⟩ ?_ ?_ ?_
   ·intro J F w' O S
    obtain⟨h1,x,B,M⟩:=aa J F w' O S;exact⟨h1,x,B,M⟩
   ·intro id J F w' O _;cases O
   ·intro J F w' O S
    obtain⟨h1,x,B,M⟩:=aa J F w' O S;exact⟨h1,x,B,M⟩
end Go.Og
namespace Go.Og
def okB(a:AH):Bool:=match a with
 | some (.bool true,_)=>true
 | _=>false
theorem mC{a}(h:okB a=true):∃U,a=some (.bool true,U):=by
 unfold okB at h;split at h
 ·exact⟨_,rfl⟩
 ·cases h
def Ki(a:Nat)(l:List (Nat × BI)):Ren:=λid=>if id<a then some ⟨id,0,0⟩else look l id
theorem Hb.lt{R}{i:BI}{b}{w:World}(h:Hb R i b w):i.blk<w.heap.size:=by
 cases b with
 | cells l=>
  obtain⟨f,j,k,g,_⟩:=h;exact(AFf.1 g).1
 | _=>exact h.elim
theorem Y1{G e n0}(I:∀g,G g=true->g<e)(M:e<=n0) l (E:EB)(w:World)(z:∀id i,look l id=some i->id<n0)
  (F:∀id b,look E id=some b->∃i,Ki e l id=some i/\Hb (Ki e l) i b w) :
  ER ⟨λn=>w.heap.size<=n,w,E,G⟩ (Ki e l) ⟨n0,[]⟩ w where
 fresh id m:=by
  have r:n0<=id:=m;unfold Ki;rw[if_neg (by omega)];cases D:look l id with
  | none=>rfl | some i=>have:=z id i D;omega
 own id b f:=by simp[look]at f
 inj id K b O i P f:=by simp[look]at f
 ext id b f:=by
  obtain⟨i,B,v⟩:=F id b f;exact⟨i,B,Nat.not_le.2 v.lt,v⟩
 glob g J:=⟨⟨g,0,0⟩,by unfold Ki;rw[if_pos (I g J)],rfl,rfl⟩;fr _ _:=rfl;size:=AL _;new _ h:=h;os:=rfl;tape:=rfl;output:=rfl
theorem ER.grow{C R U}{w w':World}(h:ER C R U w)(c:∀k,k<w.heap.size->w'.heap[k]? = w.heap[k]?)(q:w.heap.size<=w'.heap.size)
  (n:w'.os=w.os) (g:w'.tape=w.tape) (j:w'.output=w.output):ER C R U w' where
 fresh:=h.fresh;own id b o:=by
  obtain⟨i,r,t,d⟩:=h.own id b o;exact⟨i,r,t,d.mono (Le.refl _) (c _ d.lt)⟩
 inj:=h.inj;ext id b o:=by
  obtain⟨i,r,t,d⟩:=h.ext id b o;exact⟨i,r,t,d.mono (Le.refl _) (c _ d.lt)⟩
 glob:=h.glob;fr e x:=by
  rcases Av e w.heap.size with p|p
  ·rw[c e p];exact h.fr e x
  ·exact absurd (h.new e (AU h.size p)) x
 size:=AU h.size q;new:=h.new;os:=n.trans h.os;tape:=g.trans h.tape;output:=j.trans h.output
set_option linter.unusedVariables false
noncomputable section
section
variable {R S:Ren}{n0 d:Nat}
end
theorem oG{P:Program}{w r base t k v}(f:P.underlying t=some (.int k))(h:Cell.okWide P w r base t v):∃n,v = .int k n:=by
 unfold Cell.okWide at h;rw[f]at h;unfold Cell.ok at h;rw[f]at h;cases v<;>simp at h;obtain⟨rfl,_⟩:=h;exact⟨_,rfl⟩
theorem XQ{P:Program}{w r base t v}(e:P.underlying t=some .string)(h:Cell.okWide P w r base t v):∃s,v = .string s:=by
 unfold Cell.okWide at h;rw[e]at h;unfold Cell.ok at h;rw[e]at h;cases v<;>simp at h;exact⟨_,rfl⟩
end
end Go.Og
set_option linter.all false
namespace Go.Og
def XL.aA(b:Nat)(a c:Nat)(r:XL):XL := .m b a<|.n (b+1) b<|.f (b+2) c (b+1)<|r
def XL.aB(b:Nat)(a d c e:Nat)(r:XL):XL := .P b (.extract a (.t d))<|.P (b+1) (.extract c (.t e))<|r
def XL.aC(b:Nat)(a:Nat):XL := .m b a<|.nil
def XL.aD(b:Nat)(a c:Nat)(r:XL):XL := .m b a<|.m (b+1) c<|r
def XL.aE(b:Nat)(a d c f e:Nat)(r:XL):XL := .p b [a,d] (.faddr c (.t f))<|.p (b+1) [b,e] (.load none (.t b))<|r
def XL.aF(b:Nat)(a d c f e:Nat)(r:XL):XL := .p b [a,d] (.faddr c (.t f))<|.op (some (b+1)) .i [b,e] (.load none (.t b))<|r
def XL.aG(b:Nat)(g h:Nat)(a:Eg)(f d c e:Nat)(r:XL):XL := .p b [g,h] a<|.p (b+1) [b,f] (.iaddrS d (.t b) (.i c))<|.op (some (b+2)) (.int .u8) [(b+1),e] (.load none (.t (b+1)))<|r
def XL.aH(b:Nat)(a:V):XL := .c b a<|.nil
def XL.aI(b:Nat)(a d c e:Nat)(r:XL):XL := .f b a d<|.op none .any [b] (.store c (.t b) (.i e))<|r
def XL.aJ(b:Nat)(a:Nat)(d:AO)(c:Nat)(r:XL):XL := .P b (.conv (.toInt .u64) (.t a))<|.b (b+1) .shl .none (.t b) d<|.b (b+2) .or .none (.t c) (.t (b+1))<|r
def XL.aK(b:Nat)(a c:Nat)(r:XL):XL := .m b a<|.b (b+1) .add .none (.t b) (.i c)<|r
def XL.aL(b:Nat)(a:Nat):XL := .P b (.un .not (.t a))<|.nil
def XL.aM(b:Nat)(a d c f e:Nat)(r:XL):XL := .p b [a,d] (.faddr c (.t f))<|.op (some (b+1)) (.int .u8) [b,e] (.load none (.t b))<|r
def XL.aN(b:Nat)(a d c:Nat):XL := .b b .eql .none (.t a) (.i d)<|.m c b<|.nil
def XL.aO(b:Nat)(a d:Nat)(c:DN)(r:XL):XL := .f b a d<|.l (b+1) c b<|r
def XL.aP(b:Nat)(a d c:Nat)(r:XL):XL := .P b (.conv (.toInt .u64) (.t a))<|.b (b+1) .shl .none (.t b) (.con (V.int .u64 (AA d)))<|.b (b+2) .or .none (.t c) (.t (b+1))<|r
def XL.aQ(b:Nat)(g:DN)(h a:Nat)(f:DN)(d c e:Nat)(r:XL):XL := .O b g (.load (some h) (.t a))<|.op none f [d,b] (.store c (.t e) (.t b))<|r
def XL.aR(b:Nat)(a:Nat)(d:AO)(c:Nat):XL := .b b .eql .none (.t a) d<|.m c b<|.nil
def XL.aS(b:Nat)(a c:Nat):XL := .b b .lss .none (.t a) (.t c)<|.nil
def XL.aT(b:Nat)(a d c e:Nat):XL := .f b a d<|.w c b e<|.nil
def XL.aU(b:Nat)(a:DN)(d c:Nat)(f:AO)(e:Nat):XL := .k b a d [(.t c),f]<|.m e b<|.nil
def XL.aV(b:Nat)(a d c:Nat)(r:XL):XL := .m b a<|.P (b+1) (.iaddrS d (.t b) (.i c))<|.l (b+2) (.int .u8) (b+1)<|r
def XL.aW(b:Nat)(a:Nat)(r:XL):XL := .m b a<|.P (b+1) (.len true (.t b))<|r
def XL.aX(b:Nat)(a d:Nat)(c:DN)(r:XL):XL := .aA b a d<|.l (b+3) c (b+2)<|r
def XL.aY(b:Nat)(a c:Nat)(r:XL):XL := .m b a<|.p (b+1) [b] (.sliceStr (.t b) (some (.i c)) none)<|r
def XL.aZ(b:Nat)(a d:Nat)(c:Eg)(f e:Nat)(r:XL):XL := .p b [a,d] c<|.p (b+1) [b,f] (.idxStr (.t b) (.i e))<|r
def XL.bA(b:Nat)(a d c:Nat)(e:AO)(r:XL):XL := .f b a d<|.op none .any [b] (.store c (.t b) e)<|r
def XL.bB(b:Nat)(a d c e:Nat):XL := .aA b a d<|.op none .any [(b+2)] (.store c (.t (b+2)) (.i e))<|.nil
def XL.bC(b:Nat)(a d c f e:Nat):XL := .p b [a,d,c] (.bin .eql .none (.t f) (.t e))<|.nil
def XL.bD(b:Nat)(a d c f e:Nat)(r:XL):XL := .p b [a,d] (.faddr c (.t f))<|.op (some (b+1)) .bool [b,e] (.load none (.t b))<|r
def XL.bE(b:Nat)(a d c:Nat)(r:XL):XL := .m b (b+2)<|.aB (b+3) a b d b<|.P (b+5) (.extract c (.t b))<|r
def XL.bF(b:Nat)(a c:Nat)(r:XL):XL := .m b a<|.P (b+1) (.idxStr (.t b) (.i c))<|r
def XL.bG(b:Nat)(a d c e:Nat):XL := .p b [a,d] (.bin .leq .none (.t c) (.con (V.int .u8 (AA e))))<|.nil
def XL.bH(b:Nat)(a:Nat)(d:DN)(c:Nat)(e:AO):XL := .m b a<|.k (b+1) d c [(.t b),e]<|.nil
def XL.bI(b:Nat)(a d c f e:Nat)(r:XL):XL := .p b [a,d] (.nilck (.t c))<|.p (b+1) [b,f] (.faddr e (.t b))<|r
def XL.bJ(b:Nat)(a d c f e:Nat):XL := .p b [a,d,c] (.bin .lss .none (.t f) (.t e))<|.nil
def XL.bK(b:Nat)(a d c f e:Nat)(r:XL):XL := .aA b a d<|.aO (b+3) c (b+2) .i<|.b (b+5) .add .none (.t (b+4)) (.i f)<|.n (b+6) b<|.f (b+7) e (b+6)<|r
def XL.bL(b:Nat)(a c:Nat)(r:XL):XL := .aD b a c<|.P (b+2) (.idxStr (.t b) (.t (b+1)))<|r
def XL.bM(b:Nat)(a d c e:Nat):XL := .p b [a,d] (.bin .eql .none (.t c) (.con (V.int .u8 (AA e))))<|.nil
def XL.bN(b:Nat)(a e:Nat)(d:Eg)(g f c:Nat)(r:XL):XL := .p b [a,e] d<|.p (b+1) [g,b,f] (.idxStr (.t c) (.t b))<|r
def XL.bO(b:Nat)(a e d:Nat)(g:AO)(f:Nat)(c:V):XL := .p b [a,e] (.bin .and .none (.t d) g)<|.p (b+1) [b,f] (.bin .eql .none (.t b) (.con c))<|.nil
def XL.bP(b:Nat)(a:Nat)(d:DN)(c:Nat)(r:XL):XL := .m b a<|.k (b+1) d c [(.t b)]<|r
def XL.bQ(b:Nat)(a c:Nat)(r:XL):XL := .b b .gtr .none (.t a) (.i c)<|.m (b+1) b<|r
def XL.bR(b:Nat)(a d c:Nat)(r:XL):XL := .m b a<|.p (b+1) [b] (.sliceSl d (.t b) (some (.i c)) none none)<|r
def XL.bS(b:Nat)(a c:Nat):XL := .m b a<|.u (b+1) b<|.m (b+2) c<|.u (b+3) (b+2)<|.b (b+4) .neq .none (.t (b+1)) (.t (b+3))<|.nil
def XL.bT(b:Nat)(g h i f d c e a:Nat)(r:XL):XL := .p b [g,h] (.bin .add .none (.t i) (.i f))<|.op (some (b+1)) (.int .u8) [d,b,c] (.call e [(.t a),(.t b)])<|r
def XL.bU(b:Nat)(a c:Nat)(r:XL):XL := .b b .lss .none (.t a) (.i c)<|.m (b+1) b<|r
def XL.bV(b:Nat)(a:Nat):XL := .q b a<|.nil
def XL.bW(b:Nat)(g h:Nat)(i:Eg)(f d c e a:Nat)(r:XL):XL := .p b [g,h] i<|.p (b+1) [b,f] (.sliceSl d (.t b) (some (.i c)) none none)<|.op (some (b+2)) (.int .u64) [(b+1),e] (.call a [(.t (b+1))])<|r
def XL.bX(b:Nat)(a d c e:Nat)(r:XL):XL := .aA b a d<|.k (b+3) (.int .u8) c [(.t (b+2)),(.i e)]<|r
def XL.bY(b:Nat)(g h:Nat)(a:Eg)(f d c e:Nat)(r:XL):XL := .p b [g,h] a<|.p (b+1) [b,f] (.sliceStr (.t b) (some (.i d)) none)<|.op (some (b+2)) (.int .u64) [(b+1),c] (.call e [(.t (b+1))])<|r
def XL.bZ(b:Nat)(g h a f:Nat)(d:DN)(c e:Nat)(r:XL):XL := .p b [g,h] (.faddr a (.t f))<|.op (some (b+1)) d [b,c] (.load (some e) (.t b))<|r
def XL.cA(b:Nat)(a c:Nat)(r:XL):XL := .aD b a c<|.P (b+2) (.len true (.t (b+1)))<|r
def XL.cB(b:Nat)(a d c:Nat)(f:DN)(e:Nat)(r:XL):XL := .s b a d c<|.O (b+1) f (.load (some e) (.t b))<|r
def XL.cC(b:Nat)(a d:Nat)(c:Eg)(f e:Nat)(r:XL):XL := .p b [a,d] c<|.op (some (b+1)) (.int .u64) [b,f] (.call e [(.t b)])<|r
def XL.cD(b:Nat)(a:Nat)(d:DN)(c:Nat)(r:XL):XL := .m b a<|.k (b+1) d c [(.t b)]<|r
def XL.cE(b:Nat)(a c:Nat):XL := .b b .eql .none (.t a) (.i c)<|.nil
def XL.cF(b:Nat)(a c:Nat)(r:XL):XL := .b b .eql .none (.t a) (.i c)<|.m (b+1) b<|r
def XL.cG(b:Nat)(a d c:Nat):XL := .p b [a,d] (.un .not (.t c))<|.nil
def XL.cH(b:Nat)(a d c:Nat)(r:XL):XL := .aX b a d .i<|.b (b+4) .add .none (.t (b+3)) (.i c)<|.n (b+5) b<|r
def XL.cI(b:Nat)(a:DN)(d c f:Nat)(e:Eg):XL := .O b a (.callv (.t d) [(.t c),(.t f)])<|.P (b+1) e<|.nil
def XL.cJ(b:Nat)(a d c e:Nat):XL := .p b [a,d] (.bin .eql .none (.t c) (.i e))<|.nil
def XL.cK(b:Nat)(a:Nat)(d:DN)(c e:Nat)(r:XL):XL := .m b a<|.O (b+1) d (.load (some c) (.t e))<|r
def XL.cL(b:Nat)(a d:Nat)(c:DN)(f:Nat)(e:AO)(r:XL):XL := .aA b a d<|.k (b+3) c f [(.t (b+2)),e]<|r
def XL.cM(b:Nat)(f g:Nat)(a:DN)(e d c:Nat)(r:XL):XL := .f b f g<|.op none a [b,e] (.store d (.t b) (.t c))<|r
def XL.cN(b:Nat)(a:Nat)(d:DN)(c:Nat)(e:AO)(r:XL):XL := .m b a<|.k (b+1) d c [(.t b),e]<|r
def XL.cO(b:Nat)(a d c:Nat)(e:AO):XL := .p b [a,d] (.bin .eql .none (.t c) e)<|.nil
def XL.cP(b:Nat)(a d c:Nat)(r:XL):XL := .aD b a d<|.m (b+2) c<|r
def XL.cQ(b:Nat)(a d c:Nat)(r:XL):XL := .aX b a d .i<|.b (b+4) .neq .none (.t (b+3)) (.i c)<|r
noncomputable section
section
variable {A B C H I AU8 K L O P Q:Type}{F:(St->AH)->St->AH}
theorem lp3{S:A->B->C->St}{T:(A->B->C->AH)->A->B->C->AH}(X:∀Y,(λa b c=>F Y (S a b c))=T λa b c=>Y (S a b c)) M:(λa b c=>Bw F M (S a b c))=Nat.rec (λ_ _ _=>none) (λ_ Z=>T Z) M:=by
 induction M with
 | zero=>rfl | succ M Z=>exact(X (Bw F M)).trans (congrArg T Z)
theorem vm{S:A->B->C->H->St}{T:(A->B->C->H->AH)->A->B->C->H->AH}(X:∀Y,(λa b c d=>F Y (S a b c d))=T λa b c d=>Y (S a b c d)) M:(λa b c d=>Bw F M (S a b c d))=Nat.rec (λ_ _ _ _=>none) (λ_ Z=>T Z) M:=by
 induction M with
 | zero=>rfl | succ M Z=>exact(X (Bw F M)).trans (congrArg T Z)
theorem Yn{S:A->B->C->H->I->St}{T:(A->B->C->H->I->AH)->A->B->C->H->I->AH}(X:∀Y,(λa b c d e=>F Y (S a b c d e))=T λa b c d e=>Y (S a b c d e)) M:(λa b c d e=>Bw F M (S a b c d e))=Nat.rec (λ_ _ _ _ _=>none) (λ_ Z=>T Z) M:=by
 induction M with
 | zero=>rfl | succ M Z=>exact(X (Bw F M)).trans (congrArg T Z)
theorem yQ{S:A->B->C->H->I->AU8->St}{T:(A->B->C->H->I->AU8->AH)->A->B->C->H->I->AU8->AH}(X:∀Y,(λa b c d e f=>F Y (S a b c d e f))=T λa b c d e f=>Y (S a b c d e f)) M:(λa b c d e f=>Bw F M (S a b c d e f))=Nat.rec (λ_ _ _ _ _ _=>none) (λ_ Z=>T Z) M:=by
 induction M with
 | zero=>rfl | succ M Z=>exact(X (Bw F M)).trans (congrArg T Z)
theorem lp7{S:A->B->C->H->I->AU8->K->St}{T:(A->B->C->H->I->AU8->K->AH)->A->B->C->H->I->AU8->K->AH}(X:∀Y,(λa b c d e f g=>F Y (S a b c d e f g))=T λa b c d e f g=>Y (S a b c d e f g)) M:(λa b c d e f g=>Bw F M (S a b c d e f g))=Nat.rec (λ_ _ _ _ _ _ _=>none) (λ_ Z=>T Z) M:=by
 induction M with
 | zero=>rfl | succ M Z=>exact(X (Bw F M)).trans (congrArg T Z)
theorem AOb{S:A->B->C->H->I->AU8->K->L->O->P->Q->St}{T:(A->B->C->H->I->AU8->K->L->O->P->Q->AH)->A->B->C->H->I->AU8->K->L->O->P->Q->AH}(X:∀Y,(λa b c d e f g h i j k=>F Y (S a b c d e f g h i j k))=T λa b c d e f g h i j k=>Y (S a b c d e f g h i j k)) M:(λa b c d e f g h i j k=>Bw F M (S a b c d e f g h i j k))=Nat.rec (λ_ _ _ _ _ _ _ _ _ _ _=>none) (λ_ Z=>T Z) M:=by
 induction M with
 | zero=>rfl | succ M Z=>exact(X (Bw F M)).trans (congrArg T Z)
end
def cB(a:AH)(J:Bool->H->AH):AH:=BT a λu s=>CN u λx=>J x s
def cI(a:AH)(J:Int->H->AH):AH:=BT a λu s=>BZ .i64 u λx=>J x s
def cS(a:AH)(J:BS->H->AH):AH:=BT a λu s=>JM u λx=>J x s
def cT(a:AH)(J:List V->H->AH):AH:=BT a λu s=>HV u λl=>J l s
def cA(a:AH)(J:List V->H->AH):AH:=BT a λu s=>Cl u λl=>J l s
def c0(a:AH)(J:H->AH):AH:=BT a λu s=>HV u λl=>BD l (J s)
def lI(E:EB)(U:H)(b o:Nat)(J:Int->AH):AH:=Ee E U b o λu=>BZ .i64 u J
def lB(E:EB)(U:H)(b o:Nat)(J:Bool->AH):AH:=Ee E U b o λu=>CN u J
def lS(E:EB)(U:H)(b o:Nat)(J:BS->AH):AH:=Ee E U b o λu=>JM u J
def lL(E:EB)(U:H)(b o:Nat)(J:Nat->AH):AH:=Ee E U b o λu=>BV u J
def iX(E:EB)(U:H)(n:Nat)(u:V)(i:Int)(J:List V->AH):AH:=Bl n u i λb o=>Dt E U b o n J
def iY(E:EB)(U:H)(n:Nat)(u:V)(i:Int)(J:V->AH):AH:=Bl n u i λb o=>Ee E U b o J
def r0(U:H):AH:=some (.tup [],U)
def rB(b:Bool)(U:H):AH:=some (.bool b,U)
def rI(n:Int)(U:H):AH:=some (.int .i64 n,U)
def iN(n:Nat):V := .int .i64 (AA n)
def sN(n w:Nat):V := .str (BS.mk n w)
def uA(l:List V)(J:BS->Int->V->V->V->AH):AH:=NA l λd l=>F0 .i64 l λa l=>Aj l λe l=>Aj l λc l=>Aj l λb l=>BD l (J d a e c b)
def uB(l:List V)(J:Int->Int->AH):AH:=F0 .i64 l λb l=>F0 .i64 l λa l=>BD l (J b a)
def uC(l:List V)(J:V->Int->Int->AH):AH:=Aj l λb l=>F0 .i64 l λa l=>F0 .i64 l λc l=>BD l (J b a c)
def uD(l:List V)(J:BS->Int->AH):AH:=NA l λb l=>F0 .i64 l λa l=>BD l (J b a)
def uE(l:List V)(J:V->Int->AH):AH:=Aj l λb l=>F0 .i64 l λa l=>BD l (J b a)
def uF(l:List V)(J:V->Int->BS->Int->V->V->V->Int->Int->AH):AH:=Aj l λg l=>F0 .i64 l λi l=>NA l λh l=>F0 .i64 l λf l=>Aj l λe l=>Aj l λc l=>Aj l λd l=>F0 .i64 l λa l=>F0 .i64 l λb l=>BD l (J g i h f e c d a b)
def uG(l:List V)(J:Int->BS->Int->AH):AH:=F0 .i64 l λb l=>NA l λa l=>F0 .i64 l λc l=>BD l (J b a c)
def uH(l:List V)(J:Int->BS->AH):AH:=F0 .i64 l λb l=>NA l λa l=>BD l (J b a)
def uI(l:List V)(J:Nat->Nat->Int->AH):AH:=Aj l λc l=>CM c λa b=>F0 .i64 l λd l=>BD l (J a b d)
def uJ(l:List V)(J:Nat->Nat->BS->AH):AH:=Aj l λc l=>CM c λa b=>NA l λd l=>BD l (J a b d)
def uK(l:List V)(J:Int->BS->Bool->Int->Int->Bool->Bool->Bool->Bool->Int->Int->V->V->Int->Bool->Int->AH):AH:=F0 .i64 l λn l=>NA l λo l=>LA l λj l=>F0 .i64 l λi l=>F0 .i64 l λh l=>LA l λq l=>LA l λm l=>LA l λp l=>LA l λk l=>F0 .i64 l λg l=>F0 .i64 l λf l=>Aj l λd l=>Aj l λa l=>F0 .i64 l λe l=>LA l λc l=>F0 .i64 l λb l=>BD l (J n o j i h q m p k g f d a e c b)
def uL(l:List V)(J:V->V->AH):AH:=Aj l λa l=>Aj l λb l=>BD l (J a b)
def uM(l:List V)(J:V->V->V->AH):AH:=Aj l λb l=>Aj l λc l=>Aj l λa l=>BD l (J b c a)
def uN(l:List V)(J:Bool->Bool->Bool->Bool->Int->Int->AH):AH:=LA l λe l=>LA l λa l=>LA l λf l=>LA l λd l=>F0 .i64 l λc l=>F0 .i64 l λb l=>BD l (J e a f d c b)
def uO(l:List V)(J:Bool->Int->Int->AH):AH:=LA l λb l=>F0 .i64 l λa l=>F0 .i64 l λc l=>BD l (J b a c)
def uP(l:List V)(J:Nat->Nat->V->AH):AH:=Aj l λc l=>CM c λa b=>Aj l λd l=>BD l (J a b d)
def uQ(l:List V)(J:V->BS->AH):AH:=Aj l λb l=>NA l λa l=>BD l (J b a)
def uR(l:List V)(J:Int->Bool->AH):AH:=F0 .i64 l λb l=>LA l λa l=>BD l (J b a)
def uS(l:List V)(J:Nat->Nat->Nat->Nat->Int->AH):AH:=Aj l λd l=>CM d λg b=>Aj l λf l=>CM f λc a=>F0 .i64 l λe l=>BD l (J g b c a e)
def uT(l:List V)(J:BS->BS->AH):AH:=NA l λb l=>NA l λa l=>BD l (J b a)
def uU(l:List V)(J:BS->Int->Bool->Bool->Int->Int->V->V->Int->V->Int->AH):AH:=NA l λi l=>F0 .i64 l λj l=>LA l λf l=>LA l λe l=>F0 .i64 l λd l=>F0 .i64 l λc l=>Aj l λh l=>Aj l λk l=>F0 .i64 l λg l=>Aj l λb l=>F0 .i64 l λa l=>BD l (J i j f e d c h k g b a)
def uV(l:List V)(J:Int->Int->V->V->Int->V->AH):AH:=F0 .i64 l λe l=>F0 .i64 l λa l=>Aj l λf l=>Aj l λd l=>F0 .i64 l λc l=>Aj l λb l=>BD l (J e a f d c b)
def uW(l:List V)(J:Int->V->AH):AH:=F0 .i64 l λb l=>Aj l λa l=>BD l (J b a)
def uX(l:List V)(J:Nat->Nat->Int->Int->AH):AH:=Aj l λc l=>CM c λa b=>F0 .i64 l λe l=>F0 .i64 l λd l=>BD l (J a b e d)
def uY(l:List V)(J:Nat->Nat->Nat->Nat->AH):AH:=Aj l λd l=>CM d λf b=>Aj l λe l=>CM e λc a=>BD l (J f b c a)
def uZ(l:List V)(J:BS->Int->Bool->AH):AH:=NA l λb l=>F0 .i64 l λa l=>LA l λc l=>BD l (J b a c)
def uAA(l:List V)(J:Int->Int->AH):AH:=F0 .u8 l λb l=>F0 .u8 l λa l=>BD l (J b a)
def uAB(l:List V)(J:V->Nat->Nat->Int->Int->AH):AH:=Aj l λd l=>Aj l λf l=>CM f λb a=>F0 .i64 l λe l=>F0 .i64 l λc l=>BD l (J d b a e c)
def uAC(l:List V)(J:BS->Int->Int->AH):AH:=NA l λb l=>F0 .i64 l λa l=>F0 .i64 l λc l=>BD l (J b a c)
def uAD(l:List V)(J:Nat->Nat->V->Int->AH):AH:=Aj l λc l=>CM c λa b=>Aj l λe l=>F0 .i64 l λd l=>BD l (J a b e d)
def uAE(l:List V)(J:Nat->Nat->Nat->Nat->Int->Int->AH):AH:=Aj l λe l=>CM e λh b=>Aj l λg l=>CM g λc a=>F0 .i64 l λf l=>F0 .i64 l λd l=>BD l (J h b c a f d)
def uAF(l:List V)(J:Nat->Nat->V->Int->Int->AH):AH:=Aj l λd l=>CM d λa b=>Aj l λf l=>F0 .i64 l λe l=>F0 .i64 l λc l=>BD l (J a b f e c)
def uAG(l:List V)(J:Int->V->AH):AH:=F0 .u64 l λb l=>Aj l λa l=>BD l (J b a)
def eA(a:BS)(c:Int)(b:V)(e:V)(d:V):List V:=[.str a,.int .i64 c,b,e,d]
def eF(g:V)(h:Int)(i:BS)(f:Int)(d:V)(c:V)(e:V)(a:Int)(b:Int):List V:=[g,.int .i64 h,.str i,.int .i64 f,d,c,e,.int .i64 a,.int .i64 b]
def eG(a:Int)(c:BS)(b:Int):List V:=[.int .i64 a,.str c,.int .i64 b]
def eK(k:Int)(m:BS)(n:Bool)(h:Int)(l:Int)(i:Bool)(p:Bool)(o:Bool)(g:Bool)(j:Int)(f:Int)(e:V)(a:V)(c:Int)(b:Bool)(d:Int):List V:=[.int .i64 k,.str m,.bool n,.int .i64 h,.int .i64 l,.bool i,.bool p,.bool o,.bool g,.int .i64 j,.int .i64 f,e,a,.int .i64 c,.bool b,.int .i64 d]
def eN(a:Bool)(d:Bool)(c:Bool)(f:Bool)(e:Int)(b:Int):List V:=[.bool a,.bool d,.bool c,.bool f,.int .i64 e,.int .i64 b]
def eO(a:Bool)(c:Int)(b:Int):List V:=[.bool a,.int .i64 c,.int .i64 b]
def eU(h:BS)(i:Int)(j:Bool)(g:Bool)(e:Int)(d:Int)(f:V)(k:V)(c:Int)(b:V)(a:Int):List V:=[.str h,.int .i64 i,.bool j,.bool g,.int .i64 e,.int .i64 d,f,k,.int .i64 c,b,.int .i64 a]
def eV(a:Int)(d:Int)(c:V)(f:V)(e:Int)(b:V):List V:=[.int .i64 a,.int .i64 d,c,f,.int .i64 e,b]
def eZ(a:BS)(c:Int)(b:Bool):List V:=[.str a,.int .i64 c,.bool b]
def eAC(a:BS)(c:Int)(b:Int):List V:=[.str a,.int .i64 c,.int .i64 b]
theorem rZ:type_of% (Ay @cB.eq_1 (Ay @cI.eq_1 (Ay @cS.eq_1 (Ay @cT.eq_1 (Ay @cA.eq_1 (Ay @c0.eq_1 (Ay @lI.eq_1 (Ay @lB.eq_1 (Ay @lS.eq_1 (Ay @lL.eq_1 (Ay @iX.eq_1 (Ay @iY.eq_1 (Ay @r0.eq_1 (Ay @rB.eq_1 (Ay @rI.eq_1 (Ay @iN.eq_1 (Ay @sN.eq_1 (Ay @uA.eq_1 (Ay @uB.eq_1 (Ay @uC.eq_1 (Ay @uD.eq_1 (Ay @uE.eq_1 (Ay @uF.eq_1 (Ay @uG.eq_1 (Ay @uH.eq_1 (Ay @uI.eq_1 (Ay @uJ.eq_1 (Ay @uK.eq_1 (Ay @uL.eq_1 (Ay @uM.eq_1 (Ay @uN.eq_1 (Ay @uO.eq_1 (Ay @uP.eq_1 (Ay @uQ.eq_1 (Ay @uR.eq_1 (Ay @uS.eq_1 (Ay @uT.eq_1 (Ay @uU.eq_1 (Ay @uV.eq_1 (Ay @uW.eq_1 (Ay @uX.eq_1 (Ay @uY.eq_1 (Ay @uZ.eq_1 (Ay @uAA.eq_1 (Ay @uAB.eq_1 (Ay @uAC.eq_1 (Ay @uAD.eq_1 (Ay @uAE.eq_1 (Ay @uAF.eq_1 (Ay @uAG.eq_1 (Ay @eA.eq_1 (Ay @eF.eq_1 (Ay @eG.eq_1 (Ay @eK.eq_1 (Ay @eN.eq_1 (Ay @eO.eq_1 (Ay @eU.eq_1 (Ay @eV.eq_1 (Ay @eZ.eq_1 (@eAC.eq_1)))))))))))))))))))))))))))))))))))))))))))))))))))))))))))):=⟨@cB.eq_1,@cI.eq_1,@cS.eq_1,@cT.eq_1,@cA.eq_1,@c0.eq_1,@lI.eq_1,@lB.eq_1,@lS.eq_1,@lL.eq_1,@iX.eq_1,@iY.eq_1,@r0.eq_1,@rB.eq_1,@rI.eq_1,@iN.eq_1,@sN.eq_1,@uA.eq_1,@uB.eq_1,@uC.eq_1,@uD.eq_1,@uE.eq_1,@uF.eq_1,@uG.eq_1,@uH.eq_1,@uI.eq_1,@uJ.eq_1,@uK.eq_1,@uL.eq_1,@uM.eq_1,@uN.eq_1,@uO.eq_1,@uP.eq_1,@uQ.eq_1,@uR.eq_1,@uS.eq_1,@uT.eq_1,@uU.eq_1,@uV.eq_1,@uW.eq_1,@uX.eq_1,@uY.eq_1,@uZ.eq_1,@uAA.eq_1,@uAB.eq_1,@uAC.eq_1,@uAD.eq_1,@uAE.eq_1,@uAF.eq_1,@uAG.eq_1,@eA.eq_1,@eF.eq_1,@eG.eq_1,@eK.eq_1,@eN.eq_1,@eO.eq_1,@eU.eq_1,@eV.eq_1,@eZ.eq_1,@eAC.eq_1⟩
end
end Go.Og
set_option maxRecDepth 100000
set_option maxHeartbeats 0
namespace Go.Proofs.YtnpcmeaplmfdlaaGreatDoor
open Go Go.Og
noncomputable section
variable (E:EB) (D:Am) (W:AJ) (N:Nat)
def y0:V:=(V.int .i64 (AA 0))
def y1:V:=(V.bool false)
def y2:DN:=(.agg [.i,.str,.bool,.i,.i,.bool,.bool,.bool,.bool,.i,.i,.any,.any,.i,.bool,.i])
def y3:V:=(V.str ⟨0,0⟩)
def y4:DN:=(.agg [.i,.str,.i])
def y5:DN:=(.agg [.i,.i,.any,.any,.i,.any])
def y6:Eg:=(.mov (.t 0))
def y7:DN:=(.agg [.bool,.bool,.bool,.bool,.i,.i])
def y8:DN:=(.agg [.str,.i,.any,.any,.any])
def y9:V:=(V.bool true)
def xi:XC:=(.ops (.aK 17 7 1<|
 .aC 7 18))
def xh:DN:=(.agg [.str,.i,.bool,.bool,.i,.i,.any,.any,.i,.any,.i])
def Sp:V:=(V.int .u64 (AA 0))
def Yx:AO:=(.con (V.int .u8 (AA 45)))
def xg:XC:=(.cond (.tmp 29) (.z (.aH 6 y1)
 .ret)
 .skip)
def Ud:DN:=(.agg [.bool,.i,.i])
def UZ:AO:=(.con (V.int .u8 (AA 48)))
def y17:XC:=(.cond (.tmp 12) (.z (.aH 6 y1)
 .ret)
 .skip)
def Z6:V:=(V.int .u8 (AA 0))
def M9:Eg:=(.mov (.t 1))
def Z5:DN:=(.agg [.str,.i,.bool])
def y21:AO:=(.con (V.int .u64 (AA 9259542123273814144)))
def QU:XC:=(.exit 0)
def xe:XC:=(.cond (.tmp 16) .skip
 QU)
def xd:AO:=(.con (V.int .u8 (AA 128)))
def xZ:AO:=(.con (V.str ⟨10,488440487847103610377301⟩))
def y25:AO:=(.con (V.str ⟨10,322399817400452109389381⟩))
def Jl:DN:=(.tup [])
def xY:AO:=(.con (V.str ⟨4,1280070990⟩))
def kF:AO:=(.con (V.str ⟨1,44⟩))
def y29:AO:=(.con (V.str ⟨8,6073459554577832005⟩))
def y30:AO:=(.con (V.str ⟨8,6073459554577829193⟩))
def y31:AO:=(.con (V.str ⟨8,4990918871747741011⟩))
def Z4:V:=(V.int .i64 (Bh 0))
def y33:AO:=(.con (V.str ⟨7,22026814072246082⟩))
def y34:AO:=(.con (V.str ⟨7,23157120498421321⟩))
def tZ:AO:=(.con (V.str ⟨1,40⟩))
def xX:AO:=(.con (V.str ⟨3,3026478⟩))
def y37:Eg:=(.alloc 47 [y0,y3,y1,y0,y0,y1,y1,y1,y1,y0,y0,V.nils,V.nils,y0,y1,y0])
def ub:AO:=(.con (V.str ⟨1,123⟩))
def ua:AO:=(.con (V.str ⟨1,125⟩))
def y40:AO:=(.con (V.str ⟨6,76155295057987⟩))
def y41:AO:=(.con (V.int .u8 (AA 191)))
def y42:AO:=(.con (V.int .u8 (AA 10)))
def y43:AO:=(.con (V.int .u8 (AA 34)))
def y44:AO:=(.con (V.int .u8 (AA 65)))
def tu:AO:=(.con (V.str ⟨1,41⟩))
def y47:AO:=(.con (V.str ⟨5,361940403023⟩))
def OK:AO:=(.con y9)
def y49:AO:=(.con (V.str ⟨11,100710650190388740279911748⟩))
def y50:AO:=(.con (V.str ⟨4,1397178708⟩))
def y51:AO:=(.con (V.str ⟨3,4012602⟩))
def y52:AO:=(.con (V.str ⟨3,5522771⟩))
def y53:AO:=(.con (V.str ⟨9,1241215773001651606849⟩))
def y54:AO:=(.con (V.str ⟨8,5494759122808361039⟩))
def j3:Eg:=(.mov (.t 5))
def y56:AO:=(.con (V.str ⟨7,23727827094750532⟩))
def xW:Eg:=(.un .not (.t 28))
def y58:XC:=(.cond (.tmp 9) .skip
 QU)
def xV:DN:=(.tup [.i,.str])
def y60:AO:=(.con (V.str ⟨1,91⟩))
def y61:AO:=(.con (V.str ⟨6,78401563153491⟩))
def y62:AO:=(.con (V.int .u64 (AA 16)))
def y63:AO:=(.con (V.int .u64 (AA 24)))
def y64:AO:=(.con (V.int .u8 (AA 90)))
def y65:AO:=(.con (V.int .u8 (AA 97)))
def y66:AO:=(.con (V.int .u64 (AA 1)))
def y67:AO:=(.con (V.int .u64 (AA 8)))
def y68:AO:=(.con (V.str ⟨5,336236856642⟩))
def y69:List DN:=[.any,.any,.any]
def y70:AO:=(.con (V.str ⟨5,297750249798⟩))
def tY:Eg:=(.mov (.t 8))
def y72:DN:=(.agg [(.int .u8),(.int .u8)])
def WV:AO:=(.con y1)
def y74:Eg:=(.alloc 38 [y0,y3,y0])
def y75:AO:=(.con (V.str ⟨4,1163544915⟩))
def y76:AO:=(.con (V.str ⟨4,1163219540⟩))
def y77:XC:=(.cond (.tmp 12) .skip
 QU)
def y78:DN:=(.tup [.i,y4,.bool])
def y79:AO:=(.con (V.str ⟨3,4476485⟩))
def y80:AO:=(.con (V.str ⟨3,5130573⟩))
def y81:AO:=(.con (V.str ⟨3,5783885⟩))
def nX:Nat->St->AH:=λ_ _=>none
def kX(ts:List (Nat × DN))(b:List Nat)(a:List (Nat × List DN))(J:St->AH):St->AH:=λs=>Ko ts b a s J
def dX(E:EB)(D:Am)(W:AJ)(N:Nat)(c:XC)(k:St->AH)(x:Nat->St->AH)(r:St->AH):St->AH:=λs=>A0 E D W N c s k x r
def APy:XC:=(.z (.aH 0 y1)
 (.z (.k 5 (.tup [y8,.i,.i]) 6 [(.con (V.str ⟨68,15365082312408104876030393846070986292879098561787164772861530402028165223365166853668485259252883950828983602805086268172999713095979834202427583881019512347435085⟩))]<|
 .m 4 5<|
 .aB 6 0 4 1 4<|
 .P 8 (.extract 2 (.t 4))<|
 .pal 1 [] 27 [y3,y0,V.nils,V.nils,V.nils]<|
 .op none y8 [1,6] (.store 5 (.t 1) (.t 6))<|
 .m 2 7<|
 .m 3 8<|
 .nil)
 (.z (.m 9 3<|
 .cF 10 9 0<|
 .gA 11 true (.aE 12 1 11 4 1 11<|
 .p 14 [13,11] (.len false (.t 13))<|
 .cJ 15 14 11 14 2) 16 11 15<|
 .m 17 16<|
 .gA 17 true (.aE 18 1 17 4 1 17<|
 .p 20 [19,17] (.iaddrS 16 (.t 19) (.i 0))<|
 .bD 21 20 17 14 20 17<|
 .nil) 23 17 22<|
 .m 24 23<|
 .gA 24 true (.aE 25 1 24 4 1 24<|
 .p 27 [26,24] (.iaddrS 16 (.t 26) (.i 1))<|
 .p 28 [27,24] (.faddr 5 (.t 27))<|
 .aF 29 28 24 5 28 24<|
 .cJ 31 30 24 30 7) 32 24 31<|
 .aC 0 32)
 .ret)))
def ABs(E:EB)(D:Am)(W:AJ)(U:H):AH:=
 cT (D 6 [sN 68 15365082312408104876030393846070986292879098561787164772861530402028165223365166853668485259252883950828983602805086268172999713095979834202427583881019512347435085] U) λa b=>
 Aj a λa c=>
 Cl a λa=>
 uA a λa d e f g=>
 uB c λc h=>
 JK (BM (eA a d e f g)) (
 Ab (λa c=>
 Ab (λd e=>
 Ab (λf i=>
 rB f i) λf=>
 AG d (
 Bl 16 g (AA 1) λd i=>
 lI E e d (AN (AN i 5) 5) λd=>
 f (Cc d (AA 7)) e) (
 f false e)) λd=>
 AG a (
 Bl 16 g (AA 0) λa e=>
 lB E c a (AN e 14) λa=>
 d a c) (
 d false c)) λa=>
 AG (Cc h (AA 0)) (
 BV g λc=>
 a (Cc (AA c) (AA 2)) b) (
 a false b))
def F5(N:Nat)(a:List V)(U:H):AH:=
 BD a (
 ABs E D W  U)
def A5:Dg:=⟨33,[],[(.tmp 0)],APy⟩
theorem FE5 b U:Bt E D W N A5 b U=F5 E D W N b U:=by kernel_rfl
def jq:List Bf:=[⟨(some 27),.build [(V.str ⟨0,0⟩),(V.int .i64 (AA 0)),V.nils,V.nils,V.nils] [],none⟩,⟨(some 28),.mov (.tmp 8),none⟩,⟨(some 29),.nilck (.tmp 28),none⟩,⟨(some 30),.faddr 7 (.tmp 29),none⟩,⟨(some 31),.load none (.tmp 30),none⟩,⟨(some 32),.mov (.tmp 8),none⟩,⟨(some 33),.nilck (.tmp 32),none⟩,⟨(some 34),.faddr 8 (.tmp 33),none⟩,⟨(some 35),.load none (.tmp 34),none⟩,⟨none,.store 5 (.tmp 2) (.tmp 27),none⟩,⟨(some 3),.mov (.tmp 31),none⟩,⟨(some 4),.mov (.tmp 35),none⟩]
def sj:List DP:=[⟨0,[]⟩,⟨0,[8]⟩,⟨2,[28]⟩,⟨6,[29]⟩,⟨14,[30]⟩,⟨0,[8]⟩,⟨32,[32]⟩,⟨96,[33]⟩,⟨224,[34]⟩,⟨1,[2,27]⟩,⟨543,[31]⟩,⟨2047,[35]⟩]
def APx:XC:=(.z (.p 2 [] (.alloc 27 [y3,y0,V.nils,V.nils,V.nils])<|
 .q 3 0<|
 .bV 4 0)
 (.z (.m 10 0<|
 .k 11 (.tup [.any,.i,.i]) 10 [(.t 10)]<|
 .bE 9 0 1 2<|
 .m 5 12<|
 .m 6 13<|
 .m 7 14<|
 .nil)
 (.seq (.z (.m 15 7<|
 .b 16 .neq .none (.t 15) (.i 0)<|
 .nil)
 (.cond (.tmp 16) (.z (.op (some 17) y8 [] (.build [y3,y0,V.nils,V.nils,V.nils] [])<|
 .aD 18 6 7<|
 .op none y8 [2,17] (.store 5 (.t 2) (.t 17))<|
 .m 3 18<|
 .aC 4 19)
 .ret)
 .skip))
 (.z (.m 20 5<|
 .op (some 21) (.agg [.any,.i]) [20] (.build [V.nils,y0] [(0,1,(.t 20))])<|
 .op (some 22) (.agg [.any,.i,.str,.i,.any,.any,.any,.i,.i]) [21] (.build [V.nils,y0,y3,y0,V.nils,V.nils,V.nils,y0,y0] [(0,2,(.t 21))])<|
 .P 23 (.box 52 (.t 22))<|
 .aC 8 23)
 (.seq (.z (.cD 24 8 .bool 11<|
 .aL 26 25)
 (.cond (.tmp 26) (.seq (.keep [(2,.ptr),(8,.ptr)] [] [] (.gdraw jq sj [(2,.ptr),(3,.i),(4,.i)]))
 .ret)
 .skip))
 (.z (.aA 36 8 2<|
 .aQ 39 y8 5 38 y8 2 5 2<|
 .q 3 0<|
 .bV 4 0)
 .ret))))))
def Ze(a:BS)(U:H):AH:=
 let b:=B9 U (.cells [.str ⟨0,0⟩,iN 0,V.nils,V.nils,V.nils]);
 cT (D 10 [.str a] b) λb c=>
 uC b λb d e=>
 AG (not (Cc e (AA 0))) (
 Cg 5 (H.next U) 0 (V.agg [sN 0 0,iN 0,V.nils,V.nils,V.nils]) c λf=>
 Dt E f (H.next U) 0 5 λg=>
 some ((V.tup [.agg g,.int .i64 d,.int .i64 e]),f)) (
 JQ [(0,1,b)] [V.nils,iN 0] λb=>
 uE b λb d=>
 OU [b,.int .i64 d,sN 0 0,iN 0,V.nils,V.nils,V.nils,iN 0,iN 0] c λb=>
 cB (D 11 [.ptr (H.next c) 0] b) λb d=>
 AG (not b) (
 DZ (W jq sj [(2,.ptr (H.next U) 0),(8,.ptr (H.next c) 0)] d) λb e=>
 EO b 2 λf=>
 CM f λf g=>
 EO b 3 λh=>
 BZ .i64 h λh=>
 EO b 4 λb=>
 BZ .i64 b λb=>
 Dt E e f g 5 λf=>
 some ((V.tup [.agg f,.int .i64 h,.int .i64 b]),e)) (
 Dt E d (H.next c) 2 5 λb=>
 uA b λb c e f g=>
 Cg 5 (H.next U) 0 (V.agg (eA b c e f g)) d λb=>
 Dt E b (H.next U) 0 5 λc=>
 some ((V.tup [.agg c,iN 0,iN 0]),b)))
def F6(N:Nat)(c:List V)(U:H):AH:=
 NA c λa b=>
 BD b (
 Ze E D W a U)
def A6:Dg:=⟨40,[.str],[(.cell 2 (some 5)),(.tmp 3),(.tmp 4)],APx⟩
theorem FE6 b U:Bt E D W N A6 b U=F6 E D W N b U:=by kernel_rfl
def vR:List (Nat × DN):=[(2,.ptr),(8,.ptr)]
def jo:List Bf:=[⟨(some 140),.build [(V.str ⟨0,0⟩),(V.int .i64 (AA 0)),V.nils,V.nils,V.nils] [],none⟩,⟨(some 141),.mov (.tmp 8),none⟩,⟨(some 142),.nilck (.tmp 141),none⟩,⟨(some 143),.faddr 8 (.tmp 142),none⟩,⟨(some 144),.load none (.tmp 143),none⟩,⟨(some 145),.mov (.tmp 8),none⟩,⟨(some 146),.nilck (.tmp 145),none⟩,⟨(some 147),.faddr 7 (.tmp 146),none⟩,⟨(some 148),.load none (.tmp 147),none⟩,⟨none,.store 5 (.tmp 2) (.tmp 140),none⟩,⟨(some 3),.mov (.tmp 144),none⟩,⟨(some 4),.mov (.tmp 148),none⟩]
def si:List DP:=[⟨0,[]⟩,⟨0,[8]⟩,⟨2,[141]⟩,⟨6,[142]⟩,⟨14,[143]⟩,⟨0,[8]⟩,⟨32,[145]⟩,⟨96,[146]⟩,⟨224,[147]⟩,⟨1,[2,140]⟩,⟨543,[144]⟩,⟨2047,[148]⟩]
def Sj(E:EB):St->AH:=λs=>Dy E s [(.cell 2 (some 5)),(.tmp 3),(.tmp 4)] λl=>some (Ek l,s.U)
def b7a(c0:XC):Nat->St->AH:=CQ 1 (dX E D W N (.keep vR [] [] c0) (Sj E) nX (Sj E)) nX
def AMH(a:XC):XC:=(.z (.p 2 [] (.alloc 27 [y3,y0,V.nils,V.nils,V.nils])<|
 .q 3 0<|
 .bV 4 0)
 (.z (.m 13 0<|
 .k 14 (.tup [.any,.i,.i]) 9 [(.t 13)]<|
 .bE 12 0 1 2<|
 .aD 5 15 16<|
 .aC 7 17)
 (.seq (.z (.m 18 7<|
 .b 19 .neq .none (.t 18) (.i 0)<|
 .nil)
 (.cond (.tmp 19) (.z (.op (some 20) y8 [] (.build [y3,y0,V.nils,V.nils,V.nils] [])<|
 .aD 21 6 7<|
 .op none y8 [2,20] (.store 5 (.t 2) (.t 20))<|
 .m 3 21<|
 .aC 4 22)
 .ret)
 .skip))
 (.z (.m 23 5<|
 .op (some 24) (.agg [.any,.i,.str,.i,.any,.any,.any,.i,.i]) [23] (.build [V.nils,y0,y3,y0,V.nils,V.nils,V.nils,y0,y0] [(0,1,(.t 23))])<|
 .P 25 (.box 55 (.t 24))<|
 .aC 8 25)
 (.z (.aD 26 8 8<|
 .k 28 .str 12 [(.t 27),(.i 1)]<|
 .n 29 26<|
 .f 30 2 29<|
 .aT 31 0 30 1 28)
 (.z (.bH 32 8 Jl 13 y49)
 (.seq (.block 0 (.z (.m 35 8<|
 .aU 36 .bool 14 35 y29 34)
 (.cond (.tmp 34) (.ops (.bH 37 8 Jl 13 y50))
 (.z (.m 40 8<|
 .aU 41 .bool 14 40 y30 39)
 (.cond (.tmp 39) (.z (.aA 42 8 2<|
 .aI 45 1 44 1 1<|
 .nil)
 (.ops (.bH 46 8 Jl 13 y50)))
 (.z (.m 49 8<|
 .aU 50 .bool 14 49 y53 48)
 (.cond (.tmp 48) (.z (.aA 51 8 2<|
 .aI 54 1 53 1 2<|
 .nil)
 (.ops (.bH 55 8 Jl 13 y50)))
 .skip)))))))
 (.keep vR [] [] a))))))))
def Zd(E:EB)(D:Am)(W:AJ)(l:Nat->Nat->Nat->Nat->H->AH)(a:BS)(U:H):AH:=
 let b:=B9 U (.cells [.str ⟨0,0⟩,iN 0,V.nils,V.nils,V.nils]);
 cT (D 9 [.str a] b) λb c=>
 uC b λb d e=>
 AG (not (Cc e (AA 0))) (
 Cg 5 (H.next U) 0 (V.agg [sN 0 0,iN 0,V.nils,V.nils,V.nils]) c λf=>
 Dt E f (H.next U) 0 5 λg=>
 some ((V.tup [.agg g,.int .i64 d,.int .i64 e]),f)) (
 JQ [(0,1,b)] [V.nils,iN 0,.str ⟨0,0⟩,iN 0,V.nils,V.nils,V.nils,iN 0,iN 0] λb=>
 uF b λb d e f g h i j k=>
 OU (eF b d e f g h i j k) c λb=>
 cS (D 12 [.ptr (H.next c) 0,iN 1] b) λb d=>
 Cg 1 (H.next c) 2 (V.str b) d λb=>
 c0 (D 13 [.ptr (H.next c) 0,sN 11 100710650190388740279911748] b) λb=>
 cB (D 14 [.ptr (H.next c) 0,sN 8 6073459554577832005] b) λb d=>
 AG b (
 c0 (D 13 [.ptr (H.next c) 0,sN 4 1397178708] d) λb=>
 l (H.next U) 0 (H.next c) 0 b) (
 cB (D 14 [.ptr (H.next c) 0,sN 8 6073459554577829193] d) λb d=>
 AG b (
 Cg 1 (H.next c) 3 (iN 1) d λb=>
 c0 (D 13 [.ptr (H.next c) 0,sN 4 1397178708] b) λb=>
 l (H.next U) 0 (H.next c) 0 b) (
 cB (D 14 [.ptr (H.next c) 0,sN 9 1241215773001651606849] d) λb d=>
 AG b (
 Cg 1 (H.next c) 3 (iN 2) d λb=>
 c0 (D 13 [.ptr (H.next c) 0,sN 4 1397178708] b) λb=>
 l (H.next U) 0 (H.next c) 0 b) (
 l (H.next U) 0 (H.next c) 0 d))))
def xS(a:XC)(b:XC):XC:=(.z (.bH 57 8 Jl 13 y51)
 (.z (.bH 59 8 Jl 13 y68)
 (.seq (.block 1 (.loop vR [] [] b))
 (.keep vR [] [] a))))
def wx(E:EB)(D:Am)(W:AJ)(f:Nat->Nat->Nat->Nat->H->AH)(a b c d:Nat)(U:H):AH:=
 c0 (D 13 [.ptr c d,sN 3 4012602] U) λe=>
 c0 (D 13 [.ptr c d,sN 5 336236856642] e) λe=>
 f a b c d e
def Sn(a:XC):XC:=(.seq (.z (.aX 120 8 7 .i<|
 .cF 124 123 0<|
 .gA 125 true (.p 126 [8,125] tY<|
 .op (some 127) y4 [126,125] (.call 15 [(.t 126)])<|
 .op (some 128) .i [127,125] (.field 0 none (.t 127))<|
 .p 129 [128,125] (.bin .neq .none (.t 128) (.i 0))<|
 .nil) 130 125 129<|
 .nil)
 (.cond (.tmp 130) (.ops (.aD 131 8 8<|
 .k 133 y4 15 [(.t 132)]<|
 .k 134 Jl 16 [(.t 131),(.i 7),(.t 133)]<|
 .nil))
 .skip))
 (.keep vR [] [] a))
def Xe(E:EB)(D:Am)(W:AJ)(k:Nat->Nat->Nat->Nat->H->AH)(a b c d:Nat)(U:H):AH:=
 lI E U c (AN d 7) λe=>
 Ab (λf g=>
 AG f (
 cA (D 15 [.ptr c d] g) λf h=>
 uG f λf i j=>
 c0 (D 16 [.ptr c d,iN 7,.agg (eG f i j)] h) λf=>
 k a b c d f) (
 k a b c d g)) λf=>
 AG (Cc e (AA 0)) (
 cA (D 15 [.ptr c d] U) λe g=>
 uG e λe h i=>
 f (not (Cc e (AA 0))) g) (
 f false U)
def jy(a:XC):XC:=(.seq (.z (.aX 61 8 7 .i<|
 .cF 65 64 0<|
 .gA 66 true (.p 67 [8,66] tY<|
 .op (some 68) .bool [67,66] (.call 14 [(.t 67),y79])<|
 .cG 69 68 66 68) 70 66 69<|
 .nil)
 (.cond (.tmp 70) .skip
 (.exit 1)))
 (.block 2 (.z (.bP 71 8 y4 15<|
 .pal 9 [] 38 [y0,y3,y0]<|
 .op none y4 [9,72] (.store 3 (.t 9) (.t 72))<|
 .nil)
 (.z (.m 73 8<|
 .k 74 .str 12 [(.t 73),(.i 1)]<|
 .aC 10 74)
 (.seq (.z (.aX 75 8 7 .i<|
 .cF 79 78 0<|
 .gA 80 true (.p 81 [8,80] tY<|
 .bI 82 81 80 81 80 2<|
 .aE 84 83 80 2 83 80<|
 .p 86 [85,80] (.len false (.t 85))<|
 .p 87 [86,80] (.bin .geq .none (.t 86) (.i 40))<|
 .nil) 88 80 87<|
 .nil)
 (.cond (.tmp 88) (.ops (.cK 89 8 y4 3 9<|
 .k 91 Jl 16 [(.t 89),(.i 5),(.t 90)]<|
 .nil))
 .skip))
 (.keep [(2,.ptr),(8,.ptr),(10,.str)] [] [] a))))))
def RZ(E:EB)(D:Am)(W:AJ)(p:Nat->Nat->Nat->Nat->H->AH)(o:Nat->Nat->Nat->Nat->BS->H->AH)(a b c d:Nat)(U:H):AH:=
 lI E U c (AN d 7) λe=>
 Ab (λf g=>
 AG f (
 cA (D 15 [.ptr c d] g) λf h=>
 uG f λf i j=>
 cS (D 12 [.ptr c d,iN 1] h) λh k=>
 lI E k c (AN d 7) λl=>
 Ab (λm n=>
 AG m (
 c0 (D 16 [.ptr c d,iN 5,.agg (eG f i j)] n) λf=>
 o a b c d h f) (
 o a b c d h n)) λf=>
 AG (Cc l (AA 0)) (
 lL E k c (AN (AN d 2) 2) λh=>
 f (I2 (AA 40) (AA h)) k) (
 f false k)) (
 p a b c d g)) λf=>
 AG (Cc e (AA 0)) (
 cB (D 14 [.ptr c d,sN 3 4476485] U) λe g=>
 f (not e) g) (
 f false U)
def Yl:XC:=(.z (.bH 92 8 Jl 13 y51)
 (.z (.m 94 8<|
 .k 95 .i 17 [(.t 94),(.i 0)]<|
 .aC 11 95)
 (.z (.m 96 8<|
 .aA 97 8 2<|
 .aO 100 2 99 .any<|
 .m 102 10<|
 .p 103 [102] (.buildSlice 9 1 [y3] [(0,1,(.t 102))])<|
 .O 104 .one (.append 9 1 16 (.t 101) (.t 103))<|
 .n 105 96<|
 .f 106 2 105<|
 .aT 107 2 106 1 104)
 (.ops (.m 108 8<|
 .aA 109 8 2<|
 .aO 112 3 111 .any<|
 .m 114 11<|
 .p 115 [114] (.buildSlice 3 1 [y0] [(0,1,(.t 114))])<|
 .O 116 .one (.append 3 1 8 (.t 113) (.t 115))<|
 .n 117 108<|
 .f 118 2 117<|
 .aT 119 3 118 1 116)))))
def wv(E:EB)(D:Am)(W:AJ)(j:Nat->Nat->Nat->Nat->H->AH)(a b c d:Nat)(e:BS)(U:H):AH:=
 c0 (D 13 [.ptr c d,sN 3 4012602] U) λf=>
 cI (D 17 [.ptr c d,iN 0] f) λf g=>
 Ee E g c (AN (AN d 2) 2) λh=>
 let i:=B9 g (.cells [.str e]);
 Gv E 1 16 h (V.sl (H.next g) 0 1 (.ex 1)) i λg h=>
 E2 g (
 Cg 1 c (AN (AN d 2) 2) g h λg=>
 Ee E g c (AN (AN d 2) 3) λh=>
 let i:=B9 g (.cells [.int .i64 f]);
 Gv E 1 8 h (V.sl (H.next g) 0 1 (.ex 1)) i λf g=>
 E2 f (
 Cg 1 c (AN (AN d 2) 3) f g λf=>
 j a b c d f))
def Sk:XC:=(.seq (.z (.cQ 135 8 7 0<|
 .nil)
 (.cond (.tmp 139) (.seq (.keep vR [] [] (.gdraw jo si [(2,.ptr),(3,.i),(4,.i)]))
 .ret)
 .skip))
 (.z (.aA 149 8 2<|
 .aQ 152 y8 5 151 y8 2 5 2<|
 .q 3 0<|
 .bV 4 0)
 .ret))
def Zc(E:EB)(D:Am)(W:AJ)(a b c d:Nat)(U:H):AH:=
 lI E U c (AN d 7) λe=>
 AG (not (Cc e (AA 0))) (
 DZ (W jo si [(2,.ptr a b),(8,.ptr c d)] U) λe f=>
 EO e 2 λg=>
 CM g λg h=>
 EO e 3 λi=>
 BZ .i64 i λi=>
 EO e 4 λe=>
 BZ .i64 e λe=>
 Dt E f g h 5 λg=>
 some ((V.tup [.agg g,.int .i64 i,.int .i64 e]),f)) (
 Dt E U c (AN d 2) 5 λe=>
 uA e λe f g h i=>
 Cg 5 a b (V.agg (eA e f g h i)) U λe=>
 Dt E e a b 5 λf=>
 some ((V.tup [.agg f,iN 0,iN 0]),e))
def APG(a:BS)(U:H):St:=⟨[(0,.str a)],[],[],U⟩
def wz(a b c d:Nat)(U:H):St:=⟨[(2,.ptr a b),(8,.ptr c d)],[],[],U⟩
def APF(a b c d:Nat)(e:BS)(U:H):St:=⟨[(2,.ptr a b),(8,.ptr c d),(10,.str e)],[],[],U⟩
def API(E:EB)(D:Am)(W:AJ)(N:Nat):=Zc E D W
def Zl:=Xe E D W (API E D W N )
theorem AKC:
 (λa b c d U=>A0 E D W N (Sn Sk) (wz a b c d U) (Sj E) nX (Sj E))=Zl E D W N:=by
 unfold Zl;kernel_rfl
def ADs(E:EB)(D:Am)(W:AJ)(N:Nat)(a:Nat->Nat->Nat->Nat->H->AH):=wv E D W a
theorem AKB h:
 (λa b c d e U=>A0 E D W N Yl (APF a b c d e U) (kX vR [] [] h) (CQ 2 (kX vR [] [] h) (b7a E D W N (Sn Sk))) (Sj E))=ADs E D W N (λa b c d U=>h (wz a b c d U)):=by
 unfold ADs;generalize Sn Sk=m;revert m;refine id ?_;intros;kernel_rfl
def Zk(n:Nat):Nat->Nat->Nat->Nat->H->AH:=
 Nat.rec (λ_ _ _ _ _=>none) (λ_ a=>RZ E D W (Zl E D W N ) (ADs E D W N a)) n
theorem AJ9 n:
 (λa b c d U=>Bw (λj k=>A0 E D W N (jy Yl) k (kX vR [] [] j) (b7a E D W N (Sn Sk)) (Sj E)) n (wz a b c d U))=Zk E D W N n:=Yn (λli=>by rw[<-AKC,<-AKB];generalize Sn Sk=l,Yl=m;revert l m;refine id ?_;intros;kernel_rfl) n
def YK:=wx E D W (Zk E D W N N)
theorem AKD:
 (λa b c d U=>A0 E D W N (xS (Sn Sk) (jy Yl)) (wz a b c d U) (Sj E) nX (Sj E))=YK E D W N:=by
 unfold YK;rw[<-AJ9];generalize Sn Sk=k,jy Yl=l;revert k l;refine id ?_;intros;kernel_rfl
def ADt:=Zd E D W (YK E D W N )
theorem AKE:
 (λa U=>A0 E D W N (AMH (xS (Sn Sk) (jy Yl))) (APG a U) (Sj E) nX (Sj E))=ADt E D W N:=by
 unfold ADt;rw[<-AKD];generalize xS (Sn Sk) (jy Yl)=h;revert h;refine id ?_;intros;kernel_rfl
def F7(c:List V)(U:H):AH:=
 NA c λa b=>
 BD b (
 ADt E D W N a U)
def A7:Dg:=⟨153,[.str],[(.cell 2 (some 5)),(.tmp 3),(.tmp 4)],(AMH (xS (Sn Sk) (jy Yl)))⟩
theorem FE7 b U:Bt E D W N A7 b U=F7 E D W N b U:=by
 unfold F7;rw[<-AKE];kernel_rfl
def q9a:List (Nat × DN):=[(0,.str),(5,.any),(6,.i)]
def xQ(E:EB):St->AH:=λs=>Dy E s [(.tmp 2),(.tmp 3),(.tmp 4)] λl=>some (Ek l,s.U)
def ALy(a:XC):XC:=(.z (.c 2 V.nils<|
 .q 3 0<|
 .bV 4 0)
 (.seq (.z (.aW 9 0<|
 .b 11 .gtr .none (.t 10) (.i 8000)<|
 .nil)
 (.cond (.tmp 11) (.z (.c 2 V.nils<|
 .q 3 0<|
 .q 4 5<|
 .nil)
 .ret)
 .skip))
 (.z (.c 5 V.nils<|
 .nil)
 (.z (.bV 6 0)
 (.block 0 (.loop q9a [] [] a))))))
def jk(E:EB)(D:Am)(W:AJ)(b:BS->V->Int->H->AH)(a:BS)(U:H):AH:=
 AG (Cw (AA 8000) (AA (BS.len a))) (
 some ((V.tup [V.nils,iN 0,iN 5]),U)) (
 b a V.nils (AA 0) U)
def xR:XC:=(.block 1 (.z (.aD 12 0 6<|
 .k 14 .i 22 [(.t 12),(.t 13)]<|
 .m 6 14<|
 .nil)
 (.seq (.z (.cA 15 6 0<|
 .b 18 .geq .none (.t 15) (.t 17)<|
 .nil)
 (.cond (.tmp 18) (.z (.cA 19 5 0<|
 .op (some 22) y4 [21] (.build [y0,y3,y0] [(2,1,(.t 21))])<|
 .p 23 [22] (.buildSlice 38 1 [y0,y3,y0] [(0,3,(.t 22))])<|
 .O 24 .one (.append 38 3 32 (.t 19) (.t 23))<|
 .m 2 24<|
 .q 3 0<|
 .bV 4 0)
 .ret)
 .skip))
 (.z (.aD 26 0 6<|
 .k 28 (.tup [y4,.i]) 23 [(.t 26),(.t 27)]<|
 .m 25 28<|
 .aB 29 0 25 1 25<|
 .pal 7 [] 38 [y0,y3,y0]<|
 .op none y4 [7,29] (.store 3 (.t 7) (.t 29))<|
 .aC 8 30)
 (.seq (.z (.m 31 8<|
 .b 32 .lss .none (.t 31) (.i 0)<|
 .nil)
 (.cond (.tmp 32) (.z (.m 33 6<|
 .c 2 V.nils<|
 .m 3 33<|
 .q 4 6<|
 .nil)
 .ret)
 .skip))
 (.z (.cK 34 5 y4 3 7<|
 .p 36 [35] (.buildSlice 38 1 [y0,y3,y0] [(0,3,(.t 35))])<|
 .O 37 .one (.append 38 3 32 (.t 34) (.t 36))<|
 .aC 5 37)
 (.ops (.m 38 8<|
 .aC 6 38))))))))
def Vc(E:EB)(D:Am)(W:AJ)(k:BS->V->Int->H->AH)(a:BS)(b:V)(c:Int)(U:H):AH:=
 cI (D 22 [.str a,.int .i64 c] U) λd e=>
 AG (I2 (AA (BS.len a)) d) (
 let f:=B9 e (.cells [iN 0,sN 0 0,.int .i64 (AA (BS.len a))]);
 Gv E 3 32 b (V.sl (H.next e) 0 1 (.ex 1)) f λf g=>
 E2 f (
 some ((V.tup [f,iN 0,iN 0]),g))) (
 cT (D 23 [.str a,.int .i64 d] e) λe f=>
 Aj e λe g=>
 Cl e λe=>
 uG e λe h i=>
 F0 .i64 g λg j=>
 BD j (
 AG (Cw g (AA 0)) (
 some ((V.tup [V.nils,.int .i64 d,iN 6]),f)) (
 let d:=B9 f (.cells (eG e h i));
 Gv E 3 32 b (V.sl (H.next f) 0 1 (.ex 1)) d λd e=>
 E2 d (
 k a d g e))))
def APE(a:BS)(U:H):St:=⟨[(0,.str a)],[],[],U⟩
def APD(a:BS)(b:V)(c:Int)(U:H):St:=⟨[(0,.str a),(5,b),(6,.int .i64 c)],[],[],U⟩
def qu(E:EB)(D:Am)(W:AJ)(N:Nat)(n:Nat):BS->V->Int->H->AH:=
 Nat.rec (λ_ _ _ _=>none) (λ_ a=>Vc E D W a) n
theorem AJ8 n:
 (λa b c U=>Bw (λe f=>A0 E D W N xR f (kX q9a [] [] e) (CQ 0 (xQ E) nX) (xQ E)) n (APD a b c U))=qu E D W N n:=vm (λ_=>by kernel_rfl) n
def ADr:=jk E D W (qu E D W N N)
theorem AKA:
 (λa U=>A0 E D W N (ALy xR) (APE a U) (xQ E) nX (xQ E))=ADr E D W N:=by
 unfold ADr;rw[<-AJ8];generalize xR=h;revert h;refine id ?_;intros;kernel_rfl
def F9(c:List V)(U:H):AH:=
 NA c λa b=>
 BD b (
 ADr E D W N a U)
def A9:Dg:=⟨39,[.str],[(.tmp 2),(.tmp 3),(.tmp 4)],(ALy xR)⟩
theorem FE9 b U:Bt E D W N A9 b U=F9 E D W N b U:=by
 unfold F9;rw[<-AKA];kernel_rfl
def AHV:List (Nat × DN):=[(0,.str),(5,.ptr),(6,.any)]
def Yk(E:EB):St->AH:=λs=>Dy E s [(.tmp 2),(.tmp 3),(.tmp 4)] λl=>some (Ek l,s.U)
def AO9(c0:XC):Nat->St->AH:=CQ 0 (dX E D W N (.keep [(0,.str),(6,.any)] [] [] c0) (Yk E) nX (Yk E)) nX
def AAI(b:XC)(a:XC):XC:=(.z (.c 2 V.nils<|
 .q 3 0<|
 .bV 4 0)
 (.seq (.z (.aW 10 0<|
 .b 12 .gtr .none (.t 11) (.i 8000)<|
 .nil)
 (.cond (.tmp 12) (.z (.c 2 V.nils<|
 .q 3 0<|
 .q 4 5<|
 .nil)
 .ret)
 .skip))
 (.z (.m 13 0<|
 .op (some 14) (.agg [.str,.i]) [13] (.build [y3,y0] [(0,1,(.t 13))])<|
 .op (some 15) (.agg [.str,.i]) [14] (.build [y3,y0] [(0,2,(.t 14))])<|
 .P 16 (.box 72 (.t 15))<|
 .aC 5 16)
 (.z (.c 6 V.nils<|
 .nil)
 (.seq (.z (.aA 17 5 0<|
 .k 20 Jl 24 [(.t 19)]<|
 .nil)
 (.block 0 (.loop AHV [] [] a)))
 (.keep [(0,.str),(6,.any)] [] [] b))))))
def Ta(E:EB)(D:Am)(W:AJ)(c:BS->Nat->Nat->V->H->AH)(a:BS)(U:H):AH:=
 AG (Cw (AA 8000) (AA (BS.len a))) (
 some ((V.tup [V.nils,iN 0,iN 5]),U)) (
 OU [.str a,iN 0] U λb=>
 c0 (D 24 [.ptr (H.next U) 0] b) λb=>
 c a (H.next U) 0 V.nils b)
def ie:XC:=(.z (.cA 53 6 0<|
 .op (some 56) y4 [55] (.build [y0,y3,y0] [(2,1,(.t 55))])<|
 .p 57 [56] (.buildSlice 38 1 [y0,y3,y0] [(0,3,(.t 56))])<|
 .O 58 .one (.append 38 3 32 (.t 53) (.t 57))<|
 .m 2 58<|
 .q 3 0<|
 .bV 4 0)
 .ret)
def qN(E:EB)(D:Am)(W:AJ)(a:BS)(b:V)(U:H):AH:=
 let c:=B9 U (.cells [iN 0,sN 0 0,.int .i64 (AA (BS.len a))]);
 Gv E 3 32 b (V.sl (H.next U) 0 1 (.ex 1)) c λc d=>
 E2 c (
 some ((V.tup [c,iN 0,iN 0]),d))
def ic:XC:=(.seq (.z (.aA 21 5 0<|
 .aO 24 1 23 .i<|
 .aW 26 0<|
 .aS 28 25 27)
 (.cond (.tmp 28) .skip
 QU))
 (.seq (.block 1 (.z (.aA 33 5 0<|
 .aO 36 1 35 .i<|
 .aC 7 37)
 (.z (.bP 39 5 xV 25<|
 .m 38 40<|
 .aB 41 0 38 1 38<|
 .m 8 41<|
 .aC 9 42)
 (.seq (.z (.m 43 8<|
 .cE 44 43 0)
 (.cond (.tmp 44) (.z (.m 45 7<|
 .c 2 V.nils<|
 .m 3 45<|
 .q 4 6<|
 .nil)
 .ret)
 .skip))
 (.ops (.aD 46 6 8<|
 .aD 48 9 7<|
 .op (some 50) y4 [47,48,49] (.build [y0,y3,y0] [(0,1,(.t 47)),(1,1,(.t 48)),(2,1,(.t 49))])<|
 .p 51 [50] (.buildSlice 38 1 [y0,y3,y0] [(0,3,(.t 50))])<|
 .O 52 .one (.append 38 3 32 (.t 46) (.t 51))<|
 .aC 6 52))))))
 (.ops (.aA 29 5 0<|
 .k 32 Jl 24 [(.t 31)]<|
 .nil))))
def N7(E:EB)(D:Am)(W:AJ)(j:BS->V->H->AH)(k:BS->Nat->Nat->V->H->AH)(a:BS)(b c:Nat)(d:V)(U:H):AH:=
 lI E U b (AN c 1) λe=>
 AG (Cw e (AA (BS.len a))) (
 lI E U b (AN c 1) λe=>
 cT (D 25 [.ptr b c] U) λf g=>
 uH f λf h=>
 AG (Cc f (AA 0)) (
 some ((V.tup [V.nils,.int .i64 e,iN 6]),g)) (
 let i:=B9 g (.cells (eG f h e));
 Gv E 3 32 d (V.sl (H.next g) 0 1 (.ex 1)) i λe f=>
 E2 e (
 c0 (D 24 [.ptr b c] f) λf=>
 k a b c e f))) (
 j a d U)
def AJo(a:BS)(U:H):St:=⟨[(0,.str a)],[],[],U⟩
def AJn(a:BS)(b c:Nat)(d:V)(U:H):St:=⟨[(0,.str a),(5,.ptr b c),(6,d)],[],[],U⟩
def se(E:EB)(D:Am)(W:AJ)(N:Nat):=qN E D W
def YJ(n:Nat):BS->Nat->Nat->V->H->AH:=
 Nat.rec (λ_ _ _ _ _=>none) (λ_ a=>N7 E D W (se E D W N ) a) n
theorem ACr n:
 (λa b c d U=>Bw (λf g=>A0 E D W N ic g (kX AHV [] [] f) (AO9 E D W N ie) (Yk E)) n (AJn a b c d U))=YJ E D W N n:=Yn (λ_=>by kernel_rfl) n
def sg:=Ta E D W (YJ E D W N N)
theorem ADq:
 (λa U=>A0 E D W N (AAI ie ic) (AJo a U) (Yk E) nX (Yk E))=sg E D W N:=by
 unfold sg;rw[<-ACr];generalize ie=h,ic=i;revert h i;refine id ?_;intros;kernel_rfl
def F10(c:List V)(U:H):AH:=
 NA c λa b=>
 BD b (
 sg E D W N a U)
def A10:Dg:=⟨59,[.str],[(.tmp 2),(.tmp 3),(.tmp 4)],(AAI ie ic)⟩
theorem ALp b U:Bt E D W N A10 b U=F10 E D W N b U:=by
 unfold F10;rw[<-ADq];kernel_rfl
def AHU:List (Nat × DN):=[(0,.ptr),(26,.any),(27,.i),(28,.i)]
def Pc(E:EB):St->AH:=λs=>Dy E s [(.tmp 2)] λl=>some (Ek l,s.U)
def AIS(c0:XC):St->AH:=dX E D W N (.keep [(0,.ptr)] [] [] c0) (Pc E) nX (Pc E)
def AAH(b:XC)(a:XC):XC:=(.z (.aH 2 y1)
 (.z (.m 8 0<|
 .k 9 (.tup [y4,.bool]) 26 [(.t 8),(.i 1)]<|
 .m 7 9<|
 .aB 10 0 7 1 7<|
 .pal 3 [] 38 [y0,y3,y0]<|
 .op none y4 [3,10] (.store 3 (.t 3) (.t 10))<|
 .m 4 11<|
 .nil)
 (.seq (.z (.m 12 4<|
 .P 13 (.un .not (.t 12))<|
 .m 14 13<|
 .gO 14 false (.p 15 [0,14] y6<|
 .p 16 [14] (.buildSlice 9 1 [y3] [(0,1,y49)])<|
 .op (some 17) .bool [15,16,14] (.call 27 [(.t 15),(.t 16)])<|
 .cG 18 17 14 17) 19 14 18<|
 .nil)
 (.cond (.tmp 19) (.z (.aH 2 y1)
 .ret)
 .skip))
 (.z (.m 20 0<|
 .aO 21 1 3 .str<|
 .n 23 20<|
 .f 24 2 23<|
 .aT 25 0 24 1 22)
 (.seq (.z (.p 26 [] (.buildSlice 9 3 [y3,y3,y3] [(0,1,y29),(1,1,y30),(2,1,y53)])<|
 .u 27 26<|
 .bV 28 0)
 (.block 0 (.loop AHU [] [] a)))
 (.keep [(0,.ptr)] [] [] b))))))
def Rv(E:EB)(D:Am)(W:AJ)(h:Nat->Nat->V->Int->Int->H->AH)(a b:Nat)(U:H):AH:=
 cT (D 26 [.ptr a b,iN 1] U) λc d=>
 Aj c λc e=>
 Cl c λc=>
 uG c λc f g=>
 LA e λc e=>
 BD e (
 Ab (λe g=>
 AG e (
 rB false g) (
 Cg 1 a (AN b 2) (V.str f) g λe=>
 let f:=B9 e (.cells [sN 8 6073459554577832005,sN 8 6073459554577829193,sN 9 1241215773001651606849]);
 BV (V.sl (H.next e) 0 3 (.ex 3)) λg=>
 h a b (V.sl (H.next e) 0 3 (.ex 3)) (AA g) (AA 0) f)) λe=>
 AG (not c) (
 e true d) (
 let c:=B9 d (.cells [sN 11 100710650190388740279911748]);
 cB (D 27 [.ptr a b,.sl (H.next d) 0 1 (.ex 1)] c) λc d=>
 e (not c) d))
def UU(b:XC)(a:XC):XC:=(.seq (.z (.m 50 0<|
 .p 51 [] (.buildSlice 9 2 [y3,y3] [(0,1,y51),(1,1,y68)])<|
 .k 52 .bool 27 [(.t 50),(.t 51)]<|
 .aL 53 52)
 (.cond (.tmp 53) (.z (.aH 2 y1)
 .ret)
 .skip))
 (.seq (.block 2 (.loop [(0,.ptr)] [] [] a))
 (.keep [(0,.ptr)] [] [] b)))
def Xu(E:EB)(D:Am)(W:AJ)(e:Nat->Nat->H->AH)(a b:Nat)(U:H):AH:=
 let c:=B9 U (.cells [sN 3 4012602,sN 5 336236856642]);
 cB (D 27 [.ptr a b,.sl (H.next U) 0 2 (.ex 2)] c) λc d=>
 AG (not c) (
 rB false d) (
 e a b d)
def iZ:XC:=(.z (.aS 29 28 27)
 (.seq (.cond (.tmp 29) .skip
 QU)
 (.seq (.block 1 (.z (.m 30 28<|
 .s 31 1 26 28<|
 .l 32 .str 31<|
 .m 5 30<|
 .aC 6 32)
 (.seq (.z (.aA 33 0 0<|
 .m 36 6<|
 .k 37 .bool 28 [(.t 35),(.t 36)]<|
 .aL 38 37)
 (.cond (.tmp 38) (.exit 1)
 .skip))
 (.z (.aD 39 0 5<|
 .n 41 39<|
 .f 42 2 41<|
 .aT 43 1 42 1 40)
 (.seq (.z (.aD 44 0 6<|
 .p 46 [45] (.buildSlice 9 2 [y3,y3] [(0,1,(.t 45)),(1,1,y50)])<|
 .k 47 .bool 27 [(.t 44),(.t 46)]<|
 .aL 48 47)
 (.cond (.tmp 48) (.z (.aH 2 y1)
 .ret)
 .skip))
 QU)))))
 (.ops (.b 49 .add .none (.t 28) (.i 1)<|
 .aC 28 49)))))
def PK(E:EB)(D:Am)(W:AJ)(i:Nat->Nat->H->AH)(j:Nat->Nat->V->Int->Int->H->AH)(a b:Nat)(c:V)(d e:Int)(U:H):AH:=
 AG (Cw e d) (
 Bl 1 c e λf g=>
 lS E U f g λf=>
 cB (D 28 [.ptr a b,.str f] U) λg h=>
 AG (not g) (
 j a b c d (BP .i64 e (AA 1)) h) (
 Cg 1 a (AN (AN b 2) 1) (V.int .i64 e) h λg=>
 let h:=B9 g (.cells [.str f,sN 4 1397178708]);
 cB (D 27 [.ptr a b,.sl (H.next g) 0 2 (.ex 2)] h) λf g=>
 AG (not f) (
 rB false g) (
 i a b g))) (
 i a b U)
def Pp:XC:=(.seq (.z (.m 63 0<|
 .p 64 [] (.buildSlice 9 1 [y3] [(0,1,y79)])<|
 .k 65 .bool 27 [(.t 63),(.t 64)]<|
 .aL 66 65)
 (.cond (.tmp 66) (.z (.aH 2 y1)
 .ret)
 .skip))
 (.z (.m 68 0<|
 .k 69 (.tup [y4,.bool]) 26 [(.t 68),(.i 0)]<|
 .m 67 69<|
 .aB 70 0 67 1 67<|
 .aC 4 71)
 (.z (.m 72 4<|
 .aC 2 72)
 .ret)))
def fH(E:EB)(D:Am)(W:AJ)(a b:Nat)(U:H):AH:=
 let c:=B9 U (.cells [sN 3 4476485]);
 cB (D 27 [.ptr a b,.sl (H.next U) 0 1 (.ex 1)] c) λc d=>
 AG (not c) (
 rB false d) (
 cT (D 26 [.ptr a b,iN 0] d) λc d=>
 Aj c λc e=>
 Cl c λc=>
 uG c λc f g=>
 LA e λc e=>
 BD e (
 rB c d))
def Po:XC:=(.seq (.z (.aA 54 0 0<|
 .k 57 y4 29 [(.t 56)]<|
 .O 58 .i (.field 0 none (.t 57))<|
 .cE 59 58 1)
 (.cond (.tmp 59) .skip
 (.exit 2)))
 (.block 3 (.z (.cD 60 0 .bool 30<|
 .aL 62 61)
 (.cond (.tmp 62) (.z (.aH 2 y1)
 .ret)
 .skip))))
def TZ(E:EB)(D:Am)(W:AJ)(g:Nat->Nat->H->AH)(h:Nat->Nat->H->AH)(a b:Nat)(U:H):AH:=
 cA (D 29 [.ptr a b] U) λc d=>
 uG c λc e f=>
 AG (Cc c (AA 1)) (
 cB (D 30 [.ptr a b] d) λc e=>
 AG (not c) (
 rB false e) (
 h a b e)) (
 g a b d)
def qn(a b:Nat)(U:H):St:=⟨[(0,.ptr a b)],[],[],U⟩
def AJm(a b:Nat)(c:V)(d e:Int)(U:H):St:=⟨[(0,.ptr a b),(26,c),(27,.int .i64 d),(28,.int .i64 e)],[],[],U⟩
def AKj(E:EB)(D:Am)(W:AJ)(N:Nat):=fH E D W
def YI(n:Nat):Nat->Nat->H->AH:=
 Nat.rec (λ_ _ _=>none) (λ_ a=>TZ E D W (AKj E D W N ) a) n
theorem ACp n:
 (λa b U=>Bw (λd e=>A0 E D W N Po e (kX [(0,.ptr)] [] [] d) (CQ 2 (AIS E D W N Pp) nX) (Pc E)) n (qn a b U))=YI E D W N n:=lp3 (λ_=>by kernel_rfl) n
def Tt:=Xu E D W (YI E D W N N)
theorem ADo:
 (λa b U=>A0 E D W N (UU Pp Po) (qn a b U) (Pc E) nX (Pc E))=Tt E D W N:=by
 unfold Tt;rw[<-ACp];generalize Pp=i,Po=j;revert i j;refine id ?_;intros;kernel_rfl
def Tm(n:Nat):Nat->Nat->V->Int->Int->H->AH:=
 Nat.rec (λ_ _ _ _ _ _=>none) (λ_ a=>PK E D W (Tt E D W N ) a) n
theorem ACq n:
 (λa b c d e U=>Bw (λk m=>A0 E D W N iZ m (kX AHU [] [] k) (CQ 0 (AIS E D W N (UU Pp Po)) nX) (Pc E)) n (AJm a b c d e U))=Tm E D W N n:=yQ (λli=>by rw[<-ADo];generalize UU Pp Po=l;revert l;refine id ?_;intros;kernel_rfl) n
def sd:=Rv E D W (Tm E D W N N)
theorem ADp:
 (λa b U=>A0 E D W N (AAH (UU Pp Po) iZ) (qn a b U) (Pc E) nX (Pc E))=sd E D W N:=by
 unfold sd;rw[<-ACq];generalize UU Pp Po=i,iZ=j;revert i j;refine id ?_;intros;kernel_rfl
def F11(d:List V)(U:H):AH:=
 Aj d λa b=>
 CM a λa c=>
 BD b (
 sd E D W N a c U)
def A11:Dg:=⟨73,[.ptr],[(.tmp 2)],(AAH (UU Pp Po) iZ)⟩
theorem ALo b U:Bt E D W N A11 b U=F11 E D W N b U:=by
 unfold F11;rw[<-ADp];kernel_rfl
def ANF:XC:=(.z (.aH 4 y3)
 (.z (.m 6 0<|
 .k 7 y4 15 [(.t 6)]<|
 .pal 5 [] 38 [y0,y3,y0]<|
 .op none y4 [5,7] (.store 3 (.t 5) (.t 7))<|
 .nil)
 (.seq (.z (.cQ 8 0 7 0<|
 .m 13 12<|
 .gO 13 false (.aF 14 5 13 0 5 13<|
 .p 16 [1,13] M9<|
 .p 17 [15,16,13] (.bin .neq .none (.t 15) (.t 16))<|
 .nil) 18 13 17<|
 .nil)
 (.cond (.tmp 18) (.z (.cK 19 0 y4 3 5<|
 .k 21 Jl 16 [(.t 19),(.i 7),(.t 20)]<|
 .nil)
 (.z (.aH 4 y3)
 .ret))
 .skip))
 (.z (.m 22 0<|
 .k 23 y4 31 [(.t 22)]<|
 .O 24 .str (.field 1 none (.t 23))<|
 .aC 4 24)
 .ret))))
def Xt(E:EB)(D:Am)(W:AJ)(a b:Nat)(c:Int)(U:H):AH:=
 cA (D 15 [.ptr a b] U) λd e=>
 uG d λd f g=>
 lI E e a (AN b 7) λh=>
 Ab (λi j=>
 AG i (
 c0 (D 16 [.ptr a b,iN 7,.agg (eG d f g)] j) λf=>
 some ((V.str (BS.mk 0 0)),f)) (
 cA (D 31 [.ptr a b] j) λf g=>
 uG f λf i j=>
 some ((V.str i),g))) λf=>
 AG (not (Cc h (AA 0))) (
 f true e) (
 f (not (Cc d c)) e)
def F12(N:Nat)(d:List V)(U:H):AH:=
 uI d λa b c=>
 Xt E D W a b c U
def A12:Dg:=⟨25,[.ptr,.i],[(.tmp 4)],ANF⟩
theorem ALn b U:Bt E D W N A12 b U=F12 E D W N b U:=by kernel_rfl
def ANE:XC:=(.z (.m 4 0<|
 .n 5 4<|
 .f 6 7 5<|
 .l 7 .i 6<|
 .cF 8 7 0<|
 .gA 9 true (.p 10 [0,9] y6<|
 .p 11 [1,9] M9<|
 .op (some 12) .bool [10,11,9] (.call 14 [(.t 10),(.t 11)])<|
 .cG 13 12 9 12) 14 9 13<|
 .nil)
 (.cond (.tmp 14) (.ops (.aD 15 0 0<|
 .k 17 y4 15 [(.t 16)]<|
 .k 18 Jl 16 [(.t 15),(.i 7),(.t 17)]<|
 .nil))
 .skip))
def Xs(E:EB)(D:Am)(W:AJ)(a b:Nat)(c:BS)(U:H):AH:=
 lI E U a (AN b 7) λd=>
 Ab (λe f=>
 AG e (
 cA (D 15 [.ptr a b] f) λe g=>
 uG e λe h i=>
 c0 (D 16 [.ptr a b,iN 7,.agg (eG e h i)] g) λe=>
 r0 e) (
 r0 f)) λe=>
 AG (Cc d (AA 0)) (
 cB (D 14 [.ptr a b,.str c] U) λd f=>
 e (not d) f) (
 e false U)
def F13(N:Nat)(d:List V)(U:H):AH:=
 uJ d λa b c=>
 Xs E D W a b c U
def A13:Dg:=⟨19,[.ptr,.str],[],ANE⟩
theorem ALm b U:Bt E D W N A13 b U=F13 E D W N b U:=by kernel_rfl
def AND:XC:=(.z (.aH 4 y1)
 (.z (.m 6 0<|
 .k 7 y4 15 [(.t 6)]<|
 .pal 5 [] 38 [y0,y3,y0]<|
 .op none y4 [5,7] (.store 3 (.t 5) (.t 7))<|
 .nil)
 (.seq (.z (.aX 8 0 7 .i<|
 .cF 12 11 0<|
 .gA 13 true (.aF 14 5 13 0 5 13<|
 .p 16 [15,13] (.bin .eql .none (.t 15) (.i 5))<|
 .p 17 [16,13] (.mov (.t 16))<|
 .grp 17 false (.p 18 [5,17] (.faddr 0 (.t 5))<|
 .op (some 19) .i [18,17] (.load none (.t 18))<|
 .cJ 20 19 17 19 6) 21 [17,20,13] (.t 17) OK (.t 20)<|
 .nil) 22 13 21<|
 .m 23 22<|
 .gA 23 true (.p 24 [5,23] (.faddr 1 (.t 5))<|
 .op (some 25) .str [24,23] (.load none (.t 24))<|
 .p 26 [1,23] M9<|
 .bC 27 25 26 23 25 26) 28 23 27<|
 .nil)
 (.cond (.tmp 28) (.z (.m 29 0<|
 .k 30 y4 31 [(.t 29)]<|
 .nil)
 (.z (.aH 4 y9)
 .ret))
 .skip))
 (.z (.aH 4 y1)
 .ret))))
def Xr(E:EB)(D:Am)(W:AJ)(a b:Nat)(c:BS)(U:H):AH:=
 cA (D 15 [.ptr a b] U) λd e=>
 uG d λd f g=>
 lI E e a (AN b 7) λg=>
 Ab (λh i=>
 Ab (λj k=>
 AG j (
 cA (D 31 [.ptr a b] k) λj l=>
 uG j λj m n=>
 rB true l) (
 rB false k)) λj=>
 AG h (
 j (BS.beq f c) i) (
 j false i)) λf=>
 AG (Cc g (AA 0)) (
 Ab (λg h=>
 f g h) λg=>
 AG (Cc d (AA 5)) (
 g true e) (
 g (Cc d (AA 6)) e)) (
 f false e)
def F14(N:Nat)(d:List V)(U:H):AH:=
 uJ d λa b c=>
 Xr E D W a b c U
def A14:Dg:=⟨31,[.ptr,.str],[(.tmp 4)],AND⟩
theorem ALl b U:Bt E D W N A14 b U=F14 E D W N b U:=by kernel_rfl
def ANC:XC:=(.z (.pal 2 [] 38 [y0,y3,y0]<|
 .nil)
 (.seq (.draw (.aX 3 0 0 .any<|
 .aX 7 0 1 .i<|
 .s 11 3 6 10<|
 .aQ 12 y4 3 11 y4 2 3 2<|
 .nil) [0,1,3,7,0,16,48,112,255,511,1023])
 .ret))
def qM(E:EB)(D:Am)(W:AJ)(a b:Nat)(U:H):AH:=
 Ee E U a b λc=>
 lI E U a (AN b 1) λd=>
 iX E U 3 c d λc=>
 uG c λc d e=>
 some ((V.agg (eG c d e)),U)
def F15(N:Nat)(d:List V)(U:H):AH:=
 Aj d λa b=>
 CM a λa c=>
 BD b (
 qM E D W a c U)
def A15:Dg:=⟨13,[.ptr],[(.cell 2 (some 3))],ANC⟩
theorem ALk b U:Bt E D W N A15 b U=F15 E D W N b U:=by kernel_rfl
def YS:List Bf:=[⟨(some 11),.mov (.tmp 0),none⟩,⟨(some 12),.mov (.tmp 0),none⟩,⟨(some 13),.mov (.tmp 1),none⟩,⟨(some 14),.faddr 2 (.tmp 5),none⟩,⟨(some 15),.load none (.tmp 14),none⟩,⟨(some 16),.nilck (.tmp 11),none⟩,⟨(some 17),.faddr 7 (.tmp 16),none⟩,⟨none,.store 1 (.tmp 17) (.tmp 13),none⟩,⟨(some 18),.nilck (.tmp 12),none⟩,⟨(some 19),.faddr 8 (.tmp 18),none⟩,⟨none,.store 1 (.tmp 19) (.tmp 15),none⟩]
def fe:List DP:=[⟨0,[0]⟩,⟨0,[0]⟩,⟨0,[1]⟩,⟨0,[5]⟩,⟨8,[14]⟩,⟨5,[11]⟩,⟨37,[16]⟩,⟨101,[17,13]⟩,⟨255,[12]⟩,⟨511,[18]⟩,⟨1023,[19,15]⟩]
def ANB:XC:=(.z (.P 5 (.box 38 (.t 2))<|
 .nil)
 (.z (.m 6 0<|
 .n 7 6<|
 .aO 8 7 7 .i<|
 .cE 10 9 0)
 (.cond (.tmp 10) (.keep [(0,.ptr),(1,.i),(5,.ptr)] [] [] (.gdraw YS fe []))
 .skip)))
def fG(E:EB)(D:Am)(W:AJ)(a b:Nat)(c d:Int)(e:BS)(f:Int)(U:H):AH:=
 OU (eG d e f) U λg=>
 lI E g a (AN b 7) λh=>
 AG (Cc h (AA 0)) (
 DZ (W YS fe [(0,.ptr a b),(1,.int .i64 c),(5,.ptr (H.next U) 0)] g) λh i=>
 r0 i) (
 r0 g)
def F16(N:Nat)(h:List V)(U:H):AH:=
 Aj h λa b=>
 CM a λa c=>
 F0 .i64 b λb d=>
 Aj d λd e=>
 Cl d λd=>
 uG d λd f g=>
 BD e (
 fG E D W a c b d f g U)
def A16:Dg:=⟨20,[.ptr,.i,y4],[],ANB⟩
theorem ALj b U:Bt E D W N A16 b U=F16 E D W N b U:=by kernel_rfl
def AOY:List (Nat × DN):=[(0,.ptr),(1,.i),(5,.i),(6,.ptr)]
def ANA(b:XC)(a:XC):XC:=(.z (.bV 4 0)
 (.seq (.z (.cQ 9 0 7 0<|
 .nil)
 (.cond (.tmp 13) (.z (.bV 4 0)
 .ret)
 .skip))
 (.seq (.z (.m 14 0<|
 .k 15 y4 15 [(.t 14)]<|
 .k 16 .bool 32 [(.t 15)]<|
 .aL 17 16)
 (.cond (.tmp 17) (.z (.aD 18 0 0<|
 .k 20 y4 15 [(.t 19)]<|
 .k 21 Jl 16 [(.t 18),(.i 7),(.t 20)]<|
 .nil)
 (.z (.bV 4 0)
 .ret))
 .skip))
 (.seq (.z (.m 22 1<|
 .bQ 23 22 16<|
 .gO 24 false (.p 25 [0,24] y6<|
 .bI 26 25 24 25 24 2<|
 .aE 28 27 24 4 27 24<|
 .p 30 [29,24] (.len false (.t 29))<|
 .p 31 [30,24] (.bin .geq .none (.t 30) (.i 300))<|
 .nil) 32 24 31<|
 .nil)
 (.cond (.tmp 32) (.z (.aD 33 0 0<|
 .k 35 y4 15 [(.t 34)]<|
 .k 36 Jl 16 [(.t 33),(.i 5),(.t 35)]<|
 .nil)
 (.z (.bV 4 0)
 .ret))
 .skip))
 (.z (.aA 37 0 2<|
 .aO 40 4 39 .any<|
 .u 42 41<|
 .aC 5 42)
 (.z (.m 43 0<|
 .aA 44 0 2<|
 .aO 47 4 46 .any<|
 .op (some 49) y2 [] (.build [y0,y3,y1,y0,y0,y1,y1,y1,y1,y0,y0,V.nils,V.nils,y0,y1,y0] [])<|
 .p 50 [49] (.buildSlice 47 1 [y0,y3,y1,y0,y0,y1,y1,y1,y1,y0,y0,V.nils,V.nils,y0,y1,y0] [(0,16,(.t 49))])<|
 .O 51 .one (.append 47 16 144 (.t 48) (.t 50))<|
 .n 52 43<|
 .f 53 2 52<|
 .aT 54 4 53 1 51)
 (.z (.op (some 55) y2 [] (.build [y0,y3,y1,y0,y0,y1,y1,y1,y1,y0,y0,V.nils,V.nils,y0,y1,y0] [])<|
 .p 6 [] y37<|
 .op none y2 [6,55] (.store 16 (.t 6) (.t 55))<|
 .nil)
 (.seq (.z (.cN 56 0 .bool 14 y60<|
 .nil)
 (.cond (.tmp 57) (.z (.bP 58 0 y4 15<|
 .pal 7 [] 38 [y0,y3,y0]<|
 .op none y4 [7,59] (.store 3 (.t 7) (.t 59))<|
 .nil)
 (.z (.cD 60 0 .i 33<|
 .aC 8 61)
 (.seq (.z (.aX 62 0 7 .i<|
 .cF 66 65 0<|
 .gA 67 true (.p 68 [8,67] tY<|
 .p 69 [68,67] (.bin .lss .none (.t 68) (.i 0))<|
 .p 70 [69,67] (.mov (.t 69))<|
 .grp 70 false (.p 71 [8,70] tY<|
 .p 72 [71,70] (.bin .gtr .none (.t 71) (.i 268435456))<|
 .nil) 73 [70,72,67] (.t 70) OK (.t 72)<|
 .nil) 74 67 73<|
 .nil)
 (.cond (.tmp 74) (.ops (.cK 75 0 y4 3 7<|
 .k 77 Jl 16 [(.t 75),(.i 12),(.t 76)]<|
 .nil))
 .skip))
 (.keep [(0,.ptr),(1,.i),(5,.i),(6,.ptr),(8,.i)] [] [] a))))
 .skip))
 (.keep AOY [] [] b)))))))))
def PJ(E:EB)(D:Am)(W:AJ)(q:Nat->Nat->Int->Int->Nat->Nat->H->AH)(p:Nat->Nat->Int->Int->Nat->Nat->Int->H->AH)(a b:Nat)(c:Int)(U:H):AH:=
 lI E U a (AN b 7) λd=>
 AG (not (Cc d (AA 0))) (
 rI (AA 0) U) (
 cA (D 15 [.ptr a b] U) λd e=>
 uG d λd f g=>
 cB (D 32 [.agg (eG d f g)] e) λd e=>
 AG (not d) (
 cA (D 15 [.ptr a b] e) λd f=>
 uG d λd g h=>
 c0 (D 16 [.ptr a b,iN 7,.agg (eG d g h)] f) λd=>
 rI (AA 0) d) (
 Ab (λd f=>
 AG d (
 cA (D 15 [.ptr a b] f) λd g=>
 uG d λd h i=>
 c0 (D 16 [.ptr a b,iN 5,.agg (eG d h i)] g) λd=>
 rI (AA 0) d) (
 lL E f a (AN (AN b 2) 4) λd=>
 Ee E f a (AN (AN b 2) 4) λg=>
 let h:=B9 f (.cells [iN 0,sN 0 0,.bool false,iN 0,iN 0,.bool false,.bool false,.bool false,.bool false,iN 0,iN 0,V.nils,V.nils,iN 0,.bool false,iN 0]);
 Gv E 16 144 g (V.sl (H.next f) 0 1 (.ex 1)) h λf g=>
 E2 f (
 Cg 1 a (AN (AN b 2) 4) f g λf=>
 let g:=B9 f (.cells [iN 0,.str ⟨0,0⟩,.bool false,iN 0,iN 0,.bool false,.bool false,.bool false,.bool false,iN 0,iN 0,V.nils,V.nils,iN 0,.bool false,iN 0]);
 Cg 16 (H.next f) 0 (V.agg [iN 0,sN 0 0,.bool false,iN 0,iN 0,.bool false,.bool false,.bool false,.bool false,iN 0,iN 0,V.nils,V.nils,iN 0,.bool false,iN 0]) g λg=>
 cB (D 14 [.ptr a b,sN 1 91] g) λg h=>
 AG g (
 cA (D 15 [.ptr a b] h) λg i=>
 uG g λg j k=>
 cI (D 33 [.ptr a b] i) λi l=>
 lI E l a (AN b 7) λm=>
 Ab (λn o=>
 AG n (
 c0 (D 16 [.ptr a b,iN 12,.agg (eG g j k)] o) λg=>
 p a b c (AA d) (H.next f) 0 i g) (
 p a b c (AA d) (H.next f) 0 i o)) λg=>
 AG (Cc m (AA 0)) (
 Ab (λj k=>
 g j k) λj=>
 AG (Cw i (AA 0)) (
 j true l) (
 j (Cw (AA 268435456) i) l)) (
 g false l)) (
 q a b c (AA d) (H.next f) 0 h)))) λd=>
 AG (Cw (AA 16) c) (
 d true e) (
 lL E e a (AN (AN b 2) 4) λf=>
 d (I2 (AA 300) (AA f)) e)))
def AM9:XC:=(.z (.aD 91 0 1<|
 .k 93 Jl 34 [(.t 91),(.t 6),(.t 92)]<|
 .nil)
 (.seq (.z (.cQ 94 0 7 0<|
 .nil)
 (.cond (.tmp 98) (.z (.bV 4 0)
 .ret)
 .skip))
 (.seq (.draw (.aA 99 0 2<|
 .aO 102 4 101 .any<|
 .cK 104 5 y2 16 6<|
 .s 106 16 103 104<|
 .op none y2 [106,105] (.store 16 (.t 106) (.t 105))<|
 .nil) [0,1,3,7,15,0,0,127,255])
 (.z (.m 107 5<|
 .aC 4 107)
 .ret))))
def TY(E:EB)(D:Am)(W:AJ)(a b:Nat)(c d:Int)(e f:Nat)(U:H):AH:=
 c0 (D 34 [.ptr a b,.ptr e f,.int .i64 c] U) λg=>
 lI E g a (AN b 7) λh=>
 AG (not (Cc h (AA 0))) (
 rI (AA 0) g) (
 Ee E g a (AN (AN b 2) 4) λh=>
 Dt E g e f 16 λi=>
 uK i λi j k l m n o p q r s t u v w x=>
 Bl 16 h d λh y=>
 Cg 16 h y (V.agg (eK i j k l m n o p q r s t u v w x)) g λg=>
 rI d g)
def AM8:XC:=(.z (.m 78 0<|
 .k 79 Jl 13 [(.t 78),(.con (V.str ⟨1,93⟩))]<|
 .nil)
 (.z (.m 80 8<|
 .op (some 81) Ud [80] (.build [y1,y0,y0] [(0,1,OK),(1,1,(.t 80))])<|
 .cM 82 2 6 Ud 81 3 81<|
 .nil)
 (.z (.cN 83 0 .bool 14 y29<|
 .nil)
 (.cond (.tmp 84) (.ops (.f 85 2 6<|
 .aI 86 2 85 1 1<|
 .nil))
 (.z (.cN 87 0 .bool 14 y30<|
 .nil)
 (.cond (.tmp 88) (.ops (.f 89 2 6<|
 .aI 90 2 89 1 2<|
 .nil))
 .skip))))))
def N6(E:EB)(D:Am)(W:AJ)(j:Nat->Nat->Int->Int->Nat->Nat->H->AH)(a b:Nat)(c d:Int)(e f:Nat)(g:Int)(U:H):AH:=
 c0 (D 13 [.ptr a b,sN 1 93] U) λh=>
 Cg 3 e (AN f 2) (V.agg [.bool true,.int .i64 g,iN 0]) h λh=>
 cB (D 14 [.ptr a b,sN 8 6073459554577832005] h) λh i=>
 AG h (
 Cg 1 e (AN (AN f 2) 2) (iN 1) i λh=>
 j a b c d e f h) (
 cB (D 14 [.ptr a b,sN 8 6073459554577829193] i) λh i=>
 AG h (
 Cg 1 e (AN (AN f 2) 2) (iN 2) i λh=>
 j a b c d e f h) (
 j a b c d e f i))
def zP(E:EB)(D:Am)(W:AJ)(N:Nat):=TY E D W
def AKi:=N6 E D W (zP E D W N )
def F17(d:List V)(U:H):AH:=
 uI d λa b c=>
 PJ E D W (zP E D W N ) (AKi E D W N ) a b c U
def A17:Dg:=⟨108,[.ptr,.i],[(.tmp 4)],(ANA AM9 AM8)⟩
theorem ALi b U:Bt E D W N A17 b U=F17 E D W N b U:=by kernel_rfl
def ZA:List (Nat × DN):=[(0,.str),(1,.i)]
def T1(E:EB):St->AH:=λs=>Dy E s [(.tmp 4)] λl=>some (Ek l,s.U)
def AIR(c0:XC):Nat->St->AH:=CQ 0 (dX E D W N (.keep [(1,.i)] [] [] c0) (T1 E) nX (T1 E)) nX
def AO7(c0:XC)(a:St->AH):Nat->St->AH:=CQ 3 (kX ZA [] [] a) (CQ 2 (kX ZA [] [] a) (CQ 1 (kX ZA [] [] a) (AIR E D W N c0)))
def AAF(b:XC)(a:XC):XC:=(.z (.bV 4 0)
 (.seq (.block 0 (.loop ZA [] [] a))
 (.keep [(1,.i)] [] [] b)))
def AIx(E:EB)(D:Am)(W:AJ)(c:BS->Int->H->AH)(a:BS)(b:Int)(U:H):AH:=
 c a b U
def UT:XC:=(.z (.m 74 1<|
 .aC 4 74)
 .ret)
def qC(E:EB)(D:Am)(W:AJ)(a:Int)(U:H):AH:=
 rI a U
def iU(a:XC):XC:=(.seq (.z (.cA 5 1 0<|
 .aS 8 5 7)
 (.cond (.tmp 8) .skip
 QU))
 (.block 1 (.block 2 (.z (.bL 11 0 1<|
 .b 14 .eql .none (.t 13) (.con (V.int .u8 (AA 32)))<|
 .m 15 14<|
 .gO 15 false (.p 16 [0,15] y6<|
 .bN 17 1 15 M9 16 15 16<|
 .bM 19 18 15 18 9) 20 15 19<|
 .m 21 20<|
 .gO 21 false (.p 22 [0,21] y6<|
 .bN 23 1 21 M9 22 21 22<|
 .cO 25 24 21 24 y42) 26 21 25<|
 .m 27 26<|
 .gO 27 false (.p 28 [0,27] y6<|
 .bN 29 1 27 M9 28 27 28<|
 .bM 31 30 27 30 13) 32 27 31<|
 .aC 10 32)
 (.cond (.tmp 10) (.ops (.aK 33 1 1<|
 .aC 1 34))
 (.z (.bL 36 0 1<|
 .b 39 .eql .none (.t 38) Yx<|
 .m 40 39<|
 .gA 40 true (.p 41 [0,40] y6<|
 .p 42 [1,40] M9<|
 .bT 43 42 40 42 1 41 40 42 41<|
 .cO 45 44 40 44 Yx) 46 40 45<|
 .aC 35 46)
 (.cond (.tmp 35) (.z (.aK 47 1 2<|
 .aC 1 48)
 (.block 3 (.loop ZA [] [] a)))
 (.z (.m 9 1<|
 .m 4 9<|
 .nil)
 .ret))))))))
def Ru(E:EB)(D:Am)(W:AJ)(l:Int->H->AH)(m:BS->Int->H->AH)(n:BS->Int->H->AH)(a:BS)(b:Int)(U:H):AH:=
 AG (Cw b (AA (BS.len a))) (
 Az a b λc=>
 Ab (λd e=>
 Ab (λf g=>
 Ab (λh i=>
 AG h (
 n a (BP .i64 b (AA 1)) i) (
 Az a b λh=>
 Ab (λj k=>
 AG j (
 m a (BP .i64 b (AA 2)) k) (
 rI b k)) λj=>
 AG (Cc h (AA 45)) (
 BT (D 42 [.str a,.int .i64 (BP .i64 b (AA 1))] i) λh k=>
 BZ .u8 h λh=>
 j (Cc h (AA 45)) k) (
 j false i))) λh=>
 AG f (
 h true g) (
 Az a b λf=>
 h (Cc f (AA 13)) g)) λf=>
 AG d (
 f true e) (
 Az a b λd=>
 f (Cc d (AA 10)) e)) λd=>
 AG (Cc c (AA 32)) (
 d true U) (
 Az a b λc=>
 d (Cc c (AA 9)) U)) (
 l b U)
def US:XC:=(.seq (.z (.cA 49 1 0<|
 .b 52 .lss .none (.t 49) (.t 51)<|
 .m 53 52<|
 .gA 53 true (.p 54 [0,53] y6<|
 .bN 55 1 53 M9 54 53 54<|
 .p 57 [56,53] (.bin .neq .none (.t 56) y42)<|
 .nil) 58 53 57<|
 .nil)
 (.cond (.tmp 58) .skip
 (.exit 3)))
 (.block 4 (.seq (.z (.bL 59 0 1<|
 .b 62 .eql .none (.t 61) Yx<|
 .m 63 62<|
 .gA 63 true (.p 64 [0,63] y6<|
 .p 65 [1,63] M9<|
 .bT 66 65 63 65 1 64 63 42 64<|
 .cO 68 67 63 67 Yx) 69 63 68<|
 .nil)
 (.cond (.tmp 69) (.z (.aK 70 1 2<|
 .aC 1 71)
 (.exit 3))
 .skip))
 (.ops (.aK 72 1 1<|
 .aC 1 73)))))
def Lt(E:EB)(D:Am)(W:AJ)(g:BS->Int->H->AH)(h:BS->Int->H->AH)(a:BS)(b:Int)(U:H):AH:=
 Ab (λc d=>
 AG c (
 Az a b λc=>
 Ab (λe f=>
 AG e (
 g a (BP .i64 b (AA 2)) f) (
 h a (BP .i64 b (AA 1)) f)) λe=>
 AG (Cc c (AA 45)) (
 BT (D 42 [.str a,.int .i64 (BP .i64 b (AA 1))] d) λc f=>
 BZ .u8 c λc=>
 e (Cc c (AA 45)) f) (
 e false d)) (
 g a b d)) λc=>
 AG (Cw b (AA (BS.len a))) (
 Az a b λd=>
 c (not (Cc d (AA 10))) U) (
 c false U)
def fN(a:BS)(b:Int)(U:H):St:=⟨[(0,.str a),(1,.int .i64 b)],[],[],U⟩
def sX(E:EB)(D:Am)(W:AJ)(N:Nat):=qC E D W
def Tl(E:EB)(D:Am)(W:AJ)(N:Nat)(b:BS->Int->H->AH)(n:Nat):BS->Int->H->AH:=
 Nat.rec (λ_ _ _=>none) (λ_ a=>Lt E D W b a) n
theorem ACm li2 n:
 (λa b U=>Bw (λh j=>A0 E D W N US j (kX ZA [] [] h) (AO7 E D W N UT li2) (T1 E)) n (fN a b U))=Tl E D W N (λa b U=>li2 (fN a b U)) n:=lp3 (λ_=>by generalize UT=i;revert i;refine id ?_;intros;kernel_rfl) n
def PR(n:Nat):BS->Int->H->AH:=
 Nat.rec (λ_ _ _=>none) (λ_ a=>Ru E D W (sX E D W N ) (Tl E D W N a N) a) n
theorem ACn n:
 (λa b U=>Bw (λh j=>A0 E D W N (iU US) j (kX ZA [] [] h) (AIR E D W N UT) (T1 E)) n (fN a b U))=PR E D W N n:=lp3 (λli=>by rw[<-ACm];generalize US=i;revert i;refine id ?_;intros;kernel_rfl) n
def sY:=AIx E D W (PR E D W N N)
theorem ADm:
 (λa b U=>A0 E D W N (AAF UT (iU US)) (fN a b U) (T1 E) nX (T1 E))=sY E D W N:=by
 unfold sY;rw[<-ACn];generalize iU US=i,UT=j;revert i j;refine id ?_;intros;kernel_rfl
def F22(c:List V)(U:H):AH:=
 uD c λa b=>
 sY E D W N a b U
def A22:Dg:=⟨75,[.str,.i],[(.tmp 4)],(AAF UT (iU US))⟩
theorem ALh b U:Bt E D W N A22 b U=F22 E D W N b U:=by
 unfold F22;rw[<-ADm];kernel_rfl
def AHS:List (Nat × List DN):=[(4,[.i,.str,.i]),(6,[.i,.str,.i])]
def AM0(b:XC)(a:XC):XC:=(.z (.pal 4 [] 38 [y0,y3,y0]<|
 .bV 5 0)
 (.z (.m 10 1<|
 .op (some 11) y4 [10] (.build [y0,y3,y0] [(2,1,(.t 10))])<|
 .pal 6 [] 38 [y0,y3,y0]<|
 .op none y4 [6,11] (.store 3 (.t 6) (.t 11))<|
 .nil)
 (.z (.bL 12 0 1<|
 .m 7 14<|
 .nil)
 (.z (.aH 8 Z4)
 (.seq (.block 0 (.z (.cD 32 7 .bool 43<|
 .m 31 33<|
 .nil)
 (.cond (.tmp 31) (.z (.aD 34 0 1<|
 .k 36 .i 44 [(.t 34),(.t 35)]<|
 .aC 8 36)
 (.seq (.z (.m 37 8<|
 .b 38 .lss .none (.t 37) (.i 0)<|
 .nil)
 (.cond (.tmp 38) (.z (.aQ 39 y4 3 6 y4 4 3 4<|
 .aH 5 Z4)
 .ret)
 .skip))
 (.seq (.draw (.cP 40 0 1 8<|
 .p 43 [40,41,42] (.sliceStr (.t 40) (some (.t 41)) (some (.t 42)))<|
 .aI 44 0 6 1 2<|
 .aT 45 1 6 1 43) [0,0,0,7,0,16,63,127])
 (.seq (.z (.m 46 7<|
 .b 47 .leq .none (.t 46) y64<|
 .nil)
 (.cond (.tmp 47) (.ops (.aI 48 0 6 1 1<|
 .nil))
 .skip))
 (.keep [(8,.i)] [4,6] AHS a)))))
 (.z (.cD 54 7 .bool 46<|
 .m 56 55<|
 .gO 56 false (.p 57 [7,56] (.mov (.t 7))<|
 .p 58 [57,56] (.bin .eql .none (.t 57) Yx)<|
 .p 59 [58,56] (.mov (.t 58))<|
 .grp 59 true (.p 60 [0,59] y6<|
 .p 61 [1,59] M9<|
 .bT 62 61 59 61 1 60 59 42 60<|
 .op (some 64) .bool [63,59] (.call 46 [(.t 63)])<|
 .nil) 65 [59,64,56] (.t 59) (.t 64) WV<|
 .nil) 66 56 65<|
 .aC 53 66)
 (.cond (.tmp 53) (.z (.aD 67 0 1<|
 .k 69 .i 47 [(.t 67),(.t 68)]<|
 .aC 8 69)
 (.seq (.z (.m 70 8<|
 .b 71 .lss .none (.t 70) (.i 0)<|
 .nil)
 (.cond (.tmp 71) (.z (.aQ 72 y4 3 6 y4 4 3 4<|
 .aH 5 Z4)
 .ret)
 .skip))
 (.draw (.cP 73 0 1 8<|
 .p 76 [73,74,75] (.sliceStr (.t 73) (some (.t 74)) (some (.t 75)))<|
 .aI 77 0 6 1 3<|
 .aT 78 1 6 1 76) [0,0,0,7,0,16,63,127])))
 (.z (.m 80 7<|
 .b 81 .eql .none (.t 80) (.con (V.int .u8 (AA 39)))<|
 .m 79 81<|
 .nil)
 (.cond (.tmp 79) (.z (.aI 82 0 6 1 4<|
 .nil)
 (.ops (.aD 84 0 1<|
 .k 86 xV 48 [(.t 84),(.t 85)]<|
 .m 83 86<|
 .aB 87 0 83 1 83<|
 .m 8 87<|
 .aT 89 1 6 1 88)))
 (.z (.m 91 7<|
 .aR 92 91 y43 90)
 (.cond (.tmp 90) (.z (.aI 93 0 6 1 7<|
 .nil)
 (.ops (.aD 95 0 1<|
 .k 97 xV 49 [(.t 95),(.t 96)]<|
 .m 94 97<|
 .aB 98 0 94 1 94<|
 .m 8 98<|
 .aT 100 1 6 1 99)))
 (.z (.aD 15 0 1<|
 .k 17 .i 50 [(.t 15),(.t 16)]<|
 .m 9 17<|
 .nil)
 (.z (.m 18 9<|
 .b 19 .gtr .none (.t 18) (.i 0)<|
 .nil)
 (.cond (.tmp 19) (.draw (.aD 20 0 1<|
 .aD 22 1 9<|
 .b 24 .add .none (.t 22) (.t 23)<|
 .p 25 [20,21,24] (.sliceStr (.t 20) (some (.t 21)) (some (.t 24)))<|
 .aD 26 1 9<|
 .b 28 .add .none (.t 26) (.t 27)<|
 .aI 29 0 6 1 6<|
 .f 30 1 6<|
 .w 1 30 25<|
 .aC 8 28) [0,0,0,0,12,31,0,0,192,0,512,1599,3647,8191])
 .skip))))))))))))
 (.keep [(8,.i)] [4,6] AHS b))))))
def HF(E:EB)(D:Am)(W:AJ)(j:Int->Int->BS->Int->Int->BS->Int->H->AH)(k:Int->Int->BS->Int->Int->BS->Int->H->AH)(a:BS)(b:Int)(U:H):AH:=
 Az a b λc=>
 cB (D 43 [.int .u8 c] U) λd e=>
 AG d (
 cI (D 44 [.str a,.int .i64 b] e) λd f=>
 AG (Cw d (AA 0)) (
 some ((V.tup [.agg [iN 0,sN 0 0,.int .i64 b],.int .i64 (Bh 0)]),f)) (
 BA a (some (V.int .i64 b)) (some (V.int .i64 d)) λg=>
 AG (I2 c (AA 90)) (
 k d (AA 0) (BS.mk 0 0) (AA 0) (AA 1) g b f) (
 k d (AA 0) (BS.mk 0 0) (AA 0) (AA 2) g b f))) (
 cB (D 46 [.int .u8 c] e) λd e=>
 Ab (λf g=>
 AG f (
 cI (D 47 [.str a,.int .i64 b] g) λf h=>
 AG (Cw f (AA 0)) (
 some ((V.tup [.agg [iN 0,sN 0 0,.int .i64 b],.int .i64 (Bh 0)]),h)) (
 BA a (some (V.int .i64 b)) (some (V.int .i64 f)) λi=>
 j f (AA 0) (BS.mk 0 0) (AA 0) (AA 3) i b h)) (
 AG (Cc c (AA 39)) (
 cT (D 48 [.str a,.int .i64 b] g) λf h=>
 uH f λf i=>
 j f (AA 0) (BS.mk 0 0) (AA 0) (AA 4) i b h) (
 AG (Cc c (AA 34)) (
 cT (D 49 [.str a,.int .i64 b] g) λf h=>
 uH f λf i=>
 j f (AA 0) (BS.mk 0 0) (AA 0) (AA 7) i b h) (
 cI (D 50 [.str a,.int .i64 b] g) λf g=>
 AG (Cw (AA 0) f) (
 BA a (some (V.int .i64 b)) (some (V.int .i64 (BP .i64 b f))) λh=>
 j (BP .i64 b f) (AA 0) (BS.mk 0 0) (AA 0) (AA 6) h b g) (
 j (Bh 0) (AA 0) (BS.mk 0 0) (AA 0) (AA 0) (BS.mk 0 0) b g))))) λf=>
 AG d (
 f true e) (
 Ab (λd g=>
 f d g) λd=>
 AG (Cc c (AA 45)) (
 BT (D 42 [.str a,.int .i64 (BP .i64 b (AA 1))] e) λc f=>
 BZ .u8 c λc=>
 cB (D 46 [.int .u8 c] f) λc f=>
 d c f) (
 d false e)))
def AMz:XC:=(.z (.O 101 y4 (.load (some 3) (.t 6))<|
 .m 102 8<|
 .op none y4 [4,101] (.store 3 (.t 4) (.t 101))<|
 .aC 5 102)
 .ret)
def JT(E:EB)(D:Am)(W:AJ)(a b:Int)(c:BS)(d e:Int)(f:BS)(g:Int)(U:H):AH:=
 some ((V.tup [.agg (eG e f g),.int .i64 a]),U)
def AMy:XC:=(.z (.aO 49 1 6 .str<|
 .k 51 .bool 45 [(.t 50)]<|
 .nil)
 (.cond (.tmp 51) (.ops (.aI 52 0 6 1 5<|
 .nil))
 .skip))
def qB(E:EB)(D:Am)(W:AJ)(j:Int->Int->BS->Int->Int->BS->Int->H->AH)(a b:Int)(c:BS)(d e:Int)(f:BS)(g:Int)(U:H):AH:=
 cB (D 45 [.str f] U) λh i=>
 AG h (
 j a b c d (AA 5) f g i) (
 j a b c d e f g i)
def sW(E:EB)(D:Am)(W:AJ)(N:Nat):=JT E D W
def Ts:=qB E D W (sW E D W N )
def F23(c:List V)(U:H):AH:=
 uD c λa b=>
 HF E D W (sW E D W N ) (Ts E D W N ) a b U
def A23:Dg:=⟨103,[.str,.i],[(.cell 4 (some 3)),(.tmp 5)],(AM0 AMz AMy)⟩
theorem ALg b U:Bt E D W N A23 b U=F23 E D W N b U:=by kernel_rfl
def Pb(E:EB):St->AH:=λs=>Dy E s [] λl=>some (Ek l,s.U)
def AO6(c0:XC)(a:St->AH):Nat->St->AH:=CQ 3 (dX E D W N (.keep [(0,.ptr)] [] [] c0) (kX [(0,.ptr)] [] [] a) (CQ 2 (kX [(0,.ptr)] [] [] a) (CQ 1 (kX [(0,.ptr)] [] [] a) (CQ 0 (Pb E) nX))) (Pb E)) (CQ 2 (kX [(0,.ptr)] [] [] a) (CQ 1 (kX [(0,.ptr)] [] [] a) (CQ 0 (Pb E) nX)))
def AAE(a:XC):XC:=(.block 0 (.loop [(0,.ptr)] [] [] a))
def AIw(E:EB)(D:Am)(W:AJ)(c:Nat->Nat->H->AH)(a b:Nat)(U:H):AH:=
 c a b U
def iT(a:XC)(b:XC):XC:=(.seq (.seq (.draw (.aX 3 0 1 .i<|
 .aX 7 0 0 .str<|
 .P 11 (.len true (.t 10))<|
 .aS 12 6 11) [0,1,3,7,0,16,48,112,240,511])
 y77)
 (.block 1 (.z (.m 13 0<|
 .k 14 (.int .u8) 51 [(.t 13),(.i 0)]<|
 .aC 2 14)
 (.block 2 (.z (.m 16 2<|
 .b 17 .eql .none (.t 16) (.con (V.int .u8 (AA 32)))<|
 .m 18 17<|
 .gO 18 false (.p 19 [2,18] (.mov (.t 2))<|
 .bM 20 19 18 19 9) 21 18 20<|
 .m 22 21<|
 .gO 22 false (.p 23 [2,22] (.mov (.t 2))<|
 .cO 24 23 22 23 y42) 25 22 24<|
 .m 26 25<|
 .gO 26 false (.p 27 [2,26] (.mov (.t 2))<|
 .bM 28 27 26 27 13) 29 26 28<|
 .aC 15 29)
 (.cond (.tmp 15) (.ops (.cH 30 0 1 1<|
 .aT 36 1 35 1 34))
 (.z (.m 38 0<|
 .k 39 .bool 52 [(.t 38),(.con (V.str ⟨2,11565⟩))]<|
 .m 37 39<|
 .nil)
 (.cond (.tmp 37) (.z (.cH 40 0 1 2<|
 .aT 46 1 45 1 44)
 (.seq (.block 3 (.loop [(0,.ptr)] [] [] b))
 (.keep [(0,.ptr)] [] [] a)))
 .ret))))))))
def Ls(E:EB)(D:Am)(W:AJ)(k:Nat->Nat->H->AH)(l:Nat->Nat->H->AH)(a b:Nat)(U:H):AH:=
 lI E U a (AN b 1) λc=>
 lS E U a b λd=>
 AG (Cw c (AA (BS.len d))) (
 BT (D 51 [.ptr a b,iN 0] U) λc d=>
 BZ .u8 c λc=>
 Ab (λe f=>
 Ab (λg h=>
 Ab (λi j=>
 AG i (
 lI E j a (AN b 1) λi=>
 Cg 1 a (AN b 1) (V.int .i64 (BP .i64 i (AA 1))) j λi=>
 l a b i) (
 cB (D 52 [.ptr a b,sN 2 11565] j) λi j=>
 AG i (
 lI E j a (AN b 1) λi=>
 Cg 1 a (AN b 1) (V.int .i64 (BP .i64 i (AA 2))) j λi=>
 k a b i) (
 r0 j))) λi=>
 AG g (
 i true h) (
 i (Cc c (AA 13)) h)) λg=>
 AG e (
 g true f) (
 g (Cc c (AA 10)) f)) λe=>
 AG (Cc c (AA 32)) (
 e true d) (
 e (Cc c (AA 9)) d)) (
 r0 U)
def UR:XC:=(.z (.m 74 0<|
 .k 75 .bool 52 [(.t 74),(.con (V.str ⟨2,11565⟩))]<|
 .nil)
 (.cond (.tmp 75) (.ops (.cH 76 0 1 2<|
 .aT 82 1 81 1 80))
 .skip))
def Rt(E:EB)(D:Am)(W:AJ)(e:Nat->Nat->H->AH)(a b:Nat)(U:H):AH:=
 cB (D 52 [.ptr a b,sN 2 11565] U) λc d=>
 AG c (
 lI E d a (AN b 1) λc=>
 Cg 1 a (AN b 1) (V.int .i64 (BP .i64 c (AA 2))) d λc=>
 e a b c) (
 e a b d)
def UQ:XC:=(.seq (.seq (.draw (.aX 47 0 1 .i<|
 .aX 51 0 0 .str<|
 .P 55 (.len true (.t 54))<|
 .b 56 .lss .none (.t 50) (.t 55)<|
 .m 57 56<|
 .gA 57 true (.p 58 [0,57] y6<|
 .op (some 59) (.int .u8) [58,57] (.call 51 [(.t 58),(.i 0)])<|
 .p 60 [59,57] (.bin .neq .none (.t 59) y42)<|
 .nil) 61 57 60<|
 .m 62 61<|
 .gA 62 true (.p 63 [0,62] y6<|
 .op (some 64) .bool [63,62] (.call 52 [(.t 63),(.con (V.str ⟨2,11565⟩))])<|
 .cG 65 64 62 64) 66 62 65<|
 .nil) [0,1,3,7,0,16,48,112,240,511,1023,2047,4095,8191,16383,32767,65535,131071,262143,524287])
 (.cond (.tmp 66) .skip
 (.exit 3)))
 (.block 4 (.ops (.cH 67 0 1 1<|
 .aT 73 1 72 1 71))))
def Lr(E:EB)(D:Am)(W:AJ)(i:Nat->Nat->H->AH)(j:Nat->Nat->H->AH)(a b:Nat)(U:H):AH:=
 lI E U a (AN b 1) λc=>
 lS E U a b λd=>
 Ab (λe f=>
 Ab (λg h=>
 AG g (
 lI E h a (AN b 1) λg=>
 Cg 1 a (AN b 1) (V.int .i64 (BP .i64 g (AA 1))) h λg=>
 j a b g) (
 i a b h)) λg=>
 AG e (
 cB (D 52 [.ptr a b,sN 2 11565] f) λe h=>
 g (not e) h) (
 g false f)) λe=>
 AG (Cw c (AA (BS.len d))) (
 BT (D 51 [.ptr a b,iN 0] U) λc d=>
 BZ .u8 c λc=>
 e (not (Cc c (AA 10))) d) (
 e false U)
def fM(a b:Nat)(U:H):St:=⟨[(0,.ptr a b)],[],[],U⟩
def sU(E:EB)(D:Am)(W:AJ)(N:Nat)(a:Nat->Nat->H->AH):=Rt E D W a
def Tj(a:Nat->Nat->H->AH)(n:Nat):Nat->Nat->H->AH:=
 Nat.rec (λ_ _ _=>none) (λ_ b=>Lr E D W (sU E D W N a) b) n
theorem ACk d n:
 (λa b U=>Bw (λe f=>A0 E D W N UQ f (kX [(0,.ptr)] [] [] e) (AO6 E D W N UR d) (Pb E)) n (fM a b U))=Tj E D W N (λa b U=>d (fM a b U)) n:=lp3 (λ_=>by kernel_rfl) n
def PQ(n:Nat):Nat->Nat->H->AH:=
 Nat.rec (λ_ _ _=>none) (λ_ a=>Ls E D W (Tj E D W N a N) a) n
theorem ACl n:
 (λa b U=>Bw (λh i=>A0 E D W N (iT UR UQ) i (kX [(0,.ptr)] [] [] h) (CQ 0 (Pb E) nX) (Pb E)) n (fM a b U))=PQ E D W N n:=lp3 (λli=>by rw[<-ACk];generalize UR=j,UQ=k;revert j k;refine id ?_;intros;kernel_rfl) n
def sV:=AIw E D W (PQ E D W N N)
theorem ADl:
 (λa b U=>A0 E D W N (AAE (iT UR UQ)) (fM a b U) (Pb E) nX (Pb E))=sV E D W N:=by
 unfold sV;rw[<-ACl];generalize iT UR UQ=i;revert i;refine id ?_;intros;kernel_rfl
def F24(d:List V)(U:H):AH:=
 Aj d λa b=>
 CM a λa c=>
 BD b (
 sV E D W N a c U)
def A24:Dg:=⟨83,[.ptr],[],(AAE (iT UR UQ))⟩
theorem ALf b U:Bt E D W N A24 b U=F24 E D W N b U:=by
 unfold F24;rw[<-ADl];kernel_rfl
def AMx:XC:=(.z (.q 2 0<|
 .aH 3 y3)
 (.seq (.z (.bX 5 0 0 51 0<|
 .m 4 8<|
 .nil)
 (.block 0 (.z (.cD 10 4 .bool 53<|
 .m 9 11<|
 .nil)
 (.cond (.tmp 9) (.z (.bP 12 0 xV 54<|
 .aB 14 0 13 1 13<|
 .m 2 14<|
 .aC 3 15)
 .ret)
 (.z (.cD 17 4 .bool 55<|
 .m 19 18<|
 .gO 19 false (.p 20 [4,19] (.mov (.t 4))<|
 .p 21 [20,19] (.bin .eql .none (.t 20) Yx)<|
 .p 22 [21,19] (.mov (.t 21))<|
 .grp 22 true (.p 23 [0,22] y6<|
 .bI 24 23 22 23 22 0<|
 .op (some 26) (.int .u8) [25,22] (.call 51 [(.t 25),(.i 1)])<|
 .op (some 27) .bool [26,22] (.call 55 [(.t 26)])<|
 .nil) 28 [22,27,19] (.t 22) (.t 27) WV<|
 .nil) 29 19 28<|
 .aC 16 29)
 (.cond (.tmp 16) (.z (.bP 30 0 xV 56<|
 .aB 32 0 31 1 31<|
 .m 2 32<|
 .aC 3 33)
 .ret)
 (.z (.m 35 4<|
 .b 36 .eql .none (.t 35) (.con (V.int .u8 (AA 39)))<|
 .m 34 36<|
 .nil)
 (.cond (.tmp 34) (.z (.bP 37 0 xV 57<|
 .aB 39 0 38 1 38<|
 .m 2 39<|
 .aC 3 40)
 .ret)
 (.z (.m 42 4<|
 .aR 43 42 y43 41)
 (.cond (.tmp 41) (.z (.bP 44 0 xV 58<|
 .aB 46 0 45 1 45<|
 .m 2 46<|
 .aC 3 47)
 .ret)
 .skip))))))))))
 (.z (.bP 48 0 xV 59<|
 .aB 50 0 49 1 49<|
 .m 2 50<|
 .aC 3 51)
 .ret)))
def Rq(E:EB)(D:Am)(W:AJ)(a b:Nat)(U:H):AH:=
 BT (D 51 [.ptr a b,iN 0] U) λc d=>
 BZ .u8 c λc=>
 cB (D 53 [.int .u8 c] d) λd e=>
 AG d (
 cT (D 54 [.ptr a b] e) λd f=>
 uH d λd g=>
 some ((V.tup [.int .i64 d,.str g]),f)) (
 cB (D 55 [.int .u8 c] e) λd e=>
 Ab (λf g=>
 AG f (
 cT (D 56 [.ptr a b] g) λf h=>
 uH f λf i=>
 some ((V.tup [.int .i64 f,.str i]),h)) (
 AG (Cc c (AA 39)) (
 cT (D 57 [.ptr a b] g) λf h=>
 uH f λf i=>
 some ((V.tup [.int .i64 f,.str i]),h)) (
 AG (Cc c (AA 34)) (
 cT (D 58 [.ptr a b] g) λf h=>
 uH f λf i=>
 some ((V.tup [.int .i64 f,.str i]),h)) (
 cT (D 59 [.ptr a b] g) λf g=>
 uH f λf h=>
 some ((V.tup [.int .i64 f,.str h]),g))))) λf=>
 AG d (
 f true e) (
 Ab (λd g=>
 f d g) λd=>
 AG (Cc c (AA 45)) (
 BT (D 51 [.ptr a b,iN 1] e) λc f=>
 BZ .u8 c λc=>
 cB (D 55 [.int .u8 c] f) λc f=>
 d c f) (
 d false e)))
def F25(N:Nat)(d:List V)(U:H):AH:=
 Aj d λa b=>
 CM a λa c=>
 BD b (
 Rq E D W a c U)
def A25:Dg:=⟨52,[.ptr],[(.tmp 2),(.tmp 3)],AMx⟩
theorem ALe b U:Bt E D W N A25 b U=F25 E D W N b U:=by kernel_rfl
def Tz:List Bf:=[⟨(some 15),.load (some 3) (.tmp 6),none⟩,⟨(some 16),.mov (.tmp 0),none⟩,⟨(some 17),.faddr 2 (.tmp 6),none⟩,⟨(some 18),.load none (.tmp 17),none⟩,⟨(some 19),.call 60 [(.tmp 16),(.tmp 18),(.con (V.int .i64 (AA 7)))],none⟩,⟨none,.store 3 (.tmp 4) (.tmp 15),none⟩,⟨(some 5),.mov (.tmp 19),none⟩]
def YR:List DP:=[⟨0,[6]⟩,⟨0,[0]⟩,⟨0,[6]⟩,⟨4,[17]⟩,⟨14,[16,18]⟩,⟨31,[4,15]⟩,⟨63,[19]⟩]
def AMw:XC:=(.z (.p 4 [] y74<|
 .aH 5 y1)
 (.z (.aA 7 0 0<|
 .k 10 y4 29 [(.t 9)]<|
 .p 6 [] y74<|
 .op none y4 [6,10] (.store 3 (.t 6) (.t 10))<|
 .nil)
 (.seq (.z (.aO 11 0 6 .i<|
 .m 13 1<|
 .b 14 .neq .none (.t 12) (.t 13)<|
 .nil)
 (.cond (.tmp 14) (.seq (.keep [(0,.ptr),(4,.ptr),(6,.ptr)] [] [] (.gdraw Tz YR [(4,.ptr),(5,.bool)]))
 .ret)
 .skip))
 (.z (.aA 20 0 0<|
 .k 23 y4 61 [(.t 22)]<|
 .op none y4 [4,23] (.store 3 (.t 4) (.t 23))<|
 .aH 5 y9)
 .ret))))
def Xq(a b:Nat)(c:Int)(U:H):AH:=
 let d:=B9 U (.cells [iN 0,.str ⟨0,0⟩,iN 0]);
 cA (D 29 [.ptr a b] d) λd e=>
 uG d λd f g=>
 let h:=B9 e (.cells [iN 0,.str ⟨0,0⟩,iN 0]);
 Cg 3 (H.next e) 0 (V.agg (eG d f g)) h λd=>
 lI E d (H.next e) 0 λf=>
 AG (not (Cc f c)) (
 DZ (W Tz YR [(0,.ptr a b),(4,.ptr (H.next U) 0),(6,.ptr (H.next e) 0)] d) λe f=>
 EO e 4 λg=>
 CM g λg h=>
 EO e 5 λe=>
 CN e λe=>
 Dt E f g h 3 λg=>
 some ((V.tup [.agg g,.bool e]),f)) (
 cA (D 61 [.ptr a b] d) λd e=>
 uG d λd f g=>
 Cg 3 (H.next U) 0 (V.agg (eG d f g)) e λd=>
 Dt E d (H.next U) 0 3 λe=>
 some ((V.tup [.agg e,.bool true]),d))
def F26(N:Nat)(d:List V)(U:H):AH:=
 uI d λa b c=>
 Xq E D W a b c U
def A26:Dg:=⟨24,[.ptr,.i],[(.cell 4 (some 3)),(.tmp 5)],AMw⟩
theorem ALd b U:Bt E D W N A26 b U=F26 E D W N b U:=by kernel_rfl
def AHR:List (Nat × DN):=[(0,.ptr),(7,.any),(8,.i),(9,.i)]
def Yi(E:EB):St->AH:=λs=>Dy E s [(.tmp 4)] λl=>some (Ek l,s.U)
def AO5(c0:XC):Nat->St->AH:=CQ 0 (dX E D W N (.keep [] [] [] c0) (Yi E) nX (Yi E)) nX
def AAD(b:XC)(a:XC):XC:=(.z (.aH 4 y1)
 (.seq (.z (.m 7 1<|
 .u 8 7<|
 .bV 9 0)
 (.block 0 (.loop AHR [] [] a)))
 (.keep [] [] [] b)))
def fD(E:EB)(D:Am)(W:AJ)(e:Nat->Nat->V->Int->Int->H->AH)(a b:Nat)(c:V)(U:H):AH:=
 BV c λd=>
 e a b c (AA d) (AA 0) U
def iS:XC:=(.z (.aH 4 y9)
 .ret)
def AIv(E:EB)(D:Am)(W:AJ)(U:H):AH:=
 rB true U
def iR:XC:=(.z (.aS 10 9 8)
 (.seq (.cond (.tmp 10) .skip
 QU)
 (.seq (.block 1 (.z (.s 11 1 7 9<|
 .l 12 .str 11<|
 .m 6 12<|
 .nil)
 (.z (.aA 13 0 0<|
 .m 16 6<|
 .k 17 .bool 62 [(.t 15),(.t 16)]<|
 .aL 18 17)
 (.cond (.tmp 18) (.z (.m 19 0<|
 .aA 20 0 0<|
 .k 23 y4 29 [(.t 22)]<|
 .O 24 .i (.field 2 none (.t 23))<|
 .k 25 .bool 60 [(.t 19),(.t 24),(.i 7)]<|
 .aC 4 25)
 .ret)
 .skip))))
 (.ops (.b 26 .add .none (.t 9) (.i 1)<|
 .aC 9 26)))))
def N5(E:EB)(D:Am)(W:AJ)(k:H->AH)(l:Nat->Nat->V->Int->Int->H->AH)(a b:Nat)(c:V)(d e:Int)(U:H):AH:=
 AG (Cw e d) (
 Bl 1 c e λf g=>
 lS E U f g λf=>
 cB (D 62 [.ptr a b,.str f] U) λf g=>
 AG (not f) (
 cA (D 29 [.ptr a b] g) λf h=>
 uG f λf i j=>
 cB (D 60 [.ptr a b,.int .i64 j,iN 7] h) λf h=>
 rB f h) (
 l a b c d (BP .i64 e (AA 1)) g)) (
 k U)
def AJj(a b:Nat)(c:V)(U:H):St:=⟨[(0,.ptr a b),(1,c)],[],[],U⟩
def AJi(a b:Nat)(c:V)(d e:Int)(U:H):St:=⟨[(0,.ptr a b),(7,c),(8,.int .i64 d),(9,.int .i64 e)],[],[],U⟩
def sS(E:EB)(D:Am)(W:AJ)(N:Nat):=AIv E D W
def YH(n:Nat):Nat->Nat->V->Int->Int->H->AH:=
 Nat.rec (λ_ _ _ _ _ _=>none) (λ_ a=>N5 E D W (sS E D W N ) a) n
theorem ACj n:
 (λa b c d e U=>Bw (λg h=>A0 E D W N iR h (kX AHR [] [] g) (AO5 E D W N iS) (Yi E)) n (AJi a b c d e U))=YH E D W N n:=yQ (λ_=>by kernel_rfl) n
def sT:=fD E D W (YH E D W N N)
theorem ADk:
 (λa b c U=>A0 E D W N (AAD iS iR) (AJj a b c U) (Yi E) nX (Yi E))=sT E D W N:=by
 unfold sT;rw[<-ACj];generalize iS=j,iR=k;revert j k;refine id ?_;intros;kernel_rfl
def F27(d:List V)(U:H):AH:=
 uP d λa b c=>
 sT E D W N a b c U
def A27:Dg:=⟨27,[.ptr,.any],[(.tmp 4)],(AAD iS iR)⟩
theorem ALc b U:Bt E D W N A27 b U=F27 E D W N b U:=by
 unfold F27;rw[<-ADk];kernel_rfl
def AMv:XC:=(.z (.aH 4 y1)
 (.z (.bP 6 0 y4 29<|
 .pal 5 [] 38 [y0,y3,y0]<|
 .op none y4 [5,7] (.store 3 (.t 5) (.t 7))<|
 .nil)
 (.z (.aO 8 0 5 .i<|
 .cF 10 9 5<|
 .gO 11 false (.aF 12 5 11 0 5 11<|
 .cJ 14 13 11 13 6) 15 11 14<|
 .m 16 15<|
 .gA 16 true (.p 17 [5,16] (.faddr 1 (.t 5))<|
 .op (some 18) .str [17,16] (.load none (.t 17))<|
 .p 19 [1,16] M9<|
 .bC 20 18 19 16 18 19) 21 16 20<|
 .aC 4 21)
 .ret)))
def qA(E:EB)(D:Am)(W:AJ)(a:V)(b:BS)(U:H):AH:=
 cA (D 29 [a] U) λc d=>
 uG c λc e f=>
 Ab (λf g=>
 Ab (λh i=>
 rB h i) λh=>
 AG f (
 h (BS.beq e b) g) (
 h false g)) λe=>
 AG (Cc c (AA 5)) (
 e true d) (
 e (Cc c (AA 6)) d)
def F28(N:Nat)(c:List V)(U:H):AH:=
 uQ c λa b=>
 qA E D W a b U
def A28:Dg:=⟨22,[.any,.str],[(.tmp 4)],AMv⟩
theorem ALb b U:Bt E D W N A28 b U=F28 E D W N b U:=by kernel_rfl
def AMu:XC:=(.z (.pal 2 [] 38 [y0,y3,y0]<|
 .nil)
 (.seq (.draw (.aX 3 0 0 .any<|
 .aX 7 0 1 .i<|
 .s 11 3 6 10<|
 .aQ 12 y4 3 11 y4 2 3 2<|
 .nil) [0,1,3,7,0,16,48,112,255,511,1023])
 .ret))
def px(E:EB)(D:Am)(W:AJ)(a b:Nat)(U:H):AH:=
 Ee E U a b λc=>
 lI E U a (AN b 1) λd=>
 iX E U 3 c d λc=>
 uG c λc d e=>
 some ((V.agg (eG c d e)),U)
def F29(N:Nat)(d:List V)(U:H):AH:=
 Aj d λa b=>
 CM a λa c=>
 BD b (
 px E D W a c U)
def A29:Dg:=⟨13,[.ptr],[(.cell 2 (some 3))],AMu⟩
theorem ALa b U:Bt E D W N A29 b U=F29 E D W N b U:=by kernel_rfl
def Ty:List Bf:=[⟨(some 30),.mov (.tmp 0),none⟩,⟨(some 31),.mov (.tmp 0),none⟩,⟨(some 32),.mov (.tmp 0),none⟩,⟨(some 33),.nilck (.tmp 32),none⟩,⟨(some 34),.faddr 2 (.tmp 33),none⟩,⟨(some 35),.faddr 2 (.tmp 34),none⟩,⟨(some 36),.load none (.tmp 35),none⟩,⟨(some 37),.faddr 1 (.tmp 3),none⟩,⟨(some 38),.load none (.tmp 37),none⟩,⟨(some 39),.buildSlice 9 1 [(V.str ⟨0,0⟩)] [(0,1,(.tmp 38))],none⟩,⟨(some 40),.append 9 1 16 (.tmp 36) (.tmp 39),none⟩,⟨(some 41),.mov (.tmp 0),none⟩,⟨(some 42),.nilck (.tmp 41),none⟩,⟨(some 43),.faddr 2 (.tmp 42),none⟩,⟨(some 44),.faddr 3 (.tmp 43),none⟩,⟨(some 45),.load none (.tmp 44),none⟩,⟨(some 46),.mov (.tmp 4),none⟩,⟨(some 47),.buildSlice 3 1 [(V.int .i64 (AA 0))] [(0,1,(.tmp 46))],none⟩,⟨(some 48),.append 3 1 8 (.tmp 45) (.tmp 47),none⟩,⟨(some 49),.nilck (.tmp 30),none⟩,⟨(some 50),.faddr 2 (.tmp 49),none⟩,⟨(some 51),.faddr 2 (.tmp 50),none⟩,⟨none,.store 1 (.tmp 51) (.tmp 40),none⟩,⟨(some 52),.nilck (.tmp 31),none⟩,⟨(some 53),.faddr 2 (.tmp 52),none⟩,⟨(some 54),.faddr 3 (.tmp 53),none⟩,⟨none,.store 1 (.tmp 54) (.tmp 48),none⟩]
def KN:List DP:=[⟨0,[0]⟩,⟨0,[0]⟩,⟨0,[0]⟩,⟨4,[32]⟩,⟨12,[33]⟩,⟨28,[34]⟩,⟨60,[35]⟩,⟨0,[3]⟩,⟨128,[37]⟩,⟨384,[38]⟩,⟨1020,[36,39]⟩,⟨0,[0]⟩,⟨2048,[41]⟩,⟨6144,[42]⟩,⟨14336,[43]⟩,⟨30720,[44]⟩,⟨0,[4]⟩,⟨65536,[46]⟩,⟨262140,[45,47]⟩,⟨524285,[30]⟩,⟨1048573,[49]⟩,⟨2097149,[50]⟩,⟨4194301,[51,40]⟩,⟨8388607,[31]⟩,⟨16777215,[52]⟩,⟨33554431,[53]⟩,⟨67108863,[54,48]⟩]
def AMt:XC:=(.z (.aH 2 y1)
 (.z (.aA 6 0 0<|
 .k 9 y4 61 [(.t 8)]<|
 .p 3 [] y74<|
 .op none y4 [3,9] (.store 3 (.t 3) (.t 9))<|
 .nil)
 (.seq (.z (.aA 10 0 2<|
 .aO 13 2 12 .any<|
 .u 15 14<|
 .b 16 .geq .none (.t 15) (.i 40)<|
 .nil)
 (.cond (.tmp 16) (.z (.m 17 0<|
 .aO 18 2 3 .i<|
 .k 20 .bool 60 [(.t 17),(.t 19),(.i 5)]<|
 .aC 2 20)
 .ret)
 .skip))
 (.seq (.z (.m 21 0<|
 .p 22 [] (.buildSlice 9 1 [y3] [(0,1,y51)])<|
 .k 23 .bool 27 [(.t 21),(.t 22)]<|
 .aL 24 23)
 (.cond (.tmp 24) (.z (.aH 2 y1)
 .ret)
 .skip))
 (.z (.m 26 0<|
 .k 27 (.tup [.i,.bool]) 63 [(.t 26),(.i 0)]<|
 .m 25 27<|
 .aB 28 0 25 1 25<|
 .m 4 28<|
 .aC 5 29)
 (.seq (.keep [(0,.ptr),(3,.ptr),(4,.i),(5,.bool)] [] [] (.gdraw Ty KN [(5,.bool)]))
 (.z (.m 55 5<|
 .aC 2 55)
 .ret)))))))
def Xp(a b:Nat)(U:H):AH:=
 cA (D 61 [.ptr a b] U) λc d=>
 uG c λc e f=>
 let g:=B9 d (.cells [iN 0,.str ⟨0,0⟩,iN 0]);
 Cg 3 (H.next d) 0 (V.agg (eG c e f)) g λc=>
 lL E c a (AN (AN b 2) 2) λe=>
 AG (I2 (AA 40) (AA e)) (
 lI E c (H.next d) 2 λe=>
 cB (D 60 [.ptr a b,.int .i64 e,iN 5] c) λe f=>
 rB e f) (
 let e:=B9 c (.cells [sN 3 4012602]);
 cB (D 27 [.ptr a b,.sl (H.next c) 0 1 (.ex 1)] e) λc e=>
 AG (not c) (
 rB false e) (
 cT (D 63 [.ptr a b,iN 0] e) λc e=>
 uR c λc f=>
 DZ (W Ty KN [(0,.ptr a b),(3,.ptr (H.next d) 0),(4,.int .i64 c),(5,.bool f)] e) λc d=>
 EO c 5 λc=>
 CN c λc=>
 rB c d))
def F30(N:Nat)(d:List V)(U:H):AH:=
 Aj d λa b=>
 CM a λa c=>
 BD b (
 Xp E D W a c U)
def A30:Dg:=⟨56,[.ptr],[(.tmp 2)],AMt⟩
theorem ALZ b U:Bt E D W N A30 b U=F30 E D W N b U:=by kernel_rfl
def AMs(a:XC):XC:=(.z (.pal 2 [] 38 [y0,y3,y0]<|
 .nil)
 (.seq (.draw (.aX 4 0 0 .any<|
 .aX 8 0 1 .i<|
 .cB 12 3 7 11 y4 3<|
 .pal 3 [] 38 [y0,y3,y0]<|
 .op none y4 [3,13] (.store 3 (.t 3) (.t 13))<|
 .nil) [0,1,3,7,0,16,48,112,255,511,0,2047])
 (.seq (.seq (.draw (.aX 14 0 1 .i<|
 .b 18 .add .none (.t 17) (.i 1)<|
 .aX 19 0 0 .any<|
 .u 23 22<|
 .aS 24 18 23) [0,1,3,7,15,0,32,96,224,480,1023])
 (.cond (.tmp 24) (.ops (.cH 25 0 1 1<|
 .aT 31 1 30 1 29))
 .skip))
 (.keep [] [2,3] [(2,[.i,.str,.i]),(3,[.i,.str,.i])] a))))
def fC(E:EB)(D:Am)(W:AJ)(h:Int->BS->Int->Int->BS->Int->H->AH)(a b:Nat)(U:H):AH:=
 Ee E U a b λc=>
 lI E U a (AN b 1) λd=>
 iX E U 3 c d λc=>
 uG c λc d e=>
 lI E U a (AN b 1) λf=>
 lL E U a b λg=>
 AG (Cw (BP .i64 f (AA 1)) (AA g)) (
 lI E U a (AN b 1) λf=>
 Cg 1 a (AN b 1) (V.int .i64 (BP .i64 f (AA 1))) U λf=>
 h (AA 0) (BS.mk 0 0) (AA 0) c d e f) (
 h (AA 0) (BS.mk 0 0) (AA 0) c d e U)
def AMr:XC:=(.z (.aQ 32 y4 3 3 y4 2 3 2<|
 .nil)
 .ret)
def fB(E:EB)(D:Am)(W:AJ)(a:Int)(b:BS)(c d:Int)(e:BS)(f:Int)(U:H):AH:=
 some ((V.agg (eG d e f)),U)
def AKc(E:EB)(D:Am)(W:AJ)(N:Nat):=fB E D W
def F31(d:List V)(U:H):AH:=
 Aj d λa b=>
 CM a λa c=>
 BD b (
 fC E D W (AKc E D W N ) a c U)
def A31:Dg:=⟨33,[.ptr],[(.cell 2 (some 3))],(AMs AMr)⟩
theorem ALY b U:Bt E D W N A31 b U=F31 E D W N b U:=by kernel_rfl
def AHQ:List (Nat × DN):=[(1,.ptr),(3,.any),(4,.i)]
def Yh(E:EB):St->AH:=λs=>Dy E s [(.tmp 2)] λl=>some (Ek l,s.U)
def AO4(c0:XC):Nat->St->AH:=CQ 0 (dX E D W N (.keep [(1,.ptr)] [] [] c0) (Yh E) nX (Yh E)) nX
def AAC(b:XC)(a:XC):XC:=(.z (.P 1 (.box 38 (.t 0))<|
 .aH 2 y1)
 (.z (.p 5 [] (.buildSlice 9 10 [y3,y3,y3,y3,y3,y3,y3,y3,y3,y3] [(0,1,y60),(1,1,y33),(2,1,xY),(3,1,xZ),(4,1,y34),(5,1,y47),(6,1,y25),(7,1,y52),(8,1,y40),(9,1,y31)])<|
 .m 3 5<|
 .nil)
 (.seq (.z (.bV 4 0)
 (.block 0 (.loop AHQ [] [] a)))
 (.keep [(1,.ptr)] [] [] b))))
def fA(E:EB)(D:Am)(W:AJ)(f:Nat->Nat->V->Int->H->AH)(a:Int)(b:BS)(c:Int)(U:H):AH:=
 OU (eG a b c) U λd=>
 let e:=B9 d (.cells [sN 1 91,sN 7 22026814072246082,sN 4 1280070990,sN 10 488440487847103610377301,sN 7 23157120498421321,sN 5 361940403023,sN 10 322399817400452109389381,sN 3 5522771,sN 6 76155295057987,sN 8 4990918871747741011]);
 f (H.next U) 0 (V.sl (H.next d) 0 10 (.ex 10)) (AA 0) e
def iQ:XC:=(.z (.aO 29 0 1 .i<|
 .b 31 .eql .none (.t 30) (.i 1)<|
 .aC 2 31)
 .ret)
def Xo(E:EB)(D:Am)(W:AJ)(a b:Nat)(U:H):AH:=
 lI E U a b λc=>
 rB (Cc c (AA 1)) U
def iP:XC:=(.seq (.z (.aD 6 4 3<|
 .u 8 7<|
 .aS 9 6 8)
 y58)
 (.seq (.block 1 (.seq (.draw (.aD 12 3 4<|
 .s 14 1 12 13<|
 .l 15 .str 14<|
 .aO 16 1 1 .str<|
 .b 18 .eql .none (.t 15) (.t 17)<|
 .m 19 18<|
 .gA 19 true (.aF 20 1 19 0 1 19<|
 .p 22 [21,19] (.bin .eql .none (.t 21) (.i 5))<|
 .p 23 [22,19] (.mov (.t 22))<|
 .grp 23 false (.p 24 [1,23] (.faddr 0 (.t 1))<|
 .op (some 25) .i [24,23] (.load none (.t 24))<|
 .cJ 26 25 23 25 6) 27 [23,26,19] (.t 23) OK (.t 26)<|
 .nil) 28 19 27<|
 .nil) [0,0,3,7,0,16,63,127,255,511,1023,2047,4095,8191,16383,32767,65535])
 (.cond (.tmp 28) (.z (.aH 2 y9)
 .ret)
 .skip)))
 (.ops (.aK 10 4 1<|
 .m 4 11<|
 .nil))))
def Ro(E:EB)(D:Am)(W:AJ)(i:Nat->Nat->H->AH)(j:Nat->Nat->V->Int->H->AH)(a b:Nat)(c:V)(d:Int)(U:H):AH:=
 BV c λe=>
 AG (Cw d (AA e)) (
 Bl 1 c d λe f=>
 lS E U e f λe=>
 lS E U a (AN b 1) λf=>
 Ab (λg h=>
 AG g (
 rB true h) (
 j a b c (BP .i64 d (AA 1)) h)) λg=>
 AG (BS.beq e f) (
 lI E U a b λe=>
 Ab (λf h=>
 g f h) λf=>
 AG (Cc e (AA 5)) (
 f true U) (
 lI E U a b λe=>
 f (Cc e (AA 6)) U)) (
 g false U)) (
 i a b U)
def AJh(a:Int)(b:BS)(c:Int)(U:H):St:=⟨[(0,.agg [.int .i64 a,.str b,.int .i64 c])],[],[],U⟩
def AJg(a b:Nat)(c:V)(d:Int)(U:H):St:=⟨[(1,.ptr a b),(3,c),(4,.int .i64 d)],[],[],U⟩
def AKb(E:EB)(D:Am)(W:AJ)(N:Nat):=Xo E D W
def YG(n:Nat):Nat->Nat->V->Int->H->AH:=
 Nat.rec (λ_ _ _ _ _=>none) (λ_ a=>Ro E D W (AKb E D W N ) a) n
theorem ACi n:
 (λa b c d U=>Bw (λf g=>A0 E D W N iP g (kX AHQ [] [] f) (AO4 E D W N iQ) (Yh E)) n (AJg a b c d U))=YG E D W N n:=Yn (λ_=>by kernel_rfl) n
def sR:=fA E D W (YG E D W N N)
theorem ADj:
 (λa b c U=>A0 E D W N (AAC iQ iP) (AJh a b c U) (Yh E) nX (Yh E))=sR E D W N:=by
 unfold sR;rw[<-ACi];generalize iQ=j,iP=k;revert j k;refine id ?_;intros;kernel_rfl
def F32(e:List V)(U:H):AH:=
 Aj e λa b=>
 Cl a λa=>
 uG a λa c d=>
 BD b (
 sR E D W N a c d U)
def A32:Dg:=⟨32,[y4],[(.tmp 2)],(AAC iQ iP)⟩
theorem ALX b U:Bt E D W N A32 b U=F32 E D W N b U:=by
 unfold F32;rw[<-ADj];kernel_rfl
def AMq:XC:=(.z (.bV 2 0)
 (.z (.m 4 0<|
 .k 5 .str 12 [(.t 4),(.i 3)]<|
 .m 3 5<|
 .nil)
 (.seq (.z (.m 6 3<|
 .b 7 .eql .none (.t 6) (.con y3)<|
 .nil)
 (.cond (.tmp 7) (.z (.bV 2 0)
 .ret)
 .skip))
 (.z (.cD 8 3 .i 64<|
 .m 2 9<|
 .nil)
 .ret))))
def ey(E:EB)(D:Am)(W:AJ)(a:V)(U:H):AH:=
 cS (D 12 [a,iN 3] U) λb c=>
 AG (BS.beq b (BS.mk 0 0)) (
 rI (AA 0) c) (
 cI (D 64 [.str b] c) λb c=>
 rI b c)
def F33(N:Nat)(c:List V)(U:H):AH:=
 Aj c λa b=>
 BD b (
 ey E D W a U)
def A33:Dg:=⟨10,[.any],[(.tmp 2)],AMq⟩
theorem ALW b U:Bt E D W N A33 b U=F33 E D W N b U:=by kernel_rfl
def Tx:List Bf:=[⟨(some 139),.mov (.tmp 1),none⟩,⟨(some 140),.mov (.tmp 1),none⟩,⟨(some 141),.faddr 1 (.tmp 6),none⟩,⟨(some 142),.load none (.tmp 141),none⟩,⟨(some 143),.nilck (.tmp 139),none⟩,⟨(some 144),.faddr 0 (.tmp 143),none⟩,⟨none,.store 1 (.tmp 144) (.con (V.int .i64 (AA 11))),none⟩,⟨(some 145),.nilck (.tmp 140),none⟩,⟨(some 146),.faddr 1 (.tmp 145),none⟩,⟨none,.store 1 (.tmp 146) (.tmp 142),none⟩]
def YQ:List DP:=[⟨0,[1]⟩,⟨0,[1]⟩,⟨0,[6]⟩,⟨4,[141]⟩,⟨1,[139]⟩,⟨17,[143]⟩,⟨49,[144]⟩,⟨127,[140]⟩,⟨255,[145]⟩,⟨511,[146,142]⟩]
def AMp:XC:=(.z (.m 7 0<|
 .k 8 y4 15 [(.t 7)]<|
 .p 6 [] y74<|
 .op none y4 [6,8] (.store 3 (.t 6) (.t 8))<|
 .nil)
 (.block 0 (.z (.cQ 13 0 7 0<|
 .m 12 17<|
 .nil)
 (.cond (.tmp 12) .skip
 (.z (.m 19 0<|
 .aU 20 .bool 14 19 y33 18)
 (.cond (.tmp 18) (.ops (.bB 21 1 0 1 1))
 (.z (.m 25 0<|
 .aU 26 .bool 14 25 xY 24)
 (.cond (.tmp 24) (.ops (.bB 27 1 0 1 4))
 (.z (.m 31 0<|
 .aU 32 .bool 14 31 xZ 30)
 (.cond (.tmp 30) (.z (.bB 33 1 0 1 6)
 (.ops (.aD 36 1 0<|
 .k 38 y7 65 [(.t 37)]<|
 .n 39 36<|
 .cM 40 5 39 y7 38 6 38<|
 .nil)))
 (.z (.m 42 0<|
 .aU 43 .bool 14 42 y34 41)
 (.cond (.tmp 41) (.z (.bB 44 1 0 1 2)
 (.z (.cN 47 0 .bool 14 tZ<|
 .nil)
 (.cond (.tmp 48) (.z (.aD 49 1 0<|
 .k 51 y7 66 [(.t 50)]<|
 .n 52 49<|
 .cM 53 5 52 y7 51 6 51<|
 .nil)
 (.ops (.bH 54 0 Jl 13 tu)))
 .skip)))
 (.z (.m 57 0<|
 .aU 58 .bool 14 57 y47 56)
 (.cond (.tmp 56) (.z (.bH 59 0 Jl 13 y61)
 (.z (.bB 61 1 0 1 5)
 (.ops (.aD 64 1 0<|
 .k 66 y7 65 [(.t 65)]<|
 .n 67 64<|
 .cM 68 5 67 y7 66 6 66<|
 .nil))))
 (.z (.m 70 0<|
 .aU 71 .bool 14 70 y25 69)
 (.cond (.tmp 69) (.z (.bB 72 1 0 1 3)
 (.z (.bH 75 0 Jl 13 ub)
 (.z (.aD 77 0 1<|
 .k 79 Jl 67 [(.t 77),(.t 78)]<|
 .nil)
 (.ops (.bH 80 0 Jl 13 ua)))))
 (.z (.m 83 0<|
 .aU 84 .bool 14 83 y52 82)
 (.cond (.tmp 82) (.z (.bB 85 1 0 1 8)
 (.z (.bH 88 0 Jl 13 ub)
 (.ops (.cP 90 0 1 2<|
 .k 93 Jl 68 [(.t 90),(.t 91),(.t 92)]<|
 .nil))))
 (.z (.m 95 0<|
 .aU 96 .bool 14 95 y40 94)
 (.cond (.tmp 94) (.z (.bB 97 1 0 1 9)
 (.z (.bH 100 0 Jl 13 ub)
 (.ops (.cP 102 0 1 2<|
 .k 105 Jl 68 [(.t 102),(.t 103),(.t 104)]<|
 .nil))))
 (.z (.m 107 0<|
 .aU 108 .bool 14 107 y31 106)
 (.cond (.tmp 106) (.seq (.z (.cN 109 0 .bool 14 ub<|
 .nil)
 (.cond (.tmp 110) (.z (.bB 111 1 0 1 7)
 (.z (.cP 114 0 1 2<|
 .k 117 Jl 68 [(.t 114),(.t 115),(.t 116)]<|
 .nil)
 .ret))
 .skip))
 (.z (.bB 118 1 0 1 10)
 (.z (.aD 121 1 0<|
 .k 123 y7 65 [(.t 122)]<|
 .n 124 121<|
 .cM 125 5 124 y7 123 6 123<|
 .nil)
 (.z (.m 126 0<|
 .k 127 Jl 13 [(.t 126),(.con (V.str ⟨2,17999⟩))]<|
 .nil)
 (.ops (.aD 128 1 0<|
 .aK 130 2 1<|
 .k 132 .i 17 [(.t 129),(.t 131)]<|
 .n 133 128<|
 .aT 134 15 133 1 132))))))
 (.z (.aO 136 0 6 .i<|
 .aN 138 137 1 135)
 (.cond (.tmp 135) (.seq (.keep [(0,.ptr),(1,.ptr),(6,.ptr)] [] [] (.gdraw Tx YQ [(0,.ptr)]))
 (.ops (.bP 147 0 y4 31<|
 .nil)))
 (.ops (.cK 9 0 y4 3 6<|
 .k 11 Jl 16 [(.t 9),(.i 7),(.t 10)]<|
 .nil))))))))))))))))))))))))))
def IU(a b c d:Nat)(e:Int)(U:H):AH:=
 cA (D 15 [.ptr a b] U) λf g=>
 uG f λf h i=>
 let j:=B9 g (.cells [iN 0,.str ⟨0,0⟩,iN 0]);
 Cg 3 (H.next g) 0 (V.agg (eG f h i)) j λf=>
 lI E f a (AN b 7) λh=>
 AG (not (Cc h (AA 0))) (
 r0 f) (
 cB (D 14 [.ptr a b,sN 7 22026814072246082] f) λf h=>
 AG f (
 Cg 1 c d (iN 1) h λf=>
 r0 f) (
 cB (D 14 [.ptr a b,sN 4 1280070990] h) λf h=>
 AG f (
 Cg 1 c d (iN 4) h λf=>
 r0 f) (
 cB (D 14 [.ptr a b,sN 10 488440487847103610377301] h) λf h=>
 AG f (
 Cg 1 c d (iN 6) h λf=>
 cA (D 65 [.ptr a b] f) λf i=>
 uN f λf j k l m n=>
 Cg 6 c (AN d 5) (V.agg (eN f j k l m n)) i λf=>
 r0 f) (
 cB (D 14 [.ptr a b,sN 7 23157120498421321] h) λf h=>
 AG f (
 Cg 1 c d (iN 2) h λf=>
 cB (D 14 [.ptr a b,sN 1 40] f) λf i=>
 AG f (
 cA (D 66 [.ptr a b] i) λf j=>
 uN f λf k l m n o=>
 Cg 6 c (AN d 5) (V.agg (eN f k l m n o)) j λf=>
 c0 (D 13 [.ptr a b,sN 1 41] f) λf=>
 r0 f) (
 r0 i)) (
 cB (D 14 [.ptr a b,sN 5 361940403023] h) λf h=>
 AG f (
 c0 (D 13 [.ptr a b,sN 6 78401563153491] h) λf=>
 Cg 1 c d (iN 5) f λf=>
 cA (D 65 [.ptr a b] f) λf i=>
 uN f λf j k l m n=>
 Cg 6 c (AN d 5) (V.agg (eN f j k l m n)) i λf=>
 r0 f) (
 cB (D 14 [.ptr a b,sN 10 322399817400452109389381] h) λf h=>
 AG f (
 Cg 1 c d (iN 3) h λf=>
 c0 (D 13 [.ptr a b,sN 1 123] f) λf=>
 c0 (D 67 [.ptr a b,.ptr c d] f) λf=>
 c0 (D 13 [.ptr a b,sN 1 125] f) λf=>
 r0 f) (
 cB (D 14 [.ptr a b,sN 3 5522771] h) λf h=>
 AG f (
 Cg 1 c d (iN 8) h λf=>
 c0 (D 13 [.ptr a b,sN 1 123] f) λf=>
 c0 (D 68 [.ptr a b,.ptr c d,.int .i64 e] f) λf=>
 r0 f) (
 cB (D 14 [.ptr a b,sN 6 76155295057987] h) λf h=>
 AG f (
 Cg 1 c d (iN 9) h λf=>
 c0 (D 13 [.ptr a b,sN 1 123] f) λf=>
 c0 (D 68 [.ptr a b,.ptr c d,.int .i64 e] f) λf=>
 r0 f) (
 cB (D 14 [.ptr a b,sN 8 4990918871747741011] h) λf h=>
 AG f (
 cB (D 14 [.ptr a b,sN 1 123] h) λf i=>
 AG f (
 Cg 1 c d (iN 7) i λf=>
 c0 (D 68 [.ptr a b,.ptr c d,.int .i64 e] f) λf=>
 r0 f) (
 Cg 1 c d (iN 10) i λf=>
 cA (D 65 [.ptr a b] f) λf i=>
 uN f λf j k l m n=>
 Cg 6 c (AN d 5) (V.agg (eN f j k l m n)) i λf=>
 c0 (D 13 [.ptr a b,sN 2 17999] f) λf=>
 cI (D 17 [.ptr a b,.int .i64 (BP .i64 e (AA 1))] f) λf i=>
 Cg 1 c (AN d 15) (V.int .i64 f) i λf=>
 r0 f)) (
 lI E h (H.next g) 0 λf=>
 AG (Cc f (AA 1)) (
 DZ (W Tx YQ [(0,.ptr a b),(1,.ptr c d),(6,.ptr (H.next g) 0)] h) λf i=>
 EO f 0 λf=>
 CM f λf j=>
 cA (D 31 [.ptr f j] i) λf i=>
 uG f λf j k=>
 r0 i) (
 Dt E h (H.next g) 0 3 λf=>
 uG f λf g i=>
 c0 (D 16 [.ptr a b,iN 7,.agg (eG f g i)] h) λf=>
 r0 f)))))))))))
def F34(N:Nat)(f:List V)(U:H):AH:=
 uS f λa b c d e=>
 IU E D W a b c d e U
def A34:Dg:=⟨149,[.ptr,.ptr,.i],[],AMp⟩
theorem ALV b U:Bt E D W N A34 b U=F34 E D W N b U:=by kernel_rfl
end
noncomputable section
variable (E:EB) (D:Am) (W:AJ) (N:Nat)
def AMk:XC:=(.z (.aH 4 Z6)
 (.seq (.z (.m 5 1<|
 .bU 6 5 0<|
 .gO 7 false (.p 8 [1,7] M9<|
 .p 9 [0,7] y6<|
 .p 10 [9,7] (.len true (.t 9))<|
 .p 11 [8,10,7] (.bin .geq .none (.t 8) (.t 10))<|
 .nil) 12 7 11<|
 .nil)
 (.cond (.tmp 12) (.z (.aH 4 Z6)
 .ret)
 .skip))
 (.z (.bL 13 0 1<|
 .aC 4 15)
 .ret)))
def pZ(E:EB)(D:Am)(W:AJ)(a:BS)(b:Int)(U:H):AH:=
 Ab (λc d=>
 AG c (
 some ((V.int .u8 (AA 0)),d)) (
 Az a b λc=>
 some ((V.int .u8 c),d))) λc=>
 AG (Cw b (AA 0)) (
 c true U) (
 c (I2 (AA (BS.len a)) b) U)
def F42(N:Nat)(c:List V)(U:H):AH:=
 uD c λa b=>
 pZ E D W a b U
def A42:Dg:=⟨16,[.str,.i],[(.tmp 4)],AMk⟩
theorem ALU b U:Bt E D W N A42 b U=F42 E D W N b U:=by kernel_rfl
def AMj:XC:=(.z (.aH 2 y1)
 (.z (.m 3 0<|
 .b 4 .geq .none (.t 3) y65<|
 .m 5 4<|
 .gA 5 true (.p 6 [0,5] y6<|
 .bG 7 6 5 6 122) 8 5 7<|
 .m 9 8<|
 .gO 9 false (.p 10 [0,9] y6<|
 .p 11 [10,9] (.bin .geq .none (.t 10) y44)<|
 .p 12 [11,9] (.mov (.t 11))<|
 .grp 12 true (.p 13 [0,12] y6<|
 .p 14 [13,12] (.bin .leq .none (.t 13) y64)<|
 .nil) 15 [12,14,9] (.t 12) (.t 14) WV<|
 .nil) 16 9 15<|
 .aC 2 16)
 .ret))
def pY(E:EB)(D:Am)(W:AJ)(a:Int)(U:H):AH:=
 Ab (λb c=>
 Ab (λd e=>
 rB d e) λd=>
 AG b (
 d true c) (
 Ab (λb e=>
 d b e) λb=>
 AG (I2 (AA 65) a) (
 b (I2 a (AA 90)) c) (
 b false c))) λb=>
 AG (I2 (AA 97) a) (
 b (I2 a (AA 122)) U) (
 b false U)
def F43(N:Nat)(c:List V)(U:H):AH:=
 F0 .u8 c λa b=>
 BD b (
 pY E D W a U)
def A43:Dg:=⟨17,[(.int .u8)],[(.tmp 2)],AMj⟩
theorem ALT b U:Bt E D W N A43 b U=F43 E D W N b U:=by kernel_rfl
def vV:List (Nat × DN):=[(0,.str),(1,.i),(5,.i)]
def Yd(E:EB):St->AH:=λs=>Dy E s [(.tmp 4)] λl=>some (Ek l,s.U)
def AO0(c0:XC):Nat->St->AH:=CQ 0 (dX E D W N (.keep vV [] [] c0) (Yd E) nX (Yd E)) nX
def zx(b:XC)(a:XC):XC:=(.z (.bV 4 0)
 (.z (.m 6 1<|
 .m 5 6<|
 .nil)
 (.seq (.block 0 (.loop vV [] [] a))
 (.keep vV [] [] b))))
def AIu(E:EB)(D:Am)(W:AJ)(c:BS->Int->Int->H->AH)(a:BS)(b:Int)(U:H):AH:=
 c a b b U
def hC:XC:=(.seq (.z (.aD 38 0 1<|
 .b 40 .sub .none (.t 39) (.i 1)<|
 .P 41 (.idxStr (.t 38) (.t 40))<|
 .b 42 .eql .none (.t 41) Yx<|
 .m 43 42<|
 .gO 43 false (.p 44 [1,43] M9<|
 .p 45 [5,43] j3<|
 .p 46 [44,45,43] (.bin .sub .none (.t 44) (.t 45))<|
 .p 47 [46,43] (.bin .gtr .none (.t 46) (.i 60))<|
 .nil) 48 43 47<|
 .nil)
 (.cond (.tmp 48) (.z (.aH 4 Z4)
 .ret)
 .skip))
 (.z (.m 49 1<|
 .aC 4 49)
 .ret))
def pX(E:EB)(D:Am)(W:AJ)(a:BS)(b c:Int)(U:H):AH:=
 Az a (Ez .i64 b (AA 1)) λd=>
 Ab (λe f=>
 AG e (
 rI (Bh 0) f) (
 rI b f)) λe=>
 AG (Cc d (AA 45)) (
 e true U) (
 e (Cw (AA 60) (Ez .i64 b c)) U)
def gx:XC:=(.seq (.z (.cA 7 1 0<|
 .b 10 .lss .none (.t 7) (.t 9)<|
 .m 11 10<|
 .gA 11 true (.p 12 [0,11] y6<|
 .bN 13 1 11 M9 12 11 12<|
 .op (some 15) .bool [14,11] (.call 43 [(.t 14)])<|
 .p 16 [15,11] (.mov (.t 15))<|
 .grp 16 false (.p 17 [0,16] y6<|
 .bN 18 1 16 M9 17 16 17<|
 .op (some 20) .bool [19,16] (.call 46 [(.t 19)])<|
 .nil) 21 [16,20,11] (.t 16) OK (.t 20)<|
 .p 22 [21,11] (.mov (.t 21))<|
 .grp 22 false (.p 23 [0,22] y6<|
 .bN 24 1 22 M9 23 22 23<|
 .p 26 [25,22] (.bin .eql .none (.t 25) Yx)<|
 .p 27 [26,22] (.mov (.t 26))<|
 .grp 27 true (.p 28 [0,27] y6<|
 .p 29 [1,27] M9<|
 .bT 30 29 27 29 1 28 27 42 28<|
 .p 32 [31,27] (.bin .neq .none (.t 31) Yx)<|
 .nil) 33 [27,32,22] (.t 27) (.t 32) WV<|
 .nil) 34 [22,33,11] (.t 22) OK (.t 33)<|
 .nil) 35 11 34<|
 .nil)
 (.cond (.tmp 35) .skip
 QU))
 (.block 1 (.ops (.aK 36 1 1<|
 .aC 1 37))))
def Rn(E:EB)(D:Am)(W:AJ)(l:BS->Int->Int->H->AH)(m:BS->Int->Int->H->AH)(a:BS)(b c:Int)(U:H):AH:=
 Ab (λd e=>
 AG d (
 m a (BP .i64 b (AA 1)) c e) (
 l a b c e)) λd=>
 AG (Cw b (AA (BS.len a))) (
 Az a b λe=>
 cB (D 43 [.int .u8 e] U) λe f=>
 Ab (λg h=>
 Ab (λi j=>
 d i j) λi=>
 AG g (
 i true h) (
 Az a b λg=>
 Ab (λj k=>
 i j k) λi=>
 AG (Cc g (AA 45)) (
 BT (D 42 [.str a,.int .i64 (BP .i64 b (AA 1))] h) λg j=>
 BZ .u8 g λg=>
 i (not (Cc g (AA 45))) j) (
 i false h))) λg=>
 AG e (
 g true f) (
 Az a b λe=>
 cB (D 46 [.int .u8 e] f) λe f=>
 g e f)) (
 d false U)
def AJZ(a:BS)(b:Int)(U:H):St:=⟨[(0,.str a),(1,.int .i64 b)],[],[],U⟩
def AJY(a:BS)(b c:Int)(U:H):St:=⟨[(0,.str a),(1,.int .i64 b),(5,.int .i64 c)],[],[],U⟩
def Tq(E:EB)(D:Am)(W:AJ)(N:Nat):=pX E D W
def YF(n:Nat):BS->Int->Int->H->AH:=
 Nat.rec (λ_ _ _ _=>none) (λ_ a=>Rn E D W (Tq E D W N ) a) n
theorem ACe n:
 (λa b c U=>Bw (λe f=>A0 E D W N gx f (kX vV [] [] e) (AO0 E D W N hC) (Yd E)) n (AJY a b c U))=YF E D W N n:=vm (λ_=>by kernel_rfl) n
def sM:=AIu E D W (YF E D W N N)
theorem ADf:
 (λa b U=>A0 E D W N (zx hC gx) (AJZ a b U) (Yd E) nX (Yd E))=sM E D W N:=by
 unfold sM;rw[<-ACe];generalize hC=i,gx=j;revert i j;refine id ?_;intros;kernel_rfl
def F44(c:List V)(U:H):AH:=
 uD c λa b=>
 sM E D W N a b U
def A44:Dg:=⟨50,[.str,.i],[(.tmp 4)],(zx hC gx)⟩
theorem ALS b U:Bt E D W N A44 b U=F44 E D W N b U:=by
 unfold F44;rw[<-ADf];kernel_rfl
def AMi:XC:=(.z (.aH 2 y1)
 (.z (.k 3 .one 73 []<|
 .m 4 0<|
 .k 5 .bool 72 [(.t 3),(.t 4)]<|
 .m 2 5<|
 .nil)
 .ret))
def pW(E:EB)(D:Am)(W:AJ)(a:BS)(U:H):AH:=
 BT (D 73 [] U) λb c=>
 E2 b (
 cB (D 72 [b,.str a] c) λb c=>
 rB b c)
def F45(N:Nat)(c:List V)(U:H):AH:=
 NA c λa b=>
 BD b (
 pW E D W a U)
def A45:Dg:=⟨6,[.str],[(.tmp 2)],AMi⟩
theorem ALR b U:Bt E D W N A45 b U=F45 E D W N b U:=by kernel_rfl
def AMh:XC:=(.z (.aH 2 y1)
 (.z (.m 3 0<|
 .b 4 .geq .none (.t 3) UZ<|
 .m 5 4<|
 .gA 5 true (.p 6 [0,5] y6<|
 .bG 7 6 5 6 57) 8 5 7<|
 .m 2 8<|
 .nil)
 .ret))
def pV(E:EB)(D:Am)(W:AJ)(a:Int)(U:H):AH:=
 Ab (λb c=>
 rB b c) λb=>
 AG (I2 (AA 48) a) (
 b (I2 a (AA 57)) U) (
 b false U)
def F46(N:Nat)(c:List V)(U:H):AH:=
 F0 .u8 c λa b=>
 BD b (
 pV E D W a U)
def A46:Dg:=⟨9,[(.int .u8)],[(.tmp 2)],AMh⟩
theorem ALQ b U:Bt E D W N A46 b U=F46 E D W N b U:=by kernel_rfl
def Y9:List (Nat × DN):=[(0,.str),(1,.i),(5,.bool),(6,.i),(7,(.int .u64))]
def Pa(E:EB):St->AH:=λs=>Dy E s [(.tmp 4)] λl=>some (Ek l,s.U)
def AIQ(c0:XC):Nat->St->AH:=CQ 0 (dX E D W N (.keep Y9 [] [] c0) (Pa E) nX (Pa E)) nX
def zw(a:XC):XC:=(.z (.bV 4 0)
 (.z (.bL 9 0 1<|
 .aR 12 11 Yx 5)
 (.seq (.z (.aC 13 5)
 (.cond (.tmp 13) (.ops (.aK 14 1 1<|
 .aC 1 15))
 .skip))
 (.keep [(0,.str),(1,.i),(5,.bool)] [] [] a))))
def Rm(E:EB)(D:Am)(W:AJ)(d:BS->Int->Bool->H->AH)(a:BS)(b:Int)(U:H):AH:=
 Az a b λc=>
 AG (Cc c (AA 45)) (
 d a (BP .i64 b (AA 1)) (Cc c (AA 45)) U) (
 d a b (Cc c (AA 45)) U)
def gu(a:XC)(b:XC):XC:=(.z (.m 16 1<|
 .aC 6 16)
 (.z (.aH 7 Sp)
 (.seq (.block 0 (.loop Y9 [] [] b))
 (.keep Y9 [] [] a))))
def AIt(E:EB)(D:Am)(W:AJ)(d:BS->Int->Bool->Int->Int->H->AH)(a:BS)(b:Int)(c:Bool)(U:H):AH:=
 d a b c b (AA 0) U
def Pl:XC:=(.z (.aD 41 1 6<|
 .b 43 .sub .none (.t 41) (.t 42)<|
 .aC 8 43)
 (.seq (.z (.m 44 8<|
 .bU 45 44 1<|
 .gO 46 false (.p 47 [8,46] tY<|
 .p 48 [47,46] (.bin .gtr .none (.t 47) (.i 19))<|
 .nil) 49 46 48<|
 .m 50 49<|
 .gO 50 false (.p 51 [8,50] tY<|
 .p 52 [51,50] (.bin .gtr .none (.t 51) (.i 1))<|
 .p 53 [52,50] (.mov (.t 52))<|
 .grp 53 true (.p 54 [0,53] y6<|
 .p 55 [6,53] (.mov (.t 6))<|
 .p 56 [54,55,53] (.idxStr (.t 54) (.t 55))<|
 .cO 57 56 53 56 UZ) 58 [53,57,50] (.t 53) (.t 57) WV<|
 .nil) 59 50 58<|
 .m 60 59<|
 .gO 60 false (.p 61 [5,60] j3<|
 .p 62 [61,60] (.mov (.t 61))<|
 .grp 62 true (.p 63 [0,62] y6<|
 .p 64 [6,62] (.mov (.t 6))<|
 .p 65 [63,64,62] (.idxStr (.t 63) (.t 64))<|
 .cO 66 65 62 65 UZ) 67 [62,66,60] (.t 62) (.t 66) WV<|
 .nil) 68 60 67<|
 .m 69 68<|
 .gO 69 false (.p 70 [0,69] y6<|
 .p 71 [1,69] M9<|
 .op (some 72) (.int .u8) [70,71,69] (.call 42 [(.t 70),(.t 71)])<|
 .op (some 73) .bool [72,69] (.call 43 [(.t 72)])<|
 .nil) 74 69 73<|
 .m 75 74<|
 .gO 75 false (.p 76 [7,75] (.mov (.t 7))<|
 .p 77 [76,75] (.bin .gtr .none (.t 76) (.con (V.int .u64 (AA 9223372036854775808))))<|
 .nil) 78 75 77<|
 .m 79 78<|
 .gO 79 false (.p 80 [5,79] j3<|
 .p 81 [80,79] (.un .not (.t 80))<|
 .p 82 [81,79] (.mov (.t 81))<|
 .grp 82 true (.p 83 [7,82] (.mov (.t 7))<|
 .p 84 [83,82] (.bin .eql .none (.t 83) (.con (V.int .u64 (AA 9223372036854775808))))<|
 .nil) 85 [82,84,79] (.t 82) (.t 84) WV<|
 .nil) 86 79 85<|
 .nil)
 (.cond (.tmp 86) (.z (.aH 4 Z4)
 .ret)
 .skip))
 (.z (.m 87 1<|
 .aC 4 87)
 .ret)))
def pU(E:EB)(D:Am)(W:AJ)(a:BS)(b:Int)(c:Bool)(d e:Int)(U:H):AH:=
 Ab (λf g=>
 Ab (λh i=>
 Ab (λj k=>
 Ab (λl m=>
 Ab (λn o=>
 Ab (λp q=>
 AG p (
 rI (Bh 0) q) (
 rI b q)) λp=>
 AG n (
 p true o) (
 Ab (λn q=>
 p n q) λn=>
 AG (not c) (
 n (Cc e (AA 9223372036854775808)) o) (
 n false o))) λn=>
 AG l (
 n true m) (
 n (Cw (AA 9223372036854775808) e) m)) λl=>
 AG j (
 l true k) (
 BT (D 42 [.str a,.int .i64 b] k) λj k=>
 BZ .u8 j λj=>
 cB (D 43 [.int .u8 j] k) λj k=>
 l j k)) λj=>
 AG h (
 j true i) (
 Ab (λh k=>
 j h k) λh=>
 AG c (
 Az a d λj=>
 h (Cc j (AA 48)) i) (
 h false i))) λh=>
 AG f (
 h true g) (
 Ab (λf i=>
 h f i) λf=>
 AG (Cw (AA 1) (Ez .i64 b d)) (
 Az a d λh=>
 f (Cc h (AA 48)) g) (
 f false g))) λf=>
 AG (Cw (Ez .i64 b d) (AA 1)) (
 f true U) (
 f (Cw (AA 19) (Ez .i64 b d)) U)
def UP(a:XC):XC:=(.seq (.z (.cA 17 1 0<|
 .b 20 .lss .none (.t 17) (.t 19)<|
 .m 21 20<|
 .gA 21 true (.p 22 [0,21] y6<|
 .bN 23 1 21 M9 22 21 22<|
 .op (some 25) .bool [24,21] (.call 46 [(.t 24)])<|
 .nil) 26 21 25<|
 .nil)
 (.cond (.tmp 26) .skip
 QU))
 (.block 1 (.seq (.z (.aD 27 1 6<|
 .b 29 .sub .none (.t 27) (.t 28)<|
 .b 30 .lss .none (.t 29) (.i 19)<|
 .nil)
 (.cond (.tmp 30) (.ops (.m 31 7<|
 .b 32 .mul .none (.con (V.int .u64 (AA 10))) (.t 31)<|
 .bL 33 0 1<|
 .b 36 .sub .none (.t 35) UZ<|
 .P 37 (.conv (.toInt .u64) (.t 36))<|
 .b 38 .add .none (.t 32) (.t 37)<|
 .aC 7 38))
 .skip))
 (.keep Y9 [] [] a))))
def Lq(E:EB)(D:Am)(W:AJ)(j:BS->Int->Bool->Int->Int->H->AH)(i:BS->Int->Bool->Int->Int->H->AH)(a:BS)(b:Int)(c:Bool)(d e:Int)(U:H):AH:=
 Ab (λf g=>
 AG f (
 AG (Cw (Ez .i64 b d) (AA 19)) (
 Az a b λf=>
 i a b c d (BP .u64 (Qx .u64 (AA 10) e) (BH .u64 (Ez .u8 f (AA 48)))) g) (
 i a b c d e g)) (
 j a b c d e g)) λf=>
 AG (Cw b (AA (BS.len a))) (
 Az a b λg=>
 cB (D 46 [.int .u8 g] U) λg h=>
 f g h) (
 f false U)
def Pk:XC:=(.ops (.aK 39 1 1<|
 .aC 1 40))
def TX(E:EB)(D:Am)(W:AJ)(f:BS->Int->Bool->Int->Int->H->AH)(a:BS)(b:Int)(c:Bool)(d e:Int)(U:H):AH:=
 f a (BP .i64 b (AA 1)) c d e U
def AJX(a:BS)(b:Int)(U:H):St:=⟨[(0,.str a),(1,.int .i64 b)],[],[],U⟩
def AJW(a:BS)(b:Int)(c:Bool)(U:H):St:=⟨[(0,.str a),(1,.int .i64 b),(5,.bool c)],[],[],U⟩
def qm(a:BS)(b:Int)(c:Bool)(d e:Int)(U:H):St:=⟨[(0,.str a),(1,.int .i64 b),(5,.bool c),(6,.int .i64 d),(7,.int .u64 e)],[],[],U⟩
def PT(E:EB)(D:Am)(W:AJ)(N:Nat):=pU E D W
def sK(E:EB)(D:Am)(W:AJ)(N:Nat)(a:BS->Int->Bool->Int->Int->H->AH):=TX E D W a
theorem ADc h:
 (λa b c d e U=>A0 E D W N Pk (qm a b c d e U) (kX Y9 [] [] h) (CQ 1 (kX Y9 [] [] h) (AIQ E D W N Pl)) (Pa E))=sK E D W N (λa b c d e U=>h (qm a b c d e U)):=by
 unfold sK;generalize Pl=m;revert m;refine id ?_;intros;kernel_rfl
def Ti(n:Nat):BS->Int->Bool->Int->Int->H->AH:=
 Nat.rec (λ_ _ _ _ _ _=>none) (λ_ a=>Lq E D W (PT E D W N ) (sK E D W N a)) n
theorem ACd n:
 (λa b c d e U=>Bw (λk m=>A0 E D W N (UP Pk) m (kX Y9 [] [] k) (AIQ E D W N Pl) (Pa E)) n (qm a b c d e U))=Ti E D W N n:=yQ (λli=>by rw[<-ADc];generalize Pk=l;revert l;refine id ?_;intros;kernel_rfl) n
def Tp:=AIt E D W (Ti E D W N N)
theorem ADd:
 (λa b c U=>A0 E D W N (gu Pl (UP Pk)) (AJW a b c U) (Pa E) nX (Pa E))=Tp E D W N:=by
 unfold Tp;rw[<-ACd];generalize UP Pk=j,Pl=k;revert j k;refine id ?_;intros;kernel_rfl
def sL:=Rm E D W (Tp E D W N )
theorem ADe:
 (λa b U=>A0 E D W N (zw (gu Pl (UP Pk))) (AJX a b U) (Pa E) nX (Pa E))=sL E D W N:=by
 unfold sL;rw[<-ADd];generalize gu Pl (UP Pk)=i;revert i;refine id ?_;intros;kernel_rfl
def F47(c:List V)(U:H):AH:=
 uD c λa b=>
 sL E D W N a b U
def A47:Dg:=⟨88,[.str,.i],[(.tmp 4)],(zw (gu Pl (UP Pk)))⟩
theorem ALP b U:Bt E D W N A47 b U=F47 E D W N b U:=by
 unfold F47;rw[<-ADe];kernel_rfl
def vU:List (Nat × DN):=[(0,.str),(1,.i),(6,.i)]
def Yc(E:EB):St->AH:=λs=>Dy E s [(.tmp 4),(.tmp 5)] λl=>some (Ek l,s.U)
def AOz(c0:XC):Nat->St->AH:=CQ 0 (dX E D W N (.keep vU [] [] c0) (Yc E) nX (Yc E)) nX
def zu(b:XC)(a:XC):XC:=(.z (.q 4 0<|
 .aH 5 y3)
 (.z (.aK 7 1 1<|
 .m 6 8<|
 .nil)
 (.z (.m 9 6<|
 .m 1 9<|
 .nil)
 (.seq (.block 0 (.loop vU [] [] a))
 (.keep vU [] [] b)))))
def ej(E:EB)(D:Am)(W:AJ)(c:BS->Int->Int->H->AH)(a:BS)(b:Int)(U:H):AH:=
 c a (BP .i64 b (AA 1)) (BP .i64 b (AA 1)) U
def gq:XC:=(.seq (.z (.aD 34 1 6<|
 .b 36 .sub .none (.t 34) (.t 35)<|
 .b 37 .rem .none (.t 36) (.i 2)<|
 .b 38 .neq .none (.t 37) (.i 0)<|
 .m 39 38<|
 .gO 39 false (.p 40 [0,39] y6<|
 .p 41 [1,39] M9<|
 .op (some 42) (.int .u8) [40,41,39] (.call 42 [(.t 40),(.t 41)])<|
 .p 43 [42,39] (.bin .neq .none (.t 42) (.con (V.int .u8 (AA 39))))<|
 .nil) 44 39 43<|
 .m 45 44<|
 .gO 45 false (.p 46 [0,45] y6<|
 .p 47 [1,45] M9<|
 .bT 48 47 45 47 1 46 45 42 46<|
 .p 50 [49,45] (.bin .neq .none (.t 49) (.con (V.int .u8 (AA 72))))<|
 .nil) 51 45 50<|
 .nil)
 (.cond (.tmp 51) (.z (.c 4 Z4<|
 .aH 5 y3)
 .ret)
 .skip))
 (.seq (.draw (.aK 52 1 2<|
 .cP 54 0 6 1<|
 .p 57 [54,55,56] (.sliceStr (.t 54) (some (.t 55)) (some (.t 56)))<|
 .m 4 53<|
 .aC 5 57) [0,1,0,0,0,28,3,127])
 .ret))
def TV(E:EB)(D:Am)(W:AJ)(a:BS)(b c:Int)(U:H):AH:=
 Ab (λd e=>
 Ab (λf g=>
 AG f (
 some ((V.tup [.int .i64 (Bh 0),sN 0 0]),g)) (
 BA a (some (V.int .i64 c)) (some (V.int .i64 b)) λf=>
 some ((V.tup [.int .i64 (BP .i64 b (AA 2)),.str f]),g))) λf=>
 AG d (
 f true e) (
 BT (D 42 [.str a,.int .i64 (BP .i64 b (AA 1))] e) λd e=>
 BZ .u8 d λd=>
 f (not (Cc d (AA 72))) e)) λd=>
 AG (not (Cc (Int.tmod (Ez .i64 b c) (AA 2)) (AA 0))) (
 d true U) (
 BT (D 42 [.str a,.int .i64 b] U) λe f=>
 BZ .u8 e λe=>
 d (not (Cc e (AA 39))) f)
def gn:XC:=(.seq (.z (.cA 10 1 0<|
 .b 13 .lss .none (.t 10) (.t 12)<|
 .m 14 13<|
 .gA 14 true (.p 15 [0,14] y6<|
 .bN 16 1 14 M9 15 14 15<|
 .op (some 18) .bool [17,14] (.call 46 [(.t 17)])<|
 .p 19 [18,14] (.mov (.t 18))<|
 .grp 19 false (.p 20 [0,19] y6<|
 .bN 21 1 19 M9 20 19 20<|
 .p 23 [22,19] (.bin .geq .none (.t 22) y44)<|
 .p 24 [23,19] (.mov (.t 23))<|
 .grp 24 true (.p 25 [0,24] y6<|
 .bN 26 1 24 M9 25 24 25<|
 .bG 28 27 24 27 70) 29 [24,28,19] (.t 24) (.t 28) WV<|
 .nil) 30 [19,29,14] (.t 19) OK (.t 29)<|
 .nil) 31 14 30<|
 .nil)
 (.cond (.tmp 31) .skip
 QU))
 (.block 1 (.ops (.aK 32 1 1<|
 .aC 1 33))))
def Rl(E:EB)(D:Am)(W:AJ)(j:BS->Int->Int->H->AH)(k:BS->Int->Int->H->AH)(a:BS)(b c:Int)(U:H):AH:=
 Ab (λd e=>
 AG d (
 k a (BP .i64 b (AA 1)) c e) (
 j a b c e)) λd=>
 AG (Cw b (AA (BS.len a))) (
 Az a b λe=>
 cB (D 46 [.int .u8 e] U) λe f=>
 Ab (λg h=>
 d g h) λg=>
 AG e (
 g true f) (
 Az a b λe=>
 Ab (λh i=>
 g h i) λg=>
 AG (I2 (AA 65) e) (
 Az a b λe=>
 g (I2 e (AA 70)) f) (
 g false f))) (
 d false U)
def AJV(a:BS)(b:Int)(U:H):St:=⟨[(0,.str a),(1,.int .i64 b)],[],[],U⟩
def AJU(a:BS)(b c:Int)(U:H):St:=⟨[(0,.str a),(1,.int .i64 b),(6,.int .i64 c)],[],[],U⟩
def To(E:EB)(D:Am)(W:AJ)(N:Nat):=TV E D W
def YE(n:Nat):BS->Int->Int->H->AH:=
 Nat.rec (λ_ _ _ _=>none) (λ_ a=>Rl E D W (To E D W N ) a) n
theorem ACc n:
 (λa b c U=>Bw (λe f=>A0 E D W N gn f (kX vU [] [] e) (AOz E D W N gq) (Yc E)) n (AJU a b c U))=YE E D W N n:=vm (λ_=>by kernel_rfl) n
def sJ:=ej E D W (YE E D W N N)
theorem ADb:
 (λa b U=>A0 E D W N (zu gq gn) (AJV a b U) (Yc E) nX (Yc E))=sJ E D W N:=by
 unfold sJ;rw[<-ACc];generalize gq=i,gn=j;revert i j;refine id ?_;intros;kernel_rfl
def F48(c:List V)(U:H):AH:=
 uD c λa b=>
 sJ E D W N a b U
def A48:Dg:=⟨58,[.str,.i],[(.tmp 4),(.tmp 5)],(zu gq gn)⟩
theorem ALO b U:Bt E D W N A48 b U=F48 E D W N b U:=by
 unfold F48;rw[<-ADb];kernel_rfl
def vT:List (Nat × DN):=[(0,.str),(1,.i),(6,.str)]
def T0(E:EB):St->AH:=λs=>Dy E s [(.tmp 4),(.tmp 5)] λl=>some (Ek l,s.U)
def AIP(c0:XC):Nat->St->AH:=CQ 0 (dX E D W N (.keep [] [] [] c0) (T0 E) nX (T0 E)) nX
def zt(b:XC)(a:XC):XC:=(.z (.q 4 0<|
 .aH 5 y3)
 (.z (.aH 6 y3)
 (.seq (.z (.aK 7 1 1<|
 .m 1 8<|
 .nil)
 (.block 0 (.loop vT [] [] a)))
 (.keep [] [] [] b))))
def eh(E:EB)(D:Am)(W:AJ)(c:BS->Int->BS->H->AH)(a:BS)(b:Int)(U:H):AH:=
 c a (BP .i64 b (AA 1)) (BS.mk 0 0) U
def UO:XC:=(.z (.c 4 Z4<|
 .aH 5 y3)
 .ret)
def AIs(E:EB)(D:Am)(W:AJ)(U:H):AH:=
 some ((V.tup [.int .i64 (Bh 0),sN 0 0]),U)
def gj(a:XC):XC:=(.seq (.z (.cA 9 1 0<|
 .aS 12 9 11)
 y77)
 (.seq (.block 1 (.seq (.z (.bL 15 0 1<|
 .b 18 .neq .none (.t 17) y43<|
 .nil)
 (.cond (.tmp 18) (.z (.aD 19 6 0<|
 .aD 21 1 1<|
 .b 23 .add .none (.t 22) (.i 1)<|
 .p 24 [20,21,23] (.sliceStr (.t 20) (some (.t 21)) (some (.t 23)))<|
 .b 25 .add .none (.t 19) (.t 24)<|
 .aC 6 25)
 (.exit 1))
 .skip))
 (.seq (.z (.aD 26 0 1<|
 .b 28 .add .none (.t 27) (.i 1)<|
 .k 29 (.int .u8) 42 [(.t 26),(.t 28)]<|
 .b 30 .neq .none (.t 29) y43<|
 .nil)
 (.cond (.tmp 30) (.seq (.z (.cD 31 6 .bool 74<|
 .aL 33 32)
 (.cond (.tmp 33) (.z (.c 4 Z4<|
 .aH 5 y3)
 .ret)
 .skip))
 (.z (.aK 34 1 1<|
 .m 36 6<|
 .m 4 35<|
 .aC 5 36)
 .ret))
 .skip))
 (.z (.m 37 6<|
 .b 38 .add .none (.t 37) (.con (V.str ⟨1,34⟩))<|
 .aC 6 38)
 (.ops (.aK 39 1 1<|
 .aC 1 40))))))
 (.keep vT [] [] a)))
def KI(E:EB)(D:Am)(W:AJ)(h:H->AH)(g:BS->Int->BS->H->AH)(a:BS)(b:Int)(c:BS)(U:H):AH:=
 AG (Cw b (AA (BS.len a))) (
 Az a b λd=>
 AG (not (Cc d (AA 34))) (
 BA a (some (V.int .i64 b)) (some (V.int .i64 (BP .i64 b (AA 1)))) λd=>
 XS c d λd=>
 g a b d U) (
 BT (D 42 [.str a,.int .i64 (BP .i64 b (AA 1))] U) λd e=>
 BZ .u8 d λd=>
 AG (not (Cc d (AA 34))) (
 cB (D 74 [.str c] e) λd f=>
 AG (not d) (
 some ((V.tup [.int .i64 (Bh 0),sN 0 0]),f)) (
 some ((V.tup [.int .i64 (BP .i64 b (AA 1)),.str c]),f))) (
 XS c (BS.mk 1 34) λd=>
 g a (BP .i64 b (AA 1)) d e))) (
 h U)
def UN:XC:=(.ops (.aK 13 1 1<|
 .aC 1 14))
def TU(E:EB)(D:Am)(W:AJ)(d:BS->Int->BS->H->AH)(a:BS)(b:Int)(c:BS)(U:H):AH:=
 d a (BP .i64 b (AA 1)) c U
def AJT(a:BS)(b:Int)(U:H):St:=⟨[(0,.str a),(1,.int .i64 b)],[],[],U⟩
def ql(a:BS)(b:Int)(c:BS)(U:H):St:=⟨[(0,.str a),(1,.int .i64 b),(6,.str c)],[],[],U⟩
def sH(E:EB)(D:Am)(W:AJ)(N:Nat):=AIs E D W
def sG(E:EB)(D:Am)(W:AJ)(N:Nat)(a:BS->Int->BS->H->AH):=TU E D W a
theorem ADZ li2:
 (λa b c U=>A0 E D W N UN (ql a b c U) (kX vT [] [] li2) (AIP E D W N UO) (T0 E))=sG E D W N (λa b c U=>li2 (ql a b c U)):=by
 unfold sG;generalize UO=j;revert j;refine id ?_;intros;kernel_rfl
def YD(n:Nat):BS->Int->BS->H->AH:=
 Nat.rec (λ_ _ _ _=>none) (λ_ a=>KI E D W (sH E D W N ) (sG E D W N a)) n
theorem ACb n:
 (λa b c U=>Bw (λi k=>A0 E D W N (gj UN) k (kX vT [] [] i) (AIP E D W N UO) (T0 E)) n (ql a b c U))=YD E D W N n:=vm (λli=>by rw[<-ADZ];generalize UN=j;revert j;refine id ?_;intros;kernel_rfl) n
def sI:=eh E D W (YD E D W N N)
theorem ADa:
 (λa b U=>A0 E D W N (zt UO (gj UN)) (AJT a b U) (T0 E) nX (T0 E))=sI E D W N:=by
 unfold sI;rw[<-ACb];generalize gj UN=i,UO=j;revert i j;refine id ?_;intros;kernel_rfl
def F49(c:List V)(U:H):AH:=
 uD c λa b=>
 sI E D W N a b U
def A49:Dg:=⟨41,[.str,.i],[(.tmp 4),(.tmp 5)],(zt UO (gj UN))⟩
theorem ALN b U:Bt E D W N A49 b U=F49 E D W N b U:=by
 unfold F49;rw[<-ADa];kernel_rfl
def AHM:List (Nat × DN):=[(5,.str),(6,.any),(7,.i)]
def Yb(E:EB):St->AH:=λs=>Dy E s [(.tmp 4)] λl=>some (Ek l,s.U)
def AOy(c0:XC):Nat->St->AH:=CQ 0 (dX E D W N (.keep [] [] [] c0) (Yb E) nX (Yb E)) nX
def zr(b:XC)(a:XC):XC:=(.z (.bV 4 0)
 (.z (.aD 9 0 1<|
 .p 11 [9,10] (.sliceStr (.t 9) (some (.t 10)) none)<|
 .m 5 11<|
 .nil)
 (.z (.p 12 [] (.buildSlice 9 13 [y3,y3,y3,y3,y3,y3,y3,y3,y3,y3,y3,y3,y3] [(0,1,y51),(1,1,xX),(2,1,(.con (V.str ⟨2,11822⟩))),(3,1,(.con (V.str ⟨2,23387⟩))),(4,1,(.con (V.str ⟨2,23901⟩))),(5,1,ub),(6,1,ua),(7,1,y60),(8,1,(.con (V.str ⟨1,93⟩))),(9,1,tZ),(10,1,tu),(11,1,kF),(12,1,(.con (V.str ⟨1,58⟩)))])<|
 .m 6 12<|
 .nil)
 (.seq (.z (.bV 7 0)
 (.block 0 (.loop AHM [] [] a)))
 (.keep [] [] [] b)))))
def eg(E:EB)(D:Am)(W:AJ)(e:BS->V->Int->H->AH)(a:BS)(b:Int)(U:H):AH:=
 BA a (some (V.int .i64 b)) none λc=>
 let d:=B9 U (.cells [sN 3 4012602,sN 3 3026478,sN 2 11822,sN 2 23387,sN 2 23901,sN 1 123,sN 1 125,sN 1 91,sN 1 93,sN 1 40,sN 1 41,sN 1 44,sN 1 58]);
 e c (V.sl (H.next U) 0 13 (.ex 13)) (AA 0) d
def gh:XC:=(.z (.bV 4 0)
 .ret)
def Xn(E:EB)(D:Am)(W:AJ)(U:H):AH:=
 rI (AA 0) U
def gg:XC:=(.seq (.z (.aD 13 7 6<|
 .u 15 14<|
 .aS 16 13 15)
 xe)
 (.seq (.block 1 (.z (.aD 19 6 7<|
 .s 21 1 19 20<|
 .l 22 .str 21<|
 .P 23 (.len true (.t 22))<|
 .aC 8 23)
 (.seq (.draw (.aW 24 5<|
 .m 26 8<|
 .b 27 .geq .none (.t 25) (.t 26)<|
 .m 28 27<|
 .gA 28 true (.p 29 [5,28] j3<|
 .p 30 [8,28] tY<|
 .p 31 [29,30,28] (.sliceStr (.t 29) none (some (.t 30)))<|
 .p 32 [6,28] (.mov (.t 6))<|
 .p 33 [7,28] (.mov (.t 7))<|
 .p 34 [32,33,28] (.iaddrS 1 (.t 32) (.t 33))<|
 .op (some 35) .str [34,28] (.load none (.t 34))<|
 .bC 36 31 35 28 31 35) 37 28 36<|
 .nil) [0,1,0,7,15,31,31,127,31,31,799,1823,4095,8191])
 (.cond (.tmp 37) (.z (.m 38 8<|
 .aC 4 38)
 .ret)
 .skip))))
 xi))
def Rk(E:EB)(D:Am)(W:AJ)(h:H->AH)(i:BS->V->Int->H->AH)(a:BS)(b:V)(c:Int)(U:H):AH:=
 BV b λd=>
 AG (Cw c (AA d)) (
 Bl 1 b c λd e=>
 lS E U d e λd=>
 Ab (λe f=>
 AG e (
 rI (AA (BS.len d)) f) (
 i a b (BP .i64 c (AA 1)) f)) λe=>
 AG (I2 (AA (BS.len d)) (AA (BS.len a))) (
 BA a none (some (V.int .i64 (AA (BS.len d)))) λd=>
 Bl 1 b c λf g=>
 lS E U f g λf=>
 e (BS.beq d f) U) (
 e false U)) (
 h U)
def AJS(a:BS)(b:Int)(U:H):St:=⟨[(0,.str a),(1,.int .i64 b)],[],[],U⟩
def AJR(a:BS)(b:V)(c:Int)(U:H):St:=⟨[(5,.str a),(6,b),(7,.int .i64 c)],[],[],U⟩
def AKX(E:EB)(D:Am)(W:AJ)(N:Nat):=Xn E D W
def YC(n:Nat):BS->V->Int->H->AH:=
 Nat.rec (λ_ _ _ _=>none) (λ_ a=>Rk E D W (AKX E D W N ) a) n
theorem ACa n:
 (λa b c U=>Bw (λe f=>A0 E D W N gg f (kX AHM [] [] e) (AOy E D W N gh) (Yb E)) n (AJR a b c U))=YC E D W N n:=vm (λ_=>by kernel_rfl) n
def sF:=eg E D W (YC E D W N N)
theorem ADY:
 (λa b U=>A0 E D W N (zr gh gg) (AJS a b U) (Yb E) nX (Yb E))=sF E D W N:=by
 unfold sF;rw[<-ACa];generalize gh=i,gg=j;revert i j;refine id ?_;intros;kernel_rfl
def F50(c:List V)(U:H):AH:=
 uD c λa b=>
 sF E D W N a b U
def A50:Dg:=⟨39,[.str,.i],[(.tmp 4)],(zr gh gg)⟩
theorem ALM b U:Bt E D W N A50 b U=F50 E D W N b U:=by
 unfold F50;rw[<-ADY];kernel_rfl
def AMg:XC:=(.z (.aH 4 Z6)
 (.seq (.seq (.draw (.aX 5 0 1 .i<|
 .m 9 1<|
 .b 10 .add .none (.t 8) (.t 9)<|
 .aX 11 0 0 .str<|
 .P 15 (.len true (.t 14))<|
 .b 16 .geq .none (.t 10) (.t 15)<|
 .nil) [0,1,3,7,0,31,0,64,192,448,960,2047])
 (.cond (.tmp 16) (.z (.aH 4 Z6)
 .ret)
 .skip))
 (.seq (.draw (.aX 17 0 0 .str<|
 .aX 21 0 1 .i<|
 .m 25 1<|
 .b 26 .add .none (.t 24) (.t 25)<|
 .P 27 (.idxStr (.t 20) (.t 26))<|
 .aC 4 27) [0,1,3,7,0,16,48,112,0,496,1023,2047])
 .ret)))
def pT(E:EB)(D:Am)(W:AJ)(a b:Nat)(c:Int)(U:H):AH:=
 lI E U a (AN b 1) λd=>
 lS E U a b λe=>
 AG (I2 (AA (BS.len e)) (BP .i64 d c)) (
 some ((V.int .u8 (AA 0)),U)) (
 lS E U a b λd=>
 lI E U a (AN b 1) λe=>
 Az d (BP .i64 e c) λd=>
 some ((V.int .u8 d),U))
def F51(N:Nat)(d:List V)(U:H):AH:=
 uI d λa b c=>
 pT E D W a b c U
def A51:Dg:=⟨28,[.ptr,.i],[(.tmp 4)],AMg⟩
theorem ALL b U:Bt E D W N A51 b U=F51 E D W N b U:=by kernel_rfl
def AMf:XC:=(.z (.aH 4 y1)
 (.seq (.draw (.aX 5 0 0 .str<|
 .aX 9 0 1 .i<|
 .p 13 [8,12] (.sliceStr (.t 8) (some (.t 12)) none)<|
 .m 14 1<|
 .k 15 .bool 75 [(.t 13),(.t 14)]<|
 .aC 4 15) [0,1,3,7,0,16,48,112,255,0,1023,2047])
 .ret))
def pS(E:EB)(D:Am)(W:AJ)(a b:Nat)(c:BS)(U:H):AH:=
 lS E U a b λd=>
 lI E U a (AN b 1) λe=>
 BA d (some (V.int .i64 e)) none λd=>
 cB (D 75 [.str d,.str c] U) λd e=>
 rB d e
def F52(N:Nat)(d:List V)(U:H):AH:=
 uJ d λa b c=>
 pS E D W a b c U
def A52:Dg:=⟨16,[.ptr,.str],[(.tmp 4)],AMf⟩
theorem ALK b U:Bt E D W N A52 b U=F52 E D W N b U:=by kernel_rfl
def AMe:XC:=(.z (.aH 2 y1)
 (.z (.m 3 0<|
 .b 4 .geq .none (.t 3) y65<|
 .m 5 4<|
 .gA 5 true (.p 6 [0,5] y6<|
 .bG 7 6 5 6 122) 8 5 7<|
 .m 9 8<|
 .gO 9 false (.p 10 [0,9] y6<|
 .p 11 [10,9] (.bin .geq .none (.t 10) y44)<|
 .p 12 [11,9] (.mov (.t 11))<|
 .grp 12 true (.p 13 [0,12] y6<|
 .p 14 [13,12] (.bin .leq .none (.t 13) y64)<|
 .nil) 15 [12,14,9] (.t 12) (.t 14) WV<|
 .nil) 16 9 15<|
 .aC 2 16)
 .ret))
def pR(E:EB)(D:Am)(W:AJ)(a:Int)(U:H):AH:=
 Ab (λb c=>
 Ab (λd e=>
 rB d e) λd=>
 AG b (
 d true c) (
 Ab (λb e=>
 d b e) λb=>
 AG (I2 (AA 65) a) (
 b (I2 a (AA 90)) c) (
 b false c))) λb=>
 AG (I2 (AA 97) a) (
 b (I2 a (AA 122)) U) (
 b false U)
def F53(N:Nat)(c:List V)(U:H):AH:=
 F0 .u8 c λa b=>
 BD b (
 pR E D W a U)
def A53:Dg:=⟨17,[(.int .u8)],[(.tmp 2)],AMe⟩
theorem ALJ b U:Bt E D W N A53 b U=F53 E D W N b U:=by kernel_rfl
def AHL:List (Nat × DN):=[(0,.ptr),(4,.i),(5,(.int .u8))]
def Ya(E:EB):St->AH:=λs=>Dy E s [(.tmp 2),(.tmp 3)] λl=>some (Ek l,s.U)
def AOx(c0:XC):Nat->St->AH:=CQ 0 (dX E D W N (.keep [(0,.ptr),(4,.i)] [] [] c0) (Ya E) nX (Ya E)) nX
def zq(b:XC)(a:XC):XC:=(.z (.q 2 0<|
 .aH 3 y3)
 (.z (.aA 7 0 0<|
 .aO 10 1 9 .i<|
 .m 4 11<|
 .nil)
 (.seq (.z (.bX 12 0 0 51 0<|
 .aC 5 15)
 (.block 0 (.loop AHL [] [] a)))
 (.keep [(0,.ptr),(4,.i)] [] [] b))))
def eY(E:EB)(D:Am)(W:AJ)(f:Nat->Nat->Int->Int->H->AH)(a b:Nat)(U:H):AH:=
 lI E U a (AN b 1) λc=>
 BT (D 51 [.ptr a b,iN 0] U) λd e=>
 BZ .u8 d λd=>
 f a b c d e
def gf:XC:=(.seq (.draw (.aA 46 0 0<|
 .aO 49 0 48 .str<|
 .m 51 4<|
 .aA 52 0 0<|
 .aO 55 1 54 .i<|
 .p 57 [50,51,56] (.sliceStr (.t 50) (some (.t 51)) (some (.t 56)))<|
 .aC 6 57) [0,1,3,7,15,0,0,64,192,448,960,2047,4095])
 (.seq (.block 2 (.z (.aW 59 6<|
 .bQ 61 60 60<|
 .gO 62 false (.p 63 [6,62] (.mov (.t 6))<|
 .p 64 [6,62] (.mov (.t 6))<|
 .p 65 [64,62] (.len true (.t 64))<|
 .p 66 [65,62] (.bin .sub .none (.t 65) (.i 1))<|
 .p 67 [63,66,62] (.idxStr (.t 63) (.t 66))<|
 .cO 68 67 62 67 Yx) 69 62 68<|
 .aC 58 69)
 (.cond (.tmp 58) (.z (.q 2 0<|
 .aH 3 y3)
 .ret)
 (.z (.m 71 6<|
 .k 72 .bool 76 [(.t 71)]<|
 .m 70 72<|
 .nil)
 (.cond (.tmp 70) (.z (.m 73 6<|
 .q 2 5<|
 .aC 3 73)
 .ret)
 (.z (.bF 75 6 0<|
 .b 77 .leq .none (.t 76) y64<|
 .m 74 77<|
 .nil)
 (.cond (.tmp 74) (.z (.m 78 6<|
 .q 2 1<|
 .aC 3 78)
 .ret)
 .skip)))))))
 (.z (.m 79 6<|
 .q 2 2<|
 .aC 3 79)
 .ret)))
def pQ(E:EB)(D:Am)(W:AJ)(a b:Nat)(c:Int)(U:H):AH:=
 lS E U a b λd=>
 lI E U a (AN b 1) λe=>
 BA d (some (V.int .i64 c)) (some (V.int .i64 e)) λd=>
 Ab (λe f=>
 AG e (
 some ((V.tup [iN 0,sN 0 0]),f)) (
 cB (D 76 [.str d] f) λe f=>
 AG e (
 some ((V.tup [iN 5,.str d]),f)) (
 Az d (AA 0) λe=>
 AG (I2 e (AA 90)) (
 some ((V.tup [iN 1,.str d]),f)) (
 some ((V.tup [iN 2,.str d]),f))))) λe=>
 AG (Cw (AA 60) (AA (BS.len d))) (
 e true U) (
 Az d (Ez .i64 (AA (BS.len d)) (AA 1)) λd=>
 e (Cc d (AA 45)) U)
def gZ:XC:=(.seq (.z (.cD 16 5 .bool 53<|
 .m 18 17<|
 .gO 18 false (.p 19 [5,18] j3<|
 .op (some 20) .bool [19,18] (.call 55 [(.t 19)])<|
 .nil) 21 18 20<|
 .m 22 21<|
 .gO 22 false (.p 23 [5,22] j3<|
 .p 24 [23,22] (.bin .eql .none (.t 23) Yx)<|
 .p 25 [24,22] (.mov (.t 24))<|
 .grp 25 true (.p 26 [0,25] y6<|
 .bI 27 26 25 26 25 0<|
 .op (some 29) (.int .u8) [28,25] (.call 51 [(.t 28),(.i 1)])<|
 .p 30 [29,25] (.bin .neq .none (.t 29) Yx)<|
 .nil) 31 [25,30,22] (.t 25) (.t 30) WV<|
 .nil) 32 22 31<|
 .nil)
 (.cond (.tmp 32) .skip
 QU))
 (.seq (.block 1 (.ops (.bK 37 0 0 1 1 0<|
 .aT 45 1 44 1 42)))
 (.ops (.bX 33 0 0 51 0<|
 .aC 5 36))))
def N4(E:EB)(D:Am)(W:AJ)(l:Nat->Nat->Int->H->AH)(m:Nat->Nat->Int->Int->H->AH)(a b:Nat)(c d:Int)(U:H):AH:=
 cB (D 53 [.int .u8 d] U) λe f=>
 Ab (λg h=>
 Ab (λi j=>
 AG i (
 lI E j a (AN b 1) λi=>
 Cg 1 a (AN b 1) (V.int .i64 (BP .i64 i (AA 1))) j λi=>
 BT (D 51 [.ptr a b,iN 0] i) λi k=>
 BZ .u8 i λi=>
 m a b c i k) (
 l a b c j)) λi=>
 AG g (
 i true h) (
 Ab (λg j=>
 i g j) λg=>
 AG (Cc d (AA 45)) (
 BT (D 51 [.ptr a b,iN 1] h) λi j=>
 BZ .u8 i λi=>
 g (not (Cc i (AA 45))) j) (
 g false h))) λg=>
 AG e (
 g true f) (
 cB (D 55 [.int .u8 d] f) λe f=>
 g e f)
def AJQ(a b:Nat)(U:H):St:=⟨[(0,.ptr a b)],[],[],U⟩
def AJP(a b:Nat)(c d:Int)(U:H):St:=⟨[(0,.ptr a b),(4,.int .i64 c),(5,.int .u8 d)],[],[],U⟩
def fc(E:EB)(D:Am)(W:AJ)(N:Nat):=pQ E D W
def YB(n:Nat):Nat->Nat->Int->Int->H->AH:=
 Nat.rec (λ_ _ _ _ _=>none) (λ_ a=>N4 E D W (fc E D W N ) a) n
theorem ACZ n:
 (λa b c d U=>Bw (λf g=>A0 E D W N gZ g (kX AHL [] [] f) (AOx E D W N gf) (Ya E)) n (AJP a b c d U))=YB E D W N n:=Yn (λ_=>by kernel_rfl) n
def sE:=eY E D W (YB E D W N N)
theorem ADX:
 (λa b U=>A0 E D W N (zq gf gZ) (AJQ a b U) (Ya E) nX (Ya E))=sE E D W N:=by
 unfold sE;rw[<-ACZ];generalize gf=i,gZ=j;revert i j;refine id ?_;intros;kernel_rfl
def F54(d:List V)(U:H):AH:=
 Aj d λa b=>
 CM a λa c=>
 BD b (
 sE E D W N a c U)
def A54:Dg:=⟨80,[.ptr],[(.tmp 2),(.tmp 3)],(zq gf gZ)⟩
theorem ALI b U:Bt E D W N A54 b U=F54 E D W N b U:=by
 unfold F54;rw[<-ADX];kernel_rfl
def AMd:XC:=(.z (.aH 2 y1)
 (.z (.m 3 0<|
 .b 4 .geq .none (.t 3) UZ<|
 .m 5 4<|
 .gA 5 true (.p 6 [0,5] y6<|
 .bG 7 6 5 6 57) 8 5 7<|
 .m 2 8<|
 .nil)
 .ret))
def pP(E:EB)(D:Am)(W:AJ)(a:Int)(U:H):AH:=
 Ab (λb c=>
 rB b c) λb=>
 AG (I2 (AA 48) a) (
 b (I2 a (AA 57)) U) (
 b false U)
def F55(N:Nat)(c:List V)(U:H):AH:=
 F0 .u8 c λa b=>
 BD b (
 pP E D W a U)
def A55:Dg:=⟨9,[(.int .u8)],[(.tmp 2)],AMd⟩
theorem ALH b U:Bt E D W N A55 b U=F55 E D W N b U:=by kernel_rfl
def vS:List (Nat × DN):=[(0,.ptr),(4,.i),(5,.i)]
def SR(E:EB):St->AH:=λs=>Dy E s [(.tmp 2),(.tmp 3)] λl=>some (Ek l,s.U)
def AOw(c0:XC):Nat->St->AH:=CQ 0 (dX E D W N (.keep vS [] [] c0) (SR E) nX (SR E)) nX
def zp(a:XC):XC:=(.z (.q 2 0<|
 .aH 3 y3)
 (.z (.aA 10 0 0<|
 .aO 13 1 12 .i<|
 .aC 4 14)
 (.seq (.z (.bX 15 0 0 51 0<|
 .b 19 .eql .none (.t 18) Yx<|
 .nil)
 (.cond (.tmp 19) (.ops (.bK 20 0 0 1 1 0<|
 .aT 28 1 27 1 25))
 .skip))
 (.keep [(0,.ptr),(4,.i)] [] [] a))))
def TT(E:EB)(D:Am)(W:AJ)(f:Nat->Nat->Int->H->AH)(a b:Nat)(U:H):AH:=
 lI E U a (AN b 1) λc=>
 BT (D 51 [.ptr a b,iN 0] U) λd e=>
 BZ .u8 d λd=>
 AG (Cc d (AA 45)) (
 lI E e a (AN b 1) λd=>
 Cg 1 a (AN b 1) (V.int .i64 (BP .i64 d (AA 1))) e λd=>
 f a b c d) (
 f a b c e)
def gY(a:XC)(b:XC):XC:=(.z (.aA 29 0 0<|
 .aO 32 1 31 .i<|
 .aC 5 33)
 (.seq (.block 0 (.loop vS [] [] b))
 (.keep vS [] [] a)))
def eX(E:EB)(D:Am)(W:AJ)(e:Nat->Nat->Int->Int->H->AH)(a b:Nat)(c:Int)(U:H):AH:=
 lI E U a (AN b 1) λd=>
 e a b c d U
def UM:XC:=(.seq (.draw (.aA 48 0 0<|
 .aO 51 0 50 .str<|
 .m 53 4<|
 .aA 54 0 0<|
 .aO 57 1 56 .i<|
 .p 59 [52,53,58] (.sliceStr (.t 52) (some (.t 53)) (some (.t 58)))<|
 .aA 60 0 0<|
 .aO 63 0 62 .str<|
 .m 65 5<|
 .P 66 (.idxStr (.t 64) (.t 65))<|
 .b 67 .eql .none (.t 66) UZ<|
 .m 6 59<|
 .aC 7 67) [0,1,3,7,15,0,0,64,192,448,960,2047,0,4096,12288,28672,61440,0,258048,520192,4095,2097151])
 (.seq (.z (.m 69 6<|
 .k 70 (.tup [.i,.any]) 77 [(.t 69),(.i 10),(.i 64)]<|
 .m 68 70<|
 .aB 71 0 68 1 68<|
 .m 8 71<|
 .aC 9 72)
 (.z (.m 73 9<|
 .b 74 .neq (.iface true) (.t 73) (.con V.nili)<|
 .m 75 74<|
 .gO 75 false (.p 76 [7,75] (.mov (.t 7))<|
 .p 77 [76,75] (.mov (.t 76))<|
 .grp 77 true (.p 78 [0,77] y6<|
 .bI 79 78 77 78 77 0<|
 .aF 81 80 77 1 80 77<|
 .p 83 [5,77] j3<|
 .p 84 [82,83,77] (.bin .sub .none (.t 82) (.t 83))<|
 .p 85 [84,77] (.bin .gtr .none (.t 84) (.i 1))<|
 .p 86 [85,77] (.mov (.t 85))<|
 .grp 86 false (.p 87 [5,86] j3<|
 .p 88 [4,86] (.mov (.t 4))<|
 .p 89 [87,88,86] (.bin .gtr .none (.t 87) (.t 88))<|
 .nil) 90 [86,89,77] (.t 86) OK (.t 89)<|
 .nil) 91 [77,90,75] (.t 77) (.t 90) WV<|
 .nil) 92 75 91<|
 .m 93 92<|
 .gO 93 false (.p 94 [0,93] y6<|
 .bI 95 94 93 94 93 0<|
 .op (some 97) (.int .u8) [96,93] (.call 51 [(.t 96),(.i 0)])<|
 .op (some 98) .bool [97,93] (.call 53 [(.t 97)])<|
 .nil) 99 93 98<|
 .nil)
 (.cond (.tmp 99) (.z (.q 2 0<|
 .aH 3 y3)
 .ret)
 .skip)))
 (.z (.m 100 6<|
 .q 2 3<|
 .aC 3 100)
 .ret)))
def eW(E:EB)(D:Am)(W:AJ)(a b:Nat)(c d:Int)(U:H):AH:=
 lS E U a b λe=>
 lI E U a (AN b 1) λf=>
 BA e (some (V.int .i64 c)) (some (V.int .i64 f)) λe=>
 lS E U a b λf=>
 Az f d λf=>
 cT (D 77 [.str e,iN 10,iN 64] U) λg h=>
 uW g λg i=>
 Sh (.iface true) i V.nili λg=>
 Ab (λi j=>
 Ab (λk l=>
 AG k (
 some ((V.tup [iN 0,sN 0 0]),l)) (
 some ((V.tup [iN 3,.str e]),l))) λe=>
 AG i (
 e true j) (
 BT (D 51 [.ptr a b,iN 0] j) λi j=>
 BZ .u8 i λi=>
 cB (D 53 [.int .u8 i] j) λi j=>
 e i j)) λe=>
 AG (not g) (
 e true h) (
 Ab (λg i=>
 e g i) λe=>
 AG (Cc f (AA 48)) (
 lI E h a (AN b 1) λf=>
 Ab (λg i=>
 e g i) λg=>
 AG (Cw (AA 1) (Ez .i64 f d)) (
 g true h) (
 g (Cw c d) h)) (
 e false h))
def UK:XC:=(.seq (.z (.bX 34 0 0 51 0<|
 .k 38 .bool 55 [(.t 37)]<|
 .nil)
 (.cond (.tmp 38) .skip
 QU))
 (.block 1 (.ops (.bK 39 0 0 1 1 0<|
 .aT 47 1 46 1 44))))
def N3(E:EB)(D:Am)(W:AJ)(g:Nat->Nat->Int->Int->H->AH)(h:Nat->Nat->Int->Int->H->AH)(a b:Nat)(c d:Int)(U:H):AH:=
 BT (D 51 [.ptr a b,iN 0] U) λe f=>
 BZ .u8 e λe=>
 cB (D 55 [.int .u8 e] f) λe f=>
 AG e (
 lI E f a (AN b 1) λe=>
 Cg 1 a (AN b 1) (V.int .i64 (BP .i64 e (AA 1))) f λe=>
 h a b c d e) (
 g a b c d f)
def AJO(a b:Nat)(U:H):St:=⟨[(0,.ptr a b)],[],[],U⟩
def AJN(a b:Nat)(c:Int)(U:H):St:=⟨[(0,.ptr a b),(4,.int .i64 c)],[],[],U⟩
def AJM(a b:Nat)(c d:Int)(U:H):St:=⟨[(0,.ptr a b),(4,.int .i64 c),(5,.int .i64 d)],[],[],U⟩
def YO(E:EB)(D:Am)(W:AJ)(N:Nat):=eW E D W
def YA(n:Nat):Nat->Nat->Int->Int->H->AH:=
 Nat.rec (λ_ _ _ _ _=>none) (λ_ a=>N3 E D W (YO E D W N ) a) n
theorem ACY n:
 (λa b c d U=>Bw (λf g=>A0 E D W N UK g (kX vS [] [] f) (AOw E D W N UM) (SR E)) n (AJM a b c d U))=YA E D W N n:=Yn (λ_=>by kernel_rfl) n
def SP:=eX E D W (YA E D W N N)
theorem ADV:
 (λa b c U=>A0 E D W N (gY UM UK) (AJN a b c U) (SR E) nX (SR E))=SP E D W N:=by
 unfold SP;rw[<-ACY];generalize UM=j,UK=k;revert j k;refine id ?_;intros;kernel_rfl
def sD:=TT E D W (SP E D W N )
theorem ADW:
 (λa b U=>A0 E D W N (zp (gY UM UK)) (AJO a b U) (SR E) nX (SR E))=sD E D W N:=by
 unfold sD;rw[<-ADV];generalize gY UM UK=i;revert i;refine id ?_;intros;kernel_rfl
def F56(d:List V)(U:H):AH:=
 Aj d λa b=>
 CM a λa c=>
 BD b (
 sD E D W N a c U)
def A56:Dg:=⟨101,[.ptr],[(.tmp 2),(.tmp 3)],(zp (gY UM UK))⟩
theorem ALG b U:Bt E D W N A56 b U=F56 E D W N b U:=by
 unfold F56;rw[<-ADW];kernel_rfl
def AHK:List (Nat × DN):=[(0,.ptr),(4,.i),(5,(.int .u8))]
def YZ(E:EB):St->AH:=λs=>Dy E s [(.tmp 2),(.tmp 3)] λl=>some (Ek l,s.U)
def AOv(c0:XC):Nat->St->AH:=CQ 0 (dX E D W N (.keep [(0,.ptr),(4,.i)] [] [] c0) (YZ E) nX (YZ E)) nX
def zo(b:XC)(a:XC):XC:=(.z (.q 2 0<|
 .aH 3 y3)
 (.z (.bK 7 0 0 1 1 0<|
 .aT 15 1 14 1 12)
 (.z (.aA 16 0 0<|
 .aO 19 1 18 .i<|
 .aC 4 20)
 (.seq (.z (.bX 21 0 0 51 0<|
 .aC 5 24)
 (.block 0 (.loop AHK [] [] a)))
 (.keep [(0,.ptr),(4,.i)] [] [] b)))))
def eQ(E:EB)(D:Am)(W:AJ)(f:Nat->Nat->Int->Int->H->AH)(a b:Nat)(U:H):AH:=
 lI E U a (AN b 1) λc=>
 Cg 1 a (AN b 1) (V.int .i64 (BP .i64 c (AA 1))) U λc=>
 lI E c a (AN b 1) λd=>
 BT (D 51 [.ptr a b,iN 0] c) λc e=>
 BZ .u8 c λc=>
 f a b d c e
def gX:XC:=(.seq (.draw (.aA 48 0 0<|
 .aO 51 0 50 .str<|
 .m 53 4<|
 .aA 54 0 0<|
 .aO 57 1 56 .i<|
 .p 59 [52,53,58] (.sliceStr (.t 52) (some (.t 53)) (some (.t 58)))<|
 .aC 6 59) [0,1,3,7,15,0,0,64,192,448,960,2047,4095])
 (.seq (.z (.aW 60 6<|
 .b 62 .rem .none (.t 61) (.i 2)<|
 .b 63 .neq .none (.t 62) (.i 0)<|
 .m 64 63<|
 .gO 64 false (.p 65 [0,64] y6<|
 .bI 66 65 64 65 64 0<|
 .op (some 68) .bool [67,64] (.call 52 [(.t 67),(.con (V.str ⟨2,18471⟩))])<|
 .cG 69 68 64 68) 70 64 69<|
 .nil)
 (.cond (.tmp 70) (.z (.q 2 0<|
 .aH 3 y3)
 .ret)
 .skip))
 (.z (.bK 71 0 0 1 2 0<|
 .aT 79 1 78 1 76)
 (.z (.m 80 6<|
 .q 2 4<|
 .aC 3 80)
 .ret))))
def Xm(E:EB)(D:Am)(W:AJ)(a b:Nat)(c:Int)(U:H):AH:=
 lS E U a b λd=>
 lI E U a (AN b 1) λe=>
 BA d (some (V.int .i64 c)) (some (V.int .i64 e)) λd=>
 Ab (λe f=>
 AG e (
 some ((V.tup [iN 0,sN 0 0]),f)) (
 lI E f a (AN b 1) λe=>
 Cg 1 a (AN b 1) (V.int .i64 (BP .i64 e (AA 2))) f λe=>
 some ((V.tup [iN 4,.str d]),e))) λe=>
 AG (not (Cc (Int.tmod (AA (BS.len d)) (AA 2)) (AA 0))) (
 e true U) (
 cB (D 52 [.ptr a b,sN 2 18471] U) λd f=>
 e (not d) f)
def gW:XC:=(.seq (.z (.cD 25 5 .bool 55<|
 .m 27 26<|
 .gO 27 false (.p 28 [5,27] j3<|
 .p 29 [28,27] (.bin .geq .none (.t 28) y44)<|
 .p 30 [29,27] (.mov (.t 29))<|
 .grp 30 true (.p 31 [5,30] j3<|
 .bG 32 31 30 31 70) 33 [30,32,27] (.t 30) (.t 32) WV<|
 .nil) 34 27 33<|
 .nil)
 (.cond (.tmp 34) .skip
 QU))
 (.seq (.block 1 (.ops (.bK 39 0 0 1 1 0<|
 .aT 47 1 46 1 44)))
 (.ops (.bX 35 0 0 51 0<|
 .aC 5 38))))
def N2(E:EB)(D:Am)(W:AJ)(j:Nat->Nat->Int->H->AH)(k:Nat->Nat->Int->Int->H->AH)(a b:Nat)(c d:Int)(U:H):AH:=
 cB (D 55 [.int .u8 d] U) λe f=>
 Ab (λg h=>
 AG g (
 lI E h a (AN b 1) λg=>
 Cg 1 a (AN b 1) (V.int .i64 (BP .i64 g (AA 1))) h λg=>
 BT (D 51 [.ptr a b,iN 0] g) λg i=>
 BZ .u8 g λg=>
 k a b c g i) (
 j a b c h)) λg=>
 AG e (
 g true f) (
 Ab (λe h=>
 g e h) λe=>
 AG (I2 (AA 65) d) (
 e (I2 d (AA 70)) f) (
 e false f))
def AJL(a b:Nat)(U:H):St:=⟨[(0,.ptr a b)],[],[],U⟩
def AJK(a b:Nat)(c d:Int)(U:H):St:=⟨[(0,.ptr a b),(4,.int .i64 c),(5,.int .u8 d)],[],[],U⟩
def fZ(E:EB)(D:Am)(W:AJ)(N:Nat):=Xm E D W
def X9(n:Nat):Nat->Nat->Int->Int->H->AH:=
 Nat.rec (λ_ _ _ _ _=>none) (λ_ a=>N2 E D W (fZ E D W N ) a) n
theorem ACX n:
 (λa b c d U=>Bw (λf g=>A0 E D W N gW g (kX AHK [] [] f) (AOv E D W N gX) (YZ E)) n (AJK a b c d U))=X9 E D W N n:=Yn (λ_=>by kernel_rfl) n
def sC:=eQ E D W (X9 E D W N N)
theorem ADU:
 (λa b U=>A0 E D W N (zo gX gW) (AJL a b U) (YZ E) nX (YZ E))=sC E D W N:=by
 unfold sC;rw[<-ACX];generalize gX=i,gW=j;revert i j;refine id ?_;intros;kernel_rfl
def F57(d:List V)(U:H):AH:=
 Aj d λa b=>
 CM a λa c=>
 BD b (
 sC E D W N a c U)
def A57:Dg:=⟨81,[.ptr],[(.tmp 2),(.tmp 3)],(zo gX gW)⟩
theorem ALF b U:Bt E D W N A57 b U=F57 E D W N b U:=by
 unfold F57;rw[<-ADU];kernel_rfl
def Y8:List (Nat × DN):=[(0,.ptr),(4,.any)]
def PZ(E:EB):St->AH:=λs=>Dy E s [(.tmp 2),(.tmp 3)] λl=>some (Ek l,s.U)
def we(c0:XC):Nat->St->AH:=CQ 0 (dX E D W N (.keep [] [] [] c0) (PZ E) nX (PZ E)) nX
def AIO(c0 b:XC)(a:St->AH):St->AH:=dX E D W N (.keep Y8 [] [] c0) (kX Y8 [] [] a) (we E D W N b) (PZ E)
def zn(b:XC)(a:XC):XC:=(.z (.q 2 0<|
 .aH 3 y3)
 (.z (.c 4 V.nils<|
 .nil)
 (.seq (.z (.bK 5 0 0 1 1 0<|
 .aT 13 1 12 1 10)
 (.block 0 (.loop Y8 [] [] a)))
 (.keep [] [] [] b))))
def eP(E:EB)(D:Am)(W:AJ)(d:Nat->Nat->V->H->AH)(a b:Nat)(U:H):AH:=
 lI E U a (AN b 1) λc=>
 Cg 1 a (AN b 1) (V.int .i64 (BP .i64 c (AA 1))) U λc=>
 d a b V.nils c
def Mo:XC:=(.z (.q 2 0<|
 .aH 3 y3)
 .ret)
def AIr(E:EB)(D:Am)(W:AJ)(U:H):AH:=
 some ((V.tup [iN 0,sN 0 0]),U)
def gV(b:XC)(a:XC):XC:=(.seq (.seq (.draw (.aA 14 0 0<|
 .aO 17 1 16 .i<|
 .aA 19 0 0<|
 .aO 22 0 21 .str<|
 .P 24 (.len true (.t 23))<|
 .aS 25 18 24) [0,1,3,7,15,0,32,96,224,480,992,2047])
 (.cond (.tmp 25) .skip
 QU))
 (.seq (.block 1 (.seq (.z (.bX 35 0 0 51 0<|
 .b 39 .eql .none (.t 38) y43<|
 .nil)
 (.cond (.tmp 39) (.z (.bK 40 0 0 1 1 0<|
 .aT 48 1 47 1 45)
 (.z (.aA 49 0 0<|
 .k 52 (.int .u8) 51 [(.t 51),(.i 0)]<|
 .b 53 .neq .none (.t 52) y43<|
 .nil)
 (.cond (.tmp 53) (.seq (.z (.cD 54 4 .bool 78<|
 .aL 56 55)
 (.cond (.tmp 56) (.z (.q 2 0<|
 .aH 3 y3)
 .ret)
 .skip))
 (.seq (.draw (.m 57 4<|
 .P 58 (.conv .toStr (.t 57))<|
 .q 2 7<|
 .aC 3 58) [0,1,0,7])
 .ret))
 .skip)))
 .skip))
 (.keep Y8 [] [] a)))
 (.keep Y8 [] [] b)))
def KH(E:EB)(D:Am)(W:AJ)(i:H->AH)(h:Nat->Nat->V->H->AH)(a b:Nat)(c:V)(U:H):AH:=
 lI E U a (AN b 1) λd=>
 lS E U a b λe=>
 AG (Cw d (AA (BS.len e))) (
 BT (D 51 [.ptr a b,iN 0] U) λd e=>
 BZ .u8 d λd=>
 AG (Cc d (AA 34)) (
 lI E e a (AN b 1) λd=>
 Cg 1 a (AN b 1) (V.int .i64 (BP .i64 d (AA 1))) e λd=>
 BT (D 51 [.ptr a b,iN 0] d) λd f=>
 BZ .u8 d λd=>
 AG (not (Cc d (AA 34))) (
 cB (D 78 [c] f) λd g=>
 AG (not d) (
 some ((V.tup [iN 0,sN 0 0]),g)) (
 KS E g c λd=>
 some ((V.tup [iN 7,.str d]),g))) (
 h a b c f)) (
 h a b c e)) (
 i U)
def OF:XC:=(.ops (.bK 26 0 0 1 1 0<|
 .aT 34 1 33 1 31))
def eM(E:EB)(D:Am)(W:AJ)(e:Nat->Nat->V->H->AH)(a b:Nat)(c:V)(U:H):AH:=
 lI E U a (AN b 1) λd=>
 Cg 1 a (AN b 1) (V.int .i64 (BP .i64 d (AA 1))) U λd=>
 e a b c d
def UJ:XC:=(.ops (.m 59 4<|
 .bX 60 0 0 51 0<|
 .p 64 [63] (.buildSlice 5 1 [Z6] [(0,1,(.t 63))])<|
 .O 65 .one (.append 5 1 1 (.t 59) (.t 64))<|
 .aC 4 65))
def eL(E:EB)(D:Am)(W:AJ)(g:Nat->Nat->V->H->AH)(a b:Nat)(c:V)(U:H):AH:=
 BT (D 51 [.ptr a b,iN 0] U) λd e=>
 BZ .u8 d λd=>
 let f:=B9 e (.cells [.int .u8 d]);
 Gv E 1 1 c (V.sl (H.next e) 0 1 (.ex 1)) f λd e=>
 E2 d (
 g a b d e)
def AJJ(a b:Nat)(U:H):St:=⟨[(0,.ptr a b)],[],[],U⟩
def X1(a b:Nat)(c:V)(U:H):St:=⟨[(0,.ptr a b),(4,c)],[],[],U⟩
def sA(E:EB)(D:Am)(W:AJ)(N:Nat):=AIr E D W
def rz(E:EB)(D:Am)(W:AJ)(N:Nat)(a:Nat->Nat->V->H->AH):=eM E D W a
theorem ADS li2:
 (λa b c U=>A0 E D W N OF (X1 a b c U) (kX Y8 [] [] li2) (we E D W N Mo) (PZ E))=rz E D W N (λa b c U=>li2 (X1 a b c U)):=by
 unfold rz;generalize Mo=j;revert j;refine id ?_;intros;kernel_rfl
def YN(a:Nat->Nat->V->H->AH):=eL E D W (rz E D W N a)
theorem ADR li2:
 (λa b c U=>A0 E D W N UJ (X1 a b c U) (AIO E D W N OF Mo li2) (CQ 1 (AIO E D W N OF Mo li2) (we E D W N Mo)) (PZ E))=YN E D W N (λa b c U=>li2 (X1 a b c U)):=by
 unfold YN;rw[<-ADS];generalize Mo=j,OF=k;revert j k;refine id ?_;intros;kernel_rfl
def SI(n:Nat):Nat->Nat->V->H->AH:=
 Nat.rec (λ_ _ _ _=>none) (λ_ a=>KH E D W (sA E D W N ) (YN E D W N a)) n
theorem ACW n:
 (λa b c U=>Bw (λi j=>A0 E D W N (gV OF UJ) j (kX Y8 [] [] i) (we E D W N Mo) (PZ E)) n (X1 a b c U))=SI E D W N n:=vm (λli=>by rw[<-ADR];generalize OF=k,UJ=l;revert k l;refine id ?_;intros;kernel_rfl) n
def sB:=eP E D W (SI E D W N N)
theorem ADT:
 (λa b U=>A0 E D W N (zn Mo (gV OF UJ)) (AJJ a b U) (PZ E) nX (PZ E))=sB E D W N:=by
 unfold sB;rw[<-ACW];generalize gV OF UJ=i,Mo=j;revert i j;refine id ?_;intros;kernel_rfl
def F58(d:List V)(U:H):AH:=
 Aj d λa b=>
 CM a λa c=>
 BD b (
 sB E D W N a c U)
def A58:Dg:=⟨66,[.ptr],[(.tmp 2),(.tmp 3)],(zn Mo (gV OF UJ))⟩
theorem ALE b U:Bt E D W N A58 b U=F58 E D W N b U:=by
 unfold F58;rw[<-ADT];kernel_rfl
def AHJ:List (Nat × DN):=[(0,.ptr),(6,.any),(7,.i),(8,.i)]
def YY(E:EB):St->AH:=λs=>Dy E s [(.tmp 2),(.tmp 3)] λl=>some (Ek l,s.U)
def AOu(c0:XC):Nat->St->AH:=CQ 0 (dX E D W N (.keep [] [] [] c0) (YY E) nX (YY E)) nX
def zm(b:XC)(a:XC):XC:=(.z (.q 2 0<|
 .aH 3 y3)
 (.seq (.z (.p 6 [] (.buildSlice 9 13 [y3,y3,y3,y3,y3,y3,y3,y3,y3,y3,y3,y3,y3] [(0,1,y51),(1,1,xX),(2,1,(.con (V.str ⟨2,11822⟩))),(3,1,(.con (V.str ⟨2,23387⟩))),(4,1,(.con (V.str ⟨2,23901⟩))),(5,1,ub),(6,1,ua),(7,1,y60),(8,1,(.con (V.str ⟨1,93⟩))),(9,1,tZ),(10,1,tu),(11,1,kF),(12,1,(.con (V.str ⟨1,58⟩)))])<|
 .u 7 6<|
 .bV 8 0)
 (.block 0 (.loop AHJ [] [] a)))
 (.keep [] [] [] b)))
def eJ(E:EB)(D:Am)(W:AJ)(e:Nat->Nat->V->Int->Int->H->AH)(a b:Nat)(U:H):AH:=
 let c:=B9 U (.cells [sN 3 4012602,sN 3 3026478,sN 2 11822,sN 2 23387,sN 2 23901,sN 1 123,sN 1 125,sN 1 91,sN 1 93,sN 1 40,sN 1 41,sN 1 44,sN 1 58]);
 BV (V.sl (H.next U) 0 13 (.ex 13)) λd=>
 e a b (V.sl (H.next U) 0 13 (.ex 13)) (AA d) (AA 0) c
def gU:XC:=(.z (.q 2 0<|
 .aH 3 y3)
 .ret)
def AIq(E:EB)(D:Am)(W:AJ)(U:H):AH:=
 some ((V.tup [iN 0,sN 0 0]),U)
def gT:XC:=(.z (.aS 9 8 7)
 (.seq y58
 (.seq (.block 1 (.z (.s 10 1 6 8<|
 .l 11 .str 10<|
 .m 5 11<|
 .nil)
 (.z (.aA 12 0 0<|
 .m 15 5<|
 .k 16 .bool 52 [(.t 14),(.t 15)]<|
 .nil)
 (.cond (.tmp 16) (.z (.aA 17 0 0<|
 .aO 20 1 19 .i<|
 .aW 22 5<|
 .b 24 .add .none (.t 21) (.t 23)<|
 .n 25 17<|
 .f 26 0 25<|
 .aT 27 1 26 1 24)
 (.z (.m 28 5<|
 .q 2 6<|
 .aC 3 28)
 .ret))
 .skip))))
 (.ops (.b 29 .add .none (.t 8) (.i 1)<|
 .aC 8 29)))))
def N1(E:EB)(D:Am)(W:AJ)(i:H->AH)(j:Nat->Nat->V->Int->Int->H->AH)(a b:Nat)(c:V)(d e:Int)(U:H):AH:=
 AG (Cw e d) (
 Bl 1 c e λf g=>
 lS E U f g λf=>
 cB (D 52 [.ptr a b,.str f] U) λg h=>
 AG g (
 lI E h a (AN b 1) λg=>
 Cg 1 a (AN b 1) (V.int .i64 (BP .i64 g (AA (BS.len f)))) h λg=>
 some ((V.tup [iN 6,.str f]),g)) (
 j a b c d (BP .i64 e (AA 1)) h)) (
 i U)
def AJI(a b:Nat)(U:H):St:=⟨[(0,.ptr a b)],[],[],U⟩
def AJH(a b:Nat)(c:V)(d e:Int)(U:H):St:=⟨[(0,.ptr a b),(6,c),(7,.int .i64 d),(8,.int .i64 e)],[],[],U⟩
def rv(E:EB)(D:Am)(W:AJ)(N:Nat):=AIq E D W
def X8(n:Nat):Nat->Nat->V->Int->Int->H->AH:=
 Nat.rec (λ_ _ _ _ _ _=>none) (λ_ a=>N1 E D W (rv E D W N ) a) n
theorem ACV n:
 (λa b c d e U=>Bw (λg h=>A0 E D W N gT h (kX AHJ [] [] g) (AOu E D W N gU) (YY E)) n (AJH a b c d e U))=X8 E D W N n:=yQ (λ_=>by kernel_rfl) n
def ry:=eJ E D W (X8 E D W N N)
theorem ADQ:
 (λa b U=>A0 E D W N (zm gU gT) (AJI a b U) (YY E) nX (YY E))=ry E D W N:=by
 unfold ry;rw[<-ACV];generalize gU=i,gT=j;revert i j;refine id ?_;intros;kernel_rfl
def F59(d:List V)(U:H):AH:=
 Aj d λa b=>
 CM a λa c=>
 BD b (
 ry E D W N a c U)
def A59:Dg:=⟨30,[.ptr],[(.tmp 2),(.tmp 3)],(zm gU gT)⟩
theorem ALD b U:Bt E D W N A59 b U=F59 E D W N b U:=by
 unfold F59;rw[<-ADQ];kernel_rfl
def AMc(a:XC):XC:=(.z (.aH 6 y1)
 (.seq (.z (.m 7 0<|
 .n 8 7<|
 .aO 9 8 8 .i<|
 .cE 11 10 0)
 (.cond (.tmp 11) (.ops (.aD 12 0 0<|
 .aD 14 1 2<|
 .n 16 12<|
 .f 17 7 16<|
 .w 1 17 14<|
 .n 18 13<|
 .aT 19 8 18 1 15))
 .skip))
 (.keep [] [] [] a)))
def eI(E:EB)(D:Am)(W:AJ)(f:H->AH)(a b:Nat)(c d:Int)(U:H):AH:=
 lI E U a (AN b 8) λe=>
 AG (Cc e (AA 0)) (
 Cg 1 a (AN b 7) (V.int .i64 c) U λe=>
 Cg 1 a (AN b 8) (V.int .i64 d) e λe=>
 f e) (
 f U)
def AMb:XC:=(.z (.aH 6 y1)
 .ret)
def eH(E:EB)(D:Am)(W:AJ)(U:H):AH:=
 rB false U
def AKW(E:EB)(D:Am)(W:AJ)(N:Nat):=eH E D W
def F60(e:List V)(U:H):AH:=
 uX e λa b c d=>
 eI E D W (AKW E D W N ) a b c d U
def A60:Dg:=⟨20,[.ptr,.i,.i],[(.tmp 6)],(AMc AMb)⟩
theorem ALC b U:Bt E D W N A60 b U=F60 E D W N b U:=by kernel_rfl
def AMa(a:XC):XC:=(.z (.pal 2 [] 38 [y0,y3,y0]<|
 .nil)
 (.seq (.draw (.aX 4 0 0 .any<|
 .aX 8 0 1 .i<|
 .cB 12 3 7 11 y4 3<|
 .pal 3 [] 38 [y0,y3,y0]<|
 .op none y4 [3,13] (.store 3 (.t 3) (.t 13))<|
 .nil) [0,1,3,7,0,16,48,112,255,511,0,2047])
 (.seq (.z (.aO 14 0 3 .i<|
 .b 16 .neq .none (.t 15) (.i 0)<|
 .nil)
 (.cond (.tmp 16) (.ops (.cH 17 0 1 1<|
 .aT 23 1 22 1 21))
 .skip))
 (.keep [] [2,3] [(2,[.i,.str,.i]),(3,[.i,.str,.i])] a))))
def eE(E:EB)(D:Am)(W:AJ)(g:Int->BS->Int->Int->BS->Int->H->AH)(a b:Nat)(U:H):AH:=
 Ee E U a b λc=>
 lI E U a (AN b 1) λd=>
 iX E U 3 c d λc=>
 uG c λc d e=>
 AG (not (Cc c (AA 0))) (
 lI E U a (AN b 1) λf=>
 Cg 1 a (AN b 1) (V.int .i64 (BP .i64 f (AA 1))) U λf=>
 g (AA 0) (BS.mk 0 0) (AA 0) c d e f) (
 g (AA 0) (BS.mk 0 0) (AA 0) c d e U)
def AMZ:XC:=(.z (.aQ 24 y4 3 3 y4 2 3 2<|
 .nil)
 .ret)
def eD(E:EB)(D:Am)(W:AJ)(a:Int)(b:BS)(c d:Int)(e:BS)(f:Int)(U:H):AH:=
 some ((V.agg (eG d e f)),U)
def AKV(E:EB)(D:Am)(W:AJ)(N:Nat):=eD E D W
def F61(d:List V)(U:H):AH:=
 Aj d λa b=>
 CM a λa c=>
 BD b (
 eE E D W (AKV E D W N ) a c U)
def A61:Dg:=⟨25,[.ptr],[(.cell 2 (some 3))],(AMa AMZ)⟩
theorem ALB b U:Bt E D W N A61 b U=F61 E D W N b U:=by kernel_rfl
def AMY:XC:=(.z (.aH 4 y1)
 (.seq (.z (.aD 5 0 1<|
 .k 7 .bool 28 [(.t 5),(.t 6)]<|
 .aL 8 7)
 (.cond (.tmp 8) (.z (.aH 4 y1)
 .ret)
 .skip))
 (.z (.bP 9 0 y4 61<|
 .nil)
 (.z (.aH 4 y9)
 .ret))))
def pO(E:EB)(D:Am)(W:AJ)(a:V)(b:BS)(U:H):AH:=
 cB (D 28 [a,.str b] U) λc d=>
 AG (not c) (
 rB false d) (
 cA (D 61 [a] d) λc d=>
 uG c λc e f=>
 rB true d)
def F62(N:Nat)(c:List V)(U:H):AH:=
 uQ c λa b=>
 pO E D W a b U
def A62:Dg:=⟨11,[.any,.str],[(.tmp 4)],AMY⟩
theorem ALA b U:Bt E D W N A62 b U=F62 E D W N b U:=by kernel_rfl
def AMX:XC:=(.z (.q 4 0<|
 .aH 5 y1)
 (.z (.aA 10 0 0<|
 .k 13 y4 29 [(.t 12)]<|
 .pal 6 [] 38 [y0,y3,y0]<|
 .op none y4 [6,13] (.store 3 (.t 6) (.t 13))<|
 .nil)
 (.seq (.block 0 (.z (.O 15 y4 (.load (some 3) (.t 6))<|
 .k 16 .bool 79 [(.t 15)]<|
 .P 17 (.un .not (.t 16))<|
 .m 14 17<|
 .nil)
 (.cond (.tmp 14) (.z (.m 18 0<|
 .aO 19 2 6 .i<|
 .k 21 .bool 60 [(.t 18),(.t 20),(.i 7)]<|
 .q 4 0<|
 .aC 5 21)
 .ret)
 (.z (.m 23 1<|
 .bQ 24 23 16<|
 .gO 25 false (.p 26 [0,25] y6<|
 .bI 27 26 25 26 25 2<|
 .aE 29 28 25 4 28 25<|
 .p 31 [30,25] (.len false (.t 30))<|
 .p 32 [31,25] (.bin .geq .none (.t 31) (.i 300))<|
 .nil) 33 25 32<|
 .aC 22 33)
 (.cond (.tmp 22) (.z (.m 34 0<|
 .aO 35 2 6 .i<|
 .k 37 .bool 60 [(.t 34),(.t 36),(.i 5)]<|
 .q 4 0<|
 .aC 5 37)
 .ret)
 .skip)))))
 (.z (.aA 38 0 2<|
 .aO 41 4 40 .any<|
 .u 43 42<|
 .aC 7 43)
 (.z (.m 44 0<|
 .aA 45 0 2<|
 .aO 48 4 47 .any<|
 .op (some 50) y2 [] (.build [y0,y3,y1,y0,y0,y1,y1,y1,y1,y0,y0,V.nils,V.nils,y0,y1,y0] [])<|
 .p 51 [50] (.buildSlice 47 1 [y0,y3,y1,y0,y0,y1,y1,y1,y1,y0,y0,V.nils,V.nils,y0,y1,y0] [(0,16,(.t 50))])<|
 .O 52 .one (.append 47 16 144 (.t 49) (.t 51))<|
 .n 53 44<|
 .f 54 2 53<|
 .aT 55 4 54 1 52)
 (.z (.aD 57 0 1<|
 .k 59 (.tup [y2,.bool]) 80 [(.t 57),(.t 58)]<|
 .m 56 59<|
 .aB 60 0 56 1 56<|
 .pal 8 [] 47 [y0,y3,y1,y0,y0,y1,y1,y1,y1,y0,y0,V.nils,V.nils,y0,y1,y0]<|
 .op none y2 [8,60] (.store 16 (.t 8) (.t 60))<|
 .aC 9 61)
 (.seq (.z (.m 62 9<|
 .aL 63 62)
 (.cond (.tmp 63) (.z (.q 4 0<|
 .aH 5 y1)
 .ret)
 .skip))
 (.seq (.draw (.aA 64 0 2<|
 .aO 67 4 66 .any<|
 .cK 69 7 y2 16 8<|
 .s 71 16 68 69<|
 .op none y2 [71,70] (.store 16 (.t 71) (.t 70))<|
 .nil) [0,1,3,7,15,0,0,127,255])
 (.z (.m 72 7<|
 .m 4 72<|
 .aH 5 y9)
 .ret)))))))))
def Rj(E:EB)(D:Am)(W:AJ)(a b:Nat)(c:Int)(U:H):AH:=
 cA (D 29 [.ptr a b] U) λd e=>
 uG d λd f g=>
 cB (D 79 [.agg (eG d f g)] e) λd e=>
 AG (not d) (
 cB (D 60 [.ptr a b,.int .i64 g,iN 7] e) λd f=>
 some ((V.tup [iN 0,.bool d]),f)) (
 Ab (λd f=>
 AG d (
 cB (D 60 [.ptr a b,.int .i64 g,iN 5] f) λd g=>
 some ((V.tup [iN 0,.bool d]),g)) (
 lL E f a (AN (AN b 2) 4) λd=>
 Ee E f a (AN (AN b 2) 4) λg=>
 let h:=B9 f (.cells [iN 0,sN 0 0,.bool false,iN 0,iN 0,.bool false,.bool false,.bool false,.bool false,iN 0,iN 0,V.nils,V.nils,iN 0,.bool false,iN 0]);
 Gv E 16 144 g (V.sl (H.next f) 0 1 (.ex 1)) h λf g=>
 E2 f (
 Cg 1 a (AN (AN b 2) 4) f g λf=>
 cT (D 80 [.ptr a b,.int .i64 c] f) λf g=>
 Aj f λf h=>
 Cl f λf=>
 uK f λf i j k l m n o p q r s t u v w=>
 LA h λh x=>
 BD x (
 JK (BM (eK f i j k l m n o p q r s t u v w)) (
 AG (not h) (
 some ((V.tup [iN 0,.bool false]),g)) (
 Ee E g a (AN (AN b 2) 4) λh=>
 Bl 16 h (AA d) λh x=>
 Cg 16 h x (V.agg (eK f i j k l m n o p q r s t u v w)) g λf=>
 some ((V.tup [.int .i64 (AA d),.bool true]),f))))))) λd=>
 AG (Cw (AA 16) c) (
 d true e) (
 lL E e a (AN (AN b 2) 4) λf=>
 d (I2 (AA 300) (AA f)) e))
def F63(N:Nat)(d:List V)(U:H):AH:=
 uI d λa b c=>
 Rj E D W a b c U
def A63:Dg:=⟨73,[.ptr,.i],[(.tmp 4),(.tmp 5)],AMX⟩
theorem AK9 b U:Bt E D W N A63 b U=F63 E D W N b U:=by kernel_rfl
def AHI:List (Nat × DN):=[(0,.str),(3,.bool),(4,(.int .u64)),(5,.i)]
def AHH:List (Nat × DN):=[(3,.bool),(4,(.int .u64))]
def SQ(E:EB):St->AH:=λs=>Dy E s [(.tmp 2)] λl=>some (Ek l,s.U)
def AOt(c0:XC):Nat->St->AH:=CQ 0 (dX E D W N (.keep AHH [] [] c0) (SQ E) nX (SQ E)) nX
def zl(a:XC):XC:=(.z (.bV 2 0)
 (.z (.bF 6 0 0<|
 .aR 8 7 Yx 3)
 (.seq (.z (.aC 9 3)
 (.cond (.tmp 9) (.ops (.aY 10 0 1<|
 .aC 0 11))
 .skip))
 (.keep [(0,.str),(3,.bool)] [] [] a))))
def Ri(E:EB)(D:Am)(W:AJ)(d:BS->Bool->H->AH)(a:BS)(U:H):AH:=
 Az a (AA 0) λb=>
 AG (Cc b (AA 45)) (
 BA a (some (iN 1)) none λc=>
 d c (Cc b (AA 45)) U) (
 d a (Cc b (AA 45)) U)
def gS(a:XC)(b:XC):XC:=(.z (.aH 4 Sp)
 (.seq (.z (.bV 5 0)
 (.block 0 (.loop AHI [] [] b)))
 (.keep AHH [] [] a)))
def AIp(E:EB)(D:Am)(W:AJ)(c:BS->Bool->Int->Int->H->AH)(a:BS)(b:Bool)(U:H):AH:=
 c a b (AA 0) (AA 0) U
def T9:XC:=(.seq (.z (.aC 26 3)
 (.cond (.tmp 26) (.z (.m 27 4<|
 .b 28 .sub .none (.t 27) y66<|
 .P 29 (.conv (.toInt .i64) (.t 28))<|
 .P 30 (.un .neg (.t 29))<|
 .b 31 .sub .none (.t 30) (.i 1)<|
 .aC 2 31)
 .ret)
 .skip))
 (.z (.m 32 4<|
 .P 33 (.conv (.toInt .i64) (.t 32))<|
 .aC 2 33)
 .ret))
def eC(E:EB)(D:Am)(W:AJ)(a:Bool)(b:Int)(U:H):AH:=
 AG a (
 rI (Ez .i64 (mP .i64 (BH .i64 (Ez .u64 b (AA 1)))) (AA 1)) U) (
 rI (BH .i64 b) U)
def T8:XC:=(.seq (.z (.cA 12 5 0<|
 .aS 15 12 14)
 (.cond (.tmp 15) .skip
 QU))
 (.seq (.block 1 (.ops (.m 18 4<|
 .b 19 .mul .none (.con (V.int .u64 (AA 10))) (.t 18)<|
 .bL 20 0 5<|
 .b 23 .sub .none (.t 22) UZ<|
 .P 24 (.conv (.toInt .u64) (.t 23))<|
 .b 25 .add .none (.t 19) (.t 24)<|
 .aC 4 25)))
 (.ops (.aK 16 5 1<|
 .aC 5 17))))
def Rh(E:EB)(D:Am)(W:AJ)(f:Bool->Int->H->AH)(g:BS->Bool->Int->Int->H->AH)(a:BS)(b:Bool)(c d:Int)(U:H):AH:=
 AG (Cw d (AA (BS.len a))) (
 Az a d λe=>
 g a b (BP .u64 (Qx .u64 (AA 10) c) (BH .u64 (Ez .u8 e (AA 48)))) (BP .i64 d (AA 1)) U) (
 f b c U)
def AJG(a:BS)(U:H):St:=⟨[(0,.str a)],[],[],U⟩
def AJF(a:BS)(b:Bool)(U:H):St:=⟨[(0,.str a),(3,.bool b)],[],[],U⟩
def AJE(a:BS)(b:Bool)(c d:Int)(U:H):St:=⟨[(0,.str a),(3,.bool b),(4,.int .u64 c),(5,.int .i64 d)],[],[],U⟩
def SO(E:EB)(D:Am)(W:AJ)(N:Nat):=eC E D W
def fQ(n:Nat):BS->Bool->Int->Int->H->AH:=
 Nat.rec (λ_ _ _ _ _=>none) (λ_ a=>Rh E D W (SO E D W N ) a) n
theorem ACU n:
 (λa b c d U=>Bw (λf g=>A0 E D W N T8 g (kX AHI [] [] f) (AOt E D W N T9) (SQ E)) n (AJE a b c d U))=fQ E D W N n:=Yn (λ_=>by kernel_rfl) n
def Tn:=AIp E D W (fQ E D W N N)
theorem ADO:
 (λa b U=>A0 E D W N (gS T9 T8) (AJF a b U) (SQ E) nX (SQ E))=Tn E D W N:=by
 unfold Tn;rw[<-ACU];generalize T9=i,T8=j;revert i j;refine id ?_;intros;kernel_rfl
def ru:=Ri E D W (Tn E D W N )
theorem ADP:
 (λa U=>A0 E D W N (zl (gS T9 T8)) (AJG a U) (SQ E) nX (SQ E))=ru E D W N:=by
 unfold ru;rw[<-ADO];generalize gS T9 T8=h;revert h;refine id ?_;intros;kernel_rfl
def F64(c:List V)(U:H):AH:=
 NA c λa b=>
 BD b (
 ru E D W N a U)
def A64:Dg:=⟨34,[.str],[(.tmp 2)],(zl (gS T9 T8))⟩
theorem AK8 b U:Bt E D W N A64 b U=F64 E D W N b U:=by
 unfold F64;rw[<-ADP];kernel_rfl
def AMW:XC:=(.z (.pal 2 [] 43 [y1,y1,y1,y1,y0,y0]<|
 .nil)
 (.seq (.z (.cN 4 0 .bool 14 tZ<|
 .aL 6 5)
 (.cond (.tmp 6) (.z (.op (some 7) y7 [] (.build [y1,y1,y1,y1,y0,y0] [])<|
 .op none y7 [2,7] (.store 6 (.t 2) (.t 7))<|
 .nil)
 .ret)
 .skip))
 (.z (.m 8 0<|
 .k 9 Jl 13 [(.t 8),y75]<|
 .nil)
 (.z (.m 10 0<|
 .k 11 Jl 13 [(.t 10),tZ]<|
 .nil)
 (.z (.bP 12 0 y7 66<|
 .pal 3 [] 43 [y1,y1,y1,y1,y0,y0]<|
 .op none y7 [3,13] (.store 6 (.t 3) (.t 13))<|
 .nil)
 (.z (.bH 14 0 Jl 13 tu)
 (.z (.bH 16 0 Jl 13 tu)
 (.z (.aQ 18 y7 6 3 y7 2 6 2<|
 .nil)
 .ret))))))))
def eB(E:EB)(D:Am)(W:AJ)(a:V)(U:H):AH:=
 cB (D 14 [a,sN 1 40] U) λb c=>
 AG (not b) (
 some ((V.agg [.bool false,.bool false,.bool false,.bool false,iN 0,iN 0]),c)) (
 c0 (D 13 [a,sN 4 1163544915] c) λb=>
 c0 (D 13 [a,sN 1 40] b) λb=>
 cA (D 66 [a] b) λb c=>
 uN b λb d e f g h=>
 c0 (D 13 [a,sN 1 41] c) λc=>
 c0 (D 13 [a,sN 1 41] c) λc=>
 some ((V.agg (eN b d e f g h)),c))
def F65(N:Nat)(c:List V)(U:H):AH:=
 Aj c λa b=>
 BD b (
 eB E D W a U)
def A65:Dg:=⟨19,[.any],[(.cell 2 (some 6))],AMW⟩
theorem AK7 b U:Bt E D W N A65 b U=F65 E D W N b U:=by kernel_rfl
def AA4:List (Nat × List DN):=[(2,[.bool,.bool,.bool,.bool,.i,.i]),(3,[.bool,.bool,.bool,.bool,.i,.i])]
def AMV(a:XC):XC:=(.z (.pal 2 [] 43 [y1,y1,y1,y1,y0,y0]<|
 .nil)
 (.z (.op (some 4) y7 [] (.build [y1,y1,y1,y1,y0,y0] [(0,1,OK)])<|
 .pal 3 [] 43 [y1,y1,y1,y1,y0,y0]<|
 .op none y7 [3,4] (.store 6 (.t 3) (.t 4))<|
 .nil)
 (.seq (.z (.m 5 0<|
 .k 6 .bool 14 [(.t 5),y80]<|
 .aL 7 6)
 (.cond (.tmp 7) (.ops (.cD 8 0 .i 33<|
 .bA 10 1 3 1 OK<|
 .aT 11 4 3 1 9))
 .skip))
 (.keep [(0,.any)] [2,3] AA4 a))))
def Xl(E:EB)(D:Am)(W:AJ)(e:V->Bool->Bool->Bool->Bool->Int->Int->Bool->Bool->Bool->Bool->Int->Int->H->AH)(a:V)(U:H):AH:=
 cB (D 14 [a,sN 3 5130573] U) λb c=>
 AG (not b) (
 cI (D 33 [a] c) λb d=>
 e a false false false false (AA 0) (AA 0) true true false false b (AA 0) d) (
 e a false false false false (AA 0) (AA 0) true false false false (AA 0) (AA 0) c)
def AMU(a:XC):XC:=(.seq (.block 0 (.z (.m 13 0<|
 .k 14 .bool 14 [(.t 13),(.con (V.str ⟨2,11822⟩))]<|
 .m 12 14<|
 .nil)
 (.cond (.tmp 12) (.z (.cN 15 0 .bool 14 y81<|
 .aL 17 16)
 (.cond (.tmp 17) (.ops (.cD 18 0 .i 33<|
 .bA 20 2 3 1 OK<|
 .aT 21 5 3 1 19))
 .skip))
 (.z (.aO 23 1 3 .bool<|
 .m 22 24<|
 .nil)
 (.cond (.tmp 22) (.ops (.aO 25 4 3 .i<|
 .bA 27 2 3 1 OK<|
 .aT 28 5 3 1 26))
 .skip)))))
 (.keep [(0,.any)] [2,3] AA4 a))
def Rf(E:EB)(D:Am)(W:AJ)(r:V->Bool->Bool->Bool->Bool->Int->Int->Bool->Bool->Bool->Bool->Int->Int->H->AH)(a:V)(b c d e:Bool)(f g:Int)(h i j k:Bool)(l m:Int)(U:H):AH:=
 cB (D 14 [a,sN 2 11822] U) λn o=>
 AG n (
 cB (D 14 [a,sN 3 5783885] o) λn p=>
 AG (not n) (
 cI (D 33 [a] p) λn q=>
 r a b c d e f g h i true k l n q) (
 r a b c d e f g h i j k l m p)) (
 AG i (
 r a b c d e f g h i true k l l o) (
 r a b c d e f g h i j k l m o))
def AMT(a:XC):XC:=(.seq (.z (.cN 29 0 .bool 14 kF<|
 .nil)
 (.cond (.tmp 30) (.z (.bH 31 0 Jl 13 xX)
 (.ops (.bA 33 3 3 1 OK<|
 .nil)))
 .skip))
 (.keep [] [2,3] AA4 a))
def Xk(E:EB)(D:Am)(W:AJ)(p:Bool->Bool->Bool->Bool->Int->Int->Bool->Bool->Bool->Bool->Int->Int->H->AH)(a:V)(b c d e:Bool)(f g:Int)(h i j k:Bool)(l m:Int)(U:H):AH:=
 cB (D 14 [a,sN 1 44] U) λn o=>
 AG n (
 c0 (D 13 [a,sN 3 3026478] o) λn=>
 p b c d e f g h i j true l m n) (
 p b c d e f g h i j k l m o)
def AMS:XC:=(.z (.aQ 34 y7 6 3 y7 2 6 2<|
 .nil)
 .ret)
def Xj(E:EB)(D:Am)(W:AJ)(a b c d:Bool)(e f:Int)(g h i j:Bool)(k l:Int)(U:H):AH:=
 some ((V.agg (eN g h i j k l)),U)
def AKS(E:EB)(D:Am)(W:AJ)(N:Nat):=Xj E D W
def AKT:=Xk E D W (AKS E D W N )
def AKU:=Rf E D W (AKT E D W N )
def F66(c:List V)(U:H):AH:=
 Aj c λa b=>
 BD b (
 Xl E D W (AKU E D W N ) a U)
def A66:Dg:=⟨35,[.any],[(.cell 2 (some 6))],(AMV (AMU (AMT AMS)))⟩
theorem AK6 b U:Bt E D W N A66 b U=F66 E D W N b U:=by kernel_rfl
def Wj:List (Nat × DN):=[(0,.ptr),(1,.ptr)]
def Tw:List Bf:=[⟨(some 49),.mov (.tmp 1),none⟩,⟨(some 50),.mov (.tmp 1),none⟩,⟨(some 51),.nilck (.tmp 50),none⟩,⟨(some 52),.faddr 11 (.tmp 51),none⟩,⟨(some 53),.load none (.tmp 52),none⟩,⟨(some 54),.load (some 3) (.tmp 4),none⟩,⟨(some 55),.buildSlice 88 1 [(V.str ⟨0,0⟩),(V.int .i64 (AA 0)),(V.bool false)] [(0,3,(.tmp 54))],none⟩,⟨(some 56),.append 88 3 32 (.tmp 53) (.tmp 55),none⟩,⟨(some 57),.nilck (.tmp 49),none⟩,⟨(some 58),.faddr 11 (.tmp 57),none⟩,⟨none,.store 1 (.tmp 58) (.tmp 56),none⟩]
def PV:List DP:=[⟨0,[1]⟩,⟨0,[1]⟩,⟨2,[50]⟩,⟨6,[51]⟩,⟨14,[52]⟩,⟨0,[4]⟩,⟨32,[54]⟩,⟨126,[53,55]⟩,⟨255,[49]⟩,⟨511,[57]⟩,⟨1023,[58,56]⟩]
def PY(E:EB):St->AH:=λs=>Dy E s [] λl=>some (Ek l,s.U)
def AIN(c0:XC):Nat->St->AH:=CQ 0 (dX E D W N (.keep [(1,.ptr)] [] [] c0) (PY E) nX (PY E)) nX
def ABj(c0:XC)(a:St->AH):Nat->St->AH:=CQ 1 (kX Wj [] [] a) (AIN E D W N c0)
def zk(b:XC)(a:XC):XC:=(.seq (.block 0 (.loop Wj [] [] a))
 (.keep [(1,.ptr)] [] [] b))
def AIo(E:EB)(D:Am)(W:AJ)(e:Nat->Nat->Nat->Nat->H->AH)(a b c d:Nat)(U:H):AH:=
 e a b c d U
def Pj:XC:=(.z (.aX 62 1 14 .bool<|
 .aL 66 65)
 (.cond (.tmp 66) (.ops (.m 67 1<|
 .aX 68 1 11 .any<|
 .u 72 71<|
 .n 73 67<|
 .aT 74 13 73 1 72))
 .skip))
def Re(E:EB)(D:Am)(W:AJ)(a b:Nat)(U:H):AH:=
 lB E U a (AN b 14) λc=>
 AG (not c) (
 lL E U a (AN b 11) λc=>
 Cg 1 a (AN b 13) (V.int .i64 (AA c)) U λc=>
 r0 c) (
 r0 U)
def gR(b:XC)(a:XC):XC:=(.seq (.z (.m 5 0<|
 .n 6 5<|
 .f 7 7 6<|
 .l 8 .i 7<|
 .cE 9 8 0)
 y58)
 (.block 1 (.seq (.z (.m 10 1<|
 .n 11 10<|
 .aO 12 11 11 .any<|
 .u 14 13<|
 .bQ 15 14 0<|
 .gA 16 true (.p 17 [1,16] M9<|
 .p 18 [17,16] (.nilck (.t 17))<|
 .bD 19 18 16 14 18 16<|
 .cG 21 20 16 20) 22 16 21<|
 .m 23 22<|
 .gA 23 true (.p 24 [0,23] y6<|
 .op (some 25) .bool [24,23] (.call 14 [(.t 24),xX])<|
 .nil) 26 23 25<|
 .nil)
 (.cond (.tmp 26) (.ops (.aD 27 1 1<|
 .aX 29 1 11 .any<|
 .u 33 32<|
 .n 34 27<|
 .bA 35 14 34 1 OK<|
 .n 36 28<|
 .aT 37 13 36 1 33))
 (.z (.m 38 0<|
 .k 39 .str 12 [(.t 38),(.i 2)]<|
 .op (some 40) Z5 [39] (.build [y3,y0,y1] [(0,1,(.t 39))])<|
 .p 4 [] (.alloc 88 [y3,y0,y1])<|
 .op none Z5 [4,40] (.store 3 (.t 4) (.t 40))<|
 .nil)
 (.seq (.z (.cN 41 0 .bool 14 tZ<|
 .nil)
 (.cond (.tmp 42) (.z (.cD 43 0 .i 33<|
 .bA 45 2 4 1 OK<|
 .aT 46 1 4 1 44)
 (.ops (.bH 47 0 Jl 13 tu)))
 .skip))
 (.keep [(0,.ptr),(1,.ptr),(4,.ptr)] [] [] a)))))
 (.keep Wj [] [] b))))
def Rc(E:EB)(D:Am)(W:AJ)(m:Nat->Nat->H->AH)(n:Nat->Nat->Nat->Nat->H->AH)(l:Nat->Nat->Nat->Nat->Nat->Nat->H->AH)(a b c d:Nat)(U:H):AH:=
 lI E U a (AN b 7) λe=>
 AG (Cc e (AA 0)) (
 lL E U c (AN d 11) λe=>
 Ab (λf g=>
 Ab (λh i=>
 AG h (
 lL E i c (AN d 11) λh=>
 Cg 1 c (AN d 14) (V.bool true) i λj=>
 Cg 1 c (AN d 13) (V.int .i64 (AA h)) j λh=>
 n a b c d h) (
 cS (D 12 [.ptr a b,iN 2] i) λh i=>
 let j:=B9 i (.cells [.str ⟨0,0⟩,iN 0,.bool false]);
 Cg 3 (H.next i) 0 (V.agg [.str h,iN 0,.bool false]) j λh=>
 cB (D 14 [.ptr a b,sN 1 40] h) λh j=>
 AG h (
 cI (D 33 [.ptr a b] j) λh k=>
 Cg 1 (H.next i) 2 (V.bool true) k λk=>
 Cg 1 (H.next i) 1 (V.int .i64 h) k λh=>
 c0 (D 13 [.ptr a b,sN 1 41] h) λh=>
 l a b c d (H.next i) 0 h) (
 l a b c d (H.next i) 0 j))) λh=>
 AG f (
 cB (D 14 [.ptr a b,sN 3 3026478] g) λf i=>
 h f i) (
 h false g)) λf=>
 AG (Cw (AA 0) (AA e)) (
 lB E U c (AN d 14) λe=>
 f (not e) U) (
 f false U)) (
 m c d U)
def Ph:XC:=(.z (.cN 59 0 .bool 14 kF<|
 .aL 61 60)
 (.cond (.tmp 61) QU
 .skip))
def Rb(E:EB)(D:Am)(W:AJ)(g:Nat->Nat->H->AH)(h:Nat->Nat->Nat->Nat->H->AH)(a b c d:Nat)(U:H):AH:=
 cB (D 14 [.ptr a b,sN 1 44] U) λe f=>
 AG (not e) (
 g c d f) (
 h a b c d f)
def T7:XC:=(.keep [(0,.ptr),(1,.ptr),(4,.ptr)] [] [] (.gdraw Tw PV Wj))
def dz(E:EB)(D:Am)(W:AJ)(l:Nat->Nat->Nat->Nat->H->AH)(a b c d e f:Nat)(U:H):AH:=
 DZ (W Tw PV [(0,.ptr a b),(1,.ptr c d),(4,.ptr e f)] U) λg h=>
 EO g 0 λi=>
 CM i λi j=>
 EO g 1 λg=>
 CM g λg k=>
 l i j g k h
def X0(a b c d:Nat)(U:H):St:=⟨[(0,.ptr a b),(1,.ptr c d)],[],[],U⟩
def AJD(a b c d e f:Nat)(U:H):St:=⟨[(0,.ptr a b),(1,.ptr c d),(4,.ptr e f)],[],[],U⟩
def zO(E:EB)(D:Am)(W:AJ)(N:Nat):=Re E D W
def fY(a:Nat->Nat->Nat->Nat->H->AH):=Rb E D W (zO E D W N ) a
theorem rF li2:
 (λa b c d U=>A0 E D W N Ph (X0 a b c d U) (kX Wj [] [] li2) (ABj E D W N Pj li2) (PY E))=fY E D W N (λa b c d U=>li2 (X0 a b c d U)):=by
 unfold fY;kernel_rfl
def rq(a:Nat->Nat->Nat->Nat->H->AH):=dz E D W (fY E D W N a)
theorem ADM li2:
 (λa b c d e f U=>A0 E D W N T7 (AJD a b c d e f U) (dX E D W N (.keep Wj [] [] Ph) (kX Wj [] [] li2) (ABj E D W N Pj li2) (PY E)) (ABj E D W N Pj li2) (PY E))=rq E D W N (λa b c d U=>li2 (X0 a b c d U)):=by
 unfold rq;rw[<-rF];generalize Pj=m,Ph=n;revert m n;refine id ?_;intros;kernel_rfl
def X7(n:Nat):Nat->Nat->Nat->Nat->H->AH:=
 Nat.rec (λ_ _ _ _ _=>none) (λ_ a=>Rc E D W (zO E D W N ) (fY E D W N a) (rq E D W N a)) n
theorem ACT n:
 (λa b c d U=>Bw (λj k=>A0 E D W N (gR Ph T7) k (kX Wj [] [] j) (AIN E D W N Pj) (PY E)) n (X0 a b c d U))=X7 E D W N n:=Yn (λli=>by rw[<-rF,<-ADM];generalize Ph=l,T7=m;revert l m;refine id ?_;intros;kernel_rfl) n
def rr:=AIo E D W (X7 E D W N N)
theorem ADN:
 (λa b c d U=>A0 E D W N (zk Pj (gR Ph T7)) (X0 a b c d U) (PY E) nX (PY E))=rr E D W N:=by
 unfold rr;rw[<-ACT];generalize gR Ph T7=k,Pj=l;revert k l;refine id ?_;intros;kernel_rfl
def F67(e:List V)(U:H):AH:=
 uY e λa b c d=>
 rr E D W N a b c d U
def A67:Dg:=⟨75,[.ptr,.ptr],[],(zk Pj (gR Ph T7))⟩
theorem AK5 b U:Bt E D W N A67 b U=F67 E D W N b U:=by
 unfold F67;rw[<-ADN];kernel_rfl
def MT:List (Nat × DN):=[(0,.ptr),(1,.ptr),(2,.i),(6,.i)]
def lY:List (Nat × DN):=[(0,.ptr),(1,.ptr)]
def IE(E:EB):St->AH:=λs=>Dy E s [] λl=>some (Ek l,s.U)
def ABi(c0 b:XC)(a:St->AH):Nat->St->AH:=CQ 2 (dX E D W N (.keep MT [] [] c0) (kX MT [] [] a) (CQ 1 (kX MT [] [] a) (CQ 0 (dX E D W N (.keep lY [] [] b) (IE E) nX (IE E)) nX)) (IE E)) (CQ 1 (kX MT [] [] a) (CQ 0 (dX E D W N (.keep lY [] [] b) (IE E) nX (IE E)) nX))
def AIM(c0 b:XC)(a:St->AH):St->AH:=dX E D W N (.keep MT [] [] c0) (kX MT [] [] a) (CQ 1 (kX MT [] [] a) (CQ 0 (dX E D W N (.keep lY [] [] b) (IE E) nX (IE E)) nX)) (IE E)
def AIL(c0:XC):Nat->St->AH:=CQ 0 (dX E D W N (.keep lY [] [] c0) (IE E) nX (IE E)) nX
def AOs(c0 b a:XC)(c:St->AH):Nat->St->AH:=CQ 3 (dX E D W N (.keep MT [] [] c0) (AIM E D W N b a c) (ABi E D W N b a c) (IE E)) (ABi E D W N b a c)
def zj(b:XC)(a:XC):XC:=(.seq (.z (.m 7 0<|
 .k 8 .bool 14 [(.t 7),ua]<|
 .nil)
 (.cond (.tmp 8) .ret
 .skip))
 (.z (.bV 6 0)
 (.seq (.block 0 (.loop MT [] [] a))
 (.keep lY [] [] b))))
def dy(E:EB)(D:Am)(W:AJ)(h:Nat->Nat->Nat->Nat->Int->Int->H->AH)(a b c d:Nat)(e:Int)(U:H):AH:=
 cB (D 14 [.ptr a b,sN 1 125] U) λf g=>
 AG f (
 r0 g) (
 h a b c d e (AA 0) g)
def Mn:XC:=(.z (.bH 68 0 Jl 13 ua)
 (.z (.aX 70 1 14 .bool<|
 .aL 74 73)
 (.cond (.tmp 74) (.ops (.m 75 1<|
 .aX 76 1 12 .any<|
 .u 80 79<|
 .n 81 75<|
 .aT 82 13 81 1 80))
 .skip)))
def N0(E:EB)(D:Am)(W:AJ)(a b c d:Nat)(U:H):AH:=
 c0 (D 13 [.ptr a b,sN 1 125] U) λe=>
 lB E e c (AN d 14) λf=>
 AG (not f) (
 lL E e c (AN d 12) λf=>
 Cg 1 c (AN d 13) (V.int .i64 (AA f)) e λf=>
 r0 f) (
 r0 e)
def gQ(b:XC)(c:XC)(a:XC):XC:=(.seq (.z (.aX 9 0 7 .i<|
 .cE 13 12 0)
 (.cond (.tmp 13) .skip
 QU))
 (.block 1 (.seq (.block 2 (.z (.aX 19 1 14 .bool<|
 .P 23 (.un .not (.t 22))<|
 .m 24 23<|
 .gA 24 true (.p 25 [0,24] y6<|
 .op (some 26) .bool [25,24] (.call 14 [(.t 25),xX])<|
 .nil) 27 24 26<|
 .m 18 27<|
 .nil)
 (.cond (.tmp 18) (.ops (.aD 28 1 1<|
 .aX 30 1 12 .any<|
 .u 34 33<|
 .n 35 28<|
 .bA 36 14 35 1 OK<|
 .n 37 29<|
 .aT 38 13 37 1 34))
 (.z (.aX 40 1 14 .bool<|
 .m 44 43<|
 .gA 44 true (.p 45 [0,44] y6<|
 .op (some 46) .bool [45,44] (.call 14 [(.t 45),(.con (V.str ⟨2,23387⟩))])<|
 .nil) 47 44 46<|
 .m 39 47<|
 .nil)
 (.cond (.tmp 39) (.z (.aK 48 6 1<|
 .aC 6 49)
 (.seq (.block 3 (.loop MT [] [] a))
 (.keep MT [] [] c)))
 (.ops (.cP 14 0 1 2<|
 .k 17 Jl 81 [(.t 14),(.t 15),(.t 16),(.i 0)]<|
 .nil)))))))
 (.keep MT [] [] b))))
def KG(E:EB)(D:Am)(W:AJ)(m:Nat->Nat->Nat->Nat->H->AH)(l:Nat->Nat->Nat->Nat->Int->Int->H->AH)(n:Nat->Nat->Nat->Nat->Int->Int->H->AH)(a b c d:Nat)(e f:Int)(U:H):AH:=
 lI E U a (AN b 7) λg=>
 AG (Cc g (AA 0)) (
 lB E U c (AN d 14) λg=>
 Ab (λh i=>
 AG h (
 lL E i c (AN d 12) λh=>
 Cg 1 c (AN d 14) (V.bool true) i λj=>
 Cg 1 c (AN d 13) (V.int .i64 (AA h)) j λh=>
 l a b c d e f h) (
 lB E i c (AN d 14) λh=>
 Ab (λj k=>
 AG j (
 n a b c d e (BP .i64 f (AA 1)) k) (
 c0 (D 81 [.ptr a b,.ptr c d,.int .i64 e,iN 0] k) λj=>
 l a b c d e f j)) λj=>
 AG h (
 cB (D 14 [.ptr a b,sN 2 23387] i) λh k=>
 j h k) (
 j false i))) λh=>
 AG (not g) (
 cB (D 14 [.ptr a b,sN 3 3026478] U) λg i=>
 h g i) (
 h false U)) (
 m a b c d U)
def L3:XC:=(.z (.cN 65 0 .bool 14 kF<|
 .aL 67 66)
 (.cond (.tmp 67) QU
 .skip))
def PI(E:EB)(D:Am)(W:AJ)(i:Nat->Nat->Nat->Nat->H->AH)(j:Nat->Nat->Nat->Nat->Int->Int->H->AH)(a b c d:Nat)(e f:Int)(U:H):AH:=
 cB (D 14 [.ptr a b,sN 1 44] U) λg h=>
 AG (not g) (
 i a b c d h) (
 j a b c d e f h)
def Pg:XC:=(.ops (.m 63 0<|
 .k 64 Jl 13 [(.t 63),(.con (V.str ⟨2,23901⟩))]<|
 .nil))
def dw(E:EB)(D:Am)(W:AJ)(h:Nat->Nat->Nat->Nat->Int->Int->H->AH)(a b c d:Nat)(e f:Int)(U:H):AH:=
 c0 (D 13 [.ptr a b,sN 2 23901] U) λg=>
 h a b c d e f g
def T6:XC:=(.seq (.z (.aX 50 0 7 .i<|
 .cE 54 53 0)
 (.cond (.tmp 54) .skip
 (.exit 3)))
 (.block 4 (.z (.aD 55 0 1<|
 .aD 57 2 6<|
 .k 59 Jl 81 [(.t 55),(.t 56),(.t 57),(.t 58)]<|
 .nil)
 (.z (.cN 60 0 .bool 14 kF<|
 .aL 62 61)
 (.cond (.tmp 62) (.exit 3)
 .skip)))))
def PH(E:EB)(D:Am)(W:AJ)(i:Nat->Nat->Nat->Nat->Int->Int->H->AH)(j:Nat->Nat->Nat->Nat->Int->Int->H->AH)(a b c d:Nat)(e f:Int)(U:H):AH:=
 lI E U a (AN b 7) λg=>
 AG (Cc g (AA 0)) (
 c0 (D 81 [.ptr a b,.ptr c d,.int .i64 e,.int .i64 f] U) λg=>
 cB (D 14 [.ptr a b,sN 1 44] g) λg h=>
 AG (not g) (
 i a b c d e f h) (
 j a b c d e f h)) (
 i a b c d e f U)
def AJC(a b c d:Nat)(e:Int)(U:H):St:=⟨[(0,.ptr a b),(1,.ptr c d),(2,.int .i64 e)],[],[],U⟩
def SE(a b c d:Nat)(e f:Int)(U:H):St:=⟨[(0,.ptr a b),(1,.ptr c d),(2,.int .i64 e),(6,.int .i64 f)],[],[],U⟩
def zN(E:EB)(D:Am)(W:AJ)(N:Nat):=N0 E D W
def PS(a:Nat->Nat->Nat->Nat->Int->Int->H->AH):=PI E D W (zN E D W N ) a
theorem rE li2:
 (λa b c d e f U=>A0 E D W N L3 (SE a b c d e f U) (kX MT [] [] li2) (CQ 1 (kX MT [] [] li2) (AIL E D W N Mn)) (IE E))=PS E D W N (λa b c d e f U=>li2 (SE a b c d e f U)):=by
 unfold PS;kernel_rfl
def rl(a:Nat->Nat->Nat->Nat->Int->Int->H->AH):=dw E D W (PS E D W N a)
theorem ADK li2:
 (λa b c d e f U=>A0 E D W N Pg (SE a b c d e f U) (AIM E D W N L3 Mn li2) (ABi E D W N L3 Mn li2) (IE E))=rl E D W N (λa b c d e f U=>li2 (SE a b c d e f U)):=by
 unfold rl;rw[<-rE];generalize Mn=m,L3=n;revert m n;refine id ?_;intros;kernel_rfl
def Th(b:Nat->Nat->Nat->Nat->Int->Int->H->AH)(n:Nat):Nat->Nat->Nat->Nat->Int->Int->H->AH:=
 Nat.rec (λ_ _ _ _ _ _ _=>none) (λ_ a=>PH E D W (rl E D W N b) a) n
theorem ACR li2 n:
 (λa b c d e f U=>Bw (λl q=>A0 E D W N T6 q (kX MT [] [] l) (AOs E D W N Pg L3 Mn li2) (IE E)) n (SE a b c d e f U))=Th E D W N (λa b c d e f U=>li2 (SE a b c d e f U)) n:=lp7 (λli=>by rw[<-ADK];generalize Mn=m,L3=o,Pg=p;revert m o p;refine id ?_;intros;kernel_rfl) n
def Mj(n:Nat):Nat->Nat->Nat->Nat->Int->Int->H->AH:=
 Nat.rec (λ_ _ _ _ _ _ _=>none) (λ_ a=>KG E D W (zN E D W N ) (PS E D W N a) (Th E D W N a N)) n
theorem ACS n:
 (λa b c d e f U=>Bw (λl q=>A0 E D W N (gQ L3 Pg T6) q (kX MT [] [] l) (AIL E D W N Mn) (IE E)) n (SE a b c d e f U))=Mj E D W N n:=lp7 (λli=>by rw[<-rE,<-ACR];generalize L3=m,Pg=o,T6=p;revert m o p;refine id ?_;intros;kernel_rfl) n
def rm:=dy E D W (Mj E D W N N)
theorem ADL:
 (λa b c d e U=>A0 E D W N (zj Mn (gQ L3 Pg T6)) (AJC a b c d e U) (IE E) nX (IE E))=rm E D W N:=by
 unfold rm;rw[<-ACS];generalize gQ L3 Pg T6=l,Mn=m;revert l m;refine id ?_;intros;kernel_rfl
def F68(f:List V)(U:H):AH:=
 uS f λa b c d e=>
 rm E D W N a b c d e U
def A68:Dg:=⟨83,[.ptr,.ptr,.i],[],(zj Mn (gQ L3 Pg T6))⟩
theorem AK4 b U:Bt E D W N A68 b U=F68 E D W N b U:=by
 unfold F68;rw[<-ADL];kernel_rfl
def AHF:List (Nat × DN):=[(0,.any),(1,.str),(5,.i)]
def YW(E:EB):St->AH:=λs=>Dy E s [(.tmp 4)] λl=>some (Ek l,s.U)
def AOq(c0:XC):Nat->St->AH:=CQ 0 (dX E D W N (.keep [] [] [] c0) (YW E) nX (YW E)) nX
def zh(b:XC)(a:XC):XC:=(.z (.aH 4 y1)
 (.seq (.z (.bV 5 0)
 (.block 0 (.loop AHF [] [] a)))
 (.keep [] [] [] b)))
def AIn(E:EB)(D:Am)(W:AJ)(c:V->BS->Int->H->AH)(a:V)(b:BS)(U:H):AH:=
 c a b (AA 0) U
def gM:XC:=(.z (.aH 4 y1)
 .ret)
def Xi(E:EB)(D:Am)(W:AJ)(U:H):AH:=
 rB false U
def gL:XC:=(.seq (.z (.aD 6 5 0<|
 .u 8 7<|
 .aS 9 6 8)
 y58)
 (.seq (.block 1 (.z (.aD 12 0 5<|
 .s 14 1 12 13<|
 .l 15 .str 14<|
 .m 16 1<|
 .b 17 .eql .none (.t 15) (.t 16)<|
 .nil)
 (.cond (.tmp 17) (.z (.aH 4 y9)
 .ret)
 .skip)))
 (.ops (.aK 10 5 1<|
 .m 5 11<|
 .nil))))
def Ra(E:EB)(D:Am)(W:AJ)(f:H->AH)(g:V->BS->Int->H->AH)(a:V)(b:BS)(c:Int)(U:H):AH:=
 BV a λd=>
 AG (Cw c (AA d)) (
 Bl 1 a c λd e=>
 lS E U d e λd=>
 AG (BS.beq d b) (
 rB true U) (
 g a b (BP .i64 c (AA 1)) U)) (
 f U)
def AI9(a:V)(b:BS)(U:H):St:=⟨[(0,a),(1,.str b)],[],[],U⟩
def AI8(a:V)(b:BS)(c:Int)(U:H):St:=⟨[(0,a),(1,.str b),(5,.int .i64 c)],[],[],U⟩
def AKQ(E:EB)(D:Am)(W:AJ)(N:Nat):=Xi E D W
def fP(n:Nat):V->BS->Int->H->AH:=
 Nat.rec (λ_ _ _ _=>none) (λ_ a=>Ra E D W (AKQ E D W N ) a) n
theorem ACP n:
 (λa b c U=>Bw (λe f=>A0 E D W N gL f (kX AHF [] [] e) (AOq E D W N gM) (YW E)) n (AI8 a b c U))=fP E D W N n:=vm (λ_=>by kernel_rfl) n
def rj:=AIn E D W (fP E D W N N)
theorem ADI:
 (λa b U=>A0 E D W N (zh gM gL) (AI9 a b U) (YW E) nX (YW E))=rj E D W N:=by
 unfold rj;rw[<-ACP];generalize gM=i,gL=j;revert i j;refine id ?_;intros;kernel_rfl
def F72(c:List V)(U:H):AH:=
 uQ c λa b=>
 rj E D W N a b U
def A72:Dg:=⟨18,[.any,.str],[(.tmp 4)],(zh gM gL)⟩
theorem AK3 b U:Bt E D W N A72 b U=F72 E D W N b U:=by
 unfold F72;rw[<-ADI];kernel_rfl
def AMP:XC:=(.z (.c 0 V.nils<|
 .nil)
 (.z (.p 1 [] (.buildSlice 9 25 [y3,y3,y3,y3,y3,y3,y3,y3,y3,y3,y3,y3,y3,y3,y3,y3,y3,y3,y3,y3,y3,y3,y3,y3,y3] [(0,1,y49),(1,1,y29),(2,1,y30),(3,1,y53),(4,1,y50),(5,1,y68),(6,1,y79),(7,1,y33),(8,1,y34),(9,1,y25),(10,1,xY),(11,1,y47),(12,1,y61),(13,1,xZ),(14,1,y31),(15,1,y52),(16,1,y40),(17,1,(.con (V.str ⟨2,17999⟩))),(18,1,y54),(19,1,y56),(20,1,y75),(21,1,y80),(22,1,y81),(23,1,y76),(24,1,y70)])<|
 .m 0 1<|
 .nil)
 .ret))
def AIm(E:EB)(D:Am)(W:AJ)(U:H):AH:=
 let a:=B9 U (.cells [sN 11 100710650190388740279911748,sN 8 6073459554577832005,sN 8 6073459554577829193,sN 9 1241215773001651606849,sN 4 1397178708,sN 5 336236856642,sN 3 4476485,sN 7 22026814072246082,sN 7 23157120498421321,sN 10 322399817400452109389381,sN 4 1280070990,sN 5 361940403023,sN 6 78401563153491,sN 10 488440487847103610377301,sN 8 4990918871747741011,sN 3 5522771,sN 6 76155295057987,sN 2 17999,sN 8 5494759122808361039,sN 7 23727827094750532,sN 4 1163544915,sN 3 5130573,sN 3 5783885,sN 4 1163219540,sN 5 297750249798]);
 some ((V.sl (H.next U) 0 25 (.ex 25)),a)
def F73(N:Nat)(a:List V)(U:H):AH:=
 BD a (
 AIm E D W  U)
def A73:Dg:=⟨2,[],[(.tmp 0)],AMP⟩
theorem AK2 b U:Bt E D W N A73 b U=F73 E D W N b U:=by kernel_rfl
end
end Go.Proofs.YtnpcmeaplmfdlaaGreatDoor
